/- Parts of the proof: HwFn7: each statement bears its own conditions. -/
import Derived.Test.YthlhhajnbgjfmaaGreatRcHwFn6
namespace Go.Proofs.YthlhhajnbgjfmaaGreat
open Go Go.Ax Go.Ax.HdH
set_option linter.all false
set_option maxHeartbeats 1000000
set_option maxRecDepth 1000000
variable {f2:Nat->aw Int} {v:X} {q:Nat->al} {a3:X} {N:aR} {gs ag:aa GE} {aM:aR} {y:Nat->aw Int} {dP:Nat->al} {us:aa GE} {aj:Nat} {aC a2:X} {es:aa MapEntry} {az:Type} {enc:az->aa X} {di ef aY w:X} {A:aa Int} {aP:aR} {iA hC:X} {r:Int} {k:Nat} {eR gO ba:X} {len:Int} {d6 dy:Nat} {st:Int} {o:al} {h9 V:Nat}
theorem PQ:bin Q .neq 162 (.agg ⟨[.int .i64 0,.int .i64 0]⟩) (.agg ⟨[.int .i64 0,.int .i64 0]⟩) = .ok (.bool false):=by kernel_rfl
structure rE (g h:ae) (U aI:Nat):Prop where
 s:kU g h
 p:u g aI=none
 n:∀d,U<=d->u g d=none
theorem rE.sub{g h ac:ae}{U aI:Nat}(G:rE g h U aI)(E:∀d,d<U->d≠aI->u ac d=u h d):kU g ac:=λd o B=>by
 have D:d<U:=Er λD=>by rw[G.n d D]at B;grind
 rw[E d D λe=>by rw[e,G.p]at B;grind];exact G.s d o B
structure R0 (c bO:Nat->X) (t:Nat) (st:Int):Prop where
 a:∀n,n<22\/(23<=n/\n<26)\/(33<=n/\n<38)\/41<=n->bO n=c n
 r:bO 26 = (t:X)
 s:bO 27 = (st:X)
 h:∀n,28<=n->n<33->bO n=if t=0 then c n else c (n+5)
 w:bO 38 = .bool false
 b:bO 39 = .bool true
section
variable {s:al} {g b8 h ac:ae} {U Y aI i j:Nat} {c bO:Nat->X} {l:aa ev} {aU:aw Nat} {Z:b5}
def Df(Z:b5)(c:Nat->X)(aI i t b0 cE:Nat)(st:Int)(S:jb)(l:aa ev)(aU:aw Nat)(h:ae)(U:Nat):bP:=λnz ac Y=>nz = .bool true/\∃bO gJ ds B,R0 c bO t st/\bO 40=(if st=0 then .slice none 0 0 else c 40)/\eW ac Y aI bO i 0 Z.C (l++ds) gJ /\
 kB ac U B ds (if st=0 then(List.range Z.C).map (J5 Z i (t+1) (qo Z.k (iu Z.bM Z.N (t / 2)) (t+1) S))else[])/\U<=B/\B<=Y/\(∀b,gJ=some b->aU=some b\/B<=b)/\(st=0->u ac b0=some (.map [] cE))/\(∀d,d<U->d≠aI->(st=0->d≠b0)->aU≠some d->u ac d=u h d)/\U<=Y
theorem auE{a b:X}(B:c 0=a)(D:c 1=b):h0 (some 2) 0 (du c) = .ok (.agg ⟨[a,b]⟩):=by subst B D;rfl
theorem akW{t b0 cE:Nat}{S:jb}{ci:Nat->X}{E:ae}{L:Nat}(K:fV Z)(W:eW E L aI ci i 0 Z.C l aU)(H:j1 E L ci Z i 0)(bb:l.length+Z.C<900)(aj:i<Z.R)(D:R0 c ci t st)(yJ:ci 40=c 40)(ap:ja E L (.agg ⟨[ci 28,ci 29,ci 30,ci 31,ci 32]⟩) (Z.bv i) (Z.H i) S)(ck:t<900)(mn:ci 41 = .map (some b0))(bl:u E b0=some (.map es cE))(yE:b0<U/\b0≠aI/\aU≠some b0)(iY:st=0\/st=1\/st=2)(I:U<=L)(hkp:∀d,d<U->d≠aI->u E d=u h d):
  ((st == 0)=true->aH Q s 232 [bd aI] E L λx62 M P=>Df Z c aI i t b0 cE st S l aU h U (.bool true) M P)/\((st == 0)=false->Df Z c aI i t b0 cE st S l aU h U (.bool true) E L):=by
 have no:st≠0->Df Z c aI i t b0 cE st S l aU h U (.bool true) E L:=λe=>⟨rfl,ci,aU,[],U,D,ab,by rw[hZ];exact W,by rw[if_neg e];trivial,J,I,ab,J,ab,I⟩
 refine⟨λe=>?_,λe=>no ab⟩
 ·obtain rfl:st=0:=ab
  refine(aiO K W H bb aj ap D.r ck mn bl ab).mono ?_;rintro _ bm dH ⟨rfl,bO,cd,ds,B,e40,Mt,g1,aT,hr',bK,wl⟩;refine⟨rfl,bO,some cd,ds,cd,⟨λn bH=>?_,?_,?_,λn h1 ar=>?_,?_,?_⟩,ab,Mt,by rw[if_pos rfl];exact g1.F ab I J,J,by have:=(Mt.aU cd rfl).2;omega,ab,ab,ab,J⟩
  ·rw[B n J J];exact D.a n bH
  ·rw[B 26 J J];exact D.r
  ·rw[B 27 J J];exact D.s
  ·rw[B n J J];exact D.h n h1 ar
  ·rw[B 38 J J];exact D.w
  ·rw[B 39 J J];exact D.b
theorem ahH{t b0 cE:Nat}{S:jb}{f:ev}(K:fV Z)(W:eW h U aI c i 0 Z.C l aU)(G:rE g h U aI)(H:j1 g U c Z i 0)(bb:l.length+Z.C<900)(aj:i<Z.R)(ck:t<900)(ms:f.round=(t:Int))(ez:f.n=st)(iY:st=0\/st=1\/st=2)(ayL:t=0->ja g U (.agg ⟨[c 28,c 29,c 30,c 31,c 32]⟩) (Z.bv i) (Z.H i) S)(E:ja g U (.agg ⟨[c 33,c 34,c 35,c 36,c 37]⟩) (Z.bv i) (Z.H i) S)(DR:c 26 = ((t-1:Nat):X))(L1:c 27 = .int .i64 0)(L2:c 38 = .bool true)(e39:c 39 = .bool (decide (0<t)))(mn:c 41 = .map (some b0))(bl:u h b0=some (.map es cE))(I:b0<U/\b0≠aI/\aU≠some b0):
  aH Q s 137 [bd aI,.agg ⟨d8 f⟩,.agg ⟨[.int .i64 0,.int .i64 0]⟩] h U (Df Z c aI i t b0 cE st S l aU h U):=by
 refine aiH ?_;have cA:=W.lt;have bZ:∀{o aX},aA U h (T (T h U o) (U+1) aX):=aK
 have D:∀{o aX},u (T (T h U o) (U+1) aX) aI=some (.cells (du c) false):=λ{o aX}=>(bZ aI cA).trans W.at_;have gQ:∀{y:Int},((y == y):al)=true:=ab
 have lp:decide (st<0)=false:=ab
 have kH:decide (3<st)=false:=ab
 unfold XM d8;have fin:∀M ci,u M aI=some (.cells (du ci) false)->(∀d,d<U->d≠aI->u M d=u h d)->(∀n,n<22\/n=22->ci n=c n)->R0 c ci t st->ci 40=c 40->ci 41=c 41 ->
   ((st == 0)=true->aH Q s 232 [bd aI] M (U+2) λx62 h63 n64=>Df Z c aI i t b0 cE st S l aU h U (.bool true) h63 n64)/\((st == 0)=false->Df Z c aI i t b0 cE st S l aU h U (.bool true) M (U+2)):=λM ci bk hk aZ L yJ h41=>by
  refine akW K (W.set  bk ab ab ab ab (λb e=>by have:=W.aU b e;grind) J) (((H.set ab).F  aK J).sub (G.sub hk)) bb aj L yJ (hf.sub (hf.F (U:=U)  (h:=g) ?_ aK J) (G.sub hk)) ck ab ((hk b0 I.1 I.2.1).trans bl) I iY J hk;rw[L.h 28 J J,L.h 29 J J,L.h 30 J J,L.h 31 J J,L.h 32 J J]
  by_cases P:t=0
  ·simp only[if_pos P];exact ayL P
  ·simp only[if_neg P];exact E
 by_cases P:t=0
 ·subst P;have nx:(((0:Nat):Int) == 0)=true:=rfl
  replace ms:f.round=0:=ms
  simp(disch:=omega)only[bn,hH,D,e39,show decide (0<0)=false from rfl,seval];unfold IJ;simp(disch:=omega)only[bn,hH,D,W.c1,nx,PQ,L2,L1,ms,ez,lp,gQ,seval];refine λ_=>?_;rw[kH];unfold vE;refine Gj @D ?_;unfold II;refine aF ?_;refine λ_=>fin _ (g9 (g9 (g9 c 38 (.bool false)) 39 (.bool true)) 27 (st:X)) ab ab (λn bH=>?_) ⟨λn bH=>?_,?_,?_,λn h1 ar=>?_,?_,?_⟩ rfl rfl
  ·rw[dF J,dF J,dF J]
  ·rw[dF J,dF J,dF J]
  ·rw[dF J,dF J,dF J];omega
  ·rfl
  ·rw[dF J,dF J,dF J,if_pos rfl]
  ·rfl
  ·rfl
 ·obtain⟨B,rfl⟩:∃B,t=B+1:=⟨t-1,J⟩
  have bp:decide (0<B+1)=true:=ab
  have UZ:IntKind.wrap .i64 ((B:Int)+1)=((B+1:Nat):Int):=cG J;have R1:c 26 = (B:X):=DR;have nx:(((0:Nat):Int) == 0)=true:=rfl;have aB5:(st == 3)=false:=ab
  have Rv:(0:Int)<((B+1:Nat):Int):=J
  refine Kr @D @e39 @bp @R1 @UZ ?_;unfold IJ;simp(disch:=omega)only[bn,hH,D,W.c1,nx,PQ,L2,L1,ms,ez,lp,gQ,seval];rw[kH];unfold vE;refine xX @D @Rv @aB5 ?_;unfold II;have Ll:(gS (c 33)&&(gS (c 34)&&(gS (c 35)&&(gS (c 36)&&gS (c 37)))))=true:=by obtain⟨dp,fB,fg,gZ,fK,ha,ge⟩:=E;obtain⟨fF,fr,rfl,_⟩:=id fK;obtain⟨gj,fG,rfl,_⟩:=id ha;obtain⟨mu,hW,rfl,_⟩:=id ge;simp only[Value.agg.injEq,xl,vz,ia]at gZ;obtain⟨G6,DC,LY,a36,a37⟩:=gZ;rw[G6,DC,LY,a36,a37];rfl
  refine Gj @Ll ?_;refine⟨fin _ (g9 (nc (g9 (g9 (g9 c 38 (.bool false)) 39 (.bool true)) 27 (st:X)) 28 [c 33,c 34,c 35,c 36,c 37]) 26 (((B+1:Nat):X))) ab ab (λn bH=>?_) ⟨λn bH=>?_,rfl,rfl,λn h1 ar=>?_,rfl,rfl⟩ rfl rfl,λh=>absurd trivial h⟩
  ·rw[dF J,s9 J,dF J,dF J,dF J]
  ·rw[dF J,s9 ab,dF J,dF J,dF J]
  ·rw[if_neg J];rcases(by omega:n=28\/n=29\/n=30\/n=31\/n=32)with rfl|rfl|rfl|rfl|rfl <;> rfl
end
theorem aiP{n:Nat}{eb:Nat->aw Int}:(bj n eb).filter (λp=>q p.1)=bj n λk=>if q k=true then eb k else none:=by
 induction n with
 |zero=>rfl
 |succ n B =>
  rw[tc,tc,t6,B]
  grind
def ts(k:Int)(a7:Nat->Int)(t:Nat)(r:Int)(S:jb)(f2:Nat->aw Int):jb where
 A v:=(kg k a7 t S v (qi r (if sa k S v=true then f2 v else none))).1
 B v:=(kg k a7 t S v (qi r (if sa k S v=true then f2 v else none))).2.1
 q v:=(kg k a7 t S v (qi r (if sa k S v=true then f2 v else none))).2.2
theorem zV.F{h ac:ae}{ao U Y:Nat}{w:X}{o:al}{n:Nat}{q:Nat->al}(H:zV h ao U w o n q)(D:∀d,ao<=d->d<U->u ac d=u h d)(B:U<=Y):zV ac ao Y w o n q:=by
 rcases H with H|⟨e,H⟩
 ·exact .inl H
 ·exact .inr ⟨e,eH.F H D J B⟩
section
variable {s:al} {g b8 h ac:ae} {U Y aI i j:Nat} {c bO:Nat->X} {l:aa ev} {aU so:aw Nat} {Z:b5}
theorem aoy{ao:Nat}{p:Nat × Int}{B D n:Nat}(bH:n<=60)(hs:zV h ao U w o n q)(h1:u h B=some (.cells [w] false))(L:u h D=some (.cells [.bool o] false))(dE:B<U)(b4:D<U)(M:p.1<n):
  aH Q s 333 [.agg ⟨eL p⟩,bd B,bd D] h U (dC (.bool (!q p.1)) U h):=by
 refine ahF ?_;have E:∀{o},aA U h (T h U o):=aK
 have P:∀{o},u (T h U o) B=some (.cells [w] false):=ab
 have K:∀{aX},u (T h U aX) D=some (.cells [.bool o] false):=ab
 have I:=L;unfold WB;rw[show eL p=[(p.1:X),.int .i64 (p.2 / 18446744073709551616),.int .u64 (p.2 % 18446744073709551616)]from rfl];refine bg @P ?_;rcases hs with⟨rfl,rfl,cM⟩|⟨rfl,bV⟩
 ·refine(PM ).fR ⟨J,?_⟩;simp(disch:=omega)only[bn,K,I,iD,seval];exact⟨ab,E,J⟩
 ·refine(J4   J M (cN.F bV.rd  E J)).fR ⟨J,?_⟩;simp(disch:=omega)only[bn,K,I,iD,seval];exact⟨by cases q p.1 <;> rfl,E,J⟩
theorem rE.R2(G:rE g h U aI)(I:∀b,so=some b->u g b=none)(E:∀d,d<U->d≠aI->so≠some d->u ac d=u h d):kU g ac:=λd o B=>by
 have D:d<U:=Er λD=>by rw[G.n d D]at B;grind
 rw[E d D (λe=>by rw[e,G.p]at B;grind) ab];exact G.s d o B
theorem ahI{t:Nat}{S:jb}(K:fV Z)(W:eW h U aI c i 0 Z.C l aU)(G:rE g h U aI)(H:j1 g U c Z i 0)(bb:l.length<900)(aj:i<Z.R)(D:1<=t)(ck:t<900)(ap:ja g U (.agg ⟨[c 28,c 29,c 30,c 31,c 32]⟩) (Z.bv i) (Z.H i) S)(bl:mQ h (c 40) (bj (Z.H i) λk=>f2 (Z.bv i+k)) so)(me:∀b,so=some b->b<U/\b≠aI/\aU≠some b/\u g b=none)(vr:∀v y,f2 v=some y->0<=y/\y<=er):
  aH Q s 230 [bd aI,(t:X)] h U (λnz ac Y=>nz = .tuple ⟨[]⟩/\∃bO cd,(∀n,n≠22->n≠38->n≠40->(n<33\/38<=n)->bO n=c n)/\bO 38 = .bool true/\bO 40 = .slice none 0 0 /\
   lF ac U cd (.agg ⟨[bO 33,bO 34,bO 35,bO 36,bO 37]⟩) (Z.bv i:Int) ((Z.bv i+Z.H i:Nat):Int) (Z.H i) (cz (Z.H i) λk=>(ts Z.k (iu Z.bM Z.N ((t-1) / 2)) t (fb Z.k t) S f2).A (Z.bv i+k)) (cz (Z.H i) λk=>(ts Z.k (iu Z.bM Z.N ((t-1) / 2)) t (fb Z.k t) S f2).B (Z.bv i+k)) (λk=>(ts Z.k (iu Z.bM Z.N ((t-1) / 2)) t (fb Z.k t) S f2).q (Z.bv i+k)) /\
   eW ac Y aI bO i 0 Z.C (l++[Cx ((i*Z.C+0:Nat):Int) t (ql Z.k Z.len t (Z.H i) (cz (Z.H i) λk=>(ts Z.k (iu Z.bM Z.N ((t-1) / 2)) t (fb Z.k t) S f2).A (Z.bv i+k)) (λk=>(ts Z.k (iu Z.bM Z.N ((t-1) / 2)) t (fb Z.k t) S f2).q (Z.bv i+k)):Int) false]) (some cd)/\U<=cd /\
   (∀d,d<U->d≠aI->aU≠some d->so≠some d->u ac d=u h d)/\U<=Y):=by
 refine aiJ ?_;generalize TP:ts Z.k (iu Z.bM Z.N ((t-1) / 2)) t (fb Z.k t) S f2=jB;have cA:=W.lt;have nY:=ap;obtain⟨dp,fB,fg,gZ,fK,ha,ge⟩:=ap;obtain⟨fF,fr,rfl,_⟩:=id fK;obtain⟨gj,fG,rfl,_⟩:=id ha;obtain⟨mu,hW,rfl,_⟩:=id ge;simp only[Value.agg.injEq,xl,vz,ia]at gZ;obtain⟨M,P,tL,iz,ga⟩:=gZ;rw[M,P,tL,iz,ga]at nY;obtain⟨a8,gM,mV,_⟩:=id H.d;have gL:=H.kS K;rw[mV]at gL;have yw:=xY K i;have tI:Z.bv i+Z.H i<=Z.N:=by unfold b5.H;omega
 have hPd:pi h U (.slice a8 Z.bM.length gM) Z.k Z.src Z.len Z.N Z.bM:={ gL with d:=uJ gL.d G.s }
 have hsh:=hf.sub nY G.s;obtain⟨am,H5,n4,em⟩:∃a n bO,c 40 = .slice a n bO:=by rcases bl with⟨_,e,_⟩|⟨_,_,e,_⟩ <;> grind
 unfold XN;simp(disch:=omega)only[bn,hH,W.at_,H.aP,H.ch,H.e6,H.gz,mV,M,P,tL,iz,ga,seval];refine(akK hPd hsh tI).mono ?_;rintro _ B I ⟨w,o,rfl,hs,ei,eZ⟩;refine⟨eZ,?_⟩;obtain⟨gy,gr,ny,rfl⟩:∃a n bO,w = .slice a n bO:=by
  rcases hs with⟨_,e,_⟩|⟨_,bV⟩
  ·grind
  ·obtain⟨a,bO,e,_⟩:=bV
   grind
 have db:u B aI=some (.cells (du c) false):=(ei aI cA).trans W.at_;refine uI @db @em ?_;rw[em]at bl;have eA:∀{eX dO fZ lr},aA U h (T (T (T (T B I eX) (I+1) dO) I fZ) (I+1) lr):=aK
 have TQ:∀{eX dO fZ lr},mQ (T (T (T (T B I eX) (I+1) dO) I fZ) (I+1) lr) (.slice am H5 n4) (bj (Z.H i) λk=>f2 (Z.bv i+k)) so:=bl.F λb e=>eA b ab;have fW:=l3 (Z.H i) λk=>f2 (Z.bv i+k);have fJ:=agr K i;refine(aoq (q:=λp=>!sa Z.k S (Z.bv i+p.1)) J TQ ab λp bk ac Y hk dR=>?_).mono ?_
 ·have cn:∀d,d<I+2->U<=d->u ac d=u _ d:=λd D B=>hk d D λe=>ab
  have yq:p.1<Z.H i:=((jO  ).1 bk).1;have bB:=cn I J J;rw[aq J,aS]at bB;have g2:=cn (I+1) J J;rw[aS]at g2;exact aoy  J (zV.F hs ab J) bB g2 J J yq
 rintro eR L bS ⟨dI,e8,gA⟩;have pV:((bj (Z.H i) λk=>f2 (Z.bv i+k)).filter λp=>!!sa Z.k S (Z.bv i+p.1))=bj (Z.H i) λk=>if sa Z.k S (Z.bv i+k)=true then f2 (Z.bv i+k)else none:=by simp only[Bool.not_not];exact aiP (q:=λk=>sa Z.k S (Z.bv i+k))
 rw[pV]at dI;have i3:u L aI=some (.cells (du c) false):=ab
 simp(disch:=omega)only[bn,hH,i3,H.aP,M,P,tL,iz,ga,seval];obtain⟨hF,DP⟩:∃hF,nc (g9 c 40 (.slice none 0 0)) 33 [.int .i64 (Z.bv i:Int),((Z.bv i+Z.H i:Nat):X),.slice fF (cz (Z.H i) λj=>S.A (Z.bv i+j)).length fr,.slice gj (cz (Z.H i) λj=>S.B (Z.bv i+j)).length fG,.slice mu (eS (Z.H i) λj=>S.q (Z.bv i+j)).length hW]=hF:=⟨_,rfl⟩
 have mr:∀n,n<33->hF n=c n:=λn bH=>by rw[<-DP,s9 J,dF J]
 rw[DP,mr 2 J,H.aP];refine(OH  K.hD J).fR ⟨cD _,?_⟩;simp(disch:=omega)only[bn,hH,mr 11 J,H.c11,seval];have hY':∀k y,(if sa Z.k S (Z.bv i+k)=true then f2 (Z.bv i+k)else none)=some y->0<=y/\y<=er:=λk y e=>ab
 refine(aoa (PP K.hD) J (((dI.F   (λb e=>ab) λ_ e=>e).c λb e=>ab).o) hY').mono ?_;rintro _ b3 fT ⟨w,rfl,lz,hq,oJ⟩;refine⟨oJ,?_⟩;have hV0:=lz;obtain⟨UQ,rfl,hvi⟩:=lz;obtain⟨cC,k1,rfl,_⟩:=id hvi;have aB6:∀{o},u (T b3 fT o) aI=some (.cells (du hF) false):=λ{o}=>by rw[aq J,hq aI J,aS]
 have nx:bin Q .neq 30 (.int .i64 0) (.int .i64 0) = .ok (.bool false):=rfl;have jl:bin Q .eql 30 (.int .i64 0) (.int .i64 0) = .ok (.bool true):=rfl;simp(disch:=omega)only[bn,hH,aB6,mr,H.aP,H.ch,H.e6,H.gz,mV,M,P,tL,iz,ga,nx,jl,seval];have pU:∀{o aX} d,d<U->d≠aI->so≠some d->u (T (T b3 fT o) fT aX) d=u h d:=λ{o aX} d D B L=>by rw[aq J,aq J,hq d J,aq B,aq B,e8 d J L];exact eA d D
 have aAP:∀{o aX},kU g (T (T b3 fT o) fT aX):=λ{o aX}=>G.R2 (λb e=>(me b e).2.2.2) pU;refine(aiC    (pi.F  { gL with d:=uJ gL.d aAP } (aA.refl _ _) J) (hf.F  (hf.sub nY aAP) (aA.refl _ _) J) ((hV0.F   (λb D B=>ab) J J).is) tI D J).mono ?_;rintro UV eE n7 ⟨Ed,hk7,uP⟩
 replace Ed:lF eE (fT+1) n7 UV (Z.bv i:Int) ((Z.bv i+Z.H i:Nat):Int) (Z.H i) (cz (Z.H i) λk=>jB.A (Z.bv i+k)) (cz (Z.H i) λk=>jB.B (Z.bv i+k)) (λk=>jB.q (Z.bv i+k)):=by subst TP;exact Ed
 have hU0:=Ed;obtain⟨aCU,aCV,aCW,rfl,aB7,aB8,aB9⟩:=Ed;obtain⟨Uy,aV,rfl,_⟩:=id aB7;obtain⟨D6,aP,rfl,_⟩:=id aB8;obtain⟨yR,ch,rfl,_⟩:=id aB9;have aCa:u eE aI=some (.cells (du hF) false):=(hk7 aI J).trans ab;have aCb:∀d,d<U->d≠aI->so≠some d->u eE d=u h d:=λd D B L=>(hk7 d J).trans (pU d D B L);refine Gj @aCa ?_;obtain⟨i2,E⟩:∃i2,nc hF 33 [.int .i64 (Z.bv i:Int),((Z.bv i+Z.H i:Nat):X),.slice Uy (cz (Z.H i) λk=>jB.A (Z.bv i+k)).length aV,.slice D6 (cz (Z.H i) λk=>jB.B (Z.bv i+k)).length aP,.slice yR (eS (Z.H i) λk=>jB.q (Z.bv i+k)).length ch]=i2:=⟨_,rfl⟩
 rw[E];have vt:∀n,(n<33\/38<=n)->n≠40->i2 n=c n:=λn bH au=>by rw[<-E,s9 bH,<-DP,s9 bH,dF au]
 have Mu:∀{o} d,d<U->d≠aI->so≠some d->u (T eE aI o) d=u h d:=λ{o} d D B L=>(aq B).trans (aCb d D B L);have aCc:∀{o},kU g (T eE aI o):=λ{o}=>G.R2 (λb e=>(me b e).2.2.2) Mu;refine⟨J,(WE (S:=jB) (low:=Z.bv i) (m:=Z.H i) (W.set (Y:=n7) (aS _ _ _) (vt 0 J J) (vt 1 J J) (vt 8 J J) (vt 22 J J) (λb e=>by have:=W.aU b e;grind) J) bb (pi.F (Y:=n7) (eR:=i2 6) { gL with d:=?_ } (aA.refl _ _) J) ((vt 2 J J).trans H.aP) ((vt 3 J J).trans H.ch) ((vt 4 J J).trans H.e6) ((vt 5 J J).trans H.gz) ?_ tI).mono ?_⟩
 ·rw[vt 6 J J,mV];exact cN.F (uJ gL.d aCc) (aA.refl _ _) J
 ·rw[<-E];exact(hU0.wid (d6:=0) (dy:=n7) (λd D B=>aq J) J (cD _)).rd
 rintro _ rP n8 ⟨rfl,dN,cd,U0,hh,A0,ags⟩;refine⟨_,cd,λn D B L bm=>?_,?_,?_,?_,U0,J,λd D B L bm=>(A0 d J B L).trans (Mu d D B bm),J⟩
 ·rw[dF D,dF B];grind
 ·rfl
 ·rw[dF J,dF J,<-E,s9 (by simp),<-DP,s9 (by simp)];rfl
 ·rw[dF J,dF J,dF J,dF J,dF J,dF J,dF J,dF J,dF J,dF J,<-E];exact hU0.wid (λd D B=>by rw[A0 d B J (λe=>by have:=W.aU d e;omega),aq J]) J hh
end
theorem JQ{n:Nat}(v:Nat):jJ r (bj n f2) v=if v<n then f2 v else none:=by
 have h:=λx=>Qe (r:=r)  (xN n f2) v x;cases B:jJ r (bj n f2) v with
 |none =>
  split
  ·cases D:f2 v with
   |none=>rfl
   |some y =>
    have:=(h y).2 (jO.2 ab)
    grind
  ·rfl
 |some x =>
  have:=jO.1 ((h x).1 B)
  grind
theorem asb{n:Nat}{D:aa (Nat × Int)}(M:yx r D [] λv=>jJ r (bj n f2++bj n y) v):D=bj n λv=>eY r (f2 v) (y v):=by rw[M.done (n:=n) λv B=>by rw[xF,JQ,JQ,if_neg J,if_neg J];rfl];refine xE λv B=>?_;rw[xF,JQ,JQ,if_pos B,if_pos B]
theorem iB.Mv{l:aa az}{h:ae}{ao:Nat}(B:0<k)(I:∀x,(enc x).length=k)(H:iB h ao aj v enc k l):mm h aj v enc k l:=by
 rcases H with⟨rfl,rfl|⟨b,rfl⟩⟩|⟨b,K,D,rfl,E⟩
 ·exact⟨_,_,rfl,λh=>absurd rfl h⟩
 ·exact⟨_,_,rfl,λh=>absurd rfl h⟩
 ·exact d5.c B I (.inr ⟨b,K,D,rfl,E⟩)
theorem d5.aCd{h:ae}{ao:Nat}{L:aa (Nat × Int)}(H:d5 h v eL 3 L ao aj):∃so,mQ h v L so/\∀b,so=some b->ao<=b/\b<aj:=by
 rcases H with⟨rfl,rfl⟩|⟨b,E,D,rfl,B⟩
 ·exact⟨none,.inl ab,ab⟩
 ·exact⟨some b,.inr ⟨b,rfl,rfl,B⟩,ab⟩
theorem nm:vN Q 3=true:=by kernel_rfl
theorem ayM:bin Q .neq 86 (.int .i64 0) (.int .i64 0) = .ok (.bool false):=by kernel_rfl
def GaK(Z:b5)(c:Nat->X)(aI i t b0 h9:Nat)(S:jb)(f2 y:Nat->aw Int)(dP:Nat->al)(l:aa ev)(aU:aw Nat)(h:ae)(U:Nat):bP:=λnz ac Y=>nz = .bool true/\∃bO gJ rF ds,iy ac b0 Z.C (λk=>if k=h9 then true else dP k) (λ_ v=>v = .bool true)/\U<=Y/\(∀d,d<U->d≠aI->d≠b0->aU≠some d->u ac d=u h d) /\
   eW ac Y aI bO i 0 Z.C (l++ds) gJ/\(∀b,rF=some b->U<=b/\b<Y/\gJ≠some b) /\
   ((∃k,k<Z.C/\(if k=h9 then true else dP k)=false)/\(∀n,n≠40->bO n=c n)/\ds=[]/\gJ=aU/\mQ ac (bO 40) (bj (Z.H i) λk=>eY (fb Z.k t) (f2 (Z.bv i+k)) (y (Z.bv i+k))) rF \/
   (∀k,k<Z.C->(if k=h9 then true else dP k)=true)/\(∀n,n≠22->n≠38->n≠40->(n<33\/38<=n)->bO n=c n)/\bO 38 = .bool true/\bO 40 = .slice none 0 0/\rF=none/\∃cd jB,gJ=some cd/\jB=ts Z.k (iu Z.bM Z.N ((t-1) / 2)) t (fb Z.k t) S (λv=>eY (fb Z.k t) (f2 v) (y v))/\U<=cd /\
    lF ac U cd (.agg ⟨[bO 33,bO 34,bO 35,bO 36,bO 37]⟩) (Z.bv i:Int) ((Z.bv i+Z.H i:Nat):Int) (Z.H i) (cz (Z.H i) λk=>jB.A (Z.bv i+k)) (cz (Z.H i) λk=>jB.B (Z.bv i+k)) (λk=>jB.q (Z.bv i+k)) /\
    ds=[Cx ((i*Z.C+0:Nat):Int) t (ql Z.k Z.len t (Z.H i) (cz (Z.H i) λk=>jB.A (Z.bv i+k)) (λk=>jB.q (Z.bv i+k)):Int) false])
section
variable {s:al} {g b8 h ac:ae} {U Y aI i j ao:Nat} {c bO:Nat->X} {l:aa ev} {aU so:aw Nat} {Z:b5}
theorem ahJ{f:ev}{p:ku}{t b0:Nat}{S:jb}(K:fV Z)(W:eW h U aI c i 0 Z.C l aU)(G:rE g h U aI)(H:j1 g U c Z i 0)(bb:l.length<900)(aj:i<Z.R)(E:1<=t)(ck:t<900)(bK:lo h ao U f p)(ms:p.round=(t:Int))(gF:p.nw=bj (Z.H i) λk=>y (Z.bv i+k))(vr:∀v x,f2 v=some x->0<=x/\x<=er)(ce:∀v x,y v=some x->0<=x/\x<=er)(cZ:∀v x,eY (fb Z.k t) (f2 v) (y v)=some x->0<=x/\x<=er)(ap:ja g U (.agg ⟨[c 28,c 29,c 30,c 31,c 32]⟩) (Z.bv i) (Z.H i) S)(bl:mQ h (c 40) (bj (Z.H i) λk=>f2 (Z.bv i+k)) so)(me:∀b,so=some b->b<U/\b≠aI/\aU≠some b)(DR:c 26 = ((t-1:Nat):X))(L1:c 27 = .int .i64 0)(L2:c 38 = .bool false)(mn:c 41 = .map (some b0))(hV:iy h b0 Z.C dP λ_ v=>v = .bool true)(L:b0<U/\b0≠aI/\aU≠some b0/\u g b0=none)(b1:h9<Z.C)(ht:dP h9=false):
  aH Q s 135 [bd aI,.agg ⟨d8 f⟩,.agg ⟨[(i:X),(h9:X)]⟩] h U (GaK Z c aI i t b0 h9 S f2 y dP l aU h U):=by
 refine aiG ?_;have cA:=W.lt;obtain⟨D,rfl⟩:∃D,t=D+1:=⟨t-1,J⟩
 have bZ:∀{o aX},aA U h (T (T h U o) (U+1) aX):=aK
 have oS:∀{o aX},u (T (T h U o) (U+1) aX) aI=some (.cells (du c) false):=λ{o aX}=>(bZ aI cA).trans W.at_;have UZ:IntKind.wrap .i64 ((D:Int)+1)=((D+1:Nat):Int):=cG J;have R1:c 26 = (D:X):=DR;have nx:(((0:Nat):Int) == 0)=true:=rfl;have gQ:∀{y:Int},((y == y):al)=true:=ab
 have fJ:=agr K i;have TR:f.round=((D+1:Nat):Int):=bK.is.round.trans ms;have G7:∀{o aX},iy (T (T h U o) (U+1) aX) b0 Z.C dP λ_ v=>v = .bool true:=λ{o aX}=>hV.F ab ab;have A1:∀{o aX},jR Q (T (T h U o) (U+1) aX) 3 (.bool false) false (.map (some b0)) (h9:X) = .ok (.bool false):=λ{o aX}=>by obtain⟨v,e,_⟩:=(G7  ).get nm b1;rw[ht]at e;exact e
 unfold XK d8;simp(disch:=omega)only[bn,hH,oS,W.o2,W.c1,nx,gQ,L1,ayM,L2,TR,R1,UZ,mn,A1,seval];have eE:=bK.i2;rw[gF]at eE;have fW:=l3 (Z.H i) λk=>y (Z.bv i+k);have azK:=l3 (Z.H i) λk=>f2 (Z.bv i+k);refine(aiN  oS J H.c11 ((mm.o (iB.Mv (k:=3) J (λ_=>rfl) eE)).F  bZ J) J (xN _ _) λq cM=>((jO  ).1 cM).1).cn λI bX ei eZ=>⟨eZ,?_⟩
 have db:=(ei aI J).trans oS;have g0:=(ei U J).trans ((aq J).trans (aS _ _ _));have dt:=(ei (U+1) J).trans (aS _ _ _);unfold xr;refine zW @db @g0 @dt H.aP ?_;refine(OH  K.hD J).fR ⟨J,?_⟩;obtain⟨am,H5,n4,em⟩:∃a n bO,c 40 = .slice a n bO:=by rcases bl with⟨_,e,_⟩|⟨_,_,e,_⟩ <;> grind
 refine zW @db @g0 @dt @em ?_;rw[em]at bl;have TS:∀{o},aA U h (T I bX o):=aK
 have hLs:Ag (T I bX (.cells [.slice am H5 n4,.slice f.ba f.n7 f.i2] false)) (bX+1) (.slice (some ⟨bX,0,none⟩) 2 2) [(.slice am H5 n4,bj (Z.H i) λk=>f2 (Z.bv i+k)),(.slice f.ba f.n7 f.i2,bj (Z.H i) λk=>y (Z.bv i+k))]:=by
  refine⟨cN.o  ab ⟨_,_,rfl,λ_=>⟨bX,none,false,J,rfl,aS _ _ _⟩⟩,λq cM=>?_⟩;rcases g5.1 cM with rfl|cM
  ·exact⟨mm.F (bl.b.c ab) TS J,xN _ _,ab,λa cY=>vr _ _ ((jO  ).1 cY).2⟩
  ·rw[iP.1 cM];exact⟨mm.F (iB.Mv  J (λ_=>rfl) eE) TS J,xN _ _,ab,λa cY=>ce _ _ ((jO  ).1 cY).2⟩
 have aCe:q9 [(Value.slice am H5 n4,bj (Z.H i) λk=>f2 (Z.bv i+k)),(Value.slice f.ba f.n7 f.i2,bj (Z.H i) λk=>y (Z.bv i+k))]=(bj (Z.H i) λk=>f2 (Z.bv i+k))++bj (Z.H i) λk=>y (Z.bv i+k):=by
  show _++(_++[])=_
  grind
 refine(XH (PP K.hD) (by simp) hLs ab).mono ?_;rintro _ B bS ⟨w,fx,rfl,bV,yI,P,gA⟩;refine⟨J,?_⟩;rw[aCe]at yI;rw[asb yI]at bV;obtain⟨rF,j5,R3⟩:=d5.aCd bV;obtain⟨gy,gr,ny,rfl⟩:∃a n bO,w = .slice a n bO:=by rcases j5 with⟨_,e,_⟩|⟨_,_,e,_⟩ <;> grind
 have fI:aA U h B:=TS.trans P J;have i3:=(P aI J).trans ((aq J).trans db);have gb:=(P U J).trans ((aq J).trans g0);have eo:=(P (U+1) J).trans ((aq J).trans dt);have r0':∀{o},u (T B aI o) U=_:=λ{o}=>(aq J).trans gb;have r1':∀{o},u (T B aI o) (U+1)=_:=λ{o}=>(aq J).trans eo;obtain⟨o,gv,eU⟩:=(hV.F (ac:=T B aI (.cells (du (g9 c 40 (.slice gy gr ny))) false)) ((aq L.2.1).trans (fI b0 L.1)) λ_ _ h=>h).put  nm b1 ht rfl;have M:=eU (T (T B aI (.cells (du (g9 c 40 (.slice gy gr ny))) false)) b0 o) (aS _ _ _);obtain⟨m,aV,aP,ch⟩:=M.len;have ns:u (T (T B aI (.cells (du (g9 c 40 (.slice gy gr ny))) false)) b0 o) aI=some (.cells (du (g9 c 40 (.slice gy gr ny))) false):=(aq (λe=>L.2.1 e.symm)).trans (aS _ _ _);have nC:u (T (T B aI (.cells (du (g9 c 40 (.slice gy gr ny))) false)) b0 o) U=_:=(aq J).trans r0';rw[show hO h9 = (h9:X)from rfl]at gv;simp(disch:=omega)only[bn,hH,i3,r1',mn,gv,ns,aV,W.g3,nC,seval];generalize L3:T (T B aI _) b0 o=h8 at M ns nC ⊢;have pU:∀d,d<U->d≠aI->d≠b0->u h8 d=u h d:=λd E I B=>by rw[<-L3,aq B,aq I];exact fI d E
 have aAQ:eW h8 bS aI (g9 c 40 (.slice gy gr ny)) i 0 Z.C l aU:=W.set ns (dF J) (dF J) (dF J) (dF J) (λb e=>by have:=W.aU b e;grind) J;have hO5:mQ h8 (.slice gy gr ny) (bj (Z.H i) λk=>eY (fb Z.k (D+1)) (f2 (Z.bv i+k)) (y (Z.bv i+k))) rF:=j5.F λb e=>ab
 refine⟨λe=>?_,λe=>?_⟩
 ·have nb:∀k,k<Z.C->(if k=h9 then true else dP k)=true:=λk hk=>ab
  refine(ahI  (f2:=λv=>eY (fb Z.k (D+1)) (f2 v) (y v))  K aAQ ⟨λd o bp=>?_,G.p,λd bp=>G.n d J⟩ ((H.set λn E I=>dF J).F  (aA.refl _ _) J) bb aj E ck (hf.F ap (aA.refl _ _) J) hO5 (λb e=>?_) cZ).mono ?_
  ·have E:d<U:=Er λE=>by rw[G.n d E]at bp;grind
   rw[pU d E (λe=>by rw[e,G.p]at bp;grind) λe=>by grind];exact G.s d o bp
  ·have:=R3 b e;exact⟨this.2,J,λd3=>by have:=W.aU b d3;omega,G.n b J⟩
  rintro _ cF n6 ⟨rfl,bO,cd,K5,h38,yJ,dI,jy,hh,lh,dR⟩;refine⟨rfl,bO,some cd,none,_,M.F (lh b0 J L.2.1 L.2.2.1 λe=>ab) λ_ _ h=>h,J,λd E I B bm=>(lh d J I bm λe=>ab).trans (pU d E I B),jy,(nofun),.inr ⟨nb,λn E I B bm=>(K5 n E I B bm).trans (dF B),h38,yJ,rfl,cd,_,rfl,rfl,J,dI.wid (λ_ _ _=>rfl) J (cD _),rfl⟩⟩
 ·have e0:=rS.1 e;refine⟨rfl,_,aU,rF,[],M,J,λd E I B _=>pU d E I B,by rw[hZ];exact aAQ,λb e=>?_,.inl ⟨ch.1 J,λn bH=>dF bH,rfl,rfl,hO5⟩⟩;have:=R3 b e;exact⟨J,this.2,λd3=>by have:=W.aU b d3;omega⟩
end
theorem awS:q3 Q 171=true:=by kernel_rfl
def PR(Z:b5)(j t:Nat)(x:Nat->aw Int)(i:Nat):ku:=⟨2,(j:Int),((i*Z.C+j:Nat):Int),(t:Int),(Z.W j:Int),bj (Z.W j) (λk=>x (Z.lc j+k)),[],0,false⟩
def sC(h:ae)(ao aj:Nat)(Z:b5)(j:Nat)(x:Nat->aw Int)(i:Nat)(v:X):Prop:=k9 h ao aj v (Z.cl (i+1) j-Z.cl i j) (λk=>x (Z.cl i j+k))
def ShK(Z:b5)(g:ae)(c:Nat->X)(aI j t bt dJ:Nat)(x:Nat->aw Int)(e3:Nat->al)(l:aa ev)(aU:aw Nat)(h:ae)(U:Nat):bP:=λnz ac Y=>nz = .bool true/\∃bO gJ ds B,U<=B/\B<=Y/\(∀d,d<U->d≠aI->d≠bt->aU≠some d->u ac d=u h d) /\
 eW ac Y aI bO 0 j Z.C (l++ds) gJ /\
 ((∃k,k<Z.R/\(if k=dJ then true else e3 k)=false)/\(∀n,bO n=c n)/\ds=[]/\gJ=aU/\iy ac bt Z.R (λk=>if k=dJ then true else e3 k) (λi v=>sC g 0 U Z j x i v\/sC ac U Y Z j x i v) \/
 (∀k,k<Z.R->(if k=dJ then true else e3 k)=true)/\(∀n,n≠22->n≠23->bO n=c n)/\bO 23 = ((t+1:Nat):X)/\kB ac U B ds ((List.range Z.R).map (PR Z j t x))/\(∃cE,u ac bt=some (.map [] cE))/\∃cd,gJ=some cd/\B<=cd)
def xZ(p:Nat × X):aa X:=[(p.1:X),pP p.2]
theorem auF(p:Nat × X):ea (xZ p)=true:=by obtain⟨a,v⟩:=p;cases v <;> rfl
theorem abU:∀{L:aa (Nat × X)},(∀p∈L,pP p.2=p.2)->bc xZ L=bc xU L
 | [],_=>rfl
 |p::L,h=>by
  show xZ p++bc xZ L=xU p++bc xU L;rw[abU ab];unfold xZ xU
  grind
theorem d5.e1{h:ae}{L:aa (Nat × X)}{ao:Nat}(H:d5 h v xZ 2 L ao aj)(B:∀p∈L,pP p.2=p.2):d5 h v xU 2 L ao aj:=by
 unfold d5 at *
 rw[<-abU B];exact H
def ayN(Z:b5)(aI j bS:Nat)(x:Nat->aw Int)(i4:ae)(m:Nat)(aE:aa X)(ac:ae)(Y:Nat):Prop :=
 ∃k acc L,m=Z.R-k/\k<=Z.R/\aE=[bd aI,acc,(Z.R:X),(k:X)]/\d5 ac acc xZ 2 L bS Y/\L.length=k /\
  (∀i p,L[i]? = some p->pP p.2=p.2/\p.1=Z.cl (i+1) j-Z.cl i j/\ej i4 bS p.2 fD 2 (bj p.1 λk=>x (Z.cl i j+k)))/\aA bS i4 ac/\bS<=Y
def ayO(Z:b5)(aI j bh U t:Nat)(x:Nat->aw Int)(c:Nat->X)(l:aa ev)(aU:aw Nat)(h jh:ae)(m:Nat)(aE:aa X)(ac:ae)(Y:Nat):Prop :=
 ∃k bO gJ ds B,m=Z.R-k/\k<=Z.R/\aE=[bd aI,bd bh,(Z.R:X),(k:X)]/\(∀n,n≠22->bO n=c n)/\eW ac Y aI bO 0 j Z.C (l++ds) gJ /\
  kB ac U B ds ((List.range k).map (PR Z j t x))/\bh+1<=B/\B<=Y/\(∀b,gJ=some b->aU=some b\/B<=b)/\(0<k->∃b,gJ=some b/\B<=b)/\(∀d,U<=d->d<=bh->u ac d=u jh d)/\(∀d,d<U->d≠aI->aU≠some d->u ac d=u h d)
section
variable {s:al} {g b8 h ac:ae} {U Y aI i j ao:Nat} {c bO:Nat->X} {l:aa ev} {aU so:aw Nat} {Z:b5}
theorem CQ(K:fV Z)(i j:Nat):Z.cl i j<=Z.cl (i+1) j/\Z.cl i j<=60:=by have E:=xY K i;have B:=CP K j;have D:=K.n60;unfold b5.cl js;omega
theorem aiQ{f:ev}{p:ku}{t bt dJ:Nat}{x:Nat->aw Int}{e3:Nat->al}(K:fV Z)(W:eW h U aI c 0 j Z.C l aU)(G:rE g h U aI)(H:j1 h U c Z 0 j)(bb:l.length+Z.R<900)(ck:t<900)
  (bK:mF h U f p) (ms:p.round=(t:Int)) (ec:p.lW=((Z.cl (dJ+1) j-Z.cl dJ j:Nat):Int)) (ik:p.lU=bj (Z.cl (dJ+1) j-Z.cl dJ j) λk=>x (Z.cl dJ j+k))
  (e23:c 23 = (t:X)) (oW:c 24 = .map (some bt)) (hV:iy h bt Z.R e3 (sC g 0 U Z j x)) (M:bt<U/\bt≠aI/\aU≠some bt/\u g bt=none) (b1:dJ<Z.R) (ht:e3 dJ=false):
  aH Q s 133 [bd aI,.agg ⟨d8 f⟩,.agg ⟨[(dJ:X),.int .i64 0]⟩] h U (ShK Z g c aI j t bt dJ x e3 l aU h U):=by
 refine akN ?_;have cA:=W.lt;have bZ:∀{o aX},aA U h (T (T h U o) (U+1) aX):=aK
 have oS:∀{o aX},u (T (T h U o) (U+1) aX) aI=some (.cells (du c) false):=λ{o aX}=>(bZ aI cA).trans W.at_;have lG:=CQ K dJ j;have aAh:=CQ K (dJ+1) j;have ni:∀b,aU=some b->b<U:=λb e=>(W.aU b e).2;have aCf:∀{o aX},eW (T (T h U o) (U+1) aX) (U+2) aI c 0 j Z.C l aU:=λ{o aX}=>W.F ab J;have gQ:∀{y:Int},((y == y):al)=true:=ab
 have nx:(((0:Nat):Int) == 0)=true:=rfl;have TR:f.round=(t:Int):=bK.round.trans ms;unfold ZF d8;refine aF ?_;refine(akU aCf (H.F  bZ J) K b1).fR ⟨J,?_⟩;refine aF ?_;refine(WG  (bK.F  bZ J) ik ec J).mono ?_;rintro _ D E ⟨v,rfl,lz,d9,fy⟩;refine⟨fy,?_⟩;have cJ:=bZ.trans d9 J;have g0:=(d9 U J).trans ((aq J).trans (aS _ _ _));have dt:=(d9 (U+1) J).trans (aS _ _ _);have Ms:=(d9 aI J).trans oS;obtain⟨gK,rfl,wR⟩:=lz;obtain⟨cC,k1,rfl⟩:=wR.form;have hM1:∀{H},u H bt=u D bt->iy H bt Z.R e3 (sC g 0 U Z j x):=λ{H} e=>hV.F (e.trans (cJ bt M.1)) λ_ _ h=>h;have A1:∀{o aX},jR Q (T (T D E o) E aX) 3 (.agg #[.int .i64 0,.slice none 0 0]) true (.map (some bt)) (dJ:X) = .ok (.tuple #[.agg #[.int .i64 0,.slice none 0 0],.bool false]):=λ{o aX}=>by obtain⟨v,e,_⟩:=(hM1 (H:=T (T D E o) E aX) ab).get nm b1  (ok:=true);rw[ht]at e;exact e
 simp(disch:=omega)only[bn,hH,Ms,g0,dt,oW,A1,W.o2,gQ,nx,TR,e23,seval];unfold BO;generalize n2:T (T (T (T D E _) E _) (E+1) _) (E+1) _=hX;have dO:∀d,d<E->u hX d=u D d:=λd bp=>ab
 have yY:=(dO aI J).trans Ms;have bB:=(dO (U+1) J).trans dt;have UY:u hX E=some (.cells [((Z.cl (dJ+1) j-Z.cl dJ j:Nat):X),.slice cC (bj (Z.cl (dJ+1) j-Z.cl dJ j) λk=>x (Z.cl dJ j+k)).length k1] false):=ab
 clear n2;have gL:sC D U E Z j x dJ (.agg ⟨[((Z.cl (dJ+1) j-Z.cl dJ j:Nat):X),.slice cC (bj (Z.cl (dJ+1) j-Z.cl dJ j) λk=>x (Z.cl dJ j+k)).length k1]⟩):=⟨_,rfl,wR.gr.F (λ_ _ _=>rfl) J (cD _)⟩
 obtain⟨o,gv,eU⟩:=((hM1 (dO bt J)).F (UB:=λi v=>sC g 0 U Z j x i v\/sC D U E Z j x i v) rfl λ_ _ h=>.inl h).put nm b1 ht (.inr gL);have Hx:=eU (T hX bt o) (aS _ _ _);obtain⟨m,aV,aP,ch⟩:=Hx.len;rw[show hO dJ = (dJ:X)from rfl]at gv;have TT:u (T hX bt o) aI=some (.cells (du c) false):=(aq (kw M.2.1)).trans yY;simp(disch:=omega)only[bn,hH,yY,bB,UY,oW,gv,TT,aV,H.gF,seval];have o1:∀d,d<U->d≠bt->u (T hX bt o) d=u h d:=λd D I=>by rw[aq I,dO d J];exact cJ d D
 have qK:eW (T hX bt o) (E+2) aI c 0 j Z.C l aU:=W.F (λd bp=>o1 d (bp.elim (λe=>e ▸ cA) (ni d)) (bp.elim (λe=>e ▸ kw M.2.1) λe d3=>M.2.2.1 ab)) J;refine⟨λDd=>⟨rfl,c,aU,[],E+2,J,cD _,λd D I aL _=>o1 d D aL,by rw[hZ];exact qK,.inl ⟨ch.1 Dd,λ_=>rfl,rfl,rfl,Hx.F rfl λi v P=>P.imp id λP=>P.F (λb D I=>ab) (cD _) J⟩⟩,λeN=>?_⟩;have nb:∀k,k<Z.R->(if k=dJ then true else e3 k)=true:=λk hk=>ab
 have kH:kU g (T hX bt o):=G.R2 (so:=some bt) (λb e=>ab) λd D I aL=>o1 d D λe=>aL (by rw[e]);have TU:∀k v,sC g 0 U Z j x k v\/sC D U E Z j x k v->jQ (T hX bt o) (E+2) v (Z.cl (k+1) j-Z.cl k j) λq=>x (Z.cl k j+q):=λk v P=>by
  rcases P with P|P
  ·obtain⟨gK,e,P⟩:=k9.is P;exact⟨gK,e,(P.sub kH).F (aA.refl _ _) J⟩
  ·exact jQ.F (k9.is (P.F (ac:=T hX bt o) (d6:=0) (dy:=E) (λb D I=>ab) J (cD _))) (aA.refl _ _) J
 have R4:E+1+1=E+2:=rfl;rw[R4];generalize T hX bt o=i4 at Hx TT o1 qK TU kH ⊢;generalize DF:E+2=bS at qK TU ⊢;refine bD.mk (ayN Z aI j bS x i4) Z.R ⟨0,_,[],J,J,rfl,.inl ⟨rfl,rfl⟩,rfl,(λ_ _ h=>by simp at h),aA.refl _ _,cD _⟩ ?_;rintro _ _ I bX ⟨k,acc,L,rfl,hk,rfl,dI,hLl,fq,ei,eZ⟩;rw[aiD];unfold Wy;have db:=(ei aI J).trans TT;obtain⟨bz,UU,pT,rfl⟩:=dI.form;refine aF ?_;refine⟨λGD=>?_,λaAi=>?_⟩
 ·obtain⟨v,cn,P⟩:=(Hx.F (ac:=I) (ei bt J) λ_ _ h=>h).get nm GD (z:=.agg #[.int .i64 0,.slice none 0 0]) (ok:=false);obtain⟨vi',rfl,agt⟩:=TU k v (P (nb k GD));rw[nb k GD,show hO k = (k:X)from rfl]at cn;have ek':jR Q I 3 (.agg #[.int .i64 0,.slice none 0 0]) false (.map (some bt)) (k:X) = .ok (.agg ⟨[((Z.cl (k+1) j-Z.cl k j:Nat):X),vi']⟩):=cn;obtain⟨iN,n5,rfl,_⟩:=id agt;refine zW @db @oW @ek' (cG (J:k<1000000000000)) ?_;refine l4 (enc:=xZ) (k:=2) (ao:=bS) (λ_=>rfl) auF J (dI.F (dy:=bX+1) (λd D I=>aq J) J) J (Z.cl (k+1) j-Z.cl k j,.slice iN (bj (Z.cl (k+1) j-Z.cl k j) λq=>x (Z.cl k j+q)).length n5) (aS _ _ _) rfl J λdN b3 rr hq=>?_;refine⟨_,J,k+1,_,_,rfl,J,rfl,rr,ab,λi p bk=>?_,λd bp=>by rw[hq d bp,aq J];exact ei d bp,J⟩
  by_cases hik:i<L.length
  ·rw[xf hik]at bk;exact fq i p bk
  ·rw[Ei J]at bk;obtain⟨e,rfl⟩:i-L.length=0/\_=p:=by
    cases cM:i-L.length with
    |zero=>rw[cM]at bk;exact⟨rfl,Option.some.inj bk⟩
    |succ q=>grind
   obtain rfl:i=k:=J
   exact⟨rfl,rfl,agt⟩
 have AX:k=Z.R:=J
 subst AX;have mK:∀k,k<=Z.R->Z.cl k j<=60:=λk _=>(CQ K k j).2;have hPc:zN I bX (.slice bz UU pT) (λi=>Z.cl i j) Z.R x:=⟨⟨L,hLl,(d5.c (k:=2) J (λ_=>rfl) (d5.e1 dI λp bk=>by obtain⟨i,aj⟩:=Ej.1 bk;grind)).o,λi p bk=>⟨(fq i p bk).2.1,(fq i p bk).2.2.F ei eZ⟩⟩,λi=>(CQ K i j).1,hy (CQ K Z.R j).2 J⟩
 refine Kr @db H.ch H.gF W.g3 W.c1 ?_;refine(arQ (x:=x) (j:=j) (hy K.n60 J) K.lA K.nF K.hw K.mw W.vs hPc).mono ?_;rintro _ bm dH ⟨w,rfl,⟨UQ,rfl,yG⟩,fP,ir⟩;refine⟨ir,?_⟩;obtain⟨gy,ny,rfl⟩:=yG.form;have ns:=(fP aI J).trans db;refine uI @ns H.gF ?_;generalize L3:T (T bm dH _) dH _=h8;have gc:u h8 dH=some (.cells [.int .i64 (Z.W j:Int),.slice gy (bj (Z.W j) λk=>x (Z.lc j+k)).length ny] false):=by rw[<-L3,aS];rfl
 have vl:∀d,d≠dH->u h8 d=u bm d:=λd bp=>ab
 clear L3;have kk5:∀d,d<bS->u h8 d=u i4 d:=λd D=>by rw[vl d J,fP d J,ei d J]
 refine bD.mk (ayO Z aI j dH U t x c l aU h8 h8) Z.R ⟨0,c,aU,[],dH+1,J,J,rfl,λ_ _=>rfl,by rw[hZ];exact qK.F (λd bp=>kk5 d (bp.elim (λe=>J) λe=>ab)) J,trivial,cD _,cD _,λb e=>.inl e,λh=>absurd h J,λd _ _=>rfl,λd bp _ _=>rfl⟩ ?_;rintro _ _ cF n6 ⟨k,hG,TV,ds,B,rfl,hk,rfl,AW,nG,g1,u6,rD,ayP,R5,hM,wL⟩;rw[aiE];unfold Wz;have ez:(ds.length:Nat)=k:=by rw[g1.len,gH,vx]
 have ol:=(hM dH J (cD _)).trans gc;have j23:=(AW 23 J).trans e23;have j24:=(AW 24 J).trans oW;refine aF ?_;refine⟨λRT=>?_,λayQ=>?_⟩
 ·refine uI nG.at_ nG.c1 ?_;refine(EX nG.at_ nG.hw nG.mw (by have:=K.nF;omega) nG.vs nG.g3).fR ⟨cD _,?_⟩;refine xX nG.at_ @j23 @ol ?_;refine(Fi nG ab ⟨2,0,((k*Z.C+j:Nat):Int),0,(t:Int),(Z.W j:Int),gy,(bj (Z.W j) λk=>x (Z.lc j+k)).length,ny,none,0,0,none,0,0,0,false⟩).mono ?_;rintro _ eE n7 ⟨rfl,dN,cd,H3,hh,vb,uP⟩;refine⟨uP,?_⟩;refine bg (cG (J:k<1000000000000)) ?_;have u3:∀d,U<=d->d<B->TV≠some d:=λd D I e=>ab
  refine⟨_,J,k+1,_,some cd,ds++[_],B,rfl,J,rfl,λn bH=>?_,by rw[<-kv];exact H3,?_,J,J,λb e=>.inr ab,λ_=>⟨cd,rfl,J⟩,λd D I=>?_,λd D I aL=>?_⟩
  ·rw[dF bH];grind
  ·rw[p4,iF];refine(g1.F (λb D I=>vb b J J (u3 b D I)) (cD _) J).app ⟨⟨rfl,?_,rfl,rfl,rfl,?_,wc,rfl,rfl,rfl⟩,trivial⟩
   ·show((0*Z.C+j:Nat):Int)=(j:Int)
    omega
   ·exact eH.F yG.gr (λb D I=>ab) J J
  all_goals grind
 ·have AX:k=Z.R:=J
  subst AX;obtain⟨cd,rfl,hh⟩:=R5 J;obtain⟨U1,cE,ve,_,_⟩:=Hx.ex;have nZ:u cF bt=some (.map (lf hO U1) cE):=by rw[wL bt M.1 M.2.1 M.2.2.1,kk5 bt J];exact ve.at_
  have TW:∀{o},u (T cF bt o) aI=some (.cells (du hG) false):=λ{o}=>by rw[aq (kw M.2.1)];exact nG.at_
  simp(disch:=omega)only[bn,hH,nG.at_,j24,RZ awS nZ,dX,TW,j23,cG (J:t<1000000000000),seval];refine⟨rfl,_,some cd,ds,B,J,rD,λd D I aL bm=>?_,nG.set (aS _ _ _) (dF J) (dF J) (dF J) (dF J) (λb e=>ab) (cD _),.inr ⟨nb,λn D I=>by rw[dF I];grind,xW,g1.F (λb D I=>by rw[aq J,aq J]) (cD _) (cD _),⟨cE,ab⟩,cd,rfl,hh⟩⟩
  grind
end
def QO:aa (aa Nat):=[[0,3,4,11]]
def abV(s:al)(aC a3 aY en:X)(h:ae)(U:Nat)(N:aR)(aM:aR)(R:aR):Prop:=uW s h U en λa b c=>af (cy a 0) λd=>br d (af (vU b en) λe=>af (cy e 1) λf=>bW [(ad 0),(ad 0),(ad 0),(ad 0),(ad 0),(ad 0),ay,ay,ay,(ad 0),(.bool false)] b c λg i j=>af (aQ i 11 g f) λk=>br a3 (br aY (N [aC,(.bool true),(.bool true),en] k j) (ax k 9 g λm=>bG .neq 2 m (ad 0) λn=>N [aC,(.bool true),n,en] k j)) (ax k 10 g λp=>br aY (N [aC,p,(.bool true),en] k j) (ax k 9 g λr=>bG .neq 2 r (ad 0) λt=>N [aC,p,t,en] k j))) (aM [aC,a3,aY,en] b c)
def afm:cP:=λs ah h U K=>af (bs ah) λa=>ax h 43 a λc=>dG (r3 h U c) λd e f=>bD (bR Q s QO 231 0) [ah,(.bool false),(.bool false),d] e f [(0,λg i j=>br (a7 g 1) (K (ad 3) i j) (af (dr .not (a7 g 2)) λk=>br k (K (ad 1) i j) (af (bs (a7 g 0)) λl=>ax i 42 l λn=>af (bs (a7 g 0)) λo=>ax i 9 o λq=>bw .eql 3 n q (K (ad 2) i j) (K (ad 0) i j))))] (λ_ _ _=>False)
theorem asc{s:al}{B:X}{h:ae}{U:Nat}{R:aR}:bR Q s QO 231 0 [aC,a3,aY,B] h U N [(0,aM)] R=abV s aC a3 aY B h U N aM R:=by kernel_rfl
theorem auG:cQ 231 afm:=cT QO
def OK:aa (aa Nat):=[[3,10]]
def XO(s:al)(a3 di:X)(h:ae)(U:Nat)(N:aR)(aM:aR)(R:aR):Prop:=uW s h U di λa b c=>af (cy a 0) λd=>br d (af (vU b di) λe=>af (cy e 0) λf=>af (cy e 1) λg=>bW [(ad 0),(ad 0)] b c λi j k=>af (aQ j 2 i f) λl=>aW s 145 [g] l k λm n o=>j6 m (ad 0) (aN 2 n i λq=>d4 (fh 1 [(ad 0),(ad 0)] [(0,2,q)]) n o λr t aD=>dG (dX (dT 2 t aD a3 r)) λv w x=>N [v,di] w x) (N [a3,di] n o)) (aM [a3,di] b c)
def abW:cP:=λs ah h U K=>af (bs ah) λa=>ax h 13 a λc=>dG (r3 h U c) λd e f=>bD (bR Q s OK 144 0) [ay,d] e f [(0,λg i j=>aW s 239 [(a7 g 0),(.func (.func 240) #[] #[])] i j λk l m=>K (a7 g 0) l m)] (λ_ _ _=>False)
theorem akX{s:al}{h:ae}{U:Nat}{R:aR}:bR Q s OK 144 0 [a3,di] h U N [(0,aM)] R=XO s a3 di h U N aM R:=by kernel_rfl
theorem aoz:cQ 144 abW:=cT OK
def OL:aa (aa Nat):=[[3,12]]
def XP(s:al)(a3 eD:X)(h:ae)(U:Nat)(N:aR)(aM:aR)(R:aR):Prop:=uW s h U eD λa b c=>af (cy a 0) λd=>br d (af (vU b eD) λe=>af (cy e 1) λf=>aW s 248 [f] b c λg i j=>lu a3 g λk=>N [k,eD] i j) (aM [a3,eD] b c)
def abX:cP:=λs ah h U K=>bw .neq 110 ah (.pointer none) (af (bs ah) λb=>ax h 13 b λd=>dG (r3 h U d) λe f g=>bD (bR Q s OL 152 0) [(ad 0),e] f g [(0,λi j k=>K (a7 i 0) j k)] (λ_ _ _=>False)) (K (ad 0) h U)
theorem akY{s:al}{B:X}{h:ae}{U:Nat}{R:aR}:bR Q s OL 152 0 [a3,B] h U N [(0,aM)] R=XP s a3 B h U N aM R:=by kernel_rfl
theorem aoA:cQ 152 abX:=cT OL
theorem awT:q3 Q 173=true:=by kernel_rfl
def s7(Z:b5)(V:Nat)(st:Int)(i:Nat):ku:=⟨5,0,((i*Z.C+0:Nat):Int),(V:Int),0,[],[],st,false⟩
def Hy(i5:Nat->Int)(i:Nat)(v:X):Prop:=∃f:ev,v = .agg ⟨d8 f⟩/\f.nW=false/\f.n=i5 i
theorem akZ{s:al}{Z:b5}{i5:Nat->Int}{h:ae}{U aI cw:Nat}{c:Nat->X}{K:bP}(bV:u h aI=some (.cells (du c) false))(hpw:aI<U)(jw:c 9 = (Z.lim:X))(Hz:c 42 = (V:X))(rG:c 43 = .map (some cw))(tM:cw<U)(hV:iy h cw Z.R dP (Hy i5))(ht:∀k,k<Z.R->dP k=true)(hk:K (.int .i64 (vJ false (decide (∃i,i<Z.R/\i5 i≠0)) (V:Int) (Z.lim:Int))) h U):aH Q s 231 [bd aI] h U K:=by
 obtain⟨L,cE,ve,h1,ar⟩:=hV.ex;refine aH.plain (v:=.int .i64 (vJ false (decide (∃i,i<Z.R/\i5 i≠0)) (V:Int) (Z.lim:Int))) rfl ?_ hk;refine auG ?_;unfold afm;refine uI @bV @rG ?_;refine ve.jp λaL I e8=>?_;refine bD.mk (λm aE ac Y=>∃sI D,m=D.length/\aE=[bd aI,.bool false,.bool sI,bd U]/\wJ ac U cw cE L D/\((sI=true\/∃e∈D,i5 e.1≠0)↔∃i,i<Z.R/\i5 i≠0)/\(∀e∈D,e∈L)/\aA U h ac/\U+1<=Y) L.length
  ⟨false,L,rfl,rfl,I,?_,λe h=>h,λc aZ=>e8 c J,J⟩ ?_
 ·constructor
  ·rintro(h|⟨e,bE,h⟩)
   ·cases h
   ·exact⟨e.1,(h1 e bE).1,h⟩
  ·rintro⟨i,aj,h⟩;obtain⟨e,bE,rfl⟩:=(ar i aj).1 (ht i aj);exact .inr ⟨e,bE,h⟩
 rintro _ _ bm dH ⟨sI,D,rfl,rfl,H6,TX,pE,M,ir⟩;rw[asc];unfold abV;have sQ:=ve.F (ac:=bm) (M cw tM);have yY:=(M aI hpw).trans bV;refine sQ.fE H6 J (λaM=>?_) λe B b3 bE bk Bq hq P=>?_
 ·subst aM;refine xX @yY @Hz @jw ?_;have hD:aA U h bm:=M;have TX:sI=true↔∃i,i<Z.R/\i5 i≠0:=by rw[<-TX];simp
  unfold vJ;cases sI <;> grind
 ·obtain⟨f,pV,gv,ez⟩:=(h1 e bE).2;have nB:=bk.length_eq;simp only[nJ]at nB;have bl:∀x∈B,x∈L:=λx E=>pE x (bk.mem_iff.2 (mx _ E));have cM:(∃e∈D,i5 e.1≠0)↔i5 e.1≠0\/∃e∈B,i5 e.1≠0:=by
   constructor
   ·rintro⟨x,E,h⟩;rcases g5.1 (bk.mem_iff.1 E)with rfl|E
    ·exact .inl h
    ·exact .inr ⟨x,E,h⟩
   ·rintro(h|⟨x,E,h⟩)
    ·exact⟨e,bk.mem_iff.2 (nI ..),h⟩
    ·exact⟨x,bk.mem_iff.2 (mx _ E),h⟩
  rw[cM]at TX;rw[pV]at P ⊢;unfold d8 at P ⊢;refine hK @P @gv @ez ?_;refine⟨λbb=>⟨B.length,J,true,B,rfl,rfl,Bq.F ab,?_,bl,λc aZ=>aK,J⟩,λbb=>⟨B.length,J,_,B,rfl,rfl,Bq.F ab,?_,bl,λc aZ=>aK,J⟩⟩
  ·grind
  ·grind
def VoK(Z:b5)(c:Nat->X)(aI V cw dJ:Nat)(i5:Nat->Int)(fL:Nat->al)(l:aa ev)(aU:aw Nat)(h:ae)(U:Nat):bP:=λnz ac Y=>nz = .bool true/\∃bO gJ ds B,U<=B/\B<=Y/\(∀d,d<U->d≠aI->d≠cw->aU≠some d->u ac d=u h d) /\
 eW ac Y aI bO 0 0 Z.C (l++ds) gJ /\
 ((∃k,k<Z.R/\(if k=dJ then true else fL k)=false)/\(∀n,bO n=c n)/\ds=[]/\gJ=aU/\iy ac cw Z.R (λk=>if k=dJ then true else fL k) (Hy i5) \/
 (∀k,k<Z.R->(if k=dJ then true else fL k)=true)/\(∀n,n≠22->n≠42->n≠44->bO n=c n)/\∃st,st=vJ false (decide (∃i,i<Z.R/\i5 i≠0)) (V:Int) (Z.lim:Int)/\bO 42 = ((V+1:Nat):X)/\bO 44 = .bool (!(st == 0))/\kB ac U B ds ((List.range Z.R).map (s7 Z V st))/\(∃cE,u ac cw=some (.map [] cE))/\∃cd,gJ=some cd/\B<=cd)
def VoJ(Z:b5)(aI U bh V:Nat)(st:Int)(c:Nat->X)(l:aa ev)(aU:aw Nat)(h:ae)(m:Nat)(aE:aa X)(ac:ae)(Y:Nat):Prop :=
 ∃k bO gJ ds B,m=Z.R-k/\k<=Z.R/\aE=[bd aI,(st:X),(Z.R:X),(k:X)]/\(∀n,n≠22->bO n=c n)/\eW ac Y aI bO 0 0 Z.C (l++ds) gJ /\
  kB ac U B ds ((List.range k).map (s7 Z V st))/\bh<=B/\B<=Y/\(∀b,gJ=some b->aU=some b\/B<=b)/\(0<k->∃b,gJ=some b/\B<=b)/\(∀d,d<bh->d≠aI->aU≠some d->u ac d=u h d)
section
variable {s:al} {g b8 h ac:ae} {U Y aI i j ao:Nat} {c bO:Nat->X} {l:aa ev} {aU so:aw Nat} {Z:b5}
theorem ak0{f:ev}{cw dJ:Nat}{i5:Nat->Int}{fL:Nat->al}(K:fV Z)(W:eW h U aI c 0 0 Z.C l aU)(gF:c 7 = (Z.R:X))(jw:c 9 = (Z.lim:X))(bb:l.length+Z.R<900)(ck:V<900)(ms:f.round=(V:Int))(gv:f.nW=false)(ez:f.n=i5 dJ)(Hz:c 42 = (V:X))(I:c 43 = .map (some cw))(e44:c 44 = .bool false)(hV:iy h cw Z.R fL (Hy i5))(tM:cw<U/\cw≠aI/\aU≠some cw)(b1:dJ<Z.R)(ht:fL dJ=false):
  aH Q s 136 [bd aI,.agg ⟨d8 f⟩,.agg ⟨[(dJ:X),.int .i64 0]⟩] h U (VoK Z c aI V cw dJ i5 fL l aU h U):=by
 refine aot ?_;have cA:=W.lt;have ni:∀b,aU=some b->b<U:=λb e=>(W.aU b e).2;have gQ:∀{y:Int},((y == y):al)=true:=ab
 have bZ:∀{o aX},aA U h (T (T h U o) (U+1) aX):=aK
 have oS:∀{o aX},u (T (T h U o) (U+1) aX) aI=some (.cells (du c) false):=λ{o aX}=>(bZ aI cA).trans W.at_;have c0':c 0 = .int .i64 0:=W.o2;have TY:c 1 = .int .i64 0:=W.c1;have A1:∀{o aX},jR Q (T (T h U o) (U+1) aX) 3 (.agg #[.int .i64 0,.int .i64 0,.int .i64 0,.int .i64 0,.int .i64 0,.int .i64 0,.slice none 0 0,.slice none 0 0,.slice none 0 0,.int .i64 0,.bool false]) true (.map (some cw)) (dJ:X) = .ok (.tuple #[.agg #[.int .i64 0,.int .i64 0,.int .i64 0,.int .i64 0,.int .i64 0,.int .i64 0,.slice none 0 0,.slice none 0 0,.slice none 0 0,.int .i64 0,.bool false],.bool false]):=λ{o aX}=>by obtain⟨v,e,_⟩:=(hV.F (ac:=T (T h U o) (U+1) aX) ab λ_ _ h=>h).get nm b1;rw[ht]at e;exact e
 unfold abS d8;simp(disch:=omega)only[bn,hH,oS,I,A1,auE c0' TY,PQ,e44,ms,Hz,gQ,seval];unfold BW;generalize n2:T (T (T (T h U _) (U+1) _) (U+1+1) _) (U+1+1) _=hX;have dO:∀d,d<U->u hX d=u h d:=ab
 have bB:u hX (U+1)=some (.cells [(dJ:X),.int .i64 0] false):=ab
 have cv:u hX U=some (.cells (d8 f) false):=by rw[<-n2,aq J,aq J,aq J,aS];unfold d8;rw[ms]
 have yY:=(dO aI cA).trans W.at_;obtain⟨o,eo',eU⟩:=(hV.F (dO cw tM.1) λ_ _ h=>h).put  nm b1 ht ⟨f,rfl,gv,ez⟩;have P:=eU (T hX cw o) ab;obtain⟨m,aV,aP,ch⟩:=P.len;rw[show hO dJ = (dJ:X)from rfl]at eo';have E:u (T hX cw o) aI=some (.cells (du c) false):=ab
 have kl:h0 (some 11) 0 (d8 f) = .ok (.agg ⟨d8 f⟩):=rfl;simp(disch:=omega)only[bn,hH,yY,bB,cv,kl,I,eo',E,aV,gF,seval];have o1:∀d,d<U->d≠cw->u (T hX cw o) d=u h d:=ab
 have qK:eW (T hX cw o) (U+3) aI c 0 0 Z.C l aU:=W.F ab J;refine⟨λDd=>⟨rfl,c,aU,[],U+3,J,J,ab,by rw[hZ];exact qK,ab⟩,λeN=>?_⟩;have L:∀k,k<Z.R->(if k=dJ then true else fL k)=true:=ab
 refine akZ E J jw Hz I J P L ?_;generalize iY:vJ _ _ _ _=st;refine uI @E @gF ?_;obtain⟨U1,cE,ve,_,_⟩:=P.ex;have Hd:=ve.at_;have R4:U+1+1+1=U+3:=rfl;rw[R4];generalize T hX cw o=i4 at Hd E o1 qK ⊢;refine bD.mk (VoJ Z aI U (U+3) V st c l aU i4) Z.R ⟨0,c,aU,[],U+3,J,J,rfl,ab,by rw[hZ];exact qK,trivial,J,J,ab,λh=>absurd h J,ab⟩ ?_;rintro _ _ cF n6 ⟨k,hG,TV,ds,B,rfl,hk,rfl,AW,D,g1,u6,rD,ayP,R5,wL⟩;rw[akO];unfold XL;have en6:(ds.length:Nat)=k:=by rw[g1.len,gH,vx]
 have j42:=(AW 42 J).trans Hz;have j43:=(AW 43 J).trans I;refine aF ?_;refine⟨λRT=>?_,λayQ=>?_⟩
 ·refine(EX  D.at_ D.hw D.mw (by have:=K.nF;omega) D.vs D.g3).fR ⟨cD _,?_⟩;refine uI D.at_ @j42 ?_;refine(Fi D ab ⟨5,0,((k*Z.C+0:Nat):Int),0,(V:Int),0,none,0,0,none,0,0,none,0,0,st,false⟩).mono ?_;rintro _ eE n7 ⟨rfl,dN,cd,H3,hh,vb,uP⟩;refine⟨uP,?_⟩;refine bg (cG (J:k<1000000000000)) ?_;have u3:∀d,U<=d->d<B->TV≠some d:=λd h1 M e=>ab
  refine⟨_,J,k+1,_,some cd,ds++[_],B,rfl,J,rfl,λn bH=>?_,by rw[<-kv];exact H3,?_,J,J,λb e=>.inr ab,λ_=>⟨cd,rfl,J⟩,λd h1 M aL=>?_⟩
  ·rw[dF bH];grind
  ·rw[p4,iF];refine(g1.F (λb h1 M=>vb b J J (u3 b h1 M)) (cD _) J).app ⟨⟨rfl,?_,rfl,rfl,rfl,wc,wc,rfl,rfl,rfl⟩,trivial⟩;show((0*Z.C+0:Nat):Int)=0;omega
  grind
 ·have AX:k=Z.R:=J
  subst AX;obtain⟨cd,rfl,hh⟩:=R5 J;have nZ:u cF cw=some (.map (lf hO U1) cE):=ab
  have TW:∀{o},u (T cF cw o) aI=some (.cells (du hG) false):=λ{o}=>by rw[aq (kw tM.2.1)];exact D.at_
  simp(disch:=omega)only[bn,hH,D.at_,j43,RZ awT nZ,dX,TW,j42,cG (J:V<1000000000000),seval];refine⟨rfl,_,some cd,ds,B,J,rD,λd h1 M aL bm=>?_,D.set (aS _ _ _) (by rw[dF J,dF J]) (by rw[dF J,dF J]) (by rw[dF J,dF J]) (by rw[dF J,dF J]) (λb e=>ab) (cD _),.inr ⟨L,λn h1 M aL=>by rw[dF aL,dF M];grind,st,iY.symm,by rw[dF J,xW],xW,g1.F (λb h1 M=>ab) (cD _) (cD _),⟨cE,ab⟩,cd,rfl,hh⟩⟩
  grind
end
section
variable {s:al} {g b8 h ac:ae} {U Y aI i j C R dJ lY:Nat} {c bO:Nat->X} {l:aa ev} {aU so:aw Nat} {Z:b5}
theorem PS(M:1<=C)(I:C<=8)(aj:dJ<8)(D:lY<C):aH Q s 131 [(C:X),((dJ*C+lY:Nat):X)] h U (fo (dJ:X) U h):=by
 refine auo ?_;have L:dJ*C<=7*C:=p2 C J;refine Za.mono ?_;rintro _ _ _ ⟨rfl,rfl,rfl⟩;rw[k8 J];have E:(dJ*C+lY) / C=dJ:=by rw[xn,Nat.mul_add_div J,MV D];rfl
 have B:bin Q .quo 3 (((dJ*C+lY:Nat):X)) (C:X) = .ok (dJ:X):=by rw[B9 J,show((dJ*C+lY:Nat):Int).tdiv (C:Int)=(((dJ*C+lY) / C:Nat):Int)from rfl,E,jE J J]
 have aP:IntKind.wrap .i64 ((C:Int)*8)=((C*8:Nat):Int):=by rw[show(C:Int)*8=((C*8:Nat):Int) by omega];exact jE J J
 generalize K:dJ*C+lY=n at *
 refine hK @zy @B @aP ?_;exact⟨λh=>absurd h J,λ_=>⟨λh=>absurd h J,λ_=>⟨rfl,rfl,rfl⟩⟩⟩
theorem PT(K:1<=C)(D:C<=8)(aj:dJ<8)(B:lY<C):aH Q s 132 [(C:X),((dJ*C+lY:Nat):X)] h U (fo (lY:X) U h):=by
 refine aup ?_;refine(PS K D aj B).fR ?_;have E:(dJ*C+lY) % C=lY:=by rw[xn,Nat.mul_add_mod,Is B]
 have I:bin Q .rem 3 (((dJ*C+lY:Nat):X)) (C:X) = .ok (lY:X):=by rw[JD J,show((dJ*C+lY:Nat):Int).tmod (C:Int)=(((dJ*C+lY) % C:Nat):Int)from rfl,E]
 refine bg @I ?_;exact⟨λh=>absurd h J,λ_=>⟨rfl,rfl,rfl⟩⟩
theorem Fj{f:ev}{lq:Nat}{K:bP}(W:eW h U aI c i j C l aU)(gF:c 7 = (R:X))(dW:R<=8)(I:f.lI=((i*C+j:Nat):Int))(M:f.e9=((dJ*C+lY:Nat):Int))(aj:dJ<R)(L:lY<C)(cn:f.kind=(lq:Int))(hkd:1<=lq/\lq<=5)
  (B:∀ac Y,aA U h ac->U<=Y->aH Q s (132+lq) [bd aI,.agg ⟨d8 f⟩,.agg ⟨[(dJ:X),(lY:X)]⟩] ac Y K):
  aH Q s 63 [bd aI,.agg ⟨d8 f⟩] h U K:=by
 refine ar8 ?_;have P:=W.lt;have bZ:∀{o},aA U h (T h U o):=aK
 have E:∀{o},eW (T h U o) (U+1) aI c i j C l aU:=λ{o}=>W.F (λd bp=>bZ d (bp.elim J λe=>(W.aU d e).2)) J;have gQ:∀{y:Int},((y == y):al)=true:=ab
 have bl:dJ*C+lY<R*C:=by
  have:dJ*C+C<=R*C:=by rw[<-Ey];exact p2 C J
  omega
 have ro:R*C<=8*8:=rU dW W.mw;have aP:IntKind.wrap .i64 ((R:Int)*(C:Int))=((R*C:Nat):Int):=by rw[<-Int.natCast_mul];exact jE J J
 have aM:¬(((dJ*C+lY:Nat):Int)<0):=J
 unfold adW;unfold d8 at B ⊢;simp(disch:=omega)only[bn,pc De,seval];refine(aiL E).fR ⟨J,?_⟩;simp(disch:=omega)only[bn,I,M,gQ,hH,E.at_,gF,W.g3,zy,aP,seval];refine⟨λh=>absurd h aM,λ_=>?_⟩;rw[g4 bl];unfold Fh;simp(disch:=omega)only[bn,hH,E.at_,W.g3,seval];refine(PS W.hw W.mw J L).fR ⟨J,?_⟩;simp(disch:=omega)only[bn,hH,E.at_,W.g3,seval];refine(PT W.hw W.mw J L).fR ⟨J,?_⟩;simp only[I,M,cn]at B;have D:∀{o eX dO},aA U h (T (T (T h U o) (U+1) eX) (U+1) dO):=aK
 rcases(by omega:lq=1\/lq=2\/lq=3\/lq=4\/lq=5)with rfl|rfl|rfl|rfl|rfl
 ·simp(disch:=omega)only[bn,cn,show(((1:Nat):Int) == 1)=true from rfl,seval];exact B _ (U+2) D J
 ·simp(disch:=omega)only[bn,cn,show(((2:Nat):Int) == 1)=false from rfl,show(((2:Nat):Int) == 2)=true from rfl,seval];exact B _ (U+2) D J
 ·simp(disch:=omega)only[bn,cn,show(((3:Nat):Int) == 1)=false from rfl,show(((3:Nat):Int) == 2)=false from rfl,show(((3:Nat):Int) == 3)=true from rfl,seval];exact B _ (U+2) D J
 ·simp(disch:=omega)only[bn,cn,show(((4:Nat):Int) == 1)=false from rfl,show(((4:Nat):Int) == 2)=false from rfl,show(((4:Nat):Int) == 3)=false from rfl,show(((4:Nat):Int) == 4)=true from rfl,seval];exact B _ (U+2) D J
 ·simp(disch:=omega)only[bn,cn,show(((5:Nat):Int) == 1)=false from rfl,show(((5:Nat):Int) == 2)=false from rfl,show(((5:Nat):Int) == 3)=false from rfl,show(((5:Nat):Int) == 4)=false from rfl,show(((5:Nat):Int) == 5)=true from rfl,seval];exact B _ (U+2) D J
end
theorem ZK{s:al}{n:Nat}{h:ae}{U:Nat}(D:cN h U v jU (eS n q)):aH Q s 139 [v] h U (λr ac Y=>eH ac U Y r jU (eS n q)/\aA U h ac/\U<=Y):=by
 by_cases E:n=0
 ·subst E;obtain⟨a,cap,rfl,_⟩:=id D;have M:aA U h (T h U (.cells [] false)):=aK
  refine aa2 ?_;unfold Qx;simp(disch:=omega)only[bn,zr aga,seval];refine⟨λ_=>⟨⟨_,_,rfl,λh=>absurd rfl h⟩,aK⟩,λ_=>?_⟩;exact⟨⟨_,_,rfl,λh=>absurd rfl h⟩,M,J⟩
 ·have e:eS n q=[mk n q]:=if_neg E;rw[e]at D ⊢;refine(amX D).mono ?_;rintro _ ac Y ⟨b,c,I,rfl,h1,K,L,P,B⟩;exact⟨⟨_,_,rfl,λ_=>⟨b,I,false,h1,K,rfl,L⟩⟩,P,B⟩
section
variable {s:al} {g b8 h ac:ae} {U Y aI i j C low m:Nat} {c bO:Nat->X} {l:aa ev} {aU so:aw Nat} {S:jb}
theorem ak1(W:eW h U aI c i j C l aU)(ap:ja h U (.agg ⟨[c 28,c 29,c 30,c 31,c 32]⟩) low m S)(bl:m<=60):
  aH Q s 69 [bd aI] h U (λr ac Y=>lF ac U Y r (low:Int) ((low+m:Nat):Int) m (cz m λk=>S.A (low+k)) (cz m λk=>S.B (low+k)) (λk=>S.q (low+k))/\aA U h ac/\U<=Y):=by
 refine aos ?_;have cA:=W.lt;obtain⟨dp,fB,fg,gZ,fK,ha,ge⟩:=ap;obtain⟨fF,fr,rfl,_⟩:=id fK;obtain⟨gj,fG,rfl,_⟩:=id ha;obtain⟨mu,hW,rfl,_⟩:=id ge;simp only[Value.agg.injEq,xl,vz,ia]at gZ;obtain⟨wS,vf,P,iz,ga⟩:=gZ;have bZ:∀{o eX dO},aA U h (T (T (T h U o) (U+1) eX) (U+1) dO):=aK
 have oS:∀{o},u (T h U o) aI=some (.cells (du c) false):=λ{o}=>by rw[aq J];exact W.at_
 unfold abR;simp(disch:=omega)only[bn,hH,pc De,oS,W.at_,wS,vf,P,iz,ga,seval];refine(EW (fK.F  bZ J) (by rw[i7];omega)).mono ?_;rintro v1 h1 bh ⟨lA,E,I⟩;refine⟨I,?_⟩;have M:=(E (U+1) J).trans (aS _ _ _);have t1:=(E U J).trans ((aq J).trans ((aq J).trans (aS _ _ _)));have cJ:=bZ.trans E J;refine bg @M ?_;refine(EW (ha.F  cJ J) (by rw[i7];omega)).mono ?_;rintro v2 ar bX ⟨H7,B,K⟩;refine⟨K,?_⟩;have g2:=(B (U+1) J).trans M;have t2:=(B U J).trans t1;have eA:=cJ.trans B J;refine cL @M @g2 ?_;refine(ZK (ge.F  eA J)).mono ?_;rintro v3 aL bS ⟨Br,D,L⟩;refine⟨L,?_⟩;have dj:=(D (U+1) J).trans g2;have t3:=(D U J).trans t2;obtain⟨ii,ct,rfl,_⟩:=id lA;obtain⟨jN,cB,rfl,_⟩:=id H7;obtain⟨hE,co,rfl,_⟩:=id Br;refine k7 @M @g2 @dj @t3 ?_;refine⟨⟨_,_,_,rfl,lA.F (λd h1 ar=>by rw[aq J,D d J,B d J]) J J,H7.F (λd h1 ar=>by rw[aq J,D d J]) J J,Br.F ab J J⟩,aK,J⟩
end
def Dg(gs ag:aa GE):Prop:=ky ((xT gs).map ee) (ag.map ee)
def Gk(gs ag:aa GE):Prop:=∃cs:aa GE,ky ((zK gs).map ee) (cs.map ee)/\Dg cs ag
def yi(gs ag:aa GE):Prop:=∃us cs:aa GE,ky ((xT gs).map ee) (us.map ee)/\ky ((gs++us).map ee) (cs.map ee)/\Gk cs ag
def awU(gs ag:aa GE):Prop:=∃cs:aa GE,ky ((FE gs).map ee) (cs.map ee)/\yi cs ag
def GF(R:aa GE->Prop)(N U:Nat)(h:ae):bP:=λr ac Y=>∃m ag,r = .tuple ⟨[m,.int .i64 0]⟩/\R ag/\(∀g∈ag,hi N g)/\g8 N N ag/\vY ac U Y m N N ag/\aA U h ac/\U<=Y
theorem o3.can{N q U:Nat}{h ac I:ae}{Y B:Nat}{w7:aa GE}{r:X}(S:o3 N q U h ac Y gs v)(cM:U<=q)(a5:yc N w7 Y ac r I B):∃(K:aa GE) (a:aw Addr) (n c:Nat),r = .agg ⟨[(N:X),.slice a n c]⟩/\ky (w7.map ee) (K.map ee)/\K.length<=w7.length/\u I q=some (.cells [(N:X),v] false)/\Y<=B/\o3 N q U h (T I q (.cells [(N:X),.slice a n c] false)) B K (.slice a n c):=by
 obtain⟨v2,K,rfl,D,L,P,lG,E,M⟩:=a5;have cA:=S.lt;obtain⟨a,n,c,rfl⟩:=D.form;refine⟨K,a,n,c,rfl,L,lG,(E q J).trans S.g,M,ab,?_,?_,P,?_,J⟩
 ·rw[aq J,E _ cA];exact S.m
 ·refine ft.of ?_;have:d5 (T I q (.cells [(N:X),.slice a n c] false)) (.slice a n c) cW 3 K Y B:=by
   rcases D with D|⟨b,h1,I,e,aT⟩
   ·exact .inl D
   ·exact .inr ⟨b,h1,I,e,ab⟩
  exact this.rd
 ·intro b aT;rw[aq J,E b J];exact S.k b aT
theorem ase{s:al}{N:Nat}{h:ae}{U:Nat}(aJ:ft h U v cW gs)(ek:N<=4096)(K:∀g∈gs,hi N g)(bb:gs.length<=120):aH Q s 189 [.agg ⟨[(N:X),v]⟩] h U (GF (Dg gs) N U h):=by
 refine aeB ?_;obtain⟨a,cap,rfl,aZ⟩:=id aJ;unfold RO;refine aF ?_;have bZ:∀{o aX},aA U h (T (T h U o) (U+1) aX):=aK
 refine(Ou (aJ.F bZ J) ek K bb).mono ?_;rintro r h1 kC ⟨rfl,L,fy⟩;have cv:=L U J;rw[aq J,aS]at cv;have dL:=L (U+1) J;rw[aS]at dL;have cJ:aA U h h1:=aK
 refine bg @cv ?_;refine(Qt (aJ.F cJ J) J bb K).mono ?_;rintro r ar nk ⟨v2,ag,rfl,hg,I,D,P,E,eZ⟩;have ayc:ag.length<=gs.length:=hy P (zq gs);have hV:g8 N N ag:=arr I D ek J;obtain⟨a3,ci,rfl,S4⟩:=id hg.gr;refine aF ?_;refine bD.mk (CgJ U (U+1) N (.slice a3 ag.length ci) .nilFunc ag nk ar) ag.length ⟨0,_,rfl,J,rfl,.inl ab,aK,J⟩ ?_;rintro m _ aL tH ⟨i,o,rfl,aj,rfl,S,B,gA⟩;rw[acH];unfold Qp;refine aF ?_;refine⟨λcA=>?_,λeN=>?_⟩
 ·obtain⟨e,bE⟩:=d1 cA;obtain⟨b,aO,bJ,ig,fw,rfl,aT⟩:=S4 ab;have n0:=(B b fw).trans aT;simp(disch:=omega)only[bn,n0,aeT bE,seval];refine l4  (k:=3)  (λ_=>rfl) (λ_=>rfl) J (S.F ab J) J e (aS _ _ _) rfl ab λBb b3 Hb M=>?_;have oN:ag.take (i+1)=ag.take i++[e]:=by rw[hx,bE];rfl
  exact⟨ag.length-(i+1),J,i+1,Bb,rfl,J,by rw[cG J],by rw[oN];exact Hb,λc aZ=>by rw[M c aZ,aq J,aq J,aq J];exact B c aZ,J⟩
 ·have AN:i=ag.length:=J
  subst AN;rw[iQ]at S;have DH:=(B U J).trans ((E U J).trans cv);have S5:=(B (U+1) J).trans ((E (U+1) J).trans dL);refine bg @DH ?_;refine(Oz (ft.of S.rd) hV).mono ?_;rintro r cF tG ⟨dW,hM,lD⟩;obtain⟨dE,aO,gQ,a2,bX,c2,aY,dH,hF,rfl⟩:=dW.is.form;have S6:=(hM (U+1) J).trans S5;refine bg @S6 ?_;exact⟨_,_,rfl,I,D,hV,dW.F ab J J,aK,J⟩
def uS(k:Int)(gs ag:aa GE):Prop:=if k=5 then awU gs ag else if k=3 then yi gs ag else if k=1 then Gk gs ag else Dg gs ag
theorem XQ{s:al}{k n src P:Int}{bM:aa Int}{es:aa hN}{h:ae}{U:Nat}(bp:cN h U eR c3 bM)(bE:ft h U gO io es)(I:es.length<=60\/65536<es.length)(hm0:kh k n src len bM P es=0):
  aH Q s 114 [.agg ⟨[(k:X),(n:X),(src:X),(len:X),eR]⟩,.agg ⟨[(P:X),gO]⟩] h U (GF (uS k (es.map nl)) P.toNat U h):=by
 refine aay ?_;obtain⟨a,cap,rfl,aZ⟩:=id bp;obtain⟨a2,tm,rfl,qu⟩:=id bE;unfold Qo;refine aF ?_;have bZ:∀{o aX kZ},aA U h (T (T (T h U o) (U+1) aX) (U+1+1) kZ):=aK
 refine(IV (bp.F bZ J)).mono ?_;rintro r h1 kC ⟨rfl,d9,fy⟩;have lV:=d9 U J;rw[aq J,aq J,aS]at lV;have om:=d9 (U+1) J;rw[aq J,aS]at om;have tX:=d9 (U+1+1) J;rw[aS]at tX;have cJ:aA U h h1:=aK
 generalize oP:iU k n src len bM=ak at *
 by_cases ix:ak=0
 case neg =>
  exact absurd hm0 (by unfold kh;omega)
 subst ix;refine cL @om @lV ?_;refine⟨λe0=>?_,λAQ=>?_⟩
 ·have e0:P≠n:=ab
  exact absurd hm0 (by unfold kh;omega)
 have AQ:P=n:=ab
 have hmE:kh k n src len bM P es=k5 P es:=by unfold kh;omega
 refine(Pn (bE.F cJ J)).mono ?_;rintro r ar nk ⟨rfl,K,eZ⟩;have eA:=cJ.trans K J;have AR:=(K U J).trans lV;have TZ:=(K (U+1) J).trans om;have Lu:=(K (U+1+1) J).trans tX
 by_cases M:k5 P es=0
 case neg =>
  exact absurd J M
 rw[M]at hmE ⊢;have I:=aeS M I;obtain⟨N,rfl,ek,sq,kt⟩:=(Ji.1 M).ges;have sy:=((bE.F cJ J).F K eZ).map sq;rw[<-gH ]at I;generalize kW:es.map nl=gs at I kt sy ⊢;generalize hRR:uS k gs=R;have B:es.length=gs.length:=ab
 rw[B]at TZ sy;have sJ:o3 N (U+1) U h ar nk gs (.slice a2 gs.length tm):=⟨TZ,Lu,sy,kt,eA,J⟩
 rw[Ip];have tail:∀{ac:ae} {Y:Nat} {gs:aa GE} {a:aw Addr} {n c:Nat},o3 N (U+1) U h ac Y gs (.slice a n c)->U<=Y->gs.length<=120->(∀ag,Dg gs ag->R ag)->rZ s (GF R N U h) (.pointer (some ⟨U+1,0,none⟩)) (.pointer (some ⟨U+1+1,0,none⟩)) ac Y:=λ{ac Y gs a n c} S a1 bb lR=>by have cA:=S.lt;unfold rZ;refine bg S.g ?_;refine(ase S.p ek S.ok bb).mono ?_;rintro r cF tG ⟨m,ag,rfl,eF,ayR,hV,dW,hM,lD⟩;obtain⟨dE,aO,gQ,a2,bX,c2,aY,dH,hF,rfl⟩:=dW.is.form;have ol:=(hM _ S.lt).trans S.m;refine bg @ol ?_;exact⟨_,_,rfl,lR ag eF,ayR,hV,dW.F ab J J,λb aT=>by rw[aq J,hM b J];exact S.k b aT,J⟩
 have plain:∀{ac:ae} {Y:Nat} {gs:aa GE} {a:aw Addr} {n c:Nat},o3 N (U+1) U h ac Y gs (.slice a n c)->U<=Y->gs.length<=120->(∀ag,Gk gs ag->R ag)->aH Q s 188 [.agg ⟨[(N:X),.slice a n c]⟩] ac Y λE L T0=>(dh E).length=2/\af (jY (u L (U+1)) L (U+1) 0 (dh E)) λT1=>rZ s (GF R N U h) (.pointer (some ⟨U+1,0,none⟩)) (.pointer (some ⟨U+1+1,0,none⟩)) T1 T0:=λ{ac Y gs a n c} S a1 bb lR=>by refine(aaY S.p J bb S.ok).mono ?_;intro r cF tG a5;obtain⟨cs,bu,n6,hG,rfl,D,B,cM,dR,tY⟩:=S.can J a5;refine bg @cM ?_;exact tail tY J (by have:=zq (p:=λ_=>true) (m:=Ae) gs;unfold zK at B;omega) λag h=>lR ag ⟨cs,D,h⟩
 have x9:∀{ac:ae} {Y:Nat} {gs:aa GE} {a:aw Addr} {n c:Nat},o3 N (U+1) U h ac Y gs (.slice a n c)->U<=Y->gs.length<=60->(∀ag,yi gs ag->R ag)->aH Q s 181 [.agg ⟨[(N:X),.slice a n c]⟩] ac Y λHe AS AT=>(dh He).length=2/\af (jY (u AS (U+1)) AS (U+1) 0 (dh He)) λu7=>af (Cq (u u7 (U+1)) λcs x=>h0 (some 2) 0 cs) λS7=>aH Q s 188 [S7] u7 AT λE L T0=>(dh E).length=2/\af (jY (u L (U+1)) L (U+1) 0 (dh E)) λT1=>rZ s (GF R N U h) (.pointer (some ⟨U+1,0,none⟩)) (.pointer (some ⟨U+1+1,0,none⟩)) T1 T0:=λ{ac Y gs a n c} S a1 bb lR=>by refine(adi S.p J bb S.ok).mono ?_;rintro r cF tG ⟨us,hus,AH,_,a5⟩;obtain⟨cs,bu,n6,hG,rfl,D,B,cM,dR,tY⟩:=S.can J a5;rw[jm]at B;refine bg @cM ?_;exact plain tY J J λag h=>lR ag ⟨us,cs,hus,D,h⟩
 refine cL @TZ @AR ?_;refine⟨λgz=>?_,λgz=>⟨λch=>x9 sJ J I λag h=>?_,λch=>⟨λaV=>plain sJ J J λag h=>?_,λaV=>tail sJ J J λag h=>?_⟩⟩⟩
 ·refine(YU sJ.p J J kt).mono ?_;intro r cF tG a5;obtain⟨cs,bu,n6,hG,rfl,D,B,cM,dR,tY⟩:=sJ.can J a5;have AM:=zq (p:=Cv) (m:=id) gs;unfold FE at B;refine bg @cM ?_;refine x9 tY J J λag h=>?_;rw[<-hRR,uc.1 gz];exact⟨cs,D,h⟩
 all_goals
  rw[<-hRR];unfold uS;rw[if_neg (rS.1 gz)]
 ·rw[if_pos (uc.1 ch)];exact h
 ·rw[if_neg (rS.1 ch),if_pos (uc.1 aV)];exact h
 ·rw[if_neg (rS.1 ch),if_neg (rS.1 aV)];exact h
theorem adZ{a b:GE}(h:ee a=ee b):a=b:=by
 cases a;cases b;simp only[ee,Prod.mk.injEq]at h
 grind
theorem abY:∀{l B:aa GE},l.map ee=B.map ee->l=B
 | [],[],_=>rfl
 |a::l,b::B,h=>by simp only[t9,vz]at h;rw[adZ h.1,abY h.2]
 | [],_::_,h=>by cases h
 |_::_,[],h=>by cases h
theorem FK{A:aa dz}{l B:aa GE}(h:ky A (l.map ee))(ac:ky A (B.map ee)):l=B:=abY (h.unique ac)
theorem ZL(h:Dg gs ag)(ac:Dg gs us):ag=us:=FK h ac
theorem XR(h:Gk gs ag)(ac:Gk gs us):ag=us:=by obtain⟨a,B,h⟩:=h;obtain⟨b,D,ac⟩:=ac;rw[FK D B]at ac;exact ZL h ac
theorem ZM(h:yi gs ag)(ac:yi gs us):ag=us:=by obtain⟨a,c,D,I,h⟩:=h;obtain⟨b,d,E,B,ac⟩:=ac;rw[FK E D]at B;rw[FK B I]at ac;exact XR h ac
theorem aoB{k:Int}(h:uS k gs ag)(ac:uS k gs us):ag=us:=by
 unfold uS at h ac
 split at h
 ·rw[if_pos J]at ac;obtain⟨a,B,h⟩:=h;obtain⟨b,D,ac⟩:=ac;rw[FK D B]at ac;exact ZM h ac
 ·rw[if_neg J]at ac
  split at h
  ·rw[if_pos J]at ac;exact ZM h ac
  ·rw[if_neg J]at ac
   split at h
   ·rw[if_pos J]at ac;exact XR h ac
   ·rw[if_neg J]at ac;exact ZL h ac
def mo(Z:b5):jb:={ A:=λv=>sc Z.k Z.src v,B:=λ_=>-1,q:=λv=>sd Z.k Z.src v }
structure NwI (Z:b5) (i j U:Nat) (h:ae) (ac:ae) (Y aI:Nat) (c:Nat->X) (aU:aw Nat) (bt b0 cw:Nat) (l:aa ev) (g:ae):Prop where
 k:aA U h ac
 p:U<=aI
 eo:U<=bt/\bt<Y/\bt≠aI/\aU≠some bt/\u g bt=none/\u ac bt=some (.map [] 0)
 gY:U<=b0/\b0<Y/\b0≠aI/\aU≠some b0/\u g b0=none/\u ac b0=some (.map [] 0)
 i1:U<=cw/\cw<Y/\cw≠aI/\aU≠some cw/\u g cw=none/\u ac cw=some (.map [] 0)
 ne:bt≠b0/\bt≠cw/\b0≠cw
 W:eW ac Y aI c i j Z.C l aU
 b:∀b,aU=some b->U<=b/\u g b=none
 G:rE g ac Y aI
 o:∀d,d<U->u g d=none
 z:j1 g Y c Z i j
 m:c 23 = .int .i64 1/\c 24 = .map (some bt)/\c 25 = .int .i64 1/\c 26 = .int .i64 0/\c 27 = .int .i64 0/\c 39 = .bool false/\c 40 = .slice none 0 0/\c 41 = .map (some b0)/\c 42 = .int .i64 0/\c 43 = .map (some cw)/\c 44 = .bool false
 aCg:j≠0->l=[]/\c 38 = .bool false
 aAR:j=0->c 38 = .bool true/\ja g Y (.agg ⟨[c 28,c 29,c 30,c 31,c 32]⟩) (Z.bv i) (Z.H i) (mo Z)/\(∀n,28<=n->n<33->c (n+5)=c n)/\l=[Cx ((i*Z.C+0:Nat):Int) 0 (ql Z.k Z.len 0 (Z.H i) (cz (Z.H i) λk=>(mo Z).A (Z.bv i+k)) (λk=>(mo Z).q (Z.bv i+k)):Int) false]
theorem xP.F{h ac:ae}{ao aj d6 dy:Nat}{v:X}{r c:Nat}{ag:aa GE}(H:xP h ao aj v r c ag)(D:∀d,ao<=d->d<aj->u ac d=u h d)(E:d6<=ao)(B:aj<=dy):xP ac d6 dy v r c ag:=by obtain⟨P,M,I,L,e,aB,⟨b,K,aP,dE,b4,dZ⟩,a3,aY⟩:=H;exact⟨P,M,I,L,e,aB.F D E B,⟨b,K,aP,J,J,ab⟩,a3.F D E B,aY.F D E B⟩
def NwP(Z:b5)(i j U:Nat)(h:ae):bP:=λr ac Y=>∃aI c aU bt b0 cw l g,r = .tuple ⟨[bd aI,.int .i64 0]⟩/\NwI Z i j U h ac Y aI c aU bt b0 cw l g/\U<=Y
theorem asf{s:al}{x:iI}{I eB:Nat}{e1:X}{h:ae}{U:Nat}{Z:b5}(K:fV Z)(H:pr h U x eR gO e1)(An:cN h U e1 yh [])(yn:x.u9=0)(Lb:x.bM.length<1000000)(au:he x=0)(aj:I<Z.R)(b1:eB<Z.C)(z:Z.k=x.k/\x.n=(Z.N:Int)/\Z.src=x.src/\Z.len=x.len/\Z.bM=x.bM/\x.R=(Z.R:Int)/\x.C=(Z.C:Int)/\x.lim=(Z.lim:Int))(ayS:Z.N<=60)(hg:uS x.k (x.es.map nl) Z.ag):
  aH Q s 59 [.agg ⟨gB x eR gO e1⟩,(I:X),(eB:X)] h U (NwP Z I eB U h):=by
 refine awr ?_;obtain⟨a8,gM,rfl,_⟩:=id H.d;obtain⟨bY,sN,rfl,_⟩:=id H.e;obtain⟨bQ,hr,rfl,_⟩:=id An;have bZ:∀{o},aA U h (T h U o):=aK
 have jh:∀{o},pr (T h U o) (U+1) x _ _ _:=λ{o}=>H.F aK J;unfold gB at *
 unfold agb bw ls cH ax bG aW ad aN bI;refine aF ?_;refine(Jj jh).mono ?_;rintro _ h1 bh ⟨rfl,d9,fy⟩;have cv:=d9 U J;rw[aS]at cv;have cJ:aA U h h1:=aK
 rw[au];refine bg @cv ?_;refine⟨λaT=>absurd aT J,λhi0=>⟨λaT=>absurd aT J,λhi1=>⟨λaT=>absurd aT J,λAZ=>?_⟩⟩⟩;rw[show(!decide ((eB:Int)<x.C))=false by rw[g4 J];rfl];obtain⟨dt,eG,gt,mr,aBS,aCX,vt,aCY,aCZ,q10⟩:=ars au;obtain⟨Mw,ek,tZ,w0,U2,dW,ed,aCh⟩:=z;obtain⟨N,o7⟩:∃N,Z.N=N:=⟨_,rfl⟩
 obtain⟨R,Bf⟩:∃R,Z.R=R:=⟨_,rfl⟩
 obtain⟨C,Bg⟩:∃C,Z.C=C:=⟨_,rfl⟩
 obtain⟨ag,sK⟩:∃ag,Z.ag=ag:=⟨_,rfl⟩
 rw[sK]at hg;rw[o7]at ek ayS;rw[Bf]at dW aj;rw[Bg]at ed b1;have hGN:x.c6.toNat=N:=J
 unfold FZ bw jk cg ax bf aW b9 jg c0 ad aN bT bW ay bI;refine bg @cv ?_;refine(XQ (H.d.F cJ J) (H.e.F cJ J) H.l dt).mono ?_;rw[hGN];rintro _ M bX ⟨m,fj,rfl,hTs,_,hV,hRm,ei,eZ⟩;obtain rfl:ag=fj:=aoB hg hTs;have ayT:=hRm;obtain⟨dE,sp1,nn1,a2',n2',c2',Hn,n4',Ho,rfl⟩:=hRm.is.form;have g2:=(ei U J).trans cv;have eA:aA U h M:=aK
 refine bg @g2 ?_;have K2':∀{o aX},aA U h (T (T M bX o) bX aX):=aK
 refine(anx (An.F  K2' J) (by simp)).mono ?_;rintro vch aL P ⟨GZ,e8,gA⟩;have aAj:=GZ;obtain⟨T2,T3,rfl,_⟩:=id GZ;have dj:=e8 U J;rw[aq J,aq J,g2]at dj;refine bg @dj ?_;refine⟨J,?_⟩;have fI:aA U h aL:=aK
 rw[anz];have gm3:=e8 bX J;rw[aS]at gm3;refine hK @awC @awD @dj ?_;generalize D:Hr (I:Int) (eB:Int) x.k x.n x.src x.len a8 x.bM.length gM x.R x.C x.lim T2 0 T3=c1;have kr:c1 0 = (I:X):=by rw[<-D];rfl
 have fF:c1 1 = (eB:X):=by rw[<-D];rfl
 have gj:c1 2 = (x.k:X):=by rw[<-D];rfl
 have mu:c1 3 = (x.n:X):=by rw[<-D];rfl
 have U3:c1 4 = (x.src:X):=by rw[<-D];rfl
 have f5:c1 5 = (x.len:X):=by rw[<-D];rfl
 have Ef:c1 8 = (x.C:X):=by rw[<-D];rfl
 have f22:c1 22 = .slice none 0 0:=by rw[<-D];rfl
 have aCi:c1 7 = (x.R:X):=by rw[<-D];rfl
 have aCj:c1 9 = (x.lim:X):=by rw[<-D];rfl
 have f10:c1 10 = .slice T2 0 T3:=by rw[<-D];rfl
 have f23:c1 23 = .int .i64 1:=by rw[<-D];rfl
 have f25:c1 25 = .int .i64 1:=by rw[<-D];rfl
 have f26:c1 26 = .int .i64 0:=by rw[<-D];rfl
 have f27:c1 27 = .int .i64 0:=by rw[<-D];rfl
 have f38:c1 38 = .bool false:=by rw[<-D];rfl
 have f39:c1 39 = .bool false:=by rw[<-D];rfl
 have f40:c1 40 = .slice none 0 0:=by rw[<-D];rfl
 have f42:c1 42 = .int .i64 0:=by rw[<-D];rfl
 have f44:c1 44 = .bool false:=by rw[<-D];rfl
 clear D;have K3':∀{o},aA U h (T aL P o):=fI.set J;refine(EW (H.d.F  K3' J) Lb).mono ?_;rintro vds bm dH ⟨hvd,fP,ir⟩;have R6:=hvd;obtain⟨T4,T5,rfl,_⟩:=id hvd;have gw4:=fP P J;rw[aS]at gw4;have dL:=fP U J;rw[aq J,dj]at dL;have gm4:=fP bX J;rw[aq J,gm3]at gm4;refine uG @gw4 @dL @gm4 @dW @ed ?_;rw[arz];refine⟨by show 6<45;omega,?_⟩;have gR:∀{o},aA U h (T bm P o):=λ{o} d bp=>by rw[aq J,fP d J,aq J,fI d bp]
 have hRi:kc (T bm P (.cells (du (g9 c1 6 (.slice T4 x.bM.length T5))) false)) dH _ N N ag:=(ayT.F    (λd h1 M=>by rw[aq J,fP d J,aq J,e8 d J,aq J,aq J]) J J).is;refine(aui hV hRi J J J J J J).mono ?_;rintro fB b3 fT ⟨et,hq,oJ⟩;have hB0:=et;obtain⟨f8,sp5,nn5,kY,n25,c25,DA,n45,c45,rfl⟩:=et.is.form;have gw5:=hq P J;rw[aS]at gw5;have gc:=hq U J;rw[aq J,dL]at gc;have mW:aA U h b3:=gR.trans hq J;refine hK @gw5 @art @arx ?_;have oM:=ui (n:=N) (k:=R) (J:I<=I+1);have tw:=ui (n:=N) (k:=C) (J:eB<=eB+1);have hl3:=s6 (n:=N) (k:=R) J (I+1);have hl4:=s6 (n:=N) (k:=C) J (eB+1);refine(auj (JK hV J J) (hB0.F (d6:=0) (dy:=fT) (λd h1 M=>aq J) J J).is).mono ?_;rintro vco cF L ⟨fj,eF,TN,hCs,hM,lD⟩;have ayU:=hCs;obtain⟨dc,db,i3,ns,rfl,hw,⟨bb2,aAk,rfl,cb1,cb2,cb3⟩,o4,aCk⟩:=hCs;obtain⟨aw1,cw1,rfl⟩:=hw.Hh.form;obtain⟨aw3,cw3,rfl⟩:=o4.Hh.form;obtain⟨aw4,cw4,rfl⟩:=aCk.Hh.form;have gw6:=hM P J;rw[aS]at gw6;have ol:=hM U J;rw[aq J,gc]at ol;have yT:aA U h cF:=λd bp=>by rw[hM d J,aq J];exact mW d bp
 simp(disch:=omega)only[bn,gw6,aru,F3,anA,anB,anC,ol,ek,dW,seval];generalize DS:T (T (T (T (T (T (T cF P _) L _) (L+1) _) (L+1+1) _) P _) P _) P _=xc;have gF:∀d,d≠P->d<L->u xc d=u cF d:=λd h1 M=>by rw[<-DS,aq J,aq J,aq J,aq J,aq J,aq J,aq J]
 have L4:∃E,u xc P=some (.cells (du E) false)/\E 0 = (I:X)/\E 1 = (eB:X)/\E 2 = (x.k:X)/\E 3 = (x.n:X)/\E 4 = (x.src:X)/\E 5 = (x.len:X)/\E 6 = .slice T4 x.bM.length T5/\E 7 = (x.R:X)/\E 8 = (x.C:X)/\E 9 = (x.lim:X)/\E 10 = .slice T2 0 T3/\E 22 = .slice none 0 0 /\
   vY b3 dH fT (.agg ⟨[E 11,E 12,E 13,E 14,E 15]⟩) (c8 N R (I+1)-c8 N R I) (c8 N C (eB+1)-c8 N C eB) (lE ag (c8 N R I) (c8 N R (I+1)-c8 N R I) (c8 N C eB) (c8 N C (eB+1)-c8 N C eB)) /\
   xP cF fT L (.agg ⟨[E 16,E 17,E 18,E 19,E 20,E 21]⟩) (c8 N R (I+1)-c8 N R I) (c8 N C (eB+1)-c8 N C eB) fj /\
   (E 23 = .int .i64 1/\E 24 = .map (some L)/\E 25 = .int .i64 1/\E 26 = .int .i64 0/\E 27 = .int .i64 0/\E 39 = .bool false/\E 40 = .slice none 0 0/\E 41 = .map (some (L+1))/\E 42 = .int .i64 0/\E 43 = .map (some (L+2))/\E 44 = .bool false)/\E 38 = .bool false:=by rw[<-DS,aS];exact⟨_,rfl,kr,fF,gj,mu,U3,f5,rfl,aCi,Ef,aCj,f10,f22,hB0,ayU,⟨f23,rfl,f25,f26,f27,f39,f40,rfl,f42,rfl,f44⟩,f38⟩
 have T6:u xc L=some (.map [] 0)/\u xc (L+1)=some (.map [] 0)/\u xc (L+2)=some (.map [] 0):=by
  refine⟨?_,?_,?_⟩
  ·rw[<-DS,aq J,aq J,aq J,aq J,aq J,aS]
  ·rw[<-DS,aq J,aq J,aq J,aq J,aS]
  ·rw[<-DS,aq J,aq J,aq J,aS]
 have qJ:=(gF U J J).trans ol;have xd:aA U h xc:=λd bp=>by rw[gF d J J];exact yT d bp
 clear DS;obtain⟨E,L4,aAS,ii,jN,hE,sG,vj,aAT,iE,nA,UN,n1,x22,aCl,aCm,aCn,Tk⟩:=L4;subst o7 Bf Bg sK;have K39:P+1<=dH:=ir;have fin:∀(kI:ae) (qL:Nat) (qM:Nat->X) (aU:aw Nat) (l:aa ev),L+3<=qL->(∀d,d<L+3->d≠P->u kI d=u xc d)->(∀n,n≠22->n<28\/38<n->qM n=E n)->eW kI qL P qM I eB Z.C l aU->(∀b,aU=some b->L+3<=b)->(eB≠0->l=[]/\qM 38 = .bool false)->(eB=0->qM 38 = .bool true/\(∃L5,(∀b,aU=some b->L5<=b)/\L5<=qL/\lF kI (L+3) L5 (.agg ⟨[qM 28,qM 29,qM 30,qM 31,qM 32]⟩) (Z.bv I:Int) ((Z.bv I+Z.H I:Nat):Int) (Z.H I) (cz (Z.H I) λk=>(mo Z).A (Z.bv I+k)) (cz (Z.H I) λk=>(mo Z).B (Z.bv I+k)) (λk=>(mo Z).q (Z.bv I+k)))/\(∀n,28<=n->n<33->qM (n+5)=qM n)/\l=[Cx ((I*Z.C+0:Nat):Int) 0 (ql Z.k Z.len 0 (Z.H I) (cz (Z.H I) λk=>(mo Z).A (Z.bv I+k)) (λk=>(mo Z).q (Z.bv I+k)):Int) false]) ->
   NwP Z I eB U h (.tuple ⟨[bd P,.int .i64 0]⟩) kI qL:=by
  intro kI qL qM aU l bH vd B U4 ni hj1 AZ;obtain⟨g,a6⟩:=CA (λd=>if d<U\/d=P\/d=L\/d=L+1\/d=L+2\/aU=some d then 1 else 0) kI qL;have sz:∀d,u g d=if d<qL/\(if d<U\/d=P\/d=L\/d=L+1\/d=L+2\/aU=some d then 1 else 0)=0 then u kI d else none:=a6
  have aAU:∀d,U<=d->d<qL->d≠P->(d<L\/L+3<=d)->aU≠some d->u g d=u kI d:=λd h1 M aL bm b3=>by
   rw[sz d,if_pos ⟨M,if_neg (by rintro(e|e|e|e|e|e) <;> first|exact b3 e|omega)⟩]
  have c6:∀d,(d<U\/d=P\/d=L\/d=L+1\/d=L+2\/aU=some d)->u g d=none:=λd h1=>by rw[sz d,if_neg λe=>by rw[if_pos h1]at e;exact absurd e.2 (by decide)]
  have DG:∀d,d<L+3->aU≠some d:=λd bp e=>by have:=ni d e;omega
  have tX:∀d,P+1<=d->d<L->u g d=u cF d:=λd h1 M=>by rw[aAU d J J J (.inl M) (DG d J),vd d J J,gF d J M]
  refine⟨P,qM,aU,L,L+1,L+2,l,g,rfl,⟨λd bp=>(vd d J J).trans (xd d bp),J,⟨J,J,J,DG _ J,c6 _ (by simp),(vd _ J J).trans T6.1⟩,⟨J,J,J,DG _ J,c6 _ (by simp),(vd _ J J).trans T6.2.1⟩,⟨J,J,J,DG _ J,c6 _ (by simp),(vd _ J J).trans T6.2.2⟩,J,U4,λb e=>⟨by have:=ni b e;omega,c6 b (by simp[e])⟩,⟨je.sub a6,c6 _ (by simp),λd bp=>by rw[sz d,if_neg J]⟩,λd bp=>c6 d (.inl bp),⟨?_,?_,?_,?_,?_,?_,?_,?_,?_,?_⟩,?_,hj1,λe=>?_⟩,J⟩
  ·rw[B 2 J J,jN,Mw]
  ·rw[B 3 J J,hE,ek]
  ·rw[B 4 J J,sG,tZ]
  ·rw[B 5 J J,vj,w0]
  ·rw[B 6 J J,aAT,U2];exact(eH.F R6 (d6:=0) (dy:=qL) (λd h1 M=>by rw[tX d J J,hM d J,aq J,hq d J,aq J]) J J).rd
  ·rw[B 7 J J,iE,dW]
  ·rw[B 9 J J,UN,aCh]
  ·exact⟨_,_,(B 10 J J).trans n1⟩
  ·rw[B 11 J J,B 12 J J,B 13 J J,B 14 J J,B 15 J J];exact(aCl.F (d6:=0) (dy:=qL) (λd h1 M=>by rw[tX d J J,hM d J,aq J]) J J).is
  ·rw[B 16 J J,B 17 J J,B 18 J J,B 19 J J,B 20 J J,B 21 J J];exact⟨fj,eF,TN,(xP.F aCm (d6:=0) (dy:=qL) (λd h1 M=>tX d J J) J J).s⟩
  ·obtain⟨aB,a2,a3,aY,bN,bu,ba,bx,c4,di,en⟩:=aCn;exact⟨(B _ J J).trans aB,(B _ J J).trans a2,(B _ J J).trans a3,(B _ J J).trans aY,(B _ J J).trans bN,(B _ J J).trans bu,(B _ J J).trans ba,(B _ J J).trans bx,(B _ J J).trans c4,(B _ J J).trans di,(B _ J J).trans en⟩
  ·obtain⟨dE,⟨L5,b4,dZ,fA⟩,f8,HX⟩:=AZ e;exact⟨dE,(fA.wid (d6:=0) (dy:=qL) (λd h1 M=>aAU d J J J (.inr h1) λe=>by have:=b4 d e;omega) J dZ).rd,f8,HX⟩
 have GD:P<L+3:=J
 refine⟨λA8=>?_,λA8=>fin xc (L+3) E none [] (cD _) (λ_ _ _=>rfl) (λ_ _ _=>rfl) ⟨L4,GD,J,J,J,b1,aAS,ii,by rw[nA,ed],by rw[x22];exact .nil,nofun⟩ (nofun) (λ_=>⟨rfl,Tk⟩) λe=>absurd A8 (by rw[e];decide)⟩;have hJ0:eB=0:=by have:=uc.1 A8;omega
 subst hJ0;refine(uu (n:=Z.N) (k:=Z.R) (i:=I) J J J J).fR ⟨cD _,?_⟩;refine k7 @qJ @dW @ek (cG (J:I<1000000000000)) ?_;refine(uu (n:=Z.N) (k:=Z.R) (i:=I+1) J J J J).fR ⟨cD _,?_⟩;have bl:c8 Z.N Z.R (I+1)=Z.bv I+Z.H I:=by unfold b5.H b5.bv;omega
 have ro:Z.bv I+Z.H I<=Z.N:=by rw[<-bl];exact hl3
 rw[bl,show c8 Z.N Z.R I=Z.bv I from rfl];refine cL @qJ @ek ?_;have hdS:cN xc (L+1+1+1) (.slice a8 x.bM.length gM) c3 x.bM:=H.d.F xd J;rw[ek]at eG;refine(anv (m:=Z.H I) (low:=Z.bv I) hdS eG J J J).mono ?_;rintro aE rP n8 ⟨dI,A0,ags⟩;have H8:∀k:Nat,(mo Z).A (Z.bv I+k)=sc x.k x.src ((Z.bv I:Int)+(k:Int)):=λk=>by show sc Z.k Z.src ((Z.bv I+k:Nat):Int)=_;rw[Mw,tZ,vy]
 have aCo:∀k:Nat,(mo Z).q (Z.bv I+k)=sd x.k x.src ((Z.bv I:Int)+(k:Int)):=λk=>by show sd Z.k Z.src ((Z.bv I+k:Nat):Int)=_;rw[Mw,tZ,vy]
 replace dI:lF rP (L+3) n8 aE (Z.bv I:Int) ((Z.bv I+Z.H I:Nat):Int) (Z.H I) (cz (Z.H I) λk=>(mo Z).A (Z.bv I+k)) (cz (Z.H I) λk=>(mo Z).B (Z.bv I+k)) (λk=>(mo Z).q (Z.bv I+k)):=by simp only[H8,aCo];exact dI
 have hS0:=dI;obtain⟨dp,fB,fg,rfl,fK,ha,ge⟩:=dI;obtain⟨sa1,sc1,rfl,_⟩:=id fK;obtain⟨sa2,sc2,rfl,_⟩:=id ha;obtain⟨sa3,sc3,rfl,_⟩:=id ge;have gw8:=(A0 P J).trans L4;refine k7 @gw8 @arv @arw @ary ?_;refine⟨J,?_⟩;have hdK:pi rP n8 (.slice T4 x.bM.length T5) Z.k Z.src Z.len Z.N Z.bM:=⟨by rw[U2];exact(eH.F R6 (d6:=0) (dy:=n8) (ac:=rP) (λd h1 M=>by rw[A0 d J,gF d J J,hM d J,aq J,hq d J,aq J]) J J).rd,K.dok,K.n60,K.pl,K.hD⟩
 generalize DT:nc (nc E 28 _) 33 _=g3;have qx:∀n,n<28\/38<=n->g3 n=E n:=λn bH=>by rw[<-DT,s9 (by show n<33\/38<=n;omega),s9 (by show n<28\/33<=n;omega)]
 have Lg:Value.agg ⟨[g3 28,g3 29,g3 30,g3 31,g3 32]⟩ = .agg ⟨[.int .i64 (Z.bv I:Int),((Z.bv I+Z.H I:Nat):X),.slice sa1 (cz (Z.H I) λk=>(mo Z).A (Z.bv I+k)).length sc1,.slice sa2 (cz (Z.H I) λk=>(mo Z).B (Z.bv I+k)).length sc2,.slice sa3 (eS (Z.H I) λk=>(mo Z).q (Z.bv I+k)).length sc3]⟩:=by rw[<-DT];rfl
 have Sz:Value.agg ⟨[g3 33,g3 34,g3 35,g3 36,g3 37]⟩ = .agg ⟨[.int .i64 (Z.bv I:Int),((Z.bv I+Z.H I:Nat):X),.slice sa1 (cz (Z.H I) λk=>(mo Z).A (Z.bv I+k)).length sc1,.slice sa2 (cz (Z.H I) λk=>(mo Z).B (Z.bv I+k)).length sc2,.slice sa3 (eS (Z.H I) λk=>(mo Z).q (Z.bv I+k)).length sc3]⟩:=by rw[<-DT];rfl
 have bE:∀n,28<=n->n<33->g3 (n+5)=g3 n:=λn h1 M=>by
  rw[<-DT];rcases(by omega:n=28\/n=29\/n=30\/n=31\/n=32)with rfl|rfl|rfl|rfl|rfl <;> rfl
 clear DT;have U0:∀{o},eW (T (T rP P o) P (.cells (du g3) false)) n8 P g3 I 0 Z.C [] none:=λ{o}=>⟨aS _ _ _,J,J,J,J,b1,(qx 0 J).trans aAS,(qx 1 J).trans ii,by rw[qx 8 J,nA,ed],by rw[qx 22 J,x22];exact .nil,nofun⟩
 refine(WE (k:=Z.k) (N:=Z.N) (src:=Z.src) (len:=Z.len) (bM:=Z.bM) (S:=mo Z) (low:=Z.bv I) (m:=Z.H I) (l:=[]) U0 (by decide) { hdK with d:=?_ } (by rw[qx 2 J,jN,Mw]) (by rw[qx 3 J,hE,ek]) (by rw[qx 4 J,sG,tZ]) (by rw[qx 5 J,vj,w0]) ?_ ro).mono ?_
 ·rw[qx 6 J,aAT,U2];exact(eH.F R6 (d6:=0) (dy:=n8) (λd h1 M=>by rw[aq J,aq J,A0 d J,gF d J J,hM d J,aq J,hq d J,aq J]) J J).rd
 ·rw[Sz];exact(hS0.wid (d6:=0) (dy:=n8) (λd h1 M=>by rw[aq J,aq J]) J (cD _)).rd
 rintro _ kI qL ⟨rfl,dN,cd,U4,hh,hf9,ayV⟩;have aAV:∀d,d<n8->d≠P->u kI d=u rP d:=λd h1 M=>by rw[hf9 d h1 M (nofun),aq M,aq M]
 refine fin kI qL _ (some cd) _ J (λd h1 M=>by rw[aAV d J M,A0 d J]) (λn h1 M=>by rw[dF h1,dF J];exact qx n J) U4 (λb e=>by cases e;omega) (λe=>absurd rfl e) λ_=>⟨?_,⟨n8,λb e=>(by cases e;exact hh),ayV,?_⟩,λn h1 M=>?_,rfl⟩
 ·rw[dF J,xW]
 ·rw[dF J,dF J,dF J,dF J,dF J,dF J,dF J,dF J,dF J,dF J,Lg];exact hS0.wid (λd h1 M=>aAV d M J) (cD _) (cD _)
 ·rw[dF J,dF J,dF J,dF J];exact bE n h1 M
def b5.eT(Z:b5):jc:=⟨Z.k,Z.N,Z.src,Z.len,λb=>iu Z.bM Z.N b,Z.ag,Z.lim⟩
def b5.i5(Z:b5)(t i:Nat):Int:=(ql Z.k Z.len t (Z.H i) (cz (Z.H i) λk=>(Z.eT.st t).A (Z.bv i+k)) (λk=>(Z.eT.st t).q (Z.bv i+k)):Int)
def b5.fY(Z:b5)(t:Nat):Int:=vJ false (decide (∃i,i<Z.R/\Z.i5 t i≠0)) (t:Int) (Z.lim:Int)
def pA(Z:b5):cr->ku
 | .share i j t=>J5 Z i t (Z.eT.x t) j
 | .spread i j t=>PR Z j t (Z.eT.x t) i
 | .dw i j t=>⟨3,((i*Z.C+j:Nat):Int),((i*Z.C+0:Nat):Int),t,0,[],bj (Z.H i) (ip (fb Z.k t) (Z.cut i j) λk=>Z.eT.x t (Z.lc j+k)),0,false⟩
 | .dx i t=>⟨4,((i*Z.C+0:Nat):Int),0,t,0,[],[],Z.i5 t i,false⟩
 | .order i t=>s7 Z t (Z.fY t) i
def b5.uT(Z:b5)(t i:Nat)(dP:Nat->al)(v:Nat):aw Int:=zU (fb Z.k t) Z.ag (Z.eT.x t) (Z.bv i) (Z.H i) Z.C Z.lc dP (v-Z.bv i)
structure KV (Z:b5) (av:Nat) (x:f6) (i:Nat) (g h:ae) (U:Nat) (c:Nat->X) (so:aw Nat) (b0:Nat):Prop where
 DU:c 26 = ((x.a i-1:Nat):X)
 A2:c 27 = .int .i64 (if x.a i=0 then 0 else Z.fY (x.a i-1))
 L6:c 38 = .bool (x.w i)
 DV:c 39 = .bool (decide (0<x.a i))
 has:ja g U (.agg ⟨[c 28,c 29,c 30,c 31,c 32]⟩) (Z.bv i) (Z.H i) (Z.eT.st (x.a i-1))
 T7:ja g U (.agg ⟨[c 33,c 34,c 35,c 36,c 37]⟩) (Z.bv i) (Z.H i) (Z.eT.st (if x.w i=true then x.a i else x.a i-1))
 m2:x.w i=true->c 40 = .slice none 0 0/\so=none
 m3:x.w i=false->x.a i<=av->iy h b0 Z.C (x.dP i) (λ_ v=>v = .bool true)/\mQ h (c 40) (bj (Z.H i) λk=>Z.uT (x.a i) i (x.dP i) (Z.bv i+k)) so
theorem KV.F{Z:b5}{av:Nat}{x f4:f6}{i:Nat}{g h b8 ac:ae}{U Y:Nat}{c bO:Nat->X}{so:aw Nat}{b0:Nat}(M:KV Z av x i g h U c so b0)(D:f4.a i=x.a i)(L:f4.w i=x.w i)(I:f4.dP i=x.dP i)(B:∀n,26<=n->n<41->bO n=c n)(K:aA U g b8)(E:U<=Y)(h1:u ac b0=u h b0)(ar:∀b,so=some b->u ac b=u h b):KV Z av f4 i b8 ac Y bO so b0:=by
 refine⟨?_,?_,?_,?_,?_,?_,λe=>?_,λe aP=>?_⟩
 ·rw[B 26 J J,D];exact M.DU
 ·rw[B 27 J J,D];exact M.A2
 ·rw[B 38 J J,L];exact M.L6
 ·rw[B 39 J J,D];exact M.DV
 ·rw[B 28 J J,B 29 J J,B 30 J J,B 31 J J,B 32 J J,D];exact hf.F M.has K E
 ·rw[B 33 J J,B 34 J J,B 35 J J,B 36 J J,B 37 J J,D,L];exact hf.F M.T7 K E
 ·rw[B 40 J J];exact M.m2 ab
 ·rw[B 40 J J,I,D];obtain⟨P,eG⟩:=M.m3 ab J;exact⟨P.F h1 ab,eG.F ar⟩
structure jt (Z:b5) (av:Nat) (x:f6) (i j:Nat) (own:Nat->Nat) (g h:ae) (U aI:Nat) (c:Nat->X) (l:aa ev) (aU so:aw Nat) (bt b0 cw:Nat):Prop where
 W:eW h U aI c i j Z.C l aU
 z:j1 g U c Z i j
 p:own aI=i*Z.C+j+1
 b:∀b,aU=some b->own b=i*Z.C+j+1
 f:kB g 0 U l ((x.out (i*Z.C+j)).map (pA Z))
 eo:bt<U/\own bt=i*Z.C+j+1/\bt≠aI/\aU≠some bt/\so≠some bt
 gY:b0<U/\own b0=i*Z.C+j+1/\b0≠aI/\aU≠some b0/\so≠some b0
 i1:cw<U/\own cw=i*Z.C+j+1/\cw≠aI/\aU≠some cw/\so≠some cw
 ne:bt≠b0/\bt≠cw/\b0≠cw
 s:∀b,so=some b->b<U/\own b=i*Z.C+j+1/\b≠aI/\aU≠some b
 oW:c 24 = .map (some bt)
 mn:c 41 = .map (some b0)
 rG:c 43 = .map (some cw)
 rC:c 25 = ((x.q i j+1:Nat):X)
 top:i=0->c 23 = ((x.P j+1:Nat):X)/\iy h bt Z.R (x.e3 j) (sC g 0 U Z j (Z.eT.x (x.P j+1)))
 o:j=0->KV Z av x i g h U c so b0
 m4:∃es cE,u h b0=some (.map es cE)
 one:i=0->j=0->c 42 = (x.V:X)/\c 44 = .bool (decide (av<x.V))/\iy h cw Z.R x.fL (Hy (Z.i5 x.V))
theorem v0{eb:Nat}{own:Nat->Nat}{h ac:ae}{U Y:Nat}(aU so:aw Nat)(B:U<=Y)(same:∀d,d<U->own d≠eb->u ac d=u h d):
  ∃da b8,je da ac Y b8/\DQ eb own da h ac U Y/\(∀d,U<=d->(aU=some d\/so=some d)->da d=eb)/\(∀d,U<=d->aU≠some d->so≠some d->da d=0):=by
 obtain⟨b8,D⟩:=CA (λd=>if d<U then own d else if aU=some d\/so=some d then eb else 0) ac Y;refine⟨_,b8,D,⟨B,same,ab,ab⟩,ab,ab⟩
 all_goals grind
def DW(Z:b5)(av:Nat)(x:f6)(m:cr)(i j:Nat)(own:Nat->Nat)(h:ae)(U aI bt b0 cw:Nat):bP:=λr ac Y=>r = .bool true/\∃da b8 bO b6 gJ rF,jt Z av (cO Z.R Z.C av x m) i j da b8 ac Y aI bO b6 gJ rF bt b0 cw/\je da ac Y b8/\DQ (i*Z.C+j+1) own da h ac U Y
section
variable {s:al} {g h:ae} {U aI i j ao av t:Nat} {c:Nat->X} {l:aa ev} {aU so:aw Nat} {Z:b5} {own:Nat->Nat} {x:f6} {bt b0 cw:Nat}
theorem jt.T8(R:jt Z av x i j own g h U aI c l aU so bt b0 cw)(B:je own h U g):rE g h U aI:=⟨B.sub,by rw[B aI,if_neg (by have:=R.p;omega)],λd D=>by rw[B d,if_neg J]⟩
theorem je.Dh{eb d:Nat}(B:je own h U g)(E:own d=eb)(D:eb≠0):u g d=none:=by rw[B d,if_neg J]
theorem aoC{x:Nat->aw Int}(h:∀g∈ag,x g.t=y g.t):ip r ag x=ip r ag y:=by
 funext v
 unfold ip;rw[o9 λg B=>by rw[h g B]]
theorem ahK{f:ev}{p:ku}{x:Nat->aw Int}(K:fV Z)(W:eW h U aI c i j Z.C l aU)(H:j1 h U c Z i j)(bb:l.length<900)(bK:mF h U f p)(P:t<900)(M:p.lU=bj (Z.W j) x)(ec:p.lW=(Z.W j:Int))(ms:p.round=(t:Int))(E:c 25 = (t:X))(aj:i<Z.R)(a1:∀i y,i<Z.W j->x i=some y->0<=y/\y<=er):
  aH Q s 134 [bd aI,.agg ⟨d8 f⟩,.agg ⟨[.int .i64 0,(j:X)]⟩] h U (λr ac Y=>r = .bool true/\∃dN D I,eW ac Y aI (g9 (g9 c 25 (((t+1:Nat):X))) 22 dN) i j Z.C (l++[I]) (some D) /\
   sB ac U D I ⟨3,((i*Z.C+j:Nat):Int),((i*Z.C+0:Nat):Int),t,0,[],bj (Z.H i) (ip (fb Z.k t) (Z.cut i j) x),0,false⟩/\U<=D/\(∀d,d<U->d≠aI->aU≠some d->u ac d=u h d)/\U<=Y):=by
 have e:∀k,k<Z.W j->(λk=>if k<Z.W j then x k else none) k=x k:=λk hk=>if_pos hk;have L:=ahG (s:=s) (x:=λk=>if k<Z.W j then x k else none) K W H bb bK P (by rw[M];exact(xE e).symm) ec ms E aj λk y B=>by
  have B:(if k<Z.W j then x k else none)=some y:=B
  split at B
  ·exact a1 k y J B
  ·cases B
 rw[aoC λg a6=>e g.t ((adY K).l9 g a6)]at L;exact L
theorem jt.spread{f:ev}(K:fV Z)(R:jt Z av x i j own g h U aI c l aU so bt b0 cw)(dK:je own h U g)(a1:mL Z.R Z.C av x (.spread i j t))(eF:av<900)(et:∀v y,v<Z.N->Z.eT.x t v=some y->0<=y/\y<=er)(bK:lo h ao U f (pA Z (.spread i j t)))(bb:(x.out (i*Z.C+j)).length<800):
  aH Q s 63 [bd aI,.agg ⟨d8 f⟩] h U (DW Z av x (.spread i j t) i j own h U aI bt b0 cw):=by
 obtain⟨aj,b1,ck,tC⟩:=a1;have fW:=R.f.len;rw[gH]at fW;refine Fj (lq:=2)   R.W R.z.gF K.nF bK.is.lI (by rw[bK.is.e9,l1,iR];rfl) J b1 bK.is.kind J λL bh M E=>?_;have nD:eW L bh aI c i j Z.C l aU:=R.W.F (λd bp=>M d (bp.elim (λe=>e ▸ R.W.lt) λe=>(R.W.aU d e).2)) E;refine(ahK   K nD ((R.z.sub dK.sub).F M E) J (bK.is.F M E) J rfl rfl rfl (by rw[R.rC,ck]) aj λk y hk=>et _ _ (by have:=CP K j;unfold b5.W at hk;omega)).mono ?_;rintro _ ac Y ⟨rfl,dN,cd,ks,dk,g1,hh,lh,wl⟩;have P:∀d,d<U->d≠aI->aU≠some d->u ac d=u h d:=λd L I aL=>(lh d J I aL).trans (M d L);obtain⟨da,b8,fU,D,qC,md⟩:=v0      (Y:=Y) (some cd) none J λd L I=>P d L (λe=>I (by rw[e,R.p])) λe=>I (R.b d e);have fs:=dK.F fU D J;have fw:=(dk.aU cd rfl).2;obtain⟨aV,aP,ch,e6,gz,ik,gF,Bl,jw,LZ⟩:=IH;have aZ:∀n,n≠22->n≠25->g9 (g9 c 25 (((t+1:Nat):X))) 22 dN n=c n:=λn L I=>by rw[dF L,dF I]
 have B:U<=Y:=J
 obtain⟨aB,a2,a3,aY,bN⟩:=R.eo;obtain⟨dE,b4,dZ,fA,f8⟩:=R.gY;obtain⟨fr,fG,hW,nE,rR⟩:=R.i1;refine⟨rfl,da,b8,g9 (g9 c 25 (((t+1:Nat):X))) 22 dN,l++[ks],some cd,so,⟨dk,(R.z.set ab).F fs B,(D.dV aI R.W.lt).trans R.p,ab,?_,
  ⟨J,(D.dV bt aB).trans a2,a3,ab,bN⟩,⟨J,(D.dV b0 dE).trans b4,dZ,ab,f8⟩,⟨J,(D.dV cw fr).trans fG,hW,ab,rR⟩,R.ne,λb e=>?_,(aZ 24 J J).trans R.oW,(aZ 41 J J).trans R.mn,(aZ 43 J J).trans R.rG,?_,λau=>?_,λau=>?_,?_,λau L=>?_⟩,fU,D⟩
 ·have gv:(cO Z.R Z.C av x (.spread i j t)).out (i*Z.C+j)=x.out (i*Z.C+j)++[.dw i j t]:=by show up x.out (i*Z.C+j) (x.out (i*Z.C+j)++dU Z.R Z.C av x (.spread i j t)) (i*Z.C+j)=_;rw[gV,LZ]
  rw[gv,iF];exact(R.f.F (λb _ I=>fs b I) J B).app ⟨g1.F (fU.new J ab) J J,trivial⟩
 ·obtain⟨dt,eG,gt,mr⟩:=R.s b e;exact⟨J,(D.dV b dt).trans eG,gt,ab⟩
 ·rw[Bl,<-ck,dF J,xW]
 ·obtain⟨dt,eG⟩:=R.top au;exact⟨ab,eG.F ab λi v aJ=>k9.F aJ (λb _ I=>fs b I) J B⟩
 ·exact(R.o au).F ab ab ab ab fs B ab λb e=>by obtain⟨cp,k2,nt,cR⟩:=R.s b e;grind
 ·obtain⟨es,cE,q⟩:=R.m4
  grind
 ·obtain⟨dt,eG,gt⟩:=R.one au L;exact⟨ab,ab,gt.F ab λ_ _ h=>h⟩
end
theorem eH.sub{l:aa az}{g h:ae}{ao:Nat}(H:eH g ao aj v enc l)(S:kU g h)(h1:d6<=ao)(M:aj<=dy):eH h d6 dy v enc l:=by obtain⟨a,cap,e,H⟩:=H;refine⟨a,cap,e,λK=>?_⟩;obtain⟨b,B,D,L,P,E,I⟩:=H K;exact⟨b,B,D,J,J,E,S _ _ I⟩
section
variable {s:al} {g h:ae} {U aI i j ao av t:Nat} {c:Nat->X} {l:aa ev} {aU so:aw Nat} {Z:b5} {own:Nat->Nat} {x:f6} {bt b0 cw:Nat}
theorem jt.share{f:ev}{dJ:Nat}(K:fV Z)(R:jt Z av x 0 j own g h U aI c l aU so bt b0 cw)(dK:je own h U g)(a1:mL Z.R Z.C av x (.share dJ j t))(eF:av<900)(bK:lo h ao U f (pA Z (.share dJ j t)))(bb:(x.out (0*Z.C+j)).length<800):
  aH Q s 63 [bd aI,.agg ⟨d8 f⟩] h U (DW Z av x (.share dJ j t) 0 j own h U aI bt b0 cw):=by
 have sr:=a1;obtain⟨aj,b1,ck,T9,tC⟩:=a1;have fW:=R.f.len;rw[gH]at fW;obtain⟨R7,KW⟩:=R.top rfl;obtain⟨aB,a2,a3,aY,bN⟩:=R.eo;obtain⟨dE,b4,dZ,fA,f8⟩:=R.gY;obtain⟨fr,fG,hW,nE,rR⟩:=R.i1;obtain⟨DX,Dx,AE⟩:=R.ne;refine Fj (lq:=1)   R.W R.z.gF K.nF (by rw[bK.is.lI,l1,iR];rfl) bK.is.e9 aj K.hw bK.is.kind J λL bh P M=>?_;have nD:eW L bh aI c 0 j Z.C l aU:=R.W.F (λd bp=>P d (bp.elim (λe=>e ▸ R.W.lt) λe=>(R.W.aU d e).2)) M;have G:=R.T8 dK;have pY:rE g L bh aI:=⟨G.sub λd bp _=>P d bp,G.p,λd bp=>G.n d J⟩
 rw[<-ck]at R7 KW;refine(aiQ    K nD pY ((R.z.sub dK.sub).F P M) (by have:=K.nF;omega) J (bK.is.F P M) rfl rfl rfl R7 R.oW (KW.F (P bt aB) λi v aJ=>k9.F aJ ab J M) ⟨J,a3,aY,dK.Dh a2 J⟩ aj T9).mono ?_;rintro _ ac Y ⟨rfl,bO,gJ,ds,B,u6,rD,lh,dk,oB⟩;have pw:∀d,d<U->d≠aI->d≠bt->aU≠some d->u ac d=u h d:=λd L ar aL bm=>(lh d J ar aL bm).trans (P d L);have I:U<=Y:=J
 obtain⟨da,b8,fU,D,qC,md⟩:=v0       gJ none I λd L ar=>pw d L (λe=>ar (by rw[e,R.p])) ab λe=>ar (R.b d e);have fs:=dK.F fU D J;obtain⟨_,aP,ch,e6,gz,ik,gF,Bl,jw⟩:=IP sr;have gv:(cO Z.R Z.C av x (.share dJ j t)).out (0*Z.C+j)=x.out (0*Z.C+j)++dU Z.R Z.C av x (.share dJ j t):=by rw[l1,iR];exact gV _ _ _
 have me:∀b,so=some b->u ac b=u h b:=λb e=>by obtain⟨cp,k2,nt,cR⟩:=R.s b e;grind
 have yE:=pw b0 dE dZ (kw DX) fA;have tM:=pw cw fr hW (kw Dx) nE;have o3:kU g b8:=λd o bp=>by
  have L:d<U:=Er λL=>by rw[G.n d L]at bp;grind
  rw[fs d L];omega
 have vg:∃es cE,u ac b0=some (.map es cE):=by
  obtain⟨es,cE,q⟩:=R.m4
  grind
 rcases oB with⟨⟨k,hk,HA⟩,E,rfl,rfl,DY⟩|⟨nb,E,h23,g1,⟨cE,wy⟩,cd,rfl,hh⟩
 ·rcases jw with⟨q,_⟩|⟨_,lQ,nB,o7⟩
  ·have:=q k hk;rw[show up (x.e3 j) dJ true k=_ from HA]at this;cases this
  refine⟨rfl,da,b8,bO,l,gJ,so,⟨by rw[hZ]at dk;exact dk,(R.z.set ab).F fs I,(D.dV aI R.W.lt).trans R.p,λb e=>(D.dV b (R.W.aU b e).2).trans (R.b b e),by rw[gv,o7,hZ];exact R.f.F (λb _ ar=>fs b ar) J I,
   ⟨J,(D.dV bt aB).trans a2,a3,aY,bN⟩,⟨J,(D.dV b0 dE).trans b4,dZ,fA,f8⟩,⟨J,(D.dV cw fr).trans fG,hW,nE,rR⟩,R.ne,λb e=>?_,(E 24).trans R.oW,(E 41).trans R.mn,(E 43).trans R.rG,by rw[E 25,aP];exact R.rC,λ_=>⟨?_,?_⟩,λau=>(R.o au).F ab ab ab ab fs I yE me,vg,λ_ L=>?_⟩,fU,D⟩
  ·obtain⟨dt,eG,gt,mr⟩:=R.s b e;exact⟨J,(D.dV b dt).trans eG,gt,mr⟩
  ·grind
  ·rw[lQ,nB,<-ck];refine DY.F rfl λi v aJ=>?_;rcases aJ with⟨gK,e,aJ⟩|⟨gK,e,aJ⟩
   ·exact⟨gK,e,eH.sub aJ o3 J J⟩
   ·exact⟨gK,e,eH.F aJ (fU.new J λd L ar=>md d J (λe=>by have:=(R.W.aU d e).2;omega) ab) J J⟩
  ·obtain⟨dt,eG,gt⟩:=R.one rfl L;rw[ik,gF];exact⟨ab,ab,gt.F tM λ_ _ h=>h⟩
 ·rcases jw with⟨_,lQ,nB,o7⟩|⟨q,_⟩
  case inr=>exact absurd (λk hk=>nb k hk) q
  refine⟨rfl,da,b8,bO,l++ds,some cd,so,⟨dk,(R.z.set ab).F fs I,(D.dV aI R.W.lt).trans R.p,ab,?_,
   ⟨J,(D.dV bt aB).trans a2,a3,ab,bN⟩,⟨J,(D.dV b0 dE).trans b4,dZ,ab,f8⟩,⟨J,(D.dV cw fr).trans fG,hW,ab,rR⟩,R.ne,λb e=>?_,(E 24 J J).trans R.oW,(E 41 J J).trans R.mn,(E 43 J J).trans R.rG,by rw[E 25 J J,aP];exact R.rC,λ_=>⟨?_,?_⟩,λau=>(R.o au).F ab (congrFun gz 0) (congrFun e6 0) (λn L ar=>E n J J) fs I yE me,vg,λ_ L=>?_⟩,fU,D⟩
  ·rw[gv,o7,iF,ot];exact(R.f.F (λb _ ar=>fs b ar) (cD _) I).app (g1.F (fU.new rD λd L ar=>md d J (λe=>ab) nofun) J rD)
  ·obtain⟨dt,eG,gt,mr⟩:=R.s b e;exact⟨J,(D.dV b dt).trans eG,gt,λd3=>ab⟩
  ·grind
  ·rw[nB];exact iy.no wy
  ·obtain⟨dt,eG,gt⟩:=R.one rfl L;rw[ik,gF];exact⟨(E 42 J J).trans dt,(E 44 J J).trans eG,gt.F tM λ_ _ h=>h⟩
end
section
variable {s:al} {g h:ae} {U aI i j ao av t:Nat} {c:Nat->X} {l:aa ev} {aU so:aw Nat} {Z:b5} {own:Nat->Nat} {x:f6} {bt b0 cw:Nat}
theorem jt.dx{f:ev}{dJ:Nat}(K:fV Z)(R:jt Z av x 0 0 own g h U aI c l aU so bt b0 cw)(dK:je own h U g)(a1:mL Z.R Z.C av x (.dx dJ t))(eF:av<900)(GG:∀t,t<=av->(Z.fY t=0↔t<av))(bK:lo h ao U f (pA Z (.dx dJ t)))(bb:(x.out (0*Z.C+0)).length<800):
  aH Q s 63 [bd aI,.agg ⟨d8 f⟩] h U (DW Z av x (.dx dJ t) 0 0 own h U aI bt b0 cw):=by
 have sr:=a1;obtain⟨aj,ck,T9,tC⟩:=a1;have fW:=R.f.len;rw[gH]at fW;obtain⟨C2,z6,agu⟩:=R.one rfl rfl;obtain⟨aB,a2,a3,aY,bN⟩:=R.eo;obtain⟨dE,b4,dZ,fA,f8⟩:=R.gY;obtain⟨fr,fG,hW,nE,rR⟩:=R.i1;obtain⟨DX,Dx,AE⟩:=R.ne;refine Fj (lq:=4)   R.W R.z.gF K.nF (by rw[bK.is.lI,l1,iR];rfl) bK.is.e9 aj K.hw bK.is.kind J λh1 bh d9 fy=>?_;have nD:eW h1 bh aI c 0 0 Z.C l aU:=R.W.F (λd bp=>d9 d (bp.elim (λe=>e ▸ R.W.lt) λe=>(R.W.aU d e).2)) fy;rw[<-ck]at C2 z6 agu;rw[hl J]at z6;refine(ak0  (i5:=Z.i5 t)  K nD R.z.gF R.z.jw (by have:=K.nF;omega) J bK.is.round bK.is.nW bK.is.n C2 R.rG z6 (agu.F (d9 cw fr) λ_ _ h=>h) ab aj T9).mono ?_;rintro _ ac Y ⟨rfl,bO,gJ,ds,B,u6,rD,lh,dk,oB⟩;have P:∀d,d<U->d≠aI->d≠cw->aU≠some d->u ac d=u h d:=λd h1 L aL bm=>(lh d J L aL bm).trans (d9 d h1);have E:U<=Y:=J
 obtain⟨da,b8,fU,D,qC,md⟩:=v0       gJ none E λd h1 L=>P d h1 (λe=>L (by rw[e,R.p])) ab λe=>L (R.b d e);have fs:=dK.F fU D J;obtain⟨_,aV,aP,ch,e6,gz,ik,jw⟩:=IT sr;have gv:(cO Z.R Z.C av x (.dx dJ t)).out (0*Z.C+0)=x.out (0*Z.C+0)++dU Z.R Z.C av x (.dx dJ t):=by rw[l1,iR];show up x.out 0 (x.out 0++dU Z.R Z.C av x (.dx dJ t)) 0=_;rw[gV]
 have me:∀b,so=some b->u ac b=u h b:=λb e=>by obtain⟨cp,k2,nt,cR⟩:=R.s b e;grind
 have yE:=P b0 dE dZ AE fA;have Aq:=P bt aB a3 Dx aY;have vg:∃es cE,u ac b0=some (.map es cE):=by
  obtain⟨es,cE,q⟩:=R.m4
  grind
 obtain⟨R7,KW⟩:=R.top rfl;have M:iy ac bt Z.R (x.e3 0) (sC b8 0 Y Z 0 (Z.eT.x (x.P 0+1))):=KW.F Aq λi v aJ=>k9.F aJ (λb _ L=>fs b L) J E;rcases oB with⟨⟨k,hk,HA⟩,I,rfl,rfl,DY⟩|⟨nb,I,st,iY,h42,h44,g1,⟨cE,wy⟩,cd,rfl,hh⟩
 ·rcases jw with⟨q,_⟩|⟨_,lQ,nB,o7⟩
  ·have:=q k hk;rw[show up x.fL dJ true k=_ from HA]at this;cases this
  refine⟨rfl,da,b8,bO,l,gJ,so,⟨by rw[hZ]at dk;exact dk,(R.z.set ab).F fs E,(D.dV aI R.W.lt).trans R.p,λb e=>(D.dV b (R.W.aU b e).2).trans (R.b b e),by rw[gv,o7,hZ];exact R.f.F (λb _ L=>fs b L) J E,
   ⟨J,(D.dV bt aB).trans a2,a3,aY,bN⟩,⟨J,(D.dV b0 dE).trans b4,dZ,fA,f8⟩,⟨J,(D.dV cw fr).trans fG,hW,nE,rR⟩,R.ne,λb e=>?_,(I 24).trans R.oW,(I 41).trans R.mn,(I 43).trans R.rG,by rw[I 25,ch];exact R.rC,λ_=>⟨ab,by rw[aV,aP];exact M⟩,λau=>(R.o au).F ab ab ab ab fs E yE me,vg,λ_ _=>?_⟩,fU,D⟩
  ·obtain⟨dt,eG,gt,mr⟩:=R.s b e;exact⟨J,(D.dV b dt).trans eG,gt,mr⟩
  ·rw[lQ,nB,<-ck];exact⟨ab,ab,DY⟩
 ·rcases jw with⟨_,lQ,nB,o7⟩|⟨q,_⟩
  case inr=>exact absurd (λk hk=>nb k hk) q
  have ayW:st=Z.fY t:=iY;subst ayW;refine⟨rfl,da,b8,bO,l++ds,some cd,so,⟨dk,(R.z.set ab).F fs E,(D.dV aI R.W.lt).trans R.p,ab,?_,
   ⟨J,(D.dV bt aB).trans a2,a3,ab,bN⟩,⟨J,(D.dV b0 dE).trans b4,dZ,ab,f8⟩,⟨J,(D.dV cw fr).trans fG,hW,ab,rR⟩,R.ne,λb e=>?_,(I 24 J J J).trans R.oW,(I 41 J J J).trans R.mn,(I 43 J J J).trans R.rG,by rw[I 25 J J J,ch];exact R.rC,λ_=>⟨ab,by rw[aV,aP];exact M⟩,λau=>(R.o au).F (congrFun e6 0) (congrFun ik 0) (congrFun gz 0) (λn h1 L=>I n J J J) fs E yE me,vg,λ_ _=>?_⟩,fU,D⟩
  ·rw[gv,o7,iF,ot];exact(R.f.F (λb _ L=>fs b L) (cD _) E).app (g1.F (fU.new rD λd h1 L=>md d J (λe=>ab) nofun) J rD)
  ·obtain⟨dt,eG,gt,mr⟩:=R.s b e;exact⟨J,(D.dV b dt).trans eG,gt,λd3=>ab⟩
  ·rw[lQ,nB,<-ck];refine⟨h42,?_,iy.no wy⟩
   grind
end
structure U5 (Z:b5) (t:Nat):Prop where
 c:∀i dP v y,Z.uT t i dP v=some y->0<=y/\y<=er
 b:∀i j v y,ip (fb Z.k t) (Z.cut i j) (λk=>Z.eT.x t (Z.lc j+k)) v=some y->0<=y/\y<=er
theorem PU{Z:b5}{t i j:Nat}(D:j<Z.C)(B:dP j=false)(v:Nat):Z.uT t i (λk=>if k=j then true else dP k) v=eY (fb Z.k t) (Z.uT t i dP v) (ip (fb Z.k t) (Z.cut i j) (λk=>Z.eT.x t (Z.lc j+k)) (v-Z.bv i)):=anh D B _
theorem ayX(Z:b5):Z.lc 0=0:=by unfold b5.lc c8;simp
theorem ayY{Z:b5}(K:fV Z):Z.lc Z.C=Z.N:=by unfold b5.lc c8;rw[Nat.min_self];exact MH _ K.hw
theorem aoD{Z:b5}(K:fV Z){t i:Nat}(B:∀j,j<Z.C->dP j=true)(D:k<Z.H i):Z.uT t i dP (Z.bv i+k)=ip (fb Z.k t) Z.ag (Z.eT.x t) (Z.bv i+k):=by unfold b5.uT;rw[MG];exact aj5  (λa b h=>ui h) (ayX Z) (ayY K) (λg E=>K.M.l9 g E) B D
theorem auH{Z:b5}(K:fV Z){B:Nat}{v:Nat}(D:f2 v=ip (fb Z.k (B+1)) Z.ag (Z.eT.x (B+1)) v):
  (ts Z.k (iu Z.bM Z.N ((B+1-1) / 2)) (B+1) (fb Z.k (B+1)) (Z.eT.st B) f2).A v=(Z.eT.st (B+1)).A v/\(ts Z.k (iu Z.bM Z.N ((B+1-1) / 2)) (B+1) (fb Z.k (B+1)) (Z.eT.st B) f2).B v=(Z.eT.st (B+1)).B v/\(ts Z.k (iu Z.bM Z.N ((B+1-1) / 2)) (B+1) (fb Z.k (B+1)) (Z.eT.st B) f2).q v=(Z.eT.st (B+1)).q v:=by unfold ts;simp only[D];exact⟨rfl,rfl,rfl⟩
theorem awV{n:Nat}{p:Nat->al}(h:∀k,k<n->p k=q k):eS n p=eS n q:=by unfold eS;rw[Cr h]
theorem ash{k round:Int}{m:Nat}{p:Nat->al}(h:∀k,k<m->p k=q k):ql k len round m A p=ql k len round m A q:=by
 have:eh m p=eh m q:=by exact Iq ab
 unfold ql
 grind
theorem hf.ext{h:ae}{U:Nat}{ao aj:Int}{n:Nat}{B E D:aa Int}{p:Nat->al}(H:hf h U v ao aj n A B p)(hs:A=E)(I:B=D)(M:∀k,k<n->p k=q k):hf h U v ao aj n E D q:=by obtain⟨K,P,L,e,a,b,c⟩:=H;rw[awV M]at c;subst hs I;exact⟨K,P,L,e,a,b,c⟩
section
variable {s:al} {g h:ae} {U aI i j ao av t:Nat} {c:Nat->X} {l:aa ev} {aU so:aw Nat} {Z:b5} {own:Nat->Nat} {x:f6} {bt b0 cw:Nat}
theorem jt.dw{f:ev}{h9:Nat}(K:fV Z)(R:jt Z av x i 0 own g h U aI c l aU so bt b0 cw)(dK:je own h U g)(a1:mL Z.R Z.C av x (.dw i h9 t))(eF:av<900)(GG:∀t,t<=av->(Z.fY t=0↔t<av))(B:U5 Z t)(bK:lo h ao U f (pA Z (.dw i h9 t)))(bb:(x.out (i*Z.C+0)).length<800):
  aH Q s 63 [bd aI,.agg ⟨d8 f⟩] h U (DW Z av x (.dw i h9 t) i 0 own h U aI bt b0 cw):=by
 have sr:=a1;obtain⟨aj,b1,bV,ck,h1,tC,L7⟩:=a1;have fW:=R.f.len;rw[gH]at fW;have O:=R.o rfl;obtain⟨m3a,m3b⟩:=O.m3 bV J;obtain⟨aB,a2,a3,aY,bN⟩:=R.eo;obtain⟨dE,b4,dZ,fA,f8⟩:=R.gY;obtain⟨fr,fG,hW,nE,rR⟩:=R.i1;obtain⟨DX,Dx,AE⟩:=R.ne;refine Fj (lq:=3)   R.W R.z.gF K.nF bK.is.lI bK.is.e9 aj b1 bK.is.kind J λng bh d9 fy=>?_;have nD:eW ng bh aI c i 0 Z.C l aU:=R.W.F (λd bp=>d9 d (bp.elim (λe=>e ▸ R.W.lt) λe=>(R.W.aU d e).2)) fy;have G:=R.T8 dK;have pY:rE g ng bh aI:=⟨G.sub λd bp _=>d9 d bp,G.p,λd bp=>G.n d J⟩
 rw[<-ck]at m3b;have j5:=O.has;rw[<-ck]at j5;refine(ahJ     (y:=λv=>ip (fb Z.k t) (Z.cut i h9) (λk=>Z.eT.x t (Z.lc h9+k)) (v-Z.bv i))   K nD pY (R.z.F aK fy) J aj h1 J (bK.F (λb _ P=>d9 b P) (cD _) fy) rfl (xE ab) (λv y=>B.c _ _ v y) (λv y=>B.b _ _ _ y) (λv y ce=>B.c i (λk=>if k=h9 then true else x.dP i k) v y (by rw[PU b1 L7];omega))
  (hf.F j5 aK fy) (m3b.F λb e=>d9 b (R.s b e).1) (λb e=>by obtain⟨cp,k2,nt,cR⟩:=R.s b e;grind) (by rw[O.DU,ck]) (by rw[O.A2,if_neg J,(GG (x.a i-1) J).2 J]) (by rw[O.L6,bV]) R.mn (m3a.F (d9 b0 dE) ab) ⟨J,dZ,fA,dK.Dh b4 J⟩ b1 L7).mono ?_
 rintro _ ac Y ⟨rfl,bO,gJ,rF,ds,DY,wl,lh,dk,R3,oB⟩;have pw:∀d,d<U->d≠aI->d≠b0->aU≠some d->u ac d=u h d:=λd h1 P aL bm=>(lh d J P aL bm).trans (d9 d h1);have I:U<=Y:=J
 obtain⟨da,b8,fU,D,qC,md⟩:=v0       gJ rF I λd h1 P=>pw d h1 (λe=>P (by rw[e,R.p])) ab λe=>P (R.b d e);have fs:=dK.F fU D J;obtain⟨_,aV,aP,ch,e6,gz,ik,_,jw⟩:=IG sr;have gv:(cO Z.R Z.C av x (.dw i h9 t)).out (i*Z.C+0)=x.out (i*Z.C+0)++dU Z.R Z.C av x (.dw i h9 t):=by show up x.out (i*Z.C) (x.out (i*Z.C)++dU Z.R Z.C av x (.dw i h9 t)) (i*Z.C)=_;rw[gV];rfl
 have Aq:=pw bt aB a3 DX aY;have tM:=pw cw fr hW (kw AE) nE;have agv:∀bO:Nat->X,bO 23=c 23->i=0->bO 23 = (((cO Z.R Z.C av x (.dw i h9 t)).P 0+1:Nat):X)/\iy ac bt Z.R ((cO Z.R Z.C av x (.dw i h9 t)).e3 0) (sC b8 0 Y Z 0 (Z.eT.x ((cO Z.R Z.C av x (.dw i h9 t)).P 0+1))):=λbO e au=>by obtain⟨t1,t2⟩:=R.top au;rw[aV,aP,e];exact⟨t1,t2.F Aq λi v aJ=>k9.F aJ (λb _ P=>fs b P) J I⟩
 have C0:∀bO:Nat->X,bO 42=c 42->bO 44=c 44->i=0->(0:Nat)=0->bO 42 = .int .i64 ((cO Z.R Z.C av x (.dw i h9 t)).V:Int)/\bO 44 = .bool (decide (av<(cO Z.R Z.C av x (.dw i h9 t)).V))/\iy ac cw Z.R (cO Z.R Z.C av x (.dw i h9 t)).fL (Hy (Z.i5 (cO Z.R Z.C av x (.dw i h9 t)).V)):=λbO dt eG au h1=>by obtain⟨t1,t2,t3⟩:=R.one au h1;rw[gz,ik,dt,eG];exact⟨t1,t2,t3.F tM λ_ _ h=>h⟩
 have vg:∃es cE,u ac b0=some (.map es cE):=by obtain⟨L,cE,q,_,_⟩:=DY.ex;exact⟨_,cE,q.at_⟩
 have gZ:(cO Z.R Z.C av x (.dw i h9 t)).a i=t:=ab
 rcases oB with⟨⟨k,hk,HA⟩,E,rfl,rfl,hO'⟩|⟨nb,E,h38,yJ,rfl,cd,jB,rfl,TP,hh,hSt,rfl⟩
 ·rcases jw with⟨q,_⟩|⟨_,lQ,nB,o7⟩
  ·have:=q k hk;rw[show up (x.dP i) h9 true k=_ from HA]at this;cases this
  refine⟨rfl,da,b8,bO,l,gJ,rF,⟨by rw[hZ]at dk;exact dk,(R.z.set λn _ _=>E n J).F fs I,(D.dV aI R.W.lt).trans R.p,λb e=>(D.dV b (R.W.aU b e).2).trans (R.b b e),by rw[gv,o7,hZ];exact R.f.F (λb _ P=>fs b P) (cD _) I,
   ⟨J,(D.dV bt aB).trans a2,a3,aY,λe=>ab⟩,⟨J,(D.dV b0 dE).trans b4,dZ,fA,λe=>ab⟩,⟨J,(D.dV cw fr).trans fG,hW,nE,λe=>ab⟩,R.ne,λb e=>?_,(E 24 J).trans R.oW,(E 41 J).trans R.mn,(E 43 J).trans R.rG,by rw[E 25 J,ch];exact R.rC,agv bO (E 23 J),λau=>⟨?_,?_,?_,?_,?_,?_,λe=>?_,λ_ _=>?_⟩,vg,C0 bO (E 42 J) (E 44 J)⟩,fU,D⟩
  ·have:=R.W.lt
   grind
  ·rw[E 26 J,e6];exact O.DU
  ·rw[E 27 J,e6];exact O.A2
  ·rw[E 38 J,lQ,O.L6,bV]
  ·rw[E 39 J,e6];exact O.DV
  ·rw[E 28 J,E 29 J,E 30 J,E 31 J,E 32 J,e6];exact hf.F O.has fs I
  ·rw[E 33 J,E 34 J,E 35 J,E 36 J,E 37 J,e6,lQ,<-bV];exact hf.F O.T7 fs I
  ·grind
  ·rw[nB,gZ];refine⟨DY,?_⟩;rw[show(bj (Z.H i) λk=>Z.uT t i (up (x.dP i) h9 true) (Z.bv i+k))=bj (Z.H i) λk=>eY (fb Z.k t) (Z.uT t i (x.dP i) (Z.bv i+k)) (ip (fb Z.k t) (Z.cut i h9) (λk=>Z.eT.x t (Z.lc h9+k)) (Z.bv i+k-Z.bv i))from xE λk _=>PU b1 L7 _];exact hO'
 ·rcases jw with⟨_,fe,o7⟩|⟨q,_⟩
  case inr=>exact absurd (λk hk=>nb k hk) q
  have fw:=(dk.aU cd rfl).2;obtain⟨M,dY⟩:∃M,t=M+1:=⟨t-1,J⟩
  subst dY;have ju:∀k,k<Z.H i->jB.A (Z.bv i+k)=(Z.eT.st (M+1)).A (Z.bv i+k)/\jB.B (Z.bv i+k)=(Z.eT.st (M+1)).B (Z.bv i+k)/\jB.q (Z.bv i+k)=(Z.eT.st (M+1)).q (Z.bv i+k):=λk hk=>by rw[TP];exact auH K (by rw[<-PU b1 L7];exact aoD K nb hk)
  have hs:(cz (Z.H i) λk=>jB.A (Z.bv i+k))=cz (Z.H i) λk=>(Z.eT.st (M+1)).A (Z.bv i+k):=Jn λk hk=>(ju k hk).1;have et:(cz (Z.H i) λk=>jB.B (Z.bv i+k))=cz (Z.H i) λk=>(Z.eT.st (M+1)).B (Z.bv i+k):=Jn λk hk=>(ju k hk).2.1;have ek:(ql Z.k Z.len ((M+1:Nat):Int) (Z.H i) (cz (Z.H i) λk=>jB.A (Z.bv i+k)) (λk=>jB.q (Z.bv i+k)):Int)=Z.i5 (M+1) i:=by unfold b5.i5;rw[hs,ash λk hk=>(ju k hk).2.2]
  rw[ek]at dk;have nT:lF b8 bh cd (.agg ⟨[bO 33,bO 34,bO 35,bO 36,bO 37]⟩) (Z.bv i:Int) ((Z.bv i+Z.H i:Nat):Int) (Z.H i) (cz (Z.H i) λk=>jB.A (Z.bv i+k)) (cz (Z.H i) λk=>jB.B (Z.bv i+k)) (λk=>jB.q (Z.bv i+k)):=hSt.wid (fU.new J λd h1 P=>md d J (λe=>ab) (nofun)) (cD _) (cD _);refine⟨rfl,da,b8,bO,_,some cd,none,⟨dk,(R.z.set λn h1 P=>E n J J J J).F fs I,(D.dV aI R.W.lt).trans R.p,λb e=>ab,?_,
   ⟨J,(D.dV bt aB).trans a2,a3,λe=>ab,nofun⟩,⟨J,(D.dV b0 dE).trans b4,dZ,λe=>ab,nofun⟩,⟨J,(D.dV cw fr).trans fG,hW,λe=>ab,nofun⟩,R.ne,(nofun),(E 24 J J J J).trans R.oW,(E 41 J J J J).trans R.mn,(E 43 J J J J).trans R.rG,by rw[E 25 J J J J,ch];exact R.rC,agv bO (E 23 J J J J),λau=>⟨?_,?_,?_,?_,?_,?_,λ_=>⟨yJ,rfl⟩,λe=>?_⟩,vg,C0 bO (E 42 J J J J) (E 44 J J J J)⟩,fU,D⟩
  ·rw[gv,o7,iF];exact(R.f.F (λb _ P=>fs b P) (cD _) I).app ⟨⟨rfl,rfl,rfl,rfl,rfl,wc,wc,rfl,rfl,rfl⟩,trivial⟩
  ·rw[E 26 J J J J,e6];exact O.DU
  ·rw[E 27 J J J J,e6];exact O.A2
  ·grind
  ·rw[E 39 J J J J,e6];exact O.DV
  ·rw[E 28 J J J J,E 29 J J J J,E 30 J J J J,E 31 J J J J,E 32 J J J J,e6];exact hf.F O.has fs I
  ·rw[fe,if_pos rfl,gZ];exact hf.ext (lF.rd (nT.wid   (λ_ _ _=>rfl) J J)) hs et λk hk=>(ju k hk).2.2
  ·rw[fe]at e;cases e
end
theorem awW(Z:b5)(t:Nat):Z.fY t=0\/Z.fY t=1\/Z.fY t=2:=by
 unfold b5.fY vJ
 grind
theorem asi(Z:b5)(t i:Nat):(bj (Z.H i) λk=>Z.uT t i lH (Z.bv i+k))=[]:=
 List.eq_nil_iff_forall_not_mem.2 λp B=>by have h:=((jO  ).1 B).2;rw[show Z.uT t i lH (Z.bv i+p.1)=none from ang _]at h;cases h
section
variable {s:al} {g h:ae} {U aI i j ao av t:Nat} {c:Nat->X} {l:aa ev} {aU so:aw Nat} {Z:b5} {own:Nat->Nat} {x:f6} {bt b0 cw:Nat}
theorem jt.order{f:ev}(K:fV Z)(R:jt Z av x i 0 own g h U aI c l aU so bt b0 cw)(dK:je own h U g)(a1:mL Z.R Z.C av x (.order i t))(eF:av<900)(GG:∀t,t<=av->(Z.fY t=0↔t<av))(bK:lo h ao U f (pA Z (.order i t)))(bb:(x.out (i*Z.C+0)).length<800):
  aH Q s 63 [bd aI,.agg ⟨d8 f⟩] h U (DW Z av x (.order i t) i 0 own h U aI bt b0 cw):=by
 have sr:=a1;obtain⟨aj,bV,ck,tC⟩:=a1;have fW:=R.f.len;rw[gH]at fW;have O:=R.o rfl;obtain⟨o40,oso⟩:=O.m2 bV;subst oso;obtain⟨aB,a2,a3,aY,bN⟩:=R.eo;obtain⟨dE,b4,dZ,fA,f8⟩:=R.gY;obtain⟨fr,fG,hW,nE,rR⟩:=R.i1;obtain⟨DX,Dx,AE⟩:=R.ne;obtain⟨es,cE,vg⟩:=R.m4;refine Fj (lq:=5)   R.W R.z.gF K.nF bK.is.lI (by rw[bK.is.e9,l1];rfl) J K.hw bK.is.kind J λng bh d9 I=>?_;have nD:eW ng bh aI c i 0 Z.C l aU:=R.W.F (λd bp=>d9 d (bp.elim (λe=>e ▸ R.W.lt) λe=>(R.W.aU d e).2)) I;have G:=R.T8 dK;have pY:rE g ng bh aI:=⟨G.sub λd bp _=>d9 d bp,G.p,λd bp=>G.n d J⟩
 have j5:=O.has;have hs:=O.T7;rw[if_pos bV]at hs;rw[<-ck]at j5 hs;refine(ahH   (st:=Z.fY t)   K nD pY (R.z.F aK I) (by have:=K.mw;omega) aj J bK.is.round bK.is.n (awW Z t) (λL=>by rw[L]at j5 ⊢;exact hf.F j5 aK I) (hf.F hs aK I) (by rw[O.DU,ck]) (by
   rw[O.A2,<-ck]
   grind) (by rw[O.L6,bV]) (by rw[O.DV,ck]) R.mn ((d9 b0 dE).trans vg) ab).mono ?_
 rintro _ ac Y ⟨rfl,bO,gJ,ds,B,P,yJ,dk,g1,u6,rD,ni,hmp,lh,wl⟩;have pw:∀d,d<U->d≠aI->(Z.fY t=0->d≠b0)->aU≠some d->u ac d=u h d:=λd h1 ar aL bm=>(lh d J ar aL bm).trans (d9 d h1);have E:U<=Y:=J
 obtain⟨da,b8,fU,D,qC,md⟩:=v0       gJ none E λd h1 ar=>pw d h1 (λe=>ar (by rw[e,R.p])) ab λe=>ar (R.b d e);have fs:=dK.F fU D J;obtain⟨aV,aP,ch,gz,ik,_,_,gZ,fe,qH,_,o7⟩:=No sr;have gv:(cO Z.R Z.C av x (.order i t)).out (i*Z.C+0)=x.out (i*Z.C+0)++dU Z.R Z.C av x (.order i t):=by show up x.out (i*Z.C) (x.out (i*Z.C)++dU Z.R Z.C av x (.order i t)) (i*Z.C)=_;rw[gV];rfl
 have Aq:=pw bt aB a3 (λ_=>DX) aY;have tM:=pw cw fr hW (λ_=>kw AE) nE;have o6:=P.a;have aJ:=GG t tC;have M:(cO Z.R Z.C av x (.order i t)).a i=t+1:=J
 refine⟨rfl,da,b8,bO,l++ds,gJ,none,⟨dk,(R.z.set ab).F fs E,(D.dV aI R.W.lt).trans R.p,λb e=>?_,?_,
  ⟨J,(D.dV bt aB).trans a2,a3,ab,J⟩,⟨J,(D.dV b0 dE).trans b4,dZ,ab,J⟩,⟨J,(D.dV cw fr).trans fG,hW,ab,J⟩,R.ne,ab,(o6 24 J).trans R.oW,(o6 41 J).trans R.mn,(o6 43 J).trans R.rG,by rw[o6 25 J,ch];exact R.rC,λL=>?_,λL=>⟨?_,?_,?_,?_,?_,?_,λe=>?_,λ_ dR=>?_⟩,?_,λL h1=>?_⟩,fU,D⟩
 ·rcases ni b e with q|q
  ·exact(D.dV b (R.W.aU b q).2).trans (R.b b q)
  grind
 ·rw[gv,o7,iF];refine(R.f.F (λb _ ar=>fs b ar) (cD _) E).app ?_;have DZ:=g1.F (d6:=0)  (fU.new rD λd h1 ar=>md d J (λe=>(ni d e).elim (λq=>by have:=(R.W.aU d q).2;omega) λq=>J) nofun) J rD
  by_cases h:t<av
  ·rw[if_pos (aJ.2 h)]at DZ;rw[if_pos h,ot];exact DZ
  ·rw[if_neg λe=>h (aJ.1 e)]at DZ;rw[if_neg h];exact DZ
 ·obtain⟨t1,t2⟩:=R.top L;rw[aV,aP,o6 23 J];exact⟨t1,t2.F Aq λi v aJ=>k9.F aJ (λb _ ar=>fs b ar) (cD _) E⟩
 ·rw[M];exact P.r
 ·rw[M,if_neg J];exact P.s
 ·rw[fe];exact P.w
 ·rw[M,g4 J];exact P.b
 ·rw[M,P.h 28 J J,P.h 29 J J,P.h 30 J J,P.h 31 J J,P.h 32 J J]
  by_cases L:t=0
  ·simp only[if_pos L];rw[L]at j5 ⊢;exact hf.F j5 fs E
  ·simp only[if_neg L];exact hf.F hs fs E
 ·rw[M,fe,o6 33 J,o6 34 J,o6 35 J,o6 36 J,o6 37 J];exact hf.F hs fs E
 ·grind
 ·have L:Z.fY t=0:=aJ.2 J;rw[qH,M,asi,yJ,if_pos L];exact⟨iy.no (hmp L),.inl ⟨rfl,rfl,rfl⟩⟩
 ·grind
 ·obtain⟨t1,t2,t3⟩:=R.one L h1;rw[gz,ik,o6 42 J,o6 44 J];exact⟨t1,t2,t3.F tM λ_ _ h=>h⟩
end
section
variable {s:al} {g b8 h ac:ae} {U Y aI i j ao av t eb:Nat} {c:Nat->X} {l:aa ev} {aU so:aw Nat} {Z:b5} {own da:Nat->Nat} {x f4:f6} {bt b0 cw:Nat}
theorem jt.other(R:jt Z av x i j own g h U aI c l aU so bt b0 cw)(B:U<=Y)(same:∀d,d<U->own d≠eb->u ac d=u h d)(K:∀d,d<U->da d=own d)(w9:i*Z.C+j+1≠eb)(L:aA U g b8)(eq:f4.q i j=x.q i j)(gv:f4.out (i*Z.C+j)=x.out (i*Z.C+j))(D3:i=0->f4.P j=x.P j/\f4.e3 j=x.e3 j)(aM:j=0->f4.a i=x.a i/\f4.w i=x.w i/\f4.dP i=x.dP i)(aV:i=0->j=0->f4.V=x.V/\f4.fL=x.fL):jt Z av f4 i j da b8 ac Y aI c l aU so bt b0 cw:=by
 have ap:∀d,d<U->own d=i*Z.C+j+1->u ac d=u h d:=ab
 have aT:∀b,aU=some b->b<U:=λb e=>(R.W.aU b e).2;obtain⟨aB,a2,a3,aY,bN⟩:=R.eo;obtain⟨dE,b4,dZ,fA,f8⟩:=R.gY;obtain⟨fr,fG,hW,nE,rR⟩:=R.i1;refine⟨R.W.F (λd bp=>bp.elim (λe=>by rw[e];exact ap aI R.W.lt R.p) λe=>ap d ab (R.b d e)) B,R.z.F L B,(K aI R.W.lt).trans R.p,λb e=>(K b (aT b e)).trans (R.b b e),by rw[gv];exact R.f.F (λb _ ar=>L b ar) J B,
  ab,ab,ab,R.ne,λb e=>?_,R.oW,R.mn,R.rG,by rw[eq];exact R.rC,λD=>?_,λD=>?_,?_,λD h1=>?_⟩
 ·obtain⟨E,I,gt,mr⟩:=R.s b e
  grind
 ·obtain⟨M,P⟩:=R.top D;obtain⟨E,I⟩:=D3 D;rw[E,I];exact⟨M,P.F ab λi v aJ=>k9.F aJ (λb _ ar=>L b ar) J B⟩
 ·obtain⟨E,I,gt⟩:=aM D;exact(R.o D).F E I gt ab L B ab λb e=>ap b (R.s b e).1 (R.s b e).2.1
 ·obtain⟨es,cE,q⟩:=R.m4
  grind
 ·obtain⟨M,P,t3⟩:=R.one D h1;obtain⟨E,I⟩:=aV D h1;rw[E,I];exact⟨M,P,t3.F ab λ_ _ h=>h⟩
theorem jt.gone{m:cr}{r:aa cr}(R:jt Z av x i j own g h U aI c l aU so bt b0 cw)(L:je own h U g)(bl:x.out (i*Z.C+j)=m::r):
  ∃f I,l=f::I/\sB g 0 U f (pA Z m)/\aH Q s 62 [bd aI] h U (λnz ac Y=>nz = .tuple ⟨[]⟩/\Y=U/\∃bO,jt Z av { x with out:=up x.out (i*Z.C+j) r } i j own g ac U aI bO I aU so bt b0 cw/\je own ac U g/\∀d,d<U->own d≠i*Z.C+j+1->u ac d=u h d):=by
 have D:=R.f;rw[bl]at D;cases l with
 |nil=>exact D.elim
 |cons f I =>
  refine⟨f,I,rfl,D.1,(aow R.W rfl).mono ?_⟩;rintro _ ac _ ⟨rfl,dN,dk,K,rfl⟩;obtain⟨aB,a2,a3,aY,bN⟩:=R.eo;obtain⟨dE,b4,dZ,fA,f8⟩:=R.gY;obtain⟨fr,fG,hW,nE,rR⟩:=R.i1;have E:∀n,n≠22->g9 c 22 dN n=c n:=λn P=>dF P;have bk:=R.p;refine⟨rfl,rfl,_,⟨dk,R.z.set ab,R.p,R.b,?_,R.eo,R.gY,R.i1,R.ne,R.s,(E 24 J).trans R.oW,(E 41 J).trans R.mn,(E 43 J).trans R.rG,(E 25 J).trans R.rC,λB=>?_,λB=>?_,?_,λB h1=>?_⟩,λd=>?_,ab⟩
  ·rw[show({ x with out:=up x.out (i*Z.C+j) r }:f6).out (i*Z.C+j)=r from gV _ _ _];exact D.2
  ·obtain⟨t1,M⟩:=R.top B;exact⟨ab,M.F ab λ_ _ h=>h⟩
  ·exact(R.o B).F rfl rfl rfl ab aK J ab λb e=>K b (R.s b e).2.2.1
  ·obtain⟨es,cE,q⟩:=R.m4
   grind
  ·obtain⟨t1,M,t3⟩:=R.one B h1;exact⟨ab,ab,t3.F ab λ_ _ h=>h⟩
  ·rw[L d]
   grind
end
section
variable {s:al} {g cv h ac:ae} {U Y aI i j av:Nat} {c:Nat->X} {l:aa ev} {aU:aw Nat} {Z:b5} {own:Nat->Nat} {bt b0 cw:Nat}
theorem jt.init(K:fV Z)(N:NwI Z i j U h ac Y aI c aU bt b0 cw l cv)(S:kU cv g)(aj:i<Z.R)(b1:j<Z.C)(bk:own aI=i*Z.C+j+1)(aT:∀b,aU=some b->own b=i*Z.C+j+1)(h1:own bt=i*Z.C+j+1)(ar:own b0=i*Z.C+j+1)(aL:own cw=i*Z.C+j+1):
  jt Z av (mi Z.R Z.C) i j own g ac Y aI c l aU none bt b0 cw:=by
 obtain⟨m23,m24,m25,L,I,DV,m40,m41,P,M,m44⟩:=N.m;obtain⟨aC,aB,a2,a3,aY,bN⟩:=N.eo;obtain⟨D4,dE,b4,dZ,fA,f8⟩:=N.gY;obtain⟨aCp,fr,fG,hW,nE,rR⟩:=N.i1;refine⟨N.W,N.z.sub S,bk,aT,?_,ab,ab,ab,N.ne,ab,m24,m41,M,m25,λ_=>⟨m23,iy.no bN⟩,λB=>?_,⟨_,_,f8⟩,λB AZ=>⟨P,?_,iy.no rR⟩⟩
 ·have bl:(i*Z.C+j) % Z.C=j:=by rw[xn,Nat.mul_add_mod,Is b1]
  by_cases B:j=0
  ·subst B;obtain⟨_,_,_,rfl⟩:=N.aAR rfl;have cA:i*Z.C+0<Z.R*Z.C:=ph aj b1;have bp:(i*Z.C+0) / Z.C=i:=by rw[nK];exact Nat.mul_div_cancel _ b1
   have:(mi Z.R Z.C).out (i*Z.C+0)=[.dx i 0]:=by
    show(if(i*Z.C+0) % Z.C=0/\i*Z.C+0<Z.R*Z.C then[cr.dx ((i*Z.C+0) / Z.C) 0]else[])=_
    grind
   rw[this];exact⟨⟨rfl,rfl,rfl,rfl,rfl,wc,wc,rfl,rfl,rfl⟩,trivial⟩
  ·obtain⟨rfl,_⟩:=N.aCg B;have:(mi Z.R Z.C).out (i*Z.C+j)=[]:=if_neg J;rw[this]
   trivial
 ·obtain⟨dt,eG,D,_⟩:=N.aAR B;have E:ja g Y (.agg ⟨[c 28,c 29,c 30,c 31,c 32]⟩) (Z.bv i) (Z.H i) (Z.eT.st 0):=hf.sub eG S;refine⟨L,I,dt,DV,E,?_,ab,λe=>by cases e⟩;rw[D 28 J J,D 29 J J,D 30 J J,D 31 J J,D 32 J J];exact E
 ·rw[m44,show(mi Z.R Z.C).V=0 from rfl,hl J]
end
def QP:aa (aa Nat):=[[1,2,3,5,22,23]]
def abZ(s:al)(aB a2 a3 bN ef i0:X)(h:ae)(U:Nat)(N:aR)(aM:aR)(R:aR):Prop:=cH i0 ef (ax h 8 aB λc=>b9 131 [c,i0] h U λd e f=>bf 8 aB λg=>bT e g λi=>c0 g i (b9 132 [i,i0] e f λj k l=>aN 12 k aB λm=>jg 12 aB m (b9 59 [m,d,j] k l λn o p=>af (cy n 0) λq=>af (cy n 1) λr=>ls r (R [aB,(.pointer none),r,bN,ef,i0] o p) (af (bs bN) λaD=>ax o 12 aD λw=>d4 (fh 1 [(.pointer none)] [(0,1,q)]) o p λx y z=>dG (dX (dT 1 y z w x)) λbz bU bQ=>af (bs bN) λa8=>bf 12 a8 λbY=>af (aQ bU 1 bY bz) λb7=>ax b7 8 aB λcK=>aW s 132 [cK,i0] b7 bQ λcC dn df=>bw .eql 3 cC (ad 0) (af (bs bN) λam=>ax dn 14 am λeP=>d4 (fh 1 [(.pointer none)] [(0,1,q)]) dn df λgx gN gE=>dG (dX (dT 1 gN gE eP gx)) λh7 iN gy=>af (bs bN) λlS=>bf 14 lS λlv=>af (aQ iN 1 lv h7) λlw=>cg i0 λoi=>N [aB,a2,a3,bN,ef,oi] lw gy) (cg i0 λoj=>N [aB,a2,a3,bN,ef,oj] dn df))) 2 [e,h]) 1 [h]) (aM [aB,a2,a3,bN,ef,i0] h U)
def afn:cP:=λs ah h U K=>bI ah h U λa b c=>aN 12 b a λd=>aW s 121 [d] b c λe f g=>ls e (K (.tuple ⟨[(.pointer none),e]⟩) f g) (aN 12 f a λj=>d4 (.ok .map) f g λk l m=>af (cS [(ad 0),(ad 0),(ad 0),(ad 0),ay,(ad 0),ay,(ad 0),(ad 0),(ad 0),(ad 0),ay,ay,(.map none),ay,ay] [(0,12,j),(13,1,k)]) λn=>bI n l m λo p q=>ax p 7 a λt=>ax p 8 a λv=>bG .mul 3 t v λw=>bD (bR Q s QP 70 0) [a,(.pointer none),(ad 0),o,w,(ad 0)] p q [(0,λx y z=>aW s 140 [(a7 x 3)] y z λbz bU bQ=>K (.tuple ⟨[(a7 x 3),(ad 0)]⟩) bU bQ)] (λa8 bY b7=>K (.tuple ⟨[(a7 a8 1),(a7 a8 2)]⟩) bY b7))
theorem asj{s:al}{E D B:X}{h:ae}{U:Nat}{R:aR}:bR Q s QP 70 0 [E,a2,a3,D,ef,B] h U N [(0,aM)] R=abZ s E a2 a3 D ef B h U N aM R:=by kernel_rfl
theorem auI:cQ 70 afn:=cT QP
def ab0:cP:=λs ah h U K=>bw .neq 110 ah (.pointer none) (af (bs ah) λb=>ax h 14 b λd=>aW s 141 [d,(.func (.func 142) #[] #[])] h U λe f g=>af (dr .not e) λi=>K i f g) (K (.bool false) h U)
theorem aoE:cQ 71 ab0:=cT []
def E1:aa (aa Nat):=[[0,3,15,16],[0,3,27,28,29]]
def WH(s:al)(aC a3 iZ g7:X)(h:ae)(U:Nat)(N:aR)(aM:aR)(R:aR):Prop:=cH g7 iZ (aW s 143 [aC,g7] h U λb c d=>br b (cg g7 λe=>N [aC,(.bool true),iZ,e] c d) (cg g7 λf=>N [aC,a3,iZ,f] c d)) (aM [aC,a3,iZ,g7] h U)
def WI(s:al)(aC a3 wK wS vf:X)(h:ae)(U:Nat)(N:aR)(aP:aR)(R:aR):Prop:=cH vf wS (hv 2 h 2 wK vf λc=>bW [(ad 0),(ad 0)] h U λd e f=>af (aQ e 2 d c) λg=>af (bs aC) λi=>ax g 13 i λk=>aN 2 g d λl=>af (jR Q g 198 (.pointer none) false k l) λm=>aW s 145 [m] g f λn o p=>b9 147 [m] o p λq r t=>af (ib (.array 2 1) d (ad 0)) λaD=>bT r aD λv=>c0 aD v (af (ib (.array 2 1) d (ad 1)) λw=>bT r w λx=>c0 w x (b9 146 [aC,v,x,q] r t λy z bz=>br a3 (cg vf λbU=>N [aC,(.bool true),wK,wS,bU] z bz) (aW s 145 [m] z bz λbQ a8 bY=>bG .lss 3 bQ n λb7=>cg vf λbL=>N [aC,b7,wK,wS,bL] a8 bY)) 1 [o]) 1 [o]) (aP [aC,a3,wK,wS,vf] h U)
def ZN:cP:=λs ah h U K=>bw .eql 110 ah (.pointer none) (K (.bool false) h U) (af (bs ah) λb=>ax h 12 b λd=>cV d λe=>bD (bR Q s E1 72 0) [ah,(.bool false),e,(ad 0)] h U [(0,λf g i=>aW s 144 [(a7 f 0)] g i λj k l=>cV j λm=>bD (bR Q s E1 72 1) [(a7 f 0),(a7 f 1),j,m,(ad 0)] k l [(2,λn o p=>K (a7 n 1) o p)] (λ_ _ _=>False))] (λ_ _ _=>False))
theorem aiR{s:al}{B D:X}{h:ae}{U:Nat}{R:aR}:bR Q s E1 72 0 [aC,a3,B,D] h U N [(0,aM)] R=WH s aC a3 B D h U N aM R:=by kernel_rfl
theorem aiS{s:al}{E D B:X}{h:ae}{U:Nat}{R:aR}:bR Q s E1 72 1 [aC,a3,E,D,B] h U N [(2,aP)] R=WI s aC a3 E D B h U N aP R:=by kernel_rfl
theorem ak2:cQ 72 ZN:=cT E1
def Nu(s:al)(K:bP)(cu cB co:X)(au:ae)(a0:Nat):Prop:=ax au 1 co λb=>aW s 155 [cu,b] au a0 λc d e=>af (cy c 0) λf=>af (cy c 1) λg=>bf 2 co λi=>af (aQ d 5 i f) λj=>aN 7 j co λk=>af (aQ j 7 cB k) λl=>aN 7 l cB λm=>K m l e
def ZO:cP:=λs ah h U K=>bW [(ad 0),(ad 0),(ad 0),(ad 0),ay,ay,ay] h U λa b c=>bw .eql 110 ah (.pointer none) (af (cS [(ad 0),(ad 0),(ad 0),(ad 0),ay,ay,ay] []) λe=>af (aQ b 7 a e) λf=>aN 7 f a λg=>K g f c) (aW s 150 [ah] b c λi j k=>af (cS [(ad 0),(ad 0),(ad 0),(ad 0),ay,ay,ay] [(1,1,i)]) λl=>bW [(ad 0),(ad 0),(ad 0),(ad 0),ay,ay,ay] j k λm n o=>af (aQ n 7 m l) λp=>aW s 71 [ah] p o λq r t=>br q (af (bs ah) λaD=>ax r 14 aD λw=>d0 r 1 w (ad 0) λy=>fc Q s (hJ r t [y] (.func (.func 67) #[] #[])) λz bz bU=>bf 0 m λbQ=>af (aQ bz 1 bQ z) λa8=>(Nu s K ah a m a8 bU)) (Nu s K ah a m r t))
theorem ak3:cQ 74 ZO:=cT []
def Rn:gf:=λs ah t1 t2 h U K=>bI ah h U λa b c=>bW [(ad 0),(ad 0),(ad 0),(ad 0),ay,ay,ay,(ad 0),(ad 0)] b c λd e f=>aN 12 e a λg=>aW s 157 [g,t1,t2] e f λi j k=>af (cy i 0) λl=>af (cy i 1) λm=>af (cy i 2) λn=>ls n (af (cS [(ad 0),(ad 0),(ad 0),(ad 0),ay,ay,ay,(ad 0),(ad 0)] []) λp=>af (aQ j 9 d p) λq=>aN 9 q d λr=>K (.tuple ⟨[r,n]⟩) q k) (aW s 74 [l] j k λt aD v=>aW s 152 [l] aD v λw x y=>af (cS [(ad 0),(ad 0),(ad 0),(ad 0),ay,ay,ay,(ad 0),(ad 0)] [(0,7,t),(7,1,w),(8,1,m)]) λz=>bW [(ad 0),(ad 0),(ad 0),(ad 0),ay,ay,ay,(ad 0),(ad 0)] x y λbz bU bQ=>af (aQ bU 9 bz z) λa8=>aW s 71 [l] a8 bQ λbY b7 bL=>af (dr .not bY) λcK=>br cK (bf 0 bz λcC=>bf 0 cC λdn=>af (aQ b7 1 dn (ad 4)) λdf=>aN 9 df bz λeJ=>af (aQ df 9 d eJ) λam=>aN 9 am d λan=>K (.tuple ⟨[an,n]⟩) am bL) (aN 9 b7 bz λeP=>af (aQ b7 9 d eP) λgx=>aN 9 gx d λgN=>K (.tuple ⟨[gN,n]⟩) gx bL))
theorem ad0:gl 76 Rn:=gp []
def PV:aa (aa Nat):=[[0,7,8,9]]
def ZP(s:al)(aC ba bx c4:X)(h:ae)(U:Nat)(N:aR)(aM:aR)(R:aR):Prop:=cH c4 bx (d0 h 1 ba c4 λc=>b9 68 [c] h U λd e f=>af (bs aC) λg=>bf 15 g λi=>bT e i λj=>c0 i j (cV j λk=>oL (λh=>z0 j) k (bw .neq 3 d k (R [aC,ba,bx,c4] e f) (cg c4 λm=>N [aC,ba,bx,m] e f)) 1 [h]) 1 [h]) (aM [aC,ba,bx,c4] h U)
def ad1:cP:=λs ah h U K=>af (bs ah) λa=>ax h 14 a λc=>cV c λd=>bD (bR Q s PV 140 0) [ah,c,d,(ad 0)] h U [(0,λe f g=>b9 234 [(a7 e 0)] f g λi j k=>af (bs (a7 e 0)) λl=>bf 15 l λm=>bT j m λn=>c0 m n (d4 (fh 1 [(ad 0),(ad 0),ay,ay,ay] [(0,5,i)]) j k λo p q=>dG (dX (dT 5 p q n o)) λr t aD=>q<=aD/\af (bs (a7 e 0)) λv=>bf 15 v λw=>af (aQ t 1 w r) λx=>K (.tuple ⟨[]⟩) x aD) 1 [f])] (λy z bz=>K (.tuple ⟨[]⟩) z bz)
theorem aoF{s:al}{B D:X}{h:ae}{U:Nat}{R:aR}:bR Q s PV 140 0 [aC,ba,B,D] h U N [(0,aM)] R=ZP s aC ba B D h U N aM R:=by kernel_rfl
theorem asl:cQ 140 ad1:=cT PV
def aoG:cP:=λs ah h U K=>aW s 67 [ah] h U λa b c=>bG .eql 86 a (ad 0) λd=>K d b c
theorem ak4:cQ 142 aoG:=cT []
def auJ:c5:=λs ah t1 h U K=>aW s 236 [ah,t1] h U λa b c=>af (dr .not a) λd=>br d (K (.bool false) b c) (af (bs ah) λe=>ax b 12 e λg=>d0 b 1 g t1 λj=>aW s 61 [j] b c λk l m=>af (cy k 0) λn=>af (cy k 1) λo=>bW [(ad 0),(ad 0),(ad 0),(ad 0),(ad 0),(ad 0),ay,ay,ay,(ad 0),(.bool false)] l m λp q r=>af (aQ q 11 p n) λt=>af (dr .not o) λaD=>br aD (K (.bool false) t r) (ax t 2 p λw=>b9 237 [ah,t1,w] t r λx y z=>aN 11 y p λbz=>jg 11 p bz (b9 238 [x,bz] y z λbU bQ a8=>ls bU (K (.bool false) bQ a8) (aW s 62 [j] bQ a8 λb7 bL cK=>K (.bool true) bL cK)) 1 [t]))
theorem ab1:c7 143 auJ:=c9 []
def ak5:vm:=λs ah t1 t2 t3 h U K=>aW s 237 [ah,t1,t2] h U λa b c=>aW s 243 [a,t3] b c λd e f=>af (cy d 0) λg=>af (cy d 1) λi=>af (cy d 2) λj=>bW [(ad 0),(ad 0),(ad 0),(ad 0),(ad 0),(ad 0),ay,ay,ay,(ad 0),(.bool false)] e f λk l m=>af (aQ l 11 k g) λn=>af (dr .not i) λo=>br o (K (.bool false) n m) (af (bs ah) λp=>ax n 12 p λr=>d0 n 1 r t2 λaD=>aN 11 n k λv=>b9 63 [aD,v] n m λw x y=>aW s 140 [ah] x y λz bz bU=>K (.bool true) bz bU)
theorem aiT:w4 146 ak5:=yy []
def aoH:cP:=λs ah h U K=>aW s 145 [ah] h U λa b c=>bw .eql 3 a (ad 0) (K (ad (-1)) b c) (af (bs ah) λe=>ax b 1 e λg=>aW s 244 [g] b c λi j k=>bW [(ad 0)] j k λl m n=>af (aQ m 1 l i) λo=>af (bs ah) λp=>ax o 1 p λr=>af (.ok (.func (.func 246) ⟨[]⟩ ⟨[l]⟩)) λt=>aW s 245 [r,t] o n λaD v w=>K aD v w)
theorem ak6:cQ 147 aoH:=cT []
def ZQ:cP:=λs ah h U K=>bw .eql 110 ah (.pointer none) (K (ad 0) h U) (af (bs ah) λb=>ax h 15 b λd=>cV d λe=>bG .sub 3 e (ad 1) λf=>K f h U)
theorem ak7:cQ 150 ZQ:=cT []
def IZ(s:al)(K:bP)(cu ct de sw:X)(au:ae)(a0:Nat):Prop:=br sw (af (cS [(ad 0),(ad 0),ay,ay,ay] []) λa=>af (aQ au 5 de a) λb=>aN 5 b de λc=>K (.tuple ⟨[c,(.bool false)]⟩) b a0) (af (bs cu) λd=>ax au 15 d λf=>hv 5 au 5 f ct λi=>bW [(ad 0),(ad 0),ay,ay,ay] au a0 λj k l=>af (aQ k 5 j i) λm=>ax m 2 j λo=>b9 88 [o] m l λp q r=>bf 3 j λt=>bT q t λaD=>c0 t aD (b9 88 [aD] q r λv w x=>bf 4 j λy=>bT w y λz=>c0 y z (b9 139 [z] w x λbz bU bQ=>bf 0 j λa8=>bT bU a8 λbY=>c0 a8 bY (bf 1 j λb7=>bT bU b7 λbL=>c0 b7 bL (af (cS [(ad 0),(ad 0),ay,ay,ay] [(0,1,bY),(1,1,bL),(2,1,p),(3,1,v),(4,1,bz)]) λcK=>af (aQ bU 5 de cK) λcC=>aN 5 cC de λdn=>K (.tuple ⟨[dn,(.bool true)]⟩) cC bQ) 3 [w,q,m]) 3 [w,q,m]) 2 [q,m]) 1 [m])
def ab2:c5:=λs ah t1 h U K=>bW [(ad 0),(ad 0),ay,ay,ay] h U λa b c=>bw .eql 110 ah (.pointer none) (IZ s K ah t1 a (.bool true) b c) (cH t1 (ad 0) (IZ s K ah t1 a (.bool true) b c) (af (bs ah) λf=>ax b 15 f λi=>cV i λj=>bG .geq 3 t1 j λk=>(IZ s K ah t1 a k b c)))
theorem aoI:c7 155 ab2:=c9 []
def E2:aa (aa Nat):=[[2,10,30,31,32],[10,14,40,41]]
def WJ(s:al)(a2 di tL iz ga:X)(h:ae)(U:Nat)(N:aR)(aM:aR)(R:aR):Prop:=cH ga iz (hv 4 h 4 tL ga λc=>bW [(ad 0),(ad 0),(ad 0),(ad 0)] h U λd e f=>af (aQ e 4 d c) λg=>aN 4 g d λi=>aW s 251 [di,i] g f λj k l=>cg ga λm=>N [a2,di,tL,iz,m] k l) (aM [a2,di,tL,iz,ga] h U)
def WK(s:al)(di jd wM va:X)(h:ae)(U:Nat)(N:aR)(aP:aR)(R:aR):Prop:=cH va wM (aW s 71 [di] h U λb c d=>br b (aP [di,jd,wM,va] c d) (aW s 72 [di] c d λe f g=>cg jd λi=>cg va λj=>N [di,i,wM,j] f g)) (aP [di,jd,wM,va] h U)
def OM:gf:=λs ah t1 t2 h U K=>bI ah h U λa b c=>aN 12 b a λd=>aW s 161 [d,t1,t2] b c λe f g=>ls e (K (.tuple ⟨[(.pointer none),(ad 0),e]⟩) f g) (aN 12 f a λj=>aW s 70 [j] f g λk l m=>af (cy k 0) λn=>af (cy k 1) λo=>ls o (K (.tuple ⟨[(.pointer none),(ad 0),o]⟩) l m) (cV t1 λq=>bD (bR Q s E2 157 0) [t2,n,t1,q,(ad 0)] l m [(0,λr t aD=>bD (bR Q s E2 157 1) [(a7 r 1),(ad 0),(a7 r 0),(ad 0)] t aD [(2,λv w x=>K (.tuple ⟨[(a7 v 0),(a7 v 1),(ad 0)]⟩) w x)] (λ_ _ _=>False))] (λ_ _ _=>False)))
theorem aiU{s:al}{B D E:X}{h:ae}{U:Nat}{R:aR}:bR Q s E2 157 0 [a2,di,B,D,E] h U N [(0,aM)] R=WJ s a2 di B D E h U N aM R:=by kernel_rfl
theorem aiV{s:al}{E B D:X}{h:ae}{U:Nat}{R:aR}:bR Q s E2 157 1 [di,E,B,D] h U N [(2,aP)] R=WK s di E B D h U N aP R:=by kernel_rfl
theorem XS:gl 157 OM:=gp E2
def BM:aa (aa Nat):=[[2,3,4,20,21,22],[2,3,4,7,20,21,22,42,43,44]]
def VE(s:al)(a2 a3 aY ba iA hC ef Ua Ub yz:X)(h:ae)(U:Nat)(N:aR)(aP:aR)(R:aR):Prop:=cH yz Ub (d0 h 1 Ua yz λc=>ax h 0 ba λe=>lu e c λf=>d4 (fh 1 [(ad 0)] [(0,1,f)]) h U λg i j=>dG (dX (dT 1 i j aY g)) λk l m=>cg yz λn=>N [a2,a3,k,ba,iA,hC,ef,Ua,Ub,n] l m) (aP [a2,a3,aY,ba,iA,hC,ef,Ua,Ub,yz] h U)
def VF(s:al)(a2 a3 aY iA hC ef:X)(h:ae)(U:Nat)(N:aR)(aM:aR)(R:aR):Prop:=cH ef hC (d0 h 1 iA ef λc=>aW s 69 [c] h U λd e f=>bW [(ad 0),(ad 0),ay,ay,ay] e f λg i j=>af (aQ i 5 g d) λk=>ax k 2 a3 λm=>ax k 2 g λo=>dG (dX (dT 1 k j m o)) λp q r=>j<=r/\bf 3 a3 λt=>bT q t λaD=>c0 t aD (bf 3 g λv=>bT q v λw=>c0 v w (dG (dX (dT 1 q r aD w)) λx y z=>r<=z/\bf 2 a3 λbz=>af (aQ y 1 bz p) λbU=>bf 3 a3 λbQ=>af (aQ bU 1 bQ x) λa8=>ax a8 4 g λb7=>aW s 119 [b7] a8 z λbL cK cC=>cV bL λdn=>bD (bR Q s BM 234 1) [a2,a3,aY,g,iA,hC,ef,bL,dn,(ad 0)] cK cC [(2,λdf eJ am=>cg (a7 df 6) λan=>N [(a7 df 0),(a7 df 1),(a7 df 2),(a7 df 4),(a7 df 5),an] eJ am)] (λ_ _ _=>False)) 1 [k]) 1 [k]) (aM [a2,a3,aY,iA,hC,ef] h U)
def WL:cP:=λs ah h U K=>bW [(ad 0),(ad 0),ay,ay,ay] h U λa b c=>af (bs ah) λd=>bf 0 d λe=>bf 0 e λf=>ax b 1 f λi=>af (cS [(ad 0),(ad 0),ay,ay,ay] [(1,1,i)]) λj=>bW [(ad 0),(ad 0),ay,ay,ay] b c λk l m=>af (aQ l 5 k j) λn=>af (bs ah) λo=>ax n 14 o λq=>cV q λr=>bD (bR Q s BM 234 0) [a,k,ay,q,r,(ad 0)] n m [(0,λt aD v=>ax aD 1 (a7 t 1) λx=>aW s 108 [x,(a7 t 2)] aD v λy z bz=>bf 4 (a7 t 1) λbU=>af (aQ z 1 bU y) λbQ=>aN 5 bQ (a7 t 1) λa8=>af (aQ bQ 5 (a7 t 0) a8) λbY=>aN 5 bY (a7 t 0) λb7=>K b7 bY bz)] (λ_ _ _=>False)
theorem ahh{s:al}{B E D:X}{h:ae}{U:Nat}{R:aR}:bR Q s BM 234 1 [a2,a3,aY,ba,iA,hC,ef,B,E,D] h U N [(2,aP)] R=VE s a2 a3 aY ba iA hC ef B E D h U N aP R:=by kernel_rfl
theorem ahi{s:al}{h:ae}{U:Nat}{R:aR}:bR Q s BM 234 0 [a2,a3,aY,iA,hC,ef] h U N [(0,aM)] R=VF s a2 a3 aY iA hC ef h U N aM R:=by kernel_rfl
theorem ahL:cQ 234 WL:=cT BM
def afo:c5:=λs ah t1 h U K=>bw .neq 110 ah (.pointer none) (bw .geq 3 t1 (ad 0) (af (bs ah) λc=>ax h 12 c λe=>cV e λf=>bG .lss 3 t1 f λg=>K g h U) (K (.bool false) h U)) (K (.bool false) h U)
theorem auK:c7 236 afo:=c9 []
def PW(s:al)(K:bP)(cu ct cB Uc:X)(au:ae)(a0:Nat):Prop:=br Uc (K (.pointer none) au a0) (af (cS [(ad 0),(ad 0)] [(0,1,ct),(1,1,cB)]) λa=>bW [(ad 0),(ad 0)] au a0 λb c d=>af (aQ c 2 b a) λe=>af (bs cu) λf=>ax e 13 f λi=>aN 2 e b λj=>af (jR Q e 198 (.pointer none) false i j) λk=>bw .eql 199 k (.pointer none) (af (bs cu) λm=>bf 0 m λn=>ax e 9 n λp=>b9 339 [p] e d λq r t=>af (bs cu) λaD=>bf 13 aD λv=>bT r v λw=>c0 v w (aN 2 r b λx=>jg 2 b x (af (cy q 0) λy=>af (mB Q 198 r w x y) λz=>af (cy q 1) λbz=>af (bs cu) λbU=>ax z 13 bU λa8=>aN 2 z b λbY=>af (jR Q z 198 (.pointer none) false a8 bY) λb7=>K b7 z t) 1 [e]) 1 [e]) (af (bs cu) λbL=>ax e 13 bL λcC=>aN 2 e b λdn=>af (jR Q e 198 (.pointer none) false cC dn) λdf=>K df e d))
def awX:gf:=λs ah t1 t2 h U K=>aW s 236 [ah,t1] h U λa b c=>af (dr .not a) λd=>br d (PW s K ah t1 t2 (.bool true) b c) (aW s 236 [ah,t2] b c λe f g=>af (dr .not e) λi=>(PW s K ah t1 t2 i f g))
theorem auL:gl 237 awX:=gp []
def ad3:c5:=λs ah t1 h U K=>bI t1 h U λa b c=>bw .eql 199 ah (.pointer none) (K (ad 10) b c) (aW s 340 [ah] b c λe f g=>br e (K (ad 9) f g) (aN 11 f a λi=>aW s 341 [i] f g λj k l=>af (aQ k 11 a j) λm=>af (bs ah) λn=>ax m 4 n λp=>bf 3 a λq=>af (aQ m 1 q p) λr=>af (bs ah) λt=>ax r 2 t λv=>ax r 3 a λx=>aN 11 r a λy=>af (mB Q 3 r v x y) λz=>ax z 3 a λbU=>aW s 342 [ah,bU] z l λbQ a8 bY=>af (bs ah) λb7=>ax a8 4 b7 λcK=>cg cK λcC=>af (bs ah) λdn=>bf 4 dn λdf=>af (aQ a8 1 df cC) λeJ=>K (ad 0) eJ bY))
theorem asm:c7 238 ad3:=c9 []
def ON(s:al)(K:bP)(cu ct de fH Td:X)(au:ae)(a0:Nat):Prop:=br Td (af (cS [(ad 0),(ad 0),(ad 0),(ad 0),(ad 0),(ad 0),ay,ay,ay,(ad 0),(.bool false)] []) λa=>af (aQ au 11 de a) λb=>aN 11 b de λc=>K (.tuple ⟨[c,(.bool false),fH]⟩) b a0) (aW s 347 [cu,ct] au a0 λd e f=>bW [(ad 0),(ad 0),(ad 0),(ad 0),(ad 0),(ad 0),ay,ay,ay,(ad 0),(.bool false)] e f λg i j=>af (aQ i 11 g d) λk=>ax k 3 g λm=>af (bs cu) λn=>ax k 5 n λp=>cH m p (af (cS [(ad 0),(ad 0),(ad 0),(ad 0),(ad 0),(ad 0),ay,ay,ay,(ad 0),(.bool false)] []) λr=>af (aQ k 11 de r) λt=>aN 11 t de λaD=>K (.tuple ⟨[aD,(.bool false),(ad 0)]⟩) t j) (af (bs cu) λv=>ax k 5 v λx=>cg x λy=>af (bs cu) λz=>bf 5 z λbz=>af (aQ k 1 bz y) λbU=>aN 11 bU g λbQ=>aW s 341 [bQ] bU j λa8 bY b7=>af (aQ bY 11 de a8) λbL=>aN 11 bL de λcK=>K (.tuple ⟨[cK,(.bool true),(ad 0)]⟩) bL b7))
def ad5:c5:=λs ah t1 h U K=>bW [(ad 0),(ad 0),(ad 0),(ad 0),(ad 0),(ad 0),ay,ay,ay,(ad 0),(.bool false)] h U λa b c=>aW s 346 [ah,t1] b c λd e f=>ls d (ON s K ah t1 a d (.bool true) e f) (af (bs ah) λi=>ax e 1 i λk=>d0 e 1 k t1 λm=>af (bs ah) λn=>ax e 5 n λp=>bG .gtr 3 m p λq=>(ON s K ah t1 a d q e f))
theorem asn:c7 243 ad5:=c9 []
def XT:c5:=λs ah t1 h U K=>bT h t1 λa=>bG .eql 3 ah a λb=>K b h U
theorem aiW:c7 246 XT:=c9 []
def PX(s:al)(K:bP)(cu rN:X)(au:ae)(a0:Nat):Prop:=br rN (K (.tuple ⟨[(.pointer none),(ad 3)]⟩) au a0) (d4 (.ok .map) au a0 λa b c=>d4 (.ok .map) b c λd e f=>af (cS [(ad 0),ay,(.map none),(.map none),(ad 0),(ad 0)] [(0,1,cu),(2,1,a),(3,1,d)]) λg=>bI g e f λi j k=>K (.tuple ⟨[i,(ad 0)]⟩) j k)
def afp:cP:=λs ah h U K=>cH ah (ad 1) (PX s K ah (.bool true) h U) (bG .gtr 3 ah (ad 64) λb=>(PX s K ah b h U))
theorem auM:cQ 339 afp:=cT []
def ad6:cP:=λs ah h U K=>af (bs ah) λa=>ax h 1 a λc=>cV c λd=>af (bs ah) λe=>ax h 0 e λg=>bG .geq 3 d g λi=>K i h U
theorem aso:cQ 340 ad6:=cT []
def afq:cP:=λs ah h U K=>bI ah h U λa b c=>bW [(ad 0),(ad 0),(ad 0),(ad 0),(ad 0),(ad 0),ay,ay,ay,(ad 0),(.bool false)] b c λd e f=>bf 5 a λg=>ax e 1 g λj=>aW s 217 [j] e f λk l m=>bf 5 a λn=>bf 1 n λo=>af (aQ l 1 o k) λp=>ax p 7 a λr=>aW s 218 [r] p m λt aD v=>bf 7 a λw=>af (aQ aD 1 w t) λx=>ax x 8 a λz=>aW s 406 [z] x v λbz bU bQ=>bf 8 a λa8=>af (aQ bU 1 a8 bz) λbY=>aN 11 bY a λb7=>af (aQ bY 11 d b7) λbL=>aN 11 bL d λcK=>K cK bL bQ
theorem auN:cQ 341 afq:=cT []
def afr:c5:=λs ah t1 h U K=>af (bs ah) λa=>ax h 1 a λc=>d4 (fh 1 [(ad 0)] [(0,1,t1)]) h U λd e f=>dG (dX (dT 1 e f c d)) λg i j=>af (bs ah) λk=>bf 1 k λl=>af (aQ i 1 l g) λm=>af (bs ah) λn=>ax m 3 n λp=>af (jR Q m 3 (ad 0) false p t1) λq=>cg q λr=>af (mB Q 3 m p t1 r) λt=>K (.tuple ⟨[]⟩) t j
theorem auO:c7 342 afr:=c9 []
def agw:c5:=λs ah t1 h U K=>bw .eql 199 ah (.pointer none) (K (ad 10) h U) (cH t1 (ad 0) (K (ad 3) h U) (af (bs ah) λc=>ax h 1 c λe=>cV e λf=>bw .geq 3 t1 f (K (ad 3) h U) (K (ad 0) h U)))
theorem awY:c7 346 agw:=c9 []
def afs:c5:=λs ah t1 h U K=>bW [(ad 0),(ad 0),(ad 0),(ad 0),(ad 0),(ad 0),ay,ay,ay,(ad 0),(.bool false)] h U λa b c=>af (bs ah) λd=>ax b 1 d λf=>d0 b 1 f t1 λi=>af (bs ah) λj=>ax b 2 j λl=>af (jR Q b 3 (.agg #[(ad 0),(ad 0),(ad 0),(ad 0),(ad 0),(ad 0),ay,ay,ay,(ad 0),(.bool false)]) false l i) λm=>bW [(ad 0),(ad 0),(ad 0),(ad 0),(ad 0),(ad 0),ay,ay,ay,(ad 0),(.bool false)] b c λn o p=>af (aQ o 11 n m) λq=>af (bs ah) λr=>ax q 1 r λaD=>cg t1 λv=>aW s 348 [aD,t1,v] q p λw x y=>af (bs ah) λz=>bf 1 z λbz=>af (aQ x 1 bz w) λbU=>af (bs ah) λbQ=>ax bU 3 bQ λbY=>af (jR Q bU 3 (ad 0) false bY i) λb7=>bG .sub 3 b7 (ad 1) λbL=>af (mB Q 3 bU bY i bL) λcK=>af (bs ah) λcC=>ax cK 3 cC λdf=>af (jR Q cK 3 (ad 0) false df i) λeJ=>bw .eql 3 eJ (ad 0) (af (bs ah) λan=>ax cK 3 an λgx=>dG (dX (pd Q .delete [302,3] cK y [gx,i])) λgN gE h7=>af (bs ah) λiN=>ax gE 2 iN λlS=>dG (dX (pd Q .delete [173,3] gE h7 [lS,i])) λlv lw oi=>aN 11 lw n λoj=>af (aQ lw 11 a oj) λcf=>aN 11 cf a λrO=>K rO cf oi) (aN 11 cK n λbe=>af (aQ cK 11 a be) λlT=>aN 11 lT a λpW=>K pW lT y)
theorem auP:c7 347 afs:=c9 []
def aft:cP:=λs ah h U K=>bw .eql 199 ah (.pointer none) (K (ad 0) h U) (af (bs ah) λb=>ax h 1 b λd=>cV d λe=>K e h U)
theorem auQ:cQ 145 aft:=cT []
def ad7:cP:=λs ah h U K=>bw .eql 199 ah (.pointer none) (K (ad 0) h U) (af (bs ah) λb=>ax h 4 b λd=>K d h U)
theorem asp:cQ 248 ad7:=cT []
def km(room:Int)(row:X)(dv dd:Nat)(iv lC:Nat):aa X:=[(room:X),row,.map (some dv),.map (some dd),(iv:X),(lC:X)]
theorem CR:vO Q 199=true:=by kernel_rfl
section
variable {s:al} {h:ae} {U b2 dv dd iv lC:Nat} {room:Int} {a:aw Addr} {n cap:Nat}
theorem FL(B:u h b2=some (.cells (km room (.slice a n cap) dv dd iv lC) false)):aH Q s 145 [bd b2] h U (fo (n:X) U h):=by refine auQ ?_;unfold aft;simp(disch:=omega)only[bn,pc CR,B,seval];exact⟨rfl,rfl,rfl⟩
theorem aoJ(B:u h b2=some (.cells (km room (.slice a n cap) dv dd iv lC) false)):aH Q s 248 [bd b2] h U (fo (iv:X) U h):=by refine asp ?_;unfold ad7;simp(disch:=omega)only[bn,pc CR,B,seval];exact⟨rfl,rfl,rfl⟩
theorem aoK(B:u h b2=some (.cells (km room (.slice a n cap) dv dd iv lC) false)):aH Q s 340 [bd b2] h U (fo (.bool (!decide ((n:Int)<room))) U h):=by refine aso ?_;unfold ad6;unfold km at B;refine bg @B ?_;exact⟨rfl,rfl,rfl⟩
theorem auR(B:u h b2=some (.cells (km room (.slice a n cap) dv dd iv lC) false))(D:k<n):aH Q s 346 [bd b2,(k:X)] h U (fo (.int .i64 0) U h):=by
 refine awY ?_;unfold agw
 unfold km at B;simp(disch:=omega)only[bn,pc CR,B,seval];exact⟨λh=>absurd h J,λ_=>⟨λh=>absurd h J,λ_=>⟨rfl,rfl,rfl⟩⟩⟩
theorem asq(D:1<=room)(B:room<=64):aH Q s 339 [(room:X)] h U (λr ac Y=>r = .tuple ⟨[.pointer (some ⟨U+2,0,none⟩),.int .i64 0]⟩/\u ac (U+2)=some (.cells (km room (.slice none 0 0) U (U+1) 0 0) false)/\u ac U=some (.map [] 0)/\u ac (U+1)=some (.map [] 0)/\aA U h ac/\Y=U+3):=by refine auM ?_;unfold afp;refine aF ?_;refine⟨λh=>absurd h J,λ_=>?_⟩;rw[hl J];unfold PX;refine aF ?_;exact⟨rfl,aK⟩
end
theorem ayZ:mY Q 99=true:=by kernel_rfl
theorem aiX{s:al}{h:ae}{U:Nat}{a:aw Addr}{c:Nat}:aH Q s 406 [.slice a 0 c] h U (λr ac Y=>(∃B bO,r = .slice B 0 bO)/\aA U h ac/\U<=Y):=by refine akh ?_;unfold Zn;simp(disch:=omega)only[bn,zr ayZ,seval];refine⟨λ_=>⟨⟨_,_,rfl⟩,aK⟩,λ_=>?_⟩;exact⟨⟨_,_,rfl⟩,aK,J⟩
theorem ab3{s:al}{h:ae}{U:Nat}{f:ev}{p:ku}(B:mF h U f p)(cF:p.lU.length<10000)(eE:p.nw.length<10000):
  aH Q s 341 [.agg ⟨d8 f⟩] h U (λr ac Y=>∃ks,r = .agg ⟨d8 ks⟩/\ks.hE=f.hE/\lo ac U Y ks p/\aA U h ac/\U<=Y):=by
 refine auN ?_;have bZ:∀{o aX},aA U h (T (T h U o) (U+1) aX):=aK
 have rP:=B.n8;unfold afq d8;refine aF ?_;refine(BN (B.sP.F  bZ J) cF).mono ?_;rintro HS bB bh ⟨I,K,fy⟩;have g0:=(K U J).trans ((aq J).trans (aS _ _ _));have dt:=(K (U+1) J).trans (aS _ _ _);obtain⟨P,hG,rfl⟩:=I.form;simp(disch:=omega)only[bn,g0,iD,seval];have M:∀{o},aA U h (T bB U o):=aK
 refine(WD (B.t4.F  M J) eE).mono ?_;rintro UV g2 bX ⟨L,E,eZ⟩;have gb:=(E U J).trans (aS _ _ _);have eo:=(E (U+1) J).trans ((aq J).trans dt);obtain⟨ba,i2,rfl⟩:=L.form;simp(disch:=omega)only[bn,gb,iD,rP,seval];refine aiX.mono ?_;rintro _ dj bS ⟨⟨bx,g3,rfl⟩,D,gA⟩;have lp:=(D U J).trans (aS _ _ _);have pR:=(D (U+1) J).trans ((aq J).trans eo);simp(disch:=omega)only[bn,lp,pR,iD,seval];generalize kt:T (T dj U _) (U+1) _=G;have H9:∀d,d≠U->d≠U+1->u G d=u dj d:=ab
 have H1:iB G U bS (.slice P p.lU.length hG) fD 2 p.lU:=I.F (λb h1 ar=>by rw[H9 b J J,D b J,aq J,E b J,aq J]) J J;have H2:iB G U bS (.slice ba p.nw.length i2) eL 3 p.nw:=L.F (λb h1 ar=>by rw[H9 b J J,D b J,aq J]) J J;exact⟨{ f with bu:=P,n6:=p.lU.length,hG:=hG,ba:=ba,n7:=p.nw.length,i2:=i2,bx:=bx,n8:=0,g3:=g3 },rfl,rfl,⟨⟨B.kind,B.e9,B.lI,B.round,B.lW,cN.o   (λ_=>rfl) H1.gr.rd,cN.o   (λ_=>rfl) H2.gr.rd,rfl,B.n,B.nW⟩,H1,H2⟩,aK,J⟩
theorem aiY{R C av i j:Nat}{x:f6}{m:cr}(P:mL R C av x m)(K:m.dst C≠i*C+j):
  (cO R C av x m).q i j=x.q i j/\(cO R C av x m).out (i*C+j)=x.out (i*C+j)/\(i=0->(cO R C av x m).P j=x.P j/\(cO R C av x m).e3 j=x.e3 j)/\(j=0->(cO R C av x m).a i=x.a i/\(cO R C av x m).w i=x.w i/\(cO R C av x m).dP i=x.dP i)/\(i=0->j=0->(cO R C av x m).V=x.V/\(cO R C av x m).fL=x.fL):=by
 have M:(cO R C av x m).out (i*C+j)=x.out (i*C+j):=by exact g6 J
 cases m with
 |share aG oh t =>
  obtain⟨_,L,aP,D,I,gz,ik,E,_⟩:=IP P;refine⟨by rw[L],M,λB=>E j λe=>K ?_,ab,ab⟩;rw[B,l1,iR,e];rfl
 |spread aG oh t =>
  obtain⟨L,aP,D,I,gz,ik,E,_,jw,_⟩:=IH;refine⟨jw i j λe=>K ?_,M,ab,ab,ab⟩;rw[e.1,e.2];rfl
 |dw aG oh t =>
  obtain⟨_,L,aP,D,I,gz,ik,E,_⟩:=IG P;refine⟨by rw[D],M,ab,λB=>⟨by rw[I],E i λe=>K ?_⟩,ab⟩;rw[B,e];rfl
 |dx aG t =>
  obtain⟨_,L,aP,D,I,gz,ik,_⟩:=IT P;refine⟨by rw[D],M,ab,ab,λB h1=>absurd ?_ K⟩;rw[B,h1,l1];rfl
 |order aG t =>
  obtain⟨L,aP,D,I,gz,_,_,_,_,_,E,_⟩:=No P;refine⟨by rw[D],M,ab,λB=>E i λe=>K ?_,ab⟩;rw[B,e];rfl
theorem O6(Z:b5):Z.fY Z.lim≠0:=by
 unfold b5.fY vJ
 grind
theorem ass(Z:b5):∃av,av<=Z.lim/\Z.fY av≠0/\∀t,t<=av->(Z.fY t=0↔t<av):=by
 have:∀n,(∃av,av<=n/\Z.fY av≠0/\∀t,t<av->Z.fY t=0)\/∀t,t<=n->Z.fY t=0:=by
  intro n
  induction n with
  |zero =>
   grind
  |succ n E =>
   grind
 rcases this Z.lim with⟨av,I,B,D⟩|h
 ·grind
 ·exact absurd ab (O6 Z)
def KX(h:ae)(v:X)(dq:aw Nat):Prop:=(v = .slice none 0 0/\dq=none)\/∃b w,dq=some b/\v = .slice (some ⟨b,0,some 1⟩) 0 1/\u h b=some (.cells [w] false)
theorem auS{h:ae}{U b q c:Nat}{x:Int}{D:al}(B:u h b=some (.cells [w] false))(E:u h q=some (.cells [(x:X)] D)):
  dT 1 h U (.slice (some ⟨b,0,some 1⟩) 0 1) (.slice (some ⟨q,0,none⟩) 1 c) = .ok (.val (.slice (some ⟨b,0,some 1⟩) 1 1) (T h b (.cells [(x:X)] false)) U):=by
 have I:k6 h (some ⟨q,0,none⟩) (Nat.mul 1 1) (λnew=>gT 1 h U (some ⟨b,0,some 1⟩) 0 1 1 new)=gT 1 h U (some ⟨b,0,some 1⟩) 0 1 1 [(x:X)]:=by show cellsOf h q (λK _=>R.of "read - out of block" (na (Nat.mul 1 1) (m6 K 0)) λnew=>gT 1 h U (some ⟨b,0,some 1⟩) 0 1 1 new)=_;rw[IN,E,E6];rfl
 show k6 h (some ⟨q,0,none⟩) (Nat.mul 1 1) (λnew=>gT 1 h U (some ⟨b,0,some 1⟩) 0 1 1 new)=_;rw[I];show R.bind (qb h b 0 [(x:X)]) (λh=>R.ok (fl.val (Value.slice (some ⟨b,0,some 1⟩) 1 1) h U))=_;rw[ID B rfl ab];rfl
section
variable {s:al} {h:ae} {U b2 dv dd iv lC cE x:Nat} {room:Int} {rw:X} {dq:aw Nat}
theorem ast(I:u h b2=some (.cells (km room rw dv dd iv lC) false))(bk:b2<U)(a5:KX h rw dq)(L:∀b,dq=some b->b<U/\b≠b2/\b≠dd)(bl:u h dd=some (.map [] cE))(hmo:dd<U/\dd≠b2):
  aH Q s 342 [bd b2,(x:X)] h U (λr ac Y=>r = .tuple ⟨[]⟩/\∃D,u ac b2=some (.cells (km room (.slice (some ⟨D,0,some 1⟩) 1 1) dv dd iv lC) false)/\u ac D=some (.cells [(x:X)] false)/\(dq=some D\/U<=D/\D<Y) /\
   iW ac dd hO [(x,.int .i64 1,cE)] (cE+1)/\(∀d,d<U->d≠b2->d≠dd->dq≠some d->u ac d=u h d)/\U<=Y):=by
 refine auO ?_;unfold afr;unfold km at I ⊢;rcases a5 with⟨rfl,rfl⟩|⟨b,w,rfl,rfl,a6⟩
 ·refine l5 @I ?_;refine l4 (enc:=c3) (k:=1) (ao:=U+1) (l:=[]) (λ_=>rfl) (λ_=>rfl) J (.inl ab) J (x:Int) (aS _ _ _) rfl (by simp) λdN b3 P K=>?_;obtain⟨aM,_⟩|⟨D,dt,eG,rfl,gt⟩:=P
  ·cases aM
  have jx:u b3 b2=_:=(K b2 J).trans ((aq J).trans I);have E:iW (T b3 b2 (.cells [(room:X),.slice (some ⟨D,0,some 1⟩) 1 1,.map (some dv),.map (some dd),(iv:X),(lC:X)] false)) dd hO [] cE:=Gz ab;have B:=wp (q0 nm) E (k:=x) (z:=.int .i64 0) (ok:=false);rw[show hO x = (x:X)from rfl,show iq ([]:aa (Nat × X × Nat)) x=none from rfl]at B;obtain⟨aP,M⟩:=Gy (x:=.int .i64 1) (q0 nm) E  rfl;rw[show hO x = (x:X)from rfl]at aP;rw[show(([]:aa Int)++[(x:Int)]).length=1 from rfl]
  replace B:jR Q _ 3 (.int .i64 0) false (.map (some dd)) (x:X) = .ok (.int .i64 0):=B
  simp(disch:=omega)only[bn,↓reduceIte,Nat.reduceAdd,Nat.reduceSub,Nat.reduceMul,Nat.reduceLT,Nat.reduceLeDiff,Nat.reduceEqDiff,Int.reduceBEq,Int.reduceLT,Int.reduceNeg,jx,B,show IntKind.wrap .i64 ((0:Int)+1)=1 from rfl,aP];refine⟨D,?_,?_,J,M _ ab,λd h1 ar aL _=>?_,J⟩
  ·rfl
  ·rw[aq J,aq J];exact gt
  grind
 ·obtain⟨eX,dO,fZ⟩:=L b rfl;refine l5 @I ?_;rw[auS ((aq J).trans a6) (aS _ _ _)];generalize kt:T (T h U _) b _=G;have g2:∀d,d≠b->d<U->u G d=u h d:=ab
  have U6:=(g2 b2 (kw dO) J).trans I;have E:iW (T G b2 (.cells [(room:X),.slice (some ⟨b,0,some 1⟩) 1 1,.map (some dv),.map (some dd),(iv:X),(lC:X)] false)) dd hO [] cE:=Gz ab;have B:=wp (q0 nm) E (k:=x) (z:=.int .i64 0) (ok:=false);rw[show hO x = (x:X)from rfl,show iq ([]:aa (Nat × X × Nat)) x=none from rfl]at B;obtain⟨aP,M⟩:=Gy (x:=.int .i64 1) (q0 nm) E  rfl;rw[show hO x = (x:X)from rfl]at aP
  replace B:jR Q _ 3 (.int .i64 0) false (.map (some dd)) (x:X) = .ok (.int .i64 0):=B
  simp(disch:=omega)only[bn,↓reduceIte,Nat.reduceAdd,Nat.reduceSub,Nat.reduceMul,Nat.reduceLT,Nat.reduceLeDiff,Nat.reduceEqDiff,Int.reduceBEq,Int.reduceLT,Int.reduceNeg,dX,U6,B,show IntKind.wrap .i64 ((0:Int)+1)=1 from rfl,aP];refine⟨b,?_,?_,ab,M _ ab,ab,J⟩
  all_goals grind
end
section
variable {s:al} {h:ae} {U b2 dv dd iv lC cX gu:Nat} {room:Int} {rw:X} {dq:aw Nat} {f:ev} {p:ku}
def SeK(b2 dv dd iv lC:Nat)(room:Int)(dq:aw Nat)(p:ku)(cX gu:Nat)(h:ae)(U:Nat):bP:=λr ac Y=>r = .int .i64 0/\∃cd ks m,u ac b2=some (.cells (km room (.slice (some ⟨cd,0,some 1⟩) 1 1) dv dd (iv+1) lC) false)/\u ac cd=some (.cells [(iv:X)] false)/\(dq=some cd\/m<=cd/\cd<Y) /\
 iW ac dd hO [(iv,.int .i64 1,cX)] (cX+1)/\iW ac dv hO [(iv,.agg ⟨d8 ks⟩,gu)] (gu+1)/\ks.hE=(iv:Int)/\lo ac U m ks p/\(∀d,d<U->d≠b2->d≠dd->d≠dv->dq≠some d->u ac d=u h d)/\U<=m/\m<=Y
theorem aoL(M:u h b2=some (.cells (km room rw dv dd iv lC) false))(bk:b2<U)(azL:1<=room)(a5:KX h rw dq)(rj:∀b,dq=some b->b<U/\b≠b2/\b≠dd/\b≠dv)(hmo:u h dd=some (.map [] cX))(hmb:u h dv=some (.map [] gu))(eU:dd<U/\dd≠b2)(Du:dv<U/\dv≠b2/\dv≠dd)(ap:iv<100000)(bK:mF h U f p)(cF:p.lU.length<10000)(eE:p.nw.length<10000):
  aH Q s 238 [bd b2,.agg ⟨d8 f⟩] h U (SeK b2 dv dd iv lC room dq p cX gu h U):=by
 refine asm ?_;have L:∀{o},aA U h (T h U o):=aK
 obtain⟨a,cap,rfl⟩:∃a cap,rw = .slice a 0 cap:=by rcases a5 with⟨e,_⟩|⟨_,_,_,e,_⟩ <;> grind
 have D:(0:Int)<room:=J
 unfold ad3;unfold d8;simp(disch:=omega)only[bn,↓reduceIte,Nat.reduceAdd,Nat.reduceSub,Nat.reduceMul,Nat.reduceLT,Nat.reduceLeDiff,Nat.reduceEqDiff,Int.reduceBEq,Int.reduceLT,Int.reduceNeg,pc CR];refine(aoK ((L b2 bk).trans M)).fR ?_;refine l5 @D ?_;refine⟨λh=>absurd J h,λ_=>?_⟩;refine(ab3  (bK.F  L J) cF eE).mono ?_;rintro _ I bh ⟨E,rfl,hx3,ed,B,fy⟩;have g0:=(B U J).trans (aS _ _ _);have aAW:∀{o aX},u (T (T I U o) U aX) b2=_:=λ{o aX}=>(aq J).trans ((aq J).trans ((B b2 J).trans ((L b2 bk).trans M)));have K:∀{o},u (T I U o) b2=_:=λ{o}=>(aq J).trans ((B b2 J).trans ((L b2 bk).trans M));have hV:∀{o aX},iW (T (T I U o) U aX) dv hO [] gu:=λ{o aX}=>Gz (by rw[aq J,aq J,B dv J,aq J];omega);have aP:=λo aX=>Gy (x:=.agg ⟨d8 { E with hE:=(iv:Int) }⟩) (q0 nm) (hV (o:=o) (aX:=aX)) (k:=iv) rfl;unfold d8 at aP ⊢;unfold km at aAW K;rw[show hO iv = (iv:X)from rfl]at aP;simp(disch:=omega)only[bn,↓reduceIte,Nat.reduceAdd,Nat.reduceSub,Nat.reduceMul,Nat.reduceLT,Nat.reduceLeDiff,Nat.reduceEqDiff,Int.reduceBEq,Int.reduceLT,Int.reduceNeg,g0,aAW,K,(aP _ _).1];have P:=(aP (.cells (d8 E) false) (.cells (d8 { E with hE:=(iv:Int) }) false)).2 _ (aS (T (T I U (.cells (d8 E) false)) U (.cells (d8 { E with hE:=(iv:Int) }) false)) dv _);unfold d8 at P;dsimp only at P;generalize fJ:T (T (T I U _) U _) dv _=H at P ⊢;have UX:∀d,d≠dv->d≠U->u H d=u I d:=ab
 have aCq:∀d,d<U->d≠dv->u H d=u h d:=λd h1 ar=>by rw[UX d ar J,B d J,aq J]
 have hrH:KX H (.slice a 0 cap) dq:=by
  rcases a5 with q|⟨b,w,dt,eG,gt⟩
  ·exact .inl q
  ·exact .inr ⟨b,w,dt,eG,ab⟩
 refine(ast   (cE:=cX) ((aCq b2 bk (kw Du.2.1)).trans M) J hrH ab ab J).mono ?_;rintro _ b3 fT ⟨rfl,cd,eo,gY,i1,nC,UA,aC0⟩;unfold km at eo;refine te @eo (cG (J:iv<1000000000000)) ?_;refine⟨rfl,cd,{ E with hE:=(iv:Int) },bh,aS _ _ _,ab,i1,nC.F ab,P.F ab,rfl,?_,ab,J,J⟩;have U7:lo (T b3 b2 (.cells [(room:X),.slice (some ⟨cd,0,some 1⟩) 1 1,.map (some dv),.map (some dd),((iv+1:Nat):X),(lC:X)] false)) U bh E p:=ed.F ab J J;exact⟨{ U7.is with },U7.hG,U7.i2⟩
end
def J6(P:Program)(t dM:Nat):al:=match P.underlying t with
 |some (.map k _)=>Nat.beq k dM
 |_=>false
theorem afu{iL:Type}[DecidableEq iL]{cn:iL->X}{av B n c r U:Nat}{rest:aa Nat}{k:iL}{h:ae}(D:J6 Q av B=true)(K:wo Q B cn)(H:iW h r cn [(k,v,n)] c):
  pd Q .delete (av::rest) h U [.map (some r),cn k] = .ok (.val jP (T h r (.map [] c)) U):=by
 have E:∃b,Q.underlying av=some (.map B b):=by
  unfold J6 at D
  split at D
  ·rename_i I b e
   rw[e,gG D];grind
  grind
 obtain⟨b,e⟩:=E;show Fp Q av h U (.map (some r)) (cn k)=_;unfold Fp;rw[e];simp only;rw[K.ok];unfold OR;simp only;unfold kQ;rw[H.at_];show(match kx Q B (cn k) [{ key:=cn k,val:=v,born:=n }] 0 with|some (some (i,_))=>R.ok (fl.val jP (T h r (.map (Ku (lf cn [(k,v,n)]) i) c)) U)|some none=>.ok (.val jP h U)|none=>.no "delete - key")=_;have aP:kx Q B (cn k) [{ key:=cn k,val:=v,born:=n }] 0=some (some (0,{ key:=cn k,val:=v,born:=n })):=by show(match kP Q B (cn k) (cn k)with|some true=>some (some (0,({ key:=cn k,val:=v,born:=n }:MapEntry)))|some false=>kx Q B (cn k) [] 1|none=>none)=_;rw[K.eq,g4 rfl]
 rw[aP];rfl
theorem awZ:J6 Q 302 3=true:=by kernel_rfl
theorem aw0:J6 Q 173 3=true:=by kernel_rfl
theorem L8:((1:Nat):Int)=1:=rfl
theorem c0i:((0:Nat):Int)=0:=rfl
theorem ay0:mY Q 62=true:=by kernel_rfl
theorem ay1:q2 Q 62=some 3:=by kernel_rfl
theorem zeI:nM Q 3=some (c3 0):=by kernel_rfl
section
variable {s:al} {h:ae} {U b n:Nat}
theorem auT(D:u h b=some (.cells [(n:X)] false)):
  aH Q s 348 [.slice (some ⟨b,0,some 1⟩) 1 1,.int .i64 0,.int .i64 1] h U (λr ac Y=>r = .slice (some ⟨b,0,some 1⟩) 0 1/\ac=T h b (.cells [.int .i64 0] false)/\Y=U):=by
 refine aim ?_;unfold Xw;simp(disch:=omega)only[bn,L8,c0i,show gW 1 (.slice (some ⟨b,0,some 1⟩) 1 1) (some (.int .i64 0)) (some (.int .i64 1)) (some (.int .i64 1)) = .ok (.slice (some ⟨b,0,none⟩) 1 1)from rfl,show gW 1 (.slice (some ⟨b,0,some 1⟩) 1 1) none (some (.int .i64 0)) none = .ok (.slice (some ⟨b,0,some 1⟩) 0 1)from rfl,show gW 1 (.slice (some ⟨b,0,some 1⟩) 1 1) (some (.int .i64 1)) none none = .ok (.slice (some ⟨b,0,some 0⟩) 0 0)from rfl,show dT 1 h U (.slice (some ⟨b,0,some 1⟩) 0 1) (.slice (some ⟨b,0,some 0⟩) 0 0) = .ok (.val (.slice (some ⟨b,0,some 1⟩) 0 1) h U)from rfl,dX,show gW 1 (.slice (some ⟨b,0,some 1⟩) 0 1) (some (.int .i64 0)) (some (.int .i64 1)) none = .ok (.slice (some ⟨b,0,some 1⟩) 1 1)from rfl,seval];have B:=abN  (k:=1)  (i:=0) (n:=1) (c:=1) (U:=U) (aO:=some 1) (l:=[(n:Int)]) (0:Int) (λ_=>rfl) (λ_=>rfl) ay0 ay1 zeI rfl J D
 replace B:=B.trans (show _=R.ok (.val jP (T h b (.cells [.int .i64 0] false)) U)from rfl)
 rw[show(0:Nat)*1=0 from rfl,show 1-0=1 from rfl]at B;rw[B];exact⟨rfl,rfl⟩
theorem auU(D:u h b=some (.cells [(n:X)] false)):
  aH Q s 244 [.slice (some ⟨b,0,some 1⟩) 1 1] h U (fo (n:X) U h):=by refine arB ?_;unfold adG;refine cL @D @L8 ?_;refine λ_=>bD.mk (λ_ B ac Y=>B=[.slice (some ⟨b,0,some 1⟩) 1 1,(n:X),.int .i64 1]/\ac=h/\Y=U) 0 ab ?_;rintro _ _ _ _ ⟨rfl,rfl,rfl⟩;rw[anF];unfold Zh;refine bg @L8 ?_;exact λ_=>⟨rfl,rfl,rfl⟩
theorem auV{q:Nat}(D:u h b=some (.cells [(n:X)] false))(E:u h q=some (.cells [(n:X)] false)):
  aH Q s 245 [.slice (some ⟨b,0,some 1⟩) 1 1,.func (.func 246) ⟨[]⟩ ⟨[bd q]⟩] h U (fo (.int .i64 0) U h):=by refine aqO ?_;unfold adl;refine bg @L8 ?_;refine bD.mk (λ_ B ac Y=>B=[.slice (some ⟨b,0,some 1⟩) 1 1,.func (.func 246) ⟨[]⟩ ⟨[bd q]⟩,.int .i64 0,.int .i64 1,.int .i64 0]/\ac=h/\Y=U) 0 ab ?_;rintro _ _ _ _ ⟨rfl,rfl,rfl⟩;rw[amU];unfold YY;refine bg @D ?_;refine⟨?_,λh=>absurd trivial h⟩;refine aiW ?_;unfold XT;refine bg @E ?_;exact⟨λ_=>⟨rfl,rfl,rfl⟩,λh=>absurd h ab⟩
end
end Go.Proofs.YthlhhajnbgjfmaaGreat
