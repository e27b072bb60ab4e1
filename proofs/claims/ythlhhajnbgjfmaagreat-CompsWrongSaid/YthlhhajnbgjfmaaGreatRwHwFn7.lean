/- Parts of the proof: HwFn7: each statement bears its own conditions. -/
import Derived.Test.YthlhhajnbgjfmaaGreatRwHwFn6
namespace Go.Proofs.YthlhhajnbgjfmaaGreat
open Go Go.Ax Go.Ax.HdH
set_option linter.all false
set_option maxHeartbeats 1000000
set_option maxRecDepth 1000000
variable {f2:Nat->av Int} {v:X} {q:Nat->ak} {a3:X} {N:aH} {gs af:aa GE} {aF:aH} {y:Nat->av Int} {dV:Nat->ak} {us:aa GE} {ai:Nat} {a0 a2:X} {es:aa MapEntry} {aA:Type} {enc:aA->aa X} {cZ en aV w:X} {A:aa Int} {aJ:aH} {i2 h5:X} {r:Int} {k:Nat} {ew gi aZ:X} {len:Int} {ed da:Nat} {st:Int} {o:ak} {iJ V:Nat}
theorem R2:bin Q .neq 162 (.agg ⟨[.int .i64 0,.int .i64 0]⟩) (.agg ⟨[.int .i64 0,.int .i64 0]⟩) = .ok (.bool false):=by kernel_rfl
structure sy (g h:ad) (U aK:Nat):Prop where
 s:lx g h
 p:u g aK=none
 n:∀d,U<=d->u g d=none
theorem sy.sub{g h ac:ad}{U aK:Nat}(G:sy g h U aK)(E:∀d,d<U->d≠aK->u ac d=u h d):lx g ac:=λd o B=>by
 have D:d<U:=FI λD=>by rw[G.n d D]at B;grind
 rw[E d D λe=>by rw[e,G.p]at B;grind];exact G.s d o B
structure Ue (c bL:Nat->X) (t:Nat) (st:Int):Prop where
 a:∀n,n<22\/(23<=n/\n<26)\/(33<=n/\n<38)\/41<=n->bL n=c n
 r:bL 26 = (t:X)
 s:bL 27 = (st:X)
 h:∀n,28<=n->n<33->bL n=if t=0 then c n else c (n+5)
 w:bL 38 = .bool false
 b:bL 39 = .bool true
section
variable {s:ak} {g cb h ac:ad} {U Y aK i j:Nat} {c bL:Nat->X} {l:aa eE} {aP:av Nat} {Z:b5}
def El(Z:b5)(c:Nat->X)(aK i t bZ cL:Nat)(st:Int)(S:jL)(l:aa eE)(aP:av Nat)(h:ad)(U:Nat):bD:=λoj ac Y=>oj = .bool true/\∃bL hj ds B,Ue c bL t st/\bL 40=(if st=0 then .slice none 0 0 else c 40)/\e0 ac Y aK bL i 0 Z.C (l++ds) hj /\
 k5 ac U B ds (if st=0 then(List.range Z.C).map (LL Z i (t+1) (rc Z.k (iW Z.bt Z.N (t / 2)) (t+1) S))else[])/\U<=B/\B<=Y/\(∀b,hj=some b->aP=some b\/B<=b)/\(st=0->u ac bZ=some (.map [] cL))/\(∀d,d<U->d≠aK->(st=0->d≠bZ)->aP≠some d->u ac d=u h d)/\U<=Y
theorem auQ{a b:X}(B:c 0=a)(D:c 1=b):hF (some 2) 0 (dt c) = .ok (.agg ⟨[a,b]⟩):=by subst B D;rfl
theorem al5{t bZ cL:Nat}{S:jL}{cm:Nat->X}{D:ad}{L:Nat}(K:gj Z)(W:e0 D L aK cm i 0 Z.C l aP)(H:kv D L cm Z i 0)(bg:l.length+Z.C<900)(ai:i<Z.R)(E:Ue c cm t st)(z0:cm 40=c 40)(ar:jK D L (.agg ⟨[cm 28,cm 29,cm 30,cm 31,cm 32]⟩) (Z.bB i) (Z.H i) S)(cy:t<900)(mT:cm 41 = .map (some bZ))(hm:u D bZ=some (.map es cL))(zU:bZ<U/\bZ≠aK/\aP≠some bZ)(i0:st=0\/st=1\/st=2)(I:U<=L)(hkp:∀d,d<U->d≠aK->u D d=u h d):
  ((st == 0)=true->aD Q s 232 [bb aK] D L λx62 Wr M=>El Z c aK i t bZ cL st S l aP h U (.bool true) Wr M)/\((st == 0)=false->El Z c aK i t bZ cL st S l aP h U (.bool true) D L):=by
 have no:st≠0->El Z c aK i t bZ cL st S l aP h U (.bool true) D L:=λe=>⟨rfl,cm,aP,[],U,E,ab,by rw[hM];exact W,by rw[if_neg e];trivial,J,I,ab,J,ab,I⟩
 refine⟨λe=>?_,λe=>no ab⟩
 ·obtain rfl:st=0:=ab
  refine(aj9 K W H bg ai ar E.r cy mT hm ab).mono ?_;rintro _ bc d4 ⟨rfl,bL,P,ds,B,e40,Oj,he,aG,hr',bx,xA⟩;refine⟨rfl,bL,some P,ds,P,⟨λn bm=>?_,?_,?_,λn h1 al=>?_,?_,?_⟩,ab,Oj,by rw[if_pos rfl];exact he.T ab I J,J,by have:=(Oj.aP P rfl).2;omega,ab,ab,ab,J⟩
  ·rw[B n J J];exact E.a n bm
  ·rw[B 26 J J];exact E.r
  ·rw[B 27 J J];exact E.s
  ·rw[B n J J];exact E.h n h1 al
  ·rw[B 38 J J];exact E.w
  ·rw[B 39 J J];exact E.b
theorem ai4{t bZ cL:Nat}{S:jL}{f:eE}(K:gj Z)(W:e0 h U aK c i 0 Z.C l aP)(G:sy g h U aK)(H:kv g U c Z i 0)(bg:l.length+Z.C<900)(ai:i<Z.R)(cy:t<900)(mZ:f.round=(t:Int))(eL:f.n=st)(i0:st=0\/st=1\/st=2)(P:t=0->jK g U (.agg ⟨[c 28,c 29,c 30,c 31,c 32]⟩) (Z.bB i) (Z.H i) S)(E:jK g U (.agg ⟨[c 33,c 34,c 35,c 36,c 37]⟩) (Z.bB i) (Z.H i) S)(Fa:c 26 = ((t-1:Nat):X))(NP:c 27 = .int .i64 0)(NQ:c 38 = .bool true)(e39:c 39 = .bool (decide (0<t)))(mT:c 41 = .map (some bZ))(hm:u h bZ=some (.map es cL))(I:bZ<U/\bZ≠aK/\aP≠some bZ):
  aD Q s 137 [bb aK,.agg ⟨ef f⟩,.agg ⟨[.int .i64 0,.int .i64 0]⟩] h U (El Z c aK i t bZ cL st S l aP h U):=by
 refine aj3 ?_;have ci:=W.lt;have bF:∀{o aW},az U h (F (F h U o) (U+1) aW):=aC
 have D:∀{o aW},u (F (F h U o) (U+1) aW) aK=some (.cells (dt c) false):=λ{o aW}=>(bF aK ci).trans W.at_;have hp:∀{y:Int},((y == y):ak)=true:=ab
 have kf:decide (st<0)=false:=ab
 have kY:decide (3<st)=false:=ab
 unfold aai ef;have fin:∀iq cm,u iq aK=some (.cells (dt cm) false)->(∀d,d<U->d≠aK->u iq d=u h d)->(∀n,n<22\/n=22->cm n=c n)->Ue c cm t st->cm 40=c 40->cm 41=c 41 ->
   ((st == 0)=true->aD Q s 232 [bb aK] iq (U+2) λx62 Wr n64=>El Z c aK i t bZ cL st S l aP h U (.bool true) Wr n64)/\((st == 0)=false->El Z c aK i t bZ cL st S l aP h U (.bool true) iq (U+2)):=λiq cm bv hk aU L z0 h41=>by
  refine al5 K (W.set  bv ab ab ab ab (λb e=>by have:=W.aP b e;grind) J) (((H.set ab).T  aC J).sub (G.sub hk)) bg ai L z0 (hP.sub (hP.T (U:=U)  (h:=g) ?_ aC J) (G.sub hk)) cy ab ((hk bZ I.1 I.2.1).trans hm) I i0 J hk;rw[L.h 28 J J,L.h 29 J J,L.h 30 J J,L.h 31 J J,L.h 32 J J]
  by_cases ap:t=0
  ·simp only[if_pos ap];exact P ap
  ·simp only[if_neg ap];exact E
 by_cases ap:t=0
 ·subst ap;have pR:(((0:Nat):Int) == 0)=true:=rfl
  replace mZ:f.round=0:=mZ
  simp(disch:=omega)only[bd,ia,D,e39,show decide (0<0)=false from rfl,seval];unfold Ko;simp(disch:=omega)only[bd,ia,D,W.c1,pR,R2,NQ,NP,mZ,eL,kf,hp,seval];refine λ_=>?_;rw[kY];unfold wO;refine HF @D ?_;unfold Kn;refine aB ?_;refine λ_=>fin _ (hK (hK (hK c 38 (.bool false)) 39 (.bool true)) 27 (st:X)) ab ab (λn bm=>?_) ⟨λn bm=>?_,?_,?_,λn h1 al=>?_,?_,?_⟩ rfl rfl
  ·rw[dN J,dN J,dN J]
  ·rw[dN J,dN J,dN J]
  ·rw[dN J,dN J,dN J];omega
  ·rfl
  ·rw[dN J,dN J,dN J,if_pos rfl]
  ·rfl
  ·rfl
 ·obtain⟨B,rfl⟩:∃B,t=B+1:=⟨t-1,J⟩
  have bu:decide (0<B+1)=true:=ab
  have Xu:IntKind.wrap .i64 ((B:Int)+1)=((B+1:Nat):Int):=cn J;have Uf:c 26 = (B:X):=Fa;have pR:(((0:Nat):Int) == 0)=true:=rfl;have aCh:(st == 3)=false:=ab
  have M:(0:Int)<((B+1:Nat):Int):=J
  refine L9 @D @e39 @bu @Uf @Xu ?_;unfold Ko;simp(disch:=omega)only[bd,ia,D,W.c1,pR,R2,NQ,NP,mZ,eL,kf,hp,seval];rw[kY];unfold wO;refine zp @D @M @aCh ?_;unfold Kn;have M6:(hv (c 33)&&(hv (c 34)&&(hv (c 35)&&(hv (c 36)&&hv (c 37)))))=true:=by obtain⟨cY,fJ,ei,g9,fE,gJ,gq⟩:=E;obtain⟨fk,fv,rfl,_⟩:=id fE;obtain⟨gH,fF,rfl,_⟩:=id gJ;obtain⟨lg,ir,rfl,_⟩:=id gq;simp only[Value.agg.injEq,wJ,vm,iy]at g9;obtain⟨Ir,ER,a35,NM,a37⟩:=g9;rw[Ir,ER,a35,NM,a37];rfl
  refine HF @M6 ?_;refine⟨fin _ (hK (nZ (hK (hK (hK c 38 (.bool false)) 39 (.bool true)) 27 (st:X)) 28 [c 33,c 34,c 35,c 36,c 37]) 26 (((B+1:Nat):X))) ab ab (λn bm=>?_) ⟨λn bm=>?_,rfl,rfl,λn h1 al=>?_,rfl,rfl⟩ rfl rfl,λh=>absurd trivial h⟩
  ·rw[dN J,ue J,dN J,dN J,dN J]
  ·rw[dN J,ue ab,dN J,dN J,dN J]
  ·rw[if_neg J];rcases(by omega:n=28\/n=29\/n=30\/n=31\/n=32)with rfl|rfl|rfl|rfl|rfl <;> rfl
end
theorem aka{n:Nat}{dy:Nat->av Int}:(bn n dy).filter (λp=>q p.1)=bn n λk=>if q k=true then dy k else none:=by
 induction n with
 |zero=>rfl
 |succ n B =>
  rw[uh,uh,rJ,B]
  grind
def uz(k:Int)(aQ:Nat->Int)(t:Nat)(r:Int)(S:jL)(f2:Nat->av Int):jL where
 A v:=(kL k aQ t S v (q6 r (if te k S v=true then f2 v else none))).1
 B v:=(kL k aQ t S v (q6 r (if te k S v=true then f2 v else none))).2.1
 q v:=(kL k aQ t S v (q6 r (if te k S v=true then f2 v else none))).2.2
theorem Bf.T{h ac:ad}{ao U Y:Nat}{w:X}{o:ak}{n:Nat}{q:Nat->ak}(H:Bf h ao U w o n q)(D:∀d,ao<=d->d<U->u ac d=u h d)(B:U<=Y):Bf ac ao Y w o n q:=by
 rcases H with H|⟨e,H⟩
 ·exact .inl H
 ·exact .inr ⟨e,eZ.T H D J B⟩
section
variable {s:ak} {g cb h ac:ad} {U Y aK i j:Nat} {c bL:Nat->X} {l:aa eE} {aP so:av Nat} {Z:b5}
theorem aps{ao:Nat}{p:Nat × Int}{B D n:Nat}(bm:n<=60)(hY:Bf h ao U w o n q)(h1:u h B=some (.cells [w] false))(L:u h D=some (.cells [.bool o] false))(de:B<U)(bO:D<U)(bv:p.1<n):
  aD Q s 333 [.agg ⟨eA p⟩,bb B,bb D] h U (cI (.bool (!q p.1)) U h):=by
 refine bS ?_;have E:∀{o},az U h (F h U o):=aC
 have M:∀{o},u (F h U o) B=some (.cells [w] false):=ab
 have I:∀{aW},u (F h U aW) D=some (.cells [.bool o] false):=ab
 have K:=L;rw[show eA p=[(p.1:X),.int .i64 (p.2 / 18446744073709551616),.int .u64 (p.2 % 18446744073709551616)]from rfl];refine a9 @M ?_;rcases hY with⟨rfl,rfl,cz⟩|⟨rfl,P⟩
 ·refine(RY ).f4 ⟨J,?_⟩;simp(disch:=omega)only[bd,I,K,fZ,seval];exact⟨ab,E,J⟩
 ·refine(LK   J bv (cN.T P.rd  E J)).f4 ⟨J,?_⟩;simp(disch:=omega)only[bd,I,K,fZ,seval];exact⟨by cases q p.1 <;> rfl,E,J⟩
theorem sy.Ug(G:sy g h U aK)(I:∀b,so=some b->u g b=none)(E:∀d,d<U->d≠aK->so≠some d->u ac d=u h d):lx g ac:=λd o B=>by
 have D:d<U:=FI λD=>by rw[G.n d D]at B;grind
 rw[E d D (λe=>by rw[e,G.p]at B;grind) ab];exact G.s d o B
theorem ai5{t:Nat}{S:jL}(K:gj Z)(W:e0 h U aK c i 0 Z.C l aP)(G:sy g h U aK)(H:kv g U c Z i 0)(bg:l.length<900)(ai:i<Z.R)(D:1<=t)(cy:t<900)(ar:jK g U (.agg ⟨[c 28,c 29,c 30,c 31,c 32]⟩) (Z.bB i) (Z.H i) S)(hm:nw h (c 40) (bn (Z.H i) λk=>f2 (Z.bB i+k)) so)(pE:∀b,so=some b->b<U/\b≠aK/\aP≠some b/\u g b=none)(rC:∀v y,f2 v=some y->0<=y/\y<=eB):
  aD Q s 230 [bb aK,(t:X)] h U (λoj ac Y=>oj = .tuple ⟨[]⟩/\∃bL ck,(∀n,n≠22->n≠38->n≠40->(n<33\/38<=n)->bL n=c n)/\bL 38 = .bool true/\bL 40 = .slice none 0 0 /\
   mb ac U ck (.agg ⟨[bL 33,bL 34,bL 35,bL 36,bL 37]⟩) (Z.bB i:Int) ((Z.bB i+Z.H i:Nat):Int) (Z.H i) (cF (Z.H i) λk=>(uz Z.k (iW Z.bt Z.N ((t-1) / 2)) t (fh Z.k t) S f2).A (Z.bB i+k)) (cF (Z.H i) λk=>(uz Z.k (iW Z.bt Z.N ((t-1) / 2)) t (fh Z.k t) S f2).B (Z.bB i+k)) (λk=>(uz Z.k (iW Z.bt Z.N ((t-1) / 2)) t (fh Z.k t) S f2).q (Z.bB i+k)) /\
   e0 ac Y aK bL i 0 Z.C (l++[DK ((i*Z.C+0:Nat):Int) t (q9 Z.k Z.len t (Z.H i) (cF (Z.H i) λk=>(uz Z.k (iW Z.bt Z.N ((t-1) / 2)) t (fh Z.k t) S f2).A (Z.bB i+k)) (λk=>(uz Z.k (iW Z.bt Z.N ((t-1) / 2)) t (fh Z.k t) S f2).q (Z.bB i+k)):Int) false]) (some ck)/\U<=ck /\
   (∀d,d<U->d≠aK->aP≠some d->so≠some d->u ac d=u h d)/\U<=Y):=by
 refine bS ?_;generalize Ws:uz Z.k (iW Z.bt Z.N ((t-1) / 2)) t (fh Z.k t) S f2=k1;have ci:=W.lt;have oS:=ar;obtain⟨cY,fJ,ei,g9,fE,gJ,gq⟩:=ar;obtain⟨fk,fv,rfl,_⟩:=id fE;obtain⟨gH,fF,rfl,_⟩:=id gJ;obtain⟨lg,ir,rfl,_⟩:=id gq;simp only[Value.agg.injEq,wJ,vm,iy]at g9;obtain⟨rx,qB,sw,M,gC⟩:=g9;rw[rx,qB,sw,M,gC]at oS;obtain⟨bp,hn,nG,_⟩:=id H.d;have hl:=H.lv K;rw[nG]at hl;have xX:=zq K i;have qz:Z.bB i+Z.H i<=Z.N:=by unfold b5.H;omega
 have hPd:p3 h U (.slice bp Z.bt.length hn) Z.k Z.src Z.len Z.N Z.bt:={ hl with d:=vU hl.d G.s }
 have M5:=hP.sub oS G.s;obtain⟨am,JH,nx,em⟩:∃a n bL,c 40 = .slice a n bL:=by rcases hm with⟨_,e,_⟩|⟨_,_,e,_⟩ <;> grind
 simp(disch:=omega)only[bd,ia,W.at_,H.aJ,H.ce,H.eC,H.gP,nG,rx,qB,sw,M,gC,seval];refine(alV hPd M5 qz).mono ?_;rintro _ B E ⟨w,o,rfl,hY,dE,e9⟩;refine⟨e9,?_⟩;obtain⟨hd,gI,oi,rfl⟩:∃a n bL,w = .slice a n bL:=by
  rcases hY with⟨_,e,_⟩|⟨_,bN⟩
  ·grind
  ·obtain⟨a,bL,e,_⟩:=bN
   grind
 have db:u B aK=some (.cells (dt c) false):=(dE aK ci).trans W.at_;refine vT @db @em ?_;rw[em]at hm;have ez:∀{d9 dI gL kz},az U h (F (F (F (F B E d9) (E+1) dI) E gL) (E+1) kz):=aC
 have Wt:∀{d9 dI gL kz},nw (F (F (F (F B E d9) (E+1) dI) E gL) (E+1) kz) (.slice am JH nx) (bn (Z.H i) λk=>f2 (Z.bB i+k)) so:=hm.T λb e=>ez b ab;have gA:=my (Z.H i) λk=>f2 (Z.bB i+k);have gh:=ahR K i;refine(apm (q:=λp=>!te Z.k S (Z.bB i+p.1)) J Wt ab λp bv ac Y hk dr=>?_).mono ?_
 ·have b0:∀d,d<E+2->U<=d->u ac d=u _ d:=λd D B=>hk d D λe=>ab
  have ED:p.1<Z.H i:=((kl  ).1 bv).1;have br:=b0 E J J;rw[aq J,aN]at br;have g2:=b0 (E+1) J J;rw[aN]at g2;exact aps  J (Bf.T hY ab J) br g2 J J ED
 rintro ew L bR ⟨dW,ek,hr⟩;have qH:((bn (Z.H i) λk=>f2 (Z.bB i+k)).filter λp=>!!te Z.k S (Z.bB i+p.1))=bn (Z.H i) λk=>if te Z.k S (Z.bB i+k)=true then f2 (Z.bB i+k)else none:=by simp only[Bool.not_not];exact aka (q:=λk=>te Z.k S (Z.bB i+k))
 rw[qH]at dW;have kj:u L aK=some (.cells (dt c) false):=ab
 simp(disch:=omega)only[bd,ia,kj,H.aJ,rx,qB,sw,M,gC,seval];obtain⟨h8,P⟩:∃h8,nZ (hK c 40 (.slice none 0 0)) 33 [.int .i64 (Z.bB i:Int),((Z.bB i+Z.H i:Nat):X),.slice fk (cF (Z.H i) λj=>S.A (Z.bB i+j)).length fv,.slice gH (cF (Z.H i) λj=>S.B (Z.bB i+j)).length fF,.slice lg (eU (Z.H i) λj=>S.q (Z.bB i+j)).length ir]=h8:=⟨_,rfl⟩
 have lf:∀n,n<33->h8 n=c n:=λn bm=>by rw[<-P,ue J,dN J]
 rw[P,lf 2 J,H.aJ];refine(QM  K.gF J).f4 ⟨cB _,?_⟩;simp(disch:=omega)only[bd,ia,lf 11 J,H.c11,seval];have hY':∀k y,(if te Z.k S (Z.bB i+k)=true then f2 (Z.bB i+k)else none)=some y->0<=y/\y<=eB:=λk y e=>ab
 refine(ao9 (R1 K.gF) J (((dW.T   (λb e=>ab) λ_ e=>e).c λb e=>ab).o) hY').mono ?_;rintro _ bP fI ⟨w,rfl,lm,hi,mE⟩;refine⟨mE,?_⟩;have hV0:=lm;obtain⟨Xl,rfl,hvi⟩:=lm;obtain⟨cP,ke,rfl,_⟩:=id hvi;have aCi:∀{o},u (F bP fI o) aK=some (.cells (dt h8) false):=λ{o}=>by rw[aq J,hi aK J,aN]
 have pR:bin Q .neq 30 (.int .i64 0) (.int .i64 0) = .ok (.bool false):=rfl;have jT:bin Q .eql 30 (.int .i64 0) (.int .i64 0) = .ok (.bool true):=rfl;simp(disch:=omega)only[bd,ia,aCi,lf,H.aJ,H.ce,H.eC,H.gP,nG,rx,qB,sw,M,gC,pR,jT,seval];have qF:∀{o aW} d,d<U->d≠aK->so≠some d->u (F (F bP fI o) fI aW) d=u h d:=λ{o aW} d D B L=>by rw[aq J,aq J,hi d J,aq B,aq B,ek d J L];exact ez d D
 have aAX:∀{o aW},lx g (F (F bP fI o) fI aW):=λ{o aW}=>G.Ug (λb e=>(pE b e).2.2.2) qF;refine(ajY    (p3.T  { hl with d:=vU hl.d aAX } (az.refl _ _) J) (hP.T  (hP.sub oS aAX) (az.refl _ _) J) ((hV0.T   (λb D B=>ab) J J).is) qz D J).mono ?_;rintro Xq dL n7 ⟨Fy,E2,tl⟩
 replace Fy:mb dL (fI+1) n7 Xq (Z.bB i:Int) ((Z.bB i+Z.H i:Nat):Int) (Z.H i) (cF (Z.H i) λk=>k1.A (Z.bB i+k)) (cF (Z.H i) λk=>k1.B (Z.bB i+k)) (λk=>k1.q (Z.bB i+k)):=by subst Ws;exact Fy
 have hU0:=Fy;obtain⟨aC7,aC8,aC9,rfl,aCj,aCk,aCl⟩:=Fy;obtain⟨W5,aY,rfl,_⟩:=id aCj;obtain⟨Ab,aJ,rfl,_⟩:=id aCk;obtain⟨yq,ce,rfl,_⟩:=id aCl;have aCm:u dL aK=some (.cells (dt h8) false):=(E2 aK J).trans ab;have aCn:∀d,d<U->d≠aK->so≠some d->u dL d=u h d:=λd D B L=>(E2 d J).trans (qF d D B L);refine HF @aCm ?_;obtain⟨jm,I⟩:∃jm,nZ h8 33 [.int .i64 (Z.bB i:Int),((Z.bB i+Z.H i:Nat):X),.slice W5 (cF (Z.H i) λk=>k1.A (Z.bB i+k)).length aY,.slice Ab (cF (Z.H i) λk=>k1.B (Z.bB i+k)).length aJ,.slice yq (eU (Z.H i) λk=>k1.q (Z.bB i+k)).length ce]=jm:=⟨_,rfl⟩
 rw[I];have wE:∀n,(n<33\/38<=n)->n≠40->jm n=c n:=λn bm ap=>by rw[<-I,ue bm,<-P,ue bm,dN ap]
 have Ol:∀{o} d,d<U->d≠aK->so≠some d->u (F dL aK o) d=u h d:=λ{o} d D B L=>(aq B).trans (aCn d D B L);have aCo:∀{o},lx g (F dL aK o):=λ{o}=>G.Ug (λb e=>(pE b e).2.2.2) Ol;refine⟨J,(Y9 (S:=k1) (low:=Z.bB i) (m:=Z.H i) (W.set (Y:=n7) (aN _ _ _) (wE 0 J J) (wE 1 J J) (wE 8 J J) (wE 22 J J) (λb e=>by have:=W.aP b e;grind) J) bg (p3.T (Y:=n7) (ew:=jm 6) { hl with d:=?_ } (az.refl _ _) J) ((wE 2 J J).trans H.aJ) ((wE 3 J J).trans H.ce) ((wE 4 J J).trans H.eC) ((wE 5 J J).trans H.gP) ?_ qz).mono ?_⟩
 ·rw[wE 6 J J,nG];exact cN.T (vU hl.d aCo) (az.refl _ _) J
 ·rw[<-I];exact(hU0.wid (ed:=0) (da:=n7) (λd D B=>aq J) J (cB _)).rd
 rintro _ h7 n8 ⟨rfl,dG,ck,Xv,hQ,zR,ahS⟩;refine⟨_,ck,λn D B L bc=>?_,?_,?_,?_,Xv,J,λd D B L bc=>(zR d J B L).trans (Ol d D B bc),J⟩
 ·rw[dN D,dN B];grind
 ·rfl
 ·rw[dN J,dN J,<-I,ue (by simp),<-P,ue (by simp)];rfl
 ·rw[dN J,dN J,dN J,dN J,dN J,dN J,dN J,dN J,dN J,dN J,<-I];exact hU0.wid (λd D B=>by rw[zR d B J (λe=>by have:=W.aP d e;omega),aq J]) J hQ
end
theorem Lu{n:Nat}(v:Nat):kb r (bn n f2) v=if v<n then f2 v else none:=by
 have h:=λx=>Su (r:=r)  (zg n f2) v x;cases B:kb r (bn n f2) v with
 |none =>
  split
  ·cases D:f2 v with
   |none=>rfl
   |some y =>
    have:=(h y).2 (kl.2 ab)
    grind
  ·rfl
 |some x =>
  have:=kl.1 ((h x).1 B)
  grind
theorem asO{n:Nat}{D:aa (Nat × Int)}(M:zL r D [] λv=>kb r (bn n f2++bn n y) v):D=bn n λv=>e3 r (f2 v) (y v):=by rw[M.done (n:=n) λv B=>by rw[y8,Lu,Lu,if_neg J,if_neg J];rfl];refine y7 λv B=>?_;rw[y8,Lu,Lu,if_pos B,if_pos B]
theorem i4.Om{l:aa aA}{h:ad}{ao:Nat}(B:0<k)(I:∀x,(enc x).length=k)(H:i4 h ao ai v enc k l):mS h ai v enc k l:=by
 rcases H with⟨rfl,rfl|⟨b,rfl⟩⟩|⟨b,K,E,rfl,D⟩
 ·exact⟨_,_,rfl,λh=>absurd rfl h⟩
 ·exact⟨_,_,rfl,λh=>absurd rfl h⟩
 ·exact dX.c B I (.inr ⟨b,K,E,rfl,D⟩)
theorem dX.aCp{h:ad}{ao:Nat}{L:aa (Nat × Int)}(H:dX h v eA 3 L ao ai):∃so,nw h v L so/\∀b,so=some b->ao<=b/\b<ai:=by
 rcases H with⟨rfl,rfl⟩|⟨b,D,E,rfl,B⟩
 ·exact⟨none,.inl ab,ab⟩
 ·exact⟨some b,.inr ⟨b,rfl,rfl,B⟩,ab⟩
theorem n5:wZ Q 3=true:=by kernel_rfl
theorem ayJ:bin Q .neq 86 (.int .i64 0) (.int .i64 0) = .ok (.bool false):=by kernel_rfl
def GaK(Z:b5)(c:Nat->X)(aK i t bZ iJ:Nat)(S:jL)(f2 y:Nat->av Int)(dV:Nat->ak)(l:aa eE)(aP:av Nat)(h:ad)(U:Nat):bD:=λoj ac Y=>oj = .bool true/\∃bL hj sz ds,i1 ac bZ Z.C (λk=>if k=iJ then true else dV k) (λ_ v=>v = .bool true)/\U<=Y/\(∀d,d<U->d≠aK->d≠bZ->aP≠some d->u ac d=u h d) /\
   e0 ac Y aK bL i 0 Z.C (l++ds) hj/\(∀b,sz=some b->U<=b/\b<Y/\hj≠some b) /\
   ((∃k,k<Z.C/\(if k=iJ then true else dV k)=false)/\(∀n,n≠40->bL n=c n)/\ds=[]/\hj=aP/\nw ac (bL 40) (bn (Z.H i) λk=>e3 (fh Z.k t) (f2 (Z.bB i+k)) (y (Z.bB i+k))) sz \/
   (∀k,k<Z.C->(if k=iJ then true else dV k)=true)/\(∀n,n≠22->n≠38->n≠40->(n<33\/38<=n)->bL n=c n)/\bL 38 = .bool true/\bL 40 = .slice none 0 0/\sz=none/\∃ck k1,hj=some ck/\k1=uz Z.k (iW Z.bt Z.N ((t-1) / 2)) t (fh Z.k t) S (λv=>e3 (fh Z.k t) (f2 v) (y v))/\U<=ck /\
    mb ac U ck (.agg ⟨[bL 33,bL 34,bL 35,bL 36,bL 37]⟩) (Z.bB i:Int) ((Z.bB i+Z.H i:Nat):Int) (Z.H i) (cF (Z.H i) λk=>k1.A (Z.bB i+k)) (cF (Z.H i) λk=>k1.B (Z.bB i+k)) (λk=>k1.q (Z.bB i+k)) /\
    ds=[DK ((i*Z.C+0:Nat):Int) t (q9 Z.k Z.len t (Z.H i) (cF (Z.H i) λk=>k1.A (Z.bB i+k)) (λk=>k1.q (Z.bB i+k)):Int) false])
section
variable {s:ak} {g cb h ac:ad} {U Y aK i j ao:Nat} {c bL:Nat->X} {l:aa eE} {aP so:av Nat} {Z:b5}
theorem ai6{f:eE}{p:k0}{t bZ:Nat}{S:jL}(K:gj Z)(W:e0 h U aK c i 0 Z.C l aP)(G:sy g h U aK)(H:kv g U c Z i 0)(bg:l.length<900)(ai:i<Z.R)(E:1<=t)(cy:t<900)(bx:lX h ao U f p)(mZ:p.round=(t:Int))(gO:p.oh=bn (Z.H i) λk=>y (Z.bB i+k))(rC:∀v x,f2 v=some x->0<=x/\x<=eB)(ca:∀v x,y v=some x->0<=x/\x<=eB)(cX:∀v x,e3 (fh Z.k t) (f2 v) (y v)=some x->0<=x/\x<=eB)(ar:jK g U (.agg ⟨[c 28,c 29,c 30,c 31,c 32]⟩) (Z.bB i) (Z.H i) S)(hm:nw h (c 40) (bn (Z.H i) λk=>f2 (Z.bB i+k)) so)(pE:∀b,so=some b->b<U/\b≠aK/\aP≠some b)(Fa:c 26 = ((t-1:Nat):X))(NP:c 27 = .int .i64 0)(NQ:c 38 = .bool false)(mT:c 41 = .map (some bZ))(jn:i1 h bZ Z.C dV λ_ v=>v = .bool true)(L:bZ<U/\bZ≠aK/\aP≠some bZ/\u g bZ=none)(bM:iJ<Z.C)(ha:dV iJ=false):
  aD Q s 135 [bb aK,.agg ⟨ef f⟩,.agg ⟨[(i:X),(iJ:X)]⟩] h U (GaK Z c aK i t bZ iJ S f2 y dV l aP h U):=by
 refine aj2 ?_;have ci:=W.lt;obtain⟨D,rfl⟩:∃D,t=D+1:=⟨t-1,J⟩
 have bF:∀{o aW},az U h (F (F h U o) (U+1) aW):=aC
 have rv:∀{o aW},u (F (F h U o) (U+1) aW) aK=some (.cells (dt c) false):=λ{o aW}=>(bF aK ci).trans W.at_;have Xu:IntKind.wrap .i64 ((D:Int)+1)=((D+1:Nat):Int):=cn J;have Uf:c 26 = (D:X):=Fa;have pR:(((0:Nat):Int) == 0)=true:=rfl;have hp:∀{y:Int},((y == y):ak)=true:=ab
 have gh:=ahR K i;have Wu:f.round=((D+1:Nat):Int):=bx.is.round.trans mZ;have Wj:∀{o aW},i1 (F (F h U o) (U+1) aW) bZ Z.C dV λ_ v=>v = .bool true:=λ{o aW}=>jn.T ab ab;have Cb:∀{o aW},lL Q (F (F h U o) (U+1) aW) 3 (.bool false) false (.map (some bZ)) (iJ:X) = .ok (.bool false):=λ{o aW}=>by obtain⟨v,e,_⟩:=(Wj  ).get n5 bM;rw[ha]at e;exact e
 unfold aag ef;simp(disch:=omega)only[bd,ia,rv,W.mm,W.c1,pR,hp,NP,ayJ,NQ,Wu,Uf,Xu,mT,Cb,seval];have dL:=bx.jm;rw[gO]at dL;have gA:=my (Z.H i) λk=>y (Z.bB i+k);have azR:=my (Z.H i) λk=>f2 (Z.bB i+k);refine(aj8  rv J H.c11 ((mS.o (i4.Om (k:=3) J (λ_=>rfl) dL)).T  bF J) J (zg _ _) λq cz=>((kl  ).1 cz).1).b0 λI bH dE e9=>⟨e9,?_⟩
 have db:=(dE aK J).trans rv;have iH:=(dE U J).trans ((aq J).trans (aN _ _ _));have c4:=(dE (U+1) J).trans (aN _ _ _);unfold yR;refine Bg @db @iH @c4 H.aJ ?_;refine(QM  K.gF J).f4 ⟨J,?_⟩;obtain⟨am,JH,nx,em⟩:∃a n bL,c 40 = .slice a n bL:=by rcases hm with⟨_,e,_⟩|⟨_,_,e,_⟩ <;> grind
 refine Bg @db @iH @c4 @em ?_;rw[em]at hm;have Wv:∀{o},az U h (F I bH o):=aC
 have hLs:BB (F I bH (.cells [.slice am JH nx,.slice f.aZ f.n7 f.jm] false)) (bH+1) (.slice (some ⟨bH,0,none⟩) 2 2) [(.slice am JH nx,bn (Z.H i) λk=>f2 (Z.bB i+k)),(.slice f.aZ f.n7 f.jm,bn (Z.H i) λk=>y (Z.bB i+k))]:=by
  refine⟨cN.o  ab ⟨_,_,rfl,λ_=>⟨bH,none,false,J,rfl,aN _ _ _⟩⟩,λq cz=>?_⟩;rcases hf.1 cz with rfl|cz
  ·exact⟨mS.T (hm.b.c ab) Wv J,zg _ _,ab,λa dg=>rC _ _ ((kl  ).1 dg).2⟩
  ·rw[iR.1 cz];exact⟨mS.T (i4.Om  J (λ_=>rfl) dL) Wv J,zg _ _,ab,λa dg=>ca _ _ ((kl  ).1 dg).2⟩
 have aCq:rZ [(Value.slice am JH nx,bn (Z.H i) λk=>f2 (Z.bB i+k)),(Value.slice f.aZ f.n7 f.jm,bn (Z.H i) λk=>y (Z.bB i+k))]=(bn (Z.H i) λk=>f2 (Z.bB i+k))++bn (Z.H i) λk=>y (Z.bB i+k):=by
  show _++(_++[])=_
  grind
 refine(aad (R1 K.gF) (by simp) hLs ab).mono ?_;rintro _ B bR ⟨w,fK,rfl,bN,zY,M,hr⟩;refine⟨J,?_⟩;rw[aCq]at zY;rw[asO zY]at bN;obtain⟨sz,j1,Uh⟩:=dX.aCp bN;obtain⟨hd,gI,oi,rfl⟩:∃a n bL,w = .slice a n bL:=by rcases j1 with⟨_,e,_⟩|⟨_,_,e,_⟩ <;> grind
 have fg:az U h B:=Wv.trans M J;have kj:=(M aK J).trans ((aq J).trans db);have fu:=(M U J).trans ((aq J).trans iH);have dJ:=(M (U+1) J).trans ((aq J).trans c4);have r0':∀{o},u (F B aK o) U=_:=λ{o}=>(aq J).trans fu;have r1':∀{o},u (F B aK o) (U+1)=_:=λ{o}=>(aq J).trans dJ;obtain⟨o,gY,fj⟩:=(jn.T (ac:=F B aK (.cells (dt (hK c 40 (.slice hd gI oi))) false)) ((aq L.2.1).trans (fg bZ L.1)) λ_ _ h=>h).put  n5 bM ha rfl;have P:=fj (F (F B aK (.cells (dt (hK c 40 (.slice hd gI oi))) false)) bZ o) (aN _ _ _);obtain⟨m,aY,aJ,ce⟩:=P.len;have mj:u (F (F B aK (.cells (dt (hK c 40 (.slice hd gI oi))) false)) bZ o) aK=some (.cells (dt (hK c 40 (.slice hd gI oi))) false):=(aq (λe=>L.2.1 e.symm)).trans (aN _ _ _);have nI:u (F (F B aK (.cells (dt (hK c 40 (.slice hd gI oi))) false)) bZ o) U=_:=(aq J).trans r0';rw[show ik iJ = (iJ:X)from rfl]at gY;simp(disch:=omega)only[bd,ia,kj,r1',mT,gY,mj,aY,W.hE,nI,seval];generalize NR:F (F B aK _) bZ o=iI at P mj nI ⊢;have qF:∀d,d<U->d≠aK->d≠bZ->u iI d=u h d:=λd E I B=>by rw[<-NR,aq B,aq I];exact fg d E
 have aAY:e0 iI bR aK (hK c 40 (.slice hd gI oi)) i 0 Z.C l aP:=W.set mj (dN J) (dN J) (dN J) (dN J) (λb e=>by have:=W.aP b e;grind) J;have hO5:nw iI (.slice hd gI oi) (bn (Z.H i) λk=>e3 (fh Z.k (D+1)) (f2 (Z.bB i+k)) (y (Z.bB i+k))) sz:=j1.T λb e=>ab
 refine⟨λe=>?_,λe=>?_⟩
 ·have ps:∀k,k<Z.C->(if k=iJ then true else dV k)=true:=λk hk=>ab
  refine(ai5  (f2:=λv=>e3 (fh Z.k (D+1)) (f2 v) (y v))  K aAY ⟨λd o bu=>?_,G.p,λd bu=>G.n d J⟩ ((H.set λn E I=>dN J).T  (az.refl _ _) J) bg ai E cy (hP.T ar (az.refl _ _) J) hO5 (λb e=>?_) cX).mono ?_
  ·have E:d<U:=FI λE=>by rw[G.n d E]at bu;grind
   rw[qF d E (λe=>by rw[e,G.p]at bu;grind) λe=>by grind];exact G.s d o bu
  ·have:=Uh b e;exact⟨this.2,J,λep=>by have:=W.aP b ep;omega,G.n b J⟩
  rintro _ b9 n6 ⟨rfl,bL,ck,MQ,h38,z0,dW,jF,hQ,k6,dr⟩;refine⟨rfl,bL,some ck,none,_,P.T (k6 bZ J L.2.1 L.2.2.1 λe=>ab) λ_ _ h=>h,J,λd E I B bc=>(k6 d J I bc λe=>ab).trans (qF d E I B),jF,(nofun),.inr ⟨ps,λn E I B bc=>(MQ n E I B bc).trans (dN B),h38,z0,rfl,ck,_,rfl,rfl,J,dW.wid (λ_ _ _=>rfl) J (cB _),rfl⟩⟩
 ·have eg:=sR.1 e;refine⟨rfl,_,aP,sz,[],P,J,λd E I B _=>qF d E I B,by rw[hM];exact aAY,λb e=>?_,.inl ⟨ce.1 J,λn bm=>dN bm,rfl,rfl,hO5⟩⟩;have:=Uh b e;exact⟨J,this.2,λep=>by have:=W.aP b ep;omega⟩
end
theorem awO:rV Q 171=true:=by kernel_rfl
def R3(Z:b5)(j t:Nat)(x:Nat->av Int)(i:Nat):k0:=⟨2,(j:Int),((i*Z.C+j:Nat):Int),(t:Int),(Z.W j:Int),bn (Z.W j) (λk=>x (Z.lc j+k)),[],0,false⟩
def tF(h:ad)(ao ai:Nat)(Z:b5)(j:Nat)(x:Nat->av Int)(i:Nat)(v:X):Prop:=lJ h ao ai v (Z.cl (i+1) j-Z.cl i j) (λk=>x (Z.cl i j+k))
def ShK(Z:b5)(g:ad)(c:Nat->X)(aK j t bz dP:Nat)(x:Nat->av Int)(e7:Nat->ak)(l:aa eE)(aP:av Nat)(h:ad)(U:Nat):bD:=λoj ac Y=>oj = .bool true/\∃bL hj ds B,U<=B/\B<=Y/\(∀d,d<U->d≠aK->d≠bz->aP≠some d->u ac d=u h d) /\
 e0 ac Y aK bL 0 j Z.C (l++ds) hj /\
 ((∃k,k<Z.R/\(if k=dP then true else e7 k)=false)/\(∀n,bL n=c n)/\ds=[]/\hj=aP/\i1 ac bz Z.R (λk=>if k=dP then true else e7 k) (λi v=>tF g 0 U Z j x i v\/tF ac U Y Z j x i v) \/
 (∀k,k<Z.R->(if k=dP then true else e7 k)=true)/\(∀n,n≠22->n≠23->bL n=c n)/\bL 23 = ((t+1:Nat):X)/\k5 ac U B ds ((List.range Z.R).map (R3 Z j t x))/\(∃cL,u ac bz=some (.map [] cL))/\∃ck,hj=some ck/\B<=ck)
def zr(p:Nat × X):aa X:=[(p.1:X),qA p.2]
theorem auR(p:Nat × X):ec (zr p)=true:=by obtain⟨a,v⟩:=p;cases v <;> rfl
theorem aea:∀{L:aa (Nat × X)},(∀p∈L,qA p.2=p.2)->a1 zr L=a1 zm L
 | [],_=>rfl
 |p::L,h=>by
  show zr p++a1 zr L=zm p++a1 zm L;rw[aea ab];unfold zr zm
  grind
theorem dX.eG{h:ad}{L:aa (Nat × X)}{ao:Nat}(H:dX h v zr 2 L ao ai)(B:∀p∈L,qA p.2=p.2):dX h v zm 2 L ao ai:=by
 unfold dX at *
 rw[<-aea B];exact H
def ayK(Z:b5)(aK j bR:Nat)(x:Nat->av Int)(iQ:ad)(m:Nat)(aE:aa X)(ac:ad)(Y:Nat):Prop :=
 ∃k acc L,m=Z.R-k/\k<=Z.R/\aE=[bb aK,acc,(Z.R:X),(k:X)]/\dX ac acc zr 2 L bR Y/\L.length=k /\
  (∀i p,L[i]? = some p->qA p.2=p.2/\p.1=Z.cl (i+1) j-Z.cl i j/\eu iQ bR p.2 fV 2 (bn p.1 λk=>x (Z.cl i j+k)))/\az bR iQ ac/\bR<=Y
def ayL(Z:b5)(aK j a6 U t:Nat)(x:Nat->av Int)(c:Nat->X)(l:aa eE)(aP:av Nat)(h iq:ad)(m:Nat)(aE:aa X)(ac:ad)(Y:Nat):Prop :=
 ∃k bL hj ds B,m=Z.R-k/\k<=Z.R/\aE=[bb aK,bb a6,(Z.R:X),(k:X)]/\(∀n,n≠22->bL n=c n)/\e0 ac Y aK bL 0 j Z.C (l++ds) hj /\
  k5 ac U B ds ((List.range k).map (R3 Z j t x))/\a6+1<=B/\B<=Y/\(∀b,hj=some b->aP=some b\/B<=b)/\(0<k->∃b,hj=some b/\B<=b)/\(∀d,U<=d->d<=a6->u ac d=u iq d)/\(∀d,d<U->d≠aK->aP≠some d->u ac d=u h d)
section
variable {s:ak} {g cb h ac:ad} {U Y aK i j ao:Nat} {c bL:Nat->X} {l:aa eE} {aP so:av Nat} {Z:b5}
theorem D2(K:gj Z)(i j:Nat):Z.cl i j<=Z.cl (i+1) j/\Z.cl i j<=60:=by have D:=zq K i;have E:=D1 K j;have B:=K.n60;unfold b5.cl jZ;omega
theorem akb{f:eE}{p:k0}{t bz dP:Nat}{x:Nat->av Int}{e7:Nat->ak}(K:gj Z)(W:e0 h U aK c 0 j Z.C l aP)(G:sy g h U aK)(H:kv h U c Z 0 j)(bg:l.length+Z.R<900)(cy:t<900)
  (bx:nl h U f p) (mZ:p.round=(t:Int)) (ej:p.mr=((Z.cl (dP+1) j-Z.cl dP j:Nat):Int)) (g1:p.mq=bn (Z.cl (dP+1) j-Z.cl dP j) λk=>x (Z.cl dP j+k))
  (e23:c 23 = (t:X)) (pH:c 24 = .map (some bz)) (jn:i1 h bz Z.R e7 (tF g 0 U Z j x)) (M:bz<U/\bz≠aK/\aP≠some bz/\u g bz=none) (bM:dP<Z.R) (ha:e7 dP=false):
  aD Q s 133 [bb aK,.agg ⟨ef f⟩,.agg ⟨[(dP:X),.int .i64 0]⟩] h U (ShK Z g c aK j t bz dP x e7 l aP h U):=by
 refine alW ?_;have ci:=W.lt;have bF:∀{o aW},az U h (F (F h U o) (U+1) aW):=aC
 have rv:∀{o aW},u (F (F h U o) (U+1) aW) aK=some (.cells (dt c) false):=λ{o aW}=>(bF aK ci).trans W.at_;have je:=D2 K dP j;have aAp:=D2 K (dP+1) j;have mM:∀b,aP=some b->b<U:=λb e=>(W.aP b e).2;have aCr:∀{o aW},e0 (F (F h U o) (U+1) aW) (U+2) aK c 0 j Z.C l aP:=λ{o aW}=>W.T ab J;have hp:∀{y:Int},((y == y):ak)=true:=ab
 have pR:(((0:Nat):Int) == 0)=true:=rfl;have Wu:f.round=(t:Int):=bx.round.trans mZ;unfold ab2 ef;refine aB ?_;refine(al3 aCr (H.T  bF J) K bM).f4 ⟨J,?_⟩;refine aB ?_;refine(Zb  (bx.T  bF J) g1 ej J).mono ?_;rintro _ D E ⟨v,rfl,lm,eT,fp⟩;refine⟨fp,?_⟩;have cD:=bF.trans eT J;have iH:=(eT U J).trans ((aq J).trans (aN _ _ _));have c4:=(eT (U+1) J).trans (aN _ _ _);have Oi:=(eT aK J).trans rv;obtain⟨gW,rfl,ye⟩:=lm;obtain⟨cP,ke,rfl⟩:=ye.form;have hM1:∀{H},u H bz=u D bz->i1 H bz Z.R e7 (tF g 0 U Z j x):=λ{H} e=>jn.T (e.trans (cD bz M.1)) λ_ _ h=>h;have Cb:∀{o aW},lL Q (F (F D E o) E aW) 3 (.agg #[.int .i64 0,.slice none 0 0]) true (.map (some bz)) (dP:X) = .ok (.tuple #[.agg #[.int .i64 0,.slice none 0 0],.bool false]):=λ{o aW}=>by obtain⟨v,e,_⟩:=(hM1 (H:=F (F D E o) E aW) ab).get n5 bM  (ok:=true);rw[ha]at e;exact e
 simp(disch:=omega)only[bd,ia,Oi,iH,c4,pH,Cb,W.mm,hp,pR,Wu,e23,seval];unfold CY;generalize nv:F (F (F (F D E _) E _) (E+1) _) (E+1) _=h9;have dI:∀d,d<E->u h9 d=u D d:=λd bu=>ab
 have Ai:=(dI aK J).trans Oi;have br:=(dI (U+1) J).trans c4;have Xt:u h9 E=some (.cells [((Z.cl (dP+1) j-Z.cl dP j:Nat):X),.slice cP (bn (Z.cl (dP+1) j-Z.cl dP j) λk=>x (Z.cl dP j+k)).length ke] false):=ab
 clear nv;have hl:tF D U E Z j x dP (.agg ⟨[((Z.cl (dP+1) j-Z.cl dP j:Nat):X),.slice cP (bn (Z.cl (dP+1) j-Z.cl dP j) λk=>x (Z.cl dP j+k)).length ke]⟩):=⟨_,rfl,ye.gI.T (λ_ _ _=>rfl) J (cB _)⟩
 obtain⟨o,gY,fj⟩:=((hM1 (dI bz J)).T (W8:=λi v=>tF g 0 U Z j x i v\/tF D U E Z j x i v) rfl λ_ _ h=>.inl h).put n5 bM ha (.inr hl);have I5:=fj (F h9 bz o) (aN _ _ _);obtain⟨m,aY,aJ,ce⟩:=I5.len;rw[show ik dP = (dP:X)from rfl]at gY;have Ww:u (F h9 bz o) aK=some (.cells (dt c) false):=(aq (kE M.2.1)).trans Ai;simp(disch:=omega)only[bd,ia,Ai,br,Xt,pH,gY,Ww,aY,H.gO,seval];have l2:∀d,d<U->d≠bz->u (F h9 bz o) d=u h d:=λd D I=>by rw[aq I,dI d J];exact cD d D
 have rD:e0 (F h9 bz o) (E+2) aK c 0 j Z.C l aP:=W.T (λd bu=>l2 d (bu.elim (λe=>e ▸ ci) (mM d)) (bu.elim (λe=>e ▸ kE M.2.1) λe ep=>M.2.2.1 ab)) J;refine⟨λEj=>⟨rfl,c,aP,[],E+2,J,cB _,λd D I aM _=>l2 d D aM,by rw[hM];exact rD,.inl ⟨ce.1 Ej,λ_=>rfl,rfl,rfl,I5.T rfl λi v P=>P.imp id λP=>P.T (λb D I=>ab) (cB _) J⟩⟩,λeh=>?_⟩;have ps:∀k,k<Z.R->(if k=dP then true else e7 k)=true:=λk hk=>ab
 have kY:lx g (F h9 bz o):=G.Ug (so:=some bz) (λb e=>ab) λd D I aM=>l2 d D λe=>aM (by rw[e]);have Wx:∀k v,tF g 0 U Z j x k v\/tF D U E Z j x k v->kn (F h9 bz o) (E+2) v (Z.cl (k+1) j-Z.cl k j) λq=>x (Z.cl k j+q):=λk v P=>by
  rcases P with P|P
  ·obtain⟨gW,e,P⟩:=lJ.is P;exact⟨gW,e,(P.sub kY).T (az.refl _ _) J⟩
  ·exact kn.T (lJ.is (P.T (ac:=F h9 bz o) (ed:=0) (da:=E) (λb D I=>ab) J (cB _))) (az.refl _ _) J
 have Ui:E+1+1=E+2:=rfl;rw[Ui];generalize F h9 bz o=iQ at I5 Ww l2 rD Wx kY ⊢;generalize uP:E+2=bR at rD Wx ⊢;refine bq.mk (ayK Z aK j bR x iQ) Z.R ⟨0,_,[],J,J,rfl,.inl ⟨rfl,rfl⟩,rfl,(λ_ _ h=>by simp at h),az.refl _ _,cB _⟩ ?_;rintro _ _ I bH ⟨k,acc,L,rfl,hk,rfl,dW,hLl,eJ,dE,e9⟩;rw[ajZ];unfold Y4;have db:=(dE aK J).trans Ww;obtain⟨bX,CF,qE,rfl⟩:=dW.form;refine aB ?_;refine⟨λHX=>?_,λaAq=>?_⟩
 ·obtain⟨v,b0,P⟩:=(I5.T (ac:=I) (dE bz J) λ_ _ h=>h).get n5 HX (z:=.agg #[.int .i64 0,.slice none 0 0]) (ok:=false);obtain⟨vi',rfl,ahT⟩:=Wx k v (P (ps k HX));rw[ps k HX,show ik k = (k:X)from rfl]at b0;have ek':lL Q I 3 (.agg #[.int .i64 0,.slice none 0 0]) false (.map (some bz)) (k:X) = .ok (.agg ⟨[((Z.cl (k+1) j-Z.cl k j:Nat):X),vi']⟩):=b0;obtain⟨hS,me,rfl,_⟩:=id ahT;refine Bg @db @pH @ek' (cn (J:k<1000000000000)) ?_;refine l7 (enc:=zr) (k:=2) (ao:=bR) (λ_=>rfl) auR J (dW.T (da:=bH+1) (λd D I=>aq J) J) J (Z.cl (k+1) j-Z.cl k j,.slice hS (bn (Z.cl (k+1) j-Z.cl k j) λq=>x (Z.cl k j+q)).length me) (aN _ _ _) rfl J λdG bP sl hi=>?_;refine⟨_,J,k+1,_,_,rfl,J,rfl,sl,ab,λi p bv=>?_,λd bu=>by rw[hi d bu,aq J];exact dE d bu,J⟩
  by_cases hik:i<L.length
  ·rw[sP hik]at bv;exact eJ i p bv
  ·rw[vf J]at bv;obtain⟨e,rfl⟩:i-L.length=0/\_=p:=by
    cases cz:i-L.length with
    |zero=>rw[cz]at bv;exact⟨rfl,Option.some.inj bv⟩
    |succ q=>grind
   obtain rfl:i=k:=J
   exact⟨rfl,rfl,ahT⟩
 have B9:k=Z.R:=J
 subst B9;have lA:∀k,k<=Z.R->Z.cl k j<=60:=λk _=>(D2 K k j).2;have hPc:A7 I bH (.slice bX CF qE) (λi=>Z.cl i j) Z.R x:=⟨⟨L,hLl,(dX.c (k:=2) J (λ_=>rfl) (dX.eG dW λp bv=>by obtain⟨i,ai⟩:=FB.1 bv;grind)).o,λi p bv=>⟨(eJ i p bv).2.1,(eJ i p bv).2.2.T dE e9⟩⟩,λi=>(D2 K i j).1,hu (D2 K Z.R j).2 J⟩
 refine L9 @db H.ce H.gO W.hE W.c1 ?_;refine(asw (x:=x) (j:=j) (hu K.n60 J) K.mu K.ot K.h0 K.m7 W.wD hPc).mono ?_;rintro _ bc d4 ⟨w,rfl,⟨Xl,rfl,zW⟩,gd,iC⟩;refine⟨iC,?_⟩;obtain⟨hd,oi,rfl⟩:=zW.form;have mj:=(gd aK J).trans db;refine vT @mj H.gO ?_;generalize NR:F (F bc d4 _) d4 _=iI;have gx:u iI d4=some (.cells [.int .i64 (Z.W j:Int),.slice hd (bn (Z.W j) λk=>x (Z.lc j+k)).length oi] false):=by rw[<-NR,aN];rfl
 have wB:∀d,d≠d4->u iI d=u bc d:=λd bu=>ab
 clear NR;have kk5:∀d,d<bR->u iI d=u iQ d:=λd D=>by rw[wB d J,gd d J,dE d J]
 refine bq.mk (ayL Z aK j d4 U t x c l aP iI iI) Z.R ⟨0,c,aP,[],d4+1,J,J,rfl,λ_ _=>rfl,by rw[hM];exact rD.T (λd bu=>kk5 d (bu.elim (λe=>J) λe=>ab)) J,trivial,cB _,cB _,λb e=>.inl e,λh=>absurd h J,λd _ _=>rfl,λd bu _ _=>rfl⟩ ?_;rintro _ _ b9 n6 ⟨k,hD,Wy,ds,B,rfl,hk,rfl,B8,ou,he,wm,sx,ayM,Uj,hz,x3⟩;rw[aj0];unfold Y5;have eL:(ds.length:Nat)=k:=by rw[he.len,g5,vk]
 have lF:=(hz d4 J (cB _)).trans gx;have j23:=(B8 23 J).trans e23;have j24:=(B8 24 J).trans pH;refine aB ?_;refine⟨λT8=>?_,λayN=>?_⟩
 ·refine vT ou.at_ ou.c1 ?_;refine(Gh ou.at_ ou.h0 ou.m7 (by have:=K.ot;omega) ou.wD ou.hE).f4 ⟨cB _,?_⟩;refine zp ou.at_ @j23 @lF ?_;refine(GF ou ab ⟨2,0,((k*Z.C+j:Nat):Int),0,(t:Int),(Z.W j:Int),hd,(bn (Z.W j) λk=>x (Z.lc j+k)).length,oi,none,0,0,none,0,0,0,false⟩).mono ?_;rintro _ dL n7 ⟨rfl,dG,ck,JF,hQ,wq,tl⟩;refine⟨tl,?_⟩;refine a9 (cn (J:k<1000000000000)) ?_;have wk:∀d,U<=d->d<B->Wy≠some d:=λd D I e=>ab
  refine⟨_,J,k+1,_,some ck,ds++[_],B,rfl,J,rfl,λn bm=>?_,by rw[<-kB];exact JF,?_,J,J,λb e=>.inr ab,λ_=>⟨ck,rfl,J⟩,λd D I=>?_,λd D I aM=>?_⟩
  ·rw[dN bm];grind
  ·rw[pb,hN];refine(he.T (λb D I=>wq b J J (wk b D I)) (cB _) J).app ⟨⟨rfl,?_,rfl,rfl,rfl,?_,xo,rfl,rfl,rfl⟩,trivial⟩
   ·show((0*Z.C+j:Nat):Int)=(j:Int)
    omega
   ·exact eZ.T zW.gI (λb D I=>ab) J J
  all_goals grind
 ·have B9:k=Z.R:=J
  subst B9;obtain⟨ck,rfl,hQ⟩:=Uj J;obtain⟨Xw,cL,wv,_,_⟩:=I5.ex;have oT:u b9 bz=some (.map (lN ik Xw) cL):=by rw[x3 bz M.1 M.2.1 M.2.2.1,kk5 bz J];exact wv.at_
  have Wz:∀{o},u (F b9 bz o) aK=some (.cells (dt hD) false):=λ{o}=>by rw[aq (kE M.2.1)];exact ou.at_
  simp(disch:=omega)only[bd,ia,ou.at_,j24,Ud awO oT,dS,Wz,j23,cn (J:t<1000000000000),seval];refine⟨rfl,_,some ck,ds,B,J,sx,λd D I aM bc=>?_,ou.set (aN _ _ _) (dN J) (dN J) (dN J) (dN J) (λb e=>ab) (cB _),.inr ⟨ps,λn D I=>by rw[dN I];grind,zo,he.T (λb D I=>by rw[aq J,aq J]) (cB _) (cB _),⟨cL,ab⟩,ck,rfl,hQ⟩⟩
  grind
end
def S2:aa (aa Nat):=[[0,3,4,11]]
def aeb(s:ak)(a0 a3 aV dO:X)(h:ad)(U:Nat)(N:aH)(aF:aH)(R:aH):Prop:=wb s h U dO λa b c=>ag (dz a 0) λd=>bJ d (ag (w5 b dO) λe=>ag (dz e 1) λf=>cJ [(ae 0),(ae 0),(ae 0),(ae 0),(ae 0),(ae 0),aS,aS,aS,(ae 0),(.bool false)] b c λg i j=>ag (a7 i 11 g f) λk=>bJ a3 (bJ aV (N [a0,(.bool true),(.bool true),dO] k j) (ay k 9 g λm=>cf .neq 2 m (ae 0) λn=>N [a0,(.bool true),n,dO] k j)) (ay k 10 g λp=>bJ aV (N [a0,p,(.bool true),dO] k j) (ay k 9 g λr=>cf .neq 2 r (ae 0) λt=>N [a0,p,t,dO] k j))) (aF [a0,a3,aV,dO] b c)
def agT:fw:=λs au h U K=>ag (cr au) λa=>ay h 43 a λc=>dB (s2 h U c) λd e f=>bq (bA Q s S2 231 0) [au,(.bool false),(.bool false),d] e f [(0,λg i j=>bJ (aQ g 1) (K (ae 3) i j) (ag (d2 .not (aQ g 2)) λk=>bJ k (K (ae 1) i j) (ag (cr (aQ g 0)) λl=>ay i 42 l λn=>ag (cr (aQ g 0)) λo=>ay i 9 o λq=>bT .eql 3 n q (K (ae 2) i j) (K (ae 0) i j))))] (λ_ _ _=>False)
theorem asP{s:ak}{B:X}{h:ad}{U:Nat}{R:aH}:bA Q s S2 231 0 [a0,a3,aV,B] h U N [(0,aF)] R=aeb s a0 a3 aV B h U N aF R:=by kernel_rfl
theorem auS:fG 231 agT:=fO S2
def QP:aa (aa Nat):=[[3,10]]
def aaj(s:ak)(a3 cZ:X)(h:ad)(U:Nat)(N:aH)(aF:aH)(R:aH):Prop:=wb s h U cZ λa b c=>ag (dz a 0) λd=>bJ d (ag (w5 b cZ) λe=>ag (dz e 0) λf=>ag (dz e 1) λg=>cJ [(ae 0),(ae 0)] b c λi j k=>ag (a7 j 2 i f) λl=>bh s 145 [g] l k λm n o=>kA m (ae 0) (a4 2 n i λq=>ey (fU 1 [(ae 0),(ae 0)] [(0,2,q)]) n o λr t aT=>dB (dS (dv 2 t aT a3 r)) λv w x=>N [v,cZ] w x) (N [a3,cZ] n o)) (aF [a3,cZ] b c)
def aec:fw:=λs au h U K=>ag (cr au) λa=>ay h 13 a λc=>dB (s2 h U c) λd e f=>bq (bA Q s QP 144 0) [aS,d] e f [(0,λg i j=>bh s 239 [(aQ g 0),(.func (.func 240) #[] #[])] i j λk l m=>K (aQ g 0) l m)] (λ_ _ _=>False)
theorem al6{s:ak}{h:ad}{U:Nat}{R:aH}:bA Q s QP 144 0 [a3,cZ] h U N [(0,aF)] R=aaj s a3 cZ h U N aF R:=by kernel_rfl
theorem apt:fG 144 aec:=fO QP
def QQ:aa (aa Nat):=[[3,12]]
def aak(s:ak)(a3 dT:X)(h:ad)(U:Nat)(N:aH)(aF:aH)(R:aH):Prop:=wb s h U dT λa b c=>ag (dz a 0) λd=>bJ d (ag (w5 b dT) λe=>ag (dz e 1) λf=>bh s 248 [f] b c λg i j=>o6 a3 g λk=>N [k,dT] i j) (aF [a3,dT] b c)
def aed:fw:=λs au h U K=>bT .neq 110 au (.pointer none) (ag (cr au) λb=>ay h 13 b λd=>dB (s2 h U d) λe f g=>bq (bA Q s QQ 152 0) [(ae 0),e] f g [(0,λi j k=>K (aQ i 0) j k)] (λ_ _ _=>False)) (K (ae 0) h U)
theorem al7{s:ak}{B:X}{h:ad}{U:Nat}{R:aH}:bA Q s QQ 152 0 [a3,B] h U N [(0,aF)] R=aak s a3 B h U N aF R:=by kernel_rfl
theorem apu:fG 152 aed:=fO QQ
theorem awP:rV Q 173=true:=by kernel_rfl
def ub(Z:b5)(V:Nat)(st:Int)(i:Nat):k0:=⟨5,0,((i*Z.C+0:Nat):Int),(V:Int),0,[],[],st,false⟩
def I6(jG:Nat->Int)(i:Nat)(v:X):Prop:=∃f:eE,v = .agg ⟨ef f⟩/\f.oO=false/\f.n=jG i
theorem al8{s:ak}{Z:b5}{jG:Nat->Int}{h:ad}{U aK cA:Nat}{c:Nat->X}{K:bD}(bN:u h aK=some (.cells (dt c) false))(hpw:aK<U)(jj:c 9 = (Z.lim:X))(I7:c 42 = (V:X))(sA:c 43 = .map (some cA))(uY:cA<U)(jn:i1 h cA Z.R dV (I6 jG))(ha:∀k,k<Z.R->dV k=true)(hk:K (.int .i64 (wV false (decide (∃i,i<Z.R/\jG i≠0)) (V:Int) (Z.lim:Int))) h U):aD Q s 231 [bb aK] h U K:=by
 obtain⟨L,cL,wv,h1,al⟩:=jn.ex;refine aD.plain (v:=.int .i64 (wV false (decide (∃i,i<Z.R/\jG i≠0)) (V:Int) (Z.lim:Int))) rfl ?_ hk;refine auS ?_;unfold agT;refine vT @bN @sA ?_;refine wv.jW λaM I ek=>?_;refine bq.mk (λm aE ac Y=>∃tL D,m=D.length/\aE=[bb aK,.bool false,.bool tL,bb U]/\xZ ac U cA cL L D/\((tL=true\/∃e∈D,jG e.1≠0)↔∃i,i<Z.R/\jG i≠0)/\(∀e∈D,e∈L)/\az U h ac/\U+1<=Y) L.length
  ⟨false,L,rfl,rfl,I,?_,λe h=>h,λc aU=>ek c J,J⟩ ?_
 ·constructor
  ·rintro(h|⟨e,bk,h⟩)
   ·cases h
   ·exact⟨e.1,(h1 e bk).1,h⟩
  ·rintro⟨i,ai,h⟩;obtain⟨e,bk,rfl⟩:=(al i ai).1 (ha i ai);exact .inr ⟨e,bk,h⟩
 rintro _ _ bc d4 ⟨tL,D,rfl,rfl,JI,WA,sa,P,iC⟩;rw[asP];unfold aeb;have tQ:=wv.T (ac:=bc) (P cA uY);have Ai:=(P aK hpw).trans bN;refine tQ.fW JI J (λaF=>?_) λe B bP bk bv CG hi E=>?_
 ·subst aF;refine zp @Ai @I7 @jj ?_;have gF:az U h bc:=P;have WA:tL=true↔∃i,i<Z.R/\jG i≠0:=by rw[<-WA];simp
  unfold wV;cases tL <;> grind
 ·obtain⟨f,qH,gY,eL⟩:=(h1 e bk).2;have om:=bv.length_eq;simp only[nM]at om;have hm:∀x∈B,x∈L:=λx M=>sa x (bv.mem_iff.2 (m8 _ M));have cz:(∃e∈D,jG e.1≠0)↔jG e.1≠0\/∃e∈B,jG e.1≠0:=by
   constructor
   ·rintro⟨x,M,h⟩;rcases hf.1 (bv.mem_iff.1 M)with rfl|M
    ·exact .inl h
    ·exact .inr ⟨x,M,h⟩
   ·rintro(h|⟨x,M,h⟩)
    ·exact⟨e,bv.mem_iff.2 (ow ..),h⟩
    ·exact⟨x,bv.mem_iff.2 (m8 _ M),h⟩
  rw[cz]at WA;rw[qH]at E ⊢;unfold ef at E ⊢;refine hw @E @gY @eL ?_;refine⟨λbg=>⟨B.length,J,true,B,rfl,rfl,CG.T ab,?_,hm,λc aU=>aC,J⟩,λbg=>⟨B.length,J,_,B,rfl,rfl,CG.T ab,?_,hm,λc aU=>aC,J⟩⟩
  ·grind
  ·grind
def VoK(Z:b5)(c:Nat->X)(aK V cA dP:Nat)(jG:Nat->Int)(f5:Nat->ak)(l:aa eE)(aP:av Nat)(h:ad)(U:Nat):bD:=λoj ac Y=>oj = .bool true/\∃bL hj ds B,U<=B/\B<=Y/\(∀d,d<U->d≠aK->d≠cA->aP≠some d->u ac d=u h d) /\
 e0 ac Y aK bL 0 0 Z.C (l++ds) hj /\
 ((∃k,k<Z.R/\(if k=dP then true else f5 k)=false)/\(∀n,bL n=c n)/\ds=[]/\hj=aP/\i1 ac cA Z.R (λk=>if k=dP then true else f5 k) (I6 jG) \/
 (∀k,k<Z.R->(if k=dP then true else f5 k)=true)/\(∀n,n≠22->n≠42->n≠44->bL n=c n)/\∃st,st=wV false (decide (∃i,i<Z.R/\jG i≠0)) (V:Int) (Z.lim:Int)/\bL 42 = ((V+1:Nat):X)/\bL 44 = .bool (!(st == 0))/\k5 ac U B ds ((List.range Z.R).map (ub Z V st))/\(∃cL,u ac cA=some (.map [] cL))/\∃ck,hj=some ck/\B<=ck)
def VoJ(Z:b5)(aK U a6 V:Nat)(st:Int)(c:Nat->X)(l:aa eE)(aP:av Nat)(h:ad)(m:Nat)(aE:aa X)(ac:ad)(Y:Nat):Prop :=
 ∃k bL hj ds B,m=Z.R-k/\k<=Z.R/\aE=[bb aK,(st:X),(Z.R:X),(k:X)]/\(∀n,n≠22->bL n=c n)/\e0 ac Y aK bL 0 0 Z.C (l++ds) hj /\
  k5 ac U B ds ((List.range k).map (ub Z V st))/\a6<=B/\B<=Y/\(∀b,hj=some b->aP=some b\/B<=b)/\(0<k->∃b,hj=some b/\B<=b)/\(∀d,d<a6->d≠aK->aP≠some d->u ac d=u h d)
section
variable {s:ak} {g cb h ac:ad} {U Y aK i j ao:Nat} {c bL:Nat->X} {l:aa eE} {aP so:av Nat} {Z:b5}
theorem al9{f:eE}{cA dP:Nat}{jG:Nat->Int}{f5:Nat->ak}(K:gj Z)(W:e0 h U aK c 0 0 Z.C l aP)(gO:c 7 = (Z.R:X))(jj:c 9 = (Z.lim:X))(bg:l.length+Z.R<900)(cy:V<900)(mZ:f.round=(V:Int))(gY:f.oO=false)(eL:f.n=jG dP)(I7:c 42 = (V:X))(I:c 43 = .map (some cA))(e44:c 44 = .bool false)(jn:i1 h cA Z.R f5 (I6 jG))(uY:cA<U/\cA≠aK/\aP≠some cA)(bM:dP<Z.R)(ha:f5 dP=false):
  aD Q s 136 [bb aK,.agg ⟨ef f⟩,.agg ⟨[(dP:X),.int .i64 0]⟩] h U (VoK Z c aK V cA dP jG f5 l aP h U):=by
 refine apn ?_;have ci:=W.lt;have mM:∀b,aP=some b->b<U:=λb e=>(W.aP b e).2;have hp:∀{y:Int},((y == y):ak)=true:=ab
 have bF:∀{o aW},az U h (F (F h U o) (U+1) aW):=aC
 have rv:∀{o aW},u (F (F h U o) (U+1) aW) aK=some (.cells (dt c) false):=λ{o aW}=>(bF aK ci).trans W.at_;have c0':c 0 = .int .i64 0:=W.mm;have WB:c 1 = .int .i64 0:=W.c1;have Cb:∀{o aW},lL Q (F (F h U o) (U+1) aW) 3 (.agg #[.int .i64 0,.int .i64 0,.int .i64 0,.int .i64 0,.int .i64 0,.int .i64 0,.slice none 0 0,.slice none 0 0,.slice none 0 0,.int .i64 0,.bool false]) true (.map (some cA)) (dP:X) = .ok (.tuple #[.agg #[.int .i64 0,.int .i64 0,.int .i64 0,.int .i64 0,.int .i64 0,.int .i64 0,.slice none 0 0,.slice none 0 0,.slice none 0 0,.int .i64 0,.bool false],.bool false]):=λ{o aW}=>by obtain⟨v,e,_⟩:=(jn.T (ac:=F (F h U o) (U+1) aW) ab λ_ _ h=>h).get n5 bM;rw[ha]at e;exact e
 unfold ad9 ef;simp(disch:=omega)only[bd,ia,rv,I,Cb,auQ c0' WB,R2,e44,mZ,I7,hp,seval];unfold C7;generalize nv:F (F (F (F h U _) (U+1) _) (U+1+1) _) (U+1+1) _=h9;have dI:∀d,d<U->u h9 d=u h d:=ab
 have br:u h9 (U+1)=some (.cells [(dP:X),.int .i64 0] false):=ab
 have b7:u h9 U=some (.cells (ef f) false):=by rw[<-nv,aq J,aq J,aq J,aN];unfold ef;rw[mZ]
 have Ai:=(dI aK ci).trans W.at_;obtain⟨o,eo',fj⟩:=(jn.T (dI cA uY.1) λ_ _ h=>h).put  n5 bM ha ⟨f,rfl,gY,eL⟩;have M:=fj (F h9 cA o) ab;obtain⟨m,aY,aJ,ce⟩:=M.len;rw[show ik dP = (dP:X)from rfl]at eo';have E:u (F h9 cA o) aK=some (.cells (dt c) false):=ab
 have jY:hF (some 11) 0 (ef f) = .ok (.agg ⟨ef f⟩):=rfl;simp(disch:=omega)only[bd,ia,Ai,br,b7,jY,I,eo',E,aY,gO,seval];have l2:∀d,d<U->d≠cA->u (F h9 cA o) d=u h d:=ab
 have rD:e0 (F h9 cA o) (U+3) aK c 0 0 Z.C l aP:=W.T ab J;refine⟨λEj=>⟨rfl,c,aP,[],U+3,J,J,ab,by rw[hM];exact rD,ab⟩,λeh=>?_⟩;have L:∀k,k<Z.R->(if k=dP then true else f5 k)=true:=ab
 refine al8 E J jj I7 I J M L ?_;generalize i0:wV _ _ _ _=st;refine vT @E @gO ?_;obtain⟨Xw,cL,wv,_,_⟩:=M.ex;have IK:=wv.at_;have Ui:U+1+1+1=U+3:=rfl;rw[Ui];generalize F h9 cA o=iQ at IK E l2 rD ⊢;refine bq.mk (VoJ Z aK U (U+3) V st c l aP iQ) Z.R ⟨0,c,aP,[],U+3,J,J,rfl,ab,by rw[hM];exact rD,trivial,J,J,ab,λh=>absurd h J,ab⟩ ?_;rintro _ _ b9 n6 ⟨k,hD,Wy,ds,B,rfl,hk,rfl,B8,D,he,wm,sx,ayM,Uj,x3⟩;rw[alX];unfold aah;have en6:(ds.length:Nat)=k:=by rw[he.len,g5,vk]
 have j42:=(B8 42 J).trans I7;have j43:=(B8 43 J).trans I;refine aB ?_;refine⟨λT8=>?_,λayN=>?_⟩
 ·refine(Gh  D.at_ D.h0 D.m7 (by have:=K.ot;omega) D.wD D.hE).f4 ⟨cB _,?_⟩;refine vT D.at_ @j42 ?_;refine(GF D ab ⟨5,0,((k*Z.C+0:Nat):Int),0,(V:Int),0,none,0,0,none,0,0,none,0,0,st,false⟩).mono ?_;rintro _ dL n7 ⟨rfl,dG,ck,JF,hQ,wq,tl⟩;refine⟨tl,?_⟩;refine a9 (cn (J:k<1000000000000)) ?_;have wk:∀d,U<=d->d<B->Wy≠some d:=λd h1 P e=>ab
  refine⟨_,J,k+1,_,some ck,ds++[_],B,rfl,J,rfl,λn bm=>?_,by rw[<-kB];exact JF,?_,J,J,λb e=>.inr ab,λ_=>⟨ck,rfl,J⟩,λd h1 P aM=>?_⟩
  ·rw[dN bm];grind
  ·rw[pb,hN];refine(he.T (λb h1 P=>wq b J J (wk b h1 P)) (cB _) J).app ⟨⟨rfl,?_,rfl,rfl,rfl,xo,xo,rfl,rfl,rfl⟩,trivial⟩;show((0*Z.C+0:Nat):Int)=0;omega
  grind
 ·have B9:k=Z.R:=J
  subst B9;obtain⟨ck,rfl,hQ⟩:=Uj J;have oT:u b9 cA=some (.map (lN ik Xw) cL):=ab
  have Wz:∀{o},u (F b9 cA o) aK=some (.cells (dt hD) false):=λ{o}=>by rw[aq (kE uY.2.1)];exact D.at_
  simp(disch:=omega)only[bd,ia,D.at_,j43,Ud awP oT,dS,Wz,j42,cn (J:V<1000000000000),seval];refine⟨rfl,_,some ck,ds,B,J,sx,λd h1 P aM bc=>?_,D.set (aN _ _ _) (by rw[dN J,dN J]) (by rw[dN J,dN J]) (by rw[dN J,dN J]) (by rw[dN J,dN J]) (λb e=>ab) (cB _),.inr ⟨L,λn h1 P aM=>by rw[dN aM,dN P];grind,st,i0.symm,by rw[dN J,zo],zo,he.T (λb h1 P=>ab) (cB _) (cB _),⟨cL,ab⟩,ck,rfl,hQ⟩⟩
  grind
end
section
variable {s:ak} {g cb h ac:ad} {U Y aK i j C R dP mv:Nat} {c bL:Nat->X} {l:aa eE} {aP so:av Nat} {Z:b5}
theorem R4(L:1<=C)(I:C<=8)(ai:dP<8)(D:mv<C):aD Q s 131 [(C:X),((dP*C+mv:Nat):X)] h U (fm (dP:X) U h):=by
 refine bS ?_;have K:dP*C<=7*C:=pU C J;refine abG.mono ?_;rintro _ _ _ ⟨rfl,rfl,rfl⟩;rw[lI J];have E:(dP*C+mv) / C=dP:=by rw[yM,Nat.mul_add_div J,OY D];rfl
 have B:bin Q .quo 3 (((dP*C+mv:Nat):X)) (C:X) = .ok (dP:X):=by rw[Dl J,show((dP*C+mv:Nat):Int).tdiv (C:Int)=(((dP*C+mv) / C:Nat):Int)from rfl,E,jI J J]
 have aJ:IntKind.wrap .i64 ((C:Int)*8)=((C*8:Nat):Int):=by rw[show(C:Int)*8=((C*8:Nat):Int) by omega];exact jI J J
 generalize M:dP*C+mv=n at *
 refine hw @AS @B @aJ ?_;exact⟨λh=>absurd h J,λ_=>⟨λh=>absurd h J,λ_=>⟨rfl,rfl,rfl⟩⟩⟩
theorem R5(K:1<=C)(D:C<=8)(ai:dP<8)(B:mv<C):aD Q s 132 [(C:X),((dP*C+mv:Nat):X)] h U (fm (mv:X) U h):=by
 refine bS ?_;refine(R4 K D ai B).f4 ?_;have I:(dP*C+mv) % C=mv:=by rw[yM,Nat.mul_add_mod,J4 B]
 have E:bin Q .rem 3 (((dP*C+mv:Nat):X)) (C:X) = .ok (mv:X):=by rw[acO J,show((dP*C+mv:Nat):Int).tmod (C:Int)=(((dP*C+mv) % C:Nat):Int)from rfl,I]
 refine a9 @E ?_;exact⟨λh=>absurd h J,λ_=>⟨rfl,rfl,rfl⟩⟩
theorem GG{f:eE}{l1:Nat}{K:bD}(W:e0 h U aK c i j C l aP)(gO:c 7 = (R:X))(dD:R<=8)(I:f.md=((i*C+j:Nat):Int))(L:f.e5=((dP*C+mv:Nat):Int))(ai:dP<R)(M:mv<C)(b0:f.kind=(l1:Int))(hkd:1<=l1/\l1<=5)
  (B:∀ac Y,az U h ac->U<=Y->aD Q s (132+l1) [bb aK,.agg ⟨ef f⟩,.agg ⟨[(dP:X),(mv:X)]⟩] ac Y K):
  aD Q s 63 [bb aK,.agg ⟨ef f⟩] h U K:=by
 refine asM ?_;have P:=W.lt;have bF:∀{o},az U h (F h U o):=aC
 have E:∀{o},e0 (F h U o) (U+1) aK c i j C l aP:=λ{o}=>W.T (λd bu=>bF d (bu.elim J λe=>(W.aP d e).2)) J;have hp:∀{y:Int},((y == y):ak)=true:=ab
 have hm:dP*C+mv<R*C:=by
  have:dP*C+C<=R*C:=by rw[<-FR];exact pU C J
  omega
 have sg:R*C<=8*8:=sT dD W.m7;have aJ:IntKind.wrap .i64 ((R:Int)*(C:Int))=((R*C:Nat):Int):=by rw[<-Int.natCast_mul];exact jI J J
 have aF:¬(((dP*C+mv:Nat):Int)<0):=J
 unfold afI;unfold ef at B ⊢;simp(disch:=omega)only[bd,pX Ek,seval];refine(aj6 E).f4 ⟨J,?_⟩;simp(disch:=omega)only[bd,I,L,hp,ia,E.at_,gO,W.hE,AS,aJ,seval];refine⟨λh=>absurd h aF,λ_=>?_⟩;rw[gz hm];unfold GD;simp(disch:=omega)only[bd,ia,E.at_,W.hE,seval];refine(R4 W.h0 W.m7 J M).f4 ⟨J,?_⟩;simp(disch:=omega)only[bd,ia,E.at_,W.hE,seval];refine(R5 W.h0 W.m7 J M).f4 ⟨J,?_⟩;simp only[I,L,b0]at B;have D:∀{o d9 dI},az U h (F (F (F h U o) (U+1) d9) (U+1) dI):=aC
 rcases(by omega:l1=1\/l1=2\/l1=3\/l1=4\/l1=5)with rfl|rfl|rfl|rfl|rfl
 ·simp(disch:=omega)only[bd,b0,show(((1:Nat):Int) == 1)=true from rfl,seval];exact B _ (U+2) D J
 ·simp(disch:=omega)only[bd,b0,show(((2:Nat):Int) == 1)=false from rfl,show(((2:Nat):Int) == 2)=true from rfl,seval];exact B _ (U+2) D J
 ·simp(disch:=omega)only[bd,b0,show(((3:Nat):Int) == 1)=false from rfl,show(((3:Nat):Int) == 2)=false from rfl,show(((3:Nat):Int) == 3)=true from rfl,seval];exact B _ (U+2) D J
 ·simp(disch:=omega)only[bd,b0,show(((4:Nat):Int) == 1)=false from rfl,show(((4:Nat):Int) == 2)=false from rfl,show(((4:Nat):Int) == 3)=false from rfl,show(((4:Nat):Int) == 4)=true from rfl,seval];exact B _ (U+2) D J
 ·simp(disch:=omega)only[bd,b0,show(((5:Nat):Int) == 1)=false from rfl,show(((5:Nat):Int) == 2)=false from rfl,show(((5:Nat):Int) == 3)=false from rfl,show(((5:Nat):Int) == 4)=false from rfl,show(((5:Nat):Int) == 5)=true from rfl,seval];exact B _ (U+2) D J
end
theorem ab5{s:ak}{n:Nat}{h:ad}{U:Nat}(B:cN h U v kq (eU n q)):aD Q s 139 [v] h U (λr ac Y=>eZ ac U Y r kq (eU n q)/\az U h ac/\U<=Y):=by
 by_cases E:n=0
 ·subst E;obtain⟨a,cap,rfl,_⟩:=id B;have I:az U h (F h U (.cells [] false)):=aC
  refine bS ?_;simp(disch:=omega)only[bd,y3 ahB,seval];refine⟨λ_=>⟨⟨_,_,rfl,λh=>absurd rfl h⟩,aC⟩,λ_=>?_⟩;exact⟨⟨_,_,rfl,λh=>absurd rfl h⟩,I,J⟩
 ·have e:eU n q=[mk n q]:=if_neg E;rw[e]at B ⊢;refine(aoc B).mono ?_;rintro _ ac Y ⟨b,c,P,rfl,h1,K,L,M,D⟩;exact⟨⟨_,_,rfl,λ_=>⟨b,P,false,h1,K,rfl,L⟩⟩,M,D⟩
section
variable {s:ak} {g cb h ac:ad} {U Y aK i j C low m:Nat} {c bL:Nat->X} {l:aa eE} {aP so:av Nat} {S:jL}
theorem ama(W:e0 h U aK c i j C l aP)(ar:jK h U (.agg ⟨[c 28,c 29,c 30,c 31,c 32]⟩) low m S)(hm:m<=60):
  aD Q s 69 [bb aK] h U (λr ac Y=>mb ac U Y r (low:Int) ((low+m:Nat):Int) m (cF m λk=>S.A (low+k)) (cF m λk=>S.B (low+k)) (λk=>S.q (low+k))/\az U h ac/\U<=Y):=by
 refine bS ?_;have ci:=W.lt;obtain⟨cY,fJ,ei,g9,fE,gJ,gq⟩:=ar;obtain⟨fk,fv,rfl,_⟩:=id fE;obtain⟨gH,fF,rfl,_⟩:=id gJ;obtain⟨lg,ir,rfl,_⟩:=id gq;simp only[Value.agg.injEq,wJ,vm,iy]at g9;obtain⟨rx,qB,sw,P,gC⟩:=g9;have bF:∀{o d9 dI},az U h (F (F (F h U o) (U+1) d9) (U+1) dI):=aC
 have rv:∀{o},u (F h U o) aK=some (.cells (dt c) false):=λ{o}=>by rw[aq J];exact W.at_
 simp(disch:=omega)only[bd,ia,pX Ek,rv,W.at_,rx,qB,sw,P,gC,seval];refine(Gg (fE.T  bF J) (by rw[jq];omega)).mono ?_;rintro v1 h1 a6 ⟨mu,E,K⟩;refine⟨K,?_⟩;have M:=(E (U+1) J).trans (aN _ _ _);have t1:=(E U J).trans ((aq J).trans ((aq J).trans (aN _ _ _)));have cD:=bF.trans E J;refine a9 @M ?_;refine(Gg (gJ.T  cD J) (by rw[jq];omega)).mono ?_;rintro v2 al bH ⟨JJ,B,I⟩;refine⟨I,?_⟩;have g2:=(B (U+1) J).trans M;have t2:=(B U J).trans t1;have ez:=cD.trans B J;refine cx @M @g2 ?_;refine(ab5 (gq.T  ez J)).mono ?_;rintro v3 aM bR ⟨CH,D,L⟩;refine⟨L,?_⟩;have c3:=(D (U+1) J).trans g2;have t3:=(D U J).trans t2;obtain⟨ih,bY,rfl,_⟩:=id mu;obtain⟨jC,cC,rfl,_⟩:=id JJ;obtain⟨hZ,b6,rfl,_⟩:=id CH;refine j6 @M @g2 @c3 @t3 ?_;refine⟨⟨_,_,_,rfl,mu.T (λd h1 al=>by rw[aq J,D d J,B d J]) J J,JJ.T (λd h1 al=>by rw[aq J,D d J]) J J,CH.T ab J J⟩,aC,J⟩
end
def Em(gs af:aa GE):Prop:=jd ((vS gs).map di) (af.map di)
def HG(gs af:aa GE):Prop:=∃cs:aa GE,jd ((w9 gs).map di) (cs.map di)/\Em cs af
def zB(gs af:aa GE):Prop:=∃us cs:aa GE,jd ((vS gs).map di) (us.map di)/\jd ((gs++us).map di) (cs.map di)/\HG cs af
def awQ(gs af:aa GE):Prop:=∃cs:aa GE,jd ((AV gs).map di) (cs.map di)/\zB cs af
def HY(R:aa GE->Prop)(N U:Nat)(h:ad):bD:=λr ac Y=>∃m af,r = .tuple ⟨[m,.int .i64 0]⟩/\R af/\(∀g∈af,fy N g)/\hJ N N af/\xa ac U Y m N N af/\az U h ac/\U<=Y
theorem l5.can{N q U:Nat}{h ac I:ad}{Y D:Nat}{Fs:aa GE}{r:X}(S:l5 N q U h ac Y gs v)(cz:U<=q)(ba:rh N Fs Y ac r I D):∃(cs:aa GE) (a:av Addr) (n c:Nat),r = .agg ⟨[(N:X),.slice a n c]⟩/\jd (Fs.map di) (cs.map di)/\cs.length<=Fs.length/\u I q=some (.cells [(N:X),v] false)/\Y<=D/\l5 N q U h (F I q (.cells [(N:X),.slice a n c] false)) D cs (.slice a n c):=by
 obtain⟨v2,cs,rfl,B,K,M,je,E,L⟩:=ba;have P:=S.lt;obtain⟨a,n,c,rfl⟩:=B.form;refine⟨cs,a,n,c,rfl,K,je,(E q J).trans S.g,L,ab,?_,?_,M,?_,J⟩
 ·rw[aq J,E _ P];exact S.m
 ·refine dq.of ?_;have:dX (F I q (.cells [(N:X),.slice a n c] false)) (.slice a n c) bQ 3 cs Y D:=by
   rcases B with B|⟨b,h1,I,e,aG⟩
   ·exact .inl B
   ·exact .inr ⟨b,h1,I,e,ab⟩
  exact this.rd
 ·intro b aG;rw[aq J,E b J];exact S.k b aG
theorem asQ{s:ak}{N:Nat}{h:ad}{U:Nat}(aI:dq h U v bQ gs)(cU:N<=4096)(E:∀g∈gs,fy N g)(bg:gs.length<=120):aD Q s 189 [.agg ⟨[(N:X),v]⟩] h U (HY (Em gs) N U h):=by
 refine agl ?_;obtain⟨a,cap,rfl,aU⟩:=id aI;unfold T0;refine aB ?_;have bF:∀{o aW},az U h (F (F h U o) (U+1) aW):=aC
 refine(Gy (aI.T bF J) cU E bg).mono ?_;rintro r h1 gv ⟨rfl,I,fp⟩;have b7:=I U J;rw[aq J,aN]at b7;have dK:=I (U+1) J;rw[aN]at dK;have cD:az U h h1:=aC
 refine a9 @b7 ?_;refine(SI (aI.T cD J) J bg E).mono ?_;rintro r al e4 ⟨v2,af,rfl,lW,K,D,qo,L,e9⟩;have ahy:af.length<=gs.length:=hu qo (t6 gs);have jn:hJ N N af:=asa K D cU J;obtain⟨a3,cm,rfl,IC⟩:=id lW.gI;refine aB ?_;refine bq.mk (CgJ U (U+1) N (.slice a3 af.length cm) .nilFunc af e4 al) af.length ⟨0,_,rfl,J,rfl,.inl ab,aC,J⟩ ?_;rintro m _ aM B1 ⟨i,o,rfl,ai,rfl,S,B,hr⟩;rw[aeW];unfold SD;refine aB ?_;refine⟨λci=>?_,λeh=>?_⟩
 ·obtain⟨e,bk⟩:=dk ci;obtain⟨b,aO,bC,hy,fa,rfl,aG⟩:=IC ab;have oZ:=(B b fa).trans aG;simp(disch:=omega)only[bd,oZ,agw bk,seval];refine l7  (k:=3)  (λ_=>rfl) (λ_=>rfl) J (S.T ab J) J e (aN _ _ _) rfl ab λsF bP BY hi=>?_;have M:af.take (i+1)=af.take i++[e]:=by rw[gQ,bk];rfl
  exact⟨af.length-(i+1),J,i+1,sF,rfl,J,by rw[cn J],by rw[M];exact BY,λc aU=>by rw[hi c aU,aq J,aq J,aq J];exact B c aU,J⟩
 ·have P:i=af.length:=J
  subst P;rw[ht]at S;have EV:=(B U J).trans ((L U J).trans b7);have Vy:=(B (U+1) J).trans ((L (U+1) J).trans dK);refine a9 @EV ?_;refine(QE (dq.of S.rd) jn).mono ?_;rintro r b9 n3 ⟨dD,hz,j9⟩;obtain⟨de,aO,hp,a2,bH,c2,aV,d4,h8,rfl⟩:=dD.is.form;have ID:=(hz (U+1) J).trans Vy;refine a9 @ID ?_;exact⟨_,_,rfl,K,D,jn,dD.T ab J J,aC,J⟩
def v7(k:Int)(gs af:aa GE):Prop:=if k=5 then awQ gs af else if k=3 then zB gs af else if k=1 then HG gs af else Em gs af
theorem aal{s:ak}{k n src P:Int}{bt:aa Int}{es:aa gS}{h:ad}{U:Nat}(bu:cN h U ew cG bt)(bk:dq h U gi gc es)(D:es.length<=60\/65536<es.length)(hm0:iB k n src len bt P es=0):
  aD Q s 114 [.agg ⟨[(k:X),(n:X),(src:X),(len:X),ew]⟩,.agg ⟨[(P:X),gi]⟩] h U (HY (v7 k (es.map mQ)) P.toNat U h):=by
 refine ac8 ?_;obtain⟨a,cap,rfl,aU⟩:=id bu;obtain⟨a2,r5,rfl,qk⟩:=id bk;unfold SC;refine aB ?_;have bF:∀{o aW kQ},az U h (F (F (F h U o) (U+1) aW) (U+1+1) kQ):=aC
 refine(Ky (bu.T bF J)).mono ?_;rintro r h1 gv ⟨rfl,eT,fp⟩;have kh:=eT U J;rw[aq J,aq J,aN]at kh;have ki:=eT (U+1) J;rw[aq J,aN]at ki;have pN:=eT (U+1+1) J;rw[aN]at pN;have cD:az U h h1:=aC
 generalize sd:gR k n src len bt=aj at *
 by_cases ic:aj=0
 case neg =>
  exact absurd hm0 (by unfold iB;omega)
 subst ic;refine cx @ki @kh ?_;refine⟨λeg=>?_,λpx=>?_⟩
 ·have eg:P≠n:=ab
  exact absurd hm0 (by unfold iB;omega)
 have px:P=n:=ab
 have IJ:iB k n src len bt P es=gr P es:=by unfold iB;omega
 refine(Dr (bk.T cD J)).mono ?_;rintro r al e4 ⟨rfl,I,e9⟩;have ez:=cD.trans I J;have x4:=(I U J).trans kh;have uQ:=(I (U+1) J).trans ki;have B3:=(I (U+1+1) J).trans pN
 by_cases M:gr P es=0
 case neg =>
  exact absurd J M
 rw[M]at IJ ⊢;have D:=L2 M D;obtain⟨N,rfl,cU,oW,iw⟩:=(AL.1 M).Is;have oY:=((bk.T cD J).T I e9).map oW;rw[<-g5 ]at D;generalize oV:es.map mQ=gs at D iw oY ⊢;generalize hRR:v7 k gs=R;have B:es.length=gs.length:=ab
 rw[B]at uQ oY;have mY:l5 N (U+1) U h al e4 gs (.slice a2 gs.length r5):=⟨uQ,B3,oY,iw,ez,J⟩
 rw[yI];have tail:∀{ac:ad} {Y:Nat} {gs:aa GE} {a:av Addr} {n c:Nat},l5 N (U+1) U h ac Y gs (.slice a n c)->U<=Y->gs.length<=120->(∀af,Em gs af->R af)->sY s (HY R N U h) (.pointer (some ⟨U+1,0,none⟩)) (.pointer (some ⟨U+1+1,0,none⟩)) ac Y:=λ{ac Y gs a n c} S aR bg l3=>by have ci:=S.lt;unfold sY;refine a9 S.g ?_;refine(asQ S.p cU S.ok bg).mono ?_;rintro r b9 n3 ⟨m,af,rfl,eH,ayO,jn,dD,hz,j9⟩;obtain⟨de,aO,hp,a2,bH,c2,aV,d4,h8,rfl⟩:=dD.is.form;have lF:=(hz _ S.lt).trans S.m;refine a9 @lF ?_;exact⟨_,_,rfl,l3 af eH,ayO,jn,dD.T ab J J,λb aG=>by rw[aq J,hz b J];exact S.k b aG,J⟩
 have plain:∀{ac:ad} {Y:Nat} {gs:aa GE} {a:av Addr} {n c:Nat},l5 N (U+1) U h ac Y gs (.slice a n c)->U<=Y->gs.length<=120->(∀af,HG gs af->R af)->aD Q s 188 [.agg ⟨[(N:X),.slice a n c]⟩] ac Y λL K x5=>(c5 L).length=2/\ag (jg (u K (U+1)) K (U+1) 0 (c5 L)) λx6=>sY s (HY R N U h) (.pointer (some ⟨U+1,0,none⟩)) (.pointer (some ⟨U+1+1,0,none⟩)) x6 x5:=λ{ac Y gs a n c} S aR bg l3=>by refine(adp S.p J bg S.ok).mono ?_;intro r b9 n3 ba;obtain⟨cs,bf,n6,hD,rfl,E,B,cz,dr,sI⟩:=S.can J ba;refine a9 @cz ?_;exact tail sI J (by have:=t6 (p:=λ_=>true) (m:=xG) gs;unfold w9 at B;omega) λaf h=>l3 af ⟨cs,E,h⟩
 have uw:∀{ac:ad} {Y:Nat} {gs:aa GE} {a:av Addr} {n c:Nat},l5 N (U+1) U h ac Y gs (.slice a n c)->U<=Y->gs.length<=60->(∀af,zB gs af->R af)->aD Q s 181 [.agg ⟨[(N:X),.slice a n c]⟩] ac Y λIE B4 B5=>(c5 IE).length=2/\ag (jg (u B4 (U+1)) B4 (U+1) 0 (c5 IE)) λsk=>ag (A1 (u sk (U+1)) λcs x=>hF (some 2) 0 cs) λVz=>aD Q s 188 [Vz] sk B5 λL K x5=>(c5 L).length=2/\ag (jg (u K (U+1)) K (U+1) 0 (c5 L)) λx6=>sY s (HY R N U h) (.pointer (some ⟨U+1,0,none⟩)) (.pointer (some ⟨U+1+1,0,none⟩)) x6 x5:=λ{ac Y gs a n c} S aR bg l3=>by refine(afd S.p J bg S.ok).mono ?_;rintro r b9 n3 ⟨us,hus,qo,_,ba⟩;obtain⟨cs,bf,n6,hD,rfl,E,B,cz,dr,sI⟩:=S.can J ba;rw[jb]at B;refine a9 @cz ?_;exact plain sI J J λaf h=>l3 af ⟨us,cs,hus,E,h⟩
 refine cx @uQ @x4 ?_;refine⟨λgP=>?_,λgP=>⟨λce=>uw mY J D λaf h=>?_,λce=>⟨λaY=>plain mY J J λaf h=>?_,λaY=>tail mY J J λaf h=>?_⟩⟩⟩
 ·refine(abo mY.p J J iw).mono ?_;intro r b9 n3 ba;obtain⟨cs,bf,n6,hD,rfl,E,B,cz,dr,sI⟩:=mY.can J ba;have x2:=t6 (p:=s6) (m:=id) gs;unfold AV at B;refine a9 @cz ?_;refine uw sI J J λaf h=>?_;rw[<-hRR,vn.1 gP];exact⟨cs,E,h⟩
 all_goals
  rw[<-hRR];unfold v7;rw[if_neg (sR.1 gP)]
 ·rw[if_pos (vn.1 ce)];exact h
 ·rw[if_neg (sR.1 ce),if_pos (vn.1 aY)];exact h
 ·rw[if_neg (sR.1 ce),if_neg (sR.1 aY)];exact h
theorem afK{a b:GE}(h:di a=di b):a=b:=by
 cases a;cases b;simp only[di,Prod.mk.injEq]at h
 grind
theorem aee:∀{l B:aa GE},l.map di=B.map di->l=B
 | [],[],_=>rfl
 |a::l,b::B,h=>by simp only[qQ,vm]at h;rw[afK h.1,aee h.2]
 | [],_::_,h=>by cases h
 |_::_,[],h=>by cases h
theorem G8{A:aa dn}{l B:aa GE}(h:jd A (l.map di))(ac:jd A (B.map di)):l=B:=aee (h.unique ac)
theorem ab6(h:Em gs af)(ac:Em gs us):af=us:=G8 h ac
theorem aam(h:HG gs af)(ac:HG gs us):af=us:=by obtain⟨a,B,h⟩:=h;obtain⟨b,D,ac⟩:=ac;rw[G8 D B]at ac;exact ab6 h ac
theorem ab7(h:zB gs af)(ac:zB gs us):af=us:=by obtain⟨a,c,D,E,h⟩:=h;obtain⟨b,d,I,B,ac⟩:=ac;rw[G8 I D]at B;rw[G8 B E]at ac;exact aam h ac
theorem apv{k:Int}(h:v7 k gs af)(ac:v7 k gs us):af=us:=by
 unfold v7 at h ac
 split at h
 ·rw[if_pos J]at ac;obtain⟨a,B,h⟩:=h;obtain⟨b,D,ac⟩:=ac;rw[G8 D B]at ac;exact ab7 h ac
 ·rw[if_neg J]at ac
  split at h
  ·rw[if_pos J]at ac;exact ab7 h ac
  ·rw[if_neg J]at ac
   split at h
   ·rw[if_pos J]at ac;exact aam h ac
   ·rw[if_neg J]at ac;exact ab6 h ac
def mU(Z:b5):jL:={ A:=λv=>tg Z.k Z.src v,B:=λ_=>-1,q:=λv=>th Z.k Z.src v }
structure NwI (Z:b5) (i j U:Nat) (h:ad) (ac:ad) (Y aK:Nat) (c:Nat->X) (aP:av Nat) (bz bZ cA:Nat) (l:aa eE) (g:ad):Prop where
 k:az U h ac
 p:U<=aK
 dJ:U<=bz/\bz<Y/\bz≠aK/\aP≠some bz/\u g bz=none/\u ac bz=some (.map [] 0)
 gg:U<=bZ/\bZ<Y/\bZ≠aK/\aP≠some bZ/\u g bZ=none/\u ac bZ=some (.map [] 0)
 jE:U<=cA/\cA<Y/\cA≠aK/\aP≠some cA/\u g cA=none/\u ac cA=some (.map [] 0)
 ne:bz≠bZ/\bz≠cA/\bZ≠cA
 W:e0 ac Y aK c i j Z.C l aP
 b:∀b,aP=some b->U<=b/\u g b=none
 G:sy g ac Y aK
 o:∀d,d<U->u g d=none
 z:kv g Y c Z i j
 m:c 23 = .int .i64 1/\c 24 = .map (some bz)/\c 25 = .int .i64 1/\c 26 = .int .i64 0/\c 27 = .int .i64 0/\c 39 = .bool false/\c 40 = .slice none 0 0/\c 41 = .map (some bZ)/\c 42 = .int .i64 0/\c 43 = .map (some cA)/\c 44 = .bool false
 On:j≠0->l=[]/\c 38 = .bool false
 aAZ:j=0->c 38 = .bool true/\jK g Y (.agg ⟨[c 28,c 29,c 30,c 31,c 32]⟩) (Z.bB i) (Z.H i) (mU Z)/\(∀n,28<=n->n<33->c (n+5)=c n)/\l=[DK ((i*Z.C+0:Nat):Int) 0 (q9 Z.k Z.len 0 (Z.H i) (cF (Z.H i) λk=>(mU Z).A (Z.bB i+k)) (λk=>(mU Z).q (Z.bB i+k)):Int) false]
theorem zi.T{h ac:ad}{ao ai ed da:Nat}{v:X}{r c:Nat}{af:aa GE}(H:zi h ao ai v r c af)(D:∀d,ao<=d->d<ai->u ac d=u h d)(E:ed<=ao)(B:ai<=da):zi ac ed da v r c af:=by obtain⟨v1,M,I,K,e,L,⟨b,P,aJ,de,bO,d6⟩,a3,aV⟩:=H;exact⟨v1,M,I,K,e,L.T D E B,⟨b,P,aJ,J,J,ab⟩,a3.T D E B,aV.T D E B⟩
def NwP(Z:b5)(i j U:Nat)(h:ad):bD:=λr ac Y=>∃aK c aP bz bZ cA l g,r = .tuple ⟨[bb aK,.int .i64 0]⟩/\NwI Z i j U h ac Y aK c aP bz bZ cA l g/\U<=Y
theorem asR{s:ak}{x:iZ}{I eI:Nat}{eG:X}{h:ad}{U:Nat}{Z:b5}(K:gj Z)(H:oH h U x ew gi eG)(BG:cN h U eG zA [])(zD:x.uR=0)(MV:x.bt.length<1000000)(ap:gl x=0)(ai:I<Z.R)(bM:eI<Z.C)(z:Z.k=x.k/\x.n=(Z.N:Int)/\Z.src=x.src/\Z.len=x.len/\Z.bt=x.bt/\x.R=(Z.R:Int)/\x.C=(Z.C:Int)/\x.lim=(Z.lim:Int))(ayP:Z.N<=60)(lW:v7 x.k (x.es.map mQ) Z.af):
  aD Q s 59 [.agg ⟨fq x ew gi eG⟩,(I:X),(eI:X)] h U (NwP Z I eI U h):=by
 refine awq ?_;obtain⟨bp,hn,rfl,_⟩:=id H.d;obtain⟨b2,pM,rfl,_⟩:=id H.e;obtain⟨bV,ge,rfl,_⟩:=id BG;have bF:∀{o},az U h (F h U o):=aC
 have iq:∀{o},oH (F h U o) (U+1) x _ _ _:=λ{o}=>H.T aC J;unfold fq at *
 unfold ahC bT lh cq ay cf bh ae a4 cK;refine aB ?_;refine(KY iq).mono ?_;rintro _ h1 a6 ⟨rfl,eT,fp⟩;have b7:=eT U J;rw[aN]at b7;have cD:az U h h1:=aC
 rw[ap];refine a9 @b7 ?_;refine⟨λaG=>absurd aG J,λhi0=>⟨λaG=>absurd aG J,λhi1=>⟨λaG=>absurd aG J,λyc=>?_⟩⟩⟩;rw[show(!decide ((eI:Int)<x.C))=false by rw[gz J];rfl];obtain⟨c4,eK,gX,lf,aB5,aDa,wE,aDb,aDc,q10⟩:=asb ap;obtain⟨Oo,cU,ve,ym,Xx,dD,d5,aCs⟩:=z;obtain⟨N,pS⟩:∃N,Z.N=N:=⟨_,rfl⟩
 obtain⟨R,Xy⟩:∃R,Z.R=R:=⟨_,rfl⟩
 obtain⟨C,Xz⟩:∃C,Z.C=C:=⟨_,rfl⟩
 obtain⟨af,tM⟩:∃af,Z.af=af:=⟨_,rfl⟩
 rw[tM]at lW;rw[pS]at cU ayP;rw[Xy]at dD ai;rw[Xz]at d5 bM;have hGN:x.bI.toNat=N:=J
 unfold Hl bT nH b3 ay b4 bh c7 kZ eX ae a4 dc cJ aS cK;refine a9 @b7 ?_;refine(aal (H.d.T cD J) (H.e.T cD J) H.l c4).mono ?_;rw[hGN];rintro _ M bH ⟨m,fr,rfl,hTs,_,jn,hRm,dE,e9⟩;obtain rfl:af=fr:=apv lW hTs;have ayQ:=hRm;obtain⟨de,I2,nn1,a2',n2',c2',IV,n4',IW,rfl⟩:=hRm.is.form;have g2:=(dE U J).trans b7;have ez:az U h M:=aC
 refine a9 @g2 ?_;have K2':∀{o aW},az U h (F (F M bH o) bH aW):=aC
 refine(aoG (BG.T  K2' J) (by simp)).mono ?_;rintro vch aM P ⟨UW,ek,hr⟩;have aAr:=UW;obtain⟨WC,WD,rfl,_⟩:=id UW;have c3:=ek U J;rw[aq J,aq J,g2]at c3;refine a9 @c3 ?_;refine⟨J,?_⟩;have fg:az U h aM:=aC
 rw[aoH];have gm3:=ek bH J;rw[aN]at gm3;refine hw @awA @awB @c3 ?_;generalize D:IY (I:Int) (eI:Int) x.k x.n x.src x.len bp x.bt.length hn x.R x.C x.lim WC 0 WD=c1;have kX:c1 0 = (I:X):=by rw[<-D];rfl
 have fk:c1 1 = (eI:X):=by rw[<-D];rfl
 have gH:c1 2 = (x.k:X):=by rw[<-D];rfl
 have lg:c1 3 = (x.n:X):=by rw[<-D];rfl
 have JK:c1 4 = (x.src:X):=by rw[<-D];rfl
 have Oq:c1 5 = (x.len:X):=by rw[<-D];rfl
 have FA:c1 8 = (x.C:X):=by rw[<-D];rfl
 have f22:c1 22 = .slice none 0 0:=by rw[<-D];rfl
 have aCt:c1 7 = (x.R:X):=by rw[<-D];rfl
 have aCu:c1 9 = (x.lim:X):=by rw[<-D];rfl
 have f10:c1 10 = .slice WC 0 WD:=by rw[<-D];rfl
 have f23:c1 23 = .int .i64 1:=by rw[<-D];rfl
 have f25:c1 25 = .int .i64 1:=by rw[<-D];rfl
 have f26:c1 26 = .int .i64 0:=by rw[<-D];rfl
 have f27:c1 27 = .int .i64 0:=by rw[<-D];rfl
 have f38:c1 38 = .bool false:=by rw[<-D];rfl
 have f39:c1 39 = .bool false:=by rw[<-D];rfl
 have f40:c1 40 = .slice none 0 0:=by rw[<-D];rfl
 have f42:c1 42 = .int .i64 0:=by rw[<-D];rfl
 have f44:c1 44 = .bool false:=by rw[<-D];rfl
 clear D;have K3':∀{o},az U h (F aM P o):=fg.set J;refine(Gg (H.d.T  K3' J) MV).mono ?_;rintro vds bc d4 ⟨hvd,gd,iC⟩;have Uk:=hvd;obtain⟨WE,WF,rfl,_⟩:=id hvd;have gw4:=gd P J;rw[aN]at gw4;have dK:=gd U J;rw[aq J,c3]at dK;have gm4:=gd bH J;rw[aq J,gm3]at gm4;refine vR @gw4 @dK @gm4 @dD @d5 ?_;rw[asl];refine⟨by show 6<45;omega,?_⟩;have hT:∀{o},az U h (F bc P o):=λ{o} d bu=>by rw[aq J,gd d J,aq J,fg d bu]
 have hRi:kI (F bc P (.cells (dt (hK c1 6 (.slice WE x.bt.length WF))) false)) d4 _ N N af:=(ayQ.T    (λd h1 M=>by rw[aq J,gd d J,aq J,ek d J,aq J,aq J]) J J).is;refine(auz jn hRi J J J J J J).mono ?_;rintro fJ bP fI ⟨dZ,hi,mE⟩;have hB0:=dZ;obtain⟨g3,sp5,nn5,lC,n25,c25,EP,n45,c45,rfl⟩:=dZ.is.form;have gw5:=hi P J;rw[aN]at gw5;have gx:=hi U J;rw[aq J,dK]at gx;have ll:az U h bP:=hT.trans hi J;refine hw @gw5 @asc @asi ?_;have pz:=vv (n:=N) (k:=R) (J:I<=I+1);have uC:=vv (n:=N) (k:=C) (J:eI<=eI+1);have hl3:=ua (n:=N) (k:=R) J (I+1);have hl4:=ua (n:=N) (k:=C) J (eI+1);refine(auA (Lo jn J J) (hB0.T (ed:=0) (da:=fI) (λd h1 M=>aq J) J J).is).mono ?_;rintro vco b9 L ⟨fr,eH,Wp,hCs,hz,j9⟩;have ayR:=hCs;obtain⟨dh,db,kj,mj,rfl,h0,⟨bb2,aAs,rfl,cb1,cb2,cb3⟩,pO,aCv⟩:=hCs;obtain⟨aw1,cw1,rfl⟩:=h0.IN.form;obtain⟨aw3,cw3,rfl⟩:=pO.IN.form;obtain⟨aw4,cw4,rfl⟩:=aCv.IN.form;have gw6:=hz P J;rw[aN]at gw6;have lF:=hz U J;rw[aq J,gx]at lF;have vb:az U h b9:=λd bu=>by rw[hz d J,aq J];exact ll d bu
 simp(disch:=omega)only[bd,gw6,ase,Hp,aoI,aoJ,aoK,lF,cU,dD,seval];generalize Fb:F (F (F (F (F (F (F b9 P _) L _) (L+1) _) (L+1+1) _) P _) P _) P _=vc;have gO:∀d,d≠P->d<L->u vc d=u b9 d:=λd h1 M=>by rw[<-Fb,aq J,aq J,aq J,aq J,aq J,aq J,aq J]
 have NS:∃E,u vc P=some (.cells (dt E) false)/\E 0 = (I:X)/\E 1 = (eI:X)/\E 2 = (x.k:X)/\E 3 = (x.n:X)/\E 4 = (x.src:X)/\E 5 = (x.len:X)/\E 6 = .slice WE x.bt.length WF/\E 7 = (x.R:X)/\E 8 = (x.C:X)/\E 9 = (x.lim:X)/\E 10 = .slice WC 0 WD/\E 22 = .slice none 0 0 /\
   xa bP d4 fI (.agg ⟨[E 11,E 12,E 13,E 14,E 15]⟩) (c6 N R (I+1)-c6 N R I) (c6 N C (eI+1)-c6 N C eI) (ma af (c6 N R I) (c6 N R (I+1)-c6 N R I) (c6 N C eI) (c6 N C (eI+1)-c6 N C eI)) /\
   zi b9 fI L (.agg ⟨[E 16,E 17,E 18,E 19,E 20,E 21]⟩) (c6 N R (I+1)-c6 N R I) (c6 N C (eI+1)-c6 N C eI) fr /\
   (E 23 = .int .i64 1/\E 24 = .map (some L)/\E 25 = .int .i64 1/\E 26 = .int .i64 0/\E 27 = .int .i64 0/\E 39 = .bool false/\E 40 = .slice none 0 0/\E 41 = .map (some (L+1))/\E 42 = .int .i64 0/\E 43 = .map (some (L+2))/\E 44 = .bool false)/\E 38 = .bool false:=by rw[<-Fb,aN];exact⟨_,rfl,kX,fk,gH,lg,JK,Oq,rfl,aCt,FA,aCu,f10,f22,hB0,ayR,⟨f23,rfl,f25,f26,f27,f39,f40,rfl,f42,rfl,f44⟩,f38⟩
 have WG:u vc L=some (.map [] 0)/\u vc (L+1)=some (.map [] 0)/\u vc (L+2)=some (.map [] 0):=by
  refine⟨?_,?_,?_⟩
  ·rw[<-Fb,aq J,aq J,aq J,aq J,aq J,aN]
  ·rw[<-Fb,aq J,aq J,aq J,aq J,aN]
  ·rw[<-Fb,aq J,aq J,aq J,aN]
 have o8:=(gO U J J).trans lF;have rE:az U h vc:=λd bu=>by rw[gO d J J];exact vb d bu
 clear Fb;obtain⟨E,NS,aA0,ih,jC,hZ,u3,yn,Jn,ja,ol,Xj,o0,x22,aCw,aCx,aCy,VV⟩:=NS;subst pS Xy Xz tM;have K39:P+1<=d4:=iC;have fin:∀(hR:ad) (ov:Nat) (rF:Nat->X) (aP:av Nat) (l:aa eE),L+3<=ov->(∀d,d<L+3->d≠P->u hR d=u vc d)->(∀n,n≠22->n<28\/38<n->rF n=E n)->e0 hR ov P rF I eI Z.C l aP->(∀b,aP=some b->L+3<=b)->(eI≠0->l=[]/\rF 38 = .bool false)->(eI=0->rF 38 = .bool true/\(∃NT,(∀b,aP=some b->NT<=b)/\NT<=ov/\mb hR (L+3) NT (.agg ⟨[rF 28,rF 29,rF 30,rF 31,rF 32]⟩) (Z.bB I:Int) ((Z.bB I+Z.H I:Nat):Int) (Z.H I) (cF (Z.H I) λk=>(mU Z).A (Z.bB I+k)) (cF (Z.H I) λk=>(mU Z).B (Z.bB I+k)) (λk=>(mU Z).q (Z.bB I+k)))/\(∀n,28<=n->n<33->rF (n+5)=rF n)/\l=[DK ((I*Z.C+0:Nat):Int) 0 (q9 Z.k Z.len 0 (Z.H I) (cF (Z.H I) λk=>(mU Z).A (Z.bB I+k)) (λk=>(mU Z).q (Z.bB I+k)):Int) false]) ->
   NwP Z I eI U h (.tuple ⟨[bb P,.int .i64 0]⟩) hR ov:=by
  intro hR ov rF aP l bm wu B XA mM hj1 yc;obtain⟨g,a5⟩:=DN (λd=>if d<U\/d=P\/d=L\/d=L+1\/d=L+2\/aP=some d then 1 else 0) hR ov;have uV:∀d,u g d=if d<ov/\(if d<U\/d=P\/d=L\/d=L+1\/d=L+2\/aP=some d then 1 else 0)=0 then u hR d else none:=a5
  have aA1:∀d,U<=d->d<ov->d≠P->(d<L\/L+3<=d)->aP≠some d->u g d=u hR d:=λd h1 M aM bc bP=>by
   rw[uV d,if_pos ⟨M,if_neg (by rintro(e|e|e|e|e|e) <;> first|exact bP e|omega)⟩]
  have bI:∀d,(d<U\/d=P\/d=L\/d=L+1\/d=L+2\/aP=some d)->u g d=none:=λd h1=>by rw[uV d,if_neg λe=>by rw[if_pos h1]at e;exact absurd e.2 (by decide)]
  have ET:∀d,d<L+3->aP≠some d:=λd bu e=>by have:=mM d e;omega
  have pN:∀d,P+1<=d->d<L->u g d=u b9 d:=λd h1 M=>by rw[aA1 d J J J (.inl M) (ET d J),wu d J J,gO d J M]
  refine⟨P,rF,aP,L,L+1,L+2,l,g,rfl,⟨λd bu=>(wu d J J).trans (rE d bu),J,⟨J,J,J,ET _ J,bI _ (by simp),(wu _ J J).trans WG.1⟩,⟨J,J,J,ET _ J,bI _ (by simp),(wu _ J J).trans WG.2.1⟩,⟨J,J,J,ET _ J,bI _ (by simp),(wu _ J J).trans WG.2.2⟩,J,XA,λb e=>⟨by have:=mM b e;omega,bI b (by simp[e])⟩,⟨jO.sub a5,bI _ (by simp),λd bu=>by rw[uV d,if_neg J]⟩,λd bu=>bI d (.inl bu),⟨?_,?_,?_,?_,?_,?_,?_,?_,?_,?_⟩,?_,hj1,λe=>?_⟩,J⟩
  ·rw[B 2 J J,jC,Oo]
  ·rw[B 3 J J,hZ,cU]
  ·rw[B 4 J J,u3,ve]
  ·rw[B 5 J J,yn,ym]
  ·rw[B 6 J J,Jn,Xx];exact(eZ.T Uk (ed:=0) (da:=ov) (λd h1 M=>by rw[pN d J J,hz d J,aq J,hi d J,aq J]) J J).rd
  ·rw[B 7 J J,ja,dD]
  ·rw[B 9 J J,Xj,aCs]
  ·exact⟨_,_,(B 10 J J).trans o0⟩
  ·rw[B 11 J J,B 12 J J,B 13 J J,B 14 J J,B 15 J J];exact(aCw.T (ed:=0) (da:=ov) (λd h1 M=>by rw[pN d J J,hz d J,aq J]) J J).is
  ·rw[B 16 J J,B 17 J J,B 18 J J,B 19 J J,B 20 J J,B 21 J J];exact⟨fr,eH,Wp,(zi.T aCx (ed:=0) (da:=ov) (λd h1 M=>pN d J J) J J).s⟩
  ·obtain⟨ax,a2,a3,aV,bl,bf,aZ,bo,cH,cZ,dO⟩:=aCy;exact⟨(B _ J J).trans ax,(B _ J J).trans a2,(B _ J J).trans a3,(B _ J J).trans aV,(B _ J J).trans bl,(B _ J J).trans bf,(B _ J J).trans aZ,(B _ J J).trans bo,(B _ J J).trans cH,(B _ J J).trans cZ,(B _ J J).trans dO⟩
  ·obtain⟨de,⟨NT,bO,d6,fQ⟩,g3,Af⟩:=yc e;exact⟨de,(fQ.wid (ed:=0) (da:=ov) (λd h1 M=>aA1 d J J J (.inr h1) λe=>by have:=bO d e;omega) J d6).rd,g3,Af⟩
 have HX:P<L+3:=J
 refine⟨λpK=>?_,λpK=>fin vc (L+3) E none [] (cB _) (λ_ _ _=>rfl) (λ_ _ _=>rfl) ⟨NS,HX,J,J,J,bM,aA0,ih,by rw[ol,d5],by rw[x22];exact .nil,nofun⟩ (nofun) (λ_=>⟨rfl,VV⟩) λe=>absurd pK (by rw[e];decide)⟩;have hJ0:eI=0:=by have:=vn.1 pK;omega
 subst hJ0;refine(vE (n:=Z.N) (k:=Z.R) (i:=I) J J J J).f4 ⟨cB _,?_⟩;refine j6 @o8 @dD @cU (cn (J:I<1000000000000)) ?_;refine(vE (n:=Z.N) (k:=Z.R) (i:=I+1) J J J J).f4 ⟨cB _,?_⟩;have hm:c6 Z.N Z.R (I+1)=Z.bB I+Z.H I:=by unfold b5.H b5.bB;omega
 have sg:Z.bB I+Z.H I<=Z.N:=by rw[<-hm];exact hl3
 rw[hm,show c6 Z.N Z.R I=Z.bB I from rfl];refine cx @o8 @cU ?_;have hdS:cN vc (L+1+1+1) (.slice bp x.bt.length hn) cG x.bt:=H.d.T rE J;rw[cU]at eK;refine(aoE (m:=Z.H I) (low:=Z.bB I) hdS eK J J J).mono ?_;rintro aE h7 n8 ⟨dW,zR,ahS⟩;have XB:∀k:Nat,(mU Z).A (Z.bB I+k)=tg x.k x.src ((Z.bB I:Int)+(k:Int)):=λk=>by show tg Z.k Z.src ((Z.bB I+k:Nat):Int)=_;rw[Oo,ve,wH]
 have aCz:∀k:Nat,(mU Z).q (Z.bB I+k)=th x.k x.src ((Z.bB I:Int)+(k:Int)):=λk=>by show th Z.k Z.src ((Z.bB I+k:Nat):Int)=_;rw[Oo,ve,wH]
 replace dW:mb h7 (L+3) n8 aE (Z.bB I:Int) ((Z.bB I+Z.H I:Nat):Int) (Z.H I) (cF (Z.H I) λk=>(mU Z).A (Z.bB I+k)) (cF (Z.H I) λk=>(mU Z).B (Z.bB I+k)) (λk=>(mU Z).q (Z.bB I+k)):=by simp only[XB,aCz];exact dW
 have hS0:=dW;obtain⟨cY,fJ,ei,rfl,fE,gJ,gq⟩:=dW;obtain⟨sa1,sc1,rfl,_⟩:=id fE;obtain⟨sa2,sc2,rfl,_⟩:=id gJ;obtain⟨sa3,sc3,rfl,_⟩:=id gq;have gw8:=(zR P J).trans NS;refine j6 @gw8 @asf @ash @asj ?_;refine⟨J,?_⟩;have hdK:p3 h7 n8 (.slice WE x.bt.length WF) Z.k Z.src Z.len Z.N Z.bt:=⟨by rw[Xx];exact(eZ.T Uk (ed:=0) (da:=n8) (ac:=h7) (λd h1 M=>by rw[zR d J,gO d J J,hz d J,aq J,hi d J,aq J]) J J).rd,K.dok,K.n60,K.pl,K.gF⟩
 generalize Fc:nZ (nZ E 28 _) 33 _=hE;have rn:∀n,n<28\/38<=n->hE n=E n:=λn bm=>by rw[<-Fc,ue (by show n<33\/38<=n;omega),ue (by show n<28\/33<=n;omega)]
 have M0:Value.agg ⟨[hE 28,hE 29,hE 30,hE 31,hE 32]⟩ = .agg ⟨[.int .i64 (Z.bB I:Int),((Z.bB I+Z.H I:Nat):X),.slice sa1 (cF (Z.H I) λk=>(mU Z).A (Z.bB I+k)).length sc1,.slice sa2 (cF (Z.H I) λk=>(mU Z).B (Z.bB I+k)).length sc2,.slice sa3 (eU (Z.H I) λk=>(mU Z).q (Z.bB I+k)).length sc3]⟩:=by rw[<-Fc];rfl
 have UR:Value.agg ⟨[hE 33,hE 34,hE 35,hE 36,hE 37]⟩ = .agg ⟨[.int .i64 (Z.bB I:Int),((Z.bB I+Z.H I:Nat):X),.slice sa1 (cF (Z.H I) λk=>(mU Z).A (Z.bB I+k)).length sc1,.slice sa2 (cF (Z.H I) λk=>(mU Z).B (Z.bB I+k)).length sc2,.slice sa3 (eU (Z.H I) λk=>(mU Z).q (Z.bB I+k)).length sc3]⟩:=by rw[<-Fc];rfl
 have bk:∀n,28<=n->n<33->hE (n+5)=hE n:=λn h1 M=>by
  rw[<-Fc];rcases(by omega:n=28\/n=29\/n=30\/n=31\/n=32)with rfl|rfl|rfl|rfl|rfl <;> rfl
 clear Fc;have Xv:∀{o},e0 (F (F h7 P o) P (.cells (dt hE) false)) n8 P hE I 0 Z.C [] none:=λ{o}=>⟨aN _ _ _,J,J,J,J,bM,(rn 0 J).trans aA0,(rn 1 J).trans ih,by rw[rn 8 J,ol,d5],by rw[rn 22 J,x22];exact .nil,nofun⟩
 refine(Y9 (k:=Z.k) (N:=Z.N) (src:=Z.src) (len:=Z.len) (bt:=Z.bt) (S:=mU Z) (low:=Z.bB I) (m:=Z.H I) (l:=[]) Xv (by decide) { hdK with d:=?_ } (by rw[rn 2 J,jC,Oo]) (by rw[rn 3 J,hZ,cU]) (by rw[rn 4 J,u3,ve]) (by rw[rn 5 J,yn,ym]) ?_ sg).mono ?_
 ·rw[rn 6 J,Jn,Xx];exact(eZ.T Uk (ed:=0) (da:=n8) (λd h1 M=>by rw[aq J,aq J,zR d J,gO d J J,hz d J,aq J,hi d J,aq J]) J J).rd
 ·rw[UR];exact(hS0.wid (ed:=0) (da:=n8) (λd h1 M=>by rw[aq J,aq J]) J (cB _)).rd
 rintro _ hR ov ⟨rfl,dG,ck,XA,hQ,hf9,ayS⟩;have aA2:∀d,d<n8->d≠P->u hR d=u h7 d:=λd h1 M=>by rw[hf9 d h1 M (nofun),aq M,aq M]
 refine fin hR ov _ (some ck) _ J (λd h1 M=>by rw[aA2 d J M,zR d J]) (λn h1 M=>by rw[dN h1,dN J];exact rn n J) XA (λb e=>by cases e;omega) (λe=>absurd rfl e) λ_=>⟨?_,⟨n8,λb e=>(by cases e;exact hQ),ayS,?_⟩,λn h1 M=>?_,rfl⟩
 ·rw[dN J,zo]
 ·rw[dN J,dN J,dN J,dN J,dN J,dN J,dN J,dN J,dN J,dN J,M0];exact hS0.wid (λd h1 M=>aA2 d M J) (cB _) (cB _)
 ·rw[dN J,dN J,dN J,dN J];exact bk n h1 M
def b5.e1(Z:b5):jM:=⟨Z.k,Z.N,Z.src,Z.len,λb=>iW Z.bt Z.N b,Z.af,Z.lim⟩
def b5.jG(Z:b5)(t i:Nat):Int:=(q9 Z.k Z.len t (Z.H i) (cF (Z.H i) λk=>(Z.e1.st t).A (Z.bB i+k)) (λk=>(Z.e1.st t).q (Z.bB i+k)):Int)
def b5.gn(Z:b5)(t:Nat):Int:=wV false (decide (∃i,i<Z.R/\Z.jG t i≠0)) (t:Int) (Z.lim:Int)
def qf(Z:b5):cw->k0
 | .share i j t=>LL Z i t (Z.e1.x t) j
 | .spread i j t=>R3 Z j t (Z.e1.x t) i
 | .dw i j t=>⟨3,((i*Z.C+j:Nat):Int),((i*Z.C+0:Nat):Int),t,0,[],bn (Z.H i) (iU (fh Z.k t) (Z.cut i j) λk=>Z.e1.x t (Z.lc j+k)),0,false⟩
 | .dx i t=>⟨4,((i*Z.C+0:Nat):Int),0,t,0,[],[],Z.jG t i,false⟩
 | .order i t=>ub Z t (Z.gn t) i
def b5.v8(Z:b5)(t i:Nat)(dV:Nat->ak)(v:Nat):av Int:=Be (fh Z.k t) Z.af (Z.e1.x t) (Z.bB i) (Z.H i) Z.C Z.lc dV (v-Z.bB i)
structure ME (Z:b5) (aw:Nat) (x:gy) (i:Nat) (g h:ad) (U:Nat) (c:Nat->X) (so:av Nat) (bZ:Nat):Prop where
 Fe:c 26 = ((x.a i-1:Nat):X)
 Cc:c 27 = .int .i64 (if x.a i=0 then 0 else Z.gn (x.a i-1))
 NU:c 38 = .bool (x.w i)
 NV:c 39 = .bool (decide (0<x.a i))
 has:jK g U (.agg ⟨[c 28,c 29,c 30,c 31,c 32]⟩) (Z.bB i) (Z.H i) (Z.e1.st (x.a i-1))
 WH:jK g U (.agg ⟨[c 33,c 34,c 35,c 36,c 37]⟩) (Z.bB i) (Z.H i) (Z.e1.st (if x.w i=true then x.a i else x.a i-1))
 m2:x.w i=true->c 40 = .slice none 0 0/\so=none
 m3:x.w i=false->x.a i<=aw->i1 h bZ Z.C (x.dV i) (λ_ v=>v = .bool true)/\nw h (c 40) (bn (Z.H i) λk=>Z.v8 (x.a i) i (x.dV i) (Z.bB i+k)) so
theorem ME.T{Z:b5}{aw:Nat}{x fY:gy}{i:Nat}{g h cb ac:ad}{U Y:Nat}{c bL:Nat->X}{so:av Nat}{bZ:Nat}(M:ME Z aw x i g h U c so bZ)(D:fY.a i=x.a i)(L:fY.w i=x.w i)(I:fY.dV i=x.dV i)(B:∀n,26<=n->n<41->bL n=c n)(K:az U g cb)(E:U<=Y)(h1:u ac bZ=u h bZ)(al:∀b,so=some b->u ac b=u h b):ME Z aw fY i cb ac Y bL so bZ:=by
 refine⟨?_,?_,?_,?_,?_,?_,λe=>?_,λe aJ=>?_⟩
 ·rw[B 26 J J,D];exact M.Fe
 ·rw[B 27 J J,D];exact M.Cc
 ·rw[B 38 J J,L];exact M.NU
 ·rw[B 39 J J,D];exact M.NV
 ·rw[B 28 J J,B 29 J J,B 30 J J,B 31 J J,B 32 J J,D];exact hP.T M.has K E
 ·rw[B 33 J J,B 34 J J,B 35 J J,B 36 J J,B 37 J J,D,L];exact hP.T M.WH K E
 ·rw[B 40 J J];exact M.m2 ab
 ·rw[B 40 J J,I,D];obtain⟨c4,P⟩:=M.m3 ab J;exact⟨c4.T h1 ab,P.T al⟩
structure j0 (Z:b5) (aw:Nat) (x:gy) (i j:Nat) (own:Nat->Nat) (g h:ad) (U aK:Nat) (c:Nat->X) (l:aa eE) (aP so:av Nat) (bz bZ cA:Nat):Prop where
 W:e0 h U aK c i j Z.C l aP
 z:kv g U c Z i j
 p:own aK=i*Z.C+j+1
 b:∀b,aP=some b->own b=i*Z.C+j+1
 f:k5 g 0 U l ((x.out (i*Z.C+j)).map (qf Z))
 dJ:bz<U/\own bz=i*Z.C+j+1/\bz≠aK/\aP≠some bz/\so≠some bz
 gg:bZ<U/\own bZ=i*Z.C+j+1/\bZ≠aK/\aP≠some bZ/\so≠some bZ
 jE:cA<U/\own cA=i*Z.C+j+1/\cA≠aK/\aP≠some cA/\so≠some cA
 ne:bz≠bZ/\bz≠cA/\bZ≠cA
 s:∀b,so=some b->b<U/\own b=i*Z.C+j+1/\b≠aK/\aP≠some b
 pH:c 24 = .map (some bz)
 mT:c 41 = .map (some bZ)
 sA:c 43 = .map (some cA)
 sv:c 25 = ((x.q i j+1:Nat):X)
 top:i=0->c 23 = ((x.P j+1:Nat):X)/\i1 h bz Z.R (x.e7 j) (tF g 0 U Z j (Z.e1.x (x.P j+1)))
 o:j=0->ME Z aw x i g h U c so bZ
 m4:∃es cL,u h bZ=some (.map es cL)
 one:i=0->j=0->c 42 = (x.V:X)/\c 44 = .bool (decide (aw<x.V))/\i1 h cA Z.R x.f5 (I6 (Z.jG x.V))
theorem xc{dy:Nat}{own:Nat->Nat}{h ac:ad}{U Y:Nat}(aP so:av Nat)(B:U<=Y)(same:∀d,d<U->own d≠dy->u ac d=u h d):
  ∃c9 cb,jO c9 ac Y cb/\E9 dy own c9 h ac U Y/\(∀d,U<=d->(aP=some d\/so=some d)->c9 d=dy)/\(∀d,U<=d->aP≠some d->so≠some d->c9 d=0):=by
 obtain⟨cb,D⟩:=DN (λd=>if d<U then own d else if aP=some d\/so=some d then dy else 0) ac Y;refine⟨_,cb,D,⟨B,same,ab,ab⟩,ab,ab⟩
 all_goals grind
def Ff(Z:b5)(aw:Nat)(x:gy)(m:cw)(i j:Nat)(own:Nat->Nat)(h:ad)(U aK bz bZ cA:Nat):bD:=λr ac Y=>r = .bool true/\∃c9 cb bL cc hj sz,j0 Z aw (cT Z.R Z.C aw x m) i j c9 cb ac Y aK bL cc hj sz bz bZ cA/\jO c9 ac Y cb/\E9 (i*Z.C+j+1) own c9 h ac U Y
section
variable {s:ak} {g h:ad} {U aK i j ao aw t:Nat} {c:Nat->X} {l:aa eE} {aP so:av Nat} {Z:b5} {own:Nat->Nat} {x:gy} {bz bZ cA:Nat}
theorem j0.WI(R:j0 Z aw x i j own g h U aK c l aP so bz bZ cA)(B:jO own h U g):sy g h U aK:=⟨B.sub,by rw[B aK,if_neg (by have:=R.p;omega)],λd D=>by rw[B d,if_neg J]⟩
theorem jO.En{dy d:Nat}(B:jO own h U g)(E:own d=dy)(D:dy≠0):u g d=none:=by rw[B d,if_neg J]
theorem apw{x:Nat->av Int}(h:∀g∈af,x g.t=y g.t):iU r af x=iU r af y:=by
 funext v
 unfold iU;rw[qO λg B=>by rw[h g B]]
theorem ai7{f:eE}{p:k0}{x:Nat->av Int}(K:gj Z)(W:e0 h U aK c i j Z.C l aP)(H:kv h U c Z i j)(bg:l.length<900)(bx:nl h U f p)(M:t<900)(g1:p.mq=bn (Z.W j) x)(ej:p.mr=(Z.W j:Int))(mZ:p.round=(t:Int))(E:c 25 = (t:X))(ai:i<Z.R)(aR:∀i y,i<Z.W j->x i=some y->0<=y/\y<=eB):
  aD Q s 134 [bb aK,.agg ⟨ef f⟩,.agg ⟨[.int .i64 0,(j:X)]⟩] h U (λr ac Y=>r = .bool true/\∃dG D I,e0 ac Y aK (hK (hK c 25 (((t+1:Nat):X))) 22 dG) i j Z.C (l++[I]) (some D) /\
   tE ac U D I ⟨3,((i*Z.C+j:Nat):Int),((i*Z.C+0:Nat):Int),t,0,[],bn (Z.H i) (iU (fh Z.k t) (Z.cut i j) x),0,false⟩/\U<=D/\(∀d,d<U->d≠aK->aP≠some d->u ac d=u h d)/\U<=Y):=by
 have e:∀k,k<Z.W j->(λk=>if k<Z.W j then x k else none) k=x k:=λk hk=>if_pos hk;have L:=ai3 (s:=s) (x:=λk=>if k<Z.W j then x k else none) K W H bg bx M (by rw[g1];exact(y7 e).symm) ej mZ E ai λk y B=>by
  have B:(if k<Z.W j then x k else none)=some y:=B
  split at B
  ·exact aR k y J B
  ·cases B
 rw[apw λg P=>e g.t ((afJ K).mF g P)]at L;exact L
theorem j0.spread{f:eE}(K:gj Z)(R:j0 Z aw x i j own g h U aK c l aP so bz bZ cA)(P:jO own h U g)(aR:np Z.R Z.C aw x (.spread i j t))(eH:aw<900)(dZ:∀v y,v<Z.N->Z.e1.x t v=some y->0<=y/\y<=eB)(bx:lX h ao U f (qf Z (.spread i j t)))(bg:(x.out (i*Z.C+j)).length<800):
  aD Q s 63 [bb aK,.agg ⟨ef f⟩] h U (Ff Z aw x (.spread i j t) i j own h U aK bz bZ cA):=by
 obtain⟨ai,bM,cy,uK⟩:=aR;have gA:=R.f.len;rw[g5]at gA;refine GG (l1:=2)   R.W R.z.gO K.ot bx.is.md (by rw[bx.is.e5,mx,ix];rfl) J bM bx.is.kind J λM a6 L E=>?_;have oo:e0 M a6 aK c i j Z.C l aP:=R.W.T (λd bu=>L d (bu.elim (λe=>e ▸ R.W.lt) λe=>(R.W.aP d e).2)) E;refine(ai7   K oo ((R.z.sub P.sub).T L E) J (bx.is.T L E) J rfl rfl rfl (by rw[R.sv,cy]) ai λk y hk=>dZ _ _ (by have:=D1 K j;unfold b5.W at hk;omega)).mono ?_;rintro _ ac Y ⟨rfl,dG,ck,mo,dl,he,hQ,k6,xA⟩;have oL:∀d,d<U->d≠aK->aP≠some d->u ac d=u h d:=λd M I aM=>(k6 d J I aM).trans (L d M);obtain⟨c9,cb,fA,D,ru,mJ⟩:=xc      (Y:=Y) (some ck) none J λd M I=>oL d M (λe=>I (by rw[e,R.p])) λe=>I (R.b d e);have gD:=P.T fA D J;have fa:=(dl.aP ck rfl).2;obtain⟨aY,aJ,ce,eC,gP,g1,gO,sK,jj,NN⟩:=Km;have aU:∀n,n≠22->n≠25->hK (hK c 25 (((t+1:Nat):X))) 22 dG n=c n:=λn M I=>by rw[dN M,dN I]
 have B:U<=Y:=J
 obtain⟨ax,a2,a3,aV,bl⟩:=R.dJ;obtain⟨de,bO,d6,fQ,g3⟩:=R.gg;obtain⟨fv,fF,ir,oq,sO⟩:=R.jE;refine⟨rfl,c9,cb,hK (hK c 25 (((t+1:Nat):X))) 22 dG,l++[mo],some ck,so,⟨dl,(R.z.set ab).T gD B,(D.d8 aK R.W.lt).trans R.p,ab,?_,
  ⟨J,(D.d8 bz ax).trans a2,a3,ab,bl⟩,⟨J,(D.d8 bZ de).trans bO,d6,ab,g3⟩,⟨J,(D.d8 cA fv).trans fF,ir,ab,sO⟩,R.ne,λb e=>?_,(aU 24 J J).trans R.pH,(aU 41 J J).trans R.mT,(aU 43 J J).trans R.sA,?_,λap=>?_,λap=>?_,?_,λap M=>?_⟩,fA,D⟩
 ·have gY:(cT Z.R Z.C aw x (.spread i j t)).out (i*Z.C+j)=x.out (i*Z.C+j)++[.dw i j t]:=by show up x.out (i*Z.C+j) (x.out (i*Z.C+j)++d1 Z.R Z.C aw x (.spread i j t)) (i*Z.C+j)=_;rw[hx,NN]
  rw[gY,hN];exact(R.f.T (λb _ I=>gD b I) J B).app ⟨he.T (fA.new J ab) J J,trivial⟩
 ·obtain⟨c4,eK,gX,lf⟩:=R.s b e;exact⟨J,(D.d8 b c4).trans eK,gX,ab⟩
 ·rw[sK,<-cy,dN J,zo]
 ·obtain⟨c4,eK⟩:=R.top ap;exact⟨ab,eK.T ab λi v aI=>lJ.T aI (λb _ I=>gD b I) J B⟩
 ·exact(R.o ap).T ab ab ab ab gD B ab λb e=>by obtain⟨cj,ml,oc,cS⟩:=R.s b e;grind
 ·obtain⟨es,cL,q⟩:=R.m4
  grind
 ·obtain⟨c4,eK,gX⟩:=R.one ap M;exact⟨ab,ab,gX.T ab λ_ _ h=>h⟩
end
theorem eZ.sub{l:aa aA}{g h:ad}{ao:Nat}(H:eZ g ao ai v enc l)(S:lx g h)(P:ed<=ao)(M:ai<=da):eZ h ed da v enc l:=by obtain⟨a,cap,e,H⟩:=H;refine⟨a,cap,e,λE=>?_⟩;obtain⟨b,I,B,c4,L,K,D⟩:=H E;exact⟨b,I,B,J,J,K,S _ _ D⟩
section
variable {s:ak} {g h:ad} {U aK i j ao aw t:Nat} {c:Nat->X} {l:aa eE} {aP so:av Nat} {Z:b5} {own:Nat->Nat} {x:gy} {bz bZ cA:Nat}
theorem j0.share{f:eE}{dP:Nat}(K:gj Z)(R:j0 Z aw x 0 j own g h U aK c l aP so bz bZ cA)(d7:jO own h U g)(aR:np Z.R Z.C aw x (.share dP j t))(eH:aw<900)(bx:lX h ao U f (qf Z (.share dP j t)))(bg:(x.out (0*Z.C+j)).length<800):
  aD Q s 63 [bb aK,.agg ⟨ef f⟩] h U (Ff Z aw x (.share dP j t) 0 j own h U aK bz bZ cA):=by
 have qp:=aR;obtain⟨ai,bM,cy,WJ,uK⟩:=aR;have gA:=R.f.len;rw[g5]at gA;obtain⟨Ul,MF⟩:=R.top rfl;obtain⟨ax,a2,a3,aV,bl⟩:=R.dJ;obtain⟨de,bO,d6,fQ,g3⟩:=R.gg;obtain⟨fv,fF,ir,oq,sO⟩:=R.jE;obtain⟨Fg,EH,BR⟩:=R.ne;refine GG (l1:=1)   R.W R.z.gO K.ot (by rw[bx.is.md,mx,ix];rfl) bx.is.e5 ai K.h0 bx.is.kind J λL a6 P M=>?_;have oo:e0 L a6 aK c 0 j Z.C l aP:=R.W.T (λd bu=>P d (bu.elim (λe=>e ▸ R.W.lt) λe=>(R.W.aP d e).2)) M;have G:=R.WI d7;have o9:sy g L a6 aK:=⟨G.sub λd bu _=>P d bu,G.p,λd bu=>G.n d J⟩
 rw[<-cy]at Ul MF;refine(akb    K oo o9 ((R.z.sub d7.sub).T P M) (by have:=K.ot;omega) J (bx.is.T P M) rfl rfl rfl Ul R.pH (MF.T (P bz ax) λi v aI=>lJ.T aI ab J M) ⟨J,a3,aV,d7.En a2 J⟩ ai WJ).mono ?_;rintro _ ac Y ⟨rfl,bL,hj,ds,B,wm,sx,k6,dl,q5⟩;have oL:∀d,d<U->d≠aK->d≠bz->aP≠some d->u ac d=u h d:=λd L al aM bc=>(k6 d J al aM bc).trans (P d L);have I:U<=Y:=J
 obtain⟨c9,cb,fA,D,ru,mJ⟩:=xc       hj none I λd L al=>oL d L (λe=>al (by rw[e,R.p])) ab λe=>al (R.b d e);have gD:=d7.T fA D J;obtain⟨_,aJ,ce,eC,gP,g1,gO,sK,jj⟩:=Kt qp;have gY:(cT Z.R Z.C aw x (.share dP j t)).out (0*Z.C+j)=x.out (0*Z.C+j)++d1 Z.R Z.C aw x (.share dP j t):=by rw[mx,ix];exact hx _ _ _
 have pE:∀b,so=some b->u ac b=u h b:=λb e=>by obtain⟨cj,ml,oc,cS⟩:=R.s b e;grind
 have zU:=oL bZ de d6 (kE Fg) fQ;have uY:=oL cA fv ir (kE EH) oq;have l5:lx g cb:=λd o bu=>by
  have L:d<U:=FI λL=>by rw[G.n d L]at bu;grind
  rw[gD d L];omega
 have ww:∃es cL,u ac bZ=some (.map es cL):=by
  obtain⟨es,cL,q⟩:=R.m4
  grind
 rcases q5 with⟨⟨k,hk,I8⟩,E,rfl,rfl,Fh⟩|⟨ps,E,h23,he,⟨cL,xQ⟩,ck,rfl,hQ⟩
 ·rcases jj with⟨q,_⟩|⟨_,mp,om,pS⟩
  ·have:=q k hk;rw[show up (x.e7 j) dP true k=_ from I8]at this;cases this
  refine⟨rfl,c9,cb,bL,l,hj,so,⟨by rw[hM]at dl;exact dl,(R.z.set ab).T gD I,(D.d8 aK R.W.lt).trans R.p,λb e=>(D.d8 b (R.W.aP b e).2).trans (R.b b e),by rw[gY,pS,hM];exact R.f.T (λb _ al=>gD b al) J I,
   ⟨J,(D.d8 bz ax).trans a2,a3,aV,bl⟩,⟨J,(D.d8 bZ de).trans bO,d6,fQ,g3⟩,⟨J,(D.d8 cA fv).trans fF,ir,oq,sO⟩,R.ne,λb e=>?_,(E 24).trans R.pH,(E 41).trans R.mT,(E 43).trans R.sA,by rw[E 25,aJ];exact R.sv,λ_=>⟨?_,?_⟩,λap=>(R.o ap).T ab ab ab ab gD I zU pE,ww,λ_ L=>?_⟩,fA,D⟩
  ·obtain⟨c4,eK,gX,lf⟩:=R.s b e;exact⟨J,(D.d8 b c4).trans eK,gX,lf⟩
  ·grind
  ·rw[mp,om,<-cy];refine Fh.T rfl λi v aI=>?_;rcases aI with⟨gW,e,aI⟩|⟨gW,e,aI⟩
   ·exact⟨gW,e,eZ.sub aI l5 J J⟩
   ·exact⟨gW,e,eZ.T aI (fA.new J λd L al=>mJ d J (λe=>by have:=(R.W.aP d e).2;omega) ab) J J⟩
  ·obtain⟨c4,eK,gX⟩:=R.one rfl L;rw[g1,gO];exact⟨ab,ab,gX.T uY λ_ _ h=>h⟩
 ·rcases jj with⟨_,mp,om,pS⟩|⟨q,_⟩
  case inr=>exact absurd (λk hk=>ps k hk) q
  refine⟨rfl,c9,cb,bL,l++ds,some ck,so,⟨dl,(R.z.set ab).T gD I,(D.d8 aK R.W.lt).trans R.p,ab,?_,
   ⟨J,(D.d8 bz ax).trans a2,a3,ab,bl⟩,⟨J,(D.d8 bZ de).trans bO,d6,ab,g3⟩,⟨J,(D.d8 cA fv).trans fF,ir,ab,sO⟩,R.ne,λb e=>?_,(E 24 J J).trans R.pH,(E 41 J J).trans R.mT,(E 43 J J).trans R.sA,by rw[E 25 J J,aJ];exact R.sv,λ_=>⟨?_,?_⟩,λap=>(R.o ap).T ab (congrFun gP 0) (congrFun eC 0) (λn L al=>E n J J) gD I zU pE,ww,λ_ L=>?_⟩,fA,D⟩
  ·rw[gY,pS,hN,pW];exact(R.f.T (λb _ al=>gD b al) (cB _) I).app (he.T (fA.new sx λd L al=>mJ d J (λe=>ab) nofun) J sx)
  ·obtain⟨c4,eK,gX,lf⟩:=R.s b e;exact⟨J,(D.d8 b c4).trans eK,gX,λep=>ab⟩
  ·grind
  ·rw[om];exact i1.no xQ
  ·obtain⟨c4,eK,gX⟩:=R.one rfl L;rw[g1,gO];exact⟨(E 42 J J).trans c4,(E 44 J J).trans eK,gX.T uY λ_ _ h=>h⟩
end
section
variable {s:ak} {g h:ad} {U aK i j ao aw t:Nat} {c:Nat->X} {l:aa eE} {aP so:av Nat} {Z:b5} {own:Nat->Nat} {x:gy} {bz bZ cA:Nat}
theorem j0.dx{f:eE}{dP:Nat}(K:gj Z)(R:j0 Z aw x 0 0 own g h U aK c l aP so bz bZ cA)(d7:jO own h U g)(aR:np Z.R Z.C aw x (.dx dP t))(eH:aw<900)(MG:∀t,t<=aw->(Z.gn t=0↔t<aw))(bx:lX h ao U f (qf Z (.dx dP t)))(bg:(x.out (0*Z.C+0)).length<800):
  aD Q s 63 [bb aK,.agg ⟨ef f⟩] h U (Ff Z aw x (.dx dP t) 0 0 own h U aK bz bZ cA):=by
 have qp:=aR;obtain⟨ai,cy,WJ,uK⟩:=aR;have gA:=R.f.len;rw[g5]at gA;obtain⟨Ea,Bp,ahU⟩:=R.one rfl rfl;obtain⟨ax,a2,a3,aV,bl⟩:=R.dJ;obtain⟨de,bO,d6,fQ,g3⟩:=R.gg;obtain⟨fv,fF,ir,oq,sO⟩:=R.jE;obtain⟨Fg,EH,BR⟩:=R.ne;refine GG (l1:=4)   R.W R.z.gO K.ot (by rw[bx.is.md,mx,ix];rfl) bx.is.e5 ai K.h0 bx.is.kind J λh1 a6 eT fp=>?_;have oo:e0 h1 a6 aK c 0 0 Z.C l aP:=R.W.T (λd bu=>eT d (bu.elim (λe=>e ▸ R.W.lt) λe=>(R.W.aP d e).2)) fp;rw[<-cy]at Ea Bp ahU;rw[f9 J]at Bp;refine(al9  (jG:=Z.jG t)  K oo R.z.gO R.z.jj (by have:=K.ot;omega) J bx.is.round bx.is.oO bx.is.n Ea R.sA Bp (ahU.T (eT cA fv) λ_ _ h=>h) ab ai WJ).mono ?_;rintro _ ac Y ⟨rfl,bL,hj,ds,B,wm,sx,k6,dl,q5⟩;have P:∀d,d<U->d≠aK->d≠cA->aP≠some d->u ac d=u h d:=λd h1 L aM bc=>(k6 d J L aM bc).trans (eT d h1);have E:U<=Y:=J
 obtain⟨c9,cb,fA,D,ru,mJ⟩:=xc       hj none E λd h1 L=>P d h1 (λe=>L (by rw[e,R.p])) ab λe=>L (R.b d e);have gD:=d7.T fA D J;obtain⟨_,aY,aJ,ce,eC,gP,g1,jj⟩:=Kw qp;have gY:(cT Z.R Z.C aw x (.dx dP t)).out (0*Z.C+0)=x.out (0*Z.C+0)++d1 Z.R Z.C aw x (.dx dP t):=by rw[mx,ix];show up x.out 0 (x.out 0++d1 Z.R Z.C aw x (.dx dP t)) 0=_;rw[hx]
 have pE:∀b,so=some b->u ac b=u h b:=λb e=>by obtain⟨cj,ml,oc,cS⟩:=R.s b e;grind
 have zU:=P bZ de d6 BR fQ;have BK:=P bz ax a3 EH aV;have ww:∃es cL,u ac bZ=some (.map es cL):=by
  obtain⟨es,cL,q⟩:=R.m4
  grind
 obtain⟨Ul,MF⟩:=R.top rfl;have M:i1 ac bz Z.R (x.e7 0) (tF cb 0 Y Z 0 (Z.e1.x (x.P 0+1))):=MF.T BK λi v aI=>lJ.T aI (λb _ L=>gD b L) J E;rcases q5 with⟨⟨k,hk,I8⟩,I,rfl,rfl,Fh⟩|⟨ps,I,st,i0,h42,h44,he,⟨cL,xQ⟩,ck,rfl,hQ⟩
 ·rcases jj with⟨q,_⟩|⟨_,mp,om,pS⟩
  ·have:=q k hk;rw[show up x.f5 dP true k=_ from I8]at this;cases this
  refine⟨rfl,c9,cb,bL,l,hj,so,⟨by rw[hM]at dl;exact dl,(R.z.set ab).T gD E,(D.d8 aK R.W.lt).trans R.p,λb e=>(D.d8 b (R.W.aP b e).2).trans (R.b b e),by rw[gY,pS,hM];exact R.f.T (λb _ L=>gD b L) J E,
   ⟨J,(D.d8 bz ax).trans a2,a3,aV,bl⟩,⟨J,(D.d8 bZ de).trans bO,d6,fQ,g3⟩,⟨J,(D.d8 cA fv).trans fF,ir,oq,sO⟩,R.ne,λb e=>?_,(I 24).trans R.pH,(I 41).trans R.mT,(I 43).trans R.sA,by rw[I 25,ce];exact R.sv,λ_=>⟨ab,by rw[aY,aJ];exact M⟩,λap=>(R.o ap).T ab ab ab ab gD E zU pE,ww,λ_ _=>?_⟩,fA,D⟩
  ·obtain⟨c4,eK,gX,lf⟩:=R.s b e;exact⟨J,(D.d8 b c4).trans eK,gX,lf⟩
  ·rw[mp,om,<-cy];exact⟨ab,ab,Fh⟩
 ·rcases jj with⟨_,mp,om,pS⟩|⟨q,_⟩
  case inr=>exact absurd (λk hk=>ps k hk) q
  have ayT:st=Z.gn t:=i0;subst ayT;refine⟨rfl,c9,cb,bL,l++ds,some ck,so,⟨dl,(R.z.set ab).T gD E,(D.d8 aK R.W.lt).trans R.p,ab,?_,
   ⟨J,(D.d8 bz ax).trans a2,a3,ab,bl⟩,⟨J,(D.d8 bZ de).trans bO,d6,ab,g3⟩,⟨J,(D.d8 cA fv).trans fF,ir,ab,sO⟩,R.ne,λb e=>?_,(I 24 J J J).trans R.pH,(I 41 J J J).trans R.mT,(I 43 J J J).trans R.sA,by rw[I 25 J J J,ce];exact R.sv,λ_=>⟨ab,by rw[aY,aJ];exact M⟩,λap=>(R.o ap).T (congrFun eC 0) (congrFun g1 0) (congrFun gP 0) (λn h1 L=>I n J J J) gD E zU pE,ww,λ_ _=>?_⟩,fA,D⟩
  ·rw[gY,pS,hN,pW];exact(R.f.T (λb _ L=>gD b L) (cB _) E).app (he.T (fA.new sx λd h1 L=>mJ d J (λe=>ab) nofun) J sx)
  ·obtain⟨c4,eK,gX,lf⟩:=R.s b e;exact⟨J,(D.d8 b c4).trans eK,gX,λep=>ab⟩
  ·rw[mp,om,<-cy];refine⟨h42,?_,i1.no xQ⟩
   grind
end
structure XC (Z:b5) (t:Nat):Prop where
 c:∀i dV v y,Z.v8 t i dV v=some y->0<=y/\y<=eB
 b:∀i j v y,iU (fh Z.k t) (Z.cut i j) (λk=>Z.e1.x t (Z.lc j+k)) v=some y->0<=y/\y<=eB
theorem R6{Z:b5}{t i j:Nat}(B:j<Z.C)(D:dV j=false)(v:Nat):Z.v8 t i (λk=>if k=j then true else dV k) v=e3 (fh Z.k t) (Z.v8 t i dV v) (iU (fh Z.k t) (Z.cut i j) (λk=>Z.e1.x t (Z.lc j+k)) (v-Z.bB i)):=aoq B D _
theorem ayU(Z:b5):Z.lc 0=0:=by unfold b5.lc c6;simp
theorem ayV{Z:b5}(K:gj Z):Z.lc Z.C=Z.N:=by unfold b5.lc c6;rw[Nat.min_self];exact OJ _ K.h0
theorem apx{Z:b5}(K:gj Z){t i:Nat}(E:∀j,j<Z.C->dV j=true)(D:k<Z.H i):Z.v8 t i dV (Z.bB i+k)=iU (fh Z.k t) Z.af (Z.e1.x t) (Z.bB i+k):=by unfold b5.v8;rw[OI];exact alp  (λa b h=>vv h) (ayU Z) (ayV K) (λg B=>K.M.mF g B) E D
theorem auT{Z:b5}(K:gj Z){B:Nat}{v:Nat}(D:f2 v=iU (fh Z.k (B+1)) Z.af (Z.e1.x (B+1)) v):
  (uz Z.k (iW Z.bt Z.N ((B+1-1) / 2)) (B+1) (fh Z.k (B+1)) (Z.e1.st B) f2).A v=(Z.e1.st (B+1)).A v/\(uz Z.k (iW Z.bt Z.N ((B+1-1) / 2)) (B+1) (fh Z.k (B+1)) (Z.e1.st B) f2).B v=(Z.e1.st (B+1)).B v/\(uz Z.k (iW Z.bt Z.N ((B+1-1) / 2)) (B+1) (fh Z.k (B+1)) (Z.e1.st B) f2).q v=(Z.e1.st (B+1)).q v:=by unfold uz;simp only[D];exact⟨rfl,rfl,rfl⟩
theorem awR{n:Nat}{p:Nat->ak}(h:∀k,k<n->p k=q k):eU n p=eU n q:=by unfold eU;rw[DE h]
theorem asS{k round:Int}{m:Nat}{p:Nat->ak}(h:∀k,k<m->p k=q k):q9 k len round m A p=q9 k len round m A q:=by
 have:er m p=er m q:=by exact J3 ab
 unfold q9
 grind
theorem hP.ext{h:ad}{U:Nat}{ao ai:Int}{n:Nat}{B D E:aa Int}{p:Nat->ak}(H:hP h U v ao ai n A B p)(M:A=D)(dZ:B=E)(I:∀k,k<n->p k=q k):hP h U v ao ai n D E q:=by obtain⟨L,P,K,e,a,b,c⟩:=H;rw[awR I]at c;subst M dZ;exact⟨L,P,K,e,a,b,c⟩
section
variable {s:ak} {g h:ad} {U aK i j ao aw t:Nat} {c:Nat->X} {l:aa eE} {aP so:av Nat} {Z:b5} {own:Nat->Nat} {x:gy} {bz bZ cA:Nat}
theorem j0.dw{f:eE}{iJ:Nat}(K:gj Z)(R:j0 Z aw x i 0 own g h U aK c l aP so bz bZ cA)(d7:jO own h U g)(aR:np Z.R Z.C aw x (.dw i iJ t))(eH:aw<900)(MG:∀t,t<=aw->(Z.gn t=0↔t<aw))(B:XC Z t)(bx:lX h ao U f (qf Z (.dw i iJ t)))(bg:(x.out (i*Z.C+0)).length<800):
  aD Q s 63 [bb aK,.agg ⟨ef f⟩] h U (Ff Z aw x (.dw i iJ t) i 0 own h U aK bz bZ cA):=by
 have qp:=aR;obtain⟨ai,bM,bN,cy,h1,uK,NW⟩:=aR;have gA:=R.f.len;rw[g5]at gA;have O:=R.o rfl;obtain⟨m3a,m3b⟩:=O.m3 bN J;obtain⟨ax,a2,a3,aV,bl⟩:=R.dJ;obtain⟨de,bO,d6,fQ,g3⟩:=R.gg;obtain⟨fv,fF,ir,oq,sO⟩:=R.jE;obtain⟨Fg,EH,BR⟩:=R.ne;refine GG (l1:=3)   R.W R.z.gO K.ot bx.is.md bx.is.e5 ai bM bx.is.kind J λzO a6 eT P=>?_;have oo:e0 zO a6 aK c i 0 Z.C l aP:=R.W.T (λd bu=>eT d (bu.elim (λe=>e ▸ R.W.lt) λe=>(R.W.aP d e).2)) P;have G:=R.WI d7;have o9:sy g zO a6 aK:=⟨G.sub λd bu _=>eT d bu,G.p,λd bu=>G.n d J⟩
 rw[<-cy]at m3b;have j1:=O.has;rw[<-cy]at j1;refine(ai6     (y:=λv=>iU (fh Z.k t) (Z.cut i iJ) (λk=>Z.e1.x t (Z.lc iJ+k)) (v-Z.bB i))   K oo o9 (R.z.T aC P) J ai h1 J (bx.T (λb _ al=>eT b al) (cB _) P) rfl (y7 ab) (λv y=>B.c _ _ v y) (λv y=>B.b _ _ _ y) (λv y ca=>B.c i (λk=>if k=iJ then true else x.dV i k) v y (by rw[R6 bM NW];omega))
  (hP.T j1 aC P) (m3b.T λb e=>eT b (R.s b e).1) (λb e=>by obtain⟨cj,ml,oc,cS⟩:=R.s b e;grind) (by rw[O.Fe,cy]) (by rw[O.Cc,if_neg J,(MG (x.a i-1) J).2 J]) (by rw[O.NU,bN]) R.mT (m3a.T (eT bZ de) ab) ⟨J,d6,fQ,d7.En bO J⟩ bM NW).mono ?_
 rintro _ ac Y ⟨rfl,bL,hj,sz,ds,Fh,xA,k6,dl,Uh,q5⟩;have oL:∀d,d<U->d≠aK->d≠bZ->aP≠some d->u ac d=u h d:=λd h1 al aM bc=>(k6 d J al aM bc).trans (eT d h1);have I:U<=Y:=J
 obtain⟨c9,cb,fA,D,ru,mJ⟩:=xc       hj sz I λd h1 al=>oL d h1 (λe=>al (by rw[e,R.p])) ab λe=>al (R.b d e);have gD:=d7.T fA D J;obtain⟨_,aY,aJ,ce,eC,gP,g1,_,jj⟩:=Kl qp;have gY:(cT Z.R Z.C aw x (.dw i iJ t)).out (i*Z.C+0)=x.out (i*Z.C+0)++d1 Z.R Z.C aw x (.dw i iJ t):=by show up x.out (i*Z.C) (x.out (i*Z.C)++d1 Z.R Z.C aw x (.dw i iJ t)) (i*Z.C)=_;rw[hx];rfl
 have BK:=oL bz ax a3 Fg aV;have uY:=oL cA fv ir (kE BR) oq;have ahV:∀bL:Nat->X,bL 23=c 23->i=0->bL 23 = (((cT Z.R Z.C aw x (.dw i iJ t)).P 0+1:Nat):X)/\i1 ac bz Z.R ((cT Z.R Z.C aw x (.dw i iJ t)).e7 0) (tF cb 0 Y Z 0 (Z.e1.x ((cT Z.R Z.C aw x (.dw i iJ t)).P 0+1))):=λbL e ap=>by obtain⟨t1,t2⟩:=R.top ap;rw[aY,aJ,e];exact⟨t1,t2.T BK λi v aI=>lJ.T aI (λb _ al=>gD b al) J I⟩
 have ahW:∀bL:Nat->X,bL 42=c 42->bL 44=c 44->i=0->(0:Nat)=0->bL 42 = .int .i64 ((cT Z.R Z.C aw x (.dw i iJ t)).V:Int)/\bL 44 = .bool (decide (aw<(cT Z.R Z.C aw x (.dw i iJ t)).V))/\i1 ac cA Z.R (cT Z.R Z.C aw x (.dw i iJ t)).f5 (I6 (Z.jG (cT Z.R Z.C aw x (.dw i iJ t)).V)):=λbL c4 eK ap h1=>by obtain⟨t1,t2,t3⟩:=R.one ap h1;rw[gP,g1,c4,eK];exact⟨t1,t2,t3.T uY λ_ _ h=>h⟩
 have ww:∃es cL,u ac bZ=some (.map es cL):=by obtain⟨L,cL,q,_,_⟩:=Fh.ex;exact⟨_,cL,q.at_⟩
 have g9:(cT Z.R Z.C aw x (.dw i iJ t)).a i=t:=ab
 rcases q5 with⟨⟨k,hk,I8⟩,E,rfl,rfl,hO'⟩|⟨ps,E,h38,z0,rfl,ck,k1,rfl,Ws,hQ,hSt,rfl⟩
 ·rcases jj with⟨q,_⟩|⟨_,mp,om,pS⟩
  ·have:=q k hk;rw[show up (x.dV i) iJ true k=_ from I8]at this;cases this
  refine⟨rfl,c9,cb,bL,l,hj,sz,⟨by rw[hM]at dl;exact dl,(R.z.set λn _ _=>E n J).T gD I,(D.d8 aK R.W.lt).trans R.p,λb e=>(D.d8 b (R.W.aP b e).2).trans (R.b b e),by rw[gY,pS,hM];exact R.f.T (λb _ al=>gD b al) (cB _) I,
   ⟨J,(D.d8 bz ax).trans a2,a3,aV,λe=>ab⟩,⟨J,(D.d8 bZ de).trans bO,d6,fQ,λe=>ab⟩,⟨J,(D.d8 cA fv).trans fF,ir,oq,λe=>ab⟩,R.ne,λb e=>?_,(E 24 J).trans R.pH,(E 41 J).trans R.mT,(E 43 J).trans R.sA,by rw[E 25 J,ce];exact R.sv,ahV bL (E 23 J),λap=>⟨?_,?_,?_,?_,?_,?_,λe=>?_,λ_ _=>?_⟩,ww,ahW bL (E 42 J) (E 44 J)⟩,fA,D⟩
  ·have:=R.W.lt
   grind
  ·rw[E 26 J,eC];exact O.Fe
  ·rw[E 27 J,eC];exact O.Cc
  ·rw[E 38 J,mp,O.NU,bN]
  ·rw[E 39 J,eC];exact O.NV
  ·rw[E 28 J,E 29 J,E 30 J,E 31 J,E 32 J,eC];exact hP.T O.has gD I
  ·rw[E 33 J,E 34 J,E 35 J,E 36 J,E 37 J,eC,mp,<-bN];exact hP.T O.WH gD I
  ·grind
  ·rw[om,g9];refine⟨Fh,?_⟩;rw[show(bn (Z.H i) λk=>Z.v8 t i (up (x.dV i) iJ true) (Z.bB i+k))=bn (Z.H i) λk=>e3 (fh Z.k t) (Z.v8 t i (x.dV i) (Z.bB i+k)) (iU (fh Z.k t) (Z.cut i iJ) (λk=>Z.e1.x t (Z.lc iJ+k)) (Z.bB i+k-Z.bB i))from y7 λk _=>R6 bM NW _];exact hO'
 ·rcases jj with⟨_,e8,pS⟩|⟨q,_⟩
  case inr=>exact absurd (λk hk=>ps k hk) q
  have fa:=(dl.aP ck rfl).2;obtain⟨M,eb⟩:∃M,t=M+1:=⟨t-1,J⟩
  subst eb;have kg:∀k,k<Z.H i->k1.A (Z.bB i+k)=(Z.e1.st (M+1)).A (Z.bB i+k)/\k1.B (Z.bB i+k)=(Z.e1.st (M+1)).B (Z.bB i+k)/\k1.q (Z.bB i+k)=(Z.e1.st (M+1)).q (Z.bB i+k):=λk hk=>by rw[Ws];exact auT K (by rw[<-R6 bM NW];exact apx K ps hk)
  have hY:(cF (Z.H i) λk=>k1.A (Z.bB i+k))=cF (Z.H i) λk=>(Z.e1.st (M+1)).A (Z.bB i+k):=K2 λk hk=>(kg k hk).1;have dZ:(cF (Z.H i) λk=>k1.B (Z.bB i+k))=cF (Z.H i) λk=>(Z.e1.st (M+1)).B (Z.bB i+k):=K2 λk hk=>(kg k hk).2.1;have cU:(q9 Z.k Z.len ((M+1:Nat):Int) (Z.H i) (cF (Z.H i) λk=>k1.A (Z.bB i+k)) (λk=>k1.q (Z.bB i+k)):Int)=Z.jG (M+1) i:=by unfold b5.jG;rw[hY,asS λk hk=>(kg k hk).2.2]
  rw[cU]at dl;have oK:mb cb a6 ck (.agg ⟨[bL 33,bL 34,bL 35,bL 36,bL 37]⟩) (Z.bB i:Int) ((Z.bB i+Z.H i:Nat):Int) (Z.H i) (cF (Z.H i) λk=>k1.A (Z.bB i+k)) (cF (Z.H i) λk=>k1.B (Z.bB i+k)) (λk=>k1.q (Z.bB i+k)):=hSt.wid (fA.new J λd h1 al=>mJ d J (λe=>ab) (nofun)) (cB _) (cB _);refine⟨rfl,c9,cb,bL,_,some ck,none,⟨dl,(R.z.set λn h1 al=>E n J J J J).T gD I,(D.d8 aK R.W.lt).trans R.p,λb e=>ab,?_,
   ⟨J,(D.d8 bz ax).trans a2,a3,λe=>ab,nofun⟩,⟨J,(D.d8 bZ de).trans bO,d6,λe=>ab,nofun⟩,⟨J,(D.d8 cA fv).trans fF,ir,λe=>ab,nofun⟩,R.ne,(nofun),(E 24 J J J J).trans R.pH,(E 41 J J J J).trans R.mT,(E 43 J J J J).trans R.sA,by rw[E 25 J J J J,ce];exact R.sv,ahV bL (E 23 J J J J),λap=>⟨?_,?_,?_,?_,?_,?_,λ_=>⟨z0,rfl⟩,λe=>?_⟩,ww,ahW bL (E 42 J J J J) (E 44 J J J J)⟩,fA,D⟩
  ·rw[gY,pS,hN];exact(R.f.T (λb _ al=>gD b al) (cB _) I).app ⟨⟨rfl,rfl,rfl,rfl,rfl,xo,xo,rfl,rfl,rfl⟩,trivial⟩
  ·rw[E 26 J J J J,eC];exact O.Fe
  ·rw[E 27 J J J J,eC];exact O.Cc
  ·grind
  ·rw[E 39 J J J J,eC];exact O.NV
  ·rw[E 28 J J J J,E 29 J J J J,E 30 J J J J,E 31 J J J J,E 32 J J J J,eC];exact hP.T O.has gD I
  ·rw[e8,if_pos rfl,g9];exact hP.ext (mb.rd (oK.wid   (λ_ _ _=>rfl) J J)) hY dZ λk hk=>(kg k hk).2.2
  ·rw[e8]at e;cases e
end
theorem awS(Z:b5)(t:Nat):Z.gn t=0\/Z.gn t=1\/Z.gn t=2:=by
 unfold b5.gn wV
 grind
theorem asT(Z:b5)(t i:Nat):(bn (Z.H i) λk=>Z.v8 t i mc (Z.bB i+k))=[]:=
 List.eq_nil_iff_forall_not_mem.2 λp B=>by have h:=((kl  ).1 B).2;rw[show Z.v8 t i mc (Z.bB i+p.1)=none from aop _]at h;cases h
section
variable {s:ak} {g h:ad} {U aK i j ao aw t:Nat} {c:Nat->X} {l:aa eE} {aP so:av Nat} {Z:b5} {own:Nat->Nat} {x:gy} {bz bZ cA:Nat}
theorem j0.order{f:eE}(K:gj Z)(R:j0 Z aw x i 0 own g h U aK c l aP so bz bZ cA)(d7:jO own h U g)(aR:np Z.R Z.C aw x (.order i t))(eH:aw<900)(MG:∀t,t<=aw->(Z.gn t=0↔t<aw))(bx:lX h ao U f (qf Z (.order i t)))(bg:(x.out (i*Z.C+0)).length<800):
  aD Q s 63 [bb aK,.agg ⟨ef f⟩] h U (Ff Z aw x (.order i t) i 0 own h U aK bz bZ cA):=by
 have qp:=aR;obtain⟨ai,bN,cy,uK⟩:=aR;have gA:=R.f.len;rw[g5]at gA;have O:=R.o rfl;obtain⟨o40,oso⟩:=O.m2 bN;subst oso;obtain⟨ax,a2,a3,aV,bl⟩:=R.dJ;obtain⟨de,bO,d6,fQ,g3⟩:=R.gg;obtain⟨fv,fF,ir,oq,sO⟩:=R.jE;obtain⟨Fg,EH,BR⟩:=R.ne;obtain⟨es,cL,ww⟩:=R.m4;refine GG (l1:=5)   R.W R.z.gO K.ot bx.is.md (by rw[bx.is.e5,mx];rfl) J K.h0 bx.is.kind J λzO a6 eT I=>?_;have oo:e0 zO a6 aK c i 0 Z.C l aP:=R.W.T (λd bu=>eT d (bu.elim (λe=>e ▸ R.W.lt) λe=>(R.W.aP d e).2)) I;have G:=R.WI d7;have o9:sy g zO a6 aK:=⟨G.sub λd bu _=>eT d bu,G.p,λd bu=>G.n d J⟩
 have j1:=O.has;have hY:=O.WH;rw[if_pos bN]at hY;rw[<-cy]at j1 hY;refine(ai4   (st:=Z.gn t)   K oo o9 (R.z.T aC I) (by have:=K.m7;omega) ai J bx.is.round bx.is.n (awS Z t) (λL=>by rw[L]at j1 ⊢;exact hP.T j1 aC I) (hP.T hY aC I) (by rw[O.Fe,cy]) (by
   rw[O.Cc,<-cy]
   grind) (by rw[O.NU,bN]) (by rw[O.NV,cy]) R.mT ((eT bZ de).trans ww) ab).mono ?_
 rintro _ ac Y ⟨rfl,bL,hj,ds,B,P,z0,dl,he,wm,sx,mM,hmp,k6,xA⟩;have oL:∀d,d<U->d≠aK->(Z.gn t=0->d≠bZ)->aP≠some d->u ac d=u h d:=λd h1 al aM bc=>(k6 d J al aM bc).trans (eT d h1);have E:U<=Y:=J
 obtain⟨c9,cb,fA,D,ru,mJ⟩:=xc       hj none E λd h1 al=>oL d h1 (λe=>al (by rw[e,R.p])) ab λe=>al (R.b d e);have gD:=d7.T fA D J;obtain⟨aY,aJ,ce,gP,g1,_,_,g9,e8,rA,_,pS⟩:=Pr qp;have gY:(cT Z.R Z.C aw x (.order i t)).out (i*Z.C+0)=x.out (i*Z.C+0)++d1 Z.R Z.C aw x (.order i t):=by show up x.out (i*Z.C) (x.out (i*Z.C)++d1 Z.R Z.C aw x (.order i t)) (i*Z.C)=_;rw[hx];rfl
 have BK:=oL bz ax a3 (λ_=>Fg) aV;have uY:=oL cA fv ir (λ_=>kE BR) oq;have pQ:=P.a;have aI:=MG t uK;have M:(cT Z.R Z.C aw x (.order i t)).a i=t+1:=J
 refine⟨rfl,c9,cb,bL,l++ds,hj,none,⟨dl,(R.z.set ab).T gD E,(D.d8 aK R.W.lt).trans R.p,λb e=>?_,?_,
  ⟨J,(D.d8 bz ax).trans a2,a3,ab,J⟩,⟨J,(D.d8 bZ de).trans bO,d6,ab,J⟩,⟨J,(D.d8 cA fv).trans fF,ir,ab,J⟩,R.ne,ab,(pQ 24 J).trans R.pH,(pQ 41 J).trans R.mT,(pQ 43 J).trans R.sA,by rw[pQ 25 J,ce];exact R.sv,λL=>?_,λL=>⟨?_,?_,?_,?_,?_,?_,λe=>?_,λ_ dr=>?_⟩,?_,λL h1=>?_⟩,fA,D⟩
 ·rcases mM b e with q|q
  ·exact(D.d8 b (R.W.aP b q).2).trans (R.b b q)
  grind
 ·rw[gY,pS,hN];refine(R.f.T (λb _ al=>gD b al) (cB _) E).app ?_;have I9:=he.T (ed:=0)  (fA.new sx λd h1 al=>mJ d J (λe=>(mM d e).elim (λq=>by have:=(R.W.aP d q).2;omega) λq=>J) nofun) J sx
  by_cases h:t<aw
  ·rw[if_pos (aI.2 h)]at I9;rw[if_pos h,pW];exact I9
  ·rw[if_neg λe=>h (aI.1 e)]at I9;rw[if_neg h];exact I9
 ·obtain⟨t1,t2⟩:=R.top L;rw[aY,aJ,pQ 23 J];exact⟨t1,t2.T BK λi v aI=>lJ.T aI (λb _ al=>gD b al) (cB _) E⟩
 ·rw[M];exact P.r
 ·rw[M,if_neg J];exact P.s
 ·rw[e8];exact P.w
 ·rw[M,gz J];exact P.b
 ·rw[M,P.h 28 J J,P.h 29 J J,P.h 30 J J,P.h 31 J J,P.h 32 J J]
  by_cases L:t=0
  ·simp only[if_pos L];rw[L]at j1 ⊢;exact hP.T j1 gD E
  ·simp only[if_neg L];exact hP.T hY gD E
 ·rw[M,e8,pQ 33 J,pQ 34 J,pQ 35 J,pQ 36 J,pQ 37 J];exact hP.T hY gD E
 ·grind
 ·have L:Z.gn t=0:=aI.2 J;rw[rA,M,asT,z0,if_pos L];exact⟨i1.no (hmp L),.inl ⟨rfl,rfl,rfl⟩⟩
 ·grind
 ·obtain⟨t1,t2,t3⟩:=R.one L h1;rw[gP,g1,pQ 42 J,pQ 44 J];exact⟨t1,t2,t3.T uY λ_ _ h=>h⟩
end
section
variable {s:ak} {g cb h ac:ad} {U Y aK i j ao aw t dy:Nat} {c:Nat->X} {l:aa eE} {aP so:av Nat} {Z:b5} {own c9:Nat->Nat} {x fY:gy} {bz bZ cA:Nat}
theorem j0.other(R:j0 Z aw x i j own g h U aK c l aP so bz bZ cA)(B:U<=Y)(same:∀d,d<U->own d≠dy->u ac d=u h d)(K:∀d,d<U->c9 d=own d)(sJ:i*Z.C+j+1≠dy)(L:az U g cb)(eq:fY.q i j=x.q i j)(gY:fY.out (i*Z.C+j)=x.out (i*Z.C+j))(Fo:i=0->fY.P j=x.P j/\fY.e7 j=x.e7 j)(aF:j=0->fY.a i=x.a i/\fY.w i=x.w i/\fY.dV i=x.dV i)(aY:i=0->j=0->fY.V=x.V/\fY.f5=x.f5):j0 Z aw fY i j c9 cb ac Y aK c l aP so bz bZ cA:=by
 have P:∀d,d<U->own d=i*Z.C+j+1->u ac d=u h d:=ab
 have aG:∀b,aP=some b->b<U:=λb e=>(R.W.aP b e).2;obtain⟨ax,a2,a3,aV,bl⟩:=R.dJ;obtain⟨de,bO,d6,fQ,g3⟩:=R.gg;obtain⟨fv,fF,ir,oq,sO⟩:=R.jE;refine⟨R.W.T (λd bu=>bu.elim (λe=>by rw[e];exact P aK R.W.lt R.p) λe=>P d ab (R.b d e)) B,R.z.T L B,(K aK R.W.lt).trans R.p,λb e=>(K b (aG b e)).trans (R.b b e),by rw[gY];exact R.f.T (λb _ M=>L b M) J B,
  ab,ab,ab,R.ne,λb e=>?_,R.pH,R.mT,R.sA,by rw[eq];exact R.sv,λD=>?_,λD=>?_,?_,λD h1=>?_⟩
 ·obtain⟨E,I,gX,lf⟩:=R.s b e
  grind
 ·obtain⟨t1,t2⟩:=R.top D;obtain⟨E,I⟩:=Fo D;rw[E,I];exact⟨t1,t2.T ab λi v aI=>lJ.T aI (λb _ M=>L b M) J B⟩
 ·obtain⟨E,I,gX⟩:=aF D;exact(R.o D).T E I gX ab L B ab λb e=>P b (R.s b e).1 (R.s b e).2.1
 ·obtain⟨es,cL,q⟩:=R.m4
  grind
 ·obtain⟨t1,t2,t3⟩:=R.one D h1;obtain⟨E,I⟩:=aY D h1;rw[E,I];exact⟨t1,t2,t3.T ab λ_ _ h=>h⟩
theorem j0.gone{m:cw}{r:aa cw}(R:j0 Z aw x i j own g h U aK c l aP so bz bZ cA)(K:jO own h U g)(hm:x.out (i*Z.C+j)=m::r):
  ∃f D,l=f::D/\tE g 0 U f (qf Z m)/\aD Q s 62 [bb aK] h U (λP ac Y=>P = .tuple ⟨[]⟩/\Y=U/\∃bL,j0 Z aw { x with out:=up x.out (i*Z.C+j) r } i j own g ac U aK bL D aP so bz bZ cA/\jO own ac U g/\∀d,d<U->own d≠i*Z.C+j+1->u ac d=u h d):=by
 have E:=R.f;rw[hm]at E;cases l with
 |nil=>exact E.elim
 |cons f D =>
  refine⟨f,D,rfl,E.1,(apq R.W rfl).mono ?_⟩;rintro _ ac _ ⟨rfl,dG,dl,L,rfl⟩;obtain⟨ax,a2,a3,aV,bl⟩:=R.dJ;obtain⟨de,bO,d6,fQ,g3⟩:=R.gg;obtain⟨fv,fF,ir,oq,sO⟩:=R.jE;have I:∀n,n≠22->hK c 22 dG n=c n:=λn bm=>dN bm;have bv:=R.p;refine⟨rfl,rfl,_,⟨dl,R.z.set ab,R.p,R.b,?_,R.dJ,R.gg,R.jE,R.ne,R.s,(I 24 J).trans R.pH,(I 41 J).trans R.mT,(I 43 J).trans R.sA,(I 25 J).trans R.sv,λB=>?_,λB=>?_,?_,λB h1=>?_⟩,λd=>?_,ab⟩
  ·rw[show({ x with out:=up x.out (i*Z.C+j) r }:gy).out (i*Z.C+j)=r from hx _ _ _];exact E.2
  ·obtain⟨t1,M⟩:=R.top B;exact⟨ab,M.T ab λ_ _ h=>h⟩
  ·exact(R.o B).T rfl rfl rfl ab aC J ab λb e=>L b (R.s b e).2.2.1
  ·obtain⟨es,cL,q⟩:=R.m4
   grind
  ·obtain⟨t1,M,t3⟩:=R.one B h1;exact⟨ab,ab,t3.T ab λ_ _ h=>h⟩
  ·rw[K d]
   grind
end
section
variable {s:ak} {g b7 h ac:ad} {U Y aK i j aw:Nat} {c:Nat->X} {l:aa eE} {aP:av Nat} {Z:b5} {own:Nat->Nat} {bz bZ cA:Nat}
theorem j0.init(K:gj Z)(N:NwI Z i j U h ac Y aK c aP bz bZ cA l b7)(S:lx b7 g)(ai:i<Z.R)(bM:j<Z.C)(bv:own aK=i*Z.C+j+1)(aG:∀b,aP=some b->own b=i*Z.C+j+1)(h1:own bz=i*Z.C+j+1)(al:own bZ=i*Z.C+j+1)(aM:own cA=i*Z.C+j+1):
  j0 Z aw (mO Z.R Z.C) i j own g ac Y aK c l aP none bz bZ cA:=by
 obtain⟨m23,m24,m25,P,L,M,m40,m41,I,m43,m44⟩:=N.m;obtain⟨a0,ax,a2,a3,aV,bl⟩:=N.dJ;obtain⟨z9,de,bO,d6,fQ,g3⟩:=N.gg;obtain⟨aCA,fv,fF,ir,oq,sO⟩:=N.jE;refine⟨N.W,N.z.sub S,bv,aG,?_,ab,ab,ab,N.ne,ab,m24,m41,m43,m25,λ_=>⟨m23,i1.no bl⟩,λB=>?_,⟨_,_,g3⟩,λB yc=>⟨I,?_,i1.no sO⟩⟩
 ·have hm:(i*Z.C+j) % Z.C=j:=by rw[yM,Nat.mul_add_mod,J4 bM]
  by_cases B:j=0
  ·subst B;obtain⟨_,_,_,rfl⟩:=N.aAZ rfl;have ci:i*Z.C+0<Z.R*Z.C:=p2 ai bM;have bu:(i*Z.C+0) / Z.C=i:=by rw[m9];exact Nat.mul_div_cancel _ bM
   have:(mO Z.R Z.C).out (i*Z.C+0)=[.dx i 0]:=by
    show(if(i*Z.C+0) % Z.C=0/\i*Z.C+0<Z.R*Z.C then[cw.dx ((i*Z.C+0) / Z.C) 0]else[])=_
    grind
   rw[this];exact⟨⟨rfl,rfl,rfl,rfl,rfl,xo,xo,rfl,rfl,rfl⟩,trivial⟩
  ·obtain⟨rfl,_⟩:=N.On B;have:(mO Z.R Z.C).out (i*Z.C+j)=[]:=if_neg J;rw[this]
   trivial
 ·obtain⟨c4,eK,D,_⟩:=N.aAZ B;have E:jK g Y (.agg ⟨[c 28,c 29,c 30,c 31,c 32]⟩) (Z.bB i) (Z.H i) (Z.e1.st 0):=hP.sub eK S;refine⟨P,L,c4,M,E,?_,ab,λe=>by cases e⟩;rw[D 28 J J,D 29 J J,D 30 J J,D 31 J J,D 32 J J];exact E
 ·rw[m44,show(mO Z.R Z.C).V=0 from rfl,f9 J]
end
def S3:aa (aa Nat):=[[1,2,3,5,22,23]]
def aef(s:ak)(ax a2 a3 bl en jB:X)(h:ad)(U:Nat)(N:aH)(aF:aH)(R:aH):Prop:=cq jB en (ay h 8 ax λc=>c7 131 [c,jB] h U λd e f=>b4 8 ax λg=>dc e g λi=>eX g i (c7 132 [i,jB] e f λj k l=>a4 12 k ax λm=>kZ 12 ax m (c7 59 [m,d,j] k l λn o p=>ag (dz n 0) λq=>ag (dz n 1) λr=>lh r (R [ax,(.pointer none),r,bl,en,jB] o p) (ag (cr bl) λaT=>ay o 12 aT λw=>ey (fU 1 [(.pointer none)] [(0,1,q)]) o p λx y z=>dB (dS (dv 1 y z w x)) λbX ch bV=>ag (cr bl) λbp=>b4 12 bp λb2=>ag (a7 ch 1 b2 bX) λcM=>ay cM 8 ax λdj=>bh s 132 [dj,jB] cM bV λcP d0 dH=>bT .eql 3 cP (ae 0) (ag (cr bl) λam=>ay d0 14 am λeR=>ey (fU 1 [(.pointer none)] [(0,1,q)]) d0 dH λgM hC hL=>dB (dS (dv 1 hC hL eR gM)) λi7 hS hd=>ag (cr bl) λpL=>b4 14 pL λl4=>ag (a7 hS 1 l4 i7) λm5=>b3 jB λo7=>N [ax,a2,a3,bl,en,o7] m5 hd) (b3 jB λi9=>N [ax,a2,a3,bl,en,i9] d0 dH))) 2 [e,h]) 1 [h]) (aF [ax,a2,a3,bl,en,jB] h U)
def agU:fw:=λs au h U K=>cK au h U λa b c=>a4 12 b a λd=>bh s 121 [d] b c λe f g=>lh e (K (.tuple ⟨[(.pointer none),e]⟩) f g) (a4 12 f a λj=>ey (.ok .map) f g λk l m=>ag (c8 [(ae 0),(ae 0),(ae 0),(ae 0),aS,(ae 0),aS,(ae 0),(ae 0),(ae 0),(ae 0),aS,aS,(.map none),aS,aS] [(0,12,j),(13,1,k)]) λn=>cK n l m λo p q=>ay p 7 a λt=>ay p 8 a λv=>cf .mul 3 t v λw=>bq (bA Q s S3 70 0) [a,(.pointer none),(ae 0),o,w,(ae 0)] p q [(0,λx y z=>bh s 140 [(aQ x 3)] y z λbX ch bV=>K (.tuple ⟨[(aQ x 3),(ae 0)]⟩) ch bV)] (λbp b2 cM=>K (.tuple ⟨[(aQ bp 1),(aQ bp 2)]⟩) b2 cM))
theorem asU{s:ak}{D E B:X}{h:ad}{U:Nat}{R:aH}:bA Q s S3 70 0 [D,a2,a3,E,en,B] h U N [(0,aF)] R=aef s D a2 a3 E en B h U N aF R:=by kernel_rfl
theorem auU:fG 70 agU:=fO S3
def aeg:fw:=λs au h U K=>bT .neq 110 au (.pointer none) (ag (cr au) λb=>ay h 14 b λd=>bh s 141 [d,(.func (.func 142) #[] #[])] h U λe f g=>ag (d2 .not e) λi=>K i f g) (K (.bool false) h U)
theorem apy:fG 71 aeg:=fO []
def Gl:aa (aa Nat):=[[0,3,15,16],[0,3,27,28,29]]
def Zc(s:ak)(a0 a3 jz hI:X)(h:ad)(U:Nat)(N:aH)(aF:aH)(R:aH):Prop:=cq hI jz (bh s 143 [a0,hI] h U λb c d=>bJ b (b3 hI λe=>N [a0,(.bool true),jz,e] c d) (b3 hI λf=>N [a0,a3,jz,f] c d)) (aF [a0,a3,jz,hI] h U)
def Zd(s:ak)(a0 a3 x0 rx qB:X)(h:ad)(U:Nat)(N:aH)(aJ:aH)(R:aH):Prop:=cq qB rx (hq 2 h 2 x0 qB λc=>cJ [(ae 0),(ae 0)] h U λd e f=>ag (a7 e 2 d c) λg=>ag (cr a0) λi=>ay g 13 i λk=>a4 2 g d λl=>ag (lL Q g 198 (.pointer none) false k l) λm=>bh s 145 [m] g f λn o p=>c7 147 [m] o p λq r t=>ag (il (.array 2 1) d (ae 0)) λaT=>dc r aT λv=>eX aT v (ag (il (.array 2 1) d (ae 1)) λw=>dc r w λx=>eX w x (c7 146 [a0,v,x,q] r t λy z bX=>bJ a3 (b3 qB λch=>N [a0,(.bool true),x0,rx,ch] z bX) (bh s 145 [m] z bX λbV bp b2=>cf .lss 3 bV n λcM=>b3 qB λbU=>N [a0,cM,x0,rx,bU] bp b2)) 1 [o]) 1 [o]) (aJ [a0,a3,x0,rx,qB] h U)
def ab8:fw:=λs au h U K=>bT .eql 110 au (.pointer none) (K (.bool false) h U) (ag (cr au) λb=>ay h 12 b λd=>cQ d λe=>bq (bA Q s Gl 72 0) [au,(.bool false),e,(ae 0)] h U [(0,λf g i=>bh s 144 [(aQ f 0)] g i λj k l=>cQ j λm=>bq (bA Q s Gl 72 1) [(aQ f 0),(aQ f 1),j,m,(ae 0)] k l [(2,λn o p=>K (aQ n 1) o p)] (λ_ _ _=>False))] (λ_ _ _=>False))
theorem akc{s:ak}{D B:X}{h:ad}{U:Nat}{R:aH}:bA Q s Gl 72 0 [a0,a3,D,B] h U N [(0,aF)] R=Zc s a0 a3 D B h U N aF R:=by kernel_rfl
theorem akd{s:ak}{B E D:X}{h:ad}{U:Nat}{R:aH}:bA Q s Gl 72 1 [a0,a3,B,E,D] h U N [(2,aJ)] R=Zd s a0 a3 B E D h U N aJ R:=by kernel_rfl
theorem amb:fG 72 ab8:=fO Gl
def Py(s:ak)(K:bD)(cu cC b6:X)(ap:ad)(aX:Nat):Prop:=ay ap 1 b6 λb=>bh s 155 [cu,b] ap aX λc d e=>ag (dz c 0) λf=>ag (dz c 1) λg=>b4 2 b6 λi=>ag (a7 d 5 i f) λj=>a4 7 j b6 λk=>ag (a7 j 7 cC k) λl=>a4 7 l cC λm=>K m l e
def ab9:fw:=λs au h U K=>cJ [(ae 0),(ae 0),(ae 0),(ae 0),aS,aS,aS] h U λa b c=>bT .eql 110 au (.pointer none) (ag (c8 [(ae 0),(ae 0),(ae 0),(ae 0),aS,aS,aS] []) λe=>ag (a7 b 7 a e) λf=>a4 7 f a λg=>K g f c) (bh s 150 [au] b c λi j k=>ag (c8 [(ae 0),(ae 0),(ae 0),(ae 0),aS,aS,aS] [(1,1,i)]) λl=>cJ [(ae 0),(ae 0),(ae 0),(ae 0),aS,aS,aS] j k λm n o=>ag (a7 n 7 m l) λp=>bh s 71 [au] p o λq r t=>bJ q (ag (cr au) λaT=>ay r 14 aT λw=>ea r 1 w (ae 0) λy=>gB Q s (jc r t [y] (.func (.func 67) #[] #[])) λz bX ch=>b4 0 m λbV=>ag (a7 bX 1 bV z) λbp=>(Py s K au a m bp ch)) (Py s K au a m r t))
theorem amc:fG 74 ab9:=fO []
def R7:aa (aa Nat):=[[0,7,8,9]]
def aca(s:ak)(a0 aZ bo cH:X)(h:ad)(U:Nat)(N:aH)(aF:aH)(R:aH):Prop:=cq cH bo (ea h 1 aZ cH λc=>c7 68 [c] h U λd e f=>ag (cr a0) λg=>b4 15 g λi=>dc e i λj=>eX i j (cQ j λk=>py (λh=>xu j) k (bT .neq 3 d k (R [a0,aZ,bo,cH] e f) (b3 cH λm=>N [a0,aZ,bo,m] e f)) 1 [h]) 1 [h]) (aF [a0,aZ,bo,cH] h U)
def afL:fw:=λs au h U K=>ag (cr au) λa=>ay h 14 a λc=>cQ c λd=>bq (bA Q s R7 140 0) [au,c,d,(ae 0)] h U [(0,λe f g=>c7 234 [(aQ e 0)] f g λi j k=>ag (cr (aQ e 0)) λl=>b4 15 l λm=>dc j m λn=>eX m n (ey (fU 1 [(ae 0),(ae 0),aS,aS,aS] [(0,5,i)]) j k λo p q=>dB (dS (dv 5 p q n o)) λr t aT=>q<=aT/\ag (cr (aQ e 0)) λv=>b4 15 v λw=>ag (a7 t 1 w r) λx=>K (.tuple ⟨[]⟩) x aT) 1 [f])] (λy z bX=>K (.tuple ⟨[]⟩) z bX)
theorem apA{s:ak}{D B:X}{h:ad}{U:Nat}{R:aH}:bA Q s R7 140 0 [a0,aZ,D,B] h U N [(0,aF)] R=aca s a0 aZ D B h U N aF R:=by kernel_rfl
theorem asV:fG 140 afL:=fO R7
def apB:fw:=λs au h U K=>bh s 67 [au] h U λa b c=>cf .eql 86 a (ae 0) λd=>K d b c
theorem amd:fG 142 apB:=fO []
def auV:fH:=λs au t1 h U K=>bh s 236 [au,t1] h U λa b c=>ag (d2 .not a) λd=>bJ d (K (.bool false) b c) (ag (cr au) λe=>ay b 12 e λg=>ea b 1 g t1 λj=>bh s 61 [j] b c λk l m=>ag (dz k 0) λn=>ag (dz k 1) λo=>cJ [(ae 0),(ae 0),(ae 0),(ae 0),(ae 0),(ae 0),aS,aS,aS,(ae 0),(.bool false)] l m λp q r=>ag (a7 q 11 p n) λt=>ag (d2 .not o) λaT=>bJ aT (K (.bool false) t r) (ay t 2 p λw=>c7 237 [au,t1,w] t r λx y z=>a4 11 y p λbX=>kZ 11 p bX (c7 238 [x,bX] y z λch bV bp=>lh ch (K (.bool false) bV bp) (bh s 62 [j] bV bp λcM bU dj=>K (.bool true) bU dj)) 1 [t]))
theorem aeh:fR 143 auV:=fX []
def KD(s:ak)(K:bD)(cu bY cR tA:X)(ap:ad)(aX:Nat):Prop:=bJ tA (ag (c8 [(ae 0),(ae 0),aS,aS,aS] []) λa=>ag (a7 ap 5 cR a) λb=>a4 5 b cR λc=>K (.tuple ⟨[c,(.bool false)]⟩) b aX) (ag (cr cu) λd=>ay ap 15 d λf=>hq 5 ap 5 f bY λi=>cJ [(ae 0),(ae 0),aS,aS,aS] ap aX λj k l=>ag (a7 k 5 j i) λm=>ay m 2 j λo=>c7 88 [o] m l λp q r=>b4 3 j λt=>dc q t λaT=>eX t aT (c7 88 [aT] q r λv w x=>b4 4 j λy=>dc w y λz=>eX y z (c7 139 [z] w x λbX ch bV=>b4 0 j λbp=>dc ch bp λb2=>eX bp b2 (b4 1 j λcM=>dc ch cM λbU=>eX cM bU (ag (c8 [(ae 0),(ae 0),aS,aS,aS] [(0,1,b2),(1,1,bU),(2,1,p),(3,1,v),(4,1,bX)]) λdj=>ag (a7 ch 5 cR dj) λcP=>a4 5 cP cR λd0=>K (.tuple ⟨[d0,(.bool true)]⟩) cP bV) 3 [w,q,m]) 3 [w,q,m]) 2 [q,m]) 1 [m])
def aei:fH:=λs au t1 h U K=>cJ [(ae 0),(ae 0),aS,aS,aS] h U λa b c=>bT .eql 110 au (.pointer none) (KD s K au t1 a (.bool true) b c) (cq t1 (ae 0) (KD s K au t1 a (.bool true) b c) (ag (cr au) λf=>ay b 15 f λi=>cQ i λj=>cf .geq 3 t1 j λk=>(KD s K au t1 a k b c)))
theorem apC:fR 155 aei:=fX []
def Gm:aa (aa Nat):=[[2,10,30,31,32],[10,14,40,41]]
def Ze(s:ak)(a2 cZ sw kO gC:X)(h:ad)(U:Nat)(N:aH)(aF:aH)(R:aH):Prop:=cq gC kO (hq 4 h 4 sw gC λc=>cJ [(ae 0),(ae 0),(ae 0),(ae 0)] h U λd e f=>ag (a7 e 4 d c) λg=>a4 4 g d λi=>bh s 251 [cZ,i] g f λj k l=>b3 gC λm=>N [a2,cZ,sw,kO,m] k l) (aF [a2,cZ,sw,kO,gC] h U)
def Zf(s:ak)(cZ jN x7 wp:X)(h:ad)(U:Nat)(N:aH)(aJ:aH)(R:aH):Prop:=cq wp x7 (bh s 71 [cZ] h U λb c d=>bJ b (aJ [cZ,jN,x7,wp] c d) (bh s 72 [cZ] c d λe f g=>b3 jN λi=>b3 wp λj=>N [cZ,i,x7,j] f g)) (aJ [cZ,jN,x7,wp] h U)
def QR:i6:=λs au t1 t2 h U K=>cK au h U λa b c=>a4 12 b a λd=>bh s 161 [d,t1,t2] b c λe f g=>lh e (K (.tuple ⟨[(.pointer none),(ae 0),e]⟩) f g) (a4 12 f a λj=>bh s 70 [j] f g λk l m=>ag (dz k 0) λn=>ag (dz k 1) λo=>lh o (K (.tuple ⟨[(.pointer none),(ae 0),o]⟩) l m) (cQ t1 λq=>bq (bA Q s Gm 157 0) [t2,n,t1,q,(ae 0)] l m [(0,λr t aT=>bq (bA Q s Gm 157 1) [(aQ r 1),(ae 0),(aQ r 0),(ae 0)] t aT [(2,λv w x=>K (.tuple ⟨[(aQ v 0),(aQ v 1),(ae 0)]⟩) w x)] (λ_ _ _=>False))] (λ_ _ _=>False)))
theorem ake{s:ak}{E B D:X}{h:ad}{U:Nat}{R:aH}:bA Q s Gm 157 0 [a2,cZ,E,B,D] h U N [(0,aF)] R=Ze s a2 cZ E B D h U N aF R:=by kernel_rfl
theorem akf{s:ak}{E D B:X}{h:ad}{U:Nat}{R:aH}:bA Q s Gm 157 1 [cZ,E,D,B] h U N [(2,aJ)] R=Zf s cZ E D B h U N aJ R:=by kernel_rfl
theorem aan:jl 157 QR:=jA Gm
def CW:aa (aa Nat):=[[2,3,4,20,21,22],[2,3,4,7,20,21,22,42,43,44]]
def X9(s:ak)(a2 a3 aV aZ i2 h5 en WK WL zN:X)(h:ad)(U:Nat)(N:aH)(aJ:aH)(R:aH):Prop:=cq zN WL (ea h 1 WK zN λc=>ay h 0 aZ λe=>o6 e c λf=>ey (fU 1 [(ae 0)] [(0,1,f)]) h U λg i j=>dB (dS (dv 1 i j aV g)) λk l m=>b3 zN λn=>N [a2,a3,k,aZ,i2,h5,en,WK,WL,n] l m) (aJ [a2,a3,aV,aZ,i2,h5,en,WK,WL,zN] h U)
def Ya(s:ak)(a2 a3 aV i2 h5 en:X)(h:ad)(U:Nat)(N:aH)(aF:aH)(R:aH):Prop:=cq en h5 (ea h 1 i2 en λc=>bh s 69 [c] h U λd e f=>cJ [(ae 0),(ae 0),aS,aS,aS] e f λg i j=>ag (a7 i 5 g d) λk=>ay k 2 a3 λm=>ay k 2 g λo=>dB (dS (dv 1 k j m o)) λp q r=>j<=r/\b4 3 a3 λt=>dc q t λaT=>eX t aT (b4 3 g λv=>dc q v λw=>eX v w (dB (dS (dv 1 q r aT w)) λx y z=>r<=z/\b4 2 a3 λbX=>ag (a7 y 1 bX p) λch=>b4 3 a3 λbV=>ag (a7 ch 1 bV x) λbp=>ay bp 4 g λcM=>bh s 119 [cM] bp z λbU dj cP=>cQ bU λd0=>bq (bA Q s CW 234 1) [a2,a3,aV,g,i2,h5,en,bU,d0,(ae 0)] dj cP [(2,λdH eM am=>b3 (aQ dH 6) λan=>N [(aQ dH 0),(aQ dH 1),(aQ dH 2),(aQ dH 4),(aQ dH 5),an] eM am)] (λ_ _ _=>False)) 1 [k]) 1 [k]) (aF [a2,a3,aV,i2,h5,en] h U)
def Zg:fw:=λs au h U K=>cJ [(ae 0),(ae 0),aS,aS,aS] h U λa b c=>ag (cr au) λd=>b4 0 d λe=>b4 0 e λf=>ay b 1 f λi=>ag (c8 [(ae 0),(ae 0),aS,aS,aS] [(1,1,i)]) λj=>cJ [(ae 0),(ae 0),aS,aS,aS] b c λk l m=>ag (a7 l 5 k j) λn=>ag (cr au) λo=>ay n 14 o λq=>cQ q λr=>bq (bA Q s CW 234 0) [a,k,aS,q,r,(ae 0)] n m [(0,λt aT v=>ay aT 1 (aQ t 1) λx=>bh s 108 [x,(aQ t 2)] aT v λy z bX=>b4 4 (aQ t 1) λch=>ag (a7 z 1 ch y) λbV=>a4 5 bV (aQ t 1) λbp=>ag (a7 bV 5 (aQ t 0) bp) λb2=>a4 5 b2 (aQ t 0) λcM=>K cM b2 bX)] (λ_ _ _=>False)
theorem aiG{s:ak}{D E B:X}{h:ad}{U:Nat}{R:aH}:bA Q s CW 234 1 [a2,a3,aV,aZ,i2,h5,en,D,E,B] h U N [(2,aJ)] R=X9 s a2 a3 aV aZ i2 h5 en D E B h U N aJ R:=by kernel_rfl
theorem aiH{s:ak}{h:ad}{U:Nat}{R:aH}:bA Q s CW 234 0 [a2,a3,aV,i2,h5,en] h U N [(0,aF)] R=Ya s a2 a3 aV i2 h5 en h U N aF R:=by kernel_rfl
theorem ai8:fG 234 Zg:=fO CW
def R8(s:ak)(K:bD)(cu bY cC Io:X)(ap:ad)(aX:Nat):Prop:=bJ Io (K (.pointer none) ap aX) (ag (c8 [(ae 0),(ae 0)] [(0,1,bY),(1,1,cC)]) λa=>cJ [(ae 0),(ae 0)] ap aX λb c d=>ag (a7 c 2 b a) λe=>ag (cr cu) λf=>ay e 13 f λi=>a4 2 e b λj=>ag (lL Q e 198 (.pointer none) false i j) λk=>bT .eql 199 k (.pointer none) (ag (cr cu) λm=>b4 0 m λn=>ay e 9 n λp=>c7 339 [p] e d λq r t=>ag (cr cu) λaT=>b4 13 aT λv=>dc r v λw=>eX v w (a4 2 r b λx=>kZ 2 b x (ag (dz q 0) λy=>ag (pq Q 198 r w x y) λz=>ag (dz q 1) λbX=>ag (cr cu) λch=>ay z 13 ch λbp=>a4 2 z b λb2=>ag (lL Q z 198 (.pointer none) false bp b2) λcM=>K cM z t) 1 [e]) 1 [e]) (ag (cr cu) λbU=>ay e 13 bU λcP=>a4 2 e b λd0=>ag (lL Q e 198 (.pointer none) false cP d0) λdH=>K dH e d))
def awT:i6:=λs au t1 t2 h U K=>bh s 236 [au,t1] h U λa b c=>ag (d2 .not a) λd=>bJ d (R8 s K au t1 t2 (.bool true) b c) (bh s 236 [au,t2] b c λe f g=>ag (d2 .not e) λi=>(R8 s K au t1 t2 i f g))
theorem auW:jl 237 awT:=jA []
def QS(s:ak)(K:bD)(cu bY cR fl VO:X)(ap:ad)(aX:Nat):Prop:=bJ VO (ag (c8 [(ae 0),(ae 0),(ae 0),(ae 0),(ae 0),(ae 0),aS,aS,aS,(ae 0),(.bool false)] []) λa=>ag (a7 ap 11 cR a) λb=>a4 11 b cR λc=>K (.tuple ⟨[c,(.bool false),fl]⟩) b aX) (bh s 347 [cu,bY] ap aX λd e f=>cJ [(ae 0),(ae 0),(ae 0),(ae 0),(ae 0),(ae 0),aS,aS,aS,(ae 0),(.bool false)] e f λg i j=>ag (a7 i 11 g d) λk=>ay k 3 g λm=>ag (cr cu) λn=>ay k 5 n λp=>cq m p (ag (c8 [(ae 0),(ae 0),(ae 0),(ae 0),(ae 0),(ae 0),aS,aS,aS,(ae 0),(.bool false)] []) λr=>ag (a7 k 11 cR r) λt=>a4 11 t cR λaT=>K (.tuple ⟨[aT,(.bool false),(ae 0)]⟩) t j) (ag (cr cu) λv=>ay k 5 v λx=>b3 x λy=>ag (cr cu) λz=>b4 5 z λbX=>ag (a7 k 1 bX y) λch=>a4 11 ch g λbV=>bh s 341 [bV] ch j λbp b2 cM=>ag (a7 b2 11 cR bp) λbU=>a4 11 bU cR λdj=>K (.tuple ⟨[dj,(.bool true),(ae 0)]⟩) bU cM))
def afM:fH:=λs au t1 h U K=>cJ [(ae 0),(ae 0),(ae 0),(ae 0),(ae 0),(ae 0),aS,aS,aS,(ae 0),(.bool false)] h U λa b c=>bh s 346 [au,t1] b c λd e f=>lh d (QS s K au t1 a d (.bool true) e f) (ag (cr au) λi=>ay e 1 i λk=>ea e 1 k t1 λm=>ag (cr au) λn=>ay e 5 n λp=>cf .gtr 3 m p λq=>(QS s K au t1 a d q e f))
theorem asW:fR 243 afM:=fX []
def R9(s:ak)(K:bD)(cu qI:X)(ap:ad)(aX:Nat):Prop:=bJ qI (K (.tuple ⟨[(.pointer none),(ae 3)]⟩) ap aX) (ey (.ok .map) ap aX λa b c=>ey (.ok .map) b c λd e f=>ag (c8 [(ae 0),aS,(.map none),(.map none),(ae 0),(ae 0)] [(0,1,cu),(2,1,a),(3,1,d)]) λg=>cK g e f λi j k=>K (.tuple ⟨[i,(ae 0)]⟩) j k)
def agV:fw:=λs au h U K=>cq au (ae 1) (R9 s K au (.bool true) h U) (cf .gtr 3 au (ae 64) λb=>(R9 s K au b h U))
theorem auX:fG 339 agV:=fO []
def kS(room:Int)(row:X)(du dd:Nat)(iX l9:Nat):aa X:=[(room:X),row,.map (some du),.map (some dd),(iX:X),(l9:X)]
theorem D3:w0 Q 199=true:=by kernel_rfl
section
variable {s:ak} {h:ad} {U b1 du dd iX l9:Nat} {room:Int} {a:av Addr} {n cap:Nat}
theorem G9(B:u h b1=some (.cells (kS room (.slice a n cap) du dd iX l9) false)):aD Q s 145 [bb b1] h U (fm (n:X) U h):=by refine bS ?_;simp(disch:=omega)only[bd,pX D3,B,seval];exact⟨rfl,rfl,rfl⟩
theorem apD(B:u h b1=some (.cells (kS room (.slice a n cap) du dd iX l9) false)):aD Q s 248 [bb b1] h U (fm (iX:X) U h):=by refine bS ?_;simp(disch:=omega)only[bd,pX D3,B,seval];exact⟨rfl,rfl,rfl⟩
theorem apE(B:u h b1=some (.cells (kS room (.slice a n cap) du dd iX l9) false)):aD Q s 340 [bb b1] h U (fm (.bool (!decide ((n:Int)<room))) U h):=by refine bS ?_;unfold kS at B;refine a9 @B ?_;exact⟨rfl,rfl,rfl⟩
theorem auY(B:u h b1=some (.cells (kS room (.slice a n cap) du dd iX l9) false))(D:k<n):aD Q s 346 [bb b1,(k:X)] h U (fm (.int .i64 0) U h):=by
 refine bS ?_
 unfold kS at B;simp(disch:=omega)only[bd,pX D3,B,seval];exact⟨λh=>absurd h J,λ_=>⟨λh=>absurd h J,λ_=>⟨rfl,rfl,rfl⟩⟩⟩
theorem asX(B:1<=room)(D:room<=64):aD Q s 339 [(room:X)] h U (λr ac Y=>r = .tuple ⟨[.pointer (some ⟨U+2,0,none⟩),.int .i64 0]⟩/\u ac (U+2)=some (.cells (kS room (.slice none 0 0) U (U+1) 0 0) false)/\u ac U=some (.map [] 0)/\u ac (U+1)=some (.map [] 0)/\az U h ac/\Y=U+3):=by refine auX ?_;unfold agV;refine aB ?_;refine⟨λh=>absurd h J,λ_=>?_⟩;rw[f9 J];unfold R9;refine aB ?_;exact⟨rfl,aC⟩
end
theorem ayW:nQ Q 99=true:=by kernel_rfl
theorem akg{s:ak}{h:ad}{U:Nat}{a:av Addr}{c:Nat}:aD Q s 406 [.slice a 0 c] h U (λr ac Y=>(∃B bL,r = .slice B 0 bL)/\az U h ac/\U<=Y):=by refine bS ?_;simp(disch:=omega)only[bd,y3 ayW,seval];refine⟨λ_=>⟨⟨_,_,rfl⟩,aC⟩,λ_=>?_⟩;exact⟨⟨_,_,rfl⟩,aC,J⟩
theorem aej{s:ak}{h:ad}{U:Nat}{f:eE}{p:k0}(B:nl h U f p)(b9:p.mq.length<10000)(dL:p.oh.length<10000):
  aD Q s 341 [.agg ⟨ef f⟩] h U (λr ac Y=>∃M,r = .agg ⟨ef M⟩/\M.hZ=f.hZ/\lX ac U Y M p/\az U h ac/\U<=Y):=by
 refine bS ?_;have bF:∀{o aW},az U h (F (F h U o) (U+1) aW):=aC
 have h7:=B.n8;unfold ef;refine aB ?_;refine(CX (B.qK.T  bF J) b9).mono ?_;rintro Ae br a6 ⟨K,I,fp⟩;have iH:=(I U J).trans ((aq J).trans (aN _ _ _));have c4:=(I (U+1) J).trans (aN _ _ _);obtain⟨bf,hD,rfl⟩:=K.form;simp(disch:=omega)only[bd,iH,fZ,seval];have P:∀{o},az U h (F br U o):=aC
 refine(Y8 (B.sL.T  P J) dL).mono ?_;rintro Xq g2 bH ⟨L,E,e9⟩;have fu:=(E U J).trans (aN _ _ _);have dJ:=(E (U+1) J).trans ((aq J).trans c4);obtain⟨aZ,jm,rfl⟩:=L.form;simp(disch:=omega)only[bd,fu,fZ,h7,seval];refine akg.mono ?_;rintro _ c3 bR ⟨⟨bo,hE,rfl⟩,D,hr⟩;have kf:=(D U J).trans (aN _ _ _);have lb:=(D (U+1) J).trans ((aq J).trans dJ);simp(disch:=omega)only[bd,kf,lb,fZ,seval];generalize iw:F (F c3 U _) (U+1) _=G;have JL:∀d,d≠U->d≠U+1->u G d=u c3 d:=ab
 have JC:i4 G U bR (.slice bf p.mq.length hD) fV 2 p.mq:=K.T (λb h1 al=>by rw[JL b J J,D b J,aq J,E b J,aq J]) J J;have JD:i4 G U bR (.slice aZ p.oh.length jm) eA 3 p.oh:=L.T (λb h1 al=>by rw[JL b J J,D b J,aq J]) J J;exact⟨{ f with bf:=bf,n6:=p.mq.length,hD:=hD,aZ:=aZ,n7:=p.oh.length,jm:=jm,bo:=bo,n8:=0,hE:=hE },rfl,rfl,⟨⟨B.kind,B.e5,B.md,B.round,B.mr,cN.o   (λ_=>rfl) JC.gI.rd,cN.o   (λ_=>rfl) JD.gI.rd,rfl,B.n,B.oO⟩,JC,JD⟩,aC,J⟩
theorem akh{R C aw i j:Nat}{x:gy}{m:cw}(aR:np R C aw x m)(M:m.dst C≠i*C+j):
  (cT R C aw x m).q i j=x.q i j/\(cT R C aw x m).out (i*C+j)=x.out (i*C+j)/\(i=0->(cT R C aw x m).P j=x.P j/\(cT R C aw x m).e7 j=x.e7 j)/\(j=0->(cT R C aw x m).a i=x.a i/\(cT R C aw x m).w i=x.w i/\(cT R C aw x m).dV i=x.dV i)/\(i=0->j=0->(cT R C aw x m).V=x.V/\(cT R C aw x m).f5=x.f5):=by
 have L:(cT R C aw x m).out (i*C+j)=x.out (i*C+j):=by exact hH J
 cases m with
 |share P o5 t =>
  obtain⟨_,K,aJ,B,I,gP,g1,E,_⟩:=Kt aR;refine⟨by rw[K],L,λD=>E j λe=>M ?_,ab,ab⟩;rw[D,mx,ix,e];rfl
 |spread P o5 t =>
  obtain⟨K,aJ,B,I,gP,g1,E,_,jj,_⟩:=Km;refine⟨jj i j λe=>M ?_,L,ab,ab,ab⟩;rw[e.1,e.2];rfl
 |dw P o5 t =>
  obtain⟨_,K,aJ,B,I,gP,g1,E,_⟩:=Kl aR;refine⟨by rw[B],L,ab,λD=>⟨by rw[I],E i λe=>M ?_⟩,ab⟩;rw[D,e];rfl
 |dx P t =>
  obtain⟨_,K,aJ,B,I,gP,g1,_⟩:=Kw aR;refine⟨by rw[B],L,ab,ab,λD h1=>absurd ?_ M⟩;rw[D,h1,mx];rfl
 |order P t =>
  obtain⟨K,aJ,B,I,gP,_,_,_,_,_,E,_⟩:=Pr aR;refine⟨by rw[B],L,ab,λD=>E i λe=>M ?_,ab⟩;rw[D,e];rfl
theorem Rc(Z:b5):Z.gn Z.lim≠0:=by
 unfold b5.gn wV
 grind
theorem asY(Z:b5):∃aw,aw<=Z.lim/\Z.gn aw≠0/\∀t,t<=aw->(Z.gn t=0↔t<aw):=by
 have:∀n,(∃aw,aw<=n/\Z.gn aw≠0/\∀t,t<aw->Z.gn t=0)\/∀t,t<=n->Z.gn t=0:=by
  intro n
  induction n with
  |zero =>
   grind
  |succ n E =>
   grind
 rcases this Z.lim with⟨aw,B,I,D⟩|h
 ·grind
 ·exact absurd ab (Rc Z)
def MH(h:ad)(v:X)(cV:av Nat):Prop:=(v = .slice none 0 0/\cV=none)\/∃b w,cV=some b/\v = .slice (some ⟨b,0,some 1⟩) 0 1/\u h b=some (.cells [w] false)
theorem auZ{h:ad}{U b q c:Nat}{x:Int}{D:ak}(B:u h b=some (.cells [w] false))(E:u h q=some (.cells [(x:X)] D)):
  dv 1 h U (.slice (some ⟨b,0,some 1⟩) 0 1) (.slice (some ⟨q,0,none⟩) 1 c) = .ok (.val (.slice (some ⟨b,0,some 1⟩) 1 1) (F h b (.cells [(x:X)] false)) U):=by
 have I:jV h (some ⟨q,0,none⟩) (Nat.mul 1 1) (λnew=>gt 1 h U (some ⟨b,0,some 1⟩) 0 1 1 new)=gt 1 h U (some ⟨b,0,some 1⟩) 0 1 1 [(x:X)]:=by show cellsOf h q (λcs _=>R.of "read - out of block" (nh (Nat.mul 1 1) (na cs 0)) λnew=>gt 1 h U (some ⟨b,0,some 1⟩) 0 1 1 new)=_;rw[Ks,E,Gr];rfl
 show jV h (some ⟨q,0,none⟩) (Nat.mul 1 1) (λnew=>gt 1 h U (some ⟨b,0,some 1⟩) 0 1 1 new)=_;rw[I];show R.bind (qX h b 0 [(x:X)]) (λh=>R.ok (ff.val (Value.slice (some ⟨b,0,some 1⟩) 1 1) h U))=_;rw[Ki B rfl ab];rfl
section
variable {s:ak} {h:ad} {U b1 du dd iX l9 cL x:Nat} {room:Int} {rw:X} {cV:av Nat}
theorem asZ(E:u h b1=some (.cells (kS room rw du dd iX l9) false))(bv:b1<U)(ba:MH h rw cV)(P:∀b,cV=some b->b<U/\b≠b1/\b≠dd)(hm:u h dd=some (.map [] cL))(hmo:dd<U/\dd≠b1):
  aD Q s 342 [bb b1,(x:X)] h U (λr ac Y=>r = .tuple ⟨[]⟩/\∃D,u ac b1=some (.cells (kS room (.slice (some ⟨D,0,some 1⟩) 1 1) du dd iX l9) false)/\u ac D=some (.cells [(x:X)] false)/\(cV=some D\/U<=D/\D<Y) /\
   ju ac dd ik [(x,.int .i64 1,cL)] (cL+1)/\(∀d,d<U->d≠b1->d≠dd->cV≠some d->u ac d=u h d)/\U<=Y):=by
 refine bS ?_;unfold kS at E ⊢;rcases ba with⟨rfl,rfl⟩|⟨b,w,rfl,rfl,a5⟩
 ·refine mA @E ?_;refine l7 (enc:=cG) (k:=1) (ao:=U+1) (l:=[]) (λ_=>rfl) (λ_=>rfl) J (.inl ab) J (x:Int) (aN _ _ _) rfl (by simp) λdG bP M K=>?_;obtain⟨aF,_⟩|⟨D,c4,eK,rfl,gX⟩:=M
  ·cases aF
  have iv:u bP b1=_:=(K b1 J).trans ((aq J).trans E);have I:ju (F bP b1 (.cells [(room:X),.slice (some ⟨D,0,some 1⟩) 1 1,.map (some du),.map (some dd),(iX:X),(l9:X)] false)) dd ik [] cL:=HV ab;have B:=xE (rT n5) I (k:=x) (z:=.int .i64 0) (ok:=false);rw[show ik x = (x:X)from rfl,show iV ([]:aa (Nat × X × Nat)) x=none from rfl]at B;obtain⟨aJ,L⟩:=HU (x:=.int .i64 1) (rT n5) I  rfl;rw[show ik x = (x:X)from rfl]at aJ;rw[show(([]:aa Int)++[(x:Int)]).length=1 from rfl]
  replace B:lL Q _ 3 (.int .i64 0) false (.map (some dd)) (x:X) = .ok (.int .i64 0):=B
  simp(disch:=omega)only[bd,↓reduceIte,Nat.reduceAdd,Nat.reduceSub,Nat.reduceMul,Nat.reduceLT,Nat.reduceLeDiff,Nat.reduceEqDiff,Int.reduceBEq,Int.reduceLT,Int.reduceNeg,iv,B,show IntKind.wrap .i64 ((0:Int)+1)=1 from rfl,aJ];refine⟨D,?_,?_,J,L _ ab,λd h1 al aM _=>?_,J⟩
  ·rfl
  ·rw[aq J,aq J];exact gX
  grind
 ·obtain⟨d9,dI,gL⟩:=P b rfl;refine mA @E ?_;rw[auZ ((aq J).trans a5) (aN _ _ _)];generalize iw:F (F h U _) b _=G;have g2:∀d,d≠b->d<U->u G d=u h d:=ab
  have Cv:=(g2 b1 (kE dI) J).trans E;have I:ju (F G b1 (.cells [(room:X),.slice (some ⟨b,0,some 1⟩) 1 1,.map (some du),.map (some dd),(iX:X),(l9:X)] false)) dd ik [] cL:=HV ab;have B:=xE (rT n5) I (k:=x) (z:=.int .i64 0) (ok:=false);rw[show ik x = (x:X)from rfl,show iV ([]:aa (Nat × X × Nat)) x=none from rfl]at B;obtain⟨aJ,L⟩:=HU (x:=.int .i64 1) (rT n5) I  rfl;rw[show ik x = (x:X)from rfl]at aJ
  replace B:lL Q _ 3 (.int .i64 0) false (.map (some dd)) (x:X) = .ok (.int .i64 0):=B
  simp(disch:=omega)only[bd,↓reduceIte,Nat.reduceAdd,Nat.reduceSub,Nat.reduceMul,Nat.reduceLT,Nat.reduceLeDiff,Nat.reduceEqDiff,Int.reduceBEq,Int.reduceLT,Int.reduceNeg,dS,Cv,B,show IntKind.wrap .i64 ((0:Int)+1)=1 from rfl,aJ];refine⟨b,?_,?_,ab,L _ ab,ab,J⟩
  all_goals grind
end
section
variable {s:ak} {h:ad} {U b1 du dd iX l9 co gK:Nat} {room:Int} {rw:X} {cV:av Nat} {f:eE} {p:k0}
def SeK(b1 du dd iX l9:Nat)(room:Int)(cV:av Nat)(p:k0)(co gK:Nat)(h:ad)(U:Nat):bD:=λr ac Y=>r = .int .i64 0/\∃ck mo m,u ac b1=some (.cells (kS room (.slice (some ⟨ck,0,some 1⟩) 1 1) du dd (iX+1) l9) false)/\u ac ck=some (.cells [(iX:X)] false)/\(cV=some ck\/m<=ck/\ck<Y) /\
 ju ac dd ik [(iX,.int .i64 1,co)] (co+1)/\ju ac du ik [(iX,.agg ⟨ef mo⟩,gK)] (gK+1)/\mo.hZ=(iX:Int)/\lX ac U m mo p/\(∀d,d<U->d≠b1->d≠dd->d≠du->cV≠some d->u ac d=u h d)/\U<=m/\m<=Y
theorem apF(M:u h b1=some (.cells (kS room rw du dd iX l9) false))(L:b1<U)(azS:1<=room)(ba:MH h rw cV)(qi:∀b,cV=some b->b<U/\b≠b1/\b≠dd/\b≠du)(hmo:u h dd=some (.map [] co))(NI:u h du=some (.map [] gK))(fj:dd<U/\dd≠b1)(EA:du<U/\du≠b1/\du≠dd)(ar:iX<100000)(bx:nl h U f p)(b9:p.mq.length<10000)(dL:p.oh.length<10000):
  aD Q s 238 [bb b1,.agg ⟨ef f⟩] h U (SeK b1 du dd iX l9 room cV p co gK h U):=by
 refine bS ?_;have bF:∀{o},az U h (F h U o):=aC
 obtain⟨a,cap,rfl⟩:∃a cap,rw = .slice a 0 cap:=by rcases ba with⟨e,_⟩|⟨_,_,_,e,_⟩ <;> grind
 have D:(0:Int)<room:=J
 unfold ef;simp(disch:=omega)only[bd,↓reduceIte,Nat.reduceAdd,Nat.reduceSub,Nat.reduceMul,Nat.reduceLT,Nat.reduceLeDiff,Nat.reduceEqDiff,Int.reduceBEq,Int.reduceLT,Int.reduceNeg,pX D3];refine(apE ((bF b1 L).trans M)).f4 ?_;refine mA @D ?_;refine⟨λh=>absurd J h,λ_=>?_⟩;refine(aej  (bx.T  bF J) b9 dL).mono ?_;rintro _ I a6 ⟨E,rfl,hx3,d5,B,fp⟩;have iH:=(B U J).trans (aN _ _ _);have aA3:∀{o aW},u (F (F I U o) U aW) b1=_:=λ{o aW}=>(aq J).trans ((aq J).trans ((B b1 J).trans ((bF b1 L).trans M)));have K:∀{o},u (F I U o) b1=_:=λ{o}=>(aq J).trans ((B b1 J).trans ((bF b1 L).trans M));have jn:∀{o aW},ju (F (F I U o) U aW) du ik [] gK:=λ{o aW}=>HV (by rw[aq J,aq J,B du J,aq J];omega);have aJ:=λo aW=>HU (x:=.agg ⟨ef { E with hZ:=(iX:Int) }⟩) (rT n5) (jn (o:=o) (aW:=aW)) (k:=iX) rfl;unfold ef at aJ ⊢;unfold kS at aA3 K;rw[show ik iX = (iX:X)from rfl]at aJ;simp(disch:=omega)only[bd,↓reduceIte,Nat.reduceAdd,Nat.reduceSub,Nat.reduceMul,Nat.reduceLT,Nat.reduceLeDiff,Nat.reduceEqDiff,Int.reduceBEq,Int.reduceLT,Int.reduceNeg,iH,aA3,K,(aJ _ _).1];have P:=(aJ (.cells (ef E) false) (.cells (ef { E with hZ:=(iX:Int) }) false)).2 _ (aN (F (F I U (.cells (ef E) false)) U (.cells (ef { E with hZ:=(iX:Int) }) false)) du _);unfold ef at P;dsimp only at P;generalize gh:F (F (F I U _) U _) du _=H at P ⊢;have Xs:∀d,d≠du->d≠U->u H d=u I d:=ab
 have aCB:∀d,d<U->d≠du->u H d=u h d:=λd h1 al=>by rw[Xs d al J,B d J,aq J]
 have hrH:MH H (.slice a 0 cap) cV:=by
  rcases ba with q|⟨b,w,c4,eK,gX⟩
  ·exact .inl q
  ·exact .inr ⟨b,w,c4,eK,ab⟩
 refine(asZ   (cL:=co) ((aCB b1 L (kE EA.2.1)).trans M) J hrH ab ab J).mono ?_;rintro _ bP fI ⟨rfl,ck,dJ,gg,jE,nI,W7,aDd⟩;unfold kS at dJ;refine uj @dJ (cn (J:iX<1000000000000)) ?_;refine⟨rfl,ck,{ E with hZ:=(iX:Int) },a6,aN _ _ _,ab,jE,nI.T ab,P.T ab,rfl,?_,ab,J,J⟩;have XD:lX (F bP b1 (.cells [(room:X),.slice (some ⟨ck,0,some 1⟩) 1 1,.map (some du),.map (some dd),((iX+1:Nat):X),(l9:X)] false)) U a6 E p:=d5.T ab J J;exact⟨{ XD.is with },XD.hD,XD.jm⟩
end
def LM(P:Program)(t dU:Nat):ak:=match P.underlying t with
 |some (.map k _)=>Nat.beq k dU
 |_=>false
theorem agW{ji:Type}[DecidableEq ji]{b0:ji->X}{aw B n c r U:Nat}{rest:aa Nat}{k:ji}{h:ad}(D:LM Q aw B=true)(K:xD Q B b0)(H:ju h r b0 [(k,v,n)] c):
  sV Q .delete (aw::rest) h U [.map (some r),b0 k] = .ok (.val km (F h r (.map [] c)) U):=by
 have E:∃b,Q.underlying aw=some (.map B b):=by
  unfold LM at D
  split at D
  ·rename_i I b e
   rw[e,g4 D];grind
  grind
 obtain⟨b,e⟩:=E;show GL Q aw h U (.map (some r)) (b0 k)=_;unfold GL;rw[e];simp only;rw[K.ok];unfold QX;simp only;unfold lr;rw[H.at_];show(match k2 Q B (b0 k) [{ key:=b0 k,val:=v,born:=n }] 0 with|some (some (i,_))=>R.ok (ff.val km (F h r (.map (Md (lN b0 [(k,v,n)]) i) c)) U)|some none=>.ok (.val km h U)|none=>.no "delete - key")=_;have aJ:k2 Q B (b0 k) [{ key:=b0 k,val:=v,born:=n }] 0=some (some (0,{ key:=b0 k,val:=v,born:=n })):=by show(match lq Q B (b0 k) (b0 k)with|some true=>some (some (0,({ key:=b0 k,val:=v,born:=n }:MapEntry)))|some false=>k2 Q B (b0 k) [] 1|none=>none)=_;rw[K.eq,gz rfl]
 rw[aJ];rfl
theorem awU:LM Q 302 3=true:=by kernel_rfl
theorem awV:LM Q 173 3=true:=by kernel_rfl
theorem NX:((1:Nat):Int)=1:=rfl
theorem c0i:((0:Nat):Int)=0:=rfl
theorem ayX:nQ Q 62=true:=by kernel_rfl
theorem ayY:rU Q 62=some 3:=by kernel_rfl
theorem zeI:oC Q 3=some (cG 0):=by kernel_rfl
section
variable {s:ak} {h:ad} {U b n:Nat}
theorem au0(D:u h b=some (.cells [(n:X)] false)):
  aD Q s 348 [.slice (some ⟨b,0,some 1⟩) 1 1,.int .i64 0,.int .i64 1] h U (λr ac Y=>r = .slice (some ⟨b,0,some 1⟩) 0 1/\ac=F h b (.cells [.int .i64 0] false)/\Y=U):=by
 refine bS ?_;simp(disch:=omega)only[bd,NX,c0i,show iY 1 (.slice (some ⟨b,0,some 1⟩) 1 1) (some (.int .i64 0)) (some (.int .i64 1)) (some (.int .i64 1)) = .ok (.slice (some ⟨b,0,none⟩) 1 1)from rfl,show iY 1 (.slice (some ⟨b,0,some 1⟩) 1 1) none (some (.int .i64 0)) none = .ok (.slice (some ⟨b,0,some 1⟩) 0 1)from rfl,show iY 1 (.slice (some ⟨b,0,some 1⟩) 1 1) (some (.int .i64 1)) none none = .ok (.slice (some ⟨b,0,some 0⟩) 0 0)from rfl,show dv 1 h U (.slice (some ⟨b,0,some 1⟩) 0 1) (.slice (some ⟨b,0,some 0⟩) 0 0) = .ok (.val (.slice (some ⟨b,0,some 1⟩) 0 1) h U)from rfl,dS,show iY 1 (.slice (some ⟨b,0,some 1⟩) 0 1) (some (.int .i64 0)) (some (.int .i64 1)) none = .ok (.slice (some ⟨b,0,some 1⟩) 1 1)from rfl,seval];have B:=ad7  (k:=1)  (i:=0) (n:=1) (c:=1) (U:=U) (aO:=some 1) (l:=[(n:Int)]) (0:Int) (λ_=>rfl) (λ_=>rfl) ayX ayY zeI rfl J D
 replace B:=B.trans (show _=R.ok (.val km (F h b (.cells [.int .i64 0] false)) U)from rfl)
 rw[show(0:Nat)*1=0 from rfl,show 1-0=1 from rfl]at B;rw[B];exact⟨rfl,rfl⟩
theorem au1(B:u h b=some (.cells [(n:X)] false)):
  aD Q s 244 [.slice (some ⟨b,0,some 1⟩) 1 1] h U (fm (n:X) U h):=by refine asn ?_;unfold afA;refine cx @B @NX ?_;refine λ_=>bq.mk (λ_ D ac Y=>D=[.slice (some ⟨b,0,some 1⟩) 1 1,(n:X),.int .i64 1]/\ac=h/\Y=U) 0 ab ?_;rintro _ _ _ _ ⟨rfl,rfl,rfl⟩;rw[aoL];unfold abN;refine a9 @NX ?_;exact λ_=>⟨rfl,rfl,rfl⟩
theorem au2{q:Nat}(B:u h b=some (.cells [(n:X)] false))(D:u h q=some (.cells [(n:X)] false)):
  aD Q s 245 [.slice (some ⟨b,0,some 1⟩) 1 1,.func (.func 246) ⟨[]⟩ ⟨[bb q]⟩] h U (fm (.int .i64 0) U h):=by refine arE ?_;unfold afl;refine a9 @NX ?_;refine bq.mk (λ_ E ac Y=>E=[.slice (some ⟨b,0,some 1⟩) 1 1,.func (.func 246) ⟨[]⟩ ⟨[bb q]⟩,.int .i64 0,.int .i64 1,.int .i64 0]/\ac=h/\Y=U) 0 ab ?_;rintro _ _ _ _ ⟨rfl,rfl,rfl⟩;rw[an9];unfold abw;refine a9 @B ?_;refine⟨?_,λh=>absurd trivial h⟩;refine bS ?_;refine a9 @D ?_;exact⟨λ_=>⟨rfl,rfl,rfl⟩,λh=>absurd h ab⟩
end
end Go.Proofs.YthlhhajnbgjfmaaGreat
