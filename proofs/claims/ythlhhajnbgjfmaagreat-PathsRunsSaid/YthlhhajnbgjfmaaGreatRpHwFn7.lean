/- Parts of the proof: HwFn7: each statement bears its own conditions. -/
import Derived.Test.YthlhhajnbgjfmaaGreatRpHwFn6
namespace Go.Proofs.YthlhhajnbgjfmaaGreat
open Go Go.Ax Go.Ax.HdH
set_option linter.all false
set_option maxHeartbeats 1000000
set_option maxRecDepth 1000000
variable {gb:Nat->aw Int} {v:X} {q:Nat->al} {a3:X} {N:aP} {gs ai:aa GE} {aL:aP} {y:Nat->aw Int} {dU:Nat->al} {us:aa GE} {ag:Nat} {aC a2:X} {es:aa MapEntry} {az:Type} {enc:az->aa X} {dd eL aZ w:X} {A:aa Int} {aK:aP} {jU iO:X} {r:Int} {k:Nat} {eW gV ba:X} {len:Int} {ec dk:Nat} {st:Int} {o:al} {ir V:Nat}
theorem QR:bin Q .neq 162 (.agg ⟨[.int .i64 0,.int .i64 0]⟩) (.agg ⟨[.int .i64 0,.int .i64 0]⟩) = .ok (.bool false):=by kernel_rfl
structure si (g h:ae) (U aJ:Nat):Prop where
 s:lf g h
 p:u g aJ=none
 n:∀d,U<=d->u g d=none
theorem si.sub{g h ac:ae}{U aJ:Nat}(G:si g h U aJ)(E:∀d,d<U->d≠aJ->u ac d=u h d):lf g ac:=λd o B=>by
 have D:d<U:=Fo λD=>by rw[G.n d D]at B;grind
 rw[E d D λe=>by rw[e,G.p]at B;grind];exact G.s d o B
structure Tc (c bL:Nat->X) (t:Nat) (st:Int):Prop where
 a:∀n,n<22\/(23<=n/\n<26)\/(33<=n/\n<38)\/41<=n->bL n=c n
 r:bL 26 = (t:X)
 s:bL 27 = (st:X)
 h:∀n,28<=n->n<33->bL n=if t=0 then c n else c (n+5)
 w:bL 38 = .bool false
 b:bL 39 = .bool true
section
variable {s:al} {g cd h ac:ae} {U Y aJ i j:Nat} {c bL:Nat->X} {l:aa eB} {aQ:aw Nat} {Z:b8}
def D6(Z:b8)(c:Nat->X)(aJ i t bZ cI:Nat)(st:Int)(S:jq)(l:aa eB)(aQ:aw Nat)(h:ae)(U:Nat):bN:=λn2 ac Y=>n2 = .bool true/\∃bL gQ dx B,Tc c bL t st/\bL 40=(if st=0 then .slice none 0 0 else c 40)/\e2 ac Y aJ bL i 0 Z.C (l++dx) gQ /\
 kO ac U B dx (if st=0 then(List.range Z.C).map (K8 Z i (t+1) (qV Z.k (iL Z.bR Z.N (t / 2)) (t+1) S))else[])/\U<=B/\B<=Y/\(∀b,gQ=some b->aQ=some b\/B<=b)/\(st=0->u ac bZ=some (.map [] cI))/\(∀d,d<U->d≠aJ->(st=0->d≠bZ)->aQ≠some d->u ac d=u h d)/\U<=Y
theorem aws{a b:X}(B:c 0=a)(D:c 1=b):hB (some 2) 0 (dy c) = .ok (.agg ⟨[a,b]⟩):=by subst B D;rfl
theorem amy{t bZ cI:Nat}{S:jq}{ci:Nat->X}{D:ae}{I:Nat}(K:f4 Z)(W:e2 D I aJ ci i 0 Z.C l aQ)(H:kf D I ci Z i 0)(bo:l.length+Z.C<900)(ag:i<Z.R)(E:Tc c ci t st)(zu:ci 40=c 40)(ar:jp D I (.agg ⟨[ci 28,ci 29,ci 30,ci 31,ci 32]⟩) (Z.bB i) (Z.H i) S)(cq:t<900)(M:ci 41 = .map (some bZ))(hm:u D bZ=some (.map es cI))(zo:bZ<U/\bZ≠aJ/\aQ≠some bZ)(jc:st=0\/st=1\/st=2)(L:U<=I)(MJ:∀d,d<U->d≠aJ->u D d=u h d):
  ((st == 0)=true->aE Q s 232 [bf aJ] D I λx62 UY P=>D6 Z c aJ i t bZ cI st S l aQ h U (.bool true) UY P)/\((st == 0)=false->D6 Z c aJ i t bZ cI st S l aQ h U (.bool true) D I):=by
 have no:st≠0->D6 Z c aJ i t bZ cI st S l aQ h U (.bool true) D I:=λe=>⟨rfl,ci,aQ,[],U,E,ab,by rw[hz];exact W,by rw[if_neg e];trivial,J,L,ab,J,ab,L⟩
 refine⟨λe=>?_,λe=>no ab⟩
 ·obtain rfl:st=0:=ab
  refine(akn K W H bo ag ar E.r cq M hm ab).mono ?_;rintro _ a9 dP ⟨rfl,bL,b6,dx,B,e40,Nw,hn,aW,hr',bK,w6⟩;refine⟨rfl,bL,some b6,dx,b6,⟨λn bw=>?_,?_,?_,λn h1 ao=>?_,?_,?_⟩,ab,Nw,by rw[if_pos rfl];exact hn.F ab L J,J,by have:=(Nw.aQ b6 rfl).2;omega,ab,ab,ab,J⟩
  ·rw[B n J J];exact E.a n bw
  ·rw[B 26 J J];exact E.r
  ·rw[B 27 J J];exact E.s
  ·rw[B n J J];exact E.h n h1 ao
  ·rw[B 38 J J];exact E.w
  ·rw[B 39 J J];exact E.b
theorem ajg{t bZ cI:Nat}{S:jq}{f:eB}(K:f4 Z)(W:e2 h U aJ c i 0 Z.C l aQ)(G:si g h U aJ)(H:kf g U c Z i 0)(bo:l.length+Z.C<900)(ag:i<Z.R)(cq:t<900)(lO:f.round=(t:Int))(eM:f.n=st)(jc:st=0\/st=1\/st=2)(aAT:t=0->jp g U (.agg ⟨[c 28,c 29,c 30,c 31,c 32]⟩) (Z.bB i) (Z.H i) S)(E:jp g U (.agg ⟨[c 33,c 34,c 35,c 36,c 37]⟩) (Z.bB i) (Z.H i) S)(EJ:c 26 = ((t-1:Nat):X))(MZ:c 27 = .int .i64 0)(M0:c 38 = .bool true)(e39:c 39 = .bool (decide (0<t)))(nQ:c 41 = .map (some bZ))(hm:u h bZ=some (.map es cI))(I:bZ<U/\bZ≠aJ/\aQ≠some bZ):
  aE Q s 137 [bf aJ,.agg ⟨eg f⟩,.agg ⟨[.int .i64 0,.int .i64 0]⟩] h U (D6 Z c aJ i t bZ cI st S l aQ h U):=by
 refine akg ?_;have cb:=W.lt;have b4:∀{o aX},aA U h (T (T h U o) (U+1) aX):=aM
 have D:∀{o aX},u (T (T h U o) (U+1) aX) aJ=some (.cells (dy c) false):=λ{o aX}=>(b4 aJ cb).trans W.at_;have gD:∀{y:Int},((y == y):al)=true:=ab
 have lK:decide (st<0)=false:=ab
 have kZ:decide (3<st)=false:=ab
 unfold YS eg;have fin:∀ji ci,u ji aJ=some (.cells (dy ci) false)->(∀d,d<U->d≠aJ->u ji d=u h d)->(∀n,n<22\/n=22->ci n=c n)->Tc c ci t st->ci 40=c 40->ci 41=c 41 ->
   ((st == 0)=true->aE Q s 232 [bf aJ] ji (U+2) λx62 UY n64=>D6 Z c aJ i t bZ cI st S l aQ h U (.bool true) UY n64)/\((st == 0)=false->D6 Z c aJ i t bZ cI st S l aQ h U (.bool true) ji (U+2)):=λji ci a6 hk a1 L zu h41=>by
  refine amy K (W.set  a6 ab ab ab ab (λb e=>by have:=W.aQ b e;grind) J) (((H.set ab).F  aM J).sub (G.sub hk)) bo ag L zu (hr.sub (hr.F (U:=U)  (h:=g) ?_ aM J) (G.sub hk)) cq ab ((hk bZ I.1 I.2.1).trans hm) I jc J hk;rw[L.h 28 J J,L.h 29 J J,L.h 30 J J,L.h 31 J J,L.h 32 J J]
  by_cases P:t=0
  ·simp only[if_pos P];exact aAT P
  ·simp only[if_neg P];exact E
 by_cases P:t=0
 ·subst P;have n0:(((0:Nat):Int) == 0)=true:=rfl
  replace lO:f.round=0:=lO
  simp(disch:=omega)only[bk,hS,D,e39,show decide (0<0)=false from rfl,seval];unfold JQ;simp(disch:=omega)only[bk,hS,D,W.c1,n0,QR,M0,MZ,lO,eM,lK,gD,seval];refine λ_=>?_;rw[kZ];unfold wu;refine Hj @D ?_;unfold JP;refine aG ?_;refine λ_=>fin _ (hi (hi (hi c 38 (.bool false)) 39 (.bool true)) 27 (st:X)) ab ab (λn bw=>?_) ⟨λn bw=>?_,?_,?_,λn h1 ao=>?_,?_,?_⟩ rfl rfl
  ·rw[dN J,dN J,dN J]
  ·rw[dN J,dN J,dN J]
  ·rw[dN J,dN J,dN J];omega
  ·rfl
  ·rw[dN J,dN J,dN J,if_pos rfl]
  ·rfl
  ·rfl
 ·obtain⟨B,rfl⟩:∃B,t=B+1:=⟨t-1,J⟩
  have bh:decide (0<B+1)=true:=ab
  have V4:IntKind.wrap .i64 ((B:Int)+1)=((B+1:Nat):Int):=cD J;have Td:c 26 = (B:X):=EJ;have n0:(((0:Nat):Int) == 0)=true:=rfl;have aEu:(st == 3)=false:=ab
  have M:(0:Int)<((B+1:Nat):Int):=J
  refine Lv @D @e39 @bh @Td @V4 ?_;unfold JQ;simp(disch:=omega)only[bk,hS,D,W.c1,n0,QR,M0,MZ,lO,eM,lK,gD,seval];rw[kZ];unfold wu;refine yG @D @M @aEu ?_;unfold JP;have Mm:(gN (c 33)&&(gN (c 34)&&(gN (c 35)&&(gN (c 36)&&gN (c 37)))))=true:=by obtain⟨dq,fw,fD,hv,fP,hl,gm⟩:=E;obtain⟨fL,eE,rfl,_⟩:=id fP;obtain⟨fY,f0,rfl,_⟩:=id hl;obtain⟨lP,ia,rfl,_⟩:=id gm;simp only[Value.agg.injEq,x1,wn,iw]at hv;obtain⟨H4,Ev,a35,MW,a37⟩:=hv;rw[H4,Ev,a35,MW,a37];rfl
  refine Hj @Mm ?_;refine⟨fin _ (hi (nJ (hi (hi (hi c 38 (.bool false)) 39 (.bool true)) 27 (st:X)) 28 [c 33,c 34,c 35,c 36,c 37]) 26 (((B+1:Nat):X))) ab ab (λn bw=>?_) ⟨λn bw=>?_,rfl,rfl,λn h1 ao=>?_,rfl,rfl⟩ rfl rfl,λh=>absurd trivial h⟩
  ·rw[dN J,tH J,dN J,dN J,dN J]
  ·rw[dN J,tH ab,dN J,dN J,dN J]
  ·rw[if_neg J];rcases(by omega:n=28\/n=29\/n=30\/n=31\/n=32)with rfl|rfl|rfl|rfl|rfl <;> rfl
end
theorem ako{n:Nat}{ei:Nat->aw Int}:(bj n ei).filter (λp=>q p.1)=bj n λk=>if q k=true then ei k else none:=by
 induction n with
 |zero=>rfl
 |succ n B =>
  rw[tL,tL,sv,B]
  grind
def t4(k:Int)(bb:Nat->Int)(t:Nat)(r:Int)(S:jq)(gb:Nat->aw Int):jq where
 A v:=(ku k bb t S v (qQ r (if sR k S v=true then gb v else none))).1
 B v:=(ku k bb t S v (qQ r (if sR k S v=true then gb v else none))).2.1
 q v:=(ku k bb t S v (qQ r (if sR k S v=true then gb v else none))).2.2
theorem AR.F{h ac:ae}{ap U Y:Nat}{w:X}{o:al}{n:Nat}{q:Nat->al}(H:AR h ap U w o n q)(D:∀d,ap<=d->d<U->u ac d=u h d)(B:U<=Y):AR ac ap Y w o n q:=by
 rcases H with H|⟨e,H⟩
 ·exact .inl H
 ·exact .inr ⟨e,eJ.F H D J B⟩
section
variable {s:al} {g cd h ac:ae} {U Y aJ i j:Nat} {c bL:Nat->X} {l:aa eB} {aQ so:aw Nat} {Z:b8}
theorem ap8{ap:Nat}{p:Nat × Int}{D B n:Nat}(bw:n<=60)(L:AR h ap U w o n q)(h1:u h D=some (.cells [w] false))(P:u h B=some (.cells [.bool o] false))(dL:D<U)(b3:B<U)(a6:p.1<n):
  aE Q s 333 [.agg ⟨eO p⟩,bf D,bf B] h U (dI (.bool (!q p.1)) U h):=by
 refine aje ?_;have E:∀{o},aA U h (T h U o):=aM
 have M:∀{o},u (T h U o) D=some (.cells [w] false):=ab
 have K:∀{aX},u (T h U aX) B=some (.cells [.bool o] false):=ab
 have I:=P;unfold XI;rw[show eO p=[(p.1:X),.int .i64 (p.2 / 18446744073709551616),.int .u64 (p.2 % 18446744073709551616)]from rfl];refine bl @M ?_;rcases L with⟨rfl,rfl,c3⟩|⟨rfl,bO⟩
 ·refine(QN ).fZ ⟨J,?_⟩;simp(disch:=omega)only[bk,K,I,gc,seval];exact⟨ab,E,J⟩
 ·refine(K7   J a6 (cL.F bO.rd  E J)).fZ ⟨J,?_⟩;simp(disch:=omega)only[bk,K,I,gc,seval];exact⟨by cases q p.1 <;> rfl,E,J⟩
theorem si.Te(G:si g h U aJ)(I:∀b,so=some b->u g b=none)(E:∀d,d<U->d≠aJ->so≠some d->u ac d=u h d):lf g ac:=λd o B=>by
 have D:d<U:=Fo λD=>by rw[G.n d D]at B;grind
 rw[E d D (λe=>by rw[e,G.p]at B;grind) ab];exact G.s d o B
theorem ajh{t:Nat}{S:jq}(K:f4 Z)(W:e2 h U aJ c i 0 Z.C l aQ)(G:si g h U aJ)(H:kf g U c Z i 0)(bo:l.length<900)(ag:i<Z.R)(D:1<=t)(cq:t<900)(ar:jp g U (.agg ⟨[c 28,c 29,c 30,c 31,c 32]⟩) (Z.bB i) (Z.H i) S)(hm:ns h (c 40) (bj (Z.H i) λk=>gb (Z.bB i+k)) so)(mF:∀b,so=some b->b<U/\b≠aJ/\aQ≠some b/\u g b=none)(wb:∀v y,gb v=some y->0<=y/\y<=dg):
  aE Q s 230 [bf aJ,(t:X)] h U (λn2 ac Y=>n2 = .tuple ⟨[]⟩/\∃bL b6,(∀n,n≠22->n≠38->n≠40->(n<33\/38<=n)->bL n=c n)/\bL 38 = .bool true/\bL 40 = .slice none 0 0 /\
   l2 ac U b6 (.agg ⟨[bL 33,bL 34,bL 35,bL 36,bL 37]⟩) (Z.bB i:Int) ((Z.bB i+Z.H i:Nat):Int) (Z.H i) (cA (Z.H i) λk=>(t4 Z.k (iL Z.bR Z.N ((t-1) / 2)) t (fm Z.k t) S gb).A (Z.bB i+k)) (cA (Z.H i) λk=>(t4 Z.k (iL Z.bR Z.N ((t-1) / 2)) t (fm Z.k t) S gb).B (Z.bB i+k)) (λk=>(t4 Z.k (iL Z.bR Z.N ((t-1) / 2)) t (fm Z.k t) S gb).q (Z.bB i+k)) /\
   e2 ac Y aJ bL i 0 Z.C (l++[Dr ((i*Z.C+0:Nat):Int) t (qT Z.k Z.len t (Z.H i) (cA (Z.H i) λk=>(t4 Z.k (iL Z.bR Z.N ((t-1) / 2)) t (fm Z.k t) S gb).A (Z.bB i+k)) (λk=>(t4 Z.k (iL Z.bR Z.N ((t-1) / 2)) t (fm Z.k t) S gb).q (Z.bB i+k)):Int) false]) (some b6)/\U<=b6 /\
   (∀d,d<U->d≠aJ->aQ≠some d->so≠some d->u ac d=u h d)/\U<=Y):=by
 refine aki ?_;generalize UZ:t4 Z.k (iL Z.bR Z.N ((t-1) / 2)) t (fm Z.k t) S gb=jH;have cb:=W.lt;have qc:=ar;obtain⟨dq,fw,fD,hv,fP,hl,gm⟩:=ar;obtain⟨fL,eE,rfl,_⟩:=id fP;obtain⟨fY,f0,rfl,_⟩:=id hl;obtain⟨lP,ia,rfl,_⟩:=id gm;simp only[Value.agg.injEq,x1,wn,iw]at hv;obtain⟨nt,M,sg,je,gj⟩:=hv;rw[nt,M,sg,je,gj]at qc;obtain⟨bg,gw,nx,_⟩:=id H.d;have hN:=H.la K;rw[nx]at hN;have zf:=yH K i;have sd:Z.bB i+Z.H i<=Z.N:=by unfold b8.H;omega
 have hPd:pR h U (.slice bg Z.bR.length gw) Z.k Z.src Z.len Z.N Z.bR:={ hN with d:=vn hN.d G.s }
 have hsh:=hr.sub qc G.s;obtain⟨am,I9,oQ,em⟩:∃a n bL,c 40 = .slice a n bL:=by rcases hm with⟨_,e,_⟩|⟨_,_,e,_⟩ <;> grind
 unfold YT;simp(disch:=omega)only[bk,hS,W.at_,H.aK,H.cc,H.d6,H.hd,nx,nt,M,sg,je,gj,seval];refine(amm hPd hsh sd).mono ?_;rintro _ B E ⟨w,o,rfl,ik,dD,f5⟩;refine⟨f5,?_⟩;obtain⟨gH,gv,n1,rfl⟩:∃a n bL,w = .slice a n bL:=by
  rcases ik with⟨_,e,_⟩|⟨_,bO⟩
  ·grind
  ·obtain⟨a,bL,e,_⟩:=bO
   grind
 have c8:u B aJ=some (.cells (dy c) false):=(dD aJ cb).trans W.at_;refine vm @c8 @em ?_;rw[em]at hm;have er:∀{e7 db gn mg},aA U h (T (T (T (T B E e7) (E+1) db) E gn) (E+1) mg):=aM
 have U0:∀{e7 db gn mg},ns (T (T (T (T B E e7) (E+1) db) E gn) (E+1) mg) (.slice am I9 oQ) (bj (Z.H i) λk=>gb (Z.bB i+k)) so:=hm.F λb e=>er b ab;have fO:=ms (Z.H i) λk=>gb (Z.bB i+k);have fu:=ahU K i;refine(ap0 (q:=λp=>!sR Z.k S (Z.bB i+p.1)) J U0 ab λp a6 ac Y hk dv=>?_).mono ?_
 ·have cu:∀d,d<E+2->U<=d->u ac d=u _ d:=λd D B=>hk d D λe=>ab
  have zc:p.1<Z.H i:=((j0  ).1 a6).1;have bP:=cu E J J;rw[aq J,aR]at bP;have g2:=cu (E+1) J J;rw[aR]at g2;exact ap8  J (AR.F ik ab J) bP g2 J J zc
 rintro eW L bT ⟨dV,eY,ga⟩;have qv:((bj (Z.H i) λk=>gb (Z.bB i+k)).filter λp=>!!sR Z.k S (Z.bB i+p.1))=bj (Z.H i) λk=>if sR Z.k S (Z.bB i+k)=true then gb (Z.bB i+k)else none:=by simp only[Bool.not_not];exact ako (q:=λk=>sR Z.k S (Z.bB i+k))
 rw[qv]at dV;have iS:u L aJ=some (.cells (dy c) false):=ab
 simp(disch:=omega)only[bk,hS,iS,H.aK,nt,M,sg,je,gj,seval];obtain⟨hP,P⟩:∃hP,nJ (hi c 40 (.slice none 0 0)) 33 [.int .i64 (Z.bB i:Int),((Z.bB i+Z.H i:Nat):X),.slice fL (cA (Z.H i) λj=>S.A (Z.bB i+j)).length eE,.slice fY (cA (Z.H i) λj=>S.B (Z.bB i+j)).length f0,.slice lP (eZ (Z.H i) λj=>S.q (Z.bB i+j)).length ia]=hP:=⟨_,rfl⟩
 have mR:∀n,n<33->hP n=c n:=λn bw=>by rw[<-P,tH J,dN J]
 rw[P,mR 2 J,H.aK];refine(PG  K.hL J).fZ ⟨cC _,?_⟩;simp(disch:=omega)only[bk,hS,mR 11 J,H.c11,seval];have hY':∀k y,(if sR Z.k S (Z.bB i+k)=true then gb (Z.bB i+k)else none)=some y->0<=y/\y<=dg:=λk y e=>ab
 refine(apK (QQ K.hL) J (((dV.F   (λb e=>ab) λ_ e=>e).c λb e=>ab).o) hY').mono ?_;rintro _ bY f2 ⟨w,rfl,lV,h3,oB⟩;refine⟨oB,?_⟩;have hV0:=lV;obtain⟨VV,rfl,hvi⟩:=lV;obtain⟨cB,lm,rfl,_⟩:=id hvi;have Ja:∀{o},u (T bY f2 o) aJ=some (.cells (dy hP) false):=λ{o}=>by rw[aq J,h3 aJ J,aR]
 have n0:bin Q .neq 30 (.int .i64 0) (.int .i64 0) = .ok (.bool false):=rfl;have jx:bin Q .eql 30 (.int .i64 0) (.int .i64 0) = .ok (.bool true):=rfl;simp(disch:=omega)only[bk,hS,Ja,mR,H.aK,H.cc,H.d6,H.hd,nx,nt,M,sg,je,gj,n0,jx,seval];have nw:∀{o aX} d,d<U->d≠aJ->so≠some d->u (T (T bY f2 o) f2 aX) d=u h d:=λ{o aX} d D B L=>by rw[aq J,aq J,h3 d J,aq B,aq B,eY d J L];exact er d D
 have aDd:∀{o aX},lf g (T (T bY f2 o) f2 aX):=λ{o aX}=>G.Te (λb e=>(mF b e).2.2.2) nw;refine(akb    (pR.F  { hN with d:=vn hN.d aDd } (aA.refl _ _) J) (hr.F  (hr.sub qc aDd) (aA.refl _ _) J) ((hV0.F   (λb D B=>ab) J J).is) sd D J).mono ?_;rintro V0 eD n7 ⟨zM,hk7,tY⟩
 replace zM:l2 eD (f2+1) n7 V0 (Z.bB i:Int) ((Z.bB i+Z.H i:Nat):Int) (Z.H i) (cA (Z.H i) λk=>jH.A (Z.bB i+k)) (cA (Z.H i) λk=>jH.B (Z.bB i+k)) (λk=>jH.q (Z.bB i+k)):=by subst UZ;exact zM
 have hU0:=zM;obtain⟨aFf,aFg,aFh,rfl,aEv,aEw,aEx⟩:=zM;obtain⟨VF,aU,rfl,_⟩:=id aEv;obtain⟨EX,aK,rfl,_⟩:=id aEw;obtain⟨zF,cc,rfl,_⟩:=id aEx;have V5:u eD aJ=some (.cells (dy hP) false):=(hk7 aJ J).trans ab;have aEy:∀d,d<U->d≠aJ->so≠some d->u eD d=u h d:=λd D B L=>(hk7 d J).trans (nw d D B L);refine Hj @V5 ?_;obtain⟨jh,I⟩:∃jh,nJ hP 33 [.int .i64 (Z.bB i:Int),((Z.bB i+Z.H i:Nat):X),.slice VF (cA (Z.H i) λk=>jH.A (Z.bB i+k)).length aU,.slice EX (cA (Z.H i) λk=>jH.B (Z.bB i+k)).length aK,.slice zF (eZ (Z.H i) λk=>jH.q (Z.bB i+k)).length cc]=jh:=⟨_,rfl⟩
 rw[I];have wd:∀n,(n<33\/38<=n)->n≠40->jh n=c n:=λn bw au=>by rw[<-I,tH bw,<-P,tH bw,dN au]
 have Nx:∀{o} d,d<U->d≠aJ->so≠some d->u (T eD aJ o) d=u h d:=λ{o} d D B L=>(aq B).trans (aEy d D B L);have aEz:∀{o},lf g (T eD aJ o):=λ{o}=>G.Te (λb e=>(mF b e).2.2.2) Nx;refine⟨J,(XL (S:=jH) (low:=Z.bB i) (m:=Z.H i) (W.set (Y:=n7) (aR _ _ _) (wd 0 J J) (wd 1 J J) (wd 8 J J) (wd 22 J J) (λb e=>by have:=W.aQ b e;grind) J) bo (pR.F (Y:=n7) (eW:=jh 6) { hN with d:=?_ } (aA.refl _ _) J) ((wd 2 J J).trans H.aK) ((wd 3 J J).trans H.cc) ((wd 4 J J).trans H.d6) ((wd 5 J J).trans H.hd) ?_ sd).mono ?_⟩
 ·rw[wd 6 J J,nx];exact cL.F (vn hN.d aEz) (aA.refl _ _) J
 ·rw[<-I];exact(hU0.wid (ec:=0) (dk:=n7) (λd D B=>aq J) J (cC _)).rd
 rintro _ mc n8 ⟨rfl,dX,b6,V6,ht,BT,ahV⟩;refine⟨_,b6,λn D B L a9=>?_,?_,?_,?_,V6,J,λd D B L a9=>(BT d J B L).trans (Nx d D B a9),J⟩
 ·rw[dN D,dN B];grind
 ·rfl
 ·rw[dN J,dN J,<-I,tH (by simp),<-P,tH (by simp)];rfl
 ·rw[dN J,dN J,dN J,dN J,dN J,dN J,dN J,dN J,dN J,dN J,<-I];exact hU0.wid (λd D B=>by rw[BT d B J (λe=>by have:=W.aQ d e;omega),aq J]) J ht
end
theorem KS{n:Nat}(v:Nat):jT r (bj n gb) v=if v<n then gb v else none:=by
 have h:=λx=>Rh (r:=r)  (yw n gb) v x;cases B:jT r (bj n gb) v with
 |none =>
  split
  ·cases D:gb v with
   |none=>rfl
   |some y =>
    have:=(h y).2 (j0.2 ab)
    grind
  ·rfl
 |some x =>
  have:=j0.1 ((h x).1 B)
  grind
theorem atX{n:Nat}{D:aa (Nat × Int)}(M:zh r D [] λv=>jT r (bj n gb++bj n y) v):D=bj n λv=>e4 r (gb v) (y v):=by rw[M.done (n:=n) λv B=>by rw[yn,KS,KS,if_neg J,if_neg J];rfl];refine ym λv B=>?_;rw[yn,KS,KS,if_pos B,if_pos B]
theorem iP.Ny{l:aa az}{h:ae}{ap:Nat}(B:0<k)(I:∀x,(enc x).length=k)(H:iP h ap ag v enc k l):mL h ag v enc k l:=by
 rcases H with⟨rfl,rfl|⟨b,rfl⟩⟩|⟨b,D,K,rfl,E⟩
 ·exact⟨_,_,rfl,λh=>absurd rfl h⟩
 ·exact⟨_,_,rfl,λh=>absurd rfl h⟩
 ·exact eb.c B I (.inr ⟨b,D,K,rfl,E⟩)
theorem eb.aEA{h:ae}{ap:Nat}{L:aa (Nat × Int)}(H:eb h v eO 3 L ap ag):∃so,ns h v L so/\∀b,so=some b->ap<=b/\b<ag:=by
 rcases H with⟨rfl,rfl⟩|⟨b,D,E,rfl,B⟩
 ·exact⟨none,.inl ab,ab⟩
 ·exact⟨some b,.inr ⟨b,rfl,rfl,B⟩,ab⟩
theorem nR:wE Q 3=true:=by kernel_rfl
theorem aAU:bin Q .neq 86 (.int .i64 0) (.int .i64 0) = .ok (.bool false):=by kernel_rfl
def GaK(Z:b8)(c:Nat->X)(aJ i t bZ ir:Nat)(S:jq)(gb y:Nat->aw Int)(dU:Nat->al)(l:aa eB)(aQ:aw Nat)(h:ae)(U:Nat):bN:=λn2 ac Y=>n2 = .bool true/\∃bL gQ sj dx,iN ac bZ Z.C (λk=>if k=ir then true else dU k) (λ_ v=>v = .bool true)/\U<=Y/\(∀d,d<U->d≠aJ->d≠bZ->aQ≠some d->u ac d=u h d) /\
   e2 ac Y aJ bL i 0 Z.C (l++dx) gQ/\(∀b,sj=some b->U<=b/\b<Y/\gQ≠some b) /\
   ((∃k,k<Z.C/\(if k=ir then true else dU k)=false)/\(∀n,n≠40->bL n=c n)/\dx=[]/\gQ=aQ/\ns ac (bL 40) (bj (Z.H i) λk=>e4 (fm Z.k t) (gb (Z.bB i+k)) (y (Z.bB i+k))) sj \/
   (∀k,k<Z.C->(if k=ir then true else dU k)=true)/\(∀n,n≠22->n≠38->n≠40->(n<33\/38<=n)->bL n=c n)/\bL 38 = .bool true/\bL 40 = .slice none 0 0/\sj=none/\∃b6 jH,gQ=some b6/\jH=t4 Z.k (iL Z.bR Z.N ((t-1) / 2)) t (fm Z.k t) S (λv=>e4 (fm Z.k t) (gb v) (y v))/\U<=b6 /\
    l2 ac U b6 (.agg ⟨[bL 33,bL 34,bL 35,bL 36,bL 37]⟩) (Z.bB i:Int) ((Z.bB i+Z.H i:Nat):Int) (Z.H i) (cA (Z.H i) λk=>jH.A (Z.bB i+k)) (cA (Z.H i) λk=>jH.B (Z.bB i+k)) (λk=>jH.q (Z.bB i+k)) /\
    dx=[Dr ((i*Z.C+0:Nat):Int) t (qT Z.k Z.len t (Z.H i) (cA (Z.H i) λk=>jH.A (Z.bB i+k)) (λk=>jH.q (Z.bB i+k)):Int) false])
section
variable {s:al} {g cd h ac:ae} {U Y aJ i j ap:Nat} {c bL:Nat->X} {l:aa eB} {aQ so:aw Nat} {Z:b8}
theorem aji{f:eB}{p:kH}{t bZ:Nat}{S:jq}(K:f4 Z)(W:e2 h U aJ c i 0 Z.C l aQ)(G:si g h U aJ)(H:kf g U c Z i 0)(bo:l.length<900)(ag:i<Z.R)(E:1<=t)(cq:t<900)(bK:lH h ap U f p)(lO:p.round=(t:Int))(gI:p.nZ=bj (Z.H i) λk=>y (Z.bB i+k))(wb:∀v x,gb v=some x->0<=x/\x<=dg)(ck:∀v x,y v=some x->0<=x/\x<=dg)(c0:∀v x,e4 (fm Z.k t) (gb v) (y v)=some x->0<=x/\x<=dg)(ar:jp g U (.agg ⟨[c 28,c 29,c 30,c 31,c 32]⟩) (Z.bB i) (Z.H i) S)(hm:ns h (c 40) (bj (Z.H i) λk=>gb (Z.bB i+k)) so)(mF:∀b,so=some b->b<U/\b≠aJ/\aQ≠some b)(EJ:c 26 = ((t-1:Nat):X))(MZ:c 27 = .int .i64 0)(M0:c 38 = .bool false)(nQ:c 41 = .map (some bZ))(h9:iN h bZ Z.C dU λ_ v=>v = .bool true)(L:bZ<U/\bZ≠aJ/\aQ≠some bZ/\u g bZ=none)(b5:ir<Z.C)(h8:dU ir=false):
  aE Q s 135 [bf aJ,.agg ⟨eg f⟩,.agg ⟨[(i:X),(ir:X)]⟩] h U (GaK Z c aJ i t bZ ir S gb y dU l aQ h U):=by
 refine akf ?_;have cb:=W.lt;obtain⟨D,rfl⟩:∃D,t=D+1:=⟨t-1,J⟩
 have b4:∀{o aX},aA U h (T (T h U o) (U+1) aX):=aM
 have pt:∀{o aX},u (T (T h U o) (U+1) aX) aJ=some (.cells (dy c) false):=λ{o aX}=>(b4 aJ cb).trans W.at_;have V4:IntKind.wrap .i64 ((D:Int)+1)=((D+1:Nat):Int):=cD J;have Td:c 26 = (D:X):=EJ;have n0:(((0:Nat):Int) == 0)=true:=rfl;have gD:∀{y:Int},((y == y):al)=true:=ab
 have fu:=ahU K i;have U1:f.round=((D+1:Nat):Int):=bK.is.round.trans lO;have H5:∀{o aX},iN (T (T h U o) (U+1) aX) bZ Z.C dU λ_ v=>v = .bool true:=λ{o aX}=>h9.F ab ab;have BU:∀{o aX},j3 Q (T (T h U o) (U+1) aX) 3 (.bool false) false (.map (some bZ)) (ir:X) = .ok (.bool false):=λ{o aX}=>by obtain⟨v,e,_⟩:=(H5  ).get nR b5;rw[h8]at e;exact e
 unfold YQ eg;simp(disch:=omega)only[bk,hS,pt,W.pG,W.c1,n0,gD,MZ,aAU,M0,U1,Td,V4,nQ,BU,seval];have eD:=bK.jh;rw[gI]at eD;have fO:=ms (Z.H i) λk=>y (Z.bB i+k);have aB7:=ms (Z.H i) λk=>gb (Z.bB i+k);refine(akm  pt J H.c11 ((mL.o (iP.Ny (k:=3) J (λ_=>rfl) eD)).F  b4 J) J (yw _ _) λq c3=>((j0  ).1 c3).1).cu λI bQ dD f5=>⟨f5,?_⟩
 have c8:=(dD aJ J).trans pt;have hR:=(dD U J).trans ((aq J).trans (aR _ _ _));have dl:=(dD (U+1) J).trans (aR _ _ _);unfold x8;refine AS @c8 @hR @dl H.aK ?_;refine(PG  K.hL J).fZ ⟨J,?_⟩;obtain⟨am,I9,oQ,em⟩:∃a n bL,c 40 = .slice a n bL:=by rcases hm with⟨_,e,_⟩|⟨_,_,e,_⟩ <;> grind
 refine AS @c8 @hR @dl @em ?_;rw[em]at hm;have M1:∀{o},aA U h (T I bQ o):=aM
 have hLs:Bc (T I bQ (.cells [.slice am I9 oQ,.slice f.ba f.n7 f.jh] false)) (bQ+1) (.slice (some ⟨bQ,0,none⟩) 2 2) [(.slice am I9 oQ,bj (Z.H i) λk=>gb (Z.bB i+k)),(.slice f.ba f.n7 f.jh,bj (Z.H i) λk=>y (Z.bB i+k))]:=by
  refine⟨cL.o  ab ⟨_,_,rfl,λ_=>⟨bQ,none,false,J,rfl,aR _ _ _⟩⟩,λq c3=>?_⟩;rcases gh.1 c3 with rfl|c3
  ·exact⟨mL.F (hm.b.c ab) M1 J,yw _ _,ab,λa dR=>wb _ _ ((j0  ).1 dR).2⟩
  ·rw[iu.1 c3];exact⟨mL.F (iP.Ny  J (λ_=>rfl) eD) M1 J,yw _ _,ab,λa dR=>ck _ _ ((j0  ).1 dR).2⟩
 have aEB:rL [(Value.slice am I9 oQ,bj (Z.H i) λk=>gb (Z.bB i+k)),(Value.slice f.ba f.n7 f.jh,bj (Z.H i) λk=>y (Z.bB i+k))]=(bj (Z.H i) λk=>gb (Z.bB i+k))++bj (Z.H i) λk=>y (Z.bB i+k):=by
  show _++(_++[])=_
  grind
 refine(YN (QQ K.hL) (by simp) hLs ab).mono ?_;rintro _ B bT ⟨w,fz,rfl,bO,zt,M,ga⟩;refine⟨J,?_⟩;rw[aEB]at zt;rw[atX zt]at bO;obtain⟨sj,kj,Tf⟩:=eb.aEA bO;obtain⟨gH,gv,n1,rfl⟩:∃a n bL,w = .slice a n bL:=by rcases kj with⟨_,e,_⟩|⟨_,_,e,_⟩ <;> grind
 have fC:aA U h B:=M1.trans M J;have iS:=(M aJ J).trans ((aq J).trans c8);have fX:=(M U J).trans ((aq J).trans hR);have eH:=(M (U+1) J).trans ((aq J).trans dl);have r0':∀{o},u (T B aJ o) U=_:=λ{o}=>(aq J).trans fX;have r1':∀{o},u (T B aJ o) (U+1)=_:=λ{o}=>(aq J).trans eH;obtain⟨o,gE,fI⟩:=(h9.F (ac:=T B aJ (.cells (dy (hi c 40 (.slice gH gv n1))) false)) ((aq L.2.1).trans (fC bZ L.1)) λ_ _ h=>h).put  nR b5 h8 rfl;have P:=fI (T (T B aJ (.cells (dy (hi c 40 (.slice gH gv n1))) false)) bZ o) (aR _ _ _);obtain⟨m,aU,aK,cc⟩:=P.len;have nX:u (T (T B aJ (.cells (dy (hi c 40 (.slice gH gv n1))) false)) bZ o) aJ=some (.cells (dy (hi c 40 (.slice gH gv n1))) false):=(aq (λe=>L.2.1 e.symm)).trans (aR _ _ _);have n5:u (T (T B aJ (.cells (dy (hi c 40 (.slice gH gv n1))) false)) bZ o) U=_:=(aq J).trans r0';rw[show h0 ir = (ir:X)from rfl]at gE;simp(disch:=omega)only[bk,hS,iS,r1',nQ,gE,nX,aU,W.hc,n5,seval];generalize BV:T (T B aJ _) bZ o=iq at P nX n5 ⊢;have nw:∀d,d<U->d≠aJ->d≠bZ->u iq d=u h d:=λd E I B=>by rw[<-BV,aq B,aq I];exact fC d E
 have zO:e2 iq bT aJ (hi c 40 (.slice gH gv n1)) i 0 Z.C l aQ:=W.set nX (dN J) (dN J) (dN J) (dN J) (λb e=>by have:=W.aQ b e;grind) J;have hO5:ns iq (.slice gH gv n1) (bj (Z.H i) λk=>e4 (fm Z.k (D+1)) (gb (Z.bB i+k)) (y (Z.bB i+k))) sj:=kj.F λb e=>ab
 refine⟨λe=>?_,λe=>?_⟩
 ·have pe:∀k,k<Z.C->(if k=ir then true else dU k)=true:=λk hk=>ab
  refine(ajh  (gb:=λv=>e4 (fm Z.k (D+1)) (gb v) (y v))  K zO ⟨λd o bh=>?_,G.p,λd bh=>G.n d J⟩ ((H.set λn E I=>dN J).F  (aA.refl _ _) J) bo ag E cq (hr.F ar (aA.refl _ _) J) hO5 (λb e=>?_) c0).mono ?_
  ·have E:d<U:=Fo λE=>by rw[G.n d E]at bh;grind
   rw[nw d E (λe=>by rw[e,G.p]at bh;grind) λe=>by grind];exact G.s d o bh
  ·have:=Tf b e;exact⟨this.2,J,λdS=>by have:=W.aQ b dS;omega,G.n b J⟩
  rintro _ cy n6 ⟨rfl,bL,b6,Bn,h38,zu,dV,ip,ht,ja,dv⟩;refine⟨rfl,bL,some b6,none,_,P.F (ja bZ J L.2.1 L.2.2.1 λe=>ab) λ_ _ h=>h,J,λd E I B a9=>(ja d J I a9 λe=>ab).trans (nw d E I B),ip,(nofun),.inr ⟨pe,λn E I B a9=>(Bn n E I B a9).trans (dN B),h38,zu,rfl,b6,_,rfl,rfl,J,dV.wid (λ_ _ _=>rfl) J (cC _),rfl⟩⟩
 ·have eh:=rt.1 e;refine⟨rfl,_,aQ,sj,[],P,J,λd E I B _=>nw d E I B,by rw[hz];exact zO,λb e=>?_,.inl ⟨cc.1 J,λn bw=>dN bw,rfl,rfl,hO5⟩⟩;have:=Tf b e;exact⟨J,this.2,λdS=>by have:=W.aQ b dS;omega⟩
end
theorem ayY:rG Q 171=true:=by kernel_rfl
def QS(Z:b8)(j t:Nat)(x:Nat->aw Int)(i:Nat):kH:=⟨2,(j:Int),((i*Z.C+j:Nat):Int),(t:Int),(Z.W j:Int),bj (Z.W j) (λk=>x (Z.lc j+k)),[],0,false⟩
def td(h:ae)(ap ag:Nat)(Z:b8)(j:Nat)(x:Nat->aw Int)(i:Nat)(v:X):Prop:=lv h ap ag v (Z.cl (i+1) j-Z.cl i j) (λk=>x (Z.cl i j+k))
def ShK(Z:b8)(g:ae)(c:Nat->X)(aJ j t bx dQ:Nat)(x:Nat->aw Int)(e9:Nat->al)(l:aa eB)(aQ:aw Nat)(h:ae)(U:Nat):bN:=λn2 ac Y=>n2 = .bool true/\∃bL gQ dx B,U<=B/\B<=Y/\(∀d,d<U->d≠aJ->d≠bx->aQ≠some d->u ac d=u h d) /\
 e2 ac Y aJ bL 0 j Z.C (l++dx) gQ /\
 ((∃k,k<Z.R/\(if k=dQ then true else e9 k)=false)/\(∀n,bL n=c n)/\dx=[]/\gQ=aQ/\iN ac bx Z.R (λk=>if k=dQ then true else e9 k) (λi v=>td g 0 U Z j x i v\/td ac U Y Z j x i v) \/
 (∀k,k<Z.R->(if k=dQ then true else e9 k)=true)/\(∀n,n≠22->n≠23->bL n=c n)/\bL 23 = ((t+1:Nat):X)/\kO ac U B dx ((List.range Z.R).map (QS Z j t x))/\(∃cI,u ac bx=some (.map [] cI))/\∃b6,gQ=some b6/\B<=b6)
def yI(p:Nat × X):aa X:=[(p.1:X),qq p.2]
theorem awt(p:Nat × X):d4 (yI p)=true:=by obtain⟨a,v⟩:=p;cases v <;> rfl
theorem ac4:∀{L:aa (Nat × X)},(∀p∈L,qq p.2=p.2)->a7 yI L=a7 yD L
 | [],_=>rfl
 |p::L,h=>by
  show yI p++a7 yI L=yD p++a7 yD L;rw[ac4 ab];unfold yI yD
  grind
theorem eb.e6{h:ae}{L:aa (Nat × X)}{ap:Nat}(H:eb h v yI 2 L ap ag)(B:∀p∈L,qq p.2=p.2):eb h v yD 2 L ap ag:=by
 unfold eb at *
 rw[<-ac4 B];exact H
def aAV(Z:b8)(aJ j bT:Nat)(x:Nat->aw Int)(jj:ae)(m:Nat)(aF:aa X)(ac:ae)(Y:Nat):Prop :=
 ∃k acc L,m=Z.R-k/\k<=Z.R/\aF=[bf aJ,acc,(Z.R:X),(k:X)]/\eb ac acc yI 2 L bT Y/\L.length=k /\
  (∀i p,L[i]? = some p->qq p.2=p.2/\p.1=Z.cl (i+1) j-Z.cl i j/\ep jj bT p.2 fF 2 (bj p.1 λk=>x (Z.cl i j+k)))/\aA bT jj ac/\bT<=Y
def aAW(Z:b8)(aJ j a5 U t:Nat)(x:Nat->aw Int)(c:Nat->X)(l:aa eB)(aQ:aw Nat)(h ji:ae)(m:Nat)(aF:aa X)(ac:ae)(Y:Nat):Prop :=
 ∃k bL gQ dx B,m=Z.R-k/\k<=Z.R/\aF=[bf aJ,bf a5,(Z.R:X),(k:X)]/\(∀n,n≠22->bL n=c n)/\e2 ac Y aJ bL 0 j Z.C (l++dx) gQ /\
  kO ac U B dx ((List.range k).map (QS Z j t x))/\a5+1<=B/\B<=Y/\(∀b,gQ=some b->aQ=some b\/B<=b)/\(0<k->∃b,gQ=some b/\B<=b)/\(∀d,U<=d->d<=a5->u ac d=u ji d)/\(∀d,d<U->d≠aJ->aQ≠some d->u ac d=u h d)
section
variable {s:al} {g cd h ac:ae} {U Y aJ i j ap:Nat} {c bL:Nat->X} {l:aa eB} {aQ so:aw Nat} {Z:b8}
theorem DJ(K:f4 Z)(i j:Nat):Z.cl i j<=Z.cl (i+1) j/\Z.cl i j<=60:=by have D:=yH K i;have E:=DI K j;have B:=K.n60;unfold b8.cl jz;omega
theorem akp{f:eB}{p:kH}{t bx dQ:Nat}{x:Nat->aw Int}{e9:Nat->al}(K:f4 Z)(W:e2 h U aJ c 0 j Z.C l aQ)(G:si g h U aJ)(H:kf h U c Z 0 j)(bo:l.length+Z.R<900)(cq:t<900)
  (bK:nc h U f p) (lO:p.round=(t:Int)) (ek:p.mm=((Z.cl (dQ+1) j-Z.cl dQ j:Nat):Int)) (hy:p.ml=bj (Z.cl (dQ+1) j-Z.cl dQ j) λk=>x (Z.cl dQ j+k))
  (e23:c 23 = (t:X)) (pw:c 24 = .map (some bx)) (h9:iN h bx Z.R e9 (td g 0 U Z j x)) (M:bx<U/\bx≠aJ/\aQ≠some bx/\u g bx=none) (b5:dQ<Z.R) (h8:e9 dQ=false):
  aE Q s 133 [bf aJ,.agg ⟨eg f⟩,.agg ⟨[(dQ:X),.int .i64 0]⟩] h U (ShK Z g c aJ j t bx dQ x e9 l aQ h U):=by
 refine amp ?_;have cb:=W.lt;have b4:∀{o aX},aA U h (T (T h U o) (U+1) aX):=aM
 have pt:∀{o aX},u (T (T h U o) (U+1) aX) aJ=some (.cells (dy c) false):=λ{o aX}=>(b4 aJ cb).trans W.at_;have lh:=DJ K dQ j;have aCD:=DJ K (dQ+1) j;have nM:∀b,aQ=some b->b<U:=λb e=>(W.aQ b e).2;have aEC:∀{o aX},e2 (T (T h U o) (U+1) aX) (U+2) aJ c 0 j Z.C l aQ:=λ{o aX}=>W.F ab J;have gD:∀{y:Int},((y == y):al)=true:=ab
 have n0:(((0:Nat):Int) == 0)=true:=rfl;have U1:f.round=(t:Int):=bK.round.trans lO;unfold aaJ eg;refine aG ?_;refine(amw aEC (H.F  b4 J) K b5).fZ ⟨J,?_⟩;refine aG ?_;refine(XN  (bK.F  b4 J) hy ek J).mono ?_;rintro _ D E ⟨v,rfl,lV,e5,fi⟩;refine⟨fi,?_⟩;have cM:=b4.trans e5 J;have hR:=(e5 U J).trans ((aq J).trans (aR _ _ _));have dl:=(e5 (U+1) J).trans (aR _ _ _);have Nv:=(e5 aJ J).trans pt;obtain⟨gB,rfl,xE⟩:=lV;obtain⟨cB,lm,rfl⟩:=xE.form;have hM1:∀{H},u H bx=u D bx->iN H bx Z.R e9 (td g 0 U Z j x):=λ{H} e=>h9.F (e.trans (cM bx M.1)) λ_ _ h=>h;have BU:∀{o aX},j3 Q (T (T D E o) E aX) 3 (.agg #[.int .i64 0,.slice none 0 0]) true (.map (some bx)) (dQ:X) = .ok (.tuple #[.agg #[.int .i64 0,.slice none 0 0],.bool false]):=λ{o aX}=>by obtain⟨v,e,_⟩:=(hM1 (H:=T (T D E o) E aX) ab).get nR b5  (ok:=true);rw[h8]at e;exact e
 simp(disch:=omega)only[bk,hS,Nv,hR,dl,pw,BU,W.pG,gD,n0,U1,e23,seval];unfold CK;generalize l7:T (T (T (T D E _) E _) (E+1) _) (E+1) _=gM;have db:∀d,d<E->u gM d=u D d:=λd bh=>ab
 have uA:=(db aJ J).trans Nv;have bP:=(db (U+1) J).trans dl;have V3:u gM E=some (.cells [((Z.cl (dQ+1) j-Z.cl dQ j:Nat):X),.slice cB (bj (Z.cl (dQ+1) j-Z.cl dQ j) λk=>x (Z.cl dQ j+k)).length lm] false):=ab
 clear l7;have hN:td D U E Z j x dQ (.agg ⟨[((Z.cl (dQ+1) j-Z.cl dQ j:Nat):X),.slice cB (bj (Z.cl (dQ+1) j-Z.cl dQ j) λk=>x (Z.cl dQ j+k)).length lm]⟩):=⟨_,rfl,xE.gv.F (λ_ _ _=>rfl) J (cC _)⟩
 obtain⟨o,gE,fI⟩:=((hM1 (db bx J)).F (VI:=λi v=>td g 0 U Z j x i v\/td D U E Z j x i v) rfl λ_ _ h=>.inl h).put nR b5 h8 (.inr hN);have IG:=fI (T gM bx o) (aR _ _ _);obtain⟨m,aU,aK,cc⟩:=IG.len;rw[show h0 dQ = (dQ:X)from rfl]at gE;have U2:u (T gM bx o) aJ=some (.cells (dy c) false):=(aq (kI M.2.1)).trans uA;simp(disch:=omega)only[bk,hS,uA,bP,V3,pw,gE,U2,aU,H.gI,seval];have lN:∀d,d<U->d≠bx->u (T gM bx o) d=u h d:=λd D I=>by rw[aq I,db d J];exact cM d D
 have ro:e2 (T gM bx o) (E+2) aJ c 0 j Z.C l aQ:=W.F (λd bh=>lN d (bh.elim (λe=>e ▸ cb) (nM d)) (bh.elim (λe=>e ▸ kI M.2.1) λe dS=>M.2.2.1 ab)) J;refine⟨λvt=>⟨rfl,c,aQ,[],E+2,J,cC _,λd D I aT _=>lN d D aT,by rw[hz];exact ro,.inl ⟨cc.1 vt,λ_=>rfl,rfl,rfl,IG.F rfl λi v P=>P.imp id λP=>P.F (λb D I=>ab) (cC _) J⟩⟩,λeG=>?_⟩;have pe:∀k,k<Z.R->(if k=dQ then true else e9 k)=true:=λk hk=>ab
 have kZ:lf g (T gM bx o):=G.Te (so:=some bx) (λb e=>ab) λd D I aT=>lN d D λe=>aT (by rw[e]);have U3:∀k v,td g 0 U Z j x k v\/td D U E Z j x k v->j2 (T gM bx o) (E+2) v (Z.cl (k+1) j-Z.cl k j) λq=>x (Z.cl k j+q):=λk v P=>by
  rcases P with P|P
  ·obtain⟨gB,e,P⟩:=lv.is P;exact⟨gB,e,(P.sub kZ).F (aA.refl _ _) J⟩
  ·exact j2.F (lv.is (P.F (ac:=T gM bx o) (ec:=0) (dk:=E) (λb D I=>ab) J (cC _))) (aA.refl _ _) J
 have Tg:E+1+1=E+2:=rfl;rw[Tg];generalize T gM bx o=jj at IG U2 lN ro U3 kZ ⊢;generalize Ey:E+2=bT at ro U3 ⊢;refine bE.mk (aAV Z aJ j bT x jj) Z.R ⟨0,_,[],J,J,rfl,.inl ⟨rfl,rfl⟩,rfl,(λ_ _ h=>by simp at h),aA.refl _ _,cC _⟩ ?_;rintro _ _ I bQ ⟨k,acc,L,rfl,hk,rfl,dV,hLl,fJ,dD,f5⟩;rw[akc];unfold XF;have c8:=(dD aJ J).trans U2;obtain⟨bC,VZ,qu,rfl⟩:=dV.form;refine aG ?_;refine⟨λBe=>?_,λaAX=>?_⟩
 ·obtain⟨v,cu,P⟩:=(IG.F (ac:=I) (dD bx J) λ_ _ h=>h).get nR Be (z:=.agg #[.int .i64 0,.slice none 0 0]) (ok:=false);obtain⟨vi',rfl,ahW⟩:=U3 k v (P (pe k Be));rw[pe k Be,show h0 k = (k:X)from rfl]at cu;have ek':j3 Q I 3 (.agg #[.int .i64 0,.slice none 0 0]) false (.map (some bx)) (k:X) = .ok (.agg ⟨[((Z.cl (k+1) j-Z.cl k j:Nat):X),vi']⟩):=cu;obtain⟨i0,qr,rfl,_⟩:=id ahW;refine AS @c8 @pw @ek' (cD (J:k<1000000000000)) ?_;refine mu (enc:=yI) (k:=2) (ap:=bT) (λ_=>rfl) awt J (dV.F (dk:=bQ+1) (λd D I=>aq J) J) J (Z.cl (k+1) j-Z.cl k j,.slice i0 (bj (Z.cl (k+1) j-Z.cl k j) λq=>x (Z.cl k j+q)).length qr) (aR _ _ _) rfl J λdX bY r5 h3=>?_;refine⟨_,J,k+1,_,_,rfl,J,rfl,r5,ab,λi p a6=>?_,λd bh=>by rw[h3 d bh,aq J];exact dD d bh,J⟩
  by_cases hik:i<L.length
  ·rw[tt hik]at a6;exact fJ i p a6
  ·rw[Fc J]at a6;obtain⟨e,rfl⟩:i-L.length=0/\_=p:=by
    cases c3:i-L.length with
    |zero=>rw[c3]at a6;exact⟨rfl,Option.some.inj a6⟩
    |succ q=>grind
   obtain rfl:i=k:=J
   exact⟨rfl,rfl,ahW⟩
 have BR:k=Z.R:=J
 subst BR;have nh:∀k,k<=Z.R->Z.cl k j<=60:=λk _=>(DJ K k j).2;have hPc:AJ I bQ (.slice bC VZ qu) (λi=>Z.cl i j) Z.R x:=⟨⟨L,hLl,(eb.c (k:=2) J (λ_=>rfl) (eb.e6 dV λp a6=>by obtain⟨i,ag⟩:=Fg.1 a6;grind)).o,λi p a6=>⟨(fJ i p a6).2.1,(fJ i p a6).2.2.F dD f5⟩⟩,λi=>(DJ K i j).1,iv (DJ K Z.R j).2 J⟩
 refine Lv @c8 H.cc H.gI W.hc W.c1 ?_;refine(atA (x:=x) (j:=j) (iv K.n60 J) K.lW K.oa K.hF K.mV W.wc hPc).mono ?_;rintro _ a9 dP ⟨w,rfl,⟨VV,rfl,zq⟩,g8,g5⟩;refine⟨g5,?_⟩;obtain⟨gH,n1,rfl⟩:=zq.form;have nX:=(g8 aJ J).trans c8;refine vm @nX H.gI ?_;generalize BV:T (T a9 dP _) dP _=iq;have hw:u iq dP=some (.cells [.int .i64 (Z.W j:Int),.slice gH (bj (Z.W j) λk=>x (Z.lc j+k)).length n1] false):=by rw[<-BV,aR];rfl
 have v5:∀d,d≠dP->u iq d=u a9 d:=λd bh=>ab
 clear BV;have kk5:∀d,d<bT->u iq d=u jj d:=λd D=>by rw[v5 d J,g8 d J,dD d J]
 refine bE.mk (aAW Z aJ j dP U t x c l aQ iq iq) Z.R ⟨0,c,aQ,[],dP+1,J,J,rfl,λ_ _=>rfl,by rw[hz];exact ro.F (λd bh=>kk5 d (bh.elim (λe=>J) λe=>ab)) J,trivial,cC _,cC _,λb e=>.inl e,λh=>absurd h J,λd _ _=>rfl,λd bh _ _=>rfl⟩ ?_;rintro _ _ cy n6 ⟨k,hQ,U4,dx,B,rfl,hk,rfl,BQ,ob,hn,vI,sh,aAY,Th,hX,xv⟩;rw[akd];unfold XG;have eM:(dx.length:Nat)=k:=by rw[hn.len,gX,CA]
 have oZ:=(hX dP J (cC _)).trans hw;have j23:=(BQ 23 J).trans e23;have j24:=(BQ 24 J).trans pw;refine aG ?_;refine⟨λS6=>?_,λaAZ=>?_⟩
 ·refine vm ob.at_ ob.c1 ?_;refine(FV ob.at_ ob.hF ob.mV (by have:=K.oa;omega) ob.wc ob.hc).fZ ⟨cC _,?_⟩;refine yG ob.at_ @j23 @oZ ?_;refine(Gf ob ab ⟨2,0,((k*Z.C+j:Nat):Int),0,(t:Int),(Z.W j:Int),gH,(bj (Z.W j) λk=>x (Z.lc j+k)).length,n1,none,0,0,none,0,0,0,false⟩).mono ?_;rintro _ eD n7 ⟨rfl,dX,b6,zN,ht,sa,tY⟩;refine⟨tY,?_⟩;refine bl (cD (J:k<1000000000000)) ?_;have q4:∀d,U<=d->d<B->U4≠some d:=λd D I e=>ab
  refine⟨_,J,k+1,_,some b6,dx++[_],B,rfl,J,rfl,λn bw=>?_,by rw[<-kl];exact zN,?_,J,J,λb e=>.inr ab,λ_=>⟨b6,rfl,J⟩,λd D I=>?_,λd D I aT=>?_⟩
  ·rw[dN bw];grind
  ·rw[rv,iU];refine(hn.F (λb D I=>sa b J J (q4 b D I)) (cC _) J).app ⟨⟨rfl,?_,rfl,rfl,rfl,?_,wY,rfl,rfl,rfl⟩,trivial⟩
   ·show((0*Z.C+j:Nat):Int)=(j:Int)
    omega
   ·exact eJ.F zq.gv (λb D I=>ab) J J
  all_goals grind
 ·have BR:k=Z.R:=J
  subst BR;obtain⟨b6,rfl,ht⟩:=Th J;obtain⟨V7,cI,vS,_,_⟩:=IG.ex;have oI:u cy bx=some (.map (lz h0 V7) cI):=by rw[xv bx M.1 M.2.1 M.2.2.1,kk5 bx J];exact vS.at_
  have U5:∀{o},u (T cy bx o) aJ=some (.cells (dy hQ) false):=λ{o}=>by rw[aq (kI M.2.1)];exact ob.at_
  simp(disch:=omega)only[bk,hS,ob.at_,j24,Tb ayY oI,dO,U5,j23,cD (J:t<1000000000000),seval];refine⟨rfl,_,some b6,dx,B,J,sh,λd D I aT a9=>?_,ob.set (aR _ _ _) (dN J) (dN J) (dN J) (dN J) (λb e=>ab) (cC _),.inr ⟨pe,λn D I=>by rw[dN I];grind,yF,hn.F (λb D I=>by rw[aq J,aq J]) (cC _) (cC _),⟨cI,ab⟩,b6,rfl,ht⟩⟩
  grind
end
def RS:aa (aa Nat):=[[0,3,4,11]]
def ac5(s:al)(aC a3 aZ et:X)(h:ae)(U:Nat)(N:aP)(aL:aP)(R:aP):Prop:=vB s h U et λa b c=>af (cp a 0) λd=>br d (af (wL b et) λe=>af (cp e 1) λf=>bX [(ad 0),(ad 0),(ad 0),(ad 0),(ad 0),(ad 0),ay,ay,ay,(ad 0),(.bool false)] b c λg i j=>af (aS i 11 g f) λk=>br a3 (br aZ (N [aC,(.bool true),(.bool true),et] k j) (ax k 9 g λm=>bt .neq 2 m (ad 0) λn=>N [aC,(.bool true),n,et] k j)) (ax k 10 g λp=>br aZ (N [aC,p,(.bool true),et] k j) (ax k 9 g λr=>bt .neq 2 r (ad 0) λt=>N [aC,p,t,et] k j))) (aL [aC,a3,aZ,et] b c)
def agF:cU:=λs ah h U K=>af (bs ah) λa=>ax h 43 a λc=>dG (sJ h U c) λd e f=>bE (bU Q s RS 231 0) [ah,(.bool false),(.bool false),d] e f [(0,λg i j=>br (bb g 1) (K (ad 3) i j) (af (du .not (bb g 2)) λk=>br k (K (ad 1) i j) (af (bs (bb g 0)) λl=>ax i 42 l λn=>af (bs (bb g 0)) λo=>ax i 9 o λq=>bz .eql 3 n q (K (ad 2) i j) (K (ad 0) i j))))] (λ_ _ _=>False)
theorem atY{s:al}{B:X}{h:ae}{U:Nat}{R:aP}:bU Q s RS 231 0 [aC,a3,aZ,B] h U N [(0,aL)] R=ac5 s aC a3 aZ B h U N aL R:=by kernel_rfl
theorem awu:cW 231 agF:=cY RS
def PJ:aa (aa Nat):=[[3,10]]
def YU(s:al)(a3 dd:X)(h:ae)(U:Nat)(N:aP)(aL:aP)(R:aP):Prop:=vB s h U dd λa b c=>af (cp a 0) λd=>br d (af (wL b dd) λe=>af (cp e 0) λf=>af (cp e 1) λg=>bX [(ad 0),(ad 0)] b c λi j k=>af (aS j 2 i f) λl=>aV s 145 [g] l k λm n o=>jY m (ad 0) (aN 2 n i λq=>dY (fc 1 [(ad 0),(ad 0)] [(0,2,q)]) n o λr t aO=>dG (dO (dM 2 t aO a3 r)) λv w x=>N [v,dd] w x) (N [a3,dd] n o)) (aL [a3,dd] b c)
def ac6:cU:=λs ah h U K=>af (bs ah) λa=>ax h 13 a λc=>dG (sJ h U c) λd e f=>bE (bU Q s PJ 144 0) [ay,d] e f [(0,λg i j=>aV s 239 [(bb g 0),(.func (.func 240) #[] #[])] i j λk l m=>K (bb g 0) l m)] (λ_ _ _=>False)
theorem amz{s:al}{h:ae}{U:Nat}{R:aP}:bU Q s PJ 144 0 [a3,dd] h U N [(0,aL)] R=YU s a3 dd h U N aL R:=by kernel_rfl
theorem ap9:cW 144 ac6:=cY PJ
def PK:aa (aa Nat):=[[3,12]]
def YV(s:al)(a3 ej:X)(h:ae)(U:Nat)(N:aP)(aL:aP)(R:aP):Prop:=vB s h U ej λa b c=>af (cp a 0) λd=>br d (af (wL b ej) λe=>af (cp e 1) λf=>aV s 248 [f] b c λg i j=>ln a3 g λk=>N [k,ej] i j) (aL [a3,ej] b c)
def ac7:cU:=λs ah h U K=>bz .neq 110 ah (.pointer none) (af (bs ah) λb=>ax h 13 b λd=>dG (sJ h U d) λe f g=>bE (bU Q s PK 152 0) [(ad 0),e] f g [(0,λi j k=>K (bb i 0) j k)] (λ_ _ _=>False)) (K (ad 0) h U)
theorem amA{s:al}{B:X}{h:ae}{U:Nat}{R:aP}:bU Q s PK 152 0 [a3,B] h U N [(0,aL)] R=YV s a3 B h U N aL R:=by kernel_rfl
theorem aqa:cW 152 ac7:=cY PK
theorem ayZ:rG Q 173=true:=by kernel_rfl
def tF(Z:b8)(V:Nat)(st:Int)(i:Nat):kH:=⟨5,0,((i*Z.C+0:Nat):Int),(V:Int),0,[],[],st,false⟩
def IH(jk:Nat->Int)(i:Nat)(v:X):Prop:=∃f:eB,v = .agg ⟨eg f⟩/\f.oC=false/\f.n=jk i
theorem amB{s:al}{Z:b8}{jk:Nat->Int}{h:ae}{U aJ cw:Nat}{c:Nat->X}{K:bN}(bO:u h aJ=some (.cells (dy c) false))(UU:aJ<U)(jD:c 9 = (Z.lim:X))(e42:c 42 = (V:X))(sk:c 43 = .map (some cw))(ur:cw<U)(h9:iN h cw Z.R dU (IH jk))(h8:∀k,k<Z.R->dU k=true)(hk:K (.int .i64 (wA false (decide (∃i,i<Z.R/\jk i≠0)) (V:Int) (Z.lim:Int))) h U):aE Q s 231 [bf aJ] h U K:=by
 obtain⟨L,cI,vS,h1,ao⟩:=h9.ex;refine aE.plain (v:=.int .i64 (wA false (decide (∃i,i<Z.R/\jk i≠0)) (V:Int) (Z.lim:Int))) rfl ?_ hk;refine awu ?_;unfold agF;refine vm @bO @sk ?_;refine vS.rR λaT I eY=>?_;refine bE.mk (λm aF ac Y=>∃ti D,m=D.length/\aF=[bf aJ,.bool false,.bool ti,bf U]/\xu ac U cw cI L D/\((ti=true\/∃e∈D,jk e.1≠0)↔∃i,i<Z.R/\jk i≠0)/\(∀e∈D,e∈L)/\aA U h ac/\U+1<=Y) L.length
  ⟨false,L,rfl,rfl,I,?_,λe h=>h,λc a1=>eY c J,J⟩ ?_
 ·constructor
  ·rintro(h|⟨e,b0,h⟩)
   ·cases h
   ·exact⟨e.1,(h1 e b0).1,h⟩
  ·rintro⟨i,ag,h⟩;obtain⟨e,b0,rfl⟩:=(ao i ag).1 (h8 i ag);exact .inr ⟨e,b0,h⟩
 rintro _ _ a9 dP ⟨ti,D,rfl,rfl,Jb,P,ub,M,g5⟩;rw[atY];unfold ac5;have ts:=vS.F (ac:=a9) (M cw ur);have uA:=(M aJ UU).trans bO;refine ts.fG Jb J (λaL=>?_) λe B bY b0 a6 Cn h3 xF=>?_
 ·subst aL;refine yG @uA @e42 @jD ?_;have hL:aA U h a9:=M;have P:ti=true↔∃i,i<Z.R/\jk i≠0:=by rw[<-P];simp
  unfold wA;cases ti <;> grind
 ·obtain⟨f,qv,gE,eM⟩:=(h1 e b0).2;have n4:=a6.length_eq;simp only[nC]at n4;have hm:∀x∈B,x∈L:=λx E=>ub x (a6.mem_iff.2 (jZ _ E));have c3:(∃e∈D,jk e.1≠0)↔jk e.1≠0\/∃e∈B,jk e.1≠0:=by
   constructor
   ·rintro⟨x,E,h⟩;rcases gh.1 (a6.mem_iff.1 E)with rfl|E
    ·exact .inl h
    ·exact .inr ⟨x,E,h⟩
   ·rintro(h|⟨x,E,h⟩)
    ·exact⟨e,a6.mem_iff.2 (mr ..),h⟩
    ·exact⟨x,a6.mem_iff.2 (jZ _ E),h⟩
  rw[c3]at P;rw[qv]at xF ⊢;unfold eg at xF ⊢;refine hV @xF @gE @eM ?_;refine⟨λbo=>⟨B.length,J,true,B,rfl,rfl,Cn.F ab,?_,hm,λc a1=>aM,J⟩,λbo=>⟨B.length,J,_,B,rfl,rfl,Cn.F ab,?_,hm,λc a1=>aM,J⟩⟩
  ·grind
  ·grind
def VoK(Z:b8)(c:Nat->X)(aJ V cw dQ:Nat)(jk:Nat->Int)(fQ:Nat->al)(l:aa eB)(aQ:aw Nat)(h:ae)(U:Nat):bN:=λn2 ac Y=>n2 = .bool true/\∃bL gQ dx B,U<=B/\B<=Y/\(∀d,d<U->d≠aJ->d≠cw->aQ≠some d->u ac d=u h d) /\
 e2 ac Y aJ bL 0 0 Z.C (l++dx) gQ /\
 ((∃k,k<Z.R/\(if k=dQ then true else fQ k)=false)/\(∀n,bL n=c n)/\dx=[]/\gQ=aQ/\iN ac cw Z.R (λk=>if k=dQ then true else fQ k) (IH jk) \/
 (∀k,k<Z.R->(if k=dQ then true else fQ k)=true)/\(∀n,n≠22->n≠42->n≠44->bL n=c n)/\∃st,st=wA false (decide (∃i,i<Z.R/\jk i≠0)) (V:Int) (Z.lim:Int)/\bL 42 = ((V+1:Nat):X)/\bL 44 = .bool (!(st == 0))/\kO ac U B dx ((List.range Z.R).map (tF Z V st))/\(∃cI,u ac cw=some (.map [] cI))/\∃b6,gQ=some b6/\B<=b6)
def VoJ(Z:b8)(aJ U a5 V:Nat)(st:Int)(c:Nat->X)(l:aa eB)(aQ:aw Nat)(h:ae)(m:Nat)(aF:aa X)(ac:ae)(Y:Nat):Prop :=
 ∃k bL gQ dx B,m=Z.R-k/\k<=Z.R/\aF=[bf aJ,(st:X),(Z.R:X),(k:X)]/\(∀n,n≠22->bL n=c n)/\e2 ac Y aJ bL 0 0 Z.C (l++dx) gQ /\
  kO ac U B dx ((List.range k).map (tF Z V st))/\a5<=B/\B<=Y/\(∀b,gQ=some b->aQ=some b\/B<=b)/\(0<k->∃b,gQ=some b/\B<=b)/\(∀d,d<a5->d≠aJ->aQ≠some d->u ac d=u h d)
section
variable {s:al} {g cd h ac:ae} {U Y aJ i j ap:Nat} {c bL:Nat->X} {l:aa eB} {aQ so:aw Nat} {Z:b8}
theorem amC{f:eB}{cw dQ:Nat}{jk:Nat->Int}{fQ:Nat->al}(K:f4 Z)(W:e2 h U aJ c 0 0 Z.C l aQ)(gI:c 7 = (Z.R:X))(jD:c 9 = (Z.lim:X))(bo:l.length+Z.R<900)(cq:V<900)(lO:f.round=(V:Int))(gE:f.oC=false)(eM:f.n=jk dQ)(P:c 42 = (V:X))(I:c 43 = .map (some cw))(e44:c 44 = .bool false)(h9:iN h cw Z.R fQ (IH jk))(ur:cw<U/\cw≠aJ/\aQ≠some cw)(b5:dQ<Z.R)(h8:fQ dQ=false):
  aE Q s 136 [bf aJ,.agg ⟨eg f⟩,.agg ⟨[(dQ:X),.int .i64 0]⟩] h U (VoK Z c aJ V cw dQ jk fQ l aQ h U):=by
 refine ap3 ?_;have cb:=W.lt;have nM:∀b,aQ=some b->b<U:=λb e=>(W.aQ b e).2;have gD:∀{y:Int},((y == y):al)=true:=ab
 have b4:∀{o aX},aA U h (T (T h U o) (U+1) aX):=aM
 have pt:∀{o aX},u (T (T h U o) (U+1) aX) aJ=some (.cells (dy c) false):=λ{o aX}=>(b4 aJ cb).trans W.at_;have c0':c 0 = .int .i64 0:=W.pG;have U6:c 1 = .int .i64 0:=W.c1;have BU:∀{o aX},j3 Q (T (T h U o) (U+1) aX) 3 (.agg #[.int .i64 0,.int .i64 0,.int .i64 0,.int .i64 0,.int .i64 0,.int .i64 0,.slice none 0 0,.slice none 0 0,.slice none 0 0,.int .i64 0,.bool false]) true (.map (some cw)) (dQ:X) = .ok (.tuple #[.agg #[.int .i64 0,.int .i64 0,.int .i64 0,.int .i64 0,.int .i64 0,.int .i64 0,.slice none 0 0,.slice none 0 0,.slice none 0 0,.int .i64 0,.bool false],.bool false]):=λ{o aX}=>by obtain⟨v,e,_⟩:=(h9.F (ac:=T (T h U o) (U+1) aX) ab λ_ _ h=>h).get nR b5;rw[h8]at e;exact e
 unfold ac0 eg;simp(disch:=omega)only[bk,hS,pt,I,BU,aws c0' U6,QR,e44,lO,P,gD,seval];unfold CT;generalize l7:T (T (T (T h U _) (U+1) _) (U+1+1) _) (U+1+1) _=gM;have db:∀d,d<U->u gM d=u h d:=ab
 have bP:u gM (U+1)=some (.cells [(dQ:X),.int .i64 0] false):=ab
 have cH:u gM U=some (.cells (eg f) false):=by rw[<-l7,aq J,aq J,aq J,aR];unfold eg;rw[lO]
 have uA:=(db aJ cb).trans W.at_;obtain⟨o,eo',fI⟩:=(h9.F (db cw ur.1) λ_ _ h=>h).put  nR b5 h8 ⟨f,rfl,gE,eM⟩;have M:=fI (T gM cw o) ab;obtain⟨m,aU,aK,cc⟩:=M.len;rw[show h0 dQ = (dQ:X)from rfl]at eo';have E:u (T gM cw o) aJ=some (.cells (dy c) false):=ab
 have iQ:hB (some 11) 0 (eg f) = .ok (.agg ⟨eg f⟩):=rfl;simp(disch:=omega)only[bk,hS,uA,bP,cH,iQ,I,eo',E,aU,gI,seval];have lN:∀d,d<U->d≠cw->u (T gM cw o) d=u h d:=ab
 have ro:e2 (T gM cw o) (U+3) aJ c 0 0 Z.C l aQ:=W.F ab J;refine⟨λvt=>⟨rfl,c,aQ,[],U+3,J,J,ab,by rw[hz];exact ro,ab⟩,λeG=>?_⟩;have L:∀k,k<Z.R->(if k=dQ then true else fQ k)=true:=ab
 refine amB E J jD P I J M L ?_;generalize jc:wA _ _ _ _=st;refine vm @E @gI ?_;obtain⟨V7,cI,vS,_,_⟩:=M.ex;have Ib:=vS.at_;have Tg:U+1+1+1=U+3:=rfl;rw[Tg];generalize T gM cw o=jj at Ib E lN ro ⊢;refine bE.mk (VoJ Z aJ U (U+3) V st c l aQ jj) Z.R ⟨0,c,aQ,[],U+3,J,J,rfl,ab,by rw[hz];exact ro,trivial,J,J,ab,λh=>absurd h J,ab⟩ ?_;rintro _ _ cy n6 ⟨k,hQ,U4,dx,B,rfl,hk,rfl,BQ,D,hn,vI,sh,aAY,Th,xv⟩;rw[amq];unfold YR;have en6:(dx.length:Nat)=k:=by rw[hn.len,gX,CA]
 have j42:=(BQ 42 J).trans P;have j43:=(BQ 43 J).trans I;refine aG ?_;refine⟨λS6=>?_,λaAZ=>?_⟩
 ·refine(FV  D.at_ D.hF D.mV (by have:=K.oa;omega) D.wc D.hc).fZ ⟨cC _,?_⟩;refine vm D.at_ @j42 ?_;refine(Gf D ab ⟨5,0,((k*Z.C+0:Nat):Int),0,(V:Int),0,none,0,0,none,0,0,none,0,0,st,false⟩).mono ?_;rintro _ eD n7 ⟨rfl,dX,b6,zN,ht,sa,tY⟩;refine⟨tY,?_⟩;refine bl (cD (J:k<1000000000000)) ?_;have q4:∀d,U<=d->d<B->U4≠some d:=λd h1 ao e=>ab
  refine⟨_,J,k+1,_,some b6,dx++[_],B,rfl,J,rfl,λn bw=>?_,by rw[<-kl];exact zN,?_,J,J,λb e=>.inr ab,λ_=>⟨b6,rfl,J⟩,λd h1 ao aT=>?_⟩
  ·rw[dN bw];grind
  ·rw[rv,iU];refine(hn.F (λb h1 ao=>sa b J J (q4 b h1 ao)) (cC _) J).app ⟨⟨rfl,?_,rfl,rfl,rfl,wY,wY,rfl,rfl,rfl⟩,trivial⟩;show((0*Z.C+0:Nat):Int)=0;omega
  grind
 ·have BR:k=Z.R:=J
  subst BR;obtain⟨b6,rfl,ht⟩:=Th J;have oI:u cy cw=some (.map (lz h0 V7) cI):=ab
  have U5:∀{o},u (T cy cw o) aJ=some (.cells (dy hQ) false):=λ{o}=>by rw[aq (kI ur.2.1)];exact D.at_
  simp(disch:=omega)only[bk,hS,D.at_,j43,Tb ayZ oI,dO,U5,j42,cD (J:V<1000000000000),seval];refine⟨rfl,_,some b6,dx,B,J,sh,λd h1 ao aT a9=>?_,D.set (aR _ _ _) (by rw[dN J,dN J]) (by rw[dN J,dN J]) (by rw[dN J,dN J]) (by rw[dN J,dN J]) (λb e=>ab) (cC _),.inr ⟨L,λn h1 ao aT=>by rw[dN aT,dN ao];grind,st,jc.symm,by rw[dN J,yF],yF,hn.F (λb h1 ao=>ab) (cC _) (cC _),⟨cI,ab⟩,b6,rfl,ht⟩⟩
  grind
end
section
variable {s:al} {g cd h ac:ae} {U Y aJ i j C R dQ mp:Nat} {c bL:Nat->X} {l:aa eB} {aQ so:aw Nat} {Z:b8}
theorem QT(I:1<=C)(L:C<=8)(ag:dQ<8)(E:mp<C):aE Q s 131 [(C:X),((dQ*C+mp:Nat):X)] h U (fs (dQ:X) U h):=by
 refine awc ?_;have M:dQ*C<=7*C:=qD C J;refine aae.mono ?_;rintro _ _ _ ⟨rfl,rfl,rfl⟩;rw[lu J];have D:(dQ*C+mp) / C=dQ:=by rw[x4,Nat.mul_add_div J,NV E];rfl
 have B:bin Q .quo 3 (((dQ*C+mp:Nat):X)) (C:X) = .ok (dQ:X):=by rw[Ar J,show((dQ*C+mp:Nat):Int).tdiv (C:Int)=(((dQ*C+mp) / C:Nat):Int)from rfl,D,jM J J]
 have aK:IntKind.wrap .i64 ((C:Int)*8)=((C*8:Nat):Int):=by rw[show(C:Int)*8=((C*8:Nat):Int) by omega];exact jM J J
 generalize K:dQ*C+mp=n at *
 refine hV @yk @B @aK ?_;exact⟨λh=>absurd h J,λ_=>⟨λh=>absurd h J,λ_=>⟨rfl,rfl,rfl⟩⟩⟩
theorem QU(D:1<=C)(K:C<=8)(ag:dQ<8)(B:mp<C):aE Q s 132 [(C:X),((dQ*C+mp:Nat):X)] h U (fs (mp:X) U h):=by
 refine awd ?_;refine(QT D K ag B).fZ ?_;have I:(dQ*C+mp) % C=mp:=by rw[x4,Nat.mul_add_mod,Jy B]
 have E:bin Q .rem 3 (((dQ*C+mp:Nat):X)) (C:X) = .ok (mp:X):=by rw[KF J,show((dQ*C+mp:Nat):Int).tmod (C:Int)=(((dQ*C+mp) % C:Nat):Int)from rfl,I]
 refine bl @E ?_;exact⟨λh=>absurd h J,λ_=>⟨rfl,rfl,rfl⟩⟩
theorem Gg{f:eB}{lL:Nat}{I:bN}(W:e2 h U aJ c i j C l aQ)(gI:c 7 = (R:X))(ef:R<=8)(K:f.l6=((i*C+j:Nat):Int))(M:f.eu=((dQ*C+mp:Nat):Int))(ag:dQ<R)(L:mp<C)(cu:f.kind=(lL:Int))(hkd:1<=lL/\lL<=5)
  (B:∀ac Y,aA U h ac->U<=Y->aE Q s (132+lL) [bf aJ,.agg ⟨eg f⟩,.agg ⟨[(dQ:X),(mp:X)]⟩] ac Y I):
  aE Q s 63 [bf aJ,.agg ⟨eg f⟩] h U I:=by
 refine atU ?_;have cb:=W.lt;have b4:∀{o},aA U h (T h U o):=aM
 have E:∀{o},e2 (T h U o) (U+1) aJ c i j C l aQ:=λ{o}=>W.F (λd bh=>b4 d (bh.elim J λe=>(W.aQ d e).2)) J;have gD:∀{y:Int},((y == y):al)=true:=ab
 have hm:dQ*C+mp<R*C:=by
  have:dQ*C+C<=R*C:=by rw[<-Fv];exact qD C J
  omega
 have P:R*C<=8*8:=sA ef W.mV;have aK:IntKind.wrap .i64 ((R:Int)*(C:Int))=((R*C:Nat):Int):=by rw[<-Int.natCast_mul];exact jM J J
 have aL:¬(((dQ*C+mp:Nat):Int)<0):=J
 unfold ae4;unfold eg at B ⊢;simp(disch:=omega)only[bk,pL D5,seval];refine(akk E).fZ ⟨J,?_⟩;simp(disch:=omega)only[bk,K,M,gD,hS,E.at_,gI,W.hc,yk,aK,seval];refine⟨λh=>absurd h aL,λ_=>?_⟩;rw[gY hm];unfold Ge;simp(disch:=omega)only[bk,hS,E.at_,W.hc,seval];refine(QT W.hF W.mV J L).fZ ⟨J,?_⟩;simp(disch:=omega)only[bk,hS,E.at_,W.hc,seval];refine(QU W.hF W.mV J L).fZ ⟨J,?_⟩;simp only[K,M,cu]at B;have D:∀{o e7 db},aA U h (T (T (T h U o) (U+1) e7) (U+1) db):=aM
 rcases(by omega:lL=1\/lL=2\/lL=3\/lL=4\/lL=5)with rfl|rfl|rfl|rfl|rfl
 ·simp(disch:=omega)only[bk,cu,show(((1:Nat):Int) == 1)=true from rfl,seval];exact B _ (U+2) D J
 ·simp(disch:=omega)only[bk,cu,show(((2:Nat):Int) == 1)=false from rfl,show(((2:Nat):Int) == 2)=true from rfl,seval];exact B _ (U+2) D J
 ·simp(disch:=omega)only[bk,cu,show(((3:Nat):Int) == 1)=false from rfl,show(((3:Nat):Int) == 2)=false from rfl,show(((3:Nat):Int) == 3)=true from rfl,seval];exact B _ (U+2) D J
 ·simp(disch:=omega)only[bk,cu,show(((4:Nat):Int) == 1)=false from rfl,show(((4:Nat):Int) == 2)=false from rfl,show(((4:Nat):Int) == 3)=false from rfl,show(((4:Nat):Int) == 4)=true from rfl,seval];exact B _ (U+2) D J
 ·simp(disch:=omega)only[bk,cu,show(((5:Nat):Int) == 1)=false from rfl,show(((5:Nat):Int) == 2)=false from rfl,show(((5:Nat):Int) == 3)=false from rfl,show(((5:Nat):Int) == 4)=false from rfl,show(((5:Nat):Int) == 5)=true from rfl,seval];exact B _ (U+2) D J
end
theorem aaO{s:al}{n:Nat}{h:ae}{U:Nat}(D:cL h U v j8 (eZ n q)):aE Q s 139 [v] h U (λr ac Y=>eJ ac U Y r j8 (eZ n q)/\aA U h ac/\U<=Y):=by
 by_cases E:n=0
 ·subst E;obtain⟨a,cap,rfl,_⟩:=id D;have K:aA U h (T h U (.cells [] false)):=aM
  refine ab9 ?_;unfold RB;simp(disch:=omega)only[bk,Al ahE,seval];refine⟨λ_=>⟨⟨_,_,rfl,λh=>absurd rfl h⟩,aM⟩,λ_=>?_⟩;exact⟨⟨_,_,rfl,λh=>absurd rfl h⟩,K,J⟩
 ·have e:eZ n q=[mk n q]:=if_neg E;rw[e]at D ⊢;refine(aoy D).mono ?_;rintro _ ac Y ⟨b,c,M,rfl,L,ao,I,P,B⟩;exact⟨⟨_,_,rfl,λ_=>⟨b,M,false,L,ao,rfl,I⟩⟩,P,B⟩
section
variable {s:al} {g cd h ac:ae} {U Y aJ i j C low m:Nat} {c bL:Nat->X} {l:aa eB} {aQ so:aw Nat} {S:jq}
theorem amD(W:e2 h U aJ c i j C l aQ)(ar:jp h U (.agg ⟨[c 28,c 29,c 30,c 31,c 32]⟩) low m S)(hm:m<=60):
  aE Q s 69 [bf aJ] h U (λr ac Y=>l2 ac U Y r (low:Int) ((low+m:Nat):Int) m (cA m λk=>S.A (low+k)) (cA m λk=>S.B (low+k)) (λk=>S.q (low+k))/\aA U h ac/\U<=Y):=by
 refine ap2 ?_;have cb:=W.lt;obtain⟨dq,fw,fD,hv,fP,hl,gm⟩:=ar;obtain⟨fL,eE,rfl,_⟩:=id fP;obtain⟨fY,f0,rfl,_⟩:=id hl;obtain⟨lP,ia,rfl,_⟩:=id gm;simp only[Value.agg.injEq,x1,wn,iw]at hv;obtain⟨nt,vT,sg,P,gj⟩:=hv;have b4:∀{o e7 db},aA U h (T (T (T h U o) (U+1) e7) (U+1) db):=aM
 have pt:∀{o},u (T h U o) aJ=some (.cells (dy c) false):=λ{o}=>by rw[aq J];exact W.at_
 unfold acZ;simp(disch:=omega)only[bk,hS,pL D5,pt,W.at_,nt,vT,sg,P,gj,seval];refine(FU (fP.F  b4 J) (by rw[jl];omega)).mono ?_;rintro v1 h1 a5 ⟨lW,E,K⟩;refine⟨K,?_⟩;have M:=(E (U+1) J).trans (aR _ _ _);have t1:=(E U J).trans ((aq J).trans ((aq J).trans (aR _ _ _)));have cM:=b4.trans E J;refine bl @M ?_;refine(FU (hl.F  cM J) (by rw[jl];omega)).mono ?_;rintro v2 ao bQ ⟨Jc,B,I⟩;refine⟨I,?_⟩;have g2:=(B (U+1) J).trans M;have t2:=(B U J).trans t1;have er:=cM.trans B J;refine cN @M @g2 ?_;refine(aaO (gm.F  er J)).mono ?_;rintro v3 aT bT ⟨Co,D,L⟩;refine⟨L,?_⟩;have dp:=(D (U+1) J).trans g2;have t3:=(D U J).trans t2;obtain⟨iD,cz,rfl,_⟩:=id lW;obtain⟨h7,cE,rfl,_⟩:=id Jc;obtain⟨hM,cm,rfl,_⟩:=id Co;refine ls @M @g2 @dp @t3 ?_;refine⟨⟨_,_,_,rfl,lW.F (λd h1 ao=>by rw[aq J,D d J,B d J]) J J,Jc.F (λd h1 ao=>by rw[aq J,D d J]) J J,Co.F ab J J⟩,aM,J⟩
end
def xc(gs ai:aa GE):Prop:=kL ((yC gs).map dJ) (ai.map dJ)
def Hk(gs ai:aa GE):Prop:=∃cs:aa GE,kL ((GV gs).map dJ) (cs.map dJ)/\xc cs ai
def HB(gs ai:aa GE):Prop:=∃us cs:aa GE,kL ((yC gs).map dJ) (us.map dJ)/\kL ((gs++us).map dJ) (cs.map dJ)/\Hk cs ai
def ay0(gs ai:aa GE):Prop:=∃cs:aa GE,kL ((GA gs).map dJ) (cs.map dJ)/\HB cs ai
def HC(R:aa GE->Prop)(N U:Nat)(h:ae):bN:=λr ac Y=>∃m ai,r = .tuple ⟨[m,.int .i64 0]⟩/\R ai/\(∀g∈ai,g7 N g)/\hh N N ai/\wO ac U Y m N N ai/\aA U h ac/\U<=Y
theorem pD.can{N q U:Nat}{h ac K:ae}{Y B:Nat}{EZ:aa GE}{r:X}(S:pD N q U h ac Y gs v)(c3:U<=q)(bc:yU N EZ Y ac r K B):∃(I:aa GE) (a:aw Addr) (n c:Nat),r = .agg ⟨[(N:X),.slice a n c]⟩/\kL (EZ.map dJ) (I.map dJ)/\I.length<=EZ.length/\u K q=some (.cells [(N:X),v] false)/\Y<=B/\pD N q U h (T K q (.cells [(N:X),.slice a n c] false)) B I (.slice a n c):=by
 obtain⟨v2,I,rfl,D,L,M,lh,E,P⟩:=bc;have cb:=S.lt;obtain⟨a,n,c,rfl⟩:=D.form;refine⟨I,a,n,c,rfl,L,lh,(E q J).trans S.g,P,ab,?_,?_,M,?_,J⟩
 ·rw[aq J,E _ cb];exact S.m
 ·refine fj.of ?_;have:eb (T K q (.cells [(N:X),.slice a n c] false)) (.slice a n c) cR 3 I Y B:=by
   rcases D with D|⟨b,h1,K,e,aW⟩
   ·exact .inl D
   ·exact .inr ⟨b,h1,K,e,ab⟩
  exact this.rd
 ·intro b aW;rw[aq J,E b J];exact S.k b aW
theorem atZ{s:al}{N:Nat}{h:ae}{U:Nat}(aI:fj h U v cR gs)(d7:N<=4096)(L:∀g∈gs,g7 N g)(bo:gs.length<=120):aE Q s 189 [.agg ⟨[(N:X),v]⟩] h U (HC (xc gs) N U h):=by
 refine afR ?_;obtain⟨a,cap,rfl,a1⟩:=id aI;unfold SZ;refine aG ?_;have b4:∀{o aX},aA U h (T (T h U o) (U+1) aX):=aM
 refine(Pt (aI.F b4 J) d7 L bo).mono ?_;rintro r h1 nj ⟨rfl,E,fi⟩;have cH:=E U J;rw[aq J,aR]at cH;have dZ:=E (U+1) J;rw[aR]at dZ;have cM:aA U h h1:=aM
 refine bl @cH ?_;refine(Rx (aI.F cM J) J bo L).mono ?_;rintro r ao np ⟨v2,ai,rfl,l5,K,D,ug,I,f5⟩;have aAh:ai.length<=gs.length:=iv ug (Ak gs);have h9:hh N N ai:=ata K D d7 J;obtain⟨a3,ci,rfl,hc3⟩:=id l5.gv;refine aG ?_;refine bE.mk (CgJ U (U+1) N (.slice a3 ai.length ci) .nilFunc ai np ao) ai.length ⟨0,_,rfl,J,rfl,.inl ab,aM,J⟩ ?_;rintro m _ aT vN ⟨i,o,rfl,ag,rfl,S,B,ga⟩;rw[adQ];unfold Rs;refine aG ?_;refine⟨λcb=>?_,λeG=>?_⟩
 ·obtain⟨e,b0⟩:=dH cb;obtain⟨b,aB,bG,g6,eR,rfl,aW⟩:=hc3 ab;have mK:=(B b eR).trans aW;simp(disch:=omega)only[bk,mK,aga b0,seval];refine mu  (k:=3)  (λ_=>rfl) (λ_=>rfl) J (S.F ab J) J e (aR _ _ _) rfl ab λB7 bY P h3=>?_;have pk:ai.take (i+1)=ai.take i++[e]:=by rw[gW,b0];rfl
  exact⟨ai.length-(i+1),J,i+1,B7,rfl,J,by rw[cD J],by rw[pk];exact P,λc a1=>by rw[h3 c a1,aq J,aq J,aq J];exact B c a1,J⟩
 ·have uk:i=ai.length:=J
  subst uk;rw[ic]at S;have Ue:=(B U J).trans ((I U J).trans cH);have Uf:=(B (U+1) J).trans ((I (U+1) J).trans dZ);refine bl @Ue ?_;refine(Py (fj.of S.rd) h9).mono ?_;rintro r cy rc ⟨ef,hX,kN⟩;obtain⟨dL,aB,gD,a2,bQ,c2,aZ,dP,hP,rfl⟩:=ef.is.form;have M:=(hX (U+1) J).trans Uf;refine bl @M ?_;exact⟨_,_,rfl,K,D,h9,ef.F ab J J,aM,J⟩
def vw(k:Int)(gs ai:aa GE):Prop:=if k=5 then ay0 gs ai else if k=3 then HB gs ai else if k=1 then Hk gs ai else xc gs ai
theorem YW{s:al}{k n src P:Int}{bR:aa Int}{es:aa hZ}{h:ae}{U:Nat}(bh:cL h U eW c4 bR)(b0:fj h U gV iI es)(K:es.length<=60\/65536<es.length)(hm0:kv k n src len bR P es=0):
  aE Q s 114 [.agg ⟨[(k:X),(n:X),(src:X),(len:X),eW]⟩,.agg ⟨[(P:X),gV]⟩] h U (HC (vw k (es.map nP)) P.toNat U h):=by
 refine abF ?_;obtain⟨a,cap,rfl,a1⟩:=id bh;obtain⟨a2,pf,rfl,oG⟩:=id b0;unfold Rr;refine aG ?_;have b4:∀{o aX ll},aA U h (T (T (T h U o) (U+1) aX) (U+1+1) ll):=aM
 refine(J0 (bh.F b4 J)).mono ?_;rintro r h1 nj ⟨rfl,e5,fi⟩;have i2:=e5 U J;rw[aq J,aq J,aR]at i2;have o0:=e5 (U+1) J;rw[aq J,aR]at o0;have uF:=e5 (U+1+1) J;rw[aR]at uF;have cM:aA U h h1:=aM
 generalize pn:i5 k n src len bR=ak at *
 by_cases hs:ak=0
 case neg =>
  exact absurd hm0 (by unfold kv;omega)
 subst hs;refine cN @o0 @i2 ?_;refine⟨λeh=>?_,λt6=>?_⟩
 ·have eh:P≠n:=ab
  exact absurd hm0 (by unfold kv;omega)
 have t6:P=n:=ab
 have Ia:kv k n src len bR P es=lq P es:=by unfold kv;omega
 refine(Qo (b0.F cM J)).mono ?_;rintro r ao np ⟨rfl,D,f5⟩;have er:=cM.trans D J;have BL:=(D U J).trans i2;have U7:=(D (U+1) J).trans o0;have Mw:=(D (U+1+1) J).trans uF
 by_cases M:lq P es=0
 case neg =>
  exact absurd J M
 rw[M]at Ia ⊢;have K:=af9 M K;obtain⟨N,rfl,d7,oJ,gS⟩:=(Kl.1 M).ges;have pu:=((b0.F cM J).F D f5).map oJ;rw[<-gX ]at K;generalize jP:es.map nP=gs at K gS pu ⊢;generalize hRR:vw k gs=R;have B:es.length=gs.length:=ab
 rw[B]at U7 pu;have tj:pD N (U+1) U h ao np gs (.slice a2 gs.length pf):=⟨U7,Mw,pu,gS,er,J⟩
 rw[Ju];have tail:∀{ac:ae} {Y:Nat} {gs:aa GE} {a:aw Addr} {n c:Nat},pD N (U+1) U h ac Y gs (.slice a n c)->U<=Y->gs.length<=120->(∀ai,xc gs ai->R ai)->sF s (HC R N U h) (.pointer (some ⟨U+1,0,none⟩)) (.pointer (some ⟨U+1+1,0,none⟩)) ac Y:=λ{ac Y gs a n c} S bd bo mh=>by have cb:=S.lt;unfold sF;refine bl S.g ?_;refine(atZ S.p d7 S.ok bo).mono ?_;rintro r cy rc ⟨m,ai,rfl,eI,aA0,h9,ef,hX,kN⟩;obtain⟨dL,aB,gD,a2,bQ,c2,aZ,dP,hP,rfl⟩:=ef.is.form;have oZ:=(hX _ S.lt).trans S.m;refine bl @oZ ?_;exact⟨_,_,rfl,mh ai eI,aA0,h9,ef.F ab J J,λb aW=>by rw[aq J,hX b J];exact S.k b aW,J⟩
 have plain:∀{ac:ae} {Y:Nat} {gs:aa GE} {a:aw Addr} {n c:Nat},pD N (U+1) U h ac Y gs (.slice a n c)->U<=Y->gs.length<=120->(∀ai,Hk gs ai->R ai)->aE Q s 188 [.agg ⟨[(N:X),.slice a n c]⟩] ac Y λL I U8=>(dn L).length=2/\af (jQ (u I (U+1)) I (U+1) 0 (dn L)) λU9=>sF s (HC R N U h) (.pointer (some ⟨U+1,0,none⟩)) (.pointer (some ⟨U+1+1,0,none⟩)) U9 U8:=λ{ac Y gs a n c} S bd bo mh=>by refine(ab5 S.p J bo S.ok).mono ?_;intro r cy rc bc;obtain⟨cs,bp,n6,hQ,rfl,E,B,c3,dv,uG⟩:=S.can J bc;refine bl @c3 ?_;exact tail uG J (by have:=Ak (p:=λ_=>true) (m:=LP) gs;unfold GV at B;omega) λai h=>mh ai ⟨cs,E,h⟩
 have yR:∀{ac:ae} {Y:Nat} {gs:aa GE} {a:aw Addr} {n c:Nat},pD N (U+1) U h ac Y gs (.slice a n c)->U<=Y->gs.length<=60->(∀ai,HB gs ai->R ai)->aE Q s 181 [.agg ⟨[(N:X),.slice a n c]⟩] ac Y λIc BM BN=>(dn Ic).length=2/\af (jQ (u BM (U+1)) BM (U+1) 0 (dn Ic)) λvO=>af (Dk (u vO (U+1)) λcs x=>hB (some 2) 0 cs) λUg=>aE Q s 188 [Ug] vO BN λL I U8=>(dn L).length=2/\af (jQ (u I (U+1)) I (U+1) 0 (dn L)) λU9=>sF s (HC R N U h) (.pointer (some ⟨U+1,0,none⟩)) (.pointer (some ⟨U+1+1,0,none⟩)) U9 U8:=λ{ac Y gs a n c} S bd bo mh=>by refine(aeq S.p J bo S.ok).mono ?_;rintro r cy rc ⟨us,hus,ug,_,bc⟩;obtain⟨cs,bp,n6,hQ,rfl,E,B,c3,dv,uG⟩:=S.can J bc;rw[ib]at B;refine bl @c3 ?_;exact plain uG J J λai h=>mh ai ⟨us,cs,hus,E,h⟩
 refine cN @U7 @BL ?_;refine⟨λhd=>?_,λhd=>⟨λcc=>yR tj J K λai h=>?_,λcc=>⟨λaU=>plain tj J J λai h=>?_,λaU=>tail tj J J λai h=>?_⟩⟩⟩
 ·refine(ZY tj.p J J gS).mono ?_;intro r cy rc bc;obtain⟨cs,bp,n6,hQ,rfl,E,B,c3,dv,uG⟩:=tj.can J bc;have BJ:=Ak (p:=Dp) (m:=id) gs;unfold GA at B;refine bl @c3 ?_;refine yR uG J J λai h=>?_;rw[<-hRR,sB.1 hd];exact⟨cs,E,h⟩
 all_goals
  rw[<-hRR];unfold vw;rw[if_neg (rt.1 hd)]
 ·rw[if_pos (sB.1 cc)];exact h
 ·rw[if_neg (rt.1 cc),if_pos (sB.1 aU)];exact h
 ·rw[if_neg (rt.1 cc),if_neg (rt.1 aU)];exact h
theorem RT{a b:GE}(h:dJ a=dJ b):a=b:=by
 cases a;cases b;simp only[dJ,Prod.mk.injEq]at h
 grind
theorem ac8:∀{l B:aa GE},l.map dJ=B.map dJ->l=B
 | [],[],_=>rfl
 |a::l,b::B,h=>by simp only[uO,wn]at h;rw[RT h.1,ac8 h.2]
 | [],_::_,h=>by cases h
 |_::_,[],h=>by cases h
theorem GH{A:aa dC}{l B:aa GE}(h:kL A (l.map dJ))(ac:kL A (B.map dJ)):l=B:=ac8 (h.unique ac)
theorem aaP(h:xc gs ai)(ac:xc gs us):ai=us:=GH h ac
theorem YX(h:Hk gs ai)(ac:Hk gs us):ai=us:=by obtain⟨a,B,h⟩:=h;obtain⟨b,D,ac⟩:=ac;rw[GH D B]at ac;exact aaP h ac
theorem aaQ(h:HB gs ai)(ac:HB gs us):ai=us:=by obtain⟨a,c,D,I,h⟩:=h;obtain⟨b,d,E,B,ac⟩:=ac;rw[GH E D]at B;rw[GH B I]at ac;exact YX h ac
theorem aqb{k:Int}(h:vw k gs ai)(ac:vw k gs us):ai=us:=by
 unfold vw at h ac
 split at h
 ·rw[if_pos J]at ac;obtain⟨a,B,h⟩:=h;obtain⟨b,D,ac⟩:=ac;rw[GH D B]at ac;exact aaQ h ac
 ·rw[if_neg J]at ac
  split at h
  ·rw[if_pos J]at ac;exact aaQ h ac
  ·rw[if_neg J]at ac
   split at h
   ·rw[if_pos J]at ac;exact YX h ac
   ·rw[if_neg J]at ac;exact aaP h ac
def mM(Z:b8):jq:={ A:=λv=>sT Z.k Z.src v,B:=λ_=>-1,q:=λv=>sU Z.k Z.src v }
structure NwI (Z:b8) (i j U:Nat) (h:ae) (ac:ae) (Y aJ:Nat) (c:Nat->X) (aQ:aw Nat) (bx bZ cw:Nat) (l:aa eB) (g:ae):Prop where
 k:aA U h ac
 p:U<=aJ
 eH:U<=bx/\bx<Y/\bx≠aJ/\aQ≠some bx/\u g bx=none/\u ac bx=some (.map [] 0)
 hu:U<=bZ/\bZ<Y/\bZ≠aJ/\aQ≠some bZ/\u g bZ=none/\u ac bZ=some (.map [] 0)
 jg:U<=cw/\cw<Y/\cw≠aJ/\aQ≠some cw/\u g cw=none/\u ac cw=some (.map [] 0)
 ne:bx≠bZ/\bx≠cw/\bZ≠cw
 W:e2 ac Y aJ c i j Z.C l aQ
 b:∀b,aQ=some b->U<=b/\u g b=none
 G:si g ac Y aJ
 o:∀d,d<U->u g d=none
 z:kf g Y c Z i j
 m:c 23 = .int .i64 1/\c 24 = .map (some bx)/\c 25 = .int .i64 1/\c 26 = .int .i64 0/\c 27 = .int .i64 0/\c 39 = .bool false/\c 40 = .slice none 0 0/\c 41 = .map (some bZ)/\c 42 = .int .i64 0/\c 43 = .map (some cw)/\c 44 = .bool false
 aED:j≠0->l=[]/\c 38 = .bool false
 aDe:j=0->c 38 = .bool true/\jp g Y (.agg ⟨[c 28,c 29,c 30,c 31,c 32]⟩) (Z.bB i) (Z.H i) (mM Z)/\(∀n,28<=n->n<33->c (n+5)=c n)/\l=[Dr ((i*Z.C+0:Nat):Int) 0 (qT Z.k Z.len 0 (Z.H i) (cA (Z.H i) λk=>(mM Z).A (Z.bB i+k)) (λk=>(mM Z).q (Z.bB i+k)):Int) false]
theorem yy.F{h ac:ae}{ap ag ec dk:Nat}{v:X}{r c:Nat}{ai:aa GE}(H:yy h ap ag v r c ai)(D:∀d,ap<=d->d<ag->u ac d=u h d)(B:ec<=ap)(E:ag<=dk):yy ac ec dk v r c ai:=by obtain⟨P,L,M,v4,e,K,⟨b,I,aK,dL,b3,d8⟩,a3,aZ⟩:=H;exact⟨P,L,M,v4,e,K.F D B E,⟨b,I,aK,J,J,ab⟩,a3.F D B E,aZ.F D B E⟩
def NwP(Z:b8)(i j U:Nat)(h:ae):bN:=λr ac Y=>∃aJ c aQ bx bZ cw l g,r = .tuple ⟨[bf aJ,.int .i64 0]⟩/\NwI Z i j U h ac Y aJ c aQ bx bZ cw l g/\U<=Y
theorem at0{s:al}{x:iV}{I eF:Nat}{e6:X}{h:ae}{U:Nat}{Z:b8}(K:f4 Z)(H:pY h U x eW gV e6)(Bm:cL h U e6 yZ [])(y5:x.vP=0)(Mg:x.bR.length<1000000)(au:hq x=0)(ag:I<Z.R)(b5:eF<Z.C)(z:Z.k=x.k/\x.n=(Z.N:Int)/\Z.src=x.src/\Z.len=x.len/\Z.bR=x.bR/\x.R=(Z.R:Int)/\x.C=(Z.C:Int)/\x.lim=(Z.lim:Int))(aA1:Z.N<=60)(l5:vw x.k (x.es.map nP) Z.ai):
  aE Q s 59 [.agg ⟨gJ x eW gV e6⟩,(I:X),(eF:X)] h U (NwP Z I eF U h):=by
 refine ayy ?_;obtain⟨bg,gw,rfl,_⟩:=id H.d;obtain⟨bW,tp,rfl,_⟩:=id H.e;obtain⟨bM,hj,rfl,_⟩:=id Bm;have b4:∀{o},aA U h (T h U o):=aM
 have ji:∀{o},pY (T h U o) (U+1) x _ _ _:=λ{o}=>H.F aM J;unfold gJ at *
 unfold ahF bz mi cG ax bt aV ad aN bH;refine aG ?_;refine(Km ji).mono ?_;rintro _ h1 a5 ⟨rfl,e5,fi⟩;have cH:=e5 U J;rw[aR]at cH;have cM:aA U h h1:=aM
 rw[au];refine bl @cH ?_;refine⟨λaW=>absurd aW J,λhi0=>⟨λaW=>absurd aW J,λhi1=>⟨λaW=>absurd aW J,λuh=>?_⟩⟩⟩;rw[show(!decide ((eF:Int)<x.C))=false by rw[gY J];rfl];obtain⟨dl,e1,hb,mR,aEg,aFi,wd,aFj,aFk,q10⟩:=atb au;obtain⟨Nz,d7,uH,xN,V8,ef,d0,aEE⟩:=z;obtain⟨N,pH⟩:∃N,Z.N=N:=⟨_,rfl⟩
 obtain⟨R,Cc⟩:∃R,Z.R=R:=⟨_,rfl⟩
 obtain⟨C,Cd⟩:∃C,Z.C=C:=⟨_,rfl⟩
 obtain⟨ai,tk⟩:∃ai,Z.ai=ai:=⟨_,rfl⟩
 rw[tk]at l5;rw[pH]at d7 aA1;rw[Cc]at ef ag;rw[Cd]at d0 b5;have hGN:x.c9.toNat=N:=J
 unfold GZ bz jw cj ax bn aV cg jt c7 ad aN bS bX ay bH;refine bl @cH ?_;refine(YW (H.d.F cM J) (H.e.F cM J) H.l dl).mono ?_;rw[hGN];rintro _ M bQ ⟨m,fp,rfl,hTs,_,h9,hRm,dD,f5⟩;obtain rfl:ai=fp:=aqb l5 hTs;have aA2:=hRm;obtain⟨dL,sp1,nn1,a2',n2',c2',Iq,n4',Ir,rfl⟩:=hRm.is.form;have g2:=(dD U J).trans cH;have er:aA U h M:=aM
 refine bl @g2 ?_;have K2':∀{o aX},aA U h (T (T M bQ o) bQ aX):=aM
 refine(ao6 (Bm.F  K2' J) (by simp)).mono ?_;rintro vch aT P ⟨TP,eY,ga⟩;have aCE:=TP;obtain⟨Va,Vb,rfl,_⟩:=id TP;have dp:=eY U J;rw[aq J,aq J,g2]at dp;refine bl @dp ?_;refine⟨J,?_⟩;have fC:aA U h aT:=aM
 rw[ao7];have gm3:=eY bQ J;rw[aR]at gm3;refine hV @ayJ @ayK @dp ?_;generalize D:Iu (I:Int) (eF:Int) x.k x.n x.src x.len bg x.bR.length gw x.R x.C x.lim Va 0 Vb=c1;have kE:c1 0 = (I:X):=by rw[<-D];rfl
 have fL:c1 1 = (eF:X):=by rw[<-D];rfl
 have fY:c1 2 = (x.k:X):=by rw[<-D];rfl
 have lP:c1 3 = (x.n:X):=by rw[<-D];rfl
 have V9:c1 4 = (x.src:X):=by rw[<-D];rfl
 have NA:c1 5 = (x.len:X):=by rw[<-D];rfl
 have E8:c1 8 = (x.C:X):=by rw[<-D];rfl
 have f22:c1 22 = .slice none 0 0:=by rw[<-D];rfl
 have f7:c1 7 = (x.R:X):=by rw[<-D];rfl
 have aEF:c1 9 = (x.lim:X):=by rw[<-D];rfl
 have f10:c1 10 = .slice Va 0 Vb:=by rw[<-D];rfl
 have f23:c1 23 = .int .i64 1:=by rw[<-D];rfl
 have f25:c1 25 = .int .i64 1:=by rw[<-D];rfl
 have f26:c1 26 = .int .i64 0:=by rw[<-D];rfl
 have f27:c1 27 = .int .i64 0:=by rw[<-D];rfl
 have f38:c1 38 = .bool false:=by rw[<-D];rfl
 have f39:c1 39 = .bool false:=by rw[<-D];rfl
 have f40:c1 40 = .slice none 0 0:=by rw[<-D];rfl
 have f42:c1 42 = .int .i64 0:=by rw[<-D];rfl
 have f44:c1 44 = .bool false:=by rw[<-D];rfl
 clear D;have K3':∀{o},aA U h (T aT P o):=fC.set J;refine(FU (H.d.F  K3' J) Mg).mono ?_;rintro vds a9 dP ⟨hvd,g8,g5⟩;have Ti:=hvd;obtain⟨Vc,Vd,rfl,_⟩:=id hvd;have gw4:=g8 P J;rw[aR]at gw4;have dZ:=g8 U J;rw[aq J,dp]at dZ;have gm4:=g8 bQ J;rw[aq J,gm3]at gm4;refine tO @gw4 @dZ @gm4 @ef @d0 ?_;rw[ati];refine⟨by show 6<45;omega,?_⟩;have g1:∀{o},aA U h (T a9 P o):=λ{o} d bh=>by rw[aq J,g8 d J,aq J,fC d bh]
 have hRi:kq (T a9 P (.cells (dy (hi c1 6 (.slice Vc x.bR.length Vd))) false)) dP _ N N ai:=(aA2.F    (λd h1 M=>by rw[aq J,g8 d J,aq J,eY d J,aq J,aq J]) J J).is;refine(av6 h9 hRi J J J J J J).mono ?_;rintro fw bY f2 ⟨ey,h3,oB⟩;have hB0:=ey;obtain⟨gg,sp5,nn5,nN,n25,c25,Et,n45,c45,rfl⟩:=ey.is.form;have gw5:=h3 P J;rw[aR]at gw5;have hw:=h3 U J;rw[aq J,dZ]at hw;have nz:aA U h bY:=g1.trans h3 J;refine hV @gw5 @atc @atg ?_;have rS:=uY (n:=N) (k:=R) (J:I<=I+1);have rT:=uY (n:=N) (k:=C) (J:eF<=eF+1);have hl3:=tE (n:=N) (k:=R) J (I+1);have hl4:=tE (n:=N) (k:=C) J (eF+1);refine(av7 (KM h9 J J) (hB0.F (ec:=0) (dk:=f2) (λd h1 M=>aq J) J J).is).mono ?_;rintro vco cy L ⟨fp,eI,UX,hCs,hX,kN⟩;have aA3:=hCs;obtain⟨cT,c8,iS,nX,rfl,hF,⟨bb2,aCF,rfl,cb1,cb2,cb3⟩,pE,aEG⟩:=hCs;obtain⟨aw1,cw1,rfl⟩:=hF.Ii.form;obtain⟨aw3,cw3,rfl⟩:=pE.Ii.form;obtain⟨aw4,cw4,rfl⟩:=aEG.Ii.form;have gw6:=hX P J;rw[aR]at gw6;have oZ:=hX U J;rw[aq J,hw]at oZ;have zH:aA U h cy:=λd bh=>by rw[hX d J,aq J];exact nz d bh
 simp(disch:=omega)only[bk,gw6,atd,G3,ao8,ao9,apa,oZ,d7,ef,seval];generalize zv:T (T (T (T (T (T (T cy P _) L _) (L+1) _) (L+1+1) _) P _) P _) P _=xT;have gI:∀d,d≠P->d<L->u xT d=u cy d:=λd h1 M=>by rw[<-zv,aq J,aq J,aq J,aq J,aq J,aq J,aq J]
 have M2:∃E,u xT P=some (.cells (dy E) false)/\E 0 = (I:X)/\E 1 = (eF:X)/\E 2 = (x.k:X)/\E 3 = (x.n:X)/\E 4 = (x.src:X)/\E 5 = (x.len:X)/\E 6 = .slice Vc x.bR.length Vd/\E 7 = (x.R:X)/\E 8 = (x.C:X)/\E 9 = (x.lim:X)/\E 10 = .slice Va 0 Vb/\E 22 = .slice none 0 0 /\
   wO bY dP f2 (.agg ⟨[E 11,E 12,E 13,E 14,E 15]⟩) (da N R (I+1)-da N R I) (da N C (eF+1)-da N C eF) (l1 ai (da N R I) (da N R (I+1)-da N R I) (da N C eF) (da N C (eF+1)-da N C eF)) /\
   yy cy f2 L (.agg ⟨[E 16,E 17,E 18,E 19,E 20,E 21]⟩) (da N R (I+1)-da N R I) (da N C (eF+1)-da N C eF) fp /\
   (E 23 = .int .i64 1/\E 24 = .map (some L)/\E 25 = .int .i64 1/\E 26 = .int .i64 0/\E 27 = .int .i64 0/\E 39 = .bool false/\E 40 = .slice none 0 0/\E 41 = .map (some (L+1))/\E 42 = .int .i64 0/\E 43 = .map (some (L+2))/\E 44 = .bool false)/\E 38 = .bool false:=by rw[<-zv,aR];exact⟨_,rfl,kE,fL,fY,lP,V9,NA,rfl,f7,E8,aEF,f10,f22,hB0,aA3,⟨f23,rfl,f25,f26,f27,f39,f40,rfl,f42,rfl,f44⟩,f38⟩
 have Ve:u xT L=some (.map [] 0)/\u xT (L+1)=some (.map [] 0)/\u xT (L+2)=some (.map [] 0):=by
  refine⟨?_,?_,?_⟩
  ·rw[<-zv,aq J,aq J,aq J,aq J,aq J,aR]
  ·rw[<-zv,aq J,aq J,aq J,aq J,aR]
  ·rw[<-zv,aq J,aq J,aq J,aR]
 have rm:=(gI U J J).trans oZ;have xU:aA U h xT:=λd bh=>by rw[gI d J J];exact zH d bh
 clear zv;obtain⟨E,M2,aDf,iD,h7,hM,ux,B3,Nn,iT,n3,VS,oM,x22,aEH,aEI,aEJ,Ur⟩:=M2;subst pH Cc Cd tk;have K39:P+1<=dP:=g5;have fin:∀(k0:ae) (rp:Nat) (rq:Nat->X) (aQ:aw Nat) (l:aa eB),L+3<=rp->(∀d,d<L+3->d≠P->u k0 d=u xT d)->(∀n,n≠22->n<28\/38<n->rq n=E n)->e2 k0 rp P rq I eF Z.C l aQ->(∀b,aQ=some b->L+3<=b)->(eF≠0->l=[]/\rq 38 = .bool false)->(eF=0->rq 38 = .bool true/\(∃M3,(∀b,aQ=some b->M3<=b)/\M3<=rp/\l2 k0 (L+3) M3 (.agg ⟨[rq 28,rq 29,rq 30,rq 31,rq 32]⟩) (Z.bB I:Int) ((Z.bB I+Z.H I:Nat):Int) (Z.H I) (cA (Z.H I) λk=>(mM Z).A (Z.bB I+k)) (cA (Z.H I) λk=>(mM Z).B (Z.bB I+k)) (λk=>(mM Z).q (Z.bB I+k)))/\(∀n,28<=n->n<33->rq (n+5)=rq n)/\l=[Dr ((I*Z.C+0:Nat):Int) 0 (qT Z.k Z.len 0 (Z.H I) (cA (Z.H I) λk=>(mM Z).A (Z.bB I+k)) (λk=>(mM Z).q (Z.bB I+k)):Int) false]) ->
   NwP Z I eF U h (.tuple ⟨[bf P,.int .i64 0]⟩) k0 rp:=by
  intro k0 rp rq aQ l bw vR B Wa nM hj1 uh;obtain⟨g,aY⟩:=Du (λd=>if d<U\/d=P\/d=L\/d=L+1\/d=L+2\/aQ=some d then 1 else 0) k0 rp;have zr:∀d,u g d=if d<rp/\(if d<U\/d=P\/d=L\/d=L+1\/d=L+2\/aQ=some d then 1 else 0)=0 then u k0 d else none:=aY
  have aDg:∀d,U<=d->d<rp->d≠P->(d<L\/L+3<=d)->aQ≠some d->u g d=u k0 d:=λd h1 M aT a9 bY=>by
   rw[zr d,if_pos ⟨M,if_neg (by rintro(e|e|e|e|e|e) <;> first|exact bY e|omega)⟩]
  have c9:∀d,(d<U\/d=P\/d=L\/d=L+1\/d=L+2\/aQ=some d)->u g d=none:=λd h1=>by rw[zr d,if_neg λe=>by rw[if_pos h1]at e;exact absurd e.2 (by decide)]
  have Ez:∀d,d<L+3->aQ≠some d:=λd bh e=>by have:=nM d e;omega
  have uF:∀d,P+1<=d->d<L->u g d=u cy d:=λd h1 M=>by rw[aDg d J J J (.inl M) (Ez d J),vR d J J,gI d J M]
  refine⟨P,rq,aQ,L,L+1,L+2,l,g,rfl,⟨λd bh=>(vR d J J).trans (xU d bh),J,⟨J,J,J,Ez _ J,c9 _ (by simp),(vR _ J J).trans Ve.1⟩,⟨J,J,J,Ez _ J,c9 _ (by simp),(vR _ J J).trans Ve.2.1⟩,⟨J,J,J,Ez _ J,c9 _ (by simp),(vR _ J J).trans Ve.2.2⟩,J,Wa,λb e=>⟨by have:=nM b e;omega,c9 b (by simp[e])⟩,⟨jr.sub aY,c9 _ (by simp),λd bh=>by rw[zr d,if_neg J]⟩,λd bh=>c9 d (.inl bh),⟨?_,?_,?_,?_,?_,?_,?_,?_,?_,?_⟩,?_,hj1,λe=>?_⟩,J⟩
  ·rw[B 2 J J,h7,Nz]
  ·rw[B 3 J J,hM,d7]
  ·rw[B 4 J J,ux,uH]
  ·rw[B 5 J J,B3,xN]
  ·rw[B 6 J J,Nn,V8];exact(eJ.F Ti (ec:=0) (dk:=rp) (λd h1 M=>by rw[uF d J J,hX d J,aq J,h3 d J,aq J]) J J).rd
  ·rw[B 7 J J,iT,ef]
  ·rw[B 9 J J,VS,aEE]
  ·exact⟨_,_,(B 10 J J).trans oM⟩
  ·rw[B 11 J J,B 12 J J,B 13 J J,B 14 J J,B 15 J J];exact(aEH.F (ec:=0) (dk:=rp) (λd h1 M=>by rw[uF d J J,hX d J,aq J]) J J).is
  ·rw[B 16 J J,B 17 J J,B 18 J J,B 19 J J,B 20 J J,B 21 J J];exact⟨fp,eI,UX,(yy.F aEI (ec:=0) (dk:=rp) (λd h1 M=>uF d J J) J J).s⟩
  ·obtain⟨aD,a2,a3,aZ,bA,bp,ba,bv,cF,dd,et⟩:=aEJ;exact⟨(B _ J J).trans aD,(B _ J J).trans a2,(B _ J J).trans a3,(B _ J J).trans aZ,(B _ J J).trans bA,(B _ J J).trans bp,(B _ J J).trans ba,(B _ J J).trans bv,(B _ J J).trans cF,(B _ J J).trans dd,(B _ J J).trans et⟩
  ·obtain⟨dL,⟨M3,b3,d8,fM⟩,gg,zJ⟩:=uh e;exact⟨dL,(fM.wid (ec:=0) (dk:=rp) (λd h1 M=>aDg d J J J (.inr h1) λe=>by have:=b3 d e;omega) J d8).rd,gg,zJ⟩
 have Be:P<L+3:=J
 refine⟨λvX=>?_,λvX=>fin xT (L+3) E none [] (cC _) (λ_ _ _=>rfl) (λ_ _ _=>rfl) ⟨M2,Be,J,J,J,b5,aDf,iD,by rw[n3,d0],by rw[x22];exact .nil,nofun⟩ (nofun) (λ_=>⟨rfl,Ur⟩) λe=>absurd vX (by rw[e];decide)⟩;have hJ0:eF=0:=by have:=sB.1 vX;omega
 subst hJ0;refine(u9 (n:=Z.N) (k:=Z.R) (i:=I) J J J J).fZ ⟨cC _,?_⟩;refine ls @rm @ef @d7 (cD (J:I<1000000000000)) ?_;refine(u9 (n:=Z.N) (k:=Z.R) (i:=I+1) J J J J).fZ ⟨cC _,?_⟩;have hm:da Z.N Z.R (I+1)=Z.bB I+Z.H I:=by unfold b8.H b8.bB;omega
 have q7:Z.bB I+Z.H I<=Z.N:=by rw[<-hm];exact hl3
 rw[hm,show da Z.N Z.R I=Z.bB I from rfl];refine cN @rm @d7 ?_;have hdS:cL xT (L+1+1+1) (.slice bg x.bR.length gw) c4 x.bR:=H.d.F xU J;rw[d7]at e1;refine(ao4 (m:=Z.H I) (low:=Z.bB I) hdS e1 J J J).mono ?_;rintro aF mc n8 ⟨dV,BT,ahV⟩;have aEK:∀k:Nat,(mM Z).A (Z.bB I+k)=sT x.k x.src ((Z.bB I:Int)+(k:Int)):=λk=>by show sT Z.k Z.src ((Z.bB I+k:Nat):Int)=_;rw[Nz,uH,wm]
 have aEL:∀k:Nat,(mM Z).q (Z.bB I+k)=sU x.k x.src ((Z.bB I:Int)+(k:Int)):=λk=>by show sU Z.k Z.src ((Z.bB I+k:Nat):Int)=_;rw[Nz,uH,wm]
 replace dV:l2 mc (L+3) n8 aF (Z.bB I:Int) ((Z.bB I+Z.H I:Nat):Int) (Z.H I) (cA (Z.H I) λk=>(mM Z).A (Z.bB I+k)) (cA (Z.H I) λk=>(mM Z).B (Z.bB I+k)) (λk=>(mM Z).q (Z.bB I+k)):=by simp only[aEK,aEL];exact dV
 have ED:=dV;obtain⟨dq,fw,fD,rfl,fP,hl,gm⟩:=dV;obtain⟨sa1,sc1,rfl,_⟩:=id fP;obtain⟨sa2,sc2,rfl,_⟩:=id hl;obtain⟨sa3,sc3,rfl,_⟩:=id gm;have gw8:=(BT P J).trans M2;refine ls @gw8 @ate @atf @ath ?_;refine⟨J,?_⟩;have hdK:pR mc n8 (.slice Vc x.bR.length Vd) Z.k Z.src Z.len Z.N Z.bR:=⟨by rw[V8];exact(eJ.F Ti (ec:=0) (dk:=n8) (ac:=mc) (λd h1 M=>by rw[BT d J,gI d J J,hX d J,aq J,h3 d J,aq J]) J J).rd,K.dok,K.n60,K.pl,K.hL⟩
 generalize EK:nJ (nJ E 28 _) 33 _=hc;have r0:∀n,n<28\/38<=n->hc n=E n:=λn bw=>by rw[<-EK,tH (by show n<33\/38<=n;omega),tH (by show n<28\/33<=n;omega)]
 have Mj:Value.agg ⟨[hc 28,hc 29,hc 30,hc 31,hc 32]⟩ = .agg ⟨[.int .i64 (Z.bB I:Int),((Z.bB I+Z.H I:Nat):X),.slice sa1 (cA (Z.H I) λk=>(mM Z).A (Z.bB I+k)).length sc1,.slice sa2 (cA (Z.H I) λk=>(mM Z).B (Z.bB I+k)).length sc2,.slice sa3 (eZ (Z.H I) λk=>(mM Z).q (Z.bB I+k)).length sc3]⟩:=by rw[<-EK];rfl
 have TK:Value.agg ⟨[hc 33,hc 34,hc 35,hc 36,hc 37]⟩ = .agg ⟨[.int .i64 (Z.bB I:Int),((Z.bB I+Z.H I:Nat):X),.slice sa1 (cA (Z.H I) λk=>(mM Z).A (Z.bB I+k)).length sc1,.slice sa2 (cA (Z.H I) λk=>(mM Z).B (Z.bB I+k)).length sc2,.slice sa3 (eZ (Z.H I) λk=>(mM Z).q (Z.bB I+k)).length sc3]⟩:=by rw[<-EK];rfl
 have b0:∀n,28<=n->n<33->hc (n+5)=hc n:=λn h1 M=>by
  rw[<-EK];rcases(by omega:n=28\/n=29\/n=30\/n=31\/n=32)with rfl|rfl|rfl|rfl|rfl <;> rfl
 clear EK;have V6:∀{o},e2 (T (T mc P o) P (.cells (dy hc) false)) n8 P hc I 0 Z.C [] none:=λ{o}=>⟨aR _ _ _,J,J,J,J,b5,(r0 0 J).trans aDf,(r0 1 J).trans iD,by rw[r0 8 J,n3,d0],by rw[r0 22 J,x22];exact .nil,nofun⟩
 refine(XL (k:=Z.k) (N:=Z.N) (src:=Z.src) (len:=Z.len) (bR:=Z.bR) (S:=mM Z) (low:=Z.bB I) (m:=Z.H I) (l:=[]) V6 (by decide) { hdK with d:=?_ } (by rw[r0 2 J,h7,Nz]) (by rw[r0 3 J,hM,d7]) (by rw[r0 4 J,ux,uH]) (by rw[r0 5 J,B3,xN]) ?_ q7).mono ?_
 ·rw[r0 6 J,Nn,V8];exact(eJ.F Ti (ec:=0) (dk:=n8) (λd h1 M=>by rw[aq J,aq J,BT d J,gI d J J,hX d J,aq J,h3 d J,aq J]) J J).rd
 ·rw[TK];exact(ED.wid (ec:=0) (dk:=n8) (λd h1 M=>by rw[aq J,aq J]) J (cC _)).rd
 rintro _ k0 rp ⟨rfl,dX,b6,Wa,ht,hf9,aA4⟩;have aDh:∀d,d<n8->d≠P->u k0 d=u mc d:=λd h1 M=>by rw[hf9 d h1 M (nofun),aq M,aq M]
 refine fin k0 rp _ (some b6) _ J (λd h1 M=>by rw[aDh d J M,BT d J]) (λn h1 M=>by rw[dN h1,dN J];exact r0 n J) Wa (λb e=>by cases e;omega) (λe=>absurd rfl e) λ_=>⟨?_,⟨n8,λb e=>(by cases e;exact ht),aA4,?_⟩,λn h1 M=>?_,rfl⟩
 ·rw[dN J,yF]
 ·rw[dN J,dN J,dN J,dN J,dN J,dN J,dN J,dN J,dN J,dN J,Mj];exact ED.wid (λd h1 M=>aDh d M J) (cC _) (cC _)
 ·rw[dN J,dN J,dN J,dN J];exact b0 n h1 M
def b8.e3(Z:b8):jS:=⟨Z.k,Z.N,Z.src,Z.len,λb=>iL Z.bR Z.N b,Z.ai,Z.lim⟩
def b8.jk(Z:b8)(t i:Nat):Int:=(qT Z.k Z.len t (Z.H i) (cA (Z.H i) λk=>(Z.e3.st t).A (Z.bB i+k)) (λk=>(Z.e3.st t).q (Z.bB i+k)):Int)
def b8.f8(Z:b8)(t:Nat):Int:=wA false (decide (∃i,i<Z.R/\Z.jk t i≠0)) (t:Int) (Z.lim:Int)
def p8(Z:b8):ct->kH
 | .share i j t=>K8 Z i t (Z.e3.x t) j
 | .spread i j t=>QS Z j t (Z.e3.x t) i
 | .dA i j t=>⟨3,((i*Z.C+j:Nat):Int),((i*Z.C+0:Nat):Int),t,0,[],bj (Z.H i) (iJ (fm Z.k t) (Z.cut i j) λk=>Z.e3.x t (Z.lc j+k)),0,false⟩
 | .dB i t=>⟨4,((i*Z.C+0:Nat):Int),0,t,0,[],[],Z.jk t i,false⟩
 | .order i t=>tF Z t (Z.f8 t) i
def b8.vx(Z:b8)(t i:Nat)(dU:Nat->al)(v:Nat):aw Int:=AQ (fm Z.k t) Z.ai (Z.e3.x t) (Z.bB i) (Z.H i) Z.C Z.lc dU (v-Z.bB i)
structure LZ (Z:b8) (av:Nat) (x:gd) (i:Nat) (g h:ae) (U:Nat) (c:Nat->X) (so:aw Nat) (bZ:Nat):Prop where
 EL:c 26 = ((x.a i-1:Nat):X)
 BW:c 27 = .int .i64 (if x.a i=0 then 0 else Z.f8 (x.a i-1))
 M4:c 38 = .bool (x.w i)
 EM:c 39 = .bool (decide (0<x.a i))
 has:jp g U (.agg ⟨[c 28,c 29,c 30,c 31,c 32]⟩) (Z.bB i) (Z.H i) (Z.e3.st (x.a i-1))
 Vf:jp g U (.agg ⟨[c 33,c 34,c 35,c 36,c 37]⟩) (Z.bB i) (Z.H i) (Z.e3.st (if x.w i=true then x.a i else x.a i-1))
 m2:x.w i=true->c 40 = .slice none 0 0/\so=none
 m3:x.w i=false->x.a i<=av->iN h bZ Z.C (x.dU i) (λ_ v=>v = .bool true)/\ns h (c 40) (bj (Z.H i) λk=>Z.vx (x.a i) i (x.dU i) (Z.bB i+k)) so
theorem LZ.F{Z:b8}{av:Nat}{x fK:gd}{i:Nat}{g h cd ac:ae}{U Y:Nat}{c bL:Nat->X}{so:aw Nat}{bZ:Nat}(M:LZ Z av x i g h U c so bZ)(D:fK.a i=x.a i)(K:fK.w i=x.w i)(I:fK.dU i=x.dU i)(B:∀n,26<=n->n<41->bL n=c n)(L:aA U g cd)(E:U<=Y)(P:u ac bZ=u h bZ)(ao:∀b,so=some b->u ac b=u h b):LZ Z av fK i cd ac Y bL so bZ:=by
 refine⟨?_,?_,?_,?_,?_,?_,λe=>?_,λe aK=>?_⟩
 ·rw[B 26 J J,D];exact M.EL
 ·rw[B 27 J J,D];exact M.BW
 ·rw[B 38 J J,K];exact M.M4
 ·rw[B 39 J J,D];exact M.EM
 ·rw[B 28 J J,B 29 J J,B 30 J J,B 31 J J,B 32 J J,D];exact hr.F M.has L E
 ·rw[B 33 J J,B 34 J J,B 35 J J,B 36 J J,B 37 J J,D,K];exact hr.F M.Vf L E
 ·rw[B 40 J J];exact M.m2 ab
 ·rw[B 40 J J,I,D];obtain⟨dl,e1⟩:=M.m3 ab J;exact⟨dl.F P ab,e1.F ao⟩
structure jA (Z:b8) (av:Nat) (x:gd) (i j:Nat) (own:Nat->Nat) (g h:ae) (U aJ:Nat) (c:Nat->X) (l:aa eB) (aQ so:aw Nat) (bx bZ cw:Nat):Prop where
 W:e2 h U aJ c i j Z.C l aQ
 z:kf g U c Z i j
 p:own aJ=i*Z.C+j+1
 b:∀b,aQ=some b->own b=i*Z.C+j+1
 f:kO g 0 U l ((x.out (i*Z.C+j)).map (p8 Z))
 eH:bx<U/\own bx=i*Z.C+j+1/\bx≠aJ/\aQ≠some bx/\so≠some bx
 hu:bZ<U/\own bZ=i*Z.C+j+1/\bZ≠aJ/\aQ≠some bZ/\so≠some bZ
 jg:cw<U/\own cw=i*Z.C+j+1/\cw≠aJ/\aQ≠some cw/\so≠some cw
 ne:bx≠bZ/\bx≠cw/\bZ≠cw
 s:∀b,so=some b->b<U/\own b=i*Z.C+j+1/\b≠aJ/\aQ≠some b
 pw:c 24 = .map (some bx)
 nQ:c 41 = .map (some bZ)
 sk:c 43 = .map (some cw)
 sf:c 25 = ((x.q i j+1:Nat):X)
 top:i=0->c 23 = ((x.P j+1:Nat):X)/\iN h bx Z.R (x.e9 j) (td g 0 U Z j (Z.e3.x (x.P j+1)))
 o:j=0->LZ Z av x i g h U c so bZ
 m4:∃es cI,u h bZ=some (.map es cI)
 one:i=0->j=0->c 42 = (x.V:X)/\c 44 = .bool (decide (av<x.V))/\iN h cw Z.R x.fQ (IH (Z.jk x.V))
theorem wQ{ei:Nat}{own:Nat->Nat}{h ac:ae}{U Y:Nat}(aQ so:aw Nat)(B:U<=Y)(same:∀d,d<U->own d≠ei->u ac d=u h d):
  ∃dc cd,jr dc ac Y cd/\EI ei own dc h ac U Y/\(∀d,U<=d->(aQ=some d\/so=some d)->dc d=ei)/\(∀d,U<=d->aQ≠some d->so≠some d->dc d=0):=by
 obtain⟨cd,D⟩:=Du (λd=>if d<U then own d else if aQ=some d\/so=some d then ei else 0) ac Y;refine⟨_,cd,D,⟨B,same,ab,ab⟩,ab,ab⟩
 all_goals grind
def EN(Z:b8)(av:Nat)(x:gd)(m:ct)(i j:Nat)(own:Nat->Nat)(h:ae)(U aJ bx bZ cw:Nat):bN:=λr ac Y=>r = .bool true/\∃dc cd bL b1 gQ sj,jA Z av (cS Z.R Z.C av x m) i j dc cd ac Y aJ bL b1 gQ sj bx bZ cw/\jr dc ac Y cd/\EI (i*Z.C+j+1) own dc h ac U Y
section
variable {s:al} {g h:ae} {U aJ i j ap av t:Nat} {c:Nat->X} {l:aa eB} {aQ so:aw Nat} {Z:b8} {own:Nat->Nat} {x:gd} {bx bZ cw:Nat}
theorem jA.Vg(R:jA Z av x i j own g h U aJ c l aQ so bx bZ cw)(B:jr own h U g):si g h U aJ:=⟨B.sub,by rw[B aJ,if_neg (by have:=R.p;omega)],λd D=>by rw[B d,if_neg J]⟩
theorem jr.D7{ei d:Nat}(B:jr own h U g)(D:own d=ei)(E:ei≠0):u g d=none:=by rw[B d,if_neg J]
theorem aqc{x:Nat->aw Int}(h:∀g∈ai,x g.t=y g.t):iJ r ai x=iJ r ai y:=by
 funext v
 unfold iJ;rw[qE λg B=>by rw[h g B]]
theorem ajj{f:eB}{p:kH}{x:Nat->aw Int}(K:f4 Z)(W:e2 h U aJ c i j Z.C l aQ)(H:kf h U c Z i j)(bo:l.length<900)(bK:nc h U f p)(cq:t<900)(hy:p.ml=bj (Z.W j) x)(ek:p.mm=(Z.W j:Int))(lO:p.round=(t:Int))(E:c 25 = (t:X))(ag:i<Z.R)(M:∀i y,i<Z.W j->x i=some y->0<=y/\y<=dg):
  aE Q s 134 [bf aJ,.agg ⟨eg f⟩,.agg ⟨[.int .i64 0,(j:X)]⟩] h U (λr ac Y=>r = .bool true/\∃P D L,e2 ac Y aJ (hi (hi c 25 (((t+1:Nat):X))) 22 P) i j Z.C (l++[L]) (some D) /\
   tc ac U D L ⟨3,((i*Z.C+j:Nat):Int),((i*Z.C+0:Nat):Int),t,0,[],bj (Z.H i) (iJ (fm Z.k t) (Z.cut i j) x),0,false⟩/\U<=D/\(∀d,d<U->d≠aJ->aQ≠some d->u ac d=u h d)/\U<=Y):=by
 have e:∀k,k<Z.W j->(λk=>if k<Z.W j then x k else none) k=x k:=λk hk=>if_pos hk;have I:=ajf (s:=s) (x:=λk=>if k<Z.W j then x k else none) K W H bo bK cq (by rw[hy];exact(ym e).symm) ek lO E ag λk y B=>by
  have B:(if k<Z.W j then x k else none)=some y:=B
  split at B
  ·exact M k y J B
  ·cases B
 rw[aqc λg aY=>e g.t ((ae6 K).mz g aY)]at I;exact I
theorem jA.spread{f:eB}(K:f4 Z)(R:jA Z av x i j own g h U aJ c l aQ so bx bZ cw)(eA:jr own h U g)(bd:nm Z.R Z.C av x (.spread i j t))(eI:av<900)(ey:∀v y,v<Z.N->Z.e3.x t v=some y->0<=y/\y<=dg)(bK:lH h ap U f (p8 Z (.spread i j t)))(bo:(x.out (i*Z.C+j)).length<800):
  aE Q s 63 [bf aJ,.agg ⟨eg f⟩] h U (EN Z av x (.spread i j t) i j own h U aJ bx bZ cw):=by
 obtain⟨ag,b5,cq,ue⟩:=bd;have fO:=R.f.len;rw[gX]at fO;refine Gg (lL:=2)   R.W R.z.gI K.oa bK.is.l6 (by rw[bK.is.eu,lY,iE];rfl) J b5 bK.is.kind J λL a5 M E=>?_;have mU:e2 L a5 aJ c i j Z.C l aQ:=R.W.F (λd bh=>M d (bh.elim (λe=>e ▸ R.W.lt) λe=>(R.W.aQ d e).2)) E;refine(ajj   K mU ((R.z.sub eA.sub).F M E) J (bK.is.F M E) J rfl rfl rfl (by rw[R.sf,cq]) ag λk y hk=>ey _ _ (by have:=DI K j;unfold b8.W at hk;omega)).mono ?_;rintro _ ac Y ⟨rfl,dX,b6,kG,b9,hn,ht,ja,w6⟩;have oy:∀d,d<U->d≠aJ->aQ≠some d->u ac d=u h d:=λd L I aT=>(ja d J I aT).trans (M d L);obtain⟨dc,cd,hG,D,qo,ky⟩:=wQ      (Y:=Y) (some b6) none J λd L I=>oy d L (λe=>I (by rw[e,R.p])) λe=>I (R.b d e);have gq:=eA.F hG D J;have eR:=(b9.aQ b6 rfl).2;obtain⟨aU,aK,cc,d6,hd,hy,gI,Ci,jD,MX⟩:=JO;have a1:∀n,n≠22->n≠25->hi (hi c 25 (((t+1:Nat):X))) 22 dX n=c n:=λn L I=>by rw[dN L,dN I]
 have B:U<=Y:=J
 obtain⟨aD,a2,a3,aZ,bA⟩:=R.eH;obtain⟨dL,b3,d8,fM,gg⟩:=R.hu;obtain⟨eE,f0,ia,n9,su⟩:=R.jg;refine⟨rfl,dc,cd,hi (hi c 25 (((t+1:Nat):X))) 22 dX,l++[kG],some b6,so,⟨b9,(R.z.set ab).F gq B,(D.d3 aJ R.W.lt).trans R.p,ab,?_,
  ⟨J,(D.d3 bx aD).trans a2,a3,ab,bA⟩,⟨J,(D.d3 bZ dL).trans b3,d8,ab,gg⟩,⟨J,(D.d3 cw eE).trans f0,ia,ab,su⟩,R.ne,λb e=>?_,(a1 24 J J).trans R.pw,(a1 41 J J).trans R.nQ,(a1 43 J J).trans R.sk,?_,λP=>?_,λP=>?_,?_,λP L=>?_⟩,hG,D⟩
 ·have gE:(cS Z.R Z.C av x (.spread i j t)).out (i*Z.C+j)=x.out (i*Z.C+j)++[.dA i j t]:=by show up x.out (i*Z.C+j) (x.out (i*Z.C+j)++d1 Z.R Z.C av x (.spread i j t)) (i*Z.C+j)=_;rw[g4,MX]
  rw[gE,iU];exact(R.f.F (λb _ I=>gq b I) J B).app ⟨hn.F (hG.new J ab) J J,trivial⟩
 ·obtain⟨dl,e1,hb,mR⟩:=R.s b e;exact⟨J,(D.d3 b dl).trans e1,hb,ab⟩
 ·rw[Ci,<-cq,dN J,yF]
 ·obtain⟨dl,e1⟩:=R.top P;exact⟨ab,e1.F ab λi v aI=>lv.F aI (λb _ I=>gq b I) J B⟩
 ·exact(R.o P).F ab ab ab ab gq B ab λb e=>by obtain⟨cr,kY,lM,cQ⟩:=R.s b e;grind
 ·obtain⟨es,cI,q⟩:=R.m4
  grind
 ·obtain⟨dl,e1,hb⟩:=R.one P L;exact⟨ab,ab,hb.F ab λ_ _ h=>h⟩
end
theorem eJ.sub{l:aa az}{g h:ae}{ap:Nat}(H:eJ g ap ag v enc l)(S:lf g h)(L:ec<=ap)(P:ag<=dk):eJ h ec dk v enc l:=by obtain⟨a,cap,e,H⟩:=H;refine⟨a,cap,e,λK=>?_⟩;obtain⟨b,B,D,dl,M,I,E⟩:=H K;exact⟨b,B,D,J,J,I,S _ _ E⟩
section
variable {s:al} {g h:ae} {U aJ i j ap av t:Nat} {c:Nat->X} {l:aa eB} {aQ so:aw Nat} {Z:b8} {own:Nat->Nat} {x:gd} {bx bZ cw:Nat}
theorem jA.share{f:eB}{dQ:Nat}(K:f4 Z)(R:jA Z av x 0 j own g h U aJ c l aQ so bx bZ cw)(eA:jr own h U g)(bd:nm Z.R Z.C av x (.share dQ j t))(eI:av<900)(bK:lH h ap U f (p8 Z (.share dQ j t)))(bo:(x.out (0*Z.C+j)).length<800):
  aE Q s 63 [bf aJ,.agg ⟨eg f⟩] h U (EN Z av x (.share dQ j t) 0 j own h U aJ bx bZ cw):=by
 have uq:=bd;obtain⟨ag,b5,cq,Vh,ue⟩:=bd;have fO:=R.f.len;rw[gX]at fO;obtain⟨Tj,L0⟩:=R.top rfl;obtain⟨aD,a2,a3,aZ,bA⟩:=R.eH;obtain⟨dL,b3,d8,fM,gg⟩:=R.hu;obtain⟨eE,f0,ia,n9,su⟩:=R.jg;obtain⟨EO,El,Bz⟩:=R.ne;refine Gg (lL:=1)   R.W R.z.gI K.oa (by rw[bK.is.l6,lY,iE];rfl) bK.is.eu ag K.hF bK.is.kind J λL a5 P M=>?_;have mU:e2 L a5 aJ c 0 j Z.C l aQ:=R.W.F (λd bh=>P d (bh.elim (λe=>e ▸ R.W.lt) λe=>(R.W.aQ d e).2)) M;have G:=R.Vg eA;have qy:si g L a5 aJ:=⟨G.sub λd bh _=>P d bh,G.p,λd bh=>G.n d J⟩
 rw[<-cq]at Tj L0;refine(akp    K mU qy ((R.z.sub eA.sub).F P M) (by have:=K.oa;omega) J (bK.is.F P M) rfl rfl rfl Tj R.pw (L0.F (P bx aD) λi v aI=>lv.F aI ab J M) ⟨J,a3,aZ,eA.D7 a2 J⟩ ag Vh).mono ?_;rintro _ ac Y ⟨rfl,bL,gQ,dx,B,vI,sh,ja,b9,qO⟩;have oy:∀d,d<U->d≠aJ->d≠bx->aQ≠some d->u ac d=u h d:=λd L ao aT a9=>(ja d J ao aT a9).trans (P d L);have I:U<=Y:=J
 obtain⟨dc,cd,hG,D,qo,ky⟩:=wQ       gQ none I λd L ao=>oy d L (λe=>ao (by rw[e,R.p])) ab λe=>ao (R.b d e);have gq:=eA.F hG D J;obtain⟨_,aK,cc,d6,hd,hy,gI,Ci,jD⟩:=JV uq;have gE:(cS Z.R Z.C av x (.share dQ j t)).out (0*Z.C+j)=x.out (0*Z.C+j)++d1 Z.R Z.C av x (.share dQ j t):=by rw[lY,iE];exact g4 _ _ _
 have mF:∀b,so=some b->u ac b=u h b:=λb e=>by obtain⟨cr,kY,lM,cQ⟩:=R.s b e;grind
 have zo:=oy bZ dL d8 (kI EO) fM;have ur:=oy cw eE ia (kI El) n9;have pD:lf g cd:=λd o bh=>by
  have L:d<U:=Fo λL=>by rw[G.n d L]at bh;grind
  rw[gq d L];omega
 have vU:∃es cI,u ac bZ=some (.map es cI):=by
  obtain⟨es,cI,q⟩:=R.m4
  grind
 rcases qO with⟨⟨k,hk,II⟩,E,rfl,rfl,EP⟩|⟨pe,E,h23,hn,⟨cI,Bk⟩,b6,rfl,ht⟩
 ·rcases jD with⟨q,_⟩|⟨_,mf,n4,pH⟩
  ·have:=q k hk;rw[show up (x.e9 j) dQ true k=_ from II]at this;cases this
  refine⟨rfl,dc,cd,bL,l,gQ,so,⟨by rw[hz]at b9;exact b9,(R.z.set ab).F gq I,(D.d3 aJ R.W.lt).trans R.p,λb e=>(D.d3 b (R.W.aQ b e).2).trans (R.b b e),by rw[gE,pH,hz];exact R.f.F (λb _ ao=>gq b ao) J I,
   ⟨J,(D.d3 bx aD).trans a2,a3,aZ,bA⟩,⟨J,(D.d3 bZ dL).trans b3,d8,fM,gg⟩,⟨J,(D.d3 cw eE).trans f0,ia,n9,su⟩,R.ne,λb e=>?_,(E 24).trans R.pw,(E 41).trans R.nQ,(E 43).trans R.sk,by rw[E 25,aK];exact R.sf,λ_=>⟨?_,?_⟩,λau=>(R.o au).F ab ab ab ab gq I zo mF,vU,λ_ L=>?_⟩,hG,D⟩
  ·obtain⟨dl,e1,hb,mR⟩:=R.s b e;exact⟨J,(D.d3 b dl).trans e1,hb,mR⟩
  ·grind
  ·rw[mf,n4,<-cq];refine EP.F rfl λi v aI=>?_;rcases aI with⟨gB,e,aI⟩|⟨gB,e,aI⟩
   ·exact⟨gB,e,eJ.sub aI pD J J⟩
   ·exact⟨gB,e,eJ.F aI (hG.new J λd L ao=>ky d J (λe=>by have:=(R.W.aQ d e).2;omega) ab) J J⟩
  ·obtain⟨dl,e1,hb⟩:=R.one rfl L;rw[hy,gI];exact⟨ab,ab,hb.F ur λ_ _ h=>h⟩
 ·rcases jD with⟨_,mf,n4,pH⟩|⟨q,_⟩
  case inr=>exact absurd (λk hk=>pe k hk) q
  refine⟨rfl,dc,cd,bL,l++dx,some b6,so,⟨b9,(R.z.set ab).F gq I,(D.d3 aJ R.W.lt).trans R.p,ab,?_,
   ⟨J,(D.d3 bx aD).trans a2,a3,ab,bA⟩,⟨J,(D.d3 bZ dL).trans b3,d8,ab,gg⟩,⟨J,(D.d3 cw eE).trans f0,ia,ab,su⟩,R.ne,λb e=>?_,(E 24 J J).trans R.pw,(E 41 J J).trans R.nQ,(E 43 J J).trans R.sk,by rw[E 25 J J,aK];exact R.sf,λ_=>⟨?_,?_⟩,λau=>(R.o au).F ab (congrFun hd 0) (congrFun d6 0) (λn L ao=>E n J J) gq I zo mF,vU,λ_ L=>?_⟩,hG,D⟩
  ·rw[gE,pH,iU,pJ];exact(R.f.F (λb _ ao=>gq b ao) (cC _) I).app (hn.F (hG.new sh λd L ao=>ky d J (λe=>ab) nofun) J sh)
  ·obtain⟨dl,e1,hb,mR⟩:=R.s b e;exact⟨J,(D.d3 b dl).trans e1,hb,λdS=>ab⟩
  ·grind
  ·rw[n4];exact iN.no Bk
  ·obtain⟨dl,e1,hb⟩:=R.one rfl L;rw[hy,gI];exact⟨(E 42 J J).trans dl,(E 44 J J).trans e1,hb.F ur λ_ _ h=>h⟩
end
section
variable {s:al} {g h:ae} {U aJ i j ap av t:Nat} {c:Nat->X} {l:aa eB} {aQ so:aw Nat} {Z:b8} {own:Nat->Nat} {x:gd} {bx bZ cw:Nat}
theorem jA.dB{f:eB}{dQ:Nat}(K:f4 Z)(R:jA Z av x 0 0 own g h U aJ c l aQ so bx bZ cw)(eA:jr own h U g)(bd:nm Z.R Z.C av x (.dB dQ t))(eI:av<900)(HD:∀t,t<=av->(Z.f8 t=0↔t<av))(bK:lH h ap U f (p8 Z (.dB dQ t)))(bo:(x.out (0*Z.C+0)).length<800):
  aE Q s 63 [bf aJ,.agg ⟨eg f⟩] h U (EN Z av x (.dB dQ t) 0 0 own h U aJ bx bZ cw):=by
 have uq:=bd;obtain⟨ag,cq,Vh,ue⟩:=bd;have fO:=R.f.len;rw[gX]at fO;obtain⟨DU,A0,ahX⟩:=R.one rfl rfl;obtain⟨aD,a2,a3,aZ,bA⟩:=R.eH;obtain⟨dL,b3,d8,fM,gg⟩:=R.hu;obtain⟨eE,f0,ia,n9,su⟩:=R.jg;obtain⟨EO,El,Bz⟩:=R.ne;refine Gg (lL:=4)   R.W R.z.gI K.oa (by rw[bK.is.l6,lY,iE];rfl) bK.is.eu ag K.hF bK.is.kind J λh1 a5 e5 fi=>?_;have mU:e2 h1 a5 aJ c 0 0 Z.C l aQ:=R.W.F (λd bh=>e5 d (bh.elim (λe=>e ▸ R.W.lt) λe=>(R.W.aQ d e).2)) fi;rw[<-cq]at DU A0 ahX;rw[hA J]at A0;refine(amC  (jk:=Z.jk t)  K mU R.z.gI R.z.jD (by have:=K.oa;omega) J bK.is.round bK.is.oC bK.is.n DU R.sk A0 (ahX.F (e5 cw eE) λ_ _ h=>h) ab ag Vh).mono ?_;rintro _ ac Y ⟨rfl,bL,gQ,dx,B,vI,sh,ja,b9,qO⟩;have P:∀d,d<U->d≠aJ->d≠cw->aQ≠some d->u ac d=u h d:=λd h1 L aT a9=>(ja d J L aT a9).trans (e5 d h1);have E:U<=Y:=J
 obtain⟨dc,cd,hG,D,qo,ky⟩:=wQ       gQ none E λd h1 L=>P d h1 (λe=>L (by rw[e,R.p])) ab λe=>L (R.b d e);have gq:=eA.F hG D J;obtain⟨_,aU,aK,cc,d6,hd,hy,jD⟩:=JY uq;have gE:(cS Z.R Z.C av x (.dB dQ t)).out (0*Z.C+0)=x.out (0*Z.C+0)++d1 Z.R Z.C av x (.dB dQ t):=by rw[lY,iE];show up x.out 0 (x.out 0++d1 Z.R Z.C av x (.dB dQ t)) 0=_;rw[g4]
 have mF:∀b,so=some b->u ac b=u h b:=λb e=>by obtain⟨cr,kY,lM,cQ⟩:=R.s b e;grind
 have zo:=P bZ dL d8 Bz fM;have Bq:=P bx aD a3 El aZ;have vU:∃es cI,u ac bZ=some (.map es cI):=by
  obtain⟨es,cI,q⟩:=R.m4
  grind
 obtain⟨Tj,L0⟩:=R.top rfl;have M:iN ac bx Z.R (x.e9 0) (td cd 0 Y Z 0 (Z.e3.x (x.P 0+1))):=L0.F Bq λi v aI=>lv.F aI (λb _ L=>gq b L) J E;rcases qO with⟨⟨k,hk,II⟩,I,rfl,rfl,EP⟩|⟨pe,I,st,jc,h42,h44,hn,⟨cI,Bk⟩,b6,rfl,ht⟩
 ·rcases jD with⟨q,_⟩|⟨_,mf,n4,pH⟩
  ·have:=q k hk;rw[show up x.fQ dQ true k=_ from II]at this;cases this
  refine⟨rfl,dc,cd,bL,l,gQ,so,⟨by rw[hz]at b9;exact b9,(R.z.set ab).F gq E,(D.d3 aJ R.W.lt).trans R.p,λb e=>(D.d3 b (R.W.aQ b e).2).trans (R.b b e),by rw[gE,pH,hz];exact R.f.F (λb _ L=>gq b L) J E,
   ⟨J,(D.d3 bx aD).trans a2,a3,aZ,bA⟩,⟨J,(D.d3 bZ dL).trans b3,d8,fM,gg⟩,⟨J,(D.d3 cw eE).trans f0,ia,n9,su⟩,R.ne,λb e=>?_,(I 24).trans R.pw,(I 41).trans R.nQ,(I 43).trans R.sk,by rw[I 25,cc];exact R.sf,λ_=>⟨ab,by rw[aU,aK];exact M⟩,λau=>(R.o au).F ab ab ab ab gq E zo mF,vU,λ_ _=>?_⟩,hG,D⟩
  ·obtain⟨dl,e1,hb,mR⟩:=R.s b e;exact⟨J,(D.d3 b dl).trans e1,hb,mR⟩
  ·rw[mf,n4,<-cq];exact⟨ab,ab,EP⟩
 ·rcases jD with⟨_,mf,n4,pH⟩|⟨q,_⟩
  case inr=>exact absurd (λk hk=>pe k hk) q
  have aA5:st=Z.f8 t:=jc;subst aA5;refine⟨rfl,dc,cd,bL,l++dx,some b6,so,⟨b9,(R.z.set ab).F gq E,(D.d3 aJ R.W.lt).trans R.p,ab,?_,
   ⟨J,(D.d3 bx aD).trans a2,a3,ab,bA⟩,⟨J,(D.d3 bZ dL).trans b3,d8,ab,gg⟩,⟨J,(D.d3 cw eE).trans f0,ia,ab,su⟩,R.ne,λb e=>?_,(I 24 J J J).trans R.pw,(I 41 J J J).trans R.nQ,(I 43 J J J).trans R.sk,by rw[I 25 J J J,cc];exact R.sf,λ_=>⟨ab,by rw[aU,aK];exact M⟩,λau=>(R.o au).F (congrFun d6 0) (congrFun hy 0) (congrFun hd 0) (λn h1 L=>I n J J J) gq E zo mF,vU,λ_ _=>?_⟩,hG,D⟩
  ·rw[gE,pH,iU,pJ];exact(R.f.F (λb _ L=>gq b L) (cC _) E).app (hn.F (hG.new sh λd h1 L=>ky d J (λe=>ab) nofun) J sh)
  ·obtain⟨dl,e1,hb,mR⟩:=R.s b e;exact⟨J,(D.d3 b dl).trans e1,hb,λdS=>ab⟩
  ·rw[mf,n4,<-cq];refine⟨h42,?_,iN.no Bk⟩
   grind
end
structure Wb (Z:b8) (t:Nat):Prop where
 c:∀i dU v y,Z.vx t i dU v=some y->0<=y/\y<=dg
 b:∀i j v y,iJ (fm Z.k t) (Z.cut i j) (λk=>Z.e3.x t (Z.lc j+k)) v=some y->0<=y/\y<=dg
theorem QV{Z:b8}{t i j:Nat}(D:j<Z.C)(B:dU j=false)(v:Nat):Z.vx t i (λk=>if k=j then true else dU k) v=e4 (fm Z.k t) (Z.vx t i dU v) (iJ (fm Z.k t) (Z.cut i j) (λk=>Z.e3.x t (Z.lc j+k)) (v-Z.bB i)):=aoQ D B _
theorem aA6(Z:b8):Z.lc 0=0:=by unfold b8.lc da;simp
theorem aA7{Z:b8}(K:f4 Z):Z.lc Z.C=Z.N:=by unfold b8.lc da;rw[Nat.min_self];exact NJ _ K.hF
theorem aqd{Z:b8}(K:f4 Z){t i:Nat}(E:∀j,j<Z.C->dU j=true)(B:k<Z.H i):Z.vx t i dU (Z.bB i+k)=iJ (fm Z.k t) Z.ai (Z.e3.x t) (Z.bB i+k):=by unfold b8.vx;rw[Jj];exact alF  (λa b h=>uY h) (aA6 Z) (aA7 K) (λg D=>K.M.mz g D) E B
theorem awv{Z:b8}(K:f4 Z){B:Nat}{v:Nat}(D:gb v=iJ (fm Z.k (B+1)) Z.ai (Z.e3.x (B+1)) v):
  (t4 Z.k (iL Z.bR Z.N ((B+1-1) / 2)) (B+1) (fm Z.k (B+1)) (Z.e3.st B) gb).A v=(Z.e3.st (B+1)).A v/\(t4 Z.k (iL Z.bR Z.N ((B+1-1) / 2)) (B+1) (fm Z.k (B+1)) (Z.e3.st B) gb).B v=(Z.e3.st (B+1)).B v/\(t4 Z.k (iL Z.bR Z.N ((B+1-1) / 2)) (B+1) (fm Z.k (B+1)) (Z.e3.st B) gb).q v=(Z.e3.st (B+1)).q v:=by unfold t4;simp only[D];exact⟨rfl,rfl,rfl⟩
theorem ay1{n:Nat}{p:Nat->al}(h:∀k,k<n->p k=q k):eZ n p=eZ n q:=by unfold eZ;rw[Dl h]
theorem at1{k round:Int}{m:Nat}{p:Nat->al}(h:∀k,k<m->p k=q k):qT k len round m A p=qT k len round m A q:=by
 have:en m p=en m q:=by exact Jv ab
 unfold qT
 grind
theorem hr.ext{h:ae}{U:Nat}{ap ag:Int}{n:Nat}{B D E:aa Int}{p:Nat->al}(H:hr h U v ap ag n A B p)(L:A=D)(P:B=E)(K:∀k,k<n->p k=q k):hr h U v ap ag n D E q:=by obtain⟨M,fw,I,e,a,b,c⟩:=H;rw[ay1 K]at c;subst L P;exact⟨M,fw,I,e,a,b,c⟩
section
variable {s:al} {g h:ae} {U aJ i j ap av t:Nat} {c:Nat->X} {l:aa eB} {aQ so:aw Nat} {Z:b8} {own:Nat->Nat} {x:gd} {bx bZ cw:Nat}
theorem jA.dA{f:eB}{ir:Nat}(K:f4 Z)(R:jA Z av x i 0 own g h U aJ c l aQ so bx bZ cw)(eA:jr own h U g)(bd:nm Z.R Z.C av x (.dA i ir t))(eI:av<900)(HD:∀t,t<=av->(Z.f8 t=0↔t<av))(B:Wb Z t)(bK:lH h ap U f (p8 Z (.dA i ir t)))(bo:(x.out (i*Z.C+0)).length<800):
  aE Q s 63 [bf aJ,.agg ⟨eg f⟩] h U (EN Z av x (.dA i ir t) i 0 own h U aJ bx bZ cw):=by
 have uq:=bd;obtain⟨ag,b5,bO,cq,h1,ue,M5⟩:=bd;have fO:=R.f.len;rw[gX]at fO;have O:=R.o rfl;obtain⟨m3a,m3b⟩:=O.m3 bO J;obtain⟨aD,a2,a3,aZ,bA⟩:=R.eH;obtain⟨dL,b3,d8,fM,gg⟩:=R.hu;obtain⟨eE,f0,ia,n9,su⟩:=R.jg;obtain⟨EO,El,Bz⟩:=R.ne;refine Gg (lL:=3)   R.W R.z.gI K.oa bK.is.l6 bK.is.eu ag b5 bK.is.kind J λrb a5 e5 P=>?_;have mU:e2 rb a5 aJ c i 0 Z.C l aQ:=R.W.F (λd bh=>e5 d (bh.elim (λe=>e ▸ R.W.lt) λe=>(R.W.aQ d e).2)) P;have G:=R.Vg eA;have qy:si g rb a5 aJ:=⟨G.sub λd bh _=>e5 d bh,G.p,λd bh=>G.n d J⟩
 rw[<-cq]at m3b;have kj:=O.has;rw[<-cq]at kj;refine(aji     (y:=λv=>iJ (fm Z.k t) (Z.cut i ir) (λk=>Z.e3.x t (Z.lc ir+k)) (v-Z.bB i))   K mU qy (R.z.F aM P) J ag h1 J (bK.F (λb _ ao=>e5 b ao) (cC _) P) rfl (ym ab) (λv y=>B.c _ _ v y) (λv y=>B.b _ _ _ y) (λv y ck=>B.c i (λk=>if k=ir then true else x.dU i k) v y (by rw[QV b5 M5];omega))
  (hr.F kj aM P) (m3b.F λb e=>e5 b (R.s b e).1) (λb e=>by obtain⟨cr,kY,lM,cQ⟩:=R.s b e;grind) (by rw[O.EL,cq]) (by rw[O.BW,if_neg J,(HD (x.a i-1) J).2 J]) (by rw[O.M4,bO]) R.nQ (m3a.F (e5 bZ dL) ab) ⟨J,d8,fM,eA.D7 b3 J⟩ b5 M5).mono ?_
 rintro _ ac Y ⟨rfl,bL,gQ,sj,dx,EP,w6,ja,b9,Tf,qO⟩;have oy:∀d,d<U->d≠aJ->d≠bZ->aQ≠some d->u ac d=u h d:=λd h1 ao aT a9=>(ja d J ao aT a9).trans (e5 d h1);have I:U<=Y:=J
 obtain⟨dc,cd,hG,D,qo,ky⟩:=wQ       gQ sj I λd h1 ao=>oy d h1 (λe=>ao (by rw[e,R.p])) ab λe=>ao (R.b d e);have gq:=eA.F hG D J;obtain⟨_,aU,aK,cc,d6,hd,hy,_,jD⟩:=JN uq;have gE:(cS Z.R Z.C av x (.dA i ir t)).out (i*Z.C+0)=x.out (i*Z.C+0)++d1 Z.R Z.C av x (.dA i ir t):=by show up x.out (i*Z.C) (x.out (i*Z.C)++d1 Z.R Z.C av x (.dA i ir t)) (i*Z.C)=_;rw[g4];rfl
 have Bq:=oy bx aD a3 EO aZ;have ur:=oy cw eE ia (kI Bz) n9;have ahY:∀bL:Nat->X,bL 23=c 23->i=0->bL 23 = (((cS Z.R Z.C av x (.dA i ir t)).P 0+1:Nat):X)/\iN ac bx Z.R ((cS Z.R Z.C av x (.dA i ir t)).e9 0) (td cd 0 Y Z 0 (Z.e3.x ((cS Z.R Z.C av x (.dA i ir t)).P 0+1))):=λbL e au=>by obtain⟨t1,t2⟩:=R.top au;rw[aU,aK,e];exact⟨t1,t2.F Bq λi v aI=>lv.F aI (λb _ ao=>gq b ao) J I⟩
 have LF:∀bL:Nat->X,bL 42=c 42->bL 44=c 44->i=0->(0:Nat)=0->bL 42 = .int .i64 ((cS Z.R Z.C av x (.dA i ir t)).V:Int)/\bL 44 = .bool (decide (av<(cS Z.R Z.C av x (.dA i ir t)).V))/\iN ac cw Z.R (cS Z.R Z.C av x (.dA i ir t)).fQ (IH (Z.jk (cS Z.R Z.C av x (.dA i ir t)).V)):=λbL dl e1 au h1=>by obtain⟨t1,t2,t3⟩:=R.one au h1;rw[hd,hy,dl,e1];exact⟨t1,t2,t3.F ur λ_ _ h=>h⟩
 have vU:∃es cI,u ac bZ=some (.map es cI):=by obtain⟨L,cI,q,_,_⟩:=EP.ex;exact⟨_,cI,q.at_⟩
 have hv:(cS Z.R Z.C av x (.dA i ir t)).a i=t:=ab
 rcases qO with⟨⟨k,hk,II⟩,E,rfl,rfl,hO'⟩|⟨pe,E,h38,zu,rfl,b6,jH,rfl,UZ,ht,hSt,rfl⟩
 ·rcases jD with⟨q,_⟩|⟨_,mf,n4,pH⟩
  ·have:=q k hk;rw[show up (x.dU i) ir true k=_ from II]at this;cases this
  refine⟨rfl,dc,cd,bL,l,gQ,sj,⟨by rw[hz]at b9;exact b9,(R.z.set λn _ _=>E n J).F gq I,(D.d3 aJ R.W.lt).trans R.p,λb e=>(D.d3 b (R.W.aQ b e).2).trans (R.b b e),by rw[gE,pH,hz];exact R.f.F (λb _ ao=>gq b ao) (cC _) I,
   ⟨J,(D.d3 bx aD).trans a2,a3,aZ,λe=>ab⟩,⟨J,(D.d3 bZ dL).trans b3,d8,fM,λe=>ab⟩,⟨J,(D.d3 cw eE).trans f0,ia,n9,λe=>ab⟩,R.ne,λb e=>?_,(E 24 J).trans R.pw,(E 41 J).trans R.nQ,(E 43 J).trans R.sk,by rw[E 25 J,cc];exact R.sf,ahY bL (E 23 J),λau=>⟨?_,?_,?_,?_,?_,?_,λe=>?_,λ_ _=>?_⟩,vU,LF bL (E 42 J) (E 44 J)⟩,hG,D⟩
  ·have:=R.W.lt
   grind
  ·rw[E 26 J,d6];exact O.EL
  ·rw[E 27 J,d6];exact O.BW
  ·rw[E 38 J,mf,O.M4,bO]
  ·rw[E 39 J,d6];exact O.EM
  ·rw[E 28 J,E 29 J,E 30 J,E 31 J,E 32 J,d6];exact hr.F O.has gq I
  ·rw[E 33 J,E 34 J,E 35 J,E 36 J,E 37 J,d6,mf,<-bO];exact hr.F O.Vf gq I
  ·grind
  ·rw[n4,hv];refine⟨EP,?_⟩;rw[show(bj (Z.H i) λk=>Z.vx t i (up (x.dU i) ir true) (Z.bB i+k))=bj (Z.H i) λk=>e4 (fm Z.k t) (Z.vx t i (x.dU i) (Z.bB i+k)) (iJ (fm Z.k t) (Z.cut i ir) (λk=>Z.e3.x t (Z.lc ir+k)) (Z.bB i+k-Z.bB i))from ym λk _=>QV b5 M5 _];exact hO'
 ·rcases jD with⟨_,fa,pH⟩|⟨q,_⟩
  case inr=>exact absurd (λk hk=>pe k hk) q
  have eR:=(b9.aQ b6 rfl).2;obtain⟨M,d5⟩:∃M,t=M+1:=⟨t-1,J⟩
  subst d5;have kF:∀k,k<Z.H i->jH.A (Z.bB i+k)=(Z.e3.st (M+1)).A (Z.bB i+k)/\jH.B (Z.bB i+k)=(Z.e3.st (M+1)).B (Z.bB i+k)/\jH.q (Z.bB i+k)=(Z.e3.st (M+1)).q (Z.bB i+k):=λk hk=>by rw[UZ];exact awv K (by rw[<-QV b5 M5];exact aqd K pe hk)
  have ik:(cA (Z.H i) λk=>jH.A (Z.bB i+k))=cA (Z.H i) λk=>(Z.e3.st (M+1)).A (Z.bB i+k):=Kq λk hk=>(kF k hk).1;have ey:(cA (Z.H i) λk=>jH.B (Z.bB i+k))=cA (Z.H i) λk=>(Z.e3.st (M+1)).B (Z.bB i+k):=Kq λk hk=>(kF k hk).2.1;have d7:(qT Z.k Z.len ((M+1:Nat):Int) (Z.H i) (cA (Z.H i) λk=>jH.A (Z.bB i+k)) (λk=>jH.q (Z.bB i+k)):Int)=Z.jk (M+1) i:=by unfold b8.jk;rw[ik,at1 λk hk=>(kF k hk).2.2]
  rw[d7]at b9;have p4:l2 cd a5 b6 (.agg ⟨[bL 33,bL 34,bL 35,bL 36,bL 37]⟩) (Z.bB i:Int) ((Z.bB i+Z.H i:Nat):Int) (Z.H i) (cA (Z.H i) λk=>jH.A (Z.bB i+k)) (cA (Z.H i) λk=>jH.B (Z.bB i+k)) (λk=>jH.q (Z.bB i+k)):=hSt.wid (hG.new J λd h1 ao=>ky d J (λe=>ab) (nofun)) (cC _) (cC _);refine⟨rfl,dc,cd,bL,_,some b6,none,⟨b9,(R.z.set λn h1 ao=>E n J J J J).F gq I,(D.d3 aJ R.W.lt).trans R.p,λb e=>ab,?_,
   ⟨J,(D.d3 bx aD).trans a2,a3,λe=>ab,nofun⟩,⟨J,(D.d3 bZ dL).trans b3,d8,λe=>ab,nofun⟩,⟨J,(D.d3 cw eE).trans f0,ia,λe=>ab,nofun⟩,R.ne,(nofun),(E 24 J J J J).trans R.pw,(E 41 J J J J).trans R.nQ,(E 43 J J J J).trans R.sk,by rw[E 25 J J J J,cc];exact R.sf,ahY bL (E 23 J J J J),λau=>⟨?_,?_,?_,?_,?_,?_,λ_=>⟨zu,rfl⟩,λe=>?_⟩,vU,LF bL (E 42 J J J J) (E 44 J J J J)⟩,hG,D⟩
  ·rw[gE,pH,iU];exact(R.f.F (λb _ ao=>gq b ao) (cC _) I).app ⟨⟨rfl,rfl,rfl,rfl,rfl,wY,wY,rfl,rfl,rfl⟩,trivial⟩
  ·rw[E 26 J J J J,d6];exact O.EL
  ·rw[E 27 J J J J,d6];exact O.BW
  ·grind
  ·rw[E 39 J J J J,d6];exact O.EM
  ·rw[E 28 J J J J,E 29 J J J J,E 30 J J J J,E 31 J J J J,E 32 J J J J,d6];exact hr.F O.has gq I
  ·rw[fa,if_pos rfl,hv];exact hr.ext (l2.rd (p4.wid   (λ_ _ _=>rfl) J J)) ik ey λk hk=>(kF k hk).2.2
  ·rw[fa]at e;cases e
end
theorem ay2(Z:b8)(t:Nat):Z.f8 t=0\/Z.f8 t=1\/Z.f8 t=2:=by
 unfold b8.f8 wA
 grind
theorem at2(Z:b8)(t i:Nat):(bj (Z.H i) λk=>Z.vx t i l4 (Z.bB i+k))=[]:=
 List.eq_nil_iff_forall_not_mem.2 λp B=>by have h:=((j0  ).1 B).2;rw[show Z.vx t i l4 (Z.bB i+p.1)=none from aoP _]at h;cases h
section
variable {s:al} {g h:ae} {U aJ i j ap av t:Nat} {c:Nat->X} {l:aa eB} {aQ so:aw Nat} {Z:b8} {own:Nat->Nat} {x:gd} {bx bZ cw:Nat}
theorem jA.order{f:eB}(K:f4 Z)(R:jA Z av x i 0 own g h U aJ c l aQ so bx bZ cw)(eA:jr own h U g)(bd:nm Z.R Z.C av x (.order i t))(eI:av<900)(HD:∀t,t<=av->(Z.f8 t=0↔t<av))(bK:lH h ap U f (p8 Z (.order i t)))(bo:(x.out (i*Z.C+0)).length<800):
  aE Q s 63 [bf aJ,.agg ⟨eg f⟩] h U (EN Z av x (.order i t) i 0 own h U aJ bx bZ cw):=by
 have uq:=bd;obtain⟨ag,bO,cq,ue⟩:=bd;have fO:=R.f.len;rw[gX]at fO;have O:=R.o rfl;obtain⟨o40,oso⟩:=O.m2 bO;subst oso;obtain⟨aD,a2,a3,aZ,bA⟩:=R.eH;obtain⟨dL,b3,d8,fM,gg⟩:=R.hu;obtain⟨eE,f0,ia,n9,su⟩:=R.jg;obtain⟨EO,El,Bz⟩:=R.ne;obtain⟨es,cI,vU⟩:=R.m4;refine Gg (lL:=5)   R.W R.z.gI K.oa bK.is.l6 (by rw[bK.is.eu,lY];rfl) J K.hF bK.is.kind J λrb a5 e5 I=>?_;have mU:e2 rb a5 aJ c i 0 Z.C l aQ:=R.W.F (λd bh=>e5 d (bh.elim (λe=>e ▸ R.W.lt) λe=>(R.W.aQ d e).2)) I;have G:=R.Vg eA;have qy:si g rb a5 aJ:=⟨G.sub λd bh _=>e5 d bh,G.p,λd bh=>G.n d J⟩
 have kj:=O.has;have ik:=O.Vf;rw[if_pos bO]at ik;rw[<-cq]at kj ik;refine(ajg   (st:=Z.f8 t)   K mU qy (R.z.F aM I) (by have:=K.mV;omega) ag J bK.is.round bK.is.n (ay2 Z t) (λL=>by rw[L]at kj ⊢;exact hr.F kj aM I) (hr.F ik aM I) (by rw[O.EL,cq]) (by
   rw[O.BW,<-cq]
   grind) (by rw[O.M4,bO]) (by rw[O.EM,cq]) R.nQ ((e5 bZ dL).trans vU) ab).mono ?_
 rintro _ ac Y ⟨rfl,bL,gQ,dx,B,P,zu,b9,hn,vI,sh,nM,hmp,ja,w6⟩;have oy:∀d,d<U->d≠aJ->(Z.f8 t=0->d≠bZ)->aQ≠some d->u ac d=u h d:=λd h1 ao aT a9=>(ja d J ao aT a9).trans (e5 d h1);have E:U<=Y:=J
 obtain⟨dc,cd,hG,D,qo,ky⟩:=wQ       gQ none E λd h1 ao=>oy d h1 (λe=>ao (by rw[e,R.p])) ab λe=>ao (R.b d e);have gq:=eA.F hG D J;obtain⟨aU,aK,cc,hd,hy,_,_,hv,fa,rk,_,pH⟩:=On uq;have gE:(cS Z.R Z.C av x (.order i t)).out (i*Z.C+0)=x.out (i*Z.C+0)++d1 Z.R Z.C av x (.order i t):=by show up x.out (i*Z.C) (x.out (i*Z.C)++d1 Z.R Z.C av x (.order i t)) (i*Z.C)=_;rw[g4];rfl
 have Bq:=oy bx aD a3 (λ_=>EO) aZ;have ur:=oy cw eE ia (λ_=>kI Bz) n9;have mn:=P.a;have aI:=HD t ue;have M:(cS Z.R Z.C av x (.order i t)).a i=t+1:=J
 refine⟨rfl,dc,cd,bL,l++dx,gQ,none,⟨b9,(R.z.set ab).F gq E,(D.d3 aJ R.W.lt).trans R.p,λb e=>?_,?_,
  ⟨J,(D.d3 bx aD).trans a2,a3,ab,J⟩,⟨J,(D.d3 bZ dL).trans b3,d8,ab,J⟩,⟨J,(D.d3 cw eE).trans f0,ia,ab,J⟩,R.ne,ab,(mn 24 J).trans R.pw,(mn 41 J).trans R.nQ,(mn 43 J).trans R.sk,by rw[mn 25 J,cc];exact R.sf,λL=>?_,λL=>⟨?_,?_,?_,?_,?_,?_,λe=>?_,λ_ dv=>?_⟩,?_,λL h1=>?_⟩,hG,D⟩
 ·rcases nM b e with q|q
  ·exact(D.d3 b (R.W.aQ b q).2).trans (R.b b q)
  grind
 ·rw[gE,pH,iU];refine(R.f.F (λb _ ao=>gq b ao) (cC _) E).app ?_;have M6:=hn.F (ec:=0)  (hG.new sh λd h1 ao=>ky d J (λe=>(nM d e).elim (λq=>by have:=(R.W.aQ d q).2;omega) λq=>J) nofun) J sh
  by_cases h:t<av
  ·rw[if_pos (aI.2 h)]at M6;rw[if_pos h,pJ];exact M6
  ·rw[if_neg λe=>h (aI.1 e)]at M6;rw[if_neg h];exact M6
 ·obtain⟨t1,t2⟩:=R.top L;rw[aU,aK,mn 23 J];exact⟨t1,t2.F Bq λi v aI=>lv.F aI (λb _ ao=>gq b ao) (cC _) E⟩
 ·rw[M];exact P.r
 ·rw[M,if_neg J];exact P.s
 ·rw[fa];exact P.w
 ·rw[M,gY J];exact P.b
 ·rw[M,P.h 28 J J,P.h 29 J J,P.h 30 J J,P.h 31 J J,P.h 32 J J]
  by_cases L:t=0
  ·simp only[if_pos L];rw[L]at kj ⊢;exact hr.F kj gq E
  ·simp only[if_neg L];exact hr.F ik gq E
 ·rw[M,fa,mn 33 J,mn 34 J,mn 35 J,mn 36 J,mn 37 J];exact hr.F ik gq E
 ·grind
 ·have L:Z.f8 t=0:=aI.2 J;rw[rk,M,at2,zu,if_pos L];exact⟨iN.no (hmp L),.inl ⟨rfl,rfl,rfl⟩⟩
 ·grind
 ·obtain⟨t1,t2,t3⟩:=R.one L h1;rw[hd,hy,mn 42 J,mn 44 J];exact⟨t1,t2,t3.F ur λ_ _ h=>h⟩
end
section
variable {s:al} {g cd h ac:ae} {U Y aJ i j ap av t ei:Nat} {c:Nat->X} {l:aa eB} {aQ so:aw Nat} {Z:b8} {own dc:Nat->Nat} {x fK:gd} {bx bZ cw:Nat}
theorem jA.other(R:jA Z av x i j own g h U aJ c l aQ so bx bZ cw)(B:U<=Y)(same:∀d,d<U->own d≠ei->u ac d=u h d)(K:∀d,d<U->dc d=own d)(tl:i*Z.C+j+1≠ei)(L:aA U g cd)(eq:fK.q i j=x.q i j)(gE:fK.out (i*Z.C+j)=x.out (i*Z.C+j))(EU:i=0->fK.P j=x.P j/\fK.e9 j=x.e9 j)(aL:j=0->fK.a i=x.a i/\fK.w i=x.w i/\fK.dU i=x.dU i)(aU:i=0->j=0->fK.V=x.V/\fK.fQ=x.fQ):jA Z av fK i j dc cd ac Y aJ c l aQ so bx bZ cw:=by
 have M:∀d,d<U->own d=i*Z.C+j+1->u ac d=u h d:=ab
 have aW:∀b,aQ=some b->b<U:=λb e=>(R.W.aQ b e).2;obtain⟨aD,a2,a3,aZ,bA⟩:=R.eH;obtain⟨dL,b3,d8,fM,gg⟩:=R.hu;obtain⟨eE,f0,ia,n9,su⟩:=R.jg;refine⟨R.W.F (λd bh=>bh.elim (λe=>by rw[e];exact M aJ R.W.lt R.p) λe=>M d ab (R.b d e)) B,R.z.F L B,(K aJ R.W.lt).trans R.p,λb e=>(K b (aW b e)).trans (R.b b e),by rw[gE];exact R.f.F (λb _ ao=>L b ao) J B,
  ab,ab,ab,R.ne,λb e=>?_,R.pw,R.nQ,R.sk,by rw[eq];exact R.sf,λD=>?_,λD=>?_,?_,λD h1=>?_⟩
 ·obtain⟨I,E,hb,mR⟩:=R.s b e
  grind
 ·obtain⟨t1,P⟩:=R.top D;obtain⟨I,E⟩:=EU D;rw[I,E];exact⟨t1,P.F ab λi v aI=>lv.F aI (λb _ ao=>L b ao) J B⟩
 ·obtain⟨I,E,hb⟩:=aL D;exact(R.o D).F I E hb ab L B ab λb e=>M b (R.s b e).1 (R.s b e).2.1
 ·obtain⟨es,cI,q⟩:=R.m4
  grind
 ·obtain⟨t1,P,t3⟩:=R.one D h1;obtain⟨I,E⟩:=aU D h1;rw[I,E];exact⟨t1,P,t3.F ab λ_ _ h=>h⟩
theorem jA.gone{m:ct}{r:aa ct}(R:jA Z av x i j own g h U aJ c l aQ so bx bZ cw)(K:jr own h U g)(hm:x.out (i*Z.C+j)=m::r):
  ∃f I,l=f::I/\tc g 0 U f (p8 Z m)/\aE Q s 62 [bf aJ] h U (λn2 ac Y=>n2 = .tuple ⟨[]⟩/\Y=U/\∃bL,jA Z av { x with out:=up x.out (i*Z.C+j) r } i j own g ac U aJ bL I aQ so bx bZ cw/\jr own ac U g/\∀d,d<U->own d≠i*Z.C+j+1->u ac d=u h d):=by
 have D:=R.f;rw[hm]at D;cases l with
 |nil=>exact D.elim
 |cons f I =>
  refine⟨f,I,rfl,D.1,(ap6 R.W rfl).mono ?_⟩;rintro _ ac _ ⟨rfl,dX,b9,L,rfl⟩;obtain⟨aD,a2,a3,aZ,bA⟩:=R.eH;obtain⟨dL,b3,d8,fM,gg⟩:=R.hu;obtain⟨eE,f0,ia,n9,su⟩:=R.jg;have E:∀n,n≠22->hi c 22 dX n=c n:=λn bw=>dN bw;have a6:=R.p;refine⟨rfl,rfl,_,⟨b9,R.z.set ab,R.p,R.b,?_,R.eH,R.hu,R.jg,R.ne,R.s,(E 24 J).trans R.pw,(E 41 J).trans R.nQ,(E 43 J).trans R.sk,(E 25 J).trans R.sf,λB=>?_,λB=>?_,?_,λB h1=>?_⟩,λd=>?_,ab⟩
  ·rw[show({ x with out:=up x.out (i*Z.C+j) r }:gd).out (i*Z.C+j)=r from g4 _ _ _];exact D.2
  ·obtain⟨t1,M⟩:=R.top B;exact⟨ab,M.F ab λ_ _ h=>h⟩
  ·exact(R.o B).F rfl rfl rfl ab aM J ab λb e=>L b (R.s b e).2.2.1
  ·obtain⟨es,cI,q⟩:=R.m4
   grind
  ·obtain⟨t1,M,P⟩:=R.one B h1;exact⟨ab,ab,P.F ab λ_ _ h=>h⟩
  ·rw[K d]
   grind
end
section
variable {s:al} {g cH h ac:ae} {U Y aJ i j av:Nat} {c:Nat->X} {l:aa eB} {aQ:aw Nat} {Z:b8} {own:Nat->Nat} {bx bZ cw:Nat}
theorem jA.init(K:f4 Z)(N:NwI Z i j U h ac Y aJ c aQ bx bZ cw l cH)(S:lf cH g)(ag:i<Z.R)(P:j<Z.C)(a6:own aJ=i*Z.C+j+1)(aW:∀b,aQ=some b->own b=i*Z.C+j+1)(h1:own bx=i*Z.C+j+1)(ao:own bZ=i*Z.C+j+1)(aT:own cw=i*Z.C+j+1):
  jA Z av (mJ Z.R Z.C) i j own g ac Y aJ c l aQ none bx bZ cw:=by
 obtain⟨m23,m24,m25,I,L,EM,m40,m41,M,m43,m44⟩:=N.m;obtain⟨aC,aD,a2,a3,aZ,bA⟩:=N.eH;obtain⟨EV,dL,b3,d8,fM,gg⟩:=N.hu;obtain⟨aEM,eE,f0,ia,n9,su⟩:=N.jg;refine⟨N.W,N.z.sub S,a6,aW,?_,ab,ab,ab,N.ne,ab,m24,m41,m43,m25,λ_=>⟨m23,iN.no bA⟩,λB=>?_,⟨_,_,gg⟩,λB uh=>⟨M,?_,iN.no su⟩⟩
 ·have hm:(i*Z.C+j) % Z.C=j:=by rw[x4,Nat.mul_add_mod,Jy P]
  by_cases B:j=0
  ·subst B;obtain⟨_,_,_,rfl⟩:=N.aDe rfl;have cb:i*Z.C+0<Z.R*Z.C:=pQ ag P;have bh:(i*Z.C+0) / Z.C=i:=by rw[og];exact Nat.mul_div_cancel _ P
   have:(mJ Z.R Z.C).out (i*Z.C+0)=[.dB i 0]:=by
    show(if(i*Z.C+0) % Z.C=0/\i*Z.C+0<Z.R*Z.C then[ct.dB ((i*Z.C+0) / Z.C) 0]else[])=_
    grind
   rw[this];exact⟨⟨rfl,rfl,rfl,rfl,rfl,wY,wY,rfl,rfl,rfl⟩,trivial⟩
  ·obtain⟨rfl,_⟩:=N.aED B;have:(mJ Z.R Z.C).out (i*Z.C+j)=[]:=if_neg J;rw[this]
   trivial
 ·obtain⟨dl,e1,E,_⟩:=N.aDe B;have D:jp g Y (.agg ⟨[c 28,c 29,c 30,c 31,c 32]⟩) (Z.bB i) (Z.H i) (Z.e3.st 0):=hr.sub e1 S;refine⟨I,L,dl,EM,D,?_,ab,λe=>by cases e⟩;rw[E 28 J J,E 29 J J,E 30 J J,E 31 J J,E 32 J J];exact D
 ·rw[m44,show(mJ Z.R Z.C).V=0 from rfl,hA J]
end
def RU:aa (aa Nat):=[[1,2,3,5,22,23]]
def ac9(s:al)(aD a2 a3 bA eL kc:X)(h:ae)(U:Nat)(N:aP)(aL:aP)(R:aP):Prop:=cG kc eL (ax h 8 aD λc=>cg 131 [c,kc] h U λd e f=>bn 8 aD λg=>bS e g λi=>c7 g i (cg 132 [i,kc] e f λj k l=>aN 12 k aD λm=>jt 12 aD m (cg 59 [m,d,j] k l λn o p=>af (cp n 0) λq=>af (cp n 1) λr=>mi r (R [aD,(.pointer none),r,bA,eL,kc] o p) (af (bs bA) λaO=>ax o 12 aO λw=>dY (fc 1 [(.pointer none)] [(0,1,q)]) o p λx y z=>dG (dO (dM 1 y z w x)) λbC bV bM=>af (bs bA) λbg=>bn 12 bg λbW=>af (aS bV 1 bW bC) λb7=>ax b7 8 aD λcJ=>aV s 132 [cJ,kc] b7 bM λcB ds de=>bz .eql 3 cB (ad 0) (af (bs bA) λam=>ax ds 14 am λeU=>dY (fc 1 [(.pointer none)] [(0,1,q)]) ds de λgG gU gL=>dG (dO (dM 1 gU gL eU gG)) λio i0 gH=>af (bs bA) λmj=>bn 14 mj λlQ=>af (aS i0 1 lQ io) λlR=>cj kc λoX=>N [aD,a2,a3,bA,eL,oX] lR gH) (cj kc λqw=>N [aD,a2,a3,bA,eL,qw] ds de))) 2 [e,h]) 1 [h]) (aL [aD,a2,a3,bA,eL,kc] h U)
def agG:cU:=λs ah h U K=>bH ah h U λa b c=>aN 12 b a λd=>aV s 121 [d] b c λe f g=>mi e (K (.tuple ⟨[(.pointer none),e]⟩) f g) (aN 12 f a λj=>dY (.ok .map) f g λk l m=>af (cV [(ad 0),(ad 0),(ad 0),(ad 0),ay,(ad 0),ay,(ad 0),(ad 0),(ad 0),(ad 0),ay,ay,(.map none),ay,ay] [(0,12,j),(13,1,k)]) λn=>bH n l m λo p q=>ax p 7 a λt=>ax p 8 a λv=>bt .mul 3 t v λw=>bE (bU Q s RU 70 0) [a,(.pointer none),(ad 0),o,w,(ad 0)] p q [(0,λx y z=>aV s 140 [(bb x 3)] y z λbC bV bM=>K (.tuple ⟨[(bb x 3),(ad 0)]⟩) bV bM)] (λbg bW b7=>K (.tuple ⟨[(bb bg 1),(bb bg 2)]⟩) bW b7))
theorem at3{s:al}{D E B:X}{h:ae}{U:Nat}{R:aP}:bU Q s RU 70 0 [D,a2,a3,E,eL,B] h U N [(0,aL)] R=ac9 s D a2 a3 E eL B h U N aL R:=by kernel_rfl
theorem aww:cW 70 agG:=cY RU
def ada:cU:=λs ah h U K=>bz .neq 110 ah (.pointer none) (af (bs ah) λb=>ax h 14 b λd=>aV s 141 [d,(.func (.func 142) #[] #[])] h U λe f g=>af (du .not e) λi=>K i f g) (K (.bool false) h U)
theorem aqe:cW 71 ada:=cY []
def FZ:aa (aa Nat):=[[0,3,15,16],[0,3,27,28,29]]
def XO(s:al)(aC a3 jd hg:X)(h:ae)(U:Nat)(N:aP)(aL:aP)(R:aP):Prop:=cG hg jd (aV s 143 [aC,hg] h U λb c d=>br b (cj hg λe=>N [aC,(.bool true),jd,e] c d) (cj hg λf=>N [aC,a3,jd,f] c d)) (aL [aC,a3,jd,hg] h U)
def XP(s:al)(aC a3 r3 nt vT:X)(h:ae)(U:Nat)(N:aP)(aK:aP)(R:aP):Prop:=cG vT nt (gT 2 h 2 r3 vT λc=>bX [(ad 0),(ad 0)] h U λd e f=>af (aS e 2 d c) λg=>af (bs aC) λi=>ax g 13 i λk=>aN 2 g d λl=>af (j3 Q g 198 (.pointer none) false k l) λm=>aV s 145 [m] g f λn o p=>cg 147 [m] o p λq r t=>af (iy (.array 2 1) d (ad 0)) λaO=>bS r aO λv=>c7 aO v (af (iy (.array 2 1) d (ad 1)) λw=>bS r w λx=>c7 w x (cg 146 [aC,v,x,q] r t λy z bC=>br a3 (cj vT λbV=>N [aC,(.bool true),r3,nt,bV] z bC) (aV s 145 [m] z bC λbM bg bW=>bt .lss 3 bM n λb7=>cj vT λbI=>N [aC,b7,r3,nt,bI] bg bW)) 1 [o]) 1 [o]) (aK [aC,a3,r3,nt,vT] h U)
def aaR:cU:=λs ah h U K=>bz .eql 110 ah (.pointer none) (K (.bool false) h U) (af (bs ah) λb=>ax h 12 b λd=>cP d λe=>bE (bU Q s FZ 72 0) [ah,(.bool false),e,(ad 0)] h U [(0,λf g i=>aV s 144 [(bb f 0)] g i λj k l=>cP j λm=>bE (bU Q s FZ 72 1) [(bb f 0),(bb f 1),j,m,(ad 0)] k l [(2,λn o p=>K (bb n 1) o p)] (λ_ _ _=>False))] (λ_ _ _=>False))
theorem akq{s:al}{B D:X}{h:ae}{U:Nat}{R:aP}:bU Q s FZ 72 0 [aC,a3,B,D] h U N [(0,aL)] R=XO s aC a3 B D h U N aL R:=by kernel_rfl
theorem akr{s:al}{B D E:X}{h:ae}{U:Nat}{R:aP}:bU Q s FZ 72 1 [aC,a3,B,D,E] h U N [(2,aK)] R=XP s aC a3 B D E h U N aK R:=by kernel_rfl
theorem amE:cW 72 aaR:=cY FZ
def Ox(s:al)(K:bN)(co cE cm:X)(au:ae)(a0:Nat):Prop:=ax au 1 cm λb=>aV s 155 [co,b] au a0 λc d e=>af (cp c 0) λf=>af (cp c 1) λg=>bn 2 cm λi=>af (aS d 5 i f) λj=>aN 7 j cm λk=>af (aS j 7 cE k) λl=>aN 7 l cE λm=>K m l e
def aaS:cU:=λs ah h U K=>bX [(ad 0),(ad 0),(ad 0),(ad 0),ay,ay,ay] h U λa b c=>bz .eql 110 ah (.pointer none) (af (cV [(ad 0),(ad 0),(ad 0),(ad 0),ay,ay,ay] []) λe=>af (aS b 7 a e) λf=>aN 7 f a λg=>K g f c) (aV s 150 [ah] b c λi j k=>af (cV [(ad 0),(ad 0),(ad 0),(ad 0),ay,ay,ay] [(1,1,i)]) λl=>bX [(ad 0),(ad 0),(ad 0),(ad 0),ay,ay,ay] j k λm n o=>af (aS n 7 m l) λp=>aV s 71 [ah] p o λq r t=>br q (af (bs ah) λaO=>ax r 14 aO λw=>d2 r 1 w (ad 0) λy=>eQ Q s (hU r t [y] (.func (.func 67) #[] #[])) λz bC bV=>bn 0 m λbM=>af (aS bC 1 bM z) λbg=>(Ox s K ah a m bg bV)) (Ox s K ah a m r t))
theorem amF:cW 74 aaS:=cY []
def Su:ge:=λs ah t1 t2 h U K=>bH ah h U λa b c=>bX [(ad 0),(ad 0),(ad 0),(ad 0),ay,ay,ay,(ad 0),(ad 0)] b c λd e f=>aN 12 e a λg=>aV s 157 [g,t1,t2] e f λi j k=>af (cp i 0) λl=>af (cp i 1) λm=>af (cp i 2) λn=>mi n (af (cV [(ad 0),(ad 0),(ad 0),(ad 0),ay,ay,ay,(ad 0),(ad 0)] []) λp=>af (aS j 9 d p) λq=>aN 9 q d λr=>K (.tuple ⟨[r,n]⟩) q k) (aV s 74 [l] j k λt aO v=>aV s 152 [l] aO v λw x y=>af (cV [(ad 0),(ad 0),(ad 0),(ad 0),ay,ay,ay,(ad 0),(ad 0)] [(0,7,t),(7,1,w),(8,1,m)]) λz=>bX [(ad 0),(ad 0),(ad 0),(ad 0),ay,ay,ay,(ad 0),(ad 0)] x y λbC bV bM=>af (aS bV 9 bC z) λbg=>aV s 71 [l] bg bM λbW b7 bI=>af (du .not bW) λcJ=>br cJ (bn 0 bC λcB=>bn 0 cB λds=>af (aS b7 1 ds (ad 4)) λde=>aN 9 de bC λeN=>af (aS de 9 d eN) λam=>aN 9 am d λan=>K (.tuple ⟨[an,n]⟩) am bI) (aN 9 b7 bC λeU=>af (aS b7 9 d eU) λgG=>aN 9 gG d λgU=>K (.tuple ⟨[gU,n]⟩) gG bI))
theorem ae7:gp 76 Su:=gu []
def QW:aa (aa Nat):=[[0,7,8,9]]
def aaT(s:al)(aC ba bv cF:X)(h:ae)(U:Nat)(N:aP)(aL:aP)(R:aP):Prop:=cG cF bv (d2 h 1 ba cF λc=>cg 68 [c] h U λd e f=>af (bs aC) λg=>bn 15 g λi=>bS e i λj=>c7 i j (cP j λk=>pi (λh=>AX j) k (bz .neq 3 d k (R [aC,ba,bv,cF] e f) (cj cF λm=>N [aC,ba,bv,m] e f)) 1 [h]) 1 [h]) (aL [aC,ba,bv,cF] h U)
def ae8:cU:=λs ah h U K=>af (bs ah) λa=>ax h 14 a λc=>cP c λd=>bE (bU Q s QW 140 0) [ah,c,d,(ad 0)] h U [(0,λe f g=>cg 234 [(bb e 0)] f g λi j k=>af (bs (bb e 0)) λl=>bn 15 l λm=>bS j m λn=>c7 m n (dY (fc 1 [(ad 0),(ad 0),ay,ay,ay] [(0,5,i)]) j k λo p q=>dG (dO (dM 5 p q n o)) λr t aO=>q<=aO/\af (bs (bb e 0)) λv=>bn 15 v λw=>af (aS t 1 w r) λx=>K (.tuple ⟨[]⟩) x aO) 1 [f])] (λy z bC=>K (.tuple ⟨[]⟩) z bC)
theorem aqf{s:al}{B D:X}{h:ae}{U:Nat}{R:aP}:bU Q s QW 140 0 [aC,ba,B,D] h U N [(0,aL)] R=aaT s aC ba B D h U N aL R:=by kernel_rfl
theorem at4:cW 140 ae8:=cY QW
def aqg:cU:=λs ah h U K=>aV s 67 [ah] h U λa b c=>bt .eql 86 a (ad 0) λd=>K d b c
theorem amG:cW 142 aqg:=cY []
def awx:cO:=λs ah t1 h U K=>aV s 236 [ah,t1] h U λa b c=>af (du .not a) λd=>br d (K (.bool false) b c) (af (bs ah) λe=>ax b 12 e λg=>d2 b 1 g t1 λj=>aV s 61 [j] b c λk l m=>af (cp k 0) λn=>af (cp k 1) λo=>bX [(ad 0),(ad 0),(ad 0),(ad 0),(ad 0),(ad 0),ay,ay,ay,(ad 0),(.bool false)] l m λp q r=>af (aS q 11 p n) λt=>af (du .not o) λaO=>br aO (K (.bool false) t r) (ax t 2 p λw=>cg 237 [ah,t1,w] t r λx y z=>aN 11 y p λbC=>jt 11 p bC (cg 238 [x,bC] y z λbV bM bg=>mi bV (K (.bool false) bM bg) (aV s 62 [j] bM bg λb7 bI cJ=>K (.bool true) bI cJ)) 1 [t]))
theorem adb:cX 143 awx:=cZ []
def amH:sr:=λs ah t1 t2 t3 h U K=>aV s 237 [ah,t1,t2] h U λa b c=>aV s 243 [a,t3] b c λd e f=>af (cp d 0) λg=>af (cp d 1) λi=>af (cp d 2) λj=>bX [(ad 0),(ad 0),(ad 0),(ad 0),(ad 0),(ad 0),ay,ay,ay,(ad 0),(.bool false)] e f λk l m=>af (aS l 11 k g) λn=>af (du .not i) λo=>br o (K (.bool false) n m) (af (bs ah) λp=>ax n 12 p λr=>d2 n 1 r t2 λaO=>aN 11 n k λv=>cg 63 [aO,v] n m λw x y=>aV s 140 [ah] x y λz bC bV=>K (.bool true) bC bV)
theorem aks:uC 146 amH:=vK []
def aqh:cU:=λs ah h U K=>aV s 145 [ah] h U λa b c=>bz .eql 3 a (ad 0) (K (ad (-1)) b c) (af (bs ah) λe=>ax b 1 e λg=>aV s 244 [g] b c λi j k=>bX [(ad 0)] j k λl m n=>af (aS m 1 l i) λo=>af (bs ah) λp=>ax o 1 p λr=>af (.ok (.func (.func 246) ⟨[]⟩ ⟨[l]⟩)) λt=>aV s 245 [r,t] o n λaO v w=>K aO v w)
theorem amI:cW 147 aqh:=cY []
def aaU:cU:=λs ah h U K=>bz .eql 110 ah (.pointer none) (K (ad 0) h U) (af (bs ah) λb=>ax h 15 b λd=>cP d λe=>bt .sub 3 e (ad 1) λf=>K f h U)
theorem amJ:cW 150 aaU:=cY []
def J4(s:al)(K:bN)(co cz di s7:X)(au:ae)(a0:Nat):Prop:=br s7 (af (cV [(ad 0),(ad 0),ay,ay,ay] []) λa=>af (aS au 5 di a) λb=>aN 5 b di λc=>K (.tuple ⟨[c,(.bool false)]⟩) b a0) (af (bs co) λd=>ax au 15 d λf=>gT 5 au 5 f cz λi=>bX [(ad 0),(ad 0),ay,ay,ay] au a0 λj k l=>af (aS k 5 j i) λm=>ax m 2 j λo=>cg 88 [o] m l λp q r=>bn 3 j λt=>bS q t λaO=>c7 t aO (cg 88 [aO] q r λv w x=>bn 4 j λy=>bS w y λz=>c7 y z (cg 139 [z] w x λbC bV bM=>bn 0 j λbg=>bS bV bg λbW=>c7 bg bW (bn 1 j λb7=>bS bV b7 λbI=>c7 b7 bI (af (cV [(ad 0),(ad 0),ay,ay,ay] [(0,1,bW),(1,1,bI),(2,1,p),(3,1,v),(4,1,bC)]) λcJ=>af (aS bV 5 di cJ) λcB=>aN 5 cB di λds=>K (.tuple ⟨[ds,(.bool true)]⟩) cB bM) 3 [w,q,m]) 3 [w,q,m]) 2 [q,m]) 1 [m])
def adc:cO:=λs ah t1 h U K=>bX [(ad 0),(ad 0),ay,ay,ay] h U λa b c=>bz .eql 110 ah (.pointer none) (J4 s K ah t1 a (.bool true) b c) (cG t1 (ad 0) (J4 s K ah t1 a (.bool true) b c) (af (bs ah) λf=>ax b 15 f λi=>cP i λj=>bt .geq 3 t1 j λk=>(J4 s K ah t1 a k b c)))
theorem aqi:cX 155 adc:=cZ []
def F0:aa (aa Nat):=[[2,10,30,31,32],[10,14,40,41]]
def XQ(s:al)(a2 dd sg je gj:X)(h:ae)(U:Nat)(N:aP)(aL:aP)(R:aP):Prop:=cG gj je (gT 4 h 4 sg gj λc=>bX [(ad 0),(ad 0),(ad 0),(ad 0)] h U λd e f=>af (aS e 4 d c) λg=>aN 4 g d λi=>aV s 251 [dd,i] g f λj k l=>cj gj λm=>N [a2,dd,sg,je,m] k l) (aL [a2,dd,sg,je,gj] h U)
def XR(s:al)(dd lk xw vQ:X)(h:ae)(U:Nat)(N:aP)(aK:aP)(R:aP):Prop:=cG vQ xw (aV s 71 [dd] h U λb c d=>br b (aK [dd,lk,xw,vQ] c d) (aV s 72 [dd] c d λe f g=>cj lk λi=>cj vQ λj=>N [dd,i,xw,j] f g)) (aK [dd,lk,xw,vQ] h U)
def PL:ge:=λs ah t1 t2 h U K=>bH ah h U λa b c=>aN 12 b a λd=>aV s 161 [d,t1,t2] b c λe f g=>mi e (K (.tuple ⟨[(.pointer none),(ad 0),e]⟩) f g) (aN 12 f a λj=>aV s 70 [j] f g λk l m=>af (cp k 0) λn=>af (cp k 1) λo=>mi o (K (.tuple ⟨[(.pointer none),(ad 0),o]⟩) l m) (cP t1 λq=>bE (bU Q s F0 157 0) [t2,n,t1,q,(ad 0)] l m [(0,λr t aO=>bE (bU Q s F0 157 1) [(bb r 1),(ad 0),(bb r 0),(ad 0)] t aO [(2,λv w x=>K (.tuple ⟨[(bb v 0),(bb v 1),(ad 0)]⟩) w x)] (λ_ _ _=>False))] (λ_ _ _=>False)))
theorem akt{s:al}{D B E:X}{h:ae}{U:Nat}{R:aP}:bU Q s F0 157 0 [a2,dd,D,B,E] h U N [(0,aL)] R=XQ s a2 dd D B E h U N aL R:=by kernel_rfl
theorem aku{s:al}{B D E:X}{h:ae}{U:Nat}{R:aP}:bU Q s F0 157 1 [dd,B,D,E] h U N [(2,aK)] R=XR s dd B D E h U N aK R:=by kernel_rfl
theorem YY:gp 157 PL:=gu F0
def CI:aa (aa Nat):=[[2,3,4,20,21,22],[2,3,4,7,20,21,22,42,43,44]]
def WM(s:al)(a2 a3 aZ ba jU iO eL Vi Vj zi:X)(h:ae)(U:Nat)(N:aP)(aK:aP)(R:aP):Prop:=cG zi Vj (d2 h 1 Vi zi λc=>ax h 0 ba λe=>ln e c λf=>dY (fc 1 [(ad 0)] [(0,1,f)]) h U λg i j=>dG (dO (dM 1 i j aZ g)) λk l m=>cj zi λn=>N [a2,a3,k,ba,jU,iO,eL,Vi,Vj,n] l m) (aK [a2,a3,aZ,ba,jU,iO,eL,Vi,Vj,zi] h U)
def WN(s:al)(a2 a3 aZ jU iO eL:X)(h:ae)(U:Nat)(N:aP)(aL:aP)(R:aP):Prop:=cG eL iO (d2 h 1 jU eL λc=>aV s 69 [c] h U λd e f=>bX [(ad 0),(ad 0),ay,ay,ay] e f λg i j=>af (aS i 5 g d) λk=>ax k 2 a3 λm=>ax k 2 g λo=>dG (dO (dM 1 k j m o)) λp q r=>j<=r/\bn 3 a3 λt=>bS q t λaO=>c7 t aO (bn 3 g λv=>bS q v λw=>c7 v w (dG (dO (dM 1 q r aO w)) λx y z=>r<=z/\bn 2 a3 λbC=>af (aS y 1 bC p) λbV=>bn 3 a3 λbM=>af (aS bV 1 bM x) λbg=>ax bg 4 g λb7=>aV s 119 [b7] bg z λbI cJ cB=>cP bI λds=>bE (bU Q s CI 234 1) [a2,a3,aZ,g,jU,iO,eL,bI,ds,(ad 0)] cJ cB [(2,λde eN am=>cj (bb de 6) λan=>N [(bb de 0),(bb de 1),(bb de 2),(bb de 4),(bb de 5),an] eN am)] (λ_ _ _=>False)) 1 [k]) 1 [k]) (aL [a2,a3,aZ,jU,iO,eL] h U)
def XS:cU:=λs ah h U K=>bX [(ad 0),(ad 0),ay,ay,ay] h U λa b c=>af (bs ah) λd=>bn 0 d λe=>bn 0 e λf=>ax b 1 f λi=>af (cV [(ad 0),(ad 0),ay,ay,ay] [(1,1,i)]) λj=>bX [(ad 0),(ad 0),ay,ay,ay] b c λk l m=>af (aS l 5 k j) λn=>af (bs ah) λo=>ax n 14 o λq=>cP q λr=>bE (bU Q s CI 234 0) [a,k,ay,q,r,(ad 0)] n m [(0,λt aO v=>ax aO 1 (bb t 1) λx=>aV s 108 [x,(bb t 2)] aO v λy z bC=>bn 4 (bb t 1) λbV=>af (aS z 1 bV y) λbM=>aN 5 bM (bb t 1) λbg=>af (aS bM 5 (bb t 0) bg) λbW=>aN 5 bW (bb t 0) λb7=>K b7 bW bC)] (λ_ _ _=>False)
theorem aiQ{s:al}{E B D:X}{h:ae}{U:Nat}{R:aP}:bU Q s CI 234 1 [a2,a3,aZ,ba,jU,iO,eL,E,B,D] h U N [(2,aK)] R=WM s a2 a3 aZ ba jU iO eL E B D h U N aK R:=by kernel_rfl
theorem aiR{s:al}{h:ae}{U:Nat}{R:aP}:bU Q s CI 234 0 [a2,a3,aZ,jU,iO,eL] h U N [(0,aL)] R=WN s a2 a3 aZ jU iO eL h U N aL R:=by kernel_rfl
theorem ajk:cW 234 XS:=cY CI
def agH:cO:=λs ah t1 h U K=>bz .neq 110 ah (.pointer none) (bz .geq 3 t1 (ad 0) (af (bs ah) λc=>ax h 12 c λe=>cP e λf=>bt .lss 3 t1 f λg=>K g h U) (K (.bool false) h U)) (K (.bool false) h U)
theorem awy:cX 236 agH:=cZ []
def QX(s:al)(K:bN)(co cz cE y17:X)(au:ae)(a0:Nat):Prop:=br y17 (K (.pointer none) au a0) (af (cV [(ad 0),(ad 0)] [(0,1,cz),(1,1,cE)]) λa=>bX [(ad 0),(ad 0)] au a0 λb c d=>af (aS c 2 b a) λe=>af (bs co) λf=>ax e 13 f λi=>aN 2 e b λj=>af (j3 Q e 198 (.pointer none) false i j) λk=>bz .eql 199 k (.pointer none) (af (bs co) λm=>bn 0 m λn=>ax e 9 n λp=>cg 339 [p] e d λq r t=>af (bs co) λaO=>bn 13 aO λv=>bS r v λw=>c7 v w (aN 2 r b λx=>jt 2 b x (af (cp q 0) λy=>af (m9 Q 198 r w x y) λz=>af (cp q 1) λbC=>af (bs co) λbV=>ax z 13 bV λbg=>aN 2 z b λbW=>af (j3 Q z 198 (.pointer none) false bg bW) λb7=>K b7 z t) 1 [e]) 1 [e]) (af (bs co) λbI=>ax e 13 bI λcB=>aN 2 e b λds=>af (j3 Q e 198 (.pointer none) false cB ds) λde=>K de e d))
def ay3:ge:=λs ah t1 t2 h U K=>aV s 236 [ah,t1] h U λa b c=>af (du .not a) λd=>br d (QX s K ah t1 t2 (.bool true) b c) (aV s 236 [ah,t2] b c λe f g=>af (du .not e) λi=>(QX s K ah t1 t2 i f g))
theorem awz:gp 237 ay3:=gu []
def ae9:cO:=λs ah t1 h U K=>bH t1 h U λa b c=>bz .eql 199 ah (.pointer none) (K (ad 10) b c) (aV s 340 [ah] b c λe f g=>br e (K (ad 9) f g) (aN 11 f a λi=>aV s 341 [i] f g λj k l=>af (aS k 11 a j) λm=>af (bs ah) λn=>ax m 4 n λp=>bn 3 a λq=>af (aS m 1 q p) λr=>af (bs ah) λt=>ax r 2 t λv=>ax r 3 a λx=>aN 11 r a λy=>af (m9 Q 3 r v x y) λz=>ax z 3 a λbV=>aV s 342 [ah,bV] z l λbM bg bW=>af (bs ah) λb7=>ax bg 4 b7 λcJ=>cj cJ λcB=>af (bs ah) λds=>bn 4 ds λde=>af (aS bg 1 de cB) λeN=>K (ad 0) eN bW))
theorem at5:cX 238 ae9:=cZ []
def PM(s:al)(K:bN)(co cz di fv Uk:X)(au:ae)(a0:Nat):Prop:=br Uk (af (cV [(ad 0),(ad 0),(ad 0),(ad 0),(ad 0),(ad 0),ay,ay,ay,(ad 0),(.bool false)] []) λa=>af (aS au 11 di a) λb=>aN 11 b di λc=>K (.tuple ⟨[c,(.bool false),fv]⟩) b a0) (aV s 347 [co,cz] au a0 λd e f=>bX [(ad 0),(ad 0),(ad 0),(ad 0),(ad 0),(ad 0),ay,ay,ay,(ad 0),(.bool false)] e f λg i j=>af (aS i 11 g d) λk=>ax k 3 g λm=>af (bs co) λn=>ax k 5 n λp=>cG m p (af (cV [(ad 0),(ad 0),(ad 0),(ad 0),(ad 0),(ad 0),ay,ay,ay,(ad 0),(.bool false)] []) λr=>af (aS k 11 di r) λt=>aN 11 t di λaO=>K (.tuple ⟨[aO,(.bool false),(ad 0)]⟩) t j) (af (bs co) λv=>ax k 5 v λx=>cj x λy=>af (bs co) λz=>bn 5 z λbC=>af (aS k 1 bC y) λbV=>aN 11 bV g λbM=>aV s 341 [bM] bV j λbg bW b7=>af (aS bW 11 di bg) λbI=>aN 11 bI di λcJ=>K (.tuple ⟨[cJ,(.bool true),(ad 0)]⟩) bI b7))
def afa:cO:=λs ah t1 h U K=>bX [(ad 0),(ad 0),(ad 0),(ad 0),(ad 0),(ad 0),ay,ay,ay,(ad 0),(.bool false)] h U λa b c=>aV s 346 [ah,t1] b c λd e f=>mi d (PM s K ah t1 a d (.bool true) e f) (af (bs ah) λi=>ax e 1 i λk=>d2 e 1 k t1 λm=>af (bs ah) λn=>ax e 5 n λp=>bt .gtr 3 m p λq=>(PM s K ah t1 a d q e f))
theorem at6:cX 243 afa:=cZ []
def YZ:cO:=λs ah t1 h U K=>bS h t1 λa=>bt .eql 3 ah a λb=>K b h U
theorem akv:cX 246 YZ:=cZ []
def QY(s:al)(K:bN)(co oY:X)(au:ae)(a0:Nat):Prop:=br oY (K (.tuple ⟨[(.pointer none),(ad 3)]⟩) au a0) (dY (.ok .map) au a0 λa b c=>dY (.ok .map) b c λd e f=>af (cV [(ad 0),ay,(.map none),(.map none),(ad 0),(ad 0)] [(0,1,co),(2,1,a),(3,1,d)]) λg=>bH g e f λi j k=>K (.tuple ⟨[i,(ad 0)]⟩) j k)
def agI:cU:=λs ah h U K=>cG ah (ad 1) (QY s K ah (.bool true) h U) (bt .gtr 3 ah (ad 64) λb=>(QY s K ah b h U))
theorem awA:cW 339 agI:=cY []
def afb:cU:=λs ah h U K=>af (bs ah) λa=>ax h 1 a λc=>cP c λd=>af (bs ah) λe=>ax h 0 e λg=>bt .geq 3 d g λi=>K i h U
theorem at7:cW 340 afb:=cY []
def agJ:cU:=λs ah h U K=>bH ah h U λa b c=>bX [(ad 0),(ad 0),(ad 0),(ad 0),(ad 0),(ad 0),ay,ay,ay,(ad 0),(.bool false)] b c λd e f=>bn 5 a λg=>ax e 1 g λj=>aV s 217 [j] e f λk l m=>bn 5 a λn=>bn 1 n λo=>af (aS l 1 o k) λp=>ax p 7 a λr=>aV s 218 [r] p m λt aO v=>bn 7 a λw=>af (aS aO 1 w t) λx=>ax x 8 a λz=>aV s 406 [z] x v λbC bV bM=>bn 8 a λbg=>af (aS bV 1 bg bC) λbW=>aN 11 bW a λb7=>af (aS bW 11 d b7) λbI=>aN 11 bI d λcJ=>K cJ bI bM
theorem awB:cW 341 agJ:=cY []
def agK:cO:=λs ah t1 h U K=>af (bs ah) λa=>ax h 1 a λc=>dY (fc 1 [(ad 0)] [(0,1,t1)]) h U λd e f=>dG (dO (dM 1 e f c d)) λg i j=>af (bs ah) λk=>bn 1 k λl=>af (aS i 1 l g) λm=>af (bs ah) λn=>ax m 3 n λp=>af (j3 Q m 3 (ad 0) false p t1) λq=>cj q λr=>af (m9 Q 3 m p t1 r) λt=>K (.tuple ⟨[]⟩) t j
theorem awC:cX 342 agK:=cZ []
def ahZ:cO:=λs ah t1 h U K=>bz .eql 199 ah (.pointer none) (K (ad 10) h U) (cG t1 (ad 0) (K (ad 3) h U) (af (bs ah) λc=>ax h 1 c λe=>cP e λf=>bz .geq 3 t1 f (K (ad 3) h U) (K (ad 0) h U)))
theorem ay4:cX 346 ahZ:=cZ []
def agL:cO:=λs ah t1 h U K=>bX [(ad 0),(ad 0),(ad 0),(ad 0),(ad 0),(ad 0),ay,ay,ay,(ad 0),(.bool false)] h U λa b c=>af (bs ah) λd=>ax b 1 d λf=>d2 b 1 f t1 λi=>af (bs ah) λj=>ax b 2 j λl=>af (j3 Q b 3 (.agg #[(ad 0),(ad 0),(ad 0),(ad 0),(ad 0),(ad 0),ay,ay,ay,(ad 0),(.bool false)]) false l i) λm=>bX [(ad 0),(ad 0),(ad 0),(ad 0),(ad 0),(ad 0),ay,ay,ay,(ad 0),(.bool false)] b c λn o p=>af (aS o 11 n m) λq=>af (bs ah) λr=>ax q 1 r λaO=>cj t1 λv=>aV s 348 [aO,t1,v] q p λw x y=>af (bs ah) λz=>bn 1 z λbC=>af (aS x 1 bC w) λbV=>af (bs ah) λbM=>ax bV 3 bM λbW=>af (j3 Q bV 3 (ad 0) false bW i) λb7=>bt .sub 3 b7 (ad 1) λbI=>af (m9 Q 3 bV bW i bI) λcJ=>af (bs ah) λcB=>ax cJ 3 cB λde=>af (j3 Q cJ 3 (ad 0) false de i) λeN=>bz .eql 3 eN (ad 0) (af (bs ah) λan=>ax cJ 3 an λgG=>dG (dO (nE Q .delete [302,3] cJ y [gG,i])) λgU gL io=>af (bs ah) λi0=>ax gL 2 i0 λmj=>dG (dO (nE Q .delete [173,3] gL io [mj,i])) λlQ lR oX=>aN 11 lR n λqw=>af (aS lR 11 a qw) λbm=>aN 11 bm a λqz=>K qz bm oX) (aN 11 cJ n λbe=>af (aS cJ 11 a be) λi1=>aN 11 i1 a λpC=>K pC i1 y)
theorem awD:cX 347 agL:=cZ []
def agM:cU:=λs ah h U K=>bz .eql 199 ah (.pointer none) (K (ad 0) h U) (af (bs ah) λb=>ax h 1 b λd=>cP d λe=>K e h U)
theorem awE:cW 145 agM:=cY []
def afc:cU:=λs ah h U K=>bz .eql 199 ah (.pointer none) (K (ad 0) h U) (af (bs ah) λb=>ax h 4 b λd=>K d h U)
theorem at8:cW 248 afc:=cY []
def kA(room:Int)(row:X)(dz df:Nat)(iM l0:Nat):aa X:=[(room:X),row,.map (some dz),.map (some df),(iM:X),(l0:X)]
theorem DK:wF Q 199=true:=by kernel_rfl
section
variable {s:al} {h:ae} {U b2 dz df iM l0:Nat} {room:Int} {a:aw Addr} {n cap:Nat}
theorem GI(B:u h b2=some (.cells (kA room (.slice a n cap) dz df iM l0) false)):aE Q s 145 [bf b2] h U (fs (n:X) U h):=by refine awE ?_;unfold agM;simp(disch:=omega)only[bk,pL DK,B,seval];exact⟨rfl,rfl,rfl⟩
theorem aqj(B:u h b2=some (.cells (kA room (.slice a n cap) dz df iM l0) false)):aE Q s 248 [bf b2] h U (fs (iM:X) U h):=by refine at8 ?_;unfold afc;simp(disch:=omega)only[bk,pL DK,B,seval];exact⟨rfl,rfl,rfl⟩
theorem aqk(B:u h b2=some (.cells (kA room (.slice a n cap) dz df iM l0) false)):aE Q s 340 [bf b2] h U (fs (.bool (!decide ((n:Int)<room))) U h):=by refine at7 ?_;unfold afb;unfold kA at B;refine bl @B ?_;exact⟨rfl,rfl,rfl⟩
theorem awF(B:u h b2=some (.cells (kA room (.slice a n cap) dz df iM l0) false))(D:k<n):aE Q s 346 [bf b2,(k:X)] h U (fs (.int .i64 0) U h):=by
 refine ay4 ?_;unfold ahZ
 unfold kA at B;simp(disch:=omega)only[bk,pL DK,B,seval];exact⟨λh=>absurd h J,λ_=>⟨λh=>absurd h J,λ_=>⟨rfl,rfl,rfl⟩⟩⟩
theorem at9(B:1<=room)(D:room<=64):aE Q s 339 [(room:X)] h U (λr ac Y=>r = .tuple ⟨[.pointer (some ⟨U+2,0,none⟩),.int .i64 0]⟩/\u ac (U+2)=some (.cells (kA room (.slice none 0 0) U (U+1) 0 0) false)/\u ac U=some (.map [] 0)/\u ac (U+1)=some (.map [] 0)/\aA U h ac/\Y=U+3):=by refine awA ?_;unfold agI;refine aG ?_;refine⟨λh=>absurd h J,λ_=>?_⟩;rw[hA J];unfold QY;refine aG ?_;exact⟨rfl,aM⟩
end
theorem aA8:nD Q 99=true:=by kernel_rfl
theorem akw{s:al}{h:ae}{U:Nat}{a:aw Addr}{c:Nat}:aE Q s 406 [.slice a 0 c] h U (λr ac Y=>(∃B bL,r = .slice B 0 bL)/\aA U h ac/\U<=Y):=by refine alR ?_;unfold aar;simp(disch:=omega)only[bk,Al aA8,seval];refine⟨λ_=>⟨⟨_,_,rfl⟩,aM⟩,λ_=>?_⟩;exact⟨⟨_,_,rfl⟩,aM,J⟩
theorem ade{s:al}{h:ae}{U:Nat}{f:eB}{p:kH}(B:nc h U f p)(cy:p.ml.length<10000)(eD:p.nZ.length<10000):
  aE Q s 341 [.agg ⟨eg f⟩] h U (λr ac Y=>∃kG,r = .agg ⟨eg kG⟩/\kG.hM=f.hM/\lH ac U Y kG p/\aA U h ac/\U<=Y):=by
 refine awB ?_;have b4:∀{o aX},aA U h (T (T h U o) (U+1) aX):=aM
 have mc:=B.n8;unfold agJ eg;refine aG ?_;refine(CJ (B.tr.F  b4 J) cy).mono ?_;rintro IZ bP a5 ⟨L,K,fi⟩;have hR:=(K U J).trans ((aq J).trans (aR _ _ _));have dl:=(K (U+1) J).trans (aR _ _ _);obtain⟨M,hQ,rfl⟩:=L.form;simp(disch:=omega)only[bk,hR,gc,seval];have P:∀{o},aA U h (T bP U o):=aM
 refine(XK (B.uK.F  P J) eD).mono ?_;rintro V0 g2 bQ ⟨I,E,f5⟩;have fX:=(E U J).trans (aR _ _ _);have eH:=(E (U+1) J).trans ((aq J).trans dl);obtain⟨ba,jh,rfl⟩:=I.form;simp(disch:=omega)only[bk,fX,gc,mc,seval];refine akw.mono ?_;rintro _ dp bT ⟨⟨bv,hc,rfl⟩,D,ga⟩;have lK:=(D U J).trans (aR _ _ _);have mP:=(D (U+1) J).trans ((aq J).trans eH);simp(disch:=omega)only[bk,lK,mP,gc,seval];generalize gS:T (T dp U _) (U+1) _=G;have Jd:∀d,d≠U->d≠U+1->u G d=u dp d:=ab
 have I6:iP G U bT (.slice M p.ml.length hQ) fF 2 p.ml:=L.F (λb h1 ao=>by rw[Jd b J J,D b J,aq J,E b J,aq J]) J J;have I7:iP G U bT (.slice ba p.nZ.length jh) eO 3 p.nZ:=I.F (λb h1 ao=>by rw[Jd b J J,D b J,aq J]) J J;exact⟨{ f with bp:=M,n6:=p.ml.length,hQ:=hQ,ba:=ba,n7:=p.nZ.length,jh:=jh,bv:=bv,n8:=0,hc:=hc },rfl,rfl,⟨⟨B.kind,B.eu,B.l6,B.round,B.mm,cL.o   (λ_=>rfl) I6.gv.rd,cL.o   (λ_=>rfl) I7.gv.rd,rfl,B.n,B.oC⟩,I6,I7⟩,aM,J⟩
theorem akx{R C av i j:Nat}{x:gd}{m:ct}(P:nm R C av x m)(M:m.dst C≠i*C+j):
  (cS R C av x m).q i j=x.q i j/\(cS R C av x m).out (i*C+j)=x.out (i*C+j)/\(i=0->(cS R C av x m).P j=x.P j/\(cS R C av x m).e9 j=x.e9 j)/\(j=0->(cS R C av x m).a i=x.a i/\(cS R C av x m).w i=x.w i/\(cS R C av x m).dU i=x.dU i)/\(i=0->j=0->(cS R C av x m).V=x.V/\(cS R C av x m).fQ=x.fQ):=by
 have I:(cS R C av x m).out (i*C+j)=x.out (i*C+j):=by exact hf J
 cases m with
 |share aH mS t =>
  obtain⟨_,K,aK,B,L,hd,hy,E,_⟩:=JV P;refine⟨by rw[K],I,λD=>E j λe=>M ?_,ab,ab⟩;rw[D,lY,iE,e];rfl
 |spread aH mS t =>
  obtain⟨K,aK,B,L,hd,hy,E,_,jD,_⟩:=JO;refine⟨jD i j λe=>M ?_,I,ab,ab,ab⟩;rw[e.1,e.2];rfl
 |dA aH mS t =>
  obtain⟨_,K,aK,B,L,hd,hy,E,_⟩:=JN P;refine⟨by rw[B],I,ab,λD=>⟨by rw[L],E i λe=>M ?_⟩,ab⟩;rw[D,e];rfl
 |dB aH t =>
  obtain⟨_,K,aK,B,L,hd,hy,_⟩:=JY P;refine⟨by rw[B],I,ab,ab,λD h1=>absurd ?_ M⟩;rw[D,h1,lY];rfl
 |order aH t =>
  obtain⟨K,aK,B,L,hd,_,_,_,_,_,E,_⟩:=On P;refine⟨by rw[B],I,ab,λD=>E i λe=>M ?_,ab⟩;rw[D,e];rfl
theorem P6(Z:b8):Z.f8 Z.lim≠0:=by
 unfold b8.f8 wA
 grind
theorem aua(Z:b8):∃av,av<=Z.lim/\Z.f8 av≠0/\∀t,t<=av->(Z.f8 t=0↔t<av):=by
 have:∀n,(∃av,av<=n/\Z.f8 av≠0/\∀t,t<av->Z.f8 t=0)\/∀t,t<=n->Z.f8 t=0:=by
  intro n
  induction n with
  |zero =>
   grind
  |succ n I =>
   grind
 rcases this Z.lim with⟨av,E,D,B⟩|h
 ·grind
 ·exact absurd ab (P6 Z)
def L1(h:ae)(v:X)(dw:aw Nat):Prop:=(v = .slice none 0 0/\dw=none)\/∃b w,dw=some b/\v = .slice (some ⟨b,0,some 1⟩) 0 1/\u h b=some (.cells [w] false)
theorem awG{h:ae}{U b q c:Nat}{x:Int}{I:al}(E:u h b=some (.cells [w] false))(D:u h q=some (.cells [(x:X)] I)):
  dM 1 h U (.slice (some ⟨b,0,some 1⟩) 0 1) (.slice (some ⟨q,0,none⟩) 1 c) = .ok (.val (.slice (some ⟨b,0,some 1⟩) 1 1) (T h b (.cells [(x:X)] false)) U):=by
 have K:lr h (some ⟨q,0,none⟩) (Nat.mul 1 1) (λnew=>gZ 1 h U (some ⟨b,0,some 1⟩) 0 1 1 new)=gZ 1 h U (some ⟨b,0,some 1⟩) 0 1 1 [(x:X)]:=by show cellsOf h q (λB _=>R.of "read - out of block" (m8 (Nat.mul 1 1) (mY B 0)) λnew=>gZ 1 h U (some ⟨b,0,some 1⟩) 0 1 1 new)=_;rw[JU,D,F4];rfl
 show lr h (some ⟨q,0,none⟩) (Nat.mul 1 1) (λnew=>gZ 1 h U (some ⟨b,0,some 1⟩) 0 1 1 new)=_;rw[K];show R.bind (ol h b 0 [(x:X)]) (λh=>R.ok (fr.val (Value.slice (some ⟨b,0,some 1⟩) 1 1) h U))=_;rw[CH E rfl ab];rfl
section
variable {s:al} {h:ae} {U b2 dz df iM l0 cI x:Nat} {room:Int} {rw:X} {dw:aw Nat}
theorem aub(E:u h b2=some (.cells (kA room rw dz df iM l0) false))(a6:b2<U)(bc:L1 h rw dw)(K:∀b,dw=some b->b<U/\b≠b2/\b≠df)(hm:u h df=some (.map [] cI))(hmo:df<U/\df≠b2):
  aE Q s 342 [bf b2,(x:X)] h U (λr ac Y=>r = .tuple ⟨[]⟩/\∃D,u ac b2=some (.cells (kA room (.slice (some ⟨D,0,some 1⟩) 1 1) dz df iM l0) false)/\u ac D=some (.cells [(x:X)] false)/\(dw=some D\/U<=D/\D<Y) /\
   i7 ac df h0 [(x,.int .i64 1,cI)] (cI+1)/\(∀d,d<U->d≠b2->d≠df->dw≠some d->u ac d=u h d)/\U<=Y):=by
 refine awC ?_;unfold agK;unfold kA at E ⊢;rcases bc with⟨rfl,rfl⟩|⟨b,w,rfl,rfl,aY⟩
 ·refine mv @E ?_;refine mu (enc:=c4) (k:=1) (ap:=U+1) (l:=[]) (λ_=>rfl) (λ_=>rfl) J (.inl ab) J (x:Int) (aR _ _ _) rfl (by simp) λdX bY M L=>?_;obtain⟨aL,_⟩|⟨D,dl,e1,rfl,hb⟩:=M
  ·cases aL
  have jE:u bY b2=_:=(L b2 J).trans ((aq J).trans E);have I:i7 (T bY b2 (.cells [(room:X),.slice (some ⟨D,0,some 1⟩) 1 1,.map (some dz),.map (some df),(iM:X),(l0:X)] false)) df h0 [] cI:=Hw ab;have B:=xa (rE nR) I (k:=x) (z:=.int .i64 0) (ok:=false);rw[show h0 x = (x:X)from rfl,show iK ([]:aa (Nat × X × Nat)) x=none from rfl]at B;obtain⟨aK,P⟩:=Hv (x:=.int .i64 1) (rE nR) I  rfl;rw[show h0 x = (x:X)from rfl]at aK;rw[show(([]:aa Int)++[(x:Int)]).length=1 from rfl]
  replace B:j3 Q _ 3 (.int .i64 0) false (.map (some df)) (x:X) = .ok (.int .i64 0):=B
  simp(disch:=omega)only[bk,↓reduceIte,Nat.reduceAdd,Nat.reduceSub,Nat.reduceMul,Nat.reduceLT,Nat.reduceLeDiff,Nat.reduceEqDiff,Int.reduceBEq,Int.reduceLT,Int.reduceNeg,jE,B,show IntKind.wrap .i64 ((0:Int)+1)=1 from rfl,aK];refine⟨D,?_,?_,J,P _ ab,λd h1 ao aT _=>?_,J⟩
  ·rfl
  ·rw[aq J,aq J];exact hb
  grind
 ·obtain⟨e7,db,gn⟩:=K b rfl;refine mv @E ?_;rw[awG ((aq J).trans aY) (aR _ _ _)];generalize gS:T (T h U _) b _=G;have g2:∀d,d≠b->d<U->u G d=u h d:=ab
  have Wc:=(g2 b2 (kI db) J).trans E;have I:i7 (T G b2 (.cells [(room:X),.slice (some ⟨b,0,some 1⟩) 1 1,.map (some dz),.map (some df),(iM:X),(l0:X)] false)) df h0 [] cI:=Hw ab;have B:=xa (rE nR) I (k:=x) (z:=.int .i64 0) (ok:=false);rw[show h0 x = (x:X)from rfl,show iK ([]:aa (Nat × X × Nat)) x=none from rfl]at B;obtain⟨aK,P⟩:=Hv (x:=.int .i64 1) (rE nR) I  rfl;rw[show h0 x = (x:X)from rfl]at aK
  replace B:j3 Q _ 3 (.int .i64 0) false (.map (some df)) (x:X) = .ok (.int .i64 0):=B
  simp(disch:=omega)only[bk,↓reduceIte,Nat.reduceAdd,Nat.reduceSub,Nat.reduceMul,Nat.reduceLT,Nat.reduceLeDiff,Nat.reduceEqDiff,Int.reduceBEq,Int.reduceLT,Int.reduceNeg,dO,Wc,B,show IntKind.wrap .i64 ((0:Int)+1)=1 from rfl,aK];refine⟨b,?_,?_,ab,P _ ab,ab,J⟩
  all_goals grind
end
section
variable {s:al} {h:ae} {U b2 dz df iM l0 c6 gC:Nat} {room:Int} {rw:X} {dw:aw Nat} {f:eB} {p:kH}
def SeK(b2 dz df iM l0:Nat)(room:Int)(dw:aw Nat)(p:kH)(c6 gC:Nat)(h:ae)(U:Nat):bN:=λr ac Y=>r = .int .i64 0/\∃b6 kG m,u ac b2=some (.cells (kA room (.slice (some ⟨b6,0,some 1⟩) 1 1) dz df (iM+1) l0) false)/\u ac b6=some (.cells [(iM:X)] false)/\(dw=some b6\/m<=b6/\b6<Y) /\
 i7 ac df h0 [(iM,.int .i64 1,c6)] (c6+1)/\i7 ac dz h0 [(iM,.agg ⟨eg kG⟩,gC)] (gC+1)/\kG.hM=(iM:Int)/\lH ac U m kG p/\(∀d,d<U->d≠b2->d≠df->d≠dz->dw≠some d->u ac d=u h d)/\U<=m/\m<=Y
theorem aql(L:u h b2=some (.cells (kA room rw dz df iM l0) false))(a6:b2<U)(aB8:1<=room)(bc:L1 h rw dw)(oD:∀b,dw=some b->b<U/\b≠b2/\b≠df/\b≠dz)(hmo:u h df=some (.map [] c6))(hmb:u h dz=some (.map [] gC))(fI:df<U/\df≠b2)(Ej:dz<U/\dz≠b2/\dz≠df)(ar:iM<100000)(bK:nc h U f p)(cy:p.ml.length<10000)(eD:p.nZ.length<10000):
  aE Q s 238 [bf b2,.agg ⟨eg f⟩] h U (SeK b2 dz df iM l0 room dw p c6 gC h U):=by
 refine at5 ?_;have M:∀{o},aA U h (T h U o):=aM
 obtain⟨a,cap,rfl⟩:∃a cap,rw = .slice a 0 cap:=by rcases bc with⟨e,_⟩|⟨_,_,_,e,_⟩ <;> grind
 have D:(0:Int)<room:=J
 unfold ae9;unfold eg;simp(disch:=omega)only[bk,↓reduceIte,Nat.reduceAdd,Nat.reduceSub,Nat.reduceMul,Nat.reduceLT,Nat.reduceLeDiff,Nat.reduceEqDiff,Int.reduceBEq,Int.reduceLT,Int.reduceNeg,pL DK];refine(aqk ((M b2 a6).trans L)).fZ ?_;refine mv @D ?_;refine⟨λh=>absurd J h,λ_=>?_⟩;refine(ade  (bK.F  M J) cy eD).mono ?_;rintro _ I a5 ⟨E,rfl,hx3,d0,B,fi⟩;have hR:=(B U J).trans (aR _ _ _);have aDi:∀{o aX},u (T (T I U o) U aX) b2=_:=λ{o aX}=>(aq J).trans ((aq J).trans ((B b2 J).trans ((M b2 a6).trans L)));have K:∀{o},u (T I U o) b2=_:=λ{o}=>(aq J).trans ((B b2 J).trans ((M b2 a6).trans L));have h9:∀{o aX},i7 (T (T I U o) U aX) dz h0 [] gC:=λ{o aX}=>Hw (by rw[aq J,aq J,B dz J,aq J];omega);have aK:=λo aX=>Hv (x:=.agg ⟨eg { E with hM:=(iM:Int) }⟩) (rE nR) (h9 (o:=o) (aX:=aX)) (k:=iM) rfl;unfold eg at aK ⊢;unfold kA at aDi K;rw[show h0 iM = (iM:X)from rfl]at aK;simp(disch:=omega)only[bk,↓reduceIte,Nat.reduceAdd,Nat.reduceSub,Nat.reduceMul,Nat.reduceLT,Nat.reduceLeDiff,Nat.reduceEqDiff,Int.reduceBEq,Int.reduceLT,Int.reduceNeg,hR,aDi,K,(aK _ _).1];have P:=(aK (.cells (eg E) false) (.cells (eg { E with hM:=(iM:Int) }) false)).2 _ (aR (T (T I U (.cells (eg E) false)) U (.cells (eg { E with hM:=(iM:Int) }) false)) dz _);unfold eg at P;dsimp only at P;generalize fu:T (T (T I U _) U _) dz _=H at P ⊢;have V2:∀d,d≠dz->d≠U->u H d=u I d:=ab
 have aEN:∀d,d<U->d≠dz->u H d=u h d:=λd h1 ao=>by rw[V2 d ao J,B d J,aq J]
 have hrH:L1 H (.slice a 0 cap) dw:=by
  rcases bc with q|⟨b,w,dl,e1,hb⟩
  ·exact .inl q
  ·exact .inr ⟨b,w,dl,e1,ab⟩
 refine(aub   (cI:=c6) ((aEN b2 a6 (kI Ej.2.1)).trans L) J hrH ab ab J).mono ?_;rintro _ bY f2 ⟨rfl,b6,eH,hu,jg,n5,VH,aFl⟩;unfold kA at eH;refine tN @eH (cD (J:iM<1000000000000)) ?_;refine⟨rfl,b6,{ E with hM:=(iM:Int) },a5,aR _ _ _,ab,jg,n5.F ab,P.F ab,rfl,?_,ab,J,J⟩;have Wd:lH (T bY b2 (.cells [(room:X),.slice (some ⟨b6,0,some 1⟩) 1 1,.map (some dz),.map (some df),((iM+1:Nat):X),(l0:X)] false)) U a5 E p:=d0.F ab J J;exact⟨{ Wd.is with },Wd.hQ,Wd.jh⟩
end
def K9(P:Program)(t dT:Nat):al:=match P.underlying t with
 |some (.map k _)=>Nat.beq k dT
 |_=>false
theorem agN{iY:Type}[DecidableEq iY]{cu:iY->X}{av B n c r U:Nat}{rest:aa Nat}{k:iY}{h:ae}(D:K9 Q av B=true)(K:w9 Q B cu)(H:i7 h r cu [(k,v,n)] c):
  nE Q .delete (av::rest) h U [.map (some r),cu k] = .ok (.val j1 (T h r (.map [] c)) U):=by
 have E:∃b,Q.underlying av=some (.map B b):=by
  unfold K9 at D
  split at D
  ·rename_i I b e
   rw[e,gr D];grind
  grind
 obtain⟨b,e⟩:=E;show Gl Q av h U (.map (some r)) (cu k)=_;unfold Gl;rw[e];simp only;rw[K.ok];unfold PS;simp only;unfold k8;rw[H.at_];show(match kJ Q B (cu k) [{ key:=cu k,val:=v,born:=n }] 0 with|some (some (i,_))=>R.ok (fr.val j1 (T h r (.map (Ly (lz cu [(k,v,n)]) i) c)) U)|some none=>.ok (.val j1 h U)|none=>.no "delete - key")=_;have aK:kJ Q B (cu k) [{ key:=cu k,val:=v,born:=n }] 0=some (some (0,{ key:=cu k,val:=v,born:=n })):=by show(match k7 Q B (cu k) (cu k)with|some true=>some (some (0,({ key:=cu k,val:=v,born:=n }:MapEntry)))|some false=>kJ Q B (cu k) [] 1|none=>none)=_;rw[K.eq,gY rfl]
 rw[aK];rfl
theorem ay5:K9 Q 302 3=true:=by kernel_rfl
theorem ay6:K9 Q 173 3=true:=by kernel_rfl
theorem M7:((1:Nat):Int)=1:=rfl
theorem c0i:((0:Nat):Int)=0:=rfl
theorem aA9:nD Q 62=true:=by kernel_rfl
theorem aBa:rF Q 62=some 3:=by kernel_rfl
theorem zeI:oj Q 3=some (c4 0):=by kernel_rfl
section
variable {s:al} {h:ae} {U b n:Nat}
theorem awH(D:u h b=some (.cells [(n:X)] false)):
  aE Q s 348 [.slice (some ⟨b,0,some 1⟩) 1 1,.int .i64 0,.int .i64 1] h U (λr ac Y=>r = .slice (some ⟨b,0,some 1⟩) 0 1/\ac=T h b (.cells [.int .i64 0] false)/\Y=U):=by
 refine ajV ?_;unfold YC;simp(disch:=omega)only[bk,M7,c0i,show gi 1 (.slice (some ⟨b,0,some 1⟩) 1 1) (some (.int .i64 0)) (some (.int .i64 1)) (some (.int .i64 1)) = .ok (.slice (some ⟨b,0,none⟩) 1 1)from rfl,show gi 1 (.slice (some ⟨b,0,some 1⟩) 1 1) none (some (.int .i64 0)) none = .ok (.slice (some ⟨b,0,some 1⟩) 0 1)from rfl,show gi 1 (.slice (some ⟨b,0,some 1⟩) 1 1) (some (.int .i64 1)) none none = .ok (.slice (some ⟨b,0,some 0⟩) 0 0)from rfl,show dM 1 h U (.slice (some ⟨b,0,some 1⟩) 0 1) (.slice (some ⟨b,0,some 0⟩) 0 0) = .ok (.val (.slice (some ⟨b,0,some 1⟩) 0 1) h U)from rfl,dO,show gi 1 (.slice (some ⟨b,0,some 1⟩) 0 1) (some (.int .i64 0)) (some (.int .i64 1)) none = .ok (.slice (some ⟨b,0,some 1⟩) 1 1)from rfl,seval];have B:=acV  (k:=1)  (i:=0) (n:=1) (c:=1) (U:=U) (aB:=some 1) (l:=[(n:Int)]) (0:Int) (λ_=>rfl) (λ_=>rfl) aA9 aBa zeI rfl J D
 replace B:=B.trans (show _=R.ok (.val j1 (T h b (.cells [.int .i64 0] false)) U)from rfl)
 rw[show(0:Nat)*1=0 from rfl,show 1-0=1 from rfl]at B;rw[B];exact⟨rfl,rfl⟩
theorem awI(D:u h b=some (.cells [(n:X)] false)):
  aE Q s 244 [.slice (some ⟨b,0,some 1⟩) 1 1] h U (fs (n:X) U h):=by refine atk ?_;unfold aeO;refine cN @D @M7 ?_;refine λ_=>bE.mk (λ_ B ac Y=>B=[.slice (some ⟨b,0,some 1⟩) 1 1,(n:X),.int .i64 1]/\ac=h/\Y=U) 0 ab ?_;rintro _ _ _ _ ⟨rfl,rfl,rfl⟩;rw[apd];unfold aal;refine bl @M7 ?_;exact λ_=>⟨rfl,rfl,rfl⟩
theorem awJ{q:Nat}(E:u h b=some (.cells [(n:X)] false))(D:u h q=some (.cells [(n:X)] false)):
  aE Q s 245 [.slice (some ⟨b,0,some 1⟩) 1 1,.func (.func 246) ⟨[]⟩ ⟨[bf q]⟩] h U (fs (.int .i64 0) U h):=by refine asy ?_;unfold aet;refine bl @M7 ?_;refine bE.mk (λ_ B ac Y=>B=[.slice (some ⟨b,0,some 1⟩) 1 1,.func (.func 246) ⟨[]⟩ ⟨[bf q]⟩,.int .i64 0,.int .i64 1,.int .i64 0]/\ac=h/\Y=U) 0 ab ?_;rintro _ _ _ _ ⟨rfl,rfl,rfl⟩;rw[aov];unfold Z2;refine bl @E ?_;refine⟨?_,λh=>absurd trivial h⟩;refine akv ?_;unfold YZ;refine bl @D ?_;exact⟨λ_=>⟨rfl,rfl,rfl⟩,λh=>absurd h ab⟩
end
end Go.Proofs.YthlhhajnbgjfmaaGreat
