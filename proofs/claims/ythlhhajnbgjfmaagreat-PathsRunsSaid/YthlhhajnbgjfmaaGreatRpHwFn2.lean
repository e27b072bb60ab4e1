/- Parts of the proof: HwFn2: each statement bears its own conditions. -/
import Derived.Test.YthlhhajnbgjfmaaGreatProg
import Derived.KernelRfl
import Derived.Test.YthlhhajnbgjfmaaGreatRows
import Derived.WalkKit
import Derived.ProofKit
import Derived.OpenShut
import Derived.ChangeOld
import Derived.Below
import Derived.Test.YthlhhajnbgjfmaaGreatRpHwFn1
namespace Go.Proofs.YthlhhajnbgjfmaaGreat
open Go Go.Ax Go.ChangeShapes Go.WideShapes Go.ChangeAt Go.RowKit
set_option linter.all false
set_option maxHeartbeats 1000000
variable {U:Nat} {h:ae} {s:al} {v:X} {gs:aa GE} {N:Nat} {n:Int} {es:aa hZ} {eW gV:X} {ap ag:Nat} {v2:X} {x y:dC} {v1 e6:X} {bR dK dr:aa Int} {A B l:aa dC} {m:Int} {cs:aa X} {src len:Int} {r:X} {IY:aa dC} {e:GE} {az:Type} {p:GE->al} {z:dC} {R:aP} {i f:Nat} {k:Int} {ac:ae} {aC aZ bA:X} {bG:al} {Y:Nat} {c9:Int}
def kT(x y:dC):Prop:=x.1<y.1\/(x.1=y.1/\x.2.1<y.2.1)
def ayl(es:aa dC)(x:dC):Prop:=x∈es/\∀y∈es,Ends x y->x.2.2<=y.2.2
structure r4 (A B:aa dC):Prop where
 mem:∀x,x∈B↔ayl A x
 Ex:∀y∈A,∃z∈B,Ends z y
structure kL (A B:aa dC):Prop where
 up:B.Pairwise kT
 vL:r4 A B
theorem Ends.symm{x y:dC}(h:Ends x y):Ends y x:=⟨h.1.symm,h.2.symm⟩
theorem Ends.trans{x y z:dC}(h:Ends x y)(ac:Ends y z):Ends x z:=⟨h.1.trans ac.1,h.2.trans ac.2⟩
theorem Ends.refl(x:dC):Ends x x:=⟨rfl,rfl⟩
theorem kT.ne(h:kT x y):¬Ends x y:=λe=>by unfold kT at h;have:=e.1;have:=e.2;omega
theorem kT.i9(h:kT x y)(ac:kT y x):False:=by unfold kT at *;omega
theorem W0:∀{l C:aa dC},l.Pairwise kT->C.Pairwise kT->(∀x,x∈l↔x∈C)->l=C
 | [],[],_,_,_=>rfl
 | [],b::P,_,_,h=>absurd ((h b).2 (mr ..)) (by simp)
 |a::t,[],_,_,h=>absurd ((h a).1 (mr ..)) (by simp)
 |a::t,b::P,I,M,h=>by
  have E:∀x∈t,kT a x:=λx g=>tu I g;have K:∀x∈P,kT b x:=λx g=>tu M g;have D:a=b:=by
   rcases gh.1 ((h a).1 (mr ..))with e|e
   ·exact e
   ·rcases gh.1 ((h b).2 (mr ..))with L|L
    ·grind
    ·exact((K a e).i9 (E b L)).elim
  subst D
  congr 1
  refine W0 I.of_cons M.of_cons λx=>⟨λg=>?_,λg=>?_⟩
  ·rcases gh.1 ((h x).1 (jZ _ g))with e|e
   ·subst e;exact((E x g).ne (Ends.refl x)).elim
   omega
  ·rcases gh.1 ((h x).2 (jZ _ g))with e|e
   ·subst e;exact((K x g).ne (Ends.refl x)).elim
   omega
theorem kL.unique{C:aa dC}(h:kL A B)(ac:kL A C):B=C:=W0 h.up ac.up λx=>(h.vL.mem x).trans (ac.vL.mem x).symm
def qZ(z e:dC):dC:=(z.1,z.2.1,min z.2.2 e.2.2)
theorem r4.aym(h:r4 A B){e:dC}(c0:z∈B)(g:Ends z e)(ey:∀x,x∈IY↔(x∈B/\¬Ends x e)\/x=qZ z e):r4 (A++[e]) IY:=by
 have K:=(h.mem z).1 c0;refine⟨λx=>?_,λy D=>?_⟩
 ·rw[ey];constructor
  ·rintro(⟨E,bw⟩|rfl)
   ·have P:=(h.mem x).1 E;refine⟨Jq _ P.1,λy D L=>?_⟩;rcases he.1 D with D|D
    ·exact P.2 y D L
    grind
   ·refine⟨?_,λy D L=>?_⟩
    ·by_cases dv:z.2.2<=e.2.2
     ·have:qZ z e=z:=by unfold qZ;grind
      rw[this];exact Jq _ K.1
     ·have:qZ z e=e:=by unfold qZ;rw[Int.min_eq_right J,g.1,g.2]
      grind
    ·rcases he.1 D with D|D
     ·have:=K.2 y D L;show min z.2.2 e.2.2<=_;omega
     ·rw[iu.1 D];show min z.2.2 e.2.2<=_;omega
  ·rintro⟨E,Z⟩
   by_cases C:Ends x e
   ·refine .inr ?_;have h1:=Z e (by simp) C;have ao:=Z z (Jq _ K.1) (C.trans g.symm);have aT:x.2.2=min z.2.2 e.2.2:=by
     rcases he.1 E with E|E
     ·have:=K.2 x E (g.trans C.symm);omega
     grind
    have aU:x.1=z.1:=C.1.trans g.1.symm;have aK:x.2.1=z.2.1:=C.2.trans g.2.symm;obtain⟨iD,h7,hM⟩:=x;unfold qZ
    grind
   ·refine .inl ⟨(h.mem x).2 ⟨?_,ab⟩,C⟩;rcases he.1 E with E|E
    ·omega
    ·rw[iu.1 E]at C;exact absurd (Ends.refl e) C
 ·have V:qZ z e∈IY:=ab
  rcases he.1 D with D|D
  ·obtain⟨q,c3,I⟩:=h.Ex y D
   by_cases M:Ends q e
   ·exact⟨_,V,(show Ends (qZ z e) z from⟨rfl,rfl⟩).trans (g.trans (M.symm.trans I))⟩
   ·exact⟨q,ab,I⟩
  ·rw[iu.1 D];exact⟨_,V,(show Ends (qZ z e) z from⟨rfl,rfl⟩).trans g⟩
theorem r4.ayn(h:r4 A B){e:dC}(M:∀z∈B,¬Ends z e)(L:∀x,x∈IY↔x∈B\/x=e):r4 (A++[e]) IY:=by
 refine⟨λx=>?_,λy g=>?_⟩
 ·rw[L];constructor
  ·rintro(D|rfl)
   ·have I:=(h.mem x).1 D;refine⟨Jq _ I.1,λy g E=>?_⟩;rcases he.1 g with g|g
    ·exact I.2 y g E
    grind
   ·refine⟨by simp,λy g E=>?_⟩;rcases he.1 g with g|g
    ·obtain⟨q,K,C⟩:=h.Ex y g;exact absurd (C.trans E.symm) ab
    grind
  ·rintro⟨D,P⟩;rcases he.1 D with D|D
   ·exact .inl ((h.mem x).2 ⟨D,ab⟩)
   grind
 ·rcases he.1 g with g|g
  ·obtain⟨q,K,C⟩:=h.Ex y g;exact⟨q,ab,C⟩
  ·rw[iu.1 g];exact⟨e,ab,Ends.refl e⟩
theorem r4.nil:r4 [] []:=⟨λx=>⟨λ(h:x∈([]:aa dC))=>(sx h).elim,λh=>(sx h.1).elim⟩,λy g=>(sx g).elim⟩
def D2(l:aa dC):Prop:=l.Pairwise λx y=>¬Ends x y
theorem Ys(e:dC):∀(l:aa dC),D2 l->D2 (iH e l)/\((∃z∈l,Ends z e/\∀x,x∈iH e l↔(x∈l/\¬Ends x e)\/x=qZ z e)\/((∀z∈l,¬Ends z e)/\∀x,x∈iH e l↔x∈l\/x=e))
 | [],_=>⟨by unfold iH D2;simp,.inr ⟨by simp,λx=>by simp[iH]⟩⟩
 |z::l,P=>by
  have a1:iH e (z::l)=(bif fk z.1 e.1&&fk z.2.1 e.2.1 then(z.1,z.2.1,bif lw e.2.2 z.2.2 then e.2.2 else z.2.2)::l else z::iH e l):=rfl;have C:∀x∈l,¬Ends z x:=λx g=>tu P g;rw[a1];cases L:(fk z.1 e.1&&fk z.2.1 e.2.1)with
  |true =>
   simp only[eo,k4,sB]at L;have D:Ends z e:=⟨L.1,L.2⟩
   have E:((z.1,z.2.1,bif lw e.2.2 z.2.2 then e.2.2 else z.2.2):dC)=qZ z e:=by
    unfold qZ;rw[rC]
    grind
   rw[E];simp only[qF];refine⟨List.Pairwise.cons (λx g K=>C x g ((show Ends z (qZ z e)from⟨rfl,rfl⟩).trans K)) P.of_cons,.inl ⟨z,ab,D,λx=>?_⟩⟩;constructor
   ·intro g;rcases gh.1 g with rfl|g
    ·grind
    ·exact .inl ⟨ab,λK=>C x g (D.trans K.symm)⟩
   grind
  |false =>
   have D:¬Ends z e:=λh=>by
    have:(fk z.1 e.1&&fk z.2.1 e.2.1)=true:=by simp only[eo,k4,sB];exact⟨h.1,h.2⟩
    grind
   obtain⟨h1,Z⟩:=Ys e l P.of_cons;simp only[mX];have M:∀x∈iH e l,¬Ends z x:=λx g K=>by
    rcases Z with⟨q,V,I,E⟩|⟨bw,E⟩
    ·rcases(E x).1 g with⟨g,_⟩|rfl
     ·grind
     ·exact C q V (K.trans (show Ends (qZ q e) q from⟨rfl,rfl⟩))
    grind
   refine⟨List.Pairwise.cons M h1,?_⟩;rcases Z with⟨q,V,I,E⟩|⟨bw,E⟩
   ·refine .inl ⟨q,ab,I,λx=>?_⟩
    grind
   grind
theorem Yt:∀(l A g:aa dC),D2 g->r4 A g->D2 (ig g l)/\r4 (A++l) (ig g l)
 | [],A,g,D,C=>by rw[hz];exact⟨D,C⟩
 |e::l,A,g,D,C=>by
  obtain⟨K,V⟩:=Ys e g D;have P:r4 (A++[e]) (iH e g):=by
   rcases V with⟨z,M,E,I⟩|⟨L,I⟩
   ·exact C.aym M E I
   ·exact C.ayn L I
  have:=Yt l (A++[e]) (iH e g) K P;rw[kl]at this;exact this
theorem asp(h:¬j7 y x<0)(g:¬Ends x y):kT x y:=by rw[Gt]at h;unfold kT;unfold Ends at g;omega
theorem ZX{g:aa dC}(E:g.Perm (ig [] l))(K:g.Pairwise λx y=>¬j7 y x<0):kL l g:=by
 obtain⟨I,D⟩:=Yt l [] [] (by exact List.Pairwise.nil) r4.nil;rw[sy]at D;have P:D2 g:=(E.pairwise_iff (λ{x y} h e=>h e.symm)).2 I;refine⟨?_,λx=>(E.mem_iff).trans (D.mem x),λy M=>?_⟩
 ·exact List.Pairwise.imp₂ (λx y h L=>asp h L) K P
 ·obtain⟨z,V,C⟩:=D.Ex y M;exact⟨z,ab,C⟩
theorem kL.self(h:l.Pairwise kT):kL l l:=by
 have E:∀(l:aa dC),l.Pairwise kT->∀x∈l,∀y∈l,Ends x y->x=y:=by
  intro l
  induction l with
  |nil=>grind
  |cons a l I =>
   intro h x g y C D;rcases gh.1 g with g|g <;> rcases gh.1 C with C|C
   ·grind
   ·rw[g]at D;exact((tu h C).ne D).elim
   ·rw[C]at D;exact((tu h g).ne D.symm).elim
   grind
 exact⟨h,λx=>⟨λg=>⟨g,ab⟩,λg=>g.1⟩,λy C=>⟨y,C,Ends.refl y⟩⟩
structure af8 (N:Nat) (gs cs:aa GE):Prop where
 can:kL (gs.map dJ) (cs.map dJ)
 aCp:anq gs cs
 ok:∀g∈cs,g7 N g
 len:cs.length<=gs.length
theorem ayo(N:Nat)(gs:aa GE)(d7:N<=2147483648)(L:∀g∈gs,g7 N g)(a6:l.Perm (ig [] (gs.map dJ)))(ar:l.Pairwise λx y=>¬j7 y x<0):af8 N gs (l.map Ca)/\(l.map Ca).map dJ=l:=by
 have M:∀x∈ig [] (gs.map dJ),lZ x:=JM (λx C=>by obtain⟨g,I,rfl⟩:=f3.1 C;exact ZW d7 (L g I)) (λx C=>by cases C)
 obtain⟨aU,aK⟩:=Xu (gs.map dJ) [];have V:∀x∈ig [] (gs.map dJ),dJ (Ca x)=x:=λx C=>by obtain⟨E,K,aT⟩:=M x C;obtain⟨a,dR,_⟩:=uX E;obtain⟨b,aW,_⟩:=uX K;obtain⟨iD,h7,hM⟩:=x;simp only at dR aW;subst dR;subst aW;rfl
 have P:(l.map Ca).map dJ=l:=by
  rw[pJ]
  conv=>rhs;rw[<-Fw l]
  exact qE ab
 have D:∀x∈ig [] (gs.map dJ),∃g∈gs,(Ca x).f=g.f/\(Ca x).t=g.t:=λx C=>by obtain⟨y,ck,E,K⟩:=aU x C;obtain⟨g,I,rfl⟩:=f3.1 (by simpa using ck);exact⟨g,I,by show x.1.toNat=_;rw[E];rfl,by show x.2.1.toNat=_;rw[K];rfl⟩
 refine⟨⟨by rw[P];exact ZX a6 ar,⟨λg I=>?_,λc Z=>?_⟩,λc Z=>?_,?_⟩,P⟩
 ·obtain⟨x,C,E,K⟩:=aK (dJ g) ab;exact⟨Ca x,ab,by show x.1.toNat=_;rw[E];rfl,by show x.2.1.toNat=_;rw[K];rfl⟩
 ·obtain⟨x,C,rfl⟩:=f3.1 Z;obtain⟨g,I,E,K⟩:=D x ab
  grind
 ·obtain⟨x,C,rfl⟩:=f3.1 Z;have C:=a6.subset C;obtain⟨g,I,E,K⟩:=D x C;obtain⟨_,_,aT⟩:=M x C;obtain⟨w,bO,xj⟩:=uX aT;exact⟨by rw[E];exact(L g I).1,by rw[K];exact(L g I).2.1,by show 0<=x.2.2;omega,by show x.2.2<=_;omega⟩
 ·rw[gX,a6.length_eq];have:=OH (gs.map dJ) []
  grind
set_option maxRecDepth 1000000
def Hg:aa (aa Nat):=[[0,4,5,6,22,23,24],[0,4,5,13,52]]
def aem(s:al)(aC aZ bA bp eL kc fW:X)(h:ae)(U:Nat)(N:aP)(aL:aP)(R:aP):Prop:=cG fW kc (gT 3 h 3 eL fW λc=>bX [(ad 0),(ad 0),(ad 0)] h U λd e f=>af (aS e 3 d c) λg=>ax g 0 d λj=>ax g 1 d λl=>af (cV [(ad 0),(ad 0)] [(0,1,j),(1,1,l)]) λm=>bX [(ad 0),(ad 0)] g f λn o p=>af (aS o 2 n m) λq=>ax q 2 d λt=>aV s 260 [t] q p λaO v w=>bX [(ad 0),(.int .u64 0)] v w λx y z=>af (aS y 2 x aO) λbC=>aN 2 bC n λbV=>af (j3 Q bC 53 (.agg #[(ad 0),(.int .u64 0)]) true bp bV) λbM=>af (cp bM 0) λbg=>af (cp bM 1) λbW=>bX [(ad 0),(.int .u64 0)] bC z λb7 bI cJ=>af (aS bI 2 b7 bg) λcB=>br bW (aN 2 cB b7 λds=>aN 2 cB x λde=>aV s 261 [aC,ds,de] cB cJ λeN am an=>af (aS am 2 x eN) λeU=>aN 2 eU n λgG=>aN 2 eU x λgU=>af (m9 Q 53 eU bp gG gU) λgL=>cj fW λio=>N [aC,aZ,bA,bp,eL,kc,io] gL an) (aN 2 cB n λi0=>aN 2 cB x λgH=>af (m9 Q 53 cB bp i0 gH) λmj=>cj fW λlQ=>N [aC,aZ,bA,bp,eL,kc,lQ] mj cJ)) (aL [aC,aZ,bA,bp,eL,kc,fW] h U)
def aen(s:al)(aC aZ bA gt H6:X)(h:ae)(U:Nat)(N:aP)(aK:aP)(R:aP):Prop:=vB s h U H6 λa b c=>af (cp a 0) λd=>br d (af (wL b H6) λe=>af (cp e 0) λf=>af (cp e 1) λg=>bX [(ad 0),(ad 0)] b c λi j k=>bX [(ad 0),(.int .u64 0)] j k λl m n=>af (aS m 2 i f) λo=>af (aS o 2 l g) λp=>aN 2 p l λq=>aV s 262 [aC,q] p n λr t aO=>af (cp r 0) λv=>af (cp r 1) λw=>af (du .not w) λx=>br x (R [aC,ay,(ad 12),gt,H6] t aO) (af (iy (.array 2 1) i (ad 0)) λy=>bS t y λz=>af (iy (.array 2 1) i (ad 1)) λbC=>bS t bC λbV=>af (cV [(ad 0),(ad 0),(ad 0)] [(0,1,z),(1,1,bV),(2,1,v)]) λbM=>dY (fc 1 [(ad 0),(ad 0),(ad 0)] [(0,3,bM)]) t aO λbg bW b7=>dG (dO (dM 3 bW b7 gt bg)) λbI cJ cB=>N [aC,aZ,bA,bI,H6] cJ cB)) (aK [aC,aZ,bA,gt,H6] b c)
def ahy:cO:=λs ah t1 h U K=>aV s 259 [ah] h U λa b c=>af (du .not a) λd=>br d (K (.tuple ⟨[ay,(ad 8)]⟩) b c) (dY (.ok .map) b c λe f g=>cP t1 λi=>bE (bU Q s Hg 172 0) [ah,ay,(ad 0),e,t1,i,(ad 0)] f g [(0,λj k l=>dG (sJ k l (bb j 3)) λm n o=>bE (bU Q s Hg 172 1) [(bb j 0),(bb j 1),(bb j 2),ay,m] n o [(2,λp q r=>aV s 263 [(bb p 3),(.func (.func 264) #[] #[])] q r λt aO v=>K (.tuple ⟨[(bb p 3),(ad 0)]⟩) aO v)] (λw x y=>K (.tuple ⟨[(bb w 1),(bb w 2)]⟩) x y))] (λ_ _ _=>False))
theorem avM{D g C fW:X}{N E:aP}:bU Q s Hg 172 0 [aC,aZ,bA,D,g,C,fW] h U N [(0,E)] R=aem s aC aZ bA D g C fW h U N E R:=by kernel_rfl
theorem avN{g C:X}{N D:aP}:bU Q s Hg 172 1 [aC,aZ,bA,g,C] h U N [(2,D)] R=aen s aC aZ bA g C h U N D R:=by kernel_rfl
theorem ayp:cX 172 ahy:=cZ Hg
theorem Gz{n:Nat}(h:n<2147483648):wid (n:Int)=pb n:=by unfold wid pb;rw[show(n:Int) / 18446744073709551616=0 by omega,show(n:Int) % 18446744073709551616=(n:Int) by omega]
def ahz(es:aa dC)(v:X)(r:Nat)(au:ae)(m:Nat)(aF:aa X)(ac:ae)(Y:Nat):Prop :=
 ∃i,m=es.length-i/\i<=es.length/\aF=[.int .i64 1,.slice none 0 0,.int .i64 0,.map (some r),v,(es.length:X),(i:X)]/\u ac r=some (.map (kp 0 (ig [] (es.take i))) (ig [] (es.take i)).length)/\r<Y/\aA r au ac
def aAb(L:aa dC)(r it:Nat)(au:ae)(m:Nat)(aF:aa X)(ac:ae)(Y:Nat):Prop :=
 ∃seen acc o,m=(Go.Ax.leftOf seen (kp 0 L)).length/\aF=[.int .i64 1,.slice none 0 0,.int .i64 0,o,bf it]/\eb ac o j6 3 acc (it+1) Y/\(acc=[]->o = .slice none 0 0)/\(acc++(Go.Ax.leftOf seen (kp 0 L)).map wX).Perm L/\u ac it=some (.iter (some r) L.length seen L.length)/\u ac r=some (.map (kp 0 L) L.length)/\it<Y/\aA r au ac
theorem aeo{es:aa dC}(aI:fj h U v j6 es)(rW:∀x∈es,lZ x)(bo:es.length<=120):
  aE Q false 172 [.int .i64 1,v] h U (λr ac Y=>∃v2 l,r = .tuple ⟨[v2,.int .i64 0]⟩/\eb ac v2 j6 3 l U Y/\(l=[]->v2 = .slice none 0 0)/\l.Perm (ig [] es)/\l.Pairwise (λx y=>¬j7 y x<0)/\aA U h ac):=by
 refine ayp ?_;obtain⟨a,cap,rfl,a1⟩:=id aI;unfold ahy;refine(AG J J).mono ?_;rintro _ h U ⟨rfl,rfl,rfl⟩;refine aG ?_;refine bE.mk (ahz es (.slice a es.length cap) U h) es.length ⟨0,J,J,rfl,aR _ _ _,J,aM⟩ ?_;rintro m _ h1 I ⟨i,rfl,ag,rfl,hm,bc,hk⟩;rw[avM];unfold aem;refine aG ?_;refine⟨λcb=>?_,λeG=>?_⟩
 ·obtain⟨x,bd⟩:=dH cb;have M:=rW x (kk bd);obtain⟨w,bO,xj⟩:=uX M.2.2;have D:∀y∈ig [] (es.take i),lZ y:=JM (λy ck=>rW y (List.mem_of_mem_take ck)) (λy ck=>by cases ck);obtain⟨_,b,aB,bG,j4,cs,q8,S0,zj⟩:=(aI.F hk (by omega:U<=I)).at bd;cases S0;have qd:hB (some 3) (i*3) (a7 j6 es++cs) = .ok (.agg ⟨[(x.1:X),(x.2.1:X),(x.2.2:X)]⟩):=BI (enc:=j6) (k:=3) (λ_=>rfl) bd;refine cN @zj @qd ?_;refine(AF (by rw[bO];unfold kz;omega)).mono ?_;rintro _ ao bQ ⟨rfl,E,f5⟩;have bP:=E (I+1) J;rw[aR]at bP;rw[bO,Gz xj];unfold pb;refine bl @bP ?_;have cq:ig [] (es.take (i+1))=iH x (ig [] (es.take i)):=by rw[<-Xn,gW,bd];rfl
  have fin:∀aT bT,bQ<=bT->(∀c,c<bQ->u aT c=u ao c)->∃bD,bD<es.length-i/\ahz es (.slice (some ⟨b,0,aB⟩) es.length cap) U h bD [.int .i64 1,.slice none 0 0,.int .i64 0,.map (some U),.slice (some ⟨b,0,aB⟩) es.length cap,(es.length:X),.int .i64 (IntKind.wrap .i64 ((i:Int)+1))] (T aT U (.map (kp 0 (iH x (ig [] (es.take i)))) (iH x (ig [] (es.take i))).length)) bT:=λaT bT Ey C =>
   ⟨es.length-(i+1),J,i+1,rfl,J,by rw[cD (J:i<1000000000000)],by rw[cq];exact aR _ _ _,J,aM⟩
  have g2:=(E U J).trans ((aq J).trans ((aq J).trans ((aq J).trans ((aq J).trans hm))));rw[show Value.agg ⟨[(x.1:X),(x.2.1:X)]⟩=my x from rfl,auS Rm M D ((aq J).trans ((aq J).trans g2))];cases bK:qf x (ig [] (es.take i))with
  |none =>
   refine bl @bP ?_;rw[show Value.agg ⟨[(x.1:X),(x.2.1:X)]⟩=my x from rfl,show Value.agg ⟨[.int .i64 0,.int .u64 (w:Int)]⟩ = .agg ⟨pb w⟩from rfl,
    adu Rm M D (((aq J).trans ((aq J).trans ((aq J).trans ((aq J).trans g2))))) (w:=w) (by rw[bK];show w=x.2.2.toNat;omega)]
   exact fin _ _ J λc a1=>ab
  |some p =>
   obtain⟨q,y⟩:=p;have hsy:=D y (kk (KD bK).1);obtain⟨g,d5,T5⟩:=uX hsy.2.2;unfold pb;refine bl @bP ?_;rw[show y.2.2.toNat=g by omega,show Value.agg ⟨[.int .i64 0,.int .u64 (g:Int)]⟩ = .agg ⟨wid (g:Int)⟩ by rw[Gz T5];rfl,show Value.agg ⟨[.int .i64 0,.int .u64 (w:Int)]⟩ = .agg ⟨wid (w:Int)⟩ by rw[Gz xj];rfl];refine(Qm (.inl rfl) (by unfold lA;omega) (by unfold lA;omega)).mono ?_;rintro _ aT bT ⟨rfl,C,V⟩;have e:jR 1 (g:Int) (w:Int)=((min g w:Nat):Int):=by unfold jR;omega
   have dp:=C bQ J;rw[aq J,aq J,aR]at dp;have dZ:=(C (I+1) J).trans ((aq J).trans ((aq J).trans ((aq J).trans ((aq J).trans bP))));have hw:=(C U J).trans ((aq J).trans ((aq J).trans ((aq J).trans ((aq J).trans g2))));rw[e,Gz J];unfold pb;refine cN @dp @dZ ?_;rw[show Value.agg ⟨[(x.1:X),(x.2.1:X)]⟩=my x from rfl,show Value.agg ⟨[.int .i64 0,.int .u64 ((min g w:Nat):Int)]⟩ = .agg ⟨pb (min g w)⟩from rfl,
    adu Rm M D ((aq J).trans hw) (w:=min g w) (by rw[bK];show min g w=(bif lw x.2.2 y.2.2 then x.2.2 else y.2.2).toNat;rw[rC];grind)]
   exact fin _ _ J λc a1=>(aq J).trans ((C c J).trans ((aq J).trans ((aq J).trans ((aq J).trans (aq J)))))
 ·have:i=es.length:=J
  subst this;rw[ic]at hm;show dG (sJ h1 I (.map (some U))) _;have D:∀y∈ig [] es,lZ y:=JM rW (λy ck=>by cases ck);have fO:(ig [] es).length<=120:=by
   have:=OH es []
   grind
  generalize ig [] es=L at *
  obtain⟨P,ayq⟩:=WC 0 L;obtain⟨A1,SI⟩:=WU 0 L D;refine adF hm (bE.mk (aAb L U I h) (kp 0 L).length ⟨[],[],_,by rw[N0],rfl,.inl ⟨rfl,rfl⟩,λ_=>rfl,by rw[N0,A1];exact x2 _,aR _ _ _,(aq J).trans hm,J,aM⟩ ?_);rintro m _ ao bQ ⟨seen,acc,o,rfl,rfl,ar,c0,a6,Eo,q7,cb,E⟩;rw[avN];unfold aen;refine adG Eo q7 (λe b0=>by have:=ayq e b0;omega) rfl (λSP=>?_) λe b0 Z=>?_
  ·refine aG ?_;rw[SP]at a6;simp only[z7,hz]at a6;rcases id ar with⟨rfl,rfl⟩|⟨pB,g6,eR,rfl,T6⟩
   ·refine aoj ⟨_,[],rfl,.inl ⟨rfl,rfl⟩,λ_=>rfl,a6,List.Pairwise.nil,E⟩
   ·have:=a6.length_eq;refine(asj rfl J eR T6).mono ?_;rintro _ aT bT ⟨V,⟨b1,K,nK,ht⟩,vH⟩;exact⟨_,b1,rfl,.inr ⟨pB,J,J,by rw[K.length_eq],ht⟩,λe=>c0 (by rw[e]at K;exact List.nil_perm.1 K),K.trans a6,nK,λc a1=>by rw[vH c J J];exact E c a1⟩
  ·obtain⟨g,T5,d5,aAc,SH⟩:=SI e Z;have pn:=Og P b0;have qa:=pn.length_eq;simp only[nC]at qa;refine aG ?_;rw[Ya (aR _ _ _) ((aq J).trans q7) P Z,aAc,SH];have qb:=pn.map wX;simp only[uO]at qb;generalize bd:wX e=x at *
   rw[show my x = .agg ⟨[(x.1:X),(x.2.1:X)]⟩from rfl];unfold pb;refine aG ?_;rw[show Value.agg ⟨[.int .i64 0,.int .u64 (g:Int)]⟩ = .agg ⟨wid (g:Int)⟩ by rw[Gz T5];rfl];refine(Xs (x:=(g:Int)) (by unfold lA;omega)).mono ?_;intro jg aT bT hr3;obtain⟨cc,C,V⟩:=hr3;have yO:sS (g:Int)=true:=by unfold sS;exact gY ⟨J,J⟩
   rw[yO]at cc;have bP:=(C bQ J).trans (aq J);rw[cc];rw[show(if true=true then(g:Int)else 0)=(g:Int)from rfl];refine bl @bP ?_;have Mu:=a6.length_eq;simp only[ib,gX]at Mu;refine mu (enc:=j6) (ap:=I+1) (λ_=>rfl) (λ_=>rfl) J (ar.F (λc h1 ao=>(aq J).trans ((C c J).trans ((aq J).trans ((aq J).trans ((aq J).trans ((aq J).trans (aq J))))))) J) J x (aR _ _ _) (by show[Value.int .i64 x.1,(x.2.1:X),(g:X)]=j6 x;unfold j6;rw[d5]) (by omega) ?_;intro v4 a9 H7 g8;have hL:∀c,c<I+1->c≠I->u a9 c=u ao c:=λc h1 ao=>(g8 c h1).trans ((aq J).trans ((C c J).trans ((aq J).trans ((aq J).trans ((aq J).trans ((aq J).trans (aq J)))))));refine⟨_,?_,seen++[e.born],acc++[x],v4,rfl,rfl,H7,λe=>absurd e (by simp),?_,?_,(hL U J J).trans q7,J,λc a1=>(hL c J J).trans (E c a1)⟩
   ·omega
   ·rw[kl];exact(List.Perm.append_left acc qb.symm).trans a6
   ·refine(g8 I J).trans ((aq J).trans ((C I J).trans ((aq J).trans ((aq J).trans ((aq J).trans ((aq J).trans (aR _ _ _)))))))
theorem alq(aI:fj h U v cR gs)(d7:N<=2147483648)(P:∀g∈gs,g7 N g)(bo:gs.length<=120):
  aE Q s 172 [.int .i64 1,v] h U (λr ac Y=>∃v2 cs,r = .tuple ⟨[v2,.int .i64 0]⟩/\eb ac v2 cR 3 cs U Y/\af8 N gs cs/\aA U h ac/\U<=Y):=by
 have rW:∀x∈gs.map dJ,lZ x:=λx bd=>by obtain⟨g,aY,rfl⟩:=f3.1 bd;exact ZW d7 (P g aY)
 have V:fj h U v j6 (gs.map dJ):=by obtain⟨a,cap,rfl,a1⟩:=aI;refine⟨a,cap,by rw[gX],λeh=>?_⟩;rw[<-KJ];exact a1 (λe=>eh (by rw[e];rfl))
 have K:=aeo V rW (by rw[gX];exact bo);obtain⟨-,a6,ar⟩:=OI ZS (ig [] (gs.map dJ));generalize qK j7 (ig [] (gs.map dJ))=L at a6 ar;obtain⟨D,t6⟩:=ayo N gs d7 P a6 ar;have C:∀l:aa dC,l.Perm (ig [] (gs.map dJ))->l.Pairwise (λx y=>¬j7 y x<0)->l=L:=λl h1 ao=>OG (R:=λx y=>¬j7 y x<0) (λx y=>akO x y) (h1.trans a6.symm) ao ar
 by_cases fJ:L=[]
 ·subst fJ;refine aE.plain (v:=.tuple ⟨[.slice none 0 0,.int .i64 0]⟩) rfl (K.mono ?_) ⟨_,_,rfl,.inl ⟨rfl,rfl⟩,D,aM,J⟩;rintro _ ac Y ⟨v2,l,rfl,M,c0,I,E,hk⟩;cases C l I E;rw[c0 rfl];exact⟨rfl,hk⟩
 ·refine aE.mN (val:=λb=>.tuple ⟨[.slice (some ⟨b,0,some 3⟩) L.length L.length,.int .i64 0]⟩) (cs:=a7 j6 L) (FK (λ_=>rfl) L) Oo (K.mono ?_) ⟨_,_,rfl,.inr ⟨U,J,J,by rw[gX],?_⟩,D,aM,J⟩
  ·rintro _ ac Y ⟨v2,l,rfl,M,c0,I,E,hk⟩;cases C l I E;rcases M with⟨e,_⟩|⟨b,Z,eR,rfl,aW⟩
   ·exact absurd e fJ
   ·exact⟨b,rfl,Z,aW,hk⟩
  ·rw[aR,KJ,t6]
def yU(N:Nat)(gs:aa GE)(U:Nat)(h:ae):bN:=λr ac Y=>∃v2 cs,r = .agg ⟨[(N:X),v2]⟩/\eb ac v2 cR 3 cs U Y/\kL (gs.map dJ) (cs.map dJ)/\(∀g∈cs,g7 N g)/\cs.length<=gs.length/\aA U h ac/\U<=Y
theorem Qn(P:fj h U v cR gs)(d7:N<=2147483648)(E:∀g∈gs,g7 N g)(bo:gs.length<=120):
  aE Q s 98 [.agg ⟨[(N:X),v]⟩] h U (yU N gs U h):=by
 refine avo ?_;obtain⟨a,cap,rfl,a1⟩:=id P;unfold afQ;refine aG ?_;have jX:∀{e7 Z:fU},aA U h (T (T h U e7) (U+1) Z):=aM
 refine(alq (P.F jX J) d7 E bo).mono ?_;rintro r V nj ⟨v2,cs,rfl,D,C,K,dv⟩;have I:=(K U J).trans (aq J);have L:=K (U+1) J;rw[aR]at I L;obtain⟨a2,bQ,M,rfl⟩:=D.form;refine cN @I @L ?_;have ag:kL (gs.map dJ) (cs.map dJ):=C.can;refine⟨_,cs,rfl,?_,ag,C.ok,C.len,aM,J⟩;rcases D with D|⟨b,V,ao,e,aW⟩
 ·exact .inl D
 ·exact .inr ⟨b,J,ao,e,ab⟩
def lF(n m:Int):al:=decide (0<=n/\n<=m)
theorem lu(h:0<=n/\n<=m):lF n m=true:=gY h
theorem pW(h:¬(0<=n/\n<=m)):lF n m=false:=hA h
theorem FT:aE Q s 277 [(n:X),(m:X)] h U (λr ac Y=>r = .bool (lF n m)/\ac=h/\Y=U):=by
 refine anN ?_;unfold abH;refine aG ?_;refine⟨λC=>?_,λC=>by rw[pW J]⟩
 by_cases g:m<n
 ·rw[gY g,pW J];rfl
 ·rw[hA g,lu J];rfl
theorem FL:aE Q s 156 [(n:X),(m:X)] h U (λr ac Y=>r = .bool (lF n m)/\ac=h/\Y=U):=by
 refine ak9 ?_;unfold ZE;refine aG ?_;refine⟨λC=>?_,λC=>by rw[pW J]⟩
 by_cases g:m<n
 ·rw[gY g,pW J];rfl
 ·rw[hA g,lu J];rfl
theorem OS:aE Q s 199 [(n:X),(m:X)] h U (λr ac Y=>r = .bool (decide (1<=n/\n<=m))/\ac=h/\Y=U):=by
 refine anT ?_;unfold abM;refine aG ?_;refine⟨λC=>?_,ab⟩
 by_cases g:m<n
 all_goals grind
def Hx(d:Int):al:=decide (d<0\/2147483647<d)
theorem alr{d:Int}:aE Q s 279 [(d:X)] h U (dI (.bool (Hx d)) U h):=by refine anO ?_;unfold abI;refine aG ?_;refine⟨λg=>⟨by unfold Hx;grind,aM,J⟩,λg=>⟨?_,aM,J⟩⟩;unfold Hx;grind
def IxJ{az:Type}(p:az->al)(l:aa az)(v rl:X)(U:Nat)(h:ae)(m:Nat)(aF:aa X)(ac:ae)(Y:Nat):Prop:=∃i,m=l.length-i/\i<=l.length/\aF=[v,rl,.int .i64 0,(l.length:X),(i:X)]/\aA U h ac/\U<=Y/\∀x∈l.take i,p x=false
theorem aep{p:az->al}{l:aa az}{x:az}(C:l[i]? = some x)(h:∀y∈l.take i,p y=false)(D:p x=false):∀y∈l.take (i+1),p y=false:=λy g=>by
 rw[gW,C]at g
 grind
theorem aol{p:Int->al}{l:aa Int}(V:cL h U v c4 l)(bo:l.length<1000000)(bK:∀(x:Int) (h:ae) (U:Nat),aE Q s f [(x:X)] h U (dI (.bool (p x)) U h)):
  aE Q s 278 [v,.func (.func f) ⟨[]⟩ ⟨[]⟩] h U (dI (.bool (l.any p)) U h):=by
 refine arJ ?_;obtain⟨a,cap,rfl,a1⟩:=id V;refine(arK (K:=λr ac Y=>aA U h ac/\U<=Y/\∃i:Int,r = (i:X)/\(i<0↔l.any p=false)) ?_).mono ?_
 ·unfold adP;refine aG ?_;refine bE.mk (IxJ p l (.slice a l.length cap) (.func (.func f) ⟨[]⟩ ⟨[]⟩) U h) l.length ⟨0,rfl,J,rfl,aM,J,ab⟩ ?_;rintro m _ ac Y ⟨i,rfl,ag,rfl,D,g,C⟩;rw[anP];unfold Zz;refine aG ?_;refine⟨λI=>?_,λeG=>?_⟩
  ·obtain⟨x,E⟩:=dH I;obtain⟨_,b,aB,bG,c1,Z,aU,P⟩:=V.at E;cases aU;rw[iF]at P;simp(disch:=omega)only[bk,(D b Z).trans P,ix E,seval];refine(bK x ac Y).mono ?_;rintro r ao np ⟨rfl,dD,L⟩;rw[yQ];refine⟨λM=>?_,λM=>?_⟩
   ·refine⟨aM,J,_,rfl,⟨λh=>absurd h J,λh=>?_⟩⟩
    grind
   ·refine bl (cD (J:i<1000000000000)) ?_;exact⟨l.length-(i+1),J,i+1,rfl,J,rfl,aM,J,aep E C M⟩
  ·have:i=l.length:=J
   subst this;rw[ic]at C;exact⟨D,g,_,rfl,ab⟩
 ·rintro r ac Y ⟨D,g,i,rfl,ag⟩;refine aG ?_;refine⟨?_,D,g⟩
  grind
abbrev cx:=Int × Int × Int × Int
def yV(m:cx):aa X:=[(m.1:X),(m.2.1:X),(m.2.2.1:X),(m.2.2.2:X)]
def wN(m:cx):al:=(lF m.2.1 63&&lF m.2.2.1 63&&lF m.2.2.2 63)&&decide (0<m.1/\m.1<=5)
theorem als{m:cx}:aE Q s 159 [.agg ⟨yV m⟩] h U (dI (.bool (wN m)) U h):=by
 refine anV ?_;unfold abO yV;have D:∀{o},aA U h (T h U o):=aM
 have no:(lF m.2.1 63&&lF m.2.2.1 63&&lF m.2.2.2 63)=false->∀{o},CO s (dI (.bool (wN m)) U h) (bf U) (.bool true) (T h U o) (U+1):=λe {o}=>by unfold CO;refine aG ?_;exact⟨by unfold wN;grind,D,J⟩
 refine aG ?_;refine FL.mono ?_;rintro r E I ⟨rfl,g,C⟩;rw[g,C];cases L:lF m.2.1 63 with
 |false =>
  refine aG ?_;exact no ab
 |true =>
  refine aG ?_;refine FL.mono ?_;rintro r E I ⟨rfl,g,C⟩;rw[g,C];cases P:lF m.2.2.1 63 with
  |false =>
   refine aG ?_;exact no ab
  |true =>
   refine aG ?_;refine FL.mono ?_;rintro r E I ⟨rfl,g,C⟩;rw[g,C];cases V:lF m.2.2.2 63 with
   |false =>
    refine aG ?_;exact no ab
   |true =>
    unfold CO;refine aG ?_;have M:wN m=decide (0<m.1/\m.1<=5):=by unfold wN;grind
    refine⟨λK=>⟨?_,D,J⟩,λK=>⟨?_,D,J⟩⟩
    all_goals grind
theorem ajN{m:cx}:aE Q s 254 [.agg ⟨yV m⟩] h U (dI (.bool (!wN m)) U h):=by refine ak8 ?_;unfold ZC yV;refine aG ?_;refine(als ).mono ?_;rintro r D E ⟨rfl,C,g⟩;refine aG ?_;exact⟨rfl,aM,J⟩
theorem aom{p:cx->al}{l:aa cx}(P:cL h U v yV l)(bo:l.length<1000000)(Z:∀(x:cx) (h:ae) (U:Nat),aE Q s f [.agg ⟨yV x⟩] h U (dI (.bool (p x)) U h)):
  aE Q s 253 [v,.func (.func f) ⟨[]⟩ ⟨[]⟩] h U (dI (.bool (l.any p)) U h):=by
 refine arR ?_;obtain⟨a,cap,rfl,a1⟩:=id P;refine(arS (K:=λr ac Y=>aA U h ac/\U<=Y/\∃i:Int,r = (i:X)/\(i<0↔l.any p=false)) ?_).mono ?_
 ·unfold adZ;refine aG ?_;refine bE.mk (IxJ p l (.slice a l.length cap) (.func (.func f) ⟨[]⟩ ⟨[]⟩) U h) l.length ⟨0,rfl,J,rfl,aM,J,ab⟩ ?_;rintro m _ ac Y ⟨i,rfl,ag,rfl,D,g,C⟩;rw[anW];unfold ZD;refine aG ?_;refine⟨λI=>?_,λeG=>?_⟩
  ·obtain⟨x,E⟩:=dH I;obtain⟨_,b,aB,bG,c1,V,aU,aY⟩:=P.at E;cases aU;simp(disch:=omega)only[bk,(D b V).trans aY,Ew (enc:=yV) (k:=4) (λ_=>rfl) E,seval];refine(Z x ac Y).mono ?_;rintro r ao np ⟨rfl,dD,L⟩;rw[yQ];refine⟨λM=>?_,λM=>?_⟩
   ·refine⟨aM,J,_,rfl,⟨λh=>absurd h J,λh=>?_⟩⟩
    grind
   ·refine bl (cD (J:i<1000000000000)) ?_;exact⟨l.length-(i+1),J,i+1,rfl,J,rfl,aM,J,aep E C M⟩
  ·have:i=l.length:=J
   subst this;rw[ic]at C;exact⟨D,g,_,rfl,ab⟩
 ·rintro r ac Y ⟨D,g,i,rfl,ag⟩;refine aG ?_;refine⟨?_,D,g⟩
  grind
def i5(k n src len:Int)(bR:aa Int):Int :=
 if k<=0\/5<k then 8 else if ¬(0<=n/\n<=4096)then 3 else if k=4/\¬(0<=len/\len<=8192)then 3 else if(k=4\/k=1\/k=2)/\¬(0<=src/\src<=n-1)then 3
 else if 65536<bR.length then 5 else if bR.any Hx=true then 7 else 0
theorem jM(C : -9223372036854775808<=n)(g:n<=9223372036854775807):IntKind.wrap .i64 n=n:=by rw[adK];omega
theorem J0(aI:cL h U v c4 bR):aE Q s 187 [.agg ⟨[(k:X),(n:X),(src:X),(len:X),v]⟩] h U (dI (.int .i64 (i5 k n src len bR)) U h):=by
 refine anM ?_;obtain⟨a,cap,rfl,a1⟩:=id aI;unfold abG;have cM:∀{o},aA U h (T h U o):=aM
 have fin:∀{e:Int},i5 k n src len bR=e->∀{o},dI (.int .i64 (i5 k n src len bR)) U h (e:X) (T h U o) (U+1):=λ{e} b0 {o}=>⟨by rw[b0],cM,J⟩
 have last:¬(k<=0\/5<k)->(0<=n/\n<=4096)->¬(k=4/\¬(0<=len/\len<=8192))->¬((k=4\/k=1\/k=2)/\¬(0<=src/\src<=n-1))->Af s (dI (.int .i64 (i5 k n src len bR)) U h) (bf U) (T h U (.cells [(k:X),(n:X),(src:X),(len:X),.slice a bR.length cap] false)) (U+1):=λC Z aT D=>by
  have e:i5 k n src len bR=if 65536<bR.length then 5 else if bR.any Hx=true then 7 else 0:=by unfold i5;omega
  unfold Af;refine aG ?_;refine⟨λP=>fin J,λP=>?_⟩;refine(aol (aI.F cM J) J (λx h U=>alr)).mono ?_;rintro r C a5 ⟨rfl,M,dv⟩;refine aG ?_;refine⟨λcy=>⟨ab,aM,J⟩,λcy=>⟨?_,aM,J⟩⟩
  grind
 have gx:(k<=0\/5<k)->∀{o},FR s (dI (.int .i64 (i5 k n src len bR)) U h) (bf U) (.bool true) (T h U o) (U+1):=λM {o}=>by unfold FR;refine aG ?_;exact fin (by unfold i5;omega)
 refine aG ?_;refine⟨λau=>gx J,λau=>?_⟩
 by_cases P:5<k
 ·rw[gY P];exact gx J
 rw[hA P];have M:¬(k<=0\/5<k):=J
 unfold FR;refine aG ?_;refine FT.mono ?_;rintro r C a5 ⟨rfl,I,L⟩;rw[I,L]
 by_cases V:0<=n/\n<=4096
 case neg =>
  rw[pW V];refine aG ?_;exact fin (by unfold i5;omega)
 rw[lu V];have bO:IntKind.wrap .i64 (n-1)=n-1:=jM J J;have g:(k=4\/k=1\/k=2)->¬(k=4/\¬(0<=len/\len<=8192))->aE Q s 277 [(src:X),.int .i64 (n-1)] (T h U (.cells [(k:X),(n:X),(src:X),(len:X),.slice a bR.length cap] false)) (U+1) λx41 E K=>af (du .not x41) λT7=>br T7 (dI (.int .i64 (i5 k n src len bR)) U h (.int .i64 3) E K) (Af s (dI (.int .i64 (i5 k n src len bR)) U h) (bf U) E K):=λeY D=>by
  refine FT.mono ?_;rintro r C a5 ⟨rfl,I,L⟩;rw[I,L]
  by_cases ar:0<=src/\src<=n-1
  ·rw[lu ar];refine aG ?_;exact last M V D J
  ·rw[pW ar];refine aG ?_;exact fin (by unfold i5;grind)
 refine bl @bO ?_;refine⟨λD=>?_,λD=>?_⟩
 ·have D:k=4:=ab
  refine FT.mono ?_;rintro r C a5 ⟨rfl,I,L⟩;rw[I,L]
  by_cases bo:0<=len/\len<=8192
  ·rw[lu bo];refine bl @bO ?_;exact g J J
  ·rw[pW bo];refine aG ?_;exact fin (by unfold i5;omega)
 ·have D:k≠4:=ab
  refine⟨λC=>?_,λC=>⟨λZ=>?_,λZ=>?_⟩⟩
  ·have C:k=1:=ab
   exact g J J
  ·have Z:k=2:=ab
   exact g J J
  ·have C:k≠1:=ab
   have Z:k≠2:=ab
   exact last M V J J
def lq(n:Int)(es:aa hZ):Int:=if n<0 then 3 else if 4096<n\/65536<es.length then 5 else if es.any (yT n)=true then 3 else if es.any D1=true then 7 else 0
theorem ajO(h:lq n es=0):es.length<=65536:=by unfold lq at h;omega
theorem af9(h:lq n es=0)(g:es.length<=60\/65536<es.length):es.length<=60:=g.elim id λC=>by have:=ajO h;omega
theorem Kl:lq n es=0↔GU n es:=by
 unfold lq GU;constructor
 ·intro h
  split at h
  ·cases h
  ·split at h
   ·cases h
   ·split at h
    ·cases h
    ·split at h
     ·cases h
     ·rename_i I L E D
      refine⟨J,J,J,λe C g=>E (x0.2 ⟨e,C,ZU.2 g⟩),λe C g=>D (x0.2 ⟨e,C,ZV.2 g⟩)⟩
 ·rintro⟨I,L,E,D,K⟩;rw[if_neg J,if_neg J,if_neg,if_neg]
  ·intro h;obtain⟨e,C,g⟩:=x0.1 h;exact K e C (ZV.1 g)
  ·intro h;obtain⟨e,C,g⟩:=x0.1 h;exact D e C (ZU.1 g)
theorem Qo(aI:fj h U v iI es):
  aE Q s 83 [.agg ⟨[(n:X),v]⟩] h U (dI (.int .i64 (lq n es)) U h):=by
 refine avj ?_;obtain⟨a,cap,rfl,a1⟩:=id aI;unfold right;refine aG ?_;have L:aA U h (T (T (T h U (.cells [(n:X),.slice a es.length cap] false)) (U+1) (.cells [.nilFunc] false)) (U+1) (.cells [.func (.func 163) ⟨[]⟩ ⟨[bf U]⟩] false)):=aM
 have no:∀{e:Int},lq n es=e->∀{ac:ae} {Y:Nat},aA U h ac->U<=Y->dI (.int .i64 (lq n es)) U h (e:X) ac Y:=λ{e} b0 {ac Y} V I=>⟨by rw[b0],V,I⟩
 refine⟨λP=>no (by unfold lq;omega) L J,λP=>⟨λao=>no (by unfold lq;omega) L J,λao=>⟨λaT=>no (by unfold lq;omega) L J,λaT=>?_⟩⟩⟩;refine(ab4 (yT n) (aI.F L J) J (λg aY ac Y K V I C=>?_)).mono ?_
 ·have M:=V U J;have bP:=V (U+1) J;rw[aq J,aq J,aR]at M;rw[aR]at bP;have E:∀{o},aA Y ac (T ac Y o):=aM
  refine aG ?_;refine arF ?_;unfold adM iI;refine bl @bP ?_;refine abC ?_;unfold Ro;refine bl @M ?_;refine⟨λP=>C _ _ _ (by unfold yT;grind) E J,λP=>⟨λao=>C _ _ _ (by unfold yT;grind) E J,λao=>?_⟩⟩;refine bl @bP ?_;refine abC ?_;unfold Ro;refine bl @M ?_;refine⟨λaT=>C _ _ _ (by unfold yT;grind) E J,λaT=>?_⟩;refine C _ _ _ ?_ E J;unfold yT
  grind
 ·rintro r a9 vM ⟨rfl,D,Z⟩;have M:=D U J;rw[aq J,aq J,aR]at M;have g1:=L.trans D J;refine bl @M ?_;refine⟨λbY=>no (by unfold lq;grind) g1 J,λbY=>?_⟩;refine(ab4 D1 ((aI.F L J).F D Z) J (λg aY ac Y K V I C=>?_)).mono ?_
  ·have E:∀{o},aA Y ac (T ac Y o):=aM
   refine aG ?_;refine arG ?_;unfold adN iI;refine aG ?_;refine⟨λP=>C _ _ _ (by unfold D1;grind) E J,λP=>C _ _ _ (by unfold D1;grind) E J⟩
  ·rintro r cy rc ⟨rfl,hX,kN⟩;have zH:=g1.trans hX J;refine aG ?_;refine⟨λeD=>no (by unfold lq;grind) zH J,λeD=>no ?_ zH J⟩;unfold lq;grind
def pX(e:GE):GE:=⟨e.t,e.f,e.w⟩
def LP(e:GE):GE:=⟨e.f,e.t,1⟩
def Lo(e:GE)(b:al)(U:Nat)(h:ae):bN:=dI (.tuple ⟨[.agg ⟨[(e.f:X),(e.t:X),(e.w:X)]⟩,.bool b]⟩) U h
theorem aon:aE Q s 365 [.agg ⟨[(e.f:X),(e.t:X),(e.w:X)]⟩] h U (Lo (pX e) true U h):=by refine arO ?_;unfold adV;refine aG ?_;exact⟨rfl,aM,J⟩
theorem aoo:aE Q s 280 [.agg ⟨[(e.f:X),(e.t:X),(e.w:X)]⟩] h U (Lo (LP e) true U h):=by refine arN ?_;unfold adT;refine aG ?_;exact⟨rfl,aM,J⟩
def Dp(e:GE):al:=decide (e.f≠e.t)
theorem alt:aE Q s 276 [.agg ⟨[(e.f:X),(e.t:X),(e.w:X)]⟩] h U (Lo e (Dp e) U h):=by
 refine anS ?_;unfold abJ;refine aG ?_;refine⟨?_,aM,J⟩;have:(!((e.f:Int) == (e.t:Int)))=Dp e:=by
  unfold Dp
  grind
 grind
def MaJ(N cr cQ f:Nat)(k1:X)(p:GE->al)(m:GE->GE)(gs:aa GE)(U:Nat)(h:ae)(q:Nat)(aF:aa X)(ac:ae)(Y:Nat):Prop :=
 ∃(i:Nat) (o:X),q=gs.length-i/\i<=gs.length/\aF=[.func (.func f) ⟨[]⟩ ⟨[]⟩,bf cr,bf cQ,o,k1,(gs.length:X),(i:X)] /\
  u ac cr=some (.cells [(N:X),k1] false)/\u ac cQ=some (.cells [.int .i64 0,.slice none 0 0] false)/\eb ac o cR 3 (((gs.take i).filter p).map m) (U+1+1) Y/\aA U h ac/\U+1+1<=Y
theorem Rw{m:GE->GE}(aI:fj h U v cR gs)(d7:N<=2147483648)(bo:gs.length<=120)(jb:∀g∈(gs.filter p).map m,g7 N g)(bK:∀(e:GE) (h:ae) (U:Nat),aE Q s f [.agg ⟨[(e.f:X),(e.t:X),(e.w:X)]⟩] h U (Lo (m e) (p e) U h)):
  aE Q s 275 [.agg ⟨[(N:X),v]⟩,.func (.func f) ⟨[]⟩ ⟨[]⟩] h U (yU N ((gs.filter p).map m) U h):=by
 refine ayb ?_;obtain⟨a,cap,rfl,L⟩:=id aI;unfold ahn;refine aG ?_;have BJ:((gs.filter p).map m).length<=gs.length:=ab
 have b4:∀{o aX},aA U h (T (T h U o) (U+1) aX):=aM
 refine bE.mk (MaJ N U (U+1) f (.slice a gs.length cap) p m gs U h) gs.length ⟨0,_,rfl,J,rfl,ab,ab,.inl ab,b4,J⟩ ?_;rintro q _ Z nj ⟨i,o,rfl,ag,rfl,bP,dZ,S,hk,dv⟩;rw[avr];unfold adS;refine aG ?_;refine⟨λcb=>?_,λeG=>?_⟩
 ·obtain⟨e,b0⟩:=dH cb;obtain⟨_,b,aB,bG,c1,cs,aW,aU,aY⟩:=aI.at b0;cases aU;have qd:hB (some 3) (i*3) (a7 cR gs++cs) = .ok (.agg ⟨[(e.f:X),(e.t:X),(e.w:X)]⟩):=BI  (k:=3) (λ_=>rfl) b0;simp(disch:=omega)only[bk,(hk b aW).trans aY,qd,seval];refine(bK e _ _).mono ?_;rintro r E np ⟨rfl,K,P⟩;have D:aA nj Z E:=aM
  have cq:((gs.take (i+1)).filter p).map m=((gs.take i).filter p).map m++(if p e then[m e]else[]):=by
   rw[gW,b0,sv,iU]
   grind
  refine aG ?_;refine⟨λa6=>?_,λa6=>?_⟩
  ·refine mu  (k:=3)  (λ_=>rfl) (λ_=>rfl) J (S.F (λc Z E=>by rw[aq J,aq J,aq J,D c E]) J) J (m e) (aR _ _ _) rfl ?_ λB7 bY hs5 I=>?_
   ·grind
   ·refine⟨gs.length-(i+1),J,i+1,B7,rfl,J,by rw[cD J],?_,?_,by rw[cq,a6];exact hs5,λc L=>?_,J⟩
    ·rw[I _ J,aq J,aq J,aq J,D _ J];omega
    ·rw[I _ J,aq J,aq J,aq J,D _ J];omega
    ·rw[I _ J,aq J,aq J,aq J,D _ J];exact hk c L
  ·refine⟨gs.length-(i+1),J,i+1,o,rfl,J,by rw[cD J],?_,?_,?_,λc L=>?_,J⟩
   ·rw[aq J,aq J,D _ J];omega
   ·rw[aq J,aq J,D _ J];omega
   ·rw[cq,a6];simp only[nB,fg,hz];exact S.F (λc Z E=>by rw[aq J,aq J,D c E]) J
   ·rw[aq J,aq J,D _ J];exact hk c L
 ·have uk:i=gs.length:=J
  subst uk;rw[ic]at S;obtain⟨a2,bQ,c2,rfl⟩:=S.form;refine bl @bP ?_;refine(Qn (fj.of S.rd) d7 jb J).mono ?_;rintro r E np ⟨v2,cs,rfl,C,M,V,lh,K,P⟩;obtain⟨a3,bT,ci,rfl⟩:=C.form;have H8:=(K (U+1) J).trans dZ;refine bl @H8 ?_;refine⟨_,cs,rfl,?_,M,V,lh,λc L=>by rw[aq J,K c J];exact hk c L,J⟩;rcases C with C|⟨b,Z,E,e,aW⟩
  ·exact .inl C
  ·exact .inr ⟨b,J,E,e,ab⟩
def yC(gs:aa GE):aa GE:=(gs.filter λ_=>true).map pX
def GA(gs:aa GE):aa GE:=(gs.filter Dp).map id
def GV(gs:aa GE):aa GE:=(gs.filter λ_=>true).map LP
theorem aop(h:∀g∈gs,g7 N g):∀g∈yC gs,g7 N g:=λg C=>by obtain⟨e,D,rfl⟩:=f3.1 C;have:=h e ab;exact⟨this.2.1,this.1,this.2.2⟩
theorem ajP(h:∀g∈gs,g7 N g):∀g∈GA gs,g7 N g:=λg C=>by obtain⟨e,D,rfl⟩:=f3.1 C;exact h e ab
theorem alu(h:∀g∈gs,g7 N g):∀g∈GV gs,g7 N g:=λg C=>by obtain⟨e,D,rfl⟩:=f3.1 C;have:=h e ab;exact⟨this.1,this.2.1,by show(0:Int)<=1;omega,by show(1:Int)<=2147483647;omega⟩
theorem Ak{m:GE->GE}(gs:aa GE):((gs.filter p).map m).length<=gs.length:=ab
theorem Rx(Z:fj h U v cR gs)(d7:N<=2147483648)(bo:gs.length<=120)(L:∀g∈gs,g7 N g):
  aE Q s 274 [.agg ⟨[(N:X),v]⟩] h U (yU N (yC gs) U h):=by
 refine aya ?_;obtain⟨a,cap,rfl,a1⟩:=id Z;unfold ahm;refine aG ?_;have b4:∀{o aX},aA U h (T (T h U o) (U+1) aX):=aM
 refine(Rw   (Z.F b4 J) d7 bo (aop L) λe h U=>aon).mono ?_;rintro r V np ⟨v2,cs,rfl,C,D,E,M,K,P⟩;obtain⟨a3,bT,ci,rfl⟩:=C.form;have I:=K (U+1) J;rw[aR]at I;refine bl @I ?_;refine⟨_,cs,rfl,?_,D,E,iv M (cC _),aM,J⟩;rcases C with C|⟨b,h1,V,e,aW⟩
 ·exact .inl C
 ·exact .inr ⟨b,J,V,e,ab⟩
theorem ZY(Z:fj h U v cR gs)(d7:N<=2147483648)(bo:gs.length<=120)(L:∀g∈gs,g7 N g):
  aE Q s 182 [.agg ⟨[(N:X),v]⟩] h U (yU N (GA gs) U h):=by
 refine arL ?_;obtain⟨a,cap,rfl,a1⟩:=id Z;unfold simple;refine aG ?_;have b4:∀{o aX},aA U h (T (T h U o) (U+1) aX):=aM
 refine(Rw   (Z.F b4 J) d7 bo (ajP L) λe h U=>alt).mono ?_;rintro r V np ⟨v2,cs,rfl,C,D,E,M,K,P⟩;obtain⟨a3,bT,ci,rfl⟩:=C.form;have I:=K (U+1) J;rw[aR]at I;refine bl @I ?_;refine⟨_,cs,rfl,?_,D,E,iv M (cC _),aM,J⟩;rcases C with C|⟨b,h1,V,e,aW⟩
 ·exact .inl C
 ·exact .inr ⟨b,J,V,e,ab⟩
theorem ab5(Z:fj h U v cR gs)(d7:N<=2147483648)(bo:gs.length<=120)(L:∀g∈gs,g7 N g):
  aE Q s 188 [.agg ⟨[(N:X),v]⟩] h U (yU N (GV gs) U h):=by
 refine avq ?_;obtain⟨a,cap,rfl,a1⟩:=id Z;unfold plain;refine aG ?_;have b4:∀{o aX},aA U h (T (T h U o) (U+1) aX):=aM
 refine(Rw   (Z.F b4 J) d7 bo (alu L) λe h U=>aoo).mono ?_;rintro r V np ⟨v2,cs,rfl,C,D,E,M,K,P⟩;obtain⟨a3,bT,ci,rfl⟩:=C.form;have I:=K (U+1) J;rw[aR]at I;refine bl @I ?_;refine⟨_,cs,rfl,?_,D,E,iv M (cC _),aM,J⟩;rcases C with C|⟨b,h1,V,e,aW⟩
 ·exact .inl C
 ·exact .inr ⟨b,J,V,e,ab⟩
theorem ZZ{az:Type}{enc:az->aa X}:∀(l m:aa az),a7 enc (l++m)=a7 enc l++a7 enc m
 | [],m=>rfl
 |x::l,m=>by show enc x++a7 enc (l++m)=enc x++a7 enc l++a7 enc m;rw[ZZ l m,kl]
theorem Xv:∀l:aa GE,d4 (a7 cR l)=true
 | []=>rfl
 |x::l=>by have g:=Xv l;show(gN (.int .i64 (x.f:Int))&&(gN (.int .i64 (x.t:Int))&&(gN (.int .i64 x.w)&&d4 (a7 cR l))))=true;rw[g];rfl
theorem aoq{b k n:Nat}{g y:aa GE}(P:u h b=some (.cells (a7 cR g++cs) false))(hk:g.length=k)(bw:k+y.length<=n)(Z:cs.length=(n-k)*3)(aI:fj h U v2 cR y):
  ∃ac,dM 3 h U (.slice (some ⟨b,0,some 3⟩) k n) v2 = .ok (.val (.slice (some ⟨b,0,some 3⟩) (k+y.length) n) ac U)/\u ac b=some (.cells (a7 cR (g++y)++cs.drop (y.length*3)) false)/\∀c,c≠b->u ac c=u h c:=by
 obtain⟨E,c2,rfl,a1⟩:=aI
 by_cases L:y=[]
 ·subst L;refine⟨h,?_,ab,ab⟩;have bc:∀(K:aa X->R fr),lr h E (Nat.mul 0 3) K=K []:=λK=>by
   cases E <;> rfl
  show lr h E (Nat.mul 0 3) (λnew=>gZ 3 h U (some ⟨b,0,some 3⟩) k n 0 new)=_;rw[bc];unfold gZ;rw[show Nat.ble (Nat.add k 0) n=true from zV J];rfl
 ·obtain⟨b3,aB,bG,zk,eR,rfl,aY⟩:=a1 L;have V:0<y.length:=ab
  have C:=fN (enc:=cR) (k:=3) (λ_=>rfl) (l:=y);have I:=fN (enc:=cR) (k:=3) (λ_=>rfl);show ∃ac,lr h (some ⟨b3,0,aB⟩) (Nat.mul y.length 3) (λnew=>gZ 3 h U (some ⟨b,0,some 3⟩) k n y.length new)=_/\_;rw[show Nat.mul y.length 3=y.length*3 from rfl,rD aY J ab,oe,<-C,List.take_left];unfold gZ;rw[show Nat.ble (Nat.add k y.length) n=true from zV bw];obtain⟨x,r,D⟩:∃x r,a7 cR y=x::r:=by
   cases bK:a7 cR y with
   |nil=>grind
   |cons x r=>grind
  have M:ol h b (Nat.add 0 (Nat.mul k 3)) (a7 cR y) = .ok (T h b (.cells (a7 cR (g++y)++cs.drop (y.length*3)) false)):=by
   rw[show Nat.add 0 (Nat.mul k 3)=k*3 from iE _,CH P (Xv y) ab];have aU:(a7 cR g++cs).take (k*3)=a7 cR g:=ab
   have aK:(a7 cR g++cs).drop (k*3+(a7 cR y).length)=cs.drop (y.length*3):=by rw[<-hk,<-I,C,Fb]
   rw[aU,aK,ZZ]
  refine⟨T h b (.cells (a7 cR (g++y)++cs.drop (y.length*3)) false),?_,ab,ab⟩;rw[D]at M ⊢;show R.bind (ol h b (Nat.add 0 (Nat.mul k 3)) (x::r)) _=_;rw[M];rfl
theorem ayr:Hp Q 22 (.slice none 0 0) = .ok (.int .i64 0):=by kernel_rfl
theorem ze1:rF Tryz.prog 22=some 124:=by kernel_rfl
theorem ze2:jO Tryz.prog 124=some 3:=by kernel_rfl
theorem ze3:oj Tryz.prog 124=some [.int .i64 0,.int .i64 0,.int .i64 0]:=by kernel_rfl
theorem ze4:yq Tryz.prog 124=true:=by kernel_rfl
theorem ze5:rJ Tryz.prog (some 3)=true:=by kernel_rfl
theorem aor(n:Nat)(z:aa X):(gO n z).length=n*z.length:=by
 induction n with
 |zero=>simp[gO]
 |succ n g=>simp[gO,g,z8,jK];omega
theorem apz{n:Nat}(D:0<n)(C:n<=1000):nE Tryz.prog .append [22,3] h U [.slice none 0 0,(n:X)] = .ok (.val (.slice (some ⟨U,0,some 3⟩) n n) (T h U (.cells (gO n [.int .i64 0,.int .i64 0,.int .i64 0]) false)) (U+1)):=by
 show R.of "append" (rF Tryz.prog 22) (λe=>R.of "append" (jO Tryz.prog e) (λs=>R.of "append" (oj Tryz.prog e) (λz=>bif Nat.beq (jo z) s&&yq Tryz.prog e&&rJ Tryz.prog (some 3)then Gk z s h U (.slice none 0 0) (n:X)else .no "append - element")))=_;rw[ze1];show R.of "append" (jO Tryz.prog 124) (λs=>R.of "append" (oj Tryz.prog 124) (λz=>bif Nat.beq (jo z) s&&yq Tryz.prog 124&&rJ Tryz.prog (some 3)then Gk z s h U (.slice none 0 0) (n:X)else .no "append - element"))=_;rw[ze2,ze3,ze4,ze5];show(bif Nat.ble n 1000000 then gZ 3 h U none 0 0 n (gO n [.int .i64 0,.int .i64 0,.int .i64 0])else .no "append")=_;rw[show Nat.ble n 1000000=true from zV J];unfold gZ;rw[show Nat.ble (Nat.add 0 n) 0=false from by
  cases g:Nat.ble (Nat.add 0 n) 0 with
  |false=>rfl
  |true=>have:=lX g;grind]
 rw[show(Nat.ble (Nat.mul (Nat.add 0 n) 3) 1000000&&Nat.ble (Nat.add 0 n) 1000000)=true from by
  rw[show Nat.add 0 n=n from iE n];simp only[eo,pK]
  grind]
 show pT h U 3 _ (Nat.add 0 n)=_;rw[show Nat.add 0 n=n from iE n];exact pN J
theorem avO{n:Nat}(C:n<=1000):aE Q s 364 [.slice none 0 0,(n:X)] h U (λr ac Y=>(n=0/\r = .slice none 0 0/\ac=h/\Y=U)\/(0<n/\r = .slice (some ⟨U,0,some 3⟩) 0 n/\(∃cs,u ac U=some (.cells cs false)/\cs.length=n*3)/\aA U h ac/\Y=U+1)):=by
 refine ayc ?_;unfold grow;rw[ayr];have D:IntKind.wrap .i64 (0-((0:Nat):Int))=0:=by rfl
 have E:IntKind.wrap .i64 ((n:Int)-0)=(n:Int):=by rw[Int.sub_zero];exact ie n J
 refine tN @D @E ?_;refine⟨J,λ_=>⟨λI=>?_,J⟩⟩;rw[show gi 3 (.slice none 0 0) none (some (.int .i64 0)) none = .ok (.slice none 0 0)from rfl,tK,show Q=Tryz.prog from rfl,apz J C];show af (gi 3 (.slice (some ⟨U,0,some 3⟩) n n) none (some (((0:Nat):X))) none) _;have g:gi 3 (.slice (some ⟨U,0,some 3⟩) n n) none (some (((0:Nat):X))) none = .ok (.slice (some ⟨U,0,some 3⟩) 0 n):=by
  obtain⟨m,rfl⟩:∃m,n=m+1:=⟨n-1,J⟩
  show k6 3 (some ⟨U,0,some 3⟩) (m+1) false (m+1) 0 0=_;unfold k6;rw[show(Nat.ble (m+1) (m+1)&&(Nat.ble 0 (m+1)&&Nat.ble 0 0))=true by simp only[eo,pK];omega];rfl
 rw[g,tK];exact .inr ⟨J,rfl,⟨_,aR _ _ _,by rw[aor];rfl⟩,aM,rfl⟩
def nq(dK dr:aa GE):Nat->aa GE
 |0=>[]
 |1=>dK
 |_=>dK++dr
def aAd(dK dr:aa GE)(p:Nat)(h:ae)(U:Nat)(m:Nat)(aF:aa X)(ac:ae)(Y:Nat):Prop :=
 ∃i,m=2-i/\i<=2/\aF=[.slice (some ⟨p,0,none⟩) 2 2,.int .i64 ((nq dK dr i).length:Int),.slice (some ⟨p,0,none⟩) 2 2,.int .i64 2,(i:X)]/\ac=h/\Y=U
def T8(h:ae)(ap ag n:Nat)(acc:aa GE)(o:X):Prop:=(n=0/\acc=[]/\o = .slice none 0 0)\/∃b cs,ap<=b/\b<ag/\o = .slice (some ⟨b,0,some 3⟩) acc.length n/\u h b=some (.cells (a7 cR acc++cs) false)/\cs.length=(n-acc.length)*3
def ahA(dK dr:aa GE)(n p:Nat)(h:ae)(U:Nat)(m:Nat)(aF:aa X)(ac:ae)(Y:Nat):Prop :=
 ∃(i:Nat) (o:X),m=2-i/\i<=2/\aF=[o,.slice (some ⟨p,0,none⟩) 2 2,.int .i64 2,(i:X)]/\T8 ac U Y n (nq dK dr i) o/\aA U h ac/\U<=Y
theorem aos{p c:Nat}{dK dr:aa GE}(a6:u h p=some (.cells [v1,v2] bG))(H9:p<U)(h1:fj h U v1 cR dK)(ao:fj h U v2 cR dr)(bo:dK.length+dr.length<=1000):
  aE Q s 273 [.slice (some ⟨p,0,none⟩) 2 2] h U (λr ac Y=>fj ac Y r cR (dK++dr)/\aA U h ac/\U<=Y):=by
 refine arM ?_;obtain⟨aD,c1,rfl,Ee⟩:=id h1;obtain⟨a2,c2,rfl,oG⟩:=id ao;unfold adR
 refine m6 ?_;refine bE.mk (aAd dK dr p h U) 2 ⟨0,rfl,J,rfl,rfl,rfl⟩ ?_;rintro m _ aT vN ⟨i,rfl,ag,rfl,aU,aK⟩;rw[aU,aK,anQ];unfold ZA
 match i,ag with
 |0,_ =>
  have w:IntKind.wrap .i64 (((nq dK dr 0).length:Int)+(dK.length:Int))=((nq dK dr 1).length:Int):=by rw[show((nq dK dr 0).length:Int)+(dK.length:Int)=(dK.length:Int) by simp[nq]];exact ie _ J
  refine tN @a6 @w ?_;exact⟨λ_=>⟨J,λ_=>⟨1,J,1,rfl,J,rfl,rfl,rfl⟩⟩,λh=>absurd J h⟩
 |1,_ =>
  have w:IntKind.wrap .i64 (((nq dK dr 1).length:Int)+(dr.length:Int))=((nq dK dr 2).length:Int):=by rw[show((nq dK dr 1).length:Int)+(dr.length:Int)=((dK.length+dr.length:Nat):Int) by simp[nq]];rw[ie _ J];simp[nq]
  refine tN @a6 @w ?_;exact⟨λ_=>⟨J,λ_=>⟨0,J,2,rfl,J,rfl,rfl,rfl⟩⟩,λh=>absurd J h⟩
 |2,_ =>
  refine m6 ?_;refine⟨λh=>absurd h J,λ_=>?_⟩;have I:(nq dK dr 2).length=dK.length+dr.length:=by simp[nq]
  refine(avO J).mono ?_;intro r a9 V aY;generalize bw:(nq dK dr 2).length=n at aY I;have st:T8 a9 U V n [] r/\aA U h a9/\U<=V:=by
   rcases aY with⟨au,rfl,rfl,rfl⟩|⟨au,rfl,⟨cs,P,L⟩,hk,rfl⟩
   ·exact⟨.inl ab,aM,J⟩
   ·exact⟨.inr ⟨U,cs,J,J,rfl,P,J⟩,hk,J⟩
  obtain⟨st,g8,g5⟩:=st;refine bE.mk (ahA dK dr n p h U) 2 ⟨0,r,rfl,J,rfl,st,g8,g5⟩ ?_;rintro m _ bY E ⟨i,o,rfl,ag,rfl,st,D,g⟩;rw[anR];unfold ZB;have BK:=(D p H9).trans a6;have step:∀(j:Nat) (y:aa GE) (sm:X),fj h U sm cR y->nq dK dr (j+1)=nq dK dr j++y->(nq dK dr (j+1)).length<=n->T8 bY U E n (nq dK dr j) o->j+1<=2 ->
    dG (dO (dM 3 bY E o sm)) λlG h24 n25=>af (bin Q .add 3 (j:X) (.int .i64 1)) λqh=>∃bD,bD<2-j/\ahA dK dr n p h U bD [lG,.slice (some ⟨p,0,none⟩) 2 2,.int .i64 2,qh] h24 n25:=by
   intro j y sm ck b0 K st b5;rcases st with⟨ky,C,rfl⟩|⟨b,cs,Z,M,rfl,P,L⟩
   ·have hy0:y=[]:=by
     rw[b0,C,ky]at K
     grind
    subst hy0;obtain⟨a3,ci,rfl,_⟩:=ck;have hv:dM 3 bY E (.slice none 0 0) (.slice a3 ([]:aa GE).length ci) = .ok (.val (.slice none 0 0) bY E):=by cases a3 <;> rfl
    rw[hv];simp(disch:=omega)only[bk,↓reduceIte,Nat.reduceAdd,Nat.reduceSub,Nat.reduceMul,Nat.reduceLT,Nat.reduceLeDiff,Nat.reduceEqDiff,Int.reduceBEq,Int.reduceLT,Int.reduceNeg,dO,A7,cD (J:j<1000000000000)];exact⟨2-(j+1),J,j+1,_,rfl,b5,rfl,.inl ab,D,g⟩
   ·rw[b0,ib]at K;obtain⟨cy,hy,Ez,xv⟩:=aoq  P rfl J L (ck.F D g);rw[hy];simp(disch:=omega)only[bk,↓reduceIte,Nat.reduceAdd,Nat.reduceSub,Nat.reduceMul,Nat.reduceLT,Nat.reduceLeDiff,Nat.reduceEqDiff,Int.reduceBEq,Int.reduceLT,Int.reduceNeg,dO,A7,cD (J:j<1000000000000)];refine⟨2-(j+1),J,j+1,_,rfl,b5,rfl,.inr ⟨b,cs.drop (y.length*3),Z,M,?_,?_,?_⟩,aM,g⟩
    all_goals grind
  match i,ag with
  |0,_ =>
   refine mv @BK ?_;exact⟨λ_=>step 0 dK _ h1 rfl (by rw[I];simp[nq]) st J,λh=>absurd J h⟩
  |1,_ =>
   refine mv @BK ?_;exact⟨λ_=>step 1 dr _ ao rfl ab st J,λh=>absurd J h⟩
  |2,_ =>
   refine m6 ?_;refine⟨λh=>absurd h J,λ_=>⟨?_,D,g⟩⟩;rcases st with⟨ky,C,rfl⟩|⟨b,cs,Z,M,rfl,P,L⟩
   ·have C:dK++dr=[]:=C;rw[C];exact⟨none,0,rfl,λh=>absurd rfl h⟩
   ·exact⟨some ⟨b,0,some 3⟩,n,rfl,λ_=>⟨b,some 3,false,cs,M,rfl,P⟩⟩
theorem aeq(aI:fj h U v cR gs)(d7:N<=2147483648)(bo:gs.length<=60)(Z:∀g∈gs,g7 N g):
  aE Q s 181 [.agg ⟨[(N:X),v]⟩] h U (λr ac Y=>∃D,kL ((yC gs).map dJ) (D.map dJ)/\D.length<=gs.length/\(∀g∈D,g7 N g)/\yU N (gs++D) U h r ac Y):=by
 refine ax9 ?_;obtain⟨a,cap,rfl,a1⟩:=id aI;unfold yR;refine aG ?_;have b4:∀{o aX},aA U h (T (T h U o) (U+1) aX):=aM
 refine(Rx (aI.F b4 J) d7 J Z).mono ?_;rintro r h1 M ⟨v1,D,rfl,l5,htc,E,ug,L,V⟩;have P:D.length<=gs.length:=iv ug (Ak gs);have cH:=L U J;rw[aq J,aR]at cH;have dZ:=L (U+1) J;rw[aR]at dZ;obtain⟨a3,bT,ci,rfl⟩:=l5.form;refine⟨V,?_⟩;have cM:aA U h h1:=aM
 refine cN @cH @Pa ?_;have ha:∀{o},aA M h1 (T h1 M o):=aM
 refine(aos (c:=2) (aR _ _ _) J ((aI.F cM J).F ha J) ((fj.of l5.rd).F ha J) J).mono ?_;rintro r aT vN ⟨bY,eY,ga⟩;obtain⟨bA,v8,rfl,Ma⟩:=id bY;have zl:=(eY U J).trans ((aq J).trans cH);have H8:=(eY (U+1) J).trans ((aq J).trans dZ);refine⟨ga,?_⟩;refine cN @zl @Pa ?_;have K:∀g∈gs++D,g7 N g:=λg aY=>by
  rcases he.1 aY with aY|aY
  ·exact Z g aY
  ·exact E g aY
 refine(Qn bY d7 K ab).mono ?_;rintro r cy rc ⟨IZ,cs,rfl,C,I,Ba,lh,hX,kN⟩;obtain⟨ba,n7,jh,rfl⟩:=C.form;have aAe:=(hX (U+1) J).trans H8;refine⟨kN,?_⟩;refine bl @aAe ?_;refine⟨D,htc,P,E,_,cs,rfl,?_,I,Ba,lh,aM,J⟩;rcases C with C|⟨b,h1,ao,e,aW⟩
 ·exact .inl C
 ·exact .inr ⟨b,J,ao,e,ab⟩
def Lp(r c:Int)(aD a2 a3:aw Addr)(a5 bQ bT c1 c2 ci:Nat):X:=.agg ⟨[(r:X),(c:X),.slice aD a5 c1,.slice a2 bQ c2,.slice a3 bT ci]⟩
def ays(r:X):Prop:=∃(x y:Int) (aD a2 a3:aw Addr) (a5 bQ bT c1 c2 ci:Nat),r=Lp x y aD a2 a3 a5 bQ bT c1 c2 ci
theorem asq(C:N<=4096):aE Q s 367 [(N:X),(N:X)] h U (λr ac Y=>r = .agg ⟨[(N:X),(N:X),.slice (some ⟨U+1,0,none⟩) (N+1) (N+1),.slice none 0 0,.slice none 0 0]⟩/\u ac (U+1)=some (.cells (fd (List.replicate (N+1) 0)) false)/\aA U h ac/\Y=U+1+1):=by
 refine adW ?_;unfold Sf;have g:List.replicate (N+1) (Value.int .i64 0)=fd (List.replicate (N+1) 0):=by simp[fd]
 refine cN (cD (J:N<1000000000000)) @g ?_;exact aM
def yW(h:ae)(v1 v2:X)(dK dr:aa Int)(ap ag:Nat):Prop :=
 (dK=[]/\dr=[]/\v1 = .slice none 0 0/\v2 = .slice none 0 0)\/∃dL b3,dL≠b3/\ap<=dL/\dL<ag/\ap<=b3/\b3<ag/\v1 = .slice (some ⟨dL,0,some 1⟩) dK.length dK.length/\v2 = .slice (some ⟨b3,0,some 1⟩) dr.length dr.length /\
  u h dL=some (.cells (fd dK) false)/\u h b3=some (.cells (fd dr) false)
theorem yW.hE(C:yW h v1 v2 dK dr ap ag):∃D g,fA h c4 1 v1 dK D/\fA h c4 1 v2 dr g/\(∀b,D=some b->ap<=b/\b<ag/\g≠some b)/\∀b,g=some b->ap<=b/\b<ag:=by
 rcases C with⟨rfl,rfl,rfl,rfl⟩|⟨L,M,K,V,ao,P,Z,rfl,rfl,I,E⟩
 ·exact⟨none,none,fA.nil,fA.nil,ab⟩
 ·rw[<-iF]at I E;exact⟨some L,some M,.own I,.own E,ab,ab⟩
theorem yW.form(g:yW h v1 v2 dK dr ap ag):∃E I D C K c2,v1 = .slice E I D/\v2 = .slice C K c2:=by
 rcases g with⟨_,_,rfl,rfl⟩|⟨L,M,_,_,_,_,_,rfl,rfl,_⟩
 all_goals grind
def aAf(N cr fl jE ap:Nat)(VL:X)(ai:aa GE)(au:ae)(U:Nat)(m:Nat)(aF:aa X)(ac:ae)(Y:Nat):Prop :=
 ∃(i:Nat) (S:aa Int) (e6 nW:X),m=ai.length-i/\i<=ai.length/\aF=[(N:X),bf cr,bf fl,VL,(ai.length:X),(i:X)] /\
  u ac fl=some (.cells [(N:X),(N:X),.slice (some ⟨jE,0,none⟩) (N+1) (N+1),e6,nW] false)/\u ac jE=some (.cells (fd S) false)/\S.length=N+1/\(∀x∈S,0<=x/\x<=(i:Int)) /\
  yW ac e6 nW ((ai.take i).map λe=>(e.t:Int)) ((ai.take i).map GE.w) ap Y/\(∀c,c<ap->c≠fl->c≠jE->u ac c=u au c)/\ap<=Y
def aAg(N cr fl jE ap:Nat)(e6 nW:X)(au:ae)(U:Nat)(m:Nat)(aF:aa X)(ac:ae)(Y:Nat):Prop :=
 ∃(i:Nat) (S:aa Int),m=N-i/\i<=N/\aF=[bf cr,bf fl,(N:X),(i:X)] /\
  u ac fl=some (.cells [(N:X),(N:X),.slice (some ⟨jE,0,none⟩) (N+1) (N+1),e6,nW] false)/\u ac jE=some (.cells (fd S) false)/\S.length=N+1/\(∀(k:Nat) (x:Int),S[k]? = some x->0<=x/\(x<=120\/(k<=i/\x<=120*((k:Int)+1)))) /\
  (∀c,c≠jE->u ac c=u au c)/\Y=U
def vl(h:ae)(ap ag:Nat)(r:X):Prop:=∃(x y:Int) (v1 v2 v3:X) (st cl B1:aa Int),r = .agg ⟨[(x:X),(y:X),v1,v2,v3]⟩/\eJ h ap ag v1 c4 st/\eJ h ap ag v2 c4 cl/\eJ h ap ag v3 c4 B1/\st.length<=4097/\cl.length<=120/\B1.length<=120
theorem vl.form(H:vl h ap ag r):ays r:=by obtain⟨x,y,v1,v2,I,st,cl,g,rfl,⟨E,D,rfl,_⟩,⟨C,c2,rfl,_⟩,⟨K,ci,rfl,_⟩,_⟩:=H;exact⟨_,_,_,_,_,_,_,_,_,_,_,rfl⟩
theorem vl.F{h ac:ae}{ap ag ec dk:Nat}{r:X}(H:vl h ap ag r)(C:∀b,ap<=b->b<ag->u ac b=u h b)(g:ec<=ap)(D:ag<=dk):vl ac ec dk r:=by obtain⟨x,y,v1,v2,L,st,cl,E,rfl,I,K,M,l⟩:=H;exact⟨x,y,v1,v2,L,st,cl,E,rfl,I.F C g D,K.F C g D,M.F C g D,l⟩
theorem GW:eJ h ap ag (.slice none 0 0) c4 []:=⟨none,0,rfl,λe=>absurd rfl e⟩
theorem vl.zero:vl h ap ag (.agg ⟨[.int .i64 0,.int .i64 0,.slice none 0 0,.slice none 0 0,.slice none 0 0]⟩):=⟨0,0,_,_,_,[],[],[],rfl,GW,GW,GW,by simp,by simp,by simp⟩
theorem yW.gv(g:yW h v1 v2 dK dr ap ag):eJ h ap ag v1 c4 dK/\eJ h ap ag v2 c4 dr:=by
 rcases g with⟨rfl,rfl,rfl,rfl⟩|⟨L,M,K,I,V,E,P,rfl,rfl,D,C⟩
 ·exact⟨GW,GW⟩
 ·rw[<-iF]at D C;exact⟨⟨_,_,rfl,λ_=>⟨L,_,_,I,V,rfl,D⟩⟩,⟨_,_,rfl,λ_=>⟨M,_,_,E,P,rfl,C⟩⟩⟩
def avP(U:Nat)(h:ae):bN:=λr ac Y=>vl ac U Y r/\aA U h ac/\U<=Y
theorem ass{C:aa GE}(aI:fj h U v cR C)(d7:N<=4096)(bo:C.length<=120)(jb:∀g∈C,g7 N g):
  aE Q s 281 [(N:X),(N:X),v] h U (avP U h):=by
 refine adU ?_;obtain⟨a,cap,rfl,a1⟩:=id aI;unfold Se;refine aG ?_;refine(asq d7).mono ?_;rintro r h1 _ ⟨rfl,g6,K,rfl⟩;have cH:=K U J;rw[aR]at cH;refine aG ?_;refine bE.mk (aAf N U (U+1+1+1) (U+1+1) (U+1+1+1+1) (.slice a C.length cap) C h1 U) C.length ⟨0,List.replicate (N+1) 0,_,_,rfl,J,rfl,ab,ab,by simp,ab,.inl ⟨rfl,rfl,rfl,rfl⟩,ab,J⟩ ?_;rintro m _ ao D ⟨i,S,e6,nW,rfl,ag,rfl,Z,hw,L,E,P,bK,dv⟩;obtain⟨e7,db,qy,Cb,zI,Nq⟩:=P.hE;obtain⟨aD,a5,c1,a2,bQ,c2,rfl,rfl⟩:=P.form;rw[abK];unfold Qc;refine aG ?_;refine⟨λcb=>?_,λeG=>?_⟩
 ·obtain⟨e,b0⟩:=dH cb;have hem:=jb e ab;have s8:e.f<N:=hem.1;obtain⟨_,b,aB,bG,dh,cs,aW,aU,aY⟩:=aI.at b0;cases aU;have jy:=(bK b J J J).trans ((K b J).trans ((aq J).trans aY));have qd:hB (some 3) (i*3) (a7 cR C++cs) = .ok (.agg ⟨[(e.f:X),(e.t:X),.int .i64 e.w]⟩):=BI  (k:=3) (λ_=>rfl) b0;obtain⟨x,V⟩:=dH (l:=S) (i:=e.f+1) J;have T9:=E x ab;have M:IntKind.wrap .i64 (x+1)=x+1:=jM J J;simp(disch:=omega)only[bk,jy,qd,Z,hw,cD (J:e.f<1000000000000),ix V,M,seval];refine⟨J,?_⟩;have lh:((C.take i).map λe=>(e.t:Int)).length=i:=ab
  have Ea:((C.take i).map GE.w).length=i:=ab
  refine wG (qy.F λc a1=>ab) (aR _ _ _) J λaT Ey I=>?_;have Ua:u aT (U+1+1+1)=some (.cells [(N:X),(N:X),.slice (some ⟨U+1+1,0,none⟩) (N+1) (N+1),.slice aD a5 c1,.slice a2 bQ c2] false):=ab
  have Ub:u aT D=some (.cells [(e.f:X),(e.t:X),(e.w:X)] false):=ab
  refine cN @Ua @Ub ?_;refine wG (Cb.F λc a1=>?_) (aR _ _ _) J λa9 Mv ul=>?_
  ·grind
  have Uc:u a9 (U+1+1+1)=some (.cells [(N:X),(N:X),.slice (some ⟨U+1+1,0,none⟩) (N+1) (N+1),.slice (some ⟨D+1+1,0,some 1⟩) (((C.take i).map λe=>(e.t:Int)).length+1) (((C.take i).map λe=>(e.t:Int)).length+1),.slice a2 bQ c2] false):=ab
  refine bl @Uc ?_;have pk:C.take (i+1)=C.take i++[e]:=by rw[gW,b0];rfl
  refine⟨C.length-(i+1),J,i+1,S.set (e.f+1) (x+1),_,_,rfl,J,by rw[cD J],aR _ _ _,?_,ab,λz c0=>?_,.inr ⟨D+1+1,D+1+1+1+1,J,J,J,J,J,?_,?_,?_,?_⟩,λc h1 ao aT=>?_,J⟩
  ·grind
  ·grind
  ·grind
  ·grind
  ·grind
  all_goals grind
 ·obtain⟨Nr,Ns⟩:=P.gv;have uk:i=C.length:=J
  subst uk;rw[ic]at Nr Ns;refine bE.mk (aAg N U (U+1+1+1) (U+1+1) (U+1+1+1+1) (.slice aD a5 c1) (.slice a2 bQ c2) ao D) N ⟨0,S,rfl,J,rfl,Z,hw,L,λk x V=>?_,λ_ _=>rfl,rfl⟩ ?_
  ·have:=E x (kk V);omega
  rintro m _ aT _ ⟨k,S,rfl,hk,rfl,_,hw,L,E,I,rfl⟩;have Z:=(I (U+1+1+1) J).trans Z;rw[abL];unfold Qd
  by_cases Ud:k<N
  ·obtain⟨x,V⟩:=dH (l:=S) (i:=k+1) J;obtain⟨y,ck⟩:=dH (l:=S) (i:=k) J;have T9:=E _ x V;have hyb:=E _ y ck;have M:IntKind.wrap .i64 (x+y)=x+y:=jM J J;simp(disch:=omega)only[bk,show(k:Int)<(N:Int) by omega,Ud,Z,hw,cD (J:k<1000000000000),ix V,ix ck,M,seval];refine⟨⟨J,?_⟩,λh=>absurd trivial h⟩;refine⟨N-(k+1),J,k+1,S.set (k+1) (x+y),rfl,J,rfl,?_,aR _ _ _,ab,λj z c0=>?_,λc aT=>ab,rfl⟩
   ·grind
   ·rw[uN]at c0
    split at c0
    ·rename_i b5
     subst b5
     split at c0
     ·cases c0;omega
     omega
    grind
  ·have:k=N:=J
   subst this;have i2:=(I U J).trans ((bK U J J J).trans cH);refine cN @Z @i2 ?_;refine⟨λh=>absurd h J,λ_=>⟨⟨_,_,_,_,_,S,_,_,rfl,⟨_,_,by rw[L],λ_=>⟨U+1+1,none,false,J,J,rfl,?_⟩⟩,Nr.F ?_ J (cC _),Ns.F ?_ J (cC _),J,ab,ab⟩,λc a1=>?_,J⟩⟩
   ·rw[aq J,iF];omega
   ·grind
   ·grind
   ·rw[aq J,I c J,bK c J J J,K c J,aq J]
def Hy(g:GE):hZ:=((g.f:Int),(g.t:Int),g.w)
theorem Yu:∀l:aa GE,a7 cR l=a7 iI (l.map Hy)
 | []=>rfl
 |x::l=>by show cR x++a7 cR l=iI (Hy x)++a7 iI (l.map Hy);rw[Yu l];rfl
theorem avQ(E:fj h U v cR gs):fj h U v iI (gs.map Hy):=by obtain⟨a,cap,rfl,C⟩:=E;refine⟨a,cap,ab,λK=>?_⟩;obtain⟨b,aB,bG,cs,g,D,I⟩:=C ab;exact⟨b,aB,bG,cs,g,D,by rw[<-Yu];omega⟩
theorem Pt(P:fj h U v cR gs)(V:N<=4096)(D:∀g∈gs,g7 N g)(Z:gs.length<=120):aE Q s 83 [.agg ⟨[(N:X),v]⟩] h U (dI (.int .i64 0) U h):=by
 have L:GU (N:Int) (gs.map Hy):=by
  refine⟨J,J,ab,λe I C=>?_,λe I C=>?_⟩
  ·obtain⟨g,E,rfl⟩:=f3.1 I;obtain⟨K,M,_⟩:=D g E;have C:(g.f:Int)<0\/(N:Int)<=g.f\/(g.t:Int)<0\/(N:Int)<=g.t:=C;omega
  ·obtain⟨g,E,rfl⟩:=f3.1 I;obtain⟨_,_,K,M⟩:=D g E;have C:g.w<0\/2147483647<g.w:=C;omega
 have:=Qo (s:=s) (n:=(N:Int)) (avQ P);rw[Kl.2 L]at this;exact this
theorem aga{cs:aa GE}(g:cs[i]? = some e):hB (some 3) (i*3) (a7 cR cs) = .ok (.agg ⟨[(e.f:X),(e.t:X),(e.w:X)]⟩):=Ew  (k:=3) (λ_=>rfl) g
def CgJ(cr cQ N:Nat)(gV aCX:X)(ai:aa GE)(ap:Nat)(h:ae)(m:Nat)(aF:aa X)(ac:ae)(Y:Nat):Prop :=
 ∃(i:Nat) (o:X),m=ai.length-i/\i<=ai.length/\aF=[bf cr,bf cQ,o,gV,(ai.length:X),(i:X)]/\eb ac o cR 3 (ai.take i) ap Y/\aA ap h ac/\ap<=Y
def D3(e:Int)(U:Nat)(h:ae):bN:=λr ac Y=>∃m,r = .tuple ⟨[m,(e:X)]⟩/\vl ac U Y m/\aA U h ac/\U<=Y
theorem avR(aI:fj h U v cR gs)(d7:N<=4096)(K:∀g∈gs,g7 N g)(bo:gs.length<=120):aE Q s 189 [.agg ⟨[(N:X),v]⟩] h U (D3 0 U h):=by
 refine afR ?_;obtain⟨a,cap,rfl,a1⟩:=id aI;unfold SZ;refine aG ?_;have b4:∀{o aX},aA U h (T (T h U o) (U+1) aX):=aM
 refine(Pt (aI.F b4 J) d7 K bo).mono ?_;rintro r h1 nj ⟨rfl,E,fi⟩;have cH:=E U J;rw[aq J,aR]at cH;have dZ:=E (U+1) J;rw[aR]at dZ;have cM:aA U h h1:=aM
 refine bl @cH ?_;refine(Rx (aI.F cM J) J bo K).mono ?_;rintro r ao np ⟨v2,D,rfl,l5,htc,L,ug,I,f5⟩;have aAh:D.length<=gs.length:=iv ug (Ak gs);obtain⟨a3,ci,rfl,Z⟩:=id l5.gv;refine aG ?_;refine bE.mk (CgJ U (U+1) N (.slice a3 D.length ci) .nilFunc D np ao) D.length ⟨0,_,rfl,J,rfl,.inl ab,aM,J⟩ ?_;rintro m _ aT vN ⟨i,o,rfl,ag,rfl,S,C,ga⟩;rw[adQ];unfold Rs;refine aG ?_;refine⟨λcb=>?_,λeG=>?_⟩
 ·obtain⟨e,b0⟩:=dH cb;obtain⟨b,aB,bG,g6,eR,rfl,aW⟩:=Z ab;have mK:=(C b eR).trans aW;simp(disch:=omega)only[bk,mK,aga b0,seval];refine mu  (k:=3)  (λ_=>rfl) (λ_=>rfl) J (S.F ab J) J e (aR _ _ _) rfl ab λB7 bY P V=>?_;have pk:D.take (i+1)=D.take i++[e]:=by rw[gW,b0];rfl
  exact⟨D.length-(i+1),J,i+1,B7,rfl,J,by rw[cD J],by rw[pk];exact P,λc a1=>by rw[V c a1,aq J,aq J,aq J];exact C c a1,J⟩
 ·have uk:i=D.length:=J
  subst uk;rw[ic]at S;have Ue:=(C U J).trans ((I U J).trans cH);have Uf:=(C (U+1) J).trans ((I (U+1) J).trans dZ);refine bl @Ue ?_;refine(ass (fj.of S.rd) d7 J L).mono ?_;rintro r cy rc ⟨ef,hX,kN⟩;obtain⟨x,y,dL,b3,d8,a5,bQ,bT,c1,c2,hP,rfl⟩:=ef.form;have M:=(hX (U+1) J).trans Uf;unfold Lp;refine bl @M ?_;exact⟨_,rfl,ef.F ab J J,aM,J⟩
structure pD (N q U:Nat) (h ac:ae) (Y:Nat) (gs:aa GE) (v:X):Prop where
 g:u ac q=some (.cells [(N:X),v] false)
 m:u ac (q+1)=some (.cells [.int .i64 0,.int .i64 0,.slice none 0 0,.slice none 0 0,.slice none 0 0] false)
 p:fj ac Y v cR gs
 ok:∀g∈gs,g7 N g
 k:aA U h ac
 lt:q+1<Y
theorem pD.put{q:Nat}{E:ae}{g:Nat}{Z:aa GE}(S:pD N q U h ac Y gs v)(c3:U<=q)(bc:yU N Z Y ac r E g):∃(cs:aa GE) (a:aw Addr) (n c:Nat),r = .agg ⟨[(N:X),.slice a n c]⟩/\cs.length<=Z.length/\u E q=some (.cells [(N:X),v] false)/\Y<=g/\pD N q U h (T E q (.cells [(N:X),.slice a n c] false)) g cs (.slice a n c):=by
 obtain⟨v2,cs,rfl,C,P,I,L,D,K⟩:=bc;have M:=S.lt;obtain⟨a,n,c,rfl⟩:=C.form;refine⟨cs,a,n,c,rfl,L,(D q J).trans S.g,K,ab,?_,?_,I,?_,J⟩
 ·rw[aq J,D _ M];exact S.m
 ·refine fj.of ?_;have:eb (T E q (.cells [(N:X),.slice a n c] false)) (.slice a n c) cR 3 cs Y g:=by
   rcases C with C|⟨b,h1,E,e,V⟩
   ·exact .inl C
   ·exact .inr ⟨b,h1,E,e,ab⟩
  exact this.rd
 ·intro b V;rw[aq J,D b J];exact S.k b V
def kv(k n src len:Int)(bR:aa Int)(c9:Int)(es:aa hZ):Int:=if i5 k n src len bR≠0 then i5 k n src len bR else if c9≠n then 4 else lq c9 es
theorem aot(bh:cL h U eW c4 bR)(b0:fj h U gV iI es)(D:es.length<=60\/65536<es.length):
  aE Q s 114 [.agg ⟨[(k:X),(n:X),(src:X),(len:X),eW]⟩,.agg ⟨[(c9:X),gV]⟩] h U (D3 (kv k n src len bR c9 es) U h):=by
 refine abF ?_;obtain⟨a,cap,rfl,a1⟩:=id bh;obtain⟨a2,pf,rfl,oG⟩:=id b0;unfold Rr;refine aG ?_;have b4:∀{o aX ll},aA U h (T (T (T h U o) (U+1) aX) (U+1+1) ll):=aM
 refine(J0 (bh.F b4 J)).mono ?_;rintro r h1 nj ⟨rfl,P,fi⟩;have i2:=P U J;rw[aq J,aq J,aR]at i2;have o0:=P (U+1) J;rw[aq J,aR]at o0;have uF:=P (U+1+1) J;rw[aR]at uF;have cM:aA U h h1:=aM
 have zero:∀{ac:ae} {Y:Nat} {o:fU} {e:Int},kv k n src len bR c9 es=e->aA U h ac->U<=Y->D3 (kv k n src len bR c9 es) U h (.tuple ⟨[.agg ⟨[.int .i64 0,.int .i64 0,.slice none 0 0,.slice none 0 0,.slice none 0 0]⟩,(e:X)]⟩) (T ac (U+1+1) o) Y:=λ{ac Y o e} b0 hk K=>by rw[b0];exact⟨_,rfl,vl.zero,aM,K⟩
 generalize pn:i5 k n src len bR=ak at *
 by_cases hs:ak=0
 case neg =>
  have aW:(ak == 0)=false:=ab
  refine cN @aW @uF ?_;exact zero (by unfold kv;omega) cM J
 subst hs;refine cN @o0 @i2 ?_;refine⟨λeh=>?_,λt6=>?_⟩
 ·refine bl @uF ?_;have eh:c9≠n:=ab
  exact zero (by unfold kv;omega) cM J
 have t6:c9=n:=ab
 have Ia:kv k n src len bR c9 es=lq c9 es:=by unfold kv;omega
 refine(Qo (b0.F cM J)).mono ?_;rintro r ao np ⟨rfl,C,f5⟩;have er:=cM.trans C J;have BL:=(C U J).trans i2;have M:=(C (U+1) J).trans o0;have Mw:=(C (U+1+1) J).trans uF
 by_cases Ib:lq c9 es=0
 case neg =>
  have aW:(lq c9 es == 0)=false:=ab
  refine cN @aW @Mw ?_;exact zero Ia er J
 rw[Ib]at Ia ⊢;have D:=af9 Ib D;obtain⟨N,rfl,d7,oJ,gS⟩:=(Kl.1 Ib).ges;have pu:=((b0.F cM J).F C f5).map oJ;rw[<-gX ]at D;generalize jP:es.map nP=gs at D gS pu;have g:es.length=gs.length:=ab
 rw[g]at M pu;have tj:pD N (U+1) U h ao np gs (.slice a2 gs.length pf):=⟨M,Mw,pu,gS,er,J⟩
 rw[Ia];have tail:∀{ac:ae} {Y:Nat} {gs:aa GE} {a:aw Addr} {n c:Nat},pD N (U+1) U h ac Y gs (.slice a n c)->U<=Y->gs.length<=120->sF s (D3 0 U h) (.pointer (some ⟨U+1,0,none⟩)) (.pointer (some ⟨U+1+1,0,none⟩)) ac Y:=λ{ac Y gs a n c} S bd bo=>by have cb:=S.lt;unfold sF;refine bl S.g ?_;refine(avR S.p d7 S.ok bo).mono ?_;rintro r cy L ⟨m,rfl,ef,hX,kN⟩;obtain⟨x,y,dL,b3,d8,a5,bQ,bT,c1,c2,hP,rfl⟩:=ef.form;have oZ:=(hX _ S.lt).trans S.m;unfold Lp;refine bl @oZ ?_;exact⟨_,rfl,ef.F ab J J,λb aW=>by rw[aq J,hX b J];exact S.k b aW,J⟩
 have plain:∀{ac:ae} {Y:Nat} {gs:aa GE} {a:aw Addr} {n c:Nat},pD N (U+1) U h ac Y gs (.slice a n c)->U<=Y->gs.length<=120->aE Q s 188 [.agg ⟨[(N:X),.slice a n c]⟩] ac Y λI E V=>(dn I).length=2/\af (jQ (u E (U+1)) E (U+1) 0 (dn I)) λZ=>sF s (D3 0 U h) (.pointer (some ⟨U+1,0,none⟩)) (.pointer (some ⟨U+1+1,0,none⟩)) Z V:=λ{ac Y gs a n c} S bd bo=>by refine(ab5 S.p J bo S.ok).mono ?_;intro r cy L bc;obtain⟨cs,bp,n6,hQ,rfl,g,c3,K,uG⟩:=S.put J bc;refine bl @c3 ?_;exact tail uG J (by have:=Ak (p:=λ_=>true) (m:=LP) gs;unfold GV at g;omega)
 have yR:∀{ac:ae} {Y:Nat} {gs:aa GE} {a:aw Addr} {n c:Nat},pD N (U+1) U h ac Y gs (.slice a n c)->U<=Y->gs.length<=60->aE Q s 181 [.agg ⟨[(N:X),.slice a n c]⟩] ac Y λIc BM BN=>(dn Ic).length=2/\af (jQ (u BM (U+1)) BM (U+1) 0 (dn Ic)) λvO=>af (Dk (u vO (U+1)) λcs x=>hB (some 2) 0 cs) λUg=>aE Q s 188 [Ug] vO BN λI E V=>(dn I).length=2/\af (jQ (u E (U+1)) E (U+1) 0 (dn I)) λZ=>sF s (D3 0 U h) (.pointer (some ⟨U+1,0,none⟩)) (.pointer (some ⟨U+1+1,0,none⟩)) Z V:=λ{ac Y gs a n c} S bd bo=>by refine(aeq S.p J bo S.ok).mono ?_;rintro r cy L ⟨ai,_,ug,_,bc⟩;obtain⟨cs,bp,n6,hQ,rfl,g,c3,K,uG⟩:=S.put J bc;rw[ib]at g;refine bl @c3 ?_;exact plain uG J J
 refine cN @M @BL ?_;refine⟨λ_=>?_,λ_=>⟨λ_=>yR tj J D,λ_=>⟨λ_=>plain tj J J,λ_=>tail tj J J⟩⟩⟩;refine(ZY tj.p J J gS).mono ?_;intro r cy L bc;obtain⟨cs,bp,n6,hQ,rfl,g,c3,K,uG⟩:=tj.put J bc;have BJ:=Ak (p:=Dp) (m:=id) gs;unfold GA at g;refine bl @c3 ?_;exact yR uG J J
def q0(k n src len:Int)(bR:aa Int)(c9:Int)(es:aa hZ)(lim:Int):Int:=if kv k n src len bR c9 es≠0 then kv k n src len bR c9 es else if lim<0\/8192<lim then 3 else 0
theorem aou{g:Int}(P:cL h U eW c4 bR)(I:fj h U gV iI es)(E:es.length<=60\/65536<es.length):
  aE Q s 200 [.agg ⟨[(k:X),(n:X),(src:X),(len:X),eW]⟩,.agg ⟨[(c9:X),gV]⟩,(g:X)] h U (dI (.int .i64 (q0 k n src len bR c9 es g)) U h):=by
 refine arQ ?_;obtain⟨a,cap,rfl,a1⟩:=id P;obtain⟨a2,M,rfl,oG⟩:=id I;unfold adY;refine aG ?_;have K:∀{o aX},aA U h (T (T h U o) (U+1) aX):=aM
 refine(aot (P.F K J) (I.F K J) E).mono ?_;rintro r h1 C ⟨m,rfl,ef,e5,L⟩;obtain⟨x,y,dL,b3,d8,a5,bQ,bT,c1,c2,hP,rfl⟩:=ef.form;have D:∀{o aX},aA U h (T (T h1 C o) C aX):=aM
 unfold Lp
 by_cases au:kv k n src len bR c9 es=0
 case neg =>
  have Z:(kv k n src len bR c9 es == 0)=false:=ab
  refine bl @Z ?_;exact⟨by unfold q0;grind,D,J⟩
 rw[au];have e:q0 k n src len bR c9 es g=if g<0\/8192<g then 3 else 0:=by unfold q0;omega
 refine aG ?_;rw[e];refine⟨λao=>⟨ab,D,J⟩,λao=>⟨λV=>⟨ab,D,J⟩,λV=>⟨ab,D,J⟩⟩⟩
def kh(n m:Int):al:=decide (1<=n/\n<=m)
structure iV where
 k:Int
 n:Int
 src:Int
 len:Int
 bR:aa Int
 c9:Int
 es:aa hZ
 R:Int
 C:Int
 M:Int
 lim:Int
 vP:Nat
def hq(x:iV):Int:=if q0 x.k x.n x.src x.len x.bR x.c9 x.es x.lim≠0 then q0 x.k x.n x.src x.len x.bR x.c9 x.es x.lim
 else if kh x.R 8=false then 3 else if kh x.C 8=false then 3 else if kh x.M 64=false then 3 else if 8192<x.vP then 5 else 0
def gJ(x:iV)(eW gV e6:X):aa X:=[(x.k:X),(x.n:X),(x.src:X),(x.len:X),eW,(x.c9:X),gV,(x.R:X),(x.C:X),(x.M:X),(x.lim:X),e6]
structure pY (h:ae) (U:Nat) (x:iV) (eW gV e6:X):Prop where
 d:cL h U eW c4 x.bR
 e:fj h U gV iI x.es
 c:∃a n,e6 = .slice a x.vP n
 l:x.es.length<=60\/65536<x.es.length
theorem pY.F{h ac:ae}{U Y:Nat}{x:iV}{eW gV e6:X}(H:pY h U x eW gV e6)(C:aA U h ac)(g:U<=Y):pY ac Y x eW gV e6:=⟨H.d.F C g,H.e.F C g,H.c,H.l⟩
theorem Km{x:iV}(H:pY h U x eW gV e6):aE Q s 121 [.agg ⟨gJ x eW gV e6⟩] h U (dI (.int .i64 (hq x)) U h):=by
 refine arP ?_;obtain⟨a,cap,rfl,a1⟩:=id H.d;obtain⟨a2,V,rfl,oG⟩:=id H.e;obtain⟨a3,P,rfl⟩:=H.c;unfold adX gJ;have K:∀{o},aA U h (T h U o):=aM
 refine aG ?_;refine(aou (H.d.F K J) (H.e.F K J) H.l).mono ?_;rintro r h1 nj ⟨rfl,I,M⟩;have g:=I U J;rw[aR]at g;have C:aA U h h1:=aM
 generalize hm:q0 x.k x.n x.src x.len x.bR x.c9 x.es x.lim=aCY
 by_cases au:aCY=0
 case neg =>
  have aW:(aCY == 0)=false:=ab
  refine bl @aW ?_;exact⟨by unfold hq;grind,C,J⟩
 subst au;have e:hq x=if kh x.R 8=false then 3 else if kh x.C 8=false then 3 else if kh x.M 64=false then 3 else if 8192<x.vP then 5 else 0:=by unfold hq;omega
 rw[e];refine bl @g ?_;refine OS.mono ?_;rintro r Z L ⟨rfl,D,E⟩;rw[D,E];change af (du .not (.bool (kh x.R 8))) _;cases ef:kh x.R 8 with
 |false =>
  refine bl @g ?_;exact⟨rfl,C,J⟩
 |true =>
 refine bl @g ?_;refine OS.mono ?_;rintro r Z L ⟨rfl,D,E⟩;rw[D,E];change af (du .not (.bool (kh x.C 8))) _;cases d0:kh x.C 8 with
 |false =>
  refine bl @g ?_;exact⟨rfl,C,J⟩
 |true =>
 refine bl @g ?_;refine OS.mono ?_;rintro r Z L ⟨rfl,D,E⟩;rw[D,E];change af (du .not (.bool (kh x.M 64))) _;cases h9:kh x.M 64 with
 |false =>
  refine bl @g ?_;exact⟨rfl,C,J⟩
 |true =>
 refine bl @g ?_;exact⟨λcy=>⟨ab,C,J⟩,λcy=>⟨ab,C,J⟩⟩
def yX(x:iV)(EZ:aa cx)(w:Int):Int:=if hq x≠0 then hq x else if 1048576<EZ.length then 5 else if EZ.any (λm=>!wN m)=true then 8 else if lF w 1048576=false then 3 else 0
theorem Yv{x:iV}{g:aa cx}{w:Int}{V:X}(H:pY h U x eW gV e6)(hm:cL h U V yV g)(BJ:g.length<=60\/1048576<g.length):
  aE Q s 161 [.agg ⟨gJ x eW gV e6⟩,V,(w:X)] h U (dI (.int .i64 (yX x g w)) U h):=by
 refine anU ?_;obtain⟨a,cap,rfl,a1⟩:=id hm;unfold abN;have b4:∀{o},aA U h (T h U o):=aM
 obtain⟨a3,E,rfl⟩:=id H.c;obtain⟨aD,D,rfl,_⟩:=id H.d;obtain⟨a2,I,rfl,_⟩:=id H.e;generalize bO:gJ x (.slice aD x.bR.length D) (.slice a2 x.es.length I) (.slice a3 x.vP E)=hO at *
 have C:=bO;unfold gJ at C;rw[<-C];refine aG ?_;rw[C,<-bO];refine(Km (H.F b4 J)).mono ?_;rintro r h1 nj ⟨rfl,e5,fi⟩;have K:aA U h h1:=aM
 by_cases au:hq x=0
 case neg =>
  have P:(hq x == 0)=false:=ab
  refine bl @P ?_;exact⟨by unfold yX;grind,K,J⟩
 have e:yX x g w=if 1048576<g.length then 5 else if g.any (λm=>!wN m)=true then 8 else if lF w 1048576=false then 3 else 0:=by unfold yX;omega
 rw[e,au];refine aG ?_;refine⟨λcy=>⟨ab,K,J⟩,λcy=>?_⟩;rw[if_neg J];refine(aom (hm.F K J) J (λx h U=>ajN)).mono ?_;rintro r ao np ⟨rfl,M,Z⟩;have L:=K.trans M J;cases dR:g.any (λm=>!wN m)with
 |true =>
  refine aG ?_;exact⟨rfl,L,J⟩
 |false =>
 refine aG ?_;refine FL.mono ?_;rintro r aT bT ⟨rfl,aU,aK⟩;rw[aU,aK];cases P:lF w 1048576 with
 |false =>
  refine aG ?_;exact⟨rfl,L,J⟩
 |true =>
  refine aG ?_;exact⟨rfl,L,J⟩
def D4(x:iV)(r:Int):Int:=if lF r 8192=false then 0 else if hq x≠0 then 0 else 4*(x.R+x.C+4)*(r+2)
theorem alv{x:iV}{w:Int}(H:pY h U x eW gV e6):
  aE Q s 75 [.agg ⟨gJ x eW gV e6⟩,(w:X)] h U (dI (.int .i64 (D4 x w)) U h):=by
 refine anX ?_;have b4:∀{o},aA U h (T h U o):=aM
 obtain⟨a3,E,rfl⟩:=id H.c;obtain⟨aD,D,rfl,_⟩:=id H.d;obtain⟨a2,I,rfl,_⟩:=id H.e;unfold abP;have M:gJ x (.slice aD x.bR.length D) (.slice a2 x.es.length I) (.slice a3 x.vP E)=_:=rfl;unfold gJ at M ⊢;refine aG ?_;refine FL.mono ?_;rintro r Z bT ⟨rfl,aU,aK⟩;rw[aU,aK];unfold ON;cases L:lF w 8192 with
 |false =>
  refine aG ?_;exact⟨by unfold D4;grind,b4,J⟩
 |true =>
 have e:D4 x w=if hq x≠0 then 0 else 4*(x.R+x.C+4)*(w+2):=by unfold D4;grind
 rw[e];refine aG ?_;refine(Km (H.F b4 J)).mono ?_;rintro r K nj ⟨rfl,P,fi⟩;have g:=P U J;rw[aR]at g;have cM:aA U h K:=aM
 by_cases C:hq x=0
 case neg =>
  have L:(hq x == 0)=false:=ab
  refine bl @L ?_;exact⟨ab,cM,J⟩
 have V:(1<=x.R/\x.R<=8)/\1<=x.C/\x.C<=8:=by
  unfold hq at C
  split at C
  ·omega
  ·split at C
   ·omega
   ·split at C
    ·omega
    ·rename_i K ao Z
     exact⟨of_decide_eq_true (by unfold kh at ao;grind),of_decide_eq_true (by unfold kh at Z;grind)⟩
 have bO:0<=w/\w<=8192:=of_decide_eq_true L;obtain⟨⟨hR1,hR2⟩,hC1,hC2⟩:=V;have m1:0<=(4*(x.R+x.C+4))*(w+2):=Int.mul_nonneg J J;have m2:(4*(x.R+x.C+4))*(w+2)<=80*8194:=Int.mul_le_mul J J J J;have aDT:∀n:Int,-9223372036854775808<=n->n<=9223372036854775807->tI .i64 n=n:=λn C K=>by rw[oh];exact jM C K
 rw[C,if_neg (by simp)];refine bl @g ?_;refine⟨?_,cM,J⟩;rw[jM (n:=x.R+x.C) J J,jM  J J,aDT (Int.mul 4 (x.R+x.C+4)) ab ab,jM  J J]
 grind
theorem fW:oq Tryz.prog 24=some (some 2):=by kernel_rfl
theorem own:ownKnob Tryz.prog.godebug=none:=by kernel_rfl
theorem ast:laidOutB Tryz.prog=true:=by kernel_rfl
def kD:Field:={ name := "G",type:=24,offset:=0,embedded:=false,tag := "",pkgPath := "",byteOffset:=0 }
def I0:Field:={ name := "V",type:=3,offset:=2,embedded:=false,tag := "",pkgPath := "",byteOffset:=32 }
def I1:Field:={ name := "R",type:=5,offset:=3,embedded:=false,tag := "",pkgPath := "",byteOffset:=40 }
def h6:Field:={ name := "C",type:=5,offset:=4,embedded:=false,tag := "",pkgPath := "",byteOffset:=41 }
def I2:Field:={ name := "N",type:=3,offset:=0,embedded:=false,tag := "",pkgPath := "",byteOffset:=0 }
def GX:Field:={ name := "Edges",type:=22,offset:=1,embedded:=false,tag := "",pkgPath := "",byteOffset:=8 }
def agb:Field:={ name := "From",type:=3,offset:=0,embedded:=false,tag := "",pkgPath := "",byteOffset:=0 }
def fTo:Field:={ name := "To",type:=3,offset:=1,embedded:=false,tag := "",pkgPath := "",byteOffset:=8 }
def aCZ:Field:={ name := "W",type:=2,offset:=2,embedded:=false,tag := "",pkgPath := "",byteOffset:=16 }
theorem u26:Tryz.prog.underlying 26=some (.struct #[kD,I0,I1,h6]):=by kernel_rfl
theorem u24:Tryz.prog.underlying 24=some (.struct #[I2,GX]):=by kernel_rfl
theorem u52:Tryz.prog.underlying 124=some (.struct #[agb,fTo,aCZ]):=by kernel_rfl
theorem u22:Tryz.prog.underlying 22=some (.slice 124):=by kernel_rfl
theorem aC0:Tryz.prog.underlying 5=some (.int .u8):=by kernel_rfl
theorem aDU:Tryz.prog.underlying 4=some .bool:=by kernel_rfl
theorem Ie:Tryz.prog.cellsOf 26=5:=by kernel_rfl
theorem n24:Tryz.prog.cellsOf 24=2:=by kernel_rfl
theorem n52:Tryz.prog.cellsOf 124=3:=by kernel_rfl
theorem BO:Tryz.prog.cellsOf 22=1:=by kernel_rfl
theorem f2:Tryz.prog.cellsOf 5=1:=by kernel_rfl
theorem aAi:Tryz.prog.cellTypes Tryz.prog.depth 26=some [3,22,3,5,5]:=by kernel_rfl
theorem ayt:Tri Tryz.prog 124:=⟨⟨_,agb,fTo,aCZ,u52,rfl,rfl,rfl,rfl,rfl,rfl,zF,zF,EX,ci,ci,c2⟩,n52⟩
section
variable {H:Type} {enc:TypeId × X->H} {w:World} {aB:Nat->al}
theorem alw{r:Reach}{EV:Nat}{d:DataW H}{cf:aa MemPlace}(D:Value.okWide Tryz.prog w r EV 26 v)(h:DataW.Trod enc Tryz.prog w 0 aB true 26 v d cf):
  ∃(n V R C:Int) (mN:X) (uH:aa hZ),v = .agg ⟨[(n:X),mN,(V:X),.int .u8 R,.int .u8 C]⟩/\((uH=[]/\mN = .slice none 0 0)\/∃b P cap,mN = .slice (some ⟨b,P,none⟩) uH.length cap/\K0 w b P (a7 iI uH))/\(0<=R/\R<=255)/\0<=C/\C<=255:=by
 have u8b:∀{n:Int},(Lit.int .u8 n).wf=true->0<=n/\n<=255:=λ{n} h=>by simp[Lit.wf,IntKind.min,IntKind.max,IntKind.bits,IntKind.signed]at h;omega
 unfold Value.okWide at D;rw[u26]at D;obtain⟨cs,rfl,kP,ai,l5,_,L⟩:=D;rw[aAi]at l5;cases l5;rw[Ie]at kP;obtain⟨l⟩:=cs
 match l,kP with
 | [a,b,c,e,f],_ =>
  obtain⟨DX,bK⟩:=h;have bK:DataW.trod enc Tryz.prog w 0 aB true DX 26 [a,b,c,e,f]=some (d,cf):=bK;obtain⟨xs,n,rfl,_,fO,By,Z⟩:=DataW.trod_struct u26 bK;have By:xs.length=4:=By;have get:∀(i:Nat) (g:Field),#[kD,I0,I1,h6][i]? = some g->∃y,DataW.trod enc Tryz.prog w 0 aB true n g.type (([a,b,c,e,f].drop g.offset).take (Tryz.prog.cellsOf g.type))=some y:=λi g E=>by have ag:i<4:=(Jh.1 E).1;exact⟨xs[i]'J,by rw[Z i g E,lo]⟩
  obtain⟨co,au⟩:=get 0 kD rfl;obtain⟨cz,h1⟩:=get 1 I0 rfl;obtain⟨cE,ao⟩:=get 2 I1 rfl;obtain⟨cm,aT⟩:=get 3 h6 rfl;rw[show kD.type=24 from rfl,show kD.offset=0 from rfl,n24]at au;rw[show I0.type=3 from rfl,show I0.offset=2 from rfl,ci]at h1;rw[show I1.type=5 from rfl,show I1.offset=3 from rfl,f2]at ao;rw[show h6.type=5 from rfl,show h6.offset=4 from rfl,f2]at aT;obtain⟨V,rfl⟩:=Yh zF h1;obtain⟨R,Cc,_,aDV⟩:=DataW.trod_int aC0 ao;obtain⟨C,Cd,_,aDW⟩:=DataW.trod_int aC0 aT;injection Cc with Cc _
  injection Cd with Cd _
  subst Cc Cd;have au:DataW.trod enc Tryz.prog w 0 aB true n 24 [a,b]=some co:=au;obtain⟨xs',jB,rfl,_,_,K,M⟩:=DataW.trod_struct u24 au;have K:xs'.length=2:=K;have I:∀(i:Nat) (g:Field),#[I2,GX][i]? = some g->∃y,DataW.trod enc Tryz.prog w 0 aB true jB g.type (([a,b].drop g.offset).take (Tryz.prog.cellsOf g.type))=some y:=λi g E=>by have ag:i<2:=(Jh.1 E).1;exact⟨xs'[i]'J,by rw[M i g E,lo]⟩
  obtain⟨n0,jX⟩:=I 0 I2 rfl;obtain⟨jx,gx⟩:=I 1 GX rfl;rw[show I2.type=3 from rfl,show I2.offset=0 from rfl,ci]at jX;rw[show GX.type=22 from rfl,show GX.offset=1 from rfl,BO]at gx;obtain⟨N,rfl⟩:=Yh zF jX;obtain⟨aO,d5,jb⟩:=L 1 b rfl;cases d5;obtain⟨uH,_,c0⟩:=arp (cc:=iI) (k:=3) u22 n52 (λ_=>True) (λn c y ck=>by obtain⟨e,b0,_⟩:=anh ayt ck;exact⟨e,b0,trivial⟩) gx jb;exact⟨N,V,R,C,b,uH,rfl,c0,u8b aDV,u8b aDW⟩
end
theorem kT.iR(h:kT x y)(ac:kT y z):kT x z:=by unfold kT at *;omega
theorem asu{enc:az->aa X}{k:Nat}(hk:∀x,(enc x).length=k)(C:∀x,d4 (enc x)=true)(L:0<k){l:aa az}{o:aw Nat}(g:fA h enc k v l o){P M D:Nat}{E:aw Nat}(x:az)(ao:u h P=some (.cells cs bG))(V:(cs.drop M).take k=enc x)(I:(l.length+1)*k<=1000000){K:X->ae->Nat->Prop}(Z:∀ac,u ac U=some (.cells (a7 enc (l++[x])) false)->(∀c,c≠U->o≠some c->u ac c=u h c)->K (.slice (some ⟨U,0,some k⟩) (l.length+1) (l.length+1)) ac (U+1)):dG (dO (dM k h U v (.slice (some ⟨P,M,E⟩) 1 D))) K:=by obtain⟨ac,e,a,b⟩:=g.app hk C L ao V I;rw[e];exact Z _ a b
theorem bE.cut{B:oS}{g:aa X}{C:aP}(D:aP)(I:∀g h U,D g h U->C g h U)(K:∀E,(∀g h U,D g h U->E g h U)->bE B g h U [(i,E)] R):bE B g h U [(i,C)] R:=K C I
end Go.Proofs.YthlhhajnbgjfmaaGreat
