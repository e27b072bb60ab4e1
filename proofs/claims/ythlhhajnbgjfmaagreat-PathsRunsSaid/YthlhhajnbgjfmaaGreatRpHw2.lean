/- Parts of the proof: Hw2: each statement bears its own conditions. -/
import Init
import Derived.Test.YthlhhajnbgjfmaaGreatRpHw1
namespace Go.Ax
open Go
set_option linter.all false
set_option maxHeartbeats 1000000
variable {cs:aa GE} {l:aa Int} {fB:Nat->al} {dE:Int} {N v:Nat} {ex:GE->Prop} {i:Nat} {x:Int} {n j:Nat} {L:aa Nat} {hO:aa gc} {aQ ap:Nat} {h:ae} {aB:aw Nat} {e:jS} {ag:Nat} {es:aa GE} {t:Nat} {d:Int} {cap U:Nat} {y:Int} {ac:ae}
inductive SW (gs:List GE) (s:Nat):List Nat->Nat->Int->Prop
 |nil:SW gs s [s] s 0
 |snoc {L:List Nat} {x:Int} {g:GE} (aY:g∈gs) (w:SW gs s L g.f x) (bw:g.t ∉ L):SW gs s (g.t::L) g.t (x+g.w)
section
variable {gs:aa GE} {s:Nat}
theorem SW.nodup(w:SW gs s L v x):L.Nodup/\v∈L/\L≠[]:=by
 induction w with
 |nil=>simp
 |snoc D w g A=>exact⟨JC.2 ⟨g,A.1⟩,mr ..,by simp⟩
theorem SW.lt(M:∀g∈gs,g.f<n/\g.t<n)(E:s<n)(w:SW gs s L v x):∀A∈L,A<n:=by
 induction w with
 |nil=>intro A D;rw[iu]at D;subst D;exact E
 |snoc Z w bw I=>intro A D;rcases gh.1 D with rfl|D;exact(M _ Z).2;exact I A D
theorem SW.walk(w:SW gs s L v x):hH gs s (L.length-1) v x:=by
 induction w with
 |nil=>exact .nil
 | @snoc L x g D w E A =>
  have:=zY.2 w.nodup.2.2;have e:(g.t::L).length-1=L.length-1+1:=by simp;omega
  rw[e];exact .snoc D A
theorem SW.sub(bO:∀g∈gs,0<=g.w)(w:SW gs s L v x):∀A∈L,∃I E,SW gs s I A E/\E<=x:=by
 induction w with
 |nil=>intro A D;rw[iu]at D;subst D;exact⟨_,_,.nil,wp _⟩
 |snoc M w bw eS =>
  intro A D;rcases gh.1 D with rfl|D
  ·exact⟨_,_,.snoc M w bw,wp _⟩
  ·obtain⟨I,E,Z,ao⟩:=eS A D;have:=bO _ M;exact⟨I,E,Z,J⟩
theorem hH.simple(I:∀g∈gs,0<=g.w){k:Nat}(w:hH gs s k v x):∃L A,SW gs s L v A/\A<=x:=by
 induction w with
 |nil=>exact⟨_,_,.nil,wp _⟩
 | @snoc k n g E w Z =>
  obtain⟨L,A,D,ao⟩:=Z;have au:=I g E
  by_cases h:g.t∈L
  ·obtain⟨B8,h7,M,a9⟩:=D.sub I g.t h;exact⟨B8,h7,M,J⟩
  ·exact⟨_,_,.snoc E D h,J⟩
theorem hH.cut(I:∀g∈gs,g.f<n/\g.t<n/\0<=g.w)(ar:s<n){k:Nat}(w:hH gs s k v x):∃Z A,Z<n/\A<=x/\hH gs s Z v A:=by obtain⟨L,A,D,ao⟩:=w.simple λg E=>(I g E).2.2;have bo:=WX L (List.range n) D.nodup.1 λM d5=>CF.2 (D.lt (λg E=>⟨(I g E).1,(I g E).2.1⟩) ar M d5);rw[CA]at bo;have:=zY.2 D.nodup.2.2;exact⟨L.length-1,A,J,ao,D.walk⟩
end
structure tW (e:jS) (gs:aa GE) (s:Nat):Prop where
 k:e.k=2
 src:e.src=(s:Int)
 s:s<e.n
 w:∀g∈e.ai,0<=g.w/\g.w<=2147483647/\g.f<e.n/\g.t<e.n
 to:∀g∈e.ai,∃cd∈gs,cd.f=g.t/\cd.t=g.f/\cd.w=g.w
 eu:∀g∈gs,∃cd∈e.ai,cd.f=g.t/\cd.t=g.f/\cd.w<=g.w
 uA:∀g∈gs,g.f<e.n/\g.t<e.n/\0<=g.w
structure vq (e:jS) (gs:aa GE) (s t:Nat):Prop where
 gD:∀v,0<=(e.st t).A v/\(e.st t).A v<=dg
 h2:∀v,(e.st t).A v=dg\/((e.st t).A v<dg/\∃k,hH gs s k v ((e.st t).A v))
 off:∀g∈e.ai,(e.st t).q g.t=false->(e.st t).A g.f<=(e.st t).A g.t+g.w
 low:∀k v x,hH gs s k v x->k<=t->(e.st t).A v<=x
theorem arr{w a:Int}(D:0<=w)(g:w<=2147483647)(A:0<=a)(ag:a<=dg):fH 1 w a<=a+w/\0<=fH 1 w a/\fH 1 w a<=dg/\(fH 1 w a<dg->fH 1 w a=a+w/\a<dg):=by
 unfold fH;simp only[show ¬((1:Int)=2) by decide,show ¬((1:Int)=5) by decide,fg,if_true];unfold dg at *
 by_cases h:(4611686018427387904:Int)<=max w a
 ·rw[if_pos h];omega
 ·rw[if_neg h];omega
theorem vq.next{gs:aa GE}{s:Nat}(E:tW e gs s)(H:vq e gs s t):vq e gs s (t+1):=by
 have S:=afM (.inl E.k) (t+1) (e.st t);have lO:fm e.k (t+1)=1:=by unfold fm;simp[E.k]
 have D:e.st (t+1)=e.step (t+1) (e.st t):=rfl;have B0:∀g∈e.ai,_:=λg A=>arr (E.w g A).1 (E.w g A).2.1 (H.gD g.t).1 (H.gD g.t).2;have I:∀g∈e.ai,(e.st (t+1)).A g.f<=(e.st t).A g.t+g.w:=λg A=>by
  rw[D];cases c3:(e.st t).q g.t with
  |true =>
   have:=S.nx g A c3 (H.gD g.f).2;rw[lO]at this;exact JG this (B0 g A).1
  |false=>exact JG (S.le g.f) (H.off g A c3)
 refine⟨λv=>?_,λv=>?_,λg A c3=>?_,λk v x w hk=>?_⟩
 ·rw[D];have h1:=S.le v;have Z:=H.gD v;refine⟨?_,J⟩;rcases S.is v with h|⟨g,A,_,_,h⟩
  ·rw[h];exact Z.1
  ·rw[h,lO];exact(B0 g A).2.1
 ·rw[D];rcases S.is v with h|⟨g,A,bK,_,h⟩
  ·rw[h];exact H.h2 v
  ·rw[h,lO];have h1:=B0 g A
   by_cases ag:fH 1 g.w ((e.st t).A g.t)<dg
   ·right
    refine⟨ag,?_⟩;obtain⟨Z,aT⟩:=h1.2.2.2 ag;rcases H.h2 g.t with a9|⟨_,k,w⟩
    ·omega
    ·obtain⟨cd,M,aU,aK,cc⟩:=E.to g A;rw[<-aU]at w;have:=hH.snoc M w;rw[aK,cc,bK]at this;rw[Z,<-aU];exact⟨k+1,this⟩
   ·left;omega
 ·have h1:=I g A;have Z:=S.q g.t;rw[<-D,c3]at Z;have aT:=NQ Z.symm;omega
 ·by_cases xo:k<=t
  ·rw[D];exact JG (S.le v) (H.low k v x w xo)
  ·cases w with
   |nil=>omega
   | @snoc k n g A w =>
    obtain⟨cd,M,aU,aK,cc⟩:=E.eu g A;have h1:=I cd M;rw[aU,aK]at h1;have Z:=H.low k g.f n w J;omega
theorem vq.all{e:jS}{gs:aa GE}{s:Nat}(E:tW e gs s):∀t,vq e gs s t
 |0=>by
  have A:∀v,(e.st 0).A v=if v=s then 0 else dg:=λv=>by
   show sT e.k e.src v=_;unfold sT dg;rw[E.k,E.src]
   by_cases h:v=s
   ·subst h;simp
   ·rw[if_neg h];simp;omega
  have M:∀v,(e.st 0).q v=decide (v=s):=λv=>by
   show sU e.k e.src v=_;unfold sU;rw[E.k,E.src]
   by_cases h:v=s
   ·subst h;simp
   ·simp[h];omega
  have ag:(0:Int)<dg:=by unfold dg;decide
  refine⟨λv=>by rw[A];split <;> omega,λv=>?_,λg I D=>?_,λk v x w Z=>?_⟩
  ·rw[A]
   by_cases h:v=s
   ·rw[if_pos h,h];exact .inr ⟨ag,0,.nil⟩
   ·rw[if_neg h];exact .inl rfl
  ·rw[M]at D;have h:=NQ D;have:=(E.w g I).1;rw[A g.t,if_neg h,A]
   split <;> omega
  ·cases w with
   |nil=>rw[A,if_pos rfl];exact wp _
   |snoc _ _=>omega
 |t+1=>(vq.all E t).next E
theorem tW.Ep{gs:aa GE}{s:Nat}(E:tW e gs s)(c3:∀v,v<e.n->(e.st t).q v=false):kK dg e.n gs s ((List.range e.n).map (e.st t).A):=by
 have H:=vq.all E t;have M:∀v,v<e.n->((List.range e.n).map (e.st t).A)[v]? = some ((e.st t).A v):=λv A=>by rw[sw,Cy A];rfl
 have A:∀(v:Nat) (x:Int),((List.range e.n).map (e.st t).A)[v]? = some x->v<e.n/\x=(e.st t).A v:=λv x h=>by have I:=(fb.1 h).1;simp at I;rw[M v I]at h;exact⟨I,by cases h;rfl⟩
 refine kK.mk' E.uA ⟨by simp,?_,λg jP x y bd ck cb=>?_,λv x h=>?_⟩ λv x h=>?_
 ·rw[M s E.s];have:=H.low 0 s 0 .nil (Fx _);have:=(H.gD s).1;rw[show(e.st t).A s=0 by omega]
 ·obtain⟨_,rfl⟩:=A _ _ bd;obtain⟨_,rfl⟩:=A _ _ ck;obtain⟨Z,D,aU,aK,cc⟩:=E.eu g jP;have:=H.off Z D (c3 _ (E.w Z D).2.2.2);rw[aU,aK]at this;omega
 ·obtain⟨_,rfl⟩:=A v x h;exact(H.gD v).2
 ·obtain⟨_,rfl⟩:=A v x h;exact H.h2 v
theorem tW.quiet{gs:aa GE}{s:Nat}(E:tW e gs s)(Z:e.n<=t)(v:Nat)(aI:v<e.n):(e.st t).q v=false:=by
 cases t with
 |zero=>omega
 |succ t =>
  have S:=afM (.inl E.k) (t+1) (e.st t);have I:=vq.all E (t+1);have H:=vq.all E t;rw[show e.st (t+1)=e.step (t+1) (e.st t)from rfl,S.q v];refine hA λg=>?_;have g:(e.st (t+1)).A v<(e.st t).A v:=g;rcases I.h2 v with h|⟨_,k,w⟩
  ·have:=(H.gD v).2;omega
  ·obtain⟨D,A,M,ao,a8⟩:=w.cut E.uA E.s;have:=H.low D v A a8 J;omega
abbrev Stop:=Nat × Int
structure nk (dE:Int) (N:Nat) (cs:aa GE) (s:Nat) (l:aa Int) (W:aa Stop) (fB:Nat->al) (ex:GE->Prop):Prop where
 len:l.length=N
 src:l[s]? = some 0
 h2:∀(v:Nat) (x:Int),l[v]? = some x->x=dE\/(x<dE/\∃k,hH cs s k v x)
 bj:∀p∈W,p.1<N/\p.2<dE/\(∃k,hH cs s k p.1 p.2)/\∀x,l[p.1]? = some x->x<=p.2
 rN:∀(v:Nat) (x:Int),l[v]? = some x->x<dE->fB v=false->(v,x)∈W
 BC:∀e∈cs,fB e.f=true->¬ex e->∀x y:Int,l[e.f]? = some x->l[e.t]? = some y->y<=x+e.w
 low:∀v,fB v=true->∀x,l[v]? = some x->x<dE/\∀p∈W,x<=p.2
 uniq:∀(v:Nat) (x:Int),l[v]? = some x->W.count (v,x)<=if fB v then 0 else 1
variable {W:aa Stop} {p a b:Stop}
theorem nk.init{s:Nat}(D:0<dE)(I:s<N):nk dE N cs s ((List.replicate N dE).set s 0) [(s,0)] (λ_=>false) (λ_=>False):=by
 have M:∀v:Nat,v<N->((List.replicate N dE).set s 0)[v]? = some (if s=v then 0 else dE):=λv Z=>ab
 have A:∀(v:Nat) (x:Int),((List.replicate N dE).set s 0)[v]? = some x->v<N:=λv x g=>ab
 refine⟨by simp,ab,λv x g=>?_,λp E=>?_,λv x g ag _=>?_,λe _ h=>ab,λv h=>ab,λv x g=>?_⟩
 ·rw[M v (A v x g)]at g;cases g
  by_cases e:s=v
  ·subst e;rw[if_pos rfl];exact .inr ⟨D,0,.nil⟩
  omega
 ·have E:p=(s,0):=ab
  subst E;exact⟨I,D,⟨0,.nil⟩,λx g=>ab⟩
 all_goals grind
theorem nk.perm{s:Nat}{I:aa Stop}(h:nk dE N cs s l W fB ex)(D:I.Perm W):nk dE N cs s l I fB ex :=
 ⟨h.len,h.src,h.h2,λp E=>h.bj p (D.subset E),λv x g ag A=>D.symm.subset (h.rN v x g ag A),h.BC,λv A x g=>⟨(h.low v A x g).1,λp E=>(h.low v A x g).2 p (D.subset E)⟩,λv x g=>by rw[D.count_eq];exact h.uniq v x g⟩
theorem nk.late{s:Nat}(h:nk dE N cs s l (p::W) fB ex)(I:l[p.1]? = some x)(E:x<p.2):nk dE N cs s l W fB ex:=by
 refine⟨h.len,h.src,h.h2,λq D=>h.bj q (jZ _ D),λv y g ag A=>?_,h.BC,λv A y g=>⟨(h.low v A y g).1,λq D=>(h.low v A y g).2 q (jZ _ D)⟩,λv y g=>?_⟩
 ·rcases gh.1 (h.rN v y g ag A)with e|e
  all_goals grind
 ·have:=h.uniq v y g
  grind
theorem nk.take{s:Nat}(h:nk dE N cs s l (p::W) fB (λ_=>False))(E:l[p.1]? = some p.2)(Z:∀q∈W,p.2<=q.2):
  fB p.1=false/\nk dE N cs s l W (λv=>fB v||v == p.1) (λe=>e.f=p.1):=by
 have M:=h.uniq p.1 p.2 E;rw[List.count_cons_self]at M;have D:fB p.1=false:=ab
 rw[D]at M;simp only[nB,fg]at M;have hpi:=(h.bj p (mr ..)).2.1;refine⟨D,h.len,h.src,h.h2,λq I=>h.bj q (jZ _ I),λv y A ag g=>?_,λe b0 g Mp x y E A=>?_,λv g y A=>?_,λv y A=>?_⟩
 ·simp only[Bool.or_eq_false_iff,rt]at g;rcases gh.1 (h.rN v y A ag g.1)with e|e
  all_goals grind
 ·have:fB e.f=true:=ab
  exact h.BC e b0 this id x y E A
 ·simp only[Fp,sB]at g;rcases g with g|rfl
  ·exact⟨(h.low v g y A).1,λq I=>(h.low v g y A).2 q (jZ _ I)⟩
  grind
 ·have h1:=h.uniq v y A
  grind
structure q9 (dE:Int) (N:Nat) (cs:aa GE) (s v:Nat) (d:Int) (l:aa Int) (W:aa Stop) (fB:Nat->al) (ex:GE->Prop):Prop where
 base:nk dE N cs s l W fB ex
 own:l[v]? = some d
 dnv:fB v=true
 cur:∀aO,fB aO=true->∀x,l[aO]? = some x->x<=d
 key:∀p∈W,d<=p.2
theorem nk.begin{s:Nat}(h:nk dE N cs s l (p::W) fB (λ_=>False))(I:l[p.1]? = some p.2)(g:∀q∈W,p.2<=q.2):
  fB p.1=false/\q9 dE N cs s p.1 p.2 l W (λv=>fB v||v == p.1) (λe=>e.f=p.1):=by
 obtain⟨M,Z⟩:=h.take I g;refine⟨M,Z,I,by simp,λE A x D=>?_,g⟩;simp only[Fp,sB]at A;rcases A with A|rfl
 ·exact(h.low E A x D).2 p (mr ..)
 grind
theorem q9.skip{s:Nat}(h:q9 dE N cs s v d l W fB ex){e:GE}(bK:e.f=v)(ck:l[e.t]? = some y)(dv:y<=d+e.w):q9 dE N cs s v d l W fB (λg=>ex g/\g≠e):=by
 obtain⟨b,Z,ao,E,a9⟩:=h;refine⟨⟨b.len,b.src,b.h2,b.bj,b.rN,λg D bh A a c I a1=>?_,b.low,b.uniq⟩,Z,ao,E,a9⟩
 by_cases aU:g=e
 ·grind
 ·exact b.BC g D bh (λM=>A ⟨M,aU⟩) a c I a1
theorem q9.push{s:Nat}(gS:∀e∈cs,e.f<N/\e.t<N/\0<=e.w)(h:q9 dE N cs s v d l W fB ex){e:GE}(E:e∈cs)(bK:e.f=v)(Z:l[e.t]? = some y)(cb:d+e.w<y):q9 dE N cs s v d (l.set e.t (d+e.w)) ((e.t,d+e.w)::W) fB (λM=>ex M/\M≠e):=by
 obtain⟨b,h1,ao,aT,a9⟩:=h;have bO:=(gS e E).2.2;have Mq:fB e.t=false:=ab
 have ug:=(fb.1 Z).1;have aY:∀g:Nat,(l.set e.t (d+e.w))[g]? = if e.t=g then some (d+e.w)else l[g]?:=λg=>ab
 have D:∀g,fB g=true->(l.set e.t (d+e.w))[g]? = l[g]?:=λg d5=>ab
 have dv:∀(g:Nat) (z:Int),(l.set e.t (d+e.w))[g]? = some z->∃z',l[g]? = some z'/\z<=z':=λg z c0=>ab
 have hdi:=(b.low v ao d h1).1;have hyi:y<=dE:=by rcases b.h2 _ _ Z with bY|⟨bY,_⟩ <;> omega
 obtain⟨k,aCT⟩:∃k,hH cs s k v d:=by
  rcases b.h2 _ _ h1 with bY|⟨_,k,w⟩
  ·omega
  ·exact⟨k,w⟩
 have aDO:hH cs s (k+1) e.t (d+e.w):=.snoc E (by rw[bK];exact aCT);have HW:0<=d:=aCT.GQ λe E=>(gS e E).2.2;have jc:e.t≠s:=λI=>by rw[I,b.src]at Z;grind
 have hni:(e.t,d+e.w) ∉ W:=λhm=>by have:=(b.bj _ hm).2.2.2 y Z;omega
 refine⟨⟨by rw[JB];exact b.len,by rw[aY,if_neg jc];exact b.src,λg x A=>?_,λp a6=>?_,λg x A ag bh=>?_,λM pj bh Mp a c dR a1=>?_,λg d5 x A=>?_,λg x A=>?_⟩,ab,ao,λg d5 x A=>?_,λp a6=>?_⟩
 ·rw[aY]at A
  split at A
  ·grind
  ·exact b.h2 g x A
 ·rcases gh.1 a6 with rfl|a6
  ·exact⟨(gS e E).2.1,J,⟨k+1,aDO⟩,λx A=>ab⟩
  ·obtain⟨aD,a2,a3,aZ⟩:=b.bj p a6;exact⟨aD,a2,a3,λx A=>ab⟩
 ·rw[aY]at A
  split at A
  ·grind
  ·exact jZ _ (b.rN g x A ag bh)
 ·rw[D _ bh]at dR;obtain⟨bL,Bn,r0⟩:=dv _ c a1
  by_cases I:M=e
  ·grind
  ·have:=b.BC M pj bh (λA=>Mp ⟨A,I⟩) a bL dR Bn;omega
 ·grind
 ·rw[List.count_cons]
  by_cases I:e.t=g
  ·grind
  ·rw[aY,if_neg I]at A;have bY:=b.uniq g x A
   grind
 all_goals grind
theorem q9.end_{s:Nat}(h:q9 dE N cs s v d l W fB ex)(g:∀e∈cs,¬ex e):nk dE N cs s l W fB (λ_=>False):=
 ⟨h.base.len,h.base.src,h.base.h2,h.base.bj,h.base.rN,λe A D _=>h.base.BC e A D (g e A),h.base.low,h.base.uniq⟩
theorem nk.done{s:Nat}(I:∀e∈cs,e.f<N/\e.t<N/\0<=e.w)(h:nk dE N cs s l [] fB (λ_=>False)):kK dE N cs s l:=by
 refine kK.mk' I ⟨h.len,h.src,λe M x y g Z A=>?_,λv x g=>?_⟩ h.h2
 ·cases D:fB e.f with
  |false=>exact absurd (h.rN _ x g A D) (sx)
  |true=>exact h.BC e M D id x y g Z
 ·rcases h.h2 v x g with E|⟨E,_⟩ <;> omega
theorem hH.least{A B:aa GE}(I:∀e∈A,∃g∈B,g.f=e.f/\g.t=e.t/\g.w<=e.w){s k:Nat}{n:Int}(w:hH A s k v n):∃D,hH B s k v D/\D<=n:=by
 induction w with
 |nil=>exact⟨0,.nil,wp _⟩
 |snoc b0 w Z =>
  obtain⟨D,a8,bw⟩:=Z;obtain⟨g,E,M,ao,aT⟩:=I _ b0;refine⟨D+g.w,?_,J⟩;rw[<-ao];exact .snoc E (by rw[M];exact a8)
theorem kK.anu{s:Nat}{gs:aa GE}(A:∀e∈gs,∃D∈cs,D.f=e.f/\D.t=e.t/\D.w<=e.w)(E:∀e∈cs,e∈gs)(h:kK dE N cs s l):kK dE N gs s l:=by
 have up:∀{k v:Nat} {n:Int},hH cs s k v n->hH gs s k v n:=λw=>by
  induction w with
  |nil=>exact .nil
  |snoc Z w M=>exact .snoc (E _ Z) M
 refine⟨h.len,λk v n x w g=>?_,λv x g=>?_⟩
 ·obtain⟨jB,a8,bw⟩:=w.least A;have:=h.low _ _ _ _ a8 g;omega
 ·rcases h.h2 v x g with I|⟨I,k,w⟩
  all_goals grind
def ew(i:Nat):Nat:=(i-1) / 2
def vZ(W:aa Stop)(i j:Nat)(a b:Stop):aa Stop:=(W.set i b).set j a
structure qW (W:aa Stop):Prop where
 up:∀(c:Nat) (x y:Stop),0<c->W[ew c]? = some x->W[c]? = some y->x.2<=y.2
theorem qW.min(h:qW W)(au:W[0]? = some p):∀q∈W,p.2<=q.2:=by
 have M:∀(c:Nat) (y:Stop),W[c]? = some y->p.2<=y.2:=by
  intro c
  induction c using Nat.strongRecOn with
  |_ c I =>
   intro y A
   by_cases E:c=0
   ·grind
   ·have Z:ew c<c:=by unfold ew;omega
    have bo:=(fb.1 A).1;obtain⟨x,g⟩:∃x,W[ew c]? = some x:=⟨_,lo J⟩
    have h1:=I _ Z x g;have ao:=h.up c x y J g A;omega
 intro q D;obtain⟨c,E⟩:=Fi D
 grind
theorem GR(A:W[i]? = some a)(D:W[j]? = some b)(g:i≠j)(q:Nat):(vZ W i j a b)[q]? = if q=j then some a else if q=i then some b else W[q]?:=by
 have ag:=(fb.1 A).1;have E:=(fb.1 D).1;unfold vZ
 grind
theorem AE(W:aa Stop)(i j:Nat)(a b:Stop):(vZ W i j a b).length=W.length:=by unfold vZ;simp
theorem P7(g:W[i]? = some a)(A:W[j]? = some b):(vZ W i j a b).Perm W:=by
 have ag:=(fb.1 g).1;have E:=(fb.1 A).1;have D:W[i]=a:=(fb.1 g).2;have I:W[j]=b:=(fb.1 A).2;unfold vZ
 grind
structure vJ (W:aa Stop) (j:Nat):Prop where
 nl:∀(c:Nat) (x y:Stop),0<c->c≠j->W[ew c]? = some x->W[c]? = some y->x.2<=y.2
 BD:∀(c:Nat) (x y:Stop),0<j->0<c->ew c=j->W[ew j]? = some x->W[c]? = some y->x.2<=y.2
theorem vJ.done(h:vJ W j)(E:∀x y:Stop,0<j->W[ew j]? = some x->W[j]? = some y->x.2<=y.2):qW W:=by
 refine⟨λc x y D g A=>?_⟩
 by_cases e:c=j
 ·grind
 ·exact h.nl c x y D e g A
theorem vJ.step(h:vJ W j)(b5:0<j)(Z:W[ew j]? = some a)(aW:W[j]? = some b)(cb:b.2<a.2):vJ (vZ W (ew j) j a b) (ew j):=by
 have a6:ew j<j:=by unfold ew;omega
 have I:ew j≠j:=J
 have aY:=GR Z aW I;refine⟨λc x y E HX g A=>?_,λc x y M E q6 g A=>?_⟩
 ·rw[aY]at g A
  by_cases D:c=j
  ·grind
  ·rw[if_neg D,if_neg HX]at A
   by_cases c2:ew c=j
   ·rw[if_pos c2]at g;cases g;exact h.BD c a y b5 E c2 Z A
   ·rw[if_neg c2]at g
    by_cases ci:ew c=ew j
    ·rw[if_pos ci]at g;cases g;have:=h.nl c a y E D ab A;omega
    ·rw[if_neg ci]at g;exact h.nl c x y E D g A
 ·have TW:ew (ew j)<ew j:=by
   have:0<ew j:=M;generalize ew j=q at *
   unfold ew;omega
  rw[aY,if_neg J,if_neg J]at g;rw[aY]at A;have h1:=h.nl (ew j) x a M I g Z
  by_cases D:c=j
  ·grind
  ·rw[if_neg D]at A
   by_cases c2:c=ew j
   ·grind
   ·rw[if_neg c2]at A;have:=h.nl c a y E D ab A;omega
theorem vJ.push(h:qW W):vJ (W++[p]) W.length:=by
 refine⟨λc x y E M A g=>?_,λc x y _ E I A g=>?_⟩
 ·have D:=(fb.1 g).1;rw[ib,Ff]at D;have Z:ew c<c:=by unfold ew;omega
  rw[tt J]at A g;exact h.up c x y E A g
 ·have D:=(fb.1 g).1;rw[ib,Ff]at D;have Z:ew c<c:=by unfold ew;omega
  omega
structure vk (W:aa Stop) (n i:Nat):Prop where
 nl:∀(c:Nat) (x y:Stop),0<c->c<n->ew c≠i->W[ew c]? = some x->W[c]? = some y->x.2<=y.2
 BD:∀(c:Nat) (x y:Stop),0<i->0<c->c<n->ew c=i->W[ew i]? = some x->W[c]? = some y->x.2<=y.2
theorem vk.done(h:vk W n i)(ag:∀(c:Nat) (x y:Stop),0<c->c<n->ew c=i->W[i]? = some x->W[c]? = some y->x.2<=y.2):qW (W.take n):=by
 refine⟨λc x y D A g=>?_⟩;have E:=(fb.1 g).1;rw[oc]at E;have I:ew c<c:=by unfold ew;omega
 rw[wk,if_pos J]at A g
 by_cases e:ew c=i
 ·grind
 ·exact h.nl c x y D J e A g
theorem vk.step(h:vk W n i)(b5:0<j)(Z:j<n)(a6:ew j=i)(dR:W[i]? = some a)(aW:W[j]? = some b)(cb:b.2<a.2)(hm:∀(c:Nat) (y:Stop),0<c->c<n->ew c=i->W[c]? = some y->b.2<=y.2):vk (vZ W i j a b) n j:=by
 have Mr:i<j:=by rw[<-a6];unfold ew;omega
 have I:=GR dR aW (by omega:i≠j);refine⟨λc x y E D HX A g=>?_,λc x y _ E D M A g=>?_⟩
 ·have M:ew c<c:=by unfold ew;omega
  rw[I,if_neg HX]at A;rw[I]at g
  by_cases c1:ew c=i
  ·grind
  ·rw[if_neg c1]at A
   by_cases c2:c=j
   ·grind
   ·rw[if_neg c2]at g
    by_cases ci:c=i
    ·subst ci;rw[if_pos rfl]at g;cases g;exact h.BD j x b E b5 Z a6 A aW
    ·rw[if_neg ci]at g;exact h.nl c x y E D c1 A g
 ·have azY:ew c<c:=by unfold ew;omega
  rw[I,a6,if_neg J,if_pos rfl]at A;cases A;rw[I,if_neg J,if_neg J]at g;exact h.nl c b y E D J ab g
theorem vk.pop(h:qW W)(bo:W.length=n+1)(I:W[0]? = some a)(M:W[n]? = some b):vk (vZ W 0 n a b) n 0:=by
 refine⟨λc x y a1 Z a6 g D=>?_,λc x y au=>absurd au (JE 0)⟩;have E:ew c<c:=by unfold ew;omega
 have A:=GR I M (by omega:0≠n);rw[A,if_neg J,if_neg a6]at g;rw[A,if_neg J,if_neg J]at D;exact h.up c x y a1 g D
theorem ars{c:Nat}(g:0<c):ew c=i↔c=2*i+1\/c=2*i+2:=by unfold ew;omega
abbrev gP(p:Stop):aa X:=[(p.1:X),(p.2:X)]
theorem Kf{az:Type}{enc:az->aa X}{k:Nat}(g:∀x,(enc x).length=k)(cs:aa X)(x:az):∀(l:aa az) (i:Nat),i<l.length->(a7 enc l++cs).take (i*k)++enc x++(a7 enc l++cs).drop (i*k+k)=a7 enc (l.set i x)++cs
 | [],i,h=>ab
 |y::l,0,h=>by
  show(enc y++a7 enc l++cs).take (0*k)++enc x++(enc y++a7 enc l++cs).drop (0*k+k)=(enc x++a7 enc l)++cs
  grind
 |y::l,i+1,h=>by
  have A:=Kf g cs x l i ab;show(enc y++a7 enc l++cs).take ((i+1)*k)++enc x++(enc y++a7 enc l++cs).drop ((i+1)*k+k)=(enc y++a7 enc (l.set i x))++cs;have D:(i+1)*k=(enc y).length+i*k:=ab
  have E:(i+1)*k+k=(enc y).length+(i*k+k):=J
  rw[kl (enc y),D,wo,List.take_length_add_append,Fb,kl (enc y),kl (enc y),A,kl]
structure ly (h:ae) (bm b:Nat) (aB:aw Nat) (cap:Nat) (W:aa Stop) (cs:aa X):Prop where
 cell:u h bm=some (.cells [.slice (some ⟨b,0,aB⟩) W.length cap] false)
 ca:u h b=some (.cells (a7 gP W++cs) false)
 len:W.length*2+cs.length=cap*2
 r1:aB=none\/aB=some 2
 ne:b≠bm
theorem u3(p:Stop):(gP p).length=2:=rfl
theorem Ll{cs:aa X}(g:W[i]? = some p):hB (some 2) (i*2) (a7 gP W++cs) = .ok (.agg ⟨[(p.1:X),(p.2:X)]⟩):=by have A:=sD (enc:=gP) u3 g;have ag:=(fb.1 g).1;have D:=fN (enc:=gP) u3 (l:=W);rw[o3,if_pos ab,Fa J,zR ab,A]
theorem ahi{cs:aa X}(g:W[i]? = some p):(a7 gP W++cs)[i*2]? = some (p.1:X)/\(a7 gP W++cs)[i*2+1]? = some (p.2:X):=by
 have ag:=(fb.1 g).1;have A:=fN (enc:=gP) u3 (l:=W);rw[tt J,tt J];have E:=CM (enc:=gP) u3 g (j:=0) J;have D:=CM (enc:=gP) u3 g (j:=1) J
 grind
theorem au6{b:Nat}{cs:aa X}(M:u h b=some (.cells (a7 gP W++cs) false))(bw:W.length=n)(bo:W.length*2+cs.length=cap*2)(mD:aB=none\/aB=some 2)(q8:b<U){b3 db pf:Nat}{li:aw Nat}{I:aa X}{bG:al}(v:Nat)(d:Int)(ao:u h b3=some (.cells I bG))(bd:(I.drop db).take 2=gP (v,d))(kP:n<100000):
  ∃E A g D ac Y,dM 2 h U (.slice (some ⟨b,0,aB⟩) n cap) (.slice (some ⟨b3,db,li⟩) 1 pf) = .ok (.val (.slice (some ⟨E,0,A⟩) (n+1) g) ac Y)/\u ac E=some (.cells (a7 gP (W++[(v,d)])++D) false) /\
   (W++[(v,d)]).length*2+D.length=g*2/\(A=none\/A=some 2)/\(E=b\/E=U)/\U<=Y/\E<Y/\∀c,c≠b->c≠U->u ac c=u h c:=by
 have Z:2<=I.length-db:=by
  have:=congrArg List.length bd
  grind
 have oJ:=fN (enc:=gP) u3 (l:=W);unfold dM;simp only;rw[show Nat.mul 1 2=2 from rfl,rD ao J Z,bd];unfold gZ
 by_cases a1:n+1<=cap
 ·rw[show Nat.ble (Nat.add n 1) cap=true from zV a1];show ∃E A g D ac Y,R.bind (ol h b (Nat.add 0 (Nat.mul n 2)) (gP (v,d))) _=_/\_;rw[show Nat.add 0 (Nat.mul n 2)=n*2 from iE _,CH M rfl ab];refine⟨b,aB,cap,cs.drop 2,_,U,rfl,?_,ab,mD,.inl rfl,cC _,q8,λc h1 _=>ab⟩;rw[jP,if_pos rfl,o4];have aU:(a7 gP W++cs).take (n*2)=a7 gP W:=ab
  have aK:(a7 gP W++cs).drop (n*2+(gP (v,d)).length)=cs.drop 2:=by rw[<-bw,<-oJ,u3,Fb]
  grind
 ·have p3:n=cap:=J
  have nh:cs=[]:=xW J;subst nh;rw[hz]at M;rw[show Nat.ble (Nat.add n 1) cap=false from by
   cases M:Nat.ble (Nat.add n 1) cap with
   |false=>rfl
   |true=>exact absurd (lX M) a1]
  have aK:(Nat.ble (Nat.mul (Nat.add n 1) 2) 1000000&&Nat.ble (Nat.add n 1) 1000000)=true:=by
   simp only[eo,pK]
   grind
  rw[aK];show ∃E A g D ac Y,pU h U 2 (some ⟨b,0,aB⟩) n cap (n+1) (gP (v,d))=_/\_;unfold pU;simp only[uT M];have DW:m8 (Nat.mul n 2) (mY (a7 gP W) 0)=some (a7 gP W):=by
   rw[rA,oe,qG,if_pos ab]
   grind
  rw[DW];rcases mD with rfl|rfl
  ·refine⟨U,some 2,n+1,[],T h U (.cells (a7 gP W++gP (v,d)) false),U+1,?_,?_,ab,.inr rfl,.inr rfl,J,J,λc _ ao=>ab⟩
   ·show pT h U 2 (ks (a7 gP W) (gP (v,d))) _=_;rw[jK];exact pN J
   ·rw[jP,if_pos rfl,o4,hz]
  ·refine⟨U,some 2,n+1,[],T (wZ h b) U (.cells (a7 gP W++gP (v,d)) false),U+1,?_,?_,ab,.inr rfl,.inr rfl,J,J,λc h1 ao=>by rw[jP,if_neg ao,mG,if_neg h1]⟩
   ·have cc:(!false&&Nat.beq 0 0&&Nat.beq (jo (a7 gP W)) (Nat.mul n 2)&&Nat.beq 2 2&&Nat.beq n cap&&d4 (gP (v,d)))=true:=by rw[oi,oJ,bw,p3];simp[gP,d4,gN]
    show(bif _ then _ else _)=_;rw[cc,jK];exact pN (s:=2) (Nat.succ_pos 1)
   ·rw[jP,if_pos rfl,o4,hz]
theorem au7{b:Nat}(g:n+1<=cap):gi 2 (.slice (some ⟨b,0,aB⟩) (n+1) cap) none (some (n:X)) none = .ok (.slice (some ⟨b,0,aB⟩) n cap):=by
 show k6 2 (some ⟨b,0,aB⟩) cap false cap n 0=_;unfold k6;rw[show(Nat.ble cap cap&&(Nat.ble n cap&&Nat.ble 0 n))=true from by simp only[eo,pK];omega];show o6 2 (some ⟨b,0,aB⟩) false cap n 0=_;unfold o6;rw[show Nat.beq cap 0=false from by
  cases cap with
  |zero=>omega
  |succ c=>rfl]
 rfl
def BE(k:Nat)(s:gc):X:=match s.1 with
 |none=>.slice none 0 0
 |some b=>.slice (some ⟨b,0,some k⟩) s.2 s.2
def tX(k:Nat)(l:aa gc):aa X:=l.map (BE k)
theorem Zv{k:Nat}{l:aa gc}{x:gc}(h:l[i]? = some x):(tX k l)[i]? = some (BE k x):=by simp[tX,h]
theorem anv(k:Nat)(l:aa gc):(tX k l).length=l.length:=by simp[tX]
theorem anw(k:Nat)(l:aa gc)(i:Nat)(x:gc):(tX k l).set i (BE k x)=tX k (l.set i x):=by simp[tX,List.map_set]
section
variable {az:Type} {enc:az->aa X} {k:Nat}
structure s3 (enc:az->aa X) (k:Nat) (h:ae) (aQ ap ag:Nat) (hO:aa gc) (gss:aa (aa az)):Prop where
 at_:u h aQ=some (.cells (tX k hO) false)
 HY:aQ<ag
 len:hO.length=gss.length
 each:∀(j:Nat) (s:gc) (g:aa az),hO[j]? = some s->gss[j]? = some g->(g=[]/\s=(none,0))\/∃b,ap<=b/\b<ag/\s=(some b,g.length)/\u h b=some (.cells (a7 enc g) false)
 apart:∀(j k b v0 EY:Nat),hO[j]? = some (some b,v0)->hO[k]? = some (some b,EY)->j=k
 other:∀(j v0:Nat),hO[j]?≠some (some aQ,v0)
theorem s3.F{dk:Nat}{A:aa (aa az)}(L:s3 enc k h aQ ap ag hO A)(I:u ac aQ=u h aQ)(hk:∀b,ap<=b->b<ag->u ac b=u h b)(dv:ag<=dk):s3 enc k ac aQ ap dk hO A where
 at_:=by rw[I];exact L.at_
 HY:=by have:=L.HY;omega
 len:=L.len
 each:=λj s g Z aY=>by
  rcases L.each j s g Z aY with au|⟨b,D,E,e,M⟩
  ·exact .inl au
  ·exact .inr ⟨b,D,J,e,by rw[hk b D E];exact M⟩
 apart:=L.apart
 other:=L.other
theorem s3.below{g:aa (aa az)}(L:s3 enc k h aQ ap ag hO g){b E:Nat}(D:hO[j]? = some (some b,E)):ap<=b/\b<ag:=by
 have Z:g[j]? = some (g[j]'(by rw[<-L.len];exact Xp D)):=lo _;rcases L.each j _ _ D Z with⟨_,A⟩|⟨I,g6,M,A,aW⟩
 ·cases A
 ·have:=congrArg Prod.fst A;have:b=I:=by simpa using this
  omega
theorem s3.hE{A:aa (aa az)}(L:s3 enc k h aQ ap ag hO A){s:gc}{g:aa az}(E:hO[j]? = some s)(M:A[j]? = some g):fA h enc k (BE k s) g s.1:=by
 rcases L.each j s g E M with⟨rfl,rfl⟩|⟨b,Z,I,rfl,D⟩
 ·exact .nil
 ·exact fA.own (enc:=enc) (k:=k) (l:=g) (b:=b) (h:=h) D
theorem s3.add{Y q:Nat}{v:az}{M:aa (aa az)}{s:gc}{g:aa az}(L:s3 enc k h aQ ap U hO M)(sY:ap<=U)(HU:U<Y)(ar:hO[q]? = some s)(aY:M[q]? = some g)(aR:u ac U=some (.cells (a7 enc (g++[v])) false))(ja:∀c,c<U->s.1≠some c->u ac c=u h c):
  u ac aQ=some (.cells (tX k hO) false)/\s3 enc k (T ac aQ (.cells (tX k (hO.set q (some U,g.length+1))) false)) aQ ap Y (hO.set q (some U,g.length+1)) (M.set q (g++[v])):=by
 have c3:=Xp ar;have eR:=L.HY;have azZ:=ja aQ eR (λe=>by obtain⟨mP,kX⟩:=s;have e:mP=some aQ:=e;subst e;exact L.other q kX ar)
 refine⟨azZ.trans L.at_,⟨by simp,J,by simp[L.len],λj lJ cd E I=>?_,λj ha b v0 EY D hk=>?_,λj v0 D=>?_⟩⟩
 ·rw[uN]at E I
  by_cases A:q=j
  ·subst A;rw[if_pos rfl,if_pos c3]at E;rw[if_pos rfl,if_pos (by rw[<-L.len];exact c3)]at I;cases E;cases I;exact .inr ⟨U,sY,J,by simp,by rw[jP,if_neg J];exact aR⟩
  ·rw[if_neg A]at E I;rcases L.each j lJ cd E I with au|⟨b,g6,eR,rfl,aW⟩
   ·exact .inl au
   ·refine .inr ⟨b,g6,J,rfl,?_⟩;have y3:b≠aQ:=λe=>by subst e;exact L.other j _ E
    rw[jP,if_neg y3,ja b J λe=>by obtain⟨mP,kX⟩:=s;have e:mP=some b:=e;subst e;exact A (L.apart q j b _ _ ar E)]
    exact aW
 ·have get:∀(j n:Nat),(hO.set q (some U,g.length+1))[j]? = some (some b,n)->(j=q/\b=U)\/(j≠q/\hO[j]? = some (some b,n)):=λj n D=>by
   rw[uN]at D
   by_cases A:q=j
   ·subst A;rw[if_pos rfl,if_pos c3]at D;injection D with D
    have:=congrArg Prod.fst D;exact .inl ⟨rfl,by simpa using this.symm⟩
   ·rw[if_neg A]at D;exact .inr ⟨λe=>A e.symm,D⟩
  rcases get j v0 D with⟨rfl,aU⟩|⟨_,Er⟩
  ·rcases get ha EY hk with⟨rfl,_⟩|⟨_,Z⟩
   ·rfl
   ·have:=(L.below Z).2;omega
  ·rcases get ha EY hk with⟨rfl,aU⟩|⟨_,Z⟩
   ·have:=(L.below Er).2;omega
   ·exact L.apart j ha b v0 EY Er Z
 ·rw[uN]at D
  by_cases A:q=j
  ·subst A;rw[if_pos rfl,if_pos c3]at D;injection D with D
   have:=congrArg Prod.fst D;have:U=aQ:=by simpa using this
   omega
  ·rw[if_neg A]at D;exact L.other j v0 D
end
def qX(N:Nat)(es:aa GE):aa (aa GE):=(List.range N).map λaO=>es.filter λe=>e.f == aO
theorem Aj(N:Nat)(es:aa GE):(qX N es).length=N:=by simp[qX]
theorem Kg{g:Nat}(A:g<N):(qX N es)[g]? = some (es.filter λe=>e.f == g):=by simp[qX,A]
theorem anx(N:Nat):qX N []=List.replicate N []:=by
 apply pI;intro i
 by_cases h:i<N <;> simp[qX,h]
theorem ak0{e:GE}(g:e.f<N):qX N (es++[e])=(qX N es).set e.f ((es.filter λx=>x.f == e.f)++[e]):=by
 apply pI;intro i;rw[uN]
 by_cases h:i<N
 ·rw[Kg h]
  by_cases ag:e.f=i
  ·subst ag;rw[if_pos rfl,if_pos (by rw[Aj];exact h)];simp[sv]
  ·rw[if_neg ag,Kg h];simp[sv,ag]
 ·rw[xX (by rw[Aj];omega)]
  by_cases ag:e.f=i
  ·omega
  ·rw[if_neg ag,xX (by rw[Aj];omega)]
end Go.Ax
namespace Go.Ax.HdH
open Go Go.Ax
set_option linter.all false
set_option maxHeartbeats 1000000
variable {i:Nat} {cs:aa X} {j n:Nat} {aB:aw Nat} {cap:Nat}
structure e8 where
 v:X
 w:Nat
 k:Int
 n:Nat
 l:aa (Nat × Int)
def eK(i:Nat):Nat:=(i-1) / 2
def s4(W:aa e8)(i j:Nat)(a b:e8):aa e8:=(W.set i b).set j a
structure ow (W:aa e8):Prop where
 up:∀(c:Nat) (x y:e8),0<c->W[eK c]? = some x->W[c]? = some y->x.k<=y.k
variable {W:aa e8} {a b p:e8}
theorem ow.min(h:ow W)(au:W[0]? = some p):∀q∈W,p.k<=q.k:=by
 have M:∀(c:Nat) (y:e8),W[c]? = some y->p.k<=y.k:=by
  intro c
  induction c using Nat.strongRecOn with
  |_ c I =>
   intro y A
   by_cases E:c=0
   ·grind
   ·have Z:eK c<c:=by unfold eK;omega
    have bo:=(fb.1 A).1;obtain⟨x,g⟩:∃x,W[eK c]? = some x:=⟨_,lo J⟩
    have h1:=I _ Z x g;have ao:=h.up c x y J g A;omega
 intro q D;obtain⟨c,E⟩:=Fi D
 grind
theorem Gv(A:W[i]? = some a)(D:W[j]? = some b)(g:i≠j)(q:Nat):(s4 W i j a b)[q]? = if q=j then some a else if q=i then some b else W[q]?:=by
 unfold s4
 grind
theorem As(W:aa e8)(i j:Nat)(a b:e8):(s4 W i j a b).length=W.length:=by unfold s4;simp
theorem Kh(g:W[i]? = some a)(D:W[j]? = some b):(s4 W i j a b).Perm W:=by
 have ag:=(fb.1 g).1;have E:=(fb.1 D).1;have A:W[i]=a:=ab
 have I:W[j]=b:=ab
 rw[<-A,<-I];exact List.set_set_perm ag E
structure vr (W:aa e8) (j:Nat):Prop where
 nl:∀(c:Nat) (x y:e8),0<c->c≠j->W[eK c]? = some x->W[c]? = some y->x.k<=y.k
 BD:∀(c:Nat) (x y:e8),0<j->0<c->eK c=j->W[eK j]? = some x->W[c]? = some y->x.k<=y.k
theorem vr.done(h:vr W j)(E:∀x y:e8,0<j->W[eK j]? = some x->W[j]? = some y->x.k<=y.k):ow W:=by
 refine⟨λc x y D g A=>?_⟩
 by_cases e:c=j
 ·grind
 ·exact h.nl c x y D e g A
theorem vr.step(h:vr W j)(b5:0<j)(M:W[eK j]? = some a)(aW:W[j]? = some b)(cb:b.k<a.k):vr (s4 W (eK j) j a b) (eK j):=by
 have a6:eK j<j:=by unfold eK;omega
 have I:eK j≠j:=J
 have Z:=Gv M aW I;refine⟨λc x y E HX g A=>?_,λc x y uh E q6 g A=>?_⟩
 ·rw[Z]at g A
  by_cases D:c=j
  ·grind
  ·rw[if_neg D,if_neg HX]at A
   by_cases c2:eK c=j
   ·rw[if_pos c2]at g;cases g;exact h.BD c a y b5 E c2 M A
   ·rw[if_neg c2]at g
    by_cases ci:eK c=eK j
    ·rw[if_pos ci]at g;cases g;have:=h.nl c a y E D ab A;omega
    ·rw[if_neg ci]at g;exact h.nl c x y E D g A
 ·have TW:eK (eK j)<eK j:=by
   generalize eK j=q at *
   unfold eK;omega
  rw[Z,if_neg J,if_neg J]at g;rw[Z]at A;have h1:=h.nl (eK j) x a uh I g M
  by_cases D:c=j
  ·grind
  ·rw[if_neg D]at A
   by_cases c2:c=eK j
   ·grind
   ·rw[if_neg c2]at A;have:=h.nl c a y E D ab A;omega
theorem vr.push(h:ow W):vr (W++[p]) W.length:=by
 refine⟨λc x y E M A g=>?_,λc x y _ E I A g=>?_⟩
 ·have D:=(fb.1 g).1;rw[ib,Ff]at D;have Z:eK c<c:=by unfold eK;omega
  rw[tt J]at A g;exact h.up c x y E A g
 ·have D:=(fb.1 g).1;rw[ib,Ff]at D;have Z:eK c<c:=by unfold eK;omega
  omega
structure ve (W:aa e8) (n i:Nat):Prop where
 nl:∀(c:Nat) (x y:e8),0<c->c<n->eK c≠i->W[eK c]? = some x->W[c]? = some y->x.k<=y.k
 BD:∀(c:Nat) (x y:e8),0<i->0<c->c<n->eK c=i->W[eK i]? = some x->W[c]? = some y->x.k<=y.k
theorem ve.done(h:ve W n i)(ag:∀(c:Nat) (x y:e8),0<c->c<n->eK c=i->W[i]? = some x->W[c]? = some y->x.k<=y.k):ow (W.take n):=by
 refine⟨λc x y D A g=>?_⟩;have E:=(fb.1 g).1;rw[oc]at E;have I:eK c<c:=by unfold eK;omega
 rw[wk,if_pos J]at A g
 by_cases e:eK c=i
 ·grind
 ·exact h.nl c x y D J e A g
theorem ve.step(h:ve W n i)(b5:0<j)(M:j<n)(a6:eK j=i)(dR:W[i]? = some a)(aW:W[j]? = some b)(cb:b.k<a.k)(hm:∀(c:Nat) (y:e8),0<c->c<n->eK c=i->W[c]? = some y->b.k<=y.k):ve (s4 W i j a b) n j:=by
 have Mr:i<j:=by rw[<-a6];unfold eK;omega
 have I:=Gv dR aW (by omega:i≠j);refine⟨λc x y E D Z A g=>?_,λc x y _ E D q6 A g=>?_⟩
 ·rw[I,if_neg Z]at A;rw[I]at g
  by_cases c1:eK c=i
  ·grind
  ·rw[if_neg c1]at A
   by_cases c2:c=j
   ·grind
   ·rw[if_neg c2]at g
    by_cases ci:c=i
    ·subst ci;rw[if_pos rfl]at g;cases g;exact h.BD j x b E b5 M a6 A aW
    ·rw[if_neg ci]at g;exact h.nl c x y E D c1 A g
 ·have azY:eK c<c:=by unfold eK;omega
  rw[I,a6,if_neg J,if_pos rfl]at A;cases A;rw[I,if_neg J,if_neg J]at g;exact h.nl c b y E D J ab g
theorem ve.pop(h:ow W)(bo:W.length=n+1)(I:W[0]? = some a)(M:W[n]? = some b):ve (s4 W 0 n a b) n 0:=by
 refine⟨λc x y a1 Z a6 g D=>?_,J⟩;have E:eK c<c:=by unfold eK;omega
 have A:=Gv I M (by omega:0≠n);rw[A,if_neg J,if_neg a6]at g;rw[A,if_neg J,if_neg J]at D;exact h.up c x y a1 g D
theorem anz{c:Nat}(g:0<c):eK c=i↔c=2*i+1\/c=2*i+2:=by unfold eK;omega
abbrev hp(p:e8):aa X:=[p.v,(p.w:X)]
structure pc (h:ae) (bm b:Nat) (aB:aw Nat) (cap:Nat) (W:aa e8) (cs bx:aa X):Prop where
 cell:u h bm=some (.cells (.slice (some ⟨b,0,aB⟩) W.length cap::bx) false)
 ca:u h b=some (.cells (a7 hp W++cs) false)
 len:W.length*2+cs.length=cap*2
 r1:aB=none\/aB=some 2
 ne:b≠bm
theorem wB(p:e8):(hp p).length=2:=rfl
theorem K2(g:W[i]? = some p):hB (some 2) (i*2) (a7 hp W++cs) = .ok (.agg ⟨[p.v,(p.w:X)]⟩):=by have A:=sD (enc:=hp) wB g;have ag:=(fb.1 g).1;have D:=fN (enc:=hp) wB (l:=W);rw[o3,if_pos ab,Fa J,zR ab,A]
theorem afN(g:W[i]? = some p):(a7 hp W++cs)[i*2]? = some p.v/\(a7 hp W++cs)[i*2+1]? = some (p.w:X):=by
 have ag:=(fb.1 g).1;have A:=fN (enc:=hp) wB (l:=W);rw[tt J,tt J];have E:=CM (enc:=hp) wB g (j:=0) J;have D:=CM (enc:=hp) wB g (j:=1) J
 grind
theorem art{h:ae}{U b:Nat}(M:u h b=some (.cells (a7 hp W++cs) false))(bw:W.length=n)(bo:W.length*2+cs.length=cap*2)(mD:aB=none\/aB=some 2)(q8:b<U){b3 db pf:Nat}{li:aw Nat}{I:aa X}{bG:al}(z:e8)(c0:gN z.v=true)(ao:u h b3=some (.cells I bG))(bd:(I.drop db).take 2=hp z)(kP:n<100000):
  ∃E A g D ac Y,dM 2 h U (.slice (some ⟨b,0,aB⟩) n cap) (.slice (some ⟨b3,db,li⟩) 1 pf) = .ok (.val (.slice (some ⟨E,0,A⟩) (n+1) g) ac Y)/\u ac E=some (.cells (a7 hp (W++[z])++D) false) /\
   (W++[z]).length*2+D.length=g*2/\(A=none\/A=some 2)/\(E=b\/E=U)/\U<=Y/\E<Y/\∀c,c≠b->c≠U->u ac c=u h c:=by
 have fO:2<=I.length-db:=by
  have:=congrArg List.length bd
  grind
 have oJ:=fN (enc:=hp) wB (l:=W);unfold dM;simp only;rw[show Nat.mul 1 2=2 from rfl,rD ao J fO,bd];unfold gZ
 by_cases a1:n+1<=cap
 ·rw[show Nat.ble (Nat.add n 1) cap=true from zV a1];show ∃E A g D ac Y,R.bind (ol h b (Nat.add 0 (Nat.mul n 2)) (hp z)) _=_/\_;rw[show Nat.add 0 (Nat.mul n 2)=n*2 from iE _,CH M (by show d4 [z.v,(z.w:X)]=true;rw[ry,c0];rfl) ab];refine⟨b,aB,cap,cs.drop 2,_,U,rfl,?_,ab,mD,.inl rfl,cC _,q8,λc h1 _=>ab⟩;rw[jP,if_pos rfl,o4];have aU:(a7 hp W++cs).take (n*2)=a7 hp W:=ab
  have aK:(a7 hp W++cs).drop (n*2+(hp z).length)=cs.drop 2:=by rw[<-bw,<-oJ,wB,Fb]
  grind
 ·have p3:n=cap:=J
  have nh:cs=[]:=xW J;subst nh;rw[hz]at M;rw[show Nat.ble (Nat.add n 1) cap=false from by
   cases M:Nat.ble (Nat.add n 1) cap with
   |false=>rfl
   |true=>exact absurd (lX M) a1]
  have aK:(Nat.ble (Nat.mul (Nat.add n 1) 2) 1000000&&Nat.ble (Nat.add n 1) 1000000)=true:=by
   simp only[eo,pK]
   grind
  rw[aK];show ∃E A g D ac Y,pU h U 2 (some ⟨b,0,aB⟩) n cap (n+1) (hp z)=_/\_;unfold pU;simp only[uT M];have Z:m8 (Nat.mul n 2) (mY (a7 hp W) 0)=some (a7 hp W):=by
   rw[rA,oe,qG,if_pos ab]
   grind
  rw[Z];rcases mD with rfl|rfl
  ·refine⟨U,some 2,n+1,[],T h U (.cells (a7 hp W++hp z) false),U+1,?_,?_,ab,.inr rfl,.inr rfl,J,J,λc _ ao=>ab⟩
   ·show pT h U 2 (ks (a7 hp W) (hp z)) _=_;rw[jK];exact pN J
   ·rw[jP,if_pos rfl,o4,hz]
  ·refine⟨U,some 2,n+1,[],T (wZ h b) U (.cells (a7 hp W++hp z) false),U+1,?_,?_,ab,.inr rfl,.inr rfl,J,J,λc h1 ao=>by rw[jP,if_neg ao,mG,if_neg h1]⟩
   ·have cc:(!false&&Nat.beq 0 0&&Nat.beq (jo (a7 hp W)) (Nat.mul n 2)&&Nat.beq 2 2&&Nat.beq n cap&&d4 (hp z))=true:=by
     rw[oi,oJ,bw,p3];have a1:d4 (hp z)=true:=by show d4 [z.v,(z.w:X)]=true;rw[ry,c0];rfl
     rw[a1];simp
    show(bif _ then _ else _)=_;rw[cc,jK];exact pN (s:=2) (Nat.succ_pos 1)
   ·rw[jP,if_pos rfl,o4,hz]
theorem aru{b:Nat}(g:n+1<=cap):gi 2 (.slice (some ⟨b,0,aB⟩) (n+1) cap) none (some (n:X)) none = .ok (.slice (some ⟨b,0,aB⟩) n cap):=by
 show k6 2 (some ⟨b,0,aB⟩) cap false cap n 0=_;unfold k6;rw[show(Nat.ble cap cap&&(Nat.ble n cap&&Nat.ble 0 n))=true from by simp only[eo,pK];omega];show o6 2 (some ⟨b,0,aB⟩) false cap n 0=_;unfold o6;rw[show Nat.beq cap 0=false from by
  cases cap with
  |zero=>omega
  |succ c=>rfl]
 rfl
end Go.Ax.HdH
namespace Go.Ax
open Go
variable {j:Nat} {O:aa (Nat × Int)} {es:aa MapEntry} {t:Nat} {az:Type} {seen:aa Nat} {b:Nat} {d:aw Nat} {a:Nat} {ak:ch} {z:X} {ok:al} {cap:Nat} {p:Prop} {aH:Nat}
def jT(r:Int)(l:aa (Nat × Int))(v:Nat):aw Int:=fo r (l.map λp=>if p.1=v then some p.2 else none)
theorem yn(r:Int)(l g:aa (Nat × Int))(v:Nat):jT r (l++g) v=e4 r (jT r l v) (jT r g v):=by unfold jT;rw[iU,F7]
theorem Pe{r:Int}{l g:aa (Nat × Int)}(h:l.Perm g)(v:Nat):jT r l v=jT r g v:=by exact Yk ab
theorem C7(r:Int)(p:Nat × Int)(v:Nat):jT r [p] v=if p.1=v then some p.2 else none:=by show e4 r (if p.1=v then some p.2 else none) none=_;rw[rz]
theorem anA{r:Int}{l:aa (Nat × Int)}{v:Nat}(h:∀p∈l,p.1≠v):jT r l v=none:=by
 refine yc λx g=>?_
 grind
def ra(r:Int)(O:aa (Nat × Int))(p:Nat × Int):aa (Nat × Int):=match O.getLast? with
 |some q=>if q.1=p.1 then O.dropLast++[(q.1,jR r q.2 p.2)]else O++[p]
 |none=>O++[p]
structure zh (r:Int) (O M:aa (Nat × Int)) (av:Nat->aw Int):Prop where
 up:O.Pairwise λx y=>x.1<y.1
 le:∀o∈O,∀p∈M,o.1<=p.1
 IW:∀v,e4 r (jT r O v) (jT r M v)=av v
theorem zh.step{r:Int}{M D:aa (Nat × Int)}{av:Nat->aw Int}{p:Nat × Int}(H:zh r O M av)(a6:(p::D).Perm M)(hm:∀q∈M,p.1<=q.1):zh r (ra r O p) D av:=by
 have I:∀v,jT r M v=e4 r (if p.1=v then some p.2 else none) (jT r D v):=λv=>by rw[<-Pe a6,show p::D=[p]++D from rfl,yn,C7]
 unfold ra;cases bo:O.getLast? with
 |none =>
  have:O=[]:=List.getLast?_eq_none_iff.1 bo;subst this;refine⟨ab,λo g q c3=>?_,λv=>?_⟩
  ·grind
  ·rw[<-H.IW v,I v,sy,C7];show _=e4 r none _;rw[FP]
 |some q =>
  obtain⟨O',kj⟩:=Ji.1 bo;subst kj;have c3:=H.le q ab;have Es:=tv.1 H.up
  by_cases e:q.1=p.1
  ·simp only[if_pos e,List.dropLast_concat];refine⟨tv.2 ⟨Es.1,ab,λa A b aW=>?_⟩,λo g Z E=>?_,λv=>?_⟩
   ·grind
   ·rcases he.1 g with g|g
    ·exact H.le o ab Z ab
    grind
   ·rw[<-H.IW v,I v,yn,yn,C7,C7,tx,tx]
    congr 1
    rw[<-tx]
    congr 1
    by_cases ek:q.1=v
    ·rw[if_pos ek,if_pos ek,if_pos J];rfl
    ·rw[if_neg ek,if_neg ek,if_neg J];rfl
  ·simp only[if_neg e];refine⟨tv.2 ⟨H.up,ab,λa A b aW=>?_⟩,λo g Z E=>?_,λv=>?_⟩
   ·rw[iu.1 aW];rcases he.1 A with A|A
    ·have h1:=Es.2.2 a A q ab
     grind
    grind
   ·rcases he.1 g with g|g
    ·exact H.le o g Z ab
    grind
   ·rw[<-H.IW v,I v,yn,C7,tx]
theorem Rh{r:Int}:∀{O:aa (Nat × Int)},(O.Pairwise λx y=>x.1<y.1)->∀v x,jT r O v=some x↔(v,x)∈O
 | [],_,v,x=>⟨nofun,ab⟩
 |p::O,h,v,x=>by
  have g:=uM.1 h;rw[show p::O=[p]++O from rfl,yn,C7,he,iu]
  by_cases e:p.1=v
  ·have A:jT r O v=none:=anA ab;rw[if_pos e,A,rz]
   grind
  ·rw[if_neg e,FP,Rh g.2]
   grind
theorem zh.done{r:Int}{n:Nat}{av:Nat->aw Int}(H:zh r O [] av)(A:∀v,n<=v->av v=none):O=bj n av:=by
 have g:∀v,jT r O v=av v:=λv=>by have:=H.IW v;rwa[show jT r [] v=none from rfl,rz]at this
 refine Rg H.up λi x=>?_;rw[<-Rh  H.up,g]
 grind
set_option linter.all false
set_option maxHeartbeats 1000000
set_option linter.unusedSectionVars false
section
variable {P:Program}  {s:al} {f:FuncId} {l:aa X} {h:ae} {U:Nat} {v:X} {K:bN}
theorem aE.fZ(H:aE P s f l h U (λr ac Y=>r=v/\ac=h/\Y=U))(g:K v h U):aE P s f l h U K:=H.mono λ_ _ _ ⟨a,b,c⟩=>by subst a b c;exact g
theorem aE.cu(H:aE P s f l h U (λr ac Y=>r=v/\aA U h ac/\U<=Y))(g:∀ac Y,aA U h ac->U<=Y->K v ac Y):aE P s f l h U K:=H.mono λ_ _ _ ⟨a,b,c⟩=>by subst a;exact g _ _ b c
end
structure w9 {iY:Type} [DecidableEq iY] (P:Program) (dT:TypeId) (cu:iY->X):Prop where
 ok:∀k,yA P dT (cu k)=true
 eq:∀a b,k7 P dT (cu a) (cu b)=some (decide (a=b))
 same:∀k,ov (cu k) (cu k)=true
theorem Pf{P:Program}{dT:Nat}(g:wE P dT=true):w9 P dT (λx:Int=>(x:X)):=by
 have e:∀a b:Int,k7 P dT (.int .i64 a) (.int .i64 b)=some (decide (a=b)):=λa b=>by show(bif mC .i64 .i64&&wE P dT then some (fk a b)else none)=_;rw[g,k4];rfl
 exact⟨λk=>by show(k7 P dT (.int .i64 k) (.int .i64 k)).isSome=true;grind,e,λk=>by show(mC .i64 .i64&&fk k k)=true;rw[wy,k4];simp⟩
section
variable {iY:Type} [DecidableEq iY] {P:Program} {dT:TypeId} {cu:iY->X} {h:ae} {r c:Nat} {L:aa (iY × X × Nat)} {k:iY} {x v:X}
def lz(cu:iY->X)(L:aa (iY × X × Nat)):aa MapEntry:=L.map λe=>{ key:=cu e.1,val:=e.2.1,born:=e.2.2 }
structure i7 (h:ae) (r:Nat) (cu:iY->X) (L:aa (iY × X × Nat)) (c:Nat):Prop where
 at_:u h r=some (.map (lz cu L) c)
 up:L.Pairwise λa b=>a.2.2<b.2.2
 lt:∀e∈L,e.2.2<c
 po:L.Pairwise λa b=>a.1≠b.1
theorem i7.F{ac:ae}(H:i7 h r cu L c)(g:u ac r=u h r):i7 ac r cu L c:={ H with at_:=g.trans H.at_ }
def iK(L:aa (iY × X × Nat))(k:iY):aw X:=(L.find? λe=>decide (k=e.1)).map (·.2.1)
theorem yd(e:iY × X × Nat):iK (e::L) k=if k=e.1 then some e.2.1 else iK L k:=by
 unfold iK
 grind
theorem Pg{g:aa (iY × X × Nat)}:iK (L++g) k=(iK L k).or (iK g k):=by
 unfold iK
 grind
theorem FQ:iK L k=none↔∀e∈L,k≠e.1:=by unfold iK;simp
theorem Ki(g:L.Pairwise λa b=>a.1≠b.1):iK L k=some v↔∃n,(k,v,n)∈L:=by
 induction L with
 |nil=>simp[iK]
 |cons e L A =>
  rw[uM]at g;rw[yd]
  grind
theorem Ph(K:w9 P dT cu):∀(L:aa (iY × X × Nat)) (i:Nat),iK L k=none->kJ P dT (cu k) (lz cu L) i=some none
 | [],_,_=>rfl
 |e::L,i,h=>by have g:=FQ.1 h;show(match k7 P dT (cu k) (cu e.1)with|some true=>_|some false=>kJ P dT (cu k) (lz cu L) (Nat.succ i)|none=>none)=_;rw[K.eq,hA (g e (mr ..))];exact Ph K L _ (FQ.2 ab)
theorem OK(K:w9 P dT cu):∀(L:aa (iY × X × Nat)) (i:Nat),iK L k=some v->∃A n E,L=A++(k,v,n)::E/\kJ P dT (cu k) (lz cu L) i=some (some (i+A.length,{ key:=cu k,val:=v,born:=n }))
 | [],_,h=>by cases h
 |e::L,i,h=>by
  have g:kJ P dT (cu k) (lz cu (e::L)) i=(match k7 P dT (cu k) (cu e.1)with|some true=>some (some (i,{ key:=cu e.1,val:=e.2.1,born:=e.2.2 }))|some false=>kJ P dT (cu k) (lz cu L) (Nat.succ i)|none=>none):=rfl;rw[yd]at h
  by_cases D:k=e.1
  ·rw[if_pos D]at h;cases h;subst D;refine⟨[],e.2.2,L,rfl,?_⟩;rw[g,K.eq,gY rfl];rfl
  ·rw[if_neg D]at h;obtain⟨A,n,E,I,M⟩:=OK K L (i+1) h;refine⟨e::A,n,E,ab,?_⟩;rw[g,K.eq,hA D]
   grind
theorem xa(K:w9 P dT cu)(H:i7 h r cu L c):j3 P h dT z ok (.map (some r)) (cu k) = .ok (om ok ((iK L k).getD z) (iK L k).isSome):=by
 unfold j3;rw[K.ok];show k8 h r (λes _=>match kJ P dT (cu k) es 0 with|some (some (_,x))=>R.ok (om ok x.val true)|some none=>.ok (om ok z false)|none=>.no "lookup - key")=_;unfold k8;rw[H.at_];simp only;cases g:iK L k with
 |none=>rw[Ph K L 0 g];rfl
 |some v =>
  obtain⟨D,n,A,_,e⟩:=OK K L 0 g
  grind
theorem az0(H:i7 h r cu L c):w2 h (.map (some r)) = .ok (L.length:X):=by rw[auW];unfold k8;rw[H.at_];show i6 .i64 (.ofNat (jo (lz cu L)))=_;rw[oi];unfold lz;rw[gX];rfl
theorem Hv(K:w9 P dT cu)(H:i7 h r cu L c)(D:iK L k=none):m9 P dT h (.map (some r)) (cu k) x = .ok (T h r (.map (lz cu (L++[(k,x,c)])) (c+1)))/\∀ac,u ac r=some (.map (lz cu (L++[(k,x,c)])) (c+1))->i7 ac r cu (L++[(k,x,c)]) (c+1):=by
 constructor
 ·unfold m9;rw[K.ok];show k8 h r _=_;unfold k8;rw[H.at_];simp only[Ph K L 0 D,jK];unfold lz
  grind
 ·refine λac E=>⟨E,tv.2 ⟨H.up,ab,λa g b A=>?_⟩,λe I=>?_,tv.2 ⟨H.po,ab,λa g b A=>?_⟩⟩
  ·rw[iu.1 A];exact H.lt a g
  ·rcases he.1 I with e|e
   ·have:=H.lt _ e;omega
   grind
  ·rw[iu.1 A];exact λe=>FQ.1 D a g e.symm
theorem Hw{c:Nat}(g:u h r=some (.map [] c)):i7 h r cu ([]:aa (iY × X × Nat)) c:=⟨g,.nil,ab,.nil⟩
theorem ax0(K:w9 P dT cu){n:Nat}(H:i7 h r cu [(k,v,n)] c):m9 P dT h (.map (some r)) (cu k) x = .ok (T h r (.map (lz cu [(k,x,n)]) c)):=by
 unfold m9;rw[K.ok];show k8 h r _=_;unfold k8;rw[H.at_];obtain⟨A,m,E,g,D⟩:=OK  K [(k,v,n)] 0 (by rw[yd];exact if_pos rfl);simp only[D];cases A with
 |cons a l=>have:=congrArg List.length g;grind
 |nil =>
  cases g;rw[K.same];rfl
theorem WY:∀{L:aa (iY × X × Nat)},L.Pairwise (λa b=>a.2.2<b.2.2)->(∀e∈L,e.2.2<c)->C6 c (lz cu L)=true
 | [],_,_=>rfl
 | [e],_,h=>by show(Nat.blt e.2.2 c&&true)=true;rw[Bool.and_true];exact(o5 _ _).trans ab
 |e::f::L,g,h=>by rw[uM]at g;show(Nat.blt e.2.2 f.2.2&&C6 c (lz cu (f::L)))=true;rw[WY g.2 ab,Bool.and_true];exact(o5 _ _).trans ab
end
def h0(i:Nat):X:=(i:X)
theorem rE{P:Program}{dT:Nat}(g:wE P dT=true):w9 P dT h0 :=
 ⟨λk=>(Pf g).ok _,λa b=>by show k7 P dT (a:X) (b:X)=_;rw[(Pf g).eq];congr 1;grind,λk=>(Pf  g).same _⟩
structure iN (h:ae) (r n:Nat) (K:Nat->al) (V:Nat->X->Prop):Prop where
 ex:∃L c,i7 h r h0 L c/\(∀e∈L,e.1<n/\V e.1 e.2.1)/\∀i,i<n->(K i=true↔∃e∈L,e.1=i)
section
variable {h ac:ae} {r n i:Nat} {K:Nat->al} {V VI:Nat->X->Prop} {P:Program} {x:X}
theorem iN.F(H:iN h r n K V)(I:u ac r=u h r)(D:∀i v,V i v->VI i v):iN ac r n K VI:=by obtain⟨L,c,E,g,M⟩:=H.ex;exact⟨L,c,E.F I,λe A=>⟨ab,D _ _ (g e A).2⟩,M⟩
theorem iN.get(H:iN h r n K V)(ag:wE P 3=true)(A:i<n):∃v,j3 P h 3 z ok (.map (some r)) (h0 i) = .ok (om ok (if K i=true then v else z) (K i))/\(K i=true->V i v):=by
 obtain⟨L,c,D,E,ao⟩:=H.ex;have e:=xa (rE ag) D (k:=i) (z:=z) (ok:=ok);cases g:iK L i with
 |none =>
  have I:K i=false:=by
   cases hk:K i with
   |false=>rfl
   |true =>
    obtain⟨y,M,Z⟩:=(ao i A).1 hk;exact absurd Z.symm (FQ.1 g y M)
  rw[g]at e;exact⟨z,ab,λh=>by rw[I]at h;cases h⟩
 |some v =>
  obtain⟨m,hm⟩:=(Ki D.po).1 g;rw[g]at e;exact⟨v,ab,λ_=>(E _ hm).2⟩
theorem iN.put(H:iN h r n K V)(ag:wE P 3=true)(A:i<n)(h8:K i=false)(D:V i x):∃o,m9 P 3 h (.map (some r)) (h0 i) x = .ok (T h r o)/\∀ac,u ac r=some o->iN ac r n (λk=>if k=i then true else K k) V:=by
 obtain⟨L,c,h9,E,ao⟩:=H.ex;have M:iK L i=none:=FQ.2 ab;obtain⟨I,aK⟩:=Hv  (rE ag) h9 M;refine⟨_,I,λac Z=>⟨_,_,aK ac Z,λe g=>?_,λk hk=>?_⟩⟩
 ·rcases he.1 g with g|g
  ·exact E e g
  ·rw[iu.1 g];exact⟨A,D⟩
 ·by_cases e:k=i
  ·subst e;rw[if_pos rfl];exact⟨λ_=>⟨_,he.2 (.inr (iu.2 rfl)),rfl⟩,ab⟩
  ·rw[if_neg e,ao k hk];constructor
   ·rintro⟨y,ck,cc⟩;grind
   grind
theorem iN.no{c:Nat}(g:u h r=some (.map [] c)):iN h r n (λ_=>false) V:=⟨[],c,Hw g,λe A=>(sx A).elim,ab⟩
theorem F8:∀(n:Nat) (l:aa Nat),l.Nodup->(∀x∈l,x<n)->l.length<=n
 |0,[],_,_=>ab
 |0,x::l,_,h=>absurd (h x ab) J
 |n+1,l,g,h=>by
  have A:=F8 n (l.erase n) ab ab
  grind
theorem adE:∀(n:Nat) (l:aa Nat),(∀i,i<n->i∈l)->n<=l.length
 |0,_,_=>J
 |n+1,l,h=>by
  have g:=adE n (l.erase n) ab
  grind
theorem ak1{n:Nat}{l:aa Nat}(D:l.Nodup)(h:∀x∈l,x<n):(l.length<n↔∃i,i<n/\i ∉ l):=by
 constructor
 ·intro E;apply wj;intro A;have:=adE n l ab;omega
 ·rintro⟨i,ag,g⟩;have:=F8 n (i::l) ab ab
  grind
theorem iN.len(H:iN h r n K V):∃m:Nat,w2 h (.map (some r)) = .ok (m:X)/\m<=n/\(m<n↔∃i,i<n/\K i=false):=by
 obtain⟨L,c,A,M,Z⟩:=H.ex;have E:(L.map (·.1)).Nodup:=wl.2 A.po;have D:∀x∈L.map (·.1),x<n:=ab
 have g:=F8 n _ E D;have I:=ak1 E D;rw[gX]at g I;refine⟨L.length,az0 A,g,ab⟩
 all_goals grind
end
inductive ct where
 |share (i j t:Nat)
 |spread (i j t:Nat)
 |dA (i j t:Nat)
 |dB (i t:Nat)
 |order (i t:Nat)
def ct.src(C:Nat):ct->Nat
 | .share i _ _=>i*C
 | .spread _ j _=>j
 | .dA i j _=>i*C+j
 | .dB i _=>i*C
 | .order _ _=>0
def ct.dst(C:Nat):ct->Nat
 | .share _ j _=>j
 | .spread i j _=>i*C+j
 | .dA i _ _=>i*C
 | .dB _ _=>0
 | .order i _=>i*C
def hD(b:al):Nat:=if b then 1 else 0
variable {m bD:ct}
theorem R7:hD false=0:=rfl
theorem Ri(b:al):hD b<=1:=by cases b <;> decide
def up{az:Type}(f:Nat->az)(i:Nat)(x:az):Nat->az:=λn=>if n=i then x else f n
theorem g4(f:Nat->az)(i:Nat)(x:az):up f i x i=x:=if_pos rfl
theorem hf{f:Nat->az}{i n:Nat}{x:az}(h:n≠i):up f i x n=f n:=if_neg h
def l4:Nat->al:=λ_=>false
def na(n:Nat)(K:Nat->al):Prop:=∀i,i<n->K i=true
instance (n:Nat) (K:Nat->al):Decidable (na n K):=by unfold na;exact inferInstance
theorem Pj{n:Nat}{K:Nat->al}(h:¬na n K):∃i,i<n/\K i=false:=by
 unfold na at h
 grind
structure gd where
 P:Nat->Nat
 e9:Nat->Nat->al
 q:Nat->Nat->Nat
 a:Nat->Nat
 dU:Nat->Nat->al
 w:Nat->al
 V:Nat
 fQ:Nat->al
 out:Nat->aa ct
section
variable (R C av:Nat) (x:gd)
def il(i j:Nat):Nat:=x.P j+hD (x.e9 j i)
def fR(i j:Nat):Nat:=if x.w i=true then x.a i else x.a i-1+hD (x.dU i j)
def ju(i:Nat):Nat:=x.V+hD (x.fQ i)
def jv(i:Nat):Nat:=if x.w i=true then x.a i+1 else x.a i
structure Ord:Prop where
 au:∀i,i<R->x.a i<=av+1/\(x.w i=true->x.a i<=av)/\(x.w i=false->1<=x.a i)
 h1:∀i j,i<R->j<C->il x i j<=x.a i/\il x i j<=av
 ao:∀i j,i<R->j<C->x.q i j<=x.P j
 aT:∀i j,i<R->j<C->fR x i j<=x.q i j
 a9:∀i,i<R->ju x i<=jv x i
 bY:∀i,i<R->x.a i<=x.V
 a5:∀j,j<C->∃i,i<R/\x.e9 j i=false
 bQ:∃i,i<R/\x.fQ i=false
 bT:∀i,i<R->x.w i=false->x.a i<=av->∃j,j<C/\x.dU i j=false
def gz:ct->Prop
 | .share i j t=>i<R/\j<C/\il x i j<t/\t<=x.a i/\t<=av
 | .spread i j t=>i<R/\j<C/\x.q i j<t/\t<=x.P j
 | .dA i j t=>i<R/\j<C/\fR x i j<t/\t<=x.q i j
 | .dB i t=>i<R/\ju x i<=t/\t<jv x i
 | .order i t=>i<R/\x.a i<=t/\t<x.V
def nm:ct->Prop
 | .share i j t=>i<R/\j<C/\t=x.P j+1/\x.e9 j i=false/\t<=av
 | .spread i j t=>i<R/\j<C/\t=x.q i j+1/\t<=av
 | .dA i j t=>i<R/\j<C/\x.w i=false/\t=x.a i/\1<=t/\t<=av/\x.dU i j=false
 | .dB i t=>i<R/\t=x.V/\x.fQ i=false/\t<=av
 | .order i t=>i<R/\x.w i=true/\t=x.a i/\t<=av
def d1:ct->aa ct
 | .share i j t=>if na R (up (x.e9 j) i true)then(List.range R).map λk=>.spread k j t else[]
 | .spread i j t=>[.dA i j t]
 | .dA i j t=>if na C (up (x.dU i) j true)then[.dB i t]else[]
 | .dB i t=>if na R (up x.fQ i true)then(List.range R).map λk=>.order k t else[]
 | .order i t=>if t<av then(List.range C).map λk=>.share i k (t+1)else[]
def A9:ct->gd
 | .share i j _=>if na R (up (x.e9 j) i true)then{ x with P:=up x.P j (x.P j+1),e9:=up x.e9 j l4 }else{ x with e9:=up x.e9 j (up (x.e9 j) i true) }
 | .spread i j _=>{ x with q:=up x.q i (up (x.q i) j (x.q i j+1)) }
 | .dA i j _=>if na C (up (x.dU i) j true)then{ x with dU:=up x.dU i (up (x.dU i) j true),w:=up x.w i true }else{ x with dU:=up x.dU i (up (x.dU i) j true) }
 | .dB i _=>if na R (up x.fQ i true)then{ x with V:=x.V+1,fQ:=l4 }else{ x with fQ:=up x.fQ i true }
 | .order i _=>{ x with a:=up x.a i (x.a i+1),w:=up x.w i false,dU:=up x.dU i l4 }
def cS(m:ct):gd:={ A9 R C x m with out:=up x.out (m.dst C) (x.out (m.dst C)++d1 R C av x m) }
end
section
variable {R C av:Nat} {x:gd}
theorem ax1(i j:Nat)(H:Ord R C av x)(ag:i<R):jv x i<=1+fR x i j/\fR x i j<=x.a i:=by
 have:=H.au i ag;unfold jv fR;cases g:x.w i with
 |true=>grind
 |false =>
  have:=Ri (x.dU i j)
  grind
theorem Lm{i:Nat}(g:x.w i=false):fR x i j=x.a i-1+hD (x.dU i j):=by unfold fR;grind
theorem az1{i:Nat}(g:x.w i=true):fR x i j=x.a i:=by unfold fR;grind
theorem yB{i:Nat}(g:x.w i=false):jv x i=x.a i:=by unfold jv;grind
theorem DZ{i:Nat}(g:x.w i=true):jv x i=x.a i+1:=by unfold jv;grind
theorem Ord.kM(H:Ord R C av x){i g:Nat}(ag:i<R)(ac:aH<R)(D:g<R)(A:j<C):
  x.a i<=x.V/\x.V<=ju x aH/\ju x aH<=x.V+1/\ju x aH<=jv x aH/\jv x aH<=1+fR x aH j/\fR x aH j<=x.q aH j/\x.q aH j<=x.P j/\x.P j<=il x g j/\il x g j<=x.P j+1/\il x g j<=x.a g/\il x g j<=av/\x.a i<=av+1:=by have aD:=H.bY i ag;have I:=H.a9 aH ac;have a3:=ax1 aH j H ac;have Z:=H.aT aH j ac A;have bA:=H.ao aH j ac A;have bp:=H.h1 g j D A;have ba:=Ri (x.fQ aH);have E:=Ri (x.e9 j g);have M:ju x aH=x.V+hD (x.fQ aH):=rfl;have aK:il x g j=x.P j+hD (x.e9 j g):=rfl;omega
theorem R8{b:al}(h:hD b=0):b=false:=by cases b with|false=>rfl|true=>cases h
theorem Dn(H:Ord R C av x)(Z:0<C)(I:gz R C av x m):nm R C av x m:=by
 cases m with
 |share i j t =>
  obtain⟨ag,A,E,M,aT⟩:=I;have b:=H.kM ag ag ag A;have aK:il x i j=x.P j+hD (x.e9 j i):=rfl;have D:hD (x.e9 j i)=0:=J
  exact⟨ag,A,J,R8 D,aT⟩
 |spread i j t =>
  obtain⟨ag,A,E,M⟩:=I;have b:=H.kM ag ag ag A;exact⟨ag,A,J,J⟩
 |dA i j t =>
  obtain⟨ag,A,E,M⟩:=I;have b:=H.kM ag ag ag A;cases g:x.w i with
  |true=>rw[az1 g]at E;omega
  |false =>
   have e:=Lm (j:=j) g;have D:hD (x.dU i j)=0:=J
   exact⟨ag,A,g,J,J,J,R8 D⟩
 |dB i t =>
  obtain⟨ag,E,M⟩:=I;have b:=H.kM ag ag ag Z;have aK:ju x i=x.V+hD (x.fQ i):=rfl;have D:hD (x.fQ i)=0:=J
  cases g:x.w i with
  |true=>rw[DZ g]at *;exact⟨ag,J,R8 D,J⟩
  |false=>rw[yB g]at *;exact⟨ag,J,J,J⟩
 |order i t =>
  obtain⟨ag,E,M⟩:=I;have b:=H.kM ag ag ag Z;cases g:x.w i with
  |true=>rw[DZ g]at *;exact⟨ag,g,J,J⟩
  |false=>rw[yB g]at *;omega
end
section
variable {R C av:Nat} {x:gd}
theorem JV{i:Nat}(h:nm R C av x (.share i j t)):
  (∀aH g,aH<R->il (cS R C av x (.share i j t)) aH g=il x aH g+if aH=i/\g=j then 1 else 0) /\
  (cS R C av x (.share i j t)).q=x.q/\(cS R C av x (.share i j t)).a=x.a/\(cS R C av x (.share i j t)).dU=x.dU/\(cS R C av x (.share i j t)).w=x.w/\(cS R C av x (.share i j t)).V=x.V/\(cS R C av x (.share i j t)).fQ=x.fQ /\
  (∀g,g≠j->(cS R C av x (.share i j t)).P g=x.P g/\(cS R C av x (.share i j t)).e9 g=x.e9 g) /\
  ((na R (up (x.e9 j) i true)/\(cS R C av x (.share i j t)).P j=x.P j+1/\(cS R C av x (.share i j t)).e9 j=l4/\d1 R C av x (.share i j t)=(List.range R).map λk=>.spread k j t) \/
   (¬na R (up (x.e9 j) i true)/\(cS R C av x (.share i j t)).P j=x.P j/\(cS R C av x (.share i j t)).e9 j=up (x.e9 j) i true/\d1 R C av x (.share i j t)=[])):=by
 obtain⟨ag,b5,cq,a6,_⟩:=h
 by_cases Z:na R (up (x.e9 j) i true)
 ·rw[show cS R C av x (.share i j t)={ ({ x with P:=up x.P j (x.P j+1),e9:=up x.e9 j l4 }:gd)with out:=up x.out (ct.dst C (ct.share i j t)) (x.out (ct.dst C (ct.share i j t))++d1 R C av x (.share i j t)) } by unfold cS A9;grind];have M:d1 R C av x (.share i j t)=(List.range R).map λk=>ct.spread k j t:=by unfold d1;grind
  rw[M];refine⟨λaH g I=>?_,rfl,rfl,rfl,rfl,rfl,rfl,λg A=>⟨hf A,hf A⟩,.inl ⟨Z,g4 _ _ _,g4 _ _ _,rfl⟩⟩;show up x.P j (x.P j+1) g+hD (up x.e9 j l4 g aH)=x.P g+hD (x.e9 g aH)+_
  by_cases D:g=j
  ·subst D;rw[g4,g4]
   by_cases E:aH=i
   ·subst E;rw[a6];simp[l4,hD]
   ·have:=Z aH I;rw[hf E]at this;rw[this,if_neg (λh=>E h.1)];simp[l4,hD]
  ·rw[hf D,hf D,if_neg (λh=>D h.2)];rfl
 ·rw[show cS R C av x (.share i j t)={ ({ x with e9:=up x.e9 j (up (x.e9 j) i true) }:gd)with out:=up x.out (ct.dst C (ct.share i j t)) (x.out (ct.dst C (ct.share i j t))++d1 R C av x (.share i j t)) } by unfold cS A9;grind];have M:d1 R C av x (.share i j t)=[]:=by unfold d1;grind
  rw[M];refine⟨λaH g I=>?_,rfl,rfl,rfl,rfl,rfl,rfl,λg A=>⟨rfl,hf A⟩,.inr ⟨Z,rfl,g4 _ _ _,rfl⟩⟩;show x.P g+hD (up x.e9 j (up (x.e9 j) i true) g aH)=x.P g+hD (x.e9 g aH)+_
  by_cases D:g=j
  ·subst D;rw[g4]
   by_cases E:aH=i
   ·subst E;rw[a6,g4];simp[hD]
   ·rw[hf E,if_neg (λh=>E h.1)];rfl
  ·rw[hf D,if_neg (λh=>D h.2)];rfl
theorem JN{i:Nat}(h:nm R C av x (.dA i j t)):
  (∀aH g,g<C->fR (cS R C av x (.dA i j t)) aH g=fR x aH g+if aH=i/\g=j then 1 else 0) /\
  (cS R C av x (.dA i j t)).P=x.P/\(cS R C av x (.dA i j t)).e9=x.e9/\(cS R C av x (.dA i j t)).q=x.q/\(cS R C av x (.dA i j t)).a=x.a/\(cS R C av x (.dA i j t)).V=x.V/\(cS R C av x (.dA i j t)).fQ=x.fQ /\
  (∀aH,aH≠i->(cS R C av x (.dA i j t)).w aH=x.w aH/\(cS R C av x (.dA i j t)).dU aH=x.dU aH) /\
  ((na C (up (x.dU i) j true)/\(cS R C av x (.dA i j t)).w i=true/\d1 R C av x (.dA i j t)=[.dB i t]) \/
   (¬na C (up (x.dU i) j true)/\(cS R C av x (.dA i j t)).w i=false/\(cS R C av x (.dA i j t)).dU i=up (x.dU i) j true/\d1 R C av x (.dA i j t)=[])):=by
 obtain⟨ag,b5,bO,cq,h1,_,aY⟩:=h
 by_cases Z:na C (up (x.dU i) j true)
 ·rw[show cS R C av x (.dA i j t)={ ({ x with dU:=up x.dU i (up (x.dU i) j true),w:=up x.w i true }:gd)with out:=up x.out (ct.dst C (ct.dA i j t)) (x.out (ct.dst C (ct.dA i j t))++d1 R C av x (.dA i j t)) } by unfold cS A9;grind];have M:d1 R C av x (.dA i j t)=[ct.dB i t]:=by unfold d1;grind
  rw[M];refine⟨λaH g I=>?_,rfl,rfl,rfl,rfl,rfl,rfl,λaH A=>⟨hf A,hf A⟩,.inl ⟨Z,g4 _ _ _,rfl⟩⟩;show(if up x.w i true aH=true then x.a aH else x.a aH-1+hD (up x.dU i (up (x.dU i) j true) aH g))=(if x.w aH=true then x.a aH else x.a aH-1+hD (x.dU aH g))+_
  by_cases E:aH=i
  ·subst E;simp only[g4,bO,if_true,nB,fg,true_and]
   by_cases D:g=j
   ·subst D;rw[aY];simp[hD];omega
   ·have:=Z g I;rw[hf D]at this;rw[this,if_neg D];simp[hD];omega
  ·simp only[hf E,E,false_and,fg];rfl
 ·rw[show cS R C av x (.dA i j t)={ ({ x with dU:=up x.dU i (up (x.dU i) j true) }:gd)with out:=up x.out (ct.dst C (ct.dA i j t)) (x.out (ct.dst C (ct.dA i j t))++d1 R C av x (.dA i j t)) } by unfold cS A9;grind];have M:d1 R C av x (.dA i j t)=[]:=by unfold d1;grind
  rw[M];refine⟨λaH g I=>?_,rfl,rfl,rfl,rfl,rfl,rfl,λaH A=>⟨rfl,hf A⟩,.inr ⟨Z,bO,g4 _ _ _,rfl⟩⟩;show(if x.w aH=true then x.a aH else x.a aH-1+hD (up x.dU i (up (x.dU i) j true) aH g))=(if x.w aH=true then x.a aH else x.a aH-1+hD (x.dU aH g))+_
  by_cases E:aH=i
  ·subst E;simp only[g4,bO,nB,fg,true_and]
   by_cases D:g=j
   ·subst D;rw[aY,g4];simp[hD]
   ·rw[hf D,if_neg D];rfl
  ·simp only[hf E,E,false_and,fg];rfl
theorem JY{i:Nat}(h:nm R C av x (.dB i t)):
  (∀aH,aH<R->ju (cS R C av x (.dB i t)) aH=ju x aH+if aH=i then 1 else 0) /\
  (cS R C av x (.dB i t)).P=x.P/\(cS R C av x (.dB i t)).e9=x.e9/\(cS R C av x (.dB i t)).q=x.q/\(cS R C av x (.dB i t)).a=x.a/\(cS R C av x (.dB i t)).dU=x.dU/\(cS R C av x (.dB i t)).w=x.w /\
  ((na R (up x.fQ i true)/\(cS R C av x (.dB i t)).V=x.V+1/\(cS R C av x (.dB i t)).fQ=l4/\d1 R C av x (.dB i t)=(List.range R).map λk=>.order k t) \/
   (¬na R (up x.fQ i true)/\(cS R C av x (.dB i t)).V=x.V/\(cS R C av x (.dB i t)).fQ=up x.fQ i true/\d1 R C av x (.dB i t)=[])):=by
 obtain⟨ag,M,E,_⟩:=h
 by_cases I:na R (up x.fQ i true)
 ·rw[show cS R C av x (.dB i t)={ ({ x with V:=x.V+1,fQ:=l4 }:gd)with out:=up x.out (ct.dst C (ct.dB i t)) (x.out (ct.dst C (ct.dB i t))++d1 R C av x (.dB i t)) } by unfold cS A9;grind];have D:d1 R C av x (.dB i t)=(List.range R).map λk=>ct.order k t:=by unfold d1;grind
  rw[D];refine⟨λaH A=>?_,rfl,rfl,rfl,rfl,rfl,rfl,ab⟩;show x.V+1+hD (l4 aH)=x.V+hD (x.fQ aH)+_
  by_cases g:aH=i
  ·subst g;rw[E];simp[l4,hD]
  ·have:=I aH A;rw[hf g]at this;rw[this,if_neg g];simp[l4,hD]
 ·rw[show cS R C av x (.dB i t)={ ({ x with fQ:=up x.fQ i true }:gd)with out:=up x.out (ct.dst C (ct.dB i t)) (x.out (ct.dst C (ct.dB i t))++d1 R C av x (.dB i t)) } by unfold cS A9;grind];have D:d1 R C av x (.dB i t)=[]:=by unfold d1;grind
  rw[D];refine⟨λaH A=>?_,rfl,rfl,rfl,rfl,rfl,rfl,ab⟩;show x.V+hD (up x.fQ i true aH)=x.V+hD (x.fQ aH)+_
  by_cases g:aH=i
  ·subst g;rw[E,g4];simp[hD]
  ·rw[hf g,if_neg g];rfl
theorem JO{i:Nat}:
  (cS R C av x (.spread i j t)).P=x.P/\(cS R C av x (.spread i j t)).e9=x.e9/\(cS R C av x (.spread i j t)).a=x.a/\(cS R C av x (.spread i j t)).dU=x.dU/\(cS R C av x (.spread i j t)).w=x.w/\(cS R C av x (.spread i j t)).V=x.V/\(cS R C av x (.spread i j t)).fQ=x.fQ /\
  (cS R C av x (.spread i j t)).q i j=x.q i j+1/\(∀aH g,¬(aH=i/\g=j)->(cS R C av x (.spread i j t)).q aH g=x.q aH g)/\d1 R C av x (.spread i j t)=[.dA i j t]:=by
 refine⟨rfl,rfl,rfl,rfl,rfl,rfl,rfl,?_,λaH g D=>?_,rfl⟩
 ·show up x.q i (up (x.q i) j (x.q i j+1)) i j=_;rw[g4,g4]
 ·show up x.q i (up (x.q i) j (x.q i j+1)) aH g=_
  by_cases A:aH=i
  ·subst A;rw[g4,hf J]
  ·rw[hf A]
theorem On{i:Nat}(h:nm R C av x (.order i t)):
  (cS R C av x (.order i t)).P=x.P/\(cS R C av x (.order i t)).e9=x.e9/\(cS R C av x (.order i t)).q=x.q/\(cS R C av x (.order i t)).V=x.V/\(cS R C av x (.order i t)).fQ=x.fQ /\
  (∀aH g,fR (cS R C av x (.order i t)) aH g=fR x aH g)/\(∀aH,jv (cS R C av x (.order i t)) aH=jv x aH)/\(cS R C av x (.order i t)).a i=x.a i+1/\(cS R C av x (.order i t)).w i=false/\(cS R C av x (.order i t)).dU i=l4 /\
  (∀aH,aH≠i->(cS R C av x (.order i t)).a aH=x.a aH/\(cS R C av x (.order i t)).w aH=x.w aH/\(cS R C av x (.order i t)).dU aH=x.dU aH) /\
  d1 R C av x (.order i t)=if t<av then(List.range C).map λk=>.share i k (t+1)else[]:=by
 obtain⟨ag,D,E,_⟩:=h;refine⟨rfl,rfl,rfl,rfl,rfl,λaH g=>?_,λaH=>?_,g4 _ _ _,g4 _ _ _,g4 _ _ _,λaH h=>⟨hf h,hf h,hf h⟩,rfl⟩
 ·show(if up x.w i false aH=true then up x.a i (x.a i+1) aH else up x.a i (x.a i+1) aH-1+hD (up x.dU i l4 aH g))=if x.w aH=true then x.a aH else x.a aH-1+hD (x.dU aH g)
  by_cases A:aH=i
  ·subst A;simp[g4,D,l4,hD]
  ·simp only[hf A]
 ·show(if up x.w i false aH=true then up x.a i (x.a i+1) aH+1 else up x.a i (x.a i+1) aH)=if x.w aH=true then x.a aH+1 else x.a aH
  by_cases A:aH=i
  ·subst A;simp[g4,D]
  ·simp only[hf A]
theorem wH{n:Nat}{f:Nat->ct}:m∈(List.range n).map f↔∃k,k<n/\f k=m:=by simp
theorem step(H:Ord R C av x)(d0:0<C)(ef:0<R)(hm:gz R C av x m):
  Ord R C av (cS R C av x m)/\∀bD,gz R C av (cS R C av x m) bD↔(gz R C av x bD/\bD≠m)\/bD∈d1 R C av x m:=by
 have bd:=Dn H d0 hm;cases m with
 |share i j t =>
  obtain⟨es,eq,E,rk,fa,uB,BF,gE,qv⟩:=JV bd;obtain⟨ag,b5,cq,a6,eI⟩:=bd;obtain⟨_,_,fL,fY,lP⟩:=hm;generalize ck:cS R C av x (.share i j t)=y at *
  have ui:∀aH g,fR y aH g=fR x aH g:=λaH g=>by unfold fR;grind
  have M:∀aH,jv y aH=jv x aH:=λaH=>by unfold jv;grind
  have Z:∀aH,ju y aH=ju x aH:=λaH=>by unfold ju;grind
  have eij:=es i j ag;rw[if_pos ⟨rfl,rfl⟩]at eij;refine⟨⟨λaH ac=>?_,λaH g ac A=>?_,λaH g ac A=>?_,λaH g ac A=>?_,λaH ac=>?_,λaH ac=>?_,λg A=>?_,?_,λaH ac=>?_⟩,λbD=>?_⟩
  ·rw[E,fa];exact H.au aH ac
  ·rw[es aH g ac,E];have:=H.h1 aH g ac A
   grind
  ·rw[eq];have:=H.ao aH g ac A
   grind
  ·rw[ui,eq];exact H.aT aH g ac A
  ·rw[Z,M];exact H.a9 aH ac
  ·rw[E,uB];exact H.bY aH ac
  ·by_cases e:g=j
   ·subst e;rcases qv with⟨_,_,aU,_⟩|⟨aL,_,aU,_⟩
    ·exact⟨i,ag,by rw[aU];rfl⟩
    ·rw[aU];exact Pj aL
   ·rw[(gE g e).2];exact H.a5 g A
  ·rw[BF];exact H.bQ
  ·rw[fa,E,rk];exact H.bT aH ac
  ·cases bD with
   |share aH g D =>
    have I:ct.share aH g D ∉ d1 R C av x (.share i j t):=ab
    simp only[gz,I,kn,E,ne_eq,ct.share.injEq];constructor
    ·rintro⟨aD,a2,a3,aZ,bA⟩;rw[es aH g aD]at a3
     by_cases e:aH=i/\g=j
     ·rw[if_pos e]at a3;obtain⟨rfl,rfl⟩:=e;have:il x aH g=x.P g:=by unfold il;rw[a6];rfl
      omega
     omega
    ·rintro⟨⟨aD,a2,a3,aZ,bA⟩,eh⟩;refine⟨aD,a2,?_,aZ,bA⟩;rw[es aH g aD]
     by_cases e:aH=i/\g=j
     ·rw[if_pos e];obtain⟨rfl,rfl⟩:=e;have:il x aH g=x.P g:=by unfold il;rw[a6];rfl
      omega
     grind
   |spread aH g D =>
    rcases qv with⟨_,aU,_,aK⟩|⟨_,aU,_,aK⟩
    ·rw[aK,wH];simp only[gz,eq,ne_eq,reduceCtorEq,km,iw]
     by_cases e:g=j
     ·subst e;rw[aU];constructor
      ·grind
      ·rintro(⟨aD,a2,a3,aZ⟩|⟨k,hk,b0⟩)
       ·omega
       ·cases b0;exact⟨hk,b5,by have:=H.ao _ _ hk b5;omega,J⟩
     grind
    ·rw[aK];simp only[gz,eq,ne_eq,reduceCtorEq,km,iw,sx,kn]
     grind
   |dA aH g D =>
    have I:ct.dA aH g D ∉ d1 R C av x (.share i j t):=ab
    simp only[gz,I,kn,ui,eq,ne_eq,reduceCtorEq,km,iw]
   |dB aH D =>
    have I:ct.dB aH D ∉ d1 R C av x (.share i j t):=ab
    simp only[gz,I,kn,Z,M,ne_eq,reduceCtorEq,km,iw]
   |order aH D =>
    have I:ct.order aH D ∉ d1 R C av x (.share i j t):=ab
    simp only[gz,I,kn,E,uB,ne_eq,reduceCtorEq,km,iw]
 |spread i j t =>
  obtain⟨mf,BG,E,rk,fa,uB,BF,aU,gE,eM⟩:=JO;obtain⟨ag,b5,cq,eI⟩:=bd;obtain⟨_,_,fL,fY⟩:=hm;generalize ck:cS R C av x (.spread i j t)=y at *
  have s5:∀aH g,il y aH g=il x aH g:=λaH g=>by unfold il;grind
  have ui:∀aH g,fR y aH g=fR x aH g:=λaH g=>by unfold fR;grind
  have M:∀aH,jv y aH=jv x aH:=λaH=>by unfold jv;grind
  have Z:∀aH,ju y aH=ju x aH:=λaH=>by unfold ju;grind
  refine⟨⟨λaH ac=>?_,λaH g ac A=>?_,λaH g ac A=>?_,λaH g ac A=>?_,λaH ac=>?_,λaH ac=>?_,λg A=>?_,?_,λaH ac=>?_⟩,λbD=>?_⟩
  ·rw[E,fa];exact H.au aH ac
  ·rw[s5,E];exact H.h1 aH g ac A
  ·rw[mf]
   by_cases e:aH=i/\g=j
   ·grind
   ·rw[gE aH g e];exact H.ao aH g ac A
  ·rw[ui];have:=H.aT aH g ac A
   grind
  ·rw[Z,M];exact H.a9 aH ac
  ·rw[E,uB];exact H.bY aH ac
  ·rw[BG];exact H.a5 g A
  ·rw[BF];exact H.bQ
  ·rw[fa,E,rk];exact H.bT aH ac
  ·rw[eM,iu];cases bD with
   |share aH g D=>simp only[gz,s5,E,ne_eq,reduceCtorEq,km,iw,kn]
   |spread aH g D =>
    simp only[gz,mf,ne_eq,ct.spread.injEq,reduceCtorEq,kn]
    grind
   |dA aH g D =>
    simp only[gz,ui,ne_eq,ct.dA.injEq,reduceCtorEq,km,iw]
    by_cases e:aH=i/\g=j
    ·obtain⟨rfl,rfl⟩:=e;rw[aU];constructor
     ·omega
     ·rintro(⟨aD,a2,a3,aZ⟩|⟨_,_,rfl⟩)
      ·omega
      ·exact⟨ag,b5,by have:=H.aT aH g ag b5;omega,J⟩
    grind
   |dB aH D=>simp only[gz,Z,M,ne_eq,reduceCtorEq,km,iw,kn]
   |order aH D=>simp only[gz,E,uB,ne_eq,reduceCtorEq,km,iw,kn]
 |dA i j t =>
  obtain⟨es,mf,BG,eq,E,uB,BF,gE,qv⟩:=JN bd;obtain⟨ag,b5,bO,cq,h1t,eI,aY⟩:=bd;obtain⟨_,_,fL,fY⟩:=hm;generalize ck:cS R C av x (.dA i j t)=y at *
  have s5:∀aH g,il y aH g=il x aH g:=λaH g=>by unfold il;grind
  have Z:∀aH,ju y aH=ju x aH:=λaH=>by unfold ju;grind
  have M:∀aH,aH≠i->jv y aH=jv x aH:=λaH h=>by unfold jv;grind
  refine⟨⟨λaH ac=>?_,λaH g ac A=>?_,λaH g ac A=>?_,λaH g ac A=>?_,λaH ac=>?_,λaH ac=>?_,λg A=>?_,?_,λaH ac=>?_⟩,λbD=>?_⟩
  ·rw[E]
   by_cases e:aH=i
   ·grind
   ·rw[(gE aH e).1];exact H.au aH ac
  ·rw[s5,E];exact H.h1 aH g ac A
  ·rw[mf,eq];exact H.ao aH g ac A
  ·rw[es aH g A,eq];have:=H.aT aH g ac A
   grind
  ·rw[Z];have:=H.a9 aH ac
   by_cases e:aH=i
   ·subst e;rw[yB bO]at this;rcases qv with⟨_,aU,_⟩|⟨_,aU,_⟩
    ·rw[DZ aU,E];omega
    ·rw[yB aU,E];omega
   grind
  ·rw[E,uB];exact H.bY aH ac
  ·rw[BG];exact H.a5 g A
  ·rw[BF];exact H.bQ
  ·rw[E]
   by_cases e:aH=i
   ·subst e;rcases qv with⟨_,aU,_⟩|⟨aL,aU,aK,_⟩
    ·grind
    ·rw[aK];exact λ_ _=>Pj aL
   ·rw[(gE aH e).1,(gE aH e).2];exact H.bT aH ac
  ·cases bD with
   |share aH g D =>
    have I:ct.share aH g D ∉ d1 R C av x (.dA i j t):=ab
    simp only[gz,I,kn,s5,E,ne_eq,reduceCtorEq,km,iw]
   |spread aH g D =>
    have I:ct.spread aH g D ∉ d1 R C av x (.dA i j t):=ab
    simp only[gz,I,kn,mf,eq,ne_eq,reduceCtorEq,km,iw]
   |dA aH g D =>
    have I:ct.dA aH g D ∉ d1 R C av x (.dA i j t):=ab
    simp only[gz,I,kn,eq,ne_eq,ct.dA.injEq];constructor
    ·rintro⟨aD,a2,a3,aZ⟩;rw[es aH g a2]at a3
     by_cases e:aH=i/\g=j
     ·rw[if_pos e]at a3;obtain⟨rfl,rfl⟩:=e;have jD:=Lm (j:=g) bO;omega
     omega
    ·rintro⟨⟨aD,a2,a3,aZ⟩,eh⟩;refine⟨aD,a2,?_,aZ⟩;rw[es aH g a2]
     by_cases e:aH=i/\g=j
     ·rw[if_pos e];obtain⟨rfl,rfl⟩:=e;have jD:=Lm (j:=g) bO;omega
     grind
   |dB aH D =>
    by_cases e:aH=i
    ·subst e;have jD:=yB bO;rcases qv with⟨_,aU,aK⟩|⟨_,aU,_,aK⟩
     ·rw[aK,iu];simp only[gz,Z,DZ aU,E,jD,ne_eq,reduceCtorEq,km,iw,ct.dB.injEq,true_and];constructor
      ·omega
      ·rintro(⟨aD,a2,a3⟩|rfl)
       ·omega
       ·exact⟨ag,by have:=H.a9 aH ag;omega,J⟩
     ·rw[aK];simp only[gz,Z,yB aU,E,jD,ne_eq,reduceCtorEq,km,iw,sx,kn]
    ·have I:ct.dB aH D ∉ d1 R C av x (.dA i j t):=ab
     simp only[gz,I,kn,Z,M aH e,ne_eq,reduceCtorEq,km,iw]
   |order aH D =>
    have I:ct.order aH D ∉ d1 R C av x (.dA i j t):=ab
    simp only[gz,I,kn,E,uB,ne_eq,reduceCtorEq,km,iw]
 |dB i t =>
  obtain⟨es,mf,BG,eq,E,rk,fa,qv⟩:=JY bd;obtain⟨ag,cq,aI,eI⟩:=bd;obtain⟨_,fL,fY⟩:=hm;generalize ck:cS R C av x (.dB i t)=y at *
  have s5:∀aH g,il y aH g=il x aH g:=λaH g=>by unfold il;grind
  have ui:∀aH g,fR y aH g=fR x aH g:=λaH g=>by unfold fR;grind
  have M:∀aH,jv y aH=jv x aH:=λaH=>by unfold jv;grind
  have jD:ju x i=x.V:=by unfold ju;rw[aI];rfl
  refine⟨⟨λaH ac=>?_,λaH g ac A=>?_,λaH g ac A=>?_,λaH g ac A=>?_,λaH ac=>?_,λaH ac=>?_,λg A=>?_,?_,λaH ac=>?_⟩,λbD=>?_⟩
  ·rw[E,fa];exact H.au aH ac
  ·rw[s5,E];exact H.h1 aH g ac A
  ·rw[mf,eq];exact H.ao aH g ac A
  ·rw[ui,eq];exact H.aT aH g ac A
  ·rw[es aH ac,M];have:=H.a9 aH ac
   grind
  ·rw[E];have:=H.bY aH ac;omega
  ·rw[BG];exact H.a5 g A
  ·rcases qv with⟨_,_,aU,_⟩|⟨aL,_,aU,_⟩
   ·exact⟨i,ag,by rw[aU];rfl⟩
   ·rw[aU];exact Pj aL
  ·rw[fa,E,rk];exact H.bT aH ac
  ·cases bD with
   |share aH g D =>
    have I:ct.share aH g D ∉ d1 R C av x (.dB i t):=ab
    simp only[gz,I,kn,s5,E,ne_eq,reduceCtorEq,km,iw]
   |spread aH g D =>
    have I:ct.spread aH g D ∉ d1 R C av x (.dB i t):=ab
    simp only[gz,I,kn,mf,eq,ne_eq,reduceCtorEq,km,iw]
   |dA aH g D =>
    have I:ct.dA aH g D ∉ d1 R C av x (.dB i t):=ab
    simp only[gz,I,kn,ui,eq,ne_eq,reduceCtorEq,km,iw]
   |dB aH D =>
    have I:ct.dB aH D ∉ d1 R C av x (.dB i t):=ab
    simp only[gz,I,kn,M,ne_eq,ct.dB.injEq]
    grind
   |order aH D =>
    rcases qv with⟨_,aU,_,aK⟩|⟨_,aU,_,aK⟩
    ·rw[aK,wH];simp only[gz,E,aU,ne_eq,reduceCtorEq,km,iw];constructor
     ·grind
     ·rintro(⟨aD,a2,a3⟩|⟨k,hk,b0⟩)
      ·omega
      ·cases b0;exact⟨hk,by have:=H.bY _ hk;omega,J⟩
    ·rw[aK];simp only[gz,E,aU,ne_eq,reduceCtorEq,km,iw,sx,kn]
 |order i t =>
  obtain⟨mf,BG,eq,uB,BF,ui,M,E,fa,rk,gE,eM⟩:=On bd;obtain⟨ag,bO,cq,eI⟩:=bd;obtain⟨_,fL,fY⟩:=hm;generalize ck:cS R C av x (.order i t)=y at *
  have s5:∀aH g,il y aH g=il x aH g:=λaH g=>by unfold il;grind
  have Z:∀aH,ju y aH=ju x aH:=λaH=>by unfold ju;grind
  refine⟨⟨λaH ac=>?_,λaH g ac A=>?_,λaH g ac A=>?_,λaH g ac A=>?_,λaH ac=>?_,λaH ac=>?_,λg A=>?_,?_,λaH ac=>?_⟩,λbD=>?_⟩
  ·by_cases e:aH=i
   ·grind
   ·rw[(gE aH e).1,(gE aH e).2.1];exact H.au aH ac
  ·rw[s5];have:=H.h1 aH g ac A
   grind
  ·rw[mf,eq];exact H.ao aH g ac A
  ·rw[ui,eq];exact H.aT aH g ac A
  ·rw[Z,M];exact H.a9 aH ac
  ·rw[uB]
   by_cases e:aH=i
   ·grind
   ·rw[(gE aH e).1];exact H.bY aH ac
  ·rw[BG];exact H.a5 g A
  ·rw[BF];exact H.bQ
  ·by_cases e:aH=i
   ·subst e;rw[rk];exact λ_ _=>⟨0,d0,rfl⟩
   ·rw[(gE aH e).1,(gE aH e).2.1,(gE aH e).2.2];exact H.bT aH ac
  ·cases bD with
   |share aH g D =>
    by_cases cb:t<av
    ·rw[eM,if_pos cb,wH];simp only[gz,s5,ne_eq,reduceCtorEq,km,iw]
     by_cases e:aH=i
     ·subst e;rw[E];constructor
      ·grind
      ·rintro(⟨aD,a2,a3,aZ,bA⟩|⟨k,hk,b0⟩)
       ·omega
       ·cases b0;exact⟨ag,hk,by have:=H.h1 _ _ ag hk;omega,J,J⟩
     grind
    ·rw[eM,if_neg cb];simp only[gz,s5,ne_eq,reduceCtorEq,km,iw,sx,kn]
     grind
   |spread aH g D =>
    have I:ct.spread aH g D ∉ d1 R C av x (.order i t):=ab
    simp only[gz,I,kn,mf,eq,ne_eq,reduceCtorEq,km,iw]
   |dA aH g D =>
    have I:ct.dA aH g D ∉ d1 R C av x (.order i t):=ab
    simp only[gz,I,kn,ui,eq,ne_eq,reduceCtorEq,km,iw]
   |dB aH D =>
    have I:ct.dB aH D ∉ d1 R C av x (.order i t):=ab
    simp only[gz,I,kn,Z,M,ne_eq,reduceCtorEq,km,iw]
   |order aH D =>
    have I:ct.order aH D ∉ d1 R C av x (.order i t):=ab
    simp only[gz,I,kn,uB,ne_eq,ct.order.injEq]
    grind
end
def uj{az:Type}(f:Nat->Nat->az)(i j:Nat)(x:az):Nat->Nat->az:=up f i (up (f i) j x)
theorem qR(f:Nat->Nat->az)(i j:Nat)(x:az):uj f i j x i j=x:=by unfold uj;rw[g4,g4]
theorem qS{f:Nat->Nat->az}{i:Nat}{x:az}(h:¬(a=i/\b=j)):uj f i j x a b=f a b:=by
 unfold uj
 by_cases e:a=i
 ·subst e;rw[g4,hf J]
 ·rw[hf e]
theorem P8{R C av:Nat}{x:gd}{o:Nat->aa ct}:gz R C av { x with out:=o } m=gz R C av x m:=by cases m <;> rfl
theorem tD{C i mS:Nat}(h:i*C+j=aH*C+mS)(A:j<C)(g:mS<C):i=aH/\j=mS:=by
 have D:(i*C+j) / C=i:=by rw[x4,Nat.mul_add_div J,NV A,og]
 have E:(aH*C+mS) / C=aH:=by rw[x4,Nat.mul_add_div J,NV g,og]
 grind
theorem pQ{R C i:Nat}(ag:i<R)(g:j<C):i*C+j<R*C:=by
 have:(i+1)*C<=R*C:=qD C ag
 grind
section
variable {R C av:Nat} {x:gd} {cK:Nat->Nat->aa ct}
theorem K3(g:0<C)(h:gz R C av x m):m.src C<R*C/\m.dst C<R*C:=by
 cases m with
 |share i j t=>obtain⟨a,b,_⟩:=h;have:=pQ  a g;have:=pQ   (by omega:0<R) b;simp only[ct.src,ct.dst];omega
 |spread i j t=>obtain⟨a,b,_⟩:=h;have:=pQ a b;simp only[ct.src,ct.dst];omega
 |dA i j t=>obtain⟨a,b,_⟩:=h;have:=pQ a b;simp only[ct.src,ct.dst];omega
 |dB i t=>obtain⟨a,_⟩:=h;have:=pQ  a g;simp only[ct.src,ct.dst];omega
 |order i t=>obtain⟨a,_⟩:=h;have:=pQ  a g;simp only[ct.src,ct.dst];omega
structure pg (R C av:Nat) (x:gd) (cK:Nat->Nat->aa ct):Prop where
 ord:Ord R C av x
 e7:∀n m,m∈x.out n->m.src C=n/\gz R C av x m
 db:∀n jB m,m∈cK n jB->m.src C=n/\m.dst C=jB/\gz R C av x m
 gn:∀m,gz R C av x m->m∈x.out (m.src C)\/m∈cK (m.src C) (m.dst C)
 mg:∀n,(x.out n).Nodup
 v5:∀n jB,(cK n jB).Nodup
 nY:∀n jB m,m∈x.out n->m ∉ cK n jB
theorem pg.pick(H:pg R C av x cK){n:Nat}{r:aa ct}(h:x.out n=m::r):pg R C av { x with out:=up x.out n r } (uj cK n (m.dst C) (cK n (m.dst C)++[m])):=by
 have hm:m∈x.out n:=ab
 have bw:=H.mg n;rw[h,JC]at bw;obtain⟨Z,bK⟩:=H.e7 n m hm;have sub:∀k bD,bD∈up x.out n r k->bD∈x.out k/\¬(k=n/\bD=m):=λk bD g=>by
  by_cases e:k=n
  ·subst e;rw[g4]at g
   grind
  ·rw[hf e]at g;grind
 refine⟨⟨H.ord.au,H.ord.h1,H.ord.ao,H.ord.aT,H.ord.a9,H.ord.bY,H.ord.a5,H.ord.bQ,H.ord.bT⟩,λk bD g=>?_,λk A bD g=>?_,λbD D=>?_,λk=>?_,λk A=>?_,λk A bD g=>?_⟩
 ·rw[P8];exact H.e7 k bD ab
 ·rw[P8]
  by_cases e:k=n/\A=m.dst C
  ·obtain⟨rfl,rfl⟩:=e;rw[qR,he,iu]at g;rcases g with g|rfl
   ·exact H.db _ _ bD g
   ·exact⟨Z,rfl,bK⟩
  ·rw[qS e]at g;exact H.db k A bD g
 ·rw[P8]at D;rcases H.gn bD D with E|E
  ·by_cases e:bD=m
   ·subst e
    right
    rw[Z,qR];simp
   ·left
    show bD∈up x.out n r (bD.src C)
    by_cases aK:bD.src C=n
    ·rw[aK,g4]
     grind
    ·rw[hf aK];omega
  ·right
   by_cases e:bD.src C=n/\bD.dst C=m.dst C
   ·rw[e.1,e.2,qR,he]
    grind
   ·rw[qS e];omega
 ·show(up x.out n r k).Nodup
  by_cases e:k=n
  ·subst e;rw[g4];grind
  ·rw[hf e];exact H.mg k
 ·by_cases e:k=n/\A=m.dst C
  ·obtain⟨rfl,rfl⟩:=e;rw[qR,NS];exact⟨H.v5 _ _,by simp,λa dR b M=>by rw[iu]at M;subst M;intro e;subst e;exact H.nY _ _ _ hm dR⟩
  ·rw[qS e];exact H.v5 k A
 ·obtain⟨I,kX⟩:=sub k bD g
  by_cases e:k=n/\A=m.dst C
  ·obtain⟨rfl,rfl⟩:=e;rw[qR,he,iu];rintro(E|rfl)
   ·exact H.nY _ _ _ I E
   grind
  ·rw[qS e];exact H.nY k A bD I
theorem Zw(h:bD∈d1 R C av x m):bD.src C=m.dst C:=by
 cases m with
 |share i j t =>
  simp only[d1]at h
  split at h
  ·rw[wH]at h;obtain⟨k,_,rfl⟩:=h;rfl
  grind
 |spread i j t=>simp only[d1]at h;rw[iu]at h;subst h;rfl
 |dA i j t =>
  simp only[d1]at h
  split at h
  ·rw[iu]at h;subst h;rfl
  grind
 |dB i t =>
  simp only[d1]at h
  split at h
  ·rw[wH]at h;obtain⟨k,_,rfl⟩:=h;rfl
  grind
 |order i t =>
  simp only[d1]at h
  split at h
  ·rw[wH]at h;obtain⟨k,_,rfl⟩:=h;rfl
  grind
theorem OL{n:Nat}{f:Nat->ct}(h:∀a b,f a=f b->a=b):((List.range n).map f).Nodup:=by
 induction n with
 |zero=>simp
 |succ n g =>
  rw[rv,iU,NS]
  grind
theorem ajG:(d1 R C av x m).Nodup:=by
 cases m with
 |share i j t =>
  simp only[d1];split
  ·exact OL ab
  ·simp
 |spread i j t=>simp only[d1];simp
 |dA i j t=>simp only[d1];grind
 |dB i t =>
  simp only[d1];split
  ·exact OL ab
  ·simp
 |order i t =>
  simp only[d1];split
  ·exact OL ab
  ·simp
theorem Zx(g:nm R C av x m)(h:bD∈d1 R C av x m):¬gz R C av x bD:=by
 cases m with
 |share i j t =>
  simp only[d1]at h
  split at h
  ·rw[wH]at h;obtain⟨k,_,rfl⟩:=h;obtain⟨_,_,D,_⟩:=g;rintro⟨_,_,_,A⟩;omega
  grind
 |spread i j t =>
  simp only[d1]at h;rw[iu]at h;subst h;obtain⟨_,_,D,_⟩:=g;rintro⟨_,_,_,A⟩;omega
 |dA i j t =>
  simp only[d1]at h
  split at h
  ·rw[iu]at h;subst h;obtain⟨_,_,E,D,_⟩:=g;rintro⟨_,_,A⟩;rw[yB E]at A;omega
  grind
 |dB i t =>
  simp only[d1]at h
  split at h
  ·rw[wH]at h;obtain⟨k,_,rfl⟩:=h;obtain⟨_,D,_⟩:=g;rintro⟨_,_,A⟩;omega
  grind
 |order i t =>
  simp only[d1]at h
  split at h
  ·rw[wH]at h;obtain⟨k,_,rfl⟩:=h;obtain⟨_,_,D,_⟩:=g;rintro⟨_,_,_,A,_⟩;omega
  grind
theorem pg.P9(H:pg R C av x cK)(d0:0<C)(ef:0<R){n D:Nat}{r:aa ct}(h:cK n D=m::r):pg R C av (cS R C av x m) (uj cK n D r):=by
 have hm:m∈cK n D:=ab
 have bw:=H.v5 n D;rw[h,JC]at bw;obtain⟨ar,Z,bK⟩:=H.db n D m hm;obtain⟨aDP,ag⟩:=step H.ord d0 ef bK;have bd:=Dn H.ord d0 bK;have gE:(cS R C av x m).out=up x.out D (x.out D++d1 R C av x m):=by subst Z;rfl
 have aCU:∀k bD,bD∈x.out k->bD≠m:=λk bD g e=>by subst e;have:=(H.e7 k bD g).1;rw[ar]at this;subst this;exact H.nY _ _ _ g hm
 have M:∀k bD,bD∈(cS R C av x m).out k↔bD∈x.out k\/(k=D/\bD∈d1 R C av x m):=λk bD=>by
  rw[gE]
  by_cases e:k=D
  ·subst e;rw[g4,he];simp
  ·rw[hf e];grind
 have aCV:∀k A bD,bD∈uj cK n D r k A->bD∈cK k A/\bD≠m:=λk A bD g=>by
  by_cases e:k=n/\A=D
  ·obtain⟨rfl,rfl⟩:=e;rw[qR]at g
   grind
  ·rw[qS e]at g;exact⟨g,λaK=>by subst aK;have:=H.db k A bD g;omega⟩
 refine⟨aDP,λk bD g=>?_,λk A bD g=>?_,λbD I=>?_,λk=>?_,λk A=>?_,λk A bD g bo=>?_⟩
 ·rw[M]at g;rcases g with g|⟨rfl,g⟩
  ·have:=H.e7 k bD g;exact⟨this.1,(ag bD).2 ab⟩
  ·exact⟨by rw[Zw g,Z],(ag bD).2 ab⟩
 ·obtain⟨E,ao⟩:=aCV k A bD g;have:=H.db k A bD E;exact⟨this.1,J,(ag bD).2 ab⟩
 ·rw[M];rcases(ag bD).1 I with⟨E,ao⟩|E
  ·rcases H.gn bD E with aT|aT
   ·grind
   ·right
    by_cases e:bD.src C=n/\bD.dst C=D
    ·rw[e.1,e.2,qR]
     grind
    ·rw[qS e];omega
  ·exact .inl (.inr ⟨by rw[Zw E,Z],E⟩)
 ·rw[gE]
  by_cases e:k=D
  ·subst e;rw[g4,NS];exact⟨H.mg _,ajG,λa dR b aW e=>by subst e;exact Zx bd aW (H.e7 _ a dR).2⟩
  ·rw[hf e];exact H.mg k
 ·by_cases e:k=n/\A=D
  ·obtain⟨rfl,rfl⟩:=e;rw[qR];grind
  ·rw[qS e];exact H.v5 k A
 ·obtain⟨E,ao⟩:=aCV k A bD bo;rw[M]at g;rcases g with g|⟨rfl,g⟩
  ·exact H.nY k A bD g E
  ·exact Zx bd g (H.db _ _ _ E).2.2
theorem Ord.ended(H:Ord R C av x)(d0:0<C)(ef:0<R)(h:∀m,¬gz R C av x m){i:Nat}(ag:i<R):x.a i=av+1:=by
 have E:∀i,i<R->x.a i=x.V:=λi ag=>by
  have:=H.bY i ag
  by_cases e:x.a i<x.V
  ·exact absurd ⟨ag,cC _,e⟩ (h (.order i (x.a i)))
  omega
 have es:∀i j,i<R->j<C->x.a i<=il x i j\/av<=il x i j:=λi j ag g=>by
  by_cases e:il x i j<x.a i/\il x i j<av
  ·exact absurd ⟨ag,g,Jx _,e.1,e.2⟩ (h (.share i j (il x i j+1)))
  omega
 have eq:∀i j,i<R->j<C->x.q i j=x.P j:=λi j ag g=>by
  have:=H.ao i j ag g
  by_cases e:x.q i j<x.P j
  ·exact absurd ⟨ag,g,Jx _,e⟩ (h (.spread i j (x.q i j+1)))
  omega
 have rk:∀i j,i<R->j<C->fR x i j=x.q i j:=λi j ag g=>by
  have:=H.aT i j ag g
  by_cases e:fR x i j<x.q i j
  ·exact absurd ⟨ag,g,Jx _,e⟩ (h (.dA i j (fR x i j+1)))
  omega
 have ek:∀i,i<R->ju x i=jv x i:=λi ag=>by
  have:=H.a9 i ag
  by_cases e:ju x i<jv x i
  ·exact absurd ⟨ag,cC _,e⟩ (h (.dB i (ju x i)))
  omega
 have k0:=E i ag;have eI:=(H.au i ag).1
 by_cases bh:x.a i=av+1
 ·omega
 exfalso;obtain⟨k,M,aI⟩:=H.bQ;have I:∀i,i<R->x.w i=true:=λi ag=>by
  cases I:x.w i with
  |true=>rfl
  |false =>
   have D:=E i ag;obtain⟨j,g,aY⟩:=H.bT i ag I J;obtain⟨Z,A,a6⟩:=H.a5 j g;have aK:=rk i j ag g;rw[Lm I,aY,R7,eq i j ag g]at aK;have cc:=es Z j A g;unfold il at cc;rw[a6,R7,E Z A]at cc;have:=(H.au i ag).2.2 I;omega
 have D:=ek k M;rw[DZ ab]at D;unfold ju at D;rw[aI,R7,E k M]at D;omega
def mI(R C t:Nat):Nat:=1+t*(2*R+C+2)
def gF(R C:Nat):ct->Nat
 | .share i j t=>mI R C (t-1)+R+j+1
 | .spread i j t=>mI R C (t-1)+R+C+i+1
 | .dA i j t=>mI R C (t-1)+2*R+C+1
 | .dB i t=>mI R C t
 | .order i t=>mI R C t+i+1
theorem pa(h:a<=b):mI R C a<=mI R C b:=by have:=qD (2*R+C+2) h;unfold mI;omega
theorem qL(h:a<b):mI R C a+2*R+C+2<=mI R C b:=by have:=qD (2*R+C+2) (Nat.succ_le_of_lt h);rw[Fv]at this;unfold mI;omega
theorem au8(H:Ord R C av x)(d0:0<C)(hm:gz R C av x m){p:Nat}(a6:(d1 R C av x m)[p]? = some bD):
  gF R C m+p+1<=gF R C bD/\∀l,gz R C av x l->l.src C=m.dst C->gF R C l+p+1<=gF R C bD:=by
 have bd:=Dn H d0 hm;have rR:∀{n:Nat} {f:Nat->ct},((List.range n).map f)[p]? = some bD->p<n/\bD=f p:=ab
 have one:∀{y:ct},[y][p]? = some bD->p=0/\bD=y:=ab
 have st:∀{i j k:Nat},i*C=k*C+j->j<C->i=k/\j=0:=λ{i j k} h b5=>by have:=tD      J d0 b5;omega
 cases m with
 |share i j t =>
  obtain⟨ag,b5,cq,_,eI⟩:=bd;simp only[d1]at a6
  split at a6
  case isFalse=>grind
  obtain⟨hpR,rfl⟩:=rR a6;refine⟨by simp only[gF];omega,λl E M=>?_⟩;cases l with
  |share aH Z g =>
   obtain⟨A,D,I,aZ,bA⟩:=E;have b:=H.kM A ag ag b5;have:=pa (R:=R) (C:=C) (J:g-1<=t-1);simp only[gF];omega
  |spread aH Z g =>
   obtain⟨A,D,I,aZ⟩:=E;have M:Z=j:=M;subst M;have:=qL (R:=R) (C:=C) (J:g-1<t-1);simp only[gF];omega
  |dA aH Z g =>
   obtain⟨A,D,I,aZ⟩:=E;have M:aH*C+Z=j:=M;obtain⟨rfl,rfl⟩:=tD  (i:=aH)  (aH:=0)  J D b5;have:=H.ao 0 Z A D;have:=qL (R:=R) (C:=C) (J:g-1<t-1);simp only[gF];omega
  |dB aH g =>
   obtain⟨A,D,I⟩:=E;have b:=H.kM ag A ag b5;have:=pa (R:=R) (C:=C) (J:g<=t-1);simp only[gF];omega
  |order aH g =>
   obtain⟨A,D,I⟩:=E;have b:=H.kM ag ag ag b5;have:=pa (R:=R) (C:=C) (J:g<=t-1);simp only[gF];omega
 |spread i j t =>
  obtain⟨ag,b5,cq,eI⟩:=bd;obtain⟨_,_,fL,fY⟩:=hm;simp only[d1]at a6;obtain⟨rfl,rfl⟩:=one a6;refine⟨by simp only[gF];omega,λl E M=>?_⟩;cases l with
  |share aH Z g =>
   obtain⟨A,D,I,aZ,bA⟩:=E;have b:=H.kM A ag ag b5;have:=pa (R:=R) (C:=C) (J:g-1<=t-1);simp only[gF];omega
  |spread aH Z g =>
   obtain⟨A,D,I,aZ⟩:=E;have b:=H.kM ag ag ag b5;have b3:=H.kM ag ag ag D;have:=pa (R:=R) (C:=C) (J:g-1<=t-1);simp only[gF];omega
  |dA aH Z g =>
   obtain⟨A,D,I,aZ⟩:=E;have M:aH*C+Z=i*C+j:=M;obtain⟨rfl,rfl⟩:=tD M D b5;have:=qL (R:=R) (C:=C) (J:g-1<t-1);simp only[gF];omega
  |dB aH g =>
   obtain⟨A,D,I⟩:=E;have M:aH*C=i*C+j:=M;obtain⟨rfl,rfl⟩:=st M b5;have b:=H.kM A A A b5;omega
  |order aH g =>
   obtain⟨A,D,I⟩:=E;have b:=H.kM ag ag ag b5;have:=pa (R:=R) (C:=C) (J:g<=t-1);simp only[gF];omega
 |dA i j t =>
  obtain⟨ag,b5,bO,cq,h1t,eI,aY⟩:=bd;obtain⟨_,_,fL,fY⟩:=hm;simp only[d1]at a6
  split at a6
  case isFalse=>grind
  obtain⟨rfl,rfl⟩:=one a6;have fa:=yB bO;have aL:=qL (R:=R) (C:=C) (J:t-1<t);refine⟨by simp only[gF];omega,λl E M=>?_⟩;cases l with
  |share aH Z g =>
   obtain⟨A,D,I,aZ,bA⟩:=E;have b:=H.kM A ag ag b5;have:=pa (R:=R) (C:=C) (J:g-1<=t-1);simp only[gF];omega
  |spread aH Z g =>
   obtain⟨A,D,I,aZ⟩:=E;have b:=H.kM ag ag ag D;have:=pa (R:=R) (C:=C) (J:g-1<=t-1);simp only[gF];omega
  |dA aH Z g =>
   obtain⟨A,D,I,aZ⟩:=E;have b:=H.kM ag A ag D;have:=pa (R:=R) (C:=C) (J:g-1<=t-1);simp only[gF];omega
  |dB aH g =>
   obtain⟨A,D,I⟩:=E;have M:aH*C=i*C:=M;have:aH=i:=(st (j:=0) J d0).1;subst this;have:=pa (R:=R) (C:=C) (J:g<=t-1);simp only[gF];omega
  |order aH g =>
   obtain⟨A,D,I⟩:=E;have b:=H.kM ag ag ag b5;have:=pa (R:=R) (C:=C) (J:g<=t-1);simp only[gF];omega
 |dB i t =>
  obtain⟨ag,cq,aI,eI⟩:=bd;simp only[d1]at a6
  split at a6
  case isFalse=>grind
  obtain⟨hpR,rfl⟩:=rR a6;refine⟨by simp only[gF];omega,λl E M=>?_⟩;cases l with
  |share aH Z g =>
   obtain⟨A,D,I,aZ,bA⟩:=E;have b:=H.kM A ag ag D;have:=qL (R:=R) (C:=C) (J:g-1<t);simp only[gF];omega
  |spread aH Z g =>
   obtain⟨A,D,I,aZ⟩:=E;have b:=H.kM ag ag ag D;have:=qL (R:=R) (C:=C) (J:g-1<t);simp only[gF];omega
  |dA aH Z g =>
   obtain⟨A,D,I,aZ⟩:=E;have b:=H.kM ag A ag D;have:=qL (R:=R) (C:=C) (J:g-1<t);simp only[gF];omega
  |dB aH g =>
   obtain⟨A,D,I⟩:=E;have b:=H.kM ag A ag d0;have:=pa (R:=R) (C:=C) (J:g<=t);simp only[gF];omega
  |order aH g =>
   obtain⟨A,D,I⟩:=E;have:=qL (R:=R) (C:=C) (J:g<t);simp only[gF];omega
 |order i t =>
  obtain⟨ag,bO,cq,eI⟩:=bd;simp only[d1]at a6
  split at a6
  case isFalse=>grind
  obtain⟨hpR,rfl⟩:=rR a6;have fa:=DZ bO;rw[show gF R C (.share i p (t+1))=mI R C t+R+p+1 from rfl];refine⟨by simp only[gF];omega,λl E M=>?_⟩;cases l with
  |share aH Z g =>
   obtain⟨A,D,I,aZ,bA⟩:=E;have M:aH*C=i*C:=M;have:aH=i:=(st (j:=0) J d0).1;subst this;have:=qL (R:=R) (C:=C) (J:g-1<t);simp only[gF];omega
  |spread aH Z g =>
   obtain⟨A,D,I,aZ⟩:=E;have b:=H.kM ag ag ag D;have:=qL (R:=R) (C:=C) (J:g-1<t);simp only[gF];omega
  |dA aH Z g =>
   obtain⟨A,D,I,aZ⟩:=E;have b:=H.kM ag A ag D;have:=qL (R:=R) (C:=C) (J:g-1<t);simp only[gF];omega
  |dB aH g =>
   obtain⟨A,D,I⟩:=E;have M:aH*C=i*C:=M;have:aH=i:=(st (j:=0) J d0).1;subst this;have:=pa (R:=R) (C:=C) (J:g<=t);simp only[gF];omega
  |order aH g =>
   obtain⟨A,D,I⟩:=E;have b:=H.kM ag ag ag d0;have:=pa (R:=R) (C:=C) (J:g<=t);simp only[gF];omega
structure qg (R C n K:Nat) (x:gd) (cK:Nat->Nat->aa ct):Prop where
 t1:∀k p m,(x.out k)[p]? = some m->n+p+(if k<K then 1 else 0)<=gF R C m
 t2:∀k dm m,m∈cK k dm->n<=gF R C m
 t3:∀k dm,K<=k->cK k dm=[]
theorem qg.pick{n K:Nat}(D:qg R C n K x cK){r:aa ct}(h:x.out K=m::r):qg R C n (K+1) { x with out:=up x.out K r } (uj cK K (m.dst C) (cK K (m.dst C)++[m])):=by
 refine⟨λk p bD g=>?_,λk A bD g=>?_,λk A g=>?_⟩
 ·have g:(up x.out K r k)[p]? = some bD:=g
  by_cases e:k=K
  ·subst e;rw[g4]at g;have:=D.t1 k (p+1) bD ab
   grind
  ·rw[hf e]at g;have:=D.t1 k p bD g
   grind
 ·by_cases e:k=K/\A=m.dst C
  ·obtain⟨rfl,rfl⟩:=e;rw[qR,he,iu]at g;rcases g with g|rfl
   ·exact D.t2 _ _ _ g
   ·have:=D.t1 k 0 bD ab;omega
  ·rw[qS e]at g;exact D.t2 _ _ _ g
 ·rw[qS J];exact D.t3 k A J
theorem qg.skip{n K:Nat}(D:qg R C n K x cK)(h:x.out K=[]):qg R C n (K+1) x cK:=by
 refine⟨λk p bD g=>?_,D.t2,λk A g=>D.t3 k A J⟩;have:=D.t1 k p bD g
 grind
theorem qg.P9{n K:Nat}(D:qg R C n K x cK)(H:pg R C av x cK)(d0:0<C)(h8:R*C<=K){k I:Nat}{r:aa ct}(h:cK k I=m::r):qg R C n K (cS R C av x m) (uj cK k I r):=by
 have hm:m∈cK k I:=ab
 obtain⟨ar,bh,Z⟩:=H.db k I m hm;have aW:=K3 d0 Z;refine⟨λA p bD g=>?_,λA E bD g=>?_,λA E g=>?_⟩
 ·have g:(up x.out (m.dst C) (x.out (m.dst C)++d1 R C av x m) A)[p]? = some bD:=g
  by_cases e:A=m.dst C
  ·subst e;rw[g4]at g;rw[if_pos J]
   by_cases aK:p<(x.out (m.dst C)).length
   ·rw[tt aK]at g;have:=D.t1 _ p bD g
    grind
   ·rw[Fc J]at g;obtain⟨eE,f0⟩:=au8 H.ord d0 Z g;have ia:=D.t2 _ _ _ hm;cases bo:(x.out (m.dst C)).length with
    |zero=>omega
    |succ q =>
     rw[bo]at f0;have M:∃l,(x.out (m.dst C))[q]? = some l:=⟨_,lo J⟩
     obtain⟨l,M⟩:=M;have h1:=D.t1 _ q l M;rw[if_pos J]at h1;have ao:=H.e7 _ l (kk M)
     grind
  ·rw[hf e]at g;exact D.t1 A p bD g
 ·by_cases e:A=k/\E=I
  ·obtain⟨rfl,rfl⟩:=e;rw[qR]at g;exact D.t2 _ _ bD (by rw[h];grind)
  ·rw[qS e]at g;exact D.t2 _ _ bD g
 ·by_cases e:A=k/\E=I
  ·omega
  ·rw[qS e];exact D.t3 _ _ g
theorem qg.next{n K:Nat}(D:qg R C n K x cK)(H:pg R C av x cK)(I:0<C)(h8:R*C<=K)(au:∀k g,cK k g=[]):qg R C (n+1) 0 x cK:=by
 refine⟨λk p m A=>?_,ab,ab⟩;have Z:=D.t1 k p m A;have E:=H.e7 k m ab;have M:=K3 I E.2
 grind
theorem ax2(H:Ord R C av x)(I:0<C)(E:gz R C av x m):gF R C m<=mI R C av+R:=by
 have A:=Dn H I E;cases m with
 |share i j t=>obtain⟨_,_,D,_,g⟩:=A;have:=qL (R:=R) (C:=C) (J:t-1<av);simp only[gF];omega
 |spread i j t=>obtain⟨_,_,D,g⟩:=A;have:=qL (R:=R) (C:=C) (J:t-1<av);simp only[gF];omega
 |dA i j t=>obtain⟨_,_,_,D,M,g,_⟩:=A;have:=qL (R:=R) (C:=C) (J:t-1<av);simp only[gF];omega
 |dB i t=>obtain⟨_,D,_,g⟩:=A;have:=pa (R:=R) (C:=C) g;simp only[gF];omega
 |order i t=>obtain⟨D,_,_,g⟩:=A;have:=pa (R:=R) (C:=C) g;simp only[gF];omega
theorem pg.fin{n:Nat}(H:pg R C av x cK)(D:qg R C n 0 x cK)(A:0<C)(I:0<R)(bw:mI R C av+R<n){i:Nat}(ag:i<R):x.a i=av+1:=by
 refine H.ord.ended A I (λm E=>?_) ag;have Z:=ax2 H.ord A E;rcases H.gn m E with g|g
 ·obtain⟨p,M⟩:=Fg.1 g;have:=D.t1 _ p m M;omega
 ·rw[D.t3 _ _ J]at g;grind
theorem pg.more(H:pg R C av x cK)(A:0<C)(M:0<R)(au:∀k I,cK k I=[]){i:Nat}(ag:i<R)(D:x.a i≠av+1):∃k,k<R*C/\x.out k≠[]:=by
 apply wj;intro E;apply D;refine H.ord.ended A M (λm g=>?_) ag;rcases H.gn m g with Z|Z
 ·exact E ⟨m.src C,(K3 A g).1,ab⟩
 grind
def mJ(R C:Nat):gd:={ P:=λ_=>0,e9:=λ_=>l4,q:=λ_ _=>0,a:=λ_=>0,dU:=λ_=>l4,w:=λ_=>true,V:=0,fQ:=l4,out:=λn=>if n % C=0/\n<R*C then[.dB (n / C) 0]else[] }
theorem ax3(E:0<C)(Z:0<R):pg R C av (mJ R C) (λ_ _=>[])/\qg R C 1 0 (mJ R C) (λ_ _=>[]):=by
 have ek:∀i,ju (mJ R C) i=0:=λi=>rfl;have es:∀i,jv (mJ R C) i=1:=λi=>rfl;have rk:∀i j,fR (mJ R C) i j=0:=λi j=>rfl;have IX:∀i j,il (mJ R C) i j=0:=λi j=>rfl;have M:∀n m,m∈(mJ R C).out n->∃i,i<R/\n=i*C/\m = .dB i 0:=λn m h=>by
  have h:m∈(if n % C=0/\n<R*C then[ct.dB (n / C) 0]else[]):=h
  split at h
  case isFalse=>cases h
  rename_i bw
  rw[iu]at h;have I:=Nat.div_add_mod n C;rw[bw.1,og,x4]at I;exact⟨n / C,by rw[NM E];omega,I.symm,h⟩
 have aDQ:∀i,i<R->(mJ R C).out (i*C)=[.dB i 0]:=λi ag=>by show(if i*C % C=0/\i*C<R*C then[ct.dB (i*C / C) 0]else[])=_;rw[if_pos ⟨Nat.mul_mod_left i C,by have:=pQ  ag E;omega⟩,Nat.mul_div_cancel i E]
 refine⟨⟨⟨λi ag=>⟨by show 0<=_;omega,λ_=>by show 0<=_;omega,λh=>by cases h⟩,ab,λi j _ _=>cC _,ab,ab,λi _=>cC _,λj _=>⟨0,Z,rfl⟩,⟨0,Z,rfl⟩,λi _ h=>by cases h⟩,λn m h=>?_,λn jB m h=>(by cases h),λm D=>?_,λn=>?_,ab,ab⟩,⟨λk p m h=>?_,ab,ab⟩⟩
 ·obtain⟨i,ag,rfl,rfl⟩:=M n m h;exact⟨rfl,ag,ab,ab⟩
 ·left
  cases m with
  |share i j t=>obtain⟨_,_,A,g,_⟩:=D;rw[IX]at A;have g:t<=0:=g;omega
  |spread i j t=>obtain⟨_,_,A,g⟩:=D;have g:t<=0:=g;omega
  |dA i j t=>obtain⟨_,_,A,g⟩:=D;have g:t<=0:=g;omega
  |dB i t =>
   obtain⟨ag,A,g⟩:=D;rw[es]at g;rw[show t=0 by omega];show _∈(mJ R C).out (i*C)
   grind
  |order i t=>obtain⟨_,A,g⟩:=D;have g:t<0:=g;omega
 ·show(if n % C=0/\n<R*C then[ct.dB (n / C) 0]else[]).Nodup
  grind
 ·obtain⟨i,ag,rfl,rfl⟩:=M k m ab;rw[aDQ i ag]at h;cases p with
  |zero=>rw[if_neg J];simp[gF,mI]
  |succ p=>grind
end
section
variable {R C av:Nat} {x:gd} {cK:Nat->Nat->aa ct}
def ct.code:ct->Nat
 | .share i j _=>i*8+j
 | .spread i j _=>64+(i*8+j)
 | .dA i j _=>128+(i*8+j)
 | .dB i _=>192+i
 | .order i _=>200+i
theorem anB(ef:R<=8)(d0:C<=8)(h:nm R C av x m)(ac:nm R C av x bD)(e:m.code=bD.code):m=bD:=by
 cases m with
 |share i j t =>
  obtain⟨E,Z,M,_⟩:=h;cases bD with
  |share aH mS I =>
   obtain⟨g,A,D,_⟩:=ac;simp only[ct.code]at e
   grind
  |_=>exfalso;obtain⟨g,A,_⟩:=ac;simp only[ct.code]at e;omega
 |spread i j t =>
  obtain⟨E,Z,M,_⟩:=h;cases bD with
  |spread aH mS I =>
   obtain⟨g,A,D,_⟩:=ac;simp only[ct.code]at e
   grind
  |_=>exfalso;obtain⟨g,A,_⟩:=ac;simp only[ct.code]at e;omega
 |dA i j t =>
  obtain⟨E,Z,_,M,_⟩:=h;cases bD with
  |dA aH mS I =>
   obtain⟨g,A,_,D,_⟩:=ac;simp only[ct.code]at e
   grind
  |_=>exfalso;obtain⟨g,A,_⟩:=ac;simp only[ct.code]at e;omega
 |dB i t =>
  obtain⟨E,M,_⟩:=h;cases bD with
  |dB aH I =>
   obtain⟨g,D,_⟩:=ac;simp only[ct.code]at e
   grind
  |_=>exfalso;obtain⟨g,A,_⟩:=ac;simp only[ct.code]at e;omega
 |order i t =>
  obtain⟨E,_,M,_⟩:=h;cases bD with
  |order aH I =>
   obtain⟨g,_,D,_⟩:=ac;simp only[ct.code]at e
   grind
  |_=>exfalso;obtain⟨g,A,_⟩:=ac;simp only[ct.code]at e;omega
theorem arv(D:R<=8)(E:C<=8)(h:nm R C av x m):m.code<208:=by
 cases m <;> (obtain⟨g,A,_⟩:=h;simp only[ct.code];omega)
theorem pg.len(H:pg R C av x cK)(g:0<C)(I:R<=8)(M:C<=8)(n:Nat):(x.out n).length<=208:=by
 have A:∀m∈x.out n,nm R C av x m:=λm E=>Dn H.ord g (H.e7 n m E).2;have:=F8 208 ((x.out n).map ct.code) (wl.2 ((H.mg n).imp_of_mem λZ aW D e=>D (anB I M (A _ Z) (A _ aW) e))) λc a1=>by obtain⟨m,E,rfl⟩:=f3.1 a1;exact arv I M (A m E)
 grind
def tM(R L:Nat)(a:Nat->Nat):Nat:=if ∀i,i<R->a i-1=L then L+1 else L
def vs(R:Nat)(x:gd)(L:Nat):Prop:=(∀i,i<R->L<=max 1 (x.a i))/\∃i,i<R/\max 1 (x.a i)=L
theorem vs.step{L:Nat}(H:vs R x L)(O:Ord R C av x)(I:nm R C av x m):vs R (cS R C av x m) (tM R L (cS R C av x m).a):=by
 obtain⟨h1,g,M,ao⟩:=H;have same:∀y:gd,y.a=x.a->vs R y (tM R L y.a):=λy e=>by
  have bw:tM R L y.a=L:=by
   unfold tM
   grind
  rw[bw];exact⟨ab,g,M,ab⟩
 cases m with
 |share i j t=>obtain⟨_,_,e,_⟩:=JV I;exact same _ e
 |spread i j t=>obtain⟨_,_,e,_⟩:=JO       ;exact same _ e
 |dA i j t=>obtain⟨_,_,_,_,e,_⟩:=JN I;exact same _ e
 |dB i t=>obtain⟨_,_,_,_,e,_⟩:=JY I;exact same _ e
 |order i t =>
  have hv:(cS R C av x (.order i t)).a=up x.a i (x.a i+1):=rfl;have ag:i<R:=I.1;unfold vs;rw[hv];have a_o:∀k,k≠i->up x.a i (x.a i+1) k=x.a k:=λk hk=>hf hk;have a_s:up x.a i (x.a i+1) i=x.a i+1:=g4 _ _ _
  by_cases A:∀k,k<R->up x.a i (x.a i+1) k-1=L
  ·have:tM R L (up x.a i (x.a i+1))=L+1:=if_pos A
   grind
  ·have:tM R L (up x.a i (x.a i+1))=L:=if_neg A;rw[this];refine⟨λk hk=>?_,?_⟩
   ·grind
   ·by_cases e:g=i
    ·subst e
     by_cases au:x.a g=0
     ·grind
     ·obtain⟨D,Z,eh⟩:∃D,D<R/\up x.a g (x.a g+1) D-1≠L:=wj ab;have E:D≠g:=ab
      rw[a_o D E]at eh;have dL:=O.bY D Z;have b3:=O.a9 g ag;have d8:jv x g<=x.a g+1:=by unfold jv;grind
      have fM:x.V<=ju x g:=NW _ _
      grind
    grind
theorem vs.le{L:Nat}(H:vs R x L)(O:Ord R C av x):1<=L/\L<=av+1:=by obtain⟨_,i,ag,e⟩:=H;have:=(O.au i ag).1;omega
theorem vs.fin{L:Nat}(H:vs R x L)(h:∀i,i<R->x.a i=av+1):L=av+1:=by
 obtain⟨_,i,ag,e⟩:=H
 grind
end
section
variable {P:Program} {s:al} {f:FuncId} {args:aa X} {h:ae} {U:Nat} {K:bN}
theorem ed.lt{B:Nat}{aj:ce}{w:World}(A:ed B aj (u h) w)(D:kg aj U){o:fU}(e:u h b=some o):b<U:=by
 rcases jJ b U with g|g
 ·exact g
 ·have:=A.fresh D b g
  grind
theorem aE.plain{v:X}(aI:vc v=true)(M:aE P false f args h U (λD ac _=>D=v/\aA U h ac))(h8:K v h U):aE P s f args h U K :=
 lg.up ⟨M.1,λB aj w g I A dR n=>(M.2 B aj w g I A dR n).mono λe a8 b0=>by obtain⟨D,ac,Y,bu,c,rfl,⟨rfl,hk⟩,E,Z⟩:=b0;exact⟨D,h,U,aj,c,rfl,⟨rfl,rfl,rfl⟩,bF.back (A.sub Z) (FB aI aj) E,Z.forget I A λb o e=>by rw[hk b (I.lt A e)];exact e⟩⟩ h8
theorem aE.mN{val:Nat->X}{cs:aa X}(Z:iG cs=true)
  (I:∀(aj bu:ce) (b:Nat) (p:Place) (c:X),bu b=some p->aj U=some p->bF bu (val b) c->bF aj (val U) c)
  (a1:aE P false f args h U (λdX ac _=>∃b,dX=val b/\U<=b/\u ac b=some (.cells cs false)/\aA U h ac)) (h8:K (val U) (T h U (.cells cs false)) (U+1)):aE P s f args h U K :=
 lg.up ⟨a1.1,λB aj w g bc bK dR n=>(a1.2 B aj w g bc bK dR n).mono λe a8 b0=>by
  obtain⟨dX,ac,Y,bu,c,rfl,⟨b,rfl,aW,A,hk⟩,M,hm⟩:=b0;have D:=hm.rel.nd b ab;obtain⟨p,a6⟩:=nA.1 D;have q7:=hm.aq1 bc bK (λb o e=>by rw[hk b (bc.lt bK e)];exact e) aW a6 A (by obtain⟨gx,jX,bL,dS,ec,dk,ha,lN,th,nw⟩:=hm.rel.obj b p _ a6 A;refine⟨gx,jX,bL,dS,ec,dk,ha,lN,λi x bd=>?_,nw⟩;obtain⟨fK,e,aI⟩:=th i x bd;have E:=JT Z (kk bd);exact⟨fK,e,by rw[CL E aI];exact FA E _⟩)
  refine⟨val U,T h U (.cells cs false),U+1,(λk=>if k=U then some p else aj k),c,rfl,⟨rfl,rfl,rfl⟩,I _ bu b p c a6 ab M,?_⟩;have:u (T h U (.cells cs false))=(λk=>if k=U then some (fU.cells cs false)else u h k):=funext λk=>Ae h U _ k;rw[this];exact q7⟩ h8
theorem Ym{n k:Nat}(aj bu:ce)(b:Nat)(p:Place)(c:X)(D:bu b=some p)(g:aj U=some p)(A:bF bu (.slice (some ⟨b,0,some k⟩) n cap) c):bF aj (.slice (some ⟨U,0,some k⟩) n cap) c:=by
 cases A with
 |o7 h e=>rw[D]at h;cases h;exact .o7 g e _ _
 |o8=>exact .o8 _ _ _ _ _
theorem Oo{n k:Nat}{lL:IntKind}{i:Int}(aj bu:ce)(b:Nat)(p:Place)(c:X)(E:bu b=some p)(A:aj U=some p)(D:bF bu (.tuple ⟨[.slice (some ⟨b,0,some k⟩) n cap,.int lL i]⟩) c):bF aj (.tuple ⟨[.slice (some ⟨U,0,some k⟩) n cap,.int lL i]⟩) c:=by
 cases D with
 |tuple h=>cases h with
  |cons a t=>cases t with
   |cons g t=>cases t with
    |nil =>
     cases g;exact .tuple (.cons (Ym aj bu b p _ E A a) (.cons (.int _ _) .nil))
theorem adF{r c:Nat}(A:u h r=some (.map es c))(g:K (bf U) (T h U (.iter (some r) c [] c)) (U+1)):dG (sJ h U (.map (some r))) K:=by unfold sJ;simp only[A];exact g
theorem adG{it r g cI:Nat}(ag:u h it=some (.iter (some r) g seen cI))(Z:u h r=some (.map es cI))(D:∀e∈es,e.born<cI)(M:g=cI)(I:leftOf seen es=[]->K (.tuple #[.bool false]) h U)(E:∀e∈leftOf seen es,e∈es->K (.tuple #[.bool true,e.key,e.val]) (T h it (.iter (some r) g (seen++[e.born]) cI)) U):vB false h U (bf it) K :=
 ⟨it,r,g,cI,cI,seen,es,rfl,rfl,ag,Z,akM D,I,λe A=>⟨by rw[M];exact D e (FJ A).1,E e A (FJ A).1⟩⟩
end
section
variable {iY:Type} [DecidableEq iY] {cu:iY->X} {L rest:aa (iY × X × Nat)} {h:ae} {U it r cI:Nat} {K:bN}
theorem OM{seen:aa Nat}:∀{L:aa (iY × X × Nat)} {e:iY × X × Nat},L.Pairwise (λa b=>a.2.2<b.2.2)->e∈L.filter (λe=>decide (e.2.2 ∉ seen)) ->
  (L.filter λe=>decide (e.2.2 ∉ seen)).Perm (e::L.filter λx=>decide (x.2.2 ∉ seen++[e.2.2]))
 | [],e,_,h=>by cases h
 |x::L,e,E,h=>by
  have A:∀y∈L,x.2.2<y.2.2:=λy D=>tu E D;have g:=NL E;rw[mW]at h;rw[mW,mW]
  by_cases M:x.2.2∈seen
  ·rw[if_neg ab]at h;rw[if_neg ab,if_neg ab];exact OM g h
  ·rw[if_pos ab]at h;rw[if_pos ab];rcases gh.1 h with rfl|h
   ·rw[if_neg ab];have:L.filter (λx=>decide (x.2.2 ∉ seen))=L.filter (λx=>decide (x.2.2 ∉ seen++[e.2.2])):=Jv λy D=>by
     have:=A y D
     grind
    rw[this]
   ·have I:=od.1 h;have:=A e I.1;rw[if_pos ab];exact((OM g h).cons x).trans (List.Perm.swap ..)
theorem Oi(seen:aa Nat):∀L:aa (iY × X × Nat),leftOf seen (lz cu L)=lz cu (L.filter λe=>decide (e.2.2 ∉ seen))
 | []=>rfl
 |e::L=>by
  show leftOf seen (⟨cu e.1,e.2.1,e.2.2⟩::lz cu L)=_;rw[uV,Oi seen L,mW]
  by_cases g:e.2.2∈seen
  ·rw[if_pos g,if_neg ab]
  ·rw[if_neg g,if_pos ab];rfl
def xu(h:ae)(it r:Nat)(cI:Nat)(L rest:aa (iY × X × Nat)):Prop:=∃seen,u h it=some (.iter (some r) cI seen cI)/\rest=L.filter λe=>decide (e.2.2 ∉ seen)
theorem xu.F{ac:ae}(I:xu h it r cI L rest)(g:u ac it=u h it):xu ac it r cI L rest:=by obtain⟨seen,e,A⟩:=I;exact⟨seen,g.trans e,A⟩
theorem i7.rR(H:i7 h r cu L cI)(g:∀ac,xu ac U r cI L L->(∀c,c≠U->u ac c=u h c)->K (bf U) ac (U+1)):dG (sJ h U (.map (some r))) K :=
 adF H.at_ (g _ ⟨[],aR _ _ _,(zX.2 (by simp)).symm⟩ λc A=>aq J)
theorem i7.fG(H:i7 h r cu L cI)(I:xu h it r cI L rest)(eh:it≠r)(au:rest=[]->K (.tuple #[.bool false]) h U)
  (h1:∀e g ac,e∈L->rest.Perm (e::g)->xu ac it r cI L g->(∀c,c≠it->u ac c=u h c)->wL ac (bf it) = .ok (.tuple #[cu e.1,e.2.1])->K (.tuple #[.bool true,cu e.1,e.2.1]) ac U):
  vB false h U (bf it) K:=by
 obtain⟨seen,ag,rfl⟩:=I;obtain⟨D,Z⟩:=Xl (WY (cu:=cu) H.up H.lt);refine adG ag H.at_ Z rfl (λe=>au ?_) λe M A=>?_
 ·rw[Oi]at e;unfold lz at e;exact List.map_eq_nil_iff.1 e
 ·rw[Oi]at M;obtain⟨x,E,rfl⟩:=f3.1 M;exact h1 x _ _ (od.1 E).1 (OM H.up E) ⟨_,aR _ _ _,rfl⟩ (λc a1=>aq J) (Ya (aR _ _ _) ((aq J).trans H.at_) D A)
end
noncomputable section
def v6(b:al)(p:Prop):Prop:=Bool.rec False p b
def SV(f:ae->R X)(v:X)(p:Prop):Nat->aa ae->Prop
 |0,_=>p
 |n+1,h::ar=>v6 (nH v (f h)) (SV f v p n ar)
 |_+1,[]=>False
def TY(B:oS)(E:aa (Nat × aP))(R:aP)(n:Nat):aP:=Nat.rec (λ_ _ _=>False) (λ_ eS aF h U=>B aF h U eS E R) n
section
variable (P:Program) (im:FuncId->aa X->ae->Nat->bN->Prop)
def SX(r:fr)(k:bN):Prop:=match r with
 | .call f args h U=>im f args h U k
 |_=>False
def Ms(e:vV)(ak:ch)(h:ae)(U:Nat)(k:bN):Prop:=match e with
 | .fG _=>False
 | .call f args=>af (p1 ak args) λl=>im f l h U k
 | .AN f args=>af (d9 ak f) λf=>af (p1 ak args) λl=>SX im (hU h U l f) k
 | .inv r m args=>af (p1 ak args) λl=>af (d9 ak r) λv=>SX im (jm P h U l m v) k
 |e=>pz P true e ak h U k
def TZ(d:aw Nat)(i:nu)(ak:ch)(h:ae)(U:Nat)(k:ch->ae->Nat->Prop):Prop:=match i with
 | .fy e=>Ms P im e ak h U λv h U=>k (ez ak d (some v)) h U
 |i=>nU P true d i ak h U k
def Mt(l:aa ma):ch->ae->Nat->(ch->ae->Nat->Prop)->Prop :=
 List.rec (motive:=λ_=>ch->ae->Nat->(ch->ae->Nat->Prop)->Prop) (λak h U K=>K ak h U)
  (λi _ eS ak h U K=>kD i.g ak (λak=>TZ P im i.d i.k ak h U λak h U=>eS ak h U K) (λak=>eS (ez ak i.d none) h U K)) l
def SY(d:aw Nat)(c:Nat)(i:nu)(ak:ch)(h:ae)(U:Nat)(b:ae)(ar:aa ae)(k:ch->ae->Nat->ae->aa ae->Prop):Prop:=match i with
 | .red e=>af (pred P ak e b) λv=>SV (pred P ak e) v (k (ez ak d (some v)) h U b ar) c ar
 | .fy (.st n a x)=>nf P d c (.fy (.st n a x)) ak h U b ar k
 | .fy (.y1 dT m key x)=>nf P d c (.fy (.y1 dT m key x)) ak h U b ar k
 | .fy e=>Ms P im e ak h U λv ac Y=>v6 (Nat.ble U Y) (k (ez ak d (some v)) ac Y ac (b::ar))
 |i=>nf P d c i ak h U b ar k
def HZ(l:aa ma):ch->ae->Nat->ae->aa ae->(ch->ae->Nat->Prop)->Prop :=
 List.rec (motive:=λ_=>ch->ae->Nat->ae->aa ae->(ch->ae->Nat->Prop)->Prop) (λak h U _ _ K=>K ak h U)
  (λi _ eS ak h U b ar K=>kD i.g ak (λak=>SY P im i.d i.c i.k ak h U b ar λak h U b ar=>eS ak h U b ar K)
   (λak=>Bool.rec (eS (ez ak i.d none) h U b ar K) (eS (ez ak i.d none) h U h (b::ar) K) (jn i.k))) l
def r2(n:Nat)(e0:aa (aa Nat)):kB->Nat->ch->ae->Nat->iX->aa (Nat × iX)->iX->Prop
 | .skip,_,ak,h,U,N,_,_=>N ak h U
 | .exit id,_,ak,h,U,_,E,_=>ka E id ak h U
 | .ret,_,ak,h,U,_,_,R=>R ak h U
 | .scope c,i,ak,h,U,N,E,R=>r2 n e0 c i ak h U N E R
 | .tQ l,_,ak,h,U,N,_,_=>Mt P im l ak h U N
 | .DM l,_,ak,h,U,N,_,_=>HZ P im l ak h U h [] N
 | .xL _ _ _ _,_,_,_,_,_,_,_=>False
 | .seq a b,i,ak,h,U,N,E,R=>r2 n e0 a i ak h U (λak h U=>r2 n e0 b (i+hI a) ak h U N E R) E R
 | .block id c,i,ak,h,U,N,E,R=>r2 n e0 c i ak h U N ((id,N)::E) R
 | .cond x a b,i,ak,h,U,N,E,R=>(match x with
  | .v v=>br v (r2 n e0 a i ak h U N E R) (r2 n e0 b (i+hI a) ak h U N E R)
  | .t t=>(match ho ak t with
   |some (some v)=>br v (r2 n e0 a i ((t,some (.bool true))::ak) h U N E R) (r2 n e0 b (i+hI a) ((t,some (.bool false))::ak) h U N E R)
   |_=>False))
 | .loop c,i,ak,h,U,_,E,R=>oR (kt e0 i) ak λaF=>TY (λaF h U N E R=>r2 n e0 c (i+1) (rP (kt e0 i) aF 0) h U (tR (kt e0 i) N) (w4 (kt e0 i) E) (tR (kt e0 i) R))
   (vC (kt e0 i) c E) (HK (kt e0 i) c R) n aF h U
 | .no,_,_,_,_,_,_,_=>False
def ekF(n:Nat)(e0:aa (aa Nat))(f:FuncId)(args:aa X)(h:ae)(U:Nat)(K:bN):Prop:=match yr P f with
 |some oU=>r2 P im n e0 oU.body 0 (ys args 0) h U (sQ P oU.res K) [] (sQ P oU.res K)
 |none=>False
def H0(av:FuncId->aa (aa Nat))(ei:FuncId->aw (aa X->ae->Nat->bN->Prop))(n m:Nat):FuncId->aa X->ae->Nat->bN->Prop :=
 Nat.rec (λ_ _ _ _ _=>False) (λ_ eS f args h U K=>match ei f with
  |some g=>g args h U K
  |none=>ekF P eS n (av f) f args h U K) m
end
end
section
variable {P:Program} {im:FuncId->aa X->ae->Nat->bN->Prop} {s:al}
theorem AO{b:al}(h:v6 b p):b=true/\p:=by cases b <;> first|exact h.elim|exact⟨rfl,h⟩
theorem abz{f:ae->R X}{v:X}{p:Prop}:∀{n:Nat} {g:aa ae},SV f v p n g->pi f v p n g
 |0,_,h=>h
 |_+1,[],h=>h
 |n+1,x::A,h=>⟨(AO h).1,abz (n:=n) (AO h).2⟩
theorem abA(g:∀f args h U K,im f args h U K->aE P s f args h U K){r:fr}{k:bN}(h:SX im r k):eQ P s r k:=by
 cases r <;> first|exact g _ _ _ _ _ h|exact h.elim
theorem adH(A:∀f args h U K,im f args h U K->aE P s f args h U K){e:vV}{h:ae}{U:Nat}{k:bN}(g:Ms P im e ak h U k):pz P s e ak h U k:=by
 cases e with
 |fG x=>exact g.elim
 |call f args=>exact hT g λ_ h=>A _ _ _ _ _ h
 |AN f args=>exact hT g λ_ h=>hT h λ_ h=>abA A h
 |inv r m args=>exact hT g λ_ h=>hT h λ_ h=>abA A h
 |_=>exact g
theorem au9(A:∀f args h U K,im f args h U K->aE P s f args h U K){i:nu}{h:ae}{U:Nat}{k:ch->ae->Nat->Prop}(g:TZ P im d i ak h U k):nU P s d i ak h U k:=by
 cases i with
 |fy e=>rw[KY];exact adH A g
 |fx e=>cases e <;> exact g
 |_=>exact g
theorem Rj(A:∀f args h U K,im f args h U K->aE P s f args h U K):∀{l:aa ma} {ak:ch} {h:ae} {U:Nat} {k:ch->ae->Nat->Prop},Mt P im l ak h U k->qs P s l ak h U k
 | [],_,_,_,_,g=>g
 |i::l,ak,h,U,k,g=>by have g:kD i.g ak (λak=>TZ P im i.d i.k ak h U λak h U=>Mt P im l ak h U k) (λak=>Mt P im l (ez ak i.d none) h U k):=g;rw[Kx];exact C4 g (λ_ h=>PZ (au9 A h) λ_ _ _ h=>Rj A (l:=l) h) (λ_ h=>Rj A (l:=l) h)
theorem arw(E:∀f args h U K,im f args h U K->aE P true f args h U K){c:Nat}{i:nu}{h:ae}{U:Nat}{b:ae}{D:aa ae}{k:ch->ae->Nat->ae->aa ae->Prop}(A:SY P im d c i ak h U b D k):nf P d c i ak h U b D k:=by
 have g:∀{e:vV},Ms P im e ak h U (λv ac Y=>v6 (Nat.ble U Y) (k (ez ak d (some v)) ac Y ac (b::D)))->pz P true e ak h U λv ac Y=>U<=Y/\k (ez ak d (some v)) ac Y ac (b::D):=
  λA=>Kw (adH E A) λ_ _ _ h=>⟨lX (AO h).1,(AO h).2⟩
 cases i with
 |red e=>exact hT A λv h=>by cases c <;> exact abz h
 |fy e =>
  cases e with
  |st n a x=>exact A
  |y1 dT m g x=>exact A
  |_ =>
  rw[Gn]
  first|exact g (e:=.fG _) A|exact g (e:=.rR _) A|exact g (e:=.call _ _) A|exact g (e:=.AN _ _) A|exact g (e:=.app _ _ _) A|exact g (e:=.bi _ _ _) A|exact g (e:=.inv _ _ _) A
 |fx e=>cases e <;> exact A
 |_=>exact A
theorem Rk(D:∀f args h U K,im f args h U K->aE P true f args h U K):∀{l:aa ma} {ak:ch} {h:ae} {U:Nat} {b:ae} {g:aa ae} {k:ch->ae->Nat->Prop},HZ P im l ak h U b g k->ij P l ak h U b g k
 | [],_,_,_,_,_,_,A=>A
 |i::l,ak,h,U,b,g,k,A=>by
  have A:kD i.g ak (λak=>SY P im i.d i.c i.k ak h U b g λak h U b g=>HZ P im l ak h U b g k)
   (λak=>Bool.rec (HZ P im l (ez ak i.d none) h U b g k) (HZ P im l (ez ak i.d none) h U h (b::g) k) (jn i.k)):=A
  show kD i.g ak (λak=>nf P i.d i.c i.k ak h U b g λak h U b g=>ij P l ak h U b g k)
   (λak=>Bool.rec (ij P l (ez ak i.d none) h U b g k) (ij P l (ez ak i.d none) h U h (b::g) k) (jn i.k))
  refine C4 A (λ_ h=>Zl (arw D h) λ_ _ _ _ _ h=>Rk D (l:=l) h) (λ_ h=>?_);cases E:jn i.k <;> rw[E]at h <;> exact Rk D (l:=l) h
theorem ava{B I:oS}{E:aa (Nat × aP)}{R:aP}(M:∀g h U N D,B g h U N E R->(∀g h U,N g h U->D g h U)->I g h U D E R){n:Nat}{g:aa X}{h:ae}{U:Nat}(Z:TY B E R n g h U):bE I g h U E R:=by
 refine⟨λm g h U=>TY B E R m g h U,n,Z,λm g h U A=>?_⟩;cases m with
 |zero=>exact A.elim
 |succ m=>exact M _ _ _ _ _ A λg h U ao=>⟨m,J,ao⟩
theorem avb(d0:∀s f args h U K,im f args h U K->aE P s f args h U K){n:Nat}{Z:aa (aa Nat)}:∀(c:kB) {i:Nat} {ak:ch} {h:ae} {U:Nat} {N:iX} {E:aa (Nat × iX)} {R:iX},r2 P im n Z c i ak h U N E R->h6 P s Z c i ak h U N E R:=by
 intro c
 induction c with
 |skip=>intro i ak h U N E R g;exact g
 |exit id=>intro i ak h U N E R g;exact g
 |ret=>intro i ak h U N E R g;exact g
 |scope c I=>intro i ak h U N E R g;exact I g
 |tQ l=>intro i ak h U N E R g;exact Rj (d0 s) g
 |DM l=>intro i ak h U N E R g;exact Rk (d0 true) g
 |no=>intro i ak h U N E R g;exact g.elim
 |xL f cf a b=>intro i ak h U N E R g;exact g.elim
 |seq a b A D=>intro i ak h U N E R g;exact P1 a (A g) (λ_ _ _ h=>D h) (λ_ _ _ _ h=>h) λ_ _ _ h=>h
 |block id c I=>intro i ak h U N E R g;exact I g
 |cond x a b A D =>
  intro i ak h U N E R g;cases x with
  |v v=>exact Ap g (λh=>A h) (λh=>D h)
  |t t =>
   simp only[r2,h6]at g ⊢
   split at g
   ·rename_i e
    rw[e];exact Ap g (λh=>A h) (λh=>D h)
   ·exact g.elim
 |loop c I =>
  intro i ak h U N E R g;exact C5 g λM bo=>ava (λM h U N N' aW d7=>P1 c (I aW) (λ_ _ _ h=>C5 h λM h=>d7 _ _ _ h) (λ_ _ _ _ h=>h) λ_ _ _ h=>h) bo
theorem adI(Z:qe P){av:FuncId->aa (aa Nat)}{A:FuncId->aw (aa X->ae->Nat->bN->Prop)}(tl:∀f g,A f=some g->∀args h U K,g args h U K->∀s,aE P s f args h U K){n:Nat}:
  ∀(m:Nat) (s:al) (f:FuncId) (args:aa X) (h:ae) (U:Nat) (K:bN),H0 P av A n m f args h U K->aE P s f args h U K
 |0,_,_,_,_,_,_,D=>D.elim
 |m+1,s,f,args,h,U,K,D=>by
  have D:(match A f with
   |some g=>g args h U K
   |none=>ekF P (H0 P av A n m) n (av f) f args h U K):=D
  cases I:A f with
  |some g=>rw[I]at D;exact tl f g I _ _ _ _ D s
  |none =>
   rw[I]at D;refine aE.pr Z (av f) ?_;have D:(match yr P f with
    |some E=>r2 P (H0 P av A n m) n (av f) E.body 0 (ys args 0) h U (sQ P E.res K) [] (sQ P E.res K)
    |none=>False):=D
   unfold oT;cases M:yr P f with
   |none=>rw[M]at D;exact D
   |some E=>rw[M]at D;exact avb (λs f args h U K hk=>adI Z tl m s f args h U K hk) _ D
theorem aE.home{f:FuncId}{h:ae}{U:Nat}{b:al}{K:bN}(M:aE P false f [] hs 0 (λv _ _=>v = .bool b))(I:K (.bool b) h U):aE P s f [] h U K:=by
 refine lg.up ⟨M.1,λB aj w D bc bK Z n=>?_⟩ I;cases Z;have g:ed w.heap.size (λ_=>none) (u hs) w:=⟨cC _,λb p o h=>(by cases h),λb b6 p eC h=>(by cases h),λb h=>by rw[Ka]at h;cases h⟩
 refine(M.2 w.heap.size _ w [] g (λb _=>rfl) .nil n).mono λe a8 b0=>?_;obtain⟨v,ac,Y,bu,c,rfl,rfl,E,A⟩:=b0;cases E;exact⟨_,h,U,aj,_,rfl,⟨rfl,rfl,rfl⟩,.bool _,cx.still bc A.size A.os A.tape A.output λk I=>A.frame k I (by rintro⟨b,p,aW,_⟩;cases aW)⟩
end
section
variable {B:Nat} {aj bu:ce} {H hK:fq} {w a8:World} {U Y:Nat}
end
section
variable {P:Program} {s:al} {f:FuncId} {args:aa X} {h:ae} {U:Nat} {K:bN}
end
end Go.Ax
