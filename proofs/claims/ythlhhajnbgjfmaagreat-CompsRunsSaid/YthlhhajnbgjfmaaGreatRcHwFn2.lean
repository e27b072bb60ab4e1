/- Parts of the proof: HwFn2: each statement bears its own conditions. -/
import Derived.Test.YthlhhajnbgjfmaaGreatProg
import Derived.KernelRfl
import Derived.Test.YthlhhajnbgjfmaaGreatRows
import Derived.WalkKit
import Derived.ProofKit
import Derived.OpenShut
import Derived.ChangeOld
import Derived.Below
import Derived.Test.YthlhhajnbgjfmaaGreatRcHwFn1
namespace Go.Proofs.YthlhhajnbgjfmaaGreat
open Go Go.Ax Go.ChangeShapes Go.WideShapes Go.ChangeAt Go.RowKit
set_option linter.all false
set_option maxHeartbeats 1000000
variable {U:Nat} {h:ae} {s:al} {gs:aa GE} {v:X} {N:Nat} {n:Int} {es:aa hN} {eR gO:X} {ao aj:Nat} {v2:X} {x y:dz} {v1 e1:X} {bM dQ dB:aa Int} {A B l:aa dz} {m src len:Int} {r:X} {HR:aa dz} {e:GE} {p:GE->al} {z:dz} {R:aR} {i f:Nat} {k:Int} {ac:ae} {aC aY bN:X} {Y:Nat} {az:Type} {c6:Int}
def lm(x y:dz):Prop:=x.1<y.1\/(x.1=y.1/\x.2.1<y.2.1)
def awe(es:aa dz)(x:dz):Prop:=x∈es/\∀y∈es,Ends x y->x.2.2<=y.2.2
structure rq (A B:aa dz):Prop where
 mem:∀x,x∈B↔awe A x
 G8:∀y∈A,∃z∈B,Ends z y
structure ky (A B:aa dz):Prop where
 up:B.Pairwise lm
 Lp:rq A B
theorem Ends.symm{x y:dz}(h:Ends x y):Ends y x:=⟨h.1.symm,h.2.symm⟩
theorem Ends.trans{x y z:dz}(h:Ends x y)(ac:Ends y z):Ends x z:=⟨h.1.trans ac.1,h.2.trans ac.2⟩
theorem Ends.refl(x:dz):Ends x x:=⟨rfl,rfl⟩
theorem lm.ne(h:lm x y):¬Ends x y:=λe=>by unfold lm at h;have:=e.1;have:=e.2;omega
theorem lm.iX(h:lm x y)(ac:lm y x):False:=by unfold lm at *;omega
theorem VS:∀{l C:aa dz},l.Pairwise lm->C.Pairwise lm->(∀x,x∈l↔x∈C)->l=C
 | [],[],_,_,_=>rfl
 | [],b::E,_,_,h=>absurd ((h b).2 (nI ..)) (by simp)
 |a::t,[],_,_,h=>absurd ((h a).1 (nI ..)) (by simp)
 |a::t,b::E,P,L,h=>by
  have M:∀x∈t,lm a x:=λx g=>sR P g;have I:∀x∈E,lm b x:=λx g=>sR L g;have D:a=b:=by
   rcases g5.1 ((h a).1 (nI ..))with e|e
   ·exact e
   ·rcases g5.1 ((h b).2 (nI ..))with K|K
    ·grind
    ·exact((I a e).iX (M b K)).elim
  subst D
  congr 1
  refine VS P.of_cons L.of_cons λx=>⟨λg=>?_,λg=>?_⟩
  ·rcases g5.1 ((h x).1 (mx _ g))with e|e
   ·subst e;exact((M x g).ne (Ends.refl x)).elim
   omega
  ·rcases g5.1 ((h x).2 (mx _ g))with e|e
   ·subst e;exact((I x g).ne (Ends.refl x)).elim
   omega
theorem ky.unique{C:aa dz}(h:ky A B)(ac:ky A C):B=C:=VS h.up ac.up λx=>(h.Lp.mem x).trans (ac.Lp.mem x).symm
def qq(z e:dz):dz:=(z.1,z.2.1,min z.2.2 e.2.2)
theorem rq.awf(h:rq A B){e:dz}(cZ:z∈B)(g:Ends z e)(et:∀x,x∈HR↔(x∈B/\¬Ends x e)\/x=qq z e):rq (A++[e]) HR:=by
 have K:=(h.mem z).1 cZ;refine⟨λx=>?_,λy D=>?_⟩
 ·rw[et];constructor
  ·rintro(⟨E,bH⟩|rfl)
   ·have Z:=(h.mem x).1 E;refine⟨BD _ Z.1,λy D M=>?_⟩;rcases hb.1 D with D|D
    ·exact Z.2 y D M
    grind
   ·refine⟨?_,λy D M=>?_⟩
    ·by_cases dR:z.2.2<=e.2.2
     ·have:qq z e=z:=by unfold qq;grind
      rw[this];exact BD _ K.1
     ·have:qq z e=e:=by unfold qq;rw[Int.min_eq_right J,g.1,g.2]
      grind
    ·rcases hb.1 D with D|D
     ·have:=K.2 y D M;show min z.2.2 e.2.2<=_;omega
     ·rw[iP.1 D];show min z.2.2 e.2.2<=_;omega
  ·rintro⟨E,V⟩
   by_cases C:Ends x e
   ·refine .inr ?_;have h1:=V e (by simp) C;have ar:=V z (BD _ K.1) (C.trans g.symm);have aL:x.2.2=min z.2.2 e.2.2:=by
     rcases hb.1 E with E|E
     ·have:=K.2 x E (g.trans C.symm);omega
     grind
    have aV:x.1=z.1:=C.1.trans g.1.symm;have aP:x.2.1=z.2.1:=C.2.trans g.2.symm;obtain⟨ii,jN,hE⟩:=x;unfold qq
    grind
   ·refine .inl ⟨(h.mem x).2 ⟨?_,ab⟩,C⟩;rcases hb.1 E with E|E
    ·omega
    ·rw[iP.1 E]at C;exact absurd (Ends.refl e) C
 ·have P:qq z e∈HR:=ab
  rcases hb.1 D with D|D
  ·obtain⟨q,cM,I⟩:=h.G8 y D
   by_cases L:Ends q e
   ·exact⟨_,P,(show Ends (qq z e) z from⟨rfl,rfl⟩).trans (g.trans (L.symm.trans I))⟩
   ·exact⟨q,ab,I⟩
  ·rw[iP.1 D];exact⟨_,P,(show Ends (qq z e) z from⟨rfl,rfl⟩).trans g⟩
theorem rq.awg(h:rq A B){e:dz}(M:∀z∈B,¬Ends z e)(K:∀x,x∈HR↔x∈B\/x=e):rq (A++[e]) HR:=by
 refine⟨λx=>?_,λy g=>?_⟩
 ·rw[K];constructor
  ·rintro(D|rfl)
   ·have I:=(h.mem x).1 D;refine⟨BD _ I.1,λy g E=>?_⟩;rcases hb.1 g with g|g
    ·exact I.2 y g E
    grind
   ·refine⟨by simp,λy g E=>?_⟩;rcases hb.1 g with g|g
    ·obtain⟨q,L,C⟩:=h.G8 y g;exact absurd (C.trans E.symm) ab
    grind
  ·rintro⟨D,P⟩;rcases hb.1 D with D|D
   ·exact .inl ((h.mem x).2 ⟨D,ab⟩)
   grind
 ·rcases hb.1 g with g|g
  ·obtain⟨q,L,C⟩:=h.G8 y g;exact⟨q,ab,C⟩
  ·rw[iP.1 g];exact⟨e,ab,Ends.refl e⟩
theorem rq.nil:rq [] []:=⟨λx=>⟨λ(h:x∈([]:aa dz))=>(sT h).elim,λh=>(sT h.1).elim⟩,λy g=>(sT g).elim⟩
def Da(l:aa dz):Prop:=l.Pairwise λx y=>¬Ends x y
theorem Xm(e:dz):∀(l:aa dz),Da l->Da (im e l)/\((∃z∈l,Ends z e/\∀x,x∈im e l↔(x∈l/\¬Ends x e)\/x=qq z e)\/((∀z∈l,¬Ends z e)/\∀x,x∈im e l↔x∈l\/x=e))
 | [],_=>⟨by unfold im Da;simp,.inr ⟨by simp,λx=>by simp[im]⟩⟩
 |z::l,M=>by
  have aZ:im e (z::l)=(bif fz z.1 e.1&&fz z.2.1 e.2.1 then(z.1,z.2.1,bif la e.2.2 z.2.2 then e.2.2 else z.2.2)::l else z::im e l):=rfl;have C:∀x∈l,¬Ends z x:=λx g=>sR M g;rw[aZ];cases L:(fz z.1 e.1&&fz z.2.1 e.2.1)with
  |true =>
   simp only[eC,kN,uc]at L;have D:Ends z e:=⟨L.1,L.2⟩
   have E:((z.1,z.2.1,bif la e.2.2 z.2.2 then e.2.2 else z.2.2):dz)=qq z e:=by
    unfold qq;rw[qX]
    grind
   rw[E];simp only[p5];refine⟨List.Pairwise.cons (λx g I=>C x g ((show Ends z (qq z e)from⟨rfl,rfl⟩).trans I)) M.of_cons,.inl ⟨z,ab,D,λx=>?_⟩⟩;constructor
   ·intro g;rcases g5.1 g with rfl|g
    ·grind
    ·exact .inl ⟨ab,λI=>C x g (D.trans I.symm)⟩
   grind
  |false =>
   have D:¬Ends z e:=λh=>by
    have:(fz z.1 e.1&&fz z.2.1 e.2.1)=true:=by simp only[eC,kN,uc];exact⟨h.1,h.2⟩
    grind
   obtain⟨h1,V⟩:=Xm e l M.of_cons;simp only[my];have P:∀x∈im e l,¬Ends z x:=λx g I=>by
    rcases V with⟨q,Z,K,E⟩|⟨bH,E⟩
    ·rcases(E x).1 g with⟨g,_⟩|rfl
     ·grind
     ·exact C q Z (I.trans (show Ends (qq q e) q from⟨rfl,rfl⟩))
    grind
   refine⟨List.Pairwise.cons P h1,?_⟩;rcases V with⟨q,Z,K,E⟩|⟨bH,E⟩
   ·refine .inl ⟨q,ab,K,λx=>?_⟩
    grind
   grind
theorem Xn:∀(l A g:aa dz),Da g->rq A g->Da (h2 g l)/\rq (A++l) (h2 g l)
 | [],A,g,I,C=>by rw[hZ];exact⟨I,C⟩
 |e::l,A,g,I,C=>by
  obtain⟨P,V⟩:=Xm e g I;have K:rq (A++[e]) (im e g):=by
   rcases V with⟨z,M,D,E⟩|⟨L,E⟩
   ·exact C.awf M D E
   ·exact C.awg L E
  have:=Xn l (A++[e]) (im e g) P K;rw[kv]at this;exact this
theorem aqH(h:¬jT y x<0)(g:¬Ends x y):lm x y:=by rw[Fx]at h;unfold lm;unfold Ends at g;omega
theorem amJ{g:aa dz}(E:g.Perm (h2 [] l))(M:g.Pairwise λx y=>¬jT y x<0):ky l g:=by
 obtain⟨P,C⟩:=Xn l [] [] (by exact List.Pairwise.nil) rq.nil;rw[sU]at C;have L:Da g:=(E.pairwise_iff (λ{x y} h e=>h e.symm)).2 P;refine⟨?_,λx=>(E.mem_iff).trans (C.mem x),λy I=>?_⟩
 ·exact List.Pairwise.imp₂ (λx y h K=>aqH h K) M L
 ·obtain⟨z,V,D⟩:=C.G8 y I;exact⟨z,ab,D⟩
theorem ky.self(h:l.Pairwise lm):ky l l:=by
 have E:∀(l:aa dz),l.Pairwise lm->∀x∈l,∀y∈l,Ends x y->x=y:=by
  intro l
  induction l with
  |nil=>grind
  |cons a l I =>
   intro h x g y C D;rcases g5.1 g with g|g <;> rcases g5.1 C with C|C
   ·grind
   ·rw[g]at D;exact((sR h C).ne D).elim
   ·rw[C]at D;exact((sR h g).ne D.symm).elim
   grind
 exact⟨h,λx=>⟨λg=>⟨g,ab⟩,λg=>g.1⟩,λy C=>⟨y,C,Ends.refl y⟩⟩
structure aeR (N:Nat) (gs cs:aa GE):Prop where
 can:ky (gs.map ee) (cs.map ee)
 ends:Yr gs cs
 ok:∀g∈cs,hi N g
 len:cs.length<=gs.length
theorem awh(N:Nat)(gs:aa GE)(ek:N<=2147483648)(L:∀g∈gs,hi N g)(Z:l.Perm (h2 [] (gs.map ee)))(ap:l.Pairwise λx y=>¬jT y x<0):aeR N gs (l.map Bd)/\(l.map Bd).map ee=l:=by
 have M:∀x∈h2 [] (gs.map ee),lB x:=IF (λx C=>by obtain⟨g,E,rfl⟩:=f0.1 C;exact YT ek (L g E)) (λx C=>by cases C)
 obtain⟨aV,aP⟩:=Wn (gs.map ee) [];have V:∀x∈h2 [] (gs.map ee),ee (Bd x)=x:=λx C=>by obtain⟨K,I,aL⟩:=M x C;obtain⟨a,cY,_⟩:=uh K;obtain⟨b,aT,_⟩:=uh I;obtain⟨ii,jN,hE⟩:=x;simp only at cY aT;subst cY;subst aT;rfl
 have P:(l.map Bd).map ee=l:=by
  rw[ot]
  conv=>rhs;rw[<-Ez l]
  exact o9 ab
 have D:∀x∈h2 [] (gs.map ee),∃g∈gs,(Bd x).f=g.f/\(Bd x).t=g.t:=λx C=>by obtain⟨y,ce,K,I⟩:=aV x C;obtain⟨g,E,rfl⟩:=f0.1 (by simpa using ce);exact⟨g,E,by show x.1.toNat=_;rw[K];rfl,by show x.2.1.toNat=_;rw[I];rfl⟩
 refine⟨⟨by rw[P];exact amJ Z ap,⟨λg E=>?_,λc aZ=>?_⟩,λc aZ=>?_,?_⟩,P⟩
 ·obtain⟨x,C,K,I⟩:=aP (ee g) ab;exact⟨Bd x,ab,by show x.1.toNat=_;rw[K];rfl,by show x.2.1.toNat=_;rw[I];rfl⟩
 ·obtain⟨x,C,rfl⟩:=f0.1 aZ;obtain⟨g,E,K,I⟩:=D x ab
  grind
 ·obtain⟨x,C,rfl⟩:=f0.1 aZ;have C:=Z.subset C;obtain⟨g,E,K,I⟩:=D x C;obtain⟨_,_,aL⟩:=M x C;obtain⟨w,bV,yl⟩:=uh aL;exact⟨by rw[K];exact(L g E).1,by rw[I];exact(L g E).2.1,by show 0<=x.2.2;omega,by show x.2.2<=_;omega⟩
 ·rw[gH,Z.length_eq];have:=NE (gs.map ee) []
  grind
set_option maxRecDepth 1000000
def Gg:aa (aa Nat):=[[0,4,5,6,22,23,24],[0,4,5,13,52]]
def ade(s:al)(aC aY bN bu ef i0 fd:X)(h:ae)(U:Nat)(N:aR)(aM:aR)(R:aR):Prop:=cH fd i0 (hv 3 h 3 ef fd λc=>bW [(ad 0),(ad 0),(ad 0)] h U λd e f=>af (aQ e 3 d c) λg=>ax g 0 d λj=>ax g 1 d λl=>af (cS [(ad 0),(ad 0)] [(0,1,j),(1,1,l)]) λm=>bW [(ad 0),(ad 0)] g f λn o p=>af (aQ o 2 n m) λq=>ax q 2 d λt=>aW s 260 [t] q p λaD v w=>bW [(ad 0),(.int .u64 0)] v w λx y z=>af (aQ y 2 x aD) λbz=>aN 2 bz n λbU=>af (jR Q bz 53 (.agg #[(ad 0),(.int .u64 0)]) true bu bU) λbQ=>af (cy bQ 0) λa8=>af (cy bQ 1) λbY=>bW [(ad 0),(.int .u64 0)] bz z λb7 bL cK=>af (aQ bL 2 b7 a8) λcC=>br bY (aN 2 cC b7 λdn=>aN 2 cC x λdf=>aW s 261 [aC,dn,df] cC cK λeJ am an=>af (aQ am 2 x eJ) λeP=>aN 2 eP n λgx=>aN 2 eP x λgN=>af (mB Q 53 eP bu gx gN) λgE=>cg fd λh7=>N [aC,aY,bN,bu,ef,i0,h7] gE an) (aN 2 cC n λiN=>aN 2 cC x λgy=>af (mB Q 53 cC bu iN gy) λlS=>cg fd λlv=>N [aC,aY,bN,bu,ef,i0,lv] lS cK)) (aM [aC,aY,bN,bu,ef,i0,fd] h U)
def adg(s:al)(aC aY bN ho G9:X)(h:ae)(U:Nat)(N:aR)(aP:aR)(R:aR):Prop:=uW s h U G9 λa b c=>af (cy a 0) λd=>br d (af (vU b G9) λe=>af (cy e 0) λf=>af (cy e 1) λg=>bW [(ad 0),(ad 0)] b c λi j k=>bW [(ad 0),(.int .u64 0)] j k λl m n=>af (aQ m 2 i f) λo=>af (aQ o 2 l g) λp=>aN 2 p l λq=>aW s 262 [aC,q] p n λr t aD=>af (cy r 0) λv=>af (cy r 1) λw=>af (dr .not w) λx=>br x (R [aC,ay,(ad 12),ho,G9] t aD) (af (ib (.array 2 1) i (ad 0)) λy=>bT t y λz=>af (ib (.array 2 1) i (ad 1)) λbz=>bT t bz λbU=>af (cS [(ad 0),(ad 0),(ad 0)] [(0,1,z),(1,1,bU),(2,1,v)]) λbQ=>d4 (fh 1 [(ad 0),(ad 0),(ad 0)] [(0,3,bQ)]) t aD λa8 bY b7=>dG (dX (dT 3 bY b7 ho a8)) λbL cK cC=>N [aC,aY,bN,bL,G9] cK cC)) (aP [aC,aY,bN,ho,G9] b c)
def af4:c5:=λs ah t1 h U K=>aW s 259 [ah] h U λa b c=>af (dr .not a) λd=>br d (K (.tuple ⟨[ay,(ad 8)]⟩) b c) (d4 (.ok .map) b c λe f g=>cV t1 λi=>bD (bR Q s Gg 172 0) [ah,ay,(ad 0),e,t1,i,(ad 0)] f g [(0,λj k l=>dG (r3 k l (a7 j 3)) λm n o=>bD (bR Q s Gg 172 1) [(a7 j 0),(a7 j 1),(a7 j 2),ay,m] n o [(2,λp q r=>aW s 263 [(a7 p 3),(.func (.func 264) #[] #[])] q r λt aD v=>K (.tuple ⟨[(a7 p 3),(ad 0)]⟩) aD v)] (λw x y=>K (.tuple ⟨[(a7 w 1),(a7 w 2)]⟩) x y))] (λ_ _ _=>False))
theorem atX{E C g fd:X}{N D:aR}:bR Q s Gg 172 0 [aC,aY,bN,E,C,g,fd] h U N [(0,D)] R=ade s aC aY bN E C g fd h U N D R:=by kernel_rfl
theorem atY{C g:X}{N D:aR}:bR Q s Gg 172 1 [aC,aY,bN,C,g] h U N [(2,D)] R=adg s aC aY bN C g h U N D R:=by kernel_rfl
theorem awi:c7 172 af4:=c9 Gg
theorem FD{n:Nat}(h:n<2147483648):wid (n:Int)=oC n:=by unfold wid oC;rw[show(n:Int) / 18446744073709551616=0 by omega,show(n:Int) % 18446744073709551616=(n:Int) by omega]
def af5(es:aa dz)(v:X)(r:Nat)(au:ae)(m:Nat)(aE:aa X)(ac:ae)(Y:Nat):Prop :=
 ∃i,m=es.length-i/\i<=es.length/\aE=[.int .i64 1,.slice none 0 0,.int .i64 0,.map (some r),v,(es.length:X),(i:X)]/\u ac r=some (.map (kb 0 (h2 [] (es.take i))) (h2 [] (es.take i)).length)/\r<Y/\aA r au ac
def ax5(L:aa dz)(r it:Nat)(au:ae)(m:Nat)(aE:aa X)(ac:ae)(Y:Nat):Prop :=
 ∃seen acc o,m=(Go.Ax.leftOf seen (kb 0 L)).length/\aE=[.int .i64 1,.slice none 0 0,.int .i64 0,o,bd it]/\d5 ac o kf 3 acc (it+1) Y/\(acc=[]->o = .slice none 0 0)/\(acc++(Go.Ax.leftOf seen (kb 0 L)).map wb).Perm L/\u ac it=some (.iter (some r) L.length seen L.length)/\u ac r=some (.map (kb 0 L) L.length)/\it<Y/\aA r au ac
theorem atZ{es:aa dz}(aJ:ft h U v kf es)(ty:∀x∈es,lB x)(bb:es.length<=120):
  aH Q false 172 [.int .i64 1,v] h U (λr ac Y=>∃v2 l,r = .tuple ⟨[v2,.int .i64 0]⟩/\d5 ac v2 kf 3 l U Y/\(l=[]->v2 = .slice none 0 0)/\l.Perm (h2 [] es)/\l.Pairwise (λx y=>¬jT y x<0)/\aA U h ac):=by
 refine awi ?_;obtain⟨a,cap,rfl,aZ⟩:=id aJ;unfold af4;refine(zJ J J).mono ?_;rintro _ h U ⟨rfl,rfl,rfl⟩;refine aF ?_;refine bD.mk (af5 es (.slice a es.length cap) U h) es.length ⟨0,J,J,rfl,aS _ _ _,J,aK⟩ ?_;rintro m _ h1 I ⟨i,rfl,aj,rfl,bl,a5,hk⟩;rw[atX];unfold ade;refine aF ?_;refine⟨λcA=>?_,λeN=>?_⟩
 ·obtain⟨x,a1⟩:=d1 cA;have M:=ty x (k4 a1);obtain⟨w,bV,yl⟩:=uh M.2.2;have D:∀y∈h2 [] (es.take i),lB y:=IF (λy ce=>ty y (List.mem_of_mem_take ce)) (λy ce=>by cases ce);obtain⟨_,b,aO,bJ,mC,cs,sp,ax6,DD⟩:=(aJ.F hk (by omega:U<=I)).at a1;cases ax6;have rm:h0 (some 3) (i*3) (bc kf es++cs) = .ok (.agg ⟨[(x.1:X),(x.2.1:X),(x.2.2:X)]⟩):=yA (enc:=kf) (k:=3) (λ_=>rfl) a1;refine cL @DD @rm ?_;refine(zI (by rw[bV];unfold kk;omega)).mono ?_;rintro _ ar bX ⟨rfl,E,eZ⟩;have bB:=E (I+1) J;rw[aS]at bB;rw[bV,FD yl];unfold oC;refine bg @bB ?_;have ck:h2 [] (es.take (i+1))=im x (h2 [] (es.take i)):=by rw[<-Wf,hx,a1];rfl
  have fin:∀aL bS,bX<=bS->(∀c,c<bX->u aL c=u ar c)->∃bC,bC<es.length-i/\af5 es (.slice (some ⟨b,0,aO⟩) es.length cap) U h bC [.int .i64 1,.slice none 0 0,.int .i64 0,.map (some U),.slice (some ⟨b,0,aO⟩) es.length cap,(es.length:X),.int .i64 (IntKind.wrap .i64 ((i:Int)+1))] (T aL U (.map (kb 0 (im x (h2 [] (es.take i)))) (im x (h2 [] (es.take i))).length)) bS:=λaL bS DF C =>
   ⟨es.length-(i+1),J,i+1,rfl,J,by rw[cG (J:i<1000000000000)],by rw[ck];exact aS _ _ _,J,aK⟩
  have g2:=(E U J).trans ((aq J).trans ((aq J).trans ((aq J).trans ((aq J).trans bl))));rw[show Value.agg ⟨[(x.1:X),(x.2.1:X)]⟩=l8 x from rfl,as2 Qj M D ((aq J).trans ((aq J).trans g2))];cases bK:pG x (h2 [] (es.take i))with
  |none =>
   refine bg @bB ?_;rw[show Value.agg ⟨[(x.1:X),(x.2.1:X)]⟩=l8 x from rfl,show Value.agg ⟨[.int .i64 0,.int .u64 (w:Int)]⟩ = .agg ⟨oC w⟩from rfl,
    ack Qj M D (((aq J).trans ((aq J).trans ((aq J).trans ((aq J).trans g2))))) (w:=w) (by rw[bK];show w=x.2.2.toNat;omega)]
   exact fin _ _ J λc aZ=>ab
  |some p =>
   obtain⟨q,y⟩:=p;have hsy:=D y (k4 (JB bK).1);obtain⟨g,dY,SU⟩:=uh hsy.2.2;unfold oC;refine bg @bB ?_;rw[show y.2.2.toNat=g by omega,show Value.agg ⟨[.int .i64 0,.int .u64 (g:Int)]⟩ = .agg ⟨wid (g:Int)⟩ by rw[FD SU];rfl,show Value.agg ⟨[.int .i64 0,.int .u64 (w:Int)]⟩ = .agg ⟨wid (w:Int)⟩ by rw[FD yl];rfl];refine(Pm (.inl rfl) (by unfold lg;omega) (by unfold lg;omega)).mono ?_;rintro _ aL bS ⟨rfl,C,Z⟩;have e:jI 1 (g:Int) (w:Int)=((min g w:Nat):Int):=by unfold jI;omega
   have dj:=C bX J;rw[aq J,aq J,aS]at dj;have dL:=(C (I+1) J).trans ((aq J).trans ((aq J).trans ((aq J).trans ((aq J).trans bB))));have gc:=(C U J).trans ((aq J).trans ((aq J).trans ((aq J).trans ((aq J).trans g2))));rw[e,FD J];unfold oC;refine cL @dj @dL ?_;rw[show Value.agg ⟨[(x.1:X),(x.2.1:X)]⟩=l8 x from rfl,show Value.agg ⟨[.int .i64 0,.int .u64 ((min g w:Nat):Int)]⟩ = .agg ⟨oC (min g w)⟩from rfl,
    ack Qj M D ((aq J).trans gc) (w:=min g w) (by rw[bK];show min g w=(bif la x.2.2 y.2.2 then x.2.2 else y.2.2).toNat;rw[qX];grind)]
   exact fin _ _ J λc aZ=>(aq J).trans ((C c J).trans ((aq J).trans ((aq J).trans ((aq J).trans (aq J)))))
 ·have:i=es.length:=J
  subst this;rw[iQ]at bl;show dG (r3 h1 I (.map (some U))) _;have D:∀y∈h2 [] es,lB y:=IF ty (λy ce=>by cases ce);have fW:(h2 [] es).length<=120:=by
   have:=NE es []
   grind
  generalize h2 [] es=L at *
  obtain⟨P,awj⟩:=Vu 0 L;obtain⟨wj,Rz⟩:=VM 0 L D;refine acw bl (bD.mk (ax5 L U I h) (kb 0 L).length ⟨[],[],_,by rw[M0],rfl,.inl ⟨rfl,rfl⟩,λ_=>rfl,by rw[M0,wj];exact BH _,aS _ _ _,(aq J).trans bl,J,aK⟩ ?_);rintro m _ ar bX ⟨seen,acc,o,rfl,rfl,ap,cZ,bk,hit,ro,cA,E⟩;rw[atY];unfold adg;refine acx hit ro (λe bE=>by have:=awj e bE;omega) rfl (λRG=>?_) λe bE V=>?_
  ·refine aF ?_;rw[RG]at bk;simp only[zd,hZ]at bk;rcases id ap with⟨rfl,rfl⟩|⟨o0,ig,fw,rfl,SV⟩
   ·refine amH ⟨_,[],rfl,.inl ⟨rfl,rfl⟩,λ_=>rfl,bk,List.Pairwise.nil,E⟩
   ·have:=bk.length_eq;refine(aqC rfl J fw SV).mono ?_;rintro _ aL bS ⟨Z,⟨b6,K,nd,hh⟩,yr⟩;exact⟨_,b6,rfl,.inr ⟨o0,J,J,by rw[K.length_eq],hh⟩,λe=>cZ (by rw[e]at K;exact List.nil_perm.1 K),K.trans bk,nd,λc aZ=>by rw[yr c J J];exact E c aZ⟩
  ·obtain⟨g,SU,dY,ax7,Ry⟩:=Rz e V;have oP:=Nh P bE;have mJ:=oP.length_eq;simp only[nJ]at mJ;refine aF ?_;rw[W3 (aS _ _ _) ((aq J).trans ro) P V,ax7,Ry];have sj:=oP.map wb;simp only[t9]at sj;generalize a1:wb e=x at *
   rw[show l8 x = .agg ⟨[(x.1:X),(x.2.1:X)]⟩from rfl];unfold oC;refine aF ?_;rw[show Value.agg ⟨[.int .i64 0,.int .u64 (g:Int)]⟩ = .agg ⟨wid (g:Int)⟩ by rw[FD SU];rfl];refine(Wl (x:=(g:Int)) (by unfold lg;omega)).mono ?_;intro i1 aL bS Lq;obtain⟨ch,C,Z⟩:=Lq;have x7:sb (g:Int)=true:=by unfold sb;exact g4 ⟨J,J⟩
   rw[x7]at ch;have bB:=(C bX J).trans (aq J);rw[ch];rw[show(if true=true then(g:Int)else 0)=(g:Int)from rfl];refine bg @bB ?_;have Lr:=bk.length_eq;simp only[jm,gH]at Lr;refine l4 (enc:=kf) (ao:=I+1) (λ_=>rfl) (λ_=>rfl) J (ap.F (λc h1 ar=>(aq J).trans ((C c J).trans ((aq J).trans ((aq J).trans ((aq J).trans ((aq J).trans (aq J))))))) J) J x (aS _ _ _) (by show[Value.int .i64 x.1,(x.2.1:X),(g:X)]=kf x;unfold kf;rw[dY]) (by omega) ?_;intro v4 bm Ha fP;have hD:∀c,c<I+1->c≠I->u bm c=u ar c:=λc h1 ar=>(fP c h1).trans ((aq J).trans ((C c J).trans ((aq J).trans ((aq J).trans ((aq J).trans ((aq J).trans (aq J)))))));refine⟨_,?_,seen++[e.born],acc++[x],v4,rfl,rfl,Ha,λe=>absurd e (by simp),?_,?_,(hD U J J).trans ro,J,λc aZ=>(hD c J J).trans (E c aZ)⟩
   ·omega
   ·rw[kv];exact(List.Perm.append_left acc sj.symm).trans bk
   ·refine(fP I J).trans ((aq J).trans ((C I J).trans ((aq J).trans ((aq J).trans ((aq J).trans ((aq J).trans (aS _ _ _)))))))
theorem ajQ(aJ:ft h U v cW gs)(ek:N<=2147483648)(M:∀g∈gs,hi N g)(bb:gs.length<=120):
  aH Q s 172 [.int .i64 1,v] h U (λr ac Y=>∃v2 cs,r = .tuple ⟨[v2,.int .i64 0]⟩/\d5 ac v2 cW 3 cs U Y/\aeR N gs cs/\aA U h ac/\U<=Y):=by
 have V:∀x∈gs.map ee,lB x:=λx a1=>by obtain⟨g,a6,rfl⟩:=f0.1 a1;exact YT ek (M g a6)
 have hv2:ft h U v kf (gs.map ee):=by obtain⟨a,cap,rfl,aZ⟩:=aJ;refine⟨a,cap,by rw[gH],λe0=>?_⟩;rw[<-JH];exact aZ (λe=>e0 (by rw[e];rfl))
 have P:=atZ hv2 V (by rw[gH];exact bb);obtain⟨-,bk,ap⟩:=NF YP (h2 [] (gs.map ee));generalize qc jT (h2 [] (gs.map ee))=L at bk ap;obtain⟨D,Z⟩:=awh N gs ek M bk ap;have C:∀l:aa dz,l.Perm (h2 [] (gs.map ee))->l.Pairwise (λx y=>¬jT y x<0)->l=L:=λl h1 ar=>ND (R:=λx y=>¬jT y x<0) (λx y=>ajf x y) (h1.trans bk.symm) ar ap
 by_cases fq:L=[]
 ·subst fq;refine aH.plain (v:=.tuple ⟨[.slice none 0 0,.int .i64 0]⟩) rfl (P.mono ?_) ⟨_,_,rfl,.inl ⟨rfl,rfl⟩,D,aK,J⟩;rintro _ ac Y ⟨v2,l,rfl,K,cZ,E,I,hk⟩;cases C l E I;rw[cZ rfl];exact⟨rfl,hk⟩
 ·refine aH.mR (val:=λb=>.tuple ⟨[.slice (some ⟨b,0,some 3⟩) L.length L.length,.int .i64 0]⟩) (cs:=bc kf L) (EN (λ_=>rfl) L) Wi (P.mono ?_) ⟨_,_,rfl,.inr ⟨U,J,J,by rw[gH],?_⟩,D,aK,J⟩
  ·rintro _ ac Y ⟨v2,l,rfl,K,cZ,E,I,hk⟩;cases C l E I;rcases K with⟨e,_⟩|⟨b,ig,fw,rfl,aT⟩
   ·exact absurd e fq
   ·exact⟨b,rfl,ig,aT,hk⟩
  ·rw[aS,JH,Z]
def yc(N:Nat)(gs:aa GE)(U:Nat)(h:ae):bP:=λr ac Y=>∃v2 cs,r = .agg ⟨[(N:X),v2]⟩/\d5 ac v2 cW 3 cs U Y/\ky (gs.map ee) (cs.map ee)/\(∀g∈cs,hi N g)/\cs.length<=gs.length/\aA U h ac/\U<=Y
theorem aaX(L:ft h U v cW gs)(Z:N<=2147483648)(E:∀g∈gs,hi N g)(bb:gs.length<=120):
  aH Q s 98 [.agg ⟨[(N:X),v]⟩] h U (yc N gs U h):=by
 refine atw ?_;obtain⟨a,cap,rfl,aZ⟩:=id L;unfold aeA;refine aF ?_;have hS:∀{eX dO:gh},aA U h (T (T h U eX) (U+1) dO):=aK
 refine(ajQ (L.F hS J) Z E bb).mono ?_;rintro r h1 kC ⟨v2,I,rfl,D,C,V,dR⟩;have M:=(V U J).trans (aq J);have P:=V (U+1) J;rw[aS]at M P;obtain⟨a2,bX,K,rfl⟩:=D.form;refine cL @M @P ?_;have aj:ky (gs.map ee) (I.map ee):=C.can;refine⟨_,I,rfl,?_,aj,C.ok,C.len,aK,J⟩;rcases D with D|⟨b,h1,ar,e,aT⟩
 ·exact .inl D
 ·exact .inr ⟨b,J,ar,e,ab⟩
def ln(n m:Int):al:=decide (0<=n/\n<=m)
theorem k8(h:0<=n/\n<=m):ln n m=true:=g4 h
theorem pq(h:¬(0<=n/\n<=m)):ln n m=false:=hl h
theorem EV:aH Q s 277 [(n:X),(m:X)] h U (λr ac Y=>r = .bool (ln n m)/\ac=h/\Y=U):=by
 refine ama ?_;unfold aaA;refine aF ?_;refine⟨λC=>?_,λC=>by rw[pq J]⟩
 by_cases g:m<n
 ·rw[g4 g,pq J];rfl
 ·rw[hl g,k8 J];rfl
theorem EO:aH Q s 156 [(n:X),(m:X)] h U (λr ac Y=>r = .bool (ln n m)/\ac=h/\Y=U):=by
 refine ajB ?_;unfold YB;refine aF ?_;refine⟨λC=>?_,λC=>by rw[pq J]⟩
 by_cases g:m<n
 ·rw[g4 g,pq J];rfl
 ·rw[hl g,k8 J];rfl
theorem NP:aH Q s 199 [(n:X),(m:X)] h U (λr ac Y=>r = .bool (decide (1<=n/\n<=m))/\ac=h/\Y=U):=by
 refine amg ?_;unfold aaF;refine aF ?_;refine⟨λg=>?_,ab⟩
 by_cases C:m<n
 all_goals grind
def GA(d:Int):al:=decide (d<0\/2147483647<d)
theorem ajR{d:Int}:aH Q s 279 [(d:X)] h U (dC (.bool (GA d)) U h):=by refine amb ?_;unfold aaB;refine aF ?_;refine⟨λg=>⟨by unfold GA;grind,aK,J⟩,λg=>⟨?_,aK,J⟩⟩;unfold GA;grind
def IxJ{az:Type}(p:az->al)(l:aa az)(v qI:X)(U:Nat)(h:ae)(m:Nat)(aE:aa X)(ac:ae)(Y:Nat):Prop:=∃i,m=l.length-i/\i<=l.length/\aE=[v,qI,.int .i64 0,(l.length:X),(i:X)]/\aA U h ac/\U<=Y/\∀x∈l.take i,p x=false
theorem adh{p:az->al}{l:aa az}{x:az}(g:l[i]? = some x)(h:∀y∈l.take i,p y=false)(D:p x=false):∀y∈l.take (i+1),p y=false:=λy C=>by
 rw[hx,g]at C
 grind
theorem amK{p:Int->al}{l:aa Int}(M:cN h U v c3 l)(bb:l.length<1000000)(bK:∀(x:Int) (h:ae) (U:Nat),aH Q s f [(x:X)] h U (dC (.bool (p x)) U h)):
  aH Q s 278 [v,.func (.func f) ⟨[]⟩ ⟨[]⟩] h U (dC (.bool (l.any p)) U h):=by
 refine ap3 ?_;obtain⟨a,cap,rfl,aZ⟩:=id M;refine(ap4 (K:=λr ac Y=>aA U h ac/\U<=Y/\∃i:Int,r = (i:X)/\(i<0↔l.any p=false)) ?_).mono ?_
 ·unfold acF;refine aF ?_;refine bD.mk (IxJ p l (.slice a l.length cap) (.func (.func f) ⟨[]⟩ ⟨[]⟩) U h) l.length ⟨0,rfl,J,rfl,aK,J,ab⟩ ?_;rintro m _ ac Y ⟨i,rfl,aj,rfl,D,g,C⟩;rw[amc];unfold Yw;refine aF ?_;refine⟨λI=>?_,λeN=>?_⟩
  ·obtain⟨x,E⟩:=d1 I;obtain⟨_,b,aO,bJ,c1,aT,aV,L⟩:=M.at E;cases aV;rw[iG]at L;simp(disch:=omega)only[bn,(D b aT).trans L,i6 E,seval];refine(bK x ac Y).mono ?_;rintro r ar nk ⟨rfl,Z,P⟩;rw[C4];refine⟨λV=>?_,λV=>?_⟩
   ·refine⟨aK,J,_,rfl,⟨λh=>absurd h J,λh=>?_⟩⟩
    grind
   ·refine bg (cG (J:i<1000000000000)) ?_;exact⟨l.length-(i+1),J,i+1,rfl,J,rfl,aK,J,adh E C V⟩
  ·have:i=l.length:=J
   subst this;rw[iQ]at C;exact⟨D,g,_,rfl,ab⟩
 ·rintro r ac Y ⟨D,g,i,rfl,aj⟩;refine aF ?_;refine⟨?_,D,g⟩
  grind
abbrev cx:=Int × Int × Int × Int
def yd(m:cx):aa X:=[(m.1:X),(m.2.1:X),(m.2.2.1:X),(m.2.2.2:X)]
def vX(m:cx):al:=(ln m.2.1 63&&ln m.2.2.1 63&&ln m.2.2.2 63)&&decide (0<m.1/\m.1<=5)
theorem ajS{m:cx}:aH Q s 159 [.agg ⟨yd m⟩] h U (dC (.bool (vX m)) U h):=by
 refine ami ?_;unfold aaH yd;have D:∀{o},aA U h (T h U o):=aK
 have no:(ln m.2.1 63&&ln m.2.2.1 63&&ln m.2.2.2 63)=false->∀{o},BR s (dC (.bool (vX m)) U h) (bd U) (.bool true) (T h U o) (U+1):=λe {o}=>by unfold BR;refine aF ?_;exact⟨by unfold vX;grind,D,J⟩
 refine aF ?_;refine EO.mono ?_;rintro r I E ⟨rfl,C,g⟩;rw[C,g];cases V:ln m.2.1 63 with
 |false =>
  refine aF ?_;exact no ab
 |true =>
  refine aF ?_;refine EO.mono ?_;rintro r I E ⟨rfl,C,g⟩;rw[C,g];cases L:ln m.2.2.1 63 with
  |false =>
   refine aF ?_;exact no ab
  |true =>
   refine aF ?_;refine EO.mono ?_;rintro r I E ⟨rfl,C,g⟩;rw[C,g];cases P:ln m.2.2.2 63 with
   |false =>
    refine aF ?_;exact no ab
   |true =>
    unfold BR;refine aF ?_;have M:vX m=decide (0<m.1/\m.1<=5):=by unfold vX;grind
    refine⟨λK=>⟨?_,D,J⟩,λK=>⟨?_,D,J⟩⟩
    all_goals grind
theorem aie{m:cx}:aH Q s 254 [.agg ⟨yd m⟩] h U (dC (.bool (!vX m)) U h):=by refine ajA ?_;unfold Yz yd;refine aF ?_;refine(ajS ).mono ?_;rintro r E C ⟨rfl,D,g⟩;refine aF ?_;exact⟨rfl,aK,J⟩
theorem amL{p:cx->al}{l:aa cx}(L:cN h U v yd l)(bb:l.length<1000000)(bK:∀(x:cx) (h:ae) (U:Nat),aH Q s f [.agg ⟨yd x⟩] h U (dC (.bool (p x)) U h)):
  aH Q s 253 [v,.func (.func f) ⟨[]⟩ ⟨[]⟩] h U (dC (.bool (l.any p)) U h):=by
 refine aqb ?_;obtain⟨a,cap,rfl,aZ⟩:=id L;refine(aqc (K:=λr ac Y=>aA U h ac/\U<=Y/\∃i:Int,r = (i:X)/\(i<0↔l.any p=false)) ?_).mono ?_
 ·unfold acQ;refine aF ?_;refine bD.mk (IxJ p l (.slice a l.length cap) (.func (.func f) ⟨[]⟩ ⟨[]⟩) U h) l.length ⟨0,rfl,J,rfl,aK,J,ab⟩ ?_;rintro m _ ac Y ⟨i,rfl,aj,rfl,D,g,C⟩;rw[amj];unfold YA;refine aF ?_;refine⟨λI=>?_,λeN=>?_⟩
  ·obtain⟨x,E⟩:=d1 I;obtain⟨_,b,aO,bJ,c1,aT,aV,V⟩:=L.at E;cases aV;simp(disch:=omega)only[bn,(D b aT).trans V,DE (enc:=yd) (k:=4) (λ_=>rfl) E,seval];refine(bK x ac Y).mono ?_;rintro r ar nk ⟨rfl,Z,M⟩;rw[C4];refine⟨λP=>?_,λP=>?_⟩
   ·refine⟨aK,J,_,rfl,⟨λh=>absurd h J,λh=>?_⟩⟩
    grind
   ·refine bg (cG (J:i<1000000000000)) ?_;exact⟨l.length-(i+1),J,i+1,rfl,J,rfl,aK,J,adh E C P⟩
  ·have:i=l.length:=J
   subst this;rw[iQ]at C;exact⟨D,g,_,rfl,ab⟩
 ·rintro r ac Y ⟨D,g,i,rfl,aj⟩;refine aF ?_;refine⟨?_,D,g⟩
  grind
def iU(k n src len:Int)(bM:aa Int):Int :=
 if k<=0\/5<k then 8 else if ¬(0<=n/\n<=4096)then 3 else if k=4/\¬(0<=len/\len<=8192)then 3 else if(k=4\/k=1\/k=2)/\¬(0<=src/\src<=n-1)then 3
 else if 65536<bM.length then 5 else if bM.any GA=true then 7 else 0
theorem jE(g : -9223372036854775808<=n)(C:n<=9223372036854775807):IntKind.wrap .i64 n=n:=by rw[acB];omega
theorem IV(aJ:cN h U v c3 bM):aH Q s 187 [.agg ⟨[(k:X),(n:X),(src:X),(len:X),v]⟩] h U (dC (.int .i64 (iU k n src len bM)) U h):=by
 refine al9 ?_;obtain⟨a,cap,rfl,aZ⟩:=id aJ;unfold aaz;have cJ:∀{o},aA U h (T h U o):=aK
 have fin:∀{e:Int},iU k n src len bM=e->∀{o},dC (.int .i64 (iU k n src len bM)) U h (e:X) (T h U o) (U+1):=λ{e} bE {o}=>⟨by rw[bE],cJ,J⟩
 have last:¬(k<=0\/5<k)->(0<=n/\n<=4096)->¬(k=4/\¬(0<=len/\len<=8192))->¬((k=4\/k=1\/k=2)/\¬(0<=src/\src<=n-1))->zl s (dC (.int .i64 (iU k n src len bM)) U h) (bd U) (T h U (.cells [(k:X),(n:X),(src:X),(len:X),.slice a bM.length cap] false)) (U+1):=λC P aL D=>by
  have e:iU k n src len bM=if 65536<bM.length then 5 else if bM.any GA=true then 7 else 0:=by unfold iU;omega
  unfold zl;refine aF ?_;refine⟨λV=>fin J,λV=>?_⟩;refine(amK (aJ.F cJ J) J (λx h U=>ajR)).mono ?_;rintro r C bh ⟨rfl,Z,dR⟩;refine aF ?_;refine⟨λcF=>⟨ab,aK,J⟩,λcF=>⟨?_,aK,J⟩⟩
  grind
 have gk:(k<=0\/5<k)->∀{o},EU s (dC (.int .i64 (iU k n src len bM)) U h) (bd U) (.bool true) (T h U o) (U+1):=λZ {o}=>by unfold EU;refine aF ?_;exact fin (by unfold iU;omega)
 refine aF ?_;refine⟨λau=>gk J,λau=>?_⟩
 by_cases V:5<k
 ·rw[g4 V];exact gk J
 rw[hl V];have Z:¬(k<=0\/5<k):=J
 unfold EU;refine aF ?_;refine EV.mono ?_;rintro r C bh ⟨rfl,L,K⟩;rw[L,K]
 by_cases M:0<=n/\n<=4096
 case neg =>
  rw[pq M];refine aF ?_;exact fin (by unfold iU;omega)
 rw[k8 M];have bV:IntKind.wrap .i64 (n-1)=n-1:=jE J J;have g:(k=4\/k=1\/k=2)->¬(k=4/\¬(0<=len/\len<=8192))->aH Q s 277 [(src:X),.int .i64 (n-1)] (T h U (.cells [(k:X),(n:X),(src:X),(len:X),.slice a bM.length cap] false)) (U+1) λx41 E I=>af (dr .not x41) λSX=>br SX (dC (.int .i64 (iU k n src len bM)) U h (.int .i64 3) E I) (zl s (dC (.int .i64 (iU k n src len bM)) U h) (bd U) E I):=λe8 D=>by
  refine EV.mono ?_;rintro r C bh ⟨rfl,L,K⟩;rw[L,K]
  by_cases ap:0<=src/\src<=n-1
  ·rw[k8 ap];refine aF ?_;exact last Z M D J
  ·rw[pq ap];refine aF ?_;exact fin (by unfold iU;grind)
 refine bg @bV ?_;refine⟨λD=>?_,λD=>?_⟩
 ·have D:k=4:=ab
  refine EV.mono ?_;rintro r C bh ⟨rfl,L,K⟩;rw[L,K]
  by_cases bb:0<=len/\len<=8192
  ·rw[k8 bb];refine bg @bV ?_;exact g J J
  ·rw[pq bb];refine aF ?_;exact fin (by unfold iU;omega)
 ·have D:k≠4:=ab
  refine⟨λC=>?_,λC=>⟨λP=>?_,λP=>?_⟩⟩
  ·have C:k=1:=ab
   exact g J J
  ·have P:k=2:=ab
   exact g J J
  ·have C:k≠1:=ab
   have P:k≠2:=ab
   exact last Z M J J
def k5(n:Int)(es:aa hN):Int:=if n<0 then 3 else if 4096<n\/65536<es.length then 5 else if es.any (yb n)=true then 3 else if es.any C9=true then 7 else 0
theorem aif(h:k5 n es=0):es.length<=65536:=by unfold k5 at h;omega
theorem aeS(h:k5 n es=0)(g:es.length<=60\/65536<es.length):es.length<=60:=g.elim id λC=>by have:=aif h;omega
theorem Ji:k5 n es=0↔FV n es:=by
 unfold k5 FV;constructor
 ·intro h
  split at h
  ·cases h
  ·split at h
   ·cases h
   ·split at h
    ·cases h
    ·split at h
     ·cases h
     ·rename_i L K E D
      refine⟨J,J,J,λe C g=>E (xk.2 ⟨e,C,YR.2 g⟩),λe C g=>D (xk.2 ⟨e,C,YS.2 g⟩)⟩
 ·rintro⟨L,K,E,D,I⟩;rw[if_neg J,if_neg J,if_neg,if_neg]
  ·intro h;obtain⟨e,C,g⟩:=xk.1 h;exact I e C (YS.1 g)
  ·intro h;obtain⟨e,C,g⟩:=xk.1 h;exact D e C (YR.1 g)
theorem Pn(aJ:ft h U v io es):
  aH Q s 83 [.agg ⟨[(n:X),v]⟩] h U (dC (.int .i64 (k5 n es)) U h):=by
 refine atr ?_;obtain⟨a,cap,rfl,aZ⟩:=id aJ;unfold right;refine aF ?_;have L:aA U h (T (T (T h U (.cells [(n:X),.slice a es.length cap] false)) (U+1) (.cells [.nilFunc] false)) (U+1) (.cells [.func (.func 163) ⟨[]⟩ ⟨[bd U]⟩] false)):=aK
 have no:∀{e:Int},k5 n es=e->∀{ac:ae} {Y:Nat},aA U h ac->U<=Y->dC (.int .i64 (k5 n es)) U h (e:X) ac Y:=λ{e} bE {ac Y} V I=>⟨by rw[bE],V,I⟩
 refine⟨λZ=>no (by unfold k5;omega) L J,λZ=>⟨λar=>no (by unfold k5;omega) L J,λar=>⟨λaL=>no (by unfold k5;omega) L J,λaL=>?_⟩⟩⟩;refine(aaW (yb n) (aJ.F L J) J (λg a6 ac Y K V I C=>?_)).mono ?_
 ·have M:=V U J;have bB:=V (U+1) J;rw[aq J,aq J,aS]at M;rw[aS]at bB;have D:∀{o},aA Y ac (T ac Y o):=aK
  refine aF ?_;refine apZ ?_;unfold acD io;refine bg @bB ?_;refine aav ?_;unfold Ql;refine bg @M ?_;refine⟨λZ=>C _ _ _ (by unfold yb;grind) D J,λZ=>⟨λar=>C _ _ _ (by unfold yb;grind) D J,λar=>?_⟩⟩;refine bg @bB ?_;refine aav ?_;unfold Ql;refine bg @M ?_;refine⟨λaL=>C _ _ _ (by unfold yb;grind) D J,λaL=>?_⟩;refine C _ _ _ ?_ D J;unfold yb
  grind
 ·rintro r bm Ls ⟨rfl,E,P⟩;have M:=E U J;rw[aq J,aq J,aS]at M;have gR:=L.trans E J;refine bg @M ?_;refine⟨λb3=>no (by unfold k5;grind) gR J,λb3=>?_⟩;refine(aaW C9 ((aJ.F L J).F E P) J (λg a6 ac Y K V I C=>?_)).mono ?_
  ·have D:∀{o},aA Y ac (T ac Y o):=aK
   refine aF ?_;refine ap0 ?_;unfold acE io;refine aF ?_;refine⟨λZ=>C _ _ _ (by unfold C9;grind) D J,λZ=>C _ _ _ (by unfold C9;grind) D J⟩
  ·rintro r cF tG ⟨rfl,hM,lD⟩;have yT:=gR.trans hM J;refine aF ?_;refine⟨λeE=>no (by unfold k5;grind) yT J,λeE=>no ?_ yT J⟩;unfold k5;grind
def oF(e:GE):GE:=⟨e.t,e.f,e.w⟩
def Ae(e:GE):GE:=⟨e.f,e.t,1⟩
def Kk(e:GE)(b:al)(U:Nat)(h:ae):bP:=dC (.tuple ⟨[.agg ⟨[(e.f:X),(e.t:X),(e.w:X)]⟩,.bool b]⟩) U h
theorem amM:aH Q s 365 [.agg ⟨[(e.f:X),(e.t:X),(e.w:X)]⟩] h U (Kk (oF e) true U h):=by refine ap8 ?_;unfold acM;refine aF ?_;exact⟨rfl,aK,J⟩
theorem amN:aH Q s 280 [.agg ⟨[(e.f:X),(e.t:X),(e.w:X)]⟩] h U (Kk (Ae e) true U h):=by refine ap7 ?_;unfold acK;refine aF ?_;exact⟨rfl,aK,J⟩
def Cv(e:GE):al:=decide (e.f≠e.t)
theorem ajT:aH Q s 276 [.agg ⟨[(e.f:X),(e.t:X),(e.w:X)]⟩] h U (Kk e (Cv e) U h):=by
 refine amf ?_;unfold aaC;refine aF ?_;refine⟨?_,aK,J⟩;have:(!((e.f:Int) == (e.t:Int)))=Cv e:=by
  unfold Cv
  grind
 grind
def MaJ(N cp cR f:Nat)(kJ:X)(p:GE->al)(m:GE->GE)(gs:aa GE)(U:Nat)(h:ae)(q:Nat)(aE:aa X)(ac:ae)(Y:Nat):Prop :=
 ∃(i:Nat) (o:X),q=gs.length-i/\i<=gs.length/\aE=[.func (.func f) ⟨[]⟩ ⟨[]⟩,bd cp,bd cR,o,kJ,(gs.length:X),(i:X)] /\
  u ac cp=some (.cells [(N:X),kJ] false)/\u ac cR=some (.cells [.int .i64 0,.slice none 0 0] false)/\d5 ac o cW 3 (((gs.take i).filter p).map m) (U+1+1) Y/\aA U h ac/\U+1+1<=Y
theorem Qs{m:GE->GE}(aJ:ft h U v cW gs)(ek:N<=2147483648)(bb:gs.length<=120)(iw:∀g∈(gs.filter p).map m,hi N g)(bK:∀(e:GE) (h:ae) (U:Nat),aH Q s f [.agg ⟨[(e.f:X),(e.t:X),(e.w:X)]⟩] h U (Kk (m e) (p e) U h)):
  aH Q s 275 [.agg ⟨[(N:X),v]⟩,.func (.func f) ⟨[]⟩ ⟨[]⟩] h U (yc N ((gs.filter p).map m) U h):=by
 refine av3 ?_;obtain⟨a,cap,rfl,L⟩:=id aJ;unfold afT;refine aF ?_;have AM:((gs.filter p).map m).length<=gs.length:=ab
 have bZ:∀{o aX},aA U h (T (T h U o) (U+1) aX):=aK
 refine bD.mk (MaJ N U (U+1) f (.slice a gs.length cap) p m gs U h) gs.length ⟨0,_,rfl,J,rfl,ab,ab,.inl ab,bZ,J⟩ ?_;rintro q _ h1 kC ⟨i,o,rfl,aj,rfl,bB,dL,S,Z,dR⟩;rw[atz];unfold acJ;refine aF ?_;refine⟨λcA=>?_,λeN=>?_⟩
 ·obtain⟨e,bE⟩:=d1 cA;obtain⟨_,b,aO,bJ,c1,cs,aT,aV,a6⟩:=aJ.at bE;cases aV;have rm:h0 (some 3) (i*3) (bc cW gs++cs) = .ok (.agg ⟨[(e.f:X),(e.t:X),(e.w:X)]⟩):=yA  (k:=3) (λ_=>rfl) bE;simp(disch:=omega)only[bn,(Z b aT).trans a6,rm,seval];refine(bK e _ _).mono ?_;rintro r E nk ⟨rfl,K,V⟩;have D:aA kC h1 E:=aK
  have ck:((gs.take (i+1)).filter p).map m=((gs.take i).filter p).map m++(if p e then[m e]else[]):=by
   rw[hx,bE,t6,iF]
   grind
  refine aF ?_;refine⟨λbk=>?_,λbk=>?_⟩
  ·refine l4  (k:=3)  (λ_=>rfl) (λ_=>rfl) J (S.F (λc h1 E=>by rw[aq J,aq J,aq J,D c E]) J) J (m e) (aS _ _ _) rfl ?_ λBb b3 Hb I=>?_
   ·grind
   ·refine⟨gs.length-(i+1),J,i+1,Bb,rfl,J,by rw[cG J],?_,?_,by rw[ck,bk];exact Hb,λc L=>?_,J⟩
    ·rw[I _ J,aq J,aq J,aq J,D _ J];omega
    ·rw[I _ J,aq J,aq J,aq J,D _ J];omega
    ·rw[I _ J,aq J,aq J,aq J,D _ J];exact Z c L
  ·refine⟨gs.length-(i+1),J,i+1,o,rfl,J,by rw[cG J],?_,?_,?_,λc L=>?_,J⟩
   ·rw[aq J,aq J,D _ J];omega
   ·rw[aq J,aq J,D _ J];omega
   ·rw[ck,bk];simp only[nH,fa,hZ];exact S.F (λc h1 E=>by rw[aq J,aq J,D c E]) J
   ·rw[aq J,aq J,D _ J];exact Z c L
 ·have AN:i=gs.length:=J
  subst AN;rw[iQ]at S;obtain⟨a2,bX,c2,rfl⟩:=S.form;refine bg @bB ?_;refine(aaX (ft.of S.rd) ek iw J).mono ?_;rintro r E nk ⟨v2,cs,rfl,C,M,P,lG,K,V⟩;obtain⟨a3,bS,ci,rfl⟩:=C.form;have Hc:=(K (U+1) J).trans dL;refine bg @Hc ?_;refine⟨_,cs,rfl,?_,M,P,lG,λc L=>by rw[aq J,K c J];exact Z c L,J⟩;rcases C with C|⟨b,h1,E,e,aT⟩
  ·exact .inl C
  ·exact .inr ⟨b,J,E,e,ab⟩
def xT(gs:aa GE):aa GE:=(gs.filter λ_=>true).map oF
def FE(gs:aa GE):aa GE:=(gs.filter Cv).map id
def zK(gs:aa GE):aa GE:=(gs.filter λ_=>true).map Ae
theorem amO(h:∀g∈gs,hi N g):∀g∈xT gs,hi N g:=λg C=>by obtain⟨e,D,rfl⟩:=f0.1 C;have:=h e ab;exact⟨this.2.1,this.1,this.2.2⟩
theorem aig(h:∀g∈gs,hi N g):∀g∈FE gs,hi N g:=λg C=>by obtain⟨e,D,rfl⟩:=f0.1 C;exact h e ab
theorem ajU(h:∀g∈gs,hi N g):∀g∈zK gs,hi N g:=λg C=>by obtain⟨e,D,rfl⟩:=f0.1 C;have:=h e ab;exact⟨this.1,this.2.1,by show(0:Int)<=1;omega,by show(1:Int)<=2147483647;omega⟩
theorem zq{m:GE->GE}(gs:aa GE):((gs.filter p).map m).length<=gs.length:=ab
theorem Qt(P:ft h U v cW gs)(ek:N<=2147483648)(bb:gs.length<=120)(M:∀g∈gs,hi N g):
  aH Q s 274 [.agg ⟨[(N:X),v]⟩] h U (yc N (xT gs) U h):=by
 refine av2 ?_;obtain⟨a,cap,rfl,aZ⟩:=id P;unfold afS;refine aF ?_;have bZ:∀{o aX},aA U h (T (T h U o) (U+1) aX):=aK
 refine(Qs   (P.F bZ J) ek bb (amO M) λe h U=>amM).mono ?_;rintro r V nk ⟨v2,cs,rfl,C,D,E,K,L,Z⟩;obtain⟨a3,bS,ci,rfl⟩:=C.form;have I:=L (U+1) J;rw[aS]at I;refine bg @I ?_;refine⟨_,cs,rfl,?_,D,E,hy K (cD _),aK,J⟩;rcases C with C|⟨b,h1,V,e,aT⟩
 ·exact .inl C
 ·exact .inr ⟨b,J,V,e,ab⟩
theorem YU(P:ft h U v cW gs)(ek:N<=2147483648)(bb:gs.length<=120)(M:∀g∈gs,hi N g):
  aH Q s 182 [.agg ⟨[(N:X),v]⟩] h U (yc N (FE gs) U h):=by
 refine ap5 ?_;obtain⟨a,cap,rfl,aZ⟩:=id P;unfold acG;refine aF ?_;have bZ:∀{o aX},aA U h (T (T h U o) (U+1) aX):=aK
 refine(Qs   (P.F bZ J) ek bb (aig M) λe h U=>ajT).mono ?_;rintro r V nk ⟨v2,cs,rfl,C,D,E,K,L,Z⟩;obtain⟨a3,bS,ci,rfl⟩:=C.form;have I:=L (U+1) J;rw[aS]at I;refine bg @I ?_;refine⟨_,cs,rfl,?_,D,E,hy K (cD _),aK,J⟩;rcases C with C|⟨b,h1,V,e,aT⟩
 ·exact .inl C
 ·exact .inr ⟨b,J,V,e,ab⟩
theorem aaY(P:ft h U v cW gs)(ek:N<=2147483648)(bb:gs.length<=120)(M:∀g∈gs,hi N g):
  aH Q s 188 [.agg ⟨[(N:X),v]⟩] h U (yc N (zK gs) U h):=by
 refine aty ?_;obtain⟨a,cap,rfl,aZ⟩:=id P;unfold plain;refine aF ?_;have bZ:∀{o aX},aA U h (T (T h U o) (U+1) aX):=aK
 refine(Qs   (P.F bZ J) ek bb (ajU M) λe h U=>amN).mono ?_;rintro r V nk ⟨v2,cs,rfl,C,D,E,K,L,Z⟩;obtain⟨a3,bS,ci,rfl⟩:=C.form;have I:=L (U+1) J;rw[aS]at I;refine bg @I ?_;refine⟨_,cs,rfl,?_,D,E,hy K (cD _),aK,J⟩;rcases C with C|⟨b,h1,V,e,aT⟩
 ·exact .inl C
 ·exact .inr ⟨b,J,V,e,ab⟩
theorem YV{az:Type}{enc:az->aa X}:∀(l m:aa az),bc enc (l++m)=bc enc l++bc enc m
 | [],m=>rfl
 |x::l,m=>by show enc x++bc enc (l++m)=enc x++bc enc l++bc enc m;rw[YV l m,kv]
theorem Wo:∀l:aa GE,ea (bc cW l)=true
 | []=>rfl
 |x::l=>by have g:=Wo l;show(gS (.int .i64 (x.f:Int))&&(gS (.int .i64 (x.t:Int))&&(gS (.int .i64 x.w)&&ea (bc cW l))))=true;rw[g];rfl
theorem amP{b k n:Nat}{g y:aa GE}{C:aa X}(aT:u h b=some (.cells (bc cW g++C) false))(hk:g.length=k)(Z:k+y.length<=n)(mK:C.length=(n-k)*3)(aJ:ft h U v2 cW y):
  ∃ac,dT 3 h U (.slice (some ⟨b,0,some 3⟩) k n) v2 = .ok (.val (.slice (some ⟨b,0,some 3⟩) (k+y.length) n) ac U)/\u ac b=some (.cells (bc cW (g++y)++C.drop (y.length*3)) false)/\∀c,c≠b->u ac c=u h c:=by
 obtain⟨I,c2,rfl,aZ⟩:=aJ
 by_cases M:y=[]
 ·subst M;refine⟨h,?_,ab,ab⟩;have a5:∀(K:aa X->R fl),k6 h I (Nat.mul 0 3) K=K []:=λK=>by
   cases I <;> rfl
  show k6 h I (Nat.mul 0 3) (λnew=>gT 3 h U (some ⟨b,0,some 3⟩) k n 0 new)=_;rw[a5];unfold gT;rw[show Nat.ble (Nat.add k 0) n=true from BA J];rfl
 ·obtain⟨b4,aO,bJ,yB,fw,rfl,a6⟩:=aZ M;have V:0<y.length:=ab
  have D:=gg (enc:=cW) (k:=3) (λ_=>rfl) (l:=y);have E:=gg (enc:=cW) (k:=3) (λ_=>rfl);show ∃ac,k6 h (some ⟨b4,0,aO⟩) (Nat.mul y.length 3) (λnew=>gT 3 h U (some ⟨b,0,some 3⟩) k n y.length new)=_/\_;rw[show Nat.mul y.length 3=y.length*3 from rfl,s2 a6 J ab,pb,<-D,List.take_left];unfold gT;rw[show Nat.ble (Nat.add k y.length) n=true from BA Z];obtain⟨x,r,L⟩:∃x r,bc cW y=x::r:=by
   cases bK:bc cW y with
   |nil=>grind
   |cons x r=>grind
  have P:qb h b (Nat.add 0 (Nat.mul k 3)) (bc cW y) = .ok (T h b (.cells (bc cW (g++y)++C.drop (y.length*3)) false)):=by
   rw[show Nat.add 0 (Nat.mul k 3)=k*3 from iR _,ID aT (Wo y) ab];have aV:(bc cW g++C).take (k*3)=bc cW g:=ab
   have aP:(bc cW g++C).drop (k*3+(bc cW y).length)=C.drop (y.length*3):=by rw[<-hk,<-E,D,Ig]
   rw[aV,aP,YV]
  refine⟨T h b (.cells (bc cW (g++y)++C.drop (y.length*3)) false),?_,ab,ab⟩;rw[L]at P ⊢;show R.bind (qb h b (Nat.add 0 (Nat.mul k 3)) (x::r)) _=_;rw[P];rfl
theorem awk:Gr Q 22 (.slice none 0 0) = .ok (.int .i64 0):=by kernel_rfl
theorem ze1:q2 Tryz.prog 22=some 124:=by kernel_rfl
theorem ze2:jG Tryz.prog 124=some 3:=by kernel_rfl
theorem ze3:nM Tryz.prog 124=some [.int .i64 0,.int .i64 0,.int .i64 0]:=by kernel_rfl
theorem ze4:xH Tryz.prog 124=true:=by kernel_rfl
theorem ze5:q6 Tryz.prog (some 3)=true:=by kernel_rfl
theorem amQ(n:Nat)(z:aa X):(gI n z).length=n*z.length:=by
 induction n with
 |zero=>simp[gI]
 |succ n g=>simp[gI,g,ze,ka];omega
theorem apz{n:Nat}(C:0<n)(D:n<=1000):pd Tryz.prog .append [22,3] h U [.slice none 0 0,(n:X)] = .ok (.val (.slice (some ⟨U,0,some 3⟩) n n) (T h U (.cells (gI n [.int .i64 0,.int .i64 0,.int .i64 0]) false)) (U+1)):=by
 show R.of "append" (q2 Tryz.prog 22) (λe=>R.of "append" (jG Tryz.prog e) (λs=>R.of "append" (nM Tryz.prog e) (λz=>bif Nat.beq (jo z) s&&xH Tryz.prog e&&q6 Tryz.prog (some 3)then Fo z s h U (.slice none 0 0) (n:X)else .no "append - element")))=_;rw[ze1];show R.of "append" (jG Tryz.prog 124) (λs=>R.of "append" (nM Tryz.prog 124) (λz=>bif Nat.beq (jo z) s&&xH Tryz.prog 124&&q6 Tryz.prog (some 3)then Fo z s h U (.slice none 0 0) (n:X)else .no "append - element"))=_;rw[ze2,ze3,ze4,ze5];show(bif Nat.ble n 1000000 then gT 3 h U none 0 0 n (gI n [.int .i64 0,.int .i64 0,.int .i64 0])else .no "append")=_;rw[show Nat.ble n 1000000=true from BA J];unfold gT;rw[show Nat.ble (Nat.add 0 n) 0=false from by
  cases g:Nat.ble (Nat.add 0 n) 0 with
  |false=>rfl
  |true=>have:=l0 g;grind]
 rw[show(Nat.ble (Nat.mul (Nat.add 0 n) 3) 1000000&&Nat.ble (Nat.add 0 n) 1000000)=true from by
  rw[show Nat.add 0 n=n from iR n];simp only[eC,sW]
  grind]
 show qh h U 3 _ (Nat.add 0 n)=_;rw[show Nat.add 0 n=n from iR n];exact qY J
theorem at0{n:Nat}(E:n<=1000):aH Q s 364 [.slice none 0 0,(n:X)] h U (λr ac Y=>(n=0/\r = .slice none 0 0/\ac=h/\Y=U)\/(0<n/\r = .slice (some ⟨U,0,some 3⟩) 0 n/\(∃C,u ac U=some (.cells C false)/\C.length=n*3)/\aA U h ac/\Y=U+1)):=by
 refine av4 ?_;unfold grow;rw[awk];have D:IntKind.wrap .i64 (0-((0:Nat):Int))=0:=by rfl
 have I:IntKind.wrap .i64 ((n:Int)-0)=(n:Int):=by rw[Int.sub_zero];exact iT n J
 refine te @D @I ?_;refine⟨J,λ_=>⟨λK=>?_,J⟩⟩;rw[show gW 3 (.slice none 0 0) none (some (.int .i64 0)) none = .ok (.slice none 0 0)from rfl,zS,show Q=Tryz.prog from rfl,apz J E];show af (gW 3 (.slice (some ⟨U,0,some 3⟩) n n) none (some (((0:Nat):X))) none) _;have g:gW 3 (.slice (some ⟨U,0,some 3⟩) n n) none (some (((0:Nat):X))) none = .ok (.slice (some ⟨U,0,some 3⟩) 0 n):=by
  obtain⟨m,rfl⟩:∃m,n=m+1:=⟨n-1,J⟩
  show nN 3 (some ⟨U,0,some 3⟩) (m+1) false (m+1) 0 0=_;unfold nN;rw[show(Nat.ble (m+1) (m+1)&&(Nat.ble 0 (m+1)&&Nat.ble 0 0))=true by simp only[eC,sW];omega];rfl
 rw[g,zS];exact .inr ⟨J,rfl,⟨_,aS _ _ _,by rw[amQ];rfl⟩,aK,rfl⟩
def mN(dQ dB:aa GE):Nat->aa GE
 |0=>[]
 |1=>dQ
 |_=>dQ++dB
def ax8(dQ dB:aa GE)(p:Nat)(h:ae)(U:Nat)(m:Nat)(aE:aa X)(ac:ae)(Y:Nat):Prop :=
 ∃i,m=2-i/\i<=2/\aE=[.slice (some ⟨p,0,none⟩) 2 2,.int .i64 ((mN dQ dB i).length:Int),.slice (some ⟨p,0,none⟩) 2 2,.int .i64 2,(i:X)]/\ac=h/\Y=U
def SY(h:ae)(ao aj n:Nat)(acc:aa GE)(o:X):Prop:=(n=0/\acc=[]/\o = .slice none 0 0)\/∃b cs,ao<=b/\b<aj/\o = .slice (some ⟨b,0,some 3⟩) acc.length n/\u h b=some (.cells (bc cW acc++cs) false)/\cs.length=(n-acc.length)*3
def af6(dQ dB:aa GE)(n p:Nat)(h:ae)(U:Nat)(m:Nat)(aE:aa X)(ac:ae)(Y:Nat):Prop :=
 ∃(i:Nat) (o:X),m=2-i/\i<=2/\aE=[o,.slice (some ⟨p,0,none⟩) 2 2,.int .i64 2,(i:X)]/\SY ac U Y n (mN dQ dB i) o/\aA U h ac/\U<=Y
theorem amR{p c:Nat}{dQ dB:aa GE}{bJ:al}(bk:u h p=some (.cells [v1,v2] bJ))(hpn:p<U)(h1:ft h U v1 cW dQ)(ar:ft h U v2 cW dB)(bb:dQ.length+dB.length<=1000):
  aH Q s 273 [.slice (some ⟨p,0,none⟩) 2 2] h U (λr ac Y=>ft ac Y r cW (dQ++dB)/\aA U h ac/\U<=Y):=by
 refine ap6 ?_;obtain⟨aB,c1,rfl,Dr⟩:=id h1;obtain⟨a2,c2,rfl,qu⟩:=id ar;unfold acI
 refine m8 ?_;refine bD.mk (ax8 dQ dB p h U) 2 ⟨0,rfl,J,rfl,rfl,rfl⟩ ?_;rintro m _ aL tH ⟨i,rfl,aj,rfl,aV,aP⟩;rw[aV,aP,amd];unfold Yx
 match i,aj with
 |0,_ =>
  have w:IntKind.wrap .i64 (((mN dQ dB 0).length:Int)+(dQ.length:Int))=((mN dQ dB 1).length:Int):=by rw[show((mN dQ dB 0).length:Int)+(dQ.length:Int)=(dQ.length:Int) by simp[mN]];exact iT _ J
  refine te @bk @w ?_;exact⟨λ_=>⟨J,λ_=>⟨1,J,1,rfl,J,rfl,rfl,rfl⟩⟩,λh=>absurd J h⟩
 |1,_ =>
  have w:IntKind.wrap .i64 (((mN dQ dB 1).length:Int)+(dB.length:Int))=((mN dQ dB 2).length:Int):=by rw[show((mN dQ dB 1).length:Int)+(dB.length:Int)=((dQ.length+dB.length:Nat):Int) by simp[mN]];rw[iT _ J];simp[mN]
  refine te @bk @w ?_;exact⟨λ_=>⟨J,λ_=>⟨0,J,2,rfl,J,rfl,rfl,rfl⟩⟩,λh=>absurd J h⟩
 |2,_ =>
  refine m8 ?_;refine⟨λh=>absurd h J,λ_=>?_⟩;have I:(mN dQ dB 2).length=dQ.length+dB.length:=by simp[mN]
  refine(at0 J).mono ?_;intro r bm Ls a6;generalize bH:(mN dQ dB 2).length=n at a6 I;have st:SY bm U Ls n [] r/\aA U h bm/\U<=Ls:=by
   rcases a6 with⟨au,rfl,rfl,rfl⟩|⟨au,rfl,⟨V,aT,L⟩,hk,rfl⟩
   ·exact⟨.inl ab,aK,J⟩
   ·exact⟨.inr ⟨U,V,J,J,rfl,aT,J⟩,hk,J⟩
  obtain⟨st,fP,Z⟩:=st;refine bD.mk (af6 dQ dB n p h U) 2 ⟨0,r,rfl,J,rfl,st,fP,Z⟩ ?_;rintro m _ b3 E ⟨i,o,rfl,aj,rfl,st,D,g⟩;rw[ame];unfold Yy;have AO:=(D p hpn).trans bk;have step:∀(j:Nat) (y:aa GE) (rI:X),ft h U rI cW y->mN dQ dB (j+1)=mN dQ dB j++y->(mN dQ dB (j+1)).length<=n->SY b3 U E n (mN dQ dB j) o->j+1<=2 ->
    dG (dX (dT 3 b3 E o rI)) λml h24 n25=>af (bin Q .add 3 (j:X) (.int .i64 1)) λpI=>∃bC,bC<2-j/\af6 dQ dB n p h U bC [ml,.slice (some ⟨p,0,none⟩) 2 2,.int .i64 2,pI] h24 n25:=by
   intro j y rI ce bE K st b1;rcases st with⟨P,C,rfl⟩|⟨b,V,ig,M,rfl,aT,L⟩
   ·have hy0:y=[]:=by
     rw[bE,C,P]at K
     grind
    subst hy0;obtain⟨a3,ci,rfl,_⟩:=ce;have gZ:dT 3 b3 E (.slice none 0 0) (.slice a3 ([]:aa GE).length ci) = .ok (.val (.slice none 0 0) b3 E):=by cases a3 <;> rfl
    rw[gZ];simp(disch:=omega)only[bn,↓reduceIte,Nat.reduceAdd,Nat.reduceSub,Nat.reduceMul,Nat.reduceLT,Nat.reduceLeDiff,Nat.reduceEqDiff,Int.reduceBEq,Int.reduceLT,Int.reduceNeg,dX,KL,cG (J:j<1000000000000)];exact⟨2-(j+1),J,j+1,_,rfl,b1,rfl,.inl ab,D,g⟩
   ·rw[bE,jm]at K;obtain⟨cF,ik,DG,wL⟩:=amP  aT rfl J L (ce.F D g);rw[ik];simp(disch:=omega)only[bn,↓reduceIte,Nat.reduceAdd,Nat.reduceSub,Nat.reduceMul,Nat.reduceLT,Nat.reduceLeDiff,Nat.reduceEqDiff,Int.reduceBEq,Int.reduceLT,Int.reduceNeg,dX,KL,cG (J:j<1000000000000)];refine⟨2-(j+1),J,j+1,_,rfl,b1,rfl,.inr ⟨b,V.drop (y.length*3),ig,M,?_,?_,?_⟩,aK,g⟩
    all_goals grind
  match i,aj with
  |0,_ =>
   refine l5 @AO ?_;exact⟨λ_=>step 0 dQ _ h1 rfl (by rw[I];simp[mN]) st J,λh=>absurd J h⟩
  |1,_ =>
   refine l5 @AO ?_;exact⟨λ_=>step 1 dB _ ar rfl ab st J,λh=>absurd J h⟩
  |2,_ =>
   refine m8 ?_;refine⟨λh=>absurd h J,λ_=>⟨?_,D,g⟩⟩;rcases st with⟨P,C,rfl⟩|⟨b,V,ig,M,rfl,aT,L⟩
   ·have C:dQ++dB=[]:=C;rw[C];exact⟨none,0,rfl,λh=>absurd rfl h⟩
   ·exact⟨some ⟨b,0,some 3⟩,n,rfl,λ_=>⟨b,some 3,false,V,M,rfl,aT⟩⟩
theorem adi(aJ:ft h U v cW gs)(ek:N<=2147483648)(bb:gs.length<=60)(iw:∀g∈gs,hi N g):
  aH Q s 181 [.agg ⟨[(N:X),v]⟩] h U (λr ac Y=>∃D,ky ((xT gs).map ee) (D.map ee)/\D.length<=gs.length/\(∀g∈D,hi N g)/\yc N (gs++D) U h r ac Y):=by
 refine av1 ?_;obtain⟨a,cap,rfl,aZ⟩:=id aJ;unfold x9;refine aF ?_;have bZ:∀{o aX},aA U h (T (T h U o) (U+1) aX):=aK
 refine(Qt (aJ.F bZ J) ek J iw).mono ?_;rintro r h1 kC ⟨v1,D,rfl,hg,htc,E,AH,d9,M⟩;have Z:D.length<=gs.length:=hy AH (zq gs);have cv:=d9 U J;rw[aq J,aS]at cv;have dL:=d9 (U+1) J;rw[aS]at dL;obtain⟨a3,bS,ci,rfl⟩:=hg.form;refine⟨M,?_⟩;have cJ:aA U h h1:=aK
 refine cL @cv @N8 ?_;have hu:∀{o},aA kC h1 (T h1 kC o):=aK
 refine(amR (c:=2) (aS _ _ _) J ((aJ.F cJ J).F hu J) ((ft.of hg.rd).F hu J) J).mono ?_;rintro r aL tH ⟨b3,e8,gA⟩;obtain⟨bN,vo,rfl,Dn⟩:=id b3;have Lt:=(e8 U J).trans ((aq J).trans cv);have Hc:=(e8 (U+1) J).trans ((aq J).trans dL);refine⟨gA,?_⟩;refine cL @Lt @N8 ?_;have ax9:∀g∈gs++D,hi N g:=λg K=>by
  rcases hb.1 K with K|K
  ·exact iw g K
  ·exact E g K
 refine(aaX b3 ek ax9 ab).mono ?_;rintro r cF tG ⟨HS,cs,rfl,C,I,L,lG,hM,V⟩;obtain⟨ba,n7,i2,rfl⟩:=C.form;have P:=(hM (U+1) J).trans Hc;refine⟨V,?_⟩;refine bg @P ?_;refine⟨D,htc,Z,E,_,cs,rfl,?_,I,L,lG,aK,J⟩;rcases C with C|⟨b,h1,ar,e,aT⟩
 ·exact .inl C
 ·exact .inr ⟨b,J,ar,e,ab⟩
def Kl(r c:Int)(aB a2 a3:aw Addr)(bh bX bS c1 c2 ci:Nat):X:=.agg ⟨[(r:X),(c:X),.slice aB bh c1,.slice a2 bX c2,.slice a3 bS ci]⟩
def awl(r:X):Prop:=∃(x y:Int) (aB a2 a3:aw Addr) (bh bX bS c1 c2 ci:Nat),r=Kl x y aB a2 a3 bh bX bS c1 c2 ci
theorem aqI(C:N<=4096):aH Q s 367 [(N:X),(N:X)] h U (λr ac Y=>r = .agg ⟨[(N:X),(N:X),.slice (some ⟨U+1,0,none⟩) (N+1) (N+1),.slice none 0 0,.slice none 0 0]⟩/\u ac (U+1)=some (.cells (f9 (List.replicate (N+1) 0)) false)/\aA U h ac/\Y=U+1+1):=by
 refine acN ?_;unfold Q8;have g:List.replicate (N+1) (Value.int .i64 0)=f9 (List.replicate (N+1) 0):=by simp[f9]
 refine cL (cG (J:N<1000000000000)) @g ?_;exact aK
def ye(h:ae)(v1 v2:X)(dQ dB:aa Int)(ao aj:Nat):Prop :=
 (dQ=[]/\dB=[]/\v1 = .slice none 0 0/\v2 = .slice none 0 0)\/∃dE b4,dE≠b4/\ao<=dE/\dE<aj/\ao<=b4/\b4<aj/\v1 = .slice (some ⟨dE,0,some 1⟩) dQ.length dQ.length/\v2 = .slice (some ⟨b4,0,some 1⟩) dB.length dB.length /\
  u h dE=some (.cells (f9 dQ) false)/\u h b4=some (.cells (f9 dB) false)
theorem ye.hU(g:ye h v1 v2 dQ dB ao aj):∃E C,fQ h c3 1 v1 dQ E/\fQ h c3 1 v2 dB C/\(∀b,E=some b->ao<=b/\b<aj/\C≠some b)/\∀b,C=some b->ao<=b/\b<aj:=by
 rcases g with⟨rfl,rfl,rfl,rfl⟩|⟨K,M,L,h1,V,Z,P,rfl,rfl,I,D⟩
 ·exact⟨none,none,fQ.nil,fQ.nil,ab⟩
 ·rw[<-iG]at I D;exact⟨some K,some M,.own I,.own D,ab,ab⟩
theorem ye.form(g:ye h v1 v2 dQ dB ao aj):∃C E D I K c2,v1 = .slice C E D/\v2 = .slice I K c2:=by
 rcases g with⟨_,_,rfl,rfl⟩|⟨L,M,_,_,_,_,_,rfl,rfl,_⟩
 all_goals grind
def aya(N cp ff jx ao:Nat)(UE:X)(ag:aa GE)(au:ae)(U:Nat)(m:Nat)(aE:aa X)(ac:ae)(Y:Nat):Prop :=
 ∃(i:Nat) (S:aa Int) (e1 nr:X),m=ag.length-i/\i<=ag.length/\aE=[(N:X),bd cp,bd ff,UE,(ag.length:X),(i:X)] /\
  u ac ff=some (.cells [(N:X),(N:X),.slice (some ⟨jx,0,none⟩) (N+1) (N+1),e1,nr] false)/\u ac jx=some (.cells (f9 S) false)/\S.length=N+1/\(∀x∈S,0<=x/\x<=(i:Int)) /\
  ye ac e1 nr ((ag.take i).map λe=>(e.t:Int)) ((ag.take i).map GE.w) ao Y/\(∀c,c<ao->c≠ff->c≠jx->u ac c=u au c)/\ao<=Y
def ayb(N cp ff jx ao:Nat)(e1 nr:X)(au:ae)(U:Nat)(m:Nat)(aE:aa X)(ac:ae)(Y:Nat):Prop :=
 ∃(i:Nat) (S:aa Int),m=N-i/\i<=N/\aE=[bd cp,bd ff,(N:X),(i:X)] /\
  u ac ff=some (.cells [(N:X),(N:X),.slice (some ⟨jx,0,none⟩) (N+1) (N+1),e1,nr] false)/\u ac jx=some (.cells (f9 S) false)/\S.length=N+1/\(∀(k:Nat) (x:Int),S[k]? = some x->0<=x/\(x<=120\/(k<=i/\x<=120*((k:Int)+1)))) /\
  (∀c,c≠jx->u ac c=u au c)/\Y=U
def uH(h:ae)(ao aj:Nat)(r:X):Prop:=∃(x y:Int) (v1 v2 v3:X) (st cl w1:aa Int),r = .agg ⟨[(x:X),(y:X),v1,v2,v3]⟩/\eH h ao aj v1 c3 st/\eH h ao aj v2 c3 cl/\eH h ao aj v3 c3 w1/\st.length<=4097/\cl.length<=120/\w1.length<=120
theorem uH.form(H:uH h ao aj r):awl r:=by obtain⟨x,y,v1,v2,g,st,cl,E,rfl,⟨K,C,rfl,_⟩,⟨I,c2,rfl,_⟩,⟨D,ci,rfl,_⟩,_⟩:=H;exact⟨_,_,_,_,_,_,_,_,_,_,_,rfl⟩
theorem uH.F{h ac:ae}{ao aj d6 dy:Nat}{r:X}(H:uH h ao aj r)(C:∀b,ao<=b->b<aj->u ac b=u h b)(D:d6<=ao)(g:aj<=dy):uH ac d6 dy r:=by obtain⟨x,y,v1,v2,I,st,cl,M,rfl,L,K,E,l⟩:=H;exact⟨x,y,v1,v2,I,st,cl,M,rfl,L.F C D g,K.F C D g,E.F C D g,l⟩
theorem FW:eH h ao aj (.slice none 0 0) c3 []:=⟨none,0,rfl,λe=>absurd rfl e⟩
theorem uH.zero:uH h ao aj (.agg ⟨[.int .i64 0,.int .i64 0,.slice none 0 0,.slice none 0 0,.slice none 0 0]⟩):=⟨0,0,_,_,_,[],[],[],rfl,FW,FW,FW,by simp,by simp,by simp⟩
theorem ye.gr(g:ye h v1 v2 dQ dB ao aj):eH h ao aj v1 c3 dQ/\eH h ao aj v2 c3 dB:=by
 rcases g with⟨rfl,rfl,rfl,rfl⟩|⟨E,P,M,V,K,L,I,rfl,rfl,C,D⟩
 ·exact⟨FW,FW⟩
 ·rw[<-iG]at C D;exact⟨⟨_,_,rfl,λ_=>⟨E,_,_,V,K,rfl,C⟩⟩,⟨_,_,rfl,λ_=>⟨P,_,_,L,I,rfl,D⟩⟩⟩
def at1(U:Nat)(h:ae):bP:=λr ac Y=>uH ac U Y r/\aA U h ac/\U<=Y
theorem aqJ{C:aa GE}(aJ:ft h U v cW C)(ek:N<=4096)(bb:C.length<=120)(iw:∀g∈C,hi N g):
  aH Q s 281 [(N:X),(N:X),v] h U (at1 U h):=by
 refine acL ?_;obtain⟨a,cap,rfl,aZ⟩:=id aJ;unfold Q7;refine aF ?_;refine(aqI ek).mono ?_;rintro r h1 _ ⟨rfl,ig,M,rfl⟩;have cv:=M U J;rw[aS]at cv;refine aF ?_;refine bD.mk (aya N U (U+1+1+1) (U+1+1) (U+1+1+1+1) (.slice a C.length cap) C h1 U) C.length ⟨0,List.replicate (N+1) 0,_,_,rfl,J,rfl,ab,ab,by simp,ab,.inl ⟨rfl,rfl,rfl,rfl⟩,ab,J⟩ ?_;rintro m _ ar D ⟨i,S,e1,nr,rfl,aj,rfl,Z,gc,K,E,L,bK,dR⟩;obtain⟨eX,dO,pY,Be,yU,Mn⟩:=L.hU;obtain⟨aB,bh,c1,a2,bX,c2,rfl,rfl⟩:=L.form;rw[aaD];unfold Pb;refine aF ?_;refine⟨λcA=>?_,λeN=>?_⟩
 ·obtain⟨e,bE⟩:=d1 cA;have hem:=iw e ab;have hef:e.f<N:=hem.1;obtain⟨_,b,aO,bJ,dD,cs,aT,aV,a6⟩:=aJ.at bE;cases aV;have jq:=(bK b J J J).trans ((M b J).trans ((aq J).trans a6));have rm:h0 (some 3) (i*3) (bc cW C++cs) = .ok (.agg ⟨[(e.f:X),(e.t:X),.int .i64 e.w]⟩):=yA  (k:=3) (λ_=>rfl) bE;obtain⟨x,V⟩:=d1 (l:=S) (i:=e.f+1) J;have SZ:=E x ab;have P:IntKind.wrap .i64 (x+1)=x+1:=jE J J;simp(disch:=omega)only[bn,jq,rm,Z,gc,cG (J:e.f<1000000000000),i6 V,P,seval];refine⟨J,?_⟩;have lG:((C.take i).map λe=>(e.t:Int)).length=i:=ab
  have Dm:((C.take i).map GE.w).length=i:=ab
  refine vP (pY.F λc aZ=>ab) (aS _ _ _) J λaL DF I=>?_;have S0:u aL (U+1+1+1)=some (.cells [(N:X),(N:X),.slice (some ⟨U+1+1,0,none⟩) (N+1) (N+1),.slice aB bh c1,.slice a2 bX c2] false):=ab
  have S1:u aL D=some (.cells [(e.f:X),(e.t:X),(e.w:X)] false):=ab
  refine cL @S0 @S1 ?_;refine vP (Be.F λc aZ=>?_) (aS _ _ _) J λbm hn4 AP=>?_
  ·grind
  have S2:u bm (U+1+1+1)=some (.cells [(N:X),(N:X),.slice (some ⟨U+1+1,0,none⟩) (N+1) (N+1),.slice (some ⟨D+1+1,0,some 1⟩) (((C.take i).map λe=>(e.t:Int)).length+1) (((C.take i).map λe=>(e.t:Int)).length+1),.slice a2 bX c2] false):=ab
  refine bg @S2 ?_;have oN:C.take (i+1)=C.take i++[e]:=by rw[hx,bE];rfl
  refine⟨C.length-(i+1),J,i+1,S.set (e.f+1) (x+1),_,_,rfl,J,by rw[cG J],aS _ _ _,?_,ab,λz cZ=>?_,.inr ⟨D+1+1,D+1+1+1+1,J,J,J,J,J,?_,?_,?_,?_⟩,λc h1 ar aL=>?_,J⟩
  ·grind
  ·grind
  ·grind
  ·grind
  ·grind
  all_goals grind
 ·obtain⟨Mo,Mp⟩:=L.gr;have AN:i=C.length:=J
  subst AN;rw[iQ]at Mo Mp;refine bD.mk (ayb N U (U+1+1+1) (U+1+1) (U+1+1+1+1) (.slice aB bh c1) (.slice a2 bX c2) ar D) N ⟨0,S,rfl,J,rfl,Z,gc,K,λk x V=>?_,λ_ _=>rfl,rfl⟩ ?_
  ·have:=E x (k4 V);omega
  rintro m _ aL _ ⟨k,S,rfl,hk,rfl,_,gc,K,E,I,rfl⟩;have Z:=(I (U+1+1+1) J).trans Z;rw[aaE];unfold Pc
  by_cases S3:k<N
  ·obtain⟨x,V⟩:=d1 (l:=S) (i:=k+1) J;obtain⟨y,ce⟩:=d1 (l:=S) (i:=k) J;have SZ:=E _ x V;have hyb:=E _ y ce;have P:IntKind.wrap .i64 (x+y)=x+y:=jE J J;simp(disch:=omega)only[bn,show(k:Int)<(N:Int) by omega,S3,Z,gc,cG (J:k<1000000000000),i6 V,i6 ce,P,seval];refine⟨⟨J,?_⟩,λh=>absurd trivial h⟩;refine⟨N-(k+1),J,k+1,S.set (k+1) (x+y),rfl,J,rfl,?_,aS _ _ _,ab,λj z cZ=>?_,λc aL=>ab,rfl⟩
   ·grind
   ·rw[y9]at cZ
    split at cZ
    ·rename_i b1
     subst b1
     split at cZ
     ·cases cZ;omega
     omega
    grind
  ·have:k=N:=J
   subst this;have lV:=(I U J).trans ((bK U J J J).trans cv);refine cL @Z @lV ?_;refine⟨λh=>absurd h J,λ_=>⟨⟨_,_,_,_,_,S,_,_,rfl,⟨_,_,by rw[K],λ_=>⟨U+1+1,none,false,J,J,rfl,?_⟩⟩,Mo.F ?_ J (cD _),Mp.F ?_ J (cD _),J,ab,ab⟩,λc aZ=>?_,J⟩⟩
   ·rw[aq J,iG];omega
   ·grind
   ·grind
   ·rw[aq J,I c J,bK c J J J,M c J,aq J]
def GB(g:GE):hN:=((g.f:Int),(g.t:Int),g.w)
theorem Xo:∀l:aa GE,bc cW l=bc io (l.map GB)
 | []=>rfl
 |x::l=>by show cW x++bc cW l=io (GB x)++bc io (l.map GB);rw[Xo l];rfl
theorem at2(I:ft h U v cW gs):ft h U v io (gs.map GB):=by obtain⟨a,cap,rfl,D⟩:=I;refine⟨a,cap,ab,λM=>?_⟩;obtain⟨b,aO,g,E,K,C,L⟩:=D ab;exact⟨b,aO,g,E,K,C,by rw[<-Xo];omega⟩
theorem Ou(M:ft h U v cW gs)(Z:N<=4096)(D:∀g∈gs,hi N g)(V:gs.length<=120):aH Q s 83 [.agg ⟨[(N:X),v]⟩] h U (dC (.int .i64 0) U h):=by
 have K:FV (N:Int) (gs.map GB):=by
  refine⟨J,J,ab,λe I C=>?_,λe I C=>?_⟩
  ·obtain⟨g,E,rfl⟩:=f0.1 I;obtain⟨P,L,_⟩:=D g E;have C:(g.f:Int)<0\/(N:Int)<=g.f\/(g.t:Int)<0\/(N:Int)<=g.t:=C;omega
  ·obtain⟨g,E,rfl⟩:=f0.1 I;obtain⟨_,_,P,L⟩:=D g E;have C:g.w<0\/2147483647<g.w:=C;omega
 have:=Pn (s:=s) (n:=(N:Int)) (at2 M);rw[Ji.2 K]at this;exact this
theorem aeT{g:aa GE}(C:g[i]? = some e):h0 (some 3) (i*3) (bc cW g) = .ok (.agg ⟨[(e.f:X),(e.t:X),(e.w:X)]⟩):=DE  (k:=3) (λ_=>rfl) C
def CgJ(cp cR N:Nat)(gO aCM:X)(ag:aa GE)(ao:Nat)(h:ae)(m:Nat)(aE:aa X)(ac:ae)(Y:Nat):Prop :=
 ∃(i:Nat) (o:X),m=ag.length-i/\i<=ag.length/\aE=[bd cp,bd cR,o,gO,(ag.length:X),(i:X)]/\d5 ac o cW 3 (ag.take i) ao Y/\aA ao h ac/\ao<=Y
def Db(e:Int)(U:Nat)(h:ae):bP:=λr ac Y=>∃m,r = .tuple ⟨[m,(e:X)]⟩/\uH ac U Y m/\aA U h ac/\U<=Y
theorem at3(aJ:ft h U v cW gs)(ek:N<=4096)(I:∀g∈gs,hi N g)(bb:gs.length<=120):aH Q s 189 [.agg ⟨[(N:X),v]⟩] h U (Db 0 U h):=by
 refine aeB ?_;obtain⟨a,cap,rfl,aZ⟩:=id aJ;unfold RO;refine aF ?_;have bZ:∀{o aX},aA U h (T (T h U o) (U+1) aX):=aK
 refine(Ou (aJ.F bZ J) ek I bb).mono ?_;rintro r h1 kC ⟨rfl,K,fy⟩;have cv:=K U J;rw[aq J,aS]at cv;have dL:=K (U+1) J;rw[aS]at dL;have cJ:aA U h h1:=aK
 refine bg @cv ?_;refine(Qt (aJ.F cJ J) J bb I).mono ?_;rintro r ar nk ⟨v2,D,rfl,hg,htc,L,P,E,eZ⟩;have ayc:D.length<=gs.length:=hy P (zq gs);obtain⟨a3,ci,rfl,S4⟩:=id hg.gr;refine aF ?_;refine bD.mk (CgJ U (U+1) N (.slice a3 D.length ci) .nilFunc D nk ar) D.length ⟨0,_,rfl,J,rfl,.inl ab,aK,J⟩ ?_;rintro m _ aL tH ⟨i,o,rfl,aj,rfl,S,C,gA⟩;rw[acH];unfold Qp;refine aF ?_;refine⟨λV=>?_,λeN=>?_⟩
 ·obtain⟨e,bE⟩:=d1 V;obtain⟨b,aO,bJ,ig,fw,rfl,aT⟩:=S4 ab;have n0:=(C b fw).trans aT;simp(disch:=omega)only[bn,n0,aeT bE,seval];refine l4  (k:=3)  (λ_=>rfl) (λ_=>rfl) J (S.F ab J) J e (aS _ _ _) rfl ab λBb b3 Hb M=>?_;have oN:D.take (i+1)=D.take i++[e]:=by rw[hx,bE];rfl
  exact⟨D.length-(i+1),J,i+1,Bb,rfl,J,by rw[cG J],by rw[oN];exact Hb,λc aZ=>by rw[M c aZ,aq J,aq J,aq J];exact C c aZ,J⟩
 ·have Z:i=D.length:=J
  subst Z;rw[iQ]at S;have DH:=(C U J).trans ((E U J).trans cv);have S5:=(C (U+1) J).trans ((E (U+1) J).trans dL);refine bg @DH ?_;refine(aqJ (ft.of S.rd) ek J L).mono ?_;rintro r cF tG ⟨dW,hM,lD⟩;obtain⟨x,y,dE,b4,dZ,bh,bX,bS,c1,c2,hF,rfl⟩:=dW.form;have S6:=(hM (U+1) J).trans S5;unfold Kl;refine bg @S6 ?_;exact⟨_,rfl,dW.F ab J J,aK,J⟩
structure o3 (N q U:Nat) (h ac:ae) (Y:Nat) (gs:aa GE) (v:X):Prop where
 g:u ac q=some (.cells [(N:X),v] false)
 m:u ac (q+1)=some (.cells [.int .i64 0,.int .i64 0,.slice none 0 0,.slice none 0 0,.slice none 0 0] false)
 p:ft ac Y v cW gs
 ok:∀g∈gs,hi N g
 k:aA U h ac
 lt:q+1<Y
theorem o3.put{q:Nat}{E:ae}{g:Nat}{w7:aa GE}(S:o3 N q U h ac Y gs v)(cM:U<=q)(a5:yc N w7 Y ac r E g):∃(L:aa GE) (a:aw Addr) (n c:Nat),r = .agg ⟨[(N:X),.slice a n c]⟩/\L.length<=w7.length/\u E q=some (.cells [(N:X),v] false)/\Y<=g/\o3 N q U h (T E q (.cells [(N:X),.slice a n c] false)) g L (.slice a n c):=by
 obtain⟨v2,L,rfl,C,V,K,P,D,I⟩:=a5;have M:=S.lt;obtain⟨a,n,c,rfl⟩:=C.form;refine⟨L,a,n,c,rfl,P,(D q J).trans S.g,I,ab,?_,?_,K,?_,J⟩
 ·rw[aq J,D _ M];exact S.m
 ·refine ft.of ?_;have:d5 (T E q (.cells [(N:X),.slice a n c] false)) (.slice a n c) cW 3 L Y g:=by
   rcases C with C|⟨b,h1,E,e,Z⟩
   ·exact .inl C
   ·exact .inr ⟨b,h1,E,e,ab⟩
  exact this.rd
 ·intro b Z;rw[aq J,D b J];exact S.k b Z
def kh(k n src len:Int)(bM:aa Int)(c6:Int)(es:aa hN):Int:=if iU k n src len bM≠0 then iU k n src len bM else if c6≠n then 4 else k5 c6 es
theorem amS(bp:cN h U eR c3 bM)(bE:ft h U gO io es)(I:es.length<=60\/65536<es.length):
  aH Q s 114 [.agg ⟨[(k:X),(n:X),(src:X),(len:X),eR]⟩,.agg ⟨[(c6:X),gO]⟩] h U (Db (kh k n src len bM c6 es) U h):=by
 refine aay ?_;obtain⟨a,cap,rfl,aZ⟩:=id bp;obtain⟨a2,tm,rfl,qu⟩:=id bE;unfold Qo;refine aF ?_;have bZ:∀{o aX kZ},aA U h (T (T (T h U o) (U+1) aX) (U+1+1) kZ):=aK
 refine(IV (bp.F bZ J)).mono ?_;rintro r h1 kC ⟨rfl,d9,fy⟩;have lV:=d9 U J;rw[aq J,aq J,aS]at lV;have om:=d9 (U+1) J;rw[aq J,aS]at om;have tX:=d9 (U+1+1) J;rw[aS]at tX;have cJ:aA U h h1:=aK
 have zero:∀{ac:ae} {Y:Nat} {o:gh} {e:Int},kh k n src len bM c6 es=e->aA U h ac->U<=Y->Db (kh k n src len bM c6 es) U h (.tuple ⟨[.agg ⟨[.int .i64 0,.int .i64 0,.slice none 0 0,.slice none 0 0,.slice none 0 0]⟩,(e:X)]⟩) (T ac (U+1+1) o) Y:=λ{ac Y o e} bE hk K=>by rw[bE];exact⟨_,rfl,uH.zero,aK,K⟩
 generalize oP:iU k n src len bM=ak at *
 by_cases ix:ak=0
 case neg =>
  have aT:(ak == 0)=false:=ab
  refine cL @aT @tX ?_;exact zero (by unfold kh;omega) cJ J
 subst ix;refine cL @om @lV ?_;refine⟨λe0=>?_,λAQ=>?_⟩
 ·refine bg @tX ?_;have e0:c6≠n:=ab
  exact zero (by unfold kh;omega) cJ J
 have AQ:c6=n:=ab
 have V:kh k n src len bM c6 es=k5 c6 es:=by unfold kh;omega
 refine(Pn (bE.F cJ J)).mono ?_;rintro r ar nk ⟨rfl,D,eZ⟩;have eA:=cJ.trans D J;have AR:=(D U J).trans lV;have P:=(D (U+1) J).trans om;have Lu:=(D (U+1+1) J).trans tX
 by_cases Hd:k5 c6 es=0
 case neg =>
  have aT:(k5 c6 es == 0)=false:=ab
  refine cL @aT @Lu ?_;exact zero V eA J
 rw[Hd]at V ⊢;have I:=aeS Hd I;obtain⟨N,rfl,ek,sq,kt⟩:=(Ji.1 Hd).ges;have L:=((bE.F cJ J).F D eZ).map sq;rw[<-gH ]at I;generalize kW:es.map nl=gs at I kt L;have g:es.length=gs.length:=ab
 rw[g]at P L;have sJ:o3 N (U+1) U h ar nk gs (.slice a2 gs.length tm):=⟨P,Lu,L,kt,eA,J⟩
 rw[V];have tail:∀{ac:ae} {Y:Nat} {gs:aa GE} {a:aw Addr} {n c:Nat},o3 N (U+1) U h ac Y gs (.slice a n c)->U<=Y->gs.length<=120->rZ s (Db 0 U h) (.pointer (some ⟨U+1,0,none⟩)) (.pointer (some ⟨U+1+1,0,none⟩)) ac Y:=λ{ac Y gs a n c} S a1 bb=>by have cA:=S.lt;unfold rZ;refine bg S.g ?_;refine(at3 S.p ek S.ok bb).mono ?_;rintro r cF tG ⟨m,rfl,dW,hM,lD⟩;obtain⟨x,y,dE,b4,dZ,bh,bX,bS,c1,c2,hF,rfl⟩:=dW.form;have ol:=(hM _ S.lt).trans S.m;unfold Kl;refine bg @ol ?_;exact⟨_,rfl,dW.F ab J J,λb aT=>by rw[aq J,hM b J];exact S.k b aT,J⟩
 have plain:∀{ac:ae} {Y:Nat} {gs:aa GE} {a:aw Addr} {n c:Nat},o3 N (U+1) U h ac Y gs (.slice a n c)->U<=Y->gs.length<=120->aH Q s 188 [.agg ⟨[(N:X),.slice a n c]⟩] ac Y λC E M=>(dh C).length=2/\af (jY (u E (U+1)) E (U+1) 0 (dh C)) λZ=>rZ s (Db 0 U h) (.pointer (some ⟨U+1,0,none⟩)) (.pointer (some ⟨U+1+1,0,none⟩)) Z M:=λ{ac Y gs a n c} S a1 bb=>by refine(aaY S.p J bb S.ok).mono ?_;intro r cF tG a5;obtain⟨cs,bu,n6,hG,rfl,g,cM,K,tY⟩:=S.put J a5;refine bg @cM ?_;exact tail tY J (by have:=zq (p:=λ_=>true) (m:=Ae) gs;unfold zK at g;omega)
 have x9:∀{ac:ae} {Y:Nat} {gs:aa GE} {a:aw Addr} {n c:Nat},o3 N (U+1) U h ac Y gs (.slice a n c)->U<=Y->gs.length<=60->aH Q s 181 [.agg ⟨[(N:X),.slice a n c]⟩] ac Y λHe AS AT=>(dh He).length=2/\af (jY (u AS (U+1)) AS (U+1) 0 (dh He)) λu7=>af (Cq (u u7 (U+1)) λcs x=>h0 (some 2) 0 cs) λS7=>aH Q s 188 [S7] u7 AT λC E M=>(dh C).length=2/\af (jY (u E (U+1)) E (U+1) 0 (dh C)) λZ=>rZ s (Db 0 U h) (.pointer (some ⟨U+1,0,none⟩)) (.pointer (some ⟨U+1+1,0,none⟩)) Z M:=λ{ac Y gs a n c} S a1 bb=>by refine(adi S.p J bb S.ok).mono ?_;rintro r cF tG ⟨ag,_,AH,_,a5⟩;obtain⟨cs,bu,n6,hG,rfl,g,cM,K,tY⟩:=S.put J a5;rw[jm]at g;refine bg @cM ?_;exact plain tY J J
 refine cL @P @AR ?_;refine⟨λ_=>?_,λ_=>⟨λ_=>x9 sJ J I,λ_=>⟨λ_=>plain sJ J J,λ_=>tail sJ J J⟩⟩⟩;refine(YU sJ.p J J kt).mono ?_;intro r cF tG a5;obtain⟨cs,bu,n6,hG,rfl,g,cM,K,tY⟩:=sJ.put J a5;have AM:=zq (p:=Cv) (m:=id) gs;unfold FE at g;refine bg @cM ?_;exact x9 tY J J
def qr(k n src len:Int)(bM:aa Int)(c6:Int)(es:aa hN)(lim:Int):Int:=if kh k n src len bM c6 es≠0 then kh k n src len bM c6 es else if lim<0\/8192<lim then 3 else 0
theorem amT{g:Int}(I:cN h U eR c3 bM)(P:ft h U gO io es)(E:es.length<=60\/65536<es.length):
  aH Q s 200 [.agg ⟨[(k:X),(n:X),(src:X),(len:X),eR]⟩,.agg ⟨[(c6:X),gO]⟩,(g:X)] h U (dC (.int .i64 (qr k n src len bM c6 es g)) U h):=by
 refine aqa ?_;obtain⟨a,cap,rfl,aZ⟩:=id I;obtain⟨a2,L,rfl,qu⟩:=id P;unfold acP;refine aF ?_;have M:∀{o aX},aA U h (T (T h U o) (U+1) aX):=aK
 refine(amS (I.F M J) (P.F M J) E).mono ?_;rintro r h1 C ⟨m,rfl,V,d9,K⟩;obtain⟨x,y,dE,b4,dZ,bh,bX,bS,c1,c2,hF,rfl⟩:=V.form;have D:∀{o aX},aA U h (T (T h1 C o) C aX):=aK
 unfold Kl
 by_cases Z:kh k n src len bM c6 es=0
 case neg =>
  have aT:(kh k n src len bM c6 es == 0)=false:=ab
  refine bg @aT ?_;exact⟨by unfold qr;grind,D,J⟩
 rw[Z];have e:qr k n src len bM c6 es g=if g<0\/8192<g then 3 else 0:=by unfold qr;omega
 refine aF ?_;rw[e];refine⟨λar=>⟨ab,D,J⟩,λar=>⟨λaL=>⟨ab,D,J⟩,λaL=>⟨ab,D,J⟩⟩⟩
def j3(n m:Int):al:=decide (1<=n/\n<=m)
structure iI where
 k:Int
 n:Int
 src:Int
 len:Int
 bM:aa Int
 c6:Int
 es:aa hN
 R:Int
 C:Int
 M:Int
 lim:Int
 u9:Nat
def he(x:iI):Int:=if qr x.k x.n x.src x.len x.bM x.c6 x.es x.lim≠0 then qr x.k x.n x.src x.len x.bM x.c6 x.es x.lim
 else if j3 x.R 8=false then 3 else if j3 x.C 8=false then 3 else if j3 x.M 64=false then 3 else if 8192<x.u9 then 5 else 0
def gB(x:iI)(eR gO e1:X):aa X:=[(x.k:X),(x.n:X),(x.src:X),(x.len:X),eR,(x.c6:X),gO,(x.R:X),(x.C:X),(x.M:X),(x.lim:X),e1]
structure pr (h:ae) (U:Nat) (x:iI) (eR gO e1:X):Prop where
 d:cN h U eR c3 x.bM
 e:ft h U gO io x.es
 c:∃a n,e1 = .slice a x.u9 n
 l:x.es.length<=60\/65536<x.es.length
theorem pr.F{h ac:ae}{U Y:Nat}{x:iI}{eR gO e1:X}(H:pr h U x eR gO e1)(C:aA U h ac)(g:U<=Y):pr ac Y x eR gO e1:=⟨H.d.F C g,H.e.F C g,H.c,H.l⟩
theorem Jj{x:iI}(H:pr h U x eR gO e1):aH Q s 121 [.agg ⟨gB x eR gO e1⟩] h U (dC (.int .i64 (he x)) U h):=by
 refine ap9 ?_;obtain⟨a,cap,rfl,aZ⟩:=id H.d;obtain⟨a2,M,rfl,qu⟩:=id H.e;obtain⟨a3,Z,rfl⟩:=H.c;unfold acO gB;have P:∀{o},aA U h (T h U o):=aK
 refine aF ?_;refine(amT (H.d.F P J) (H.e.F P J) H.l).mono ?_;rintro r h1 kC ⟨rfl,I,K⟩;have g:=I U J;rw[aS]at g;have C:aA U h h1:=aK
 generalize bl:qr x.k x.n x.src x.len x.bM x.c6 x.es x.lim=aAy
 by_cases au:aAy=0
 case neg =>
  have aT:(aAy == 0)=false:=ab
  refine bg @aT ?_;exact⟨by unfold he;grind,C,J⟩
 subst au;have e:he x=if j3 x.R 8=false then 3 else if j3 x.C 8=false then 3 else if j3 x.M 64=false then 3 else if 8192<x.u9 then 5 else 0:=by unfold he;omega
 rw[e];refine bg @g ?_;refine NP.mono ?_;rintro r V L ⟨rfl,E,D⟩;rw[E,D];change af (dr .not (.bool (j3 x.R 8))) _;cases dW:j3 x.R 8 with
 |false =>
  refine bg @g ?_;exact⟨rfl,C,J⟩
 |true =>
 refine bg @g ?_;refine NP.mono ?_;rintro r V L ⟨rfl,E,D⟩;rw[E,D];change af (dr .not (.bool (j3 x.C 8))) _;cases ed:j3 x.C 8 with
 |false =>
  refine bg @g ?_;exact⟨rfl,C,J⟩
 |true =>
 refine bg @g ?_;refine NP.mono ?_;rintro r V L ⟨rfl,E,D⟩;rw[E,D];change af (dr .not (.bool (j3 x.M 64))) _;cases hV:j3 x.M 64 with
 |false =>
  refine bg @g ?_;exact⟨rfl,C,J⟩
 |true =>
 refine bg @g ?_;exact⟨λcF=>⟨ab,C,J⟩,λcF=>⟨ab,C,J⟩⟩
def yf(x:iI)(w7:aa cx)(w:Int):Int:=if he x≠0 then he x else if 1048576<w7.length then 5 else if w7.any (λm=>!vX m)=true then 8 else if ln w 1048576=false then 3 else 0
theorem Xp{x:iI}{g:aa cx}{w:Int}{HJ:X}(H:pr h U x eR gO e1)(bl:cN h U HJ yd g)(AM:g.length<=60\/1048576<g.length):
  aH Q s 161 [.agg ⟨gB x eR gO e1⟩,HJ,(w:X)] h U (dC (.int .i64 (yf x g w)) U h):=by
 refine amh ?_;obtain⟨a,cap,rfl,aZ⟩:=id bl;unfold aaG;have bZ:∀{o},aA U h (T h U o):=aK
 obtain⟨a3,I,rfl⟩:=id H.c;obtain⟨aB,D,rfl,_⟩:=id H.d;obtain⟨a2,E,rfl,_⟩:=id H.e;generalize V:gB x (.slice aB x.bM.length D) (.slice a2 x.es.length E) (.slice a3 x.u9 I)=aCN at *
 have C:=V;unfold gB at C;rw[<-C];refine aF ?_;rw[C,<-V];refine(Jj (H.F bZ J)).mono ?_;rintro r h1 kC ⟨rfl,d9,P⟩;have K:aA U h h1:=aK
 by_cases au:he x=0
 case neg =>
  have Z:(he x == 0)=false:=ab
  refine bg @Z ?_;exact⟨by unfold yf;grind,K,J⟩
 have e:yf x g w=if 1048576<g.length then 5 else if g.any (λm=>!vX m)=true then 8 else if ln w 1048576=false then 3 else 0:=by unfold yf;omega
 rw[e,au];refine aF ?_;refine⟨λcF=>⟨ab,K,J⟩,λcF=>?_⟩;rw[if_neg J];refine(amL (bl.F K J) J (λx h U=>aie)).mono ?_;rintro r ar nk ⟨rfl,L,eZ⟩;have M:=K.trans L J;cases cY:g.any (λm=>!vX m)with
 |true =>
  refine aF ?_;exact⟨rfl,M,J⟩
 |false =>
 refine aF ?_;refine EO.mono ?_;rintro r aL bS ⟨rfl,aV,aP⟩;rw[aV,aP];cases Z:ln w 1048576 with
 |false =>
  refine aF ?_;exact⟨rfl,M,J⟩
 |true =>
  refine aF ?_;exact⟨rfl,M,J⟩
def Dc(x:iI)(r:Int):Int:=if ln r 8192=false then 0 else if he x≠0 then 0 else 4*(x.R+x.C+4)*(r+2)
theorem ajV{x:iI}{w:Int}(H:pr h U x eR gO e1):
  aH Q s 75 [.agg ⟨gB x eR gO e1⟩,(w:X)] h U (dC (.int .i64 (Dc x w)) U h):=by
 refine amk ?_;have bZ:∀{o},aA U h (T h U o):=aK
 obtain⟨a3,I,rfl⟩:=id H.c;obtain⟨aB,D,rfl,_⟩:=id H.d;obtain⟨a2,E,rfl,_⟩:=id H.e;unfold aaI;have M:gB x (.slice aB x.bM.length D) (.slice a2 x.es.length E) (.slice a3 x.u9 I)=_:=rfl;unfold gB at M ⊢;refine aF ?_;refine EO.mono ?_;rintro r aL bS ⟨rfl,aV,aP⟩;rw[aV,aP];unfold NK;cases L:ln w 8192 with
 |false =>
  refine aF ?_;exact⟨by unfold Dc;grind,bZ,J⟩
 |true =>
 have e:Dc x w=if he x≠0 then 0 else 4*(x.R+x.C+4)*(w+2):=by unfold Dc;grind
 rw[e];refine aF ?_;refine(Jj (H.F bZ J)).mono ?_;rintro r K kC ⟨rfl,V,Z⟩;have g:=V U J;rw[aS]at g;have cJ:aA U h K:=aK
 by_cases C:he x=0
 case neg =>
  have L:(he x == 0)=false:=ab
  refine bg @L ?_;exact⟨ab,cJ,J⟩
 have P:(1<=x.R/\x.R<=8)/\1<=x.C/\x.C<=8:=by
  unfold he at C
  split at C
  ·omega
  ·split at C
   ·omega
   ·split at C
    ·omega
    ·rename_i K ar aL
     exact⟨of_decide_eq_true (by unfold j3 at ar;grind),of_decide_eq_true (by unfold j3 at aL;grind)⟩
 have bV:0<=w/\w<=8192:=of_decide_eq_true L;obtain⟨⟨hR1,hR2⟩,hC1,hC2⟩:=P;have m1:0<=(4*(x.R+x.C+4))*(w+2):=Int.mul_nonneg J J;have m2:(4*(x.R+x.C+4))*(w+2)<=80*8194:=Int.mul_le_mul J J J J;have aBw:∀n:Int,-9223372036854775808<=n->n<=9223372036854775807->ta .i64 n=n:=λn C K=>by rw[nL];exact jE C K
 rw[C,if_neg (by simp)];refine bg @g ?_;refine⟨?_,cJ,J⟩;rw[jE (n:=x.R+x.C) J J,jE  J J,aBw (Int.mul 4 (x.R+x.C+4)) ab ab,jE  J J]
 grind
theorem fd:pj Tryz.prog 24=some (some 2):=by kernel_rfl
theorem own:ownKnob Tryz.prog.godebug=none:=by kernel_rfl
theorem aqK:laidOutB Tryz.prog=true:=by kernel_rfl
def kq:Field:={ name := "G",type:=24,offset:=0,embedded:=false,tag := "",pkgPath := "",byteOffset:=0 }
def HT:Field:={ name := "V",type:=3,offset:=2,embedded:=false,tag := "",pkgPath := "",byteOffset:=32 }
def HU:Field:={ name := "R",type:=5,offset:=3,embedded:=false,tag := "",pkgPath := "",byteOffset:=40 }
def hR:Field:={ name := "C",type:=5,offset:=4,embedded:=false,tag := "",pkgPath := "",byteOffset:=41 }
def HV:Field:={ name := "N",type:=3,offset:=0,embedded:=false,tag := "",pkgPath := "",byteOffset:=0 }
def FX:Field:={ name := "Edges",type:=22,offset:=1,embedded:=false,tag := "",pkgPath := "",byteOffset:=8 }
def aeU:Field:={ name := "From",type:=3,offset:=0,embedded:=false,tag := "",pkgPath := "",byteOffset:=0 }
def fTo:Field:={ name := "To",type:=3,offset:=1,embedded:=false,tag := "",pkgPath := "",byteOffset:=8 }
def aAz:Field:={ name := "W",type:=2,offset:=2,embedded:=false,tag := "",pkgPath := "",byteOffset:=16 }
theorem u26:Tryz.prog.underlying 26=some (.struct #[kq,HT,HU,hR]):=by kernel_rfl
theorem u24:Tryz.prog.underlying 24=some (.struct #[HV,FX]):=by kernel_rfl
theorem u52:Tryz.prog.underlying 124=some (.struct #[aeU,fTo,aAz]):=by kernel_rfl
theorem u22:Tryz.prog.underlying 22=some (.slice 124):=by kernel_rfl
theorem aAA:Tryz.prog.underlying 5=some (.int .u8):=by kernel_rfl
theorem aBx:Tryz.prog.underlying 4=some .bool:=by kernel_rfl
theorem S8:Tryz.prog.cellsOf 26=5:=by kernel_rfl
theorem n24:Tryz.prog.cellsOf 24=2:=by kernel_rfl
theorem n52:Tryz.prog.cellsOf 124=3:=by kernel_rfl
theorem Lv:Tryz.prog.cellsOf 22=1:=by kernel_rfl
theorem fT:Tryz.prog.cellsOf 5=1:=by kernel_rfl
theorem ayd:Tryz.prog.cellTypes Tryz.prog.depth 26=some [3,22,3,5,5]:=by kernel_rfl
theorem awm:Tri Tryz.prog 124:=⟨⟨_,aeU,fTo,aAz,u52,rfl,rfl,rfl,rfl,rfl,rfl,yR,yR,D6,ci,ci,c2⟩,n52⟩
section
variable {H:Type} {enc:TypeId × X->H} {w:World} {aO:Nat->al}
theorem ajW{r:Reach}{D4:Nat}{d:DataW H}{cb:aa MemPlace}(E:Value.okWide Tryz.prog w r D4 26 v)(h:DataW.Trod enc Tryz.prog w 0 aO true 26 v d cb):
  ∃(n V R C:Int) (mR:X) (tZ:aa hN),v = .agg ⟨[(n:X),mR,(V:X),.int .u8 R,.int .u8 C]⟩/\((tZ=[]/\mR = .slice none 0 0)\/∃b Z cap,mR = .slice (some ⟨b,Z,none⟩) tZ.length cap/\JY w b Z (bc io tZ))/\(0<=R/\R<=255)/\0<=C/\C<=255:=by
 have u8b:∀{n:Int},(Lit.int .u8 n).wf=true->0<=n/\n<=255:=λ{n} h=>by simp[Lit.wf,IntKind.min,IntKind.max,IntKind.bits,IntKind.signed]at h;omega
 unfold Value.okWide at E;rw[u26]at E;obtain⟨cs,rfl,jH,ag,hg,_,L⟩:=E;rw[ayd]at hg;cases hg;rw[S8]at jH;obtain⟨l⟩:=cs
 match l,jH with
 | [a,b,c,e,f],_ =>
  obtain⟨P,bK⟩:=h;have bK:DataW.trod enc Tryz.prog w 0 aO true P 26 [a,b,c,e,f]=some (d,cb):=bK;obtain⟨xs,n,rfl,_,fW,AD,nb⟩:=DataW.trod_struct u26 bK;have AD:xs.length=4:=AD;have get:∀(i:Nat) (g:Field),#[kq,HT,HU,hR][i]? = some g->∃y,DataW.trod enc Tryz.prog w 0 aO true n g.type (([a,b,c,e,f].drop g.offset).take (Tryz.prog.cellsOf g.type))=some y:=λi g D=>by have aj:i<4:=(Ih.1 D).1;exact⟨xs[i]'J,by rw[nb i g D,kL]⟩
  obtain⟨cu,au⟩:=get 0 kq rfl;obtain⟨ct,h1⟩:=get 1 HT rfl;obtain⟨cB,ar⟩:=get 2 HU rfl;obtain⟨co,aL⟩:=get 3 hR rfl;rw[show kq.type=24 from rfl,show kq.offset=0 from rfl,n24]at au;rw[show HT.type=3 from rfl,show HT.offset=2 from rfl,ci]at h1;rw[show HU.type=5 from rfl,show HU.offset=3 from rfl,fT]at ar;rw[show hR.type=5 from rfl,show hR.offset=4 from rfl,fT]at aL;obtain⟨V,rfl⟩:=Xb yR h1;obtain⟨R,Bf,_,aBy⟩:=DataW.trod_int aAA ar;obtain⟨C,Bg,_,aBz⟩:=DataW.trod_int aAA aL;injection Bf with Bf _
  injection Bg with Bg _
  subst Bf Bg;have au:DataW.trod enc Tryz.prog w 0 aO true n 24 [a,b]=some cu:=au;obtain⟨xs',jM,rfl,_,_,I,M⟩:=DataW.trod_struct u24 au;have I:xs'.length=2:=I;have K:∀(i:Nat) (g:Field),#[HV,FX][i]? = some g->∃y,DataW.trod enc Tryz.prog w 0 aO true jM g.type (([a,b].drop g.offset).take (Tryz.prog.cellsOf g.type))=some y:=λi g D=>by have aj:i<2:=(Ih.1 D).1;exact⟨xs'[i]'J,by rw[M i g D,kL]⟩
  obtain⟨nx,hS⟩:=K 0 HV rfl;obtain⟨jl,gk⟩:=K 1 FX rfl;rw[show HV.type=3 from rfl,show HV.offset=0 from rfl,ci]at hS;rw[show FX.type=22 from rfl,show FX.offset=1 from rfl,Lv]at gk;obtain⟨N,rfl⟩:=Xb yR hS;obtain⟨aD,dY,iw⟩:=L 1 b rfl;cases dY;obtain⟨tZ,_,cZ⟩:=apL (ch:=io) (k:=3) u22 n52 (λ_=>True) (λn c y ce=>by obtain⟨e,bE,_⟩:=alH awm ce;exact⟨e,bE,trivial⟩) gk iw;exact⟨N,V,R,C,b,tZ,rfl,cZ,u8b aBy,u8b aBz⟩
end
theorem lm.iC(h:lm x y)(ac:lm y z):lm x z:=by unfold lm at *;omega
theorem bD.cut{B:oa}{g:aa X}{C:aR}(D:aR)(K:∀g h U,D g h U->C g h U)(I:∀E,(∀g h U,D g h U->E g h U)->bD B g h U [(i,E)] R):bD B g h U [(i,C)] R:=I C K
end Go.Proofs.YthlhhajnbgjfmaaGreat
