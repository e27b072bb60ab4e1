/- Parts of the proof: HwFn2: each statement bears its own conditions. -/
import Derived.Test.YthlhhajnbgjfmaaGreatProg
import Derived.KernelRfl
import Derived.Test.YthlhhajnbgjfmaaGreatRows
import Derived.WalkKit
import Derived.ProofKit
import Derived.OpenShut
import Derived.ChangeOld
import Derived.Below
import Derived.Test.YthlhhajnbgjfmaaGreatRhHwFn1
namespace Go.Proofs.YthlhhajnbgjfmaaGreat
open Go Go.Ax Go.ChangeShapes Go.WideShapes Go.ChangeAt Go.RowKit
set_option linter.all false
set_option maxHeartbeats 1000000
variable {U:Nat} {h:ae} {s:al} {aV:aa GE} {v:X} {N:Nat} {n:Int} {es:aa iy} {eQ gO:X} {ao aj:Nat} {v2:X} {x y:dB} {v1 e2:X} {bK dH dl:aa Int} {A B l:aa dB} {m src len:Int} {r:X} {IJ:aa dB} {e:GE} {p:GE->al} {z:dB} {R:aP} {i f:Nat} {k:Int} {ac:ae} {aC aZ bt:X} {Y:Nat} {az:Type} {dd:Int}
def jN(x y:dB):Prop:=x.1<y.1\/(x.1=y.1/\x.2.1<y.2.1)
def axu(es:aa dB)(x:dB):Prop:=x∈es/\∀y∈es,Ends x y->x.2.2<=y.2.2
structure rJ (A B:aa dB):Prop where
 mem:∀x,x∈B↔axu A x
 D2:∀y∈A,∃z∈B,Ends z y
structure jq (A B:aa dB):Prop where
 up:B.Pairwise jN
 D3:rJ A B
theorem Ends.symm{x y:dB}(h:Ends x y):Ends y x:=⟨h.1.symm,h.2.symm⟩
theorem Ends.trans{x y z:dB}(h:Ends x y)(ac:Ends y z):Ends x z:=⟨h.1.trans ac.1,h.2.trans ac.2⟩
theorem Ends.refl(x:dB):Ends x x:=⟨rfl,rfl⟩
theorem jN.ne(h:jN x y):¬Ends x y:=λe=>by unfold jN at h;have:=e.1;have:=e.2;omega
theorem jN.i1(h:jN x y)(ac:jN y x):False:=by unfold jN at *;omega
theorem WK:∀{l C:aa dB},l.Pairwise jN->C.Pairwise jN->(∀x,x∈l↔x∈C)->l=C
 | [],[],_,_,_=>rfl
 | [],b::E,_,_,h=>absurd ((h b).2 (nQ ..)) (by simp)
 |a::t,[],_,_,h=>absurd ((h a).1 (nQ ..)) (by simp)
 |a::t,b::E,P,I,h=>by
  have M:∀x∈t,jN a x:=λx g=>r6 P g;have L:∀x∈E,jN b x:=λx g=>r6 I g;have D:a=b:=by
   rcases gQ.1 ((h a).1 (nQ ..))with e|e
   ·exact e
   ·rcases gQ.1 ((h b).2 (nQ ..))with K|K
    ·grind
    ·exact((L a e).i1 (M b K)).elim
  subst D
  congr 1
  refine WK P.of_cons I.of_cons λx=>⟨λg=>?_,λg=>?_⟩
  ·rcases gQ.1 ((h x).1 (mG _ g))with e|e
   ·subst e;exact((M x g).ne (Ends.refl x)).elim
   omega
  ·rcases gQ.1 ((h x).2 (mG _ g))with e|e
   ·subst e;exact((L x g).ne (Ends.refl x)).elim
   omega
theorem jq.unique{C:aa dB}(h:jq A B)(ac:jq A C):B=C:=WK h.up ac.up λx=>(h.D3.mem x).trans (ac.D3.mem x).symm
def qE(z e:dB):dB:=(z.1,z.2.1,min z.2.2 e.2.2)
theorem rJ.axv(h:rJ A B){e:dB}(cL:z∈B)(g:Ends z e)(en:∀x,x∈IJ↔(x∈B/\¬Ends x e)\/x=qE z e):rJ (A++[e]) IJ:=by
 have K:=(h.mem z).1 cL;refine⟨λx=>?_,λy D=>?_⟩
 ·rw[en];constructor
  ·rintro(⟨E,bv⟩|rfl)
   ·have Z:=(h.mem x).1 E;refine⟨Ja _ Z.1,λy D L=>?_⟩;rcases hp.1 D with D|D
    ·exact Z.2 y D L
    grind
   ·refine⟨?_,λy D L=>?_⟩
    ·by_cases dO:z.2.2<=e.2.2
     ·have:qE z e=z:=by unfold qE;grind
      rw[this];exact Ja _ K.1
     ·have:qE z e=e:=by unfold qE;rw[Int.min_eq_right J,g.1,g.2]
      grind
    ·rcases hp.1 D with D|D
     ·have:=K.2 y D L;show min z.2.2 e.2.2<=_;omega
     ·rw[iU.1 D];show min z.2.2 e.2.2<=_;omega
  ·rintro⟨E,P⟩
   by_cases C:Ends x e
   ·refine .inr ?_;have h1:=P e (by simp) C;have ap:=P z (Ja _ K.1) (C.trans g.symm);have aM:x.2.2=min z.2.2 e.2.2:=by
     rcases hp.1 E with E|E
     ·have:=K.2 x E (g.trans C.symm);omega
     grind
    have aW:x.1=z.1:=C.1.trans g.1.symm;have aK:x.2.1=z.2.1:=C.2.trans g.2.symm;obtain⟨hH,iQ,hI⟩:=x;unfold qE
    grind
   ·refine .inl ⟨(h.mem x).2 ⟨?_,ab⟩,C⟩;rcases hp.1 E with E|E
    ·omega
    ·rw[iU.1 E]at C;exact absurd (Ends.refl e) C
 ·have V:qE z e∈IJ:=ab
  rcases hp.1 D with D|D
  ·obtain⟨q,dt,I⟩:=h.D2 y D
   by_cases M:Ends q e
   ·exact⟨_,V,(show Ends (qE z e) z from⟨rfl,rfl⟩).trans (g.trans (M.symm.trans I))⟩
   ·exact⟨q,ab,I⟩
  ·rw[iU.1 D];exact⟨_,V,(show Ends (qE z e) z from⟨rfl,rfl⟩).trans g⟩
theorem rJ.axw(h:rJ A B){e:dB}(P:∀z∈B,¬Ends z e)(L:∀x,x∈IJ↔x∈B\/x=e):rJ (A++[e]) IJ:=by
 refine⟨λx=>?_,λy g=>?_⟩
 ·rw[L];constructor
  ·rintro(D|rfl)
   ·have I:=(h.mem x).1 D;refine⟨Ja _ I.1,λy g E=>?_⟩;rcases hp.1 g with g|g
    ·exact I.2 y g E
    grind
   ·refine⟨by simp,λy g E=>?_⟩;rcases hp.1 g with g|g
    ·obtain⟨q,K,C⟩:=h.D2 y g;exact absurd (C.trans E.symm) ab
    grind
  ·rintro⟨D,M⟩;rcases hp.1 D with D|D
   ·exact .inl ((h.mem x).2 ⟨D,ab⟩)
   grind
 ·rcases hp.1 g with g|g
  ·obtain⟨q,K,C⟩:=h.D2 y g;exact⟨q,ab,C⟩
  ·rw[iU.1 g];exact⟨e,ab,Ends.refl e⟩
theorem rJ.nil:rJ [] []:=⟨λx=>⟨λ(h:x∈([]:aa dB))=>(td h).elim,λh=>(td h.1).elim⟩,λy g=>(td g).elim⟩
def Dy(l:aa dB):Prop:=l.Pairwise λx y=>¬Ends x y
theorem Yc(e:dB):∀(l:aa dB),Dy l->Dy (ix e l)/\((∃z∈l,Ends z e/\∀x,x∈ix e l↔(x∈l/\¬Ends x e)\/x=qE z e)\/((∀z∈l,¬Ends z e)/\∀x,x∈ix e l↔x∈l\/x=e))
 | [],_=>⟨by unfold ix Dy;simp,.inr ⟨by simp,λx=>by simp[ix]⟩⟩
 |z::l,P=>by
  have a1:ix e (z::l)=(bif f2 z.1 e.1&&f2 z.2.1 e.2.1 then(z.1,z.2.1,bif lk e.2.2 z.2.2 then e.2.2 else z.2.2)::l else z::ix e l):=rfl;have D:∀x∈l,¬Ends z x:=λx g=>r6 P g;rw[a1];cases L:(f2 z.1 e.1&&f2 z.2.1 e.2.1)with
  |true =>
   simp only[eB,kT,uE]at L;have C:Ends z e:=⟨L.1,L.2⟩
   have E:((z.1,z.2.1,bif lk e.2.2 z.2.2 then e.2.2 else z.2.2):dB)=qE z e:=by
    unfold qE;rw[re]
    grind
   rw[E];simp only[qm];refine⟨List.Pairwise.cons (λx g I=>D x g ((show Ends z (qE z e)from⟨rfl,rfl⟩).trans I)) P.of_cons,.inl ⟨z,ab,C,λx=>?_⟩⟩;constructor
   ·intro g;rcases gQ.1 g with rfl|g
    ·grind
    ·exact .inl ⟨ab,λI=>D x g (C.trans I.symm)⟩
   grind
  |false =>
   have C:¬Ends z e:=λh=>by
    have:(f2 z.1 e.1&&f2 z.2.1 e.2.1)=true:=by simp only[eB,kT,uE];exact⟨h.1,h.2⟩
    grind
   obtain⟨h1,Z⟩:=Yc e l P.of_cons;simp only[mH];have M:∀x∈ix e l,¬Ends z x:=λx g I=>by
    rcases Z with⟨q,V,K,E⟩|⟨bv,E⟩
    ·rcases(E x).1 g with⟨g,_⟩|rfl
     ·grind
     ·exact D q V (I.trans (show Ends (qE q e) q from⟨rfl,rfl⟩))
    grind
   refine⟨List.Pairwise.cons M h1,?_⟩;rcases Z with⟨q,V,K,E⟩|⟨bv,E⟩
   ·refine .inl ⟨q,ab,K,λx=>?_⟩
    grind
   grind
theorem Yd:∀(l A g:aa dB),Dy g->rJ A g->Dy (h9 g l)/\rJ (A++l) (h9 g l)
 | [],A,g,E,C=>by rw[h6];exact⟨E,C⟩
 |e::l,A,g,E,C=>by
  obtain⟨V,M⟩:=Yc e g E;have K:rJ (A++[e]) (ix e g):=by
   rcases M with⟨z,L,D,I⟩|⟨P,I⟩
   ·exact C.axv L D I
   ·exact C.axw P I
  have:=Yd l (A++[e]) (ix e g) V K;rw[kA]at this;exact this
theorem arC(h:¬jY y x<0)(g:¬Ends x y):jN x y:=by rw[Gg]at h;unfold jN;unfold Ends at g;omega
theorem ZI{g:aa dB}(E:g.Perm (h9 [] l))(I:g.Pairwise λx y=>¬jY y x<0):jq l g:=by
 obtain⟨P,C⟩:=Yd l [] [] (by exact List.Pairwise.nil) rJ.nil;rw[te]at C;have K:Dy g:=(E.pairwise_iff (λ{x y} h e=>h e.symm)).2 P;refine⟨?_,λx=>(E.mem_iff).trans (C.mem x),λy L=>?_⟩
 ·exact List.Pairwise.imp₂ (λx y h M=>arC h M) I K
 ·obtain⟨z,V,D⟩:=C.D2 y L;exact⟨z,ab,D⟩
theorem jq.self(h:l.Pairwise jN):jq l l:=by
 have E:∀(l:aa dB),l.Pairwise jN->∀x∈l,∀y∈l,Ends x y->x=y:=by
  intro l
  induction l with
  |nil=>grind
  |cons a l I =>
   intro h x g y C D;rcases gQ.1 g with g|g <;> rcases gQ.1 C with C|C
   ·grind
   ·rw[g]at D;exact((r6 h C).ne D).elim
   ·rw[C]at D;exact((r6 h g).ne D.symm).elim
   grind
 exact⟨h,λx=>⟨λg=>⟨g,ab⟩,λg=>g.1⟩,λy C=>⟨y,C,Ends.refl y⟩⟩
structure afM (N:Nat) (aV cs:aa GE):Prop where
 can:jq (aV.map dE) (cs.map dE)
 ends:FQ aV cs
 ok:∀g∈cs,gT N g
 len:cs.length<=aV.length
theorem axx(N:Nat)(aV:aa GE)(d7:N<=2147483648)(L:∀g∈aV,gT N g)(bg:l.Perm (h9 [] (aV.map dE)))(aq:l.Pairwise λx y=>¬jY y x<0):afM N aV (l.map BN)/\(l.map BN).map dE=l:=by
 have P:∀x∈h9 [] (aV.map dE),lK x:=Ju (λx C=>by obtain⟨g,I,rfl⟩:=fz.1 C;exact ZH d7 (L g I)) (λx C=>by cases C)
 obtain⟨aW,aK⟩:=Xe (aV.map dE) [];have V:∀x∈h9 [] (aV.map dE),dE (BN x)=x:=λx C=>by obtain⟨E,K,aM⟩:=P x C;obtain⟨a,cW,_⟩:=uK E;obtain⟨b,aO,_⟩:=uK K;obtain⟨hH,iQ,hI⟩:=x;simp only at cW aO;subst cW;subst aO;rfl
 have M:(l.map BN).map dE=l:=by
  rw[pn]
  conv=>rhs;rw[<-Ff l]
  exact oC ab
 have D:∀x∈h9 [] (aV.map dE),∃g∈aV,(BN x).f=g.f/\(BN x).t=g.t:=λx C=>by obtain⟨y,cd,E,K⟩:=aW x C;obtain⟨g,I,rfl⟩:=fz.1 (by simpa using cd);exact⟨g,I,by show x.1.toNat=_;rw[E];rfl,by show x.2.1.toNat=_;rw[K];rfl⟩
 refine⟨⟨by rw[M];exact ZI bg aq,⟨λg I=>?_,λc Z=>?_⟩,λc Z=>?_,?_⟩,M⟩
 ·obtain⟨x,C,E,K⟩:=aK (dE g) ab;exact⟨BN x,ab,by show x.1.toNat=_;rw[E];rfl,by show x.2.1.toNat=_;rw[K];rfl⟩
 ·obtain⟨x,C,rfl⟩:=fz.1 Z;obtain⟨g,I,E,K⟩:=D x ab
  grind
 ·obtain⟨x,C,rfl⟩:=fz.1 Z;have C:=bg.subset C;obtain⟨g,I,E,K⟩:=D x C;obtain⟨_,_,aM⟩:=P x C;obtain⟨w,b0,vq⟩:=uK aM;exact⟨by rw[E];exact(L g I).1,by rw[K];exact(L g I).2.1,by show 0<=x.2.2;omega,by show x.2.2<=_;omega⟩
 ·rw[gn,bg.length_eq];have:=OB (aV.map dE) []
  grind
set_option maxRecDepth 1000000
def G1:aa (aa Nat):=[[0,4,5,6,22,23,24],[0,4,5,13,52]]
def aea(s:al)(aC aZ bt bm eJ j5 fT:X)(h:ae)(U:Nat)(N:aP)(aE:aP)(R:aP):Prop:=cF fT j5 (hw 3 h 3 eJ fT λc=>b1 [(ad 0),(ad 0),(ad 0)] h U λd e f=>af (aU e 3 d c) λg=>ax g 0 d λj=>ax g 1 d λl=>af (cU [(ad 0),(ad 0)] [(0,1,j),(1,1,l)]) λm=>b1 [(ad 0),(ad 0)] g f λn o p=>af (aU o 2 n m) λq=>ax q 2 d λt=>aX s 260 [t] q p λaI v w=>b1 [(ad 0),(.int .u64 0)] v w λx y z=>af (aU y 2 x aI) λbD=>aR 2 bD n λbU=>af (jV Q bD 53 (.agg #[(ad 0),(.int .u64 0)]) true bm bU) λbL=>af (cp bL 0) λbk=>af (cp bL 1) λbV=>b1 [(ad 0),(.int .u64 0)] bD z λca bO cM=>af (aU bO 2 ca bk) λcG=>bu bV (aR 2 cG ca λds=>aR 2 cG x λdh=>aX s 261 [aC,ds,dh] cG cM λey am an=>af (aU am 2 x ey) λez=>aR 2 ez n λf9=>aR 2 ez x λgw=>af (mK Q 53 ez bm f9 gw) λgl=>b9 fT λhT=>N [aC,aZ,bt,bm,eJ,j5,hT] gl an) (aR 2 cG n λiu=>aR 2 cG x λgx=>af (mK Q 53 cG bm iu gx) λl2=>b9 fT λlC=>N [aC,aZ,bt,bm,eJ,j5,lC] l2 cM)) (aE [aC,aZ,bt,bm,eJ,j5,fT] h U)
def aeb(s:al)(aC aZ bt e5 HT:X)(h:ae)(U:Nat)(N:aP)(aK:aP)(R:aP):Prop:=vm s h U HT λa b c=>af (cp a 0) λd=>bu d (af (wu b HT) λe=>af (cp e 0) λf=>af (cp e 1) λg=>b1 [(ad 0),(ad 0)] b c λi j k=>b1 [(ad 0),(.int .u64 0)] j k λl m n=>af (aU m 2 i f) λo=>af (aU o 2 l g) λp=>aR 2 p l λq=>aX s 262 [aC,q] p n λr t aI=>af (cp r 0) λv=>af (cp r 1) λw=>af (dv .not w) λx=>bu x (R [aC,ay,(ad 12),e5,HT] t aI) (af (im (.array 2 1) i (ad 0)) λy=>bS t y λz=>af (im (.array 2 1) i (ad 1)) λbD=>bS t bD λbU=>af (cU [(ad 0),(ad 0),(ad 0)] [(0,1,z),(1,1,bU),(2,1,v)]) λbL=>dS (eV 1 [(ad 0),(ad 0),(ad 0)] [(0,3,bL)]) t aI λbk bV ca=>dD (dU (dM 3 bV ca e5 bk)) λbO cM cG=>N [aC,aZ,bt,bO,HT] cM cG)) (aK [aC,aZ,bt,e5,HT] b c)
def ag3:c0:=λs ah t1 h U K=>aX s 259 [ah] h U λa b c=>af (dv .not a) λd=>bu d (K (.tuple ⟨[ay,(ad 8)]⟩) b c) (dS (.ok .map) b c λe f g=>cO t1 λi=>bC (bN Q s G1 172 0) [ah,ay,(ad 0),e,t1,i,(ad 0)] f g [(0,λj k l=>dD (sk k l (a8 j 3)) λm n o=>bC (bN Q s G1 172 1) [(a8 j 0),(a8 j 1),(a8 j 2),ay,m] n o [(2,λp q r=>aX s 263 [(a8 p 3),(.func (.func 264) #[] #[])] q r λt aI v=>K (.tuple ⟨[(a8 p 3),(ad 0)]⟩) aI v)] (λw x y=>K (.tuple ⟨[(a8 w 1),(a8 w 2)]⟩) x y))] (λ_ _ _=>False))
theorem auW{E g C fT:X}{N D:aP}:bN Q s G1 172 0 [aC,aZ,bt,E,g,C,fT] h U N [(0,D)] R=aea s aC aZ bt E g C fT h U N D R:=by kernel_rfl
theorem auX{C g:X}{N D:aP}:bN Q s G1 172 1 [aC,aZ,bt,C,g] h U N [(2,D)] R=aeb s aC aZ bt C g h U N D R:=by kernel_rfl
theorem axy:c4 172 ag3:=c5 G1
theorem Gm{n:Nat}(h:n<2147483648):wid (n:Int)=oM n:=by unfold wid oM;rw[show(n:Int) / 18446744073709551616=0 by omega,show(n:Int) % 18446744073709551616=(n:Int) by omega]
def ag4(es:aa dB)(v:X)(r:Nat)(au:ae)(m:Nat)(aF:aa X)(ac:ae)(Y:Nat):Prop :=
 ∃i,m=es.length-i/\i<=es.length/\aF=[.int .i64 1,.slice none 0 0,.int .i64 0,.map (some r),v,(es.length:X),(i:X)]/\u ac r=some (.map (ki 0 (h9 [] (es.take i))) (h9 [] (es.take i)).length)/\r<Y/\aA r au ac
def azp(L:aa dB)(r it:Nat)(au:ae)(m:Nat)(aF:aa X)(ac:ae)(Y:Nat):Prop :=
 ∃seen acc o,m=(Go.Ax.leftOf seen (ki 0 L)).length/\aF=[.int .i64 1,.slice none 0 0,.int .i64 0,o,bf it]/\d1 ac o jX 3 acc (it+1) Y/\(acc=[]->o = .slice none 0 0)/\(acc++(Go.Ax.leftOf seen (ki 0 L)).map wG).Perm L/\u ac it=some (.iter (some r) L.length seen L.length)/\u ac r=some (.map (ki 0 L) L.length)/\it<Y/\aA r au ac
theorem aec{es:aa dB}(aG:fF h U v jX es)(oa:∀x∈es,lK x)(bA:es.length<=120):
  aH Q false 172 [.int .i64 1,v] h U (λr ac Y=>∃v2 l,r = .tuple ⟨[v2,.int .i64 0]⟩/\d1 ac v2 jX 3 l U Y/\(l=[]->v2 = .slice none 0 0)/\l.Perm (h9 [] es)/\l.Pairwise (λx y=>¬jY y x<0)/\aA U h ac):=by
 refine axy ?_;obtain⟨a,cap,rfl,a1⟩:=id aG;unfold ag3;refine(Al J J).mono ?_;rintro _ h U ⟨rfl,rfl,rfl⟩;refine aD ?_;refine bC.mk (ag4 es (.slice a es.length cap) U h) es.length ⟨0,J,J,rfl,aT _ _ _,J,aN⟩ ?_;rintro m _ h1 I ⟨i,rfl,aj,rfl,bp,bb,hk⟩;rw[auW];unfold aea;refine aD ?_;refine⟨λct=>?_,λeM=>?_⟩
 ·obtain⟨x,aY⟩:=dR ct;have M:=oa x (kz aY);obtain⟨w,b0,vq⟩:=uK M.2.2;have D:∀y∈h9 [] (es.take i),lK y:=Ju (λy cd=>oa y (List.mem_of_mem_take cd)) (λy cd=>by cases cd);obtain⟨_,b,aS,ro,kZ,cs,vv,SJ,DZ⟩:=(aG.T hk (by omega:U<=I)).at aY;cases SJ;have rH:hV (some 3) (i*3) (bd jX es++cs) = .ok (.agg ⟨[(x.1:X),(x.2.1:X),(x.2.2:X)]⟩):=D0 (enc:=jX) (k:=3) (λ_=>rfl) aY;refine cQ @DZ @rH ?_;refine(Ak (by rw[b0];unfold kq;omega)).mono ?_;rintro _ ap bX ⟨rfl,E,fg⟩;have g1:=E (I+1) J;rw[aT]at g1;rw[b0,Gm vq];unfold oM;refine bh @g1 ?_;have ci:h9 [] (es.take (i+1))=ix x (h9 [] (es.take i)):=by rw[<-W7,ho,aY];rfl
  have fin:∀aM bW,bX<=bW->(∀c,c<bX->u aM c=u ap c)->∃bG,bG<es.length-i/\ag4 es (.slice (some ⟨b,0,aS⟩) es.length cap) U h bG [.int .i64 1,.slice none 0 0,.int .i64 0,.map (some U),.slice (some ⟨b,0,aS⟩) es.length cap,(es.length:X),.int .i64 (IntKind.wrap .i64 ((i:Int)+1))] (F aM U (.map (ki 0 (ix x (h9 [] (es.take i)))) (ix x (h9 [] (es.take i))).length)) bW:=λaM bW sN C =>
   ⟨es.length-(i+1),J,i+1,rfl,J,by rw[cv (J:i<1000000000000)],by rw[ci];exact aT _ _ _,J,aN⟩
  have g2:=(E U J).trans ((ar J).trans ((ar J).trans ((ar J).trans ((ar J).trans bp))));rw[show Value.agg ⟨[(x.1:X),(x.2.1:X)]⟩=mh x from rfl,at3 Rb M D ((ar J).trans ((ar J).trans g2))];cases bE:pU x (h9 [] (es.take i))with
  |none =>
   refine bh @g1 ?_;rw[show Value.agg ⟨[(x.1:X),(x.2.1:X)]⟩=mh x from rfl,show Value.agg ⟨[.int .i64 0,.int .u64 (w:Int)]⟩ = .agg ⟨oM w⟩from rfl,
    adh Rb M D (((ar J).trans ((ar J).trans ((ar J).trans ((ar J).trans g2))))) (w:=w) (by rw[bE];show w=x.2.2.toNat;omega)]
   exact fin _ _ J λc a1=>ab
  |some p =>
   obtain⟨q,y⟩:=p;have hsy:=D y (kz (Km bE).1);obtain⟨g,ej,TQ⟩:=uK hsy.2.2;unfold oM;refine bh @g1 ?_;rw[show y.2.2.toNat=g by omega,show Value.agg ⟨[.int .i64 0,.int .u64 (g:Int)]⟩ = .agg ⟨wid (g:Int)⟩ by rw[Gm TQ];rfl,show Value.agg ⟨[.int .i64 0,.int .u64 (w:Int)]⟩ = .agg ⟨wid (w:Int)⟩ by rw[Gm vq];rfl];refine(Qe (.inl rfl) (by unfold ln;omega) (by unfold ln;omega)).mono ?_;rintro _ aM bW ⟨rfl,C,P⟩;have e:jJ 1 (g:Int) (w:Int)=((min g w:Nat):Int):=by unfold jJ;omega
   have c6:=C bX J;rw[ar J,ar J,aT]at c6;have ed:=(C (I+1) J).trans ((ar J).trans ((ar J).trans ((ar J).trans ((ar J).trans g1))));have f4:=(C U J).trans ((ar J).trans ((ar J).trans ((ar J).trans ((ar J).trans g2))));rw[e,Gm J];unfold oM;refine cQ @c6 @ed ?_;rw[show Value.agg ⟨[(x.1:X),(x.2.1:X)]⟩=mh x from rfl,show Value.agg ⟨[.int .i64 0,.int .u64 ((min g w:Nat):Int)]⟩ = .agg ⟨oM (min g w)⟩from rfl,
    adh Rb M D ((ar J).trans f4) (w:=min g w) (by rw[bE];show min g w=(bif lk x.2.2 y.2.2 then x.2.2 else y.2.2).toNat;rw[re];grind)]
   exact fin _ _ J λc a1=>(ar J).trans ((C c J).trans ((ar J).trans ((ar J).trans ((ar J).trans (ar J)))))
 ·have:i=es.length:=J
  subst this;rw[hC]at bp;show dD (sk h1 I (.map (some U))) _;have D:∀y∈h9 [] es,lK y:=Ju oa (λy cd=>by cases cd);have gz:(h9 [] es).length<=120:=by
   have:=OB es []
   grind
  generalize h9 [] es=L at *
  obtain⟨Z,axz⟩:=Wn 0 L;obtain⟨wN,Ss⟩:=WF 0 L D;refine ads bp (bC.mk (azp L U I h) (ki 0 L).length ⟨[],[],_,by rw[NV],rfl,.inl ⟨rfl,rfl⟩,λ_=>rfl,by rw[NV,wN];exact Ce _,aT _ _ _,(ar J).trans bp,J,aN⟩ ?_);rintro m _ ap bX ⟨seen,acc,o,rfl,rfl,aq,cL,bg,hit,nr,ct,E⟩;rw[auX];unfold aeb;refine adt hit nr (λe bP=>by have:=axz e bP;omega) rfl (λSz=>?_) λe bP V=>?_
  ·refine aD ?_;rw[Sz]at bg;simp only[zL,h6]at bg;rcases id aq with⟨rfl,rfl⟩|⟨pa,hR,fm,rfl,TR⟩
   ·refine anE ⟨_,[],rfl,.inl ⟨rfl,rfl⟩,λ_=>rfl,bg,List.Pairwise.nil,E⟩
   ·have:=bg.length_eq;refine(arx rfl J fm TR).mono ?_;rintro _ aM bW ⟨P,⟨bY,K,nn,gK⟩,pS⟩;exact⟨_,bY,rfl,.inr ⟨pa,J,J,by rw[K.length_eq],gK⟩,λe=>cL (by rw[e]at K;exact List.nil_perm.1 K),K.trans bg,nn,λc a1=>by rw[pS c J J];exact E c a1⟩
  ·obtain⟨g,TQ,ej,azq,Sr⟩:=Ss e V;have oW:=Ob Z bP;have mn:=oW.length_eq;simp only[mb]at mn;refine aD ?_;rw[XU (aT _ _ _) ((ar J).trans nr) Z V,azq,Sr];have sC:=oW.map wG;simp only[uB]at sC;generalize aY:wG e=x at *
   rw[show mh x = .agg ⟨[(x.1:X),(x.2.1:X)]⟩from rfl];unfold oM;refine aD ?_;rw[show Value.agg ⟨[.int .i64 0,.int .u64 (g:Int)]⟩ = .agg ⟨wid (g:Int)⟩ by rw[Gm TQ];rfl];refine(Xc (x:=(g:Int)) (by unfold ln;omega)).mono ?_;intro i6 aM bW hr3;obtain⟨cf,C,P⟩:=hr3;have yD:sv (g:Int)=true:=by unfold sv;exact gP ⟨J,J⟩
   rw[yD]at cf;have g1:=(C bX J).trans (ar J);rw[cf];rw[show(if true=true then(g:Int)else 0)=(g:Int)from rfl];refine bh @g1 ?_;have Mj:=bg.length_eq;simp only[jd,gn]at Mj;refine lJ (enc:=jX) (ao:=I+1) (λ_=>rfl) (λ_=>rfl) J (aq.T (λc h1 ap=>(ar J).trans ((C c J).trans ((ar J).trans ((ar J).trans ((ar J).trans ((ar J).trans (ar J))))))) J) J x (aT _ _ _) (by show[Value.int .i64 x.1,(x.2.1:X),(g:X)]=jX x;unfold jX;rw[ej]) (by omega) ?_;intro v4 bc HU fI;have hj:∀c,c<I+1->c≠I->u bc c=u ap c:=λc h1 ap=>(fI c h1).trans ((ar J).trans ((C c J).trans ((ar J).trans ((ar J).trans ((ar J).trans ((ar J).trans (ar J)))))));refine⟨_,?_,seen++[e.born],acc++[x],v4,rfl,rfl,HU,λe=>absurd e (by simp),?_,?_,(hj U J J).trans nr,J,λc a1=>(hj c J J).trans (E c a1)⟩
   ·omega
   ·rw[kA];exact(List.Perm.append_left acc sC.symm).trans bg
   ·refine(fI I J).trans ((ar J).trans ((C I J).trans ((ar J).trans ((ar J).trans ((ar J).trans ((ar J).trans (aT _ _ _)))))))
theorem akQ(aG:fF h U v cX aV)(d7:N<=2147483648)(M:∀g∈aV,gT N g)(bA:aV.length<=120):
  aH Q s 172 [.int .i64 1,v] h U (λr ac Y=>∃v2 cs,r = .tuple ⟨[v2,.int .i64 0]⟩/\d1 ac v2 cX 3 cs U Y/\afM N aV cs/\aA U h ac/\U<=Y):=by
 have oa:∀x∈aV.map dE,lK x:=λx aY=>by obtain⟨g,a9,rfl⟩:=fz.1 aY;exact ZH d7 (M g a9)
 have hv2:fF h U v jX (aV.map dE):=by obtain⟨a,cap,rfl,a1⟩:=aG;refine⟨a,cap,by rw[gn],λZ=>?_⟩;rw[<-Ks];exact a1 (λe=>Z (by rw[e];rfl))
 have K:=aec hv2 oa (by rw[gn];exact bA);obtain⟨-,bg,aq⟩:=OC ZD (h9 [] (aV.map dE));generalize qr jY (h9 [] (aV.map dE))=L at bg aq;obtain⟨D,tM⟩:=axx N aV d7 M bg aq;have C:∀l:aa dB,l.Perm (h9 [] (aV.map dE))->l.Pairwise (λx y=>¬jY y x<0)->l=L:=λl h1 ap=>OA (R:=λx y=>¬jY y x<0) (λx y=>akh x y) (h1.trans bg.symm) ap aq
 by_cases eD:L=[]
 ·subst eD;refine aH.plain (v:=.tuple ⟨[.slice none 0 0,.int .i64 0]⟩) rfl (K.mono ?_) ⟨_,_,rfl,.inl ⟨rfl,rfl⟩,D,aN,J⟩;rintro _ ac Y ⟨v2,l,rfl,P,cL,I,E,V⟩;cases C l I E;rw[cL rfl];exact⟨rfl,V⟩
 ·refine aH.m5 (val:=λb=>.tuple ⟨[.slice (some ⟨b,0,some 3⟩) L.length L.length,.int .i64 0]⟩) (cs:=bd jX L) (Fu (λ_=>rfl) L) W9 (K.mono ?_) ⟨_,_,rfl,.inr ⟨U,J,J,by rw[gn],?_⟩,D,aN,J⟩
  ·rintro _ ac Y ⟨v2,l,rfl,P,cL,I,E,V⟩;cases C l I E;rcases P with⟨e,_⟩|⟨b,hR,fm,rfl,aO⟩
   ·exact absurd e eD
   ·exact⟨b,rfl,hR,aO,V⟩
  ·rw[aT,Ks,tM]
def yI(N:Nat)(aV:aa GE)(U:Nat)(h:ae):bR:=λr ac Y=>∃v2 cs,r = .agg ⟨[(N:X),v2]⟩/\d1 ac v2 cX 3 cs U Y/\jq (aV.map dE) (cs.map dE)/\(∀g∈cs,gT N g)/\cs.length<=aV.length/\aA U h ac/\U<=Y
theorem Qf(V:fF h U v cX aV)(d7:N<=2147483648)(E:∀g∈aV,gT N g)(bA:aV.length<=120):
  aH Q s 98 [.agg ⟨[(N:X),v]⟩] h U (yI N aV U h):=by
 refine aux ?_;obtain⟨a,cap,rfl,a1⟩:=id V;unfold afv;refine aD ?_;have hu:∀{eF dP:fJ},aA U h (F (F h U eF) (U+1) dP):=aN
 refine(akQ (V.T hu J) d7 E bA).mono ?_;rintro r Z lq ⟨v2,M,rfl,D,C,I,dO⟩;have K:=(I U J).trans (ar J);have L:=I (U+1) J;rw[aT]at K L;obtain⟨a2,bX,P,rfl⟩:=D.form;refine cQ @K @L ?_;have aj:jq (aV.map dE) (M.map dE):=C.can;refine⟨_,M,rfl,?_,aj,C.ok,C.len,aN,J⟩;rcases D with D|⟨b,Z,ap,e,aO⟩
 ·exact .inl D
 ·exact .inr ⟨b,J,ap,e,ab⟩
def lv(n m:Int):al:=decide (0<=n/\n<=m)
theorem li(h:0<=n/\n<=m):lv n m=true:=gP h
theorem pA(h:¬(0<=n/\n<=m)):lv n m=false:=hD h
theorem FE:aH Q s 277 [(n:X),(m:X)] h U (λr ac Y=>r = .bool (lv n m)/\ac=h/\Y=U):=by
 refine am4 ?_;unfold abr;refine aD ?_;refine⟨λC=>?_,λC=>by rw[pA J]⟩
 by_cases g:m<n
 ·rw[gP g,pA J];rfl
 ·rw[hD g,li J];rfl
theorem Fw:aH Q s 156 [(n:X),(m:X)] h U (λr ac Y=>r = .bool (lv n m)/\ac=h/\Y=U):=by
 refine akB ?_;unfold Zp;refine aD ?_;refine⟨λC=>?_,λC=>by rw[pA J]⟩
 by_cases g:m<n
 ·rw[gP g,pA J];rfl
 ·rw[hD g,li J];rfl
theorem ON:aH Q s 199 [(n:X),(m:X)] h U (λr ac Y=>r = .bool (decide (1<=n/\n<=m))/\ac=h/\Y=U):=by
 refine ana ?_;unfold abw;refine aD ?_;refine⟨λg=>?_,ab⟩
 by_cases C:m<n
 all_goals grind
def Hj(d:Int):al:=decide (d<0\/2147483647<d)
theorem akR{d:Int}:aH Q s 279 [(d:X)] h U (dJ (.bool (Hj d)) U h):=by refine am5 ?_;unfold abs;refine aD ?_;refine⟨λg=>⟨by unfold Hj;grind,aN,J⟩,λg=>⟨?_,aN,J⟩⟩;unfold Hj;grind
def IxJ{az:Type}(p:az->al)(l:aa az)(v qW:X)(U:Nat)(h:ae)(m:Nat)(aF:aa X)(ac:ae)(Y:Nat):Prop:=∃i,m=l.length-i/\i<=l.length/\aF=[v,qW,.int .i64 0,(l.length:X),(i:X)]/\aA U h ac/\U<=Y/\∀x∈l.take i,p x=false
theorem aed{p:az->al}{l:aa az}{x:az}(g:l[i]? = some x)(h:∀y∈l.take i,p y=false)(D:p x=false):∀y∈l.take (i+1),p y=false:=λy C=>by
 rw[ho,g]at C
 grind
theorem anG{p:Int->al}{l:aa Int}(V:cr h U v cq l)(bA:l.length<1000000)(bE:∀(x:Int) (h:ae) (U:Nat),aH Q s f [(x:X)] h U (dJ (.bool (p x)) U h)):
  aH Q s 278 [v,.func (.func f) ⟨[]⟩ ⟨[]⟩] h U (dJ (.bool (l.any p)) U h):=by
 refine aqX ?_;obtain⟨a,cap,rfl,a1⟩:=id V;refine(aqY (K:=λr ac Y=>aA U h ac/\U<=Y/\∃i:Int,r = (i:X)/\(i<0↔l.any p=false)) ?_).mono ?_
 ·unfold adC;refine aD ?_;refine bC.mk (IxJ p l (.slice a l.length cap) (.func (.func f) ⟨[]⟩ ⟨[]⟩) U h) l.length ⟨0,rfl,J,rfl,aN,J,ab⟩ ?_;rintro m _ ac Y ⟨i,rfl,aj,rfl,D,g,C⟩;rw[am6];unfold Zk;refine aD ?_;refine⟨λE=>?_,λeM=>?_⟩
  ·obtain⟨x,I⟩:=dR E;obtain⟨_,b,aS,ro,c1,aO,aW,L⟩:=V.at I;cases aW;rw[hM]at L;simp(disch:=omega)only[bl,(D b aO).trans L,hN I,seval];refine(bE x ac Y).mono ?_;rintro r ap jh ⟨rfl,Z,M⟩;rw[Dt];refine⟨λP=>?_,λP=>?_⟩
   ·refine⟨aN,J,_,rfl,⟨λh=>absurd h J,λh=>?_⟩⟩
    grind
   ·refine bh (cv (J:i<1000000000000)) ?_;exact⟨l.length-(i+1),J,i+1,rfl,J,rfl,aN,J,aed I C P⟩
  ·have:i=l.length:=J
   subst this;rw[hC]at C;exact⟨D,g,_,rfl,ab⟩
 ·rintro r ac Y ⟨D,g,i,rfl,aj⟩;refine aD ?_;refine⟨?_,D,g⟩
  grind
abbrev cx:=Int × Int × Int × Int
def yJ(m:cx):aa X:=[(m.1:X),(m.2.1:X),(m.2.2.1:X),(m.2.2.2:X)]
def ww(m:cx):al:=(lv m.2.1 63&&lv m.2.2.1 63&&lv m.2.2.2 63)&&decide (0<m.1/\m.1<=5)
theorem akS{m:cx}:aH Q s 159 [.agg ⟨yJ m⟩] h U (dJ (.bool (ww m)) U h):=by
 refine ane ?_;unfold aby yJ;have D:∀{o},aA U h (F h U o):=aN
 have no:(lv m.2.1 63&&lv m.2.2.1 63&&lv m.2.2.2 63)=false->∀{o},Cl s (dJ (.bool (ww m)) U h) (bf U) (.bool true) (F h U o) (U+1):=λe {o}=>by unfold Cl;refine aD ?_;exact⟨by unfold ww;grind,D,J⟩
 refine aD ?_;refine Fw.mono ?_;rintro r I E ⟨rfl,C,g⟩;rw[C,g];cases V:lv m.2.1 63 with
 |false =>
  refine aD ?_;exact no ab
 |true =>
  refine aD ?_;refine Fw.mono ?_;rintro r I E ⟨rfl,C,g⟩;rw[C,g];cases P:lv m.2.2.1 63 with
  |false =>
   refine aD ?_;exact no ab
  |true =>
   refine aD ?_;refine Fw.mono ?_;rintro r I E ⟨rfl,C,g⟩;rw[C,g];cases M:lv m.2.2.2 63 with
   |false =>
    refine aD ?_;exact no ab
   |true =>
    unfold Cl;refine aD ?_;have L:ww m=decide (0<m.1/\m.1<=5):=by unfold ww;grind
    refine⟨λK=>⟨?_,D,J⟩,λK=>⟨?_,D,J⟩⟩
    all_goals grind
theorem ajg{m:cx}:aH Q s 254 [.agg ⟨yJ m⟩] h U (dJ (.bool (!ww m)) U h):=by refine akA ?_;unfold Zn yJ;refine aD ?_;refine(akS ).mono ?_;rintro r D E ⟨rfl,C,g⟩;refine aD ?_;exact⟨rfl,aN,J⟩
theorem anH{p:cx->al}{l:aa cx}(P:cr h U v yJ l)(bA:l.length<1000000)(bE:∀(x:cx) (h:ae) (U:Nat),aH Q s f [.agg ⟨yJ x⟩] h U (dJ (.bool (p x)) U h)):
  aH Q s 253 [v,.func (.func f) ⟨[]⟩ ⟨[]⟩] h U (dJ (.bool (l.any p)) U h):=by
 refine aq5 ?_;obtain⟨a,cap,rfl,a1⟩:=id P;refine(aq6 (K:=λr ac Y=>aA U h ac/\U<=Y/\∃i:Int,r = (i:X)/\(i<0↔l.any p=false)) ?_).mono ?_
 ·unfold adN;refine aD ?_;refine bC.mk (IxJ p l (.slice a l.length cap) (.func (.func f) ⟨[]⟩ ⟨[]⟩) U h) l.length ⟨0,rfl,J,rfl,aN,J,ab⟩ ?_;rintro m _ ac Y ⟨i,rfl,aj,rfl,D,g,C⟩;rw[anf];unfold Zo;refine aD ?_;refine⟨λE=>?_,λZ=>?_⟩
  ·obtain⟨x,I⟩:=dR E;obtain⟨_,b,aS,ro,c1,aO,aW,a9⟩:=P.at I;cases aW;simp(disch:=omega)only[bl,(D b aO).trans a9,D1 (enc:=yJ) (k:=4) (λ_=>rfl) I,seval];refine(bE x ac Y).mono ?_;rintro r ap jh ⟨rfl,V,L⟩;rw[Dt];refine⟨λM=>?_,λM=>?_⟩
   ·refine⟨aN,J,_,rfl,⟨λh=>absurd h J,λh=>?_⟩⟩
    grind
   ·refine bh (cv (J:i<1000000000000)) ?_;exact⟨l.length-(i+1),J,i+1,rfl,J,rfl,aN,J,aed I C M⟩
  ·have:i=l.length:=J
   subst this;rw[hC]at C;exact⟨D,g,_,rfl,ab⟩
 ·rintro r ac Y ⟨D,g,i,rfl,aj⟩;refine aD ?_;refine⟨?_,D,g⟩
  grind
def iL(k n src len:Int)(bK:aa Int):Int :=
 if k<=0\/5<k then 8 else if ¬(0<=n/\n<=4096)then 3 else if k=4/\¬(0<=len/\len<=8192)then 3 else if(k=4\/k=1\/k=2)/\¬(0<=src/\src<=n-1)then 3
 else if 65536<bK.length then 5 else if bK.any Hj=true then 7 else 0
theorem jG(g : -9223372036854775808<=n)(C:n<=9223372036854775807):IntKind.wrap .i64 n=n:=by rw[adx];omega
theorem JJ(aG:cr h U v cq bK):aH Q s 187 [.agg ⟨[(k:X),(n:X),(src:X),(len:X),v]⟩] h U (dJ (.int .i64 (iL k n src len bK)) U h):=by
 refine am3 ?_;obtain⟨a,cap,rfl,a1⟩:=id aG;unfold abq;have cP:∀{o},aA U h (F h U o):=aN
 have fin:∀{e:Int},iL k n src len bK=e->∀{o},dJ (.int .i64 (iL k n src len bK)) U h (e:X) (F h U o) (U+1):=λ{e} bP {o}=>⟨by rw[bP],cP,J⟩
 have last:¬(k<=0\/5<k)->(0<=n/\n<=4096)->¬(k=4/\¬(0<=len/\len<=8192))->¬((k=4\/k=1\/k=2)/\¬(0<=src/\src<=n-1))->zT s (dJ (.int .i64 (iL k n src len bK)) U h) (bf U) (F h U (.cells [(k:X),(n:X),(src:X),(len:X),.slice a bK.length cap] false)) (U+1):=λC V aM D=>by
  have e:iL k n src len bK=if 65536<bK.length then 5 else if bK.any Hj=true then 7 else 0:=by unfold iL;omega
  unfold zT;refine aD ?_;refine⟨λP=>fin J,λP=>?_⟩;refine(anG (aG.T cP J) J (λx h U=>akR)).mono ?_;rintro r C a5 ⟨rfl,M,dO⟩;refine aD ?_;refine⟨λcy=>⟨ab,aN,J⟩,λcy=>⟨?_,aN,J⟩⟩
  grind
 have gE:(k<=0\/5<k)->∀{o},FD s (dJ (.int .i64 (iL k n src len bK)) U h) (bf U) (.bool true) (F h U o) (U+1):=λM {o}=>by unfold FD;refine aD ?_;exact fin (by unfold iL;omega)
 refine aD ?_;refine⟨λau=>gE J,λau=>?_⟩
 by_cases P:5<k
 ·rw[gP P];exact gE J
 rw[hD P];have M:¬(k<=0\/5<k):=J
 unfold FD;refine aD ?_;refine FE.mono ?_;rintro r C a5 ⟨rfl,I,K⟩;rw[I,K]
 by_cases Z:0<=n/\n<=4096
 case neg =>
  rw[pA Z];refine aD ?_;exact fin (by unfold iL;omega)
 rw[li Z];have b0:IntKind.wrap .i64 (n-1)=n-1:=jG J J;have g:(k=4\/k=1\/k=2)->¬(k=4/\¬(0<=len/\len<=8192))->aH Q s 277 [(src:X),.int .i64 (n-1)] (F h U (.cells [(k:X),(n:X),(src:X),(len:X),.slice a bK.length cap] false)) (U+1) λx41 E L=>af (dv .not x41) λTS=>bu TS (dJ (.int .i64 (iL k n src len bK)) U h (.int .i64 3) E L) (zT s (dJ (.int .i64 (iL k n src len bK)) U h) (bf U) E L):=λe1 D=>by
  refine FE.mono ?_;rintro r C a5 ⟨rfl,I,K⟩;rw[I,K]
  by_cases aq:0<=src/\src<=n-1
  ·rw[li aq];refine aD ?_;exact last M Z D J
  ·rw[pA aq];refine aD ?_;exact fin (by unfold iL;grind)
 refine bh @b0 ?_;refine⟨λD=>?_,λD=>?_⟩
 ·have D:k=4:=ab
  refine FE.mono ?_;rintro r C a5 ⟨rfl,I,K⟩;rw[I,K]
  by_cases bA:0<=len/\len<=8192
  ·rw[li bA];refine bh @b0 ?_;exact g J J
  ·rw[pA bA];refine aD ?_;exact fin (by unfold iL;omega)
 ·have D:k≠4:=ab
  refine⟨λC=>?_,λC=>⟨λV=>?_,λV=>?_⟩⟩
  ·have C:k=1:=ab
   exact g J J
  ·have V:k=2:=ab
   exact g J J
  ·have C:k≠1:=ab
   have V:k≠2:=ab
   exact last M Z J J
def lf(n:Int)(es:aa iy):Int:=if n<0 then 3 else if 4096<n\/65536<es.length then 5 else if es.any (yH n)=true then 3 else if es.any Dx=true then 7 else 0
theorem ajh(h:lf n es=0):es.length<=65536:=by unfold lf at h;omega
theorem afN(h:lf n es=0)(g:es.length<=60\/65536<es.length):es.length<=60:=g.elim id λC=>by have:=ajh h;omega
theorem J3:lf n es=0↔GF n es:=by
 unfold lf GF;constructor
 ·intro h
  split at h
  ·cases h
  ·split at h
   ·cases h
   ·split at h
    ·cases h
    ·split at h
     ·cases h
     ·rename_i L K E D
      refine⟨J,J,J,λe g C=>E (xP.2 ⟨e,g,ZF.2 C⟩),λe g C=>D (xP.2 ⟨e,g,ZG.2 C⟩)⟩
 ·rintro⟨L,K,E,D,I⟩;rw[if_neg J,if_neg J,if_neg,if_neg]
  ·intro h;obtain⟨e,g,C⟩:=xP.1 h;exact I e g (ZG.1 C)
  ·intro h;obtain⟨e,g,C⟩:=xP.1 h;exact D e g (ZF.1 C)
theorem Qg(aG:fF h U v iz es):
  aH Q s 83 [.agg ⟨[(n:X),v]⟩] h U (dJ (.int .i64 (lf n es)) U h):=by
 refine aus ?_;obtain⟨a,cap,rfl,a1⟩:=id aG;unfold right;refine aD ?_;have M:aA U h (F (F (F h U (.cells [(n:X),.slice a es.length cap] false)) (U+1) (.cells [.nilFunc] false)) (U+1) (.cells [.func (.func 163) ⟨[]⟩ ⟨[bf U]⟩] false)):=aN
 have no:∀{e:Int},lf n es=e->∀{ac:ae} {Y:Nat},aA U h ac->U<=Y->dJ (.int .i64 (lf n es)) U h (e:X) ac Y:=λ{e} bP {ac Y} P D=>⟨by rw[bP],P,D⟩
 refine⟨λV=>no (by unfold lf;omega) M J,λV=>⟨λap=>no (by unfold lf;omega) M J,λap=>⟨λaM=>no (by unfold lf;omega) M J,λaM=>?_⟩⟩⟩;refine(abN (yH n) (aG.T M J) J (λg a9 ac Y K P D C=>?_)).mono ?_
 ·have L:=P U J;have g1:=P (U+1) J;rw[ar J,ar J,aT]at L;rw[aT]at g1;have I:∀{o},aA Y ac (F ac Y o):=aN
  refine aD ?_;refine aqT ?_;unfold adz iz;refine bh @g1 ?_;refine abm ?_;unfold Re;refine bh @L ?_;refine⟨λV=>C _ _ _ (by unfold yH;grind) I J,λV=>⟨λap=>C _ _ _ (by unfold yH;grind) I J,λap=>?_⟩⟩;refine bh @g1 ?_;refine abm ?_;unfold Re;refine bh @L ?_;refine⟨λaM=>C _ _ _ (by unfold yH;grind) I J,λaM=>?_⟩;refine C _ _ _ ?_ I J;unfold yH
  grind
 ·rintro r bc D4 ⟨rfl,E,Z⟩;have L:=E U J;rw[ar J,ar J,aT]at L;have gG:=M.trans E J;refine bh @L ?_;refine⟨λb3=>no (by unfold lf;grind) gG J,λb3=>?_⟩;refine(abN Dx ((aG.T M J).T E Z) J (λg a9 ac Y K P D C=>?_)).mono ?_
  ·have I:∀{o},aA Y ac (F ac Y o):=aN
   refine aD ?_;refine aqU ?_;unfold adA iz;refine aD ?_;refine⟨λV=>C _ _ _ (by unfold Dx;grind) I J,λV=>C _ _ _ (by unfold Dx;grind) I J⟩
  ·rintro r cy Bn ⟨rfl,ji,n2⟩;have zs:=gG.trans ji J;refine aD ?_;refine⟨λev=>no (by unfold lf;grind) zs J,λev=>no ?_ zs J⟩;unfold lf;grind
def pB(e:GE):GE:=⟨e.t,e.f,e.w⟩
def AT(e:GE):GE:=⟨e.f,e.t,1⟩
def K6(e:GE)(b:al)(U:Nat)(h:ae):bR:=dJ (.tuple ⟨[.agg ⟨[(e.f:X),(e.t:X),(e.w:X)]⟩,.bool b]⟩) U h
theorem anI:aH Q s 365 [.agg ⟨[(e.f:X),(e.t:X),(e.w:X)]⟩] h U (K6 (pB e) true U h):=by refine aq2 ?_;unfold adJ;refine aD ?_;exact⟨rfl,aN,J⟩
theorem anJ:aH Q s 280 [.agg ⟨[(e.f:X),(e.t:X),(e.w:X)]⟩] h U (K6 (AT e) true U h):=by refine aq1 ?_;unfold adH;refine aD ?_;exact⟨rfl,aN,J⟩
def CX(e:GE):al:=decide (e.f≠e.t)
theorem akT:aH Q s 276 [.agg ⟨[(e.f:X),(e.t:X),(e.w:X)]⟩] h U (K6 e (CX e) U h):=by
 refine am9 ?_;unfold abt;refine aD ?_;refine⟨?_,aN,J⟩;have:(!((e.f:Int) == (e.t:Int)))=CX e:=by
  unfold CX
  grind
 grind
def MaJ(N cj cN f:Nat)(kQ:X)(p:GE->al)(m:GE->GE)(aV:aa GE)(U:Nat)(h:ae)(q:Nat)(aF:aa X)(ac:ae)(Y:Nat):Prop :=
 ∃(i:Nat) (o:X),q=aV.length-i/\i<=aV.length/\aF=[.func (.func f) ⟨[]⟩ ⟨[]⟩,bf cj,bf cN,o,kQ,(aV.length:X),(i:X)] /\
  u ac cj=some (.cells [(N:X),kQ] false)/\u ac cN=some (.cells [.int .i64 0,.slice none 0 0] false)/\d1 ac o cX 3 (((aV.take i).filter p).map m) (U+1+1) Y/\aA U h ac/\U+1+1<=Y
theorem Rl{m:GE->GE}(aG:fF h U v cX aV)(d7:N<=2147483648)(bA:aV.length<=120)(hF:∀g∈(aV.filter p).map m,gT N g)(bE:∀(e:GE) (h:ae) (U:Nat),aH Q s f [.agg ⟨[(e.f:X),(e.t:X),(e.w:X)]⟩] h U (K6 (m e) (p e) U h)):
  aH Q s 275 [.agg ⟨[(N:X),v]⟩,.func (.func f) ⟨[]⟩ ⟨[]⟩] h U (yI N ((aV.filter p).map m) U h):=by
 refine axj ?_;obtain⟨a,cap,rfl,L⟩:=id aG;unfold agS;refine aD ?_;have Bo:((aV.filter p).map m).length<=aV.length:=ab
 have bT:∀{o a0},aA U h (F (F h U o) (U+1) a0):=aN
 refine bC.mk (MaJ N U (U+1) f (.slice a aV.length cap) p m aV U h) aV.length ⟨0,_,rfl,J,rfl,ab,ab,.inl ab,bT,J⟩ ?_;rintro q _ h1 lq ⟨i,o,rfl,aj,rfl,g1,ed,S,Z,dO⟩;rw[auA];unfold adG;refine aD ?_;refine⟨λct=>?_,λeM=>?_⟩
 ·obtain⟨e,bP⟩:=dR ct;obtain⟨_,b,aS,ro,c1,cs,aO,aW,a9⟩:=aG.at bP;cases aW;have rH:hV (some 3) (i*3) (bd cX aV++cs) = .ok (.agg ⟨[(e.f:X),(e.t:X),(e.w:X)]⟩):=D0  (k:=3) (λ_=>rfl) bP;simp(disch:=omega)only[bl,(Z b aO).trans a9,rH,seval];refine(bE e _ _).mono ?_;rintro r D jh ⟨rfl,I,V⟩;have E:aA lq h1 D:=aN
  have ci:((aV.take (i+1)).filter p).map m=((aV.take i).filter p).map m++(if p e then[m e]else[]):=by
   rw[ho,bP,r9,iK]
   grind
  refine aD ?_;refine⟨λbg=>?_,λbg=>?_⟩
  ·refine lJ  (k:=3)  (λ_=>rfl) (λ_=>rfl) J (S.T (λc h1 D=>by rw[ar J,ar J,ar J,E c D]) J) J (m e) (aT _ _ _) rfl ?_ λBK b3 TT K=>?_
   ·grind
   ·refine⟨aV.length-(i+1),J,i+1,BK,rfl,J,by rw[cv J],?_,?_,by rw[ci,bg];exact TT,λc L=>?_,J⟩
    ·rw[K _ J,ar J,ar J,ar J,E _ J];omega
    ·rw[K _ J,ar J,ar J,ar J,E _ J];omega
    ·rw[K _ J,ar J,ar J,ar J,E _ J];exact Z c L
  ·refine⟨aV.length-(i+1),J,i+1,o,rfl,J,by rw[cv J],?_,?_,?_,λc L=>?_,J⟩
   ·rw[ar J,ar J,E _ J];omega
   ·rw[ar J,ar J,E _ J];omega
   ·rw[ci,bg];simp only[nP,ff,h6];exact S.T (λc h1 D=>by rw[ar J,ar J,E c D]) J
   ·rw[ar J,ar J,E _ J];exact Z c L
 ·have t7:i=aV.length:=J
  subst t7;rw[hC]at S;obtain⟨a2,bX,c2,rfl⟩:=S.form;refine bh @g1 ?_;refine(Qf (fF.of S.rd) d7 hF J).mono ?_;rintro r D jh ⟨v2,cs,rfl,C,P,M,ko,I,V⟩;obtain⟨a3,bW,b8,rfl⟩:=C.form;have HV:=(I (U+1) J).trans ed;refine bh @HV ?_;refine⟨_,cs,rfl,?_,P,M,ko,λc L=>by rw[ar J,I c J];exact Z c L,J⟩;rcases C with C|⟨b,h1,D,e,aO⟩
  ·exact .inl C
  ·exact .inr ⟨b,J,D,e,ab⟩
def yq(aV:aa GE):aa GE:=(aV.filter λ_=>true).map pB
def Gn(aV:aa GE):aa GE:=(aV.filter CX).map id
def Am(aV:aa GE):aa GE:=(aV.filter λ_=>true).map AT
theorem anK(h:∀g∈aV,gT N g):∀g∈yq aV,gT N g:=λg C=>by obtain⟨e,D,rfl⟩:=fz.1 C;have:=h e ab;exact⟨this.2.1,this.1,this.2.2⟩
theorem aji(h:∀g∈aV,gT N g):∀g∈Gn aV,gT N g:=λg C=>by obtain⟨e,D,rfl⟩:=fz.1 C;exact h e ab
theorem akU(h:∀g∈aV,gT N g):∀g∈Am aV,gT N g:=λg C=>by obtain⟨e,D,rfl⟩:=fz.1 C;have:=h e ab;exact⟨this.1,this.2.1,by show(0:Int)<=1;omega,by show(1:Int)<=2147483647;omega⟩
theorem zZ{m:GE->GE}(aV:aa GE):((aV.filter p).map m).length<=aV.length:=ab
theorem Rm(Z:fF h U v cX aV)(d7:N<=2147483648)(bA:aV.length<=120)(M:∀g∈aV,gT N g):
  aH Q s 274 [.agg ⟨[(N:X),v]⟩] h U (yI N (yq aV) U h):=by
 refine axi ?_;obtain⟨a,cap,rfl,a1⟩:=id Z;unfold agR;refine aD ?_;have bT:∀{o a0},aA U h (F (F h U o) (U+1) a0):=aN
 refine(Rl   (Z.T bT J) d7 bA (anK M) λe h U=>anI).mono ?_;rintro r V jh ⟨v2,cs,rfl,C,E,D,L,K,P⟩;obtain⟨a3,bW,b8,rfl⟩:=C.form;have I:=K (U+1) J;rw[aT]at I;refine bh @I ?_;refine⟨_,cs,rfl,?_,E,D,h7 L (cD _),aN,J⟩;rcases C with C|⟨b,h1,V,e,aO⟩
 ·exact .inl C
 ·exact .inr ⟨b,J,V,e,ab⟩
theorem ZJ(Z:fF h U v cX aV)(d7:N<=2147483648)(bA:aV.length<=120)(M:∀g∈aV,gT N g):
  aH Q s 182 [.agg ⟨[(N:X),v]⟩] h U (yI N (Gn aV) U h):=by
 refine aqZ ?_;obtain⟨a,cap,rfl,a1⟩:=id Z;unfold adD;refine aD ?_;have bT:∀{o a0},aA U h (F (F h U o) (U+1) a0):=aN
 refine(Rl   (Z.T bT J) d7 bA (aji M) λe h U=>akT).mono ?_;rintro r V jh ⟨v2,cs,rfl,C,E,D,L,K,P⟩;obtain⟨a3,bW,b8,rfl⟩:=C.form;have I:=K (U+1) J;rw[aT]at I;refine bh @I ?_;refine⟨_,cs,rfl,?_,E,D,h7 L (cD _),aN,J⟩;rcases C with C|⟨b,h1,V,e,aO⟩
 ·exact .inl C
 ·exact .inr ⟨b,J,V,e,ab⟩
theorem abO(Z:fF h U v cX aV)(d7:N<=2147483648)(bA:aV.length<=120)(M:∀g∈aV,gT N g):
  aH Q s 188 [.agg ⟨[(N:X),v]⟩] h U (yI N (Am aV) U h):=by
 refine auz ?_;obtain⟨a,cap,rfl,a1⟩:=id Z;unfold plain;refine aD ?_;have bT:∀{o a0},aA U h (F (F h U o) (U+1) a0):=aN
 refine(Rl   (Z.T bT J) d7 bA (akU M) λe h U=>anJ).mono ?_;rintro r V jh ⟨v2,cs,rfl,C,E,D,L,K,P⟩;obtain⟨a3,bW,b8,rfl⟩:=C.form;have I:=K (U+1) J;rw[aT]at I;refine bh @I ?_;refine⟨_,cs,rfl,?_,E,D,h7 L (cD _),aN,J⟩;rcases C with C|⟨b,h1,V,e,aO⟩
 ·exact .inl C
 ·exact .inr ⟨b,J,V,e,ab⟩
theorem ZK{az:Type}{enc:az->aa X}:∀(l m:aa az),bd enc (l++m)=bd enc l++bd enc m
 | [],m=>rfl
 |x::l,m=>by show enc x++bd enc (l++m)=enc x++bd enc l++bd enc m;rw[ZK l m,kA]
theorem Xf:∀l:aa GE,ee (bd cX l)=true
 | []=>rfl
 |x::l=>by have g:=Xf l;show(gZ (.int .i64 (x.f:Int))&&(gZ (.int .i64 (x.t:Int))&&(gZ (.int .i64 x.w)&&ee (bd cX l))))=true;rw[g];rfl
theorem anL{b k n:Nat}{g y:aa GE}{C:aa X}(aO:u h b=some (.cells (bd cX g++C) false))(V:g.length=k)(bv:k+y.length<=n)(Z:C.length=(n-k)*3)(aG:fF h U v2 cX y):
  ∃ac,dM 3 h U (.slice (some ⟨b,0,some 3⟩) k n) v2 = .ok (.val (.slice (some ⟨b,0,some 3⟩) (k+y.length) n) ac U)/\u ac b=some (.cells (bd cX (g++y)++C.drop (y.length*3)) false)/\∀c,c≠b->u ac c=u h c:=by
 obtain⟨E,c2,rfl,a1⟩:=aG
 by_cases M:y=[]
 ·subst M;refine⟨h,?_,ab,ab⟩;have bb:∀(K:aa X->R fq),lg h E (Nat.mul 0 3) K=K []:=λK=>by
   cases E <;> rfl
  show lg h E (Nat.mul 0 3) (λnew=>g0 3 h U (some ⟨b,0,some 3⟩) k n 0 new)=_;rw[bb];unfold g0;rw[show Nat.ble (Nat.add k 0) n=true from B7 J];rfl
 ·obtain⟨bQ,aS,ro,y6,fm,rfl,a9⟩:=a1 M;have hyl:0<y.length:=ab
  have D:=gc (enc:=cX) (k:=3) (λ_=>rfl) (l:=y);have I:=gc (enc:=cX) (k:=3) (λ_=>rfl);show ∃ac,lg h (some ⟨bQ,0,aS⟩) (Nat.mul y.length 3) (λnew=>g0 3 h U (some ⟨b,0,some 3⟩) k n y.length new)=_/\_;rw[show Nat.mul y.length 3=y.length*3 from rfl,tn a9 J ab,pk,<-D,List.take_left];unfold g0;rw[show Nat.ble (Nat.add k y.length) n=true from B7 bv];obtain⟨x,r,L⟩:∃x r,bd cX y=x::r:=by
   cases bE:bd cX y with
   |nil=>grind
   |cons x r=>grind
  have P:qq h b (Nat.add 0 (Nat.mul k 3)) (bd cX y) = .ok (F h b (.cells (bd cX (g++y)++C.drop (y.length*3)) false)):=by
   rw[show Nat.add 0 (Nat.mul k 3)=k*3 from iV _,Js aO (Xf y) ab];have aW:(bd cX g++C).take (k*3)=bd cX g:=ab
   have aK:(bd cX g++C).drop (k*3+(bd cX y).length)=C.drop (y.length*3):=by rw[<-V,<-I,D,I4]
   rw[aW,aK,ZK]
  refine⟨F h b (.cells (bd cX (g++y)++C.drop (y.length*3)) false),?_,ab,ab⟩;rw[L]at P ⊢;show R.bind (qq h b (Nat.add 0 (Nat.mul k 3)) (x::r)) _=_;rw[P];rfl
theorem axA:Hb Q 22 (.slice none 0 0) = .ok (.int .i64 0):=by kernel_rfl
theorem ze1:rj Tryz.prog 22=some 124:=by kernel_rfl
theorem ze2:jI Tryz.prog 124=some 3:=by kernel_rfl
theorem ze3:nU Tryz.prog 124=some [.int .i64 0,.int .i64 0,.int .i64 0]:=by kernel_rfl
theorem ze4:yb Tryz.prog 124=true:=by kernel_rfl
theorem ze5:rp Tryz.prog (some 3)=true:=by kernel_rfl
theorem anM(n:Nat)(z:aa X):(gI n z).length=n*z.length:=by
 induction n with
 |zero=>simp[gI]
 |succ n g=>simp[gI,g,zM,kh];omega
theorem apz{n:Nat}(C:0<n)(D:n<=1000):pr Tryz.prog .append [22,3] h U [.slice none 0 0,(n:X)] = .ok (.val (.slice (some ⟨U,0,some 3⟩) n n) (F h U (.cells (gI n [.int .i64 0,.int .i64 0,.int .i64 0]) false)) (U+1)):=by
 show R.of "append" (rj Tryz.prog 22) (λe=>R.of "append" (jI Tryz.prog e) (λs=>R.of "append" (nU Tryz.prog e) (λz=>bif Nat.beq (jr z) s&&yb Tryz.prog e&&rp Tryz.prog (some 3)then F7 z s h U (.slice none 0 0) (n:X)else .no "append - element")))=_;rw[ze1];show R.of "append" (jI Tryz.prog 124) (λs=>R.of "append" (nU Tryz.prog 124) (λz=>bif Nat.beq (jr z) s&&yb Tryz.prog 124&&rp Tryz.prog (some 3)then F7 z s h U (.slice none 0 0) (n:X)else .no "append - element"))=_;rw[ze2,ze3,ze4,ze5];show(bif Nat.ble n 1000000 then g0 3 h U none 0 0 n (gI n [.int .i64 0,.int .i64 0,.int .i64 0])else .no "append")=_;rw[show Nat.ble n 1000000=true from B7 J];unfold g0;rw[show Nat.ble (Nat.add 0 n) 0=false from by
  cases g:Nat.ble (Nat.add 0 n) 0 with
  |false=>rfl
  |true=>have:=ma g;grind]
 rw[show(Nat.ble (Nat.mul (Nat.add 0 n) 3) 1000000&&Nat.ble (Nat.add 0 n) 1000000)=true from by
  rw[show Nat.add 0 n=n from iV n];simp only[eB,tg]
  grind]
 show qw h U 3 _ (Nat.add 0 n)=_;rw[show Nat.add 0 n=n from iV n];exact rf J
theorem auY{n:Nat}(I:n<=1000):aH Q s 364 [.slice none 0 0,(n:X)] h U (λr ac Y=>(n=0/\r = .slice none 0 0/\ac=h/\Y=U)\/(0<n/\r = .slice (some ⟨U,0,some 3⟩) 0 n/\(∃C,u ac U=some (.cells C false)/\C.length=n*3)/\aA U h ac/\Y=U+1)):=by
 refine axk ?_;unfold grow;rw[axA];have D:IntKind.wrap .i64 (0-((0:Nat):Int))=0:=by rfl
 have E:IntKind.wrap .i64 ((n:Int)-0)=(n:Int):=by rw[Int.sub_zero];exact iY n J
 refine tA @D @E ?_;refine⟨J,λ_=>⟨λK=>?_,J⟩⟩;rw[show gS 3 (.slice none 0 0) none (some (.int .i64 0)) none = .ok (.slice none 0 0)from rfl,yn,show Q=Tryz.prog from rfl,apz J I];show af (gS 3 (.slice (some ⟨U,0,some 3⟩) n n) none (some (((0:Nat):X))) none) _;have g:gS 3 (.slice (some ⟨U,0,some 3⟩) n n) none (some (((0:Nat):X))) none = .ok (.slice (some ⟨U,0,some 3⟩) 0 n):=by
  obtain⟨m,rfl⟩:∃m,n=m+1:=⟨n-1,J⟩
  show nV 3 (some ⟨U,0,some 3⟩) (m+1) false (m+1) 0 0=_;unfold nV;rw[show(Nat.ble (m+1) (m+1)&&(Nat.ble 0 (m+1)&&Nat.ble 0 0))=true by simp only[eB,tg];omega];rfl
 rw[g,yn];exact .inr ⟨J,rfl,⟨_,aT _ _ _,by rw[anM];rfl⟩,aN,rfl⟩
def mW(dH dl:aa GE):Nat->aa GE
 |0=>[]
 |1=>dH
 |_=>dH++dl
def azr(dH dl:aa GE)(p:Nat)(h:ae)(U:Nat)(m:Nat)(aF:aa X)(ac:ae)(Y:Nat):Prop :=
 ∃i,m=2-i/\i<=2/\aF=[.slice (some ⟨p,0,none⟩) 2 2,.int .i64 ((mW dH dl i).length:Int),.slice (some ⟨p,0,none⟩) 2 2,.int .i64 2,(i:X)]/\ac=h/\Y=U
def TU(h:ae)(ao aj n:Nat)(acc:aa GE)(o:X):Prop:=(n=0/\acc=[]/\o = .slice none 0 0)\/∃b cs,ao<=b/\b<aj/\o = .slice (some ⟨b,0,some 3⟩) acc.length n/\u h b=some (.cells (bd cX acc++cs) false)/\cs.length=(n-acc.length)*3
def ag5(dH dl:aa GE)(n p:Nat)(h:ae)(U:Nat)(m:Nat)(aF:aa X)(ac:ae)(Y:Nat):Prop :=
 ∃(i:Nat) (o:X),m=2-i/\i<=2/\aF=[o,.slice (some ⟨p,0,none⟩) 2 2,.int .i64 2,(i:X)]/\TU ac U Y n (mW dH dl i) o/\aA U h ac/\U<=Y
theorem anN{p c:Nat}{dH dl:aa GE}{ro:al}(bg:u h p=some (.cells [v1,v2] ro))(Mk:p<U)(h1:fF h U v1 cX dH)(ap:fF h U v2 cX dl)(bA:dH.length+dl.length<=1000):
  aH Q s 273 [.slice (some ⟨p,0,none⟩) 2 2] h U (λr ac Y=>fF ac Y r cX (dH++dl)/\aA U h ac/\U<=Y):=by
 refine aq0 ?_;obtain⟨aB,c1,rfl,yV⟩:=id h1;obtain⟨a2,c2,rfl,nq⟩:=id ap;unfold adF
 refine ng ?_;refine bC.mk (azr dH dl p h U) 2 ⟨0,rfl,J,rfl,rfl,rfl⟩ ?_;rintro m _ aM vx ⟨i,rfl,aj,rfl,aW,aK⟩;rw[aW,aK,am7];unfold Zl
 match i,aj with
 |0,_ =>
  have w:IntKind.wrap .i64 (((mW dH dl 0).length:Int)+(dH.length:Int))=((mW dH dl 1).length:Int):=by rw[show((mW dH dl 0).length:Int)+(dH.length:Int)=(dH.length:Int) by simp[mW]];exact iY _ J
  refine tA @bg @w ?_;exact⟨λ_=>⟨J,λ_=>⟨1,J,1,rfl,J,rfl,rfl,rfl⟩⟩,λh=>absurd J h⟩
 |1,_ =>
  have w:IntKind.wrap .i64 (((mW dH dl 1).length:Int)+(dl.length:Int))=((mW dH dl 2).length:Int):=by rw[show((mW dH dl 1).length:Int)+(dl.length:Int)=((dH.length+dl.length:Nat):Int) by simp[mW]];rw[iY _ J];simp[mW]
  refine tA @bg @w ?_;exact⟨λ_=>⟨J,λ_=>⟨0,J,2,rfl,J,rfl,rfl,rfl⟩⟩,λh=>absurd J h⟩
 |2,_ =>
  refine ng ?_;refine⟨λh=>absurd h J,λ_=>?_⟩;have K:(mW dH dl 2).length=dH.length+dl.length:=by simp[mW]
  refine(auY J).mono ?_;intro r bc D4 a9;generalize bv:(mW dH dl 2).length=n at a9 K;have st:TU bc U D4 n [] r/\aA U h bc/\U<=D4:=by
   rcases a9 with⟨au,rfl,rfl,rfl⟩|⟨au,rfl,⟨Z,V,L⟩,hk,rfl⟩
   ·exact⟨.inl ab,aN,J⟩
   ·exact⟨.inr ⟨U,Z,J,J,rfl,V,J⟩,hk,J⟩
  obtain⟨st,fI,hb⟩:=st;refine bC.mk (ag5 dH dl n p h U) 2 ⟨0,r,rfl,J,rfl,st,fI,hb⟩ ?_;rintro m _ b3 E ⟨i,o,rfl,aj,rfl,st,D,g⟩;rw[am8];unfold Zm;have Bp:=(D p Mk).trans bg;have step:∀(j:Nat) (y:aa GE) (rZ:X),fF h U rZ cX y->mW dH dl (j+1)=mW dH dl j++y->(mW dH dl (j+1)).length<=n->TU b3 U E n (mW dH dl j) o->j+1<=2 ->
    dD (dU (dM 3 b3 E o rZ)) λmw h24 n25=>af (bin Q .add 3 (j:X) (.int .i64 1)) λpW=>∃bG,bG<2-j/\ag5 dH dl n p h U bG [mw,.slice (some ⟨p,0,none⟩) 2 2,.int .i64 2,pW] h24 n25:=by
   intro j y rZ cd bP I st bZ;rcases st with⟨P,C,rfl⟩|⟨b,Z,hR,M,rfl,V,L⟩
   ·have hy0:y=[]:=by
     rw[bP,C,P]at I
     grind
    subst hy0;obtain⟨a3,b8,rfl,_⟩:=cd;have ht:dM 3 b3 E (.slice none 0 0) (.slice a3 ([]:aa GE).length b8) = .ok (.val (.slice none 0 0) b3 E):=by cases a3 <;> rfl
    rw[ht];simp(disch:=omega)only[bl,↓reduceIte,Nat.reduceAdd,Nat.reduceSub,Nat.reduceMul,Nat.reduceLT,Nat.reduceLeDiff,Nat.reduceEqDiff,Int.reduceBEq,Int.reduceLT,Int.reduceNeg,dU,Lx,cv (J:j<1000000000000)];exact⟨2-(j+1),J,j+1,_,rfl,bZ,rfl,.inl ab,D,g⟩
   ·rw[bP,jd]at I;obtain⟨cy,h2,D5,qN⟩:=anL  V rfl J L (cd.T D g);rw[h2];simp(disch:=omega)only[bl,↓reduceIte,Nat.reduceAdd,Nat.reduceSub,Nat.reduceMul,Nat.reduceLT,Nat.reduceLeDiff,Nat.reduceEqDiff,Int.reduceBEq,Int.reduceLT,Int.reduceNeg,dU,Lx,cv (J:j<1000000000000)];refine⟨2-(j+1),J,j+1,_,rfl,bZ,rfl,.inr ⟨b,Z.drop (y.length*3),hR,M,?_,?_,?_⟩,aN,g⟩
    all_goals grind
  match i,aj with
  |0,_ =>
   refine mf @Bp ?_;exact⟨λ_=>step 0 dH _ h1 rfl (by rw[K];simp[mW]) st J,λh=>absurd J h⟩
  |1,_ =>
   refine mf @Bp ?_;exact⟨λ_=>step 1 dl _ ap rfl ab st J,λh=>absurd J h⟩
  |2,_ =>
   refine ng ?_;refine⟨λh=>absurd h J,λ_=>⟨?_,D,g⟩⟩;rcases st with⟨P,C,rfl⟩|⟨b,Z,hR,M,rfl,V,L⟩
   ·have C:dH++dl=[]:=C;rw[C];exact⟨none,0,rfl,λh=>absurd rfl h⟩
   ·exact⟨some ⟨b,0,some 3⟩,n,rfl,λ_=>⟨b,some 3,false,Z,M,rfl,V⟩⟩
theorem aee(aG:fF h U v cX aV)(d7:N<=2147483648)(bA:aV.length<=60)(hF:∀g∈aV,gT N g):
  aH Q s 181 [.agg ⟨[(N:X),v]⟩] h U (λr ac Y=>∃D,jq ((yq aV).map dE) (D.map dE)/\D.length<=aV.length/\(∀g∈D,gT N g)/\yI N (aV++D) U h r ac Y):=by
 refine axh ?_;obtain⟨a,cap,rfl,a1⟩:=id aG;unfold yF;refine aD ?_;have bT:∀{o a0},aA U h (F (F h U o) (U+1) a0):=aN
 refine(Rm (aG.T bT J) d7 J hF).mono ?_;rintro r h1 lq ⟨v1,D,rfl,lQ,htc,E,y5,d0,P⟩;have SK:D.length<=aV.length:=h7 y5 (zZ aV);have cJ:=d0 U J;rw[ar J,aT]at cJ;have ed:=d0 (U+1) J;rw[aT]at ed;obtain⟨a3,bW,b8,rfl⟩:=lQ.form;refine⟨P,?_⟩;have cP:aA U h h1:=aN
 refine cQ @cJ @O6 ?_;have gW:∀{o},aA lq h1 (F h1 lq o):=aN
 refine(anN (c:=2) (aT _ _ _) J ((aG.T cP J).T gW J) ((fF.of lQ.rd).T gW J) J).mono ?_;rintro r aM vx ⟨b3,e1,gJ⟩;obtain⟨bt,ul,rfl,LS⟩:=id b3;have Ml:=(e1 U J).trans ((ar J).trans cJ);have HV:=(e1 (U+1) J).trans ((ar J).trans ed);refine⟨gJ,?_⟩;refine cQ @Ml @O6 ?_;have I:∀g∈aV++D,gT N g:=λg V=>by
  rcases hp.1 V with V|V
  ·exact hF g V
  ·exact E g V
 refine(Qf b3 d7 I ab).mono ?_;rintro r cy Bn ⟨IK,cs,rfl,C,Z,L,ko,ji,K⟩;obtain⟨a6,n7,i7,rfl⟩:=C.form;have M:=(ji (U+1) J).trans HV;refine⟨K,?_⟩;refine bh @M ?_;refine⟨D,htc,SK,E,_,cs,rfl,?_,Z,L,ko,aN,J⟩;rcases C with C|⟨b,h1,ap,e,aO⟩
 ·exact .inl C
 ·exact .inr ⟨b,J,ap,e,ab⟩
def K7(r c:Int)(aB a2 a3:aw Addr)(a5 bX bW c1 c2 b8:Nat):X:=.agg ⟨[(r:X),(c:X),.slice aB a5 c1,.slice a2 bX c2,.slice a3 bW b8]⟩
def axB(r:X):Prop:=∃(x y:Int) (aB a2 a3:aw Addr) (a5 bX bW c1 c2 b8:Nat),r=K7 x y aB a2 a3 a5 bX bW c1 c2 b8
theorem arD(C:N<=4096):aH Q s 367 [(N:X),(N:X)] h U (λr ac Y=>r = .agg ⟨[(N:X),(N:X),.slice (some ⟨U+1,0,none⟩) (N+1) (N+1),.slice none 0 0,.slice none 0 0]⟩/\u ac (U+1)=some (.cells (gA (List.replicate (N+1) 0)) false)/\aA U h ac/\Y=U+1+1):=by
 refine adK ?_;unfold R3;have g:List.replicate (N+1) (Value.int .i64 0)=gA (List.replicate (N+1) 0):=by simp[gA]
 refine cQ (cv (J:N<1000000000000)) @g ?_;exact aN
def yK(h:ae)(v1 v2:X)(dH dl:aa Int)(ao aj:Nat):Prop :=
 (dH=[]/\dl=[]/\v1 = .slice none 0 0/\v2 = .slice none 0 0)\/∃cI bQ,cI≠bQ/\ao<=cI/\cI<aj/\ao<=bQ/\bQ<aj/\v1 = .slice (some ⟨cI,0,some 1⟩) dH.length dH.length/\v2 = .slice (some ⟨bQ,0,some 1⟩) dl.length dl.length /\
  u h cI=some (.cells (gA dH) false)/\u h bQ=some (.cells (gA dl) false)
theorem yK.hl(C:yK h v1 v2 dH dl ao aj):∃D g,fa h cq 1 v1 dH D/\fa h cq 1 v2 dl g/\(∀b,D=some b->ao<=b/\b<aj/\g≠some b)/\∀b,g=some b->ao<=b/\b<aj:=by
 rcases C with⟨rfl,rfl,rfl,rfl⟩|⟨K,L,M,Z,P,aM,V,rfl,rfl,E,I⟩
 ·exact⟨none,none,fa.nil,fa.nil,ab⟩
 ·rw[<-hM]at E I;exact⟨some K,some L,.own E,.own I,ab,ab⟩
theorem yK.form(g:yK h v1 v2 dH dl ao aj):∃E I K D C c2,v1 = .slice E I K/\v2 = .slice D C c2:=by
 rcases g with⟨_,_,rfl,rfl⟩|⟨L,M,_,_,_,_,_,rfl,rfl,_⟩
 all_goals grind
def azs(N cj fk i9 ao:Nat)(Vx:X)(ag:aa GE)(au:ae)(U:Nat)(m:Nat)(aF:aa X)(ac:ae)(Y:Nat):Prop :=
 ∃(i:Nat) (S:aa Int) (e2 nz:X),m=ag.length-i/\i<=ag.length/\aF=[(N:X),bf cj,bf fk,Vx,(ag.length:X),(i:X)] /\
  u ac fk=some (.cells [(N:X),(N:X),.slice (some ⟨i9,0,none⟩) (N+1) (N+1),e2,nz] false)/\u ac i9=some (.cells (gA S) false)/\S.length=N+1/\(∀x∈S,0<=x/\x<=(i:Int)) /\
  yK ac e2 nz ((ag.take i).map λe=>(e.t:Int)) ((ag.take i).map GE.w) ao Y/\(∀c,c<ao->c≠fk->c≠i9->u ac c=u au c)/\ao<=Y
def azt(N cj fk i9 ao:Nat)(e2 nz:X)(au:ae)(U:Nat)(m:Nat)(aF:aa X)(ac:ae)(Y:Nat):Prop :=
 ∃(i:Nat) (S:aa Int),m=N-i/\i<=N/\aF=[bf cj,bf fk,(N:X),(i:X)] /\
  u ac fk=some (.cells [(N:X),(N:X),.slice (some ⟨i9,0,none⟩) (N+1) (N+1),e2,nz] false)/\u ac i9=some (.cells (gA S) false)/\S.length=N+1/\(∀(k:Nat) (x:Int),S[k]? = some x->0<=x/\(x<=120\/(k<=i/\x<=120*((k:Int)+1)))) /\
  (∀c,c≠i9->u ac c=u au c)/\Y=U
def u6(h:ae)(ao aj:Nat)(r:X):Prop:=∃(x y:Int) (v1 v2 v3:X) (st cl p7:aa Int),r = .agg ⟨[(x:X),(y:X),v1,v2,v3]⟩/\eG h ao aj v1 cq st/\eG h ao aj v2 cq cl/\eG h ao aj v3 cq p7/\st.length<=4097/\cl.length<=120/\p7.length<=120
theorem u6.form(H:u6 h ao aj r):axB r:=by obtain⟨x,y,v1,v2,C,st,cl,E,rfl,⟨I,K,rfl,_⟩,⟨g,c2,rfl,_⟩,⟨D,b8,rfl,_⟩,_⟩:=H;exact⟨_,_,_,_,_,_,_,_,_,_,_,rfl⟩
theorem u6.T{h ac:ae}{ao aj d2 dm:Nat}{r:X}(H:u6 h ao aj r)(g:∀b,ao<=b->b<aj->u ac b=u h b)(D:d2<=ao)(C:aj<=dm):u6 ac d2 dm r:=by obtain⟨x,y,v1,v2,E,st,cl,I,rfl,L,K,M,l⟩:=H;exact⟨x,y,v1,v2,E,st,cl,I,rfl,L.T g D C,K.T g D C,M.T g D C,l⟩
theorem GG:eG h ao aj (.slice none 0 0) cq []:=⟨none,0,rfl,λe=>absurd rfl e⟩
theorem u6.zero:u6 h ao aj (.agg ⟨[.int .i64 0,.int .i64 0,.slice none 0 0,.slice none 0 0,.slice none 0 0]⟩):=⟨0,0,_,_,_,[],[],[],rfl,GG,GG,GG,by simp,by simp,by simp⟩
theorem yK.fj(g:yK h v1 v2 dH dl ao aj):eG h ao aj v1 cq dH/\eG h ao aj v2 cq dl:=by
 rcases g with⟨rfl,rfl,rfl,rfl⟩|⟨I,L,V,P,K,E,M,rfl,rfl,C,D⟩
 ·exact⟨GG,GG⟩
 ·rw[<-hM]at C D;exact⟨⟨_,_,rfl,λ_=>⟨I,_,_,P,K,rfl,C⟩⟩,⟨_,_,rfl,λ_=>⟨L,_,_,E,M,rfl,D⟩⟩⟩
def auZ(U:Nat)(h:ae):bR:=λr ac Y=>u6 ac U Y r/\aA U h ac/\U<=Y
theorem arE{C:aa GE}(aG:fF h U v cX C)(d7:N<=4096)(bA:C.length<=120)(hF:∀g∈C,gT N g):
  aH Q s 281 [(N:X),(N:X),v] h U (auZ U h):=by
 refine adI ?_;obtain⟨a,cap,rfl,a1⟩:=id aG;unfold R2;refine aD ?_;refine(arD d7).mono ?_;rintro r h1 _ ⟨rfl,hR,M,rfl⟩;have cJ:=M U J;rw[aT]at cJ;refine aD ?_;refine bC.mk (azs N U (U+1+1+1) (U+1+1) (U+1+1+1+1) (.slice a C.length cap) C h1 U) C.length ⟨0,List.replicate (N+1) 0,_,_,rfl,J,rfl,ab,ab,by simp,ab,.inl ⟨rfl,rfl,rfl,rfl⟩,ab,J⟩ ?_;rintro m _ ap E ⟨i,S,e2,nz,rfl,aj,rfl,V,f4,L,D,P,bE,dO⟩;obtain⟨eF,dP,oz,xx,s4,zt⟩:=P.hl;obtain⟨aB,a5,c1,a2,bX,c2,rfl,rfl⟩:=P.form;rw[abu];unfold P4;refine aD ?_;refine⟨λct=>?_,λeM=>?_⟩
 ·obtain⟨e,bP⟩:=dR ct;have hem:=hF e ab;have hef:e.f<N:=hem.1;obtain⟨_,b,aS,ro,dG,cs,aO,aW,a9⟩:=aG.at bP;cases aW;have iq:=(bE b J J J).trans ((M b J).trans ((ar J).trans a9));have rH:hV (some 3) (i*3) (bd cX C++cs) = .ok (.agg ⟨[(e.f:X),(e.t:X),.int .i64 e.w]⟩):=D0  (k:=3) (λ_=>rfl) bP;obtain⟨x,Z⟩:=dR (l:=S) (i:=e.f+1) J;have TV:=D x ab;have K:IntKind.wrap .i64 (x+1)=x+1:=jG J J;simp(disch:=omega)only[bl,iq,rH,V,f4,cv (J:e.f<1000000000000),hN Z,K,seval];refine⟨J,?_⟩;have ko:((C.take i).map λe=>(e.t:Int)).length=i:=ab
  have Hy:((C.take i).map GE.w).length=i:=ab
  refine rm (oz.T λc a1=>ab) (aT _ _ _) J λaM sN I=>?_;have TW:u aM (U+1+1+1)=some (.cells [(N:X),(N:X),.slice (some ⟨U+1+1,0,none⟩) (N+1) (N+1),.slice aB a5 c1,.slice a2 bX c2] false):=ab
  have TX:u aM E=some (.cells [(e.f:X),(e.t:X),(e.w:X)] false):=ab
  refine cQ @TW @TX ?_;refine rm (xx.T λc a1=>?_) (aT _ _ _) J λbc HW sO=>?_
  ·grind
  have TY:u bc (U+1+1+1)=some (.cells [(N:X),(N:X),.slice (some ⟨U+1+1,0,none⟩) (N+1) (N+1),.slice (some ⟨E+1+1,0,some 1⟩) (((C.take i).map λe=>(e.t:Int)).length+1) (((C.take i).map λe=>(e.t:Int)).length+1),.slice a2 bX c2] false):=ab
  refine bh @TY ?_;have mp:C.take (i+1)=C.take i++[e]:=by rw[ho,bP];rfl
  refine⟨C.length-(i+1),J,i+1,S.set (e.f+1) (x+1),_,_,rfl,J,by rw[cv J],aT _ _ _,?_,ab,λz cL=>?_,.inr ⟨E+1+1,E+1+1+1+1,J,J,J,J,J,?_,?_,?_,?_⟩,λc h1 ap aM=>?_,J⟩
  ·grind
  ·grind
  ·grind
  ·grind
  ·grind
  all_goals grind
 ·obtain⟨Nf,Ng⟩:=P.fj;have t7:i=C.length:=J
  subst t7;rw[hC]at Nf Ng;refine bC.mk (azt N U (U+1+1+1) (U+1+1) (U+1+1+1+1) (.slice aB a5 c1) (.slice a2 bX c2) ap E) N ⟨0,S,rfl,J,rfl,V,f4,L,λk x Z=>?_,λ_ _=>rfl,rfl⟩ ?_
  ·have:=D x (kz Z);omega
  rintro m _ aM _ ⟨k,S,rfl,hk,rfl,_,f4,L,D,I,rfl⟩;have V:=(I (U+1+1+1) J).trans V;rw[abv];unfold P5
  by_cases Mm:k<N
  ·obtain⟨x,Z⟩:=dR (l:=S) (i:=k+1) J;obtain⟨y,cd⟩:=dR (l:=S) (i:=k) J;have TV:=D _ x Z;have hyb:=D _ y cd;have K:IntKind.wrap .i64 (x+y)=x+y:=jG J J;simp(disch:=omega)only[bl,show(k:Int)<(N:Int) by omega,Mm,V,f4,cv (J:k<1000000000000),hN Z,hN cd,K,seval];refine⟨⟨J,?_⟩,λh=>absurd trivial h⟩;refine⟨N-(k+1),J,k+1,S.set (k+1) (x+y),rfl,J,rfl,?_,aT _ _ _,ab,λj z cL=>?_,λc aM=>ab,rfl⟩
   ·grind
   ·rw[vY]at cL
    split at cL
    ·rename_i bZ
     subst bZ
     split at cL
     ·cases cL;omega
     omega
    grind
  ·have:k=N:=J
   subst this;have l5:=(I U J).trans ((bE U J J J).trans cJ);refine cQ @V @l5 ?_;refine⟨λh=>absurd h J,λ_=>⟨⟨_,_,_,_,_,S,_,_,rfl,⟨_,_,by rw[L],λ_=>⟨U+1+1,none,false,J,J,rfl,?_⟩⟩,Nf.T ?_ J (cD _),Ng.T ?_ J (cD _),J,ab,ab⟩,λc a1=>?_,J⟩⟩
   ·rw[ar J,hM];omega
   ·grind
   ·grind
   ·rw[ar J,I c J,bE c J J J,M c J,ar J]
def Hk(g:GE):iy:=((g.f:Int),(g.t:Int),g.w)
theorem Ye:∀l:aa GE,bd cX l=bd iz (l.map Hk)
 | []=>rfl
 |x::l=>by show cX x++bd cX l=iz (Hk x)++bd iz (l.map Hk);rw[Ye l];rfl
theorem au0(I:fF h U v cX aV):fF h U v iz (aV.map Hk):=by obtain⟨a,cap,rfl,D⟩:=I;refine⟨a,cap,ab,λL=>?_⟩;obtain⟨b,aS,K,g,E,C,M⟩:=D ab;exact⟨b,aS,K,g,E,C,by rw[<-Ye];omega⟩
theorem Pp(M:fF h U v cX aV)(V:N<=4096)(D:∀g∈aV,gT N g)(Z:aV.length<=120):aH Q s 83 [.agg ⟨[(N:X),v]⟩] h U (dJ (.int .i64 0) U h):=by
 have L:GF (N:Int) (aV.map Hk):=by
  refine⟨J,J,ab,λe I C=>?_,λe I C=>?_⟩
  ·obtain⟨g,E,rfl⟩:=fz.1 I;obtain⟨P,K,_⟩:=D g E;have C:(g.f:Int)<0\/(N:Int)<=g.f\/(g.t:Int)<0\/(N:Int)<=g.t:=C;omega
  ·obtain⟨g,E,rfl⟩:=fz.1 I;obtain⟨_,_,P,K⟩:=D g E;have C:g.w<0\/2147483647<g.w:=C;omega
 have:=Qg (s:=s) (n:=(N:Int)) (au0 M);rw[J3.2 L]at this;exact this
theorem afO{g:aa GE}(C:g[i]? = some e):hV (some 3) (i*3) (bd cX g) = .ok (.agg ⟨[(e.f:X),(e.t:X),(e.w:X)]⟩):=D1  (k:=3) (λ_=>rfl) C
def CgJ(cj cN N:Nat)(gO aB4:X)(ag:aa GE)(ao:Nat)(h:ae)(m:Nat)(aF:aa X)(ac:ae)(Y:Nat):Prop :=
 ∃(i:Nat) (o:X),m=ag.length-i/\i<=ag.length/\aF=[bf cj,bf cN,o,gO,(ag.length:X),(i:X)]/\d1 ac o cX 3 (ag.take i) ao Y/\aA ao h ac/\ao<=Y
def Dz(e:Int)(U:Nat)(h:ae):bR:=λr ac Y=>∃m,r = .tuple ⟨[m,(e:X)]⟩/\u6 ac U Y m/\aA U h ac/\U<=Y
theorem au1(aG:fF h U v cX aV)(d7:N<=4096)(L:∀g∈aV,gT N g)(bA:aV.length<=120):aH Q s 189 [.agg ⟨[(N:X),v]⟩] h U (Dz 0 U h):=by
 refine afw ?_;obtain⟨a,cap,rfl,a1⟩:=id aG;unfold SI;refine aD ?_;have bT:∀{o a0},aA U h (F (F h U o) (U+1) a0):=aN
 refine(Pp (aG.T bT J) d7 L bA).mono ?_;rintro r h1 lq ⟨rfl,K,f0⟩;have cJ:=K U J;rw[ar J,aT]at cJ;have ed:=K (U+1) J;rw[aT]at ed;have cP:aA U h h1:=aN
 refine bh @cJ ?_;refine(Rm (aG.T cP J) J bA L).mono ?_;rintro r ap jh ⟨v2,D,rfl,lQ,htc,I,V,E,fg⟩;have SK:D.length<=aV.length:=h7 V (zZ aV);obtain⟨a3,b8,rfl,TZ⟩:=id lQ.fj;refine aD ?_;refine bC.mk (CgJ U (U+1) N (.slice a3 D.length b8) .nilFunc D jh ap) D.length ⟨0,_,rfl,J,rfl,.inl ab,aN,J⟩ ?_;rintro m _ aM vx ⟨i,o,rfl,aj,rfl,S,C,gJ⟩;rw[adE];unfold Ri;refine aD ?_;refine⟨λM=>?_,λeM=>?_⟩
 ·obtain⟨e,bP⟩:=dR M;obtain⟨b,aS,ro,hR,fm,rfl,aO⟩:=TZ ab;have pX:=(C b fm).trans aO;simp(disch:=omega)only[bl,pX,afO bP,seval];refine lJ  (k:=3)  (λ_=>rfl) (λ_=>rfl) J (S.T ab J) J e (aT _ _ _) rfl ab λBK b3 Z gf=>?_;have mp:D.take (i+1)=D.take i++[e]:=by rw[ho,bP];rfl
  exact⟨D.length-(i+1),J,i+1,BK,rfl,J,by rw[cv J],by rw[mp];exact Z,λc a1=>by rw[gf c a1,ar J,ar J,ar J];exact C c a1,J⟩
 ·have t7:i=D.length:=J
  subst t7;rw[hC]at S;have T0:=(C U J).trans ((E U J).trans cJ);have T1:=(C (U+1) J).trans ((E (U+1) J).trans ed);refine bh @T0 ?_;refine(arE (fF.of S.rd) d7 J I).mono ?_;rintro r cy Bn ⟨ei,P,n2⟩;obtain⟨x,y,cI,bQ,d6,a5,bX,bW,c1,c2,fL,rfl⟩:=ei.form;have T2:=(P (U+1) J).trans T1;unfold K7;refine bh @T2 ?_;exact⟨_,rfl,ei.T ab J J,aN,J⟩
structure pd (N q U:Nat) (h ac:ae) (Y:Nat) (aV:aa GE) (v:X):Prop where
 g:u ac q=some (.cells [(N:X),v] false)
 m:u ac (q+1)=some (.cells [.int .i64 0,.int .i64 0,.slice none 0 0,.slice none 0 0,.slice none 0 0] false)
 p:fF ac Y v cX aV
 ok:∀g∈aV,gT N g
 k:aA U h ac
 lt:q+1<Y
theorem pd.put{q:Nat}{E:ae}{C:Nat}{Z:aa GE}(S:pd N q U h ac Y aV v)(dt:U<=q)(bb:yI N Z Y ac r E C):∃(I:aa GE) (a:aw Addr) (n c:Nat),r = .agg ⟨[(N:X),.slice a n c]⟩/\I.length<=Z.length/\u E q=some (.cells [(N:X),v] false)/\Y<=C/\pd N q U h (F E q (.cells [(N:X),.slice a n c] false)) C I (.slice a n c):=by
 obtain⟨v2,I,rfl,g,V,L,P,D,K⟩:=bb;have M:=S.lt;obtain⟨a,n,c,rfl⟩:=g.form;refine⟨I,a,n,c,rfl,P,(D q J).trans S.g,K,ab,?_,?_,L,?_,J⟩
 ·rw[ar J,D _ M];exact S.m
 ·refine fF.of ?_;have:d1 (F E q (.cells [(N:X),.slice a n c] false)) (.slice a n c) cX 3 I Y C:=by
   rcases g with g|⟨b,h1,E,e,aO⟩
   ·exact .inl g
   ·exact .inr ⟨b,h1,E,e,ab⟩
  exact this.rd
 ·intro b aO;rw[ar J,D b J];exact S.k b aO
def jZ(k n src len:Int)(bK:aa Int)(dd:Int)(es:aa iy):Int:=if iL k n src len bK≠0 then iL k n src len bK else if dd≠n then 4 else lf dd es
theorem anO(bj:cr h U eQ cq bK)(bP:fF h U gO iz es)(D:es.length<=60\/65536<es.length):
  aH Q s 114 [.agg ⟨[(k:X),(n:X),(src:X),(len:X),eQ]⟩,.agg ⟨[(dd:X),gO]⟩] h U (Dz (jZ k n src len bK dd es) U h):=by
 refine abp ?_;obtain⟨a,cap,rfl,a1⟩:=id bj;obtain⟨a2,ry,rfl,nq⟩:=id bP;unfold Rh;refine aD ?_;have bT:∀{o a0 k6},aA U h (F (F (F h U o) (U+1) a0) (U+1+1) k6):=aN
 refine(JJ (bj.T bT J)).mono ?_;rintro r h1 lq ⟨rfl,d0,f0⟩;have l5:=d0 U J;rw[ar J,ar J,aT]at l5;have xy:=d0 (U+1) J;rw[ar J,aT]at xy;have uu:=d0 (U+1+1) J;rw[aT]at uu;have cP:aA U h h1:=aN
 have zero:∀{ac:ae} {Y:Nat} {o:fJ} {e:Int},jZ k n src len bK dd es=e->aA U h ac->U<=Y->Dz (jZ k n src len bK dd es) U h (.tuple ⟨[.agg ⟨[.int .i64 0,.int .i64 0,.slice none 0 0,.slice none 0 0,.slice none 0 0]⟩,(e:X)]⟩) (F ac (U+1+1) o) Y:=λ{ac Y o e} bP hk K=>by rw[bP];exact⟨_,rfl,u6.zero,aN,K⟩
 generalize oW:iL k n src len bK=ak at *
 by_cases iN:ak=0
 case neg =>
  have aO:(ak == 0)=false:=ab
  refine cQ @aO @uu ?_;exact zero (by unfold jZ;omega) cP J
 subst iN;refine cQ @xy @l5 ?_;refine⟨λeS=>?_,λtM=>?_⟩
 ·refine bh @uu ?_;have eS:dd≠n:=ab
  exact zero (by unfold jZ;omega) cP J
 have tM:dd=n:=ab
 have Z:jZ k n src len bK dd es=lf dd es:=by unfold jZ;omega
 refine(Qg (bP.T cP J)).mono ?_;rintro r ap jh ⟨rfl,C,fg⟩;have eA:=cP.trans C J;have Bq:=(C U J).trans l5;have L:=(C (U+1) J).trans xy;have Mn:=(C (U+1+1) J).trans uu
 by_cases HX:lf dd es=0
 case neg =>
  have aO:(lf dd es == 0)=false:=ab
  refine cQ @aO @Mn ?_;exact zero Z eA J
 rw[HX]at Z ⊢;have D:=afN HX D;obtain⟨N,rfl,d7,tZ,kx⟩:=(J3.1 HX).ges;have V:=((bP.T cP J).T C fg).map tZ;rw[<-gn ]at D;generalize mq:es.map nu=aV at D kx V;have g:es.length=aV.length:=ab
 rw[g]at L V;have s1:pd N (U+1) U h ap jh aV (.slice a2 aV.length ry):=⟨L,Mn,V,kx,eA,J⟩
 rw[Z];have tail:∀{ac:ae} {Y:Nat} {aV:aa GE} {a:aw Addr} {n c:Nat},pd N (U+1) U h ac Y aV (.slice a n c)->U<=Y->aV.length<=120->sg s (Dz 0 U h) (.pointer (some ⟨U+1,0,none⟩)) (.pointer (some ⟨U+1+1,0,none⟩)) ac Y:=λ{ac Y aV a n c} S aY bA=>by have ct:=S.lt;unfold sg;refine bh S.g ?_;refine(au1 S.p d7 S.ok bA).mono ?_;rintro r cy P ⟨m,rfl,ei,ji,n2⟩;obtain⟨x,y,cI,bQ,d6,a5,bX,bW,c1,c2,fL,rfl⟩:=ei.form;have oy:=(ji _ S.lt).trans S.m;unfold K7;refine bh @oy ?_;exact⟨_,rfl,ei.T ab J J,λb aO=>by rw[ar J,ji b J];exact S.k b aO,J⟩
 have plain:∀{ac:ae} {Y:Nat} {aV:aa GE} {a:aw Addr} {n c:Nat},pd N (U+1) U h ac Y aV (.slice a n c)->U<=Y->aV.length<=120->aH Q s 188 [.agg ⟨[(N:X),.slice a n c]⟩] ac Y λI E Br=>(dj I).length=2/\af (j4 (u E (U+1)) E (U+1) 0 (dj I)) λM=>sg s (Dz 0 U h) (.pointer (some ⟨U+1,0,none⟩)) (.pointer (some ⟨U+1+1,0,none⟩)) M Br:=λ{ac Y aV a n c} S aY bA=>by refine(abO S.p J bA S.ok).mono ?_;intro r cy P bb;obtain⟨cs,bm,n6,hv,rfl,g,dt,K,uv⟩:=S.put J bb;refine bh @dt ?_;exact tail uv J (by have:=zZ (p:=λ_=>true) (m:=AT) aV;unfold Am at g;omega)
 have yF:∀{ac:ae} {Y:Nat} {aV:aa GE} {a:aw Addr} {n c:Nat},pd N (U+1) U h ac Y aV (.slice a n c)->U<=Y->aV.length<=60->aH Q s 181 [.agg ⟨[(N:X),.slice a n c]⟩] ac Y λHY Bs Bt=>(dj HY).length=2/\af (j4 (u Bs (U+1)) Bs (U+1) 0 (dj HY)) λvy=>af (CS (u vy (U+1)) λcs x=>hV (some 2) 0 cs) λT3=>aH Q s 188 [T3] vy Bt λI E Br=>(dj I).length=2/\af (j4 (u E (U+1)) E (U+1) 0 (dj I)) λM=>sg s (Dz 0 U h) (.pointer (some ⟨U+1,0,none⟩)) (.pointer (some ⟨U+1+1,0,none⟩)) M Br:=λ{ac Y aV a n c} S aY bA=>by refine(aee S.p J bA S.ok).mono ?_;rintro r cy P ⟨ag,_,y5,_,bb⟩;obtain⟨cs,bm,n6,hv,rfl,g,dt,K,uv⟩:=S.put J bb;rw[jd]at g;refine bh @dt ?_;exact plain uv J J
 refine cQ @L @Bq ?_;refine⟨λ_=>?_,λ_=>⟨λ_=>yF s1 J D,λ_=>⟨λ_=>plain s1 J J,λ_=>tail s1 J J⟩⟩⟩;refine(ZJ s1.p J J kx).mono ?_;intro r cy P bb;obtain⟨cs,bm,n6,hv,rfl,g,dt,K,uv⟩:=s1.put J bb;have Bo:=zZ (p:=CX) (m:=id) aV;unfold Gn at g;refine bh @dt ?_;exact yF uv J J
def pI(k n src len:Int)(bK:aa Int)(dd:Int)(es:aa iy)(lim:Int):Int:=if jZ k n src len bK dd es≠0 then jZ k n src len bK dd es else if lim<0\/8192<lim then 3 else 0
theorem anP{g:Int}(P:cr h U eQ cq bK)(L:fF h U gO iz es)(E:es.length<=60\/65536<es.length):
  aH Q s 200 [.agg ⟨[(k:X),(n:X),(src:X),(len:X),eQ]⟩,.agg ⟨[(dd:X),gO]⟩,(g:X)] h U (dJ (.int .i64 (pI k n src len bK dd es g)) U h):=by
 refine aq4 ?_;obtain⟨a,cap,rfl,a1⟩:=id P;obtain⟨a2,M,rfl,nq⟩:=id L;unfold adM;refine aD ?_;have K:∀{o a0},aA U h (F (F h U o) (U+1) a0):=aN
 refine(anO (P.T K J) (L.T K J) E).mono ?_;rintro r V C ⟨m,rfl,ei,d0,I⟩;obtain⟨x,y,cI,bQ,d6,a5,bX,bW,c1,c2,fL,rfl⟩:=ei.form;have D:∀{o a0},aA U h (F (F V C o) C a0):=aN
 unfold K7
 by_cases au:jZ k n src len bK dd es=0
 case neg =>
  have aO:(jZ k n src len bK dd es == 0)=false:=ab
  refine bh @aO ?_;exact⟨by unfold pI;grind,D,J⟩
 rw[au];have e:pI k n src len bK dd es g=if g<0\/8192<g then 3 else 0:=by unfold pI;omega
 refine aD ?_;rw[e];refine⟨λap=>⟨ab,D,J⟩,λap=>⟨λZ=>⟨ab,D,J⟩,λZ=>⟨ab,D,J⟩⟩⟩
def j9(n m:Int):al:=decide (1<=n/\n<=m)
structure i2 where
 k:Int
 n:Int
 src:Int
 len:Int
 bK:aa Int
 dd:Int
 es:aa iy
 R:Int
 C:Int
 M:Int
 lim:Int
 vz:Nat
def hc(x:i2):Int:=if pI x.k x.n x.src x.len x.bK x.dd x.es x.lim≠0 then pI x.k x.n x.src x.len x.bK x.dd x.es x.lim
 else if j9 x.R 8=false then 3 else if j9 x.C 8=false then 3 else if j9 x.M 64=false then 3 else if 8192<x.vz then 5 else 0
def gR(x:i2)(eQ gO e2:X):aa X:=[(x.k:X),(x.n:X),(x.src:X),(x.len:X),eQ,(x.dd:X),gO,(x.R:X),(x.C:X),(x.M:X),(x.lim:X),e2]
structure pC (h:ae) (U:Nat) (x:i2) (eQ gO e2:X):Prop where
 d:cr h U eQ cq x.bK
 e:fF h U gO iz x.es
 c:∃a n,e2 = .slice a x.vz n
 l:x.es.length<=60\/65536<x.es.length
theorem pC.T{h ac:ae}{U Y:Nat}{x:i2}{eQ gO e2:X}(H:pC h U x eQ gO e2)(C:aA U h ac)(g:U<=Y):pC ac Y x eQ gO e2:=⟨H.d.T C g,H.e.T C g,H.c,H.l⟩
theorem J4{x:i2}(H:pC h U x eQ gO e2):aH Q s 121 [.agg ⟨gR x eQ gO e2⟩] h U (dJ (.int .i64 (hc x)) U h):=by
 refine aq3 ?_;obtain⟨a,cap,rfl,a1⟩:=id H.d;obtain⟨a2,P,rfl,nq⟩:=id H.e;obtain⟨a3,V,rfl⟩:=H.c;unfold adL gR;have M:∀{o},aA U h (F h U o):=aN
 refine aD ?_;refine(anP (H.d.T M J) (H.e.T M J) H.l).mono ?_;rintro r h1 lq ⟨rfl,I,K⟩;have g:=I U J;rw[aT]at g;have C:aA U h h1:=aN
 generalize bp:pI x.k x.n x.src x.len x.bK x.dd x.es x.lim=aB5
 by_cases au:aB5=0
 case neg =>
  have aO:(aB5 == 0)=false:=ab
  refine bh @aO ?_;exact⟨by unfold hc;grind,C,J⟩
 subst au;have e:hc x=if j9 x.R 8=false then 3 else if j9 x.C 8=false then 3 else if j9 x.M 64=false then 3 else if 8192<x.vz then 5 else 0:=by unfold hc;omega
 rw[e];refine bh @g ?_;refine ON.mono ?_;rintro r Z L ⟨rfl,D,E⟩;rw[D,E];change af (dv .not (.bool (j9 x.R 8))) _;cases ei:j9 x.R 8 with
 |false =>
  refine bh @g ?_;exact⟨rfl,C,J⟩
 |true =>
 refine bh @g ?_;refine ON.mono ?_;rintro r Z L ⟨rfl,D,E⟩;rw[D,E];change af (dv .not (.bool (j9 x.C 8))) _;cases d5:j9 x.C 8 with
 |false =>
  refine bh @g ?_;exact⟨rfl,C,J⟩
 |true =>
 refine bh @g ?_;refine ON.mono ?_;rintro r Z L ⟨rfl,D,E⟩;rw[D,E];change af (dv .not (.bool (j9 x.M 64))) _;cases iv:j9 x.M 64 with
 |false =>
  refine bh @g ?_;exact⟨rfl,C,J⟩
 |true =>
 refine bh @g ?_;exact⟨λcy=>⟨ab,C,J⟩,λcy=>⟨ab,C,J⟩⟩
def yL(x:i2)(EB:aa cx)(w:Int):Int:=if hc x≠0 then hc x else if 1048576<EB.length then 5 else if EB.any (λm=>!ww m)=true then 8 else if lv w 1048576=false then 3 else 0
theorem Yf{x:i2}{g:aa cx}{w:Int}{P:X}(H:pC h U x eQ gO e2)(bp:cr h U P yJ g)(Bo:g.length<=60\/1048576<g.length):
  aH Q s 161 [.agg ⟨gR x eQ gO e2⟩,P,(w:X)] h U (dJ (.int .i64 (yL x g w)) U h):=by
 refine anb ?_;obtain⟨a,cap,rfl,a1⟩:=id bp;unfold abx;have bT:∀{o},aA U h (F h U o):=aN
 obtain⟨a3,I,rfl⟩:=id H.c;obtain⟨aB,D,rfl,_⟩:=id H.d;obtain⟨a2,E,rfl,_⟩:=id H.e;generalize Z:gR x (.slice aB x.bK.length D) (.slice a2 x.es.length E) (.slice a3 x.vz I)=gX at *
 have C:=Z;unfold gR at C;rw[<-C];refine aD ?_;rw[C,<-Z];refine(J4 (H.T bT J)).mono ?_;rintro r h1 lq ⟨rfl,d0,V⟩;have K:aA U h h1:=aN
 by_cases au:hc x=0
 case neg =>
  have aO:(hc x == 0)=false:=ab
  refine bh @aO ?_;exact⟨by unfold yL;grind,K,J⟩
 have e:yL x g w=if 1048576<g.length then 5 else if g.any (λm=>!ww m)=true then 8 else if lv w 1048576=false then 3 else 0:=by unfold yL;omega
 rw[e,au];refine aD ?_;refine⟨λcy=>⟨ab,K,J⟩,λcy=>?_⟩;rw[if_neg J];refine(anH (bp.T K J) J (λx h U=>ajg)).mono ?_;rintro r ap jh ⟨rfl,L,fg⟩;have M:=K.trans L J;cases cW:g.any (λm=>!ww m)with
 |true =>
  refine aD ?_;exact⟨rfl,M,J⟩
 |false =>
 refine aD ?_;refine Fw.mono ?_;rintro r aM bW ⟨rfl,aW,aK⟩;rw[aW,aK];cases aO:lv w 1048576 with
 |false =>
  refine aD ?_;exact⟨rfl,M,J⟩
 |true =>
  refine aD ?_;exact⟨rfl,M,J⟩
def DA(x:i2)(r:Int):Int:=if lv r 8192=false then 0 else if hc x≠0 then 0 else 4*(x.R+x.C+4)*(r+2)
theorem akV{x:i2}{w:Int}(H:pC h U x eQ gO e2):
  aH Q s 75 [.agg ⟨gR x eQ gO e2⟩,(w:X)] h U (dJ (.int .i64 (DA x w)) U h):=by
 refine ang ?_;have bT:∀{o},aA U h (F h U o):=aN
 obtain⟨a3,I,rfl⟩:=id H.c;obtain⟨aB,D,rfl,_⟩:=id H.d;obtain⟨a2,E,rfl,_⟩:=id H.e;unfold abz;have L:gR x (.slice aB x.bK.length D) (.slice a2 x.es.length E) (.slice a3 x.vz I)=_:=rfl;unfold gR at L ⊢;refine aD ?_;refine Fw.mono ?_;rintro r aM bW ⟨rfl,aW,aK⟩;rw[aW,aK];unfold OI;cases M:lv w 8192 with
 |false =>
  refine aD ?_;exact⟨by unfold DA;grind,bT,J⟩
 |true =>
 have e:DA x w=if hc x≠0 then 0 else 4*(x.R+x.C+4)*(w+2):=by unfold DA;grind
 rw[e];refine aD ?_;refine(J4 (H.T bT J)).mono ?_;rintro r K lq ⟨rfl,P,Z⟩;have g:=P U J;rw[aT]at g;have cP:aA U h K:=aN
 by_cases C:hc x=0
 case neg =>
  have M:(hc x == 0)=false:=ab
  refine bh @M ?_;exact⟨ab,cP,J⟩
 have V:(1<=x.R/\x.R<=8)/\1<=x.C/\x.C<=8:=by
  unfold hc at C
  split at C
  ·omega
  ·split at C
   ·omega
   ·split at C
    ·omega
    ·rename_i K ap aM
     exact⟨of_decide_eq_true (by unfold j9 at ap;grind),of_decide_eq_true (by unfold j9 at aM;grind)⟩
 have b0:0<=w/\w<=8192:=of_decide_eq_true M;obtain⟨⟨hR1,hR2⟩,hC1,hC2⟩:=V;have m1:0<=(4*(x.R+x.C+4))*(w+2):=Int.mul_nonneg J J;have m2:(4*(x.R+x.C+4))*(w+2)<=80*8194:=Int.mul_le_mul J J J J;have aC5:∀n:Int,-9223372036854775808<=n->n<=9223372036854775807->tw .i64 n=n:=λn C K=>by rw[nT];exact jG C K
 rw[C,if_neg (by simp)];refine bh @g ?_;refine⟨?_,cP,J⟩;rw[jG (n:=x.R+x.C) J J,jG  J J,aC5 (Int.mul 4 (x.R+x.C+4)) ab ab,jG  J J]
 grind
theorem fT:px Tryz.prog 24=some (some 2):=by kernel_rfl
theorem own:ownKnob Tryz.prog.godebug=none:=by kernel_rfl
theorem arF:laidOutB Tryz.prog=true:=by kernel_rfl
def ku:Field:={ name := "G",type:=24,offset:=0,embedded:=false,tag := "",pkgPath := "",byteOffset:=0 }
def IL:Field:={ name := "V",type:=3,offset:=2,embedded:=false,tag := "",pkgPath := "",byteOffset:=32 }
def IM:Field:={ name := "R",type:=5,offset:=3,embedded:=false,tag := "",pkgPath := "",byteOffset:=40 }
def hZ:Field:={ name := "C",type:=5,offset:=4,embedded:=false,tag := "",pkgPath := "",byteOffset:=41 }
def IN:Field:={ name := "N",type:=3,offset:=0,embedded:=false,tag := "",pkgPath := "",byteOffset:=0 }
def GH:Field:={ name := "Edges",type:=22,offset:=1,embedded:=false,tag := "",pkgPath := "",byteOffset:=8 }
def afP:Field:={ name := "From",type:=3,offset:=0,embedded:=false,tag := "",pkgPath := "",byteOffset:=0 }
def fTo:Field:={ name := "To",type:=3,offset:=1,embedded:=false,tag := "",pkgPath := "",byteOffset:=8 }
def aB6:Field:={ name := "W",type:=2,offset:=2,embedded:=false,tag := "",pkgPath := "",byteOffset:=16 }
theorem u26:Tryz.prog.underlying 26=some (.struct #[ku,IL,IM,hZ]):=by kernel_rfl
theorem u24:Tryz.prog.underlying 24=some (.struct #[IN,GH]):=by kernel_rfl
theorem u52:Tryz.prog.underlying 124=some (.struct #[afP,fTo,aB6]):=by kernel_rfl
theorem u22:Tryz.prog.underlying 22=some (.slice 124):=by kernel_rfl
theorem aB7:Tryz.prog.underlying 5=some (.int .u8):=by kernel_rfl
theorem aC6:Tryz.prog.underlying 4=some .bool:=by kernel_rfl
theorem T4:Tryz.prog.cellsOf 26=5:=by kernel_rfl
theorem n24:Tryz.prog.cellsOf 24=2:=by kernel_rfl
theorem n52:Tryz.prog.cellsOf 124=3:=by kernel_rfl
theorem Mo:Tryz.prog.cellsOf 22=1:=by kernel_rfl
theorem fP:Tryz.prog.cellsOf 5=1:=by kernel_rfl
theorem azu:Tryz.prog.cellTypes Tryz.prog.depth 26=some [3,22,3,5,5]:=by kernel_rfl
theorem axC:Tri Tryz.prog 124:=⟨⟨_,afP,fTo,aB6,u52,rfl,rfl,rfl,rfl,rfl,rfl,zq,zq,Ey,b8,b8,c2⟩,n52⟩
section
variable {H:Type} {enc:TypeId × X->H} {w:World} {aS:Nat->al}
theorem akW{r:Reach}{Ew:Nat}{d:DataW H}{b7:aa MemPlace}(D:Value.okWide Tryz.prog w r Ew 26 v)(h:DataW.Trod enc Tryz.prog w 0 aS true 26 v d b7):
  ∃(n V R C:Int) (m5:X) (uw:aa iy),v = .agg ⟨[(n:X),m5,(V:X),.int .u8 R,.int .u8 C]⟩/\((uw=[]/\m5 = .slice none 0 0)\/∃b P cap,m5 = .slice (some ⟨b,P,none⟩) uw.length cap/\KJ w b P (bd iz uw))/\(0<=R/\R<=255)/\0<=C/\C<=255:=by
 have u8b:∀{n:Int},(Lit.int .u8 n).wf=true->0<=n/\n<=255:=λ{n} h=>by simp[Lit.wf,IntKind.min,IntKind.max,IntKind.bits,IntKind.signed]at h;omega
 unfold Value.okWide at D;rw[u26]at D;obtain⟨cs,rfl,lP,ag,lQ,_,M⟩:=D;rw[azu]at lQ;cases lQ;rw[T4]at lP;obtain⟨l⟩:=cs
 match l,lP with
 | [a,b,c,e,f],_ =>
  obtain⟨Ds,bE⟩:=h;have bE:DataW.trod enc Tryz.prog w 0 aS true Ds 26 [a,b,c,e,f]=some (d,b7):=bE;obtain⟨xs,n,rfl,_,gz,Bd,nj⟩:=DataW.trod_struct u26 bE;have Bd:xs.length=4:=Bd;have get:∀(i:Nat) (g:Field),#[ku,IL,IM,hZ][i]? = some g->∃y,DataW.trod enc Tryz.prog w 0 aS true n g.type (([a,b,c,e,f].drop g.offset).take (Tryz.prog.cellsOf g.type))=some y:=λi g E=>by have aj:i<4:=(I5.1 E).1;exact⟨xs[i]'J,by rw[nj i g E,oB]⟩
  obtain⟨cz,au⟩:=get 0 ku rfl;obtain⟨cB,h1⟩:=get 1 IL rfl;obtain⟨cE,ap⟩:=get 2 IM rfl;obtain⟨cg,aM⟩:=get 3 hZ rfl;rw[show ku.type=24 from rfl,show ku.offset=0 from rfl,n24]at au;rw[show IL.type=3 from rfl,show IL.offset=2 from rfl,b8]at h1;rw[show IM.type=5 from rfl,show IM.offset=3 from rfl,fP]at ap;rw[show hZ.type=5 from rfl,show hZ.offset=4 from rfl,fP]at aM;obtain⟨V,rfl⟩:=X2 zq h1;obtain⟨R,EC,_,aC7⟩:=DataW.trod_int aB7 ap;obtain⟨C,ED,_,aC8⟩:=DataW.trod_int aB7 aM;injection EC with EC _
  injection ED with ED _
  subst EC ED;have au:DataW.trod enc Tryz.prog w 0 aS true n 24 [a,b]=some cz:=au;obtain⟨Z,jR,rfl,_,_,K,L⟩:=DataW.trod_struct u24 au;have K:Z.length=2:=K;have I:∀(i:Nat) (g:Field),#[IN,GH][i]? = some g->∃y,DataW.trod enc Tryz.prog w 0 aS true jR g.type (([a,b].drop g.offset).take (Tryz.prog.cellsOf g.type))=some y:=λi g E=>by have aj:i<2:=(I5.1 E).1;exact⟨Z[i]'J,by rw[L i g E,oB]⟩
  obtain⟨pe,hu⟩:=I 0 IN rfl;obtain⟨h3,gE⟩:=I 1 GH rfl;rw[show IN.type=3 from rfl,show IN.offset=0 from rfl,b8]at hu;rw[show GH.type=22 from rfl,show GH.offset=1 from rfl,Mo]at gE;obtain⟨N,rfl⟩:=X2 zq hu;obtain⟨aI,ej,hF⟩:=M 1 b rfl;cases ej;obtain⟨uw,_,cL⟩:=aqE (cf:=iz) (k:=3) u22 n52 (λ_=>True) (λn c y cd=>by obtain⟨e,bP,_⟩:=amD axC cd;exact⟨e,bP,trivial⟩) gE hF;exact⟨N,V,R,C,b,uw,rfl,cL,u8b aC7,u8b aC8⟩
end
theorem jN.iG(h:jN x y)(ac:jN y z):jN x z:=by unfold jN at *;omega
theorem bC.cut{B:om}{g:aa X}{C:aP}(D:aP)(K:∀g h U,D g h U->C g h U)(I:∀E,(∀g h U,D g h U->E g h U)->bC B g h U [(i,E)] R):bC B g h U [(i,C)] R:=I C K
end Go.Proofs.YthlhhajnbgjfmaaGreat
