/- Parts of the proof: HwFn2: each statement bears its own conditions. -/
import Derived.Test.YthlhhajnbgjfmaaGreatProg
import Derived.KernelRfl
import Derived.Test.YthlhhajnbgjfmaaGreatRows
import Derived.WalkKit
import Derived.ProofKit
import Derived.OpenShut
import Derived.ChangeOld
import Derived.Below
import Derived.Test.YthlhhajnbgjfmaaGreatRwHwFn1
namespace Go.Proofs.YthlhhajnbgjfmaaGreat
open Go Go.Ax Go.ChangeShapes Go.WideShapes Go.ChangeAt Go.RowKit
set_option linter.all false
set_option maxHeartbeats 1000000
variable {U:Nat} {h:ad} {s:ak} {gs:aa GE} {v:X} {N:Nat} {n:Int} {es:aa gS} {B:aa GE} {ao i:Nat} {R:aH} {ew gi a2:X} {bt:aa Int} {aF:aH} {ai:Nat} {K:X->ad->Nat->Prop} {A:aa dn} {e:GE} {v2:X} {aA:Type} {k:Nat} {p:GE->ak} {aV ax j2 os:X} {src len:Int} {cs:aa X} {x y:dn} {a0 bf v1 eG a3:X} {dQ dC:aa Int} {l:aa dn} {Y:Nat} {m:Int} {b:Nat} {ac:ad} {bl aZ r:X} {e4:Nat} {va:aa dn} {af:aa GE} {bI:Int} {z:dn} {f a:Nat} {bo:X} {o dy:aa aA} {bC:ak} {gv:Nat} {aJ:aH} {bO:Nat} {al h1:ad}
def i3(x y:dn):Prop:=x.1<y.1\/(x.1=y.1/\x.2.1<y.2.1)
def awf(es:aa dn)(x:dn):Prop:=x∈es/\∀y∈es,Ends x y->x.2.2<=y.2.2
structure rq (A B:aa dn):Prop where
 mem:∀x,x∈B↔awf A x
 It:∀y∈A,∃z∈B,Ends z y
structure jd (A B:aa dn):Prop where
 up:B.Pairwise i3
 ES:rq A B
theorem Ends.symm{x y:dn}(h:Ends x y):Ends y x:=⟨h.1.symm,h.2.symm⟩
theorem Ends.trans{x y z:dn}(h:Ends x y)(ac:Ends y z):Ends x z:=⟨h.1.trans ac.1,h.2.trans ac.2⟩
theorem Ends.refl(x:dn):Ends x x:=⟨rfl,rfl⟩
theorem i3.ne(h:i3 x y):¬Ends x y:=λe=>by unfold i3 at h;have:=e.1;have:=e.2;omega
theorem i3.jw(h:i3 x y)(ac:i3 y x):False:=by unfold i3 at *;omega
theorem Ym:∀{l C:aa dn},l.Pairwise i3->C.Pairwise i3->(∀x,x∈l↔x∈C)->l=C
 | [],[],_,_,_=>rfl
 | [],b::L,_,_,h=>absurd ((h b).2 (ow ..)) (by simp)
 |a::t,[],_,_,h=>absurd ((h a).1 (ow ..)) (by simp)
 |a::t,b::L,h1,al,h=>by
  have E:∀x∈t,i3 a x:=λx g=>tR h1 g;have I:∀x∈L,i3 b x:=λx g=>tR al g;have D:a=b:=by
   rcases hf.1 ((h a).1 (ow ..))with e|e
   ·exact e
   ·rcases hf.1 ((h b).2 (ow ..))with aJ|aJ
    ·grind
    ·exact((I a e).jw (E b aJ)).elim
  subst D
  congr 1
  refine Ym h1.of_cons al.of_cons λx=>⟨λg=>?_,λg=>?_⟩
  ·rcases hf.1 ((h x).1 (m8 _ g))with e|e
   ·subst e;exact((E x g).ne (Ends.refl x)).elim
   omega
  ·rcases hf.1 ((h x).2 (m8 _ g))with e|e
   ·subst e;exact((I x g).ne (Ends.refl x)).elim
   omega
theorem jd.unique{B C:aa dn}(h:jd A B)(ac:jd A C):B=C:=Ym h.up ac.up λx=>(h.ES.mem x).trans (ac.ES.mem x).symm
def qa(z e:dn):dn:=(z.1,z.2.1,min z.2.2 e.2.2)
theorem rq.agt{B:aa dn}(h:rq A B){e:dn}(cX:z∈B)(g:Ends z e)(dZ:∀x,x∈va↔(x∈B/\¬Ends x e)\/x=qa z e):rq (A++[e]) va:=by
 have L:=(h.mem z).1 cX;refine⟨λx=>?_,λy D=>?_⟩
 ·rw[dZ];constructor
  ·rintro(⟨E,bm⟩|rfl)
   ·have Cj:=(h.mem x).1 E;refine⟨CM _ Cj.1,λy D P=>?_⟩;rcases g6.1 D with D|D
    ·exact Cj.2 y D P
    grind
   ·refine⟨?_,λy D P=>?_⟩
    ·by_cases dr:z.2.2<=e.2.2
     ·have:qa z e=z:=by unfold qa;grind
      rw[this];exact CM _ L.1
     ·have:qa z e=e:=by unfold qa;rw[Int.min_eq_right J,g.1,g.2]
      grind
    ·rcases g6.1 D with D|D
     ·have:=L.2 y D P;show min z.2.2 e.2.2<=_;omega
     ·rw[iR.1 D];show min z.2.2 e.2.2<=_;omega
  ·rintro⟨E,V⟩
   by_cases C:Ends x e
   ·refine .inr ?_;have h1:=V e (by simp) C;have al:=V z (CM _ L.1) (C.trans g.symm);have aM:x.2.2=min z.2.2 e.2.2:=by
     rcases g6.1 E with E|E
     ·have:=L.2 x E (g.trans C.symm);omega
     grind
    have aY:x.1=z.1:=C.1.trans g.1.symm;have aJ:x.2.1=z.2.1:=C.2.trans g.2.symm;obtain⟨ih,jC,hZ⟩:=x;unfold qa
    grind
   ·refine .inl ⟨(h.mem x).2 ⟨?_,ab⟩,C⟩;rcases g6.1 E with E|E
    ·omega
    ·rw[iR.1 E]at C;exact absurd (Ends.refl e) C
 ·have Z:qa z e∈va:=ab
  rcases g6.1 D with D|D
  ·obtain⟨q,cz,I⟩:=h.It y D
   by_cases M:Ends q e
   ·exact⟨_,Z,(show Ends (qa z e) z from⟨rfl,rfl⟩).trans (g.trans (M.symm.trans I))⟩
   ·exact⟨q,ab,I⟩
  ·rw[iR.1 D];exact⟨_,Z,(show Ends (qa z e) z from⟨rfl,rfl⟩).trans g⟩
theorem rq.agu{B:aa dn}(h:rq A B){e:dn}(V:∀z∈B,¬Ends z e)(L:∀x,x∈va↔x∈B\/x=e):rq (A++[e]) va:=by
 refine⟨λx=>?_,λy g=>?_⟩
 ·rw[L];constructor
  ·rintro(D|rfl)
   ·have I:=(h.mem x).1 D;refine⟨CM _ I.1,λy g E=>?_⟩;rcases g6.1 g with g|g
    ·exact I.2 y g E
    grind
   ·refine⟨by simp,λy g E=>?_⟩;rcases g6.1 g with g|g
    ·obtain⟨q,M,C⟩:=h.It y g;exact absurd (C.trans E.symm) ab
    grind
  ·rintro⟨D,P⟩;rcases g6.1 D with D|D
   ·exact .inl ((h.mem x).2 ⟨D,ab⟩)
   grind
 ·rcases g6.1 g with g|g
  ·obtain⟨q,M,C⟩:=h.It y g;exact⟨q,ab,C⟩
  ·rw[iR.1 g];exact⟨e,ab,Ends.refl e⟩
theorem rq.nil:rq [] []:=⟨λx=>⟨λ(h:x∈([]:aa dn))=>(tT h).elim,λh=>(tT h.1).elim⟩,λy g=>(tT g).elim⟩
def Ed(l:aa dn):Prop:=l.Pairwise λx y=>¬Ends x y
theorem ZQ(e:dn):∀(l:aa dn),Ed l->Ed (iT e l)/\((∃z∈l,Ends z e/\∀x,x∈iT e l↔(x∈l/\¬Ends x e)\/x=qa z e)\/((∀z∈l,¬Ends z e)/\∀x,x∈iT e l↔x∈l\/x=e))
 | [],_=>⟨by unfold iT Ed;simp,.inr ⟨by simp,λx=>by simp[iT]⟩⟩
 |z::l,V=>by
  have aU:iT e (z::l)=(bif fN z.1 e.1&&fN z.2.1 e.2.1 then(z.1,z.2.1,bif lK e.2.2 z.2.2 then e.2.2 else z.2.2)::l else z::iT e l):=rfl;have C:∀x∈l,¬Ends z x:=λx g=>tR V g;rw[aU];cases M:(fN z.1 e.1&&fN z.2.1 e.2.1)with
  |true =>
   simp only[eD,lo,vn]at M;have D:Ends z e:=⟨M.1,M.2⟩
   have E:((z.1,z.2.1,bif lK e.2.2 z.2.2 then e.2.2 else z.2.2):dn)=qa z e:=by
    unfold qa;rw[rS]
    grind
   rw[E];simp only[oy];refine⟨List.Pairwise.cons (λx g L=>C x g ((show Ends z (qa z e)from⟨rfl,rfl⟩).trans L)) V.of_cons,.inl ⟨z,ab,D,λx=>?_⟩⟩;constructor
   ·intro g;rcases hf.1 g with rfl|g
    ·grind
    ·exact .inl ⟨ab,λL=>C x g (D.trans L.symm)⟩
   grind
  |false =>
   have D:¬Ends z e:=λh=>by
    have:(fN z.1 e.1&&fN z.2.1 e.2.1)=true:=by simp only[eD,lo,vn];exact⟨h.1,h.2⟩
    grind
   obtain⟨h1,al⟩:=ZQ e l V.of_cons;simp only[lH];have P:∀x∈iT e l,¬Ends z x:=λx g L=>by
    rcases al with⟨q,Z,I,E⟩|⟨bm,E⟩
    ·rcases(E x).1 g with⟨g,_⟩|rfl
     ·grind
     ·exact C q Z (L.trans (show Ends (qa q e) q from⟨rfl,rfl⟩))
    grind
   refine⟨List.Pairwise.cons P h1,?_⟩;rcases al with⟨q,Z,I,E⟩|⟨bm,E⟩
   ·refine .inl ⟨q,ab,I,λx=>?_⟩
    grind
   grind
theorem ZR:∀(l A g:aa dn),Ed g->rq A g->Ed (iA g l)/\rq (A++l) (iA g l)
 | [],A,g,h1,al=>by rw[hM];exact⟨h1,al⟩
 |e::l,A,g,h1,al=>by
  obtain⟨L,M⟩:=ZQ e g h1;have E:rq (A++[e]) (iT e g):=by
   rcases M with⟨z,I,D,C⟩|⟨P,C⟩
   ·exact al.agt I D C
   ·exact al.agu P C
  have:=ZR l (A++[e]) (iT e g) L E;rw[kB]at this;exact this
theorem aro(h:¬kp y x<0)(g:¬Ends x y):i3 x y:=by rw[GS]at h;unfold i3;unfold Ends at g;omega
theorem anN{g:aa dn}(D:g.Perm (iA [] l))(I:g.Pairwise λx y=>¬kp y x<0):jd l g:=by
 obtain⟨h1,al⟩:=ZR l [] [] (by exact List.Pairwise.nil) rq.nil;rw[tU]at al;have L:Ed g:=(D.pairwise_iff (λ{x y} h e=>h e.symm)).2 h1;refine⟨?_,λx=>(D.mem_iff).trans (al.mem x),λy E=>?_⟩
 ·exact List.Pairwise.imp₂ (λx y h M=>aro h M) I L
 ·obtain⟨z,P,C⟩:=al.It y E;exact⟨z,ab,C⟩
theorem jd.self(h:l.Pairwise i3):jd l l:=by
 have E:∀(l:aa dn),l.Pairwise i3->∀x∈l,∀y∈l,Ends x y->x=y:=by
  intro l
  induction l with
  |nil=>grind
  |cons a l I =>
   intro h x g y C D;rcases hf.1 g with g|g <;> rcases hf.1 C with C|C
   ·grind
   ·rw[g]at D;exact((tR h C).ne D).elim
   ·rw[C]at D;exact((tR h g).ne D.symm).elim
   grind
 exact⟨h,λx=>⟨λg=>⟨g,ab⟩,λg=>g.1⟩,λy C=>⟨y,C,Ends.refl y⟩⟩
structure agv (N:Nat) (gs cs:aa GE):Prop where
 can:jd (gs.map di) (cs.map di)
 ends:aa1 gs cs
 ok:∀g∈cs,fy N g
 len:cs.length<=gs.length
theorem awg(N:Nat)(gs:aa GE)(cU:N<=2147483648)(I:∀g∈gs,fy N g)(P:l.Perm (iA [] (gs.map di)))(ar:l.Pairwise λx y=>¬kp y x<0):agv N gs (l.map Cq)/\(l.map Cq).map di=l:=by
 have M:∀x∈iA [] (gs.map di),l8 x:=Kk (λx C=>by obtain⟨g,E,rfl⟩:=fL.1 C;exact abm cU (I g E)) (λx C=>by cases C)
 obtain⟨aY,aJ⟩:=YS (gs.map di) [];have V:∀x∈iA [] (gs.map di),di (Cq x)=x:=λx C=>by obtain⟨h1,al,aM⟩:=M x C;obtain⟨a,dg,_⟩:=vt h1;obtain⟨b,aG,_⟩:=vt al;obtain⟨ih,jC,hZ⟩:=x;simp only at dg aG;subst dg;subst aG;rfl
 have L:(l.map Cq).map di=l:=by
  rw[pW]
  conv=>rhs;rw[<-List.map_id l]
  exact qO ab
 have D:∀x∈iA [] (gs.map di),∃g∈gs,(Cq x).f=g.f/\(Cq x).t=g.t:=λx C=>by obtain⟨y,ca,h1,al⟩:=aY x C;obtain⟨g,E,rfl⟩:=fL.1 (by simpa using ca);exact⟨g,E,by show x.1.toNat=_;rw[h1];rfl,by show x.2.1.toNat=_;rw[al];rfl⟩
 refine⟨⟨by rw[L];exact anN P ar,⟨λg E=>?_,λc Z=>?_⟩,λc Z=>?_,?_⟩,L⟩
 ·obtain⟨x,C,h1,al⟩:=aJ (di g) ab;exact⟨Cq x,ab,by show x.1.toNat=_;rw[h1];rfl,by show x.2.1.toNat=_;rw[al];rfl⟩
 ·obtain⟨x,C,rfl⟩:=fL.1 Z;obtain⟨g,E,h1,al⟩:=D x ab
  grind
 ·obtain⟨x,C,rfl⟩:=fL.1 Z;have C:=P.subset C;obtain⟨g,E,h1,al⟩:=D x C;obtain⟨_,_,aM⟩:=M x C;obtain⟨w,bN,uE⟩:=vt aM;exact⟨by rw[h1];exact(I g E).1,by rw[al];exact(I g E).2.1,by show 0<=x.2.2;omega,by show x.2.2<=_;omega⟩
 ·rw[g5,P.length_eq];have:=PI (gs.map di) []
  grind
set_option maxRecDepth 1000000
def HC:aa (aa Nat):=[[0,4,5,6,22,23,24],[0,4,5,13,52]]
def afb(s:ak)(a0 aV bl bf en jB fi:X)(h:ad)(U:Nat)(N:aH)(aF:aH)(R:aH):Prop:=cq fi jB (hq 3 h 3 en fi λc=>cJ [(ae 0),(ae 0),(ae 0)] h U λd e f=>ag (a7 e 3 d c) λg=>ay g 0 d λj=>ay g 1 d λl=>ag (c8 [(ae 0),(ae 0)] [(0,1,j),(1,1,l)]) λm=>cJ [(ae 0),(ae 0)] g f λn o p=>ag (a7 o 2 n m) λq=>ay q 2 d λt=>bh s 260 [t] q p λaT v w=>cJ [(ae 0),(.int .u64 0)] v w λx y z=>ag (a7 y 2 x aT) λbX=>a4 2 bX n λch=>ag (lL Q bX 53 (.agg #[(ae 0),(.int .u64 0)]) true bf ch) λbV=>ag (dz bV 0) λbp=>ag (dz bV 1) λb2=>cJ [(ae 0),(.int .u64 0)] bX z λcM bU dj=>ag (a7 bU 2 cM bp) λcP=>bJ b2 (a4 2 cP cM λd0=>a4 2 cP x λdH=>bh s 261 [a0,d0,dH] cP dj λeM am an=>ag (a7 am 2 x eM) λeR=>a4 2 eR n λgM=>a4 2 eR x λhC=>ag (pq Q 53 eR bf gM hC) λhL=>b3 fi λi7=>N [a0,aV,bl,bf,en,jB,i7] hL an) (a4 2 cP n λhS=>a4 2 cP x λhd=>ag (pq Q 53 cP bf hS hd) λpL=>b3 fi λl4=>N [a0,aV,bl,bf,en,jB,l4] pL dj)) (aF [a0,aV,bl,bf,en,jB,fi] h U)
def afc(s:ak)(a0 aV bl hW Iu:X)(h:ad)(U:Nat)(N:aH)(aJ:aH)(R:aH):Prop:=wb s h U Iu λa b c=>ag (dz a 0) λd=>bJ d (ag (w5 b Iu) λe=>ag (dz e 0) λf=>ag (dz e 1) λg=>cJ [(ae 0),(ae 0)] b c λi j k=>cJ [(ae 0),(.int .u64 0)] j k λl m n=>ag (a7 m 2 i f) λo=>ag (a7 o 2 l g) λp=>a4 2 p l λq=>bh s 262 [a0,q] p n λr t aT=>ag (dz r 0) λv=>ag (dz r 1) λw=>ag (d2 .not w) λx=>bJ x (R [a0,aS,(ae 12),hW,Iu] t aT) (ag (il (.array 2 1) i (ae 0)) λy=>dc t y λz=>ag (il (.array 2 1) i (ae 1)) λbX=>dc t bX λch=>ag (c8 [(ae 0),(ae 0),(ae 0)] [(0,1,z),(1,1,ch),(2,1,v)]) λbV=>ey (fU 1 [(ae 0),(ae 0),(ae 0)] [(0,3,bV)]) t aT λbp b2 cM=>dB (dS (dv 3 b2 cM hW bp)) λbU dj cP=>N [a0,aV,bl,bU,Iu] dj cP)) (aJ [a0,aV,bl,hW,Iu] b c)
def ahu:fH:=λs au t1 h U K=>bh s 259 [au] h U λa b c=>ag (d2 .not a) λd=>bJ d (K (.tuple ⟨[aS,(ae 8)]⟩) b c) (ey (.ok .map) b c λe f g=>cQ t1 λi=>bq (bA Q s HC 172 0) [au,aS,(ae 0),e,t1,i,(ae 0)] f g [(0,λj k l=>dB (s2 k l (aQ j 3)) λm n o=>bq (bA Q s HC 172 1) [(aQ j 0),(aQ j 1),(aQ j 2),aS,m] n o [(2,λp q r=>bh s 263 [(aQ p 3),(.func (.func 264) #[] #[])] q r λt aT v=>K (.tuple ⟨[(aQ p 3),(ae 0)]⟩) aT v)] (λw x y=>K (.tuple ⟨[(aQ w 1),(aQ w 2)]⟩) x y))] (λ_ _ _=>False))
theorem aui{g C fi:X}{N:aH}:bA Q s HC 172 0 [a0,aV,bl,bf,g,C,fi] h U N [(0,aF)] R=afb s a0 aV bl bf g C fi h U N aF R:=by kernel_rfl
theorem auj{g C:X}{N:aH}:bA Q s HC 172 1 [a0,aV,bl,g,C] h U N [(2,aJ)] R=afc s a0 aV bl g C h U N aJ R:=by kernel_rfl
theorem awh:fR 172 ahu:=fX HC
theorem G0{n:Nat}(h:n<2147483648):wid (n:Int)=f1 n:=by unfold wid f1;rw[show(n:Int) / 18446744073709551616=0 by omega,show(n:Int) % 18446744073709551616=(n:Int) by omega]
def ahv(es:aa dn)(v:X)(r:Nat)(ap:ad)(m:Nat)(aE:aa X)(ac:ad)(Y:Nat):Prop :=
 ∃i,m=es.length-i/\i<=es.length/\aE=[.int .i64 1,.slice none 0 0,.int .i64 0,.map (some r),v,(es.length:X),(i:X)]/\u ac r=some (.map (kH 0 (iA [] (es.take i))) (iA [] (es.take i)).length)/\r<Y/\az r ap ac
def axX(L:aa dn)(r it:Nat)(ap:ad)(m:Nat)(aE:aa X)(ac:ad)(Y:Nat):Prop :=
 ∃seen acc o,m=(Go.Ax.leftOf seen (kH 0 L)).length/\aE=[.int .i64 1,.slice none 0 0,.int .i64 0,o,bb it]/\dX ac o kK 3 acc (it+1) Y/\(acc=[]->o = .slice none 0 0)/\(acc++(Go.Ax.leftOf seen (kH 0 L)).map xm).Perm L/\u ac it=some (.iter (some r) L.length seen L.length)/\u ac r=some (.map (kH 0 L) L.length)/\it<Y/\az r ap ac
theorem auk{es:aa dn}(aI:dq h U v kK es)(oQ:∀x∈es,l8 x)(bg:es.length<=120):
  aD Q false 172 [.int .i64 1,v] h U (λr ac Y=>∃v2 l,r = .tuple ⟨[v2,.int .i64 0]⟩/\dX ac v2 kK 3 l U Y/\(l=[]->v2 = .slice none 0 0)/\l.Perm (iA [] es)/\l.Pairwise (λx y=>¬kp y x<0)/\az U h ac):=by
 refine awh ?_;obtain⟨a,cap,rfl,aU⟩:=id aI;unfold ahu;refine(A4 J J).mono ?_;rintro _ h U ⟨rfl,rfl,rfl⟩;refine aB ?_;refine bq.mk (ahv es (.slice a es.length cap) U h) es.length ⟨0,J,J,rfl,aN _ _ _,J,aC⟩ ?_;rintro m _ h1 I ⟨i,rfl,ai,rfl,hm,ba,hk⟩;rw[aui];unfold afb;refine aB ?_;refine⟨λci=>?_,λeh=>?_⟩
 ·obtain⟨x,aR⟩:=dk ci;have M:=oQ x (jp aR);obtain⟨w,bN,uE⟩:=vt M.2.2;have D:∀y∈iA [] (es.take i),l8 y:=Kk (λy ca=>oQ y (OQ ca)) (λy ca=>by cases ca);obtain⟨_,b,aO,bC,oJ,cs,tv,axY,Nd⟩:=(aI.T hk (by omega:U<=I)).at aR;cases axY;have se:hF (some 3) (i*3) (a1 kK es++cs) = .ok (.agg ⟨[(x.1:X),(x.2.1:X),(x.2.2:X)]⟩):=sj (enc:=kK) (k:=3) (λ_=>rfl) aR;refine cx @Nd @se ?_;refine(A3 (by rw[bN];unfold kP;omega)).mono ?_;rintro _ al bH ⟨rfl,E,e9⟩;have br:=E (I+1) J;rw[aN]at br;rw[bN,G0 uE];unfold f1;refine a9 @br ?_;have cy:iA [] (es.take (i+1))=iT x (iA [] (es.take i)):=by rw[<-YJ,gQ,aR];rfl
  have fin:∀aM bR,bH<=bR->(∀c,c<bH->u aM c=u al c)->∃bG,bG<es.length-i/\ahv es (.slice (some ⟨b,0,aO⟩) es.length cap) U h bG [.int .i64 1,.slice none 0 0,.int .i64 0,.map (some U),.slice (some ⟨b,0,aO⟩) es.length cap,(es.length:X),.int .i64 (IntKind.wrap .i64 ((i:Int)+1))] (F aM U (.map (kH 0 (iT x (iA [] (es.take i)))) (iT x (iA [] (es.take i))).length)) bR:=λaM bR uP C =>
   ⟨es.length-(i+1),J,i+1,rfl,J,by rw[cn (J:i<1000000000000)],by rw[cy];exact aN _ _ _,J,aC⟩
  have g2:=(E U J).trans ((aq J).trans ((aq J).trans ((aq J).trans ((aq J).trans hm))));rw[show Value.agg ⟨[(x.1:X),(x.2.1:X)]⟩=mD x from rfl,atw Sy M D ((aq J).trans ((aq J).trans g2))];cases bx:qn x (iA [] (es.take i))with
  |none =>
   refine a9 @br ?_;rw[show Value.agg ⟨[(x.1:X),(x.2.1:X)]⟩=mD x from rfl,show Value.agg ⟨[.int .i64 0,.int .u64 (w:Int)]⟩ = .agg ⟨f1 w⟩from rfl,
    aeB Sy M D (((aq J).trans ((aq J).trans ((aq J).trans ((aq J).trans g2))))) (w:=w) (by rw[bx];show w=x.2.2.toNat;omega)]
   exact fin _ _ J λc aU=>ab
  |some p =>
   obtain⟨q,y⟩:=p;have hsy:=D y (jp (Li bx).1);obtain⟨g,eb,Vr⟩:=vt hsy.2.2;unfold f1;refine a9 @br ?_;rw[show y.2.2.toNat=g by omega,show Value.agg ⟨[.int .i64 0,.int .u64 (g:Int)]⟩ = .agg ⟨wid (g:Int)⟩ by rw[G0 Vr];rfl,show Value.agg ⟨[.int .i64 0,.int .u64 (w:Int)]⟩ = .agg ⟨wid (w:Int)⟩ by rw[G0 uE];rfl];refine(Rv (.inl rfl) (by unfold lO;omega) (by unfold lO;omega)).mono ?_;rintro _ aM bR ⟨rfl,C,V⟩;have e:ka 1 (g:Int) (w:Int)=((min g w:Nat):Int):=by unfold ka;omega
   have c3:=C bH J;rw[aq J,aq J,aN]at c3;have dK:=(C (I+1) J).trans ((aq J).trans ((aq J).trans ((aq J).trans ((aq J).trans br))));have gx:=(C U J).trans ((aq J).trans ((aq J).trans ((aq J).trans ((aq J).trans g2))));rw[e,G0 J];unfold f1;refine cx @c3 @dK ?_;rw[show Value.agg ⟨[(x.1:X),(x.2.1:X)]⟩=mD x from rfl,show Value.agg ⟨[.int .i64 0,.int .u64 ((min g w:Nat):Int)]⟩ = .agg ⟨f1 (min g w)⟩from rfl,
    aeB Sy M D ((aq J).trans gx) (w:=min g w) (by rw[bx];show min g w=(bif lK x.2.2 y.2.2 then x.2.2 else y.2.2).toNat;rw[rS];grind)]
   exact fin _ _ J λc aU=>(aq J).trans ((C c J).trans ((aq J).trans ((aq J).trans ((aq J).trans (aq J)))))
 ·have:i=es.length:=J
  subst this;rw[ht]at hm;show dB (s2 h1 I (.map (some U))) _;have D:∀y∈iA [] es,l8 y:=Kk oQ (λy ca=>by cases ca);have gA:(iA [] es).length<=120:=by
   have:=PI es []
   grind
  generalize iA [] es=L at *
  obtain⟨ahw,awi⟩:=XZ 0 L;obtain⟨xy,TL⟩:=Yh 0 L D;refine aeN hm (bq.mk (axX L U I h) (kH 0 L).length ⟨[],[],_,by rw[O4],rfl,.inl ⟨rfl,rfl⟩,λ_=>rfl,by rw[O4,xy];exact CS _,aN _ _ _,(aq J).trans hm,J,aC⟩ ?_);rintro m _ al bH ⟨seen,acc,o,rfl,rfl,ar,cX,bv,hit,sg,ci,E⟩;rw[auj];unfold afc;refine aeO hit sg (λe bk=>by have:=awi e bk;omega) rfl (λTS=>?_) λe bk Z=>?_
  ·refine aB ?_;rw[TS]at bv;simp only[yL,hM]at bv;rcases id ar with⟨rfl,rfl⟩|⟨nF,hy,fa,rfl,Vs⟩
   ·refine anL ⟨_,[],rfl,.inl ⟨rfl,rfl⟩,λ_=>rfl,bv,List.Pairwise.nil,E⟩
   ·have:=bv.length_eq;refine(ark rfl J fa Vs).mono ?_;rintro _ aM bR ⟨V,⟨cc,P,lP,hQ⟩,uJ⟩;exact⟨_,cc,rfl,.inr ⟨nF,J,J,by rw[P.length_eq],hQ⟩,λe=>cX (by rw[e]at P;exact List.nil_perm.1 P),P.trans bv,lP,λc aU=>by rw[uJ c J J];exact E c aU⟩
  ·obtain⟨g,Vr,eb,axZ,TK⟩:=TL e Z;have sd:=Pl ahw bk;have pA:=sd.length_eq;simp only[nM]at pA;refine aB ?_;rw[Zy (aN _ _ _) ((aq J).trans sg) ahw Z,axZ,TK];have r8:=sd.map xm;simp only[qQ]at r8;generalize aR:xm e=x at *
   rw[show mD x = .agg ⟨[(x.1:X),(x.2.1:X)]⟩from rfl];unfold f1;refine aB ?_;rw[show Value.agg ⟨[.int .i64 0,.int .u64 (g:Int)]⟩ = .agg ⟨wid (g:Int)⟩ by rw[G0 Vr];rfl];refine(YQ (x:=(g:Int)) (by unfold lO;omega)).mono ?_;intro jE aM bR hr3;obtain⟨ce,C,V⟩:=hr3;have zw:tf (g:Int)=true:=by unfold tf;exact gz ⟨J,J⟩
   rw[zw]at ce;have br:=(C bH J).trans (aq J);rw[ce];rw[show(if true=true then(g:Int)else 0)=(g:Int)from rfl];refine a9 @br ?_;have Nf:=bv.length_eq;simp only[jb,g5]at Nf;refine l7 (enc:=kK) (ao:=I+1) (λ_=>rfl) (λ_=>rfl) J (ar.T (λc h1 al=>(aq J).trans ((C c J).trans ((aq J).trans ((aq J).trans ((aq J).trans ((aq J).trans (aq J))))))) J) J x (aN _ _ _) (by show[Value.int .i64 x.1,(x.2.1:X),(g:X)]=kK x;unfold kK;rw[eb]) (by omega) ?_;intro v4 bc Iv gd;have gF:∀c,c<I+1->c≠I->u bc c=u al c:=λc h1 al=>(gd c h1).trans ((aq J).trans ((C c J).trans ((aq J).trans ((aq J).trans ((aq J).trans ((aq J).trans (aq J)))))));refine⟨_,?_,seen++[e.born],acc++[x],v4,rfl,rfl,Iv,λe=>absurd e (by simp),?_,?_,(gF U J J).trans sg,J,λc aU=>(gF c J J).trans (E c aU)⟩
   ·omega
   ·rw[kB];exact(List.Perm.append_left acc r8.symm).trans bv
   ·refine(gd I J).trans ((aq J).trans ((C I J).trans ((aq J).trans ((aq J).trans ((aq J).trans ((aq J).trans (aN _ _ _)))))))
theorem ak6(aI:dq h U v bQ gs)(cU:N<=2147483648)(M:∀g∈gs,fy N g)(bg:gs.length<=120):
  aD Q s 172 [.int .i64 1,v] h U (λr ac Y=>∃v2 cs,r = .tuple ⟨[v2,.int .i64 0]⟩/\dX ac v2 bQ 3 cs U Y/\agv N gs cs/\az U h ac/\U<=Y):=by
 have oQ:∀x∈gs.map di,l8 x:=λx aR=>by obtain⟨g,a5,rfl⟩:=fL.1 aR;exact abm cU (M g a5)
 have hv2:dq h U v kK (gs.map di):=by obtain⟨a,cap,rfl,aU⟩:=aI;refine⟨a,cap,by rw[g5],λeg=>?_⟩;rw[<-Rw];exact aU (λe=>eg (by rw[e];rfl))
 have P:=auk hv2 oQ (by rw[g5];exact bg);obtain⟨-,Z,ar⟩:=PJ abk (iA [] (gs.map di));generalize qZ kp (iA [] (gs.map di))=L at Z ar;obtain⟨D,px⟩:=awg N gs cU M Z ar;have C:∀l:aa dn,l.Perm (iA [] (gs.map di))->l.Pairwise (λx y=>¬kp y x<0)->l=L:=λl h1 al=>PH (R:=λx y=>¬kp y x<0) (λx y=>akB x y) (h1.trans Z.symm) al ar
 by_cases eJ:L=[]
 ·subst eJ;refine aD.plain (v:=.tuple ⟨[.slice none 0 0,.int .i64 0]⟩) rfl (P.mono ?_) ⟨_,_,rfl,.inl ⟨rfl,rfl⟩,D,aC,J⟩;rintro _ ac Y ⟨v2,l,rfl,V,cX,I,E,hk⟩;cases C l I E;rw[cX rfl];exact⟨rfl,hk⟩
 ·refine aD.ny (val:=λb=>.tuple ⟨[.slice (some ⟨b,0,some 3⟩) L.length L.length,.int .i64 0]⟩) (cs:=a1 kK L) (F6 (λ_=>rfl) L) YN (P.mono ?_) ⟨_,_,rfl,.inr ⟨U,J,J,by rw[g5],?_⟩,D,aC,J⟩
  ·rintro _ ac Y ⟨v2,l,rfl,V,cX,I,E,hk⟩;cases C l I E;rcases V with⟨e,_⟩|⟨b,hy,fa,rfl,aG⟩
   ·exact absurd e eJ
   ·exact⟨b,rfl,hy,aG,hk⟩
  ·rw[aN,Rw,px]
def rh(N:Nat)(gs:aa GE)(U:Nat)(h:ad):bD:=λr ac Y=>∃v2 cs,r = .agg ⟨[(N:X),v2]⟩/\dX ac v2 bQ 3 cs U Y/\jd (gs.map di) (cs.map di)/\(∀g∈cs,fy N g)/\cs.length<=gs.length/\az U h ac/\U<=Y
theorem ado(I:dq h U v bQ gs)(cU:N<=2147483648)(E:∀g∈gs,fy N g)(bg:gs.length<=120):
  aD Q s 98 [.agg ⟨[(N:X),v]⟩] h U (rh N gs U h):=by
 refine bS ?_;obtain⟨a,cap,rfl,aU⟩:=id I;refine aB ?_;have Z:∀{d9 dI:fM},az U h (F (F h U d9) (U+1) dI):=aC
 refine(ak6 (I.T Z J) cU E bg).mono ?_;rintro r h1 gv ⟨v2,cs,rfl,D,C,V,dr⟩;have P:=(V U J).trans (aq J);have M:=V (U+1) J;rw[aN]at P M;obtain⟨a2,bH,L,rfl⟩:=D.form;refine cx @P @M ?_;have ai:jd (gs.map di) (cs.map di):=C.can;refine⟨_,cs,rfl,?_,ai,C.ok,C.len,aC,J⟩;rcases D with D|⟨b,h1,al,e,aG⟩
 ·exact .inl D
 ·exact .inr ⟨b,J,al,e,ab⟩
def lV(n m:Int):ak:=decide (0<=n/\n<=m)
theorem lI(h:0<=n/\n<=m):lV n m=true:=gz h
theorem p7(h:¬(0<=n/\n<=m)):lV n m=false:=f9 h
theorem Gf:aD Q s 277 [(n:X),(m:X)] h U (λr ac Y=>r = .bool (lV n m)/\ac=h/\Y=U):=by
 refine bS ?_;refine aB ?_;refine⟨λg=>?_,λg=>by rw[p7 J]⟩
 by_cases h1:m<n
 ·rw[gz h1,p7 J];rfl
 ·rw[f9 h1,lI J];rfl
theorem F7:aD Q s 156 [(n:X),(m:X)] h U (λr ac Y=>r = .bool (lV n m)/\ac=h/\Y=U):=by
 refine bS ?_;refine aB ?_;refine⟨λg=>?_,λg=>by rw[p7 J]⟩
 by_cases h1:m<n
 ·rw[gz h1,p7 J];rfl
 ·rw[f9 h1,lI J];rfl
theorem PT:aD Q s 199 [(n:X),(m:X)] h U (λr ac Y=>r = .bool (decide (1<=n/\n<=m))/\ac=h/\Y=U):=by
 refine bS ?_;refine aB ?_;refine⟨λg=>?_,ab⟩
 by_cases h1:m<n
 all_goals grind
def tj(d:Int):ak:=decide (d<0\/2147483647<d)
theorem ak7{d:Int}:aD Q s 279 [(d:X)] h U (cI (.bool (tj d)) U h):=by refine bS ?_;refine aB ?_;refine⟨λg=>⟨by unfold tj;grind,aC,J⟩,λg=>⟨?_,aC,J⟩⟩;unfold tj;grind
def IxJ{aA:Type}(p:aA->ak)(l:aa aA)(v rB:X)(U:Nat)(h:ad)(m:Nat)(aE:aa X)(ac:ad)(Y:Nat):Prop:=∃i,m=l.length-i/\i<=l.length/\aE=[v,rB,.int .i64 0,(l.length:X),(i:X)]/\az U h ac/\U<=Y/\∀x∈l.take i,p x=false
theorem SG{p:aA->ak}{l:aa aA}{x:aA}(C:l[i]? = some x)(h:∀y∈l.take i,p y=false)(D:p x=false):∀y∈l.take (i+1),p y=false:=λy g=>by
 rw[gQ,C]at g
 grind
theorem anO{p:Int->ak}{l:aa Int}(M:cN h U v cG l)(bg:l.length<1000000)(bx:∀(x:Int) (h:ad) (U:Nat),aD Q s f [(x:X)] h U (cI (.bool (p x)) U h)):
  aD Q s 278 [v,.func (.func f) ⟨[]⟩ ⟨[]⟩] h U (cI (.bool (l.any p)) U h):=by
 refine aqY ?_;obtain⟨a,cap,rfl,aU⟩:=id M;refine(aqZ (K:=λr ac Y=>az U h ac/\U<=Y/\∃i:Int,r = (i:X)/\(i<0↔l.any p=false)) ?_).mono ?_
 ·unfold aeV;refine aB ?_;refine bq.mk (IxJ p l (.slice a l.length cap) (.func (.func f) ⟨[]⟩ ⟨[]⟩) U h) l.length ⟨0,rfl,J,rfl,aC,J,ab⟩ ?_;rintro m _ ac Y ⟨i,rfl,ai,rfl,D,g,C⟩;rw[anr];unfold aa8;refine aB ?_;refine⟨λE=>?_,λeh=>?_⟩
  ·obtain⟨x,I⟩:=dk E;obtain⟨_,b,aO,bC,c1,aG,Z,L⟩:=M.at I;cases Z;rw[h2]at L;simp(disch:=omega)only[bd,(D b aG).trans L,iz I,seval];refine(bx x ac Y).mono ?_;rintro r al e4 ⟨rfl,dE,P⟩;rw[tc];refine⟨λV=>?_,λV=>?_⟩
   ·refine⟨aC,J,_,rfl,⟨λh=>absurd h J,λh=>?_⟩⟩
    grind
   ·refine a9 (cn (J:i<1000000000000)) ?_;exact⟨l.length-(i+1),J,i+1,rfl,J,rfl,aC,J,SG I C V⟩
  ·have:i=l.length:=J
   subst this;rw[ht]at C;exact⟨D,g,_,rfl,ab⟩
 ·rintro r ac Y ⟨D,g,i,rfl,ai⟩;refine aB ?_;refine⟨?_,D,g⟩
  grind
abbrev cE:=Int × Int × Int × Int
def zx(m:cE):aa X:=[(m.1:X),(m.2.1:X),(m.2.2.1:X),(m.2.2.2:X)]
def w8(m:cE):ak:=(lV m.2.1 63&&lV m.2.2.1 63&&lV m.2.2.2 63)&&decide (0<m.1/\m.1<=5)
theorem ak8{m:cE}:aD Q s 159 [.agg ⟨zx m⟩] h U (cI (.bool (w8 m)) U h):=by
 refine anu ?_;unfold adc zx;have C:∀{o},az U h (F h U o):=aC
 have no:(lV m.2.1 63&&lV m.2.2.1 63&&lV m.2.2.2 63)=false->∀{o},C2 s (cI (.bool (w8 m)) U h) (bb U) (.bool true) (F h U o) (U+1):=λe {o}=>by unfold C2;refine aB ?_;exact⟨by unfold w8;grind,C,J⟩
 refine aB ?_;refine F7.mono ?_;rintro r h1 D ⟨rfl,g,aJ⟩;rw[g,aJ];cases L:lV m.2.1 63 with
 |false =>
  refine aB ?_;exact no ab
 |true =>
  refine aB ?_;refine F7.mono ?_;rintro r h1 D ⟨rfl,g,aJ⟩;rw[g,aJ];cases M:lV m.2.2.1 63 with
  |false =>
   refine aB ?_;exact no ab
  |true =>
   refine aB ?_;refine F7.mono ?_;rintro r h1 D ⟨rfl,g,aJ⟩;rw[g,aJ];cases P:lV m.2.2.2 63 with
   |false =>
    refine aB ?_;exact no ab
   |true =>
    unfold C2;refine aB ?_;have I:w8 m=decide (0<m.1/\m.1<=5):=by unfold w8;grind
    refine⟨λE=>⟨?_,C,J⟩,λE=>⟨?_,C,J⟩⟩
    all_goals grind
theorem ajC{m:cE}:aD Q s 254 [.agg ⟨zx m⟩] h U (cI (.bool (!w8 m)) U h):=by refine bS ?_;unfold zx;refine aB ?_;refine(ak8 ).mono ?_;rintro r h1 C ⟨rfl,D,g⟩;refine aB ?_;exact⟨rfl,aC,J⟩
theorem anP{p:cE->ak}{l:aa cE}(L:cN h U v zx l)(bg:l.length<1000000)(bx:∀(x:cE) (h:ad) (U:Nat),aD Q s f [.agg ⟨zx x⟩] h U (cI (.bool (p x)) U h)):
  aD Q s 253 [v,.func (.func f) ⟨[]⟩ ⟨[]⟩] h U (cI (.bool (l.any p)) U h):=by
 refine aq1 ?_;obtain⟨a,cap,rfl,aU⟩:=id L;refine(aq2 (K:=λr ac Y=>az U h ac/\U<=Y/\∃i:Int,r = (i:X)/\(i<0↔l.any p=false)) ?_).mono ?_
 ·unfold ae0;refine aB ?_;refine bq.mk (IxJ p l (.slice a l.length cap) (.func (.func f) ⟨[]⟩ ⟨[]⟩) U h) l.length ⟨0,rfl,J,rfl,aC,J,ab⟩ ?_;rintro m _ ac Y ⟨i,rfl,ai,rfl,D,g,C⟩;rw[anv];unfold abb;refine aB ?_;refine⟨λE=>?_,λeh=>?_⟩
  ·obtain⟨x,I⟩:=dk E;obtain⟨_,b,aO,bC,c1,aG,V,Z⟩:=L.at I;cases V;simp(disch:=omega)only[bd,(D b aG).trans Z,x1 (enc:=zx) (k:=4) (λ_=>rfl) I,seval];refine(bx x ac Y).mono ?_;rintro r al e4 ⟨rfl,dE,M⟩;rw[tc];refine⟨λP=>?_,λP=>?_⟩
   ·refine⟨aC,J,_,rfl,⟨λh=>absurd h J,λh=>?_⟩⟩
    grind
   ·refine a9 (cn (J:i<1000000000000)) ?_;exact⟨l.length-(i+1),J,i+1,rfl,J,rfl,aC,J,SG I C P⟩
  ·have:i=l.length:=J
   subst this;rw[ht]at C;exact⟨D,g,_,rfl,ab⟩
 ·rintro r ac Y ⟨D,g,i,rfl,ai⟩;refine aB ?_;refine⟨?_,D,g⟩
  grind
def gR(k n src len:Int)(bt:aa Int):Int :=
 if k<=0\/5<k then 8 else if ¬(0<=n/\n<=4096)then 3 else if k=4/\¬(0<=len/\len<=8192)then 3 else if(k=4\/k=1\/k=2)/\¬(0<=src/\src<=n-1)then 3
 else if 65536<bt.length then 5 else if bt.any tj=true then 7 else 0
theorem jI(g : -9223372036854775808<=n)(h1:n<=9223372036854775807):IntKind.wrap .i64 n=n:=by rw[aeS];omega
theorem Ky{k:Int}(aI:cN h U v cG bt):aD Q s 187 [.agg ⟨[(k:X),(n:X),(src:X),(len:X),v]⟩] h U (cI (.int .i64 (gR k n src len bt)) U h):=by
 refine anq ?_;obtain⟨a,cap,rfl,aU⟩:=id aI;unfold ac9;have cD:∀{o},az U h (F h U o):=aC
 have fin:∀{e:Int},gR k n src len bt=e->∀{o},cI (.int .i64 (gR k n src len bt)) U h (e:X) (F h U o) (U+1):=λ{e} bk {o}=>⟨by rw[bk],cD,J⟩
 have last:¬(k<=0\/5<k)->(0<=n/\n<=4096)->¬(k=4/\¬(0<=len/\len<=8192))->¬((k=4\/k=1\/k=2)/\¬(0<=src/\src<=n-1))->AF s (cI (.int .i64 (gR k n src len bt)) U h) (bb U) (F h U (.cells [(k:X),(n:X),(src:X),(len:X),.slice a bt.length cap] false)) (U+1):=λh1 al aM C=>by
  have e:gR k n src len bt=if 65536<bt.length then 5 else if bt.any tj=true then 7 else 0:=by unfold gR;omega
  unfold AF;refine aB ?_;refine⟨λL=>fin J,λL=>?_⟩;refine(anO (aI.T cD J) J (λx h U=>ak7)).mono ?_;rintro r h1 a6 ⟨rfl,M,dr⟩;refine aB ?_;refine⟨λb9=>⟨ab,aC,J⟩,λb9=>⟨?_,aC,J⟩⟩
  grind
 have fD:(k<=0\/5<k)->∀{o},Ge s (cI (.int .i64 (gR k n src len bt)) U h) (bb U) (.bool true) (F h U o) (U+1):=λM {o}=>by unfold Ge;refine aB ?_;exact fin (by unfold gR;omega)
 refine aB ?_;refine⟨λap=>fD J,λap=>?_⟩
 by_cases L:5<k
 ·rw[gz L];exact fD J
 rw[f9 L];have M:¬(k<=0\/5<k):=J
 unfold Ge;refine aB ?_;refine Gf.mono ?_;rintro r h1 a6 ⟨rfl,D,aJ⟩;rw[D,aJ]
 by_cases P:0<=n/\n<=4096
 case neg =>
  rw[p7 P];refine aB ?_;exact fin (by unfold gR;omega)
 rw[lI P];have bN:IntKind.wrap .i64 (n-1)=n-1:=jI J J;have g:(k=4\/k=1\/k=2)->¬(k=4/\¬(0<=len/\len<=8192))->aD Q s 277 [(src:X),.int .i64 (n-1)] (F h U (.cells [(k:X),(n:X),(src:X),(len:X),.slice a bt.length cap] false)) (U+1) λV I E=>ag (d2 .not V) λZ=>bJ Z (cI (.int .i64 (gR k n src len bt)) U h (.int .i64 3) I E) (AF s (cI (.int .i64 (gR k n src len bt)) U h) (bb U) I E):=λek C=>by
  refine Gf.mono ?_;rintro r h1 a6 ⟨rfl,D,aJ⟩;rw[D,aJ]
  by_cases ar:0<=src/\src<=n-1
  ·rw[lI ar];refine aB ?_;exact last M P C J
  ·rw[p7 ar];refine aB ?_;exact fin (by unfold gR;grind)
 refine a9 @bN ?_;refine⟨λC=>?_,λC=>?_⟩
 ·have C:k=4:=ab
  refine Gf.mono ?_;rintro r h1 a6 ⟨rfl,D,aJ⟩;rw[D,aJ]
  by_cases bg:0<=len/\len<=8192
  ·rw[lI bg];refine a9 @bN ?_;exact g J J
  ·rw[p7 bg];refine aB ?_;exact fin (by unfold gR;omega)
 ·have C:k≠4:=ab
  refine⟨λh1=>?_,λh1=>⟨λal=>?_,λal=>?_⟩⟩
  ·have h1:k=1:=ab
   exact g J J
  ·have al:k=2:=ab
   exact g J J
  ·have h1:k≠1:=ab
   have al:k≠2:=ab
   exact last M P J J
def gr(n:Int)(es:aa gS):Int:=if n<0 then 3 else if 4096<n\/65536<es.length then 5 else if es.any (xF n)=true then 3 else if es.any Bz=true then 7 else 0
theorem ajD(h:gr n es=0):es.length<=65536:=by unfold gr at h;omega
theorem L2(h:gr n es=0)(g:es.length<=60\/65536<es.length):es.length<=60:=g.elim id λh1=>by have:=ajD h;omega
theorem AL:gr n es=0↔DI n es:=by
 unfold gr DI;constructor
 ·intro h
  split at h
  ·cases h
  ·split at h
   ·cases h
   ·split at h
    ·cases h
    ·split at h
     ·cases h
     ·rename_i h1 al E D
      refine⟨J,J,J,λe C g=>E (vl.2 ⟨e,C,KW.2 g⟩),λe C g=>D (vl.2 ⟨e,C,KX.2 g⟩)⟩
 ·rintro⟨h1,al,E,D,I⟩;rw[if_neg J,if_neg J,if_neg,if_neg]
  ·intro h;obtain⟨e,C,g⟩:=vl.1 h;exact I e C (KX.1 g)
  ·intro h;obtain⟨e,C,g⟩:=vl.1 h;exact D e C (KW.1 g)
theorem Dr(aI:dq h U v gc es):
  aD Q s 83 [.agg ⟨[(n:X),v]⟩] h U (cI (.int .i64 (gr n es)) U h):=by
 refine atX ?_;obtain⟨a,cap,rfl,aU⟩:=id aI;unfold right;refine aB ?_;have L:az U h (F (F (F h U (.cells [(n:X),.slice a es.length cap] false)) (U+1) (.cells [.nilFunc] false)) (U+1) (.cells [.func (.func 163) ⟨[]⟩ ⟨[bb U]⟩] false)):=aC
 have no:∀{e:Int},gr n es=e->∀{ac:ad} {Y:Nat},az U h ac->U<=Y->cI (.int .i64 (gr n es)) U h (e:X) ac Y:=λ{e} bk {ac Y} V D=>⟨by rw[bk],V,D⟩
 refine⟨λh1=>no (by unfold gr;omega) L J,λh1=>⟨λal=>no (by unfold gr;omega) L J,λal=>⟨λZ=>no (by unfold gr;omega) L J,λZ=>?_⟩⟩⟩;refine(adm (xF n) (aI.T L J) J (λg a5 ac Y K V D C=>?_)).mono ?_
 ·have M:=V U J;have br:=V (U+1) J;rw[aq J,aq J,aN]at M;rw[aN]at br;have E:∀{o},az Y ac (F ac Y o):=aC
  refine aB ?_;refine bS ?_;unfold gc;refine a9 @br ?_;refine bS ?_;refine a9 @M ?_;refine⟨λh1=>C _ _ _ (by unfold xF;grind) E J,λh1=>⟨λal=>C _ _ _ (by unfold xF;grind) E J,λal=>?_⟩⟩;refine a9 @br ?_;refine bS ?_;refine a9 @M ?_;refine⟨λZ=>C _ _ _ (by unfold xF;grind) E J,λZ=>?_⟩;refine C _ _ _ ?_ E J;unfold xF
  grind
 ·rintro r bc Iw ⟨rfl,I,P⟩;have M:=I U J;rw[aq J,aq J,aN]at M;have hT:=L.trans I J;refine a9 @M ?_;refine⟨λbP=>no (by unfold gr;grind) hT J,λbP=>?_⟩;refine(adm Bz ((aI.T L J).T I P) J (λg a5 ac Y K V D C=>?_)).mono ?_
  ·have E:∀{o},az Y ac (F ac Y o):=aC
   refine aB ?_;refine bS ?_;unfold gc;refine aB ?_;refine⟨λh1=>C _ _ _ (by unfold Bz;grind) E J,λh1=>C _ _ _ (by unfold Bz;grind) E J⟩
  ·rintro r b9 n3 ⟨rfl,hz,j9⟩;have vb:=hT.trans hz J;refine aB ?_;refine⟨λdL=>no (by unfold gr;grind) vb J,λdL=>no ?_ vb J⟩;unfold gr;grind
def oG(e:GE):GE:=⟨e.t,e.f,e.w⟩
def xG(e:GE):GE:=⟨e.f,e.t,1⟩
def L3(e:GE)(b:ak)(U:Nat)(h:ad):bD:=cI (.tuple ⟨[.agg ⟨[(e.f:X),(e.t:X),(e.w:X)]⟩,.bool b]⟩) U h
theorem anQ:aD Q s 365 [.agg ⟨[(e.f:X),(e.t:X),(e.w:X)]⟩] h U (L3 (oG e) true U h):=by refine bS ?_;refine aB ?_;exact⟨rfl,aC,J⟩
theorem anR:aD Q s 280 [.agg ⟨[(e.f:X),(e.t:X),(e.w:X)]⟩] h U (L3 (xG e) true U h):=by refine bS ?_;refine aB ?_;exact⟨rfl,aC,J⟩
def s6(e:GE):ak:=decide (e.f≠e.t)
theorem ak9:aD Q s 276 [.agg ⟨[(e.f:X),(e.t:X),(e.w:X)]⟩] h U (L3 e (s6 e) U h):=by
 refine bS ?_;refine aB ?_;refine⟨?_,aC,J⟩;have:(!((e.f:Int) == (e.t:Int)))=s6 e:=by
  unfold s6
  grind
 grind
def MaJ(N cj cS f:Nat)(lj:X)(p:GE->ak)(m:GE->GE)(gs:aa GE)(U:Nat)(h:ad)(q:Nat)(aE:aa X)(ac:ad)(Y:Nat):Prop :=
 ∃(i:Nat) (o:X),q=gs.length-i/\i<=gs.length/\aE=[.func (.func f) ⟨[]⟩ ⟨[]⟩,bb cj,bb cS,o,lj,(gs.length:X),(i:X)] /\
  u ac cj=some (.cells [(N:X),lj] false)/\u ac cS=some (.cells [.int .i64 0,.slice none 0 0] false)/\dX ac o bQ 3 (((gs.take i).filter p).map m) (U+1+1) Y/\az U h ac/\U+1+1<=Y
theorem SH{m:GE->GE}(aI:dq h U v bQ gs)(cU:N<=2147483648)(bg:gs.length<=120)(jf:∀g∈(gs.filter p).map m,fy N g)(bx:∀(e:GE) (h:ad) (U:Nat),aD Q s f [.agg ⟨[(e.f:X),(e.t:X),(e.w:X)]⟩] h U (L3 (m e) (p e) U h)):
  aD Q s 275 [.agg ⟨[(N:X),v]⟩,.func (.func f) ⟨[]⟩ ⟨[]⟩] h U (rh N ((gs.filter p).map m) U h):=by
 refine av9 ?_;obtain⟨a,cap,rfl,L⟩:=id aI;unfold aho;refine aB ?_;have x2:((gs.filter p).map m).length<=gs.length:=ab
 have bF:∀{o aW},az U h (F (F h U o) (U+1) aW):=aC
 refine bq.mk (MaJ N U (U+1) f (.slice a gs.length cap) p m gs U h) gs.length ⟨0,_,rfl,J,rfl,ab,ab,.inl ab,bF,J⟩ ?_;rintro q _ h1 gv ⟨i,o,rfl,ai,rfl,br,dK,S,Z,dr⟩;rw[at4];unfold aeY;refine aB ?_;refine⟨λci=>?_,λeh=>?_⟩
 ·obtain⟨e,bk⟩:=dk ci;obtain⟨_,b,aO,bC,c1,cs,aG,aY,a5⟩:=aI.at bk;cases aY;have se:hF (some 3) (i*3) (a1 bQ gs++cs) = .ok (.agg ⟨[(e.f:X),(e.t:X),(e.w:X)]⟩):=sj  (k:=3) (λ_=>rfl) bk;simp(disch:=omega)only[bd,(Z b aG).trans a5,se,seval];refine(bx e _ _).mono ?_;rintro r al e4 ⟨rfl,I,M⟩;have D:az gv h1 al:=aC
  have cy:((gs.take (i+1)).filter p).map m=((gs.take i).filter p).map m++(if p e then[m e]else[]):=by
   rw[gQ,bk,rJ,hN]
   grind
  refine aB ?_;refine⟨λbv=>?_,λbv=>?_⟩
  ·refine l7  (k:=3)  (λ_=>rfl) (λ_=>rfl) J (S.T (λc h1 al=>by rw[aq J,aq J,aq J,D c al]) J) J (m e) (aN _ _ _) rfl ?_ λsF bP BY E=>?_
   ·grind
   ·refine⟨gs.length-(i+1),J,i+1,sF,rfl,J,by rw[cn J],?_,?_,by rw[cy,bv];exact BY,λc L=>?_,J⟩
    ·rw[E _ J,aq J,aq J,aq J,D _ J];omega
    ·rw[E _ J,aq J,aq J,aq J,D _ J];omega
    ·rw[E _ J,aq J,aq J,aq J,D _ J];exact Z c L
  ·refine⟨gs.length-(i+1),J,i+1,o,rfl,J,by rw[cn J],?_,?_,?_,λc L=>?_,J⟩
   ·rw[aq J,aq J,D _ J];omega
   ·rw[aq J,aq J,D _ J];omega
   ·rw[cy,bv];simp only[nK,fc,hM];exact S.T (λc h1 al=>by rw[aq J,aq J,D c al]) J
   ·rw[aq J,aq J,D _ J];exact Z c L
 ·have BZ:i=gs.length:=J
  subst BZ;rw[ht]at S;obtain⟨a2,bH,c2,rfl⟩:=S.form;refine a9 @br ?_;refine(ado (dq.of S.rd) cU jf J).mono ?_;rintro r al e4 ⟨v2,cs,rfl,C,V,P,je,I,M⟩;obtain⟨a3,bR,cm,rfl⟩:=C.form;have B0:=(I (U+1) J).trans dK;refine a9 @B0 ?_;refine⟨_,cs,rfl,?_,V,P,je,λc L=>by rw[aq J,I c J];exact Z c L,J⟩;rcases C with C|⟨b,h1,al,e,aG⟩
  ·exact .inl C
  ·exact .inr ⟨b,J,al,e,ab⟩
def vS(gs:aa GE):aa GE:=(gs.filter λ_=>true).map oG
def AV(gs:aa GE):aa GE:=(gs.filter s6).map id
def w9(gs:aa GE):aa GE:=(gs.filter λ_=>true).map xG
theorem abn(h:∀g∈gs,fy N g):∀g∈vS gs,fy N g:=λg C=>by obtain⟨e,D,rfl⟩:=fL.1 C;have:=h e ab;exact⟨this.2.1,this.1,this.2.2⟩
theorem YT(h:∀g∈gs,fy N g):∀g∈AV gs,fy N g:=λg C=>by obtain⟨e,D,rfl⟩:=fL.1 C;exact h e ab
theorem ZS(h:∀g∈gs,fy N g):∀g∈w9 gs,fy N g:=λg C=>by obtain⟨e,D,rfl⟩:=fL.1 C;have:=h e ab;exact⟨this.1,this.2.1,by show(0:Int)<=1;omega,by show(1:Int)<=2147483647;omega⟩
theorem t6{m:GE->GE}(gs:aa GE):((gs.filter p).map m).length<=gs.length:=ab
theorem SI(V:dq h U v bQ gs)(cU:N<=2147483648)(bg:gs.length<=120)(L:∀g∈gs,fy N g):
  aD Q s 274 [.agg ⟨[(N:X),v]⟩] h U (rh N (vS gs) U h):=by
 refine bS ?_;obtain⟨a,cap,rfl,aU⟩:=id V;refine aB ?_;have bF:∀{o aW},az U h (F (F h U o) (U+1) aW):=aC
 refine(SH   (V.T bF J) cU bg (abn L) λe h U=>anQ).mono ?_;rintro r al e4 ⟨v2,cs,rfl,C,D,I,M,P,Z⟩;obtain⟨a3,bR,cm,rfl⟩:=C.form;have E:=P (U+1) J;rw[aN]at E;refine a9 @E ?_;refine⟨_,cs,rfl,?_,D,I,hu M (cB _),aC,J⟩;rcases C with C|⟨b,h1,al,e,aG⟩
 ·exact .inl C
 ·exact .inr ⟨b,J,al,e,ab⟩
theorem abo(V:dq h U v bQ gs)(cU:N<=2147483648)(bg:gs.length<=120)(L:∀g∈gs,fy N g):
  aD Q s 182 [.agg ⟨[(N:X),v]⟩] h U (rh N (AV gs) U h):=by
 refine bS ?_;obtain⟨a,cap,rfl,aU⟩:=id V;refine aB ?_;have bF:∀{o aW},az U h (F (F h U o) (U+1) aW):=aC
 refine(SH   (V.T bF J) cU bg (YT L) λe h U=>ak9).mono ?_;rintro r al e4 ⟨v2,cs,rfl,C,D,I,M,P,Z⟩;obtain⟨a3,bR,cm,rfl⟩:=C.form;have E:=P (U+1) J;rw[aN]at E;refine a9 @E ?_;refine⟨_,cs,rfl,?_,D,I,hu M (cB _),aC,J⟩;rcases C with C|⟨b,h1,al,e,aG⟩
 ·exact .inl C
 ·exact .inr ⟨b,J,al,e,ab⟩
theorem adp(V:dq h U v bQ gs)(cU:N<=2147483648)(bg:gs.length<=120)(L:∀g∈gs,fy N g):
  aD Q s 188 [.agg ⟨[(N:X),v]⟩] h U (rh N (w9 gs) U h):=by
 refine at3 ?_;obtain⟨a,cap,rfl,aU⟩:=id V;unfold plain;refine aB ?_;have bF:∀{o aW},az U h (F (F h U o) (U+1) aW):=aC
 refine(SH   (V.T bF J) cU bg (ZS L) λe h U=>anR).mono ?_;rintro r al e4 ⟨v2,cs,rfl,C,D,I,M,P,Z⟩;obtain⟨a3,bR,cm,rfl⟩:=C.form;have E:=P (U+1) J;rw[aN]at E;refine a9 @E ?_;refine⟨_,cs,rfl,?_,D,I,hu M (cB _),aC,J⟩;rcases C with C|⟨b,h1,al,e,aG⟩
 ·exact .inl C
 ·exact .inr ⟨b,J,al,e,ab⟩
theorem Qy{aA:Type}{enc:aA->aa X}:∀(l m:aa aA),a1 enc (l++m)=a1 enc l++a1 enc m
 | [],m=>rfl
 |x::l,m=>by show enc x++a1 enc (l++m)=enc x++a1 enc l++a1 enc m;rw[Qy l m,kB]
theorem Pt:∀l:aa GE,ec (a1 bQ l)=true
 | []=>rfl
 |x::l=>by have g:=Pt l;show(hv (.int .i64 (x.f:Int))&&(hv (.int .i64 (x.t:Int))&&(hv (.int .i64 x.w)&&ec (a1 bQ l))))=true;rw[g];rfl
theorem anS{n:Nat}{g y:aa GE}(aG:u h b=some (.cells (a1 bQ g++cs) false))(hk:g.length=k)(bm:k+y.length<=n)(lA:cs.length=(n-k)*3)(Z:dq h U v2 bQ y):
  ∃ac,dv 3 h U (.slice (some ⟨b,0,some 3⟩) k n) v2 = .ok (.val (.slice (some ⟨b,0,some 3⟩) (k+y.length) n) ac U)/\u ac b=some (.cells (a1 bQ (g++y)++cs.drop (y.length*3)) false)/\∀c,c≠b->u ac c=u h c:=by
 obtain⟨a2,c2,rfl,aU⟩:=Z
 by_cases L:y=[]
 ·subst L;refine⟨h,?_,ab,ab⟩;have ba:∀(K:aa X->R ff),jV h a2 (Nat.mul 0 3) K=K []:=λK=>by
   cases a2 <;> rfl
  show jV h a2 (Nat.mul 0 3) (λnew=>gt 3 h U (some ⟨b,0,some 3⟩) k n 0 new)=_;rw[ba];unfold gt;rw[show Nat.ble (Nat.add k 0) n=true from Ao J];rfl
 ·obtain⟨bO,aO,bC,P,fa,rfl,V⟩:=aU L;have hyl:0<y.length:=ab
  have C:=ga (enc:=bQ) (k:=3) (λ_=>rfl) (l:=y);have D:=ga (enc:=bQ) (k:=3) (λ_=>rfl);show ∃ac,jV h (some ⟨bO,0,aO⟩) (Nat.mul y.length 3) (λnew=>gt 3 h U (some ⟨b,0,some 3⟩) k n y.length new)=_/\_;rw[show Nat.mul y.length 3=y.length*3 from rfl,sX V J ab,nO,<-C,J9];unfold gt;rw[show Nat.ble (Nat.add k y.length) n=true from Ao bm];obtain⟨x,r,E⟩:∃x r,a1 bQ y=x::r:=by
   cases bx:a1 bQ y with
   |nil=>grind
   |cons x r=>grind
  have I:qX h b (Nat.add 0 (Nat.mul k 3)) (a1 bQ y) = .ok (F h b (.cells (a1 bQ (g++y)++cs.drop (y.length*3)) false)):=by
   rw[show Nat.add 0 (Nat.mul k 3)=k*3 from ix _,Ki aG (Pt y) ab];have M:(a1 bQ g++cs).take (k*3)=a1 bQ g:=ab
   have aJ:(a1 bQ g++cs).drop (k*3+(a1 bQ y).length)=cs.drop (y.length*3):=by rw[<-hk,<-D,C,JT]
   rw[M,aJ,Qy]
  refine⟨F h b (.cells (a1 bQ (g++y)++cs.drop (y.length*3)) false),?_,ab,ab⟩;rw[E]at I ⊢;show R.bind (qX h b (Nat.add 0 (Nat.mul k 3)) (x::r)) _=_;rw[I];rfl
theorem awj:HM Q 22 (.slice none 0 0) = .ok (.int .i64 0):=by kernel_rfl
theorem ze1:rU Tryz.prog 22=some 124:=by kernel_rfl
theorem ze2:j8 Tryz.prog 124=some 3:=by kernel_rfl
theorem ze3:oC Tryz.prog 124=some [.int .i64 0,.int .i64 0,.int .i64 0]:=by kernel_rfl
theorem ze4:zb Tryz.prog 124=true:=by kernel_rfl
theorem ze5:rY Tryz.prog (some 3)=true:=by kernel_rfl
theorem anT(n:Nat)(z:aa X):(hg n z).length=n*z.length:=by
 induction n with
 |zero=>simp[hg]
 |succ n g=>simp[hg,g,yN,kk];omega
theorem apz{n:Nat}(C:0<n)(h1:n<=1000):sV Tryz.prog .append [22,3] h U [.slice none 0 0,(n:X)] = .ok (.val (.slice (some ⟨U,0,some 3⟩) n n) (F h U (.cells (hg n [.int .i64 0,.int .i64 0,.int .i64 0]) false)) (U+1)):=by
 show R.of "append" (rU Tryz.prog 22) (λe=>R.of "append" (j8 Tryz.prog e) (λs=>R.of "append" (oC Tryz.prog e) (λz=>bif Nat.beq (jJ z) s&&zb Tryz.prog e&&rY Tryz.prog (some 3)then GK z s h U (.slice none 0 0) (n:X)else .no "append - element")))=_;rw[ze1];show R.of "append" (j8 Tryz.prog 124) (λs=>R.of "append" (oC Tryz.prog 124) (λz=>bif Nat.beq (jJ z) s&&zb Tryz.prog 124&&rY Tryz.prog (some 3)then GK z s h U (.slice none 0 0) (n:X)else .no "append - element"))=_;rw[ze2,ze3,ze4,ze5];show(bif Nat.ble n 1000000 then gt 3 h U none 0 0 n (hg n [.int .i64 0,.int .i64 0,.int .i64 0])else .no "append")=_;rw[show Nat.ble n 1000000=true from Ao J];unfold gt;rw[show Nat.ble (Nat.add 0 n) 0=false from by
  cases g:Nat.ble (Nat.add 0 n) 0 with
  |false=>rfl
  |true=>have:=l6 g;grind]
 rw[show(Nat.ble (Nat.mul (Nat.add 0 n) 3) 1000000&&Nat.ble (Nat.add 0 n) 1000000)=true from by
  rw[show Nat.add 0 n=n from ix n];simp only[eD,sU]
  grind]
 show p4 h U 3 _ (Nat.add 0 n)=_;rw[show Nat.add 0 n=n from ix n];exact pZ J
theorem aul{n:Nat}(E:n<=1000):aD Q s 364 [.slice none 0 0,(n:X)] h U (λr ac Y=>(n=0/\r = .slice none 0 0/\ac=h/\Y=U)\/(0<n/\r = .slice (some ⟨U,0,some 3⟩) 0 n/\(∃cs,u ac U=some (.cells cs false)/\cs.length=n*3)/\az U h ac/\Y=U+1)):=by
 refine awa ?_;unfold grow;rw[awj];have D:IntKind.wrap .i64 (0-((0:Nat):Int))=0:=by rfl
 have C:IntKind.wrap .i64 ((n:Int)-0)=(n:Int):=by rw[Int.sub_zero];exact js n J
 refine uj @D @C ?_;refine⟨J,λ_=>⟨λI=>?_,J⟩⟩;rw[show iY 3 (.slice none 0 0) none (some (.int .i64 0)) none = .ok (.slice none 0 0)from rfl,xk,show Q=Tryz.prog from rfl,apz J E];show ag (iY 3 (.slice (some ⟨U,0,some 3⟩) n n) none (some (((0:Nat):X))) none) _;have g:iY 3 (.slice (some ⟨U,0,some 3⟩) n n) none (some (((0:Nat):X))) none = .ok (.slice (some ⟨U,0,some 3⟩) 0 n):=by
  obtain⟨m,rfl⟩:∃m,n=m+1:=⟨n-1,J⟩
  show oD 3 (some ⟨U,0,some 3⟩) (m+1) false (m+1) 0 0=_;unfold oD;rw[show(Nat.ble (m+1) (m+1)&&(Nat.ble 0 (m+1)&&Nat.ble 0 0))=true by simp only[eD,sU];omega];rfl
 rw[g,xk];exact .inr ⟨J,rfl,⟨_,aN _ _ _,by rw[anT];rfl⟩,aC,rfl⟩
def nr(dQ dC:aa GE):Nat->aa GE
 |0=>[]
 |1=>dQ
 |_=>dQ++dC
def ax0(dQ dC:aa GE)(p:Nat)(h:ad)(U:Nat)(m:Nat)(aE:aa X)(ac:ad)(Y:Nat):Prop :=
 ∃i,m=2-i/\i<=2/\aE=[.slice (some ⟨p,0,none⟩) 2 2,.int .i64 ((nr dQ dC i).length:Int),.slice (some ⟨p,0,none⟩) 2 2,.int .i64 2,(i:X)]/\ac=h/\Y=U
def Vt(h:ad)(ao ai n:Nat)(acc:aa GE)(o:X):Prop:=(n=0/\acc=[]/\o = .slice none 0 0)\/∃b cs,ao<=b/\b<ai/\o = .slice (some ⟨b,0,some 3⟩) acc.length n/\u h b=some (.cells (a1 bQ acc++cs) false)/\cs.length=(n-acc.length)*3
def ahx(dQ dC:aa GE)(n p:Nat)(h:ad)(U:Nat)(m:Nat)(aE:aa X)(ac:ad)(Y:Nat):Prop :=
 ∃(i:Nat) (o:X),m=2-i/\i<=2/\aE=[o,.slice (some ⟨p,0,none⟩) 2 2,.int .i64 2,(i:X)]/\Vt ac U Y n (nr dQ dC i) o/\az U h ac/\U<=Y
theorem anU{p c:Nat}{dQ dC:aa GE}(bv:u h p=some (.cells [v1,v2] bC))(Ix:p<U)(h1:dq h U v1 bQ dQ)(al:dq h U v2 bQ dC)(bg:dQ.length+dC.length<=1000):
  aD Q s 273 [.slice (some ⟨p,0,none⟩) 2 2] h U (λr ac Y=>dq ac Y r bQ (dQ++dC)/\az U h ac/\U<=Y):=by
 refine aq0 ?_;obtain⟨ax,c1,rfl,BI⟩:=id h1;obtain⟨a2,c2,rfl,qk⟩:=id al;unfold aeX
 refine nU ?_;refine bq.mk (ax0 dQ dC p h U) 2 ⟨0,rfl,J,rfl,rfl,rfl⟩ ?_;rintro m _ aM B1 ⟨i,rfl,ai,rfl,aY,aJ⟩;rw[aY,aJ,ans];unfold aa9
 match i,ai with
 |0,_ =>
  have w:IntKind.wrap .i64 (((nr dQ dC 0).length:Int)+(dQ.length:Int))=((nr dQ dC 1).length:Int):=by rw[show((nr dQ dC 0).length:Int)+(dQ.length:Int)=(dQ.length:Int) by simp[nr]];exact js _ J
  refine uj @bv @w ?_;exact⟨λ_=>⟨J,λ_=>⟨1,J,1,rfl,J,rfl,rfl,rfl⟩⟩,λh=>absurd J h⟩
 |1,_ =>
  have w:IntKind.wrap .i64 (((nr dQ dC 1).length:Int)+(dC.length:Int))=((nr dQ dC 2).length:Int):=by rw[show((nr dQ dC 1).length:Int)+(dC.length:Int)=((dQ.length+dC.length:Nat):Int) by simp[nr]];rw[js _ J];simp[nr]
  refine uj @bv @w ?_;exact⟨λ_=>⟨J,λ_=>⟨0,J,2,rfl,J,rfl,rfl,rfl⟩⟩,λh=>absurd J h⟩
 |2,_ =>
  refine nU ?_;refine⟨λh=>absurd h J,λ_=>?_⟩;have I:(nr dQ dC 2).length=dQ.length+dC.length:=by simp[nr]
  refine(aul J).mono ?_;intro r bc Iw a5;generalize bm:(nr dQ dC 2).length=n at a5 I;have st:Vt bc U Iw n [] r/\az U h bc/\U<=Iw:=by
   rcases a5 with⟨ap,rfl,rfl,rfl⟩|⟨ap,rfl,⟨cs,aG,M⟩,hk,rfl⟩
   ·exact⟨.inl ab,aC,J⟩
   ·exact⟨.inr ⟨U,cs,J,J,rfl,aG,J⟩,hk,J⟩
  obtain⟨st,gd,Z⟩:=st;refine bq.mk (ahx dQ dC n p h U) 2 ⟨0,r,rfl,J,rfl,st,gd,Z⟩ ?_;rintro m _ bP E ⟨i,o,rfl,ai,rfl,st,D,g⟩;rw[ant];unfold aba;have B2:=(D p Ix).trans bv;have step:∀(j:Nat) (y:aa GE) (sC:X),dq h U sC bQ y->nr dQ dC (j+1)=nr dQ dC j++y->(nr dQ dC (j+1)).length<=n->Vt bP U E n (nr dQ dC j) o->j+1<=2 ->
    dB (dS (dv 3 bP E o sC)) λmR h24 n25=>ag (bin Q .add 3 (j:X) (.int .i64 1)) λqr=>∃bG,bG<2-j/\ahx dQ dC n p h U bG [mR,.slice (some ⟨p,0,none⟩) 2 2,.int .i64 2,qr] h24 n25:=by
   intro j y sC ca bk L st bM;rcases st with⟨V,C,rfl⟩|⟨b,cs,hy,P,rfl,aG,M⟩
   ·have hy0:y=[]:=by
     rw[bk,C,V]at L
     grind
    subst hy0;obtain⟨a3,cm,rfl,_⟩:=ca;have g9:dv 3 bP E (.slice none 0 0) (.slice a3 ([]:aa GE).length cm) = .ok (.val (.slice none 0 0) bP E):=by cases a3 <;> rfl
    rw[g9];simp(disch:=omega)only[bd,↓reduceIte,Nat.reduceAdd,Nat.reduceSub,Nat.reduceMul,Nat.reduceLT,Nat.reduceLeDiff,Nat.reduceEqDiff,Int.reduceBEq,Int.reduceLT,Int.reduceNeg,dS,Ms,cn (J:j<1000000000000)];exact⟨2-(j+1),J,j+1,_,rfl,bM,rfl,.inl ab,D,g⟩
   ·rw[bk,jb]at L;obtain⟨b9,g1,ET,x3⟩:=anS  aG rfl J M (ca.T D g);rw[g1];simp(disch:=omega)only[bd,↓reduceIte,Nat.reduceAdd,Nat.reduceSub,Nat.reduceMul,Nat.reduceLT,Nat.reduceLeDiff,Nat.reduceEqDiff,Int.reduceBEq,Int.reduceLT,Int.reduceNeg,dS,Ms,cn (J:j<1000000000000)];refine⟨2-(j+1),J,j+1,_,rfl,bM,rfl,.inr ⟨b,cs.drop (y.length*3),hy,P,?_,?_,?_⟩,aC,g⟩
    all_goals grind
  match i,ai with
  |0,_ =>
   refine mA @B2 ?_;exact⟨λ_=>step 0 dQ _ h1 rfl (by rw[I];simp[nr]) st J,λh=>absurd J h⟩
  |1,_ =>
   refine mA @B2 ?_;exact⟨λ_=>step 1 dC _ al rfl ab st J,λh=>absurd J h⟩
  |2,_ =>
   refine nU ?_;refine⟨λh=>absurd h J,λ_=>⟨?_,D,g⟩⟩;rcases st with⟨V,C,rfl⟩|⟨b,cs,hy,P,rfl,aG,M⟩
   ·have C:dQ++dC=[]:=C;rw[C];exact⟨none,0,rfl,λh=>absurd rfl h⟩
   ·exact⟨some ⟨b,0,some 3⟩,n,rfl,λ_=>⟨b,some 3,false,cs,P,rfl,aG⟩⟩
theorem afd(aI:dq h U v bQ gs)(cU:N<=2147483648)(bg:gs.length<=60)(E:∀g∈gs,fy N g):
  aD Q s 181 [.agg ⟨[(N:X),v]⟩] h U (λr ac Y=>∃af,jd ((vS gs).map di) (af.map di)/\af.length<=gs.length/\(∀g∈af,fy N g)/\rh N (gs++af) U h r ac Y):=by
 refine av8 ?_;obtain⟨a,cap,rfl,aU⟩:=id aI;unfold uw;refine aB ?_;have bF:∀{o aW},az U h (F (F h U o) (U+1) aW):=aC
 refine(SI (aI.T bF J) cU J E).mono ?_;rintro r h1 gv ⟨v1,af,rfl,lW,Iy,D,qo,I,V⟩;have L:af.length<=gs.length:=hu qo (t6 gs);have b7:=I U J;rw[aq J,aN]at b7;have dK:=I (U+1) J;rw[aN]at dK;obtain⟨a3,bR,cm,rfl⟩:=lW.form;refine⟨V,?_⟩;have cD:az U h h1:=aC
 refine cx @b7 @Qf ?_;have hB:∀{o},az gv h1 (F h1 gv o):=aC
 refine(anU (c:=2) (aN _ _ _) J ((aI.T cD J).T hB J) ((dq.of lW.rd).T hB J) J).mono ?_;rintro r aM B1 ⟨bP,ek,hr⟩;obtain⟨bl,qJ,rfl,MN⟩:=id bP;have EU:=(ek U J).trans ((aq J).trans b7);have B0:=(ek (U+1) J).trans ((aq J).trans dK);refine⟨hr,?_⟩;refine cx @EU @Qf ?_;have Z:∀g∈gs++af,fy N g:=λg P=>by
  rcases g6.1 P with P|P
  ·exact E g P
  ·exact D g P
 refine(ado bP cU Z ab).mono ?_;rintro r b9 n3 ⟨Ae,cs,rfl,C,Ee,M,je,hz,j9⟩;obtain⟨aZ,n7,jm,rfl⟩:=C.form;have ax1:=(hz (U+1) J).trans B0;refine⟨j9,?_⟩;refine a9 @ax1 ?_;refine⟨af,Iy,L,D,_,cs,rfl,?_,Ee,M,je,aC,J⟩;rcases C with C|⟨b,h1,al,e,aG⟩
 ·exact .inl C
 ·exact .inr ⟨b,J,al,e,ab⟩
def Bd(r c:Int)(ax a2 a3:av Addr)(a6 bH bR c1 c2 cm:Nat):X:=.agg ⟨[(r:X),(c:X),.slice ax a6 c1,.slice a2 bH c2,.slice a3 bR cm]⟩
def awk(r:X):Prop:=∃(x y:Int) (ax a2 a3:av Addr) (a6 bH bR c1 c2 cm:Nat),r=Bd x y ax a2 a3 a6 bH bR c1 c2 cm
theorem arp(C:N<=4096):aD Q s 367 [(N:X),(N:X)] h U (λr ac Y=>r = .agg ⟨[(N:X),(N:X),.slice (some ⟨U+1,0,none⟩) (N+1) (N+1),.slice none 0 0,.slice none 0 0]⟩/\u ac (U+1)=some (.cells (fx (List.replicate (N+1) 0)) false)/\az U h ac/\Y=U+1+1):=by
 refine bS ?_;have g:List.replicate (N+1) (Value.int .i64 0)=fx (List.replicate (N+1) 0):=by simp[fx]
 refine cx (cn (J:N<1000000000000)) @g ?_;exact aC
def xH(h:ad)(v1 v2:X)(dQ dC:aa Int)(ao ai:Nat):Prop :=
 (dQ=[]/\dC=[]/\v1 = .slice none 0 0/\v2 = .slice none 0 0)\/∃de bO,de≠bO/\ao<=de/\de<ai/\ao<=bO/\bO<ai/\v1 = .slice (some ⟨de,0,some 1⟩) dQ.length dQ.length/\v2 = .slice (some ⟨bO,0,some 1⟩) dC.length dC.length /\
  u h de=some (.cells (fx dQ) false)/\u h bO=some (.cells (fx dC) false)
theorem xH.ho(g:xH h v1 v2 dQ dC ao ai):∃E C,fb h cG 1 v1 dQ E/\fb h cG 1 v2 dC C/\(∀b,E=some b->ao<=b/\b<ai/\C≠some b)/\∀b,C=some b->ao<=b/\b<ai:=by
 rcases g with⟨rfl,rfl,rfl,rfl⟩|⟨L,bO,M,h1,al,P,V,rfl,rfl,I,D⟩
 ·exact⟨none,none,fb.nil,fb.nil,ab⟩
 ·rw[<-h2]at I D;exact⟨some L,some bO,.own I,.own D,ab,ab⟩
theorem xH.form(g:xH h v1 v2 dQ dC ao ai):∃ax D C a2 E c2,v1 = .slice ax D C/\v2 = .slice a2 E c2:=by
 rcases g with⟨_,_,rfl,rfl⟩|⟨I,bO,_,_,_,_,_,rfl,rfl,_⟩
 all_goals grind
def ax2(N cj eY iv ao:Nat)(Cr:X)(af:aa GE)(ap:ad)(U:Nat)(m:Nat)(aE:aa X)(ac:ad)(Y:Nat):Prop :=
 ∃(i:Nat) (S:aa Int) (eG l0:X),m=af.length-i/\i<=af.length/\aE=[(N:X),bb cj,bb eY,Cr,(af.length:X),(i:X)] /\
  u ac eY=some (.cells [(N:X),(N:X),.slice (some ⟨iv,0,none⟩) (N+1) (N+1),eG,l0] false)/\u ac iv=some (.cells (fx S) false)/\S.length=N+1/\(∀x∈S,0<=x/\x<=(i:Int)) /\
  xH ac eG l0 ((af.take i).map λe=>(e.t:Int)) ((af.take i).map GE.w) ao Y/\(∀c,c<ao->c≠eY->c≠iv->u ac c=u ap c)/\ao<=Y
def ax3(N cj eY iv ao:Nat)(eG l0:X)(ap:ad)(U:Nat)(m:Nat)(aE:aa X)(ac:ad)(Y:Nat):Prop :=
 ∃(i:Nat) (S:aa Int),m=N-i/\i<=N/\aE=[bb cj,bb eY,(N:X),(i:X)] /\
  u ac eY=some (.cells [(N:X),(N:X),.slice (some ⟨iv,0,none⟩) (N+1) (N+1),eG,l0] false)/\u ac iv=some (.cells (fx S) false)/\S.length=N+1/\(∀(k:Nat) (x:Int),S[k]? = some x->0<=x/\(x<=120\/(k<=i/\x<=120*((k:Int)+1)))) /\
  (∀c,c≠iv->u ac c=u ap c)/\Y=U
def uk(h:ad)(ao ai:Nat)(r:X):Prop:=∃(x y:Int) (v1 v2 v3:X) (st cl gf:aa Int),r = .agg ⟨[(x:X),(y:X),v1,v2,v3]⟩/\eZ h ao ai v1 cG st/\eZ h ao ai v2 cG cl/\eZ h ao ai v3 cG gf/\st.length<=4097/\cl.length<=120/\gf.length<=120
theorem uk.form(H:uk h ao ai r):awk r:=by obtain⟨x,y,v1,v2,g,st,cl,C,rfl,⟨ax,D,rfl,_⟩,⟨a2,c2,rfl,_⟩,⟨a3,cm,rfl,_⟩,_⟩:=H;exact⟨_,_,_,_,_,_,_,_,_,_,_,rfl⟩
theorem uk.T{h ac:ad}{ao ai ed da:Nat}{r:X}(H:uk h ao ai r)(g:∀b,ao<=b->b<ai->u ac b=u h b)(h1:ed<=ao)(al:ai<=da):uk ac ed da r:=by obtain⟨x,y,v1,v2,C,st,cl,E,rfl,D,I,L,l⟩:=H;exact⟨x,y,v1,v2,C,st,cl,E,rfl,D.T g h1 al,I.T g h1 al,L.T g h1 al,l⟩
theorem Hi:eZ h ao ai (.slice none 0 0) cG []:=⟨none,0,rfl,λe=>absurd rfl e⟩
theorem uk.zero:uk h ao ai (.agg ⟨[.int .i64 0,.int .i64 0,.slice none 0 0,.slice none 0 0,.slice none 0 0]⟩):=⟨0,0,_,_,_,[],[],[],rfl,Hi,Hi,Hi,by simp,by simp,by simp⟩
theorem xH.gI(g:xH h v1 v2 dQ dC ao ai):eZ h ao ai v1 cG dQ/\eZ h ao ai v2 cG dC:=by
 rcases g with⟨rfl,rfl,rfl,rfl⟩|⟨I,bO,M,h1,al,E,L,rfl,rfl,D,C⟩
 ·exact⟨Hi,Hi⟩
 ·rw[<-h2]at D C;exact⟨⟨_,_,rfl,λ_=>⟨I,_,_,h1,al,rfl,D⟩⟩,⟨_,_,rfl,λ_=>⟨bO,_,_,E,L,rfl,C⟩⟩⟩
def afe(U:Nat)(h:ad):bD:=λr ac Y=>uk ac U Y r/\az U h ac/\U<=Y
theorem arq(aI:dq h U v bQ af)(cU:N<=4096)(bg:af.length<=120)(jf:∀g∈af,fy N g):
  aD Q s 281 [(N:X),(N:X),v] h U (afe U h):=by
 refine aeZ ?_;obtain⟨a,cap,rfl,aU⟩:=id aI;unfold To;refine aB ?_;refine(arp cU).mono ?_;rintro r h1 _ ⟨rfl,hy,I,rfl⟩;have b7:=I U J;rw[aN]at b7;refine aB ?_;refine bq.mk (ax2 N U (U+1+1+1) (U+1+1) (U+1+1+1+1) (.slice a af.length cap) af h1 U) af.length ⟨0,List.replicate (N+1) 0,_,_,rfl,J,rfl,ab,ab,by simp,ab,.inl ⟨rfl,rfl,rfl,rfl⟩,ab,J⟩ ?_;rintro m _ al e4 ⟨i,S,eG,l0,rfl,ai,rfl,V,gx,E,C,M,bx,dr⟩;obtain⟨d9,dI,o9,yt,yu,Jv⟩:=M.ho;obtain⟨ax,a6,c1,a2,bH,c2,rfl,rfl⟩:=M.form;rw[ada];unfold Rl;refine aB ?_;refine⟨λci=>?_,λeh=>?_⟩
 ·obtain⟨e,bk⟩:=dk ci;have Vu:=jf e ab;have Vv:e.f<N:=Vu.1;obtain⟨_,b,aO,bC,dF,cs,aG,aY,a5⟩:=aI.at bk;cases aY;have jy:=(bx b J J J).trans ((I b J).trans ((aq J).trans a5));have se:hF (some 3) (i*3) (a1 bQ af++cs) = .ok (.agg ⟨[(e.f:X),(e.t:X),.int .i64 e.w]⟩):=sj  (k:=3) (λ_=>rfl) bk;obtain⟨x,P⟩:=dk (l:=S) (i:=e.f+1) J;have Ng:=C x ab;have L:IntKind.wrap .i64 (x+1)=x+1:=jI J J;simp(disch:=omega)only[bd,jy,se,V,gx,cn (J:e.f<1000000000000),iz P,L,seval];refine⟨J,?_⟩;have je:((af.take i).map λe=>(e.t:Int)).length=i:=ab
  have wc:((af.take i).map GE.w).length=i:=ab
  refine rX (o9.T λc aU=>ab) (aN _ _ _) J λaM uP D=>?_;have Iz:u aM (U+1+1+1)=some (.cells [(N:X),(N:X),.slice (some ⟨U+1+1,0,none⟩) (N+1) (N+1),.slice ax a6 c1,.slice a2 bH c2] false):=ab
  have IA:u aM e4=some (.cells [(e.f:X),(e.t:X),(e.w:X)] false):=ab
  refine cx @Iz @IA ?_;refine rX (yt.T λc aU=>?_) (aN _ _ _) J λbc Vw tB=>?_
  ·grind
  have IB:u bc (U+1+1+1)=some (.cells [(N:X),(N:X),.slice (some ⟨U+1+1,0,none⟩) (N+1) (N+1),.slice (some ⟨e4+1+1,0,some 1⟩) (((af.take i).map λe=>(e.t:Int)).length+1) (((af.take i).map λe=>(e.t:Int)).length+1),.slice a2 bH c2] false):=ab
  refine a9 @IB ?_;have pB:af.take (i+1)=af.take i++[e]:=by rw[gQ,bk];rfl
  refine⟨af.length-(i+1),J,i+1,S.set (e.f+1) (x+1),_,_,rfl,J,by rw[cn J],aN _ _ _,?_,ab,λz Z=>?_,.inr ⟨e4+1+1,e4+1+1+1+1,J,J,J,J,J,?_,?_,?_,?_⟩,λc h1 al aM=>?_,J⟩
  ·grind
  ·grind
  ·grind
  ·grind
  ·grind
  all_goals grind
 ·obtain⟨Cs,Ct⟩:=M.gI;have BZ:i=af.length:=J
  subst BZ;rw[ht]at Cs Ct;refine bq.mk (ax3 N U (U+1+1+1) (U+1+1) (U+1+1+1+1) (.slice ax a6 c1) (.slice a2 bH c2) al e4) N ⟨0,S,rfl,J,rfl,V,gx,E,λk x P=>?_,λ_ _=>rfl,rfl⟩ ?_
  ·have:=C x (jp P);omega
  rintro m _ aM _ ⟨k,S,rfl,hk,rfl,_,gx,E,C,D,rfl⟩;have V:=(D (U+1+1+1) J).trans V;rw[adb];unfold Rm
  by_cases Vx:k<N
  ·obtain⟨x,P⟩:=dk (l:=S) (i:=k+1) J;obtain⟨y,ca⟩:=dk (l:=S) (i:=k) J;have Ng:=C _ x P;have hyb:=C _ y ca;have L:IntKind.wrap .i64 (x+y)=x+y:=jI J J;simp(disch:=omega)only[bd,show(k:Int)<(N:Int) by omega,Vx,V,gx,cn (J:k<1000000000000),iz P,iz ca,L,seval];refine⟨⟨J,?_⟩,λh=>absurd trivial h⟩;refine⟨N-(k+1),J,k+1,S.set (k+1) (x+y),rfl,J,rfl,?_,aN _ _ _,ab,λj z Z=>?_,λc aM=>ab,rfl⟩
   ·grind
   ·rw[qP]at Z
    split at Z
    ·rename_i bM
     subst bM
     split at Z
     ·cases Z;omega
     omega
    grind
  ·have:k=N:=J
   subst this;have kh:=(D U J).trans ((bx U J J J).trans b7);refine cx @V @kh ?_;refine⟨λh=>absurd h J,λ_=>⟨⟨_,_,_,_,_,S,_,_,rfl,⟨_,_,by rw[E],λ_=>⟨U+1+1,none,false,J,J,rfl,?_⟩⟩,Cs.T ?_ J (cB _),Ct.T ?_ J (cB _),J,ab,ab⟩,λc aU=>?_,J⟩⟩
   ·rw[aq J,h2];omega
   ·grind
   ·grind
   ·rw[aq J,D c J,bx c J J J,I c J,aq J]
def Ef(g:GE):gS:=((g.f:Int),(g.t:Int),g.w)
theorem ZT:∀l:aa GE,a1 bQ l=a1 gc (l.map Ef)
 | []=>rfl
 |x::l=>by show bQ x++a1 bQ l=gc (Ef x)++a1 gc (l.map Ef);rw[ZT l];rfl
theorem aff(g:dq h U v bQ gs):dq h U v gc (gs.map Ef):=by obtain⟨a,cap,rfl,C⟩:=g;refine⟨a,cap,ab,λE=>?_⟩;obtain⟨b,aO,bC,cs,h1,al,D⟩:=C ab;exact⟨b,aO,bC,cs,h1,al,by rw[<-ZT];omega⟩
theorem Gy(L:dq h U v bQ gs)(V:N<=4096)(C:∀g∈gs,fy N g)(P:gs.length<=120):aD Q s 83 [.agg ⟨[(N:X),v]⟩] h U (cI (.int .i64 0) U h):=by
 have M:DI (N:Int) (gs.map Ef):=by
  refine⟨J,J,ab,λe I D=>?_,λe I D=>?_⟩
  ·obtain⟨g,E,rfl⟩:=fL.1 I;obtain⟨h1,al,_⟩:=C g E;have D:(g.f:Int)<0\/(N:Int)<=g.f\/(g.t:Int)<0\/(N:Int)<=g.t:=D;omega
  ·obtain⟨g,E,rfl⟩:=fL.1 I;obtain⟨_,_,h1,al⟩:=C g E;have D:g.w<0\/2147483647<g.w:=D;omega
 have:=Dr (s:=s) (n:=(N:Int)) (aff L);rw[AL.2 M]at this;exact this
theorem agw{cs:aa GE}(g:cs[i]? = some e):hF (some 3) (i*3) (a1 bQ cs) = .ok (.agg ⟨[(e.f:X),(e.t:X),(e.w:X)]⟩):=x1  (k:=3) (λ_=>rfl) g
def CgJ(cj cS N:Nat)(gi aC1:X)(af:aa GE)(ao:Nat)(h:ad)(m:Nat)(aE:aa X)(ac:ad)(Y:Nat):Prop :=
 ∃(i:Nat) (o:X),m=af.length-i/\i<=af.length/\aE=[bb cj,bb cS,o,gi,(af.length:X),(i:X)]/\dX ac o bQ 3 (af.take i) ao Y/\az ao h ac/\ao<=Y
def tk(e:Int)(U:Nat)(h:ad):bD:=λr ac Y=>∃m,r = .tuple ⟨[m,(e:X)]⟩/\uk ac U Y m/\az U h ac/\U<=Y
theorem aum(aI:dq h U v bQ gs)(cU:N<=4096)(D:∀g∈gs,fy N g)(bg:gs.length<=120):aD Q s 189 [.agg ⟨[(N:X),v]⟩] h U (tk 0 U h):=by
 refine agl ?_;obtain⟨a,cap,rfl,aU⟩:=id aI;unfold T0;refine aB ?_;have bF:∀{o aW},az U h (F (F h U o) (U+1) aW):=aC
 refine(Gy (aI.T bF J) cU D bg).mono ?_;rintro r h1 gv ⟨rfl,E,fp⟩;have b7:=E U J;rw[aq J,aN]at b7;have dK:=E (U+1) J;rw[aN]at dK;have cD:az U h h1:=aC
 refine a9 @b7 ?_;refine(SI (aI.T cD J) J bg D).mono ?_;rintro r al e4 ⟨v2,af,rfl,lW,Iy,L,qo,I,e9⟩;have ahy:af.length<=gs.length:=hu qo (t6 gs);obtain⟨a3,cm,rfl,IC⟩:=id lW.gI;refine aB ?_;refine bq.mk (CgJ U (U+1) N (.slice a3 af.length cm) .nilFunc af e4 al) af.length ⟨0,_,rfl,J,rfl,.inl ab,aC,J⟩ ?_;rintro m _ aM B1 ⟨i,o,rfl,ai,rfl,S,C,hr⟩;rw[aeW];unfold SD;refine aB ?_;refine⟨λci=>?_,λeh=>?_⟩
 ·obtain⟨e,bk⟩:=dk ci;obtain⟨b,aO,bC,hy,fa,rfl,aG⟩:=IC ab;have V:=(C b fa).trans aG;simp(disch:=omega)only[bd,V,agw bk,seval];refine l7  (k:=3)  (λ_=>rfl) (λ_=>rfl) J (S.T ab J) J e (aN _ _ _) rfl ab λsF bP BY Z=>?_;have M:af.take (i+1)=af.take i++[e]:=by rw[gQ,bk];rfl
  exact⟨af.length-(i+1),J,i+1,sF,rfl,J,by rw[cn J],by rw[M];exact BY,λc aU=>by rw[Z c aU,aq J,aq J,aq J];exact C c aU,J⟩
 ·have P:i=af.length:=J
  subst P;rw[ht]at S;have EV:=(C U J).trans ((I U J).trans b7);have Vy:=(C (U+1) J).trans ((I (U+1) J).trans dK);refine a9 @EV ?_;refine(arq (dq.of S.rd) cU J L).mono ?_;rintro r b9 n3 ⟨dD,hz,j9⟩;obtain⟨x,y,de,bO,d6,a6,bH,bR,c1,c2,h8,rfl⟩:=dD.form;have ID:=(hz (U+1) J).trans Vy;unfold Bd;refine a9 @ID ?_;exact⟨_,rfl,dD.T ab J J,aC,J⟩
structure l5 (N q U:Nat) (h ac:ad) (Y:Nat) (gs:aa GE) (v:X):Prop where
 g:u ac q=some (.cells [(N:X),v] false)
 m:u ac (q+1)=some (.cells [.int .i64 0,.int .i64 0,.slice none 0 0,.slice none 0 0,.slice none 0 0] false)
 p:dq ac Y v bQ gs
 ok:∀g∈gs,fy N g
 k:az U h ac
 lt:q+1<Y
theorem l5.put{q:Nat}{V:aa GE}(S:l5 N q U h ac Y gs v)(cz:U<=q)(Z:rh N V Y ac r al e4):∃(cs:aa GE) (a:av Addr) (n c:Nat),r = .agg ⟨[(N:X),.slice a n c]⟩/\cs.length<=V.length/\u al q=some (.cells [(N:X),v] false)/\Y<=e4/\l5 N q U h (F al q (.cells [(N:X),.slice a n c] false)) e4 cs (.slice a n c):=by
 obtain⟨v2,cs,rfl,g,M,E,L,C,D⟩:=Z;have I:=S.lt;obtain⟨a,n,c,rfl⟩:=g.form;refine⟨cs,a,n,c,rfl,L,(C q J).trans S.g,D,ab,?_,?_,E,?_,J⟩
 ·rw[aq J,C _ I];exact S.m
 ·refine dq.of ?_;have:dX (F al q (.cells [(N:X),.slice a n c] false)) (.slice a n c) bQ 3 cs Y e4:=by
   rcases g with g|⟨b,h1,al,e,P⟩
   ·exact .inl g
   ·exact .inr ⟨b,h1,al,e,ab⟩
  exact this.rd
 ·intro b P;rw[aq J,C b J];exact S.k b P
def iB(k n src len:Int)(bt:aa Int)(bI:Int)(es:aa gS):Int:=if gR k n src len bt≠0 then gR k n src len bt else if bI≠n then 4 else gr bI es
theorem anV{k:Int}(bu:cN h U ew cG bt)(bk:dq h U gi gc es)(E:es.length<=60\/65536<es.length):
  aD Q s 114 [.agg ⟨[(k:X),(n:X),(src:X),(len:X),ew]⟩,.agg ⟨[(bI:X),gi]⟩] h U (tk (iB k n src len bt bI es) U h):=by
 refine ac8 ?_;obtain⟨a,cap,rfl,aU⟩:=id bu;obtain⟨a2,r5,rfl,qk⟩:=id bk;unfold SC;refine aB ?_;have bF:∀{o aW kQ},az U h (F (F (F h U o) (U+1) aW) (U+1+1) kQ):=aC
 refine(Ky (bu.T bF J)).mono ?_;rintro r h1 gv ⟨rfl,P,fp⟩;have kh:=P U J;rw[aq J,aq J,aN]at kh;have ki:=P (U+1) J;rw[aq J,aN]at ki;have pN:=P (U+1+1) J;rw[aN]at pN;have cD:az U h h1:=aC
 have zero:∀{ac:ad} {Y:Nat} {o:fM} {e:Int},iB k n src len bt bI es=e->az U h ac->U<=Y->tk (iB k n src len bt bI es) U h (.tuple ⟨[.agg ⟨[.int .i64 0,.int .i64 0,.slice none 0 0,.slice none 0 0,.slice none 0 0]⟩,(e:X)]⟩) (F ac (U+1+1) o) Y:=λ{ac Y o e} bk hk L=>by rw[bk];exact⟨_,rfl,uk.zero,aC,L⟩
 generalize sd:gR k n src len bt=aj at *
 by_cases ic:aj=0
 case neg =>
  have aG:(aj == 0)=false:=ab
  refine cx @aG @pN ?_;exact zero (by unfold iB;omega) cD J
 subst ic;refine cx @ki @kh ?_;refine⟨λeg=>?_,λpx=>?_⟩
 ·refine a9 @pN ?_;have eg:bI≠n:=ab
  exact zero (by unfold iB;omega) cD J
 have px:bI=n:=ab
 have M:iB k n src len bt bI es=gr bI es:=by unfold iB;omega
 refine(Dr (bk.T cD J)).mono ?_;rintro r al e4 ⟨rfl,C,e9⟩;have ez:=cD.trans C J;have x4:=(C U J).trans kh;have uQ:=(C (U+1) J).trans ki;have B3:=(C (U+1+1) J).trans pN
 by_cases V:gr bI es=0
 case neg =>
  have aG:(gr bI es == 0)=false:=ab
  refine cx @aG @B3 ?_;exact zero M ez J
 rw[V]at M ⊢;have E:=L2 V E;obtain⟨N,rfl,cU,oW,iw⟩:=(AL.1 V).Is;have Z:=((bk.T cD J).T C e9).map oW;rw[<-g5 ]at E;generalize oV:es.map mQ=gs at E iw Z;have g:es.length=gs.length:=ab
 rw[g]at uQ Z;have mY:l5 N (U+1) U h al e4 gs (.slice a2 gs.length r5):=⟨uQ,B3,Z,iw,ez,J⟩
 rw[M];have tail:∀{ac:ad} {Y:Nat} {gs:aa GE} {a:av Addr} {n c:Nat},l5 N (U+1) U h ac Y gs (.slice a n c)->U<=Y->gs.length<=120->sY s (tk 0 U h) (.pointer (some ⟨U+1,0,none⟩)) (.pointer (some ⟨U+1+1,0,none⟩)) ac Y:=λ{ac Y gs a n c} S aR bg=>by have ci:=S.lt;unfold sY;refine a9 S.g ?_;refine(aum S.p cU S.ok bg).mono ?_;rintro r b9 n3 ⟨m,rfl,dD,hz,j9⟩;obtain⟨x,y,de,bO,d6,a6,bH,bR,c1,c2,h8,rfl⟩:=dD.form;have lF:=(hz _ S.lt).trans S.m;unfold Bd;refine a9 @lF ?_;exact⟨_,rfl,dD.T ab J J,λb aG=>by rw[aq J,hz b J];exact S.k b aG,J⟩
 have plain:∀{ac:ad} {Y:Nat} {gs:aa GE} {a:av Addr} {n c:Nat},l5 N (U+1) U h ac Y gs (.slice a n c)->U<=Y->gs.length<=120->aD Q s 188 [.agg ⟨[(N:X),.slice a n c]⟩] ac Y λD I x5=>(c5 D).length=2/\ag (jg (u I (U+1)) I (U+1) 0 (c5 D)) λx6=>sY s (tk 0 U h) (.pointer (some ⟨U+1,0,none⟩)) (.pointer (some ⟨U+1+1,0,none⟩)) x6 x5:=λ{ac Y gs a n c} S aR bg=>by refine(adp S.p J bg S.ok).mono ?_;intro r b9 n3 ba;obtain⟨cs,bf,n6,hD,rfl,g,cz,L,sI⟩:=S.put J ba;refine a9 @cz ?_;exact tail sI J (by have:=t6 (p:=λ_=>true) (m:=xG) gs;unfold w9 at g;omega)
 have uw:∀{ac:ad} {Y:Nat} {gs:aa GE} {a:av Addr} {n c:Nat},l5 N (U+1) U h ac Y gs (.slice a n c)->U<=Y->gs.length<=60->aD Q s 181 [.agg ⟨[(N:X),.slice a n c]⟩] ac Y λIE B4 B5=>(c5 IE).length=2/\ag (jg (u B4 (U+1)) B4 (U+1) 0 (c5 IE)) λsk=>ag (A1 (u sk (U+1)) λcs x=>hF (some 2) 0 cs) λVz=>aD Q s 188 [Vz] sk B5 λD I x5=>(c5 D).length=2/\ag (jg (u I (U+1)) I (U+1) 0 (c5 D)) λx6=>sY s (tk 0 U h) (.pointer (some ⟨U+1,0,none⟩)) (.pointer (some ⟨U+1+1,0,none⟩)) x6 x5:=λ{ac Y gs a n c} S aR bg=>by refine(afd S.p J bg S.ok).mono ?_;rintro r b9 n3 ⟨af,_,qo,_,ba⟩;obtain⟨cs,bf,n6,hD,rfl,g,cz,L,sI⟩:=S.put J ba;rw[jb]at g;refine a9 @cz ?_;exact plain sI J J
 refine cx @uQ @x4 ?_;refine⟨λ_=>?_,λ_=>⟨λ_=>uw mY J E,λ_=>⟨λ_=>plain mY J J,λ_=>tail mY J J⟩⟩⟩;refine(abo mY.p J J iw).mono ?_;intro r b9 n3 ba;obtain⟨cs,bf,n6,hD,rfl,g,cz,L,sI⟩:=mY.put J ba;have x2:=t6 (p:=s6) (m:=id) gs;unfold AV at g;refine a9 @cz ?_;exact uw sI J J
def nj(k n src len:Int)(bt:aa Int)(bI:Int)(es:aa gS)(lim:Int):Int:=if iB k n src len bt bI es≠0 then iB k n src len bt bI es else if lim<0\/8192<lim then 3 else 0
theorem anW{k g:Int}(E:cN h U ew cG bt)(P:dq h U gi gc es)(D:es.length<=60\/65536<es.length):
  aD Q s 200 [.agg ⟨[(k:X),(n:X),(src:X),(len:X),ew]⟩,.agg ⟨[(bI:X),gi]⟩,(g:X)] h U (cI (.int .i64 (nj k n src len bt bI es g)) U h):=by
 refine bS ?_;obtain⟨a,cap,rfl,aU⟩:=id E;obtain⟨a2,L,rfl,qk⟩:=id P;refine aB ?_;have M:∀{o aW},az U h (F (F h U o) (U+1) aW):=aC
 refine(anV (E.T M J) (P.T M J) D).mono ?_;rintro r h1 gv ⟨m,rfl,dD,V,I⟩;obtain⟨x,y,de,bO,d6,a6,bH,bR,c1,c2,h8,rfl⟩:=dD.form;have C:∀{o aW},az U h (F (F h1 gv o) gv aW):=aC
 unfold Bd
 by_cases Z:iB k n src len bt bI es=0
 case neg =>
  have aG:(iB k n src len bt bI es == 0)=false:=ab
  refine a9 @aG ?_;exact⟨by unfold nj;grind,C,J⟩
 rw[Z];have e:nj k n src len bt bI es g=if g<0\/8192<g then 3 else 0:=by unfold nj;omega
 refine aB ?_;rw[e];refine⟨λal=>⟨ab,C,J⟩,λal=>⟨λaM=>⟨ab,C,J⟩,λaM=>⟨ab,C,J⟩⟩⟩
def jQ(n m:Int):ak:=decide (1<=n/\n<=m)
structure iZ where
 k:Int
 n:Int
 src:Int
 len:Int
 bt:aa Int
 bI:Int
 es:aa gS
 R:Int
 C:Int
 M:Int
 lim:Int
 uR:Nat
def gl(x:iZ):Int:=if nj x.k x.n x.src x.len x.bt x.bI x.es x.lim≠0 then nj x.k x.n x.src x.len x.bt x.bI x.es x.lim
 else if jQ x.R 8=false then 3 else if jQ x.C 8=false then 3 else if jQ x.M 64=false then 3 else if 8192<x.uR then 5 else 0
def fq(x:iZ)(ew gi eG:X):aa X:=[(x.k:X),(x.n:X),(x.src:X),(x.len:X),ew,(x.bI:X),gi,(x.R:X),(x.C:X),(x.M:X),(x.lim:X),eG]
structure oH (h:ad) (U:Nat) (x:iZ) (ew gi eG:X):Prop where
 d:cN h U ew cG x.bt
 e:dq h U gi gc x.es
 c:∃a n,eG = .slice a x.uR n
 l:x.es.length<=60\/65536<x.es.length
theorem oH.T{h ac:ad}{U Y:Nat}{x:iZ}{ew gi eG:X}(H:oH h U x ew gi eG)(C:az U h ac)(g:U<=Y):oH ac Y x ew gi eG:=⟨H.d.T C g,H.e.T C g,H.c,H.l⟩
theorem KY{x:iZ}(H:oH h U x ew gi eG):aD Q s 121 [.agg ⟨fq x ew gi eG⟩] h U (cI (.int .i64 (gl x)) U h):=by
 refine bS ?_;obtain⟨a,cap,rfl,aU⟩:=id H.d;obtain⟨a2,P,rfl,qk⟩:=id H.e;obtain⟨a3,M,rfl⟩:=H.c;unfold fq;have L:∀{o},az U h (F h U o):=aC
 refine aB ?_;refine(anW (H.d.T L J) (H.e.T L J) H.l).mono ?_;rintro r h1 gv ⟨rfl,E,I⟩;have g:=E U J;rw[aN]at g;have C:az U h h1:=aC
 generalize hm:nj x.k x.n x.src x.len x.bt x.bI x.es x.lim=Jw
 by_cases Z:Jw=0
 case neg =>
  have aG:(Jw == 0)=false:=ab
  refine a9 @aG ?_;exact⟨by unfold gl;grind,C,J⟩
 subst Z;have e:gl x=if jQ x.R 8=false then 3 else if jQ x.C 8=false then 3 else if jQ x.M 64=false then 3 else if 8192<x.uR then 5 else 0:=by unfold gl;omega
 rw[e];refine a9 @g ?_;refine PT.mono ?_;rintro r al V ⟨rfl,D,aJ⟩;rw[D,aJ];change ag (d2 .not (.bool (jQ x.R 8))) _;cases dD:jQ x.R 8 with
 |false =>
  refine a9 @g ?_;exact⟨rfl,C,J⟩
 |true =>
 refine a9 @g ?_;refine PT.mono ?_;rintro r al V ⟨rfl,D,aJ⟩;rw[D,aJ];change ag (d2 .not (.bool (jQ x.C 8))) _;cases d5:jQ x.C 8 with
 |false =>
  refine a9 @g ?_;exact⟨rfl,C,J⟩
 |true =>
 refine a9 @g ?_;refine PT.mono ?_;rintro r al V ⟨rfl,D,aJ⟩;rw[D,aJ];change ag (d2 .not (.bool (jQ x.M 64))) _;cases jn:jQ x.M 64 with
 |false =>
  refine a9 @g ?_;exact⟨rfl,C,J⟩
 |true =>
 refine a9 @g ?_;exact⟨λb9=>⟨ab,C,J⟩,λb9=>⟨ab,C,J⟩⟩
def zy(x:iZ)(Fs:aa cE)(w:Int):Int:=if gl x≠0 then gl x else if 1048576<Fs.length then 5 else if Fs.any (λm=>!w8 m)=true then 8 else if lV w 1048576=false then 3 else 0
theorem ZU{x:iZ}{g:aa cE}{w:Int}{Jj:X}(H:oH h U x ew gi eG)(hm:cN h U Jj zx g)(x2:g.length<=60\/1048576<g.length):
  aD Q s 161 [.agg ⟨fq x ew gi eG⟩,Jj,(w:X)] h U (cI (.int .i64 (zy x g w)) U h):=by
 refine bS ?_;obtain⟨a,cap,rfl,aU⟩:=id hm;have bF:∀{o},az U h (F h U o):=aC
 obtain⟨a3,I,rfl⟩:=id H.c;obtain⟨ax,D,rfl,_⟩:=id H.d;obtain⟨a2,E,rfl,_⟩:=id H.e;generalize Z:fq x (.slice ax x.bt.length D) (.slice a2 x.es.length E) (.slice a3 x.uR I)=eO at *
 have C:=Z;unfold fq at C;rw[<-C];refine aB ?_;rw[C,<-Z];refine(KY (H.T bF J)).mono ?_;rintro r h1 gv ⟨rfl,eT,fp⟩;have L:az U h h1:=aC
 by_cases ap:gl x=0
 case neg =>
  have aG:(gl x == 0)=false:=ab
  refine a9 @aG ?_;exact⟨by unfold zy;grind,L,J⟩
 have e:zy x g w=if 1048576<g.length then 5 else if g.any (λm=>!w8 m)=true then 8 else if lV w 1048576=false then 3 else 0:=by unfold zy;omega
 rw[e,ap];refine aB ?_;refine⟨λb9=>⟨ab,L,J⟩,λb9=>?_⟩;rw[if_neg J];refine(anP (hm.T L J) J (λx h U=>ajC)).mono ?_;rintro r al e4 ⟨rfl,P,V⟩;have M:=L.trans P J;cases dg:g.any (λm=>!w8 m)with
 |true =>
  refine aB ?_;exact⟨rfl,M,J⟩
 |false =>
 refine aB ?_;refine F7.mono ?_;rintro r aM bR ⟨rfl,aY,aJ⟩;rw[aY,aJ];cases aG:lV w 1048576 with
 |false =>
  refine aB ?_;exact⟨rfl,M,J⟩
 |true =>
  refine aB ?_;exact⟨rfl,M,J⟩
def Eg(x:iZ)(r:Int):Int:=if lV r 8192=false then 0 else if gl x≠0 then 0 else 4*(x.R+x.C+4)*(r+2)
theorem ZV{x:iZ}{w:Int}(H:oH h U x ew gi eG):
  aD Q s 75 [.agg ⟨fq x ew gi eG⟩,(w:X)] h U (cI (.int .i64 (Eg x w)) U h):=by
 refine anw ?_;have bF:∀{o},az U h (F h U o):=aC
 obtain⟨a3,I,rfl⟩:=id H.c;obtain⟨ax,D,rfl,_⟩:=id H.d;obtain⟨a2,E,rfl,_⟩:=id H.e;unfold ade;have P:fq x (.slice ax x.bt.length D) (.slice a2 x.es.length E) (.slice a3 x.uR I)=_:=rfl;unfold fq at P ⊢;refine aB ?_;refine F7.mono ?_;rintro r aM bR ⟨rfl,aY,aJ⟩;rw[aY,aJ];unfold PO;cases V:lV w 8192 with
 |false =>
  refine aB ?_;exact⟨by unfold Eg;grind,bF,J⟩
 |true =>
 have e:Eg x w=if gl x≠0 then 0 else 4*(x.R+x.C+4)*(w+2):=by unfold Eg;grind
 rw[e];refine aB ?_;refine(KY (H.T bF J)).mono ?_;rintro r h1 gv ⟨rfl,M,Z⟩;have g:=M U J;rw[aN]at g;have cD:az U h h1:=aC
 by_cases C:gl x=0
 case neg =>
  have V:(gl x == 0)=false:=ab
  refine a9 @V ?_;exact⟨ab,cD,J⟩
 have L:(1<=x.R/\x.R<=8)/\1<=x.C/\x.C<=8:=by
  unfold gl at C
  split at C
  ·omega
  ·split at C
   ·omega
   ·split at C
    ·omega
    ·rename_i h1 al aM
     exact⟨of_decide_eq_true (by unfold jQ at al;grind),of_decide_eq_true (by unfold jQ at aM;grind)⟩
 have bN:0<=w/\w<=8192:=of_decide_eq_true V;obtain⟨⟨hR1,hR2⟩,hC1,hC2⟩:=L;have m1:0<=(4*(x.R+x.C+4))*(w+2):=Int.mul_nonneg J J;have m2:(4*(x.R+x.C+4))*(w+2)<=80*8194:=Int.mul_le_mul J J J J;have aBJ:∀n:Int,-9223372036854775808<=n->n<=9223372036854775807->uf .i64 n=n:=λn C h1=>by rw[oA];exact jI C h1
 rw[C,if_neg (by simp)];refine a9 @g ?_;refine⟨?_,cD,J⟩;rw[jI (n:=x.R+x.C) J J,jI  J J,aBJ (Int.mul 4 (x.R+x.C+4)) ab ab,jI  J J]
 grind
def wR(s:ak)(K:bD)(bY EW:X)(ap:ad)(aX:Nat):Prop:=bJ EW (K (ae 3) ap aX) (ay ap 11 bY λb=>cQ b λc=>kA c (ae 8192) (K (ae 5) ap aX) (K (ae 0) ap aX))
def adq:fw:=λs au h U K=>cK au h U λa b c=>nH 5 b 0 a λe=>nH 2 b 5 a λg=>ay b 10 a λj=>bh s 86 [e,g,j] b c λk l m=>lh k (K k l m) (ay l 7 a λp=>cq p (ae 1) (wR s K a (.bool true) l m) (ay l 7 a λt=>kA t (ae 8) (wR s K a (.bool true) l m) (ay l 8 a λw=>cq w (ae 1) (wR s K a (.bool true) l m) (ay l 8 a λz=>kA z (ae 8) (wR s K a (.bool true) l m) (ay l 9 a λbV=>cq bV (ae 1) (wR s K a (.bool true) l m) (ay l 9 a λcM=>cf .gtr 3 cM (ae 64) λbU=>(wR s K a bU l m)))))))
theorem anX:fG 24 adq:=fO []
def yY(s:ak)(K:bD)(b6 cR:X)(ap:ad)(aX:Nat):Prop:=a4 2 ap b6 λa=>bh s 178 [a] ap aX λb c d=>ag (dz b 0) λe=>ag (dz b 1) λf=>ag (a7 c 5 cR e) λg=>a4 5 g cR λi=>K (.tuple ⟨[i,f]⟩) g d
def adr:fH:=λs au t1 h U K=>cK au h U λa b c=>cK t1 b c λd e f=>cJ [(ae 0),(ae 0),aS,aS,aS] e f λg i j=>a4 5 i a λk=>bh s 174 [k] i j λl m n=>lh l (ag (c8 [(ae 0),(ae 0),aS,aS,aS] []) λp=>ag (a7 m 5 g p) λq=>a4 5 q g λr=>K (.tuple ⟨[r,l]⟩) q n) (ay m 0 d λaT=>ay m 1 a λw=>bT .neq 3 aT w (ag (c8 [(ae 0),(ae 0),aS,aS,aS] []) λy=>ag (a7 m 5 g y) λz=>a4 5 z g λbX=>K (.tuple ⟨[bX,(ae 4)]⟩) z n) (a4 2 m d λch=>bh s 92 [ch] m n λbV bp b2=>lh bV (ag (c8 [(ae 0),(ae 0),aS,aS,aS] []) λbU=>ag (a7 bp 5 g bU) λdj=>a4 5 dj g λcP=>K (.tuple ⟨[cP,bV]⟩) dj b2) (ay bp 0 a λdH=>bT .eql 40 dH (ae 1) (a4 2 bp d λam=>bh s 175 [am] bp b2 λan eR gM=>ag (a7 eR 2 d an) λhC=>(yY s K d g hC gM)) (bT .eql 40 dH (ae 3) (a4 2 bp d λi7=>bh s 176 [i7] bp b2 λhS hd pL=>bh s 175 [hS] hd pL λl4 m5 o7=>ag (a7 m5 2 d l4) λi9=>(yY s K d g i9 o7)) (bT .eql 40 dH (ae 5) (a4 2 bp d λsG=>bh s 177 [sG] bp b2 λbe sH jD=>bh s 176 [be] sH jD λfS bi og=>bh s 175 [fS] bi og λnF li i5=>ag (a7 li 2 d nF) λtO=>(yY s K d g tO i5)) (yY s K d g bp b2))))))
theorem anY:fR 103 adr:=fX []
def PU:aa (aa Nat):=[[1,2,3]]
def YU(s:ak)(ax a2 a3:X)(h:ad)(U:Nat)(N:aH)(aF:aH)(R:aH):Prop:=ay h 4 ax λb=>cQ b λc=>cq a3 c (ay h 4 ax λf=>ea h 1 f a3 λi=>bT .lss 2 i (ae 0) (R [ax,(ae 7),a3] h U) (ay h 4 ax λl=>ea h 1 l a3 λn=>bT .gtr 2 n (ae 2147483647) (R [ax,(ae 7),a3] h U) (b3 a3 λp=>N [ax,a2,p] h U))) (aF [ax,a2,a3] h U)
def oz(s:ak)(K:bD)(bY y51:X)(ap:ad)(aX:Nat):Prop:=bJ y51 (K (ae 3) ap aX) (ay ap 4 bY λb=>cQ b λc=>kA c (ae 65536) (K (ae 5) ap aX) (bq (bA Q s PU 174 0) [bY,(ae 0),(ae 0)] ap aX [(0,λe f g=>K (ae 0) f g)] (λi j k=>K (aQ i 1) j k)))
def F8(s:ak)(K:bD)(bY EX:X)(ap:ad)(aX:Nat):Prop:=bJ EX (K (ae 8) ap aX) (ay ap 1 bY λb=>cq b (ae 0) (oz s K bY (.bool true) ap aX) (ay ap 1 bY λe=>kA e (ae 4096) (oz s K bY (.bool true) ap aX) (ay ap 0 bY λi=>bh s 270 [i] ap aX λj k l=>bJ j (ay k 2 bY λn=>cq n (ae 0) (oz s K bY (.bool true) k l) (ay k 2 bY λq=>ay k 1 bY λt=>bT .geq 3 q t (oz s K bY (.bool true) k l) (ay k 0 bY λw=>bT .eql 40 w (ae 4) (ay k 3 bY λz=>cq z (ae 0) (oz s K bY (.bool true) k l) (ay k 3 bY λbV=>cf .gtr 3 bV (ae 8192) λbp=>(oz s K bY bp k l))) (oz s K bY (.bool false) k l)))) (ay k 0 bY λcM=>bT .eql 40 cM (ae 4) (ay k 3 bY λcP=>cq cP (ae 0) (oz s K bY (.bool true) k l) (ay k 3 bY λeM=>cf .gtr 3 eM (ae 8192) λam=>(oz s K bY am k l))) (oz s K bY (.bool false) k l)))))
def abp:fw:=λs au h U K=>cK au h U λa b c=>ay b 0 a λe=>bT .lss 40 e (ae 1) (F8 s K a (.bool true) b c) (ay b 0 a λi=>cf .gtr 40 i (ae 5) λj=>(F8 s K a j b c))
theorem ajE{N:aH}:bA Q s PU 174 0 [ax,a2,a3] h U N [(0,aF)] R=YU s ax a2 a3 h U N aF R:=by kernel_rfl
theorem ala:fG 174 abp:=fO PU
def SJ:aa (aa Nat):=[[1,2,3,4]]
def ads(s:ak)(ax a2 a3 aV:X)(h:ad)(U:Nat)(N:aH)(aF:aH)(R:aH):Prop:=ay h 1 ax λb=>cQ b λc=>cq aV c (ay h 1 ax λf=>hq 3 h 3 f aV λi=>cJ [(ae 0),(ae 0),(ae 0)] h U λj k l=>ag (a7 k 3 j i) λm=>ay m 1 a3 λo=>ay m 1 j λq=>ay m 0 j λt=>ay m 2 j λv=>ag (c8 [(ae 0),(ae 0),(ae 0)] [(0,1,q),(1,1,t),(2,1,v)]) λw=>ey (fU 1 [(ae 0),(ae 0),(ae 0)] [(0,3,w)]) m l λx y z=>dB (dS (dv 3 y z o x)) λbX ch bV=>b4 1 a3 λbp=>ag (a7 ch 1 bp bX) λb2=>b3 aV λcM=>N [ax,a2,a3,cM] b2 bV) (aF [ax,a2,a3,aV] h U)
def agx:fw:=λs au h U K=>cK au h U λa b c=>cJ [(ae 0),aS] b c λd e f=>ay e 0 a λi=>ag (c8 [(ae 0),aS] [(0,1,i)]) λj=>cJ [(ae 0),aS] e f λk l m=>ag (a7 l 2 k j) λn=>bq (bA Q s SJ 271 0) [a,d,k,(ae 0)] n m [(0,λo p q=>a4 2 p (aQ o 2) λr=>bh s 100 [r] p q λt aT v=>ag (a7 aT 2 (aQ o 1) t) λw=>a4 2 w (aQ o 1) λx=>K x w v)] (λ_ _ _=>False)
theorem arr{N:aH}:bA Q s SJ 271 0 [ax,a2,a3,aV] h U N [(0,aF)] R=ads s ax a2 a3 aV h U N aF R:=by kernel_rfl
theorem aun:fG 271 agx:=fO SJ
def Qz:aa (aa Nat):=[[1,2,3,4]]
def ZW(s:ak)(ax a2 a3 aV:X)(h:ad)(U:Nat)(N:aH)(aF:aH)(R:aH):Prop:=ay h 1 ax λb=>cQ b λc=>cq aV c (ay h 1 ax λf=>f3 3 f aV λg=>ay h 0 g λj=>ay h 1 ax λl=>f3 3 l aV λm=>ay h 1 m λo=>bT .neq 3 j o (ay h 1 a3 λr=>ay h 1 ax λaT=>hq 3 h 3 aT aV λw=>ey (fU 1 [(ae 0),(ae 0),(ae 0)] [(0,3,w)]) h U λx y z=>dB (dS (dv 3 y z r x)) λbX ch bV=>z<=bV/\b4 1 a3 λbp=>ag (a7 ch 1 bp bX) λb2=>b3 aV λcM=>N [ax,a2,a3,cM] b2 bV) (b3 aV λbU=>N [ax,a2,a3,bU] h U)) (aF [ax,a2,a3,aV] h U)
def adt:fw:=λs au h U K=>cK au h U λa b c=>cJ [(ae 0),aS] b c λd e f=>ay e 0 a λi=>ag (c8 [(ae 0),aS] [(0,1,i)]) λj=>cJ [(ae 0),aS] e f λk l m=>ag (a7 l 2 k j) λn=>bq (bA Q s Qz 177 0) [a,d,k,(ae 0)] n m [(0,λo p q=>a4 2 p (aQ o 2) λr=>bh s 100 [r] p q λt aT v=>ag (a7 aT 2 (aQ o 1) t) λw=>a4 2 w (aQ o 1) λx=>K x w v)] (λ_ _ _=>False)
theorem alb{N:aH}:bA Q s Qz 177 0 [ax,a2,a3,aV] h U N [(0,aF)] R=ZW s ax a2 a3 aV h U N aF R:=by kernel_rfl
theorem anZ:fG 177 adt:=fO Qz
def Rx:aa (aa Nat):=[[1,2,3,4]]
def abq(s:ak)(ax a2 a3 aV:X)(h:ad)(U:Nat)(N:aH)(aF:aH)(R:aH):Prop:=ay h 1 ax λb=>cQ b λc=>cq aV c (ay h 1 a3 λf=>ay h 1 ax λi=>f3 3 i aV λj=>ay h 0 j λl=>ay h 1 ax λn=>f3 3 n aV λo=>ay h 1 o λq=>ag (c8 [(ae 0),(ae 0),(ae 0)] [(0,1,l),(1,1,q),(2,1,(ae 1))]) λr=>ey (fU 1 [(ae 0),(ae 0),(ae 0)] [(0,3,r)]) h U λt aT v=>dB (dS (dv 3 aT v f t)) λw x y=>v<=y/\b4 1 a3 λz=>ag (a7 x 1 z w) λbX=>b3 aV λch=>N [ax,a2,a3,ch] bX y) (aF [ax,a2,a3,aV] h U)
def afg:fw:=λs au h U K=>cK au h U λa b c=>cJ [(ae 0),aS] b c λd e f=>ay e 0 a λi=>ag (c8 [(ae 0),aS] [(0,1,i)]) λj=>cJ [(ae 0),aS] e f λk l m=>ag (a7 l 2 k j) λn=>bq (bA Q s Rx 175 0) [a,d,k,(ae 0)] n m [(0,λo p q=>a4 2 p (aQ o 2) λr=>bh s 100 [r] p q λt aT v=>ag (a7 aT 2 (aQ o 1) t) λw=>a4 2 w (aQ o 1) λx=>K x w v)] (λ_ _ _=>False)
theorem an0{N:aH}:bA Q s Rx 175 0 [ax,a2,a3,aV] h U N [(0,aF)] R=abq s ax a2 a3 aV h U N aF R:=by kernel_rfl
theorem ars:fG 175 afg:=fO Rx
def Ry:aa (aa Nat):=[[1,2,5,6,7]]
def abr(s:ak)(ax a2 bl bf aZ:X)(h:ad)(U:Nat)(N:aH)(aF:aH)(R:aH):Prop:=ay h 1 bl λb=>cQ b λc=>cq aZ c (ay h 1 bl λf=>f3 3 f aZ λg=>ay h 0 g λj=>ay h 1 bl λl=>f3 3 l aZ λm=>ay h 1 m λo=>ay h 1 bl λq=>f3 3 q aZ λr=>ay h 2 r λaT=>ag (c8 [(ae 0),(ae 0),(ae 0)] [(0,1,j),(1,1,o),(2,1,aT)]) λv=>ey (fU 1 [(ae 0),(ae 0),(ae 0)] [(0,3,v)]) h U λw x y=>dB (dS (dv 3 x y bf w)) λz bX ch=>y<=ch/\b3 aZ λbV=>N [ax,a2,bl,z,bV] bX ch) (aF [ax,a2,bl,bf,aZ] h U)
def afh:fw:=λs au h U K=>cK au h U λa b c=>cJ [(ae 0),(ae 0),aS,aS,aS] b c λd e f=>a4 2 e a λg=>bh s 92 [g] e f λi j k=>lh i (ag (c8 [(ae 0),(ae 0),aS,aS,aS] []) λm=>ag (a7 j 5 d m) λn=>a4 5 n d λo=>K (.tuple ⟨[o,i]⟩) n k) (a4 2 j a λp=>bh s 271 [p] j k λq r t=>cJ [(ae 0),aS] r t λaT v w=>ag (a7 v 2 aT q) λx=>bq (bA Q s Ry 178 0) [a,d,aT,aS,(ae 0)] x w [(0,λy z bX=>ay z 0 (aQ y 0) λbV=>ay z 0 (aQ y 0) λb2=>bh s 272 [bV,b2,(aQ y 3)] z bX λcM bU dj=>ag (a7 bU 5 (aQ y 1) cM) λcP=>a4 5 cP (aQ y 1) λd0=>K (.tuple ⟨[d0,(ae 0)]⟩) cP dj)] (λ_ _ _=>False))
theorem an1{N:aH}:bA Q s Ry 178 0 [ax,a2,bl,bf,aZ] h U N [(0,aF)] R=abr s ax a2 bl bf aZ h U N aF R:=by kernel_rfl
theorem art:fG 178 afh:=fO Ry
def G1:aa (aa Nat):=[[0,2,6,7,8],[0,2,6,7,8,9]]
def abs(s:ak)(a0 a2 bf aZ bo cH:X)(h:ad)(U:Nat)(N:aH)(aJ:aH)(R:aH):Prop:=bT .leq 3 cH a0 (ay h 2 aZ λc=>ea h 1 c cH λe=>b3 e λf=>f3 1 c cH λg=>ag (a7 h 1 g f) λi=>b3 cH λj=>N [a0,a2,bf,aZ,bo,j] i U) (aJ [a0,a2,bf,aZ,bo,cH] h U)
def abt(s:ak)(a0 a2 bf aZ bo:X)(h:ad)(U:Nat)(N:aH)(aF:aH)(R:aH):Prop:=cQ a2 λa=>cq bo a (ay h 3 aZ λd=>f3 3 a2 bo λe=>ay h 1 e λg=>ey (fU 1 [(ae 0)] [(0,1,g)]) h U λi j k=>dB (dS (dv 1 j k d i)) λl m n=>k<=n/\b4 3 aZ λo=>ag (a7 m 1 o l) λp=>ay p 4 aZ λr=>f3 3 a2 bo λt=>ay p 2 t λv=>ey (fU 1 [(ae 0)] [(0,1,v)]) p n λw x y=>dB (dS (dv 1 x y r w)) λz bX ch=>y<=ch/\b4 4 aZ λbV=>ag (a7 bX 1 bV z) λbp=>f3 3 a2 bo λb2=>ay bp 0 b2 λbU=>b3 bU λdj=>bq (bA Q s G1 272 1) [a0,a2,bf,aZ,bo,dj] bp ch [(2,λcP d0 dH=>b3 (aQ cP 4) λeM=>N [(aQ cP 0),(aQ cP 1),(aQ cP 2),(aQ cP 3),eM] d0 dH)] (λ_ _ _=>False)) (aF [a0,a2,bf,aZ,bo] h U)
def afi:i6:=λs au t1 t2 h U K=>cJ [(ae 0),(ae 0),aS,aS,aS] h U λa b c=>bh s 363 [au,t1] b c λd e f=>cJ [(ae 0),(ae 0),aS,aS,aS] e f λg i j=>ag (a7 i 5 g d) λk=>bq (bA Q s G1 272 0) [au,t2,a,g,(ae 0)] k j [(0,λl m n=>a4 5 m (aQ l 3) λo=>ag (a7 m 5 (aQ l 2) o) λp=>a4 5 p (aQ l 2) λq=>K q p n)] (λ_ _ _=>False)
theorem an2{g:X}{N:aH}:bA Q s G1 272 1 [a0,a2,bf,aZ,bo,g] h U N [(2,aJ)] R=abs s a0 a2 bf aZ bo g h U N aJ R:=by kernel_rfl
theorem an3{N:aH}:bA Q s G1 272 0 [a0,a2,bf,aZ,bo] h U N [(0,aF)] R=abt s a0 a2 bf aZ bo h U N aF R:=by kernel_rfl
theorem aru:jl 272 afi:=jA G1
theorem fi:nb Tryz.prog 24=some (some 2):=by kernel_rfl
theorem own:ownKnob Tryz.prog.godebug=none:=by kernel_rfl
theorem Rz:laidOutB Tryz.prog=true:=by kernel_rfl
def lE:Field:={ name := "G",type:=24,offset:=0,embedded:=false,tag := "",pkgPath := "",byteOffset:=0 }
def fP:Field:={ name := "C",type:=5,offset:=4,embedded:=false,tag := "",pkgPath := "",byteOffset:=41 }
def Jx:Field:={ name := "N",type:=3,offset:=0,embedded:=false,tag := "",pkgPath := "",byteOffset:=0 }
def Hj:Field:={ name := "Edges",type:=22,offset:=1,embedded:=false,tag := "",pkgPath := "",byteOffset:=8 }
def agy:Field:={ name := "From",type:=3,offset:=0,embedded:=false,tag := "",pkgPath := "",byteOffset:=0 }
def fTo:Field:={ name := "To",type:=3,offset:=1,embedded:=false,tag := "",pkgPath := "",byteOffset:=8 }
def aAG:Field:={ name := "W",type:=2,offset:=2,embedded:=false,tag := "",pkgPath := "",byteOffset:=16 }
theorem u24:Tryz.prog.underlying 24=some (.struct #[Jx,Hj]):=by kernel_rfl
theorem u52:Tryz.prog.underlying 124=some (.struct #[agy,fTo,aAG]):=by kernel_rfl
theorem u22:Tryz.prog.underlying 22=some (.slice 124):=by kernel_rfl
theorem aBK:Tryz.prog.underlying 4=some .bool:=by kernel_rfl
theorem n26:Tryz.prog.cellsOf 26=5:=by kernel_rfl
theorem n24:Tryz.prog.cellsOf 24=2:=by kernel_rfl
theorem n52:Tryz.prog.cellsOf 124=3:=by kernel_rfl
theorem Nh:Tryz.prog.cellsOf 22=1:=by kernel_rfl
theorem fI:Tryz.prog.cellsOf 5=1:=by kernel_rfl
theorem awl:Tri Tryz.prog 124:=⟨⟨_,agy,fTo,aAG,u52,rfl,rfl,rfl,rfl,rfl,rfl,yq,yq,Ab,cm,cm,c2⟩,n52⟩
section
variable {H:Type} {enc:TypeId × X->H} {w:World} {aO:Nat->ak}
end
theorem an4(C:a<4294967296)(D:b<4294967296):∃c,bin Tryz.prog .eql 272 (.agg ⟨f1 a⟩) (.agg ⟨f1 b⟩) = .ok (.bool c):=by
 have g:∀n,(Value.agg ⟨f1 n⟩).formed Tryz.prog 272=true:=λn=>by simp[Value.formed,Mu,Mv,f1]
 have:bin Tryz.prog .eql 272 (.agg ⟨f1 a⟩) (.agg ⟨f1 b⟩)=R.of "compared" (bif Df Tryz.prog 272 then rj Tryz.prog 272 (.agg ⟨f1 a⟩) (.agg ⟨f1 b⟩)else none) (λb=>nc b):=rfl;rw[this];unfold rj;rw[agi,ahk,g,g];exact⟨za [.int .i64 0,.int .u64 (a:Int)] [.int .i64 0,.int .u64 (b:Int)],by show R.of "compared" (bif true&&(true&&true&&true&&true)then H3 (Tryz.prog.keyLits 8 272 (f1 a)) (Tryz.prog.keyLits 8 272 (f1 b))else none) (λb=>nc b)=_;rw[acY C,acY D];rfl⟩
def Ni(r:X)(U:Nat)(h:ad):bD:=λv ac Y=>v=r/\az U h ac/\U<=Y
theorem awm:aD Q s 265 [.int .i64 1] h U (λv ac Y=>v = .bool true/\ac=h/\Y=U):=by refine bS ?_;refine aB ?_;simp
def oX(x y:GE):ak:=decide (x.f<y.f)||(decide (x.f=y.f)&&decide (x.t<y.t))
theorem adu{x y:GE}:aD Q s 266 [.agg ⟨bQ x⟩,.agg ⟨bQ y⟩] h U (Ni (.bool (oX x y)) U h):=by
 refine at1 ?_;have g:∀{o aW},az U h (F (F h U o) (U+1) aW):=aC
 unfold below bQ;refine aB ?_;refine⟨λh1=>⟨?_,g,J⟩,λh1=>⟨λal=>⟨?_,g,J⟩,λal=>⟨?_,g,J⟩⟩⟩
 ·unfold oX;grind
 ·have C:x.f=y.f:=ab
  unfold oX
  grind
 ·have C:¬x.f=y.f:=ab
  unfold oX
  grind
theorem awn{w:Nat}(D:w<4294967296):aD Q s 267 [(w:X)] h U (Ni (.agg ⟨f1 w⟩) U h):=by
 refine bS ?_;have g:∀{o aW},az U h (F (F h U o) U aW):=aC
 have C:IntKind.wrap .u64 (w:Int)=(w:Int):=by
  simp only[IntKind.wrap,IntKind.signed,IntKind.bits]
  grind
 refine a9 @C ?_;refine⟨λh1=>absurd h1 J,λ_=>⟨rfl,g,J⟩⟩
theorem auo(D:a<4294967296)(E:b<4294967296):aD Q s 360 [.agg ⟨f1 a⟩,.agg ⟨f1 b⟩] h U (λv ac Y=>∃c:Int,v = (c:X)/\(c<0↔a<b)/\az U h ac/\U<=Y):=by
 refine av7 ?_;have g:∀{o aW},az U h (F (F h U o) (U+1) aW):=aC
 unfold ahn f1 LG;simp(disch:=omega)only[bd,nN,seval];obtain⟨c,C⟩:=an4 D E;unfold f1 at C
 by_cases h1:a<b
 ·simp(disch:=omega)only[bd,h1,decide_true,seval];exact λ_=>⟨⟨_,rfl,by simp,g,J⟩,λh=>absurd trivial h⟩
 ·simp(disch:=omega)only[bd,h1,CU,C,seval];exact λ_ _=>⟨λ_=>⟨_,rfl,by simp,g,J⟩,λ_=>⟨_,rfl,by simp,g,J⟩⟩
theorem aup(I:a<4294967296)(L:b<4294967296):aD Q s 268 [.int .i64 1,.agg ⟨f1 a⟩,.agg ⟨f1 b⟩] h U (Ni (.agg ⟨f1 (min a b)⟩) U h):=by
 refine av6 ?_;unfold ahm f1 LF;simp(disch:=omega)only[bd,nN,seval];refine(auo   L I).mono ?_;rintro r h1 gv ⟨c,rfl,P,g,M⟩;have E:=g U J;have D:=g (U+1) J;have C:=g (U+1+1) J;rw[aq J,aq J,aN]at E;rw[aq J,aN]at D;rw[aN]at C;refine hw @E @D @C ?_;refine⟨λh1=>⟨?_,aC,J⟩,λh1=>⟨?_,aC,J⟩⟩
 all_goals grind
theorem ald{w:Nat}(D:w<4294967296):aD Q s 269 [.agg ⟨f1 w⟩] h U (Ni (.tuple ⟨[(w:X),.bool true]⟩) U h):=by
 refine anp ?_;have g:∀{o},az U h (F h U o):=aC
 have C:IntKind.wrap .i64 (w:Int)=(w:Int):=DW J J;unfold ac7 f1 C1;simp(disch:=omega)only[bd,C,nN,seval];refine⟨λh1=>⟨rfl,g,J⟩,λh1=>absurd h1 J⟩
structure uS {aA:Type} (o dy:aa aA) (k:Nat):Prop where
 len:dy.length=o.length+1
 ao:∀q,q<k->dy[q]? = o[q]?
 ai:∀q,k<q->q<=o.length->dy[q]? = o[q-1]?
theorem uS.init(o:aa aA)(z:aA):uS o (o++[z]) o.length :=
 ⟨by simp,ab,J⟩
theorem uS.step{x:aA}(h:uS o dy (k+1))(D:k+1<=o.length)(g:dy[k]? = some x):uS o (dy.set (k+1) x) k:=by
 refine⟨by rw[wI];exact h.len,λq C=>?_,λq h1 al=>?_⟩
 ·rw[qP,if_neg J];exact h.ao q J
 ·rw[qP]
  by_cases e:k+1=q
  ·subst e;rw[if_pos rfl,if_pos (by rw[h.len];omega),J0,<-h.ao k J,g]
  ·rw[if_neg e];exact h.ai q J al
theorem uS.fin(h:uS o dy k)(g:k<=o.length)(x:aA):dy.set k x=o.take k++x::o.drop k:=by
 apply nL;intro q;rw[qP]
 by_cases e:k=q
 ·subst e;rw[if_pos rfl,if_pos (by rw[h.len];omega),vf ab,ox]
  grind
 ·rw[if_neg e]
  by_cases h1:q<k
  ·rw[h.ao q h1,sP ab,vi,if_pos h1]
  ·rw[vf ab,ox,show q-min k o.length=(q-k-1)+1 by omega,List.getElem?_cons_succ,vh]
   by_cases al:q<=o.length
   ·rw[h.ai q J al];grind
   ·rw[sQ (by rw[h.len];omega),sQ J]
theorem G2{x y:GE}:oX x y=true↔i3 (di x) (di y):=by
 unfold oX i3 di
 grind
theorem i3.iP(h:i3 x y)(ac:i3 y z):i3 x z:=by unfold i3 at *;omega
theorem arv{x y:GE}(h:oX x y=false)(ac:oX y x=false):Ends (di x) (di y):=by
 have h1:¬i3 (di x) (di y):=λe=>by rw[G2.2 e]at h;cases h
 have al:¬i3 (di y) (di x):=λe=>by rw[G2.2 e]at ac;grind
 unfold i3 at h1 al;unfold Ends;omega
structure At (B:aa GE) (e:GE) (k:Nat):Prop where
 le:k<=B.length
 ao:∀q x,q<k->B[q]? = some x->oX x e=true
theorem LI(h:(B.map di).Pairwise i3){j:Nat}{x y:GE}(g:i<j)(E:B[i]? = some x)(D:B[j]? = some y):i3 (di x) (di y):=by
 have ai:=(gE.1 E)
 have C:=(gE.1 D)
 obtain⟨ai,rfl⟩:=ai;obtain⟨C,rfl⟩:=C;have:=yE.1 h i j ab ab g;simpa using this
theorem arw(h:jd A (B.map di))(dg:At B e k)(bm:∀x,B[k]? = some x->oX e x=true):jd (A++[di e]) ((B.take k++e::B.drop k).map di):=by
 have E:∀x∈B.take k,i3 (di x) (di e):=λx L=>by
  obtain⟨q,I⟩:=tS L;rw[vi]at I
  split at I
  ·rename_i V;exact G2.1 (dg.ao q x V I)
  ·cases I
 have C:∀x∈B.drop k,i3 (di e) (di x):=λx L=>by
  obtain⟨q,I⟩:=tS L;rw[vh]at I
  by_cases ap:q=0
  ·subst ap;exact G2.1 ab
  ·obtain⟨y,g⟩:=dk (l:=B) (i:=k) ab;exact(G2.1 ab).iP (LI h.up J g I)
 have P:∀x:dn,x∈(B.take k++e::B.drop k).map di↔x∈B.map di\/x=di e:=λx=>by
  conv=>rhs;rw[<-FC k B]
  grind
 refine⟨?_,h.ES.agu (λz M Z=>?_) P⟩
 ·rw[hN,qQ,rI];have D:=h.up;rw[<-FC k B,hN,rI]at D;refine⟨D.1,List.Pairwise.cons (λy g=>?_) D.2.1,λx L y g=>?_⟩
  ·obtain⟨z,M,rfl⟩:=fL.1 g;exact C z M
  ·rcases hf.1 g with rfl|g
   ·obtain⟨z,M,rfl⟩:=fL.1 L;exact E z M
   ·exact D.2.2 x L y g
 ·obtain⟨y,g,rfl⟩:=fL.1 M;rw[<-FC k B,g6]at g;rcases g with g|g
  ·exact(E y g).ne Z
  ·exact(C y g).ne Z.symm
theorem arx{z:GE}(h:jd A (B.map di))(I:B[k]? = some z)(bk:Ends (di z) (di e)):jd (A++[di e]) ((B.set k ⟨z.f,z.t,min z.w e.w⟩).map di):=by
 have a5:∀q,(B.set k ⟨z.f,z.t,min z.w e.w⟩)[q]? = if k=q then some ⟨z.f,z.t,min z.w e.w⟩else B[q]?:=ab
 have hzm:di ⟨z.f,z.t,min z.w e.w⟩=qa (di z) (di e):=rfl;have g:∀q x,(B.set k ⟨z.f,z.t,min z.w e.w⟩)[q]? = some x->∃y,B[q]? = some y/\(di x).1=(di y).1/\(di x).2.1=(di y).2.1:=λq x C=>by
  rw[a5]at C
  split at C
  ·rename_i aY;subst aY;cases C;exact⟨z,I,rfl,rfl⟩
  grind
 refine⟨?_,h.ES.agt ab bk λx=>?_⟩
 ·rw[yE];intro i j ai bM Z;rw[List.getElem_map,List.getElem_map];have M:i<(B.set k ⟨z.f,z.t,min z.w e.w⟩).length:=ab
  have V:j<(B.set k ⟨z.f,z.t,min z.w e.w⟩).length:=ab
  obtain⟨y,D,aY,aJ⟩:=g i _ (jU M);obtain⟨qC,L,Nj,e2'⟩:=g j _ (jU V);have:=LI h.up Z D L;unfold i3 at *
  omega
 ·constructor
  ·intro C;obtain⟨y,D,rfl⟩:=fL.1 C;obtain⟨q,E⟩:=tS D;rw[a5]at E
   split at E
   ·grind
   ·rename_i VA
    refine .inl ⟨ab,λP=>?_⟩;have:=bk.trans P.symm;rcases jH k q with h1|h1
    ·exact(LI h.up h1 I E).ne this
    ·exact(LI h.up J E I).ne this.symm
  ·rintro(⟨C,bm⟩|rfl)
   ·obtain⟨y,D,rfl⟩:=fL.1 C;obtain⟨q,E⟩:=tS D
    grind
   grind
theorem adv{enc:aA->aa X}(P:∀x,(enc x).length=k)(C:∀x,ec (enc x)=true)(L:0<k){l:aa aA}{o:av Nat}(g:fb h enc k v l o){M D:Nat}{I:av Nat}(x:aA)(al:u h bO=some (.cells cs bC))(Z:(cs.drop M).take k=enc x)(E:(l.length+1)*k<=1000000)(V:∀ac,u ac U=some (.cells (a1 enc (l++[x])) false)->(∀c,c≠U->o≠some c->u ac c=u h c)->K (.slice (some ⟨U,0,some k⟩) (l.length+1) (l.length+1)) ac (U+1)):dB (dS (dv k h U v (.slice (some ⟨bO,M,I⟩) 1 D))) K:=by obtain⟨ac,e,a,b⟩:=g.app P C L al Z E;rw[e];exact V _ a b
def jv(g:GE):GE:=⟨g.f,g.t,0⟩
def qb(B:aa GE):aa Nat:=B.map λg=>g.w.toNat
def yv(h:ad)(ao U:Nat)(B:aa GE)(j2 os:X):Prop :=
 (B=[]/\j2 = .slice none 0 0/\os = .slice none 0 0)\/∃be gN,(0<B.length/\be≠gN)/\ao<=be/\be<U/\ao<=gN/\gN<U/\j2 = .slice (some ⟨be,0,some 3⟩) B.length B.length/\os = .slice (some ⟨gN,0,some 2⟩) B.length B.length /\
  u h be=some (.cells (a1 bQ (B.map jv)) false)/\u h gN=some (.cells (a1 f1 (qb B)) false)
theorem yv.T(c:yv h ao U B j2 os)(Z:∀b,ao<=b->b<U->u ac b=u h b)(E:U<=Y):yv ac ao Y B j2 os:=by
 rcases c with c|⟨D,L,h1,al,V,I,M,C,g,P,hR⟩
 ·exact .inl c
 ·exact .inr ⟨D,L,h1,al,J,I,J,C,g,ab,ab⟩
theorem yv.ho(c:yv h ao U B j2 os):∃C g,fb h bQ 3 j2 (B.map jv) C/\fb h f1 2 os (qb B) g/\(∀b,C=some b->ao<=b/\b<U/\g≠some b)/\(∀b,g=some b->ao<=b/\b<U):=by
 rcases c with⟨rfl,rfl,rfl⟩|⟨E,I,h1,al,P,V,M,rfl,rfl,D,L⟩
 ·exact⟨none,none,.nil,.nil,ab,ab⟩
 ·refine⟨some E,some I,?_,?_,ab,ab⟩
  ·have:=fb.own  (k:=3) D;rwa[g5]at this
  ·have:=fb.own  (k:=2) L;unfold qb at this ⊢;rwa[g5]at this
theorem yv.form(c:yv h ao U B j2 os):∃E D,j2 = .slice E B.length B.length/\os = .slice D B.length B.length/\(B=[]->E=none)/\(B≠[]->∃g C,g≠C/\ao<=g/\g<U/\ao<=C/\C<U/\E=some ⟨g,0,some 3⟩/\D=some ⟨C,0,some 2⟩/\u h g=some (.cells (a1 bQ (B.map jv)) false)/\u h C=some (.cells (a1 f1 (qb B)) false)):=by
 rcases c with⟨rfl,rfl,rfl⟩|⟨g,C,h1,al,M,P,I,rfl,rfl,L,V⟩
 ·exact⟨none,none,rfl,rfl,ab,λh=>absurd rfl h⟩
 ·exact⟨_,_,rfl,rfl,ab,λ_=>⟨g,C,h1.2,al,M,P,I,rfl,rfl,L,V⟩⟩
theorem VB{m:aa Nat}{w:Nat}(ai:i<m.length):jg (some (.cells (a1 f1 m) false)) h b (i*2) [.int .i64 0,.int .u64 (w:Int)] = .ok (F h b (.cells (a1 f1 (m.set i w)) false)):=by show R.of _ (ng (f1 w) (a1 f1 m) (i*2)) _=_;rw[aaW (k:=2) (λ_=>rfl) w ai];rfl
theorem VC{m:aa Nat}{w:Nat}(ai:m[i]? = some w):hF (some 2) (i*2) (a1 f1 m) = .ok (.agg ⟨[.int .i64 0,.int .u64 (w:Int)]⟩):=x1  (k:=2) (λ_=>rfl) ai
theorem rdB{m:aa GE}{x:GE}(ai:m[i]? = some x):hF (some 3) (i*3) (a1 bQ m) = .ok (.agg ⟨[(x.f:X),(x.t:X),(x.w:X)]⟩):=x1  (k:=3) (λ_=>rfl) ai
structure zP (gs:aa GE) (N U:Nat) (h:ad) (i:Nat) (B:aa GE) (j2 os:X) (ac:ad) (Y:Nat):Prop where
 le:i<=gs.length
 co:yv ac U Y B j2 os
 can:jd ((gs.take i).map di) (B.map di)
 ok:∀g∈B,fy N g
 len:B.length<=i
 T:az U h ac
 Eh:U<=Y
theorem zP.more(c:zP gs N U h i B j2 os ac Y)(C:az Y ac al)(g:Y<=e4):zP gs N U h i B j2 os al e4 :=
 ⟨c.le,c.co.T (λb _ al=>C b al) g,c.can,c.ok,c.len,c.T.trans C c.Eh,hu c.Eh g⟩
def CmJ(gs:aa GE)(v:X)(N U:Nat)(h:ad)(m:Nat)(aE:aa X)(ac:ad)(Y:Nat):Prop :=
 ∃i B j2 os,m=gs.length-i/\aE=[.int .i64 1,v,.slice none 0 0,.int .i64 0,j2,os,(i:X)]/\zP gs N U h i B j2 os ac Y
def CmF(gs:aa GE)(v:X)(N U:Nat)(h:ad)(i:Nat)(B:aa GE)(j2 os:X)(e:GE)(m:Nat)(aE:aa X)(ac:ad)(Y:Nat):Prop :=
 ∃k,m=B.length-k/\At B e k/\aE=[.int .i64 1,v,.slice none 0 0,.int .i64 0,j2,os,(i:X),(k:X)]/\zP gs N U h i B j2 os ac Y
theorem ax4{l:aa aA}{x:aA}(h:l[k]? = some x):l.set k x=l:=by
 apply nL
 grind
theorem bq.cut{B:ob}{g:aa X}{C:aH}(D:aH)(h1:∀g h U,D g h U->C g h U)(al:∀E,(∀g h U,D g h U->E g h U)->bq B g h U [(i,E)] R):bq B g h U [(i,C)] R:=al C h1
def ax5(gs:aa GE)(v:X)(N U:Nat)(h:ad)(i:Nat)(B:aa GE)(j2 os:X)(e:GE)(aE:aa X)(ac:ad)(Y:Nat):Prop :=
 ∃k,At B e k/\(∀x,B[k]? = some x->oX x e=false)/\aE=[.int .i64 1,v,.slice none 0 0,.int .i64 0,j2,os,(i:X),(k:X)]/\zP gs N U h i B j2 os ac Y
def ShJ(v:X)(B:aa GE)(i k p be gN:Nat)(H:ad)(aBL:Nat)(m:Nat)(aE:aa X)(ac:ad)(Y:Nat):Prop :=
 ∃(q:Nat) (dy:aa GE) (f2:aa Nat),m=q/\k<=q/\q<=B.length/\uS (B.map jv) dy q/\uS (qb B) f2 q/\aE=[.int .i64 1,v,.slice none 0 0,.int .i64 0,.slice (some ⟨be,0,some 3⟩) (B.length+1) (B.length+1),.slice (some ⟨gN,0,some 2⟩) (B.length+1) (B.length+1),(i:X),(k:X),bb p,(q:X)] /\
  u ac be=some (.cells (a1 bQ dy) false)/\u ac gN=some (.cells (a1 f1 f2) false)/\(∀c,c≠be->c≠gN->u ac c=u H c)/\Y=aBL
theorem agz{w p:Nat}{H:ad}{D jD cap:Nat}{V:av Nat}{Z:aa X}{VD:ak}{aAH:aH}(bg:gs.length<=120)(bk:gs[i]? = some e)(iw:fy N e)(bN:e.w=(w:Int))(mW:zP gs N U h i B j2 os H D)(hat:At B e k)(bm:∀x,B[k]? = some x->oX e x=true)(n4:u H jD=some (.cells (a1 bQ gs++Z) VD))(EY:jD<U)(bv:u H p=some (.cells [.int .i64 0,.int .u64 (w:Int)] false))(Ix:p<D)(oY:U<=p)(UB:yv H U p B j2 os)(cU:∀va EZ uT ac Y,zP gs N U h (i+1) va EZ uT ac Y->aAH [.int .i64 1,.slice (some ⟨jD,0,V⟩) gs.length cap,.slice none 0 0,.int .i64 0,EZ,uT,((i+1:Nat):X)] ac Y):
  dB (dS (dv 3 (F H D (.cells [.int .i64 0,.int .i64 0,.int .i64 0] false)) (D+1) j2 (.slice (some ⟨D,0,none⟩) 1 1))) λx56 h57 P =>
  dB (dS (dv 2 (F h57 P (.cells [.int .i64 0,.int .u64 0] false)) (P+1) os (.slice (some ⟨P,0,none⟩) 1 1))) λx63 IF n65 =>
  ag (xu x56) λx66=>ag (bin Q .sub 3 x66 (.int .i64 1)) λx67 =>
  bq (bA Q s uc 173 2) [.int .i64 1,.slice (some ⟨jD,0,V⟩) gs.length cap,.slice none 0 0,.int .i64 0,x56,x63,(i:X),(k:X),bb p,x67] IF n65 [(4,λC M n69 =>
   ag (il (.slice 3) (aQ C 1) (aQ C 6)) λx83=>ag (xf 0 x83) λx84=>ag (im none M x84) λx85=>ag (il (.slice 3) (aQ C 1) (aQ C 6)) λx86=>ag (xf 1 x86) λx87=>ag (im none M x87) λx88 =>
   ag ((qY (pk [(1,1,x88)]) 0 1 (c5 x85) [.int .i64 0,.int .i64 0,.int .i64 0]).bind λl=>.ok (.agg ⟨l⟩)) λx89=>ag (il (.slice 3) (aQ C 4) (aQ C 7)) λx90=>ag (a7 M 3 x90 x89) λh91=>ag (im (some 2) h91 (aQ C 8)) λx92=>ag (il (.slice 2) (aQ C 5) (aQ C 7)) λx93=>ag (a7 h91 2 x93 x92) λh94 =>
   Dp s aAH aF R (aQ C 0) (aQ C 1) (aQ C 2) (aQ C 3) (aQ C 4) (aQ C 5) (aQ C 6) h94 n69)] (λ_ _ _=>False):=by
 have BQ:B.length<=120:=by have:=mW.len;grind
 obtain⟨d9,dI,br,g2,hy,fa⟩:=UB.ho;have hm:(B.map jv).length=B.length:=ab
 have ar:(qb B).length=B.length:=g5 ..;refine adv  (k:=3) (λ_=>rfl) (λ_=>rfl) J (br.T ab) Xf (aN _ _ _) rfl J (λbP ax a2=>?_);refine adv  (k:=2) (λ_=>rfl) (λ_=>rfl) J (g2.T ab) 0 (aN _ _ _) rfl J (λb9 de bO=>?_);have aF:IntKind.wrap .i64 (((B.length+1:Nat):Int)-1)=(B.length:Int):=by rw[DW J J];omega
 have ih:u b9 (D+1)=some (.cells (a1 bQ (B.map jv++[Xf])) false):=ab
 rw[hm,ar];refine a9 @aF ?_;have aAI:=uS.init (B.map jv) Xf;have Cu:=uS.init (qb B) 0;rw[hm]at aAI;rw[ar]at Cu;refine bq.mk (ShJ (.slice (some ⟨jD,0,V⟩) gs.length cap) B i k p (D+1) (D+1+1+1) b9 (D+1+1+1+1)) B.length ⟨B.length,_,_,rfl,hat.le,J,aAI,Cu,rfl,ih,de,ab,rfl⟩ ?_;rintro q _ dL _ ⟨_,dy,I,rfl,VA,hqB,sJ,rC,rfl,c3,dK,bx,rfl⟩;rw[aqV];unfold ac4;have hXl:=sJ.len;have hYl:=rC.len;rw[hm]at hXl;rw[ar]at hYl;have L:∀c,c<U\/c=p->u dL c=u H c:=ab
 refine aB ?_;refine⟨λh1=>?_,λh1=>?_⟩
 ·obtain⟨q,rfl⟩:∃kU,q=kU+1:=⟨q-1,J⟩
  have aY:IntKind.wrap .i64 (((q+1:Nat):Int)-1)=(q:Int):=by rw[DW J J];omega
  obtain⟨x,aR⟩:=dk (l:=dy) (i:=q) J;obtain⟨y,ca⟩:=dk (l:=I) (i:=q) J;simp(disch:=omega)only[bd,aY,c3,dK,rdB aR,VC ca,Vq (m:=dy)  (i:=q+1) J,VB (m:=I)  (i:=q+1) J,seval];refine⟨q,J,q,_,_,rfl,J,J,sJ.step J aR,rC.step J ca,rfl,ab,ab,ab,rfl⟩
 ·have VA:q=k:=J
  subst VA;have E0:=(L jD (.inl EY)).trans n4;have M7:=(L p (.inr rfl)).trans bv;have c1:=xn (enc:=bQ) (k:=3) (λ_=>rfl) bk (j:=1) J (cs:=Z);rw[show(bQ e)[1]? = some (e.t:X)from rfl]at c1;have mm:=xn (enc:=bQ) (k:=3) (λ_=>rfl) bk (j:=0) J (cs:=Z);rw[show(bQ e)[0]? = some (e.f:X)from rfl,m9]at mm;have tp:=(gE.1 bk).1;have yw:IntKind.wrap .i64 ((i:Int)+1)=((i+1:Nat):Int):=cn J;have aBM:jg (some (.cells (a1 bQ dy) false)) dL (D+1) (q*3) [(e.f:X),(e.t:X),.int .i64 0] = .ok (F dL (D+1) (.cells (a1 bQ (dy.set q (jv e))) false)):=Vq (x:=jv e) J;unfold Dp;simp(disch:=omega)only[bd,E0,mm,c1,c3,aBM,M7,dK,VB (m:=I) (w:=w) (i:=q) J,yw,seval];have E:(B.take q++e::B.drop q).length=B.length+1:=ab
  rw[<-E];refine cU _ _ _ _ _ ⟨J,.inr ⟨D+1,D+1+1+1,J,J,J,J,J,rfl,rfl,?_,?_⟩,?_,λg a5=>?_,by rw[E];have:=mW.len;omega,λc aU=>?_,J⟩
  ·rw[aq J,aN,sJ.fin J,hN,qQ,FP,FO]
  ·rw[aN,rC.fin J];unfold qb;rw[hN,qQ,FP,FO,bN];rfl
  ·rw[gQ,bk,hN];exact arw mW.can hat bm
  ·rcases g6.1 a5 with a5|a5
   ·exact mW.ok g (OQ a5)
   ·rcases hf.1 a5 with rfl|a5
    ·exact iw
    ·exact mW.ok g (List.mem_of_mem_drop a5)
  ·rw[aq J,aq J,L c (.inl aU)];exact mW.T c aU
def NaJ(B:aa GE)(b2 E1:av Addr)(U:Nat)(h:ad)(m:Nat)(aE:aa X)(ac:ad)(Y:Nat):Prop :=
 ∃j,m=B.length-j/\j<=B.length/\aE=[.slice none 0 0,.int .i64 0,.slice b2 B.length B.length,.slice E1 B.length B.length,(j:X)]/\(B≠[]->∃be gN,be≠gN/\U<=be/\be<Y/\U<=gN/\gN<Y/\b2=some ⟨be,0,some 3⟩/\E1=some ⟨gN,0,some 2⟩/\u ac be=some (.cells (a1 bQ (B.take j++(B.drop j).map jv)) false)/\u ac gN=some (.cells (a1 f1 (qb B)) false))/\az U h ac/\U<=Y
theorem ZX:∀{m:aa GE} {j:Nat} {y:GE} {w:Int},m[j]? = some y->(a1 bQ m).set (j*3+2) (w:X)=a1 bQ (m.set j ⟨y.f,y.t,w⟩)
 | [],j,y,w,h=>by cases h
 |z::m,0,y,w,h=>by cases h;rfl
 |z::m,j+1,y,w,h=>by have g:=ZX  (j:=j)  (w:=w) h;show(bQ z++a1 bQ m).set ((j+1)*3+2) _=bQ z++a1 bQ (m.set j _);rw[<-g,show(j+1)*3+2=(j*3+2)+1+1+1 by omega];rfl
theorem ary(aI:dq h U v bQ gs)(cU:N<=4096)(bg:gs.length<=120)(jf:∀g∈gs,fy N g):
  aD Q s 173 [.int .i64 1,v] h U (λr ac Y=>∃v2 B,r = .tuple ⟨[v2,.int .i64 0]⟩/\dX ac v2 bQ 3 B U Y/\jd (gs.map di) (B.map di)/\(∀g∈B,fy N g)/\B.length<=gs.length/\az U h ac/\U<=Y):=by
 refine at0 ?_;obtain⟨a,cap,rfl,aU⟩:=id aI;unfold agk;refine awm.mono ?_;rintro r ap nx0 ⟨rfl,aY,aJ⟩;rw[aY,aJ];refine aB ?_;refine bq.mk (CmJ gs (.slice a gs.length cap) N U h) gs.length ⟨0,[],_,_,J,rfl,⟨J,.inl ab,⟨List.Pairwise.nil,rq.nil⟩,by simp,by simp,aC,J⟩⟩ ?_;rintro _ _ ac Y ⟨i,B,j2,os,rfl,rfl,C⟩;rw[aqW];unfold ac5;refine aB ?_;refine⟨λci=>?_,λeh=>?_⟩
 ·obtain⟨e,bk⟩:=dk ci;have yw:IntKind.wrap .i64 ((i:Int)+1)=((i+1:Nat):Int):=cn J;obtain⟨_,jD,spg,VD,ys,V,EY,aY,E0⟩:=aI.at bk;cases aY;refine bq.cut (ax5 gs (.slice (some ⟨jD,0,spg⟩) gs.length cap) N U h i B j2 os e) ?_ (λC' d5=>?_)
  ·rintro _ al e4 ⟨k,Z,VE,rfl,C⟩;have ahz:=(C.T jD EY).trans E0;have IG:=jf e ab;obtain⟨w,bN⟩:∃w:Nat,e.w=(w:Int):=⟨e.w.toNat,by have:=IG.2.2.1;omega⟩
   have uE:w<4294967296:=by have:=IG.2.2.2;omega
   have c2:=xn (enc:=bQ) (k:=3) (λ_=>rfl) bk (j:=2) J (cs:=V);rw[show(bQ e)[2]? = some (e.w:X)from rfl,bN]at c2;have c1:=xn (enc:=bQ) (k:=3) (λ_=>rfl) bk (j:=1) J (cs:=V);rw[show(bQ e)[1]? = some (e.t:X)from rfl]at c1;have mm:=xn (enc:=bQ) (k:=3) (λ_=>rfl) bk (j:=0) J (cs:=V);rw[show(bQ e)[0]? = some (e.f:X)from rfl,m9]at mm;have rd:=sj (enc:=bQ) (k:=3) (λ_=>rfl) bk (cs:=V);refine cx @ahz @c2 ?_;refine(awn (w:=w) uE).mono ?_;rintro r aM I ⟨rfl,ek,hr⟩;have tv:jD<e4:=by have:=C.Eh;omega
   have fg:∀{o aW},az e4 al (F (F aM I o) I aW):=aC
   have Nk:=C.more (al:=F (F aM I (.cells [.int .i64 0,.int .u64 0] false)) I (.cells [.int .i64 0,.int .u64 (w:Int)] false)) (e4:=I+1) fg J;have T1:u (F (F aM I (.cells [.int .i64 0,.int .u64 0] false)) I (.cells [.int .i64 0,.int .u64 (w:Int)] false)) jD=some (.cells (a1 bQ gs++V) VD):=(fg jD tv).trans ahz;obtain⟨b2,E1,rfl,rfl,hae,L⟩:=C.co.form;have rd3:hF (some 3) (i*3) (a1 bQ gs++V) = .ok (.agg ⟨[(e.f:X),(e.t:X),(e.w:X)]⟩):=rd;have BQ:B.length<=120:=by have:=C.len;omega
   simp(disch:=omega)only[bd,f1,T1,rd3,seval];refine⟨λhk=>?_,λhk=>?_⟩
   ·obtain⟨be,gN,h1,P,zH,bc,bP,rfl,rfl,h7,hR⟩:=L ab;obtain⟨x,aR⟩:=dk hk;have uF:(B.map jv)[k]? = some (jv x):=ab
    have lP:(qb B)[k]? = some x.w.toNat:=by unfold qb;grind
    have sK:=(ek be J).trans h7;have jj:=(ek gN J).trans hR;simp(disch:=omega)only[bd,sK,rdB uF,jj,seval];refine(adu (x:=e) (y:=jv x)).mono ?_;rintro r b9 n3 ⟨rfl,D,E⟩;have VF:=Nk.more D E;have Cv:=D I J;rw[aN]at Cv;have qK:=(D gN J).trans ((aq J).trans ((aq J).trans jj));have aG:oX e (jv x)=oX e x:=rfl;rw[aG];simp(disch:=omega)only[bd,qK,VC lP,Cv,seval];refine⟨E,λbx=>?_,λcy=>?_⟩
    ·have M:=C.ok x ab;refine(aup (a:=x.w.toNat) (b:=w) (by have:=M.2.2.2;omega) uE).mono ?_;rintro r dL nx7 ⟨rfl,E2,tl⟩;have sL:=(E2 gN J).trans qK;unfold Dp;simp(disch:=omega)only[bd,f1,sL,yw,VB (m:=qb B) (i:=k) (w:=min x.w.toNat w) ab,seval];have ca:jv (⟨x.f,x.t,min x.w e.w⟩:GE)=jv x:=rfl;refine⟨tl,gs.length-(i+1),J,i+1,B.set k ⟨x.f,x.t,min x.w e.w⟩,_,_,rfl,rfl,⟨J,.inr ⟨be,gN,ab,P,J,bc,J,ab,ab,?_,?_⟩,?_,λg a5=>?_,by rw[wI];have:=C.len;omega,(VF.T.trans E2 VF.Eh).set J,J⟩⟩
     ·rw[aq h1,E2 be J,D be J,aq J,aq J,sK,FQ,ca,ax4 uF]
     ·rw[aN];unfold qb;rw[FQ]
      grind
     ·rw[gQ,bk,hN];exact arx C.can aR (arv (VE x aR) bx)
     ·rcases OH a5 with a5|rfl
      ·exact C.ok g a5
      ·have ax:=M.2.2;have a2:=IG.2.2;exact⟨M.1,M.2.1,ab,ab⟩
    ·have ax6:∀fY,B[k]? = some fY->oX e fY=true:=λfY uF=>ab
     have gg6:=(D jD J).trans T1;have ax7:I<n3:=J
     refine agz bg bk IG bN VF Z ax6 gg6 EY Cv ax7 J (C.co.T (λb _ aG=>by rw[D b J,aq J,aq J,ek b aG]) hr) (λva EZ uT ac Y aU=>⟨gs.length-(i+1),J,i+1,va,EZ,uT,rfl,rfl,aU⟩)
   ·refine agz bg bk IG bN Nk Z (λx aR=>absurd (gE.1 aR).1 hk) T1 EY (aN _ _ _) (FJ _) (by have:=C.Eh;omega) (C.co.T (λb _ aG=>by rw[aq J,aq J,ek b aG]) hr) (λva EZ uT ac Y aU=>⟨gs.length-(i+1),J,i+1,va,EZ,uT,rfl,rfl,aU⟩)
  ·refine bq.mk (CmF gs (.slice (some ⟨jD,0,spg⟩) gs.length cap) N U h i B j2 os e) B.length ⟨0,J,⟨J,λq x cz=>absurd cz J⟩,rfl,C⟩ ?_;rintro _ _ al e4 ⟨k,rfl,Z,rfl,C⟩;obtain⟨b2,E1,rfl,rfl,hae,L⟩:=C.co.form;rw[aqU];unfold ac1;refine aB ?_;refine⟨λhk=>?_,λhk=>d5 _ _ _ ⟨k,Z,λx aR=>absurd (gE.1 aR).1 hk,rfl,C⟩⟩;obtain⟨be,gN,h1,P,aM,bc,bP,rfl,rfl,h7,hR⟩:=L (λe=>ab);obtain⟨x,aR⟩:=dk hk;have uF:(B.map jv)[k]? = some (jv x):=ab
   simp(disch:=omega)only[bd,h7,(C.T jD EY).trans E0,x1 (enc:=bQ) (k:=3) (λ_=>rfl) uF,sj (enc:=bQ) (k:=3) (λ_=>rfl) bk,seval];refine(adu (x:=jv x) (y:=e)).mono ?_;rintro r b9 n3 ⟨rfl,D,E⟩;have aG:oX (jv x) e=oX x e:=rfl;rw[aG];have b0:IntKind.wrap .i64 ((k:Int)+1)=((k+1:Nat):Int):=cn (by have:=C.len;omega);refine a9 @b0 ?_;refine⟨E,λcy=>⟨B.length-(k+1),J,k+1,rfl,⟨hk,λq y cz ca=>?_⟩,rfl,C.more D E⟩,λbx=>d5 _ _ _ ⟨k,Z,λy ca=>ab,rfl,C.more D E⟩⟩
   by_cases aJ:q=k
   ·grind
   ·exact Z.ao q y J ca
 ·have hig:i=gs.length:=by have:=C.le;omega
  subst hig;have Ee:=C.can;rw[ht]at Ee;obtain⟨b2,E1,rfl,rfl,hae,L⟩:=C.co.form;refine bq.mk (NaJ B b2 E1 U h) B.length ⟨0,J,J,rfl,λaG=>?_,C.T,C.Eh⟩ ?_
  ·obtain⟨be,gN,h1,al,aM,bc,bP,aY,aJ,h7,hR⟩:=L aG;exact⟨be,gN,h1,al,aM,bc,bP,aY,aJ,ab,hR⟩
  rintro _ _ al e4 ⟨j,rfl,bM,rfl,L,dE,e9⟩;rw[aqX];unfold ac6;refine aB ?_;have BQ:B.length<=120:=by have:=C.len;omega
  refine⟨λci=>?_,λeh=>?_⟩
  ·obtain⟨be,gN,h1,P,aM,bc,bP,rfl,rfl,h7,hR⟩:=L (λe=>ab);obtain⟨x,aR⟩:=dk ci;have M:=C.ok x (jp aR);obtain⟨w,bN⟩:∃w:Nat,x.w=(w:Int):=⟨x.w.toNat,by have:=M.2.2.1;omega⟩
   have lP:(qb B)[j]? = some w:=by unfold qb;grind
   have d5:(B.take j++(B.drop j).map jv)[j]? = some (jv x):=ab
   simp(disch:=omega)only[bd,hR,VC lP,seval];refine(ald (w:=w) (by have:=M.2.2.2;omega)).mono ?_;rintro r b9 n3 ⟨rfl,D,E⟩;have Xg:=(D be aM).trans h7;have Jy:IntKind.wrap .i64 ((j:Int)+1)=((j+1:Nat):Int):=cn J;have hCl:(B.take j++(B.drop j).map jv).length=B.length:=ab
   have oW:(a1 bQ (B.take j++(B.drop j).map jv)).length=B.length*3:=by rw[ga (k:=3) (λ_=>rfl),hCl]
   simp(disch:=omega)only[bd,Xg,Jy,oW,ZX d5,seval];refine⟨J,B.length-(j+1),J,j+1,rfl,ci,rfl,λ_=>⟨be,gN,h1,P,J,bc,J,rfl,rfl,?_,?_⟩,λc aU=>?_,J⟩
   ·rw[aN];have:(B.take j++(B.drop j).map jv).set j ⟨(jv x).f,(jv x).t,(w:Int)⟩=B.take (j+1)++(B.drop (j+1)).map jv:=by
     have ce:(⟨(jv x).f,(jv x).t,(w:Int)⟩:GE)=x:=by rw[<-bN];rfl
     rw[ce,List.set_append,if_neg ab,ox,show j-min j B.length=0 by omega];rw[Am ci,qQ,List.set_cons_zero,gQ,aR,kB];rfl
    grind
   ·rw[aq (kE h1),D gN bP];omega
   ·rw[aq J,D c J];exact dE c aU
  ·have hjb:j=B.length:=J
   subst hjb;refine⟨_,B,rfl,?_,Ee,C.ok,C.len,dE,e9⟩
   by_cases aG:B=[]
   ·exact .inl ⟨aG,ab⟩
   obtain⟨be,gN,h1,P,aM,bc,bP,aY,aJ,h7,hR⟩:=L aG;rw[ht,List.drop_length,yL,hM]at h7;exact .inr ⟨be,P,aM,by rw[aY],h7⟩
theorem abu(M:dq h U v bQ gs)(cU:N<=4096)(L:∀g∈gs,fy N g)(bg:gs.length<=120):
  aD Q s 100 [.agg ⟨[(N:X),v]⟩] h U (rh N gs U h):=by
 refine bS ?_;obtain⟨a,cap,rfl,aU⟩:=id M;refine aB ?_;have hc:∀{d9 dI:fM},az U h (F (F h U d9) (U+1) dI):=aC
 refine(ary (M.T hc J) cU bg L).mono ?_;rintro r h1 gv ⟨v2,cs,rfl,C,E,D,I,hk,dr⟩;have Z:=(hk U J).trans (aq J);have V:=hk (U+1) J;rw[aN]at Z V;obtain⟨a2,bH,P,rfl⟩:=C.form;refine cx @Z @V ?_;refine⟨_,cs,rfl,?_,E,D,I,aC,J⟩;rcases C with C|⟨b,h1,al,e,aG⟩
 ·exact .inl C
 ·exact .inr ⟨b,J,al,e,ab⟩
theorem afj{p:gS->ak}{q:gS->Prop}(g:∀e,p e=true↔q e){l:aa gS}(h:∀x∈l,¬q x):¬l.any p=true:=ab
theorem Gz(aI:dq h U v gc es):
  aD Q s 92 [.agg ⟨[(n:X),v]⟩] h U (cI (.int .i64 (gr n es)) U h):=by
 refine aqS ?_;obtain⟨a,cap,rfl,aU⟩:=id aI;have cD:∀{o},az U h (F h U o):=aC
 have no:∀{e:Int},gr n es=e->∀{ac Y},az U h ac->U<=Y->cI (.int .i64 (gr n es)) U h (e:X) ac Y:=λbk _ _ L E=>⟨by rw[bk],L,E⟩
 unfold aeU Qp;refine aB ?_;refine⟨λh1=>no (by unfold gr;omega) cD J,λh1=>⟨λal=>no (by unfold gr;omega) cD J,λal=>⟨λaM=>no (by unfold gr;omega) cD J,λaM=>?_⟩⟩⟩;have Oe:gr n es=if es.any (xF n)=true then 3 else if es.any Bz=true then 7 else 0:=by unfold gr;omega
 refine bq.mk (aht (rf n) n es (.slice a es.length cap) (.int .i64 0) U h) es.length ⟨0,J,J,rfl,ab,cD,J,by simp⟩ ?_;rintro _ _ ac Y ⟨i,rfl,ai,rfl,M,L,E,P⟩;rw[ann];unfold aa6;refine a9 @M ?_;refine⟨λC=>?_,λeh=>?_⟩
 ·obtain⟨x,I⟩:=dk C;obtain⟨_,b,aO,bC,c1,cs,Z,aY,V⟩:=aI.at I;cases aY;have VG:=jp I;have gF:∀{o aW},az U h (F (F ac Y o) Y aW):=aC
  have g:rf n x->∀{o aW},cI (.int .i64 (gr n es)) U h (.int .i64 3) (F (F ac Y o) Y aW) (Y+1):=λZ _ _=>no (by rw[Oe,if_pos (vl.2 ⟨x,VG,KW.2 Z⟩)]) gF J;simp(disch:=omega)only[bd,(L b Z).trans V,sj (enc:=gc) (k:=3) (λ_=>rfl) I,gc,M,cn (J:i<1000000000000),seval];refine⟨λh1=>g (by unfold rf;omega),λh1=>⟨λal=>g (by unfold rf;omega),λal=>⟨λaM=>g (by unfold rf;omega),λaM=>⟨λbc=>g (by unfold rf;omega),λbc=>?_⟩⟩⟩⟩;exact⟨_,J,i+1,rfl,C,rfl,ab,gF,J,adn I P (by unfold rf;omega)⟩
 ·have:i=es.length:=J
  subst this;rw[ht]at P;rw[if_neg (afj (λ_=>KW) P)]at Oe;refine bq.mk (aht v0 n es (.slice a es.length cap) (.int .i64 0) U h) es.length ⟨0,J,J,rfl,M,L,E,by simp⟩ ?_;rintro _ _ ac Y ⟨i,rfl,ai,rfl,M,L,E,D⟩;rw[ano];unfold aa7;refine a9 @M ?_;refine⟨λC=>?_,λeh=>?_⟩
  ·obtain⟨x,I⟩:=dk C;obtain⟨_,b,aO,bC,c1,cs,Z,aY,V⟩:=aI.at I;cases aY;have VG:=jp I;have g:v0 x->cI (.int .i64 (gr n es)) U h (.int .i64 7) ac Y:=λZ=>no (by rw[Oe,if_pos (vl.2 ⟨x,VG,KX.2 Z⟩)]) L J;have bN:=xn (enc:=gc) (k:=3) (λ_=>rfl) I (j:=2) J (cs:=cs);rw[show(gc x)[2]? = some (x.2.2:X)from rfl]at bN;simp(disch:=omega)only[bd,(L b Z).trans V,bN,M,cn (J:i<1000000000000),seval];refine⟨λh1=>g (by unfold v0;omega),λh1=>⟨λal=>g (by unfold v0;omega),λal=>?_⟩⟩;exact⟨_,J,i+1,rfl,C,rfl,M,L,J,adn I D (by unfold v0;omega)⟩
  ·have:i=es.length:=J
   subst this;rw[ht]at D;exact no (by rw[Oe,if_neg (afj (λ_=>KX) D)]) L J
theorem arz{k:Int}:aD Q s 270 [(k:X)] h U (λr ac Y=>r = .bool (decide (k=4\/k=1\/k=2))/\ac=h/\Y=U):=by
 refine bS ?_
 simp(disch:=omega)only[bd,seval]
 grind
def RpJ(cj:Nat)(k n src len:Int)(bt:aa Int)(v:X)(U:Nat)(h:ad)(m:Nat)(aE:aa X)(ac:ad)(Y:Nat):Prop :=
 ∃i:Nat,m=bt.length-i/\i<=bt.length/\aE=[bb cj,.int .i64 0,(i:X)]/\u ac cj=some (.cells [(k:X),(n:X),(src:X),(len:X),v] false)/\az U h ac/\U+1<=Y/\∀x∈bt.take i,tj x=false
theorem ajF{k:Int}(aI:cN h U v cG bt):aD Q s 174 [.agg ⟨[(k:X),(n:X),(src:X),(len:X),v]⟩] h U (cI (.int .i64 (gR k n src len bt)) U h):=by
 refine ala ?_;obtain⟨a,cap,rfl,aU⟩:=id aI;unfold abp;have Z:∀{o},az U h (F h U o):=aC
 have no:∀{e:Int},gR k n src len bt=e->∀{ac Y},az U h ac->U<=Y->cI (.int .i64 (gR k n src len bt)) U h (e:X) ac Y:=λbk _ _ C L=>⟨by rw[bk],C,L⟩
 have D:(gR k n src len bt=3)->oz s (cI (.int .i64 (gR k n src len bt)) U h) (bb U) (.bool true) (F h U (.cells [(k:X),(n:X),(src:X),(len:X),.slice a bt.length cap] false)) (U+1):=λe=>by unfold oz;refine aB ?_;exact no e Z J
 have dJ:(gR k n src len bt=if 65536<bt.length then 5 else if bt.any tj=true then 7 else 0)->oz s (cI (.int .i64 (gR k n src len bt)) U h) (bb U) (.bool false) (F h U (.cells [(k:X),(n:X),(src:X),(len:X),.slice a bt.length cap] false)) (U+1):=λe=>by
  unfold oz;refine aB ?_;refine⟨λV=>no J Z J,λV=>?_⟩;rw[if_neg (J:¬65536<bt.length)]at e;refine bq.mk (RpJ U k n src len bt (.slice a bt.length cap) U h) bt.length ⟨0,J,J,rfl,ab,Z,J,by simp⟩ ?_;rintro _ _ ac Y ⟨i,rfl,ai,rfl,a5,C,L,M⟩;rw[ajE];unfold YU;refine a9 @a5 ?_;refine⟨λI=>?_,λeh=>?_⟩
  ·obtain⟨x,aR⟩:=dk I;obtain⟨_,b,aO,bC,c1,aG,aY,P⟩:=aI.at aR;cases aY;rw[h2]at P;have E:tj x=true->cI (.int .i64 (gR k n src len bt)) U h (.int .i64 7) ac Y:=λaG=>no ab C J;simp(disch:=omega)only[bd,(C b aG).trans P,iz aR,a5,cn (J:i<1000000000000),seval];refine⟨λh1=>E (by unfold tj;grind),λh1=>⟨λal=>E (by unfold tj;grind),λal=>?_⟩⟩;exact⟨_,J,i+1,rfl,I,rfl,a5,C,J,SG aR M (by unfold tj;grind)⟩
  ·have:i=bt.length:=J
   subst this;rw[ht]at M;exact no ab C J
 have fD:(k<=0\/5<k)->F8 s (cI (.int .i64 (gR k n src len bt)) U h) (bb U) (.bool true) (F h U (.cells [(k:X),(n:X),(src:X),(len:X),.slice a bt.length cap] false)) (U+1):=λC=>by unfold F8;refine aB ?_;exact no (by unfold gR;omega) Z J
 refine aB ?_;refine⟨λap=>fD J,λap=>?_⟩
 by_cases V:5<k
 ·rw[gz V];exact fD J
 rw[f9 V];have aF:gR k n src len bt=if ¬(0<=n/\n<=4096)then 3 else if k=4/\¬(0<=len/\len<=8192)then 3 else if(k=4\/k=1\/k=2)/\¬(0<=src/\src<=n-1)then 3 else if 65536<bt.length then 5 else if bt.any tj=true then 7 else 0:=by unfold gR;omega
 unfold F8;refine aB ?_;refine⟨λh1=>D J,λh1=>⟨λal=>D J,λal=>?_⟩⟩;have bm:¬¬(0<=n/\n<=4096):=J
 rw[if_neg bm]at aF;refine arz.mono ?_;rintro r aM bR ⟨rfl,aY,aJ⟩;rw[aY,aJ];have g:(((k=4\/k=1\/k=2)/\¬(0<=src/\src<=n-1))->False)->bJ (.bool (k == 4)) (bJ (.bool (decide (len<0))) (oz s (cI (.int .i64 (gR k n src len bt)) U h) (bb U) (.bool true) (F h U (.cells [(k:X),(n:X),(src:X),(len:X),.slice a bt.length cap] false)) (U+1)) (oz s (cI (.int .i64 (gR k n src len bt)) U h) (bb U) (.bool (decide (8192<len))) (F h U (.cells [(k:X),(n:X),(src:X),(len:X),.slice a bt.length cap] false)) (U+1))) (oz s (cI (.int .i64 (gR k n src len bt)) U h) (bb U) (.bool false) (F h U (.cells [(k:X),(n:X),(src:X),(len:X),.slice a bt.length cap] false)) (U+1)):=λar=>by
  rw[tc];refine⟨λbc=>?_,λbc=>?_⟩
  ·have bc:k=4:=ab
   rw[tc];refine⟨λb9=>D ab,λb9=>?_⟩
   by_cases dL:8192<len
   ·rw[gz dL];exact D J
   ·rw[f9 dL];exact dJ ab
  ·exact dJ ab
 by_cases bx:k=4\/k=1\/k=2
 ·rw[gz bx];refine aB ?_;refine⟨λb9=>D J,λb9=>⟨λdL=>D J,λdL=>?_⟩⟩;have:=g J;rw[tc,tc]at this;simpa using this
 ·rw[f9 bx];refine aB ?_;have:=g J;rw[tc,tc]at this;simpa using this
theorem arA{l y:aa GE}(I:dX h v bQ 3 l ao ai)(qj:ao<=ai)(M:ai<=U)(ca:dq h U v2 bQ y)(h3:(l.length+y.length)*3<=1000000)(V:∀dG ac Y,(∀al,(∀b,(ao<=b/\b<ai\/U<=b/\b<Y)->u al b=u ac b)->dX al dG bQ 3 (l++y) ao Y)->(∀b,(b<ao\/ai<=b/\b<U)->u ac b=u h b)->U<=Y->K dG ac Y):dB (dS (dv 3 h U v v2)) K:=by
 obtain⟨a2,c2,rfl,aU⟩:=ca
 by_cases ap:y=[]
 ·subst ap;have ba:∀(K:aa X->R ff),jV h a2 (Nat.mul 0 3) K=K []:=λK=>by
   cases a2 <;> rfl
  have g:dv 3 h U v (.slice a2 ([]:aa GE).length c2) = .ok (.val v h U):=by
   rcases I with⟨rfl,rfl⟩|⟨b,h1,al,rfl,E⟩
   ·show jV h a2 (Nat.mul 0 3) (λnew=>gt 3 h U none 0 0 0 new)=_;rw[ba];rfl
   ·show jV h a2 (Nat.mul 0 3) (λnew=>gt 3 h U (some ⟨b,0,some 3⟩) l.length l.length 0 new)=_;rw[ba];unfold gt;rw[show Nat.ble (Nat.add l.length 0) l.length=true from Ao ab];rfl
  rw[g];exact V v h U (λal k=>by rw[hM];exact I.T ab M) ab J
 ·obtain⟨bO,aO,bC,zQ,fa,rfl,a5⟩:=aU ap;have hyl:0<y.length:=ab
  have P:=ga (enc:=bQ) (k:=3) (λ_=>rfl);have L:=ga (enc:=bQ) (k:=3) (λ_=>rfl);have C:∀(K:aa X->R ff),jV h (some ⟨bO,0,aO⟩) (Nat.mul y.length 3) K=K (a1 bQ y):=λK=>by rw[show Nat.mul y.length 3=y.length*3 from rfl,sX a5 J ab,nO,<-P,J9]
  have aJ:(Nat.ble (Nat.mul (Nat.add l.length y.length) 3) 1000000&&Nat.ble (Nat.add l.length y.length) 1000000)=true:=by
   simp only[eD,sU]
   grind
  have Z:Nat.ble (Nat.add l.length y.length) l.length=false:=by
   cases E:Nat.ble (Nat.add l.length y.length) l.length with
   |false=>rfl
   |true=>have:=l6 E;grind
  rcases I with⟨rfl,rfl⟩|⟨b,h1,al,rfl,E⟩
  ·have g:dv 3 h U (.slice none 0 0) (.slice (some ⟨bO,0,aO⟩) y.length c2) = .ok (.val (.slice (some ⟨U,0,some 3⟩) y.length y.length) (F h U (.cells (a1 bQ y) false)) (U+1)):=by show jV h (some ⟨bO,0,aO⟩) (Nat.mul y.length 3) (λnew=>gt 3 h U none 0 0 y.length new)=_;rw[C];unfold gt;rw[show Nat.ble (Nat.add 0 y.length) 0=false from Z,show(Nat.ble (Nat.mul (Nat.add 0 y.length) 3) 1000000&&Nat.ble (Nat.add 0 y.length) 1000000)=true from aJ];show p4 h U 3 (a1 bQ y) (Nat.add 0 y.length)=_;rw[show Nat.add 0 y.length=y.length from ix _];exact pZ  J
   rw[g];exact V _ _ _ (λal k=>.inr ⟨U,J,J,rfl,ab⟩) ab J
  ·have g:dv 3 h U (.slice (some ⟨b,0,some 3⟩) l.length l.length) (.slice (some ⟨bO,0,aO⟩) y.length c2) = .ok (.val (.slice (some ⟨U,0,some 3⟩) (l.length+y.length) (l.length+y.length)) (F (xq h b) U (.cells (a1 bQ (l++y)) false)) (U+1)):=by
    show jV h (some ⟨bO,0,aO⟩) (Nat.mul y.length 3) (λnew=>gt 3 h U (some ⟨b,0,some 3⟩) l.length l.length y.length new)=_;rw[C];unfold gt;rw[Z,aJ];show p5 h U 3 (some ⟨b,0,some 3⟩) l.length l.length (l.length+y.length) (a1 bQ y)=_;unfold p5;simp only[vp E];have D:nh (Nat.mul l.length 3) (na (a1 bQ l) 0)=some (a1 bQ l):=by
     rw[rP,nO,qT,if_pos ab]
     grind
    rw[D];have ce:(!false&&Nat.beq 0 0&&Nat.beq (jJ (a1 bQ l)) (Nat.mul l.length 3)&&Nat.beq 3 3&&Nat.beq l.length l.length&&ec (a1 bQ y))=true:=by rw[oB,L,Pt];simp
    show(bif _ then _ else _)=_;rw[ce,kk,Qy];exact pZ (s:=3) J
   rw[g];exact V _ _ _ (λal k=>.inr ⟨U,J,J,ab,ab⟩) (λc aU=>by rw[aq J,sh,if_neg J]) J
def qs(p:GE->ak)(m:GE->GE)(gs:aa GE)(N:Nat)(v:X)(U:Nat)(h:ad)(q:Nat)(aE:aa X)(ac:ad)(Y:Nat):Prop :=
 ∃(i:Nat) (o:X),q=gs.length-i/\i<=gs.length/\aE=[bb U,.pointer (some ⟨U+1,0,none⟩),.pointer (some ⟨U+1+1,0,none⟩),(i:X)]/\u ac U=some (.cells [(N:X),v] false)/\u ac (U+1)=some (.cells [.int .i64 0,.slice none 0 0] false) /\
  u ac (U+1+1)=some (.cells [(N:X),o] false)/\dX ac o bQ 3 (((gs.take i).filter p).map m) (U+1+1+1) Y/\az U h ac/\U+1+1+1<=Y
theorem qs.aAJ{m:GE->GE}(g:gs[i]? = some e):((gs.take (i+1)).filter p).map m=((gs.take i).filter p).map m++(if p e then[m e]else[]):=by
 rw[gQ,g,rJ,hN]
 grind
theorem qs.put{m:GE->GE}{o:X}(Z:gs[i]? = some e)(bv:p e=true)(bg:gs.length<=120)(b7:u h1 U=some (.cells [(N:X),v] false))(br:u h1 (U+1)=some (.cells [.int .i64 0,.slice none 0 0] false))(g2:u h1 (U+1+1)=some (.cells [(N:X),o] false))(S:dX h1 o bQ 3 (((gs.take i).filter p).map m) (U+1+1+1) gv)(hk:az U h h1)(dr:U+1+1+1<=gv)(al:ad)(M:u al bO=some (.cells (bQ (m e)) false))(V:∀b,b<gv->u al b=u h1 b)(C:gv<=e4)(ha:∀g D,(∀b,b<U+1+1+1->u D b=u h1 b)->(∀P,P=F D (U+1+1) (.cells [(N:X),g] false)->qs p m gs N v U h (gs.length-(i+1)) [bb U,.pointer (some ⟨U+1,0,none⟩),.pointer (some ⟨U+1+1,0,none⟩),((i+1:Nat):X)] P (e4+1))->(∃a n c,g = .slice a n c)->K g D (e4+1)):
  dB (dS (dv 3 al e4 o (.slice (some ⟨bO,0,some 3⟩) 1 1))) K:=by
 have L:=(gE.1 Z).1;refine l7  (k:=3)  (λ_=>rfl) (λ_=>rfl) J (S.T ab C) J (m e) M rfl ab λg D E I=>?_;refine ha g D ab (λP g1=>?_) E.form;subst g1;refine⟨i+1,g,rfl,L,rfl,?_,?_,ab,?_,λc aU=>?_,J⟩
 ·grind
 ·grind
 ·rw[qs.aAJ Z,bv];exact E.T ab J
 ·rw[aq J,I _ J,V _ J];exact hk c aU
theorem qs.fin{m:GE->GE}{o:X}(cU:N<=4096)(bg:gs.length<=120)(P:∀g∈(gs.filter p).map m,fy N g)(br:u h1 (U+1)=some (.cells [.int .i64 0,.slice none 0 0] false))(S:dX h1 o bQ 3 ((gs.filter p).map m) (U+1+1+1) gv)(hk:az U h h1)(dr:U+1+1+1<=gv):
  aD Q s 100 [.agg ⟨[(N:X),o]⟩] h1 gv λL I V=>(c5 L).length=2/\ag (jg (u I (U+1)) I (U+1) 0 (c5 L)) λE=>ag (A1 (u E (U+1)) λcs x=>hF (some 2) 0 cs) λx52=>rh N ((gs.filter p).map m) U h x52 E V:=by
 have x2:((gs.filter p).map m).length<=gs.length:=ab
 refine(abu (dq.of S.rd) cU P J).mono ?_;rintro r al e4 ⟨v2,cs,rfl,C,M,D,je,Z,e9⟩;obtain⟨a3,bR,cm,rfl⟩:=C.form;have B0:=(Z (U+1) J).trans br;refine a9 @B0 ?_;refine⟨_,cs,rfl,?_,M,D,je,aC,J⟩;rcases C with C|⟨b,h1,al,e,aG⟩
 ·exact .inl C
 ·exact .inr ⟨b,J,al,e,ab⟩
theorem Mw(g:gs[i]? = some e):(a1 bQ gs++cs)[i*3]? = some (e.f:X)/\(a1 bQ gs++cs)[i*3+1]? = some (e.t:X)/\(a1 bQ gs++cs)[i*3+2]? = some (e.w:X):=
 ⟨xn  (k:=3) (λ_=>rfl) g (j:=0) J,xn  (k:=3) (λ_=>rfl) g  J,xn  (k:=3) (λ_=>rfl) g  J⟩
theorem adw(aI:dq h U v bQ gs)(cU:N<=4096)(bg:gs.length<=120)(E:∀g∈gs,fy N g):
  aD Q s 271 [.agg ⟨[(N:X),v]⟩] h U (rh N (vS gs) U h):=by
 refine aun ?_;obtain⟨a,cap,rfl,aU⟩:=id aI;unfold agx;refine aB ?_;refine bq.mk (qs (λ_=>true) oG gs N (.slice a gs.length cap) U h) gs.length ⟨0,_,rfl,J,rfl,ab,ab,ab,.inl ⟨rfl,rfl⟩,aC,J⟩ ?_;rintro q _ h1 gv ⟨i,o,rfl,ai,rfl,b7,br,D,S,Z,C⟩;obtain⟨bl,fI,qJ,rfl⟩:=S.form;rw[arr];unfold ads;refine a9 @b7 ?_;refine⟨λM=>?_,λeh=>?_⟩
 ·obtain⟨e,bk⟩:=dk M;obtain⟨_,b,aO,bC,c1,cs,aG,aY,a5⟩:=aI.at bk;cases aY;have V:hF (some 3) (i*3) (a1 bQ gs++cs) = .ok (.agg ⟨[(e.f:X),(e.t:X),(e.w:X)]⟩):=sj  (k:=3) (λ_=>rfl) bk;simp(disch:=omega)only[bd,(Z b aG).trans a5,V,D,seval];refine qs.put bk rfl bg b7 br D S Z C _ (aN _ _ _) ab J λsF bP L pK bx=>?_;obtain⟨bf,n6,hD,rfl⟩:=bx;have P:=(L (U+1+1) J).trans D;refine cx @P (cn (J:i<1000000000000)) ?_;exact⟨_,J,pK _ rfl⟩
 ·have I:i=gs.length:=J
  subst I;rw[ht]at S;refine a9 @D ?_;exact qs.fin cU bg (abn E) br S Z C
theorem ale(aI:dq h U v bQ gs)(cU:N<=4096)(bg:gs.length<=120)(L:∀g∈gs,fy N g):
  aD Q s 177 [.agg ⟨[(N:X),v]⟩] h U (rh N (AV gs) U h):=by
 refine anZ ?_;obtain⟨a,cap,rfl,aU⟩:=id aI;unfold adt;refine aB ?_;refine bq.mk (qs s6 id gs N (.slice a gs.length cap) U h) gs.length ⟨0,_,rfl,J,rfl,ab,ab,ab,.inl ⟨rfl,rfl⟩,aC,J⟩ ?_;rintro q _ h1 gv ⟨i,o,rfl,ai,rfl,b7,br,D,S,I,C⟩;obtain⟨bl,fI,qJ,rfl⟩:=S.form;rw[alb];unfold ZW;refine a9 @b7 ?_;refine⟨λZ=>?_,λeh=>?_⟩
 ·obtain⟨e,E⟩:=dk Z;obtain⟨_,b,aO,bC,c1,cs,aG,aY,a5⟩:=aI.at E;cases aY;have se:hF (some 3) (i*3) (a1 bQ gs++cs) = .ok (.agg ⟨[(e.f:X),(e.t:X),(e.w:X)]⟩):=sj  (k:=3) (λ_=>rfl) E;obtain⟨fu,dJ,gg⟩:=Mw (cs:=cs) E;simp(disch:=omega)only[bd,(I b aG).trans a5,se,fu,dJ,D,seval];refine⟨λeg=>?_,λpx=>?_⟩
  ·have M:s6 e=true:=by unfold s6;grind
   refine qs.put E M bg b7 br D S I C _ (aN _ _ _) ab J λsF bP V pK bx=>?_;obtain⟨bf,n6,hD,rfl⟩:=bx;have g25:=(V (U+1+1) J).trans D;refine cx @g25 (cn (J:i<1000000000000)) ?_;exact⟨J,_,J,pK _ rfl⟩
  ·have M:s6 e=false:=by unfold s6;grind
   refine⟨gs.length-(i+1),J,i+1,_,rfl,J,by rw[cn J],b7,br,D,?_,I,C⟩;rw[qs.aAJ E,M];simp only[nK,fc,hM];exact S
 ·have P:i=gs.length:=J
  subst P;rw[ht]at S;refine a9 @D ?_;exact qs.fin cU bg (YT L) br S I C
theorem an5(aI:dq h U v bQ gs)(cU:N<=4096)(bg:gs.length<=120)(E:∀g∈gs,fy N g):
  aD Q s 175 [.agg ⟨[(N:X),v]⟩] h U (rh N (w9 gs) U h):=by
 refine ars ?_;obtain⟨a,cap,rfl,aU⟩:=id aI;unfold afg;refine aB ?_;refine bq.mk (qs (λ_=>true) xG gs N (.slice a gs.length cap) U h) gs.length ⟨0,_,rfl,J,rfl,ab,ab,ab,.inl ⟨rfl,rfl⟩,aC,J⟩ ?_;rintro q _ h1 gv ⟨i,o,rfl,ai,rfl,b7,br,D,S,V,C⟩;obtain⟨bl,fI,qJ,rfl⟩:=S.form;rw[an0];unfold abq;refine a9 @b7 ?_;refine⟨λM=>?_,λeh=>?_⟩
 ·obtain⟨e,Z⟩:=dk M;obtain⟨_,b,aO,bC,c1,cs,aG,aY,a5⟩:=aI.at Z;cases aY;obtain⟨fu,dJ,gg⟩:=Mw (cs:=cs) Z;simp(disch:=omega)only[bd,(V b aG).trans a5,fu,dJ,D,seval];refine qs.put Z rfl bg b7 br D S V C _ (aN _ _ _) ab J λsF bP L pK bx=>?_;obtain⟨bf,n6,hD,rfl⟩:=bx;have P:=(L (U+1+1) J).trans D;refine cx @P (cn (J:i<1000000000000)) ?_;exact⟨J,_,J,pK _ rfl⟩
 ·have I:i=gs.length:=J
  subst I;rw[ht]at S;refine a9 @D ?_;exact qs.fin cU bg (ZS E) br S V C
theorem arB(aI:dq h U v bQ gs)(cU:N<=4096)(bg:gs.length<=60)(E:∀g∈gs,fy N g):
  aD Q s 176 [.agg ⟨[(N:X),v]⟩] h U (λr ac Y=>∃af,jd ((vS gs).map di) (af.map di)/\af.length<=gs.length/\(∀g∈af,fy N g)/\rh N (af++gs) U h r ac Y):=by
 refine bS ?_;obtain⟨a,cap,rfl,aU⟩:=id aI;have bF:∀{o aW},az U h (F (F h U o) (U+1) aW):=aC
 refine aB ?_;refine(adw (aI.T bF J) cU J E).mono ?_;rintro r h1 gv ⟨v1,af,rfl,lW,Iy,D,qo,I,fp⟩;have L:af.length<=gs.length:=hu qo (t6 gs);have b7:=I U J;rw[aq J,aN]at b7;have dK:=I (U+1) J;rw[aN]at dK;obtain⟨a3,bR,cm,rfl⟩:=lW.form;have cD:az U h h1:=aC
 have ax8:∀g∈af++gs,fy N g:=λg V=>by
  rcases g6.1 V with V|V
  ·exact D g V
  ·exact E g V
 refine a9 @b7 ?_;have l2:∀{o aW},az gv h1 (F (F h1 gv o) gv aW):=aC
 refine arA  (lW.T ab J) J (nP _) ((aI.T cD J).T l2 J) J λsF bP IH aAK M mE=>?_;obtain⟨bl,fI,qJ,rfl⟩:=(aAK bP ab).form;have lF:=M gv J;rw[aN]at lF;have Z:=M (U+1) J;rw[aq J,aq J,dK]at Z;refine a9 @lF ?_;refine(abu (dq.of (aAK _ ab).rd) cU ax8 ab).mono ?_;rintro r b9 n3 ⟨Ae,cs,rfl,C,Ee,P,je,hz,j9⟩;obtain⟨aZ,n7,jm,rfl⟩:=C.form;have II:=hz (U+1) J;rw[aq J,Z]at II;refine a9 @II ?_;refine⟨af,Iy,L,D,_,cs,rfl,?_,Ee,P,je,aC,J⟩;rcases C with C|⟨b,h1,al,e,aG⟩
 ·exact .inl C
 ·exact .inr ⟨b,J,al,e,ab⟩
theorem an6(C:N<=4096):aD Q s 363 [(N:X),(N:X)] h U (λr ac Y=>r = .agg ⟨[(N:X),(N:X),.slice (some ⟨U+1,0,none⟩) (N+1) (N+1),.slice none 0 0,.slice none 0 0]⟩/\u ac (U+1)=some (.cells (fx (List.replicate (N+1) 0)) false)/\az U h ac/\Y=U+1+1):=by
 refine bS ?_;have g:List.replicate (N+1) (Value.int .i64 0)=fx (List.replicate (N+1) 0):=by simp[fx]
 refine cx (cn (J:N<1000000000000)) @g ?_;exact aC
def ax9(N cj eY iv ao:Nat)(Cr:X)(af:aa GE)(ap:ad)(m:Nat)(aE:aa X)(ac:ad)(Y:Nat):Prop :=
 ∃(i:Nat) (S:aa Int) (eG l0:X),m=af.length-i/\i<=af.length/\aE=[(N:X),Cr,bb cj,bb eY,(i:X)] /\
  u ac eY=some (.cells [(N:X),(N:X),.slice (some ⟨iv,0,none⟩) (N+1) (N+1),eG,l0] false)/\u ac iv=some (.cells (fx S) false)/\S.length=N+1/\(∀x∈S,0<=x/\x<=(i:Int)) /\
  xH ac eG l0 ((af.take i).map λe=>(e.t:Int)) ((af.take i).map GE.w) ao Y/\(∀c,c<ao->c≠eY->c≠iv->u ac c=u ap c)/\ao<=Y
def aya(N cj eY iv i f:Nat)(Cr:X)(ap:ad)(U:Nat)(m:Nat)(aE:aa X)(ac:ad)(Y:Nat):Prop :=
 ∃(k:Nat) (S:aa Int),m=N+1-k/\f+1<=k/\k<=N+1/\aE=[(N:X),Cr,bb cj,bb eY,(i:X),(k:X)] /\
  u ac iv=some (.cells (fx S) false)/\S.length=N+1/\(∀(j:Nat) (x:Int),S[j]? = some x->0<=x/\(x<=(i:Int)\/j<k/\x<=(i:Int)+1))/\(∀c,c≠iv->u ac c=u ap c)/\Y=U
theorem an7(aI:dq h U v bQ af)(cU:N<=4096)(bg:af.length<=120)(jf:∀g∈af,fy N g):
  aD Q s 272 [(N:X),(N:X),v] h U (afe U h):=by
 refine aru ?_;obtain⟨a,cap,rfl,aU⟩:=id aI;unfold afi;refine aB ?_;refine(an6 cU).mono ?_;rintro r h1 _ ⟨rfl,hy,C,rfl⟩;have b7:=C U J;rw[aN]at b7;refine aB ?_;refine bq.mk (ax9 N U (U+1+1+1) (U+1+1) (U+1+1+1+1) (.slice a af.length cap) af h1) af.length ⟨0,List.replicate (N+1) 0,_,_,rfl,J,rfl,ab,ab,by simp,ab,.inl ⟨rfl,rfl,rfl,rfl⟩,ab,J⟩ ?_;rintro m _ al e4 ⟨i,S,eG,l0,rfl,ai,rfl,o8,gx,E,hSb,D,bx,dr⟩;obtain⟨d9,dI,o9,yt,yu,Jv⟩:=D.ho;obtain⟨ax,a6,c1,a2,bH,c2,rfl,rfl⟩:=D.form;rw[an3];unfold abt;refine aB ?_;refine⟨λci=>?_,λeh=>?_⟩
 ·obtain⟨e,bk⟩:=dk ci;have Vu:=jf e ab;have Vv:e.f<N:=Vu.1;obtain⟨_,b,aO,bC,dF,cs,aG,aY,a5⟩:=aI.at bk;cases aY;have jy:=(bx b J J J).trans ((C b J).trans ((aq J).trans a5));obtain⟨fu,dJ,gg⟩:=Mw (cs:=cs) bk;have je:((af.take i).map λe=>(e.t:Int)).length=i:=ab
  have wc:((af.take i).map GE.w).length=i:=ab
  refine hw @jy @dJ @o8 ?_;refine rX (o9.T ab) (aN _ _ _) J λaM uP uJ=>?_;have Iz:u aM (U+1+1+1)=some (.cells [(N:X),(N:X),.slice (some ⟨U+1+1,0,none⟩) (N+1) (N+1),.slice ax a6 c1,.slice a2 bH c2] false):=ab
  have IA:u aM b=some (.cells (a1 bQ af++cs) bC):=ab
  refine⟨J,?_⟩;refine hw @Iz @IA @gg ?_;refine rX (yt.T λc aU=>?_) (aN _ _ _) J λbc Vw tB=>?_
  ·grind
  have IB:u bc (U+1+1+1)=some (.cells [(N:X),(N:X),.slice (some ⟨U+1+1,0,none⟩) (N+1) (N+1),.slice (some ⟨e4+1,0,some 1⟩) (((af.take i).map λe=>(e.t:Int)).length+1) (((af.take i).map λe=>(e.t:Int)).length+1),.slice a2 bH c2] false):=ab
  have ge4:u bc b=some (.cells (a1 bQ af++cs) bC):=ab
  refine⟨J,?_⟩;refine hw @IB @ge4 @fu ?_;have pB:af.take (i+1)=af.take i++[e]:=by rw[gQ,bk];rfl
  have M3:IntKind.wrap .i64 ((e.f:Int)+1)=((e.f+1:Nat):Int):=cn J;rw[M3];generalize gh:F bc (U+1+1+1) _=H;have vc:u H (U+1+1+1)=some (.cells [(N:X),(N:X),.slice (some ⟨U+1+1,0,none⟩) (N+1) (N+1),.slice (some ⟨e4+1,0,some 1⟩) (((af.take i).map λe=>(e.t:Int)).length+1) (((af.take i).map λe=>(e.t:Int)).length+1),.slice (some ⟨e4+1+1+1,0,some 1⟩) (((af.take i).map GE.w).length+1) (((af.take i).map GE.w).length+1)] false):=ab
  have aBN:∀c,c≠U+1+1+1->u H c=u bc c:=λc aU=>ab
  refine bq.mk (aya N U (U+1+1+1) (U+1+1) i e.f (.slice (some ⟨b,0,aO⟩) af.length cap) H (e4+1+1+1+1)) (N+1-(e.f+1)) ⟨e.f+1,S,rfl,J,J,rfl,ab,E,λj x aR=>by have:=hSb x (jp aR);omega,λ_ _=>rfl,rfl⟩ ?_;rintro m _ bP _ ⟨k,gJ,rfl,az9,dE,rfl,V,Z,L,M,rfl⟩;rw[an2];unfold abs;have P:=(M (U+1+1+1) J).trans vc
  by_cases I:k<=N
  ·obtain⟨x,aR⟩:=dk (l:=gJ) (i:=k) J;have Ng:=L _ x aR;have hwx:IntKind.wrap .i64 (x+1)=x+1:=jI J J;simp(disch:=omega)only[bd,show(k:Int)<=(N:Int) by omega,I,P,V,cn (J:k<1000000000000),iz aR,hwx,seval];refine⟨λ_=>⟨J,?_⟩,λh=>absurd h J⟩;refine⟨N+1-(k+1),J,k+1,gJ.set k (x+1),rfl,J,J,rfl,aN _ _ _,ab,λj z cX=>?_,λc aM=>ab,rfl⟩;rw[qP]at cX
   split at cX
   all_goals grind
  ·have tr:k=N+1:=J
   subst tr;simp(disch:=omega)only[bd,show ¬((N+1:Nat):Int)<=(N:Int) by omega,I,seval];refine⟨λh=>absurd h J,λ_=>?_⟩;refine⟨af.length-(i+1),J,i+1,gJ,_,_,rfl,J,by rw[cn J],P,V,Z,λz cX=>?_,.inr ⟨e4+1,e4+1+1+1,J,J,J,J,J,?_,?_,?_,?_⟩,λc h1 al aM=>?_,J⟩
   ·obtain⟨j,bM⟩:=tS cX
    grind
   ·grind
   ·grind
   ·rw[M _ J,aBN _ J,tB _ J (λe=>ab),aq J,aq J,uP,pB,hN];rfl
   ·grind
   grind
 ·obtain⟨Cs,Ct⟩:=D.gI;have BZ:i=af.length:=J
  subst BZ;rw[ht]at Cs Ct;have kh:=(bx U J J J).trans b7;refine cx @o8 @kh ?_;refine⟨⟨_,_,_,_,_,S,_,_,rfl,⟨_,_,by rw[E],λ_=>⟨U+1+1,none,false,J,J,rfl,?_⟩⟩,Cs.T ?_ J (cB _),Ct.T ?_ J (cB _),J,ab,ab⟩,λc aU=>?_,J⟩
  ·rw[aq J,h2];omega
  ·grind
  ·grind
  ·rw[aq J,bx c J J J,C c J,aq J]
def RgJ(cj cS p19 N:Nat)(af:aa GE)(ao:Nat)(h:ad)(m:Nat)(aE:aa X)(ac:ad)(Y:Nat):Prop :=
 ∃(i:Nat) (o:X),m=af.length-i/\i<=af.length/\aE=[bb cj,bb cS,bb p19,o,(i:X)]/\dX ac o bQ 3 (af.take i) ao Y/\az ao h ac/\ao<=Y
theorem Kz(L:dq h U v bQ gs)(V:N<=4096)(C:∀g∈gs,fy N g)(P:gs.length<=120):aD Q s 92 [.agg ⟨[(N:X),v]⟩] h U (cI (.int .i64 0) U h):=by
 have M:DI (N:Int) (gs.map Ef):=by
  refine⟨J,J,ab,λe I D=>?_,λe I D=>?_⟩
  ·obtain⟨g,E,rfl⟩:=fL.1 I;obtain⟨h1,al,_⟩:=C g E;have D:(g.f:Int)<0\/(N:Int)<=g.f\/(g.t:Int)<0\/(N:Int)<=g.t:=D;omega
  ·obtain⟨g,E,rfl⟩:=fL.1 I;obtain⟨_,_,h1,al⟩:=C g E;have D:g.w<0\/2147483647<g.w:=D;omega
 have:=Gz (s:=s) (n:=(N:Int)) (aff L);rw[AL.2 M]at this;exact this
theorem an8(aI:dq h U v bQ gs)(cU:N<=4096)(D:∀g∈gs,fy N g)(bg:gs.length<=120):aD Q s 178 [.agg ⟨[(N:X),v]⟩] h U (tk 0 U h):=by
 refine art ?_;obtain⟨a,cap,rfl,aU⟩:=id aI;unfold afh;refine aB ?_;have bF:∀{o aW},az U h (F (F h U o) (U+1) aW):=aC
 refine(Kz (aI.T bF J) cU D bg).mono ?_;rintro r h1 gv ⟨rfl,E,fp⟩;have b7:=E U J;rw[aq J,aN]at b7;have dK:=E (U+1) J;rw[aN]at dK;have cD:az U h h1:=aC
 refine a9 @b7 ?_;refine(adw (aI.T cD J) cU bg D).mono ?_;rintro r al e4 ⟨v2,af,rfl,lW,Iy,P,qo,M,e9⟩;have ahy:af.length<=gs.length:=hu qo (t6 gs);obtain⟨a3,cm,rfl,IC⟩:=id lW.gI;refine aB ?_;refine bq.mk (RgJ U (U+1) e4 N af (e4+1) (F (F al e4 (.cells [.int .i64 0,.slice none 0 0] false)) e4 (.cells [(N:X),.slice a3 af.length cm] false))) af.length ⟨0,_,rfl,J,rfl,.inl ab,aC,J⟩ ?_;rintro m _ aM B1 ⟨i,o,rfl,ai,rfl,S,C,hr⟩;obtain⟨bl,fI,qJ,rfl⟩:=S.form;have aAL:=C e4 J;rw[aN]at aAL;rw[an1];unfold abr;refine a9 @aAL ?_;refine⟨λci=>?_,λeh=>?_⟩
 ·obtain⟨e,bk⟩:=dk ci;obtain⟨b,aO,bC,hy,fa,rfl,aG⟩:=IC ab;have oZ:=(C b J).trans ((aq J).trans ((aq J).trans aG));obtain⟨fu,dJ,gg⟩:=Mw  bk;rw[hM]at fu dJ gg;refine j6 @oZ @fu @dJ @gg ?_;refine l7  (k:=3)  (λ_=>rfl) (λ_=>rfl) J (S.T ab J) J e (aN _ _ _) rfl ab λsF bP BY hi=>?_;have V:af.take (i+1)=af.take i++[e]:=by rw[gQ,bk];rfl
  refine a9 (cn (J:i<1000000000000)) ?_;exact⟨J,af.length-(i+1),J,i+1,sF,rfl,J,rfl,by rw[V];exact BY,aC,J⟩
 ·have Z:i=af.length:=J
  subst Z;rw[ht]at S;have L:=C U J;rw[aq J,aq J,M U J,b7]at L;have I:=C (U+1) J;rw[aq J,aq J,M (U+1) J,dK]at I;refine a9 @L ?_;refine(an7 (dq.of S.rd) cU J P).mono ?_;rintro r b9 n3 ⟨dD,hz,j9⟩;obtain⟨x,y,de,bO,d6,a6,bH,bR,c1,c2,h8,rfl⟩:=dD.form;have ID:=(hz (U+1) J).trans I;unfold Bd;refine a9 @ID ?_;exact⟨_,rfl,dD.T ab J J,aC,J⟩
theorem alf{k:Int}(bu:cN h U ew cG bt)(bk:dq h U gi gc es)(P:es.length<=60\/65536<es.length):
  aD Q s 103 [.agg ⟨[(k:X),(n:X),(src:X),(len:X),ew]⟩,.agg ⟨[(bI:X),gi]⟩] h U (tk (iB k n src len bt bI es) U h):=by
 refine anY ?_;obtain⟨a,cap,rfl,aU⟩:=id bu;obtain⟨a2,r5,rfl,qk⟩:=id bk;unfold adr;refine aB ?_;have bF:∀{o aW kQ},az U h (F (F (F h U o) (U+1) aW) (U+1+1) kQ):=aC
 refine(ajF (bu.T bF J)).mono ?_;rintro r h1 gv ⟨rfl,eT,fp⟩;have kh:=eT U J;rw[aq J,aq J,aN]at kh;have ki:=eT (U+1) J;rw[aq J,aN]at ki;have pN:=eT (U+1+1) J;rw[aN]at pN;have cD:az U h h1:=aC
 have zero:∀{ac:ad} {Y:Nat} {o:fM} {e:Int},iB k n src len bt bI es=e->az U h ac->U<=Y->tk (iB k n src len bt bI es) U h (.tuple ⟨[.agg ⟨[.int .i64 0,.int .i64 0,.slice none 0 0,.slice none 0 0,.slice none 0 0]⟩,(e:X)]⟩) (F ac (U+1+1) o) Y:=λ{ac Y o e} bk hk Z=>by rw[bk];exact⟨_,rfl,uk.zero,aC,Z⟩
 generalize sd:gR k n src len bt=aj at *
 by_cases ic:aj=0
 case neg =>
  have aG:(aj == 0)=false:=ab
  refine cx @aG @pN ?_;exact zero (by unfold iB;omega) cD J
 subst ic;refine cx @ki @kh ?_;refine⟨λeg=>?_,λpx=>?_⟩
 ·refine a9 @pN ?_;have eg:bI≠n:=ab
  exact zero (by unfold iB;omega) cD J
 have px:bI=n:=ab
 have IJ:iB k n src len bt bI es=gr bI es:=by unfold iB;omega
 refine(Gz (bk.T cD J)).mono ?_;rintro r al e4 ⟨rfl,M,e9⟩;have ez:=cD.trans M J;have x4:=(M U J).trans kh;have uQ:=(M (U+1) J).trans ki;have B3:=(M (U+1+1) J).trans pN
 by_cases IK:gr bI es=0
 case neg =>
  have aG:(gr bI es == 0)=false:=ab
  refine cx @aG @B3 ?_;exact zero IJ ez J
 rw[IK]at IJ ⊢;have P:=L2 IK P;obtain⟨N,rfl,cU,oW,iw⟩:=(AL.1 IK).Is;have oY:=((bk.T cD J).T M e9).map oW;rw[<-g5 ]at P;generalize oV:es.map mQ=gs at P iw oY;have C:es.length=gs.length:=ab
 rw[C]at uQ oY;have mY:l5 N (U+1) U h al e4 gs (.slice a2 gs.length r5):=⟨uQ,B3,oY,iw,ez,J⟩
 rw[IJ];have tail:∀{ac:ad} {Y:Nat} {gs:aa GE} {a:av Addr} {n c:Nat},l5 N (U+1) U h ac Y gs (.slice a n c)->U<=Y->gs.length<=120->yY s (tk 0 U h) (.pointer (some ⟨U+1,0,none⟩)) (.pointer (some ⟨U+1+1,0,none⟩)) ac Y:=λ{ac Y gs a n c} S aR bg=>by have ci:=S.lt;unfold yY;refine a9 S.g ?_;refine(an8 S.p cU S.ok bg).mono ?_;rintro r b9 D ⟨m,rfl,dD,I,E⟩;obtain⟨x,y,de,bO,d6,a6,bH,bR,c1,c2,h8,rfl⟩:=dD.form;have lF:=(I _ S.lt).trans S.m;unfold Bd;refine a9 @lF ?_;exact⟨_,rfl,dD.T ab J J,λb aG=>by rw[aq J,I b J];exact S.k b aG,J⟩
 have plain:∀{ac:ad} {Y:Nat} {V:aa GE} {v:X} {aR:ad} {VH:Nat} {gs:aa GE} {cY:X},dq ac Y v bQ V->(∀g∈V,fy N g)->V.length<=120->l5 N (U+1) U h ac Y gs cY->U<=Y->aD Q s 175 [.agg ⟨[(N:X),v]⟩] ac Y λx65 h66 x5=>(c5 x65).length=2/\ag (jg (u h66 (U+1)) h66 (U+1) 0 (c5 x65)) λx6=>yY s (tk 0 U h) (.pointer (some ⟨U+1,0,none⟩)) (.pointer (some ⟨U+1+1,0,none⟩)) x6 x5:=λ{ac Y V v aR VH gs cY} aI jf bg S aR=>by refine(an5 aI cU bg jf).mono ?_;intro r b9 D ba;obtain⟨cs,bf,n6,hD,rfl,C,cz,Z,sI⟩:=S.put J ba;refine a9 @cz ?_;exact tail sI J (by have:=t6 (p:=λ_=>true) (m:=xG) V;unfold w9 at C;omega)
 have next:∀{ac b9:ad} {Y D:Nat} {gs:aa GE} {cY:X},l5 N (U+1) U h ac Y gs cY->az Y ac b9->Y<=D->l5 N (U+1) U h b9 D gs cY:=λ{ac b9 Y D gs cY} S hk Z=>by have:=S.lt;exact⟨by rw[hk _ J];exact S.g,by rw[hk _ J];exact S.m,S.p.T hk Z,S.ok,λb aG=>by rw[hk b J];exact S.k b aG,J⟩
 have uw:∀{ac:ad} {Y:Nat} {V:aa GE} {v:X} {gs:aa GE} {cY:X},dq ac Y v bQ V->(∀g∈V,fy N g)->V.length<=60->l5 N (U+1) U h ac Y gs cY->U<=Y->aD Q s 176 [.agg ⟨[(N:X),v]⟩] ac Y λVI h45 n46=>aD Q s 175 [VI] h45 n46 λx47 sk n49=>(c5 x47).length=2/\ag (jg (u sk (U+1)) sk (U+1) 0 (c5 x47)) λh50=>yY s (tk 0 U h) (.pointer (some ⟨U+1,0,none⟩)) (.pointer (some ⟨U+1+1,0,none⟩)) h50 n49:=λ{ac Y V v gs cY} aI jf bg S aR=>by refine(arB aI cU bg jf).mono ?_;rintro r b9 D ⟨af,_,qo,_,Ae,cs,rfl,lA,_,L,C,I,E⟩;rw[jb]at C;exact plain (aR:=h) (VH:=0) (dq.of lA.rd) L J (next S I E) J
 refine cx @uQ @x4 ?_;refine⟨λ_=>plain (aR:=h) (VH:=0) mY.p iw J mY J,λ_=>⟨λ_=>uw mY.p iw P mY J,λ_=>⟨λ_=>?_,λ_=>tail mY J J⟩⟩⟩;refine(ale mY.p cU J iw).mono ?_;rintro r b9 D ⟨Ae,cs,rfl,lA,_,L,C,I,E⟩;have x2:=t6 (p:=s6) (m:=id) gs;unfold AV at C;exact uw (dq.of lA.rd) L J (next mY I E) J
end Go.Proofs.YthlhhajnbgjfmaaGreat
