/- Parts of the proof: HwFn2: each statement bears its own conditions. -/
import Derived.Test.YthlhhajnbgjfmaaGreatProg
import Derived.KernelRfl
import Derived.Test.YthlhhajnbgjfmaaGreatRows
import Derived.WalkKit
import Derived.ProofKit
import Derived.OpenShut
import Derived.ChangeOld
import Derived.Below
import Derived.Test.YthlhhajnbgjfmaaGreatHwFn1
namespace Go.Proofs.YthlhhajnbgjfmaaGreat
open Go Go.Ax Go.ChangeShapes Go.WideShapes Go.ChangeAt Go.RowKit
set_option linter.all false
set_option maxHeartbeats 1000000
variable {U:Nat} {h:ae} {s:ao} {a4:ac GE} {v:X} {N:Nat} {n:Int} {es:ac hF} {B:ac GE} {al i:Nat} {R:aQ} {eu f7 a2:X} {bu:ac Int} {aM:aQ} {aj:Nat} {K:X->ae->Nat->Prop} {A:ac du} {e:GE} {v2:X} {aB:Type} {k:Nat} {p:GE->ao} {aZ az jL os:X} {src len:Int} {cs:ac X} {x y:du} {aC bj v1 eD a3:X} {dU dL:ac Int} {l:ac du} {Y:Nat} {m:Int} {b:Nat} {ab:ae} {bI a6 r:X} {fA:Nat} {uq:ac du} {ag:ac GE} {ci:Int} {z:du} {f a:Nat} {bq:X} {o dJ:ac aB} {bL:ao} {gY:Nat} {aP:aQ} {b2:Nat} {ap h1:ae}
def hN(x y:du):Prop:=x.1<y.1\/(x.1=y.1/\x.2.1<y.2.1)
def axr(es:ac du)(x:du):Prop:=x∈es/\∀y∈es,Ends x y->x.2.2<=y.2.2
structure qL (A B:ac du):Prop where
 mem:∀x,x∈B↔axr A x
 LJ:∀y∈A,∃z∈B,Ends z y
structure jp (A B:ac du):Prop where
 up:B.Pairwise hN
 LK:qL A B
theorem Ends.symm{x y:du}(h:Ends x y):Ends y x:=⟨h.1.symm,h.2.symm⟩
theorem Ends.trans{x y z:du}(h:Ends x y)(ab:Ends y z):Ends x z:=⟨h.1.trans ab.1,h.2.trans ab.2⟩
theorem Ends.refl(x:du):Ends x x:=⟨rfl,rfl⟩
theorem hN.ne(h:hN x y):¬Ends x y:=λe=>by unfold hN at h;have:=e.1;have:=e.2;omega
theorem hN.jf(h:hN x y)(ab:hN y x):False:=by unfold hN at *;omega
theorem Wi:∀{l D:ac du},l.Pairwise hN->D.Pairwise hN->(∀x,x∈l↔x∈D)->l=D
 | [],[],_,_,_=>rfl
 | [],b::L,_,_,h=>absurd ((h b).2 (pi ..)) (by simp)
 |a::t,[],_,_,h=>absurd ((h a).1 (pi ..)) (by simp)
 |a::t,b::L,h1,ap,h=>by
  have E:∀x∈t,hN a x:=λx g=>s3 h1 g;have I:∀x∈L,hN b x:=λx g=>s3 ap g;have C:a=b:=by
   rcases hD.1 ((h a).1 (pi ..))with e|e
   ·exact e
   ·rcases hD.1 ((h b).2 (pi ..))with aP|aP
    ·grind
    ·exact((I a e).jf (E b aP)).elim
  subst C
  congr 1
  refine Wi h1.of_cons ap.of_cons λx=>⟨λg=>?_,λg=>?_⟩
  ·rcases hD.1 ((h x).1 (nT _ g))with e|e
   ·subst e;exact((E x g).ne (Ends.refl x)).elim
   omega
  ·rcases hD.1 ((h x).2 (nT _ g))with e|e
   ·subst e;exact((I x g).ne (Ends.refl x)).elim
   omega
theorem jp.unique{B C:ac du}(h:jp A B)(ab:jp A C):B=C:=Wi h.up ab.up λx=>(h.LK.mem x).trans (ab.LK.mem x).symm
def pD(z e:du):du:=(z.1,z.2.1,min z.2.2 e.2.2)
theorem qL.afy{B:ac du}(h:qL A B){e:du}(dc:z∈B)(C:Ends z e)(er:∀x,x∈uq↔(x∈B/\¬Ends x e)\/x=pD z e):qL (A++[e]) uq:=by
 have L:=(h.mem z).1 dc;refine⟨λx=>?_,λy D=>?_⟩
 ·rw[er];constructor
  ·rintro(⟨E,bw⟩|rfl)
   ·have V:=(h.mem x).1 E;refine⟨IF _ V.1,λy D M=>?_⟩;rcases hs.1 D with D|D
    ·exact V.2 y D M
    grind
   ·refine⟨?_,λy D M=>?_⟩
    ·by_cases dx:z.2.2<=e.2.2
     ·have:pD z e=z:=by unfold pD;grind
      rw[this];exact IF _ L.1
     ·have:pD z e=e:=by unfold pD;rw[Int.min_eq_right J,C.1,C.2]
      grind
    ·rcases hs.1 D with D|D
     ·have:=L.2 y D M;show min z.2.2 e.2.2<=_;omega
     ·rw[jl.1 D];show min z.2.2 e.2.2<=_;omega
  ·rintro⟨E,br⟩
   by_cases g:Ends x e
   ·refine .inr ?_;have h1:=br e (by simp) g;have ap:=br z (IF _ L.1) (g.trans C.symm);have aH:x.2.2=min z.2.2 e.2.2:=by
     rcases hs.1 E with E|E
     ·have:=L.2 x E (C.trans g.symm);omega
     grind
    have aW:x.1=z.1:=g.1.trans C.1.symm;have aP:x.2.1=z.2.1:=g.2.trans C.2.symm;obtain⟨g8,iZ,hO⟩:=x;unfold pD
    grind
   ·refine .inl ⟨(h.mem x).2 ⟨?_,aa⟩,g⟩;rcases hs.1 E with E|E
    ·omega
    ·rw[jl.1 E]at g;exact absurd (Ends.refl e) g
 ·have Z:pD z e∈uq:=aa
  rcases hs.1 D with D|D
  ·obtain⟨q,di,I⟩:=h.LJ y D
   by_cases P:Ends q e
   ·exact⟨_,Z,(show Ends (pD z e) z from⟨rfl,rfl⟩).trans (C.trans (P.symm.trans I))⟩
   ·exact⟨q,aa,I⟩
  ·rw[jl.1 D];exact⟨_,Z,(show Ends (pD z e) z from⟨rfl,rfl⟩).trans C⟩
theorem qL.afz{B:ac du}(h:qL A B){e:du}(V:∀z∈B,¬Ends z e)(M:∀x,x∈uq↔x∈B\/x=e):qL (A++[e]) uq:=by
 refine⟨λx=>?_,λy g=>?_⟩
 ·rw[M];constructor
  ·rintro(D|rfl)
   ·have I:=(h.mem x).1 D;refine⟨IF _ I.1,λy g E=>?_⟩;rcases hs.1 g with g|g
    ·exact I.2 y g E
    grind
   ·refine⟨by simp,λy g E=>?_⟩;rcases hs.1 g with g|g
    ·obtain⟨q,L,C⟩:=h.LJ y g;exact absurd (C.trans E.symm) aa
    grind
  ·rintro⟨D,P⟩;rcases hs.1 D with D|D
   ·exact .inl ((h.mem x).2 ⟨D,aa⟩)
   grind
 ·rcases hs.1 g with g|g
  ·obtain⟨q,L,C⟩:=h.LJ y g;exact⟨q,aa,C⟩
  ·rw[jl.1 g];exact⟨e,aa,Ends.refl e⟩
theorem qL.nil:qL [] []:=⟨λx=>⟨λ(h:x∈([]:ac du))=>(s6 h).elim,λh=>(s6 h.1).elim⟩,λy g=>(s6 g).elim⟩
def Dd(l:ac du):Prop:=l.Pairwise λx y=>¬Ends x y
theorem XJ(e:du):∀(l:ac du),Dd l->Dd (iJ e l)/\((∃z∈l,Ends z e/\∀x,x∈iJ e l↔(x∈l/\¬Ends x e)\/x=pD z e)\/((∀z∈l,¬Ends z e)/\∀x,x∈iJ e l↔x∈l\/x=e))
 | [],_=>⟨by unfold iJ Dd;simp,.inr ⟨by simp,λx=>by simp[iJ]⟩⟩
 |z::l,P=>by
  have a5:iJ e (z::l)=(bif ga z.1 e.1&&ga z.2.1 e.2.1 then(z.1,z.2.1,bif lo e.2.2 z.2.2 then e.2.2 else z.2.2)::l else z::iJ e l):=rfl;have D:∀x∈l,¬Ends z x:=λx g=>s3 P g;rw[a5];cases M:(ga z.1 e.1&&ga z.2.1 e.2.1)with
  |true =>
   simp only[eA,k3,uC]at M;have C:Ends z e:=⟨M.1,M.2⟩
   have E:((z.1,z.2.1,bif lo e.2.2 z.2.2 then e.2.2 else z.2.2):du)=pD z e:=by
    unfold pD;rw[rh]
    grind
   rw[E];simp only[ql];refine⟨List.Pairwise.cons (λx g I=>D x g ((show Ends z (pD z e)from⟨rfl,rfl⟩).trans I)) P.of_cons,.inl ⟨z,aa,C,λx=>?_⟩⟩;constructor
   ·intro g;rcases hD.1 g with rfl|g
    ·grind
    ·exact .inl ⟨aa,λI=>D x g (C.trans I.symm)⟩
   grind
  |false =>
   have C:¬Ends z e:=λh=>by
    have:(ga z.1 e.1&&ga z.2.1 e.2.1)=true:=by simp only[eA,k3,uC];exact⟨h.1,h.2⟩
    grind
   obtain⟨h1,ap⟩:=XJ e l P.of_cons;simp only[mN];have V:∀x∈iJ e l,¬Ends z x:=λx g I=>by
    rcases ap with⟨q,Z,L,E⟩|⟨bw,E⟩
    ·rcases(E x).1 g with⟨g,_⟩|rfl
     ·grind
     ·exact D q Z (I.trans (show Ends (pD q e) q from⟨rfl,rfl⟩))
    grind
   refine⟨List.Pairwise.cons V h1,?_⟩;rcases ap with⟨q,Z,L,E⟩|⟨bw,E⟩
   ·refine .inl ⟨q,aa,L,λx=>?_⟩
    grind
   grind
theorem XK:∀(l A g:ac du),Dd g->qL A g->Dd (ii g l)/\qL (A++l) (ii g l)
 | [],A,g,h1,ap=>by rw[hC];exact⟨h1,ap⟩
 |e::l,A,g,h1,ap=>by
  obtain⟨P,I⟩:=XJ e g h1;have M:qL (A++[e]) (iJ e g):=by
   rcases I with⟨z,E,D,C⟩|⟨L,C⟩
   ·exact ap.afy E D C
   ·exact ap.afz L C
  have:=XK l (A++[e]) (iJ e g) P M;rw[kq]at this;exact this
theorem arJ(h:¬kc y x<0)(g:¬Ends x y):hN x y:=by rw[FN]at h;unfold hN;unfold Ends at g;omega
theorem Zh{g:ac du}(D:g.Perm (ii [] l))(I:g.Pairwise λx y=>¬kc y x<0):jp l g:=by
 obtain⟨h1,ap⟩:=XK l [] [] (by exact List.Pairwise.nil) qL.nil;rw[s7]at ap;have L:Dd g:=(D.pairwise_iff (λ{x y} h e=>h e.symm)).2 h1;refine⟨?_,λx=>(D.mem_iff).trans (ap.mem x),λy E=>?_⟩
 ·exact List.Pairwise.imp₂ (λx y h M=>arJ h M) I L
 ·obtain⟨z,P,C⟩:=ap.LJ y E;exact⟨z,aa,C⟩
theorem jp.self(h:l.Pairwise hN):jp l l:=by
 have E:∀(l:ac du),l.Pairwise hN->∀x∈l,∀y∈l,Ends x y->x=y:=by
  intro l
  induction l with
  |nil=>grind
  |cons a l I =>
   intro h x g y C D;rcases hD.1 g with g|g <;> rcases hD.1 C with C|C
   ·grind
   ·rw[g]at D;exact((s3 h C).ne D).elim
   ·rw[C]at D;exact((s3 h g).ne D.symm).elim
   grind
 exact⟨h,λx=>⟨λg=>⟨g,aa⟩,λg=>g.1⟩,λy C=>⟨y,C,Ends.refl y⟩⟩
structure afA (N:Nat) (a4 cs:ac GE):Prop where
 can:jp (a4.map df) (cs.map df)
 aBb:amH a4 cs
 ok:∀g∈cs,gQ N g
 len:cs.length<=a4.length
theorem axs(N:Nat)(a4:ac GE)(dT:N<=2147483648)(I:∀g∈a4,gQ N g)(Z:l.Perm (ii [] (a4.map df)))(au:l.Pairwise λx y=>¬kc y x<0):afA N a4 (l.map By)/\(l.map By).map df=l:=by
 have M:∀x∈ii [] (a4.map df),lK x:=I2 (λx C=>by obtain⟨g,E,rfl⟩:=gO.1 C;exact Zg dT (I g E)) (λx C=>by cases C)
 obtain⟨aW,aP⟩:=WM (a4.map df) [];have P:∀x∈ii [] (a4.map df),df (By x)=x:=λx C=>by obtain⟨h1,ap,aH⟩:=M x C;obtain⟨a,dy,_⟩:=uI h1;obtain⟨b,a1,_⟩:=uI ap;obtain⟨g8,iZ,hO⟩:=x;simp only at dy a1;subst dy;subst a1;rfl
 have L:(l.map By).map df=l:=by
  rw[qk]
  conv=>rhs;rw[<-List.map_id l]
  exact q5 aa
 have D:∀x∈ii [] (a4.map df),∃g∈a4,(By x).f=g.f/\(By x).t=g.t:=λx C=>by obtain⟨y,cd,h1,ap⟩:=aW x C;obtain⟨g,E,rfl⟩:=gO.1 (by simpa using cd);exact⟨g,E,by show x.1.toNat=_;rw[h1];rfl,by show x.2.1.toNat=_;rw[ap];rfl⟩
 refine⟨⟨by rw[L];exact Zh Z au,⟨λg E=>?_,λc V=>?_⟩,λc V=>?_,?_⟩,L⟩
 ·obtain⟨x,C,h1,ap⟩:=aP (df g) aa;exact⟨By x,aa,by show x.1.toNat=_;rw[h1];rfl,by show x.2.1.toNat=_;rw[ap];rfl⟩
 ·obtain⟨x,C,rfl⟩:=gO.1 V;obtain⟨g,E,h1,ap⟩:=D x aa
  grind
 ·obtain⟨x,C,rfl⟩:=gO.1 V;have C:=Z.subset C;obtain⟨g,E,h1,ap⟩:=D x C;obtain⟨_,_,aH⟩:=M x C;obtain⟨w,bV,tP⟩:=uI aH;exact⟨by rw[h1];exact(I g E).1,by rw[ap];exact(I g E).2.1,by show 0<=x.2.2;omega,by show x.2.2<=_;omega⟩
 ·rw[gW,Z.length_eq];have:=N2 (a4.map df) []
  grind
set_option maxRecDepth 1000000
def Gx:ac (ac Nat):=[[0,4,5,6,22,23,24],[0,4,5,13,52]]
def adU(s:ao)(aC aZ bI bj eM ki f2:X)(h:ae)(U:Nat)(N:aQ)(aM:aQ)(R:aQ):Prop:=cv f2 ki (gD 3 h 3 eM f2 λc=>bX [(ad 0),(ad 0),(ad 0)] h U λd e f=>af (aN e 3 d c) λg=>av g 0 d λj=>av g 1 d λl=>af (cw [(ad 0),(ad 0)] [(0,1,j),(1,1,l)]) λm=>bX [(ad 0),(ad 0)] g f λn o p=>af (aN o 2 n m) λq=>av q 2 d λt=>aV s 260 [t] q p λaS v w=>bX [(ad 0),(.int .u64 0)] v w λx y z=>af (aN y 2 x aS) λbz=>aG 2 bz n λbS=>af (j9 Q bz 53 (.agg #[(ad 0),(.int .u64 0)]) true bj bS) λbA=>af (cu bA 0) λa9=>af (cu bA 1) λbM=>bX [(ad 0),(.int .u64 0)] bz z λb5 bO cJ=>af (aN bO 2 b5 a9) λcp=>bt bM (aG 2 cp b5 λdk=>aG 2 cp x λc3=>aV s 261 [aC,dk,c3] cp cJ λeo am an=>af (aN am 2 x eo) λek=>aG 2 ek n λfK=>aG 2 ek x λfU=>af (mU Q 53 ek bj fK fU) λgk=>b9 f2 λhp=>N [aC,aZ,bI,bj,eM,ki,hp] gk an) (aG 2 cp n λhQ=>aG 2 cp x λfV=>af (mU Q 53 cp bj hQ fV) λjA=>b9 f2 λjB=>N [aC,aZ,bI,bj,eM,ki,jB] jA cJ)) (aM [aC,aZ,bI,bj,eM,ki,f2] h U)
def adV(s:ao)(aC aZ bI ik Hm:X)(h:ae)(U:Nat)(N:aQ)(aP:aQ)(R:aQ):Prop:=vk s h U Hm λa b c=>af (cu a 0) λd=>bt d (af (wj b Hm) λe=>af (cu e 0) λf=>af (cu e 1) λg=>bX [(ad 0),(ad 0)] b c λi j k=>bX [(ad 0),(.int .u64 0)] j k λl m n=>af (aN m 2 i f) λo=>af (aN o 2 l g) λp=>aG 2 p l λq=>aV s 262 [aC,q] p n λr t aS=>af (cu r 0) λv=>af (cu r 1) λw=>af (ds .not w) λx=>bt x (R [aC,aw,(ad 12),ik,Hm] t aS) (af (f0 (.array 2 1) i (ad 0)) λy=>bY t y λz=>af (f0 (.array 2 1) i (ad 1)) λbz=>bY t bz λbS=>af (cw [(ad 0),(ad 0),(ad 0)] [(0,1,z),(1,1,bS),(2,1,v)]) λbA=>dS (eO 1 [(ad 0),(ad 0),(ad 0)] [(0,3,bA)]) t aS λa9 bM b5=>dm (dI (dn 3 bM b5 ik a9)) λbO cJ cp=>N [aC,aZ,bI,bO,Hm] cJ cp)) (aP [aC,aZ,bI,ik,Hm] b c)
def agT:c0:=λs ah t1 h U K=>aV s 259 [ah] h U λa b c=>af (ds .not a) λd=>bt d (K (.tuple ⟨[aw,(ad 8)]⟩) b c) (dS (.ok .map) b c λe f g=>cP t1 λi=>bF (bW Q s Gx 172 0) [ah,aw,(ad 0),e,t1,i,(ad 0)] f g [(0,λj k l=>dm (sn k l (aT j 3)) λm n o=>bF (bW Q s Gx 172 1) [(aT j 0),(aT j 1),(aT j 2),aw,m] n o [(2,λp q r=>aV s 263 [(aT p 3),(.func (.func 264) #[] #[])] q r λt aS v=>K (.tuple ⟨[(aT p 3),(ad 0)]⟩) aS v)] (λw x y=>K (.tuple ⟨[(aT w 1),(aT w 2)]⟩) x y))] (λ_ _ _=>False))
theorem au3{C g f2:X}{N:aQ}:bW Q s Gx 172 0 [aC,aZ,bI,bj,C,g,f2] h U N [(0,aM)] R=adU s aC aZ bI bj C g f2 h U N aM R:=by kernel_rfl
theorem au4{g C:X}{N:aQ}:bW Q s Gx 172 1 [aC,aZ,bI,g,C] h U N [(2,aP)] R=adV s aC aZ bI g C h U N aP R:=by kernel_rfl
theorem axt:c4 172 agT:=c5 Gx
theorem FV{n:Nat}(h:n<2147483648):wid (n:Int)=fP n:=by unfold wid fP;rw[show(n:Int) / 18446744073709551616=0 by omega,show(n:Int) % 18446744073709551616=(n:Int) by omega]
def agU(es:ac du)(v:X)(r:Nat)(aq:ae)(m:Nat)(aJ:ac X)(ab:ae)(Y:Nat):Prop :=
 ∃i,m=es.length-i/\i<=es.length/\aJ=[.int .i64 1,.slice none 0 0,.int .i64 0,.map (some r),v,(es.length:X),(i:X)]/\u ab r=some (.map (kv 0 (ii [] (es.take i))) (ii [] (es.take i)).length)/\r<Y/\aA r aq ab
def aze(L:ac du)(r it:Nat)(aq:ae)(m:Nat)(aJ:ac X)(ab:ae)(Y:Nat):Prop :=
 ∃seen acc o,m=(Go.Ax.leftOf seen (kv 0 L)).length/\aJ=[.int .i64 1,.slice none 0 0,.int .i64 0,o,bb it]/\dX ab o kb 3 acc (it+1) Y/\(acc=[]->o = .slice none 0 0)/\(acc++(Go.Ax.leftOf seen (kv 0 L)).map wy).Perm L/\u ab it=some (.iter (some r) L.length seen L.length)/\u ab r=some (.map (kv 0 L) L.length)/\it<Y/\aA r aq ab
theorem adW{es:ac du}(aI:el h U v kb es)(rE:∀x∈es,lK x)(br:es.length<=120):
  aD Q false 172 [.int .i64 1,v] h U (λr ab Y=>∃v2 l,r = .tuple ⟨[v2,.int .i64 0]⟩/\dX ab v2 kb 3 l U Y/\(l=[]->v2 = .slice none 0 0)/\l.Perm (ii [] es)/\l.Pairwise (λx y=>¬kc y x<0)/\aA U h ab):=by
 refine axt ?_;obtain⟨a,cap,rfl,a5⟩:=id aI;unfold agT;refine(z8 J J).mono ?_;rintro _ h U ⟨rfl,rfl,rfl⟩;refine aE ?_;refine bF.mk (agU es (.slice a es.length cap) U h) es.length ⟨0,J,J,rfl,aR _ _ _,J,aF⟩ ?_;rintro m _ h1 I ⟨i,rfl,aj,rfl,bx,ba,hk⟩;rw[au3];unfold adU;refine aE ?_;refine⟨λcS=>?_,λeZ=>?_⟩
 ·obtain⟨x,aX⟩:=dW cS;have M:=rE x (k1 aX);obtain⟨w,bV,tP⟩:=uI M.2.2;have D:∀y∈ii [] (es.take i),lK y:=I2 (λy cd=>rE y (Nb cd)) (λy cd=>by cases cd);obtain⟨_,b,aO,bL,mV,cs,sJ,azf,LL⟩:=(aI.F hk (by omega:U<=I)).at aX;cases azf;have rH:hg (some 3) (i*3) (a7 kb es++cs) = .ok (.agg ⟨[(x.1:X),(x.2.1:X),(x.2.2:X)]⟩):=tZ (enc:=kb) (k:=3) (λ_=>rfl) aX;refine cM @LL @rH ?_;refine(z7 (by rw[bV];unfold kC;omega)).mono ?_;rintro _ ap bU ⟨rfl,E,fx⟩;have bP:=E (I+1) J;rw[aR]at bP;rw[bV,FV tP];unfold fP;refine bf @bP ?_;have cK:ii [] (es.take (i+1))=iJ x (ii [] (es.take i)):=by rw[<-WF,hq,aX];rfl
  have fin:∀aH b1,bU<=b1->(∀c,c<bU->u aH c=u ap c)->∃bR,bR<es.length-i/\agU es (.slice (some ⟨b,0,aO⟩) es.length cap) U h bR [.int .i64 1,.slice none 0 0,.int .i64 0,.map (some U),.slice (some ⟨b,0,aO⟩) es.length cap,(es.length:X),.int .i64 (IntKind.wrap .i64 ((i:Int)+1))] (T aH U (.map (kv 0 (iJ x (ii [] (es.take i)))) (iJ x (ii [] (es.take i))).length)) b1:=λaH b1 yV C =>
   ⟨es.length-(i+1),J,i+1,rfl,J,by rw[cF (J:i<1000000000000)],by rw[cK];exact aR _ _ _,J,aF⟩
  have g2:=(E U J).trans ((ar J).trans ((ar J).trans ((ar J).trans ((ar J).trans bx))));rw[show Value.agg ⟨[(x.1:X),(x.2.1:X)]⟩=mh x from rfl,auc QK M D ((ar J).trans ((ar J).trans g2))];cases bD:pO x (ii [] (es.take i))with
  |none =>
   refine bf @bP ?_;rw[show Value.agg ⟨[(x.1:X),(x.2.1:X)]⟩=mh x from rfl,show Value.agg ⟨[.int .i64 0,.int .u64 (w:Int)]⟩ = .agg ⟨fP w⟩from rfl,
    ac0 QK M D (((ar J).trans ((ar J).trans ((ar J).trans ((ar J).trans g2))))) (w:=w) (by rw[bD];show w=x.2.2.toNat;omega)]
   exact fin _ _ J λc a5=>aa
  |some p =>
   obtain⟨q,y⟩:=p;have hsy:=D y (k1 (JR bD).1);obtain⟨g,eI,Ts⟩:=uI hsy.2.2;unfold fP;refine bf @bP ?_;rw[show y.2.2.toNat=g by omega,show Value.agg ⟨[.int .i64 0,.int .u64 (g:Int)]⟩ = .agg ⟨wid (g:Int)⟩ by rw[FV Ts];rfl,show Value.agg ⟨[.int .i64 0,.int .u64 (w:Int)]⟩ = .agg ⟨wid (w:Int)⟩ by rw[FV tP];rfl];refine(PN (.inl rfl) (by unfold lr;omega) (by unfold lr;omega)).mono ?_;rintro _ aH b1 ⟨rfl,C,Z⟩;have e:kB 1 (g:Int) (w:Int)=((min g w:Nat):Int):=by unfold kB;omega
   have dz:=C bU J;rw[ar J,ar J,aR]at dz;have dO:=(C (I+1) J).trans ((ar J).trans ((ar J).trans ((ar J).trans ((ar J).trans bP))));have ho:=(C U J).trans ((ar J).trans ((ar J).trans ((ar J).trans ((ar J).trans g2))));rw[e,FV J];unfold fP;refine cM @dz @dO ?_;rw[show Value.agg ⟨[(x.1:X),(x.2.1:X)]⟩=mh x from rfl,show Value.agg ⟨[.int .i64 0,.int .u64 ((min g w:Nat):Int)]⟩ = .agg ⟨fP (min g w)⟩from rfl,
    ac0 QK M D ((ar J).trans ho) (w:=min g w) (by rw[bD];show min g w=(bif lo x.2.2 y.2.2 then x.2.2 else y.2.2).toNat;rw[rh];grind)]
   exact fin _ _ J λc a5=>(ar J).trans ((C c J).trans ((ar J).trans ((ar J).trans ((ar J).trans (ar J)))))
 ·have:i=es.length:=J
  subst this;rw[hB]at bx;show dm (sn h1 I (.map (some U))) _;have D:∀y∈ii [] es,lK y:=I2 rE (λy cd=>by cases cd);have gT:(ii [] es).length<=120:=by
   have:=N2 es []
   grind
  generalize ii [] es=L at *
  obtain⟨agV,axu⟩:=VU 0 L;obtain⟨Au,R0⟩:=Wd 0 L D;refine ade bx (bF.mk (aze L U I h) (kv 0 L).length ⟨[],[],_,by rw[Np],rfl,.inl ⟨rfl,rfl⟩,λ_=>rfl,by rw[Np,Au];exact BV _,aR _ _ _,(ar J).trans bx,J,aF⟩ ?_);rintro m _ ap bU ⟨seen,acc,o,rfl,rfl,au,dc,bn,hit,nA,cS,E⟩;rw[au4];unfold adV;refine adg hit nA (λe bK=>by have:=axu e bK;omega) rfl (λR7=>?_) λe bK V=>?_
  ·refine aE ?_;rw[R7]at bn;simp only[xP,hC]at bn;rcases id au with⟨rfl,rfl⟩|⟨mC,iB,fH,rfl,Tt⟩
   ·refine anC ⟨_,[],rfl,.inl ⟨rfl,rfl⟩,λ_=>rfl,bn,List.Pairwise.nil,E⟩
   ·have:=bn.length_eq;refine(arF rfl J fH Tt).mono ?_;rintro _ aH b1 ⟨Z,⟨cV,P,ls,h4⟩,w4⟩;exact⟨_,cV,rfl,.inr ⟨mC,J,J,by rw[P.length_eq],h4⟩,λe=>dc (by rw[e]at P;exact List.nil_perm.1 P),P.trans bn,ls,λc a5=>by rw[w4 c J J];exact E c a5⟩
  ·obtain⟨g,Ts,eI,azg,RZ⟩:=R0 e V;have oh:=NF agV bK;have qG:=oh.length_eq;simp only[nq]at qG;refine aE ?_;rw[Xt (aR _ _ _) ((ar J).trans nA) agV V,azg,RZ];have rB:=oh.map wy;simp only[qj]at rB;generalize aX:wy e=x at *
   rw[show mh x = .agg ⟨[(x.1:X),(x.2.1:X)]⟩from rfl];unfold fP;refine aE ?_;rw[show Value.agg ⟨[.int .i64 0,.int .u64 (g:Int)]⟩ = .agg ⟨wid (g:Int)⟩ by rw[FV Ts];rfl];refine(WK (x:=(g:Int)) (by unfold lr;omega)).mono ?_;intro ji aH b1 hr3;obtain⟨cy,C,Z⟩:=hr3;have yE:sy (g:Int)=true:=by unfold sy;exact hf ⟨J,J⟩
   rw[yE]at cy;have bP:=(C bU J).trans (ar J);rw[cy];rw[show(if true=true then(g:Int)else 0)=(g:Int)from rfl];refine bf @bP ?_;have LM:=bn.length_eq;simp only[jk,gW]at LM;refine me (enc:=kb) (al:=I+1) (λ_=>rfl) (λ_=>rfl) J (au.F (λc h1 ap=>(ar J).trans ((C c J).trans ((ar J).trans ((ar J).trans ((ar J).trans ((ar J).trans (ar J))))))) J) J x (aR _ _ _) (by show[Value.int .i64 x.1,(x.2.1:X),(g:X)]=kb x;unfold kb;rw[eI]) (by omega) ?_;intro v4 bh Hn g6;have hn:∀c,c<I+1->c≠I->u bh c=u ap c:=λc h1 ap=>(g6 c h1).trans ((ar J).trans ((C c J).trans ((ar J).trans ((ar J).trans ((ar J).trans ((ar J).trans (ar J)))))));refine⟨_,?_,seen++[e.born],acc++[x],v4,rfl,rfl,Hn,λe=>absurd e (by simp),?_,?_,(hn U J J).trans nA,J,λc a5=>(hn c J J).trans (E c a5)⟩
   ·omega
   ·rw[kq];exact(List.Perm.append_left acc rB.symm).trans bn
   ·refine(g6 I J).trans ((ar J).trans ((C I J).trans ((ar J).trans ((ar J).trans ((ar J).trans ((ar J).trans (aR _ _ _)))))))
theorem akH(aI:el h U v b3 a4)(dT:N<=2147483648)(M:∀g∈a4,gQ N g)(br:a4.length<=120):
  aD Q s 172 [.int .i64 1,v] h U (λr ab Y=>∃v2 cs,r = .tuple ⟨[v2,.int .i64 0]⟩/\dX ab v2 b3 3 cs U Y/\afA N a4 cs/\aA U h ab/\U<=Y):=by
 have rE:∀x∈a4.map df,lK x:=λx aX=>by obtain⟨g,bd,rfl⟩:=gO.1 aX;exact Zg dT (M g bd)
 have hv2:el h U v kb (a4.map df):=by obtain⟨a,cap,rfl,a5⟩:=aI;refine⟨a,cap,by rw[gW],λfk=>?_⟩;rw[<-PO];exact a5 (λe=>fk (by rw[e];rfl))
 have V:=adW hv2 rE (by rw[gW];exact br);obtain⟨-,bn,au⟩:=N3 Ze (ii [] (a4.map df));generalize qt kc (ii [] (a4.map df))=L at bn au;obtain⟨D,Z⟩:=axs N a4 dT M bn au;have C:∀l:ac du,l.Perm (ii [] (a4.map df))->l.Pairwise (λx y=>¬kc y x<0)->l=L:=λl h1 ap=>N1 (R:=λx y=>¬kc y x<0) (λx y=>aj8 x y) (h1.trans bn.symm) ap au
 by_cases f3:L=[]
 ·subst f3;refine aD.plain (v:=.tuple ⟨[.slice none 0 0,.int .i64 0]⟩) rfl (V.mono ?_) ⟨_,_,rfl,.inl ⟨rfl,rfl⟩,D,aF,J⟩;rintro _ ab Y ⟨v2,l,rfl,P,dc,I,E,hk⟩;cases C l I E;rw[dc rfl];exact⟨rfl,hk⟩
 ·refine aD.nf (val:=λb=>.tuple ⟨[.slice (some ⟨b,0,some 3⟩) L.length L.length,.int .i64 0]⟩) (cs:=a7 kb L) (E0 (λ_=>rfl) L) WH (V.mono ?_) ⟨_,_,rfl,.inr ⟨U,J,J,by rw[gW],?_⟩,D,aF,J⟩
  ·rintro _ ab Y ⟨v2,l,rfl,P,dc,I,E,hk⟩;cases C l I E;rcases P with⟨e,_⟩|⟨b,iB,fH,rfl,a1⟩
   ·exact absurd e f3
   ·exact⟨b,rfl,iB,a1,hk⟩
  ·rw[aR,PO,Z]
def qC(N:Nat)(a4:ac GE)(U:Nat)(h:ae):bZ:=λr ab Y=>∃v2 cs,r = .agg ⟨[(N:X),v2]⟩/\dX ab v2 b3 3 cs U Y/\jp (a4.map df) (cs.map df)/\(∀g∈cs,gQ N g)/\cs.length<=a4.length/\aA U h ab/\U<=Y
theorem abx(V:el h U v b3 a4)(dT:N<=2147483648)(E:∀g∈a4,gQ N g)(Z:a4.length<=120):
  aD Q s 98 [.agg ⟨[(N:X),v]⟩] h U (qC N a4 U h):=by
 refine auD ?_;obtain⟨a,cap,rfl,a5⟩:=id V;unfold afg;refine aE ?_;have h9:∀{eV dQ:gm},aA U h (T (T h U eV) (U+1) dQ):=aF
 refine(akH (V.F h9 J) dT E Z).mono ?_;rintro r h1 gY ⟨v2,cs,rfl,D,C,I,dx⟩;have L:=(I U J).trans (ar J);have P:=I (U+1) J;rw[aR]at L P;obtain⟨a2,bU,M,rfl⟩:=D.form;refine cM @L @P ?_;have aj:jp (a4.map df) (cs.map df):=C.can;refine⟨_,cs,rfl,?_,aj,C.ok,C.len,aF,J⟩;rcases D with D|⟨b,h1,ap,e,a1⟩
 ·exact .inl D
 ·exact .inr ⟨b,J,ap,e,aa⟩
def ly(n m:Int):ao:=decide (0<=n/\n<=m)
theorem lm(h:0<=n/\n<=m):ly n m=true:=hf h
theorem py(h:¬(0<=n/\n<=m)):ly n m=false:=ht h
theorem Fb:aD Q s 277 [(n:X),(m:X)] h U (λr ab Y=>r = .bool (ly n m)/\ab=h/\Y=U):=by
 refine am2 ?_;unfold aa9;refine aE ?_;refine⟨λg=>?_,λg=>by rw[py J]⟩
 by_cases h1:m<n
 ·rw[hf h1,py J];rfl
 ·rw[ht h1,lm J];rfl
theorem E2:aD Q s 156 [(n:X),(m:X)] h U (λr ab Y=>r = .bool (ly n m)/\ab=h/\Y=U):=by
 refine aks ?_;unfold Y0;refine aE ?_;refine⟨λg=>?_,λg=>by rw[py J]⟩
 by_cases h1:m<n
 ·rw[hf h1,py J];rfl
 ·rw[ht h1,lm J];rfl
theorem Oe:aD Q s 199 [(n:X),(m:X)] h U (λr ab Y=>r = .bool (decide (1<=n/\n<=m))/\ab=h/\Y=U):=by
 refine am8 ?_;unfold abe;refine aE ?_;refine⟨λg=>?_,aa⟩
 by_cases h1:m<n
 all_goals grind
def sz(d:Int):ao:=decide (d<0\/2147483647<d)
theorem akI{d:Int}:aD Q s 279 [(d:X)] h U (c9 (.bool (sz d)) U h):=by refine am3 ?_;unfold aba;refine aE ?_;refine⟨λg=>⟨by unfold sz;grind,aF,J⟩,λg=>⟨?_,aF,J⟩⟩;unfold sz;grind
def IxJ{aB:Type}(p:aB->ao)(l:ac aB)(v qV:X)(U:Nat)(h:ae)(m:Nat)(aJ:ac X)(ab:ae)(Y:Nat):Prop:=∃i,m=l.length-i/\i<=l.length/\aJ=[v,qV,.int .i64 0,(l.length:X),(i:X)]/\aA U h ab/\U<=Y/\∀x∈l.take i,p x=false
theorem QR{p:aB->ao}{l:ac aB}{x:aB}(C:l[i]? = some x)(h:∀y∈l.take i,p y=false)(D:p x=false):∀y∈l.take (i+1),p y=false:=λy g=>by
 rw[hq,C]at g
 grind
theorem anE{p:Int->ao}{l:ac Int}(V:dg h U v cY l)(br:l.length<1000000)(bD:∀(x:Int) (h:ae) (U:Nat),aD Q s f [(x:X)] h U (c9 (.bool (p x)) U h)):
  aD Q s 278 [v,.func (.func f) ⟨[]⟩ ⟨[]⟩] h U (c9 (.bool (l.any p)) U h):=by
 refine aq5 ?_;obtain⟨a,cap,rfl,a5⟩:=id V;refine(aq6 (K:=λr ab Y=>aA U h ab/\U<=Y/\∃i:Int,r = (i:X)/\(i<0↔l.any p=false)) ?_).mono ?_
 ·unfold adq;refine aE ?_;refine bF.mk (IxJ p l (.slice a l.length cap) (.func (.func f) ⟨[]⟩ ⟨[]⟩) U h) l.length ⟨0,rfl,J,rfl,aF,J,aa⟩ ?_;rintro m _ ab Y ⟨i,rfl,aj,rfl,D,g,C⟩;rw[am4];unfold YV;refine aE ?_;refine⟨λE=>?_,λZ=>?_⟩
  ·obtain⟨x,I⟩:=dW E;obtain⟨_,b,aO,bL,c1,a1,aW,M⟩:=V.at I;cases aW;rw[jm]at M;simp(disch:=omega)only[bk,(D b a1).trans M,j4 I,seval];refine(bD x ab Y).mono ?_;rintro r ap fA ⟨rfl,dM,L⟩;rw[sx];refine⟨λP=>?_,λP=>?_⟩
   ·refine⟨aF,J,_,rfl,⟨λh=>absurd h J,λh=>?_⟩⟩
    grind
   ·refine bf (cF (J:i<1000000000000)) ?_;exact⟨l.length-(i+1),J,i+1,rfl,J,rfl,aF,J,QR I C P⟩
  ·have:i=l.length:=J
   subst this;rw[hB]at C;exact⟨D,g,_,rfl,aa⟩
 ·rintro r ab Y ⟨D,g,i,rfl,aj⟩;refine aE ?_;refine⟨?_,D,g⟩
  grind
abbrev cC:=Int × Int × Int × Int
def yG(m:cC):ac X:=[(m.1:X),(m.2.1:X),(m.2.2.1:X),(m.2.2.2:X)]
def wl(m:cC):ao:=(ly m.2.1 63&&ly m.2.2.1 63&&ly m.2.2.2 63)&&decide (0<m.1/\m.1<=5)
theorem akJ{m:cC}:aD Q s 159 [.agg ⟨yG m⟩] h U (c9 (.bool (wl m)) U h):=by
 refine ana ?_;unfold abg yG;have C:∀{o},aA U h (T h U o):=aF
 have no:(ly m.2.1 63&&ly m.2.2.1 63&&ly m.2.2.2 63)=false->∀{o},B2 s (c9 (.bool (wl m)) U h) (bb U) (.bool true) (T h U o) (U+1):=λe {o}=>by unfold B2;refine aE ?_;exact⟨by unfold wl;grind,C,J⟩
 refine aE ?_;refine E2.mono ?_;rintro r h1 D ⟨rfl,g,aP⟩;rw[g,aP];cases M:ly m.2.1 63 with
 |false =>
  refine aE ?_;exact no aa
 |true =>
  refine aE ?_;refine E2.mono ?_;rintro r h1 D ⟨rfl,g,aP⟩;rw[g,aP];cases L:ly m.2.2.1 63 with
  |false =>
   refine aE ?_;exact no aa
  |true =>
   refine aE ?_;refine E2.mono ?_;rintro r h1 D ⟨rfl,g,aP⟩;rw[g,aP];cases P:ly m.2.2.2 63 with
   |false =>
    refine aE ?_;exact no aa
   |true =>
    unfold B2;refine aE ?_;have I:wl m=decide (0<m.1/\m.1<=5):=by unfold wl;grind
    refine⟨λE=>⟨?_,C,J⟩,λE=>⟨?_,C,J⟩⟩
    all_goals grind
theorem ai4{m:cC}:aD Q s 254 [.agg ⟨yG m⟩] h U (c9 (.bool (!wl m)) U h):=by refine akr ?_;unfold YY yG;refine aE ?_;refine(akJ ).mono ?_;rintro r h1 C ⟨rfl,D,g⟩;refine aE ?_;exact⟨rfl,aF,J⟩
theorem anF{p:cC->ao}{l:ac cC}(P:dg h U v yG l)(br:l.length<1000000)(bD:∀(x:cC) (h:ae) (U:Nat),aD Q s f [.agg ⟨yG x⟩] h U (c9 (.bool (p x)) U h)):
  aD Q s 253 [v,.func (.func f) ⟨[]⟩ ⟨[]⟩] h U (c9 (.bool (l.any p)) U h):=by
 refine ard ?_;obtain⟨a,cap,rfl,a5⟩:=id P;refine(are (K:=λr ab Y=>aA U h ab/\U<=Y/\∃i:Int,r = (i:X)/\(i<0↔l.any p=false)) ?_).mono ?_
 ·unfold adB;refine aE ?_;refine bF.mk (IxJ p l (.slice a l.length cap) (.func (.func f) ⟨[]⟩ ⟨[]⟩) U h) l.length ⟨0,rfl,J,rfl,aF,J,aa⟩ ?_;rintro m _ ab Y ⟨i,rfl,aj,rfl,D,g,C⟩;rw[anb];unfold YZ;refine aE ?_;refine⟨λE=>?_,λV=>?_⟩
  ·obtain⟨x,I⟩:=dW E;obtain⟨_,b,aO,bL,c1,Z,aW,bd⟩:=P.at I;cases aW;simp(disch:=omega)only[bk,(D b Z).trans bd,xa (enc:=yG) (k:=4) (λ_=>rfl) I,seval];refine(bD x ab Y).mono ?_;rintro r ap fA ⟨rfl,dM,L⟩;rw[sx];refine⟨λM=>?_,λM=>?_⟩
   ·refine⟨aF,J,_,rfl,⟨λh=>absurd h J,λh=>?_⟩⟩
    grind
   ·refine bf (cF (J:i<1000000000000)) ?_;exact⟨l.length-(i+1),J,i+1,rfl,J,rfl,aF,J,QR I C M⟩
  ·have:i=l.length:=J
   subst this;rw[hB]at C;exact⟨D,g,_,rfl,aa⟩
 ·rintro r ab Y ⟨D,g,i,rfl,aj⟩;refine aE ?_;refine⟨?_,D,g⟩
  grind
def gF(k n src len:Int)(bu:ac Int):Int :=
 if k<=0\/5<k then 8 else if ¬(0<=n/\n<=4096)then 3 else if k=4/\¬(0<=len/\len<=8192)then 3 else if(k=4\/k=1\/k=2)/\¬(0<=src/\src<=n-1)then 3
 else if 65536<bu.length then 5 else if bu.any sz=true then 7 else 0
theorem jo(g : -9223372036854775808<=n)(h1:n<=9223372036854775807):IntKind.wrap .i64 n=n:=by rw[adk];omega
theorem Jg{k:Int}(aI:dg h U v cY bu):aD Q s 187 [.agg ⟨[(k:X),(n:X),(src:X),(len:X),v]⟩] h U (c9 (.int .i64 (gF k n src len bu)) U h):=by
 refine am1 ?_;obtain⟨a,cap,rfl,a5⟩:=id aI;unfold aa8;have cI:∀{o},aA U h (T h U o):=aF
 have fin:∀{e:Int},gF k n src len bu=e->∀{o},c9 (.int .i64 (gF k n src len bu)) U h (e:X) (T h U o) (U+1):=λ{e} bK {o}=>⟨by rw[bK],cI,J⟩
 have last:¬(k<=0\/5<k)->(0<=n/\n<=4096)->¬(k=4/\¬(0<=len/\len<=8192))->¬((k=4\/k=1\/k=2)/\¬(0<=src/\src<=n-1))->zJ s (c9 (.int .i64 (gF k n src len bu)) U h) (bb U) (T h U (.cells [(k:X),(n:X),(src:X),(len:X),.slice a bu.length cap] false)) (U+1):=λh1 ap aH C=>by
  have e:gF k n src len bu=if 65536<bu.length then 5 else if bu.any sz=true then 7 else 0:=by unfold gF;omega
  unfold zJ;refine aE ?_;refine⟨λM=>fin J,λM=>?_⟩;refine(anE (aI.F cI J) J (λx h U=>akI)).mono ?_;rintro r h1 Z ⟨rfl,L,dx⟩;refine aE ?_;refine⟨λcj=>⟨aa,aF,J⟩,λcj=>⟨?_,aF,J⟩⟩
  grind
 have gv:(k<=0\/5<k)->∀{o},Fa s (c9 (.int .i64 (gF k n src len bu)) U h) (bb U) (.bool true) (T h U o) (U+1):=λL {o}=>by unfold Fa;refine aE ?_;exact fin (by unfold gF;omega)
 refine aE ?_;refine⟨λaq=>gv J,λaq=>?_⟩
 by_cases M:5<k
 ·rw[hf M];exact gv J
 rw[ht M];have L:¬(k<=0\/5<k):=J
 unfold Fa;refine aE ?_;refine Fb.mono ?_;rintro r h1 Z ⟨rfl,D,aP⟩;rw[D,aP]
 by_cases P:0<=n/\n<=4096
 case neg =>
  rw[py P];refine aE ?_;exact fin (by unfold gF;omega)
 rw[lm P];have bV:IntKind.wrap .i64 (n-1)=n-1:=jo J J;have g:(k=4\/k=1\/k=2)->¬(k=4/\¬(0<=len/\len<=8192))->aD Q s 277 [(src:X),.int .i64 (n-1)] (T h U (.cells [(k:X),(n:X),(src:X),(len:X),.slice a bu.length cap] false)) (U+1) λV E I=>af (ds .not V) λHo=>bt Ho (c9 (.int .i64 (gF k n src len bu)) U h (.int .i64 3) E I) (zJ s (c9 (.int .i64 (gF k n src len bu)) U h) (bb U) E I):=λf1 C=>by
  refine Fb.mono ?_;rintro r h1 Z ⟨rfl,D,aP⟩;rw[D,aP]
  by_cases au:0<=src/\src<=n-1
  ·rw[lm au];refine aE ?_;exact last L P C J
  ·rw[py au];refine aE ?_;exact fin (by unfold gF;grind)
 refine bf @bV ?_;refine⟨λC=>?_,λC=>?_⟩
 ·have C:k=4:=aa
  refine Fb.mono ?_;rintro r h1 Z ⟨rfl,D,aP⟩;rw[D,aP]
  by_cases br:0<=len/\len<=8192
  ·rw[lm br];refine bf @bV ?_;exact g J J
  ·rw[py br];refine aE ?_;exact fin (by unfold gF;omega)
 ·have C:k≠4:=aa
  refine⟨λh1=>?_,λh1=>⟨λap=>?_,λap=>?_⟩⟩
  ·have h1:k=1:=aa
   exact g J J
  ·have ap:k=2:=aa
   exact g J J
  ·have h1:k≠1:=aa
   have ap:k≠2:=aa
   exact last L P J J
def ih(n:Int)(es:ac hF):Int:=if n<0 then 3 else if 4096<n\/65536<es.length then 5 else if es.any (wM n)=true then 3 else if es.any AE=true then 7 else 0
theorem ai5(h:ih n es=0):es.length<=65536:=by unfold ih at h;omega
theorem RF(h:ih n es=0)(g:es.length<=60\/65536<es.length):es.length<=60:=g.elim id λh1=>by have:=ai5 h;omega
theorem Fv:ih n es=0↔CD n es:=by
 unfold ih CD;constructor
 ·intro h
  split at h
  ·cases h
  ·split at h
   ·cases h
   ·split at h
    ·cases h
    ·split at h
     ·cases h
     ·rename_i h1 ap E D
      refine⟨J,J,J,λe C g=>E (uA.2 ⟨e,C,Jy.2 g⟩),λe C g=>D (uA.2 ⟨e,C,Jz.2 g⟩)⟩
 ·rintro⟨h1,ap,E,D,I⟩;rw[if_neg J,if_neg J,if_neg,if_neg]
  ·intro h;obtain⟨e,C,g⟩:=uA.1 h;exact I e C (Jz.1 g)
  ·intro h;obtain⟨e,C,g⟩:=uA.1 h;exact D e C (Jy.1 g)
theorem PP(aI:el h U v hW es):
  aD Q s 83 [.agg ⟨[(n:X),v]⟩] h U (c9 (.int .i64 (ih n es)) U h):=by
 refine auA ?_;obtain⟨a,cap,rfl,a5⟩:=id aI;unfold right;refine aE ?_;have L:aA U h (T (T (T h U (.cells [(n:X),.slice a es.length cap] false)) (U+1) (.cells [.nilFunc] false)) (U+1) (.cells [.func (.func 163) ⟨[]⟩ ⟨[bb U]⟩] false)):=aF
 have no:∀{e:Int},ih n es=e->∀{ab:ae} {Y:Nat},aA U h ab->U<=Y->c9 (.int .i64 (ih n es)) U h (e:X) ab Y:=λ{e} bK {ab Y} P I=>⟨by rw[bK],P,I⟩
 refine⟨λh1=>no (by unfold ih;omega) L J,λh1=>⟨λap=>no (by unfold ih;omega) L J,λap=>⟨λaH=>no (by unfold ih;omega) L J,λaH=>?_⟩⟩⟩;refine(abv (wM n) (aI.F L J) J (λg bd ab Y K P I C=>?_)).mono ?_
 ·have M:=P U J;have bP:=P (U+1) J;rw[ar J,ar J,aR]at M;rw[aR]at bP;have E:∀{o},aA Y ab (T ab Y o):=aF
  refine aE ?_;refine aqW ?_;unfold adm hW;refine bf @bP ?_;refine aa0 ?_;unfold QL;refine bf @M ?_;refine⟨λh1=>C _ _ _ (by unfold wM;grind) E J,λh1=>⟨λap=>C _ _ _ (by unfold wM;grind) E J,λap=>?_⟩⟩;refine bf @bP ?_;refine aa0 ?_;unfold QL;refine bf @M ?_;refine⟨λaH=>C _ _ _ (by unfold wM;grind) E J,λaH=>?_⟩;refine C _ _ _ ?_ E J;unfold wM
  grind
 ·rintro r bh LN ⟨rfl,D,V⟩;have M:=D U J;rw[ar J,ar J,aR]at M;have hR:=L.trans D J;refine bf @M ?_;refine⟨λb0=>no (by unfold ih;grind) hR J,λb0=>?_⟩;refine(abv AE ((aI.F L J).F D V) J (λg bd ab Y K P I C=>?_)).mono ?_
  ·have E:∀{o},aA Y ab (T ab Y o):=aF
   refine aE ?_;refine aqX ?_;unfold adn hW;refine aE ?_;refine⟨λh1=>C _ _ _ (by unfold AE;grind) E J,λh1=>C _ _ _ (by unfold AE;grind) E J⟩
  ·rintro r cj om ⟨rfl,Z,mi⟩;have vG:=hR.trans Z J;refine aE ?_;refine⟨λd8=>no (by unfold ih;grind) vG J,λd8=>no ?_ vG J⟩;unfold ih;grind
def rn(e:GE):GE:=⟨e.t,e.f,e.w⟩
def De(e:GE):GE:=⟨e.f,e.t,1⟩
def KB(e:GE)(b:ao)(U:Nat)(h:ae):bZ:=c9 (.tuple ⟨[.agg ⟨[(e.f:X),(e.t:X),(e.w:X)]⟩,.bool b]⟩) U h
theorem anG:aD Q s 365 [.agg ⟨[(e.f:X),(e.t:X),(e.w:X)]⟩] h U (KB (rn e) true U h):=by refine ara ?_;unfold adx;refine aE ?_;exact⟨rfl,aF,J⟩
theorem anH:aD Q s 280 [.agg ⟨[(e.f:X),(e.t:X),(e.w:X)]⟩] h U (KB (De e) true U h):=by refine aq9 ?_;unfold adv;refine aE ?_;exact⟨rfl,aF,J⟩
def sr(e:GE):ao:=decide (e.f≠e.t)
theorem akK:aD Q s 276 [.agg ⟨[(e.f:X),(e.t:X),(e.w:X)]⟩] h U (KB e (sr e) U h):=by
 refine am7 ?_;unfold abb;refine aE ?_;refine⟨?_,aF,J⟩;have:(!((e.f:Int) == (e.t:Int)))=sr e:=by
  unfold sr
  grind
 grind
def MaJ(N cf cW f:Nat)(l5:X)(p:GE->ao)(m:GE->GE)(a4:ac GE)(U:Nat)(h:ae)(q:Nat)(aJ:ac X)(ab:ae)(Y:Nat):Prop :=
 ∃(i:Nat) (o:X),q=a4.length-i/\i<=a4.length/\aJ=[.func (.func f) ⟨[]⟩ ⟨[]⟩,bb cf,bb cW,o,l5,(a4.length:X),(i:X)] /\
  u ab cf=some (.cells [(N:X),l5] false)/\u ab cW=some (.cells [.int .i64 0,.slice none 0 0] false)/\dX ab o b3 3 (((a4.take i).filter p).map m) (U+1+1) Y/\aA U h ab/\U+1+1<=Y
theorem QS{m:GE->GE}(aI:el h U v b3 a4)(dT:N<=2147483648)(br:a4.length<=120)(js:∀g∈(a4.filter p).map m,gQ N g)(bD:∀(e:GE) (h:ae) (U:Nat),aD Q s f [.agg ⟨[(e.f:X),(e.t:X),(e.w:X)]⟩] h U (KB (m e) (p e) U h)):
  aD Q s 275 [.agg ⟨[(N:X),v]⟩,.func (.func f) ⟨[]⟩ ⟨[]⟩] h U (qC N ((a4.filter p).map m) U h):=by
 refine axg ?_;obtain⟨a,cap,rfl,L⟩:=id aI;unfold agI;refine aE ?_;have xb:((a4.filter p).map m).length<=a4.length:=aa
 have bH:∀{o aU},aA U h (T (T h U o) (U+1) aU):=aF
 refine bF.mk (MaJ N U (U+1) f (.slice a a4.length cap) p m a4 U h) a4.length ⟨0,_,rfl,J,rfl,aa,aa,.inl aa,bH,J⟩ ?_;rintro q _ h1 gY ⟨i,o,rfl,aj,rfl,bP,dO,S,Z,dx⟩;rw[auI];unfold adu;refine aE ?_;refine⟨λcS=>?_,λeZ=>?_⟩
 ·obtain⟨e,bK⟩:=dW cS;obtain⟨_,b,aO,bL,c1,cs,a1,aW,bd⟩:=aI.at bK;cases aW;have rH:hg (some 3) (i*3) (a7 b3 a4++cs) = .ok (.agg ⟨[(e.f:X),(e.t:X),(e.w:X)]⟩):=tZ  (k:=3) (λ_=>rfl) bK;simp(disch:=omega)only[bk,(Z b a1).trans bd,rH,seval];refine(bD e _ _).mono ?_;rintro r ap fA ⟨rfl,E,M⟩;have D:aA gY h1 ap:=aF
  have cK:((a4.take (i+1)).filter p).map m=((a4.take i).filter p).map m++(if p e then[m e]else[]):=by
   rw[hq,bK,s4,hr]
   grind
  refine aE ?_;refine⟨λbn=>?_,λbn=>?_⟩
  ·refine me  (k:=3)  (λ_=>rfl) (λ_=>rfl) J (S.F (λc h1 ap=>by rw[ar J,ar J,ar J,D c ap]) J) J (m e) (aR _ _ _) rfl ?_ λr3 b0 A4 I=>?_
   ·grind
   ·refine⟨a4.length-(i+1),J,i+1,r3,rfl,J,by rw[cF J],?_,?_,by rw[cK,bn];exact A4,λc L=>?_,J⟩
    ·rw[I _ J,ar J,ar J,ar J,D _ J];omega
    ·rw[I _ J,ar J,ar J,ar J,D _ J];omega
    ·rw[I _ J,ar J,ar J,ar J,D _ J];exact Z c L
  ·refine⟨a4.length-(i+1),J,i+1,o,rfl,J,by rw[cF J],?_,?_,?_,λc L=>?_,J⟩
   ·rw[ar J,ar J,D _ J];omega
   ·rw[ar J,ar J,D _ J];omega
   ·rw[cK,bn];simp only[np,ff,hC];exact S.F (λc h1 ap=>by rw[ar J,ar J,D c ap]) J
   ·rw[ar J,ar J,D _ J];exact Z c L
 ·have xc:i=a4.length:=J
  subst xc;rw[hB]at S;obtain⟨a2,bU,c2,rfl⟩:=S.form;refine bf @bP ?_;refine(abx (el.of S.rd) dT js J).mono ?_;rintro r ap fA ⟨v2,cs,rfl,C,P,V,lf,E,M⟩;obtain⟨a3,b1,cm,rfl⟩:=C.form;have A5:=(E (U+1) J).trans dO;refine bf @A5 ?_;refine⟨_,cs,rfl,?_,P,V,lf,λc L=>by rw[ar J,E c J];exact Z c L,J⟩;rcases C with C|⟨b,h1,ap,e,a1⟩
  ·exact .inl C
  ·exact .inr ⟨b,J,ap,e,aa⟩
def Ai(a4:ac GE):ac GE:=(a4.filter λ_=>true).map rn
def zW(a4:ac GE):ac GE:=(a4.filter sr).map id
def z9(a4:ac GE):ac GE:=(a4.filter λ_=>true).map De
theorem Zi(h:∀g∈a4,gQ N g):∀g∈Ai a4,gQ N g:=λg C=>by obtain⟨e,D,rfl⟩:=gO.1 C;have:=h e aa;exact⟨this.2.1,this.1,this.2.2⟩
theorem WN(h:∀g∈a4,gQ N g):∀g∈zW a4,gQ N g:=λg C=>by obtain⟨e,D,rfl⟩:=gO.1 C;exact h e aa
theorem XL(h:∀g∈a4,gQ N g):∀g∈z9 a4,gQ N g:=λg C=>by obtain⟨e,D,rfl⟩:=gO.1 C;have:=h e aa;exact⟨this.1,this.2.1,by show(0:Int)<=1;omega,by show(1:Int)<=2147483647;omega⟩
theorem tf{m:GE->GE}(a4:ac GE):((a4.filter p).map m).length<=a4.length:=aa
theorem QT(Z:el h U v b3 a4)(dT:N<=2147483648)(br:a4.length<=120)(L:∀g∈a4,gQ N g):
  aD Q s 274 [.agg ⟨[(N:X),v]⟩] h U (qC N (Ai a4) U h):=by
 refine axf ?_;obtain⟨a,cap,rfl,a5⟩:=id Z;unfold agH;refine aE ?_;have bH:∀{o aU},aA U h (T (T h U o) (U+1) aU):=aF
 refine(QS   (Z.F bH J) dT br (Zi L) λe h U=>anG).mono ?_;rintro r ap fA ⟨v2,cs,rfl,C,D,E,P,M,V⟩;obtain⟨a3,b1,cm,rfl⟩:=C.form;have I:=M (U+1) J;rw[aR]at I;refine bf @I ?_;refine⟨_,cs,rfl,?_,D,E,hJ P (cR _),aF,J⟩;rcases C with C|⟨b,h1,ap,e,a1⟩
 ·exact .inl C
 ·exact .inr ⟨b,J,ap,e,aa⟩
theorem Zj(Z:el h U v b3 a4)(dT:N<=2147483648)(br:a4.length<=120)(L:∀g∈a4,gQ N g):
  aD Q s 182 [.agg ⟨[(N:X),v]⟩] h U (qC N (zW a4) U h):=by
 refine aq7 ?_;obtain⟨a,cap,rfl,a5⟩:=id Z;unfold adr;refine aE ?_;have bH:∀{o aU},aA U h (T (T h U o) (U+1) aU):=aF
 refine(QS   (Z.F bH J) dT br (WN L) λe h U=>akK).mono ?_;rintro r ap fA ⟨v2,cs,rfl,C,D,E,P,M,V⟩;obtain⟨a3,b1,cm,rfl⟩:=C.form;have I:=M (U+1) J;rw[aR]at I;refine bf @I ?_;refine⟨_,cs,rfl,?_,D,E,hJ P (cR _),aF,J⟩;rcases C with C|⟨b,h1,ap,e,a1⟩
 ·exact .inl C
 ·exact .inr ⟨b,J,ap,e,aa⟩
theorem aby(Z:el h U v b3 a4)(dT:N<=2147483648)(br:a4.length<=120)(L:∀g∈a4,gQ N g):
  aD Q s 188 [.agg ⟨[(N:X),v]⟩] h U (qC N (z9 a4) U h):=by
 refine auH ?_;obtain⟨a,cap,rfl,a5⟩:=id Z;unfold plain;refine aE ?_;have bH:∀{o aU},aA U h (T (T h U o) (U+1) aU):=aF
 refine(QS   (Z.F bH J) dT br (XL L) λe h U=>anH).mono ?_;rintro r ap fA ⟨v2,cs,rfl,C,D,E,P,M,V⟩;obtain⟨a3,b1,cm,rfl⟩:=C.form;have I:=M (U+1) J;rw[aR]at I;refine bf @I ?_;refine⟨_,cs,rfl,?_,D,E,hJ P (cR _),aF,J⟩;rcases C with C|⟨b,h1,ap,e,a1⟩
 ·exact .inl C
 ·exact .inr ⟨b,J,ap,e,aa⟩
theorem OV{aB:Type}{enc:aB->ac X}:∀(l m:ac aB),a7 enc (l++m)=a7 enc l++a7 enc m
 | [],m=>rfl
 |x::l,m=>by show enc x++a7 enc (l++m)=enc x++a7 enc l++a7 enc m;rw[OV l m,kq]
theorem NN:∀l:ac GE,ef (a7 b3 l)=true
 | []=>rfl
 |x::l=>by have g:=NN l;show(g1 (.int .i64 (x.f:Int))&&(g1 (.int .i64 (x.t:Int))&&(g1 (.int .i64 x.w)&&ef (a7 b3 l))))=true;rw[g];rfl
theorem anI{n:Nat}{g y:ac GE}(V:u h b=some (.cells (a7 b3 g++cs) false))(hk:g.length=k)(bw:k+y.length<=n)(P:cs.length=(n-k)*3)(aI:el h U v2 b3 y):
  ∃ab,dn 3 h U (.slice (some ⟨b,0,some 3⟩) k n) v2 = .ok (.val (.slice (some ⟨b,0,some 3⟩) (k+y.length) n) ab U)/\u ab b=some (.cells (a7 b3 (g++y)++cs.drop (y.length*3)) false)/\∀c,c≠b->u ab c=u h c:=by
 obtain⟨a2,c2,rfl,a5⟩:=aI
 by_cases L:y=[]
 ·subst L;refine⟨h,?_,aa,aa⟩;have ba:∀(K:ac X->R fc),jD h a2 (Nat.mul 0 3) K=K []:=λK=>by
   cases a2 <;> rfl
  show jD h a2 (Nat.mul 0 3) (λnew=>ge 3 h U (some ⟨b,0,some 3⟩) k n 0 new)=_;rw[ba];unfold ge;rw[show Nat.ble (Nat.add k 0) n=true from zv J];rfl
 ·obtain⟨b2,aO,bL,xd,fH,rfl,M⟩:=a5 L;have Z:0<y.length:=aa
  have C:=fX (enc:=b3) (k:=3) (λ_=>rfl) (l:=y);have E:=fX (enc:=b3) (k:=3) (λ_=>rfl);show ∃ab,jD h (some ⟨b2,0,aO⟩) (Nat.mul y.length 3) (λnew=>ge 3 h U (some ⟨b,0,some 3⟩) k n y.length new)=_/\_;rw[show Nat.mul y.length 3=y.length*3 from rfl,sh M J aa,nr,<-C,IT];unfold ge;rw[show Nat.ble (Nat.add k y.length) n=true from zv bw];obtain⟨x,r,D⟩:∃x r,a7 b3 y=x::r:=by
   cases bD:a7 b3 y with
   |nil=>grind
   |cons x r=>grind
  have I:qr h b (Nat.add 0 (Nat.mul k 3)) (a7 b3 y) = .ok (T h b (.cells (a7 b3 (g++y)++cs.drop (y.length*3)) false)):=by
   rw[show Nat.add 0 (Nat.mul k 3)=k*3 from iU _,I0 V (NN y) aa];have aW:(a7 b3 g++cs).take (k*3)=a7 b3 g:=aa
   have aP:(a7 b3 g++cs).drop (k*3+(a7 b3 y).length)=cs.drop (y.length*3):=by rw[<-hk,<-E,C,Iz]
   rw[aW,aP,OV]
  refine⟨T h b (.cells (a7 b3 (g++y)++cs.drop (y.length*3)) false),?_,aa,aa⟩;rw[D]at I ⊢;show R.bind (qr h b (Nat.add 0 (Nat.mul k 3)) (x::r)) _=_;rw[I];rfl
theorem axv:GH Q 22 (.slice none 0 0) = .ok (.int .i64 0):=by kernel_rfl
theorem ze1:rj Tryz.prog 22=some 124:=by kernel_rfl
theorem ze2:jR Tryz.prog 124=some 3:=by kernel_rfl
theorem ze3:nY Tryz.prog 124=some [.int .i64 0,.int .i64 0,.int .i64 0]:=by kernel_rfl
theorem ze4:ye Tryz.prog 124=true:=by kernel_rfl
theorem ze5:rm Tryz.prog (some 3)=true:=by kernel_rfl
theorem anJ(n:Nat)(z:ac X):(gS n z).length=n*z.length:=by
 induction n with
 |zero=>simp[gS]
 |succ n g=>simp[gS,g,xR,j5];omega
theorem apz{n:Nat}(C:0<n)(h1:n<=1000):pk Tryz.prog .append [22,3] h U [.slice none 0 0,(n:X)] = .ok (.val (.slice (some ⟨U,0,some 3⟩) n n) (T h U (.cells (gS n [.int .i64 0,.int .i64 0,.int .i64 0]) false)) (U+1)):=by
 show R.of "append" (rj Tryz.prog 22) (λe=>R.of "append" (jR Tryz.prog e) (λs=>R.of "append" (nY Tryz.prog e) (λz=>bif Nat.beq (jq z) s&&ye Tryz.prog e&&rm Tryz.prog (some 3)then FE z s h U (.slice none 0 0) (n:X)else .no "append - element")))=_;rw[ze1];show R.of "append" (jR Tryz.prog 124) (λs=>R.of "append" (nY Tryz.prog 124) (λz=>bif Nat.beq (jq z) s&&ye Tryz.prog 124&&rm Tryz.prog (some 3)then FE z s h U (.slice none 0 0) (n:X)else .no "append - element"))=_;rw[ze2,ze3,ze4,ze5];show(bif Nat.ble n 1000000 then ge 3 h U none 0 0 n (gS n [.int .i64 0,.int .i64 0,.int .i64 0])else .no "append")=_;rw[show Nat.ble n 1000000=true from zv J];unfold ge;rw[show Nat.ble (Nat.add 0 n) 0=false from by
  cases g:Nat.ble (Nat.add 0 n) 0 with
  |false=>rfl
  |true=>have:=lJ g;grind]
 rw[show(Nat.ble (Nat.mul (Nat.add 0 n) 3) 1000000&&Nat.ble (Nat.add 0 n) 1000000)=true from by
  rw[show Nat.add 0 n=n from iU n];simp only[eA,sd]
  grind]
 show pv h U 3 _ (Nat.add 0 n)=_;rw[show Nat.add 0 n=n from iU n];exact po J
theorem au5{n:Nat}(E:n<=1000):aD Q s 364 [.slice none 0 0,(n:X)] h U (λr ab Y=>(n=0/\r = .slice none 0 0/\ab=h/\Y=U)\/(0<n/\r = .slice (some ⟨U,0,some 3⟩) 0 n/\(∃cs,u ab U=some (.cells cs false)/\cs.length=n*3)/\aA U h ab/\Y=U+1)):=by
 refine axh ?_;unfold grow;rw[axv];have D:IntKind.wrap .i64 (0-((0:Nat):Int))=0:=by rfl
 have C:IntKind.wrap .i64 ((n:Int)-0)=(n:Int):=by rw[Int.sub_zero];exact jb n J
 refine tv @D @C ?_;refine⟨J,λ_=>⟨λI=>?_,J⟩⟩;rw[show g5 3 (.slice none 0 0) none (some (.int .i64 0)) none = .ok (.slice none 0 0)from rfl,CR,show Q=Tryz.prog from rfl,apz J E];show af (g5 3 (.slice (some ⟨U,0,some 3⟩) n n) none (some (((0:Nat):X))) none) _;have g:g5 3 (.slice (some ⟨U,0,some 3⟩) n n) none (some (((0:Nat):X))) none = .ok (.slice (some ⟨U,0,some 3⟩) 0 n):=by
  obtain⟨m,rfl⟩:∃m,n=m+1:=⟨n-1,J⟩
  show nZ 3 (some ⟨U,0,some 3⟩) (m+1) false (m+1) 0 0=_;unfold nZ;rw[show(Nat.ble (m+1) (m+1)&&(Nat.ble 0 (m+1)&&Nat.ble 0 0))=true by simp only[eA,sd];omega];rfl
 rw[g,CR];exact .inr ⟨J,rfl,⟨_,aR _ _ _,by rw[anJ];rfl⟩,aF,rfl⟩
def m9(dU dL:ac GE):Nat->ac GE
 |0=>[]
 |1=>dU
 |_=>dU++dL
def azh(dU dL:ac GE)(p:Nat)(h:ae)(U:Nat)(m:Nat)(aJ:ac X)(ab:ae)(Y:Nat):Prop :=
 ∃i,m=2-i/\i<=2/\aJ=[.slice (some ⟨p,0,none⟩) 2 2,.int .i64 ((m9 dU dL i).length:Int),.slice (some ⟨p,0,none⟩) 2 2,.int .i64 2,(i:X)]/\ab=h/\Y=U
def Tu(h:ae)(al aj n:Nat)(acc:ac GE)(o:X):Prop:=(n=0/\acc=[]/\o = .slice none 0 0)\/∃b cs,al<=b/\b<aj/\o = .slice (some ⟨b,0,some 3⟩) acc.length n/\u h b=some (.cells (a7 b3 acc++cs) false)/\cs.length=(n-acc.length)*3
def agW(dU dL:ac GE)(n p:Nat)(h:ae)(U:Nat)(m:Nat)(aJ:ac X)(ab:ae)(Y:Nat):Prop :=
 ∃(i:Nat) (o:X),m=2-i/\i<=2/\aJ=[o,.slice (some ⟨p,0,none⟩) 2 2,.int .i64 2,(i:X)]/\Tu ab U Y n (m9 dU dL i) o/\aA U h ab/\U<=Y
theorem anK{p c:Nat}{dU dL:ac GE}(bn:u h p=some (.cells [v1,v2] bL))(Hp:p<U)(h1:el h U v1 b3 dU)(ap:el h U v2 b3 dL)(br:dU.length+dL.length<=1000):
  aD Q s 273 [.slice (some ⟨p,0,none⟩) 2 2] h U (λr ab Y=>el ab Y r b3 (dU++dL)/\aA U h ab/\U<=Y):=by
 refine aq8 ?_;obtain⟨az,c1,rfl,yO⟩:=id h1;obtain⟨a2,c2,rfl,og⟩:=id ap;unfold adt
 refine nw ?_;refine bF.mk (azh dU dL p h U) 2 ⟨0,rfl,J,rfl,rfl,rfl⟩ ?_;rintro m _ aH xe ⟨i,rfl,aj,rfl,aW,aP⟩;rw[aW,aP,am5];unfold YW
 match i,aj with
 |0,_ =>
  have w:IntKind.wrap .i64 (((m9 dU dL 0).length:Int)+(dU.length:Int))=((m9 dU dL 1).length:Int):=by rw[show((m9 dU dL 0).length:Int)+(dU.length:Int)=(dU.length:Int) by simp[m9]];exact jb _ J
  refine tv @bn @w ?_;exact⟨λ_=>⟨J,λ_=>⟨1,J,1,rfl,J,rfl,rfl,rfl⟩⟩,λh=>absurd J h⟩
 |1,_ =>
  have w:IntKind.wrap .i64 (((m9 dU dL 1).length:Int)+(dL.length:Int))=((m9 dU dL 2).length:Int):=by rw[show((m9 dU dL 1).length:Int)+(dL.length:Int)=((dU.length+dL.length:Nat):Int) by simp[m9]];rw[jb _ J];simp[m9]
  refine tv @bn @w ?_;exact⟨λ_=>⟨J,λ_=>⟨0,J,2,rfl,J,rfl,rfl,rfl⟩⟩,λh=>absurd J h⟩
 |2,_ =>
  refine nw ?_;refine⟨λh=>absurd h J,λ_=>?_⟩;have L:(m9 dU dL 2).length=dU.length+dL.length:=by simp[m9]
  refine(au5 J).mono ?_;intro r bh LN bd;generalize bw:(m9 dU dL 2).length=n at bd L;have st:Tu bh U LN n [] r/\aA U h bh/\U<=LN:=by
   rcases bd with⟨aq,rfl,rfl,rfl⟩|⟨aq,rfl,⟨cs,V,M⟩,hk,rfl⟩
   ·exact⟨.inl aa,aF,J⟩
   ·exact⟨.inr ⟨U,cs,J,J,rfl,V,J⟩,hk,J⟩
  obtain⟨st,g6,hX⟩:=st;refine bF.mk (agW dU dL n p h U) 2 ⟨0,r,rfl,J,rfl,st,g6,hX⟩ ?_;rintro m _ b0 E ⟨i,o,rfl,aj,rfl,st,D,g⟩;rw[am6];unfold YX;have Z:=(D p Hp).trans bn;have step:∀(j:Nat) (y:ac GE) (r0:X),el h U r0 b3 y->m9 dU dL (j+1)=m9 dU dL j++y->(m9 dU dL (j+1)).length<=n->Tu b0 U E n (m9 dU dL j) o->j+1<=2 ->
    dm (dI (dn 3 b0 E o r0)) λmw h24 n25=>af (bin Q .add 3 (j:X) (.int .i64 1)) λpQ=>∃bR,bR<2-j/\agW dU dL n p h U bR [mw,.slice (some ⟨p,0,none⟩) 2 2,.int .i64 2,pQ] h24 n25:=by
   intro j y r0 cd bK I st cb;rcases st with⟨lg,C,rfl⟩|⟨b,cs,iB,P,rfl,V,M⟩
   ·have hy0:y=[]:=by
     rw[bK,C,lg]at I
     grind
    subst hy0;obtain⟨a3,cm,rfl,_⟩:=cd;have hz:dn 3 b0 E (.slice none 0 0) (.slice a3 ([]:ac GE).length cm) = .ok (.val (.slice none 0 0) b0 E):=by cases a3 <;> rfl
    rw[hz];simp(disch:=omega)only[bk,↓reduceIte,Nat.reduceAdd,Nat.reduceSub,Nat.reduceMul,Nat.reduceLT,Nat.reduceLeDiff,Nat.reduceEqDiff,Int.reduceBEq,Int.reduceLT,Int.reduceNeg,dI,K0,cF (J:j<1000000000000)];exact⟨2-(j+1),J,j+1,_,rfl,cb,rfl,.inl aa,D,g⟩
   ·rw[bK,jk]at I;obtain⟨cj,hA,DL,xf⟩:=anI  V rfl J M (cd.F D g);rw[hA];simp(disch:=omega)only[bk,↓reduceIte,Nat.reduceAdd,Nat.reduceSub,Nat.reduceMul,Nat.reduceLT,Nat.reduceLeDiff,Nat.reduceEqDiff,Int.reduceBEq,Int.reduceLT,Int.reduceNeg,dI,K0,cF (J:j<1000000000000)];refine⟨2-(j+1),J,j+1,_,rfl,cb,rfl,.inr ⟨b,cs.drop (y.length*3),iB,P,?_,?_,?_⟩,aF,g⟩
    all_goals grind
  match i,aj with
  |0,_ =>
   refine mf @Z ?_;exact⟨λ_=>step 0 dU _ h1 rfl (by rw[L];simp[m9]) st J,λh=>absurd J h⟩
  |1,_ =>
   refine mf @Z ?_;exact⟨λ_=>step 1 dL _ ap rfl aa st J,λh=>absurd J h⟩
  |2,_ =>
   refine nw ?_;refine⟨λh=>absurd h J,λ_=>⟨?_,D,g⟩⟩;rcases st with⟨lg,C,rfl⟩|⟨b,cs,iB,P,rfl,V,M⟩
   ·have C:dU++dL=[]:=C;rw[C];exact⟨none,0,rfl,λh=>absurd rfl h⟩
   ·exact⟨some ⟨b,0,some 3⟩,n,rfl,λ_=>⟨b,some 3,false,cs,P,rfl,V⟩⟩
theorem adX(aI:el h U v b3 a4)(dT:N<=2147483648)(br:a4.length<=60)(E:∀g∈a4,gQ N g):
  aD Q s 181 [.agg ⟨[(N:X),v]⟩] h U (λr ab Y=>∃ag,jp ((Ai a4).map df) (ag.map df)/\ag.length<=a4.length/\(∀g∈ag,gQ N g)/\qC N (a4++ag) U h r ab Y):=by
 refine axe ?_;obtain⟨a,cap,rfl,a5⟩:=id aI;unfold tG;refine aE ?_;have bH:∀{o aU},aA U h (T (T h U o) (U+1) aU):=aF
 refine(QT (aI.F bH J) dT J E).mono ?_;rintro r h1 gY ⟨v1,ag,rfl,iz,Hq,D,sP,dv,L⟩;have Df:ag.length<=a4.length:=hJ sP (tf a4);have ch:=dv U J;rw[ar J,aR]at ch;have dO:=dv (U+1) J;rw[aR]at dO;obtain⟨a3,b1,cm,rfl⟩:=iz.form;refine⟨L,?_⟩;have cI:aA U h h1:=aF
 refine cM @ch @OC ?_;have ha:∀{o},aA gY h1 (T h1 gY o):=aF
 refine(anK (c:=2) (aR _ _ _) J ((aI.F cI J).F ha J) ((el.of iz.rd).F ha J) J).mono ?_;rintro r aH xe ⟨b0,V,gg⟩;obtain⟨bI,p9,rfl,Lm⟩:=id b0;have yW:=(V U J).trans ((ar J).trans ch);have A5:=(V (U+1) J).trans ((ar J).trans dO);refine⟨gg,?_⟩;refine cM @yW @OC ?_;have P:∀g∈a4++ag,gQ N g:=λg I=>by
  rcases hs.1 I with I|I
  ·exact E g I
  ·exact D g I
 refine(abx b0 dT P aa).mono ?_;rintro r cj om ⟨zj,cs,rfl,C,Z,Sg,lf,h5,M⟩;obtain⟨a6,n7,i3,rfl⟩:=C.form;have azi:=(h5 (U+1) J).trans A5;refine⟨M,?_⟩;refine bf @azi ?_;refine⟨ag,Hq,Df,D,_,cs,rfl,?_,Z,Sg,lf,aF,J⟩;rcases C with C|⟨b,h1,ap,e,a1⟩
 ·exact .inl C
 ·exact .inr ⟨b,J,ap,e,aa⟩
def Aj(r c:Int)(az a2 a3:ay Addr)(bg bU b1 c1 c2 cm:Nat):X:=.agg ⟨[(r:X),(c:X),.slice az bg c1,.slice a2 bU c2,.slice a3 b1 cm]⟩
def axw(r:X):Prop:=∃(x y:Int) (az a2 a3:ay Addr) (bg bU b1 c1 c2 cm:Nat),r=Aj x y az a2 a3 bg bU b1 c1 c2 cm
theorem arK(C:N<=4096):aD Q s 367 [(N:X),(N:X)] h U (λr ab Y=>r = .agg ⟨[(N:X),(N:X),.slice (some ⟨U+1,0,none⟩) (N+1) (N+1),.slice none 0 0,.slice none 0 0]⟩/\u ab (U+1)=some (.cells (hw (List.replicate (N+1) 0)) false)/\aA U h ab/\Y=U+1+1):=by
 refine ady ?_;unfold Rz;have g:List.replicate (N+1) (Value.int .i64 0)=hw (List.replicate (N+1) 0):=by simp[hw]
 refine cM (cF (J:N<1000000000000)) @g ?_;exact aF
def wN(h:ae)(v1 v2:X)(dU dL:ac Int)(al aj:Nat):Prop :=
 (dU=[]/\dL=[]/\v1 = .slice none 0 0/\v2 = .slice none 0 0)\/∃dA b2,dA≠b2/\al<=dA/\dA<aj/\al<=b2/\b2<aj/\v1 = .slice (some ⟨dA,0,some 1⟩) dU.length dU.length/\v2 = .slice (some ⟨b2,0,some 1⟩) dL.length dL.length /\
  u h dA=some (.cells (hw dU) false)/\u h b2=some (.cells (hw dL) false)
theorem wN.hH(C:wN h v1 v2 dU dL al aj):∃D g,fu h cY 1 v1 dU D/\fu h cY 1 v2 dL g/\(∀b,D=some b->al<=b/\b<aj/\g≠some b)/\∀b,g=some b->al<=b/\b<aj:=by
 rcases C with⟨rfl,rfl,rfl,rfl⟩|⟨M,b2,L,h1,ap,V,P,rfl,rfl,E,I⟩
 ·exact⟨none,none,fu.nil,fu.nil,aa⟩
 ·rw[<-jm]at E I;exact⟨some M,some b2,.own E,.own I,aa,aa⟩
theorem wN.form(g:wN h v1 v2 dU dL al aj):∃az D E a2 C c2,v1 = .slice az D E/\v2 = .slice a2 C c2:=by
 rcases g with⟨_,_,rfl,rfl⟩|⟨I,b2,_,_,_,_,_,rfl,rfl,_⟩
 all_goals grind
def azj(N cf eX ie al:Nat)(Bz:X)(ag:ac GE)(aq:ae)(U:Nat)(m:Nat)(aJ:ac X)(ab:ae)(Y:Nat):Prop :=
 ∃(i:Nat) (S:ac Int) (eD lB:X),m=ag.length-i/\i<=ag.length/\aJ=[(N:X),bb cf,bb eX,Bz,(ag.length:X),(i:X)] /\
  u ab eX=some (.cells [(N:X),(N:X),.slice (some ⟨ie,0,none⟩) (N+1) (N+1),eD,lB] false)/\u ab ie=some (.cells (hw S) false)/\S.length=N+1/\(∀x∈S,0<=x/\x<=(i:Int)) /\
  wN ab eD lB ((ag.take i).map λe=>(e.t:Int)) ((ag.take i).map GE.w) al Y/\(∀c,c<al->c≠eX->c≠ie->u ab c=u aq c)/\al<=Y
def azk(N cf eX ie al:Nat)(eD lB:X)(aq:ae)(U:Nat)(m:Nat)(aJ:ac X)(ab:ae)(Y:Nat):Prop :=
 ∃(i:Nat) (S:ac Int),m=N-i/\i<=N/\aJ=[bb cf,bb eX,(N:X),(i:X)] /\
  u ab eX=some (.cells [(N:X),(N:X),.slice (some ⟨ie,0,none⟩) (N+1) (N+1),eD,lB] false)/\u ab ie=some (.cells (hw S) false)/\S.length=N+1/\(∀(k:Nat) (x:Int),S[k]? = some x->0<=x/\(x<=120\/(k<=i/\x<=120*((k:Int)+1)))) /\
  (∀c,c≠ie->u ab c=u aq c)/\Y=U
def tw(h:ae)(al aj:Nat)(r:X):Prop:=∃(x y:Int) (v1 v2 v3:X) (st cl ME:ac Int),r = .agg ⟨[(x:X),(y:X),v1,v2,v3]⟩/\eY h al aj v1 cY st/\eY h al aj v2 cY cl/\eY h al aj v3 cY ME/\st.length<=4097/\cl.length<=120/\ME.length<=120
theorem tw.form(H:tw h al aj r):axw r:=by obtain⟨x,y,v1,v2,C,st,cl,g,rfl,⟨az,D,rfl,_⟩,⟨a2,c2,rfl,_⟩,⟨a3,cm,rfl,_⟩,_⟩:=H;exact⟨_,_,_,_,_,_,_,_,_,_,_,rfl⟩
theorem tw.F{h ab:ae}{al aj ea dB:Nat}{r:X}(H:tw h al aj r)(g:∀b,al<=b->b<aj->u ab b=u h b)(h1:ea<=al)(ap:aj<=dB):tw ab ea dB r:=by obtain⟨x,y,v1,v2,L,st,cl,I,rfl,D,C,E,l⟩:=H;exact⟨x,y,v1,v2,L,st,cl,I,rfl,D.F g h1 ap,C.F g h1 ap,E.F g h1 ap,l⟩
theorem Ge:eY h al aj (.slice none 0 0) cY []:=⟨none,0,rfl,λe=>absurd rfl e⟩
theorem tw.zero:tw h al aj (.agg ⟨[.int .i64 0,.int .i64 0,.slice none 0 0,.slice none 0 0,.slice none 0 0]⟩):=⟨0,0,_,_,_,[],[],[],rfl,Ge,Ge,Ge,by simp,by simp,by simp⟩
theorem wN.gC(g:wN h v1 v2 dU dL al aj):eY h al aj v1 cY dU/\eY h al aj v2 cY dL:=by
 rcases g with⟨rfl,rfl,rfl,rfl⟩|⟨L,b2,E,h1,ap,M,I,rfl,rfl,C,D⟩
 ·exact⟨Ge,Ge⟩
 ·rw[<-jm]at C D;exact⟨⟨_,_,rfl,λ_=>⟨L,_,_,h1,ap,rfl,C⟩⟩,⟨_,_,rfl,λ_=>⟨b2,_,_,M,I,rfl,D⟩⟩⟩
def adY(U:Nat)(h:ae):bZ:=λr ab Y=>tw ab U Y r/\aA U h ab/\U<=Y
theorem arL(aI:el h U v b3 ag)(dT:N<=4096)(br:ag.length<=120)(js:∀g∈ag,gQ N g):
  aD Q s 281 [(N:X),(N:X),v] h U (adY U h):=by
 refine adw ?_;obtain⟨a,cap,rfl,a5⟩:=id aI;unfold Ry;refine aE ?_;refine(arK dT).mono ?_;rintro r h1 _ ⟨rfl,iB,L,rfl⟩;have ch:=L U J;rw[aR]at ch;refine aE ?_;refine bF.mk (azj N U (U+1+1+1) (U+1+1) (U+1+1+1+1) (.slice a ag.length cap) ag h1 U) ag.length ⟨0,List.replicate (N+1) 0,_,_,rfl,J,rfl,aa,aa,by simp,aa,.inl ⟨rfl,rfl,rfl,rfl⟩,aa,J⟩ ?_;rintro m _ ap fA ⟨i,S,eD,lB,rfl,aj,rfl,P,ho,I,C,E,bD,dx⟩;obtain⟨eV,dQ,oE,xA,xB,Ic⟩:=E.hH;obtain⟨az,bg,c1,a2,bU,c2,rfl,rfl⟩:=E.form;rw[abc];unfold PD;refine aE ?_;refine⟨λcS=>?_,λeZ=>?_⟩
 ·obtain⟨e,bK⟩:=dW cS;have Tv:=js e aa;have Tw:e.f<N:=Tv.1;obtain⟨_,b,aO,bL,dN,cs,a1,aW,bd⟩:=aI.at bK;cases aW;have kh:=(bD b J J J).trans ((L b J).trans ((ar J).trans bd));have rH:hg (some 3) (i*3) (a7 b3 ag++cs) = .ok (.agg ⟨[(e.f:X),(e.t:X),.int .i64 e.w]⟩):=tZ  (k:=3) (λ_=>rfl) bK;obtain⟨x,V⟩:=dW (l:=S) (i:=e.f+1) J;have LO:=C x aa;have M:IntKind.wrap .i64 (x+1)=x+1:=jo J J;simp(disch:=omega)only[bk,kh,rH,P,ho,cF (J:e.f<1000000000000),j4 V,M,seval];refine⟨J,?_⟩;have lf:((ag.take i).map λe=>(e.t:Int)).length=i:=aa
  have Lj:((ag.take i).map GE.w).length=i:=aa
  refine ti (oE.F λc a5=>aa) (aR _ _ _) J λaH yV D=>?_;have Hr:u aH (U+1+1+1)=some (.cells [(N:X),(N:X),.slice (some ⟨U+1+1,0,none⟩) (N+1) (N+1),.slice az bg c1,.slice a2 bU c2] false):=aa
  have Hs:u aH fA=some (.cells [(e.f:X),(e.t:X),(e.w:X)] false):=aa
  refine cM @Hr @Hs ?_;refine ti (xA.F λc a5=>?_) (aR _ _ _) J λbh Tx xg=>?_
  ·grind
  have Ht:u bh (U+1+1+1)=some (.cells [(N:X),(N:X),.slice (some ⟨U+1+1,0,none⟩) (N+1) (N+1),.slice (some ⟨fA+1+1,0,some 1⟩) (((ag.take i).map λe=>(e.t:Int)).length+1) (((ag.take i).map λe=>(e.t:Int)).length+1),.slice a2 bU c2] false):=aa
  refine bf @Ht ?_;have mq:ag.take (i+1)=ag.take i++[e]:=by rw[hq,bK];rfl
  refine⟨ag.length-(i+1),J,i+1,S.set (e.f+1) (x+1),_,_,rfl,J,by rw[cF J],aR _ _ _,?_,aa,λz Z=>?_,.inr ⟨fA+1+1,fA+1+1+1+1,J,J,J,J,J,?_,?_,?_,?_⟩,λc h1 ap aH=>?_,J⟩
  ·grind
  ·grind
  ·grind
  ·grind
  ·grind
  all_goals grind
 ·obtain⟨BA,BB⟩:=E.gC;have xc:i=ag.length:=J
  subst xc;rw[hB]at BA BB;refine bF.mk (azk N U (U+1+1+1) (U+1+1) (U+1+1+1+1) (.slice az bg c1) (.slice a2 bU c2) ap fA) N ⟨0,S,rfl,J,rfl,P,ho,I,λk x V=>?_,λ_ _=>rfl,rfl⟩ ?_
  ·have:=C x (k1 V);omega
  rintro m _ aH _ ⟨k,S,rfl,hk,rfl,_,ho,I,C,D,rfl⟩;have P:=(D (U+1+1+1) J).trans P;rw[abd];unfold PE
  by_cases Ty:k<N
  ·obtain⟨x,V⟩:=dW (l:=S) (i:=k+1) J;obtain⟨y,cd⟩:=dW (l:=S) (i:=k) J;have LO:=C _ x V;have hyb:=C _ y cd;have M:IntKind.wrap .i64 (x+y)=x+y:=jo J J;simp(disch:=omega)only[bk,show(k:Int)<(N:Int) by omega,Ty,P,ho,cF (J:k<1000000000000),j4 V,j4 cd,M,seval];refine⟨⟨J,?_⟩,λh=>absurd trivial h⟩;refine⟨N-(k+1),J,k+1,S.set (k+1) (x+y),rfl,J,rfl,?_,aR _ _ _,aa,λj z Z=>?_,λc aH=>aa,rfl⟩
   ·grind
   ·rw[vP]at Z
    split at Z
    ·rename_i cb
     subst cb
     split at Z
     ·cases Z;omega
     omega
    grind
  ·have:k=N:=J
   subst this;have j1:=(D U J).trans ((bD U J J J).trans ch);refine cM @P @j1 ?_;refine⟨λh=>absurd h J,λ_=>⟨⟨_,_,_,_,_,S,_,_,rfl,⟨_,_,by rw[I],λ_=>⟨U+1+1,none,false,J,J,rfl,?_⟩⟩,BA.F ?_ J (cR _),BB.F ?_ J (cR _),J,aa,aa⟩,λc a5=>?_,J⟩⟩
   ·rw[ar J,jm];omega
   ·grind
   ·grind
   ·rw[ar J,D c J,bD c J J J,L c J,ar J]
def Dg(g:GE):hF:=((g.f:Int),(g.t:Int),g.w)
theorem XM:∀l:ac GE,a7 b3 l=a7 hW (l.map Dg)
 | []=>rfl
 |x::l=>by show b3 x++a7 b3 l=hW (Dg x)++a7 hW (l.map Dg);rw[XM l];rfl
theorem adZ(g:el h U v b3 a4):el h U v hW (a4.map Dg):=by obtain⟨a,cap,rfl,C⟩:=g;refine⟨a,cap,aa,λE=>?_⟩;obtain⟨b,aO,bL,cs,h1,ap,D⟩:=C aa;exact⟨b,aO,bL,cs,h1,ap,by rw[<-XM];omega⟩
theorem Zk(M:el h U v b3 a4)(V:N<=4096)(C:∀g∈a4,gQ N g)(P:a4.length<=120):aD Q s 83 [.agg ⟨[(N:X),v]⟩] h U (c9 (.int .i64 0) U h):=by
 have L:CD (N:Int) (a4.map Dg):=by
  refine⟨J,J,aa,λe E D=>?_,λe E D=>?_⟩
  ·obtain⟨g,I,rfl⟩:=gO.1 E;obtain⟨h1,ap,_⟩:=C g I;have D:(g.f:Int)<0\/(N:Int)<=g.f\/(g.t:Int)<0\/(N:Int)<=g.t:=D;omega
  ·obtain⟨g,I,rfl⟩:=gO.1 E;obtain⟨_,_,h1,ap⟩:=C g I;have D:g.w<0\/2147483647<g.w:=D;omega
 have:=PP (s:=s) (n:=(N:Int)) (adZ M);rw[Fv.2 L]at this;exact this
theorem afB{cs:ac GE}(g:cs[i]? = some e):hg (some 3) (i*3) (a7 b3 cs) = .ok (.agg ⟨[(e.f:X),(e.t:X),(e.w:X)]⟩):=xa  (k:=3) (λ_=>rfl) g
def CgJ(cf cW N:Nat)(f7 aDX:X)(ag:ac GE)(al:Nat)(h:ae)(m:Nat)(aJ:ac X)(ab:ae)(Y:Nat):Prop :=
 ∃(i:Nat) (o:X),m=ag.length-i/\i<=ag.length/\aJ=[bb cf,bb cW,o,f7,(ag.length:X),(i:X)]/\dX ab o b3 3 (ag.take i) al Y/\aA al h ab/\al<=Y
def sA(e:Int)(U:Nat)(h:ae):bZ:=λr ab Y=>∃m,r = .tuple ⟨[m,(e:X)]⟩/\tw ab U Y m/\aA U h ab/\U<=Y
theorem au6(aI:el h U v b3 a4)(dT:N<=4096)(D:∀g∈a4,gQ N g)(br:a4.length<=120):aD Q s 189 [.agg ⟨[(N:X),v]⟩] h U (sA 0 U h):=by
 refine afj ?_;obtain⟨a,cap,rfl,a5⟩:=id aI;unfold Sf;refine aE ?_;have bH:∀{o aU},aA U h (T (T h U o) (U+1) aU):=aF
 refine(Zk (aI.F bH J) dT D br).mono ?_;rintro r h1 gY ⟨rfl,L,fa⟩;have ch:=L U J;rw[ar J,aR]at ch;have dO:=L (U+1) J;rw[aR]at dO;have cI:aA U h h1:=aF
 refine bf @ch ?_;refine(QT (aI.F cI J) J br D).mono ?_;rintro r ap fA ⟨v2,ag,rfl,iz,Hq,E,Z,I,fx⟩;have Df:ag.length<=a4.length:=hJ Z (tf a4);obtain⟨a3,cm,rfl,Hu⟩:=id iz.gC;refine aE ?_;refine bF.mk (CgJ U (U+1) N (.slice a3 ag.length cm) .nilFunc ag fA ap) ag.length ⟨0,_,rfl,J,rfl,.inl aa,aF,J⟩ ?_;rintro m _ aH xe ⟨i,o,rfl,aj,rfl,S,C,gg⟩;rw[ads];unfold QO;refine aE ?_;refine⟨λM=>?_,λeZ=>?_⟩
 ·obtain⟨e,bK⟩:=dW M;obtain⟨b,aO,bL,iB,fH,rfl,a1⟩:=Hu aa;have pR:=(C b fH).trans a1;simp(disch:=omega)only[bk,pR,afB bK,seval];refine me  (k:=3)  (λ_=>rfl) (λ_=>rfl) J (S.F aa J) J e (aR _ _ _) rfl aa λr3 b0 A4 e7=>?_;have mq:ag.take (i+1)=ag.take i++[e]:=by rw[hq,bK];rfl
  exact⟨ag.length-(i+1),J,i+1,r3,rfl,J,by rw[cF J],by rw[mq];exact A4,λc a5=>by rw[e7 c a5,ar J,ar J,ar J];exact C c a5,J⟩
 ·have P:i=ag.length:=J
  subst P;rw[hB]at S;have DM:=(C U J).trans ((I U J).trans ch);have Tz:=(C (U+1) J).trans ((I (U+1) J).trans dO);refine bf @DM ?_;refine(arL (el.of S.rd) dT J E).mono ?_;rintro r cj om ⟨ei,h5,mi⟩;obtain⟨x,y,dA,b2,d2,bg,bU,b1,c1,c2,gd,rfl⟩:=ei.form;have V:=(h5 (U+1) J).trans Tz;unfold Aj;refine bf @V ?_;exact⟨_,rfl,ei.F aa J J,aF,J⟩
structure lF (N q U:Nat) (h ab:ae) (Y:Nat) (a4:ac GE) (v:X):Prop where
 g:u ab q=some (.cells [(N:X),v] false)
 m:u ab (q+1)=some (.cells [.int .i64 0,.int .i64 0,.slice none 0 0,.slice none 0 0,.slice none 0 0] false)
 p:el ab Y v b3 a4
 ok:∀g∈a4,gQ N g
 k:aA U h ab
 lt:q+1<Y
theorem lF.put{q:Nat}{V:ac GE}(S:lF N q U h ab Y a4 v)(di:U<=q)(Z:qC N V Y ab r ap fA):∃(cs:ac GE) (a:ay Addr) (n c:Nat),r = .agg ⟨[(N:X),.slice a n c]⟩/\cs.length<=V.length/\u ap q=some (.cells [(N:X),v] false)/\Y<=fA/\lF N q U h (T ap q (.cells [(N:X),.slice a n c] false)) fA cs (.slice a n c):=by
 obtain⟨v2,cs,rfl,g,P,E,L,C,D⟩:=Z;have I:=S.lt;obtain⟨a,n,c,rfl⟩:=g.form;refine⟨cs,a,n,c,rfl,L,(C q J).trans S.g,D,aa,?_,?_,E,?_,J⟩
 ·rw[ar J,C _ I];exact S.m
 ·refine el.of ?_;have:dX (T ap q (.cells [(N:X),.slice a n c] false)) (.slice a n c) b3 3 cs Y fA:=by
   rcases g with g|⟨b,h1,ap,e,M⟩
   ·exact .inl g
   ·exact .inr ⟨b,h1,ap,e,aa⟩
  exact this.rd
 ·intro b M;rw[ar J,C b J];exact S.k b M
def iw(k n src len:Int)(bu:ac Int)(ci:Int)(es:ac hF):Int:=if gF k n src len bu≠0 then gF k n src len bu else if ci≠n then 4 else ih ci es
theorem anL{k:Int}(bs:dg h U eu cY bu)(bK:el h U f7 hW es)(D:es.length<=60\/65536<es.length):
  aD Q s 114 [.agg ⟨[(k:X),(n:X),(src:X),(len:X),eu]⟩,.agg ⟨[(ci:X),f7]⟩] h U (sA (iw k n src len bu ci es) U h):=by
 refine aa7 ?_;obtain⟨a,cap,rfl,a5⟩:=id bs;obtain⟨a2,rv,rfl,og⟩:=id bK;unfold QN;refine aE ?_;have bH:∀{o aU kD},aA U h (T (T (T h U o) (U+1) aU) (U+1+1) kD):=aF
 refine(Jg (bs.F bH J)).mono ?_;rintro r h1 gY ⟨rfl,dv,fa⟩;have j1:=dv U J;rw[ar J,ar J,aR]at j1;have l6:=dv (U+1) J;rw[ar J,aR]at l6;have pb:=dv (U+1+1) J;rw[aR]at pb;have cI:aA U h h1:=aF
 have zero:∀{ab:ae} {Y:Nat} {o:gm} {e:Int},iw k n src len bu ci es=e->aA U h ab->U<=Y->sA (iw k n src len bu ci es) U h (.tuple ⟨[.agg ⟨[.int .i64 0,.int .i64 0,.slice none 0 0,.slice none 0 0,.slice none 0 0]⟩,(e:X)]⟩) (T ab (U+1+1) o) Y:=λ{ab Y o e} bK hk L=>by rw[bK];exact⟨_,rfl,tw.zero,aF,L⟩
 generalize oh:gF k n src len bu=ak at *
 by_cases iy:ak=0
 case neg =>
  have a1:(ak == 0)=false:=aa
  refine cM @a1 @pb ?_;exact zero (by unfold iw;omega) cI J
 subst iy;refine cM @l6 @j1 ?_;refine⟨λfk=>?_,λyX=>?_⟩
 ·refine bf @pb ?_;have fk:ci≠n:=aa
  exact zero (by unfold iw;omega) cI J
 have yX:ci=n:=aa
 have xh:iw k n src len bu ci es=ih ci es:=by unfold iw;omega
 refine(PP (bK.F cI J)).mono ?_;rintro r ap fA ⟨rfl,E,fx⟩;have ey:=cI.trans E J;have xi:=(E U J).trans j1;have P:=(E (U+1) J).trans l6;have A6:=(E (U+1+1) J).trans pb
 by_cases M:ih ci es=0
 case neg =>
  have a1:(ih ci es == 0)=false:=aa
  refine cM @a1 @A6 ?_;exact zero xh ey J
 rw[M]at xh ⊢;have D:=RF M D;obtain⟨N,rfl,dT,sK,iH⟩:=(Fv.1 M).Tq;have V:=((bK.F cI J).F E fx).map sK;rw[<-gW ]at D;generalize sH:es.map ol=a4 at D iH V;have g:es.length=a4.length:=aa
 rw[g]at P V;have mG:lF N (U+1) U h ap fA a4 (.slice a2 a4.length rv):=⟨P,A6,V,iH,ey,J⟩
 rw[xh];have tail:∀{ab:ae} {Y:Nat} {a4:ac GE} {a:ay Addr} {n c:Nat},lF N (U+1) U h ab Y a4 (.slice a n c)->U<=Y->a4.length<=120->sj s (sA 0 U h) (.pointer (some ⟨U+1,0,none⟩)) (.pointer (some ⟨U+1+1,0,none⟩)) ab Y:=λ{ab Y a4 a n c} S aX br=>by have cS:=S.lt;unfold sj;refine bf S.g ?_;refine(au6 S.p dT S.ok br).mono ?_;rintro r cj om ⟨m,rfl,ei,h5,mi⟩;obtain⟨x,y,dA,b2,d2,bg,bU,b1,c1,c2,gd,rfl⟩:=ei.form;have lE:=(h5 _ S.lt).trans S.m;unfold Aj;refine bf @lE ?_;exact⟨_,rfl,ei.F aa J J,λb a1=>by rw[ar J,h5 b J];exact S.k b a1,J⟩
 have plain:∀{ab:ae} {Y:Nat} {a4:ac GE} {a:ay Addr} {n c:Nat},lF N (U+1) U h ab Y a4 (.slice a n c)->U<=Y->a4.length<=120->aD Q s 188 [.agg ⟨[(N:X),.slice a n c]⟩] ab Y λI C Z=>(c7 I).length=2/\af (iW (u C (U+1)) C (U+1) 0 (c7 I)) λxj=>sj s (sA 0 U h) (.pointer (some ⟨U+1,0,none⟩)) (.pointer (some ⟨U+1+1,0,none⟩)) xj Z:=λ{ab Y a4 a n c} S aX br=>by refine(aby S.p J br S.ok).mono ?_;intro r cj om ba;obtain⟨cs,bj,n6,hc,rfl,g,di,L,r5⟩:=S.put J ba;refine bf @di ?_;exact tail r5 J (by have:=tf (p:=λ_=>true) (m:=De) a4;unfold z9 at g;omega)
 have tG:∀{ab:ae} {Y:Nat} {a4:ac GE} {a:ay Addr} {n c:Nat},lF N (U+1) U h ab Y a4 (.slice a n c)->U<=Y->a4.length<=60->aD Q s 181 [.agg ⟨[(N:X),.slice a n c]⟩] ab Y λHv A7 A8=>(c7 Hv).length=2/\af (iW (u A7 (U+1)) A7 (U+1) 0 (c7 Hv)) λrK=>af (z5 (u rK (U+1)) λcs x=>hg (some 2) 0 cs) λTA=>aD Q s 188 [TA] rK A8 λI C Z=>(c7 I).length=2/\af (iW (u C (U+1)) C (U+1) 0 (c7 I)) λxj=>sj s (sA 0 U h) (.pointer (some ⟨U+1,0,none⟩)) (.pointer (some ⟨U+1+1,0,none⟩)) xj Z:=λ{ab Y a4 a n c} S aX br=>by refine(adX S.p J br S.ok).mono ?_;rintro r cj om ⟨ag,_,sP,_,ba⟩;obtain⟨cs,bj,n6,hc,rfl,g,di,L,r5⟩:=S.put J ba;rw[jk]at g;refine bf @di ?_;exact plain r5 J J
 refine cM @P @xi ?_;refine⟨λ_=>?_,λ_=>⟨λ_=>tG mG J D,λ_=>⟨λ_=>plain mG J J,λ_=>tail mG J J⟩⟩⟩;refine(Zj mG.p J J iH).mono ?_;intro r cj om ba;obtain⟨cs,bj,n6,hc,rfl,g,di,L,r5⟩:=mG.put J ba;have xb:=tf (p:=sr) (m:=id) a4;unfold zW at g;refine bf @di ?_;exact tG r5 J J
def nx(k n src len:Int)(bu:ac Int)(ci:Int)(es:ac hF)(lim:Int):Int:=if iw k n src len bu ci es≠0 then iw k n src len bu ci es else if lim<0\/8192<lim then 3 else 0
theorem anM{k g:Int}(L:dg h U eu cY bu)(E:el h U f7 hW es)(D:es.length<=60\/65536<es.length):
  aD Q s 200 [.agg ⟨[(k:X),(n:X),(src:X),(len:X),eu]⟩,.agg ⟨[(ci:X),f7]⟩,(g:X)] h U (c9 (.int .i64 (nx k n src len bu ci es g)) U h):=by
 refine arc ?_;obtain⟨a,cap,rfl,a5⟩:=id L;obtain⟨a2,M,rfl,og⟩:=id E;unfold adA;refine aE ?_;have P:∀{o aU},aA U h (T (T h U o) (U+1) aU):=aF
 refine(anL (L.F P J) (E.F P J) D).mono ?_;rintro r h1 gY ⟨m,rfl,V,dv,I⟩;obtain⟨x,y,dA,b2,d2,bg,bU,b1,c1,c2,gd,rfl⟩:=V.form;have C:∀{o aU},aA U h (T (T h1 gY o) gY aU):=aF
 unfold Aj
 by_cases aq:iw k n src len bu ci es=0
 case neg =>
  have Z:(iw k n src len bu ci es == 0)=false:=aa
  refine bf @Z ?_;exact⟨by unfold nx;grind,C,J⟩
 rw[aq];have e:nx k n src len bu ci es g=if g<0\/8192<g then 3 else 0:=by unfold nx;omega
 refine aE ?_;rw[e];refine⟨λap=>⟨aa,C,J⟩,λap=>⟨λaH=>⟨aa,C,J⟩,λaH=>⟨aa,C,J⟩⟩⟩
def jv(n m:Int):ao:=decide (1<=n/\n<=m)
structure iV where
 k:Int
 n:Int
 src:Int
 len:Int
 bu:ac Int
 ci:Int
 es:ac hF
 R:Int
 C:Int
 M:Int
 lim:Int
 t0:Nat
def gP(x:iV):Int:=if nx x.k x.n x.src x.len x.bu x.ci x.es x.lim≠0 then nx x.k x.n x.src x.len x.bu x.ci x.es x.lim
 else if jv x.R 8=false then 3 else if jv x.C 8=false then 3 else if jv x.M 64=false then 3 else if 8192<x.t0 then 5 else 0
def fM(x:iV)(eu f7 eD:X):ac X:=[(x.k:X),(x.n:X),(x.src:X),(x.len:X),eu,(x.ci:X),f7,(x.R:X),(x.C:X),(x.M:X),(x.lim:X),eD]
structure n3 (h:ae) (U:Nat) (x:iV) (eu f7 eD:X):Prop where
 d:dg h U eu cY x.bu
 e:el h U f7 hW x.es
 c:∃a n,eD = .slice a x.t0 n
 l:x.es.length<=60\/65536<x.es.length
theorem n3.F{h ab:ae}{U Y:Nat}{x:iV}{eu f7 eD:X}(H:n3 h U x eu f7 eD)(C:aA U h ab)(g:U<=Y):n3 ab Y x eu f7 eD:=⟨H.d.F C g,H.e.F C g,H.c,H.l⟩
theorem JA{x:iV}(H:n3 h U x eu f7 eD):aD Q s 121 [.agg ⟨fM x eu f7 eD⟩] h U (c9 (.int .i64 (gP x)) U h):=by
 refine arb ?_;obtain⟨a,cap,rfl,a5⟩:=id H.d;obtain⟨a2,M,rfl,og⟩:=id H.e;obtain⟨a3,V,rfl⟩:=H.c;unfold adz fM;have L:∀{o},aA U h (T h U o):=aF
 refine aE ?_;refine(anM (H.d.F L J) (H.e.F L J) H.l).mono ?_;rintro r h1 gY ⟨rfl,E,P⟩;have g:=E U J;rw[aR]at g;have C:aA U h h1:=aF
 generalize bx:nx x.k x.n x.src x.len x.bu x.ci x.es x.lim=Ie
 by_cases aq:Ie=0
 case neg =>
  have Z:(Ie == 0)=false:=aa
  refine bf @Z ?_;exact⟨by unfold gP;grind,C,J⟩
 subst aq;have e:gP x=if jv x.R 8=false then 3 else if jv x.C 8=false then 3 else if jv x.M 64=false then 3 else if 8192<x.t0 then 5 else 0:=by unfold gP;omega
 rw[e];refine bf @g ?_;refine Oe.mono ?_;rintro r ap I ⟨rfl,D,aP⟩;rw[D,aP];change af (ds .not (.bool (jv x.R 8))) _;cases ei:jv x.R 8 with
 |false =>
  refine bf @g ?_;exact⟨rfl,C,J⟩
 |true =>
 refine bf @g ?_;refine Oe.mono ?_;rintro r ap I ⟨rfl,D,aP⟩;rw[D,aP];change af (ds .not (.bool (jv x.C 8))) _;cases ee:jv x.C 8 with
 |false =>
  refine bf @g ?_;exact⟨rfl,C,J⟩
 |true =>
 refine bf @g ?_;refine Oe.mono ?_;rintro r ap I ⟨rfl,D,aP⟩;rw[D,aP];change af (ds .not (.bool (jv x.M 64))) _;cases i4:jv x.M 64 with
 |false =>
  refine bf @g ?_;exact⟨rfl,C,J⟩
 |true =>
 refine bf @g ?_;exact⟨λcj=>⟨aa,C,J⟩,λcj=>⟨aa,C,J⟩⟩
def yH(x:iV)(Eg:ac cC)(w:Int):Int:=if gP x≠0 then gP x else if 1048576<Eg.length then 5 else if Eg.any (λm=>!wl m)=true then 8 else if ly w 1048576=false then 3 else 0
theorem XN{x:iV}{g:ac cC}{w:Int}{H3:X}(H:n3 h U x eu f7 eD)(bx:dg h U H3 yG g)(xb:g.length<=60\/1048576<g.length):
  aD Q s 161 [.agg ⟨fM x eu f7 eD⟩,H3,(w:X)] h U (c9 (.int .i64 (yH x g w)) U h):=by
 refine am9 ?_;obtain⟨a,cap,rfl,a5⟩:=id bx;unfold abf;have bH:∀{o},aA U h (T h U o):=aF
 obtain⟨a3,E,rfl⟩:=id H.c;obtain⟨az,I,rfl,_⟩:=id H.d;obtain⟨a2,D,rfl,_⟩:=id H.e;generalize bV:fM x (.slice az x.bu.length I) (.slice a2 x.es.length D) (.slice a3 x.t0 E)=aDY at *
 have C:=bV;unfold fM at C;rw[<-C];refine aE ?_;rw[C,<-bV];refine(JA (H.F bH J)).mono ?_;rintro r h1 gY ⟨rfl,dv,V⟩;have L:aA U h h1:=aF
 by_cases aq:gP x=0
 case neg =>
  have Z:(gP x == 0)=false:=aa
  refine bf @Z ?_;exact⟨by unfold yH;grind,L,J⟩
 have e:yH x g w=if 1048576<g.length then 5 else if g.any (λm=>!wl m)=true then 8 else if ly w 1048576=false then 3 else 0:=by unfold yH;omega
 rw[e,aq];refine aE ?_;refine⟨λcj=>⟨aa,L,J⟩,λcj=>?_⟩;rw[if_neg J];refine(anF (bx.F L J) J (λx h U=>ai4)).mono ?_;rintro r ap fA ⟨rfl,M,fx⟩;have P:=L.trans M J;cases dy:g.any (λm=>!wl m)with
 |true =>
  refine aE ?_;exact⟨rfl,P,J⟩
 |false =>
 refine aE ?_;refine E2.mono ?_;rintro r aH b1 ⟨rfl,aW,aP⟩;rw[aW,aP];cases Z:ly w 1048576 with
 |false =>
  refine aE ?_;exact⟨rfl,P,J⟩
 |true =>
  refine aE ?_;exact⟨rfl,P,J⟩
def Dh(x:iV)(r:Int):Int:=if ly r 8192=false then 0 else if gP x≠0 then 0 else 4*(x.R+x.C+4)*(r+2)
theorem akL{x:iV}{w:Int}(H:n3 h U x eu f7 eD):
  aD Q s 75 [.agg ⟨fM x eu f7 eD⟩,(w:X)] h U (c9 (.int .i64 (Dh x w)) U h):=by
 refine ane ?_;have bH:∀{o},aA U h (T h U o):=aF
 obtain⟨a3,E,rfl⟩:=id H.c;obtain⟨az,I,rfl,_⟩:=id H.d;obtain⟨a2,D,rfl,_⟩:=id H.e;unfold abh;have P:fM x (.slice az x.bu.length I) (.slice a2 x.es.length D) (.slice a3 x.t0 E)=_:=rfl;unfold fM at P ⊢;refine aE ?_;refine E2.mono ?_;rintro r aH b1 ⟨rfl,aW,aP⟩;rw[aW,aP];unfold N9;cases M:ly w 8192 with
 |false =>
  refine aE ?_;exact⟨by unfold Dh;grind,bH,J⟩
 |true =>
 have e:Dh x w=if gP x≠0 then 0 else 4*(x.R+x.C+4)*(w+2):=by unfold Dh;grind
 rw[e];refine aE ?_;refine(JA (H.F bH J)).mono ?_;rintro r h1 gY ⟨rfl,V,fa⟩;have g:=V U J;rw[aR]at g;have Z:aA U h h1:=aF
 by_cases C:gP x=0
 case neg =>
  have M:(gP x == 0)=false:=aa
  refine bf @M ?_;exact⟨aa,Z,J⟩
 have L:(1<=x.R/\x.R<=8)/\1<=x.C/\x.C<=8:=by
  unfold gP at C
  split at C
  ·omega
  ·split at C
   ·omega
   ·split at C
    ·omega
    ·rename_i h1 ap aH
     exact⟨of_decide_eq_true (by unfold jv at ap;grind),of_decide_eq_true (by unfold jv at aH;grind)⟩
 have bV:0<=w/\w<=8192:=of_decide_eq_true M;obtain⟨⟨hR1,hR2⟩,hC1,hC2⟩:=L;have m1:0<=(4*(x.R+x.C+4))*(w+2):=Int.mul_nonneg J J;have m2:(4*(x.R+x.C+4))*(w+2)<=80*8194:=Int.mul_le_mul J J J J;have aCK:∀n:Int,-9223372036854775808<=n->n<=9223372036854775807->tq .i64 n=n:=λn C h1=>by rw[nW];exact jo C h1
 rw[C,if_neg (by simp)];refine bf @g ?_;refine⟨?_,Z,J⟩;rw[jo (n:=x.R+x.C) J J,jo  J J,aCK (Int.mul 4 (x.R+x.C+4)) aa aa,jo  J J]
 grind
def v0(s:ao)(K:bZ)(b8 DN:X)(aq:ae)(a0:Nat):Prop:=bt DN (K (ad 3) aq a0) (av aq 11 b8 λb=>cP b λc=>hP c (ad 8192) (K (ad 5) aq a0) (K (ad 0) aq a0))
def abz:cO:=λs ah h U K=>bG ah h U λa b c=>iS 5 b 0 a λe=>iS 2 b 5 a λg=>av b 10 a λj=>aV s 86 [e,g,j] b c λk l m=>ko k (K k l m) (av l 7 a λp=>cv p (ad 1) (v0 s K a (.bool true) l m) (av l 7 a λt=>hP t (ad 8) (v0 s K a (.bool true) l m) (av l 8 a λw=>cv w (ad 1) (v0 s K a (.bool true) l m) (av l 8 a λz=>hP z (ad 8) (v0 s K a (.bool true) l m) (av l 9 a λbA=>cv bA (ad 1) (v0 s K a (.bool true) l m) (av l 9 a λb5=>bE .gtr 3 b5 (ad 64) λbO=>(v0 s K a bO l m)))))))
theorem anN:cQ 24 abz:=cT []
def abA:gj:=λs ah t1 t2 h U K=>bG ah h U λa b c=>bG t1 b c λd e f=>aG 5 e a λg=>aG 2 e d λi=>aV s 103 [g,i] e f λj k l=>af (cu j 0) λm=>af (cu j 1) λn=>bX [(ad 0),(ad 0),aw,aw,aw] k l λo p q=>af (aN p 5 o m) λr=>ko n (K n r q) (cv t2 (ad 0) (K (ad 3) r q) (hP t2 (ad 8192) (K (ad 3) r q) (K (ad 0) r q)))
theorem anO:gw 86 abA:=gz []
def x1(s:ao)(K:bZ)(ca c6:X)(aq:ae)(a0:Nat):Prop:=aG 2 aq ca λa=>aV s 178 [a] aq a0 λb c d=>af (cu b 0) λe=>af (cu b 1) λf=>af (aN c 5 c6 e) λg=>aG 5 g c6 λi=>K (.tuple ⟨[i,f]⟩) g d
def abB:c0:=λs ah t1 h U K=>bG ah h U λa b c=>bG t1 b c λd e f=>bX [(ad 0),(ad 0),aw,aw,aw] e f λg i j=>aG 5 i a λk=>aV s 174 [k] i j λl m n=>ko l (af (cw [(ad 0),(ad 0),aw,aw,aw] []) λp=>af (aN m 5 g p) λq=>aG 5 q g λr=>K (.tuple ⟨[r,l]⟩) q n) (av m 0 d λaS=>av m 1 a λw=>bm .neq 3 aS w (af (cw [(ad 0),(ad 0),aw,aw,aw] []) λy=>af (aN m 5 g y) λz=>aG 5 z g λbz=>K (.tuple ⟨[bz,(ad 4)]⟩) z n) (aG 2 m d λbS=>aV s 92 [bS] m n λbA a9 bM=>ko bA (af (cw [(ad 0),(ad 0),aw,aw,aw] []) λbO=>af (aN a9 5 g bO) λcJ=>aG 5 cJ g λcp=>K (.tuple ⟨[cp,bA]⟩) cJ bM) (av a9 0 a λc3=>bm .eql 40 c3 (ad 1) (aG 2 a9 d λam=>aV s 175 [am] a9 bM λan ek fK=>af (aN ek 2 d an) λfU=>(x1 s K d g fU fK)) (bm .eql 40 c3 (ad 3) (aG 2 a9 d λhp=>aV s 176 [hp] a9 bM λhQ fV jA=>aV s 175 [hQ] fV jA λjB jJ lj=>af (aN jJ 2 d jB) λfj=>(x1 s K d g fj lj)) (bm .eql 40 c3 (ad 5) (aG 2 a9 d λoD=>aV s 177 [oD] a9 bM λbe kK ic=>aV s 176 [be] kK ic λfF bi p6=>aV s 175 [fF] bi p6 λmC jK iF=>af (aN jK 2 d mC) λpa=>(x1 s K d g pa iF)) (x1 s K d g a9 bM))))))
theorem anP:c4 103 abB:=c5 []
def Of:ac (ac Nat):=[[1,2,3]]
def WO(s:ao)(az a2 a3:X)(h:ae)(U:Nat)(N:aQ)(aM:aQ)(R:aQ):Prop:=av h 4 az λb=>cP b λc=>cv a3 c (av h 4 az λf=>et h 1 f a3 λi=>bm .lss 2 i (ad 0) (R [az,(ad 7),a3] h U) (av h 4 az λl=>et h 1 l a3 λn=>bm .gtr 2 n (ad 2147483647) (R [az,(ad 7),a3] h U) (b9 a3 λp=>N [az,a2,p] h U))) (aM [az,a2,a3] h U)
def nV(s:ao)(K:bZ)(b8 y51:X)(aq:ae)(a0:Nat):Prop:=bt y51 (K (ad 3) aq a0) (av aq 4 b8 λb=>cP b λc=>hP c (ad 65536) (K (ad 5) aq a0) (bF (bW Q s Of 174 0) [b8,(ad 0),(ad 0)] aq a0 [(0,λe f g=>K (ad 0) f g)] (λi j k=>K (aT i 1) j k)))
def E3(s:ao)(K:bZ)(b8 DO:X)(aq:ae)(a0:Nat):Prop:=bt DO (K (ad 8) aq a0) (av aq 1 b8 λb=>cv b (ad 0) (nV s K b8 (.bool true) aq a0) (av aq 1 b8 λe=>hP e (ad 4096) (nV s K b8 (.bool true) aq a0) (av aq 0 b8 λi=>aV s 270 [i] aq a0 λj k l=>bt j (av k 2 b8 λn=>cv n (ad 0) (nV s K b8 (.bool true) k l) (av k 2 b8 λq=>av k 1 b8 λt=>bm .geq 3 q t (nV s K b8 (.bool true) k l) (av k 0 b8 λw=>bm .eql 40 w (ad 4) (av k 3 b8 λz=>cv z (ad 0) (nV s K b8 (.bool true) k l) (av k 3 b8 λbA=>bE .gtr 3 bA (ad 8192) λa9=>(nV s K b8 a9 k l))) (nV s K b8 (.bool false) k l)))) (av k 0 b8 λb5=>bm .eql 40 b5 (ad 4) (av k 3 b8 λcp=>cv cp (ad 0) (nV s K b8 (.bool true) k l) (av k 3 b8 λeo=>bE .gtr 3 eo (ad 8192) λam=>(nV s K b8 am k l))) (nV s K b8 (.bool false) k l)))))
def Zl:cO:=λs ah h U K=>bG ah h U λa b c=>av b 0 a λe=>bm .lss 40 e (ad 1) (E3 s K a (.bool true) b c) (av b 0 a λi=>bE .gtr 40 i (ad 5) λj=>(E3 s K a j b c))
theorem ai6{N:aQ}:bW Q s Of 174 0 [az,a2,a3] h U N [(0,aM)] R=WO s az a2 a3 h U N aM R:=by kernel_rfl
theorem akM:cQ 174 Zl:=cT Of
def afC:cO:=λs ah h U K=>bm .eql 40 ah (ad 1) (K (.bool true) h U) (bm .eql 40 ah (ad 2) (K (.bool true) h U) (bE .eql 40 ah (ad 4) λc=>K c h U))
theorem au7:cQ 270 afC:=cT []
def QU:ac (ac Nat):=[[1,2,3,4]]
def abC(s:ao)(az a2 a3 aZ:X)(h:ae)(U:Nat)(N:aQ)(aM:aQ)(R:aQ):Prop:=av h 1 az λb=>cP b λc=>cv aZ c (av h 1 az λf=>gD 3 h 3 f aZ λi=>bX [(ad 0),(ad 0),(ad 0)] h U λj k l=>af (aN k 3 j i) λm=>av m 1 a3 λo=>av m 1 j λq=>av m 0 j λt=>av m 2 j λv=>af (cw [(ad 0),(ad 0),(ad 0)] [(0,1,q),(1,1,t),(2,1,v)]) λw=>dS (eO 1 [(ad 0),(ad 0),(ad 0)] [(0,3,w)]) m l λx y z=>dm (dI (dn 3 y z o x)) λbz bS bA=>bl 1 a3 λa9=>af (aN bS 1 a9 bz) λbM=>b9 aZ λb5=>N [az,a2,a3,b5] bM bA) (aM [az,a2,a3,aZ] h U)
def afD:cO:=λs ah h U K=>bG ah h U λa b c=>bX [(ad 0),aw] b c λd e f=>av e 0 a λi=>af (cw [(ad 0),aw] [(0,1,i)]) λj=>bX [(ad 0),aw] e f λk l m=>af (aN l 2 k j) λn=>bF (bW Q s QU 271 0) [a,d,k,(ad 0)] n m [(0,λo p q=>aG 2 p (aT o 2) λr=>aV s 100 [r] p q λt aS v=>af (aN aS 2 (aT o 1) t) λw=>aG 2 w (aT o 1) λx=>K x w v)] (λ_ _ _=>False)
theorem arM{N:aQ}:bW Q s QU 271 0 [az,a2,a3,aZ] h U N [(0,aM)] R=abC s az a2 a3 aZ h U N aM R:=by kernel_rfl
theorem au8:cQ 271 afD:=cT QU
def afE:cO:=λs ah h U K=>bG ah h U λa b c=>bX [(ad 0),aw] b c λd e f=>aG 2 e a λg=>aV s 271 [g] e f λi j k=>bX [(ad 0),aw] j k λl m n=>af (aN m 2 l i) λo=>av o 1 l λq=>av o 1 a λt=>dm (dI (dn 3 o n q t)) λaS v w=>bl 1 l λx=>af (aN v 1 x aS) λy=>aG 2 y l λz=>aV s 100 [z] y w λbz bS bA=>af (aN bS 2 d bz) λa9=>aG 2 a9 d λbM=>K bM a9 bA
theorem au9:cQ 176 afE:=cT []
def OW:ac (ac Nat):=[[1,2,3,4]]
def XO(s:ao)(az a2 a3 aZ:X)(h:ae)(U:Nat)(N:aQ)(aM:aQ)(R:aQ):Prop:=av h 1 az λb=>cP b λc=>cv aZ c (av h 1 az λf=>fq 3 f aZ λg=>av h 0 g λj=>av h 1 az λl=>fq 3 l aZ λm=>av h 1 m λo=>bm .neq 3 j o (av h 1 a3 λr=>av h 1 az λaS=>gD 3 h 3 aS aZ λw=>dS (eO 1 [(ad 0),(ad 0),(ad 0)] [(0,3,w)]) h U λx y z=>dm (dI (dn 3 y z r x)) λbz bS bA=>z<=bA/\bl 1 a3 λa9=>af (aN bS 1 a9 bz) λbM=>b9 aZ λb5=>N [az,a2,a3,b5] bM bA) (b9 aZ λbO=>N [az,a2,a3,bO] h U)) (aM [az,a2,a3,aZ] h U)
def abD:cO:=λs ah h U K=>bG ah h U λa b c=>bX [(ad 0),aw] b c λd e f=>av e 0 a λi=>af (cw [(ad 0),aw] [(0,1,i)]) λj=>bX [(ad 0),aw] e f λk l m=>af (aN l 2 k j) λn=>bF (bW Q s OW 177 0) [a,d,k,(ad 0)] n m [(0,λo p q=>aG 2 p (aT o 2) λr=>aV s 100 [r] p q λt aS v=>af (aN aS 2 (aT o 1) t) λw=>aG 2 w (aT o 1) λx=>K x w v)] (λ_ _ _=>False)
theorem akN{N:aQ}:bW Q s OW 177 0 [az,a2,a3,aZ] h U N [(0,aM)] R=XO s az a2 a3 aZ h U N aM R:=by kernel_rfl
theorem anQ:cQ 177 abD:=cT OW
def PQ:ac (ac Nat):=[[1,2,3,4]]
def Zm(s:ao)(az a2 a3 aZ:X)(h:ae)(U:Nat)(N:aQ)(aM:aQ)(R:aQ):Prop:=av h 1 az λb=>cP b λc=>cv aZ c (av h 1 a3 λf=>av h 1 az λi=>fq 3 i aZ λj=>av h 0 j λl=>av h 1 az λn=>fq 3 n aZ λo=>av h 1 o λq=>af (cw [(ad 0),(ad 0),(ad 0)] [(0,1,l),(1,1,q),(2,1,(ad 1))]) λr=>dS (eO 1 [(ad 0),(ad 0),(ad 0)] [(0,3,r)]) h U λt aS v=>dm (dI (dn 3 aS v f t)) λw x y=>v<=y/\bl 1 a3 λz=>af (aN x 1 z w) λbz=>b9 aZ λbS=>N [az,a2,a3,bS] bz y) (aM [az,a2,a3,aZ] h U)
def ad0:cO:=λs ah h U K=>bG ah h U λa b c=>bX [(ad 0),aw] b c λd e f=>av e 0 a λi=>af (cw [(ad 0),aw] [(0,1,i)]) λj=>bX [(ad 0),aw] e f λk l m=>af (aN l 2 k j) λn=>bF (bW Q s PQ 175 0) [a,d,k,(ad 0)] n m [(0,λo p q=>aG 2 p (aT o 2) λr=>aV s 100 [r] p q λt aS v=>af (aN aS 2 (aT o 1) t) λw=>aG 2 w (aT o 1) λx=>K x w v)] (λ_ _ _=>False)
theorem anR{N:aQ}:bW Q s PQ 175 0 [az,a2,a3,aZ] h U N [(0,aM)] R=Zm s az a2 a3 aZ h U N aM R:=by kernel_rfl
theorem arN:cQ 175 ad0:=cT PQ
def PR:ac (ac Nat):=[[1,2,5,6,7]]
def Zn(s:ao)(az a2 bI bj a6:X)(h:ae)(U:Nat)(N:aQ)(aM:aQ)(R:aQ):Prop:=av h 1 bI λb=>cP b λc=>cv a6 c (av h 1 bI λf=>fq 3 f a6 λg=>av h 0 g λj=>av h 1 bI λl=>fq 3 l a6 λm=>av h 1 m λo=>av h 1 bI λq=>fq 3 q a6 λr=>av h 2 r λaS=>af (cw [(ad 0),(ad 0),(ad 0)] [(0,1,j),(1,1,o),(2,1,aS)]) λv=>dS (eO 1 [(ad 0),(ad 0),(ad 0)] [(0,3,v)]) h U λw x y=>dm (dI (dn 3 x y bj w)) λz bz bS=>y<=bS/\b9 a6 λbA=>N [az,a2,bI,z,bA] bz bS) (aM [az,a2,bI,bj,a6] h U)
def ad1:cO:=λs ah h U K=>bG ah h U λa b c=>bX [(ad 0),(ad 0),aw,aw,aw] b c λd e f=>aG 2 e a λg=>aV s 92 [g] e f λi j k=>ko i (af (cw [(ad 0),(ad 0),aw,aw,aw] []) λm=>af (aN j 5 d m) λn=>aG 5 n d λo=>K (.tuple ⟨[o,i]⟩) n k) (aG 2 j a λp=>aV s 271 [p] j k λq r t=>bX [(ad 0),aw] r t λaS v w=>af (aN v 2 aS q) λx=>bF (bW Q s PR 178 0) [a,d,aS,aw,(ad 0)] x w [(0,λy z bz=>av z 0 (aT y 0) λbA=>av z 0 (aT y 0) λbM=>aV s 272 [bA,bM,(aT y 3)] z bz λb5 bO cJ=>af (aN bO 5 (aT y 1) b5) λcp=>aG 5 cp (aT y 1) λdk=>K (.tuple ⟨[dk,(ad 0)]⟩) cp cJ)] (λ_ _ _=>False))
theorem anS{N:aQ}:bW Q s PR 178 0 [az,a2,bI,bj,a6] h U N [(0,aM)] R=Zn s az a2 bI bj a6 h U N aM R:=by kernel_rfl
theorem arO:cQ 178 ad1:=cT PR
def FW:ac (ac Nat):=[[0,2,6,7,8],[0,2,6,7,8,9]]
def Zo(s:ao)(aC a2 bj a6 bq cH:X)(h:ae)(U:Nat)(N:aQ)(aP:aQ)(R:aQ):Prop:=bm .leq 3 cH aC (av h 2 a6 λc=>et h 1 c cH λe=>b9 e λf=>fq 1 c cH λg=>af (aN h 1 g f) λi=>b9 cH λj=>N [aC,a2,bj,a6,bq,j] i U) (aP [aC,a2,bj,a6,bq,cH] h U)
def Zp(s:ao)(aC a2 bj a6 bq:X)(h:ae)(U:Nat)(N:aQ)(aM:aQ)(R:aQ):Prop:=cP a2 λa=>cv bq a (av h 3 a6 λd=>fq 3 a2 bq λe=>av h 1 e λg=>dS (eO 1 [(ad 0)] [(0,1,g)]) h U λi j k=>dm (dI (dn 1 j k d i)) λl m n=>k<=n/\bl 3 a6 λo=>af (aN m 1 o l) λp=>av p 4 a6 λr=>fq 3 a2 bq λt=>av p 2 t λv=>dS (eO 1 [(ad 0)] [(0,1,v)]) p n λw x y=>dm (dI (dn 1 x y r w)) λz bz bS=>y<=bS/\bl 4 a6 λbA=>af (aN bz 1 bA z) λa9=>fq 3 a2 bq λbM=>av a9 0 bM λbO=>b9 bO λcJ=>bF (bW Q s FW 272 1) [aC,a2,bj,a6,bq,cJ] a9 bS [(2,λcp dk c3=>b9 (aT cp 4) λeo=>N [(aT cp 0),(aT cp 1),(aT cp 2),(aT cp 3),eo] dk c3)] (λ_ _ _=>False)) (aM [aC,a2,bj,a6,bq] h U)
def ad3:gj:=λs ah t1 t2 h U K=>bX [(ad 0),(ad 0),aw,aw,aw] h U λa b c=>aV s 363 [ah,t1] b c λd e f=>bX [(ad 0),(ad 0),aw,aw,aw] e f λg i j=>af (aN i 5 g d) λk=>bF (bW Q s FW 272 0) [ah,t2,a,g,(ad 0)] k j [(0,λl m n=>aG 5 m (aT l 3) λo=>af (aN m 5 (aT l 2) o) λp=>aG 5 p (aT l 2) λq=>K q p n)] (λ_ _ _=>False)
theorem anT{g:X}{N:aQ}:bW Q s FW 272 1 [aC,a2,bj,a6,bq,g] h U N [(2,aP)] R=Zo s aC a2 bj a6 bq g h U N aP R:=by kernel_rfl
theorem anU{N:aQ}:bW Q s FW 272 0 [aC,a2,bj,a6,bq] h U N [(0,aM)] R=Zp s aC a2 bj a6 bq h U N aM R:=by kernel_rfl
theorem arP:gw 272 ad3:=gz FW
def ad5:c0:=λs ah t1 h U K=>bX [(ad 0),(ad 0),aw,aw,aw] h U λa b c=>b9 ah λd=>dS (tx [(ad 0)] d d) b c λe f g=>af (cw [(ad 0),(ad 0),aw,aw,aw] [(0,1,ah),(1,1,t1),(2,1,e)]) λi=>af (aN f 5 a i) λj=>aG 5 j a λk=>K k j g
theorem arQ:c4 363 ad5:=c5 []
theorem f2:pu Tryz.prog 24=some (some 2):=by kernel_rfl
theorem own:ownKnob Tryz.prog.godebug=none:=by kernel_rfl
theorem abE:laidOutB Tryz.prog=true:=by kernel_rfl
def mB:Field:={ name := "G",type:=24,offset:=0,embedded:=false,tag := "",pkgPath := "",byteOffset:=0 }
def jh:Field:={ name := "C",type:=5,offset:=4,embedded:=false,tag := "",pkgPath := "",byteOffset:=41 }
def If:Field:={ name := "N",type:=3,offset:=0,embedded:=false,tag := "",pkgPath := "",byteOffset:=0 }
def Gf:Field:={ name := "Edges",type:=22,offset:=1,embedded:=false,tag := "",pkgPath := "",byteOffset:=8 }
def afF:Field:={ name := "From",type:=3,offset:=0,embedded:=false,tag := "",pkgPath := "",byteOffset:=0 }
def fTo:Field:={ name := "To",type:=3,offset:=1,embedded:=false,tag := "",pkgPath := "",byteOffset:=8 }
def aBH:Field:={ name := "W",type:=2,offset:=2,embedded:=false,tag := "",pkgPath := "",byteOffset:=16 }
theorem u24:Tryz.prog.underlying 24=some (.struct #[If,Gf]):=by kernel_rfl
theorem u52:Tryz.prog.underlying 124=some (.struct #[afF,fTo,aBH]):=by kernel_rfl
theorem u22:Tryz.prog.underlying 22=some (.slice 124):=by kernel_rfl
theorem aCL:Tryz.prog.underlying 4=some .bool:=by kernel_rfl
theorem n26:Tryz.prog.cellsOf 26=5:=by kernel_rfl
theorem n24:Tryz.prog.cellsOf 24=2:=by kernel_rfl
theorem n52:Tryz.prog.cellsOf 124=3:=by kernel_rfl
theorem LP:Tryz.prog.cellsOf 22=1:=by kernel_rfl
theorem eN:Tryz.prog.cellsOf 5=1:=by kernel_rfl
theorem axx:Tri Tryz.prog 124:=⟨⟨_,afF,fTo,aBH,u52,rfl,rfl,rfl,rfl,rfl,rfl,vF,vF,Bt,cm,cm,c2⟩,n52⟩
section
variable {H:Type} {enc:TypeId × X->H} {w:World} {aO:Nat->ao}
end
theorem anV(C:a<4294967296)(D:b<4294967296):∃c,bin Tryz.prog .eql 272 (.agg ⟨fP a⟩) (.agg ⟨fP b⟩) = .ok (.bool c):=by
 have g:∀n,(Value.agg ⟨fP n⟩).formed Tryz.prog 272=true:=λn=>by simp[Value.formed,K1,K2,fP]
 have:bin Tryz.prog .eql 272 (.agg ⟨fP a⟩) (.agg ⟨fP b⟩)=R.of "compared" (bif Ce Tryz.prog 272 then qF Tryz.prog 272 (.agg ⟨fP a⟩) (.agg ⟨fP b⟩)else none) (λb=>mP b):=rfl;rw[this];unfold qF;rw[aff,agD,g,g];exact⟨yd [.int .i64 0,.int .u64 (a:Int)] [.int .i64 0,.int .u64 (b:Int)],by show R.of "compared" (bif true&&(true&&true&&true&&true)then GY (Tryz.prog.keyLits 8 272 (fP a)) (Tryz.prog.keyLits 8 272 (fP b))else none) (λb=>mP b)=_;rw[aaZ C,aaZ D];rfl⟩
def LQ(r:X)(U:Nat)(h:ae):bZ:=λv ab Y=>v=r/\aA U h ab/\U<=Y
theorem axy:aD Q s 265 [.int .i64 1] h U (λv ab Y=>v = .bool true/\ab=h/\Y=U):=by refine ay6 ?_;unfold ris;refine aE ?_;simp
def oo(x y:GE):ao:=decide (x.f<y.f)||(decide (x.f=y.f)&&decide (x.t<y.t))
theorem abF{x y:GE}:aD Q s 266 [.agg ⟨b3 x⟩,.agg ⟨b3 y⟩] h U (LQ (.bool (oo x y)) U h):=by
 refine auF ?_;have g:∀{o aU},aA U h (T (T h U o) (U+1) aU):=aF
 unfold afi b3;refine aE ?_;refine⟨λh1=>⟨?_,g,J⟩,λh1=>⟨λap=>⟨?_,g,J⟩,λap=>⟨?_,g,J⟩⟩⟩
 ·unfold oo;grind
 ·have C:x.f=y.f:=aa
  unfold oo
  grind
 ·have C:¬x.f=y.f:=aa
  unfold oo
  grind
theorem axz{w:Nat}(D:w<4294967296):aD Q s 267 [(w:X)] h U (LQ (.agg ⟨fP w⟩) U h):=by
 refine ay7 ?_;have C:∀{o aU},aA U h (T (T h U o) U aU):=aF
 have g:IntKind.wrap .u64 (w:Int)=(w:Int):=by
  simp only[IntKind.wrap,IntKind.signed,IntKind.bits]
  grind
 unfold rof;refine bf @g ?_;refine⟨λh1=>absurd h1 J,λ_=>⟨rfl,C,J⟩⟩
theorem ava(D:a<4294967296)(E:b<4294967296):aD Q s 360 [.agg ⟨fP a⟩,.agg ⟨fP b⟩] h U (λv ab Y=>∃c:Int,v = (c:X)/\(c<0↔a<b)/\aA U h ab/\U<=Y):=by
 refine axd ?_;have g:∀{o aU},aA U h (T (T h U o) (U+1) aU):=aF
 unfold agG fP Kf;simp(disch:=omega)only[bk,oH,seval];obtain⟨c,C⟩:=anV D E;unfold fP at C
 by_cases h1:a<b
 ·simp(disch:=omega)only[bk,h1,decide_true,seval];exact λ_=>⟨⟨_,rfl,by simp,g,J⟩,λh=>absurd trivial h⟩
 ·simp(disch:=omega)only[bk,h1,decide_false,C,seval];exact λ_ _=>⟨λ_=>⟨_,rfl,by simp,g,J⟩,λ_=>⟨_,rfl,by simp,g,J⟩⟩
theorem avb(I:a<4294967296)(L:b<4294967296):aD Q s 268 [.int .i64 1,.agg ⟨fP a⟩,.agg ⟨fP b⟩] h U (LQ (.agg ⟨fP (min a b)⟩) U h):=by
 refine axc ?_;unfold agF fP Ke;simp(disch:=omega)only[bk,oH,seval];refine(ava   L I).mono ?_;rintro r h1 gY ⟨c,rfl,P,g,M⟩;have D:=g U J;have C:=g (U+1) J;have E:=g (U+1+1) J;rw[ar J,ar J,aR]at D;rw[ar J,aR]at C;rw[aR]at E;refine gX @D @C @E ?_;refine⟨λh1=>⟨?_,aF,J⟩,λh1=>⟨?_,aF,J⟩⟩
 all_goals grind
theorem akO{w:Nat}(D:w<4294967296):aD Q s 269 [.agg ⟨fP w⟩] h U (LQ (.tuple ⟨[(w:X),.bool true]⟩) U h):=by
 refine am0 ?_;have C:∀{o},aA U h (T h U o):=aF
 have g:IntKind.wrap .i64 (w:Int)=(w:Int):=CS J J;unfold aa6 fP B1;simp(disch:=omega)only[bk,g,oH,seval];refine⟨λh1=>⟨rfl,C,J⟩,λh1=>absurd h1 J⟩
structure t4 {aB:Type} (o dJ:ac aB) (k:Nat):Prop where
 len:dJ.length=o.length+1
 al:∀q,q<k->dJ[q]? = o[q]?
 aj:∀q,k<q->q<=o.length->dJ[q]? = o[q-1]?
theorem t4.init(o:ac aB)(z:aB):t4 o (o++[z]) o.length :=
 ⟨by simp,aa,J⟩
theorem t4.step{x:aB}(h:t4 o dJ (k+1))(D:k+1<=o.length)(g:dJ[k]? = some x):t4 o (dJ.set (k+1) x) k:=by
 refine⟨by rw[List.length_set];exact h.len,λq C=>?_,λq h1 ap=>?_⟩
 ·rw[vP,if_neg J];exact h.al q J
 ·rw[vP]
  by_cases e:k+1=q
  ·subst e;rw[if_pos rfl,if_pos (by rw[h.len];omega),II,<-h.al k J,g]
  ·rw[if_neg e];exact h.aj q J ap
theorem t4.fin(h:t4 o dJ k)(g:k<=o.length)(x:aB):dJ.set k x=o.take k++x::o.drop k:=by
 apply q6;intro q;rw[vP]
 by_cases e:k=q
 ·subst e;rw[if_pos rfl,if_pos (by rw[h.len];omega),zr aa,nU]
  grind
 ·rw[if_neg e]
  by_cases h1:q<k
  ·rw[h.al q h1,uw aa,uy,if_pos h1]
  ·rw[zr aa,nU,show q-min k o.length=(q-k-1)+1 by omega,List.getElem?_cons_succ,ux]
   by_cases ap:q<=o.length
   ·rw[h.aj q J ap];grind
   ·rw[IC (by rw[h.len];omega),IC J]
theorem FX{x y:GE}:oo x y=true↔hN (df x) (df y):=by
 unfold oo hN df
 grind
theorem hN.iD(h:hN x y)(ab:hN y z):hN x z:=by unfold hN at *;omega
theorem arR{x y:GE}(h:oo x y=false)(ab:oo y x=false):Ends (df x) (df y):=by
 have h1:¬hN (df x) (df y):=λe=>by rw[FX.2 e]at h;cases h
 have ap:¬hN (df y) (df x):=λe=>by rw[FX.2 e]at ab;grind
 unfold hN at h1 ap;unfold Ends;omega
structure At (B:ac GE) (e:GE) (k:Nat):Prop where
 le:k<=B.length
 al:∀q x,q<k->B[q]? = some x->oo x e=true
theorem Kh(h:(B.map df).Pairwise hN){j:Nat}{x y:GE}(g:i<j)(E:B[i]? = some x)(D:B[j]? = some y):hN (df x) (df y):=by
 have aj:=(g0.1 E)
 have C:=(g0.1 D)
 obtain⟨aj,rfl⟩:=aj;obtain⟨C,rfl⟩:=C;have:=xL.1 h i j aa aa g;simpa using this
theorem arS(h:jp A (B.map df))(dy:At B e k)(bw:∀x,B[k]? = some x->oo e x=true):jp (A++[df e]) ((B.take k++e::B.drop k).map df):=by
 have E:∀x∈B.take k,hN (df x) (df e):=λx L=>by
  obtain⟨q,I⟩:=vO L;rw[uy]at I
  split at I
  ·rename_i V;exact FX.1 (dy.al q x V I)
  ·cases I
 have C:∀x∈B.drop k,hN (df e) (df x):=λx L=>by
  obtain⟨q,I⟩:=vO L;rw[ux]at I
  by_cases aq:q=0
  ·subst aq;exact FX.1 aa
  ·obtain⟨y,g⟩:=dW (l:=B) (i:=k) aa;exact(FX.1 aa).iD (Kh h.up J g I)
 have P:∀x:du,x∈(B.take k++e::B.drop k).map df↔x∈B.map df\/x=df e:=λx=>by
  conv=>rhs;rw[<-Eu k B]
  grind
 refine⟨?_,h.LK.afz (λz M Z=>?_) P⟩
 ·rw[hr,qj,q4];have D:=h.up;rw[<-Eu k B,hr,q4]at D;refine⟨D.1,List.Pairwise.cons (λy g=>?_) D.2.1,λx L y g=>?_⟩
  ·obtain⟨z,M,rfl⟩:=gO.1 g;exact C z M
  ·rcases hD.1 g with rfl|g
   ·obtain⟨z,M,rfl⟩:=gO.1 L;exact E z M
   ·exact D.2.2 x L y g
 ·obtain⟨y,g,rfl⟩:=gO.1 M;rw[<-Eu k B,hs]at g;rcases g with g|g
  ·exact(E y g).ne Z
  ·exact(C y g).ne Z.symm
theorem arT{z:GE}(h:jp A (B.map df))(L:B[k]? = some z)(bK:Ends (df z) (df e)):jp (A++[df e]) ((B.set k ⟨z.f,z.t,min z.w e.w⟩).map df):=by
 have bd:∀q,(B.set k ⟨z.f,z.t,min z.w e.w⟩)[q]? = if k=q then some ⟨z.f,z.t,min z.w e.w⟩else B[q]?:=aa
 have hzm:df ⟨z.f,z.t,min z.w e.w⟩=pD (df z) (df e):=rfl;have g:∀q x,(B.set k ⟨z.f,z.t,min z.w e.w⟩)[q]? = some x->∃y,B[q]? = some y/\(df x).1=(df y).1/\(df x).2.1=(df y).2.1:=λq x C=>by
  rw[bd]at C
  split at C
  ·rename_i aW;subst aW;cases C;exact⟨z,L,rfl,rfl⟩
  grind
 refine⟨?_,h.LK.afy aa bK λx=>?_⟩
 ·rw[xL];intro i j aj cb V;rw[List.getElem_map,List.getElem_map];have I:i<(B.set k ⟨z.f,z.t,min z.w e.w⟩).length:=aa
  have Z:j<(B.set k ⟨z.f,z.t,min z.w e.w⟩).length:=aa
  obtain⟨y,E,aW,aP⟩:=g i _ (qi I);obtain⟨p4,M,e1',LR⟩:=g j _ (qi Z);have:=Kh h.up V E M;unfold hN at *
  omega
 ·constructor
  ·intro C;obtain⟨y,E,rfl⟩:=gO.1 C;obtain⟨q,D⟩:=vO E;rw[bd]at D
   split at D
   ·grind
   ·rename_i TB
    refine .inl ⟨aa,λP=>?_⟩;have:=bK.trans P.symm;rcases iI k q with h1|h1
    ·exact(Kh h.up h1 L D).ne this
    ·exact(Kh h.up J D L).ne this.symm
  ·rintro(⟨C,bw⟩|rfl)
   ·obtain⟨y,E,rfl⟩:=gO.1 C;obtain⟨q,D⟩:=vO E
    grind
   grind
theorem abG{enc:aB->ac X}(P:∀x,(enc x).length=k)(C:∀x,ef (enc x)=true)(E:0<k){l:ac aB}{o:ay Nat}(g:fu h enc k v l o){M D:Nat}{I:ay Nat}(x:aB)(ap:u h b2=some (.cells cs bL))(Z:(cs.drop M).take k=enc x)(L:(l.length+1)*k<=1000000)(V:∀ab,u ab U=some (.cells (a7 enc (l++[x])) false)->(∀c,c≠U->o≠some c->u ab c=u h c)->K (.slice (some ⟨U,0,some k⟩) (l.length+1) (l.length+1)) ab (U+1)):dm (dI (dn k h U v (.slice (some ⟨b2,M,I⟩) 1 D))) K:=by obtain⟨ab,e,a,b⟩:=g.app P C E ap Z L;rw[e];exact V _ a b
def je(g:GE):GE:=⟨g.f,g.t,0⟩
def pE(B:ac GE):ac Nat:=B.map λg=>g.w.toNat
def xC(h:ae)(al U:Nat)(B:ac GE)(jL os:X):Prop :=
 (B=[]/\jL = .slice none 0 0/\os = .slice none 0 0)\/∃be gx,(0<B.length/\be≠gx)/\al<=be/\be<U/\al<=gx/\gx<U/\jL = .slice (some ⟨be,0,some 3⟩) B.length B.length/\os = .slice (some ⟨gx,0,some 2⟩) B.length B.length /\
  u h be=some (.cells (a7 b3 (B.map je)) false)/\u h gx=some (.cells (a7 fP (pE B)) false)
theorem xC.F(c:xC h al U B jL os)(M:∀b,al<=b->b<U->u ab b=u h b)(I:U<=Y):xC ab al Y B jL os:=by
 rcases c with c|⟨L,C,h1,ap,aH,E,Z,D,g,V,P⟩
 ·exact .inl c
 ·exact .inr ⟨L,C,h1,ap,J,E,J,D,g,aa,aa⟩
theorem xC.hH(c:xC h al U B jL os):∃C g,fu h b3 3 jL (B.map je) C/\fu h fP 2 os (pE B) g/\(∀b,C=some b->al<=b/\b<U/\g≠some b)/\(∀b,g=some b->al<=b/\b<U):=by
 rcases c with⟨rfl,rfl,rfl⟩|⟨L,D,h1,ap,V,M,P,rfl,rfl,I,E⟩
 ·exact⟨none,none,.nil,.nil,aa,aa⟩
 ·refine⟨some L,some D,?_,?_,aa,aa⟩
  ·have:=fu.own  (k:=3) I;rwa[gW]at this
  ·have:=fu.own  (k:=2) E;unfold pE at this ⊢;rwa[gW]at this
theorem xC.form(c:xC h al U B jL os):∃E D,jL = .slice E B.length B.length/\os = .slice D B.length B.length/\(B=[]->E=none)/\(B≠[]->∃C g,C≠g/\al<=C/\C<U/\al<=g/\g<U/\E=some ⟨C,0,some 3⟩/\D=some ⟨g,0,some 2⟩/\u h C=some (.cells (a7 b3 (B.map je)) false)/\u h g=some (.cells (a7 fP (pE B)) false)):=by
 rcases c with⟨rfl,rfl,rfl⟩|⟨C,g,h1,ap,V,L,P,rfl,rfl,M,I⟩
 ·exact⟨none,none,rfl,rfl,aa,λh=>absurd rfl h⟩
 ·exact⟨_,_,rfl,rfl,aa,λ_=>⟨C,g,h1.2,ap,V,L,P,rfl,rfl,M,I⟩⟩
theorem TC{m:ac Nat}{w:Nat}(aj:i<m.length):iW (some (.cells (a7 fP m) false)) h b (i*2) [.int .i64 0,.int .u64 (w:Int)] = .ok (T h b (.cells (a7 fP (m.set i w)) false)):=by show R.of _ (mS (fP w) (a7 fP m) (i*2)) _=_;rw[YL (k:=2) (λ_=>rfl) w aj];rfl
theorem TD{m:ac Nat}{w:Nat}(aj:m[i]? = some w):hg (some 2) (i*2) (a7 fP m) = .ok (.agg ⟨[.int .i64 0,.int .u64 (w:Int)]⟩):=xa  (k:=2) (λ_=>rfl) aj
theorem rdB{m:ac GE}{x:GE}(aj:m[i]? = some x):hg (some 3) (i*3) (a7 b3 m) = .ok (.agg ⟨[(x.f:X),(x.t:X),(x.w:X)]⟩):=xa  (k:=3) (λ_=>rfl) aj
structure yY (a4:ac GE) (N U:Nat) (h:ae) (i:Nat) (B:ac GE) (jL os:X) (ab:ae) (Y:Nat):Prop where
 le:i<=a4.length
 co:xC ab U Y B jL os
 can:jp ((a4.take i).map df) (B.map df)
 ok:∀g∈B,gQ N g
 len:B.length<=i
 F:aA U h ab
 Di:U<=Y
theorem yY.more(c:yY a4 N U h i B jL os ab Y)(C:aA Y ab ap)(g:Y<=fA):yY a4 N U h i B jL os ap fA :=
 ⟨c.le,c.co.F (λb _ ap=>C b ap) g,c.can,c.ok,c.len,c.F.trans C c.Di,hJ c.Di g⟩
def CmJ(a4:ac GE)(v:X)(N U:Nat)(h:ae)(m:Nat)(aJ:ac X)(ab:ae)(Y:Nat):Prop :=
 ∃i B jL os,m=a4.length-i/\aJ=[.int .i64 1,v,.slice none 0 0,.int .i64 0,jL,os,(i:X)]/\yY a4 N U h i B jL os ab Y
def CmF(a4:ac GE)(v:X)(N U:Nat)(h:ae)(i:Nat)(B:ac GE)(jL os:X)(e:GE)(m:Nat)(aJ:ac X)(ab:ae)(Y:Nat):Prop :=
 ∃k,m=B.length-k/\At B e k/\aJ=[.int .i64 1,v,.slice none 0 0,.int .i64 0,jL,os,(i:X),(k:X)]/\yY a4 N U h i B jL os ab Y
theorem azl{l:ac aB}{x:aB}(h:l[k]? = some x):l.set k x=l:=by
 apply q6
 grind
theorem bF.cut{B:oy}{g:ac X}{C:aQ}(D:aQ)(h1:∀g h U,D g h U->C g h U)(ap:∀E,(∀g h U,D g h U->E g h U)->bF B g h U [(i,E)] R):bF B g h U [(i,C)] R:=ap C h1
def azm(a4:ac GE)(v:X)(N U:Nat)(h:ae)(i:Nat)(B:ac GE)(jL os:X)(e:GE)(aJ:ac X)(ab:ae)(Y:Nat):Prop :=
 ∃k,At B e k/\(∀x,B[k]? = some x->oo x e=false)/\aJ=[.int .i64 1,v,.slice none 0 0,.int .i64 0,jL,os,(i:X),(k:X)]/\yY a4 N U h i B jL os ab Y
def ShJ(v:X)(B:ac GE)(i k p be gx:Nat)(H:ae)(aCM:Nat)(m:Nat)(aJ:ac X)(ab:ae)(Y:Nat):Prop :=
 ∃(q:Nat) (dJ:ac GE) (fQ:ac Nat),m=q/\k<=q/\q<=B.length/\t4 (B.map je) dJ q/\t4 (pE B) fQ q/\aJ=[.int .i64 1,v,.slice none 0 0,.int .i64 0,.slice (some ⟨be,0,some 3⟩) (B.length+1) (B.length+1),.slice (some ⟨gx,0,some 2⟩) (B.length+1) (B.length+1),(i:X),(k:X),bb p,(q:X)] /\
  u ab be=some (.cells (a7 b3 dJ) false)/\u ab gx=some (.cells (a7 fP fQ) false)/\(∀c,c≠be->c≠gx->u ab c=u H c)/\Y=aCM
theorem afG{w p:Nat}{H:ae}{D ic cap:Nat}{L:ay Nat}{TE:ac X}{TF:ao}{aBI:aQ}(br:a4.length<=120)(bK:a4[i]? = some e)(iH:gQ N e)(bV:e.w=(w:Int))(mD:yY a4 N U h i B jL os H D)(hat:At B e k)(bw:∀x,B[k]? = some x->oo e x=true)(qM:u H ic=some (.cells (a7 b3 a4++TE) TF))(DP:ic<U)(bn:u H p=some (.cells [.int .i64 0,.int .u64 (w:Int)] false))(Hp:p<D)(oq:U<=p)(SQ:xC H U p B jL os)(dT:∀uq DQ t5 ab Y,yY a4 N U h (i+1) uq DQ t5 ab Y->aBI [.int .i64 1,.slice (some ⟨ic,0,L⟩) a4.length cap,.slice none 0 0,.int .i64 0,DQ,t5,((i+1:Nat):X)] ab Y):
  dm (dI (dn 3 (T H D (.cells [.int .i64 0,.int .i64 0,.int .i64 0] false)) (D+1) jL (.slice (some ⟨D,0,none⟩) 1 1))) λx56 h57 V =>
  dm (dI (dn 2 (T h57 V (.cells [.int .i64 0,.int .u64 0] false)) (V+1) os (.slice (some ⟨V,0,none⟩) 1 1))) λx63 Hw n65 =>
  af (yA x56) λx66=>af (bin Q .sub 3 x66 (.int .i64 1)) λx67 =>
  bF (bW Q s tm 173 2) [.int .i64 1,.slice (some ⟨ic,0,L⟩) a4.length cap,.slice none 0 0,.int .i64 0,x56,x63,(i:X),(k:X),bb p,x67] Hw n65 [(4,λC M n69 =>
   af (f0 (.slice 3) (aT C 1) (aT C 6)) λx83=>af (wq 0 x83) λx84=>af (iO none M x84) λx85=>af (f0 (.slice 3) (aT C 1) (aT C 6)) λx86=>af (wq 1 x86) λx87=>af (iO none M x87) λx88 =>
   af ((qs (oO [(1,1,x88)]) 0 1 (c7 x85) [.int .i64 0,.int .i64 0,.int .i64 0]).bind λl=>.ok (.agg ⟨l⟩)) λx89=>af (f0 (.slice 3) (aT C 4) (aT C 7)) λx90=>af (aN M 3 x90 x89) λh91=>af (iO (some 2) h91 (aT C 8)) λx92=>af (f0 (.slice 2) (aT C 5) (aT C 7)) λx93=>af (aN h91 2 x93 x92) λh94 =>
   Cm s aBI aM R (aT C 0) (aT C 1) (aT C 2) (aT C 3) (aT C 4) (aT C 5) (aT C 6) h94 n69)] (λ_ _ _=>False):=by
 have TG:B.length<=120:=by have:=mD.len;grind
 obtain⟨eV,dQ,bP,g2,iB,fH⟩:=SQ.hH;have bx:(B.map je).length=B.length:=aa
 have au:(pE B).length=B.length:=gW ..;refine abG  (k:=3) (λ_=>rfl) (λ_=>rfl) J (bP.F aa) Ve (aR _ _ _) rfl J (λb0 az a2=>?_);refine abG  (k:=2) (λ_=>rfl) (λ_=>rfl) J (g2.F aa) 0 (aR _ _ _) rfl J (λcj dA b2=>?_);have aM:IntKind.wrap .i64 (((B.length+1:Nat):Int)-1)=(B.length:Int):=by rw[CS J J];omega
 have g8:u cj (D+1)=some (.cells (a7 b3 (B.map je++[Ve])) false):=aa
 rw[bx,au];refine bf @aM ?_;have aBJ:=t4.init (B.map je) Ve;have MK:=t4.init (pE B) 0;rw[bx]at aBJ;rw[au]at MK;refine bF.mk (ShJ (.slice (some ⟨ic,0,L⟩) a4.length cap) B i k p (D+1) (D+1+1+1) cj (D+1+1+1+1)) B.length ⟨B.length,_,_,rfl,hat.le,J,aBJ,MK,rfl,g8,dA,aa,rfl⟩ ?_;rintro q _ d8 _ ⟨_,dJ,P,rfl,TB,hqB,r6,qX,rfl,dz,dO,bD,rfl⟩;rw[aq2];unfold aa3;have hXl:=r6.len;have hYl:=qX.len;rw[bx]at hXl;rw[au]at hYl;have I:∀c,c<U\/c=p->u d8 c=u H c:=aa
 refine aE ?_;refine⟨λh1=>?_,λh1=>?_⟩
 ·obtain⟨q,rfl⟩:∃kG,q=kG+1:=⟨q-1,J⟩
  have aW:IntKind.wrap .i64 (((q+1:Nat):Int)-1)=(q:Int):=by rw[CS J J];omega
  obtain⟨x,aX⟩:=dW (l:=dJ) (i:=q) J;obtain⟨y,cd⟩:=dW (l:=P) (i:=q) J;simp(disch:=omega)only[bk,aW,dz,dO,rdB aX,TD cd,Tr (m:=dJ)  (i:=q+1) J,TC (m:=P)  (i:=q+1) J,seval];refine⟨q,J,q,_,_,rfl,J,J,r6.step J aX,qX.step J cd,rfl,aa,aa,aa,rfl⟩
 ·have TB:q=k:=J
  subst TB;have LS:=(I ic (.inl DP)).trans qM;have DF:=(I p (.inr rfl)).trans bn;have c1:=wz (enc:=b3) (k:=3) (λ_=>rfl) bK (j:=1) J (cs:=TE);rw[show(b3 e)[1]? = some (e.t:X)from rfl]at c1;have lZ:=wz (enc:=b3) (k:=3) (λ_=>rfl) bK (j:=0) J (cs:=TE);rw[show(b3 e)[0]? = some (e.f:X)from rfl,mM]at lZ;have tM:=(g0.1 bK).1;have Ig:IntKind.wrap .i64 ((i:Int)+1)=((i+1:Nat):Int):=cF J;have aCN:iW (some (.cells (a7 b3 dJ) false)) d8 (D+1) (q*3) [(e.f:X),(e.t:X),.int .i64 0] = .ok (T d8 (D+1) (.cells (a7 b3 (dJ.set q (je e))) false)):=Tr (x:=je e) J;unfold Cm;simp(disch:=omega)only[bk,LS,lZ,c1,dz,aCN,DF,dO,TC (m:=P) (w:=w) (i:=q) J,Ig,seval];have E:(B.take q++e::B.drop q).length=B.length+1:=aa
  rw[<-E];refine dT _ _ _ _ _ ⟨J,.inr ⟨D+1,D+1+1+1,J,J,J,J,J,rfl,rfl,?_,?_⟩,?_,λg Z=>?_,by rw[E];have:=mD.len;omega,λc a5=>?_,J⟩
  ·rw[ar J,aR,r6.fin J,hr,qj,EL,EK]
  ·rw[aR,qX.fin J];unfold pE;rw[hr,qj,EL,EK,bV];rfl
  ·rw[hq,bK,hr];exact arS mD.can hat bw
  ·rcases hs.1 Z with Z|Z
   ·exact mD.ok g (Nb Z)
   ·rcases hD.1 Z with rfl|Z
    ·exact iH
    ·exact mD.ok g (List.mem_of_mem_drop Z)
  ·rw[ar J,ar J,I c (.inl a5)];exact mD.F c a5
def NaJ(B:ac GE)(bM DR:ay Addr)(U:Nat)(h:ae)(m:Nat)(aJ:ac X)(ab:ae)(Y:Nat):Prop :=
 ∃j,m=B.length-j/\j<=B.length/\aJ=[.slice none 0 0,.int .i64 0,.slice bM B.length B.length,.slice DR B.length B.length,(j:X)]/\(B≠[]->∃be gx,be≠gx/\U<=be/\be<Y/\U<=gx/\gx<Y/\bM=some ⟨be,0,some 3⟩/\DR=some ⟨gx,0,some 2⟩/\u ab be=some (.cells (a7 b3 (B.take j++(B.drop j).map je)) false)/\u ab gx=some (.cells (a7 fP (pE B)) false))/\aA U h ab/\U<=Y
theorem XP:∀{m:ac GE} {j:Nat} {y:GE} {w:Int},m[j]? = some y->(a7 b3 m).set (j*3+2) (w:X)=a7 b3 (m.set j ⟨y.f,y.t,w⟩)
 | [],j,y,w,h=>by cases h
 |z::m,0,y,w,h=>by cases h;rfl
 |z::m,j+1,y,w,h=>by have g:=XP  (j:=j)  (w:=w) h;show(b3 z++a7 b3 m).set ((j+1)*3+2) _=b3 z++a7 b3 (m.set j _);rw[<-g,show(j+1)*3+2=(j*3+2)+1+1+1 by omega];rfl
theorem arU(aI:el h U v b3 a4)(dT:N<=4096)(br:a4.length<=120)(js:∀g∈a4,gQ N g):
  aD Q s 173 [.int .i64 1,v] h U (λr ab Y=>∃v2 B,r = .tuple ⟨[v2,.int .i64 0]⟩/\dX ab v2 b3 3 B U Y/\jp (a4.map df) (B.map df)/\(∀g∈B,gQ N g)/\B.length<=a4.length/\aA U h ab/\U<=Y):=by
 refine auE ?_;obtain⟨a,cap,rfl,a5⟩:=id aI;unfold afh;refine axy.mono ?_;rintro r aq nx0 ⟨rfl,aW,aP⟩;rw[aW,aP];refine aE ?_;refine bF.mk (CmJ a4 (.slice a a4.length cap) N U h) a4.length ⟨0,[],_,_,J,rfl,⟨J,.inl aa,⟨List.Pairwise.nil,qL.nil⟩,by simp,by simp,aF,J⟩⟩ ?_;rintro _ _ ab Y ⟨i,B,jL,os,rfl,rfl,C⟩;rw[aq3];unfold aa4;refine aE ?_;refine⟨λcS=>?_,λeZ=>?_⟩
 ·obtain⟨e,bK⟩:=dW cS;have Ig:IntKind.wrap .i64 ((i:Int)+1)=((i+1:Nat):Int):=cF J;obtain⟨_,ic,spg,TF,ul,Z,DP,aW,LS⟩:=aI.at bK;cases aW;refine bF.cut (azm a4 (.slice (some ⟨ic,0,spg⟩) a4.length cap) N U h i B jL os e) ?_ (λC' ee=>?_)
  ·rintro _ ap fA ⟨k,V,TH,rfl,C⟩;have agX:=(C.F ic DP).trans LS;have Hx:=js e aa;obtain⟨w,bV⟩:∃w:Nat,e.w=(w:Int):=⟨e.w.toNat,by have:=Hx.2.2.1;omega⟩
   have tP:w<4294967296:=by have:=Hx.2.2.2;omega
   have c2:=wz (enc:=b3) (k:=3) (λ_=>rfl) bK (j:=2) J (cs:=Z);rw[show(b3 e)[2]? = some (e.w:X)from rfl,bV]at c2;have c1:=wz (enc:=b3) (k:=3) (λ_=>rfl) bK (j:=1) J (cs:=Z);rw[show(b3 e)[1]? = some (e.t:X)from rfl]at c1;have lZ:=wz (enc:=b3) (k:=3) (λ_=>rfl) bK (j:=0) J (cs:=Z);rw[show(b3 e)[0]? = some (e.f:X)from rfl,mM]at lZ;have rd:=tZ (enc:=b3) (k:=3) (λ_=>rfl) bK (cs:=Z);refine cM @agX @c2 ?_;refine(axz (w:=w) tP).mono ?_;rintro r aH I ⟨rfl,f1,gg⟩;have sJ:ic<fA:=by have:=C.Di;omega
   have fr:∀{o aU},aA fA ap (T (T aH I o) I aU):=aF
   have LU:=C.more (ap:=T (T aH I (.cells [.int .i64 0,.int .u64 0] false)) I (.cells [.int .i64 0,.int .u64 (w:Int)] false)) (fA:=I+1) fr J;have Sh:u (T (T aH I (.cells [.int .i64 0,.int .u64 0] false)) I (.cells [.int .i64 0,.int .u64 (w:Int)] false)) ic=some (.cells (a7 b3 a4++Z) TF):=(fr ic sJ).trans agX;obtain⟨bM,DR,rfl,rfl,hae,L⟩:=C.co.form;have rd3:hg (some 3) (i*3) (a7 b3 a4++Z) = .ok (.agg ⟨[(e.f:X),(e.t:X),(e.w:X)]⟩):=rd;have TG:B.length<=120:=by have:=C.len;omega
   simp(disch:=omega)only[bk,fP,Sh,rd3,seval];refine⟨λhk=>?_,λhk=>?_⟩
   ·obtain⟨be,gx,h1,P,Lz,bh,b0,rfl,rfl,h8,iG⟩:=L aa;obtain⟨x,aX⟩:=dW hk;have tR:(B.map je)[k]? = some (je x):=aa
    have ls:(pE B)[k]? = some x.w.toNat:=by unfold pE;grind
    have ur:=(f1 be J).trans h8;have i1:=(f1 gx J).trans iG;simp(disch:=omega)only[bk,ur,rdB tR,i1,seval];refine(abF (x:=e) (y:=je x)).mono ?_;rintro r cj om ⟨rfl,D,E⟩;have TI:=LU.more D E;have BC:=D I J;rw[aR]at BC;have qa:=(D gx J).trans ((ar J).trans ((ar J).trans i1));have a1:oo e (je x)=oo e x:=rfl;rw[a1];simp(disch:=omega)only[bk,qa,TD ls,BC,seval];refine⟨E,λbD=>?_,λcK=>?_⟩
    ·have M:=C.ok x aa;refine(avb (a:=x.w.toNat) (b:=w) (by have:=M.2.2.2;omega) tP).mono ?_;rintro r d8 nx7 ⟨rfl,DS,qD⟩;have r7:=(DS gx J).trans qa;unfold Cm;simp(disch:=omega)only[bk,fP,r7,Ig,TC (m:=pE B) (i:=k) (w:=min x.w.toNat w) aa,seval];have cd:je (⟨x.f,x.t,min x.w e.w⟩:GE)=je x:=rfl;refine⟨qD,a4.length-(i+1),J,i+1,B.set k ⟨x.f,x.t,min x.w e.w⟩,_,_,rfl,rfl,⟨J,.inr ⟨be,gx,aa,P,J,bh,J,aa,aa,?_,?_⟩,?_,λg bd=>?_,by rw[List.length_set];have:=C.len;omega,(TI.F.trans DS TI.Di).set J,J⟩⟩
     ·rw[ar h1,DS be J,D be J,ar J,ar J,ur,List.map_set,cd,azl tR]
     ·rw[aR];unfold pE;rw[List.map_set]
      grind
     ·rw[hq,bK,hr];exact arT C.can aX (arR (TH x aX) bD)
     ·rcases List.mem_or_eq_of_mem_set bd with bd|rfl
      ·exact C.ok g bd
      ·have az:=M.2.2;have a2:=Hx.2.2;exact⟨M.1,M.2.1,aa,aa⟩
    ·have azn:∀fD,B[k]? = some fD->oo e fD=true:=λfD tR=>aa
     have gg6:=(D ic J).trans Sh;have azo:I<om:=J
     refine afG br bK Hx bV TI V azn gg6 DP BC azo J (C.co.F (λb _ a1=>by rw[D b J,ar J,ar J,f1 b a1]) gg) (λuq DQ t5 ab Y a5=>⟨a4.length-(i+1),J,i+1,uq,DQ,t5,rfl,rfl,a5⟩)
   ·refine afG br bK Hx bV LU V (λx aX=>absurd (g0.1 aX).1 hk) Sh DP (aR _ _ _) (EE _) (by have:=C.Di;omega) (C.co.F (λb _ a1=>by rw[ar J,ar J,f1 b a1]) gg) (λuq DQ t5 ab Y a5=>⟨a4.length-(i+1),J,i+1,uq,DQ,t5,rfl,rfl,a5⟩)
  ·refine bF.mk (CmF a4 (.slice (some ⟨ic,0,spg⟩) a4.length cap) N U h i B jL os e) B.length ⟨0,J,⟨J,λq x di=>absurd di J⟩,rfl,C⟩ ?_;rintro _ _ ap fA ⟨k,rfl,V,rfl,C⟩;obtain⟨bM,DR,rfl,rfl,hae,L⟩:=C.co.form;rw[aq1];unfold aa2;refine aE ?_;refine⟨λhk=>?_,λhk=>ee _ _ _ ⟨k,V,λx aX=>absurd (g0.1 aX).1 hk,rfl,C⟩⟩;obtain⟨be,gx,h1,P,aH,bh,b0,rfl,rfl,h8,iG⟩:=L (λe=>aa);obtain⟨x,aX⟩:=dW hk;have tR:(B.map je)[k]? = some (je x):=aa
   simp(disch:=omega)only[bk,h8,(C.F ic DP).trans LS,xa (enc:=b3) (k:=3) (λ_=>rfl) tR,tZ (enc:=b3) (k:=3) (λ_=>rfl) bK,seval];refine(abF (x:=je x) (y:=e)).mono ?_;rintro r cj om ⟨rfl,D,E⟩;have a1:oo (je x) e=oo x e:=rfl;rw[a1];have cz:IntKind.wrap .i64 ((k:Int)+1)=((k+1:Nat):Int):=cF (by have:=C.len;omega);refine bf @cz ?_;refine⟨E,λcK=>⟨B.length-(k+1),J,k+1,rfl,⟨hk,λq y di cd=>?_⟩,rfl,C.more D E⟩,λbD=>ee _ _ _ ⟨k,V,λy cd=>aa,rfl,C.more D E⟩⟩
   by_cases aP:q=k
   ·grind
   ·exact V.al q y J cd
 ·have hig:i=a4.length:=by have:=C.le;omega
  subst hig;have agY:=C.can;rw[hB]at agY;obtain⟨bM,DR,rfl,rfl,hae,L⟩:=C.co.form;refine bF.mk (NaJ B bM DR U h) B.length ⟨0,J,J,rfl,λa1=>?_,C.F,C.Di⟩ ?_
  ·obtain⟨be,gx,h1,ap,aH,bh,b0,aW,aP,h8,iG⟩:=L a1;exact⟨be,gx,h1,ap,aH,bh,b0,aW,aP,aa,iG⟩
  rintro _ _ ap fA ⟨j,rfl,cb,rfl,L,dM,fx⟩;rw[aq4];unfold aa5;refine aE ?_;have TG:B.length<=120:=by have:=C.len;omega
  refine⟨λcS=>?_,λeZ=>?_⟩
  ·obtain⟨be,gx,h1,P,aH,bh,b0,rfl,rfl,h8,iG⟩:=L (λe=>aa);obtain⟨x,aX⟩:=dW cS;have M:=C.ok x (k1 aX);obtain⟨w,bV⟩:∃w:Nat,x.w=(w:Int):=⟨x.w.toNat,by have:=M.2.2.1;omega⟩
   have ls:(pE B)[j]? = some w:=by unfold pE;grind
   have ee:(B.take j++(B.drop j).map je)[j]? = some (je x):=aa
   simp(disch:=omega)only[bk,iG,TD ls,seval];refine(akO (w:=w) (by have:=M.2.2.2;omega)).mono ?_;rintro r cj om ⟨rfl,D,E⟩;have Vf:=(D be aH).trans h8;have aCO:IntKind.wrap .i64 ((j:Int)+1)=((j+1:Nat):Int):=cF J;have hCl:(B.take j++(B.drop j).map je).length=B.length:=aa
   have sK:(a7 b3 (B.take j++(B.drop j).map je)).length=B.length*3:=by rw[fX (k:=3) (λ_=>rfl),hCl]
   simp(disch:=omega)only[bk,Vf,aCO,sK,XP ee,seval];refine⟨J,B.length-(j+1),J,j+1,rfl,cS,rfl,λ_=>⟨be,gx,h1,P,J,bh,J,rfl,rfl,?_,?_⟩,λc a5=>?_,J⟩
   ·rw[aR];have:(B.take j++(B.drop j).map je).set j ⟨(je x).f,(je x).t,(w:Int)⟩=B.take (j+1)++(B.drop (j+1)).map je:=by
     have cy:(⟨(je x).f,(je x).t,(w:Int)⟩:GE)=x:=by rw[<-bV];rfl
     rw[cy,List.set_append,if_neg aa,nU,show j-min j B.length=0 by omega];rw[zs cS,qj,List.set_cons_zero,hq,aX,kq];rfl
    grind
   ·rw[ar (kt h1),D gx b0];omega
   ·rw[ar J,D c J];exact dM c a5
  ·have hjb:j=B.length:=J
   subst hjb;refine⟨_,B,rfl,?_,agY,C.ok,C.len,dM,fx⟩
   by_cases a1:B=[]
   ·exact .inl ⟨a1,aa⟩
   obtain⟨be,gx,h1,P,aH,bh,b0,aW,aP,h8,iG⟩:=L a1;rw[hB,List.drop_length,xP,hC]at h8;exact .inr ⟨be,P,aH,by rw[aW],h8⟩
theorem Zq(aI:el h U v b3 a4)(dT:N<=4096)(L:∀g∈a4,gQ N g)(br:a4.length<=120):
  aD Q s 100 [.agg ⟨[(N:X),v]⟩] h U (qC N a4 U h):=by
 refine aq0 ?_;obtain⟨a,cap,rfl,a5⟩:=id aI;unfold adp;refine aE ?_;have h9:∀{eV dQ:gm},aA U h (T (T h U eV) (U+1) dQ):=aF
 refine(arU (aI.F h9 J) dT br L).mono ?_;rintro r h1 gY ⟨v2,cs,rfl,C,I,D,E,V,dx⟩;have P:=(V U J).trans (ar J);have M:=V (U+1) J;rw[aR]at P M;obtain⟨a2,bU,Z,rfl⟩:=C.form;refine cM @P @M ?_;refine⟨_,cs,rfl,?_,I,D,E,aF,J⟩;rcases C with C|⟨b,h1,ap,e,a1⟩
 ·exact .inl C
 ·exact .inr ⟨b,J,ap,e,aa⟩
theorem ad6{p:hF->ao}{q:hF->Prop}(g:∀e,p e=true↔q e){l:ac hF}(h:∀x∈l,¬q x):¬l.any p=true:=aa
theorem Zr(aI:el h U v hW es):
  aD Q s 92 [.agg ⟨[(n:X),v]⟩] h U (c9 (.int .i64 (ih n es)) U h):=by
 refine aqZ ?_;obtain⟨a,cap,rfl,a5⟩:=id aI;have cI:∀{o},aA U h (T h U o):=aF
 have no:∀{e:Int},ih n es=e->∀{ab Y},aA U h ab->U<=Y->c9 (.int .i64 (ih n es)) U h (e:X) ab Y:=λbK _ _ E I=>⟨by rw[bK],E,I⟩
 unfold ado OM;refine aE ?_;refine⟨λh1=>no (by unfold ih;omega) cI J,λh1=>⟨λap=>no (by unfold ih;omega) cI J,λap=>⟨λaH=>no (by unfold ih;omega) cI J,λaH=>?_⟩⟩⟩;have ML:ih n es=if es.any (wM n)=true then 3 else if es.any AE=true then 7 else 0:=by unfold ih;omega
 refine bF.mk (agS (qB n) n es (.slice a es.length cap) (.int .i64 0) U h) es.length ⟨0,J,J,rfl,aa,cI,J,by simp⟩ ?_;rintro _ _ ab Y ⟨i,rfl,aj,rfl,P,E,I,qH⟩;rw[amY];unfold YT;refine bf @P ?_;refine⟨λC=>?_,λeZ=>?_⟩
 ·obtain⟨x,L⟩:=dW C;obtain⟨_,b,aO,bL,c1,cs,V,aW,Z⟩:=aI.at L;cases aW;have M:=k1 L;have hn:∀{o aU},aA U h (T (T ab Y o) Y aU):=aF
  have g:qB n x->∀{o aU},c9 (.int .i64 (ih n es)) U h (.int .i64 3) (T (T ab Y o) Y aU) (Y+1):=λV _ _=>no (by rw[ML,if_pos (uA.2 ⟨x,M,Jy.2 V⟩)]) hn J;simp(disch:=omega)only[bk,(E b V).trans Z,tZ (enc:=hW) (k:=3) (λ_=>rfl) L,hW,P,cF (J:i<1000000000000),seval];refine⟨λh1=>g (by unfold qB;omega),λh1=>⟨λap=>g (by unfold qB;omega),λap=>⟨λaH=>g (by unfold qB;omega),λaH=>⟨λbh=>g (by unfold qB;omega),λbh=>?_⟩⟩⟩⟩;exact⟨_,J,i+1,rfl,C,rfl,aa,hn,J,abw L qH (by unfold qB;omega)⟩
 ·have:i=es.length:=J
  subst this;rw[hB]at qH;rw[if_neg (ad6 (λ_=>Jy) qH)]at ML;refine bF.mk (agS vd n es (.slice a es.length cap) (.int .i64 0) U h) es.length ⟨0,J,J,rfl,P,E,I,by simp⟩ ?_;rintro _ _ ab Y ⟨i,rfl,aj,rfl,P,E,I,D⟩;rw[amZ];unfold YU;refine bf @P ?_;refine⟨λC=>?_,λeZ=>?_⟩
  ·obtain⟨x,L⟩:=dW C;obtain⟨_,b,aO,bL,c1,cs,V,aW,Z⟩:=aI.at L;cases aW;have M:=k1 L;have g:vd x->c9 (.int .i64 (ih n es)) U h (.int .i64 7) ab Y:=λV=>no (by rw[ML,if_pos (uA.2 ⟨x,M,Jz.2 V⟩)]) E J;have bV:=wz (enc:=hW) (k:=3) (λ_=>rfl) L (j:=2) J (cs:=cs);rw[show(hW x)[2]? = some (x.2.2:X)from rfl]at bV;simp(disch:=omega)only[bk,(E b V).trans Z,bV,P,cF (J:i<1000000000000),seval];refine⟨λh1=>g (by unfold vd;omega),λh1=>⟨λap=>g (by unfold vd;omega),λap=>?_⟩⟩;exact⟨_,J,i+1,rfl,C,rfl,P,E,J,abw L D (by unfold vd;omega)⟩
  ·have:i=es.length:=J
   subst this;rw[hB]at D;exact no (by rw[ML,if_neg (ad6 (λ_=>Jz) D)]) E J
theorem arV{k:Int}:aD Q s 270 [(k:X)] h U (λr ab Y=>r = .bool (decide (k=4\/k=1\/k=2))/\ab=h/\Y=U):=by
 refine au7 ?_;unfold afC
 simp(disch:=omega)only[bk,seval]
 grind
def RpJ(cf:Nat)(k n src len:Int)(bu:ac Int)(v:X)(U:Nat)(h:ae)(m:Nat)(aJ:ac X)(ab:ae)(Y:Nat):Prop :=
 ∃i:Nat,m=bu.length-i/\i<=bu.length/\aJ=[bb cf,.int .i64 0,(i:X)]/\u ab cf=some (.cells [(k:X),(n:X),(src:X),(len:X),v] false)/\aA U h ab/\U+1<=Y/\∀x∈bu.take i,sz x=false
theorem ai7{k:Int}(aI:dg h U v cY bu):aD Q s 174 [.agg ⟨[(k:X),(n:X),(src:X),(len:X),v]⟩] h U (c9 (.int .i64 (gF k n src len bu)) U h):=by
 refine akM ?_;obtain⟨a,cap,rfl,a5⟩:=id aI;unfold Zl;have V:∀{o},aA U h (T h U o):=aF
 have no:∀{e:Int},gF k n src len bu=e->∀{ab Y},aA U h ab->U<=Y->c9 (.int .i64 (gF k n src len bu)) U h (e:X) ab Y:=λbK _ _ C P=>⟨by rw[bK],C,P⟩
 have D:(gF k n src len bu=3)->nV s (c9 (.int .i64 (gF k n src len bu)) U h) (bb U) (.bool true) (T h U (.cells [(k:X),(n:X),(src:X),(len:X),.slice a bu.length cap] false)) (U+1):=λe=>by unfold nV;refine aE ?_;exact no e V J
 have d6:(gF k n src len bu=if 65536<bu.length then 5 else if bu.any sz=true then 7 else 0)->nV s (c9 (.int .i64 (gF k n src len bu)) U h) (bb U) (.bool false) (T h U (.cells [(k:X),(n:X),(src:X),(len:X),.slice a bu.length cap] false)) (U+1):=λe=>by
  unfold nV;refine aE ?_;refine⟨λZ=>no J V J,λZ=>?_⟩;rw[if_neg (J:¬65536<bu.length)]at e;refine bF.mk (RpJ U k n src len bu (.slice a bu.length cap) U h) bu.length ⟨0,J,J,rfl,aa,V,J,by simp⟩ ?_;rintro _ _ ab Y ⟨i,rfl,aj,rfl,bd,C,P,L⟩;rw[ai6];unfold WO;refine bf @bd ?_;refine⟨λE=>?_,λeZ=>?_⟩
  ·obtain⟨x,aX⟩:=dW E;obtain⟨_,b,aO,bL,c1,a1,aW,I⟩:=aI.at aX;cases aW;rw[jm]at I;have M:sz x=true->c9 (.int .i64 (gF k n src len bu)) U h (.int .i64 7) ab Y:=λa1=>no aa C J;simp(disch:=omega)only[bk,(C b a1).trans I,j4 aX,bd,cF (J:i<1000000000000),seval];refine⟨λh1=>M (by unfold sz;grind),λh1=>⟨λap=>M (by unfold sz;grind),λap=>?_⟩⟩;exact⟨_,J,i+1,rfl,E,rfl,bd,C,J,QR aX L (by unfold sz;grind)⟩
  ·have:i=bu.length:=J
   subst this;rw[hB]at L;exact no aa C J
 have gv:(k<=0\/5<k)->E3 s (c9 (.int .i64 (gF k n src len bu)) U h) (bb U) (.bool true) (T h U (.cells [(k:X),(n:X),(src:X),(len:X),.slice a bu.length cap] false)) (U+1):=λC=>by unfold E3;refine aE ?_;exact no (by unfold gF;omega) V J
 refine aE ?_;refine⟨λaq=>gv J,λaq=>?_⟩
 by_cases Z:5<k
 ·rw[hf Z];exact gv J
 rw[ht Z];have aM:gF k n src len bu=if ¬(0<=n/\n<=4096)then 3 else if k=4/\¬(0<=len/\len<=8192)then 3 else if(k=4\/k=1\/k=2)/\¬(0<=src/\src<=n-1)then 3 else if 65536<bu.length then 5 else if bu.any sz=true then 7 else 0:=by unfold gF;omega
 unfold E3;refine aE ?_;refine⟨λh1=>D J,λh1=>⟨λap=>D J,λap=>?_⟩⟩;have bw:¬¬(0<=n/\n<=4096):=J
 rw[if_neg bw]at aM;refine arV.mono ?_;rintro r aH b1 ⟨rfl,aW,aP⟩;rw[aW,aP];have g:(((k=4\/k=1\/k=2)/\¬(0<=src/\src<=n-1))->False)->bt (.bool (k == 4)) (bt (.bool (decide (len<0))) (nV s (c9 (.int .i64 (gF k n src len bu)) U h) (bb U) (.bool true) (T h U (.cells [(k:X),(n:X),(src:X),(len:X),.slice a bu.length cap] false)) (U+1)) (nV s (c9 (.int .i64 (gF k n src len bu)) U h) (bb U) (.bool (decide (8192<len))) (T h U (.cells [(k:X),(n:X),(src:X),(len:X),.slice a bu.length cap] false)) (U+1))) (nV s (c9 (.int .i64 (gF k n src len bu)) U h) (bb U) (.bool false) (T h U (.cells [(k:X),(n:X),(src:X),(len:X),.slice a bu.length cap] false)) (U+1)):=λau=>by
  rw[sx];refine⟨λbh=>?_,λbh=>?_⟩
  ·have bh:k=4:=aa
   rw[sx];refine⟨λcj=>D aa,λcj=>?_⟩
   by_cases d8:8192<len
   ·rw[hf d8];exact D J
   ·rw[ht d8];exact d6 aa
  ·exact d6 aa
 by_cases bD:k=4\/k=1\/k=2
 ·rw[hf bD];refine aE ?_;refine⟨λcj=>D J,λcj=>⟨λd8=>D J,λd8=>?_⟩⟩;have:=g J;rw[sx,sx]at this;simpa using this
 ·rw[ht bD];refine aE ?_;have:=g J;rw[sx,sx]at this;simpa using this
theorem arW{l y:ac GE}(V:dX h v b3 3 l al aj)(vq:al<=aj)(I:aj<=U)(cd:el h U v2 b3 y)(jE:(l.length+y.length)*3<=1000000)(M:∀Z ab Y,(∀ap,(∀b,(al<=b/\b<aj\/U<=b/\b<Y)->u ap b=u ab b)->dX ap Z b3 3 (l++y) al Y)->(∀b,(b<al\/aj<=b/\b<U)->u ab b=u h b)->U<=Y->K Z ab Y):dm (dI (dn 3 h U v v2)) K:=by
 obtain⟨a2,c2,rfl,a5⟩:=cd
 by_cases aq:y=[]
 ·subst aq;have ba:∀(K:ac X->R fc),jD h a2 (Nat.mul 0 3) K=K []:=λK=>by
   cases a2 <;> rfl
  have C:dn 3 h U v (.slice a2 ([]:ac GE).length c2) = .ok (.val v h U):=by
   rcases V with⟨rfl,rfl⟩|⟨b,h1,ap,rfl,E⟩
   ·show jD h a2 (Nat.mul 0 3) (λnew=>ge 3 h U none 0 0 0 new)=_;rw[ba];rfl
   ·show jD h a2 (Nat.mul 0 3) (λnew=>ge 3 h U (some ⟨b,0,some 3⟩) l.length l.length 0 new)=_;rw[ba];unfold ge;rw[show Nat.ble (Nat.add l.length 0) l.length=true from zv aa];rfl
  rw[C];exact M v h U (λap k=>by rw[hC];exact V.F aa I) aa J
 ·obtain⟨b2,aO,bL,xd,fH,rfl,bd⟩:=a5 aq;have hyl:0<y.length:=aa
  have L:=fX (enc:=b3) (k:=3) (λ_=>rfl);have P:=fX (enc:=b3) (k:=3) (λ_=>rfl);have g:∀(K:ac X->R fc),jD h (some ⟨b2,0,aO⟩) (Nat.mul y.length 3) K=K (a7 b3 y):=λK=>by rw[show Nat.mul y.length 3=y.length*3 from rfl,sh bd J aa,nr,<-L,IT]
  have aP:(Nat.ble (Nat.mul (Nat.add l.length y.length) 3) 1000000&&Nat.ble (Nat.add l.length y.length) 1000000)=true:=by
   simp only[eA,sd]
   grind
  have aW:Nat.ble (Nat.add l.length y.length) l.length=false:=by
   cases E:Nat.ble (Nat.add l.length y.length) l.length with
   |false=>rfl
   |true=>have:=lJ E;grind
  rcases V with⟨rfl,rfl⟩|⟨b,h1,ap,rfl,E⟩
  ·have C:dn 3 h U (.slice none 0 0) (.slice (some ⟨b2,0,aO⟩) y.length c2) = .ok (.val (.slice (some ⟨U,0,some 3⟩) y.length y.length) (T h U (.cells (a7 b3 y) false)) (U+1)):=by show jD h (some ⟨b2,0,aO⟩) (Nat.mul y.length 3) (λnew=>ge 3 h U none 0 0 y.length new)=_;rw[g];unfold ge;rw[show Nat.ble (Nat.add 0 y.length) 0=false from aW,show(Nat.ble (Nat.mul (Nat.add 0 y.length) 3) 1000000&&Nat.ble (Nat.add 0 y.length) 1000000)=true from aP];show pv h U 3 (a7 b3 y) (Nat.add 0 y.length)=_;rw[show Nat.add 0 y.length=y.length from iU _];exact po  J
   rw[C];exact M _ _ _ (λap k=>.inr ⟨U,J,J,rfl,aa⟩) aa J
  ·have C:dn 3 h U (.slice (some ⟨b,0,some 3⟩) l.length l.length) (.slice (some ⟨b2,0,aO⟩) y.length c2) = .ok (.val (.slice (some ⟨U,0,some 3⟩) (l.length+y.length) (l.length+y.length)) (T (wB h b) U (.cells (a7 b3 (l++y)) false)) (U+1)):=by
    show jD h (some ⟨b2,0,aO⟩) (Nat.mul y.length 3) (λnew=>ge 3 h U (some ⟨b,0,some 3⟩) l.length l.length y.length new)=_;rw[g];unfold ge;rw[aW,aP];show pw h U 3 (some ⟨b,0,some 3⟩) l.length l.length (l.length+y.length) (a7 b3 y)=_;unfold pw;simp only[uE E];have D:mT (Nat.mul l.length 3) (mO (a7 b3 l) 0)=some (a7 b3 l):=by
     rw[rc,nr,qn,if_pos aa]
     grind
    rw[D];have cy:(!false&&Nat.beq 0 0&&Nat.beq (jq (a7 b3 l)) (Nat.mul l.length 3)&&Nat.beq 3 3&&Nat.beq l.length l.length&&ef (a7 b3 y))=true:=by rw[nX,P,NN];simp
    show(bif _ then _ else _)=_;rw[cy,j5,OV];exact po (s:=3) J
   rw[C];exact M _ _ _ (λap k=>.inr ⟨U,J,J,aa,aa⟩) (λc a5=>by rw[ar J,rI,if_neg J]) J
def pS(p:GE->ao)(m:GE->GE)(a4:ac GE)(N:Nat)(v:X)(U:Nat)(h:ae)(q:Nat)(aJ:ac X)(ab:ae)(Y:Nat):Prop :=
 ∃(i:Nat) (o:X),q=a4.length-i/\i<=a4.length/\aJ=[bb U,.pointer (some ⟨U+1,0,none⟩),.pointer (some ⟨U+1+1,0,none⟩),(i:X)]/\u ab U=some (.cells [(N:X),v] false)/\u ab (U+1)=some (.cells [.int .i64 0,.slice none 0 0] false) /\
  u ab (U+1+1)=some (.cells [(N:X),o] false)/\dX ab o b3 3 (((a4.take i).filter p).map m) (U+1+1+1) Y/\aA U h ab/\U+1+1+1<=Y
theorem pS.aBK{m:GE->GE}(g:a4[i]? = some e):((a4.take (i+1)).filter p).map m=((a4.take i).filter p).map m++(if p e then[m e]else[]):=by
 rw[hq,g,s4,hr]
 grind
theorem pS.put{m:GE->GE}{o:X}(Z:a4[i]? = some e)(bn:p e=true)(br:a4.length<=120)(ch:u h1 U=some (.cells [(N:X),v] false))(bP:u h1 (U+1)=some (.cells [.int .i64 0,.slice none 0 0] false))(g2:u h1 (U+1+1)=some (.cells [(N:X),o] false))(S:dX h1 o b3 3 (((a4.take i).filter p).map m) (U+1+1+1) gY)(hk:aA U h h1)(dx:U+1+1+1<=gY)(ap:ae)(P:u ap b2=some (.cells (b3 (m e)) false))(L:∀b,b<gY->u ap b=u h1 b)(C:gY<=fA)(hm:∀g E,(∀b,b<U+1+1+1->u E b=u h1 b)->(∀M,M=T E (U+1+1) (.cells [(N:X),g] false)->pS p m a4 N v U h (a4.length-(i+1)) [bb U,.pointer (some ⟨U+1,0,none⟩),.pointer (some ⟨U+1+1,0,none⟩),((i+1:Nat):X)] M (fA+1))->(∃a n c,g = .slice a n c)->K g E (fA+1)):
  dm (dI (dn 3 ap fA o (.slice (some ⟨b2,0,some 3⟩) 1 1))) K:=by
 have I:=(g0.1 Z).1;refine me  (k:=3)  (λ_=>rfl) (λ_=>rfl) J (S.F aa C) J (m e) P rfl aa λg E D V=>?_;refine hm g E aa (λM hA=>?_) D.form;subst hA;refine⟨i+1,g,rfl,I,rfl,?_,?_,aa,?_,λc a5=>?_,J⟩
 ·grind
 ·grind
 ·rw[pS.aBK Z,bn];exact D.F aa J
 ·rw[ar J,V _ J,L _ J];exact hk c a5
theorem pS.fin{m:GE->GE}{o:X}(dT:N<=4096)(br:a4.length<=120)(P:∀g∈(a4.filter p).map m,gQ N g)(bP:u h1 (U+1)=some (.cells [.int .i64 0,.slice none 0 0] false))(S:dX h1 o b3 3 ((a4.filter p).map m) (U+1+1+1) gY)(hk:aA U h h1)(dx:U+1+1+1<=gY):
  aD Q s 100 [.agg ⟨[(N:X),o]⟩] h1 gY λI D TJ=>(c7 I).length=2/\af (iW (u D (U+1)) D (U+1) 0 (c7 I)) λM=>af (z5 (u M (U+1)) λcs x=>hg (some 2) 0 cs) λx52=>qC N ((a4.filter p).map m) U h x52 M TJ:=by
 have xb:((a4.filter p).map m).length<=a4.length:=aa
 refine(Zq (el.of S.rd) dT P J).mono ?_;rintro r ap fA ⟨v2,cs,rfl,C,E,L,V,Z,fx⟩;obtain⟨a3,b1,cm,rfl⟩:=C.form;have A5:=(Z (U+1) J).trans bP;refine bf @A5 ?_;refine⟨_,cs,rfl,?_,E,L,V,aF,J⟩;rcases C with C|⟨b,h1,ap,e,a1⟩
 ·exact .inl C
 ·exact .inr ⟨b,J,ap,e,aa⟩
theorem K3(g:a4[i]? = some e):(a7 b3 a4++cs)[i*3]? = some (e.f:X)/\(a7 b3 a4++cs)[i*3+1]? = some (e.t:X)/\(a7 b3 a4++cs)[i*3+2]? = some (e.w:X):=
 ⟨wz  (k:=3) (λ_=>rfl) g (j:=0) J,wz  (k:=3) (λ_=>rfl) g  J,wz  (k:=3) (λ_=>rfl) g  J⟩
theorem abH(aI:el h U v b3 a4)(dT:N<=4096)(br:a4.length<=120)(E:∀g∈a4,gQ N g):
  aD Q s 271 [.agg ⟨[(N:X),v]⟩] h U (qC N (Ai a4) U h):=by
 refine au8 ?_;obtain⟨a,cap,rfl,a5⟩:=id aI;unfold afD;refine aE ?_;refine bF.mk (pS (λ_=>true) rn a4 N (.slice a a4.length cap) U h) a4.length ⟨0,_,rfl,J,rfl,aa,aa,aa,.inl ⟨rfl,rfl⟩,aF,J⟩ ?_;rintro q _ h1 gY ⟨i,o,rfl,aj,rfl,ch,bP,D,S,V,C⟩;obtain⟨bI,eN,p9,rfl⟩:=S.form;rw[arM];unfold abC;refine bf @ch ?_;refine⟨λL=>?_,λeZ=>?_⟩
 ·obtain⟨e,M⟩:=dW L;obtain⟨_,b,aO,bL,c1,cs,a1,aW,bd⟩:=aI.at M;cases aW;have Z:hg (some 3) (i*3) (a7 b3 a4++cs) = .ok (.agg ⟨[(e.f:X),(e.t:X),(e.w:X)]⟩):=tZ  (k:=3) (λ_=>rfl) M;simp(disch:=omega)only[bk,(V b a1).trans bd,Z,D,seval];refine pS.put M rfl br ch bP D S V C _ (aR _ _ _) aa J λr3 b0 e7 o9 bD=>?_;obtain⟨bj,n6,hc,rfl⟩:=bD;have I:=(e7 (U+1+1) J).trans D;refine cM @I (cF (J:i<1000000000000)) ?_;exact⟨_,J,o9 _ rfl⟩
 ·have P:i=a4.length:=J
  subst P;rw[hB]at S;refine bf @D ?_;exact pS.fin dT br (Zi E) bP S V C
theorem akP(aI:el h U v b3 a4)(dT:N<=4096)(br:a4.length<=120)(L:∀g∈a4,gQ N g):
  aD Q s 177 [.agg ⟨[(N:X),v]⟩] h U (qC N (zW a4) U h):=by
 refine anQ ?_;obtain⟨a,cap,rfl,a5⟩:=id aI;unfold abD;refine aE ?_;refine bF.mk (pS sr id a4 N (.slice a a4.length cap) U h) a4.length ⟨0,_,rfl,J,rfl,aa,aa,aa,.inl ⟨rfl,rfl⟩,aF,J⟩ ?_;rintro q _ h1 gY ⟨i,o,rfl,aj,rfl,ch,Z,E,S,I,C⟩;obtain⟨bI,eN,p9,rfl⟩:=S.form;rw[akN];unfold XO;refine bf @ch ?_;refine⟨λP=>?_,λeZ=>?_⟩
 ·obtain⟨e,D⟩:=dW P;obtain⟨_,b,aO,bL,c1,cs,a1,aW,bd⟩:=aI.at D;cases aW;have rH:hg (some 3) (i*3) (a7 b3 a4++cs) = .ok (.agg ⟨[(e.f:X),(e.t:X),(e.w:X)]⟩):=tZ  (k:=3) (λ_=>rfl) D;obtain⟨fC,d6,gV⟩:=K3 (cs:=cs) D;simp(disch:=omega)only[bk,(I b a1).trans bd,rH,fC,d6,E,seval];refine⟨λfk=>?_,λyX=>?_⟩
  ·have bn:sr e=true:=by unfold sr;grind
   refine pS.put D bn br ch Z E S I C _ (aR _ _ _) aa J λr3 b0 e7 o9 bD=>?_;obtain⟨bj,n6,hc,rfl⟩:=bD;have M:=(e7 (U+1+1) J).trans E;refine cM @M (cF (J:i<1000000000000)) ?_;exact⟨J,_,J,o9 _ rfl⟩
  ·have bn:sr e=false:=by unfold sr;grind
   refine⟨a4.length-(i+1),J,i+1,_,rfl,J,by rw[cF J],ch,Z,E,?_,I,C⟩;rw[pS.aBK D,bn];simp only[np,ff,hC];exact S
 ·have V:i=a4.length:=J
  subst V;rw[hB]at S;refine bf @E ?_;exact pS.fin dT br (WN L) Z S I C
theorem anW(aI:el h U v b3 a4)(dT:N<=4096)(br:a4.length<=120)(E:∀g∈a4,gQ N g):
  aD Q s 175 [.agg ⟨[(N:X),v]⟩] h U (qC N (z9 a4) U h):=by
 refine arN ?_;obtain⟨a,cap,rfl,a5⟩:=id aI;unfold ad0;refine aE ?_;refine bF.mk (pS (λ_=>true) De a4 N (.slice a a4.length cap) U h) a4.length ⟨0,_,rfl,J,rfl,aa,aa,aa,.inl ⟨rfl,rfl⟩,aF,J⟩ ?_;rintro q _ h1 gY ⟨i,o,rfl,aj,rfl,ch,bP,D,S,V,C⟩;obtain⟨bI,eN,p9,rfl⟩:=S.form;rw[anR];unfold Zm;refine bf @ch ?_;refine⟨λL=>?_,λeZ=>?_⟩
 ·obtain⟨e,M⟩:=dW L;obtain⟨_,b,aO,bL,c1,cs,a1,aW,bd⟩:=aI.at M;cases aW;obtain⟨fC,d6,gV⟩:=K3 (cs:=cs) M;simp(disch:=omega)only[bk,(V b a1).trans bd,fC,d6,D,seval];refine pS.put M rfl br ch bP D S V C _ (aR _ _ _) aa J λr3 b0 Z o9 bD=>?_;obtain⟨bj,n6,hc,rfl⟩:=bD;have I:=(Z (U+1+1) J).trans D;refine cM @I (cF (J:i<1000000000000)) ?_;exact⟨J,_,J,o9 _ rfl⟩
 ·have P:i=a4.length:=J
  subst P;rw[hB]at S;refine bf @D ?_;exact pS.fin dT br (XL E) bP S V C
theorem arX(aI:el h U v b3 a4)(dT:N<=4096)(br:a4.length<=60)(E:∀g∈a4,gQ N g):
  aD Q s 176 [.agg ⟨[(N:X),v]⟩] h U (λr ab Y=>∃ag,jp ((Ai a4).map df) (ag.map df)/\ag.length<=a4.length/\(∀g∈ag,gQ N g)/\qC N (ag++a4) U h r ab Y):=by
 refine au9 ?_;obtain⟨a,cap,rfl,a5⟩:=id aI;unfold afE;have bH:∀{o aU},aA U h (T (T h U o) (U+1) aU):=aF
 refine aE ?_;refine(abH (aI.F bH J) dT J E).mono ?_;rintro r h1 gY ⟨v1,ag,rfl,Z,Hq,D,sP,dv,fa⟩;have Df:ag.length<=a4.length:=hJ sP (tf a4);have ch:=dv U J;rw[ar J,aR]at ch;have dO:=dv (U+1) J;rw[aR]at dO;obtain⟨a3,b1,cm,rfl⟩:=Z.form;have cI:aA U h h1:=aF
 have M:∀g∈ag++a4,gQ N g:=λg L=>by
  rcases hs.1 L with L|L
  ·exact D g L
  ·exact E g L
 refine bf @ch ?_;have nm:∀{o aU},aA gY h1 (T (T h1 gY o) gY aU):=aF
 refine arW  (Z.F aa J) J (vT _) ((aI.F cI J).F nm J) J λr3 b0 nx5 aBL e7 ny=>?_;obtain⟨bI,eN,p9,rfl⟩:=(aBL b0 aa).form;have lE:=e7 gY J;rw[aR]at lE;have P:=e7 (U+1) J;rw[ar J,ar J,dO]at P;refine bf @lE ?_;refine(Zq (el.of (aBL _ aa).rd) dT M aa).mono ?_;rintro r cj om ⟨zj,cs,rfl,C,V,Sg,lf,h5,mi⟩;obtain⟨a6,n7,i3,rfl⟩:=C.form;have I:=h5 (U+1) J;rw[ar J,P]at I;refine bf @I ?_;refine⟨ag,Hq,Df,D,_,cs,rfl,?_,V,Sg,lf,aF,J⟩;rcases C with C|⟨b,h1,ap,e,a1⟩
 ·exact .inl C
 ·exact .inr ⟨b,J,ap,e,aa⟩
theorem anX(C:N<=4096):aD Q s 363 [(N:X),(N:X)] h U (λr ab Y=>r = .agg ⟨[(N:X),(N:X),.slice (some ⟨U+1,0,none⟩) (N+1) (N+1),.slice none 0 0,.slice none 0 0]⟩/\u ab (U+1)=some (.cells (hw (List.replicate (N+1) 0)) false)/\aA U h ab/\Y=U+1+1):=by
 refine arQ ?_;unfold ad5;have g:List.replicate (N+1) (Value.int .i64 0)=hw (List.replicate (N+1) 0):=by simp[hw]
 refine cM (cF (J:N<1000000000000)) @g ?_;exact aF
def azp(N cf eX ie al:Nat)(Bz:X)(ag:ac GE)(aq:ae)(m:Nat)(aJ:ac X)(ab:ae)(Y:Nat):Prop :=
 ∃(i:Nat) (S:ac Int) (eD lB:X),m=ag.length-i/\i<=ag.length/\aJ=[(N:X),Bz,bb cf,bb eX,(i:X)] /\
  u ab eX=some (.cells [(N:X),(N:X),.slice (some ⟨ie,0,none⟩) (N+1) (N+1),eD,lB] false)/\u ab ie=some (.cells (hw S) false)/\S.length=N+1/\(∀x∈S,0<=x/\x<=(i:Int)) /\
  wN ab eD lB ((ag.take i).map λe=>(e.t:Int)) ((ag.take i).map GE.w) al Y/\(∀c,c<al->c≠eX->c≠ie->u ab c=u aq c)/\al<=Y
def azq(N cf eX ie i f:Nat)(Bz:X)(aq:ae)(U:Nat)(m:Nat)(aJ:ac X)(ab:ae)(Y:Nat):Prop :=
 ∃(k:Nat) (S:ac Int),m=N+1-k/\f+1<=k/\k<=N+1/\aJ=[(N:X),Bz,bb cf,bb eX,(i:X),(k:X)] /\
  u ab ie=some (.cells (hw S) false)/\S.length=N+1/\(∀(j:Nat) (x:Int),S[j]? = some x->0<=x/\(x<=(i:Int)\/j<k/\x<=(i:Int)+1))/\(∀c,c≠ie->u ab c=u aq c)/\Y=U
theorem anY(aI:el h U v b3 ag)(dT:N<=4096)(br:ag.length<=120)(js:∀g∈ag,gQ N g):
  aD Q s 272 [(N:X),(N:X),v] h U (adY U h):=by
 refine arP ?_;obtain⟨a,cap,rfl,a5⟩:=id aI;unfold ad3;refine aE ?_;refine(anX dT).mono ?_;rintro r h1 _ ⟨rfl,iB,D,rfl⟩;have ch:=D U J;rw[aR]at ch;refine aE ?_;refine bF.mk (azp N U (U+1+1+1) (U+1+1) (U+1+1+1+1) (.slice a ag.length cap) ag h1) ag.length ⟨0,List.replicate (N+1) 0,_,_,rfl,J,rfl,aa,aa,by simp,aa,.inl ⟨rfl,rfl,rfl,rfl⟩,aa,J⟩ ?_;rintro m _ ap fA ⟨i,S,eD,lB,rfl,aj,rfl,mI,ho,P,hSb,C,bD,dx⟩;obtain⟨eV,dQ,oE,xA,xB,Ic⟩:=C.hH;obtain⟨az,bg,c1,a2,bU,c2,rfl,rfl⟩:=C.form;rw[anU];unfold Zp;refine aE ?_;refine⟨λcS=>?_,λeZ=>?_⟩
 ·obtain⟨e,bK⟩:=dW cS;have Tv:=js e aa;have Tw:e.f<N:=Tv.1;obtain⟨_,b,aO,bL,dN,cs,a1,aW,bd⟩:=aI.at bK;cases aW;have kh:=(bD b J J J).trans ((D b J).trans ((ar J).trans bd));obtain⟨fC,d6,gV⟩:=K3 (cs:=cs) bK;have lf:((ag.take i).map λe=>(e.t:Int)).length=i:=aa
  have Lj:((ag.take i).map GE.w).length=i:=aa
  refine gX @kh @d6 @mI ?_;refine ti (oE.F aa) (aR _ _ _) J λaH yV w4=>?_;have Hr:u aH (U+1+1+1)=some (.cells [(N:X),(N:X),.slice (some ⟨U+1+1,0,none⟩) (N+1) (N+1),.slice az bg c1,.slice a2 bU c2] false):=aa
  have Hs:u aH b=some (.cells (a7 b3 ag++cs) bL):=aa
  refine⟨J,?_⟩;refine gX @Hr @Hs @gV ?_;refine ti (xA.F λc a5=>?_) (aR _ _ _) J λbh Tx xg=>?_
  ·grind
  have Ht:u bh (U+1+1+1)=some (.cells [(N:X),(N:X),.slice (some ⟨U+1+1,0,none⟩) (N+1) (N+1),.slice (some ⟨fA+1,0,some 1⟩) (((ag.take i).map λe=>(e.t:Int)).length+1) (((ag.take i).map λe=>(e.t:Int)).length+1),.slice a2 bU c2] false):=aa
  have ge4:u bh b=some (.cells (a7 b3 ag++cs) bL):=aa
  refine⟨J,?_⟩;refine gX @Ht @ge4 @fC ?_;have mq:ag.take (i+1)=ag.take i++[e]:=by rw[hq,bK];rfl
  have LB:IntKind.wrap .i64 ((e.f:Int)+1)=((e.f+1:Nat):Int):=cF J;rw[LB];generalize fp:T bh (U+1+1+1) _=H;have ut:u H (U+1+1+1)=some (.cells [(N:X),(N:X),.slice (some ⟨U+1+1,0,none⟩) (N+1) (N+1),.slice (some ⟨fA+1,0,some 1⟩) (((ag.take i).map λe=>(e.t:Int)).length+1) (((ag.take i).map λe=>(e.t:Int)).length+1),.slice (some ⟨fA+1+1+1,0,some 1⟩) (((ag.take i).map GE.w).length+1) (((ag.take i).map GE.w).length+1)] false):=aa
  have aCP:∀c,c≠U+1+1+1->u H c=u bh c:=λc a5=>aa
  refine bF.mk (azq N U (U+1+1+1) (U+1+1) i e.f (.slice (some ⟨b,0,aO⟩) ag.length cap) H (fA+1+1+1+1)) (N+1-(e.f+1)) ⟨e.f+1,S,rfl,J,J,rfl,aa,P,λj x aX=>by have:=hSb x (k1 aX);omega,λ_ _=>rfl,rfl⟩ ?_;rintro m _ b0 _ ⟨k,gh,rfl,aBc,dM,rfl,V,Z,M,E,rfl⟩;rw[anT];unfold Zo;have I:=(E (U+1+1+1) J).trans ut
  by_cases L:k<=N
  ·obtain⟨x,aX⟩:=dW (l:=gh) (i:=k) J;have LO:=M _ x aX;have hwx:IntKind.wrap .i64 (x+1)=x+1:=jo J J;simp(disch:=omega)only[bk,show(k:Int)<=(N:Int) by omega,L,I,V,cF (J:k<1000000000000),j4 aX,hwx,seval];refine⟨λ_=>⟨J,?_⟩,λh=>absurd h J⟩;refine⟨N+1-(k+1),J,k+1,gh.set k (x+1),rfl,J,J,rfl,aR _ _ _,aa,λj z dc=>?_,λc aH=>aa,rfl⟩;rw[vP]at dc
   split at dc
   all_goals grind
  ·have sD:k=N+1:=J
   subst sD;simp(disch:=omega)only[bk,show ¬((N+1:Nat):Int)<=(N:Int) by omega,L,seval];refine⟨λh=>absurd h J,λ_=>?_⟩;refine⟨ag.length-(i+1),J,i+1,gh,_,_,rfl,J,by rw[cF J],I,V,Z,λz dc=>?_,.inr ⟨fA+1,fA+1+1+1,J,J,J,J,J,?_,?_,?_,?_⟩,λc h1 ap aH=>?_,J⟩
   ·obtain⟨j,cb⟩:=vO dc
    grind
   ·grind
   ·grind
   ·rw[E _ J,aCP _ J,xg _ J (λe=>aa),ar J,ar J,yV,mq,hr];rfl
   ·grind
   grind
 ·obtain⟨BA,BB⟩:=C.gC;have xc:i=ag.length:=J
  subst xc;rw[hB]at BA BB;have j1:=(bD U J J J).trans ch;refine cM @mI @j1 ?_;refine⟨⟨_,_,_,_,_,S,_,_,rfl,⟨_,_,by rw[P],λ_=>⟨U+1+1,none,false,J,J,rfl,?_⟩⟩,BA.F ?_ J (cR _),BB.F ?_ J (cR _),J,aa,aa⟩,λc a5=>?_,J⟩
  ·rw[ar J,jm];omega
  ·grind
  ·grind
  ·rw[ar J,bD c J J J,D c J,ar J]
def RgJ(cf cW p19 N:Nat)(ag:ac GE)(al:Nat)(h:ae)(m:Nat)(aJ:ac X)(ab:ae)(Y:Nat):Prop :=
 ∃(i:Nat) (o:X),m=ag.length-i/\i<=ag.length/\aJ=[bb cf,bb cW,bb p19,o,(i:X)]/\dX ab o b3 3 (ag.take i) al Y/\aA al h ab/\al<=Y
theorem akQ(M:el h U v b3 a4)(V:N<=4096)(C:∀g∈a4,gQ N g)(P:a4.length<=120):aD Q s 92 [.agg ⟨[(N:X),v]⟩] h U (c9 (.int .i64 0) U h):=by
 have L:CD (N:Int) (a4.map Dg):=by
  refine⟨J,J,aa,λe E D=>?_,λe E D=>?_⟩
  ·obtain⟨g,I,rfl⟩:=gO.1 E;obtain⟨h1,ap,_⟩:=C g I;have D:(g.f:Int)<0\/(N:Int)<=g.f\/(g.t:Int)<0\/(N:Int)<=g.t:=D;omega
  ·obtain⟨g,I,rfl⟩:=gO.1 E;obtain⟨_,_,h1,ap⟩:=C g I;have D:g.w<0\/2147483647<g.w:=D;omega
 have:=Zr (s:=s) (n:=(N:Int)) (adZ M);rw[Fv.2 L]at this;exact this
theorem anZ(aI:el h U v b3 a4)(Z:N<=4096)(D:∀g∈a4,gQ N g)(br:a4.length<=120):aD Q s 178 [.agg ⟨[(N:X),v]⟩] h U (sA 0 U h):=by
 refine arO ?_;obtain⟨a,cap,rfl,a5⟩:=id aI;unfold ad1;refine aE ?_;have bH:∀{o aU},aA U h (T (T h U o) (U+1) aU):=aF
 refine(akQ (aI.F bH J) Z D br).mono ?_;rintro r h1 gY ⟨rfl,P,fa⟩;have ch:=P U J;rw[ar J,aR]at ch;have dO:=P (U+1) J;rw[aR]at dO;have cI:aA U h h1:=aF
 refine bf @ch ?_;refine(abH (aI.F cI J) Z br D).mono ?_;rintro r ap fA ⟨v2,ag,rfl,iz,Hq,E,sP,L,fx⟩;have Df:ag.length<=a4.length:=hJ sP (tf a4);obtain⟨a3,cm,rfl,Hu⟩:=id iz.gC;refine aE ?_;refine bF.mk (RgJ U (U+1) fA N ag (fA+1) (T (T ap fA (.cells [.int .i64 0,.slice none 0 0] false)) fA (.cells [(N:X),.slice a3 ag.length cm] false))) ag.length ⟨0,_,rfl,J,rfl,.inl aa,aF,J⟩ ?_;rintro m _ aH xe ⟨i,o,rfl,aj,rfl,S,C,gg⟩;obtain⟨bI,eN,p9,rfl⟩:=S.form;have aBM:=C fA J;rw[aR]at aBM;rw[anS];unfold Zn;refine bf @aBM ?_;refine⟨λV=>?_,λeZ=>?_⟩
 ·obtain⟨e,bK⟩:=dW V;obtain⟨b,aO,bL,iB,fH,rfl,a1⟩:=Hu aa;have pR:=(C b J).trans ((ar J).trans ((ar J).trans a1));obtain⟨fC,d6,gV⟩:=K3  bK;rw[hC]at fC d6 gV;refine ll @pR @fC @d6 @gV ?_;refine me  (k:=3)  (λ_=>rfl) (λ_=>rfl) J (S.F aa J) J e (aR _ _ _) rfl aa λr3 b0 A4 e7=>?_;have mq:ag.take (i+1)=ag.take i++[e]:=by rw[hq,bK];rfl
  refine bf (cF (J:i<1000000000000)) ?_;exact⟨J,ag.length-(i+1),J,i+1,r3,rfl,J,rfl,by rw[mq];exact A4,aF,J⟩
 ·have xc:i=ag.length:=J
  subst xc;rw[hB]at S;have M:=C U J;rw[ar J,ar J,L U J,ch]at M;have I:=C (U+1) J;rw[ar J,ar J,L (U+1) J,dO]at I;refine bf @M ?_;refine(anY (el.of S.rd) Z J E).mono ?_;rintro r cj om ⟨ei,h5,mi⟩;obtain⟨x,y,dA,b2,d2,bg,bU,b1,c1,c2,gd,rfl⟩:=ei.form;have TK:=(h5 (U+1) J).trans I;unfold Aj;refine bf @TK ?_;exact⟨_,rfl,ei.F aa J J,aF,J⟩
theorem akR{k:Int}(bs:dg h U eu cY bu)(bK:el h U f7 hW es)(L:es.length<=60\/65536<es.length):
  aD Q s 103 [.agg ⟨[(k:X),(n:X),(src:X),(len:X),eu]⟩,.agg ⟨[(ci:X),f7]⟩] h U (sA (iw k n src len bu ci es) U h):=by
 refine anP ?_;obtain⟨a,cap,rfl,a5⟩:=id bs;obtain⟨a2,rv,rfl,og⟩:=id bK;unfold abB;refine aE ?_;have bH:∀{o aU kD},aA U h (T (T (T h U o) (U+1) aU) (U+1+1) kD):=aF
 refine(ai7 (bs.F bH J)).mono ?_;rintro r h1 gY ⟨rfl,dv,fa⟩;have j1:=dv U J;rw[ar J,ar J,aR]at j1;have l6:=dv (U+1) J;rw[ar J,aR]at l6;have pb:=dv (U+1+1) J;rw[aR]at pb;have cI:aA U h h1:=aF
 have zero:∀{ab:ae} {Y:Nat} {o:gm} {e:Int},iw k n src len bu ci es=e->aA U h ab->U<=Y->sA (iw k n src len bu ci es) U h (.tuple ⟨[.agg ⟨[.int .i64 0,.int .i64 0,.slice none 0 0,.slice none 0 0,.slice none 0 0]⟩,(e:X)]⟩) (T ab (U+1+1) o) Y:=λ{ab Y o e} bK hk dx=>by rw[bK];exact⟨_,rfl,tw.zero,aF,dx⟩
 generalize oh:gF k n src len bu=ak at *
 by_cases iy:ak=0
 case neg =>
  have a1:(ak == 0)=false:=aa
  refine cM @a1 @pb ?_;exact zero (by unfold iw;omega) cI J
 subst iy;refine cM @l6 @j1 ?_;refine⟨λfk=>?_,λyX=>?_⟩
 ·refine bf @pb ?_;have fk:ci≠n:=aa
  exact zero (by unfold iw;omega) cI J
 have yX:ci=n:=aa
 have xh:iw k n src len bu ci es=ih ci es:=by unfold iw;omega
 refine(Zr (bK.F cI J)).mono ?_;rintro r ap fA ⟨rfl,M,fx⟩;have ey:=cI.trans M J;have xi:=(M U J).trans j1;have A9:=(M (U+1) J).trans l6;have A6:=(M (U+1+1) J).trans pb
 by_cases Hy:ih ci es=0
 case neg =>
  have a1:(ih ci es == 0)=false:=aa
  refine cM @a1 @A6 ?_;exact zero xh ey J
 rw[Hy]at xh ⊢;have L:=RF Hy L;obtain⟨N,rfl,dT,sK,iH⟩:=(Fv.1 Hy).Tq;have oq:=((bK.F cI J).F M fx).map sK;rw[<-gW ]at L;generalize sH:es.map ol=a4 at L iH oq;have C:es.length=a4.length:=aa
 rw[C]at A9 oq;have mG:lF N (U+1) U h ap fA a4 (.slice a2 a4.length rv):=⟨A9,A6,oq,iH,ey,J⟩
 rw[xh];have tail:∀{ab:ae} {Y:Nat} {a4:ac GE} {a:ay Addr} {n c:Nat},lF N (U+1) U h ab Y a4 (.slice a n c)->U<=Y->a4.length<=120->x1 s (sA 0 U h) (.pointer (some ⟨U+1,0,none⟩)) (.pointer (some ⟨U+1+1,0,none⟩)) ab Y:=λ{ab Y a4 a n c} S aX br=>by have cS:=S.lt;unfold x1;refine bf S.g ?_;refine(anZ S.p dT S.ok br).mono ?_;rintro r cj D ⟨m,rfl,ei,I,E⟩;obtain⟨x,y,dA,b2,d2,bg,bU,b1,c1,c2,gd,rfl⟩:=ei.form;have lE:=(I _ S.lt).trans S.m;unfold Aj;refine bf @lE ?_;exact⟨_,rfl,ei.F aa J J,λb a1=>by rw[ar J,I b J];exact S.k b a1,J⟩
 have plain:∀{ab:ae} {Y:Nat} {V:ac GE} {v:X} {aX:ae} {TL:Nat} {a4:ac GE} {Z:X},el ab Y v b3 V->(∀g∈V,gQ N g)->V.length<=120->lF N (U+1) U h ab Y a4 Z->U<=Y->aD Q s 175 [.agg ⟨[(N:X),v]⟩] ab Y λx65 h66 Hz=>(c7 x65).length=2/\af (iW (u h66 (U+1)) h66 (U+1) 0 (c7 x65)) λxj=>x1 s (sA 0 U h) (.pointer (some ⟨U+1,0,none⟩)) (.pointer (some ⟨U+1+1,0,none⟩)) xj Hz:=λ{ab Y V v aX TL a4 Z} aI js br S aX=>by refine(anW aI dT br js).mono ?_;intro r cj D ba;obtain⟨cs,bj,n6,hc,rfl,C,di,dx,r5⟩:=S.put J ba;refine bf @di ?_;exact tail r5 J (by have:=tf (p:=λ_=>true) (m:=De) V;unfold z9 at C;omega)
 have next:∀{ab cj:ae} {Y D:Nat} {a4:ac GE} {Z:X},lF N (U+1) U h ab Y a4 Z->aA Y ab cj->Y<=D->lF N (U+1) U h cj D a4 Z:=λ{ab cj Y D a4 Z} S hk dx=>by have:=S.lt;exact⟨by rw[hk _ J];exact S.g,by rw[hk _ J];exact S.m,S.p.F hk dx,S.ok,λb a1=>by rw[hk b J];exact S.k b a1,J⟩
 have tG:∀{ab:ae} {Y:Nat} {V:ac GE} {v:X} {a4:ac GE} {Z:X},el ab Y v b3 V->(∀g∈V,gQ N g)->V.length<=60->lF N (U+1) U h ab Y a4 Z->U<=Y->aD Q s 176 [.agg ⟨[(N:X),v]⟩] ab Y λHo h45 n46=>aD Q s 175 [Ho] h45 n46 λx47 rK n49=>(c7 x47).length=2/\af (iW (u rK (U+1)) rK (U+1) 0 (c7 x47)) λh50=>x1 s (sA 0 U h) (.pointer (some ⟨U+1,0,none⟩)) (.pointer (some ⟨U+1+1,0,none⟩)) h50 n49:=λ{ab Y V v a4 Z} aI js br S aX=>by refine(arX aI dT br js).mono ?_;rintro r cj D ⟨ag,_,sP,_,zj,cs,rfl,mp,_,P,C,I,E⟩;rw[jk]at C;exact plain (aX:=h) (TL:=0) (el.of mp.rd) P J (next S I E) J
 refine cM @A9 @xi ?_;refine⟨λ_=>plain (aX:=h) (TL:=0) mG.p iH J mG J,λ_=>⟨λ_=>tG mG.p iH L mG J,λ_=>⟨λ_=>?_,λ_=>tail mG J J⟩⟩⟩;refine(akP mG.p dT J iH).mono ?_;rintro r cj D ⟨zj,cs,rfl,mp,_,P,C,I,E⟩;have xb:=tf (p:=sr) (m:=id) a4;unfold zW at C;exact tG (el.of mp.rd) P J (next mG I E) J
end Go.Proofs.YthlhhajnbgjfmaaGreat
