/- Parts of the proof: Hw1: each statement bears its own conditions. -/
import Derived.ChangeArms
import Derived.Below
import Derived.Shelf.SlSortCmp.NoneTotal
import Derived.OpenShut
import Derived.WideShapes
import Init
import Derived.Test.YthlhhajnbgjfmaaGreatCm2
namespace Go.Ax
open Go Go.Proofs Go.Sort Go.Shelf
set_option linter.all false
set_option maxHeartbeats 1000000
variable {h:ae} {v:X} {U:Nat} {cs:ac X} {b:Nat} {t:TypeId} {f:FuncId} {off:Nat} {ce:ac (Place × ac X)} {aY o:ay Nat} {ab:ae} {c:ac X} {al:Nat} {mr:ay Nat} {i:Nat} {aJ:ac X} {aj:Nat} {args:ac X} {z:Nat} {au:ac ae} {mE:IntKind} {Y cap KZ:Nat} {bL:ao} {y:X} {a:Int} {K:bZ} {Bs:FuncId} {b2 rv:Nat} {bc:World} {cL dQ d0:Nat} {hn:IntKind} {r:Int} {ai:cc} {dB:Nat} {Ee:Ren} {B:Nat} {ap:ae} {j:Nat} {h1:ae}
section
variable {P:Program}  {s:ao}
theorem CS{n:Int}(g:0<=n)(h1:n<9223372036854775808):IntKind.wrap .i64 n=n:=by
 rw[<-nW];obtain⟨m,rfl⟩:=Int.eq_ofNat_of_zero_le g;show zY .i64 m=_;unfold zY yy;rw[oI]
 grind
theorem aj6{g:ac Nat}{es:ac MapEntry}(h:∀e∈es,e.born<cL):J7 g es cL=true:=by
 unfold J7;cases es with
 |nil=>simp
 |cons e es =>
  have:=h e (by simp);simp[oI,this]
end
def Cj(cL:Nat):ac MapEntry->ao
 | []=>true
 |e::es=>(match es with
  | []=>Nat.blt e.born cL
  |f::_=>Nat.blt e.born f.born)&&Cj cL es
theorem WD{cL:Nat}:∀{es:ac MapEntry},Cj cL es=true->Cx es/\∀e∈es,e.born<cL
 | [],_=>⟨List.Pairwise.nil,aa⟩
 | [e],h=>by unfold Cj at h;simp only[eA,oI,Ng]at h;exact⟨List.pairwise_singleton ..,aa⟩
 |e::f::es,h=>by
  unfold Cj at h;simp only[eA,oI,Ng]at h;obtain⟨h1,ap⟩:=WD h.2;have g:∀x∈f::es,e.born<x.born:=λx A=>by
   rcases hD.1 A with rfl|A
   ·omega
   ·have:=s3 h1 A;omega
  refine⟨List.Pairwise.cons g h1,λx A=>?_⟩
  grind
section
variable {P:Program}
def x5(aCA sY:ao)(dH awJ:Int):Int:=if aCA then 3 else if sY then(if dH == awJ then 2 else 0)else 1
end
section
variable {aB:Type}
def a7(enc:aB->ac X):ac aB->ac X
 | []=>[]
 |x::l=>enc x++a7 enc l
theorem fX{enc:aB->ac X}{k:Nat}(g:∀x,(enc x).length=k):∀l:ac aB,(a7 enc l).length=l.length*k
 | []=>by simp[a7]
 |x::l=>by simp[a7,g,fX g l,EN];omega
theorem uN{enc:aB->ac X}{k:Nat}(g:∀x,(enc x).length=k):∀{l:ac aB} {i:Nat} {x:aB},l[i]? = some x->((a7 enc l).drop (i*k)).take k=enc x
 | [],i,x,h=>aa
 |y::l,0,x,h=>by simp at h;subst h;simp[a7,<-g y]
 |y::l,i+1,x,h=>by
  have h:l[i]? = some x:=aa
  have e:(i+1)*k=(enc y).length+i*k:=aa
  rw[e,a7,Ni,M8 J,s7];have:(enc y).length+i*k-(enc y).length=i*k:=J
  rw[this];exact uN g h
theorem YL{enc:aB->ac X}{k:Nat}(g:∀x,(enc x).length=k)(z:aB):∀{l:ac aB} {i:Nat},i<l.length->mS (enc z) (a7 enc l) (i*k)=some (a7 enc (l.set i z)):=by
 intro l i aj;rw[tg,if_pos (by rw[fX g,g];have:=ph k aj;grind)]
 congr 1
 have A:∀(l:ac aB) (i:Nat),i<l.length->(a7 enc l).take (i*k)++(enc z++(a7 enc l).drop (i*k+k))=a7 enc (l.set i z):=by
  intro l
  induction l with
  |nil=>grind
  |cons y l E =>
   intro i aj;cases i with
   |zero=>simp[a7,<-g y,Ni]
   |succ i =>
    have e:(i+1)*k=(enc y).length+i*k:=aa
    have C:(i+1)*k+k=(enc y).length+(i*k+k):=J
    rw[List.set_cons_succ,a7,a7,C,e,List.take_append,Ni];rw[q3 J,M8 J]
    grind
 grind
end
section
variable {P:Program}  {aB:Type}
theorem jb(m:Nat)(h:m<1000000000):IntKind.wrap .i64 (m:Int)=(m:Int):=CS J J
end
section
variable {P:Program}  {aB:Type} {s:ao}
theorem Kt(n:Nat)(h:n<=12):IntKind.wrap .u64 (n:Int)=(n:Int):=by
 rw[<-nW];show zY .u64 n=_;unfold zY yy;rw[oI]
 grind
theorem N1{R:aB->aB->Prop}(C:∀x y,R x y->R y x->x=y):∀{l g:ac aB},l.Perm g->l.Pairwise R->g.Pairwise R->l=g
 | [],g,A,_,_=>by rw[List.nil_perm.1 A]
 |x::l,[],A,_,_=>by have:=A.length_eq;grind
 |x::l,y::g,A,h1,ap=>by
  have M:∀z∈l,R x z:=λz I=>s3 h1 I;have N:∀z∈g,R y z:=λz I=>s3 ap I;have E:x=y:=by
   have L:x∈y::g:=aa
   have V:y∈x::l:=aa
   grind
  subst E;rw[N1 C (List.Perm.cons_inv A) aa aa]
end
def fY(a b:Int):Int:=if a<b then -1 else if b<a then 1 else 0
def hL:ac Int->Int
 | []=>0
 |x::l=>if x=0 then hL l else x
section
variable {P:Program}  {s:ao}
def lp(x:Int × Int):ac X:=[(x.1:X),(x.2:X)]
def la(x y:Int × Int):Int:=hL [fY x.1 y.1,fY x.2 y.2]
end
section
variable {P:Program} {aB:Type}
def dX(h:ae)(v:X)(enc:aB->ac X)(k:Nat)(l:ac aB)(al aj:Nat):Prop :=
 (l=[]/\v = .slice none 0 0)\/∃b,al<=b/\b<aj/\v = .slice (some ⟨b,0,some k⟩) l.length l.length/\u h b=some (.cells (a7 enc l) false)
theorem sg{enc:aB->ac X}:∀(l:ac aB) (x:aB),a7 enc (l++[x])=a7 enc l++enc x
 | [],x=>by simp[a7]
 |y::l,x=>by simp[a7,sg l x]
theorem rI(h:ae)(b k:Nat):u (wB h b) k=if k=b then none else u h k:=NT h b k
theorem po{s:Nat}{l:ac X}{g:Nat}(au:0<s):pv h U s l g = .ok (.val (.slice (some ⟨U,0,some s⟩) g g) (T h U (.cells l false)) (U+1)):=by
 cases s with
 |zero=>omega
 |succ s=>rfl
theorem sh{aO:ay Nat}{n:Nat}{k:ac X->R fc}(g:u h b=some (.cells cs bL))(A:0<n)(C:n<=cs.length-off):jD h (some ⟨b,off,aO⟩) n k=k ((cs.drop off).take n):=by
 cases n with
 |zero=>omega
 |succ n =>
  show cellsOf h b (λcs _=>R.of "read - out of block" (mT (n+1) (mO cs off)) k)=_;rw[uE g,rc,qn,if_pos aa];rfl
theorem aua{enc:aB->ac X}{k:Nat}(L:∀x,(enc x).length=k)(C:∀x,ef (enc x)=true)(g:0<k){l:ac aB}(aI:dX h v enc k l al U)(E:al<=U){x:aB}(ap:u h b2=some (.cells cs bL))(aX:(cs.drop dQ).take k=enc x)(Z:(l.length+1)*k<=1000000):
  ∃d7 ab,dn k h U v (.slice (some ⟨b2,dQ,mr⟩) 1 rv) = .ok (.val d7 ab (U+1))/\dX ab d7 enc k (l++[x]) al (U+1)/\(∀b,b<al->u ab b=u h b):=by
 have A:k<=cs.length-dQ:=aa
 have h1:l.length+1<=1000000:=hJ (by have:=BP (l.length+1) g;omega) Z;rcases aI with⟨rfl,rfl⟩|⟨b,iB,fH,rfl,a1⟩
 ·refine⟨.slice (some ⟨U,0,some k⟩) 1 1,T h U (.cells (enc x) false),?_,.inr ⟨U,E,J,rfl,by simp[a7]⟩,aa⟩;unfold dn;simp only;rw[xS,s9,sh ap g A,aX];unfold ge;have N:Nat.ble (Nat.add 0 1) 0=false:=rfl;have M:(Nat.ble (Nat.mul (Nat.add 0 1) k) 1000000&&Nat.ble (Nat.add 0 1) 1000000)=true:=by
   simp only[eA,sd]
   grind
  rw[N,M];exact po g
 ·refine⟨.slice (some ⟨U,0,some k⟩) (l.length+1) (l.length+1),T (wB h b) U (.cells (a7 enc l++enc x) false),?_,.inr ⟨U,E,J,by simp,by simp[sg]⟩,λc a5=>by rw[sH,if_neg J,rI,if_neg J]⟩
  unfold dn;simp only;rw[xS,s9,sh ap g A,aX];unfold ge;have N:Nat.ble (Nat.add l.length 1) l.length=false:=by
   cases V:Nat.ble (Nat.add l.length 1) l.length with
   |false=>rfl
   |true=>have:=lJ V;grind
  have M:(Nat.ble (Nat.mul (Nat.add l.length 1) k) 1000000&&Nat.ble (Nat.add l.length 1) 1000000)=true:=by
   simp only[eA,sd]
   grind
  rw[N,M];show pw h U k (some ⟨b,0,some k⟩) l.length l.length (l.length+1) (enc x)=_;unfold pw;simp only[uE a1];have I:mT (Nat.mul l.length k) (mO (a7 enc l) 0)=some (a7 enc l):=by rw[rc,nr,qn,if_pos (by rw[fX L];grind)];rw[q3 (by rw[fX L];grind)]
  rw[I];have cy:(!false&&Nat.beq 0 0&&Nat.beq (jq (a7 enc l)) (Nat.mul l.length k)&&Nat.beq k k&&Nat.beq l.length l.length&&ef (enc x))=true:=by rw[nX,fX L,C];simp
  show(bif _ then _ else _)=_;rw[cy,j5];exact po g
end
section
variable {P:Program}  {s:ao}
def pick(key:MapEntry->Int × Int)(len:MapEntry->Nat)(l:ac MapEntry):ac (Int × Int):=(l.filter (λe=>decide (0<len e))).map key
end
theorem Pv{b:Int}:fY a b<0↔a<b:=by unfold fY;omega
theorem vY{b:Int}:fY a b=0↔a=b:=by unfold fY;omega
theorem FM{x y:Int × Int}:la x y<0↔x.1<y.1\/(x.1=y.1/\x.2<y.2):=by
 unfold la hL hL hL
 by_cases h:fY x.1 y.1=0
 ·rw[if_pos h];rw[vY]at h
  by_cases ap:fY x.2 y.2=0
  ·rw[if_pos ap];rw[vY]at ap;omega
  ·rw[if_neg ap,Pv];omega
 ·rw[if_neg h,Pv];have:¬x.1=y.1:=λe=>h (vY.2 e);omega
theorem aqn(x y z:Int × Int)(h1:¬la y x<0)(ap:¬la z y<0):¬la z x<0:=by rw[FM]at *;omega
theorem aqo(x y:Int × Int)(h:la x y<0):¬la y x<0:=by rw[FM]at *;omega
theorem aj7(x y:Int × Int)(h1:¬la y x<0)(ap:¬la x y<0):x=y:=by
 rw[FM]at *
 grind
section
variable {aB:Type}
end
def lenOf(h:ae)(e:MapEntry):ay Nat:=match e.val with
 | .pointer (some a)=>(match u h a.block with
  |some (.cells cs _)=>(match g3 cs (a.off+1)with
   |some (.slice _ n _)=>some n
   |_=>none)
  |_=>none)
 |_=>none
theorem E0{aB:Type}{enc:aB->ac X}(g:∀x,h2 (enc x)=true):∀l:ac aB,h2 (a7 enc l)=true
 | []=>rfl
 |x::l=>by
  have app:∀a b:ac X,h2 a=true->h2 b=true->h2 (a++b)=true:=by
   intro a
   induction a with
   |nil=>grind
   |cons y a A =>
    intro b h k;have h:(qq y&&h2 a)=true:=h;simp only[eA]at h;show(qq y&&h2 (a++b))=true
    grind
  exact app _ _ (g x) (E0 g l)
section
variable {P:Program}
end
abbrev du:=Int × Int × Int
def kb(x:du):ac X:=[(x.1:X),(x.2.1:X),(x.2.2:X)]
def iJ(e:du):ac du->ac du
 | []=>[e]
 |x::l=>bif ga x.1 e.1&&ga x.2.1 e.2.1 then(x.1,x.2.1,bif lo e.2.2 x.2.2 then e.2.2 else x.2.2)::l else x::iJ e l
def ii(acc:ac du):ac du->ac du
 | []=>acc
 |e::l=>ii (iJ e acc) l
section
variable {P:Program}
def kc(x y:du):Int:=hL [hL [fY x.1 y.1,fY x.2.1 y.2.1],fY x.2.2 y.2.2]
theorem FN{x y:du}:kc x y<0↔x.1<y.1\/(x.1=y.1/\(x.2.1<y.2.1\/(x.2.1=y.2.1/\x.2.2<y.2.2))):=by
 have A:la (x.1,x.2.1) (y.1,y.2.1)=hL [fY x.1 y.1,fY x.2.1 y.2.1]:=rfl;have C:hL [fY x.1 y.1,fY x.2.1 y.2.1]=0↔x.1=y.1/\x.2.1=y.2.1:=by
  unfold hL hL hL
  by_cases h:fY x.1 y.1=0
  ·rw[if_pos h];rw[vY]at h
   by_cases ap:fY x.2.1 y.2.1=0
   ·rw[if_pos ap];rw[vY]at ap;omega
   ·rw[if_neg ap,vY];omega
  ·rw[if_neg h,vY];have:¬x.1=y.1:=λe=>h (vY.2 e);omega
 have g:=@FM (x.1,x.2.1) (y.1,y.2.1);rw[A]at g;simp only at g;show hL (hL [fY x.1 y.1,fY x.2.1 y.2.1]::[fY x.2.2 y.2.2])<0↔_;generalize hL [fY x.1 y.1,fY x.2.1 y.2.1]=z at *
 unfold hL hL hL
 by_cases h:z=0
 ·rw[if_pos h]
  by_cases ap:fY x.2.2 y.2.2=0
  ·rw[if_pos ap];rw[vY]at ap;omega
  ·rw[if_neg ap,Pv];omega
 omega
theorem aqp(x y z:du)(h1:¬kc y x<0)(ap:¬kc z y<0):¬kc z x<0:=by rw[FN]at *;omega
theorem aqq(x y:du)(h:kc x y<0):¬kc y x<0:=by rw[FN]at *;omega
theorem aj8(x y:du)(h1:¬kc y x<0)(ap:¬kc x y<0):x=y:=by
 rw[FN]at *
 grind
end
def fP(n:Nat):ac X:=[.int .i64 0,.int .u64 (n:Int)]
section
variable {P:Program}  {s:ao}
theorem aub(m:Nat)(h:m<4294967296):IntKind.wrap .i64 (m:Int)=(m:Int):=CS J J
end
section
variable {P:Program}  {s:ao}
end
def mh(x:du):X:=.agg ⟨lp (x.1,x.2.1)⟩
def kv:Nat->ac du->ac MapEntry
 |_,[]=>[]
 |i,x::l=>{ key:=mh x,val:=.agg ⟨fP x.2.2.toNat⟩,born:=i }::kv (i+1) l
def wx(x e:du):ao:=ga x.1 e.1&&ga x.2.1 e.2.1
def Cy(n:Int):ao:=match n with
 | .ofNat m=>Nat.blt m 2147483648
 | .negSucc _=>false
def lK(x:du):Prop:=Cy x.1=true/\Cy x.2.1=true/\Cy x.2.2=true
def pO(e:du):ac du->ay (Nat × du)
 | []=>none
 |x::l=>bif wx x e then some (0,x)else(pO e l).map (λp=>(p.1+1,p.2))
theorem Jr(e:du):∀(l:ac du),iJ e l=match pO e l with
  |none=>l++[e]
  |some (p,x)=>l.set p (x.1,x.2.1,bif lo e.2.2 x.2.2 then e.2.2 else x.2.2)
 | []=>rfl
 |x::l=>by
  unfold iJ pO;show(bif wx x e then _ else _)=_;cases wx x e with
  |true=>rfl
  |false =>
   simp only[mN];rw[Jr e l]
   grind
theorem JR{e:du}:∀{l:ac du} {p:Nat} {x:du},pO e l=some (p,x)->l[p]? = some x/\wx x e=true
 | [],p,x,h=>by cases h
 |y::l,p,x,h=>by
  unfold pO at h;cases au:wx y e with
  |true=>grind
  |false =>
   rw[au]at h;simp only[mN]at h;cases g:pO e l with
   |none=>grind
   |some q =>
    rw[g]at h;cases h;obtain⟨h1,ap⟩:=JR    g
    grind
theorem aiS(i:Nat)(l:ac du)(e:du):kv i (l++[e])=kv i l++[{ key:=mh e,val:=.agg ⟨fP e.2.2.toNat⟩,born:=i+l.length }]:=by
 induction l generalizing i with
 |nil=>rfl
 |cons x l g =>
  show _::kv (i+1) (l++[e])=_::(kv (i+1) l++_)
  grind
theorem WE(e:du):∀(i p:Nat) (l:ac du),p<l.length->GG (kv i l) p (mh e) (.agg ⟨fP e.2.2.toNat⟩)=kv i (l.set p e)
 |_,_,[],h=>aa
 |i,0,x::l,h=>rfl
 |i,p+1,x::l,h=>by show _::GG (kv (i+1) l) p _ _=_::kv (i+1) (l.set p e);rw[WE e (i+1) p l aa]
section
variable {P:Program}  {s:ao}
def Ku(P:Program)(d0:Nat):Prop:=∀x y:du,lK x->lK y->k5 P d0 (mh x) (mh y)=some (wx y x)
theorem Oy{d0:Nat}(g:Ku P d0){e:du}(A:lK e):∀(i j:Nat) (l:ac du),(∀x∈l,lK x)->kO P d0 (mh e) (kv i l) j=some ((pO e l).map λp=>(j+p.1,{ key:=mh p.2,val:=.agg ⟨fP p.2.2.2.toNat⟩,born:=i+p.1 }))
 |i,j,[],_=>rfl
 |i,j,x::l,h=>by
  have C:=Oy g A (i+1) (j+1) l λy E=>h y aa;unfold kv kO pO;simp only[g e x A (h x aa)];cases wx x e with
  |true=>rfl
  |false =>
   simp only[mN];rw[show Nat.succ j=j+1 from rfl,C];cases pO e l with
   |none=>rfl
   |some q =>
    grind
theorem aj9{x e:du}(h:wx x e=true):mh x=mh e/\x.1=e.1/\x.2.1=e.2.1:=by
 unfold wx at h;simp only[eA,x7]at h;refine⟨?_,h⟩;unfold mh
 grind
theorem auc(A:Ku P d0){e:du}(g:lK e){r:Nat}{l:ac du}(E:∀x∈l,lK x)(C:u h r=some (.map (kv 0 l) cL))(z:X):
  j9 P h d0 z true (.map (some r)) (mh e) = .ok (match pO e l with
   |none=>.tuple #[z,.bool false]
   |some p=>.tuple #[.agg ⟨fP p.2.2.2.toNat⟩,.bool true]):=by
 unfold j9 yo;rw[A e e g g];unfold Qv k6;simp only[C,Oy A g 0 0 l E];cases pO e l <;> rfl
theorem aka(e:du):oP (mh e) (mh e)=true:=by
 show(qv (e.1:X) (e.1:X)&&(qv (e.2.1:X) (e.2.1:X)&&true))=true;have:∀n:Int,qv (.int .i64 n) (.int .i64 n)=true:=λn=>by show(mn .i64 .i64&&ga n n)=true;rw[x7.2 rfl];rfl
 grind
theorem ac0(E:Ku P d0){e:du}(A:lK e){r:Nat}{l:ac du}(M:∀x∈l,lK x)(I:u h r=some (.map (kv 0 l) l.length)){w:Nat}(g:w=match pO e l with|none=>e.2.2.toNat|some p=>(bif lo e.2.2 p.2.2.2 then e.2.2 else p.2.2.2).toNat):
  mU P d0 h (.map (some r)) (mh e) (.agg ⟨fP w⟩) = .ok (T h r (.map (kv 0 (iJ e l)) (iJ e l).length)):=by
 unfold mU yo;rw[E e e A A];show k6 h r _=_;unfold k6;simp only[I,Oy E A 0 0 l M];rw[Jr];cases C:pO e l with
 |none =>
  rw[C]at g;simp only at g;subst g;simp only[Option.map_none,j5,aiS,jk,nq,BU,iU]
 |some p =>
  obtain⟨q,x⟩:=p;rw[C]at g;simp only at g;obtain⟨h1,ap⟩:=JR C;obtain⟨N,V,Z⟩:=aj9 ap;have L:q<l.length:=aa
  simp only[EH,N,aka,ql,iU,List.length_set];have:=WE (x.1,x.2.1,bif lo e.2.2 x.2.2 then e.2.2 else x.2.2) 0 q l L
  grind
end
theorem uI{n:Int}(h:Cy n=true):∃m:Nat,n=(m:Int)/\m<2147483648:=by
 cases n with
 |ofNat m=>exact⟨m,rfl,by simpa[Cy,oI]using h⟩
 |negSucc m=>cases h
section
variable {P:Program}  {s:ao}
end
section
variable {P:Program}  {s:ao}
end
theorem WF(e:du):∀(l g:ac du),ii g (l++[e])=iJ e (ii g l)
 | [],g=>rfl
 |x::l,g=>WF e l (iJ x g)
theorem aij{e:du}(I:lK e){l:ac du}(C:∀x∈l,lK x):∀x∈iJ e l,lK x:=by
 intro x g;rw[Jr]at g;cases E:pO e l with
 |none =>
  rw[E]at g;rcases hs.1 g with h|h
  ·exact C x h
  ·simp at h;subst h;exact I
 |some p =>
  rw[E]at g;obtain⟨h1,ap⟩:=JR E;have A:=C _ (k1 h1);rcases List.mem_or_eq_of_mem_set g with h|h
  ·exact C x h
  ·subst h;refine⟨A.1,A.2.1,?_⟩;cases lo e.2.2 p.2.2.2 with
   |true=>exact I.2.2
   |false=>exact A.2.2
theorem I2:∀{l acc:ac du},(∀x∈l,lK x)->(∀x∈acc,lK x)->∀x∈ii acc l,lK x
 | [],acc,_,g=>g
 |e::l,acc,A,g=>I2  (acc:=iJ e acc) (λx C=>A x aa) (aij (A e aa) g)
theorem akb(e:du)(l:ac du):(iJ e l).length<=l.length+1:=by
 rw[Jr]
 grind
theorem N2:∀(l g:ac du),(ii g l).length<=g.length+l.length
 | [],g=>by simp[ii]
 |e::l,g=>by
  have h1:=N2 l (iJ e g);have ap:=akb e g;show(ii (iJ e g) l).length<=_
  grind
theorem VU:∀(i:Nat) (l:ac du),Cx (kv i l)/\∀e∈kv i l,i<=e.born/\e.born<i+l.length
 |i,[]=>⟨List.Pairwise.nil,λe h=>by cases h⟩
 |i,x::l=>by
  obtain⟨h1,ap⟩:=VU (i+1) l;refine⟨List.Pairwise.cons aa h1,λe g=>?_⟩;rcases hD.1 g with rfl|g
  all_goals grind
def wy(e:MapEntry):du:=match e.key,e.val with
 | .agg ⟨[.int _ a,.int _ b]⟩,.agg ⟨[_,.int _ c]⟩=>(a,b,c)
 |_,_=>(0,0,0)
theorem Wd:∀(i:Nat) (l:ac du),(∀x∈l,lK x)->(kv i l).map wy=l/\∀e∈kv i l,∃w:Nat,w<2147483648/\(wy e).2.2=(w:Int)/\e.key=mh (wy e)/\e.val = .agg ⟨fP w⟩
 |i,[],_=>⟨rfl,λe h=>by cases h⟩
 |i,x::l,h=>by
  obtain⟨h1,ap⟩:=Wd (i+1) l λy I=>h y aa;obtain⟨w,A,C⟩:=uI (h x aa).2.2;obtain⟨a,b,c⟩:=x;simp only at A;subst A;have E:wy { key:=mh (a,b,(w:Int)),val:=.agg ⟨fP ((w:Int)).toNat⟩,born:=i }=(a,b,(w:Int)):=rfl;refine⟨?_,λe g=>?_⟩
  ·show wy _::(kv (i+1) l).map wy=_
   grind
  ·rcases hD.1 g with rfl|g
   all_goals grind
section
variable {P:Program}
end
section
variable {P:Program}
theorem cC.still{H:fm}{w:World}(L:ec B ai H w)(g:w.heap.size<=bc.heap.size)(C:bc.os=w.os)(I:qS w bc)(A:bc.output=w.output)(E:∀k,k<w.heap.size->bc.heap[k]? = w.heap[k]?):cC B ai H w U U ai H bc where
 rel:=L.world g λb p M au=>by obtain⟨o,N⟩:=lI.1 au;exact E _ (L.obj b p o M N).Cw
 agree:=aa
 size:=g
 os:=C
 tape:=I
 output:=A
 frame:=aa
 own:=aa
 le:=J
end
section
variable {aB:Type}
def aA(U:Nat)(h ab:ae):Prop:=∀b,b<U->u ab b=u h b
theorem aF{p:Prop}(h:p:=by grind[aA]):p:=h
theorem aA.refl(U:Nat)(h:ae):aA U h h:=aF
theorem aA.trans(a:aA U h ab)(b:aA Y ab ap)(g:U<=Y):aA U h ap:=aF
theorem aA.set{o:gm}(a:aA U h ab)(g:U<=b):aA U h (T ab b o):=aF
theorem aA.mono(a:aA Y h ab)(g:U<=Y):aA U h ab:=aF
def dg(h:ae)(U:Nat)(v:X)(enc:aB->ac X)(l:ac aB):Prop :=
 ∃a cap,v = .slice a l.length cap/\(l≠[]->∃b aO bL,b<U/\a=some ⟨b,0,aO⟩/\u h b=some (.cells (a7 enc l) bL))
theorem dg.F{enc:aB->ac X}{l:ac aB}(au:dg h U v enc l)(g:aA U h ab)(I:U<=Y):dg ab Y v enc l:=by obtain⟨a,cap,M,L⟩:=au;refine⟨a,cap,M,λE=>?_⟩;obtain⟨b,aO,bL,C,A,N⟩:=L E;exact⟨b,aO,bL,J,A,by rw[g b C];omega⟩
theorem dX.rd{k:Nat}{enc:aB->ac X}{l:ac aB}(au:dX h v enc k l al aj):dg h aj v enc l:=by
 rcases au with⟨rfl,rfl⟩|⟨b,h1,ap,rfl,g⟩
 ·exact⟨none,0,rfl,λh=>absurd rfl h⟩
 ·exact⟨_,_,rfl,λ_=>⟨b,some k,false,ap,rfl,g⟩⟩
theorem dg.at{enc:aB->ac X}{l:ac aB}(au:dg h U v enc l){x:aB}(E:l[i]? = some x):
  i<l.length/\∃b aO bL cap,b<U/\v = .slice (some ⟨b,0,aO⟩) l.length cap/\u h b=some (.cells (a7 enc l) bL):=by
 obtain⟨a,cap,I,g⟩:=au;obtain⟨b,aO,bL,A,rfl,C⟩:=g aa
 grind
theorem E7{enc:aB->ac X}{k:Nat}(g:∀x,(enc x).length=k){l:ac aB}{x:aB}(A:l[i]? = some x)(C:j<k):(a7 enc l)[i*k+j]? = (enc x)[j]?:=by
 have E:=uN g A
 grind
end
section
variable {H:Type} {enc:TypeId × X->H} {P:Program} {w:World} {base:Nat} {aO:Nat->ao} {AA:ao}
structure Tri (P:Program) (t:TypeId):Prop where
 ex:∃dD kI fI gr,P.underlying t=some (.struct dD)/\dD[0]? = some kI/\dD[1]? = some fI/\dD[2]? = some gr/\kI.offset=0/\fI.offset=1/\gr.offset=2 /\
  P.underlying kI.type=some (.int .i64)/\P.underlying fI.type=some (.int .i64)/\P.underlying gr.type=some (.int .i64)/\P.cellsOf kI.type=1/\P.cellsOf fI.type=1/\P.cellsOf gr.type=1
 size:P.cellsOf t=3
abbrev hF:=Int × Int × Int
def hW(x:hF):ac X:=[(x.1:X),(x.2.1:X),(x.2.2:X)]
def AB(n:Int):Prop:=(Lit.int .i64 n).wf=true
theorem amy{x:DataW H × ac MemPlace}(ax:Tri P t)(h:DataW.trod enc P w base aO AA KZ t cs=some x):∃e:hF,cs=hW e/\AB e.1/\AB e.2.1/\AB e.2.2:=by
 obtain⟨dD,kI,fI,gr,cK,aq,h1,ap,H5,eV,dQ,Z,U7,Bt,lZ,V,c2⟩:=ax.ex;obtain⟨xs,n,rfl,_,g,LC,C⟩:=DataW.trod_struct cK h;rw[ax.size]at g;have A:∀(i:Nat) (f:Field),dD[i]? = some f->f.offset=i->P.underlying f.type=some (.int .i64)->P.cellsOf f.type=1->∃n:Int,(cs.drop i).take 1=[(n:X)]/\AB n:=λi f bD fd eI E=>by
  have I:=C i f bD;have aj:i<xs.length:=aa
  rw[fd,E,qi aj]at I;obtain⟨n,h1,_,ap⟩:=DataW.trod_int eI I;exact⟨n,h1,ap⟩
 obtain⟨a,M,nI⟩:=A 0 kI aq H5 Z lZ;obtain⟨b,L,l0⟩:=A 1 fI h1 eV U7 V;obtain⟨c,E,N⟩:=A 2 gr ap dQ Bt c2
 match cs,g with
 | [x,y,z],_ =>
  simp at M L E;exact⟨(a,b,c),by simp[hW,M,L,E],nI,l0,N⟩
theorem akc{a:Addr}{n:Nat}(h:w.cells? base a n=some cs):cs.length=n/\∀i v,cs[i]? = some v->w.cell? (a.add i)=some v:=by
 unfold World.cells? at h
 split at h
 ·have g:cs.length=n:=by simpa using mapM_some_length h
  refine⟨g,λi v A=>?_⟩;have:=mapM_some_get h i i aa
  grind
 grind
theorem aqr(a:Addr)(i j:Nat):(a.add i).add j=a.add (i+j):=by
 unfold Addr.add
 grind
theorem akd{aB:Type}{L:aB->ac X}{k:Nat}{e:TypeId}{x:DataW H × ac MemPlace}(cK:P.underlying t=some (.slice e))(a5:P.cellsOf e=k)(R:aB->Prop)(C:∀(n:Nat) (c:ac X) y,DataW.trod enc P w base aO AA n e c=some y->∃z:aB,c=L z/\R z)(h:DataW.trod enc P w base aO AA KZ t cs=some x):
  cs=[.slice none 0 0]\/∃(a:Addr) (g:ac aB) (cap:Nat),cs=[.slice (some a) g.length cap]/\g.length<=cap/\cap<=maxLen/\(∀z∈g,R z)/\∀i v,(a7 L g)[i]? = some v->w.cell? (a.add i)=some v:=by
 rcases DataW.trod_slice cK h with⟨N,_⟩|⟨a,len,cap,A,rest,n,rfl,N,_,a1,br,bx,gT,hel,_⟩
 ·grind
 ·have key:∀m,m<=len->∃g:ac aB,g.length=m/\(∀z∈g,R z)/\(a7 L g).length=m*k/\∀i v,(a7 L g)[i]? = some v->w.cell? (a.add i)=some v:=by
   intro m
   induction m with
   |zero=>intro _;exact⟨[],rfl,by simp,by simp[a7],λi v I=>by simp[a7]at I⟩
   |succ m fb =>
    intro DB;obtain⟨g,h1,ap,aH,bh⟩:=fb J;have V:=hel m J;rw[a5,qi (by omega:m<A.length)]at V;simp only[jO]at V;obtain⟨c,Z,vs⟩:=V;obtain⟨z,rfl,dc⟩:=C _ _ _ vs;obtain⟨M,hcg⟩:=akc Z;refine⟨g++[z],aa,λy E=>?_,by rw[sg,jk,aH,M,EN],λi v I=>?_⟩
    ·rcases hs.1 E with E|E
     ·exact ap y E
     ·rw[jl.1 E];exact dc
    ·rw[sg,Ev]at I
     split at I
     ·grind
     ·rename_i eZ
      have:=hcg _ v I;rw[aqr,aH]at this
      grind
  obtain⟨g,h1,ap,_,bh⟩:=key len J
  grind
end
def yF(ce:ac (Place × ac X)):cc:=λb=>(ce[b]?).map (·.1)
def yS:Nat->ac (Place × ac X)->ae->ae
 |_,[],h=>h
 |i,p::ce,h=>yS (i+1) ce (T h i (.cells p.2 true))
theorem Oz:∀(ce:ac (Place × ac X)) (i:Nat) (h:ae) (b:Nat),u (yS i ce h) b=if b<i then u h b else match ce[b-i]? with
  |some p=>some (.cells p.2 true)
  |none=>u h b
 | [],i,h,b=>by by_cases g:b<i <;> simp[yS,g]
 |p::ce,i,h,b=>by
  show u (yS (i+1) ce (T h i (.cells p.2 true))) b=_;rw[Oz ce (i+1) _ b,sH]
  grind
theorem YM{o:gm}(h:u (yS 0 ce iy) b=some o):∃p,ce[b]? = some p/\o = .cells p.2 true:=by
 rw[Oz,if_neg (Nat.not_lt_zero _),Nat.sub_zero,Jq]at h
 grind
theorem aud{p:Place × ac X}(h:ce[b]? = some p):u (yS 0 ce iy) b=some (.cells p.2 true):=by rw[Oz,if_neg (Nat.not_lt_zero _),Nat.sub_zero,h]
def InW(w:World)(ce:ac (Place × ac X)):Prop:=∀p∈ce,∃c e fB,w.heap[p.1.ct]? = some (.cells c e fB)/\pq (yF ce) p.2 c p.1.off
theorem aue{w:World}(A:InW w ce):ec w.heap.size (yF ce) (u (yS 0 ce iy)) w where
 base:=J
 obj:=λb p o g E=>by obtain⟨q,C,rfl⟩:=YM E;unfold yF at g;rw[C]at g;cases g;obtain⟨c,e,L,I,N⟩:=A q aa;exact⟨aa,c,e,L,I,N⟩
 inj:=λb V p Z g M au _ er _=>by
  exfalso;unfold yF at g;cases C:ce[b]? with
  |none=>grind
  |some q =>
   rw[C]at g;have g:q.1=p:=aa
   subst g;obtain⟨c,e,L,I,_⟩:=A q aa
   grind
 kS:=λb au=>by
  obtain⟨o,E⟩:=lI.1 au;obtain⟨q,C,_⟩:=YM E;unfold yF
  grind
theorem awK(ce:ac (Place × ac X)):jY (yF ce) ce.length:=λb g=>by
 unfold yF
 grind
theorem amz{C:cc}{H E:fm}{w:World}(I:B=w.heap.size)(g:cC B ai H w U Y C E bc):RowKit.Below w.heap.size w bc :=
 ⟨g.os,g.tape.1,g.output,g.size,λk A=>g.frame k A (by rintro⟨b,p,_,_,_,h⟩;omega)⟩
section
variable {P:Program}
end
section
variable {aB:Type}
def eY(h:ae)(al aj:Nat)(v:X)(enc:aB->ac X)(l:ac aB):Prop :=
 ∃a cap,v = .slice a l.length cap/\(l≠[]->∃b aO bL,al<=b/\b<aj/\a=some ⟨b,0,aO⟩/\u h b=some (.cells (a7 enc l) bL))
theorem eY.rd{enc:aB->ac X}{l:ac aB}(au:eY h al aj v enc l):dg h aj v enc l:=by
 obtain⟨a,cap,g,C⟩:=au;refine⟨a,cap,g,λA=>?_⟩
 grind
theorem eY.F{ea:Nat}{enc:aB->ac X}{l:ac aB}(au:eY h al aj v enc l)(A:∀b,al<=b->b<aj->u ab b=u h b)(h1:ea<=al)(ap:aj<=dB):eY ab ea dB v enc l:=by
 obtain⟨a,cap,g,E⟩:=au;refine⟨a,cap,g,λC=>?_⟩
 grind
theorem dX.gC{k:Nat}{enc:aB->ac X}{l:ac aB}(au:dX h v enc k l al aj):eY h al aj v enc l:=by
 rcases au with⟨rfl,rfl⟩|⟨b,h1,ap,rfl,g⟩
 ·exact⟨none,0,rfl,λh=>absurd rfl h⟩
 ·exact⟨_,_,rfl,λ_=>⟨b,some k,false,h1,ap,rfl,g⟩⟩
end
section
variable {P:Program}  {s:ao}
@[congr] theorem aAI{aB:Type}{r g:R aB}{k:aB->Prop}(h:r=g):af r k=af g k:=by rw[h]
@[simp] theorem aaO(U:Nat)(o:gm):wR U (.ptr o) = (bb U):=rfl
@[simp] theorem aaP(o:gm):sC (.ptr o)=o:=rfl
@[simp] theorem Xu(U:Nat)(o:gm)(n c:Nat):wR U (.slice o n c) = .slice (some ⟨U,0,none⟩) n c:=rfl
@[simp] theorem Xv(o:gm)(n c:Nat):sC (.slice o n c)=o:=rfl
@[simp] theorem ac1(k:IntKind)(n:Int):c7 (.int k n)=[.int k n]:=rfl
@[simp] theorem YN(a:ay Addr)(n c:Nat):c7 (.slice a n c)=[.slice a n c]:=rfl
@[simp] theorem ac4(l:ac X):c7 (.agg ⟨l⟩)=l:=rfl
@[simp] theorem aaQ(b:ao):c7 (.bool b)=[.bool b]:=rfl
@[simp] theorem ac5(a:ay Addr):c7 (.pointer a)=[.pointer a]:=rfl
@[simp] theorem Xw(k:IntKind)(n:Int):g1 (.int k n)=true:=rfl
@[simp] theorem WG(b:ao):g1 (.bool b)=true:=rfl
@[simp] theorem We(a:ay Addr)(n c:Nat):g1 (.slice a n c)=true:=rfl
@[simp] theorem Xx(a:ay Addr):g1 (.pointer a)=true:=rfl
@[simp] theorem Xy:ef []=true:=rfl
@[simp] theorem ra(x:X)(l:ac X):ef (x::l)=(g1 x&&ef l):=by
 show(bif g1 x then ef l else false)=_
 grind
@[simp] theorem aAA(l:ac X)(a b:Nat):wa l a b=if ef l=true then .ok (.slice (.cells l false) a b)else .no "cells" := by
 show(bif ef l then _ else _)=_
 grind
@[simp] theorem DD(n:Nat):(n=n+1+1)↔False:=aa
@[simp] theorem AX(n:Nat):(n=n+1+1+1)↔False:=aa
@[simp] theorem ne4(n:Nat):(n=n+1+1+1+1)↔False:=aa
@[simp] theorem aA7(n:Nat):(n+1+1=n)↔False:=aa
@[simp] theorem aA8(n:Nat):(n+1+1+1=n)↔False:=aa
@[simp] theorem aA9(n:Nat):(n+1+1+1+1=n)↔False:=aa
theorem Wf(a:Addr):zZ a a=true:=by
 obtain⟨b,o,aO⟩:=a;unfold zZ;cases aO <;> simp
@[simp] theorem sf(k:IntKind)(n:Int):oP (.int k n) (.int k n)=true:=by show(mn k k&&ga n n)=true;rw[v6,k3];simp
@[simp] theorem xY(b:ao):oP (.bool b) (.bool b)=true:=by show(b == b)=true;simp
@[simp] theorem ta(a:ay Addr)(l c:Nat):oP (.slice a l c) (.slice a l c)=true:=by
 cases a with
 |none=>show(Nat.beq l l&&Nat.beq c c)=true;simp
 |some a=>show(zZ a a&&Nat.beq l l&&Nat.beq c c)=true;simp[Wf]
@[simp] theorem B0(l:ac X):oP (.agg ⟨l⟩) (.agg ⟨l⟩)=qw l l:=rfl
@[simp] theorem ake:qw [] []=true:=rfl
@[simp] theorem aiT(x y:X)(l m:ac X):qw (x::l) (y::m)=(qv x y&&qw l m):=rfl
@[simp] theorem aAC(k:IntKind)(n:Int):qv (.int k n) (.int k n)=true:=sf k n
@[simp] theorem aAx(a:ay Addr)(l c:Nat):qv (.slice a l c) (.slice a l c)=true:=ta a l c
@[simp] theorem si(v w:X):nv v (.ok w)=oP v w:=rfl
theorem amA{aB:Type}{enc:aB->ac X}{k:Nat}(g:∀x,(enc x).length=k){l:ac aB}{x:aB}(A:l[i]? = some x)(C:(enc x)[j]? = some v):(a7 enc l)[i*k+j]? = some v:=by rw[E7 g A aa,C]
end
def cY(x:Int):ac X:=[(x:X)]
def hw(l:ac Int):ac X:=l.map (λx=>Value.int .i64 x)
theorem jm:∀l:ac Int,a7 cY l=hw l
 | []=>rfl
 |x::l=>by show cY x++a7 cY l=_;rw[jm l];rfl
theorem j4{l:ac Int}{x:Int}(h:l[i]? = some x):(hw l)[i]? = some (x:X):=by simp[hw,h]
theorem zN(l:ac Int):(hw l).length=l.length:=by simp[hw]
theorem ints_set(l:ac Int)(i:Nat)(x:Int):(hw l).set i (x:X)=hw (l.set i x):=by simp[hw,List.map_set]
section
variable {P:Program}  {s:ao}
end
set_option linter.unusedSectionVars false
section
variable {P:Program}
@[simp] theorem zT(t:TypeId)(k:IntKind)(a b:Int):bin P .mul t (.int k a) (.int k b) = .ok (.int k (k.wrap (a*b))):=by rw[ss _ _ _ _ _ rfl,<-nW];rfl
theorem Ck{k:IntKind}{b:Int}(g:b≠0):bin P .quo t (.int k a) (.int k b) = .ok (.int k (k.wrap (a.tdiv b))):=by rw[ss _ _ _ _ _ rfl];show CZ .quo k a b=_;unfold CZ;rw[k3,show(b == 0)=false by grind,<-nW];rfl
end
section
variable {P:Program} {aB:Type} [Inhabited aB] {enc:aB->ac X} {k:Nat}
def kU(c:aB->aB->Int)(x y:aB):ao:=decide (c x y<0)
def Ka(enc:aB->ac X)(c:aB->aB->Int)(l:ac aB)(b U:Nat)(h:ae):bZ:=λ_ ab Y=>U<=Y/\(∃cV:ac aB,cV.Perm l/\cV.Pairwise (λx y=>¬c y x<0)/\u ab b=some (.cells (a7 enc cV) false))/\∀c,c<U->c≠b->u ab c=u h c
theorem amB{w:World}(au:w.heap.size<=bc.heap.size)(L:bc.os=w.os)(E:qS w bc)(I:bc.output=w.output)(V:∀k,k<w.heap.size->bc.heap[k]? = w.heap[k]?):∃q A,bc=grow (w.drewN q) A:=by
 refine⟨bc.drawn-w.drawn,bc.heap.extract w.heap.size bc.heap.size,?_⟩;obtain⟨g,M,C,A,N⟩:=bc;have h1:g=w.heap++g.extract w.heap.size g.size:=aa
 have ap:C=w.drawn+(C-w.drawn):=by have:=E.2;grind
 have Z:M=w.tape:=E.1;simp only at L I h1 ap;unfold grow World.drewN
 grind
theorem E1:∀{l:ac X},h2 l=true->∀{x},x∈l->qq x=true
 |y::l,h,x,g=>by
  have h:(qq y&&h2 l)=true:=h;simp only[eA]at h;rcases hD.1 g with rfl|g
  ·grind
  ·exact E1 h.2 g
theorem kT.up{P:Program}{s:ao}(A:kT P f args h U (tT v ab Y))(g:K v ab Y):aD P s f args h U K:=by
 cases s with
 |true=>exact⟨v,ab,Y,g,A⟩
 |false=>exact A.mono λ_ _ _ ⟨I,E,C⟩=>by rw[I,E,C];exact g
def Gu(P:Program)(f:FuncId)(enc:aB->ac X)(c:aB->aB->Int):Prop:=∀x y h U,aD P false f [.agg ⟨enc x⟩,.agg ⟨enc y⟩] h U (λv _ _=>v = .int .i64 (c x y))
theorem aqs{c:aB->aB->Int}(L:∀x,h2 (enc x)=true)(Z:Gu P Bs enc c)(C off A:Nat)(w:World):CmpLays P Bs #[] enc k c C off A w:=by
 intro m os N _ x y;generalize sortWorldK enc k w C off m N os=W;obtain⟨_,ap⟩:=Z x y iy 0;have E:ec W.heap.size (λ_=>none) (u iy) W:=⟨cR _,λb p o h=>(by cases h),λb cr p eH h=>(by cases h),λb h=>by rw[Jq]at h;cases h⟩
 have aI:dt (λ_=>none) [.agg ⟨enc x⟩,.agg ⟨enc y⟩] [.agg ⟨enc x⟩,.agg ⟨enc y⟩]:=.cons (.agg (I1 (L x) _)) (.cons (.agg (I1 (L y) _)) .nil);have:=callsIn_wide.1 (ap W.heap.size _ W _ E (λb _=>rfl) aI 0);refine Calls.mono this ?_;rintro e bc ⟨v,ab,Y,bo,V,rfl,rfl,I,g⟩;have:V = .int .i64 (c x y):=zI rfl I;subst this;exact⟨rfl,amB g.size g.os g.tape g.output λk M=>g.frame k M (by rintro⟨b,p,a1,_⟩;omega)⟩
def qt(c:aB->aB->Int)(l:ac aB):ac aB:=(pdq (ltOf c) l.toArray 0 l.length (Lib.bitLen l.length) true true).toList
theorem N3{c:aB->aB->Int}(L:SWO (ltOf c))(l:ac aB):(qt c l).length=l.length/\(qt c l).Perm l/\(qt c l).Pairwise (λx y=>¬c y x<0):=by
 have h:=pdq_sorts (ltOf c) L l.toArray 0 l.length (Lib.bitLen l.length) true true (Nat.zero_le _) (by simp) (Or.inl rfl);unfold qt;generalize pdq (ltOf c) l.toArray 0 l.length (Lib.bitLen l.length) true true=R at *
 obtain⟨E,A⟩:=h;have M:R.size=l.length:=by rw[E.1];simp
 refine⟨J,?_,?_⟩
 ·have aH:=E.2.2;have N:R.extract 0 l.length=R:=aa
  grind
 ·rw[xL];intro i j aj V C;have g:j<R.size:=J
  have dB:i<R.size:=J
  have I:=A i j (Nat.zero_le _) C J;rw[getElem!_pos R i dB,getElem!_pos R j g]at I;have Z:=of_decide_eq_false I
  grind
theorem OA(E:∀x,(enc x).length=k)(l:ac aB){t:Nat}(I:t<l.length*k):(a7 enc l)[t]? = some (flatK enc k l.toArray)[t]!:=by
 have A:0<k:=Nat.pos_of_ne_zero (λh=>aa);have C:t / k<l.length:=(Na A).2 I;have L:=zD t A;rw[get_flatK _ _ _ _ J];have e:t=t / k*k+t % k:=by rw[xQ];exact(Nat.div_add_mod t k).symm
 conv=>lhs;rw[e]
 have h1:(l.toArray)[t / k]! = l[t / k]:=aa
 have g:t % k<(enc l[t / k]).length:=aa
 rw[amA E (qi C) (qi g),h1]
 grind
theorem Pw(g9:pL P){s:ao}{c:aB->aB->Int}(L:SlLaysF0.n6 P Ee)(bD:Ee.f 6=f)(V:B8 P f)(sI:B8 P Bs)(kn:SWO (ltOf c))(aCB:∀w,(isAgg (Ee.t 24)).run P w = .ok true w)(aCC:∀w,(Go.sizeOf (Ee.t 24)).run P w = .ok k w)(C:∀x,(enc x).length=k)(bn:∀x,h2 (enc x)=true)(h1:∀x,∀v∈enc x,v.oneCell'=true)(a5:Gu P Bs enc c){n:Nat}{aO:ay Nat}{l:ac aB}(rF:l.length=n)(bw:n<1000000)(sJ:b<U)(fo:u h b=some (.cells (a7 enc l) false)):
  aD P s f [.slice (some ⟨b,0,aO⟩) n cap,.func (.func Bs) #[] #[]] h U (Ka enc c l b U h):=by
 subst bD;obtain⟨p3,nk,kZ⟩:=N3 kn l;refine kT.up (v:=.tuple #[]) (ab:=T h b (.cells (a7 enc (qt c l)) false)) (Y:=U) ⟨V,λB ai w M ba lP dy a0=>callsIn_wide.2 ?_⟩ ⟨cR _,⟨_,nk,kZ,by rw[vX,if_pos rfl]⟩,λc a5 fk=>by rw[vX,if_neg fk]⟩;obtain⟨_,_,aX,cd,rfl⟩:∃x y,bJ ai _ x/\bJ ai _ y/\M=[x,y]:=by
  cases dy with|cons aX dy=>cases dy with|cons cd dy=>cases dy;exact⟨_,_,aX,cd,rfl⟩
 cases zI (ai:=ai) rfl cd;obtain⟨ev,bT,rfl,oQ⟩:=aX.xZ;have I:∀bc,(cC B ai (u h) w U U ai (u (T h b (.cells (a7 enc (qt c l)) false))) bc)->Fin B ai h w U (tT (.tuple #[]) (T h b (.cells (a7 enc (qt c l)) false)) U) (.returned (.tuple #[])) bc:=λbc bx=>⟨_,_,_,ai,_,rfl,⟨rfl,rfl,rfl⟩,.tuple .nil,bx⟩
 rcases zz n with aq|RW
 ·subst aq;have pK:l=[]:=Es rF;have qJ:qt c l=[]:=Es J;refine(AnyF.slices_SortFunc_none L ev bT _ w).mono ?_;rintro e bc ⟨rfl,rfl⟩;refine I _ ?_;have:u (T h b (.cells (a7 enc (qt c l)) false))=u h:=funext λx=>by
   rw[vX]
   grind
  rw[this];exact cC.refl U ba
 ·obtain⟨p,a1,rfl⟩:∃p,ai b=some p/\ev=some ⟨p.ct,p.off+0,none⟩:=aa
  have Z:=ba.obj b p _ a1 fo;obtain⟨er,A,N,ew,al,aj,bV,hfz,g,agx⟩:=Z;have sK:=fX (enc:=enc) C l;have aBa:l.length*k<=N.size:=J
  have vp:∀t,t<l.length*k->N[t]? = some (flatK enc k l.toArray)[t]!:=λt cK=>by obtain⟨d7,aW,aP⟩:=g t _ (OA C l cK);rw[iU]at aW;have qG:qq (flatK enc k l.toArray)[t]! = true:=E1 (E0 bn l) (k1 (OA C l cK));rw[aW,zI qG aP]
  have fp:HoldsK enc k w p.ct 0 l.toArray:=λt cK=>by
   have cK:t<l.length*k:=by simpa using cK
   refine⟨?_,?_⟩
   ·simp only[World.cell?,bV,iU,BR,np,ff]
    grind
   ·simp only[World.frozen?,bV]
    grind
  have E:=AnyQ.slices_SortFunc_eq L k aCB aCC enc C h1 c kn Bs #[] p.ct 0 bT l.toArray w (by obtain⟨fn,dq,eF,hb⟩:=sI;obtain⟨gs,mF⟩:=lI.1 eF;exact enters_of dq hb mF) (aqs bn a5 _ _ _ _) fp (ba.obj b p _ a1 fo).Cw aa
  rw[show l.toArray.size=n by omega]at E;rw[A];refine Calls.mono E ?_;rintro e bc ⟨rfl,m,os,rfl⟩;refine I _ ?_;have bs:(pdq (ltOf c) l.toArray 0 n (Lib.bitLen n) true true)=(qt c l).toArray:=by unfold qt;grind
  rw[bs];unfold sortWorldK;generalize qt c l=d at *
  have hdl:d.length*k=l.length*k:=by rw[p3]
  have Tf:(putRowK enc k (Sort.ahead w m) p.ct 0 d.toArray).heap[p.ct]? = some (.cells (putCells id 0 (flatK enc k d.toArray) N) ew (al,aj)):=by simp[putRowK,putRow,mapBlock,Sort.ahead,IB,bV,onCells]
  have jE:(putCells id 0 (flatK enc k d.toArray) N).size=N.size:=by simp[putCells]
  have hfd:=fX (enc:=enc) C d;have Tg:cC B ai (u h) w U U ai (fm.put (u h) b (.cells (a7 enc d) false)) (putRowK enc k (Sort.ahead w m) p.ct 0 d.toArray):=by
   refine cC.change U ba a1 fo er (by simp[putRowK,Sort.ahead]) (λx aX=>?_) rfl ⟨rfl,Nk _ _⟩ rfl ⟨er,A,_,ew,al,aj,Tf,J,λi v aI=>?_,J⟩
   ·simp[putRowK,putRow,mapBlock,Sort.ahead,IB,kt aX]
   ·have dB:i<d.length*k:=aa
    have aW:=OA C d dB;rw[aI]at aW;refine⟨v,?_,BW (E1 (E0 bn d) (k1 aI)) ai⟩;have hic:i<N.size:=J
    simp[putCells,Array.getElem?_mapIdx,hic,dB]
    grind
  rw[uM];exact Tg.trans (cC.still Tg.rel (by simp) rfl ⟨rfl,cR _⟩ rfl λk C=>heap_grow_old _ _ C)
theorem YO{s:ao}(L:SlLaysF0.n6 P Ee)(V:Ee.f 6=f)(C:B8 P f)(M:K (.tuple #[]) h U):aD P s f [.slice none 0 0,.func (.func Bs) #[] #[]] h U K:=by
 subst V;refine kT.up ⟨C,λB ai w g N Z A a0=>callsIn_wide.2 ?_⟩ M;obtain⟨_,_,E,I,rfl⟩:∃x y,bJ ai _ x/\bJ ai _ y/\g=[x,y]:=by
  cases A with|cons E A=>cases A with|cons I A=>cases A;exact⟨_,_,E,I,rfl⟩
 cases E;refine(AnyF.slices_SortFunc_none L none 0 _ w).mono ?_;rintro e bc ⟨rfl,rfl⟩;exact⟨_,h,U,ai,_,rfl,⟨rfl,rfl,rfl⟩,.tuple .nil,cC.refl U N⟩
end
structure GE where
 f:Nat
 t:Nat
 w:Int
def b3(e:GE):ac X:=[(e.f:X),(e.t:X),(e.w:X)]
def gQ(n:Nat)(g:GE):Prop:=g.f<n/\g.t<n/\0<=g.w/\g.w<=2147483647
theorem aaR{P:Program}{k:IntKind}{b:Int}(g:b≠0):bin P .rem t (.int k a) (.int k b) = .ok (.int k (a.tmod b)):=by rw[ss _ _ _ _ _ rfl];show(bif ga b 0 then _ else _)=_;rw[k3,show(b == 0)=false by grind];rfl
theorem aqt{P:Program}{b:Int}:bin P .and t (a:X) (b:X) = .ok (.int .i64 (IntKind.wrap .i64 ((BitVec.ofInt 64 a &&& BitVec.ofInt 64 b).toNat))):=by rw[ss _ _ _ _ _ rfl];rfl
theorem dX.form{aB:Type}{enc:aB->ac X}{k:Nat}{l:ac aB}(au:dX h v enc k l al aj):∃a n c,v = .slice a n c:=by
 rcases au with⟨_,rfl⟩|⟨_,_,_,rfl,_⟩ <;> grind
theorem dX.F{aB:Type}{enc:aB->ac X}{k:Nat}{l:ac aB}(au:dX h v enc k l al aj)(A:∀b,al<=b->b<aj->u ab b=u h b)(g:aj<=dB):dX ab v enc k l al dB:=by
 rcases au with au|⟨b,h1,ap,e,C⟩
 ·exact .inl au
 ·exact .inr ⟨b,h1,J,e,aa⟩
set_option linter.defProp false
section
variable {P:Program}  {s:ao}
theorem sx{b:ao}{p q:Prop}:bt (.bool b) p q↔(b=true->p)/\(b=false->q):=by
 cases b <;> simp[bt]
theorem ae6{b:kX}{h:ae}{U:Nat}{k:X->ae->Nat->Prop}:dS (.ok b) h U k↔k (wR U b) (T h U (sC b)) (U+1):=Iff.rfl
theorem K0{v:X}{h:ae}{U:Nat}{k:X->ae->Nat->Prop}:dm (.val v h U) k↔k v h U:=Iff.rfl
theorem yp{f:FuncId}{l:ac X}{h:ae}{U:Nat}{k:X->ae->Nat->Prop}:fg P s (.call f l h U) k↔aD P s f l h U k:=Iff.rfl
theorem ae7{f:ae->R X}{v:X}{p:Prop}{au:ac ae}:oW f v p 0 au↔p:=Iff.rfl
theorem ae8{f:ae->R X}{v:X}{p:Prop}{h:ae}{au:ac ae}:oW f v p 1 (h::au)↔nv v (f h)=true/\p:=Iff.rfl
theorem ae9{f:ae->R X}{v:X}{p:Prop}{h h1:ae}{au:ac ae}:oW f v p 2 (h::h1::au)↔nv v (f h)=true/\nv v (f h1)=true/\p:=Iff.rfl
theorem afa{f:ae->R X}{v:X}{p:Prop}{h h1 ap:ae}{au:ac ae}:oW f v p 3 (h::h1::ap::au)↔nv v (f h)=true/\nv v (f h1)=true/\nv v (f ap)=true/\p:=Iff.rfl
def z5{e4:Type}(o:ay gm)(k:ac X->ao->R e4):R e4:=match o with
 |some (.cells cs bL)=>k cs bL
 |some _=>.no "cells expected"
 |none=>.no "no such block"
theorem I9{e4:Type}(h:ae)(b:Nat)(k:ac X->ao->R e4):cellsOf h b k=z5 (u h b) k:=by
 unfold cellsOf z5;cases u h b with
 |none=>rfl
 |some o=>cases o <;> rfl
theorem Fo{e4:Type}(cs:ac X)(bL:ao)(k:ac X->ao->R e4):z5 (some (.cells cs bL)) k=k cs bL:=rfl
theorem Kv(g:ay Nat)(h:ae)(a:Addr):iO g h (.pointer (some a))=z5 (u h a.block) (λcs _=>hg g a.off cs):=I9 _ _ _
theorem aaS(off b o:Nat)(aO:ay Nat):wq off (.pointer (some ⟨b,o,aO⟩)) = .ok (.pointer (some ⟨b,o+off,none⟩)):=rfl
theorem Rp(k:wQ)(x:X)(t:IntKind)(n:Nat):f0 k x (.int t (n:Int))=xX k x n:=rfl
theorem awL(k:wQ)(x:X)(t:IntKind):f0 k x (.int t 0)=xX k x 0:=rfl
theorem awM(k:wQ)(x:X)(t:IntKind):f0 k x (.int t 1)=xX k x 1:=rfl
theorem aaT(a b:X):Gn (.bool true) a b = .ok a:=rfl
theorem aaU(a b:X):Gn (.bool false) a b = .ok b:=rfl
theorem auf(h:ae)(n:Nat)(l:ac X)(a:Addr):SJ h n l a=if l.length=n then qr h a.block a.off l else .no "store - size" := by
 unfold SJ;rw[nX]
 by_cases e:l.length=n
 ·rw[if_pos e,e,uB];rfl
 ·rw[if_neg e];cases g:Nat.beq l.length n with
  |true=>exact absurd (gE g) e
  |false=>rfl
theorem OB{l:ac X}{n:Nat}(g:n+aJ.length<=l.length):mS aJ l n=some (l.take n++aJ++l.drop (n+aJ.length)):=by rw[tg,if_pos g,kq]
theorem I0{l:ac X}(A:u h b=some (.cells cs false))(C:ef l=true)(g:off+l.length<=cs.length):qr h b off l = .ok (T h b (.cells (cs.take off++l++cs.drop (off+l.length)) false)):=by unfold qr;rw[I9,A,Fo,C,OB g];rfl
theorem afb(h:ae)(n:Nat)(a:Addr)(x:X):aN h n (.pointer (some a)) x=if(c7 x).length=n then qr h a.block a.off (c7 x)else .no "store - size" := auf _ _ _ _
theorem agA(x:X)(l:ac X):aT (x::l) 0=x:=rfl
theorem agB(x:X)(l:ac X)(i:Nat):aT (x::l) (i+1)=aT l i:=rfl
theorem aug(h:ae)(r:Nat):wD h (.map (some r))=k6 h r (λes _=>jc .i64 (.ofNat (jq es))):=rfl
theorem ac6(k:IntKind)(a b:Int):min2 true (.int k a) (.int k b) = .ok (.int k (min a b)):=by
 show(bif mn k k then jc k (bif lo b a then b else a)else _)=_;rw[v6,rh]
 by_cases h:b<a
 ·simp[h,jc,Int.min_def] <;> omega
 ·simp[h,jc,Int.min_def] <;> omega
theorem ac7(k:IntKind)(a b:Int):min2 false (.int k a) (.int k b) = .ok (.int k (max a b)):=by
 show(bif mn k k then jc k (bif lo a b then b else a)else _)=_;rw[v6,rh]
 by_cases h:a<b
 ·simp[h,jc,Int.max_def] <;> omega
 ·simp[h,jc,Int.max_def] <;> omega
theorem bF.mk{B:oy}{E:ac (Nat × aQ)}{R:aQ}(eG:Nat->ac X->ae->Nat->Prop)(m:Nat)(A:eG m aJ h U)(au:∀m aJ h U,eG m aJ h U->B aJ h U (λaJ h U=>∃g,g<m/\eG g aJ h U) E R):bF B aJ h U E R:=⟨eG,m,A,au⟩
def mG:=And.intro @CR (And.intro @ae5 (And.intro @sx (And.intro @ae6 (And.intro @K0 (And.intro @yp (And.intro @ae7 (And.intro @ae8 (And.intro @ae9 @afa))))))))
def fE:=And.intro @Pu (And.intro @aaI (And.intro @JQ (And.intro @aaJ (And.intro @aaK (And.intro @aaL (And.intro @aaM (And.intro @aaN (And.intro @acZ (And.intro @YK (And.intro @ac6 @ac7))))))))))
def gh:=And.intro @Fo (And.intro @Kv (And.intro @aaS (And.intro @Rp (And.intro @awL (And.intro @awM (And.intro @aaT (And.intro @aaU (And.intro @afb (And.intro @Xo (And.intro @Xp (And.intro @WB (And.intro @WA (And.intro @VO (And.intro @FL (And.intro @e9 (And.intro @WC (And.intro @Xq (And.intro @YI (And.intro @N0 @YJ)))))))))))))))))))
def gt:=And.intro @agA (And.intro @agB (And.intro @aaO (And.intro @aaP (And.intro @Xu (And.intro @Xv (And.intro @ac1 (And.intro @YN (And.intro @ac4 (And.intro @aaQ (And.intro @ac5 (And.intro @Xw (And.intro @WG (And.intro @We (And.intro @Xx (And.intro @Xy @ra)))))))))))))))
end
abbrev iE:=ay Nat × Nat
def svV(s:iE):X:=match s.1 with
 |none=>.slice none 0 0
 |some b=>.slice (some ⟨b,0,some 1⟩) s.2 s.2
def eP(s:iE):ac X:=[svV s]
def svs(l:ac iE):ac X:=l.map svV
theorem aqu(l:ac iE):(svs l).length=l.length:=by simp[svs]
section
variable {aB:Type}
inductive fu (h:ae) (enc:aB->List Value) (k:Nat):Value->List aB->Option Nat->Prop where
 |nil:fu h enc k (.slice none 0 0) [] none
 |own {b:Nat} {l:List aB} (a1:u h b=some (.cells (a7 enc l) false)):fu h enc k (.slice (some ⟨b,0,some k⟩) l.length l.length) l (some b)
 |part {b o:Nat} {l:List aB} {cs:List Value} {bL:Bool} (a1:u h b=some (.cells cs bL)) (br:o+l.length*k<=cs.length) (a5:(cs.drop o).take (l.length*k)=a7 enc l):fu h enc k (.slice (some ⟨b,o,none⟩) l.length l.length) l (some b)
theorem fu.F{enc:aB->ac X}{k:Nat}{l:ac aB}(g:fu h enc k v l o)(A:∀b,o=some b->u ab b=u h b):fu ab enc k v l o:=by
 cases g with
 |nil=>exact .nil
 |own C=>exact .own aa
 |part C E I=>exact .part (by rw[A _ rfl];omega) E I
theorem fu.lens{enc:aB->ac X}{k:Nat}{l:ac aB}(g:fu h enc k v l o):yA v = .ok (l.length:X):=by
 cases g <;> rfl
theorem aaV(n:Nat):Nat.ble (n+1) n=false:=by
 cases g:Nat.ble (n+1) n with
 |false=>rfl
 |true=>have:=lJ g;omega
theorem fu.app{enc:aB->ac X}{k:Nat}(N:∀x,(enc x).length=k)(I:∀x,ef (enc x)=true)(A:0<k){l:ac aB}(g:fu h enc k v l o){L:ac X}{w6:ao}{x:aB}(ap:u h b2=some (.cells L w6))(aX:(L.drop dQ).take k=enc x)(jE:(l.length+1)*k<=1000000):
  ∃ab,dn k h U v (.slice (some ⟨b2,dQ,mr⟩) 1 rv) = .ok (.val (.slice (some ⟨U,0,some k⟩) (l.length+1) (l.length+1)) ab (U+1))/\u ab U=some (.cells (a7 enc (l++[x])) false) /\
   (∀c,c≠U->o≠some c->u ab c=u h c):=by
 have C:k<=L.length-dQ:=aa
 have h1:l.length+1<=1000000:=hJ (by have:=BP (l.length+1) A;omega) jE;have M:(Nat.ble (Nat.mul (Nat.add l.length 1) k) 1000000&&Nat.ble (Nat.add l.length 1) 1000000)=true:=by
  simp only[eA,sd]
  grind
 cases g with
 |nil =>
  refine⟨T h U (.cells (enc x) false),?_,by simp[a7],aa⟩;unfold dn;simp only;rw[xS,s9,sh ap A C,aX];unfold ge;rw[show Nat.ble (Nat.add 0 1) 0=false from rfl];have M:(Nat.ble (Nat.mul (Nat.add 0 1) k) 1000000&&Nat.ble (Nat.add 0 1) 1000000)=true:=M;rw[M];exact po A
 | @own b _ Z =>
  refine⟨T (wB h b) U (.cells (a7 enc l++enc x) false),?_,by simp[sg],λc a5 V=>by rw[sH,if_neg a5,rI,if_neg (λe=>V (by rw[e]))]⟩
  unfold dn;simp only;rw[xS,s9,sh ap A C,aX];unfold ge;rw[show Nat.ble (Nat.add l.length 1) l.length=false from aaV _,M];show pw h U k (some ⟨b,0,some k⟩) l.length l.length (l.length+1) (enc x)=_;unfold pw;simp only[uE Z];have E:mT (Nat.mul l.length k) (mO (a7 enc l) 0)=some (a7 enc l):=by rw[rc,nr,qn,if_pos (by rw[fX N];grind)];rw[q3 (by rw[fX N];grind)]
  rw[E];have cy:(!false&&Nat.beq 0 0&&Nat.beq (jq (a7 enc l)) (Nat.mul l.length k)&&Nat.beq k k&&Nat.beq l.length l.length&&ef (enc x))=true:=by rw[nX,fX N,I];simp
  show(bif _ then _ else _)=_;rw[cy,j5];exact po A
 | @part b o _ cs bL Z br a5 =>
  refine⟨T h U (.cells (a7 enc l++enc x) false),?_,by simp[sg],aa⟩;unfold dn;simp only;rw[xS,s9,sh ap A C,aX];unfold ge;rw[show Nat.ble (Nat.add l.length 1) l.length=false from aaV _,M];unfold pw;simp only[uE Z];have E:mT (Nat.mul l.length k) (mO cs o)=some (a7 enc l):=by
   rw[rc,qn,if_pos aa]
   grind
  rw[E];show pv h U k (kP (a7 enc l) (enc x)) _=_;rw[j5];exact po A
end
theorem dW{aB:Type}{l:ac aB}(h:i<l.length):∃x,l[i]? = some x:=⟨_,qi h⟩
section
variable {e4:Type}
end
section
variable {P:Program}  {s:ao}
theorem cF(h:i<1000000000000):IntKind.wrap .i64 ((i:Int)+1)=((i+1:Nat):Int):=by rw[CS J J];simp
theorem aR(h:ae)(b:Nat)(o:gm):u (T h b o) b=some o:=by rw[sH,if_pos rfl]
theorem ar{h:ae}{b c:Nat}{o:gm}(e:c≠b):u (T h b o) c=u h c:=by rw[sH,if_neg e]
theorem akf(l:ac X):FC l=if ef l=true then .ok (.ptr (.cells l false))else .no "cells" := by
 unfold FC
 grind
theorem aik(x:X)(l:ac X):ef (x::l)=(g1 x&&ef l):=by rw[ra]
theorem Xz(l:ac X)(a b:Nat):wa l a b=if ef l=true then .ok (.slice (.cells l false) a b)else .no "cells" := by
 unfold wa
 grind
theorem Sa{t:IntKind}{n i b o cap z:Nat}{aO:ay Nat}(aj:i<n):f0 (.slice z) (.slice (some ⟨b,o,aO⟩) n cap) (.int t (i:Int)) = .ok (.pointer (some ⟨b,o+i*z,none⟩)):=by rw[Rp,Xo,if_pos aj]
theorem Sb{t:IntKind}{n i b o z:Nat}{aO:ay Nat}(aj:i<n):f0 (.array n z) (.pointer (some ⟨b,o,aO⟩)) (.int t (i:Int)) = .ok (.pointer (some ⟨b,o+i*z,none⟩)):=by rw[Rp,Xp,if_pos aj]
theorem awN{t:IntKind}{n b o cap z:Nat}{aO:ay Nat}(aj:0<n):f0 (.slice z) (.slice (some ⟨b,o,aO⟩) n cap) (.int t 0) = .ok (.pointer (some ⟨b,o,none⟩)):=by
 have:=Sa (t:=t) (b:=b) (o:=o) (cap:=cap) (aO:=aO) (z:=z)  aj
 grind
theorem awO{t:IntKind}{n b o z:Nat}{aO:ay Nat}(aj:0<n):f0 (.array n z) (.pointer (some ⟨b,o,aO⟩)) (.int t 0) = .ok (.pointer (some ⟨b,o,none⟩)):=by
 have:=Sb (t:=t) (b:=b) (o:=o) (aO:=aO) (z:=z)  aj
 grind
theorem awP{t:IntKind}{n b o cap z:Nat}{aO:ay Nat}(aj:1<n):f0 (.slice z) (.slice (some ⟨b,o,aO⟩) n cap) (.int t 1) = .ok (.pointer (some ⟨b,o+z,none⟩)):=by
 have:=Sa (t:=t) (b:=b) (o:=o) (cap:=cap) (aO:=aO) (z:=z)  aj
 grind
theorem awQ{t:IntKind}{n b o z:Nat}{aO:ay Nat}(aj:1<n):f0 (.array n z) (.pointer (some ⟨b,o,aO⟩)) (.int t 1) = .ok (.pointer (some ⟨b,o+z,none⟩)):=by
 have:=Sb (t:=t) (b:=b) (o:=o) (aO:=aO) (z:=z)  aj
 grind
def iW(o:ay gm)(h:ae)(b off:Nat)(l:ac X):R ae:=match o with
 |some (.cells cs false)=>bif ef l then R.of "write - out of block" (mS l cs off) (λcs=>.ok (T h b (.cells cs false)))else .no "write - cells"
 |_=>.no "write"
theorem awR{h:ae}{n:Nat}{a:Addr}{x:X}{k:ae->Prop}:af (aN h n (.pointer (some a)) x) k↔(c7 x).length=n/\af (iW (u h a.block) h a.block a.off (c7 x)) k:=by
 rw[afb]
 by_cases g:(c7 x).length=n
 case neg=>rw[if_neg g];exact⟨λh=>h.elim,λh=>g h.1⟩
 rw[if_pos g];refine Iff.trans ?_ (and_iff_right g).symm;unfold qr iW;rw[I9];cases u h a.block with
 |none=>exact Iff.rfl
 |some o =>
  cases o with
  |cells cs bL =>
   rw[Fo];cases bL with
   |true=>exact Iff.rfl
   |false=>grind
  |_=>exact Iff.rfl
theorem awS{h:ae}{b off:Nat}{cs:ac X}{v:X}{k:ae->Prop}:af (iW (some (.cells cs false)) h b off [v]) k↔g1 v=true/\off<cs.length/\k (T h b (.cells (cs.set off v) false)):=by
 show af (bif ef [v]then R.of _ (mS [v] cs off) _ else _) k↔_;rw[ra,tg];cases A:g1 v with
 |false=>exact⟨λh=>h.elim,λh=>by cases h.1⟩
 |true =>
  by_cases g:off<cs.length
  ·rw[if_pos aa,VI,if_pos g];exact⟨λh=>⟨rfl,g,h⟩,λh=>h.2.2⟩
  ·rw[if_neg aa];exact⟨λh=>h.elim,λh=>g h.2.1⟩
theorem z6{l:ac X}{k:ae->Prop}:af (iW (some (.cells cs false)) h b off l) k↔ef l=true/\off+l.length<=cs.length/\k (T h b (.cells (cs.take off++l++cs.drop (off+l.length)) false)):=by
 show af (bif ef l then R.of _ (mS l cs off) _ else _) k↔_;rw[tg];cases A:ef l with
 |false=>exact⟨λh=>h.elim,λh=>by cases h.1⟩
 |true =>
  by_cases g:off+l.length<=cs.length
  ·rw[if_pos g,<-kq];exact⟨λh=>⟨rfl,g,h⟩,λh=>h.2.2⟩
  ·rw[if_neg g];exact⟨λh=>h.elim,λh=>g h.2.1⟩
theorem awT{h:ae}{b:Nat}{cs l:ac X}{x y:X}{k:ae->Prop}:af (iW (some (.cells cs false)) h b 0 (x::y::l)) k↔ef (x::y::l)=true/\(x::y::l).length<=cs.length/\k (T h b (.cells (x::y::l++cs.drop (x::y::l).length) false)):=by rw[z6];simp
theorem Kw{l:ac X}(A:ef l=true)(g:off+l.length<=cs.length):iW (some (.cells cs false)) h b off l = .ok (T h b (.cells (cs.take off++l++cs.drop (off+l.length)) false)):=by show(bif ef l then R.of _ (mS l cs off) _ else _)=_;rw[OB g,A];rfl
theorem auh(t:TypeId)(v:X):c7 (.iface t v)=[.iface t v]:=rfl
theorem aui(r:ay Nat):c7 (.map r)=[.map r]:=rfl
theorem awU(f:Fn)(a b:Array X):c7 (.func f a b)=[.func f a b]:=rfl
theorem awV:c7 .nilFunc=[.nilFunc]:=rfl
theorem akg(r:ay Nat):g1 (.map r)=true:=rfl
theorem aiU(f:Fn)(a b:Array X):g1 (.func f a b)=true:=rfl
theorem amC:g1 .nilFunc=true:=rfl
theorem aqv(U:Nat):wR U .map = .map (some U):=rfl
theorem aqw:sC .map = .map [] 0:=rfl
theorem akh(c:ac X):oO [] c = .ok c:=rfl
theorem aqx(off z:Nat)(x:X)(g:ac (Nat × Nat × X))(c:ac X):oO ((off,z,x)::g) c=qs (oO g) off z (c7 x) c:=rfl
theorem OC{g:ac X->R (ac X)}{off:Nat}{v:X}{c:ac X}:qs g off 1 [v] c=if off<c.length then g (c.set off v)else .no "fill" := by
 show(bif Nat.beq (jq [v]) 1 then R.of "fill" (mS [v] c off) g else _)=_;rw[nX,tg]
 by_cases A:off<c.length
 ·rw[if_pos A,if_pos aa,VI,if_pos A];rfl
 ·rw[if_neg A,if_neg aa];rfl
theorem Js{g:ac X->R (ac X)}{n:Nat}{l:ac X}(A:l.length=n)(C:off+n<=c.length):qs g off n l c=g (c.take off++l++c.drop (off+n)):=by show(bif Nat.beq (jq l) n then R.of "fill" (mS l c off) g else _)=_;rw[nX,A,uB,OB J,A];rfl
theorem auj(z:ac X)(ce:ac (Nat × Nat × X)):cw z ce=R.bind (oO ce z) (λl=>.ok (.agg ⟨l⟩)):=rfl
theorem auk(n:Nat)(z:ac X)(ce:ac (Nat × Nat × X)):eO n z ce=R.bind (oO ce z) (λl=>wa l n n):=rfl
theorem aiV{n off:Nat}{x:X}{cs:ac X}:hg (some n) off (x::cs)=if n<=(x::cs).length-off then .ok (.agg ⟨((x::cs).drop off).take n⟩)else .no "load - out of block" := qm n off (x::cs)
theorem ti{c2:Nat}{l:ac Int}{x:Int}{k:X->ae->Nat->Prop}(g:fu h cY 1 v l o)(ap:u h b2=some (.cells [(x:X)] bL))(E:l.length<1000000)(C:∀ab,u ab U=some (.cells (hw (l++[x])) false)->(∀c,c≠U->o≠some c->u ab c=u h c)->k (.slice (some ⟨U,0,some 1⟩) (l.length+1) (l.length+1)) ab (U+1)):
  dm (dI (dn 1 h U v (.slice (some ⟨b2,0,mr⟩) 1 c2))) k:=by obtain⟨ab,e,A,I⟩:=g.app (k:=1) (λ_=>rfl) (λ_=>rfl) Nat.zero_lt_one  (dQ:=0)   ap  rfl J;rw[jm]at A;rw[e];exact C ab A I
theorem aqy(n:Nat)(z:ac X):gS n z=(List.replicate n z).flatten:=by
 induction n with
 |zero=>rfl
 |succ n g=>show kP z (gS n z)=_;rw[j5,g,EA,List.flatten_cons]
theorem amD(n:Nat)(v:X):gS n [v]=List.replicate n v:=by
 induction n with
 |zero=>rfl
 |succ n g=>show kP [v] (gS n [v])=_;rw[j5,g];rfl
theorem aki{n:Nat}(h:g1 v=true):ef (List.replicate n v)=true:=by
 induction n with
 |zero=>rfl
 |succ n g=>rw[EA,ra,h,g];rfl
theorem Rq{n:Nat}{t:IntKind}(g:n<=100000)(A:g1 v=true):tx [v] (.int t (n:Int)) (.int mE (n:Int)) = .ok (.slice (.cells (List.replicate n v) false) n n):=by show(bif Nat.ble n n&&Nat.ble n 100000 then wa (gS n [v]) n n else _)=_;rw[show(Nat.ble n n&&Nat.ble n 100000)=true by simp[g],amD];show wa _ _ _=_;rw[Xz,if_pos (aki A)]
theorem awW{n:Nat}{t mE:IntKind}{x:Int}{g:IntKind}(A:n<=100000):tx [.int g x] (.int t (n:Int)) (.int mE (n:Int)) = .ok (.slice (.cells (List.replicate n (.int g x)) false) n n):=Rq A rfl
theorem awX{n:Nat}{t mE:IntKind}{c d:Nat}(g:n<=100000):tx [.slice none c d] (.int t (n:Int)) (.int mE (n:Int)) = .ok (.slice (.cells (List.replicate n (.slice none c d)) false) n n):=Rq g rfl
theorem awY{n:Nat}{t mE:IntKind}{b:ao}(g:n<=100000):tx [.bool b] (.int t (n:Int)) (.int mE (n:Int)) = .ok (.slice (.cells (List.replicate n (.bool b)) false) n n):=Rq g rfl
theorem aqz(k:IntKind)(n:Int):nv (.int k n) (.ok (.int k n))=true:=sf k n
theorem aqA(b:ao):nv (.bool b) (.ok (.bool b))=true:=xY b
theorem aqB(a:Addr)(n c:Nat):nv (.slice (some a) n c) (.ok (.slice (some a) n c))=true:=ta a n c
theorem aqC(n c:Nat):nv (.slice none n c) (.ok (.slice none n c))=true:=by simp[nv,oP,qv]
theorem aqD(a:ay Addr)(n c:Nat):nv (.slice a n c) (.ok (.slice a n c))=true:=ta a n c
theorem aqE(a:Addr):nv (.pointer (some a)) (.ok (.pointer (some a)))=true:=Wf a
theorem amE{g:ac X->R (ac X)}{off:Nat}{x y:X}{c:ac X}:qs g off 2 [x,y] c=if off+2<=c.length then g (c.take off++x::y::c.drop (off+2))else .no "fill" := by
 by_cases h:off+2<=c.length
 ·rw[if_pos h,Js (n:=2)  rfl h];simp
 ·rw[if_neg h];show(bif Nat.beq (jq [x,y]) 2 then R.of "fill" (mS [x,y] c off) g else _)=_;rw[tg,if_neg J];rfl
theorem amF{g:ac X->R (ac X)}{off:Nat}{x y z:X}{c:ac X}:qs g off 3 [x,y,z] c=if off+3<=c.length then g (c.take off++x::y::z::c.drop (off+3))else .no "fill" := by
 by_cases h:off+3<=c.length
 ·rw[if_pos h,Js (n:=3)  rfl h];simp
 ·rw[if_neg h];show(bif Nat.beq (jq [x,y,z]) 3 then R.of "fill" (mS [x,y,z] c off) g else _)=_;rw[tg,if_neg J];rfl
theorem amG{g:ac X->R (ac X)}{off:Nat}{x y z w:X}{c:ac X}:qs g off 4 [x,y,z,w] c=if off+4<=c.length then g (c.take off++x::y::z::w::c.drop (off+4))else .no "fill" := by
 by_cases h:off+4<=c.length
 ·rw[if_pos h,Js (n:=4)  rfl h];simp
 ·rw[if_neg h];show(bif Nat.beq (jq [x,y,z,w]) 4 then R.of "fill" (mS [x,y,z,w] c off) g else _)=_;rw[tg,if_neg J];rfl
theorem aaW{h:ae}{U:Nat}{f:FuncId}{aJ a b:ac X}:hV h U aJ (.func (.func f) ⟨a⟩ ⟨b⟩) = .call f (a++(aJ++b)) h U:=by show fc.call f (kP a (kP aJ b)) h U=_;rw[j5,j5]
theorem awZ{P:Program}{s:ao}{f:FuncId}{aJ:ac X}{h:ae}{U:Nat}{k:X->ae->Nat->Prop}:fg P s (hV h U aJ (.func (.func f) #[] #[])) k↔aD P s f aJ h U k:=by rw[aaW,s7,hC];exact Iff.rfl
theorem aqF(l:ac X):nv (.agg ⟨l⟩) (.ok (.agg ⟨l⟩))=qw l l:=rfl
theorem aqG(k:IntKind)(n:Int):qv (.int k n) (.int k n)=true:=sf k n
theorem aqH(a:ay Addr)(n c:Nat):qv (.slice a n c) (.slice a n c)=true:=ta a n c
theorem aqI(b:ao):qv (.bool b) (.bool b)=true:=xY b
def U8:=And.intro @CR (And.intro @ae5 (And.intro @sx (And.intro @ae6 (And.intro @K0 (And.intro @Bool.true_and (And.intro @Bool.not_false (And.intro @Bool.not_true (And.intro @Bool.false_eq_true (And.intro @Bool.true_eq_false (And.intro @false_implies (And.intro @true_implies (And.intro @aqu (And.intro @ints_set (And.intro @yp (And.intro @ae7 (And.intro @ae8 (And.intro @ae9 (And.intro @afa (And.intro @Pu (And.intro @aaI (And.intro @JQ (And.intro @aaJ (And.intro @aaK (And.intro @aaL (And.intro @aaM (And.intro @aaN (And.intro @acZ (And.intro @YK (And.intro @ac6 (And.intro @ac7 (And.intro @agA (And.intro @agB (And.intro @aaO (And.intro @aaP (And.intro @Xu (And.intro @Xv (And.intro @ac1 (And.intro @YN (And.intro @ac4 (And.intro @aaQ (And.intro @ac5 (And.intro @Xw (And.intro @WG (And.intro @We (And.intro @Xx (And.intro @Xy (And.intro @aik (And.intro @aR (And.intro @ar (And.intro @akf (And.intro @Xz (And.intro @Sa (And.intro @Sb (And.intro @awN (And.intro @awO (And.intro @awP (And.intro @awQ (And.intro @awR (And.intro @awS (And.intro @awT (And.intro @auh (And.intro @aui (And.intro @awV (And.intro @awU (And.intro @akg (And.intro @aiU (And.intro @amC (And.intro @aqv (And.intro @aqw (And.intro @akh (And.intro @aqx (And.intro @OC (And.intro @auj (And.intro @auk (And.intro @aiV (And.intro @awW (And.intro @awX (And.intro @awY (And.intro @aqz (And.intro @aqA (And.intro @aqB (And.intro @aqC (And.intro @Fo (And.intro @Kv (And.intro @aaS (And.intro @aaT (And.intro @aaU (And.intro @WB (And.intro @WA (And.intro @VO (And.intro @FL (And.intro @e9 (And.intro @WC (And.intro @Xq (And.intro @YI (And.intro @N0 (And.intro @YJ (And.intro (@List.getElem?_cons_zero X) (And.intro (@List.getElem?_cons_succ X) (And.intro (@List.drop_zero X) (And.intro (@List.drop_succ_cons X) (And.intro (@List.take_zero X) (And.intro (@List.take_succ_cons X) (And.intro (@List.set_cons_zero X) (And.intro (@List.set_cons_succ X) (And.intro @Nat.zero_add (And.intro @Nat.add_zero (And.intro @Nat.mul_one (And.intro (@List.length_cons X) (And.intro (@List.length_nil X) (And.intro (@List.append_nil X) (And.intro (@List.nil_append X) (And.intro (@List.cons_append X) (And.intro (@List.drop_nil X) (And.intro @Bool.and_self (And.intro @Bool.and_true (And.intro @zN (And.intro @true_and (And.intro @and_true (And.intro @decide_eq_true_eq (And.intro @decide_eq_false_iff_not (And.intro @Bool.not_eq_true' (And.intro @Bool.not_eq_false' (And.intro @Int.ofNat_lt (And.intro @aqD (And.intro @aqE (And.intro @amE (And.intro @amF (And.intro @amG (And.intro @aaW (And.intro @awZ (And.intro @Nat.le_refl (And.intro @aqF (And.intro @aiT (And.intro @ake (And.intro @sf (And.intro @xY (And.intro @ta (And.intro @aqG (And.intro @aqH (And.intro @aqI (@Decidable.not_not))))))))))))))))))))))))))))))))))))))))))))))))))))))))))))))))))))))))))))))))))))))))))))))))))))))))))))))))))))))))))))))))))))))))))))))
end
theorem afc{n:Nat}{a:Addr}(E:0<n)(C:n<=cap)(A:wS (some a)=false):
  g5 z (.slice (some a) n cap) (some (.int .i64 1)) (some (n:X)) (some (n:X)) = .ok (.slice (some ⟨a.block,if n=1 then a.off else a.off+z,none⟩) (n-1) (n-1)):=by
 show nZ z (some a) cap true n n 1=_;unfold nZ;rw[show(Nat.ble n cap&&(Nat.ble n n&&Nat.ble 1 n))=true by simp[C];omega];unfold uW
 by_cases h:n=1
 ·subst h;rw[if_pos rfl];show(bif zQ (some a)&&!true then _ else bif wS (some a)then _ else _)=_;rw[A];simp[FD]
 ·rw[if_neg h];rw[show Nat.beq n 1=false by
   cases g:Nat.beq n 1 with
   |true=>exact absurd (gE g) h
   |false=>rfl]
  simp[FD]
theorem fu.head{x:Int}{l:ac Int}(g:fu h cY 1 v (x::l) o):∃b off aO cs bL A,v = .slice (some ⟨b,off,aO⟩) (l.length+1) (l.length+1)/\o=some b/\u h b=some (.cells cs bL)/\cs[off]? = some (x:X) /\
  g5 1 v (some (.int .i64 1)) (some (((l.length+1:Nat):X))) (some (((l.length+1:Nat):X))) = .ok A/\fu h cY 1 A l (some b):=by
 have E:∀(b off:Nat) (aO:ay Nat) (cs:ac X) (bL:ao),wS (some ⟨b,off,aO⟩)=false->u h b=some (.cells cs bL)->off+(l.length+1)<=cs.length->(cs.drop off).take (l.length+1)=hw (x::l) ->
   cs[off]? = some (x:X)/\∃A,g5 1 (.slice (some ⟨b,off,aO⟩) (l.length+1) (l.length+1)) (some (.int .i64 1)) (some (((l.length+1:Nat):X))) (some (((l.length+1:Nat):X))) = .ok A/\fu h cY 1 A l (some b):=λb off aO cs bL N C V I=>by
  refine⟨?_,_,afc J J N,?_⟩
  ·have:((cs.drop off).take (l.length+1))[0]? = some (x:X):=by rw[I];rfl
   grind
  ·show fu h cY 1 (.slice (some ⟨b,if l.length+1=1 then off else off+1,none⟩) (l.length+1-1) (l.length+1-1)) l (some b);rw[show l.length+1-1=l.length by omega]
   by_cases M:l.length+1=1
   ·rw[if_pos M];have:l=[]:=aa
    subst this;exact fu.part   C J (by simp[a7])
   ·rw[if_neg M];refine fu.part   C (by omega) ?_;rw[jm,EO,<-xO];have:=congrArg (List.drop 1) I;rw[EI]at this;simpa[hw]using this
 cases g with
 | @own b _ C =>
  rw[jm]at C;obtain⟨h1,A,ap,L⟩:=E b 0 (some 1) _ _ rfl C (by simp[zN]) (by rw[nr,q3 (by simp[zN])]);exact⟨b,0,some 1,_,_,A,rfl,rfl,C,h1,ap,L⟩
 | @part b o _ cs bL C V I =>
  rw[jm]at I;obtain⟨h1,A,ap,L⟩:=E b o none _ _ rfl C aa aa;exact⟨b,o,none,_,_,A,rfl,rfl,C,h1,ap,L⟩
theorem aD.AY{P:Program}(C:pL P){s:ao}{g:Prop}(A:ac (ac Nat))(w:g)(e:oz P s A f args h U K=g):aD P s f args h U K:=aD.o1 C A (by rw[e];exact w)
def ad(n:Int):X:=(n:X)
def aw:X:=.slice none 0 0
def bl(n:Nat)(x:X)(k:X->Prop):Prop:=af (wq n x) k
def bY(h:ae)(x:X)(k:X->Prop):Prop:=af (iO none h x) k
def aG(n:Nat)(h:ae)(x:X)(k:X->Prop):Prop:=af (iO (some n) h x) k
def fq(n:Nat)(x i:X)(k:X->Prop):Prop:=af (f0 (.slice n) x i) k
def cP(x:X)(k:X->Prop):Prop:=af (yA x) k
def da(y v:X)(p:Prop)(n:Nat)(l:ac ae):Prop:=oW (λh=>iO none h y) v p n l
def jx(z:Nat)(y v:X)(p:Prop)(n:Nat)(l:ac ae):Prop:=oW (λh=>iO (some z) h y) v p n l
def bX(l:ac X)(h:ae)(U:Nat)(k:X->ae->Nat->Prop):Prop:=dS (.ok (.ptr (.cells l false))) h U k
def bG(t:X)(h:ae)(U:Nat)(k:X->ae->Nat->Prop):Prop:=dS (FC (c7 t)) h U k
section
variable {n:Nat} {es:ac GE} {s:Nat} {l p:ac Int} {q D:ac Nat} {aS k:Nat} {ax:ac Nat}
end
def amH(es dl:ac GE):Prop:=(∀e∈es,∃ew∈dl,ew.f=e.f/\ew.t=e.t)/\∀e∈dl,∃ew∈es,ew.f=e.f/\ew.t=e.t
section
variable {H:Type} {enc:TypeId × X->H} {P:Program} {w:World} {aO:Nat->ao} {AA:ao} {aB:Type}
def Kb(w:World)(b off:Nat)(l:ac X):Prop:=∃c e fB,w.heap[b]? = some (.cells c e fB)/\∀i x,l[i]? = some x->c[off+i]? = some x
theorem ail{w:World}{x:TypeId × Nat}(h:w.shape? b=some x):∃c e g,w.heap[b]? = some (.cells c e g):=by
 unfold World.shape? at h
 grind
theorem aqJ{Z:aB->ac X}{k:Nat}{e:TypeId}{r:Reach}{base Bo:Nat}{x:DataW H × ac MemPlace}(V:P.underlying t=some (.slice e))(a5:P.cellsOf e=k)(R:aB->Prop)(L:∀(n:Nat) (c:ac X) y,DataW.trod enc P w base aO AA n e c=some y->∃z:aB,c=Z z/\R z)(h:DataW.trod enc P w base aO AA KZ t [v]=some x)(g:Cell.okWide P w r Bo t v):
  ∃I:ac aB,(∀z∈I,R z)/\((I=[]/\v = .slice none 0 0)\/∃b off cap,v = .slice (some ⟨b,off,none⟩) I.length cap/\Kb w b off (a7 Z I)):=by
 rcases akd V a5 R L h with A|⟨a,I,cap,A,br,bx,ei,E⟩
 ·injection A with A _
  exact⟨[],by simp,aa⟩
 ·injection A with A _
  subst A;refine⟨I,ei,.inr ?_⟩;unfold Cell.okWide at g;rw[V]at g;simp only at g;unfold Cell.ok at g;rw[V]at g;obtain⟨_,_,N⟩:=g;obtain⟨_,C,row,cells,M,_⟩:=N;obtain⟨b,off,spot⟩:=a;simp only at C M;subst C;obtain⟨c,ew,fB,bV⟩:=ail M;refine⟨b,off,cap,rfl,c,ew,fB,bV,λi y cd=>?_⟩;have h1:=E i y cd;have aW:(Addr.add ⟨b,off,none⟩ i)=⟨b,off+i,none⟩:=by
   unfold Addr.add
   grind
  rw[aW]at h1;unfold World.cell? at h1
  grind
theorem N4{k:IntKind}{c:X}{x:DataW H × ac MemPlace}(g:P.underlying t=some (.int k))(h:DataW.trod enc P w 0 aO AA KZ t [c]=some x):∃n:Int,c = .int k n:=by
 obtain⟨n,h1,_⟩:=DataW.trod_int g h
 grind
end
def Db(v:X)(l:ac X):ac (Place × ac X):=match v with
 | .slice (some a) _ _=>[(⟨a.block,a.off,0,0⟩,l)]
 |_=>[]
def inV(v:X):X:=match v with
 | .slice (some _) n c=>.slice (some ⟨0,0,none⟩) n c
 |v=>v
theorem aul{aB:Type}{g:aB->ac X}{w:World}{A:ac aB}(I:∀z,h2 (g z)=true)(h:(A=[]/\v = .slice none 0 0)\/∃b off cap,v = .slice (some ⟨b,off,none⟩) A.length cap/\Kb w b off (a7 g A)):
  InW w (Db v (a7 g A))/\bJ (yF (Db v (a7 g A))) (inV v) v/\dg (yS 0 (Db v (a7 g A)) iy) (Db v (a7 g A)).length (inV v) g A:=by
 have plain:∀l:ac aB,∀x∈a7 g l,qq x=true:=by
  intro l
  induction l with
  |nil=>intro x C;cases C
  |cons z l L =>
   intro x C;have C:x∈g z++a7 g l:=C;rcases hs.1 C with C|C
   ·have:∀(l:ac X),h2 l=true->∀x∈l,qq x=true:=by
     intro l
     induction l with
     |nil=>grind
     |cons y l L =>
      intro h x C;have h:(qq y&&h2 l)=true:=h
      grind
    grind
   grind
 rcases h with⟨rfl,rfl⟩|⟨b,off,cap,rfl,c,e,N,M,V⟩
 ·exact⟨λp E=>(by cases E),bJ.rf 0 0,⟨none,0,rfl,λh=>absurd rfl h⟩⟩
 ·refine⟨λp E=>?_,.k4 (p:=⟨b,off,0,0⟩) rfl _ _,⟨_,_,rfl,λ_=>⟨0,none,true,by simp[Db],rfl,aud (p:=(⟨b,off,0,0⟩,a7 g A)) rfl⟩⟩⟩;have E:p=(⟨b,off,0,0⟩,a7 g A):=by simpa[Db]using E
  subst E;exact⟨c,e,N,M,λi x C=>⟨x,aa,BW aa _⟩⟩
theorem aum{P:Program}(N:aD P false f args h U (λv _ _=>v = .bool true)){w:World}{g:ac X}(I:ec w.heap.size ai (u h) w)(M:jY ai U)(E:dt ai args g)(n:Nat):
  CallsIn Fence.wide n P f ⟨g⟩ w (λe bc=>e = .returned (.bool true)/\RowKit.Below w.heap.size w bc):=
 (N.2 w.heap.size ai w g I M E n).mono λe bc L=>by obtain⟨V,ab,Y,Z,c,rfl,rfl,A,C⟩:=L;cases A;exact⟨rfl,amz rfl C⟩
def mk:Nat->(Nat->ao)->Nat
 |0,_=>0
 |n+1,p=>(if p 0 then 1 else 0)+2*mk n (λi=>p (i+1))
def ez(n:Nat)(p:Nat->ao):ac Nat:=(List.range n).filter p
theorem sq:∀(n:Nat) (p:Nat->ao) (i:Nat),(mk n p).testBit i=(decide (i<n)&&p i)
 |0,p,i=>by simp[mk]
 |n+1,p,0=>by
  rw[mk,Nat.testBit_zero]
  grind
 |n+1,p,i+1=>by
  rw[mk,IP];have:((if p 0 then 1 else 0)+2*mk n (λi=>p (i+1))) / 2=mk n (λi=>p (i+1)):=aa
  rw[this,sq n];simp
theorem afd:∀(n:Nat) (p:Nat->ao),mk n p<2 ^ n
 |0,p=>by simp[mk]
 |n+1,p=>by
  have:=afd n (λi=>p (i+1));rw[mk,Nat.pow_succ]
  grind
theorem Cz{n:Nat}{p q:Nat->ao}(h:∀i,i<n->p i=q i):mk n p=mk n q:=by
 apply zw;intro i;rw[sq,sq]
 grind
theorem aun(n:Nat)(p q:Nat->ao):mk n p &&& mk n q=mk n (λi=>p i&&q i):=by
 apply zw;intro i;rw[IR,sq,sq,sq]
 grind
theorem aw0(n:Nat)(p q:Nat->ao):mk n p ||| mk n q=mk n (λi=>p i||q i):=by
 apply zw;intro i;rw[EJ,sq,sq,sq]
 grind
theorem ac8{n k:Nat}(h:k<n):2 ^ k=mk n (λi=>decide (i=k)):=by
 apply zw;intro i;rw[sq,Nat.testBit_two_pow]
 grind
theorem Px(n:Nat):mk n (λ_=>false)=0:=by apply zw;intro i;rw[sq];simp
theorem ac9(n:Nat)(p:Nat->ao):mk (n+1) p / 2=mk n (λi=>p (i+1)):=by rw[mk];grind
theorem ada(n:Nat)(p:Nat->ao):mk (n+1) p % 2=if p 0 then 1 else 0:=by rw[mk];grind
theorem FO{n:Nat}{p:Nat->ao}:mk n p=0↔∀i,i<n->p i=false:=by
 constructor
 ·intro h i aj;have:=sq n p i
  grind
 ·intro h;rw[<-Px n];exact Cz h
theorem JS(n:Nat)(p:Nat->ao):ez (n+1) p=(if p 0 then[0]else[])++(ez n (λi=>p (i+1))).map (·+1):=by
 unfold ez;rw[List.range_succ_eq_map,q7];have:(List.map Nat.succ (List.range n)).filter p=((List.range n).filter (λi=>p (i+1))).map (·+1):=by rw[List.filter_map];rfl
 grind
theorem auo{n:Nat}{p:Nat->ao}(h:∀i,i<n->p i=false):ez n p=[]:=by
 unfold ez;rw[zt]
 grind
theorem YP:∀(n:Nat) (p:Nat->ao),mk n p≠0->∃q:Nat->ao,mk n p &&& (mk n p-1)=mk n q/\(ez n p).length=(ez n q).length+1
 |0,p,h=>absurd rfl h
 |n+1,p,h=>by
  cases g:p 0 with
  |true =>
   refine⟨λi=>if i=0 then false else p i,?_,?_⟩
   ·have e:mk (n+1) p=2*mk n (λi=>p (i+1))+1:=by rw[mk,g];grind
    have C:mk (n+1) (λi=>if i=0 then false else p i)=2*mk n (λi=>p (i+1)):=by rw[mk];simp
    rw[e,C];apply zw;intro i;rw[IR,II];cases i with
    |zero=>grind
    |succ i =>
     grind
   ·rw[JS,JS,g];simp
  |false =>
   have e:mk (n+1) p=2*mk n (λi=>p (i+1)):=by rw[mk,g];simp
   have A:mk n (λi=>p (i+1))≠0:=λE=>h J;obtain⟨q,h1,ap⟩:=YP n (λi=>p (i+1)) A;refine⟨λi=>match i with|0=>false|i+1=>q i,?_,?_⟩
   ·have C:mk (n+1) (λi=>match i with|0=>false|i+1=>q i)=2*mk n q:=by rw[mk];simp
    rw[e,C,<-h1];apply zw;intro i;rw[IR];cases i with
    |zero=>grind
    |succ i =>
     rw[IP,IP,IP,show(2*mk n (λi=>p (i+1))) / 2=mk n (λi=>p (i+1)) by omega,show(2*mk n (λi=>p (i+1))-1) / 2=mk n (λi=>p (i+1))-1 by omega,show(2*(mk n (λi=>p (i+1)) &&& (mk n (λi=>p (i+1))-1))) / 2=mk n (λi=>p (i+1)) &&& (mk n (λi=>p (i+1))-1) by omega,IR]
   ·rw[JS,JS,g]
    grind
section
variable {P:Program}
theorem CA{n:Nat}(h:n<18446744073709551616):IntKind.wrap .u64 (n:Int)=(n:Int):=by unfold IntKind.wrap;simp[IntKind.bits,IntKind.signed];omega
theorem AZ{n:Nat}(h:n<18446744073709551616):(BitVec.ofInt 64 (n:Int)).toNat=n:=aa
theorem Fp{a:Nat}(g:a<18446744073709551616)(A:b<18446744073709551616):bin P .and t (.int .u64 (a:Int)) (.int .u64 (b:Int)) = .ok (.int .u64 ((a &&& b:Nat):Int)):=by show R.ok (Value.int .u64 (IntKind.wrap .u64 ((BitVec.ofInt 64 (a:Int) &&& BitVec.ofInt 64 (b:Int)).toNat:Int)))=_;rw[BitVec.toNat_and,AZ g,AZ A,CA (Nat.lt_of_le_of_lt Nat.and_le_left g)]
theorem aqK{a:Nat}(g:a<18446744073709551616)(A:b<18446744073709551616):bin P .or t (.int .u64 (a:Int)) (.int .u64 (b:Int)) = .ok (.int .u64 ((a ||| b:Nat):Int)):=by show R.ok (Value.int .u64 (IntKind.wrap .u64 ((BitVec.ofInt 64 (a:Int) ||| BitVec.ofInt 64 (b:Int)).toNat:Int)))=_;rw[BitVec.toNat_or,AZ g,AZ A,CA (Nat.or_lt_two_pow (n:=64) g A)]
theorem amI:∀(k:Nat),k<64->∀hn:IntKind,bin P .shl t (.int .u64 1) (.int hn (k:Int)) = .ok (.int .u64 ((2 ^ k:Nat):Int)):=by
 intro k g hn;show wi .shl .u64 1 (k:Int)=_;unfold wi;rw[show lo (k:Int) 0=false from rfl];show R.ok (Value.int .u64 (tq .u64 (1*2 ^ (min (k:Int).toNat 64))))=_;rw[Int.one_mul,show min (k:Int).toNat 64=k by omega,nW];have:((2:Int) ^ k)=((2 ^ k:Nat):Int):=aa
 rw[this,CA (Nat.pow_lt_pow_right J g)]
theorem OD{a:Nat}:bin P .shr t (.int .u64 (a:Int)) (.int hn 1) = .ok (.int .u64 ((a / 2:Nat):Int)):=by
 show wi .shr .u64 (a:Int) 1=_;unfold wi;show R.ok (Value.int .u64 ((a:Int).fdiv (2 ^ (min (1:Int).toNat 64))))=_
 grind
theorem Fq{a:Nat}:bin P .shr t (a:X) (.int hn 6) = .ok (((a / 64:Nat):X)):=by
 show wi .shr .i64 (a:Int) 6=_;unfold wi;show R.ok (Value.int .i64 ((a:Int).fdiv (2 ^ (min (6:Int).toNat 64))))=_
 grind
end
set_option maxRecDepth 100000
def Gv(a b:Code):aBA:={ res:=[.tmp 4],body :=
 (.seq (.ty [⟨none,some 2,0,.ix (.box (.t 0))⟩,⟨none,some 4,0,.fy (.h6 (.v (.slice none 0 0)))⟩])
 (.seq (.seq (.ty [⟨none,some 6,0,.fy (.h6 (.t 1))⟩]) (.block 0 (.xw (.t 6) [7] a b)))
 (.seq (.ty [⟨none,some 12,0,.red (.ld none (.t 2))⟩,⟨none,some 4,0,.fy (.h6 (.t 12))⟩]) .ret))) }
def ccA:kF:=.ty [⟨none,some 5,0,.fy (.h6 (.t 7))⟩]
def ccB(z:X):kF:=.block 1 (.ty [⟨none,some 8,0,.red (.ld none (.t 2))⟩,⟨none,some 9,0,.fy (.h6 (.t 5))⟩,⟨none,some 10,0,.ix (.SL 1 [z] [(0,1,.t 9)])⟩,⟨none,some 11,0,.fz (.app 1 (.t 8) (.t 10))⟩,⟨none,none,0,.fz (.st 1 (.t 2) (.t 11))⟩])
structure Rr (P:Program) (z:X) (f:FuncId) (a b:Code):Prop where
 c:yf P f=some (Gv a b)
 oB:comp P a=ccA
 gc:comp P b=ccB z
 H8:lv a=true
 qT:lv b=true
def Gw:kF->ay (Code × Code)
 | .xw _ _ a b=>some (a,b)
 | .seq a b=>match Gw a with|some x=>some x|none=>Gw b
 | .block _ c=>Gw c
 | .scope c=>Gw c
 |_=>none
def u9(P:Program)(f:FuncId):Code × Code:=match yf P f with
 |some c=>(match Gw c.body with|some x=>x|none=>(.skip,.skip))
 |none=>(.skip,.skip)
def u3(f:X)(p:Nat):ck:=[(6,some f),(4,some (.slice none 0 0)),(2,some (bb p)),(0,some (.slice none 0 0)),(1,some f)]
def lh(l p:Nat)(a b:Code)(h:ae)(o:X):Prop:=∃f,u h l=some (.loop 0 none (u3 f p) [7] a b)/\u h p=some (.cells [o] false)
theorem lh.F{l p:Nat}{a b:Code}{o:X}(C:lh l p a b h o)(h1:u ab l=u h l)(ap:u ab p=u h p):lh l p a b ab o:=by obtain⟨f,A,g⟩:=C;exact⟨f,aa,aa⟩
section
variable {P:Program} {s:ao}
theorem fu.cell{aB:Type}{enc:aB->ac X}{k:Nat}{o:X}{A:ac aB}(g:fu h enc k o A aY):c7 o=[o]/\g1 o=true:=by
 cases g <;> exact⟨rfl,rfl⟩
def gZ{aB:Type}(h:ae)(enc:aB->ac X)(v:X)(l:ac aB)(aY:ay Nat):Prop:=(l=[]/\v = .slice none 0 0/\aY=none)\/∃b,aY=some b/\v = .slice (some ⟨b,0,some 1⟩) l.length l.length/\u h b=some (.cells (a7 enc l) false)
theorem gZ.nil{aB:Type}{enc:aB->ac X}:gZ h enc (.slice none 0 0) [] none:=.inl ⟨rfl,rfl,rfl⟩
theorem gZ.hH{aB:Type}{enc:aB->ac X}{l:ac aB}(w:gZ h enc v l aY):fu h enc 1 v l aY:=by
 rcases w with⟨rfl,rfl,rfl⟩|⟨b,rfl,rfl,g⟩
 ·exact .nil
 ·exact .own g
theorem gZ.F{aB:Type}{enc:aB->ac X}{l:ac aB}(w:gZ h enc v l aY)(A:∀c,aY=some c->u ab c=u h c):gZ ab enc v l aY:=by
 rcases w with w|⟨b,e,g,C⟩
 ·exact .inl w
 ·exact .inr ⟨b,e,g,aa⟩
theorem gZ.gC{aB:Type}{enc:aB->ac X}{l:ac aB}(w:gZ h enc v l aY)(g:∀c,aY=some c->al<=c/\c<aj):eY h al aj v enc l:=by
 rcases w with⟨rfl,rfl,rfl⟩|⟨b,rfl,rfl,A⟩
 ·exact⟨none,0,rfl,λe=>absurd rfl e⟩
 ·exact⟨_,_,rfl,λ_=>⟨b,some 1,false,(g b rfl).1,(g b rfl).2,rfl,A⟩⟩
theorem gZ.form{aB:Type}{enc:aB->ac X}{l:ac aB}(w:gZ h enc v l aY):∃a c,v = .slice a l.length c:=by
 rcases w with⟨rfl,rfl,rfl⟩|⟨b,rfl,rfl,g⟩
 ·exact⟨none,0,rfl⟩
 grind
theorem x9{aB:Type}{enc:aB->ac X}{k:Nat}(I:∀x,(enc x).length=k)(A:∀x,ef (enc x)=true)(C:0<k){l:ac aB}(g:fu h enc k v l o)(x:aB)(ap:u h b2=some (.cells cs bL))(M:(cs.drop dQ).take k=enc x)(E:(l.length+1)*k<=1000000){K:X->ae->Nat->Prop}(L:∀ab,u ab U=some (.cells (a7 enc (l++[x])) false)->(∀c,c≠U->o≠some c->u ab c=u h c)->K (.slice (some ⟨U,0,some k⟩) (l.length+1) (l.length+1)) ab (U+1)):dm (dI (dn k h U v (.slice (some ⟨b2,dQ,mr⟩) 1 rv))) K:=by obtain⟨ab,e,a,b⟩:=g.app I A C ap M E;rw[e];exact L _ a b
theorem aup(g9:pL P){z:X}{a b:Code}(A:Rr P z f a b){aB:Type}{enc:aB->ac X}(hk:∀x,(enc x).length=1)(I:∀x,ef (enc x)=true){x:aB}(aX:enc x=[v])(aI:c7 v=[v]){l p:Nat}{o:X}{E:ac aB}(C:lh l p a b h o)(w:gZ h enc o E aY)(hlp:l≠p)(br:l<U)(bn:p<U)(nB:∀c,aY=some c->c≠l/\c≠p/\c<U)(jE:E.length+1<=1000000)(hm:∀ab aU,lh l p a b ab aU->gZ ab enc aU (E++[x]) (some (U+1))->(∀c,c<U->c≠l->c≠p->aY≠some c->u ab c=u h c)->K (.bool true) ab (U+1+1)):lW P s l [v] h U K:=by
 obtain⟨L,M,tU⟩:=C;have g:=w.hH;have LD:g1 v=true:=by have:=I x;rw[aX]at this;exact(by simpa[ef]using this)
 refine lW.o1 g9 (vC:=[]) (oy:=[]) M rfl A.H8 A.qT ?_;unfold Br;rw[A.oB,A.gc];show af (.ok v) λr3=>∃N,u h l=some (.loop 0 N (u3 L p) [7] a b)/\af (iO none (T h l (.loop 1 N (u3 L p) [7] a b)) (bb p)) λaCD=>af (.ok r3) λaCE=>dS (eO 1 [z] [(0,1,aCE)]) (T h l (.loop 1 N (u3 L p) [7] a b)) U λv10 aH b1=>dm (dI (dn 1 aH b1 aCD v10)) λv11 bh d9=>af (aN bh 1 (bb p) v11) λV =>
  ∃gG N,u V l=some (.loop gG N (u3 L p) [7] a b)/\K (.bool true) (T V l (.loop 0 none (u3 L p) [7] a b)) d9
 refine⟨none,M,?_⟩;have Z:u (T h l (.loop 1 none (u3 L p) [7] a b)) p=some (.cells [o] false):=aa
 obtain⟨ho1,ho2⟩:=g.cell;simp(disch:=omega)only[U8,Z,aI,LD,seval];refine x9 hk I J (g.F λc a5=>?_) x (aR _ _ _) ?_ J λV DE tW=>?_
 ·grind
 ·grind
 have A0:u V l=some (.loop 1 none (u3 L p) [7] a b):=aa
 have DF:u V p=some (.cells [o] false):=aa
 simp(disch:=omega)only[U8,DF,seval];refine⟨1,none,A0,?_⟩;refine hm _ (.slice (some ⟨U+1,0,some 1⟩) (E.length+1) (E.length+1)) ⟨L,aR _ _ _,aa⟩ ?_ λc h1 ap aH bh=>?_
 ·refine .inr ⟨U+1,rfl,aa,?_⟩
  grind
 grind
theorem XA(Z:pL P){z:X}{a b:Code}(A:Rr P z f a b){g:FuncId}{C E:Array X}(M:∀h1,lh (U+1) U a b h1 (.slice none 0 0)->(∀c,c<U->u h1 c=u h c)->aD P s g (C.toList++(.func (.yield (U+1)) #[] #[]::E.toList)) h1 (U+1+1) (λ_ ap I=>∃o,lh (U+1) U a b ap o/\(∀x,K o (T ap (U+1) x) I))):
  aD P s f [.slice none 0 0,.func (.func g) C E] h U K:=by
 refine aD.o1 Z [] ?_;unfold oz;rw[A.c];have e:jh P s [] (Gv a b).body 0 (yg [Value.slice none 0 0,Value.func (.func g) C E] 0) h U (sw P (Gv a b).res K) [] (sw P (Gv a b).res K) =
  tL P s (.func (.func g) C E) (T h U (.cells [.slice none 0 0] false)) (U+1) (.loop 0 none (u3 (.func (.func g) C E) U) [7] a b) (yB (U+1) (λh _n=>af (iO none h (bb U)) λv=>af (.ok v) λv=>K v h _n) (λh _n=>yC P (u3 (.func (.func g) C E) U) h [.tmp 4] λl=>K (C6 l) h _n)):=by kernel_rfl
 show jh P s [] (Gv a b).body 0 _ h U _ [] _;rw[e];refine(M _ ⟨_,aR _ _ _,(ar J).trans (aR _ _ _)⟩ λc a5=>(ar J).trans (ar J)).mono ?_;rintro _ ap I ⟨o,⟨kJ,L,cy⟩,N⟩;refine⟨0,none,_,[7],a,b,L,J,.inl ⟨rfl,?_⟩⟩;show af (iO none (T ap (U+1) _) (bb U)) λv=>af (.ok v) λv=>K v _ I;have V:∀x,u (T ap (U+1) x) U=some (.cells [o] false):=aa
 rw[Kv,V];exact N _
end
def eS:Int:=4611686018427387904
def iF(x:Int):Int:=(x+170141183460469231731687303715884105728) % 340282366920938463463374607431768211456-170141183460469231731687303715884105728
def kB(r a b:Int):Int:=if r=2 then(if a=0/\b=0 then 0 else 1)else if r=5 then iF (a+b)else min a b
def hM(r a x:Int):Int:=if r=2 then(if a≠0/\x≠0 then 1 else 0)else if r=5 then a*x else if eS<=max a x then eS else if r=1 then min eS (a+x)else min eS x
theorem amJ(a b c:Int):iF (iF (a+b)+c)=iF (a+iF (b+c)):=by unfold iF;omega
theorem amK(r a b:Int):kB r a b=kB r b a:=by
 unfold kB
 grind
theorem akj(r a b c:Int):kB r (kB r a b) c=kB r a (kB r b c):=by
 unfold kB
 by_cases ap:r=2
 ·grind
 ·simp only[if_neg ap]
  by_cases g:r=5
  ·simp only[if_pos g];exact amJ a b c
  omega
def e6(r:Int):ay Int->ay Int->ay Int
 |none,y=>y
 |some x,none=>some x
 |some x,some y=>some (kB r x y)
theorem rb(r:Int)(x:ay Int):e6 r x none=x:=by cases x <;> rfl
theorem E8(r:Int)(x:ay Int):e6 r none x=x:=rfl
theorem XB(r:Int)(x y:ay Int):e6 r x y=e6 r y x:=by
 cases x <;> cases y <;> simp[e6,amK r]
theorem tb(r:Int)(x y z:ay Int):e6 r (e6 r x y) z=e6 r x (e6 r y z):=by
 cases x <;> cases y <;> cases z <;> simp[e6,akj]
def fZ(r:Int):ac (ay Int)->ay Int
 | []=>none
 |x::l=>e6 r x (fZ r l)
theorem Fr(r:Int)(l g:ac (ay Int)):fZ r (l++g)=e6 r (fZ r l) (fZ r g):=by
 induction l with
 |nil=>rfl
 |cons x l A=>show e6 r x (fZ r (l++g))=_;rw[A,<-tb];rfl
theorem N5(r:Int)(l:ac (ay Int))(x:ay Int):fZ r (l++[x])=e6 r (fZ r l) x:=by rw[Fr];show e6 r _ (e6 r x none)=_;rw[rb]
theorem XC{l g:ac (ay Int)}(h:l.Perm g):fZ r l=fZ r g:=by
 induction h with
 |nil=>rfl
 |cons x _ A=>show e6 r x _=e6 r x _;rw[A]
 |swap x y l=>show e6 r y (e6 r x _)=e6 r x (e6 r y _);rw[<-tb,<-tb,XB r y x]
 |trans _ _ h1 ap=>grind
theorem vZ{l:ac (ay Int)}(h:∀x∈l,x=none):fZ r l=none:=by
 induction l with
 |nil=>rfl
 |cons x l A=>show e6 r x _=_;rw[h x aa,A λy g=>h y (nT _ g)];rfl
theorem OE{aB:Type}(r:Int)(f g:aB->ay Int)(l:ac aB):fZ r (l.map λa=>e6 r (f a) (g a))=e6 r (fZ r (l.map f)) (fZ r (l.map g)):=by
 induction l with
 |nil=>rfl
 |cons x l A =>
  show e6 r (e6 r (f x) (g x)) (fZ r (l.map _))=e6 r (e6 r (f x) (fZ r (l.map f))) (e6 r (g x) (fZ r (l.map g)));rw[A,tb,tb,<-tb r (g x),XB r (g x),tb]
theorem aiW{aB:Type}(r:Int)(f:aB->ay Int)(c:aB->Nat)(l:ac aB)(n:Nat)(h:∀a∈l,c a<n):
  fZ r (l.map f)=fZ r ((List.range n).map λk=>fZ r (l.map λa=>if c a=k then f a else none)):=by
 induction l with
 |nil =>
  symm
  refine vZ λx A=>?_;simp at A;obtain⟨_,rfl⟩:=A.2;rfl
 |cons a l g =>
  have e:((List.range n).map λk=>fZ r ((a::l).map λa=>if c a=k then f a else none))=(List.range n).map λk=>e6 r (if c a=k then f a else none) (fZ r (l.map λa=>if c a=k then f a else none)):=rfl;rw[e,OE,<-g λb C=>h b (nT _ C)];have:fZ r ((List.range n).map λk=>if c a=k then f a else none)=f a:=by
   have E:=h a (pi ..);clear e g h
   induction n with
   |zero=>omega
   |succ n g =>
    rw[q8,hr,Fr];show e6 r _ (e6 r (if c a=n then f a else none) none)=_;rw[rb]
    by_cases e:c a=n
    ·rw[if_pos e,vZ,E8]
     grind
    ·rw[if_neg e,rb];grind
  rw[this];rfl
def bp{aB:Type}(n:Nat)(f:Nat->ay aB):ac (Nat × aB):=(List.range n).filterMap λi=>(f i).map λx=>(i,x)
theorem ts{aB:Type}(n:Nat)(f:Nat->ay aB):bp (n+1) f=bp n f++(match f n with|some x=>[(n,x)]|none=>[]):=by
 unfold bp;rw[q8,List.filterMap_append]
 grind
theorem aw2{aB:Type}(f:Nat->ay aB):bp 0 f=[]:=rfl
theorem j6{aB:Type}{n:Nat}{f:Nat->ay aB}{x:aB}:(i,x)∈bp n f↔i<n/\f i=some x:=by
 unfold bp;simp only[List.mem_filterMap,IS,ma,Prod.mk.injEq]
 grind
theorem md{aB:Type}(n:Nat)(f:Nat->ay aB):(bp n f).length<=n:=by
 unfold bp
 grind
theorem yk{aB:Type}(n:Nat)(f:Nat->ay aB):(bp n f).Pairwise λx y=>x.1<y.1:=by
 induction n with
 |zero=>exact .nil
 |succ n g =>
  rw[ts,q4];refine⟨g,?_,λa A b C=>?_⟩
  ·cases f n <;> simp
  ·obtain⟨i,x⟩:=a;have:=j6.1 A
   grind
theorem ya{aB:Type}{n:Nat}{f g:Nat->ay aB}(h:∀i,i<n->f i=g i):bp n f=bp n g:=by
 induction n with
 |zero=>rfl
 |succ n A=>rw[ts,ts,A λi aj=>h i J,h n J]
theorem adb{aB:Type}:∀{l g:ac (Nat × aB)},(l.Pairwise λx y=>x.1<y.1)->(g.Pairwise λx y=>x.1<y.1)->(∀x,x∈l↔x∈g)->l=g
 | [],[],_,_,_=>rfl
 | [],b::g,_,_,h=>by have:=(h b).2 (pi ..);grind
 |a::l,[],_,_,h=>by have:=(h a).1 (pi ..);grind
 |a::l,b::g,h1,ap,h=>by
  rw[uz]at h1 ap;have A:a=b:=aa
  subst A;rw[adb h1.2 ap.2 λx=>?_]
  grind
theorem QF{aB:Type}{n:Nat}{f:Nat->ay aB}{l:ac (Nat × aB)}(h1:l.Pairwise λx y=>x.1<y.1)(ap:∀i x,(i,x)∈l↔i<n/\f i=some x):l=bp n f :=
 adb h1 (yk n f) λ⟨i,x⟩=>by rw[ap,j6]
theorem NG{aB:Type}(r:Int)(f:aB->ay Int)(p:aB->ao)(l:ac aB):fZ r ((l.filter p).map f)=fZ r (l.map λa=>if p a=true then f a else none):=by
 induction l with
 |nil=>rfl
 |cons a l g =>
  rw[q7]
  by_cases h:p a=true
  ·rw[if_pos h];show e6 r (f a) _=e6 r (if p a=true then f a else none) _
   grind
  ·rw[if_neg h];show _=e6 r (if p a=true then f a else none) _;rw[g,if_neg h];rfl
theorem OF{aB:Type}{f g:aB->ay Int}{l:ac aB}(h:∀a∈l,f a=g a):fZ r (l.map f)=fZ r (l.map g):=by rw[q5 h]
theorem XD{aB:Type}(r:Int)(f:aB->ay Int)(c:aB->Nat)(al:Nat->Nat)(g:∀i j,i<=j->al i<=al j)(A:al 0=0)(l:ac aB):
  ∀eG,fZ r ((List.range eG).map λj=>fZ r (l.map λa=>if al j<=c a/\c a<al (j+1)then f a else none))=fZ r (l.map λa=>if c a<al eG then f a else none)
 |0=>by
  symm
  refine vZ λx C=>?_
  grind
 |eG+1=>by
  rw[q8,hr,Fr,XD r f c al g A l eG];show e6 r _ (e6 r _ none)=_;rw[rb,<-OE];refine OF λa _=>?_;have:=g eG (eG+1) J
  by_cases h1:c a<al eG
  ·rw[if_pos h1,if_neg J,if_pos J,rb]
  ·rw[if_neg h1,E8]
   grind
structure jS where
 A:Nat->Int
 B:Nat->Int
 q:Nat->ao
def rx(k:Int)(aT:Nat->Int)(t:Nat)(s:jS)(v:Nat):ay Int :=
 if k=1 then(if s.q v=true then some (v:Int)else none)
 else if k=5 then(if t % 2=0 then(if s.q v=true then some 1 else none)else if s.A v=0 then some (aT v)else none)
 else if s.q v=true then some (s.A v)else none
def tE(k:Int)(s:jS)(v:Nat):ao:=if k=1 then s.A v == -1 else if k=5 then s.A v == 0 else true
def hu(k:Int)(t:Nat):Int:=if k=2 then 1 else if k=4 then 5 else if k=5/\t % 2=0 then 2 else 4
def iK(r:Int)(ag:ac GE)(x:Nat->ay Int)(v:Nat):ay Int:=fZ r (ag.map λg=>if g.f=v then(x g.t).map (hM r g.w)else none)
def sy(w:Int):ao:=decide (-9223372036854775808<=w/\w<9223372036854775808)
def Kx(r:Int):Int:=if r=2\/r=5 then 0 else eS
def tt(r:Int)(o:ay Int):ay Int:=match o with|none=>none|some w=>if w=Kx r then none else some w
def oa(k:Int)(aT:Nat->Int)(t:Nat)(s:jS)(v:Nat)(y:ay Int):Int × Int × ao :=
 if k=1 then(match y with|some val=>if s.A v = -1 then((t:Int),val,true)else(s.A v,s.B v,false)|none=>(s.A v,s.B v,false))
 else if k=4 then(y.getD 0,s.B v,decide (y.getD 0≠0))
 else if k=5 then(if s.A v≠0 then(s.A v,s.B v,false)else if t % 2=0 then(if y.isSome=true then(2,s.B v,false)else(s.A v,s.B v,false))
  else match y with|some val=>if aT v<val then(1,s.B v,true)else(s.A v,s.B v,false)|none=>(1,s.B v,true))
 else match y with|some val=>if val<s.A v then(val,s.B v,true)else(s.A v,s.B v,false)|none=>(s.A v,s.B v,false)
def va(k src v:Int):Int:=if k=3 then v else if k=5 then 0 else if k=4/\v=src then 1 else if v=src\/k=4 then 0 else if k=1 then -1 else 4611686018427387904
def tF(k src v:Int):ao:=if k=3 then true else if k=5 then false else decide (v=src)
structure m6 where
 k:Int
 n:Nat
 src:Int
 len:Int
 uh:Nat->Nat->Int
 ag:ac GE
 lim:Nat
section
variable (e:m6)
def m6.aT(t:Nat):Nat->Int:=e.uh ((t-1) / 2)
def m6.tel(t:Nat)(s:jS):Nat->ay Int:=rx e.k (e.aT t) t s
def m6.AC(t:Nat)(s:jS)(v:Nat):ay Int:=if tE e.k s v=true then iK (hu e.k t) e.ag (e.tel t s) v else none
def m6.step(t:Nat)(s:jS):jS where
 A v:=(oa e.k (e.aT t) t s v (tt (hu e.k t) (e.AC t s v))).1
 B v:=(oa e.k (e.aT t) t s v (tt (hu e.k t) (e.AC t s v))).2.1
 q v:=(oa e.k (e.aT t) t s v (tt (hu e.k t) (e.AC t s v))).2.2
def m6.st:Nat->jS
 |0=>{ A:=λv=>va e.k e.src v,B:=λ_=>-1,q:=λv=>tF e.k e.src v }
 |t+1=>e.step (t+1) (m6.st t)
def m6.x(t:Nat):Nat->ay Int:=e.tel t (e.st (t-1))
def m6.S(t v:Nat):ay Int:=e.AC t (e.st (t-1)) v
def m6.ovP(t al aj:Nat):Prop:=1<=t/\∃v w,al<=v/\v<aj/\e.S t v=some w/\sy w=false
def aw5(k len:Int)(t:Nat)(s:jS)(v:Nat):ao:=if k=4/\len<=t then false else if k=5 then s.A v == 0 else s.q v
def m6.liP(t al aj:Nat):Prop:=∃v,al<=v/\v<aj/\aw5 e.k e.len t (e.st t) v=true
open Classical in
noncomputable def m6.gn (t:Nat):Int:=if e.ovP t 0 e.n then 3 else if ¬e.liP t 0 e.n then 1 else if t=e.lim then 2 else 0
end
theorem m6.Py(e:m6):e.gn e.lim≠0:=by unfold m6.gn;omega
theorem m6.last(e:m6):∃ax,ax<=e.lim/\e.gn ax≠0/\∀t,t<ax->e.gn t=0:=by
 have:∀n,(∃ax,ax<=n/\e.gn ax≠0/\∀t,t<ax->e.gn t=0)\/∀t,t<=n->e.gn t=0:=by
  intro n
  induction n with
  |zero =>
   grind
  |succ n g =>
   grind
 rcases this e.lim with h|h
 ·exact h
 ·exact absurd aa e.Py
def hit(D l:ac Int)(v:Nat):ao:=decide (l[v]? = D[v]?)
theorem OG{aB:Type}{enc:aB->ac X}{k:Nat}(g:∀x,(enc x).length=k)(cs:ac X)(x:aB):∀(l:ac aB) (i:Nat),i<l.length->(a7 enc l++cs).take (i*k)++enc x++(a7 enc l++cs).drop (i*k+k)=a7 enc (l.set i x)++cs
 | [],i,h=>aa
 |y::l,0,h=>by
  show(enc y++a7 enc l++cs).take (0*k)++enc x++(enc y++a7 enc l++cs).drop (0*k+k)=(enc x++a7 enc l)++cs
  grind
 |y::l,i+1,h=>by
  have A:=OG g cs x l i aa;show(enc y++a7 enc l++cs).take ((i+1)*k)++enc x++(enc y++a7 enc l++cs).drop ((i+1)*k+k)=(enc y++a7 enc (l.set i x))++cs;have C:(i+1)*k=(enc y).length+i*k:=aa
  have E:(i+1)*k+k=(enc y).length+(i*k+k):=J
  rw[kq (enc y),C,vS,List.take_length_add_append,Iz,kq (enc y),kq (enc y),A,kq]
end Go.Ax
namespace Go.Ax.HdH
open Go Go.Ax
set_option linter.all false
set_option maxHeartbeats 1000000
variable {i j n:Nat}
structure eW where
 v:X
 w:Nat
 k:Int
 n:Nat
 l:ac (Nat × Int)
def eK(i:Nat):Nat:=(i-1) / 2
def sL(W:ac eW)(i j:Nat)(a b:eW):ac eW:=(W.set i b).set j a
structure n2 (W:ac eW):Prop where
 up:∀(c:Nat) (x y:eW),0<c->W[eK c]? = some x->W[c]? = some y->x.k<=y.k
variable {W:ac eW} {a b p:eW}
theorem n2.min(h:n2 W)(V:W[0]? = some p):∀q∈W,p.k<=q.k:=by
 have M:∀(c:Nat) (y:eW),W[c]? = some y->p.k<=y.k:=by
  intro c
  induction c using Nat.strongRecOn with
  |_ c I =>
   intro y g
   by_cases L:c=0
   ·grind
   ·have E:eK c<c:=by unfold eK;omega
    have N:=(g0.1 g).1;obtain⟨x,A⟩:∃x,W[eK c]? = some x:=⟨_,qi J⟩
    have h1:=I _ E x A;have ap:=h.up c x y J A g;omega
 intro q C;obtain⟨c,L⟩:=vO C
 grind
theorem FP(C:W[i]? = some a)(A:W[j]? = some b)(g:i≠j)(q:Nat):(sL W i j a b)[q]? = if q=j then some a else if q=i then some b else W[q]?:=by
 unfold sL
 grind
theorem zU(W:ac eW)(i j:Nat)(a b:eW):(sL W i j a b).length=W.length:=by unfold sL;simp
theorem Jt(A:W[i]? = some a)(C:W[j]? = some b):(sL W i j a b).Perm W:=by
 have aj:=(g0.1 A).1;have I:=(g0.1 C).1;have g:W[i]=a:=aa
 have E:W[j]=b:=aa
 rw[<-g,<-E];exact List.set_set_perm aj I
structure vb (W:ac eW) (j:Nat):Prop where
 w7:∀(c:Nat) (x y:eW),0<c->c≠j->W[eK c]? = some x->W[c]? = some y->x.k<=y.k
 Th:∀(c:Nat) (x y:eW),0<j->0<c->eK c=j->W[eK j]? = some x->W[c]? = some y->x.k<=y.k
theorem vb.done(h:vb W j)(E:∀x y:eW,0<j->W[eK j]? = some x->W[j]? = some y->x.k<=y.k):n2 W:=by
 refine⟨λc x y C A g=>?_⟩
 by_cases e:c=j
 ·grind
 ·exact h.w7 c x y C e A g
theorem vb.step(h:vb W j)(cb:0<j)(N:W[eK j]? = some a)(a1:W[j]? = some b)(Z:b.k<a.k):vb (sL W (eK j) j a b) (eK j):=by
 have bn:eK j<j:=by unfold eK;omega
 have E:eK j≠j:=J
 have M:=FP N a1 E;refine⟨λc x y I L g A=>?_,λc x y V I w0 g A=>?_⟩
 ·rw[M]at g A
  by_cases C:c=j
  ·grind
  ·rw[if_neg C,if_neg L]at A
   by_cases c2:eK c=j
   ·rw[if_pos c2]at g;cases g;exact h.Th c a y cb I c2 N A
   ·rw[if_neg c2]at g
    by_cases cm:eK c=eK j
    ·rw[if_pos cm]at g;cases g;have:=h.w7 c a y I C aa A;omega
    ·rw[if_neg cm]at g;exact h.w7 c x y I C g A
 ·have DF:eK (eK j)<eK j:=by
   generalize eK j=q at *
   unfold eK;omega
  rw[M,if_neg J,if_neg J]at g;rw[M]at A;have h1:=h.w7 (eK j) x a V E g N
  by_cases C:c=j
  ·grind
  ·rw[if_neg C]at A
   by_cases c2:c=eK j
   ·grind
   ·rw[if_neg c2]at A;have:=h.w7 c a y I C aa A;omega
theorem vb.push(h:n2 W):vb (W++[p]) W.length:=by
 refine⟨λc x y E L C g=>?_,λc x y _ E M C g=>?_⟩
 ·have A:=(g0.1 g).1;rw[jk,List.length_singleton]at A;have I:eK c<c:=by unfold eK;omega
  rw[uw J]at C g;exact h.up c x y E C g
 ·have A:=(g0.1 g).1;rw[jk,List.length_singleton]at A;have I:eK c<c:=by unfold eK;omega
  omega
structure uY (W:ac eW) (n i:Nat):Prop where
 w7:∀(c:Nat) (x y:eW),0<c->c<n->eK c≠i->W[eK c]? = some x->W[c]? = some y->x.k<=y.k
 Th:∀(c:Nat) (x y:eW),0<i->0<c->c<n->eK c=i->W[eK i]? = some x->W[c]? = some y->x.k<=y.k
theorem uY.done(h:uY W n i)(aj:∀(c:Nat) (x y:eW),0<c->c<n->eK c=i->W[i]? = some x->W[c]? = some y->x.k<=y.k):n2 (W.take n):=by
 refine⟨λc x y E A g=>?_⟩;have C:=(g0.1 g).1;rw[nU]at C;have I:eK c<c:=by unfold eK;omega
 rw[uy,if_pos J]at A g
 by_cases e:eK c=i
 ·grind
 ·exact h.w7 c x y E J e A g
theorem uY.step(h:uY W n i)(cb:0<j)(N:j<n)(L:eK j=i)(dy:W[i]? = some a)(V:W[j]? = some b)(cS:b.k<a.k)(bx:∀(c:Nat) (y:eW),0<c->c<n->eK c=i->W[c]? = some y->b.k<=y.k):uY (sL W i j a b) n j:=by
 have hij:i<j:=by rw[<-L];unfold eK;omega
 have E:=FP dy V (by omega:i≠j);refine⟨λc x y I C M A g=>?_,λc x y _ I C w0 A g=>?_⟩
 ·rw[E,if_neg M]at A;rw[E]at g
  by_cases c1:eK c=i
  ·grind
  ·rw[if_neg c1]at A
   by_cases c2:c=j
   ·grind
   ·rw[if_neg c2]at g
    by_cases cm:c=i
    ·subst cm;rw[if_pos rfl]at g;cases g;exact h.Th j x b I cb N L A V
    ·rw[if_neg cm]at g;exact h.w7 c x y I C c1 A g
 ·have Z:eK c<c:=by unfold eK;omega
  rw[E,L,if_neg J,if_pos rfl]at A;cases A;rw[E,if_neg J,if_neg J]at g;exact h.w7 c b y I C J aa g
theorem uY.pop(h:n2 W)(Z:W.length=n+1)(I:W[0]? = some a)(L:W[n]? = some b):uY (sL W 0 n a b) n 0:=by
 refine⟨λc x y N V E A C=>?_,J⟩;have M:eK c<c:=by unfold eK;omega
 have g:=FP I L (by omega:0≠n);rw[g,if_neg J,if_neg E]at A;rw[g,if_neg J,if_neg J]at C;exact h.up c x y N A C
theorem amL{c:Nat}(g:0<c):eK c=i↔c=2*i+1\/c=2*i+2:=by unfold eK;omega
end Go.Ax.HdH
