/- Parts of the proof: Hw1: each statement bears its own conditions. -/
import Derived.ChangeArms
import Derived.Below
import Derived.Shelf.SlSortCmp.NoneTotal
import Derived.OpenShut
import Derived.WideShapes
import Init
import Derived.Test.YthlhhajnbgjfmaaGreatRpCm2
namespace Go.Ax
open Go Go.Proofs Go.Sort Go.Shelf
set_option linter.all false
set_option maxHeartbeats 1000000
variable {h:ae} {v:X} {U:Nat} {cs:aa X} {b:Nat} {t:TypeId} {f:FuncId} {off:Nat} {dE:Int} {cf:aa (Place × aa X)} {aQ o:aw Nat} {i N:Nat} {ac:ae} {c:aa X} {ap:Nat} {li:aw Nat} {aF:aa X} {ag:Nat} {args:aa X} {z:Nat} {ar:aa ae} {mQ:IntKind} {Y cap:Nat} {a:Int} {DX:Nat} {gR:aa Int} {bG:al} {y:X} {K:bN} {B6:FuncId} {b3 pf:Nat} {a8:World} {r:Int} {cI db dT:Nat} {hL:IntKind} {aj:ce} {dk:Nat} {EW:Ren} {B:Nat} {ao:ae} {j:Nat} {h1:ae}
section
variable {P:Program}  {s:al}
theorem wV{n:Int}(g:0<=n)(h1:n<9223372036854775808):IntKind.wrap .i64 n=n:=by
 rw[<-oh];obtain⟨m,rfl⟩:=Int.eq_ofNat_of_zero_le g;show Ay .i64 m=_;unfold Ay yK;rw[o5]
 grind
theorem akM{g:aa Nat}{es:aa MapEntry}(h:∀e∈es,e.born<cI):KW g es cI=true:=by
 unfold KW;cases es with
 |nil=>simp
 |cons e es =>
  have:=h e (by simp);simp[o5,this]
end
def C6(cI:Nat):aa MapEntry->al
 | []=>true
 |e::es=>(match es with
  | []=>Nat.blt e.born cI
  |f::_=>Nat.blt e.born f.born)&&C6 cI es
theorem Xl{cI:Nat}:∀{es:aa MapEntry},C6 cI es=true->Di es/\∀e∈es,e.born<cI
 | [],_=>⟨List.Pairwise.nil,ab⟩
 | [e],h=>by unfold C6 at h;simp only[eo,o5,NT]at h;exact⟨List.pairwise_singleton ..,ab⟩
 |e::f::es,h=>by
  unfold C6 at h;simp only[eo,o5,NT]at h;obtain⟨h1,ao⟩:=Xl h.2;have g:∀x∈f::es,e.born<x.born:=λx A=>by
   rcases gh.1 A with rfl|A
   ·omega
   ·have:=tu h1 A;omega
  refine⟨List.Pairwise.cons g h1,λx A=>?_⟩
  grind
section
variable {P:Program}
def wA(aDI ti:al)(dB axF:Int):Int:=if aDI then 3 else if ti then(if dB == axF then 2 else 0)else 1
end
section
variable {az:Type}
def a7(enc:az->aa X):aa az->aa X
 | []=>[]
 |x::l=>enc x++a7 enc l
theorem fN{enc:az->aa X}{k:Nat}(g:∀x,(enc x).length=k):∀l:aa az,(a7 enc l).length=l.length*k
 | []=>by simp[a7]
 |x::l=>by simp[a7,g,fN g l,Fv];omega
theorem sD{enc:az->aa X}{k:Nat}(g:∀x,(enc x).length=k):∀{l:aa az} {i:Nat} {x:az},l[i]? = some x->((a7 enc l).drop (i*k)).take k=enc x
 | [],i,x,h=>ab
 |y::l,0,x,h=>by simp at h;subst h;simp[a7,<-g y]
 |y::l,i+1,x,h=>by
  have h:l[i]? = some x:=ab
  have e:(i+1)*k=(enc y).length+i*k:=ab
  rw[e,a7,Jw,NK J,sy];have:(enc y).length+i*k-(enc y).length=i*k:=J
  rw[this];exact sD g h
theorem ang{enc:az->aa X}{k:Nat}(g:∀x,(enc x).length=k)(z:az):∀{l:aa az} {i:Nat},i<l.length->m7 (enc z) (a7 enc l) (i*k)=some (a7 enc (l.set i z)):=by
 intro l i ag;rw[tB,if_pos (by rw[fN g,g];have:=qD k ag;grind)]
 congr 1
 have A:∀(l:aa az) (i:Nat),i<l.length->(a7 enc l).take (i*k)++(enc z++(a7 enc l).drop (i*k+k))=a7 enc (l.set i z):=by
  intro l
  induction l with
  |nil=>grind
  |cons y l E =>
   intro i ag;cases i with
   |zero=>simp[a7,<-g y,Jw]
   |succ i =>
    have e:(i+1)*k=(enc y).length+i*k:=ab
    have C:(i+1)*k+k=(enc y).length+(i*k+k):=J
    rw[List.set_cons_succ,a7,a7,C,e,List.take_append,Jw];rw[o2 J,NK J]
    grind
 grind
end
section
variable {P:Program}  {az:Type}
theorem ie(m:Nat)(h:m<1000000000):IntKind.wrap .i64 (m:Int)=(m:Int):=wV J J
end
section
variable {P:Program}  {az:Type} {s:al}
theorem Li(n:Nat)(h:n<=12):IntKind.wrap .u64 (n:Int)=(n:Int):=by
 rw[<-oh];show Ay .u64 n=_;unfold Ay yK;rw[o5]
 grind
theorem OG{R:az->az->Prop}(A:∀x y,R x y->R y x->x=y):∀{l g:aa az},l.Perm g->l.Pairwise R->g.Pairwise R->l=g
 | [],g,C,_,_=>by rw[List.nil_perm.1 C]
 |x::l,[],C,_,_=>by have:=C.length_eq;grind
 |x::l,y::g,C,h1,ao=>by
  have L:∀z∈l,R x z:=λz E=>tu h1 E;have Z:∀z∈g,R y z:=λz E=>tu ao E;have I:x=y:=by
   have V:x∈y::g:=ab
   have M:y∈x::l:=ab
   grind
  subst I;rw[OG A (List.Perm.cons_inv C) ab ab]
end
def fV(a b:Int):Int:=if a<b then -1 else if b<a then 1 else 0
def hJ:aa Int->Int
 | []=>0
 |x::l=>if x=0 then hJ l else x
section
variable {P:Program}  {s:al}
def lx(x:Int × Int):aa X:=[(x.1:X),(x.2:X)]
def lb(x y:Int × Int):Int:=hJ [fV x.1 y.1,fV x.2 y.2]
end
section
variable {P:Program} {az:Type}
def eb(h:ae)(v:X)(enc:az->aa X)(k:Nat)(l:aa az)(ap ag:Nat):Prop :=
 (l=[]/\v = .slice none 0 0)\/∃b,ap<=b/\b<ag/\v = .slice (some ⟨b,0,some k⟩) l.length l.length/\u h b=some (.cells (a7 enc l) false)
theorem o4{enc:az->aa X}:∀(l:aa az) (x:az),a7 enc (l++[x])=a7 enc l++enc x
 | [],x=>by simp[a7]
 |y::l,x=>by simp[a7,o4 l x]
theorem mG(h:ae)(b k:Nat):u (wZ h b) k=if k=b then none else u h k:=Oy h b k
theorem pN{s:Nat}{l:aa X}{g:Nat}(ar:0<s):pT h U s l g = .ok (.val (.slice (some ⟨U,0,some s⟩) g g) (T h U (.cells l false)) (U+1)):=by
 cases s with
 |zero=>omega
 |succ s=>rfl
theorem rD{aB:aw Nat}{n:Nat}{k:aa X->R fr}(g:u h b=some (.cells cs bG))(A:0<n)(C:n<=cs.length-off):lr h (some ⟨b,off,aB⟩) n k=k ((cs.drop off).take n):=by
 cases n with
 |zero=>omega
 |succ n =>
  show cellsOf h b (λcs _=>R.of "read - out of block" (m8 (n+1) (mY cs off)) k)=_;rw[uT g,rA,qG,if_pos ab];rfl
theorem auQ{enc:az->aa X}{k:Nat}(Z:∀x,(enc x).length=k)(C:∀x,d4 (enc x)=true)(g:0<k){l:aa az}(aI:eb h v enc k l ap U)(I:ap<=U){x:az}(ao:u h b3=some (.cells cs bG))(bd:(cs.drop db).take k=enc x)(M:(l.length+1)*k<=1000000):
  ∃dX ac,dM k h U v (.slice (some ⟨b3,db,li⟩) 1 pf) = .ok (.val dX ac (U+1))/\eb ac dX enc k (l++[x]) ap (U+1)/\(∀b,b<ap->u ac b=u h b):=by
 have A:k<=cs.length-db:=ab
 have h1:l.length+1<=1000000:=iv (by have:=Cx (l.length+1) g;omega) M;rcases aI with⟨rfl,rfl⟩|⟨b,g6,eR,rfl,aW⟩
 ·refine⟨.slice (some ⟨U,0,some k⟩) 1 1,T h U (.cells (enc x) false),?_,.inr ⟨U,I,J,rfl,by simp[a7]⟩,ab⟩;unfold dM;simp only;rw[x5,uR,rD ao g A,bd];unfold gZ;have L:Nat.ble (Nat.add 0 1) 0=false:=rfl;have aK:(Nat.ble (Nat.mul (Nat.add 0 1) k) 1000000&&Nat.ble (Nat.add 0 1) 1000000)=true:=by
   simp only[eo,pK]
   grind
  rw[L,aK];exact pN g
 ·refine⟨.slice (some ⟨U,0,some k⟩) (l.length+1) (l.length+1),T (wZ h b) U (.cells (a7 enc l++enc x) false),?_,.inr ⟨U,I,J,by simp,by simp[o4]⟩,λc a1=>by rw[jP,if_neg J,mG,if_neg J]⟩
  unfold dM;simp only;rw[x5,uR,rD ao g A,bd];unfold gZ;have L:Nat.ble (Nat.add l.length 1) l.length=false:=by
   cases V:Nat.ble (Nat.add l.length 1) l.length with
   |false=>rfl
   |true=>have:=lX V;grind
  have aK:(Nat.ble (Nat.mul (Nat.add l.length 1) k) 1000000&&Nat.ble (Nat.add l.length 1) 1000000)=true:=by
   simp only[eo,pK]
   grind
  rw[L,aK];show pU h U k (some ⟨b,0,some k⟩) l.length l.length (l.length+1) (enc x)=_;unfold pU;simp only[uT aW];have E:m8 (Nat.mul l.length k) (mY (a7 enc l) 0)=some (a7 enc l):=by rw[rA,oe,qG,if_pos (by rw[fN Z];grind)];rw[o2 (by rw[fN Z];grind)]
  rw[E];have cc:(!false&&Nat.beq 0 0&&Nat.beq (jo (a7 enc l)) (Nat.mul l.length k)&&Nat.beq k k&&Nat.beq l.length l.length&&d4 (enc x))=true:=by rw[oi,fN Z,C];simp
  show(bif _ then _ else _)=_;rw[cc,jK];exact pN g
end
section
variable {P:Program}  {s:al}
def pick(key:MapEntry->Int × Int)(len:MapEntry->Nat)(l:aa MapEntry):aa (Int × Int):=(l.filter (λe=>decide (0<len e))).map key
end
theorem P3{b:Int}:fV a b<0↔a<b:=by unfold fV;omega
theorem ww{b:Int}:fV a b=0↔a=b:=by unfold fV;omega
theorem Gs{x y:Int × Int}:lb x y<0↔x.1<y.1\/(x.1=y.1/\x.2<y.2):=by
 unfold lb hJ hJ hJ
 by_cases h:fV x.1 y.1=0
 ·rw[if_pos h];rw[ww]at h
  by_cases ao:fV x.2 y.2=0
  ·rw[if_pos ao];rw[ww]at ao;omega
  ·rw[if_neg ao,P3];omega
 ·rw[if_neg h,P3];have:¬x.1=y.1:=λe=>h (ww.2 e);omega
theorem aq2(x y z:Int × Int)(h1:¬lb y x<0)(ao:¬lb z y<0):¬lb z x<0:=by rw[Gs]at *;omega
theorem aq3(x y:Int × Int)(h:lb x y<0):¬lb y x<0:=by rw[Gs]at *;omega
theorem akN(x y:Int × Int)(h1:¬lb y x<0)(ao:¬lb x y<0):x=y:=by
 rw[Gs]at *
 grind
section
variable {az:Type}
end
def lenOf(h:ae)(e:MapEntry):aw Nat:=match e.val with
 | .pointer (some a)=>(match u h a.block with
  |some (.cells cs _)=>(match g3 cs (a.off+1)with
   |some (.slice _ n _)=>some n
   |_=>none)
  |_=>none)
 |_=>none
theorem FK{az:Type}{enc:az->aa X}(g:∀x,iG (enc x)=true):∀l:aa az,iG (a7 enc l)=true
 | []=>rfl
 |x::l=>by
  have app:∀a b:aa X,iG a=true->iG b=true->iG (a++b)=true:=by
   intro a
   induction a with
   |nil=>grind
   |cons y a A =>
    intro b h k;have h:(qJ y&&iG a)=true:=h;simp only[eo]at h;show(qJ y&&iG (a++b))=true
    grind
  exact app _ _ (g x) (FK g l)
section
variable {P:Program}
end
abbrev dC:=Int × Int × Int
def j6(x:dC):aa X:=[(x.1:X),(x.2.1:X),(x.2.2:X)]
def iH(e:dC):aa dC->aa dC
 | []=>[e]
 |x::l=>bif fk x.1 e.1&&fk x.2.1 e.2.1 then(x.1,x.2.1,bif lw e.2.2 x.2.2 then e.2.2 else x.2.2)::l else x::iH e l
def ig(acc:aa dC):aa dC->aa dC
 | []=>acc
 |e::l=>ig (iH e acc) l
section
variable {P:Program}
def j7(x y:dC):Int:=hJ [hJ [fV x.1 y.1,fV x.2.1 y.2.1],fV x.2.2 y.2.2]
theorem Gt{x y:dC}:j7 x y<0↔x.1<y.1\/(x.1=y.1/\(x.2.1<y.2.1\/(x.2.1=y.2.1/\x.2.2<y.2.2))):=by
 have A:lb (x.1,x.2.1) (y.1,y.2.1)=hJ [fV x.1 y.1,fV x.2.1 y.2.1]:=rfl;have C:hJ [fV x.1 y.1,fV x.2.1 y.2.1]=0↔x.1=y.1/\x.2.1=y.2.1:=by
  unfold hJ hJ hJ
  by_cases h:fV x.1 y.1=0
  ·rw[if_pos h];rw[ww]at h
   by_cases ao:fV x.2.1 y.2.1=0
   ·rw[if_pos ao];rw[ww]at ao;omega
   ·rw[if_neg ao,ww];omega
  ·rw[if_neg h,ww];have:¬x.1=y.1:=λe=>h (ww.2 e);omega
 have g:=@Gs (x.1,x.2.1) (y.1,y.2.1);rw[A]at g;simp only at g;show hJ (hJ [fV x.1 y.1,fV x.2.1 y.2.1]::[fV x.2.2 y.2.2])<0↔_;generalize hJ [fV x.1 y.1,fV x.2.1 y.2.1]=z at *
 unfold hJ hJ hJ
 by_cases h:z=0
 ·rw[if_pos h]
  by_cases ao:fV x.2.2 y.2.2=0
  ·rw[if_pos ao];rw[ww]at ao;omega
  ·rw[if_neg ao,P3];omega
 omega
theorem aq4(x y z:dC)(h1:¬j7 y x<0)(ao:¬j7 z y<0):¬j7 z x<0:=by rw[Gt]at *;omega
theorem aq5(x y:dC)(h:j7 x y<0):¬j7 y x<0:=by rw[Gt]at *;omega
theorem akO(x y:dC)(h1:¬j7 y x<0)(ao:¬j7 x y<0):x=y:=by
 rw[Gt]at *
 grind
end
def pb(n:Nat):aa X:=[.int .i64 0,.int .u64 (n:Int)]
section
variable {P:Program}  {s:al}
theorem auR(m:Nat)(h:m<4294967296):IntKind.wrap .i64 (m:Int)=(m:Int):=wV J J
end
section
variable {P:Program}  {s:al}
end
def my(x:dC):X:=.agg ⟨lx (x.1,x.2.1)⟩
def kp:Nat->aa dC->aa MapEntry
 |_,[]=>[]
 |i,x::l=>{ key:=my x,val:=.agg ⟨pb x.2.2.toNat⟩,born:=i }::kp (i+1) l
def wW(x e:dC):al:=fk x.1 e.1&&fk x.2.1 e.2.1
def Dj(n:Int):al:=match n with
 | .ofNat m=>Nat.blt m 2147483648
 | .negSucc _=>false
def lZ(x:dC):Prop:=Dj x.1=true/\Dj x.2.1=true/\Dj x.2.2=true
def qf(e:dC):aa dC->aw (Nat × dC)
 | []=>none
 |x::l=>bif wW x e then some (0,x)else(qf e l).map (λp=>(p.1+1,p.2))
theorem Kb(e:dC):∀(l:aa dC),iH e l=match qf e l with
  |none=>l++[e]
  |some (p,x)=>l.set p (x.1,x.2.1,bif lw e.2.2 x.2.2 then e.2.2 else x.2.2)
 | []=>rfl
 |x::l=>by
  unfold iH qf;show(bif wW x e then _ else _)=_;cases wW x e with
  |true=>rfl
  |false =>
   simp only[mX];rw[Kb e l]
   grind
theorem KD{e:dC}:∀{l:aa dC} {p:Nat} {x:dC},qf e l=some (p,x)->l[p]? = some x/\wW x e=true
 | [],p,x,h=>by cases h
 |y::l,p,x,h=>by
  unfold qf at h;cases ar:wW y e with
  |true=>grind
  |false =>
   rw[ar]at h;simp only[mX]at h;cases g:qf e l with
   |none=>grind
   |some q =>
    rw[g]at h;cases h;obtain⟨h1,ao⟩:=KD    g
    grind
theorem ajB(i:Nat)(l:aa dC)(e:dC):kp i (l++[e])=kp i l++[{ key:=my e,val:=.agg ⟨pb e.2.2.toNat⟩,born:=i+l.length }]:=by
 induction l generalizing i with
 |nil=>rfl
 |cons x l g =>
  show _::kp (i+1) (l++[e])=_::(kp (i+1) l++_)
  grind
theorem Xm(e:dC):∀(i p:Nat) (l:aa dC),p<l.length->Ho (kp i l) p (my e) (.agg ⟨pb e.2.2.toNat⟩)=kp i (l.set p e)
 |_,_,[],h=>ab
 |i,0,x::l,h=>rfl
 |i,p+1,x::l,h=>by show _::Ho (kp (i+1) l) p _ _=_::kp (i+1) (l.set p e);rw[Xm e (i+1) p l ab]
section
variable {P:Program}  {s:al}
def Lj(P:Program)(dT:Nat):Prop:=∀x y:dC,lZ x->lZ y->k7 P dT (my x) (my y)=some (wW y x)
theorem O7{dT:Nat}(g:Lj P dT){e:dC}(A:lZ e):∀(i j:Nat) (l:aa dC),(∀x∈l,lZ x)->kJ P dT (my e) (kp i l) j=some ((qf e l).map λp=>(j+p.1,{ key:=my p.2,val:=.agg ⟨pb p.2.2.2.toNat⟩,born:=i+p.1 }))
 |i,j,[],_=>rfl
 |i,j,x::l,h=>by
  have C:=O7 g A (i+1) (j+1) l λy E=>h y ab;unfold kp kJ qf;simp only[g e x A (h x ab)];cases wW x e with
  |true=>rfl
  |false =>
   simp only[mX];rw[show Nat.succ j=j+1 from rfl,C];cases qf e l with
   |none=>rfl
   |some q =>
    grind
theorem akP{x e:dC}(h:wW x e=true):my x=my e/\x.1=e.1/\x.2.1=e.2.1:=by
 unfold wW at h;simp only[eo,yi]at h;refine⟨?_,h⟩;unfold my
 grind
theorem auS(A:Lj P dT){e:dC}(g:lZ e){r:Nat}{l:aa dC}(C:∀x∈l,lZ x)(E:u h r=some (.map (kp 0 l) cI))(z:X):
  j3 P h dT z true (.map (some r)) (my e) = .ok (match qf e l with
   |none=>.tuple #[z,.bool false]
   |some p=>.tuple #[.agg ⟨pb p.2.2.2.toNat⟩,.bool true]):=by
 unfold j3 yA;rw[A e e g g];unfold Q5 k8;simp only[E,O7 A g 0 0 l C];cases qf e l <;> rfl
theorem akQ(e:dC):ov (my e) (my e)=true:=by
 show(qM (e.1:X) (e.1:X)&&(qM (e.2.1:X) (e.2.1:X)&&true))=true;have:∀n:Int,qM (.int .i64 n) (.int .i64 n)=true:=λn=>by show(mC .i64 .i64&&fk n n)=true;rw[yi.2 rfl];rfl
 grind
theorem adu(E:Lj P dT){e:dC}(A:lZ e){r:Nat}{l:aa dC}(L:∀x∈l,lZ x)(V:u h r=some (.map (kp 0 l) l.length)){w:Nat}(g:w=match qf e l with|none=>e.2.2.toNat|some p=>(bif lw e.2.2 p.2.2.2 then e.2.2 else p.2.2.2).toNat):
  m9 P dT h (.map (some r)) (my e) (.agg ⟨pb w⟩) = .ok (T h r (.map (kp 0 (iH e l)) (iH e l).length)):=by
 unfold m9 yA;rw[E e e A A];show k8 h r _=_;unfold k8;simp only[V,O7 E A 0 0 l L];rw[Kb];cases C:qf e l with
 |none =>
  rw[C]at g;simp only at g;subst g;simp only[Option.map_none,jK,ajB,ib,nC,Fr,iE]
 |some p =>
  obtain⟨q,x⟩:=p;rw[C]at g;simp only at g;obtain⟨h1,ao⟩:=KD C;obtain⟨M,Z,lN⟩:=akP ao;have I:q<l.length:=ab
  simp only[Fs,M,akQ,qF,iE,JB];have:=Xm (x.1,x.2.1,bif lw e.2.2 x.2.2 then e.2.2 else x.2.2) 0 q l I
  grind
end
theorem uX{n:Int}(h:Dj n=true):∃m:Nat,n=(m:Int)/\m<2147483648:=by
 cases n with
 |ofNat m=>exact⟨m,rfl,by simpa[Dj,o5]using h⟩
 |negSucc m=>cases h
section
variable {P:Program}  {s:al}
end
section
variable {P:Program}  {s:al}
end
theorem Xn(e:dC):∀(l g:aa dC),ig g (l++[e])=iH e (ig g l)
 | [],g=>rfl
 |x::l,g=>Xn e l (iH x g)
theorem ai3{e:dC}(I:lZ e){l:aa dC}(A:∀x∈l,lZ x):∀x∈iH e l,lZ x:=by
 intro x g;rw[Kb]at g;cases C:qf e l with
 |none =>
  rw[C]at g;rcases he.1 g with h|h
  ·exact A x h
  ·simp at h;subst h;exact I
 |some p =>
  rw[C]at g;obtain⟨h1,ao⟩:=KD C;have E:=A _ (kk h1);rcases List.mem_or_eq_of_mem_set g with h|h
  ·exact A x h
  ·subst h;refine⟨E.1,E.2.1,?_⟩;cases lw e.2.2 p.2.2.2 with
   |true=>exact I.2.2
   |false=>exact E.2.2
theorem JM:∀{l acc:aa dC},(∀x∈l,lZ x)->(∀x∈acc,lZ x)->∀x∈ig acc l,lZ x
 | [],acc,_,g=>g
 |e::l,acc,A,g=>JM  (acc:=iH e acc) (λx C=>A x ab) (ai3 (A e ab) g)
theorem akR(e:dC)(l:aa dC):(iH e l).length<=l.length+1:=by
 rw[Kb]
 grind
theorem OH:∀(l g:aa dC),(ig g l).length<=g.length+l.length
 | [],g=>by simp[ig]
 |e::l,g=>by
  have h1:=OH l (iH e g);have ao:=akR e g;show(ig (iH e g) l).length<=_
  grind
theorem WC:∀(i:Nat) (l:aa dC),Di (kp i l)/\∀e∈kp i l,i<=e.born/\e.born<i+l.length
 |i,[]=>⟨List.Pairwise.nil,λe h=>by cases h⟩
 |i,x::l=>by
  obtain⟨h1,ao⟩:=WC (i+1) l;refine⟨List.Pairwise.cons ab h1,λe g=>?_⟩;rcases gh.1 g with rfl|g
  all_goals grind
def wX(e:MapEntry):dC:=match e.key,e.val with
 | .agg ⟨[.int _ a,.int _ b]⟩,.agg ⟨[_,.int _ c]⟩=>(a,b,c)
 |_,_=>(0,0,0)
theorem WU:∀(i:Nat) (l:aa dC),(∀x∈l,lZ x)->(kp i l).map wX=l/\∀e∈kp i l,∃w:Nat,w<2147483648/\(wX e).2.2=(w:Int)/\e.key=my (wX e)/\e.val = .agg ⟨pb w⟩
 |i,[],_=>⟨rfl,λe h=>by cases h⟩
 |i,x::l,h=>by
  obtain⟨h1,ao⟩:=WU (i+1) l λy I=>h y ab;obtain⟨w,A,C⟩:=uX (h x ab).2.2;obtain⟨a,b,c⟩:=x;simp only at A;subst A;have E:wX { key:=my (a,b,(w:Int)),val:=.agg ⟨pb ((w:Int)).toNat⟩,born:=i }=(a,b,(w:Int)):=rfl;refine⟨?_,λe g=>?_⟩
  ·show wX _::(kp (i+1) l).map wX=_
   grind
  ·rcases gh.1 g with rfl|g
   all_goals grind
section
variable {P:Program}
end
section
variable {P:Program}
theorem cx.still{H:fq}{w:World}(L:ed B aj H w)(g:w.heap.size<=a8.heap.size)(I:a8.os=w.os)(C:ri w a8)(A:a8.output=w.output)(E:∀k,k<w.heap.size->a8.heap[k]? = w.heap[k]?):cx B aj H w U U aj H a8 where
 rel:=L.world g λb p V ar=>by obtain⟨o,M⟩:=nA.1 ar;exact E _ (L.obj b p o V M).Dh
 agree:=ab
 size:=g
 os:=I
 tape:=C
 output:=A
 frame:=ab
 own:=ab
 le:=J
end
section
variable {az:Type}
def aA(U:Nat)(h ac:ae):Prop:=∀b,b<U->u ac b=u h b
theorem aM{p:Prop}(h:p:=by grind[aA]):p:=h
theorem aA.refl(U:Nat)(h:ae):aA U h h:=aM
theorem aA.trans(a:aA U h ac)(b:aA Y ac ao)(g:U<=Y):aA U h ao:=aM
theorem aA.set{o:fU}(a:aA U h ac)(g:U<=b):aA U h (T ac b o):=aM
theorem aA.mono(a:aA Y h ac)(g:U<=Y):aA U h ac:=aM
def cL(h:ae)(U:Nat)(v:X)(enc:az->aa X)(l:aa az):Prop :=
 ∃a cap,v = .slice a l.length cap/\(l≠[]->∃b aB bG,b<U/\a=some ⟨b,0,aB⟩/\u h b=some (.cells (a7 enc l) bG))
theorem cL.F{enc:az->aa X}{l:aa az}(ar:cL h U v enc l)(L:aA U h ac)(E:U<=Y):cL ac Y v enc l:=by obtain⟨a,cap,M,C⟩:=ar;refine⟨a,cap,M,λI=>?_⟩;obtain⟨b,aB,bG,A,g,V⟩:=C I;exact⟨b,aB,bG,J,g,by rw[L b A];omega⟩
theorem eb.rd{k:Nat}{enc:az->aa X}{l:aa az}(ar:eb h v enc k l ap ag):cL h ag v enc l:=by
 rcases ar with⟨rfl,rfl⟩|⟨b,h1,ao,rfl,g⟩
 ·exact⟨none,0,rfl,λh=>absurd rfl h⟩
 ·exact⟨_,_,rfl,λ_=>⟨b,some k,false,ao,rfl,g⟩⟩
theorem cL.at{enc:az->aa X}{l:aa az}(ar:cL h U v enc l){x:az}(A:l[i]? = some x):
  i<l.length/\∃b aB bG cap,b<U/\v = .slice (some ⟨b,0,aB⟩) l.length cap/\u h b=some (.cells (a7 enc l) bG):=by
 obtain⟨a,cap,I,g⟩:=ar;obtain⟨b,aB,bG,C,rfl,E⟩:=g ab
 grind
theorem CM{enc:az->aa X}{k:Nat}(A:∀x,(enc x).length=k){l:aa az}{x:az}(g:l[i]? = some x)(E:j<k):(a7 enc l)[i*k+j]? = (enc x)[j]?:=by
 have C:=sD A g
 grind
end
section
variable {H:Type} {enc:TypeId × X->H} {P:Program} {w:World} {base:Nat} {aB:Nat->al} {A6:al}
structure Tri (P:Program) (t:TypeId):Prop where
 ex:∃dx kE fL fY,P.underlying t=some (.struct dx)/\dx[0]? = some kE/\dx[1]? = some fL/\dx[2]? = some fY/\kE.offset=0/\fL.offset=1/\fY.offset=2 /\
  P.underlying kE.type=some (.int .i64)/\P.underlying fL.type=some (.int .i64)/\P.underlying fY.type=some (.int .i64)/\P.cellsOf kE.type=1/\P.cellsOf fL.type=1/\P.cellsOf fY.type=1
 size:P.cellsOf t=3
abbrev hZ:=Int × Int × Int
def iI(x:hZ):aa X:=[(x.1:X),(x.2.1:X),(x.2.2:X)]
def LN(n:Int):Prop:=(Lit.int .i64 n).wf=true
theorem anh{x:DataW H × aa MemPlace}(av:Tri P t)(h:DataW.trod enc P w base aB A6 DX t cs=some x):∃e:hZ,cs=iI e/\LN e.1/\LN e.2.1/\LN e.2.2:=by
 obtain⟨dx,kE,fL,fY,cq,au,h1,ao,IS,e7,db,aDJ,VF,EX,V,c1,c2⟩:=av.ex;obtain⟨xs,n,rfl,_,g,By,C⟩:=DataW.trod_struct cq h;rw[av.size]at g;have A:∀(i:Nat) (f:Field),dx[i]? = some f->f.offset=i->P.underlying f.type=some (.int .i64)->P.cellsOf f.type=1->∃n:Int,(cs.drop i).take 1=[(n:X)]/\LN n:=λi f bK fI d5 E=>by
  have M:=C i f bK;have ag:i<xs.length:=ab
  rw[fI,E,lo ag]at M;obtain⟨n,h1,_,ao⟩:=DataW.trod_int d5 M;exact⟨n,h1,ao⟩
 obtain⟨a,I,Z⟩:=A 0 kE au IS aDJ V;obtain⟨b,L,me⟩:=A 1 fL h1 e7 VF c1;obtain⟨c,E,oW⟩:=A 2 fY ao db EX c2
 match cs,g with
 | [x,y,z],_ =>
  simp at I L E;exact⟨(a,b,c),by simp[iI,I,L,E],Z,me,oW⟩
theorem akS{a:Addr}{n:Nat}(h:w.cells? base a n=some cs):cs.length=n/\∀i v,cs[i]? = some v->w.cell? (a.add i)=some v:=by
 unfold World.cells? at h
 split at h
 ·have g:cs.length=n:=by simpa using mapM_some_length h
  refine⟨g,λi v A=>?_⟩;have:=mapM_some_get h i i ab
  grind
 grind
theorem aq6(a:Addr)(i j:Nat):(a.add i).add j=a.add (i+j):=by
 unfold Addr.add
 grind
theorem akT{az:Type}{L:az->aa X}{k:Nat}{e:TypeId}{x:DataW H × aa MemPlace}(cq:P.underlying t=some (.slice e))(a1:P.cellsOf e=k)(R:az->Prop)(E:∀(n:Nat) (c:aa X) y,DataW.trod enc P w base aB A6 n e c=some y->∃z:az,c=L z/\R z)(h:DataW.trod enc P w base aB A6 DX t cs=some x):
  cs=[.slice none 0 0]\/∃(a:Addr) (g:aa az) (cap:Nat),cs=[.slice (some a) g.length cap]/\g.length<=cap/\cap<=maxLen/\(∀z∈g,R z)/\∀i v,(a7 L g)[i]? = some v->w.cell? (a.add i)=some v:=by
 rcases DataW.trod_slice cq h with⟨V,_⟩|⟨a,len,cap,A,rest,n,rfl,V,_,aW,bo,hm,fO,hel,_⟩
 ·grind
 ·have key:∀m,m<=len->∃g:aa az,g.length=m/\(∀z∈g,R z)/\(a7 L g).length=m*k/\∀i v,(a7 L g)[i]? = some v->w.cell? (a.add i)=some v:=by
   intro m
   induction m with
   |zero=>intro _;exact⟨[],rfl,by simp,by simp[a7],λi v I=>by simp[a7]at I⟩
   |succ m eS =>
    intro Ek;obtain⟨g,h1,ao,aT,a9⟩:=eS J;have kF:=hel m J;rw[a1,lo (by omega:m<A.length)]at kF;simp only[jI]at kF;obtain⟨c,Z,M⟩:=kF;obtain⟨z,rfl,c0⟩:=E _ _ _ M;obtain⟨lh,hcg⟩:=akS Z;refine⟨g++[z],ab,λy C=>?_,by rw[o4,ib,aT,lh,Fv],λi v I=>?_⟩
    ·rcases he.1 C with C|C
     ·exact ao y C
     ·rw[iu.1 C];exact c0
    ·rw[o4,Fh]at I
     split at I
     ·grind
     ·rename_i eG
      have:=hcg _ v I;rw[aq6,aT]at this
      grind
  obtain⟨g,h1,ao,_,a9⟩:=key len J
  grind
end
def yP(cf:aa (Place × aa X)):ce:=λb=>(cf[b]?).map (·.1)
def ze:Nat->aa (Place × aa X)->ae->ae
 |_,[],h=>h
 |i,p::cf,h=>ze (i+1) cf (T h i (.cells p.2 true))
theorem O8:∀(cf:aa (Place × aa X)) (i:Nat) (h:ae) (b:Nat),u (ze i cf h) b=if b<i then u h b else match cf[b-i]? with
  |some p=>some (.cells p.2 true)
  |none=>u h b
 | [],i,h,b=>by by_cases g:b<i <;> simp[ze,g]
 |p::cf,i,h,b=>by
  show u (ze (i+1) cf (T h i (.cells p.2 true))) b=_;rw[O8 cf (i+1) _ b,jP]
  grind
theorem Zr{o:fU}(h:u (ze 0 cf hs) b=some o):∃p,cf[b]? = some p/\o = .cells p.2 true:=by
 rw[O8,if_neg (Nat.not_lt_zero _),Nat.sub_zero,Ka]at h
 grind
theorem auT{p:Place × aa X}(h:cf[b]? = some p):u (ze 0 cf hs) b=some (.cells p.2 true):=by rw[O8,if_neg (Nat.not_lt_zero _),Nat.sub_zero,h]
def InW(w:World)(cf:aa (Place × aa X)):Prop:=∀p∈cf,∃c e eu,w.heap[p.1.ca]? = some (.cells c e eu)/\pO (yP cf) p.2 c p.1.off
theorem auU{w:World}(A:InW w cf):ed w.heap.size (yP cf) (u (ze 0 cf hs)) w where
 base:=J
 obj:=λb p o g E=>by obtain⟨q,C,rfl⟩:=Zr E;unfold yP at g;rw[C]at g;cases g;obtain⟨c,e,I,L,M⟩:=A q ab;exact⟨ab,c,e,I,L,M⟩
 inj:=λb Z p eC g V ar _ ey _=>by
  exfalso;unfold yP at g;cases C:cf[b]? with
  |none=>grind
  |some q =>
   rw[C]at g;have g:q.1=p:=ab
   subst g;obtain⟨c,e,I,L,_⟩:=A q ab
   grind
 nd:=λb ar=>by
  obtain⟨o,E⟩:=nA.1 ar;obtain⟨q,C,_⟩:=Zr E;unfold yP
  grind
theorem axG(cf:aa (Place × aa X)):kg (yP cf) cf.length:=λb g=>by
 unfold yP
 grind
theorem ani{E:ce}{H A:fq}{w:World}(I:B=w.heap.size)(g:cx B aj H w U Y E A a8):RowKit.Below w.heap.size w a8 :=
 ⟨g.os,g.tape.1,g.output,g.size,λk C=>g.frame k C (by rintro⟨b,p,_,_,_,h⟩;omega)⟩
section
variable {P:Program}
end
section
variable {az:Type}
def eJ(h:ae)(ap ag:Nat)(v:X)(enc:az->aa X)(l:aa az):Prop :=
 ∃a cap,v = .slice a l.length cap/\(l≠[]->∃b aB bG,ap<=b/\b<ag/\a=some ⟨b,0,aB⟩/\u h b=some (.cells (a7 enc l) bG))
theorem eJ.rd{enc:az->aa X}{l:aa az}(ar:eJ h ap ag v enc l):cL h ag v enc l:=by
 obtain⟨a,cap,g,C⟩:=ar;refine⟨a,cap,g,λA=>?_⟩
 grind
theorem eJ.F{ec:Nat}{enc:az->aa X}{l:aa az}(ar:eJ h ap ag v enc l)(C:∀b,ap<=b->b<ag->u ac b=u h b)(h1:ec<=ap)(ao:ag<=dk):eJ ac ec dk v enc l:=by
 obtain⟨a,cap,g,E⟩:=ar;refine⟨a,cap,g,λA=>?_⟩
 grind
theorem eb.gv{k:Nat}{enc:az->aa X}{l:aa az}(ar:eb h v enc k l ap ag):eJ h ap ag v enc l:=by
 rcases ar with⟨rfl,rfl⟩|⟨b,h1,ao,rfl,g⟩
 ·exact⟨none,0,rfl,λh=>absurd rfl h⟩
 ·exact⟨_,_,rfl,λ_=>⟨b,some k,false,h1,ao,rfl,g⟩⟩
end
section
variable {P:Program}  {s:al}
@[congr] theorem aBW{az:Type}{r g:R az}{k:az->Prop}(h:r=g):af r k=af g k:=by rw[h]
@[simp] theorem abq(U:Nat)(o:fU):xe U (.ptr o) = (bf U):=rfl
@[simp] theorem abr(o:fU):sW (.ptr o)=o:=rfl
@[simp] theorem Yb(U:Nat)(o:fU)(n c:Nat):xe U (.slice o n c) = .slice (some ⟨U,0,none⟩) n c:=rfl
@[simp] theorem Yc(o:fU)(n c:Nat):sW (.slice o n c)=o:=rfl
@[simp] theorem adv(k:IntKind)(n:Int):dn (.int k n)=[.int k n]:=rfl
@[simp] theorem Zs(a:aw Addr)(n c:Nat):dn (.slice a n c)=[.slice a n c]:=rfl
@[simp] theorem adw(l:aa X):dn (.agg ⟨l⟩)=l:=rfl
@[simp] theorem abs(b:al):dn (.bool b)=[.bool b]:=rfl
@[simp] theorem adx(a:aw Addr):dn (.pointer a)=[.pointer a]:=rfl
@[simp] theorem Yd(k:IntKind)(n:Int):gN (.int k n)=true:=rfl
@[simp] theorem Xo(b:al):gN (.bool b)=true:=rfl
@[simp] theorem WV(a:aw Addr)(n c:Nat):gN (.slice a n c)=true:=rfl
@[simp] theorem Ye(a:aw Addr):gN (.pointer a)=true:=rfl
@[simp] theorem Yf:d4 []=true:=rfl
@[simp] theorem ry(x:X)(l:aa X):d4 (x::l)=(gN x&&d4 l):=by
 show(bif gN x then d4 l else false)=_
 grind
@[simp] theorem aBO(l:aa X)(a b:Nat):wD l a b=if d4 l=true then .ok (.slice (.cells l false) a b)else .no "cells" := by
 show(bif d4 l then _ else _)=_
 grind
@[simp] theorem El(n:Nat):(n=n+1+1)↔False:=ab
@[simp] theorem Bz(n:Nat):(n=n+1+1+1)↔False:=ab
@[simp] theorem ne4(n:Nat):(n=n+1+1+1+1)↔False:=ab
@[simp] theorem aCk(n:Nat):(n+1+1=n)↔False:=ab
@[simp] theorem aCl(n:Nat):(n+1+1+1=n)↔False:=ab
@[simp] theorem aCm(n:Nat):(n+1+1+1+1=n)↔False:=ab
theorem WW(a:Addr):AA a a=true:=by
 obtain⟨b,o,aB⟩:=a;unfold AA;cases aB <;> simp
@[simp] theorem sC(k:IntKind)(n:Int):ov (.int k n) (.int k n)=true:=by show(mC k k&&fk n n)=true;rw[wy,k4];simp
@[simp] theorem ya(b:al):ov (.bool b) (.bool b)=true:=by show(b == b)=true;simp
@[simp] theorem tw(a:aw Addr)(l c:Nat):ov (.slice a l c) (.slice a l c)=true:=by
 cases a with
 |none=>show(Nat.beq l l&&Nat.beq c c)=true;simp
 |some a=>show(AA a a&&Nat.beq l l&&Nat.beq c c)=true;simp[WW]
@[simp] theorem CN(l:aa X):ov (.agg ⟨l⟩) (.agg ⟨l⟩)=qN l l:=rfl
@[simp] theorem akU:qN [] []=true:=rfl
@[simp] theorem ajC(x y:X)(l m:aa X):qN (x::l) (y::m)=(qM x y&&qN l m):=rfl
@[simp] theorem aBQ(k:IntKind)(n:Int):qM (.int k n) (.int k n)=true:=sC k n
@[simp] theorem aBL(a:aw Addr)(l c:Nat):qM (.slice a l c) (.slice a l c)=true:=tw a l c
@[simp] theorem sE(v w:X):nH v (.ok w)=ov v w:=rfl
theorem anj{az:Type}{enc:az->aa X}{k:Nat}(A:∀x,(enc x).length=k){l:aa az}{x:az}(g:l[i]? = some x)(C:(enc x)[j]? = some v):(a7 enc l)[i*k+j]? = some v:=by rw[CM A g ab,C]
end
def c4(x:Int):aa X:=[(x:X)]
def fd(l:aa Int):aa X:=l.map (λx=>Value.int .i64 x)
theorem iF:∀l:aa Int,a7 c4 l=fd l
 | []=>rfl
 |x::l=>by show c4 x++a7 c4 l=_;rw[iF l];rfl
theorem ix{l:aa Int}{x:Int}(h:l[i]? = some x):(fd l)[i]? = some (x:X):=by simp[fd,h]
theorem u2(l:aa Int):(fd l).length=l.length:=by simp[fd]
theorem ints_set(l:aa Int)(i:Nat)(x:Int):(fd l).set i (x:X)=fd (l.set i x):=by simp[fd,List.map_set]
theorem Xp{az:Type}{l:aa az}{x:az}(h:l[i]? = some x):i<l.length:=ab
section
variable {P:Program}  {s:al}
end
set_option linter.unusedSectionVars false
section
variable {P:Program}
@[simp] theorem yk(t:TypeId)(k:IntKind)(a b:Int):bin P .mul t (.int k a) (.int k b) = .ok (.int k (k.wrap (a*b))):=by rw[sM _ _ _ _ _ rfl,<-oh];rfl
theorem Ar{k:IntKind}{b:Int}(g:b≠0):bin P .quo t (.int k a) (.int k b) = .ok (.int k (k.wrap (a.tdiv b))):=by rw[sM _ _ _ _ _ rfl];show DL .quo k a b=_;unfold DL;rw[k4,show(b == 0)=false by grind,<-oh];rfl
end
section
variable {P:Program} {az:Type} [Inhabited az] {enc:az->aa X} {k:Nat}
def kQ(c:az->az->Int)(x y:az):al:=decide (c x y<0)
def KZ(enc:az->aa X)(c:az->az->Int)(l:aa az)(b U:Nat)(h:ae):bN:=λ_ ac Y=>U<=Y/\(∃b1:aa az,b1.Perm l/\b1.Pairwise (λx y=>¬c y x<0)/\u ac b=some (.cells (a7 enc b1) false))/\∀c,c<U->c≠b->u ac c=u h c
theorem ank{w:World}(ar:w.heap.size<=a8.heap.size)(I:a8.os=w.os)(C:ri w a8)(L:a8.output=w.output)(bK:∀k,k<w.heap.size->a8.heap[k]? = w.heap[k]?):∃q A,a8=grow (w.drewN q) A:=by
 refine⟨a8.drawn-w.drawn,a8.heap.extract w.heap.size a8.heap.size,?_⟩;obtain⟨g,M,E,A,Z⟩:=a8;have h1:g=w.heap++g.extract w.heap.size g.size:=ab
 have ao:E=w.drawn+(E-w.drawn):=by have:=C.2;grind
 have V:M=w.tape:=C.1;simp only at I L h1 ao;unfold grow World.drewN
 grind
theorem JT:∀{l:aa X},iG l=true->∀{x},x∈l->qJ x=true
 |y::l,h,x,g=>by
  have h:(qJ y&&iG l)=true:=h;simp only[eo]at h;rcases gh.1 g with rfl|g
  ·grind
  ·exact JT h.2 g
theorem lg.up{P:Program}{s:al}(g:lg P f args h U (ud v ac Y))(A:K v ac Y):aE P s f args h U K:=by
 cases s with
 |true=>exact⟨v,ac,Y,A,g⟩
 |false=>exact g.mono λ_ _ _ ⟨E,I,C⟩=>by rw[E,I,C];exact A
def Hb(P:Program)(f:FuncId)(enc:az->aa X)(c:az->az->Int):Prop:=∀x y h U,aE P false f [.agg ⟨enc x⟩,.agg ⟨enc y⟩] h U (λv _ _=>v = .int .i64 (c x y))
theorem aq7{c:az->az->Int}(L:∀x,iG (enc x)=true)(V:Hb P B6 enc c)(g off C:Nat)(w:World):CmpLays P B6 #[] enc k c g off C w:=by
 intro m M aCR _ x y;generalize sortWorldK enc k w g off m aCR M=W;obtain⟨_,ao⟩:=V x y hs 0;have A:ed W.heap.size (λ_=>none) (u hs) W:=⟨cC _,λb p o h=>(by cases h),λb b6 p eC h=>(by cases h),λb h=>by rw[Ka]at h;cases h⟩
 have aI:dt (λ_=>none) [.agg ⟨enc x⟩,.agg ⟨enc y⟩] [.agg ⟨enc x⟩,.agg ⟨enc y⟩]:=.cons (.agg (JL (L x) _)) (.cons (.agg (JL (L y) _)) .nil);have:=callsIn_wide.1 (ao W.heap.size _ W _ A (λb _=>rfl) aI 0);refine Calls.mono this ?_;rintro e a8 ⟨v,ac,Y,bu,Z,rfl,rfl,I,E⟩;have:Z = .int .i64 (c x y):=CL rfl I;subst this;exact⟨rfl,ank E.size E.os E.tape E.output λk hk=>E.frame k hk (by rintro⟨b,p,aW,_⟩;omega)⟩
def qK(c:az->az->Int)(l:aa az):aa az:=(pdq (ltOf c) l.toArray 0 l.length (Lib.bitLen l.length) true true).toList
theorem OI{c:az->az->Int}(L:SWO (ltOf c))(l:aa az):(qK c l).length=l.length/\(qK c l).Perm l/\(qK c l).Pairwise (λx y=>¬c y x<0):=by
 have h:=pdq_sorts (ltOf c) L l.toArray 0 l.length (Lib.bitLen l.length) true true (Fx _) (by simp) (Or.inl rfl);unfold qK;generalize pdq (ltOf c) l.toArray 0 l.length (Lib.bitLen l.length) true true=R at *
 obtain⟨I,A⟩:=h;have M:R.size=l.length:=by rw[I.1];simp
 refine⟨J,?_,?_⟩
 ·have V:=I.2.2;have Z:R.extract 0 l.length=R:=ab
  grind
 ·rw[Cw];intro i j ag b5 C;have g:j<R.size:=J
  have dk:i<R.size:=J
  have E:=A i j (Fx _) C J;rw[getElem!_pos R i dk,getElem!_pos R j g]at E;have bY:=NQ E
  grind
theorem O9(I:∀x,(enc x).length=k)(l:aa az){t:Nat}(E:t<l.length*k):(a7 enc l)[t]? = some (flatK enc k l.toArray)[t]!:=by
 have A:0<k:=Nat.pos_of_ne_zero (λh=>ab);have C:t / k<l.length:=(NM A).2 E;have L:=Aa t A;rw[get_flatK _ _ _ _ J];have e:t=t / k*k+t % k:=by rw[x4];exact(Nat.div_add_mod t k).symm
 conv=>lhs;rw[e]
 have h1:(l.toArray)[t / k]! = l[t / k]:=ab
 have g:t % k<(enc l[t / k]).length:=ab
 rw[anj I (lo C) (lo g),h1]
 grind
theorem P4(hN:qe P){s:al}{c:az->az->Int}(L:SlLaysF0.n6 P EW)(bK:EW.f 6=f)(azX:CU P f)(r0:CU P B6)(kj:SWO (ltOf c))(aDK:∀w,(isAgg (EW.t 24)).run P w = .ok true w)(aDL:∀w,(Go.sizeOf (EW.t 24)).run P w = .ok k w)(A:∀x,(enc x).length=k)(a6:∀x,iG (enc x)=true)(h1:∀x,∀v∈enc x,v.oneCell'=true)(a1:Hb P B6 enc c){n:Nat}{aB:aw Nat}{l:aa az}(rX:l.length=n)(bw:n<1000000)(q8:b<U)(eT:u h b=some (.cells (a7 enc l) false)):
  aE P s f [.slice (some ⟨b,0,aB⟩) n cap,.func (.func B6) #[] #[]] h U (KZ enc c l b U h):=by
 subst bK;obtain⟨mP,kX,kZ⟩:=OI kj l;refine lg.up (v:=.tuple #[]) (ac:=T h b (.cells (a7 enc (qK c l)) false)) (Y:=U) ⟨azX,λB aj w M bc ja Z a0=>callsIn_wide.2 ?_⟩ ⟨cC _,⟨_,kX,kZ,by rw[Ae,if_pos rfl]⟩,λc a1 eh=>by rw[Ae,if_neg eh]⟩;obtain⟨_,_,bd,ck,rfl⟩:∃x y,bF aj _ x/\bF aj _ y/\M=[x,y]:=by
  cases Z with|cons bd Z=>cases Z with|cons ck Z=>cases Z;exact⟨_,_,bd,ck,rfl⟩
 cases CL (aj:=aj) rfl ck;obtain⟨ea,bL,rfl,qO⟩:=bd.yb;have C:∀a8,(cx B aj (u h) w U U aj (u (T h b (.cells (a7 enc (qK c l)) false))) a8)->Fin B aj h w U (ud (.tuple #[]) (T h b (.cells (a7 enc (qK c l)) false)) U) (.returned (.tuple #[])) a8:=λa8 hm=>⟨_,_,_,aj,_,rfl,⟨rfl,rfl,rfl⟩,.tuple .nil,hm⟩
 rcases xZ n with au|SD
 ·subst au;have ni:l=[]:=xW rX;have qc:qK c l=[]:=xW J;refine(AnyF.slices_SortFunc_none L ea bL _ w).mono ?_;rintro e a8 ⟨rfl,rfl⟩;refine C _ ?_;have:u (T h b (.cells (a7 enc (qK c l)) false))=u h:=funext λx=>by
   rw[Ae]
   grind
  rw[this];exact cx.refl U bc
 ·obtain⟨p,aW,rfl⟩:∃p,aj b=some p/\ea=some ⟨p.ca,p.off+0,none⟩:=ab
  have SG:=bc.obj b p _ aW eT;obtain⟨ey,E,V,dS,ap,ag,bO,hfz,g,ahc⟩:=SG;have oJ:=fN (enc:=enc) A l;have aCn:l.length*k<=V.size:=J
  have vG:∀t,t<l.length*k->V[t]? = some (flatK enc k l.toArray)[t]!:=λt cq=>by obtain⟨dX,aU,aK⟩:=g t _ (O9 A l cq);rw[iE]at aU;have qa:qJ (flatK enc k l.toArray)[t]! = true:=JT (FK a6 l) (kk (O9 A l cq));rw[aU,CL qa aK]
  have fu:HoldsK enc k w p.ca 0 l.toArray:=λt cq=>by
   have cq:t<l.length*k:=by simpa using cq
   refine⟨?_,?_⟩
   ·simp only[World.cell?,bO,iE,Cz,nB,fg]
    grind
   ·simp only[World.frozen?,bO]
    grind
  have I:=AnyQ.slices_SortFunc_eq L k aDK aDL enc A h1 c kj B6 #[] p.ca 0 bL l.toArray w (by obtain⟨fn,dl,e1,hb⟩:=r0;obtain⟨gw,mR⟩:=nA.1 e1;exact enters_of dl hb mR) (aq7 a6 a1 _ _ _ _) fu (bc.obj b p _ aW eT).Dh ab
  rw[show l.toArray.size=n by omega]at I;rw[E];refine Calls.mono I ?_;rintro e a8 ⟨rfl,m,os,rfl⟩;refine C _ ?_;have bh:(pdq (ltOf c) l.toArray 0 n (Lib.bitLen n) true true)=(qK c l).toArray:=by unfold qK;grind
  rw[bh];unfold sortWorldK;generalize qK c l=d at *
  have hdl:d.length*k=l.length*k:=by rw[mP]
  have TV:(putRowK enc k (Sort.ahead w m) p.ca 0 d.toArray).heap[p.ca]? = some (.cells (putCells id 0 (flatK enc k d.toArray) V) dS (ap,ag)):=by simp[putRowK,putRow,mapBlock,Sort.ahead,Jl,bO,onCells]
  have kP:(putCells id 0 (flatK enc k d.toArray) V).size=V.size:=by simp[putCells]
  have hfd:=fN (enc:=enc) A d;have hm1:cx B aj (u h) w U U aj (fq.put (u h) b (.cells (a7 enc d) false)) (putRowK enc k (Sort.ahead w m) p.ca 0 d.toArray):=by
   refine cx.change U bc aW eT ey (by simp[putRowK,Sort.ahead]) (λx bd=>?_) rfl ⟨rfl,NW _ _⟩ rfl ⟨ey,E,_,dS,ap,ag,TV,J,λi v aI=>?_,J⟩
   ·simp[putRowK,putRow,mapBlock,Sort.ahead,Jl,kI bd]
   ·have dk:i<d.length*k:=ab
    have aU:=O9 A d dk;rw[aI]at aU;refine⟨v,?_,FA (JT (FK a6 d) (kk aI)) aj⟩;have hic:i<V.size:=J
    simp[putCells,Array.getElem?_mapIdx,hic,dk]
    grind
  rw[u1];exact hm1.trans (cx.still hm1.rel (by simp) rfl ⟨rfl,cC _⟩ rfl λk A=>heap_grow_old _ _ A)
theorem Zt{s:al}(L:SlLaysF0.n6 P EW)(Z:EW.f 6=f)(C:CU P f)(hk:K (.tuple #[]) h U):aE P s f [.slice none 0 0,.func (.func B6) #[] #[]] h U K:=by
 subst Z;refine lg.up ⟨C,λB aj w g V M A a0=>callsIn_wide.2 ?_⟩ hk;obtain⟨_,_,E,I,rfl⟩:∃x y,bF aj _ x/\bF aj _ y/\g=[x,y]:=by
  cases A with|cons E A=>cases A with|cons I A=>cases A;exact⟨_,_,E,I,rfl⟩
 cases E;refine(AnyF.slices_SortFunc_none L none 0 _ w).mono ?_;rintro e a8 ⟨rfl,rfl⟩;exact⟨_,h,U,aj,_,rfl,⟨rfl,rfl,rfl⟩,.tuple .nil,cx.refl U V⟩
end
structure GE where
 f:Nat
 t:Nat
 w:Int
theorem WX{az:Type}[DecidableEq az]:∀(a b:aa az),a.Nodup->(∀x∈a,x∈b)->a.length<=b.length
 | [],_,_,_=>ab
 |x::a,b,A,ar=>by
  have g:=JC.1 A;have:=WX a (b.erase x) g.2 ab
  grind
def cR(e:GE):aa X:=[(e.f:X),(e.t:X),(e.w:X)]
def g7(n:Nat)(g:GE):Prop:=g.f<n/\g.t<n/\0<=g.w/\g.w<=2147483647
def Em(k n:Int):Int:=if n<1\/k<0 then 0 else k.tmod n
theorem KE{k n:Int}:∃m:Nat,Em k n=(m:Int)/\(0<n->(m:Int)<n):=by
 unfold Em
 split
 ·exact⟨0,rfl,J⟩
 ·rename_i h
  have h1:0<=k:=J
  have ao:0<n:=J
  refine⟨(k.tmod n).toNat,?_,λ_=>?_⟩
  ·rw[Int.toNat_of_nonneg (Int.tmod_nonneg n h1)]
  ·rw[Int.toNat_of_nonneg (Int.tmod_nonneg n h1)];exact Int.tmod_lt_of_pos k ao
theorem KF{P:Program}{k:IntKind}{b:Int}(g:b≠0):bin P .rem t (.int k a) (.int k b) = .ok (.int k (a.tmod b)):=by rw[sM _ _ _ _ _ rfl];show(bif fk b 0 then _ else _)=_;rw[k4,show(b == 0)=false by grind];rfl
theorem abt{P:Program}{b:Int}:bin P .and t (a:X) (b:X) = .ok (.int .i64 (IntKind.wrap .i64 ((BitVec.ofInt 64 a &&& BitVec.ofInt 64 b).toNat))):=by rw[sM _ _ _ _ _ rfl];rfl
theorem aq8(a:Int):∃w:Int,IntKind.wrap .i64 ((BitVec.ofInt 64 a &&& BitVec.ofInt 64 2147483647).toNat:Int)=w/\0<=w/\w<=2147483647:=by
 have h1:(BitVec.ofInt 64 a &&& BitVec.ofInt 64 2147483647).toNat<=2147483647:=by rw[BitVec.toNat_and];exact Nat.and_le_right
 refine⟨_,rfl,?_⟩;rw[wV J J];omega
theorem eb.form{az:Type}{enc:az->aa X}{k:Nat}{l:aa az}(ar:eb h v enc k l ap ag):∃a n c,v = .slice a n c:=by
 rcases ar with⟨_,rfl⟩|⟨_,_,_,rfl,_⟩ <;> grind
theorem eb.F{az:Type}{enc:az->aa X}{k:Nat}{l:aa az}(ar:eb h v enc k l ap ag)(g:∀b,ap<=b->b<ag->u ac b=u h b)(C:ag<=dk):eb ac v enc k l ap dk:=by
 rcases ar with ar|⟨b,h1,ao,e,A⟩
 ·exact .inl ar
 ·exact .inr ⟨b,h1,J,e,ab⟩
set_option linter.defProp false
section
variable {P:Program}  {s:al}
theorem yQ{b:al}{p q:Prop}:br (.bool b) p q↔(b=true->p)/\(b=false->q):=by
 cases b <;> simp[br]
theorem afE{b:kV}{h:ae}{U:Nat}{k:X->ae->Nat->Prop}:dY (.ok b) h U k↔k (xe U b) (T h U (sW b)) (U+1):=Iff.rfl
theorem A7{v:X}{h:ae}{U:Nat}{k:X->ae->Nat->Prop}:dG (.val v h U) k↔k v h U:=Iff.rfl
theorem qP{f:FuncId}{l:aa X}{h:ae}{U:Nat}{k:X->ae->Nat->Prop}:eQ P s (.call f l h U) k↔aE P s f l h U k:=Iff.rfl
theorem afF{f:ae->R X}{v:X}{p:Prop}{ar:aa ae}:pi f v p 0 ar↔p:=Iff.rfl
theorem afG{f:ae->R X}{v:X}{p:Prop}{h:ae}{ar:aa ae}:pi f v p 1 (h::ar)↔nH v (f h)=true/\p:=Iff.rfl
theorem afH{f:ae->R X}{v:X}{p:Prop}{h h1:ae}{ar:aa ae}:pi f v p 2 (h::h1::ar)↔nH v (f h)=true/\nH v (f h1)=true/\p:=Iff.rfl
theorem afI{f:ae->R X}{v:X}{p:Prop}{h h1 ao:ae}{ar:aa ae}:pi f v p 3 (h::h1::ao::ar)↔nH v (f h)=true/\nH v (f h1)=true/\nH v (f ao)=true/\p:=Iff.rfl
def Dk{fe:Type}(o:aw fU)(k:aa X->al->R fe):R fe:=match o with
 |some (.cells cs bG)=>k cs bG
 |some _=>.no "cells expected"
 |none=>.no "no such block"
theorem JU{fe:Type}(h:ae)(b:Nat)(k:aa X->al->R fe):cellsOf h b k=Dk (u h b) k:=by
 unfold cellsOf Dk;cases u h b with
 |none=>rfl
 |some o=>cases o <;> rfl
theorem F4{fe:Type}(cs:aa X)(bG:al)(k:aa X->al->R fe):Dk (some (.cells cs bG)) k=k cs bG:=rfl
theorem Hc(g:aw Nat)(h:ae)(a:Addr):iz g h (.pointer (some a))=Dk (u h a.block) (λcs _=>hB g a.off cs):=JU _ _ _
theorem abu(off b o:Nat)(aB:aw Nat):AM off (.pointer (some ⟨b,o,aB⟩)) = .ok (.pointer (some ⟨b,o+off,none⟩)):=rfl
theorem R4(k:xd)(x:X)(t:IntKind)(n:Nat):iy k x (.int t (n:Int))=x9 k x n:=rfl
theorem axH(k:xd)(x:X)(t:IntKind):iy k x (.int t 0)=x9 k x 0:=rfl
theorem axI(k:xd)(x:X)(t:IntKind):iy k x (.int t 1)=x9 k x 1:=rfl
theorem abv(a b:X):G5 (.bool true) a b = .ok a:=rfl
theorem abw(a b:X):G5 (.bool false) a b = .ok b:=rfl
theorem auV(h:ae)(n:Nat)(l:aa X)(a:Addr):Ts h n l a=if l.length=n then ol h a.block a.off l else .no "store - size" := by
 unfold Ts;rw[oi]
 by_cases e:l.length=n
 ·rw[if_pos e,e,uP];rfl
 ·rw[if_neg e];cases g:Nat.beq l.length n with
  |true=>exact absurd (gr g) e
  |false=>rfl
theorem Kc{l:aa X}{n:Nat}(g:n+aF.length<=l.length):m7 aF l n=some (l.take n++aF++l.drop (n+aF.length)):=by rw[tB,if_pos g,kl]
theorem CH{l:aa X}(A:u h b=some (.cells cs false))(C:d4 l=true)(g:off+l.length<=cs.length):ol h b off l = .ok (T h b (.cells (cs.take off++l++cs.drop (off+l.length)) false)):=by unfold ol;rw[JU,A,F4,C,Kc g];rfl
theorem afJ(h:ae)(n:Nat)(a:Addr)(x:X):aS h n (.pointer (some a)) x=if(dn x).length=n then ol h a.block a.off (dn x)else .no "store - size" := auV _ _ _ _
theorem ahf(x:X)(l:aa X):bb (x::l) 0=x:=rfl
theorem ahg(x:X)(l:aa X)(i:Nat):bb (x::l) (i+1)=bb l i:=rfl
theorem auW(h:ae)(r:Nat):w2 h (.map (some r))=k8 h r (λes _=>i6 .i64 (.ofNat (jo es))):=rfl
theorem ady(k:IntKind)(a b:Int):min2 true (.int k a) (.int k b) = .ok (.int k (min a b)):=by
 show(bif mC k k then i6 k (bif lw b a then b else a)else _)=_;rw[wy,rC]
 by_cases h:b<a
 ·simp[h,i6,Int.min_def] <;> omega
 ·simp[h,i6,Int.min_def] <;> omega
theorem adz(k:IntKind)(a b:Int):min2 false (.int k a) (.int k b) = .ok (.int k (max a b)):=by
 show(bif mC k k then i6 k (bif lw a b then b else a)else _)=_;rw[wy,rC]
 by_cases h:a<b
 ·simp[h,i6,Int.max_def] <;> omega
 ·simp[h,i6,Int.max_def] <;> omega
theorem bE.mk{B:oS}{E:aa (Nat × aP)}{R:aP}(eF:Nat->aa X->ae->Nat->Prop)(m:Nat)(A:eF m aF h U)(ar:∀m aF h U,eF m aF h U->B aF h U (λaF h U=>∃g,g<m/\eF g aF h U) E R):bE B aF h U E R:=⟨eF,m,A,ar⟩
def tj:=And.intro @tK (And.intro @afD (And.intro @yQ (And.intro @afE (And.intro @A7 (And.intro @qP (And.intro @afF (And.intro @afG (And.intro @afH @afI))))))))
def fP:=And.intro @P2 (And.intro @abk (And.intro @KC (And.intro @abl (And.intro @abm (And.intro @abn (And.intro @abo (And.intro @abp (And.intro @adt (And.intro @Zq (And.intro @ady @adz))))))))))
def hl:=And.intro @F4 (And.intro @Hc (And.intro @abu (And.intro @R4 (And.intro @axH (And.intro @axI (And.intro @abv (And.intro @abw (And.intro @afJ (And.intro @X5 (And.intro @X6 (And.intro @Xj (And.intro @Xi (And.intro @Ww (And.intro @Gr (And.intro @fh (And.intro @Xk (And.intro @X7 (And.intro @Zo (And.intro @OF @Zp)))))))))))))))))))
def gm:=And.intro @ahf (And.intro @ahg (And.intro @abq (And.intro @abr (And.intro @Yb (And.intro @Yc (And.intro @adv (And.intro @Zs (And.intro @adw (And.intro @abs (And.intro @adx (And.intro @Yd (And.intro @Xo (And.intro @WV (And.intro @Ye (And.intro @Yf @ry)))))))))))))))
end
abbrev gc:=aw Nat × Nat
def svV(s:gc):X:=match s.1 with
 |none=>.slice none 0 0
 |some b=>.slice (some ⟨b,0,some 1⟩) s.2 s.2
def eO(s:gc):aa X:=[svV s]
def svs(l:aa gc):aa X:=l.map svV
theorem aq9(l:aa gc):(svs l).length=l.length:=by simp[svs]
section
variable {az:Type}
inductive fA (h:ae) (enc:az->List Value) (k:Nat):Value->List az->Option Nat->Prop where
 |nil:fA h enc k (.slice none 0 0) [] none
 |own {b:Nat} {l:List az} (aW:u h b=some (.cells (a7 enc l) false)):fA h enc k (.slice (some ⟨b,0,some k⟩) l.length l.length) l (some b)
 |part {b o:Nat} {l:List az} {cs:List Value} {bG:Bool} (aW:u h b=some (.cells cs bG)) (bo:o+l.length*k<=cs.length) (a1:(cs.drop o).take (l.length*k)=a7 enc l):fA h enc k (.slice (some ⟨b,o,none⟩) l.length l.length) l (some b)
theorem fA.F{enc:az->aa X}{k:Nat}{l:aa az}(g:fA h enc k v l o)(C:∀b,o=some b->u ac b=u h b):fA ac enc k v l o:=by
 cases g with
 |nil=>exact .nil
 |own E=>exact .own ab
 |part E A I=>exact .part (by rw[C _ rfl];omega) A I
theorem fA.lens{enc:az->aa X}{k:Nat}{l:aa az}(g:fA h enc k v l o):AX v = .ok (l.length:X):=by
 cases g <;> rfl
theorem abx(n:Nat):Nat.ble (n+1) n=false:=by
 cases g:Nat.ble (n+1) n with
 |false=>rfl
 |true=>have:=lX g;omega
theorem fA.app{enc:az->aa X}{k:Nat}(hk:∀x,(enc x).length=k)(I:∀x,d4 (enc x)=true)(A:0<k){l:aa az}(g:fA h enc k v l o){L:aa X}{xt:al}{x:az}(ao:u h b3=some (.cells L xt))(V:(L.drop db).take k=enc x)(kP:(l.length+1)*k<=1000000):
  ∃ac,dM k h U v (.slice (some ⟨b3,db,li⟩) 1 pf) = .ok (.val (.slice (some ⟨U,0,some k⟩) (l.length+1) (l.length+1)) ac (U+1))/\u ac U=some (.cells (a7 enc (l++[x])) false) /\
   (∀c,c≠U->o≠some c->u ac c=u h c):=by
 have E:k<=L.length-db:=ab
 have h1:l.length+1<=1000000:=iv (by have:=Cx (l.length+1) A;omega) kP;have M:(Nat.ble (Nat.mul (Nat.add l.length 1) k) 1000000&&Nat.ble (Nat.add l.length 1) 1000000)=true:=by
  simp only[eo,pK]
  grind
 cases g with
 |nil =>
  refine⟨T h U (.cells (enc x) false),?_,by simp[a7],ab⟩;unfold dM;simp only;rw[x5,uR,rD ao A E,V];unfold gZ;rw[show Nat.ble (Nat.add 0 1) 0=false from rfl];have M:(Nat.ble (Nat.mul (Nat.add 0 1) k) 1000000&&Nat.ble (Nat.add 0 1) 1000000)=true:=M;rw[M];exact pN A
 | @own b _ Z =>
  refine⟨T (wZ h b) U (.cells (a7 enc l++enc x) false),?_,by simp[o4],λc a1 eh=>by rw[jP,if_neg a1,mG,if_neg (λe=>eh (by rw[e]))]⟩
  unfold dM;simp only;rw[x5,uR,rD ao A E,V];unfold gZ;rw[show Nat.ble (Nat.add l.length 1) l.length=false from abx _,M];show pU h U k (some ⟨b,0,some k⟩) l.length l.length (l.length+1) (enc x)=_;unfold pU;simp only[uT Z];have C:m8 (Nat.mul l.length k) (mY (a7 enc l) 0)=some (a7 enc l):=by rw[rA,oe,qG,if_pos (by rw[fN hk];grind)];rw[o2 (by rw[fN hk];grind)]
  rw[C];have cc:(!false&&Nat.beq 0 0&&Nat.beq (jo (a7 enc l)) (Nat.mul l.length k)&&Nat.beq k k&&Nat.beq l.length l.length&&d4 (enc x))=true:=by rw[oi,fN hk,I];simp
  show(bif _ then _ else _)=_;rw[cc,jK];exact pN A
 | @part b o _ cs bG Z bo a1 =>
  refine⟨T h U (.cells (a7 enc l++enc x) false),?_,by simp[o4],ab⟩;unfold dM;simp only;rw[x5,uR,rD ao A E,V];unfold gZ;rw[show Nat.ble (Nat.add l.length 1) l.length=false from abx _,M];unfold pU;simp only[uT Z];have C:m8 (Nat.mul l.length k) (mY cs o)=some (a7 enc l):=by
   rw[rA,qG,if_pos ab]
   grind
  rw[C];show pT h U k (ks (a7 enc l) (enc x)) _=_;rw[jK];exact pN A
end
theorem dH{az:Type}{l:aa az}(h:i<l.length):∃x,l[i]? = some x:=⟨_,lo h⟩
section
variable {fe:Type}
end
section
variable {P:Program}  {s:al}
theorem cD(h:i<1000000000000):IntKind.wrap .i64 ((i:Int)+1)=((i+1:Nat):Int):=by rw[wV J J];simp
theorem aR(h:ae)(b:Nat)(o:fU):u (T h b o) b=some o:=by rw[jP,if_pos rfl]
theorem aq{h:ae}{b c:Nat}{o:fU}(e:c≠b):u (T h b o) c=u h c:=by rw[jP,if_neg e]
theorem akV(l:aa X):Gh l=if d4 l=true then .ok (.ptr (.cells l false))else .no "cells" := by
 unfold Gh
 grind
theorem ai4(x:X)(l:aa X):d4 (x::l)=(gN x&&d4 l):=by rw[ry]
theorem Yg(l:aa X)(a b:Nat):wD l a b=if d4 l=true then .ok (.slice (.cells l false) a b)else .no "cells" := by
 unfold wD
 grind
theorem SS{t:IntKind}{n i b o cap z:Nat}{aB:aw Nat}(ag:i<n):iy (.slice z) (.slice (some ⟨b,o,aB⟩) n cap) (.int t (i:Int)) = .ok (.pointer (some ⟨b,o+i*z,none⟩)):=by rw[R4,X5,if_pos ag]
theorem SU{t:IntKind}{n i b o z:Nat}{aB:aw Nat}(ag:i<n):iy (.array n z) (.pointer (some ⟨b,o,aB⟩)) (.int t (i:Int)) = .ok (.pointer (some ⟨b,o+i*z,none⟩)):=by rw[R4,X6,if_pos ag]
theorem axJ{t:IntKind}{n b o cap z:Nat}{aB:aw Nat}(ag:0<n):iy (.slice z) (.slice (some ⟨b,o,aB⟩) n cap) (.int t 0) = .ok (.pointer (some ⟨b,o,none⟩)):=by
 have:=SS (t:=t) (b:=b) (o:=o) (cap:=cap) (aB:=aB) (z:=z)  ag
 grind
theorem axK{t:IntKind}{n b o z:Nat}{aB:aw Nat}(ag:0<n):iy (.array n z) (.pointer (some ⟨b,o,aB⟩)) (.int t 0) = .ok (.pointer (some ⟨b,o,none⟩)):=by
 have:=SU (t:=t) (b:=b) (o:=o) (aB:=aB) (z:=z)  ag
 grind
theorem axL{t:IntKind}{n b o cap z:Nat}{aB:aw Nat}(ag:1<n):iy (.slice z) (.slice (some ⟨b,o,aB⟩) n cap) (.int t 1) = .ok (.pointer (some ⟨b,o+z,none⟩)):=by
 have:=SS (t:=t) (b:=b) (o:=o) (cap:=cap) (aB:=aB) (z:=z)  ag
 grind
theorem axM{t:IntKind}{n b o z:Nat}{aB:aw Nat}(ag:1<n):iy (.array n z) (.pointer (some ⟨b,o,aB⟩)) (.int t 1) = .ok (.pointer (some ⟨b,o+z,none⟩)):=by
 have:=SU (t:=t) (b:=b) (o:=o) (aB:=aB) (z:=z)  ag
 grind
def jQ(o:aw fU)(h:ae)(b off:Nat)(l:aa X):R ae:=match o with
 |some (.cells cs false)=>bif d4 l then R.of "write - out of block" (m7 l cs off) (λcs=>.ok (T h b (.cells cs false)))else .no "write - cells"
 |_=>.no "write"
theorem axN{h:ae}{n:Nat}{a:Addr}{x:X}{k:ae->Prop}:af (aS h n (.pointer (some a)) x) k↔(dn x).length=n/\af (jQ (u h a.block) h a.block a.off (dn x)) k:=by
 rw[afJ]
 by_cases g:(dn x).length=n
 case neg=>rw[if_neg g];exact⟨λh=>h.elim,λh=>g h.1⟩
 rw[if_pos g];refine Iff.trans ?_ (and_iff_right g).symm;unfold ol jQ;rw[JU];cases u h a.block with
 |none=>exact Iff.rfl
 |some o =>
  cases o with
  |cells cs bG =>
   rw[F4];cases bG with
   |true=>exact Iff.rfl
   |false=>grind
  |_=>exact Iff.rfl
theorem axO{h:ae}{b off:Nat}{cs:aa X}{v:X}{k:ae->Prop}:af (jQ (some (.cells cs false)) h b off [v]) k↔gN v=true/\off<cs.length/\k (T h b (.cells (cs.set off v) false)):=by
 show af (bif d4 [v]then R.of _ (m7 [v] cs off) _ else _) k↔_;rw[ry,tB];cases A:gN v with
 |false=>exact⟨λh=>h.elim,λh=>by cases h.1⟩
 |true =>
  by_cases g:off<cs.length
  ·rw[if_pos ab,Wq,if_pos g];exact⟨λh=>⟨rfl,g,h⟩,λh=>h.2.2⟩
  ·rw[if_neg ab];exact⟨λh=>h.elim,λh=>g h.2.1⟩
theorem AD{l:aa X}{k:ae->Prop}:af (jQ (some (.cells cs false)) h b off l) k↔d4 l=true/\off+l.length<=cs.length/\k (T h b (.cells (cs.take off++l++cs.drop (off+l.length)) false)):=by
 show af (bif d4 l then R.of _ (m7 l cs off) _ else _) k↔_;rw[tB];cases A:d4 l with
 |false=>exact⟨λh=>h.elim,λh=>by cases h.1⟩
 |true =>
  by_cases g:off+l.length<=cs.length
  ·rw[if_pos g,<-kl];exact⟨λh=>⟨rfl,g,h⟩,λh=>h.2.2⟩
  ·rw[if_neg g];exact⟨λh=>h.elim,λh=>g h.2.1⟩
theorem axP{h:ae}{b:Nat}{cs l:aa X}{x y:X}{k:ae->Prop}:af (jQ (some (.cells cs false)) h b 0 (x::y::l)) k↔d4 (x::y::l)=true/\(x::y::l).length<=cs.length/\k (T h b (.cells (x::y::l++cs.drop (x::y::l).length) false)):=by rw[AD];simp
theorem Lk{l:aa X}(A:d4 l=true)(g:off+l.length<=cs.length):jQ (some (.cells cs false)) h b off l = .ok (T h b (.cells (cs.take off++l++cs.drop (off+l.length)) false)):=by show(bif d4 l then R.of _ (m7 l cs off) _ else _)=_;rw[Kc g,A];rfl
theorem auX(t:TypeId)(v:X):dn (.iface t v)=[.iface t v]:=rfl
theorem auY(r:aw Nat):dn (.map r)=[.map r]:=rfl
theorem axQ(f:Fn)(a b:Array X):dn (.func f a b)=[.func f a b]:=rfl
theorem axR:dn .nilFunc=[.nilFunc]:=rfl
theorem akW(r:aw Nat):gN (.map r)=true:=rfl
theorem ajD(f:Fn)(a b:Array X):gN (.func f a b)=true:=rfl
theorem anl:gN .nilFunc=true:=rfl
theorem ara(U:Nat):xe U .map = .map (some U):=rfl
theorem arb:sW .map = .map [] 0:=rfl
theorem akX(c:aa X):pS [] c = .ok c:=rfl
theorem arc(off z:Nat)(x:X)(g:aa (Nat × Nat × X))(c:aa X):pS ((off,z,x)::g) c=rI (pS g) off z (dn x) c:=rfl
theorem Pa{A:aa X->R (aa X)}{off:Nat}{v:X}{c:aa X}:rI A off 1 [v] c=if off<c.length then A (c.set off v)else .no "fill" := by
 show(bif Nat.beq (jo [v]) 1 then R.of "fill" (m7 [v] c off) A else _)=_;rw[oi,tB]
 by_cases g:off<c.length
 ·rw[if_pos g,if_pos ab,Wq,if_pos g];rfl
 ·rw[if_neg g,if_neg ab];rfl
theorem Kd{g:aa X->R (aa X)}{n:Nat}{l:aa X}(A:l.length=n)(C:off+n<=c.length):rI g off n l c=g (c.take off++l++c.drop (off+n)):=by show(bif Nat.beq (jo l) n then R.of "fill" (m7 l c off) g else _)=_;rw[oi,A,uP,Kc J,A];rfl
theorem auZ(z:aa X)(cf:aa (Nat × Nat × X)):cV z cf=R.bind (pS cf z) (λl=>.ok (.agg ⟨l⟩)):=rfl
theorem au0(n:Nat)(z:aa X)(cf:aa (Nat × Nat × X)):fc n z cf=R.bind (pS cf z) (λl=>wD l n n):=rfl
theorem ajE{n off:Nat}{x:X}{cs:aa X}:hB (some n) off (x::cs)=if n<=(x::cs).length-off then .ok (.agg ⟨((x::cs).drop off).take n⟩)else .no "load - out of block" := o3 n off (x::cs)
theorem wG{c2:Nat}{l:aa Int}{x:Int}{k:X->ae->Nat->Prop}(g:fA h c4 1 v l o)(ao:u h b3=some (.cells [(x:X)] bG))(C:l.length<1000000)(E:∀ac,u ac U=some (.cells (fd (l++[x])) false)->(∀c,c≠U->o≠some c->u ac c=u h c)->k (.slice (some ⟨U,0,some 1⟩) (l.length+1) (l.length+1)) ac (U+1)):
  dG (dO (dM 1 h U v (.slice (some ⟨b3,0,li⟩) 1 c2))) k:=by obtain⟨ac,e,A,I⟩:=g.app (k:=1) (λ_=>rfl) (λ_=>rfl) Nat.zero_lt_one  (db:=0)   ao  rfl J;rw[iF]at A;rw[e];exact E ac A I
theorem ard(n:Nat)(z:aa X):gO n z=(List.replicate n z).flatten:=by
 induction n with
 |zero=>rfl
 |succ n g=>show ks z (gO n z)=_;rw[jK,g,Fl,List.flatten_cons]
theorem anm(n:Nat)(v:X):gO n [v]=List.replicate n v:=by
 induction n with
 |zero=>rfl
 |succ n g=>show ks [v] (gO n [v])=_;rw[jK,g];rfl
theorem akY{n:Nat}(h:gN v=true):d4 (List.replicate n v)=true:=by
 induction n with
 |zero=>rfl
 |succ n g=>rw[Fl,ry,h,g];rfl
theorem R5{n:Nat}{t:IntKind}(g:n<=100000)(A:gN v=true):sP [v] (.int t (n:Int)) (.int mQ (n:Int)) = .ok (.slice (.cells (List.replicate n v) false) n n):=by show(bif Nat.ble n n&&Nat.ble n 100000 then wD (gO n [v]) n n else _)=_;rw[show(Nat.ble n n&&Nat.ble n 100000)=true by simp[g],anm];show wD _ _ _=_;rw[Yg,if_pos (akY A)]
theorem axS{n:Nat}{t mQ:IntKind}{x:Int}{g:IntKind}(A:n<=100000):sP [.int g x] (.int t (n:Int)) (.int mQ (n:Int)) = .ok (.slice (.cells (List.replicate n (.int g x)) false) n n):=R5 A rfl
theorem axT{n:Nat}{t mQ:IntKind}{c d:Nat}(g:n<=100000):sP [.slice none c d] (.int t (n:Int)) (.int mQ (n:Int)) = .ok (.slice (.cells (List.replicate n (.slice none c d)) false) n n):=R5 g rfl
theorem axU{n:Nat}{t mQ:IntKind}{b:al}(g:n<=100000):sP [.bool b] (.int t (n:Int)) (.int mQ (n:Int)) = .ok (.slice (.cells (List.replicate n (.bool b)) false) n n):=R5 g rfl
theorem are(k:IntKind)(n:Int):nH (.int k n) (.ok (.int k n))=true:=sC k n
theorem arf(b:al):nH (.bool b) (.ok (.bool b))=true:=ya b
theorem arh(a:Addr)(n c:Nat):nH (.slice (some a) n c) (.ok (.slice (some a) n c))=true:=tw a n c
theorem ari(n c:Nat):nH (.slice none n c) (.ok (.slice none n c))=true:=by simp[nH,ov,qM]
theorem arj(a:aw Addr)(n c:Nat):nH (.slice a n c) (.ok (.slice a n c))=true:=tw a n c
theorem ark(a:Addr):nH (.pointer (some a)) (.ok (.pointer (some a)))=true:=WW a
theorem ann{g:aa X->R (aa X)}{off:Nat}{x y:X}{c:aa X}:rI g off 2 [x,y] c=if off+2<=c.length then g (c.take off++x::y::c.drop (off+2))else .no "fill" := by
 by_cases h:off+2<=c.length
 ·rw[if_pos h,Kd (n:=2)  rfl h];simp
 ·rw[if_neg h];show(bif Nat.beq (jo [x,y]) 2 then R.of "fill" (m7 [x,y] c off) g else _)=_;rw[tB,if_neg J];rfl
theorem ano{g:aa X->R (aa X)}{off:Nat}{x y z:X}{c:aa X}:rI g off 3 [x,y,z] c=if off+3<=c.length then g (c.take off++x::y::z::c.drop (off+3))else .no "fill" := by
 by_cases h:off+3<=c.length
 ·rw[if_pos h,Kd (n:=3)  rfl h];simp
 ·rw[if_neg h];show(bif Nat.beq (jo [x,y,z]) 3 then R.of "fill" (m7 [x,y,z] c off) g else _)=_;rw[tB,if_neg J];rfl
theorem anp{g:aa X->R (aa X)}{off:Nat}{x y z w:X}{c:aa X}:rI g off 4 [x,y,z,w] c=if off+4<=c.length then g (c.take off++x::y::z::w::c.drop (off+4))else .no "fill" := by
 by_cases h:off+4<=c.length
 ·rw[if_pos h,Kd (n:=4)  rfl h];simp
 ·rw[if_neg h];show(bif Nat.beq (jo [x,y,z,w]) 4 then R.of "fill" (m7 [x,y,z,w] c off) g else _)=_;rw[tB,if_neg J];rfl
theorem aby{h:ae}{U:Nat}{f:FuncId}{aF a b:aa X}:hU h U aF (.func (.func f) ⟨a⟩ ⟨b⟩) = .call f (a++(aF++b)) h U:=by show fr.call f (ks a (ks aF b)) h U=_;rw[jK,jK]
theorem axV{P:Program}{s:al}{f:FuncId}{aF:aa X}{h:ae}{U:Nat}{k:X->ae->Nat->Prop}:eQ P s (hU h U aF (.func (.func f) #[] #[])) k↔aE P s f aF h U k:=by rw[aby,sy,hz];exact Iff.rfl
theorem arl(l:aa X):nH (.agg ⟨l⟩) (.ok (.agg ⟨l⟩))=qN l l:=rfl
theorem arm(k:IntKind)(n:Int):qM (.int k n) (.int k n)=true:=sC k n
theorem arn(a:aw Addr)(n c:Nat):qM (.slice a n c) (.slice a n c)=true:=tw a n c
theorem aro(b:al):qM (.bool b) (.bool b)=true:=ya b
def VG:=And.intro @tK (And.intro @afD (And.intro @yQ (And.intro @afE (And.intro @A7 (And.intro @Bool.true_and (And.intro @Bool.not_false (And.intro @Bool.not_true (And.intro @Bool.false_eq_true (And.intro @Bool.true_eq_false (And.intro @false_implies (And.intro @true_implies (And.intro @aq9 (And.intro @ints_set (And.intro @qP (And.intro @afF (And.intro @afG (And.intro @afH (And.intro @afI (And.intro @P2 (And.intro @abk (And.intro @KC (And.intro @abl (And.intro @abm (And.intro @abn (And.intro @abo (And.intro @abp (And.intro @adt (And.intro @Zq (And.intro @ady (And.intro @adz (And.intro @ahf (And.intro @ahg (And.intro @abq (And.intro @abr (And.intro @Yb (And.intro @Yc (And.intro @adv (And.intro @Zs (And.intro @adw (And.intro @abs (And.intro @adx (And.intro @Yd (And.intro @Xo (And.intro @WV (And.intro @Ye (And.intro @Yf (And.intro @ai4 (And.intro @aR (And.intro @aq (And.intro @akV (And.intro @Yg (And.intro @SS (And.intro @SU (And.intro @axJ (And.intro @axK (And.intro @axL (And.intro @axM (And.intro @axN (And.intro @axO (And.intro @axP (And.intro @auX (And.intro @auY (And.intro @axR (And.intro @axQ (And.intro @akW (And.intro @ajD (And.intro @anl (And.intro @ara (And.intro @arb (And.intro @akX (And.intro @arc (And.intro @Pa (And.intro @auZ (And.intro @au0 (And.intro @ajE (And.intro @axS (And.intro @axT (And.intro @axU (And.intro @are (And.intro @arf (And.intro @arh (And.intro @ari (And.intro @F4 (And.intro @Hc (And.intro @abu (And.intro @abv (And.intro @abw (And.intro @Xj (And.intro @Xi (And.intro @Ww (And.intro @Gr (And.intro @fh (And.intro @Xk (And.intro @X7 (And.intro @Zo (And.intro @OF (And.intro @Zp (And.intro (@List.getElem?_cons_zero X) (And.intro (@List.getElem?_cons_succ X) (And.intro (@List.drop_zero X) (And.intro (@List.drop_succ_cons X) (And.intro (@List.take_zero X) (And.intro (@List.take_succ_cons X) (And.intro (@List.set_cons_zero X) (And.intro (@List.set_cons_succ X) (And.intro @Nat.zero_add (And.intro @Nat.add_zero (And.intro @Nat.mul_one (And.intro (@List.length_cons X) (And.intro (@List.length_nil X) (And.intro (@List.append_nil X) (And.intro (@List.nil_append X) (And.intro (@List.cons_append X) (And.intro (@List.drop_nil X) (And.intro @Bool.and_self (And.intro @Bool.and_true (And.intro @u2 (And.intro @true_and (And.intro @and_true (And.intro @decide_eq_true_eq (And.intro @decide_eq_false_iff_not (And.intro @Bool.not_eq_true' (And.intro @Bool.not_eq_false' (And.intro @Int.ofNat_lt (And.intro @arj (And.intro @ark (And.intro @ann (And.intro @ano (And.intro @anp (And.intro @aby (And.intro @axV (And.intro @Nat.le_refl (And.intro @arl (And.intro @ajC (And.intro @akU (And.intro @sC (And.intro @ya (And.intro @tw (And.intro @arm (And.intro @arn (And.intro @aro (@Decidable.not_not))))))))))))))))))))))))))))))))))))))))))))))))))))))))))))))))))))))))))))))))))))))))))))))))))))))))))))))))))))))))))))))))))))))))))))))
end
theorem afK{n:Nat}{a:Addr}(E:0<n)(C:n<=cap)(A:xf (some a)=false):
  gi z (.slice (some a) n cap) (some (.int .i64 1)) (some (n:X)) (some (n:X)) = .ok (.slice (some ⟨a.block,if n=1 then a.off else a.off+z,none⟩) (n-1) (n-1)):=by
 show k6 z (some a) cap true n n 1=_;unfold k6;rw[show(Nat.ble n cap&&(Nat.ble n n&&Nat.ble 1 n))=true by simp[C];omega];unfold o6
 by_cases h:n=1
 ·subst h;rw[if_pos rfl];show(bif An (some a)&&!true then _ else bif xf (some a)then _ else _)=_;rw[A];simp[Gj]
 ·rw[if_neg h];rw[show Nat.beq n 1=false by
   cases g:Nat.beq n 1 with
   |true=>exact absurd (gr g) h
   |false=>rfl]
  simp[Gj]
theorem fA.head{x:Int}{l:aa Int}(g:fA h c4 1 v (x::l) o):∃b off aB cs bG C,v = .slice (some ⟨b,off,aB⟩) (l.length+1) (l.length+1)/\o=some b/\u h b=some (.cells cs bG)/\cs[off]? = some (x:X) /\
  gi 1 v (some (.int .i64 1)) (some (((l.length+1:Nat):X))) (some (((l.length+1:Nat):X))) = .ok C/\fA h c4 1 C l (some b):=by
 have E:∀(b off:Nat) (aB:aw Nat) (cs:aa X) (bG:al),xf (some ⟨b,off,aB⟩)=false->u h b=some (.cells cs bG)->off+(l.length+1)<=cs.length->(cs.drop off).take (l.length+1)=fd (x::l) ->
   cs[off]? = some (x:X)/\∃C,gi 1 (.slice (some ⟨b,off,aB⟩) (l.length+1) (l.length+1)) (some (.int .i64 1)) (some (((l.length+1:Nat):X))) (some (((l.length+1:Nat):X))) = .ok C/\fA h c4 1 C l (some b):=λb off aB cs bG Z A V I=>by
  refine⟨?_,_,afK J J Z,?_⟩
  ·have:((cs.drop off).take (l.length+1))[0]? = some (x:X):=by rw[I];rfl
   grind
  ·show fA h c4 1 (.slice (some ⟨b,if l.length+1=1 then off else off+1,none⟩) (l.length+1-1) (l.length+1-1)) l (some b);rw[show l.length+1-1=l.length by omega]
   by_cases M:l.length+1=1
   ·rw[if_pos M];have:l=[]:=ab
    subst this;exact fA.part   A J (by simp[a7])
   ·rw[if_neg M];refine fA.part   A (by omega) ?_;rw[iF,z9,<-x3];have:=congrArg (List.drop 1) I;rw[Ft]at this;simpa[fd]using this
 cases g with
 | @own b _ A =>
  rw[iF]at A;obtain⟨h1,C,ao,L⟩:=E b 0 (some 1) _ _ rfl A (by simp[u2]) (by rw[oe,o2 (by simp[u2])]);exact⟨b,0,some 1,_,_,C,rfl,rfl,A,h1,ao,L⟩
 | @part b o _ cs bG A V I =>
  rw[iF]at I;obtain⟨h1,C,ao,L⟩:=E b o none _ _ rfl A ab ab;exact⟨b,o,none,_,_,C,rfl,rfl,A,h1,ao,L⟩
theorem aE.BA{P:Program}(C:qe P){s:al}{g:Prop}(A:aa (aa Nat))(w:g)(e:oT P s A f args h U K=g):aE P s f args h U K:=aE.pr C A (by rw[e];exact w)
def ad(n:Int):X:=(n:X)
def ay:X:=.slice none 0 0
def bn(n:Nat)(x:X)(k:X->Prop):Prop:=af (AM n x) k
def bS(h:ae)(x:X)(k:X->Prop):Prop:=af (iz none h x) k
def aN(n:Nat)(h:ae)(x:X)(k:X->Prop):Prop:=af (iz (some n) h x) k
def hx(n:Nat)(x i:X)(k:X->Prop):Prop:=af (iy (.slice n) x i) k
def cP(x:X)(k:X->Prop):Prop:=af (AX x) k
def c7(y v:X)(p:Prop)(n:Nat)(l:aa ae):Prop:=pi (λh=>iz none h y) v p n l
def jt(z:Nat)(y v:X)(p:Prop)(n:Nat)(l:aa ae):Prop:=pi (λh=>iz (some z) h y) v p n l
def bX(l:aa X)(h:ae)(U:Nat)(k:X->ae->Nat->Prop):Prop:=dY (.ok (.ptr (.cells l false))) h U k
def bH(t:X)(h:ae)(U:Nat)(k:X->ae->Nat->Prop):Prop:=dY (Gh (dn t)) h U k
section
variable {n:Nat} {es:aa GE} {s:Nat} {l p:aa Int} {q D:aa Nat} {aO k:Nat} {av:aa Nat}
end
def anq(es dj:aa GE):Prop:=(∀e∈es,∃dS∈dj,dS.f=e.f/\dS.t=e.t)/\∀e∈dj,∃dS∈es,dS.f=e.f/\dS.t=e.t
section
variable {H:Type} {enc:TypeId × X->H} {P:Program} {w:World} {aB:Nat->al} {A6:al} {az:Type}
def K0(w:World)(b off:Nat)(l:aa X):Prop:=∃c e eu,w.heap[b]? = some (.cells c e eu)/\∀i x,l[i]? = some x->c[off+i]? = some x
theorem ai5{w:World}{x:TypeId × Nat}(h:w.shape? b=some x):∃c e g,w.heap[b]? = some (.cells c e g):=by
 unfold World.shape? at h
 grind
theorem arp{cc:az->aa X}{k:Nat}{e:TypeId}{r:Reach}{base EV:Nat}{x:DataW H × aa MemPlace}(Z:P.underlying t=some (.slice e))(a1:P.cellsOf e=k)(R:az->Prop)(M:∀(n:Nat) (c:aa X) y,DataW.trod enc P w base aB A6 n e c=some y->∃z:az,c=cc z/\R z)(h:DataW.trod enc P w base aB A6 DX t [v]=some x)(g:Cell.okWide P w r EV t v):
  ∃I:aa az,(∀z∈I,R z)/\((I=[]/\v = .slice none 0 0)\/∃b off cap,v = .slice (some ⟨b,off,none⟩) I.length cap/\K0 w b off (a7 cc I)):=by
 rcases akT Z a1 R M h with A|⟨a,I,cap,A,bo,hm,ef,E⟩
 ·injection A with A _
  exact⟨[],by simp,ab⟩
 ·injection A with A _
  subst A;refine⟨I,ef,.inr ?_⟩;unfold Cell.okWide at g;rw[Z]at g;simp only at g;unfold Cell.ok at g;rw[Z]at g;obtain⟨_,_,L⟩:=g;obtain⟨_,C,row,cells,V,_⟩:=L;obtain⟨b,off,spot⟩:=a;simp only at C V;subst C;obtain⟨c,dS,eu,bO⟩:=ai5 V;refine⟨b,off,cap,rfl,c,dS,eu,bO,λi y ck=>?_⟩;have h1:=E i y ck;have aU:(Addr.add ⟨b,off,none⟩ i)=⟨b,off+i,none⟩:=by
   unfold Addr.add
   grind
  rw[aU]at h1;unfold World.cell? at h1
  grind
theorem Yh{k:IntKind}{c:X}{x:DataW H × aa MemPlace}(g:P.underlying t=some (.int k))(h:DataW.trod enc P w 0 aB A6 DX t [c]=some x):∃n:Int,c = .int k n:=by
 obtain⟨n,h1,_⟩:=DataW.trod_int g h
 grind
end
def DY(v:X)(l:aa X):aa (Place × aa X):=match v with
 | .slice (some a) _ _=>[(⟨a.block,a.off,0,0⟩,l)]
 |_=>[]
def inV(v:X):X:=match v with
 | .slice (some _) n c=>.slice (some ⟨0,0,none⟩) n c
 |v=>v
theorem au1{az:Type}{g:az->aa X}{w:World}{A:aa az}(L:∀z,iG (g z)=true)(h:(A=[]/\v = .slice none 0 0)\/∃b off cap,v = .slice (some ⟨b,off,none⟩) A.length cap/\K0 w b off (a7 g A)):
  InW w (DY v (a7 g A))/\bF (yP (DY v (a7 g A))) (inV v) v/\cL (ze 0 (DY v (a7 g A)) hs) (DY v (a7 g A)).length (inV v) g A:=by
 have plain:∀l:aa az,∀x∈a7 g l,qJ x=true:=by
  intro l
  induction l with
  |nil=>intro x C;cases C
  |cons z l I =>
   intro x C;have C:x∈g z++a7 g l:=C;rcases he.1 C with C|C
   ·have:∀(l:aa X),iG l=true->∀x∈l,qJ x=true:=by
     intro l
     induction l with
     |nil=>grind
     |cons y l I =>
      intro h x C;have h:(qJ y&&iG l)=true:=h
      grind
    grind
   grind
 rcases h with⟨rfl,rfl⟩|⟨b,off,cap,rfl,c,e,M,V,Z⟩
 ·exact⟨λp E=>(by cases E),bF.rB 0 0,⟨none,0,rfl,λh=>absurd rfl h⟩⟩
 ·refine⟨λp E=>?_,.k5 (p:=⟨b,off,0,0⟩) rfl _ _,⟨_,_,rfl,λ_=>⟨0,none,true,by simp[DY],rfl,auT (p:=(⟨b,off,0,0⟩,a7 g A)) rfl⟩⟩⟩;have E:p=(⟨b,off,0,0⟩,a7 g A):=by simpa[DY]using E
  subst E;exact⟨c,e,M,V,λi x C=>⟨x,ab,FA ab _⟩⟩
theorem au2{P:Program}(E:aE P false f args h U (λv _ _=>v = .bool true)){w:World}{g:aa X}(L:ed w.heap.size aj (u h) w)(M:kg aj U)(C:dt aj args g)(n:Nat):
  CallsIn Fence.wide n P f ⟨g⟩ w (λe a8=>e = .returned (.bool true)/\RowKit.Below w.heap.size w a8):=
 (E.2 w.heap.size aj w g L M C n).mono λe a8 I=>by obtain⟨Z,ac,Y,bu,c,rfl,rfl,A,V⟩:=I;cases A;exact⟨rfl,ani rfl V⟩
def mk:Nat->(Nat->al)->Nat
 |0,_=>0
 |n+1,p=>(if p 0 then 1 else 0)+2*mk n (λi=>p (i+1))
def en(n:Nat)(p:Nat->al):aa Nat:=(List.range n).filter p
theorem sL:∀(n:Nat) (p:Nat->al) (i:Nat),(mk n p).testBit i=(decide (i<n)&&p i)
 |0,p,i=>by simp[mk]
 |n+1,p,0=>by
  rw[mk,Nat.testBit_zero]
  grind
 |n+1,p,i+1=>by
  rw[mk,Jz];have:((if p 0 then 1 else 0)+2*mk n (λi=>p (i+1))) / 2=mk n (λi=>p (i+1)):=ab
  rw[this,sL n];simp
theorem afL:∀(n:Nat) (p:Nat->al),mk n p<2 ^ n
 |0,p=>by simp[mk]
 |n+1,p=>by
  have:=afL n (λi=>p (i+1));rw[mk,Nat.pow_succ]
  grind
theorem Dl{n:Nat}{p q:Nat->al}(h:∀i,i<n->p i=q i):mk n p=mk n q:=by
 apply zW;intro i;rw[sL,sL]
 grind
theorem au3(n:Nat)(p q:Nat->al):mk n p &&& mk n q=mk n (λi=>p i&&q i):=by
 apply zW;intro i;rw[JD,sL,sL,sL]
 grind
theorem axW(n:Nat)(p q:Nat->al):mk n p ||| mk n q=mk n (λi=>p i||q i):=by
 apply zW;intro i;rw[Fu,sL,sL,sL]
 grind
theorem adA{n k:Nat}(h:k<n):2 ^ k=mk n (λi=>decide (i=k)):=by
 apply zW;intro i;rw[sL,Nat.testBit_two_pow]
 grind
theorem P5(n:Nat):mk n (λ_=>false)=0:=by apply zW;intro i;rw[sL];simp
theorem adB(n:Nat)(p:Nat->al):mk (n+1) p / 2=mk n (λi=>p (i+1)):=by rw[mk];grind
theorem adC(n:Nat)(p:Nat->al):mk (n+1) p % 2=if p 0 then 1 else 0:=by rw[mk];grind
theorem Gu{n:Nat}{p:Nat->al}:mk n p=0↔∀i,i<n->p i=false:=by
 constructor
 ·intro h i ag;have:=sL n p i
  grind
 ·intro h;rw[<-P5 n];exact Dl h
theorem KG(n:Nat)(p:Nat->al):en (n+1) p=(if p 0 then[0]else[])++(en n (λi=>p (i+1))).map (·+1):=by
 unfold en;rw[List.range_succ_eq_map,mW];have:(List.map Nat.succ (List.range n)).filter p=((List.range n).filter (λi=>p (i+1))).map (·+1):=by rw[List.filter_map];rfl
 grind
theorem au4{n:Nat}{p:Nat->al}(h:∀i,i<n->p i=false):en n p=[]:=by
 unfold en;rw[zU]
 grind
theorem Zu:∀(n:Nat) (p:Nat->al),mk n p≠0->∃q:Nat->al,mk n p &&& (mk n p-1)=mk n q/\(en n p).length=(en n q).length+1
 |0,p,h=>absurd rfl h
 |n+1,p,h=>by
  cases g:p 0 with
  |true =>
   refine⟨λi=>if i=0 then false else p i,?_,?_⟩
   ·have e:mk (n+1) p=2*mk n (λi=>p (i+1))+1:=by rw[mk,g];grind
    have C:mk (n+1) (λi=>if i=0 then false else p i)=2*mk n (λi=>p (i+1)):=by rw[mk];simp
    rw[e,C];apply zW;intro i;rw[JD,NO];cases i with
    |zero=>grind
    |succ i =>
     grind
   ·rw[KG,KG,g];simp
  |false =>
   have e:mk (n+1) p=2*mk n (λi=>p (i+1)):=by rw[mk,g];simp
   have A:mk n (λi=>p (i+1))≠0:=λE=>h J;obtain⟨q,h1,ao⟩:=Zu n (λi=>p (i+1)) A;refine⟨λi=>match i with|0=>false|i+1=>q i,?_,?_⟩
   ·have C:mk (n+1) (λi=>match i with|0=>false|i+1=>q i)=2*mk n q:=by rw[mk];simp
    rw[e,C,<-h1];apply zW;intro i;rw[JD];cases i with
    |zero=>grind
    |succ i =>
     rw[Jz,Jz,Jz,show(2*mk n (λi=>p (i+1))) / 2=mk n (λi=>p (i+1)) by omega,show(2*mk n (λi=>p (i+1))-1) / 2=mk n (λi=>p (i+1))-1 by omega,show(2*(mk n (λi=>p (i+1)) &&& (mk n (λi=>p (i+1))-1))) / 2=mk n (λi=>p (i+1)) &&& (mk n (λi=>p (i+1))-1) by omega,JD]
   ·rw[KG,KG,g]
    grind
section
variable {P:Program}
theorem Dm{n:Nat}(h:n<18446744073709551616):IntKind.wrap .u64 (n:Int)=(n:Int):=by unfold IntKind.wrap;simp[IntKind.bits,IntKind.signed];omega
theorem BB{n:Nat}(h:n<18446744073709551616):(BitVec.ofInt 64 (n:Int)).toNat=n:=ab
theorem F5{a:Nat}(g:a<18446744073709551616)(A:b<18446744073709551616):bin P .and t (.int .u64 (a:Int)) (.int .u64 (b:Int)) = .ok (.int .u64 ((a &&& b:Nat):Int)):=by show R.ok (Value.int .u64 (IntKind.wrap .u64 ((BitVec.ofInt 64 (a:Int) &&& BitVec.ofInt 64 (b:Int)).toNat:Int)))=_;rw[BitVec.toNat_and,BB g,BB A,Dm (Nat.lt_of_le_of_lt Nat.and_le_left g)]
theorem arq{a:Nat}(g:a<18446744073709551616)(A:b<18446744073709551616):bin P .or t (.int .u64 (a:Int)) (.int .u64 (b:Int)) = .ok (.int .u64 ((a ||| b:Nat):Int)):=by show R.ok (Value.int .u64 (IntKind.wrap .u64 ((BitVec.ofInt 64 (a:Int) ||| BitVec.ofInt 64 (b:Int)).toNat:Int)))=_;rw[BitVec.toNat_or,BB g,BB A,Dm (Nat.or_lt_two_pow (n:=64) g A)]
theorem anr:∀(k:Nat),k<64->∀hL:IntKind,bin P .shl t (.int .u64 1) (.int hL (k:Int)) = .ok (.int .u64 ((2 ^ k:Nat):Int)):=by
 intro k g hL;show wK .shl .u64 1 (k:Int)=_;unfold wK;rw[show lw (k:Int) 0=false from rfl];show R.ok (Value.int .u64 (tI .u64 (1*2 ^ (min (k:Int).toNat 64))))=_;rw[Int.one_mul,show min (k:Int).toNat 64=k by omega,oh];have:((2:Int) ^ k)=((2 ^ k:Nat):Int):=ab
 rw[this,Dm (Nat.pow_lt_pow_right J g)]
theorem Pb{a:Nat}:bin P .shr t (.int .u64 (a:Int)) (.int hL 1) = .ok (.int .u64 ((a / 2:Nat):Int)):=by
 show wK .shr .u64 (a:Int) 1=_;unfold wK;show R.ok (Value.int .u64 ((a:Int).fdiv (2 ^ (min (1:Int).toNat 64))))=_
 grind
theorem F6{a:Nat}:bin P .shr t (a:X) (.int hL 6) = .ok (((a / 64:Nat):X)):=by
 show wK .shr .i64 (a:Int) 6=_;unfold wK;show R.ok (Value.int .i64 ((a:Int).fdiv (2 ^ (min (6:Int).toNat 64))))=_
 grind
end
set_option maxRecDepth 100000
def Hd(a b:Code):aCN:={ res:=[.tmp 4],body :=
 (.seq (.tQ [⟨none,some 2,0,.iA (.box (.t 0))⟩,⟨none,some 4,0,.fx (.h4 (.v (.slice none 0 0)))⟩])
 (.seq (.seq (.tQ [⟨none,some 6,0,.fx (.h4 (.t 1))⟩]) (.block 0 (.xL (.t 6) [7] a b)))
 (.seq (.tQ [⟨none,some 12,0,.red (.ld none (.t 2))⟩,⟨none,some 4,0,.fx (.h4 (.t 12))⟩]) .ret))) }
def ccA:kB:=.tQ [⟨none,some 5,0,.fx (.h4 (.t 7))⟩]
def ccB(z:X):kB:=.block 1 (.tQ [⟨none,some 8,0,.red (.ld none (.t 2))⟩,⟨none,some 9,0,.fx (.h4 (.t 5))⟩,⟨none,some 10,0,.iA (.Tt 1 [z] [(0,1,.t 9)])⟩,⟨none,some 11,0,.fy (.app 1 (.t 8) (.t 10))⟩,⟨none,none,0,.fy (.st 1 (.t 2) (.t 11))⟩])
structure R6 (P:Program) (z:X) (f:FuncId) (a b:Code):Prop where
 c:yr P f=some (Hd a b)
 qu:comp P a=ccA
 gC:comp P b=ccB z
 IV:lC a=true
 rj:lC b=true
def He:kB->aw (Code × Code)
 | .xL _ _ a b=>some (a,b)
 | .seq a b=>match He a with|some x=>some x|none=>He b
 | .block _ c=>He c
 | .scope c=>He c
 |_=>none
def vp(P:Program)(f:FuncId):Code × Code:=match yr P f with
 |some c=>(match He c.body with|some x=>x|none=>(.skip,.skip))
 |none=>(.skip,.skip)
def vj(f:X)(p:Nat):ch:=[(6,some f),(4,some (.slice none 0 0)),(2,some (bf p)),(0,some (.slice none 0 0)),(1,some f)]
def lj(l p:Nat)(a b:Code)(h:ae)(o:X):Prop:=∃f,u h l=some (.loop 0 none (vj f p) [7] a b)/\u h p=some (.cells [o] false)
theorem lj.F{l p:Nat}{a b:Code}{o:X}(C:lj l p a b h o)(h1:u ac l=u h l)(ao:u ac p=u h p):lj l p a b ac o:=by obtain⟨f,A,g⟩:=C;exact⟨f,ab,ab⟩
section
variable {P:Program} {s:al}
theorem fA.cell{az:Type}{enc:az->aa X}{k:Nat}{o:X}{A:aa az}(g:fA h enc k o A aQ):dn o=[o]/\gN o=true:=by
 cases g <;> exact⟨rfl,rfl⟩
def g0{az:Type}(h:ae)(enc:az->aa X)(v:X)(l:aa az)(aQ:aw Nat):Prop:=(l=[]/\v = .slice none 0 0/\aQ=none)\/∃b,aQ=some b/\v = .slice (some ⟨b,0,some 1⟩) l.length l.length/\u h b=some (.cells (a7 enc l) false)
theorem g0.nil{az:Type}{enc:az->aa X}:g0 h enc (.slice none 0 0) [] none:=.inl ⟨rfl,rfl,rfl⟩
theorem g0.hE{az:Type}{enc:az->aa X}{l:aa az}(w:g0 h enc v l aQ):fA h enc 1 v l aQ:=by
 rcases w with⟨rfl,rfl,rfl⟩|⟨b,rfl,rfl,g⟩
 ·exact .nil
 ·exact .own g
theorem g0.F{az:Type}{enc:az->aa X}{l:aa az}(w:g0 h enc v l aQ)(A:∀c,aQ=some c->u ac c=u h c):g0 ac enc v l aQ:=by
 rcases w with w|⟨b,e,g,C⟩
 ·exact .inl w
 ·exact .inr ⟨b,e,g,ab⟩
theorem g0.gv{az:Type}{enc:az->aa X}{l:aa az}(w:g0 h enc v l aQ)(g:∀c,aQ=some c->ap<=c/\c<ag):eJ h ap ag v enc l:=by
 rcases w with⟨rfl,rfl,rfl⟩|⟨b,rfl,rfl,A⟩
 ·exact⟨none,0,rfl,λe=>absurd rfl e⟩
 ·exact⟨_,_,rfl,λ_=>⟨b,some 1,false,(g b rfl).1,(g b rfl).2,rfl,A⟩⟩
theorem g0.form{az:Type}{enc:az->aa X}{l:aa az}(w:g0 h enc v l aQ):∃a c,v = .slice a l.length c:=by
 rcases w with⟨rfl,rfl,rfl⟩|⟨b,rfl,rfl,g⟩
 ·exact⟨none,0,rfl⟩
 grind
theorem yl{az:Type}{enc:az->aa X}{k:Nat}(M:∀x,(enc x).length=k)(A:∀x,d4 (enc x)=true)(E:0<k){l:aa az}(g:fA h enc k v l o)(x:az)(ao:u h b3=some (.cells cs bG))(I:(cs.drop db).take k=enc x)(C:(l.length+1)*k<=1000000){K:X->ae->Nat->Prop}(L:∀ac,u ac U=some (.cells (a7 enc (l++[x])) false)->(∀c,c≠U->o≠some c->u ac c=u h c)->K (.slice (some ⟨U,0,some k⟩) (l.length+1) (l.length+1)) ac (U+1)):dG (dO (dM k h U v (.slice (some ⟨b3,db,li⟩) 1 pf))) K:=by obtain⟨ac,e,a,b⟩:=g.app M A E ao I C;rw[e];exact L _ a b
theorem au5(hN:qe P){z:X}{a b:Code}(A:R6 P z f a b){az:Type}{enc:az->aa X}(hk:∀x,(enc x).length=1)(I:∀x,d4 (enc x)=true){x:az}(bd:enc x=[v])(aI:dn v=[v]){l p:Nat}{o:X}{E:aa az}(C:lj l p a b h o)(w:g0 h enc o E aQ)(hlp:l≠p)(bo:l<U)(a6:p<U)(nM:∀c,aQ=some c->c≠l/\c≠p/\c<U)(kP:E.length+1<=1000000)(h8:∀ac aX,lj l p a b ac aX->g0 ac enc aX (E++[x]) (some (U+1))->(∀c,c<U->c≠l->c≠p->aQ≠some c->u ac c=u h c)->K (.bool true) ac (U+1+1)):mb P s l [v] h U K:=by
 obtain⟨L,M,zc⟩:=C;have g:=w.hE;have Mm:gN v=true:=by have:=I x;rw[bd]at this;exact(by simpa[d4]using this)
 refine mb.pr hN (vW:=[]) (oS:=[]) M rfl A.IV A.rj ?_;unfold B5;rw[A.qu,A.gC];show af (.ok v) λB7=>∃Z,u h l=some (.loop 0 Z (vj L p) [7] a b)/\af (iz none (T h l (.loop 1 Z (vj L p) [7] a b)) (bf p)) λaDM=>af (.ok B7) λaDN=>dY (fc 1 [z] [(0,1,aDN)]) (T h l (.loop 1 Z (vj L p) [7] a b)) U λv10 aT bT=>dG (dO (dM 1 aT bT aDM v10)) λv11 a9 dP=>af (aS a9 1 (bf p) v11) λV =>
  ∃gy Z,u V l=some (.loop gy Z (vj L p) [7] a b)/\K (.bool true) (T V l (.loop 0 none (vj L p) [7] a b)) dP
 refine⟨none,M,?_⟩;have hp2:u (T h l (.loop 1 none (vj L p) [7] a b)) p=some (.cells [o] false):=ab
 obtain⟨ho1,ho2⟩:=g.cell;simp(disch:=omega)only[VG,hp2,aI,Mm,seval];refine yl hk I J (g.F λc a1=>?_) x (aR _ _ _) ?_ J λV En mH=>?_
 ·grind
 ·grind
 have zf:u V l=some (.loop 1 none (vj L p) [7] a b):=ab
 have TW:u V p=some (.cells [o] false):=ab
 simp(disch:=omega)only[VG,TW,seval];refine⟨1,none,zf,?_⟩;refine h8 _ (.slice (some ⟨U+1,0,some 1⟩) (E.length+1) (E.length+1)) ⟨L,aR _ _ _,ab⟩ ?_ λc h1 ao aT a9=>?_
 ·refine .inr ⟨U+1,rfl,ab,?_⟩
  grind
 grind
theorem Yi(M:qe P){z:X}{a b:Code}(A:R6 P z f a b){g:FuncId}{E C:Array X}(L:∀h1,lj (U+1) U a b h1 (.slice none 0 0)->(∀c,c<U->u h1 c=u h c)->aE P s g (E.toList++(.func (.yield (U+1)) #[] #[]::C.toList)) h1 (U+1+1) (λ_ ao I=>∃o,lj (U+1) U a b ao o/\(∀x,K o (T ao (U+1) x) I))):
  aE P s f [.slice none 0 0,.func (.func g) E C] h U K:=by
 refine aE.pr M [] ?_;unfold oT;rw[A.c];have e:h6 P s [] (Hd a b).body 0 (ys [Value.slice none 0 0,Value.func (.func g) E C] 0) h U (sQ P (Hd a b).res K) [] (sQ P (Hd a b).res K) =
  t8 P s (.func (.func g) E C) (T h U (.cells [.slice none 0 0] false)) (U+1) (.loop 0 none (vj (.func (.func g) E C) U) [7] a b) (yL (U+1) (λh _n=>af (iz none h (bf U)) λv=>af (.ok v) λv=>K v h _n) (λh _n=>yM P (vj (.func (.func g) E C) U) h [.tmp 4] λl=>K (DS l) h _n)):=by kernel_rfl
 show h6 P s [] (Hd a b).body 0 _ h U _ [] _;rw[e];refine(L _ ⟨_,aR _ _ _,(aq J).trans (aR _ _ _)⟩ λc a1=>(aq J).trans (aq J)).mono ?_;rintro _ ao I ⟨o,⟨kG,aK,cc⟩,Z⟩;refine⟨0,none,_,[7],a,b,aK,J,.inl ⟨rfl,?_⟩⟩;show af (iz none (T ao (U+1) _) (bf U)) λv=>af (.ok v) λv=>K v _ I;have V:∀x,u (T ao (U+1) x) U=some (.cells [o] false):=ab
 rw[Hc,V];exact Z _
end
def dg:Int:=4611686018427387904
def jC(x:Int):Int:=(x+170141183460469231731687303715884105728) % 340282366920938463463374607431768211456-170141183460469231731687303715884105728
def jR(r a b:Int):Int:=if r=2 then(if a=0/\b=0 then 0 else 1)else if r=5 then jC (a+b)else min a b
def fH(r a x:Int):Int:=if r=2 then(if a≠0/\x≠0 then 1 else 0)else if r=5 then a*x else if dg<=max a x then dg else if r=1 then min dg (a+x)else min dg x
theorem ans(a b c:Int):jC (jC (a+b)+c)=jC (a+jC (b+c)):=by unfold jC;omega
theorem ant(r a b:Int):jR r a b=jR r b a:=by
 unfold jR
 grind
theorem akZ(r a b c:Int):jR r (jR r a b) c=jR r a (jR r b c):=by
 unfold jR
 by_cases ao:r=2
 ·grind
 ·simp only[if_neg ao]
  by_cases g:r=5
  ·simp only[if_pos g];exact ans a b c
  omega
def e4(r:Int):aw Int->aw Int->aw Int
 |none,y=>y
 |some x,none=>some x
 |some x,some y=>some (jR r x y)
theorem rz(r:Int)(x:aw Int):e4 r x none=x:=by cases x <;> rfl
theorem FP(r:Int)(x:aw Int):e4 r none x=x:=rfl
theorem Yj(r:Int)(x y:aw Int):e4 r x y=e4 r y x:=by
 cases x <;> cases y <;> simp[e4,ant r]
theorem tx(r:Int)(x y z:aw Int):e4 r (e4 r x y) z=e4 r x (e4 r y z):=by
 cases x <;> cases y <;> cases z <;> simp[e4,akZ]
def fo(r:Int):aa (aw Int)->aw Int
 | []=>none
 |x::l=>e4 r x (fo r l)
theorem F7(r:Int)(l g:aa (aw Int)):fo r (l++g)=e4 r (fo r l) (fo r g):=by
 induction l with
 |nil=>rfl
 |cons x l A=>show e4 r x (fo r (l++g))=_;rw[A,<-tx];rfl
theorem OJ(r:Int)(l:aa (aw Int))(x:aw Int):fo r (l++[x])=e4 r (fo r l) x:=by rw[F7];show e4 r _ (e4 r x none)=_;rw[rz]
theorem Yk{l g:aa (aw Int)}(h:l.Perm g):fo r l=fo r g:=by
 induction h with
 |nil=>rfl
 |cons x _ A=>show e4 r x _=e4 r x _;rw[A]
 |swap x y l=>show e4 r y (e4 r x _)=e4 r x (e4 r y _);rw[<-tx,<-tx,Yj r y x]
 |trans _ _ h1 ao=>grind
theorem yc{l:aa (aw Int)}(h:∀x∈l,x=none):fo r l=none:=by
 induction l with
 |nil=>rfl
 |cons x l A=>show e4 r x _=_;rw[h x ab,A λy g=>h y (jZ _ g)];rfl
theorem Pc{az:Type}(r:Int)(f g:az->aw Int)(l:aa az):fo r (l.map λa=>e4 r (f a) (g a))=e4 r (fo r (l.map f)) (fo r (l.map g)):=by
 induction l with
 |nil=>rfl
 |cons x l A =>
  show e4 r (e4 r (f x) (g x)) (fo r (l.map _))=e4 r (e4 r (f x) (fo r (l.map f))) (e4 r (g x) (fo r (l.map g)));rw[A,tx,tx,<-tx r (g x),Yj r (g x),tx]
theorem ajF{az:Type}(r:Int)(f:az->aw Int)(c:az->Nat)(l:aa az)(n:Nat)(h:∀a∈l,c a<n):
  fo r (l.map f)=fo r ((List.range n).map λk=>fo r (l.map λa=>if c a=k then f a else none)):=by
 induction l with
 |nil =>
  symm
  refine yc λx A=>?_;simp at A;obtain⟨_,rfl⟩:=A.2;rfl
 |cons a l g =>
  have e:((List.range n).map λk=>fo r ((a::l).map λa=>if c a=k then f a else none))=(List.range n).map λk=>e4 r (if c a=k then f a else none) (fo r (l.map λa=>if c a=k then f a else none)):=rfl;rw[e,Pc,<-g λb C=>h b (jZ _ C)];have:fo r ((List.range n).map λk=>if c a=k then f a else none)=f a:=by
   have E:=h a (mr ..);clear e g h
   induction n with
   |zero=>omega
   |succ n g =>
    rw[rv,iU,F7];show e4 r _ (e4 r (if c a=n then f a else none) none)=_;rw[rz]
    by_cases e:c a=n
    ·rw[if_pos e,yc,FP]
     grind
    ·rw[if_neg e,rz];grind
  rw[this];rfl
def bj{az:Type}(n:Nat)(f:Nat->aw az):aa (Nat × az):=(List.range n).filterMap λi=>(f i).map λx=>(i,x)
theorem tL{az:Type}(n:Nat)(f:Nat->aw az):bj (n+1) f=bj n f++(match f n with|some x=>[(n,x)]|none=>[]):=by
 unfold bj;rw[rv,List.filterMap_append]
 grind
theorem axX{az:Type}(f:Nat->aw az):bj 0 f=[]:=rfl
theorem j0{az:Type}{n:Nat}{f:Nat->aw az}{x:az}:(i,x)∈bj n f↔i<n/\f i=some x:=by
 unfold bj;simp only[List.mem_filterMap,CF,mq,Prod.mk.injEq]
 grind
theorem ms{az:Type}(n:Nat)(f:Nat->aw az):(bj n f).length<=n:=by
 unfold bj
 grind
theorem yw{az:Type}(n:Nat)(f:Nat->aw az):(bj n f).Pairwise λx y=>x.1<y.1:=by
 induction n with
 |zero=>exact .nil
 |succ n A =>
  rw[tL,tv];refine⟨A,?_,λa g b C=>?_⟩
  ·cases f n <;> simp
  ·obtain⟨i,x⟩:=a;have:=j0.1 g
   grind
theorem ym{az:Type}{n:Nat}{f g:Nat->aw az}(h:∀i,i<n->f i=g i):bj n f=bj n g:=by
 induction n with
 |zero=>rfl
 |succ n A=>rw[tL,tL,A λi ag=>h i J,h n J]
theorem adD{az:Type}:∀{l g:aa (Nat × az)},(l.Pairwise λx y=>x.1<y.1)->(g.Pairwise λx y=>x.1<y.1)->(∀x,x∈l↔x∈g)->l=g
 | [],[],_,_,_=>rfl
 | [],b::g,_,_,h=>by have:=(h b).2 (mr ..);grind
 |a::l,[],_,_,h=>by have:=(h a).1 (mr ..);grind
 |a::l,b::g,h1,ao,h=>by
  rw[uM]at h1 ao;have A:a=b:=ab
  subst A;rw[adD h1.2 ao.2 λx=>?_]
  grind
theorem Rg{az:Type}{n:Nat}{f:Nat->aw az}{l:aa (Nat × az)}(h1:l.Pairwise λx y=>x.1<y.1)(ao:∀i x,(i,x)∈l↔i<n/\f i=some x):l=bj n f :=
 adD h1 (yw n f) λ⟨i,x⟩=>by rw[ao,j0]
theorem Oh{az:Type}(r:Int)(f:az->aw Int)(p:az->al)(l:aa az):fo r ((l.filter p).map f)=fo r (l.map λa=>if p a=true then f a else none):=by
 induction l with
 |nil=>rfl
 |cons a l g =>
  rw[mW]
  by_cases h:p a=true
  ·rw[if_pos h];show e4 r (f a) _=e4 r (if p a=true then f a else none) _
   grind
  ·rw[if_neg h];show _=e4 r (if p a=true then f a else none) _;rw[g,if_neg h];rfl
theorem Ke{az:Type}{f g:az->aw Int}{l:aa az}(h:∀a∈l,f a=g a):fo r (l.map f)=fo r (l.map g):=by rw[qE h]
theorem Yl{az:Type}(r:Int)(f:az->aw Int)(c:az->Nat)(ap:Nat->Nat)(g:∀i j,i<=j->ap i<=ap j)(A:ap 0=0)(l:aa az):
  ∀eF,fo r ((List.range eF).map λj=>fo r (l.map λa=>if ap j<=c a/\c a<ap (j+1)then f a else none))=fo r (l.map λa=>if c a<ap eF then f a else none)
 |0=>by
  symm
  refine yc λx C=>?_
  grind
 |eF+1=>by
  rw[rv,iU,F7,Yl r f c ap g A l eF];show e4 r _ (e4 r _ none)=_;rw[rz,<-Pc];refine Ke λa _=>?_;have:=g eF (eF+1) J
  by_cases h1:c a<ap eF
  ·rw[if_pos h1,if_neg J,if_pos J,rz]
  ·rw[if_neg h1,FP]
   grind
structure jq where
 A:Nat->Int
 B:Nat->Int
 q:Nat->al
def qV(k:Int)(bb:Nat->Int)(t:Nat)(s:jq)(v:Nat):aw Int :=
 if k=1 then(if s.q v=true then some (v:Int)else none)
 else if k=5 then(if t % 2=0 then(if s.q v=true then some 1 else none)else if s.A v=0 then some (bb v)else none)
 else if s.q v=true then some (s.A v)else none
def sR(k:Int)(s:jq)(v:Nat):al:=if k=1 then s.A v == -1 else if k=5 then s.A v == 0 else true
def fm(k:Int)(t:Nat):Int:=if k=2 then 1 else if k=4 then 5 else if k=5/\t % 2=0 then 2 else 4
def iJ(r:Int)(ai:aa GE)(x:Nat->aw Int)(v:Nat):aw Int:=fo r (ai.map λg=>if g.f=v then(x g.t).map (fH r g.w)else none)
def sS(w:Int):al:=decide (-9223372036854775808<=w/\w<9223372036854775808)
def DF(r:Int):Int:=if r=2\/r=5 then 0 else dg
def qQ(r:Int)(o:aw Int):aw Int:=match o with|none=>none|some w=>if w=DF r then none else some w
def ku(k:Int)(bb:Nat->Int)(t:Nat)(s:jq)(v:Nat)(y:aw Int):Int × Int × al :=
 if k=1 then(match y with|some val=>if s.A v = -1 then((t:Int),val,true)else(s.A v,s.B v,false)|none=>(s.A v,s.B v,false))
 else if k=4 then(y.getD 0,s.B v,decide (y.getD 0≠0))
 else if k=5 then(if s.A v≠0 then(s.A v,s.B v,false)else if t % 2=0 then(if y.isSome=true then(2,s.B v,false)else(s.A v,s.B v,false))
  else match y with|some val=>if bb v<val then(1,s.B v,true)else(s.A v,s.B v,false)|none=>(1,s.B v,true))
 else match y with|some val=>if val<s.A v then(val,s.B v,true)else(s.A v,s.B v,false)|none=>(s.A v,s.B v,false)
def sT(k src v:Int):Int:=if k=3 then v else if k=5 then 0 else if k=4/\v=src then 1 else if v=src\/k=4 then 0 else if k=1 then -1 else 4611686018427387904
def sU(k src v:Int):al:=if k=3 then true else if k=5 then false else decide (v=src)
structure jS where
 k:Int
 n:Nat
 src:Int
 len:Int
 uz:Nat->Nat->Int
 ai:aa GE
 lim:Nat
section
variable (e:jS)
def jS.bb(t:Nat):Nat->Int:=e.uz ((t-1) / 2)
def jS.Mn(t:Nat)(s:jq):Nat->aw Int:=qV e.k (e.bb t) t s
def jS.A8(t:Nat)(s:jq)(v:Nat):aw Int:=if sR e.k s v=true then iJ (fm e.k t) e.ai (e.Mn t s) v else none
def jS.step(t:Nat)(s:jq):jq where
 A v:=(ku e.k (e.bb t) t s v (qQ (fm e.k t) (e.A8 t s v))).1
 B v:=(ku e.k (e.bb t) t s v (qQ (fm e.k t) (e.A8 t s v))).2.1
 q v:=(ku e.k (e.bb t) t s v (qQ (fm e.k t) (e.A8 t s v))).2.2
def jS.st:Nat->jq
 |0=>{ A:=λv=>sT e.k e.src v,B:=λ_=>-1,q:=λv=>sU e.k e.src v }
 |t+1=>e.step (t+1) (jS.st t)
def jS.x(t:Nat):Nat->aw Int:=e.Mn t (e.st (t-1))
def jS.S(t v:Nat):aw Int:=e.A8 t (e.st (t-1)) v
def jS.ovP(t ap ag:Nat):Prop:=1<=t/\∃v w,ap<=v/\v<ag/\e.S t v=some w/\sS w=false
def axY(k len:Int)(t:Nat)(s:jq)(v:Nat):al:=if k=4/\len<=t then false else if k=5 then s.A v == 0 else s.q v
def jS.liP(t ap ag:Nat):Prop:=∃v,ap<=v/\v<ag/\axY e.k e.len t (e.st t) v=true
open Classical in
noncomputable def jS.f8 (t:Nat):Int:=if e.ovP t 0 e.n then 3 else if ¬e.liP t 0 e.n then 1 else if t=e.lim then 2 else 0
end
theorem jS.P6(e:jS):e.f8 e.lim≠0:=by unfold jS.f8;omega
theorem jS.last(e:jS):∃av,av<=e.lim/\e.f8 av≠0/\∀t,t<av->e.f8 t=0:=by
 have:∀n,(∃av,av<=n/\e.f8 av≠0/\∀t,t<av->e.f8 t=0)\/∀t,t<=n->e.f8 t=0:=by
  intro n
  induction n with
  |zero =>
   grind
  |succ n g =>
   grind
 rcases this e.lim with h|h
 ·exact h
 ·exact absurd ab e.P6
theorem Pd{r:Int}(ao:r≠2)(C:r≠5):∀l:aa (aw Int),(fo r l=none/\∀x∈l,x=none)\/∃m,fo r l=some m/\some m∈l/\∀x,some x∈l->m<=x
 | []=>.inl ⟨rfl,λx g=>by cases g⟩
 |none::l=>by
  rcases Pd ao C l with⟨h,A⟩|⟨m,h,E,A⟩
  ·refine .inl ⟨h,λx g=>?_⟩;rcases gh.1 g with e|e
   ·exact e
   ·exact A x e
  ·refine .inr ⟨m,h,jZ _ E,λx g=>?_⟩;rcases gh.1 g with e|e
   ·cases e
   ·exact A x e
 |some a::l=>by
  rcases Pd ao C l with⟨h,A⟩|⟨m,h,E,A⟩
  ·refine .inr ⟨a,?_,mr ..,λx g=>?_⟩
   ·show e4 r (some a) (fo r l)=_;rw[h];rfl
   ·rcases gh.1 g with e|e
    ·cases e;exact wp _
    ·have:=A _ e;cases this
  ·have L:fo r (some a::l)=some (min a m):=by show e4 r (some a) (fo r l)=_;rw[h];show some (jR r a m)=_;unfold jR;rw[if_neg ao,if_neg C]
   refine .inr ⟨min a m,L,?_,λx g=>?_⟩
   ·by_cases I:a<=m
    ·rw[Int.min_eq_left I];exact mr ..
    ·rw[Int.min_eq_right J];exact jZ _ E
   ·rcases gh.1 g with e|e
    ·cases e;exact Int.min_le_left _ _
    ·exact JG (Int.min_le_right _ _) (A x e)
structure axZ (e:jS) (t:Nat) (s:jq):Prop where
 le:∀v,(e.step t s).A v<=s.A v
 nx:∀g∈e.ai,s.q g.t=true->s.A g.f<=dg->(e.step t s).A g.f<=fH (fm e.k t) g.w (s.A g.t)
 is:∀v,(e.step t s).A v=s.A v\/∃g∈e.ai,g.f=v/\s.q g.t=true/\(e.step t s).A v=fH (fm e.k t) g.w (s.A g.t)
 q:∀v,(e.step t s).q v=decide ((e.step t s).A v<s.A v)
 B:∀v,(e.step t s).B v=s.B v
theorem afM{e:jS}(hk:e.k=2\/e.k=3)(t:Nat)(s:jq):axZ e t s:=by
 have gx:e.k≠1:=J
 have nw:e.k≠5:=J
 have th:e.k≠4:=J
 have hu:fm e.k t≠2:=by unfold fm;rcases hk with h|h <;> simp[h]
 have VH:fm e.k t≠5:=by unfold fm;rcases hk with h|h <;> simp[h]
 have tk:∀v,e.Mn t s v=if s.q v=true then some (s.A v)else none:=λv=>by unfold jS.Mn qV;rw[if_neg gx,if_neg nw]
 have zE:∀v,e.A8 t s v=fo (fm e.k t) (e.ai.map λg=>if g.f=v then(if s.q g.t=true then some (fH (fm e.k t) g.w (s.A g.t))else none)else none):=λv=>by
  unfold jS.A8 sR iJ;rw[if_neg gx,if_neg nw,if_pos rfl];refine Ke λg _=>?_;rw[tk]
  by_cases h:g.f=v
  ·rw[if_pos h,if_pos h];by_cases ac:s.q g.t=true <;> simp[ac]
  ·rw[if_neg h,if_neg h]
 have No:∀v y,ku e.k (e.bb t) t s v y=(match y with|some val=>if val<s.A v then(val,s.B v,true)else(s.A v,s.B v,false)|none=>(s.A v,s.B v,false)):=λv y=>by
  unfold ku;rw[if_neg gx,if_neg th,if_neg nw];try(cases y <;> rfl)
 have aCS:DF (fm e.k t)=dg:=by unfold DF;rw[if_neg (by simp[hu,VH])]
 have I:∀v,∃a q,ku e.k (e.bb t) t s v (qQ (fm e.k t) (e.A8 t s v))=(a,s.B v,q)/\a<=s.A v/\q=decide (a<s.A v)/\(a=s.A v\/∃g∈e.ai,g.f=v/\s.q g.t=true/\a=fH (fm e.k t) g.w (s.A g.t)) /\
   ∀g∈e.ai,g.f=v->s.q g.t=true->s.A v<=dg->a<=fH (fm e.k t) g.w (s.A g.t):=λv=>by
  have mem:∀g∈e.ai,g.f=v->s.q g.t=true->some (fH (fm e.k t) g.w (s.A g.t))∈e.ai.map λg=>if g.f=v then(if s.q g.t=true then some (fH (fm e.k t) g.w (s.A g.t))else none)else none:=λg V h1 ao =>
   f3.2 ⟨g,V,by rw[if_pos h1,if_pos ao]⟩
  rcases Pd hu VH (e.ai.map λg=>if g.f=v then(if s.q g.t=true then some (fH (fm e.k t) g.w (s.A g.t))else none)else none)with⟨h,Z⟩|⟨m,h,hm,Z⟩
  ·refine⟨s.A v,false,?_,wp _,by simp,.inl rfl,λg V h1 ao _=>?_⟩
   ·rw[zE,h,No];rfl
   ·have:=Z _ (mem g V h1 ao);cases this
  ·obtain⟨g,V,A⟩:=f3.1 hm
   by_cases h1:g.f=v
   case neg=>rw[if_neg h1]at A;cases A
   rw[if_pos h1]at A
   by_cases ao:s.q g.t=true
   case neg=>rw[if_neg ao]at A;cases A
   rw[if_pos ao]at A;injection A with A
   by_cases c0:m=dg
   ·refine⟨s.A v,false,?_,wp _,by simp,.inl rfl,λcd E C L ag=>?_⟩
    ·rw[zE,h,No];unfold qQ;rw[aCS];simp only;rw[if_pos c0]
    ·have:=Z _ (mem cd E C L);omega
   ·have nx:qQ (fm e.k t) (some m)=some m:=by unfold qQ;rw[aCS];simp only;rw[if_neg c0]
    by_cases M:m<s.A v
    ·refine⟨m,true,?_,Int.le_of_lt M,by simp[M],.inr ⟨g,V,h1,ao,A.symm⟩,λcd E C L _=>Z _ (mem cd E C L)⟩;rw[zE,h,No,nx];simp only;rw[if_pos M]
    ·refine⟨s.A v,false,?_,wp _,by simp,.inl rfl,λcd E C L _=>?_⟩
     ·rw[zE,h,No,nx];simp only;rw[if_neg M]
     ·have:=Z _ (mem cd E C L);omega
 refine⟨λv=>?_,λg V c3 ag=>?_,λv=>?_,λv=>?_,λv=>?_⟩
 ·obtain⟨a,q,h1,ao,_⟩:=I v;show(ku ..).1<=_;rw[h1];exact ao
 ·obtain⟨a,q,h1,_,_,_,ao⟩:=I g.f;show(ku ..).1<=_;rw[h1];exact ao g V rfl c3 ag
 ·obtain⟨a,q,h1,_,_,ao,_⟩:=I v;have aU:(e.step t s).A v=a:=by show(ku ..).1=_;rw[h1]
  rw[aU];exact ao
 ·obtain⟨a,q,h1,_,ao,_⟩:=I v;have aU:(e.step t s).A v=a:=by show(ku ..).1=_;rw[h1]
  rw[aU];show(ku ..).2.2=_;rw[h1];exact ao
 ·obtain⟨a,q,h1,_⟩:=I v;show(ku ..).2.1=_;rw[h1]
section
variable {e:jS} {gs:aa GE} {s:Nat}
end
inductive hH (gs:List GE) (s:Nat):Nat->Nat->Int->Prop
 |nil:hH gs s 0 s 0
 |snoc {k:Nat} {n:Int} {e:GE} (b0:e∈gs) (w:hH gs s k e.f n):hH gs s (k+1) e.t (n+e.w)
structure kK (dE:Int) (N:Nat) (gs:aa GE) (s:Nat) (l:aa Int):Prop where
 len:l.length=N
 low:∀k v n x,hH gs s k v n->l[v]? = some x->x<=n
 h2:∀v x,l[v]? = some x->x=dE\/(x<dE/\∃k,hH gs s k v x)
theorem kK.unique{gs:aa GE}{s:Nat}{a b:aa Int}(g:kK dE N gs s a)(C:kK dE N gs s b):a=b:=by
 apply pI;intro v;cases A:a[v]? with
 |none =>
  rw[List.getElem?_eq_none_iff]at A;rw[xX (by rw[C.len,<-g.len];omega)]
 |some x =>
  have L:=(fb.1 A).1;have E:b[v]? = some (b[v]'(by rw[C.len,<-g.len];omega)):=ab
  generalize b[v]' ab=y at E;rw[E];rcases g.h2 v x A with h1|⟨h1,k,w⟩ <;> rcases C.h2 v y E with ao|⟨ao,I,a8⟩
  ·grind
  ·have:=g.low _ _ _ _ a8 A;omega
  ·have:=C.low _ _ _ _ w E;omega
  ·have:=g.low _ _ _ _ a8 A;have:=C.low _ _ _ _ w E
   grind
structure K1 (dE:Int) (N:Nat) (gs:aa GE) (s:Nat) (l:aa Int):Prop where
 len:l.length=N
 src:l[s]? = some 0
 ahh:∀e∈gs,∀x y:Int,l[e.f]? = some x->l[e.t]? = some y->x<dE->y<=x+e.w
 ag:∀(v:Nat) (x:Int),l[v]? = some x->x<=dE
theorem K1.low{gs:aa GE}{s:Nat}{l:aa Int}(I:∀e∈gs,e.f<N/\e.t<N/\0<=e.w)(c:K1 dE N gs s l):∀(k v:Nat) (n x:Int),hH gs s k v n->l[v]? = some x->x<=n:=by
 intro k v n x w
 induction w generalizing x with
 |nil=>intro g;rw[c.src]at g;grind
 | @snoc k n e C w E =>
  intro g;obtain⟨a,A⟩:∃a,l[e.f]? = some a:=⟨_,lo (by rw[c.len];grind)⟩
  have h1:=E a A;have L:=(I e C).2.2
  by_cases ao:a<dE
  ·have:=c.ahh e C a x A g ao;omega
  ·have:=c.ag _ _ g;omega
theorem kK.mk'{gs:aa GE}{s:Nat}{l:aa Int}(g:∀e∈gs,e.f<N/\e.t<N/\0<=e.w)(c:K1 dE N gs s l)(w:∀(v:Nat) (x:Int),l[v]? = some x->x=dE\/(x<dE/\∃k,hH gs s k v x)):kK dE N gs s l :=
 ⟨c.len,c.low g,w⟩
theorem hH.GQ{gs:aa GE}{s:Nat}(C:∀e∈gs,0<=e.w){k v:Nat}{n:Int}(w:hH gs s k v n):0<=n:=by
 induction w with
 |nil=>omega
 |snoc A w g=>grind
theorem hH.lt{gs:aa GE}{s:Nat}(A:∀e∈gs,e.f<N/\e.t<N/\0<=e.w)(ar:s<N){k v:Nat}{n:Int}(w:hH gs s k v n):v<N:=by
 cases w with
 |nil=>omega
 |snoc g w=>grind
theorem kK.closed{gs:aa GE}{s:Nat}{l:aa Int}(I:0<dE)(ar:s<N)(L:∀e∈gs,e.f<N/\e.t<N/\0<=e.w)(h:kK dE N gs s l):K1 dE N gs s l:=by
 refine⟨h.len,?_,λe C x y g E A=>?_,λv x g=>?_⟩
 ·obtain⟨x,g⟩:∃x,l[s]? = some x:=⟨_,lo (by rw[h.len];omega)⟩
  have h1:=h.low 0 s 0 x .nil g;rcases h.h2 s x g with ao|⟨_,k,w⟩
  ·omega
  ·have:=w.GQ ab
   grind
 ·rcases h.h2 _ _ g with h1|⟨_,k,w⟩
  ·omega
  ·exact h.low _ _ _ _ (.snoc C w) E
 ·rcases h.h2 _ _ g with h1|⟨h1,_⟩ <;> omega
def Eo(D l:aa Int)(v:Nat):al:=decide (l[v]? = D[v]?)
def LO(N:Nat)(D l:aa Int):Nat:=((List.range N).filter (Eo D l)).length
structure ps (dE:Int) (N:Nat) (gs:aa GE) (s:Nat) (gR:aa Int) (i:Nat) (l:aa Int):Prop where
 len:l.length=N
 src:l[s]? = some 0
 h2:∀(v:Nat) (x:Int),l[v]? = some x->x=dE\/(x<dE/\∃k,hH gs s k v x)
 le:∀(v:Nat) (x y:Int),gR[v]? = some x->l[v]? = some y->y<=x
 TX:∀e∈gs.take i,∀x y:Int,gR[e.f]? = some x->l[e.t]? = some y->x<dE->y<=x+e.w
theorem ps.init{s:Nat}{gs:aa GE}(A:0<dE)(ar:s<N):ps dE N gs s ((List.replicate N dE).set s 0) 0 ((List.replicate N dE).set s 0):=by
 refine⟨by simp,ab,λv x g=>?_,ab,ab⟩;rw[uN]at g
 split at g
 ·rename_i e
  subst e
  split at g
  ·cases g;exact .inr ⟨A,0,.nil⟩
  grind
 grind
theorem ps.skip{s:Nat}{gs:aa GE}{l:aa Int}{e:GE}(h:ps dE N gs s gR i l)(L:gs[i]? = some e)(V:∀x y:Int,l[e.f]? = some x->l[e.t]? = some y->x<dE->y<=x+e.w)(g:gR.length=N):ps dE N gs s gR (i+1) l:=by
 refine⟨h.len,h.src,h.h2,h.le,λE pj x y A M C=>?_⟩;rw[gW,L]at pj;rcases he.1 pj with pj | pj
 ·exact h.TX E pj x y A M C
 ·have:E=e:=ab
  subst this;have Z:=(fb.1 A).1;obtain⟨z,I⟩:∃z,l[E.f]? = some z:=⟨_,lo (by rw[h.len,<-g];omega)⟩
  have h1:=h.le _ _ _ A I
  grind
theorem ps.set{dE:Int}{N s i:Nat}{gs:aa GE}{gR l:aa Int}{e:GE}{a b:Int}(h:ps dE N gs s gR i l)(b0:gs[i]? = some e)(dR:l[e.f]? = some a)(I:l[e.t]? = some b)(TD:a<dE)(cb:a+e.w<b)(bO:0<=e.w)(fO:gR.length=N)(gS:∀e∈gs,0<=e.w):ps dE N gs s gR (i+1) (l.set e.t (a+e.w)):=by
 have aY:∀aO,(l.set e.t (a+e.w))[aO]? = if e.t=aO then some (a+e.w)else l[aO]?:=ab
 have E:∀(aO:Nat) (y:Int),(l.set e.t (a+e.w))[aO]? = some y->∃z,l[aO]? = some z/\y<=z:=λaO y A=>ab
 have L:∃k,hH gs s k e.f a:=by
  rcases h.h2 _ _ dR with h1|⟨_,k,w⟩
  ·omega
  ·exact⟨k,w⟩
 obtain⟨k,ny⟩:=L;have hbi:b<=dE:=by rcases h.h2 _ _ I with h1|⟨h1,_⟩ <;> omega
 have C:=kk b0;have M:e.t≠s:=λaU=>by rw[aU,h.src]at I;cases I;have:=ny.GQ gS;omega
 refine⟨by rw[JB];exact h.len,by rw[aY,if_neg M];exact h.src,λv x g=>?_,λv x y g A=>?_,λdS pj x y g A HV=>?_⟩
 ·rw[aY]at g
  split at g
  ·rename_i h1;subst h1;cases g;exact .inr ⟨J,k+1,.snoc C ny⟩
  ·exact h.h2 v x g
 ·obtain⟨z,V,Z⟩:=E v y A;have:=h.le v x z g V;omega
 ·obtain⟨z,V,Z⟩:=E _ y A;rw[gW,b0]at pj;rcases he.1 pj with pj | pj
  ·have:=h.TX dS pj x z g V HV;omega
  ·have:dS=e:=ab
   subst this;rw[aY,if_pos rfl]at A;cases A;have:=h.le _ _ _ g dR;omega
theorem filter_lt{p q:Nat->al}:∀{L:aa Nat},(∀x∈L,p x=true->q x=true)->(∃y∈L,q y=true/\p y=false)->(L.filter p).length+1<=(L.filter q).length
 | [],_,h=>ab
 |x::L,C,h=>by
  have M:∀{L:aa Nat},(∀x∈L,p x=true->q x=true)->(L.filter p).length<=(L.filter q).length:=by
   intro L
   induction L with
   |nil=>grind
   |cons a L I =>
    grind
  have g:∀x∈L,p x=true->q x=true:=ab
  obtain⟨y,A,E,V⟩:=h;rw[mW,mW];rcases gh.1 A with e|A
  ·grind
  ·have I:=filter_lt g ⟨y,A,E,V⟩
   grind
structure uf (dE:Int) (N:Nat) (gs:aa GE) (s:Nat) (D:aa Int) (k:Nat) (l:aa Int):Prop where
 len:l.length=N
 src:l[s]? = some 0
 h2:∀(v:Nat) (x:Int),l[v]? = some x->x=dE\/(x<dE/\∃k,hH gs s k v x)
 many:k+1<=LO N D l\/∀v:Nat,l[v]? = D[v]?
theorem ps.start{s:Nat}{gs:aa GE}{l D:aa Int}{k:Nat}(h:uf dE N gs s D k l):ps dE N gs s l 0 l :=
 ⟨h.len,h.src,h.h2,ab,ab⟩
theorem uf.init{dE:Int}{N s:Nat}{gs:aa GE}{D:aa Int}(g:0<dE)(ar:s<N)(C:∀e∈gs,e.f<N/\e.t<N/\0<=e.w)(A:kK dE N gs s D):uf dE N gs s D 0 ((List.replicate N dE).set s 0):=by
 have h:=ps.init (gs:=gs) g ar;refine⟨h.len,h.src,h.h2,.inl ?_⟩;have E:s∈(List.range N).filter (Eo D ((List.replicate N dE).set s 0)):=by rw[od];exact⟨ab,gY (by rw[h.src,(A.closed g ar C).src])⟩
 unfold LO
 grind
theorem uf.step{s k:Nat}{gs:aa GE}{l D:aa Int}(au:0<dE)(ar:s<N)(gS:∀e∈gs,e.f<N/\e.t<N/\0<=e.w)(C:kK dE N gs s D)(h:uf dE N gs s D k gR)(A:ps dE N gs s gR gs.length l):uf dE N gs s D (k+1) l:=by
 have a1:=C.closed au ar gS;have dle:∀(v:Nat) (x d:Int),l[v]? = some x->D[v]? = some d->d<=x:=λv x d E g=>by
  rcases A.h2 v x E with h1|⟨_,k,w⟩
  ·have:=a1.ag v d g;omega
  ·exact C.low _ _ _ _ w g
 have F:∀v:Nat,gR[v]? = D[v]?->l[v]? = D[v]?:=λv V=>by
  cases g:D[v]? with
  |none =>
   rw[List.getElem?_eq_none_iff]at g;rw[xX (by rw[A.len,<-C.len];omega)]
  |some d =>
   have Ea:=(fb.1 g).1;obtain⟨x,E⟩:∃x,l[v]? = some x:=⟨_,lo (by rw[A.len,<-C.len];omega)⟩
   rw[g]at V;have h1:=A.le v d x V E
   grind
 refine⟨A.len,A.src,A.h2,?_⟩;rcases h.many with hm|hm
 case inr=>grind
 by_cases M:∀v:Nat,v<N->gR[v]? = D[v]?
 ·refine .inr λv=>?_
  by_cases V:v<N
  ·grind
  ·rw[xX (by rw[A.len];omega),xX (by rw[C.len];omega)]
 ·obtain⟨v,V⟩:=Classical.not_forall.1 M;obtain⟨hvN,eh⟩:=Classical.not_imp.1 V;have aCo:∀(k v:Nat) (n:Int),hH gs s k v n->n<dE->D[v]? = some n->gR[v]? = D[v]?\/∃y:Nat,y<N/\gR[y]?≠D[y]?/\l[y]? = D[y]?:=by
   intro k v n w
   induction w with
   |nil=>intro _ g;exact .inl (by rw[h.src,a1.src])
   | @snoc k n e b0 w eS =>
    intro bw g;have aY:=gS e b0;obtain⟨d,I⟩:∃d,D[e.f]? = some d:=⟨_,lo (by rw[C.len];omega)⟩
    have h1:=C.low _ _ _ _ w I;have ao:=a1.ahh e b0 d _ I g J;have Mo:d=n:=J
    subst Mo;rcases eS J I with aT|aT
    ·by_cases a9:gR[e.t]? = D[e.t]?
     ·grind
     ·refine .inr ⟨e.t,aY.2.1,a9,?_⟩;obtain⟨y,ck⟩:∃y,l[e.t]? = some y:=⟨_,lo (by rw[A.len];omega)⟩
      have bY:=A.TX e ab d y ab ck J
      grind
    grind
  obtain⟨d,g⟩:∃d,D[v]? = some d:=⟨_,lo (by rw[C.len];omega)⟩
  obtain⟨x,E⟩:∃x,gR[v]? = some x:=⟨_,lo (by rw[h.len];omega)⟩
  have Mp:∃y:Nat,y<N/\gR[y]?≠D[y]?/\l[y]? = D[y]?:=by
   rcases C.h2 v d g with h1|⟨h1,k,w⟩
   ·exfalso;rcases h.h2 v x E with ao|⟨ao,k,w⟩
    ·grind
    ·have:=C.low _ _ _ _ w g;omega
   grind
  obtain⟨y,ck,Z,zg⟩:=Mp;refine .inl ?_;have:=filter_lt (p:=Eo D gR) (q:=Eo D l) (L:=List.range N) (λx _ E=>gY (F x (of_decide_eq_true E))) ⟨y,ab,gY zg,hA Z⟩;unfold LO at hm ⊢;omega
theorem uf.done{s:Nat}{gs:aa GE}{l D:aa Int}(h:uf dE N gs s D N l):l=D:=by
 rcases h.many with g|g
 ·unfold LO at g
  grind
 ·exact pI g
end Go.Ax
