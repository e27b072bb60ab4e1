/- Parts of the proof: Hw1: each statement bears its own conditions. -/
import Derived.ChangeArms
import Derived.Below
import Derived.Shelf.SlSortCmp.NoneTotal
import Derived.OpenShut
import Derived.WideShapes
import Init
import Derived.Test.YthlhhajnbgjfmaaGreatRwCm2
namespace Go.Ax
open Go Go.Proofs Go.Sort Go.Shelf
set_option linter.all false
set_option maxHeartbeats 1000000
variable {h:ad} {v:X} {U:Nat} {cs:aa X} {b i:Nat} {t:TypeId} {bW:aa (Place × aa X)} {f:FuncId} {off ao:Nat} {aP:av Nat} {ac:ad} {o:av Nat} {iM:aa (aa Nat)} {ai:Nat} {c:aa X} {mK:av Nat} {aE:aa X} {Y:Nat} {args:aa X} {z:Nat} {ar:aa ad} {mX:IntKind} {cap:Nat} {a:Int} {r Mr:Nat} {bC:ak} {y:X} {A L:aa Nat} {K:bD} {Cm:FuncId} {bO r5:Nat} {bj:World} {j da:Nat} {cc:aa Int} {cL dI dU:Nat} {g:aa Nat} {gF:IntKind} {ah:cd} {Fp:Ren} {B:Nat} {al h1:ad} {N:Nat}
section
variable {P:Program}  {s:ak}
theorem DW{n:Int}(C:0<=n)(h1:n<9223372036854775808):IntKind.wrap .i64 n=n:=by
 rw[<-oA];obtain⟨m,rfl⟩:=CK C;show AX .i64 m=_;unfold AX zt;rw[pd]
 grind
theorem akz{C:aa Nat}{es:aa MapEntry}(h:∀e∈es,e.born<cL):Ly C es cL=true:=by
 unfold Ly;cases es with
 |nil=>simp
 |cons e es =>
  have:=h e (by simp);simp[pd,this]
end
def Dk(cL:Nat):aa MapEntry->ak
 | []=>true
 |e::es=>(match es with
  | []=>Nat.blt e.born cL
  |f::_=>Nat.blt e.born f.born)&&Dk cL es
theorem YH{cL:Nat}:∀{es:aa MapEntry},Dk cL es=true->DC es/\∀e∈es,e.born<cL
 | [],_=>⟨List.Pairwise.nil,ab⟩
 | [e],h=>by unfold Dk at h;simp only[eD,pd,OV]at h;exact⟨List.pairwise_singleton ..,ab⟩
 |e::f::es,h=>by
  unfold Dk at h;simp only[eD,pd,OV]at h;obtain⟨h1,al⟩:=YH h.2;have C:∀x∈f::es,e.born<x.born:=λx E=>by
   rcases hf.1 E with rfl|E
   ·omega
   ·have:=tR h1 E;omega
  refine⟨List.Pairwise.cons C h1,λx E=>?_⟩
  grind
section
variable {P:Program}
def wV(aBw tL:ak)(dx avG:Int):Int:=if aBw then 3 else if tL then(if dx == avG then 2 else 0)else 1
end
section
variable {aA:Type}
def a1(enc:aA->aa X):aa aA->aa X
 | []=>[]
 |x::l=>enc x++a1 enc l
theorem ga{enc:aA->aa X}{k:Nat}(C:∀x,(enc x).length=k):∀l:aa aA,(a1 enc l).length=l.length*k
 | []=>by simp[a1]
 |x::l=>by simp[a1,C,ga C l,FR];omega
theorem vz{enc:aA->aa X}{k:Nat}(C:∀x,(enc x).length=k):∀{l:aa aA} {i:Nat} {x:aA},l[i]? = some x->((a1 enc l).drop (i*k)).take k=enc x
 | [],i,x,h=>ab
 |y::l,0,x,h=>by simp at h;subst h;simp[a1,<-C y]
 |y::l,i+1,x,h=>by
  have h:l[i]? = some x:=ab
  have e:(i+1)*k=(enc y).length+i*k:=ab
  rw[e,a1,OX,OL J,tU];have:(enc y).length+i*k-(enc y).length=i*k:=J
  rw[this];exact vz C h
theorem aaW{enc:aA->aa X}{k:Nat}(C:∀x,(enc x).length=k)(z:aA):∀{l:aa aA} {i:Nat},i<l.length->ng (enc z) (a1 enc l) (i*k)=some (a1 enc (l.set i z)):=by
 intro l i ai;rw[t7,if_pos (by rw[ga C,C];have:=pU k ai;grind)]
 congr 1
 have I:∀(l:aa aA) (i:Nat),i<l.length->(a1 enc l).take (i*k)++(enc z++(a1 enc l).drop (i*k+k))=a1 enc (l.set i z):=by
  intro l
  induction l with
  |nil=>grind
  |cons y l M =>
   intro i ai;cases i with
   |zero=>simp[a1,<-C y,OX]
   |succ i =>
    have e:(i+1)*k=(enc y).length+i*k:=ab
    have E:(i+1)*k+k=(enc y).length+(i*k+k):=J
    rw[List.set_cons_succ,a1,a1,E,e,List.take_append,OX];rw[pT J,OL J]
    grind
 grind
end
section
variable {P:Program}  {aA:Type}
theorem js(m:Nat)(h:m<1000000000):IntKind.wrap .i64 (m:Int)=(m:Int):=DW J J
end
section
variable {P:Program}  {aA:Type} {s:ak}
theorem LV(n:Nat)(h:n<=12):IntKind.wrap .u64 (n:Int)=(n:Int):=by
 rw[<-oA];show AX .u64 n=_;unfold AX zt;rw[pd]
 grind
theorem PH{R:aA->aA->Prop}(C:∀x y,R x y->R y x->x=y):∀{l cc:aa aA},l.Perm cc->l.Pairwise R->cc.Pairwise R->l=cc
 | [],cc,E,_,_=>by rw[List.nil_perm.1 E]
 |x::l,[],E,_,_=>by have:=E.length_eq;grind
 |x::l,y::cc,E,h1,al=>by
  have aR:∀z∈l,R x z:=λz I=>tR h1 I;have V:∀z∈cc,R y z:=λz I=>tR al I;have M:x=y:=by
   have m1:x∈y::cc:=ab
   have Z:y∈x::l:=ab
   grind
  subst M;rw[PH C (List.Perm.cons_inv E) ab ab]
end
def gb(a b:Int):Int:=if a<b then -1 else if b<a then 1 else 0
def h4:aa Int->Int
 | []=>0
 |x::l=>if x=0 then h4 l else x
section
variable {P:Program}  {s:ak}
def lM(x:Int × Int):aa X:=[(x.1:X),(x.2:X)]
def lw(x y:Int × Int):Int:=h4 [gb x.1 y.1,gb x.2 y.2]
end
section
variable {P:Program} {aA:Type}
def dX(h:ad)(v:X)(enc:aA->aa X)(k:Nat)(l:aa aA)(ao ai:Nat):Prop :=
 (l=[]/\v = .slice none 0 0)\/∃b,ao<=b/\b<ai/\v = .slice (some ⟨b,0,some k⟩) l.length l.length/\u h b=some (.cells (a1 enc l) false)
theorem sW{enc:aA->aa X}:∀(l:aa aA) (x:aA),a1 enc (l++[x])=a1 enc l++enc x
 | [],x=>by simp[a1]
 |y::l,x=>by simp[a1,sW l x]
theorem sh(h:ad)(b k:Nat):u (xq h b) k=if k=b then none else u h k:=Pz h b k
theorem pZ{s:Nat}{l:aa X}{C:Nat}(ar:0<s):p4 h U s l C = .ok (.val (.slice (some ⟨U,0,some s⟩) C C) (F h U (.cells l false)) (U+1)):=by
 cases s with
 |zero=>omega
 |succ s=>rfl
theorem sX{aO:av Nat}{n:Nat}{k:aa X->R ff}(C:u h b=some (.cells cs bC))(E:0<n)(I:n<=cs.length-off):jV h (some ⟨b,off,aO⟩) n k=k ((cs.drop off).take n):=by
 cases n with
 |zero=>omega
 |succ n =>
  show cellsOf h b (λcs _=>R.of "read - out of block" (nh (n+1) (na cs off)) k)=_;rw[vp C,rP,qT,if_pos ab];rfl
theorem atu{enc:aA->aa X}{k:Nat}(hk:∀x,(enc x).length=k)(I:∀x,ec (enc x)=true)(C:0<k){l:aa aA}(aI:dX h v enc k l ao U)(V:ao<=U){x:aA}(al:u h bO=some (.cells cs bC))(aR:(cs.drop dI).take k=enc x)(h3:(l.length+1)*k<=1000000):
  ∃dG ac,dv k h U v (.slice (some ⟨bO,dI,mK⟩) 1 r5) = .ok (.val dG ac (U+1))/\dX ac dG enc k (l++[x]) ao (U+1)/\(∀b,b<ao->u ac b=u h b):=by
 have E:k<=cs.length-dI:=ab
 have h1:l.length+1<=1000000:=hu (by have:=CL (l.length+1) C;omega) h3;rcases aI with⟨rfl,rfl⟩|⟨b,hy,fa,rfl,aG⟩
 ·refine⟨.slice (some ⟨U,0,some k⟩) 1 1,F h U (.cells (enc x) false),?_,.inr ⟨U,V,J,rfl,by simp[a1]⟩,ab⟩;unfold dv;simp only;rw[yO,tX,sX al C E,aR];unfold gt;have Z:Nat.ble (Nat.add 0 1) 0=false:=rfl;have aJ:(Nat.ble (Nat.mul (Nat.add 0 1) k) 1000000&&Nat.ble (Nat.add 0 1) 1000000)=true:=by
   simp only[eD,sU]
   grind
  rw[Z,aJ];exact pZ C
 ·refine⟨.slice (some ⟨U,0,some k⟩) (l.length+1) (l.length+1),F (xq h b) U (.cells (a1 enc l++enc x) false),?_,.inr ⟨U,V,J,by simp,by simp[sW]⟩,λc aU=>by rw[oV,if_neg J,sh,if_neg J]⟩
  unfold dv;simp only;rw[yO,tX,sX al C E,aR];unfold gt;have Z:Nat.ble (Nat.add l.length 1) l.length=false:=by
   cases BQ:Nat.ble (Nat.add l.length 1) l.length with
   |false=>rfl
   |true=>have:=l6 BQ;grind
  have aJ:(Nat.ble (Nat.mul (Nat.add l.length 1) k) 1000000&&Nat.ble (Nat.add l.length 1) 1000000)=true:=by
   simp only[eD,sU]
   grind
  rw[Z,aJ];show p5 h U k (some ⟨b,0,some k⟩) l.length l.length (l.length+1) (enc x)=_;unfold p5;simp only[vp aG];have M:nh (Nat.mul l.length k) (na (a1 enc l) 0)=some (a1 enc l):=by rw[rP,nO,qT,if_pos (by rw[ga hk];grind)];rw[pT (by rw[ga hk];grind)]
  rw[M];have ce:(!false&&Nat.beq 0 0&&Nat.beq (jJ (a1 enc l)) (Nat.mul l.length k)&&Nat.beq k k&&Nat.beq l.length l.length&&ec (enc x))=true:=by rw[oB,ga hk,I];simp
  show(bif _ then _ else _)=_;rw[ce,kk];exact pZ C
end
section
variable {P:Program}  {s:ak}
def pick(key:MapEntry->Int × Int)(len:MapEntry->Nat)(l:aa MapEntry):aa (Int × Int):=(l.filter (λe=>decide (0<len e))).map key
end
theorem Q8{b:Int}:gb a b<0↔a<b:=by unfold gb;omega
theorem wQ{b:Int}:gb a b=0↔a=b:=by unfold gb;omega
theorem GR{x y:Int × Int}:lw x y<0↔x.1<y.1\/(x.1=y.1/\x.2<y.2):=by
 unfold lw h4 h4 h4
 by_cases h:gb x.1 y.1=0
 ·rw[if_pos h];rw[wQ]at h
  by_cases al:gb x.2 y.2=0
  ·rw[if_pos al];rw[wQ]at al;omega
  ·rw[if_neg al,Q8];omega
 ·rw[if_neg h,Q8];have:¬x.1=y.1:=λe=>h (wQ.2 e);omega
theorem aqj(x y z:Int × Int)(h1:¬lw y x<0)(al:¬lw z y<0):¬lw z x<0:=by rw[GR]at *;omega
theorem aqk(x y:Int × Int)(h:lw x y<0):¬lw y x<0:=by rw[GR]at *;omega
theorem akA(x y:Int × Int)(h1:¬lw y x<0)(al:¬lw x y<0):x=y:=by
 rw[GR]at *
 grind
section
variable {aA:Type}
end
def lenOf(h:ad)(e:MapEntry):av Nat:=match e.val with
 | .pointer (some a)=>(match u h a.block with
  |some (.cells cs _)=>(match g7 cs (a.off+1)with
   |some (.slice _ n _)=>some n
   |_=>none)
  |_=>none)
 |_=>none
theorem F6{aA:Type}{enc:aA->aa X}(C:∀x,ii (enc x)=true):∀l:aa aA,ii (a1 enc l)=true
 | []=>rfl
 |x::l=>by
  have app:∀a b:aa X,ii a=true->ii b=true->ii (a++b)=true:=by
   intro a
   induction a with
   |nil=>grind
   |cons y a E =>
    intro b h k;have h:(qW y&&ii a)=true:=h;simp only[eD]at h;show(qW y&&ii (a++b))=true
    grind
  exact app _ _ (C x) (F6 C l)
section
variable {P:Program}
end
abbrev dn:=Int × Int × Int
def kK(x:dn):aa X:=[(x.1:X),(x.2.1:X),(x.2.2:X)]
def iT(e:dn):aa dn->aa dn
 | []=>[e]
 |x::l=>bif fN x.1 e.1&&fN x.2.1 e.2.1 then(x.1,x.2.1,bif lK e.2.2 x.2.2 then e.2.2 else x.2.2)::l else x::iT e l
def iA(acc:aa dn):aa dn->aa dn
 | []=>acc
 |e::l=>iA (iT e acc) l
section
variable {P:Program}
def kp(x y:dn):Int:=h4 [h4 [gb x.1 y.1,gb x.2.1 y.2.1],gb x.2.2 y.2.2]
theorem GS{x y:dn}:kp x y<0↔x.1<y.1\/(x.1=y.1/\(x.2.1<y.2.1\/(x.2.1=y.2.1/\x.2.2<y.2.2))):=by
 have E:lw (x.1,x.2.1) (y.1,y.2.1)=h4 [gb x.1 y.1,gb x.2.1 y.2.1]:=rfl;have I:h4 [gb x.1 y.1,gb x.2.1 y.2.1]=0↔x.1=y.1/\x.2.1=y.2.1:=by
  unfold h4 h4 h4
  by_cases h:gb x.1 y.1=0
  ·rw[if_pos h];rw[wQ]at h
   by_cases al:gb x.2.1 y.2.1=0
   ·rw[if_pos al];rw[wQ]at al;omega
   ·rw[if_neg al,wQ];omega
  ·rw[if_neg h,wQ];have:¬x.1=y.1:=λe=>h (wQ.2 e);omega
 have C:=@GR (x.1,x.2.1) (y.1,y.2.1);rw[E]at C;simp only at C;show h4 (h4 [gb x.1 y.1,gb x.2.1 y.2.1]::[gb x.2.2 y.2.2])<0↔_;generalize h4 [gb x.1 y.1,gb x.2.1 y.2.1]=z at *
 unfold h4 h4 h4
 by_cases h:z=0
 ·rw[if_pos h]
  by_cases al:gb x.2.2 y.2.2=0
  ·rw[if_pos al];rw[wQ]at al;omega
  ·rw[if_neg al,Q8];omega
 omega
theorem aql(x y z:dn)(h1:¬kp y x<0)(al:¬kp z y<0):¬kp z x<0:=by rw[GS]at *;omega
theorem aqm(x y:dn)(h:kp x y<0):¬kp y x<0:=by rw[GS]at *;omega
theorem akB(x y:dn)(h1:¬kp y x<0)(al:¬kp x y<0):x=y:=by
 rw[GS]at *
 grind
end
def f1(n:Nat):aa X:=[.int .i64 0,.int .u64 (n:Int)]
section
variable {P:Program}  {s:ak}
theorem atv(m:Nat)(h:m<4294967296):IntKind.wrap .i64 (m:Int)=(m:Int):=DW J J
end
section
variable {P:Program}  {s:ak}
end
def mD(x:dn):X:=.agg ⟨lM (x.1,x.2.1)⟩
def kH:Nat->aa dn->aa MapEntry
 |_,[]=>[]
 |i,x::l=>{ key:=mD x,val:=.agg ⟨f1 x.2.2.toNat⟩,born:=i }::kH (i+1) l
def xl(x e:dn):ak:=fN x.1 e.1&&fN x.2.1 e.2.1
def DD(n:Int):ak:=match n with
 | .ofNat m=>Nat.blt m 2147483648
 | .negSucc _=>false
def l8(x:dn):Prop:=DD x.1=true/\DD x.2.1=true/\DD x.2.2=true
def qn(e:dn):aa dn->av (Nat × dn)
 | []=>none
 |x::l=>bif xl x e then some (0,x)else(qn e l).map (λp=>(p.1+1,p.2))
theorem KM(e:dn):∀(l:aa dn),iT e l=match qn e l with
  |none=>l++[e]
  |some (p,x)=>l.set p (x.1,x.2.1,bif lK e.2.2 x.2.2 then e.2.2 else x.2.2)
 | []=>rfl
 |x::l=>by
  unfold iT qn;show(bif xl x e then _ else _)=_;cases xl x e with
  |true=>rfl
  |false =>
   simp only[lH];rw[KM e l]
   grind
theorem Li{e:dn}:∀{l:aa dn} {p:Nat} {x:dn},qn e l=some (p,x)->l[p]? = some x/\xl x e=true
 | [],p,x,h=>by cases h
 |y::l,p,x,h=>by
  unfold qn at h;cases ar:xl y e with
  |true=>grind
  |false =>
   rw[ar]at h;simp only[lH]at h;cases C:qn e l with
   |none=>grind
   |some q =>
    rw[C]at h;cases h;obtain⟨h1,al⟩:=Li    C
    grind
theorem ajp(i:Nat)(l:aa dn)(e:dn):kH i (l++[e])=kH i l++[{ key:=mD e,val:=.agg ⟨f1 e.2.2.toNat⟩,born:=i+l.length }]:=by
 induction l generalizing i with
 |nil=>rfl
 |cons x l C =>
  show _::kH (i+1) (l++[e])=_::(kH (i+1) l++_)
  grind
theorem YI(e:dn):∀(i p:Nat) (l:aa dn),p<l.length->HL (kH i l) p (mD e) (.agg ⟨f1 e.2.2.toNat⟩)=kH i (l.set p e)
 |_,_,[],h=>ab
 |i,0,x::l,h=>rfl
 |i,p+1,x::l,h=>by show _::HL (kH (i+1) l) p _ _=_::kH (i+1) (l.set p e);rw[YI e (i+1) p l ab]
section
variable {P:Program}  {s:ak}
def LW(P:Program)(dU:Nat):Prop:=∀x y:dn,l8 x->l8 y->lq P dU (mD x) (mD y)=some (xl y x)
theorem Qa{dU:Nat}(E:LW P dU){e:dn}(C:l8 e):∀(i j:Nat) (l:aa dn),(∀x∈l,l8 x)->k2 P dU (mD e) (kH i l) j=some ((qn e l).map λp=>(j+p.1,{ key:=mD p.2,val:=.agg ⟨f1 p.2.2.2.toNat⟩,born:=i+p.1 }))
 |i,j,[],_=>rfl
 |i,j,x::l,h=>by
  have I:=Qa E C (i+1) (j+1) l λy M=>h y ab;unfold kH k2 qn;simp only[E e x C (h x ab)];cases xl x e with
  |true=>rfl
  |false =>
   simp only[lH];rw[show Nat.succ j=j+1 from rfl,I];cases qn e l with
   |none=>rfl
   |some q =>
    grind
theorem akC{x e:dn}(h:xl x e=true):mD x=mD e/\x.1=e.1/\x.2.1=e.2.1:=by
 unfold xl at h;simp only[eD,AP]at h;refine⟨?_,h⟩;unfold mD
 grind
theorem atw(E:LW P dU){e:dn}(C:l8 e){l:aa dn}(I:∀x∈l,l8 x)(M:u h r=some (.map (kH 0 l) cL))(z:X):
  lL P h dU z true (.map (some r)) (mD e) = .ok (match qn e l with
   |none=>.tuple #[z,.bool false]
   |some p=>.tuple #[.agg ⟨f1 p.2.2.2.toNat⟩,.bool true]):=by
 unfold lL zj;rw[E e e C C];unfold Si lr;simp only[M,Qa E C 0 0 l I];cases qn e l <;> rfl
theorem akD(e:dn):mz (mD e) (mD e)=true:=by
 show(q3 (e.1:X) (e.1:X)&&(q3 (e.2.1:X) (e.2.1:X)&&true))=true;have:∀n:Int,q3 (.int .i64 n) (.int .i64 n)=true:=λn=>by show(mI .i64 .i64&&fN n n)=true;rw[AP.2 rfl];rfl
 grind
theorem aeB(M:LW P dU){e:dn}(I:l8 e){l:aa dn}(Z:∀x∈l,l8 x)(V:u h r=some (.map (kH 0 l) l.length)){w:Nat}(C:w=match qn e l with|none=>e.2.2.toNat|some p=>(bif lK e.2.2 p.2.2.2 then e.2.2 else p.2.2.2).toNat):
  pq P dU h (.map (some r)) (mD e) (.agg ⟨f1 w⟩) = .ok (F h r (.map (kH 0 (iT e l)) (iT e l).length)):=by
 unfold pq zj;rw[M e e I I];show lr h r _=_;unfold lr;simp only[V,Qa M I 0 0 l Z];rw[KM];cases E:qn e l with
 |none =>
  rw[E]at C;simp only at C;subst C;simp only[Option.map_none,kk,ajp,jb,nM,CQ,ix]
 |some p =>
  obtain⟨q,x⟩:=p;rw[E]at C;simp only at C;obtain⟨h1,al⟩:=Li E;obtain⟨fD,hB,l2⟩:=akC al;have cz:q<l.length:=ab
  simp only[FL,fD,akD,oy,ix,wI];have:=YI (x.1,x.2.1,bif lK e.2.2 x.2.2 then e.2.2 else x.2.2) 0 q l cz
  grind
end
theorem vt{n:Int}(h:DD n=true):∃m:Nat,n=(m:Int)/\m<2147483648:=by
 cases n with
 |ofNat m=>exact⟨m,rfl,by simpa[DD,pd]using h⟩
 |negSucc m=>cases h
section
variable {P:Program}  {s:ak}
end
section
variable {P:Program}  {s:ak}
end
theorem YJ(e:dn):∀(l C:aa dn),iA C (l++[e])=iT e (iA C l)
 | [],C=>rfl
 |x::l,C=>YJ e l (iT x C)
theorem aiT{e:dn}(V:l8 e){l:aa dn}(I:∀x∈l,l8 x):∀x∈iT e l,l8 x:=by
 intro x C;rw[KM]at C;cases M:qn e l with
 |none =>
  rw[M]at C;rcases g6.1 C with h|h
  ·exact I x h
  ·simp at h;subst h;exact V
 |some p =>
  rw[M]at C;obtain⟨h1,al⟩:=Li M;have E:=I _ (jp h1);rcases OH C with h|h
  ·exact I x h
  ·subst h;refine⟨E.1,E.2.1,?_⟩;cases lK e.2.2 p.2.2.2 with
   |true=>exact V.2.2
   |false=>exact E.2.2
theorem Kk:∀{l acc:aa dn},(∀x∈l,l8 x)->(∀x∈acc,l8 x)->∀x∈iA acc l,l8 x
 | [],acc,_,C=>C
 |e::l,acc,E,C=>Kk  (acc:=iT e acc) (λx I=>E x ab) (aiT (E e ab) C)
theorem akE(e:dn)(l:aa dn):(iT e l).length<=l.length+1:=by
 rw[KM]
 grind
theorem PI:∀(l C:aa dn),(iA C l).length<=C.length+l.length
 | [],C=>by simp[iA]
 |e::l,C=>by
  have h1:=PI l (iT e C);have al:=akE e C;show(iA (iT e C) l).length<=_
  grind
theorem XZ:∀(i:Nat) (l:aa dn),DC (kH i l)/\∀e∈kH i l,i<=e.born/\e.born<i+l.length
 |i,[]=>⟨List.Pairwise.nil,λe h=>by cases h⟩
 |i,x::l=>by
  obtain⟨h1,al⟩:=XZ (i+1) l;refine⟨List.Pairwise.cons ab h1,λe C=>?_⟩;rcases hf.1 C with rfl|C
  all_goals grind
def xm(e:MapEntry):dn:=match e.key,e.val with
 | .agg ⟨[.int _ a,.int _ b]⟩,.agg ⟨[_,.int _ c]⟩=>(a,b,c)
 |_,_=>(0,0,0)
theorem Yh:∀(i:Nat) (l:aa dn),(∀x∈l,l8 x)->(kH i l).map xm=l/\∀e∈kH i l,∃w:Nat,w<2147483648/\(xm e).2.2=(w:Int)/\e.key=mD (xm e)/\e.val = .agg ⟨f1 w⟩
 |i,[],_=>⟨rfl,λe h=>by cases h⟩
 |i,x::l,h=>by
  obtain⟨h1,al⟩:=Yh (i+1) l λy M=>h y ab;obtain⟨w,E,I⟩:=vt (h x ab).2.2;obtain⟨a,b,c⟩:=x;simp only at E;subst E;have V:xm { key:=mD (a,b,(w:Int)),val:=.agg ⟨f1 ((w:Int)).toNat⟩,born:=i }=(a,b,(w:Int)):=rfl;refine⟨?_,λe C=>?_⟩
  ·show xm _::(kH (i+1) l).map xm=_
   grind
  ·rcases hf.1 C with rfl|C
   all_goals grind
section
variable {P:Program}
end
section
variable {P:Program}
theorem cE.still{H:fs}{w:World}(Z:ee B ah H w)(C:w.heap.size<=bj.heap.size)(I:bj.os=w.os)(M:rz w bj)(E:bj.output=w.output)(V:∀k,k<w.heap.size->bj.heap[k]? = w.heap[k]?):cE B ah H w U U ah H bj where
 rel:=Z.world C λb p aG ar=>by obtain⟨o,fj⟩:=nJ.1 ar;exact V _ (Z.obj b p o aG fj).DB
 agree:=ab
 size:=C
 os:=I
 tape:=M
 output:=E
 frame:=ab
 own:=ab
 le:=J
end
section
variable {aA:Type}
def az(U:Nat)(h ac:ad):Prop:=∀b,b<U->u ac b=u h b
theorem aC{p:Prop}(h:p:=by grind[az]):p:=h
theorem az.refl(U:Nat)(h:ad):az U h h:=aC
theorem az.trans(a:az U h ac)(b:az Y ac al)(C:U<=Y):az U h al:=aC
theorem az.set{o:fM}(a:az U h ac)(C:U<=b):az U h (F ac b o):=aC
theorem az.mono(a:az Y h ac)(C:U<=Y):az U h ac:=aC
def cN(h:ad)(U:Nat)(v:X)(enc:aA->aa X)(l:aa aA):Prop :=
 ∃a cap,v = .slice a l.length cap/\(l≠[]->∃b aO bC,b<U/\a=some ⟨b,0,aO⟩/\u h b=some (.cells (a1 enc l) bC))
theorem cN.T{enc:aA->aa X}{l:aa aA}(ar:cN h U v enc l)(Z:az U h ac)(V:U<=Y):cN ac Y v enc l:=by obtain⟨a,cap,I,aU⟩:=ar;refine⟨a,cap,I,λE=>?_⟩;obtain⟨b,aO,bC,M,C,a5⟩:=aU E;exact⟨b,aO,bC,J,C,by rw[Z b M];omega⟩
theorem dX.rd{k:Nat}{enc:aA->aa X}{l:aa aA}(ar:dX h v enc k l ao ai):cN h ai v enc l:=by
 rcases ar with⟨rfl,rfl⟩|⟨b,h1,al,rfl,C⟩
 ·exact⟨none,0,rfl,λh=>absurd rfl h⟩
 ·exact⟨_,_,rfl,λ_=>⟨b,some k,false,al,rfl,C⟩⟩
theorem cN.at{enc:aA->aa X}{l:aa aA}(ar:cN h U v enc l){x:aA}(V:l[i]? = some x):
  i<l.length/\∃b aO bC cap,b<U/\v = .slice (some ⟨b,0,aO⟩) l.length cap/\u h b=some (.cells (a1 enc l) bC):=by
 obtain⟨a,cap,M,C⟩:=ar;obtain⟨b,aO,bC,I,rfl,E⟩:=C ab
 grind
theorem Gb{enc:aA->aa X}{k:Nat}(E:∀x,(enc x).length=k){l:aa aA}{x:aA}(C:l[i]? = some x)(I:j<k):(a1 enc l)[i*k+j]? = (enc x)[j]?:=by
 have M:=vz E C
 grind
end
section
variable {H:Type} {enc:TypeId × X->H} {P:Program} {w:World} {base:Nat} {aO:Nat->ak} {Bv:ak}
structure Tri (P:Program) (t:TypeId):Prop where
 ex:∃ds kX fk gH,P.underlying t=some (.struct ds)/\ds[0]? = some kX/\ds[1]? = some fk/\ds[2]? = some gH/\kX.offset=0/\fk.offset=1/\gH.offset=2 /\
  P.underlying kX.type=some (.int .i64)/\P.underlying fk.type=some (.int .i64)/\P.underlying gH.type=some (.int .i64)/\P.cellsOf kX.type=1/\P.cellsOf fk.type=1/\P.cellsOf gH.type=1
 size:P.cellsOf t=3
abbrev gS:=Int × Int × Int
def gc(x:gS):aa X:=[(x.1:X),(x.2.1:X),(x.2.2:X)]
def Bw(n:Int):Prop:=(Lit.int .i64 n).wf=true
theorem amV{x:DataW H × aa MemPlace}(aw:Tri P t)(h:DataW.trod enc P w base aO Bv Mr t cs=some x):∃e:gS,cs=gc e/\Bw e.1/\Bw e.2.1/\Bw e.2.2:=by
 obtain⟨ds,kX,fk,gH,cy,ap,h1,al,Jl,d9,dI,aBx,W5,Ab,mm,c1,c2⟩:=aw.ex;obtain⟨xs,n,rfl,_,C,M4,I⟩:=DataW.trod_struct cy h;rw[aw.size]at C;have E:∀(i:Nat) (f:Field),ds[i]? = some f->f.offset=i->P.underlying f.type=some (.int .i64)->P.cellsOf f.type=1->∃n:Int,(cs.drop i).take 1=[(n:X)]/\Bw n:=λi f bx fj eb M=>by
  have bk:=I i f bx;have ai:i<xs.length:=ab
  rw[fj,M,jU ai]at bk;obtain⟨n,h1,_,al⟩:=DataW.trod_int eb bk;exact⟨n,h1,al⟩
 obtain⟨a,V,od⟩:=E 0 kX ap Jl aBx mm;obtain⟨b,Z,mn⟩:=E 1 fk h1 d9 W5 c1;obtain⟨c,M,o3⟩:=E 2 gH al dI Ab c2
 match cs,C with
 | [x,y,z],_ =>
  simp at V Z M;exact⟨(a,b,c),by simp[gc,V,Z,M],od,mn,o3⟩
theorem akF{a:Addr}{n:Nat}(h:w.cells? base a n=some cs):cs.length=n/\∀i v,cs[i]? = some v->w.cell? (a.add i)=some v:=by
 unfold World.cells? at h
 split at h
 ·have C:cs.length=n:=by simpa using mapM_some_length h
  refine⟨C,λi v E=>?_⟩;have:=mapM_some_get h i i ab
  grind
 grind
theorem aqn(a:Addr)(i j:Nat):(a.add i).add j=a.add (i+j):=by
 unfold Addr.add
 grind
theorem akG{aA:Type}{Z:aA->aa X}{k:Nat}{e:TypeId}{x:DataW H × aa MemPlace}(cy:P.underlying t=some (.slice e))(aU:P.cellsOf e=k)(R:aA->Prop)(I:∀(n:Nat) (c:aa X) y,DataW.trod enc P w base aO Bv n e c=some y->∃z:aA,c=Z z/\R z)(h:DataW.trod enc P w base aO Bv Mr t cs=some x):
  cs=[.slice none 0 0]\/∃(a:Addr) (C:aa aA) (cap:Nat),cs=[.slice (some a) C.length cap]/\C.length<=cap/\cap<=maxLen/\(∀z∈C,R z)/\∀i v,(a1 Z C)[i]? = some v->w.cell? (a.add i)=some v:=by
 rcases DataW.trod_slice cy h with⟨lA,_⟩|⟨a,len,cap,E,rest,n,rfl,lA,_,aG,bg,hm,gA,hel,_⟩
 ·grind
 ·have key:∀m,m<=len->∃C:aa aA,C.length=m/\(∀z∈C,R z)/\(a1 Z C).length=m*k/\∀i v,(a1 Z C)[i]? = some v->w.cell? (a.add i)=some v:=by
   intro m
   induction m with
   |zero=>intro _;exact⟨[],rfl,by simp,by simp[a1],λi v V=>by simp[a1]at V⟩
   |succ m ev =>
    intro EG;obtain⟨C,h1,al,aM,bc⟩:=ev J;have kg:=hel m J;rw[aU,jU (by omega:m<E.length)]at kg;simp only[j4]at kg;obtain⟨c,rn,wl⟩:=kg;obtain⟨z,rfl,cX⟩:=I _ _ _ wl;obtain⟨je,hcg⟩:=akF rn;refine⟨C++[z],ab,λy M=>?_,by rw[sW,jb,aM,je,FR],λi v V=>?_⟩
    ·rcases g6.1 M with M|M
     ·exact al y M
     ·rw[iR.1 M];exact cX
    ·rw[sW,yG]at V
     split at V
     ·grind
     ·rename_i eh
      have:=hcg _ v V;rw[aqn,aM]at this
      grind
  obtain⟨C,h1,al,_,bc⟩:=key len J
  grind
end
def uu(bW:aa (Place × aa X)):cd:=λb=>(bW[b]?).map (·.1)
def wn:Nat->aa (Place × aa X)->ad->ad
 |_,[],h=>h
 |i,p::bW,h=>wn (i+1) bW (F h i (.cells p.2 true))
theorem Qb:∀(bW:aa (Place × aa X)) (i:Nat) (h:ad) (b:Nat),u (wn i bW h) b=if b<i then u h b else match bW[b-i]? with
  |some p=>some (.cells p.2 true)
  |none=>u h b
 | [],i,h,b=>by by_cases C:b<i <;> simp[wn,C]
 |p::bW,i,h,b=>by
  show u (wn (i+1) bW (F h i (.cells p.2 true))) b=_;rw[Qb bW (i+1) _ b,oV]
  grind
theorem aaX{o:fM}(h:u (wn 0 bW ic) b=some o):∃p,bW[b]? = some p/\o = .cells p.2 true:=by
 rw[Qb,if_neg (J7 _),Nat.sub_zero,KL]at h
 grind
theorem atx{p:Place × aa X}(h:bW[b]? = some p):u (wn 0 bW ic) b=some (.cells p.2 true):=by rw[Qb,if_neg (J7 _),Nat.sub_zero,h]
def InW(w:World)(bW:aa (Place × aa X)):Prop:=∀p∈bW,∃c e e5,w.heap[p.1.ct]? = some (.cells c e e5)/\ph (uu bW) p.2 c p.1.off
theorem aty{w:World}(E:InW w bW):ee w.heap.size (uu bW) (u (wn 0 bW ic)) w where
 base:=J
 obj:=λb p o C M=>by obtain⟨q,I,rfl⟩:=aaX M;unfold uu at C;rw[I]at C;cases C;obtain⟨c,e,V,Z,aU⟩:=E q ab;exact⟨ab,c,e,V,Z,aU⟩
 inj:=λb ck p eF C hQ ar _ dZ _=>by
  exfalso;unfold uu at C;cases I:bW[b]? with
  |none=>grind
  |some q =>
   rw[I]at C;have C:q.1=p:=ab
   subst C;obtain⟨c,e,V,Z,_⟩:=E q ab
   grind
 nm:=λb ar=>by
  obtain⟨o,M⟩:=nJ.1 ar;obtain⟨q,I,_⟩:=aaX M;unfold uu
  grind
theorem avH(bW:aa (Place × aa X)):kw (uu bW) bW.length:=λb C=>by
 unfold uu
 grind
theorem amW{M:cd}{H E:fs}{w:World}(V:B=w.heap.size)(C:cE B ah H w U Y M E bj):RowKit.Below w.heap.size w bj :=
 ⟨C.os,C.tape.1,C.output,C.size,λk I=>C.frame k I (by rintro⟨b,p,_,_,_,h⟩;omega)⟩
section
variable {P:Program}
end
section
variable {aA:Type}
def eZ(h:ad)(ao ai:Nat)(v:X)(enc:aA->aa X)(l:aa aA):Prop :=
 ∃a cap,v = .slice a l.length cap/\(l≠[]->∃b aO bC,ao<=b/\b<ai/\a=some ⟨b,0,aO⟩/\u h b=some (.cells (a1 enc l) bC))
theorem eZ.rd{enc:aA->aa X}{l:aa aA}(ar:eZ h ao ai v enc l):cN h ai v enc l:=by
 obtain⟨a,cap,C,E⟩:=ar;refine⟨a,cap,C,λI=>?_⟩
 grind
theorem eZ.T{ed:Nat}{enc:aA->aa X}{l:aa aA}(ar:eZ h ao ai v enc l)(M:∀b,ao<=b->b<ai->u ac b=u h b)(h1:ed<=ao)(al:ai<=da):eZ ac ed da v enc l:=by
 obtain⟨a,cap,C,E⟩:=ar;refine⟨a,cap,C,λI=>?_⟩
 grind
theorem dX.gI{k:Nat}{enc:aA->aa X}{l:aa aA}(ar:dX h v enc k l ao ai):eZ h ao ai v enc l:=by
 rcases ar with⟨rfl,rfl⟩|⟨b,h1,al,rfl,C⟩
 ·exact⟨none,0,rfl,λh=>absurd rfl h⟩
 ·exact⟨_,_,rfl,λ_=>⟨b,some k,false,h1,al,rfl,C⟩⟩
end
section
variable {P:Program}  {s:ak}
@[congr] theorem azE{aA:Type}{r C:R aA}{k:aA->Prop}(h:r=C):ag r k=ag C k:=by rw[h]
@[simp] theorem acL(U:Nat)(o:fM):xK U (.ptr o) = (bb U):=rfl
@[simp] theorem acM(o:fM):tn (.ptr o)=o:=rfl
@[simp] theorem Zz(U:Nat)(o:fM)(n c:Nat):xK U (.slice o n c) = .slice (some ⟨U,0,none⟩) n c:=rfl
@[simp] theorem ZA(o:fM)(n c:Nat):tn (.slice o n c)=o:=rfl
@[simp] theorem aeC(k:IntKind)(n:Int):c5 (.int k n)=[.int k n]:=rfl
@[simp] theorem aaY(a:av Addr)(n c:Nat):c5 (.slice a n c)=[.slice a n c]:=rfl
@[simp] theorem aeD(l:aa X):c5 (.agg ⟨l⟩)=l:=rfl
@[simp] theorem acN(b:ak):c5 (.bool b)=[.bool b]:=rfl
@[simp] theorem aeE(a:av Addr):c5 (.pointer a)=[.pointer a]:=rfl
@[simp] theorem ZB(k:IntKind)(n:Int):hv (.int k n)=true:=rfl
@[simp] theorem YK(b:ak):hv (.bool b)=true:=rfl
@[simp] theorem Yi(a:av Addr)(n c:Nat):hv (.slice a n c)=true:=rfl
@[simp] theorem ZC(a:av Addr):hv (.pointer a)=true:=rfl
@[simp] theorem ZD:ec []=true:=rfl
@[simp] theorem rM(x:X)(l:aa X):ec (x::l)=(hv x&&ec l):=by
 show(bif hv x then ec l else false)=_
 grind
@[simp] theorem azw(l:aa X)(a b:Nat):wY l a b=if ec l=true then .ok (.slice (.cells l false) a b)else .no "cells" := by
 show(bif ec l then _ else _)=_
 grind
@[simp] theorem EH(n:Nat):(n=n+1+1)↔False:=ab
@[simp] theorem BR(n:Nat):(n=n+1+1+1)↔False:=ab
@[simp] theorem ne4(n:Nat):(n=n+1+1+1+1)↔False:=ab
@[simp] theorem az4(n:Nat):(n+1+1=n)↔False:=ab
@[simp] theorem az5(n:Nat):(n+1+1+1=n)↔False:=ab
@[simp] theorem az6(n:Nat):(n+1+1+1+1=n)↔False:=ab
theorem Yj(a:Addr):AY a a=true:=by
 obtain⟨b,o,aO⟩:=a;unfold AY;cases aO <;> simp
@[simp] theorem rN(k:IntKind)(n:Int):mz (.int k n) (.int k n)=true:=by show(mI k k&&fN n n)=true;rw[wT,lo];simp
@[simp] theorem yT(b:ak):mz (.bool b) (.bool b)=true:=by show(b == b)=true;simp
@[simp] theorem tY(a:av Addr)(l c:Nat):mz (.slice a l c) (.slice a l c)=true:=by
 cases a with
 |none=>show(Nat.beq l l&&Nat.beq c c)=true;simp
 |some a=>show(AY a a&&Nat.beq l l&&Nat.beq c c)=true;simp[Yj]
@[simp] theorem C0(l:aa X):mz (.agg ⟨l⟩) (.agg ⟨l⟩)=q4 l l:=rfl
@[simp] theorem akH:q4 [] []=true:=rfl
@[simp] theorem ajq(x y:X)(l m:aa X):q4 (x::l) (y::m)=(q3 x y&&q4 l m):=rfl
@[simp] theorem azy(k:IntKind)(n:Int):q3 (.int k n) (.int k n)=true:=rN k n
@[simp] theorem azt(a:av Addr)(l c:Nat):q3 (.slice a l c) (.slice a l c)=true:=tY a l c
@[simp] theorem pc(v w:X):nT v (.ok w)=mz v w:=rfl
theorem amX{aA:Type}{enc:aA->aa X}{k:Nat}(I:∀x,(enc x).length=k){l:aa aA}{x:aA}(E:l[i]? = some x)(C:(enc x)[j]? = some v):(a1 enc l)[i*k+j]? = some v:=by rw[Gb I E ab,C]
end
def cG(x:Int):aa X:=[(x:X)]
def fx(l:aa Int):aa X:=l.map (λx=>Value.int .i64 x)
theorem h2:∀l:aa Int,a1 cG l=fx l
 | []=>rfl
 |x::l=>by show cG x++a1 cG l=_;rw[h2 l];rfl
theorem iz{l:aa Int}{x:Int}(h:l[i]? = some x):(fx l)[i]? = some (x:X):=by simp[fx,h]
theorem AK(l:aa Int):(fx l).length=l.length:=by simp[fx]
theorem ints_set(l:aa Int)(i:Nat)(x:Int):(fx l).set i (x:X)=fx (l.set i x):=by simp[fx,FQ]
theorem ajr{aA:Type}{l:aa aA}{x:aA}(h:l[i]? = some x):i<l.length:=ab
def fe(l:aa Nat):aa Int:=l.map (λx:Nat=>(x:Int))
theorem aaZ(l:aa Nat)(x:Nat):fe (l++[x])=fe l++[(x:Int)]:=by simp[fe]
theorem kG(l:aa Nat):(fe l).length=l.length:=by simp[fe]
theorem y2{l:aa Nat}{x:Nat}(h:l[i]? = some x):(fe l)[i]? = some (x:Int):=by simp[fe,h]
section
variable {P:Program}  {s:ak}
end
set_option linter.unusedSectionVars false
section
variable {P:Program}
@[simp] theorem AS(t:TypeId)(k:IntKind)(a b:Int):bin P .mul t (.int k a) (.int k b) = .ok (.int k (k.wrap (a*b))):=by rw[s7 _ _ _ _ _ rfl,<-oA];rfl
theorem Dl{k:IntKind}{b:Int}(C:b≠0):bin P .quo t (.int k a) (.int k b) = .ok (.int k (k.wrap (a.tdiv b))):=by rw[s7 _ _ _ _ _ rfl];show D4 .quo k a b=_;unfold D4;rw[lo,show(b == 0)=false by grind,<-oA];rfl
end
section
variable {P:Program} {aA:Type} [Inhabited aA] {enc:aA->aa X} {k:Nat}
def k7(c:aA->aA->Int)(x y:aA):ak:=decide (c x y<0)
def LB(enc:aA->aa X)(c:aA->aA->Int)(l:aa aA)(b U:Nat)(h:ad):bD:=λ_ ac Y=>U<=Y/\(∃cc:aa aA,cc.Perm l/\cc.Pairwise (λx y=>¬c y x<0)/\u ac b=some (.cells (a1 enc cc) false))/\∀c,c<U->c≠b->u ac c=u h c
theorem amY{w:World}(ar:w.heap.size<=bj.heap.size)(V:bj.os=w.os)(E:rz w bj)(eb:bj.output=w.output)(bx:∀k,k<w.heap.size->bj.heap[k]? = w.heap[k]?):∃q I,bj=grow (w.drewN q) I:=by
 refine⟨bj.drawn-w.drawn,bj.heap.extract w.heap.size bj.heap.size,?_⟩;obtain⟨C,Z,M,I,aCZ⟩:=bj;have h1:C=w.heap++C.extract w.heap.size C.size:=ab
 have al:M=w.drawn+(M-w.drawn):=by have:=E.2;grind
 have aM:Z=w.tape:=E.1;simp only at V eb h1 al;unfold grow World.drewN
 grind
theorem Kr:∀{l:aa X},ii l=true->∀{x},x∈l->qW x=true
 |y::l,h,x,C=>by
  have h:(qW y&&ii l)=true:=h;simp only[eD]at h;rcases hf.1 C with rfl|C
  ·grind
  ·exact Kr h.2 C
theorem lz.up{P:Program}{s:ak}{f:FuncId}{args:aa X}{h:ad}{U:Nat}{K:bD}{v:X}{ac:ad}{Y:Nat}(E:lz P f args h U (uH v ac Y))(C:K v ac Y):aD P s f args h U K:=by
 cases s with
 |true=>exact⟨v,ac,Y,C,E⟩
 |false=>exact E.mono λ_ _ _ ⟨M,V,I⟩=>by rw[M,V,I];exact C
def Hz(P:Program)(f:FuncId)(enc:aA->aa X)(c:aA->aA->Int):Prop:=∀x y h U,aD P false f [.agg ⟨enc x⟩,.agg ⟨enc y⟩] h U (λv _ _=>v = .int .i64 (c x y))
theorem aqo{c:aA->aA->Int}(Z:∀x,ii (enc x)=true)(aU:Hz P Cm enc c)(C off I:Nat)(w:World):CmpLays P Cm #[] enc k c C off I w:=by
 intro m os aAB _ x y;generalize sortWorldK enc k w C off m aAB os=W;obtain⟨_,al⟩:=aU x y ic 0;have E:ee W.heap.size (λ_=>none) (u ic) W:=⟨cB _,λb p o h=>(by cases h),λb ck p eF h=>(by cases h),λb h=>by rw[KL]at h;cases h⟩
 have aI:dm (λ_=>none) [.agg ⟨enc x⟩,.agg ⟨enc y⟩] [.agg ⟨enc x⟩,.agg ⟨enc y⟩]:=.cons (.agg (Kj (Z x) _)) (.cons (.agg (Kj (Z y) _)) .nil);have:=callsIn_wide.1 (al W.heap.size _ W _ E (λb _=>rfl) aI 0);refine Calls.mono this ?_;rintro e bj ⟨v,ac,Y,bw,me,rfl,rfl,V,M⟩;have:me = .int .i64 (c x y):=CZ rfl V;subst this;exact⟨rfl,amY M.size M.os M.tape M.output λk hk=>M.frame k hk (by rintro⟨b,p,aG,_⟩;omega)⟩
def qZ(c:aA->aA->Int)(l:aa aA):aa aA:=(pdq (ltOf c) l.toArray 0 l.length (Lib.bitLen l.length) true true).toList
theorem PJ{c:aA->aA->Int}(j1:SWO (ltOf c))(l:aa aA):(qZ c l).length=l.length/\(qZ c l).Perm l/\(qZ c l).Pairwise (λx y=>¬c y x<0):=by
 have h:=pdq_sorts (ltOf c) j1 l.toArray 0 l.length (Lib.bitLen l.length) true true (Nat.zero_le _) (by simp) (Or.inl rfl);unfold qZ;generalize pdq (ltOf c) l.toArray 0 l.length (Lib.bitLen l.length) true true=R at *
 obtain⟨M,C⟩:=h;have Z:R.size=l.length:=by rw[M.1];simp
 refine⟨J,?_,?_⟩
 ·have aM:=M.2.2;have aY:R.extract 0 l.length=R:=ab
  grind
 ·rw[yE];intro i j ai bM E;have I:j<R.size:=J
  have da:i<R.size:=J
  have V:=C i j (Nat.zero_le _) E J;rw[getElem!_pos R i da,getElem!_pos R j I]at V;have bP:=OS V
  grind
theorem Qc(V:∀x,(enc x).length=k)(l:aa aA){t:Nat}(I:t<l.length*k):(a1 enc l)[t]? = some (flatK enc k l.toArray)[t]!:=by
 have E:0<k:=Nat.pos_of_ne_zero (λh=>ab);have M:t / k<l.length:=(OP E).2 I;have Z:=Az t E;rw[get_flatK _ _ _ _ J];have e:t=t / k*k+t % k:=by rw[yM];exact(Nat.div_add_mod t k).symm
 conv=>lhs;rw[e]
 have h1:(l.toArray)[t / k]! = l[t / k]:=ab
 have C:t % k<(enc l[t / k]).length:=ab
 rw[amX V (jU M) (jU C),h1]
 grind
theorem Q9(hl:ql P){s:ak}{c:aA->aA->Int}(L:SlLaysF0.n6 P Fp)(bx:Fp.f 6=f)(axM:C8 P f)(rn:C8 P Cm)(j1:SWO (ltOf c))(aBy:∀w,(isAgg (Fp.t 24)).run P w = .ok true w)(aBz:∀w,(Go.sizeOf (Fp.t 24)).run P w = .ok k w)(V:∀x,(enc x).length=k)(bv:∀x,ii (enc x)=true)(h1:∀x,∀v∈enc x,v.oneCell'=true)(aU:Hz P Cm enc c){n:Nat}{aO:av Nat}{l:aa aA}(sb:l.length=n)(bm:n<1000000)(tv:b<U)(ft:u h b=some (.cells (a1 enc l) false)):
  aD P s f [.slice (some ⟨b,0,aO⟩) n cap,.func (.func Cm) #[] #[]] h U (LB enc c l b U h):=by
 subst bx;obtain⟨lb,ky,kY⟩:=PJ j1 l;refine lz.up (v:=.tuple #[]) (ac:=F h b (.cells (a1 enc (qZ c l)) false)) (Y:=U) ⟨axM,λB ah w Z ba k6 dg aX=>callsIn_wide.2 ?_⟩ ⟨cB _,⟨_,ky,kY,by rw[AE,if_pos rfl]⟩,λc aU eg=>by rw[AE,if_neg eg]⟩;obtain⟨_,_,aR,ca,rfl⟩:∃x y,bE ah _ x/\bE ah _ y/\Z=[x,y]:=by
  cases dg with|cons aR dg=>cases dg with|cons ca dg=>cases dg;exact⟨_,_,aR,ca,rfl⟩
 cases CZ (ah:=ah) rfl ca;obtain⟨eo,bL,rfl,q5⟩:=aR.yU;have E:∀bj,(cE B ah (u h) w U U ah (u (F h b (.cells (a1 enc (qZ c l)) false))) bj)->Fin B ah h w U (uH (.tuple #[]) (F h b (.cells (a1 enc (qZ c l)) false)) U) (.returned (.tuple #[])) bj:=λbj hm=>⟨_,_,_,ah,_,rfl,⟨rfl,rfl,rfl⟩,.tuple .nil,hm⟩
 rcases As n with ap|ahb
 ·subst ap;have qh:l=[]:=Ak sb;have oS:qZ c l=[]:=Ak J;refine(AnyF.slices_SortFunc_none L eo bL _ w).mono ?_;rintro e bj ⟨rfl,rfl⟩;refine E _ ?_;have:u (F h b (.cells (a1 enc (qZ c l)) false))=u h:=funext λx=>by
   rw[AE]
   grind
  rw[this];exact cE.refl U ba
 ·obtain⟨p,aG,rfl⟩:∃p,ah b=some p/\eo=some ⟨p.ct,p.off+0,none⟩:=ab
  have HQ:=ba.obj b p _ aG ft;obtain⟨dZ,M,ge,ep,ao,ai,bN,hfz,C,ahc⟩:=HQ;have oW:=ga (enc:=enc) V l;have az7:l.length*k<=ge.size:=J
  have wj:∀t,t<l.length*k->ge[t]? = some (flatK enc k l.toArray)[t]!:=λt cy=>by obtain⟨dG,aY,aJ⟩:=C t _ (Qc V l cy);rw[ix]at aY;have pA:qW (flatK enc k l.toArray)[t]! = true:=Kr (F6 bv l) (jp (Qc V l cy));rw[aY,CZ pA aJ]
  have gh:HoldsK enc k w p.ct 0 l.toArray:=λt cy=>by
   have cy:t<l.length*k:=by simpa using cy
   refine⟨?_,?_⟩
   ·simp only[World.cell?,bN,ix,CO,nK,fc]
    grind
   ·simp only[World.frozen?,bN]
    grind
  have I:=AnyQ.slices_SortFunc_eq L k aBy aBz enc V h1 c j1 Cm #[] p.ct 0 bL l.toArray w (by obtain⟨fn,c4,eK,gX⟩:=rn;obtain⟨hn,lf⟩:=nJ.1 eK;exact enters_of c4 gX lf) (aqo bv aU _ _ _ _) gh (ba.obj b p _ aG ft).DB ab
  rw[show l.toArray.size=n by omega]at I;rw[M];refine Calls.mono I ?_;rintro e bj ⟨rfl,m,os,rfl⟩;refine E _ ?_;have bu:(pdq (ltOf c) l.toArray 0 n (Lib.bitLen n) true true)=(qZ c l).toArray:=by unfold qZ;grind
  rw[bu];unfold sortWorldK;generalize qZ c l=d at *
  have hdl:d.length*k=l.length*k:=by rw[lb]
  have U3:(putRowK enc k (Sort.ahead w m) p.ct 0 d.toArray).heap[p.ct]? = some (.cells (putCells id 0 (flatK enc k d.toArray) ge) ep (ao,ai)):=by simp[putRowK,putRow,mapBlock,Sort.ahead,JV,bN,onCells]
  have h3:(putCells id 0 (flatK enc k d.toArray) ge).size=ge.size:=by simp[putCells]
  have hfd:=ga (enc:=enc) V d;have hm1:cE B ah (u h) w U U ah (fs.put (u h) b (.cells (a1 enc d) false)) (putRowK enc k (Sort.ahead w m) p.ct 0 d.toArray):=by
   refine cE.change U ba aG ft dZ (by simp[putRowK,Sort.ahead]) (λx aR=>?_) rfl ⟨rfl,OZ _ _⟩ rfl ⟨dZ,M,_,ep,ao,ai,U3,J,λi v aI=>?_,J⟩
   ·simp[putRowK,putRow,mapBlock,Sort.ahead,JV,kE aR]
   ·have da:i<d.length*k:=ab
    have aY:=Qc V d da;rw[aI]at aY;refine⟨v,?_,FW (Kr (F6 bv d) (jp aI)) ah⟩;have hic:i<ge.size:=J
    simp[putCells,Array.getElem?_mapIdx,hic,da]
    grind
  rw[vy];exact hm1.trans (cE.still hm1.rel (by simp) rfl ⟨rfl,cB _⟩ rfl λk V=>heap_grow_old _ _ V)
theorem aa0{s:ak}(L:SlLaysF0.n6 P Fp)(bx:Fp.f 6=f)(I:C8 P f)(hk:K (.tuple #[]) h U):aD P s f [.slice none 0 0,.func (.func Cm) #[] #[]] h U K:=by
 subst bx;refine lz.up ⟨I,λB ah w C Z k6 E aX=>callsIn_wide.2 ?_⟩ hk;obtain⟨_,_,M,V,rfl⟩:∃x y,bE ah _ x/\bE ah _ y/\C=[x,y]:=by
  cases E with|cons M E=>cases E with|cons V E=>cases E;exact⟨_,_,M,V,rfl⟩
 cases M;refine(AnyF.slices_SortFunc_none L none 0 _ w).mono ?_;rintro e bj ⟨rfl,rfl⟩;exact⟨_,h,U,ah,_,rfl,⟨rfl,rfl,rfl⟩,.tuple .nil,cE.refl U Z⟩
end
structure GE where
 f:Nat
 t:Nat
 w:Int
structure pt (n:Nat) (es:aa GE) (s k i:Nat) (l:aa Int):Prop where
 len:l.length=n
 src:l[s]? = some 0
 jW:∀(v:Nat) (x:Int),l[v]? = some x->-1<=x/\x<=k+1
 zero:∀v:Nat,l[v]? = some 0->v=s
 pre:∀(v:Nat) (x:Int),l[v]? = some x->0<x->∃e∈es,e.t=v/\l[e.f]? = some (x-1)
 post:∀(j:Nat) (e:GE),es[j]? = some e->∀x,l[e.f]? = some x->0<=x->(x<k\/(x=k/\j<i))->∃y:Int,l[e.t]? = some y/\0<=y/\y<=x+1
theorem pt.skip{n:Nat}{es:aa GE}{s k:Nat}{l:aa Int}{e:GE}(h:pt n es s k i l)(bk:es[i]? = some e)(cy:e.t<n)(bm:¬(l[e.f]? = some (k:Int)/\l[e.t]? = some (-1))):pt n es s k (i+1) l :=
 ⟨h.len,h.src,h.jW,h.zero,h.pre,λj V C x Z M hor=>by
  by_cases hji:j<i
  ·exact h.post j V C x Z M J
  ·by_cases hxk:x<k
   ·exact h.post j V C x Z M J
   ·have E:j=i:=J
    subst E;rw[bk]at C;cases C;have I:x=k:=J
    subst I;have ci:e.t<l.length:=by rw[h.len];omega
    have ca:l[e.t]? = some l[e.t]:=ab
    have ba:=h.jW _ _ ca
    grind⟩
theorem pt.step{n:Nat}{es:aa GE}{s k:Nat}{l:aa Int}{e:GE}(h:pt n es s k i l)(bk:es[i]? = some e)(bx:l[e.f]? = some (k:Int))(cy:l[e.t]? = some (-1)):pt n es s k (i+1) (l.set e.t (k+1)):=by
 have E:∀v,(l.set e.t ((k:Int)+1))[v]? = if v=e.t then some ((k:Int)+1)else l[v]?:=ab
 have V:s≠e.t:=λaY=>by have:=h.src;grind
 refine⟨by rw[wI];exact h.len,by rw[E,if_neg V];exact h.src,λv x C=>?_,λv M=>?_,λv x C I=>?_,λj Z bM x C I hor=>?_⟩
 ·rw[E]at C
  split at C
  ·grind
  ·exact h.jW v x C
 ·rw[E]at M
  split at M
  ·grind
  ·exact h.zero v M
 ·rw[E]at C
  split at C
  ·grind
  ·obtain⟨Z,hm,ht',bg⟩:=h.pre v x C I
   grind
 ·rw[E]at C
  split at C
  ·grind
  ·by_cases aU:x<k\/(x=k/\j<i)
   ·obtain⟨y,ca,h1,al⟩:=h.post j Z bM x C I aU
    grind
   grind
theorem pt.next{n:Nat}{es:aa GE}{s k:Nat}{l:aa Int}(h:pt n es s k es.length l):pt n es s (k+1) 0 l :=
 ⟨h.len,h.src,λv x C=>by have:=h.jW v x C;omega,h.zero,h.pre,λj e V x C E I=>by
  have M:j<es.length:=ab
  exact h.post j e V x C E J⟩
theorem pt.init{n:Nat}{es:aa GE}{s:Nat}(ar:s<n):pt n es s 0 0 ((List.replicate n (-1)).set s 0):=by
 refine⟨by simp,ab,ab,ab,λv x C E=>?_,λj e M x C E I=>J⟩
 all_goals grind
theorem Yk{aA:Type}[DecidableEq aA]:∀(a b:aa aA),a.Nodup->(∀x∈a,x∈b)->a.length<=b.length
 | [],_,_,_=>ab
 |x::a,b,E,ar=>by
  have C:=List.nodup_cons.1 E;have:=Yk a (b.erase x) C.2 ab
  grind
structure n1 (n:Nat) (es:aa GE) (s:Nat) (l:aa Int):Prop where
 len:l.length=n
 src:l[s]? = some 0
 jW:∀(v:Nat) (x:Int),l[v]? = some x->-1<=x/\x<n
 zero:∀v:Nat,l[v]? = some 0->v=s
 pre:∀(v:Nat) (x:Int),l[v]? = some x->0<x->∃e∈es,e.t=v/\l[e.f]? = some (x-1)
 post:∀e∈es,∀x:Int,l[e.f]? = some x->0<=x->∃y:Int,l[e.t]? = some y/\0<=y/\y<=x+1
theorem ZE{es:aa GE}{l:aa Int}(C:∀(v:Nat) (x:Int),l[v]? = some x->0<x->∃e∈es,e.t=v/\l[e.f]? = some (x-1)):∀(m v:Nat),l[v]? = some (m:Int)->∀y,y<=m->(y:Int)∈l
 |0,v,I,y,M=>by
  have:y=0:=J
  subst this
  grind
 |m+1,v,I,y,M=>by
  by_cases e:y=m+1
  ·subst e;grind
  ·obtain⟨V,_,_,E⟩:=C v _ I J;have:((m+1:Nat):Int)-1=(m:Int):=J
   rw[this]at E;exact ZE C m V.f E y J
theorem pt.done{n:Nat}{es:aa GE}{s:Nat}{l:aa Int}(h:pt n es s n 0 l):n1 n es s l:=by
 have E:∀(v:Nat) (x:Int),l[v]? = some x->-1<=x/\x<n:=λv x C=>by
  have ba:=h.jW v x C;refine⟨ba.1,?_⟩
  by_cases V:x<0
  ·omega
  ·obtain⟨m,rfl⟩:=CK (by omega:0<=x);have M:=ZE h.pre m v C;have I:((List.range (m+1)).map (λy:Nat=>(y:Int))).Nodup:=by refine List.Pairwise.map _ ?_ (List.nodup_range );omega
   have:=Yk _ l I ab;simp only[g5,vk,h.len]at this;omega
 exact⟨h.len,h.src,E,h.zero,h.pre,λe Z x C V=>by obtain⟨j,bM⟩:=tS Z;exact h.post j e bM x C V ab⟩
theorem ait{aA:Type}{es:aa aA}{e x:aA}(C:es[i]? = some e):x∈es.take (i+1)↔x∈es.take i\/x=e:=by rw[gQ,C];simp
def bQ(e:GE):aa X:=[(e.f:X),(e.t:X),(e.w:X)]
def fy(n:Nat)(g:GE):Prop:=g.f<n/\g.t<n/\0<=g.w/\g.w<=2147483647
theorem acO{P:Program}{k:IntKind}{b:Int}(C:b≠0):bin P .rem t (.int k a) (.int k b) = .ok (.int k (a.tmod b)):=by rw[s7 _ _ _ _ _ rfl];show(bif fN b 0 then _ else _)=_;rw[lo,show(b == 0)=false by grind];rfl
theorem aqp{P:Program}{b:Int}:bin P .and t (a:X) (b:X) = .ok (.int .i64 (IntKind.wrap .i64 ((BitVec.ofInt 64 a &&& BitVec.ofInt 64 b).toNat))):=by rw[s7 _ _ _ _ _ rfl];rfl
theorem dX.form{aA:Type}{enc:aA->aa X}{k:Nat}{l:aa aA}(ar:dX h v enc k l ao ai):∃a n c,v = .slice a n c:=by
 rcases ar with⟨_,rfl⟩|⟨_,_,_,rfl,_⟩ <;> grind
theorem dX.T{aA:Type}{enc:aA->aa X}{k:Nat}{l:aa aA}(ar:dX h v enc k l ao ai)(I:∀b,ao<=b->b<ai->u ac b=u h b)(C:ai<=da):dX ac v enc k l ao da:=by
 rcases ar with ar|⟨b,h1,al,e,E⟩
 ·exact .inl ar
 ·exact .inr ⟨b,h1,J,e,ab⟩
set_option linter.defProp false
section
variable {P:Program}  {s:ak}
theorem tc{b:ak}{p q:Prop}:bJ (.bool b) p q↔(b=true->p)/\(b=false->q):=by
 cases b <;> simp[bJ]
theorem af5{b:kT}{h:ad}{U:Nat}{k:X->ad->Nat->Prop}:ey (.ok b) h U k↔k (xK U b) (F h U (tn b)) (U+1):=Iff.rfl
theorem Ms{v:X}{h:ad}{U:Nat}{k:X->ad->Nat->Prop}:dB (.val v h U) k↔k v h U:=Iff.rfl
theorem zk{f:FuncId}{l:aa X}{h:ad}{U:Nat}{k:X->ad->Nat->Prop}:gB P s (.call f l h U) k↔aD P s f l h U k:=Iff.rfl
theorem af6{f:ad->R X}{v:X}{p:Prop}{ar:aa ad}:py f v p 0 ar↔p:=Iff.rfl
theorem af7{f:ad->R X}{v:X}{p:Prop}{h:ad}{ar:aa ad}:py f v p 1 (h::ar)↔nT v (f h)=true/\p:=Iff.rfl
theorem af8{f:ad->R X}{v:X}{p:Prop}{h h1:ad}{ar:aa ad}:py f v p 2 (h::h1::ar)↔nT v (f h)=true/\nT v (f h1)=true/\p:=Iff.rfl
theorem af9{f:ad->R X}{v:X}{p:Prop}{h h1 al:ad}{ar:aa ad}:py f v p 3 (h::h1::al::ar)↔nT v (f h)=true/\nT v (f h1)=true/\nT v (f al)=true/\p:=Iff.rfl
def A1{eV:Type}(o:av fM)(k:aa X->ak->R eV):R eV:=match o with
 |some (.cells cs bC)=>k cs bC
 |some _=>.no "cells expected"
 |none=>.no "no such block"
theorem Ks{eV:Type}(h:ad)(b:Nat)(k:aa X->ak->R eV):cellsOf h b k=A1 (u h b) k:=by
 unfold cellsOf A1;cases u h b with
 |none=>rfl
 |some o=>cases o <;> rfl
theorem Gr{eV:Type}(cs:aa X)(bC:ak)(k:aa X->ak->R eV):A1 (some (.cells cs bC)) k=k cs bC:=rfl
theorem LX(C:av Nat)(h:ad)(a:Addr):im C h (.pointer (some a))=A1 (u h a.block) (λcs _=>hF C a.off cs):=Ks _ _ _
theorem acP(off b o:Nat)(aO:av Nat):xf off (.pointer (some ⟨b,o,aO⟩)) = .ok (.pointer (some ⟨b,o+off,none⟩)):=rfl
theorem Te(k:xJ)(x:X)(t:IntKind)(n:Nat):il k x (.int t (n:Int))=yS k x n:=rfl
theorem avI(k:xJ)(x:X)(t:IntKind):il k x (.int t 0)=yS k x 0:=rfl
theorem avJ(k:xJ)(x:X)(t:IntKind):il k x (.int t 1)=yS k x 1:=rfl
theorem acQ(a b:X):Ht (.bool true) a b = .ok a:=rfl
theorem acR(a b:X):Ht (.bool false) a b = .ok b:=rfl
theorem atz(h:ad)(n:Nat)(l:aa X)(a:Addr):Us h n l a=if l.length=n then qX h a.block a.off l else .no "store - size" := by
 unfold Us;rw[oB]
 by_cases e:l.length=n
 ·rw[if_pos e,e,tW];rfl
 ·rw[if_neg e];cases C:Nat.beq l.length n with
  |true=>exact absurd (g4 C) e
  |false=>rfl
theorem Qd{l:aa X}{n:Nat}(C:n+aE.length<=l.length):ng aE l n=some (l.take n++aE++l.drop (n+aE.length)):=by rw[t7,if_pos C,kB]
theorem Ki{l:aa X}(I:u h b=some (.cells cs false))(E:ec l=true)(C:off+l.length<=cs.length):qX h b off l = .ok (F h b (.cells (cs.take off++l++cs.drop (off+l.length)) false)):=by unfold qX;rw[Ks,I,Gr,E,Qd C];rfl
theorem aga(h:ad)(n:Nat)(a:Addr)(x:X):a7 h n (.pointer (some a)) x=if(c5 x).length=n then qX h a.block a.off (c5 x)else .no "store - size" := atz _ _ _ _
theorem ahf(x:X)(l:aa X):aQ (x::l) 0=x:=rfl
theorem ahg(x:X)(l:aa X)(i:Nat):aQ (x::l) (i+1)=aQ l i:=rfl
theorem atA(h:ad)(r:Nat):xv h (.map (some r))=lr h r (λes _=>jt .i64 (.ofNat (jJ es))):=rfl
theorem aeF(k:IntKind)(a b:Int):min2 true (.int k a) (.int k b) = .ok (.int k (min a b)):=by
 show(bif mI k k then jt k (bif lK b a then b else a)else _)=_;rw[wT,rS]
 by_cases h:b<a
 ·simp[h,jt,Int.min_def] <;> omega
 ·simp[h,jt,Int.min_def] <;> omega
theorem aeG(k:IntKind)(a b:Int):min2 false (.int k a) (.int k b) = .ok (.int k (max a b)):=by
 show(bif mI k k then jt k (bif lK a b then b else a)else _)=_;rw[wT,rS]
 by_cases h:a<b
 ·simp[h,jt,Int.max_def] <;> omega
 ·simp[h,jt,Int.max_def] <;> omega
theorem bq.mk{B:ob}{E:aa (Nat × aH)}{R:aH}(eI:Nat->aa X->ad->Nat->Prop)(m:Nat)(I:eI m aE h U)(ar:∀m aE h U,eI m aE h U->B aE h U (λaE h U=>∃C,C<m/\eI C aE h U) E R):bq B aE h U E R:=⟨eI,m,I,ar⟩
def mY:=And.intro @xk (And.intro @af4 (And.intro @tc (And.intro @af5 (And.intro @Ms (And.intro @zk (And.intro @af6 (And.intro @af7 (And.intro @af8 @af9))))))))
def fE:=And.intro @Q7 (And.intro @acF (And.intro @Lh (And.intro @acG (And.intro @acH (And.intro @acI (And.intro @acJ (And.intro @acK (And.intro @aeA (And.intro @aaV (And.intro @aeF @aeG))))))))))
def gJ:=And.intro @Gr (And.intro @LX (And.intro @acP (And.intro @Te (And.intro @avI (And.intro @avJ (And.intro @acQ (And.intro @acR (And.intro @aga (And.intro @Zt (And.intro @Zu (And.intro @YF (And.intro @YE (And.intro @XT (And.intro @GQ (And.intro @fd (And.intro @YG (And.intro @Zv (And.intro @aaT (And.intro @PG @aaU)))))))))))))))))))
def gq:=And.intro @ahf (And.intro @ahg (And.intro @acL (And.intro @acM (And.intro @Zz (And.intro @ZA (And.intro @aeC (And.intro @aaY (And.intro @aeD (And.intro @acN (And.intro @aeE (And.intro @ZB (And.intro @YK (And.intro @Yi (And.intro @ZC (And.intro @ZD @rM)))))))))))))))
end
abbrev fZ:=av Nat × Nat
def EI(s:fZ):X:=match s.1 with
 |none=>.slice none 0 0
 |some b=>.slice (some ⟨b,0,some 1⟩) s.2 s.2
def eA(s:fZ):aa X:=[EI s]
variable {eO:aa fZ}
theorem akI(s:fZ):ec (eA s)=true:=by
 obtain⟨b,n⟩:=s;cases b <;> rfl
def tw(l:aa fZ):aa X:=l.map EI
theorem Qe:∀l:aa fZ,a1 eA l=tw l
 | []=>rfl
 |x::l=>by show eA x++a1 eA l=_;rw[Qe l];rfl
theorem aqq{l:aa fZ}{x:fZ}(h:l[i]? = some x):(tw l)[i]? = some (EI x):=by simp[tw,h]
theorem acS(l:aa fZ):(tw l).length=l.length:=by simp[tw]
theorem aqr(l:aa fZ)(i:Nat)(x:fZ):(tw l).set i (EI x)=tw (l.set i x):=by simp[tw,FQ]
section
variable {aA:Type}
inductive fb (h:ad) (enc:aA->List Value) (k:Nat):Value->List aA->Option Nat->Prop where
 |nil:fb h enc k (.slice none 0 0) [] none
 |own {b:Nat} {l:List aA} (aG:u h b=some (.cells (a1 enc l) false)):fb h enc k (.slice (some ⟨b,0,some k⟩) l.length l.length) l (some b)
 |part {b o:Nat} {l:List aA} {cs:List Value} {bC:Bool} (aG:u h b=some (.cells cs bC)) (bg:o+l.length*k<=cs.length) (aU:(cs.drop o).take (l.length*k)=a1 enc l):fb h enc k (.slice (some ⟨b,o,none⟩) l.length l.length) l (some b)
theorem fb.T{enc:aA->aa X}{k:Nat}{l:aa aA}(g:fb h enc k v l o)(M:∀b,o=some b->u ac b=u h b):fb ac enc k v l o:=by
 cases g with
 |nil=>exact .nil
 |own I=>exact .own ab
 |part I E C=>exact .part (by rw[M _ rfl];omega) E C
theorem fb.lens{enc:aA->aa X}{k:Nat}{l:aa aA}(g:fb h enc k v l o):xu v = .ok (l.length:X):=by
 cases g <;> rfl
theorem acT(n:Nat):Nat.ble (n+1) n=false:=by
 cases C:Nat.ble (n+1) n with
 |false=>rfl
 |true=>have:=l6 C;omega
theorem fb.app{enc:aA->aa X}{k:Nat}(hk:∀x,(enc x).length=k)(M:∀x,ec (enc x)=true)(C:0<k){l:aa aA}(g:fb h enc k v l o){V:aa X}{xW:ak}{x:aA}(al:u h bO=some (.cells V xW))(aR:(V.drop dI).take k=enc x)(h3:(l.length+1)*k<=1000000):
  ∃ac,dv k h U v (.slice (some ⟨bO,dI,mK⟩) 1 r5) = .ok (.val (.slice (some ⟨U,0,some k⟩) (l.length+1) (l.length+1)) ac (U+1))/\u ac U=some (.cells (a1 enc (l++[x])) false) /\
   (∀c,c≠U->o≠some c->u ac c=u h c):=by
 have I:k<=V.length-dI:=ab
 have h1:l.length+1<=1000000:=hu (by have:=CL (l.length+1) C;omega) h3;have Z:(Nat.ble (Nat.mul (Nat.add l.length 1) k) 1000000&&Nat.ble (Nat.add l.length 1) 1000000)=true:=by
  simp only[eD,sU]
  grind
 cases g with
 |nil =>
  refine⟨F h U (.cells (enc x) false),?_,by simp[a1],ab⟩;unfold dv;simp only;rw[yO,tX,sX al C I,aR];unfold gt;rw[show Nat.ble (Nat.add 0 1) 0=false from rfl];have Z:(Nat.ble (Nat.mul (Nat.add 0 1) k) 1000000&&Nat.ble (Nat.add 0 1) 1000000)=true:=Z;rw[Z];exact pZ C
 | @own b _ aG =>
  refine⟨F (xq h b) U (.cells (a1 enc l++enc x) false),?_,by simp[sW],λc aU eg=>by rw[oV,if_neg aU,sh,if_neg (λe=>eg (by rw[e]))]⟩
  unfold dv;simp only;rw[yO,tX,sX al C I,aR];unfold gt;rw[show Nat.ble (Nat.add l.length 1) l.length=false from acT _,Z];show p5 h U k (some ⟨b,0,some k⟩) l.length l.length (l.length+1) (enc x)=_;unfold p5;simp only[vp aG];have E:nh (Nat.mul l.length k) (na (a1 enc l) 0)=some (a1 enc l):=by rw[rP,nO,qT,if_pos (by rw[ga hk];grind)];rw[pT (by rw[ga hk];grind)]
  rw[E];have ce:(!false&&Nat.beq 0 0&&Nat.beq (jJ (a1 enc l)) (Nat.mul l.length k)&&Nat.beq k k&&Nat.beq l.length l.length&&ec (enc x))=true:=by rw[oB,ga hk,M];simp
  show(bif _ then _ else _)=_;rw[ce,kk];exact pZ C
 | @part b o _ cs bC aG bg aU =>
  refine⟨F h U (.cells (a1 enc l++enc x) false),?_,by simp[sW],ab⟩;unfold dv;simp only;rw[yO,tX,sX al C I,aR];unfold gt;rw[show Nat.ble (Nat.add l.length 1) l.length=false from acT _,Z];unfold p5;simp only[vp aG];have E:nh (Nat.mul l.length k) (na cs o)=some (a1 enc l):=by
   rw[rP,qT,if_pos ab]
   grind
  rw[E];show p4 h U k (k3 (a1 enc l) (enc x)) _=_;rw[kk];exact pZ C
end
theorem dk{aA:Type}{l:aa aA}(h:i<l.length):∃x,l[i]? = some x:=⟨_,jU h⟩
section
variable {eV:Type}
end
structure ro (h:ad) (aP ao ai:Nat) (eO:aa fZ) (iM:aa (aa Nat)):Prop where
 at_:u h aP=some (.cells (tw eO) false)
 BS:aP<ai
 len:eO.length=iM.length
 each:∀(j:Nat) (s:fZ) (g:aa Nat),eO[j]? = some s->iM[j]? = some g->(g=[]/\s=(none,0))\/∃b,ao<=b/\b<ai/\s=(some b,g.length)/\u h b=some (.cells (fx (fe g)) false)
 apart:∀(j k b Ac Ad:Nat),eO[j]? = some (some b,Ac)->eO[k]? = some (some b,Ad)->j=k
 other:∀(j Ac:Nat),eO[j]?≠some (some aP,Ac)
theorem ro.T{aP:Nat}(L:ro h aP ao ai eO iM)(C:u ac aP=u h aP)(hk:∀b,ao<=b->b<ai->u ac b=u h b)(V:ai<=da):ro ac aP ao da eO iM where
 at_:=by rw[C];exact L.at_
 BS:=by have:=L.BS;omega
 len:=L.len
 each:=λj s g ar E=>by
  rcases L.each j s g ar E with Z|⟨b,I,M,e,aG⟩
  all_goals grind
 apart:=L.apart
 other:=L.other
theorem ro.below{aP:Nat}(L:ro h aP ao ai eO iM){Z:Nat}(V:eO[j]? = some (some b,Z)):ao<=b/\b<ai:=by
 have E:iM[j]? = some (iM[j]'(by rw[<-L.len];grind)):=ab
 rcases L.each j _ _ V E with⟨_,C⟩|⟨ck,I,M,C,aG⟩
 all_goals grind
theorem ro.ho{aP:Nat}(L:ro h aP ao ai eO iM){s:fZ}(ar:eO[j]? = some s)(E:iM[j]? = some g):fb h cG 1 (EI s) (fe g) s.1:=by
 rcases L.each j s g ar E with⟨rfl,rfl⟩|⟨b,C,I,rfl,M⟩
 ·exact .nil
 ·have:=fb.own  (k:=1)    (by rw[h2];omega);rwa[kG]at this
theorem ro.add{aP q v:Nat}{s:fZ}(L:ro h aP ao U eO iM)(qj:ao<=U)(M1:U<Y)(ar:eO[q]? = some s)(a5:iM[q]? = some g)(aN:u ac U=some (.cells (fx (fe (g++[v]))) false))(V:∀c,c<U->s.1≠some c->u ac c=u h c):
  u ac aP=some (.cells (tw eO) false)/\ro (F ac aP (.cells (tw (eO.set q (some U,g.length+1))) false)) aP ao Y (eO.set q (some U,g.length+1)) (iM.set q (g++[v])):=by
 have cz:=ajr ar;have Z:=L.BS;have axN:=V aP Z (λe=>by obtain⟨lb,ky⟩:=s;have e:lb=some aP:=e;subst e;exact L.other q ky ar)
 refine⟨axN.trans L.at_,⟨by simp,J,by simp[L.len],λj lY cb C E=>?_,λj k b Ac Ad bM hk=>?_,λj Ac bM=>?_⟩⟩
 ·rw[qP]at C E
  by_cases I:q=j
  ·subst I;rw[if_pos rfl,if_pos cz]at C;rw[if_pos rfl,if_pos ab]at E;cases C;cases E;exact ab
  ·rw[if_neg I]at C E;rcases L.each j lY cb C E with ap|⟨b,hy,Z,rfl,aG⟩
   ·grind
   ·refine .inr ⟨b,hy,J,rfl,?_⟩;have wg:b≠aP:=λe=>by subst e;exact L.other j _ C
    rw[oV,if_neg wg,V b J λe=>by obtain⟨lb,ky⟩:=s;have e:lb=some b:=e;subst e;exact I (L.apart q j b _ _ ar C)]
    omega
 ·have get:∀(j n:Nat),(eO.set q (some U,g.length+1))[j]? = some (some b,n)->(j=q/\b=U)\/(j≠q/\eO[j]? = some (some b,n)):=ab
  rcases get j Ac bM with⟨rfl,aY⟩|⟨_,EJ⟩
  ·rcases get k Ad hk with⟨rfl,_⟩|⟨_,M⟩
   ·rfl
   ·have:=(L.below M).2;omega
  ·rcases get k Ad hk with⟨rfl,aY⟩|⟨_,M⟩
   ·have:=(L.below EJ).2;omega
   ·exact L.apart j k b Ac Ad EJ M
 ·rw[qP]at bM
  by_cases I:q=j
  ·grind
  ·rw[if_neg I]at bM;exact L.other j Ac bM
section
variable {P:Program}  {s:ak}
theorem cn(h:i<1000000000000):IntKind.wrap .i64 ((i:Int)+1)=((i+1:Nat):Int):=by rw[DW J J];simp
theorem aN(h:ad)(b:Nat)(o:fM):u (F h b o) b=some o:=by rw[oV,if_pos rfl]
theorem aq{h:ad}{b c:Nat}{o:fM}(e:c≠b):u (F h b o) c=u h c:=by rw[oV,if_neg e]
theorem akJ(l:aa X):GI l=if ec l=true then .ok (.ptr (.cells l false))else .no "cells" := by
 unfold GI
 grind
theorem aiU(x:X)(l:aa X):ec (x::l)=(hv x&&ec l):=by rw[rM]
theorem ZF(l:aa X)(a b:Nat):wY l a b=if ec l=true then .ok (.slice (.cells l false) a b)else .no "cells" := by
 unfold wY
 grind
theorem TV{t:IntKind}{n i b o cap z:Nat}{aO:av Nat}(ai:i<n):il (.slice z) (.slice (some ⟨b,o,aO⟩) n cap) (.int t (i:Int)) = .ok (.pointer (some ⟨b,o+i*z,none⟩)):=by rw[Te,Zt,if_pos ai]
theorem TW{t:IntKind}{n i b o z:Nat}{aO:av Nat}(ai:i<n):il (.array n z) (.pointer (some ⟨b,o,aO⟩)) (.int t (i:Int)) = .ok (.pointer (some ⟨b,o+i*z,none⟩)):=by rw[Te,Zu,if_pos ai]
theorem avK{t:IntKind}{n b o cap z:Nat}{aO:av Nat}(ai:0<n):il (.slice z) (.slice (some ⟨b,o,aO⟩) n cap) (.int t 0) = .ok (.pointer (some ⟨b,o,none⟩)):=by
 have:=TV (t:=t) (b:=b) (o:=o) (cap:=cap) (aO:=aO) (z:=z)  ai
 grind
theorem avL{t:IntKind}{n b o z:Nat}{aO:av Nat}(ai:0<n):il (.array n z) (.pointer (some ⟨b,o,aO⟩)) (.int t 0) = .ok (.pointer (some ⟨b,o,none⟩)):=by
 have:=TW (t:=t) (b:=b) (o:=o) (aO:=aO) (z:=z)  ai
 grind
theorem avM{t:IntKind}{n b o cap z:Nat}{aO:av Nat}(ai:1<n):il (.slice z) (.slice (some ⟨b,o,aO⟩) n cap) (.int t 1) = .ok (.pointer (some ⟨b,o+z,none⟩)):=by
 have:=TV (t:=t) (b:=b) (o:=o) (cap:=cap) (aO:=aO) (z:=z)  ai
 grind
theorem avN{t:IntKind}{n b o z:Nat}{aO:av Nat}(ai:1<n):il (.array n z) (.pointer (some ⟨b,o,aO⟩)) (.int t 1) = .ok (.pointer (some ⟨b,o+z,none⟩)):=by
 have:=TW (t:=t) (b:=b) (o:=o) (aO:=aO) (z:=z)  ai
 grind
def jg(o:av fM)(h:ad)(b off:Nat)(l:aa X):R ad:=match o with
 |some (.cells cs false)=>bif ec l then R.of "write - out of block" (ng l cs off) (λcs=>.ok (F h b (.cells cs false)))else .no "write - cells"
 |_=>.no "write"
theorem avO{h:ad}{n:Nat}{a:Addr}{x:X}{k:ad->Prop}:ag (a7 h n (.pointer (some a)) x) k↔(c5 x).length=n/\ag (jg (u h a.block) h a.block a.off (c5 x)) k:=by
 rw[aga]
 by_cases C:(c5 x).length=n
 case neg=>rw[if_neg C];exact⟨λh=>h.elim,λh=>C h.1⟩
 rw[if_pos C];refine Iff.trans ?_ (and_iff_right C).symm;unfold qX jg;rw[Ks];cases u h a.block with
 |none=>exact Iff.rfl
 |some o =>
  cases o with
  |cells cs bC =>
   rw[Gr];cases bC with
   |true=>exact Iff.rfl
   |false=>grind
  |_=>exact Iff.rfl
theorem avP{h:ad}{b off:Nat}{cs:aa X}{v:X}{k:ad->Prop}:ag (jg (some (.cells cs false)) h b off [v]) k↔hv v=true/\off<cs.length/\k (F h b (.cells (cs.set off v) false)):=by
 show ag (bif ec [v]then R.of _ (ng [v] cs off) _ else _) k↔_;rw[rM,t7];cases E:hv v with
 |false=>exact⟨λh=>h.elim,λh=>by cases h.1⟩
 |true =>
  by_cases C:off<cs.length
  ·rw[if_pos ab,XN,if_pos C];exact⟨λh=>⟨rfl,C,h⟩,λh=>h.2.2⟩
  ·rw[if_neg ab];exact⟨λh=>h.elim,λh=>C h.2.1⟩
theorem A2{l:aa X}{k:ad->Prop}:ag (jg (some (.cells cs false)) h b off l) k↔ec l=true/\off+l.length<=cs.length/\k (F h b (.cells (cs.take off++l++cs.drop (off+l.length)) false)):=by
 show ag (bif ec l then R.of _ (ng l cs off) _ else _) k↔_;rw[t7];cases E:ec l with
 |false=>exact⟨λh=>h.elim,λh=>by cases h.1⟩
 |true =>
  by_cases C:off+l.length<=cs.length
  ·rw[if_pos C,<-kB];exact⟨λh=>⟨rfl,C,h⟩,λh=>h.2.2⟩
  ·rw[if_neg C];exact⟨λh=>h.elim,λh=>C h.2.1⟩
theorem avQ{h:ad}{b:Nat}{cs l:aa X}{x y:X}{k:ad->Prop}:ag (jg (some (.cells cs false)) h b 0 (x::y::l)) k↔ec (x::y::l)=true/\(x::y::l).length<=cs.length/\k (F h b (.cells (x::y::l++cs.drop (x::y::l).length) false)):=by rw[A2];simp
theorem LY{l:aa X}(E:ec l=true)(C:off+l.length<=cs.length):jg (some (.cells cs false)) h b off l = .ok (F h b (.cells (cs.take off++l++cs.drop (off+l.length)) false)):=by show(bif ec l then R.of _ (ng l cs off) _ else _)=_;rw[Qd C,E];rfl
theorem atB(t:TypeId)(v:X):c5 (.iface t v)=[.iface t v]:=rfl
theorem atC(r:av Nat):c5 (.map r)=[.map r]:=rfl
theorem avR(f:Fn)(a b:Array X):c5 (.func f a b)=[.func f a b]:=rfl
theorem avS:c5 .nilFunc=[.nilFunc]:=rfl
theorem akK(r:av Nat):hv (.map r)=true:=rfl
theorem ajs(f:Fn)(a b:Array X):hv (.func f a b)=true:=rfl
theorem amZ:hv .nilFunc=true:=rfl
theorem aqs(U:Nat):xK U .map = .map (some U):=rfl
theorem aqt:tn .map = .map [] 0:=rfl
theorem akL(c:aa X):pk [] c = .ok c:=rfl
theorem aqu(off z:Nat)(x:X)(C:aa (Nat × Nat × X))(c:aa X):pk ((off,z,x)::C) c=qY (pk C) off z (c5 x) c:=rfl
theorem Qf{E:aa X->R (aa X)}{off:Nat}{v:X}{c:aa X}:qY E off 1 [v] c=if off<c.length then E (c.set off v)else .no "fill" := by
 show(bif Nat.beq (jJ [v]) 1 then R.of "fill" (ng [v] c off) E else _)=_;rw[oB,t7]
 by_cases C:off<c.length
 ·rw[if_pos C,if_pos ab,XN,if_pos C];rfl
 ·rw[if_neg C,if_neg ab];rfl
theorem KN{C:aa X->R (aa X)}{n:Nat}{l:aa X}(E:l.length=n)(I:off+n<=c.length):qY C off n l c=C (c.take off++l++c.drop (off+n)):=by show(bif Nat.beq (jJ l) n then R.of "fill" (ng l c off) C else _)=_;rw[oB,E,tW,Qd J,E];rfl
theorem atD(z:aa X)(bW:aa (Nat × Nat × X)):c8 z bW=R.bind (pk bW z) (λl=>.ok (.agg ⟨l⟩)):=rfl
theorem atE(n:Nat)(z:aa X)(bW:aa (Nat × Nat × X)):fU n z bW=R.bind (pk bW z) (λl=>wY l n n):=rfl
theorem ajt{n off:Nat}{x:X}{cs:aa X}:hF (some n) off (x::cs)=if n<=(x::cs).length-off then .ok (.agg ⟨((x::cs).drop off).take n⟩)else .no "load - out of block" := qR n off (x::cs)
theorem rX{c2:Nat}{l:aa Int}{x:Int}{k:X->ad->Nat->Prop}(g:fb h cG 1 v l o)(al:u h bO=some (.cells [(x:X)] bC))(I:l.length<1000000)(M:∀ac,u ac U=some (.cells (fx (l++[x])) false)->(∀c,c≠U->o≠some c->u ac c=u h c)->k (.slice (some ⟨U,0,some 1⟩) (l.length+1) (l.length+1)) ac (U+1)):
  dB (dS (dv 1 h U v (.slice (some ⟨bO,0,mK⟩) 1 c2))) k:=by obtain⟨ac,e,C,E⟩:=g.app (k:=1) (λ_=>rfl) (λ_=>rfl) Nat.zero_lt_one  (dI:=0)   al  rfl J;rw[h2]at C;rw[e];exact M ac C E
theorem aqv(n:Nat)(z:aa X):hg n z=(List.replicate n z).flatten:=by
 induction n with
 |zero=>rfl
 |succ n C=>show k3 z (hg n z)=_;rw[kk,C,FG,List.flatten_cons]
theorem am0(n:Nat)(v:X):hg n [v]=List.replicate n v:=by
 induction n with
 |zero=>rfl
 |succ n C=>show k3 [v] (hg n [v])=_;rw[kk,C];rfl
theorem akM{n:Nat}(h:hv v=true):ec (List.replicate n v)=true:=by
 induction n with
 |zero=>rfl
 |succ n C=>rw[FG,rM,h,C];rfl
theorem Tf{n:Nat}{t:IntKind}(E:n<=100000)(C:hv v=true):xt [v] (.int t (n:Int)) (.int mX (n:Int)) = .ok (.slice (.cells (List.replicate n v) false) n n):=by show(bif Nat.ble n n&&Nat.ble n 100000 then wY (hg n [v]) n n else _)=_;rw[show(Nat.ble n n&&Nat.ble n 100000)=true by simp[E],am0];show wY _ _ _=_;rw[ZF,if_pos (akM C)]
theorem avT{n:Nat}{t mX:IntKind}{x:Int}{C:IntKind}(E:n<=100000):xt [.int C x] (.int t (n:Int)) (.int mX (n:Int)) = .ok (.slice (.cells (List.replicate n (.int C x)) false) n n):=Tf E rfl
theorem avU{n:Nat}{t mX:IntKind}{c d:Nat}(C:n<=100000):xt [.slice none c d] (.int t (n:Int)) (.int mX (n:Int)) = .ok (.slice (.cells (List.replicate n (.slice none c d)) false) n n):=Tf C rfl
theorem avV{n:Nat}{t mX:IntKind}{b:ak}(C:n<=100000):xt [.bool b] (.int t (n:Int)) (.int mX (n:Int)) = .ok (.slice (.cells (List.replicate n (.bool b)) false) n n):=Tf C rfl
theorem aqw(k:IntKind)(n:Int):nT (.int k n) (.ok (.int k n))=true:=rN k n
theorem aqx(b:ak):nT (.bool b) (.ok (.bool b))=true:=yT b
theorem aqy(a:Addr)(n c:Nat):nT (.slice (some a) n c) (.ok (.slice (some a) n c))=true:=tY a n c
theorem aqz(n c:Nat):nT (.slice none n c) (.ok (.slice none n c))=true:=by simp[nT,mz,q3]
theorem aqA(a:av Addr)(n c:Nat):nT (.slice a n c) (.ok (.slice a n c))=true:=tY a n c
theorem aqB(a:Addr):nT (.pointer (some a)) (.ok (.pointer (some a)))=true:=Yj a
theorem am1{C:aa X->R (aa X)}{off:Nat}{x y:X}{c:aa X}:qY C off 2 [x,y] c=if off+2<=c.length then C (c.take off++x::y::c.drop (off+2))else .no "fill" := by
 by_cases h:off+2<=c.length
 ·rw[if_pos h,KN (n:=2)  rfl h];simp
 ·rw[if_neg h];show(bif Nat.beq (jJ [x,y]) 2 then R.of "fill" (ng [x,y] c off) C else _)=_;rw[t7,if_neg J];rfl
theorem am2{C:aa X->R (aa X)}{off:Nat}{x y z:X}{c:aa X}:qY C off 3 [x,y,z] c=if off+3<=c.length then C (c.take off++x::y::z::c.drop (off+3))else .no "fill" := by
 by_cases h:off+3<=c.length
 ·rw[if_pos h,KN (n:=3)  rfl h];simp
 ·rw[if_neg h];show(bif Nat.beq (jJ [x,y,z]) 3 then R.of "fill" (ng [x,y,z] c off) C else _)=_;rw[t7,if_neg J];rfl
theorem am3{C:aa X->R (aa X)}{off:Nat}{x y z w:X}{c:aa X}:qY C off 4 [x,y,z,w] c=if off+4<=c.length then C (c.take off++x::y::z::w::c.drop (off+4))else .no "fill" := by
 by_cases h:off+4<=c.length
 ·rw[if_pos h,KN (n:=4)  rfl h];simp
 ·rw[if_neg h];show(bif Nat.beq (jJ [x,y,z,w]) 4 then R.of "fill" (ng [x,y,z,w] c off) C else _)=_;rw[t7,if_neg J];rfl
theorem acU{h:ad}{U:Nat}{f:FuncId}{aE a b:aa X}:jc h U aE (.func (.func f) ⟨a⟩ ⟨b⟩) = .call f (a++(aE++b)) h U:=by show ff.call f (k3 a (k3 aE b)) h U=_;rw[kk,kk]
theorem avW{P:Program}{s:ak}{f:FuncId}{aE:aa X}{h:ad}{U:Nat}{k:X->ad->Nat->Prop}:gB P s (jc h U aE (.func (.func f) #[] #[])) k↔aD P s f aE h U k:=by rw[acU,tU,hM];exact Iff.rfl
theorem aqC(l:aa X):nT (.agg ⟨l⟩) (.ok (.agg ⟨l⟩))=q4 l l:=rfl
theorem aqD(k:IntKind)(n:Int):q3 (.int k n) (.int k n)=true:=rN k n
theorem aqE(a:av Addr)(n c:Nat):q3 (.slice a n c) (.slice a n c)=true:=tY a n c
theorem aqF(b:ak):q3 (.bool b) (.bool b)=true:=yT b
def W6:=And.intro @xk (And.intro @af4 (And.intro @tc (And.intro @af5 (And.intro @Ms (And.intro @Bool.true_and (And.intro @Bool.not_false (And.intro @Bool.not_true (And.intro @Bool.false_eq_true (And.intro @Bool.true_eq_false (And.intro @false_implies (And.intro @true_implies (And.intro @acS (And.intro @ints_set (And.intro @zk (And.intro @af6 (And.intro @af7 (And.intro @af8 (And.intro @af9 (And.intro @Q7 (And.intro @acF (And.intro @Lh (And.intro @acG (And.intro @acH (And.intro @acI (And.intro @acJ (And.intro @acK (And.intro @aeA (And.intro @aaV (And.intro @aeF (And.intro @aeG (And.intro @ahf (And.intro @ahg (And.intro @acL (And.intro @acM (And.intro @Zz (And.intro @ZA (And.intro @aeC (And.intro @aaY (And.intro @aeD (And.intro @acN (And.intro @aeE (And.intro @ZB (And.intro @YK (And.intro @Yi (And.intro @ZC (And.intro @ZD (And.intro @aiU (And.intro @aN (And.intro @aq (And.intro @akJ (And.intro @ZF (And.intro @TV (And.intro @TW (And.intro @avK (And.intro @avL (And.intro @avM (And.intro @avN (And.intro @avO (And.intro @avP (And.intro @avQ (And.intro @atB (And.intro @atC (And.intro @avS (And.intro @avR (And.intro @akK (And.intro @ajs (And.intro @amZ (And.intro @aqs (And.intro @aqt (And.intro @akL (And.intro @aqu (And.intro @Qf (And.intro @atD (And.intro @atE (And.intro @ajt (And.intro @avT (And.intro @avU (And.intro @avV (And.intro @aqw (And.intro @aqx (And.intro @aqy (And.intro @aqz (And.intro @Gr (And.intro @LX (And.intro @acP (And.intro @acQ (And.intro @acR (And.intro @YF (And.intro @YE (And.intro @XT (And.intro @GQ (And.intro @fd (And.intro @YG (And.intro @Zv (And.intro @aaT (And.intro @PG (And.intro @aaU (And.intro (@List.getElem?_cons_zero X) (And.intro (@List.getElem?_cons_succ X) (And.intro (@List.drop_zero X) (And.intro (@List.drop_succ_cons X) (And.intro (@List.take_zero X) (And.intro (@List.take_succ_cons X) (And.intro (@List.set_cons_zero X) (And.intro (@List.set_cons_succ X) (And.intro @Nat.zero_add (And.intro @Nat.add_zero (And.intro @Nat.mul_one (And.intro (@List.length_cons X) (And.intro (@List.length_nil X) (And.intro (@List.append_nil X) (And.intro (@List.nil_append X) (And.intro (@List.cons_append X) (And.intro (@List.drop_nil X) (And.intro @Bool.and_self (And.intro @Bool.and_true (And.intro @AK (And.intro @true_and (And.intro @and_true (And.intro @decide_eq_true_eq (And.intro @decide_eq_false_iff_not (And.intro @Bool.not_eq_true' (And.intro @Bool.not_eq_false' (And.intro @Int.ofNat_lt (And.intro @aqA (And.intro @aqB (And.intro @am1 (And.intro @am2 (And.intro @am3 (And.intro @acU (And.intro @avW (And.intro @Nat.le_refl (And.intro @aqC (And.intro @ajq (And.intro @akH (And.intro @rN (And.intro @yT (And.intro @tY (And.intro @aqD (And.intro @aqE (And.intro @aqF (@Decidable.not_not))))))))))))))))))))))))))))))))))))))))))))))))))))))))))))))))))))))))))))))))))))))))))))))))))))))))))))))))))))))))))))))))))))))))))))))
end
theorem agb{n:Nat}{a:Addr}(M:0<n)(C:n<=cap)(I:xL (some a)=false):
  iY z (.slice (some a) n cap) (some (.int .i64 1)) (some (n:X)) (some (n:X)) = .ok (.slice (some ⟨a.block,if n=1 then a.off else a.off+z,none⟩) (n-1) (n-1)):=by
 show oD z (some a) cap true n n 1=_;unfold oD;rw[show(Nat.ble n cap&&(Nat.ble n n&&Nat.ble 1 n))=true by simp[C];omega];unfold vI
 by_cases h:n=1
 ·subst h;rw[if_pos rfl];show(bif AO (some a)&&!true then _ else bif xL (some a)then _ else _)=_;rw[I];simp[GJ]
 ·rw[if_neg h];rw[show Nat.beq n 1=false by
   cases E:Nat.beq n 1 with
   |true=>exact absurd (g4 E) h
   |false=>rfl]
  simp[GJ]
theorem fb.head{x:Int}{l:aa Int}(g:fb h cG 1 v (x::l) o):∃b off aO cs bC E,v = .slice (some ⟨b,off,aO⟩) (l.length+1) (l.length+1)/\o=some b/\u h b=some (.cells cs bC)/\cs[off]? = some (x:X) /\
  iY 1 v (some (.int .i64 1)) (some (((l.length+1:Nat):X))) (some (((l.length+1:Nat):X))) = .ok E/\fb h cG 1 E l (some b):=by
 have I:∀(b off:Nat) (aO:av Nat) (cs:aa X) (bC:ak),xL (some ⟨b,off,aO⟩)=false->u h b=some (.cells cs bC)->off+(l.length+1)<=cs.length->(cs.drop off).take (l.length+1)=fx (x::l) ->
   cs[off]? = some (x:X)/\∃E,iY 1 (.slice (some ⟨b,off,aO⟩) (l.length+1) (l.length+1)) (some (.int .i64 1)) (some (((l.length+1:Nat):X))) (some (((l.length+1:Nat):X))) = .ok E/\fb h cG 1 E l (some b):=λb off aO cs bC cX C bg M=>by
  refine⟨?_,_,agb J J cX,?_⟩
  ·have:((cs.drop off).take (l.length+1))[0]? = some (x:X):=by rw[M];rfl
   grind
  ·show fb h cG 1 (.slice (some ⟨b,if l.length+1=1 then off else off+1,none⟩) (l.length+1-1) (l.length+1-1)) l (some b);rw[show l.length+1-1=l.length by omega]
   by_cases Z:l.length+1=1
   ·rw[if_pos Z];have:l=[]:=ab
    subst this;exact fb.part   C J (by simp[a1])
   ·rw[if_neg Z];refine fb.part   C (by omega) ?_;rw[h2,FT,<-yK];have:=congrArg (List.drop 1) M;rw[FM]at this;simpa[fx]using this
 cases g with
 | @own b _ C =>
  rw[h2]at C;obtain⟨h1,E,al,V⟩:=I b 0 (some 1) _ _ rfl C (by simp[AK]) (by rw[nO,pT (by simp[AK])]);exact⟨b,0,some 1,_,_,E,rfl,rfl,C,h1,al,V⟩
 | @part b o _ cs bC C bg M =>
  rw[h2]at M;obtain⟨h1,E,al,V⟩:=I b o none _ _ rfl C ab ab;exact⟨b,o,none,_,_,E,rfl,rfl,C,h1,al,V⟩
theorem aD.BT{P:Program}(I:ql P){s:ak}{C:Prop}(E:aa (aa Nat))(w:C)(e:nD P s E f args h U K=C):aD P s f args h U K:=aD.oU I E (by rw[e];exact w)
def ae(n:Int):X:=(n:X)
def aS:X:=.slice none 0 0
def b4(n:Nat)(x:X)(k:X->Prop):Prop:=ag (xf n x) k
def dc(h:ad)(x:X)(k:X->Prop):Prop:=ag (im none h x) k
def a4(n:Nat)(h:ad)(x:X)(k:X->Prop):Prop:=ag (im (some n) h x) k
def f3(n:Nat)(x i:X)(k:X->Prop):Prop:=ag (il (.slice n) x i) k
def cQ(x:X)(k:X->Prop):Prop:=ag (xu x) k
def eX(y v:X)(p:Prop)(n:Nat)(l:aa ad):Prop:=py (λh=>im none h y) v p n l
def kZ(z:Nat)(y v:X)(p:Prop)(n:Nat)(l:aa ad):Prop:=py (λh=>im (some z) h y) v p n l
def cJ(l:aa X)(h:ad)(U:Nat)(k:X->ad->Nat->Prop):Prop:=ey (.ok (.ptr (.cells l false))) h U k
def cK(t:X)(h:ad)(U:Nat)(k:X->ad->Nat->Prop):Prop:=ey (GI (c5 t)) h U k
theorem qS{aA:Type}{l:aa aA}{x:aA}(h:l[i]? = some x):i<l.length:=ab
theorem Dm{aA:Type}{l:aa aA}{x d:aA}(h:l[i]? = some x):l.getD i d=x:=ab
structure lu (n:Nat) (es:aa GE) (L:aa Nat):Prop where
 len:L.length=n
 Eb:∀e∈es,L[e.f]? = L[e.t]?
 le:∀(v x:Nat),L[v]? = some x->x<=v
 mL:∀(c:Nat->Nat),(∀e∈es,c e.f=c e.t)->∀(v x:Nat),L[v]? = some x->c x=c v
theorem lu.agc{n:Nat}{es:aa GE}{B:aa Nat}(E:lu n es A)(I:lu n es B){v x y:Nat}(M:A[v]? = some x)(C:B[v]? = some y):y<=x:=by
 have h1:=E.mL (λaT=>B.getD aT 0) (λe V=>by simp[List.getD,I.Eb e V]) v x M;have aI:=qS C;have Z:=E.le v x M;have al:B[x]? = some B[x]:=ab
 have h1:B.getD x 0=B.getD v 0:=h1;rw[Dm al,Dm C]at h1;have:=I.le x _ al;omega
theorem lu.unique{n:Nat}{es:aa GE}{B:aa Nat}(C:lu n es A)(I:lu n es B):A=B:=by
 refine nL λv=>?_;cases M:A[v]? with
 |none =>
  cases E:B[v]? with
  |none=>rfl
  |some y=>have:=qS E;rw[I.len,<-C.len]at this;grind
 |some x =>
  cases E:B[v]? with
  |none=>have:=qS M;rw[C.len,<-I.len]at this;grind
  |some y =>
   have h1:=C.agc I M E;have al:=I.agc C E M
   grind
theorem lu.own{n:Nat}{es:aa GE}{A:aa Nat}(C:lu n es A){v x:Nat}(I:A[v]? = some x):A[x]? = some x:=by
 have h1:=C.mL (λaT=>A.getD aT 0) (λe E=>by simp[List.getD,C.Eb e E]) v x I
 grind
inductive gk (f:List Nat):Nat->Nat->Prop
 |here {v:Nat} (h:f[v]? = some v):gk f v v
 |up {v aT r:Nat} (h:f[v]? = some aT) (bm:aT≠v) (t:gk f aT r):gk f v r
def q0(n:Nat)(f:aa Nat):Prop:=f.length=n/\∀(v x:Nat),f[v]? = some x->x<=v
theorem gk.BU{f:aa Nat}{v C:Nat}(h:gk f v r)(ac:gk f v C):r=C:=by
 induction h with
 |here h =>
  cases ac with
  |here _=>rfl
  |up al E _=>grind
 |up h E _ I =>
  cases ac with
  |here al=>grind
  |up al _ t=>grind
theorem gk.is{f:aa Nat}{v:Nat}(h:gk f v r):f[r]? = some r:=by
 induction h with
 |here h=>exact h
 |up _ _ _ C=>omega
theorem gk.le{n:Nat}{f:aa Nat}(C:q0 n f){v:Nat}(h:gk f v r):r<=v:=by
 induction h with
 |here h=>omega
 |up h _ _ E=>exact hu E (C.2 _ _ h)
theorem q0.root{n:Nat}{f:aa Nat}(C:q0 n f):∀v,v<n->∃r,gk f v r:=by
 intro v
 induction v using Nat.strongRecOn with
 |_ v Z =>
  intro aI;have M:v<f.length:=by rw[C.1];omega
  have E:f[v]? = some f[v]:=ab
  have V:=C.2 v _ E
  by_cases bk:f[v]=v
  ·exact⟨v,.here ab⟩
  ·obtain⟨r,I⟩:=Z f[v] J J;exact⟨r,.up E bk I⟩
theorem gk.short{n:Nat}{f:aa Nat}(M:q0 n f){v:Nat}(E:gk f v r):q0 n (f.set v r)/\∀aT q,gk f aT q->gk (f.set v r) aT q:=by
 have wc:v<f.length:=by
  cases E with
  |here h=>grind
  |up h _ _=>grind
 have a5:∀aT,(f.set v r)[aT]? = if aT=v then some r else f[aT]?:=ab
 have ba:=E.is;have C:(f.set v r)[r]? = some r:=ab
 refine⟨⟨by rw[wI];exact M.1,λaT x I=>?_⟩,λaT q h=>?_⟩
 ·rw[a5]at I
  split at I
  ·rename_i e;cases I;rw[e];exact E.le M
  ·exact M.2 aT x I
 ·induction h with
  | @here aT h =>
   by_cases e:aT=v
   ·subst e;have:=E.BU (.here h);subst this;exact .here C
   ·exact .here ab
  | @up aT x q h Z t ev =>
   by_cases e:aT=v
   ·subst e;have:=E.BU (.up h Z t);subst this
    by_cases V:r=aT
    ·rw[V]at C ⊢;exact .here C
    ·exact .up ab V (.here C)
   ·exact .up ab Z ev
theorem gk.join{n:Nat}{f:aa Nat}(M:q0 n f){a:Nat}(dg:f[a]? = some a)(aG:f[b]? = some b)(uL:b<=a):q0 n (f.set a b)/\∀aT q,gk f aT q->gk (f.set a b) aT (if q=a then b else q):=by
 have V:∀aT,(f.set a b)[aT]? = if aT=a then some b else f[aT]?:=ab
 have C:(f.set a b)[b]? = some b:=ab
 refine⟨⟨by rw[wI];exact M.1,λaT x E=>?_⟩,λaT q h=>?_⟩
 ·rw[V]at E
  split at E
  ·grind
  ·exact M.2 aT x E
 ·induction h with
  | @here aT h =>
   by_cases e:aT=a
   ·subst e;rw[if_pos rfl]
    by_cases I:b=aT
    ·rw[I]at C ⊢;exact .here C
    ·exact .up ab I (.here C)
   ·rw[if_neg e];exact .here ab
  | @up aT x q h bm t Z =>
   exact .up ab bm Z
structure pu (n:Nat) (es:aa GE) (i:Nat) (f:aa Nat):Prop where
 q1:q0 n f
 Eb:∀e∈es.take i,∀q,gk f e.f q->gk f e.t q
 mL:∀(c:Nat->Nat),(∀e∈es,c e.f=c e.t)->∀v r,gk f v r->c r=c v
theorem pu.init{n:Nat}{es:aa GE}:pu n es 0 (List.range n):=by
 refine⟨⟨by simp,ab⟩,λe C=>by simp at C,λc E v r h=>?_⟩;cases h with
 |here h=>rfl
 |up h I _=>grind
theorem pu.same{n:Nat}{es:aa GE}{f I:aa Nat}(h:pu n es i f)(M:q0 n I)(ar:∀aT q,gk f aT q->gk I aT q):pu n es i I:=by
 have back:∀aT q,gk I aT q->gk f aT q:=λaT q C=>by
  have Z:aT<n:=by
   cases C with
   |here h=>have:=qS h;rw[M.1]at this;omega
   |up h _ _=>have:=qS h;rw[M.1]at this;omega
  obtain⟨r,E⟩:=h.q1.root aT Z;rw[C.BU (ar aT r E)];exact E
 exact⟨M,λe V q C=>ar _ _ (h.Eb e V q (back _ _ C)),λc aU v r E=>h.mL c aU v r (back _ _ E)⟩
theorem pu.step{n:Nat}{es:aa GE}{f:aa Nat}(h:pu n es i f){e:GE}(bk:es[i]? = some e){a:Nat}(M:gk f e.f a)(V:gk f e.t b):pu n es (i+1) (f.set (max a b) (min a b)):=by
 have Z:f[max a b]? = some (max a b):=by
  rcases Nat.le_total a b with h1|h1
  ·rw[Nat.max_eq_right h1];exact V.is
  ·rw[Nat.max_eq_left h1];exact M.is
 have hmn:f[min a b]? = some (min a b):=by
  rcases Nat.le_total a b with h1|h1
  ·rw[CR h1];exact M.is
  ·rw[Nat.min_eq_right h1];exact V.is
 obtain⟨E,ar⟩:=gk.join h.q1 Z hmn J;have back:∀aT q,gk (f.set (max a b) (min a b)) aT q->∃r,gk f aT r/\q=if r=max a b then min a b else r:=λaT q I=>by
  have eb:aT<n:=by
   cases I with
   |here h=>have:=qS h;rw[E.1]at this;omega
   |up h _ _=>have:=qS h;rw[E.1]at this;omega
  obtain⟨r,C⟩:=h.q1.root aT eb;exact⟨r,C,I.BU (ar aT r C)⟩
 refine⟨E,λx aR q I=>?_,λc aU v r C=>?_⟩
 ·obtain⟨r,C,rfl⟩:=back _ _ I;rcases(ait bk).1 aR with aR|rfl
  ·exact ar _ _ (h.Eb x aR r C)
  ·have:=C.BU M;subst this;have al:=ar _ _ V;have:(if r=max r b then min r b else r)=(if b=max r b then min r b else b):=ab
   rw[this];exact al
 ·obtain⟨q,I,rfl⟩:=back _ _ C;have h1:=h.mL c aU v q I
  split
  ·rename_i aY
   have al:=h.mL c aU _ _ M;have aM:=h.mL c aU _ _ V
   grind
  omega
theorem pu.EK{n:Nat}{es:aa GE}{f:aa Nat}(M:∀e∈es,e.f<n/\e.t<n)(h:pu n es es.length f):∃L,lu n es L/\∀v r,gk f v r↔L[v]? = some r:=by
 have I:∀v,v<n->∃r,gk f v r:=h.q1.root;have Z:∀m,m<=n->∃L:aa Nat,L.length=m/\∀v r,v<m->(gk f v r↔L[v]? = some r):=by
  intro m
  induction m with
  |zero=>intro _;exact⟨[],rfl,J⟩
  |succ m ev =>
   intro hm;obtain⟨L,V,E⟩:=ev J;obtain⟨fu,ap⟩:=I m J;refine⟨L++[fu],ab,λv r aI=>?_⟩;rw[yG]
   by_cases hvm:v<m
   ·grind
   ·have:v=m:=J
    subst this;rw[if_neg J,V,wL];simp only[List.getElem?_cons_zero,Av];exact⟨λh=>ap.BU h,λh=>h ▸ ap⟩
 obtain⟨L,V,E⟩:=Z n J;have E:∀v r,gk f v r↔L[v]? = some r:=λv r=>by
  by_cases aI:v<n
  ·grind
  ·constructor
   ·intro C;have:v<f.length:=by cases C with
     |here h=>grind
     |up h _ _=>grind
    rw[h.q1.1]at this;omega
   ·intro C;have:=qS C;omega
 refine⟨L,⟨V,λe bk=>?_,λv x aR=>((E v x).2 aR).le h.q1,λc aU v x aR=>h.mL c aU v x ((E v x).2 aR)⟩,E⟩;obtain⟨h1,al⟩:=M e bk;obtain⟨r,C⟩:=I e.f h1;have:=h.Eb e ab r C
 grind
section
variable {n:Nat} {es:aa GE} {s:Nat} {l p:aa Int} {q D:aa Nat} {aT k:Nat} {aw:aa Nat}
end
theorem n1.le{n:Nat}{es:aa GE}{s:Nat}{l cc:aa Int}(h:n1 n es s l)(ac:n1 n es s cc):∀(m v:Nat),l[v]? = some (m:Int)->∃y:Int,cc[v]? = some y/\0<=y/\y<=m
 |0,v,C=>by have:=h.zero v C;subst this;exact⟨0,ac.src,J,J⟩
 |m+1,v,C=>by
  obtain⟨e,bk,cy,E⟩:=h.pre v _ C J;have V:((m+1:Nat):Int)-1=(m:Int):=J
  rw[V]at E;obtain⟨y,I,M,Z⟩:=n1.le h ac m e.f E;obtain⟨z,cX,h1,al⟩:=ac.post e bk y I M
  grind
theorem n1.unique{n:Nat}{es:aa GE}{s:Nat}{l:aa Int}(h:n1 n es s l)(ac:n1 n es s cc):l=cc:=by
 apply nL;intro v;rcases jH v n with I|I
 ·obtain⟨x,a⟩:∃x,l[v]? = some x:=⟨_,jU (by rw[h.len];omega)⟩
  obtain⟨y,b⟩:∃x,cc[v]? = some x:=⟨_,jU (by rw[ac.len];omega)⟩
  rw[a,b];have aR:=(h.jW v x a).1;have M:=(ac.jW v y b).1;rcases Int.lt_or_le x 0 with h1|h1
  ·rcases Int.lt_or_le y 0 with al|al
   ·grind
   ·obtain⟨m,rfl⟩:=CK al;obtain⟨z,C,E,_⟩:=n1.le ac h m v b
    grind
  ·obtain⟨m,rfl⟩:=CK h1;obtain⟨z,C,E,bc⟩:=n1.le h ac m v a;rw[b]at C;cases C;obtain⟨k,rfl⟩:=CK E;obtain⟨z,C,V,Z⟩:=n1.le ac h k v b
   grind
 ·rw[sQ (by rw[h.len];omega),sQ (by rw[ac.len];omega)]
def aa1(es df:aa GE):Prop:=(∀e∈es,∃ep∈df,ep.f=e.f/\ep.t=e.t)/\∀e∈df,∃ep∈es,ep.f=e.f/\ep.t=e.t
theorem n1.ends{n:Nat}{es E:aa GE}{s:Nat}{l:aa Int}(ar:aa1 es E)(h:n1 n es s l):n1 n E s l where
 len:=h.len
 src:=h.src
 jW:=h.jW
 zero:=h.zero
 pre:=λv x V bv=>by
  obtain⟨e,I,h1,al⟩:=h.pre v x V bv;obtain⟨M,C,aM,bc⟩:=ar.1 e I
  grind
 post:=λe I x V Z=>by
  obtain⟨M,C,aM,bc⟩:=ar.2 e I;have:=h.post M C x ab Z
  grind
def zK(es:aa GE):aa GE:=es++es.map (λe=>⟨e.t,e.f,e.w⟩)
theorem Ra{es:aa GE}{e:GE}:e∈zK es->∃C∈es,(e.f=C.f/\e.t=C.t)\/(e.f=C.t/\e.t=C.f):=by
 intro h;rcases g6.1 h with h|h
 all_goals grind
theorem Dn{es:aa GE}{e:GE}(h:e∈es):e∈zK es/\⟨e.t,e.f,e.w⟩∈zK es:=⟨CM _ h,OO _ (fL.2 ⟨e,h,rfl⟩)⟩
def wo(n:Nat)(es:aa GE):Prop:=∀e∈es,e.f<n/\e.t<n
theorem aeH{n:Nat}{es:aa GE}(h:wo n es):wo n (zK es):=λe I=>by
 obtain⟨E,C,h1|h1⟩:=Ra I
 ·rw[h1.1,h1.2];exact h E C
 ·rw[h1.1,h1.2];exact⟨(h E C).2,(h E C).1⟩
theorem YL{n:Nat}{es:aa GE}{s:Nat}(V:wo n es)(ar:s<n):∃l,n1 n es s l:=by
 have Z:∀k,∃l,pt n es s k 0 l:=by
  intro k
  induction k with
  |zero=>exact⟨_,pt.init ar⟩
  |succ k ev =>
   obtain⟨o4,ap⟩:=ev;have C:∀i,i<=es.length->∃l,pt n es s k i l:=by
    intro i
    induction i with
    |zero=>intro _;exact⟨o4,ap⟩
    |succ i I =>
     intro ai;obtain⟨l,E⟩:=I J;have M:es[i]? = some es[i]:=jU J
     by_cases aU:l[es[i].f]? = some (k:Int)/\l[es[i].t]? = some (-1)
     ·exact⟨_,E.step M aU.1 aU.2⟩
     ·exact⟨l,E.skip M (V _ (jp M)).2 aU⟩
   obtain⟨l,E⟩:=C es.length (cB _);exact⟨l,E.next⟩
 obtain⟨l,E⟩:=Z n;exact⟨l,E.done⟩
structure r6 (n:Nat) (es:aa GE) (k i:Nat) (L:aa Nat):Prop where
 len:L.length=n
 le:∀(v x:Nat),L[v]? = some x->x<=v
 mL:∀(c:Nat->Nat),(∀e∈es,c e.f=c e.t)->∀(v x:Nat),L[v]? = some x->c x=c v
 low:∀m l,n1 n (zK es) m l->∀(v:Nat) (x:Int) (y:Nat),l[v]? = some x->0<=x->x<=k->L[v]? = some y->y<=m
 far:∀m l,n1 n (zK es) m l->∀(j:Nat) (e:GE),es[j]? = some e->j<i->∀a b:Nat,(a=e.f/\b=e.t)\/(a=e.t/\b=e.f)->l[a]? = some (k:Int)->∀y:Nat,L[b]? = some y->y<=m
theorem r6.init{n:Nat}{es:aa GE}:r6 n es 0 0 (List.range n):=by
 have I:∀v x,(List.range n)[v]? = some x->x=v:=λv x h=>by rw[yH ab]at h;grind
 refine⟨by simp,λv x h=>ab,λc _ v x h=>ab,λm l C v x y V ap h1 E=>?_,λm l C j e Z M=>absurd M (J7 _)⟩;have:x=0:=J
 subst this;rw[I v y E,C.zero v V];omega
theorem r6.step{n:Nat}{es:aa GE}{k:Nat}{e:GE}(h:r6 n es k i L)(bk:es[i]? = some e){x y:Nat}(aR:L[e.f]? = some x)(ca:L[e.t]? = some y):
  r6 n es k (i+1) ((L.set e.f (min x y)).set e.t (min x y)):=by
 have oW:=qS aR;have qo:=qS ca;have a5:∀aT,((L.set e.f (min x y)).set e.t (min x y))[aT]? = if aT=e.t\/aT=e.f then some (min x y)else L[aT]?:=λaT=>ab
 have M:∀aT z,((L.set e.f (min x y)).set e.t (min x y))[aT]? = some z->∃w,L[aT]? = some w/\z<=w:=λaT z C=>by
  rw[a5]at C
  split at C
  ·rename_i eb
   cases C;rcases eb with rfl|rfl
   ·exact⟨y,ca,Nat.min_le_right _ _⟩
   grind
  grind
 have HR:=jp bk;refine⟨by simp[h.len],λv z C=>?_,λc aU v z C=>?_,λm l Z v a z V ap hk C=>?_,λm l Z j ep I bM a b uL V z C=>?_⟩
 ·obtain⟨w,bN,E⟩:=M v z C;exact hu E (h.le v w bN)
 ·rw[a5]at C;have hce:=aU e HR;have hcx:=h.mL c aU _ _ aR;have hcy:=h.mL c aU _ _ ca
  split at C
  ·grind
  ·exact h.mL c aU v z C
 ·obtain⟨w,bN,E⟩:=M v z C;exact hu E (h.low m l Z v a w V ap hk bN)
 ·obtain⟨w,bN,E⟩:=M b z C
  by_cases hji:j<i
  ·exact hu E (h.far m l Z j ep I hji a b uL V w bN)
  ·have:j=i:=J
   subst this;rw[bk]at I;cases I;have Mt:min x y<=m:=by
    rcases uL with⟨rfl,rfl⟩|⟨rfl,rfl⟩
    ·have:=h.low m l Z _ _ x V J J aR;omega
    ·have:=h.low m l Z _ _ y V J J ca;omega
   grind
theorem r6.next{n:Nat}{es:aa GE}{k:Nat}(h:r6 n es k es.length L):r6 n es (k+1) 0 L :=
 ⟨h.len,h.le,h.mL,λm l E v x y aR ap hk ca=>by
  by_cases M:x<=k
  ·exact h.low m l E v x y aR ap M ca
  ·have Z:x=((k+1:Nat):Int):=J
   subst Z;obtain⟨e,hm,rfl,bx⟩:=E.pre v _ aR J;obtain⟨ep,I,V⟩:=Ra hm;obtain⟨j,C⟩:=tS I;refine h.far m l E j ep C (qS C) e.f e.t V ?_ y ca
   grind,λm l E j e bk C=>absurd C (J7 _)⟩
theorem r6.done{n:Nat}{es:aa GE}(E:wo n es)(h:r6 n es n 0 L):lu n es L:=by
 refine⟨h.len,λe bk=>?_,h.le,h.mL⟩;obtain⟨bx,cy⟩:=E e bk;have aR:L[e.f]? = some (L[e.f]'(by rw[h.len];omega)):=jU _;have Z:L[e.t]? = some (L[e.t]'(by rw[h.len];omega)):=jU _;have key:∀(a b:Nat),((a=e.f/\b=e.t)\/(a=e.t/\b=e.f))->∀x y:Nat,L[a]? = some x->L[b]? = some y->y<=x:=λa b uL x y aR Z=>by
  have hxn:x<n:=by have:=h.le a x aR;omega
  obtain⟨l,I⟩:=YL (aeH E) hxn;have hce:∀C∈es,(if 0<=l.getD C.f (-1)then 1 else 0)=(if 0<=l.getD C.t (-1)then 1 else 0):=λC V=>by
   obtain⟨m1,m2⟩:=Dn V;have dJ:=E C V;have br:l[C.f]? = some (l[C.f]'(by rw[I.len];omega)):=jU _;have g2:l[C.t]? = some (l[C.t]'(by rw[I.len];omega)):=jU _;rw[Dm br,Dm g2]
   by_cases h1:0<=l[C.f]' ab
   ·obtain⟨y,Z,al,_⟩:=I.post _ m1 _ br h1
    grind
   ·by_cases al:0<=l[C.t]' ab
    ·obtain⟨y,Z,aM,_⟩:=I.post _ m2 _ g2 al
     grind
    grind
  have M:=h.mL (λaT=>if 0<=l.getD aT (-1)then 1 else 0) hce a x aR;have M:(if 0<=l.getD x (-1)then 1 else 0)=(if 0<=l.getD a (-1)then 1 else 0):=M;rw[Dm I.src,if_pos (CV 0)]at M;have UH:0<=l.getD a (-1):=ab
  have han:a<n:=J
  have u5:l[a]? = some (l[a]' ab):=jU _;rw[Dm u5]at UH;obtain⟨m1,m2⟩:=Dn bk;have aG:∃z,l[b]? = some z/\0<=z:=ab
  obtain⟨z,cX,hz0⟩:=aG;exact h.low x l I b z y cX hz0 (by have:=(I.jW b z cX).2;omega) Z
 grind
theorem YM{n:Nat}{es:aa GE}(C:wo n es):∀i,i<=es.length->∃E,pu n es i E
 |0,_=>⟨_,pu.init⟩
 |i+1,ai=>by obtain⟨E,I⟩:=YM C i J;have M:es[i]? = some (es[i]'J):=jU _;obtain⟨h1,al⟩:=C _ (jp M);obtain⟨a,V⟩:=I.q1.root _ h1;obtain⟨b,Z⟩:=I.q1.root _ al;exact⟨_,I.step M V Z⟩
theorem aju{n:Nat}{es:aa GE}(C:wo n es):∃L,lu n es L:=by obtain⟨M,I⟩:=YM C es.length (cB _);obtain⟨L,E,_⟩:=I.EK C;exact⟨L,E⟩
theorem KO(l:aa Nat)(i x:Nat):(fe l).set i (x:Int)=fe (l.set i x):=by simp[fe,FQ]
theorem gk.back{n:Nat}{C I:aa Nat}(V:q0 n C)(E:q0 n I)(ar:∀aT q,gk C aT q->gk I aT q){aT q:Nat}(h:gk I aT q):gk C aT q:=by
 have Z:aT<n:=by
  cases h with
  |here h=>have:=qS h;rw[E.1]at this;omega
  |up h _ _=>have:=qS h;rw[E.1]at this;omega
 obtain⟨r,M⟩:=V.root aT Z;rw[h.BU (ar aT r M)];exact M
def vV(N i:Nat):aa Nat:=(List.range N).map (λk=>if k<i then k else 0)
theorem KP{k:Nat}(C:k<N):(vV N i)[k]? = some (if k<i then k else 0):=by simp[vV,C]
theorem Db(N i:Nat):(vV N i).length=N:=by simp[vV]
theorem akN(N:Nat):fe (vV N 0)=List.replicate N 0:=by
 refine nL λk=>?_
 by_cases C:k<N
 ·rw[y2 (KP C)];grind
 ·rw[sQ (by rw[kG,Db];omega),sQ ab]
theorem am4(ai:i<N):(vV N i).set i i=vV N (i+1):=by
 refine nL λk=>?_;rw[qP,Db]
 by_cases C:k<N
 ·rw[KP C,KP C]
  grind
 ·rw[sQ (by rw[Db];omega),sQ (by rw[Db];omega),if_neg J]
theorem akO(N:Nat):vV N N=List.range N:=by
 refine nL λk=>?_
 by_cases C:k<N
 ·rw[KP C,if_pos C,yH C]
 ·rw[sQ (by rw[Db];omega),sQ ab]
section
variable {H:Type} {enc:TypeId × X->H} {P:Program} {w:World} {aO:Nat->ak} {Bv:ak} {aA:Type}
def w7(w:World)(b off:Nat)(l:aa X):Prop:=∃c e e5,w.heap[b]? = some (.cells c e e5)/\∀i x,l[i]? = some x->c[off+i]? = some x
theorem aiV{w:World}{x:TypeId × Nat}(h:w.shape? b=some x):∃c e C,w.heap[b]? = some (.cells c e C):=by
 unfold World.shape? at h
 grind
theorem acV{ce:aA->aa X}{k:Nat}{e:TypeId}{r:Reach}{base z9:Nat}{x:DataW H × aa MemPlace}(cy:P.underlying t=some (.slice e))(aU:P.cellsOf e=k)(R:aA->Prop)(Z:∀(n:Nat) (c:aa X) y,DataW.trod enc P w base aO Bv n e c=some y->∃z:aA,c=ce z/\R z)(h:DataW.trod enc P w base aO Bv Mr t [v]=some x)(C:Cell.okWide P w r z9 t v):
  ∃V:aa aA,(∀z∈V,R z)/\((V=[]/\v = .slice none 0 0)\/∃b off cap,v = .slice (some ⟨b,off,none⟩) V.length cap/\w7 w b off (a1 ce V)):=by
 rcases akG cy aU R Z h with E|⟨a,V,cap,E,bg,hm,dD,M⟩
 ·injection E with E _
  exact⟨[],by simp,ab⟩
 ·injection E with E _
  subst E;refine⟨V,dD,.inr ?_⟩;unfold Cell.okWide at C;rw[cy]at C;simp only at C;unfold Cell.ok at C;rw[cy]at C;obtain⟨_,_,axO⟩:=C;obtain⟨_,I,row,cells,M5,_⟩:=axO;obtain⟨b,off,spot⟩:=a;simp only at I M5;subst I;obtain⟨c,ep,e5,bN⟩:=aiV M5;refine⟨b,off,cap,rfl,c,ep,e5,bN,λi y ca=>?_⟩;have h1:=M i y ca;have aY:(Addr.add ⟨b,off,none⟩ i)=⟨b,off+i,none⟩:=by
   unfold Addr.add
   grind
  rw[aY]at h1;unfold World.cell? at h1
  grind
theorem ZG{k:IntKind}{c:X}{x:DataW H × aa MemPlace}(C:P.underlying t=some (.int k))(h:DataW.trod enc P w 0 aO Bv Mr t [c]=some x):∃n:Int,c = .int k n:=by
 obtain⟨n,h1,_⟩:=DataW.trod_int C h
 grind
end
def td(v:X)(l:aa X):aa (Place × aa X):=match v with
 | .slice (some a) _ _=>[(⟨a.block,a.off,0,0⟩,l)]
 |_=>[]
theorem atF{P:Program}(aU:aD P false f args h U (λv _ _=>v = .bool true)){w:World}{C:aa X}(Z:ee w.heap.size ah (u h) w)(bx:kw ah U)(V:dm ah args C)(n:Nat):
  CallsIn Fence.wide n P f ⟨C⟩ w (λe bj=>e = .returned (.bool true)/\RowKit.Below w.heap.size w bj):=
 (aU.2 w.heap.size ah w C Z bx V n).mono λe bj I=>by obtain⟨dG,ac,Y,bw,c,rfl,rfl,E,M⟩:=I;cases E;exact⟨rfl,amW rfl M⟩
def ahh(k:Nat)(v:X):X:=match v with
 | .slice (some _) n c=>.slice (some ⟨k,0,none⟩) n c
 |v=>v
theorem akP{aA:Type}{E:aA->aa X}(M:∀z,ii (E z)=true):∀l:aa aA,∀x∈a1 E l,qW x=true:=by
 intro l
 induction l with
 |nil=>intro x C;cases C
 |cons z l I =>
  intro x C;have C:x∈E z++a1 E l:=C;rcases g6.1 C with C|C
  ·have:∀(l:aa X),ii l=true->∀x∈l,qW x=true:=by
    intro l
    induction l with
    |nil=>intro _ x C;cases C
    |cons y l I =>
     intro h x C;have h:(qW y&&ii l)=true:=h;simp only[eD]at h;rcases hf.1 C with rfl|C
     ·exact h.1
     ·exact I h.2 x C
   exact this _ (M z) x C
  ·exact I x C
theorem ahi{aA:Type}{I:aA->aa X}{w:World}{C:aa aA}(V:∀z,ii (I z)=true)(h:(C=[]/\v = .slice none 0 0)\/∃b off cap,v = .slice (some ⟨b,off,none⟩) C.length cap/\w7 w b off (a1 I C))(ah:cd):
  ∀p∈td v (a1 I C),∃c e M,w.heap[p.1.ct]? = some (.cells c e M)/\ph ah p.2 c p.1.off:=by
 rcases h with⟨rfl,rfl⟩|⟨b,off,cap,rfl,c,e,M,bN,a5⟩
 ·exact λp E=>(by cases E)
 ·intro p E;have E:p=(⟨b,off,0,0⟩,a1 I C):=by simpa[td]using E
  subst E;exact⟨c,e,M,bN,λi x Z=>⟨x,a5 i x Z,FW (akP V C x (jp Z)) _⟩⟩
theorem agd{aA:Type}{E:aA->aa X}{w:World}{C:aa aA}{k:Nat}(h:(C=[]/\v = .slice none 0 0)\/∃b off cap,v = .slice (some ⟨b,off,none⟩) C.length cap/\w7 w b off (a1 E C))(I:∀p,p∈td v (a1 E C)->bW[k]? = some p):
  bE (uu bW) (ahh k v) v/\cN (wn 0 bW ic) bW.length (ahh k v) E C:=by
 rcases h with⟨rfl,rfl⟩|⟨b,off,cap,rfl,c,e,Z,bN,V⟩
 ·exact⟨bE.rR 0 0,⟨none,0,rfl,λh=>absurd rfl h⟩⟩
 ·have h1:=I (⟨b,off,0,0⟩,a1 E C) (by simp[td]);have M:k<bW.length:=(gE.1 h1).1;exact⟨.lp (p:=⟨b,off,0,0⟩) (by unfold uu;rw[h1];rfl) _ _,⟨_,_,rfl,λ_=>⟨k,none,true,M,rfl,atx (p:=(⟨b,off,0,0⟩,a1 E C)) h1⟩⟩⟩
theorem aa2{l:aa X}{p:Place × aa X}(h:p∈td v l):td v l=[p]:=by
 unfold td at h ⊢
 split at h
 ·have:=iR.1 h;rw[this]
 ·cases h
theorem atG{aA eV:Type}{ce:aA->aa X}{aY:eV->aa X}{w:World}{aT:X}{E:aa aA}{I:aa eV}(V:∀z,ii (ce z)=true)(M:∀z,ii (aY z)=true)(h:(E=[]/\v = .slice none 0 0)\/∃b off cap,v = .slice (some ⟨b,off,none⟩) E.length cap/\w7 w b off (a1 ce E))(g:(I=[]/\aT = .slice none 0 0)\/∃b off cap,aT = .slice (some ⟨b,off,none⟩) I.length cap/\w7 w b off (a1 aY I)):
  ∃bW dG Z,InW w bW/\bE (uu bW) dG v/\bE (uu bW) Z aT/\cN (wn 0 bW ic) bW.length dG ce E/\cN (wn 0 bW ic) bW.length Z aY I:=by
 obtain⟨ax,a2⟩:=agd (bW:=td v (a1 ce E)++td aT (a1 aY I)) (k:=0) h (λp C=>by rw[aa2 C];rfl);obtain⟨de,bO⟩:=agd (bW:=td v (a1 ce E)++td aT (a1 aY I)) (k:=(td v (a1 ce E)).length) g (λp C=>by rw[aa2 C,vf (cB _),wL];rfl);refine⟨_,_,_,λp C=>?_,ax,de,a2,bO⟩;rcases g6.1 C with C|C
 ·exact ahi V h _ p C
 ·exact ahi M g _ p C
def mk:Nat->(Nat->ak)->Nat
 |0,_=>0
 |n+1,p=>(if p 0 then 1 else 0)+2*mk n (λi=>p (i+1))
def er(n:Nat)(p:Nat->ak):aa Nat:=(List.range n).filter p
theorem s5:∀(n:Nat) (p:Nat->ak) (i:Nat),(mk n p).testBit i=(decide (i<n)&&p i)
 |0,p,i=>by simp[mk]
 |n+1,p,0=>by
  rw[mk,Nat.testBit_zero]
  grind
 |n+1,p,i+1=>by
  rw[mk,J5];have:((if p 0 then 1 else 0)+2*mk n (λi=>p (i+1))) / 2=mk n (λi=>p (i+1)):=ab
  rw[this,s5 n];simp
theorem age:∀(n:Nat) (p:Nat->ak),mk n p<2 ^ n
 |0,p=>by simp[mk]
 |n+1,p=>by
  have:=age n (λi=>p (i+1));rw[mk,Nat.pow_succ]
  grind
theorem DE{n:Nat}{p q:Nat->ak}(h:∀i,i<n->p i=q i):mk n p=mk n q:=by
 apply Ap;intro i;rw[s5,s5]
 grind
theorem atH(n:Nat)(p q:Nat->ak):mk n p &&& mk n q=mk n (λi=>p i&&q i):=by
 apply Ap;intro i;rw[J8,s5,s5,s5]
 grind
theorem avX(n:Nat)(p q:Nat->ak):mk n p ||| mk n q=mk n (λi=>p i||q i):=by
 apply Ap;intro i;rw[FN,s5,s5,s5]
 grind
theorem aeI{n k:Nat}(h:k<n):2 ^ k=mk n (λi=>decide (i=k)):=by
 apply Ap;intro i;rw[s5,Nat.testBit_two_pow]
 grind
theorem Rb(n:Nat):mk n (λ_=>false)=0:=by apply Ap;intro i;rw[s5];simp
theorem aeJ(n:Nat)(p:Nat->ak):mk (n+1) p / 2=mk n (λi=>p (i+1)):=by rw[mk];grind
theorem aeK(n:Nat)(p:Nat->ak):mk (n+1) p % 2=if p 0 then 1 else 0:=by rw[mk];grind
theorem GU{n:Nat}{p:Nat->ak}:mk n p=0↔∀i,i<n->p i=false:=by
 constructor
 ·intro h i ai;have:=s5 n p i
  grind
 ·intro h;rw[<-Rb n];exact DE h
theorem Lj(n:Nat)(p:Nat->ak):er (n+1) p=(if p 0 then[0]else[])++(er n (λi=>p (i+1))).map (·+1):=by
 unfold er;rw[List.range_succ_eq_map,rK];have:(List.map Nat.succ (List.range n)).filter p=((List.range n).filter (λi=>p (i+1))).map (·+1):=by rw[List.filter_map];rfl
 grind
theorem atJ{n:Nat}{p:Nat->ak}(h:∀i,i<n->p i=false):er n p=[]:=by
 unfold er;rw[An]
 grind
theorem aa3:∀(n:Nat) (p:Nat->ak),mk n p≠0->∃q:Nat->ak,mk n p &&& (mk n p-1)=mk n q/\(er n p).length=(er n q).length+1
 |0,p,h=>absurd rfl h
 |n+1,p,h=>by
  cases C:p 0 with
  |true =>
   refine⟨λi=>if i=0 then false else p i,?_,?_⟩
   ·have e:mk (n+1) p=2*mk n (λi=>p (i+1))+1:=by rw[mk,C];grind
    have E:mk (n+1) (λi=>if i=0 then false else p i)=2*mk n (λi=>p (i+1)):=by rw[mk];simp
    rw[e,E];apply Ap;intro i;rw[J8,J0];cases i with
    |zero=>grind
    |succ i =>
     grind
   ·rw[Lj,Lj,C];simp
  |false =>
   have e:mk (n+1) p=2*mk n (λi=>p (i+1)):=by rw[mk,C];simp
   have I:mk n (λi=>p (i+1))≠0:=λM=>h J;obtain⟨q,h1,al⟩:=aa3 n (λi=>p (i+1)) I;refine⟨λi=>match i with|0=>false|i+1=>q i,?_,?_⟩
   ·have E:mk (n+1) (λi=>match i with|0=>false|i+1=>q i)=2*mk n q:=by rw[mk];simp
    rw[e,E,<-h1];apply Ap;intro i;rw[J8];cases i with
    |zero=>grind
    |succ i =>
     rw[J5,J5,J5,show(2*mk n (λi=>p (i+1))) / 2=mk n (λi=>p (i+1)) by omega,show(2*mk n (λi=>p (i+1))-1) / 2=mk n (λi=>p (i+1))-1 by omega,show(2*(mk n (λi=>p (i+1)) &&& (mk n (λi=>p (i+1))-1))) / 2=mk n (λi=>p (i+1)) &&& (mk n (λi=>p (i+1))-1) by omega,J8]
   ·rw[Lj,Lj,C]
    grind
section
variable {P:Program}
theorem DF{n:Nat}(h:n<18446744073709551616):IntKind.wrap .u64 (n:Int)=(n:Int):=by unfold IntKind.wrap;simp[IntKind.bits,IntKind.signed];omega
theorem BV{n:Nat}(h:n<18446744073709551616):(BitVec.ofInt 64 (n:Int)).toNat=n:=ab
theorem Gs{a:Nat}(C:a<18446744073709551616)(E:b<18446744073709551616):bin P .and t (.int .u64 (a:Int)) (.int .u64 (b:Int)) = .ok (.int .u64 ((a &&& b:Nat):Int)):=by show R.ok (Value.int .u64 (IntKind.wrap .u64 ((BitVec.ofInt 64 (a:Int) &&& BitVec.ofInt 64 (b:Int)).toNat:Int)))=_;rw[BitVec.toNat_and,BV C,BV E,DF (Nat.lt_of_le_of_lt Nat.and_le_left C)]
theorem aqG{a:Nat}(C:a<18446744073709551616)(E:b<18446744073709551616):bin P .or t (.int .u64 (a:Int)) (.int .u64 (b:Int)) = .ok (.int .u64 ((a ||| b:Nat):Int)):=by show R.ok (Value.int .u64 (IntKind.wrap .u64 ((BitVec.ofInt 64 (a:Int) ||| BitVec.ofInt 64 (b:Int)).toNat:Int)))=_;rw[BitVec.toNat_or,BV C,BV E,DF (Nat.or_lt_two_pow (n:=64) C E)]
theorem am5:∀(k:Nat),k<64->∀gF:IntKind,bin P .shl t (.int .u64 1) (.int gF (k:Int)) = .ok (.int .u64 ((2 ^ k:Nat):Int)):=by
 intro k C gF;show w4 .shl .u64 1 (k:Int)=_;unfold w4;rw[show lK (k:Int) 0=false from rfl];show R.ok (Value.int .u64 (uf .u64 (1*2 ^ (min (k:Int).toNat 64))))=_;rw[Int.one_mul,show min (k:Int).toNat 64=k by omega,oA];have:((2:Int) ^ k)=((2 ^ k:Nat):Int):=ab
 rw[this,DF (Nat.pow_lt_pow_right J C)]
theorem Qg{a:Nat}:bin P .shr t (.int .u64 (a:Int)) (.int gF 1) = .ok (.int .u64 ((a / 2:Nat):Int)):=by
 show w4 .shr .u64 (a:Int) 1=_;unfold w4;show R.ok (Value.int .u64 ((a:Int).fdiv (2 ^ (min (1:Int).toNat 64))))=_
 grind
theorem Gt{a:Nat}:bin P .shr t (a:X) (.int gF 6) = .ok (((a / 64:Nat):X)):=by
 show w4 .shr .i64 (a:Int) 6=_;unfold w4;show R.ok (Value.int .i64 ((a:Int).fdiv (2 ^ (min (6:Int).toNat 64))))=_
 grind
end
set_option maxRecDepth 100000
def HA(a b:Code):aAy:={ res:=[.tmp 4],body :=
 (.seq (.ta [⟨none,some 2,0,.iK (.box (.t 0))⟩,⟨none,some 4,0,.fB (.io (.v (.slice none 0 0)))⟩])
 (.seq (.seq (.ta [⟨none,some 6,0,.fB (.io (.t 1))⟩]) (.block 0 (.yl (.t 6) [7] a b)))
 (.seq (.ta [⟨none,some 12,0,.red (.ld none (.t 2))⟩,⟨none,some 4,0,.fB (.io (.t 12))⟩]) .ret))) }
def ccA:iE:=.ta [⟨none,some 5,0,.fB (.io (.t 7))⟩]
def ccB(z:X):iE:=.block 1 (.ta [⟨none,some 8,0,.red (.ld none (.t 2))⟩,⟨none,some 9,0,.fB (.io (.t 5))⟩,⟨none,some 10,0,.iK (.Uu 1 [z] [(0,1,.t 9)])⟩,⟨none,some 11,0,.fC (.app 1 (.t 8) (.t 10))⟩,⟨none,none,0,.fC (.st 1 (.t 2) (.t 11))⟩])
structure Tg (P:Program) (z:X) (f:FuncId) (a b:Code):Prop where
 c:vJ P f=some (HA a b)
 qE:comp P a=ccA
 gK:comp P b=ccB z
 u5:lS a=true
 wA:lS b=true
def HB:iE->av (Code × Code)
 | .yl _ _ a b=>some (a,b)
 | .seq a b=>match HB a with|some x=>some x|none=>HB b
 | .block _ c=>HB c
 | .scope c=>HB c
 |_=>none
def vW(P:Program)(f:FuncId):Code × Code:=match vJ P f with
 |some c=>(match HB c.body with|some x=>x|none=>(.skip,.skip))
 |none=>(.skip,.skip)
def vQ(f:X)(p:Nat):b8:=[(6,some f),(4,some (.slice none 0 0)),(2,some (bb p)),(0,some (.slice none 0 0)),(1,some f)]
def lB(l p:Nat)(a b:Code)(h:ad)(o:X):Prop:=∃f,u h l=some (.loop 0 none (vQ f p) [7] a b)/\u h p=some (.cells [o] false)
theorem lB.T{l p:Nat}{a b:Code}{o:X}(C:lB l p a b h o)(h1:u ac l=u h l)(al:u ac p=u h p):lB l p a b ac o:=by obtain⟨f,I,E⟩:=C;exact⟨f,ab,ab⟩
section
variable {P:Program} {s:ak}
theorem fb.cell{aA:Type}{enc:aA->aa X}{k:Nat}{o:X}{C:aa aA}(g:fb h enc k o C aP):c5 o=[o]/\hv o=true:=by
 cases g <;> exact⟨rfl,rfl⟩
def hs{aA:Type}(h:ad)(enc:aA->aa X)(v:X)(l:aa aA)(aP:av Nat):Prop:=(l=[]/\v = .slice none 0 0/\aP=none)\/∃b,aP=some b/\v = .slice (some ⟨b,0,some 1⟩) l.length l.length/\u h b=some (.cells (a1 enc l) false)
theorem hs.nil{aA:Type}{enc:aA->aa X}:hs h enc (.slice none 0 0) [] none:=.inl ⟨rfl,rfl,rfl⟩
theorem hs.ho{aA:Type}{enc:aA->aa X}{l:aa aA}(w:hs h enc v l aP):fb h enc 1 v l aP:=by
 rcases w with⟨rfl,rfl,rfl⟩|⟨b,rfl,rfl,C⟩
 ·exact .nil
 ·exact .own C
theorem hs.T{aA:Type}{enc:aA->aa X}{l:aa aA}(w:hs h enc v l aP)(I:∀c,aP=some c->u ac c=u h c):hs ac enc v l aP:=by
 rcases w with w|⟨b,e,C,E⟩
 ·exact .inl w
 ·exact .inr ⟨b,e,C,ab⟩
theorem hs.gI{aA:Type}{enc:aA->aa X}{l:aa aA}(w:hs h enc v l aP)(C:∀c,aP=some c->ao<=c/\c<ai):eZ h ao ai v enc l:=by
 rcases w with⟨rfl,rfl,rfl⟩|⟨b,rfl,rfl,E⟩
 ·exact⟨none,0,rfl,λe=>absurd rfl e⟩
 ·exact⟨_,_,rfl,λ_=>⟨b,some 1,false,(C b rfl).1,(C b rfl).2,rfl,E⟩⟩
theorem hs.form{aA:Type}{enc:aA->aa X}{l:aa aA}(w:hs h enc v l aP):∃a c,v = .slice a l.length c:=by
 rcases w with⟨rfl,rfl,rfl⟩|⟨b,rfl,rfl,C⟩
 ·exact⟨none,0,rfl⟩
 grind
theorem y6{aA:Type}{enc:aA->aa X}{k:Nat}(M:∀x,(enc x).length=k)(C:∀x,ec (enc x)=true)(I:0<k){l:aa aA}(g:fb h enc k v l o)(x:aA)(al:u h bO=some (.cells cs bC))(Z:(cs.drop dI).take k=enc x)(E:(l.length+1)*k<=1000000){K:X->ad->Nat->Prop}(V:∀ac,u ac U=some (.cells (a1 enc (l++[x])) false)->(∀c,c≠U->o≠some c->u ac c=u h c)->K (.slice (some ⟨U,0,some k⟩) (l.length+1) (l.length+1)) ac (U+1)):dB (dS (dv k h U v (.slice (some ⟨bO,dI,mK⟩) 1 r5))) K:=by obtain⟨ac,e,a,b⟩:=g.app M C I al Z E;rw[e];exact V _ a b
theorem atK(hl:ql P){z:X}{a b:Code}(A:Tg P z f a b){aA:Type}{enc:aA->aa X}(hk:∀x,(enc x).length=1)(I:∀x,ec (enc x)=true){x:aA}(aR:enc x=[v])(aI:c5 v=[v]){l p:Nat}{o:X}{E:aa aA}(C:lB l p a b h o)(w:hs h enc o E aP)(hlp:l≠p)(bg:l<U)(bv:p<U)(mM:∀c,aP=some c->c≠l/\c≠p/\c<U)(h3:E.length+1<=1000000)(ha:∀ac aW,lB l p a b ac aW->hs ac enc aW (E++[x]) (some (U+1))->(∀c,c<U->c≠l->c≠p->aP≠some c->u ac c=u h c)->K (.bool true) ac (U+1+1)):mg P s l [v] h U K:=by
 obtain⟨M,pz,ED⟩:=C;have g:=w.ho;have M6:hv v=true:=by have:=I x;rw[aR]at this;exact(by simpa[ec]using this)
 refine mg.oU hl (wy:=[]) (ob:=[]) pz rfl A.u5 A.wA ?_;unfold Cl;rw[A.qE,A.gK];show ag (.ok v) λsF=>∃Z,u h l=some (.loop 0 Z (vQ M p) [7] a b)/\ag (im none (F h l (.loop 1 Z (vQ M p) [7] a b)) (bb p)) λaBA=>ag (.ok sF) λaBB=>ey (fU 1 [z] [(0,1,aBB)]) (F h l (.loop 1 Z (vQ M p) [7] a b)) U λv10 aM bR=>dB (dS (dv 1 aM bR aBA v10)) λv11 bc d4=>ag (a7 bc 1 (bb p) v11) λV =>
  ∃gT Z,u V l=some (.loop gT Z (vQ M p) [7] a b)/\K (.bool true) (F V l (.loop 0 none (vQ M p) [7] a b)) d4
 refine⟨none,pz,?_⟩;have U4:u (F h l (.loop 1 none (vQ M p) [7] a b)) p=some (.cells [o] false):=ab
 obtain⟨ho1,ho2⟩:=g.cell;simp(disch:=omega)only[W6,U4,aI,M6,seval];refine y6 hk I J (g.T λc aU=>?_) x (aN _ _ _) ?_ J λV EL uM=>?_
 ·grind
 ·grind
 have xX:u V l=some (.loop 1 none (vQ M p) [7] a b):=ab
 have M7:u V p=some (.cells [o] false):=ab
 simp(disch:=omega)only[W6,M7,seval];refine⟨1,none,xX,?_⟩;refine ha _ (.slice (some ⟨U+1,0,some 1⟩) (E.length+1) (E.length+1)) ⟨M,aN _ _ _,ab⟩ ?_ λc h1 al aM bc=>?_
 ·refine .inr ⟨U+1,rfl,ab,?_⟩
  grind
 grind
theorem ZH(hl:ql P){z:X}{a b:Code}(A:Tg P z f a b){g:FuncId}{C E:Array X}(V:∀h1,lB (U+1) U a b h1 (.slice none 0 0)->(∀c,c<U->u h1 c=u h c)->aD P s g (C.toList++(.func (.yield (U+1)) #[] #[]::E.toList)) h1 (U+1+1) (λ_ al I=>∃o,lB (U+1) U a b al o/\(∀x,K o (F al (U+1) x) I))):
  aD P s f [.slice none 0 0,.func (.func g) C E] h U K:=by
 refine aD.oU hl [] ?_;unfold nD;rw[A.c];have e:fP P s [] (HA a b).body 0 (s4 [Value.slice none 0 0,Value.func (.func g) C E] 0) h U (tb P (HA a b).res K) [] (tb P (HA a b).res K) =
  uB P s (.func (.func g) C E) (F h U (.cells [.slice none 0 0] false)) (U+1) (.loop 0 none (vQ (.func (.func g) C E) U) [7] a b) (zu (U+1) (λh _n=>ag (im none h (bb U)) λv=>ag (.ok v) λv=>K v h _n) (λh _n=>ul P (vQ (.func (.func g) C E) U) h [.tmp 4] λl=>K (r4 l) h _n)):=by kernel_rfl
 show fP P s [] (HA a b).body 0 _ h U _ [] _;rw[e];refine(V _ ⟨_,aN _ _ _,(aq J).trans (aN _ _ _)⟩ λc aU=>(aq J).trans (aq J)).mono ?_;rintro _ al I ⟨o,⟨mo,Z,ce⟩,ha⟩;refine⟨0,none,_,[7],a,b,Z,J,.inl ⟨rfl,?_⟩⟩;show ag (im none (F al (U+1) _) (bb U)) λv=>ag (.ok v) λv=>K v _ I;have M:∀x,u (F al (U+1) x) U=some (.cells [o] false):=ab
 rw[LX,M];exact ha _
end
def eB:Int:=4611686018427387904
def i5(x:Int):Int:=(x+170141183460469231731687303715884105728) % 340282366920938463463374607431768211456-170141183460469231731687303715884105728
def ka(r a b:Int):Int:=if r=2 then(if a=0/\b=0 then 0 else 1)else if r=5 then i5 (a+b)else min a b
def gw(r a x:Int):Int:=if r=2 then(if a≠0/\x≠0 then 1 else 0)else if r=5 then a*x else if eB<=max a x then eB else if r=1 then min eB (a+x)else min eB x
theorem am6(a b c:Int):i5 (i5 (a+b)+c)=i5 (a+i5 (b+c)):=by unfold i5;omega
theorem am7(r a b:Int):ka r a b=ka r b a:=by
 unfold ka
 grind
theorem akQ(r a b c:Int):ka r (ka r a b) c=ka r a (ka r b c):=by
 unfold ka
 by_cases al:r=2
 ·grind
 ·simp only[if_neg al]
  by_cases C:r=5
  ·simp only[if_pos C];exact am6 a b c
  omega
def e3(r:Int):av Int->av Int->av Int
 |none,y=>y
 |some x,none=>some x
 |some x,some y=>some (ka r x y)
theorem rO(r:Int)(x:av Int):e3 r x none=x:=by cases x <;> rfl
theorem Gc(r:Int)(x:av Int):e3 r none x=x:=rfl
theorem ZI(r:Int)(x y:av Int):e3 r x y=e3 r y x:=by
 cases x <;> cases y <;> simp[e3,am7 r]
theorem tZ(r:Int)(x y z:av Int):e3 r (e3 r x y) z=e3 r x (e3 r y z):=by
 cases x <;> cases y <;> cases z <;> simp[e3,akQ]
def fo(r:Int):aa (av Int)->av Int
 | []=>none
 |x::l=>e3 r x (fo r l)
theorem Gu(r:Int)(l cc:aa (av Int)):fo r (l++cc)=e3 r (fo r l) (fo r cc):=by
 induction l with
 |nil=>rfl
 |cons x l C=>show e3 r x (fo r (l++cc))=_;rw[C,<-tZ];rfl
theorem PK(r:Int)(l:aa (av Int))(x:av Int):fo r (l++[x])=e3 r (fo r l) x:=by rw[Gu];show e3 r _ (e3 r x none)=_;rw[rO]
theorem ZJ{r:Int}{l cc:aa (av Int)}(h:l.Perm cc):fo r l=fo r cc:=by
 induction h with
 |nil=>rfl
 |cons x _ C=>show e3 r x _=e3 r x _;rw[C]
 |swap x y l=>show e3 r y (e3 r x _)=e3 r x (e3 r y _);rw[<-tZ,<-tZ,ZI r y x]
 |trans _ _ h1 al=>grind
theorem yW{r:Int}{l:aa (av Int)}(h:∀x∈l,x=none):fo r l=none:=by
 induction l with
 |nil=>rfl
 |cons x l E=>show e3 r x _=_;rw[h x ab,E λy C=>h y (m8 _ C)];rfl
theorem Qh{aA:Type}(r:Int)(f g:aA->av Int)(l:aa aA):fo r (l.map λa=>e3 r (f a) (g a))=e3 r (fo r (l.map f)) (fo r (l.map g)):=by
 induction l with
 |nil=>rfl
 |cons x l C =>
  show e3 r (e3 r (f x) (g x)) (fo r (l.map _))=e3 r (e3 r (f x) (fo r (l.map f))) (e3 r (g x) (fo r (l.map g)));rw[C,tZ,tZ,<-tZ r (g x),ZI r (g x),tZ]
theorem ajv{aA:Type}(r:Int)(f:aA->av Int)(c:aA->Nat)(l:aa aA)(n:Nat)(h:∀a∈l,c a<n):
  fo r (l.map f)=fo r ((List.range n).map λk=>fo r (l.map λa=>if c a=k then f a else none)):=by
 induction l with
 |nil =>
  symm
  refine yW λx E=>?_;simp at E;obtain⟨_,rfl⟩:=E.2;rfl
 |cons a l C =>
  have e:((List.range n).map λk=>fo r ((a::l).map λa=>if c a=k then f a else none))=(List.range n).map λk=>e3 r (if c a=k then f a else none) (fo r (l.map λa=>if c a=k then f a else none)):=rfl;rw[e,Qh,<-C λb I=>h b (m8 _ I)];have:fo r ((List.range n).map λk=>if c a=k then f a else none)=f a:=by
   have M:=h a (ow ..);clear e C h
   induction n with
   |zero=>omega
   |succ n C =>
    rw[pb,hN,Gu];show e3 r _ (e3 r (if c a=n then f a else none) none)=_;rw[rO]
    by_cases e:c a=n
    ·rw[if_pos e,yW,Gc]
     grind
    ·rw[if_neg e,rO];grind
  rw[this];rfl
def bn{aA:Type}(n:Nat)(f:Nat->av aA):aa (Nat × aA):=(List.range n).filterMap λi=>(f i).map λx=>(i,x)
theorem uh{aA:Type}(n:Nat)(f:Nat->av aA):bn (n+1) f=bn n f++(match f n with|some x=>[(n,x)]|none=>[]):=by
 unfold bn;rw[pb,List.filterMap_append]
 grind
theorem avY{aA:Type}(f:Nat->av aA):bn 0 f=[]:=rfl
theorem kl{aA:Type}{n:Nat}{f:Nat->av aA}{x:aA}:(i,x)∈bn n f↔i<n/\f i=some x:=by
 unfold bn;simp only[List.mem_filterMap,CT,mw,Prod.mk.injEq]
 grind
theorem my{aA:Type}(n:Nat)(f:Nat->av aA):(bn n f).length<=n:=by
 unfold bn
 grind
theorem zg{aA:Type}(n:Nat)(f:Nat->av aA):(bn n f).Pairwise λx y=>x.1<y.1:=by
 induction n with
 |zero=>exact .nil
 |succ n E =>
  rw[uh,rI];refine⟨E,?_,λa C b I=>?_⟩
  ·cases f n <;> simp
  ·obtain⟨i,x⟩:=a;have:=kl.1 C
   grind
theorem y7{aA:Type}{n:Nat}{f g:Nat->av aA}(h:∀i,i<n->f i=g i):bn n f=bn n g:=by
 induction n with
 |zero=>rfl
 |succ n C=>rw[uh,uh,C λi ai=>h i J,h n J]
theorem aeL{aA:Type}:∀{l cc:aa (Nat × aA)},(l.Pairwise λx y=>x.1<y.1)->(cc.Pairwise λx y=>x.1<y.1)->(∀x,x∈l↔x∈cc)->l=cc
 | [],[],_,_,_=>rfl
 | [],b::cc,_,_,h=>by have:=(h b).2 (ow ..);grind
 |a::l,[],_,_,h=>by have:=(h a).1 (ow ..);grind
 |a::l,b::cc,h1,al,h=>by
  rw[vj]at h1 al;have C:a=b:=ab
  subst C;rw[aeL h1.2 al.2 λx=>?_]
  grind
theorem St{aA:Type}{n:Nat}{f:Nat->av aA}{l:aa (Nat × aA)}(h1:l.Pairwise λx y=>x.1<y.1)(al:∀i x,(i,x)∈l↔i<n/\f i=some x):l=bn n f :=
 aeL h1 (zg n f) λ⟨i,x⟩=>by rw[al,kl]
theorem Pm{aA:Type}(r:Int)(f:aA->av Int)(p:aA->ak)(l:aa aA):fo r ((l.filter p).map f)=fo r (l.map λa=>if p a=true then f a else none):=by
 induction l with
 |nil=>rfl
 |cons a l C =>
  rw[rK]
  by_cases h:p a=true
  ·rw[if_pos h];show e3 r (f a) _=e3 r (if p a=true then f a else none) _
   grind
  ·rw[if_neg h];show _=e3 r (if p a=true then f a else none) _;rw[C,if_neg h];rfl
theorem KQ{aA:Type}{r:Int}{f g:aA->av Int}{l:aa aA}(h:∀a∈l,f a=g a):fo r (l.map f)=fo r (l.map g):=by rw[qO h]
theorem ZK{aA:Type}(r:Int)(f:aA->av Int)(c:aA->Nat)(ao:Nat->Nat)(C:∀i j,i<=j->ao i<=ao j)(E:ao 0=0)(l:aa aA):
  ∀eI,fo r ((List.range eI).map λj=>fo r (l.map λa=>if ao j<=c a/\c a<ao (j+1)then f a else none))=fo r (l.map λa=>if c a<ao eI then f a else none)
 |0=>by
  symm
  refine yW λx I=>?_
  grind
 |eI+1=>by
  rw[pb,hN,Gu,ZK r f c ao C E l eI];show e3 r _ (e3 r _ none)=_;rw[rO,<-Qh];refine KQ λa _=>?_;have:=C eI (eI+1) J
  by_cases h1:c a<ao eI
  ·rw[if_pos h1,if_neg J,if_pos J,rO]
  ·rw[if_neg h1,Gc]
   grind
structure jL where
 A:Nat->Int
 B:Nat->Int
 q:Nat->ak
def rc(k:Int)(aQ:Nat->Int)(t:Nat)(s:jL)(v:Nat):av Int :=
 if k=1 then(if s.q v=true then some (v:Int)else none)
 else if k=5 then(if t % 2=0 then(if s.q v=true then some 1 else none)else if s.A v=0 then some (aQ v)else none)
 else if s.q v=true then some (s.A v)else none
def te(k:Int)(s:jL)(v:Nat):ak:=if k=1 then s.A v == -1 else if k=5 then s.A v == 0 else true
def fh(k:Int)(t:Nat):Int:=if k=2 then 1 else if k=4 then 5 else if k=5/\t % 2=0 then 2 else 4
def iU(r:Int)(af:aa GE)(x:Nat->av Int)(v:Nat):av Int:=fo r (af.map λg=>if g.f=v then(x g.t).map (gw r g.w)else none)
def tf(w:Int):ak:=decide (-9223372036854775808<=w/\w<9223372036854775808)
def DX(r:Int):Int:=if r=2\/r=5 then 0 else eB
def q6(r:Int)(o:av Int):av Int:=match o with|none=>none|some w=>if w=DX r then none else some w
def kL(k:Int)(aQ:Nat->Int)(t:Nat)(s:jL)(v:Nat)(y:av Int):Int × Int × ak :=
 if k=1 then(match y with|some val=>if s.A v = -1 then((t:Int),val,true)else(s.A v,s.B v,false)|none=>(s.A v,s.B v,false))
 else if k=4 then(y.getD 0,s.B v,decide (y.getD 0≠0))
 else if k=5 then(if s.A v≠0 then(s.A v,s.B v,false)else if t % 2=0 then(if y.isSome=true then(2,s.B v,false)else(s.A v,s.B v,false))
  else match y with|some val=>if aQ v<val then(1,s.B v,true)else(s.A v,s.B v,false)|none=>(1,s.B v,true))
 else match y with|some val=>if val<s.A v then(val,s.B v,true)else(s.A v,s.B v,false)|none=>(s.A v,s.B v,false)
def tg(k src v:Int):Int:=if k=3 then v else if k=5 then 0 else if k=4/\v=src then 1 else if v=src\/k=4 then 0 else if k=1 then -1 else 4611686018427387904
def th(k src v:Int):ak:=if k=3 then true else if k=5 then false else decide (v=src)
structure jM where
 k:Int
 n:Nat
 src:Int
 len:Int
 u6:Nat->Nat->Int
 af:aa GE
 lim:Nat
section
variable (e:jM)
def jM.aQ(t:Nat):Nat->Int:=e.u6 ((t-1) / 2)
def jM.M8(t:Nat)(s:jL):Nat->av Int:=rc e.k (e.aQ t) t s
def jM.Bx(t:Nat)(s:jL)(v:Nat):av Int:=if te e.k s v=true then iU (fh e.k t) e.af (e.M8 t s) v else none
def jM.step(t:Nat)(s:jL):jL where
 A v:=(kL e.k (e.aQ t) t s v (q6 (fh e.k t) (e.Bx t s v))).1
 B v:=(kL e.k (e.aQ t) t s v (q6 (fh e.k t) (e.Bx t s v))).2.1
 q v:=(kL e.k (e.aQ t) t s v (q6 (fh e.k t) (e.Bx t s v))).2.2
def jM.st:Nat->jL
 |0=>{ A:=λv=>tg e.k e.src v,B:=λ_=>-1,q:=λv=>th e.k e.src v }
 |t+1=>e.step (t+1) (jM.st t)
def jM.x(t:Nat):Nat->av Int:=e.M8 t (e.st (t-1))
def jM.S(t v:Nat):av Int:=e.Bx t (e.st (t-1)) v
def jM.ovP(t ao ai:Nat):Prop:=1<=t/\∃v w,ao<=v/\v<ai/\e.S t v=some w/\tf w=false
def avZ(k len:Int)(t:Nat)(s:jL)(v:Nat):ak:=if k=4/\len<=t then false else if k=5 then s.A v == 0 else s.q v
def jM.liP(t ao ai:Nat):Prop:=∃v,ao<=v/\v<ai/\avZ e.k e.len t (e.st t) v=true
open Classical in
noncomputable def jM.gn (t:Nat):Int:=if e.ovP t 0 e.n then 3 else if ¬e.liP t 0 e.n then 1 else if t=e.lim then 2 else 0
end
theorem jM.Rc(e:jM):e.gn e.lim≠0:=by unfold jM.gn;omega
theorem jM.last(e:jM):∃aw,aw<=e.lim/\e.gn aw≠0/\∀t,t<aw->e.gn t=0:=by
 have:∀n,(∃aw,aw<=n/\e.gn aw≠0/\∀t,t<aw->e.gn t=0)\/∀t,t<=n->e.gn t=0:=by
  intro n
  induction n with
  |zero =>
   grind
  |succ n C =>
   grind
 rcases this e.lim with h|h
 ·exact h
 ·exact absurd ab e.Rc
theorem Qi{r:Int}(al:r≠2)(I:r≠5):∀l:aa (av Int),(fo r l=none/\∀x∈l,x=none)\/∃m,fo r l=some m/\some m∈l/\∀x,some x∈l->m<=x
 | []=>.inl ⟨rfl,λx C=>by cases C⟩
 |none::l=>by
  rcases Qi al I l with⟨h,E⟩|⟨m,h,M,E⟩
  ·refine .inl ⟨h,λx C=>?_⟩;rcases hf.1 C with e|e
   ·exact e
   ·exact E x e
  ·refine .inr ⟨m,h,m8 _ M,λx C=>?_⟩;rcases hf.1 C with e|e
   ·cases e
   ·exact E x e
 |some a::l=>by
  rcases Qi al I l with⟨h,E⟩|⟨m,h,M,E⟩
  ·refine .inr ⟨a,?_,ow ..,λx C=>?_⟩
   ·show e3 r (some a) (fo r l)=_;rw[h];rfl
   ·rcases hf.1 C with e|e
    ·cases e;exact CV _
    ·have:=E _ e;cases this
  ·have V:fo r (some a::l)=some (min a m):=by show e3 r (some a) (fo r l)=_;rw[h];show some (ka r a m)=_;unfold ka;rw[if_neg al,if_neg I]
   refine .inr ⟨min a m,V,?_,λx C=>?_⟩
   ·by_cases Z:a<=m
    ·rw[Int.min_eq_left Z];exact ow ..
    ·rw[Int.min_eq_right J];exact m8 _ M
   ·rcases hf.1 C with e|e
    ·cases e;exact Int.min_le_left _ _
    ·exact Kd (Int.min_le_right _ _) (E x e)
structure av0 (e:jM) (t:Nat) (s:jL):Prop where
 le:∀v,(e.step t s).A v<=s.A v
 nG:∀g∈e.af,s.q g.t=true->s.A g.f<=eB->(e.step t s).A g.f<=gw (fh e.k t) g.w (s.A g.t)
 is:∀v,(e.step t s).A v=s.A v\/∃g∈e.af,g.f=v/\s.q g.t=true/\(e.step t s).A v=gw (fh e.k t) g.w (s.A g.t)
 q:∀v,(e.step t s).q v=decide ((e.step t s).A v<s.A v)
 B:∀v,(e.step t s).B v=s.B v
theorem agf{e:jM}(hk:e.k=2\/e.k=3)(t:Nat)(s:jL):av0 e t s:=by
 have fD:e.k≠1:=J
 have qF:e.k≠5:=J
 have tK:e.k≠4:=J
 have gg:fh e.k t≠2:=by unfold fh;rcases hk with h|h <;> simp[h]
 have W7:fh e.k t≠5:=by unfold fh;rcases hk with h|h <;> simp[h]
 have tM:∀v,e.M8 t s v=if s.q v=true then some (s.A v)else none:=λv=>by unfold jM.M8 rc;rw[if_neg fD,if_neg qF]
 have Jp:∀v,e.Bx t s v=fo (fh e.k t) (e.af.map λg=>if g.f=v then(if s.q g.t=true then some (gw (fh e.k t) g.w (s.A g.t))else none)else none):=λv=>by
  unfold jM.Bx te iU;rw[if_neg fD,if_neg qF,if_pos rfl];refine KQ λg _=>?_;rw[tM]
  by_cases h:g.f=v
  ·rw[if_pos h,if_pos h];by_cases ac:s.q g.t=true <;> simp[ac]
  ·rw[if_neg h,if_neg h]
 have N8:∀v y,kL e.k (e.aQ t) t s v y=(match y with|some val=>if val<s.A v then(val,s.B v,true)else(s.A v,s.B v,false)|none=>(s.A v,s.B v,false)):=λv y=>by
  unfold kL;rw[if_neg fD,if_neg tK,if_neg qF];try(cases y <;> rfl)
 have aAC:DX (fh e.k t)=eB:=by unfold DX;rw[if_neg (by simp[gg,W7])]
 have V:∀v,∃a q,kL e.k (e.aQ t) t s v (q6 (fh e.k t) (e.Bx t s v))=(a,s.B v,q)/\a<=s.A v/\q=decide (a<s.A v)/\(a=s.A v\/∃g∈e.af,g.f=v/\s.q g.t=true/\a=gw (fh e.k t) g.w (s.A g.t)) /\
   ∀g∈e.af,g.f=v->s.q g.t=true->s.A v<=eB->a<=gw (fh e.k t) g.w (s.A g.t):=λv=>by
  have mem:∀g∈e.af,g.f=v->s.q g.t=true->some (gw (fh e.k t) g.w (s.A g.t))∈e.af.map λg=>if g.f=v then(if s.q g.t=true then some (gw (fh e.k t) g.w (s.A g.t))else none)else none:=λg a5 h1 al =>
   fL.2 ⟨g,a5,by rw[if_pos h1,if_pos al]⟩
  rcases Qi gg W7 (e.af.map λg=>if g.f=v then(if s.q g.t=true then some (gw (fh e.k t) g.w (s.A g.t))else none)else none)with⟨h,bg⟩|⟨m,h,hm,bg⟩
  ·refine⟨s.A v,false,?_,CV _,by simp,.inl rfl,λg a5 h1 al _=>?_⟩
   ·rw[Jp,h,N8];rfl
   ·have:=bg _ (mem g a5 h1 al);cases this
  ·obtain⟨g,a5,C⟩:=fL.1 hm
   by_cases h1:g.f=v
   case neg=>rw[if_neg h1]at C;cases C
   rw[if_pos h1]at C
   by_cases al:s.q g.t=true
   case neg=>rw[if_neg al]at C;cases C
   rw[if_pos al]at C;injection C with C
   by_cases cX:m=eB
   ·refine⟨s.A v,false,?_,CV _,by simp,.inl rfl,λcb M E I ai=>?_⟩
    ·rw[Jp,h,N8];unfold q6;rw[aAC];simp only;rw[if_pos cX]
    ·have:=bg _ (mem cb M E I);omega
   ·have nG:q6 (fh e.k t) (some m)=some m:=by unfold q6;rw[aAC];simp only;rw[if_neg cX]
    by_cases Z:m<s.A v
    ·refine⟨m,true,?_,Int.le_of_lt Z,by simp[Z],.inr ⟨g,a5,h1,al,C.symm⟩,λcb M E I _=>bg _ (mem cb M E I)⟩;rw[Jp,h,N8,nG];simp only;rw[if_pos Z]
    ·refine⟨s.A v,false,?_,CV _,by simp,.inl rfl,λcb M E I _=>?_⟩
     ·rw[Jp,h,N8,nG];simp only;rw[if_neg Z]
     ·have:=bg _ (mem cb M E I);omega
 refine⟨λv=>?_,λg a5 cz ai=>?_,λv=>?_,λv=>?_,λv=>?_⟩
 ·obtain⟨a,q,h1,al,_⟩:=V v;show(kL ..).1<=_;rw[h1];exact al
 ·obtain⟨a,q,h1,_,_,_,al⟩:=V g.f;show(kL ..).1<=_;rw[h1];exact al g a5 rfl cz ai
 ·obtain⟨a,q,h1,_,_,al,_⟩:=V v;have aY:(e.step t s).A v=a:=by show(kL ..).1=_;rw[h1]
  rw[aY];exact al
 ·obtain⟨a,q,h1,_,al,_⟩:=V v;have aY:(e.step t s).A v=a:=by show(kL ..).1=_;rw[h1]
  rw[aY];show(kL ..).2.2=_;rw[h1];exact al
 ·obtain⟨a,q,h1,_⟩:=V v;show(kL ..).2.1=_;rw[h1]
structure uv (e:jM) (es:aa GE) (t:Nat):Prop where
 hp:∀v,v<e.n->0<=(e.st t).A v/\(e.st t).A v<=v
 mL:∀(c:Nat->Nat),(∀g∈es,c g.f=c g.t)->∀v,v<e.n->c ((e.st t).A v).toNat=c v
 off:∀g∈e.af,(e.st t).q g.t=false->(e.st t).A g.f<=(e.st t).A g.t
 low:∀m l,n1 e.n (zK es) m l->∀(v:Nat) (x:Int),l[v]? = some x->0<=x->x<=t->(e.st t).A v<=m
structure vX (e:jM) (es:aa GE):Prop where
 k:e.k=3
 n:e.n<=4096
 w:∀g∈e.af,g.w=1/\g.f<e.n/\g.t<e.n
 to:∀g∈e.af,∃cb∈es,(cb.f=g.f/\cb.t=g.t)\/(cb.f=g.t/\cb.t=g.f)
 e5:∀g∈zK es,∃cb∈e.af,cb.f=g.t/\cb.t=g.f
theorem axP(h:a<5000):gw 4 1 a=a:=by unfold gw eB;simp only[show ¬((4:Int)=2) by decide,show ¬((4:Int)=5) by decide,show ¬((4:Int)=1) by decide,fc];rw[if_neg J];omega
theorem uv.next{e:jM}{es:aa GE}(E:vX e es){t:Nat}(H:uv e es t):uv e es (t+1):=by
 have S:=agf (.inr E.k) (t+1) (e.st t);have mZ:fh e.k (t+1)=4:=by unfold fh;simp[E.k]
 have em:∀g∈e.af,gw (fh e.k (t+1)) g.w ((e.st t).A g.t)=(e.st t).A g.t:=λg C=>by have h1:=E.w g C;have al:=H.hp g.t h1.2.2;have:=E.n;rw[mZ,h1.1,axP J]
 have I:e.st (t+1)=e.step (t+1) (e.st t):=rfl;have V:∀g∈e.af,(e.st (t+1)).A g.f<=(e.st t).A g.t:=λg C=>by
  have h1:=E.w g C;rw[I];cases Z:(e.st t).q g.t with
  |true=>have:=S.nG g C Z (by have:=H.hp g.f h1.2.1;have:=E.n;unfold eB;omega);rwa[em g C]at this
  |false=>exact Kd (S.le g.f) (H.off g C Z)
 refine⟨λv aI=>?_,λc aU v aI=>?_,λg C Z=>?_,λm l bg v x aR ap h1=>?_⟩
 ·rw[I];have h1:=S.le v;have al:=H.hp v aI;refine⟨?_,J⟩;rcases S.is v with h|⟨g,C,_,_,h⟩
  ·rw[h];exact al.1
  ·rw[h,em g C];exact(H.hp g.t (E.w g C).2.2).1
 ·rw[I];rcases S.is v with h|⟨g,C,bx,_,h⟩
  ·rw[h];exact H.mL c aU v aI
  ·rw[h,em g C,H.mL c aU g.t (E.w g C).2.2,<-bx];obtain⟨cb,M,h1|h1⟩:=E.to g C
   ·rw[<-h1.1,<-h1.2];exact(aU cb M).symm
   ·rw[<-h1.1,<-h1.2];exact aU cb M
 ·have h1:=V g C;have al:=S.q g.t;rw[<-I,Z]at al;have aM:=OS al.symm;omega
 ·by_cases qp:x<=t
  ·rw[I];exact Kd (S.le v) (H.low m l bg v x aR ap qp)
  ·obtain⟨g,C,cy,bx⟩:=bg.pre v x aR J;obtain⟨cb,M,h1,al⟩:=E.e5 g C;have aM:=V cb M;rw[h1,al,cy]at aM;exact Kd aM (H.low m l bg g.f (x-1) bx J J)
theorem uv.all{e:jM}{es:aa GE}(E:vX e es):∀t,uv e es t
 |0=>by
  have C:∀v,(e.st 0).A v=v:=λv=>by show tg e.k e.src v=_;unfold tg;rw[if_pos E.k]
  have eq:∀v,(e.st 0).q v=true:=λv=>by show th e.k e.src v=_;unfold th;rw[if_pos E.k]
  refine⟨λv V=>by rw[C];omega,λc aU v V=>by rw[C];rfl,λg a5 I=>(by rw[eq]at I;cases I),λm l M v x Z ap h1=>?_⟩;have:x=0:=J
  subst this;rw[M.zero v Z,C];exact CV _
 |t+1=>(uv.all E t).next E
theorem vX.EK{e:jM}{es:aa GE}(E:vX e es)(M:wo e.n es){t:Nat}(cz:∀v,v<e.n->(e.st t).q v=false):lu e.n es ((List.range e.n).map λv=>((e.st t).A v).toNat):=by
 have H:=uv.all E t;have I:∀v,v<e.n->((List.range e.n).map λv=>((e.st t).A v).toNat)[v]? = some ((e.st t).A v).toNat:=λv C=>by rw[sS,yH C];rfl
 have C:∀(v x:Nat),((List.range e.n).map λv=>((e.st t).A v).toNat)[v]? = some x->v<e.n/\x=((e.st t).A v).toNat:=λv x h=>by have h1:=qS h;simp at h1;rw[I v h1]at h;exact⟨h1,by cases h;rfl⟩
 refine⟨by simp,λg oV=>?_,λv x h=>?_,λc aU v x h=>?_⟩
 ·have h1:=M g oV;rw[I _ h1.1,I _ h1.2];have m1:=(Dn oV).1;have m2:=(Dn oV).2;obtain⟨a,Z,ax,a2⟩:=E.e5 _ m1;obtain⟨b,aG,V,bO⟩:=E.e5 _ m2;have al:=H.off a Z (cz _ (E.w a Z).2.2);have aM:=H.off b aG (cz _ (E.w b aG).2.2);rw[ax,a2]at al;have V:b.f=g.f:=V;have bO:b.t=g.t:=bO;rw[V,bO]at aM;rw[show(e.st t).A g.f=(e.st t).A g.t by omega]
 ·obtain⟨h1,rfl⟩:=C v x h;have:=H.hp v h1;omega
 ·obtain⟨h1,rfl⟩:=C v x h;exact H.mL c aU v h1
theorem vX.quiet{e:jM}{es:aa GE}(E:vX e es)(I:wo e.n es){t:Nat}(cy:e.n<=t)(v:Nat)(aI:v<e.n):(e.st t).q v=false:=by
 cases t with
 |zero=>omega
 |succ t =>
  have S:=agf (.inr E.k) (t+1) (e.st t);have iq:=uv.all E (t+1);have H:=uv.all E t;rw[show e.st (t+1)=e.step (t+1) (e.st t)from rfl,S.q v];refine f9 λV=>?_;have V:(e.st (t+1)).A v<(e.st t).A v:=V;have h1:=iq.hp v aI;have hm:((e.st (t+1)).A v).toNat<e.n:=J
  obtain⟨l,C⟩:=YL (aeH I) hm;have Z:∃x,l[v]? = some x:=⟨_,jU (by rw[C.len];exact aI)⟩
  obtain⟨x,Z⟩:=Z;have ba:=C.jW v x Z;have ap:0<=x:=by
   have aU:=iq.mL (λaT=>if l[aT]? = some (-1)then 0 else 1) (λg a5=>?_) v aI
   ·have ar:l[((e.st (t+1)).A v).toNat]? = some 0:=C.src;simp only[ar,Z]at aU
    by_cases e:x = -1
    ·subst e;simp at aU
    ·omega
   ·have h1:=I g a5;have m1:=(Dn a5).1;have m2:=(Dn a5).2;obtain⟨a,dg⟩:∃a,l[g.f]? = some a:=⟨_,jU (by rw[C.len];exact h1.1)⟩
    obtain⟨b,aG⟩:∃b,l[g.t]? = some b:=⟨_,jU (by rw[C.len];exact h1.2)⟩
    have qG:=C.jW _ _ dg;have Jq:=C.jW _ _ aG;simp only[dg,aG]
    by_cases g9:a = -1
    ·by_cases yo:b = -1
     ·rw[g9,yo]
     ·obtain⟨y,M,aM,_⟩:=C.post _ m2 b aG J;rw[show(⟨g.t,g.f,g.w⟩:GE).t=g.f from rfl,dg]at M;cases M;omega
    ·obtain⟨y,M,aM,_⟩:=C.post _ m1 a dg J;rw[aG]at M;cases M;rw[if_neg (by simp;omega),if_neg (by simp;omega)]
  have:=H.low _ l C v x Z ap J;omega
section
variable {e:jM} {gs:aa GE} {s:Nat}
end
def hit(D l:aa Int)(v:Nat):ak:=decide (l[v]? = D[v]?)
end Go.Ax
