/- Parts of the proof: Hw1: each statement bears its own conditions. -/
import Derived.ChangeArms
import Derived.Below
import Derived.Shelf.SlSortCmp.NoneTotal
import Derived.OpenShut
import Derived.WideShapes
import Init
import Derived.Test.YthlhhajnbgjfmaaGreatRcCm2
namespace Go.Ax
open Go Go.Proofs Go.Sort Go.Shelf
set_option linter.all false
set_option maxHeartbeats 1000000
variable {h:ae} {v:X} {U:Nat} {cs:aa X} {b i:Nat} {t:TypeId} {f:FuncId} {off:Nat} {cb:aa (Place × aa X)} {aU o:aw Nat} {ac:ae} {c:aa X} {ao:Nat} {mf:aw Nat} {aE:aa X} {aj:Nat} {args:aa X} {z:Nat} {ap:aa ae} {mq:IntKind} {Y cap:Nat} {a:Int} {r KJ:Nat} {bJ:al} {y:X} {A L:aa Nat} {K:bP} {Ba:FuncId} {b4 tm:Nat} {a9:World} {b6:aa Int} {cE dO dM:Nat} {hD:IntKind} {ai:ca} {dy:Nat} {D5:Ren} {B:Nat} {ar:ae} {j:Nat} {h1:ae} {N:Nat}
section
variable {P:Program}  {s:al}
theorem CK{n:Int}(g:0<=n)(h1:n<9223372036854775808):IntKind.wrap .i64 n=n:=by
 rw[<-nL];obtain⟨m,rfl⟩:=By g;show zC .i64 m=_;unfold zC x2;rw[ov]
 grind
theorem ajd{g:aa Nat}{es:aa MapEntry}(h:∀e∈es,e.born<cE):JU g es cE=true:=by
 unfold JU;cases es with
 |nil=>simp
 |cons e es =>
  have:=h e (by simp);simp[ov,this]
end
def B8(cE:Nat):aa MapEntry->al
 | []=>true
 |e::es=>(match es with
  | []=>Nat.blt e.born cE
  |f::_=>Nat.blt e.born f.born)&&B8 cE es
theorem Wd{cE:Nat}:∀{es:aa MapEntry},B8 cE es=true->Co es/\∀e∈es,e.born<cE
 | [],_=>⟨List.Pairwise.nil,ab⟩
 | [e],h=>by unfold B8 at h;simp only[eC,ov,MS]at h;exact⟨List.pairwise_singleton ..,ab⟩
 |e::f::es,h=>by
  unfold B8 at h;simp only[eC,ov,MS]at h;obtain⟨h1,ar⟩:=Wd h.2;have g:∀x∈f::es,e.born<x.born:=λx C=>by
   rcases g5.1 C with rfl|C
   ·omega
   ·have:=sR h1 C;omega
  refine⟨List.Pairwise.cons g h1,λx C=>?_⟩
  grind
section
variable {P:Program}
def vJ(aBm sI:al)(dx avy:Int):Int:=if aBm then 3 else if sI then(if dx == avy then 2 else 0)else 1
end
section
variable {az:Type}
def bc(enc:az->aa X):aa az->aa X
 | []=>[]
 |x::l=>enc x++bc enc l
theorem gg{enc:az->aa X}{k:Nat}(g:∀x,(enc x).length=k):∀l:aa az,(bc enc l).length=l.length*k
 | []=>by simp[bc]
 |x::l=>by simp[bc,g,gg g l,Ey];omega
theorem um{enc:az->aa X}{k:Nat}(g:∀x,(enc x).length=k):∀{l:aa az} {i:Nat} {x:az},l[i]? = some x->((bc enc l).drop (i*k)).take k=enc x
 | [],i,x,h=>ab
 |y::l,0,x,h=>by simp at h;subst h;simp[bc,<-g y]
 |y::l,i+1,x,h=>by
  have h:l[i]? = some x:=ab
  have e:(i+1)*k=(enc y).length+i*k:=ab
  rw[e,bc,MU,MJ J,sU];have:(enc y).length+i*k-(enc y).length=i*k:=J
  rw[this];exact um g h
theorem alG{enc:az->aa X}{k:Nat}(g:∀x,(enc x).length=k)(z:az):∀{l:aa az} {i:Nat},i<l.length->m9 (enc z) (bc enc l) (i*k)=some (bc enc (l.set i z)):=by
 intro l i aj;rw[s3,if_pos (by rw[gg g,g];have:=p2 k aj;grind)]
 congr 1
 have C:∀(l:aa az) (i:Nat),i<l.length->(bc enc l).take (i*k)++(enc z++(bc enc l).drop (i*k+k))=bc enc (l.set i z):=by
  intro l
  induction l with
  |nil=>grind
  |cons y l I =>
   intro i aj;cases i with
   |zero=>simp[bc,<-g y,MU]
   |succ i =>
    have e:(i+1)*k=(enc y).length+i*k:=ab
    have E:(i+1)*k+k=(enc y).length+(i*k+k):=J
    rw[List.set_cons_succ,bc,bc,E,e,List.take_append,MU];rw[o8 J,MJ J]
    grind
 grind
end
section
variable {P:Program}  {az:Type}
theorem iT(m:Nat)(h:m<1000000000):IntKind.wrap .i64 (m:Int)=(m:Int):=CK J J
end
section
variable {P:Program}  {az:Type} {s:al}
theorem Ke(n:Nat)(h:n<=12):IntKind.wrap .u64 (n:Int)=(n:Int):=by
 rw[<-nL];show zC .u64 n=_;unfold zC x2;rw[ov]
 grind
theorem ND{R:az->az->Prop}(C:∀x y,R x y->R y x->x=y):∀{l b6:aa az},l.Perm b6->l.Pairwise R->b6.Pairwise R->l=b6
 | [],b6,g,_,_=>by rw[List.nil_perm.1 g]
 |x::l,[],g,_,_=>by have:=g.length_eq;grind
 |x::l,y::b6,g,h1,ar=>by
  have V:∀z∈l,R x z:=λz I=>sR h1 I;have M:∀z∈b6,R y z:=λz I=>sR ar I;have E:x=y:=by
   have m1:x∈y::b6:=ab
   have Z:y∈x::l:=ab
   grind
  subst E;rw[ND C (List.Perm.cons_inv g) ab ab]
end
def fO(a b:Int):Int:=if a<b then -1 else if b<a then 1 else 0
def hB:aa Int->Int
 | []=>0
 |x::l=>if x=0 then hB l else x
section
variable {P:Program}  {s:al}
def lb(x:Int × Int):aa X:=[(x.1:X),(x.2:X)]
def kT(x y:Int × Int):Int:=hB [fO x.1 y.1,fO x.2 y.2]
end
section
variable {P:Program} {az:Type}
def d5(h:ae)(v:X)(enc:az->aa X)(k:Nat)(l:aa az)(ao aj:Nat):Prop :=
 (l=[]/\v = .slice none 0 0)\/∃b,ao<=b/\b<aj/\v = .slice (some ⟨b,0,some k⟩) l.length l.length/\u h b=some (.cells (bc enc l) false)
theorem rX{enc:az->aa X}:∀(l:aa az) (x:az),bc enc (l++[x])=bc enc l++enc x
 | [],x=>by simp[bc]
 |y::l,x=>by simp[bc,rX l x]
theorem sn(h:ae)(b k:Nat):u (x1 h b) k=if k=b then none else u h k:=Nv h b k
theorem qY{s:Nat}{l:aa X}{g:Nat}(ap:0<s):qh h U s l g = .ok (.val (.slice (some ⟨U,0,some s⟩) g g) (T h U (.cells l false)) (U+1)):=by
 cases s with
 |zero=>omega
 |succ s=>rfl
theorem s2{aO:aw Nat}{n:Nat}{k:aa X->R fl}(g:u h b=some (.cells cs bJ))(E:0<n)(C:n<=cs.length-off):k6 h (some ⟨b,off,aO⟩) n k=k ((cs.drop off).take n):=by
 cases n with
 |zero=>omega
 |succ n =>
  show cellsOf h b (λcs _=>R.of "read - out of block" (na (n+1) (m6 cs off)) k)=_;rw[vD g,rW,q1,if_pos ab];rfl
theorem as0{enc:az->aa X}{k:Nat}(hk:∀x,(enc x).length=k)(E:∀x,ea (enc x)=true)(g:0<k){l:aa az}(aJ:d5 h v enc k l ao U)(I:ao<=U){x:az}(ar:u h b4=some (.cells cs bJ))(a1:(cs.drop dO).take k=enc x)(jH:(l.length+1)*k<=1000000):
  ∃dN ac,dT k h U v (.slice (some ⟨b4,dO,mf⟩) 1 tm) = .ok (.val dN ac (U+1))/\d5 ac dN enc k (l++[x]) ao (U+1)/\(∀b,b<ao->u ac b=u h b):=by
 have C:k<=cs.length-dO:=ab
 have h1:l.length+1<=1000000:=hy (by have:=Bz (l.length+1) g;omega) jH;rcases aJ with⟨rfl,rfl⟩|⟨b,ig,fw,rfl,aT⟩
 ·refine⟨.slice (some ⟨U,0,some k⟩) 1 1,T h U (.cells (enc x) false),?_,.inr ⟨U,I,J,rfl,by simp[bc]⟩,ab⟩;unfold dT;simp only;rw[xo,ub,s2 ar g C,a1];unfold gT;have Z:Nat.ble (Nat.add 0 1) 0=false:=rfl;have V:(Nat.ble (Nat.mul (Nat.add 0 1) k) 1000000&&Nat.ble (Nat.add 0 1) 1000000)=true:=by
   simp only[eC,sW]
   grind
  rw[Z,V];exact qY g
 ·refine⟨.slice (some ⟨U,0,some k⟩) (l.length+1) (l.length+1),T (x1 h b) U (.cells (bc enc l++enc x) false),?_,.inr ⟨U,I,J,by simp,by simp[rX]⟩,λc aZ=>by rw[kW,if_neg J,sn,if_neg J]⟩
  unfold dT;simp only;rw[xo,ub,s2 ar g C,a1];unfold gT;have Z:Nat.ble (Nat.add l.length 1) l.length=false:=by
   cases hbl:Nat.ble (Nat.add l.length 1) l.length with
   |false=>rfl
   |true=>have:=l0 hbl;grind
  have V:(Nat.ble (Nat.mul (Nat.add l.length 1) k) 1000000&&Nat.ble (Nat.add l.length 1) 1000000)=true:=by
   simp only[eC,sW]
   grind
  rw[Z,V];show q8 h U k (some ⟨b,0,some k⟩) l.length l.length (l.length+1) (enc x)=_;unfold q8;simp only[vD aT];have M:na (Nat.mul l.length k) (m6 (bc enc l) 0)=some (bc enc l):=by rw[rW,pb,q1,if_pos (by rw[gg hk];grind)];rw[o8 (by rw[gg hk];grind)]
  rw[M];have ch:(!false&&Nat.beq 0 0&&Nat.beq (jo (bc enc l)) (Nat.mul l.length k)&&Nat.beq k k&&Nat.beq l.length l.length&&ea (enc x))=true:=by rw[ou,gg hk,E];simp
  show(bif _ then _ else _)=_;rw[ch,ka];exact qY g
end
section
variable {P:Program}  {s:al}
def pick(key:MapEntry->Int × Int)(len:MapEntry->Nat)(l:aa MapEntry):aa (Int × Int):=(l.filter (λe=>decide (0<len e))).map key
end
theorem O2{b:Int}:fO a b<0↔a<b:=by unfold fO;omega
theorem vF{b:Int}:fO a b=0↔a=b:=by unfold fO;omega
theorem Fw{x y:Int × Int}:kT x y<0↔x.1<y.1\/(x.1=y.1/\x.2<y.2):=by
 unfold kT hB hB hB
 by_cases h:fO x.1 y.1=0
 ·rw[if_pos h];rw[vF]at h
  by_cases ar:fO x.2 y.2=0
  ·rw[if_pos ar];rw[vF]at ar;omega
  ·rw[if_neg ar,O2];omega
 ·rw[if_neg h,O2];have:¬x.1=y.1:=λe=>h (vF.2 e);omega
theorem apn(x y z:Int × Int)(h1:¬kT y x<0)(ar:¬kT z y<0):¬kT z x<0:=by rw[Fw]at *;omega
theorem apo(x y:Int × Int)(h:kT x y<0):¬kT y x<0:=by rw[Fw]at *;omega
theorem aje(x y:Int × Int)(h1:¬kT y x<0)(ar:¬kT x y<0):x=y:=by
 rw[Fw]at *
 grind
section
variable {az:Type}
end
def lenOf(h:ae)(e:MapEntry):aw Nat:=match e.val with
 | .pointer (some a)=>(match u h a.block with
  |some (.cells cs _)=>(match gU cs (a.off+1)with
   |some (.slice _ n _)=>some n
   |_=>none)
  |_=>none)
 |_=>none
theorem EN{az:Type}{enc:az->aa X}(g:∀x,il (enc x)=true):∀l:aa az,il (bc enc l)=true
 | []=>rfl
 |x::l=>by
  have app:∀a b:aa X,il a=true->il b=true->il (a++b)=true:=by
   intro a
   induction a with
   |nil=>grind
   |cons y a C =>
    intro b h k;have h:(qa y&&il a)=true:=h;simp only[eC]at h;show(qa y&&il (a++b))=true
    grind
  exact app _ _ (g x) (EN g l)
section
variable {P:Program}
end
abbrev dz:=Int × Int × Int
def kf(x:dz):aa X:=[(x.1:X),(x.2.1:X),(x.2.2:X)]
def im(e:dz):aa dz->aa dz
 | []=>[e]
 |x::l=>bif fz x.1 e.1&&fz x.2.1 e.2.1 then(x.1,x.2.1,bif la e.2.2 x.2.2 then e.2.2 else x.2.2)::l else x::im e l
def h2(acc:aa dz):aa dz->aa dz
 | []=>acc
 |e::l=>h2 (im e acc) l
section
variable {P:Program}
def jT(x y:dz):Int:=hB [hB [fO x.1 y.1,fO x.2.1 y.2.1],fO x.2.2 y.2.2]
theorem Fx{x y:dz}:jT x y<0↔x.1<y.1\/(x.1=y.1/\(x.2.1<y.2.1\/(x.2.1=y.2.1/\x.2.2<y.2.2))):=by
 have C:kT (x.1,x.2.1) (y.1,y.2.1)=hB [fO x.1 y.1,fO x.2.1 y.2.1]:=rfl;have E:hB [fO x.1 y.1,fO x.2.1 y.2.1]=0↔x.1=y.1/\x.2.1=y.2.1:=by
  unfold hB hB hB
  by_cases h:fO x.1 y.1=0
  ·rw[if_pos h];rw[vF]at h
   by_cases ar:fO x.2.1 y.2.1=0
   ·rw[if_pos ar];rw[vF]at ar;omega
   ·rw[if_neg ar,vF];omega
  ·rw[if_neg h,vF];have:¬x.1=y.1:=λe=>h (vF.2 e);omega
 have g:=@Fw (x.1,x.2.1) (y.1,y.2.1);rw[C]at g;simp only at g;show hB (hB [fO x.1 y.1,fO x.2.1 y.2.1]::[fO x.2.2 y.2.2])<0↔_;generalize hB [fO x.1 y.1,fO x.2.1 y.2.1]=z at *
 unfold hB hB hB
 by_cases h:z=0
 ·rw[if_pos h]
  by_cases ar:fO x.2.2 y.2.2=0
  ·rw[if_pos ar];rw[vF]at ar;omega
  ·rw[if_neg ar,O2];omega
 omega
theorem apq(x y z:dz)(h1:¬jT y x<0)(ar:¬jT z y<0):¬jT z x<0:=by rw[Fx]at *;omega
theorem apr(x y:dz)(h:jT x y<0):¬jT y x<0:=by rw[Fx]at *;omega
theorem ajf(x y:dz)(h1:¬jT y x<0)(ar:¬jT x y<0):x=y:=by
 rw[Fx]at *
 grind
end
def oC(n:Nat):aa X:=[.int .i64 0,.int .u64 (n:Int)]
section
variable {P:Program}  {s:al}
theorem as1(m:Nat)(h:m<4294967296):IntKind.wrap .i64 (m:Int)=(m:Int):=CK J J
end
section
variable {P:Program}  {s:al}
end
def l8(x:dz):X:=.agg ⟨lb (x.1,x.2.1)⟩
def kb:Nat->aa dz->aa MapEntry
 |_,[]=>[]
 |i,x::l=>{ key:=l8 x,val:=.agg ⟨oC x.2.2.toNat⟩,born:=i }::kb (i+1) l
def wa(x e:dz):al:=fz x.1 e.1&&fz x.2.1 e.2.1
def Cp(n:Int):al:=match n with
 | .ofNat m=>Nat.blt m 2147483648
 | .negSucc _=>false
def lB(x:dz):Prop:=Cp x.1=true/\Cp x.2.1=true/\Cp x.2.2=true
def pG(e:dz):aa dz->aw (Nat × dz)
 | []=>none
 |x::l=>bif wa x e then some (0,x)else(pG e l).map (λp=>(p.1+1,p.2))
theorem I6(e:dz):∀(l:aa dz),im e l=match pG e l with
  |none=>l++[e]
  |some (p,x)=>l.set p (x.1,x.2.1,bif la e.2.2 x.2.2 then e.2.2 else x.2.2)
 | []=>rfl
 |x::l=>by
  unfold im pG;show(bif wa x e then _ else _)=_;cases wa x e with
  |true=>rfl
  |false =>
   simp only[my];rw[I6 e l]
   grind
theorem JB{e:dz}:∀{l:aa dz} {p:Nat} {x:dz},pG e l=some (p,x)->l[p]? = some x/\wa x e=true
 | [],p,x,h=>by cases h
 |y::l,p,x,h=>by
  unfold pG at h;cases ap:wa y e with
  |true=>grind
  |false =>
   rw[ap]at h;simp only[my]at h;cases g:pG e l with
   |none=>grind
   |some q =>
    rw[g]at h;cases h;obtain⟨h1,ar⟩:=JB    g
    grind
theorem ah2(i:Nat)(l:aa dz)(e:dz):kb i (l++[e])=kb i l++[{ key:=l8 e,val:=.agg ⟨oC e.2.2.toNat⟩,born:=i+l.length }]:=by
 induction l generalizing i with
 |nil=>rfl
 |cons x l g =>
  show _::kb (i+1) (l++[e])=_::(kb (i+1) l++_)
  grind
theorem We(e:dz):∀(i p:Nat) (l:aa dz),p<l.length->Gq (kb i l) p (l8 e) (.agg ⟨oC e.2.2.toNat⟩)=kb i (l.set p e)
 |_,_,[],h=>ab
 |i,0,x::l,h=>rfl
 |i,p+1,x::l,h=>by show _::Gq (kb (i+1) l) p _ _=_::kb (i+1) (l.set p e);rw[We e (i+1) p l ab]
section
variable {P:Program}  {s:al}
def Kf(P:Program)(dM:Nat):Prop:=∀x y:dz,lB x->lB y->kP P dM (l8 x) (l8 y)=some (wa y x)
theorem N4{dM:Nat}(C:Kf P dM){e:dz}(g:lB e):∀(i j:Nat) (l:aa dz),(∀x∈l,lB x)->kx P dM (l8 e) (kb i l) j=some ((pG e l).map λp=>(j+p.1,{ key:=l8 p.2,val:=.agg ⟨oC p.2.2.2.toNat⟩,born:=i+p.1 }))
 |i,j,[],_=>rfl
 |i,j,x::l,h=>by
  have E:=N4 C g (i+1) (j+1) l λy I=>h y ab;unfold kb kx pG;simp only[C e x g (h x ab)];cases wa x e with
  |true=>rfl
  |false =>
   simp only[my];rw[show Nat.succ j=j+1 from rfl,E];cases pG e l with
   |none=>rfl
   |some q =>
    grind
theorem ajg{x e:dz}(h:wa x e=true):l8 x=l8 e/\x.1=e.1/\x.2.1=e.2.1:=by
 unfold wa at h;simp only[eC,zv]at h;refine⟨?_,h⟩;unfold l8
 grind
theorem as2(C:Kf P dM){e:dz}(g:lB e){l:aa dz}(E:∀x∈l,lB x)(I:u h r=some (.map (kb 0 l) cE))(z:X):
  jR P h dM z true (.map (some r)) (l8 e) = .ok (match pG e l with
   |none=>.tuple #[z,.bool false]
   |some p=>.tuple #[.agg ⟨oC p.2.2.2.toNat⟩,.bool true]):=by
 unfold jR xQ;rw[C e e g g];unfold P3 kQ;simp only[I,N4 C g 0 0 l E];cases pG e l <;> rfl
theorem ajh(e:dz):nQ (l8 e) (l8 e)=true:=by
 show(qf (e.1:X) (e.1:X)&&(qf (e.2.1:X) (e.2.1:X)&&true))=true;have:∀n:Int,qf (.int .i64 n) (.int .i64 n)=true:=λn=>by show(mc .i64 .i64&&fz n n)=true;rw[zv.2 rfl];rfl
 grind
theorem ack(I:Kf P dM){e:dz}(C:lB e){l:aa dz}(bb:∀x∈l,lB x)(V:u h r=some (.map (kb 0 l) l.length)){w:Nat}(g:w=match pG e l with|none=>e.2.2.toNat|some p=>(bif la e.2.2 p.2.2.2 then e.2.2 else p.2.2.2).toNat):
  mB P dM h (.map (some r)) (l8 e) (.agg ⟨oC w⟩) = .ok (T h r (.map (kb 0 (im e l)) (im e l).length)):=by
 unfold mB xQ;rw[I e e C C];show kQ h r _=_;unfold kQ;simp only[V,N4 I C 0 0 l bb];rw[I6];cases E:pG e l with
 |none =>
  rw[E]at g;simp only at g;subst g;simp only[Option.map_none,ka,ah2,jm,nJ,Et,iR]
 |some p =>
  obtain⟨q,x⟩:=p;rw[E]at g;simp only at g;obtain⟨h1,ar⟩:=JB E;obtain⟨Z,hu,o1⟩:=ajg ar;have M:q<l.length:=ab
  simp only[Ev,Z,ajh,p5,iR,Eu];have:=We (x.1,x.2.1,bif la e.2.2 x.2.2 then e.2.2 else x.2.2) 0 q l M
  grind
end
theorem uh{n:Int}(h:Cp n=true):∃m:Nat,n=(m:Int)/\m<2147483648:=by
 cases n with
 |ofNat m=>exact⟨m,rfl,by simpa[Cp,ov]using h⟩
 |negSucc m=>cases h
section
variable {P:Program}  {s:al}
end
section
variable {P:Program}  {s:al}
end
theorem Wf(e:dz):∀(l g:aa dz),h2 g (l++[e])=im e (h2 g l)
 | [],g=>rfl
 |x::l,g=>Wf e l (im x g)
theorem ahu{e:dz}(M:lB e){l:aa dz}(I:∀x∈l,lB x):∀x∈im e l,lB x:=by
 intro x g;rw[I6]at g;cases E:pG e l with
 |none =>
  rw[E]at g;rcases hb.1 g with h|h
  ·exact I x h
  ·simp at h;subst h;exact M
 |some p =>
  rw[E]at g;obtain⟨h1,ar⟩:=JB E;have C:=I _ (k4 h1);rcases List.mem_or_eq_of_mem_set g with h|h
  ·exact I x h
  ·subst h;refine⟨C.1,C.2.1,?_⟩;cases la e.2.2 p.2.2.2 with
   |true=>exact M.2.2
   |false=>exact C.2.2
theorem IF:∀{l acc:aa dz},(∀x∈l,lB x)->(∀x∈acc,lB x)->∀x∈h2 acc l,lB x
 | [],acc,_,g=>g
 |e::l,acc,C,g=>IF  (acc:=im e acc) (λx E=>C x ab) (ahu (C e ab) g)
theorem aji(e:dz)(l:aa dz):(im e l).length<=l.length+1:=by
 rw[I6]
 grind
theorem NE:∀(l g:aa dz),(h2 g l).length<=g.length+l.length
 | [],g=>by simp[h2]
 |e::l,g=>by
  have h1:=NE l (im e g);have ar:=aji e g;show(h2 (im e g) l).length<=_
  grind
theorem Vu:∀(i:Nat) (l:aa dz),Co (kb i l)/\∀e∈kb i l,i<=e.born/\e.born<i+l.length
 |i,[]=>⟨List.Pairwise.nil,λe h=>by cases h⟩
 |i,x::l=>by
  obtain⟨h1,ar⟩:=Vu (i+1) l;refine⟨List.Pairwise.cons ab h1,λe g=>?_⟩;rcases g5.1 g with rfl|g
  all_goals grind
def wb(e:MapEntry):dz:=match e.key,e.val with
 | .agg ⟨[.int _ a,.int _ b]⟩,.agg ⟨[_,.int _ c]⟩=>(a,b,c)
 |_,_=>(0,0,0)
theorem VM:∀(i:Nat) (l:aa dz),(∀x∈l,lB x)->(kb i l).map wb=l/\∀e∈kb i l,∃w:Nat,w<2147483648/\(wb e).2.2=(w:Int)/\e.key=l8 (wb e)/\e.val = .agg ⟨oC w⟩
 |i,[],_=>⟨rfl,λe h=>by cases h⟩
 |i,x::l,h=>by
  obtain⟨h1,ar⟩:=VM (i+1) l λy I=>h y ab;obtain⟨w,C,E⟩:=uh (h x ab).2.2;obtain⟨a,b,c⟩:=x;simp only at C;subst C;have M:wb { key:=l8 (a,b,(w:Int)),val:=.agg ⟨oC ((w:Int)).toNat⟩,born:=i }=(a,b,(w:Int)):=rfl;refine⟨?_,λe g=>?_⟩
  ·show wb _::(kb (i+1) l).map wb=_
   grind
  ·rcases g5.1 g with rfl|g
   all_goals grind
section
variable {P:Program}
end
section
variable {P:Program}
theorem cx.still{H:fk}{w:World}(V:d7 B ai H w)(C:w.heap.size<=a9.heap.size)(I:a9.os=w.os)(M:qD w a9)(g:a9.output=w.output)(E:∀k,k<w.heap.size->a9.heap[k]? = w.heap[k]?):cx B ai H w U U ai H a9 where
 rel:=V.world C λb p Z ap=>by obtain⟨o,eU⟩:=mX.1 ap;exact E _ (V.obj b p o Z eU).Cn
 agree:=ab
 size:=C
 os:=I
 tape:=M
 output:=g
 frame:=ab
 own:=ab
 le:=J
end
section
variable {az:Type}
def aA(U:Nat)(h ac:ae):Prop:=∀b,b<U->u ac b=u h b
theorem aK{p:Prop}(h:p:=by grind[aA]):p:=h
theorem aA.refl(U:Nat)(h:ae):aA U h h:=aK
theorem aA.trans(a:aA U h ac)(b:aA Y ac ar)(g:U<=Y):aA U h ar:=aK
theorem aA.set{o:gh}(a:aA U h ac)(g:U<=b):aA U h (T ac b o):=aK
theorem aA.mono(a:aA Y h ac)(g:U<=Y):aA U h ac:=aK
def cN(h:ae)(U:Nat)(v:X)(enc:az->aa X)(l:aa az):Prop :=
 ∃a cap,v = .slice a l.length cap/\(l≠[]->∃b aO bJ,b<U/\a=some ⟨b,0,aO⟩/\u h b=some (.cells (bc enc l) bJ))
theorem cN.F{enc:az->aa X}{l:aa az}(ap:cN h U v enc l)(Z:aA U h ac)(I:U<=Y):cN ac Y v enc l:=by obtain⟨a,cap,V,E⟩:=ap;refine⟨a,cap,V,λg=>?_⟩;obtain⟨b,aO,bJ,C,M,a6⟩:=E g;exact⟨b,aO,bJ,J,M,by rw[Z b C];omega⟩
theorem d5.rd{k:Nat}{enc:az->aa X}{l:aa az}(ap:d5 h v enc k l ao aj):cN h aj v enc l:=by
 rcases ap with⟨rfl,rfl⟩|⟨b,h1,ar,rfl,g⟩
 ·exact⟨none,0,rfl,λh=>absurd rfl h⟩
 ·exact⟨_,_,rfl,λ_=>⟨b,some k,false,ar,rfl,g⟩⟩
theorem cN.at{enc:az->aa X}{l:aa az}(ap:cN h U v enc l){x:az}(E:l[i]? = some x):
  i<l.length/\∃b aO bJ cap,b<U/\v = .slice (some ⟨b,0,aO⟩) l.length cap/\u h b=some (.cells (bc enc l) bJ):=by
 obtain⟨a,cap,M,g⟩:=ap;obtain⟨b,aO,bJ,C,rfl,I⟩:=g ab
 grind
theorem IS{enc:az->aa X}{k:Nat}(g:∀x,(enc x).length=k){l:aa az}{x:az}(C:l[i]? = some x)(I:j<k):(bc enc l)[i*k+j]? = (enc x)[j]?:=by
 have E:=um g C
 grind
end
section
variable {H:Type} {enc:TypeId × X->H} {P:Program} {w:World} {base:Nat} {aO:Nat->al} {Ab:al}
structure Tri (P:Program) (t:TypeId):Prop where
 ex:∃ds kr fF gj,P.underlying t=some (.struct ds)/\ds[0]? = some kr/\ds[1]? = some fF/\ds[2]? = some gj/\kr.offset=0/\fF.offset=1/\gj.offset=2 /\
  P.underlying kr.type=some (.int .i64)/\P.underlying fF.type=some (.int .i64)/\P.underlying gj.type=some (.int .i64)/\P.cellsOf kr.type=1/\P.cellsOf fF.type=1/\P.cellsOf gj.type=1
 size:P.cellsOf t=3
abbrev hN:=Int × Int × Int
def io(x:hN):aa X:=[(x.1:X),(x.2.1:X),(x.2.2:X)]
def KK(n:Int):Prop:=(Lit.int .i64 n).wf=true
theorem alH{x:DataW H × aa MemPlace}(av:Tri P t)(h:DataW.trod enc P w base aO Ab KJ t cs=some x):∃e:hN,cs=io e/\KK e.1/\KK e.2.1/\KK e.2.2:=by
 obtain⟨ds,kr,fF,gj,ck,au,h1,ar,HL,eX,dO,aBn,Uy,D6,o2,c1,c2⟩:=av.ex;obtain⟨xs,n,rfl,_,g,AD,E⟩:=DataW.trod_struct ck h;rw[av.size]at g;have C:∀(i:Nat) (f:Field),ds[i]? = some f->f.offset=i->P.underlying f.type=some (.int .i64)->P.cellsOf f.type=1->∃n:Int,(cs.drop i).take 1=[(n:X)]/\KK n:=λi f bK eU dY I=>by
  have Z:=E i f bK;have aj:i<xs.length:=ab
  rw[eU,I,kL aj]at Z;obtain⟨n,h1,_,ar⟩:=DataW.trod_int dY Z;exact⟨n,h1,ar⟩
 obtain⟨a,M,nu⟩:=C 0 kr au HL aBn o2;obtain⟨b,V,lP⟩:=C 1 fF h1 eX Uy c1;obtain⟨c,I,oe⟩:=C 2 gj ar dO D6 c2
 match cs,g with
 | [x,y,z],_ =>
  simp at M V I;exact⟨(a,b,c),by simp[io,M,V,I],nu,lP,oe⟩
theorem ajj{a:Addr}{n:Nat}(h:w.cells? base a n=some cs):cs.length=n/\∀i v,cs[i]? = some v->w.cell? (a.add i)=some v:=by
 unfold World.cells? at h
 split at h
 ·have g:cs.length=n:=by simpa using mapM_some_length h
  refine⟨g,λi v C=>?_⟩;have:=mapM_some_get h i i ab
  grind
 grind
theorem aps(a:Addr)(i j:Nat):(a.add i).add j=a.add (i+j):=by
 unfold Addr.add
 grind
theorem ajk{az:Type}{V:az->aa X}{k:Nat}{e:TypeId}{x:DataW H × aa MemPlace}(ck:P.underlying t=some (.slice e))(aZ:P.cellsOf e=k)(R:az->Prop)(I:∀(n:Nat) (c:aa X) y,DataW.trod enc P w base aO Ab n e c=some y->∃z:az,c=V z/\R z)(h:DataW.trod enc P w base aO Ab KJ t cs=some x):
  cs=[.slice none 0 0]\/∃(a:Addr) (g:aa az) (cap:Nat),cs=[.slice (some a) g.length cap]/\g.length<=cap/\cap<=maxLen/\(∀z∈g,R z)/\∀i v,(bc V g)[i]? = some v->w.cell? (a.add i)=some v:=by
 rcases DataW.trod_slice ck h with⟨mK,_⟩|⟨a,len,cap,C,rest,n,rfl,mK,_,aT,bb,bl,fW,hel,_⟩
 ·grind
 ·have key:∀m,m<=len->∃g:aa az,g.length=m/\(∀z∈g,R z)/\(bc V g).length=m*k/\∀i v,(bc V g)[i]? = some v->w.cell? (a.add i)=some v:=by
   intro m
   induction m with
   |zero=>intro _;exact⟨[],rfl,by simp,by simp[bc],λi v E=>by simp[bc]at E⟩
   |succ m eO =>
    intro Dw;obtain⟨g,h1,ar,aL,bm⟩:=eO J;have ju:=hel m J;rw[aZ,kL (by omega:m<C.length)]at ju;simp only[jC]at ju;obtain⟨c,qx,u4⟩:=ju;obtain⟨z,rfl,cZ⟩:=I _ _ _ u4;obtain⟨Z,hcg⟩:=ajj qx;refine⟨g++[z],ab,λy M=>?_,by rw[rX,jm,aL,Z,Ey],λi v E=>?_⟩
    ·rcases hb.1 M with M|M
     ·exact ar y M
     ·rw[iP.1 M];exact cZ
    ·rw[rX,BB]at E
     split at E
     ·grind
     ·rename_i eN
      have:=hcg _ v E;rw[aps,aL]at this
      grind
  obtain⟨g,h1,ar,_,bm⟩:=key len J
  grind
end
def x8(cb:aa (Place × aa X)):ca:=λb=>(cb[b]?).map (·.1)
def yt:Nat->aa (Place × aa X)->ae->ae
 |_,[],h=>h
 |i,p::cb,h=>yt (i+1) cb (T h i (.cells p.2 true))
theorem N5:∀(cb:aa (Place × aa X)) (i:Nat) (h:ae) (b:Nat),u (yt i cb h) b=if b<i then u h b else match cb[b-i]? with
  |some p=>some (.cells p.2 true)
  |none=>u h b
 | [],i,h,b=>by by_cases g:b<i <;> simp[yt,g]
 |p::cb,i,h,b=>by
  show u (yt (i+1) cb (T h i (.cells p.2 true))) b=_;rw[N5 cb (i+1) _ b,kW]
  grind
theorem Yo{o:gh}(h:u (yt 0 cb ix) b=some o):∃p,cb[b]? = some p/\o = .cells p.2 true:=by
 rw[N5,if_neg (Iv _),Nat.sub_zero,I5]at h
 grind
theorem as3{p:Place × aa X}(h:cb[b]? = some p):u (yt 0 cb ix) b=some (.cells p.2 true):=by rw[N5,if_neg (Iv _),Nat.sub_zero,h]
def InW(w:World)(cb:aa (Place × aa X)):Prop:=∀p∈cb,∃c e e9,w.heap[p.1.cm]? = some (.cells c e e9)/\pf (x8 cb) p.2 c p.1.off
theorem as4{w:World}(C:InW w cb):d7 w.heap.size (x8 cb) (u (yt 0 cb ix)) w where
 base:=J
 obj:=λb p o g I=>by obtain⟨q,E,rfl⟩:=Yo I;unfold x8 at g;rw[E]at g;cases g;obtain⟨c,e,M,V,Z⟩:=C q ab;exact⟨ab,c,e,M,V,Z⟩
 inj:=λb cd p ew g hh ap _ et _=>by
  exfalso;unfold x8 at g;cases E:cb[b]? with
  |none=>grind
  |some q =>
   rw[E]at g;have g:q.1=p:=ab
   subst g;obtain⟨c,e,M,V,_⟩:=C q ab
   grind
 mG:=λb ap=>by
  obtain⟨o,I⟩:=mX.1 ap;obtain⟨q,E,_⟩:=Yo I;unfold x8
  grind
theorem avz(cb:aa (Place × aa X)):j2 (x8 cb) cb.length:=λb g=>by
 unfold x8
 grind
theorem alI{E:ca}{H C:fk}{w:World}(M:B=w.heap.size)(g:cx B ai H w U Y E C a9):RowKit.Below w.heap.size w a9 :=
 ⟨g.os,g.tape.1,g.output,g.size,λk I=>g.frame k I (by rintro⟨b,p,_,_,_,h⟩;omega)⟩
section
variable {P:Program}
end
section
variable {az:Type}
def eH(h:ae)(ao aj:Nat)(v:X)(enc:az->aa X)(l:aa az):Prop :=
 ∃a cap,v = .slice a l.length cap/\(l≠[]->∃b aO bJ,ao<=b/\b<aj/\a=some ⟨b,0,aO⟩/\u h b=some (.cells (bc enc l) bJ))
theorem eH.rd{enc:az->aa X}{l:aa az}(ap:eH h ao aj v enc l):cN h aj v enc l:=by
 obtain⟨a,cap,g,E⟩:=ap;refine⟨a,cap,g,λC=>?_⟩
 grind
theorem eH.F{d6:Nat}{enc:az->aa X}{l:aa az}(ap:eH h ao aj v enc l)(E:∀b,ao<=b->b<aj->u ac b=u h b)(h1:d6<=ao)(ar:aj<=dy):eH ac d6 dy v enc l:=by
 obtain⟨a,cap,g,I⟩:=ap;refine⟨a,cap,g,λC=>?_⟩
 grind
theorem d5.gr{k:Nat}{enc:az->aa X}{l:aa az}(ap:d5 h v enc k l ao aj):eH h ao aj v enc l:=by
 rcases ap with⟨rfl,rfl⟩|⟨b,h1,ar,rfl,g⟩
 ·exact⟨none,0,rfl,λh=>absurd rfl h⟩
 ·exact⟨_,_,rfl,λ_=>⟨b,some k,false,h1,ar,rfl,g⟩⟩
end
section
variable {P:Program}  {s:al}
@[congr] theorem azy{az:Type}{r g:R az}{k:az->Prop}(h:r=g):af r k=af g k:=by rw[h]
@[simp] theorem aaj(U:Nat)(o:gh):wu U (.ptr o) = (bd U):=rfl
@[simp] theorem aak(o:gh):sf (.ptr o)=o:=rfl
@[simp] theorem W4(U:Nat)(o:gh)(n c:Nat):wu U (.slice o n c) = .slice (some ⟨U,0,none⟩) n c:=rfl
@[simp] theorem W5(o:gh)(n c:Nat):sf (.slice o n c)=o:=rfl
@[simp] theorem acl(k:IntKind)(n:Int):dh (.int k n)=[.int k n]:=rfl
@[simp] theorem Yp(a:aw Addr)(n c:Nat):dh (.slice a n c)=[.slice a n c]:=rfl
@[simp] theorem acm(l:aa X):dh (.agg ⟨l⟩)=l:=rfl
@[simp] theorem aal(b:al):dh (.bool b)=[.bool b]:=rfl
@[simp] theorem acn(a:aw Addr):dh (.pointer a)=[.pointer a]:=rfl
@[simp] theorem W6(k:IntKind)(n:Int):gS (.int k n)=true:=rfl
@[simp] theorem Wg(b:al):gS (.bool b)=true:=rfl
@[simp] theorem VN(a:aw Addr)(n c:Nat):gS (.slice a n c)=true:=rfl
@[simp] theorem W7(a:aw Addr):gS (.pointer a)=true:=rfl
@[simp] theorem W8:ea []=true:=rfl
@[simp] theorem qT(x:X)(l:aa X):ea (x::l)=(gS x&&ea l):=by
 show(bif gS x then ea l else false)=_
 grind
@[simp] theorem azq(l:aa X)(a b:Nat):vM l a b=if ea l=true then .ok (.slice (.cells l false) a b)else .no "cells" := by
 show(bif ea l then _ else _)=_
 grind
@[simp] theorem Dx(n:Nat):(n=n+1+1)↔False:=ab
@[simp] theorem AE(n:Nat):(n=n+1+1+1)↔False:=ab
@[simp] theorem ne4(n:Nat):(n=n+1+1+1+1)↔False:=ab
@[simp] theorem azX(n:Nat):(n+1+1=n)↔False:=ab
@[simp] theorem azY(n:Nat):(n+1+1+1=n)↔False:=ab
@[simp] theorem azZ(n:Nat):(n+1+1+1+1=n)↔False:=ab
theorem VO(a:Addr):zE a a=true:=by
 obtain⟨b,o,aO⟩:=a;unfold zE;cases aO <;> simp
@[simp] theorem rV(k:IntKind)(n:Int):nQ (.int k n) (.int k n)=true:=by show(mc k k&&fz n n)=true;rw[vH,kN];simp
@[simp] theorem xu(b:al):nQ (.bool b) (.bool b)=true:=by show(b == b)=true;simp
@[simp] theorem sX(a:aw Addr)(l c:Nat):nQ (.slice a l c) (.slice a l c)=true:=by
 cases a with
 |none=>show(Nat.beq l l&&Nat.beq c c)=true;simp
 |some a=>show(zE a a&&Nat.beq l l&&Nat.beq c c)=true;simp[VO]
@[simp] theorem BQ(l:aa X):nQ (.agg ⟨l⟩) (.agg ⟨l⟩)=qg l l:=rfl
@[simp] theorem ajl:qg [] []=true:=rfl
@[simp] theorem ah3(x y:X)(l m:aa X):qg (x::l) (y::m)=(qf x y&&qg l m):=rfl
@[simp] theorem azs(k:IntKind)(n:Int):qf (.int k n) (.int k n)=true:=rV k n
@[simp] theorem azn(a:aw Addr)(l c:Nat):qf (.slice a l c) (.slice a l c)=true:=sX a l c
@[simp] theorem rY(v w:X):m7 v (.ok w)=nQ v w:=rfl
theorem alJ{az:Type}{enc:az->aa X}{k:Nat}(g:∀x,(enc x).length=k){l:aa az}{x:az}(C:l[i]? = some x)(E:(enc x)[j]? = some v):(bc enc l)[i*k+j]? = some v:=by rw[IS g C ab,E]
end
def c3(x:Int):aa X:=[(x:X)]
def f9(l:aa Int):aa X:=l.map (λx=>Value.int .i64 x)
theorem iG:∀l:aa Int,bc c3 l=f9 l
 | []=>rfl
 |x::l=>by show c3 x++bc c3 l=_;rw[iG l];rfl
theorem i6{l:aa Int}{x:Int}(h:l[i]? = some x):(f9 l)[i]? = some (x:X):=by simp[f9,h]
theorem zp(l:aa Int):(f9 l).length=l.length:=by simp[f9]
theorem ints_set(l:aa Int)(i:Nat)(x:Int):(f9 l).set i (x:X)=f9 (l.set i x):=by simp[f9,List.map_set]
def hz(l:aa Nat):aa Int:=l.map (λx:Nat=>(x:Int))
theorem qZ(l:aa Nat):(hz l).length=l.length:=by simp[hz]
theorem I7{l:aa Nat}{x:Nat}(h:l[i]? = some x):(hz l)[i]? = some (x:Int):=by simp[hz,h]
section
variable {P:Program}  {s:al}
end
set_option linter.unusedSectionVars false
section
variable {P:Program}
@[simp] theorem zy(t:TypeId)(k:IntKind)(a b:Int):bin P .mul t (.int k a) (.int k b) = .ok (.int k (k.wrap (a*b))):=by rw[r6 _ _ _ _ _ rfl,<-nL];rfl
theorem B9{k:IntKind}{b:Int}(g:b≠0):bin P .quo t (.int k a) (.int k b) = .ok (.int k (k.wrap (a.tdiv b))):=by rw[r6 _ _ _ _ _ rfl];show CS .quo k a b=_;unfold CS;rw[kN,show(b == 0)=false by grind,<-nL];rfl
end
section
variable {P:Program} {az:Type} [Inhabited az] {enc:az->aa X} {k:Nat}
def kD(c:az->az->Int)(x y:az):al:=decide (c x y<0)
def JX(enc:az->aa X)(c:az->az->Int)(l:aa az)(b U:Nat)(h:ae):bP:=λ_ ac Y=>U<=Y/\(∃b6:aa az,b6.Perm l/\b6.Pairwise (λx y=>¬c y x<0)/\u ac b=some (.cells (bc enc b6) false))/\∀c,c<U->c≠b->u ac c=u h c
theorem alK{w:World}(ap:w.heap.size<=a9.heap.size)(Z:a9.os=w.os)(C:qD w a9)(V:a9.output=w.output)(bK:∀k,k<w.heap.size->a9.heap[k]? = w.heap[k]?):∃q E,a9=grow (w.drewN q) E:=by
 refine⟨a9.drawn-w.drawn,a9.heap.extract w.heap.size a9.heap.size,?_⟩;obtain⟨g,M,I,E,aCL⟩:=a9;have h1:g=w.heap++g.extract w.heap.size g.size:=ab
 have ar:I=w.drawn+(I-w.drawn):=by have:=C.2;grind
 have aL:M=w.tape:=C.1;simp only at Z V h1 ar;unfold grow World.drewN
 grind
theorem IM:∀{l:aa X},il l=true->∀{x},x∈l->qa x=true
 |y::l,h,x,g=>by
  have h:(qa y&&il l)=true:=h;simp only[eC]at h;rcases g5.1 g with rfl|g
  ·grind
  ·exact IM h.2 g
theorem kV.up{P:Program}{s:al}{f:FuncId}{args:aa X}{h:ae}{U:Nat}{K:bP}{v:X}{ac:ae}{Y:Nat}(g:kV P f args h U (tA v ac Y))(C:K v ac Y):aH P s f args h U K:=by
 cases s with
 |true=>exact⟨v,ac,Y,C,g⟩
 |false=>exact g.mono λ_ _ _ ⟨M,I,E⟩=>by rw[M,I,E];exact C
def Gc(P:Program)(f:FuncId)(enc:az->aa X)(c:az->az->Int):Prop:=∀x y h U,aH P false f [.agg ⟨enc x⟩,.agg ⟨enc y⟩] h U (λv _ _=>v = .int .i64 (c x y))
theorem apt{c:az->az->Int}(V:∀x,il (enc x)=true)(aZ:Gc P Ba enc c)(C off E:Nat)(w:World):CmpLays P Ba #[] enc k c C off E w:=by
 intro m Z aAt _ x y;generalize sortWorldK enc k w C off m aAt Z=W;obtain⟨_,ar⟩:=aZ x y ix 0;have g:d7 W.heap.size (λ_=>none) (u ix) W:=⟨cD _,λb p o h=>(by cases h),λb cd p ew h=>(by cases h),λb h=>by rw[I5]at h;cases h⟩
 have aJ:dl (λ_=>none) [.agg ⟨enc x⟩,.agg ⟨enc y⟩] [.agg ⟨enc x⟩,.agg ⟨enc y⟩]:=.cons (.agg (IE (V x) _)) (.cons (.agg (IE (V y) _)) .nil);have:=callsIn_wide.1 (ar W.heap.size _ W _ g (λb _=>rfl) aJ 0);refine Calls.mono this ?_;rintro e a9 ⟨v,ac,Y,bq,n5,rfl,rfl,M,I⟩;have:n5 = .int .i64 (c x y):=BP rfl M;subst this;exact⟨rfl,alK I.size I.os I.tape I.output λk hk=>I.frame k hk (by rintro⟨b,p,aT,_⟩;omega)⟩
def qc(c:az->az->Int)(l:aa az):aa az:=(pdq (ltOf c) l.toArray 0 l.length (Lib.bitLen l.length) true true).toList
theorem NF{c:az->az->Int}(V:SWO (ltOf c))(l:aa az):(qc c l).length=l.length/\(qc c l).Perm l/\(qc c l).Pairwise (λx y=>¬c y x<0):=by
 have h:=pdq_sorts (ltOf c) V l.toArray 0 l.length (Lib.bitLen l.length) true true (Nat.zero_le _) (by simp) (Or.inl rfl);unfold qc;generalize pdq (ltOf c) l.toArray 0 l.length (Lib.bitLen l.length) true true=R at *
 obtain⟨I,E⟩:=h;have Z:R.size=l.length:=by rw[I.1];simp
 refine⟨J,?_,?_⟩
 ·have aL:=I.2.2;have aV:R.extract 0 l.length=R:=ab
  grind
 ·rw[Bx];intro i j aj b1 g;have C:j<R.size:=J
  have dy:i<R.size:=J
  have M:=E i j (Nat.zero_le _) g J;rw[getElem!_pos R i dy,getElem!_pos R j C]at M;have b3:=of_decide_eq_false M
  grind
theorem N6(M:∀x,(enc x).length=k)(l:aa az){t:Nat}(E:t<l.length*k):(bc enc l)[t]? = some (flatK enc k l.toArray)[t]!:=by
 have C:0<k:=Nat.pos_of_ne_zero (λh=>ab);have I:t / k<l.length:=(MM C).2 E;have V:=zf t C;rw[get_flatK _ _ _ _ J];have e:t=t / k*k+t % k:=by rw[xn];exact(Nat.div_add_mod t k).symm
 conv=>lhs;rw[e]
 have h1:(l.toArray)[t / k]! = l[t / k]:=ab
 have g:t % k<(enc l[t / k]).length:=ab
 rw[alJ M (kL I) (kL g),h1]
 grind
theorem O3(gL:pF P){s:al}{c:az->az->Int}(L:SlLaysF0.n6 P D5)(bK:D5.f 6=f)(axR:BX P f)(qx:BX P Ba)(j5:SWO (ltOf c))(aBo:∀w,(isAgg (D5.t 24)).run P w = .ok true w)(aBp:∀w,(Go.sizeOf (D5.t 24)).run P w = .ok k w)(M:∀x,(enc x).length=k)(bk:∀x,il (enc x)=true)(h1:∀x,∀v∈enc x,v.oneCell'=true)(aZ:Gc P Ba enc c){n:Nat}{aO:aw Nat}{l:aa az}(rk:l.length=n)(bH:n<1000000)(sp:b<U)(fm:u h b=some (.cells (bc enc l) false)):
  aH P s f [.slice (some ⟨b,0,aO⟩) n cap,.func (.func Ba) #[] #[]] h U (JX enc c l b U h):=by
 subst bK;obtain⟨pR,mU,kH⟩:=NF j5 l;refine kV.up (v:=.tuple #[]) (ac:=T h b (.cells (bc enc (qc c l)) false)) (Y:=U) ⟨axR,λB ai w V a5 lh cY a0=>callsIn_wide.2 ?_⟩ ⟨cD _,⟨_,mU,kH,by rw[zk,if_pos rfl]⟩,λc aZ e0=>by rw[zk,if_neg e0]⟩;obtain⟨_,_,a1,ce,rfl⟩:∃x y,bA ai _ x/\bA ai _ y/\V=[x,y]:=by
  cases cY with|cons a1 cY=>cases cY with|cons ce cY=>cases cY;exact⟨_,_,a1,ce,rfl⟩
 cases BP (ai:=ai) rfl ce;obtain⟨eg,bO,rfl,oB⟩:=a1.xv;have E:∀a9,(cx B ai (u h) w U U ai (u (T h b (.cells (bc enc (qc c l)) false))) a9)->Fin B ai h w U (tA (.tuple #[]) (T h b (.cells (bc enc (qc c l)) false)) U) (.returned (.tuple #[])) a9:=λa9 bl=>⟨_,_,_,ai,_,rfl,⟨rfl,rfl,rfl⟩,.tuple .nil,bl⟩
 rcases y8 n with au|Rv
 ·subst au;have pD:l=[]:=Bv rk;have nY:qc c l=[]:=Bv J;refine(AnyF.slices_SortFunc_none L eg bO _ w).mono ?_;rintro e a9 ⟨rfl,rfl⟩;refine E _ ?_;have:u (T h b (.cells (bc enc (qc c l)) false))=u h:=funext λx=>by
   rw[zk]
   grind
  rw[this];exact cx.refl U a5
 ·obtain⟨p,aT,rfl⟩:∃p,ai b=some p/\eg=some ⟨p.cm,p.off+0,none⟩:=ab
  have Gv:=a5.obj b p _ aT fm;obtain⟨et,I,Z,d3,ao,aj,bV,hfz,g,afL⟩:=Gv;have sq:=gg (enc:=enc) M l;have az0:l.length*k<=Z.size:=J
  have u2:∀t,t<l.length*k->Z[t]? = some (flatK enc k l.toArray)[t]!:=λt ck=>by obtain⟨dN,aV,aP⟩:=g t _ (N6 M l ck);rw[iR]at aV;have mJ:qa (flatK enc k l.toArray)[t]! = true:=IM (EN bk l) (k4 (N6 M l ck));rw[aV,BP mJ aP]
  have fJ:HoldsK enc k w p.cm 0 l.toArray:=λt ck=>by
   have ck:t<l.length*k:=by simpa using ck
   refine⟨?_,?_⟩
   ·simp only[World.cell?,bV,iR,BE,nH,fa]
    grind
   ·simp only[World.frozen?,bV]
    grind
  have C:=AnyQ.slices_SortFunc_eq L k aBo aBp enc M h1 c j5 Ba #[] p.cm 0 bO l.toArray w (by obtain⟨fn,dt,eG,gt⟩:=qx;obtain⟨gM,mr⟩:=mX.1 eG;exact enters_of dt gt mr) (apt bk aZ _ _ _ _) fJ (a5.obj b p _ aT fm).Cn ab
  rw[show l.toArray.size=n by omega]at C;rw[I];refine Calls.mono C ?_;rintro e a9 ⟨rfl,m,os,rfl⟩;refine E _ ?_;have bp:(pdq (ltOf c) l.toArray 0 n (Lib.bitLen n) true true)=(qc c l).toArray:=by unfold qc;grind
  rw[bp];unfold sortWorldK;generalize qc c l=d at *
  have hdl:d.length*k=l.length*k:=by rw[pR]
  have SJ:(putRowK enc k (Sort.ahead w m) p.cm 0 d.toArray).heap[p.cm]? = some (.cells (putCells id 0 (flatK enc k d.toArray) Z) d3 (ao,aj)):=by simp[putRowK,putRow,mapBlock,Sort.ahead,Ij,bV,onCells]
  have jH:(putCells id 0 (flatK enc k d.toArray) Z).size=Z.size:=by simp[putCells]
  have hfd:=gg (enc:=enc) M d;have hm1:cx B ai (u h) w U U ai (fk.put (u h) b (.cells (bc enc d) false)) (putRowK enc k (Sort.ahead w m) p.cm 0 d.toArray):=by
   refine cx.change U a5 aT fm et (by simp[putRowK,Sort.ahead]) (λx a1=>?_) rfl ⟨rfl,MW _ _⟩ rfl ⟨et,I,_,d3,ao,aj,SJ,J,λi v aJ=>?_,J⟩
   ·simp[putRowK,putRow,mapBlock,Sort.ahead,Ij,kw a1]
   ·have dy:i<d.length*k:=ab
    have aV:=N6 M d dy;rw[aJ]at aV;refine⟨v,?_,ED (IM (EN bk d) (k4 aJ)) ai⟩;have hic:i<Z.size:=J
    simp[putCells,Array.getElem?_mapIdx,hic,dy]
    grind
  rw[ul];exact hm1.trans (cx.still hm1.rel (by simp) rfl ⟨rfl,cD _⟩ rfl λk M=>heap_grow_old _ _ M)
theorem Yq{s:al}(L:SlLaysF0.n6 P D5)(bK:D5.f 6=f)(E:BX P f)(hk:K (.tuple #[]) h U):aH P s f [.slice none 0 0,.func (.func Ba) #[] #[]] h U K:=by
 subst bK;refine kV.up ⟨E,λB ai w g Z V C a0=>callsIn_wide.2 ?_⟩ hk;obtain⟨_,_,I,M,rfl⟩:∃x y,bA ai _ x/\bA ai _ y/\g=[x,y]:=by
  cases C with|cons I C=>cases C with|cons M C=>cases C;exact⟨_,_,I,M,rfl⟩
 cases I;refine(AnyF.slices_SortFunc_none L none 0 _ w).mono ?_;rintro e a9 ⟨rfl,rfl⟩;exact⟨_,h,U,ai,_,rfl,⟨rfl,rfl,rfl⟩,.tuple .nil,cx.refl U Z⟩
end
structure GE where
 f:Nat
 t:Nat
 w:Int
structure oH (n:Nat) (es:aa GE) (s k i:Nat) (l:aa Int):Prop where
 len:l.length=n
 src:l[s]? = some 0
 jp:∀(v:Nat) (x:Int),l[v]? = some x->-1<=x/\x<=k+1
 zero:∀v:Nat,l[v]? = some 0->v=s
 pre:∀(v:Nat) (x:Int),l[v]? = some x->0<x->∃e∈es,e.t=v/\l[e.f]? = some (x-1)
 post:∀(j:Nat) (e:GE),es[j]? = some e->∀x,l[e.f]? = some x->0<=x->(x<k\/(x=k/\j<i))->∃y:Int,l[e.t]? = some y/\0<=y/\y<=x+1
theorem oH.skip{n:Nat}{es:aa GE}{s k:Nat}{l:aa Int}{e:GE}(h:oH n es s k i l)(bE:es[i]? = some e)(ck:e.t<n)(bH:¬(l[e.f]? = some (k:Int)/\l[e.t]? = some (-1))):oH n es s k (i+1) l :=
 ⟨h.len,h.src,h.jp,h.zero,h.pre,λj V g x M I hor=>by
  by_cases hji:j<i
  ·exact h.post j V g x M I J
  ·by_cases hxk:x<k
   ·exact h.post j V g x M I J
   ·have E:j=i:=J
    subst E;rw[bE]at g;cases g;have C:x=k:=J
    subst C;have Z:e.t<l.length:=by rw[h.len];omega
    have ce:l[e.t]? = some l[e.t]:=ab
    have a5:=h.jp _ _ ce
    grind⟩
theorem oH.step{n:Nat}{es:aa GE}{s k:Nat}{l:aa Int}{e:GE}(h:oH n es s k i l)(bE:es[i]? = some e)(bK:l[e.f]? = some (k:Int))(ck:l[e.t]? = some (-1)):oH n es s k (i+1) (l.set e.t (k+1)):=by
 have C:∀v,(l.set e.t ((k:Int)+1))[v]? = if v=e.t then some ((k:Int)+1)else l[v]?:=ab
 have I:s≠e.t:=λaV=>by have:=h.src;grind
 refine⟨by rw[Eu];exact h.len,by rw[C,if_neg I];exact h.src,λv x g=>?_,λv M=>?_,λv x g E=>?_,λj V b1 x g E Z=>?_⟩
 ·rw[C]at g
  split at g
  ·grind
  ·exact h.jp v x g
 ·rw[C]at M
  split at M
  ·grind
  ·exact h.zero v M
 ·rw[C]at g
  split at g
  ·grind
  ·obtain⟨V,bl,ht',bb⟩:=h.pre v x g E
   grind
 ·rw[C]at g
  split at g
  ·grind
  ·by_cases aZ:x<k\/(x=k/\j<i)
   ·obtain⟨y,ce,h1,ar⟩:=h.post j V b1 x g E aZ
    grind
   grind
theorem oH.next{n:Nat}{es:aa GE}{s k:Nat}{l:aa Int}(h:oH n es s k es.length l):oH n es s (k+1) 0 l :=
 ⟨h.len,h.src,λv x g=>by have:=h.jp v x g;omega,h.zero,h.pre,λj e I x g C M=>by
  have E:j<es.length:=ab
  exact h.post j e I x g C J⟩
theorem oH.init{n:Nat}{es:aa GE}{s:Nat}(ap:s<n):oH n es s 0 0 ((List.replicate n (-1)).set s 0):=by
 refine⟨by simp,ab,ab,ab,λv x E C=>?_,λj e I x E C g=>J⟩
 all_goals grind
theorem VP{az:Type}[DecidableEq az]:∀(a b:aa az),a.Nodup->(∀x∈a,x∈b)->a.length<=b.length
 | [],_,_,_=>ab
 |x::a,b,C,ap=>by
  have g:=List.nodup_cons.1 C;have:=VP a (b.erase x) g.2 ab
  grind
structure nh (n:Nat) (es:aa GE) (s:Nat) (l:aa Int):Prop where
 len:l.length=n
 src:l[s]? = some 0
 jp:∀(v:Nat) (x:Int),l[v]? = some x->-1<=x/\x<n
 zero:∀v:Nat,l[v]? = some 0->v=s
 pre:∀(v:Nat) (x:Int),l[v]? = some x->0<x->∃e∈es,e.t=v/\l[e.f]? = some (x-1)
 post:∀e∈es,∀x:Int,l[e.f]? = some x->0<=x->∃y:Int,l[e.t]? = some y/\0<=y/\y<=x+1
theorem W9{es:aa GE}{l:aa Int}(g:∀(v:Nat) (x:Int),l[v]? = some x->0<x->∃e∈es,e.t=v/\l[e.f]? = some (x-1)):∀(m v:Nat),l[v]? = some (m:Int)->∀y,y<=m->(y:Int)∈l
 |0,v,E,y,I=>by
  have:y=0:=J
  subst this
  grind
 |m+1,v,E,y,I=>by
  by_cases e:y=m+1
  ·subst e;grind
  ·obtain⟨M,_,_,C⟩:=g v _ E J;have:((m+1:Nat):Int)-1=(m:Int):=J
   rw[this]at C;exact W9 g m M.f C y J
theorem oH.done{n:Nat}{es:aa GE}{s:Nat}{l:aa Int}(h:oH n es s n 0 l):nh n es s l:=by
 have C:∀(v:Nat) (x:Int),l[v]? = some x->-1<=x/\x<n:=λv x g=>by
  have Z:=h.jp v x g;refine⟨Z.1,?_⟩
  by_cases I:x<0
  ·omega
  ·obtain⟨m,rfl⟩:=By (by omega:0<=x);have M:=W9 h.pre m v g;have E:((List.range (m+1)).map (λy:Nat=>(y:Int))).Nodup:=by refine List.Pairwise.map _ ?_ (List.nodup_range );omega
   have:=VP _ l E ab;simp only[gH,vx,h.len]at this;omega
 exact⟨h.len,h.src,C,h.zero,h.pre,λe V x g I=>by obtain⟨j,b1⟩:=BC V;exact h.post j e b1 x g I ab⟩
theorem ag3{az:Type}{es:aa az}{e x:az}(g:es[i]? = some e):x∈es.take (i+1)↔x∈es.take i\/x=e:=by rw[hx,g];simp
def cW(e:GE):aa X:=[(e.f:X),(e.t:X),(e.w:X)]
def hi(n:Nat)(g:GE):Prop:=g.f<n/\g.t<n/\0<=g.w/\g.w<=2147483647
def Dy(k n:Int):Int:=if n<1\/k<0 then 0 else k.tmod n
theorem JC{k n:Int}:∃m:Nat,Dy k n=(m:Int)/\(0<n->(m:Int)<n):=by
 unfold Dy
 split
 ·exact⟨0,rfl,J⟩
 ·rename_i h
  have h1:0<=k:=J
  have ar:0<n:=J
  refine⟨(k.tmod n).toNat,?_,λ_=>?_⟩
  ·rw[Int.toNat_of_nonneg (Int.tmod_nonneg n h1)]
  ·rw[Int.toNat_of_nonneg (Int.tmod_nonneg n h1)];exact Int.tmod_lt_of_pos k ar
theorem JD{P:Program}{k:IntKind}{b:Int}(g:b≠0):bin P .rem t (.int k a) (.int k b) = .ok (.int k (a.tmod b)):=by rw[r6 _ _ _ _ _ rfl];show(bif fz b 0 then _ else _)=_;rw[kN,show(b == 0)=false by grind];rfl
theorem aam{P:Program}{b:Int}:bin P .and t (a:X) (b:X) = .ok (.int .i64 (IntKind.wrap .i64 ((BitVec.ofInt 64 a &&& BitVec.ofInt 64 b).toNat))):=by rw[r6 _ _ _ _ _ rfl];rfl
theorem apu(a:Int):∃w:Int,IntKind.wrap .i64 ((BitVec.ofInt 64 a &&& BitVec.ofInt 64 2147483647).toNat:Int)=w/\0<=w/\w<=2147483647:=by
 have h1:(BitVec.ofInt 64 a &&& BitVec.ofInt 64 2147483647).toNat<=2147483647:=by rw[BitVec.toNat_and];exact Nat.and_le_right
 refine⟨_,rfl,?_⟩;rw[CK J J];omega
theorem d5.form{az:Type}{enc:az->aa X}{k:Nat}{l:aa az}(ap:d5 h v enc k l ao aj):∃a n c,v = .slice a n c:=by
 rcases ap with⟨_,rfl⟩|⟨_,_,_,rfl,_⟩ <;> grind
theorem d5.F{az:Type}{enc:az->aa X}{k:Nat}{l:aa az}(ap:d5 h v enc k l ao aj)(g:∀b,ao<=b->b<aj->u ac b=u h b)(E:aj<=dy):d5 ac v enc k l ao dy:=by
 rcases ap with ap|⟨b,h1,ar,e,C⟩
 ·exact .inl ap
 ·exact .inr ⟨b,h1,J,e,ab⟩
set_option linter.defProp false
section
variable {P:Program}  {s:al}
theorem C4{b:al}{p q:Prop}:br (.bool b) p q↔(b=true->p)/\(b=false->q):=by
 cases b <;> simp[br]
theorem aen{b:kn}{h:ae}{U:Nat}{k:X->ae->Nat->Prop}:d4 (.ok b) h U k↔k (wu U b) (T h U (sf b)) (U+1):=Iff.rfl
theorem KL{v:X}{h:ae}{U:Nat}{k:X->ae->Nat->Prop}:dG (.val v h U) k↔k v h U:=Iff.rfl
theorem xR{f:FuncId}{l:aa X}{h:ae}{U:Nat}{k:X->ae->Nat->Prop}:fc P s (.call f l h U) k↔aH P s f l h U k:=Iff.rfl
theorem aeo{f:ae->R X}{v:X}{p:Prop}{ap:aa ae}:oL f v p 0 ap↔p:=Iff.rfl
theorem aep{f:ae->R X}{v:X}{p:Prop}{h:ae}{ap:aa ae}:oL f v p 1 (h::ap)↔m7 v (f h)=true/\p:=Iff.rfl
theorem aeq{f:ae->R X}{v:X}{p:Prop}{h h1:ae}{ap:aa ae}:oL f v p 2 (h::h1::ap)↔m7 v (f h)=true/\m7 v (f h1)=true/\p:=Iff.rfl
theorem aer{f:ae->R X}{v:X}{p:Prop}{h h1 ar:ae}{ap:aa ae}:oL f v p 3 (h::h1::ar::ap)↔m7 v (f h)=true/\m7 v (f h1)=true/\m7 v (f ar)=true/\p:=Iff.rfl
def Cq{e4:Type}(o:aw gh)(k:aa X->al->R e4):R e4:=match o with
 |some (.cells cs bJ)=>k cs bJ
 |some _=>.no "cells expected"
 |none=>.no "no such block"
theorem IN{e4:Type}(h:ae)(b:Nat)(k:aa X->al->R e4):cellsOf h b k=Cq (u h b) k:=by
 unfold cellsOf Cq;cases u h b with
 |none=>rfl
 |some o=>cases o <;> rfl
theorem E6{e4:Type}(cs:aa X)(bJ:al)(k:aa X->al->R e4):Cq (some (.cells cs bJ)) k=k cs bJ:=rfl
theorem Kg(g:aw Nat)(h:ae)(a:Addr):iH g h (.pointer (some a))=Cq (u h a.block) (λcs _=>h0 g a.off cs):=IN _ _ _
theorem aan(off b o:Nat)(aO:aw Nat):zQ off (.pointer (some ⟨b,o,aO⟩)) = .ok (.pointer (some ⟨b,o+off,none⟩)):=rfl
theorem QY(k:wt)(x:X)(t:IntKind)(n:Nat):ib k x (.int t (n:Int))=xt k x n:=rfl
theorem avA(k:wt)(x:X)(t:IntKind):ib k x (.int t 0)=xt k x 0:=rfl
theorem avB(k:wt)(x:X)(t:IntKind):ib k x (.int t 1)=xt k x 1:=rfl
theorem aao(a b:X):F6 (.bool true) a b = .ok a:=rfl
theorem aap(a b:X):F6 (.bool false) a b = .ok b:=rfl
theorem as5(h:ae)(n:Nat)(l:aa X)(a:Addr):Sd h n l a=if l.length=n then qb h a.block a.off l else .no "store - size" := by
 unfold Sd;rw[ou]
 by_cases e:l.length=n
 ·rw[if_pos e,e,ua];rfl
 ·rw[if_neg e];cases g:Nat.beq l.length n with
  |true=>exact absurd (gG g) e
  |false=>rfl
theorem N7{l:aa X}{n:Nat}(g:n+aE.length<=l.length):m9 aE l n=some (l.take n++aE++l.drop (n+aE.length)):=by rw[s3,if_pos g,kv]
theorem ID{l:aa X}(C:u h b=some (.cells cs false))(E:ea l=true)(g:off+l.length<=cs.length):qb h b off l = .ok (T h b (.cells (cs.take off++l++cs.drop (off+l.length)) false)):=by unfold qb;rw[IN,C,E6,E,N7 g];rfl
theorem aes(h:ae)(n:Nat)(a:Addr)(x:X):aQ h n (.pointer (some a)) x=if(dh x).length=n then qb h a.block a.off (dh x)else .no "store - size" := as5 _ _ _ _
theorem afO(x:X)(l:aa X):a7 (x::l) 0=x:=rfl
theorem afP(x:X)(l:aa X)(i:Nat):a7 (x::l) (i+1)=a7 l i:=rfl
theorem as6(h:ae)(r:Nat):wg h (.map (some r))=kQ h r (λes _=>iV .i64 (.ofNat (jo es))):=rfl
theorem aco(k:IntKind)(a b:Int):min2 true (.int k a) (.int k b) = .ok (.int k (min a b)):=by
 show(bif mc k k then iV k (bif la b a then b else a)else _)=_;rw[vH,qX]
 by_cases h:b<a
 ·simp[h,iV,Int.min_def] <;> omega
 ·simp[h,iV,Int.min_def] <;> omega
theorem acp(k:IntKind)(a b:Int):min2 false (.int k a) (.int k b) = .ok (.int k (max a b)):=by
 show(bif mc k k then iV k (bif la a b then b else a)else _)=_;rw[vH,qX]
 by_cases h:a<b
 ·simp[h,iV,Int.max_def] <;> omega
 ·simp[h,iV,Int.max_def] <;> omega
theorem bD.mk{B:oa}{E:aa (Nat × aR)}{R:aR}(eB:Nat->aa X->ae->Nat->Prop)(m:Nat)(C:eB m aE h U)(ap:∀m aE h U,eB m aE h U->B aE h U (λaE h U=>∃g,g<m/\eB g aE h U) E R):bD B aE h U E R:=⟨eB,m,C,ap⟩
def sJ:=And.intro @zS (And.intro @aem (And.intro @C4 (And.intro @aen (And.intro @KL (And.intro @xR (And.intro @aeo (And.intro @aep (And.intro @aeq @aer))))))))
def fK:=And.intro @O1 (And.intro @aad (And.intro @JA (And.intro @aae (And.intro @aaf (And.intro @aag (And.intro @aah (And.intro @aai (And.intro @acj (And.intro @Yn (And.intro @aco @acp))))))))))
def ha:=And.intro @E6 (And.intro @Kg (And.intro @aan (And.intro @QY (And.intro @avA (And.intro @avB (And.intro @aao (And.intro @aap (And.intro @aes (And.intro @WY (And.intro @WZ (And.intro @Wb (And.intro @Wa (And.intro @Vo (And.intro @Fv (And.intro @e7 (And.intro @Wc (And.intro @W0 (And.intro @Yl (And.intro @NC @Ym)))))))))))))))))))
def ge:=And.intro @afO (And.intro @afP (And.intro @aaj (And.intro @aak (And.intro @W4 (And.intro @W5 (And.intro @acl (And.intro @Yp (And.intro @acm (And.intro @aal (And.intro @acn (And.intro @W6 (And.intro @Wg (And.intro @VN (And.intro @W7 (And.intro @W8 @qT)))))))))))))))
end
abbrev iD:=aw Nat × Nat
def svV(s:iD):X:=match s.1 with
 |none=>.slice none 0 0
 |some b=>.slice (some ⟨b,0,some 1⟩) s.2 s.2
def eL(s:iD):aa X:=[svV s]
def svs(l:aa iD):aa X:=l.map svV
theorem apv(l:aa iD):(svs l).length=l.length:=by simp[svs]
section
variable {az:Type}
inductive fQ (h:ae) (enc:az->List Value) (k:Nat):Value->List az->Option Nat->Prop where
 |nil:fQ h enc k (.slice none 0 0) [] none
 |own {b:Nat} {l:List az} (aT:u h b=some (.cells (bc enc l) false)):fQ h enc k (.slice (some ⟨b,0,some k⟩) l.length l.length) l (some b)
 |part {b o:Nat} {l:List az} {cs:List Value} {bJ:Bool} (aT:u h b=some (.cells cs bJ)) (bb:o+l.length*k<=cs.length) (aZ:(cs.drop o).take (l.length*k)=bc enc l):fQ h enc k (.slice (some ⟨b,o,none⟩) l.length l.length) l (some b)
theorem fQ.F{enc:az->aa X}{k:Nat}{l:aa az}(g:fQ h enc k v l o)(E:∀b,o=some b->u ac b=u h b):fQ ac enc k v l o:=by
 cases g with
 |nil=>exact .nil
 |own I=>exact .own ab
 |part I C M=>exact .part (by rw[E _ rfl];omega) C M
theorem fQ.lens{enc:az->aa X}{k:Nat}{l:aa az}(g:fQ h enc k v l o):z0 v = .ok (l.length:X):=by
 cases g <;> rfl
theorem aaq(n:Nat):Nat.ble (n+1) n=false:=by
 cases g:Nat.ble (n+1) n with
 |false=>rfl
 |true=>have:=l0 g;omega
theorem fQ.app{enc:az->aa X}{k:Nat}(hk:∀x,(enc x).length=k)(M:∀x,ea (enc x)=true)(C:0<k){l:aa az}(g:fQ h enc k v l o){V:aa X}{wG:al}{x:az}(ar:u h b4=some (.cells V wG))(a1:(V.drop dO).take k=enc x)(jH:(l.length+1)*k<=1000000):
  ∃ac,dT k h U v (.slice (some ⟨b4,dO,mf⟩) 1 tm) = .ok (.val (.slice (some ⟨U,0,some k⟩) (l.length+1) (l.length+1)) ac (U+1))/\u ac U=some (.cells (bc enc (l++[x])) false) /\
   (∀c,c≠U->o≠some c->u ac c=u h c):=by
 have E:k<=V.length-dO:=ab
 have h1:l.length+1<=1000000:=hy (by have:=Bz (l.length+1) C;omega) jH;have Z:(Nat.ble (Nat.mul (Nat.add l.length 1) k) 1000000&&Nat.ble (Nat.add l.length 1) 1000000)=true:=by
  simp only[eC,sW]
  grind
 cases g with
 |nil =>
  refine⟨T h U (.cells (enc x) false),?_,by simp[bc],ab⟩;unfold dT;simp only;rw[xo,ub,s2 ar C E,a1];unfold gT;rw[show Nat.ble (Nat.add 0 1) 0=false from rfl];have Z:(Nat.ble (Nat.mul (Nat.add 0 1) k) 1000000&&Nat.ble (Nat.add 0 1) 1000000)=true:=Z;rw[Z];exact qY C
 | @own b _ aT =>
  refine⟨T (x1 h b) U (.cells (bc enc l++enc x) false),?_,by simp[rX],λc aZ e0=>by rw[kW,if_neg aZ,sn,if_neg (λe=>e0 (by rw[e]))]⟩
  unfold dT;simp only;rw[xo,ub,s2 ar C E,a1];unfold gT;rw[show Nat.ble (Nat.add l.length 1) l.length=false from aaq _,Z];show q8 h U k (some ⟨b,0,some k⟩) l.length l.length (l.length+1) (enc x)=_;unfold q8;simp only[vD aT];have I:na (Nat.mul l.length k) (m6 (bc enc l) 0)=some (bc enc l):=by rw[rW,pb,q1,if_pos (by rw[gg hk];grind)];rw[o8 (by rw[gg hk];grind)]
  rw[I];have ch:(!false&&Nat.beq 0 0&&Nat.beq (jo (bc enc l)) (Nat.mul l.length k)&&Nat.beq k k&&Nat.beq l.length l.length&&ea (enc x))=true:=by rw[ou,gg hk,M];simp
  show(bif _ then _ else _)=_;rw[ch,ka];exact qY C
 | @part b o _ cs bJ aT bb aZ =>
  refine⟨T h U (.cells (bc enc l++enc x) false),?_,by simp[rX],ab⟩;unfold dT;simp only;rw[xo,ub,s2 ar C E,a1];unfold gT;rw[show Nat.ble (Nat.add l.length 1) l.length=false from aaq _,Z];unfold q8;simp only[vD aT];have I:na (Nat.mul l.length k) (m6 cs o)=some (bc enc l):=by
   rw[rW,q1,if_pos ab]
   grind
  rw[I];show qh h U k (kz (bc enc l) (enc x)) _=_;rw[ka];exact qY C
end
theorem d1{az:Type}{l:aa az}(h:i<l.length):∃x,l[i]? = some x:=⟨_,kL h⟩
section
variable {e4:Type}
end
section
variable {P:Program}  {s:al}
theorem cG(h:i<1000000000000):IntKind.wrap .i64 ((i:Int)+1)=((i+1:Nat):Int):=by rw[CK J J];simp
theorem aS(h:ae)(b:Nat)(o:gh):u (T h b o) b=some o:=by rw[kW,if_pos rfl]
theorem aq{h:ae}{b c:Nat}{o:gh}(e:c≠b):u (T h b o) c=u h c:=by rw[kW,if_neg e]
theorem ajm(l:aa X):Fk l=if ea l=true then .ok (.ptr (.cells l false))else .no "cells" := by
 unfold Fk
 grind
theorem ahv(x:X)(l:aa X):ea (x::l)=(gS x&&ea l):=by rw[qT]
theorem Xa(l:aa X)(a b:Nat):vM l a b=if ea l=true then .ok (.slice (.cells l false) a b)else .no "cells" := by
 unfold vM
 grind
theorem RJ{t:IntKind}{n i b o cap z:Nat}{aO:aw Nat}(aj:i<n):ib (.slice z) (.slice (some ⟨b,o,aO⟩) n cap) (.int t (i:Int)) = .ok (.pointer (some ⟨b,o+i*z,none⟩)):=by rw[QY,WY,if_pos aj]
theorem RK{t:IntKind}{n i b o z:Nat}{aO:aw Nat}(aj:i<n):ib (.array n z) (.pointer (some ⟨b,o,aO⟩)) (.int t (i:Int)) = .ok (.pointer (some ⟨b,o+i*z,none⟩)):=by rw[QY,WZ,if_pos aj]
theorem avC{t:IntKind}{n b o cap z:Nat}{aO:aw Nat}(aj:0<n):ib (.slice z) (.slice (some ⟨b,o,aO⟩) n cap) (.int t 0) = .ok (.pointer (some ⟨b,o,none⟩)):=by
 have:=RJ (t:=t) (b:=b) (o:=o) (cap:=cap) (aO:=aO) (z:=z)  aj
 grind
theorem avD{t:IntKind}{n b o z:Nat}{aO:aw Nat}(aj:0<n):ib (.array n z) (.pointer (some ⟨b,o,aO⟩)) (.int t 0) = .ok (.pointer (some ⟨b,o,none⟩)):=by
 have:=RK (t:=t) (b:=b) (o:=o) (aO:=aO) (z:=z)  aj
 grind
theorem avE{t:IntKind}{n b o cap z:Nat}{aO:aw Nat}(aj:1<n):ib (.slice z) (.slice (some ⟨b,o,aO⟩) n cap) (.int t 1) = .ok (.pointer (some ⟨b,o+z,none⟩)):=by
 have:=RJ (t:=t) (b:=b) (o:=o) (cap:=cap) (aO:=aO) (z:=z)  aj
 grind
theorem avF{t:IntKind}{n b o z:Nat}{aO:aw Nat}(aj:1<n):ib (.array n z) (.pointer (some ⟨b,o,aO⟩)) (.int t 1) = .ok (.pointer (some ⟨b,o+z,none⟩)):=by
 have:=RK (t:=t) (b:=b) (o:=o) (aO:=aO) (z:=z)  aj
 grind
def jY(o:aw gh)(h:ae)(b off:Nat)(l:aa X):R ae:=match o with
 |some (.cells cs false)=>bif ea l then R.of "write - out of block" (m9 l cs off) (λcs=>.ok (T h b (.cells cs false)))else .no "write - cells"
 |_=>.no "write"
theorem avG{h:ae}{n:Nat}{a:Addr}{x:X}{k:ae->Prop}:af (aQ h n (.pointer (some a)) x) k↔(dh x).length=n/\af (jY (u h a.block) h a.block a.off (dh x)) k:=by
 rw[aes]
 by_cases g:(dh x).length=n
 case neg=>rw[if_neg g];exact⟨λh=>h.elim,λh=>g h.1⟩
 rw[if_pos g];refine Iff.trans ?_ (and_iff_right g).symm;unfold qb jY;rw[IN];cases u h a.block with
 |none=>exact Iff.rfl
 |some o =>
  cases o with
  |cells cs bJ =>
   rw[E6];cases bJ with
   |true=>exact Iff.rfl
   |false=>grind
  |_=>exact Iff.rfl
theorem avH{h:ae}{b off:Nat}{cs:aa X}{v:X}{k:ae->Prop}:af (jY (some (.cells cs false)) h b off [v]) k↔gS v=true/\off<cs.length/\k (T h b (.cells (cs.set off v) false)):=by
 show af (bif ea [v]then R.of _ (m9 [v] cs off) _ else _) k↔_;rw[qT,s3];cases C:gS v with
 |false=>exact⟨λh=>h.elim,λh=>by cases h.1⟩
 |true =>
  by_cases g:off<cs.length
  ·rw[if_pos ab,Vi,if_pos g];exact⟨λh=>⟨rfl,g,h⟩,λh=>h.2.2⟩
  ·rw[if_neg ab];exact⟨λh=>h.elim,λh=>g h.2.1⟩
theorem zH{l:aa X}{k:ae->Prop}:af (jY (some (.cells cs false)) h b off l) k↔ea l=true/\off+l.length<=cs.length/\k (T h b (.cells (cs.take off++l++cs.drop (off+l.length)) false)):=by
 show af (bif ea l then R.of _ (m9 l cs off) _ else _) k↔_;rw[s3];cases C:ea l with
 |false=>exact⟨λh=>h.elim,λh=>by cases h.1⟩
 |true =>
  by_cases g:off+l.length<=cs.length
  ·rw[if_pos g,<-kv];exact⟨λh=>⟨rfl,g,h⟩,λh=>h.2.2⟩
  ·rw[if_neg g];exact⟨λh=>h.elim,λh=>g h.2.1⟩
theorem avI{h:ae}{b:Nat}{cs l:aa X}{x y:X}{k:ae->Prop}:af (jY (some (.cells cs false)) h b 0 (x::y::l)) k↔ea (x::y::l)=true/\(x::y::l).length<=cs.length/\k (T h b (.cells (x::y::l++cs.drop (x::y::l).length) false)):=by rw[zH];simp
theorem Kh{l:aa X}(g:ea l=true)(C:off+l.length<=cs.length):jY (some (.cells cs false)) h b off l = .ok (T h b (.cells (cs.take off++l++cs.drop (off+l.length)) false)):=by show(bif ea l then R.of _ (m9 l cs off) _ else _)=_;rw[N7 C,g];rfl
theorem as7(t:TypeId)(v:X):dh (.iface t v)=[.iface t v]:=rfl
theorem as8(r:aw Nat):dh (.map r)=[.map r]:=rfl
theorem avJ(f:Fn)(a b:Array X):dh (.func f a b)=[.func f a b]:=rfl
theorem avK:dh .nilFunc=[.nilFunc]:=rfl
theorem ajn(r:aw Nat):gS (.map r)=true:=rfl
theorem ah4(f:Fn)(a b:Array X):gS (.func f a b)=true:=rfl
theorem alL:gS .nilFunc=true:=rfl
theorem apw(U:Nat):wu U .map = .map (some U):=rfl
theorem apx:sf .map = .map [] 0:=rfl
theorem ajo(c:aa X):pk [] c = .ok c:=rfl
theorem apy(off z:Nat)(x:X)(g:aa (Nat × Nat × X))(c:aa X):pk ((off,z,x)::g) c=q5 (pk g) off z (dh x) c:=rfl
theorem N8{C:aa X->R (aa X)}{off:Nat}{v:X}{c:aa X}:q5 C off 1 [v] c=if off<c.length then C (c.set off v)else .no "fill" := by
 show(bif Nat.beq (jo [v]) 1 then R.of "fill" (m9 [v] c off) C else _)=_;rw[ou,s3]
 by_cases g:off<c.length
 ·rw[if_pos g,if_pos ab,Vi,if_pos g];rfl
 ·rw[if_neg g,if_neg ab];rfl
theorem I8{g:aa X->R (aa X)}{n:Nat}{l:aa X}(C:l.length=n)(E:off+n<=c.length):q5 g off n l c=g (c.take off++l++c.drop (off+n)):=by show(bif Nat.beq (jo l) n then R.of "fill" (m9 l c off) g else _)=_;rw[ou,C,ua,N7 J,C];rfl
theorem as9(z:aa X)(cb:aa (Nat × Nat × X)):cS z cb=R.bind (pk cb z) (λl=>.ok (.agg ⟨l⟩)):=rfl
theorem ata(n:Nat)(z:aa X)(cb:aa (Nat × Nat × X)):fh n z cb=R.bind (pk cb z) (λl=>vM l n n):=rfl
theorem ah5{n off:Nat}{x:X}{cs:aa X}:h0 (some n) off (x::cs)=if n<=(x::cs).length-off then .ok (.agg ⟨((x::cs).drop off).take n⟩)else .no "load - out of block" := p6 n off (x::cs)
theorem vP{c2:Nat}{l:aa Int}{x:Int}{k:X->ae->Nat->Prop}(g:fQ h c3 1 v l o)(ar:u h b4=some (.cells [(x:X)] bJ))(M:l.length<1000000)(I:∀ac,u ac U=some (.cells (f9 (l++[x])) false)->(∀c,c≠U->o≠some c->u ac c=u h c)->k (.slice (some ⟨U,0,some 1⟩) (l.length+1) (l.length+1)) ac (U+1)):
  dG (dX (dT 1 h U v (.slice (some ⟨b4,0,mf⟩) 1 c2))) k:=by obtain⟨ac,e,C,E⟩:=g.app (k:=1) (λ_=>rfl) (λ_=>rfl) Nat.zero_lt_one  (dO:=0)   ar  rfl J;rw[iG]at C;rw[e];exact I ac C E
theorem apA(n:Nat)(z:aa X):gI n z=(List.replicate n z).flatten:=by
 induction n with
 |zero=>rfl
 |succ n g=>show kz z (gI n z)=_;rw[ka,g,En,List.flatten_cons]
theorem alM(n:Nat)(v:X):gI n [v]=List.replicate n v:=by
 induction n with
 |zero=>rfl
 |succ n g=>show kz [v] (gI n [v])=_;rw[ka,g];rfl
theorem ajp{n:Nat}(h:gS v=true):ea (List.replicate n v)=true:=by
 induction n with
 |zero=>rfl
 |succ n g=>rw[En,qT,h,g];rfl
theorem QZ{n:Nat}{t:IntKind}(g:n<=100000)(C:gS v=true):tf [v] (.int t (n:Int)) (.int mq (n:Int)) = .ok (.slice (.cells (List.replicate n v) false) n n):=by show(bif Nat.ble n n&&Nat.ble n 100000 then vM (gI n [v]) n n else _)=_;rw[show(Nat.ble n n&&Nat.ble n 100000)=true by simp[g],alM];show vM _ _ _=_;rw[Xa,if_pos (ajp C)]
theorem avL{n:Nat}{t mq:IntKind}{x:Int}{g:IntKind}(C:n<=100000):tf [.int g x] (.int t (n:Int)) (.int mq (n:Int)) = .ok (.slice (.cells (List.replicate n (.int g x)) false) n n):=QZ C rfl
theorem avM{n:Nat}{t mq:IntKind}{c d:Nat}(g:n<=100000):tf [.slice none c d] (.int t (n:Int)) (.int mq (n:Int)) = .ok (.slice (.cells (List.replicate n (.slice none c d)) false) n n):=QZ g rfl
theorem avN{n:Nat}{t mq:IntKind}{b:al}(g:n<=100000):tf [.bool b] (.int t (n:Int)) (.int mq (n:Int)) = .ok (.slice (.cells (List.replicate n (.bool b)) false) n n):=QZ g rfl
theorem apB(k:IntKind)(n:Int):m7 (.int k n) (.ok (.int k n))=true:=rV k n
theorem apC(b:al):m7 (.bool b) (.ok (.bool b))=true:=xu b
theorem apD(a:Addr)(n c:Nat):m7 (.slice (some a) n c) (.ok (.slice (some a) n c))=true:=sX a n c
theorem apE(n c:Nat):m7 (.slice none n c) (.ok (.slice none n c))=true:=by simp[m7,nQ,qf]
theorem apF(a:aw Addr)(n c:Nat):m7 (.slice a n c) (.ok (.slice a n c))=true:=sX a n c
theorem apG(a:Addr):m7 (.pointer (some a)) (.ok (.pointer (some a)))=true:=VO a
theorem alN{g:aa X->R (aa X)}{off:Nat}{x y:X}{c:aa X}:q5 g off 2 [x,y] c=if off+2<=c.length then g (c.take off++x::y::c.drop (off+2))else .no "fill" := by
 by_cases h:off+2<=c.length
 ·rw[if_pos h,I8 (n:=2)  rfl h];simp
 ·rw[if_neg h];show(bif Nat.beq (jo [x,y]) 2 then R.of "fill" (m9 [x,y] c off) g else _)=_;rw[s3,if_neg J];rfl
theorem alO{g:aa X->R (aa X)}{off:Nat}{x y z:X}{c:aa X}:q5 g off 3 [x,y,z] c=if off+3<=c.length then g (c.take off++x::y::z::c.drop (off+3))else .no "fill" := by
 by_cases h:off+3<=c.length
 ·rw[if_pos h,I8 (n:=3)  rfl h];simp
 ·rw[if_neg h];show(bif Nat.beq (jo [x,y,z]) 3 then R.of "fill" (m9 [x,y,z] c off) g else _)=_;rw[s3,if_neg J];rfl
theorem alP{g:aa X->R (aa X)}{off:Nat}{x y z w:X}{c:aa X}:q5 g off 4 [x,y,z,w] c=if off+4<=c.length then g (c.take off++x::y::z::w::c.drop (off+4))else .no "fill" := by
 by_cases h:off+4<=c.length
 ·rw[if_pos h,I8 (n:=4)  rfl h];simp
 ·rw[if_neg h];show(bif Nat.beq (jo [x,y,z,w]) 4 then R.of "fill" (m9 [x,y,z,w] c off) g else _)=_;rw[s3,if_neg J];rfl
theorem aar{h:ae}{U:Nat}{f:FuncId}{aE a b:aa X}:hJ h U aE (.func (.func f) ⟨a⟩ ⟨b⟩) = .call f (a++(aE++b)) h U:=by show fl.call f (kz a (kz aE b)) h U=_;rw[ka,ka]
theorem avO{P:Program}{s:al}{f:FuncId}{aE:aa X}{h:ae}{U:Nat}{k:X->ae->Nat->Prop}:fc P s (hJ h U aE (.func (.func f) #[] #[])) k↔aH P s f aE h U k:=by rw[aar,sU,hZ];exact Iff.rfl
theorem apH(l:aa X):m7 (.agg ⟨l⟩) (.ok (.agg ⟨l⟩))=qg l l:=rfl
theorem apI(k:IntKind)(n:Int):qf (.int k n) (.int k n)=true:=rV k n
theorem apJ(a:aw Addr)(n c:Nat):qf (.slice a n c) (.slice a n c)=true:=sX a n c
theorem apK(b:al):qf (.bool b) (.bool b)=true:=xu b
def Uz:=And.intro @zS (And.intro @aem (And.intro @C4 (And.intro @aen (And.intro @KL (And.intro @Bool.true_and (And.intro @Bool.not_false (And.intro @Bool.not_true (And.intro @Bool.false_eq_true (And.intro @Bool.true_eq_false (And.intro @false_implies (And.intro @true_implies (And.intro @apv (And.intro @ints_set (And.intro @xR (And.intro @aeo (And.intro @aep (And.intro @aeq (And.intro @aer (And.intro @O1 (And.intro @aad (And.intro @JA (And.intro @aae (And.intro @aaf (And.intro @aag (And.intro @aah (And.intro @aai (And.intro @acj (And.intro @Yn (And.intro @aco (And.intro @acp (And.intro @afO (And.intro @afP (And.intro @aaj (And.intro @aak (And.intro @W4 (And.intro @W5 (And.intro @acl (And.intro @Yp (And.intro @acm (And.intro @aal (And.intro @acn (And.intro @W6 (And.intro @Wg (And.intro @VN (And.intro @W7 (And.intro @W8 (And.intro @ahv (And.intro @aS (And.intro @aq (And.intro @ajm (And.intro @Xa (And.intro @RJ (And.intro @RK (And.intro @avC (And.intro @avD (And.intro @avE (And.intro @avF (And.intro @avG (And.intro @avH (And.intro @avI (And.intro @as7 (And.intro @as8 (And.intro @avK (And.intro @avJ (And.intro @ajn (And.intro @ah4 (And.intro @alL (And.intro @apw (And.intro @apx (And.intro @ajo (And.intro @apy (And.intro @N8 (And.intro @as9 (And.intro @ata (And.intro @ah5 (And.intro @avL (And.intro @avM (And.intro @avN (And.intro @apB (And.intro @apC (And.intro @apD (And.intro @apE (And.intro @E6 (And.intro @Kg (And.intro @aan (And.intro @aao (And.intro @aap (And.intro @Wb (And.intro @Wa (And.intro @Vo (And.intro @Fv (And.intro @e7 (And.intro @Wc (And.intro @W0 (And.intro @Yl (And.intro @NC (And.intro @Ym (And.intro (@List.getElem?_cons_zero X) (And.intro (@List.getElem?_cons_succ X) (And.intro (@List.drop_zero X) (And.intro (@List.drop_succ_cons X) (And.intro (@List.take_zero X) (And.intro (@List.take_succ_cons X) (And.intro (@List.set_cons_zero X) (And.intro (@List.set_cons_succ X) (And.intro @Nat.zero_add (And.intro @Nat.add_zero (And.intro @Nat.mul_one (And.intro (@List.length_cons X) (And.intro (@List.length_nil X) (And.intro (@List.append_nil X) (And.intro (@List.nil_append X) (And.intro (@List.cons_append X) (And.intro (@List.drop_nil X) (And.intro @Bool.and_self (And.intro @Bool.and_true (And.intro @zp (And.intro @true_and (And.intro @and_true (And.intro @decide_eq_true_eq (And.intro @decide_eq_false_iff_not (And.intro @Bool.not_eq_true' (And.intro @Bool.not_eq_false' (And.intro @Int.ofNat_lt (And.intro @apF (And.intro @apG (And.intro @alN (And.intro @alO (And.intro @alP (And.intro @aar (And.intro @avO (And.intro @Nat.le_refl (And.intro @apH (And.intro @ah3 (And.intro @ajl (And.intro @rV (And.intro @xu (And.intro @sX (And.intro @apI (And.intro @apJ (And.intro @apK (@Decidable.not_not))))))))))))))))))))))))))))))))))))))))))))))))))))))))))))))))))))))))))))))))))))))))))))))))))))))))))))))))))))))))))))))))))))))))))))))
end
theorem aet{n:Nat}{a:Addr}(I:0<n)(E:n<=cap)(C:wv (some a)=false):
  gW z (.slice (some a) n cap) (some (.int .i64 1)) (some (n:X)) (some (n:X)) = .ok (.slice (some ⟨a.block,if n=1 then a.off else a.off+z,none⟩) (n-1) (n-1)):=by
 show nN z (some a) cap true n n 1=_;unfold nN;rw[show(Nat.ble n cap&&(Nat.ble n n&&Nat.ble 1 n))=true by simp[E];omega];unfold uy
 by_cases h:n=1
 ·subst h;rw[if_pos rfl];show(bif zu (some a)&&!true then _ else bif wv (some a)then _ else _)=_;rw[C];simp[Fm]
 ·rw[if_neg h];rw[show Nat.beq n 1=false by
   cases g:Nat.beq n 1 with
   |true=>exact absurd (gG g) h
   |false=>rfl]
  simp[Fm]
theorem fQ.head{x:Int}{l:aa Int}(g:fQ h c3 1 v (x::l) o):∃b off aO cs bJ E,v = .slice (some ⟨b,off,aO⟩) (l.length+1) (l.length+1)/\o=some b/\u h b=some (.cells cs bJ)/\cs[off]? = some (x:X) /\
  gW 1 v (some (.int .i64 1)) (some (((l.length+1:Nat):X))) (some (((l.length+1:Nat):X))) = .ok E/\fQ h c3 1 E l (some b):=by
 have I:∀(b off:Nat) (aO:aw Nat) (cs:aa X) (bJ:al),wv (some ⟨b,off,aO⟩)=false->u h b=some (.cells cs bJ)->off+(l.length+1)<=cs.length->(cs.drop off).take (l.length+1)=f9 (x::l) ->
   cs[off]? = some (x:X)/\∃E,gW 1 (.slice (some ⟨b,off,aO⟩) (l.length+1) (l.length+1)) (some (.int .i64 1)) (some (((l.length+1:Nat):X))) (some (((l.length+1:Nat):X))) = .ok E/\fQ h c3 1 E l (some b):=λb off aO cs bJ cZ C bb M=>by
  refine⟨?_,_,aet J J cZ,?_⟩
  ·have:((cs.drop off).take (l.length+1))[0]? = some (x:X):=by rw[M];rfl
   grind
  ·show fQ h c3 1 (.slice (some ⟨b,if l.length+1=1 then off else off+1,none⟩) (l.length+1-1) (l.length+1-1)) l (some b);rw[show l.length+1-1=l.length by omega]
   by_cases Z:l.length+1=1
   ·rw[if_pos Z];have:l=[]:=ab
    subst this;exact fQ.part   C J (by simp[bc])
   ·rw[if_neg Z];refine fQ.part   C (by omega) ?_;rw[iG,EA,<-xm];have:=congrArg (List.drop 1) M;rw[Ew]at this;simpa[f9]using this
 cases g with
 | @own b _ C =>
  rw[iG]at C;obtain⟨h1,E,ar,V⟩:=I b 0 (some 1) _ _ rfl C (by simp[zp]) (by rw[pb,o8 (by simp[zp])]);exact⟨b,0,some 1,_,_,E,rfl,rfl,C,h1,ar,V⟩
 | @part b o _ cs bJ C bb M =>
  rw[iG]at M;obtain⟨h1,E,ar,V⟩:=I b o none _ _ rfl C ab ab;exact⟨b,o,none,_,_,E,rfl,rfl,C,h1,ar,V⟩
theorem aH.AF{P:Program}(E:pF P){s:al}{g:Prop}(C:aa (aa Nat))(w:g)(e:ob P s C f args h U K=g):aH P s f args h U K:=aH.oR E C (by rw[e];exact w)
def ad(n:Int):X:=(n:X)
def ay:X:=.slice none 0 0
def bf(n:Nat)(x:X)(k:X->Prop):Prop:=af (zQ n x) k
def bT(h:ae)(x:X)(k:X->Prop):Prop:=af (iH none h x) k
def aN(n:Nat)(h:ae)(x:X)(k:X->Prop):Prop:=af (iH (some n) h x) k
def hT(n:Nat)(x i:X)(k:X->Prop):Prop:=af (ib (.slice n) x i) k
def cV(x:X)(k:X->Prop):Prop:=af (z0 x) k
def c0(y v:X)(p:Prop)(n:Nat)(l:aa ae):Prop:=oL (λh=>iH none h y) v p n l
def jg(z:Nat)(y v:X)(p:Prop)(n:Nat)(l:aa ae):Prop:=oL (λh=>iH (some z) h y) v p n l
def bW(l:aa X)(h:ae)(U:Nat)(k:X->ae->Nat->Prop):Prop:=d4 (.ok (.ptr (.cells l false))) h U k
def bI(t:X)(h:ae)(U:Nat)(k:X->ae->Nat->Prop):Prop:=d4 (Fk (dh t)) h U k
theorem p7{az:Type}{l:aa az}{x:az}(h:l[i]? = some x):i<l.length:=ab
theorem Ca{az:Type}{l:aa az}{x d:az}(h:l[i]? = some x):l.getD i d=x:=ab
structure po (n:Nat) (es:aa GE) (L:aa Nat):Prop where
 len:L.length=n
 C5:∀e∈es,L[e.f]? = L[e.t]?
 le:∀(v x:Nat),L[v]? = some x->x<=v
 mg:∀(c:Nat->Nat),(∀e∈es,c e.f=c e.t)->∀(v x:Nat),L[v]? = some x->c x=c v
theorem po.aeu{n:Nat}{es:aa GE}{B:aa Nat}(I:po n es A)(g:po n es B){v x y:Nat}(E:A[v]? = some x)(C:B[v]? = some y):y<=x:=by
 have h1:=I.mg (λaD=>B.getD aD 0) (λe M=>by simp[List.getD,g.C5 e M]) v x E;have Z:=p7 C;have V:=I.le v x E;have ar:B[x]? = some B[x]:=ab
 have h1:B.getD x 0=B.getD v 0:=h1;rw[Ca ar,Ca C]at h1;have:=g.le x _ ar;omega
theorem po.unique{n:Nat}{es:aa GE}{B:aa Nat}(g:po n es A)(C:po n es B):A=B:=by
 refine oq λv=>?_;cases I:A[v]? with
 |none =>
  cases E:B[v]? with
  |none=>rfl
  |some y=>have:=p7 E;rw[C.len,<-g.len]at this;grind
 |some x =>
  cases E:B[v]? with
  |none=>have:=p7 I;rw[g.len,<-C.len]at this;grind
  |some y =>
   have h1:=g.aeu C I E;have ar:=C.aeu g E I
   grind
theorem po.own{n:Nat}{es:aa GE}{A:aa Nat}(g:po n es A){v x:Nat}(E:A[v]? = some x):A[x]? = some x:=by
 have h1:=g.mg (λaD=>A.getD aD 0) (λe C=>by simp[List.getD,g.C5 e C]) v x E
 grind
inductive gi (f:List Nat):Nat->Nat->Prop
 |here {v:Nat} (h:f[v]? = some v):gi f v v
 |up {v aD r:Nat} (h:f[v]? = some aD) (bH:aD≠v) (t:gi f aD r):gi f v r
def q7(n:Nat)(f:aa Nat):Prop:=f.length=n/\∀(v x:Nat),f[v]? = some x->x<=v
theorem gi.AG{f:aa Nat}{v g:Nat}(h:gi f v r)(ac:gi f v g):r=g:=by
 induction h with
 |here h =>
  cases ac with
  |here _=>rfl
  |up ar C _=>grind
 |up h C _ E =>
  cases ac with
  |here ar=>grind
  |up ar _ t=>grind
theorem gi.is{f:aa Nat}{v:Nat}(h:gi f v r):f[r]? = some r:=by
 induction h with
 |here h=>exact h
 |up _ _ _ g=>omega
theorem gi.le{n:Nat}{f:aa Nat}(g:q7 n f){v:Nat}(h:gi f v r):r<=v:=by
 induction h with
 |here h=>omega
 |up h _ _ C=>exact hy C (g.2 _ _ h)
theorem q7.root{n:Nat}{f:aa Nat}(C:q7 n f):∀v,v<n->∃r,gi f v r:=by
 intro v
 induction v using Nat.strongRecOn with
 |_ v E =>
  intro aJ;have Z:v<f.length:=by rw[C.1];omega
  have g:f[v]? = some f[v]:=ab
  have I:=C.2 v _ g
  by_cases M:f[v]=v
  ·exact⟨v,.here ab⟩
  ·obtain⟨r,V⟩:=E f[v] J J;exact⟨r,.up g M V⟩
theorem gi.short{n:Nat}{f:aa Nat}(I:q7 n f){v:Nat}(C:gi f v r):q7 n (f.set v r)/\∀aD q,gi f aD q->gi (f.set v r) aD q:=by
 have Dm:v<f.length:=by
  cases C with
  |here h=>grind
  |up h _ _=>grind
 have a6:∀aD,(f.set v r)[aD]? = if aD=v then some r else f[aD]?:=ab
 have a5:=C.is;have g:(f.set v r)[r]? = some r:=ab
 refine⟨⟨by rw[Eu];exact I.1,λaD x E=>?_⟩,λaD q h=>?_⟩
 ·rw[a6]at E
  split at E
  ·rename_i e;cases E;rw[e];exact C.le I
  ·exact I.2 aD x E
 ·induction h with
  | @here aD h =>
   by_cases e:aD=v
   ·subst e;have:=C.AG (.here h);subst this;exact .here g
   ·exact .here ab
  | @up aD x q h V t Z =>
   by_cases e:aD=v
   ·subst e;have:=C.AG (.up h V t);subst this
    by_cases M:r=aD
    ·rw[M]at g ⊢;exact .here g
    ·exact .up ab M (.here g)
   ·exact .up ab V Z
theorem gi.join{n:Nat}{f:aa Nat}(I:q7 n f){a:Nat}(cY:f[a]? = some a)(aT:f[b]? = some b)(yu:b<=a):q7 n (f.set a b)/\∀aD q,gi f aD q->gi (f.set a b) aD (if q=a then b else q):=by
 have Z:∀aD,(f.set a b)[aD]? = if aD=a then some b else f[aD]?:=ab
 have g:(f.set a b)[b]? = some b:=ab
 refine⟨⟨by rw[Eu];exact I.1,λaD x C=>?_⟩,λaD q h=>?_⟩
 ·rw[Z]at C
  split at C
  ·grind
  ·exact I.2 aD x C
 ·induction h with
  | @here aD h =>
   by_cases e:aD=a
   ·subst e;rw[if_pos rfl]
    by_cases E:b=aD
    ·rw[E]at g ⊢;exact .here g
    ·exact .up ab E (.here g)
   ·rw[if_neg e];exact .here ab
  | @up aD x q h V t M =>
   exact .up ab V M
structure qn (n:Nat) (es:aa GE) (i:Nat) (f:aa Nat):Prop where
 vW:q7 n f
 C5:∀e∈es.take i,∀q,gi f e.f q->gi f e.t q
 mg:∀(c:Nat->Nat),(∀e∈es,c e.f=c e.t)->∀v r,gi f v r->c r=c v
theorem qn.init{n:Nat}{es:aa GE}:qn n es 0 (List.range n):=by
 refine⟨⟨by simp,ab⟩,λe g=>by simp at g,λc E v r h=>?_⟩;cases h with
 |here h=>rfl
 |up h C _=>grind
theorem qn.same{n:Nat}{es:aa GE}{f E:aa Nat}(h:qn n es i f)(I:q7 n E)(ap:∀aD q,gi f aD q->gi E aD q):qn n es i E:=by
 have back:∀aD q,gi E aD q->gi f aD q:=λaD q g=>by
  have Z:aD<n:=by
   cases g with
   |here h=>have:=p7 h;rw[I.1]at this;omega
   |up h _ _=>have:=p7 h;rw[I.1]at this;omega
  obtain⟨r,C⟩:=h.vW.root aD Z;rw[g.AG (ap aD r C)];exact C
 exact⟨I,λe V q g=>ap _ _ (h.C5 e V q (back _ _ g)),λc M v r C=>h.mg c M v r (back _ _ C)⟩
theorem qn.step{n:Nat}{es:aa GE}{f:aa Nat}(h:qn n es i f){e:GE}(bE:es[i]? = some e){a:Nat}(M:gi f e.f a)(I:gi f e.t b):qn n es (i+1) (f.set (max a b) (min a b)):=by
 have hmx:f[max a b]? = some (max a b):=by
  rcases Nat.le_total a b with h1|h1
  ·rw[Nat.max_eq_right h1];exact I.is
  ·rw[Nat.max_eq_left h1];exact M.is
 have hmn:f[min a b]? = some (min a b):=by
  rcases Nat.le_total a b with h1|h1
  ·rw[BG h1];exact M.is
  ·rw[Nat.min_eq_right h1];exact I.is
 obtain⟨C,ap⟩:=gi.join h.vW hmx hmn J;have back:∀aD q,gi (f.set (max a b) (min a b)) aD q->∃r,gi f aD r/\q=if r=max a b then min a b else r:=λaD q E=>by
  have dY:aD<n:=by
   cases E with
   |here h=>have:=p7 h;rw[C.1]at this;omega
   |up h _ _=>have:=p7 h;rw[C.1]at this;omega
  obtain⟨r,g⟩:=h.vW.root aD dY;exact⟨r,g,E.AG (ap aD r g)⟩
 refine⟨C,λx V q E=>?_,λc Z v r g=>?_⟩
 ·obtain⟨r,g,rfl⟩:=back _ _ E;rcases(ag3 bE).1 V with V|rfl
  ·exact ap _ _ (h.C5 x V r g)
  ·have:=g.AG M;subst this;have ar:=ap _ _ I;have:(if r=max r b then min r b else r)=(if b=max r b then min r b else b):=ab
   rw[this];exact ar
 ·obtain⟨q,E,rfl⟩:=back _ _ g;have h1:=h.mg c Z v q E
  split
  ·rename_i aV
   have ar:=h.mg c Z _ _ M;have aL:=h.mg c Z _ _ I
   grind
  omega
theorem qn.SK{n:Nat}{es:aa GE}{f:aa Nat}(M:∀e∈es,e.f<n/\e.t<n)(h:qn n es es.length f):∃L,po n es L/\∀v r,gi f v r↔L[v]? = some r:=by
 have g:∀v,v<n->∃r,gi f v r:=h.vW.root;have Z:∀m,m<=n->∃L:aa Nat,L.length=m/\∀v r,v<m->(gi f v r↔L[v]? = some r):=by
  intro m
  induction m with
  |zero=>intro _;exact⟨[],rfl,J⟩
  |succ m eO =>
   intro bl;obtain⟨L,I,E⟩:=eO J;obtain⟨gb,au⟩:=g m J;refine⟨L++[gb],ab,λv r aJ=>?_⟩;rw[BB]
   by_cases hvm:v<m
   ·grind
   ·have:v=m:=J
    subst this;rw[if_neg J,I,BK];simp only[List.getElem?_cons_zero,zb];exact⟨λh=>au.AG h,λh=>h ▸ au⟩
 obtain⟨L,I,E⟩:=Z n J;have E:∀v r,gi f v r↔L[v]? = some r:=λv r=>by
  by_cases aJ:v<n
  ·grind
  ·constructor
   ·intro C;have:v<f.length:=by cases C with
     |here h=>grind
     |up h _ _=>grind
    rw[h.vW.1]at this;omega
   ·intro C;have:=p7 C;omega
 refine⟨L,⟨I,λe bE=>?_,λv x V=>((E v x).2 V).le h.vW,λc aZ v x V=>h.mg c aZ v x ((E v x).2 V)⟩,E⟩;obtain⟨h1,ar⟩:=M e bE;obtain⟨r,C⟩:=g e.f h1;have:=h.C5 e ab r C
 grind
section
variable {n:Nat} {es:aa GE} {s:Nat} {l p:aa Int} {q D:aa Nat} {aD k:Nat} {av:aa Nat}
end
theorem nh.le{n:Nat}{es:aa GE}{s:Nat}{l b6:aa Int}(h:nh n es s l)(ac:nh n es s b6):∀(m v:Nat),l[v]? = some (m:Int)->∃y:Int,b6[v]? = some y/\0<=y/\y<=m
 |0,v,g=>by have:=h.zero v g;subst this;exact⟨0,ac.src,J,J⟩
 |m+1,v,g=>by
  obtain⟨e,V,ck,C⟩:=h.pre v _ g J;have Z:((m+1:Nat):Int)-1=(m:Int):=J
  rw[Z]at C;obtain⟨y,I,E,M⟩:=nh.le h ac m e.f C;obtain⟨z,cZ,h1,ar⟩:=ac.post e V y I E
  grind
theorem nh.unique{n:Nat}{es:aa GE}{s:Nat}{l:aa Int}(h:nh n es s l)(ac:nh n es s b6):l=b6:=by
 apply oq;intro v;rcases jn v n with E|E
 ·obtain⟨x,a⟩:∃x,l[v]? = some x:=⟨_,kL (by rw[h.len];omega)⟩
  obtain⟨y,b⟩:∃x,b6[v]? = some x:=⟨_,kL (by rw[ac.len];omega)⟩
  rw[a,b];have Z:=(h.jp v x a).1;have V:=(ac.jp v y b).1;rcases Int.lt_or_le x 0 with h1|h1
  ·rcases Int.lt_or_le y 0 with ar|ar
   ·grind
   ·obtain⟨m,rfl⟩:=By ar;obtain⟨z,g,C,_⟩:=nh.le ac h m v b
    grind
  ·obtain⟨m,rfl⟩:=By h1;obtain⟨z,g,C,bm⟩:=nh.le h ac m v a;rw[b]at g;cases g;obtain⟨k,rfl⟩:=By C;obtain⟨z,g,I,M⟩:=nh.le ac h k v b
   grind
 ·rw[t5 (by rw[h.len];omega),t5 (by rw[ac.len];omega)]
def Yr(es dg:aa GE):Prop:=(∀e∈es,∃d3∈dg,d3.f=e.f/\d3.t=e.t)/\∀e∈dg,∃d3∈es,d3.f=e.f/\d3.t=e.t
theorem nh.ends{n:Nat}{es g:aa GE}{s:Nat}{l:aa Int}(ap:Yr es g)(h:nh n es s l):nh n g s l where
 len:=h.len
 src:=h.src
 jp:=h.jp
 zero:=h.zero
 pre:=λv x I Z=>by
  obtain⟨e,E,h1,ar⟩:=h.pre v x I Z;obtain⟨M,C,aL,bm⟩:=ap.1 e E
  grind
 post:=λe E x I V=>by
  obtain⟨M,C,aL,bm⟩:=ap.2 e E;have:=h.post M C x ab V
  grind
def yv(es:aa GE):aa GE:=es++es.map (λe=>⟨e.t,e.f,e.w⟩)
theorem O4{es:aa GE}{e:GE}:e∈yv es->∃g∈es,(e.f=g.f/\e.t=g.t)\/(e.f=g.t/\e.t=g.f):=by
 intro h;rcases hb.1 h with h|h
 all_goals grind
theorem Cb{es:aa GE}{e:GE}(h:e∈es):e∈yv es/\⟨e.t,e.f,e.w⟩∈yv es:=⟨BD _ h,ML _ (f0.2 ⟨e,h,rfl⟩)⟩
def wH(n:Nat)(es:aa GE):Prop:=∀e∈es,e.f<n/\e.t<n
theorem acq{n:Nat}{es:aa GE}(h:wH n es):wH n (yv es):=λe E=>by
 obtain⟨C,g,h1|h1⟩:=O4 E
 ·rw[h1.1,h1.2];exact h C g
 ·rw[h1.1,h1.2];exact⟨(h C g).2,(h C g).1⟩
theorem Wh{n:Nat}{es:aa GE}{s:Nat}(E:wH n es)(ap:s<n):∃l,nh n es s l:=by
 have Z:∀k,∃l,oH n es s k 0 l:=by
  intro k
  induction k with
  |zero=>exact⟨_,oH.init ap⟩
  |succ k eO =>
   obtain⟨og,au⟩:=eO;have g:∀i,i<=es.length->∃l,oH n es s k i l:=by
    intro i
    induction i with
    |zero=>intro _;exact⟨og,au⟩
    |succ i I =>
     intro aj;obtain⟨l,C⟩:=I J;have V:es[i]? = some es[i]:=kL J
     by_cases M:l[es[i].f]? = some (k:Int)/\l[es[i].t]? = some (-1)
     ·exact⟨_,C.step V M.1 M.2⟩
     ·exact⟨l,C.skip V (E _ (k4 V)).2 M⟩
   obtain⟨l,C⟩:=g es.length (cD _);exact⟨l,C.next⟩
 obtain⟨l,C⟩:=Z n;exact⟨l,C.done⟩
structure rh (n:Nat) (es:aa GE) (k i:Nat) (L:aa Nat):Prop where
 len:L.length=n
 le:∀(v x:Nat),L[v]? = some x->x<=v
 mg:∀(c:Nat->Nat),(∀e∈es,c e.f=c e.t)->∀(v x:Nat),L[v]? = some x->c x=c v
 low:∀m l,nh n (yv es) m l->∀(v:Nat) (x:Int) (y:Nat),l[v]? = some x->0<=x->x<=k->L[v]? = some y->y<=m
 far:∀m l,nh n (yv es) m l->∀(j:Nat) (e:GE),es[j]? = some e->j<i->∀a b:Nat,(a=e.f/\b=e.t)\/(a=e.t/\b=e.f)->l[a]? = some (k:Int)->∀y:Nat,L[b]? = some y->y<=m
theorem rh.init{n:Nat}{es:aa GE}:rh n es 0 0 (List.range n):=by
 have I:∀v x,(List.range n)[v]? = some x->x=v:=λv x h=>by rw[xg ab]at h;grind
 refine⟨by simp,λv x h=>ab,λc _ v x h=>ab,λm l g v x y E V h1 C=>?_,λm l g j e Z M=>absurd M (Iv _)⟩;have:x=0:=J
 subst this;rw[I v y C,g.zero v E];omega
theorem rh.step{n:Nat}{es:aa GE}{k:Nat}{e:GE}(h:rh n es k i L)(bE:es[i]? = some e){x y:Nat}(a1:L[e.f]? = some x)(ce:L[e.t]? = some y):
  rh n es k (i+1) ((L.set e.f (min x y)).set e.t (min x y)):=by
 have sq:=p7 a1;have AH:=p7 ce;have a6:∀aD,((L.set e.f (min x y)).set e.t (min x y))[aD]? = if aD=e.t\/aD=e.f then some (min x y)else L[aD]?:=λaD=>ab
 have I:∀aD z,((L.set e.f (min x y)).set e.t (min x y))[aD]? = some z->∃w,L[aD]? = some w/\z<=w:=λaD z g=>by
  rw[a6]at g
  split at g
  ·rename_i dY
   cases g;rcases dY with rfl|rfl
   ·exact⟨y,ce,Nat.min_le_right _ _⟩
   grind
  grind
 have KA:=k4 bE;refine⟨by simp[h.len],λv z g=>?_,λc aZ v z g=>?_,λm l bb v a z V au hk g=>?_,λm l bb j d3 E b1 a b M V z g=>?_⟩
 ·obtain⟨w,Z,C⟩:=I v z g;exact hy C (h.le v w Z)
 ·rw[a6]at g;have hce:=aZ e KA;have hcx:=h.mg c aZ _ _ a1;have hcy:=h.mg c aZ _ _ ce
  split at g
  ·grind
  ·exact h.mg c aZ v z g
 ·obtain⟨w,Z,C⟩:=I v z g;exact hy C (h.low m l bb v a w V au hk Z)
 ·obtain⟨w,Z,C⟩:=I b z g
  by_cases hji:j<i
  ·exact hy C (h.far m l bb j d3 E hji a b M V w Z)
  ·have:j=i:=J
   subst this;rw[bE]at E;cases E;have KM:min x y<=m:=by
    rcases M with⟨rfl,rfl⟩|⟨rfl,rfl⟩
    ·have:=h.low m l bb _ _ x V J J a1;omega
    ·have:=h.low m l bb _ _ y V J J ce;omega
   grind
theorem rh.next{n:Nat}{es:aa GE}{k:Nat}(h:rh n es k es.length L):rh n es (k+1) 0 L :=
 ⟨h.len,h.le,h.mg,λm l g v x y a1 au hk Z=>by
  by_cases E:x<=k
  ·exact h.low m l g v x y a1 au E Z
  ·have M:x=((k+1:Nat):Int):=J
   subst M;obtain⟨e,bl,rfl,bK⟩:=g.pre v _ a1 J;obtain⟨d3,I,V⟩:=O4 bl;obtain⟨j,C⟩:=BC I;refine h.far m l g j d3 C (p7 C) e.f e.t V ?_ y Z
   grind,λm l g j e bE C=>absurd C (Iv _)⟩
theorem rh.done{n:Nat}{es:aa GE}(E:wH n es)(h:rh n es n 0 L):po n es L:=by
 refine⟨h.len,λe bE=>?_,h.le,h.mg⟩;obtain⟨bK,ck⟩:=E e bE;have a1:L[e.f]? = some (L[e.f]'(by rw[h.len];omega)):=kL _;have V:L[e.t]? = some (L[e.t]'(by rw[h.len];omega)):=kL _;have key:∀(a b:Nat),((a=e.f/\b=e.t)\/(a=e.t/\b=e.f))->∀x y:Nat,L[a]? = some x->L[b]? = some y->y<=x:=λa b yu x y a1 V=>by
  have hxn:x<n:=by have:=h.le a x a1;omega
  obtain⟨l,I⟩:=Wh (acq E) hxn;have hce:∀g∈es,(if 0<=l.getD g.f (-1)then 1 else 0)=(if 0<=l.getD g.t (-1)then 1 else 0):=λg M=>by
   obtain⟨m1,m2⟩:=Cb M;have eo:=E g M;have bB:l[g.f]? = some (l[g.f]'(by rw[I.len];omega)):=kL _;have g2:l[g.t]? = some (l[g.t]'(by rw[I.len];omega)):=kL _;rw[Ca bB,Ca g2]
   by_cases h1:0<=l[g.f]' ab
   ·obtain⟨y,V,ar,_⟩:=I.post _ m1 _ bB h1
    grind
   ·by_cases ar:0<=l[g.t]' ab
    ·obtain⟨y,V,aL,_⟩:=I.post _ m2 _ g2 ar
     grind
    grind
  have C:=h.mg (λaD=>if 0<=l.getD aD (-1)then 1 else 0) hce a x a1;have C:(if 0<=l.getD x (-1)then 1 else 0)=(if 0<=l.getD a (-1)then 1 else 0):=C;rw[Ca I.src,if_pos (BL 0)]at C;have ha0:0<=l.getD a (-1):=ab
  have han:a<n:=J
  have tS:l[a]? = some (l[a]' ab):=kL _;rw[Ca tS]at ha0;obtain⟨m1,m2⟩:=Cb bE;have aT:∃z,l[b]? = some z/\0<=z:=ab
  obtain⟨z,cZ,Z⟩:=aT;exact h.low x l I b z y cZ Z (by have:=(I.jp b z cZ).2;omega) V
 grind
theorem I9(l:aa Nat)(i x:Nat):(hz l).set i (x:Int)=hz (l.set i x):=by simp[hz,List.map_set]
theorem gi.back{n:Nat}{g E:aa Nat}(M:q7 n g)(C:q7 n E)(ap:∀aD q,gi g aD q->gi E aD q){aD q:Nat}(h:gi E aD q):gi g aD q:=by
 have V:aD<n:=by
  cases h with
  |here h=>have:=p7 h;rw[C.1]at this;omega
  |up h _ _=>have:=p7 h;rw[C.1]at this;omega
 obtain⟨r,I⟩:=M.root aD V;rw[h.AG (ap aD r I)];exact I
def uL(N i:Nat):aa Nat:=(List.range N).map (λk=>if k<i then k else 0)
theorem Ja{k:Nat}(g:k<N):(uL N i)[k]? = some (if k<i then k else 0):=by simp[uL,g]
theorem B0(N i:Nat):(uL N i).length=N:=by simp[uL]
theorem ajq(N:Nat):hz (uL N 0)=List.replicate N 0:=by
 refine oq λk=>?_
 by_cases g:k<N
 ·rw[I7 (Ja g)];grind
 ·rw[t5 (by rw[qZ,B0];omega),t5 ab]
theorem alQ(aj:i<N):(uL N i).set i i=uL N (i+1):=by
 refine oq λk=>?_;rw[y9,B0]
 by_cases g:k<N
 ·rw[Ja g,Ja g]
  grind
 ·rw[t5 (by rw[B0];omega),t5 (by rw[B0];omega),if_neg J]
theorem ajr(N:Nat):uL N N=List.range N:=by
 refine oq λk=>?_
 by_cases g:k<N
 ·rw[Ja g,if_pos g,xg g]
 ·rw[t5 (by rw[B0];omega),t5 ab]
section
variable {H:Type} {enc:TypeId × X->H} {P:Program} {w:World} {aO:Nat->al} {Ab:al} {az:Type}
def JY(w:World)(b off:Nat)(l:aa X):Prop:=∃c e e9,w.heap[b]? = some (.cells c e e9)/\∀i x,l[i]? = some x->c[off+i]? = some x
theorem ahw{w:World}{x:TypeId × Nat}(h:w.shape? b=some x):∃c e g,w.heap[b]? = some (.cells c e g):=by
 unfold World.shape? at h
 grind
theorem apL{ch:az->aa X}{k:Nat}{e:TypeId}{r:Reach}{base D4:Nat}{x:DataW H × aa MemPlace}(ck:P.underlying t=some (.slice e))(aZ:P.cellsOf e=k)(R:az->Prop)(C0:∀(n:Nat) (c:aa X) y,DataW.trod enc P w base aO Ab n e c=some y->∃z:az,c=ch z/\R z)(h:DataW.trod enc P w base aO Ab KJ t [v]=some x)(g:Cell.okWide P w r D4 t v):
  ∃M:aa az,(∀z∈M,R z)/\((M=[]/\v = .slice none 0 0)\/∃b off cap,v = .slice (some ⟨b,off,none⟩) M.length cap/\JY w b off (bc ch M)):=by
 rcases ajk ck aZ R C0 h with C|⟨a,M,cap,C,bb,bl,dW,I⟩
 ·injection C with C _
  exact⟨[],by simp,ab⟩
 ·injection C with C _
  subst C;refine⟨M,dW,.inr ?_⟩;unfold Cell.okWide at g;rw[ck]at g;simp only at g;unfold Cell.ok at g;rw[ck]at g;obtain⟨_,_,Z⟩:=g;obtain⟨_,E,row,cells,V,_⟩:=Z;obtain⟨b,off,spot⟩:=a;simp only at E V;subst E;obtain⟨c,d3,e9,bV⟩:=ahw V;refine⟨b,off,cap,rfl,c,d3,e9,bV,λi y ce=>?_⟩;have h1:=I i y ce;have aV:(Addr.add ⟨b,off,none⟩ i)=⟨b,off+i,none⟩:=by
   unfold Addr.add
   grind
  rw[aV]at h1;unfold World.cell? at h1
  grind
theorem Xb{k:IntKind}{c:X}{x:DataW H × aa MemPlace}(g:P.underlying t=some (.int k))(h:DataW.trod enc P w 0 aO Ab KJ t [c]=some x):∃n:Int,c = .int k n:=by
 obtain⟨n,h1,_⟩:=DataW.trod_int g h
 grind
end
def C6(v:X)(l:aa X):aa (Place × aa X):=match v with
 | .slice (some a) _ _=>[(⟨a.block,a.off,0,0⟩,l)]
 |_=>[]
def inV(v:X):X:=match v with
 | .slice (some _) n c=>.slice (some ⟨0,0,none⟩) n c
 |v=>v
theorem atb{az:Type}{g:az->aa X}{w:World}{C:aa az}(M:∀z,il (g z)=true)(h:(C=[]/\v = .slice none 0 0)\/∃b off cap,v = .slice (some ⟨b,off,none⟩) C.length cap/\JY w b off (bc g C)):
  InW w (C6 v (bc g C))/\bA (x8 (C6 v (bc g C))) (inV v) v/\cN (yt 0 (C6 v (bc g C)) ix) (C6 v (bc g C)).length (inV v) g C:=by
 have plain:∀l:aa az,∀x∈bc g l,qa x=true:=by
  intro l
  induction l with
  |nil=>intro x E;cases E
  |cons z l V =>
   intro x E;have E:x∈g z++bc g l:=E;rcases hb.1 E with E|E
   ·have:∀(l:aa X),il l=true->∀x∈l,qa x=true:=by
     intro l
     induction l with
     |nil=>grind
     |cons y l V =>
      intro h x E;have h:(qa y&&il l)=true:=h
      grind
    grind
   grind
 rcases h with⟨rfl,rfl⟩|⟨b,off,cap,rfl,c,e,Z,bV,a6⟩
 ·exact⟨λp I=>(by cases I),bA.qW 0 0,⟨none,0,rfl,λh=>absurd rfl h⟩⟩
 ·refine⟨λp I=>?_,.kO (p:=⟨b,off,0,0⟩) rfl _ _,⟨_,_,rfl,λ_=>⟨0,none,true,by simp[C6],rfl,as3 (p:=(⟨b,off,0,0⟩,bc g C)) rfl⟩⟩⟩;have I:p=(⟨b,off,0,0⟩,bc g C):=by simpa[C6]using I
  subst I;exact⟨c,e,Z,bV,λi x E=>⟨x,ab,ED ab _⟩⟩
theorem atc{P:Program}(E:aH P false f args h U (λv _ _=>v = .bool true)){w:World}{g:aa X}(M:d7 w.heap.size ai (u h) w)(Z:j2 ai U)(cY:dl ai args g)(n:Nat):
  CallsIn Fence.wide n P f ⟨g⟩ w (λe a9=>e = .returned (.bool true)/\RowKit.Below w.heap.size w a9):=
 (E.2 w.heap.size ai w g M Z cY n).mono λe a9 I=>by obtain⟨dN,ac,Y,bq,c,rfl,rfl,C,V⟩:=I;cases C;exact⟨rfl,alI rfl V⟩
def mk:Nat->(Nat->al)->Nat
 |0,_=>0
 |n+1,p=>(if p 0 then 1 else 0)+2*mk n (λi=>p (i+1))
def eh(n:Nat)(p:Nat->al):aa Nat:=(List.range n).filter p
theorem r5:∀(n:Nat) (p:Nat->al) (i:Nat),(mk n p).testBit i=(decide (i<n)&&p i)
 |0,p,i=>by simp[mk]
 |n+1,p,0=>by
  rw[mk,Nat.testBit_zero]
  grind
 |n+1,p,i+1=>by
  rw[mk,It];have:((if p 0 then 1 else 0)+2*mk n (λi=>p (i+1))) / 2=mk n (λi=>p (i+1)):=ab
  rw[this,r5 n];simp
theorem aev:∀(n:Nat) (p:Nat->al),mk n p<2 ^ n
 |0,p=>by simp[mk]
 |n+1,p=>by
  have:=aev n (λi=>p (i+1));rw[mk,Nat.pow_succ]
  grind
theorem Cr{n:Nat}{p q:Nat->al}(h:∀i,i<n->p i=q i):mk n p=mk n q:=by
 apply y5;intro i;rw[r5,r5]
 grind
theorem atd(n:Nat)(p q:Nat->al):mk n p &&& mk n q=mk n (λi=>p i&&q i):=by
 apply y5;intro i;rw[Iw,r5,r5,r5]
 grind
theorem avP(n:Nat)(p q:Nat->al):mk n p ||| mk n q=mk n (λi=>p i||q i):=by
 apply y5;intro i;rw[Ex,r5,r5,r5]
 grind
theorem acr{n k:Nat}(h:k<n):2 ^ k=mk n (λi=>decide (i=k)):=by
 apply y5;intro i;rw[r5,Nat.testBit_two_pow]
 grind
theorem O5(n:Nat):mk n (λ_=>false)=0:=by apply y5;intro i;rw[r5];simp
theorem acs(n:Nat)(p:Nat->al):mk (n+1) p / 2=mk n (λi=>p (i+1)):=by rw[mk];grind
theorem act(n:Nat)(p:Nat->al):mk (n+1) p % 2=if p 0 then 1 else 0:=by rw[mk];grind
theorem Fy{n:Nat}{p:Nat->al}:mk n p=0↔∀i,i<n->p i=false:=by
 constructor
 ·intro h i aj;have:=r5 n p i
  grind
 ·intro h;rw[<-O5 n];exact Cr h
theorem JE(n:Nat)(p:Nat->al):eh (n+1) p=(if p 0 then[0]else[])++(eh n (λi=>p (i+1))).map (·+1):=by
 unfold eh;rw[List.range_succ_eq_map,qQ];have:(List.map Nat.succ (List.range n)).filter p=((List.range n).filter (λi=>p (i+1))).map (·+1):=by rw[List.filter_map];rfl
 grind
theorem ate{n:Nat}{p:Nat->al}(h:∀i,i<n->p i=false):eh n p=[]:=by
 unfold eh;rw[y3]
 grind
theorem Ys:∀(n:Nat) (p:Nat->al),mk n p≠0->∃q:Nat->al,mk n p &&& (mk n p-1)=mk n q/\(eh n p).length=(eh n q).length+1
 |0,p,h=>absurd rfl h
 |n+1,p,h=>by
  cases g:p 0 with
  |true =>
   refine⟨λi=>if i=0 then false else p i,?_,?_⟩
   ·have e:mk (n+1) p=2*mk n (λi=>p (i+1))+1:=by rw[mk,g];grind
    have C:mk (n+1) (λi=>if i=0 then false else p i)=2*mk n (λi=>p (i+1)):=by rw[mk];simp
    rw[e,C];apply y5;intro i;rw[Iw,MO];cases i with
    |zero=>grind
    |succ i =>
     grind
   ·rw[JE,JE,g];simp
  |false =>
   have e:mk (n+1) p=2*mk n (λi=>p (i+1)):=by rw[mk,g];simp
   have E:mk n (λi=>p (i+1))≠0:=λI=>h J;obtain⟨q,h1,ar⟩:=Ys n (λi=>p (i+1)) E;refine⟨λi=>match i with|0=>false|i+1=>q i,?_,?_⟩
   ·have C:mk (n+1) (λi=>match i with|0=>false|i+1=>q i)=2*mk n q:=by rw[mk];simp
    rw[e,C,<-h1];apply y5;intro i;rw[Iw];cases i with
    |zero=>grind
    |succ i =>
     rw[It,It,It,show(2*mk n (λi=>p (i+1))) / 2=mk n (λi=>p (i+1)) by omega,show(2*mk n (λi=>p (i+1))-1) / 2=mk n (λi=>p (i+1))-1 by omega,show(2*(mk n (λi=>p (i+1)) &&& (mk n (λi=>p (i+1))-1))) / 2=mk n (λi=>p (i+1)) &&& (mk n (λi=>p (i+1))-1) by omega,Iw]
   ·rw[JE,JE,g]
    grind
section
variable {P:Program}
theorem Cs{n:Nat}(h:n<18446744073709551616):IntKind.wrap .u64 (n:Int)=(n:Int):=by unfold IntKind.wrap;simp[IntKind.bits,IntKind.signed];omega
theorem AI{n:Nat}(h:n<18446744073709551616):(BitVec.ofInt 64 (n:Int)).toNat=n:=ab
theorem E7{a:Nat}(g:a<18446744073709551616)(C:b<18446744073709551616):bin P .and t (.int .u64 (a:Int)) (.int .u64 (b:Int)) = .ok (.int .u64 ((a &&& b:Nat):Int)):=by show R.ok (Value.int .u64 (IntKind.wrap .u64 ((BitVec.ofInt 64 (a:Int) &&& BitVec.ofInt 64 (b:Int)).toNat:Int)))=_;rw[BitVec.toNat_and,AI g,AI C,Cs (Nat.lt_of_le_of_lt Nat.and_le_left g)]
theorem apM{a:Nat}(g:a<18446744073709551616)(C:b<18446744073709551616):bin P .or t (.int .u64 (a:Int)) (.int .u64 (b:Int)) = .ok (.int .u64 ((a ||| b:Nat):Int)):=by show R.ok (Value.int .u64 (IntKind.wrap .u64 ((BitVec.ofInt 64 (a:Int) ||| BitVec.ofInt 64 (b:Int)).toNat:Int)))=_;rw[BitVec.toNat_or,AI g,AI C,Cs (Nat.or_lt_two_pow (n:=64) g C)]
theorem alR:∀(k:Nat),k<64->∀hD:IntKind,bin P .shl t (.int .u64 1) (.int hD (k:Int)) = .ok (.int .u64 ((2 ^ k:Nat):Int)):=by
 intro k g hD;show vT .shl .u64 1 (k:Int)=_;unfold vT;rw[show la (k:Int) 0=false from rfl];show R.ok (Value.int .u64 (ta .u64 (1*2 ^ (min (k:Int).toNat 64))))=_;rw[Int.one_mul,show min (k:Int).toNat 64=k by omega,nL];have:((2:Int) ^ k)=((2 ^ k:Nat):Int):=ab
 rw[this,Cs (Nat.pow_lt_pow_right J g)]
theorem N9{a:Nat}:bin P .shr t (.int .u64 (a:Int)) (.int hD 1) = .ok (.int .u64 ((a / 2:Nat):Int)):=by
 show vT .shr .u64 (a:Int) 1=_;unfold vT;show R.ok (Value.int .u64 ((a:Int).fdiv (2 ^ (min (1:Int).toNat 64))))=_
 grind
theorem E8{a:Nat}:bin P .shr t (a:X) (.int hD 6) = .ok (((a / 64:Nat):X)):=by
 show vT .shr .i64 (a:Int) 6=_;unfold vT;show R.ok (Value.int .i64 ((a:Int).fdiv (2 ^ (min (6:Int).toNat 64))))=_
 grind
end
set_option maxRecDepth 100000
def Gd(a b:Code):aAq:={ res:=[.tmp 4],body :=
 (.seq (.tg [⟨none,some 2,0,.ic (.box (.t 0))⟩,⟨none,some 4,0,.fu (.hP (.v (.slice none 0 0)))⟩])
 (.seq (.seq (.tg [⟨none,some 6,0,.fu (.hP (.t 1))⟩]) (.block 0 (.wZ (.t 6) [7] a b)))
 (.seq (.tg [⟨none,some 12,0,.red (.ld none (.t 2))⟩,⟨none,some 4,0,.fu (.hP (.t 12))⟩]) .ret))) }
def ccA:ko:=.tg [⟨none,some 5,0,.fu (.hP (.t 7))⟩]
def ccB(z:X):ko:=.block 1 (.tg [⟨none,some 8,0,.red (.ld none (.t 2))⟩,⟨none,some 9,0,.fu (.hP (.t 5))⟩,⟨none,some 10,0,.ic (.Sf 1 [z] [(0,1,.t 9)])⟩,⟨none,some 11,0,.fv (.app 1 (.t 8) (.t 10))⟩,⟨none,none,0,.fv (.st 1 (.t 2) (.t 11))⟩])
structure Q0 (P:Program) (z:X) (f:FuncId) (a b:Code):Prop where
 c:xI P f=some (Gd a b)
 pT:comp P a=ccA
 gu:comp P b=ccB z
 tS:lj a=true
 qG:lj b=true
def Ge:ko->aw (Code × Code)
 | .wZ _ _ a b=>some (a,b)
 | .seq a b=>match Ge a with|some x=>some x|none=>Ge b
 | .block _ c=>Ge c
 | .scope c=>Ge c
 |_=>none
def uM(P:Program)(f:FuncId):Code × Code:=match xI P f with
 |some c=>(match Ge c.body with|some x=>x|none=>(.skip,.skip))
 |none=>(.skip,.skip)
def uF(f:X)(p:Nat):cc:=[(6,some f),(4,some (.slice none 0 0)),(2,some (bd p)),(0,some (.slice none 0 0)),(1,some f)]
def kX(l p:Nat)(a b:Code)(h:ae)(o:X):Prop:=∃f,u h l=some (.loop 0 none (uF f p) [7] a b)/\u h p=some (.cells [o] false)
theorem kX.F{l p:Nat}{a b:Code}{o:X}(C:kX l p a b h o)(h1:u ac l=u h l)(ar:u ac p=u h p):kX l p a b ac o:=by obtain⟨f,E,g⟩:=C;exact⟨f,ab,ab⟩
section
variable {P:Program} {s:al}
theorem fQ.cell{az:Type}{enc:az->aa X}{k:Nat}{o:X}{C:aa az}(g:fQ h enc k o C aU):dh o=[o]/\gS o=true:=by
 cases g <;> exact⟨rfl,rfl⟩
def gP{az:Type}(h:ae)(enc:az->aa X)(v:X)(l:aa az)(aU:aw Nat):Prop:=(l=[]/\v = .slice none 0 0/\aU=none)\/∃b,aU=some b/\v = .slice (some ⟨b,0,some 1⟩) l.length l.length/\u h b=some (.cells (bc enc l) false)
theorem gP.nil{az:Type}{enc:az->aa X}:gP h enc (.slice none 0 0) [] none:=.inl ⟨rfl,rfl,rfl⟩
theorem gP.hU{az:Type}{enc:az->aa X}{l:aa az}(w:gP h enc v l aU):fQ h enc 1 v l aU:=by
 rcases w with⟨rfl,rfl,rfl⟩|⟨b,rfl,rfl,g⟩
 ·exact .nil
 ·exact .own g
theorem gP.F{az:Type}{enc:az->aa X}{l:aa az}(w:gP h enc v l aU)(C:∀c,aU=some c->u ac c=u h c):gP ac enc v l aU:=by
 rcases w with w|⟨b,e,g,E⟩
 ·exact .inl w
 ·exact .inr ⟨b,e,g,ab⟩
theorem gP.gr{az:Type}{enc:az->aa X}{l:aa az}(w:gP h enc v l aU)(g:∀c,aU=some c->ao<=c/\c<aj):eH h ao aj v enc l:=by
 rcases w with⟨rfl,rfl,rfl⟩|⟨b,rfl,rfl,C⟩
 ·exact⟨none,0,rfl,λe=>absurd rfl e⟩
 ·exact⟨_,_,rfl,λ_=>⟨b,some 1,false,(g b rfl).1,(g b rfl).2,rfl,C⟩⟩
theorem gP.form{az:Type}{enc:az->aa X}{l:aa az}(w:gP h enc v l aU):∃a c,v = .slice a l.length c:=by
 rcases w with⟨rfl,rfl,rfl⟩|⟨b,rfl,rfl,g⟩
 ·exact⟨none,0,rfl⟩
 grind
theorem xD{az:Type}{enc:az->aa X}{k:Nat}(Z:∀x,(enc x).length=k)(C:∀x,ea (enc x)=true)(E:0<k){l:aa az}(g:fQ h enc k v l o)(x:az)(ar:u h b4=some (.cells cs bJ))(M:(cs.drop dO).take k=enc x)(I:(l.length+1)*k<=1000000){K:X->ae->Nat->Prop}(V:∀ac,u ac U=some (.cells (bc enc (l++[x])) false)->(∀c,c≠U->o≠some c->u ac c=u h c)->K (.slice (some ⟨U,0,some k⟩) (l.length+1) (l.length+1)) ac (U+1)):dG (dX (dT k h U v (.slice (some ⟨b4,dO,mf⟩) 1 tm))) K:=by obtain⟨ac,e,a,b⟩:=g.app Z C E ar M I;rw[e];exact V _ a b
theorem atf(gL:pF P){z:X}{a b:Code}(A:Q0 P z f a b){az:Type}{enc:az->aa X}(hk:∀x,(enc x).length=1)(I:∀x,ea (enc x)=true){x:az}(a1:enc x=[v])(aJ:dh v=[v]){l p:Nat}{o:X}{E:aa az}(C:kX l p a b h o)(w:gP h enc o E aU)(hlp:l≠p)(bb:l<U)(bk:p<U)(ni:∀c,aU=some c->c≠l/\c≠p/\c<U)(jH:E.length+1<=1000000)(ht:∀ac aX,kX l p a b ac aX->gP ac enc aX (E++[x]) (some (U+1))->(∀c,c<U->c≠l->c≠p->aU≠some c->u ac c=u h c)->K (.bool true) ac (U+1+1)):lN P s l [v] h U K:=by
 obtain⟨M,oM,yq⟩:=C;have g:=w.hU;have Ll:gS v=true:=by have:=I x;rw[a1]at this;exact(by simpa[ea]using this)
 refine lN.oR gL (vi:=[]) (oa:=[]) oM rfl A.tS A.qG ?_;unfold A9;rw[A.pT,A.gu];show af (.ok v) λBb=>∃Z,u h l=some (.loop 0 Z (uF M p) [7] a b)/\af (iH none (T h l (.loop 1 Z (uF M p) [7] a b)) (bd p)) λaBq=>af (.ok Bb) λaBr=>d4 (fh 1 [z] [(0,1,aBr)]) (T h l (.loop 1 Z (uF M p) [7] a b)) U λv10 aL bS=>dG (dX (dT 1 aL bS aBq v10)) λv11 bm dH=>af (aQ bm 1 (bd p) v11) λV =>
  ∃gm Z,u V l=some (.loop gm Z (uF M p) [7] a b)/\K (.bool true) (T V l (.loop 0 none (uF M p) [7] a b)) dH
 refine⟨none,oM,?_⟩;have hp2:u (T h l (.loop 1 none (uF M p) [7] a b)) p=some (.cells [o] false):=ab
 obtain⟨ho1,ho2⟩:=g.cell;simp(disch:=omega)only[Uz,hp2,aJ,Ll,seval];refine xD hk I J (g.F λc aZ=>?_) x (aS _ _ _) ?_ J λV Dz tD=>?_
 ·grind
 ·grind
 have yw:u V l=some (.loop 1 none (uF M p) [7] a b):=ab
 have hpp:u V p=some (.cells [o] false):=ab
 simp(disch:=omega)only[Uz,hpp,seval];refine⟨1,none,yw,?_⟩;refine ht _ (.slice (some ⟨U+1,0,some 1⟩) (E.length+1) (E.length+1)) ⟨M,aS _ _ _,ab⟩ ?_ λc h1 ar aL bm=>?_
 ·refine .inr ⟨U+1,rfl,ab,?_⟩
  grind
 grind
theorem Xc(gL:pF P){z:X}{a b:Code}(A:Q0 P z f a b){g:FuncId}{C E:Array X}(Z:∀h1,kX (U+1) U a b h1 (.slice none 0 0)->(∀c,c<U->u h1 c=u h c)->aH P s g (C.toList++(.func (.yield (U+1)) #[] #[]::E.toList)) h1 (U+1+1) (λ_ ar I=>∃o,kX (U+1) U a b ar o/\(∀x,K o (T ar (U+1) x) I))):
  aH P s f [.slice none 0 0,.func (.func g) C E] h U K:=by
 refine aH.oR gL [] ?_;unfold ob;rw[A.c];have e:hR P s [] (Gd a b).body 0 (xJ [Value.slice none 0 0,Value.func (.func g) C E] 0) h U (r9 P (Gd a b).res K) [] (r9 P (Gd a b).res K) =
  tu P s (.func (.func g) C E) (T h U (.cells [.slice none 0 0] false)) (U+1) (.loop 0 none (uF (.func (.func g) C E) U) [7] a b) (x4 (U+1) (λh _n=>af (iH none h (bd U)) λv=>af (.ok v) λv=>K v h _n) (λh _n=>x5 P (uF (.func (.func g) C E) U) h [.tmp 4] λl=>K (CZ l) h _n)):=by kernel_rfl
 show hR P s [] (Gd a b).body 0 _ h U _ [] _;rw[e];refine(Z _ ⟨_,aS _ _ _,(aq J).trans (aS _ _ _)⟩ λc aZ=>(aq J).trans (aq J)).mono ?_;rintro _ ar I ⟨o,⟨ks,V,ch⟩,ht⟩;refine⟨0,none,_,[7],a,b,V,J,.inl ⟨rfl,?_⟩⟩;show af (iH none (T ar (U+1) _) (bd U)) λv=>af (.ok v) λv=>K v _ I;have M:∀x,u (T ar (U+1) x) U=some (.cells [o] false):=ab
 rw[Kg,M];exact ht _
end
def er:Int:=4611686018427387904
def jv(x:Int):Int:=(x+170141183460469231731687303715884105728) % 340282366920938463463374607431768211456-170141183460469231731687303715884105728
def jI(r a b:Int):Int:=if r=2 then(if a=0/\b=0 then 0 else 1)else if r=5 then jv (a+b)else min a b
def f3(r a x:Int):Int:=if r=2 then(if a≠0/\x≠0 then 1 else 0)else if r=5 then a*x else if er<=max a x then er else if r=1 then min er (a+x)else min er x
theorem alS(a b c:Int):jv (jv (a+b)+c)=jv (a+jv (b+c)):=by unfold jv;omega
theorem alT(r a b:Int):jI r a b=jI r b a:=by
 unfold jI
 grind
theorem ajs(r a b c:Int):jI r (jI r a b) c=jI r a (jI r b c):=by
 unfold jI
 by_cases ar:r=2
 ·grind
 ·simp only[if_neg ar]
  by_cases g:r=5
  ·simp only[if_pos g];exact alS a b c
  omega
def eY(r:Int):aw Int->aw Int->aw Int
 |none,y=>y
 |some x,none=>some x
 |some x,some y=>some (jI r x y)
theorem qU(r:Int)(x:aw Int):eY r x none=x:=by cases x <;> rfl
theorem ES(r:Int)(x:aw Int):eY r none x=x:=rfl
theorem Xd(r:Int)(x y:aw Int):eY r x y=eY r y x:=by
 cases x <;> cases y <;> simp[eY,alT r]
theorem sY(r:Int)(x y z:aw Int):eY r (eY r x y) z=eY r x (eY r y z):=by
 cases x <;> cases y <;> cases z <;> simp[eY,ajs]
def fi(r:Int):aa (aw Int)->aw Int
 | []=>none
 |x::l=>eY r x (fi r l)
theorem E9(r:Int)(l b6:aa (aw Int)):fi r (l++b6)=eY r (fi r l) (fi r b6):=by
 induction l with
 |nil=>rfl
 |cons x l g=>show eY r x (fi r (l++b6))=_;rw[g,<-sY];rfl
theorem NG(r:Int)(l:aa (aw Int))(x:aw Int):fi r (l++[x])=eY r (fi r l) x:=by rw[E9];show eY r _ (eY r x none)=_;rw[qU]
theorem Xe{r:Int}{l b6:aa (aw Int)}(h:l.Perm b6):fi r l=fi r b6:=by
 induction h with
 |nil=>rfl
 |cons x _ g=>show eY r x _=eY r x _;rw[g]
 |swap x y l=>show eY r y (eY r x _)=eY r x (eY r y _);rw[<-sY,<-sY,Xd r y x]
 |trans _ _ h1 ar=>grind
theorem xw{r:Int}{l:aa (aw Int)}(h:∀x∈l,x=none):fi r l=none:=by
 induction l with
 |nil=>rfl
 |cons x l g=>show eY r x _=_;rw[h x ab,g λy C=>h y (mx _ C)];rfl
theorem Oa{az:Type}(r:Int)(f g:az->aw Int)(l:aa az):fi r (l.map λa=>eY r (f a) (g a))=eY r (fi r (l.map f)) (fi r (l.map g)):=by
 induction l with
 |nil=>rfl
 |cons x l C =>
  show eY r (eY r (f x) (g x)) (fi r (l.map _))=eY r (eY r (f x) (fi r (l.map f))) (eY r (g x) (fi r (l.map g)));rw[C,sY,sY,<-sY r (g x),Xd r (g x),sY]
theorem ah6{az:Type}(r:Int)(f:az->aw Int)(c:az->Nat)(l:aa az)(n:Nat)(h:∀a∈l,c a<n):
  fi r (l.map f)=fi r ((List.range n).map λk=>fi r (l.map λa=>if c a=k then f a else none)):=by
 induction l with
 |nil =>
  symm
  refine xw λx C=>?_;simp at C;obtain⟨_,rfl⟩:=C.2;rfl
 |cons a l g =>
  have e:((List.range n).map λk=>fi r ((a::l).map λa=>if c a=k then f a else none))=(List.range n).map λk=>eY r (if c a=k then f a else none) (fi r (l.map λa=>if c a=k then f a else none)):=rfl;rw[e,Oa,<-g λb E=>h b (mx _ E)];have:fi r ((List.range n).map λk=>if c a=k then f a else none)=f a:=by
   have I:=h a (nI ..);clear e g h
   induction n with
   |zero=>omega
   |succ n g =>
    rw[p4,iF,E9];show eY r _ (eY r (if c a=n then f a else none) none)=_;rw[qU]
    by_cases e:c a=n
    ·rw[if_pos e,xw,ES]
     grind
    ·rw[if_neg e,qU];grind
  rw[this];rfl
def bj{az:Type}(n:Nat)(f:Nat->aw az):aa (Nat × az):=(List.range n).filterMap λi=>(f i).map λx=>(i,x)
theorem tc{az:Type}(n:Nat)(f:Nat->aw az):bj (n+1) f=bj n f++(match f n with|some x=>[(n,x)]|none=>[]):=by
 unfold bj;rw[p4,List.filterMap_append]
 grind
theorem avQ{az:Type}(f:Nat->aw az):bj 0 f=[]:=rfl
theorem jO{az:Type}{n:Nat}{f:Nat->aw az}{x:az}:(i,x)∈bj n f↔i<n/\f i=some x:=by
 unfold bj;simp only[List.mem_filterMap,BJ,lZ,Prod.mk.injEq]
 grind
theorem l3{az:Type}(n:Nat)(f:Nat->aw az):(bj n f).length<=n:=by
 unfold bj
 grind
theorem xN{az:Type}(n:Nat)(f:Nat->aw az):(bj n f).Pairwise λx y=>x.1<y.1:=by
 induction n with
 |zero=>exact .nil
 |succ n C =>
  rw[tc,sS];refine⟨C,?_,λa g b E=>?_⟩
  ·cases f n <;> simp
  ·obtain⟨i,x⟩:=a;have:=jO.1 g
   grind
theorem xE{az:Type}{n:Nat}{f g:Nat->aw az}(h:∀i,i<n->f i=g i):bj n f=bj n g:=by
 induction n with
 |zero=>rfl
 |succ n C=>rw[tc,tc,C λi aj=>h i J,h n J]
theorem acu{az:Type}:∀{l b6:aa (Nat × az)},(l.Pairwise λx y=>x.1<y.1)->(b6.Pairwise λx y=>x.1<y.1)->(∀x,x∈l↔x∈b6)->l=b6
 | [],[],_,_,_=>rfl
 | [],b::b6,_,_,h=>by have:=(h b).2 (nI ..);grind
 |a::l,[],_,_,h=>by have:=(h a).1 (nI ..);grind
 |a::l,b::b6,h1,ar,h=>by
  rw[t7]at h1 ar;have g:a=b:=ab
  subst g;rw[acu h1.2 ar.2 λx=>?_]
  grind
theorem Qd{az:Type}{n:Nat}{f:Nat->aw az}{l:aa (Nat × az)}(h1:l.Pairwise λx y=>x.1<y.1)(ar:∀i x,(i,x)∈l↔i<n/\f i=some x):l=bj n f :=
 acu h1 (xN n f) λ⟨i,x⟩=>by rw[ar,jO]
theorem Ni{az:Type}(r:Int)(f:az->aw Int)(p:az->al)(l:aa az):fi r ((l.filter p).map f)=fi r (l.map λa=>if p a=true then f a else none):=by
 induction l with
 |nil=>rfl
 |cons a l g =>
  rw[qQ]
  by_cases h:p a=true
  ·rw[if_pos h];show eY r (f a) _=eY r (if p a=true then f a else none) _
   grind
  ·rw[if_neg h];show _=eY r (if p a=true then f a else none) _;rw[g,if_neg h];rfl
theorem Jb{az:Type}{r:Int}{f g:az->aw Int}{l:aa az}(h:∀a∈l,f a=g a):fi r (l.map f)=fi r (l.map g):=by rw[o9 h]
theorem Xf{az:Type}(r:Int)(f:az->aw Int)(c:az->Nat)(ao:Nat->Nat)(g:∀i j,i<=j->ao i<=ao j)(C:ao 0=0)(l:aa az):
  ∀eB,fi r ((List.range eB).map λj=>fi r (l.map λa=>if ao j<=c a/\c a<ao (j+1)then f a else none))=fi r (l.map λa=>if c a<ao eB then f a else none)
 |0=>by
  symm
  refine xw λx E=>?_
  grind
 |eB+1=>by
  rw[p4,iF,E9,Xf r f c ao g C l eB];show eY r _ (eY r _ none)=_;rw[qU,<-Oa];refine Jb λa _=>?_;have:=g eB (eB+1) J
  by_cases h1:c a<ao eB
  ·rw[if_pos h1,if_neg J,if_pos J,qU]
  ·rw[if_neg h1,ES]
   grind
structure jb where
 A:Nat->Int
 B:Nat->Int
 q:Nat->al
def qo(k:Int)(a7:Nat->Int)(t:Nat)(s:jb)(v:Nat):aw Int :=
 if k=1 then(if s.q v=true then some (v:Int)else none)
 else if k=5 then(if t % 2=0 then(if s.q v=true then some 1 else none)else if s.A v=0 then some (a7 v)else none)
 else if s.q v=true then some (s.A v)else none
def sa(k:Int)(s:jb)(v:Nat):al:=if k=1 then s.A v == -1 else if k=5 then s.A v == 0 else true
def fb(k:Int)(t:Nat):Int:=if k=2 then 1 else if k=4 then 5 else if k=5/\t % 2=0 then 2 else 4
def ip(r:Int)(ag:aa GE)(x:Nat->aw Int)(v:Nat):aw Int:=fi r (ag.map λg=>if g.f=v then(x g.t).map (f3 r g.w)else none)
def sb(w:Int):al:=decide (-9223372036854775808<=w/\w<9223372036854775808)
def CL(r:Int):Int:=if r=2\/r=5 then 0 else er
def qi(r:Int)(o:aw Int):aw Int:=match o with|none=>none|some w=>if w=CL r then none else some w
def kg(k:Int)(a7:Nat->Int)(t:Nat)(s:jb)(v:Nat)(y:aw Int):Int × Int × al :=
 if k=1 then(match y with|some val=>if s.A v = -1 then((t:Int),val,true)else(s.A v,s.B v,false)|none=>(s.A v,s.B v,false))
 else if k=4 then(y.getD 0,s.B v,decide (y.getD 0≠0))
 else if k=5 then(if s.A v≠0 then(s.A v,s.B v,false)else if t % 2=0 then(if y.isSome=true then(2,s.B v,false)else(s.A v,s.B v,false))
  else match y with|some val=>if a7 v<val then(1,s.B v,true)else(s.A v,s.B v,false)|none=>(1,s.B v,true))
 else match y with|some val=>if val<s.A v then(val,s.B v,true)else(s.A v,s.B v,false)|none=>(s.A v,s.B v,false)
def sc(k src v:Int):Int:=if k=3 then v else if k=5 then 0 else if k=4/\v=src then 1 else if v=src\/k=4 then 0 else if k=1 then -1 else 4611686018427387904
def sd(k src v:Int):al:=if k=3 then true else if k=5 then false else decide (v=src)
structure jc where
 k:Int
 n:Nat
 src:Int
 len:Int
 tT:Nat->Nat->Int
 ag:aa GE
 lim:Nat
section
variable (e:jc)
def jc.a7(t:Nat):Nat->Int:=e.tT ((t-1) / 2)
def jc.Lm(t:Nat)(s:jb):Nat->aw Int:=qo e.k (e.a7 t) t s
def jc.Ac(t:Nat)(s:jb)(v:Nat):aw Int:=if sa e.k s v=true then ip (fb e.k t) e.ag (e.Lm t s) v else none
def jc.step(t:Nat)(s:jb):jb where
 A v:=(kg e.k (e.a7 t) t s v (qi (fb e.k t) (e.Ac t s v))).1
 B v:=(kg e.k (e.a7 t) t s v (qi (fb e.k t) (e.Ac t s v))).2.1
 q v:=(kg e.k (e.a7 t) t s v (qi (fb e.k t) (e.Ac t s v))).2.2
def jc.st:Nat->jb
 |0=>{ A:=λv=>sc e.k e.src v,B:=λ_=>-1,q:=λv=>sd e.k e.src v }
 |t+1=>e.step (t+1) (jc.st t)
def jc.x(t:Nat):Nat->aw Int:=e.Lm t (e.st (t-1))
def jc.S(t v:Nat):aw Int:=e.Ac t (e.st (t-1)) v
def jc.ovP(t ao aj:Nat):Prop:=1<=t/\∃v w,ao<=v/\v<aj/\e.S t v=some w/\sb w=false
def avR(k len:Int)(t:Nat)(s:jb)(v:Nat):al:=if k=4/\len<=t then false else if k=5 then s.A v == 0 else s.q v
def jc.liP(t ao aj:Nat):Prop:=∃v,ao<=v/\v<aj/\avR e.k e.len t (e.st t) v=true
open Classical in
noncomputable def jc.fY (t:Nat):Int:=if e.ovP t 0 e.n then 3 else if ¬e.liP t 0 e.n then 1 else if t=e.lim then 2 else 0
end
theorem jc.O6(e:jc):e.fY e.lim≠0:=by unfold jc.fY;omega
theorem jc.last(e:jc):∃av,av<=e.lim/\e.fY av≠0/\∀t,t<av->e.fY t=0:=by
 have:∀n,(∃av,av<=n/\e.fY av≠0/\∀t,t<av->e.fY t=0)\/∀t,t<=n->e.fY t=0:=by
  intro n
  induction n with
  |zero =>
   grind
  |succ n g =>
   grind
 rcases this e.lim with h|h
 ·exact h
 ·exact absurd ab e.O6
theorem Ob{r:Int}(ar:r≠2)(E:r≠5):∀l:aa (aw Int),(fi r l=none/\∀x∈l,x=none)\/∃m,fi r l=some m/\some m∈l/\∀x,some x∈l->m<=x
 | []=>.inl ⟨rfl,λx g=>by cases g⟩
 |none::l=>by
  rcases Ob ar E l with⟨h,C⟩|⟨m,h,I,C⟩
  ·refine .inl ⟨h,λx g=>?_⟩;rcases g5.1 g with e|e
   ·exact e
   ·exact C x e
  ·refine .inr ⟨m,h,mx _ I,λx g=>?_⟩;rcases g5.1 g with e|e
   ·cases e
   ·exact C x e
 |some a::l=>by
  rcases Ob ar E l with⟨h,C⟩|⟨m,h,I,C⟩
  ·refine .inr ⟨a,?_,nI ..,λx g=>?_⟩
   ·show eY r (some a) (fi r l)=_;rw[h];rfl
   ·rcases g5.1 g with e|e
    ·cases e;exact BL _
    ·have:=C _ e;cases this
  ·have M:fi r (some a::l)=some (min a m):=by show eY r (some a) (fi r l)=_;rw[h];show some (jI r a m)=_;unfold jI;rw[if_neg ar,if_neg E]
   refine .inr ⟨min a m,M,?_,λx g=>?_⟩
   ·by_cases V:a<=m
    ·rw[Int.min_eq_left V];exact nI ..
    ·rw[Int.min_eq_right J];exact mx _ I
   ·rcases g5.1 g with e|e
    ·cases e;exact Int.min_le_left _ _
    ·exact Iy (Int.min_le_right _ _) (C x e)
structure avS (e:jc) (t:Nat) (s:jb):Prop where
 le:∀v,(e.step t s).A v<=s.A v
 mV:∀g∈e.ag,s.q g.t=true->s.A g.f<=er->(e.step t s).A g.f<=f3 (fb e.k t) g.w (s.A g.t)
 is:∀v,(e.step t s).A v=s.A v\/∃g∈e.ag,g.f=v/\s.q g.t=true/\(e.step t s).A v=f3 (fb e.k t) g.w (s.A g.t)
 q:∀v,(e.step t s).q v=decide ((e.step t s).A v<s.A v)
 B:∀v,(e.step t s).B v=s.B v
theorem aew{e:jc}(hk:e.k=2\/e.k=3)(t:Nat)(s:jb):avS e t s:=by
 have gk:e.k≠1:=J
 have pU:e.k≠5:=J
 have sH:e.k≠4:=J
 have gY:fb e.k t≠2:=by unfold fb;rcases hk with h|h <;> simp[h]
 have UA:fb e.k t≠5:=by unfold fb;rcases hk with h|h <;> simp[h]
 have sK:∀v,e.Lm t s v=if s.q v=true then some (s.A v)else none:=λv=>by unfold jc.Lm qo;rw[if_neg gk,if_neg pU]
 have HO:∀v,e.Ac t s v=fi (fb e.k t) (e.ag.map λg=>if g.f=v then(if s.q g.t=true then some (f3 (fb e.k t) g.w (s.A g.t))else none)else none):=λv=>by
  unfold jc.Ac sa ip;rw[if_neg gk,if_neg pU,if_pos rfl];refine Jb λg _=>?_;rw[sK]
  by_cases h:g.f=v
  ·rw[if_pos h,if_pos h];by_cases ac:s.q g.t=true <;> simp[ac]
  ·rw[if_neg h,if_neg h]
 have Ml:∀v y,kg e.k (e.a7 t) t s v y=(match y with|some val=>if val<s.A v then(val,s.B v,true)else(s.A v,s.B v,false)|none=>(s.A v,s.B v,false)):=λv y=>by
  unfold kg;rw[if_neg gk,if_neg sH,if_neg pU];try(cases y <;> rfl)
 have aAu:CL (fb e.k t)=er:=by unfold CL;rw[if_neg (by simp[gY,UA])]
 have V:∀v,∃a q,kg e.k (e.a7 t) t s v (qi (fb e.k t) (e.Ac t s v))=(a,s.B v,q)/\a<=s.A v/\q=decide (a<s.A v)/\(a=s.A v\/∃g∈e.ag,g.f=v/\s.q g.t=true/\a=f3 (fb e.k t) g.w (s.A g.t)) /\
   ∀g∈e.ag,g.f=v->s.q g.t=true->s.A v<=er->a<=f3 (fb e.k t) g.w (s.A g.t):=λv=>by
  have mem:∀g∈e.ag,g.f=v->s.q g.t=true->some (f3 (fb e.k t) g.w (s.A g.t))∈e.ag.map λg=>if g.f=v then(if s.q g.t=true then some (f3 (fb e.k t) g.w (s.A g.t))else none)else none:=λg a6 h1 ar =>
   f0.2 ⟨g,a6,by rw[if_pos h1,if_pos ar]⟩
  rcases Ob gY UA (e.ag.map λg=>if g.f=v then(if s.q g.t=true then some (f3 (fb e.k t) g.w (s.A g.t))else none)else none)with⟨h,bb⟩|⟨m,h,bl,bb⟩
  ·refine⟨s.A v,false,?_,BL _,by simp,.inl rfl,λg a6 h1 ar _=>?_⟩
   ·rw[HO,h,Ml];rfl
   ·have:=bb _ (mem g a6 h1 ar);cases this
  ·obtain⟨g,a6,C⟩:=f0.1 bl
   by_cases h1:g.f=v
   case neg=>rw[if_neg h1]at C;cases C
   rw[if_pos h1]at C
   by_cases ar:s.q g.t=true
   case neg=>rw[if_neg ar]at C;cases C
   rw[if_pos ar]at C;injection C with C
   by_cases cZ:m=er
   ·refine⟨s.A v,false,?_,BL _,by simp,.inl rfl,λb8 I M E aj=>?_⟩
    ·rw[HO,h,Ml];unfold qi;rw[aAu];simp only;rw[if_pos cZ]
    ·have:=bb _ (mem b8 I M E);omega
   ·have mV:qi (fb e.k t) (some m)=some m:=by unfold qi;rw[aAu];simp only;rw[if_neg cZ]
    by_cases Z:m<s.A v
    ·refine⟨m,true,?_,Int.le_of_lt Z,by simp[Z],.inr ⟨g,a6,h1,ar,C.symm⟩,λb8 I M E _=>bb _ (mem b8 I M E)⟩;rw[HO,h,Ml,mV];simp only;rw[if_pos Z]
    ·refine⟨s.A v,false,?_,BL _,by simp,.inl rfl,λb8 I M E _=>?_⟩
     ·rw[HO,h,Ml,mV];simp only;rw[if_neg Z]
     ·have:=bb _ (mem b8 I M E);omega
 refine⟨λv=>?_,λg a6 cM aj=>?_,λv=>?_,λv=>?_,λv=>?_⟩
 ·obtain⟨a,q,h1,ar,_⟩:=V v;show(kg ..).1<=_;rw[h1];exact ar
 ·obtain⟨a,q,h1,_,_,_,ar⟩:=V g.f;show(kg ..).1<=_;rw[h1];exact ar g a6 rfl cM aj
 ·obtain⟨a,q,h1,_,_,ar,_⟩:=V v;have aV:(e.step t s).A v=a:=by show(kg ..).1=_;rw[h1]
  rw[aV];exact ar
 ·obtain⟨a,q,h1,_,ar,_⟩:=V v;have aV:(e.step t s).A v=a:=by show(kg ..).1=_;rw[h1]
  rw[aV];show(kg ..).2.2=_;rw[h1];exact ar
 ·obtain⟨a,q,h1,_⟩:=V v;show(kg ..).2.1=_;rw[h1]
structure tn (e:jc) (es:aa GE) (t:Nat):Prop where
 gQ:∀v,v<e.n->0<=(e.st t).A v/\(e.st t).A v<=v
 mg:∀(c:Nat->Nat),(∀g∈es,c g.f=c g.t)->∀v,v<e.n->c ((e.st t).A v).toNat=c v
 off:∀g∈e.ag,(e.st t).q g.t=false->(e.st t).A g.f<=(e.st t).A g.t
 low:∀m l,nh e.n (yv es) m l->∀(v:Nat) (x:Int),l[v]? = some x->0<=x->x<=t->(e.st t).A v<=m
structure tp (e:jc) (es:aa GE):Prop where
 k:e.k=3
 n:e.n<=4096
 w:∀g∈e.ag,g.w=1/\g.f<e.n/\g.t<e.n
 to:∀g∈e.ag,∃b8∈es,(b8.f=g.f/\b8.t=g.t)\/(b8.f=g.t/\b8.t=g.f)
 e9:∀g∈yv es,∃b8∈e.ag,b8.f=g.t/\b8.t=g.f
theorem axS(h:a<5000):f3 4 1 a=a:=by unfold f3 er;simp only[show ¬((4:Int)=2) by decide,show ¬((4:Int)=5) by decide,show ¬((4:Int)=1) by decide,fa];rw[if_neg J];omega
theorem tn.next{e:jc}{es:aa GE}(E:tp e es){t:Nat}(H:tn e es t):tn e es (t+1):=by
 have S:=aew (.inr E.k) (t+1) (e.st t);have ms:fb e.k (t+1)=4:=by unfold fb;simp[E.k]
 have em:∀g∈e.ag,f3 (fb e.k (t+1)) g.w ((e.st t).A g.t)=(e.st t).A g.t:=λg C=>by have h1:=E.w g C;have ar:=H.gQ g.t h1.2.2;have:=E.n;rw[ms,h1.1,axS J]
 have I:e.st (t+1)=e.step (t+1) (e.st t):=rfl;have V:∀g∈e.ag,(e.st (t+1)).A g.f<=(e.st t).A g.t:=λg C=>by
  have h1:=E.w g C;rw[I];cases Z:(e.st t).q g.t with
  |true=>have:=S.mV g C Z (by have:=H.gQ g.f h1.2.1;have:=E.n;unfold er;omega);rwa[em g C]at this
  |false=>exact Iy (S.le g.f) (H.off g C Z)
 refine⟨λv aJ=>?_,λc aZ v aJ=>?_,λg C Z=>?_,λm l bb v x a1 au h1=>?_⟩
 ·rw[I];have h1:=S.le v;have ar:=H.gQ v aJ;refine⟨?_,J⟩;rcases S.is v with h|⟨g,C,_,_,h⟩
  ·rw[h];exact ar.1
  ·rw[h,em g C];exact(H.gQ g.t (E.w g C).2.2).1
 ·rw[I];rcases S.is v with h|⟨g,C,bK,_,h⟩
  ·rw[h];exact H.mg c aZ v aJ
  ·rw[h,em g C,H.mg c aZ g.t (E.w g C).2.2,<-bK];obtain⟨b8,M,h1|h1⟩:=E.to g C
   ·rw[<-h1.1,<-h1.2];exact(aZ b8 M).symm
   ·rw[<-h1.1,<-h1.2];exact aZ b8 M
 ·have h1:=V g C;have ar:=S.q g.t;rw[<-I,Z]at ar;have aL:=of_decide_eq_false ar.symm;omega
 ·by_cases sr:x<=t
  ·rw[I];exact Iy (S.le v) (H.low m l bb v x a1 au sr)
  ·obtain⟨g,C,ck,bK⟩:=bb.pre v x a1 J;obtain⟨b8,M,h1,ar⟩:=E.e9 g C;have aL:=V b8 M;rw[h1,ar,ck]at aL;exact Iy aL (H.low m l bb g.f (x-1) bK J J)
theorem tn.all{e:jc}{es:aa GE}(E:tp e es):∀t,tn e es t
 |0=>by
  have C:∀v,(e.st 0).A v=v:=λv=>by show sc e.k e.src v=_;unfold sc;rw[if_pos E.k]
  have M:∀v,(e.st 0).q v=true:=λv=>by show sd e.k e.src v=_;unfold sd;rw[if_pos E.k]
  refine⟨λv aJ=>by rw[C];omega,λc aZ v aJ=>by rw[C];rfl,λg a6 I=>(by rw[M]at I;cases I),λm l Z v x V au h1=>?_⟩;have:x=0:=J
  subst this;rw[Z.zero v V,C];exact BL _
 |t+1=>(tn.all E t).next E
theorem tp.SK{e:jc}{es:aa GE}(E:tp e es)(M:wH e.n es){t:Nat}(cM:∀v,v<e.n->(e.st t).q v=false):po e.n es ((List.range e.n).map λv=>((e.st t).A v).toNat):=by
 have H:=tn.all E t;have V:∀v,v<e.n->((List.range e.n).map λv=>((e.st t).A v).toNat)[v]? = some ((e.st t).A v).toNat:=λv C=>by rw[rT,xg C];rfl
 have C:∀(v x:Nat),((List.range e.n).map λv=>((e.st t).A v).toNat)[v]? = some x->v<e.n/\x=((e.st t).A v).toNat:=λv x h=>by have h1:=p7 h;simp at h1;rw[V v h1]at h;exact⟨h1,by cases h;rfl⟩
 refine⟨by simp,λg kW=>?_,λv x h=>?_,λc aZ v x h=>?_⟩
 ·have h1:=M g kW;rw[V _ h1.1,V _ h1.2];have m1:=(Cb kW).1;have m2:=(Cb kW).2;obtain⟨a,cY,aB,a2⟩:=E.e9 _ m1;obtain⟨b,Z,I,b4⟩:=E.e9 _ m2;have ar:=H.off a cY (cM _ (E.w a cY).2.2);have aL:=H.off b Z (cM _ (E.w b Z).2.2);rw[aB,a2]at ar;have I:b.f=g.f:=I;have b4:b.t=g.t:=b4;rw[I,b4]at aL;rw[show(e.st t).A g.f=(e.st t).A g.t by omega]
 ·obtain⟨h1,rfl⟩:=C v x h;have:=H.gQ v h1;omega
 ·obtain⟨h1,rfl⟩:=C v x h;exact H.mg c aZ v h1
theorem tp.quiet{e:jc}{es:aa GE}(E:tp e es)(V:wH e.n es){t:Nat}(ck:e.n<=t)(v:Nat)(aJ:v<e.n):(e.st t).q v=false:=by
 cases t with
 |zero=>omega
 |succ t =>
  have S:=aew (.inr E.k) (t+1) (e.st t);have jh:=tn.all E (t+1);have H:=tn.all E t;rw[show e.st (t+1)=e.step (t+1) (e.st t)from rfl,S.q v];refine hl λM=>?_;have M:(e.st (t+1)).A v<(e.st t).A v:=M;have h1:=jh.gQ v aJ;have bl:((e.st (t+1)).A v).toNat<e.n:=J
  obtain⟨l,C⟩:=Wh (acq V) bl;have I:∃x,l[v]? = some x:=⟨_,kL (by rw[C.len];exact aJ)⟩
  obtain⟨x,I⟩:=I;have a5:=C.jp v x I;have au:0<=x:=by
   have aZ:=jh.mg (λaD=>if l[aD]? = some (-1)then 0 else 1) (λg a6=>?_) v aJ
   ·have ap:l[((e.st (t+1)).A v).toNat]? = some 0:=C.src;simp only[ap,I]at aZ
    by_cases e:x = -1
    ·subst e;simp at aZ
    ·omega
   ·have h1:=V g a6;have m1:=(Cb a6).1;have m2:=(Cb a6).2;obtain⟨a,cY⟩:∃a,l[g.f]? = some a:=⟨_,kL (by rw[C.len];exact h1.1)⟩
    obtain⟨b,aT⟩:∃b,l[g.t]? = some b:=⟨_,kL (by rw[C.len];exact h1.2)⟩
    have k3:=C.jp _ _ cY;have rM:=C.jp _ _ aT;simp only[cY,aT]
    by_cases gZ:a = -1
    ·by_cases w2:b = -1
     ·rw[gZ,w2]
     ·obtain⟨y,Z,aL,_⟩:=C.post _ m2 b aT J;rw[show(⟨g.t,g.f,g.w⟩:GE).t=g.f from rfl,cY]at Z;cases Z;omega
    ·obtain⟨y,Z,aL,_⟩:=C.post _ m1 a cY J;rw[aT]at Z;cases Z;rw[if_neg (by simp;omega),if_neg (by simp;omega)]
  have:=H.low _ l C v x I au J;omega
section
variable {e:jc} {gs:aa GE} {s:Nat}
end
def hit(D l:aa Int)(v:Nat):al:=decide (l[v]? = D[v]?)
end Go.Ax
