/- Parts of the proof: Hw1: each statement bears its own conditions. -/
import Derived.ChangeArms
import Derived.Below
import Derived.Shelf.SlSortCmp.NoneTotal
import Derived.OpenShut
import Derived.WideShapes
import Init
import Derived.Test.YthlhhajnbgjfmaaGreatRhCm2
namespace Go.Ax
open Go Go.Proofs Go.Sort Go.Shelf
set_option linter.all false
set_option maxHeartbeats 1000000
variable {h:ae} {v:X} {U:Nat} {cs:aa X} {b:Nat} {t:TypeId} {i:Nat} {od:aa (aa Nat)} {ao:Nat} {f:FuncId} {off:Nat} {b7:aa (Place × aa X)} {aQ:aw Nat} {aj:Nat} {ac:ae} {o:aw Nat} {c:aa X} {k3:aw Nat} {aF:aa X} {Y:Nat} {args:aa X} {z:Nat} {aq:aa ae} {mB:IntKind} {cap:Nat} {a:Int} {Ds:Nat} {ro:al} {y:X} {K:bR} {BJ:FuncId} {bQ ry:Nat} {ba:World} {r:Int} {j dm:Nat} {bY:aa Int} {cH dP dW:Nat} {g:aa Nat} {hj:IntKind} {ai:b5} {d2:Nat} {Ex:Ren} {B:Nat} {ap h1:ae}
section
variable {P:Program}  {s:al}
theorem Ay{n:Int}(A:0<=n)(h1:n<9223372036854775808):IntKind.wrap .i64 n=n:=by
 rw[<-nT];obtain⟨m,rfl⟩:=xL A;show Ae .i64 m=_;unfold Ae yz;rw[oE]
 grind
theorem akf{A:aa Nat}{es:aa MapEntry}(h:∀e∈es,e.born<cH):KF A es cH=true:=by
 unfold KF;cases es with
 |nil=>simp
 |cons e es =>
  have:=h e (by simp);simp[oE,this]
end
def CB(cH:Nat):aa MapEntry->al
 | []=>true
 |e::es=>(match es with
  | []=>Nat.blt e.born cH
  |f::_=>Nat.blt e.born f.born)&&CB cH es
theorem W5{cH:Nat}:∀{es:aa MapEntry},CB cH es=true->CQ es/\∀e∈es,e.born<cH
 | [],_=>⟨List.Pairwise.nil,ab⟩
 | [e],h=>by unfold CB at h;simp only[eB,oE,NN]at h;exact⟨List.pairwise_singleton ..,ab⟩
 |e::f::es,h=>by
  unfold CB at h;simp only[eB,oE,NN]at h;obtain⟨h1,ap⟩:=W5 h.2;have A:∀x∈f::es,e.born<x.born:=λx C=>by
   rcases gQ.1 C with rfl|C
   ·omega
   ·have:=r6 h1 C;omega
  refine⟨List.Pairwise.cons A h1,λx C=>?_⟩
  grind
section
variable {P:Program}
def wi(aCV s0:al)(dA awK:Int):Int:=if aCV then 3 else if s0 then(if dA == awK then 2 else 0)else 1
end
section
variable {az:Type}
def bd(enc:az->aa X):aa az->aa X
 | []=>[]
 |x::l=>enc x++bd enc l
theorem gc{enc:az->aa X}{k:Nat}(A:∀x,(enc x).length=k):∀l:aa az,(bd enc l).length=l.length*k
 | []=>by simp[bd]
 |x::l=>by simp[bd,A,gc A l,Fe];omega
theorem tm{enc:az->aa X}{k:Nat}(A:∀x,(enc x).length=k):∀{l:aa az} {i:Nat} {x:az},l[i]? = some x->((bd enc l).drop (i*k)).take k=enc x
 | [],i,x,h=>ab
 |y::l,0,x,h=>by simp at h;subst h;simp[bd,<-A y]
 |y::l,i+1,x,h=>by
  have h:l[i]? = some x:=ab
  have e:(i+1)*k=(enc y).length+i*k:=ab
  rw[e,bd,NP,NC J,te];have:(enc y).length+i*k-(enc y).length=i*k:=J
  rw[this];exact tm A h
theorem amC{enc:az->aa X}{k:Nat}(A:∀x,(enc x).length=k)(z:az):∀{l:aa az} {i:Nat},i<l.length->nh (enc z) (bd enc l) (i*k)=some (bd enc (l.set i z)):=by
 intro l i aj;rw[tp,if_pos (by rw[gc A,A];have:=qk k aj;grind)]
 congr 1
 have E:∀(l:aa az) (i:Nat),i<l.length->(bd enc l).take (i*k)++(enc z++(bd enc l).drop (i*k+k))=bd enc (l.set i z):=by
  intro l
  induction l with
  |nil=>grind
  |cons y l I =>
   intro i aj;cases i with
   |zero=>simp[bd,<-A y,NP]
   |succ i =>
    have e:(i+1)*k=(enc y).length+i*k:=ab
    have C:(i+1)*k+k=(enc y).length+(i*k+k):=J
    rw[List.set_cons_succ,bd,bd,C,e,List.take_append,NP];rw[q3 J,NC J]
    grind
 grind
end
section
variable {P:Program}  {az:Type}
theorem iY(m:Nat)(h:m<1000000000):IntKind.wrap .i64 (m:Int)=(m:Int):=Ay J J
end
section
variable {P:Program}  {az:Type} {s:al}
theorem K0(n:Nat)(h:n<=12):IntKind.wrap .u64 (n:Int)=(n:Int):=by
 rw[<-nT];show Ae .u64 n=_;unfold Ae yz;rw[oE]
 grind
theorem OA{R:az->az->Prop}(A:∀x y,R x y->R y x->x=y):∀{l bY:aa az},l.Perm bY->l.Pairwise R->bY.Pairwise R->l=bY
 | [],bY,C,_,_=>by rw[List.nil_perm.1 C]
 |x::l,[],C,_,_=>by have:=C.length_eq;grind
 |x::l,y::bY,C,h1,ap=>by
  have N:∀z∈l,R x z:=λz E=>r6 h1 E;have V:∀z∈bY,R y z:=λz E=>r6 ap E;have I:x=y:=by
   have M:x∈y::bY:=ab
   have L:y∈x::l:=ab
   grind
  subst I;rw[OA A (List.Perm.cons_inv C) ab ab]
end
def fR(a b:Int):Int:=if a<b then -1 else if b<a then 1 else 0
def hG:aa Int->Int
 | []=>0
 |x::l=>if x=0 then hG l else x
section
variable {P:Program}  {s:al}
def ll(x:Int × Int):aa X:=[(x.1:X),(x.2:X)]
def k1(x y:Int × Int):Int:=hG [fR x.1 y.1,fR x.2 y.2]
end
section
variable {P:Program} {az:Type}
def d1(h:ae)(v:X)(enc:az->aa X)(k:Nat)(l:aa az)(ao aj:Nat):Prop :=
 (l=[]/\v = .slice none 0 0)\/∃b,ao<=b/\b<aj/\v = .slice (some ⟨b,0,some k⟩) l.length l.length/\u h b=some (.cells (bd enc l) false)
theorem se{enc:az->aa X}:∀(l:aa az) (x:az),bd enc (l++[x])=bd enc l++enc x
 | [],x=>by simp[bd]
 |y::l,x=>by simp[bd,se l x]
theorem mT(h:ae)(b k:Nat):u (yy h b) k=if k=b then none else u h k:=Oq h b k
theorem rf{s:Nat}{l:aa X}{A:Nat}(aq:0<s):qw h U s l A = .ok (.val (.slice (some ⟨U,0,some s⟩) A A) (F h U (.cells l false)) (U+1)):=by
 cases s with
 |zero=>omega
 |succ s=>rfl
theorem tn{aS:aw Nat}{n:Nat}{k:aa X->R fq}(A:u h b=some (.cells cs ro))(E:0<n)(C:n<=cs.length-off):lg h (some ⟨b,off,aS⟩) n k=k ((cs.drop off).take n):=by
 cases n with
 |zero=>omega
 |succ n =>
  show cellsOf h b (λcs _=>R.of "read - out of block" (ni (n+1) (nc cs off)) k)=_;rw[v8 A,sd,ri,if_pos ab];rfl
theorem at1{enc:az->aa X}{k:Nat}(M:∀x,(enc x).length=k)(E:∀x,ee (enc x)=true)(A:0<k){l:aa az}(aG:d1 h v enc k l ao U)(I:ao<=U){x:az}(ap:u h bQ=some (.cells cs ro))(aY:(cs.drop dP).take k=enc x)(N:(l.length+1)*k<=1000000):
  ∃dF ac,dM k h U v (.slice (some ⟨bQ,dP,k3⟩) 1 ry) = .ok (.val dF ac (U+1))/\d1 ac dF enc k (l++[x]) ao (U+1)/\(∀b,b<ao->u ac b=u h b):=by
 have C:k<=cs.length-dP:=ab
 have h1:l.length+1<=1000000:=h7 (by have:=B6 (l.length+1) A;omega) N;rcases aG with⟨rfl,rfl⟩|⟨b,hR,fm,rfl,aO⟩
 ·refine⟨.slice (some ⟨U,0,some k⟩) 1 1,F h U (.cells (enc x) false),?_,.inr ⟨U,I,J,rfl,by simp[bd]⟩,ab⟩;unfold dM;simp only;rw[xT,uD,tn ap A C,aY];unfold g0;have Z:Nat.ble (Nat.add 0 1) 0=false:=rfl;have V:(Nat.ble (Nat.mul (Nat.add 0 1) k) 1000000&&Nat.ble (Nat.add 0 1) 1000000)=true:=by
   simp only[eB,tg]
   grind
  rw[Z,V];exact rf A
 ·refine⟨.slice (some ⟨U,0,some k⟩) (l.length+1) (l.length+1),F (yy h b) U (.cells (bd enc l++enc x) false),?_,.inr ⟨U,I,J,by simp,by simp[se]⟩,λc a1=>by rw[mq,if_neg J,mT,if_neg J]⟩
  unfold dM;simp only;rw[xT,uD,tn ap A C,aY];unfold g0;have Z:Nat.ble (Nat.add l.length 1) l.length=false:=by
   cases hbl:Nat.ble (Nat.add l.length 1) l.length with
   |false=>rfl
   |true=>have:=ma hbl;grind
  have V:(Nat.ble (Nat.mul (Nat.add l.length 1) k) 1000000&&Nat.ble (Nat.add l.length 1) 1000000)=true:=by
   simp only[eB,tg]
   grind
  rw[Z,V];show rq h U k (some ⟨b,0,some k⟩) l.length l.length (l.length+1) (enc x)=_;unfold rq;simp only[v8 aO];have L:ni (Nat.mul l.length k) (nc (bd enc l) 0)=some (bd enc l):=by rw[sd,pk,ri,if_pos (by rw[gc M];grind)];rw[q3 (by rw[gc M];grind)]
  rw[L];have cf:(!false&&Nat.beq 0 0&&Nat.beq (jr (bd enc l)) (Nat.mul l.length k)&&Nat.beq k k&&Nat.beq l.length l.length&&ee (enc x))=true:=by rw[oD,gc M,E];simp
  show(bif _ then _ else _)=_;rw[cf,kh];exact rf A
end
section
variable {P:Program}  {s:al}
def pick(key:MapEntry->Int × Int)(len:MapEntry->Nat)(l:aa MapEntry):aa (Int × Int):=(l.filter (λe=>decide (0<len e))).map key
end
theorem PW{b:Int}:fR a b<0↔a<b:=by unfold fR;omega
theorem wb{b:Int}:fR a b=0↔a=b:=by unfold fR;omega
theorem Gf{x y:Int × Int}:k1 x y<0↔x.1<y.1\/(x.1=y.1/\x.2<y.2):=by
 unfold k1 hG hG hG
 by_cases h:fR x.1 y.1=0
 ·rw[if_pos h];rw[wb]at h
  by_cases ap:fR x.2 y.2=0
  ·rw[if_pos ap];rw[wb]at ap;omega
  ·rw[if_neg ap,PW];omega
 ·rw[if_neg h,PW];have:¬x.1=y.1:=λe=>h (wb.2 e);omega
theorem aqh(x y z:Int × Int)(h1:¬k1 y x<0)(ap:¬k1 z y<0):¬k1 z x<0:=by rw[Gf]at *;omega
theorem aqi(x y:Int × Int)(h:k1 x y<0):¬k1 y x<0:=by rw[Gf]at *;omega
theorem akg(x y:Int × Int)(h1:¬k1 y x<0)(ap:¬k1 x y<0):x=y:=by
 rw[Gf]at *
 grind
section
variable {az:Type}
end
def lenOf(h:ae)(e:MapEntry):aw Nat:=match e.val with
 | .pointer (some a)=>(match u h a.block with
  |some (.cells cs _)=>(match g3 cs (a.off+1)with
   |some (.slice _ n _)=>some n
   |_=>none)
  |_=>none)
 |_=>none
theorem Fu{az:Type}{enc:az->aa X}(A:∀x,hU (enc x)=true):∀l:aa az,hU (bd enc l)=true
 | []=>rfl
 |x::l=>by
  have app:∀a b:aa X,hU a=true->hU b=true->hU (a++b)=true:=by
   intro a
   induction a with
   |nil=>grind
   |cons y a C =>
    intro b h k;have h:(qp y&&hU a)=true:=h;simp only[eB]at h;show(qp y&&hU (a++b))=true
    grind
  exact app _ _ (A x) (Fu A l)
section
variable {P:Program}
end
abbrev dB:=Int × Int × Int
def jX(x:dB):aa X:=[(x.1:X),(x.2.1:X),(x.2.2:X)]
def ix(e:dB):aa dB->aa dB
 | []=>[e]
 |x::l=>bif f2 x.1 e.1&&f2 x.2.1 e.2.1 then(x.1,x.2.1,bif lk e.2.2 x.2.2 then e.2.2 else x.2.2)::l else x::ix e l
def h9(acc:aa dB):aa dB->aa dB
 | []=>acc
 |e::l=>h9 (ix e acc) l
section
variable {P:Program}
def jY(x y:dB):Int:=hG [hG [fR x.1 y.1,fR x.2.1 y.2.1],fR x.2.2 y.2.2]
theorem Gg{x y:dB}:jY x y<0↔x.1<y.1\/(x.1=y.1/\(x.2.1<y.2.1\/(x.2.1=y.2.1/\x.2.2<y.2.2))):=by
 have C:k1 (x.1,x.2.1) (y.1,y.2.1)=hG [fR x.1 y.1,fR x.2.1 y.2.1]:=rfl;have E:hG [fR x.1 y.1,fR x.2.1 y.2.1]=0↔x.1=y.1/\x.2.1=y.2.1:=by
  unfold hG hG hG
  by_cases h:fR x.1 y.1=0
  ·rw[if_pos h];rw[wb]at h
   by_cases ap:fR x.2.1 y.2.1=0
   ·rw[if_pos ap];rw[wb]at ap;omega
   ·rw[if_neg ap,wb];omega
  ·rw[if_neg h,wb];have:¬x.1=y.1:=λe=>h (wb.2 e);omega
 have A:=@Gf (x.1,x.2.1) (y.1,y.2.1);rw[C]at A;simp only at A;show hG (hG [fR x.1 y.1,fR x.2.1 y.2.1]::[fR x.2.2 y.2.2])<0↔_;generalize hG [fR x.1 y.1,fR x.2.1 y.2.1]=z at *
 unfold hG hG hG
 by_cases h:z=0
 ·rw[if_pos h]
  by_cases ap:fR x.2.2 y.2.2=0
  ·rw[if_pos ap];rw[wb]at ap;omega
  ·rw[if_neg ap,PW];omega
 omega
theorem aqj(x y z:dB)(h1:¬jY y x<0)(ap:¬jY z y<0):¬jY z x<0:=by rw[Gg]at *;omega
theorem aqk(x y:dB)(h:jY x y<0):¬jY y x<0:=by rw[Gg]at *;omega
theorem akh(x y:dB)(h1:¬jY y x<0)(ap:¬jY x y<0):x=y:=by
 rw[Gg]at *
 grind
end
def oM(n:Nat):aa X:=[.int .i64 0,.int .u64 (n:Int)]
section
variable {P:Program}  {s:al}
theorem at2(m:Nat)(h:m<4294967296):IntKind.wrap .i64 (m:Int)=(m:Int):=Ay J J
end
section
variable {P:Program}  {s:al}
end
def mh(x:dB):X:=.agg ⟨ll (x.1,x.2.1)⟩
def ki:Nat->aa dB->aa MapEntry
 |_,[]=>[]
 |i,x::l=>{ key:=mh x,val:=.agg ⟨oM x.2.2.toNat⟩,born:=i }::ki (i+1) l
def wF(x e:dB):al:=f2 x.1 e.1&&f2 x.2.1 e.2.1
def CR(n:Int):al:=match n with
 | .ofNat m=>Nat.blt m 2147483648
 | .negSucc _=>false
def lK(x:dB):Prop:=CR x.1=true/\CR x.2.1=true/\CR x.2.2=true
def pU(e:dB):aa dB->aw (Nat × dB)
 | []=>none
 |x::l=>bif wF x e then some (0,x)else(pU e l).map (λp=>(p.1+1,p.2))
theorem JU(e:dB):∀(l:aa dB),ix e l=match pU e l with
  |none=>l++[e]
  |some (p,x)=>l.set p (x.1,x.2.1,bif lk e.2.2 x.2.2 then e.2.2 else x.2.2)
 | []=>rfl
 |x::l=>by
  unfold ix pU;show(bif wF x e then _ else _)=_;cases wF x e with
  |true=>rfl
  |false =>
   simp only[mH];rw[JU e l]
   grind
theorem Km{e:dB}:∀{l:aa dB} {p:Nat} {x:dB},pU e l=some (p,x)->l[p]? = some x/\wF x e=true
 | [],p,x,h=>by cases h
 |y::l,p,x,h=>by
  unfold pU at h;cases aq:wF y e with
  |true=>grind
  |false =>
   rw[aq]at h;simp only[mH]at h;cases A:pU e l with
   |none=>grind
   |some q =>
    rw[A]at h;cases h;obtain⟨h1,ap⟩:=Km    A
    grind
theorem ai3(i:Nat)(l:aa dB)(e:dB):ki i (l++[e])=ki i l++[{ key:=mh e,val:=.agg ⟨oM e.2.2.toNat⟩,born:=i+l.length }]:=by
 induction l generalizing i with
 |nil=>rfl
 |cons x l A =>
  show _::ki (i+1) (l++[e])=_::(ki (i+1) l++_)
  grind
theorem W6(e:dB):∀(i p:Nat) (l:aa dB),p<l.length->Ha (ki i l) p (mh e) (.agg ⟨oM e.2.2.toNat⟩)=ki i (l.set p e)
 |_,_,[],h=>ab
 |i,0,x::l,h=>rfl
 |i,p+1,x::l,h=>by show _::Ha (ki (i+1) l) p _ _=_::ki (i+1) (l.set p e);rw[W6 e (i+1) p l ab]
section
variable {P:Program}  {s:al}
def K1(P:Program)(dW:Nat):Prop:=∀x y:dB,lK x->lK y->kV P dW (mh x) (mh y)=some (wF y x)
theorem O2{dW:Nat}(A:K1 P dW){e:dB}(C:lK e):∀(i j:Nat) (l:aa dB),(∀x∈l,lK x)->kC P dW (mh e) (ki i l) j=some ((pU e l).map λp=>(j+p.1,{ key:=mh p.2,val:=.agg ⟨oM p.2.2.2.toNat⟩,born:=i+p.1 }))
 |i,j,[],_=>rfl
 |i,j,x::l,h=>by
  have E:=O2 A C (i+1) (j+1) l λy I=>h y ab;unfold ki kC pU;simp only[A e x C (h x ab)];cases wF x e with
  |true=>rfl
  |false =>
   simp only[mH];rw[show Nat.succ j=j+1 from rfl,E];cases pU e l with
   |none=>rfl
   |some q =>
    grind
theorem aki{x e:dB}(h:wF x e=true):mh x=mh e/\x.1=e.1/\x.2.1=e.2.1:=by
 unfold wF at h;simp only[eB,x5]at h;refine⟨?_,h⟩;unfold mh
 grind
theorem at3(C:K1 P dW){e:dB}(A:lK e){r:Nat}{l:aa dB}(E:∀x∈l,lK x)(I:u h r=some (.map (ki 0 l) cH))(z:X):
  jV P h dW z true (.map (some r)) (mh e) = .ok (match pU e l with
   |none=>.tuple #[z,.bool false]
   |some p=>.tuple #[.agg ⟨oM p.2.2.2.toNat⟩,.bool true]):=by
 unfold jV ym;rw[C e e A A];unfold QV kW;simp only[I,O2 C A 0 0 l E];cases pU e l <;> rfl
theorem akj(e:dB):oK (mh e) (mh e)=true:=by
 show(qu (e.1:X) (e.1:X)&&(qu (e.2.1:X) (e.2.1:X)&&true))=true;have:∀n:Int,qu (.int .i64 n) (.int .i64 n)=true:=λn=>by show(mm .i64 .i64&&f2 n n)=true;rw[x5.2 rfl];rfl
 grind
theorem adh(I:K1 P dW){e:dB}(C:lK e){r:Nat}{l:aa dB}(M:∀x∈l,lK x)(V:u h r=some (.map (ki 0 l) l.length)){w:Nat}(A:w=match pU e l with|none=>e.2.2.toNat|some p=>(bif lk e.2.2 p.2.2.2 then e.2.2 else p.2.2.2).toNat):
  mK P dW h (.map (some r)) (mh e) (.agg ⟨oM w⟩) = .ok (F h r (.map (ki 0 (ix e l)) (ix e l).length)):=by
 unfold mK ym;rw[I e e C C];show kW h r _=_;unfold kW;simp only[V,O2 I C 0 0 l M];rw[JU];cases E:pU e l with
 |none =>
  rw[E]at A;simp only at A;subst A;simp only[Option.map_none,kh,ai3,jd,mb,E5,iV]
 |some p =>
  obtain⟨q,x⟩:=p;rw[E]at A;simp only at A;obtain⟨h1,ap⟩:=Km E;obtain⟨N,gW,Z⟩:=aki ap;have L:q<l.length:=ab
  simp only[E8,N,akj,qm,iV,E6];have:=W6 (x.1,x.2.1,bif lk e.2.2 x.2.2 then e.2.2 else x.2.2) 0 q l L
  grind
end
theorem uK{n:Int}(h:CR n=true):∃m:Nat,n=(m:Int)/\m<2147483648:=by
 cases n with
 |ofNat m=>exact⟨m,rfl,by simpa[CR,oE]using h⟩
 |negSucc m=>cases h
section
variable {P:Program}  {s:al}
end
section
variable {P:Program}  {s:al}
end
theorem W7(e:dB):∀(l A:aa dB),h9 A (l++[e])=ix e (h9 A l)
 | [],A=>rfl
 |x::l,A=>W7 e l (ix x A)
theorem aiu{e:dB}(L:lK e){l:aa dB}(C:∀x∈l,lK x):∀x∈ix e l,lK x:=by
 intro x A;rw[JU]at A;cases E:pU e l with
 |none =>
  rw[E]at A;rcases hp.1 A with h|h
  ·exact C x h
  ·simp at h;subst h;exact L
 |some p =>
  rw[E]at A;obtain⟨h1,ap⟩:=Km E;have I:=C _ (kz h1);rcases List.mem_or_eq_of_mem_set A with h|h
  ·exact C x h
  ·subst h;refine⟨I.1,I.2.1,?_⟩;cases lk e.2.2 p.2.2.2 with
   |true=>exact L.2.2
   |false=>exact I.2.2
theorem Ju:∀{l acc:aa dB},(∀x∈l,lK x)->(∀x∈acc,lK x)->∀x∈h9 acc l,lK x
 | [],acc,_,A=>A
 |e::l,acc,C,A=>Ju  (acc:=ix e acc) (λx E=>C x ab) (aiu (C e ab) A)
theorem akk(e:dB)(l:aa dB):(ix e l).length<=l.length+1:=by
 rw[JU]
 grind
theorem OB:∀(l A:aa dB),(h9 A l).length<=A.length+l.length
 | [],A=>by simp[h9]
 |e::l,A=>by
  have h1:=OB l (ix e A);have ap:=akk e A;show(h9 (ix e A) l).length<=_
  grind
theorem Wn:∀(i:Nat) (l:aa dB),CQ (ki i l)/\∀e∈ki i l,i<=e.born/\e.born<i+l.length
 |i,[]=>⟨List.Pairwise.nil,λe h=>by cases h⟩
 |i,x::l=>by
  obtain⟨h1,ap⟩:=Wn (i+1) l;refine⟨List.Pairwise.cons ab h1,λe A=>?_⟩;rcases gQ.1 A with rfl|A
  all_goals grind
def wG(e:MapEntry):dB:=match e.key,e.val with
 | .agg ⟨[.int _ a,.int _ b]⟩,.agg ⟨[_,.int _ c]⟩=>(a,b,c)
 |_,_=>(0,0,0)
theorem WF:∀(i:Nat) (l:aa dB),(∀x∈l,lK x)->(ki i l).map wG=l/\∀e∈ki i l,∃w:Nat,w<2147483648/\(wG e).2.2=(w:Int)/\e.key=mh (wG e)/\e.val = .agg ⟨oM w⟩
 |i,[],_=>⟨rfl,λe h=>by cases h⟩
 |i,x::l,h=>by
  obtain⟨h1,ap⟩:=WF (i+1) l λy L=>h y ab;obtain⟨w,A,E⟩:=uK (h x ab).2.2;obtain⟨a,b,c⟩:=x;simp only at A;subst A;have I:wG { key:=mh (a,b,(w:Int)),val:=.agg ⟨oM ((w:Int)).toNat⟩,born:=i }=(a,b,(w:Int)):=rfl;refine⟨?_,λe C=>?_⟩
  ·show wG _::(ki (i+1) l).map wG=_
   grind
  ·rcases gQ.1 C with rfl|C
   all_goals grind
section
variable {P:Program}
end
section
variable {P:Program}
theorem cx.still{H:fp}{w:World}(M:d9 B ai H w)(A:w.heap.size<=ba.heap.size)(L:ba.os=w.os)(I:qT w ba)(C:ba.output=w.output)(E:∀k,k<w.heap.size->ba.heap[k]? = w.heap[k]?):cx B ai H w U U ai H ba where
 rel:=M.world A λb p V aq=>by obtain⟨o,N⟩:=lI.1 aq;exact E _ (M.obj b p o V N).CP
 agree:=ab
 size:=A
 os:=L
 tape:=I
 output:=C
 frame:=ab
 own:=ab
 le:=J
end
section
variable {az:Type}
def aA(U:Nat)(h ac:ae):Prop:=∀b,b<U->u ac b=u h b
theorem aN{p:Prop}(h:p:=by grind[aA]):p:=h
theorem aA.refl(U:Nat)(h:ae):aA U h h:=aN
theorem aA.trans(a:aA U h ac)(b:aA Y ac ap)(A:U<=Y):aA U h ap:=aN
theorem aA.set{o:fJ}(a:aA U h ac)(A:U<=b):aA U h (F ac b o):=aN
theorem aA.mono(a:aA Y h ac)(A:U<=Y):aA U h ac:=aN
def cr(h:ae)(U:Nat)(v:X)(enc:az->aa X)(l:aa az):Prop :=
 ∃a cap,v = .slice a l.length cap/\(l≠[]->∃b aS ro,b<U/\a=some ⟨b,0,aS⟩/\u h b=some (.cells (bd enc l) ro))
theorem cr.T{enc:az->aa X}{l:aa az}(aq:cr h U v enc l)(A:aA U h ac)(E:U<=Y):cr ac Y v enc l:=by obtain⟨a,cap,N,I⟩:=aq;refine⟨a,cap,N,λC=>?_⟩;obtain⟨b,aS,ro,L,M,V⟩:=I C;exact⟨b,aS,ro,J,M,by rw[A b L];omega⟩
theorem d1.rd{k:Nat}{enc:az->aa X}{l:aa az}(aq:d1 h v enc k l ao aj):cr h aj v enc l:=by
 rcases aq with⟨rfl,rfl⟩|⟨b,h1,ap,rfl,A⟩
 ·exact⟨none,0,rfl,λh=>absurd rfl h⟩
 ·exact⟨_,_,rfl,λ_=>⟨b,some k,false,ap,rfl,A⟩⟩
theorem cr.at{enc:az->aa X}{l:aa az}(aq:cr h U v enc l){x:az}(E:l[i]? = some x):
  i<l.length/\∃b aS ro cap,b<U/\v = .slice (some ⟨b,0,aS⟩) l.length cap/\u h b=some (.cells (bd enc l) ro):=by
 obtain⟨a,cap,L,A⟩:=aq;obtain⟨b,aS,ro,I,rfl,C⟩:=A ab
 grind
theorem JF{enc:az->aa X}{k:Nat}(A:∀x,(enc x).length=k){l:aa az}{x:az}(C:l[i]? = some x)(I:j<k):(bd enc l)[i*k+j]? = (enc x)[j]?:=by
 have E:=tm A C
 grind
end
section
variable {H:Type} {enc:TypeId × X->H} {P:Program} {w:World} {base:Nat} {aS:Nat->al} {AR:al}
structure Tri (P:Program) (t:TypeId):Prop where
 ex:∃dw k9 fA fW,P.underlying t=some (.struct dw)/\dw[0]? = some k9/\dw[1]? = some fA/\dw[2]? = some fW/\k9.offset=0/\fA.offset=1/\fW.offset=2 /\
  P.underlying k9.type=some (.int .i64)/\P.underlying fA.type=some (.int .i64)/\P.underlying fW.type=some (.int .i64)/\P.cellsOf k9.type=1/\P.cellsOf fA.type=1/\P.cellsOf fW.type=1
 size:P.cellsOf t=3
abbrev iy:=Int × Int × Int
def iz(x:iy):aa X:=[(x.1:X),(x.2.1:X),(x.2.2:X)]
def Lw(n:Int):Prop:=(Lit.int .i64 n).wf=true
theorem amD{x:DataW H × aa MemPlace}(av:Tri P t)(h:DataW.trod enc P w base aS AR Ds t cs=some x):∃e:iy,cs=iz e/\Lw e.1/\Lw e.2.1/\Lw e.2.2:=by
 obtain⟨dw,V,fA,fW,ci,au,h1,ap,IF,eF,dP,aCW,Vs,Ey,Z,c1,c2⟩:=av.ex;obtain⟨xs,n,rfl,_,A,Bd,E⟩:=DataW.trod_struct ci h;rw[av.size]at A;have C:∀(i:Nat) (f:Field),dw[i]? = some f->f.offset=i->P.underlying f.type=some (.int .i64)->P.cellsOf f.type=1->∃n:Int,(cs.drop i).take 1=[(n:X)]/\Lw n:=λi f bE fw ej I=>by
  have N:=E i f bE;have aj:i<xs.length:=ab
  rw[fw,I,oB aj]at N;obtain⟨n,h1,_,ap⟩:=DataW.trod_int ej N;exact⟨n,h1,ap⟩
 obtain⟨a,M,nB⟩:=C 0 V au IF aCW Z;obtain⟨b,L,lY⟩:=C 1 fA h1 eF Vs c1;obtain⟨c,I,ou⟩:=C 2 fW ap dP Ey c2
 match cs,A with
 | [x,y,z],_ =>
  simp at M L I;exact⟨(a,b,c),by simp[iz,M,L,I],nB,lY,ou⟩
theorem akl{a:Addr}{n:Nat}(h:w.cells? base a n=some cs):cs.length=n/\∀i v,cs[i]? = some v->w.cell? (a.add i)=some v:=by
 unfold World.cells? at h
 split at h
 ·have A:cs.length=n:=by simpa using mapM_some_length h
  refine⟨A,λi v C=>?_⟩;have:=mapM_some_get h i i ab
  grind
 grind
theorem aql(a:Addr)(i j:Nat):(a.add i).add j=a.add (i+j):=by
 unfold Addr.add
 grind
theorem akm{az:Type}{M:az->aa X}{k:Nat}{e:TypeId}{x:DataW H × aa MemPlace}(ci:P.underlying t=some (.slice e))(a1:P.cellsOf e=k)(R:az->Prop)(I:∀(n:Nat) (c:aa X) y,DataW.trod enc P w base aS AR n e c=some y->∃z:az,c=M z/\R z)(h:DataW.trod enc P w base aS AR Ds t cs=some x):
  cs=[.slice none 0 0]\/∃(a:Addr) (A:aa az) (cap:Nat),cs=[.slice (some a) A.length cap]/\A.length<=cap/\cap<=maxLen/\(∀z∈A,R z)/\∀i v,(bd M A)[i]? = some v->w.cell? (a.add i)=some v:=by
 rcases DataW.trod_slice ci h with⟨N,_⟩|⟨a,len,cap,C,rest,n,rfl,N,_,aO,bA,bp,gz,hel,_⟩
 ·grind
 ·have Z:∀m,m<=len->∃A:aa az,A.length=m/\(∀z∈A,R z)/\(bd M A).length=m*k/\∀i v,(bd M A)[i]? = some v->w.cell? (a.add i)=some v:=by
   intro m
   induction m with
   |zero=>intro _;exact⟨[],rfl,by simp,by simp[bd],λi v L=>by simp[bd]at L⟩
   |succ m eY =>
    intro DQ;obtain⟨A,h1,ap,aM,bc⟩:=eY J;have kw:=hel m J;rw[a1,oB (by omega:m<C.length)]at kw;simp only[jE]at kw;obtain⟨c,qJ,V⟩:=kw;obtain⟨z,rfl,cL⟩:=I _ _ _ V;obtain⟨ko,hcg⟩:=akl qJ;refine⟨A++[z],ab,λy E=>?_,by rw[se,jd,aM,ko,Fe],λi v L=>?_⟩
    ·rcases hp.1 E with E|E
     ·exact ap y E
     ·rw[iU.1 E];exact cL
    ·rw[se,B8]at L
     split at L
     ·grind
     ·rename_i eM
      have:=hcg _ v L;rw[aql,aM]at this
      grind
  obtain⟨A,h1,ap,_,bc⟩:=Z len J
  grind
end
def yE(b7:aa (Place × aa X)):b5:=λb=>(b7[b]?).map (·.1)
def y1:Nat->aa (Place × aa X)->ae->ae
 |_,[],h=>h
 |i,p::b7,h=>y1 (i+1) b7 (F h i (.cells p.2 true))
theorem O3:∀(b7:aa (Place × aa X)) (i:Nat) (h:ae) (b:Nat),u (y1 i b7 h) b=if b<i then u h b else match b7[b-i]? with
  |some p=>some (.cells p.2 true)
  |none=>u h b
 | [],i,h,b=>by by_cases A:b<i <;> simp[y1,A]
 |p::b7,i,h,b=>by
  show u (y1 (i+1) b7 (F h i (.cells p.2 true))) b=_;rw[O3 b7 (i+1) _ b,mq]
  grind
theorem Zc{o:fJ}(h:u (y1 0 b7 iN) b=some o):∃p,b7[b]? = some p/\o = .cells p.2 true:=by
 rw[O3,if_neg (Nat.not_lt_zero _),Nat.sub_zero,JT]at h
 grind
theorem at4{p:Place × aa X}(h:b7[b]? = some p):u (y1 0 b7 iN) b=some (.cells p.2 true):=by rw[O3,if_neg (Nat.not_lt_zero _),Nat.sub_zero,h]
def InW(w:World)(b7:aa (Place × aa X)):Prop:=∀p∈b7,∃c e fi,w.heap[p.1.co]? = some (.cells c e fi)/\pt (yE b7) p.2 c p.1.off
theorem at5{w:World}(C:InW w b7):d9 w.heap.size (yE b7) (u (y1 0 b7 iN)) w where
 base:=J
 obj:=λb p o A I=>by obtain⟨q,E,rfl⟩:=Zc I;unfold yE at A;rw[E]at A;cases A;obtain⟨c,e,M,L,N⟩:=C q ab;exact⟨ab,c,e,M,L,N⟩
 inj:=λb ce p eu A V aq _ Z _=>by
  exfalso;unfold yE at A;cases E:b7[b]? with
  |none=>grind
  |some q =>
   rw[E]at A;have A:q.1=p:=ab
   subst A;obtain⟨c,e,M,L,_⟩:=C q ab
   grind
 kH:=λb aq=>by
  obtain⟨o,I⟩:=lI.1 aq;obtain⟨q,E,_⟩:=Zc I;unfold yE
  grind
theorem awL(b7:aa (Place × aa X)):jQ (yE b7) b7.length:=λb A=>by
 unfold yE
 grind
theorem amE{I:b5}{H E:fp}{w:World}(L:B=w.heap.size)(A:cx B ai H w U Y I E ba):RowKit.Below w.heap.size w ba :=
 ⟨A.os,A.tape.1,A.output,A.size,λk C=>A.frame k C (by rintro⟨b,p,_,_,_,h⟩;omega)⟩
section
variable {P:Program}
end
section
variable {az:Type}
def eG(h:ae)(ao aj:Nat)(v:X)(enc:az->aa X)(l:aa az):Prop :=
 ∃a cap,v = .slice a l.length cap/\(l≠[]->∃b aS ro,ao<=b/\b<aj/\a=some ⟨b,0,aS⟩/\u h b=some (.cells (bd enc l) ro))
theorem eG.rd{enc:az->aa X}{l:aa az}(aq:eG h ao aj v enc l):cr h aj v enc l:=by
 obtain⟨a,cap,A,E⟩:=aq;refine⟨a,cap,A,λC=>?_⟩
 grind
theorem eG.T{enc:az->aa X}{l:aa az}(aq:eG h ao aj v enc l)(C:∀b,ao<=b->b<aj->u ac b=u h b)(h1:d2<=ao)(ap:aj<=dm):eG ac d2 dm v enc l:=by
 obtain⟨a,cap,A,I⟩:=aq;refine⟨a,cap,A,λE=>?_⟩
 grind
theorem d1.fj{k:Nat}{enc:az->aa X}{l:aa az}(aq:d1 h v enc k l ao aj):eG h ao aj v enc l:=by
 rcases aq with⟨rfl,rfl⟩|⟨b,h1,ap,rfl,A⟩
 ·exact⟨none,0,rfl,λh=>absurd rfl h⟩
 ·exact⟨_,_,rfl,λ_=>⟨b,some k,false,h1,ap,rfl,A⟩⟩
end
section
variable {P:Program}  {s:al}
@[congr] theorem aAZ{az:Type}{r A:R az}{k:az->Prop}(h:r=A):af r k=af A k:=by rw[h]
@[simp] theorem aa9(U:Nat)(o:fJ):wW U (.ptr o) = (bf U):=rfl
@[simp] theorem aba(o:fJ):sA (.ptr o)=o:=rfl
@[simp] theorem XV(U:Nat)(o:fJ)(n c:Nat):wW U (.slice o n c) = .slice (some ⟨U,0,none⟩) n c:=rfl
@[simp] theorem XW(o:fJ)(n c:Nat):sA (.slice o n c)=o:=rfl
@[simp] theorem adi(k:IntKind)(n:Int):dj (.int k n)=[.int k n]:=rfl
@[simp] theorem Zd(a:aw Addr)(n c:Nat):dj (.slice a n c)=[.slice a n c]:=rfl
@[simp] theorem adj(l:aa X):dj (.agg ⟨l⟩)=l:=rfl
@[simp] theorem abb(b:al):dj (.bool b)=[.bool b]:=rfl
@[simp] theorem adk(a:aw Addr):dj (.pointer a)=[.pointer a]:=rfl
@[simp] theorem XX(k:IntKind)(n:Int):gZ (.int k n)=true:=rfl
@[simp] theorem W8(b:al):gZ (.bool b)=true:=rfl
@[simp] theorem WG(a:aw Addr)(n c:Nat):gZ (.slice a n c)=true:=rfl
@[simp] theorem XY(a:aw Addr):gZ (.pointer a)=true:=rfl
@[simp] theorem XZ:ee []=true:=rfl
@[simp] theorem q9(x:X)(l:aa X):ee (x::l)=(gZ x&&ee l):=by
 show(bif gZ x then ee l else false)=_
 grind
@[simp] theorem aAR(l:aa X)(a b:Nat):wl l a b=if ee l=true then .ok (.slice (.cells l false) a b)else .no "cells" := by
 show(bif ee l then _ else _)=_
 grind
@[simp] theorem DS(n:Nat):(n=n+1+1)↔False:=ab
@[simp] theorem Be(n:Nat):(n=n+1+1+1)↔False:=ab
@[simp] theorem ne4(n:Nat):(n=n+1+1+1+1)↔False:=ab
@[simp] theorem aBo(n:Nat):(n+1+1=n)↔False:=ab
@[simp] theorem aBp(n:Nat):(n+1+1+1=n)↔False:=ab
@[simp] theorem aBq(n:Nat):(n+1+1+1+1=n)↔False:=ab
theorem WH(a:Addr):Ag a a=true:=by
 obtain⟨b,o,aS⟩:=a;unfold Ag;cases aS <;> simp
@[simp] theorem sc(k:IntKind)(n:Int):oK (.int k n) (.int k n)=true:=by show(mm k k&&f2 n n)=true;rw[wg,kT];simp
@[simp] theorem xY(b:al):oK (.bool b) (.bool b)=true:=by show(b == b)=true;simp
@[simp] theorem th(a:aw Addr)(l c:Nat):oK (.slice a l c) (.slice a l c)=true:=by
 cases a with
 |none=>show(Nat.beq l l&&Nat.beq c c)=true;simp
 |some a=>show(Ag a a&&Nat.beq l l&&Nat.beq c c)=true;simp[WH]
@[simp] theorem Ck(l:aa X):oK (.agg ⟨l⟩) (.agg ⟨l⟩)=qv l l:=rfl
@[simp] theorem akn:qv [] []=true:=rfl
@[simp] theorem ai4(x y:X)(l m:aa X):qv (x::l) (y::m)=(qu x y&&qv l m):=rfl
@[simp] theorem aAT(k:IntKind)(n:Int):qu (.int k n) (.int k n)=true:=sc k n
@[simp] theorem aAO(a:aw Addr)(l c:Nat):qu (.slice a l c) (.slice a l c)=true:=th a l c
@[simp] theorem sf(v w:X):nd v (.ok w)=oK v w:=rfl
theorem amF{az:Type}{enc:az->aa X}{k:Nat}(A:∀x,(enc x).length=k){l:aa az}{x:az}(C:l[i]? = some x)(E:(enc x)[j]? = some v):(bd enc l)[i*k+j]? = some v:=by rw[JF A C ab,E]
end
def cq(x:Int):aa X:=[(x:X)]
def gA(l:aa Int):aa X:=l.map (λx=>Value.int .i64 x)
theorem hM:∀l:aa Int,bd cq l=gA l
 | []=>rfl
 |x::l=>by show cq x++bd cq l=_;rw[hM l];rfl
theorem hN{l:aa Int}{x:Int}(h:l[i]? = some x):(gA l)[i]? = some (x:X):=by simp[gA,h]
theorem zX(l:aa Int):(gA l).length=l.length:=by simp[gA]
theorem ints_set(l:aa Int)(i:Nat)(x:Int):(gA l).set i (x:X)=gA (l.set i x):=by simp[gA,List.map_set]
theorem ai5{az:Type}{l:aa az}{x:az}(h:l[i]? = some x):i<l.length:=ab
def lM(l:aa Nat):aa Int:=l.map (λx:Nat=>(x:Int))
theorem Ze(l:aa Nat)(x:Nat):lM (l++[x])=lM l++[(x:Int)]:=by simp[lM]
theorem zY(l:aa Nat):(lM l).length=l.length:=by simp[lM]
theorem amG{l:aa Nat}{x:Nat}(h:l[i]? = some x):(lM l)[i]? = some (x:Int):=by simp[lM,h]
section
variable {P:Program}  {s:al}
end
set_option linter.unusedSectionVars false
section
variable {P:Program}
@[simp] theorem z9(t:TypeId)(k:IntKind)(a b:Int):bin P .mul t (.int k a) (.int k b) = .ok (.int k (k.wrap (a*b))):=by rw[sn _ _ _ _ _ rfl,<-nT];rfl
theorem CC{k:IntKind}{b:Int}(A:b≠0):bin P .quo t (.int k a) (.int k b) = .ok (.int k (k.wrap (a.tdiv b))):=by rw[sn _ _ _ _ _ rfl];show Dh .quo k a b=_;unfold Dh;rw[kT,show(b == 0)=false by grind,<-nT];rfl
end
section
variable {P:Program} {az:Type} [Inhabited az] {enc:az->aa X} {k:Nat}
def kJ(c:az->az->Int)(x y:az):al:=decide (c x y<0)
def KI(enc:az->aa X)(c:az->az->Int)(l:aa az)(b U:Nat)(h:ae):bR:=λ_ ac Y=>U<=Y/\(∃bY:aa az,bY.Perm l/\bY.Pairwise (λx y=>¬c y x<0)/\u ac b=some (.cells (bd enc bY) false))/\∀c,c<U->c≠b->u ac c=u h c
theorem amH{w:World}(aq:w.heap.size<=ba.heap.size)(L:ba.os=w.os)(C:qT w ba)(N:ba.output=w.output)(V:∀k,k<w.heap.size->ba.heap[k]? = w.heap[k]?):∃q E,ba=grow (w.drewN q) E:=by
 refine⟨ba.drawn-w.drawn,ba.heap.extract w.heap.size ba.heap.size,?_⟩;obtain⟨A,M,I,E,Z⟩:=ba;have h1:A=w.heap++A.extract w.heap.size A.size:=ab
 have ap:I=w.drawn+(I-w.drawn):=by have:=C.2;grind
 have aM:M=w.tape:=C.1;simp only at L N h1 ap;unfold grow World.drewN
 grind
theorem Fv:∀{l:aa X},hU l=true->∀{x},x∈l->qp x=true
 |y::l,h,x,A=>by
  have h:(qp y&&hU l)=true:=h;simp only[eB]at h;rcases gQ.1 A with rfl|A
  ·grind
  ·exact Fv h.2 A
theorem kI.up{P:Program}{s:al}(C:kI P f args h U (tW v ac Y))(A:K v ac Y):aH P s f args h U K:=by
 cases s with
 |true=>exact⟨v,ac,Y,A,C⟩
 |false=>exact C.mono λ_ _ _ ⟨L,I,E⟩=>by rw[L,I,E];exact A
def GW(P:Program)(f:FuncId)(enc:az->aa X)(c:az->az->Int):Prop:=∀x y h U,aH P false f [.agg ⟨enc x⟩,.agg ⟨enc y⟩] h U (λv _ _=>v = .int .i64 (c x y))
theorem aqm{c:az->az->Int}(M:∀x,hU (enc x)=true)(a1:GW P BJ enc c)(E off C:Nat)(w:World):CmpLays P BJ #[] enc k c E off C w:=by
 intro m V Z _ x y;generalize sortWorldK enc k w E off m Z V=W;obtain⟨_,ap⟩:=a1 x y iN 0;have A:d9 W.heap.size (λ_=>none) (u iN) W:=⟨cD _,λb p o h=>(by cases h),λb ce p eu h=>(by cases h),λb h=>by rw[JT]at h;cases h⟩
 have aG:dq (λ_=>none) [.agg ⟨enc x⟩,.agg ⟨enc y⟩] [.agg ⟨enc x⟩,.agg ⟨enc y⟩]:=.cons (.agg (Jt (M x) _)) (.cons (.agg (Jt (M y) _)) .nil);have:=callsIn_wide.1 (ap W.heap.size _ W _ A (λb _=>rfl) aG 0);refine Calls.mono this ?_;rintro e ba ⟨v,ac,Y,bn,oj,rfl,rfl,L,I⟩;have:oj = .int .i64 (c x y):=zS rfl L;subst this;exact⟨rfl,amH I.size I.os I.tape I.output λk N=>I.frame k N (by rintro⟨b,p,aO,_⟩;omega)⟩
def qr(c:az->az->Int)(l:aa az):aa az:=(pdq (ltOf c) l.toArray 0 l.length (Lib.bitLen l.length) true true).toList
theorem OC{c:az->az->Int}(N:SWO (ltOf c))(l:aa az):(qr c l).length=l.length/\(qr c l).Perm l/\(qr c l).Pairwise (λx y=>¬c y x<0):=by
 have h:=pdq_sorts (ltOf c) N l.toArray 0 l.length (Lib.bitLen l.length) true true (Nat.zero_le _) (by simp) (Or.inl rfl);unfold qr;generalize pdq (ltOf c) l.toArray 0 l.length (Lib.bitLen l.length) true true=R at *
 obtain⟨L,A⟩:=h;have M:R.size=l.length:=by rw[L.1];simp
 refine⟨J,?_,?_⟩
 ·have V:=L.2.2;have aW:R.extract 0 l.length=R:=ab
  grind
 ·rw[xK];intro i j aj bZ E;have C:j<R.size:=J
  have dm:i<R.size:=J
  have I:=A i j (Nat.zero_le _) E J;rw[getElem!_pos R i dm,getElem!_pos R j C]at I;have Z:=of_decide_eq_false I
  grind
theorem O4(I:∀x,(enc x).length=k)(l:aa az){t:Nat}(L:t<l.length*k):(bd enc l)[t]? = some (flatK enc k l.toArray)[t]!:=by
 have C:0<k:=Nat.pos_of_ne_zero (λh=>ab);have E:t / k<l.length:=(NF C).2 L;have M:=zN t C;rw[get_flatK _ _ _ _ J];have e:t=t / k*k+t % k:=by rw[xS];exact(Nat.div_add_mod t k).symm
 conv=>lhs;rw[e]
 have h1:(l.toArray)[t / k]! = l[t / k]:=ab
 have A:t % k<(enc l[t / k]).length:=ab
 rw[amF I (oB E) (oB A),h1]
 grind
theorem PX(fV:pQ P){s:al}{c:az->az->Int}(L:SlLaysF0.n6 P Ex)(bE:Ex.f 6=f)(azc:Cr P f)(qJ:Cr P BJ)(kc:SWO (ltOf c))(aCX:∀w,(isAgg (Ex.t 24)).run P w = .ok true w)(aCY:∀w,(Go.sizeOf (Ex.t 24)).run P w = .ok k w)(C:∀x,(enc x).length=k)(bg:∀x,hU (enc x)=true)(h1:∀x,∀v∈enc x,v.oneCell'=true)(a1:GW P BJ enc c){n:Nat}{aS:aw Nat}{l:aa az}(rE:l.length=n)(bv:n<1000000)(vv:b<U)(eZ:u h b=some (.cells (bd enc l) false)):
  aH P s f [.slice (some ⟨b,0,aS⟩) n cap,.func (.func BJ) #[] #[]] h U (KI enc c l b U h):=by
 subst bE;obtain⟨kv,kb,kO⟩:=OC kc l;refine kI.up (v:=.tuple #[]) (ac:=F h b (.cells (bd enc (qr c l)) false)) (Y:=U) ⟨azc,λB ai w N bb jg cW a4=>callsIn_wide.2 ?_⟩ ⟨cD _,⟨_,kb,kO,by rw[wa,if_pos rfl]⟩,λc a1 eS=>by rw[wa,if_neg eS]⟩;obtain⟨_,_,aY,cd,rfl⟩:∃x y,bF ai _ x/\bF ai _ y/\N=[x,y]:=by
  cases cW with|cons aY cW=>cases cW with|cons cd cW=>cases cW;exact⟨_,_,aY,cd,rfl⟩
 cases zS (ai:=ai) rfl cd;obtain⟨eb,bM,rfl,oL⟩:=aY.xZ;have E:∀ba,(cx B ai (u h) w U U ai (u (F h b (.cells (bd enc (qr c l)) false))) ba)->Fin B ai h w U (tW (.tuple #[]) (F h b (.cells (bd enc (qr c l)) false)) U) (.returned (.tuple #[])) ba:=λba bp=>⟨_,_,_,ai,_,rfl,⟨rfl,rfl,rfl⟩,.tuple .nil,bp⟩
 rcases zI n with au|Ln
 ·subst au;have pO:l=[]:=B4 rE;have sD:qr c l=[]:=B4 J;refine(AnyF.slices_SortFunc_none L eb bM _ w).mono ?_;rintro e ba ⟨rfl,rfl⟩;refine E _ ?_;have:u (F h b (.cells (bd enc (qr c l)) false))=u h:=funext λx=>by
   rw[wa]
   grind
  rw[this];exact cx.refl U bb
 ·obtain⟨p,aO,rfl⟩:∃p,ai b=some p/\eb=some ⟨p.co,p.off+0,none⟩:=ab
  have Z:=bb.obj b p _ aO eZ;obtain⟨en,M,V,dK,ao,aj,b0,hfz,A,agI⟩:=Z;have tZ:=gc (enc:=enc) C l;have aBr:l.length*k<=V.size:=J
  have vt:∀t,t<l.length*k->V[t]? = some (flatK enc k l.toArray)[t]!:=λt ci=>by obtain⟨dF,aW,aK⟩:=A t _ (O4 C l ci);rw[iV]at aW;have mn:qp (flatK enc k l.toArray)[t]! = true:=Fv (Fu bg l) (kz (O4 C l ci));rw[aW,zS mn aK]
  have fK:HoldsK enc k w p.co 0 l.toArray:=λt ci=>by
   have ci:t<l.length*k:=by simpa using ci
   refine⟨?_,?_⟩
   ·simp only[World.cell?,b0,iV,Ca,nP,ff]
    grind
   ·simp only[World.frozen?,b0]
    grind
  have I:=AnyQ.slices_SortFunc_eq L k aCX aCY enc C h1 c kc BJ #[] p.co 0 bM l.toArray w (by obtain⟨fn,de,ew,g7⟩:=qJ;obtain⟨gj,mC⟩:=lI.1 ew;exact enters_of de g7 mC) (aqm bg a1 _ _ _ _) fK (bb.obj b p _ aO eZ).CP ab
  rw[show l.toArray.size=n by omega]at I;rw[M];refine Calls.mono I ?_;rintro e ba ⟨rfl,m,os,rfl⟩;refine E _ ?_;have bj:(pdq (ltOf c) l.toArray 0 n (Lib.bitLen n) true true)=(qr c l).toArray:=by unfold qr;grind
  rw[bj];unfold sortWorldK;generalize qr c l=d at *
  have hdl:d.length*k=l.length*k:=by rw[kv]
  have TC:(putRowK enc k (Sort.ahead w m) p.co 0 d.toArray).heap[p.co]? = some (.cells (putCells id 0 (flatK enc k d.toArray) V) dK (ao,aj)):=by simp[putRowK,putRow,mapBlock,Sort.ahead,I7,b0,onCells]
  have lP:(putCells id 0 (flatK enc k d.toArray) V).size=V.size:=by simp[putCells]
  have hfd:=gc (enc:=enc) C d;have TD:cx B ai (u h) w U U ai (fp.put (u h) b (.cells (bd enc d) false)) (putRowK enc k (Sort.ahead w m) p.co 0 d.toArray):=by
   refine cx.change U bb aO eZ en (by simp[putRowK,Sort.ahead]) (λx aY=>?_) rfl ⟨rfl,NR _ _⟩ rfl ⟨en,M,_,dK,ao,aj,TC,J,λi v aG=>?_,J⟩
   ·simp[putRowK,putRow,mapBlock,Sort.ahead,I7,kB aY]
   ·have dm:i<d.length*k:=ab
    have aW:=O4 C d dm;rw[aG]at aW;refine⟨v,?_,Cg (Fv (Fu bg d) (kz aG)) ai⟩;have TE:i<V.size:=J
    simp[putCells,Array.getElem?_mapIdx,TE,dm]
    grind
  rw[uO];exact TD.trans (cx.still TD.rel (by simp) rfl ⟨rfl,cD _⟩ rfl λk C=>heap_grow_old _ _ C)
theorem Zf{s:al}(L:SlLaysF0.n6 P Ex)(bE:Ex.f 6=f)(C:Cr P f)(N:K (.tuple #[]) h U):aH P s f [.slice none 0 0,.func (.func BJ) #[] #[]] h U K:=by
 subst bE;refine kI.up ⟨C,λB ai w A Z V E a4=>callsIn_wide.2 ?_⟩ N;obtain⟨_,_,I,M,rfl⟩:∃x y,bF ai _ x/\bF ai _ y/\A=[x,y]:=by
  cases E with|cons I E=>cases E with|cons M E=>cases E;exact⟨_,_,I,M,rfl⟩
 cases I;refine(AnyF.slices_SortFunc_none L none 0 _ w).mono ?_;rintro e ba ⟨rfl,rfl⟩;exact⟨_,h,U,ai,_,rfl,⟨rfl,rfl,rfl⟩,.tuple .nil,cx.refl U Z⟩
end
structure GE where
 f:Nat
 t:Nat
 w:Int
structure nk (n:Nat) (es:aa GE) (s k i:Nat) (l:aa Int):Prop where
 len:l.length=n
 src:l[s]? = some 0
 hd:∀(v:Nat) (x:Int),l[v]? = some x->-1<=x/\x<=k+1
 zero:∀v:Nat,l[v]? = some 0->v=s
 pre:∀(v:Nat) (x:Int),l[v]? = some x->0<x->∃e∈es,e.t=v/\l[e.f]? = some (x-1)
 post:∀(j:Nat) (e:GE),es[j]? = some e->∀x,l[e.f]? = some x->0<=x->(x<k\/(x=k/\j<i))->∃y:Int,l[e.t]? = some y/\0<=y/\y<=x+1
variable {c9:aa GE} {aE:GE}
theorem nk.skip{n:Nat}{es:aa GE}{s k:Nat}{l:aa Int}{e:GE}(h:nk n es s k i l)(Z:es[i]? = some e)(ci:e.t<n)(bv:¬(l[e.f]? = some (k:Int)/\l[e.t]? = some (-1))):nk n es s k (i+1) l :=
 ⟨h.len,h.src,h.hd,h.zero,h.pre,λj L A x M I N=>by
  by_cases hji:j<i
  ·exact h.post j L A x M I J
  ·by_cases Ma:x<k
   ·exact h.post j L A x M I J
   ·have E:j=i:=J
    subst E;rw[Z]at A;cases A;have C:x=k:=J
    subst C;have V:e.t<l.length:=by rw[h.len];omega
    have cd:l[e.t]? = some l[e.t]:=ab
    have bb:=h.hd _ _ cd
    grind⟩
theorem nk.step{n:Nat}{es:aa GE}{s k:Nat}{l:aa Int}{e:GE}(h:nk n es s k i l)(bP:es[i]? = some e)(bE:l[e.f]? = some (k:Int))(ci:l[e.t]? = some (-1)):nk n es s k (i+1) (l.set e.t (k+1)):=by
 have C:∀v,(l.set e.t ((k:Int)+1))[v]? = if v=e.t then some ((k:Int)+1)else l[v]?:=ab
 have I:s≠e.t:=λaW=>by have:=h.src;grind
 refine⟨by rw[E6];exact h.len,by rw[C,if_neg I];exact h.src,λv x A=>?_,λv L=>?_,λv x A E=>?_,λj M Z x A E N=>?_⟩
 ·rw[C]at A
  split at A
  ·grind
  ·exact h.hd v x A
 ·rw[C]at L
  split at L
  ·grind
  ·exact h.zero v L
 ·rw[C]at A
  split at A
  ·grind
  ·obtain⟨M,bp,V,bA⟩:=h.pre v x A E
   grind
 ·rw[C]at A
  split at A
  ·grind
  ·by_cases a1:x<k\/(x=k/\j<i)
   ·obtain⟨y,cd,h1,ap⟩:=h.post j M Z x A E a1
    grind
   grind
theorem nk.next{n:Nat}{es:aa GE}{s k:Nat}{l:aa Int}(h:nk n es s k es.length l):nk n es s (k+1) 0 l :=
 ⟨h.len,h.src,λv x A=>by have:=h.hd v x A;omega,h.zero,h.pre,λj e L x A C E=>by
  have I:j<es.length:=ab
  exact h.post j e L x A C J⟩
theorem nk.init{n:Nat}{es:aa GE}{s:Nat}(aq:s<n):nk n es s 0 0 ((List.replicate n (-1)).set s 0):=by
 refine⟨by simp,ab,ab,ab,λv x C A=>?_,λj e I x C A E=>J⟩
 all_goals grind
theorem Fp{az:Type}[DecidableEq az]:∀(a b:aa az),a.Nodup->(∀x∈a,x∈b)->a.length<=b.length
 | [],_,_,_=>ab
 |x::a,b,C,aq=>by
  have A:=List.nodup_cons.1 C;have:=Fp a (b.erase x) A.2 ab
  grind
structure lr (n:Nat) (es:aa GE) (s:Nat) (l:aa Int):Prop where
 len:l.length=n
 src:l[s]? = some 0
 hd:∀(v:Nat) (x:Int),l[v]? = some x->-1<=x/\x<n
 zero:∀v:Nat,l[v]? = some 0->v=s
 pre:∀(v:Nat) (x:Int),l[v]? = some x->0<x->∃e∈es,e.t=v/\l[e.f]? = some (x-1)
 post:∀e∈es,∀x:Int,l[e.f]? = some x->0<=x->∃y:Int,l[e.t]? = some y/\0<=y/\y<=x+1
theorem FA{es:aa GE}{l:aa Int}(A:∀(v:Nat) (x:Int),l[v]? = some x->0<x->∃e∈es,e.t=v/\l[e.f]? = some (x-1)):∀(m v:Nat),l[v]? = some (m:Int)->∀y,y<=m->(y:Int)∈l
 |0,v,E,y,L=>by
  have:y=0:=J
  subst this
  grind
 |m+1,v,E,y,L=>by
  by_cases e:y=m+1
  ·subst e;grind
  ·obtain⟨I,_,_,C⟩:=A v _ E J;have:((m+1:Nat):Int)-1=(m:Int):=J
   rw[this]at C;exact FA A m I.f C y J
theorem nk.done{n:Nat}{es:aa GE}{s:Nat}{l:aa Int}(h:nk n es s n 0 l):lr n es s l:=by
 have C:∀(v:Nat) (x:Int),l[v]? = some x->-1<=x/\x<n:=λv x A=>by
  have V:=h.hd v x A;refine⟨V.1,?_⟩
  by_cases I:x<0
  ·omega
  ·obtain⟨m,rfl⟩:=xL (by omega:0<=x);have L:=FA h.pre m v A;have E:((List.range (m+1)).map (λy:Nat=>(y:Int))).Nodup:=by refine List.Pairwise.map _ ?_ (Jg );omega
   have:=Fp _ l E ab;simp only[gn,Cb,h.len]at this;omega
 exact⟨h.len,h.src,C,h.zero,h.pre,λe M x A I=>by obtain⟨j,N⟩:=EV M;exact h.post j e N x A I ab⟩
def kE(l:aa Int)(v:Nat)(e:GE):Prop:=e.t=v/\∃x:Int,l[v]? = some x/\0<x/\l[e.f]? = some (x-1)
def mM(es:aa GE)(l:aa Int)(v i:Nat)(p:Int):Prop :=
 (p = -1/\∀e∈es.take i,¬kE l v e)\/∃e∈es.take i,kE l v e/\p=e.f/\∀dK∈es.take i,kE l v dK->e.f<=dK.f
theorem mM.init{es:aa GE}{l:aa Int}{v:Nat}:mM es l v 0 (-1):=.inl ab
theorem Jp{az:Type}{es:aa az}{e x:az}(A:es[i]? = some e):x∈es.take (i+1)↔x∈es.take i\/x=e:=by rw[ho,A];simp
theorem mM.skip{es:aa GE}{l:aa Int}{v:Nat}{p:Int}{e:GE}(h:mM es l v i p)(C:es[i]? = some e)(N:¬(kE l v e/\(p = -1\/(e.f:Int)<p))):mM es l v (i+1) p:=by
 rcases h with⟨rfl,h⟩|⟨aE,M,L,rfl,E⟩
 ·refine .inl ⟨rfl,λx A=>?_⟩;rcases(Jp C).1 A with A|rfl
  all_goals grind
 ·refine .inr ⟨aE,ab,L,rfl,λx A I=>?_⟩;rcases(Jp C).1 A with A|rfl
  all_goals grind
theorem mM.step{es:aa GE}{l:aa Int}{v:Nat}{p:Int}{e:GE}(h:mM es l v i p)(A:es[i]? = some e)(M:kE l v e)(N:p = -1\/(e.f:Int)<p):mM es l v (i+1) e.f:=by
 refine .inr ⟨e,(Jp A).2 ab,M,rfl,λx C L=>?_⟩;rcases(Jp A).1 C with C|rfl
 ·rcases h with⟨rfl,h⟩|⟨aE,V,E,rfl,I⟩
  all_goals grind
 omega
def qK(es:aa GE)(l:aa Int)(n:Nat)(p:aa Int):Prop:=p.length=n/\∀(v:Nat) (x:Int),p[v]? = some x->mM es l v es.length x
def cX(e:GE):aa X:=[(e.f:X),(e.t:X),(e.w:X)]
def gT(n:Nat)(g:GE):Prop:=g.f<n/\g.t<n/\0<=g.w/\g.w<=2147483647
def DT(k n:Int):Int:=if n<1\/k<0 then 0 else k.tmod n
theorem Kn{k n:Int}:∃m:Nat,DT k n=(m:Int)/\(0<n->(m:Int)<n):=by
 unfold DT
 split
 ·exact⟨0,rfl,J⟩
 ·rename_i h
  have h1:0<=k:=J
  have ap:0<n:=J
  refine⟨(k.tmod n).toNat,?_,λ_=>?_⟩
  ·rw[Int.toNat_of_nonneg (Int.tmod_nonneg n h1)]
  ·rw[Int.toNat_of_nonneg (Int.tmod_nonneg n h1)];exact Int.tmod_lt_of_pos k ap
theorem Ko{P:Program}{k:IntKind}{b:Int}(A:b≠0):bin P .rem t (.int k a) (.int k b) = .ok (.int k (a.tmod b)):=by rw[sn _ _ _ _ _ rfl];show(bif f2 b 0 then _ else _)=_;rw[kT,show(b == 0)=false by grind];rfl
theorem abc{P:Program}{b:Int}:bin P .and t (a:X) (b:X) = .ok (.int .i64 (IntKind.wrap .i64 ((BitVec.ofInt 64 a &&& BitVec.ofInt 64 b).toNat))):=by rw[sn _ _ _ _ _ rfl];rfl
theorem aqn(a:Int):∃w:Int,IntKind.wrap .i64 ((BitVec.ofInt 64 a &&& BitVec.ofInt 64 2147483647).toNat:Int)=w/\0<=w/\w<=2147483647:=by
 have h1:(BitVec.ofInt 64 a &&& BitVec.ofInt 64 2147483647).toNat<=2147483647:=by rw[BitVec.toNat_and];exact Nat.and_le_right
 refine⟨_,rfl,?_⟩;rw[Ay J J];omega
theorem d1.form{az:Type}{enc:az->aa X}{k:Nat}{l:aa az}(aq:d1 h v enc k l ao aj):∃a n c,v = .slice a n c:=by
 rcases aq with⟨_,rfl⟩|⟨_,_,_,rfl,_⟩ <;> grind
theorem d1.T{az:Type}{enc:az->aa X}{k:Nat}{l:aa az}(aq:d1 h v enc k l ao aj)(C:∀b,ao<=b->b<aj->u ac b=u h b)(E:aj<=dm):d1 ac v enc k l ao dm:=by
 rcases aq with aq|⟨b,h1,ap,e,A⟩
 ·exact .inl aq
 ·exact .inr ⟨b,h1,J,e,ab⟩
set_option linter.defProp false
section
variable {P:Program}  {s:al}
theorem Dt{b:al}{p q:Prop}:bu (.bool b) p q↔(b=true->p)/\(b=false->q):=by
 cases b <;> simp[bu]
theorem afk{b:kM}{h:ae}{U:Nat}{k:X->ae->Nat->Prop}:dS (.ok b) h U k↔k (wW U b) (F h U (sA b)) (U+1):=Iff.rfl
theorem Lx{v:X}{h:ae}{U:Nat}{k:X->ae->Nat->Prop}:dD (.val v h U) k↔k v h U:=Iff.rfl
theorem yo{f:FuncId}{l:aa X}{h:ae}{U:Nat}{k:X->ae->Nat->Prop}:fh P s (.call f l h U) k↔aH P s f l h U k:=Iff.rfl
theorem afl{f:ae->R X}{v:X}{p:Prop}{aq:aa ae}:oT f v p 0 aq↔p:=Iff.rfl
theorem afm{f:ae->R X}{v:X}{p:Prop}{h:ae}{aq:aa ae}:oT f v p 1 (h::aq)↔nd v (f h)=true/\p:=Iff.rfl
theorem afn{f:ae->R X}{v:X}{p:Prop}{h h1:ae}{aq:aa ae}:oT f v p 2 (h::h1::aq)↔nd v (f h)=true/\nd v (f h1)=true/\p:=Iff.rfl
theorem afo{f:ae->R X}{v:X}{p:Prop}{h h1 ap:ae}{aq:aa ae}:oT f v p 3 (h::h1::ap::aq)↔nd v (f h)=true/\nd v (f h1)=true/\nd v (f ap)=true/\p:=Iff.rfl
def CS{e6:Type}(o:aw fJ)(k:aa X->al->R e6):R e6:=match o with
 |some (.cells cs ro)=>k cs ro
 |some _=>.no "cells expected"
 |none=>.no "no such block"
theorem JB{e6:Type}(h:ae)(b:Nat)(k:aa X->al->R e6):cellsOf h b k=CS (u h b) k:=by
 unfold cellsOf CS;cases u h b with
 |none=>rfl
 |some o=>cases o <;> rfl
theorem FP{e6:Type}(cs:aa X)(ro:al)(k:aa X->al->R e6):CS (some (.cells cs ro)) k=k cs ro:=rfl
theorem K2(A:aw Nat)(h:ae)(a:Addr):iM A h (.pointer (some a))=CS (u h a.block) (λcs _=>hV A a.off cs):=JB _ _ _
theorem abd(off b o:Nat)(aS:aw Nat):Av off (.pointer (some ⟨b,o,aS⟩)) = .ok (.pointer (some ⟨b,o+off,none⟩)):=rfl
theorem RS(k:wV)(x:X)(t:IntKind)(n:Nat):im k x (.int t (n:Int))=xX k x n:=rfl
theorem awM(k:wV)(x:X)(t:IntKind):im k x (.int t 0)=xX k x 0:=rfl
theorem awN(k:wV)(x:X)(t:IntKind):im k x (.int t 1)=xX k x 1:=rfl
theorem abe(a b:X):GP (.bool true) a b = .ok a:=rfl
theorem abf(a b:X):GP (.bool false) a b = .ok b:=rfl
theorem at6(h:ae)(n:Nat)(l:aa X)(a:Addr):Tc h n l a=if l.length=n then qq h a.block a.off l else .no "store - size" := by
 unfold Tc;rw[oD]
 by_cases e:l.length=n
 ·rw[if_pos e,e,uC];rfl
 ·rw[if_neg e];cases A:Nat.beq l.length n with
  |true=>exact absurd (gm A) e
  |false=>rfl
theorem O5{l:aa X}{n:Nat}(A:n+aF.length<=l.length):nh aF l n=some (l.take n++aF++l.drop (n+aF.length)):=by rw[tp,if_pos A,kA]
theorem Js{l:aa X}(C:u h b=some (.cells cs false))(E:ee l=true)(A:off+l.length<=cs.length):qq h b off l = .ok (F h b (.cells (cs.take off++l++cs.drop (off+l.length)) false)):=by unfold qq;rw[JB,C,FP,E,O5 A];rfl
theorem afp(h:ae)(n:Nat)(a:Addr)(x:X):aU h n (.pointer (some a)) x=if(dj x).length=n then qq h a.block a.off (dj x)else .no "store - size" := at6 _ _ _ _
theorem agL(x:X)(l:aa X):a8 (x::l) 0=x:=rfl
theorem agM(x:X)(l:aa X)(i:Nat):a8 (x::l) (i+1)=a8 l i:=rfl
theorem at7(h:ae)(r:Nat):wK h (.map (some r))=kW h r (λes _=>iZ .i64 (.ofNat (jr es))):=rfl
theorem adl(k:IntKind)(a b:Int):min2 true (.int k a) (.int k b) = .ok (.int k (min a b)):=by
 show(bif mm k k then iZ k (bif lk b a then b else a)else _)=_;rw[wg,re]
 by_cases h:b<a
 ·simp[h,iZ,Int.min_def] <;> omega
 ·simp[h,iZ,Int.min_def] <;> omega
theorem adm(k:IntKind)(a b:Int):min2 false (.int k a) (.int k b) = .ok (.int k (max a b)):=by
 show(bif mm k k then iZ k (bif lk a b then b else a)else _)=_;rw[wg,re]
 by_cases h:a<b
 ·simp[h,iZ,Int.max_def] <;> omega
 ·simp[h,iZ,Int.max_def] <;> omega
theorem bC.mk{B:om}{E:aa (Nat × aP)}{R:aP}(eC:Nat->aa X->ae->Nat->Prop)(m:Nat)(C:eC m aF h U)(aq:∀m aF h U,eC m aF h U->B aF h U (λaF h U=>∃A,A<m/\eC A aF h U) E R):bC B aF h U E R:=⟨eC,m,C,aq⟩
def s1:=And.intro @yn (And.intro @afj (And.intro @Dt (And.intro @afk (And.intro @Lx (And.intro @yo (And.intro @afl (And.intro @afm (And.intro @afn @afo))))))))
def fx:=And.intro @PV (And.intro @aa3 (And.intro @Kl (And.intro @aa4 (And.intro @aa5 (And.intro @aa6 (And.intro @aa7 (And.intro @aa8 (And.intro @adg (And.intro @Zb (And.intro @adl @adm))))))))))
def gD:=And.intro @FP (And.intro @K2 (And.intro @abd (And.intro @RS (And.intro @awM (And.intro @awN (And.intro @abe (And.intro @abf (And.intro @afp (And.intro @XP (And.intro @XQ (And.intro @W3 (And.intro @W2 (And.intro @Wh (And.intro @Ge (And.intro @fd (And.intro @W4 (And.intro @XR (And.intro @Y9 (And.intro @Oz @Za)))))))))))))))))))
def gg:=And.intro @agL (And.intro @agM (And.intro @aa9 (And.intro @aba (And.intro @XV (And.intro @XW (And.intro @adi (And.intro @Zd (And.intro @adj (And.intro @abb (And.intro @adk (And.intro @XX (And.intro @W8 (And.intro @WG (And.intro @XY (And.intro @XZ @q9)))))))))))))))
end
abbrev gk:=aw Nat × Nat
def y2(s:gk):X:=match s.1 with
 |none=>.slice none 0 0
 |some b=>.slice (some ⟨b,0,some 1⟩) s.2 s.2
def eK(s:gk):aa X:=[y2 s]
def t0(l:aa gk):aa X:=l.map y2
variable {gX:aa gk}
theorem abg{l:aa gk}{x:gk}(h:l[i]? = some x):(t0 l)[i]? = some (y2 x):=by simp[t0,h]
theorem aqo(l:aa gk):(t0 l).length=l.length:=by simp[t0]
theorem aqp(l:aa gk)(i:Nat)(x:gk):(t0 l).set i (y2 x)=t0 (l.set i x):=by simp[t0,List.map_set]
section
variable {az:Type}
inductive fa (h:ae) (enc:az->List Value) (k:Nat):Value->List az->Option Nat->Prop where
 |nil:fa h enc k (.slice none 0 0) [] none
 |own {b:Nat} {l:List az} (aO:u h b=some (.cells (bd enc l) false)):fa h enc k (.slice (some ⟨b,0,some k⟩) l.length l.length) l (some b)
 |part {b o:Nat} {l:List az} {cs:List Value} {ro:Bool} (aO:u h b=some (.cells cs ro)) (bA:o+l.length*k<=cs.length) (a1:(cs.drop o).take (l.length*k)=bd enc l):fa h enc k (.slice (some ⟨b,o,none⟩) l.length l.length) l (some b)
theorem fa.T{enc:az->aa X}{k:Nat}{l:aa az}(g:fa h enc k v l o)(C:∀b,o=some b->u ac b=u h b):fa ac enc k v l o:=by
 cases g with
 |nil=>exact .nil
 |own A=>exact .own ab
 |part A E I=>exact .part (by rw[C _ rfl];omega) E I
theorem fa.lens{enc:az->aa X}{k:Nat}{l:aa az}(g:fa h enc k v l o):AI v = .ok (l.length:X):=by
 cases g <;> rfl
theorem abh(n:Nat):Nat.ble (n+1) n=false:=by
 cases A:Nat.ble (n+1) n with
 |false=>rfl
 |true=>have:=ma A;omega
theorem fa.app{enc:az->aa X}{k:Nat}(V:∀x,(enc x).length=k)(L:∀x,ee (enc x)=true)(A:0<k){l:aa az}(g:fa h enc k v l o){I:aa X}{N:al}{x:az}(ap:u h bQ=some (.cells I N))(aY:(I.drop dP).take k=enc x)(Z:(l.length+1)*k<=1000000):
  ∃ac,dM k h U v (.slice (some ⟨bQ,dP,k3⟩) 1 ry) = .ok (.val (.slice (some ⟨U,0,some k⟩) (l.length+1) (l.length+1)) ac (U+1))/\u ac U=some (.cells (bd enc (l++[x])) false) /\
   (∀c,c≠U->o≠some c->u ac c=u h c):=by
 have C:k<=I.length-dP:=ab
 have h1:l.length+1<=1000000:=h7 (by have:=B6 (l.length+1) A;omega) Z;have M:(Nat.ble (Nat.mul (Nat.add l.length 1) k) 1000000&&Nat.ble (Nat.add l.length 1) 1000000)=true:=by
  simp only[eB,tg]
  grind
 cases g with
 |nil =>
  refine⟨F h U (.cells (enc x) false),?_,by simp[bd],ab⟩;unfold dM;simp only;rw[xT,uD,tn ap A C,aY];unfold g0;rw[show Nat.ble (Nat.add 0 1) 0=false from rfl];have M:(Nat.ble (Nat.mul (Nat.add 0 1) k) 1000000&&Nat.ble (Nat.add 0 1) 1000000)=true:=M;rw[M];exact rf A
 | @own b _ aO =>
  refine⟨F (yy h b) U (.cells (bd enc l++enc x) false),?_,by simp[se],λc a1 eS=>by rw[mq,if_neg a1,mT,if_neg (λe=>eS (by rw[e]))]⟩
  unfold dM;simp only;rw[xT,uD,tn ap A C,aY];unfold g0;rw[show Nat.ble (Nat.add l.length 1) l.length=false from abh _,M];show rq h U k (some ⟨b,0,some k⟩) l.length l.length (l.length+1) (enc x)=_;unfold rq;simp only[v8 aO];have E:ni (Nat.mul l.length k) (nc (bd enc l) 0)=some (bd enc l):=by rw[sd,pk,ri,if_pos (by rw[gc V];grind)];rw[q3 (by rw[gc V];grind)]
  rw[E];have cf:(!false&&Nat.beq 0 0&&Nat.beq (jr (bd enc l)) (Nat.mul l.length k)&&Nat.beq k k&&Nat.beq l.length l.length&&ee (enc x))=true:=by rw[oD,gc V,L];simp
  show(bif _ then _ else _)=_;rw[cf,kh];exact rf A
 | @part b o _ cs ro aO bA a1 =>
  refine⟨F h U (.cells (bd enc l++enc x) false),?_,by simp[se],ab⟩;unfold dM;simp only;rw[xT,uD,tn ap A C,aY];unfold g0;rw[show Nat.ble (Nat.add l.length 1) l.length=false from abh _,M];unfold rq;simp only[v8 aO];have E:ni (Nat.mul l.length k) (nc cs o)=some (bd enc l):=by
   rw[sd,ri,if_pos ab]
   grind
  rw[E];show qw h U k (kD (bd enc l) (enc x)) _=_;rw[kh];exact rf A
end
theorem dR{az:Type}{l:aa az}(h:i<l.length):∃x,l[i]? = some x:=⟨_,oB h⟩
section
variable {e6:Type}
end
structure o1 (h:ae) (aQ ao aj:Nat) (gX:aa gk) (od:aa (aa Nat)):Prop where
 at_:u h aQ=some (.cells (t0 gX) false)
 Bf:aQ<aj
 len:gX.length=od.length
 each:∀(j:Nat) (s:gk) (g:aa Nat),gX[j]? = some s->od[j]? = some g->(g=[]/\s=(none,0))\/∃b,ao<=b/\b<aj/\s=(some b,g.length)/\u h b=some (.cells (gA (lM g)) false)
 apart:∀(j k b vM Ez:Nat),gX[j]? = some (some b,vM)->gX[k]? = some (some b,Ez)->j=k
 other:∀(j vM:Nat),gX[j]?≠some (some aQ,vM)
theorem o1.T{aQ:Nat}(L:o1 h aQ ao aj gX od)(A:u ac aQ=u h aQ)(N:∀b,ao<=b->b<aj->u ac b=u h b)(I:aj<=dm):o1 ac aQ ao dm gX od where
 at_:=by rw[A];exact L.at_
 Bf:=by have:=L.Bf;omega
 len:=L.len
 each:=λj s g aq C=>by
  rcases L.each j s g aq C with V|⟨b,E,M,e,Z⟩
  all_goals grind
 apart:=L.apart
 other:=L.other
theorem o1.lower{aQ:Nat}(L:o1 h aQ ao aj gX od)(E:d2<=ao):o1 h aQ d2 aj gX od :=
 ⟨L.at_,L.Bf,L.len,λj s g aq A=>by
  rcases L.each j s g aq A with M|⟨b,C,I,e,N⟩
  all_goals grind,L.apart,L.other⟩
theorem o1.below{aQ:Nat}(L:o1 h aQ ao aj gX od){I:Nat}(M:gX[j]? = some (some b,I)):ao<=b/\b<aj:=by
 have A:od[j]? = some (od[j]'(by rw[<-L.len];grind)):=ab
 rcases L.each j _ _ M A with⟨_,C⟩|⟨Z,E,N,C,V⟩
 all_goals grind
theorem o1.hl{aQ:Nat}(L:o1 h aQ ao aj gX od){s:gk}(aq:gX[j]? = some s)(A:od[j]? = some g):fa h cq 1 (y2 s) (lM g) s.1:=by
 rcases L.each j s g aq A with⟨rfl,rfl⟩|⟨b,E,C,rfl,I⟩
 ·exact .nil
 ·have:=fa.own  (k:=1)    (by rw[hM];omega);rwa[zY]at this
theorem o1.add{aQ q v:Nat}{s:gk}(L:o1 h aQ ao U gX od)(tT:ao<=U)(HK:U<Y)(aq:gX[q]? = some s)(a9:od[q]? = some g)(aT:u ac U=some (.cells (gA (lM (g++[v]))) false))(V:∀c,c<U->s.1≠some c->u ac c=u h c):
  u ac aQ=some (.cells (t0 gX) false)/\o1 (F ac aQ (.cells (t0 (gX.set q (some U,g.length+1))) false)) aQ ao Y (gX.set q (some U,g.length+1)) (od.set q (g++[v])):=by
 have dt:=ai5 aq;have Z:=L.Bf;have M:=V aQ Z (λe=>by obtain⟨kv,kb⟩:=s;have e:kv=some aQ:=e;subst e;exact L.other q kb aq)
 refine⟨M.trans L.at_,⟨by simp,J,by simp[L.len],λj lx ck A E=>?_,λj k b vM Ez bZ hk=>?_,λj vM bZ=>?_⟩⟩
 ·rw[vY]at A E
  by_cases C:q=j
  ·subst C;rw[if_pos rfl,if_pos dt]at A;rw[if_pos rfl,if_pos ab]at E;cases A;cases E;exact ab
  ·rw[if_neg C]at A E;rcases L.each j lx ck A E with au|⟨b,hR,Z,rfl,aO⟩
   ·grind
   ·refine .inr ⟨b,hR,J,rfl,?_⟩;have yS:b≠aQ:=λe=>by subst e;exact L.other j _ A
    rw[mq,if_neg yS,V b J λe=>by obtain⟨kv,kb⟩:=s;have e:kv=some b:=e;subst e;exact C (L.apart q j b _ _ aq A)]
    omega
 ·have get:∀(j n:Nat),(gX.set q (some U,g.length+1))[j]? = some (some b,n)->(j=q/\b=U)\/(j≠q/\gX[j]? = some (some b,n)):=ab
  rcases get j vM bZ with⟨rfl,aW⟩|⟨_,N⟩
  ·rcases get k Ez hk with⟨rfl,_⟩|⟨_,I⟩
   ·rfl
   ·have:=(L.below I).2;omega
  ·rcases get k Ez hk with⟨rfl,aW⟩|⟨_,I⟩
   ·have:=(L.below N).2;omega
   ·exact L.apart j k b vM Ez N I
 ·rw[vY]at bZ
  by_cases C:q=j
  ·grind
  ·rw[if_neg C]at bZ;exact L.other j vM bZ
section
variable {P:Program}  {s:al}
theorem cv(h:i<1000000000000):IntKind.wrap .i64 ((i:Int)+1)=((i+1:Nat):Int):=by rw[Ay J J];simp
theorem aT(h:ae)(b:Nat)(o:fJ):u (F h b o) b=some o:=by rw[mq,if_pos rfl]
theorem ar{h:ae}{b c:Nat}{o:fJ}(e:c≠b):u (F h b o) c=u h c:=by rw[mq,if_neg e]
theorem ako(l:aa X):F4 l=if ee l=true then .ok (.ptr (.cells l false))else .no "cells" := by
 unfold F4
 grind
theorem aiv(x:X)(l:aa X):ee (x::l)=(gZ x&&ee l):=by rw[q9]
theorem X0(l:aa X)(a b:Nat):wl l a b=if ee l=true then .ok (.slice (.cells l false) a b)else .no "cells" := by
 unfold wl
 grind
theorem SC{t:IntKind}{n i b o cap z:Nat}{aS:aw Nat}(aj:i<n):im (.slice z) (.slice (some ⟨b,o,aS⟩) n cap) (.int t (i:Int)) = .ok (.pointer (some ⟨b,o+i*z,none⟩)):=by rw[RS,XP,if_pos aj]
theorem SD{t:IntKind}{n i b o z:Nat}{aS:aw Nat}(aj:i<n):im (.array n z) (.pointer (some ⟨b,o,aS⟩)) (.int t (i:Int)) = .ok (.pointer (some ⟨b,o+i*z,none⟩)):=by rw[RS,XQ,if_pos aj]
theorem awO{t:IntKind}{n b o cap z:Nat}{aS:aw Nat}(aj:0<n):im (.slice z) (.slice (some ⟨b,o,aS⟩) n cap) (.int t 0) = .ok (.pointer (some ⟨b,o,none⟩)):=by
 have:=SC (t:=t) (b:=b) (o:=o) (cap:=cap) (aS:=aS) (z:=z)  aj
 grind
theorem awP{t:IntKind}{n b o z:Nat}{aS:aw Nat}(aj:0<n):im (.array n z) (.pointer (some ⟨b,o,aS⟩)) (.int t 0) = .ok (.pointer (some ⟨b,o,none⟩)):=by
 have:=SD (t:=t) (b:=b) (o:=o) (aS:=aS) (z:=z)  aj
 grind
theorem awQ{t:IntKind}{n b o cap z:Nat}{aS:aw Nat}(aj:1<n):im (.slice z) (.slice (some ⟨b,o,aS⟩) n cap) (.int t 1) = .ok (.pointer (some ⟨b,o+z,none⟩)):=by
 have:=SC (t:=t) (b:=b) (o:=o) (cap:=cap) (aS:=aS) (z:=z)  aj
 grind
theorem awR{t:IntKind}{n b o z:Nat}{aS:aw Nat}(aj:1<n):im (.array n z) (.pointer (some ⟨b,o,aS⟩)) (.int t 1) = .ok (.pointer (some ⟨b,o+z,none⟩)):=by
 have:=SD (t:=t) (b:=b) (o:=o) (aS:=aS) (z:=z)  aj
 grind
def j4(o:aw fJ)(h:ae)(b off:Nat)(l:aa X):R ae:=match o with
 |some (.cells cs false)=>bif ee l then R.of "write - out of block" (nh l cs off) (λcs=>.ok (F h b (.cells cs false)))else .no "write - cells"
 |_=>.no "write"
theorem awS{h:ae}{n:Nat}{a:Addr}{x:X}{k:ae->Prop}:af (aU h n (.pointer (some a)) x) k↔(dj x).length=n/\af (j4 (u h a.block) h a.block a.off (dj x)) k:=by
 rw[afp]
 by_cases A:(dj x).length=n
 case neg=>rw[if_neg A];exact⟨λh=>h.elim,λh=>A h.1⟩
 rw[if_pos A];refine Iff.trans ?_ (and_iff_right A).symm;unfold qq j4;rw[JB];cases u h a.block with
 |none=>exact Iff.rfl
 |some o =>
  cases o with
  |cells cs ro =>
   rw[FP];cases ro with
   |true=>exact Iff.rfl
   |false=>grind
  |_=>exact Iff.rfl
theorem awT{h:ae}{b off:Nat}{cs:aa X}{v:X}{k:ae->Prop}:af (j4 (some (.cells cs false)) h b off [v]) k↔gZ v=true/\off<cs.length/\k (F h b (.cells (cs.set off v) false)):=by
 show af (bif ee [v]then R.of _ (nh [v] cs off) _ else _) k↔_;rw[q9,tp];cases C:gZ v with
 |false=>exact⟨λh=>h.elim,λh=>by cases h.1⟩
 |true =>
  by_cases A:off<cs.length
  ·rw[if_pos ab,Wb,if_pos A];exact⟨λh=>⟨rfl,A,h⟩,λh=>h.2.2⟩
  ·rw[if_neg ab];exact⟨λh=>h.elim,λh=>A h.2.1⟩
theorem Aj{l:aa X}{k:ae->Prop}:af (j4 (some (.cells cs false)) h b off l) k↔ee l=true/\off+l.length<=cs.length/\k (F h b (.cells (cs.take off++l++cs.drop (off+l.length)) false)):=by
 show af (bif ee l then R.of _ (nh l cs off) _ else _) k↔_;rw[tp];cases C:ee l with
 |false=>exact⟨λh=>h.elim,λh=>by cases h.1⟩
 |true =>
  by_cases A:off+l.length<=cs.length
  ·rw[if_pos A,<-kA];exact⟨λh=>⟨rfl,A,h⟩,λh=>h.2.2⟩
  ·rw[if_neg A];exact⟨λh=>h.elim,λh=>A h.2.1⟩
theorem awU{h:ae}{b:Nat}{cs l:aa X}{x y:X}{k:ae->Prop}:af (j4 (some (.cells cs false)) h b 0 (x::y::l)) k↔ee (x::y::l)=true/\(x::y::l).length<=cs.length/\k (F h b (.cells (x::y::l++cs.drop (x::y::l).length) false)):=by rw[Aj];simp
theorem K3{l:aa X}(C:ee l=true)(A:off+l.length<=cs.length):j4 (some (.cells cs false)) h b off l = .ok (F h b (.cells (cs.take off++l++cs.drop (off+l.length)) false)):=by show(bif ee l then R.of _ (nh l cs off) _ else _)=_;rw[O5 A,C];rfl
theorem at8(t:TypeId)(v:X):dj (.iface t v)=[.iface t v]:=rfl
theorem at9(r:aw Nat):dj (.map r)=[.map r]:=rfl
theorem awV(f:Fn)(a b:Array X):dj (.func f a b)=[.func f a b]:=rfl
theorem awW:dj .nilFunc=[.nilFunc]:=rfl
theorem akp(r:aw Nat):gZ (.map r)=true:=rfl
theorem ai6(f:Fn)(a b:Array X):gZ (.func f a b)=true:=rfl
theorem amI:gZ .nilFunc=true:=rfl
theorem aqq(U:Nat):wW U .map = .map (some U):=rfl
theorem aqr:sA .map = .map [] 0:=rfl
theorem akq(c:aa X):py [] c = .ok c:=rfl
theorem aqs(off z:Nat)(x:X)(A:aa (Nat × Nat × X))(c:aa X):py ((off,z,x)::A) c=rn (py A) off z (dj x) c:=rfl
theorem O6{C:aa X->R (aa X)}{off:Nat}{v:X}{c:aa X}:rn C off 1 [v] c=if off<c.length then C (c.set off v)else .no "fill" := by
 show(bif Nat.beq (jr [v]) 1 then R.of "fill" (nh [v] c off) C else _)=_;rw[oD,tp]
 by_cases A:off<c.length
 ·rw[if_pos A,if_pos ab,Wb,if_pos A];rfl
 ·rw[if_neg A,if_neg ab];rfl
theorem JV{A:aa X->R (aa X)}{n:Nat}{l:aa X}(C:l.length=n)(E:off+n<=c.length):rn A off n l c=A (c.take off++l++c.drop (off+n)):=by show(bif Nat.beq (jr l) n then R.of "fill" (nh l c off) A else _)=_;rw[oD,C,uC,O5 J,C];rfl
theorem aua(z:aa X)(b7:aa (Nat × Nat × X)):cU z b7=R.bind (py b7 z) (λl=>.ok (.agg ⟨l⟩)):=rfl
theorem aub(n:Nat)(z:aa X)(b7:aa (Nat × Nat × X)):eV n z b7=R.bind (py b7 z) (λl=>wl l n n):=rfl
theorem ai7{n off:Nat}{x:X}{cs:aa X}:hV (some n) off (x::cs)=if n<=(x::cs).length-off then .ok (.agg ⟨((x::cs).drop off).take n⟩)else .no "load - out of block" := pq n off (x::cs)
theorem rm{c2:Nat}{l:aa Int}{x:Int}{k:X->ae->Nat->Prop}(g:fa h cq 1 v l o)(ap:u h bQ=some (.cells [(x:X)] ro))(I:l.length<1000000)(C:∀ac,u ac U=some (.cells (gA (l++[x])) false)->(∀c,c≠U->o≠some c->u ac c=u h c)->k (.slice (some ⟨U,0,some 1⟩) (l.length+1) (l.length+1)) ac (U+1)):
  dD (dU (dM 1 h U v (.slice (some ⟨bQ,0,k3⟩) 1 c2))) k:=by obtain⟨ac,e,A,E⟩:=g.app (k:=1) (λ_=>rfl) (λ_=>rfl) Nat.zero_lt_one  (dP:=0)   ap  rfl J;rw[hM]at A;rw[e];exact C ac A E
theorem aqt(n:Nat)(z:aa X):gI n z=(List.replicate n z).flatten:=by
 induction n with
 |zero=>rfl
 |succ n A=>show kD z (gI n z)=_;rw[kh,A,EZ,List.flatten_cons]
theorem amJ(n:Nat)(v:X):gI n [v]=List.replicate n v:=by
 induction n with
 |zero=>rfl
 |succ n A=>show kD [v] (gI n [v])=_;rw[kh,A];rfl
theorem akr{n:Nat}(h:gZ v=true):ee (List.replicate n v)=true:=by
 induction n with
 |zero=>rfl
 |succ n A=>rw[EZ,q9,h,A];rfl
theorem RT{n:Nat}{t:IntKind}(C:n<=100000)(A:gZ v=true):sr [v] (.int t (n:Int)) (.int mB (n:Int)) = .ok (.slice (.cells (List.replicate n v) false) n n):=by show(bif Nat.ble n n&&Nat.ble n 100000 then wl (gI n [v]) n n else _)=_;rw[show(Nat.ble n n&&Nat.ble n 100000)=true by simp[C],amJ];show wl _ _ _=_;rw[X0,if_pos (akr A)]
theorem awX{n:Nat}{t mB:IntKind}{x:Int}{A:IntKind}(C:n<=100000):sr [.int A x] (.int t (n:Int)) (.int mB (n:Int)) = .ok (.slice (.cells (List.replicate n (.int A x)) false) n n):=RT C rfl
theorem awY{n:Nat}{t mB:IntKind}{c d:Nat}(A:n<=100000):sr [.slice none c d] (.int t (n:Int)) (.int mB (n:Int)) = .ok (.slice (.cells (List.replicate n (.slice none c d)) false) n n):=RT A rfl
theorem awZ{n:Nat}{t mB:IntKind}{b:al}(A:n<=100000):sr [.bool b] (.int t (n:Int)) (.int mB (n:Int)) = .ok (.slice (.cells (List.replicate n (.bool b)) false) n n):=RT A rfl
theorem aqu(k:IntKind)(n:Int):nd (.int k n) (.ok (.int k n))=true:=sc k n
theorem aqv(b:al):nd (.bool b) (.ok (.bool b))=true:=xY b
theorem aqw(a:Addr)(n c:Nat):nd (.slice (some a) n c) (.ok (.slice (some a) n c))=true:=th a n c
theorem aqx(n c:Nat):nd (.slice none n c) (.ok (.slice none n c))=true:=by simp[nd,oK,qu]
theorem aqy(a:aw Addr)(n c:Nat):nd (.slice a n c) (.ok (.slice a n c))=true:=th a n c
theorem aqz(a:Addr):nd (.pointer (some a)) (.ok (.pointer (some a)))=true:=WH a
theorem amK{A:aa X->R (aa X)}{off:Nat}{x y:X}{c:aa X}:rn A off 2 [x,y] c=if off+2<=c.length then A (c.take off++x::y::c.drop (off+2))else .no "fill" := by
 by_cases h:off+2<=c.length
 ·rw[if_pos h,JV (n:=2)  rfl h];simp
 ·rw[if_neg h];show(bif Nat.beq (jr [x,y]) 2 then R.of "fill" (nh [x,y] c off) A else _)=_;rw[tp,if_neg J];rfl
theorem amL{A:aa X->R (aa X)}{off:Nat}{x y z:X}{c:aa X}:rn A off 3 [x,y,z] c=if off+3<=c.length then A (c.take off++x::y::z::c.drop (off+3))else .no "fill" := by
 by_cases h:off+3<=c.length
 ·rw[if_pos h,JV (n:=3)  rfl h];simp
 ·rw[if_neg h];show(bif Nat.beq (jr [x,y,z]) 3 then R.of "fill" (nh [x,y,z] c off) A else _)=_;rw[tp,if_neg J];rfl
theorem amM{A:aa X->R (aa X)}{off:Nat}{x y z w:X}{c:aa X}:rn A off 4 [x,y,z,w] c=if off+4<=c.length then A (c.take off++x::y::z::w::c.drop (off+4))else .no "fill" := by
 by_cases h:off+4<=c.length
 ·rw[if_pos h,JV (n:=4)  rfl h];simp
 ·rw[if_neg h];show(bif Nat.beq (jr [x,y,z,w]) 4 then R.of "fill" (nh [x,y,z,w] c off) A else _)=_;rw[tp,if_neg J];rfl
theorem abi{h:ae}{U:Nat}{f:FuncId}{aF a b:aa X}:hP h U aF (.func (.func f) ⟨a⟩ ⟨b⟩) = .call f (a++(aF++b)) h U:=by show fq.call f (kD a (kD aF b)) h U=_;rw[kh,kh]
theorem aw0{P:Program}{s:al}{f:FuncId}{aF:aa X}{h:ae}{U:Nat}{k:X->ae->Nat->Prop}:fh P s (hP h U aF (.func (.func f) #[] #[])) k↔aH P s f aF h U k:=by rw[abi,te,h6];exact Iff.rfl
theorem aqA(l:aa X):nd (.agg ⟨l⟩) (.ok (.agg ⟨l⟩))=qv l l:=rfl
theorem aqB(k:IntKind)(n:Int):qu (.int k n) (.int k n)=true:=sc k n
theorem aqC(a:aw Addr)(n c:Nat):qu (.slice a n c) (.slice a n c)=true:=th a n c
theorem aqD(b:al):qu (.bool b) (.bool b)=true:=xY b
def Vt:=And.intro @yn (And.intro @afj (And.intro @Dt (And.intro @afk (And.intro @Lx (And.intro @Bool.true_and (And.intro @Bool.not_false (And.intro @Bool.not_true (And.intro @Bool.false_eq_true (And.intro @Bool.true_eq_false (And.intro @false_implies (And.intro @true_implies (And.intro @aqo (And.intro @ints_set (And.intro @yo (And.intro @afl (And.intro @afm (And.intro @afn (And.intro @afo (And.intro @PV (And.intro @aa3 (And.intro @Kl (And.intro @aa4 (And.intro @aa5 (And.intro @aa6 (And.intro @aa7 (And.intro @aa8 (And.intro @adg (And.intro @Zb (And.intro @adl (And.intro @adm (And.intro @agL (And.intro @agM (And.intro @aa9 (And.intro @aba (And.intro @XV (And.intro @XW (And.intro @adi (And.intro @Zd (And.intro @adj (And.intro @abb (And.intro @adk (And.intro @XX (And.intro @W8 (And.intro @WG (And.intro @XY (And.intro @XZ (And.intro @aiv (And.intro @aT (And.intro @ar (And.intro @ako (And.intro @X0 (And.intro @SC (And.intro @SD (And.intro @awO (And.intro @awP (And.intro @awQ (And.intro @awR (And.intro @awS (And.intro @awT (And.intro @awU (And.intro @at8 (And.intro @at9 (And.intro @awW (And.intro @awV (And.intro @akp (And.intro @ai6 (And.intro @amI (And.intro @aqq (And.intro @aqr (And.intro @akq (And.intro @aqs (And.intro @O6 (And.intro @aua (And.intro @aub (And.intro @ai7 (And.intro @awX (And.intro @awY (And.intro @awZ (And.intro @aqu (And.intro @aqv (And.intro @aqw (And.intro @aqx (And.intro @FP (And.intro @K2 (And.intro @abd (And.intro @abe (And.intro @abf (And.intro @W3 (And.intro @W2 (And.intro @Wh (And.intro @Ge (And.intro @fd (And.intro @W4 (And.intro @XR (And.intro @Y9 (And.intro @Oz (And.intro @Za (And.intro (@List.getElem?_cons_zero X) (And.intro (@List.getElem?_cons_succ X) (And.intro (@List.drop_zero X) (And.intro (@List.drop_succ_cons X) (And.intro (@List.take_zero X) (And.intro (@List.take_succ_cons X) (And.intro (@List.set_cons_zero X) (And.intro (@List.set_cons_succ X) (And.intro @Nat.zero_add (And.intro @Nat.add_zero (And.intro @Nat.mul_one (And.intro (@List.length_cons X) (And.intro (@List.length_nil X) (And.intro (@List.append_nil X) (And.intro (@List.nil_append X) (And.intro (@List.cons_append X) (And.intro (@List.drop_nil X) (And.intro @Bool.and_self (And.intro @Bool.and_true (And.intro @zX (And.intro @true_and (And.intro @and_true (And.intro @decide_eq_true_eq (And.intro @decide_eq_false_iff_not (And.intro @Bool.not_eq_true' (And.intro @Bool.not_eq_false' (And.intro @Int.ofNat_lt (And.intro @aqy (And.intro @aqz (And.intro @amK (And.intro @amL (And.intro @amM (And.intro @abi (And.intro @aw0 (And.intro @Nat.le_refl (And.intro @aqA (And.intro @ai4 (And.intro @akn (And.intro @sc (And.intro @xY (And.intro @th (And.intro @aqB (And.intro @aqC (And.intro @aqD (@Decidable.not_not))))))))))))))))))))))))))))))))))))))))))))))))))))))))))))))))))))))))))))))))))))))))))))))))))))))))))))))))))))))))))))))))))))))))))))))
end
theorem X1(x:Nat)(l:aa Nat):lM (x::l)=(x:Int)::lM l:=rfl
theorem afq{n:Nat}{a:Addr}(I:0<n)(E:n<=cap)(C:wX (some a)=false):
  gS z (.slice (some a) n cap) (some (.int .i64 1)) (some (n:X)) (some (n:X)) = .ok (.slice (some ⟨a.block,if n=1 then a.off else a.off+z,none⟩) (n-1) (n-1)):=by
 show nV z (some a) cap true n n 1=_;unfold nV;rw[show(Nat.ble n cap&&(Nat.ble n n&&Nat.ble 1 n))=true by simp[E];omega];unfold uX
 by_cases h:n=1
 ·subst h;rw[if_pos rfl];show(bif z6 (some a)&&!true then _ else bif wX (some a)then _ else _)=_;rw[C];simp[F6]
 ·rw[if_neg h];rw[show Nat.beq n 1=false by
   cases A:Nat.beq n 1 with
   |true=>exact absurd (gm A) h
   |false=>rfl]
  simp[F6]
theorem fa.head{x:Int}{l:aa Int}(g:fa h cq 1 v (x::l) o):∃b off aS cs ro A,v = .slice (some ⟨b,off,aS⟩) (l.length+1) (l.length+1)/\o=some b/\u h b=some (.cells cs ro)/\cs[off]? = some (x:X) /\
  gS 1 v (some (.int .i64 1)) (some (((l.length+1:Nat):X))) (some (((l.length+1:Nat):X))) = .ok A/\fa h cq 1 A l (some b):=by
 have E:∀(b off:Nat) (aS:aw Nat) (cs:aa X) (ro:al),wX (some ⟨b,off,aS⟩)=false->u h b=some (.cells cs ro)->off+(l.length+1)<=cs.length->(cs.drop off).take (l.length+1)=gA (x::l) ->
   cs[off]? = some (x:X)/\∃A,gS 1 (.slice (some ⟨b,off,aS⟩) (l.length+1) (l.length+1)) (some (.int .i64 1)) (some (((l.length+1:Nat):X))) (some (((l.length+1:Nat):X))) = .ok A/\fa h cq 1 A l (some b):=λb off aS cs ro V C N I=>by
  refine⟨?_,_,afq J J V,?_⟩
  ·have:((cs.drop off).take (l.length+1))[0]? = some (x:X):=by rw[I];rfl
   grind
  ·show fa h cq 1 (.slice (some ⟨b,if l.length+1=1 then off else off+1,none⟩) (l.length+1-1) (l.length+1-1)) l (some b);rw[show l.length+1-1=l.length by omega]
   by_cases M:l.length+1=1
   ·rw[if_pos M];have:l=[]:=ab
    subst this;exact fa.part   C J (by simp[bd])
   ·rw[if_neg M];refine fa.part   C (by omega) ?_;rw[hM,Fg,<-xR];have:=congrArg (List.drop 1) I;rw[E9]at this;simpa[gA]using this
 cases g with
 | @own b _ C =>
  rw[hM]at C;obtain⟨h1,A,ap,L⟩:=E b 0 (some 1) _ _ rfl C (by simp[zX]) (by rw[pk,q3 (by simp[zX])]);exact⟨b,0,some 1,_,_,A,rfl,rfl,C,h1,ap,L⟩
 | @part b o _ cs ro C N I =>
  rw[hM]at I;obtain⟨h1,A,ap,L⟩:=E b o none _ _ rfl C ab ab;exact⟨b,o,none,_,_,A,rfl,rfl,C,h1,ap,L⟩
theorem aH.Bg{P:Program}(E:pQ P){s:al}{A:Prop}(C:aa (aa Nat))(w:A)(e:oo P s C f args h U K=A):aH P s f args h U K:=aH.o0 E C (by rw[e];exact w)
def ad(n:Int):X:=(n:X)
def ay:X:=.slice none 0 0
def bo(n:Nat)(x:X)(k:X->Prop):Prop:=af (Av n x) k
def bS(h:ae)(x:X)(k:X->Prop):Prop:=af (iM none h x) k
def aR(n:Nat)(h:ae)(x:X)(k:X->Prop):Prop:=af (iM (some n) h x) k
def hJ(n:Nat)(x i:X)(k:X->Prop):Prop:=af (im (.slice n) x i) k
def cO(x:X)(k:X->Prop):Prop:=af (AI x) k
def cZ(y v:X)(p:Prop)(n:Nat)(l:aa ae):Prop:=oT (λh=>iM none h y) v p n l
def jl(z:Nat)(y v:X)(p:Prop)(n:Nat)(l:aa ae):Prop:=oT (λh=>iM (some z) h y) v p n l
def b1(l:aa X)(h:ae)(U:Nat)(k:X->ae->Nat->Prop):Prop:=dS (.ok (.ptr (.cells l false))) h U k
def bI(t:X)(h:ae)(U:Nat)(k:X->ae->Nat->Prop):Prop:=dS (F4 (dj t)) h U k
def hz(D:aa Nat)(aI:Nat)(av:aa Nat)(e:GE):Prop:=e.f∈D\/(e.f=aI/\e.t∈av)
structure n0 (n:Nat) (es:aa GE) (s:Nat) (l p:aa Int) (q D:aa Nat) (aI k:Nat) (av:aa Nat):Prop where
 len:l.length=n
 tH:p.length=n
 src:l[s]? = some 0
 hd:∀(v:Nat) (x:Int),l[v]? = some x->-1<=x/\x<=k+1
 zero:∀v:Nat,l[v]? = some 0->v=s
 pre:∀(v:Nat) (x:Int),l[v]? = some x->0<x->∃e∈es,hz D aI av e/\e.t=v/\l[e.f]? = some (x-1)
 all:∀(v:Nat) (x:Int),l[v]? = some x->0<=x->v∈D\/v=aI\/v∈q
 qa:l[aI]? = some (k:Int)
 zp:∀d∈D,∃x:Int,l[d]? = some x/\0<=x/\x<=k
 uj:∀a∈q,∃x:Int,l[a]? = some x/\(k:Int)<=x
 Bh:q.Pairwise λa b=>∀x y:Int,l[a]? = some x->l[b]? = some y->x<=y
 post:∀e∈es,hz D aI av e->∀x:Int,l[e.f]? = some x->∃y:Int,l[e.t]? = some y/\0<=y/\y<=x+1
 par:∀(v:Nat) (x:Int),p[v]? = some x->(x = -1/\∀e∈es,hz D aI av e->¬kE l v e)\/∃e∈es,hz D aI av e/\kE l v e/\x=e.f/\∀dK∈es,hz D aI av dK->kE l v dK->e.f<=dK.f
structure w7 (n:Nat) (es:aa GE) (s:Nat) (l p:aa Int) (q D:aa Nat):Prop where
 len:l.length=n
 tH:p.length=n
 src:l[s]? = some 0
 neg:∀(v:Nat) (x:Int),l[v]? = some x->-1<=x
 zero:∀v:Nat,l[v]? = some 0->v=s
 pre:∀(v:Nat) (x:Int),l[v]? = some x->0<x->∃e∈es,e.f∈D/\e.t=v/\l[e.f]? = some (x-1)
 all:∀(v:Nat) (x:Int),l[v]? = some x->0<=x->v∈D\/v∈q
 zp:∀d∈D,∃x:Int,l[d]? = some x/\0<=x/\∀a∈q,∀y:Int,l[a]? = some y->x<=y
 uj:∀a∈q,∃x:Int,l[a]? = some x/\0<=x
 agN:∀a b,a∈q->b∈q->∀x y:Int,l[a]? = some x->l[b]? = some y->y<=x+1
 Bh:q.Pairwise λa b=>∀x y:Int,l[a]? = some x->l[b]? = some y->x<=y
 post:∀e∈es,e.f∈D->∀x:Int,l[e.f]? = some x->∃y:Int,l[e.t]? = some y/\0<=y/\y<=x+1
 par:∀(v:Nat) (x:Int),p[v]? = some x->(x = -1/\∀e∈es,e.f∈D->¬kE l v e)\/∃e∈es,e.f∈D/\kE l v e/\x=e.f/\∀dK∈es,dK.f∈D->kE l v dK->e.f<=dK.f
theorem w7.init{n:Nat}{es:aa GE}{s:Nat}(aq:s<n):w7 n es s ((List.replicate n (-1)).set s 0) (List.replicate n (-1)) [s] []:=by
 have L:∀v:Nat,((List.replicate n (-1:Int)).set s 0)[v]? = if v=s then some 0 else if v<n then some (-1)else none:=λv=>ab
 have M:∀(v:Nat) (x:Int),((List.replicate n (-1:Int)).set s 0)[v]? = some x->(v=s/\x=0)\/x = -1:=λv x A=>ab
 refine⟨by simp,by simp,ab,λv x A=>?_,λv V=>?_,λv x A E=>?_,λv x A E=>?_,λd Z=>ab,λa I=>?_,λa b I N x y A cd=>?_,by simp,λe _ C=>ab,λv x A=>.inl ⟨?_,λe _ C=>ab⟩⟩
 all_goals grind
theorem w7.pop{n:Nat}{es:aa GE}{s:Nat}{l p:aa Int}{aI:Nat}{q D:aa Nat}(h:w7 n es s l p (aI::q) D):∃k:Nat,n0 n es s l p q D aI k []:=by
 obtain⟨x,L,Z⟩:=h.uj aI (by simp);obtain⟨k,rfl⟩:=xL Z;have I:∀e:GE,hz D aI [] e↔e.f∈D:=λe=>by simp[hz]
 refine⟨k,h.len,h.tH,h.src,λv x A=>⟨h.neg v x A,?_⟩,h.zero,λv x A V=>?_,λv x A V=>?_,L,λd E=>?_,λa cW=>?_,h.Bh.of_cons,λe M E=>h.post e M ((I e).1 E),λv x A=>?_⟩
 ·rcases Jm x 0 with h1|h1
  ·omega
  ·rcases h.all v x A h1 with ap|ap
   ·obtain⟨y,C,_,N⟩:=h.zp v ap;rw[A]at C;cases C;have:=N aI (by simp) _ L;omega
   ·exact h.agN aI v (by simp) ap _ _ L A
 ·obtain⟨e,M,E,h1⟩:=h.pre v x A V;exact⟨e,M,(I e).2 E,h1⟩
 ·rcases h.all v x A V with ap|ap
  all_goals grind
 ·obtain⟨y,C,h1,N⟩:=h.zp d E;exact⟨y,C,h1,N aI (by simp) _ L⟩
 ·obtain⟨y,C,_⟩:=h.uj a ab;exact⟨y,C,r6 h.Bh cW _ _ L C⟩
 ·rcases h.par v x A with⟨h1,ap⟩|⟨e,M,E,h1,ap,N⟩
  all_goals grind
theorem n0.done{n:Nat}{es:aa GE}{s:Nat}{l p:aa Int}{q D:aa Nat}{aI k:Nat}{av:aa Nat}(h:n0 n es s l p q D aI k av)(e9:∀e∈es,e.f=aI->e.t∈av):w7 n es s l p q (aI::D):=by
 have N:∀e∈es,hz D aI av e↔e.f∈aI::D:=λe I=>by
  constructor
  ·rintro(h1|⟨h1,_⟩)
   all_goals grind
  ·intro h1;rcases gQ.1 h1 with h1|h1
   ·exact .inr ⟨h1,e9 e I h1⟩
   ·exact .inl h1
 refine⟨h.len,h.tH,h.src,λv x C=>(h.hd v x C).1,h.zero,λv x C V=>?_,λv x C V=>?_,λd E=>?_,λa A=>?_,λa b A aO x y M Z=>?_,h.Bh,λe I E=>h.post e I ((N e I).2 E),λv x C=>?_⟩
 ·obtain⟨e,I,E,h1⟩:=h.pre v x C V
  grind
 ·rcases h.all v x C V with ap|ap|ap
  all_goals grind
 ·rcases gQ.1 E with rfl|E
  ·exact⟨k,h.qa,J,λa A y Z=>by
    obtain⟨z,L,h1⟩:=h.uj a A
    grind⟩
  ·obtain⟨x,M,h1,ap⟩:=h.zp d E;exact⟨x,M,h1,λa A y Z=>by
    obtain⟨z,L,h1⟩:=h.uj a A
    grind⟩
 ·obtain⟨x,M,h1⟩:=h.uj a A
  grind
 ·obtain⟨z,L,h1⟩:=h.uj a A;rw[M]at L;cases L;have:=(h.hd b y Z).2;omega
 ·rcases h.par v x C with⟨h1,ap⟩|⟨e,I,E,h1,ap,aM⟩
  all_goals grind
theorem hz.snoc{D:aa Nat}{aI:Nat}{av:aa Nat}{w:Nat}{e:GE}:hz D aI (av++[w]) e↔hz D aI av e\/(e.f=aI/\e.t=w):=by
 unfold hz
 grind
section
variable {n:Nat} {es:aa GE} {s:Nat} {l p:aa Int} {q D:aa Nat} {aI k:Nat} {av:aa Nat}
theorem n0.reach(h:n0 n es s l p q D aI k av){e:GE}(A:hz D aI av e):∃x:Int,l[e.f]? = some x/\0<=x:=by
 rcases A with h1|⟨h1,_⟩
 ·obtain⟨x,C,ap,_⟩:=h.zp _ h1
  grind
 ·exact⟨k,by rw[h1];exact h.qa,J⟩
theorem n0.lt(h:n0 n es s l p q D aI k av):k<n:=by
 have I:=FA (es:=es) (λv x A C=>by obtain⟨e,E,_,h1⟩:=h.pre v x A C;grind) k aI h.qa;have:=Fp ((List.range (k+1)).map (λy:Nat=>(y:Int))) l (by rw[ER,tc];exact NL (λh e=>h J) (ER.1 Jg)) (λy L=>ab)
 simp at this;have:=h.len;omega
theorem n0.skip(h:n0 n es s l p q D aI k av){w:Nat}{x:Int}(L:l[w]? = some x)(M:0<=x)(aY:x≠k+1):n0 n es s l p q D aI k (av++[w]):=by
 have a1:∀e:GE,e.f=aI/\e.t=w->∀v,¬kE l v e:=λe ⟨h1,ap⟩ v ⟨aM,y,E,_,V⟩=>by
  rw[h1,h.qa]at V
  grind
 refine⟨h.len,h.tH,h.src,h.hd,h.zero,λv x I Z=>?_,h.all,h.qa,h.zp,h.uj,h.Bh,λe C A y E=>?_,λv x I=>?_⟩
 ·obtain⟨e,C,A,h1⟩:=h.pre v x I Z;exact⟨e,C,hz.snoc.2 (.inl A),h1⟩
 ·rcases hz.snoc.1 A with A|⟨h1,ap⟩
  ·exact h.post e C A y E
  ·rw[h1,h.qa]at E;cases E;exact⟨x,ab,M,(h.hd w x L).2⟩
 ·rcases h.par v x I with⟨h1,ap⟩|⟨e,C,A,h1,ap,aM⟩
  ·refine .inl ⟨h1,λe C A=>?_⟩;rcases hz.snoc.1 A with A|A
   all_goals grind
  ·refine .inr ⟨e,C,hz.snoc.2 (.inl A),h1,ap,λdK N jt tS=>?_⟩;rcases hz.snoc.1 jt with jt | jt
   all_goals grind
theorem n0.same(h:n0 n es s l p q D aI k av){w:Nat}(Z:l[w]? = some ((k:Int)+1)){z:Int}(cL:p[w]? = some z)(Bi:aE∈es)(E:aE.f=aI)(N:aE.t=w):n0 n es s l (p.set w (min z aI)) q D aI k (av++[w]):=by
 have hwp:w<p.length:=(hn.1 cL).1;have a9:∀v,(p.set w (min z aI))[v]? = if v=w then some (min z aI)else p[v]?:=λv=>ab
 have LW:∀e:GE,e.f=aI/\e.t=w->kE l w e:=λe ⟨h1,ap⟩=>⟨ap,_,Z,J,by rw[h1,h.qa];simp⟩
 refine⟨h.len,by rw[E6];exact h.tH,h.src,h.hd,h.zero,λv x I bg=>?_,h.all,h.qa,h.zp,h.uj,h.Bh,λe C A y cd=>?_,λv x I=>?_⟩
 ·obtain⟨e,C,A,h1⟩:=h.pre v x I bg;exact⟨e,C,hz.snoc.2 (.inl A),h1⟩
 ·rcases hz.snoc.1 A with A|⟨h1,ap⟩
  ·exact h.post e C A y cd
  ·rw[h1,h.qa]at cd;grind
 ·rw[a9]at I
  split at I
  ·rename_i aW
   subst aW;cases I;rcases h.par v z cL with⟨h1,ap⟩|⟨e,C,A,h1,ap,aM⟩
   ·exfalso;obtain⟨e,C,A,aM,bc⟩:=h.pre v _ Z J;exact ap e C A ⟨aM,_,Z,J,bc⟩
   ·rcases h8 e.f aI with bc|bc
    ·refine .inr ⟨e,C,hz.snoc.2 (.inl A),h1,J,λdK L jt M=>?_⟩;rcases hz.snoc.1 jt with jt | jt
     all_goals grind
    ·refine .inr ⟨aE,Bi,hz.snoc.2 (.inr ⟨E,N⟩),LW aE ⟨E,N⟩,J,λdK L jt M=>?_⟩;rw[E];rcases hz.snoc.1 jt with jt | jt
     all_goals grind
  ·rename_i V
   have rD:∀e:GE,e.f=aI/\e.t=w->¬kE l v e:=λe ⟨_,ap⟩ a1=>V (by rw[<-a1.1,ap]);rcases h.par v x I with⟨h1,ap⟩|⟨e,C,A,h1,ap,aM⟩
   ·refine .inl ⟨h1,λe C A=>?_⟩;rcases hz.snoc.1 A with A|A
    all_goals grind
   ·refine .inr ⟨e,C,hz.snoc.2 (.inl A),h1,ap,λdK L jt M=>?_⟩;rcases hz.snoc.1 jt with jt | jt
    all_goals grind
theorem n0.new(h:n0 n es s l p q D aI k av){w:Nat}(b0:l[w]? = some (-1))(Bi:aE∈es)(M:aE.f=aI)(DU:aE.t=w):n0 n es s (l.set w ((k:Int)+1)) (p.set w aI) (q++[w]) D aI k (av++[w]):=by
 have vq:w<l.length:=(hn.1 b0).1;have E:∀v,(l.set w ((k:Int)+1))[v]? = if v=w then some ((k:Int)+1)else l[v]?:=λv=>ab
 have hgp:∀v,(p.set w (aI:Int))[v]? = if v=w then some (aI:Int)else p[v]?:=λv=>by
  rw[vY]
  by_cases A:w=v
  ·subst A;simp[h.tH,<-h.len,vq]
  grind
 have hrw:∀(v:Nat) (x:Int),l[v]? = some x->0<=x->v≠w:=λv x L au e=>ab
 have N:aI≠w:=hrw aI k h.qa J;have hfw:∀e,hz D aI av e->e.f≠w:=λe C=>by
  obtain⟨x,L,au⟩:=h.reach C
  grind
 have rD:∀e∈es,hz D aI av e->e.t≠w:=λe Z C aW=>by
  obtain⟨x,L,_⟩:=h.reach C;obtain⟨y,I,au,_⟩:=h.post e Z C x L
  grind
 refine⟨by rw[E6];exact h.len,by rw[E6];exact h.tH,by rw[E,if_neg (λe=>hrw s 0 h.src J e)];exact h.src,λv x A=>?_,λv A=>?_,λv x A bg=>?_,λv x A bg=>?_,by rw[E,if_neg N];exact h.qa,λd C=>?_,λa V=>?_,?_,λe Z C y I=>?_,λv x A=>?_⟩
 ·rw[E]at A
  split at A
  ·grind
  ·exact h.hd v x A
 ·rw[E]at A
  split at A
  ·grind
  ·exact h.zero v A
 ·rw[E]at A
  split at A
  ·rename_i aW
   cases A;exact⟨aE,Bi,hz.snoc.2 (.inr ⟨M,DU⟩),J,by rw[M,E,if_neg N,h.qa];simp⟩
  ·obtain⟨e,Z,C,h1,ap⟩:=h.pre v x A bg;exact⟨e,Z,hz.snoc.2 (.inl C),h1,ab⟩
 ·rw[E]at A
  split at A
  ·grind
  ·rcases h.all v x A bg with h1|h1|h1
   all_goals grind
 ·obtain⟨x,L,h1,ap⟩:=h.zp d C
  grind
 ·rcases hp.1 V with V|V
  ·obtain⟨x,L,h1⟩:=h.uj a V
   grind
  grind
 ·rw[r7];have back:∀a∈q,∀x:Int,(l.set w ((k:Int)+1))[a]? = some x->l[a]? = some x:=λa V x L=>by
   obtain⟨y,I,h1⟩:=h.uj a V
   grind
  refine⟨?_,by simp,λa V b aO x y L I=>?_⟩
  ·rw[xK];intro i j aj bZ Mb x y L I;exact(xK.1 h.Bh) i j aj bZ Mb x y (back _ (List.getElem_mem aj) x L) (back _ (List.getElem_mem bZ) y I)
  ·simp at aO;subst aO;rw[E,if_pos rfl]at I;cases I;exact(h.hd a x (back a V x L)).2
 ·rcases hz.snoc.1 C with C|⟨h1,ap⟩
  ·rw[E,if_neg (hfw e C)]at I;obtain⟨z,cL,aM,bc⟩:=h.post e Z C y I
   grind
  ·rw[h1,E,if_neg N,h.qa]at I
   grind
 ·have aw2:∀v,v≠w->∀e,hz D aI av e->(kE (l.set w ((k:Int)+1)) v e↔kE l v e):=λv A e C=>by
   unfold kE
   grind
  rw[hgp]at A
  split at A
  ·rename_i aW
   subst aW;cases A;refine .inr ⟨aE,Bi,hz.snoc.2 (.inr ⟨M,DU⟩),⟨DU,_,by rw[E,if_pos rfl],J,by rw[M,E,if_neg N,h.qa];simp⟩,J,λdK HB jt tS=>?_⟩;rcases hz.snoc.1 jt with jt | jt
   ·exact absurd tS.1 (rD dK HB jt)
   omega
  ·rename_i eS
   have aBs:∀e:GE,e.f=aI/\e.t=w->¬kE (l.set w ((k:Int)+1)) v e:=λe ⟨_,ap⟩ a1=>eS (by rw[<-a1.1,ap]);rcases h.par v x A with⟨h1,ap⟩|⟨e,Z,C,h1,ap,aM⟩
   ·refine .inl ⟨h1,λe Z C=>?_⟩;rcases hz.snoc.1 C with C|C
    all_goals grind
   ·refine .inr ⟨e,Z,hz.snoc.2 (.inl C),(aw2 v eS e C).2 h1,ap,λdK HB jt tS=>?_⟩;rcases hz.snoc.1 jt with jt | jt
    all_goals grind
end
theorem w7.TF{n:Nat}{es:aa GE}{s:Nat}{l p:aa Int}{D:aa Nat}(h:w7 n es s l p [] D):lr n es s l/\qK es l n p:=by
 have L:∀(v:Nat) (x:Int),l[v]? = some x->0<=x->v∈D:=λv x A E=>by
  rcases h.all v x A E with h1|h1
  all_goals grind
 have C:∀(v:Nat) (x:Int),l[v]? = some x->0<x->∃e∈es,e.t=v/\l[e.f]? = some (x-1):=λv x A N=>by
  obtain⟨e,I,_,h1⟩:=h.pre v x A N
  grind
 have V:∀v e,kE l v e->e.f∈D:=λv e ⟨_,x,_,E,M⟩=>L _ _ M J;refine⟨⟨h.len,h.src,λv x A=>⟨h.neg v x A,?_⟩,h.zero,C,λe I x A E=>h.post e I (L _ _ A E) x A⟩,h.tH,λv x A=>?_⟩
 ·rcases Jm x 0 with h1|h1
  ·omega
  ·obtain⟨m,rfl⟩:=xL h1;have Z:=FA C m v A;have:=Fp ((List.range (m+1)).map (λy:Nat=>(y:Int))) l (by rw[ER,tc];exact NL (λh e=>h J) (ER.1 Jg)) (λy cd=>ab)
   simp at this;have:=h.len;omega
 ·unfold mM;rw[hC];rcases h.par v x A with⟨h1,ap⟩|⟨e,I,bj,h1,ap,aM⟩
  all_goals grind
theorem lr.le{n:Nat}{es:aa GE}{s:Nat}{l bY:aa Int}(h:lr n es s l)(ac:lr n es s bY):∀(m v:Nat),l[v]? = some (m:Int)->∃y:Int,bY[v]? = some y/\0<=y/\y<=m
 |0,v,A=>by have:=h.zero v A;subst this;exact⟨0,ac.src,J,J⟩
 |m+1,v,A=>by
  obtain⟨e,I,V,C⟩:=h.pre v _ A J;have M:((m+1:Nat):Int)-1=(m:Int):=J
  rw[M]at C;obtain⟨y,N,E,L⟩:=lr.le h ac m e.f C;obtain⟨z,Z,h1,ap⟩:=ac.post e I y N E
  grind
theorem lr.unique{n:Nat}{es:aa GE}{s:Nat}{l:aa Int}(h:lr n es s l)(ac:lr n es s bY):l=bY:=by
 apply pj;intro v;rcases h8 v n with E|E
 ·obtain⟨x,a⟩:∃x,l[v]? = some x:=⟨_,oB (by rw[h.len];omega)⟩
  obtain⟨y,b⟩:∃x,bY[v]? = some x:=⟨_,oB (by rw[ac.len];omega)⟩
  rw[a,b];have N:=(h.hd v x a).1;have V:=(ac.hd v y b).1;rcases Jm x 0 with h1|h1
  ·rcases Jm y 0 with ap|ap
   ·grind
   ·obtain⟨m,rfl⟩:=xL ap;obtain⟨z,A,C,_⟩:=lr.le ac h m v b
    grind
  ·obtain⟨m,rfl⟩:=xL h1;obtain⟨z,A,C,M⟩:=lr.le h ac m v a;rw[b]at A;cases A;obtain⟨k,rfl⟩:=xL C;obtain⟨z,A,I,L⟩:=lr.le ac h k v b
   grind
 ·rw[xM (by rw[h.len];omega),xM (by rw[ac.len];omega)]
theorem mM.unique{es:aa GE}{l:aa Int}{v:Nat}{x y:Int}(C:mM es l v es.length x)(A:mM es l v es.length y):x=y:=by
 unfold mM at C A
 grind
theorem qK.unique{es:aa GE}{l:aa Int}{n:Nat}{p A:aa Int}(h:qK es l n p)(ac:qK es l n A):p=A:=by
 apply pj;intro v;rcases h8 v n with C|C
 ·have a:=oB (l:=p) (i:=v) (by rw[h.1];omega);have b:=oB (l:=A) (i:=v) (by rw[ac.1];omega);rw[a,b,mM.unique (h.2 v _ a) (ac.2 v _ b)]
 ·rw[xM (by rw[h.1];omega),xM (by rw[ac.1];omega)]
def FQ(es c9:aa GE):Prop:=(∀e∈es,∃dK∈c9,dK.f=e.f/\dK.t=e.t)/\∀e∈c9,∃dK∈es,dK.f=e.f/\dK.t=e.t
theorem lr.ends{n:Nat}{es:aa GE}{s:Nat}{l:aa Int}(aq:FQ es c9)(h:lr n es s l):lr n c9 s l where
 len:=h.len
 src:=h.src
 hd:=h.hd
 zero:=h.zero
 pre:=λv x I N=>by
  obtain⟨e,C,h1,ap⟩:=h.pre v x I N;obtain⟨E,A,V,M⟩:=aq.1 e C
  grind
 post:=λe C x I L=>by
  obtain⟨E,A,V,M⟩:=aq.2 e C;have:=h.post E A x ab L
  grind
theorem OD{l:aa Int}{v:Nat}{e A:GE}(h1:A.f=e.f)(ap:A.t=e.t)(h:kE l v e):kE l v A:=by obtain⟨L,x,E,C,I⟩:=h;exact⟨J,x,E,C,ab⟩
theorem qK.ends{n:Nat}{es:aa GE}{l p:aa Int}(aq:FQ es c9)(h:qK es l n p):qK c9 l n p:=by
 refine⟨h.1,λv x aY=>?_⟩;have:=h.2 v x aY;unfold mM at this ⊢;rw[hC]at this ⊢;rcases this with⟨h1,ap⟩|⟨e,C,N,h1,ap⟩
 ·refine .inl ⟨h1,λe C N=>?_⟩;obtain⟨I,A,Z,M⟩:=aq.2 e C;exact ap I A (OD Z M N)
 ·obtain⟨aW,E,Z,M⟩:=aq.1 e C;refine .inr ⟨aW,E,OD Z M N,J,λI A V=>?_⟩;obtain⟨aK,L,b3,cy⟩:=aq.2 I A;have:=ap aK L (OD b3 cy V);omega
section
variable {H:Type} {enc:TypeId × X->H} {P:Program} {w:World} {aS:Nat->al} {AR:al} {az:Type}
def KJ(w:World)(b off:Nat)(l:aa X):Prop:=∃c e fi,w.heap[b]? = some (.cells c e fi)/\∀i x,l[i]? = some x->c[off+i]? = some x
theorem aiw{w:World}{x:TypeId × Nat}(h:w.shape? b=some x):∃c e A,w.heap[b]? = some (.cells c e A):=by
 unfold World.shape? at h
 grind
theorem aqE{cf:az->aa X}{k:Nat}{e:TypeId}{r:Reach}{base Ew:Nat}{x:DataW H × aa MemPlace}(Z:P.underlying t=some (.slice e))(a1:P.cellsOf e=k)(R:az->Prop)(V:∀(n:Nat) (c:aa X) y,DataW.trod enc P w base aS AR n e c=some y->∃z:az,c=cf z/\R z)(h:DataW.trod enc P w base aS AR Ds t [v]=some x)(A:Cell.okWide P w r Ew t v):
  ∃L:aa az,(∀z∈L,R z)/\((L=[]/\v = .slice none 0 0)\/∃b off cap,v = .slice (some ⟨b,off,none⟩) L.length cap/\KJ w b off (bd cf L)):=by
 rcases akm Z a1 R V h with C|⟨a,L,cap,C,bA,bp,ei,I⟩
 ·injection C with C _
  exact⟨[],by simp,ab⟩
 ·injection C with C _
  subst C;refine⟨L,ei,.inr ?_⟩;unfold Cell.okWide at A;rw[Z]at A;simp only at A;unfold Cell.ok at A;rw[Z]at A;obtain⟨_,_,N⟩:=A;obtain⟨_,E,row,cells,M,_⟩:=N;obtain⟨b,off,spot⟩:=a;simp only at E M;subst E;obtain⟨c,dK,fi,b0⟩:=aiw M;refine⟨b,off,cap,rfl,c,dK,fi,b0,λi y cd=>?_⟩;have h1:=I i y cd;have aW:(Addr.add ⟨b,off,none⟩ i)=⟨b,off+i,none⟩:=by
   unfold Addr.add
   grind
  rw[aW]at h1;unfold World.cell? at h1
  grind
theorem X2{k:IntKind}{c:X}{x:DataW H × aa MemPlace}(A:P.underlying t=some (.int k))(h:DataW.trod enc P w 0 aS AR Ds t [c]=some x):∃n:Int,c = .int k n:=by
 obtain⟨n,h1,_⟩:=DataW.trod_int A h
 grind
end
def Du(v:X)(l:aa X):aa (Place × aa X):=match v with
 | .slice (some a) _ _=>[(⟨a.block,a.off,0,0⟩,l)]
 |_=>[]
def inV(v:X):X:=match v with
 | .slice (some _) n c=>.slice (some ⟨0,0,none⟩) n c
 |v=>v
theorem auc{az:Type}{A:az->aa X}{w:World}{C:aa az}(N:∀z,hU (A z)=true)(h:(C=[]/\v = .slice none 0 0)\/∃b off cap,v = .slice (some ⟨b,off,none⟩) C.length cap/\KJ w b off (bd A C)):
  InW w (Du v (bd A C))/\bF (yE (Du v (bd A C))) (inV v) v/\cr (y1 0 (Du v (bd A C)) iN) (Du v (bd A C)).length (inV v) A C:=by
 have plain:∀l:aa az,∀x∈bd A l,qp x=true:=by
  intro l
  induction l with
  |nil=>intro x E;cases E
  |cons z l M =>
   intro x E;have E:x∈A z++bd A l:=E;rcases hp.1 E with E|E
   ·have:∀(l:aa X),hU l=true->∀x∈l,qp x=true:=by
     intro l
     induction l with
     |nil=>grind
     |cons y l M =>
      intro h x E;have h:(qp y&&hU l)=true:=h
      grind
    grind
   grind
 rcases h with⟨rfl,rfl⟩|⟨b,off,cap,rfl,c,e,V,L,Z⟩
 ·exact⟨λp I=>(by cases I),bF.rc 0 0,⟨none,0,rfl,λh=>absurd rfl h⟩⟩
 ·refine⟨λp I=>?_,.kU (p:=⟨b,off,0,0⟩) rfl _ _,⟨_,_,rfl,λ_=>⟨0,none,true,by simp[Du],rfl,at4 (p:=(⟨b,off,0,0⟩,bd A C)) rfl⟩⟩⟩;have I:p=(⟨b,off,0,0⟩,bd A C):=by simpa[Du]using I
  subst I;exact⟨c,e,V,L,λi x E=>⟨x,ab,Cg ab _⟩⟩
theorem aud{P:Program}(M:aH P false f args h U (λv _ _=>v = .bool true)){w:World}{A:aa X}(L:d9 w.heap.size ai (u h) w)(I:jQ ai U)(N:dq ai args A)(n:Nat):
  CallsIn Fence.wide n P f ⟨A⟩ w (λe ba=>e = .returned (.bool true)/\RowKit.Below w.heap.size w ba):=
 (M.2 w.heap.size ai w A L I N n).mono λe ba E=>by obtain⟨dF,ac,Y,Z,c,rfl,rfl,C,V⟩:=E;cases C;exact⟨rfl,amE rfl V⟩
def mk:Nat->(Nat->al)->Nat
 |0,_=>0
 |n+1,p=>(if p 0 then 1 else 0)+2*mk n (λi=>p (i+1))
def ek(n:Nat)(p:Nat->al):aa Nat:=(List.range n).filter p
theorem sm:∀(n:Nat) (p:Nat->al) (i:Nat),(mk n p).testBit i=(decide (i<n)&&p i)
 |0,p,i=>by simp[mk]
 |n+1,p,0=>by
  rw[mk,Nat.testBit_zero]
  grind
 |n+1,p,i+1=>by
  rw[mk,Ji];have:((if p 0 then 1 else 0)+2*mk n (λi=>p (i+1))) / 2=mk n (λi=>p (i+1)):=ab
  rw[this,sm n];simp
theorem afr:∀(n:Nat) (p:Nat->al),mk n p<2 ^ n
 |0,p=>by simp[mk]
 |n+1,p=>by
  have:=afr n (λi=>p (i+1));rw[mk,Nat.pow_succ]
  grind
theorem CT{n:Nat}{p q:Nat->al}(h:∀i,i<n->p i=q i):mk n p=mk n q:=by
 apply zF;intro i;rw[sm,sm]
 grind
theorem aue(n:Nat)(p q:Nat->al):mk n p &&& mk n q=mk n (λi=>p i&&q i):=by
 apply zF;intro i;rw[Jk,sm,sm,sm]
 grind
theorem aw5(n:Nat)(p q:Nat->al):mk n p ||| mk n q=mk n (λi=>p i||q i):=by
 apply zF;intro i;rw[Fb,sm,sm,sm]
 grind
theorem adn{n k:Nat}(h:k<n):2 ^ k=mk n (λi=>decide (i=k)):=by
 apply zF;intro i;rw[sm,Nat.testBit_two_pow]
 grind
theorem PY(n:Nat):mk n (λ_=>false)=0:=by apply zF;intro i;rw[sm];simp
theorem ado(n:Nat)(p:Nat->al):mk (n+1) p / 2=mk n (λi=>p (i+1)):=by rw[mk];grind
theorem adp(n:Nat)(p:Nat->al):mk (n+1) p % 2=if p 0 then 1 else 0:=by rw[mk];grind
theorem Gh{n:Nat}{p:Nat->al}:mk n p=0↔∀i,i<n->p i=false:=by
 constructor
 ·intro h i aj;have:=sm n p i
  grind
 ·intro h;rw[<-PY n];exact CT h
theorem Kp(n:Nat)(p:Nat->al):ek (n+1) p=(if p 0 then[0]else[])++(ek n (λi=>p (i+1))).map (·+1):=by
 unfold ek;rw[List.range_succ_eq_map,q4];have:(List.map Nat.succ (List.range n)).filter p=((List.range n).filter (λi=>p (i+1))).map (·+1):=by rw[List.filter_map];rfl
 grind
theorem auf{n:Nat}{p:Nat->al}(h:∀i,i<n->p i=false):ek n p=[]:=by
 unfold ek;rw[zE]
 grind
theorem Zg:∀(n:Nat) (p:Nat->al),mk n p≠0->∃q:Nat->al,mk n p &&& (mk n p-1)=mk n q/\(ek n p).length=(ek n q).length+1
 |0,p,h=>absurd rfl h
 |n+1,p,h=>by
  cases A:p 0 with
  |true =>
   refine⟨λi=>if i=0 then false else p i,?_,?_⟩
   ·have e:mk (n+1) p=2*mk n (λi=>p (i+1))+1:=by rw[mk,A];grind
    have C:mk (n+1) (λi=>if i=0 then false else p i)=2*mk n (λi=>p (i+1)):=by rw[mk];simp
    rw[e,C];apply zF;intro i;rw[Jk,NI];cases i with
    |zero=>grind
    |succ i =>
     grind
   ·rw[Kp,Kp,A];simp
  |false =>
   have e:mk (n+1) p=2*mk n (λi=>p (i+1)):=by rw[mk,A];simp
   have E:mk n (λi=>p (i+1))≠0:=λI=>h J;obtain⟨q,h1,ap⟩:=Zg n (λi=>p (i+1)) E;refine⟨λi=>match i with|0=>false|i+1=>q i,?_,?_⟩
   ·have C:mk (n+1) (λi=>match i with|0=>false|i+1=>q i)=2*mk n q:=by rw[mk];simp
    rw[e,C,<-h1];apply zF;intro i;rw[Jk];cases i with
    |zero=>grind
    |succ i =>
     rw[Ji,Ji,Ji,show(2*mk n (λi=>p (i+1))) / 2=mk n (λi=>p (i+1)) by omega,show(2*mk n (λi=>p (i+1))-1) / 2=mk n (λi=>p (i+1))-1 by omega,show(2*(mk n (λi=>p (i+1)) &&& (mk n (λi=>p (i+1))-1))) / 2=mk n (λi=>p (i+1)) &&& (mk n (λi=>p (i+1))-1) by omega,Jk]
   ·rw[Kp,Kp,A]
    grind
section
variable {P:Program}
theorem CU{n:Nat}(h:n<18446744073709551616):IntKind.wrap .u64 (n:Int)=(n:Int):=by unfold IntKind.wrap;simp[IntKind.bits,IntKind.signed];omega
theorem Bj{n:Nat}(h:n<18446744073709551616):(BitVec.ofInt 64 (n:Int)).toNat=n:=ab
theorem FR{a:Nat}(A:a<18446744073709551616)(C:b<18446744073709551616):bin P .and t (.int .u64 (a:Int)) (.int .u64 (b:Int)) = .ok (.int .u64 ((a &&& b:Nat):Int)):=by show R.ok (Value.int .u64 (IntKind.wrap .u64 ((BitVec.ofInt 64 (a:Int) &&& BitVec.ofInt 64 (b:Int)).toNat:Int)))=_;rw[BitVec.toNat_and,Bj A,Bj C,CU (Nat.lt_of_le_of_lt Nat.and_le_left A)]
theorem aqF{a:Nat}(C:a<18446744073709551616)(A:b<18446744073709551616):bin P .or t (.int .u64 (a:Int)) (.int .u64 (b:Int)) = .ok (.int .u64 ((a ||| b:Nat):Int)):=by show R.ok (Value.int .u64 (IntKind.wrap .u64 ((BitVec.ofInt 64 (a:Int) ||| BitVec.ofInt 64 (b:Int)).toNat:Int)))=_;rw[BitVec.toNat_or,Bj C,Bj A,CU (Nat.or_lt_two_pow (n:=64) C A)]
theorem amN:∀(k:Nat),k<64->∀hj:IntKind,bin P .shl t (.int .u64 1) (.int hj (k:Int)) = .ok (.int .u64 ((2 ^ k:Nat):Int)):=by
 intro k A hj;show wt .shl .u64 1 (k:Int)=_;unfold wt;rw[show lk (k:Int) 0=false from rfl];show R.ok (Value.int .u64 (tw .u64 (1*2 ^ (min (k:Int).toNat 64))))=_;rw[Int.one_mul,show min (k:Int).toNat 64=k by omega,nT];have:((2:Int) ^ k)=((2 ^ k:Nat):Int):=ab
 rw[this,CU (Nat.pow_lt_pow_right J A)]
theorem O7{a:Nat}:bin P .shr t (.int .u64 (a:Int)) (.int hj 1) = .ok (.int .u64 ((a / 2:Nat):Int)):=by
 show wt .shr .u64 (a:Int) 1=_;unfold wt;show R.ok (Value.int .u64 ((a:Int).fdiv (2 ^ (min (1:Int).toNat 64))))=_
 grind
theorem FT{a:Nat}:bin P .shr t (a:X) (.int hj 6) = .ok (((a / 64:Nat):X)):=by
 show wt .shr .i64 (a:Int) 6=_;unfold wt;show R.ok (Value.int .i64 ((a:Int).fdiv (2 ^ (min (6:Int).toNat 64))))=_
 grind
end
set_option maxRecDepth 100000
def GX(a b:Code):aBV:={ res:=[.tmp 4],body :=
 (.seq (.tB [⟨none,some 2,0,.io (.box (.t 0))⟩,⟨none,some 4,0,.fu (.hX (.v (.slice none 0 0)))⟩])
 (.seq (.seq (.tB [⟨none,some 6,0,.fu (.hX (.t 1))⟩]) (.block 0 (.xp (.t 6) [7] a b)))
 (.seq (.tB [⟨none,some 12,0,.red (.ld none (.t 2))⟩,⟨none,some 4,0,.fu (.hX (.t 12))⟩]) .ret))) }
def ccA:ks:=.tB [⟨none,some 5,0,.fu (.hX (.t 7))⟩]
def ccB(z:X):ks:=.block 1 (.tB [⟨none,some 8,0,.red (.ld none (.t 2))⟩,⟨none,some 9,0,.fu (.hX (.t 5))⟩,⟨none,some 10,0,.io (.Te 1 [z] [(0,1,.t 9)])⟩,⟨none,some 11,0,.fv (.app 1 (.t 8) (.t 10))⟩,⟨none,none,0,.fv (.st 1 (.t 2) (.t 11))⟩])
structure RU (P:Program) (z:X) (f:FuncId) (a b:Code):Prop where
 c:yc P f=some (GX a b)
 qb:comp P a=ccA
 gt:comp P b=ccB z
 xu:lp a=true
 vL:lp b=true
def GY:ks->aw (Code × Code)
 | .xp _ _ a b=>some (a,b)
 | .seq a b=>match GY a with|some x=>some x|none=>GY b
 | .block _ c=>GY c
 | .scope c=>GY c
 |_=>none
def vc(P:Program)(f:FuncId):Code × Code:=match yc P f with
 |some c=>(match GY c.body with|some x=>x|none=>(.skip,.skip))
 |none=>(.skip,.skip)
def u4(f:X)(p:Nat):cc:=[(6,some f),(4,some (.slice none 0 0)),(2,some (bf p)),(0,some (.slice none 0 0)),(1,some f)]
def k4(l p:Nat)(a b:Code)(h:ae)(o:X):Prop:=∃f,u h l=some (.loop 0 none (u4 f p) [7] a b)/\u h p=some (.cells [o] false)
theorem k4.T{l p:Nat}{a b:Code}{o:X}(C:k4 l p a b h o)(h1:u ac l=u h l)(ap:u ac p=u h p):k4 l p a b ac o:=by obtain⟨f,E,A⟩:=C;exact⟨f,ab,ab⟩
section
variable {P:Program} {s:al}
theorem fa.cell{az:Type}{enc:az->aa X}{k:Nat}{o:X}{A:aa az}(g:fa h enc k o A aQ):dj o=[o]/\gZ o=true:=by
 cases g <;> exact⟨rfl,rfl⟩
def gY{az:Type}(h:ae)(enc:az->aa X)(v:X)(l:aa az)(aQ:aw Nat):Prop:=(l=[]/\v = .slice none 0 0/\aQ=none)\/∃b,aQ=some b/\v = .slice (some ⟨b,0,some 1⟩) l.length l.length/\u h b=some (.cells (bd enc l) false)
theorem gY.nil{az:Type}{enc:az->aa X}:gY h enc (.slice none 0 0) [] none:=.inl ⟨rfl,rfl,rfl⟩
theorem gY.hl{az:Type}{enc:az->aa X}{l:aa az}(w:gY h enc v l aQ):fa h enc 1 v l aQ:=by
 rcases w with⟨rfl,rfl,rfl⟩|⟨b,rfl,rfl,A⟩
 ·exact .nil
 ·exact .own A
theorem gY.T{az:Type}{enc:az->aa X}{l:aa az}(w:gY h enc v l aQ)(E:∀c,aQ=some c->u ac c=u h c):gY ac enc v l aQ:=by
 rcases w with w|⟨b,e,A,C⟩
 ·exact .inl w
 ·exact .inr ⟨b,e,A,ab⟩
theorem gY.fj{az:Type}{enc:az->aa X}{l:aa az}(w:gY h enc v l aQ)(A:∀c,aQ=some c->ao<=c/\c<aj):eG h ao aj v enc l:=by
 rcases w with⟨rfl,rfl,rfl⟩|⟨b,rfl,rfl,C⟩
 ·exact⟨none,0,rfl,λe=>absurd rfl e⟩
 ·exact⟨_,_,rfl,λ_=>⟨b,some 1,false,(A b rfl).1,(A b rfl).2,rfl,C⟩⟩
theorem gY.form{az:Type}{enc:az->aa X}{l:aa az}(w:gY h enc v l aQ):∃a c,v = .slice a l.length c:=by
 rcases w with⟨rfl,rfl,rfl⟩|⟨b,rfl,rfl,A⟩
 ·exact⟨none,0,rfl⟩
 grind
theorem x7{az:Type}{enc:az->aa X}{k:Nat}(I:∀x,(enc x).length=k)(A:∀x,ee (enc x)=true)(E:0<k){l:aa az}(g:fa h enc k v l o)(x:az)(ap:u h bQ=some (.cells cs ro))(L:(cs.drop dP).take k=enc x)(C:(l.length+1)*k<=1000000){K:X->ae->Nat->Prop}(M:∀ac,u ac U=some (.cells (bd enc (l++[x])) false)->(∀c,c≠U->o≠some c->u ac c=u h c)->K (.slice (some ⟨U,0,some k⟩) (l.length+1) (l.length+1)) ac (U+1)):dD (dU (dM k h U v (.slice (some ⟨bQ,dP,k3⟩) 1 ry))) K:=by obtain⟨ac,e,a,b⟩:=g.app I A E ap L C;rw[e];exact M _ a b
theorem aug(fV:pQ P){z:X}{a b:Code}(A:RU P z f a b){az:Type}{enc:az->aa X}(hk:∀x,(enc x).length=1)(I:∀x,ee (enc x)=true){x:az}(aY:enc x=[v])(aG:dj v=[v]){l p:Nat}{o:X}{E:aa az}(C:k4 l p a b h o)(w:gY h enc o E aQ)(hlp:l≠p)(bA:l<U)(bg:p<U)(mr:∀c,aQ=some c->c≠l/\c≠p/\c<U)(lP:E.length+1<=1000000)(hi:∀ac a0,k4 l p a b ac a0->gY ac enc a0 (E++[x]) (some (U+1))->(∀c,c<U->c≠l->c≠p->aQ≠some c->u ac c=u h c)->K (.bool true) ac (U+1+1)):lW P s l [v] h U K:=by
 obtain⟨L,N,tX⟩:=C;have g:=w.hl;have Mc:gZ v=true:=by have:=I x;rw[aY]at this;exact(by simpa[ee]using this)
 refine lW.o0 fV (vI:=[]) (om:=[]) N rfl A.xu A.vL ?_;unfold BI;rw[A.qb,A.gt];show af (.ok v) λBK=>∃V,u h l=some (.loop 0 V (u4 L p) [7] a b)/\af (iM none (F h l (.loop 1 V (u4 L p) [7] a b)) (bf p)) λaCZ=>af (.ok BK) λaC0=>dS (eV 1 [z] [(0,1,aC0)]) (F h l (.loop 1 V (u4 L p) [7] a b)) U λv10 aM bW=>dD (dU (dM 1 aM bW aCZ v10)) λv11 bc d4=>af (aU bc 1 (bf p) v11) λM =>
  ∃gp V,u M l=some (.loop gp V (u4 L p) [7] a b)/\K (.bool true) (F M l (.loop 0 none (u4 L p) [7] a b)) d4
 refine⟨none,N,?_⟩;have DV:u (F h l (.loop 1 none (u4 L p) [7] a b)) p=some (.cells [o] false):=ab
 obtain⟨ho1,ho2⟩:=g.cell;simp(disch:=omega)only[Vt,DV,aG,Mc,seval];refine x7 hk I J (g.T λc a1=>?_) x (aT _ _ _) ?_ J λM DW t4=>?_
 ·grind
 ·grind
 have Z:u M l=some (.loop 1 none (u4 L p) [7] a b):=ab
 have Md:u M p=some (.cells [o] false):=ab
 simp(disch:=omega)only[Vt,Md,seval];refine⟨1,none,Z,?_⟩;refine hi _ (.slice (some ⟨U+1,0,some 1⟩) (E.length+1) (E.length+1)) ⟨L,aT _ _ _,ab⟩ ?_ λc h1 ap aM bc=>?_
 ·refine .inr ⟨U+1,rfl,ab,?_⟩
  grind
 grind
theorem X3(M:pQ P){z:X}{a b:Code}(A:RU P z f a b){g:FuncId}{E C:Array X}(L:∀h1,k4 (U+1) U a b h1 (.slice none 0 0)->(∀c,c<U->u h1 c=u h c)->aH P s g (E.toList++(.func (.yield (U+1)) #[] #[]::C.toList)) h1 (U+1+1) (λ_ ap I=>∃o,k4 (U+1) U a b ap o/\(∀x,K o (F ap (U+1) x) I))):
  aH P s f [.slice none 0 0,.func (.func g) E C] h U K:=by
 refine aH.o0 M [] ?_;unfold oo;rw[A.c];have e:hZ P s [] (GX a b).body 0 (yd [Value.slice none 0 0,Value.func (.func g) E C] 0) h U (ss P (GX a b).res K) [] (ss P (GX a b).res K) =
  tO P s (.func (.func g) E C) (F h U (.cells [.slice none 0 0] false)) (U+1) (.loop 0 none (u4 (.func (.func g) E C) U) [7] a b) (yA (U+1) (λh _n=>af (iM none h (bf U)) λv=>af (.ok v) λv=>K v h _n) (λh _n=>yB P (u4 (.func (.func g) E C) U) h [.tmp 4] λl=>K (Do l) h _n)):=by kernel_rfl
 show hZ P s [] (GX a b).body 0 _ h U _ [] _;rw[e];refine(L _ ⟨_,aT _ _ _,(ar J).trans (aT _ _ _)⟩ λc a1=>(ar J).trans (ar J)).mono ?_;rintro _ ap I ⟨o,⟨nC,N,cf⟩,Z⟩;refine⟨0,none,_,[7],a,b,N,J,.inl ⟨rfl,?_⟩⟩;show af (iM none (F ap (U+1) _) (bf U)) λv=>af (.ok v) λv=>K v _ I;have V:∀x,u (F ap (U+1) x) U=some (.cells [o] false):=ab
 rw[K2,V];exact Z _
end
def eI:Int:=4611686018427387904
def jz(x:Int):Int:=(x+170141183460469231731687303715884105728) % 340282366920938463463374607431768211456-170141183460469231731687303715884105728
def jJ(r a b:Int):Int:=if r=2 then(if a=0/\b=0 then 0 else 1)else if r=5 then jz (a+b)else min a b
def he(r a x:Int):Int:=if r=2 then(if a≠0/\x≠0 then 1 else 0)else if r=5 then a*x else if eI<=max a x then eI else if r=1 then min eI (a+x)else min eI x
theorem amO(a b c:Int):jz (jz (a+b)+c)=jz (a+jz (b+c)):=by unfold jz;omega
theorem amP(r a b:Int):jJ r a b=jJ r b a:=by
 unfold jJ
 grind
theorem aks(r a b c:Int):jJ r (jJ r a b) c=jJ r a (jJ r b c):=by
 unfold jJ
 by_cases ap:r=2
 ·grind
 ·simp only[if_neg ap]
  by_cases A:r=5
  ·simp only[if_pos A];exact amO a b c
  omega
def e0(r:Int):aw Int->aw Int->aw Int
 |none,y=>y
 |some x,none=>some x
 |some x,some y=>some (jJ r x y)
theorem ra(r:Int)(x:aw Int):e0 r x none=x:=by cases x <;> rfl
theorem FB(r:Int)(x:aw Int):e0 r none x=x:=rfl
theorem X4(r:Int)(x y:aw Int):e0 r x y=e0 r y x:=by
 cases x <;> cases y <;> simp[e0,amP r]
theorem ti(r:Int)(x y z:aw Int):e0 r (e0 r x y) z=e0 r x (e0 r y z):=by
 cases x <;> cases y <;> cases z <;> simp[e0,aks]
def fl(r:Int):aa (aw Int)->aw Int
 | []=>none
 |x::l=>e0 r x (fl r l)
theorem FU(r:Int)(l bY:aa (aw Int)):fl r (l++bY)=e0 r (fl r l) (fl r bY):=by
 induction l with
 |nil=>rfl
 |cons x l A=>show e0 r x (fl r (l++bY))=_;rw[A,<-ti];rfl
theorem OE(r:Int)(l:aa (aw Int))(x:aw Int):fl r (l++[x])=e0 r (fl r l) x:=by rw[FU];show e0 r _ (e0 r x none)=_;rw[ra]
theorem X5{l bY:aa (aw Int)}(h:l.Perm bY):fl r l=fl r bY:=by
 induction h with
 |nil=>rfl
 |cons x _ A=>show e0 r x _=e0 r x _;rw[A]
 |swap x y l=>show e0 r y (e0 r x _)=e0 r x (e0 r y _);rw[<-ti,<-ti,X4 r y x]
 |trans _ _ h1 ap=>grind
theorem wc{l:aa (aw Int)}(h:∀x∈l,x=none):fl r l=none:=by
 induction l with
 |nil=>rfl
 |cons x l C=>show e0 r x _=_;rw[h x ab,C λy A=>h y (mG _ A)];rfl
theorem O8{az:Type}(r:Int)(f g:az->aw Int)(l:aa az):fl r (l.map λa=>e0 r (f a) (g a))=e0 r (fl r (l.map f)) (fl r (l.map g)):=by
 induction l with
 |nil=>rfl
 |cons x l A =>
  show e0 r (e0 r (f x) (g x)) (fl r (l.map _))=e0 r (e0 r (f x) (fl r (l.map f))) (e0 r (g x) (fl r (l.map g)));rw[A,ti,ti,<-ti r (g x),X4 r (g x),ti]
theorem ai8{az:Type}(r:Int)(f:az->aw Int)(c:az->Nat)(l:aa az)(n:Nat)(h:∀a∈l,c a<n):
  fl r (l.map f)=fl r ((List.range n).map λk=>fl r (l.map λa=>if c a=k then f a else none)):=by
 induction l with
 |nil =>
  symm
  refine wc λx C=>?_;simp at C;obtain⟨_,rfl⟩:=C.2;rfl
 |cons a l A =>
  have e:((List.range n).map λk=>fl r ((a::l).map λa=>if c a=k then f a else none))=(List.range n).map λk=>e0 r (if c a=k then f a else none) (fl r (l.map λa=>if c a=k then f a else none)):=rfl;rw[e,O8,<-A λb E=>h b (mG _ E)];have:fl r ((List.range n).map λk=>if c a=k then f a else none)=f a:=by
   have I:=h a (nQ ..);clear e A h
   induction n with
   |zero=>omega
   |succ n A =>
    rw[q6,iK,FU];show e0 r _ (e0 r (if c a=n then f a else none) none)=_;rw[ra]
    by_cases e:c a=n
    ·rw[if_pos e,wc,FB]
     grind
    ·rw[if_neg e,ra];grind
  rw[this];rfl
def bq{az:Type}(n:Nat)(f:Nat->aw az):aa (Nat × az):=(List.range n).filterMap λi=>(f i).map λx=>(i,x)
theorem ty{az:Type}(n:Nat)(f:Nat->aw az):bq (n+1) f=bq n f++(match f n with|some x=>[(n,x)]|none=>[]):=by
 unfold bq;rw[q6,List.filterMap_append]
 grind
theorem aw6{az:Type}(f:Nat->aw az):bq 0 f=[]:=rfl
theorem jS{az:Type}{n:Nat}{f:Nat->aw az}{x:az}:(i,x)∈bq n f↔i<n/\f i=some x:=by
 unfold bq;simp only[List.mem_filterMap,Fa,l9,Prod.mk.injEq]
 grind
theorem me{az:Type}(n:Nat)(f:Nat->aw az):(bq n f).length<=n:=by
 unfold bq
 grind
theorem yh{az:Type}(n:Nat)(f:Nat->aw az):(bq n f).Pairwise λx y=>x.1<y.1:=by
 induction n with
 |zero=>exact .nil
 |succ n C =>
  rw[ty,r7];refine⟨C,?_,λa A b E=>?_⟩
  ·cases f n <;> simp
  ·obtain⟨i,x⟩:=a;have:=jS.1 A
   grind
theorem x8{az:Type}{n:Nat}{f g:Nat->aw az}(h:∀i,i<n->f i=g i):bq n f=bq n g:=by
 induction n with
 |zero=>rfl
 |succ n A=>rw[ty,ty,A λi aj=>h i J,h n J]
theorem adq{az:Type}:∀{l bY:aa (Nat × az)},(l.Pairwise λx y=>x.1<y.1)->(bY.Pairwise λx y=>x.1<y.1)->(∀x,x∈l↔x∈bY)->l=bY
 | [],[],_,_,_=>rfl
 | [],b::bY,_,_,h=>by have:=(h b).2 (nQ ..);grind
 |a::l,[],_,_,h=>by have:=(h a).1 (nQ ..);grind
 |a::l,b::bY,h1,ap,h=>by
  rw[uA]at h1 ap;have A:a=b:=ab
  subst A;rw[adq h1.2 ap.2 λx=>?_]
  grind
theorem Q5{az:Type}{n:Nat}{f:Nat->aw az}{l:aa (Nat × az)}(h1:l.Pairwise λx y=>x.1<y.1)(ap:∀i x,(i,x)∈l↔i<n/\f i=some x):l=bq n f :=
 adq h1 (yh n f) λ⟨i,x⟩=>by rw[ap,jS]
theorem Oc{az:Type}(r:Int)(f:az->aw Int)(p:az->al)(l:aa az):fl r ((l.filter p).map f)=fl r (l.map λa=>if p a=true then f a else none):=by
 induction l with
 |nil=>rfl
 |cons a l A =>
  rw[q4]
  by_cases h:p a=true
  ·rw[if_pos h];show e0 r (f a) _=e0 r (if p a=true then f a else none) _
   grind
  ·rw[if_neg h];show _=e0 r (if p a=true then f a else none) _;rw[A,if_neg h];rfl
theorem JW{az:Type}{f g:az->aw Int}{l:aa az}(h:∀a∈l,f a=g a):fl r (l.map f)=fl r (l.map g):=by rw[oC h]
theorem X6{az:Type}(r:Int)(f:az->aw Int)(c:az->Nat)(ao:Nat->Nat)(A:∀i j,i<=j->ao i<=ao j)(C:ao 0=0)(l:aa az):
  ∀eC,fl r ((List.range eC).map λj=>fl r (l.map λa=>if ao j<=c a/\c a<ao (j+1)then f a else none))=fl r (l.map λa=>if c a<ao eC then f a else none)
 |0=>by
  symm
  refine wc λx E=>?_
  grind
 |eC+1=>by
  rw[q6,iK,FU,X6 r f c ao A C l eC];show e0 r _ (e0 r _ none)=_;rw[ra,<-O8];refine JW λa _=>?_;have:=A eC (eC+1) J
  by_cases h1:c a<ao eC
  ·rw[if_pos h1,if_neg J,if_pos J,ra]
  ·rw[if_neg h1,FB]
   grind
structure ju where
 A:Nat->Int
 B:Nat->Int
 q:Nat->al
def qB(k:Int)(a8:Nat->Int)(t:Nat)(s:ju)(v:Nat):aw Int :=
 if k=1 then(if s.q v=true then some (v:Int)else none)
 else if k=5 then(if t % 2=0 then(if s.q v=true then some 1 else none)else if s.A v=0 then some (a8 v)else none)
 else if s.q v=true then some (s.A v)else none
def su(k:Int)(s:ju)(v:Nat):al:=if k=1 then s.A v == -1 else if k=5 then s.A v == 0 else true
def gd(k:Int)(t:Nat):Int:=if k=2 then 1 else if k=4 then 5 else if k=5/\t % 2=0 then 2 else 4
def il(r:Int)(ag:aa GE)(x:Nat->aw Int)(v:Nat):aw Int:=fl r (ag.map λg=>if g.f=v then(x g.t).map (he r g.w)else none)
def sv(w:Int):al:=decide (-9223372036854775808<=w/\w<9223372036854775808)
def GZ(r:Int):Int:=if r=2\/r=5 then 0 else eI
def nf(r:Int)(o:aw Int):aw Int:=match o with|none=>none|some w=>if w=GZ r then none else some w
def km(k:Int)(a8:Nat->Int)(t:Nat)(s:ju)(v:Nat)(y:aw Int):Int × Int × al :=
 if k=1 then(match y with|some val=>if s.A v = -1 then((t:Int),val,true)else(s.A v,s.B v,false)|none=>(s.A v,s.B v,false))
 else if k=4 then(y.getD 0,s.B v,decide (y.getD 0≠0))
 else if k=5 then(if s.A v≠0 then(s.A v,s.B v,false)else if t % 2=0 then(if y.isSome=true then(2,s.B v,false)else(s.A v,s.B v,false))
  else match y with|some val=>if a8 v<val then(1,s.B v,true)else(s.A v,s.B v,false)|none=>(1,s.B v,true))
 else match y with|some val=>if val<s.A v then(val,s.B v,true)else(s.A v,s.B v,false)|none=>(s.A v,s.B v,false)
def sw(k src v:Int):Int:=if k=3 then v else if k=5 then 0 else if k=4/\v=src then 1 else if v=src\/k=4 then 0 else if k=1 then -1 else 4611686018427387904
def rz(k src v:Int):al:=if k=3 then true else if k=5 then false else decide (v=src)
structure jK where
 k:Int
 n:Nat
 src:Int
 len:Int
 uk:Nat->Nat->Int
 ag:aa GE
 lim:Nat
section
variable (e:jK)
def jK.a8(t:Nat):Nat->Int:=e.uk ((t-1) / 2)
def jK.TG(t:Nat)(s:ju):Nat->aw Int:=qB e.k (e.a8 t) t s
def jK.qC(t:Nat)(s:ju)(v:Nat):aw Int:=if su e.k s v=true then il (gd e.k t) e.ag (e.TG t s) v else none
def jK.step(t:Nat)(s:ju):ju where
 A v:=(km e.k (e.a8 t) t s v (nf (gd e.k t) (e.qC t s v))).1
 B v:=(km e.k (e.a8 t) t s v (nf (gd e.k t) (e.qC t s v))).2.1
 q v:=(km e.k (e.a8 t) t s v (nf (gd e.k t) (e.qC t s v))).2.2
def jK.st:Nat->ju
 |0=>{ A:=λv=>sw e.k e.src v,B:=λ_=>-1,q:=λv=>rz e.k e.src v }
 |t+1=>e.step (t+1) (jK.st t)
def jK.x(t:Nat):Nat->aw Int:=e.TG t (e.st (t-1))
def jK.S(t v:Nat):aw Int:=e.qC t (e.st (t-1)) v
def jK.ovP(t ao aj:Nat):Prop:=1<=t/\∃v w,ao<=v/\v<aj/\e.S t v=some w/\sv w=false
def aw7(k len:Int)(t:Nat)(s:ju)(v:Nat):al:=if k=4/\len<=t then false else if k=5 then s.A v == 0 else s.q v
def jK.liP(t ao aj:Nat):Prop:=∃v,ao<=v/\v<aj/\aw7 e.k e.len t (e.st t) v=true
open Classical in
noncomputable def jK.fS (t:Nat):Int:=if e.ovP t 0 e.n then 3 else if ¬e.liP t 0 e.n then 1 else if t=e.lim then 2 else 0
end
theorem jK.PZ(e:jK):e.fS e.lim≠0:=by unfold jK.fS;omega
theorem jK.last(e:jK):∃av,av<=e.lim/\e.fS av≠0/\∀t,t<av->e.fS t=0:=by
 have:∀n,(∃av,av<=n/\e.fS av≠0/\∀t,t<av->e.fS t=0)\/∀t,t<=n->e.fS t=0:=by
  intro n
  induction n with
  |zero =>
   grind
  |succ n A =>
   grind
 rcases this e.lim with h|h
 ·exact h
 ·exact absurd ab e.PZ
theorem O9{r:Int}(ap:r≠2)(E:r≠5):∀l:aa (aw Int),(fl r l=none/\∀x∈l,x=none)\/∃m,fl r l=some m/\some m∈l/\∀x,some x∈l->m<=x
 | []=>.inl ⟨rfl,λx A=>by cases A⟩
 |none::l=>by
  rcases O9 ap E l with⟨h,C⟩|⟨m,h,I,C⟩
  ·refine .inl ⟨h,λx A=>?_⟩;rcases gQ.1 A with e|e
   ·exact e
   ·exact C x e
  ·refine .inr ⟨m,h,mG _ I,λx A=>?_⟩;rcases gQ.1 A with e|e
   ·cases e
   ·exact C x e
 |some a::l=>by
  rcases O9 ap E l with⟨h,C⟩|⟨m,h,I,C⟩
  ·refine .inr ⟨a,?_,nQ ..,λx A=>?_⟩
   ·show e0 r (some a) (fl r l)=_;rw[h];rfl
   ·rcases gQ.1 A with e|e
    ·cases e;exact Int.le_refl _
    ·have:=C _ e;cases this
  ·have L:fl r (some a::l)=some (min a m):=by show e0 r (some a) (fl r l)=_;rw[h];show some (jJ r a m)=_;unfold jJ;rw[if_neg ap,if_neg E]
   refine .inr ⟨min a m,L,?_,λx A=>?_⟩
   ·by_cases M:a<=m
    ·rw[Int.min_eq_left M];exact nQ ..
    ·rw[Int.min_eq_right J];exact mG _ I
   ·rcases gQ.1 A with e|e
    ·cases e;exact Int.min_le_left _ _
    ·exact Int.le_trans (Int.min_le_right _ _) (C x e)
theorem azd(h:a<5000):he 4 1 a=a:=by unfold he eI;simp only[show ¬((4:Int)=2) by decide,show ¬((4:Int)=5) by decide,show ¬((4:Int)=1) by decide,ff];rw[if_neg J];omega
structure sx (e:jK) (aV:aa GE) (s:Nat):Prop where
 k:e.k=1
 src:e.src=(s:Int)
 s:s<e.n
 n:e.n<=4096
 w:∀g∈e.ag,g.w=1/\g.f<e.n/\g.t<e.n
 to:∀g∈e.ag,∃ck∈aV,ck.f=g.t/\ck.t=g.f
 fi:∀g∈aV,∃ck∈e.ag,ck.f=g.t/\ck.t=g.f
structure sy (e:jK) (aV:aa GE) (s t:Nat):Prop where
 hd:∀v,(e.st t).A v = -1\/(0<=(e.st t).A v/\(e.st t).A v<=t)
 src:(e.st t).A s=0
 zero:∀v,(e.st t).A v=0->v=s
 on:∀v,(e.st t).q v=decide ((e.st t).A v=t)
 pre:∀v,0<(e.st t).A v->∃g∈e.ag,g.f=v/\(e.st t).A g.t=(e.st t).A v-1/\(e.st t).B v=g.t
 post:∀g∈e.ag,0<=(e.st t).A g.t->(e.st t).A g.t<t->0<=(e.st t).A g.f/\(e.st t).A g.f<=(e.st t).A g.t+1
 low:∀g∈e.ag,0<(e.st t).A g.f->(e.st t).A g.t=(e.st t).A g.f-1->(e.st t).B g.f<=g.t
 none_:∀v,(e.st t).A v<=0->(e.st t).B v = -1
theorem Ly{e:jK}{aV:aa GE}{s:Nat}(E:sx e aV s)(t:Nat)(st:ju)(v:Nat):
  (st.A v≠-1\/(∀g∈e.ag,g.f=v->st.q g.t=false))/\(e.step t st).A v=st.A v/\(e.step t st).B v=st.B v/\(e.step t st).q v=false \/
  st.A v = -1/\∃g∈e.ag,g.f=v/\st.q g.t=true/\(e.step t st).A v=t/\(e.step t st).B v=g.t/\(e.step t st).q v=true/\∀I∈e.ag,I.f=v->st.q I.t=true->g.t<=I.t:=by
 have lZ:gd e.k t=4:=by unfold gd;simp[E.k]
 have cu:∀y,km e.k (e.a8 t) t st v y=(match y with|some val=>if st.A v = -1 then((t:Int),val,true)else(st.A v,st.B v,false)|none=>(st.A v,st.B v,false)):=λy=>by
  unfold km;rw[if_pos E.k];try(cases y <;> rfl)
 have aE:(e.step t st).A v=(km e.k (e.a8 t) t st v (nf (gd e.k t) (e.qC t st v))).1:=rfl;have aW:(e.step t st).B v=(km e.k (e.a8 t) t st v (nf (gd e.k t) (e.qC t st v))).2.1:=rfl;have Z:(e.step t st).q v=(km e.k (e.a8 t) t st v (nf (gd e.k t) (e.qC t st v))).2.2:=rfl
 by_cases L:st.A v = -1
 case neg =>
  left
  have:∀y,km e.k (e.a8 t) t st v y=(st.A v,st.B v,false):=λy=>by rw[cu];cases y <;> simp[L]
  rw[aE,aW,Z,this];exact⟨.inl L,rfl,rfl,rfl⟩
 have aBZ:e.qC t st v=fl 4 (e.ag.map λg=>if g.f=v then(if st.q g.t=true then some (g.t:Int)else none)else none):=by
  unfold jK.qC su il jK.TG qB;rw[if_pos E.k,L,if_pos (by decide),lZ];refine JW λg C=>?_;have h1:=E.w g C;have:=E.n;rw[if_pos E.k]
  by_cases h:g.f=v
  ·rw[if_pos h,if_pos h]
   by_cases ac:st.q g.t=true
   ·rw[if_pos ac];show some (he 4 g.w (g.t:Int))=_;rw[h1.1,azd J]
   ·rw[if_neg ac];rfl
  ·rw[if_neg h,if_neg h]
 have mem:∀g∈e.ag,g.f=v->st.q g.t=true->some (g.t:Int)∈e.ag.map λg=>if g.f=v then(if st.q g.t=true then some (g.t:Int)else none)else none:=λg C h1 ap =>
  fz.2 ⟨g,C,by rw[if_pos h1,if_pos ap]⟩
 rcases O9 (r:=4) (by decide) (by decide) (e.ag.map λg=>if g.f=v then(if st.q g.t=true then some (g.t:Int)else none)else none)with⟨h,M⟩|⟨m,h,bp,M⟩
 ·left
  have:km e.k (e.a8 t) t st v (nf (gd e.k t) (e.qC t st v))=(st.A v,st.B v,false):=by rw[aBZ,h,cu];rfl
  rw[aE,aW,Z,this];refine⟨.inr λg C h1=>?_,rfl,rfl,rfl⟩;cases ap:st.q g.t with
  |false=>rfl
  |true=>have:=M _ (mem g C h1 ap);cases this
 ·right
  obtain⟨g,C,A⟩:=fz.1 bp
  by_cases h1:g.f=v
  case neg=>rw[if_neg h1]at A;cases A
  rw[if_pos h1]at A
  by_cases ap:st.q g.t=true
  case neg=>rw[if_neg ap]at A;cases A
  rw[if_pos ap]at A;injection A with A
  have aM:=E.w g C;have:=E.n;have pb:nf (gd e.k t) (some m)=some m:=by unfold nf GZ;rw[lZ];simp only;rw[if_neg (show ¬((4:Int)=2\/(4:Int)=5) by decide),if_neg (by unfold eI;omega)]
  have xt:km e.k (e.a8 t) t st v (nf (gd e.k t) (e.qC t st v))=((t:Int),m,true):=by rw[aBZ,h,pb,cu];simp only;rw[if_pos L]
  rw[aE,aW,Z,xt];exact⟨L,g,C,h1,ap,rfl,A.symm,rfl,λI V N Me=>by have:=M _ (mem I V N Me);omega⟩
theorem sy.next{e:jK}{aV:aa GE}{s:Nat}(E:sx e aV s){t:Nat}(H:sy e aV s t):sy e aV s (t+1):=by
 have M:e.st (t+1)=e.step (t+1) (e.st t):=rfl;have EA:∀v,(e.st t).A v≠-1->(e.st (t+1)).A v=(e.st t).A v/\(e.st (t+1)).B v=(e.st t).B v:=λv C=>by
  rw[M];rcases Ly E (t+1) (e.st t) v with⟨_,h1,ap,_⟩|⟨h1,_⟩
  ·exact⟨h1,ap⟩
  ·exact absurd h1 C
 have fj:∀v,(e.st (t+1)).A v=(e.st t).A v/\(e.st (t+1)).B v=(e.st t).B v/\(e.st (t+1)).q v=false\/((e.st t).A v = -1/\(e.st (t+1)).A v=((t+1:Nat):Int)/\(e.st (t+1)).q v=true/\∃g∈e.ag,g.f=v/\(e.st t).A g.t=t/\(e.st (t+1)).B v=g.t/\∀L∈e.ag,L.f=v->(e.st t).A L.t=t->g.t<=L.t):=λv=>by
  rw[M];rcases Ly E (t+1) (e.st t) v with⟨_,h1,ap,I⟩|⟨h1,g,A,ap,I,bc,b3,cy,ev⟩
  ·exact .inl ⟨h1,ap,I⟩
  ·rw[H.on]at I;exact .inr ⟨h1,bc,cy,g,A,ap,of_decide_eq_true I,b3,λL V aW aK=>ev L V aW (by rw[H.on];exact gP aK)⟩
 refine⟨λv=>?_,?_,λv C=>?_,λv=>?_,λv C=>?_,λg A N h1=>?_,λg A N h1=>?_,λv C=>?_⟩
 ·rcases fj v with⟨h,_⟩|⟨_,h,_⟩
  ·rw[h];have:=H.hd v;omega
  ·rw[h];omega
 ·rw[(EA s (by rw[H.src];decide)).1];exact H.src
 ·rcases fj v with⟨h,_⟩|⟨_,h,_⟩
  ·rw[h]at C;exact H.zero v C
  ·rw[h]at C;omega
 ·rcases fj v with⟨h,_,dt⟩|⟨_,h,dt,_⟩
  ·rw[dt,h];have:=H.hd v;symm;exact hD J
  ·rw[dt,h];symm;exact gP rfl
 ·rcases fj v with⟨h,Z,_⟩|⟨_,h,_,g,A,h1,ap,I,_⟩
  ·rw[h]at C;obtain⟨g,A,aW,aK,cf⟩:=H.pre v C;exact⟨g,A,aW,by rw[h,(EA g.t J).1,aK],by rw[Z];exact cf⟩
  ·exact⟨g,A,h1,by rw[h,(EA g.t J).1,ap];omega,I⟩
 ·have e9:(e.st (t+1)).A g.t=(e.st t).A g.t:=by
   rcases fj g.t with⟨h,_⟩|⟨_,h,_⟩
   ·exact h
   ·omega
  rw[e9]at N h1 ⊢
  by_cases ct:(e.st t).A g.t<t
  ·have:=H.post g A N ct;rw[(EA g.f J).1];exact this
  ·have ci:(e.st t).A g.t=t:=J
   rcases fj g.f with⟨h,_⟩|⟨_,h,_⟩
   ·have g6:(e.st t).A g.f≠-1:=λbp=>by
     have:=Ly E (t+1) (e.st t) g.f;rcases this with⟨I|I,_⟩|⟨_,L,_,_,_,bc,_⟩
     ·exact I bp
     ·have:=I g A rfl;rw[H.on,gP ci]at this;cases this
     ·rw[<-M,h,bp]at bc;omega
    have:=H.hd g.f;rw[h];omega
   ·rw[h];omega
 ·rcases fj g.f with⟨h,Z,_⟩|⟨_,h,_,L,V,aW,aK,cf,dT⟩
  ·rw[h]at N h1;rw[Z];refine H.low g A N ?_;rcases fj g.t with⟨ac,_⟩|⟨_,ac,_⟩
   ·rw[<-ac];exact h1
   ·have:=H.hd g.f;omega
  ·rw[cf];have:(e.st t).A g.t=t:=by
    rcases fj g.t with⟨ac,_⟩|⟨_,ac,_⟩
    ·omega
    ·omega
   have:=dT g A rfl this;omega
 ·rcases fj v with⟨h,Z,_⟩|⟨_,h,_⟩
  ·rw[Z];rw[h]at C;exact H.none_ v C
  ·omega
theorem sy.all{e:jK}{aV:aa GE}{s:Nat}(E:sx e aV s):∀t,sy e aV s t
 |0=>by
  have A:∀v,(e.st 0).A v=if v=s then 0 else -1:=λv=>by
   show sw e.k e.src v=_;unfold sw;rw[E.k,E.src]
   by_cases h:v=s
   ·subst h;simp
   ·rw[if_neg h];simp;omega
  have M:∀v,(e.st 0).q v=decide (v=s):=λv=>by
   show rz e.k e.src v=_;unfold rz;rw[E.k,E.src]
   by_cases h:v=s
   ·subst h;simp
   ·simp[h];omega
  refine⟨λv=>by rw[A];split <;> omega,by rw[A,if_pos rfl],λv C=>?_,λv=>?_,λv C=>?_,λg L I h1=>J,λg L I=>?_,λv _=>rfl⟩
  ·rw[A]at C
   by_cases h:v=s
   ·exact h
   ·rw[if_neg h]at C;cases C
  ·rw[A,M]
   by_cases h:v=s
   ·rw[if_pos h];simp[h]
   ·rw[if_neg h];simp[h]
  ·rw[A]at C;split at C <;> omega
  ·rw[A]at I;split at I <;> omega
 |t+1=>(sy.all E t).next E
section
variable {e:jK} {aV:aa GE} {s:Nat}
theorem Aa{v:Nat}{f:Nat->Int}(A:v<e.n):((List.range e.n).map f)[v]? = some (f v):=by rw[sa,B9 A];rfl
theorem yi{v:Nat}{x:Int}{f:Nat->Int}(h:((List.range e.n).map f)[v]? = some x):v<e.n/\x=f v:=by have h1:=(hn.1 h).1;simp at h1;rw[Aa h1]at h;exact⟨h1,by cases h;rfl⟩
theorem sy.SE(E:sx e aV s){t:Nat}(H:sy e aV s t):nk e.n aV s t 0 ((List.range e.n).map (e.st t).A):=by
 refine⟨by simp,by rw[Aa E.s,H.src],λv x h=>?_,λv h=>?_,λv x h N=>?_,λj g I x h N h1=>?_⟩
 ·obtain⟨_,rfl⟩:=yi h;have:=H.hd v;omega
 ·obtain⟨_,h⟩:=yi h;exact H.zero v h.symm
 ·obtain⟨V,rfl⟩:=yi h;obtain⟨g,I,h1,ap,_⟩:=H.pre v N;obtain⟨M,A,L,C⟩:=E.to g I;exact⟨M,A,by rw[C,h1],by rw[L,Aa (E.w g I).2.2,ap]⟩
 ·obtain⟨V,rfl⟩:=yi h;obtain⟨M,A,L,C⟩:=E.fi g (kz I);have:=H.post M A (by rw[C];exact N) (by rw[C];omega);rw[L,C]at this;exact⟨_,Aa (by rw[<-L];exact(E.w M A).2.1),this.1,this.2⟩
theorem sx.quiet(E:sx e aV s){t:Nat}(ci:e.n<=t)(v:Nat)(N:v<e.n):(e.st t).q v=false:=by
 have H:=sy.all E t;rw[H.on];refine hD λh=>?_;have M:=FA (λv x h I=>(H.SE E).pre v x h I) t v (by rw[Aa N,h]);have L:=Fp ((List.range (t+1)).map λk:Nat=>(k:Int)) ((List.range e.n).map (e.st t).A) ?_ λx C=>?_
 ·simp at L;omega
 ·rw[ER,tc];exact(Jg (n:=t+1)).imp λA Z=>A J
 ·simp at C;obtain⟨k,V,rfl⟩:=C;exact M k J
theorem sx.still(E:sx e aV s){t:Nat}(I:∀v,v<e.n->(e.st t).q v=false):∀d,(∀v,v<e.n->(e.st (t+d)).q v=false)/\(∀v,(e.st (t+d)).A v=(e.st t).A v)/\∀v,(e.st (t+d)).B v=(e.st t).B v
 |0=>⟨I,λ_=>rfl,λ_=>rfl⟩
 |d+1=>by
  obtain⟨h1,ap,M⟩:=still E I d;have A:∀v,(e.st (t+(d+1))).A v=(e.st (t+d)).A v/\(e.st (t+(d+1))).B v=(e.st (t+d)).B v/\(e.st (t+(d+1))).q v=false:=λv=>by
   show(e.step (t+d+1) (e.st (t+d))).A v=_/\(e.step (t+d+1) (e.st (t+d))).B v=_/\(e.step (t+d+1) (e.st (t+d))).q v=_;rcases Ly E (t+d+1) (e.st (t+d)) v with⟨_,a,b,c⟩|⟨_,g,L,_,C,_⟩
   ·exact⟨a,b,c⟩
   ·rw[h1 _ (E.w g L).2.2]at C;cases C
  exact⟨λv _=>(A v).2.2,λv=>by rw[(A v).1,ap],λv=>by rw[(A v).2.1,M]⟩
theorem sx.TF(E:sx e aV s){t:Nat}(dt:∀v,v<e.n->(e.st t).q v=false):lr e.n aV s ((List.range e.n).map (e.st t).A)/\qK aV ((List.range e.n).map (e.st t).A) e.n ((List.range e.n).map (e.st t).B):=by
 have Z:t<=e.n\/e.n<=t:=J
 have g6:∃aI,e.n<=aI/\(∀v,(e.st aI).A v=(e.st t).A v)/\nk e.n aV s e.n 0 ((List.range e.n).map (e.st t).A):=by
  rcases Z with h|h
  ·obtain⟨d,bj⟩:∃d,e.n=t+d:=⟨e.n-t,J⟩
   obtain⟨h1,ap,A⟩:=E.still dt d;rw[<-bj]at h1 ap A;refine⟨e.n,cD _,ap,?_⟩;have:=(sy.all E e.n).SE E;rwa[oC λv _=>ap v]at this
  ·obtain⟨d,bj⟩:∃d,t=e.n+d:=⟨t-e.n,J⟩
   obtain⟨h1,ap,A⟩:=E.still (t:=e.n) (λv aG=>E.quiet (cD _) v aG) d;rw[<-bj]at h1 ap A;refine⟨t,h,λ_=>rfl,?_⟩;have:=(sy.all E e.n).SE E;rwa[<-oC λv _=>ap v]at this
 obtain⟨aI,ej,_,p9⟩:=g6;have H:=sy.all E t;refine⟨p9.done,by simp,λv x h=>?_⟩;obtain⟨aG,rfl⟩:=yi h;unfold mM
 by_cases I:0<(e.st t).A v
 ·right
  obtain⟨g,L,h1,ap,A⟩:=H.pre v I;obtain⟨ck,M,aW,aK⟩:=E.to g L;rw[hC];refine⟨ck,M,⟨by rw[aK,h1],_,Aa aG,I,by rw[aW,Aa (E.w g L).2.2,ap]⟩,by rw[A,aW],λg2 iq a1=>?_⟩;obtain⟨C,y,c2,b8,fL⟩:=a1;obtain⟨_,rfl⟩:=yi c2;obtain⟨ul,hv⟩:=yi fL;obtain⟨c6,N,V,fW⟩:=E.fi g2 iq;have:=H.low c6 N (by rw[V,C];exact I) (by rw[fW,V,C];exact hv.symm);rw[V,fW,C,A]at this;omega
 ·left
  refine⟨H.none_ v J,λg L a1=>?_⟩;obtain⟨C,y,c2,b8,fL⟩:=a1;obtain⟨_,rfl⟩:=yi c2;exact I b8
end
def hit(D l:aa Int)(v:Nat):al:=decide (l[v]? = D[v]?)
end Go.Ax
