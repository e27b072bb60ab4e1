/- Parts of the proof: Cm2: each statement bears its own conditions. -/
import Derived.Test.YthlhhajnbgjfmaaGreatRpCm1
namespace Go.Ax
open Go
set_option linter.all false
set_option maxHeartbeats 1000000
variable {cv:Array al} {h:ae} {all:aa Oper} {p:Nat} {gk:World} {i:Nat} {fe:Type} {args:aa X} {d:aw Nat} {e0:aa (aa Nat)} {L:aa Nat} {c:Nat} {iB:ce} {n:Nat} {seen:aa Nat} {j b:Nat} {az:Type} {tmps:Array X} {k K:bN} {q:Nat} {c5:kV} {o:Oper} {t:eX} {Q:Exit->Act->World->Prop} {g:aw (Nat × al)} {aF:aa X} {vW oS:aa (aa Nat)} {cf:aa Nat} {v:X} {ar:aa ae} {e:vV} {f:FuncId} {cs:aa X} {a:Act} {st:Nat} {r:fr} {ap ag:Nat} {dm:bN} {l:aa ma} {body:Code} {m:Nat} {pl:Place} {rY:Code} {j9:Nat} {fn:Func} {sp:fq} {x y:h5}
def Ha(P:Program)(o:Oper):al:=match ph P o.op with|some k=>jn k|none=>false
def kb(a4:aa Oper):aa Nat:=(Region.before ⟨a4⟩).toList
def oo(a4:List Oper)(o:Oper):List Nat :=
 o.dst.toList++(o.op.operands.toList.filterMap λ| .tmp t=>some t|_=>none) ++
 (match o.guard with|some (g,_)=>((g3 a4 g).bind (·.dst)).toList|none=>[])
def kr(a:aa Nat)(j i:Nat):al:=((g3 a j).getD 0).testBit i
def sI(P:Program)(a4:aa Oper)(i:Nat):al:=((g3 a4 i).map (Ha P)).getD false
def Lh(P:Program)(a4:aa Oper)(a:aa Nat)(before:aa Nat)(i:Nat):Nat:=(before.filter (λe=>sI P a4 e&&!kr a i e)).length
def AB(P:Program)(a4:aa Oper)(a:aa Nat)(i j:Nat):al :=
 !Nat.beq i j&&!kr a i j &&
 (!sI P a4 j||kr a j i) &&
 (match g3 a4 i,g3 a4 j with
  |some x,some y=>kr a j i||((x.dst.toList.all λd=>!(oo a4 y).contains d)&&(y.dst.toList.all λd=>!(oo a4 x).contains d))
  |_,_=>false)
theorem Xf(look:Nat->Nat):∀(A:aa Edge) (s i:Nat),(A.foldl (λs e=>if Region.binds .any e then s ||| 2 ^ e.on ||| look e.on else s) s).testBit i=true ->
  s.testBit i=true\/∃e∈A,Region.binds .any e=true/\(e.on=i\/(look e.on).testBit i=true)
 | [],s,i,h=>.inl h
 |e::A,s,i,h=>by
  rw[Fq]at h;rcases Xf look A _ i h with h|⟨C,D,E⟩
  all_goals grind
def Good(y7:aa Oper)(acc:Array Nat):Prop:=acc.size=y7.length/\∀j i,(acc.getD j 0).testBit i=true ->
 ∃o e,y7[j]? = some o/\e∈o.after/\Region.binds .any e=true/\(e.on=i\/(e.on<j/\(acc.getD e.on 0).testBit i=true))
theorem JK{A:Array Nat}{v:Nat}(h:j<A.size):(A.push v).getD j 0=A.getD j 0:=by simp[qC,Array.getElem?_push,Nat.ne_of_lt h]
theorem X2:∀(I C:aa Oper) (A:Array Nat),Good C A ->
  Good (C++I) (I.foldl (λA o=>A.push (o.after.foldl (λs e=>if Region.binds .any e then s ||| 2 ^ e.on ||| A.getD e.on 0 else s) 0)) A)
 | [],C,A,h=>by simpa using h
 |o::I,C,A,⟨h1,ao⟩=>by
  have:=X2 I (C++[o]) (A.push (o.after.foldl (λs e=>if Region.binds .any e then s ||| 2 ^ e.on ||| A.getD e.on 0 else s) 0)) ?_
  ·simpa using this
  refine⟨ab,λj i M=>?_⟩;rcases z1 j A.size with V|V|V
  ·rw[JK V]at M;obtain⟨aX,e,bP,Z,D,N⟩:=ao j i M;refine⟨aX,e,?_,Z,D,?_⟩
   ·grind
   ·rcases N with N|⟨N,hw⟩
    ·omega
    ·exact .inr ⟨N,by rw[JK J];omega⟩
  ·subst V;have aI:(A.push (o.after.foldl (λs e=>if Region.binds .any e then s ||| 2 ^ e.on ||| A.getD e.on 0 else s) 0)).getD A.size 0=o.after.foldl (λs e=>if Region.binds .any e then s ||| 2 ^ e.on ||| A.getD e.on 0 else s) 0:=by simp[qC]
   rw[aI,<-z0]at M;rcases Xf (λk=>A.getD k 0) o.after.toList 0 i M with h|⟨e,bP,Z,D⟩
   ·grind
   ·refine⟨o,e,ab,ab,Z,?_⟩;rcases D with D|D
    ·omega
    ·right
     have E:e.on<A.size:=ab
     exact⟨E,by rw[JK E];omega⟩
  grind
theorem OA(a4:aa Oper)(j i:Nat):kr (kb a4) j i=((Region.before ⟨a4⟩).getD j 0).testBit i:=by unfold kr kb;rw[i4];simp[qC]
theorem am8{a4:aa Oper}(h:kr (kb a4) j i=true):∃o e,a4[j]? = some o/\e∈o.after/\Region.binds .any e=true/\(e.on=i\/(e.on<j/\kr (kb a4) e.on i=true)):=by
 rw[OA]at h;have D:Good a4 (Region.before ⟨a4⟩):=by have:=X2 a4 [] #[] ⟨rfl,λj i h=>ab⟩;unfold Region.before;rw[<-z0];simpa using this
 obtain⟨o,e,C,E,A,I⟩:=D.2 j i h;exact⟨o,e,C,E,A,by rw[OA];omega⟩
theorem Zd(look:Nat->Nat):∀(A:aa Edge) (s:Nat),(∀i,s.testBit i=true->(A.foldl (λs e=>if Region.binds .any e then s ||| 2 ^ e.on ||| look e.on else s) s).testBit i=true) /\
  ∀e∈A,Region.binds .any e=true->(A.foldl (λs e=>if Region.binds .any e then s ||| 2 ^ e.on ||| look e.on else s) s).testBit e.on=true
 | [],s=>ab
 |x::A,s=>by
  obtain⟨C,D⟩:=Zd look A (if Region.binds .any x then s ||| 2 ^ x.on ||| look x.on else s)
  grind
theorem X3:∀(E C:aa Oper) (A:Array Nat),A.size=C.length->(∀j o e,C[j]? = some o->e∈o.after->Region.binds .any e=true->(A.getD j 0).testBit e.on=true) ->
  ∀(j:Nat) (o:Oper) (e:Edge),(C++E)[j]? = some o->e∈o.after->Region.binds .any e=true ->
   ((E.foldl (λA o=>A.push (o.after.foldl (λs e=>if Region.binds .any e then s ||| 2 ^ e.on ||| A.getD e.on 0 else s) 0)) A).getD j 0).testBit e.on=true
 | [],C,A,_,h,j,o,e,V,N,I=>ab
 |x::E,C,A,M,h,j,o,e,V,N,I=>by
  refine X3 E (C++[x]) (A.push (x.after.foldl (λs e=>if Region.binds .any e then s ||| 2 ^ e.on ||| A.getD e.on 0 else s) 0)) ab (λj o e V N I=>?_) j o e ab N I;rcases z1 j C.length with D|D|D
  ·rw[JK J]
   grind
  ·have Z:x=o:=ab
   subst Z;have aI:(A.push (x.after.foldl (λs e=>if Region.binds .any e then s ||| 2 ^ e.on ||| A.getD e.on 0 else s) 0)).getD j 0=x.after.foldl (λs e=>if Region.binds .any e then s ||| 2 ^ e.on ||| A.getD e.on 0 else s) 0:=by rw[D,<-M];simp[qC]
   rw[aI,<-z0];exact(Zd (λk=>A.getD k 0) x.after.toList 0).2 e ab I
  grind
theorem am9{a4:aa Oper}{e:Edge}(D:a4[j]? = some o)(C:e∈o.after)(A:Region.binds .any e=true):kr (kb a4) j e.on=true:=by
 rw[OA];have:=X3 a4 [] #[] rfl ab j o e ab C A;unfold Region.before
 grind
theorem Xg{a4:aa Oper}{L:Nat->Prop}(C:∀j o e,L j->a4[j]? = some o->e∈o.after->Region.binds .any e=true->L e.on):∀(j:Nat),(∀o e,a4[j]? = some o->e∈o.after->Region.binds .any e=true->L e.on) ->
  ∀i,kr (kb a4) j i=true->L i:=by
 intro j
 induction j using Nat.strongRecOn with
 |_ j N =>
  intro b5 i I;obtain⟨o,e,M,ao,E,A⟩:=am8 I;have D:=b5 o e M ao E;rcases A with A|⟨A,bY⟩
  ·rw[<-A];exact D
  ·exact N e.on A (λV dS bP g2 Z=>C e.on V dS D bP g2 Z) i bY
structure tU (P:Program) (a4:aa Oper) (bJ:aa eX):Prop where
 step:∀(p:Nat) (s:eX),bJ[p]? = some s->a4[s.i]? = some s.o/\ph P s.o.op=some s.k/\s.vA=Lh P a4 (kb a4) ((bJ.take p).map (·.i)) s.i
 cover:∀(i:Nat),i<a4.length->∃(p:Nat) (s:eX),bJ[p]? = some s/\s.i=i
 inside:∀(j:Nat) (o:Oper) (e:Edge),a4[j]? = some o->e∈o.after->Region.binds .any e=true->e.on<j
 pair:∀(p q:Nat) (s t:eX),p<q->bJ[p]? = some s->bJ[q]? = some t->AB P a4 (kb a4) s.i t.i=true
 len:bJ.length=a4.length
theorem R2(m k:Nat):kW m k=m.testBit k:=by
 show Nat.beq ((m >>> k) &&& 1) 1=(1 &&& (m >>> k) != 0)
 rw[Nat.and_comm 1,Js];rcases Nat.mod_two_eq_zero_or_one (m >>> k)with h|h <;> rw[h] <;> rfl
theorem abd{C:aa Nat}{A:Array Nat}(E:A.toList=C):∀(D:aa Edge) (s:Nat),LA C D s=D.foldl (λs e=>if Region.binds .any e then s ||| 2 ^ e.on ||| A.getD e.on 0 else s) s
 | [],s=>rfl
 |e::D,s=>by
  have I:(g3 C e.on).getD 0=A.getD e.on 0:=by rw[i4,<-E];simp[qC]
  show LA C D _=_;rw[abd E D,Fq,I];cases Region.binds .any e <;> rfl
theorem Ze:∀(D:aa Oper) (C:aa Nat) (A:Array Nat),A.toList=C ->
  (D.foldl (λC o=>C.push (o.after.foldl (λs e=>if Region.binds .any e then s ||| 2 ^ e.on ||| C.getD e.on 0 else s) 0)) A).toList=Le D C
 | [],C,A,h=>h
 |o::D,C,A,h=>by rw[Fq];refine Ze D _ _ ?_;rw[Array.toList_push,h,jK,abd h,<-z0]
theorem akI(a4:aa Oper):Le a4 []=kb a4:=by unfold kb Region.before;rw[<-Ze a4 [] #[] rfl,<-z0]
def w8(P:Program)(a4:aa Oper)(x:h5):Prop:=a4[x.i]? = some x.o/\ph P x.o.op=some x.k/\x.e=Ha P x.o/\x.ET=DN x.o.dst/\x.l9=Sx a4 x.o/\g3 (kb a4) x.i=some x.am
theorem abe{P:Program}{all:aa Oper}:∀(C:aa Oper) (i9:aa Nat) (j:Nat) (D:aa h5),LC P all j C i9=some D->(∀k o,C[k]? = some o->all[j+k]? = some o)->(∀k a,i9[k]? = some a->g3 (kb all) (j+k)=some a)->∀x∈D,w8 P all x
 | [],i9,j,D,h,_,_,x,A=>by cases i9 <;> cases h <;> cases A
 |o::C,[],j,D,h,_,_,x,A=>by cases h;cases A
 |o::C,a::i9,j,D,h,M,N,x,A=>by
  simp only[LC,jI,mq]at h;obtain⟨k,E,I,h,rfl⟩:=h;rcases gh.1 A with rfl|A
  ·exact⟨by simpa using M 0 o rfl,E,by simp[Ha,E],rfl,rfl,by simpa using N 0 a rfl⟩
  ·refine abe C i9 (j+1) I h (λk V E=>?_) (λk Z E=>?_) x A
   ·have:=M (k+1) V ab
    grind
   ·have:=N (k+1) Z ab
    grind
theorem OB{A j9:Nat}:∀{l:aa h5} {x:h5},x∈G7 A j9 l->x∈l
 | [],x,h=>by cases h
 |y::l,x,h=>by
  unfold G7 at h;cases C:(kW A y.i&&!kW j9 y.i)with
  |true =>
   rw[C]at h;rcases gh.1 h with rfl|h
   ·grind
   ·exact jZ _ (OB h)
  |false=>rw[C]at h;exact jZ _ (OB h)
theorem OC{j9:Nat}:∀{l:aa h5} {x:h5},x∈G8 j9 l->x∈l
 | [],x,h=>by cases h
 |y::l,x,h=>by
  unfold G8 at h;cases A:kW j9 y.i with
  |false =>
   rw[A]at h;rcases gh.1 h with rfl|h
   ·grind
   ·exact jZ _ (OC h)
  |true=>rw[A]at h;exact jZ _ (OC h)
theorem Ol{all:aa h5}:∀{l:aa h5} {j9:Nat} {x:h5},(∀y∈l,y∈all)->x∈tF all l j9->x∈all
 | [],j9,x,_,h=>OC h
 |y::l,j9,x,C,h=>by
  unfold tF at h;cases A:(y.e&&!kW j9 y.i)with
  |false=>rw[A]at h;exact Ol ab h
  |true =>
   rw[A]at h;simp only[qF,jK,he,gh]at h;rcases h with h|rfl|h
   ·exact OB h
   ·grind
   ·exact Ol ab h
theorem J9{t:Nat}(h:t∈d.toList):(DN d).testBit t=true:=by
 cases d with
 |none=>cases h
 |some d =>
  simp at h;subst h;show(2 ^ t).testBit t=true;simp
theorem F3{t:Nat}:∀{xs:aa Operand},t∈(xs.filterMap λ| .tmp t=>some t|_=>none)->(DO xs).testBit t=true
 | [],h=>ab
 |x::xs,h=>by
  rw[List.filterMap_cons]at h;cases x with
  |tmp A =>
   simp only[gh]at h;show(2 ^ A ||| DO xs).testBit t=true;rw[Fu];rcases h with rfl|h
   ·simp
   ·rw[F3 h];simp
  |const v=>exact F3 (xs:=xs) h
  |global g=>exact F3 (xs:=xs) h
  |func f=>exact F3 (xs:=xs) h
theorem Zf{a4:List Oper}{t:Nat}(h:t∈oo a4 o):(Sx a4 o).testBit t=true:=by
 unfold oo at h;show(DN o.dst ||| (DO o.op.operands.toList ||| LB a4 o.guard)).testBit t=true;rw[Fu,Fu];simp only[he]at h;rcases h with(h|h)|h
 ·rw[J9 h];rfl
 ·rw[F3 h];simp
 ·have:(LB a4 o.guard).testBit t=true:=by
   unfold LB
   split at h
   ·rename_i g b C
    cases A:g3 a4 g with
    |none=>grind
    |some D =>
     rw[A]at h;simp only[C,A];exact J9 h
   grind
  grind
theorem Zg{a t:Nat}(h:Sy a b=true)(A:a.testBit t=true)(C:b.testBit t=true):False:=by
 have:a &&& b=0:=gr h;have D:(a &&& b).testBit t=true:=ab
 grind
theorem ana{P:Program}{a4:aa Oper}(Z:w8 P a4 x)(ck:w8 P a4 y)(h:DA x y=true):AB P a4 (kb a4) x.i y.i=true:=by
 obtain⟨iD,h7,hM,ux,B3,Nn⟩:=Z;obtain⟨I,cE,cm,di,ee,ev⟩:=ck;unfold DA at h;simp only[eo]at h;obtain⟨⟨⟨h1,ao⟩,N⟩,A⟩:=h;have C:∀k,kW x.am k=kr (kb a4) x.i k:=λk=>by unfold kr;rw[Nn,R2];rfl
 have D:∀k,kW y.am k=kr (kb a4) y.i k:=λk=>by unfold kr;rw[ev,R2];rfl
 rw[C]at ao;rw[D]at N A;have V:sI P a4 y.i=y.e:=by unfold sI;rw[i4,I,cm];rfl
 unfold AB;simp only[eo];refine⟨ab,?_⟩;rw[i4,i4,iD,I];simp only[Fp,eo]at A ⊢;rcases A with A|⟨A,M⟩
 ·grind
 ·right
  constructor
  ·rw[CC];intro d E;cases a1:(oo a4 y.o).contains d with
   |false=>rfl
   |true =>
    exfalso;rw[ux,ee]at A;exact Zg A (J9 E) (Zf ab)
  ·rw[CC];intro d E;cases a1:(oo a4 x.o).contains d with
   |false=>rfl
   |true =>
    exfalso;rw[di,B3]at M;exact Zg M (J9 E) (Zf ab)
theorem abf{x:h5}:∀{l:aa h5},DP x l=true->∀y∈l,DA x y=true
 | [],_,y,A=>ab
 |z::l,h,y,A=>by
  unfold DP at h;obtain⟨D,C⟩:DA x z=true/\DP x l=true:=ab
  rcases gh.1 A with rfl|A
  ·omega
  ·exact abf C y A
theorem X4:∀{l:aa h5},GK l=true->∀(p q:Nat) (x y:h5),p<q->l[p]? = some x->l[q]? = some y->DA x y=true
 | [],_,p,q,x,y,_,h,_=>ab
 |z::l,h,p,q,x,y,C,ag,A=>by
  unfold GK at h;obtain⟨D,E⟩:DP z l=true/\GK l=true:=ab
  cases q with
  |zero=>omega
  |succ q =>
   have A:l[q]? = some y:=ab
   cases p with
   |zero=>simp at ag;subst ag;exact abf D y ab
   |succ p=>exact X4 E p q x y J ab A
theorem Zh{i:Nat}:∀{l:aa h5},(AY l).testBit i=true->∃x∈l,x.i=i
 | [],h=>by simp[AY]at h
 |x::l,h=>by
  have h:(2 ^ x.i ||| AY l).testBit i=true:=h;rw[Fu]at h;simp only[Fp]at h;rcases h with h|h
  ·grind
  ·obtain⟨y,A,C⟩:=Zh h
   grind
theorem abg{j:Nat}:∀{A:aa Edge},AZ j A=true->∀e∈A,Region.binds .any e=true->e.on<j
 | [],_,e,C,_=>ab
 |x::A,h,e,C,D=>by
  unfold AZ at h;obtain⟨E,I⟩:(!Region.binds .any x||Nat.blt x.on j)=true/\AZ j A=true:=ab
  rcases gh.1 C with rfl|C
  ·rw[D]at E;simpa[wq]using E
  ·exact abg I e C D
theorem abh:∀{A:aa Oper} {j:Nat},Hr j A=true->∀k o,A[k]? = some o->AZ (j+k) o.after.toList=true
 | [],j,_,k,o,h=>ab
 |x::A,j,h,k,o,D=>by
  unfold Hr at h;obtain⟨E,C⟩:AZ j x.after.toList=true/\Hr (Nat.succ j) A=true:=ab
  cases k with
  |zero=>grind
  |succ k =>
   have:=abh C k o ab
   grind
theorem abi{P:Program}{a4:aa Oper}{y:h5}(A:w8 P a4 y):∀{b:aa h5},(∀x∈b,w8 P a4 x)->Hs y.am b=((b.map (·.i)).filter (λe=>sI P a4 e&&!kr (kb a4) y.i e)).length
 | [],_=>rfl
 |x::b,h=>by
  have N:=abi A (b:=b) λz Z=>h z ab;obtain⟨C,h7,D,V,B3,I⟩:=h x ab;have E:sI P a4 x.i=x.e:=by unfold sI;rw[i4,C,D];rfl
  have M:kr (kb a4) y.i x.i=kW y.am x.i:=by unfold kr;rw[A.2.2.2.2.2,R2];rfl
  unfold Hs
  grind
theorem WT{P:Program}{a4:aa Oper}:∀{l b:aa h5},(∀x∈l,w8 P a4 x)->(∀x∈b,w8 P a4 x)->(sK b l).map (·.i)=l.map (·.i) /\
  ∀p s,(sK b l)[p]? = some s->a4[s.i]? = some s.o/\ph P s.o.op=some s.k/\s.vA=Lh P a4 (kb a4) ((b.reverse.map (·.i))++((sK b l).take p).map (·.i)) s.i
 | [],b,_,_=>⟨rfl,λp s A=>by simp[sK]at A⟩
 |x::l,b,I,E=>by
  have C:=I x ab;obtain⟨M,N⟩:=WT (l:=l)  (λz D=>I z ab) (λz D=>by
   rcases gh.1 D with rfl|D
   ·exact C
   ·exact E z D)
  refine⟨by simp[sK,M],λp s A=>?_⟩;cases p with
  |zero =>
   simp[sK]at A;subst A;refine⟨C.1,C.2.1,?_⟩;unfold Lh;rw[abi C E]
   grind
  |succ p =>
   have:=N p s (by simpa[sK]using A);simpa[sK]using this
theorem ai0{P:Program}{a4:aa Oper}{bJ:aa eX}(h:Q6 P a4=some bJ):tU P a4 bJ:=by
 obtain⟨M,Bq,h⟩:=jI.1 h;have N:∀x∈M,w8 P a4 x:=abe a4 _ 0 M Bq ab (λk a hk=>by rw[<-akI,i4];grind);have A:∀x∈tF M M 0,w8 P a4 x:=λx I=>N x (Ol ab I);generalize tF M M 0=l at h A;obtain⟨V,jc⟩:=tz h;simp only[eo]at V;obtain⟨D,C,Z,E⟩:=V;cases jc;obtain⟨h1,ao⟩:=WT A (b:=[]) (λx I=>by cases I);have D:l.length=a4.length:=by have:=gr D;rwa[oi,oi]at this
 have C:AY l=2 ^ a4.length-1:=by have:=gr C;rw[oi]at this;omega
 have u:∀(p:Nat) (s:eX),(sK [] l)[p]? = some s->∃x,l[p]? = some x/\x.i=s.i:=λp s a6=>by
  have:=congrArg (λz=>z[p]?) h1
  grind
 refine⟨ab,λi ag=>?_,λj o e fI b0 aW=>?_,λp q s t HR ar cq=>?_,?_⟩
 ·have aW:(AY l).testBit i=true:=ab
  obtain⟨x,I,rfl⟩:=Zh aW;have hm:x.i∈(sK [] l).map (·.i):=ab
  obtain⟨s,ar,b0⟩:=f3.1 hm;obtain⟨p,a6⟩:=Fi ar
  grind
 ·have:=abh Z j o fI;rw[iE]at this;exact abg this e ab aW
 ·obtain⟨x,I,ex⟩:=u p s ar;obtain⟨y,ck,IR⟩:=u q t cq;rw[<-ex,<-IR];exact ana (A x ab) (A y ab) (X4 E p q x y HR I ck)
 ·have:=congrArg List.length h1
  grind
structure md where
 ak:ch
 h:ae
 U:Nat
 b:ae
 ar:aa ae
def DC(st gy:md):Prop:=gy.h=st.h/\gy.U=st.U/\gy.b=st.b/\gy.ar=st.ar
noncomputable def m5 (all:aa Oper) (o:Oper) (ak:ch):al:=match zA all o.guard with
 |some g=>vi g ak
 |none=>false
def ud(v:X)(h:ae)(U:Nat):bN:=λa b c=>a=v/\b=h/\c=U
inductive adq (P:Program) (all:List Oper) (s:eX) (st gy:md) (v:Option Value):Prop
 |skip (bO:m5 all s.o st.ak=false) (hk:jn s.k=false) (aI:v=none) (aW:DC st gy)
 |u7 (bO:m5 all s.o st.ak=false) (hk:jn s.k=true) (aI:v=none) (eT:gy.h=st.h) (bw:gy.U=st.U) (aW:gy.b=st.h) (Br:gy.ar=st.b::st.ar)
 |fx (bO:m5 all s.o st.ak=true) (e:IQ) (hk:s.k = .fx e) (aO:Value) (aI:v=some aO) (b0:p2 P st.ak e = .ok aO) (aW:DC st gy)
 |iA (bO:m5 all s.o st.ak=true) (e:ES) (hk:s.k = .iA e) (c5:kV) (b0:DR st.ak e = .ok c5) (aI:v=some (xe st.U c5)) (eT:gy.h=T st.h st.U (sW c5)) (bw:gy.U=st.U+1) (aW:gy.b=st.b) (Br:gy.ar=st.ar)
 |red (bO:m5 all s.o st.ak=true) (e:HI) (hk:s.k = .red e) (aO:Value) (aI:v=some aO) (b0:pred P st.ak e st.b = .ok aO) (dR:∀k,k<s.vA->∃h,st.ar[k]? = some h/\pred P st.ak e h = .ok aO) (aW:DC st gy)
 |fy (bO:m5 all s.o st.ak=true) (e:vV) (hk:s.k = .fy e) (aO:Value) (aI:v=some aO) (b0:pz P false e st.ak st.h st.U (ud aO gy.h gy.U)) (bw:st.U<=gy.U) (aW:gy.b=gy.h) (Br:gy.ar=st.b::st.ar)
structure HS (P:Program) (all:aa Oper) (s:eX) (st gy:md) (v:aw X):Prop where
 ok:adq P all s st gy v
 g:∃g,zA all s.o.guard=some g/\Md g st.ak
 l9:∀d,ho gy.ak d=if s.o.dst=some d then some v else ho st.ak d
theorem HS.wT{P:Program}{s:eX}{st D:md}{v:aw X}(h:HS P all s st D v):st.U<=D.U:=by
 cases h.ok with
 |skip I M N A=>rw[A.2.1];omega
 |u7 I M N eT Z A C=>omega
 |fx I e M E N V A=>rw[A.2.1];omega
 |iA I e M c5 V N eT Z A C=>omega
 |red I e M E N V dR A=>rw[A.2.1];omega
 |fy I e M E N V Z A C=>omega
theorem akJ(ak:ch)(dst:aw Nat)(v:aw X)(d:Nat):ho (ez ak dst v) d=if dst=some d then some v else ho ak d:=by
 cases dst with
 |none=>rfl
 |some t=>show ho ((t,v)::ak) d=_;rw[FO];simp
theorem Q9{f:ae->R X}{v:X}{p:Prop}:∀{n:Nat} {ar:aa ae},pi f v p n ar->(∀k,k<n->∃h,ar[k]? = some h/\f h = .ok v)/\p
 |0,ar,h=>⟨λk M=>J,h⟩
 |n+1,[],h=>h.elim
 |n+1,C::ar,⟨A,N⟩=>by
  obtain⟨E,I⟩:=Q9 N;refine⟨λk M=>?_,I⟩;cases k with
  |zero =>
   refine⟨C,rfl,?_⟩;unfold nH at A;cases D:f C with
   |no w=>rw[D]at A;cases A
   |ok x=>rw[D]at A;rw[Za A]
  |succ k=>exact E k J
theorem ud.self(v:X)(h:ae)(U:Nat):ud v h U v h U:=⟨rfl,rfl,rfl⟩
section
variable {P:Program}
theorem Gn{ak:ch}{U:Nat}{b:ae}{k:ch->ae->Nat->ae->aa ae->Prop}:nf P d c (.fy e) ak h U b ar k=pz P true e ak h U λv A Y=>U<=Y/\k (ez ak d (some v)) A Y A (b::ar):=by
 cases e <;> first|rfl|simp only[nf,pz,cC,true_and]
def DD(C:bN->Prop)(C':bN->Prop)(k:bN):Prop:=∃v h U,k v h U/\C (ud v h U)/\∀dm,dm v h U->C' dm
theorem adr{C:bN->Prop}(h:uv true C k):DD C (uv true C) k:=by obtain⟨v,h,U,E,A⟩:=h;exact⟨v,h,U,E,A,λdm D=>⟨v,h,U,D,A⟩⟩
theorem abj(h:eQ P true r k):DD (eQ P false r) (eQ P true r) k:=by
 cases r <;> first|exact adr h|exact h.elim
theorem Ra(h:dG r k):DD (dG r) (dG r) k:=by
 cases r <;> first|exact⟨_,_,_,h,ud.self _ _ _,λ_ h=>h⟩|exact h.elim
theorem Rb{ak:ch}{U:Nat}(C:pz P true e ak h U k):DD (pz P false e ak h U) (pz P true e ak h U) k:=by
 have A:∀{az:Type} {r:R az} {f:az->Prop} {g cd:az->bN->Prop},af r f->(∀x,f x->DD (g x) (cd x) k)->DD (λk=>af r (λx=>g x k)) (λk=>af r (λx=>cd x k)) k:=λ{az r f g cd} D ao=>by obtain⟨x,rfl,D⟩:=f9 D;exact ao x D
 cases e with
 |st n a x=>exact A C λ_ h=>A h λ_ h=>A h λE h=>⟨_,_,_,h,ud.self _ _ _,λ_ h=>h⟩
 |y1 t m k x=>exact A C λ_ h=>A h λ_ h=>A h λ_ h=>A h λE h=>⟨_,_,_,h,ud.self _ _ _,λ_ h=>h⟩
 |rR x=>exact A C λ_ h=>Ra h
 |fG x=>exact A (g:=λx k=>vB false h U x k) (cd:=λx k=>vB true h U x k) C λ_ h=>by obtain⟨_,_,_,_,_,_,_,h,_⟩:=h;cases h
 |call f args=>exact A C λ_ h=>adr h
 |AN f args=>exact A C λ_ h=>A h λ_ h=>abj h
 |app z x y=>exact A C λ_ h=>A h λ_ h=>Ra h
 |bi b I args=>exact A C λ_ h=>Ra h
 |inv r m args=>exact A C λ_ h=>A h λ_ h=>abj h
theorem afz{all:aa Oper}{K:ch->ae->Nat->Prop}:∀(bJ:aa eX) (is:aa ma) (st:md),GL all bJ=some is->ij P is st.ak st.h st.U st.b st.ar K ->
  ∃(bq:Nat->md) (val:Nat->aw X),(tT st.ak (bq 0).ak/\DC st (bq 0))/\(∀j s,bJ[j]? = some s->HS P all s (bq j) (bq (j+1)) (val j))/\K (bq bJ.length).ak (bq bJ.length).h (bq bJ.length).U
 | [],is,st,a1,h=>by cases a1;exact⟨λ_=>st,λ_=>none,⟨λ_=>rfl,rfl,rfl,rfl,rfl⟩,λj s b5=>by simp at b5,h⟩
 |s::bJ,is,st,a1,h=>by
  simp only[GL,jI,mq]at a1;obtain⟨g,aY,I,HP,rfl⟩:=a1;have h:kD g st.ak (λak=>nf P s.o.dst s.vA s.k ak st.h st.U st.b st.ar λak h U b ar=>ij P I ak h U b ar K)
   (λak=>Bool.rec (ij P I (ez ak s.o.dst none) st.h st.U st.b st.ar K) (ij P I (ez ak s.o.dst none) st.h st.U st.h (st.b::st.ar) K) (jn s.k)):=h
  obtain⟨HQ,ak,Z,qO⟩:=afy h;have azC:Md g ak:=λd w e=>by rw[Z d];exact HQ d w e
  have Mf:vi g ak=vi g st.ak:=by unfold vi;split <;> simp[Z _]
  have go:∀(E:md) (v:aw X),ij P I E.ak E.h E.U E.b E.ar K->(∀D,DC E D->adq P all s ⟨ak,st.h,st.U,st.b,st.ar⟩ D v)->E.ak=ez ak s.o.dst v ->
    ∃(bq:Nat->md) (val:Nat->aw X),(tT st.ak (bq 0).ak/\DC st (bq 0))/\(∀j t,(s::bJ)[j]? = some t->HS P all t (bq j) (bq (j+1)) (val j))/\K (bq (s::bJ).length).ak (bq (s::bJ).length).h (bq (s::bJ).length).U:=by
   intro E v ac ar pn;obtain⟨bq,val,⟨au,h0'⟩,h1,ao⟩:=afz bJ I E HP ac;refine⟨λj=>match j with|0=>⟨ak,st.h,st.U,st.b,st.ar⟩|j+1=>bq j,λj=>match j with|0=>v|j+1=>val j,⟨Z,rfl,rfl,rfl,rfl⟩,λj t b5=>?_,ao⟩;cases j with
   |zero =>
    simp at b5;subst b5;exact⟨ar _ h0',⟨g,aY,azC⟩,λd=>by show ho (bq 0).ak d=_;rw[au d,pn,akJ]⟩
   |succ j=>exact h1 j t ab
  have bO:m5 all s.o ak=vi g st.ak:=by unfold m5;rw[aY];exact Mf
  rcases qO with⟨aW,h⟩|⟨aW,h⟩ <;> rw[aW]at bO
  ·cases M:s.k with
   |fx e =>
    rw[M]at h;have h:af (p2 P ak e) λv=>ij P I (ez ak s.o.dst (some v)) st.h st.U st.b st.ar K:=by
     cases e <;> first|exact h|skip
     obtain⟨c,h1,N⟩:=f9 h;obtain⟨a,ao,N⟩:=f9 N;obtain⟨b,aT,N⟩:=f9 N;simp only[p2,h1,ao,aT,R.bind];rcases tJ N with⟨rfl,N⟩|⟨rfl,N⟩ <;> exact N
    obtain⟨C,V,h⟩:=f9 h;exact go ⟨ez ak s.o.dst (some C),st.h,st.U,st.b,st.ar⟩ (some C) h (λD A=>.fx bO e M C rfl V A) rfl
   |iA e =>
    rw[M]at h;obtain⟨c5,V,h⟩:=f9 h;exact go ⟨ez ak s.o.dst (some (xe st.U c5)),T st.h st.U (sW c5),st.U+1,st.b,st.ar⟩ _ h (λD A=>.iA bO e M c5 V rfl A.1 A.2.1 A.2.2.1 A.2.2.2) rfl
   |red e =>
    rw[M]at h;obtain⟨C,V,h⟩:=f9 h;have h:pi (pred P ak e) C (ij P I (ez ak s.o.dst (some C)) st.h st.U st.b st.ar K) s.vA st.ar:=by cases a1:s.vA <;> rw[a1]at h <;> exact h
    obtain⟨dR,h⟩:=Q9 h;exact go ⟨ez ak s.o.dst (some C),st.h,st.U,st.b,st.ar⟩ (some C) h (λD A=>.red bO e M C rfl V dR A) rfl
   |fy e =>
    rw[M]at h;rw[Gn]at h;obtain⟨C,ac,Y,⟨bw,h⟩,V,_⟩:=Rb h;refine go ⟨ez ak s.o.dst (some C),ac,Y,ac,st.b::st.ar⟩ (some C) h (λD A=>.fy bO e M C rfl ?_ ?_ ?_ A.2.2.2) rfl
    ·rw[A.1,A.2.1];exact V
    ·rw[A.2.1];exact bw
    ·rw[A.2.2.1,A.1]
  ·cases M:jn s.k with
   |false =>
    rw[M]at h;exact go ⟨ez ak s.o.dst none,st.h,st.U,st.b,st.ar⟩ none h (λD A=>.skip bO M rfl A) rfl
   |true =>
    rw[M]at h;exact go ⟨ez ak s.o.dst none,st.h,st.U,st.h,st.b::st.ar⟩ none h (λD A=>.u7 bO M rfl A.1 A.2.1 A.2.2.1 A.2.2.2) rfl
end
def cut(aj:ce)(n:Nat):ce:=λb=>if b<n then aj b else none
theorem o9{aj:ce}(h:b<n):cut aj n b=aj b:=by simp[cut,h]
theorem pP{aj:ce}(h:n<=b):cut aj n b=none:=by simp[cut,Nat.not_lt.2 h]
theorem Rc(aj:ce)(n:Nat):kg (cut aj n) n:=λb h=>pP h
theorem PW(aj:ce)(h:n<=m):Sub (cut aj n) (cut aj m):=λb p A=>by
 by_cases C:b<n
 ·rw[o9 C]at A;rw[o9 J];omega
 ·rw[pP J]at A;grind
theorem aqW(aj:ce)(h:kg aj n):cut aj n=aj:=funext λb=>by
 by_cases A:b<n
 ·exact o9 A
 ·rw[pP J,h b J]
structure oH (P:Program) (a4:Array Oper) (bJ:aa eX) (bq:Nat->md) (val:Nat->aw X):Prop where
 la:tU P a4.toList bJ
 iR:∀(j:Nat) (s:eX),bJ[j]? = some s->HS P a4.toList s (bq j) (bq (j+1)) (val j)
def hW(cv:Array al)(i:Nat):Prop:=cv.getD i false=true
structure sq (a4:Array Oper) (cv:Array al):Prop where
 size:cv.size=a4.size
 closed:∀(j:Nat) (o:Oper) (e:Edge),hW cv j->a4.toList[j]? = some o->e∈o.after->Region.binds .any e=true->hW cv e.on
theorem qH:hW (cv.setIfInBounds i true) j↔(j=i/\i<cv.size)\/hW cv j:=by
 unfold hW
 by_cases e:j=i
 ·subst e
  by_cases A:j<cv.size
  ·simp[qC,zS,A]
  grind
 ·simp[qC,zS,kI e,e]
section
variable {P:Program} {a4:Array Oper} {bJ:aa eX} {bq:Nat->md} {val:Nat->aw X}
theorem oH.wT(R:oH P a4 bJ bq val){i:Nat}:∀{j:Nat},i<=j->j<=bJ.length->(bq i).U<=(bq j).U
 |0,h,_=>ab
 |j+1,h,A=>by
  by_cases e:i=j+1
  ·grind
  ·have ar:bJ[j]? = some (bJ[j]'J):=ab
   exact iv (R.wT J J) (R.iR j _ ar).wT
theorem tU.ne(R:tU P a4.toList bJ){s:eX}(M:bJ[p]? = some s)(I:bJ[q]? = some t)(h:p≠q):s.i≠t.i:=by
 have D:∀(p q:Nat) (s t:eX),p<q->bJ[p]? = some s->bJ[q]? = some t->s.i≠t.i:=λp q s t A ar E=>by
  have:=R.pair p q s t A ar E;unfold AB at this;simp only[eo]at this;have C:=this.1.1.1;intro e;rw[e,uP]at C
  grind
 grind
theorem tU.apart(R:tU P a4.toList bJ){s:eX}(A:p<q)(ar:bJ[p]? = some s)(C:bJ[q]? = some t):
  kr (kb a4.toList) t.i s.i=true\/((∀d,s.o.dst=some d->d ∉ oo a4.toList t.o)/\∀d,t.o.dst=some d->d ∉ oo a4.toList s.o):=by
 have:=R.pair p q s t A ar C;unfold AB at this;simp only[eo]at this;have D:=this.2;rw[i4,i4,(R.step p s ar).1,(R.step q t C).1]at D
 grind
theorem tU.fy(R:tU P a4.toList bJ){s:eX}(A:p<q)(ar:bJ[p]? = some s)(D:bJ[q]? = some t)(E:jn t.k=true):kr (kb a4.toList) t.i s.i=true:=by
 have:=R.pair p q s t A ar D;unfold AB at this;simp only[eo]at this;have C:=R.step q t D;have I:sI P a4.toList t.i=true:=by unfold sI;rw[i4,C.1];simp only[Fs,JA,Ha];rw[C.2.1];exact E
 grind
theorem tU.after(R:tU P a4.toList bJ){s:eX}(A:p<q)(ar:bJ[p]? = some s)(C:bJ[q]? = some t):kr (kb a4.toList) s.i t.i=false:=by
 have:=R.pair p q s t A ar C;unfold AB at this
 grind
theorem sq.ahead(A:sq a4 cv)(I:hW cv j)(E:kr (kb a4.toList) j i=true):hW cv i :=
 Xg  A.closed j (λo e D M C=>A.closed j o e I D M C) i E
theorem sq.Om(I:sq a4 cv)(M:j∈Region.ready .any a4 cv)(E:kr (kb a4.toList) j i=true):hW cv i:=by
 obtain⟨_,o,Z,A⟩:=mem_ready.1 M;refine Xg  I.closed j (λV e C N D=>?_) i E;have:a4.toList[j]? = some o:=ab
 rw[this]at C;cases C;exact A e N D
theorem sq.set(I:sq a4 cv)(ag:i∈Region.ready .any a4 cv):sq a4 (cv.setIfInBounds i true):=by
 obtain⟨_,o,V,A⟩:=mem_ready.1 ag;refine⟨by simpa using I.size,λj N e C D M E=>?_⟩;rw[qH]at C ⊢
 right
 rcases C with⟨rfl,_⟩|C
 ·have:a4.toList[j]? = some o:=ab
  rw[this]at D;cases D;exact A e M E
 ·exact I.closed j N e C D M E
def A5(bJ:aa eX)(bq:Nat->md)(cv:Array al)(aj:ce)(a:Act):Prop:=∀(j d:Nat),j<=bJ.length ->
 (∀(q:Nat) (s:eX),q<j->bJ[q]? = some s->s.o.dst=some d->hW cv s.i)->(∀(q:Nat) (s:eX),j<=q->bJ[q]? = some s->s.o.dst=some d->¬hW cv s.i) ->
 ∀v,ho (bq j).ak d=some v->bF (cut aj (bq j).U) (rM v) (a.tmps.getD d undef)
theorem aiN{d:Tmp}(h:o.dst=some d):d∈oo all o:=by unfold oo;grind
theorem A5.look(R:oH P a4 bJ bq val){aj:ce}(eI:A5 bJ bq cv aj a)(M:sq a4 cv){s:eX}(ar:bJ[p]? = some s)(N:s.i∈Region.ready .any a4 cv){d:Nat}(Z:d∈oo a4.toList s.o):∀v,ho (bq p).ak d=some v->bF (cut aj (bq p).U) (rM v) (a.tmps.getD d undef):=by
 have a6:p<bJ.length:=ab
 have D:¬hW cv s.i:=by
  have au:=(mem_ready.1 N).1;unfold hW
  grind
 refine eI p d J (λq t I E A=>?_) (λq t I E A V=>?_)
 ·rcases R.la.apart I E ar with h|⟨h,_⟩
  ·exact M.Om N h
  ·exact absurd Z ab
 ·rcases jJ p q with C|C
  ·rcases R.la.apart C ar E with h|⟨_,h⟩
   ·exact D (M.ahead V h)
   grind
  grind
theorem A5.step(R:oH P a4 bJ bq val){aj bu:ce}(eI:A5 bJ bq cv aj a)(a1:sq a4 cv)(M:∀m,Sub (cut aj m) (cut bu m)){s:eX}(ar:bJ[p]? = some s)(bc:s.i∈Region.ready .any a4 cv){c:X}(aI:bF (cut bu (bq (p+1)).U) (rM (val p)) c)(N:∀d,s.o.dst=some d->d<a.tmps.size):
  A5 bJ bq (cv.setIfInBounds s.i true) bu (a.put s.o.dst c):=by
 have aCd:s.i<cv.size:=by
  obtain⟨_,o,fI,_⟩:=mem_ready.1 bc
  grind
 have sZ:¬hW cv s.i:=by
  have au:=(mem_ready.1 bc).1;unfold hW
  grind
 intro j d b5 aW bK nW E
 by_cases Z:s.o.dst=some d
 ·
  have Ef:p<j:=by
   rcases jJ p j with h|h
   ·exact h
   ·exact absurd (qH.2 J) (bK p s h ar Z)
  have D:∀k,p+1+k<=j->ho (bq (p+1+k)).ak d=some (val p):=by
   intro k
   induction k with
   |zero =>
    intro _;rw[show p+1+0=p+1 from rfl,(R.iR p s ar).l9 d,if_pos Z]
   |succ k eS =>
    intro hk;have C:bJ[p+1+k]? = some (bJ[p+1+k]'J):=ab
    generalize bJ[p+1+k]'J=t at C;have eh:t.o.dst≠some d:=λI=>by
     have V:=aW (p+1+k) t J C I;rw[qH]at V;rcases V with⟨h,_⟩|V
     ·exact R.la.ne C ar J h
     ·rcases R.la.apart J ar C with h|⟨h,_⟩
      ·exact sZ (a1.ahead V h)
      ·exact h d Z (aiN I)
    rw[show p+1+(k+1)=p+1+k+1 by omega,(R.iR _ t C).l9 d,if_neg eh];exact eS J
  have htg:ho (bq j).ak d=some (val p):=by have:=D (j-(p+1)) J;rwa[show p+1+(j-(p+1))=j by omega]at this
  rw[htg]at E;cases E;have u:(a.put s.o.dst c).tmps.getD d undef=c:=by have:=N d Z;simp[Act.put,Z,qC,zS,this]
  rw[u];exact aI.mono (PW bu (R.wT J b5))
 ·have u:(a.put s.o.dst c).tmps.getD d undef=a.tmps.getD d undef:=by
   cases Mg:s.o.dst with
   |none=>rfl
   |some IT =>
    have:IT≠d:=ab
    simp[Act.put,qC,zS,this]
  rw[u];refine(eI j d b5 (λq t C cq A=>?_) (λq t C cq A V=>?_) nW E).mono (M _)
  ·have:=aW q t C cq A;rw[qH]at this;rcases this with⟨h,_⟩|h
   ·exfalso;have:q=p:=by
     rcases Nat.decEq q p with ac | ac
     ·exact absurd h (R.la.ne cq ar ac)
     omega
    grind
   ·exact h
  ·exact bK q t C cq A (qH.2 ab)
end
theorem ed.Zi{B:Nat}{aj:ce}{H:fq}{w:World}(A:ed B aj H w){k:Nat}(h:w3 B aj H k):k<w.heap.size:=by obtain⟨b,p,D,ar,rfl,_⟩:=h;obtain⟨x,C⟩:=nA.1 ar;exact(A.obj b p x D C).Dh
section
variable {P:Program} {a4:Array Oper} {bJ:aa eX} {bq:Nat->md} {val:Nat->aw X}
structure j5 (P:Program) (a4:Array Oper) (bJ:aa eX) (bq:Nat->md) (cv:Array al) (p:Nat) (s:eX) (c5:kV):Prop where
 at_:bJ[p]? = some s
 Bs:hW cv s.i
 want:m5 a4.toList s.o (bq p).ak=true
 ok:∃e,s.k = .iA e/\DR (bq p).ak e = .ok c5
theorem j5.lL{s:eX}(h:j5 P a4 bJ bq cv p s c5):jn s.k=false/\∃e,s.k = .iA e:=by obtain⟨e,A,_⟩:=h.ok;exact⟨by rw[A];rfl,e,A⟩
theorem j5.next(R:oH P a4 bJ bq val){s:eX}(h:j5 P a4 bJ bq cv p s c5):(bq (p+1)).U=(bq p).U+1/\(bq (p+1)).h=T (bq p).h (bq p).U (sW c5)/\(bq (p+1)).b=(bq p).b:=by
 have bO:=h.want;obtain⟨e,hk,N⟩:=h.ok;cases(R.iR p s h.at_).ok with
 |skip D _ _ _=>grind
 |u7 D _ _ _ _ _ _=>grind
 |fx _ C A _ _ _ _=>grind
 |red _ C A _ _ _ _ _=>grind
 |fy _ C A _ _ _ _ _ _=>grind
 |iA _ C A I E aI eT Z M V =>
  rw[hk]at A;cases A;rw[N]at E;cases E;exact⟨Z,eT,M⟩
theorem j5.lt{s:eX}(h:j5 P a4 bJ bq cv p s c5):p<bJ.length:=(fb.1 h.at_).1
theorem j5.afA(R:oH P a4 bJ bq val){s:eX}(h:j5 P a4 bJ bq cv p s c5)(C:q<bJ.length)(A:p<q):(bq p).U<(bq q).U:=by have D:=(h.next R).1;have:=R.wT (J:p+1<=q) J;omega
structure lB (P:Program) (a4:Array Oper) (bJ:aa eX) (bq:Nat->md) (B:Nat) (iB:ce) (gk:World) (cv:Array al) (c:Nat) (aj:ce) (w:World):Prop where
 le:c<=bJ.length
 done:∀(q:Nat) (s:eX),q<c->bJ[q]? = some s->hW cv s.i
 h4:cx B iB (u (bq 0).h) gk (bq 0).U (bq c).U (cut aj (bq c).U) (u (bq c).h) w
 sub:∀(x:Nat) (o:fU),u (bq c).b x=some o->u (bq c).h x=some o
 ext:∀(p:Nat) (s:eX) (c5:kV),c<=p->j5 P a4 bJ bq cv p s c5->∃pl,aj (bq p).U=some pl/\mx B (cut aj ((bq p).U+1)) w pl (sW c5)/\gk.heap.size<=pl.ca/\pl.ca<w.heap.size/\¬w3 B (cut aj (bq c).U) (u (bq c).h) pl.ca
 po:∀(p q:Nat) (s t:eX) (c5 nb':kV) (pl TJ:Place),c<=p->c<=q->j5 P a4 bJ bq cv p s c5->j5 P a4 bJ bq cv q t nb'->p≠q->aj (bq p).U=some pl->aj (bq q).U=some TJ->pl.ca≠TJ.ca
 yN:∀(b:Nat) (pl:Place),aj b=some pl->b<(bq c).U\/∃p s c5,c<=p/\j5 P a4 bJ bq cv p s c5/\b=(bq p).U
theorem cx.axp{B:Nat}{aj bu:ce}{H:fq}{w:World}(A:cx B iB sp gk ap ag aj H w){o:fU}(bw:aj ag=none)(hρ:bu=λk=>if k=ag then some pl else aj k)(aCe:iB ag=none\/ap<=ag)(oD:mx B bu w pl o)(aW:gk.heap.size<=pl.ca)(M:¬w3 B aj H pl.ca):cx B iB sp gk ap (ag+1) bu (H.put ag o) w:=by
 subst hρ;have N:Sub aj (λk=>if k=ag then some pl else aj k):=λb q E=>ab
 have C:∀b q,b≠ag->(if b=ag then some pl else aj b)=some q->aj b=some q:=ab
 have rW:∀b,b≠ag->((H.put ag o) b).isSome->(H b).isSome:=λb e h=>by simpa[fq.put,e]using h
 refine⟨⟨A.rel.base,?_,?_,?_⟩,λb ht=>?_,A.size,A.os,A.tape,A.output,A.frame,?_,by have:=A.le;omega⟩
 ·intro b q x E Z
  by_cases e:b=ag
  ·subst e;simp[fq.put]at E Z;subst E;subst Z;exact oD
  ·have D:=C b q e E;have Bl:H b=some x:=by simpa[fq.put,e]using Z
   exact(A.rel.obj b q x D Bl).mono N rfl
 ·intro b b6 q mO E D ar nK V I
  by_cases e:b=ag <;> by_cases dS:b6=ag
  ·omega
  ·subst e;simp at E;subst E;exact absurd ⟨b6,mO,ab,ab,I.symm,V⟩ M
  ·subst dS;simp at D;subst D;exact absurd ⟨b,q,ab,ab,I,J⟩ M
  ·exact A.rel.inj b b6 q mO ab ab ab ab V I
 ·intro b ar
  by_cases e:b=ag
  ·grind
  ·simp only[e,fg];exact A.rel.nd b ab
 ·have dv:=A.le;have e:b≠ag:=J
  simp only[e,fg];exact A.agree b J
 ·rintro k ⟨b,q,E,ar,rfl,V⟩
  by_cases e:b=ag
  ·grind
  ·exact A.own _ ⟨b,q,ab,ab,rfl,V⟩
theorem lB.auM(R:oH P a4 bJ bq val){B:Nat}{aj:ce}{w:World}(M:lB P a4 bJ bq B iB gk cv c aj w){s:eX}(ar:bJ[c]? = some s)(bo:hW cv s.i)(hk:jn s.k=false\/m5 a4.toList s.o (bq c).ak=false):lB P a4 bJ bq B iB gk cv (c+1) aj w:=by
 have cb:c<bJ.length:=ab
 have N:∀(q:Nat) (t:eX),q<c+1->bJ[q]? = some t->hW cv t.i:=λq t c3 cq=>by
  rcases jJ q c with h|h
  ·exact M.done q t h cq
  ·have:q=c:=J
   subst this;rw[ar]at cq;cases cq;exact bo
 have quiet:(∀c5,¬j5 P a4 bJ bq cv c s c5)->(bq (c+1)).h=(bq c).h->(bq (c+1)).U=(bq c).U->((bq (c+1)).b=(bq c).b\/(bq (c+1)).b=(bq c).h)->lB P a4 bJ bq B iB gk cv (c+1) aj w:=by
  intro hna eT Z A;refine⟨cb,N,by rw[eT,Z];exact M.h4,?_,?_,?_,?_⟩
  ·rw[eT];rcases A with A|A
   ·rw[A];exact M.sub
   grind
  ·intro p t c5 a6 D;rw[eT,Z];exact M.ext p t c5 J D
  ·intro p q t mQ c5 I pl E a6 c3;exact M.po p q t mQ c5 I pl E J J
  ·intro b pl ht;rw[Z];rcases M.yN b pl ht with h|⟨p,t,c5,a6,D,b0⟩
   ·omega
   ·right
    refine⟨p,t,c5,?_,D,b0⟩;rcases jJ c p with h|h
    ·exact h
    ·have:p=c:=J
     subst this;have:=D.at_
     grind
 cases(R.iR c s ar).ok with
 |skip V C aI A=>exact quiet (λc5 D=>by rw[D.want]at V;cases V) A.1 A.2.1 (.inl A.2.2.1)
 |u7 V C aI eT Z A Br=>exact quiet (λc5 D=>by rw[D.want]at V;cases V) eT Z (.inr A)
 |fx V e C aO aI b0 A=>exact quiet (λc5 D=>by obtain⟨_,dS,h⟩:=D.lL;rw[C]at h;cases h) A.1 A.2.1 (.inl A.2.2.1)
 |red V e C aO aI b0 Eg A=>exact quiet (λc5 D=>by obtain⟨_,dS,h⟩:=D.lL;rw[C]at h;cases h) A.1 A.2.1 (.inl A.2.2.1)
 |fy V e C aO aI b0 Z A Br =>
  rcases hk with hk|hk
  ·rw[C]at hk;cases hk
  ·rw[V]at hk;cases hk
 |iA V e C c5 b0 aI eT Z A Br =>
  have D:j5 P a4 bJ bq cv c s c5:=⟨ar,bo,V,e,C,b0⟩
  obtain⟨pl,h1,ao,aT,a9,bY⟩:=M.ext c s c5 J D;have DW:cut aj ((bq c).U+1)=λk=>if k=(bq c).U then some pl else cut aj (bq c).U k:=by
   funext k
   by_cases e:k=(bq c).U
   ·subst e;rw[if_pos rfl,o9 J,h1]
   ·rw[if_neg e]
    by_cases SF:k<(bq c).U
    ·rw[o9 SF,o9 J]
    ·rw[pP J,pP J]
  have kx:=cx.axp M.h4   (pP J) DW (.inr M.h4.le) ao aT bY;have aB4:u (bq c).h (bq c).U=none:=by
   cases aY:u (bq c).h (bq c).U with
   |none=>rfl
   |some x =>
    have:=M.h4.rel.nd (bq c).U ab;rw[pP J]at this;grind
  refine⟨cb,N,by rw[eT,Z,u1];exact kx,?_,?_,?_,?_⟩
  ·intro x o bd;rw[A]at bd;rw[eT,Ae];have:=M.sub x o bd
   grind
  ·intro p t I a6 Eg;obtain⟨E,bP,g2,dp,dZ,hw⟩:=M.ext p t I J Eg;refine⟨E,bP,g2,dp,dZ,?_⟩;rw[eT,Z,u1];rintro⟨b,q,c3,nK,Eh,ey⟩;rw[DW]at c3
   by_cases e:b=(bq c).U
   ·subst e;simp at c3;subst c3;exact M.po c p s t c5 I pl E J J D Eg J h1 bP Eh
   ·refine hw ⟨b,q,ab,by simpa[fq.put,e]using nK,Eh,ey⟩
  ·intro p q t mQ y8 q4 Mh Mi a6 c3;exact M.po p q t mQ y8 q4 Mh Mi J J
  ·intro b E ht;rw[Z];rcases M.yN b E ht with h|⟨p,t,I,a6,Eg,pj⟩
   all_goals grind
theorem lB.advance(R:oH P a4 bJ bq val){B:Nat}{iB aj:ce}{gk w:World}{cv:Array al}:∀(k c:Nat),bJ.length-c<=k->lB P a4 bJ bq B iB gk cv c aj w ->
  (∀(p:Nat) (s:eX),c<=p->bJ[p]? = some s->hW cv s.i->jn s.k=false\/m5 a4.toList s.o (bq p).ak=false) ->
   ∃A,lB P a4 bJ bq B iB gk cv A aj w/\∀s,bJ[A]? = some s->¬hW cv s.i
 |0,c,D,M,_=>⟨c,M,ab⟩
 |k+1,c,D,M,E=>by
  cases ar:bJ[c]? with
  |none=>exact⟨c,M,ab⟩
  |some s =>
   by_cases C:hW cv s.i
   ·exact lB.advance R k (c+1) J (M.auM R ar C ab) ab
   ·exact⟨c,M,ab⟩
end
section
variable {P:Program} {a4:Array Oper} {bJ:aa eX} {bq:Nat->md} {val:Nat->aw X}
theorem OD(ag:i<cv.size):cv.getD i true=false↔¬hW cv i:=by
 unfold hW
 grind
theorem anb(R:oH P a4 bJ bq val)(a1:sq a4 cv)(bh:∀(q:Nat) (s:eX),q<c->bJ[q]? = some s->hW cv s.i)(bw:∀s,bJ[c]? = some s->¬hW cv s.i)(bc:Region.ready .any a4 cv=[])(dv:c<=bJ.length):c=bJ.length:=by
 rcases jJ c bJ.length with C|h
 ·exfalso;have ar:bJ[c]? = some (bJ[c]'C):=ab
  generalize bJ[c]'C=s at ar;have E:=bw s ar;have Z:a4[s.i]? = some s.o:=by simpa using(R.la.step c s ar).1
  have ag:s.i<a4.size:=ab
  have:s.i∈Region.ready .any a4 cv:=by
   refine mem_ready.2 ⟨(OD (by rw[a1.size];omega)).2 E,s.o,Z,λe V I=>?_⟩;have A:a4.toList[s.i]? = some s.o:=ab
   have N:=R.la.inside s.i s.o e A V I;obtain⟨q,t,M,D⟩:=R.la.cover e.on ab;rcases z1 q c with h|h|h
   ·have:=bh q t h M;rw[D]at this;exact this
   ·grind
   ·have h1:=R.la.after h ar M;have ao:=am9 A V I
    grind
  grind
 omega
def left(a4:Array Oper)(cv:Array al):Nat:=((List.range a4.size).filter λi=>!cv.getD i false).length
theorem Zj(E:cv.size=a4.size)(ag:i<a4.size)(A:¬hW cv i):left a4 (cv.setIfInBounds i true)+1<=left a4 cv:=by
 unfold left;have C:∀(l:aa Nat),((l.filter λk=>!(cv.setIfInBounds i true).getD k false).length<=(l.filter λk=>!cv.getD k false).length) /\
   (i∈l->(l.filter λk=>!(cv.setIfInBounds i true).getD k false).length+1<=(l.filter λk=>!cv.getD k false).length):=by
  intro l
  induction l with
  |nil=>grind
  |cons x I M =>
   by_cases e:x=i
   ·subst e;have D:(cv.setIfInBounds x true).getD x false=true:=by have:hW (cv.setIfInBounds x true) x:=qH.2 J;exact this
    have N:cv.getD x false=false:=by simpa[hW]using A
    grind
   ·have D:(cv.setIfInBounds i true).getD x false=cv.getD x false:=by simp[qC,zS,kI e]
    grind
 grind
end
section
variable {P:Program} {a4:Array Oper} {bJ:aa eX} {bq:Nat->md} {val:Nat->aw X}
theorem j5.set(R:oH P a4 bJ bq val){s:eX}(ar:bJ[p]? = some s)(h:j5 P a4 bJ bq (cv.setIfInBounds s.i true) q t c5):q=p\/j5 P a4 bJ bq cv q t c5:=by
 rcases Nat.decEq q p with A|C
 ·right
  refine⟨h.at_,?_,h.want,h.ok⟩;have:=h.Bs;rw[qH]at this;rcases this with⟨e,_⟩|this
  ·exact absurd e (R.la.ne h.at_ ar A)
  ·exact this
 omega
theorem j5.up(h:j5 P a4 bJ bq cv q t c5):j5 P a4 bJ bq (cv.setIfInBounds i true) q t c5 :=
 ⟨h.at_,qH.2 (.inr h.Bs),h.want,h.ok⟩
theorem lB.quiet(R:oH P a4 bJ bq val){B:Nat}{aj:ce}{w:World}(M:lB P a4 bJ bq B iB gk cv c aj w){s:eX}(ar:bJ[p]? = some s)(A:m5 a4.toList s.o (bq p).ak=false\/∀e,s.k≠.iA e):lB P a4 bJ bq B iB gk (cv.setIfInBounds s.i true) c aj w:=by
 have back:∀{q:Nat} {t:eX} {c5:kV},j5 P a4 bJ bq (cv.setIfInBounds s.i true) q t c5->j5 P a4 bJ bq cv q t c5:=λ{q t c5} h=>by
  rcases h.set R ar with e|ac
  ·subst e;have:=h.at_;rw[ar]at this;cases this;rcases A with A|A
   ·have:=h.want;rw[A]at this;cases this
   ·obtain⟨_,e,b0⟩:=h.lL;exact absurd b0 (A e)
  ·exact ac
 refine⟨M.le,λq t E cq=>qH.2 (.inr (M.done q t E cq)),M.h4,M.sub,λq t c5 E Z=>M.ext q t c5 E (back Z),λeC q t mQ c5 C pl N I V D a9=>M.po eC q t mQ c5 C pl N I V (back D) (back a9),λb pl aW=>?_⟩;rcases M.yN b pl aW with h|⟨q,t,c5,I,V,D⟩
 ·omega
 ·exact .inr ⟨q,t,c5,I,V.up,D⟩
theorem cx.grown{B:Nat}{aj:ce}{H:fq}{w a8:World}(A:cx B iB sp gk ap ag aj H w){o:Obj}(C:Made w a8 o):cx B iB sp gk ap ag aj H a8 where
 rel:=A.rel.world (by rw[C.size];omega) λb p E ar=>by obtain⟨x,D⟩:=nA.1 ar;exact C.d3 _ (A.rel.obj b p x E D).Dh
 agree:=A.agree
 size:=by have:=A.size;rw[C.size];omega
 os:=C.os.trans A.os
 tape:=A.tape.trans C.tape
 output:=C.output.trans A.output
 frame:=λk M I=>by rw[C.d3 k (by have:=A.size;omega)];exact A.frame k M I
 own:=A.own
 le:=A.le
end
section
variable {P:Program} {a4:Array Oper} {bJ:aa eX} {bq:Nat->md} {val:Nat->aw X}
theorem lB.alloc(R:oH P a4 bJ bq val){B:Nat}{aj:ce}{w a8:World}(M:lB P a4 bJ bq B iB gk cv c aj w){s:eX}(a6:c<=p)(ar:bJ[p]? = some s)(sZ:¬hW cv s.i)(ag:s.i<cv.size)(bO:m5 a4.toList s.o (bq p).ak=true){e:ES}(hk:s.k = .iA e)(jb:DR (bq p).ak e = .ok c5){dw:Obj}(qa:pl.ca=w.heap.size)(xl:w5 (cut aj (bq p).U) c5 dw pl)(hm:Made w a8 dw):
  ∃bu:ce,lB P a4 bJ bq B iB gk (cv.setIfInBounds s.i true) c bu a8/\bF (cut bu ((bq p).U+1)) (xe (bq p).U c5) (TB c5 w.heap.size pl.spare)/\∀m,Sub (cut aj m) (cut bu m):=by
 have ahd:p<bJ.length:=ab
 have aR:j5 P a4 bJ bq (cv.setIfInBounds s.i true) p s c5:=⟨ar,qH.2 J,bO,e,hk,jb⟩
 have Ei:(bq c).U<=(bq p).U:=R.wT a6 J;have aB5:aj (bq p).U=none:=by
  cases A:aj (bq p).U with
  |none=>rfl
  |some q =>
   rcases M.yN _ q A with h|⟨r,t,D,h1,ao,aT⟩
   ·omega
   ·exfalso;rcases z1 r p with h|h|h
    ·have:=ao.afA R ahd h;omega
    ·subst h;have:=ao.at_;rw[ar]at this;cases this;exact sZ ao.Bs
    ·have:=aR.afA R ao.lt h;omega
 let bu:ce:=λk=>if k=(bq p).U then some pl else aj k
 have C:∀m,Sub (cut aj m) (cut bu m):=λm b q A=>by
  by_cases Ej:b<m
  ·rw[o9 Ej]at A;rw[o9 Ej]
   grind
  ·rw[pP J]at A;grind
 have N:cut bu (bq c).U=cut aj (bq c).U:=funext λb=>by
  by_cases A:b<(bq c).U
  ·rw[o9 A,o9 A]
   grind
  ·rw[pP J,pP J]
 have I:cut bu ((bq p).U+1)=λk=>if k=(bq p).U then some pl else cut aj (bq p).U k:=funext λb=>by
  by_cases e:b=(bq p).U
  ·subst e;rw[o9 J];grind
  ·by_cases A:b<(bq p).U
   ·rw[o9 J];simp[bu,e,o9 A]
   ·rw[pP J];simp[e,pP (Nat.le_of_not_lt A)]
 have E:ed B (cut aj (bq p).U) (λ_=>none) w:={
  base:=M.h4.rel.base
  obj:=λb q o _ h=>by cases h
  inj:=ab
  nd:=ab }
 obtain⟨h1,ao⟩:=L8.step E (pP (cC _)) qa xl hm;rw[<-I]at h1 ao;have SG:mx B (cut bu ((bq p).U+1)) a8 pl (sW c5):=by
  refine h1.rel.obj (bq p).U pl (sW c5) ?_ (by simp[fq.put])
  grind
 have xk:¬w3 B (cut aj (bq c).U) (u (bq c).h) pl.ca:=λfI=>by have:=M.h4.rel.Zi fI;omega
 refine⟨bu,⟨M.le,λq t c3 cq=>qH.2 (.inr (M.done q t c3 cq)),by rw[N];exact M.h4.grown hm,M.sub,?_,?_,?_⟩,ao,C⟩
 ·intro q t D c3 dR;rcases dR.set R ar with e|Eg
  ·subst e;have:=dR.at_;rw[ar]at this;cases this;obtain⟨dS,ua,this⟩:=dR.ok;rw[hk]at ua;cases ua;rw[jb]at this;cases this;exact⟨pl,ab,SG,by rw[qa];exact M.h4.size,by rw[qa,hm.size];omega,ab⟩
  ·obtain⟨V,bP,g2,dp,dZ,hw⟩:=M.ext q t D c3 Eg;refine⟨V,ab,g2.mono (C _) (hm.d3 _ dZ),dp,by rw[hm.size];omega,ab⟩
 ·intro q r t mQ y8 q4 Mh Mi c3 bc Mj TK eh q5 jy;rcases Mj.set R ar with aU|Z <;> rcases TK.set R ar with aK|y9
  ·omega
  ·subst aU;obtain⟨V,bP,_,_,dZ,_⟩:=M.ext r mQ q4 bc y9
   grind
  ·subst aK;obtain⟨V,bP,_,_,dZ,_⟩:=M.ext q t y8 c3 Z
   grind
  ·obtain⟨_,bP,_⟩:=M.ext q t y8 c3 Z;obtain⟨_,g2,_⟩:=M.ext r mQ q4 bc y9;exact M.po q r t mQ y8 q4 Mh Mi c3 bc Z y9 eh ab ab
 ·intro b q A
  by_cases e:b=(bq p).U
  ·grind
  ·have A:aj b=some q:=ab
   rcases M.yN b q A with h|⟨r,t,D,bP,g2,dp⟩
   ·omega
   ·exact .inr ⟨r,t,D,bP,g2.up,dp⟩
end
section
variable {P:Program} {a4:Array Oper} {bJ:aa eX} {bq:Nat->md} {val:Nat->aw X}
theorem lB.fy(R:oH P a4 bJ bq val){B:Nat}{iB aj:ce}{gk w a8:World}{cv:Array al}{c:Nat}(M:lB P a4 bJ bq B iB gk cv c aj w){s:eX}(ar:bJ[c]? = some s)(ag:s.i<cv.size){e:vV}(hk:s.k = .fy e)
  (bO:m5 a4.toList s.o (bq c).ak=true) (sZ:¬hW cv s.i) {bu:ce} (hm:cx B (cut aj (bq c).U) (u (bq c).h) w (bq c).U (bq (c+1)).U bu (u (bq (c+1)).h) a8):
  ∃Z:ce,lB P a4 bJ bq B iB gk (cv.setIfInBounds s.i true) (c+1) Z a8/\cut Z (bq (c+1)).U=bu/\∀m,Sub (cut aj m) (cut Z m):=by
 have cb:c<bJ.length:=ab
 have oy:kg bu (bq (c+1)).U:=(Rc aj (bq c).U).after hm
 let Z:ce:=λb=>if b<(bq (c+1)).U then bu b else aj b
 have xm:cut Z (bq (c+1)).U=bu:=funext λb=>by
  by_cases C:b<(bq (c+1)).U
  ·rw[o9 C];grind
  ·rw[pP J,oy b J]
 have aCf:∀{q:Nat} {t:eX} {c5:kV},c<=q->j5 P a4 bJ bq cv q t c5->(bq (c+1)).U<=(bq q).U/\c+1<=q:=λ{q t c5} c3 dR=>by
  have:q≠c:=by intro e;subst e;have:=dR.at_;rw[ar]at this;cases this;exact sZ dR.Bs
  exact⟨R.wT J (by have:=dR.lt;omega),J⟩
 have E:∀b q,aj b=some q->Z b=some q:=λb q C=>by
  rcases M.yN b q C with h|⟨r,t,c5,h1,ao,aT⟩
  ·have:bu b=some q:=by rw[hm.agree b J,o9 h];omega
   grind
  grind
 have I:∀m,Sub (cut aj m) (cut Z m):=λm b q C=>by
  by_cases Ej:b<m
  ·rw[o9 Ej]at C ⊢;grind
  ·rw[pP J]at C;grind
 have g6:(bq (c+1)).b=(bq (c+1)).h:=by
  cases(R.iR c s ar).ok with
  |fy _ _ _ _ _ _ _ C _=>exact C
  |skip D _ _ _=>rw[bO]at D;cases D
  |u7 D _ _ _ _ _ _=>rw[bO]at D;cases D
  |fx _ _ A _ _ _ _=>rw[hk]at A;cases A
  |red _ _ A _ _ _ _ _=>rw[hk]at A;cases A
  |iA _ _ A _ _ _ _ _ _ _=>rw[hk]at A;cases A
 have back:∀{q:Nat} {t:eX} {c5:kV},j5 P a4 bJ bq (cv.setIfInBounds s.i true) q t c5->j5 P a4 bJ bq cv q t c5:=λ{q t c5} h=>by
  rcases h.set R ar with e|ac
  ·subst e;have:=h.at_;rw[ar]at this;cases this;have:=h.lL.1;rw[hk]at this;cases this
  ·exact ac
 refine⟨Z,⟨cb,λq t c3 cq=>?_,by rw[xm];exact M.h4.trans hm,ab,?_,?_,?_⟩,xm,I⟩
 ·rcases jJ q c with h|h
  ·exact qH.2 (.inr (M.done q t h cq))
  ·have:q=c:=J
   subst this;rw[ar]at cq;cases cq;exact qH.2 J
 ·intro q t c5 c3 dR;have dR:=back dR;obtain⟨pl,bP,g2,dp,dZ,hw⟩:=M.ext q t c5 J dR;refine⟨pl,ab,g2.mono (I _) (hm.frame _ dZ hw),dp,Jt dZ hm.size,?_⟩;rw[xm];intro fI;rcases hm.own _ fI with h|h
  all_goals grind
 ·intro q r t mQ y8 q4 Mh Mi c3 bc V N eh q5 jy;have V:=back V;have N:=back N;obtain⟨_,bP,_⟩:=M.ext q t y8 J V;obtain⟨_,g2,_⟩:=M.ext r mQ q4 J N;have aU:=E _ _ bP;have aK:=E _ _ g2;rw[q5]at aU;cases aU;rw[jy]at aK;cases aK;exact M.po q r t mQ y8 q4 _ _ J J V N eh bP g2
 ·intro b q C
  by_cases SF:b<(bq (c+1)).U
  ·omega
  ·have C:aj b=some q:=ab
   rcases M.yN b q C with h|⟨r,t,c5,bP,g2,dp⟩
   ·have:=hm.le;omega
   ·exact .inr ⟨r,t,c5,ab,g2.up,dp⟩
end
section
variable {P:Program} {a4:Array Oper} {bJ:aa eX} {bq:Nat->md} {val:Nat->aw X}
def tV(bJ:aa eX)(c p:Nat):Nat:=(((bJ.take p).drop c).filter λs=>jn s.k).length
theorem oH.base(R:oH P a4 bJ bq val){c:Nat}:∀{p:Nat},c<=p->p<=bJ.length->(tV bJ c p=0->(bq p).b=(bq c).b)/\(∀k,tV bJ c p=k+1->(bq p).ar[k]? = some (bq c).b)
 |0,h,_=>by
  have:c=0:=J
  subst this;exact⟨ab,λk C=>by simp[tV]at C⟩
 |p+1,h,Z=>by
  by_cases e:c=p+1
  ·subst e;exact⟨ab,λk C=>by simp[tV]at C⟩
  ·obtain⟨N,V⟩:=R.base (c:=c) (p:=p) J J;have ar:bJ[p]? = some (bJ[p]'J):=ab
   generalize bJ[p]'J=s at ar;have D:tV bJ c (p+1)=tV bJ c p+if jn s.k then 1 else 0:=by
    unfold tV;rw[gW,ar,Fa ab,sv,ib]
    grind
   cases C:jn s.k with
   |false =>
    rw[C]at D;have M:(bq (p+1)).b=(bq p).b/\(bq (p+1)).ar=(bq p).ar:=by
     cases(R.iR p s ar).ok with
     |skip _ _ _ I=>exact⟨I.2.2.1,I.2.2.2⟩
     |u7 _ A _ _ _ _ _=>rw[C]at A;cases A
     |fx _ _ _ _ _ _ I=>exact⟨I.2.2.1,I.2.2.2⟩
     |red _ _ _ _ _ _ _ I=>exact⟨I.2.2.1,I.2.2.2⟩
     |iA _ _ _ _ _ _ _ _ I E=>exact⟨I,E⟩
     |fy _ _ A _ _ _ _ _ _=>rw[A]at C;cases C
    grind
   |true =>
    rw[C]at D;have E:(bq (p+1)).ar=(bq p).b::(bq p).ar:=by
     cases(R.iR p s ar).ok with
     |skip _ A _ _=>rw[C]at A;cases A
     |u7 _ _ _ _ _ _ E=>exact E
     |fx _ _ A _ _ _ _=>rw[A]at C;cases C
     |red _ _ A _ _ _ _ _=>rw[A]at C;cases C
     |iA _ _ A _ _ _ _ _ _ _=>rw[A]at C;cases C
     |fy _ _ _ _ _ _ _ _ E=>exact E
    grind
end
section
variable {P:Program} {a4:Array Oper} {bJ:aa eX} {bq:Nat->md} {val:Nat->aw X}
theorem aqX(R:tU P a4.toList bJ){s:eX}(ar:bJ[p]? = some s)(V:c<=p)(D:∀(q:Nat) (t:eX),c<=q->q<p->bJ[q]? = some t->jn t.k=true->kr (kb a4.toList) s.i t.i=false):tV bJ c p<=s.vA:=by
 rw[(R.step p s ar).2.2];unfold Lh tV;rw[List.filter_map,gX];have C:((bJ.take p).drop c).Sublist (bJ.take p):=ab
 have h1:(((bJ.take p).drop c).filter λs=>jn s.k)=((bJ.take p).drop c).filter ((λe=>sI P a4.toList e&&!kr (kb a4.toList) s.i e) ∘ λx=>x.i):=by
  apply Jv;intro t N;obtain⟨k,A⟩:=Fi N;rw[xY,wk]at A
  split at A
  ·rename_i I
   have Z:=R.step (c+k) t A;have M:sI P a4.toList t.i=jn t.k:=by
    unfold sI;rw[i4,Z.1];simp only[Fs,JA,Ha]
    grind
   simp only[Function.comp,M];cases E:jn t.k with
   |false=>rfl
   |true =>
    rw[D (c+k) t J I A E];rfl
  grind
 grind
end
section
variable {P:Program} {a4:Array Oper} {bJ:aa eX} {bq:Nat->md} {val:Nat->aw X}
theorem ajz(R:oH P a4 bJ bq val)(a1:sq a4 cv){s:eX}(ar:bJ[p]? = some s)(I:c<=p)(Z:∀t,bJ[c]? = some t->¬hW cv t.i)(bc:s.i∈Region.ready .any a4 cv)(bO:m5 a4.toList s.o (bq p).ak=true){e:HI}(M:s.k = .red e):∃D,val p=some D/\pred P (bq p).ak e (bq c).b = .ok D:=by
 have a6:p<bJ.length:=ab
 obtain⟨h1,ao⟩:=R.base I J;have dv:tV bJ c p<=s.vA:=aqX R.la ar I λq t V hqp cq N=>by
  cases aW:kr (kb a4.toList) s.i t.i with
  |false=>rfl
  |true =>
   exfalso;have fJ:=a1.Om bc aW;rcases jJ c q with h|h
   ·have E:bJ[c]? = some (bJ[c]'J):=ab
    exact Z _ E (a1.ahead fJ (R.la.fy h E cq N))
   grind
 cases(R.iR p s ar).ok with
 |skip C _ _ _=>rw[bO]at C;cases C
 |u7 C _ _ _ _ _ _=>rw[bO]at C;cases C
 |fx _ _ A _ _ _ _=>rw[M]at A;cases A
 |iA _ _ A _ _ _ _ _ _ _=>rw[M]at A;cases A
 |fy _ _ A _ _ _ _ _ _=>rw[M]at A;cases A
 |red _ dS A D aI b0 dR _ =>
  rw[M]at A;cases A;refine⟨D,aI,?_⟩;cases V:tV bJ c p with
  |zero=>rw[<-h1 V];exact b0
  |succ k =>
   obtain⟨eT,bP,g2⟩:=dR k J;rw[ao k V]at bP;cases bP;exact g2
end
theorem ed.up{B:Nat}{aj bu:ce}{H:fq}{w:World}(h:ed B aj H w)(ar:Sub aj bu):ed B bu H w:=by
 have down:∀b p,bu b=some p->(H b).isSome->aj b=some p:=λb p D A=>by obtain⟨q,C⟩:=nA.1 (h.nd b A);rw[ar b q C]at D;grind
 refine⟨h.base,λb p o D I=>?_,λb M p N D V A E=>h.inj b M p N ab ab A E,λb A=>?_⟩
 ·exact(h.obj b p o ab I).mono ar rfl
 ·obtain⟨q,C⟩:=nA.1 (h.nd b A);rw[ar b q C];rfl
theorem akK{C:Oper}{A:al}{d:Tmp}(E:o.guard=some (j,A))(D:all[j]? = some C)(I:C.dst=some d):d∈oo all o:=by
 unfold oo;rw[E];simp only;rw[i4,D]
 grind
theorem ane{t:Tmp}(h:Operand.tmp t∈o.op.operands):t∈oo all o:=by unfold oo;simp only[he];refine .inl (.inr ?_);rw[List.mem_filterMap];exact⟨.tmp t,ab,rfl⟩
section
variable {P:Program}
theorem ajA{d:Nat}{w:al}(A:zA all o.guard=some (some (d,w))):d∈oo all o:=by
  unfold zA at A
  split at A
  · cases A
  · rename_i j b D
    simp only[jI,mq]at A;obtain⟨I,C,M,E,e⟩:=A;cases e;exact akK D C E
theorem aqY{a4:Array Oper}{bJ:aa eX}(qa:Q6 P a4.toList=some bJ){is:aa ma}(HP:GL a4.toList bJ=some is){L B:Nat}{ak:ch}{U:Nat}{aC:Act}{r:aw Nat}{K:ch->ae->Nat->Prop}(qc:ij P is ak h U h [] K)(Ht:oV L B iB ak h U aC gk)(yO:wM aC.tmps.size a4.toList=true)(a6:vd L B iB h gk U aC.tmps.size (λx ak h U=>x = .normal/\K ak h U) Q):
    wpAnyIn (nv r) n P .any a4 Q a4.size (Array.replicate a4.size false) aC gk:=by
  have la:=ai0 qa;obtain⟨bq,val,⟨rW,gl,eM,B4,_⟩,za,h8⟩:=afz bJ is ⟨ak,h,U,h,[]⟩ HP qc;have gl:(bq 0).h=h:=gl;have eM:(bq 0).U=U:=eM;have B4:(bq 0).b=h:=B4;have pq:oV L B iB (bq 0).ak (bq 0).h (bq 0).U aC gk:=by rw[gl,eM];exact⟨Ht.rel,Ht.eu,Ht.iR.same rW,Ht.marks,Ht.low⟩
  rw[<-gl,<-eM]at a6;have R:oH P a4 bJ bq val:=⟨la,za⟩
  have main:∀(E:Nat) (cv:Array al) (a:Act) (w:World) (aj:ce) (c:Nat),sq a4 cv->lB P a4 bJ bq B iB gk cv c aj w->A5 bJ bq cv aj a->(∀s,bJ[c]? = some s->¬hW cv s.i) ->
      a.tmps.size=aC.tmps.size->a.defers=aC.defers->left a4 cv<=E->wpAnyIn (nv r) n P .any a4 Q E cv a w:=by
    intro E;have fin:∀(cv:Array al) (a:Act) (w:World) (aj:ce) (c:Nat),sq a4 cv->lB P a4 bJ bq B iB gk cv c aj w->A5 bJ bq cv aj a->(∀s,bJ[c]? = some s->¬hW cv s.i) ->
        a.tmps.size=aC.tmps.size->a.defers=aC.defers->Region.ready .any a4 cv=[]->Q .normal a w:=by
      intro cv a w aj c C M eI zb kP HT bc;have a1:c=bJ.length:=anb R C M.done zb bc M.le;subst a1;have kx:=M.h4;refine a6 .normal _ _ _ _ a w ⟨rfl,h8⟩ kx ⟨kx.rel,Rc _ _,λd v V=>?_,?_,iv pq.low kx.size⟩ kP
      · refine eI bJ.length d J (λq s c3 ar _=>M.done q s c3 ar) (λq s c3 ar _=>?_) v V
        grind
      · rw[HT];exact pq.marks.h4 kx
    induction E with
    |zero =>
      intro cv a w aj c C M eI zb kP HT bo;have bc:Region.ready .any a4 cv=[]:=by
        cases qd:Region.ready .any a4 cv with
        |nil=>rfl
        |cons i is =>
          exfalso;have ag:i∈Region.ready .any a4 cv:=ab
          obtain⟨sZ,o,fI,_⟩:=mem_ready.1 ag;have cb:=(Jh.1 fI).1;have:=Zj C.size cb ((OD ab).1 sZ);omega
      exact⟨bc,fin cv a w aj c C M eI zb kP HT bc⟩
    |succ E eS =>
      intro cv a w aj c C M eI zb kP HT bo;refine⟨λbc=>fin cv a w aj c C M eI zb kP HT bc,λi ag=>?_⟩;obtain⟨azD,o,fI,_⟩:=mem_ready.1 ag;have cb:=(Jh.1 fI).1;obtain⟨p,s,ar,rfl⟩:=la.cover i J;have mF:=(la.step p s ar).1;have ho':a4[s.i]? = some s.o:=ab
      rw[ho']at fI;cases fI;have vD:s.i<cv.size:=ab
      have sZ:=(OD vD).1 azD;have Ei:c<=p:=by
        rcases jJ p c with h|h
        · exact absurd (M.done p s h ar) sZ
        omega
      have ahd:p<bJ.length:=ab
      have look:∀d,d∈oo a4.toList s.o->∀v,ho (bq p).ak d=some v->bF (cut aj (bq p).U) (rM v) (a.tmps.getD d undef):=λd bh=>eI.look R C ar ag bh;obtain⟨g,aY,HQ⟩:=(za p s ar).g;have hwq:Region.wanted s.o (yielded a4 a.tmps)=m5 a4.toList s.o (bq p).ak:=by unfold m5;rw[aY];exact X1 aY HQ λd w v e V=>look d (ajA (by rw[<-e];exact aY)) v V
      have LJ:Loc (cut aj (bq p).U) (bq p).ak a.tmps s.o.op.operands:=λt v cq V=>look t (ane cq) v V;have axq:∀d,s.o.dst=some d->d<a.tmps.size:=by rw[kP];exact abc yO (kk mF)
      have axr:left a4 (cv.setIfInBounds s.i true)<=E:=by have:=Zj C.size cb sZ;omega
      have axs:∀(eC:Nat) (lJ:eX),c<=eC->bJ[eC]? = some lJ->hW cv lJ.i->jn lJ.k=false:=λeC lJ xn nK Bt=>by
        cases ua:jn lJ.k with
        |false=>rfl
        |true =>
        exfalso;rcases jJ c eC with h|h
        · have nh:bJ[c]? = some (bJ[c]'J):=ab
          exact zb _ nh (C.ahead Bt (la.fy h nh nK ua))
        grind
      have D:∀(bu:ce) (a8:World) (hj:X) (c1:Nat),lB P a4 bJ bq B iB gk (cv.setIfInBounds s.i true) c1 bu a8->c<=c1->(c1<=p->jn s.k=false\/m5 a4.toList s.o (bq p).ak=false) ->
          bF (cut bu (bq (p+1)).U) (rM (val p)) hj->(∀m,Sub (cut aj m) (cut bu m))->wpAnyIn (nv r) n P .any a4 Q E (cv.setIfInBounds s.i true) (a.put s.o.dst hj) a8:=by
        intro bu a8 hj c1 aDD Ee zc V p4;obtain⟨c2,aDE,azE⟩:=lB.advance R (bJ.length-c1) c1 J aDD λeC lJ xn nK Bt=>by
          rcases Nat.decEq eC p with eh|rfl
          · left
            refine axs eC lJ J nK ?_;rw[qH]at Bt;rcases Bt with⟨e,_⟩|Bt
            · exact absurd e (la.ne nK ar eh)
            · exact Bt
          grind
        exact eS _ _ _ bu c2 (C.set ag) aDE (eI.step R C p4 ar ag V axq) azE (by rw[Act.O6];omega) (by rw[Act.WS];omega) axr
      unfold wpOpIn;simp only[ho'];rw[hwq];have N:=(la.step p s ar).2.1;have jc:=(za p s ar).ok;cases I:m5 a4.toList s.o (bq p).ak with
      |false =>
        simp only[nB,fg];refine⟨λ_ _=>trivial,?_⟩;have SH:val p=none:=by
          cases jc with
          |skip _ _ V _=>exact V
          |u7 _ _ V _ _ _ _=>exact V
          |fx A _ _ _ _ _ _=>rw[I]at A;cases A
          |iA A _ _ _ _ _ _ _ _ _=>rw[I]at A;cases A
          |red A _ _ _ _ _ _ _=>rw[I]at A;cases A
          |fy A _ _ _ _ _ _ _ _=>rw[I]at A;cases A
        exact D aj w undef c (M.quiet R ar (.inl I)) J (λ_=>.inr I) (by rw[SH];exact tA) (λm _ _ h=>h)
      |true =>
        simp only[if_true];refine⟨λ_ _=>trivial,?_⟩;show s.o.uponIn (nv r) n P a _ Q ((s.o.semAt r a.eval).run P w);cases jc with
        |skip A _ _ _=>rw[I]at A;cases A
        |u7 A _ _ _ _ _ _=>rw[I]at A;cases A
        |fx _ e Z aO vF b0 aW =>
          rw[Z]at N;rw[Oper.semAt_eq r a.eval s.o (Ai N)];obtain⟨hj,V,tS⟩:=aa8 s.o LJ N b0;rw[tS w];exact D aj w hj c (M.quiet R ar (.inr λe=>by rw[Z];simp)) J (λ_=>.inl (by rw[Z];rfl)) (by rw[aW.2.1,vF];exact V) (λm _ _ h=>h)
        |red _ e Z aO vF b0 dR aW =>
          obtain⟨u',y4,hre⟩:=ajz R C ar Ei zb ag I Z;rw[vF]at y4;cases y4;rw[Z]at N;rw[Oper.semAt_eq r a.eval s.o (Ai N)];have azF:ed B (cut aj (bq p).U) (u (bq c).b) w:=(M.h4.rel.less M.sub).up (PW aj (R.wT Ei J));obtain⟨hj,V,tS⟩:=abb azF s.o LJ N hre;rw[tS];exact D aj w hj c (M.quiet R ar (.inr λe=>by rw[Z];simp)) J (λ_=>.inl (by rw[Z];rfl)) (by rw[aW.2.1,vF];exact V) (λm _ _ h=>h)
        |iA _ e Z c5 b0 vF eT TL aW Br =>
          have xo:=Z;rw[Z]at N;rw[Oper.semAt_eq r a.eval s.o (Ai N)];obtain⟨dw,pl,a8,qa,xl,axt,tS⟩:=aa9 s.o LJ N b0 w;obtain⟨bu,uy,V,p4⟩:=M.alloc R Ei ar sZ vD I Z b0 qa xl axt;rw[tS];exact D bu a8 _ c uy J (λ_=>.inl (by rw[Z];rfl)) (by rw[TL,vF];exact V) p4
        |fy _ e Z aO vF b0 TL aW Br =>
          have q6:p=c:=by
            rcases jJ c p with h|h
            · exfalso
              have nh:bJ[c]? = some (bJ[c]'J):=ab
              exact zb _ nh (C.Om ag (la.fy h nh ar (by rw[Z];rfl)))
            omega
          subst q6;rw[Z]at N;refine Zc M.h4.rel (Rc _ _) s.o LJ N b0 ?_;intro v ac Y bu hj a8 uc V hm;obtain⟨rfl,rfl,rfl⟩:=uc;obtain⟨ρn,uy,xm,p4⟩:=M.fy R ar vD Z I sZ hm;exact D ρn a8 hj (p+1) uy J (λh=>J) (by rw[xm,vF];exact V) p4
  have Ed:∀i,¬hW (Array.replicate a4.size false) i:=λi bo=>by
    unfold hW at bo
    by_cases ag:i<a4.size <;> simp[qC,ag]at bo
  have afB:cut iB (bq 0).U=iB:=aqW iB pq.eu;have aDF:lB P a4 bJ bq B iB gk (Array.replicate a4.size false) 0 iB gk :=
    { le:=Fx _
      done:=λq s c3=>J
      h4:=by rw[afB];exact cx.refl _ pq.rel
      sub:=by rw[show(bq 0).b=(bq 0).h by rw[B4,gl]];exact λ_ _ h=>h
      ext:=λp s c5 _ dR=>absurd dR.Bs (Ed _)
      po:=λp q s t c5 nb' pl TJ _ _ dR=>absurd dR.Bs (Ed _)
      yN:=λb pl aW=>by
        left
        rcases jJ b (bq 0).U with h|h
        · exact h
        · rw[pq.eu b h]at aW;grind }
  refine main a4.size _ aC gk iB 0 ⟨by simp,λj o e bo=>absurd bo (Ed _)⟩ aDF ?_ (λs _=>Ed _) rfl rfl ?_
  · intro j d b5 aW bK v V
    have axu:∀k,k<=j->ho (bq k).ak d=ho (bq 0).ak d:=by
      intro k
      induction k with
      |zero=>intro _;rfl
      |succ k eS =>
        intro Z;have ar:bJ[k]? = some (bJ[k]'J):=lo _;generalize bJ[k]'J=s at ar;rw[(za k s ar).l9 d,if_neg (λe=>Ed _ (aW k s J ar e))];exact eS J
    rw[axu j (cC _)]at V;have:=pq.iR d v V;rw[<-afB]at this;exact this.mono (PW iB (R.wT (Fx _) b5))
  · unfold left
    grind
end
section
variable {P:Program} {s:al}
theorem hT{r:R az}{k dm:az->Prop}(h:af r k)(A:∀v,k v->dm v):af r dm:=by
 cases r <;> first|exact A _ h|exact h
theorem Ap{a b A C:Prop}(h:br v a b)(D:a->A)(E:b->C):br v A C:=by
 rcases tJ h with⟨rfl,h⟩|⟨rfl,h⟩
 ·exact D h
 ·exact E h
theorem PX(h:dG r k)(A:∀v h U,k v h U->dm v h U):dG r dm:=by
 cases r <;> first|exact A _ _ _ h|exact h
theorem Zk(h:eQ P s r k)(A:∀v h U,k v h U->dm v h U):eQ P s r dm:=by
 cases r <;> first|exact aE.mono h A|exact mb.mono h A|exact h
theorem C4{ak:ch}{C A I M:ch->Prop}(h:kD g ak C A)(E:∀ak,C ak->I ak)(D:∀ak,A ak->M ak):kD g ak I M:=by
 cases g with
 |none=>exact E _ h
 |some g =>
  obtain⟨t,w⟩:=g;simp only[kD]at h ⊢
  split at h
  ·cases w <;> exact Ap h (by first|exact E _|exact D _) (by first|exact E _|exact D _)
  ·exact D _ h
  ·exact h
theorem Kw{ak:ch}{U:Nat}(C:pz P s e ak h U k)(A:∀v h U,k v h U->dm v h U):pz P s e ak h U dm:=by
 cases e with
 |st n a x=>exact hT C λ_ h=>hT h λ_ h=>hT h λ_=>A _ _ _
 |y1 t m k x=>exact hT C λ_ h=>hT h λ_ h=>hT h λ_ h=>hT h λ_=>A _ _ _
 |rR x=>exact hT C λ_ h=>PX h A
 |fG x=>exact hT C λ_ ⟨a,b,c,d,e,f,g,M,Z,I,a9,N,V,E⟩=>⟨a,b,c,d,e,f,g,M,Z,I,a9,N,λh=>A _ _ _ (V h),λe D=>⟨(E e D).1,A _ _ _ (E e D).2⟩⟩
 |call f args=>exact hT C λ_ h=>aE.mono h A
 |AN f args=>exact hT C λ_ h=>hT h λ_ h=>Zk h A
 |app z x y=>exact hT C λ_ h=>hT h λ_ h=>PX h A
 |bi b ai args=>exact hT C λ_ h=>PX h A
 |inv r m args=>exact hT C λ_ h=>hT h λ_ h=>Zk h A
theorem KY{ak:ch}{U:Nat}{k:ch->ae->Nat->Prop}:nU P s d (.fy e) ak h U k=pz P s e ak h U λv h U=>k (ez ak d (some v)) h U:=rfl
theorem Kx{i:ma}{ak:ch}{U:Nat}{K:ch->ae->Nat->Prop}:qs P s (i::l) ak h U K=kD i.g ak (λak=>nU P s i.d i.k ak h U λak h U=>qs P s l ak h U K) (λak=>qs P s l (ez ak i.d none) h U K):=rfl
theorem PY{i:ma}{ak:ch}{U:Nat}{b:ae}{K:ch->ae->Nat->Prop}:ij P (i::l) ak h U b ar K=kD i.g ak (λak=>nf P i.d i.c i.k ak h U b ar λak h U b ar=>ij P l ak h U b ar K)
 (λak=>if jn i.k=true then ij P l (ez ak i.d none) h U h (b::ar) K else ij P l (ez ak i.d none) h U b ar K):=by
 have e:ij P (i::l) ak h U b ar K=kD i.g ak (λak=>nf P i.d i.c i.k ak h U b ar λak h U b ar=>ij P l ak h U b ar K)
  (λak=>Bool.rec (ij P l (ez ak i.d none) h U b ar K) (ij P l (ez ak i.d none) h U h (b::ar) K) (jn i.k)):=rfl
 rw[e]
 congr 1
 funext ak
 cases jn i.k <;> rfl
theorem PZ{i:nu}{ak:ch}{U:Nat}{k dm:ch->ae->Nat->Prop}(A:nU P s d i ak h U k)(C:∀p h U,k p h U->dm p h U):nU P s d i ak h U dm:=by
 cases i with
 |fx e=>cases e <;> first|exact hT A λ_=>C _ _ _|exact hT A λ_ h=>hT h λ_ h=>hT h λ_ h=>Ap h (C _ _ _) (C _ _ _)
 |iA e=>exact hT A λ_=>C _ _ _
 |red e=>exact hT A λ_=>C _ _ _
 |fy e=>rw[KY]at A ⊢;exact Kw A λ_ _ _=>C _ _ _
theorem Ky:∀{l:aa ma} {ak:ch} {h:ae} {U:Nat} {k dm:ch->ae->Nat->Prop},qs P s l ak h U k->(∀p h U,k p h U->dm p h U)->qs P s l ak h U dm
 | [],_,_,_,_,_,A,C=>C _ _ _ A
 |i::l,_,_,_,_,_,A,C=>by rw[Kx]at A ⊢;exact C4 A (λ_ h=>PZ h λ_ _ _ h=>Ky (l:=l) h C) (λ_ h=>Ky (l:=l) h C)
theorem Zl{i:nu}{ak:ch}{U:Nat}{b:ae}{k dm:ch->ae->Nat->ae->aa ae->Prop}(C:nf P d c i ak h U b ar k)(A:∀p h U b ar,k p h U b ar->dm p h U b ar):nf P d c i ak h U b ar dm:=by
 have I:∀{f:ae->R X} {v:X} {p q:Prop} (_:p->q) {n:Nat} {ar:aa ae},pi f v p n ar->pi f v q n ar:=λ{f v p q} D {n}=>by
  induction n with
  |zero=>intro ar h;exact D h
  |succ n E=>intro ar h;cases ar with
   |nil=>exact h
   |cons x M=>exact⟨h.1,E h.2⟩
 cases i with
 |fx e=>cases e <;> first|exact hT C λ_=>A _ _ _ _ _|exact hT C λ_ h=>hT h λ_ h=>hT h λ_ h=>Ap h (A _ _ _ _ _) (A _ _ _ _ _)
 |iA e=>exact hT C λ_=>A _ _ _ _ _
 |red e=>exact hT C λ_ h=>by cases c <;> first|exact A _ _ _ _ _ h|exact I (A _ _ _ _ _) h
 |fy e=>rw[Gn]at C ⊢;exact Kw C λ_ _ _ h=>⟨h.1,A _ _ _ _ _ h.2⟩
theorem Gp:∀{l:aa ma} {ak:ch} {h:ae} {U:Nat} {b:ae} {ar:aa ae} {k dm:ch->ae->Nat->Prop},ij P l ak h U b ar k->(∀p h U,k p h U->dm p h U)->ij P l ak h U b ar dm
 | [],_,_,_,_,_,_,_,C,A=>A _ _ _ C
 |i::l,_,_,_,_,_,_,_,C,A=>by
  rw[PY]at C ⊢;refine C4 C (λ_ h=>Zl h λ_ _ _ _ _ h=>Gp (l:=l) h A) (λ_ h=>?_)
  split at h <;> rename_i e
  ·rw[if_pos e];exact Gp (l:=l) h A
  ·rw[if_neg e];exact Gp (l:=l) h A
theorem wU{ak:ch}:∀{L:aa Nat} {k:aa X->Prop},oR L ak k->∃aF,k aF/\(∀dm,dm aF->oR L ak dm)/\∀i n,L[i]? = some n->∃v,ho ak n=some v/\bb aF i=rM v
 | [],k,h=>⟨[],h,λ_ h=>h,λi n h=>by cases h⟩
 |n::L,k,h=>by
  unfold oR at h
  split at h
  ·rename_i v A
   obtain⟨aF,D,I,C⟩:=wU h;refine⟨v::aF,D,λdm E=>by unfold oR;rw[A];exact I _ E,λi m ag=>?_⟩;cases i with
   |zero=>cases ag;exact⟨_,A,rfl⟩
   |succ i=>exact C i m ag
  ·rename_i A
   obtain⟨aF,D,I,C⟩:=wU h;refine⟨j1::aF,D,λdm E=>by unfold oR;rw[A];exact I _ E,λi m ag=>?_⟩;cases i with
   |zero=>cases ag;exact⟨_,A,rfl⟩
   |succ i=>exact C i m ag
  ·exact h.elim
theorem Zm{aF:aa X}{d:Nat}{A:aw X}:∀{L:aa Nat} {j:Nat},ho (rP L aF j) d=some A->∃i,L[i]? = some d/\A=some (bb aF (j+i))
 | [],j,h=>by cases h
 |n::L,j,h=>by
  have h:ho ((n,some (bb aF j))::rP L aF (j+1)) d=some A:=h;rw[FO]at h
  by_cases e:n=d
  ·rw[if_pos e]at h;cases h;exact⟨0,by simp[e],rfl⟩
  ·rw[if_neg e]at h;obtain⟨i,C,D⟩:=Zm h;exact⟨i+1,C,by rw[D];congr 2;omega⟩
theorem js.sl{aj:ce}{ak:ch}{t:Array X}(M:js aj ak t){k:aa X->Prop}(h:oR L ak k):∃aF,k aF/\js aj (rP L aF 0) t:=by obtain⟨aF,C,_,A⟩:=wU h;refine⟨aF,C,λd D I=>?_⟩;obtain⟨i,ag,rfl⟩:=Zm I;obtain⟨v,E,e⟩:=A i d ag;show bF aj (bb aF (0+i)) _;rw[iE,e];exact M d v E
theorem C5{ak:ch}{k dm:aa X->Prop}(h:oR L ak k)(A:∀aF,k aF->dm aF):oR L ak dm:=by obtain⟨aF,C,D,_⟩:=wU h;exact D _ (A _ C)
theorem Kz{L:aa Nat}{i:Nat}{ak:ch}{h:ae}{U:Nat}:∀{E:aa (Nat × aP)},ka (w4 L E) i ak h U->oR L ak λaF=>ka E i aF h U
 | [],A=>A.elim
 |p::E,A=>by
  have A:(bif Nat.beq p.1 i then tR L p.2 else ka (w4 L E) i) ak h U:=A;show oR L ak λaF=>(bif Nat.beq p.1 i then p.2 else ka E i) aF h U;cases C:Nat.beq p.1 i <;> rw[C]at A
  ·exact Kz A
  ·exact A
theorem P0{L:aa Nat}{i:Nat}{ak:ch}{h:ae}{U:Nat}:∀{E:aa (Nat × aP)},(oR L ak λaF=>ka E i aF h U)->ka (w4 L E) i ak h U
 | [],A=>by obtain⟨_,h,_⟩:=wU A;exact h
 |p::E,A=>by
  have A:oR L ak λaF=>(bif Nat.beq p.1 i then p.2 else ka E i) aF h U:=A;show(bif Nat.beq p.1 i then tR L p.2 else ka (w4 L E) i) ak h U;cases C:Nat.beq p.1 i <;> rw[C]at A
  ·exact P0 A
  ·exact A
theorem yj{L:aa Nat}{c:kB}{i:Nat}{aF:aa X}{h:ae}{U:Nat}:∀{E:aa (Nat × iX)},ka (vC L c E) i aF h U↔rQ i c=true/\ka E i (rP L aF 0) h U
 | []=>⟨λh=>h.elim,λh=>h.2⟩
 |p::E=>by
  show ka (bif rQ p.1 c then(p.1,HJ L p.2)::vC L c E else vC L c E) i aF h U↔rQ i c=true/\(bif Nat.beq p.1 i then p.2 else ka E i) (rP L aF 0) h U;have C:=yj (L:=L) (c:=c) (i:=i) (aF:=aF) (h:=h) (U:=U) (E:=E);cases A:Nat.beq p.1 i with
  |false =>
   cases D:rQ p.1 c with
   |false=>exact C
   |true =>
    show(bif Nat.beq p.1 i then HJ L p.2 else ka (vC L c E) i) aF h U↔_;rw[A];exact C
  |true =>
   have e:=gr A;subst e;cases D:rQ p.1 c with
   |false=>exact⟨λh=>by rw[mX,C,D]at h;exact absurd h.1 (by simp),λh=>absurd h.1 (by simp)⟩
   |true =>
    show(bif Nat.beq p.1 p.1 then HJ L p.2 else ka (vC L c E) p.1) aF h U↔_;rw[A];exact⟨λh=>⟨rfl,h⟩,λh=>h.2⟩
theorem Aq{c:kB}{R:iX}{U:Nat}:HK L c R aF h U↔vo c=true/\R (rP L aF 0) h U:=by
 unfold HK;cases vo c with
 |false=>exact⟨λh=>h.elim,λh=>by cases h.1⟩
 |true=>exact⟨λh=>⟨rfl,h⟩,λh=>h.2⟩
theorem P1:∀(c:kB) {i:Nat} {ak:ch} {h:ae} {U:Nat} {N M:iX} {E V:aa (Nat × iX)} {R Z:iX},h6 P s e0 c i ak h U N E R->(∀p h U,N p h U->M p h U)->(∀j p h U,ka E j p h U->ka V j p h U)->(∀p h U,R p h U->Z p h U)->h6 P s e0 c i ak h U M V Z:=by
 intro c
 induction c with
 |skip=>intro i ak h U N M E V R Z A C I D;exact C _ _ _ A
 |exit id=>intro i ak h U N M E V R Z A C I D;exact I _ _ _ _ A
 |ret=>intro i ak h U N M E V R Z A C I D;exact D _ _ _ A
 |scope c eS=>intro i ak h U N M E V R Z A C I D;exact eS A C I D
 |tQ l=>intro i ak h U N M E V R Z A C I D;exact Ky A C
 |DM l=>intro i ak h U N M E V R Z A C I D;exact Gp A C
 |no=>intro i ak h U N M E V R Z A C I D;exact A
 |xL f cf a b =>
  intro i ak h U N M E V R Z A C I D;refine hT A λv aI=>?_;unfold t8 at aI ⊢
  split at aI
  ·exact aE.mono aI λv h U ⟨st,p,l9,cf,a,b,h1,ao,aT⟩=>⟨st,p,l9,cf,a,b,h1,ao,aT.imp (λh=>⟨h.1,C _ _ _ h.2⟩) (λh=>⟨h.1,D _ _ _ h.2⟩)⟩
  ·exact aI
 |seq a b xp xq=>intro i ak h U N M E V R Z A C I D;exact xp A (λ_ _ _ h=>xq h C I D) I D
 |block id c eS =>
  intro i ak h U N M E V R Z A C I D;refine eS A C (λj p h U eT=>?_) D;have eT:(bif Nat.beq id j then N else ka E j) p h U:=eT;show(bif Nat.beq id j then M else ka V j) p h U;cases aW:Nat.beq id j <;> rw[aW]at eT
  ·exact I _ _ _ _ eT
  ·exact C _ _ _ eT
 |cond x a b xp xq =>
  intro i ak h U N M E V R Z A C I D;cases x with
  |v v=>exact Ap A (λh=>xp h C I D) (λh=>xq h C I D)
  |t n =>
   simp only[h6]at A ⊢
   split at A
   ·exact Ap A (λh=>xp h C I D) (λh=>xq h C I D)
   ·exact A
 |loop c eS =>
  intro i ak h U N M E V R Z A C I D;refine C5 A λaF ⟨eF,m,au,ey⟩=>⟨eF,m,au,λm aF h U b5=>eS (ey m aF h U b5) (λ_ _ _ h=>h) (λj p h U eT=>?_) (λp h U eT=>?_)⟩
  ·exact P0 (C5 (Kz eT) λaF h=>yj.2 ⟨(yj.1 h).1,I _ _ _ _ (yj.1 h).2⟩)
  ·exact C5 eT λaF h=>Aq.2 ⟨(Aq.1 h).1,D _ _ _ (Aq.1 h).2⟩
end
def IU(N:iX)(E:aa (Nat × iX))(R:iX):Me:=λx=>match x with
 | .normal=>N
 | .exit i=>ka E i
 | .ret=>R
def lC:Code->al
 | .seq a b=>lC a&&lC b
 | .cond _ a b=>lC a&&lC b
 | .block _ c=>lC c
 | .loop c=>lC c
 | .scope c=>lC c
 | .rangeFunc _ _ _ _=>false
 |_=>true
structure qe (P:Program):Prop where
 mixed:P.follows .mixedOrders=true
 names:∀(f:FuncId) (fn:Func),P.funcs[f]? = some fn->(fn.name == "runtime.NumGoroutine")=false
 fit:∀(f:FuncId) (fn:Func) (c:Code),P.funcs[f]? = some fn->fn.body=some c->k3 fn.ntmps c=true
def Gq(fn:Func):al:=!(fn.name == "runtime.NumGoroutine")&&(match fn.body with|some c=>k3 fn.ntmps c|none=>true)
theorem qe.of{P:Program}(C:P.follows .mixedOrders=true)(E:P.funcs.toList.all Gq=true):qe P:=by
 have A:∀(f:FuncId) (fn:Func),P.funcs[f]? = some fn->Gq fn=true:=ab
 refine⟨C,λf fn h=>?_,λf fn c h D=>?_⟩
 ·have:=A f fn h;simp only[Gq,eo,NR]at this
  grind
 ·have:=A f fn h;simp only[Gq,D,eo]at this
  grind
section
variable {P:Program} {B:Nat}
theorem cx.push{aj:ce}{H:fq}{w:World}(A:ed B aj H w)(U:Nat)(o:Obj):cx B aj H w U U aj H { w with heap:=w.heap.push o } where
 rel:=A.world (by simp) λb p D ar=>by
  obtain⟨x,C⟩:=nA.1 ar;have:=(A.obj b p x D C).Dh
  grind
 agree:=ab
 size:=by simp
 os:=rfl
 tape:=.here
 output:=rfl
 frame:=ab
 own:=ab
 le:=J
theorem ed.KA{aj:ce}{H:fq}{w:World}(M:ed B aj H w){p:Place}{A:aw Code}{C:ch}(E:aj b=some p)(I:H b=some (.loop st A C cf rY body)):
  ∃l:Loop,B<=p.ca/\w.heap[p.ca]? = some (.loop l)/\Tu l.state=st/\l.pending=A/\js aj C l.tmps/\l.params.toList=cf/\l.assign=rY/\l.body=body /\
   k3 l.tmps.size rY=true/\k3 l.tmps.size body=true/\(∀q∈cf,q<l.tmps.size):=by obtain⟨D,l,N⟩:=M.obj b p _ E I;exact⟨l,D,N⟩
theorem Oe{w:World}{k:Nat}{l:Loop}(h:w.heap[k]? = some (.loop l)):(Instr.getLoop k).run P w = .ok l w:=by have:=rx (P:=P) h ab;simp[Instr.getLoop,this]
theorem bF.anf{aj:ce}{a b:Array X}{c:X}(h:bF aj (.func (.func f) a b) c):∃A C:aa X,c = .func (.func f) ⟨A⟩ ⟨C⟩/\dt aj a.toList A/\dt aj b.toList C:=by
 cases h with
 |func _ D E=>exact⟨_,_,rfl,D,E⟩
theorem axv{f:Operand}{cf:Array Tmp}{ak:ch}{U:Nat}{x:ff}(bd:c6 f=some x)(aI:d9 ak x = .ok v)(ar:t8 P false v h U (.loop 0 none ak cf.toList rY body) K){L:Nat}{aj:ce}{w:World}(A:oV L B aj ak h U a w)(yO:k3 a.tmps.size (.rangeFunc f cf rY body)=true){N R:ae->Nat->Prop}(h8:K=yL U N R)(a6:vd L B aj h w U a.tmps.size (λx mE h U=>mE=ak/\(match x with | .normal=>N h U | .ret=>R h U | .exit _=>False)) Q):(Code.rangeFunc f cf rY body).wpIn (nv none) n P Q a w:=by
 have xi:=(A.iR.loc #[f]).ek (by simp) bd aI;unfold t8 at ar
 split at ar
 ·rename_i g x y
  obtain⟨fK,nV,pn,bd,ck⟩:=xi.anf;have ar:lg P g _ _ _ K:=ar;obtain⟨⟨fn0,rZ,nL,vH⟩,axw⟩:=ar;simp only[k3,eo,CC,wq]at yO;refine wpIn_rangeFunc λfn _=>?_;have SI:∃(C:World) (E:aa Deferred) (bR:Nat),cx B aj (u h) w U U aj (u h) C/\pV L B aj (u h) C (E++a.defers) /\
    (Instr.enterLoop fn a.tmps cf rY body none).run P w = .ok (C.heap.size,E) { C with heap:=C.heap.push (.loop { state:=.ready,pending:=none,fn,tmps:=a.tmps,params:=cf,assign:=rY,body,defers:=bR }) }:=by
   have kx:=cx.push A.rel U (.deferred (some []));refine⟨{ w with heap:=w.heap.push (.deferred (some [])) },[{ target:=.collected w.heap.size,args:=#[] }],w.heap.size,kx,⟨⟨w.heap.size,A.low,rfl,by simp,λfI=>?_,?_⟩,A.marks.h4 kx⟩,?_⟩
   ·have:=A.rel.Zi fI;omega
   ·intro IT TM b0;have:∀(bR:aa Deferred),pV L B aj (u h) w bR->IT∈bR->False:=by
     intro bR
     induction bR with
     |nil=>grind
     |cons d bR eS =>
      rintro⟨⟨r,_,h1,ao,_,_⟩,aT⟩ bh
      grind
    exact this _ A.marks TM
   ·simp[Instr.enterLoop,Ad];rfl
  obtain⟨C,E,bR,SJ,TN,tS⟩:=SI
  let p:Place:=⟨C.heap.size,0,0,0⟩
  let s0:ce:=λk=>if k=U then some p else aj k
  have Lg:s0 U=some p:=ab
  have p4:Sub aj s0:=λb q aW=>by
   by_cases e:b=U
   ·subst e;rw[A.eu.here]at aW;grind
   grind
  have SK:=Made.push C (.loop { state:=.ready,pending:=none,fn,tmps:=a.tmps,params:=cf,assign:=rY,body,defers:=bR });have oD:mx B s0 { C with heap:=C.heap.push (.loop { state:=.ready,pending:=none,fn,tmps:=a.tmps,params:=cf,assign:=rY,body,defers:=bR }) } p (.loop 0 none ak cf.toList rY body):=
   ⟨SJ.rel.base,_,SK.new,rfl,rfl,A.iR.mono p4,rfl,rfl,rfl,ab,yO.2,ab⟩
  have M:=cx.make SJ.rel A.eu.here SK.size SK.d3 rfl .here rfl  rfl oD;rw[<-u1]at M;have afC:=SJ.trans M;have SL:kg s0 (U+1):=A.eu.after afC;have TO:bF s0 (.func (.yield U) #[] #[]) (.func (.yield C.heap.size) #[] #[]):=.yield  Lg;have axx:dt s0 (x.toList++(Value.func (.yield U) #[] #[]::y.toList)) (fK++(Value.func (.yield C.heap.size) #[] #[]::nV)):=(bd.mono p4).append (.cons TO (ck.mono p4));have hci:=axw B s0 _ _ M.rel SL axx (n-1);generalize xj:({ C with heap:=C.heap.push (.loop { state:=.ready,pending:=none,fn,tmps:=a.tmps,params:=cf,assign:=rY,body,defers:=bR }) }:World)=zD at *
  refine⟨C.heap.size,E,zD,{ target:=.fn (.func g) ⟨nV⟩,args:=⟨fK⟩++#[Value.func (.yield C.heap.size) #[] #[]] },zD,g,⟨fK++(Value.func (.yield C.heap.size) #[] #[]::nV)⟩,zD,tS,?_,λ_ _=>trivial,?_,λh=>by simp[nv,Fence.wide]at h,?_⟩
  ·have auN:a.eval (.const (.func (.yield C.heap.size) #[] #[])) = .func (.yield C.heap.size) #[] #[]:=rfl;simp[resolve,rangeCall,pn,Deferred.ofValue,auN]
  ·have aW:fn0.body≠none:=ab
   have Bu:fn0.name ≠ "runtime.NumGoroutine" := by grind
   simp[invoke,callFunc,rZ,Bu,aW]
  ·rw[Y2];refine hci.mono λe V b0=>?_;obtain⟨nW,ac,Y,bu,c,rfl,hk,TP,hm⟩:=b0;have oy:=SL.after hm;have HU:bu U=some p:=(SL.sub hm) _ _ Lg;subst h8;obtain⟨st,rN,Bi,Bv,ea,b6,aY,LK,hk⟩:=hk;obtain⟨Z,ey,Bw,jc,hpd,za,LL,SM,SN,azG,azH,azI⟩:=hm.rel.KA HU aY;subst hpd;have s1:=Oe (P:=P) Bw;have xl:Z.state≠.busy:=by intro h;rw[h]at jc;subst jc;exact LK rfl
   have SO:=uW (P:=P)  (o:=.loop { Z with state:=.exhausted }) Bw ab;have SP:(Instr.endLoop C.heap.size).run P V = .ok Z.pending { V with heap:=V.heap.setIfInBounds C.heap.size (.loop { Z with state:=.exhausted }) }:=by have s1:(Instr.getLoop C.heap.size).run P V = .ok Z V:=s1;have SO:(setObj C.heap.size (.loop { Z with state:=.exhausted })).run P V = .ok () _:=SO;simp[Instr.endLoop,s1,xl,SO];rfl
   have LM:cx B bu (u ac) V Y Y bu (u (T ac U (.loop 3 Z.pending Bi Bv ea b6))) { V with heap:=V.heap.setIfInBounds C.heap.size (.loop { Z with state:=.exhausted }) }:=
    cx.set hm.rel Y HU aY ey ab λa8 oF=>⟨ey,_,oF,rfl,rfl,za,LL,SM,SN,azG,azH,azI⟩
   have D:=(afC.trans hm).trans LM;have I:oV L B bu ak (T ac U (.loop 3 Z.pending Bi Bv ea b6)) Y { a with defers:=E++a.defers } { V with heap:=V.heap.setIfInBounds C.heap.size (.loop { Z with state:=.exhausted }) }:=
    ⟨D.rel,oy,A.iR.mono (A.eu.sub D),((TN.h4 M).h4 hm).h4 LM,iv A.low D.size⟩
   refine⟨_,_,SP,?_⟩;generalize (T ac U (.loop 3 Z.pending Bi Bv ea b6))=H at hk D I;generalize ({ V with heap:=V.heap.setIfInBounds C.heap.size (.loop { Z with state:=.exhausted }) }:World)=nX at D I ⊢;rcases hk with⟨b5,hk⟩|⟨b5,hk⟩ <;> rw[b5]
   ·exact a6 .normal _ _ _ _ _ _ ⟨rfl,hk⟩ D I rfl
   ·exact wpIn_ret (a6 .ret _ _ _ _ _ _ ⟨rfl,hk⟩ D I rfl)
 ·exact ar.elim
theorem oV.ak{L:Nat}{aj:ce}{ak A:ch}{U:Nat}{w:World}(s:oV L B aj ak h U a w)(C:js aj A a.tmps):oV L B aj A h U a w:=⟨s.rel,s.eu,C,s.marks,s.low⟩
theorem R3(hN:qe P):∀(c:Code) {i:Nat} {ak:ch} {h:ae} {U:Nat} {N:iX} {E:aa (Nat × iX)} {R:iX},h6 P false e0 (comp P c) i ak h U N E R ->
  ∀{L:Nat} {aj:ce} {a:Act} {w:World} {n:Nat} {r:aw Nat} {Q:Exit->Act->World->Prop},oV L B aj ak h U a w->k3 a.tmps.size c=true->(r=none\/lC c=true)->vd L B aj h w U a.tmps.size (IU N E R) Q->c.wpIn (nv r) n P Q a w:=by
 intro c
 induction c with
 |skip=>intro i ak h U N E R ar L aj a w n r Q A C Z M;exact wpIn_skip (M .normal _ _ _ _ _ _ ar (cx.refl U A.rel) A rfl)
 |label l=>intro i ak h U N E R ar L aj a w n r Q A C Z M;exact wpIn_label (M .normal _ _ _ _ _ _ ar (cx.refl U A.rel) A rfl)
 |exit id=>intro i ak h U N E R ar L aj a w n r Q A C Z M;exact wpIn_exit (M (.exit id) _ _ _ _ _ _ ar (cx.refl U A.rel) A rfl)
 |ret=>intro i ak h U N E R ar L aj a w n r Q A C Z M;exact wpIn_ret (M .ret _ _ _ _ _ _ ar (cx.refl U A.rel) A rfl)
 |scope c eS =>
  intro i ak h U N E R ar L aj a w n r Q A C Z M;refine ajx (eS ar A C Z ?_);intro x mE ac Y bu ea a8 V hm D I;have:=M x mE ac Y bu ea a8 V hm D I;cases x <;> exact this
 |region id a4 DQ =>
  intro i ak h U N E R ar L aj a w n r Q A C Z M;have ar:h6 P false e0 (Sz P a4.toList DQ) i ak h U N E R:=ar;unfold Sz at ar;cases DQ with
  |false =>
   simp only[mX]at ar
   split at ar
   ·rename_i l bo
    refine wpIn_region ?_;have:=adp (r:=r) (n:=n) (Q:=Q) a4.toList l 0 rfl bo ar A C (M.mono λx ak h U V=>by obtain⟨rfl,V⟩:=V;exact V);rw[List.range_eq_range'];simpa using this
   ·exact ar.elim
  |true =>
   simp only[qF]at ar
   split at ar
   ·rename_i l bo
    obtain⟨bJ,h1,ao⟩:=jI.1 bo;refine wpIn_region_any hN.mixed ?_;refine aqY h1 ao ar ⟨A.rel.drawn _,A.eu,A.iR,pV.h4 (w:=w) (ap:=U) (ag:=U) ⟨A.rel.drawn (w.drawn+1),ab,ab,rfl,⟨rfl,by simp⟩,rfl,ab,ab,J⟩ A.marks,A.low⟩ C ?_;rintro x mE ac Y bu ea a8 ⟨rfl,V⟩ hm D I;exact M .normal mE ac Y bu ea a8 V (cx.from (by simp) hm) D I
   ·exact ar.elim
 |seq x y ihx ihy =>
  intro i ak h U N E R ar L aj a w n r Q A C Z M;simp only[k3,eo]at C;have xr:r=none\/lC x=true:=Z.imp id λh=>by simp only[lC,eo]at h;exact h.1
  have oI:r=none\/lC y=true:=Z.imp id λh=>by simp only[lC,eo]at h;exact h.2
  refine wpIn_seq (ihx ar A C.1 xr ?_);intro fK mE ac Y bu ea a8 V hm D I;cases fK with
  |normal=>exact ihy V D (by rw[I];exact C.2) oI (by rw[I];exact M.after hm)
  |exit j=>exact M (.exit j) _ _ _ _ _ _ V hm D I
  |ret=>exact M .ret _ _ _ _ _ _ V hm D I
 |cond x c1 c2 ih1 TQ =>
  intro i ak h U N E R ar L aj a w n r Q A C Z M;simp only[k3,eo]at C;have xr:r=none\/lC c1=true:=Z.imp id λh=>by simp only[lC,eo]at h;exact h.1
  have oI:r=none\/lC c2=true:=Z.imp id λh=>by simp only[lC,eo]at h;exact h.2
  simp only[comp]at ar
  split at ar
  ·rename_i y ck
   have Mk:∀b,d9 ak y = .ok (.bool b)->a.eval x = .bool b:=λb aW=>((A.iR.loc #[x]).ek (by simp) ck aW).F1;cases y with
   |v v =>
    rcases tJ ar with⟨rfl,ar⟩|⟨rfl,ar⟩
    ·exact wpIn_cond (Mk true rfl) (ih1 ar A C.1 xr M)
    ·exact wpIn_cond (Mk false rfl) (TQ ar A C.2 oI M)
   |t m =>
    simp only[h6]at ar
    split at ar
    ·rename_i v aI
     have hpv:d9 ak (.t m) = .ok v:=by simp[d9,aI]
     rcases tJ ar with⟨rfl,ar⟩|⟨rfl,ar⟩
     ·exact wpIn_cond (Mk true hpv) (ih1 ar (A.ak (A.iR.same (tT.lit aI))) C.1 xr M)
     ·exact wpIn_cond (Mk false hpv) (TQ ar (A.ak (A.iR.same (tT.lit aI))) C.2 oI M)
    ·exact ar.elim
  ·exact ar.elim
 |block id c eS =>
  intro i ak h U N E R ar L aj a w n r Q A C Z M;refine wpIn_block (eS ar A C Z ?_);intro x mE ac Y bu ea a8 V hm D I;cases x with
  |normal=>exact M .normal _ _ _ _ _ _ V hm D I
  |ret=>exact M .ret _ _ _ _ _ _ V hm D I
  |exit j =>
   have V:(bif Nat.beq id j then N else ka E j) mE ac Y:=V;show if j=id then Q .normal ea a8 else Q (.exit j) ea a8
   by_cases e:j=id
   ·rw[if_pos e];rw[show Nat.beq id j=true by rw[e];exact uP id]at V;exact M .normal _ _ _ _ _ _ V hm D I
   ·rw[if_neg e];rw[show Nat.beq id j=false by
     cases aW:Nat.beq id j with
     |true=>exact absurd (gr aW).symm e
     |false=>rfl]at V
    exact M (.exit j) _ _ _ _ _ _ V hm D I
 |loop c eS =>
  intro i ak h U N E R ar L aj a w n r Q A C Z M;obtain⟨aF,⟨eF,m,vX,ey⟩,eI⟩:=A.iR.sl ar;refine ajy (λm ea a8=>∃aF ac Y bu,eF m aF ac Y/\cx B aj (u h) w U Y bu (u ac) a8/\oV L B bu (rP (kt e0 i) aF 0) ac Y ea a8/\ea.tmps.size=a.tmps.size) ?_ (m:=m) ⟨aF,h,U,aj,vX,cx.refl U A.rel,A.ak eI,rfl⟩;rintro m aD cT ⟨vs1,h1,nj,s0,TR,azJ,azK,SQ⟩;refine eS (ey m vs1 h1 nj TR) azK (by rw[SQ];exact C) Z ?_;intro x mE ac Y bu ea a8 V hm D I;have Ek:=azJ.trans hm;have SR:=I.trans SQ;cases x with
  |normal =>
   obtain⟨Bx,⟨bD,cb,hJ2⟩,ue⟩:=D.iR.sl V;exact⟨bD,cb,Bx,ac,Y,bu,hJ2,Ek,D.ak ue,SR⟩
  |exit j =>
   obtain⟨Bx,dD,ue⟩:=D.iR.sl (Kz V);exact M (.exit j) _ _ _ _ _ _ (yj.1 dD).2 Ek (D.ak ue) SR
  |ret =>
   obtain⟨Bx,dD,ue⟩:=D.iR.sl V;exact M .ret _ _ _ _ _ _ (Aq.1 dD).2 Ek (D.ak ue) SR
 |rangeFunc f cf rY body =>
  intro i ak h U N E R ar L aj a w n r Q A C Z M;rcases Z with rfl|Z
  ·simp only[comp]at ar
   split at ar
   ·rename_i x bd
    obtain⟨v,aI,ar⟩:=f9 ar;refine axv bd aI ar A C rfl (M.mono λx mE h U V=>?_);obtain⟨rfl,V⟩:=V;cases x <;> first|exact V|exact V.elim
   ·exact ar.elim
  ·cases Z
 |_=>intro i ak h U N E R ar;exact ar.elim
end
section
variable {P:Program}
def vY(pe0:ch)(au:ae)(a0:Nat):ch->ae->Nat->Prop:=λak h U=>ak=pe0/\h=au/\U=a0
theorem auO{i:nu}{ak:ch}{U:Nat}{k:ch->ae->Nat->Prop}(A:nU P true d i ak h U k):∃D M Y,k D M Y/\nU P false d i ak h U (vY D M Y):=by
 cases i with
 |fx e =>
  cases e
  case pick =>
   obtain⟨c,C,A⟩:=f9 A;obtain⟨a,I,A⟩:=f9 A;obtain⟨b,E,A⟩:=f9 A;rcases tJ A with⟨rfl,A⟩|⟨rfl,A⟩
   ·exact⟨_,_,_,A,by simp only[nU,C,I,E];exact⟨rfl,rfl,rfl⟩⟩
   ·exact⟨_,_,_,A,by simp only[nU,C,I,E];exact⟨rfl,rfl,rfl⟩⟩
  all_goals
   obtain⟨v,C,A⟩:=f9 A;exact⟨_,_,_,A,by simp only[nU,Nj,id,C];exact⟨rfl,rfl,rfl⟩⟩
 |iA e=>obtain⟨v,C,A⟩:=f9 A;exact⟨_,_,_,A,by simp only[nU,dY,C];exact⟨rfl,rfl,rfl⟩⟩
 |red e=>obtain⟨v,C,A⟩:=f9 A;exact⟨_,_,_,A,by simp only[nU,C];exact⟨rfl,rfl,rfl⟩⟩
 |fy e =>
  rw[KY]at A;obtain⟨v,M,Y,V,N,_⟩:=Rb A;exact⟨_,_,_,V,by rw[KY];exact Kw N λ_ _ _ ⟨C,I,E⟩=>⟨by rw[C],I,E⟩⟩
theorem ads{ak:ch}{ei gb:ch->ch->ae->Nat->Prop}{K:ch->ae->Nat->Prop}(h:kD g ak (λak=>∃p h n,K p h n/\ei ak p h n) (λak=>∃p h n,K p h n/\gb ak p h n)):∃p h n,K p h n/\kD g ak (λak=>ei ak p h n) (λak=>gb ak p h n):=by
 cases g with
 |none=>exact h
 |some g =>
  obtain⟨t,w⟩:=g;simp only[kD]at h ⊢
  split at h
  ·rcases tJ h with⟨rfl,h⟩|⟨rfl,h⟩ <;> cases w <;> exact h
  ·exact h
  ·exact h.elim
theorem Re:∀{l:aa ma} {ak:ch} {h:ae} {U:Nat} {k:ch->ae->Nat->Prop},qs P true l ak h U k->∃C A Y,k C A Y/\qs P false l ak h U (vY C A Y)
 | [],_,_,_,_,D=>⟨_,_,_,D,rfl,rfl,rfl⟩
 |i::l,ak,h,U,k,D=>by rw[Kx]at D;simp only[Kx];refine ads (ei:=λak p A n=>nU P false i.d i.k ak h U λak h U=>qs P false l ak h U (vY p A n)) (gb:=λak p A n=>qs P false l (ez ak i.d none) h U (vY p A n)) (C4 D (λ_ h=>?_) (λ_ h=>Re (l:=l) h));obtain⟨p,h1,a5,hk,bh⟩:=auO h;obtain⟨V,ao,bQ,E,I⟩:=Re (l:=l) hk;exact⟨V,ao,bQ,E,PZ bh λ_ _ _ ⟨N,Z,M⟩=>by rw[N,Z,M];exact I⟩
theorem AC:∀{l:aa ma} {ak:ch} {h:ae} {U:Nat} {b:ae} {ar:aa ae} {k:ch->ae->Nat->Prop},ij P l ak h U b ar k->∃Z A Y,k Z A Y/\ij P l ak h U b ar (vY Z A Y)
 | [],_,_,_,_,_,_,E=>⟨_,_,_,E,rfl,rfl,rfl⟩
 |i::l,ak,h,U,b,ar,k,E=>by
  rw[PY]at E;simp only[PY];refine ads (ei:=λak p A n=>nf P i.d i.c i.k ak h U b ar λak h U b ar=>ij P l ak h U b ar (vY p A n)) (gb:=λak p A n=>if jn i.k=true then ij P l (ez ak i.d none) h U h (b::ar) (vY p A n)else ij P l (ez ak i.d none) h U b ar (vY p A n)) (C4 E (λak C=>?_) (λak C=>?_))
  ·cases hk:i.k with
   |fx e =>
    rw[hk]at C;have fin:∀v,p2 P ak e = .ok v->ij P l (ez ak i.d (some v)) h U b ar k->∃p A n,k p A n/\nf P i.d i.c (.fx e) ak h U b ar λak h U b ar=>ij P l ak h U b ar (vY p A n):=λv M D=>by
     obtain⟨p,A,n,V,I⟩:=AC (l:=l) D;refine⟨p,A,n,V,?_⟩;cases e
     case pick c x y =>
      simp only[p2]at M;obtain⟨c,bP,M⟩:=R.fh M;obtain⟨a,g2,M⟩:=R.fh M;obtain⟨b,dp,M⟩:=R.fh M;simp only[nf,bP,g2,dp];cases c with
      |bool t=>cases t <;> cases M <;> exact I
      |_=>cases M
     all_goals (simp only[nf,Nj,id];first|(rw[M];exact I)|(simp only[p2]at M;rw[M];exact I))
    have C:∃v,p2 P ak e = .ok v/\ij P l (ez ak i.d (some v)) h U b ar k:=by
     cases e
     case pick =>
      obtain⟨c,V,E⟩:=f9 C;obtain⟨a,I,E⟩:=f9 E;obtain⟨b,N,E⟩:=f9 E;rcases tJ E with⟨rfl,E⟩|⟨rfl,E⟩
      ·exact⟨a,by simp[p2,V,I,N,R.bind,G5],E⟩
      ·exact⟨b,by simp[p2,V,I,N,R.bind,G5],E⟩
     all_goals exact f9 C
    obtain⟨v,M,D⟩:=C;exact fin v M D
   |iA e =>
    rw[hk]at C;obtain⟨v,V,D⟩:=f9 C;obtain⟨p,A,n,I,N⟩:=AC (l:=l) D;exact⟨p,A,n,I,by simp only[nf,dY,V];exact N⟩
   |red e =>
    rw[hk]at C;obtain⟨v,V,D⟩:=f9 C;have key:∃p A n,k p A n/\(ij P l (ez ak i.d (some v)) h U b ar k->ij P l (ez ak i.d (some v)) h U b ar (vY p A n)):=by
     have D:ij P l (ez ak i.d (some v)) h U b ar k:=by
      cases a1:i.c <;> rw[a1]at D
      ·exact D
      ·exact(Q9 D).2
     obtain⟨p,A,n,I,N⟩:=AC (l:=l) D;exact⟨p,A,n,I,λ_=>N⟩
    obtain⟨p,A,n,I,N⟩:=key;refine⟨p,A,n,I,?_⟩;simp only[nf,V];have bI:∀{f:ae->R X} {p q:Prop} (_:p->q) {n:Nat} {ar:aa ae},pi f v p n ar->pi f v q n ar:=λ{f p q} HR {n}=>by
     induction n with
     |zero=>intro ar h;exact HR h
     |succ n eS=>intro ar h;cases ar with
      |nil=>exact h
      |cons x xs=>exact⟨h.1,eS h.2⟩
    cases a1:i.c <;> rw[a1]at D
    ·exact N D
    ·exact bI N D
   |fy e =>
    rw[hk]at C;rw[Gn]at C;obtain⟨v,V,a5,⟨dv,D⟩,_,b0⟩:=Rb C;obtain⟨p,A,n,I,N⟩:=AC (l:=l) D;exact⟨p,A,n,I,by rw[Gn];exact b0 _ ⟨dv,N⟩⟩
  ·split at C <;> rename_i e
   ·simp only[if_pos e];exact AC (l:=l) C
   ·simp only[if_neg e];exact AC (l:=l) C
theorem Rf:∀(c:kB) {i:Nat} {ak:ch} {h:ae} {U:Nat} {N:iX} {E:aa (Nat × iX)} {R:iX},h6 P true e0 c i ak h U N E R ->
  ∃x p ac n,IU N E R x p ac n/\∀C I D,IU C I D x p ac n->h6 P false e0 c i ak h U C I D:=by
 intro c
 induction c with
 |skip=>intro i ak h U N E R A;exact⟨.normal,_,_,_,A,λ_ _ _ h=>h⟩
 |exit id=>intro i ak h U N E R A;exact⟨.exit id,_,_,_,A,λ_ _ _ h=>h⟩
 |ret=>intro i ak h U N E R A;exact⟨.ret,_,_,_,A,λ_ _ _ h=>h⟩
 |scope c eS=>intro i ak h U N E R A;exact eS A
 |tQ l=>intro i ak h U N E R A;obtain⟨p,V,n,ao,aT⟩:=Re A;exact⟨.normal,p,V,n,ao,λ_ _ _ M=>Ky aT λ_ _ _ ⟨aU,aK,cc⟩=>by rw[aU,aK,cc];exact M⟩
 |DM l=>intro i ak h U N E R A;obtain⟨p,V,n,ao,aT⟩:=AC A;exact⟨.normal,p,V,n,ao,λ_ _ _ M=>Gp aT λ_ _ _ ⟨aU,aK,cc⟩=>by rw[aU,aK,cc];exact M⟩
 |no=>intro i ak h U N E R A;exact A.elim
 |xL f cf a b =>
  intro i ak h U N E R A;obtain⟨v,aI,A⟩:=f9 A;unfold t8 at A
  split at A
  ·obtain⟨v1,V,a5,⟨st,p,l9,Bv,ea,b6,bP,g2,dp⟩,a1⟩:=A;have up:∀(C D:iX) ,((p=none/\C ak (T V U (.loop 3 p l9 Bv ea b6)) a5)\/(p=some .ret/\D ak (T V U (.loop 3 p l9 Bv ea b6)) a5))->∀I,h6 P false e0 (.xL f cf a b) i ak h U C I D:=λC D M I=>by simp only[h6,aI];refine lg.mono a1 ?_;rintro _ _ _ ⟨rfl,rfl,rfl⟩;exact⟨st,p,l9,Bv,ea,b6,bP,g2,M⟩
   rcases dp with⟨e,dp⟩|⟨e,dp⟩
   ·exact⟨.normal,_,_,_,dp,λC I D M=>up C D (.inl ⟨e,M⟩) I⟩
   ·exact⟨.ret,_,_,_,dp,λC I D M=>up C D (.inr ⟨e,M⟩) I⟩
  ·exact A.elim
 |seq a b xp xq =>
  intro i ak h U N E R A;obtain⟨x,p,V,a5,M,bh⟩:=xp A;cases x with
  |normal =>
   obtain⟨x,kY,ao,bQ,dD,hd2⟩:=xq M;exact⟨x,kY,ao,bQ,dD,λC I D Z=>bh _ I D (hd2 C I D Z)⟩
  |exit j=>exact⟨.exit j,p,V,a5,M,λC I D Z=>bh _ I D Z⟩
  |ret=>exact⟨.ret,p,V,a5,M,λC I D Z=>bh _ I D Z⟩
 |block id c eS =>
  intro i ak h U N E R A;obtain⟨x,p,V,a5,M,bh⟩:=eS A;cases x with
  |normal=>exact⟨.normal,p,V,a5,M,λC I D Z=>bh C _ D Z⟩
  |ret=>exact⟨.ret,p,V,a5,M,λC I D Z=>bh C _ D Z⟩
  |exit j =>
   have M:(bif Nat.beq id j then N else ka E j) p V a5:=M;cases aW:Nat.beq id j <;> rw[aW]at M
   ·exact⟨.exit j,p,V,a5,M,λC I D Z=>bh C ((id,C)::I) D (by show(bif Nat.beq id j then C else ka I j) p V a5;rw[aW];exact Z)⟩
   ·exact⟨.normal,p,V,a5,M,λC I D Z=>bh C ((id,C)::I) D (by show(bif Nat.beq id j then C else ka I j) p V a5;rw[aW];exact Z)⟩
 |cond y a b xp xq =>
  intro i ak h U N E R A;cases y with
  |v v =>
   rcases tJ A with⟨rfl,A⟩|⟨rfl,A⟩
   ·exact xp A
   ·exact xq A
  |t m =>
   simp only[h6]at A ⊢
   split at A
   ·rename_i v aI
    rcases tJ A with⟨rfl,A⟩|⟨rfl,A⟩
    ·obtain⟨x,p,V,a5,M,bh⟩:=xp A;exact⟨x,p,V,a5,M,λC I D Z=>bh C I D Z⟩
    ·obtain⟨x,p,V,a5,M,bh⟩:=xq A;exact⟨x,p,V,a5,M,λC I D Z=>bh C I D Z⟩
   ·exact A.elim
 |loop c eS =>
  intro i ak h U N E R A;obtain⟨aF,⟨eF,m,vX,ey⟩,fJ,_⟩:=wU A;have key:∀m aF h U,eF m aF h U->∃x p ac n,x≠.normal/\IU N E R x p ac n/\∀C I D,IU C I D x p ac n->bE (λaF h U N E R=>h6 P false e0 c (i+1) (rP (kt e0 i) aF 0) h U (tR (kt e0 i) N) (w4 (kt e0 i) E) (tR (kt e0 i) R)) aF h U (vC (kt e0 i) c I) (HK (kt e0 i) c D):=by
   intro m
   induction m using Nat.strongRecOn with
   |_ m ihm =>
    intro aF h U b5;obtain⟨x,p,V,a5,M,bh⟩:=eS (ey m aF h U b5);cases x with
    |normal =>
     obtain⟨Bx,⟨bD,cb,hj2⟩,zd,_⟩:=wU M;obtain⟨x,lM,aT,bT,bd,eY,hd3⟩:=ihm bD cb Bx V a5 hj2;refine⟨x,lM,aT,bT,bd,eY,λC I D Z=>?_⟩;obtain⟨aDG,m1,TR,vI⟩:=hd3 C I D Z;refine⟨λk v g n=>(k=m1+1/\v=aF/\g=h/\n=U)\/(k<=m1/\aDG k v g n),m1+1,.inl ⟨rfl,rfl,rfl,rfl⟩,?_⟩;rintro k v g n (⟨rfl,rfl,rfl,rfl⟩|⟨dv,b5⟩)
     ·exact bh _ _ _ (zd _ ⟨m1,J,.inr ⟨J,TR⟩⟩)
     ·exact P1 c (vI k v g n b5) (λ_ _ _ h=>C5 h λ_ ⟨bD,V,ao⟩=>⟨bD,V,.inr ⟨J,ao⟩⟩) (λ_ _ _ _ h=>h) (λ_ _ _ h=>h)
    |exit j =>
     obtain⟨Bx,dD,zd,_⟩:=wU (Kz M);refine⟨.exit j,_,_,_,by simp,(yj.1 dD).2,λC I D Z=>⟨λk v g n=>v=aF/\g=h/\n=U,0,⟨rfl,rfl,rfl⟩,?_⟩⟩;rintro k v g n ⟨rfl,rfl,rfl⟩;exact bh _ _ _ (P0 (zd _ (yj.2 ⟨(yj.1 dD).1,Z⟩)))
    |ret =>
     obtain⟨Bx,dD,zd,_⟩:=wU M;refine⟨.ret,_,_,_,by simp,(Aq.1 dD).2,λC I D Z=>⟨λk v g n=>v=aF/\g=h/\n=U,0,⟨rfl,rfl,rfl⟩,?_⟩⟩;rintro k v g n ⟨rfl,rfl,rfl⟩;exact bh _ _ _ (zd _ (Aq.2 ⟨(Aq.1 dD).1,Z⟩))
  obtain⟨x,p,V,a5,bd,M,bh⟩:=key m aF h U vX;exact⟨x,p,V,a5,M,λC I D Z=>fJ _ (bh C I D Z)⟩
end
section
variable {P:Program} {B:Nat} {aj:ce}
def Hu(tmps:Array X):ResultVar->Sem X
 | .tmp t=>pure (tmps.getD t undef)
 | .cell a t=>do loadVar t (<-asAddr (tmps.getD a undef))
theorem js.ek{ak:ch}{tmps:Array X}(A:js aj ak tmps){t:Nat}{v:X}(h:d9 ak (.t t) = .ok v):bF aj v (tmps.getD t undef):=
 (A.loc #[.tmp t]).ek (a:={ tmps:=tmps,defers:=[] }) (x:=.tmp t) (by simp) rfl h
theorem KB{ak:ch}{h:ae}:∀{D:aa ResultVar} {k:aa X->Prop},yM P ak h D k->∃l,k l/\(∀dm,dm l->yM P ak h D dm) /\
  ∀{B:Nat} {aj:ce} {w:World} {tmps:Array X},js aj ak tmps->ed B aj (u h) w->∃C,dt aj l C/\(D.mapM (Hu tmps)).run P w = .ok C w
 | [],k,A=>⟨[],A,λ_ h=>h,λ_ _=>⟨[],.nil,rfl⟩⟩
 | .tmp t::D,k,A=>by obtain⟨v,I,A⟩:=f9 A;obtain⟨l,V,ao,N⟩:=KB A;refine⟨v::l,V,λdm Z=>by simp only[yM,I];exact ao _ Z,λE M=>?_⟩;obtain⟨C,eD,mc⟩:=N E M;exact⟨_::C,.cons (E.ek I) eD,by simp only[CE,Hu,Sem.run_bind,mc,Result.andThen_ok,Sem.run_pure]⟩
 | .cell a t::D,k,A=>by obtain⟨v,I,A⟩:=f9 A;obtain⟨aO,d5,A⟩:=f9 A;obtain⟨bI,xh,y4⟩:=R.k9 d5;obtain⟨l,V,ao,N⟩:=KB A;refine⟨aO::l,V,λdm Z=>by simp only[yM,I];exact(show af (R.of "type" (oq P t) λbI=>iz bI h v) _ by rw[d5];exact ao _ Z),λ{B aj w tmps} E M=>?_⟩;obtain⟨C,eD,mc⟩:=N E M;obtain⟨ea,e,c,a9,bY⟩:=PU M xh y4 (E.ek I);exact⟨c::C,.cons bY eD,by simp only[CE,Hu,e,asAddr,Sem.run_bind,Sem.run_pure,Result.andThen_ok,a9,mc]⟩
theorem ai1{ak:ch}{U:Nat}{w:World}(eI:js aj ak tmps)(N:ed B aj (u h) w)(ar:sQ P fn.results.toList K ak h U):
  ∃v c,K v h U/\bF aj v c/\(results fn tmps).run P w = .ok c w:=by
 obtain⟨l,E,_,I⟩:=KB ar;obtain⟨V,M,ao⟩:=I eI N;have hm:(fn.results.mapM (Hu tmps)).run P w = .ok ⟨V⟩ w:=by rw[Array.mapM_eq_mapM_toList];simp[ao]
 have C:results fn tmps=(do
   let aF <-fn.results.mapM (Hu tmps)
   pure (if h:aF.size=1 then aF[0]else .tuple aF)):=by congr 1
 rw[C];simp only[Sem.run_bind,hm,Result.andThen_ok,Sem.run_pure];cases M with
 |nil=>exact⟨_,_,E,.tuple .nil,rfl⟩
 |cons A D =>
  cases D with
  |nil=>exact⟨_,_,E,A,rfl⟩
  |cons Z D=>exact⟨_,_,E,.tuple (.cons A (.cons Z D)),by simp⟩
theorem cx.beside{H hK:fq}{w:World}{bu:ce}(V:B<=gk.heap.size)(A:cx B aj H gk ap ag bu hK w){r:Nat}(N:gk.heap.size<=r)(C:¬w3 B bu hK r)(o:Obj):
  cx B aj H gk ap ag bu hK { w with heap:=w.heap.setIfInBounds r o } where
 rel:=A.rel.world (by simp) λb p D ar=>by
  have I:r≠p.ca:=λe=>C ⟨b,p,D,ar,e.symm,J⟩
  grind
 agree:=A.agree
 size:=by simpa using A.size
 os:=A.os
 tape:=A.tape
 output:=A.output
 frame:=λk M E=>by simp only[zS];rw[if_neg J];exact A.frame k M E
 own:=A.own
 le:=A.le
theorem pV.beside{L:Nat}{H:fq}{w:World}{r:Nat}(o:Obj):∀{A:aa Deferred},(∀I∈A,I.target≠.collected r)->pV L B aj H w A->pV L B aj H { w with heap:=w.heap.setIfInBounds r o } A
 | [],_,_=>trivial
 |d::A,V,⟨⟨q,E,D,Z,C,N⟩,M⟩=>by
  refine⟨⟨q,E,D,?_,C,N⟩,pV.beside o ab M⟩
  grind
theorem aim{w:World}{A:aa Deferred}(h:w.heap[b]? = some (.deferred (some A))):
  (Instr.takeDeferred b).run P w = .ok A { w with heap:=w.heap.setIfInBounds b (.deferred none) }:=by have D:=rx (P:=P) h ab;have C:=uW (P:=P) (o:=.deferred none) h ab;simp[Instr.takeDeferred,D,C]
theorem OE{fn:Func}{tmps:Array X}{n:Nat}{V I:ae}{gk:World}{C Y:Nat}{bu:ce}{ak:ch}{K:bN}(Z:B<=gk.heap.size)(eI:js bu ak tmps)(ar:sQ P fn.results.toList K ak I Y):
  ∀(D:aa Deferred) (w:World),pV gk.heap.size B bu (u I) w D->cx B aj (u V) gk C Y bu (u I) w ->
   LeavesInM Fence.wide n P fn tmps (Fin B aj V gk C K) D .returning w
 | [],w,_,E=>by obtain⟨v,c,hk,aI,A⟩:=ai1  eI E.rel ar;exact⟨c,A,v,I,Y,bu,c,rfl,hk,aI,E⟩
 |d::D,w,⟨⟨r,fJ,cq,bO,N,bh⟩,M⟩,E=>by refine⟨by simp,.inl ⟨r,{ w with heap:=w.heap.setIfInBounds r (.deferred none) },cq,aim bO,?_⟩⟩;exact OE Z eI ar D _ (pV.beside _ bh M) (cx.beside Z E fJ N _)
theorem Xh{d:Nat}{v:aw X}:∀{args:aa X} {i:Nat},ho (ys args i) d=some v->∃j A,args[j]? = some A/\d=i+j/\v=some A
 | [],i,h=>by cases h
 |x::args,i,h=>by
  have h:ho ((i,some x)::ys args (i+1)) d=some v:=h;rw[FO]at h
  by_cases e:i=d
  ·rw[if_pos e]at h;cases h;exact⟨0,x,rfl,J,rfl⟩
  ·rw[if_neg e]at h;obtain⟨j,A,D,E,C⟩:=Xh h;exact⟨j+1,A,D,J,C⟩
theorem akL{A:aa X}(h:dt aj args A)(k:Nat):js aj (ys args 0) ((⟨A⟩:Array X)++Array.replicate k undef):=by
 intro d v E;obtain⟨j,D,C,rfl,rfl⟩:=Xh E;obtain⟨c,M,I⟩:=h.get C;have C:((⟨A⟩:Array X)++Array.replicate k undef).getD (0+j) undef=c:=by
  simp only[qC]
  grind
 rw[C];exact I
theorem ai2(C:n<=m)(a4:aa Oper)(h:wM n a4=true):wM m a4=true:=by
 simp only[wM,CC]at *
 intro o D;have:=h o D;cases A:o.dst with
 |none=>rfl
 |some d =>
  rw[A]at this;simp only[wq]at *
  omega
theorem aiO(D:n<=m):∀(c:Code),k3 n c=true->k3 m c=true:=by
 intro c
 induction c <;> intro h <;> simp only[k3,eo]at * <;> try trivial
 all_goals first
  |exact ai2 D _ h
  |(rename_i C A;exact ab)
  |(rename_i E;exact E h)
  |skip
 rename_i cf a b C A
 refine⟨⟨?_,ab⟩,A h.2⟩;simp only[CC,wq]at *
 grind
theorem lg.pr(V:qe P){U:Nat}(M:oT P false e0 f args h U K):lg P f args h U K:=by
 unfold oT at M
 split at M
 ·rename_i oU D
  unfold yr at D
  split at D
  ·rename_i fn A
   split at D
   ·rename_i c aW
    cases D;have A:P.funcs[f]? = some fn:=by rw[i4]at A;simpa using A
    refine⟨⟨fn,A,ab,V.names f fn A⟩,λB aj w E Z bK I n=>?_⟩;refine callsIn_of_wp_marks A aW trivial ?_;have N:fn.ntmps<=((⟨E⟩:Array X)++Array.replicate (fn.ntmps-(⟨E⟩:Array X).size) undef).size:=ab
    refine R3 V c M (L:=w.heap.size) (r:=none) ⟨Z,bK,akL I _,trivial,cC _⟩ (aiO N c (V.fit f fn c A aW)) (.inl rfl) ?_;intro x mE ac Y bu ea a8 hk hm C _;cases x with
    |exit i=>exact hk.elim
    |normal=>exact OE Z.base C.iR hk ea.defers a8 C.marks hm
    |ret=>exact OE Z.base C.iR hk ea.defers a8 C.marks hm
   ·cases D
  ·cases D
 ·exact M.elim
theorem aE.pr(V:qe P){s:al}{f:FuncId}{args:aa X}{h:ae}{U:Nat}{K:bN}(e0:aa (aa Nat))(Z:oT P s e0 f args h U K):aE P s f args h U K:=by
 cases s with
 |false=>exact lg.pr V Z
 |true =>
  have A:=Z;unfold oT at A
  split at A
  ·rename_i N D
   obtain⟨x,p,C,E,M,bh⟩:=Rf _ A;have up:sQ P N.res K p C E->(∀l,sQ P N.res (ud (DS l) C E) p C E->oT P false e0 f args h U (ud (DS l) C E))->aE P true f args h U K:=λbc d5=>by obtain⟨l,ao,aT,_⟩:=KB bc;exact⟨_,C,E,ao,lg.pr V (d5 l (aT _ ⟨rfl,rfl,rfl⟩))⟩
   cases x with
   |exit i=>exact M.elim
   |normal=>exact up M λl I=>by unfold oT;rw[D];exact bh _ _ _ I
   |ret=>exact up M λl I=>by unfold oT;rw[D];exact bh _ _ _ I
  ·exact A.elim
def DE:aa Nat->aa X->ch->ch
 |p::cf,v::aF,ak=>DE cf aF ((p,some v)::ak)
 |_,_,ak=>ak
theorem Zn{aj:ce}:∀{cf:aa Nat} {args A:aa X} {ak:ch} {t:Array X},dt aj args A->js aj ak t->(∀q∈cf,q<t.size) ->
  js aj (DE cf args ak) ((cf.zip A).foldl (λtmps (t,a)=>tmps.setIfInBounds t a) t)/\((cf.zip A).foldl (λtmps (t,a)=>tmps.setIfInBounds t a) t).size=t.size
 | [],_,_,ak,t,_,C,_=>by simpa[DE]using C
 |q::cf,[],_,ak,t,.nil,C,_=>by simpa[DE]using C
 |q::cf,v::args,_,ak,t,.cons (y:=c) V D,C,E=>by
  have M:=E q (by simp);have I:js aj ((q,some v)::ak) (t.setIfInBounds q c):=by have:=js.put (a:={ tmps:=t,defers:=[] }) (dst:=some q) (v:=some v) C V ab;exact this
  obtain⟨N,Z⟩:=Zn (cf:=cf) D I ab;simp only[DE,List.zip_cons_cons,Fq];exact⟨N,ab⟩
def VE(l:Nat)(ak:ch)(cf:aa Nat)(a b:Code)(st:Nat)(p:aw Code)(r:al)(K:bN):iX:=λ_ h U=>∃gy eC,u h l=some (.loop gy eC ak cf a b)/\K (.bool r) (T h l (.loop st p ak cf a b)) U
def B5(P:Program)(s:al)(vW oS:aa (aa Nat))(l:Nat)(args:aa X)(ak:ch)(cf:aa Nat)(a b:Code)(h:ae)(U:Nat)(K:bN):Prop :=
 h6 P s vW (comp P a) 0 (DE cf args ak) h U (λTS h1 a5=>∃eC,u h1 l=some (.loop 0 eC ak cf a b) /\
  h6 P s oS (comp P b) 0 TS (T h1 l (.loop 1 eC ak cf a b)) a5 (VE l ak cf a b 0 none true K) [] (VE l ak cf a b 2 (some .ret) false K)) [] (λ_ _ _=>False)
theorem t7.pr(hN:qe P){l:Nat}{U:Nat}{p:aw Code}{ak:ch}{a b:Code}(aY:u h l=some (.loop st p ak cf a b))(fO:args.length=cf.length)(IV:lC a=true)(rj:lC b=true)(ar:B5 P false vW oS l args ak cf a b h U K):t7 P l args h U K:=by
 intro B aj w V p bc bK Z bo;obtain⟨E,ey,bO,jc,hpd,za,LL,SM,SN,rZ,nL,vH⟩:=bc.KA bo aY;refine⟨E,bO,by rw[<-Z.length,fO,<-LL];simp,λn=>?_⟩;obtain⟨azL,aCg⟩:=Zn  Z za vH;have axy:(E.params.zip ⟨V⟩).foldl (λtmps (t,a)=>tmps.setIfInBounds t a) E.tmps=(cf.zip V).foldl (λtmps (t,a)=>tmps.setIfInBounds t a) E.tmps:=by rw[<-LL,<-z0];simp
 rw[axy];subst SM SN;refine roundIn_of_wpIn trivial ?_;refine R3 hN E.assign ar (L:=w.heap.size) (r:=some p.ca) ⟨bc,bK,azL,trivial,cC _⟩ ab (.inr IV) ?_;intro x TS h1 nj s0 aD cT hk hm C SQ;cases x with
 |exit i=>exact hk.elim
 |ret=>exact hk.elim
 |normal =>
  obtain⟨pd1,q5,hk⟩:=hk;have rS:=(bK.sub hm) _ _ bo;obtain⟨I,vI,Ml,LK,azM,azN,axz,axA,axB,azO,azP,azQ⟩:=hm.rel.KA rS q5;have auP:I.state = .ready:=by
   cases TT:I.state <;> rw[TT]at LK <;> first|rfl|cases LK
  have s1:=Oe (P:=P) Ml;have M:=uW (P:=P)  (o:=.loop { I with state:=.busy }) Ml ab;have hbr:(Instr.beginRound p.ca).run P cT = .ok () { cT with heap:=cT.heap.setIfInBounds p.ca (.loop { I with state:=.busy }) }:=by simp only[Instr.beginRound,Sem.run_bind,s1,M,Result.andThen_ok,auP,Sem.run_pure]
  have D:cx B s0 (u h1) cT nj nj s0 (u (T h1 l (.loop 1 pd1 ak cf E.assign E.body))) { cT with heap:=cT.heap.setIfInBounds p.ca (.loop { I with state:=.busy }) }:=
   cx.set hm.rel nj rS q5 vI ab λa8 oF=>⟨vI,_,oF,rfl,azM,azN,axz,axA,axB,azO,azP,azQ⟩
  refine⟨_,hbr,?_⟩;have azR:=hm.trans D;have ahe:oV w.heap.size B s0 TS (T h1 l (.loop 1 pd1 ak cf E.assign E.body)) nj aD { cT with heap:=cT.heap.setIfInBounds p.ca (.loop { I with state:=.busy }) }:=
   ⟨D.rel,C.eu,C.iR,C.marks.h4 D,iv C.low D.size⟩
  refine R3 hN E.body hk ahe (r:=some p.ca) ab (.inr rj) ?_;intro x pe2 ao N TU a2 c8 dD q7 aCh _;have rT:=(ahe.eu.sub q7) _ _ rS;have fin:∀(A:aw Code) (st:Nat) (s:LoopState),Tu s=st->(if A.isNone then LoopState.ready else LoopState.done)=s->VE l ak cf E.assign E.body st A A.isNone K pe2 ao N ->
    ∃v a8,(Instr.endRound p.ca A).run P c8 = .ok v a8/\Fin B aj h w U K (.returned v) a8:=by
   rintro A st s ar b5 ⟨st3,pd3,s2,h8⟩;obtain⟨lp3,hB3,Bw,aCi,aCj,azS,axC,axD,axE,azT,azU,azV⟩:=q7.rel.KA rT s2;have azW:=Oe (P:=P) Bw;subst b5;have M:=uW (P:=P)  (o:=.loop { lp3 with state:=if A.isNone then .ready else .done,pending:=A }) Bw ab;have LM:cx B TU (u ao) c8 N N TU (u (T ao l (.loop st A ak cf E.assign E.body))) { c8 with heap:=c8.heap.setIfInBounds p.ca (.loop { lp3 with state:=if A.isNone then .ready else .done,pending:=A }) }:=
    cx.set q7.rel N rT s2 hB3 ab λa8 oF=>⟨hB3,_,oF,ar,rfl,azS,axC,axD,axE,azT,azU,azV⟩
   refine⟨.bool A.isNone,_,?_,.bool A.isNone,_,N,TU,_,rfl,h8,.bool _,(azR.trans q7).trans LM⟩;simp only[Instr.endRound,Sem.run_bind,azW,M,Result.andThen_ok,Sem.run_pure]
  cases x with
  |normal=>exact fin none 0 _ rfl rfl dD
  |ret=>exact fin (some .ret) 2 _ rfl rfl dD
  |exit i=>exact dD.elim
theorem mb.pr(M:qe P){s:al}{vW oS:aa (aa Nat)}{l:Nat}{args:aa X}{h:ae}{U:Nat}{K:bN}{st:Nat}{p:aw Code}{ak:ch}{cf:aa Nat}{a b:Code}(aY:u h l=some (.loop st p ak cf a b))(A:args.length=cf.length)
  (V:lC a=true) (rj:lC b=true) (ar:B5 P s vW oS l args ak cf a b h U K):mb P s l args h U K:=by
 cases s with
 |false=>exact t7.pr M aY A V rj ar
 |true =>
  obtain⟨x,cr,h1,a5,E,bh⟩:=Rf _ ar;cases x with
  |exit i=>exact E.elim
  |ret=>exact E.elim
  |normal =>
   obtain⟨eC,bP,E⟩:=E;obtain⟨x,kY,ao,bQ,D,I⟩:=Rf _ E;cases x with
   |exit i=>exact D.elim
   |normal =>
    obtain⟨C,lM,Z,N⟩:=D;exact⟨_,_,_,N,t7.pr M aY A V rj (bh _ _ _ ⟨eC,bP,I _ _ _ ⟨C,lM,Z,rfl,rfl,rfl⟩⟩)⟩
   |ret =>
    obtain⟨C,lM,Z,N⟩:=D;exact⟨_,_,_,N,t7.pr M aY A V rj (bh _ _ _ ⟨eC,bP,I _ _ _ ⟨C,lM,Z,rfl,rfl,rfl⟩⟩)⟩
end
def hs:Go.Ax.ae:=λ_=>none
@[simp] theorem Ka(k:Nat):u hs k=none:=rfl
section
variable {P:Program} {s:al}
@[simp,grind =] theorem jP(h:ae)(b:Nat)(o:fU)(k:Nat):u (T h b o) k=if k=b then some o else u h k:=Ae h b o k
@[simp] theorem fh{az fe:Type}(x:az)(f:az->R fe):R.bind (.ok x) f=f x:=rfl
@[simp] theorem aBY(w:String)(f:az->R fe):R.bind (.no w) f = .no w:=rfl
@[simp] theorem Gr{az fe:Type}(w:String)(x:az)(f:az->R fe):R.of w (some x) f=f x:=rfl
@[simp] theorem aBZ(w:String)(f:az->R fe):R.of w none f = .no w:=rfl
@[simp] theorem aBR(v:X):DS [v]=v:=rfl
@[simp] theorem aBS(v w:X)(l:aa X):DS (v::w::l) = .tuple ⟨v::w::l⟩:=rfl
@[simp] theorem Zo(A:Nat)(C:aw Nat)(l:aa X):w1 A C (.agg ⟨l⟩)=hB C A l:=rfl
@[simp] theorem OF{fe:Type}(a:Addr)(k:Addr->R fe):AL (.pointer (some a)) k=k a:=rfl
@[simp] theorem Zp(b o:Nat)(A:aw Nat)(n:Nat):Dx ⟨b,o,A⟩ n = .pointer (some ⟨b,o+n,none⟩):=rfl
@[simp] theorem Xi(a:Addr):bs (.pointer (some a)) = .ok (.pointer (some a)):=rfl
@[simp] theorem Ww(l:aa X)(i:Nat):cp (.tuple ⟨l⟩) i=R.of "extract" (l[i]?) (λv=>.ok v):=by show R.of "extract" (g3 l i) _=_;rw[i4]
@[simp] theorem aBT(k:IntKind)(n:Nat)(f:Nat->R fe):rO (.int k (n:Int)) f=f n:=rfl
@[simp] theorem aBM(k:IntKind)(n:Nat)(f:Nat->R fe):rO (.int k (.ofNat n)) f=f n:=rfl
@[simp] theorem aBU(k:IntKind)(n:Nat)(f:Nat->R fe):rO (.int k (OfNat.ofNat n:Int)) f=f n:=rfl
@[simp] theorem aBP(k:IntKind)(f:Nat->R fe):rO (.int k 0) f=f 0:=rfl
@[simp] theorem aBV(k:IntKind)(f:Nat->R fe):rO (.int k 1) f=f 1:=rfl
@[simp] theorem X5(s:Nat)(b o:Nat)(A:aw Nat)(len cap i:Nat):x9 (.slice s) (.slice (some ⟨b,o,A⟩) len cap) i=if i<len then .ok (.pointer (some ⟨b,o+i*s,none⟩))else .no "index" := by
 show(bif Nat.blt i len then _ else _)=_;rw[o5]
 by_cases h:i<len <;> simp[h] <;> rfl
@[simp] theorem X6(n s:Nat)(b o:Nat)(A:aw Nat)(i:Nat):x9 (.array n s) (.pointer (some ⟨b,o,A⟩)) i=if i<n then .ok (.pointer (some ⟨b,o+i*s,none⟩))else .no "index" := by
 show(bif Nat.blt i n then _ else _)=_;rw[o5]
 by_cases h:i<n <;> simp[h] <;> rfl
theorem aqZ{op:BinOp}{t:TypeId}{A C:IntKind}{a b:Int}(ar:yh op=false)(D:mC A C=true):bin P op t (.int A a) (.int C b)=D8 op A a b:=by
 show AV op A a C b=_;unfold AV
 grind
theorem sM(op:BinOp)(t:TypeId)(k:IntKind)(a b:Int)(ar:yh op=false):bin P op t (.int k a) (.int k b)=D8 op k a b:=aqZ ar (wy k)
@[simp] theorem P2(t:TypeId)(k:IntKind)(a b:Int):bin P .add t (.int k a) (.int k b) = .ok (.int k (k.wrap (a+b))):=by rw[sM _ _ _ _ _ rfl,<-oh];rfl
@[simp] theorem abk(t:TypeId)(k:IntKind)(a b:Int):bin P .sub t (.int k a) (.int k b) = .ok (.int k (k.wrap (a-b))):=by rw[sM _ _ _ _ _ rfl,<-oh];rfl
@[simp] theorem KC(t:TypeId)(k:IntKind)(a b:Int):bin P .lss t (.int k a) (.int k b) = .ok (.bool (decide (a<b))):=by rw[sM _ _ _ _ _ rfl,<-rC];rfl
@[simp] theorem abl(t:TypeId)(k:IntKind)(a b:Int):bin P .leq t (.int k a) (.int k b) = .ok (.bool (!decide (b<a))):=by rw[sM _ _ _ _ _ rfl,<-rC];rfl
@[simp] theorem abm(t:TypeId)(k:IntKind)(a b:Int):bin P .gtr t (.int k a) (.int k b) = .ok (.bool (decide (b<a))):=by rw[sM _ _ _ _ _ rfl,<-rC];rfl
@[simp] theorem abn(t:TypeId)(k:IntKind)(a b:Int):bin P .geq t (.int k a) (.int k b) = .ok (.bool (!decide (a<b))):=by rw[sM _ _ _ _ _ rfl,<-rC];rfl
@[simp] theorem abo(t:TypeId)(k:IntKind)(a b:Int):bin P .eql t (.int k a) (.int k b) = .ok (.bool (a == b)):=by rw[sM _ _ _ _ _ rfl,<-k4];rfl
@[simp] theorem abp(t:TypeId)(k:IntKind)(a b:Int):bin P .neq t (.int k a) (.int k b) = .ok (.bool (!(a == b))):=by rw[sM _ _ _ _ _ rfl,<-k4];rfl
@[simp] theorem adt(b:al):du .not (.bool b) = .ok (.bool (!b)):=rfl
@[simp] theorem Zq(k dm:IntKind)(n:Int):ou (.int dm) (.int k n) = .ok (.int dm (dm.wrap n)):=by rw[<-oh];rfl
theorem Of{t:TypeId}{x:Addr}(A:wF P t=true):bin P .neq t (.pointer (some x)) (.pointer none) = .ok (.bool true):=by show R.of "compared" (pd P t (.pointer (some x)) (.pointer none)) _=_;unfold pd;simp[A,Hn,ot]
theorem pL{t:TypeId}{x:Addr}(A:wF P t=true):bin P .eql t (.pointer (some x)) (.pointer none) = .ok (.bool false):=by show R.of "compared" (pd P t (.pointer (some x)) (.pointer none)) _=_;unfold pd;simp[A,Hn,ot]
@[simp] theorem Xj(a:aw Addr)(n c:Nat):AX (.slice a n c) = .ok (n:X):=rfl
theorem uT{A:al}(C:u h b=some (.cells cs A))(k:aa X->al->R fe):cellsOf h b k=k cs A:=by unfold cellsOf;rw[C]
@[simp] theorem X7(A:Nat)(cs:aa X):hB none A cs=Dw (cs[A]?):=by show Dw (g3 cs A)=_;rw[i4]
@[simp] theorem Xk(v:X):Dw (some v) = .ok v:=rfl
@[simp] theorem aBN:Dw none = .no "load - out of block" := rfl
@[simp] theorem o3(n A:Nat)(cs:aa X):hB (some n) A cs=if n<=cs.length-A then .ok (.agg ⟨(cs.drop A).take n⟩)else .no "load - out of block" := by
 show Ld (m8 n (mY cs A))=_;rw[rA,qG,CD]
 by_cases h:n<=cs.length-A <;> simp[h,Ld]
end
def Di:aa MapEntry->Prop:=List.Pairwise (λa b=>a.born<b.born)
theorem aq0(seen:aa Nat)(b:Nat):seen.any (Nat.beq b)=decide (b∈seen):=by
 rw[z5,x0];simp only[NT];constructor
 ·rintro⟨x,C,A⟩;rw[gr A];omega
 ·intro h;exact⟨b,h,uP b⟩
theorem uV(seen:aa Nat)(e:MapEntry)(A:aa MapEntry):leftOf seen (e::A)=if e.born∈seen then leftOf seen A else e::leftOf seen A:=by
 show(bif seen.any (Nat.beq e.born)then _ else _)=_;rw[aq0]
 grind
theorem N0:∀(A:aa MapEntry),leftOf [] A=A
 | []=>rfl
 |e::A=>by rw[uV];simp[N0 A]
theorem FJ{seen:aa Nat}:∀{A:aa MapEntry} {e:MapEntry},e∈leftOf seen A->e∈A/\e.born ∉ seen
 | [],e,h=>by cases h
 |x::A,e,h=>by
  rw[uV]at h
  by_cases C:x.born∈seen
  ·rw[if_pos C]at h;obtain⟨D,E⟩:=FJ h
   grind
  ·rw[if_neg C]at h;rcases gh.1 h with rfl|h
   ·grind
   ·obtain⟨D,E⟩:=FJ h
    grind
theorem WI{seen:aa Nat}{b:Nat}:∀{A:aa MapEntry},(∀e∈A,e.born≠b)->leftOf (seen++[b]) A=leftOf seen A
 | [],_=>rfl
 |x::A,h=>by
  rw[uV,uV,WI ab]
  grind
theorem Og{seen:aa Nat}:∀{A:aa MapEntry} {e:MapEntry},Di A->e∈leftOf seen A->(leftOf seen A).Perm (e::leftOf (seen++[e.born]) A)
 | [],e,_,h=>by cases h
 |x::A,e,E,h=>by
  have M:∀y∈A,x.born<y.born:=λy I=>tu E I;have C:Di A:=NL E;rw[uV]at h
  by_cases D:x.born∈seen
  ·rw[if_pos D]at h;rw[uV,if_pos D,uV,if_pos ab];exact Og C h
  ·rw[if_neg D]at h;rw[uV,if_neg D,uV];rcases gh.1 h with rfl|h
   ·rw[if_pos (by simp),WI ab]
   ·have N:=FJ h;rw[if_neg ab];exact((Og C h).cons x).trans (List.Perm.swap ..)
theorem X8:∀{A:aa MapEntry} {e:MapEntry},Di A->e∈A->Dy e.born A=some e
 | [],e,_,h=>by cases h
 |x::A,e,C,h=>by
  show(bif Nat.beq x.born e.born then some x else Dy e.born A)=some e;rcases gh.1 h with rfl|h
  ·rw[uP];rfl
  ·have E:x.born<e.born:=tu C h;have:Nat.beq x.born e.born=false:=by
    cases D:Nat.beq x.born e.born with
    |false=>rfl
    |true=>have:=gr D;omega
   rw[this];exact X8 (NL C) h
theorem X9:∀(l:aa Nat) (b:Nat),G6 (l++[b])=some b
 | [],b=>rfl
 | [x],b=>rfl
 |x::y::l,b=>X9 (y::l) b
theorem Ya{D r A E:Nat}{C:aa MapEntry}{e:MapEntry}(ag:u h D=some (.iter (some r) A (seen++[e.born]) E))(N:u h r=some (.map C E))(M:Di C)(I:e∈C):
  wL h (bf D) = .ok (.tuple #[e.key,e.val]):=by unfold wL k8;simp only[OF,show Nat.beq 0 0=true from rfl,qF,ag,N,uP,X9,X8 M I,Gr]
@[simp] theorem tK{az:Type}(v:az)(k:az->Prop):af (.ok v) k↔k v:=Iff.rfl
@[simp] theorem afD{az:Type}(w:String)(k:az->Prop):af (.no w) k↔False:=Iff.rfl
section
variable {aj bu:ce}
mutual
theorem bF.back(ar:Sub aj bu):∀{v E c:X},bF aj v E->bF bu v c->bF aj v c
 |_,_,_,.bool b,.bool _=>.bool b
 |_,_,_,.int k n,.int _ _=>.int k n
 |_,_,_,.string s,.string _=>.string s
 |_,_,_,.GM,.GM=>.GM
 |_,_,_,.ptr h,.ptr A=>by have e:=ar _ _ h;rw[e]at A;cases A;exact .ptr h
 |_,_,_,.rB l c,.rB _ _=>.rB l c
 |_,_,_,.k5 h l c,.k5 A _ _=>by have e:=ar _ _ h;rw[e]at A;cases A;exact .k5 h l c
 |_,_,_,.o7 h Z l c,.o7 A aU _ _=>by have e:=ar _ _ h;rw[e]at A;cases A;exact .o7 h Z l c
 |_,_,_,.o8 b o g aX c,.o8 _ _ N V c2=>.o8 b o N V c2
 |_,_,_,.GN,.GN=>.GN
 |_,_,_,.map h,.map A=>by have e:=ar _ _ h;rw[e]at A;cases A;exact .map h
 |_,_,_,.nilFunc,.nilFunc=>.nilFunc
 |_,_,_,.nilIface,.nilIface=>.nilIface
 |_,_,_,.func f I M,.func _ C D=>.func f (dt.back ar I C) (dt.back ar M D)
 |_,_,_,.yield h,.yield A=>by have e:=ar _ _ h;rw[e]at A;cases A;exact .yield h
 |_,_,_,.iface t h,.iface _ A=>.iface t (bF.back ar h A)
 |_,_,_,.agg h,.agg A=>.agg (dt.back ar h A)
 |_,_,_,.tuple h,.tuple A=>.tuple (dt.back ar h A)
theorem dt.back(ar:Sub aj bu):∀{v A c:aa X},dt aj v A->dt bu v c->dt aj v c
 |_,_,_,.nil,.nil=>.nil
 |_,_,_,.cons h t,.cons C D=>.cons (bF.back ar h C) (dt.back ar t D)
end
theorem pO.back(ar:Sub aj bu){cs:aa X}{c C:Array X}{A:Nat}(h:pO aj cs c A)(M:pO bu cs C A):pO aj cs C A:=λi v e=>by obtain⟨_,_,D⟩:=h i v e;obtain⟨I,E,N⟩:=M i v e;exact⟨I,E,bF.back ar D N⟩
theorem hC.back(ar:Sub aj bu):∀{E C A:aa MapEntry},hC aj E C->hC bu E A->hC aj E A
 |_,_,_,.nil,.nil=>.nil
 |_,_,_,.cons V N _ t,.cons I D M Z=>.cons (bF.back ar V I) (bF.back ar N D) M (hC.back ar t Z)
theorem p0.back(ar:Sub aj bu){m E A:aw Nat}(h:p0 aj m E)(C:p0 bu m A):p0 aj m A:=by
 cases m with
 |none=>cases A <;> simp only[p0]at *
 |some r =>
  cases A with
  |none=>simp only[p0]at C
  |some M =>
   cases E with
   |none=>simp only[p0]at h
   |some V =>
    simp only[p0]at h C ⊢;obtain⟨q,I,_⟩:=h;obtain⟨N,D,e⟩:=C;rw[ar _ _ I]at D;grind
theorem mx.back{B:Nat}(ar:Sub aj bu){w a8:World}{p:Place}{o:fU}(h:mx B aj w p o)(I:mx B bu a8 p o):mx B aj a8 p o:=by
 cases o with
 |cells cs bG =>
  cases bG with
  |true =>
   obtain⟨_,c,e,eu,_,E⟩:=h;obtain⟨D,bL,dS,Z,A,C⟩:=I;exact⟨D,bL,dS,Z,A,E.back ar C⟩
  |false =>
   obtain⟨_,_,c,e,ap,ag,_,_,a9,_⟩:=h;obtain⟨D,V,bL,dS,ec,dk,A,C,th,nw⟩:=I;exact⟨D,V,bL,dS,ec,dk,A,C,a9.back ar th,nw⟩
 |map es cI =>
  obtain⟨_,dj,_,E⟩:=h;obtain⟨D,N,A,C⟩:=I;exact⟨D,N,A,E.back ar C⟩
 |iter m M seen st =>
  obtain⟨_,_,bD,_,E⟩:=h;obtain⟨D,V,m2,A,C⟩:=I;exact⟨D,V,m2,A,E.back ar C⟩
 |loop st rN l9 cf a b =>
  obtain⟨_,l,_,_,_,bY,_⟩:=h;obtain⟨D,dr,A,C,th,nw,aDH⟩:=I;exact⟨D,dr,A,C,th,λd v e=>bF.back ar (bY d v e) (nw d v e),aDH⟩
end
section
variable {B:Nat} {aj bu:ce} {H hK:fq} {w a8:World} {U Y:Nat}
theorem cx.forget(C:ed B aj H w)(E:kg aj U)(A:cx B aj H w U Y bu hK a8)(M:∀b o,H b=some o->hK b=some o):cx B aj H w U U aj H a8 where
 rel:={
  base:=iv C.base A.size
  obj:=λb p o D I=>(C.obj b p o D I).back (E.sub A) (A.rel.obj b p o (E.sub A b p D) ab)
  inj:=C.inj
  nd:=C.nd }
 agree:=ab
 size:=A.size
 os:=A.os
 tape:=A.tape
 output:=A.output
 frame:=A.frame
 own:=ab
 le:=J
theorem cx.aq1(bc:ed B aj H w)(N:kg aj U)(C:cx B aj H w U Y bu hK a8)(hk:∀b o,H b=some o->hK b=some o){p:Place}{o:fU}(aW:U<=b)(a6:bu b=some p)(fI:hK b=some o)(oD:mx B (λk=>if k=U then some p else aj k) a8 p o):cx B aj H w U (U+1) (λk=>if k=U then some p else aj k) (λk=>if k=U then some o else H k) a8:=by
 have Z:Sub aj (λk=>if k=U then some p else aj k):=λk q A=>by
  by_cases e:k=U
  ·rw[e,N.here]at A;grind
  grind
 have cb:∀k,(H k).isSome->k<U:=λk ar=>by
  rcases jJ k U with h|h
  ·exact h
  ·have:=bc.nd k ar;rw[N k h]at this;grind
 refine⟨⟨iv bc.base C.size,λk q x A M=>?_,λk dm q mO A D ar E V b0=>?_,λk ar=>?_⟩,λk hk=>?_,C.size,C.os,C.tape,C.output,C.frame,λk h=>?_,J⟩
 ·by_cases e:k=U
  ·simp only[e,if_true]at A M;cases A;cases M;exact oD
  ·simp only[e,fg]at A M;exact((bc.obj k q x A M).back (N.sub C) (C.rel.obj k q x (N.sub C k q A) ab)).mono Z rfl
 ·by_cases e:k=U
  ·by_cases dS:dm=U
   ·omega
   ·exfalso;simp only[e,if_true]at A;simp only[dS,fg]at D E;cases A;have I:(hK dm).isSome:=by
     obtain⟨x,M⟩:=nA.1 E
     grind
    have:=C.rel.inj b dm p mO a6 (N.sub C dm mO D) ab I V b0
    grind
  ·by_cases dS:dm=U
   ·exfalso;simp only[dS,if_true]at D;simp only[e,fg]at A ar;cases D;have I:(hK k).isSome:=by
     obtain⟨x,M⟩:=nA.1 ar
     grind
    have:=C.rel.inj k b q p (N.sub C k q A) a6 I ab V b0
    grind
   ·simp only[e,fg]at A ar;simp only[dS,fg]at D E;exact bc.inj k dm q mO A D ar E V b0
 ·by_cases e:k=U
  ·grind
  ·simp only[e,fg]at ar ⊢;exact bc.nd k ar
 ·grind
 ·obtain⟨dm,q,A,ar,rfl,V⟩:=h
  by_cases e:dm=U
  ·simp only[e,if_true]at A;cases A;rcases C.own p.ca ⟨b,p,a6,ab,rfl,V⟩with⟨ha,e1,h1,ao,aT,a9⟩|h
   ·exact .inl ⟨ha,e1,h1,ao,aT,a9⟩
   omega
  ·simp only[e,fg]at A ar;exact .inl ⟨dm,q,A,ar,rfl,V⟩
end
section
variable {P:Program}
theorem ed.fresh{B:Nat}{aj:ce}{H:fq}{w:World}{U:Nat}(A:ed B aj H w)(C:kg aj U):∀b,U<=b->H b=none:=λb D=>by
 cases E:H b with
 |none=>rfl
 |some o =>
  have:=A.nd b ab;rw[C b D]at this;grind
end
end Go.Ax
