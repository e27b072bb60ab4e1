/- Parts of the proof: Cm2: each statement bears its own conditions. -/
import Derived.Test.YthlhhajnbgjfmaaGreatCm1
namespace Go.Ax
open Go
set_option linter.all false
set_option maxHeartbeats 1000000
variable {cD:Array ao} {h:ae} {all:ac Oper} {p:Nat} {gb:World} {i:Nat} {e4:Type} {args:ac X} {d:ay Nat} {eU:ac (ac Nat)} {L:ac Nat} {c:Nat} {iA:cc} {n:Nat} {seen:ac Nat} {j b:Nat} {aB:Type} {tmps:Array X} {k K:bZ} {q:Nat} {cZ:kX} {o:Oper} {t:eR} {Q:Exit->Act->World->Prop} {g:ay (Nat × ao)} {aJ:ac X} {vC oy:ac (ac Nat)} {ce:ac Nat} {v:X} {au:ac ae} {e:vB} {f:FuncId} {cs:ac X} {a:Act} {st:Nat} {r:fc} {al aj:Nat} {dw:bZ} {l:ac lV} {body:Code} {m:Nat} {pl:Place} {rG:Code} {ke:Nat} {fn:Func} {r1:fm} {x y:h7}
def Gt(P:Program)(o:Oper):ao:=match oV P o.op with|some k=>jn k|none=>false
def kg(a8:ac Oper):ac Nat:=(Region.before ⟨a8⟩).toList
def n0(a8:List Oper)(o:Oper):List Nat :=
 o.dst.toList++(o.op.operands.toList.filterMap λ| .tmp t=>some t|_=>none) ++
 (match o.guard with|some (g,_)=>((g3 a8 g).bind (·.dst)).toList|none=>[])
def kx(a:ac Nat)(j i:Nat):ao:=((g3 a j).getD 0).testBit i
def sm(P:Program)(a8:ac Oper)(i:Nat):ao:=((g3 a8 i).map (Gt P)).getD false
def Ks(P:Program)(a8:ac Oper)(a:ac Nat)(before:ac Nat)(i:Nat):Nat:=(before.filter (λe=>sm P a8 e&&!kx a i e)).length
def z0(P:Program)(a8:ac Oper)(a:ac Nat)(i j:Nat):ao :=
 !Nat.beq i j&&!kx a i j &&
 (!sm P a8 j||kx a j i) &&
 (match g3 a8 i,g3 a8 j with
  |some x,some y=>kx a j i||((x.dst.toList.all λd=>!(n0 a8 y).contains d)&&(y.dst.toList.all λd=>!(n0 a8 x).contains d))
  |_,_=>false)
theorem Wx(look:Nat->Nat):∀(A:ac Edge) (s i:Nat),(A.foldl (λs e=>if Region.binds .any e then s ||| 2 ^ e.on ||| look e.on else s) s).testBit i=true ->
  s.testBit i=true\/∃e∈A,Region.binds .any e=true/\(e.on=i\/(look e.on).testBit i=true)
 | [],s,i,h=>.inl h
 |e::A,s,i,h=>by
  rw[EF]at h;rcases Wx look A _ i h with h|⟨C,D,E⟩
  all_goals grind
def Good(yP:ac Oper)(acc:Array Nat):Prop:=acc.size=yP.length/\∀j i,(acc.getD j 0).testBit i=true ->
 ∃o e,yP[j]? = some o/\e∈o.after/\Region.binds .any e=true/\(e.on=i\/(e.on<j/\(acc.getD e.on 0).testBit i=true))
theorem IZ{A:Array Nat}{v:Nat}(h:j<A.size):(A.push v).getD j 0=A.getD j 0:=by simp[qh,Array.getElem?_push,Nat.ne_of_lt h]
theorem Xl:∀(V C:ac Oper) (A:Array Nat),Good C A ->
  Good (C++V) (V.foldl (λA o=>A.push (o.after.foldl (λs e=>if Region.binds .any e then s ||| 2 ^ e.on ||| A.getD e.on 0 else s) 0)) A)
 | [],C,A,h=>by simpa using h
 |o::V,C,A,⟨h1,ap⟩=>by
  have:=Xl V (C++[o]) (A.push (o.after.foldl (λs e=>if Region.binds .any e then s ||| 2 ^ e.on ||| A.getD e.on 0 else s) 0)) ?_
  ·simpa using this
  refine⟨aa,λj i I=>?_⟩;rcases zA j A.size with N|N|N
  ·rw[IZ N]at I;obtain⟨aU,e,bP,Z,E,M⟩:=ap j i I;refine⟨aU,e,?_,Z,E,?_⟩
   ·grind
   ·rcases M with M|⟨M,ho⟩
    ·omega
    ·exact .inr ⟨M,by rw[IZ J];omega⟩
  ·subst N;have aI:(A.push (o.after.foldl (λs e=>if Region.binds .any e then s ||| 2 ^ e.on ||| A.getD e.on 0 else s) 0)).getD A.size 0=o.after.foldl (λs e=>if Region.binds .any e then s ||| 2 ^ e.on ||| A.getD e.on 0 else s) 0:=by simp[qh]
   rw[aI,<-zy]at I;rcases Wx (λk=>A.getD k 0) o.after.toList 0 i I with h|⟨e,bP,Z,E⟩
   ·grind
   ·refine⟨o,e,aa,aa,Z,?_⟩;rcases E with E|E
    ·omega
    ·right
     have D:e.on<A.size:=aa
     exact⟨D,by rw[IZ D];omega⟩
  grind
theorem NV(a8:ac Oper)(j i:Nat):kx (kg a8) j i=((Region.before ⟨a8⟩).getD j 0).testBit i:=by unfold kx kg;rw[ja];simp[qh]
theorem ams{a8:ac Oper}(h:kx (kg a8) j i=true):∃o e,a8[j]? = some o/\e∈o.after/\Region.binds .any e=true/\(e.on=i\/(e.on<j/\kx (kg a8) e.on i=true)):=by
 rw[NV]at h;have A:Good a8 (Region.before ⟨a8⟩):=by have:=Xl a8 [] #[] ⟨rfl,λj i h=>aa⟩;unfold Region.before;rw[<-zy];simpa using this
 obtain⟨o,e,D,C,E,I⟩:=A.2 j i h;exact⟨o,e,D,C,E,by rw[NV];omega⟩
theorem Yx(look:Nat->Nat):∀(A:ac Edge) (s:Nat),(∀i,s.testBit i=true->(A.foldl (λs e=>if Region.binds .any e then s ||| 2 ^ e.on ||| look e.on else s) s).testBit i=true) /\
  ∀e∈A,Region.binds .any e=true->(A.foldl (λs e=>if Region.binds .any e then s ||| 2 ^ e.on ||| look e.on else s) s).testBit e.on=true
 | [],s=>aa
 |x::A,s=>by
  obtain⟨C,D⟩:=Yx look A (if Region.binds .any x then s ||| 2 ^ x.on ||| look x.on else s)
  grind
theorem Xm:∀(I C:ac Oper) (A:Array Nat),A.size=C.length->(∀j o e,C[j]? = some o->e∈o.after->Region.binds .any e=true->(A.getD j 0).testBit e.on=true) ->
  ∀(j:Nat) (o:Oper) (e:Edge),(C++I)[j]? = some o->e∈o.after->Region.binds .any e=true ->
   ((I.foldl (λA o=>A.push (o.after.foldl (λs e=>if Region.binds .any e then s ||| 2 ^ e.on ||| A.getD e.on 0 else s) 0)) A).getD j 0).testBit e.on=true
 | [],C,A,_,h,j,o,e,V,M,E=>aa
 |x::I,C,A,N,h,j,o,e,V,M,E=>by
  refine Xm I (C++[x]) (A.push (x.after.foldl (λs e=>if Region.binds .any e then s ||| 2 ^ e.on ||| A.getD e.on 0 else s) 0)) aa (λj o e V M E=>?_) j o e aa M E;rcases zA j C.length with D|D|D
  ·rw[IZ J]
   grind
  ·have Z:x=o:=aa
   subst Z;have aI:(A.push (x.after.foldl (λs e=>if Region.binds .any e then s ||| 2 ^ e.on ||| A.getD e.on 0 else s) 0)).getD j 0=x.after.foldl (λs e=>if Region.binds .any e then s ||| 2 ^ e.on ||| A.getD e.on 0 else s) 0:=by rw[D,<-N];simp[qh]
   rw[aI,<-zy];exact(Yx (λk=>A.getD k 0) x.after.toList 0).2 e aa E
  grind
theorem amt{a8:ac Oper}{e:Edge}(D:a8[j]? = some o)(C:e∈o.after)(A:Region.binds .any e=true):kx (kg a8) j e.on=true:=by
 rw[NV];have:=Xm a8 [] #[] rfl aa j o e aa C A;unfold Region.before
 grind
theorem Wy{a8:ac Oper}{L:Nat->Prop}(C:∀j o e,L j->a8[j]? = some o->e∈o.after->Region.binds .any e=true->L e.on):∀(j:Nat),(∀o e,a8[j]? = some o->e∈o.after->Region.binds .any e=true->L e.on) ->
  ∀i,kx (kg a8) j i=true->L i:=by
 intro j
 induction j using Nat.strongRecOn with
 |_ j E =>
  intro V i M;obtain⟨o,e,h1,N,aH,A⟩:=ams M;have D:=V o e h1 N aH;rcases A with A|⟨A,b0⟩
  ·rw[<-A];exact D
  ·exact E e.on A (λaU ew Z g2 I=>C e.on aU ew D Z g2 I) i b0
structure tC (P:Program) (a8:ac Oper) (bQ:ac eR):Prop where
 step:∀(p:Nat) (s:eR),bQ[p]? = some s->a8[s.i]? = some s.o/\oV P s.o.op=some s.k/\s.vj=Ks P a8 (kg a8) ((bQ.take p).map (·.i)) s.i
 cover:∀(i:Nat),i<a8.length->∃(p:Nat) (s:eR),bQ[p]? = some s/\s.i=i
 inside:∀(j:Nat) (o:Oper) (e:Edge),a8[j]? = some o->e∈o.after->Region.binds .any e=true->e.on<j
 pair:∀(p q:Nat) (s t:eR),p<q->bQ[p]? = some s->bQ[q]? = some t->z0 P a8 (kg a8) s.i t.i=true
 len:bQ.length=a8.length
theorem Rn(m k:Nat):jI m k=m.testBit k:=by
 show Nat.beq ((m >>> k) &&& 1) 1=(1 &&& (m >>> k) != 0)
 rw[Nat.and_comm 1,IJ];rcases Nat.mod_two_eq_zero_or_one (m >>> k)with h|h <;> rw[h] <;> rfl
theorem aaB{C:ac Nat}{A:Array Nat}(E:A.toList=C):∀(D:ac Edge) (s:Nat),KN C D s=D.foldl (λs e=>if Region.binds .any e then s ||| 2 ^ e.on ||| A.getD e.on 0 else s) s
 | [],s=>rfl
 |e::D,s=>by
  have I:(g3 C e.on).getD 0=A.getD e.on 0:=by rw[ja,<-E];simp[qh]
  show KN C D _=_;rw[aaB E D,EF,I];cases Region.binds .any e <;> rfl
theorem Yy:∀(D:ac Oper) (C:ac Nat) (A:Array Nat),A.toList=C ->
  (D.foldl (λC o=>C.push (o.after.foldl (λs e=>if Region.binds .any e then s ||| 2 ^ e.on ||| C.getD e.on 0 else s) 0)) A).toList=Kp D C
 | [],C,A,h=>h
 |o::D,C,A,h=>by rw[EF];refine Yy D _ _ ?_;rw[Array.toList_push,h,j5,aaB h,<-zy]
theorem aj2(a8:ac Oper):Kp a8 []=kg a8:=by unfold kg Region.before;rw[<-Yy a8 [] #[] rfl,<-zy]
def wJ(P:Program)(a8:ac Oper)(x:h7):Prop:=a8[x.i]? = some x.o/\oV P x.o.op=some x.k/\x.e=Gt P x.o/\x.Ed=C1 x.o.dst/\x.lT=RQ a8 x.o/\g3 (kg a8) x.i=some x.am
theorem aaC{P:Program}{all:ac Oper}:∀(D:ac Oper) (jf:ac Nat) (j:Nat) (C:ac h7),KP P all j D jf=some C->(∀k o,D[k]? = some o->all[j+k]? = some o)->(∀k a,jf[k]? = some a->g3 (kg all) (j+k)=some a)->∀x∈C,wJ P all x
 | [],jf,j,C,h,_,_,x,A=>by cases jf <;> cases h <;> cases A
 |o::D,[],j,C,h,_,_,x,A=>by cases h;cases A
 |o::D,a::jf,j,C,h,N,M,x,A=>by
  simp only[KP,jO,ma]at h;obtain⟨k,E,I,h,rfl⟩:=h;rcases hD.1 A with rfl|A
  ·exact⟨by simpa using N 0 o rfl,E,by simp[Gt,E],rfl,rfl,by simpa using M 0 a rfl⟩
  ·refine aaC D jf (j+1) I h (λk Z E=>?_) (λk V E=>?_) x A
   ·have:=N (k+1) Z aa
    grind
   ·have:=M (k+1) V aa
    grind
theorem NW{C ke:Nat}:∀{l:ac h7} {x:h7},x∈Gq C ke l->x∈l
 | [],x,h=>by cases h
 |y::l,x,h=>by
  unfold Gq at h;cases A:(jI C y.i&&!jI ke y.i)with
  |true =>
   rw[A]at h;rcases hD.1 h with rfl|h
   ·grind
   ·exact nT _ (NW h)
  |false=>rw[A]at h;exact nT _ (NW h)
theorem NX{ke:Nat}:∀{l:ac h7} {x:h7},x∈Gr ke l->x∈l
 | [],x,h=>by cases h
 |y::l,x,h=>by
  unfold Gr at h;cases A:jI ke y.i with
  |false =>
   rw[A]at h;rcases hD.1 h with rfl|h
   ·grind
   ·exact nT _ (NX h)
  |true=>rw[A]at h;exact nT _ (NX h)
theorem NJ{all:ac h7}:∀{l:ac h7} {ke:Nat} {x:h7},(∀y∈l,y∈all)->x∈tl all l ke->x∈all
 | [],ke,x,_,h=>NX h
 |y::l,ke,x,C,h=>by
  unfold tl at h;cases A:(y.e&&!jI ke y.i)with
  |false=>rw[A]at h;exact NJ aa h
  |true =>
   rw[A]at h;simp only[ql,j5,hs,hD]at h;rcases h with h|rfl|h
   ·exact NW h
   ·grind
   ·exact NJ aa h
theorem Jp{t:Nat}(h:t∈d.toList):(C1 d).testBit t=true:=by
 cases d with
 |none=>cases h
 |some d =>
  simp at h;subst h;show(2 ^ t).testBit t=true;simp
theorem Fm{t:Nat}:∀{xs:ac Operand},t∈(xs.filterMap λ| .tmp t=>some t|_=>none)->(C2 xs).testBit t=true
 | [],h=>aa
 |x::xs,h=>by
  rw[List.filterMap_cons]at h;cases x with
  |tmp A =>
   simp only[hD]at h;show(2 ^ A ||| C2 xs).testBit t=true;rw[EJ];rcases h with rfl|h
   ·simp
   ·rw[Fm h];simp
  |const v=>exact Fm (xs:=xs) h
  |global g=>exact Fm (xs:=xs) h
  |func f=>exact Fm (xs:=xs) h
theorem Yz{a8:List Oper}{t:Nat}(h:t∈n0 a8 o):(RQ a8 o).testBit t=true:=by
 unfold n0 at h;show(C1 o.dst ||| (C2 o.op.operands.toList ||| KO a8 o.guard)).testBit t=true;rw[EJ,EJ];simp only[hs]at h;rcases h with(h|h)|h
 ·rw[Jp h];rfl
 ·rw[Fm h];simp
 ·have:(KO a8 o.guard).testBit t=true:=by
   unfold KO
   split at h
   ·rename_i g b C
    cases A:g3 a8 g with
    |none=>grind
    |some D =>
     rw[A]at h;simp only[C,A];exact Jp h
   grind
  grind
theorem YA{a t:Nat}(h:RR a b=true)(A:a.testBit t=true)(C:b.testBit t=true):False:=by
 have:a &&& b=0:=gE h;have D:(a &&& b).testBit t=true:=aa
 grind
theorem amu{P:Program}{a8:ac Oper}(aX:wJ P a8 x)(cd:wJ P a8 y)(h:CM x y=true):z0 P a8 (kg a8) x.i y.i=true:=by
 obtain⟨g8,iZ,hO,N,Z,V⟩:=aX;obtain⟨I,cN,ca,c6,eb,dY⟩:=cd;unfold CM at h;simp only[eA]at h;obtain⟨⟨⟨h1,ap⟩,aH⟩,A⟩:=h;have D:∀k,jI x.am k=kx (kg a8) x.i k:=λk=>by unfold kx;rw[V,Rn];rfl
 have E:∀k,jI y.am k=kx (kg a8) y.i k:=λk=>by unfold kx;rw[dY,Rn];rfl
 rw[D]at ap;rw[E]at aH A;have hey:sm P a8 y.i=y.e:=by unfold sm;rw[ja,I,ca];rfl
 unfold z0;simp only[eA];refine⟨aa,?_⟩;rw[ja,ja,g8,I];simp only[Bool.or_eq_true,eA]at A ⊢;rcases A with A|⟨A,M⟩
 ·grind
 ·right
  constructor
  ·rw[BT];intro d C;cases a5:(n0 a8 y.o).contains d with
   |false=>rfl
   |true =>
    exfalso;rw[N,eb]at A;exact YA A (Jp C) (Yz aa)
  ·rw[BT];intro d C;cases a5:(n0 a8 x.o).contains d with
   |false=>rfl
   |true =>
    exfalso;rw[c6,Z]at M;exact YA M (Jp C) (Yz aa)
theorem aaD{x:h7}:∀{l:ac h7},C3 x l=true->∀y∈l,CM x y=true
 | [],_,y,A=>aa
 |z::l,h,y,A=>by
  unfold C3 at h;obtain⟨D,C⟩:CM x z=true/\C3 x l=true:=aa
  rcases hD.1 A with rfl|A
  ·omega
  ·exact aaD C y A
theorem Xn:∀{l:ac h7},F6 l=true->∀(p q:Nat) (x y:h7),p<q->l[p]? = some x->l[q]? = some y->CM x y=true
 | [],_,p,q,x,y,_,h,_=>aa
 |z::l,h,p,q,x,y,D,aj,A=>by
  unfold F6 at h;obtain⟨C,E⟩:C3 z l=true/\F6 l=true:=aa
  cases q with
  |zero=>omega
  |succ q =>
   have A:l[q]? = some y:=aa
   cases p with
   |zero=>simp at aj;subst aj;exact aaD C y aa
   |succ p=>exact Xn E p q x y J aa A
theorem YB{i:Nat}:∀{l:ac h7},(Aq l).testBit i=true->∃x∈l,x.i=i
 | [],h=>by simp[Aq]at h
 |x::l,h=>by
  have h:(2 ^ x.i ||| Aq l).testBit i=true:=h;rw[EJ]at h;simp only[Bool.or_eq_true]at h;rcases h with h|h
  ·grind
  ·obtain⟨y,A,C⟩:=YB h
   grind
theorem aaE{j:Nat}:∀{C:ac Edge},Ar j C=true->∀e∈C,Region.binds .any e=true->e.on<j
 | [],_,e,A,_=>aa
 |x::C,h,e,A,D=>by
  unfold Ar at h;obtain⟨E,I⟩:(!Region.binds .any x||Nat.blt x.on j)=true/\Ar j C=true:=aa
  rcases hD.1 A with rfl|A
  ·rw[D]at E;simpa[vU]using E
  ·exact aaE I e A D
theorem aaF:∀{A:ac Oper} {j:Nat},GJ j A=true->∀k o,A[k]? = some o->Ar (j+k) o.after.toList=true
 | [],j,_,k,o,h=>aa
 |x::A,j,h,k,o,D=>by
  unfold GJ at h;obtain⟨E,C⟩:Ar j x.after.toList=true/\GJ (Nat.succ j) A=true:=aa
  cases k with
  |zero=>grind
  |succ k =>
   have:=aaF C k o aa
   grind
theorem aaG{P:Program}{a8:ac Oper}{y:h7}(A:wJ P a8 y):∀{b:ac h7},(∀x∈b,wJ P a8 x)->GK y.am b=((b.map (·.i)).filter (λe=>sm P a8 e&&!kx (kg a8) y.i e)).length
 | [],_=>rfl
 |x::b,h=>by
  have M:=aaG A (b:=b) λz V=>h z aa;obtain⟨E,iZ,D,Bp,Z,I⟩:=h x aa;have C:sm P a8 x.i=x.e:=by unfold sm;rw[ja,E,D];rfl
  have N:kx (kg a8) y.i x.i=jI y.am x.i:=by unfold kx;rw[A.2.2.2.2.2,Rn];rfl
  unfold GK
  grind
theorem Wc{P:Program}{a8:ac Oper}:∀{l b:ac h7},(∀x∈l,wJ P a8 x)->(∀x∈b,wJ P a8 x)->(sp b l).map (·.i)=l.map (·.i) /\
  ∀p s,(sp b l)[p]? = some s->a8[s.i]? = some s.o/\oV P s.o.op=some s.k/\s.vj=Ks P a8 (kg a8) ((b.reverse.map (·.i))++((sp b l).take p).map (·.i)) s.i
 | [],b,_,_=>⟨rfl,λp s A=>by simp[sp]at A⟩
 |x::l,b,I,E=>by
  have D:=I x aa;obtain⟨N,M⟩:=Wc (l:=l)  (λz C=>I z aa) (λz C=>by
   rcases hD.1 C with rfl|C
   ·exact D
   ·exact E z C)
  refine⟨by simp[sp,N],λp s A=>?_⟩;cases p with
  |zero =>
   simp[sp]at A;subst A;refine⟨D.1,D.2.1,?_⟩;unfold Ks;rw[aaG D E]
   grind
  |succ p =>
   have:=M p s (by simpa[sp]using A);simpa[sp]using this
theorem aig{P:Program}{a8:ac Oper}{bQ:ac eR}(h:Qw P a8=some bQ):tC P a8 bQ:=by
 obtain⟨I,AO,h⟩:=jO.1 h;have Z:∀x∈I,wJ P a8 x:=aaC a8 _ 0 I AO aa (λk a hk=>by rw[<-aj2,ja];grind);have A:∀x∈tl I I 0,wJ P a8 x:=λx M=>Z x (NJ aa M);generalize tl I I 0=l at h A;obtain⟨N,ij⟩:=td h;simp only[eA]at N;obtain⟨C,D,V,E⟩:=N;cases ij;obtain⟨h1,ap⟩:=Wc A (b:=[]) (λx M=>by cases M);have C:l.length=a8.length:=by have:=gE C;rwa[nX,nX]at this
 have D:Aq l=2 ^ a8.length-1:=by have:=gE D;rw[nX]at this;omega
 have u:∀(p:Nat) (s:eR),(sp [] l)[p]? = some s->∃x,l[p]? = some x/\x.i=s.i:=λp s bn=>by
  have:=congrArg (λz=>z[p]?) h1
  grind
 refine⟨aa,λi aj=>?_,λj o e fd bK a1=>?_,λp q s t Hc au cK=>?_,?_⟩
 ·have a1:(Aq l).testBit i=true:=aa
  obtain⟨x,M,rfl⟩:=YB a1;have bx:x.i∈(sp [] l).map (·.i):=aa
  obtain⟨s,au,bK⟩:=gO.1 bx;obtain⟨p,bn⟩:=vO au
  grind
 ·have:=aaF V j o fd;rw[iU]at this;exact aaE this e aa a1
 ·obtain⟨x,M,ex⟩:=u p s au;obtain⟨y,cd,H4⟩:=u q t cK;rw[<-ex,<-H4];exact amu (A x aa) (A y aa) (Xn E p q x y Hc M cd)
 ·have:=congrArg List.length h1
  grind
structure lX where
 ak:ck
 h:ae
 U:Nat
 b:ae
 au:ac ae
def CO(st gG:lX):Prop:=gG.h=st.h/\gG.U=st.U/\gG.b=st.b/\gG.au=st.au
noncomputable def mR (all:ac Oper) (o:Oper) (ak:ck):ao:=match zd all o.guard with
 |some g=>u2 g ak
 |none=>false
def tT(v:X)(h:ae)(U:Nat):bZ:=λa b c=>a=v/\b=h/\c=U
inductive acW (P:Program) (all:List Oper) (s:eR) (st gG:lX) (v:Option Value):Prop
 |skip (bV:mR all s.o st.ak=false) (hk:jn s.k=false) (aI:v=none) (a1:CO st gG)
 |uR (bV:mR all s.o st.ak=false) (hk:jn s.k=true) (aI:v=none) (fo:gG.h=st.h) (bw:gG.U=st.U) (a1:gG.b=st.h) (AP:gG.au=st.b::st.au)
 |fy (bV:mR all s.o st.ak=true) (e:H2) (hk:s.k = .fy e) (aS:Value) (aI:v=some aS) (bK:pC P st.ak e = .ok aS) (a1:CO st gG)
 |ix (bV:mR all s.o st.ak=true) (e:Ec) (hk:s.k = .ix e) (cZ:kX) (bK:C5 st.ak e = .ok cZ) (aI:v=some (wR st.U cZ)) (fo:gG.h=T st.h st.U (sC cZ)) (bw:gG.U=st.U+1) (a1:gG.b=st.b) (AP:gG.au=st.au)
 |red (bV:mR all s.o st.ak=true) (e:G0) (hk:s.k = .red e) (aS:Value) (aI:v=some aS) (bK:pred P st.ak e st.b = .ok aS) (dy:∀k,k<s.vj->∃h,st.au[k]? = some h/\pred P st.ak e h = .ok aS) (a1:CO st gG)
 |fz (bV:mR all s.o st.ak=true) (e:vB) (hk:s.k = .fz e) (aS:Value) (aI:v=some aS) (bK:o7 P false e st.ak st.h st.U (tT aS gG.h gG.U)) (bw:st.U<=gG.U) (a1:gG.b=gG.h) (AP:gG.au=st.b::st.au)
structure Hd (P:Program) (all:ac Oper) (s:eR) (st gG:lX) (v:ay X):Prop where
 ok:acW P all s st gG v
 g:∃g,zd all s.o.guard=some g/\Lq g st.ak
 lT:∀d,hv gG.ak d=if s.o.dst=some d then some v else hv st.ak d
theorem Hd.wv{P:Program}{s:eR}{st N:lX}{v:ay X}(h:Hd P all s st N v):st.U<=N.U:=by
 cases h.ok with
 |skip I C M A=>rw[A.2.1];omega
 |uR I C M fo Z A D=>omega
 |fy I e C E M V A=>rw[A.2.1];omega
 |ix I e C cZ V M fo Z A D=>omega
 |red I e C E M V dy A=>rw[A.2.1];omega
 |fz I e C E M V Z A D=>omega
theorem aj3(ak:ck)(dst:ay Nat)(v:ay X)(d:Nat):hv (eB ak dst v) d=if dst=some d then some v else hv ak d:=by
 cases dst with
 |none=>rfl
 |some t=>show hv ((t,v)::ak) d=_;rw[E6];simp
theorem Qz{f:ae->R X}{v:X}{p:Prop}:∀{n:Nat} {au:ac ae},oW f v p n au->(∀k,k<n->∃h,au[k]? = some h/\f h = .ok v)/\p
 |0,au,h=>⟨λk E=>J,h⟩
 |n+1,[],h=>h.elim
 |n+1,D::au,⟨A,I⟩=>by
  obtain⟨N,M⟩:=Qz I;refine⟨λk E=>?_,M⟩;cases k with
  |zero =>
   refine⟨D,rfl,?_⟩;unfold nv at A;cases C:f D with
   |no w=>rw[C]at A;cases A
   |ok x=>rw[C]at A;rw[Yu A]
  |succ k=>exact N k J
theorem tT.self(v:X)(h:ae)(U:Nat):tT v h U v h U:=⟨rfl,rfl,rfl⟩
section
variable {P:Program}
theorem FI{ak:ck}{U:Nat}{b:ae}{k:ck->ae->Nat->ae->ac ae->Prop}:mZ P d c (.fz e) ak h U b au k=o7 P true e ak h U λv A Y=>U<=Y/\k (eB ak d (some v)) A Y A (b::au):=by
 cases e <;> first|rfl|simp only[mZ,o7,cR,true_and]
def CP(C:bZ->Prop)(C':bZ->Prop)(k:bZ):Prop:=∃v h U,k v h U/\C (tT v h U)/\∀dw,dw v h U->C' dw
theorem acX{C:bZ->Prop}(h:ue true C k):CP C (ue true C) k:=by obtain⟨v,h,U,E,A⟩:=h;exact⟨v,h,U,E,A,λdw D=>⟨v,h,U,D,A⟩⟩
theorem aaH(h:fg P true r k):CP (fg P false r) (fg P true r) k:=by
 cases r <;> first|exact acX h|exact h.elim
theorem QA(h:dm r k):CP (dm r) (dm r) k:=by
 cases r <;> first|exact⟨_,_,_,h,tT.self _ _ _,λ_ h=>h⟩|exact h.elim
theorem QB{ak:ck}{U:Nat}(C:o7 P true e ak h U k):CP (o7 P false e ak h U) (o7 P true e ak h U) k:=by
 have A:∀{aB:Type} {r:R aB} {f:aB->Prop} {g cG:aB->bZ->Prop},af r f->(∀x,f x->CP (g x) (cG x) k)->CP (λk=>af r (λx=>g x k)) (λk=>af r (λx=>cG x k)) k:=λ{aB r f g cG} D ap=>by obtain⟨x,rfl,D⟩:=gf D;exact ap x D
 cases e with
 |st n a x=>exact A C λ_ h=>A h λ_ h=>A h λE h=>⟨_,_,_,h,tT.self _ _ _,λ_ h=>h⟩
 |yL t m k x=>exact A C λ_ h=>A h λ_ h=>A h λ_ h=>A h λE h=>⟨_,_,_,h,tT.self _ _ _,λ_ h=>h⟩
 |ry x=>exact A C λ_ h=>QA h
 |fO x=>exact A (g:=λx k=>vk false h U x k) (cG:=λx k=>vk true h U x k) C λ_ h=>by obtain⟨_,_,_,_,_,_,_,h,_⟩:=h;cases h
 |call f args=>exact A C λ_ h=>acX h
 |Af f args=>exact A C λ_ h=>A h λ_ h=>aaH h
 |app z x y=>exact A C λ_ h=>A h λ_ h=>QA h
 |bi b I args=>exact A C λ_ h=>QA h
 |inv r m args=>exact A C λ_ h=>A h λ_ h=>aaH h
theorem ae1{all:ac Oper}{K:ck->ae->Nat->Prop}:∀(bQ:ac eR) (is:ac lV) (st:lX),F7 all bQ=some is->im P is st.ak st.h st.U st.b st.au K ->
  ∃(bv:Nat->lX) (val:Nat->ay X),(tB st.ak (bv 0).ak/\CO st (bv 0))/\(∀j s,bQ[j]? = some s->Hd P all s (bv j) (bv (j+1)) (val j))/\K (bv bQ.length).ak (bv bQ.length).h (bv bQ.length).U
 | [],is,st,a5,h=>by cases a5;exact⟨λ_=>st,λ_=>none,⟨λ_=>rfl,rfl,rfl,rfl,rfl⟩,λj s cb=>by simp at cb,h⟩
 |s::bQ,is,st,a5,h=>by
  simp only[F7,jO,ma]at a5;obtain⟨g,bd,I,Ha,rfl⟩:=a5;have h:mB g st.ak (λak=>mZ P s.o.dst s.vj s.k ak st.h st.U st.b st.au λak h U b au=>im P I ak h U b au K)
   (λak=>Bool.rec (im P I (eB ak s.o.dst none) st.h st.U st.b st.au K) (im P I (eB ak s.o.dst none) st.h st.U st.h (st.b::st.au) K) (jn s.k)):=h
  obtain⟨Hb,ak,Z,oQ⟩:=ae0 h;have ayI:Lq g ak:=λd w e=>by rw[Z d];exact Hb d w e
  have Ls:u2 g ak=u2 g st.ak:=by unfold u2;split <;> simp[Z _]
  have go:∀(E:lX) (v:ay X),im P I E.ak E.h E.U E.b E.au K->(∀D,CO E D->acW P all s ⟨ak,st.h,st.U,st.b,st.au⟩ D v)->E.ak=eB ak s.o.dst v ->
    ∃(bv:Nat->lX) (val:Nat->ay X),(tB st.ak (bv 0).ak/\CO st (bv 0))/\(∀j t,(s::bQ)[j]? = some t->Hd P all t (bv j) (bv (j+1)) (val j))/\K (bv (s::bQ).length).ak (bv (s::bQ).length).h (bv (s::bQ).length).U:=by
   intro E v ab au oh;obtain⟨bv,val,⟨aq,SY⟩,h1,ap⟩:=ae1 bQ I E Ha ab;refine⟨λj=>match j with|0=>⟨ak,st.h,st.U,st.b,st.au⟩|j+1=>bv j,λj=>match j with|0=>v|j+1=>val j,⟨Z,rfl,rfl,rfl,rfl⟩,λj t cb=>?_,ap⟩;cases j with
   |zero =>
    simp at cb;subst cb;exact⟨au _ SY,⟨g,bd,ayI⟩,λd=>by show hv (bv 0).ak d=_;rw[aq d,oh,aj3]⟩
   |succ j=>exact h1 j t aa
  have bV:mR all s.o ak=u2 g st.ak:=by unfold mR;rw[bd];exact Ls
  rcases oQ with⟨a1,h⟩|⟨a1,h⟩ <;> rw[a1]at bV
  ·cases M:s.k with
   |fy e =>
    rw[M]at h;have h:af (pC P ak e) λv=>im P I (eB ak s.o.dst (some v)) st.h st.U st.b st.au K:=by
     cases e <;> first|exact h|skip
     obtain⟨c,h1,N⟩:=gf h;obtain⟨a,ap,N⟩:=gf N;obtain⟨b,aH,N⟩:=gf N;simp only[pC,h1,ap,aH,R.bind];rcases tr N with⟨rfl,N⟩|⟨rfl,N⟩ <;> exact N
    obtain⟨C,V,h⟩:=gf h;exact go ⟨eB ak s.o.dst (some C),st.h,st.U,st.b,st.au⟩ (some C) h (λD A=>.fy bV e M C rfl V A) rfl
   |ix e =>
    rw[M]at h;obtain⟨cZ,V,h⟩:=gf h;exact go ⟨eB ak s.o.dst (some (wR st.U cZ)),T st.h st.U (sC cZ),st.U+1,st.b,st.au⟩ _ h (λD A=>.ix bV e M cZ V rfl A.1 A.2.1 A.2.2.1 A.2.2.2) rfl
   |red e =>
    rw[M]at h;obtain⟨C,V,h⟩:=gf h;have h:oW (pred P ak e) C (im P I (eB ak s.o.dst (some C)) st.h st.U st.b st.au K) s.vj st.au:=by cases a5:s.vj <;> rw[a5]at h <;> exact h
    obtain⟨dy,h⟩:=Qz h;exact go ⟨eB ak s.o.dst (some C),st.h,st.U,st.b,st.au⟩ (some C) h (λD A=>.red bV e M C rfl V dy A) rfl
   |fz e =>
    rw[M]at h;rw[FI]at h;obtain⟨C,ab,Y,⟨bw,h⟩,V,_⟩:=QB h;refine go ⟨eB ak s.o.dst (some C),ab,Y,ab,st.b::st.au⟩ (some C) h (λD A=>.fz bV e M C rfl ?_ ?_ ?_ A.2.2.2) rfl
    ·rw[A.1,A.2.1];exact V
    ·rw[A.2.1];exact bw
    ·rw[A.2.2.1,A.1]
  ·cases M:jn s.k with
   |false =>
    rw[M]at h;exact go ⟨eB ak s.o.dst none,st.h,st.U,st.b,st.au⟩ none h (λD A=>.skip bV M rfl A) rfl
   |true =>
    rw[M]at h;exact go ⟨eB ak s.o.dst none,st.h,st.U,st.h,st.b::st.au⟩ none h (λD A=>.uR bV M rfl A.1 A.2.1 A.2.2.1 A.2.2.2) rfl
end
def cut(ai:cc)(n:Nat):cc:=λb=>if b<n then ai b else none
theorem oM{ai:cc}(h:b<n):cut ai n b=ai b:=by simp[cut,h]
theorem pr{ai:cc}(h:n<=b):cut ai n b=none:=by simp[cut,Nat.not_lt.2 h]
theorem QC(ai:cc)(n:Nat):jY (cut ai n) n:=λb h=>pr h
theorem Po(ai:cc)(h:n<=m):Sub (cut ai n) (cut ai m):=λb p A=>by
 by_cases C:b<n
 ·rw[oM C]at A;rw[oM J];omega
 ·rw[pr J]at A;grind
theorem aqh(ai:cc)(h:jY ai n):cut ai n=ai:=funext λb=>by
 by_cases A:b<n
 ·exact oM A
 ·rw[pr J,h b J]
structure oi (P:Program) (a8:Array Oper) (bQ:ac eR) (bv:Nat->lX) (val:Nat->ay X):Prop where
 k9:tC P a8.toList bQ
 iD:∀(j:Nat) (s:eR),bQ[j]? = some s->Hd P a8.toList s (bv j) (bv (j+1)) (val j)
def hY(cD:Array ao)(i:Nat):Prop:=cD.getD i false=true
structure r2 (a8:Array Oper) (cD:Array ao):Prop where
 size:cD.size=a8.size
 closed:∀(j:Nat) (o:Oper) (e:Edge),hY cD j->a8.toList[j]? = some o->e∈o.after->Region.binds .any e=true->hY cD e.on
theorem qo:hY (cD.setIfInBounds i true) j↔(j=i/\i<cD.size)\/hY cD j:=by
 unfold hY
 by_cases e:j=i
 ·subst e
  by_cases A:j<cD.size
  ·simp[qh,zq,A]
  grind
 ·simp[qh,zq,kt e,e]
section
variable {P:Program} {a8:Array Oper} {bQ:ac eR} {bv:Nat->lX} {val:Nat->ay X}
theorem oi.wv(R:oi P a8 bQ bv val){i:Nat}:∀{j:Nat},i<=j->j<=bQ.length->(bv i).U<=(bv j).U
 |0,h,_=>aa
 |j+1,h,A=>by
  by_cases e:i=j+1
  ·grind
  ·have au:bQ[j]? = some (bQ[j]'J):=aa
   exact hJ (R.wv J J) (R.iD j _ au).wv
theorem tC.ne(R:tC P a8.toList bQ){s:eR}(M:bQ[p]? = some s)(I:bQ[q]? = some t)(h:p≠q):s.i≠t.i:=by
 have D:∀(p q:Nat) (s t:eR),p<q->bQ[p]? = some s->bQ[q]? = some t->s.i≠t.i:=λp q s t A au C=>by
  have:=R.pair p q s t A au C;unfold z0 at this;simp only[eA]at this;have E:=this.1.1.1;intro e;rw[e,uB]at E
  grind
 grind
theorem tC.apart(R:tC P a8.toList bQ){s:eR}(A:p<q)(au:bQ[p]? = some s)(C:bQ[q]? = some t):
  kx (kg a8.toList) t.i s.i=true\/((∀d,s.o.dst=some d->d ∉ n0 a8.toList t.o)/\∀d,t.o.dst=some d->d ∉ n0 a8.toList s.o):=by
 have:=R.pair p q s t A au C;unfold z0 at this;simp only[eA]at this;have D:=this.2;rw[ja,ja,(R.step p s au).1,(R.step q t C).1]at D
 grind
theorem tC.fz(R:tC P a8.toList bQ){s:eR}(A:p<q)(au:bQ[p]? = some s)(C:bQ[q]? = some t)(E:jn t.k=true):kx (kg a8.toList) t.i s.i=true:=by
 have:=R.pair p q s t A au C;unfold z0 at this;simp only[eA]at this;have D:=R.step q t C;have I:sm P a8.toList t.i=true:=by unfold sm;rw[ja,D.1];simp only[EH,IQ,Gt];rw[D.2.1];exact E
 grind
theorem tC.after(R:tC P a8.toList bQ){s:eR}(A:p<q)(au:bQ[p]? = some s)(C:bQ[q]? = some t):kx (kg a8.toList) s.i t.i=false:=by
 have:=R.pair p q s t A au C;unfold z0 at this
 grind
theorem r2.ahead(A:r2 a8 cD)(E:hY cD j)(C:kx (kg a8.toList) j i=true):hY cD i :=
 Wy  A.closed j (λo e I D M=>A.closed j o e E I D M) i C
theorem r2.NK(M:r2 a8 cD)(I:j∈Region.ready .any a8 cD)(D:kx (kg a8.toList) j i=true):hY cD i:=by
 obtain⟨_,o,V,A⟩:=mem_ready.1 I;refine Wy  M.closed j (λZ e C E N=>?_) i D;have:a8.toList[j]? = some o:=aa
 rw[this]at C;cases C;exact A e E N
theorem r2.set(I:r2 a8 cD)(aj:i∈Region.ready .any a8 cD):r2 a8 (cD.setIfInBounds i true):=by
 obtain⟨_,o,V,A⟩:=mem_ready.1 aj;refine⟨by simpa using I.size,λj N e C D E M=>?_⟩;rw[qo]at C ⊢
 right
 rcases C with⟨rfl,_⟩|C
 ·have:a8.toList[j]? = some o:=aa
  rw[this]at D;cases D;exact A e E M
 ·exact I.closed j N e C D E M
def Az(bQ:ac eR)(bv:Nat->lX)(cD:Array ao)(ai:cc)(a:Act):Prop:=∀(j d:Nat),j<=bQ.length ->
 (∀(q:Nat) (s:eR),q<j->bQ[q]? = some s->s.o.dst=some d->hY cD s.i)->(∀(q:Nat) (s:eR),j<=q->bQ[q]? = some s->s.o.dst=some d->¬hY cD s.i) ->
 ∀v,hv (bv j).ak d=some v->bJ (cut ai (bv j).U) (rq v) (a.tmps.getD d undef)
theorem ah3{d:Tmp}(h:o.dst=some d):d∈n0 all o:=by unfold n0;grind
theorem Az.look(R:oi P a8 bQ bv val){ai:cc}(V:Az bQ bv cD ai a)(N:r2 a8 cD){s:eR}(au:bQ[p]? = some s)(M:s.i∈Region.ready .any a8 cD){d:Nat}(bs:d∈n0 a8.toList s.o):∀v,hv (bv p).ak d=some v->bJ (cut ai (bv p).U) (rq v) (a.tmps.getD d undef):=by
 have bn:p<bQ.length:=aa
 have D:¬hY cD s.i:=by
  have aq:=(mem_ready.1 M).1;unfold hY
  grind
 refine V p d J (λq t I E A=>?_) (λq t I E A Z=>?_)
 ·rcases R.k9.apart I E au with h|⟨h,_⟩
  ·exact N.NK M h
  ·exact absurd bs aa
 ·rcases iI p q with C|C
  ·rcases R.k9.apart C au E with h|⟨_,h⟩
   ·exact D (N.ahead Z h)
   grind
  grind
theorem Az.step(R:oi P a8 bQ bv val){ai bo:cc}(fe:Az bQ bv cD ai a)(a5:r2 a8 cD)(I:∀m,Sub (cut ai m) (cut bo m)){s:eR}(au:bQ[p]? = some s)(ba:s.i∈Region.ready .any a8 cD){c:X}(aI:bJ (cut bo (bv (p+1)).U) (rq (val p)) c)(Z:∀d,s.o.dst=some d->d<a.tmps.size):
  Az bQ bv (cD.setIfInBounds s.i true) bo (a.put s.o.dst c):=by
 have aA0:s.i<cD.size:=by
  obtain⟨_,o,fd,_⟩:=mem_ready.1 ba
  grind
 have sE:¬hY cD s.i:=by
  have aq:=(mem_ready.1 ba).1;unfold hY
  grind
 intro j d cb a1 bD lB E
 by_cases N:s.o.dst=some d
 ·
  have S3:p<j:=by
   rcases iI p j with h|h
   ·exact h
   ·exact absurd (qo.2 J) (bD p s h au N)
  have D:∀k,p+1+k<=j->hv (bv (p+1+k)).ak d=some (val p):=by
   intro k
   induction k with
   |zero =>
    intro _;rw[show p+1+0=p+1 from rfl,(R.iD p s au).lT d,if_pos N]
   |succ k fb =>
    intro hk;have C:bQ[p+1+k]? = some (bQ[p+1+k]'J):=aa
    generalize bQ[p+1+k]'J=t at C;have fk:t.o.dst≠some d:=λV=>by
     have M:=a1 (p+1+k) t J C V;rw[qo]at M;rcases M with⟨h,_⟩|M
     ·exact R.k9.ne C au J h
     ·rcases R.k9.apart J au C with h|⟨h,_⟩
      ·exact sE (a5.ahead M h)
      ·exact h d N (ah3 V)
    rw[show p+1+(k+1)=p+1+k+1 by omega,(R.iD _ t C).lT d,if_neg fk];exact fb J
  have htg:hv (bv j).ak d=some (val p):=by have:=D (j-(p+1)) J;rwa[show p+1+(j-(p+1))=j by omega]at this
  rw[htg]at E;cases E;have u:(a.put s.o.dst c).tmps.getD d undef=c:=by have:=Z d N;simp[Act.put,N,qh,zq,this]
  rw[u];exact aI.mono (Po bo (R.wv J cb))
 ·have u:(a.put s.o.dst c).tmps.getD d undef=a.tmps.getD d undef:=by
   cases Lt:s.o.dst with
   |none=>rfl
   |some H6 =>
    have:H6≠d:=aa
    simp[Act.put,qh,zq,this]
  rw[u];refine(fe j d cb (λq t C cK A=>?_) (λq t C cK A M=>?_) lB E).mono (I _)
  ·have:=a1 q t C cK A;rw[qo]at this;rcases this with⟨h,_⟩|h
   ·exfalso;have:q=p:=by
     rcases Nat.decEq q p with ab | ab
     ·exact absurd h (R.k9.ne cK au ab)
     omega
    grind
   ·exact h
  ·exact bD q t C cK A (qo.2 aa)
end
theorem ec.YC{B:Nat}{ai:cc}{H:fm}{w:World}(D:ec B ai H w){k:Nat}(h:wE B ai H k):k<w.heap.size:=by obtain⟨b,p,C,au,rfl,_⟩:=h;obtain⟨x,A⟩:=lI.1 au;exact(D.obj b p x C A).Cw
section
variable {P:Program} {a8:Array Oper} {bQ:ac eR} {bv:Nat->lX} {val:Nat->ay X}
structure ka (P:Program) (a8:Array Oper) (bQ:ac eR) (bv:Nat->lX) (cD:Array ao) (p:Nat) (s:eR) (cZ:kX):Prop where
 at_:bQ[p]? = some s
 AQ:hY cD s.i
 want:mR a8.toList s.o (bv p).ak=true
 ok:∃e,s.k = .ix e/\C5 (bv p).ak e = .ok cZ
theorem ka.lC{s:eR}(h:ka P a8 bQ bv cD p s cZ):jn s.k=false/\∃e,s.k = .ix e:=by obtain⟨e,A,_⟩:=h.ok;exact⟨by rw[A];rfl,e,A⟩
theorem ka.next(R:oi P a8 bQ bv val){s:eR}(h:ka P a8 bQ bv cD p s cZ):(bv (p+1)).U=(bv p).U+1/\(bv (p+1)).h=T (bv p).h (bv p).U (sC cZ)/\(bv (p+1)).b=(bv p).b:=by
 have bV:=h.want;obtain⟨e,I,fd⟩:=h.ok;cases(R.iD p s h.at_).ok with
 |skip D _ _ _=>grind
 |uR D _ _ _ _ _ _=>grind
 |fy _ C A _ _ _ _=>grind
 |red _ C A _ _ _ _ _=>grind
 |fz _ C A _ _ _ _ _ _=>grind
 |ix _ C A V E aI Z bw M N =>
  rw[I]at A;cases A;rw[fd]at E;cases E;exact⟨bw,Z,M⟩
theorem ka.lt{s:eR}(h:ka P a8 bQ bv cD p s cZ):p<bQ.length:=(g0.1 h.at_).1
theorem ka.ae2(R:oi P a8 bQ bv val){s:eR}(h:ka P a8 bQ bv cD p s cZ)(C:q<bQ.length)(A:p<q):(bv p).U<(bv q).U:=by have D:=(h.next R).1;have:=R.wv (J:p+1<=q) J;omega
structure lu (P:Program) (a8:Array Oper) (bQ:ac eR) (bv:Nat->lX) (B:Nat) (iA:cc) (gb:World) (cD:Array ao) (c:Nat) (ai:cc) (w:World):Prop where
 le:c<=bQ.length
 done:∀(q:Nat) (s:eR),q<c->bQ[q]? = some s->hY cD s.i
 h6:cC B iA (u (bv 0).h) gb (bv 0).U (bv c).U (cut ai (bv c).U) (u (bv c).h) w
 sub:∀(x:Nat) (o:gm),u (bv c).b x=some o->u (bv c).h x=some o
 ext:∀(p:Nat) (s:eR) (cZ:kX),c<=p->ka P a8 bQ bv cD p s cZ->∃pl,ai (bv p).U=some pl/\k8 B (cut ai ((bv p).U+1)) w pl (sC cZ)/\gb.heap.size<=pl.ct/\pl.ct<w.heap.size/\¬wE B (cut ai (bv c).U) (u (bv c).h) pl.ct
 oY:∀(p q:Nat) (s t:eR) (cZ nb':kX) (pl AR:Place),c<=p->c<=q->ka P a8 bQ bv cD p s cZ->ka P a8 bQ bv cD q t nb'->p≠q->ai (bv p).U=some pl->ai (bv q).U=some AR->pl.ct≠AR.ct
 yD:∀(b:Nat) (pl:Place),ai b=some pl->b<(bv c).U\/∃p s cZ,c<=p/\ka P a8 bQ bv cD p s cZ/\b=(bv p).U
theorem cC.aws{B:Nat}{ai bo:cc}{H:fm}{w:World}(A:cC B iA r1 gb al aj ai H w){o:gm}(bw:ai aj=none)(hρ:bo=λk=>if k=aj then some pl else ai k)(aA1:iA aj=none\/al<=aj)(Z:k8 B bo w pl o)(a1:gb.heap.size<=pl.ct)(N:¬wE B ai H pl.ct):cC B iA r1 gb al (aj+1) bo (H.put aj o) w:=by
 subst hρ;have M:Sub ai (λk=>if k=aj then some pl else ai k):=λb q E=>aa
 have C:∀b q,b≠aj->(if b=aj then some pl else ai b)=some q->ai b=some q:=aa
 have rE:∀b,b≠aj->((H.put aj o) b).isSome->(H b).isSome:=λb e h=>by simpa[fm.put,e]using h
 refine⟨⟨A.rel.base,?_,?_,?_⟩,λb h4=>?_,A.size,A.os,A.tape,A.output,A.frame,?_,by have:=A.le;omega⟩
 ·intro b q x E aX
  by_cases e:b=aj
  ·subst e;simp[fm.put]at E aX;subst E;subst aX;exact Z
  ·have D:=C b q e E;have tR:H b=some x:=by simpa[fm.put,e]using aX
   exact(A.rel.obj b q x D tR).mono M rfl
 ·intro b cr q kG E D au ls V I
  by_cases e:b=aj <;> by_cases ew:cr=aj
  ·omega
  ·subst e;simp at E;subst E;exact absurd ⟨cr,kG,aa,aa,I.symm,V⟩ N
  ·subst ew;simp at D;subst D;exact absurd ⟨b,q,aa,aa,I,J⟩ N
  ·exact A.rel.inj b cr q kG aa aa aa aa V I
 ·intro b au
  by_cases e:b=aj
  ·grind
  ·simp only[e,ff];exact A.rel.kS b aa
 ·have dx:=A.le;have e:b≠aj:=J
  simp only[e,ff];exact A.agree b J
 ·rintro k ⟨b,q,E,au,rfl,V⟩
  by_cases e:b=aj
  ·grind
  ·exact A.own _ ⟨b,q,aa,aa,rfl,V⟩
theorem lu.at6(R:oi P a8 bQ bv val){B:Nat}{ai:cc}{w:World}(M:lu P a8 bQ bv B iA gb cD c ai w){s:eR}(au:bQ[c]? = some s)(br:hY cD s.i)(hk:jn s.k=false\/mR a8.toList s.o (bv c).ak=false):lu P a8 bQ bv B iA gb cD (c+1) ai w:=by
 have cS:c<bQ.length:=aa
 have V:∀(q:Nat) (t:eR),q<c+1->bQ[q]? = some t->hY cD t.i:=λq t di cK=>by
  rcases iI q c with h|h
  ·exact M.done q t h cK
  ·have:q=c:=J
   subst this;rw[au]at cK;cases cK;exact br
 have quiet:(∀cZ,¬ka P a8 bQ bv cD c s cZ)->(bv (c+1)).h=(bv c).h->(bv (c+1)).U=(bv c).U->((bv (c+1)).b=(bv c).b\/(bv (c+1)).b=(bv c).h)->lu P a8 bQ bv B iA gb cD (c+1) ai w:=by
  intro hna fo Z A;refine⟨cS,V,by rw[fo,Z];exact M.h6,?_,?_,?_,?_⟩
  ·rw[fo];rcases A with A|A
   ·rw[A];exact M.sub
   grind
  ·intro p t cZ bn D;rw[fo,Z];exact M.ext p t cZ J D
  ·intro p q t mE cZ N pl E bn di;exact M.oY p q t mE cZ N pl E J J
  ·intro b pl h4;rw[Z];rcases M.yD b pl h4 with h|⟨p,t,cZ,bn,D,bK⟩
   ·omega
   ·right
    refine⟨p,t,cZ,?_,D,bK⟩;rcases iI c p with h|h
    ·exact h
    ·have:p=c:=J
     subst this;have:=D.at_
     grind
 cases(R.iD c s au).ok with
 |skip I C aI A=>exact quiet (λcZ D=>by rw[D.want]at I;cases I) A.1 A.2.1 (.inl A.2.2.1)
 |uR I C aI fo Z A AP=>exact quiet (λcZ D=>by rw[D.want]at I;cases I) fo Z (.inr A)
 |fy I e C aS aI bK A=>exact quiet (λcZ D=>by obtain⟨_,ew,h⟩:=D.lC;rw[C]at h;cases h) A.1 A.2.1 (.inl A.2.2.1)
 |red I e C aS aI bK Dv A=>exact quiet (λcZ D=>by obtain⟨_,ew,h⟩:=D.lC;rw[C]at h;cases h) A.1 A.2.1 (.inl A.2.2.1)
 |fz I e C aS aI bK Z A AP =>
  rcases hk with hk|hk
  ·rw[C]at hk;cases hk
  ·rw[I]at hk;cases hk
 |ix I e C cZ bK aI fo Z A AP =>
  have D:ka P a8 bQ bv cD c s cZ:=⟨au,br,I,e,C,bK⟩
  obtain⟨pl,h1,ap,aH,bh,b0⟩:=M.ext c s cZ J D;have Da:cut ai ((bv c).U+1)=λk=>if k=(bv c).U then some pl else cut ai (bv c).U k:=by
   funext k
   by_cases e:k=(bv c).U
   ·subst e;rw[if_pos rfl,oM J,h1]
   ·rw[if_neg e]
    by_cases RY:k<(bv c).U
    ·rw[oM RY,oM J]
    ·rw[pr J,pr J]
  have kA:=cC.aws M.h6   (pr J) Da (.inr M.h6.le) ap aH b0;have aAR:u (bv c).h (bv c).U=none:=by
   cases bd:u (bv c).h (bv c).U with
   |none=>rfl
   |some x =>
    have:=M.h6.rel.kS (bv c).U aa;rw[pr J]at this;grind
  refine⟨cS,V,by rw[fo,Z,uM];exact kA,?_,?_,?_,?_⟩
  ·intro x o aX;rw[A]at aX;rw[fo,vX];have:=M.sub x o aX
   grind
  ·intro p t N bn Dv;obtain⟨E,bP,g2,dz,dO,ho⟩:=M.ext p t N J Dv;refine⟨E,bP,g2,dz,dO,?_⟩;rw[fo,Z,uM];rintro⟨b,q,di,ls,Dw,er⟩;rw[Da]at di
   by_cases e:b=(bv c).U
   ·subst e;simp at di;subst di;exact M.oY c p s t cZ N pl E J J D Dv J h1 bP Dw
   ·refine ho ⟨b,q,aa,by simpa[fm.put,e]using ls,Dw,er⟩
  ·intro p q t mE Lu vr Lv Lw bn di;exact M.oY p q t mE Lu vr Lv Lw J J
  ·intro b E h4;rw[Z];rcases M.yD b E h4 with h|⟨p,t,N,bn,Dv,he'⟩
   all_goals grind
theorem lu.advance(R:oi P a8 bQ bv val){B:Nat}{iA ai:cc}{gb w:World}{cD:Array ao}:∀(k c:Nat),bQ.length-c<=k->lu P a8 bQ bv B iA gb cD c ai w ->
  (∀(p:Nat) (s:eR),c<=p->bQ[p]? = some s->hY cD s.i->jn s.k=false\/mR a8.toList s.o (bv p).ak=false) ->
   ∃A,lu P a8 bQ bv B iA gb cD A ai w/\∀s,bQ[A]? = some s->¬hY cD s.i
 |0,c,D,M,_=>⟨c,M,aa⟩
 |k+1,c,D,M,E=>by
  cases au:bQ[c]? with
  |none=>exact⟨c,M,aa⟩
  |some s =>
   by_cases C:hY cD s.i
   ·exact lu.advance R k (c+1) J (M.at6 R au C aa) aa
   ·exact⟨c,M,aa⟩
end
section
variable {P:Program} {a8:Array Oper} {bQ:ac eR} {bv:Nat->lX} {val:Nat->ay X}
theorem NY(aj:i<cD.size):cD.getD i true=false↔¬hY cD i:=by
 unfold hY
 grind
theorem amv(R:oi P a8 bQ bv val)(a5:r2 a8 cD)(bs:∀(q:Nat) (s:eR),q<c->bQ[q]? = some s->hY cD s.i)(bw:∀s,bQ[c]? = some s->¬hY cD s.i)(ba:Region.ready .any a8 cD=[])(Z:c<=bQ.length):c=bQ.length:=by
 rcases iI c bQ.length with A|h
 ·exfalso;have au:bQ[c]? = some (bQ[c]'A):=aa
  generalize bQ[c]'A=s at au;have E:=bw s au;have fd:a8[s.i]? = some s.o:=by simpa using(R.k9.step c s au).1
  have aj:s.i<a8.size:=aa
  have:s.i∈Region.ready .any a8 cD:=by
   refine mem_ready.2 ⟨(NY (by rw[a5.size];omega)).2 E,s.o,fd,λe N M=>?_⟩;have C:a8.toList[s.i]? = some s.o:=aa
   have V:=R.k9.inside s.i s.o e C N M;obtain⟨q,t,I,D⟩:=R.k9.cover e.on aa;rcases zA q c with h|h|h
   ·have:=bs q t h I;rw[D]at this;exact this
   ·grind
   ·have h1:=R.k9.after h au I;have ap:=amt C N M
    grind
  grind
 omega
def left(a8:Array Oper)(cD:Array ao):Nat:=((List.range a8.size).filter λi=>!cD.getD i false).length
theorem YD(D:cD.size=a8.size)(aj:i<a8.size)(A:¬hY cD i):left a8 (cD.setIfInBounds i true)+1<=left a8 cD:=by
 unfold left;have C:∀(l:ac Nat),((l.filter λk=>!(cD.setIfInBounds i true).getD k false).length<=(l.filter λk=>!cD.getD k false).length) /\
   (i∈l->(l.filter λk=>!(cD.setIfInBounds i true).getD k false).length+1<=(l.filter λk=>!cD.getD k false).length):=by
  intro l
  induction l with
  |nil=>grind
  |cons x M I =>
   by_cases e:x=i
   ·subst e;have E:(cD.setIfInBounds x true).getD x false=true:=by have:hY (cD.setIfInBounds x true) x:=qo.2 J;exact this
    have N:cD.getD x false=false:=by simpa[hY]using A
    grind
   ·have E:(cD.setIfInBounds i true).getD x false=cD.getD x false:=by simp[qh,zq,kt e]
    grind
 grind
end
section
variable {P:Program} {a8:Array Oper} {bQ:ac eR} {bv:Nat->lX} {val:Nat->ay X}
theorem ka.set(R:oi P a8 bQ bv val){s:eR}(au:bQ[p]? = some s)(h:ka P a8 bQ bv (cD.setIfInBounds s.i true) q t cZ):q=p\/ka P a8 bQ bv cD q t cZ:=by
 rcases Nat.decEq q p with A|C
 ·right
  refine⟨h.at_,?_,h.want,h.ok⟩;have:=h.AQ;rw[qo]at this;rcases this with⟨e,_⟩|this
  ·exact absurd e (R.k9.ne h.at_ au A)
  ·exact this
 omega
theorem ka.up(h:ka P a8 bQ bv cD q t cZ):ka P a8 bQ bv (cD.setIfInBounds i true) q t cZ :=
 ⟨h.at_,qo.2 (.inr h.AQ),h.want,h.ok⟩
theorem lu.quiet(R:oi P a8 bQ bv val){B:Nat}{ai:cc}{w:World}(M:lu P a8 bQ bv B iA gb cD c ai w){s:eR}(au:bQ[p]? = some s)(A:mR a8.toList s.o (bv p).ak=false\/∀e,s.k≠.ix e):lu P a8 bQ bv B iA gb (cD.setIfInBounds s.i true) c ai w:=by
 have back:∀{q:Nat} {t:eR} {cZ:kX},ka P a8 bQ bv (cD.setIfInBounds s.i true) q t cZ->ka P a8 bQ bv cD q t cZ:=λ{q t cZ} h=>by
  rcases h.set R au with e|ab
  ·subst e;have:=h.at_;rw[au]at this;cases this;rcases A with A|A
   ·have:=h.want;rw[A]at this;cases this
   ·obtain⟨_,e,bK⟩:=h.lC;exact absurd bK (A e)
  ·exact ab
 refine⟨M.le,λq t C cK=>qo.2 (.inr (M.done q t C cK)),M.h6,M.sub,λq t cZ C Z=>M.ext q t cZ C (back Z),λeH q t mE cZ E pl I N D V bh=>M.oY eH q t mE cZ E pl I N D (back V) (back bh),λb pl a1=>?_⟩;rcases M.yD b pl a1 with h|⟨q,t,cZ,N,D,V⟩
 ·omega
 ·exact .inr ⟨q,t,cZ,N,D.up,V⟩
theorem cC.grown{B:Nat}{ai:cc}{H:fm}{w bc:World}(A:cC B iA r1 gb al aj ai H w){o:Obj}(C:Made w bc o):cC B iA r1 gb al aj ai H bc where
 rel:=A.rel.world (by rw[C.size];omega) λb p E au=>by obtain⟨x,I⟩:=lI.1 au;exact C.dZ _ (A.rel.obj b p x E I).Cw
 agree:=A.agree
 size:=by have:=A.size;rw[C.size];omega
 os:=C.os.trans A.os
 tape:=A.tape.trans C.tape
 output:=C.output.trans A.output
 frame:=λk D M=>by rw[C.dZ k (by have:=A.size;omega)];exact A.frame k D M
 own:=A.own
 le:=A.le
end
section
variable {P:Program} {a8:Array Oper} {bQ:ac eR} {bv:Nat->lX} {val:Nat->ay X}
theorem lu.alloc(R:oi P a8 bQ bv val){B:Nat}{ai:cc}{w bc:World}(M:lu P a8 bQ bv B iA gb cD c ai w){s:eR}(bn:c<=p)(au:bQ[p]? = some s)(sE:¬hY cD s.i)(aj:s.i<cD.size)(bV:mR a8.toList s.o (bv p).ak=true){e:Ec}(hk:s.k = .ix e)(js:C5 (bv p).ak e = .ok cZ){dC:Obj}(Z:pl.ct=w.heap.size)(wX:wG (cut ai (bv p).U) cZ dC pl)(bx:Made w bc dC):
  ∃bo:cc,lu P a8 bQ bv B iA gb (cD.setIfInBounds s.i true) c bo bc/\bJ (cut bo ((bv p).U+1)) (wR (bv p).U cZ) (SS cZ w.heap.size pl.spare)/\∀m,Sub (cut ai m) (cut bo m):=by
 have agy:p<bQ.length:=aa
 have aR:ka P a8 bQ bv (cD.setIfInBounds s.i true) p s cZ:=⟨au,qo.2 J,bV,e,hk,js⟩
 have Dx:(bv c).U<=(bv p).U:=R.wv bn J;have aAS:ai (bv p).U=none:=by
  cases A:ai (bv p).U with
  |none=>rfl
  |some q =>
   rcases M.yD _ q A with h|⟨r,t,E,h1,ap,aH⟩
   ·omega
   ·exfalso;rcases zA r p with h|h|h
    ·have:=ap.ae2 R agy h;omega
    ·subst h;have:=ap.at_;rw[au]at this;cases this;exact sE ap.AQ
    ·have:=aR.ae2 R ap.lt h;omega
 let bo:cc:=λk=>if k=(bv p).U then some pl else ai k
 have C:∀m,Sub (cut ai m) (cut bo m):=λm b q A=>by
  by_cases Dy:b<m
  ·rw[oM Dy]at A;rw[oM Dy]
   grind
  ·rw[pr J]at A;grind
 have awt:cut bo (bv c).U=cut ai (bv c).U:=funext λb=>by
  by_cases A:b<(bv c).U
  ·rw[oM A,oM A]
   grind
  ·rw[pr J,pr J]
 have V:cut bo ((bv p).U+1)=λk=>if k=(bv p).U then some pl else cut ai (bv p).U k:=funext λb=>by
  by_cases e:b=(bv p).U
  ·subst e;rw[oM J];grind
  ·by_cases A:b<(bv p).U
   ·rw[oM J];simp[bo,e,oM A]
   ·rw[pr J];simp[e,pr (Nat.le_of_not_lt A)]
 have D:ec B (cut ai (bv p).U) (λ_=>none) w:={
  base:=M.h6.rel.base
  obj:=λb q o _ h=>by cases h
  inj:=aa
  kS:=aa }
 obtain⟨h1,ap⟩:=Lk.step D (pr (cR _)) Z wX bx;rw[<-V]at h1 ap;have ayJ:k8 B (cut bo ((bv p).U+1)) bc pl (sC cZ):=by
  refine h1.rel.obj (bv p).U pl (sC cZ) ?_ (by simp[fm.put])
  grind
 have qH:¬wE B (cut ai (bv c).U) (u (bv c).h) pl.ct:=λfd=>by have:=M.h6.rel.YC fd;omega
 refine⟨bo,⟨M.le,λq t di cK=>qo.2 (.inr (M.done q t di cK)),by rw[awt];exact M.h6.grown bx,M.sub,?_,?_,?_⟩,ap,C⟩
 ·intro q t E di dy;rcases dy.set R au with e|Dv
  ·subst e;have:=dy.at_;rw[au]at this;cases this;obtain⟨ew,tQ,this⟩:=dy.ok;rw[hk]at tQ;cases tQ;rw[js]at this;cases this;exact⟨pl,aa,ayJ,by rw[Z];exact M.h6.size,by rw[Z,bx.size];omega,aa⟩
  ·obtain⟨AR,bP,g2,dz,dO,ho⟩:=M.ext q t E di Dv;refine⟨AR,aa,g2.mono (C _) (bx.dZ _ dO),dz,by rw[bx.size];omega,aa⟩
 ·intro q r t mE I N Lv Lw di ba Lx S4 fk qI kh;rcases Lx.set R au with aW|oZ <;> rcases S4.set R au with aP|Dz
  ·omega
  ·subst aW;obtain⟨AR,bP,_,_,dO,_⟩:=M.ext r mE N ba Dz
   grind
  ·subst aP;obtain⟨AR,bP,_,_,dO,_⟩:=M.ext q t I di oZ
   grind
  ·obtain⟨_,bP,_⟩:=M.ext q t I di oZ;obtain⟨_,g2,_⟩:=M.ext r mE N ba Dz;exact M.oY q r t mE I N Lv Lw di ba oZ Dz fk aa aa
 ·intro b q A
  by_cases e:b=(bv p).U
  ·grind
  ·have A:ai b=some q:=aa
   rcases M.yD b q A with h|⟨r,t,E,bP,g2,dz⟩
   ·omega
   ·exact .inr ⟨r,t,E,bP,g2.up,dz⟩
end
section
variable {P:Program} {a8:Array Oper} {bQ:ac eR} {bv:Nat->lX} {val:Nat->ay X}
theorem lu.fz(R:oi P a8 bQ bv val){B:Nat}{iA ai:cc}{gb w bc:World}{cD:Array ao}{c:Nat}(M:lu P a8 bQ bv B iA gb cD c ai w){s:eR}(au:bQ[c]? = some s)(aj:s.i<cD.size){e:vB}(hk:s.k = .fz e)
  (bV:mR a8.toList s.o (bv c).ak=true) (sE:¬hY cD s.i) {bo:cc} (bx:cC B (cut ai (bv c).U) (u (bv c).h) w (bv c).U (bv (c+1)).U bo (u (bv (c+1)).h) bc):
  ∃Z:cc,lu P a8 bQ bv B iA gb (cD.setIfInBounds s.i true) (c+1) Z bc/\cut Z (bv (c+1)).U=bo/\∀m,Sub (cut ai m) (cut Z m):=by
 have cS:c<bQ.length:=aa
 have n9:jY bo (bv (c+1)).U:=(QC ai (bv c).U).after bx
 let Z:cc:=λb=>if b<(bv (c+1)).U then bo b else ai b
 have AS:cut Z (bv (c+1)).U=bo:=funext λb=>by
  by_cases D:b<(bv (c+1)).U
  ·rw[oM D];grind
  ·rw[pr J,n9 b J]
 have aA2:∀{q:Nat} {t:eR} {cZ:kX},c<=q->ka P a8 bQ bv cD q t cZ->(bv (c+1)).U<=(bv q).U/\c+1<=q:=λ{q t cZ} di dy=>by
  have:q≠c:=by intro e;subst e;have:=dy.at_;rw[au]at this;cases this;exact sE dy.AQ
  exact⟨R.wv J (by have:=dy.lt;omega),J⟩
 have E:∀b q,ai b=some q->Z b=some q:=λb q D=>by
  rcases M.yD b q D with h|⟨r,t,cZ,h1,ap,aH⟩
  ·have:bo b=some q:=by rw[bx.agree b J,oM h];omega
   grind
  grind
 have I:∀m,Sub (cut ai m) (cut Z m):=λm b q D=>by
  by_cases Dy:b<m
  ·rw[oM Dy]at D ⊢;grind
  ·rw[pr J]at D;grind
 have iB:(bv (c+1)).b=(bv (c+1)).h:=by
  cases(R.iD c s au).ok with
  |fz _ _ _ _ _ _ _ D _=>exact D
  |skip C _ _ _=>rw[bV]at C;cases C
  |uR C _ _ _ _ _ _=>rw[bV]at C;cases C
  |fy _ _ A _ _ _ _=>rw[hk]at A;cases A
  |red _ _ A _ _ _ _ _=>rw[hk]at A;cases A
  |ix _ _ A _ _ _ _ _ _ _=>rw[hk]at A;cases A
 have back:∀{q:Nat} {t:eR} {cZ:kX},ka P a8 bQ bv (cD.setIfInBounds s.i true) q t cZ->ka P a8 bQ bv cD q t cZ:=λ{q t cZ} h=>by
  rcases h.set R au with e|ab
  ·subst e;have:=h.at_;rw[au]at this;cases this;have:=h.lC.1;rw[hk]at this;cases this
  ·exact ab
 refine⟨Z,⟨cS,λq t di cK=>?_,by rw[AS];exact M.h6.trans bx,aa,?_,?_,?_⟩,AS,I⟩
 ·rcases iI q c with h|h
  ·exact qo.2 (.inr (M.done q t h cK))
  ·have:q=c:=J
   subst this;rw[au]at cK;cases cK;exact qo.2 J
 ·intro q t cZ di dy;have dy:=back dy;obtain⟨pl,bP,g2,dz,dO,ho⟩:=M.ext q t cZ J dy;refine⟨pl,aa,g2.mono (I _) (bx.frame _ dO ho),dz,IK dO bx.size,?_⟩;rw[AS];intro fd;rcases bx.own _ fd with h|h
  all_goals grind
 ·intro q r t mE Lu vr Lv Lw di ba N V fk qI kh;have N:=back N;have V:=back V;obtain⟨_,bP,_⟩:=M.ext q t Lu J N;obtain⟨_,g2,_⟩:=M.ext r mE vr J V;have aW:=E _ _ bP;have aP:=E _ _ g2;rw[qI]at aW;cases aW;rw[kh]at aP;cases aP;exact M.oY q r t mE Lu vr _ _ J J N V fk bP g2
 ·intro b q D
  by_cases RY:b<(bv (c+1)).U
  ·omega
  ·have D:ai b=some q:=aa
   rcases M.yD b q D with h|⟨r,t,cZ,bP,g2,dz⟩
   ·have:=bx.le;omega
   ·exact .inr ⟨r,t,cZ,aa,g2.up,dz⟩
end
section
variable {P:Program} {a8:Array Oper} {bQ:ac eR} {bv:Nat->lX} {val:Nat->ay X}
def tD(bQ:ac eR)(c p:Nat):Nat:=(((bQ.take p).drop c).filter λs=>jn s.k).length
theorem oi.base(R:oi P a8 bQ bv val){c:Nat}:∀{p:Nat},c<=p->p<=bQ.length->(tD bQ c p=0->(bv p).b=(bv c).b)/\(∀k,tD bQ c p=k+1->(bv p).au[k]? = some (bv c).b)
 |0,h,_=>by
  have:c=0:=J
  subst this;exact⟨aa,λk C=>by simp[tD]at C⟩
 |p+1,h,N=>by
  by_cases e:c=p+1
  ·subst e;exact⟨aa,λk C=>by simp[tD]at C⟩
  ·obtain⟨Z,V⟩:=R.base (c:=c) (p:=p) J J;have au:bQ[p]? = some (bQ[p]'J):=aa
   generalize bQ[p]'J=s at au;have D:tD bQ c (p+1)=tD bQ c p+if jn s.k then 1 else 0:=by
    unfold tD;rw[hq,au,Ix aa,s4,jk]
    grind
   cases C:jn s.k with
   |false =>
    rw[C]at D;have M:(bv (p+1)).b=(bv p).b/\(bv (p+1)).au=(bv p).au:=by
     cases(R.iD p s au).ok with
     |skip _ _ _ I=>exact⟨I.2.2.1,I.2.2.2⟩
     |uR _ A _ _ _ _ _=>rw[C]at A;cases A
     |fy _ _ _ _ _ _ I=>exact⟨I.2.2.1,I.2.2.2⟩
     |red _ _ _ _ _ _ _ I=>exact⟨I.2.2.1,I.2.2.2⟩
     |ix _ _ _ _ _ _ _ _ I E=>exact⟨I,E⟩
     |fz _ _ A _ _ _ _ _ _=>rw[A]at C;cases C
    grind
   |true =>
    rw[C]at D;have E:(bv (p+1)).au=(bv p).b::(bv p).au:=by
     cases(R.iD p s au).ok with
     |skip _ A _ _=>rw[C]at A;cases A
     |uR _ _ _ _ _ _ E=>exact E
     |fy _ _ A _ _ _ _=>rw[A]at C;cases C
     |red _ _ A _ _ _ _ _=>rw[A]at C;cases C
     |ix _ _ A _ _ _ _ _ _ _=>rw[A]at C;cases C
     |fz _ _ _ _ _ _ _ _ E=>exact E
    grind
end
section
variable {P:Program} {a8:Array Oper} {bQ:ac eR} {bv:Nat->lX} {val:Nat->ay X}
theorem aqi(R:tC P a8.toList bQ){s:eR}(au:bQ[p]? = some s)(V:c<=p)(E:∀(q:Nat) (t:eR),c<=q->q<p->bQ[q]? = some t->jn t.k=true->kx (kg a8.toList) s.i t.i=false):tD bQ c p<=s.vj:=by
 rw[(R.step p s au).2.2];unfold Ks tD;rw[List.filter_map,gW];have I:((bQ.take p).drop c).Sublist (bQ.take p):=aa
 have h1:(((bQ.take p).drop c).filter λs=>jn s.k)=((bQ.take p).drop c).filter ((λe=>sm P a8.toList e&&!kx (kg a8.toList) s.i e) ∘ λx=>x.i):=by
  apply IM;intro t Z;obtain⟨k,A⟩:=vO Z;rw[ux,uy]at A
  split at A
  ·rename_i C
   have N:=R.step (c+k) t A;have M:sm P a8.toList t.i=jn t.k:=by
    unfold sm;rw[ja,N.1];simp only[EH,IQ,Gt]
    grind
   simp only[Function.comp,M];cases D:jn t.k with
   |false=>rfl
   |true =>
    rw[E (c+k) t J C A D];rfl
  grind
 grind
end
section
variable {P:Program} {a8:Array Oper} {bQ:ac eR} {bv:Nat->lX} {val:Nat->ay X}
theorem aiQ(R:oi P a8 bQ bv val)(a5:r2 a8 cD){s:eR}(au:bQ[p]? = some s)(I:c<=p)(N:∀t,bQ[c]? = some t->¬hY cD t.i)(ba:s.i∈Region.ready .any a8 cD)(bV:mR a8.toList s.o (bv p).ak=true){e:G0}(M:s.k = .red e):∃D,val p=some D/\pred P (bv p).ak e (bv c).b = .ok D:=by
 have bn:p<bQ.length:=aa
 obtain⟨h1,ap⟩:=R.base I J;have dx:tD bQ c p<=s.vj:=aqi R.k9 au I λq t V hqp cK Z=>by
  cases a1:kx (kg a8.toList) s.i t.i with
  |false=>rfl
  |true =>
   exfalso;have f3:=a5.NK ba a1;rcases iI c q with h|h
   ·have E:bQ[c]? = some (bQ[c]'J):=aa
    exact N _ E (a5.ahead f3 (R.k9.fz h E cK Z))
   grind
 cases(R.iD p s au).ok with
 |skip C _ _ _=>rw[bV]at C;cases C
 |uR C _ _ _ _ _ _=>rw[bV]at C;cases C
 |fy _ _ A _ _ _ _=>rw[M]at A;cases A
 |ix _ _ A _ _ _ _ _ _ _=>rw[M]at A;cases A
 |fz _ _ A _ _ _ _ _ _=>rw[M]at A;cases A
 |red _ ew A D aI bK dy _ =>
  rw[M]at A;cases A;refine⟨D,aI,?_⟩;cases V:tD bQ c p with
  |zero=>rw[<-h1 V];exact bK
  |succ k =>
   obtain⟨fo,bP,g2⟩:=dy k J;rw[ap k V]at bP;cases bP;exact g2
end
theorem ec.up{B:Nat}{ai bo:cc}{H:fm}{w:World}(h:ec B ai H w)(au:Sub ai bo):ec B bo H w:=by
 have down:∀b p,bo b=some p->(H b).isSome->ai b=some p:=λb p D A=>by obtain⟨q,C⟩:=lI.1 (h.kS b A);rw[au b q C]at D;grind
 refine⟨h.base,λb p o D V=>?_,λb I p M D N A E=>h.inj b I p M aa aa A E,λb A=>?_⟩
 ·exact(h.obj b p o aa V).mono au rfl
 ·obtain⟨q,C⟩:=lI.1 (h.kS b A);rw[au b q C];rfl
theorem aj4{C:Oper}{A:ao}{d:Tmp}(D:o.guard=some (j,A))(E:all[j]? = some C)(I:C.dst=some d):d∈n0 all o:=by
 unfold n0;rw[D];simp only;rw[ja,E]
 grind
theorem amw{t:Tmp}(h:Operand.tmp t∈o.op.operands):t∈n0 all o:=by unfold n0;simp only[hs];refine .inl (.inr ?_);rw[List.mem_filterMap];exact⟨.tmp t,aa,rfl⟩
section
variable {P:Program}
theorem aiR{d:Nat}{w:ao}(A:zd all o.guard=some (some (d,w))):d∈n0 all o:=by
  unfold zd at A
  split at A
  · cases A
  · rename_i j b E
    simp only[jO,ma]at A;obtain⟨I,D,M,C,e⟩:=A;cases e;exact aj4 E D C
theorem aqj{a8:Array Oper}{bQ:ac eR}(qG:Qw P a8.toList=some bQ){is:ac lV}(Ha:F7 a8.toList bQ=some is){L B:Nat}{ak:ck}{U:Nat}{aC:Act}{r:ay Nat}{K:ck->ae->Nat->Prop}(qJ:im P is ak h U h [] K)(GL:oA L B iA ak h U aC gb)(yE:wk aC.tmps.size a8.toList=true)(bn:uX L B iA h gb U aC.tmps.size (λx ak h U=>x = .normal/\K ak h U) Q):
    wpAnyIn (nh r) n P .any a8 Q a8.size (Array.replicate a8.size false) aC gb:=by
  have k9:=aig qG;obtain⟨bv,val,⟨rE,gB,e1,Bq,_⟩,vs,hm⟩:=ae1 bQ is ⟨ak,h,U,h,[]⟩ Ha qJ;have gB:(bv 0).h=h:=gB;have e1:(bv 0).U=U:=e1;have Bq:(bv 0).b=h:=Bq;have DA:oA L B iA (bv 0).ak (bv 0).h (bv 0).U aC gb:=by rw[gB,e1];exact⟨GL.rel,GL.fB,GL.iD.same rE,GL.marks,GL.low⟩
  rw[<-gB,<-e1]at bn;have R:oi P a8 bQ bv val:=⟨k9,vs⟩
  have main:∀(D:Nat) (cD:Array ao) (a:Act) (w:World) (ai:cc) (c:Nat),r2 a8 cD->lu P a8 bQ bv B iA gb cD c ai w->Az bQ bv cD ai a->(∀s,bQ[c]? = some s->¬hY cD s.i) ->
      a.tmps.size=aC.tmps.size->a.defers=aC.defers->left a8 cD<=D->wpAnyIn (nh r) n P .any a8 Q D cD a w:=by
    intro D;have fin:∀(cD:Array ao) (a:Act) (w:World) (ai:cc) (c:Nat),r2 a8 cD->lu P a8 bQ bv B iA gb cD c ai w->Az bQ bv cD ai a->(∀s,bQ[c]? = some s->¬hY cD s.i) ->
        a.tmps.size=aC.tmps.size->a.defers=aC.defers->Region.ready .any a8 cD=[]->Q .normal a w:=by
      intro cD a w ai c C M fe yQ jE He ba;have a5:c=bQ.length:=amv R C M.done yQ ba M.le;subst a5;have kA:=M.h6;refine bn .normal _ _ _ _ a w ⟨rfl,hm⟩ kA ⟨kA.rel,QC _ _,λd v V=>?_,?_,hJ DA.low kA.size⟩ jE
      · refine fe bQ.length d J (λq s di au _=>M.done q s di au) (λq s di au _=>?_) v V
        grind
      · rw[He];exact DA.marks.h6 kA
    induction D with
    |zero =>
      intro cD a w ai c C M fe yQ jE He br;have ba:Region.ready .any a8 cD=[]:=by
        cases rH:Region.ready .any a8 cD with
        |nil=>rfl
        |cons i is =>
          exfalso;have aj:i∈Region.ready .any a8 cD:=aa
          obtain⟨sE,o,fd,_⟩:=mem_ready.1 aj;have cS:=(Array.getElem?_eq_some_iff.1 fd).1;have:=YD C.size cS ((NY aa).1 sE);omega
      exact⟨ba,fin cD a w ai c C M fe yQ jE He ba⟩
    |succ D fb =>
      intro cD a w ai c C M fe yQ jE He br;refine⟨λba=>fin cD a w ai c C M fe yQ jE He ba,λi aj=>?_⟩;obtain⟨ayK,o,fd,_⟩:=mem_ready.1 aj;have cS:=(Array.getElem?_eq_some_iff.1 fd).1;obtain⟨p,s,au,rfl⟩:=k9.cover i J;have o0:=(k9.step p s au).1;have ho':a8[s.i]? = some s.o:=aa
      rw[ho']at fd;cases fd;have tM:s.i<cD.size:=aa
      have sE:=(NY tM).1 ayK;have Dx:c<=p:=by
        rcases iI p c with h|h
        · exact absurd (M.done p s h au) sE
        omega
      have agy:p<bQ.length:=aa
      have look:∀d,d∈n0 a8.toList s.o->∀v,hv (bv p).ak d=some v->bJ (cut ai (bv p).U) (rq v) (a.tmps.getD d undef):=λd bs=>fe.look R C au aj bs;obtain⟨g,bd,Hb⟩:=(vs p s au).g;have hwq:Region.wanted s.o (yielded a8 a.tmps)=mR a8.toList s.o (bv p).ak:=by unfold mR;rw[bd];exact Xk bd Hb λd w v e V=>look d (aiR (by rw[<-e];exact bd)) v V
      have KV:Loc (cut ai (bv p).U) (bv p).ak a.tmps s.o.op.operands:=λt v cK V=>look t (amw cK) v V;have awu:∀d,s.o.dst=some d->d<a.tmps.size:=by rw[jE];exact aaA yE (k1 o0)
      have awv:left a8 (cD.setIfInBounds s.i true)<=D:=by have:=YD C.size cS sE;omega
      have aww:∀(eH:Nat) (mA:eR),c<=eH->bQ[eH]? = some mA->hY cD mA.i->jn mA.k=false:=λeH mA wZ ls AT=>by
        cases tQ:jn mA.k with
        |false=>rfl
        |true =>
        exfalso;rcases iI c eH with h|h
        · have mp:bQ[c]? = some (bQ[c]'J):=aa
          exact yQ _ mp (C.ahead AT (k9.fz h mp ls tQ))
        grind
      have I:∀(bo:cc) (bc:World) (gq:X) (c1:Nat),lu P a8 bQ bv B iA gb (cD.setIfInBounds s.i true) c1 bo bc->c<=c1->(c1<=p->jn s.k=false\/mR a8.toList s.o (bv p).ak=false) ->
          bJ (cut bo (bv (p+1)).U) (rq (val p)) gq->(∀m,Sub (cut ai m) (cut bo m))->wpAnyIn (nh r) n P .any a8 Q D (cD.setIfInBounds s.i true) (a.put s.o.dst gq) bc:=by
        intro bo bc gq c1 aCv yO tU V n5;obtain⟨c2,aCw,ayL⟩:=lu.advance R (bQ.length-c1) c1 J aCv λeH mA wZ ls AT=>by
          rcases Nat.decEq eH p with fk|rfl
          · left
            refine aww eH mA J ls ?_;rw[qo]at AT;rcases AT with⟨e,_⟩|AT
            · exact absurd e (k9.ne ls au fk)
            · exact AT
          grind
        exact fb _ _ _ bo c2 (C.set aj) aCw (fe.step R C n5 au aj V awu) ayL (by rw[Act.Ox];omega) (by rw[Act.Wb];omega) awv
      unfold wpOpIn;simp only[ho'];rw[hwq];have E:=(k9.step p s au).2.1;have ij:=(vs p s au).ok;cases N:mR a8.toList s.o (bv p).ak with
      |false =>
        simp only[np,ff];refine⟨λ_ _=>trivial,?_⟩;have RZ:val p=none:=by
          cases ij with
          |skip _ _ V _=>exact V
          |uR _ _ V _ _ _ _=>exact V
          |fy A _ _ _ _ _ _=>rw[N]at A;cases A
          |ix A _ _ _ _ _ _ _ _ _=>rw[N]at A;cases A
          |red A _ _ _ _ _ _ _=>rw[N]at A;cases A
          |fz A _ _ _ _ _ _ _ _=>rw[N]at A;cases A
        exact I ai w undef c (M.quiet R au (.inl N)) J (λ_=>.inr N) (by rw[RZ];exact te) (λm _ _ h=>h)
      |true =>
        simp only[if_true];refine⟨λ_ _=>trivial,?_⟩;show s.o.uponIn (nh r) n P a _ Q ((s.o.semAt r a.eval).run P w);cases ij with
        |skip A _ _ _=>rw[N]at A;cases A
        |uR A _ _ _ _ _ _=>rw[N]at A;cases A
        |fy _ e Z aS vo bK a1 =>
          rw[Z]at E;rw[Oper.semAt_eq r a.eval s.o (zM E)];obtain⟨gq,V,tA⟩:=aaw s.o KV E bK;rw[tA w];exact I ai w gq c (M.quiet R au (.inr λe=>by rw[Z];simp)) J (λ_=>.inl (by rw[Z];rfl)) (by rw[a1.2.1,vo];exact V) (λm _ _ h=>h)
        |red _ e Z aS vo bK dy a1 =>
          obtain⟨u',vn,hre⟩:=aiQ R C au Dx yQ aj N Z;rw[vo]at vn;cases vn;rw[Z]at E;rw[Oper.semAt_eq r a.eval s.o (zM E)];have ayM:ec B (cut ai (bv p).U) (u (bv c).b) w:=(M.h6.rel.less M.sub).up (Po ai (R.wv Dx J));obtain⟨gq,V,tA⟩:=aaz ayM s.o KV E hre;rw[tA];exact I ai w gq c (M.quiet R au (.inr λe=>by rw[Z];simp)) J (λ_=>.inl (by rw[Z];rfl)) (by rw[a1.2.1,vo];exact V) (λm _ _ h=>h)
        |ix _ e Z cZ bK vo fo S5 a1 AP =>
          have Ly:=Z;rw[Z]at E;rw[Oper.semAt_eq r a.eval s.o (zM E)];obtain⟨dC,pl,bc,qG,wX,awx,tA⟩:=aax s.o KV E bK w;obtain⟨bo,ug,V,n5⟩:=M.alloc R Dx au sE tM N Z bK qG wX awx;rw[tA];exact I bo bc _ c ug J (λ_=>.inl (by rw[Z];rfl)) (by rw[S5,vo];exact V) n5
        |fz _ e Z aS vo bK S5 a1 AP =>
          have w0:p=c:=by
            rcases iI c p with h|h
            · exfalso
              have mp:bQ[c]? = some (bQ[c]'J):=aa
              exact yQ _ mp (C.NK aj (k9.fz h mp au (by rw[Z];rfl)))
            omega
          subst w0;rw[Z]at E;refine Yw M.h6.rel (QC _ _) s.o KV E bK ?_;intro v ab Y bo gq bc sD V bx;obtain⟨rfl,rfl,rfl⟩:=sD;obtain⟨ρn,ug,AS,n5⟩:=M.fz R au tM Z N sE bx;exact I ρn bc gq (p+1) ug J (λh=>J) (by rw[AS,vo];exact V) n5
  have Du:∀i,¬hY (Array.replicate a8.size false) i:=λi br=>by
    unfold hY at br
    by_cases aj:i<a8.size <;> simp[qh,aj]at br
  have ae3:cut iA (bv 0).U=iA:=aqh iA DA.fB;have aCx:lu P a8 bQ bv B iA gb (Array.replicate a8.size false) 0 iA gb :=
    { le:=Nat.zero_le _
      done:=λq s di=>J
      h6:=by rw[ae3];exact cC.refl _ DA.rel
      sub:=by rw[show(bv 0).b=(bv 0).h by rw[Bq,gB]];exact λ_ _ h=>h
      ext:=λp s cZ _ dy=>absurd dy.AQ (Du _)
      oY:=λp q s t cZ nb' pl AR _ _ dy=>absurd dy.AQ (Du _)
      yD:=λb pl a1=>by
        left
        rcases iI b (bv 0).U with h|h
        · exact h
        · rw[DA.fB b h]at a1;grind }
  refine main a8.size _ aC gb iA 0 ⟨by simp,λj o e br=>absurd br (Du _)⟩ aCx ?_ (λs _=>Du _) rfl rfl ?_
  · intro j d cb a1 bD v V
    have awy:∀k,k<=j->hv (bv k).ak d=hv (bv 0).ak d:=by
      intro k
      induction k with
      |zero=>intro _;rfl
      |succ k fb =>
        intro Z;have au:bQ[k]? = some (bQ[k]'J):=qi _;generalize bQ[k]'J=s at au;rw[(vs k s au).lT d,if_neg (λe=>Du _ (a1 k s J au e))];exact fb J
    rw[awy j (cR _)]at V;have:=DA.iD d v V;rw[<-ae3]at this;exact this.mono (Po iA (R.wv (Nat.zero_le _) cb))
  · unfold left
    grind
end
section
variable {P:Program} {s:ao}
theorem hU{r:R aB}{k dw:aB->Prop}(h:af r k)(A:∀v,k v->dw v):af r dw:=by
 cases r <;> first|exact A _ h|exact h
theorem zR{a b C A:Prop}(h:bt v a b)(D:a->C)(E:b->A):bt v C A:=by
 rcases tr h with⟨rfl,h⟩|⟨rfl,h⟩
 ·exact D h
 ·exact E h
theorem Pp(h:dm r k)(A:∀v h U,k v h U->dw v h U):dm r dw:=by
 cases r <;> first|exact A _ _ _ h|exact h
theorem YE(h:fg P s r k)(A:∀v h U,k v h U->dw v h U):fg P s r dw:=by
 cases r <;> first|exact aD.mono h A|exact lW.mono h A|exact h
theorem Ch{ak:ck}{A C I M:ck->Prop}(h:mB g ak A C)(E:∀ak,A ak->I ak)(D:∀ak,C ak->M ak):mB g ak I M:=by
 cases g with
 |none=>exact E _ h
 |some g =>
  obtain⟨t,w⟩:=g;simp only[mB]at h ⊢
  split at h
  ·cases w <;> exact zR h (by first|exact E _|exact D _) (by first|exact E _|exact D _)
  ·exact D _ h
  ·exact h
theorem JK{ak:ck}{U:Nat}(C:o7 P s e ak h U k)(A:∀v h U,k v h U->dw v h U):o7 P s e ak h U dw:=by
 cases e with
 |st n a x=>exact hU C λ_ h=>hU h λ_ h=>hU h λ_=>A _ _ _
 |yL t m k x=>exact hU C λ_ h=>hU h λ_ h=>hU h λ_ h=>hU h λ_=>A _ _ _
 |ry x=>exact hU C λ_ h=>Pp h A
 |fO x=>exact hU C λ_ ⟨a,b,c,d,e,f,g,Z,I,aH,N,V,M,D⟩=>⟨a,b,c,d,e,f,g,Z,I,aH,N,V,λh=>A _ _ _ (M h),λe E=>⟨(D e E).1,A _ _ _ (D e E).2⟩⟩
 |call f args=>exact hU C λ_ h=>aD.mono h A
 |Af f args=>exact hU C λ_ h=>hU h λ_ h=>YE h A
 |app z x y=>exact hU C λ_ h=>hU h λ_ h=>Pp h A
 |bi b ag args=>exact hU C λ_ h=>Pp h A
 |inv r m args=>exact hU C λ_ h=>hU h λ_ h=>YE h A
theorem J9{ak:ck}{U:Nat}{k:ck->ae->Nat->Prop}:nH P s d (.fz e) ak h U k=o7 P s e ak h U λv h U=>k (eB ak d (some v)) h U:=rfl
theorem JL{i:lV}{ak:ck}{U:Nat}{K:ck->ae->Nat->Prop}:p2 P s (i::l) ak h U K=mB i.g ak (λak=>nH P s i.d i.k ak h U λak h U=>p2 P s l ak h U K) (λak=>p2 P s l (eB ak i.d none) h U K):=rfl
theorem Pq{i:lV}{ak:ck}{U:Nat}{b:ae}{K:ck->ae->Nat->Prop}:im P (i::l) ak h U b au K=mB i.g ak (λak=>mZ P i.d i.c i.k ak h U b au λak h U b au=>im P l ak h U b au K)
 (λak=>if jn i.k=true then im P l (eB ak i.d none) h U h (b::au) K else im P l (eB ak i.d none) h U b au K):=by
 have e:im P (i::l) ak h U b au K=mB i.g ak (λak=>mZ P i.d i.c i.k ak h U b au λak h U b au=>im P l ak h U b au K)
  (λak=>Bool.rec (im P l (eB ak i.d none) h U b au K) (im P l (eB ak i.d none) h U h (b::au) K) (jn i.k)):=rfl
 rw[e]
 congr 1
 funext ak
 cases jn i.k <;> rfl
theorem Pr{i:ng}{ak:ck}{U:Nat}{k dw:ck->ae->Nat->Prop}(C:nH P s d i ak h U k)(A:∀p h U,k p h U->dw p h U):nH P s d i ak h U dw:=by
 cases i with
 |fy e=>cases e <;> first|exact hU C λ_=>A _ _ _|exact hU C λ_ h=>hU h λ_ h=>hU h λ_ h=>zR h (A _ _ _) (A _ _ _)
 |ix e=>exact hU C λ_=>A _ _ _
 |red e=>exact hU C λ_=>A _ _ _
 |fz e=>rw[J9]at C ⊢;exact JK C λ_ _ _=>A _ _ _
theorem JM:∀{l:ac lV} {ak:ck} {h:ae} {U:Nat} {k dw:ck->ae->Nat->Prop},p2 P s l ak h U k->(∀p h U,k p h U->dw p h U)->p2 P s l ak h U dw
 | [],_,_,_,_,_,C,A=>A _ _ _ C
 |i::l,_,_,_,_,_,C,A=>by rw[JL]at C ⊢;exact Ch C (λ_ h=>Pr h λ_ _ _ h=>JM (l:=l) h A) (λ_ h=>JM (l:=l) h A)
theorem YF{i:ng}{ak:ck}{U:Nat}{b:ae}{k dw:ck->ae->Nat->ae->ac ae->Prop}(C:mZ P d c i ak h U b au k)(A:∀p h U b au,k p h U b au->dw p h U b au):mZ P d c i ak h U b au dw:=by
 have I:∀{f:ae->R X} {v:X} {p q:Prop} (_:p->q) {n:Nat} {au:ac ae},oW f v p n au->oW f v q n au:=λ{f v p q} D {n}=>by
  induction n with
  |zero=>intro au h;exact D h
  |succ n E=>intro au h;cases au with
   |nil=>exact h
   |cons x M=>exact⟨h.1,E h.2⟩
 cases i with
 |fy e=>cases e <;> first|exact hU C λ_=>A _ _ _ _ _|exact hU C λ_ h=>hU h λ_ h=>hU h λ_ h=>zR h (A _ _ _ _ _) (A _ _ _ _ _)
 |ix e=>exact hU C λ_=>A _ _ _ _ _
 |red e=>exact hU C λ_ h=>by cases c <;> first|exact A _ _ _ _ _ h|exact I (A _ _ _ _ _) h
 |fz e=>rw[FI]at C ⊢;exact JK C λ_ _ _ h=>⟨h.1,A _ _ _ _ _ h.2⟩
theorem FJ:∀{l:ac lV} {ak:ck} {h:ae} {U:Nat} {b:ae} {au:ac ae} {k dw:ck->ae->Nat->Prop},im P l ak h U b au k->(∀p h U,k p h U->dw p h U)->im P l ak h U b au dw
 | [],_,_,_,_,_,_,_,C,A=>A _ _ _ C
 |i::l,_,_,_,_,_,_,_,C,A=>by
  rw[Pq]at C ⊢;refine Ch C (λ_ h=>YF h λ_ _ _ _ _ h=>FJ (l:=l) h A) (λ_ h=>?_)
  split at h <;> rename_i e
  ·rw[if_pos e];exact FJ (l:=l) h A
  ·rw[if_neg e];exact FJ (l:=l) h A
theorem ww{ak:ck}:∀{L:ac Nat} {k:ac X->Prop},ox L ak k->∃aJ,k aJ/\(∀dw,dw aJ->ox L ak dw)/\∀i n,L[i]? = some n->∃v,hv ak n=some v/\aT aJ i=rq v
 | [],k,h=>⟨[],h,λ_ h=>h,λi n h=>by cases h⟩
 |n::L,k,h=>by
  unfold ox at h
  split at h
  ·rename_i v A
   obtain⟨aJ,E,D,I⟩:=ww h;refine⟨v::aJ,E,λdw C=>by unfold ox;rw[A];exact D _ C,λi m aj=>?_⟩;cases i with
   |zero=>cases aj;exact⟨_,A,rfl⟩
   |succ i=>exact I i m aj
  ·rename_i A
   obtain⟨aJ,E,D,I⟩:=ww h;refine⟨j7::aJ,E,λdw C=>by unfold ox;rw[A];exact D _ C,λi m aj=>?_⟩;cases i with
   |zero=>cases aj;exact⟨_,A,rfl⟩
   |succ i=>exact I i m aj
  ·exact h.elim
theorem YG{aJ:ac X}{d:Nat}{A:ay X}:∀{L:ac Nat} {j:Nat},hv (rs L aJ j) d=some A->∃i,L[i]? = some d/\A=some (aT aJ (j+i))
 | [],j,h=>by cases h
 |n::L,j,h=>by
  have h:hv ((n,some (aT aJ j))::rs L aJ (j+1)) d=some A:=h;rw[E6]at h
  by_cases e:n=d
  ·rw[if_pos e]at h;cases h;exact⟨0,by simp[e],rfl⟩
  ·rw[if_neg e]at h;obtain⟨i,C,D⟩:=YG h;exact⟨i+1,C,by rw[D];congr 2;omega⟩
theorem ju.rZ{ai:cc}{ak:ck}{t:Array X}(E:ju ai ak t){k:ac X->Prop}(h:ox L ak k):∃aJ,k aJ/\ju ai (rs L aJ 0) t:=by obtain⟨aJ,I,_,M⟩:=ww h;refine⟨aJ,I,λd A C=>?_⟩;obtain⟨i,aj,rfl⟩:=YG C;obtain⟨v,D,e⟩:=M i d aj;show bJ ai (aT aJ (0+i)) _;rw[iU,e];exact E d v D
theorem Ci{ak:ck}{k dw:ac X->Prop}(h:ox L ak k)(A:∀aJ,k aJ->dw aJ):ox L ak dw:=by obtain⟨aJ,C,D,_⟩:=ww h;exact D _ (A _ C)
theorem JN{L:ac Nat}{i:Nat}{ak:ck}{h:ae}{U:Nat}:∀{E:ac (Nat × aQ)},kf (wF L E) i ak h U->ox L ak λaJ=>kf E i aJ h U
 | [],A=>A.elim
 |p::E,A=>by
  have A:(bif Nat.beq p.1 i then tz L p.2 else kf (wF L E) i) ak h U:=A;show ox L ak λaJ=>(bif Nat.beq p.1 i then p.2 else kf E i) aJ h U;cases C:Nat.beq p.1 i <;> rw[C]at A
  ·exact JN A
  ·exact A
theorem Ps{L:ac Nat}{i:Nat}{ak:ck}{h:ae}{U:Nat}:∀{E:ac (Nat × aQ)},(ox L ak λaJ=>kf E i aJ h U)->kf (wF L E) i ak h U
 | [],A=>by obtain⟨_,h,_⟩:=ww A;exact h
 |p::E,A=>by
  have A:ox L ak λaJ=>(bif Nat.beq p.1 i then p.2 else kf E i) aJ h U:=A;show(bif Nat.beq p.1 i then tz L p.2 else kf (wF L E) i) ak h U;cases C:Nat.beq p.1 i <;> rw[C]at A
  ·exact Ps A
  ·exact A
theorem x8{L:ac Nat}{c:kF}{i:Nat}{aJ:ac X}{h:ae}{U:Nat}:∀{E:ac (Nat × iY)},kf (vl L c E) i aJ h U↔rt i c=true/\kf E i (rs L aJ 0) h U
 | []=>⟨λh=>h.elim,λh=>h.2⟩
 |p::E=>by
  show kf (bif rt p.1 c then(p.1,G3 L p.2)::vl L c E else vl L c E) i aJ h U↔rt i c=true/\(bif Nat.beq p.1 i then p.2 else kf E i) (rs L aJ 0) h U;have A:=x8 (L:=L) (c:=c) (i:=i) (aJ:=aJ) (h:=h) (U:=U) (E:=E);cases C:Nat.beq p.1 i with
  |false =>
   cases D:rt p.1 c with
   |false=>exact A
   |true =>
    show(bif Nat.beq p.1 i then G3 L p.2 else kf (vl L c E) i) aJ h U↔_;rw[C];exact A
  |true =>
   have e:=gE C;subst e;cases D:rt p.1 c with
   |false=>exact⟨λh=>by rw[mN,A,D]at h;exact absurd h.1 (by simp),λh=>absurd h.1 (by simp)⟩
   |true =>
    show(bif Nat.beq p.1 p.1 then G3 L p.2 else kf (vl L c E) p.1) aJ h U↔_;rw[C];exact⟨λh=>⟨rfl,h⟩,λh=>h.2⟩
theorem zS{c:kF}{R:iY}{U:Nat}:G4 L c R aJ h U↔u7 c=true/\R (rs L aJ 0) h U:=by
 unfold G4;cases u7 c with
 |false=>exact⟨λh=>h.elim,λh=>by cases h.1⟩
 |true=>exact⟨λh=>⟨rfl,h⟩,λh=>h.2⟩
theorem Pt:∀(c:kF) {i:Nat} {ak:ck} {h:ae} {U:Nat} {N V:iY} {E M:ac (Nat × iY)} {R Z:iY},jh P s eU c i ak h U N E R->(∀p h U,N p h U->V p h U)->(∀j p h U,kf E j p h U->kf M j p h U)->(∀p h U,R p h U->Z p h U)->jh P s eU c i ak h U V M Z:=by
 intro c
 induction c with
 |skip=>intro i ak h U N V E M R Z A C I D;exact C _ _ _ A
 |exit id=>intro i ak h U N V E M R Z A C I D;exact I _ _ _ _ A
 |ret=>intro i ak h U N V E M R Z A C I D;exact D _ _ _ A
 |scope c fb=>intro i ak h U N V E M R Z A C I D;exact fb A C I D
 |ty l=>intro i ak h U N V E M R Z A C I D;exact JM A C
 |C0 l=>intro i ak h U N V E M R Z A C I D;exact FJ A C
 |no=>intro i ak h U N V E M R Z A C I D;exact A
 |xw f ce a b =>
  intro i ak h U N V E M R Z A C I D;refine hU A λv aI=>?_;unfold tL at aI ⊢
  split at aI
  ·exact aD.mono aI λv h U ⟨st,p,lT,ce,a,b,h1,ap,aH⟩=>⟨st,p,lT,ce,a,b,h1,ap,aH.imp (λh=>⟨h.1,C _ _ _ h.2⟩) (λh=>⟨h.1,D _ _ _ h.2⟩)⟩
  ·exact aI
 |seq a b w1 w2=>intro i ak h U N V E M R Z A C I D;exact w1 A (λ_ _ _ h=>w2 h C I D) I D
 |block id c fb =>
  intro i ak h U N V E M R Z A C I D;refine fb A C (λj p h U fo=>?_) D;have fo:(bif Nat.beq id j then N else kf E j) p h U:=fo;show(bif Nat.beq id j then V else kf M j) p h U;cases a1:Nat.beq id j <;> rw[a1]at fo
  ·exact I _ _ _ _ fo
  ·exact C _ _ _ fo
 |cond x a b w1 w2 =>
  intro i ak h U N V E M R Z A C I D;cases x with
  |v v=>exact zR A (λh=>w1 h C I D) (λh=>w2 h C I D)
  |t n =>
   simp only[jh]at A ⊢
   split at A
   ·exact zR A (λh=>w1 h C I D) (λh=>w2 h C I D)
   ·exact A
 |loop c fb =>
  intro i ak h U N V E M R Z A C I D;refine Ci A λaJ ⟨eG,m,aq,er⟩=>⟨eG,m,aq,λm aJ h U cb=>fb (er m aJ h U cb) (λ_ _ _ h=>h) (λj p h U fo=>?_) (λp h U fo=>?_)⟩
  ·exact Ps (Ci (JN fo) λaJ h=>x8.2 ⟨(x8.1 h).1,I _ _ _ _ (x8.1 h).2⟩)
  ·exact Ci fo λaJ h=>zS.2 ⟨(zS.1 h).1,D _ _ _ (zS.1 h).2⟩
end
def H7(N:iY)(E:ac (Nat × iY))(R:iY):Lr:=λx=>match x with
 | .normal=>N
 | .exit i=>kf E i
 | .ret=>R
def lv:Code->ao
 | .seq a b=>lv a&&lv b
 | .cond _ a b=>lv a&&lv b
 | .block _ c=>lv c
 | .loop c=>lv c
 | .scope c=>lv c
 | .rangeFunc _ _ _ _=>false
 |_=>true
structure pL (P:Program):Prop where
 mixed:P.follows .mixedOrders=true
 names:∀(f:FuncId) (fn:Func),P.funcs[f]? = some fn->(fn.name == "runtime.NumGoroutine")=false
 fit:∀(f:FuncId) (fn:Func) (c:Code),P.funcs[f]? = some fn->fn.body=some c->k2 fn.ntmps c=true
def FK(fn:Func):ao:=!(fn.name == "runtime.NumGoroutine")&&(match fn.body with|some c=>k2 fn.ntmps c|none=>true)
theorem pL.of{P:Program}(C:P.follows .mixedOrders=true)(E:P.funcs.toList.all FK=true):pL P:=by
 have A:∀(f:FuncId) (fn:Func),P.funcs[f]? = some fn->FK fn=true:=aa
 refine⟨C,λf fn h=>?_,λf fn c h D=>?_⟩
 ·have:=A f fn h;simp only[FK,eA,Nd]at this
  grind
 ·have:=A f fn h;simp only[FK,D,eA]at this
  grind
section
variable {P:Program} {B:Nat}
theorem cC.push{ai:cc}{H:fm}{w:World}(A:ec B ai H w)(U:Nat)(o:Obj):cC B ai H w U U ai H { w with heap:=w.heap.push o } where
 rel:=A.world (by simp) λb p D au=>by
  obtain⟨x,C⟩:=lI.1 au;have:=(A.obj b p x D C).Cw
  grind
 agree:=aa
 size:=by simp
 os:=rfl
 tape:=.here
 output:=rfl
 frame:=aa
 own:=aa
 le:=J
theorem ec.JO{ai:cc}{H:fm}{w:World}(E:ec B ai H w){p:Place}{A:ay Code}{C:ck}(D:ai b=some p)(M:H b=some (.loop st A C ce rG body)):
  ∃l:Loop,B<=p.ct/\w.heap[p.ct]? = some (.loop l)/\SM l.state=st/\l.pending=A/\ju ai C l.tmps/\l.params.toList=ce/\l.assign=rG/\l.body=body /\
   k2 l.tmps.size rG=true/\k2 l.tmps.size body=true/\(∀q∈ce,q<l.tmps.size):=by obtain⟨N,l,I⟩:=E.obj b p _ D M;exact⟨l,N,I⟩
theorem ND{w:World}{k:Nat}{l:Loop}(h:w.heap[k]? = some (.loop l)):(Instr.getLoop k).run P w = .ok l w:=by have:=q9 (P:=P) h aa;simp[Instr.getLoop,this]
theorem bJ.amx{ai:cc}{a b:Array X}{c:X}(h:bJ ai (.func (.func f) a b) c):∃C A:ac X,c = .func (.func f) ⟨C⟩ ⟨A⟩/\dt ai a.toList C/\dt ai b.toList A:=by
 cases h with
 |func _ D E=>exact⟨_,_,rfl,D,E⟩
theorem awz{f:Operand}{ce:Array Tmp}{ak:ck}{U:Nat}{x:e5}(aX:co f=some x)(aI:ed ak x = .ok v)(au:tL P false v h U (.loop 0 none ak ce.toList rG body) K){L:Nat}{ai:cc}{w:World}(A:oA L B ai ak h U a w)(yE:k2 a.tmps.size (.rangeFunc f ce rG body)=true){N R:ae->Nat->Prop}(hm:K=yB U N R)(bn:uX L B ai h w U a.tmps.size (λx oX h U=>oX=ak/\(match x with | .normal=>N h U | .ret=>R h U | .exit _=>False)) Q):(Code.rangeFunc f ce rG body).wpIn (nh none) n P Q a w:=by
 have wU:=(A.iD.loc #[f]).ej (by simp) aX aI;unfold tL at au
 split at au
 ·rename_i g x y
  obtain⟨fD,p4,oh,aX,cd⟩:=wU.amx;have au:kT P g _ _ _ K:=au;obtain⟨⟨fn0,w3,pM,w4⟩,awA⟩:=au;simp only[k2,eA,BT,vU]at yE;refine wpIn_rangeFunc λfn _=>?_;have R0:∃(C:World) (E:ac Deferred) (bu:Nat),cC B ai (u h) w U U ai (u h) C/\px L B ai (u h) C (E++a.defers) /\
    (Instr.enterLoop fn a.tmps ce rG body none).run P w = .ok (C.heap.size,E) { C with heap:=C.heap.push (.loop { state:=.ready,pending:=none,fn,tmps:=a.tmps,params:=ce,assign:=rG,body,defers:=bu }) }:=by
   have kA:=cC.push A.rel U (.deferred (some []));refine⟨{ w with heap:=w.heap.push (.deferred (some [])) },[{ target:=.collected w.heap.size,args:=#[] }],w.heap.size,kA,⟨⟨w.heap.size,A.low,rfl,by simp,λfd=>?_,?_⟩,A.marks.h6 kA⟩,?_⟩
   ·have:=A.rel.YC fd;omega
   ·intro H6 S6 bK;have:∀(bu:ac Deferred),px L B ai (u h) w bu->H6∈bu->False:=by
     intro bu
     induction bu with
     |nil=>grind
     |cons d bu fb =>
      rintro⟨⟨r,_,h1,ap,_,_⟩,aH⟩ bs
      grind
    exact this _ A.marks S6
   ·simp[Instr.enterLoop,zH];rfl
  obtain⟨C,E,bu,R1,S7,tA⟩:=R0
  let p:Place:=⟨C.heap.size,0,0,0⟩
  let pN:cc:=λk=>if k=U then some p else ai k
  have Kr:pN U=some p:=aa
  have n5:Sub ai pN:=λb q a1=>by
   by_cases e:b=U
   ·subst e;rw[A.fB.here]at a1;grind
   grind
  have R2:=Made.push C (.loop { state:=.ready,pending:=none,fn,tmps:=a.tmps,params:=ce,assign:=rG,body,defers:=bu });have rD:k8 B pN { C with heap:=C.heap.push (.loop { state:=.ready,pending:=none,fn,tmps:=a.tmps,params:=ce,assign:=rG,body,defers:=bu }) } p (.loop 0 none ak ce.toList rG body):=
   ⟨R1.rel.base,_,R2.new,rfl,rfl,A.iD.mono n5,rfl,rfl,rfl,aa,yE.2,aa⟩
  have M:=cC.make R1.rel A.fB.here R2.size R2.dZ rfl .here rfl  rfl rD;rw[<-uM]at M;have ae4:=R1.trans M;have R3:jY pN (U+1):=A.fB.after ae4;have S8:bJ pN (.func (.yield U) #[] #[]) (.func (.yield C.heap.size) #[] #[]):=.yield  Kr;have awB:dt pN (x.toList++(Value.func (.yield U) #[] #[]::y.toList)) (fD++(Value.func (.yield C.heap.size) #[] #[]::p4)):=(aX.mono n5).append (.cons S8 (cd.mono n5));have hci:=awA B pN _ _ M.rel R3 awB (n-1);generalize tP:({ C with heap:=C.heap.push (.loop { state:=.ready,pending:=none,fn,tmps:=a.tmps,params:=ce,assign:=rG,body,defers:=bu }) }:World)=zg at *
  refine⟨C.heap.size,E,zg,{ target:=.fn (.func g) ⟨p4⟩,args:=⟨fD⟩++#[Value.func (.yield C.heap.size) #[] #[]] },zg,g,⟨fD++(Value.func (.yield C.heap.size) #[] #[]::p4)⟩,zg,tA,?_,λ_ _=>trivial,?_,λh=>by simp[nh,Fence.wide]at h,?_⟩
  ·have at7:a.eval (.const (.func (.yield C.heap.size) #[] #[])) = .func (.yield C.heap.size) #[] #[]:=rfl;simp[resolve,rangeCall,oh,Deferred.ofValue,at7]
  ·have a1:fn0.body≠none:=aa
   have Lz:fn0.name ≠ "runtime.NumGoroutine" := by grind
   simp[invoke,callFunc,w3,Lz,a1]
  ·rw[Ym];refine hci.mono λe V bK=>?_;obtain⟨lB,ab,Y,bo,c,rfl,hk,Hf,bx⟩:=bK;have n9:=R3.after bx;have S9:bo U=some p:=(R3.sub bx) _ _ Kr;subst hm;obtain⟨st,GC,AJ,AU,ev,cr,bd,KW,hk⟩:=hk;obtain⟨Z,er,AV,ij,hpd,vs,KX,R4,R5,ayN,ayO,ayP⟩:=bx.rel.JO S9 bd;subst hpd;have w5:=ND (P:=P) AV;have wX:Z.state≠.busy:=by intro h;rw[h]at ij;subst ij;exact KW rfl
   have R6:=uH (P:=P)  (o:=.loop { Z with state:=.exhausted }) AV aa;have R7:(Instr.endLoop C.heap.size).run P V = .ok Z.pending { V with heap:=V.heap.setIfInBounds C.heap.size (.loop { Z with state:=.exhausted }) }:=by have w5:(Instr.getLoop C.heap.size).run P V = .ok Z V:=w5;have R6:(setObj C.heap.size (.loop { Z with state:=.exhausted })).run P V = .ok () _:=R6;simp[Instr.endLoop,w5,wX,R6];rfl
   have KY:cC B bo (u ab) V Y Y bo (u (T ab U (.loop 3 Z.pending AJ AU ev cr))) { V with heap:=V.heap.setIfInBounds C.heap.size (.loop { Z with state:=.exhausted }) }:=
    cC.set bx.rel Y S9 bd er aa λbc pJ=>⟨er,_,pJ,rfl,rfl,vs,KX,R4,R5,ayN,ayO,ayP⟩
   have D:=(ae4.trans bx).trans KY;have I:oA L B bo ak (T ab U (.loop 3 Z.pending AJ AU ev cr)) Y { a with defers:=E++a.defers } { V with heap:=V.heap.setIfInBounds C.heap.size (.loop { Z with state:=.exhausted }) }:=
    ⟨D.rel,n9,A.iD.mono (A.fB.sub D),((S7.h6 M).h6 bx).h6 KY,hJ A.low D.size⟩
   refine⟨_,_,R7,?_⟩;generalize (T ab U (.loop 3 Z.pending AJ AU ev cr))=H at hk D I;generalize ({ V with heap:=V.heap.setIfInBounds C.heap.size (.loop { Z with state:=.exhausted }) }:World)=lY at D I ⊢;rcases hk with⟨cb,hk⟩|⟨cb,hk⟩ <;> rw[cb]
   ·exact bn .normal _ _ _ _ _ _ ⟨rfl,hk⟩ D I rfl
   ·exact wpIn_ret (bn .ret _ _ _ _ _ _ ⟨rfl,hk⟩ D I rfl)
 ·exact au.elim
theorem oA.ak{L:Nat}{ai:cc}{ak A:ck}{U:Nat}{w:World}(s:oA L B ai ak h U a w)(C:ju ai A a.tmps):oA L B ai A h U a w:=⟨s.rel,s.fB,C,s.marks,s.low⟩
theorem Ro(g9:pL P):∀(c:Code) {i:Nat} {ak:ck} {h:ae} {U:Nat} {N:iY} {E:ac (Nat × iY)} {R:iY},jh P false eU (comp P c) i ak h U N E R ->
  ∀{L:Nat} {ai:cc} {a:Act} {w:World} {n:Nat} {r:ay Nat} {Q:Exit->Act->World->Prop},oA L B ai ak h U a w->k2 a.tmps.size c=true->(r=none\/lv c=true)->uX L B ai h w U a.tmps.size (H7 N E R) Q->c.wpIn (nh r) n P Q a w:=by
 intro c
 induction c with
 |skip=>intro i ak h U N E R au L ai a w n r Q A C Z M;exact wpIn_skip (M .normal _ _ _ _ _ _ au (cC.refl U A.rel) A rfl)
 |label l=>intro i ak h U N E R au L ai a w n r Q A C Z M;exact wpIn_label (M .normal _ _ _ _ _ _ au (cC.refl U A.rel) A rfl)
 |exit id=>intro i ak h U N E R au L ai a w n r Q A C Z M;exact wpIn_exit (M (.exit id) _ _ _ _ _ _ au (cC.refl U A.rel) A rfl)
 |ret=>intro i ak h U N E R au L ai a w n r Q A C Z M;exact wpIn_ret (M .ret _ _ _ _ _ _ au (cC.refl U A.rel) A rfl)
 |scope c fb =>
  intro i ak h U N E R au L ai a w n r Q A C Z M;refine aiO (fb au A C Z ?_);intro x oX ab Y bo ev bc V bx D I;have:=M x oX ab Y bo ev bc V bx D I;cases x <;> exact this
 |region id a8 C4 =>
  intro i ak h U N E R au L ai a w n r Q A C Z M;have au:jh P false eU (RS P a8.toList C4) i ak h U N E R:=au;unfold RS at au;cases C4 with
  |false =>
   simp only[mN]at au
   split at au
   ·rename_i l br
    refine wpIn_region ?_;have:=acV (r:=r) (n:=n) (Q:=Q) a8.toList l 0 rfl br au A C (M.mono λx ak h U V=>by obtain⟨rfl,V⟩:=V;exact V);rw[List.range_eq_range'];simpa using this
   ·exact au.elim
  |true =>
   simp only[ql]at au
   split at au
   ·rename_i l br
    obtain⟨bQ,h1,ap⟩:=jO.1 br;refine wpIn_region_any g9.mixed ?_;refine aqj h1 ap au ⟨A.rel.drawn _,A.fB,A.iD,px.h6 (w:=w) (al:=U) (aj:=U) ⟨A.rel.drawn (w.drawn+1),aa,aa,rfl,⟨rfl,by simp⟩,rfl,aa,aa,J⟩ A.marks,A.low⟩ C ?_;rintro x oX ab Y bo ev bc ⟨rfl,V⟩ bx D I;exact M .normal oX ab Y bo ev bc V (cC.from (by simp) bx) D I
   ·exact au.elim
 |seq x y ihx ihy =>
  intro i ak h U N E R au L ai a w n r Q A C Z M;simp only[k2,eA]at C;have sF:r=none\/lv x=true:=Z.imp id λh=>by simp only[lv,eA]at h;exact h.1
  have oj:r=none\/lv y=true:=Z.imp id λh=>by simp only[lv,eA]at h;exact h.2
  refine wpIn_seq (ihx au A C.1 sF ?_);intro fD oX ab Y bo ev bc V bx D I;cases fD with
  |normal=>exact ihy V D (by rw[I];exact C.2) oj (by rw[I];exact M.after bx)
  |exit j=>exact M (.exit j) _ _ _ _ _ _ V bx D I
  |ret=>exact M .ret _ _ _ _ _ _ V bx D I
 |cond x c1 c2 ih1 Ta =>
  intro i ak h U N E R au L ai a w n r Q A C Z M;simp only[k2,eA]at C;have sF:r=none\/lv c1=true:=Z.imp id λh=>by simp only[lv,eA]at h;exact h.1
  have oj:r=none\/lv c2=true:=Z.imp id λh=>by simp only[lv,eA]at h;exact h.2
  simp only[comp]at au
  split at au
  ·rename_i y cd
   have LA:∀b,ed ak y = .ok (.bool b)->a.eval x = .bool b:=λb a1=>((A.iD.loc #[x]).ej (by simp) cd a1).Fk;cases y with
   |v v =>
    rcases tr au with⟨rfl,au⟩|⟨rfl,au⟩
    ·exact wpIn_cond (LA true rfl) (ih1 au A C.1 sF M)
    ·exact wpIn_cond (LA false rfl) (Ta au A C.2 oj M)
   |t m =>
    simp only[jh]at au
    split at au
    ·rename_i v aI
     have Tb:ed ak (.t m) = .ok v:=by simp[ed,aI]
     rcases tr au with⟨rfl,au⟩|⟨rfl,au⟩
     ·exact wpIn_cond (LA true Tb) (ih1 au (A.ak (A.iD.same (tB.lit aI))) C.1 sF M)
     ·exact wpIn_cond (LA false Tb) (Ta au (A.ak (A.iD.same (tB.lit aI))) C.2 oj M)
    ·exact au.elim
  ·exact au.elim
 |block id c fb =>
  intro i ak h U N E R au L ai a w n r Q A C Z M;refine wpIn_block (fb au A C Z ?_);intro x oX ab Y bo ev bc V bx D I;cases x with
  |normal=>exact M .normal _ _ _ _ _ _ V bx D I
  |ret=>exact M .ret _ _ _ _ _ _ V bx D I
  |exit j =>
   have V:(bif Nat.beq id j then N else kf E j) oX ab Y:=V;show if j=id then Q .normal ev bc else Q (.exit j) ev bc
   by_cases e:j=id
   ·rw[if_pos e];rw[show Nat.beq id j=true by rw[e];exact uB id]at V;exact M .normal _ _ _ _ _ _ V bx D I
   ·rw[if_neg e];rw[show Nat.beq id j=false by
     cases a1:Nat.beq id j with
     |true=>exact absurd (gE a1).symm e
     |false=>rfl]at V
    exact M (.exit j) _ _ _ _ _ _ V bx D I
 |loop c fb =>
  intro i ak h U N E R au L ai a w n r Q A C Z M;obtain⟨aJ,⟨eG,m,o9,er⟩,fe⟩:=A.iD.rZ au;refine aiP (λm ev bc=>∃aJ ab Y bo,eG m aJ ab Y/\cC B ai (u h) w U Y bo (u ab) bc/\oA L B bo (rs (ky eU i) aJ 0) ab Y ev bc/\ev.tmps.size=a.tmps.size) ?_ (m:=m) ⟨aJ,h,U,ai,o9,cC.refl U A.rel,A.ak fe,rfl⟩;rintro m az de ⟨vs1,h1,gY,pN,Tc,ayQ,ayR,R8⟩;refine fb (er m vs1 h1 gY Tc) ayR (by rw[R8];exact C) Z ?_;intro x oX ab Y bo ev bc V bx D I;have DB:=ayQ.trans bx;have R9:=I.trans R8;cases x with
  |normal =>
   obtain⟨AW,⟨bR,cS,hJ2⟩,tV⟩:=D.iD.rZ V;exact⟨bR,cS,AW,ab,Y,bo,hJ2,DB,D.ak tV,R9⟩
  |exit j =>
   obtain⟨AW,dM,tV⟩:=D.iD.rZ (JN V);exact M (.exit j) _ _ _ _ _ _ (x8.1 dM).2 DB (D.ak tV) R9
  |ret =>
   obtain⟨AW,dM,tV⟩:=D.iD.rZ V;exact M .ret _ _ _ _ _ _ (zS.1 dM).2 DB (D.ak tV) R9
 |rangeFunc f ce rG body =>
  intro i ak h U N E R au L ai a w n r Q A C Z M;rcases Z with rfl|Z
  ·simp only[comp]at au
   split at au
   ·rename_i x aX
    obtain⟨v,aI,au⟩:=gf au;refine awz aX aI au A C rfl (M.mono λx oX h U V=>?_);obtain⟨rfl,V⟩:=V;cases x <;> first|exact V|exact V.elim
   ·exact au.elim
  ·cases Z
 |_=>intro i ak h U N E R au;exact au.elim
end
section
variable {P:Program}
def vD(pe0:ck)(aq:ae)(a0:Nat):ck->ae->Nat->Prop:=λak h U=>ak=pe0/\h=aq/\U=a0
theorem at8{i:ng}{ak:ck}{U:Nat}{k:ck->ae->Nat->Prop}(A:nH P true d i ak h U k):∃D M Y,k D M Y/\nH P false d i ak h U (vD D M Y):=by
 cases i with
 |fy e =>
  cases e
  case pick =>
   obtain⟨c,C,A⟩:=gf A;obtain⟨a,E,A⟩:=gf A;obtain⟨b,I,A⟩:=gf A;rcases tr A with⟨rfl,A⟩|⟨rfl,A⟩
   ·exact⟨_,_,_,A,by simp only[nH,C,E,I];exact⟨rfl,rfl,rfl⟩⟩
   ·exact⟨_,_,_,A,by simp only[nH,C,E,I];exact⟨rfl,rfl,rfl⟩⟩
  all_goals
   obtain⟨v,C,A⟩:=gf A;exact⟨_,_,_,A,by simp only[nH,MD,id,C];exact⟨rfl,rfl,rfl⟩⟩
 |ix e=>obtain⟨v,C,A⟩:=gf A;exact⟨_,_,_,A,by simp only[nH,dS,C];exact⟨rfl,rfl,rfl⟩⟩
 |red e=>obtain⟨v,C,A⟩:=gf A;exact⟨_,_,_,A,by simp only[nH,C];exact⟨rfl,rfl,rfl⟩⟩
 |fz e =>
  rw[J9]at A;obtain⟨v,M,Y,N,V,_⟩:=QB A;exact⟨_,_,_,N,by rw[J9];exact JK V λ_ _ _ ⟨C,E,I⟩=>⟨by rw[C],E,I⟩⟩
theorem acY{ak:ck}{dJ fQ:ck->ck->ae->Nat->Prop}{K:ck->ae->Nat->Prop}(h:mB g ak (λak=>∃p h n,K p h n/\dJ ak p h n) (λak=>∃p h n,K p h n/\fQ ak p h n)):∃p h n,K p h n/\mB g ak (λak=>dJ ak p h n) (λak=>fQ ak p h n):=by
 cases g with
 |none=>exact h
 |some g =>
  obtain⟨t,w⟩:=g;simp only[mB]at h ⊢
  split at h
  ·rcases tr h with⟨rfl,h⟩|⟨rfl,h⟩ <;> cases w <;> exact h
  ·exact h
  ·exact h.elim
theorem QD:∀{l:ac lV} {ak:ck} {h:ae} {U:Nat} {k:ck->ae->Nat->Prop},p2 P true l ak h U k->∃C A Y,k C A Y/\p2 P false l ak h U (vD C A Y)
 | [],_,_,_,_,D=>⟨_,_,_,D,rfl,rfl,rfl⟩
 |i::l,ak,h,U,k,D=>by rw[JL]at D;simp only[JL];refine acY (dJ:=λak p A n=>nH P false i.d i.k ak h U λak h U=>p2 P false l ak h U (vD p A n)) (fQ:=λak p A n=>p2 P false l (eB ak i.d none) h U (vD p A n)) (Ch D (λ_ h=>?_) (λ_ h=>QD (l:=l) h));obtain⟨p,h1,bg,N,bs⟩:=at8 h;obtain⟨M,ap,bU,I,E⟩:=QD (l:=l) N;exact⟨M,ap,bU,I,Pr bs λ_ _ _ ⟨aW,Z,V⟩=>by rw[aW,Z,V];exact E⟩
theorem z1:∀{l:ac lV} {ak:ck} {h:ae} {U:Nat} {b:ae} {au:ac ae} {k:ck->ae->Nat->Prop},im P l ak h U b au k->∃Z A Y,k Z A Y/\im P l ak h U b au (vD Z A Y)
 | [],_,_,_,_,_,_,E=>⟨_,_,_,E,rfl,rfl,rfl⟩
 |i::l,ak,h,U,b,au,k,E=>by
  rw[Pq]at E;simp only[Pq];refine acY (dJ:=λak p A n=>mZ P i.d i.c i.k ak h U b au λak h U b au=>im P l ak h U b au (vD p A n)) (fQ:=λak p A n=>if jn i.k=true then im P l (eB ak i.d none) h U h (b::au) (vD p A n)else im P l (eB ak i.d none) h U b au (vD p A n)) (Ch E (λak D=>?_) (λak D=>?_))
  ·cases hk:i.k with
   |fy e =>
    rw[hk]at D;have fin:∀v,pC P ak e = .ok v->im P l (eB ak i.d (some v)) h U b au k->∃p A n,k p A n/\mZ P i.d i.c (.fy e) ak h U b au λak h U b au=>im P l ak h U b au (vD p A n):=λv M C=>by
     obtain⟨p,A,n,V,I⟩:=z1 (l:=l) C;refine⟨p,A,n,V,?_⟩;cases e
     case pick c x y =>
      simp only[pC]at M;obtain⟨c,bP,M⟩:=R.e9 M;obtain⟨a,g2,M⟩:=R.e9 M;obtain⟨b,dz,M⟩:=R.e9 M;simp only[mZ,bP,g2,dz];cases c with
      |bool t=>cases t <;> cases M <;> exact I
      |_=>cases M
     all_goals (simp only[mZ,MD,id];first|(rw[M];exact I)|(simp only[pC]at M;rw[M];exact I))
    have D:∃v,pC P ak e = .ok v/\im P l (eB ak i.d (some v)) h U b au k:=by
     cases e
     case pick =>
      obtain⟨c,V,E⟩:=gf D;obtain⟨a,I,E⟩:=gf E;obtain⟨b,N,E⟩:=gf E;rcases tr E with⟨rfl,E⟩|⟨rfl,E⟩
      ·exact⟨a,by simp[pC,V,I,N,R.bind,Gn],E⟩
      ·exact⟨b,by simp[pC,V,I,N,R.bind,Gn],E⟩
     all_goals exact gf D
    obtain⟨v,M,C⟩:=D;exact fin v M C
   |ix e =>
    rw[hk]at D;obtain⟨v,V,C⟩:=gf D;obtain⟨p,A,n,I,N⟩:=z1 (l:=l) C;exact⟨p,A,n,I,by simp only[mZ,dS,V];exact N⟩
   |red e =>
    rw[hk]at D;obtain⟨v,V,C⟩:=gf D;have key:∃p A n,k p A n/\(im P l (eB ak i.d (some v)) h U b au k->im P l (eB ak i.d (some v)) h U b au (vD p A n)):=by
     have C:im P l (eB ak i.d (some v)) h U b au k:=by
      cases a5:i.c <;> rw[a5]at C
      ·exact C
      ·exact(Qz C).2
     obtain⟨p,A,n,I,N⟩:=z1 (l:=l) C;exact⟨p,A,n,I,λ_=>N⟩
    obtain⟨p,A,n,I,N⟩:=key;refine⟨p,A,n,I,?_⟩;simp only[mZ,V];have bO:∀{f:ae->R X} {p q:Prop} (_:p->q) {n:Nat} {au:ac ae},oW f v p n au->oW f v q n au:=λ{f p q} Hc {n}=>by
     induction n with
     |zero=>intro au h;exact Hc h
     |succ n fb=>intro au h;cases au with
      |nil=>exact h
      |cons x xs=>exact⟨h.1,fb h.2⟩
    cases a5:i.c <;> rw[a5]at C
    ·exact N C
    ·exact bO N C
   |fz e =>
    rw[hk]at D;rw[FI]at D;obtain⟨v,V,bg,⟨dx,C⟩,_,bK⟩:=QB D;obtain⟨p,A,n,I,N⟩:=z1 (l:=l) C;exact⟨p,A,n,I,by rw[FI];exact bK _ ⟨dx,N⟩⟩
  ·split at D <;> rename_i e
   ·simp only[if_pos e];exact z1 (l:=l) D
   ·simp only[if_neg e];exact z1 (l:=l) D
theorem QE:∀(c:kF) {i:Nat} {ak:ck} {h:ae} {U:Nat} {N:iY} {E:ac (Nat × iY)} {R:iY},jh P true eU c i ak h U N E R ->
  ∃x p ab n,H7 N E R x p ab n/\∀C I D,H7 C I D x p ab n->jh P false eU c i ak h U C I D:=by
 intro c
 induction c with
 |skip=>intro i ak h U N E R A;exact⟨.normal,_,_,_,A,λ_ _ _ h=>h⟩
 |exit id=>intro i ak h U N E R A;exact⟨.exit id,_,_,_,A,λ_ _ _ h=>h⟩
 |ret=>intro i ak h U N E R A;exact⟨.ret,_,_,_,A,λ_ _ _ h=>h⟩
 |scope c fb=>intro i ak h U N E R A;exact fb A
 |ty l=>intro i ak h U N E R A;obtain⟨p,V,n,ap,aH⟩:=QD A;exact⟨.normal,p,V,n,ap,λ_ _ _ M=>JM aH λ_ _ _ ⟨aW,aP,cy⟩=>by rw[aW,aP,cy];exact M⟩
 |C0 l=>intro i ak h U N E R A;obtain⟨p,V,n,ap,aH⟩:=z1 A;exact⟨.normal,p,V,n,ap,λ_ _ _ M=>FJ aH λ_ _ _ ⟨aW,aP,cy⟩=>by rw[aW,aP,cy];exact M⟩
 |no=>intro i ak h U N E R A;exact A.elim
 |xw f ce a b =>
  intro i ak h U N E R A;obtain⟨v,aI,A⟩:=gf A;unfold tL at A
  split at A
  ·obtain⟨v1,V,bg,⟨st,p,lT,AU,ev,cr,bP,g2,dz⟩,a5⟩:=A;have up:∀(C D:iY) ,((p=none/\C ak (T V U (.loop 3 p lT AU ev cr)) bg)\/(p=some .ret/\D ak (T V U (.loop 3 p lT AU ev cr)) bg))->∀I,jh P false eU (.xw f ce a b) i ak h U C I D:=λC D M I=>by simp only[jh,aI];refine kT.mono a5 ?_;rintro _ _ _ ⟨rfl,rfl,rfl⟩;exact⟨st,p,lT,AU,ev,cr,bP,g2,M⟩
   rcases dz with⟨e,dz⟩|⟨e,dz⟩
   ·exact⟨.normal,_,_,_,dz,λC I D M=>up C D (.inl ⟨e,M⟩) I⟩
   ·exact⟨.ret,_,_,_,dz,λC I D M=>up C D (.inr ⟨e,M⟩) I⟩
  ·exact A.elim
 |seq a b w1 w2 =>
  intro i ak h U N E R A;obtain⟨x,p,V,bg,M,bs⟩:=w1 A;cases x with
  |normal =>
   obtain⟨x,kY,ap,bU,dM,hd2⟩:=w2 M;exact⟨x,kY,ap,bU,dM,λC I D Z=>bs _ I D (hd2 C I D Z)⟩
  |exit j=>exact⟨.exit j,p,V,bg,M,λC I D Z=>bs _ I D Z⟩
  |ret=>exact⟨.ret,p,V,bg,M,λC I D Z=>bs _ I D Z⟩
 |block id c fb =>
  intro i ak h U N E R A;obtain⟨x,p,V,bg,M,bs⟩:=fb A;cases x with
  |normal=>exact⟨.normal,p,V,bg,M,λC I D Z=>bs C _ D Z⟩
  |ret=>exact⟨.ret,p,V,bg,M,λC I D Z=>bs C _ D Z⟩
  |exit j =>
   have M:(bif Nat.beq id j then N else kf E j) p V bg:=M;cases a1:Nat.beq id j <;> rw[a1]at M
   ·exact⟨.exit j,p,V,bg,M,λC I D Z=>bs C ((id,C)::I) D (by show(bif Nat.beq id j then C else kf I j) p V bg;rw[a1];exact Z)⟩
   ·exact⟨.normal,p,V,bg,M,λC I D Z=>bs C ((id,C)::I) D (by show(bif Nat.beq id j then C else kf I j) p V bg;rw[a1];exact Z)⟩
 |cond y a b w1 w2 =>
  intro i ak h U N E R A;cases y with
  |v v =>
   rcases tr A with⟨rfl,A⟩|⟨rfl,A⟩
   ·exact w1 A
   ·exact w2 A
  |t m =>
   simp only[jh]at A ⊢
   split at A
   ·rename_i v aI
    rcases tr A with⟨rfl,A⟩|⟨rfl,A⟩
    ·obtain⟨x,p,V,bg,M,bs⟩:=w1 A;exact⟨x,p,V,bg,M,λC I D Z=>bs C I D Z⟩
    ·obtain⟨x,p,V,bg,M,bs⟩:=w2 A;exact⟨x,p,V,bg,M,λC I D Z=>bs C I D Z⟩
   ·exact A.elim
 |loop c fb =>
  intro i ak h U N E R A;obtain⟨aJ,⟨eG,m,o9,er⟩,f3,_⟩:=ww A;have key:∀m aJ h U,eG m aJ h U->∃x p ab n,x≠.normal/\H7 N E R x p ab n/\∀C I D,H7 C I D x p ab n->bF (λaJ h U N E R=>jh P false eU c (i+1) (rs (ky eU i) aJ 0) h U (tz (ky eU i) N) (wF (ky eU i) E) (tz (ky eU i) R)) aJ h U (vl (ky eU i) c I) (G4 (ky eU i) c D):=by
   intro m
   induction m using Nat.strongRecOn with
   |_ m ihm =>
    intro aJ h U cb;obtain⟨x,p,V,bg,M,bs⟩:=fb (er m aJ h U cb);cases x with
    |normal =>
     obtain⟨AW,⟨bR,cS,hj2⟩,yR,_⟩:=ww M;obtain⟨x,nl,aH,b1,aX,f1,hd3⟩:=ihm bR cS AW V bg hj2;refine⟨x,nl,aH,b1,aX,f1,λC I D Z=>?_⟩;obtain⟨aCy,m1,Tc,vt⟩:=hd3 C I D Z;refine⟨λk v g n=>(k=m1+1/\v=aJ/\g=h/\n=U)\/(k<=m1/\aCy k v g n),m1+1,.inl ⟨rfl,rfl,rfl,rfl⟩,?_⟩;rintro k v g n (⟨rfl,rfl,rfl,rfl⟩|⟨dx,cb⟩)
     ·exact bs _ _ _ (yR _ ⟨m1,J,.inr ⟨J,Tc⟩⟩)
     ·exact Pt c (vt k v g n cb) (λ_ _ _ h=>Ci h λ_ ⟨bR,V,ap⟩=>⟨bR,V,.inr ⟨J,ap⟩⟩) (λ_ _ _ _ h=>h) (λ_ _ _ h=>h)
    |exit j =>
     obtain⟨AW,dM,yR,_⟩:=ww (JN M);refine⟨.exit j,_,_,_,by simp,(x8.1 dM).2,λC I D Z=>⟨λk v g n=>v=aJ/\g=h/\n=U,0,⟨rfl,rfl,rfl⟩,?_⟩⟩;rintro k v g n ⟨rfl,rfl,rfl⟩;exact bs _ _ _ (Ps (yR _ (x8.2 ⟨(x8.1 dM).1,Z⟩)))
    |ret =>
     obtain⟨AW,dM,yR,_⟩:=ww M;refine⟨.ret,_,_,_,by simp,(zS.1 dM).2,λC I D Z=>⟨λk v g n=>v=aJ/\g=h/\n=U,0,⟨rfl,rfl,rfl⟩,?_⟩⟩;rintro k v g n ⟨rfl,rfl,rfl⟩;exact bs _ _ _ (yR _ (zS.2 ⟨(zS.1 dM).1,Z⟩))
  obtain⟨x,p,V,bg,aX,M,bs⟩:=key m aJ h U o9;exact⟨x,p,V,bg,M,λC I D Z=>f3 _ (bs C I D Z)⟩
end
section
variable {P:Program} {B:Nat} {ai:cc}
def GM(tmps:Array X):ResultVar->Sem X
 | .tmp t=>pure (tmps.getD t undef)
 | .cell a t=>do loadVar t (<-asAddr (tmps.getD a undef))
theorem ju.ej{ak:ck}{tmps:Array X}(A:ju ai ak tmps){t:Nat}{v:X}(h:ed ak (.t t) = .ok v):bJ ai v (tmps.getD t undef):=
 (A.loc #[.tmp t]).ej (a:={ tmps:=tmps,defers:=[] }) (x:=.tmp t) (by simp) rfl h
theorem JP{ak:ck}{h:ae}:∀{E:ac ResultVar} {k:ac X->Prop},yC P ak h E k->∃l,k l/\(∀dw,dw l->yC P ak h E dw) /\
  ∀{B:Nat} {ai:cc} {w:World} {tmps:Array X},ju ai ak tmps->ec B ai (u h) w->∃C,dt ai l C/\(E.mapM (GM tmps)).run P w = .ok C w
 | [],k,A=>⟨[],A,λ_ h=>h,λ_ _=>⟨[],.nil,rfl⟩⟩
 | .tmp t::E,k,A=>by obtain⟨v,I,A⟩:=gf A;obtain⟨l,V,ap,aH⟩:=JP A;refine⟨v::l,V,λdw Z=>by simp only[yC,I];exact ap _ Z,λD M=>?_⟩;obtain⟨C,d8,h8⟩:=aH D M;exact⟨_::C,.cons (D.ej I) d8,by simp only[zC,GM,Sem.run_bind,h8,Result.andThen_ok,Sem.run_pure]⟩
 | .cell a t::E,k,A=>by obtain⟨v,I,A⟩:=gf A;obtain⟨aS,eI,A⟩:=gf A;obtain⟨bO,N,vn⟩:=R.k7 eI;obtain⟨l,V,ap,aH⟩:=JP A;refine⟨aS::l,V,λdw Z=>by simp only[yC,I];exact(show af (R.of "type" (pu P t) λbO=>iO bO h v) _ by rw[eI];exact ap _ Z),λ{B ai w tmps} D M=>?_⟩;obtain⟨C,d8,h8⟩:=aH D M;obtain⟨ev,e,c,bh,b0⟩:=Pm M N vn (D.ej I);exact⟨c::C,.cons b0 d8,by simp only[zC,GM,e,asAddr,Sem.run_bind,Sem.run_pure,Result.andThen_ok,bh,h8]⟩
theorem aih{ak:ck}{U:Nat}{w:World}(V:ju ai ak tmps)(M:ec B ai (u h) w)(au:sw P fn.results.toList K ak h U):
  ∃v c,K v h U/\bJ ai v c/\(results fn tmps).run P w = .ok c w:=by
 obtain⟨l,D,_,aH⟩:=JP au;obtain⟨Z,h1,N⟩:=aH V M;have I:(fn.results.mapM (GM tmps)).run P w = .ok ⟨Z⟩ w:=by rw[Array.mapM_eq_mapM_toList];simp[N]
 have A:results fn tmps=(do
   let aJ <-fn.results.mapM (GM tmps)
   pure (if h:aJ.size=1 then aJ[0]else .tuple aJ)):=by congr 1
 rw[A];simp only[Sem.run_bind,I,Result.andThen_ok,Sem.run_pure];cases h1 with
 |nil=>exact⟨_,_,D,.tuple .nil,rfl⟩
 |cons C E =>
  cases E with
  |nil=>exact⟨_,_,D,C,rfl⟩
  |cons cd E=>exact⟨_,_,D,.tuple (.cons C (.cons cd E)),by simp⟩
theorem cC.beside{H gA:fm}{w:World}{bo:cc}(V:B<=gb.heap.size)(A:cC B ai H gb al aj bo gA w){r:Nat}(N:gb.heap.size<=r)(C:¬wE B bo gA r)(o:Obj):
  cC B ai H gb al aj bo gA { w with heap:=w.heap.setIfInBounds r o } where
 rel:=A.rel.world (by simp) λb p I au=>by
  have E:r≠p.ct:=λe=>C ⟨b,p,I,au,e.symm,J⟩
  grind
 agree:=A.agree
 size:=by simpa using A.size
 os:=A.os
 tape:=A.tape
 output:=A.output
 frame:=λk D M=>by simp only[zq];rw[if_neg J];exact A.frame k D M
 own:=A.own
 le:=A.le
theorem px.beside{L:Nat}{H:fm}{w:World}{r:Nat}(o:Obj):∀{A:ac Deferred},(∀D∈A,D.target≠.collected r)->px L B ai H w A->px L B ai H { w with heap:=w.heap.setIfInBounds r o } A
 | [],_,_=>trivial
 |d::A,V,⟨⟨q,E,I,Z,N,C⟩,M⟩=>by
  refine⟨⟨q,E,I,?_,N,C⟩,px.beside o aa M⟩
  grind
theorem ahB{w:World}{A:ac Deferred}(h:w.heap[b]? = some (.deferred (some A))):
  (Instr.takeDeferred b).run P w = .ok A { w with heap:=w.heap.setIfInBounds b (.deferred none) }:=by have C:=q9 (P:=P) h aa;have D:=uH (P:=P) (o:=.deferred none) h aa;simp[Instr.takeDeferred,C,D]
theorem NZ{fn:Func}{tmps:Array X}{n:Nat}{Z I:ae}{gb:World}{C Y:Nat}{bo:cc}{ak:ck}{K:bZ}(V:B<=gb.heap.size)(fe:ju bo ak tmps)(au:sw P fn.results.toList K ak I Y):
  ∀(E:ac Deferred) (w:World),px gb.heap.size B bo (u I) w E->cC B ai (u Z) gb C Y bo (u I) w ->
   LeavesInM Fence.wide n P fn tmps (Fin B ai Z gb C K) E .returning w
 | [],w,_,D=>by obtain⟨v,c,hk,aI,A⟩:=aih  fe D.rel au;exact⟨c,A,v,I,Y,bo,c,rfl,hk,aI,D⟩
 |d::E,w,⟨⟨r,f3,cK,bV,N,bs⟩,M⟩,D=>by refine⟨by simp,.inl ⟨r,{ w with heap:=w.heap.setIfInBounds r (.deferred none) },cK,ahB bV,?_⟩⟩;exact NZ V fe au E _ (px.beside _ bs M) (cC.beside V D f3 N _)
theorem Wz{d:Nat}{v:ay X}:∀{args:ac X} {i:Nat},hv (yg args i) d=some v->∃j A,args[j]? = some A/\d=i+j/\v=some A
 | [],i,h=>by cases h
 |x::args,i,h=>by
  have h:hv ((i,some x)::yg args (i+1)) d=some v:=h;rw[E6]at h
  by_cases e:i=d
  ·rw[if_pos e]at h;cases h;exact⟨0,x,rfl,J,rfl⟩
  ·rw[if_neg e]at h;obtain⟨j,A,D,E,C⟩:=Wz h;exact⟨j+1,A,D,J,C⟩
theorem aj5{A:ac X}(h:dt ai args A)(k:Nat):ju ai (yg args 0) ((⟨A⟩:Array X)++Array.replicate k undef):=by
 intro d v E;obtain⟨j,D,C,rfl,rfl⟩:=Wz E;obtain⟨c,M,I⟩:=h.get C;have C:((⟨A⟩:Array X)++Array.replicate k undef).getD (0+j) undef=c:=by
  simp only[qh]
  grind
 rw[C];exact I
theorem aii(C:n<=m)(a8:ac Oper)(h:wk n a8=true):wk m a8=true:=by
 simp only[wk,BT]at *
 intro o D;have:=h o D;cases A:o.dst with
 |none=>rfl
 |some d =>
  rw[A]at this;simp only[vU]at *
  omega
theorem ah4(D:n<=m):∀(c:Code),k2 n c=true->k2 m c=true:=by
 intro c
 induction c <;> intro h <;> simp only[k2,eA]at * <;> try trivial
 all_goals first
  |exact aii D _ h
  |(rename_i C A;exact aa)
  |(rename_i E;exact E h)
  |skip
 rename_i ce a b C A
 refine⟨⟨?_,aa⟩,A h.2⟩;simp only[BT,vU]at *
 grind
theorem kT.o1(Z:pL P){U:Nat}(M:oz P false eU f args h U K):kT P f args h U K:=by
 unfold oz at M
 split at M
 ·rename_i ni D
  unfold yf at D
  split at D
  ·rename_i fn A
   split at D
   ·rename_i c a1
    cases D;have A:P.funcs[f]? = some fn:=by rw[ja]at A;simpa using A
    refine⟨⟨fn,A,aa,Z.names f fn A⟩,λB ai w E V bD I n=>?_⟩;refine callsIn_of_wp_marks A a1 trivial ?_;have jE:fn.ntmps<=((⟨E⟩:Array X)++Array.replicate (fn.ntmps-(⟨E⟩:Array X).size) undef).size:=aa
    refine Ro Z c M (L:=w.heap.size) (r:=none) ⟨V,bD,aj5 I _,trivial,cR _⟩ (ah4 jE c (Z.fit f fn c A a1)) (.inl rfl) ?_;intro x oX ab Y bo ev bc N bx C _;cases x with
    |exit i=>exact N.elim
    |normal=>exact NZ V.base C.iD N ev.defers bc C.marks bx
    |ret=>exact NZ V.base C.iD N ev.defers bc C.marks bx
   ·cases D
  ·cases D
 ·exact M.elim
theorem aD.o1(Z:pL P){s:ao}{f:FuncId}{args:ac X}{h:ae}{U:Nat}{K:bZ}(eU:ac (ac Nat))(N:oz P s eU f args h U K):aD P s f args h U K:=by
 cases s with
 |false=>exact kT.o1 Z N
 |true =>
  have A:=N;unfold oz at A
  split at A
  ·rename_i V C
   obtain⟨x,p,E,D,I,bs⟩:=QE _ A;have up:sw P V.res K p E D->(∀l,sw P V.res (tT (C6 l) E D) p E D->oz P false eU f args h U (tT (C6 l) E D))->aD P true f args h U K:=λba eI=>by obtain⟨l,ap,aH,_⟩:=JP ba;exact⟨_,E,D,ap,kT.o1 Z (eI l (aH _ ⟨rfl,rfl,rfl⟩))⟩
   cases x with
   |exit i=>exact I.elim
   |normal=>exact up I λl M=>by unfold oz;rw[C];exact bs _ _ _ M
   |ret=>exact up I λl M=>by unfold oz;rw[C];exact bs _ _ _ M
  ·exact A.elim
def CQ:ac Nat->ac X->ck->ck
 |p::ce,v::aJ,ak=>CQ ce aJ ((p,some v)::ak)
 |_,_,ak=>ak
theorem YH{ai:cc}:∀{ce:ac Nat} {args A:ac X} {ak:ck} {t:Array X},dt ai args A->ju ai ak t->(∀q∈ce,q<t.size) ->
  ju ai (CQ ce args ak) ((ce.zip A).foldl (λtmps (t,a)=>tmps.setIfInBounds t a) t)/\((ce.zip A).foldl (λtmps (t,a)=>tmps.setIfInBounds t a) t).size=t.size
 | [],_,_,ak,t,_,C,_=>by simpa[CQ]using C
 |q::ce,[],_,ak,t,.nil,C,_=>by simpa[CQ]using C
 |q::ce,v::args,_,ak,t,.cons (y:=c) M E,C,D=>by
  have N:=D q (by simp);have V:ju ai ((q,some v)::ak) (t.setIfInBounds q c):=by have:=ju.put (a:={ tmps:=t,defers:=[] }) (dst:=some q) (v:=some v) C M aa;exact this
  obtain⟨I,Z⟩:=YH (ce:=ce) E V aa;simp only[CQ,List.zip_cons_cons,EF];exact⟨I,aa⟩
def U6(l:Nat)(ak:ck)(ce:ac Nat)(a b:Code)(st:Nat)(p:ay Code)(r:ao)(K:bZ):iY:=λ_ h U=>∃gG eH,u h l=some (.loop gG eH ak ce a b)/\K (.bool r) (T h l (.loop st p ak ce a b)) U
def Br(P:Program)(s:ao)(vC oy:ac (ac Nat))(l:Nat)(args:ac X)(ak:ck)(ce:ac Nat)(a b:Code)(h:ae)(U:Nat)(K:bZ):Prop :=
 jh P s vC (comp P a) 0 (CQ ce args ak) h U (λTd h1 bg=>∃eH,u h1 l=some (.loop 0 eH ak ce a b) /\
  jh P s oy (comp P b) 0 Td (T h1 l (.loop 1 eH ak ce a b)) bg (U6 l ak ce a b 0 none true K) [] (U6 l ak ce a b 2 (some .ret) false K)) [] (λ_ _ _=>False)
theorem tK.o1(g9:pL P){l:Nat}{U:Nat}{p:ay Code}{ak:ck}{a b:Code}(bd:u h l=some (.loop st p ak ce a b))(gT:args.length=ce.length)(H8:lv a=true)(qT:lv b=true)(au:Br P false vC oy l args ak ce a b h U K):tK P l args h U K:=by
 intro B ai w Z p ba bD M br;obtain⟨D,er,bV,ij,hpd,vs,KX,R4,R5,w3,pM,w4⟩:=ba.JO br bd;refine⟨D,bV,by rw[<-M.length,gT,<-KX];simp,λn=>?_⟩;obtain⟨ayS,aA3⟩:=YH  M vs w4;have awC:(D.params.zip ⟨Z⟩).foldl (λtmps (t,a)=>tmps.setIfInBounds t a) D.tmps=(ce.zip Z).foldl (λtmps (t,a)=>tmps.setIfInBounds t a) D.tmps:=by rw[<-KX,<-zy];simp
 rw[awC];subst R4 R5;refine roundIn_of_wpIn trivial ?_;refine Ro g9 D.assign au (L:=w.heap.size) (r:=some p.ct) ⟨ba,bD,ayS,trivial,cR _⟩ aa (.inr H8) ?_;intro x Td h1 gY pN az de hk bx C R8;cases x with
 |exit i=>exact hk.elim
 |ret=>exact hk.elim
 |normal =>
  obtain⟨pd1,qI,hk⟩:=hk;have rA:=(bD.sub bx) _ _ br;obtain⟨I,vt,LB,KW,ayT,ayU,awD,awE,awF,ayV,ayW,ayX⟩:=bx.rel.JO rA qI;have at9:I.state = .ready:=by
   cases Te:I.state <;> rw[Te]at KW <;> first|rfl|cases KW
  have w5:=ND (P:=P) LB;have N:=uH (P:=P)  (o:=.loop { I with state:=.busy }) LB aa;have hbr:(Instr.beginRound p.ct).run P de = .ok () { de with heap:=de.heap.setIfInBounds p.ct (.loop { I with state:=.busy }) }:=by simp only[Instr.beginRound,Sem.run_bind,w5,N,Result.andThen_ok,at9,Sem.run_pure]
  have E:cC B pN (u h1) de gY gY pN (u (T h1 l (.loop 1 pd1 ak ce D.assign D.body))) { de with heap:=de.heap.setIfInBounds p.ct (.loop { I with state:=.busy }) }:=
   cC.set bx.rel gY rA qI vt aa λbc pJ=>⟨vt,_,pJ,rfl,ayT,ayU,awD,awE,awF,ayV,ayW,ayX⟩
  refine⟨_,hbr,?_⟩;have ayY:=bx.trans E;have agz:oA w.heap.size B pN Td (T h1 l (.loop 1 pd1 ak ce D.assign D.body)) gY az { de with heap:=de.heap.setIfInBounds p.ct (.loop { I with state:=.busy }) }:=
   ⟨E.rel,C.fB,C.iD,C.marks.h6 E,hJ C.low E.size⟩
  refine Ro g9 D.body hk agz (r:=some p.ct) aa (.inr qT) ?_;intro x pe2 ap V DC a2 dj dM nA aA4 _;have tN:=(agz.fB.sub nA) _ _ rA;have fin:∀(A:ay Code) (st:Nat) (s:LoopState),SM s=st->(if A.isNone then LoopState.ready else LoopState.done)=s->U6 l ak ce D.assign D.body st A A.isNone K pe2 ap V ->
    ∃v bc,(Instr.endRound p.ct A).run P dj = .ok v bc/\Fin B ai h w U K (.returned v) bc:=by
   rintro A st s au cb ⟨st3,pd3,sG,hm⟩;obtain⟨lp3,hB3,AV,aA5,aA6,ayZ,awG,awH,awI,ay0,ay1,ay2⟩:=nA.rel.JO tN sG;have ay3:=ND (P:=P) AV;subst cb;have N:=uH (P:=P)  (o:=.loop { lp3 with state:=if A.isNone then .ready else .done,pending:=A }) AV aa;have KY:cC B DC (u ap) dj V V DC (u (T ap l (.loop st A ak ce D.assign D.body))) { dj with heap:=dj.heap.setIfInBounds p.ct (.loop { lp3 with state:=if A.isNone then .ready else .done,pending:=A }) }:=
    cC.set nA.rel V tN sG hB3 aa λbc pJ=>⟨hB3,_,pJ,au,rfl,ayZ,awG,awH,awI,ay0,ay1,ay2⟩
   refine⟨.bool A.isNone,_,?_,.bool A.isNone,_,V,DC,_,rfl,hm,.bool _,(ayY.trans nA).trans KY⟩;simp only[Instr.endRound,Sem.run_bind,ay3,N,Result.andThen_ok,Sem.run_pure]
  cases x with
  |normal=>exact fin none 0 _ rfl rfl dM
  |ret=>exact fin (some .ret) 2 _ rfl rfl dM
  |exit i=>exact dM.elim
theorem lW.o1(g9:pL P){s:ao}{vC oy:ac (ac Nat)}{l:Nat}{args:ac X}{h:ae}{U:Nat}{K:bZ}{st:Nat}{p:ay Code}{ak:ck}{ce:ac Nat}{a b:Code}(M:u h l=some (.loop st p ak ce a b))(A:args.length=ce.length)
  (N:lv a=true) (qT:lv b=true) (au:Br P s vC oy l args ak ce a b h U K):lW P s l args h U K:=by
 cases s with
 |false=>exact tK.o1 g9 M A N qT au
 |true =>
  obtain⟨x,cf,h1,bg,E,bs⟩:=QE _ au;cases x with
  |exit i=>exact E.elim
  |ret=>exact E.elim
  |normal =>
   obtain⟨eH,bP,E⟩:=E;obtain⟨x,kY,ap,bU,D,I⟩:=QE _ E;cases x with
   |exit i=>exact D.elim
   |normal =>
    obtain⟨C,nl,V,Z⟩:=D;exact⟨_,_,_,Z,tK.o1 g9 M A N qT (bs _ _ _ ⟨eH,bP,I _ _ _ ⟨C,nl,V,rfl,rfl,rfl⟩⟩)⟩
   |ret =>
    obtain⟨C,nl,V,Z⟩:=D;exact⟨_,_,_,Z,tK.o1 g9 M A N qT (bs _ _ _ ⟨eH,bP,I _ _ _ ⟨C,nl,V,rfl,rfl,rfl⟩⟩)⟩
end
def iy:Go.Ax.ae:=λ_=>none
@[simp] theorem Jq(k:Nat):u iy k=none:=rfl
section
variable {P:Program} {s:ao}
@[simp,grind =] theorem sH(h:ae)(b:Nat)(o:gm)(k:Nat):u (T h b o) k=if k=b then some o else u h k:=vX h b o k
@[simp] theorem e9{aB e4:Type}(x:aB)(f:aB->R e4):R.bind (.ok x) f=f x:=rfl
@[simp] theorem aAK(w:String)(f:aB->R e4):R.bind (.no w) f = .no w:=rfl
@[simp] theorem FL{aB e4:Type}(w:String)(x:aB)(f:aB->R e4):R.of w (some x) f=f x:=rfl
@[simp] theorem aAL(w:String)(f:aB->R e4):R.of w none f = .no w:=rfl
@[simp] theorem aAD(v:X):C6 [v]=v:=rfl
@[simp] theorem aAE(v w:X)(l:ac X):C6 (v::w::l) = .tuple ⟨v::w::l⟩:=rfl
@[simp] theorem YI(A:Nat)(C:ay Nat)(l:ac X):yz A C (.agg ⟨l⟩)=hg C A l:=rfl
@[simp] theorem N0{e4:Type}(a:Addr)(k:Addr->R e4):Ae (.pointer (some a)) k=k a:=rfl
@[simp] theorem YJ(b o:Nat)(A:ay Nat)(n:Nat):CK ⟨b,o,A⟩ n = .pointer (some ⟨b,o+n,none⟩):=rfl
@[simp] theorem WA(a:Addr):bB (.pointer (some a)) = .ok (.pointer (some a)):=rfl
@[simp] theorem VO(l:ac X)(i:Nat):cu (.tuple ⟨l⟩) i=R.of "extract" (l[i]?) (λv=>.ok v):=by show R.of "extract" (g3 l i) _=_;rw[ja]
@[simp] theorem aAF(k:IntKind)(n:Nat)(f:Nat->R e4):rr (.int k (n:Int)) f=f n:=rfl
@[simp] theorem aAy(k:IntKind)(n:Nat)(f:Nat->R e4):rr (.int k (.ofNat n)) f=f n:=rfl
@[simp] theorem aAG(k:IntKind)(n:Nat)(f:Nat->R e4):rr (.int k (OfNat.ofNat n:Int)) f=f n:=rfl
@[simp] theorem aAB(k:IntKind)(f:Nat->R e4):rr (.int k 0) f=f 0:=rfl
@[simp] theorem aAH(k:IntKind)(f:Nat->R e4):rr (.int k 1) f=f 1:=rfl
@[simp] theorem Xo(s:Nat)(b o:Nat)(A:ay Nat)(len cap i:Nat):xX (.slice s) (.slice (some ⟨b,o,A⟩) len cap) i=if i<len then .ok (.pointer (some ⟨b,o+i*s,none⟩))else .no "index" := by
 show(bif Nat.blt i len then _ else _)=_;rw[oI]
 by_cases h:i<len <;> simp[h] <;> rfl
@[simp] theorem Xp(n s:Nat)(b o:Nat)(A:ay Nat)(i:Nat):xX (.array n s) (.pointer (some ⟨b,o,A⟩)) i=if i<n then .ok (.pointer (some ⟨b,o+i*s,none⟩))else .no "index" := by
 show(bif Nat.blt i n then _ else _)=_;rw[oI]
 by_cases h:i<n <;> simp[h] <;> rfl
theorem aqk{op:BinOp}{t:TypeId}{A C:IntKind}{a b:Int}(au:x6 op=false)(D:mn A C=true):bin P op t (.int A a) (.int C b)=Dp op A a b:=by
 show Ao op A a C b=_;unfold Ao
 grind
theorem ss(op:BinOp)(t:TypeId)(k:IntKind)(a b:Int)(au:x6 op=false):bin P op t (.int k a) (.int k b)=Dp op k a b:=aqk au (v6 k)
@[simp] theorem Pu(t:TypeId)(k:IntKind)(a b:Int):bin P .add t (.int k a) (.int k b) = .ok (.int k (k.wrap (a+b))):=by rw[ss _ _ _ _ _ rfl,<-nW];rfl
@[simp] theorem aaI(t:TypeId)(k:IntKind)(a b:Int):bin P .sub t (.int k a) (.int k b) = .ok (.int k (k.wrap (a-b))):=by rw[ss _ _ _ _ _ rfl,<-nW];rfl
@[simp] theorem JQ(t:TypeId)(k:IntKind)(a b:Int):bin P .lss t (.int k a) (.int k b) = .ok (.bool (decide (a<b))):=by rw[ss _ _ _ _ _ rfl,<-rh];rfl
@[simp] theorem aaJ(t:TypeId)(k:IntKind)(a b:Int):bin P .leq t (.int k a) (.int k b) = .ok (.bool (!decide (b<a))):=by rw[ss _ _ _ _ _ rfl,<-rh];rfl
@[simp] theorem aaK(t:TypeId)(k:IntKind)(a b:Int):bin P .gtr t (.int k a) (.int k b) = .ok (.bool (decide (b<a))):=by rw[ss _ _ _ _ _ rfl,<-rh];rfl
@[simp] theorem aaL(t:TypeId)(k:IntKind)(a b:Int):bin P .geq t (.int k a) (.int k b) = .ok (.bool (!decide (a<b))):=by rw[ss _ _ _ _ _ rfl,<-rh];rfl
@[simp] theorem aaM(t:TypeId)(k:IntKind)(a b:Int):bin P .eql t (.int k a) (.int k b) = .ok (.bool (a == b)):=by rw[ss _ _ _ _ _ rfl,<-k3];rfl
@[simp] theorem aaN(t:TypeId)(k:IntKind)(a b:Int):bin P .neq t (.int k a) (.int k b) = .ok (.bool (!(a == b))):=by rw[ss _ _ _ _ _ rfl,<-k3];rfl
@[simp] theorem acZ(b:ao):ds .not (.bool b) = .ok (.bool (!b)):=rfl
@[simp] theorem YK(k dw:IntKind)(n:Int):n1 (.int dw) (.int k n) = .ok (.int dw (dw.wrap n)):=by rw[<-nW];rfl
theorem NE{t:TypeId}{x:Addr}(A:wc P t=true):bin P .neq t (.pointer (some x)) (.pointer none) = .ok (.bool true):=by show R.of "compared" (oT P t (.pointer (some x)) (.pointer none)) _=_;unfold oT;simp[A,GF,mP]
theorem pj{t:TypeId}{x:Addr}(A:wc P t=true):bin P .eql t (.pointer (some x)) (.pointer none) = .ok (.bool false):=by show R.of "compared" (oT P t (.pointer (some x)) (.pointer none)) _=_;unfold oT;simp[A,GF,mP]
@[simp] theorem WB(a:ay Addr)(n c:Nat):yA (.slice a n c) = .ok (n:X):=rfl
theorem uE{A:ao}(C:u h b=some (.cells cs A))(k:ac X->ao->R e4):cellsOf h b k=k cs A:=by unfold cellsOf;rw[C]
@[simp] theorem Xq(A:Nat)(cs:ac X):hg none A cs=CJ (cs[A]?):=by show CJ (g3 cs A)=_;rw[ja]
@[simp] theorem WC(v:X):CJ (some v) = .ok v:=rfl
@[simp] theorem aAz:CJ none = .no "load - out of block" := rfl
@[simp] theorem qm(n A:Nat)(cs:ac X):hg (some n) A cs=if n<=cs.length-A then .ok (.agg ⟨(cs.drop A).take n⟩)else .no "load - out of block" := by
 show Ko (mT n (mO cs A))=_;rw[rc,qn,EC]
 by_cases h:n<=cs.length-A <;> simp[h,Ko]
end
def Cx:ac MapEntry->Prop:=List.Pairwise (λa b=>a.born<b.born)
theorem aql(seen:ac Nat)(b:Nat):seen.any (Nat.beq b)=decide (b∈seen):=by
 rw[zB,uA];simp only[Ng];constructor
 ·rintro⟨x,C,A⟩;rw[gE A];omega
 ·intro h;exact⟨b,h,uB b⟩
theorem uG(seen:ac Nat)(e:MapEntry)(A:ac MapEntry):leftOf seen (e::A)=if e.born∈seen then leftOf seen A else e::leftOf seen A:=by
 show(bif seen.any (Nat.beq e.born)then _ else _)=_;rw[aql]
 grind
theorem Np:∀(A:ac MapEntry),leftOf [] A=A
 | []=>rfl
 |e::A=>by rw[uG];simp[Np A]
theorem EZ{seen:ac Nat}:∀{A:ac MapEntry} {e:MapEntry},e∈leftOf seen A->e∈A/\e.born ∉ seen
 | [],e,h=>by cases h
 |x::A,e,h=>by
  rw[uG]at h
  by_cases C:x.born∈seen
  ·rw[if_pos C]at h;obtain⟨D,E⟩:=EZ h
   grind
  ·rw[if_neg C]at h;rcases hD.1 h with rfl|h
   ·grind
   ·obtain⟨D,E⟩:=EZ h
    grind
theorem V0{seen:ac Nat}{b:Nat}:∀{A:ac MapEntry},(∀e∈A,e.born≠b)->leftOf (seen++[b]) A=leftOf seen A
 | [],_=>rfl
 |x::A,h=>by
  rw[uG,uG,V0 aa]
  grind
theorem NF{seen:ac Nat}:∀{A:ac MapEntry} {e:MapEntry},Cx A->e∈leftOf seen A->(leftOf seen A).Perm (e::leftOf (seen++[e.born]) A)
 | [],e,_,h=>by cases h
 |x::A,e,E,h=>by
  have I:∀y∈A,x.born<y.born:=λy M=>s3 E M;have C:Cx A:=M9 E;rw[uG]at h
  by_cases D:x.born∈seen
  ·rw[if_pos D]at h;rw[uG,if_pos D,uG,if_pos aa];exact NF C h
  ·rw[if_neg D]at h;rw[uG,if_neg D,uG];rcases hD.1 h with rfl|h
   ·rw[if_pos (by simp),V0 aa]
   ·have N:=EZ h;rw[if_neg aa];exact((NF C h).cons x).trans (List.Perm.swap ..)
theorem Xr:∀{A:ac MapEntry} {e:MapEntry},Cx A->e∈A->CL e.born A=some e
 | [],e,_,h=>by cases h
 |x::A,e,C,h=>by
  show(bif Nat.beq x.born e.born then some x else CL e.born A)=some e;rcases hD.1 h with rfl|h
  ·rw[uB];rfl
  ·have E:x.born<e.born:=s3 C h;have:Nat.beq x.born e.born=false:=by
    cases D:Nat.beq x.born e.born with
    |false=>rfl
    |true=>have:=gE D;omega
   rw[this];exact Xr (M9 C) h
theorem Xs:∀(l:ac Nat) (b:Nat),Gp (l++[b])=some b
 | [],b=>rfl
 | [x],b=>rfl
 |x::y::l,b=>Xs (y::l) b
theorem Xt{D r A E:Nat}{C:ac MapEntry}{e:MapEntry}(aj:u h D=some (.iter (some r) A (seen++[e.born]) E))(I:u h r=some (.map C E))(M:Cx C)(N:e∈C):
  wj h (bb D) = .ok (.tuple #[e.key,e.val]):=by unfold wj k6;simp only[N0,show Nat.beq 0 0=true from rfl,ql,aj,I,uB,Xs,Xr M N,FL]
@[simp] theorem CR{aB:Type}(v:aB)(k:aB->Prop):af (.ok v) k↔k v:=Iff.rfl
@[simp] theorem ae5{aB:Type}(w:String)(k:aB->Prop):af (.no w) k↔False:=Iff.rfl
section
variable {ai bo:cc}
mutual
theorem bJ.back(au:Sub ai bo):∀{v M c:X},bJ ai v M->bJ bo v c->bJ ai v c
 |_,_,_,.bool b,.bool _=>.bool b
 |_,_,_,.int k n,.int _ _=>.int k n
 |_,_,_,.string s,.string _=>.string s
 |_,_,_,.F8,.F8=>.F8
 |_,_,_,.ptr h,.ptr A=>by have e:=au _ _ h;rw[e]at A;cases A;exact .ptr h
 |_,_,_,.rf l c,.rf _ _=>.rf l c
 |_,_,_,.k4 h l c,.k4 A _ _=>by have e:=au _ _ h;rw[e]at A;cases A;exact .k4 h l c
 |_,_,_,.oK h V l c,.oK A aW _ _=>by have e:=au _ _ h;rw[e]at A;cases A;exact .oK h V l c
 |_,_,_,.oL b o g aU c,.oL _ _ Z N c2=>.oL b o Z N c2
 |_,_,_,.F9,.F9=>.F9
 |_,_,_,.map h,.map A=>by have e:=au _ _ h;rw[e]at A;cases A;exact .map h
 |_,_,_,.nilFunc,.nilFunc=>.nilFunc
 |_,_,_,.nilIface,.nilIface=>.nilIface
 |_,_,_,.func f E I,.func _ D C=>.func f (dt.back au E D) (dt.back au I C)
 |_,_,_,.yield h,.yield A=>by have e:=au _ _ h;rw[e]at A;cases A;exact .yield h
 |_,_,_,.iface t h,.iface _ A=>.iface t (bJ.back au h A)
 |_,_,_,.agg h,.agg A=>.agg (dt.back au h A)
 |_,_,_,.tuple h,.tuple A=>.tuple (dt.back au h A)
theorem dt.back(au:Sub ai bo):∀{v D c:ac X},dt ai v D->dt bo v c->dt ai v c
 |_,_,_,.nil,.nil=>.nil
 |_,_,_,.cons h t,.cons A C=>.cons (bJ.back au h A) (dt.back au t C)
end
theorem pq.back(au:Sub ai bo){cs:ac X}{c C:Array X}{A:Nat}(h:pq ai cs c A)(M:pq bo cs C A):pq ai cs C A:=λi v e=>by obtain⟨_,_,N⟩:=h i v e;obtain⟨D,I,E⟩:=M i v e;exact⟨D,I,bJ.back au N E⟩
theorem hE.back(au:Sub ai bo):∀{E I A:ac MapEntry},hE ai E I->hE bo E A->hE ai E A
 |_,_,_,.nil,.nil=>.nil
 |_,_,_,.cons N Z _ t,.cons M D C V=>.cons (bJ.back au N M) (bJ.back au Z D) C (hE.back au t V)
theorem pA.back(au:Sub ai bo){m E A:ay Nat}(h:pA ai m E)(D:pA bo m A):pA ai m A:=by
 cases m with
 |none=>cases A <;> simp only[pA]at *
 |some r =>
  cases A with
  |none=>simp only[pA]at D
  |some N =>
   cases E with
   |none=>simp only[pA]at h
   |some V =>
    simp only[pA]at h D ⊢;obtain⟨q,I,_⟩:=h;obtain⟨M,C,e⟩:=D;rw[au _ _ I]at C;grind
theorem k8.back{B:Nat}(au:Sub ai bo){w bc:World}{p:Place}{o:gm}(h:k8 B ai w p o)(E:k8 B bo bc p o):k8 B ai bc p o:=by
 cases o with
 |cells cs bL =>
  cases bL with
  |true =>
   obtain⟨_,c,e,fB,_,I⟩:=h;obtain⟨D,bT,Z,fr',A,C⟩:=E;exact⟨D,bT,Z,fr',A,I.back au C⟩
  |false =>
   obtain⟨_,_,c,e,al,aj,_,_,bh,_⟩:=h;obtain⟨D,h9,bT,Z,ea,M,A,C,V,N⟩:=E;exact⟨D,h9,bT,Z,ea,M,A,C,bh.back au V,N⟩
 |map es cL =>
  obtain⟨_,dl,_,I⟩:=h;obtain⟨D,es2,A,C⟩:=E;exact⟨D,es2,A,I.back au C⟩
 |iter m yn seen st =>
  obtain⟨_,_,bR,_,I⟩:=h;obtain⟨D,h9,m2,A,C⟩:=E;exact⟨D,h9,m2,A,I.back au C⟩
 |loop st GC lT ce a b =>
  obtain⟨_,l,_,_,_,b0,_⟩:=h;obtain⟨D,dL,A,C,V,N,aCz⟩:=E;exact⟨D,dL,A,C,V,λd v e=>bJ.back au (b0 d v e) (N d v e),aCz⟩
end
section
variable {B:Nat} {ai bo:cc} {H gA:fm} {w bc:World} {U Y:Nat}
theorem cC.forget(C:ec B ai H w)(E:jY ai U)(A:cC B ai H w U Y bo gA bc)(M:∀b o,H b=some o->gA b=some o):cC B ai H w U U ai H bc where
 rel:={
  base:=hJ C.base A.size
  obj:=λb p o D I=>(C.obj b p o D I).back (E.sub A) (A.rel.obj b p o (E.sub A b p D) aa)
  inj:=C.inj
  kS:=C.kS }
 agree:=aa
 size:=A.size
 os:=A.os
 tape:=A.tape
 output:=A.output
 frame:=A.frame
 own:=aa
 le:=J
theorem cC.aqm(ba:ec B ai H w)(M:jY ai U)(C:cC B ai H w U Y bo gA bc)(hk:∀b o,H b=some o->gA b=some o){p:Place}{o:gm}(a1:U<=b)(bn:bo b=some p)(fd:gA b=some o)(rD:k8 B (λk=>if k=U then some p else ai k) bc p o):cC B ai H w U (U+1) (λk=>if k=U then some p else ai k) (λk=>if k=U then some o else H k) bc:=by
 have Z:Sub ai (λk=>if k=U then some p else ai k):=λk q A=>by
  by_cases e:k=U
  ·rw[e,M.here]at A;grind
  grind
 have cS:∀k,(H k).isSome->k<U:=λk au=>by
  rcases iI k U with h|h
  ·exact h
  ·have:=ba.kS k au;rw[M k h]at this;grind
 refine⟨⟨hJ ba.base C.size,λk q x A V=>?_,λk dw q kG A D au E N bK=>?_,λk au=>?_⟩,λk hk=>?_,C.size,C.os,C.tape,C.output,C.frame,λk h=>?_,J⟩
 ·by_cases e:k=U
  ·simp only[e,if_true]at A V;cases A;cases V;exact rD
  ·simp only[e,ff]at A V;exact((ba.obj k q x A V).back (M.sub C) (C.rel.obj k q x (M.sub C k q A) aa)).mono Z rfl
 ·by_cases e:k=U
  ·by_cases ew:dw=U
   ·omega
   ·exfalso;simp only[e,if_true]at A;simp only[ew,ff]at D E;cases A;have I:(gA dw).isSome:=by
     obtain⟨x,V⟩:=lI.1 E
     grind
    have:=C.rel.inj b dw p kG bn (M.sub C dw kG D) aa I N bK
    grind
  ·by_cases ew:dw=U
   ·exfalso;simp only[ew,if_true]at D;simp only[e,ff]at A au;cases D;have I:(gA k).isSome:=by
     obtain⟨x,V⟩:=lI.1 au
     grind
    have:=C.rel.inj k b q p (M.sub C k q A) bn I aa N bK
    grind
   ·simp only[e,ff]at A au;simp only[ew,ff]at D E;exact ba.inj k dw q kG A D au E N bK
 ·by_cases e:k=U
  ·grind
  ·simp only[e,ff]at au ⊢;exact ba.kS k au
 ·grind
 ·obtain⟨dw,q,A,au,rfl,N⟩:=h
  by_cases e:dw=U
  ·simp only[e,if_true]at A;cases A;rcases C.own p.ct ⟨b,p,bn,aa,rfl,N⟩with⟨ha,eF,h1,ap,aH,bh⟩|h
   ·exact .inl ⟨ha,eF,h1,ap,aH,bh⟩
   omega
  ·simp only[e,ff]at A au;exact .inl ⟨dw,q,A,au,rfl,N⟩
end
section
variable {P:Program}
theorem ec.fresh{B:Nat}{ai:cc}{H:fm}{w:World}{U:Nat}(C:ec B ai H w)(D:jY ai U):∀b,U<=b->H b=none:=λb A=>by
 cases E:H b with
 |none=>rfl
 |some o =>
  have:=C.kS b aa;rw[D b A]at this;grind
end
end Go.Ax
