/- Parts of the proof: Cm2: each statement bears its own conditions. -/
import Derived.Test.YthlhhajnbgjfmaaGreatRhCm1
namespace Go.Ax
open Go
set_option linter.all false
set_option maxHeartbeats 1000000
variable {cA:Array al} {h:ae} {all:aa Oper} {p:Nat} {gC:World} {i:Nat} {e6:Type} {args:aa X} {d:aw Nat} {eU:aa (aa Nat)} {L:aa Nat} {c:Nat} {ip:b5} {n:Nat} {seen:aa Nat} {j b:Nat} {az:Type} {tmps:Array X} {k K:bR} {q:Nat} {cY:kM} {o:Oper} {t:eR} {Q:Exit->Act->World->Prop} {g:aw (Nat × al)} {aF:aa X} {vI om:aa (aa Nat)} {b7:aa Nat} {v:X} {aq:aa ae} {e:vH} {f:FuncId} {cs:aa X} {a:Act} {st:Nat} {r:fq} {ao aj:Nat} {di:bR} {l:aa lV} {body:Code} {m:Nat} {pl:Place} {rF:Code} {j1:Nat} {fn:Func} {r0:fp} {x y:hY}
def GV(P:Program)(o:Oper):al:=match oS P o.op with|some k=>je k|none=>false
def j3(a7:aa Oper):aa Nat:=(Region.before ⟨a7⟩).toList
def nW(a7:List Oper)(o:Oper):List Nat :=
 o.dst.toList++(o.op.operands.toList.filterMap λ| .tmp t=>some t|_=>none) ++
 (match o.guard with|some (g,_)=>((g3 a7 g).bind (·.dst)).toList|none=>[])
def kk(a:aa Nat)(j i:Nat):al:=((g3 a j).getD 0).testBit i
def sj(P:Program)(a7:aa Oper)(i:Nat):al:=((g3 a7 i).map (GV P)).getD false
def KZ(P:Program)(a7:aa Oper)(a:aa Nat)(before:aa Nat)(i:Nat):Nat:=(before.filter (λe=>sj P a7 e&&!kk a i e)).length
def Ah(P:Program)(a7:aa Oper)(a:aa Nat)(i j:Nat):al :=
 !Nat.beq i j&&!kk a i j &&
 (!sj P a7 j||kk a j i) &&
 (match g3 a7 i,g3 a7 j with
  |some x,some y=>kk a j i||((x.dst.toList.all λd=>!(nW a7 y).contains d)&&(y.dst.toList.all λd=>!(nW a7 x).contains d))
  |_,_=>false)
theorem WZ(look:Nat->Nat):∀(A:aa Edge) (s i:Nat),(A.foldl (λs e=>if Region.binds .any e then s ||| 2 ^ e.on ||| look e.on else s) s).testBit i=true ->
  s.testBit i=true\/∃e∈A,Region.binds .any e=true/\(e.on=i\/(look e.on).testBit i=true)
 | [],s,i,h=>.inl h
 |e::A,s,i,h=>by
  rw[E4]at h;rcases WZ look A _ i h with h|⟨E,D,C⟩
  all_goals grind
def Good(pre:aa Oper)(acc:Array Nat):Prop:=acc.size=pre.length/\∀j i,(acc.getD j 0).testBit i=true ->
 ∃o e,pre[j]? = some o/\e∈o.after/\Region.binds .any e=true/\(e.on=i\/(e.on<j/\(acc.getD e.on 0).testBit i=true))
theorem Jr{A:Array Nat}{v:Nat}(h:j<A.size):(A.push v).getD j 0=A.getD j 0:=by simp[qj,Array.getElem?_push,Nat.ne_of_lt h]
theorem XM:∀(I C:aa Oper) (A:Array Nat),Good C A ->
  Good (C++I) (I.foldl (λA o=>A.push (o.after.foldl (λs e=>if Region.binds .any e then s ||| 2 ^ e.on ||| A.getD e.on 0 else s) 0)) A)
 | [],C,A,h=>by simpa using h
 |o::I,C,A,⟨h1,ap⟩=>by
  have:=XM I (C++[o]) (A.push (o.after.foldl (λs e=>if Region.binds .any e then s ||| 2 ^ e.on ||| A.getD e.on 0 else s) 0)) ?_
  ·simpa using this
  refine⟨ab,λj i V=>?_⟩;rcases zJ j A.size with N|N|N
  ·rw[Jr N]at V;obtain⟨a0,e,g1,Z,E,M⟩:=ap j i V;refine⟨a0,e,?_,Z,E,?_⟩
   ·grind
   ·rcases M with M|⟨M,f4⟩
    ·omega
    ·exact .inr ⟨M,by rw[Jr J];omega⟩
  ·subst N;have aG:(A.push (o.after.foldl (λs e=>if Region.binds .any e then s ||| 2 ^ e.on ||| A.getD e.on 0 else s) 0)).getD A.size 0=o.after.foldl (λs e=>if Region.binds .any e then s ||| 2 ^ e.on ||| A.getD e.on 0 else s) 0:=by simp[qj]
   rw[aG,<-zH]at V;rcases WZ (λk=>A.getD k 0) o.after.toList 0 i V with h|⟨e,g1,Z,E⟩
   ·grind
   ·refine⟨o,e,ab,ab,Z,?_⟩;rcases E with E|E
    ·omega
    ·right
     have D:e.on<A.size:=ab
     exact⟨D,by rw[Jr D];omega⟩
  grind
theorem Ou(a7:aa Oper)(j i:Nat):kk (j3 a7) j i=((Region.before ⟨a7⟩).getD j 0).testBit i:=by unfold kk j3;rw[iX];simp[qj]
theorem amw{a7:aa Oper}(h:kk (j3 a7) j i=true):∃o e,a7[j]? = some o/\e∈o.after/\Region.binds .any e=true/\(e.on=i\/(e.on<j/\kk (j3 a7) e.on i=true)):=by
 rw[Ou]at h;have A:Good a7 (Region.before ⟨a7⟩):=by have:=XM a7 [] #[] ⟨rfl,λj i h=>ab⟩;unfold Region.before;rw[<-zH];simpa using this
 obtain⟨o,e,D,C,E,I⟩:=A.2 j i h;exact⟨o,e,D,C,E,by rw[Ou];omega⟩
theorem YY(look:Nat->Nat):∀(A:aa Edge) (s:Nat),(∀i,s.testBit i=true->(A.foldl (λs e=>if Region.binds .any e then s ||| 2 ^ e.on ||| look e.on else s) s).testBit i=true) /\
  ∀e∈A,Region.binds .any e=true->(A.foldl (λs e=>if Region.binds .any e then s ||| 2 ^ e.on ||| look e.on else s) s).testBit e.on=true
 | [],s=>ab
 |x::A,s=>by
  obtain⟨D,C⟩:=YY look A (if Region.binds .any x then s ||| 2 ^ x.on ||| look x.on else s)
  grind
theorem XN:∀(E C:aa Oper) (A:Array Nat),A.size=C.length->(∀j o e,C[j]? = some o->e∈o.after->Region.binds .any e=true->(A.getD j 0).testBit e.on=true) ->
  ∀(j:Nat) (o:Oper) (e:Edge),(C++E)[j]? = some o->e∈o.after->Region.binds .any e=true ->
   ((E.foldl (λA o=>A.push (o.after.foldl (λs e=>if Region.binds .any e then s ||| 2 ^ e.on ||| A.getD e.on 0 else s) 0)) A).getD j 0).testBit e.on=true
 | [],C,A,_,h,j,o,e,V,N,I=>ab
 |x::E,C,A,M,h,j,o,e,V,N,I=>by
  refine XN E (C++[x]) (A.push (x.after.foldl (λs e=>if Region.binds .any e then s ||| 2 ^ e.on ||| A.getD e.on 0 else s) 0)) ab (λj o e V N I=>?_) j o e ab N I;rcases zJ j C.length with D|D|D
  ·rw[Jr J]
   grind
  ·have Z:x=o:=ab
   subst Z;have aG:(A.push (x.after.foldl (λs e=>if Region.binds .any e then s ||| 2 ^ e.on ||| A.getD e.on 0 else s) 0)).getD j 0=x.after.foldl (λs e=>if Region.binds .any e then s ||| 2 ^ e.on ||| A.getD e.on 0 else s) 0:=by rw[D,<-M];simp[qj]
   rw[aG,<-zH];exact(YY (λk=>A.getD k 0) x.after.toList 0).2 e ab I
  grind
theorem amx{a7:aa Oper}{e:Edge}(D:a7[j]? = some o)(C:e∈o.after)(A:Region.binds .any e=true):kk (j3 a7) j e.on=true:=by
 rw[Ou];have:=XN a7 [] #[] rfl ab j o e ab C A;unfold Region.before
 grind
theorem W0{a7:aa Oper}{L:Nat->Prop}(C:∀j o e,L j->a7[j]? = some o->e∈o.after->Region.binds .any e=true->L e.on):∀(j:Nat),(∀o e,a7[j]? = some o->e∈o.after->Region.binds .any e=true->L e.on) ->
  ∀i,kk (j3 a7) j i=true->L i:=by
 intro j
 induction j using Nat.strongRecOn with
 |_ j eY =>
  intro M i aO;obtain⟨o,e,h1,I,aM,A⟩:=amw aO;have D:=M o e h1 I aM;rcases A with A|⟨A,E⟩
  ·rw[<-A];exact D
  ·exact eY e.on A (λZ V N g2 c6=>C e.on Z V D N g2 c6) i E
structure tF (P:Program) (a7:aa Oper) (bJ:aa eR):Prop where
 step:∀(p:Nat) (s:eR),bJ[p]? = some s->a7[s.i]? = some s.o/\oS P s.o.op=some s.k/\s.vl=KZ P a7 (j3 a7) ((bJ.take p).map (·.i)) s.i
 cover:∀(i:Nat),i<a7.length->∃(p:Nat) (s:eR),bJ[p]? = some s/\s.i=i
 inside:∀(j:Nat) (o:Oper) (e:Edge),a7[j]? = some o->e∈o.after->Region.binds .any e=true->e.on<j
 pair:∀(p q:Nat) (s t:eR),p<q->bJ[p]? = some s->bJ[q]? = some t->Ah P a7 (j3 a7) s.i t.i=true
 len:bJ.length=a7.length
theorem RQ(m k:Nat):kN m k=m.testBit k:=by
 show Nat.beq ((m >>> k) &&& 1) 1=(1 &&& (m >>> k) != 0)
 rw[Nat.and_comm 1,Jc];rcases Nat.mod_two_eq_zero_or_one (m >>> k)with h|h <;> rw[h] <;> rfl
theorem aaW{C:aa Nat}{A:Array Nat}(E:A.toList=C):∀(D:aa Edge) (s:Nat),Li C D s=D.foldl (λs e=>if Region.binds .any e then s ||| 2 ^ e.on ||| A.getD e.on 0 else s) s
 | [],s=>rfl
 |e::D,s=>by
  have I:(g3 C e.on).getD 0=A.getD e.on 0:=by rw[iX,<-E];simp[qj]
  show Li C D _=_;rw[aaW E D,E4,I];cases Region.binds .any e <;> rfl
theorem YZ:∀(D:aa Oper) (C:aa Nat) (A:Array Nat),A.toList=C ->
  (D.foldl (λC o=>C.push (o.after.foldl (λs e=>if Region.binds .any e then s ||| 2 ^ e.on ||| C.getD e.on 0 else s) 0)) A).toList=KW D C
 | [],C,A,h=>h
 |o::D,C,A,h=>by rw[E4];refine YZ D _ _ ?_;rw[Array.toList_push,h,kh,aaW h,<-zH]
theorem akb(a7:aa Oper):KW a7 []=j3 a7:=by unfold j3 Region.before;rw[<-YZ a7 [] #[] rfl,<-zH]
def wR(P:Program)(a7:aa Oper)(x:hY):Prop:=a7[x.i]? = some x.o/\oS P x.o.op=some x.k/\x.e=GV P x.o/\x.Ev=Dj x.o.dst/\x.lT=Sj a7 x.o/\g3 (j3 a7) x.i=some x.am
theorem aaX{P:Program}{all:aa Oper}:∀(C:aa Oper) (i1:aa Nat) (j:Nat) (D:aa hY),Lk P all j C i1=some D->(∀k o,C[k]? = some o->all[j+k]? = some o)->(∀k a,i1[k]? = some a->g3 (j3 all) (j+k)=some a)->∀x∈D,wR P all x
 | [],i1,j,D,h,_,_,x,A=>by cases i1 <;> cases h <;> cases A
 |o::C,[],j,D,h,_,_,x,A=>by cases h;cases A
 |o::C,a::i1,j,D,h,N,M,x,A=>by
  simp only[Lk,jE,l9]at h;obtain⟨k,E,I,h,rfl⟩:=h;rcases gQ.1 A with rfl|A
  ·exact⟨by simpa using N 0 o rfl,E,by simp[GV,E],rfl,rfl,by simpa using M 0 a rfl⟩
  ·refine aaX C i1 (j+1) I h (λk V E=>?_) (λk Z E=>?_) x A
   ·have:=N (k+1) V ab
    grind
   ·have:=M (k+1) Z ab
    grind
theorem Ov{C j1:Nat}:∀{l:aa hY} {x:hY},x∈GR C j1 l->x∈l
 | [],x,h=>by cases h
 |y::l,x,h=>by
  unfold GR at h;cases A:(kN C y.i&&!kN j1 y.i)with
  |true =>
   rw[A]at h;rcases gQ.1 h with rfl|h
   ·grind
   ·exact mG _ (Ov h)
  |false=>rw[A]at h;exact mG _ (Ov h)
theorem Ow{j1:Nat}:∀{l:aa hY} {x:hY},x∈GS j1 l->x∈l
 | [],x,h=>by cases h
 |y::l,x,h=>by
  unfold GS at h;cases A:kN j1 y.i with
  |false =>
   rw[A]at h;rcases gQ.1 h with rfl|h
   ·grind
   ·exact mG _ (Ow h)
  |true=>rw[A]at h;exact mG _ (Ow h)
theorem Of{all:aa hY}:∀{l:aa hY} {j1:Nat} {x:hY},(∀y∈l,y∈all)->x∈tt all l j1->x∈all
 | [],j1,x,_,h=>Ow h
 |y::l,j1,x,C,h=>by
  unfold tt at h;cases A:(y.e&&!kN j1 y.i)with
  |false=>rw[A]at h;exact Of ab h
  |true =>
   rw[A]at h;simp only[qm,kh,hp,gQ]at h;rcases h with h|rfl|h
   ·exact Ov h
   ·grind
   ·exact Of ab h
theorem JS{t:Nat}(h:t∈d.toList):(Dj d).testBit t=true:=by
 cases d with
 |none=>cases h
 |some d =>
  simp at h;subst h;show(2 ^ t).testBit t=true;simp
theorem FO{t:Nat}:∀{xs:aa Operand},t∈(xs.filterMap λ| .tmp t=>some t|_=>none)->(Dk xs).testBit t=true
 | [],h=>ab
 |x::xs,h=>by
  rw[List.filterMap_cons]at h;cases x with
  |tmp A =>
   simp only[gQ]at h;show(2 ^ A ||| Dk xs).testBit t=true;rw[Fb];rcases h with rfl|h
   ·simp
   ·rw[FO h];simp
  |const v=>exact FO (xs:=xs) h
  |global g=>exact FO (xs:=xs) h
  |func f=>exact FO (xs:=xs) h
theorem Y0{a7:List Oper}{t:Nat}(h:t∈nW a7 o):(Sj a7 o).testBit t=true:=by
 unfold nW at h;show(Dj o.dst ||| (Dk o.op.operands.toList ||| Lj a7 o.guard)).testBit t=true;rw[Fb,Fb];simp only[hp]at h;rcases h with(h|h)|h
 ·rw[JS h];rfl
 ·rw[FO h];simp
 ·have:(Lj a7 o.guard).testBit t=true:=by
   unfold Lj
   split at h
   ·rename_i g b C
    cases A:g3 a7 g with
    |none=>grind
    |some D =>
     rw[A]at h;simp only[C,A];exact JS h
   grind
  grind
theorem Y1{a t:Nat}(h:Sk a b=true)(C:a.testBit t=true)(A:b.testBit t=true):False:=by
 have:a &&& b=0:=gm h;have D:(a &&& b).testBit t=true:=ab
 grind
theorem amy{P:Program}{a7:aa Oper}(aY:wR P a7 x)(cd:wR P a7 y)(h:C7 x y=true):Ah P a7 (j3 a7) x.i y.i=true:=by
 obtain⟨Z,iQ,hI,uh,V,N⟩:=aY;obtain⟨M,cE,cg,df,d8,eh⟩:=cd;unfold C7 at h;simp only[eB]at h;obtain⟨⟨⟨h1,ap⟩,aM⟩,A⟩:=h;have D:∀k,kN x.am k=kk (j3 a7) x.i k:=λk=>by unfold kk;rw[N,RQ];rfl
 have C:∀k,kN y.am k=kk (j3 a7) y.i k:=λk=>by unfold kk;rw[eh,RQ];rfl
 rw[D]at ap;rw[C]at aM A;have hey:sj P a7 y.i=y.e:=by unfold sj;rw[iX,M,cg];rfl
 unfold Ah;simp only[eB];refine⟨ab,?_⟩;rw[iX,iX,Z,M];simp only[Bool.or_eq_true,eB]at A ⊢;rcases A with A|⟨A,I⟩
 ·grind
 ·right
  constructor
  ·rw[Cd];intro d E;cases a1:(nW a7 y.o).contains d with
   |false=>rfl
   |true =>
    exfalso;rw[uh,d8]at A;exact Y1 A (JS E) (Y0 ab)
  ·rw[Cd];intro d E;cases a1:(nW a7 x.o).contains d with
   |false=>rfl
   |true =>
    exfalso;rw[df,V]at I;exact Y1 I (JS E) (Y0 ab)
theorem aaY{x:hY}:∀{l:aa hY},Dl x l=true->∀y∈l,C7 x y=true
 | [],_,y,A=>ab
 |z::l,h,y,A=>by
  unfold Dl at h;obtain⟨D,C⟩:C7 x z=true/\Dl x l=true:=ab
  rcases gQ.1 A with rfl|A
  ·omega
  ·exact aaY C y A
theorem XO:∀{l:aa hY},Gx l=true->∀(p q:Nat) (x y:hY),p<q->l[p]? = some x->l[q]? = some y->C7 x y=true
 | [],_,p,q,x,y,_,h,_=>ab
 |z::l,h,p,q,x,y,D,aj,A=>by
  unfold Gx at h;obtain⟨E,C⟩:Dl z l=true/\Gx l=true:=ab
  cases q with
  |zero=>omega
  |succ q =>
   have A:l[q]? = some y:=ab
   cases p with
   |zero=>simp at aj;subst aj;exact aaY E y ab
   |succ p=>exact XO C p q x y J ab A
theorem Y2{i:Nat}:∀{l:aa hY},(AJ l).testBit i=true->∃x∈l,x.i=i
 | [],h=>by simp[AJ]at h
 |x::l,h=>by
  have h:(2 ^ x.i ||| AJ l).testBit i=true:=h;rw[Fb]at h;simp only[Bool.or_eq_true]at h;rcases h with h|h
  ·grind
  ·obtain⟨y,C,A⟩:=Y2 h
   grind
theorem aaZ{j:Nat}:∀{C:aa Edge},AK j C=true->∀e∈C,Region.binds .any e=true->e.on<j
 | [],_,e,A,_=>ab
 |x::C,h,e,A,D=>by
  unfold AK at h;obtain⟨E,I⟩:(!Region.binds .any x||Nat.blt x.on j)=true/\AK j C=true:=ab
  rcases gQ.1 A with rfl|A
  ·rw[D]at E;simpa[v6]using E
  ·exact aaZ I e A D
theorem aa0:∀{A:aa Oper} {j:Nat},Hd j A=true->∀k o,A[k]? = some o->AK (j+k) o.after.toList=true
 | [],j,_,k,o,h=>ab
 |x::A,j,h,k,o,D=>by
  unfold Hd at h;obtain⟨E,C⟩:AK j x.after.toList=true/\Hd (Nat.succ j) A=true:=ab
  cases k with
  |zero=>grind
  |succ k =>
   have:=aa0 C k o ab
   grind
theorem aa1{P:Program}{a7:aa Oper}{y:hY}(A:wR P a7 y):∀{b:aa hY},(∀x∈b,wR P a7 x)->He y.am b=((b.map (·.i)).filter (λe=>sj P a7 e&&!kk (j3 a7) y.i e)).length
 | [],_=>rfl
 |x::b,h=>by
  have Z:=aa1 A (b:=b) λz N=>h z ab;obtain⟨C,iQ,E,V,M,I⟩:=h x ab;have D:sj P a7 x.i=x.e:=by unfold sj;rw[iX,C,E];rfl
  have aO:kk (j3 a7) y.i x.i=kN y.am x.i:=by unfold kk;rw[A.2.2.2.2.2,RQ];rfl
  unfold He
  grind
theorem WE{P:Program}{a7:aa Oper}:∀{l b:aa hY},(∀x∈l,wR P a7 x)->(∀x∈b,wR P a7 x)->(sl b l).map (·.i)=l.map (·.i) /\
  ∀p s,(sl b l)[p]? = some s->a7[s.i]? = some s.o/\oS P s.o.op=some s.k/\s.vl=KZ P a7 (j3 a7) ((b.reverse.map (·.i))++((sl b l).take p).map (·.i)) s.i
 | [],b,_,_=>⟨rfl,λp s A=>by simp[sl]at A⟩
 |x::l,b,E,I=>by
  have D:=E x ab;obtain⟨N,M⟩:=WE (l:=l)  (λz C=>E z ab) (λz C=>by
   rcases gQ.1 C with rfl|C
   ·exact D
   ·exact I z C)
  refine⟨by simp[sl,N],λp s A=>?_⟩;cases p with
  |zero =>
   simp[sl]at A;subst A;refine⟨D.1,D.2.1,?_⟩;unfold KZ;rw[aa1 D I]
   grind
  |succ p =>
   have:=M p s (by simpa[sl]using A);simpa[sl]using this
theorem air{P:Program}{a7:aa Oper}{bJ:aa eR}(h:QW P a7=some bJ):tF P a7 bJ:=by
 obtain⟨I,A4,h⟩:=jE.1 h;have Z:∀x∈I,wR P a7 x:=aaX a7 _ 0 I A4 ab (λk a hk=>by rw[<-akb,iX];grind);have A:∀x∈tt I I 0,wR P a7 x:=λx M=>Z x (Of ab M);generalize tt I I 0=l at h A;obtain⟨V,js⟩:=tk h;simp only[eB]at V;obtain⟨C,D,N,E⟩:=V;cases js;obtain⟨h1,ap⟩:=WE A (b:=[]) (λx M=>by cases M);have C:l.length=a7.length:=by have:=gm C;rwa[oD,oD]at this
 have D:AJ l=2 ^ a7.length-1:=by have:=gm D;rw[oD]at this;omega
 have u:∀(p:Nat) (s:eR),(sl [] l)[p]? = some s->∃x,l[p]? = some x/\x.i=s.i:=λp s bg=>by
  have:=congrArg (λz=>z[p]?) h1
  grind
 refine⟨ab,λi aj=>?_,λj o e fw bP aO=>?_,λp q s t HH aq ci=>?_,?_⟩
 ·have aO:(AJ l).testBit i=true:=ab
  obtain⟨x,M,rfl⟩:=Y2 aO;have bp:x.i∈(sl [] l).map (·.i):=ab
  obtain⟨s,aq,bP⟩:=fz.1 bp;obtain⟨p,bg⟩:=EV aq
  grind
 ·have:=aa0 N j o fw;rw[iV]at this;exact aaZ this e ab aO
 ·obtain⟨x,M,ex⟩:=u p s aq;obtain⟨y,cd,IE⟩:=u q t ci;rw[<-ex,<-IE];exact amy (A x ab) (A y ab) (XO E p q x y HH M cd)
 ·have:=congrArg List.length h1
  grind
structure lX where
 ak:cc
 h:ae
 U:Nat
 b:ae
 aq:aa ae
def C9(st gp:lX):Prop:=gp.h=st.h/\gp.U=st.U/\gp.b=st.b/\gp.aq=st.aq
noncomputable def mJ (all:aa Oper) (o:Oper) (ak:cc):al:=match zk all o.guard with
 |some g=>u3 g ak
 |none=>false
def tW(v:X)(h:ae)(U:Nat):bR:=λa b c=>a=v/\b=h/\c=U
inductive adb (P:Program) (all:List Oper) (s:eR) (st gp:lX) (v:Option Value):Prop
 |skip (b0:mJ all s.o st.ak=false) (hk:je s.k=false) (aG:v=none) (aO:C9 st gp)
 |uS (b0:mJ all s.o st.ak=false) (hk:je s.k=true) (aG:v=none) (eZ:gp.h=st.h) (bv:gp.U=st.U) (aO:gp.b=st.h) (yW:gp.aq=st.b::st.aq)
 |fu (b0:mJ all s.o st.ak=true) (e:ID) (hk:s.k = .fu e) (aI:Value) (aG:v=some aI) (bP:pG P st.ak e = .ok aI) (aO:C9 st gp)
 |io (b0:mJ all s.o st.ak=true) (e:Eu) (hk:s.k = .io e) (cY:kM) (bP:Dn st.ak e = .ok cY) (aG:v=some (wW st.U cY)) (eZ:gp.h=F st.h st.U (sA cY)) (bv:gp.U=st.U+1) (aO:gp.b=st.b) (yW:gp.aq=st.aq)
 |red (b0:mJ all s.o st.ak=true) (e:Hu) (hk:s.k = .red e) (aI:Value) (aG:v=some aI) (bP:pred P st.ak e st.b = .ok aI) (cW:∀k,k<s.vl->∃h,st.aq[k]? = some h/\pred P st.ak e h = .ok aI) (aO:C9 st gp)
 |fv (b0:mJ all s.o st.ak=true) (e:vH) (hk:s.k = .fv e) (aI:Value) (aG:v=some aI) (bP:o8 P false e st.ak st.h st.U (tW aI gp.h gp.U)) (bv:st.U<=gp.U) (aO:gp.b=gp.h) (yW:gp.aq=st.b::st.aq)
structure HI (P:Program) (all:aa Oper) (s:eR) (st gp:lX) (v:aw X):Prop where
 ok:adb P all s st gp v
 g:∃g,zk all s.o.guard=some g/\LY g st.ak
 lT:∀d,hq gp.ak d=if s.o.dst=some d then some v else hq st.ak d
theorem HI.wD{P:Program}{s:eR}{st N:lX}{v:aw X}(h:HI P all s st N v):st.U<=N.U:=by
 cases h.ok with
 |skip D C M A=>rw[A.2.1];omega
 |uS D C M eZ Z A I=>omega
 |fu D e C E M V A=>rw[A.2.1];omega
 |io D e C cY V M eZ Z A I=>omega
 |red D e C E M V cW A=>rw[A.2.1];omega
 |fv D e C E M V Z A I=>omega
theorem akc(ak:cc)(dst:aw Nat)(v:aw X)(d:Nat):hq (ep ak dst v) d=if dst=some d then some v else hq ak d:=by
 cases dst with
 |none=>rfl
 |some t=>show hq ((t,v)::ak) d=_;rw[Fz];simp
theorem QZ{f:ae->R X}{v:X}{p:Prop}:∀{n:Nat} {aq:aa ae},oT f v p n aq->(∀k,k<n->∃h,aq[k]? = some h/\f h = .ok v)/\p
 |0,aq,h=>⟨λk E=>J,h⟩
 |n+1,[],h=>h.elim
 |n+1,C::aq,⟨A,I⟩=>by
  obtain⟨N,M⟩:=QZ I;refine⟨λk E=>?_,M⟩;cases k with
  |zero =>
   refine⟨C,rfl,?_⟩;unfold nd at A;cases D:f C with
   |no w=>rw[D]at A;cases A
   |ok x=>rw[D]at A;rw[YV A]
  |succ k=>exact N k J
theorem tW.self(v:X)(h:ae)(U:Nat):tW v h U v h U:=⟨rfl,rfl,rfl⟩
section
variable {P:Program}
theorem Gb{ak:cc}{U:Nat}{b:ae}{k:cc->ae->Nat->ae->aa ae->Prop}:mQ P d c (.fv e) ak h U b aq k=o8 P true e ak h U λv A Y=>U<=Y/\k (ep ak d (some v)) A Y A (b::aq):=by
 cases e <;> first|rfl|simp only[mQ,o8,cD,true_and]
def Da(C:bR->Prop)(C':bR->Prop)(k:bR):Prop:=∃v h U,k v h U/\C (tW v h U)/\∀di,di v h U->C' di
theorem adc{C:bR->Prop}(h:uf true C k):Da C (uf true C) k:=by obtain⟨v,h,U,E,A⟩:=h;exact⟨v,h,U,E,A,λdi D=>⟨v,h,U,D,A⟩⟩
theorem aa2(h:fh P true r k):Da (fh P false r) (fh P true r) k:=by
 cases r <;> first|exact adc h|exact h.elim
theorem Q0(h:dD r k):Da (dD r) (dD r) k:=by
 cases r <;> first|exact⟨_,_,_,h,tW.self _ _ _,λ_ h=>h⟩|exact h.elim
theorem Q1{ak:cc}{U:Nat}(C:o8 P true e ak h U k):Da (o8 P false e ak h U) (o8 P true e ak h U) k:=by
 have A:∀{az:Type} {r:R az} {f:az->Prop} {g ck:az->bR->Prop},af r f->(∀x,f x->Da (g x) (ck x) k)->Da (λk=>af r (λx=>g x k)) (λk=>af r (λx=>ck x k)) k:=λ{az r f g ck} D ap=>by obtain⟨x,rfl,D⟩:=f6 D;exact ap x D
 cases e with
 |st n a x=>exact A C λ_ h=>A h λ_ h=>A h λE h=>⟨_,_,_,h,tW.self _ _ _,λ_ h=>h⟩
 |yQ t m k x=>exact A C λ_ h=>A h λ_ h=>A h λ_ h=>A h λE h=>⟨_,_,_,h,tW.self _ _ _,λ_ h=>h⟩
 |hd x=>exact A C λ_ h=>Q0 h
 |fH x=>exact A (g:=λx k=>vm false h U x k) (ck:=λx k=>vm true h U x k) C λ_ h=>by obtain⟨_,_,_,_,_,_,_,h,_⟩:=h;cases h
 |call f args=>exact A C λ_ h=>adc h
 |Aw f args=>exact A C λ_ h=>A h λ_ h=>aa2 h
 |app z x y=>exact A C λ_ h=>A h λ_ h=>Q0 h
 |bi b I args=>exact A C λ_ h=>Q0 h
 |inv r m args=>exact A C λ_ h=>A h λ_ h=>aa2 h
theorem aff{all:aa Oper}{K:cc->ae->Nat->Prop}:∀(bJ:aa eR) (is:aa lV) (st:lX),Gy all bJ=some is->ie P is st.ak st.h st.U st.b st.aq K ->
  ∃(bs:Nat->lX) (val:Nat->aw X),(tE st.ak (bs 0).ak/\C9 st (bs 0))/\(∀j s,bJ[j]? = some s->HI P all s (bs j) (bs (j+1)) (val j))/\K (bs bJ.length).ak (bs bJ.length).h (bs bJ.length).U
 | [],is,st,a1,h=>by cases a1;exact⟨λ_=>st,λ_=>none,⟨λ_=>rfl,rfl,rfl,rfl,rfl⟩,λj s bZ=>by simp at bZ,h⟩
 |s::bJ,is,st,a1,h=>by
  simp only[Gy,jE,l9]at a1;obtain⟨g,a9,I,HF,rfl⟩:=a1;have h:ku g st.ak (λak=>mQ P s.o.dst s.vl s.k ak st.h st.U st.b st.aq λak h U b aq=>ie P I ak h U b aq K)
   (λak=>Bool.rec (ie P I (ep ak s.o.dst none) st.h st.U st.b st.aq K) (ie P I (ep ak s.o.dst none) st.h st.U st.h (st.b::st.aq) K) (je s.k)):=h
  obtain⟨HG,ak,oa,oL⟩:=afe h;have ayQ:LY g ak:=λd w e=>by rw[oa d];exact HG d w e
  have L0:u3 g ak=u3 g st.ak:=by unfold u3;split <;> simp[oa _]
  have go:∀(E:lX) (v:aw X),ie P I E.ak E.h E.U E.b E.aq K->(∀D,C9 E D->adb P all s ⟨ak,st.h,st.U,st.b,st.aq⟩ D v)->E.ak=ep ak s.o.dst v ->
    ∃(bs:Nat->lX) (val:Nat->aw X),(tE st.ak (bs 0).ak/\C9 st (bs 0))/\(∀j t,(s::bJ)[j]? = some t->HI P all t (bs j) (bs (j+1)) (val j))/\K (bs (s::bJ).length).ak (bs (s::bJ).length).h (bs (s::bJ).length).U:=by
   intro E v ac aq oW;obtain⟨bs,val,⟨au,Tp⟩,h1,ap⟩:=aff bJ I E HF ac;refine⟨λj=>match j with|0=>⟨ak,st.h,st.U,st.b,st.aq⟩|j+1=>bs j,λj=>match j with|0=>v|j+1=>val j,⟨oa,rfl,rfl,rfl,rfl⟩,λj t bZ=>?_,ap⟩;cases j with
   |zero =>
    simp at bZ;subst bZ;exact⟨aq _ Tp,⟨g,a9,ayQ⟩,λd=>by show hq (bs 0).ak d=_;rw[au d,oW,akc]⟩
   |succ j=>exact h1 j t ab
  have V:mJ all s.o ak=u3 g st.ak:=by unfold mJ;rw[a9];exact L0
  rcases oL with⟨aO,h⟩|⟨aO,h⟩ <;> rw[aO]at V
  ·cases M:s.k with
   |fu e =>
    rw[M]at h;have h:af (pG P ak e) λv=>ie P I (ep ak s.o.dst (some v)) st.h st.U st.b st.aq K:=by
     cases e <;> first|exact h|skip
     obtain⟨c,h1,N⟩:=f6 h;obtain⟨a,ap,N⟩:=f6 N;obtain⟨b,aM,N⟩:=f6 N;simp only[pG,h1,ap,aM,R.bind];rcases tx N with⟨rfl,N⟩|⟨rfl,N⟩ <;> exact N
    obtain⟨C,Z,h⟩:=f6 h;exact go ⟨ep ak s.o.dst (some C),st.h,st.U,st.b,st.aq⟩ (some C) h (λD A=>.fu V e M C rfl Z A) rfl
   |io e =>
    rw[M]at h;obtain⟨cY,Z,h⟩:=f6 h;exact go ⟨ep ak s.o.dst (some (wW st.U cY)),F st.h st.U (sA cY),st.U+1,st.b,st.aq⟩ _ h (λD A=>.io V e M cY Z rfl A.1 A.2.1 A.2.2.1 A.2.2.2) rfl
   |red e =>
    rw[M]at h;obtain⟨C,Z,h⟩:=f6 h;have h:oT (pred P ak e) C (ie P I (ep ak s.o.dst (some C)) st.h st.U st.b st.aq K) s.vl st.aq:=by cases a1:s.vl <;> rw[a1]at h <;> exact h
    obtain⟨cW,h⟩:=QZ h;exact go ⟨ep ak s.o.dst (some C),st.h,st.U,st.b,st.aq⟩ (some C) h (λD A=>.red V e M C rfl Z cW A) rfl
   |fv e =>
    rw[M]at h;rw[Gb]at h;obtain⟨C,ac,Y,⟨bv,h⟩,Z,_⟩:=Q1 h;refine go ⟨ep ak s.o.dst (some C),ac,Y,ac,st.b::st.aq⟩ (some C) h (λD A=>.fv V e M C rfl ?_ ?_ ?_ A.2.2.2) rfl
    ·rw[A.1,A.2.1];exact Z
    ·rw[A.2.1];exact bv
    ·rw[A.2.2.1,A.1]
  ·cases M:je s.k with
   |false =>
    rw[M]at h;exact go ⟨ep ak s.o.dst none,st.h,st.U,st.b,st.aq⟩ none h (λD A=>.skip V M rfl A) rfl
   |true =>
    rw[M]at h;exact go ⟨ep ak s.o.dst none,st.h,st.U,st.h,st.b::st.aq⟩ none h (λD A=>.uS V M rfl A.1 A.2.1 A.2.2.1 A.2.2.2) rfl
end
def cut(ai:b5)(n:Nat):b5:=λb=>if b<n then ai b else none
theorem oI{ai:b5}(h:b<n):cut ai n b=ai b:=by simp[cut,h]
theorem pu{ai:b5}(h:n<=b):cut ai n b=none:=by simp[cut,Nat.not_lt.2 h]
theorem Q2(ai:b5)(n:Nat):jQ (cut ai n) n:=λb h=>pu h
theorem PP(ai:b5)(h:n<=m):Sub (cut ai n) (cut ai m):=λb p A=>by
 by_cases C:b<n
 ·rw[oI C]at A;rw[oI J];omega
 ·rw[pu J]at A;grind
theorem aqb(ai:b5)(h:jQ ai n):cut ai n=ai:=funext λb=>by
 by_cases A:b<n
 ·exact oI A
 ·rw[pu J,h b J]
structure ob (P:Program) (a7:Array Oper) (bJ:aa eR) (bs:Nat->lX) (val:Nat->aw X):Prop where
 k0:tF P a7.toList bJ
 iG:∀(j:Nat) (s:eR),bJ[j]? = some s->HI P a7.toList s (bs j) (bs (j+1)) (val j)
def hQ(cA:Array al)(i:Nat):Prop:=cA.getD i false=true
structure r1 (a7:Array Oper) (cA:Array al):Prop where
 size:cA.size=a7.size
 closed:∀(j:Nat) (o:Oper) (e:Edge),hQ cA j->a7.toList[j]? = some o->e∈o.after->Region.binds .any e=true->hQ cA e.on
theorem qn:hQ (cA.setIfInBounds i true) j↔(j=i/\i<cA.size)\/hQ cA j:=by
 unfold hQ
 by_cases e:j=i
 ·subst e
  by_cases A:j<cA.size
  ·simp[qj,zD,A]
  grind
 ·simp[qj,zD,kB e,e]
section
variable {P:Program} {a7:Array Oper} {bJ:aa eR} {bs:Nat->lX} {val:Nat->aw X}
theorem ob.wD(R:ob P a7 bJ bs val){i:Nat}:∀{j:Nat},i<=j->j<=bJ.length->(bs i).U<=(bs j).U
 |0,h,_=>ab
 |j+1,h,A=>by
  by_cases e:i=j+1
  ·grind
  ·have aq:bJ[j]? = some (bJ[j]'J):=ab
   exact h7 (R.wD J J) (R.iG j _ aq).wD
theorem tF.ne(R:tF P a7.toList bJ){s:eR}(M:bJ[p]? = some s)(I:bJ[q]? = some t)(h:p≠q):s.i≠t.i:=by
 have D:∀(p q:Nat) (s t:eR),p<q->bJ[p]? = some s->bJ[q]? = some t->s.i≠t.i:=λp q s t A aq C=>by
  have:=R.pair p q s t A aq C;unfold Ah at this;simp only[eB]at this;have E:=this.1.1.1;intro e;rw[e,uC]at E
  grind
 grind
theorem tF.apart(R:tF P a7.toList bJ){s:eR}(A:p<q)(aq:bJ[p]? = some s)(C:bJ[q]? = some t):
  kk (j3 a7.toList) t.i s.i=true\/((∀d,s.o.dst=some d->d ∉ nW a7.toList t.o)/\∀d,t.o.dst=some d->d ∉ nW a7.toList s.o):=by
 have:=R.pair p q s t A aq C;unfold Ah at this;simp only[eB]at this;have D:=this.2;rw[iX,iX,(R.step p s aq).1,(R.step q t C).1]at D
 grind
theorem tF.fv(R:tF P a7.toList bJ){s:eR}(A:p<q)(aq:bJ[p]? = some s)(C:bJ[q]? = some t)(E:je t.k=true):kk (j3 a7.toList) t.i s.i=true:=by
 have:=R.pair p q s t A aq C;unfold Ah at this;simp only[eB]at this;have D:=R.step q t C;have I:sj P a7.toList t.i=true:=by unfold sj;rw[iX,D.1];simp only[E8,Jj,GV];rw[D.2.1];exact E
 grind
theorem tF.after(R:tF P a7.toList bJ){s:eR}(A:p<q)(aq:bJ[p]? = some s)(C:bJ[q]? = some t):kk (j3 a7.toList) s.i t.i=false:=by
 have:=R.pair p q s t A aq C;unfold Ah at this
 grind
theorem r1.ahead(A:r1 a7 cA)(D:hQ cA j)(E:kk (j3 a7.toList) j i=true):hQ cA i :=
 W0  A.closed j (λo e I C M=>A.closed j o e D I C M) i E
theorem r1.Og(I:r1 a7 cA)(E:j∈Region.ready .any a7 cA)(M:kk (j3 a7.toList) j i=true):hQ cA i:=by
 obtain⟨_,o,V,A⟩:=mem_ready.1 E;refine W0  I.closed j (λZ e C D N=>?_) i M;have:a7.toList[j]? = some o:=ab
 rw[this]at C;cases C;exact A e D N
theorem r1.set(I:r1 a7 cA)(aj:i∈Region.ready .any a7 cA):r1 a7 (cA.setIfInBounds i true):=by
 obtain⟨_,o,V,A⟩:=mem_ready.1 aj;refine⟨by simpa using I.size,λj N e C D E M=>?_⟩;rw[qn]at C ⊢
 right
 rcases C with⟨rfl,_⟩|C
 ·have:a7.toList[j]? = some o:=ab
  rw[this]at D;cases D;exact A e E M
 ·exact I.closed j N e C D E M
def AQ(bJ:aa eR)(bs:Nat->lX)(cA:Array al)(ai:b5)(a:Act):Prop:=∀(j d:Nat),j<=bJ.length ->
 (∀(q:Nat) (s:eR),q<j->bJ[q]? = some s->s.o.dst=some d->hQ cA s.i)->(∀(q:Nat) (s:eR),j<=q->bJ[q]? = some s->s.o.dst=some d->¬hQ cA s.i) ->
 ∀v,hq (bs j).ak d=some v->bF (cut ai (bs j).U) (rs v) (a.tmps.getD d undef)
theorem aie{d:Tmp}(h:o.dst=some d):d∈nW all o:=by unfold nW;grind
theorem AQ.look(R:ob P a7 bJ bs val){ai:b5}(V:AQ bJ bs cA ai a)(N:r1 a7 cA){s:eR}(aq:bJ[p]? = some s)(M:s.i∈Region.ready .any a7 cA){d:Nat}(bj:d∈nW a7.toList s.o):∀v,hq (bs p).ak d=some v->bF (cut ai (bs p).U) (rs v) (a.tmps.getD d undef):=by
 have bg:p<bJ.length:=ab
 have D:¬hQ cA s.i:=by
  have au:=(mem_ready.1 M).1;unfold hQ
  grind
 refine V p d J (λq t I E A=>?_) (λq t I E A Z=>?_)
 ·rcases R.k0.apart I E aq with h|⟨h,_⟩
  ·exact N.Og M h
  ·exact absurd bj ab
 ·rcases h8 p q with C|C
  ·rcases R.k0.apart C aq E with h|⟨_,h⟩
   ·exact D (N.ahead Z h)
   grind
  grind
theorem AQ.step(R:ob P a7 bJ bs val){ai bn:b5}(e9:AQ bJ bs cA ai a)(a1:r1 a7 cA)(M:∀m,Sub (cut ai m) (cut bn m)){s:eR}(aq:bJ[p]? = some s)(bb:s.i∈Region.ready .any a7 cA){c:X}(aG:bF (cut bn (bs (p+1)).U) (rs (val p)) c)(V:∀d,s.o.dst=some d->d<a.tmps.size):
  AQ bJ bs (cA.setIfInBounds s.i true) bn (a.put s.o.dst c):=by
 have aBh:s.i<cA.size:=by
  obtain⟨_,o,fw,_⟩:=mem_ready.1 bb
  grind
 have rG:¬hQ cA s.i:=by
  have au:=(mem_ready.1 bb).1;unfold hQ
  grind
 intro j d bZ aO bE nz E
 by_cases Z:s.o.dst=some d
 ·
  have Tt:p<j:=by
   rcases h8 p j with h|h
   ·exact h
   ·exact absurd (qn.2 J) (bE p s h aq Z)
  have D:∀k,p+1+k<=j->hq (bs (p+1+k)).ak d=some (val p):=by
   intro k
   induction k with
   |zero =>
    intro _;rw[show p+1+0=p+1 from rfl,(R.iG p s aq).lT d,if_pos Z]
   |succ k eY =>
    intro hk;have C:bJ[p+1+k]? = some (bJ[p+1+k]'J):=ab
    generalize bJ[p+1+k]'J=t at C;have eS:t.o.dst≠some d:=λI=>by
     have N:=aO (p+1+k) t J C I;rw[qn]at N;rcases N with⟨h,_⟩|N
     ·exact R.k0.ne C aq J h
     ·rcases R.k0.apart J aq C with h|⟨h,_⟩
      ·exact rG (a1.ahead N h)
      ·exact h d Z (aie I)
    rw[show p+1+(k+1)=p+1+k+1 by omega,(R.iG _ t C).lT d,if_neg eS];exact eY J
  have htg:hq (bs j).ak d=some (val p):=by have:=D (j-(p+1)) J;rwa[show p+1+(j-(p+1))=j by omega]at this
  rw[htg]at E;cases E;have u:(a.put s.o.dst c).tmps.getD d undef=c:=by have:=V d Z;simp[Act.put,Z,qj,zD,this]
  rw[u];exact aG.mono (PP bn (R.wD J bZ))
 ·have u:(a.put s.o.dst c).tmps.getD d undef=a.tmps.getD d undef:=by
   cases L1:s.o.dst with
   |none=>rfl
   |some IG =>
    have:IG≠d:=ab
    simp[Act.put,qj,zD,this]
  rw[u];refine(e9 j d bZ (λq t C ci A=>?_) (λq t C ci A N=>?_) nz E).mono (M _)
  ·have:=aO q t C ci A;rw[qn]at this;rcases this with⟨h,_⟩|h
   ·exfalso;have:q=p:=by
     rcases Nat.decEq q p with ac | ac
     ·exact absurd h (R.k0.ne ci aq ac)
     omega
    grind
   ·exact h
  ·exact bE q t C ci A (qn.2 ab)
end
theorem d9.Y3{B:Nat}{ai:b5}{H:fp}{w:World}(D:d9 B ai H w){k:Nat}(h:wL B ai H k):k<w.heap.size:=by obtain⟨b,p,A,aq,rfl,_⟩:=h;obtain⟨x,C⟩:=lI.1 aq;exact(D.obj b p x A C).CP
section
variable {P:Program} {a7:Array Oper} {bJ:aa eR} {bs:Nat->lX} {val:Nat->aw X}
structure jW (P:Program) (a7:Array Oper) (bJ:aa eR) (bs:Nat->lX) (cA:Array al) (p:Nat) (s:eR) (cY:kM):Prop where
 at_:bJ[p]? = some s
 A5:hQ cA s.i
 want:mJ a7.toList s.o (bs p).ak=true
 ok:∃e,s.k = .io e/\Dn (bs p).ak e = .ok cY
theorem jW.lz{s:eR}(h:jW P a7 bJ bs cA p s cY):je s.k=false/\∃e,s.k = .io e:=by obtain⟨e,A,_⟩:=h.ok;exact⟨by rw[A];rfl,e,A⟩
theorem jW.next(R:ob P a7 bJ bs val){s:eR}(h:jW P a7 bJ bs cA p s cY):(bs (p+1)).U=(bs p).U+1/\(bs (p+1)).h=F (bs p).h (bs p).U (sA cY)/\(bs (p+1)).b=(bs p).b:=by
 have b0:=h.want;obtain⟨e,I,V⟩:=h.ok;cases(R.iG p s h.at_).ok with
 |skip D _ _ _=>grind
 |uS D _ _ _ _ _ _=>grind
 |fu _ C A _ _ _ _=>grind
 |red _ C A _ _ _ _ _=>grind
 |fv _ C A _ _ _ _ _ _=>grind
 |io _ C A M E aG Z N aO yW =>
  rw[I]at A;cases A;rw[V]at E;cases E;exact⟨N,Z,aO⟩
theorem jW.lt{s:eR}(h:jW P a7 bJ bs cA p s cY):p<bJ.length:=(hn.1 h.at_).1
theorem jW.afg(R:ob P a7 bJ bs val){s:eR}(h:jW P a7 bJ bs cA p s cY)(C:q<bJ.length)(A:p<q):(bs p).U<(bs q).U:=by have D:=(h.next R).1;have:=R.wD (J:p+1<=q) J;omega
structure lo (P:Program) (a7:Array Oper) (bJ:aa eR) (bs:Nat->lX) (B:Nat) (ip:b5) (gC:World) (cA:Array al) (c:Nat) (ai:b5) (w:World):Prop where
 le:c<=bJ.length
 done:∀(q:Nat) (s:eR),q<c->bJ[q]? = some s->hQ cA s.i
 hX:cx B ip (u (bs 0).h) gC (bs 0).U (bs c).U (cut ai (bs c).U) (u (bs c).h) w
 sub:∀(x:Nat) (o:fJ),u (bs c).b x=some o->u (bs c).h x=some o
 ext:∀(p:Nat) (s:eR) (cY:kM),c<=p->jW P a7 bJ bs cA p s cY->∃pl,ai (bs p).U=some pl/\kY B (cut ai ((bs p).U+1)) w pl (sA cY)/\gC.heap.size<=pl.co/\pl.co<w.heap.size/\¬wL B (cut ai (bs c).U) (u (bs c).h) pl.co
 oX:∀(p q:Nat) (s t:eR) (cY nb':kM) (pl A6:Place),c<=p->c<=q->jW P a7 bJ bs cA p s cY->jW P a7 bJ bs cA q t nb'->p≠q->ai (bs p).U=some pl->ai (bs q).U=some A6->pl.co≠A6.co
 yC:∀(b:Nat) (pl:Place),ai b=some pl->b<(bs c).U\/∃p s cY,c<=p/\jW P a7 bJ bs cA p s cY/\b=(bs p).U
theorem cx.awt{B:Nat}{ai bn:b5}{H:fp}{w:World}(A:cx B ip r0 gC ao aj ai H w){o:fJ}(bv:ai aj=none)(hρ:bn=λk=>if k=aj then some pl else ai k)(aBi:ip aj=none\/ao<=aj)(pP:kY B bn w pl o)(aO:gC.heap.size<=pl.co)(N:¬wL B ai H pl.co):cx B ip r0 gC ao (aj+1) bn (H.put aj o) w:=by
 subst hρ;have M:Sub ai (λk=>if k=aj then some pl else ai k):=λb q E=>ab
 have C:∀b q,b≠aj->(if b=aj then some pl else ai b)=some q->ai b=some q:=ab
 have oa:∀b,b≠aj->((H.put aj o) b).isSome->(H b).isSome:=λb e h=>by simpa[fp.put,e]using h
 refine⟨⟨A.rel.base,?_,?_,?_⟩,λb gK=>?_,A.size,A.os,A.tape,A.output,A.frame,?_,by have:=A.le;omega⟩
 ·intro b q x E aY
  by_cases e:b=aj
  ·subst e;simp[fp.put]at E aY;subst E;subst aY;exact pP
  ·have D:=C b q e E;have A0:H b=some x:=by simpa[fp.put,e]using aY
   exact(A.rel.obj b q x D A0).mono M rfl
 ·intro b Z q jy E D aq nn V I
  by_cases e:b=aj <;> by_cases dK:Z=aj
  ·omega
  ·subst e;simp at E;subst E;exact absurd ⟨Z,jy,ab,ab,I.symm,V⟩ N
  ·subst dK;simp at D;subst D;exact absurd ⟨b,q,ab,ab,I,J⟩ N
  ·exact A.rel.inj b Z q jy ab ab ab ab V I
 ·intro b aq
  by_cases e:b=aj
  ·grind
  ·simp only[e,ff];exact A.rel.kH b ab
 ·have dO:=A.le;have e:b≠aj:=J
  simp only[e,ff];exact A.agree b J
 ·rintro k ⟨b,q,E,aq,rfl,V⟩
  by_cases e:b=aj
  ·grind
  ·exact A.own _ ⟨b,q,ab,ab,rfl,V⟩
theorem lo.atX(R:ob P a7 bJ bs val){B:Nat}{ai:b5}{w:World}(M:lo P a7 bJ bs B ip gC cA c ai w){s:eR}(aq:bJ[c]? = some s)(bA:hQ cA s.i)(hk:je s.k=false\/mJ a7.toList s.o (bs c).ak=false):lo P a7 bJ bs B ip gC cA (c+1) ai w:=by
 have ct:c<bJ.length:=ab
 have I:∀(q:Nat) (t:eR),q<c+1->bJ[q]? = some t->hQ cA t.i:=λq t dt ci=>by
  rcases h8 q c with h|h
  ·exact M.done q t h ci
  ·have:q=c:=J
   subst this;rw[aq]at ci;cases ci;exact bA
 have quiet:(∀cY,¬jW P a7 bJ bs cA c s cY)->(bs (c+1)).h=(bs c).h->(bs (c+1)).U=(bs c).U->((bs (c+1)).b=(bs c).b\/(bs (c+1)).b=(bs c).h)->lo P a7 bJ bs B ip gC cA (c+1) ai w:=by
  intro hna eZ Z A;refine⟨ct,I,by rw[eZ,Z];exact M.hX,?_,?_,?_,?_⟩
  ·rw[eZ];rcases A with A|A
   ·rw[A];exact M.sub
   grind
  ·intro p t cY bg D;rw[eZ,Z];exact M.ext p t cY J D
  ·intro p q t mB cY V pl E bg dt;exact M.oX p q t mB cY V pl E J J
  ·intro b pl gK;rw[Z];rcases M.yC b pl gK with h|⟨p,t,cY,bg,D,bP⟩
   ·omega
   ·right
    refine⟨p,t,cY,?_,D,bP⟩;rcases h8 c p with h|h
    ·exact h
    ·have:p=c:=J
     subst this;have:=D.at_
     grind
 cases(R.iG c s aq).ok with
 |skip N C aG A=>exact quiet (λcY D=>by rw[D.want]at N;cases N) A.1 A.2.1 (.inl A.2.2.1)
 |uS N C aG eZ Z A yW=>exact quiet (λcY D=>by rw[D.want]at N;cases N) eZ Z (.inr A)
 |fu N e C aI aG bP A=>exact quiet (λcY D=>by obtain⟨_,dK,h⟩:=D.lz;rw[C]at h;cases h) A.1 A.2.1 (.inl A.2.2.1)
 |red N e C aI aG bP DN A=>exact quiet (λcY D=>by obtain⟨_,dK,h⟩:=D.lz;rw[C]at h;cases h) A.1 A.2.1 (.inl A.2.2.1)
 |fv N e C aI aG bP Z A yW =>
  rcases hk with hk|hk
  ·rw[C]at hk;cases hk
  ·rw[N]at hk;cases hk
 |io N e C cY bP aG eZ Z A yW =>
  have D:jW P a7 bJ bs cA c s cY:=⟨aq,bA,N,e,C,bP⟩
  obtain⟨pl,h1,ap,aM,bc,b3⟩:=M.ext c s cY J D;have Dr:cut ai ((bs c).U+1)=λk=>if k=(bs c).U then some pl else cut ai (bs c).U k:=by
   funext k
   by_cases e:k=(bs c).U
   ·subst e;rw[if_pos rfl,oI J,h1]
   ·rw[if_neg e]
    by_cases Lr:k<(bs c).U
    ·rw[oI Lr,oI J]
    ·rw[pu J,pu J]
  have kp:=cx.awt M.hX   (pu J) Dr (.inr M.hX.le) ap aM b3;have aA8:u (bs c).h (bs c).U=none:=by
   cases a9:u (bs c).h (bs c).U with
   |none=>rfl
   |some x =>
    have:=M.hX.rel.kH (bs c).U ab;rw[pu J]at this;grind
  refine⟨ct,I,by rw[eZ,Z,uO];exact kp,?_,?_,?_,?_⟩
  ·intro x o aY;rw[A]at aY;rw[eZ,wa];have:=M.sub x o aY
   grind
  ·intro p t V bg DN;obtain⟨E,g1,g2,c6,ed,f4⟩:=M.ext p t V J DN;refine⟨E,g1,g2,c6,ed,?_⟩;rw[eZ,Z,uO];rintro⟨b,q,dt,nn,L2,en⟩;rw[Dr]at dt
   by_cases e:b=(bs c).U
   ·subst e;simp at dt;subst dt;exact M.oX c p s t cY V pl E J J D DN J h1 g1 L2
   ·refine f4 ⟨b,q,ab,by simpa[fp.put,e]using nn,L2,en⟩
  ·intro p q t mB yX qH L3 L4 bg dt;exact M.oX p q t mB yX qH L3 L4 J J
  ·intro b E gK;rw[Z];rcases M.yC b E gK with h|⟨p,t,V,bg,DN,HB⟩
   all_goals grind
theorem lo.advance(R:ob P a7 bJ bs val){B:Nat}{ip ai:b5}{gC w:World}{cA:Array al}:∀(k c:Nat),bJ.length-c<=k->lo P a7 bJ bs B ip gC cA c ai w ->
  (∀(p:Nat) (s:eR),c<=p->bJ[p]? = some s->hQ cA s.i->je s.k=false\/mJ a7.toList s.o (bs p).ak=false) ->
   ∃A,lo P a7 bJ bs B ip gC cA A ai w/\∀s,bJ[A]? = some s->¬hQ cA s.i
 |0,c,C,M,_=>⟨c,M,ab⟩
 |k+1,c,C,M,E=>by
  cases aq:bJ[c]? with
  |none=>exact⟨c,M,ab⟩
  |some s =>
   by_cases D:hQ cA s.i
   ·exact lo.advance R k (c+1) J (M.atX R aq D ab) ab
   ·exact⟨c,M,ab⟩
end
section
variable {P:Program} {a7:Array Oper} {bJ:aa eR} {bs:Nat->lX} {val:Nat->aw X}
theorem Ox(aj:i<cA.size):cA.getD i true=false↔¬hQ cA i:=by
 unfold hQ
 grind
theorem amz(R:ob P a7 bJ bs val)(a1:r1 a7 cA)(bj:∀(q:Nat) (s:eR),q<c->bJ[q]? = some s->hQ cA s.i)(bv:∀s,bJ[c]? = some s->¬hQ cA s.i)(bb:Region.ready .any a7 cA=[])(Z:c<=bJ.length):c=bJ.length:=by
 rcases h8 c bJ.length with A|h
 ·exfalso;have aq:bJ[c]? = some (bJ[c]'A):=ab
  generalize bJ[c]'A=s at aq;have E:=bv s aq;have fw:a7[s.i]? = some s.o:=by simpa using(R.k0.step c s aq).1
  have aj:s.i<a7.size:=ab
  have:s.i∈Region.ready .any a7 cA:=by
   refine mem_ready.2 ⟨(Ox (by rw[a1.size];omega)).2 E,s.o,fw,λe N V=>?_⟩;have C:a7.toList[s.i]? = some s.o:=ab
   have M:=R.k0.inside s.i s.o e C N V;obtain⟨q,t,I,D⟩:=R.k0.cover e.on ab;rcases zJ q c with h|h|h
   ·have:=bj q t h I;rw[D]at this;exact this
   ·grind
   ·have h1:=R.k0.after h aq I;have ap:=amx C N V
    grind
  grind
 omega
def left(a7:Array Oper)(cA:Array al):Nat:=((List.range a7.size).filter λi=>!cA.getD i false).length
theorem Y4(D:cA.size=a7.size)(aj:i<a7.size)(A:¬hQ cA i):left a7 (cA.setIfInBounds i true)+1<=left a7 cA:=by
 unfold left;have C:∀(l:aa Nat),((l.filter λk=>!(cA.setIfInBounds i true).getD k false).length<=(l.filter λk=>!cA.getD k false).length) /\
   (i∈l->(l.filter λk=>!(cA.setIfInBounds i true).getD k false).length+1<=(l.filter λk=>!cA.getD k false).length):=by
  intro l
  induction l with
  |nil=>grind
  |cons x M N =>
   by_cases e:x=i
   ·subst e;have E:(cA.setIfInBounds x true).getD x false=true:=by have:hQ (cA.setIfInBounds x true) x:=qn.2 J;exact this
    have I:cA.getD x false=false:=by simpa[hQ]using A
    grind
   ·have E:(cA.setIfInBounds i true).getD x false=cA.getD x false:=by simp[qj,zD,kB e]
    grind
 grind
end
section
variable {P:Program} {a7:Array Oper} {bJ:aa eR} {bs:Nat->lX} {val:Nat->aw X}
theorem jW.set(R:ob P a7 bJ bs val){s:eR}(aq:bJ[p]? = some s)(h:jW P a7 bJ bs (cA.setIfInBounds s.i true) q t cY):q=p\/jW P a7 bJ bs cA q t cY:=by
 rcases Nat.decEq q p with A|C
 ·right
  refine⟨h.at_,?_,h.want,h.ok⟩;have:=h.A5;rw[qn]at this;rcases this with⟨e,_⟩|this
  ·exact absurd e (R.k0.ne h.at_ aq A)
  ·exact this
 omega
theorem jW.up(h:jW P a7 bJ bs cA q t cY):jW P a7 bJ bs (cA.setIfInBounds i true) q t cY :=
 ⟨h.at_,qn.2 (.inr h.A5),h.want,h.ok⟩
theorem lo.quiet(R:ob P a7 bJ bs val){B:Nat}{ai:b5}{w:World}(M:lo P a7 bJ bs B ip gC cA c ai w){s:eR}(aq:bJ[p]? = some s)(A:mJ a7.toList s.o (bs p).ak=false\/∀e,s.k≠.io e):lo P a7 bJ bs B ip gC (cA.setIfInBounds s.i true) c ai w:=by
 have back:∀{q:Nat} {t:eR} {cY:kM},jW P a7 bJ bs (cA.setIfInBounds s.i true) q t cY->jW P a7 bJ bs cA q t cY:=λ{q t cY} h=>by
  rcases h.set R aq with e|ac
  ·subst e;have:=h.at_;rw[aq]at this;cases this;rcases A with A|A
   ·have:=h.want;rw[A]at this;cases this
   ·obtain⟨_,e,Z⟩:=h.lz;exact absurd Z (A e)
  ·exact ac
 refine⟨M.le,λq t C ci=>qn.2 (.inr (M.done q t C ci)),M.hX,M.sub,λq t cY C cW=>M.ext q t cY C (back cW),λeu q t mB cY E pl D N I V bc=>M.oX eu q t mB cY E pl D N I (back V) (back bc),λb pl aO=>?_⟩;rcases M.yC b pl aO with h|⟨q,t,cY,N,I,V⟩
 ·omega
 ·exact .inr ⟨q,t,cY,N,I.up,V⟩
theorem cx.grown{B:Nat}{ai:b5}{H:fp}{w ba:World}(A:cx B ip r0 gC ao aj ai H w){o:Obj}(C:Made w ba o):cx B ip r0 gC ao aj ai H ba where
 rel:=A.rel.world (by rw[C.size];omega) λb p I aq=>by obtain⟨x,E⟩:=lI.1 aq;exact C.dV _ (A.rel.obj b p x I E).CP
 agree:=A.agree
 size:=by have:=A.size;rw[C.size];omega
 os:=C.os.trans A.os
 tape:=A.tape.trans C.tape
 output:=C.output.trans A.output
 frame:=λk D M=>by rw[C.dV k (by have:=A.size;omega)];exact A.frame k D M
 own:=A.own
 le:=A.le
end
section
variable {P:Program} {a7:Array Oper} {bJ:aa eR} {bs:Nat->lX} {val:Nat->aw X}
theorem lo.alloc(R:ob P a7 bJ bs val){B:Nat}{ai:b5}{w ba:World}(M:lo P a7 bJ bs B ip gC cA c ai w){s:eR}(bg:c<=p)(aq:bJ[p]? = some s)(rG:¬hQ cA s.i)(aj:s.i<cA.size)(b0:mJ a7.toList s.o (bs p).ak=true){e:Eu}(hk:s.k = .io e)(hF:Dn (bs p).ak e = .ok cY){du:Obj}(mn:pl.co=w.heap.size)(w1:wO (cut ai (bs p).U) cY du pl)(bp:Made w ba du):
  ∃bn:b5,lo P a7 bJ bs B ip gC (cA.setIfInBounds s.i true) c bn ba/\bF (cut bn ((bs p).U+1)) (wW (bs p).U cY) (Tl cY w.heap.size pl.spare)/\∀m,Sub (cut ai m) (cut bn m):=by
 have agJ:p<bJ.length:=ab
 have aT:jW P a7 bJ bs (cA.setIfInBounds s.i true) p s cY:=⟨aq,qn.2 J,b0,e,hk,hF⟩
 have DO:(bs c).U<=(bs p).U:=R.wD bg J;have aA9:ai (bs p).U=none:=by
  cases A:ai (bs p).U with
  |none=>rfl
  |some q =>
   rcases M.yC _ q A with h|⟨r,t,D,h1,ap,aM⟩
   ·omega
   ·exfalso;rcases zJ r p with h|h|h
    ·have:=ap.afg R agJ h;omega
    ·subst h;have:=ap.at_;rw[aq]at this;cases this;exact rG ap.A5
    ·have:=aT.afg R ap.lt h;omega
 let bn:b5:=λk=>if k=(bs p).U then some pl else ai k
 have C:∀m,Sub (cut ai m) (cut bn m):=λm b q A=>by
  by_cases DP:b<m
  ·rw[oI DP]at A;rw[oI DP]
   grind
  ·rw[pu J]at A;grind
 have awu:cut bn (bs c).U=cut ai (bs c).U:=funext λb=>by
  by_cases A:b<(bs c).U
  ·rw[oI A,oI A]
   grind
  ·rw[pu J,pu J]
 have Z:cut bn ((bs p).U+1)=λk=>if k=(bs p).U then some pl else cut ai (bs p).U k:=funext λb=>by
  by_cases e:b=(bs p).U
  ·subst e;rw[oI J];grind
  ·by_cases A:b<(bs p).U
   ·rw[oI J];simp[bn,e,oI A]
   ·rw[pu J];simp[e,pu (Nat.le_of_not_lt A)]
 have E:d9 B (cut ai (bs p).U) (λ_=>none) w:={
  base:=M.hX.rel.base
  obj:=λb q o _ h=>by cases h
  inj:=ab
  kH:=ab }
 obtain⟨h1,ap⟩:=LQ.step E (pu (cD _)) mn w1 bp;rw[<-Z]at h1 ap;have ayR:kY B (cut bn ((bs p).U+1)) ba pl (sA cY):=by
  refine h1.rel.obj (bs p).U pl (sA cY) ?_ (by simp[fp.put])
  grind
 have rD:¬wL B (cut ai (bs c).U) (u (bs c).h) pl.co:=λfw=>by have:=M.hX.rel.Y3 fw;omega
 refine⟨bn,⟨M.le,λq t I ci=>qn.2 (.inr (M.done q t I ci)),by rw[awu];exact M.hX.grown bp,M.sub,?_,?_,?_⟩,ap,C⟩
 ·intro q t D I cW;rcases cW.set R aq with e|DN
  ·subst e;have:=cW.at_;rw[aq]at this;cases this;obtain⟨dK,tR,this⟩:=cW.ok;rw[hk]at tR;cases tR;rw[hF]at this;cases this;exact⟨pl,ab,ayR,by rw[mn];exact M.hX.size,by rw[mn,bp.size];omega,ab⟩
  ·obtain⟨A6,g1,g2,c6,ed,f4⟩:=M.ext q t D I DN;refine⟨A6,ab,g2.mono (C _) (bp.dV _ ed),c6,by rw[bp.size];omega,ab⟩
 ·intro q r t mB yX qH L3 L4 I bb L5 Tu eS qI iq;rcases L5.set R aq with aW|N <;> rcases Tu.set R aq with aK|V
  ·omega
  ·subst aW;obtain⟨A6,g1,_,_,ed,_⟩:=M.ext r mB qH bb V
   grind
  ·subst aK;obtain⟨A6,g1,_,_,ed,_⟩:=M.ext q t yX I N
   grind
  ·obtain⟨_,g1,_⟩:=M.ext q t yX I N;obtain⟨_,g2,_⟩:=M.ext r mB qH bb V;exact M.oX q r t mB yX qH L3 L4 I bb N V eS ab ab
 ·intro b q A
  by_cases e:b=(bs p).U
  ·grind
  ·have A:ai b=some q:=ab
   rcases M.yC b q A with h|⟨r,t,D,g1,g2,c6⟩
   ·omega
   ·exact .inr ⟨r,t,D,g1,g2.up,c6⟩
end
section
variable {P:Program} {a7:Array Oper} {bJ:aa eR} {bs:Nat->lX} {val:Nat->aw X}
theorem lo.fv(R:ob P a7 bJ bs val){B:Nat}{ip ai:b5}{gC w ba:World}{cA:Array al}{c:Nat}(M:lo P a7 bJ bs B ip gC cA c ai w){s:eR}(aq:bJ[c]? = some s)(aj:s.i<cA.size){e:vH}(hk:s.k = .fv e)
  (b0:mJ a7.toList s.o (bs c).ak=true) (rG:¬hQ cA s.i) {bn:b5} (bp:cx B (cut ai (bs c).U) (u (bs c).h) w (bs c).U (bs (c+1)).U bn (u (bs (c+1)).h) ba):
  ∃Z:b5,lo P a7 bJ bs B ip gC (cA.setIfInBounds s.i true) (c+1) Z ba/\cut Z (bs (c+1)).U=bn/\∀m,Sub (cut ai m) (cut Z m):=by
 have ct:c<bJ.length:=ab
 have pH:jQ bn (bs (c+1)).U:=(Q2 ai (bs c).U).after bp
 let Z:b5:=λb=>if b<(bs (c+1)).U then bn b else ai b
 have A7:cut Z (bs (c+1)).U=bn:=funext λb=>by
  by_cases E:b<(bs (c+1)).U
  ·rw[oI E];grind
  ·rw[pu J,pH b J]
 have aBj:∀{q:Nat} {t:eR} {cY:kM},c<=q->jW P a7 bJ bs cA q t cY->(bs (c+1)).U<=(bs q).U/\c+1<=q:=λ{q t cY} dt cW=>by
  have:q≠c:=by intro e;subst e;have:=cW.at_;rw[aq]at this;cases this;exact rG cW.A5
  exact⟨R.wD J (by have:=cW.lt;omega),J⟩
 have D:∀b q,ai b=some q->Z b=some q:=λb q E=>by
  rcases M.yC b q E with h|⟨r,t,cY,h1,ap,aM⟩
  ·have:bn b=some q:=by rw[bp.agree b J,oI h];omega
   grind
  grind
 have C:∀m,Sub (cut ai m) (cut Z m):=λm b q E=>by
  by_cases DP:b<m
  ·rw[oI DP]at E ⊢;grind
  ·rw[pu J]at E;grind
 have hR:(bs (c+1)).b=(bs (c+1)).h:=by
  cases(R.iG c s aq).ok with
  |fv _ _ _ _ _ _ _ E _=>exact E
  |skip I _ _ _=>rw[b0]at I;cases I
  |uS I _ _ _ _ _ _=>rw[b0]at I;cases I
  |fu _ _ A _ _ _ _=>rw[hk]at A;cases A
  |red _ _ A _ _ _ _ _=>rw[hk]at A;cases A
  |io _ _ A _ _ _ _ _ _ _=>rw[hk]at A;cases A
 have back:∀{q:Nat} {t:eR} {cY:kM},jW P a7 bJ bs (cA.setIfInBounds s.i true) q t cY->jW P a7 bJ bs cA q t cY:=λ{q t cY} h=>by
  rcases h.set R aq with e|ac
  ·subst e;have:=h.at_;rw[aq]at this;cases this;have:=h.lz.1;rw[hk]at this;cases this
  ·exact ac
 refine⟨Z,⟨ct,λq t dt ci=>?_,by rw[A7];exact M.hX.trans bp,ab,?_,?_,?_⟩,A7,C⟩
 ·rcases h8 q c with h|h
  ·exact qn.2 (.inr (M.done q t h ci))
  ·have:q=c:=J
   subst this;rw[aq]at ci;cases ci;exact qn.2 J
 ·intro q t cY dt cW;have cW:=back cW;obtain⟨pl,g1,g2,c6,ed,f4⟩:=M.ext q t cY J cW;refine⟨pl,ab,g2.mono (C _) (bp.frame _ ed f4),c6,Jd ed bp.size,?_⟩;rw[A7];intro fw;rcases bp.own _ fw with h|h
  all_goals grind
 ·intro q r t mB yX qH L3 L4 dt bb N V eS qI iq;have N:=back N;have V:=back V;obtain⟨_,g1,_⟩:=M.ext q t yX J N;obtain⟨_,g2,_⟩:=M.ext r mB qH J V;have aW:=D _ _ g1;have aK:=D _ _ g2;rw[qI]at aW;cases aW;rw[iq]at aK;cases aK;exact M.oX q r t mB yX qH _ _ J J N V eS g1 g2
 ·intro b q E
  by_cases Lr:b<(bs (c+1)).U
  ·omega
  ·have E:ai b=some q:=ab
   rcases M.yC b q E with h|⟨r,t,cY,g1,g2,c6⟩
   ·have:=bp.le;omega
   ·exact .inr ⟨r,t,cY,ab,g2.up,c6⟩
end
section
variable {P:Program} {a7:Array Oper} {bJ:aa eR} {bs:Nat->lX} {val:Nat->aw X}
def tG(bJ:aa eR)(c p:Nat):Nat:=(((bJ.take p).drop c).filter λs=>je s.k).length
theorem ob.base(R:ob P a7 bJ bs val){c:Nat}:∀{p:Nat},c<=p->p<=bJ.length->(tG bJ c p=0->(bs p).b=(bs c).b)/\(∀k,tG bJ c p=k+1->(bs p).aq[k]? = some (bs c).b)
 |0,h,_=>by
  have:c=0:=J
  subst this;exact⟨ab,λk C=>by simp[tG]at C⟩
 |p+1,h,V=>by
  by_cases e:c=p+1
  ·subst e;exact⟨ab,λk C=>by simp[tG]at C⟩
  ·obtain⟨Z,N⟩:=R.base (c:=c) (p:=p) J J;have aq:bJ[p]? = some (bJ[p]'J):=ab
   generalize bJ[p]'J=s at aq;have D:tG bJ c (p+1)=tG bJ c p+if je s.k then 1 else 0:=by
    unfold tG;rw[ho,aq,I2 ab,r9,jd]
    grind
   cases C:je s.k with
   |false =>
    rw[C]at D;have M:(bs (p+1)).b=(bs p).b/\(bs (p+1)).aq=(bs p).aq:=by
     cases(R.iG p s aq).ok with
     |skip _ _ _ I=>exact⟨I.2.2.1,I.2.2.2⟩
     |uS _ A _ _ _ _ _=>rw[C]at A;cases A
     |fu _ _ _ _ _ _ I=>exact⟨I.2.2.1,I.2.2.2⟩
     |red _ _ _ _ _ _ _ I=>exact⟨I.2.2.1,I.2.2.2⟩
     |io _ _ _ _ _ _ _ _ I E=>exact⟨I,E⟩
     |fv _ _ A _ _ _ _ _ _=>rw[A]at C;cases C
    grind
   |true =>
    rw[C]at D;have E:(bs (p+1)).aq=(bs p).b::(bs p).aq:=by
     cases(R.iG p s aq).ok with
     |skip _ A _ _=>rw[C]at A;cases A
     |uS _ _ _ _ _ _ E=>exact E
     |fu _ _ A _ _ _ _=>rw[A]at C;cases C
     |red _ _ A _ _ _ _ _=>rw[A]at C;cases C
     |io _ _ A _ _ _ _ _ _ _=>rw[A]at C;cases C
     |fv _ _ _ _ _ _ _ _ E=>exact E
    grind
end
section
variable {P:Program} {a7:Array Oper} {bJ:aa eR} {bs:Nat->lX} {val:Nat->aw X}
theorem aqc(R:tF P a7.toList bJ){s:eR}(aq:bJ[p]? = some s)(M:c<=p)(I:∀(q:Nat) (t:eR),c<=q->q<p->bJ[q]? = some t->je t.k=true->kk (j3 a7.toList) s.i t.i=false):tG bJ c p<=s.vl:=by
 rw[(R.step p s aq).2.2];unfold KZ tG;rw[List.filter_map,gn];have E:((bJ.take p).drop c).Sublist (bJ.take p):=ab
 have h1:(((bJ.take p).drop c).filter λs=>je s.k)=((bJ.take p).drop c).filter ((λe=>sj P a7.toList e&&!kk (j3 a7.toList) s.i e) ∘ λx=>x.i):=by
  apply Jf;intro t Z;obtain⟨k,A⟩:=EV Z;rw[xN,xO]at A
  split at A
  ·rename_i D
   have V:=R.step (c+k) t A;have N:sj P a7.toList t.i=je t.k:=by
    unfold sj;rw[iX,V.1];simp only[E8,Jj,GV]
    grind
   simp only[Function.comp,N];cases C:je t.k with
   |false=>rfl
   |true =>
    rw[I (c+k) t J D A C];rfl
  grind
 grind
end
section
variable {P:Program} {a7:Array Oper} {bJ:aa eR} {bs:Nat->lX} {val:Nat->aw X}
theorem ai1(R:ob P a7 bJ bs val)(a1:r1 a7 cA){s:eR}(aq:bJ[p]? = some s)(I:c<=p)(N:∀t,bJ[c]? = some t->¬hQ cA t.i)(bb:s.i∈Region.ready .any a7 cA)(b0:mJ a7.toList s.o (bs p).ak=true){e:Hu}(M:s.k = .red e):∃D,val p=some D/\pred P (bs p).ak e (bs c).b = .ok D:=by
 have bg:p<bJ.length:=ab
 obtain⟨h1,ap⟩:=R.base I J;have dO:tG bJ c p<=s.vl:=aqc R.k0 aq I λq t V hqp ci Z=>by
  cases aO:kk (j3 a7.toList) s.i t.i with
  |false=>rfl
  |true =>
   exfalso;have eD:=a1.Og bb aO;rcases h8 c q with h|h
   ·have E:bJ[c]? = some (bJ[c]'J):=ab
    exact N _ E (a1.ahead eD (R.k0.fv h E ci Z))
   grind
 cases(R.iG p s aq).ok with
 |skip C _ _ _=>rw[b0]at C;cases C
 |uS C _ _ _ _ _ _=>rw[b0]at C;cases C
 |fu _ _ A _ _ _ _=>rw[M]at A;cases A
 |io _ _ A _ _ _ _ _ _ _=>rw[M]at A;cases A
 |fv _ _ A _ _ _ _ _ _=>rw[M]at A;cases A
 |red _ dK A D aG bP cW _ =>
  rw[M]at A;cases A;refine⟨D,aG,?_⟩;cases V:tG bJ c p with
  |zero=>rw[<-h1 V];exact bP
  |succ k =>
   obtain⟨eZ,g1,g2⟩:=cW k J;rw[ap k V]at g1;cases g1;exact g2
end
theorem d9.up{B:Nat}{ai bn:b5}{H:fp}{w:World}(h:d9 B ai H w)(aq:Sub ai bn):d9 B bn H w:=by
 have down:∀b p,bn b=some p->(H b).isSome->ai b=some p:=λb p D A=>by obtain⟨q,C⟩:=lI.1 (h.kH b A);rw[aq b q C]at D;grind
 refine⟨h.base,λb p o D I=>?_,λb N p M D V A E=>h.inj b N p M ab ab A E,λb A=>?_⟩
 ·exact(h.obj b p o ab I).mono aq rfl
 ·obtain⟨q,C⟩:=lI.1 (h.kH b A);rw[aq b q C];rfl
theorem akd{C:Oper}{A:al}{d:Tmp}(D:o.guard=some (j,A))(E:all[j]? = some C)(I:C.dst=some d):d∈nW all o:=by
 unfold nW;rw[D];simp only;rw[iX,E]
 grind
theorem amA{t:Tmp}(h:Operand.tmp t∈o.op.operands):t∈nW all o:=by unfold nW;simp only[hp];refine .inl (.inr ?_);rw[List.mem_filterMap];exact⟨.tmp t,ab,rfl⟩
section
variable {P:Program}
theorem ai2{d:Nat}{w:al}(A:zk all o.guard=some (some (d,w))):d∈nW all o:=by
  unfold zk at A
  split at A
  · cases A
  · rename_i j b E
    simp only[jE,l9]at A;obtain⟨I,C,M,D,e⟩:=A;cases e;exact akd E C D
theorem aqd{a7:Array Oper}{bJ:aa eR}(mn:QW P a7.toList=some bJ){is:aa lV}(HF:Gy a7.toList bJ=some is){L B:Nat}{ak:cc}{U:Nat}{aC:Act}{r:aw Nat}{K:cc->ae->Nat->Prop}(sD:ie P is ak h U h [] K)(Hf:ot L B ip ak h U aC gC)(yD:wv aC.tmps.size a7.toList=true)(bg:uY L B ip h gC U aC.tmps.size (λx ak h U=>x = .normal/\K ak h U) Q):
    wpAnyIn (m7 r) n P .any a7 Q a7.size (Array.replicate a7.size false) aC gC:=by
  have k0:=air mn;obtain⟨bs,val,⟨oa,gi,eN,xt,_⟩,yY,hi⟩:=aff bJ is ⟨ak,h,U,h,[]⟩ HF sD;have gi:(bs 0).h=h:=gi;have eN:(bs 0).U=U:=eN;have xt:(bs 0).b=h:=xt;have oY:ot L B ip (bs 0).ak (bs 0).h (bs 0).U aC gC:=by rw[gi,eN];exact⟨Hf.rel,Hf.fi,Hf.iG.same oa,Hf.marks,Hf.low⟩
  rw[<-gi,<-eN]at bg;have R:ob P a7 bJ bs val:=⟨k0,yY⟩
  have main:∀(N:Nat) (cA:Array al) (a:Act) (w:World) (ai:b5) (c:Nat),r1 a7 cA->lo P a7 bJ bs B ip gC cA c ai w->AQ bJ bs cA ai a->(∀s,bJ[c]? = some s->¬hQ cA s.i) ->
      a.tmps.size=aC.tmps.size->a.defers=aC.defers->left a7 cA<=N->wpAnyIn (m7 r) n P .any a7 Q N cA a w:=by
    intro N;have fin:∀(cA:Array al) (a:Act) (w:World) (ai:b5) (c:Nat),r1 a7 cA->lo P a7 bJ bs B ip gC cA c ai w->AQ bJ bs cA ai a->(∀s,bJ[c]? = some s->¬hQ cA s.i) ->
        a.tmps.size=aC.tmps.size->a.defers=aC.defers->Region.ready .any a7 cA=[]->Q .normal a w:=by
      intro cA a w ai c C M e9 yZ lP HJ bb;have a1:c=bJ.length:=amz R C M.done yZ bb M.le;subst a1;have kp:=M.hX;refine bg .normal _ _ _ _ a w ⟨rfl,hi⟩ kp ⟨kp.rel,Q2 _ _,λd v V=>?_,?_,h7 oY.low kp.size⟩ lP
      · refine e9 bJ.length d J (λq s dt aq _=>M.done q s dt aq) (λq s dt aq _=>?_) v V
        grind
      · rw[HJ];exact oY.marks.hX kp
    induction N with
    |zero =>
      intro cA a w ai c C M e9 yZ lP HJ bA;have bb:Region.ready .any a7 cA=[]:=by
        cases rH:Region.ready .any a7 cA with
        |nil=>rfl
        |cons i is =>
          exfalso;have aj:i∈Region.ready .any a7 cA:=ab
          obtain⟨rG,o,fw,_⟩:=mem_ready.1 aj;have ct:=(I5.1 fw).1;have:=Y4 C.size ct ((Ox ab).1 rG);omega
      exact⟨bb,fin cA a w ai c C M e9 yZ lP HJ bb⟩
    |succ N eY =>
      intro cA a w ai c C M e9 yZ lP HJ bA;refine⟨λbb=>fin cA a w ai c C M e9 yZ lP HJ bb,λi aj=>?_⟩;obtain⟨ayS,o,fw,_⟩:=mem_ready.1 aj;have ct:=(I5.1 fw).1;obtain⟨p,s,aq,rfl⟩:=k0.cover i J;have oZ:=(k0.step p s aq).1;have ho':a7[s.i]? = some s.o:=ab
      rw[ho']at fw;cases fw;have vo:s.i<cA.size:=ab
      have rG:=(Ox vo).1 ayS;have DO:c<=p:=by
        rcases h8 p c with h|h
        · exact absurd (M.done p s h aq) rG
        omega
      have agJ:p<bJ.length:=ab
      have look:∀d,d∈nW a7.toList s.o->∀v,hq (bs p).ak d=some v->bF (cut ai (bs p).U) (rs v) (a.tmps.getD d undef):=λd bj=>e9.look R C aq aj bj;obtain⟨g,a9,HG⟩:=(yY p s aq).g;have hwq:Region.wanted s.o (yielded a7 a.tmps)=mJ a7.toList s.o (bs p).ak:=by unfold mJ;rw[a9];exact XL a9 HG λd w v e V=>look d (ai2 (by rw[<-e];exact a9)) v V
      have Ls:Loc (cut ai (bs p).U) (bs p).ak a.tmps s.o.op.operands:=λt v ci V=>look t (amA ci) v V;have awv:∀d,s.o.dst=some d->d<a.tmps.size:=by rw[lP];exact aaV yD (kz oZ)
      have aww:left a7 (cA.setIfInBounds s.i true)<=N:=by have:=Y4 C.size ct rG;omega
      have awx:∀(eu:Nat) (lx:eR),c<=eu->bJ[eu]? = some lx->hQ cA lx.i->je lx.k=false:=λeu lx w4 nn A8=>by
        cases tR:je lx.k with
        |false=>rfl
        |true =>
        exfalso;rcases h8 c eu with h|h
        · have oU:bJ[c]? = some (bJ[c]'J):=ab
          exact yZ _ oU (C.ahead A8 (k0.fv h oU nn tR))
        grind
      have I:∀(bn:b5) (ba:World) (gV:X) (c1:Nat),lo P a7 bJ bs B ip gC (cA.setIfInBounds s.i true) c1 bn ba->c<=c1->(c1<=p->je s.k=false\/mJ a7.toList s.o (bs p).ak=false) ->
          bF (cut bn (bs (p+1)).U) (rs (val p)) gV->(∀m,Sub (cut ai m) (cut bn m))->wpAnyIn (m7 r) n P .any a7 Q N (cA.setIfInBounds s.i true) (a.put s.o.dst gV) ba:=by
        intro bn ba gV c1 aCQ yV tX V mL;obtain⟨c2,aCR,ayT⟩:=lo.advance R (bJ.length-c1) c1 J aCQ λeu lx w4 nn A8=>by
          rcases Nat.decEq eu p with eS|rfl
          · left
            refine awx eu lx J nn ?_;rw[qn]at A8;rcases A8 with⟨e,_⟩|A8
            · exact absurd e (k0.ne nn aq eS)
            · exact A8
          grind
        exact eY _ _ _ bn c2 (C.set aj) aCR (e9.step R C mL aq aj V awv) ayT (by rw[Act.O1];omega) (by rw[Act.WD];omega) aww
      unfold wpOpIn;simp only[ho'];rw[hwq];have E:=(k0.step p s aq).2.1;have js:=(yY p s aq).ok;cases D:mJ a7.toList s.o (bs p).ak with
      |false =>
        simp only[nP,ff];refine⟨λ_ _=>trivial,?_⟩;have Sr:val p=none:=by
          cases js with
          |skip _ _ V _=>exact V
          |uS _ _ V _ _ _ _=>exact V
          |fu A _ _ _ _ _ _=>rw[D]at A;cases A
          |io A _ _ _ _ _ _ _ _ _=>rw[D]at A;cases A
          |red A _ _ _ _ _ _ _=>rw[D]at A;cases A
          |fv A _ _ _ _ _ _ _ _=>rw[D]at A;cases A
        exact I ai w undef c (M.quiet R aq (.inl D)) J (λ_=>.inr D) (by rw[Sr];exact tl) (λm _ _ h=>h)
      |true =>
        simp only[if_true];refine⟨λ_ _=>trivial,?_⟩;show s.o.uponIn (m7 r) n P a _ Q ((s.o.semAt r a.eval).run P w);cases js with
        |skip A _ _ _=>rw[D]at A;cases A
        |uS A _ _ _ _ _ _=>rw[D]at A;cases A
        |fu _ e Z aI vs bP aO =>
          rw[Z]at E;rw[Oper.semAt_eq r a.eval s.o (zW E)];obtain⟨gV,V,tD⟩:=aaR s.o Ls E bP;rw[tD w];exact I ai w gV c (M.quiet R aq (.inr λe=>by rw[Z];simp)) J (λ_=>.inl (by rw[Z];rfl)) (by rw[aO.2.1,vs];exact V) (λm _ _ h=>h)
        |red _ e Z aI vs bP cW aO =>
          obtain⟨u',vr,hre⟩:=ai1 R C aq DO yZ aj D Z;rw[vs]at vr;cases vr;rw[Z]at E;rw[Oper.semAt_eq r a.eval s.o (zW E)];have ayU:d9 B (cut ai (bs p).U) (u (bs c).b) w:=(M.hX.rel.less M.sub).up (PP ai (R.wD DO J));obtain⟨gV,V,tD⟩:=aaU ayU s.o Ls E hre;rw[tD];exact I ai w gV c (M.quiet R aq (.inr λe=>by rw[Z];simp)) J (λ_=>.inl (by rw[Z];rfl)) (by rw[aO.2.1,vs];exact V) (λm _ _ h=>h)
        |io _ e Z cY bP vs eZ Tv aO yW =>
          have L6:=Z;rw[Z]at E;rw[Oper.semAt_eq r a.eval s.o (zW E)];obtain⟨du,pl,ba,mn,w1,awy,tD⟩:=aaS s.o Ls E bP w;obtain⟨bn,ui,V,mL⟩:=M.alloc R DO aq rG vo D Z bP mn w1 awy;rw[tD];exact I bn ba _ c ui J (λ_=>.inl (by rw[Z];rfl)) (by rw[Tv,vs];exact V) mL
        |fv _ e Z aI vs bP Tv aO yW =>
          have sE:p=c:=by
            rcases h8 c p with h|h
            · exfalso
              have oU:bJ[c]? = some (bJ[c]'J):=ab
              exact yZ _ oU (C.Og aj (k0.fv h oU aq (by rw[Z];rfl)))
            omega
          subst sE;rw[Z]at E;refine YX M.hX.rel (Q2 _ _) s.o Ls E bP ?_;intro v ac Y bn gV ba tV V bp;obtain⟨rfl,rfl,rfl⟩:=tV;obtain⟨ρn,ui,A7,mL⟩:=M.fv R aq vo Z D rG bp;exact I ρn ba gV (p+1) ui J (λh=>J) (by rw[A7,vs];exact V) mL
  have DM:∀i,¬hQ (Array.replicate a7.size false) i:=λi bA=>by
    unfold hQ at bA
    by_cases aj:i<a7.size <;> simp[qj,aj]at bA
  have afh:cut ip (bs 0).U=ip:=aqb ip oY.fi;have aCS:lo P a7 bJ bs B ip gC (Array.replicate a7.size false) 0 ip gC :=
    { le:=Nat.zero_le _
      done:=λq s dt=>J
      hX:=by rw[afh];exact cx.refl _ oY.rel
      sub:=by rw[show(bs 0).b=(bs 0).h by rw[xt,gi]];exact λ_ _ h=>h
      ext:=λp s cY _ cW=>absurd cW.A5 (DM _)
      oX:=λp q s t cY nb' pl A6 _ _ cW=>absurd cW.A5 (DM _)
      yC:=λb pl aO=>by
        left
        rcases h8 b (bs 0).U with h|h
        · exact h
        · rw[oY.fi b h]at aO;grind }
  refine main a7.size _ aC gC ip 0 ⟨by simp,λj o e bA=>absurd bA (DM _)⟩ aCS ?_ (λs _=>DM _) rfl rfl ?_
  · intro j d bZ aO bE v V
    have awz:∀k,k<=j->hq (bs k).ak d=hq (bs 0).ak d:=by
      intro k
      induction k with
      |zero=>intro _;rfl
      |succ k eY =>
        intro Z;have aq:bJ[k]? = some (bJ[k]'J):=oB _;generalize bJ[k]'J=s at aq;rw[(yY k s aq).lT d,if_neg (λe=>DM _ (aO k s J aq e))];exact eY J
    rw[awz j (cD _)]at V;have:=oY.iG d v V;rw[<-afh]at this;exact this.mono (PP ip (R.wD (Nat.zero_le _) bZ))
  · unfold left
    grind
end
section
variable {P:Program} {s:al}
theorem hO{r:R az}{k di:az->Prop}(h:af r k)(A:∀v,k v->di v):af r di:=by
 cases r <;> first|exact A _ h|exact h
theorem z7{a b C A:Prop}(h:bu v a b)(E:a->C)(D:b->A):bu v C A:=by
 rcases tx h with⟨rfl,h⟩|⟨rfl,h⟩
 ·exact E h
 ·exact D h
theorem PQ(h:dD r k)(A:∀v h U,k v h U->di v h U):dD r di:=by
 cases r <;> first|exact A _ _ _ h|exact h
theorem Y5(h:fh P s r k)(A:∀v h U,k v h U->di v h U):fh P s r di:=by
 cases r <;> first|exact aH.mono h A|exact lW.mono h A|exact h
theorem Cz{ak:cc}{C A M I:cc->Prop}(h:ku g ak C A)(E:∀ak,C ak->M ak)(D:∀ak,A ak->I ak):ku g ak M I:=by
 cases g with
 |none=>exact E _ h
 |some g =>
  obtain⟨t,w⟩:=g;simp only[ku]at h ⊢
  split at h
  ·cases w <;> exact z7 h (by first|exact E _|exact D _) (by first|exact E _|exact D _)
  ·exact D _ h
  ·exact h
theorem Kf{ak:cc}{U:Nat}(C:o8 P s e ak h U k)(A:∀v h U,k v h U->di v h U):o8 P s e ak h U di:=by
 cases e with
 |st n a x=>exact hO C λ_ h=>hO h λ_ h=>hO h λ_=>A _ _ _
 |yQ t m k x=>exact hO C λ_ h=>hO h λ_ h=>hO h λ_ h=>hO h λ_=>A _ _ _
 |hd x=>exact hO C λ_ h=>PQ h A
 |fH x=>exact hO C λ_ ⟨a,b,c,d,e,f,g,Z,M,aM,V,I,N,D⟩=>⟨a,b,c,d,e,f,g,Z,M,aM,V,I,λh=>A _ _ _ (N h),λe E=>⟨(D e E).1,A _ _ _ (D e E).2⟩⟩
 |call f args=>exact hO C λ_ h=>aH.mono h A
 |Aw f args=>exact hO C λ_ h=>hO h λ_ h=>Y5 h A
 |app z x y=>exact hO C λ_ h=>hO h λ_ h=>PQ h A
 |bi b ag args=>exact hO C λ_ h=>PQ h A
 |inv r m args=>exact hO C λ_ h=>hO h λ_ h=>Y5 h A
theorem KH{ak:cc}{U:Nat}{k:cc->ae->Nat->Prop}:ny P s d (.fv e) ak h U k=o8 P s e ak h U λv h U=>k (ep ak d (some v)) h U:=rfl
theorem Kg{i:lV}{ak:cc}{U:Nat}{K:cc->ae->Nat->Prop}:p6 P s (i::l) ak h U K=ku i.g ak (λak=>ny P s i.d i.k ak h U λak h U=>p6 P s l ak h U K) (λak=>p6 P s l (ep ak i.d none) h U K):=rfl
theorem PR{i:lV}{ak:cc}{U:Nat}{b:ae}{K:cc->ae->Nat->Prop}:ie P (i::l) ak h U b aq K=ku i.g ak (λak=>mQ P i.d i.c i.k ak h U b aq λak h U b aq=>ie P l ak h U b aq K)
 (λak=>if je i.k=true then ie P l (ep ak i.d none) h U h (b::aq) K else ie P l (ep ak i.d none) h U b aq K):=by
 have e:ie P (i::l) ak h U b aq K=ku i.g ak (λak=>mQ P i.d i.c i.k ak h U b aq λak h U b aq=>ie P l ak h U b aq K)
  (λak=>Bool.rec (ie P l (ep ak i.d none) h U b aq K) (ie P l (ep ak i.d none) h U h (b::aq) K) (je i.k)):=rfl
 rw[e]
 congr 1
 funext ak
 cases je i.k <;> rfl
theorem PS{i:m6}{ak:cc}{U:Nat}{k di:cc->ae->Nat->Prop}(C:ny P s d i ak h U k)(A:∀p h U,k p h U->di p h U):ny P s d i ak h U di:=by
 cases i with
 |fu e=>cases e <;> first|exact hO C λ_=>A _ _ _|exact hO C λ_ h=>hO h λ_ h=>hO h λ_ h=>z7 h (A _ _ _) (A _ _ _)
 |io e=>exact hO C λ_=>A _ _ _
 |red e=>exact hO C λ_=>A _ _ _
 |fv e=>rw[KH]at C ⊢;exact Kf C λ_ _ _=>A _ _ _
theorem Kh:∀{l:aa lV} {ak:cc} {h:ae} {U:Nat} {k di:cc->ae->Nat->Prop},p6 P s l ak h U k->(∀p h U,k p h U->di p h U)->p6 P s l ak h U di
 | [],_,_,_,_,_,C,A=>A _ _ _ C
 |i::l,_,_,_,_,_,C,A=>by rw[Kg]at C ⊢;exact Cz C (λ_ h=>PS h λ_ _ _ h=>Kh (l:=l) h A) (λ_ h=>Kh (l:=l) h A)
theorem Y6{i:m6}{ak:cc}{U:Nat}{b:ae}{k di:cc->ae->Nat->ae->aa ae->Prop}(C:mQ P d c i ak h U b aq k)(A:∀p h U b aq,k p h U b aq->di p h U b aq):mQ P d c i ak h U b aq di:=by
 have E:∀{f:ae->R X} {v:X} {p q:Prop} (_:p->q) {n:Nat} {aq:aa ae},oT f v p n aq->oT f v q n aq:=λ{f v p q} D {n}=>by
  induction n with
  |zero=>intro aq h;exact D h
  |succ n I=>intro aq h;cases aq with
   |nil=>exact h
   |cons x M=>exact⟨h.1,I h.2⟩
 cases i with
 |fu e=>cases e <;> first|exact hO C λ_=>A _ _ _ _ _|exact hO C λ_ h=>hO h λ_ h=>hO h λ_ h=>z7 h (A _ _ _ _ _) (A _ _ _ _ _)
 |io e=>exact hO C λ_=>A _ _ _ _ _
 |red e=>exact hO C λ_ h=>by cases c <;> first|exact A _ _ _ _ _ h|exact E (A _ _ _ _ _) h
 |fv e=>rw[Gb]at C ⊢;exact Kf C λ_ _ _ h=>⟨h.1,A _ _ _ _ _ h.2⟩
theorem Gc:∀{l:aa lV} {ak:cc} {h:ae} {U:Nat} {b:ae} {aq:aa ae} {k di:cc->ae->Nat->Prop},ie P l ak h U b aq k->(∀p h U,k p h U->di p h U)->ie P l ak h U b aq di
 | [],_,_,_,_,_,_,_,C,A=>A _ _ _ C
 |i::l,_,_,_,_,_,_,_,C,A=>by
  rw[PR]at C ⊢;refine Cz C (λ_ h=>Y6 h λ_ _ _ _ _ h=>Gc (l:=l) h A) (λ_ h=>?_)
  split at h <;> rename_i e
  ·rw[if_pos e];exact Gc (l:=l) h A
  ·rw[if_neg e];exact Gc (l:=l) h A
theorem wE{ak:cc}:∀{L:aa Nat} {k:aa X->Prop},ol L ak k->∃aF,k aF/\(∀di,di aF->ol L ak di)/\∀i n,L[i]? = some n->∃v,hq ak n=some v/\a8 aF i=rs v
 | [],k,h=>⟨[],h,λ_ h=>h,λi n h=>by cases h⟩
 |n::L,k,h=>by
  unfold ol at h
  split at h
  ·rename_i v A
   obtain⟨aF,I,E,D⟩:=wE h;refine⟨v::aF,I,λdi C=>by unfold ol;rw[A];exact E _ C,λi m aj=>?_⟩;cases i with
   |zero=>cases aj;exact⟨_,A,rfl⟩
   |succ i=>exact D i m aj
  ·rename_i A
   obtain⟨aF,I,E,D⟩:=wE h;refine⟨jT::aF,I,λdi C=>by unfold ol;rw[A];exact E _ C,λi m aj=>?_⟩;cases i with
   |zero=>cases aj;exact⟨_,A,rfl⟩
   |succ i=>exact D i m aj
  ·exact h.elim
theorem Y7{aF:aa X}{d:Nat}{A:aw X}:∀{L:aa Nat} {j:Nat},hq (ru L aF j) d=some A->∃i,L[i]? = some d/\A=some (a8 aF (j+i))
 | [],j,h=>by cases h
 |n::L,j,h=>by
  have h:hq ((n,some (a8 aF j))::ru L aF (j+1)) d=some A:=h;rw[Fz]at h
  by_cases e:n=d
  ·rw[if_pos e]at h;cases h;exact⟨0,by simp[e],rfl⟩
  ·rw[if_neg e]at h;obtain⟨i,D,C⟩:=Y7 h;exact⟨i+1,D,by rw[C];congr 2;omega⟩
theorem jk.rY{ai:b5}{ak:cc}{t:Array X}(A:jk ai ak t){k:aa X->Prop}(h:ol L ak k):∃aF,k aF/\jk ai (ru L aF 0) t:=by obtain⟨aF,D,_,M⟩:=wE h;refine⟨aF,D,λd C I=>?_⟩;obtain⟨i,aj,rfl⟩:=Y7 I;obtain⟨v,E,e⟩:=M i d aj;show bF ai (a8 aF (0+i)) _;rw[iV,e];exact A d v E
theorem CA{ak:cc}{k di:aa X->Prop}(h:ol L ak k)(A:∀aF,k aF->di aF):ol L ak di:=by obtain⟨aF,D,C,_⟩:=wE h;exact C _ (A _ D)
theorem Ki{L:aa Nat}{i:Nat}{ak:cc}{h:ae}{U:Nat}:∀{E:aa (Nat × aP)},j2 (wM L E) i ak h U->ol L ak λaF=>j2 E i aF h U
 | [],A=>A.elim
 |p::E,A=>by
  have A:(bif Nat.beq p.1 i then tC L p.2 else j2 (wM L E) i) ak h U:=A;show ol L ak λaF=>(bif Nat.beq p.1 i then p.2 else j2 E i) aF h U;cases C:Nat.beq p.1 i <;> rw[C]at A
  ·exact Ki A
  ·exact A
theorem PT{L:aa Nat}{i:Nat}{ak:cc}{h:ae}{U:Nat}:∀{E:aa (Nat × aP)},(ol L ak λaF=>j2 E i aF h U)->j2 (wM L E) i ak h U
 | [],A=>by obtain⟨_,h,_⟩:=wE A;exact h
 |p::E,A=>by
  have A:ol L ak λaF=>(bif Nat.beq p.1 i then p.2 else j2 E i) aF h U:=A;show(bif Nat.beq p.1 i then tC L p.2 else j2 (wM L E) i) ak h U;cases C:Nat.beq p.1 i <;> rw[C]at A
  ·exact PT A
  ·exact A
theorem x6{L:aa Nat}{c:ks}{i:Nat}{aF:aa X}{h:ae}{U:Nat}:∀{E:aa (Nat × iP)},j2 (vn L c E) i aF h U↔rv i c=true/\j2 E i (ru L aF 0) h U
 | []=>⟨λh=>h.elim,λh=>h.2⟩
 |p::E=>by
  show j2 (bif rv p.1 c then(p.1,Hw L p.2)::vn L c E else vn L c E) i aF h U↔rv i c=true/\(bif Nat.beq p.1 i then p.2 else j2 E i) (ru L aF 0) h U;have C:=x6 (L:=L) (c:=c) (i:=i) (aF:=aF) (h:=h) (U:=U) (E:=E);cases A:Nat.beq p.1 i with
  |false =>
   cases D:rv p.1 c with
   |false=>exact C
   |true =>
    show(bif Nat.beq p.1 i then Hw L p.2 else j2 (vn L c E) i) aF h U↔_;rw[A];exact C
  |true =>
   have e:=gm A;subst e;cases D:rv p.1 c with
   |false=>exact⟨λh=>by rw[mH,C,D]at h;exact absurd h.1 (by simp),λh=>absurd h.1 (by simp)⟩
   |true =>
    show(bif Nat.beq p.1 p.1 then Hw L p.2 else j2 (vn L c E) p.1) aF h U↔_;rw[A];exact⟨λh=>⟨rfl,h⟩,λh=>h.2⟩
theorem z8{c:ks}{R:iP}{U:Nat}:Hx L c R aF h U↔vb c=true/\R (ru L aF 0) h U:=by
 unfold Hx;cases vb c with
 |false=>exact⟨λh=>h.elim,λh=>by cases h.1⟩
 |true=>exact⟨λh=>⟨rfl,h⟩,λh=>h.2⟩
theorem PU:∀(c:ks) {i:Nat} {ak:cc} {h:ae} {U:Nat} {N M:iP} {E V:aa (Nat × iP)} {R Z:iP},hZ P s eU c i ak h U N E R->(∀p h U,N p h U->M p h U)->(∀j p h U,j2 E j p h U->j2 V j p h U)->(∀p h U,R p h U->Z p h U)->hZ P s eU c i ak h U M V Z:=by
 intro c
 induction c with
 |skip=>intro i ak h U N M E V R Z A C I D;exact C _ _ _ A
 |exit id=>intro i ak h U N M E V R Z A C I D;exact I _ _ _ _ A
 |ret=>intro i ak h U N M E V R Z A C I D;exact D _ _ _ A
 |scope c eY=>intro i ak h U N M E V R Z A C I D;exact eY A C I D
 |tB l=>intro i ak h U N M E V R Z A C I D;exact Kh A C
 |Di l=>intro i ak h U N M E V R Z A C I D;exact Gc A C
 |no=>intro i ak h U N M E V R Z A C I D;exact A
 |xp f b7 a b =>
  intro i ak h U N M E V R Z A C I D;refine hO A λv aG=>?_;unfold tO at aG ⊢
  split at aG
  ·exact aH.mono aG λv h U ⟨st,p,lT,b7,a,b,h1,ap,aM⟩=>⟨st,p,lT,b7,a,b,h1,ap,aM.imp (λh=>⟨h.1,C _ _ _ h.2⟩) (λh=>⟨h.1,D _ _ _ h.2⟩)⟩
  ·exact aG
 |seq a b w5 w6=>intro i ak h U N M E V R Z A C I D;exact w5 A (λ_ _ _ h=>w6 h C I D) I D
 |block id c eY =>
  intro i ak h U N M E V R Z A C I D;refine eY A C (λj p h U eZ=>?_) D;have eZ:(bif Nat.beq id j then N else j2 E j) p h U:=eZ;show(bif Nat.beq id j then M else j2 V j) p h U;cases aO:Nat.beq id j <;> rw[aO]at eZ
  ·exact I _ _ _ _ eZ
  ·exact C _ _ _ eZ
 |cond x a b w5 w6 =>
  intro i ak h U N M E V R Z A C I D;cases x with
  |v v=>exact z7 A (λh=>w5 h C I D) (λh=>w6 h C I D)
  |t n =>
   simp only[hZ]at A ⊢
   split at A
   ·exact z7 A (λh=>w5 h C I D) (λh=>w6 h C I D)
   ·exact A
 |loop c eY =>
  intro i ak h U N M E V R Z A C I D;refine CA A λaF ⟨eC,m,au,en⟩=>⟨eC,m,au,λm aF h U bZ=>eY (en m aF h U bZ) (λ_ _ _ h=>h) (λj p h U eZ=>?_) (λp h U eZ=>?_)⟩
  ·exact PT (CA (Ki eZ) λaF h=>x6.2 ⟨(x6.1 h).1,I _ _ _ _ (x6.1 h).2⟩)
  ·exact CA eZ λaF h=>z8.2 ⟨(z8.1 h).1,D _ _ _ (z8.1 h).2⟩
end
def IH(N:iP)(E:aa (Nat × iP))(R:iP):LZ:=λx=>match x with
 | .normal=>N
 | .exit i=>j2 E i
 | .ret=>R
def lp:Code->al
 | .seq a b=>lp a&&lp b
 | .cond _ a b=>lp a&&lp b
 | .block _ c=>lp c
 | .loop c=>lp c
 | .scope c=>lp c
 | .rangeFunc _ _ _ _=>false
 |_=>true
structure pQ (P:Program):Prop where
 mixed:P.follows .mixedOrders=true
 names:∀(f:FuncId) (fn:Func),P.funcs[f]? = some fn->(fn.name == "runtime.NumGoroutine")=false
 fit:∀(f:FuncId) (fn:Func) (c:Code),P.funcs[f]? = some fn->fn.body=some c->kS fn.ntmps c=true
def Gd(fn:Func):al:=!(fn.name == "runtime.NumGoroutine")&&(match fn.body with|some c=>kS fn.ntmps c|none=>true)
theorem pQ.of{P:Program}(D:P.follows .mixedOrders=true)(E:P.funcs.toList.all Gd=true):pQ P:=by
 have A:∀(f:FuncId) (fn:Func),P.funcs[f]? = some fn->Gd fn=true:=ab
 refine⟨D,λf fn h=>?_,λf fn c h C=>?_⟩
 ·have:=A f fn h;simp only[Gd,eB,NK]at this
  grind
 ·have:=A f fn h;simp only[Gd,C,eB]at this
  grind
section
variable {P:Program} {B:Nat}
theorem cx.push{ai:b5}{H:fp}{w:World}(A:d9 B ai H w)(U:Nat)(o:Obj):cx B ai H w U U ai H { w with heap:=w.heap.push o } where
 rel:=A.world (by simp) λb p C aq=>by
  obtain⟨x,D⟩:=lI.1 aq;have:=(A.obj b p x C D).CP
  grind
 agree:=ab
 size:=by simp
 os:=rfl
 tape:=.here
 output:=rfl
 frame:=ab
 own:=ab
 le:=J
theorem d9.Kj{ai:b5}{H:fp}{w:World}(E:d9 B ai H w){p:Place}{A:aw Code}{C:cc}(M:ai b=some p)(I:H b=some (.loop st A C b7 rF body)):
  ∃l:Loop,B<=p.co/\w.heap[p.co]? = some (.loop l)/\Tf l.state=st/\l.pending=A/\jk ai C l.tmps/\l.params.toList=b7/\l.assign=rF/\l.body=body /\
   kS l.tmps.size rF=true/\kS l.tmps.size body=true/\(∀q∈b7,q<l.tmps.size):=by obtain⟨N,l,D⟩:=E.obj b p _ M I;exact⟨l,N,D⟩
theorem N9{w:World}{k:Nat}{l:Loop}(h:w.heap[k]? = some (.loop l)):(Instr.getLoop k).run P w = .ok l w:=by have:=q8 (P:=P) h ab;simp[Instr.getLoop,this]
theorem bF.amB{ai:b5}{a b:Array X}{c:X}(h:bF ai (.func (.func f) a b) c):∃C A:aa X,c = .func (.func f) ⟨C⟩ ⟨A⟩/\dq ai a.toList C/\dq ai b.toList A:=by
 cases h with
 |func _ E D=>exact⟨_,_,rfl,E,D⟩
theorem awA{f:Operand}{b7:Array Tmp}{ak:cc}{U:Nat}{x:e7}(aY:c3 f=some x)(aG:ea ak x = .ok v)(aq:tO P false v h U (.loop 0 none ak b7.toList rF body) K){L:Nat}{ai:b5}{w:World}(A:ot L B ai ak h U a w)(yD:kS a.tmps.size (.rangeFunc f b7 rF body)=true){N R:ae->Nat->Prop}(hi:K=yA U N R)(bg:uY L B ai h w U a.tmps.size (λx oV h U=>oV=ak/\(match x with | .normal=>N h U | .ret=>R h U | .exit _=>False)) Q):(Code.rangeFunc f b7 rF body).wpIn (m7 none) n P Q a w:=by
 have w0:=(A.iG.loc #[f]).eg (by simp) aY aG;unfold tO at aq
 split at aq
 ·rename_i g x y
  obtain⟨fU,qU,oW,aY,cd⟩:=w0.amB;have aq:kI P g _ _ _ K:=aq;obtain⟨⟨fn0,pR,mS,pS⟩,awB⟩:=aq;simp only[kS,eB,Cd,v6]at yD;refine wpIn_rangeFunc λfn _=>?_;have Ss:∃(C:World) (E:aa Deferred) (bK:Nat),cx B ai (u h) w U U ai (u h) C/\pz L B ai (u h) C (E++a.defers) /\
    (Instr.enterLoop fn a.tmps b7 rF body none).run P w = .ok (C.heap.size,E) { C with heap:=C.heap.push (.loop { state:=.ready,pending:=none,fn,tmps:=a.tmps,params:=b7,assign:=rF,body,defers:=bK }) }:=by
   have kp:=cx.push A.rel U (.deferred (some []));refine⟨{ w with heap:=w.heap.push (.deferred (some [])) },[{ target:=.collected w.heap.size,args:=#[] }],w.heap.size,kp,⟨⟨w.heap.size,A.low,rfl,by simp,λfw=>?_,?_⟩,A.marks.hX kp⟩,?_⟩
   ·have:=A.rel.Y3 fw;omega
   ·intro IG jt bP;have:∀(bK:aa Deferred),pz L B ai (u h) w bK->IG∈bK->False:=by
     intro bK
     induction bK with
     |nil=>grind
     |cons d bK eY =>
      rintro⟨⟨r,_,h1,ap,_,_⟩,aM⟩ bj
      grind
    exact this _ A.marks jt
   ·simp[Instr.enterLoop,zR];rfl
  obtain⟨C,E,bK,St,Tw,tD⟩:=Ss
  let p:Place:=⟨C.heap.size,0,0,0⟩
  let pT:b5:=λk=>if k=U then some p else ai k
  have KY:pT U=some p:=ab
  have mL:Sub ai pT:=λb q aO=>by
   by_cases e:b=U
   ·subst e;rw[A.fi.here]at aO;grind
   grind
  have Su:=Made.push C (.loop { state:=.ready,pending:=none,fn,tmps:=a.tmps,params:=b7,assign:=rF,body,defers:=bK });have pP:kY B pT { C with heap:=C.heap.push (.loop { state:=.ready,pending:=none,fn,tmps:=a.tmps,params:=b7,assign:=rF,body,defers:=bK }) } p (.loop 0 none ak b7.toList rF body):=
   ⟨St.rel.base,_,Su.new,rfl,rfl,A.iG.mono mL,rfl,rfl,rfl,ab,yD.2,ab⟩
  have I:=cx.make St.rel A.fi.here Su.size Su.dV rfl .here rfl  rfl pP;rw[<-uO]at I;have afi:=St.trans I;have Sv:jQ pT (U+1):=A.fi.after afi;have Tx:bF pT (.func (.yield U) #[] #[]) (.func (.yield C.heap.size) #[] #[]):=.yield  KY;have awC:dq pT (x.toList++(Value.func (.yield U) #[] #[]::y.toList)) (fU++(Value.func (.yield C.heap.size) #[] #[]::qU)):=(aY.mono mL).append (.cons Tx (cd.mono mL));have hci:=awB B pT _ _ I.rel Sv awC (n-1);generalize vq:({ C with heap:=C.heap.push (.loop { state:=.ready,pending:=none,fn,tmps:=a.tmps,params:=b7,assign:=rF,body,defers:=bK }) }:World)=zo at *
  refine⟨C.heap.size,E,zo,{ target:=.fn (.func g) ⟨qU⟩,args:=⟨fU⟩++#[Value.func (.yield C.heap.size) #[] #[]] },zo,g,⟨fU++(Value.func (.yield C.heap.size) #[] #[]::qU)⟩,zo,tD,?_,λ_ _=>trivial,?_,λh=>by simp[m7,Fence.wide]at h,?_⟩
  ·have atY:a.eval (.const (.func (.yield C.heap.size) #[] #[])) = .func (.yield C.heap.size) #[] #[]:=rfl;simp[resolve,rangeCall,oW,Deferred.ofValue,atY]
  ·have aO:fn0.body≠none:=ab
   have A9:fn0.name ≠ "runtime.NumGoroutine" := by grind
   simp[invoke,callFunc,pR,A9,aO]
  ·rw[YN];refine hci.mono λe V bP=>?_;obtain⟨nz,ac,Y,bn,c,rfl,hk,w3,bp⟩:=bP;have pH:=Sv.after bp;have HK:bn U=some p:=(Sv.sub bp) _ _ KY;subst hi;obtain⟨st,G7,AY,Ba,eb,ce,a9,Lt,hk⟩:=hk;obtain⟨Z,en,Bb,js,hpd,yY,Lu,Sw,Sx,ayV,ayW,ayX⟩:=bp.rel.Kj HK a9;subst hpd;have sF:=N9 (P:=P) Bb;have w1:Z.state≠.busy:=by intro h;rw[h]at js;subst js;exact Lt rfl
   have Sy:=uJ (P:=P)  (o:=.loop { Z with state:=.exhausted }) Bb ab;have Sz:(Instr.endLoop C.heap.size).run P V = .ok Z.pending { V with heap:=V.heap.setIfInBounds C.heap.size (.loop { Z with state:=.exhausted }) }:=by have sF:(Instr.getLoop C.heap.size).run P V = .ok Z V:=sF;have Sy:(setObj C.heap.size (.loop { Z with state:=.exhausted })).run P V = .ok () _:=Sy;simp[Instr.endLoop,sF,w1,Sy];rfl
   have Lv:cx B bn (u ac) V Y Y bn (u (F ac U (.loop 3 Z.pending AY Ba eb ce))) { V with heap:=V.heap.setIfInBounds C.heap.size (.loop { Z with state:=.exhausted }) }:=
    cx.set bp.rel Y HK a9 en ab λba pN=>⟨en,_,pN,rfl,rfl,yY,Lu,Sw,Sx,ayV,ayW,ayX⟩
   have D:=(afi.trans bp).trans Lv;have M:ot L B bn ak (F ac U (.loop 3 Z.pending AY Ba eb ce)) Y { a with defers:=E++a.defers } { V with heap:=V.heap.setIfInBounds C.heap.size (.loop { Z with state:=.exhausted }) }:=
    ⟨D.rel,pH,A.iG.mono (A.fi.sub D),((Tw.hX I).hX bp).hX Lv,h7 A.low D.size⟩
   refine⟨_,_,Sz,?_⟩;generalize (F ac U (.loop 3 Z.pending AY Ba eb ce))=H at hk D M;generalize ({ V with heap:=V.heap.setIfInBounds C.heap.size (.loop { Z with state:=.exhausted }) }:World)=nA at D M ⊢;rcases hk with⟨bZ,hk⟩|⟨bZ,hk⟩ <;> rw[bZ]
   ·exact bg .normal _ _ _ _ _ _ ⟨rfl,hk⟩ D M rfl
   ·exact wpIn_ret (bg .ret _ _ _ _ _ _ ⟨rfl,hk⟩ D M rfl)
 ·exact aq.elim
theorem ot.ak{L:Nat}{ai:b5}{ak A:cc}{U:Nat}{w:World}(s:ot L B ai ak h U a w)(C:jk ai A a.tmps):ot L B ai A h U a w:=⟨s.rel,s.fi,C,s.marks,s.low⟩
theorem RR(fV:pQ P):∀(c:Code) {i:Nat} {ak:cc} {h:ae} {U:Nat} {N:iP} {E:aa (Nat × iP)} {R:iP},hZ P false eU (comp P c) i ak h U N E R ->
  ∀{L:Nat} {ai:b5} {a:Act} {w:World} {n:Nat} {r:aw Nat} {Q:Exit->Act->World->Prop},ot L B ai ak h U a w->kS a.tmps.size c=true->(r=none\/lp c=true)->uY L B ai h w U a.tmps.size (IH N E R) Q->c.wpIn (m7 r) n P Q a w:=by
 intro c
 induction c with
 |skip=>intro i ak h U N E R aq L ai a w n r Q A C Z M;exact wpIn_skip (M .normal _ _ _ _ _ _ aq (cx.refl U A.rel) A rfl)
 |label l=>intro i ak h U N E R aq L ai a w n r Q A C Z M;exact wpIn_label (M .normal _ _ _ _ _ _ aq (cx.refl U A.rel) A rfl)
 |exit id=>intro i ak h U N E R aq L ai a w n r Q A C Z M;exact wpIn_exit (M (.exit id) _ _ _ _ _ _ aq (cx.refl U A.rel) A rfl)
 |ret=>intro i ak h U N E R aq L ai a w n r Q A C Z M;exact wpIn_ret (M .ret _ _ _ _ _ _ aq (cx.refl U A.rel) A rfl)
 |scope c eY =>
  intro i ak h U N E R aq L ai a w n r Q A C Z M;refine aiZ (eY aq A C Z ?_);intro x oV ac Y bn eb ba V bp D I;have:=M x oV ac Y bn eb ba V bp D I;cases x <;> exact this
 |region id a7 Dm =>
  intro i ak h U N E R aq L ai a w n r Q A C Z M;have aq:hZ P false eU (Sl P a7.toList Dm) i ak h U N E R:=aq;unfold Sl at aq;cases Dm with
  |false =>
   simp only[mH]at aq
   split at aq
   ·rename_i l bA
    refine wpIn_region ?_;have:=ada (r:=r) (n:=n) (Q:=Q) a7.toList l 0 rfl bA aq A C (M.mono λx ak h U V=>by obtain⟨rfl,V⟩:=V;exact V);rw[List.range_eq_range'];simpa using this
   ·exact aq.elim
  |true =>
   simp only[qm]at aq
   split at aq
   ·rename_i l bA
    obtain⟨bJ,h1,ap⟩:=jE.1 bA;refine wpIn_region_any fV.mixed ?_;refine aqd h1 ap aq ⟨A.rel.drawn _,A.fi,A.iG,pz.hX (w:=w) (ao:=U) (aj:=U) ⟨A.rel.drawn (w.drawn+1),ab,ab,rfl,⟨rfl,by simp⟩,rfl,ab,ab,J⟩ A.marks,A.low⟩ C ?_;rintro x oV ac Y bn eb ba ⟨rfl,V⟩ bp D I;exact M .normal oV ac Y bn eb ba V (cx.from (by simp) bp) D I
   ·exact aq.elim
 |seq x y ihx ihy =>
  intro i ak h U N E R aq L ai a w n r Q A C Z M;simp only[kS,eB]at C;have sG:r=none\/lp x=true:=Z.imp id λh=>by simp only[lp,eB]at h;exact h.1
  have oc:r=none\/lp y=true:=Z.imp id λh=>by simp only[lp,eB]at h;exact h.2
  refine wpIn_seq (ihx aq A C.1 sG ?_);intro fU oV ac Y bn eb ba V bp D I;cases fU with
  |normal=>exact ihy V D (by rw[I];exact C.2) oc (by rw[I];exact M.after bp)
  |exit j=>exact M (.exit j) _ _ _ _ _ _ V bp D I
  |ret=>exact M .ret _ _ _ _ _ _ V bp D I
 |cond x c1 c2 ih1 Ty =>
  intro i ak h U N E R aq L ai a w n r Q A C Z M;simp only[kS,eB]at C;have sG:r=none\/lp c1=true:=Z.imp id λh=>by simp only[lp,eB]at h;exact h.1
  have oc:r=none\/lp c2=true:=Z.imp id λh=>by simp only[lp,eB]at h;exact h.2
  simp only[comp]at aq
  split at aq
  ·rename_i y cd
   have L7:∀b,ea ak y = .ok (.bool b)->a.eval x = .bool b:=λb aO=>((A.iG.loc #[x]).eg (by simp) cd aO).FM;cases y with
   |v v =>
    rcases tx aq with⟨rfl,aq⟩|⟨rfl,aq⟩
    ·exact wpIn_cond (L7 true rfl) (ih1 aq A C.1 sG M)
    ·exact wpIn_cond (L7 false rfl) (Ty aq A C.2 oc M)
   |t m =>
    simp only[hZ]at aq
    split at aq
    ·rename_i v aG
     have hpv:ea ak (.t m) = .ok v:=by simp[ea,aG]
     rcases tx aq with⟨rfl,aq⟩|⟨rfl,aq⟩
     ·exact wpIn_cond (L7 true hpv) (ih1 aq (A.ak (A.iG.same (tE.lit aG))) C.1 sG M)
     ·exact wpIn_cond (L7 false hpv) (Ty aq (A.ak (A.iG.same (tE.lit aG))) C.2 oc M)
    ·exact aq.elim
  ·exact aq.elim
 |block id c eY =>
  intro i ak h U N E R aq L ai a w n r Q A C Z M;refine wpIn_block (eY aq A C Z ?_);intro x oV ac Y bn eb ba V bp D I;cases x with
  |normal=>exact M .normal _ _ _ _ _ _ V bp D I
  |ret=>exact M .ret _ _ _ _ _ _ V bp D I
  |exit j =>
   have V:(bif Nat.beq id j then N else j2 E j) oV ac Y:=V;show if j=id then Q .normal eb ba else Q (.exit j) eb ba
   by_cases e:j=id
   ·rw[if_pos e];rw[show Nat.beq id j=true by rw[e];exact uC id]at V;exact M .normal _ _ _ _ _ _ V bp D I
   ·rw[if_neg e];rw[show Nat.beq id j=false by
     cases aO:Nat.beq id j with
     |true=>exact absurd (gm aO).symm e
     |false=>rfl]at V
    exact M (.exit j) _ _ _ _ _ _ V bp D I
 |loop c eY =>
  intro i ak h U N E R aq L ai a w n r Q A C Z M;obtain⟨aF,⟨eC,m,vJ,en⟩,e9⟩:=A.iG.rY aq;refine ai0 (λm eb ba=>∃aF ac Y bn,eC m aF ac Y/\cx B ai (u h) w U Y bn (u ac) ba/\ot L B bn (ru (kl eU i) aF 0) ac Y eb ba/\eb.tmps.size=a.tmps.size) ?_ (m:=m) ⟨aF,h,U,ai,vJ,cx.refl U A.rel,A.ak e9,rfl⟩;rintro m aB da ⟨vs1,h1,lq,pT,Tz,ayY,ayZ,SA⟩;refine eY (en m vs1 h1 lq Tz) ayZ (by rw[SA];exact C) Z ?_;intro x oV ac Y bn eb ba V bp D I;have DQ:=ayY.trans bp;have SB:=I.trans SA;cases x with
  |normal =>
   obtain⟨Bc,⟨bG,ct,hJ2⟩,tY⟩:=D.iG.rY V;exact⟨bG,ct,Bc,ac,Y,bn,hJ2,DQ,D.ak tY,SB⟩
  |exit j =>
   obtain⟨Bc,eW,tY⟩:=D.iG.rY (Ki V);exact M (.exit j) _ _ _ _ _ _ (x6.1 eW).2 DQ (D.ak tY) SB
  |ret =>
   obtain⟨Bc,eW,tY⟩:=D.iG.rY V;exact M .ret _ _ _ _ _ _ (z8.1 eW).2 DQ (D.ak tY) SB
 |rangeFunc f b7 rF body =>
  intro i ak h U N E R aq L ai a w n r Q A C Z M;rcases Z with rfl|Z
  ·simp only[comp]at aq
   split at aq
   ·rename_i x aY
    obtain⟨v,aG,aq⟩:=f6 aq;refine awA aY aG aq A C rfl (M.mono λx oV h U V=>?_);obtain⟨rfl,V⟩:=V;cases x <;> first|exact V|exact V.elim
   ·exact aq.elim
  ·cases Z
 |_=>intro i ak h U N E R aq;exact aq.elim
end
section
variable {P:Program}
def vK(pe0:cc)(au:ae)(a4:Nat):cc->ae->Nat->Prop:=λak h U=>ak=pe0/\h=au/\U=a4
theorem atZ{i:m6}{ak:cc}{U:Nat}{k:cc->ae->Nat->Prop}(A:ny P true d i ak h U k):∃D M Y,k D M Y/\ny P false d i ak h U (vK D M Y):=by
 cases i with
 |fu e =>
  cases e
  case pick =>
   obtain⟨c,C,A⟩:=f6 A;obtain⟨a,E,A⟩:=f6 A;obtain⟨b,I,A⟩:=f6 A;rcases tx A with⟨rfl,A⟩|⟨rfl,A⟩
   ·exact⟨_,_,_,A,by simp only[ny,C,E,I];exact⟨rfl,rfl,rfl⟩⟩
   ·exact⟨_,_,_,A,by simp only[ny,C,E,I];exact⟨rfl,rfl,rfl⟩⟩
  all_goals
   obtain⟨v,C,A⟩:=f6 A;exact⟨_,_,_,A,by simp only[ny,Na,id,C];exact⟨rfl,rfl,rfl⟩⟩
 |io e=>obtain⟨v,C,A⟩:=f6 A;exact⟨_,_,_,A,by simp only[ny,dS,C];exact⟨rfl,rfl,rfl⟩⟩
 |red e=>obtain⟨v,C,A⟩:=f6 A;exact⟨_,_,_,A,by simp only[ny,C];exact⟨rfl,rfl,rfl⟩⟩
 |fv e =>
  rw[KH]at A;obtain⟨v,M,Y,N,V,_⟩:=Q1 A;exact⟨_,_,_,N,by rw[KH];exact Kf V λ_ _ _ ⟨C,E,I⟩=>⟨by rw[C],E,I⟩⟩
theorem ade{ak:cc}{ef f7:cc->cc->ae->Nat->Prop}{K:cc->ae->Nat->Prop}(h:ku g ak (λak=>∃p h n,K p h n/\ef ak p h n) (λak=>∃p h n,K p h n/\f7 ak p h n)):∃p h n,K p h n/\ku g ak (λak=>ef ak p h n) (λak=>f7 ak p h n):=by
 cases g with
 |none=>exact h
 |some g =>
  obtain⟨t,w⟩:=g;simp only[ku]at h ⊢
  split at h
  ·rcases tx h with⟨rfl,h⟩|⟨rfl,h⟩ <;> cases w <;> exact h
  ·exact h
  ·exact h.elim
theorem Q3:∀{l:aa lV} {ak:cc} {h:ae} {U:Nat} {k:cc->ae->Nat->Prop},p6 P true l ak h U k->∃C A Y,k C A Y/\p6 P false l ak h U (vK C A Y)
 | [],_,_,_,_,D=>⟨_,_,_,D,rfl,rfl,rfl⟩
 |i::l,ak,h,U,k,D=>by rw[Kg]at D;simp only[Kg];refine ade (ef:=λak p A n=>ny P false i.d i.k ak h U λak h U=>p6 P false l ak h U (vK p A n)) (f7:=λak p A n=>p6 P false l (ep ak i.d none) h U (vK p A n)) (Cz D (λ_ h=>?_) (λ_ h=>Q3 (l:=l) h));obtain⟨p,h1,a5,M,bj⟩:=atZ h;obtain⟨V,ap,N,E,I⟩:=Q3 (l:=l) M;exact⟨V,ap,N,E,PS bj λ_ _ _ ⟨aW,aK,Z⟩=>by rw[aW,aK,Z];exact I⟩
theorem Ai:∀{l:aa lV} {ak:cc} {h:ae} {U:Nat} {b:ae} {aq:aa ae} {k:cc->ae->Nat->Prop},ie P l ak h U b aq k->∃Z A Y,k Z A Y/\ie P l ak h U b aq (vK Z A Y)
 | [],_,_,_,_,_,_,E=>⟨_,_,_,E,rfl,rfl,rfl⟩
 |i::l,ak,h,U,b,aq,k,E=>by
  rw[PR]at E;simp only[PR];refine ade (ef:=λak p A n=>mQ P i.d i.c i.k ak h U b aq λak h U b aq=>ie P l ak h U b aq (vK p A n)) (f7:=λak p A n=>if je i.k=true then ie P l (ep ak i.d none) h U h (b::aq) (vK p A n)else ie P l (ep ak i.d none) h U b aq (vK p A n)) (Cz E (λak C=>?_) (λak C=>?_))
  ·cases hk:i.k with
   |fu e =>
    rw[hk]at C;have fin:∀v,pG P ak e = .ok v->ie P l (ep ak i.d (some v)) h U b aq k->∃p A n,k p A n/\mQ P i.d i.c (.fu e) ak h U b aq λak h U b aq=>ie P l ak h U b aq (vK p A n):=λv M D=>by
     obtain⟨p,A,n,V,I⟩:=Ai (l:=l) D;refine⟨p,A,n,V,?_⟩;cases e
     case pick c x y =>
      simp only[pG]at M;obtain⟨c,g1,M⟩:=R.fd M;obtain⟨a,g2,M⟩:=R.fd M;obtain⟨b,c6,M⟩:=R.fd M;simp only[mQ,g1,g2,c6];cases c with
      |bool t=>cases t <;> cases M <;> exact I
      |_=>cases M
     all_goals (simp only[mQ,Na,id];first|(rw[M];exact I)|(simp only[pG]at M;rw[M];exact I))
    have C:∃v,pG P ak e = .ok v/\ie P l (ep ak i.d (some v)) h U b aq k:=by
     cases e
     case pick =>
      obtain⟨c,V,E⟩:=f6 C;obtain⟨a,I,E⟩:=f6 E;obtain⟨b,N,E⟩:=f6 E;rcases tx E with⟨rfl,E⟩|⟨rfl,E⟩
      ·exact⟨a,by simp[pG,V,I,N,R.bind,GP],E⟩
      ·exact⟨b,by simp[pG,V,I,N,R.bind,GP],E⟩
     all_goals exact f6 C
    obtain⟨v,M,D⟩:=C;exact fin v M D
   |io e =>
    rw[hk]at C;obtain⟨v,V,D⟩:=f6 C;obtain⟨p,A,n,I,N⟩:=Ai (l:=l) D;exact⟨p,A,n,I,by simp only[mQ,dS,V];exact N⟩
   |red e =>
    rw[hk]at C;obtain⟨v,V,D⟩:=f6 C;have key:∃p A n,k p A n/\(ie P l (ep ak i.d (some v)) h U b aq k->ie P l (ep ak i.d (some v)) h U b aq (vK p A n)):=by
     have D:ie P l (ep ak i.d (some v)) h U b aq k:=by
      cases a1:i.c <;> rw[a1]at D
      ·exact D
      ·exact(QZ D).2
     obtain⟨p,A,n,I,N⟩:=Ai (l:=l) D;exact⟨p,A,n,I,λ_=>N⟩
    obtain⟨p,A,n,I,N⟩:=key;refine⟨p,A,n,I,?_⟩;simp only[mQ,V];have bO:∀{f:ae->R X} {p q:Prop} (_:p->q) {n:Nat} {aq:aa ae},oT f v p n aq->oT f v q n aq:=λ{f p q} HH {n}=>by
     induction n with
     |zero=>intro aq h;exact HH h
     |succ n eY=>intro aq h;cases aq with
      |nil=>exact h
      |cons x xs=>exact⟨h.1,eY h.2⟩
    cases a1:i.c <;> rw[a1]at D
    ·exact N D
    ·exact bO N D
   |fv e =>
    rw[hk]at C;rw[Gb]at C;obtain⟨v,V,a5,⟨dO,D⟩,_,bP⟩:=Q1 C;obtain⟨p,A,n,I,N⟩:=Ai (l:=l) D;exact⟨p,A,n,I,by rw[Gb];exact bP _ ⟨dO,N⟩⟩
  ·split at C <;> rename_i e
   ·simp only[if_pos e];exact Ai (l:=l) C
   ·simp only[if_neg e];exact Ai (l:=l) C
theorem Q4:∀(c:ks) {i:Nat} {ak:cc} {h:ae} {U:Nat} {N:iP} {E:aa (Nat × iP)} {R:iP},hZ P true eU c i ak h U N E R ->
  ∃x p ac n,IH N E R x p ac n/\∀D I C,IH D I C x p ac n->hZ P false eU c i ak h U D I C:=by
 intro c
 induction c with
 |skip=>intro i ak h U N E R A;exact⟨.normal,_,_,_,A,λ_ _ _ h=>h⟩
 |exit id=>intro i ak h U N E R A;exact⟨.exit id,_,_,_,A,λ_ _ _ h=>h⟩
 |ret=>intro i ak h U N E R A;exact⟨.ret,_,_,_,A,λ_ _ _ h=>h⟩
 |scope c eY=>intro i ak h U N E R A;exact eY A
 |tB l=>intro i ak h U N E R A;obtain⟨p,V,n,ap,aM⟩:=Q3 A;exact⟨.normal,p,V,n,ap,λ_ _ _ M=>Kh aM λ_ _ _ ⟨aW,aK,cf⟩=>by rw[aW,aK,cf];exact M⟩
 |Di l=>intro i ak h U N E R A;obtain⟨p,V,n,ap,aM⟩:=Ai A;exact⟨.normal,p,V,n,ap,λ_ _ _ M=>Gc aM λ_ _ _ ⟨aW,aK,cf⟩=>by rw[aW,aK,cf];exact M⟩
 |no=>intro i ak h U N E R A;exact A.elim
 |xp f b7 a b =>
  intro i ak h U N E R A;obtain⟨v,aG,A⟩:=f6 A;unfold tO at A
  split at A
  ·obtain⟨v1,V,a5,⟨st,p,lT,Ba,eb,ce,g1,g2,c6⟩,a1⟩:=A;have up:∀(D C:iP) ,((p=none/\D ak (F V U (.loop 3 p lT Ba eb ce)) a5)\/(p=some .ret/\C ak (F V U (.loop 3 p lT Ba eb ce)) a5))->∀I,hZ P false eU (.xp f b7 a b) i ak h U D I C:=λD C M I=>by simp only[hZ,aG];refine kI.mono a1 ?_;rintro _ _ _ ⟨rfl,rfl,rfl⟩;exact⟨st,p,lT,Ba,eb,ce,g1,g2,M⟩
   rcases c6 with⟨e,c6⟩|⟨e,c6⟩
   ·exact⟨.normal,_,_,_,c6,λD I C M=>up D C (.inl ⟨e,M⟩) I⟩
   ·exact⟨.ret,_,_,_,c6,λD I C M=>up D C (.inr ⟨e,M⟩) I⟩
  ·exact A.elim
 |seq a b w5 w6 =>
  intro i ak h U N E R A;obtain⟨x,p,V,a5,M,bj⟩:=w5 A;cases x with
  |normal =>
   obtain⟨x,iH,ap,bX,eW,hd2⟩:=w6 M;exact⟨x,iH,ap,bX,eW,λD I C Z=>bj _ I C (hd2 D I C Z)⟩
  |exit j=>exact⟨.exit j,p,V,a5,M,λD I C Z=>bj _ I C Z⟩
  |ret=>exact⟨.ret,p,V,a5,M,λD I C Z=>bj _ I C Z⟩
 |block id c eY =>
  intro i ak h U N E R A;obtain⟨x,p,V,a5,M,bj⟩:=eY A;cases x with
  |normal=>exact⟨.normal,p,V,a5,M,λD I C Z=>bj D _ C Z⟩
  |ret=>exact⟨.ret,p,V,a5,M,λD I C Z=>bj D _ C Z⟩
  |exit j =>
   have M:(bif Nat.beq id j then N else j2 E j) p V a5:=M;cases aO:Nat.beq id j <;> rw[aO]at M
   ·exact⟨.exit j,p,V,a5,M,λD I C Z=>bj D ((id,D)::I) C (by show(bif Nat.beq id j then D else j2 I j) p V a5;rw[aO];exact Z)⟩
   ·exact⟨.normal,p,V,a5,M,λD I C Z=>bj D ((id,D)::I) C (by show(bif Nat.beq id j then D else j2 I j) p V a5;rw[aO];exact Z)⟩
 |cond y a b w5 w6 =>
  intro i ak h U N E R A;cases y with
  |v v =>
   rcases tx A with⟨rfl,A⟩|⟨rfl,A⟩
   ·exact w5 A
   ·exact w6 A
  |t m =>
   simp only[hZ]at A ⊢
   split at A
   ·rename_i v aG
    rcases tx A with⟨rfl,A⟩|⟨rfl,A⟩
    ·obtain⟨x,p,V,a5,M,bj⟩:=w5 A;exact⟨x,p,V,a5,M,λD I C Z=>bj D I C Z⟩
    ·obtain⟨x,p,V,a5,M,bj⟩:=w6 A;exact⟨x,p,V,a5,M,λD I C Z=>bj D I C Z⟩
   ·exact A.elim
 |loop c eY =>
  intro i ak h U N E R A;obtain⟨aF,⟨eC,m,vJ,en⟩,eD,_⟩:=wE A;have key:∀m aF h U,eC m aF h U->∃x p ac n,x≠.normal/\IH N E R x p ac n/\∀D I C,IH D I C x p ac n->bC (λaF h U N E R=>hZ P false eU c (i+1) (ru (kl eU i) aF 0) h U (tC (kl eU i) N) (wM (kl eU i) E) (tC (kl eU i) R)) aF h U (vn (kl eU i) c I) (Hx (kl eU i) c C):=by
   intro m
   induction m using Nat.strongRecOn with
   |_ m ihm =>
    intro aF h U bZ;obtain⟨x,p,V,a5,M,bj⟩:=eY (en m aF h U bZ);cases x with
    |normal =>
     obtain⟨Bc,⟨bG,ct,hj2⟩,y0,_⟩:=wE M;obtain⟨x,k8,aM,bW,aY,e1,hd3⟩:=ihm bG ct Bc V a5 hj2;refine⟨x,k8,aM,bW,aY,e1,λD I C Z=>?_⟩;obtain⟨aCT,m1,Tz,vu⟩:=hd3 D I C Z;refine⟨λk v g n=>(k=m1+1/\v=aF/\g=h/\n=U)\/(k<=m1/\aCT k v g n),m1+1,.inl ⟨rfl,rfl,rfl,rfl⟩,?_⟩;rintro k v g n (⟨rfl,rfl,rfl,rfl⟩|⟨dO,bZ⟩)
     ·exact bj _ _ _ (y0 _ ⟨m1,J,.inr ⟨J,Tz⟩⟩)
     ·exact PU c (vu k v g n bZ) (λ_ _ _ h=>CA h λ_ ⟨bG,V,ap⟩=>⟨bG,V,.inr ⟨J,ap⟩⟩) (λ_ _ _ _ h=>h) (λ_ _ _ h=>h)
    |exit j =>
     obtain⟨Bc,eW,y0,_⟩:=wE (Ki M);refine⟨.exit j,_,_,_,by simp,(x6.1 eW).2,λD I C Z=>⟨λk v g n=>v=aF/\g=h/\n=U,0,⟨rfl,rfl,rfl⟩,?_⟩⟩;rintro k v g n ⟨rfl,rfl,rfl⟩;exact bj _ _ _ (PT (y0 _ (x6.2 ⟨(x6.1 eW).1,Z⟩)))
    |ret =>
     obtain⟨Bc,eW,y0,_⟩:=wE M;refine⟨.ret,_,_,_,by simp,(z8.1 eW).2,λD I C Z=>⟨λk v g n=>v=aF/\g=h/\n=U,0,⟨rfl,rfl,rfl⟩,?_⟩⟩;rintro k v g n ⟨rfl,rfl,rfl⟩;exact bj _ _ _ (y0 _ (z8.2 ⟨(z8.1 eW).1,Z⟩))
  obtain⟨x,p,V,a5,aY,M,bj⟩:=key m aF h U vJ;exact⟨x,p,V,a5,M,λD I C Z=>eD _ (bj D I C Z)⟩
end
section
variable {P:Program} {B:Nat} {ai:b5}
def Hg(tmps:Array X):ResultVar->Sem X
 | .tmp t=>pure (tmps.getD t undef)
 | .cell a t=>do loadVar t (<-asAddr (tmps.getD a undef))
theorem jk.eg{ak:cc}{tmps:Array X}(A:jk ai ak tmps){t:Nat}{v:X}(h:ea ak (.t t) = .ok v):bF ai v (tmps.getD t undef):=
 (A.loc #[.tmp t]).eg (a:={ tmps:=tmps,defers:=[] }) (x:=.tmp t) (by simp) rfl h
theorem Kk{ak:cc}{h:ae}:∀{D:aa ResultVar} {k:aa X->Prop},yB P ak h D k->∃l,k l/\(∀di,di l->yB P ak h D di) /\
  ∀{B:Nat} {ai:b5} {w:World} {tmps:Array X},jk ai ak tmps->d9 B ai (u h) w->∃C,dq ai l C/\(D.mapM (Hg tmps)).run P w = .ok C w
 | [],k,A=>⟨[],A,λ_ h=>h,λ_ _=>⟨[],.nil,rfl⟩⟩
 | .tmp t::D,k,A=>by obtain⟨v,I,A⟩:=f6 A;obtain⟨l,Z,ap,aM⟩:=Kk A;refine⟨v::l,Z,λdi N=>by simp only[yB,I];exact ap _ N,λE M=>?_⟩;obtain⟨C,ev,m8⟩:=aM E M;exact⟨_::C,.cons (E.eg I) ev,by simp only[Cf,Hg,Sem.run_bind,m8,Result.andThen_ok,Sem.run_pure]⟩
 | .cell a t::D,k,A=>by obtain⟨v,I,A⟩:=f6 A;obtain⟨V,ej,A⟩:=f6 A;obtain⟨bO,wZ,vr⟩:=R.kX ej;obtain⟨l,Z,ap,aM⟩:=Kk A;refine⟨V::l,Z,λdi N=>by simp only[yB,I];exact(show af (R.of "type" (px P t) λbO=>iM bO h v) _ by rw[ej];exact ap _ N),λ{B ai w tmps} E M=>?_⟩;obtain⟨C,ev,m8⟩:=aM E M;obtain⟨eb,e,c,bc,b3⟩:=PN M wZ vr (E.eg I);exact⟨c::C,.cons b3 ev,by simp only[Cf,Hg,e,asAddr,Sem.run_bind,Sem.run_pure,Result.andThen_ok,bc,m8]⟩
theorem ais{ak:cc}{U:Nat}{w:World}(I:jk ai ak tmps)(N:d9 B ai (u h) w)(aq:ss P fn.results.toList K ak h U):
  ∃v c,K v h U/\bF ai v c/\(results fn tmps).run P w = .ok c w:=by
 obtain⟨l,D,_,aM⟩:=Kk aq;obtain⟨V,Z,M⟩:=aM I N;have bp:(fn.results.mapM (Hg tmps)).run P w = .ok ⟨V⟩ w:=by rw[Array.mapM_eq_mapM_toList];simp[M]
 have A:results fn tmps=(do
   let aF <-fn.results.mapM (Hg tmps)
   pure (if h:aF.size=1 then aF[0]else .tuple aF)):=by congr 1
 rw[A];simp only[Sem.run_bind,bp,Result.andThen_ok,Sem.run_pure];cases Z with
 |nil=>exact⟨_,_,D,.tuple .nil,rfl⟩
 |cons C E =>
  cases E with
  |nil=>exact⟨_,_,D,C,rfl⟩
  |cons cd E=>exact⟨_,_,D,.tuple (.cons C (.cons cd E)),by simp⟩
theorem cx.beside{H gU:fp}{w:World}{bn:b5}(V:B<=gC.heap.size)(A:cx B ai H gC ao aj bn gU w){r:Nat}(N:gC.heap.size<=r)(C:¬wL B bn gU r)(o:Obj):
  cx B ai H gC ao aj bn gU { w with heap:=w.heap.setIfInBounds r o } where
 rel:=A.rel.world (by simp) λb p E aq=>by
  have M:r≠p.co:=λe=>C ⟨b,p,E,aq,e.symm,J⟩
  grind
 agree:=A.agree
 size:=by simpa using A.size
 os:=A.os
 tape:=A.tape
 output:=A.output
 frame:=λk D I=>by simp only[zD];rw[if_neg J];exact A.frame k D I
 own:=A.own
 le:=A.le
theorem pz.beside{L:Nat}{H:fp}{w:World}{r:Nat}(o:Obj):∀{A:aa Deferred},(∀E∈A,E.target≠.collected r)->pz L B ai H w A->pz L B ai H { w with heap:=w.heap.setIfInBounds r o } A
 | [],_,_=>trivial
 |d::A,Z,⟨⟨q,C,M,V,N,I⟩,D⟩=>by
  refine⟨⟨q,C,M,?_,N,I⟩,pz.beside o ab D⟩
  grind
theorem ahN{w:World}{A:aa Deferred}(h:w.heap[b]? = some (.deferred (some A))):
  (Instr.takeDeferred b).run P w = .ok A { w with heap:=w.heap.setIfInBounds b (.deferred none) }:=by have D:=q8 (P:=P) h ab;have C:=uJ (P:=P) (o:=.deferred none) h ab;simp[Instr.takeDeferred,D,C]
theorem Oy{fn:Func}{tmps:Array X}{n:Nat}{V E:ae}{gC:World}{A Y:Nat}{bn:b5}{ak:cc}{K:bR}(en:B<=gC.heap.size)(Z:jk bn ak tmps)(aq:ss P fn.results.toList K ak E Y):
  ∀(D:aa Deferred) (w:World),pz gC.heap.size B bn (u E) w D->cx B ai (u V) gC A Y bn (u E) w ->
   LeavesInM Fence.wide n P fn tmps (Fin B ai V gC A K) D .returning w
 | [],w,_,I=>by obtain⟨v,c,hk,aG,C⟩:=ais  Z I.rel aq;exact⟨c,C,v,E,Y,bn,c,rfl,hk,aG,I⟩
 |d::D,w,⟨⟨r,eD,ci,b0,M,bj⟩,N⟩,I=>by refine⟨by simp,.inl ⟨r,{ w with heap:=w.heap.setIfInBounds r (.deferred none) },ci,ahN b0,?_⟩⟩;exact Oy en Z aq D _ (pz.beside _ bj N) (cx.beside en I eD M _)
theorem W1{d:Nat}{v:aw X}:∀{args:aa X} {i:Nat},hq (yd args i) d=some v->∃j A,args[j]? = some A/\d=i+j/\v=some A
 | [],i,h=>by cases h
 |x::args,i,h=>by
  have h:hq ((i,some x)::yd args (i+1)) d=some v:=h;rw[Fz]at h
  by_cases e:i=d
  ·rw[if_pos e]at h;cases h;exact⟨0,x,rfl,J,rfl⟩
  ·rw[if_neg e]at h;obtain⟨j,A,C,E,D⟩:=W1 h;exact⟨j+1,A,C,J,D⟩
theorem ake{A:aa X}(h:dq ai args A)(k:Nat):jk ai (yd args 0) ((⟨A⟩:Array X)++Array.replicate k undef):=by
 intro d v I;obtain⟨j,D,C,rfl,rfl⟩:=W1 I;obtain⟨c,M,E⟩:=h.get C;have C:((⟨A⟩:Array X)++Array.replicate k undef).getD (0+j) undef=c:=by
  simp only[qj]
  grind
 rw[C];exact E
theorem ait(A:n<=m)(a7:aa Oper)(h:wv n a7=true):wv m a7=true:=by
 simp only[wv,Cd]at *
 intro o C;have:=h o C;cases D:o.dst with
 |none=>rfl
 |some d =>
  rw[D]at this;simp only[v6]at *
  omega
theorem aif(C:n<=m):∀(c:Code),kS n c=true->kS m c=true:=by
 intro c
 induction c <;> intro h <;> simp only[kS,eB]at * <;> try trivial
 all_goals first
  |exact ait C _ h
  |(rename_i D A;exact ab)
  |(rename_i E;exact E h)
  |skip
 rename_i b7 a b D A
 refine⟨⟨?_,ab⟩,A h.2⟩;simp only[Cd,v6]at *
 grind
theorem kI.o0(Z:pQ P){U:Nat}(M:oo P false eU f args h U K):kI P f args h U K:=by
 unfold oo at M
 split at M
 ·rename_i oq D
  unfold yc at D
  split at D
  ·rename_i fn A
   split at D
   ·rename_i c aO
    cases D;have A:P.funcs[f]? = some fn:=by rw[iX]at A;simpa using A
    refine⟨⟨fn,A,ab,Z.names f fn A⟩,λB ai w E bb bE I n=>?_⟩;refine callsIn_of_wp_marks A aO trivial ?_;have V:fn.ntmps<=((⟨E⟩:Array X)++Array.replicate (fn.ntmps-(⟨E⟩:Array X).size) undef).size:=ab
    refine RR Z c M (L:=w.heap.size) (r:=none) ⟨bb,bE,ake I _,trivial,cD _⟩ (aif V c (Z.fit f fn c A aO)) (.inl rfl) ?_;intro x oV ac Y bn eb ba N bp C _;cases x with
    |exit i=>exact N.elim
    |normal=>exact Oy bb.base C.iG N eb.defers ba C.marks bp
    |ret=>exact Oy bb.base C.iG N eb.defers ba C.marks bp
   ·cases D
  ·cases D
 ·exact M.elim
theorem aH.o0(Z:pQ P){s:al}{f:FuncId}{args:aa X}{h:ae}{U:Nat}{K:bR}(eU:aa (aa Nat))(N:oo P s eU f args h U K):aH P s f args h U K:=by
 cases s with
 |false=>exact kI.o0 Z N
 |true =>
  have A:=N;unfold oo at A
  split at A
  ·rename_i V D
   obtain⟨x,p,E,C,I,bj⟩:=Q4 _ A;have up:ss P V.res K p E C->(∀l,ss P V.res (tW (Do l) E C) p E C->oo P false eU f args h U (tW (Do l) E C))->aH P true f args h U K:=λbb ej=>by obtain⟨l,ap,aM,_⟩:=Kk bb;exact⟨_,E,C,ap,kI.o0 Z (ej l (aM _ ⟨rfl,rfl,rfl⟩))⟩
   cases x with
   |exit i=>exact I.elim
   |normal=>exact up I λl M=>by unfold oo;rw[D];exact bj _ _ _ M
   |ret=>exact up I λl M=>by unfold oo;rw[D];exact bj _ _ _ M
  ·exact A.elim
def Db:aa Nat->aa X->cc->cc
 |p::b7,v::aF,ak=>Db b7 aF ((p,some v)::ak)
 |_,_,ak=>ak
theorem Y8{ai:b5}:∀{b7:aa Nat} {args A:aa X} {ak:cc} {t:Array X},dq ai args A->jk ai ak t->(∀q∈b7,q<t.size) ->
  jk ai (Db b7 args ak) ((b7.zip A).foldl (λtmps (t,a)=>tmps.setIfInBounds t a) t)/\((b7.zip A).foldl (λtmps (t,a)=>tmps.setIfInBounds t a) t).size=t.size
 | [],_,_,ak,t,_,C,_=>by simpa[Db]using C
 |q::b7,[],_,ak,t,.nil,C,_=>by simpa[Db]using C
 |q::b7,v::args,_,ak,t,.cons (y:=c) V I,C,D=>by
  have M:=D q (by simp);have N:jk ai ((q,some v)::ak) (t.setIfInBounds q c):=by have:=jk.put (a:={ tmps:=t,defers:=[] }) (dst:=some q) (v:=some v) C V ab;exact this
  obtain⟨E,Z⟩:=Y8 (b7:=b7) I N ab;simp only[Db,List.zip_cons_cons,E4];exact⟨E,ab⟩
def Vr(l:Nat)(ak:cc)(b7:aa Nat)(a b:Code)(st:Nat)(p:aw Code)(r:al)(K:bR):iP:=λ_ h U=>∃gp eu,u h l=some (.loop gp eu ak b7 a b)/\K (.bool r) (F h l (.loop st p ak b7 a b)) U
def BI(P:Program)(s:al)(vI om:aa (aa Nat))(l:Nat)(args:aa X)(ak:cc)(b7:aa Nat)(a b:Code)(h:ae)(U:Nat)(K:bR):Prop :=
 hZ P s vI (comp P a) 0 (Db b7 args ak) h U (λTA h1 a5=>∃eu,u h1 l=some (.loop 0 eu ak b7 a b) /\
  hZ P s om (comp P b) 0 TA (F h1 l (.loop 1 eu ak b7 a b)) a5 (Vr l ak b7 a b 0 none true K) [] (Vr l ak b7 a b 2 (some .ret) false K)) [] (λ_ _ _=>False)
theorem tN.o0(fV:pQ P){l:Nat}{U:Nat}{p:aw Code}{ak:cc}{a b:Code}(a9:u h l=some (.loop st p ak b7 a b))(gz:args.length=b7.length)(xu:lp a=true)(vL:lp b=true)(aq:BI P false vI om l args ak b7 a b h U K):tN P l args h U K:=by
 intro B ai w M p bb bE V bA;obtain⟨E,en,b0,js,hpd,yY,Lu,Sw,Sx,pR,mS,pS⟩:=bb.Kj bA a9;refine⟨E,b0,by rw[<-V.length,gz,<-Lu];simp,λn=>?_⟩;obtain⟨ay0,aBk⟩:=Y8  V yY pS;have awD:(E.params.zip ⟨M⟩).foldl (λtmps (t,a)=>tmps.setIfInBounds t a) E.tmps=(b7.zip M).foldl (λtmps (t,a)=>tmps.setIfInBounds t a) E.tmps:=by rw[<-Lu,<-zH];simp
 rw[awD];subst Sw Sx;refine roundIn_of_wpIn trivial ?_;refine RR fV E.assign aq (L:=w.heap.size) (r:=some p.co) ⟨bb,bE,ay0,trivial,cD _⟩ ab (.inr xu) ?_;intro x TA h1 lq pT aB da hk bp D SA;cases x with
 |exit i=>exact hk.elim
 |ret=>exact hk.elim
 |normal =>
  obtain⟨pd1,qI,hk⟩:=hk;have rB:=(bE.sub bp) _ _ bA;obtain⟨I,vu,L8,Lt,ay1,ay2,awE,awF,awG,ay3,ay4,ay5⟩:=bp.rel.Kj rB qI;have at0:I.state = .ready:=by
   cases TB:I.state <;> rw[TB]at Lt <;> first|rfl|cases Lt
  have sF:=N9 (P:=P) L8;have Z:=uJ (P:=P)  (o:=.loop { I with state:=.busy }) L8 ab;have L9:(Instr.beginRound p.co).run P da = .ok () { da with heap:=da.heap.setIfInBounds p.co (.loop { I with state:=.busy }) }:=by simp only[Instr.beginRound,Sem.run_bind,sF,Z,Result.andThen_ok,at0,Sem.run_pure]
  have C:cx B pT (u h1) da lq lq pT (u (F h1 l (.loop 1 pd1 ak b7 E.assign E.body))) { da with heap:=da.heap.setIfInBounds p.co (.loop { I with state:=.busy }) }:=
   cx.set bp.rel lq rB qI vu ab λba pN=>⟨vu,_,pN,rfl,ay1,ay2,awE,awF,awG,ay3,ay4,ay5⟩
  refine⟨_,L9,?_⟩;have ay6:=bp.trans C;have agK:ot w.heap.size B pT TA (F h1 l (.loop 1 pd1 ak b7 E.assign E.body)) lq aB { da with heap:=da.heap.setIfInBounds p.co (.loop { I with state:=.busy }) }:=
   ⟨C.rel,D.fi,D.iG,D.marks.hX C,h7 D.low C.size⟩
  refine RR fV E.body hk agK (r:=some p.co) ab (.inr vL) ?_;intro x pe2 ap N DR a2 dc eW nr aBl _;have tQ:=(agK.fi.sub nr) _ _ rB;have fin:∀(A:aw Code) (st:Nat) (s:LoopState),Tf s=st->(if A.isNone then LoopState.ready else LoopState.done)=s->Vr l ak b7 E.assign E.body st A A.isNone K pe2 ap N ->
    ∃v ba,(Instr.endRound p.co A).run P dc = .ok v ba/\Fin B ai h w U K (.returned v) ba:=by
   rintro A st s aq bZ ⟨st3,pd3,sH,hi⟩;obtain⟨lp3,hB3,Bb,aBm,aBn,ay7,awH,awI,awJ,ay8,ay9,aza⟩:=nr.rel.Kj tQ sH;have azb:=N9 (P:=P) Bb;subst bZ;have Z:=uJ (P:=P)  (o:=.loop { lp3 with state:=if A.isNone then .ready else .done,pending:=A }) Bb ab;have Lv:cx B DR (u ap) dc N N DR (u (F ap l (.loop st A ak b7 E.assign E.body))) { dc with heap:=dc.heap.setIfInBounds p.co (.loop { lp3 with state:=if A.isNone then .ready else .done,pending:=A }) }:=
    cx.set nr.rel N tQ sH hB3 ab λba pN=>⟨hB3,_,pN,aq,rfl,ay7,awH,awI,awJ,ay8,ay9,aza⟩
   refine⟨.bool A.isNone,_,?_,.bool A.isNone,_,N,DR,_,rfl,hi,.bool _,(ay6.trans nr).trans Lv⟩;simp only[Instr.endRound,Sem.run_bind,azb,Z,Result.andThen_ok,Sem.run_pure]
  cases x with
  |normal=>exact fin none 0 _ rfl rfl eW
  |ret=>exact fin (some .ret) 2 _ rfl rfl eW
  |exit i=>exact eW.elim
theorem lW.o0(fV:pQ P){s:al}{vI om:aa (aa Nat)}{l:Nat}{args:aa X}{h:ae}{U:Nat}{K:bR}{st:Nat}{p:aw Code}{ak:cc}{b7:aa Nat}{a b:Code}(M:u h l=some (.loop st p ak b7 a b))(A:args.length=b7.length)
  (xu:lp a=true) (Z:lp b=true) (aq:BI P s vI om l args ak b7 a b h U K):lW P s l args h U K:=by
 cases s with
 |false=>exact tN.o0 fV M A xu Z aq
 |true =>
  obtain⟨x,cj,h1,a5,E,bj⟩:=Q4 _ aq;cases x with
  |exit i=>exact E.elim
  |ret=>exact E.elim
  |normal =>
   obtain⟨eu,g1,E⟩:=E;obtain⟨x,iH,ap,bX,C,I⟩:=Q4 _ E;cases x with
   |exit i=>exact C.elim
   |normal =>
    obtain⟨D,k8,V,N⟩:=C;exact⟨_,_,_,N,tN.o0 fV M A xu Z (bj _ _ _ ⟨eu,g1,I _ _ _ ⟨D,k8,V,rfl,rfl,rfl⟩⟩)⟩
   |ret =>
    obtain⟨D,k8,V,N⟩:=C;exact⟨_,_,_,N,tN.o0 fV M A xu Z (bj _ _ _ ⟨eu,g1,I _ _ _ ⟨D,k8,V,rfl,rfl,rfl⟩⟩)⟩
end
def iN:Go.Ax.ae:=λ_=>none
@[simp] theorem JT(k:Nat):u iN k=none:=rfl
section
variable {P:Program} {s:al}
@[simp,grind =] theorem mq(h:ae)(b:Nat)(o:fJ)(k:Nat):u (F h b o) k=if k=b then some o else u h k:=wa h b o k
@[simp] theorem fd{az e6:Type}(x:az)(f:az->R e6):R.bind (.ok x) f=f x:=rfl
@[simp] theorem aA1(w:String)(f:az->R e6):R.bind (.no w) f = .no w:=rfl
@[simp] theorem Ge{az e6:Type}(w:String)(x:az)(f:az->R e6):R.of w (some x) f=f x:=rfl
@[simp] theorem aA2(w:String)(f:az->R e6):R.of w none f = .no w:=rfl
@[simp] theorem aAU(v:X):Do [v]=v:=rfl
@[simp] theorem aAV(v w:X)(l:aa X):Do (v::w::l) = .tuple ⟨v::w::l⟩:=rfl
@[simp] theorem Y9(A:Nat)(C:aw Nat)(l:aa X):va A C (.agg ⟨l⟩)=hV C A l:=rfl
@[simp] theorem Oz{e6:Type}(a:Addr)(k:Addr->R e6):Au (.pointer (some a)) k=k a:=rfl
@[simp] theorem Za(b o:Nat)(A:aw Nat)(n:Nat):C5 ⟨b,o,A⟩ n = .pointer (some ⟨b,o+n,none⟩):=rfl
@[simp] theorem W2(a:Addr):bx (.pointer (some a)) = .ok (.pointer (some a)):=rfl
@[simp] theorem Wh(l:aa X)(i:Nat):cp (.tuple ⟨l⟩) i=R.of "extract" (l[i]?) (λv=>.ok v):=by show R.of "extract" (g3 l i) _=_;rw[iX]
@[simp] theorem aAW(k:IntKind)(n:Nat)(f:Nat->R e6):rt (.int k (n:Int)) f=f n:=rfl
@[simp] theorem aAP(k:IntKind)(n:Nat)(f:Nat->R e6):rt (.int k (.ofNat n)) f=f n:=rfl
@[simp] theorem aAX(k:IntKind)(n:Nat)(f:Nat->R e6):rt (.int k (OfNat.ofNat n:Int)) f=f n:=rfl
@[simp] theorem aAS(k:IntKind)(f:Nat->R e6):rt (.int k 0) f=f 0:=rfl
@[simp] theorem aAY(k:IntKind)(f:Nat->R e6):rt (.int k 1) f=f 1:=rfl
@[simp] theorem XP(s:Nat)(b o:Nat)(A:aw Nat)(len cap i:Nat):xX (.slice s) (.slice (some ⟨b,o,A⟩) len cap) i=if i<len then .ok (.pointer (some ⟨b,o+i*s,none⟩))else .no "index" := by
 show(bif Nat.blt i len then _ else _)=_;rw[oE]
 by_cases h:i<len <;> simp[h] <;> rfl
@[simp] theorem XQ(n s:Nat)(b o:Nat)(A:aw Nat)(i:Nat):xX (.array n s) (.pointer (some ⟨b,o,A⟩)) i=if i<n then .ok (.pointer (some ⟨b,o+i*s,none⟩))else .no "index" := by
 show(bif Nat.blt i n then _ else _)=_;rw[oE]
 by_cases h:i<n <;> simp[h] <;> rfl
theorem aqe{op:BinOp}{t:TypeId}{A C:IntKind}{a b:Int}(aq:x4 op=false)(D:mm A C=true):bin P op t (.int A a) (.int C b)=DH op A a b:=by
 show AG op A a C b=_;unfold AG
 grind
theorem sn(op:BinOp)(t:TypeId)(k:IntKind)(a b:Int)(aq:x4 op=false):bin P op t (.int k a) (.int k b)=DH op k a b:=aqe aq (wg k)
@[simp] theorem PV(t:TypeId)(k:IntKind)(a b:Int):bin P .add t (.int k a) (.int k b) = .ok (.int k (k.wrap (a+b))):=by rw[sn _ _ _ _ _ rfl,<-nT];rfl
@[simp] theorem aa3(t:TypeId)(k:IntKind)(a b:Int):bin P .sub t (.int k a) (.int k b) = .ok (.int k (k.wrap (a-b))):=by rw[sn _ _ _ _ _ rfl,<-nT];rfl
@[simp] theorem Kl(t:TypeId)(k:IntKind)(a b:Int):bin P .lss t (.int k a) (.int k b) = .ok (.bool (decide (a<b))):=by rw[sn _ _ _ _ _ rfl,<-re];rfl
@[simp] theorem aa4(t:TypeId)(k:IntKind)(a b:Int):bin P .leq t (.int k a) (.int k b) = .ok (.bool (!decide (b<a))):=by rw[sn _ _ _ _ _ rfl,<-re];rfl
@[simp] theorem aa5(t:TypeId)(k:IntKind)(a b:Int):bin P .gtr t (.int k a) (.int k b) = .ok (.bool (decide (b<a))):=by rw[sn _ _ _ _ _ rfl,<-re];rfl
@[simp] theorem aa6(t:TypeId)(k:IntKind)(a b:Int):bin P .geq t (.int k a) (.int k b) = .ok (.bool (!decide (a<b))):=by rw[sn _ _ _ _ _ rfl,<-re];rfl
@[simp] theorem aa7(t:TypeId)(k:IntKind)(a b:Int):bin P .eql t (.int k a) (.int k b) = .ok (.bool (a == b)):=by rw[sn _ _ _ _ _ rfl,<-kT];rfl
@[simp] theorem aa8(t:TypeId)(k:IntKind)(a b:Int):bin P .neq t (.int k a) (.int k b) = .ok (.bool (!(a == b))):=by rw[sn _ _ _ _ _ rfl,<-kT];rfl
@[simp] theorem adg(b:al):dv .not (.bool b) = .ok (.bool (!b)):=rfl
@[simp] theorem Zb(k di:IntKind)(n:Int):qt (.int di) (.int k n) = .ok (.int di (di.wrap n)):=by rw[<-nT];rfl
theorem Oa{t:TypeId}{x:Addr}(A:wn P t=true):bin P .neq t (.pointer (some x)) (.pointer none) = .ok (.bool true):=by show R.of "compared" (oP P t (.pointer (some x)) (.pointer none)) _=_;unfold oP;simp[A,G9,nX]
theorem po{t:TypeId}{x:Addr}(A:wn P t=true):bin P .eql t (.pointer (some x)) (.pointer none) = .ok (.bool false):=by show R.of "compared" (oP P t (.pointer (some x)) (.pointer none)) _=_;unfold oP;simp[A,G9,nX]
@[simp] theorem W3(a:aw Addr)(n c:Nat):AI (.slice a n c) = .ok (n:X):=rfl
theorem v8{A:al}(C:u h b=some (.cells cs A))(k:aa X->al->R e6):cellsOf h b k=k cs A:=by unfold cellsOf;rw[C]
@[simp] theorem XR(A:Nat)(cs:aa X):hV none A cs=C4 (cs[A]?):=by show C4 (g3 cs A)=_;rw[iX]
@[simp] theorem W4(v:X):C4 (some v) = .ok v:=rfl
@[simp] theorem aAQ:C4 none = .no "load - out of block" := rfl
@[simp] theorem pq(n A:Nat)(cs:aa X):hV (some n) A cs=if n<=cs.length-A then .ok (.agg ⟨(cs.drop A).take n⟩)else .no "load - out of block" := by
 show KV (ni n (nc cs A))=_;rw[sd,ri,E1]
 by_cases h:n<=cs.length-A <;> simp[h,KV]
end
def CQ:aa MapEntry->Prop:=List.Pairwise (λa b=>a.born<b.born)
theorem aqf(seen:aa Nat)(b:Nat):seen.any (Nat.beq b)=decide (b∈seen):=by
 rw[zK,xP];simp only[NN];constructor
 ·rintro⟨x,C,A⟩;rw[gm A];omega
 ·intro h;exact⟨b,h,uC b⟩
theorem uI(seen:aa Nat)(e:MapEntry)(A:aa MapEntry):leftOf seen (e::A)=if e.born∈seen then leftOf seen A else e::leftOf seen A:=by
 show(bif seen.any (Nat.beq e.born)then _ else _)=_;rw[aqf]
 grind
theorem NV:∀(A:aa MapEntry),leftOf [] A=A
 | []=>rfl
 |e::A=>by rw[uI];simp[NV A]
theorem Ft{seen:aa Nat}:∀{A:aa MapEntry} {e:MapEntry},e∈leftOf seen A->e∈A/\e.born ∉ seen
 | [],e,h=>by cases h
 |x::A,e,h=>by
  rw[uI]at h
  by_cases C:x.born∈seen
  ·rw[if_pos C]at h;obtain⟨E,D⟩:=Ft h
   grind
  ·rw[if_neg C]at h;rcases gQ.1 h with rfl|h
   ·grind
   ·obtain⟨E,D⟩:=Ft h
    grind
theorem Wt{seen:aa Nat}{b:Nat}:∀{A:aa MapEntry},(∀e∈A,e.born≠b)->leftOf (seen++[b]) A=leftOf seen A
 | [],_=>rfl
 |x::A,h=>by
  rw[uI,uI,Wt ab]
  grind
theorem Ob{seen:aa Nat}:∀{A:aa MapEntry} {e:MapEntry},CQ A->e∈leftOf seen A->(leftOf seen A).Perm (e::leftOf (seen++[e.born]) A)
 | [],e,_,h=>by cases h
 |x::A,e,E,h=>by
  have I:∀y∈A,x.born<y.born:=λy M=>r6 E M;have C:CQ A:=ND E;rw[uI]at h
  by_cases D:x.born∈seen
  ·rw[if_pos D]at h;rw[uI,if_pos D,uI,if_pos ab];exact Ob C h
  ·rw[if_neg D]at h;rw[uI,if_neg D,uI];rcases gQ.1 h with rfl|h
   ·rw[if_pos (by simp),Wt ab]
   ·have N:=Ft h;rw[if_neg ab];exact((Ob C h).cons x).trans (List.Perm.swap ..)
theorem XS:∀{A:aa MapEntry} {e:MapEntry},CQ A->e∈A->C6 e.born A=some e
 | [],e,_,h=>by cases h
 |x::A,e,C,h=>by
  show(bif Nat.beq x.born e.born then some x else C6 e.born A)=some e;rcases gQ.1 h with rfl|h
  ·rw[uC];rfl
  ·have E:x.born<e.born:=r6 C h;have:Nat.beq x.born e.born=false:=by
    cases D:Nat.beq x.born e.born with
    |false=>rfl
    |true=>have:=gm D;omega
   rw[this];exact XS (ND C) h
theorem XT:∀(l:aa Nat) (b:Nat),GQ (l++[b])=some b
 | [],b=>rfl
 | [x],b=>rfl
 |x::y::l,b=>XT (y::l) b
theorem XU{D r A E:Nat}{C:aa MapEntry}{e:MapEntry}(aj:u h D=some (.iter (some r) A (seen++[e.born]) E))(N:u h r=some (.map C E))(M:CQ C)(I:e∈C):
  wu h (bf D) = .ok (.tuple #[e.key,e.val]):=by unfold wu kW;simp only[Oz,show Nat.beq 0 0=true from rfl,qm,aj,N,uC,XT,XS M I,Ge]
@[simp] theorem yn{az:Type}(v:az)(k:az->Prop):af (.ok v) k↔k v:=Iff.rfl
@[simp] theorem afj{az:Type}(w:String)(k:az->Prop):af (.no w) k↔False:=Iff.rfl
section
variable {ai bn:b5}
mutual
theorem bF.back(aq:Sub ai bn):∀{v I c:X},bF ai v I->bF bn v c->bF ai v c
 |_,_,_,.bool b,.bool _=>.bool b
 |_,_,_,.int k n,.int _ _=>.int k n
 |_,_,_,.string s,.string _=>.string s
 |_,_,_,.Gz,.Gz=>.Gz
 |_,_,_,.ptr h,.ptr A=>by have e:=aq _ _ h;rw[e]at A;cases A;exact .ptr h
 |_,_,_,.rc l c,.rc _ _=>.rc l c
 |_,_,_,.kU h l c,.kU A _ _=>by have e:=aq _ _ h;rw[e]at A;cases A;exact .kU h l c
 |_,_,_,.oG h N l c,.oG A aW _ _=>by have e:=aq _ _ h;rw[e]at A;cases A;exact .oG h N l c
 |_,_,_,.oH b o g a0 c,.oH _ _ M E c2=>.oH b o M E c2
 |_,_,_,.GA,.GA=>.GA
 |_,_,_,.map h,.map A=>by have e:=aq _ _ h;rw[e]at A;cases A;exact .map h
 |_,_,_,.nilFunc,.nilFunc=>.nilFunc
 |_,_,_,.nilIface,.nilIface=>.nilIface
 |_,_,_,.func f V Z,.func _ D C=>.func f (dq.back aq V D) (dq.back aq Z C)
 |_,_,_,.yield h,.yield A=>by have e:=aq _ _ h;rw[e]at A;cases A;exact .yield h
 |_,_,_,.iface t h,.iface _ A=>.iface t (bF.back aq h A)
 |_,_,_,.agg h,.agg A=>.agg (dq.back aq h A)
 |_,_,_,.tuple h,.tuple A=>.tuple (dq.back aq h A)
theorem dq.back(aq:Sub ai bn):∀{v C c:aa X},dq ai v C->dq bn v c->dq ai v c
 |_,_,_,.nil,.nil=>.nil
 |_,_,_,.cons h t,.cons A D=>.cons (bF.back aq h A) (dq.back aq t D)
end
theorem pt.back(aq:Sub ai bn){cs:aa X}{c C:Array X}{A:Nat}(h:pt ai cs c A)(D:pt bn cs C A):pt ai cs C A:=λi v e=>by obtain⟨_,_,N⟩:=h i v e;obtain⟨M,I,E⟩:=D i v e;exact⟨M,I,bF.back aq N E⟩
theorem hy.back(aq:Sub ai bn):∀{E D A:aa MapEntry},hy ai E D->hy bn E A->hy ai E A
 |_,_,_,.nil,.nil=>.nil
 |_,_,_,.cons N Z _ t,.cons C M I V=>.cons (bF.back aq N C) (bF.back aq Z M) I (hy.back aq t V)
theorem pE.back(aq:Sub ai bn){m E A:aw Nat}(h:pE ai m E)(C:pE bn m A):pE ai m A:=by
 cases m with
 |none=>cases A <;> simp only[pE]at *
 |some r =>
  cases A with
  |none=>simp only[pE]at C
  |some V =>
   cases E with
   |none=>simp only[pE]at h
   |some N =>
    simp only[pE]at h C ⊢;obtain⟨q,I,_⟩:=h;obtain⟨M,D,e⟩:=C;rw[aq _ _ I]at D;grind
theorem kY.back{B:Nat}(aq:Sub ai bn){w ba:World}{p:Place}{o:fJ}(h:kY B ai w p o)(E:kY B bn ba p o):kY B ai ba p o:=by
 cases o with
 |cells cs ro =>
  cases ro with
  |true =>
   obtain⟨_,c,e,fi,_,I⟩:=h;obtain⟨D,Z,V,fr',C,A⟩:=E;exact⟨D,Z,V,fr',C,I.back aq A⟩
  |false =>
   obtain⟨_,_,c,e,ao,aj,_,_,bc,_⟩:=h;obtain⟨D,hu,Z,V,d2,M,C,A,sZ,N⟩:=E;exact⟨D,hu,Z,V,d2,M,C,A,bc.back aq sZ,N⟩
 |map es cH =>
  obtain⟨_,c9,_,I⟩:=h;obtain⟨D,es2,C,A⟩:=E;exact⟨D,es2,C,I.back aq A⟩
 |iter m yl seen st =>
  obtain⟨_,_,bG,_,I⟩:=h;obtain⟨D,hu,m2,C,A⟩:=E;exact⟨D,hu,m2,C,I.back aq A⟩
 |loop st G7 lT b7 a b =>
  obtain⟨_,l,_,_,_,b3,_⟩:=h;obtain⟨D,dl,C,A,sZ,N,aCU⟩:=E;exact⟨D,dl,C,A,sZ,λd v e=>bF.back aq (b3 d v e) (N d v e),aCU⟩
end
section
variable {B:Nat} {ai bn:b5} {H gU:fp} {w ba:World} {U Y:Nat}
theorem cx.forget(C:d9 B ai H w)(D:jQ ai U)(A:cx B ai H w U Y bn gU ba)(M:∀b o,H b=some o->gU b=some o):cx B ai H w U U ai H ba where
 rel:={
  base:=h7 C.base A.size
  obj:=λb p o E I=>(C.obj b p o E I).back (D.sub A) (A.rel.obj b p o (D.sub A b p E) ab)
  inj:=C.inj
  kH:=C.kH }
 agree:=ab
 size:=A.size
 os:=A.os
 tape:=A.tape
 output:=A.output
 frame:=A.frame
 own:=ab
 le:=J
theorem cx.aqg(Z:d9 B ai H w)(M:jQ ai U)(C:cx B ai H w U Y bn gU ba)(hk:∀b o,H b=some o->gU b=some o){p:Place}{o:fJ}(aO:U<=b)(bg:bn b=some p)(fw:gU b=some o)(pP:kY B (λk=>if k=U then some p else ai k) ba p o):cx B ai H w U (U+1) (λk=>if k=U then some p else ai k) (λk=>if k=U then some o else H k) ba:=by
 have mL:Sub ai (λk=>if k=U then some p else ai k):=λk q A=>by
  by_cases e:k=U
  ·rw[e,M.here]at A;grind
  grind
 have ct:∀k,(H k).isSome->k<U:=λk aq=>by
  rcases h8 k U with h|h
  ·exact h
  ·have:=Z.kH k aq;rw[M k h]at this;grind
 refine⟨⟨h7 Z.base C.size,λk q x A V=>?_,λk di q jy A D aq E N bP=>?_,λk aq=>?_⟩,λk hk=>?_,C.size,C.os,C.tape,C.output,C.frame,λk h=>?_,J⟩
 ·by_cases e:k=U
  ·simp only[e,if_true]at A V;cases A;cases V;exact pP
  ·simp only[e,ff]at A V;exact((Z.obj k q x A V).back (M.sub C) (C.rel.obj k q x (M.sub C k q A) ab)).mono mL rfl
 ·by_cases e:k=U
  ·by_cases dK:di=U
   ·omega
   ·exfalso;simp only[e,if_true]at A;simp only[dK,ff]at D E;cases A;have I:(gU di).isSome:=by
     obtain⟨x,V⟩:=lI.1 E
     grind
    have:=C.rel.inj b di p jy bg (M.sub C di jy D) ab I N bP
    grind
  ·by_cases dK:di=U
   ·exfalso;simp only[dK,if_true]at D;simp only[e,ff]at A aq;cases D;have I:(gU k).isSome:=by
     obtain⟨x,V⟩:=lI.1 aq
     grind
    have:=C.rel.inj k b q p (M.sub C k q A) bg I ab N bP
    grind
   ·simp only[e,ff]at A aq;simp only[dK,ff]at D E;exact Z.inj k di q jy A D aq E N bP
 ·by_cases e:k=U
  ·grind
  ·simp only[e,ff]at aq ⊢;exact Z.kH k aq
 ·grind
 ·obtain⟨di,q,A,aq,rfl,N⟩:=h
  by_cases e:di=U
  ·simp only[e,if_true]at A;cases A;rcases C.own p.co ⟨b,p,bg,ab,rfl,N⟩with⟨gW,ew,h1,ap,aM,bc⟩|h
   ·exact .inl ⟨gW,ew,h1,ap,aM,bc⟩
   omega
  ·simp only[e,ff]at A aq;exact .inl ⟨di,q,A,aq,rfl,N⟩
end
section
variable {P:Program}
theorem d9.fresh{B:Nat}{ai:b5}{H:fp}{w:World}{U:Nat}(D:d9 B ai H w)(C:jQ ai U):∀b,U<=b->H b=none:=λb A=>by
 cases E:H b with
 |none=>rfl
 |some o =>
  have:=D.kH b ab;rw[C b A]at this;grind
end
end Go.Ax
