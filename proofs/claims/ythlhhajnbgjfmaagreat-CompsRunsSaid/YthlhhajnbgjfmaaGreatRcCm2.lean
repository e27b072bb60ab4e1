/- Parts of the proof: Cm2: each statement bears its own conditions. -/
import Derived.Test.YthlhhajnbgjfmaaGreatRcCm1
namespace Go.Ax
open Go
set_option linter.all false
set_option maxHeartbeats 1000000
variable {cq:Array al} {h:ae} {all:aa Oper} {p:Nat} {gD:World} {i:Nat} {e4:Type} {args:aa X} {d:aw Nat} {eV:aa (aa Nat)} {L:aa Nat} {c:Nat} {ie:ca} {n:Nat} {seen:aa Nat} {j b:Nat} {az:Type} {tmps:Array X} {k K:bP} {q:Nat} {cU:kn} {o:Oper} {t:eK} {Q:Exit->Act->World->Prop} {g:aw (Nat × al)} {aE:aa X} {vi oa:aa (aa Nat)} {cb:aa Nat} {v:X} {ap:aa ae} {e:vh} {f:FuncId} {cs:aa X} {a:Act} {st:Nat} {r:fl} {ao aj:Nat} {dm:bP} {l:aa lM} {body:Code} {m:Nat} {pl:Place} {rl:Code} {jV:Nat} {fn:Func} {rK:fk} {x y:hQ}
def Gb(P:Program)(o:Oper):al:=match oK P o.op with|some k=>i9 k|none=>false
def jX(a4:aa Oper):aa Nat:=(Region.before ⟨a4⟩).toList
def nO(a4:List Oper)(o:Oper):List Nat :=
 o.dst.toList++(o.op.operands.toList.filterMap λ| .tmp t=>some t|_=>none) ++
 (match o.guard with|some (g,_)=>((gU a4 g).bind (·.dst)).toList|none=>[])
def kd(a:aa Nat)(j i:Nat):al:=((gU a j).getD 0).testBit i
def r2(P:Program)(a4:aa Oper)(i:Nat):al:=((gU a4 i).map (Gb P)).getD false
def Kd(P:Program)(a4:aa Oper)(a:aa Nat)(before:aa Nat)(i:Nat):Nat:=(before.filter (λe=>r2 P a4 e&&!kd a i e)).length
def zF(P:Program)(a4:aa Oper)(a:aa Nat)(i j:Nat):al :=
 !Nat.beq i j&&!kd a i j &&
 (!r2 P a4 j||kd a j i) &&
 (match gU a4 i,gU a4 j with
  |some x,some y=>kd a j i||((x.dst.toList.all λd=>!(nO a4 y).contains d)&&(y.dst.toList.all λd=>!(nO a4 x).contains d))
  |_,_=>false)
theorem V7(look:Nat->Nat):∀(A:aa Edge) (s i:Nat),(A.foldl (λs e=>if Region.binds .any e then s ||| 2 ^ e.on ||| look e.on else s) s).testBit i=true ->
  s.testBit i=true\/∃e∈A,Region.binds .any e=true/\(e.on=i\/(look e.on).testBit i=true)
 | [],s,i,h=>.inl h
 |e::A,s,i,h=>by
  rw[Es]at h;rcases V7 look A _ i h with h|⟨D,E,C⟩
  all_goals grind
def Good(pre:aa Oper)(acc:Array Nat):Prop:=acc.size=pre.length/\∀j i,(acc.getD j 0).testBit i=true ->
 ∃o e,pre[j]? = some o/\e∈o.after/\Region.binds .any e=true/\(e.on=i\/(e.on<j/\(acc.getD e.on 0).testBit i=true))
theorem IC{A:Array Nat}{v:Nat}(h:j<A.size):(A.push v).getD j 0=A.getD j 0:=by simp[p1,Array.getElem?_push,Nat.ne_of_lt h]
theorem WV:∀(I C:aa Oper) (A:Array Nat),Good C A ->
  Good (C++I) (I.foldl (λA o=>A.push (o.after.foldl (λs e=>if Region.binds .any e then s ||| 2 ^ e.on ||| A.getD e.on 0 else s) 0)) A)
 | [],C,A,h=>by simpa using h
 |o::I,C,A,⟨h1,ar⟩=>by
  have:=WV I (C++[o]) (A.push (o.after.foldl (λs e=>if Region.binds .any e then s ||| 2 ^ e.on ||| A.getD e.on 0 else s) 0)) ?_
  ·simpa using this
  refine⟨ab,λj i M=>?_⟩;rcases za j A.size with V|V|V
  ·rw[IC V]at M;obtain⟨aX,e,bB,Z,D,N⟩:=ar j i M;refine⟨aX,e,?_,Z,D,?_⟩
   ·grind
   ·rcases N with N|⟨N,gc⟩
    ·omega
    ·exact .inr ⟨N,by rw[IC J];omega⟩
  ·subst V;have aJ:(A.push (o.after.foldl (λs e=>if Region.binds .any e then s ||| 2 ^ e.on ||| A.getD e.on 0 else s) 0)).getD A.size 0=o.after.foldl (λs e=>if Region.binds .any e then s ||| 2 ^ e.on ||| A.getD e.on 0 else s) 0:=by simp[p1]
   rw[aJ,<-y7]at M;rcases V7 (λk=>A.getD k 0) o.after.toList 0 i M with h|⟨e,bB,Z,D⟩
   ·grind
   ·refine⟨o,e,ab,ab,Z,?_⟩;rcases D with D|D
    ·omega
    ·right
     have E:e.on<A.size:=ab
     exact⟨E,by rw[IC E];omega⟩
  grind
theorem Nx(a4:aa Oper)(j i:Nat):kd (jX a4) j i=((Region.before ⟨a4⟩).getD j 0).testBit i:=by unfold kd jX;rw[iS];simp[p1]
theorem alA{a4:aa Oper}(h:kd (jX a4) j i=true):∃o e,a4[j]? = some o/\e∈o.after/\Region.binds .any e=true/\(e.on=i\/(e.on<j/\kd (jX a4) e.on i=true)):=by
 rw[Nx]at h;have C:Good a4 (Region.before ⟨a4⟩):=by have:=WV a4 [] #[] ⟨rfl,λj i h=>ab⟩;unfold Region.before;rw[<-y7];simpa using this
 obtain⟨o,e,E,A,D,I⟩:=C.2 j i h;exact⟨o,e,E,A,D,by rw[Nx];omega⟩
theorem Ya(look:Nat->Nat):∀(A:aa Edge) (s:Nat),(∀i,s.testBit i=true->(A.foldl (λs e=>if Region.binds .any e then s ||| 2 ^ e.on ||| look e.on else s) s).testBit i=true) /\
  ∀e∈A,Region.binds .any e=true->(A.foldl (λs e=>if Region.binds .any e then s ||| 2 ^ e.on ||| look e.on else s) s).testBit e.on=true
 | [],s=>ab
 |x::A,s=>by
  obtain⟨D,C⟩:=Ya look A (if Region.binds .any x then s ||| 2 ^ x.on ||| look x.on else s)
  grind
theorem WW:∀(E C:aa Oper) (A:Array Nat),A.size=C.length->(∀j o e,C[j]? = some o->e∈o.after->Region.binds .any e=true->(A.getD j 0).testBit e.on=true) ->
  ∀(j:Nat) (o:Oper) (e:Edge),(C++E)[j]? = some o->e∈o.after->Region.binds .any e=true ->
   ((E.foldl (λA o=>A.push (o.after.foldl (λs e=>if Region.binds .any e then s ||| 2 ^ e.on ||| A.getD e.on 0 else s) 0)) A).getD j 0).testBit e.on=true
 | [],C,A,_,h,j,o,e,V,M,I=>ab
 |x::E,C,A,N,h,j,o,e,V,M,I=>by
  refine WW E (C++[x]) (A.push (x.after.foldl (λs e=>if Region.binds .any e then s ||| 2 ^ e.on ||| A.getD e.on 0 else s) 0)) ab (λj o e V M I=>?_) j o e ab M I;rcases za j C.length with D|D|D
  ·rw[IC J]
   grind
  ·have Z:x=o:=ab
   subst Z;have aJ:(A.push (x.after.foldl (λs e=>if Region.binds .any e then s ||| 2 ^ e.on ||| A.getD e.on 0 else s) 0)).getD j 0=x.after.foldl (λs e=>if Region.binds .any e then s ||| 2 ^ e.on ||| A.getD e.on 0 else s) 0:=by rw[D,<-N];simp[p1]
   rw[aJ,<-y7];exact(Ya (λk=>A.getD k 0) x.after.toList 0).2 e ab I
  grind
theorem alB{a4:aa Oper}{e:Edge}(D:a4[j]? = some o)(A:e∈o.after)(C:Region.binds .any e=true):kd (jX a4) j e.on=true:=by
 rw[Nx];have:=WW a4 [] #[] rfl ab j o e ab A C;unfold Region.before
 grind
theorem V8{a4:aa Oper}{L:Nat->Prop}(C:∀j o e,L j->a4[j]? = some o->e∈o.after->Region.binds .any e=true->L e.on):∀(j:Nat),(∀o e,a4[j]? = some o->e∈o.after->Region.binds .any e=true->L e.on) ->
  ∀i,kd (jX a4) j i=true->L i:=by
 intro j
 induction j using Nat.strongRecOn with
 |_ j V =>
  intro b1 i N;obtain⟨o,e,h1,Z,aL,A⟩:=alA N;have D:=b1 o e h1 Z aL;rcases A with A|⟨A,E⟩
  ·rw[<-A];exact D
  ·exact V e.on A (λM d3 bB g2 I=>C e.on M d3 D bB g2 I) i E
structure tk (P:Program) (a4:aa Oper) (bF:aa eK):Prop where
 step:∀(p:Nat) (s:eK),bF[p]? = some s->a4[s.i]? = some s.o/\oK P s.o.op=some s.k/\s.uV=Kd P a4 (jX a4) ((bF.take p).map (·.i)) s.i
 cover:∀(i:Nat),i<a4.length->∃(p:Nat) (s:eK),bF[p]? = some s/\s.i=i
 inside:∀(j:Nat) (o:Oper) (e:Edge),a4[j]? = some o->e∈o.after->Region.binds .any e=true->e.on<j
 pair:∀(p q:Nat) (s t:eK),p<q->bF[p]? = some s->bF[q]? = some t->zF P a4 (jX a4) s.i t.i=true
 len:bF.length=a4.length
theorem QW(m k:Nat):kG m k=m.testBit k:=by
 show Nat.beq ((m >>> k) &&& 1) 1=(1 &&& (m >>> k) != 0)
 rw[Nat.and_comm 1,In];rcases Nat.mod_two_eq_zero_or_one (m >>> k)with h|h <;> rw[h] <;> rfl
theorem Z6{C:aa Nat}{A:Array Nat}(E:A.toList=C):∀(D:aa Edge) (s:Nat),Kw C D s=D.foldl (λs e=>if Region.binds .any e then s ||| 2 ^ e.on ||| A.getD e.on 0 else s) s
 | [],s=>rfl
 |e::D,s=>by
  have I:(gU C e.on).getD 0=A.getD e.on 0:=by rw[iS,<-E];simp[p1]
  show Kw C D _=_;rw[Z6 E D,Es,I];cases Region.binds .any e <;> rfl
theorem Yb:∀(D:aa Oper) (C:aa Nat) (A:Array Nat),A.toList=C ->
  (D.foldl (λC o=>C.push (o.after.foldl (λs e=>if Region.binds .any e then s ||| 2 ^ e.on ||| C.getD e.on 0 else s) 0)) A).toList=Ka D C
 | [],C,A,h=>h
 |o::D,C,A,h=>by rw[Es];refine Yb D _ _ ?_;rw[Array.toList_push,h,ka,Z6 h,<-y7]
theorem ai9(a4:aa Oper):Ka a4 []=jX a4:=by unfold jX Region.before;rw[<-Yb a4 [] #[] rfl,<-y7]
def wn(P:Program)(a4:aa Oper)(x:hQ):Prop:=a4[x.i]? = some x.o/\oK P x.o.op=some x.k/\x.e=Gb P x.o/\x.D2=CU x.o.dst/\x.lK=Rp a4 x.o/\gU (jX a4) x.i=some x.am
theorem Z7{P:Program}{all:aa Oper}:∀(C:aa Oper) (iX:aa Nat) (j:Nat) (D:aa hQ),Ky P all j C iX=some D->(∀k o,C[k]? = some o->all[j+k]? = some o)->(∀k a,iX[k]? = some a->gU (jX all) (j+k)=some a)->∀x∈D,wn P all x
 | [],iX,j,D,h,_,_,x,A=>by cases iX <;> cases h <;> cases A
 |o::C,[],j,D,h,_,_,x,A=>by cases h;cases A
 |o::C,a::iX,j,D,h,N,M,x,A=>by
  simp only[Ky,jC,lZ]at h;obtain⟨k,E,I,h,rfl⟩:=h;rcases g5.1 A with rfl|A
  ·exact⟨by simpa using N 0 o rfl,E,by simp[Gb,E],rfl,rfl,by simpa using M 0 a rfl⟩
  ·refine Z7 C iX (j+1) I h (λk V E=>?_) (λk Z E=>?_) x A
   ·have:=N (k+1) V ab
    grind
   ·have:=M (k+1) Z ab
    grind
theorem Ny{A jV:Nat}:∀{l:aa hQ} {x:hQ},x∈F8 A jV l->x∈l
 | [],x,h=>by cases h
 |y::l,x,h=>by
  unfold F8 at h;cases C:(kG A y.i&&!kG jV y.i)with
  |true =>
   rw[C]at h;rcases g5.1 h with rfl|h
   ·grind
   ·exact mx _ (Ny h)
  |false=>rw[C]at h;exact mx _ (Ny h)
theorem Nz{jV:Nat}:∀{l:aa hQ} {x:hQ},x∈F9 jV l->x∈l
 | [],x,h=>by cases h
 |y::l,x,h=>by
  unfold F9 at h;cases A:kG jV y.i with
  |false =>
   rw[A]at h;rcases g5.1 h with rfl|h
   ·grind
   ·exact mx _ (Nz h)
  |true=>rw[A]at h;exact mx _ (Nz h)
theorem Nl{all:aa hQ}:∀{l:aa hQ} {jV:Nat} {x:hQ},(∀y∈l,y∈all)->x∈s7 all l jV->x∈all
 | [],jV,x,_,h=>Nz h
 |y::l,jV,x,C,h=>by
  unfold s7 at h;cases A:(y.e&&!kG jV y.i)with
  |false=>rw[A]at h;exact Nl ab h
  |true =>
   rw[A]at h;simp only[p5,ka,hb,g5]at h;rcases h with h|rfl|h
   ·exact Ny h
   ·grind
   ·exact Nl ab h
theorem I4{t:Nat}(h:t∈d.toList):(CU d).testBit t=true:=by
 cases d with
 |none=>cases h
 |some d =>
  simp at h;subst h;show(2 ^ t).testBit t=true;simp
theorem E5{t:Nat}:∀{xs:aa Operand},t∈(xs.filterMap λ| .tmp t=>some t|_=>none)->(CV xs).testBit t=true
 | [],h=>ab
 |x::xs,h=>by
  rw[List.filterMap_cons]at h;cases x with
  |tmp A =>
   simp only[g5]at h;show(2 ^ A ||| CV xs).testBit t=true;rw[Ex];rcases h with rfl|h
   ·simp
   ·rw[E5 h];simp
  |const v=>exact E5 (xs:=xs) h
  |global g=>exact E5 (xs:=xs) h
  |func f=>exact E5 (xs:=xs) h
theorem Yc{a4:List Oper}{t:Nat}(h:t∈nO a4 o):(Rp a4 o).testBit t=true:=by
 unfold nO at h;show(CU o.dst ||| (CV o.op.operands.toList ||| Kx a4 o.guard)).testBit t=true;rw[Ex,Ex];simp only[hb]at h;rcases h with(h|h)|h
 ·rw[I4 h];rfl
 ·rw[E5 h];simp
 ·have:(Kx a4 o.guard).testBit t=true:=by
   unfold Kx
   split at h
   ·rename_i g b C
    cases A:gU a4 g with
    |none=>grind
    |some D =>
     rw[A]at h;simp only[C,A];exact I4 h
   grind
  grind
theorem Yd{a t:Nat}(h:Rq a b=true)(C:a.testBit t=true)(D:b.testBit t=true):False:=by
 have:a &&& b=0:=gG h;have A:(a &&& b).testBit t=true:=ab
 grind
theorem alC{P:Program}{a4:aa Oper}(V:wn P a4 x)(ce:wn P a4 y)(h:CF x y=true):zF P a4 (jX a4) x.i y.i=true:=by
 obtain⟨ii,jN,hE,sG,vj,N⟩:=V;obtain⟨I,cB,Z,de,ep,ey⟩:=ce;unfold CF at h;simp only[eC]at h;obtain⟨⟨⟨h1,ar⟩,aL⟩,A⟩:=h;have D:∀k,kG x.am k=kd (jX a4) x.i k:=λk=>by unfold kd;rw[N,QW];rfl
 have E:∀k,kG y.am k=kd (jX a4) y.i k:=λk=>by unfold kd;rw[ey,QW];rfl
 rw[D]at ar;rw[E]at aL A;have hey:r2 P a4 y.i=y.e:=by unfold r2;rw[iS,I,Z];rfl
 unfold zF;simp only[eC];refine⟨ab,?_⟩;rw[iS,iS,ii,I];simp only[Bool.or_eq_true,eC]at A ⊢;rcases A with A|⟨A,M⟩
 ·grind
 ·right
  constructor
  ·rw[BF];intro d C;cases aZ:(nO a4 y.o).contains d with
   |false=>rfl
   |true =>
    exfalso;rw[sG,ep]at A;exact Yd A (I4 C) (Yc ab)
  ·rw[BF];intro d C;cases aZ:(nO a4 x.o).contains d with
   |false=>rfl
   |true =>
    exfalso;rw[de,vj]at M;exact Yd M (I4 C) (Yc ab)
theorem Z8{x:hQ}:∀{l:aa hQ},CW x l=true->∀y∈l,CF x y=true
 | [],_,y,A=>ab
 |z::l,h,y,A=>by
  unfold CW at h;obtain⟨D,C⟩:CF x z=true/\CW x l=true:=ab
  rcases g5.1 A with rfl|A
  ·omega
  ·exact Z8 C y A
theorem WX:∀{l:aa hQ},FN l=true->∀(p q:Nat) (x y:hQ),p<q->l[p]? = some x->l[q]? = some y->CF x y=true
 | [],_,p,q,x,y,_,h,_=>ab
 |z::l,h,p,q,x,y,E,aj,A=>by
  unfold FN at h;obtain⟨D,C⟩:CW z l=true/\FN l=true:=ab
  cases q with
  |zero=>omega
  |succ q =>
   have A:l[q]? = some y:=ab
   cases p with
   |zero=>simp at aj;subst aj;exact Z8 D y ab
   |succ p=>exact WX C p q x y J ab A
theorem Ye{i:Nat}:∀{l:aa hQ},(z1 l).testBit i=true->∃x∈l,x.i=i
 | [],h=>by simp[z1]at h
 |x::l,h=>by
  have h:(2 ^ x.i ||| z1 l).testBit i=true:=h;rw[Ex]at h;simp only[Bool.or_eq_true]at h;rcases h with h|h
  ·grind
  ·obtain⟨y,C,A⟩:=Ye h
   grind
theorem Z9{j:Nat}:∀{A:aa Edge},z5 j A=true->∀e∈A,Region.binds .any e=true->e.on<j
 | [],_,e,C,_=>ab
 |x::A,h,e,C,D=>by
  unfold z5 at h;obtain⟨E,I⟩:(!Region.binds .any x||Nat.blt x.on j)=true/\z5 j A=true:=ab
  rcases g5.1 C with rfl|C
  ·rw[D]at E;simpa[vB]using E
  ·exact Z9 I e C D
theorem aaa:∀{A:aa Oper} {j:Nat},Gt j A=true->∀k o,A[k]? = some o->z5 (j+k) o.after.toList=true
 | [],j,_,k,o,h=>ab
 |x::A,j,h,k,o,D=>by
  unfold Gt at h;obtain⟨E,C⟩:z5 j x.after.toList=true/\Gt (Nat.succ j) A=true:=ab
  cases k with
  |zero=>grind
  |succ k =>
   have:=aaa C k o ab
   grind
theorem aab{P:Program}{a4:aa Oper}{y:hQ}(A:wn P a4 y):∀{b:aa hQ},(∀x∈b,wn P a4 x)->Gu y.am b=((b.map (·.i)).filter (λe=>r2 P a4 e&&!kd (jX a4) y.i e)).length
 | [],_=>rfl
 |x::b,h=>by
  have N:=aab A (b:=b) λz V=>h z ab;obtain⟨C,Z,E,sG,vj,I⟩:=h x ab;have D:r2 P a4 x.i=x.e:=by unfold r2;rw[iS,C,E];rfl
  have M:kd (jX a4) y.i x.i=kG y.am x.i:=by unfold kd;rw[A.2.2.2.2.2,QW];rfl
  unfold Gu
  grind
theorem VL{P:Program}{a4:aa Oper}:∀{l b:aa hQ},(∀x∈l,wn P a4 x)->(∀x∈b,wn P a4 x)->(r4 b l).map (·.i)=l.map (·.i) /\
  ∀p s,(r4 b l)[p]? = some s->a4[s.i]? = some s.o/\oK P s.o.op=some s.k/\s.uV=Kd P a4 (jX a4) ((b.reverse.map (·.i))++((r4 b l).take p).map (·.i)) s.i
 | [],b,_,_=>⟨rfl,λp s A=>by simp[r4]at A⟩
 |x::l,b,I,E=>by
  have C:=I x ab;obtain⟨N,M⟩:=VL (l:=l)  (λz D=>I z ab) (λz D=>by
   rcases g5.1 D with rfl|D
   ·exact C
   ·exact E z D)
  refine⟨by simp[r4,N],λp s A=>?_⟩;cases p with
  |zero =>
   simp[r4]at A;subst A;refine⟨C.1,C.2.1,?_⟩;unfold Kd;rw[aab C E]
   grind
  |succ p =>
   have:=M p s (by simpa[r4]using A);simpa[r4]using this
theorem ahr{P:Program}{a4:aa Oper}{bF:aa eK}(h:P4 P a4=some bF):tk P a4 bF:=by
 obtain⟨M,Aq,h⟩:=jC.1 h;have V:∀x∈M,wn P a4 x:=Z7 a4 _ 0 M Aq ab (λk a hk=>by rw[<-ai9,iS];grind);have A:∀x∈s7 M M 0,wn P a4 x:=λx I=>V x (Nl ab I);generalize s7 M M 0=l at h A;obtain⟨N,iY⟩:=s0 h;simp only[eC]at N;obtain⟨D,C,Z,E⟩:=N;cases iY;obtain⟨h1,ar⟩:=VL A (b:=[]) (λx I=>by cases I);have D:l.length=a4.length:=by have:=gG D;rwa[ou,ou]at this
 have C:z1 l=2 ^ a4.length-1:=by have:=gG C;rw[ou]at this;omega
 have u:∀(p:Nat) (s:eK),(r4 [] l)[p]? = some s->∃x,l[p]? = some x/\x.i=s.i:=λp s bk=>by
  have:=congrArg (λz=>z[p]?) h1
  grind
 refine⟨ab,λi aj=>?_,λj o e eU bE aT=>?_,λp q s t GW ap ck=>?_,?_⟩
 ·have aT:(z1 l).testBit i=true:=ab
  obtain⟨x,I,rfl⟩:=Ye aT;have bl:x.i∈(r4 [] l).map (·.i):=ab
  obtain⟨s,ap,bE⟩:=f0.1 bl;obtain⟨p,bk⟩:=BC ap
  grind
 ·have:=aaa Z j o eU;rw[iR]at this;exact Z9 this e ab aT
 ·obtain⟨x,I,ex⟩:=u p s ap;obtain⟨y,ce,HK⟩:=u q t ck;rw[<-ex,<-HK];exact alC (A x ab) (A y ab) (WX E p q x y GW I ce)
 ·have:=congrArg List.length h1
  grind
structure lO where
 ak:cc
 h:ae
 U:Nat
 b:ae
 ap:aa ae
def CH(st gm:lO):Prop:=gm.h=st.h/\gm.U=st.U/\gm.b=st.b/\gm.ap=st.ap
noncomputable def mA (all:aa Oper) (o:Oper) (ak:cc):al:=match yM all o.guard with
 |some g=>uE g ak
 |none=>false
def tA(v:X)(h:ae)(U:Nat):bP:=λa b c=>a=v/\b=h/\c=U
inductive acg (P:Program) (all:List Oper) (s:eK) (st gm:lO) (v:Option Value):Prop
 |skip (bV:mA all s.o st.ak=false) (hk:i9 s.k=false) (aJ:v=none) (aT:CH st gm)
 |ut (bV:mA all s.o st.ak=false) (hk:i9 s.k=true) (aJ:v=none) (fm:gm.h=st.h) (bH:gm.U=st.U) (aT:gm.b=st.h) (Ar:gm.ap=st.b::st.ap)
 |fu (bV:mA all s.o st.ak=true) (e:HI) (hk:s.k = .fu e) (aD:Value) (aJ:v=some aD) (bE:pv P st.ak e = .ok aD) (aT:CH st gm)
 |ic (bV:mA all s.o st.ak=true) (e:D1) (hk:s.k = .ic e) (cU:kn) (bE:CY st.ak e = .ok cU) (aJ:v=some (wu st.U cU)) (fm:gm.h=T st.h st.U (sf cU)) (bH:gm.U=st.U+1) (aT:gm.b=st.b) (Ar:gm.ap=st.ap)
 |red (bV:mA all s.o st.ak=true) (e:GL) (hk:s.k = .red e) (aD:Value) (aJ:v=some aD) (bE:pred P st.ak e st.b = .ok aD) (cY:∀k,k<s.uV->∃h,st.ap[k]? = some h/\pred P st.ak e h = .ok aD) (aT:CH st gm)
 |fv (bV:mA all s.o st.ak=true) (e:vh) (hk:s.k = .fv e) (aD:Value) (aJ:v=some aD) (bE:oZ P false e st.ak st.h st.U (tA aD gm.h gm.U)) (bH:st.U<=gm.U) (aT:gm.b=gm.h) (Ar:gm.ap=st.b::st.ap)
structure GX (P:Program) (all:aa Oper) (s:eK) (st gm:lO) (v:aw X):Prop where
 ok:acg P all s st gm v
 g:∃g,yM all s.o.guard=some g/\K8 g st.ak
 lK:∀d,hc gm.ak d=if s.o.dst=some d then some v else hc st.ak d
theorem GX.v8{P:Program}{s:eK}{st D:lO}{v:aw X}(h:GX P all s st D v):st.U<=D.U:=by
 cases h.ok with
 |skip N M I A=>rw[A.2.1];omega
 |ut N M I fm Z A E=>omega
 |fu N e M C I V A=>rw[A.2.1];omega
 |ic N e M cU V I fm Z A E=>omega
 |red N e M C I V cY A=>rw[A.2.1];omega
 |fv N e M C I V Z A E=>omega
theorem aja(ak:cc)(dst:aw Nat)(v:aw X)(d:Nat):hc (eu ak dst v) d=if dst=some d then some v else hc ak d:=by
 cases dst with
 |none=>rfl
 |some t=>show hc ((t,v)::ak) d=_;rw[ER];simp
theorem P7{f:ae->R X}{v:X}{p:Prop}:∀{n:Nat} {ap:aa ae},oL f v p n ap->(∀k,k<n->∃h,ap[k]? = some h/\f h = .ok v)/\p
 |0,ap,h=>⟨λk N=>J,h⟩
 |n+1,[],h=>h.elim
 |n+1,C::ap,⟨A,E⟩=>by
  obtain⟨I,M⟩:=P7 E;refine⟨λk N=>?_,M⟩;cases k with
  |zero =>
   refine⟨C,rfl,?_⟩;unfold m7 at A;cases D:f C with
   |no w=>rw[D]at A;cases A
   |ok x=>rw[D]at A;rw[X7 A]
  |succ k=>exact I k J
theorem tA.self(v:X)(h:ae)(U:Nat):tA v h U v h U:=⟨rfl,rfl,rfl⟩
section
variable {P:Program}
theorem Fs{ak:cc}{U:Nat}{b:ae}{k:cc->ae->Nat->ae->aa ae->Prop}:mH P d c (.fv e) ak h U b ap k=oZ P true e ak h U λv A Y=>U<=Y/\k (eu ak d (some v)) A Y A (b::ap):=by
 cases e <;> first|rfl|simp only[mH,oZ,cD,true_and]
def CI(C:bP->Prop)(C':bP->Prop)(k:bP):Prop:=∃v h U,k v h U/\C (tA v h U)/\∀dm,dm v h U->C' dm
theorem ach{C:bP->Prop}(h:tP true C k):CI C (tP true C) k:=by obtain⟨v,h,U,E,A⟩:=h;exact⟨v,h,U,E,A,λdm D=>⟨v,h,U,D,A⟩⟩
theorem aac(h:fc P true r k):CI (fc P false r) (fc P true r) k:=by
 cases r <;> first|exact ach h|exact h.elim
theorem P8(h:dG r k):CI (dG r) (dG r) k:=by
 cases r <;> first|exact⟨_,_,_,h,tA.self _ _ _,λ_ h=>h⟩|exact h.elim
theorem P9{ak:cc}{U:Nat}(C:oZ P true e ak h U k):CI (oZ P false e ak h U) (oZ P true e ak h U) k:=by
 have A:∀{az:Type} {r:R az} {f:az->Prop} {g b8:az->bP->Prop},af r f->(∀x,f x->CI (g x) (b8 x) k)->CI (λk=>af r (λx=>g x k)) (λk=>af r (λx=>b8 x k)) k:=λ{az r f g b8} D ar=>by obtain⟨x,rfl,D⟩:=f1 D;exact ar x D
 cases e with
 |st n a x=>exact A C λ_ h=>A h λ_ h=>A h λE h=>⟨_,_,_,h,tA.self _ _ _,λ_ h=>h⟩
 |yk t m k x=>exact A C λ_ h=>A h λ_ h=>A h λ_ h=>A h λE h=>⟨_,_,_,h,tA.self _ _ _,λ_ h=>h⟩
 |jp x=>exact A C λ_ h=>P8 h
 |fE x=>exact A (g:=λx k=>uW false h U x k) (b8:=λx k=>uW true h U x k) C λ_ h=>by obtain⟨_,_,_,_,_,_,_,h,_⟩:=h;cases h
 |call f args=>exact A C λ_ h=>ach h
 |zR f args=>exact A C λ_ h=>A h λ_ h=>aac h
 |app z x y=>exact A C λ_ h=>A h λ_ h=>P8 h
 |bi b I args=>exact A C λ_ h=>P8 h
 |inv r m args=>exact A C λ_ h=>A h λ_ h=>aac h
theorem aei{all:aa Oper}{K:cc->ae->Nat->Prop}:∀(bF:aa eK) (is:aa lM) (st:lO),FO all bF=some is->h4 P is st.ak st.h st.U st.b st.ap K ->
  ∃(bo:Nat->lO) (val:Nat->aw X),(tj st.ak (bo 0).ak/\CH st (bo 0))/\(∀j s,bF[j]? = some s->GX P all s (bo j) (bo (j+1)) (val j))/\K (bo bF.length).ak (bo bF.length).h (bo bF.length).U
 | [],is,st,aZ,h=>by cases aZ;exact⟨λ_=>st,λ_=>none,⟨λ_=>rfl,rfl,rfl,rfl,rfl⟩,λj s b1=>by simp at b1,h⟩
 |s::bF,is,st,aZ,h=>by
  simp only[FO,jC,lZ]at aZ;obtain⟨g,a6,I,GU,rfl⟩:=aZ;have h:kq g st.ak (λak=>mH P s.o.dst s.uV s.k ak st.h st.U st.b st.ap λak h U b ap=>h4 P I ak h U b ap K)
   (λak=>Bool.rec (h4 P I (eu ak s.o.dst none) st.h st.U st.b st.ap K) (h4 P I (eu ak s.o.dst none) st.h st.U st.h (st.b::st.ap) K) (i9 s.k)):=h
  obtain⟨GV,ak,V,oB⟩:=aeh h;have axw:K8 g ak:=λd w e=>by rw[V d];exact GV d w e
  have La:uE g ak=uE g st.ak:=by unfold uE;split <;> simp[V _]
  have go:∀(E:lO) (v:aw X),h4 P I E.ak E.h E.U E.b E.ap K->(∀D,CH E D->acg P all s ⟨ak,st.h,st.U,st.b,st.ap⟩ D v)->E.ak=eu ak s.o.dst v ->
    ∃(bo:Nat->lO) (val:Nat->aw X),(tj st.ak (bo 0).ak/\CH st (bo 0))/\(∀j t,(s::bF)[j]? = some t->GX P all t (bo j) (bo (j+1)) (val j))/\K (bo (s::bF).length).ak (bo (s::bF).length).h (bo (s::bF).length).U:=by
   intro E v ac ap oP;obtain⟨bo,val,⟨au,h0'⟩,h1,ar⟩:=aei bF I E GU ac;refine⟨λj=>match j with|0=>⟨ak,st.h,st.U,st.b,st.ap⟩|j+1=>bo j,λj=>match j with|0=>v|j+1=>val j,⟨V,rfl,rfl,rfl,rfl⟩,λj t b1=>?_,ar⟩;cases j with
   |zero =>
    simp at b1;subst b1;exact⟨ap _ h0',⟨g,a6,axw⟩,λd=>by show hc (bo 0).ak d=_;rw[au d,oP,aja]⟩
   |succ j=>exact h1 j t ab
  have Z:mA all s.o ak=uE g st.ak:=by unfold mA;rw[a6];exact La
  rcases oB with⟨aT,h⟩|⟨aT,h⟩ <;> rw[aT]at Z
  ·cases M:s.k with
   |fu e =>
    rw[M]at h;have h:af (pv P ak e) λv=>h4 P I (eu ak s.o.dst (some v)) st.h st.U st.b st.ap K:=by
     cases e <;> first|exact h|skip
     obtain⟨c,h1,N⟩:=f1 h;obtain⟨a,ar,N⟩:=f1 N;obtain⟨b,aL,N⟩:=f1 N;simp only[pv,h1,ar,aL,R.bind];rcases tb N with⟨rfl,N⟩|⟨rfl,N⟩ <;> exact N
    obtain⟨C,bE,h⟩:=f1 h;exact go ⟨eu ak s.o.dst (some C),st.h,st.U,st.b,st.ap⟩ (some C) h (λD A=>.fu Z e M C rfl bE A) rfl
   |ic e =>
    rw[M]at h;obtain⟨cU,bE,h⟩:=f1 h;exact go ⟨eu ak s.o.dst (some (wu st.U cU)),T st.h st.U (sf cU),st.U+1,st.b,st.ap⟩ _ h (λD A=>.ic Z e M cU bE rfl A.1 A.2.1 A.2.2.1 A.2.2.2) rfl
   |red e =>
    rw[M]at h;obtain⟨C,bE,h⟩:=f1 h;have h:oL (pred P ak e) C (h4 P I (eu ak s.o.dst (some C)) st.h st.U st.b st.ap K) s.uV st.ap:=by cases aZ:s.uV <;> rw[aZ]at h <;> exact h
    obtain⟨cY,h⟩:=P7 h;exact go ⟨eu ak s.o.dst (some C),st.h,st.U,st.b,st.ap⟩ (some C) h (λD A=>.red Z e M C rfl bE cY A) rfl
   |fv e =>
    rw[M]at h;rw[Fs]at h;obtain⟨C,ac,Y,⟨bH,h⟩,bE,_⟩:=P9 h;refine go ⟨eu ak s.o.dst (some C),ac,Y,ac,st.b::st.ap⟩ (some C) h (λD A=>.fv Z e M C rfl ?_ ?_ ?_ A.2.2.2) rfl
    ·rw[A.1,A.2.1];exact bE
    ·rw[A.2.1];exact bH
    ·rw[A.2.2.1,A.1]
  ·cases M:i9 s.k with
   |false =>
    rw[M]at h;exact go ⟨eu ak s.o.dst none,st.h,st.U,st.b,st.ap⟩ none h (λD A=>.skip Z M rfl A) rfl
   |true =>
    rw[M]at h;exact go ⟨eu ak s.o.dst none,st.h,st.U,st.h,st.b::st.ap⟩ none h (λD A=>.ut Z M rfl A.1 A.2.1 A.2.2.1 A.2.2.2) rfl
end
def cut(ai:ca)(n:Nat):ca:=λb=>if b<n then ai b else none
theorem oz{ai:ca}(h:b<n):cut ai n b=ai b:=by simp[cut,h]
theorem pg{ai:ca}(h:n<=b):cut ai n b=none:=by simp[cut,Nat.not_lt.2 h]
theorem Qa(ai:ca)(n:Nat):j2 (cut ai n) n:=λb h=>pg h
theorem OV(ai:ca)(h:n<=m):Sub (cut ai n) (cut ai m):=λb p A=>by
 by_cases C:b<n
 ·rw[oz C]at A;rw[oz J];omega
 ·rw[pg J]at A;grind
theorem aph(ai:ca)(h:j2 ai n):cut ai n=ai:=funext λb=>by
 by_cases A:b<n
 ·exact oz A
 ·rw[pg J,h b J]
structure nX (P:Program) (a4:Array Oper) (bF:aa eK) (bo:Nat->lO) (val:Nat->aw X):Prop where
 kS:tk P a4.toList bF
 iC:∀(j:Nat) (s:eK),bF[j]? = some s->GX P a4.toList s (bo j) (bo (j+1)) (val j)
def hL(cq:Array al)(i:Nat):Prop:=cq.getD i false=true
structure rL (a4:Array Oper) (cq:Array al):Prop where
 size:cq.size=a4.size
 closed:∀(j:Nat) (o:Oper) (e:Edge),hL cq j->a4.toList[j]? = some o->e∈o.after->Region.binds .any e=true->hL cq e.on
theorem p8:hL (cq.setIfInBounds i true) j↔(j=i/\i<cq.size)\/hL cq j:=by
 unfold hL
 by_cases e:j=i
 ·subst e
  by_cases A:j<cq.size
  ·simp[p1,y2,A]
  grind
 ·simp[p1,y2,kw e,e]
section
variable {P:Program} {a4:Array Oper} {bF:aa eK} {bo:Nat->lO} {val:Nat->aw X}
theorem nX.v8(R:nX P a4 bF bo val){i:Nat}:∀{j:Nat},i<=j->j<=bF.length->(bo i).U<=(bo j).U
 |0,h,_=>ab
 |j+1,h,A=>by
  by_cases e:i=j+1
  ·grind
  ·have ap:bF[j]? = some (bF[j]'J):=ab
   exact hy (R.v8 J J) (R.iC j _ ap).v8
theorem tk.ne(R:tk P a4.toList bF){s:eK}(I:bF[p]? = some s)(M:bF[q]? = some t)(h:p≠q):s.i≠t.i:=by
 have D:∀(p q:Nat) (s t:eK),p<q->bF[p]? = some s->bF[q]? = some t->s.i≠t.i:=λp q s t A ap C=>by
  have:=R.pair p q s t A ap C;unfold zF at this;simp only[eC]at this;have E:=this.1.1.1;intro e;rw[e,ua]at E
  grind
 grind
theorem tk.apart(R:tk P a4.toList bF){s:eK}(A:p<q)(ap:bF[p]? = some s)(C:bF[q]? = some t):
  kd (jX a4.toList) t.i s.i=true\/((∀d,s.o.dst=some d->d ∉ nO a4.toList t.o)/\∀d,t.o.dst=some d->d ∉ nO a4.toList s.o):=by
 have:=R.pair p q s t A ap C;unfold zF at this;simp only[eC]at this;have D:=this.2;rw[iS,iS,(R.step p s ap).1,(R.step q t C).1]at D
 grind
theorem tk.fv(R:tk P a4.toList bF){s:eK}(A:p<q)(ap:bF[p]? = some s)(C:bF[q]? = some t)(E:i9 t.k=true):kd (jX a4.toList) t.i s.i=true:=by
 have:=R.pair p q s t A ap C;unfold zF at this;simp only[eC]at this;have D:=R.step q t C;have I:r2 P a4.toList t.i=true:=by unfold r2;rw[iS,D.1];simp only[Ev,Iu,Gb];rw[D.2.1];exact E
 grind
theorem tk.after(R:tk P a4.toList bF){s:eK}(A:p<q)(ap:bF[p]? = some s)(C:bF[q]? = some t):kd (jX a4.toList) s.i t.i=false:=by
 have:=R.pair p q s t A ap C;unfold zF at this
 grind
theorem rL.ahead(A:rL a4 cq)(I:hL cq j)(C:kd (jX a4.toList) j i=true):hL cq i :=
 V8  A.closed j (λo e M D E=>A.closed j o e I M D E) i C
theorem rL.Nn(I:rL a4 cq)(N:j∈Region.ready .any a4 cq)(D:kd (jX a4.toList) j i=true):hL cq i:=by
 obtain⟨_,o,Z,A⟩:=mem_ready.1 N;refine V8  I.closed j (λV e C E M=>?_) i D;have:a4.toList[j]? = some o:=ab
 rw[this]at C;cases C;exact A e E M
theorem rL.set(I:rL a4 cq)(aj:i∈Region.ready .any a4 cq):rL a4 (cq.setIfInBounds i true):=by
 obtain⟨_,o,V,A⟩:=mem_ready.1 aj;refine⟨by simpa using I.size,λj N e C D E M=>?_⟩;rw[p8]at C ⊢
 right
 rcases C with⟨rfl,_⟩|C
 ·have:a4.toList[j]? = some o:=ab
  rw[this]at D;cases D;exact A e E M
 ·exact I.closed j N e C D E M
def Aa(bF:aa eK)(bo:Nat->lO)(cq:Array al)(ai:ca)(a:Act):Prop:=∀(j d:Nat),j<=bF.length ->
 (∀(q:Nat) (s:eK),q<j->bF[q]? = some s->s.o.dst=some d->hL cq s.i)->(∀(q:Nat) (s:eK),j<=q->bF[q]? = some s->s.o.dst=some d->¬hL cq s.i) ->
 ∀v,hc (bo j).ak d=some v->bA (cut ai (bo j).U) (ra v) (a.tmps.getD d undef)
theorem ahe{d:Tmp}(h:o.dst=some d):d∈nO all o:=by unfold nO;grind
theorem Aa.look(R:nX P a4 bF bo val){ai:ca}(eF:Aa bF bo cq ai a)(M:rL a4 cq){s:eK}(ap:bF[p]? = some s)(N:s.i∈Region.ready .any a4 cq){d:Nat}(V:d∈nO a4.toList s.o):∀v,hc (bo p).ak d=some v->bA (cut ai (bo p).U) (ra v) (a.tmps.getD d undef):=by
 have bk:p<bF.length:=ab
 have E:¬hL cq s.i:=by
  have au:=(mem_ready.1 N).1;unfold hL
  grind
 refine eF p d J (λq t I D A=>?_) (λq t I D A Z=>?_)
 ·rcases R.kS.apart I D ap with h|⟨h,_⟩
  ·exact M.Nn N h
  ·exact absurd V ab
 ·rcases jn p q with C|C
  ·rcases R.kS.apart C ap D with h|⟨_,h⟩
   ·exact E (M.ahead Z h)
   grind
  grind
theorem Aa.step(R:nX P a4 bF bo val){ai bq:ca}(eF:Aa bF bo cq ai a)(aZ:rL a4 cq)(Z:∀m,Sub (cut ai m) (cut bq m)){s:eK}(ap:bF[p]? = some s)(a5:s.i∈Region.ready .any a4 cq){c:X}(aJ:bA (cut bq (bo (p+1)).U) (ra (val p)) c)(I:∀d,s.o.dst=some d->d<a.tmps.size):
  Aa bF bo (cq.setIfInBounds s.i true) bq (a.put s.o.dst c):=by
 have azQ:s.i<cq.size:=by
  obtain⟨_,o,eU,_⟩:=mem_ready.1 a5
  grind
 have sl:¬hL cq s.i:=by
  have au:=(mem_ready.1 a5).1;unfold hL
  grind
 intro j d b1 aT bK nr D
 by_cases M:s.o.dst=some d
 ·
  have Sy:p<j:=by
   rcases jn p j with h|h
   ·exact h
   ·exact absurd (p8.2 J) (bK p s h ap M)
  have E:∀k,p+1+k<=j->hc (bo (p+1+k)).ak d=some (val p):=by
   intro k
   induction k with
   |zero =>
    intro _;rw[show p+1+0=p+1 from rfl,(R.iC p s ap).lK d,if_pos M]
   |succ k eO =>
    intro hk;have C:bF[p+1+k]? = some (bF[p+1+k]'J):=ab
    generalize bF[p+1+k]'J=t at C;have e0:t.o.dst≠some d:=λV=>by
     have N:=aT (p+1+k) t J C V;rw[p8]at N;rcases N with⟨h,_⟩|N
     ·exact R.kS.ne C ap J h
     ·rcases R.kS.apart J ap C with h|⟨h,_⟩
      ·exact sl (aZ.ahead N h)
      ·exact h d M (ahe V)
    rw[show p+1+(k+1)=p+1+k+1 by omega,(R.iC _ t C).lK d,if_neg e0];exact eO J
  have htg:hc (bo j).ak d=some (val p):=by have:=E (j-(p+1)) J;rwa[show p+1+(j-(p+1))=j by omega]at this
  rw[htg]at D;cases D;have u:(a.put s.o.dst c).tmps.getD d undef=c:=by have:=I d M;simp[Act.put,M,p1,y2,this]
  rw[u];exact aJ.mono (OV bq (R.v8 J b1))
 ·have u:(a.put s.o.dst c).tmps.getD d undef=a.tmps.getD d undef:=by
   cases Lb:s.o.dst with
   |none=>rfl
   |some HM =>
    have:HM≠d:=ab
    simp[Act.put,p1,y2,this]
  rw[u];refine(eF j d b1 (λq t C ck A=>?_) (λq t C ck A N=>?_) nr D).mono (Z _)
  ·have:=aT q t C ck A;rw[p8]at this;rcases this with⟨h,_⟩|h
   ·exfalso;have:q=p:=by
     rcases Nat.decEq q p with ac | ac
     ·exact absurd h (R.kS.ne ck ap ac)
     omega
    grind
   ·exact h
  ·exact bK q t C ck A (p8.2 ab)
end
theorem d7.Yf{B:Nat}{ai:ca}{H:fk}{w:World}(A:d7 B ai H w){k:Nat}(h:wh B ai H k):k<w.heap.size:=by obtain⟨b,p,D,ap,rfl,_⟩:=h;obtain⟨x,C⟩:=mX.1 ap;exact(A.obj b p x D C).Cn
section
variable {P:Program} {a4:Array Oper} {bF:aa eK} {bo:Nat->lO} {val:Nat->aw X}
structure jS (P:Program) (a4:Array Oper) (bF:aa eK) (bo:Nat->lO) (cq:Array al) (p:Nat) (s:eK) (cU:kn):Prop where
 at_:bF[p]? = some s
 As:hL cq s.i
 want:mA a4.toList s.o (bo p).ak=true
 ok:∃e,s.k = .ic e/\CY (bo p).ak e = .ok cU
theorem jS.lq{s:eK}(h:jS P a4 bF bo cq p s cU):i9 s.k=false/\∃e,s.k = .ic e:=by obtain⟨e,A,_⟩:=h.ok;exact⟨by rw[A];rfl,e,A⟩
theorem jS.next(R:nX P a4 bF bo val){s:eK}(h:jS P a4 bF bo cq p s cU):(bo (p+1)).U=(bo p).U+1/\(bo (p+1)).h=T (bo p).h (bo p).U (sf cU)/\(bo (p+1)).b=(bo p).b:=by
 have bV:=h.want;obtain⟨e,hk,eU⟩:=h.ok;cases(R.iC p s h.at_).ok with
 |skip C _ _ _=>grind
 |ut C _ _ _ _ _ _=>grind
 |fu _ D A _ _ _ _=>grind
 |red _ D A _ _ _ _ _=>grind
 |fv _ D A _ _ _ _ _ _=>grind
 |ic _ D A V E aJ M N I Z =>
  rw[hk]at A;cases A;rw[eU]at E;cases E;exact⟨N,M,I⟩
theorem jS.lt{s:eK}(h:jS P a4 bF bo cq p s cU):p<bF.length:=(hY.1 h.at_).1
theorem jS.aej(R:nX P a4 bF bo val){s:eK}(h:jS P a4 bF bo cq p s cU)(C:q<bF.length)(A:p<q):(bo p).U<(bo q).U:=by have D:=(h.next R).1;have:=R.v8 (J:p+1<=q) J;omega
structure li (P:Program) (a4:Array Oper) (bF:aa eK) (bo:Nat->lO) (B:Nat) (ie:ca) (gD:World) (cq:Array al) (c:Nat) (ai:ca) (w:World):Prop where
 le:c<=bF.length
 done:∀(q:Nat) (s:eK),q<c->bF[q]? = some s->hL cq s.i
 hP:cx B ie (u (bo 0).h) gD (bo 0).U (bo c).U (cut ai (bo c).U) (u (bo c).h) w
 sub:∀(x:Nat) (o:gh),u (bo c).b x=some o->u (bo c).h x=some o
 ext:∀(p:Nat) (s:eK) (cU:kn),c<=p->jS P a4 bF bo cq p s cU->∃pl,ai (bo p).U=some pl/\l7 B (cut ai ((bo p).U+1)) w pl (sf cU)/\gD.heap.size<=pl.cm/\pl.cm<w.heap.size/\¬wh B (cut ai (bo c).U) (u (bo c).h) pl.cm
 oQ:∀(p q:Nat) (s t:eK) (cU nb':kn) (pl Au:Place),c<=p->c<=q->jS P a4 bF bo cq p s cU->jS P a4 bF bo cq q t nb'->p≠q->ai (bo p).U=some pl->ai (bo q).U=some Au->pl.cm≠Au.cm
 x6:∀(b:Nat) (pl:Place),ai b=some pl->b<(bo c).U\/∃p s cU,c<=p/\jS P a4 bF bo cq p s cU/\b=(bo p).U
theorem cx.avh{B:Nat}{ai bq:ca}{H:fk}{w:World}(A:cx B ie rK gD ao aj ai H w){o:gh}(bH:ai aj=none)(hρ:bq=λk=>if k=aj then some pl else ai k)(azR:ie aj=none\/ao<=aj)(rj:l7 B bq w pl o)(aT:gD.heap.size<=pl.cm)(M:¬wh B ai H pl.cm):cx B ie rK gD ao (aj+1) bq (H.put aj o) w:=by
 subst hρ;have N:Sub ai (λk=>if k=aj then some pl else ai k):=λb q E=>ab
 have C:∀b q,b≠aj->(if b=aj then some pl else ai b)=some q->ai b=some q:=ab
 have ty:∀b,b≠aj->((H.put aj o) b).isSome->(H b).isSome:=λb e h=>by simpa[fk.put,e]using h
 refine⟨⟨A.rel.base,?_,?_,?_⟩,λb hh=>?_,A.size,A.os,A.tape,A.output,A.frame,?_,by have:=A.le;omega⟩
 ·intro b q x E Z
  by_cases e:b=aj
  ·subst e;simp[fk.put]at E Z;subst E;subst Z;exact rj
  ·have D:=C b q e E;have GQ:H b=some x:=by simpa[fk.put,e]using Z
   exact(A.rel.obj b q x D GQ).mono N rfl
 ·intro b cd q k0 E D ap nd V I
  by_cases e:b=aj <;> by_cases d3:cd=aj
  ·omega
  ·subst e;simp at E;subst E;exact absurd ⟨cd,k0,ab,ab,I.symm,V⟩ M
  ·subst d3;simp at D;subst D;exact absurd ⟨b,q,ab,ab,I,J⟩ M
  ·exact A.rel.inj b cd q k0 ab ab ab ab V I
 ·intro b ap
  by_cases e:b=aj
  ·grind
  ·simp only[e,fa];exact A.rel.mG b ab
 ·have dR:=A.le;have e:b≠aj:=J
  simp only[e,fa];exact A.agree b J
 ·rintro k ⟨b,q,E,ap,rfl,V⟩
  by_cases e:b=aj
  ·grind
  ·exact A.own _ ⟨b,q,ab,ab,rfl,V⟩
theorem li.asW(R:nX P a4 bF bo val){B:Nat}{ai:ca}{w:World}(M:li P a4 bF bo B ie gD cq c ai w){s:eK}(ap:bF[c]? = some s)(bb:hL cq s.i)(hk:i9 s.k=false\/mA a4.toList s.o (bo c).ak=false):li P a4 bF bo B ie gD cq (c+1) ai w:=by
 have cA:c<bF.length:=ab
 have V:∀(q:Nat) (t:eK),q<c+1->bF[q]? = some t->hL cq t.i:=λq t cM ck=>by
  rcases jn q c with h|h
  ·exact M.done q t h ck
  ·have:q=c:=J
   subst this;rw[ap]at ck;cases ck;exact bb
 have quiet:(∀cU,¬jS P a4 bF bo cq c s cU)->(bo (c+1)).h=(bo c).h->(bo (c+1)).U=(bo c).U->((bo (c+1)).b=(bo c).b\/(bo (c+1)).b=(bo c).h)->li P a4 bF bo B ie gD cq (c+1) ai w:=by
  intro hna fm Z A;refine⟨cA,V,by rw[fm,Z];exact M.hP,?_,?_,?_,?_⟩
  ·rw[fm];rcases A with A|A
   ·rw[A];exact M.sub
   grind
  ·intro p t cU bk D;rw[fm,Z];exact M.ext p t cU J D
  ·intro p q t mq cU N pl E bk cM;exact M.oQ p q t mq cU N pl E J J
  ·intro b pl hh;rw[Z];rcases M.x6 b pl hh with h|⟨p,t,cU,bk,D,bE⟩
   ·omega
   ·right
    refine⟨p,t,cU,?_,D,bE⟩;rcases jn c p with h|h
    ·exact h
    ·have:p=c:=J
     subst this;have:=D.at_
     grind
 cases(R.iC c s ap).ok with
 |skip I C aJ A=>exact quiet (λcU D=>by rw[D.want]at I;cases I) A.1 A.2.1 (.inl A.2.2.1)
 |ut I C aJ fm Z A Ar=>exact quiet (λcU D=>by rw[D.want]at I;cases I) fm Z (.inr A)
 |fu I e C aD aJ bE A=>exact quiet (λcU D=>by obtain⟨_,d3,h⟩:=D.lq;rw[C]at h;cases h) A.1 A.2.1 (.inl A.2.2.1)
 |red I e C aD aJ bE Ds A=>exact quiet (λcU D=>by obtain⟨_,d3,h⟩:=D.lq;rw[C]at h;cases h) A.1 A.2.1 (.inl A.2.2.1)
 |fv I e C aD aJ bE Z A Ar =>
  rcases hk with hk|hk
  ·rw[C]at hk;cases hk
  ·rw[I]at hk;cases hk
 |ic I e C cU bE aJ fm Z A Ar =>
  have D:jS P a4 bF bo cq c s cU:=⟨ap,bb,I,e,C,bE⟩
  obtain⟨pl,h1,ar,aL,bm,b3⟩:=M.ext c s cU J D;have KE:cut ai ((bo c).U+1)=λk=>if k=(bo c).U then some pl else cut ai (bo c).U k:=by
   funext k
   by_cases e:k=(bo c).U
   ·subst e;rw[if_pos rfl,oz J,h1]
   ·rw[if_neg e]
    by_cases Rx:k<(bo c).U
    ·rw[oz Rx,oz J]
    ·rw[pg J,pg J]
  have kj:=cx.avh M.hP   (pg J) KE (.inr M.hP.le) ar aL b3;have azH:u (bo c).h (bo c).U=none:=by
   cases a6:u (bo c).h (bo c).U with
   |none=>rfl
   |some x =>
    have:=M.hP.rel.mG (bo c).U ab;rw[pg J]at this;grind
  refine⟨cA,V,by rw[fm,Z,ul];exact kj,?_,?_,?_,?_⟩
  ·intro x o a1;rw[A]at a1;rw[fm,zk];have:=M.sub x o a1
   grind
  ·intro p t N bk Ds;obtain⟨E,bB,g2,dj,dL,gc⟩:=M.ext p t N J Ds;refine⟨E,bB,g2,dj,dL,?_⟩;rw[fm,Z,ul];rintro⟨b,q,cM,nd,Lc,et⟩;rw[KE]at cM
   by_cases e:b=(bo c).U
   ·subst e;simp at cM;subst cM;exact M.oQ c p s t cU N pl E J J D Ds J h1 bB Lc
   ·refine gc ⟨b,q,ab,by simpa[fk.put,e]using nd,Lc,et⟩
  ·intro p q t mq Ld u3 Le Lf bk cM;exact M.oQ p q t mq Ld u3 Le Lf J J
  ·intro b E hh;rw[Z];rcases M.x6 b E hh with h|⟨p,t,N,bk,Ds,he'⟩
   all_goals grind
theorem li.advance(R:nX P a4 bF bo val){B:Nat}{ie ai:ca}{gD w:World}{cq:Array al}:∀(k c:Nat),bF.length-c<=k->li P a4 bF bo B ie gD cq c ai w ->
  (∀(p:Nat) (s:eK),c<=p->bF[p]? = some s->hL cq s.i->i9 s.k=false\/mA a4.toList s.o (bo p).ak=false) ->
   ∃A,li P a4 bF bo B ie gD cq A ai w/\∀s,bF[A]? = some s->¬hL cq s.i
 |0,c,C,M,_=>⟨c,M,ab⟩
 |k+1,c,C,M,E=>by
  cases ap:bF[c]? with
  |none=>exact⟨c,M,ab⟩
  |some s =>
   by_cases D:hL cq s.i
   ·exact li.advance R k (c+1) J (M.asW R ap D ab) ab
   ·exact⟨c,M,ab⟩
end
section
variable {P:Program} {a4:Array Oper} {bF:aa eK} {bo:Nat->lO} {val:Nat->aw X}
theorem NA(aj:i<cq.size):cq.getD i true=false↔¬hL cq i:=by
 unfold hL
 grind
theorem alD(R:nX P a4 bF bo val)(aZ:rL a4 cq)(bp:∀(q:Nat) (s:eK),q<c->bF[q]? = some s->hL cq s.i)(Z:∀s,bF[c]? = some s->¬hL cq s.i)(a5:Region.ready .any a4 cq=[])(dR:c<=bF.length):c=bF.length:=by
 rcases jn c bF.length with A|h
 ·exfalso;have ap:bF[c]? = some (bF[c]'A):=ab
  generalize bF[c]'A=s at ap;have D:=Z s ap;have eU:a4[s.i]? = some s.o:=by simpa using(R.kS.step c s ap).1
  have aj:s.i<a4.size:=ab
  have:s.i∈Region.ready .any a4 cq:=by
   refine mem_ready.2 ⟨(NA (by rw[aZ.size];omega)).2 D,s.o,eU,λe V I=>?_⟩;have C:a4.toList[s.i]? = some s.o:=ab
   have N:=R.kS.inside s.i s.o e C V I;obtain⟨q,t,M,E⟩:=R.kS.cover e.on ab;rcases za q c with h|h|h
   ·have:=bp q t h M;rw[E]at this;exact this
   ·grind
   ·have h1:=R.kS.after h ap M;have ar:=alB C V I
    grind
  grind
 omega
def left(a4:Array Oper)(cq:Array al):Nat:=((List.range a4.size).filter λi=>!cq.getD i false).length
theorem Yg(D:cq.size=a4.size)(aj:i<a4.size)(A:¬hL cq i):left a4 (cq.setIfInBounds i true)+1<=left a4 cq:=by
 unfold left;have C:∀(l:aa Nat),((l.filter λk=>!(cq.setIfInBounds i true).getD k false).length<=(l.filter λk=>!cq.getD k false).length) /\
   (i∈l->(l.filter λk=>!(cq.setIfInBounds i true).getD k false).length+1<=(l.filter λk=>!cq.getD k false).length):=by
  intro l
  induction l with
  |nil=>grind
  |cons x N I =>
   by_cases e:x=i
   ·subst e;have E:(cq.setIfInBounds x true).getD x false=true:=by have:hL (cq.setIfInBounds x true) x:=p8.2 J;exact this
    have M:cq.getD x false=false:=by simpa[hL]using A
    grind
   ·have E:(cq.setIfInBounds i true).getD x false=cq.getD x false:=by simp[p1,y2,kw e]
    grind
 grind
end
section
variable {P:Program} {a4:Array Oper} {bF:aa eK} {bo:Nat->lO} {val:Nat->aw X}
theorem jS.set(R:nX P a4 bF bo val){s:eK}(ap:bF[p]? = some s)(h:jS P a4 bF bo (cq.setIfInBounds s.i true) q t cU):q=p\/jS P a4 bF bo cq q t cU:=by
 rcases Nat.decEq q p with A|C
 ·right
  refine⟨h.at_,?_,h.want,h.ok⟩;have:=h.As;rw[p8]at this;rcases this with⟨e,_⟩|this
  ·exact absurd e (R.kS.ne h.at_ ap A)
  ·exact this
 omega
theorem jS.up{cq:Array al}{q i:Nat}{t:eK}{cU:kn}(h:jS P a4 bF bo cq q t cU):jS P a4 bF bo (cq.setIfInBounds i true) q t cU :=
 ⟨h.at_,p8.2 (.inr h.As),h.want,h.ok⟩
theorem li.quiet(R:nX P a4 bF bo val){B:Nat}{ai:ca}{w:World}(M:li P a4 bF bo B ie gD cq c ai w){s:eK}(ap:bF[p]? = some s)(A:mA a4.toList s.o (bo p).ak=false\/∀e,s.k≠.ic e):li P a4 bF bo B ie gD (cq.setIfInBounds s.i true) c ai w:=by
 have back:∀{q:Nat} {t:eK} {cU:kn},jS P a4 bF bo (cq.setIfInBounds s.i true) q t cU->jS P a4 bF bo cq q t cU:=λ{q t cU} h=>by
  rcases h.set R ap with e|ac
  ·subst e;have:=h.at_;rw[ap]at this;cases this;rcases A with A|A
   ·have:=h.want;rw[A]at this;cases this
   ·obtain⟨_,e,bE⟩:=h.lq;exact absurd bE (A e)
  ·exact ac
 refine⟨M.le,λq t E Z=>p8.2 (.inr (M.done q t E Z)),M.hP,M.sub,λq t cU E cY=>M.ext q t cU E (back cY),λew q t mq cU I pl C V D N bm=>M.oQ ew q t mq cU I pl C V D (back N) (back bm),λb pl aT=>?_⟩;rcases M.x6 b pl aT with h|⟨q,t,cU,V,D,N⟩
 ·omega
 ·exact .inr ⟨q,t,cU,V,D.up,N⟩
theorem cx.grown{B:Nat}{ai:ca}{H:fk}{w a9:World}(A:cx B ie rK gD ao aj ai H w){o:Obj}(C:Made w a9 o):cx B ie rK gD ao aj ai H a9 where
 rel:=A.rel.world (by rw[C.size];omega) λb p D ap=>by obtain⟨x,I⟩:=mX.1 ap;exact C.dV _ (A.rel.obj b p x D I).Cn
 agree:=A.agree
 size:=by have:=A.size;rw[C.size];omega
 os:=C.os.trans A.os
 tape:=A.tape.trans C.tape
 output:=C.output.trans A.output
 frame:=λk M E=>by rw[C.dV k (by have:=A.size;omega)];exact A.frame k M E
 own:=A.own
 le:=A.le
end
section
variable {P:Program} {a4:Array Oper} {bF:aa eK} {bo:Nat->lO} {val:Nat->aw X}
theorem li.alloc(R:nX P a4 bF bo val){B:Nat}{ai:ca}{w a9:World}(M:li P a4 bF bo B ie gD cq c ai w){s:eK}(bk:c<=p)(ap:bF[p]? = some s)(sl:¬hL cq s.i)(aj:s.i<cq.size)(bV:mA a4.toList s.o (bo p).ak=true){e:D1}(hk:s.k = .ic e)(iw:CY (bo p).ak e = .ok cU){dq:Obj}(mJ:pl.cm=w.heap.size)(wA:wk (cut ai (bo p).U) cU dq pl)(bl:Made w a9 dq):
  ∃bq:ca,li P a4 bF bo B ie gD (cq.setIfInBounds s.i true) c bq a9/\bA (cut bq ((bo p).U+1)) (wu (bo p).U cU) (Sn cU w.heap.size pl.spare)/\∀m,Sub (cut ai m) (cut bq m):=by
 have afM:p<bF.length:=ab
 have aS:jS P a4 bF bo (cq.setIfInBounds s.i true) p s cU:=⟨ap,p8.2 J,bV,e,hk,iw⟩
 have Dt:(bo c).U<=(bo p).U:=R.v8 bk J;have azI:ai (bo p).U=none:=by
  cases A:ai (bo p).U with
  |none=>rfl
  |some q =>
   rcases M.x6 _ q A with h|⟨r,t,E,h1,ar,aL⟩
   ·omega
   ·exfalso;rcases za r p with h|h|h
    ·have:=ar.aej R afM h;omega
    ·subst h;have:=ar.at_;rw[ap]at this;cases this;exact sl ar.As
    ·have:=aS.aej R ar.lt h;omega
 let bq:ca:=λk=>if k=(bo p).U then some pl else ai k
 have C:∀m,Sub (cut ai m) (cut bq m):=λm b q A=>by
  by_cases Du:b<m
  ·rw[oz Du]at A;rw[oz Du]
   grind
  ·rw[pg J]at A;grind
 have avi:cut bq (bo c).U=cut ai (bo c).U:=funext λb=>by
  by_cases A:b<(bo c).U
  ·rw[oz A,oz A]
   grind
  ·rw[pg J,pg J]
 have Z:cut bq ((bo p).U+1)=λk=>if k=(bo p).U then some pl else cut ai (bo p).U k:=funext λb=>by
  by_cases e:b=(bo p).U
  ·subst e;rw[oz J];grind
  ·by_cases A:b<(bo p).U
   ·rw[oz J];simp[bq,e,oz A]
   ·rw[pg J];simp[e,pg (Nat.le_of_not_lt A)]
 have D:d7 B (cut ai (bo p).U) (λ_=>none) w:={
  base:=M.hP.rel.base
  obj:=λb q o _ h=>by cases h
  inj:=ab
  mG:=ab }
 obtain⟨h1,ar⟩:=K2.step D (pg (cD _)) mJ wA bl;rw[<-Z]at h1 ar;have Gv:l7 B (cut bq ((bo p).U+1)) a9 pl (sf cU):=by
  refine h1.rel.obj (bo p).U pl (sf cU) ?_ (by simp[fk.put])
  grind
 have u0:¬wh B (cut ai (bo c).U) (u (bo c).h) pl.cm:=λeU=>by have:=M.hP.rel.Yf eU;omega
 refine⟨bq,⟨M.le,λq t cM ck=>p8.2 (.inr (M.done q t cM ck)),by rw[avi];exact M.hP.grown bl,M.sub,?_,?_,?_⟩,ar,C⟩
 ·intro q t E cM cY;rcases cY.set R ap with e|Ds
  ·subst e;have:=cY.at_;rw[ap]at this;cases this;obtain⟨d3,sk,this⟩:=cY.ok;rw[hk]at sk;cases sk;rw[iw]at this;cases this;exact⟨pl,ab,Gv,by rw[mJ];exact M.hP.size,by rw[mJ,bl.size];omega,ab⟩
  ·obtain⟨Au,bB,g2,dj,dL,gc⟩:=M.ext q t E cM Ds;refine⟨Au,ab,g2.mono (C _) (bl.dV _ dL),dj,by rw[bl.size];omega,ab⟩
 ·intro q r t mq N V Le Lf cM a5 Lg Sz e0 qv jq;rcases Lg.set R ap with aV|ng <;> rcases Sz.set R ap with aP|I
  ·omega
  ·subst aV;obtain⟨Au,bB,_,_,dL,_⟩:=M.ext r mq V a5 I
   grind
  ·subst aP;obtain⟨Au,bB,_,_,dL,_⟩:=M.ext q t N cM ng
   grind
  ·obtain⟨_,bB,_⟩:=M.ext q t N cM ng;obtain⟨_,g2,_⟩:=M.ext r mq V a5 I;exact M.oQ q r t mq N V Le Lf cM a5 ng I e0 ab ab
 ·intro b q A
  by_cases e:b=(bo p).U
  ·grind
  ·have A:ai b=some q:=ab
   rcases M.x6 b q A with h|⟨r,t,E,bB,g2,dj⟩
   ·omega
   ·exact .inr ⟨r,t,E,bB,g2.up,dj⟩
end
section
variable {P:Program} {a4:Array Oper} {bF:aa eK} {bo:Nat->lO} {val:Nat->aw X}
theorem li.fv(R:nX P a4 bF bo val){B:Nat}{ie ai:ca}{gD w a9:World}{cq:Array al}{c:Nat}(M:li P a4 bF bo B ie gD cq c ai w){s:eK}(ap:bF[c]? = some s)(aj:s.i<cq.size){e:vh}(hk:s.k = .fv e)
  (bV:mA a4.toList s.o (bo c).ak=true) (sl:¬hL cq s.i) {bq:ca} (bl:cx B (cut ai (bo c).U) (u (bo c).h) w (bo c).U (bo (c+1)).U bq (u (bo (c+1)).h) a9):
  ∃Z:ca,li P a4 bF bo B ie gD (cq.setIfInBounds s.i true) (c+1) Z a9/\cut Z (bo (c+1)).U=bq/\∀m,Sub (cut ai m) (cut Z m):=by
 have cA:c<bF.length:=ab
 have pw:j2 bq (bo (c+1)).U:=(Qa ai (bo c).U).after bl
 let Z:ca:=λb=>if b<(bo (c+1)).U then bq b else ai b
 have Av:cut Z (bo (c+1)).U=bq:=funext λb=>by
  by_cases E:b<(bo (c+1)).U
  ·rw[oz E];grind
  ·rw[pg J,pw b J]
 have azS:∀{q:Nat} {t:eK} {cU:kn},c<=q->jS P a4 bF bo cq q t cU->(bo (c+1)).U<=(bo q).U/\c+1<=q:=λ{q t cU} cM cY=>by
  have:q≠c:=by intro e;subst e;have:=cY.at_;rw[ap]at this;cases this;exact sl cY.As
  exact⟨R.v8 J (by have:=cY.lt;omega),J⟩
 have I:∀b q,ai b=some q->Z b=some q:=λb q E=>by
  rcases M.x6 b q E with h|⟨r,t,cU,h1,ar,aL⟩
  ·have:bq b=some q:=by rw[bl.agree b J,oz h];omega
   grind
  grind
 have C:∀m,Sub (cut ai m) (cut Z m):=λm b q E=>by
  by_cases Du:b<m
  ·rw[oz Du]at E ⊢;grind
  ·rw[pg J]at E;grind
 have ig:(bo (c+1)).b=(bo (c+1)).h:=by
  cases(R.iC c s ap).ok with
  |fv _ _ _ _ _ _ _ E _=>exact E
  |skip D _ _ _=>rw[bV]at D;cases D
  |ut D _ _ _ _ _ _=>rw[bV]at D;cases D
  |fu _ _ A _ _ _ _=>rw[hk]at A;cases A
  |red _ _ A _ _ _ _ _=>rw[hk]at A;cases A
  |ic _ _ A _ _ _ _ _ _ _=>rw[hk]at A;cases A
 have back:∀{q:Nat} {t:eK} {cU:kn},jS P a4 bF bo (cq.setIfInBounds s.i true) q t cU->jS P a4 bF bo cq q t cU:=λ{q t cU} h=>by
  rcases h.set R ap with e|ac
  ·subst e;have:=h.at_;rw[ap]at this;cases this;have:=h.lq.1;rw[hk]at this;cases this
  ·exact ac
 refine⟨Z,⟨cA,λq t cM ck=>?_,by rw[Av];exact M.hP.trans bl,ab,?_,?_,?_⟩,Av,C⟩
 ·rcases jn q c with h|h
  ·exact p8.2 (.inr (M.done q t h ck))
  ·have:q=c:=J
   subst this;rw[ap]at ck;cases ck;exact p8.2 J
 ·intro q t cU cM cY;have cY:=back cY;obtain⟨pl,bB,g2,dj,dL,gc⟩:=M.ext q t cU J cY;refine⟨pl,ab,g2.mono (C _) (bl.frame _ dL gc),dj,Io dL bl.size,?_⟩;rw[Av];intro eU;rcases bl.own _ eU with h|h
  all_goals grind
 ·intro q r t mq Ld u3 Le Lf cM a5 N V e0 qv jq;have N:=back N;have V:=back V;obtain⟨_,bB,_⟩:=M.ext q t Ld J N;obtain⟨_,g2,_⟩:=M.ext r mq u3 J V;have aV:=I _ _ bB;have aP:=I _ _ g2;rw[qv]at aV;cases aV;rw[jq]at aP;cases aP;exact M.oQ q r t mq Ld u3 _ _ J J N V e0 bB g2
 ·intro b q E
  by_cases Rx:b<(bo (c+1)).U
  ·omega
  ·have E:ai b=some q:=ab
   rcases M.x6 b q E with h|⟨r,t,cU,bB,g2,dj⟩
   ·have:=bl.le;omega
   ·exact .inr ⟨r,t,cU,ab,g2.up,dj⟩
end
section
variable {P:Program} {a4:Array Oper} {bF:aa eK} {bo:Nat->lO} {val:Nat->aw X}
def tl(bF:aa eK)(c p:Nat):Nat:=(((bF.take p).drop c).filter λs=>i9 s.k).length
theorem nX.base(R:nX P a4 bF bo val){c:Nat}:∀{p:Nat},c<=p->p<=bF.length->(tl bF c p=0->(bo p).b=(bo c).b)/\(∀k,tl bF c p=k+1->(bo p).ap[k]? = some (bo c).b)
 |0,h,_=>by
  have:c=0:=J
  subst this;exact⟨ab,λk C=>by simp[tl]at C⟩
 |p+1,h,V=>by
  by_cases e:c=p+1
  ·subst e;exact⟨ab,λk C=>by simp[tl]at C⟩
  ·obtain⟨Z,N⟩:=R.base (c:=c) (p:=p) J J;have ap:bF[p]? = some (bF[p]'J):=ab
   generalize bF[p]'J=s at ap;have D:tl bF c (p+1)=tl bF c p+if i9 s.k then 1 else 0:=by
    unfold tl;rw[hx,ap,Ie ab,t6,jm]
    grind
   cases C:i9 s.k with
   |false =>
    rw[C]at D;have M:(bo (p+1)).b=(bo p).b/\(bo (p+1)).ap=(bo p).ap:=by
     cases(R.iC p s ap).ok with
     |skip _ _ _ I=>exact⟨I.2.2.1,I.2.2.2⟩
     |ut _ A _ _ _ _ _=>rw[C]at A;cases A
     |fu _ _ _ _ _ _ I=>exact⟨I.2.2.1,I.2.2.2⟩
     |red _ _ _ _ _ _ _ I=>exact⟨I.2.2.1,I.2.2.2⟩
     |ic _ _ _ _ _ _ _ _ I E=>exact⟨I,E⟩
     |fv _ _ A _ _ _ _ _ _=>rw[A]at C;cases C
    grind
   |true =>
    rw[C]at D;have E:(bo (p+1)).ap=(bo p).b::(bo p).ap:=by
     cases(R.iC p s ap).ok with
     |skip _ A _ _=>rw[C]at A;cases A
     |ut _ _ _ _ _ _ E=>exact E
     |fu _ _ A _ _ _ _=>rw[A]at C;cases C
     |red _ _ A _ _ _ _ _=>rw[A]at C;cases C
     |ic _ _ A _ _ _ _ _ _ _=>rw[A]at C;cases C
     |fv _ _ _ _ _ _ _ _ E=>exact E
    grind
end
section
variable {P:Program} {a4:Array Oper} {bF:aa eK} {bo:Nat->lO} {val:Nat->aw X}
theorem api(R:tk P a4.toList bF){s:eK}(ap:bF[p]? = some s)(Z:c<=p)(I:∀(q:Nat) (t:eK),c<=q->q<p->bF[q]? = some t->i9 t.k=true->kd (jX a4.toList) s.i t.i=false):tl bF c p<=s.uV:=by
 rw[(R.step p s ap).2.2];unfold Kd tl;rw[List.filter_map,gH];have E:((bF.take p).drop c).Sublist (bF.take p):=ab
 have h1:(((bF.take p).drop c).filter λs=>i9 s.k)=((bF.take p).drop c).filter ((λe=>r2 P a4.toList e&&!kd (jX a4.toList) s.i e) ∘ λx=>x.i):=by
  apply Iq;intro t M;obtain⟨k,A⟩:=BC M;rw[xh,xi]at A
  split at A
  ·rename_i C
   have N:=R.step (c+k) t A;have V:r2 P a4.toList t.i=i9 t.k:=by
    unfold r2;rw[iS,N.1];simp only[Ev,Iu,Gb]
    grind
   simp only[Function.comp,V];cases D:i9 t.k with
   |false=>rfl
   |true =>
    rw[I (c+k) t J C A D];rfl
  grind
 grind
end
section
variable {P:Program} {a4:Array Oper} {bF:aa eK} {bo:Nat->lO} {val:Nat->aw X}
theorem ah0(R:nX P a4 bF bo val)(aZ:rL a4 cq){s:eK}(ap:bF[p]? = some s)(E:c<=p)(V:∀t,bF[c]? = some t->¬hL cq t.i)(a5:s.i∈Region.ready .any a4 cq)(bV:mA a4.toList s.o (bo p).ak=true){e:GL}(M:s.k = .red e):∃D,val p=some D/\pred P (bo p).ak e (bo c).b = .ok D:=by
 have bk:p<bF.length:=ab
 obtain⟨h1,ar⟩:=R.base E J;have dR:tl bF c p<=s.uV:=api R.kS ap E λq t Z hqp ck N=>by
  cases aT:kd (jX a4.toList) s.i t.i with
  |false=>rfl
  |true =>
   exfalso;have fq:=aZ.Nn a5 aT;rcases jn c q with h|h
   ·have I:bF[c]? = some (bF[c]'J):=ab
    exact V _ I (aZ.ahead fq (R.kS.fv h I ck N))
   grind
 cases(R.iC p s ap).ok with
 |skip C _ _ _=>rw[bV]at C;cases C
 |ut C _ _ _ _ _ _=>rw[bV]at C;cases C
 |fu _ _ A _ _ _ _=>rw[M]at A;cases A
 |ic _ _ A _ _ _ _ _ _ _=>rw[M]at A;cases A
 |fv _ _ A _ _ _ _ _ _=>rw[M]at A;cases A
 |red _ d3 A D aJ bE cY _ =>
  rw[M]at A;cases A;refine⟨D,aJ,?_⟩;cases Z:tl bF c p with
  |zero=>rw[<-h1 Z];exact bE
  |succ k =>
   obtain⟨fm,bB,g2⟩:=cY k J;rw[ar k Z]at bB;cases bB;exact g2
end
theorem d7.up{B:Nat}{ai bq:ca}{H:fk}{w:World}(h:d7 B ai H w)(ap:Sub ai bq):d7 B bq H w:=by
 have down:∀b p,bq b=some p->(H b).isSome->ai b=some p:=λb p C A=>by obtain⟨q,E⟩:=mX.1 (h.mG b A);rw[ap b q E]at C;grind
 refine⟨h.base,λb p o C V=>?_,λb M p I C N A D=>h.inj b M p I ab ab A D,λb A=>?_⟩
 ·exact(h.obj b p o ab V).mono ap rfl
 ·obtain⟨q,E⟩:=mX.1 (h.mG b A);rw[ap b q E];rfl
theorem ajb{C:Oper}{A:al}{d:Tmp}(D:o.guard=some (j,A))(E:all[j]? = some C)(I:C.dst=some d):d∈nO all o:=by
 unfold nO;rw[D];simp only;rw[iS,E]
 grind
theorem alE{t:Tmp}(h:Operand.tmp t∈o.op.operands):t∈nO all o:=by unfold nO;simp only[hb];refine .inl (.inr ?_);rw[List.mem_filterMap];exact⟨.tmp t,ab,rfl⟩
section
variable {P:Program}
theorem ah1{d:Nat}{w:al}(A:yM all o.guard=some (some (d,w))):d∈nO all o:=by
  unfold yM at A
  split at A
  · cases A
  · rename_i j b C
    simp only[jC,lZ]at A;obtain⟨M,E,I,D,e⟩:=A;cases e;exact ajb C E D
theorem apj{a4:Array Oper}{bF:aa eK}(mJ:P4 P a4.toList=some bF){is:aa lM}(GU:FO a4.toList bF=some is){L B:Nat}{ak:cc}{U:Nat}{aC:Act}{r:aw Nat}{K:cc->ae->Nat->Prop}(nY:h4 P is ak h U h [] K)(Gw:od L B ie ak h U aC gD)(x7:vV aC.tmps.size a4.toList=true)(bk:uz L B ie h gD U aC.tmps.size (λx ak h U=>x = .normal/\K ak h U) Q):
    wpAnyIn (mT r) n P .any a4 Q a4.size (Array.replicate a4.size false) aC gD:=by
  have kS:=ahr mJ;obtain⟨bo,val,⟨ty,gd,ez,w2,_⟩,u4,ht⟩:=aei bF is ⟨ak,h,U,h,[]⟩ GU nY;have gd:(bo 0).h=h:=gd;have ez:(bo 0).U=U:=ez;have w2:(bo 0).b=h:=w2;have Aw:od L B ie (bo 0).ak (bo 0).h (bo 0).U aC gD:=by rw[gd,ez];exact⟨Gw.rel,Gw.e9,Gw.iC.same ty,Gw.marks,Gw.low⟩
  rw[<-gd,<-ez]at bk;have R:nX P a4 bF bo val:=⟨kS,u4⟩
  have main:∀(E:Nat) (cq:Array al) (a:Act) (w:World) (ai:ca) (c:Nat),rL a4 cq->li P a4 bF bo B ie gD cq c ai w->Aa bF bo cq ai a->(∀s,bF[c]? = some s->¬hL cq s.i) ->
      a.tmps.size=aC.tmps.size->a.defers=aC.defers->left a4 cq<=E->wpAnyIn (mT r) n P .any a4 Q E cq a w:=by
    intro E;have fin:∀(cq:Array al) (a:Act) (w:World) (ai:ca) (c:Nat),rL a4 cq->li P a4 bF bo B ie gD cq c ai w->Aa bF bo cq ai a->(∀s,bF[c]? = some s->¬hL cq s.i) ->
        a.tmps.size=aC.tmps.size->a.defers=aC.defers->Region.ready .any a4 cq=[]->Q .normal a w:=by
      intro cq a w ai c C M eF yp jH GY a5;have aZ:c=bF.length:=alD R C M.done yp a5 M.le;subst aZ;have kj:=M.hP;refine bk .normal _ _ _ _ a w ⟨rfl,ht⟩ kj ⟨kj.rel,Qa _ _,λd v V=>?_,?_,hy Aw.low kj.size⟩ jH
      · refine eF bF.length d J (λq s cM ap _=>M.done q s cM ap) (λq s cM ap _=>?_) v V
        grind
      · rw[GY];exact Aw.marks.hP kj
    induction E with
    |zero =>
      intro cq a w ai c C M eF yp jH GY bb;have a5:Region.ready .any a4 cq=[]:=by
        cases rm:Region.ready .any a4 cq with
        |nil=>rfl
        |cons i is =>
          exfalso;have aj:i∈Region.ready .any a4 cq:=ab
          obtain⟨sl,o,eU,_⟩:=mem_ready.1 aj;have cA:=(Ih.1 eU).1;have:=Yg C.size cA ((NA ab).1 sl);omega
      exact⟨a5,fin cq a w ai c C M eF yp jH GY a5⟩
    |succ E eO =>
      intro cq a w ai c C M eF yp jH GY bb;refine⟨λa5=>fin cq a w ai c C M eF yp jH GY a5,λi aj=>?_⟩;obtain⟨axx,o,eU,_⟩:=mem_ready.1 aj;have cA:=(Ih.1 eU).1;obtain⟨p,s,ap,rfl⟩:=kS.cover i J;have me:=(kS.step p s ap).1;have ho':a4[s.i]? = some s.o:=ab
      rw[ho']at eU;cases eU;have tv:s.i<cq.size:=ab
      have sl:=(NA tv).1 axx;have Dt:c<=p:=by
        rcases jn p c with h|h
        · exact absurd (M.done p s h ap) sl
        omega
      have afM:p<bF.length:=ab
      have look:∀d,d∈nO a4.toList s.o->∀v,hc (bo p).ak d=some v->bA (cut ai (bo p).U) (ra v) (a.tmps.getD d undef):=λd bp=>eF.look R C ap aj bp;obtain⟨g,a6,GV⟩:=(u4 p s ap).g;have hwq:Region.wanted s.o (yielded a4 a.tmps)=mA a4.toList s.o (bo p).ak:=by unfold mA;rw[a6];exact WU a6 GV λd w v e V=>look d (ah1 (by rw[<-e];exact a6)) v V
      have KF:Loc (cut ai (bo p).U) (bo p).ak a.tmps s.o.op.operands:=λt v ck V=>look t (alE ck) v V;have avj:∀d,s.o.dst=some d->d<a.tmps.size:=by rw[jH];exact Z5 x7 (k4 me)
      have avk:left a4 (cq.setIfInBounds s.i true)<=E:=by have:=Yg C.size cA sl;omega
      have avl:∀(ew:Nat) (mp:eK),c<=ew->bF[ew]? = some mp->hL cq mp.i->i9 mp.k=false:=λew mp wC nd Ay=>by
        cases sk:i9 mp.k with
        |false=>rfl
        |true =>
        exfalso;rcases jn c ew with h|h
        · have mK:bF[c]? = some (bF[c]'J):=ab
          exact yp _ mK (C.ahead Ay (kS.fv h mK nd sk))
        grind
      have N:∀(bq:ca) (a9:World) (hr:X) (c1:Nat),li P a4 bF bo B ie gD (cq.setIfInBounds s.i true) c1 bq a9->c<=c1->(c1<=p->i9 s.k=false\/mA a4.toList s.o (bo p).ak=false) ->
          bA (cut bq (bo (p+1)).U) (ra (val p)) hr->(∀m,Sub (cut ai m) (cut bq m))->wpAnyIn (mT r) n P .any a4 Q E (cq.setIfInBounds s.i true) (a.put s.o.dst hr) a9:=by
        intro bq a9 hr c1 aBh Dr yq V nT;obtain⟨c2,aBi,axy⟩:=li.advance R (bF.length-c1) c1 J aBh λew mp wC nd Ay=>by
          rcases Nat.decEq ew p with e0|rfl
          · left
            refine avl ew mp J nd ?_;rw[p8]at Ay;rcases Ay with⟨e,_⟩|Ay
            · exact absurd e (kS.ne nd ap e0)
            · exact Ay
          grind
        exact eO _ _ _ bq c2 (C.set aj) aBi (eF.step R C nT ap aj V avj) axy (by rw[Act.N3];omega) (by rw[Act.VK];omega) avk
      unfold wpOpIn;simp only[ho'];rw[hwq];have D:=(kS.step p s ap).2.1;have iY:=(u4 p s ap).ok;cases I:mA a4.toList s.o (bo p).ak with
      |false =>
        simp only[nH,fa];refine⟨λ_ _=>trivial,?_⟩;have Ry:val p=none:=by
          cases iY with
          |skip _ _ V _=>exact V
          |ut _ _ V _ _ _ _=>exact V
          |fu A _ _ _ _ _ _=>rw[I]at A;cases A
          |ic A _ _ _ _ _ _ _ _ _=>rw[I]at A;cases A
          |red A _ _ _ _ _ _ _=>rw[I]at A;cases A
          |fv A _ _ _ _ _ _ _ _=>rw[I]at A;cases A
        exact N ai w undef c (M.quiet R ap (.inl I)) J (λ_=>.inr I) (by rw[Ry];exact s1) (λm _ _ h=>h)
      |true =>
        simp only[if_true];refine⟨λ_ _=>trivial,?_⟩;show s.o.uponIn (mT r) n P a _ Q ((s.o.semAt r a.eval).run P w);cases iY with
        |skip A _ _ _=>rw[I]at A;cases A
        |ut A _ _ _ _ _ _=>rw[I]at A;cases A
        |fu _ e Z aD u1 bE aT =>
          rw[Z]at D;rw[Oper.semAt_eq r a.eval s.o (zo D)];obtain⟨hr,V,ti⟩:=Z1 s.o KF D bE;rw[ti w];exact N ai w hr c (M.quiet R ap (.inr λe=>by rw[Z];simp)) J (λ_=>.inl (by rw[Z];rfl)) (by rw[aT.2.1,u1];exact V) (λm _ _ h=>h)
        |red _ e Z aD u1 bE cY aT =>
          obtain⟨u',uZ,hre⟩:=ah0 R C ap Dt yp aj I Z;rw[u1]at uZ;cases uZ;rw[Z]at D;rw[Oper.semAt_eq r a.eval s.o (zo D)];have axz:d7 B (cut ai (bo p).U) (u (bo c).b) w:=(M.hP.rel.less M.sub).up (OV ai (R.v8 Dt J));obtain⟨hr,V,ti⟩:=Z4 axz s.o KF D hre;rw[ti];exact N ai w hr c (M.quiet R ap (.inr λe=>by rw[Z];simp)) J (λ_=>.inl (by rw[Z];rfl)) (by rw[aT.2.1,u1];exact V) (λm _ _ h=>h)
        |ic _ e Z cU bE u1 fm SA aT Ar =>
          have Lh:=Z;rw[Z]at D;rw[Oper.semAt_eq r a.eval s.o (zo D)];obtain⟨dq,pl,a9,mJ,wA,avm,ti⟩:=Z2 s.o KF D bE w;obtain⟨bq,tR,V,nT⟩:=M.alloc R Dt ap sl tv I Z bE mJ wA avm;rw[ti];exact N bq a9 _ c tR J (λ_=>.inl (by rw[Z];rfl)) (by rw[SA,u1];exact V) nT
        |fv _ e Z aD u1 bE SA aT Ar =>
          have tB:p=c:=by
            rcases jn c p with h|h
            · exfalso
              have mK:bF[c]? = some (bF[c]'J):=ab
              exact yp _ mK (C.Nn aj (kS.fv h mK ap (by rw[Z];rfl)))
            omega
          subst tB;rw[Z]at D;refine X9 M.hP.rel (Qa _ _) s.o KF D bE ?_;intro v ac Y bq hr a9 tz V bl;obtain⟨rfl,rfl,rfl⟩:=tz;obtain⟨ρn,tR,Av,nT⟩:=M.fv R ap tv Z I sl bl;exact N ρn a9 hr (p+1) tR J (λh=>J) (by rw[Av,u1];exact V) nT
  have Dq:∀i,¬hL (Array.replicate a4.size false) i:=λi bb=>by
    unfold hL at bb
    by_cases aj:i<a4.size <;> simp[p1,aj]at bb
  have aek:cut ie (bo 0).U=ie:=aph ie Aw.e9;have aBj:li P a4 bF bo B ie gD (Array.replicate a4.size false) 0 ie gD :=
    { le:=Nat.zero_le _
      done:=λq s cM=>J
      hP:=by rw[aek];exact cx.refl _ Aw.rel
      sub:=by rw[show(bo 0).b=(bo 0).h by rw[w2,gd]];exact λ_ _ h=>h
      ext:=λp s cU _ cY=>absurd cY.As (Dq _)
      oQ:=λp q s t cU nb' pl Au _ _ cY=>absurd cY.As (Dq _)
      x6:=λb pl aT=>by
        left
        rcases jn b (bo 0).U with h|h
        · exact h
        · rw[Aw.e9 b h]at aT;grind }
  refine main a4.size _ aC gD ie 0 ⟨by simp,λj o e bb=>absurd bb (Dq _)⟩ aBj ?_ (λs _=>Dq _) rfl rfl ?_
  · intro j d b1 aT bK v V
    have avn:∀k,k<=j->hc (bo k).ak d=hc (bo 0).ak d:=by
      intro k
      induction k with
      |zero=>intro _;rfl
      |succ k eO =>
        intro Z;have ap:bF[k]? = some (bF[k]'J):=kL _;generalize bF[k]'J=s at ap;rw[(u4 k s ap).lK d,if_neg (λe=>Dq _ (aT k s J ap e))];exact eO J
    rw[avn j (cD _)]at V;have:=Aw.iC d v V;rw[<-aek]at this;exact this.mono (OV ie (R.v8 (Nat.zero_le _) b1))
  · unfold left
    grind
end
section
variable {P:Program} {s:al}
theorem hI{r:R az}{k dm:az->Prop}(h:af r k)(A:∀v,k v->dm v):af r dm:=by
 cases r <;> first|exact A _ h|exact h
theorem zw{a b C A:Prop}(h:br v a b)(D:a->C)(E:b->A):br v C A:=by
 rcases tb h with⟨rfl,h⟩|⟨rfl,h⟩
 ·exact D h
 ·exact E h
theorem OW(h:dG r k)(A:∀v h U,k v h U->dm v h U):dG r dm:=by
 cases r <;> first|exact A _ _ _ h|exact h
theorem Yh(h:fc P s r k)(A:∀v h U,k v h U->dm v h U):fc P s r dm:=by
 cases r <;> first|exact aH.mono h A|exact lN.mono h A|exact h
theorem B6{ak:cc}{A C M I:cc->Prop}(h:kq g ak A C)(D:∀ak,A ak->M ak)(E:∀ak,C ak->I ak):kq g ak M I:=by
 cases g with
 |none=>exact D _ h
 |some g =>
  obtain⟨t,w⟩:=g;simp only[kq]at h ⊢
  split at h
  ·cases w <;> exact zw h (by first|exact D _|exact E _) (by first|exact D _|exact E _)
  ·exact E _ h
  ·exact h
theorem Ju{ak:cc}{U:Nat}(C:oZ P s e ak h U k)(A:∀v h U,k v h U->dm v h U):oZ P s e ak h U dm:=by
 cases e with
 |st n a x=>exact hI C λ_ h=>hI h λ_ h=>hI h λ_=>A _ _ _
 |yk t m k x=>exact hI C λ_ h=>hI h λ_ h=>hI h λ_ h=>hI h λ_=>A _ _ _
 |jp x=>exact hI C λ_ h=>OW h A
 |fE x=>exact hI C λ_ ⟨a,b,c,d,e,f,g,h1,N,V,Z,I,M,E⟩=>⟨a,b,c,d,e,f,g,h1,N,V,Z,I,λh=>A _ _ _ (M h),λe D=>⟨(E e D).1,A _ _ _ (E e D).2⟩⟩
 |call f args=>exact hI C λ_ h=>aH.mono h A
 |zR f args=>exact hI C λ_ h=>hI h λ_ h=>Yh h A
 |app z x y=>exact hI C λ_ h=>hI h λ_ h=>OW h A
 |bi b ag args=>exact hI C λ_ h=>OW h A
 |inv r m args=>exact hI C λ_ h=>hI h λ_ h=>Yh h A
theorem JW{ak:cc}{U:Nat}{k:cc->ae->Nat->Prop}:nq P s d (.fv e) ak h U k=oZ P s e ak h U λv h U=>k (eu ak d (some v)) h U:=rfl
theorem Jv{i:lM}{ak:cc}{U:Nat}{K:cc->ae->Nat->Prop}:pQ P s (i::l) ak h U K=kq i.g ak (λak=>nq P s i.d i.k ak h U λak h U=>pQ P s l ak h U K) (λak=>pQ P s l (eu ak i.d none) h U K):=rfl
theorem OX{i:lM}{ak:cc}{U:Nat}{b:ae}{K:cc->ae->Nat->Prop}:h4 P (i::l) ak h U b ap K=kq i.g ak (λak=>mH P i.d i.c i.k ak h U b ap λak h U b ap=>h4 P l ak h U b ap K)
 (λak=>if i9 i.k=true then h4 P l (eu ak i.d none) h U h (b::ap) K else h4 P l (eu ak i.d none) h U b ap K):=by
 have e:h4 P (i::l) ak h U b ap K=kq i.g ak (λak=>mH P i.d i.c i.k ak h U b ap λak h U b ap=>h4 P l ak h U b ap K)
  (λak=>Bool.rec (h4 P l (eu ak i.d none) h U b ap K) (h4 P l (eu ak i.d none) h U h (b::ap) K) (i9 i.k)):=rfl
 rw[e]
 congr 1
 funext ak
 cases i9 i.k <;> rfl
theorem OY{i:mS}{ak:cc}{U:Nat}{k dm:cc->ae->Nat->Prop}(C:nq P s d i ak h U k)(A:∀p h U,k p h U->dm p h U):nq P s d i ak h U dm:=by
 cases i with
 |fu e=>cases e <;> first|exact hI C λ_=>A _ _ _|exact hI C λ_ h=>hI h λ_ h=>hI h λ_ h=>zw h (A _ _ _) (A _ _ _)
 |ic e=>exact hI C λ_=>A _ _ _
 |red e=>exact hI C λ_=>A _ _ _
 |fv e=>rw[JW]at C ⊢;exact Ju C λ_ _ _=>A _ _ _
theorem Jw:∀{l:aa lM} {ak:cc} {h:ae} {U:Nat} {k dm:cc->ae->Nat->Prop},pQ P s l ak h U k->(∀p h U,k p h U->dm p h U)->pQ P s l ak h U dm
 | [],_,_,_,_,_,C,A=>A _ _ _ C
 |i::l,_,_,_,_,_,C,A=>by rw[Jv]at C ⊢;exact B6 C (λ_ h=>OY h λ_ _ _ h=>Jw (l:=l) h A) (λ_ h=>Jw (l:=l) h A)
theorem Yi{i:mS}{ak:cc}{U:Nat}{b:ae}{k dm:cc->ae->Nat->ae->aa ae->Prop}(C:mH P d c i ak h U b ap k)(A:∀p h U b ap,k p h U b ap->dm p h U b ap):mH P d c i ak h U b ap dm:=by
 have I:∀{f:ae->R X} {v:X} {p q:Prop} (_:p->q) {n:Nat} {ap:aa ae},oL f v p n ap->oL f v q n ap:=λ{f v p q} D {n}=>by
  induction n with
  |zero=>intro ap h;exact D h
  |succ n E=>intro ap h;cases ap with
   |nil=>exact h
   |cons x M=>exact⟨h.1,E h.2⟩
 cases i with
 |fu e=>cases e <;> first|exact hI C λ_=>A _ _ _ _ _|exact hI C λ_ h=>hI h λ_ h=>hI h λ_ h=>zw h (A _ _ _ _ _) (A _ _ _ _ _)
 |ic e=>exact hI C λ_=>A _ _ _ _ _
 |red e=>exact hI C λ_ h=>by cases c <;> first|exact A _ _ _ _ _ h|exact I (A _ _ _ _ _) h
 |fv e=>rw[Fs]at C ⊢;exact Ju C λ_ _ _ h=>⟨h.1,A _ _ _ _ _ h.2⟩
theorem Ft:∀{l:aa lM} {ak:cc} {h:ae} {U:Nat} {b:ae} {ap:aa ae} {k dm:cc->ae->Nat->Prop},h4 P l ak h U b ap k->(∀p h U,k p h U->dm p h U)->h4 P l ak h U b ap dm
 | [],_,_,_,_,_,_,_,C,A=>A _ _ _ C
 |i::l,_,_,_,_,_,_,_,C,A=>by
  rw[OX]at C ⊢;refine B6 C (λ_ h=>Yi h λ_ _ _ _ _ h=>Ft (l:=l) h A) (λ_ h=>?_)
  split at h <;> rename_i e
  ·rw[if_pos e];exact Ft (l:=l) h A
  ·rw[if_neg e];exact Ft (l:=l) h A
theorem v9{ak:cc}:∀{L:aa Nat} {k:aa X->Prop},n9 L ak k->∃aE,k aE/\(∀dm,dm aE->n9 L ak dm)/\∀i n,L[i]? = some n->∃v,hc ak n=some v/\a7 aE i=ra v
 | [],k,h=>⟨[],h,λ_ h=>h,λi n h=>by cases h⟩
 |n::L,k,h=>by
  unfold n9 at h
  split at h
  ·rename_i v A
   obtain⟨aE,I,C,D⟩:=v9 h;refine⟨v::aE,I,λdm E=>by unfold n9;rw[A];exact C _ E,λi m aj=>?_⟩;cases i with
   |zero=>cases aj;exact⟨_,A,rfl⟩
   |succ i=>exact D i m aj
  ·rename_i A
   obtain⟨aE,I,C,D⟩:=v9 h;refine⟨jP::aE,I,λdm E=>by unfold n9;rw[A];exact C _ E,λi m aj=>?_⟩;cases i with
   |zero=>cases aj;exact⟨_,A,rfl⟩
   |succ i=>exact D i m aj
  ·exact h.elim
theorem Yj{aE:aa X}{d:Nat}{A:aw X}:∀{L:aa Nat} {j:Nat},hc (rc L aE j) d=some A->∃i,L[i]? = some d/\A=some (a7 aE (j+i))
 | [],j,h=>by cases h
 |n::L,j,h=>by
  have h:hc ((n,some (a7 aE j))::rc L aE (j+1)) d=some A:=h;rw[ER]at h
  by_cases e:n=d
  ·rw[if_pos e]at h;cases h;exact⟨0,by simp[e],rfl⟩
  ·rw[if_neg e]at h;obtain⟨i,D,C⟩:=Yj h;exact⟨i+1,D,by rw[C];congr 2;omega⟩
theorem jf.rH{ai:ca}{ak:cc}{t:Array X}(I:jf ai ak t){k:aa X->Prop}(h:n9 L ak k):∃aE,k aE/\jf ai (rc L aE 0) t:=by obtain⟨aE,M,_,C⟩:=v9 h;refine⟨aE,M,λd A E=>?_⟩;obtain⟨i,aj,rfl⟩:=Yj E;obtain⟨v,D,e⟩:=C i d aj;show bA ai (a7 aE (0+i)) _;rw[iR,e];exact I d v D
theorem B7{ak:cc}{k dm:aa X->Prop}(h:n9 L ak k)(C:∀aE,k aE->dm aE):n9 L ak dm:=by obtain⟨aE,D,A,_⟩:=v9 h;exact A _ (C _ D)
theorem Jx{L:aa Nat}{i:Nat}{ak:cc}{h:ae}{U:Nat}:∀{E:aa (Nat × aR)},jW (wi L E) i ak h U->n9 L ak λaE=>jW E i aE h U
 | [],A=>A.elim
 |p::E,A=>by
  have A:(bif Nat.beq p.1 i then th L p.2 else jW (wi L E) i) ak h U:=A;show n9 L ak λaE=>(bif Nat.beq p.1 i then p.2 else jW E i) aE h U;cases C:Nat.beq p.1 i <;> rw[C]at A
  ·exact Jx A
  ·exact A
theorem OZ{L:aa Nat}{i:Nat}{ak:cc}{h:ae}{U:Nat}:∀{E:aa (Nat × aR)},(n9 L ak λaE=>jW E i aE h U)->jW (wi L E) i ak h U
 | [],A=>by obtain⟨_,h,_⟩:=v9 A;exact h
 |p::E,A=>by
  have A:n9 L ak λaE=>(bif Nat.beq p.1 i then p.2 else jW E i) aE h U:=A;show(bif Nat.beq p.1 i then th L p.2 else jW (wi L E) i) ak h U;cases C:Nat.beq p.1 i <;> rw[C]at A
  ·exact OZ A
  ·exact A
theorem xC{L:aa Nat}{c:ko}{i:Nat}{aE:aa X}{h:ae}{U:Nat}:∀{E:aa (Nat × iK)},jW (uX L c E) i aE h U↔re i c=true/\jW E i (rc L aE 0) h U
 | []=>⟨λh=>h.elim,λh=>h.2⟩
 |p::E=>by
  show jW (bif re p.1 c then(p.1,GN L p.2)::uX L c E else uX L c E) i aE h U↔re i c=true/\(bif Nat.beq p.1 i then p.2 else jW E i) (rc L aE 0) h U;have C:=xC (L:=L) (c:=c) (i:=i) (aE:=aE) (h:=h) (U:=U) (E:=E);cases A:Nat.beq p.1 i with
  |false =>
   cases D:re p.1 c with
   |false=>exact C
   |true =>
    show(bif Nat.beq p.1 i then GN L p.2 else jW (uX L c E) i) aE h U↔_;rw[A];exact C
  |true =>
   have e:=gG A;subst e;cases D:re p.1 c with
   |false=>exact⟨λh=>by rw[my,C,D]at h;exact absurd h.1 (by simp),λh=>absurd h.1 (by simp)⟩
   |true =>
    show(bif Nat.beq p.1 p.1 then GN L p.2 else jW (uX L c E) p.1) aE h U↔_;rw[A];exact⟨λh=>⟨rfl,h⟩,λh=>h.2⟩
theorem zx{c:ko}{R:iK}{U:Nat}:GO L c R aE h U↔uK c=true/\R (rc L aE 0) h U:=by
 unfold GO;cases uK c with
 |false=>exact⟨λh=>h.elim,λh=>by cases h.1⟩
 |true=>exact⟨λh=>⟨rfl,h⟩,λh=>h.2⟩
theorem O0:∀(c:ko) {i:Nat} {ak:cc} {h:ae} {U:Nat} {N M:iK} {E V:aa (Nat × iK)} {R Z:iK},hR P s eV c i ak h U N E R->(∀p h U,N p h U->M p h U)->(∀j p h U,jW E j p h U->jW V j p h U)->(∀p h U,R p h U->Z p h U)->hR P s eV c i ak h U M V Z:=by
 intro c
 induction c with
 |skip=>intro i ak h U N M E V R Z A C I D;exact C _ _ _ A
 |exit id=>intro i ak h U N M E V R Z A C I D;exact I _ _ _ _ A
 |ret=>intro i ak h U N M E V R Z A C I D;exact D _ _ _ A
 |scope c eO=>intro i ak h U N M E V R Z A C I D;exact eO A C I D
 |tg l=>intro i ak h U N M E V R Z A C I D;exact Jw A C
 |CT l=>intro i ak h U N M E V R Z A C I D;exact Ft A C
 |no=>intro i ak h U N M E V R Z A C I D;exact A
 |wZ f cb a b =>
  intro i ak h U N M E V R Z A C I D;refine hI A λv aJ=>?_;unfold tu at aJ ⊢
  split at aJ
  ·exact aH.mono aJ λv h U ⟨st,p,lK,cb,a,b,h1,ar,aL⟩=>⟨st,p,lK,cb,a,b,h1,ar,aL.imp (λh=>⟨h.1,C _ _ _ h.2⟩) (λh=>⟨h.1,D _ _ _ h.2⟩)⟩
  ·exact aJ
 |seq a b wD wE=>intro i ak h U N M E V R Z A C I D;exact wD A (λ_ _ _ h=>wE h C I D) I D
 |block id c eO =>
  intro i ak h U N M E V R Z A C I D;refine eO A C (λj p h U fm=>?_) D;have fm:(bif Nat.beq id j then N else jW E j) p h U:=fm;show(bif Nat.beq id j then M else jW V j) p h U;cases aT:Nat.beq id j <;> rw[aT]at fm
  ·exact I _ _ _ _ fm
  ·exact C _ _ _ fm
 |cond x a b wD wE =>
  intro i ak h U N M E V R Z A C I D;cases x with
  |v v=>exact zw A (λh=>wD h C I D) (λh=>wE h C I D)
  |t n =>
   simp only[hR]at A ⊢
   split at A
   ·exact zw A (λh=>wD h C I D) (λh=>wE h C I D)
   ·exact A
 |loop c eO =>
  intro i ak h U N M E V R Z A C I D;refine B7 A λaE ⟨eB,m,au,et⟩=>⟨eB,m,au,λm aE h U b1=>eO (et m aE h U b1) (λ_ _ _ h=>h) (λj p h U fm=>?_) (λp h U fm=>?_)⟩
  ·exact OZ (B7 (Jx fm) λaE h=>xC.2 ⟨(xC.1 h).1,I _ _ _ _ (xC.1 h).2⟩)
  ·exact B7 fm λaE h=>zx.2 ⟨(zx.1 h).1,D _ _ _ (zx.1 h).2⟩
end
def HN(N:iK)(E:aa (Nat × iK))(R:iK):K9:=λx=>match x with
 | .normal=>N
 | .exit i=>jW E i
 | .ret=>R
def lj:Code->al
 | .seq a b=>lj a&&lj b
 | .cond _ a b=>lj a&&lj b
 | .block _ c=>lj c
 | .loop c=>lj c
 | .scope c=>lj c
 | .rangeFunc _ _ _ _=>false
 |_=>true
structure pF (P:Program):Prop where
 mixed:P.follows .mixedOrders=true
 names:∀(f:FuncId) (fn:Func),P.funcs[f]? = some fn->(fn.name == "runtime.NumGoroutine")=false
 fit:∀(f:FuncId) (fn:Func) (c:Code),P.funcs[f]? = some fn->fn.body=some c->kM fn.ntmps c=true
def Fu(fn:Func):al:=!(fn.name == "runtime.NumGoroutine")&&(match fn.body with|some c=>kM fn.ntmps c|none=>true)
theorem pF.of{P:Program}(C:P.follows .mixedOrders=true)(E:P.funcs.toList.all Fu=true):pF P:=by
 have A:∀(f:FuncId) (fn:Func),P.funcs[f]? = some fn->Fu fn=true:=ab
 refine⟨C,λf fn h=>?_,λf fn c h D=>?_⟩
 ·have:=A f fn h;simp only[Fu,eC,MQ]at this
  grind
 ·have:=A f fn h;simp only[Fu,D,eC]at this
  grind
section
variable {P:Program} {B:Nat}
theorem cx.push{ai:ca}{H:fk}{w:World}(A:d7 B ai H w)(U:Nat)(o:Obj):cx B ai H w U U ai H { w with heap:=w.heap.push o } where
 rel:=A.world (by simp) λb p D ap=>by
  obtain⟨x,C⟩:=mX.1 ap;have:=(A.obj b p x D C).Cn
  grind
 agree:=ab
 size:=by simp
 os:=rfl
 tape:=.here
 output:=rfl
 frame:=ab
 own:=ab
 le:=J
theorem d7.Jy{ai:ca}{H:fk}{w:World}(M:d7 B ai H w){p:Place}{A:aw Code}{C:cc}(D:ai b=some p)(I:H b=some (.loop st A C cb rl body)):
  ∃l:Loop,B<=p.cm/\w.heap[p.cm]? = some (.loop l)/\Sg l.state=st/\l.pending=A/\jf ai C l.tmps/\l.params.toList=cb/\l.assign=rl/\l.body=body /\
   kM l.tmps.size rl=true/\kM l.tmps.size body=true/\(∀q∈cb,q<l.tmps.size):=by obtain⟨N,l,E⟩:=M.obj b p _ D I;exact⟨l,N,E⟩
theorem Nf{w:World}{k:Nat}{l:Loop}(h:w.heap[k]? = some (.loop l)):(Instr.getLoop k).run P w = .ok l w:=by have:=qS (P:=P) h ab;simp[Instr.getLoop,this]
theorem bA.alF{ai:ca}{a b:Array X}{c:X}(h:bA ai (.func (.func f) a b) c):∃C A:aa X,c = .func (.func f) ⟨C⟩ ⟨A⟩/\dl ai a.toList C/\dl ai b.toList A:=by
 cases h with
 |func _ D E=>exact⟨_,_,rfl,D,E⟩
theorem avo{f:Operand}{cb:Array Tmp}{ak:cc}{U:Nat}{x:e5}(a1:cX f=some x)(aJ:d2 ak x = .ok v)(ap:tu P false v h U (.loop 0 none ak cb.toList rl body) K){L:Nat}{ai:ca}{w:World}(A:od L B ai ak h U a w)(x7:kM a.tmps.size (.rangeFunc f cb rl body)=true){N R:ae->Nat->Prop}(ht:K=x4 U N R)(bk:uz L B ai h w U a.tmps.size (λx oO h U=>oO=ak/\(match x with | .normal=>N h U | .ret=>R h U | .exit _=>False)) Q):(Code.rangeFunc f cb rl body).wpIn (mT none) n P Q a w:=by
 have wx:=(A.iC.loc #[f]).ec (by simp) a1 aJ;unfold tu at ap
 split at ap
 ·rename_i g x y
  obtain⟨f4,qF,oP,a1,ce⟩:=wx.alF;have ap:kV P g _ _ _ K:=ap;obtain⟨⟨fn0,Dv,rn,yr⟩,avp⟩:=ap;simp only[kM,eC,BF,vB]at x7;refine wpIn_rangeFunc λfn _=>?_;have Rz:∃(C:World) (E:aa Deferred) (bM:Nat),cx B ai (u h) w U U ai (u h) C/\pn L B ai (u h) C (E++a.defers) /\
    (Instr.enterLoop fn a.tmps cb rl body none).run P w = .ok (C.heap.size,E) { C with heap:=C.heap.push (.loop { state:=.ready,pending:=none,fn,tmps:=a.tmps,params:=cb,assign:=rl,body,defers:=bM }) }:=by
   have kj:=cx.push A.rel U (.deferred (some []));refine⟨{ w with heap:=w.heap.push (.deferred (some [])) },[{ target:=.collected w.heap.size,args:=#[] }],w.heap.size,kj,⟨⟨w.heap.size,A.low,rfl,by simp,λeU=>?_,?_⟩,A.marks.hP kj⟩,?_⟩
   ·have:=A.rel.Yf eU;omega
   ·intro HM SB bE;have:∀(bM:aa Deferred),pn L B ai (u h) w bM->HM∈bM->False:=by
     intro bM
     induction bM with
     |nil=>grind
     |cons d bM eO =>
      rintro⟨⟨r,_,h1,ar,_,_⟩,aL⟩ bp
      grind
    exact this _ A.marks SB
   ·simp[Instr.enterLoop,zj];rfl
  obtain⟨C,E,bM,RA,SC,ti⟩:=Rz
  let p:Place:=⟨C.heap.size,0,0,0⟩
  let sm:ca:=λk=>if k=U then some p else ai k
  have Kc:sm U=some p:=ab
  have nT:Sub ai sm:=λb q aT=>by
   by_cases e:b=U
   ·subst e;rw[A.e9.here]at aT;grind
   grind
  have RB:=Made.push C (.loop { state:=.ready,pending:=none,fn,tmps:=a.tmps,params:=cb,assign:=rl,body,defers:=bM });have rj:l7 B sm { C with heap:=C.heap.push (.loop { state:=.ready,pending:=none,fn,tmps:=a.tmps,params:=cb,assign:=rl,body,defers:=bM }) } p (.loop 0 none ak cb.toList rl body):=
   ⟨RA.rel.base,_,RB.new,rfl,rfl,A.iC.mono nT,rfl,rfl,rfl,ab,x7.2,ab⟩
  have I:=cx.make RA.rel A.e9.here RB.size RB.dV rfl .here rfl  rfl rj;rw[<-ul]at I;have ael:=RA.trans I;have RC:j2 sm (U+1):=A.e9.after ael;have SD:bA sm (.func (.yield U) #[] #[]) (.func (.yield C.heap.size) #[] #[]):=.yield  Kc;have avq:dl sm (x.toList++(Value.func (.yield U) #[] #[]::y.toList)) (f4++(Value.func (.yield C.heap.size) #[] #[]::qF)):=(a1.mono nT).append (.cons SD (ce.mono nT));have hci:=avp B sm _ _ I.rel RC avq (n-1);generalize yl:({ C with heap:=C.heap.push (.loop { state:=.ready,pending:=none,fn,tmps:=a.tmps,params:=cb,assign:=rl,body,defers:=bM }) }:World)=yQ at *
  refine⟨C.heap.size,E,yQ,{ target:=.fn (.func g) ⟨qF⟩,args:=⟨f4⟩++#[Value.func (.yield C.heap.size) #[] #[]] },yQ,g,⟨f4++(Value.func (.yield C.heap.size) #[] #[]::qF)⟩,yQ,ti,?_,λ_ _=>trivial,?_,λh=>by simp[mT,Fence.wide]at h,?_⟩
  ·have asX:a.eval (.const (.func (.yield C.heap.size) #[] #[])) = .func (.yield C.heap.size) #[] #[]:=rfl;simp[resolve,rangeCall,oP,Deferred.ofValue,asX]
  ·have aT:fn0.body≠none:=ab
   have Az:fn0.name ≠ "runtime.NumGoroutine" := by grind
   simp[invoke,callFunc,Dv,Az,aT]
  ·rw[XZ];refine hci.mono λe V bE=>?_;obtain⟨nr,ac,Y,bq,c,rfl,hk,GZ,bl⟩:=bE;have pw:=RC.after bl;have Li:bq U=some p:=(RC.sub bl) _ _ Kc;subst ht;obtain⟨st,Gm,Ak,AA,eg,cd,a6,KG,hk⟩:=hk;obtain⟨Z,et,AB,iY,hpd,u4,KH,RD,RE,axA,axB,axC⟩:=bl.rel.Jy Li a6;subst hpd;have u5:=Nf (P:=P) AB;have wA:Z.state≠.busy:=by intro h;rw[h]at iY;subst iY;exact KG rfl
   have RF:=ug (P:=P)  (o:=.loop { Z with state:=.exhausted }) AB ab;have RG:(Instr.endLoop C.heap.size).run P V = .ok Z.pending { V with heap:=V.heap.setIfInBounds C.heap.size (.loop { Z with state:=.exhausted }) }:=by have u5:(Instr.getLoop C.heap.size).run P V = .ok Z V:=u5;have RF:(setObj C.heap.size (.loop { Z with state:=.exhausted })).run P V = .ok () _:=RF;simp[Instr.endLoop,u5,wA,RF];rfl
   have KI:cx B bq (u ac) V Y Y bq (u (T ac U (.loop 3 Z.pending Ak AA eg cd))) { V with heap:=V.heap.setIfInBounds C.heap.size (.loop { Z with state:=.exhausted }) }:=
    cx.set bl.rel Y Li a6 et ab λa9 pC=>⟨et,_,pC,rfl,rfl,u4,KH,RD,RE,axA,axB,axC⟩
   have D:=(ael.trans bl).trans KI;have M:od L B bq ak (T ac U (.loop 3 Z.pending Ak AA eg cd)) Y { a with defers:=E++a.defers } { V with heap:=V.heap.setIfInBounds C.heap.size (.loop { Z with state:=.exhausted }) }:=
    ⟨D.rel,pw,A.iC.mono (A.e9.sub D),((SC.hP I).hP bl).hP KI,hy A.low D.size⟩
   refine⟨_,_,RG,?_⟩;generalize (T ac U (.loop 3 Z.pending Ak AA eg cd))=H at hk D M;generalize ({ V with heap:=V.heap.setIfInBounds C.heap.size (.loop { Z with state:=.exhausted }) }:World)=ns at D M ⊢;rcases hk with⟨b1,hk⟩|⟨b1,hk⟩ <;> rw[b1]
   ·exact bk .normal _ _ _ _ _ _ ⟨rfl,hk⟩ D M rfl
   ·exact wpIn_ret (bk .ret _ _ _ _ _ _ ⟨rfl,hk⟩ D M rfl)
 ·exact ap.elim
theorem od.ak{L:Nat}{ai:ca}{ak A:cc}{U:Nat}{w:World}(s:od L B ai ak h U a w)(C:jf ai A a.tmps):od L B ai A h U a w:=⟨s.rel,s.e9,C,s.marks,s.low⟩
theorem QX(gL:pF P):∀(c:Code) {i:Nat} {ak:cc} {h:ae} {U:Nat} {N:iK} {E:aa (Nat × iK)} {R:iK},hR P false eV (comp P c) i ak h U N E R ->
  ∀{L:Nat} {ai:ca} {a:Act} {w:World} {n:Nat} {r:aw Nat} {Q:Exit->Act->World->Prop},od L B ai ak h U a w->kM a.tmps.size c=true->(r=none\/lj c=true)->uz L B ai h w U a.tmps.size (HN N E R) Q->c.wpIn (mT r) n P Q a w:=by
 intro c
 induction c with
 |skip=>intro i ak h U N E R ap L ai a w n r Q A C Z M;exact wpIn_skip (M .normal _ _ _ _ _ _ ap (cx.refl U A.rel) A rfl)
 |label l=>intro i ak h U N E R ap L ai a w n r Q A C Z M;exact wpIn_label (M .normal _ _ _ _ _ _ ap (cx.refl U A.rel) A rfl)
 |exit id=>intro i ak h U N E R ap L ai a w n r Q A C Z M;exact wpIn_exit (M (.exit id) _ _ _ _ _ _ ap (cx.refl U A.rel) A rfl)
 |ret=>intro i ak h U N E R ap L ai a w n r Q A C Z M;exact wpIn_ret (M .ret _ _ _ _ _ _ ap (cx.refl U A.rel) A rfl)
 |scope c eO =>
  intro i ak h U N E R ap L ai a w n r Q A C Z M;refine ahY (eO ap A C Z ?_);intro x oO ac Y bq eg a9 V bl D I;have:=M x oO ac Y bq eg a9 V bl D I;cases x <;> exact this
 |region id a4 CX =>
  intro i ak h U N E R ap L ai a w n r Q A C Z M;have ap:hR P false eV (Rr P a4.toList CX) i ak h U N E R:=ap;unfold Rr at ap;cases CX with
  |false =>
   simp only[my]at ap
   split at ap
   ·rename_i l bb
    refine wpIn_region ?_;have:=acf (r:=r) (n:=n) (Q:=Q) a4.toList l 0 rfl bb ap A C (M.mono λx ak h U V=>by obtain⟨rfl,V⟩:=V;exact V);rw[List.range_eq_range'];simpa using this
   ·exact ap.elim
  |true =>
   simp only[p5]at ap
   split at ap
   ·rename_i l bb
    obtain⟨bF,h1,ar⟩:=jC.1 bb;refine wpIn_region_any gL.mixed ?_;refine apj h1 ar ap ⟨A.rel.drawn _,A.e9,A.iC,pn.hP (w:=w) (ao:=U) (aj:=U) ⟨A.rel.drawn (w.drawn+1),ab,ab,rfl,⟨rfl,by simp⟩,rfl,ab,ab,J⟩ A.marks,A.low⟩ C ?_;rintro x oO ac Y bq eg a9 ⟨rfl,V⟩ bl D I;exact M .normal oO ac Y bq eg a9 V (cx.from (by simp) bl) D I
   ·exact ap.elim
 |seq x y ihx ihy =>
  intro i ak h U N E R ap L ai a w n r Q A C Z M;simp only[kM,eC]at C;have wF:r=none\/lj x=true:=Z.imp id λh=>by simp only[lj,eC]at h;exact h.1
  have nZ:r=none\/lj y=true:=Z.imp id λh=>by simp only[lj,eC]at h;exact h.2
  refine wpIn_seq (ihx ap A C.1 wF ?_);intro f4 oO ac Y bq eg a9 V bl D I;cases f4 with
  |normal=>exact ihy V D (by rw[I];exact C.2) nZ (by rw[I];exact M.after bl)
  |exit j=>exact M (.exit j) _ _ _ _ _ _ V bl D I
  |ret=>exact M .ret _ _ _ _ _ _ V bl D I
 |cond x c1 c2 ih1 SE =>
  intro i ak h U N E R ap L ai a w n r Q A C Z M;simp only[kM,eC]at C;have wF:r=none\/lj c1=true:=Z.imp id λh=>by simp only[lj,eC]at h;exact h.1
  have nZ:r=none\/lj c2=true:=Z.imp id λh=>by simp only[lj,eC]at h;exact h.2
  simp only[comp]at ap
  split at ap
  ·rename_i y ce
   have Lj:∀b,d2 ak y = .ok (.bool b)->a.eval x = .bool b:=λb aT=>((A.iC.loc #[x]).ec (by simp) ce aT).E3;cases y with
   |v v =>
    rcases tb ap with⟨rfl,ap⟩|⟨rfl,ap⟩
    ·exact wpIn_cond (Lj true rfl) (ih1 ap A C.1 wF M)
    ·exact wpIn_cond (Lj false rfl) (SE ap A C.2 nZ M)
   |t m =>
    simp only[hR]at ap
    split at ap
    ·rename_i v aJ
     have hpv:d2 ak (.t m) = .ok v:=by simp[d2,aJ]
     rcases tb ap with⟨rfl,ap⟩|⟨rfl,ap⟩
     ·exact wpIn_cond (Lj true hpv) (ih1 ap (A.ak (A.iC.same (tj.lit aJ))) C.1 wF M)
     ·exact wpIn_cond (Lj false hpv) (SE ap (A.ak (A.iC.same (tj.lit aJ))) C.2 nZ M)
    ·exact ap.elim
  ·exact ap.elim
 |block id c eO =>
  intro i ak h U N E R ap L ai a w n r Q A C Z M;refine wpIn_block (eO ap A C Z ?_);intro x oO ac Y bq eg a9 V bl D I;cases x with
  |normal=>exact M .normal _ _ _ _ _ _ V bl D I
  |ret=>exact M .ret _ _ _ _ _ _ V bl D I
  |exit j =>
   have V:(bif Nat.beq id j then N else jW E j) oO ac Y:=V;show if j=id then Q .normal eg a9 else Q (.exit j) eg a9
   by_cases e:j=id
   ·rw[if_pos e];rw[show Nat.beq id j=true by rw[e];exact ua id]at V;exact M .normal _ _ _ _ _ _ V bl D I
   ·rw[if_neg e];rw[show Nat.beq id j=false by
     cases aT:Nat.beq id j with
     |true=>exact absurd (gG aT).symm e
     |false=>rfl]at V
    exact M (.exit j) _ _ _ _ _ _ V bl D I
 |loop c eO =>
  intro i ak h U N E R ap L ai a w n r Q A C Z M;obtain⟨aE,⟨eB,m,A8,et⟩,eF⟩:=A.iC.rH ap;refine ahZ (λm eg a9=>∃aE ac Y bq,eB m aE ac Y/\cx B ai (u h) w U Y bq (u ac) a9/\od L B bq (rc (ke eV i) aE 0) ac Y eg a9/\eg.tmps.size=a.tmps.size) ?_ (m:=m) ⟨aE,h,U,ai,A8,cx.refl U A.rel,A.ak eF,rfl⟩;rintro m aB dc ⟨vs1,h1,kC,sm,SF,axD,axE,RH⟩;refine eO (et m vs1 h1 kC SF) axE (by rw[RH];exact C) Z ?_;intro x oO ac Y bq eg a9 V bl D I;have Dw:=axD.trans bl;have RI:=I.trans RH;cases x with
  |normal =>
   obtain⟨AC,⟨bC,cA,hJ2⟩,tC⟩:=D.iC.rH V;exact⟨bC,cA,AC,ac,Y,bq,hJ2,Dw,D.ak tC,RI⟩
  |exit j =>
   obtain⟨AC,ei,tC⟩:=D.iC.rH (Jx V);exact M (.exit j) _ _ _ _ _ _ (xC.1 ei).2 Dw (D.ak tC) RI
  |ret =>
   obtain⟨AC,ei,tC⟩:=D.iC.rH V;exact M .ret _ _ _ _ _ _ (zx.1 ei).2 Dw (D.ak tC) RI
 |rangeFunc f cb rl body =>
  intro i ak h U N E R ap L ai a w n r Q A C Z M;rcases Z with rfl|Z
  ·simp only[comp]at ap
   split at ap
   ·rename_i x a1
    obtain⟨v,aJ,ap⟩:=f1 ap;refine avo a1 aJ ap A C rfl (M.mono λx oO h U V=>?_);obtain⟨rfl,V⟩:=V;cases x <;> first|exact V|exact V.elim
   ·exact ap.elim
  ·cases Z
 |_=>intro i ak h U N E R ap;exact ap.elim
end
section
variable {P:Program}
def vk(pe0:cc)(au:ae)(a0:Nat):cc->ae->Nat->Prop:=λak h U=>ak=pe0/\h=au/\U=a0
theorem asY{i:mS}{ak:cc}{U:Nat}{k:cc->ae->Nat->Prop}(A:nq P true d i ak h U k):∃D M Y,k D M Y/\nq P false d i ak h U (vk D M Y):=by
 cases i with
 |fu e =>
  cases e
  case pick =>
   obtain⟨c,C,A⟩:=f1 A;obtain⟨a,E,A⟩:=f1 A;obtain⟨b,I,A⟩:=f1 A;rcases tb A with⟨rfl,A⟩|⟨rfl,A⟩
   ·exact⟨_,_,_,A,by simp only[nq,C,E,I];exact⟨rfl,rfl,rfl⟩⟩
   ·exact⟨_,_,_,A,by simp only[nq,C,E,I];exact⟨rfl,rfl,rfl⟩⟩
  all_goals
   obtain⟨v,C,A⟩:=f1 A;exact⟨_,_,_,A,by simp only[nq,Mi,id,C];exact⟨rfl,rfl,rfl⟩⟩
 |ic e=>obtain⟨v,C,A⟩:=f1 A;exact⟨_,_,_,A,by simp only[nq,d4,C];exact⟨rfl,rfl,rfl⟩⟩
 |red e=>obtain⟨v,C,A⟩:=f1 A;exact⟨_,_,_,A,by simp only[nq,C];exact⟨rfl,rfl,rfl⟩⟩
 |fv e =>
  rw[JW]at A;obtain⟨v,M,Y,V,N,_⟩:=P9 A;exact⟨_,_,_,V,by rw[JW];exact Ju N λ_ _ _ ⟨C,E,I⟩=>⟨by rw[C],E,I⟩⟩
theorem aci{ak:cc}{eb f2:cc->cc->ae->Nat->Prop}{K:cc->ae->Nat->Prop}(h:kq g ak (λak=>∃p h n,K p h n/\eb ak p h n) (λak=>∃p h n,K p h n/\f2 ak p h n)):∃p h n,K p h n/\kq g ak (λak=>eb ak p h n) (λak=>f2 ak p h n):=by
 cases g with
 |none=>exact h
 |some g =>
  obtain⟨t,w⟩:=g;simp only[kq]at h ⊢
  split at h
  ·rcases tb h with⟨rfl,h⟩|⟨rfl,h⟩ <;> cases w <;> exact h
  ·exact h
  ·exact h.elim
theorem Qb:∀{l:aa lM} {ak:cc} {h:ae} {U:Nat} {k:cc->ae->Nat->Prop},pQ P true l ak h U k->∃C A Y,k C A Y/\pQ P false l ak h U (vk C A Y)
 | [],_,_,_,_,D=>⟨_,_,_,D,rfl,rfl,rfl⟩
 |i::l,ak,h,U,k,D=>by rw[Jv]at D;simp only[Jv];refine aci (eb:=λak p A n=>nq P false i.d i.k ak h U λak h U=>pQ P false l ak h U (vk p A n)) (f2:=λak p A n=>pQ P false l (eu ak i.d none) h U (vk p A n)) (B6 D (λ_ h=>?_) (λ_ h=>Qb (l:=l) h));obtain⟨p,h1,bh,hk,bp⟩:=asY h;obtain⟨N,V,bX,I,E⟩:=Qb (l:=l) hk;exact⟨N,V,bX,I,OY bp λ_ _ _ ⟨aV,Z,M⟩=>by rw[aV,Z,M];exact E⟩
theorem zG:∀{l:aa lM} {ak:cc} {h:ae} {U:Nat} {b:ae} {ap:aa ae} {k:cc->ae->Nat->Prop},h4 P l ak h U b ap k->∃Z A Y,k Z A Y/\h4 P l ak h U b ap (vk Z A Y)
 | [],_,_,_,_,_,_,E=>⟨_,_,_,E,rfl,rfl,rfl⟩
 |i::l,ak,h,U,b,ap,k,E=>by
  rw[OX]at E;simp only[OX];refine aci (eb:=λak p A n=>mH P i.d i.c i.k ak h U b ap λak h U b ap=>h4 P l ak h U b ap (vk p A n)) (f2:=λak p A n=>if i9 i.k=true then h4 P l (eu ak i.d none) h U h (b::ap) (vk p A n)else h4 P l (eu ak i.d none) h U b ap (vk p A n)) (B6 E (λak C=>?_) (λak C=>?_))
  ·cases hk:i.k with
   |fu e =>
    rw[hk]at C;have fin:∀v,pv P ak e = .ok v->h4 P l (eu ak i.d (some v)) h U b ap k->∃p A n,k p A n/\mH P i.d i.c (.fu e) ak h U b ap λak h U b ap=>h4 P l ak h U b ap (vk p A n):=λv I D=>by
     obtain⟨p,A,n,V,M⟩:=zG (l:=l) D;refine⟨p,A,n,V,?_⟩;cases e
     case pick c x y =>
      simp only[pv]at I;obtain⟨c,bB,I⟩:=R.e7 I;obtain⟨a,g2,I⟩:=R.e7 I;obtain⟨b,dj,I⟩:=R.e7 I;simp only[mH,bB,g2,dj];cases c with
      |bool t=>cases t <;> cases I <;> exact M
      |_=>cases I
     all_goals (simp only[mH,Mi,id];first|(rw[I];exact M)|(simp only[pv]at I;rw[I];exact M))
    have C:∃v,pv P ak e = .ok v/\h4 P l (eu ak i.d (some v)) h U b ap k:=by
     cases e
     case pick =>
      obtain⟨c,V,E⟩:=f1 C;obtain⟨a,M,E⟩:=f1 E;obtain⟨b,N,E⟩:=f1 E;rcases tb E with⟨rfl,E⟩|⟨rfl,E⟩
      ·exact⟨a,by simp[pv,V,M,N,R.bind,F6],E⟩
      ·exact⟨b,by simp[pv,V,M,N,R.bind,F6],E⟩
     all_goals exact f1 C
    obtain⟨v,I,D⟩:=C;exact fin v I D
   |ic e =>
    rw[hk]at C;obtain⟨v,V,D⟩:=f1 C;obtain⟨p,A,n,M,N⟩:=zG (l:=l) D;exact⟨p,A,n,M,by simp only[mH,d4,V];exact N⟩
   |red e =>
    rw[hk]at C;obtain⟨v,V,D⟩:=f1 C;have key:∃p A n,k p A n/\(h4 P l (eu ak i.d (some v)) h U b ap k->h4 P l (eu ak i.d (some v)) h U b ap (vk p A n)):=by
     have D:h4 P l (eu ak i.d (some v)) h U b ap k:=by
      cases aZ:i.c <;> rw[aZ]at D
      ·exact D
      ·exact(P7 D).2
     obtain⟨p,A,n,M,N⟩:=zG (l:=l) D;exact⟨p,A,n,M,λ_=>N⟩
    obtain⟨p,A,n,M,N⟩:=key;refine⟨p,A,n,M,?_⟩;simp only[mH,V];have bL:∀{f:ae->R X} {p q:Prop} (_:p->q) {n:Nat} {ap:aa ae},oL f v p n ap->oL f v q n ap:=λ{f p q} GW {n}=>by
     induction n with
     |zero=>intro ap h;exact GW h
     |succ n eO=>intro ap h;cases ap with
      |nil=>exact h
      |cons x xs=>exact⟨h.1,eO h.2⟩
    cases aZ:i.c <;> rw[aZ]at D
    ·exact N D
    ·exact bL N D
   |fv e =>
    rw[hk]at C;rw[Fs]at C;obtain⟨v,V,bh,⟨dR,D⟩,_,bE⟩:=P9 C;obtain⟨p,A,n,M,N⟩:=zG (l:=l) D;exact⟨p,A,n,M,by rw[Fs];exact bE _ ⟨dR,N⟩⟩
  ·split at C <;> rename_i e
   ·simp only[if_pos e];exact zG (l:=l) C
   ·simp only[if_neg e];exact zG (l:=l) C
theorem Qc:∀(c:ko) {i:Nat} {ak:cc} {h:ae} {U:Nat} {N:iK} {E:aa (Nat × iK)} {R:iK},hR P true eV c i ak h U N E R ->
  ∃x p ac n,HN N E R x p ac n/\∀C I D,HN C I D x p ac n->hR P false eV c i ak h U C I D:=by
 intro c
 induction c with
 |skip=>intro i ak h U N E R A;exact⟨.normal,_,_,_,A,λ_ _ _ h=>h⟩
 |exit id=>intro i ak h U N E R A;exact⟨.exit id,_,_,_,A,λ_ _ _ h=>h⟩
 |ret=>intro i ak h U N E R A;exact⟨.ret,_,_,_,A,λ_ _ _ h=>h⟩
 |scope c eO=>intro i ak h U N E R A;exact eO A
 |tg l=>intro i ak h U N E R A;obtain⟨p,V,n,ar,aL⟩:=Qb A;exact⟨.normal,p,V,n,ar,λ_ _ _ M=>Jw aL λ_ _ _ ⟨aV,aP,ch⟩=>by rw[aV,aP,ch];exact M⟩
 |CT l=>intro i ak h U N E R A;obtain⟨p,V,n,ar,aL⟩:=zG A;exact⟨.normal,p,V,n,ar,λ_ _ _ M=>Ft aL λ_ _ _ ⟨aV,aP,ch⟩=>by rw[aV,aP,ch];exact M⟩
 |no=>intro i ak h U N E R A;exact A.elim
 |wZ f cb a b =>
  intro i ak h U N E R A;obtain⟨v,aJ,A⟩:=f1 A;unfold tu at A
  split at A
  ·obtain⟨v1,V,bh,⟨st,p,lK,AA,eg,cd,bB,g2,dj⟩,aZ⟩:=A;have up:∀(C D:iK) ,((p=none/\C ak (T V U (.loop 3 p lK AA eg cd)) bh)\/(p=some .ret/\D ak (T V U (.loop 3 p lK AA eg cd)) bh))->∀I,hR P false eV (.wZ f cb a b) i ak h U C I D:=λC D M I=>by simp only[hR,aJ];refine kV.mono aZ ?_;rintro _ _ _ ⟨rfl,rfl,rfl⟩;exact⟨st,p,lK,AA,eg,cd,bB,g2,M⟩
   rcases dj with⟨e,dj⟩|⟨e,dj⟩
   ·exact⟨.normal,_,_,_,dj,λC I D M=>up C D (.inl ⟨e,M⟩) I⟩
   ·exact⟨.ret,_,_,_,dj,λC I D M=>up C D (.inr ⟨e,M⟩) I⟩
  ·exact A.elim
 |seq a b wD wE =>
  intro i ak h U N E R A;obtain⟨x,p,V,bh,M,bp⟩:=wD A;cases x with
  |normal =>
   obtain⟨x,k2,ar,bX,ei,hd2⟩:=wE M;exact⟨x,k2,ar,bX,ei,λC I D Z=>bp _ I D (hd2 C I D Z)⟩
  |exit j=>exact⟨.exit j,p,V,bh,M,λC I D Z=>bp _ I D Z⟩
  |ret=>exact⟨.ret,p,V,bh,M,λC I D Z=>bp _ I D Z⟩
 |block id c eO =>
  intro i ak h U N E R A;obtain⟨x,p,V,bh,M,bp⟩:=eO A;cases x with
  |normal=>exact⟨.normal,p,V,bh,M,λC I D Z=>bp C _ D Z⟩
  |ret=>exact⟨.ret,p,V,bh,M,λC I D Z=>bp C _ D Z⟩
  |exit j =>
   have M:(bif Nat.beq id j then N else jW E j) p V bh:=M;cases aT:Nat.beq id j <;> rw[aT]at M
   ·exact⟨.exit j,p,V,bh,M,λC I D Z=>bp C ((id,C)::I) D (by show(bif Nat.beq id j then C else jW I j) p V bh;rw[aT];exact Z)⟩
   ·exact⟨.normal,p,V,bh,M,λC I D Z=>bp C ((id,C)::I) D (by show(bif Nat.beq id j then C else jW I j) p V bh;rw[aT];exact Z)⟩
 |cond y a b wD wE =>
  intro i ak h U N E R A;cases y with
  |v v =>
   rcases tb A with⟨rfl,A⟩|⟨rfl,A⟩
   ·exact wD A
   ·exact wE A
  |t m =>
   simp only[hR]at A ⊢
   split at A
   ·rename_i v aJ
    rcases tb A with⟨rfl,A⟩|⟨rfl,A⟩
    ·obtain⟨x,p,V,bh,M,bp⟩:=wD A;exact⟨x,p,V,bh,M,λC I D Z=>bp C I D Z⟩
    ·obtain⟨x,p,V,bh,M,bp⟩:=wE A;exact⟨x,p,V,bh,M,λC I D Z=>bp C I D Z⟩
   ·exact A.elim
 |loop c eO =>
  intro i ak h U N E R A;obtain⟨aE,⟨eB,m,A8,et⟩,fq,_⟩:=v9 A;have key:∀m aE h U,eB m aE h U->∃x p ac n,x≠.normal/\HN N E R x p ac n/\∀C I D,HN C I D x p ac n->bD (λaE h U N E R=>hR P false eV c (i+1) (rc (ke eV i) aE 0) h U (th (ke eV i) N) (wi (ke eV i) E) (th (ke eV i) R)) aE h U (uX (ke eV i) c I) (GO (ke eV i) c D):=by
   intro m
   induction m using Nat.strongRecOn with
   |_ m ihm =>
    intro aE h U b1;obtain⟨x,p,V,bh,M,bp⟩:=eO (et m aE h U b1);cases x with
    |normal =>
     obtain⟨AC,⟨bC,cA,hj2⟩,ys,_⟩:=v9 M;obtain⟨x,nt,aL,bS,a1,e8,hd3⟩:=ihm bC cA AC V bh hj2;refine⟨x,nt,aL,bS,a1,e8,λC I D Z=>?_⟩;obtain⟨aBk,m1,SF,u6⟩:=hd3 C I D Z;refine⟨λk v g n=>(k=m1+1/\v=aE/\g=h/\n=U)\/(k<=m1/\aBk k v g n),m1+1,.inl ⟨rfl,rfl,rfl,rfl⟩,?_⟩;rintro k v g n (⟨rfl,rfl,rfl,rfl⟩|⟨dR,b1⟩)
     ·exact bp _ _ _ (ys _ ⟨m1,J,.inr ⟨J,SF⟩⟩)
     ·exact O0 c (u6 k v g n b1) (λ_ _ _ h=>B7 h λ_ ⟨bC,V,ar⟩=>⟨bC,V,.inr ⟨J,ar⟩⟩) (λ_ _ _ _ h=>h) (λ_ _ _ h=>h)
    |exit j =>
     obtain⟨AC,ei,ys,_⟩:=v9 (Jx M);refine⟨.exit j,_,_,_,by simp,(xC.1 ei).2,λC I D Z=>⟨λk v g n=>v=aE/\g=h/\n=U,0,⟨rfl,rfl,rfl⟩,?_⟩⟩;rintro k v g n ⟨rfl,rfl,rfl⟩;exact bp _ _ _ (OZ (ys _ (xC.2 ⟨(xC.1 ei).1,Z⟩)))
    |ret =>
     obtain⟨AC,ei,ys,_⟩:=v9 M;refine⟨.ret,_,_,_,by simp,(zx.1 ei).2,λC I D Z=>⟨λk v g n=>v=aE/\g=h/\n=U,0,⟨rfl,rfl,rfl⟩,?_⟩⟩;rintro k v g n ⟨rfl,rfl,rfl⟩;exact bp _ _ _ (ys _ (zx.2 ⟨(zx.1 ei).1,Z⟩))
  obtain⟨x,p,V,bh,a1,M,bp⟩:=key m aE h U A8;exact⟨x,p,V,bh,M,λC I D Z=>fq _ (bp C I D Z)⟩
end
section
variable {P:Program} {B:Nat} {ai:ca}
def Gx(tmps:Array X):ResultVar->Sem X
 | .tmp t=>pure (tmps.getD t undef)
 | .cell a t=>do loadVar t (<-asAddr (tmps.getD a undef))
theorem jf.ec{ak:cc}{tmps:Array X}(A:jf ai ak tmps){t:Nat}{v:X}(h:d2 ak (.t t) = .ok v):bA ai v (tmps.getD t undef):=
 (A.loc #[.tmp t]).ec (a:={ tmps:=tmps,defers:=[] }) (x:=.tmp t) (by simp) rfl h
theorem Jz{ak:cc}{h:ae}:∀{E:aa ResultVar} {k:aa X->Prop},x5 P ak h E k->∃l,k l/\(∀dm,dm l->x5 P ak h E dm) /\
  ∀{B:Nat} {ai:ca} {w:World} {tmps:Array X},jf ai ak tmps->d7 B ai (u h) w->∃C,dl ai l C/\(E.mapM (Gx tmps)).run P w = .ok C w
 | [],k,A=>⟨[],A,λ_ h=>h,λ_ _=>⟨[],.nil,rfl⟩⟩
 | .tmp t::E,k,A=>by obtain⟨v,D,A⟩:=f1 A;obtain⟨l,h1,ar,aL⟩:=Jz A;refine⟨v::l,h1,λdm hk=>by simp only[x5,D];exact ar _ hk,λI M=>?_⟩;obtain⟨C,eE,V⟩:=aL I M;exact⟨_::C,.cons (I.ec D) eE,by simp only[BI,Gx,Sem.run_bind,V,Result.andThen_ok,Sem.run_pure]⟩
 | .cell a t::E,k,A=>by obtain⟨v,D,A⟩:=f1 A;obtain⟨Z,dY,A⟩:=f1 A;obtain⟨bL,N,uZ⟩:=R.kR dY;obtain⟨l,h1,ar,aL⟩:=Jz A;refine⟨Z::l,h1,λdm hk=>by simp only[x5,D];exact(show af (R.of "type" (pj P t) λbL=>iH bL h v) _ by rw[dY];exact ar _ hk),λ{B ai w tmps} I M=>?_⟩;obtain⟨C,eE,V⟩:=aL I M;obtain⟨eg,e,c,bm,b3⟩:=OT M N uZ (I.ec D);exact⟨c::C,.cons b3 eE,by simp only[BI,Gx,e,asAddr,Sem.run_bind,Sem.run_pure,Result.andThen_ok,bm,V]⟩
theorem ahs{ak:cc}{U:Nat}{w:World}(eF:jf ai ak tmps)(N:d7 B ai (u h) w)(ap:r9 P fn.results.toList K ak h U):
  ∃v c,K v h U/\bA ai v c/\(results fn tmps).run P w = .ok c w:=by
 obtain⟨l,E,_,V⟩:=Jz ap;obtain⟨b6,h1,M⟩:=V eF N;have Z:(fn.results.mapM (Gx tmps)).run P w = .ok ⟨b6⟩ w:=by rw[Array.mapM_eq_mapM_toList];simp[M]
 have C:results fn tmps=(do
   let aE <-fn.results.mapM (Gx tmps)
   pure (if h:aE.size=1 then aE[0]else .tuple aE)):=by congr 1
 rw[C];simp only[Sem.run_bind,Z,Result.andThen_ok,Sem.run_pure];cases h1 with
 |nil=>exact⟨_,_,E,.tuple .nil,rfl⟩
 |cons A D =>
  cases D with
  |nil=>exact⟨_,_,E,A,rfl⟩
  |cons I D=>exact⟨_,_,E,.tuple (.cons A (.cons I D)),by simp⟩
theorem cx.beside{H hj:fk}{w:World}{bq:ca}(N:B<=gD.heap.size)(A:cx B ai H gD ao aj bq hj w){r:Nat}(V:gD.heap.size<=r)(C:¬wh B bq hj r)(o:Obj):
  cx B ai H gD ao aj bq hj { w with heap:=w.heap.setIfInBounds r o } where
 rel:=A.rel.world (by simp) λb p D ap=>by
  have I:r≠p.cm:=λe=>C ⟨b,p,D,ap,e.symm,J⟩
  grind
 agree:=A.agree
 size:=by simpa using A.size
 os:=A.os
 tape:=A.tape
 output:=A.output
 frame:=λk M E=>by simp only[y2];rw[if_neg J];exact A.frame k M E
 own:=A.own
 le:=A.le
theorem pn.beside{L:Nat}{H:fk}{w:World}{r:Nat}(o:Obj):∀{A:aa Deferred},(∀E∈A,E.target≠.collected r)->pn L B ai H w A->pn L B ai H { w with heap:=w.heap.setIfInBounds r o } A
 | [],_,_=>trivial
 |d::A,Z,⟨⟨q,C,N,V,I,M⟩,D⟩=>by
  refine⟨⟨q,C,N,?_,I,M⟩,pn.beside o ab D⟩
  grind
theorem agM{w:World}{A:aa Deferred}(h:w.heap[b]? = some (.deferred (some A))):
  (Instr.takeDeferred b).run P w = .ok A { w with heap:=w.heap.setIfInBounds b (.deferred none) }:=by have D:=qS (P:=P) h ab;have C:=ug (P:=P) (o:=.deferred none) h ab;simp[Instr.takeDeferred,D,C]
theorem NB{fn:Func}{tmps:Array X}{n:Nat}{V D:ae}{gD:World}{C Y:Nat}{bq:ca}{ak:cc}{K:bP}(Z:B<=gD.heap.size)(eF:jf bq ak tmps)(ap:r9 P fn.results.toList K ak D Y):
  ∀(E:aa Deferred) (w:World),pn gD.heap.size B bq (u D) w E->cx B ai (u V) gD C Y bq (u D) w ->
   LeavesInM Fence.wide n P fn tmps (Fin B ai V gD C K) E .returning w
 | [],w,_,I=>by obtain⟨v,c,hk,aJ,A⟩:=ahs  eF I.rel ap;exact⟨c,A,v,D,Y,bq,c,rfl,hk,aJ,I⟩
 |d::E,w,⟨⟨r,fq,ck,bV,N,bp⟩,M⟩,I=>by refine⟨by simp,.inl ⟨r,{ w with heap:=w.heap.setIfInBounds r (.deferred none) },ck,agM bV,?_⟩⟩;exact NB Z eF ap E _ (pn.beside _ bp M) (cx.beside Z I fq N _)
theorem V9{d:Nat}{v:aw X}:∀{args:aa X} {i:Nat},hc (xJ args i) d=some v->∃j A,args[j]? = some A/\d=i+j/\v=some A
 | [],i,h=>by cases h
 |x::args,i,h=>by
  have h:hc ((i,some x)::xJ args (i+1)) d=some v:=h;rw[ER]at h
  by_cases e:i=d
  ·rw[if_pos e]at h;cases h;exact⟨0,x,rfl,J,rfl⟩
  ·rw[if_neg e]at h;obtain⟨j,A,D,E,C⟩:=V9 h;exact⟨j+1,A,D,J,C⟩
theorem ajc{A:aa X}(h:dl ai args A)(k:Nat):jf ai (xJ args 0) ((⟨A⟩:Array X)++Array.replicate k undef):=by
 intro d v E;obtain⟨j,D,C,rfl,rfl⟩:=V9 E;obtain⟨c,M,I⟩:=h.get C;have C:((⟨A⟩:Array X)++Array.replicate k undef).getD (0+j) undef=c:=by
  simp only[p1]
  grind
 rw[C];exact I
theorem aht(C:n<=m)(a4:aa Oper)(h:vV n a4=true):vV m a4=true:=by
 simp only[vV,BF]at *
 intro o D;have:=h o D;cases A:o.dst with
 |none=>rfl
 |some d =>
  rw[A]at this;simp only[vB]at *
  omega
theorem ahf(D:n<=m):∀(c:Code),kM n c=true->kM m c=true:=by
 intro c
 induction c <;> intro h <;> simp only[kM,eC]at * <;> try trivial
 all_goals first
  |exact aht D _ h
  |(rename_i C A;exact ab)
  |(rename_i E;exact E h)
  |skip
 rename_i cb a b C A
 refine⟨⟨?_,ab⟩,A h.2⟩;simp only[BF,vB]at *
 grind
theorem kV.oR(gL:pF P){U:Nat}(M:ob P false eV f args h U K):kV P f args h U K:=by
 unfold ob at M
 split at M
 ·rename_i oc D
  unfold xI at D
  split at D
  ·rename_i fn A
   split at D
   ·rename_i c aT
    cases D;have A:P.funcs[f]? = some fn:=by rw[iS]at A;simpa using A
    refine⟨⟨fn,A,ab,gL.names f fn A⟩,λB ai w E V bK I n=>?_⟩;refine callsIn_of_wp_marks A aT trivial ?_;have N:fn.ntmps<=((⟨E⟩:Array X)++Array.replicate (fn.ntmps-(⟨E⟩:Array X).size) undef).size:=ab
    refine QX gL c M (L:=w.heap.size) (r:=none) ⟨V,bK,ajc I _,trivial,cD _⟩ (ahf N c (gL.fit f fn c A aT)) (.inl rfl) ?_;intro x oO ac Y bq eg a9 Z bl C _;cases x with
    |exit i=>exact Z.elim
    |normal=>exact NB V.base C.iC Z eg.defers a9 C.marks bl
    |ret=>exact NB V.base C.iC Z eg.defers a9 C.marks bl
   ·cases D
  ·cases D
 ·exact M.elim
theorem aH.oR(Z:pF P){s:al}{f:FuncId}{args:aa X}{h:ae}{U:Nat}{K:bP}(eV:aa (aa Nat))(bV:ob P s eV f args h U K):aH P s f args h U K:=by
 cases s with
 |false=>exact kV.oR Z bV
 |true =>
  have A:=bV;unfold ob at A
  split at A
  ·rename_i N E
   obtain⟨x,p,D,C,I,V⟩:=Qc _ A;have up:r9 P N.res K p D C->(∀l,r9 P N.res (tA (CZ l) D C) p D C->ob P false eV f args h U (tA (CZ l) D C))->aH P true f args h U K:=λa5 dY=>by obtain⟨l,ar,aL,_⟩:=Jz a5;exact⟨_,D,C,ar,kV.oR Z (dY l (aL _ ⟨rfl,rfl,rfl⟩))⟩
   cases x with
   |exit i=>exact I.elim
   |normal=>exact up I λl M=>by unfold ob;rw[E];exact V _ _ _ M
   |ret=>exact up I λl M=>by unfold ob;rw[E];exact V _ _ _ M
  ·exact A.elim
def CJ:aa Nat->aa X->cc->cc
 |p::cb,v::aE,ak=>CJ cb aE ((p,some v)::ak)
 |_,_,ak=>ak
theorem Yk{ai:ca}:∀{cb:aa Nat} {args A:aa X} {ak:cc} {t:Array X},dl ai args A->jf ai ak t->(∀q∈cb,q<t.size) ->
  jf ai (CJ cb args ak) ((cb.zip A).foldl (λtmps (t,a)=>tmps.setIfInBounds t a) t)/\((cb.zip A).foldl (λtmps (t,a)=>tmps.setIfInBounds t a) t).size=t.size
 | [],_,_,ak,t,_,C,_=>by simpa[CJ]using C
 |q::cb,[],_,ak,t,.nil,C,_=>by simpa[CJ]using C
 |q::cb,v::args,_,ak,t,.cons (y:=c) N M,C,I=>by
  have D:=I q (by simp);have V:jf ai ((q,some v)::ak) (t.setIfInBounds q c):=by have:=jf.put (a:={ tmps:=t,defers:=[] }) (dst:=some q) (v:=some v) C N ab;exact this
  obtain⟨E,Z⟩:=Yk (cb:=cb) M V ab;simp only[CJ,List.zip_cons_cons,Es];exact⟨E,ab⟩
def Ux(l:Nat)(ak:cc)(cb:aa Nat)(a b:Code)(st:Nat)(p:aw Code)(r:al)(K:bP):iK:=λ_ h U=>∃gm ew,u h l=some (.loop gm ew ak cb a b)/\K (.bool r) (T h l (.loop st p ak cb a b)) U
def A9(P:Program)(s:al)(vi oa:aa (aa Nat))(l:Nat)(args:aa X)(ak:cc)(cb:aa Nat)(a b:Code)(h:ae)(U:Nat)(K:bP):Prop :=
 hR P s vi (comp P a) 0 (CJ cb args ak) h U (λSG h1 bh=>∃ew,u h1 l=some (.loop 0 ew ak cb a b) /\
  hR P s oa (comp P b) 0 SG (T h1 l (.loop 1 ew ak cb a b)) bh (Ux l ak cb a b 0 none true K) [] (Ux l ak cb a b 2 (some .ret) false K)) [] (λ_ _ _=>False)
theorem tt.oR(gL:pF P){l:Nat}{U:Nat}{p:aw Code}{ak:cc}{a b:Code}(a6:u h l=some (.loop st p ak cb a b))(fW:args.length=cb.length)(tS:lj a=true)(qG:lj b=true)(ap:A9 P false vi oa l args ak cb a b h U K):tt P l args h U K:=by
 intro B ai w V p a5 bK N bb;obtain⟨E,et,bV,iY,hpd,u4,KH,RD,RE,Dv,rn,yr⟩:=a5.Jy bb a6;refine⟨E,bV,by rw[<-N.length,fW,<-KH];simp,λn=>?_⟩;obtain⟨axF,azT⟩:=Yk  N u4 yr;have avr:(E.params.zip ⟨V⟩).foldl (λtmps (t,a)=>tmps.setIfInBounds t a) E.tmps=(cb.zip V).foldl (λtmps (t,a)=>tmps.setIfInBounds t a) E.tmps:=by rw[<-KH,<-y7];simp
 rw[avr];subst RD RE;refine roundIn_of_wpIn trivial ?_;refine QX gL E.assign ap (L:=w.heap.size) (r:=some p.cm) ⟨a5,bK,axF,trivial,cD _⟩ ab (.inr tS) ?_;intro x SG h1 kC sm aB dc hk bl D RH;cases x with
 |exit i=>exact hk.elim
 |ret=>exact hk.elim
 |normal =>
  obtain⟨pd1,qv,hk⟩:=hk;have oM:=(bK.sub bl) _ _ bb;obtain⟨I,u6,Lk,KG,axG,axH,avs,avt,avu,axI,axJ,axK⟩:=bl.rel.Jy oM qv;have asZ:I.state = .ready:=by
   cases SH:I.state <;> rw[SH]at KG <;> first|rfl|cases KG
  have u5:=Nf (P:=P) Lk;have Z:=ug (P:=P)  (o:=.loop { I with state:=.busy }) Lk ab;have hbr:(Instr.beginRound p.cm).run P dc = .ok () { dc with heap:=dc.heap.setIfInBounds p.cm (.loop { I with state:=.busy }) }:=by simp only[Instr.beginRound,Sem.run_bind,u5,Z,Result.andThen_ok,asZ,Sem.run_pure]
  have C:cx B sm (u h1) dc kC kC sm (u (T h1 l (.loop 1 pd1 ak cb E.assign E.body))) { dc with heap:=dc.heap.setIfInBounds p.cm (.loop { I with state:=.busy }) }:=
   cx.set bl.rel kC oM qv u6 ab λa9 pC=>⟨u6,_,pC,rfl,axG,axH,avs,avt,avu,axI,axJ,axK⟩
  refine⟨_,hbr,?_⟩;have axL:=bl.trans C;have afN:od w.heap.size B sm SG (T h1 l (.loop 1 pd1 ak cb E.assign E.body)) kC aB { dc with heap:=dc.heap.setIfInBounds p.cm (.loop { I with state:=.busy }) }:=
   ⟨C.rel,D.e9,D.iC,D.marks.hP C,hy D.low C.size⟩
  refine QX gL E.body hk afN (r:=some p.cm) ab (.inr qG) ?_;intro x pe2 ar M SI a2 db ei ro azU _;have tw:=(afN.e9.sub ro) _ _ oM;have fin:∀(A:aw Code) (st:Nat) (s:LoopState),Sg s=st->(if A.isNone then LoopState.ready else LoopState.done)=s->Ux l ak cb E.assign E.body st A A.isNone K pe2 ar M ->
    ∃v a9,(Instr.endRound p.cm A).run P db = .ok v a9/\Fin B ai h w U K (.returned v) a9:=by
   rintro A st s ap b1 ⟨st3,pd3,qw,ht⟩;obtain⟨lp3,hB3,AB,azV,azW,axM,avv,avw,avx,axN,axO,axP⟩:=ro.rel.Jy tw qw;have axQ:=Nf (P:=P) AB;subst b1;have Z:=ug (P:=P)  (o:=.loop { lp3 with state:=if A.isNone then .ready else .done,pending:=A }) AB ab;have KI:cx B SI (u ar) db M M SI (u (T ar l (.loop st A ak cb E.assign E.body))) { db with heap:=db.heap.setIfInBounds p.cm (.loop { lp3 with state:=if A.isNone then .ready else .done,pending:=A }) }:=
    cx.set ro.rel M tw qw hB3 ab λa9 pC=>⟨hB3,_,pC,ap,rfl,axM,avv,avw,avx,axN,axO,axP⟩
   refine⟨.bool A.isNone,_,?_,.bool A.isNone,_,M,SI,_,rfl,ht,.bool _,(axL.trans ro).trans KI⟩;simp only[Instr.endRound,Sem.run_bind,axQ,Z,Result.andThen_ok,Sem.run_pure]
  cases x with
  |normal=>exact fin none 0 _ rfl rfl ei
  |ret=>exact fin (some .ret) 2 _ rfl rfl ei
  |exit i=>exact ei.elim
theorem lN.oR(V:pF P){s:al}{vi oa:aa (aa Nat)}{l:Nat}{args:aa X}{h:ae}{U:Nat}{K:bP}{st:Nat}{p:aw Code}{ak:cc}{cb:aa Nat}{a b:Code}(M:u h l=some (.loop st p ak cb a b))(A:args.length=cb.length)
  (tS:lj a=true) (qG:lj b=true) (ap:A9 P s vi oa l args ak cb a b h U K):lN P s l args h U K:=by
 cases s with
 |false=>exact tt.oR V M A tS qG ap
 |true =>
  obtain⟨x,cp,h1,bh,I,bp⟩:=Qc _ ap;cases x with
  |exit i=>exact I.elim
  |ret=>exact I.elim
  |normal =>
   obtain⟨ew,bB,I⟩:=I;obtain⟨x,k2,ar,bX,C,E⟩:=Qc _ I;cases x with
   |exit i=>exact C.elim
   |normal =>
    obtain⟨D,Z,g2,N⟩:=C;exact⟨_,_,_,N,tt.oR V M A tS qG (bp _ _ _ ⟨ew,bB,E _ _ _ ⟨D,Z,g2,rfl,rfl,rfl⟩⟩)⟩
   |ret =>
    obtain⟨D,Z,g2,N⟩:=C;exact⟨_,_,_,N,tt.oR V M A tS qG (bp _ _ _ ⟨ew,bB,E _ _ _ ⟨D,Z,g2,rfl,rfl,rfl⟩⟩)⟩
end
def ix:Go.Ax.ae:=λ_=>none
@[simp] theorem I5(k:Nat):u ix k=none:=rfl
section
variable {P:Program} {s:al}
@[simp,grind =] theorem kW(h:ae)(b:Nat)(o:gh)(k:Nat):u (T h b o) k=if k=b then some o else u h k:=zk h b o k
@[simp] theorem e7{az e4:Type}(x:az)(f:az->R e4):R.bind (.ok x) f=f x:=rfl
@[simp] theorem azA(w:String)(f:az->R e4):R.bind (.no w) f = .no w:=rfl
@[simp] theorem Fv{az e4:Type}(w:String)(x:az)(f:az->R e4):R.of w (some x) f=f x:=rfl
@[simp] theorem azB(w:String)(f:az->R e4):R.of w none f = .no w:=rfl
@[simp] theorem azt(v:X):CZ [v]=v:=rfl
@[simp] theorem azu(v w:X)(l:aa X):CZ (v::w::l) = .tuple ⟨v::w::l⟩:=rfl
@[simp] theorem Yl(A:Nat)(C:aw Nat)(l:aa X):x3 A C (.agg ⟨l⟩)=h0 C A l:=rfl
@[simp] theorem NC{e4:Type}(a:Addr)(k:Addr->R e4):zP (.pointer (some a)) k=k a:=rfl
@[simp] theorem Ym(b o:Nat)(A:aw Nat)(n:Nat):CD ⟨b,o,A⟩ n = .pointer (some ⟨b,o+n,none⟩):=rfl
@[simp] theorem Wa(a:Addr):bs (.pointer (some a)) = .ok (.pointer (some a)):=rfl
@[simp] theorem Vo(l:aa X)(i:Nat):cy (.tuple ⟨l⟩) i=R.of "extract" (l[i]?) (λv=>.ok v):=by show R.of "extract" (gU l i) _=_;rw[iS]
@[simp] theorem azv(k:IntKind)(n:Nat)(f:Nat->R e4):rb (.int k (n:Int)) f=f n:=rfl
@[simp] theorem azo(k:IntKind)(n:Nat)(f:Nat->R e4):rb (.int k (.ofNat n)) f=f n:=rfl
@[simp] theorem azw(k:IntKind)(n:Nat)(f:Nat->R e4):rb (.int k (OfNat.ofNat n:Int)) f=f n:=rfl
@[simp] theorem azr(k:IntKind)(f:Nat->R e4):rb (.int k 0) f=f 0:=rfl
@[simp] theorem azx(k:IntKind)(f:Nat->R e4):rb (.int k 1) f=f 1:=rfl
@[simp] theorem WY(s:Nat)(b o:Nat)(A:aw Nat)(len cap i:Nat):xt (.slice s) (.slice (some ⟨b,o,A⟩) len cap) i=if i<len then .ok (.pointer (some ⟨b,o+i*s,none⟩))else .no "index" := by
 show(bif Nat.blt i len then _ else _)=_;rw[ov]
 by_cases h:i<len <;> simp[h] <;> rfl
@[simp] theorem WZ(n s:Nat)(b o:Nat)(A:aw Nat)(i:Nat):xt (.array n s) (.pointer (some ⟨b,o,A⟩)) i=if i<n then .ok (.pointer (some ⟨b,o+i*s,none⟩))else .no "index" := by
 show(bif Nat.blt i n then _ else _)=_;rw[ov]
 by_cases h:i<n <;> simp[h] <;> rfl
theorem apk{op:BinOp}{t:TypeId}{A C:IntKind}{a b:Int}(ap:xB op=false)(D:mc A C=true):bin P op t (.int A a) (.int C b)=Dj op A a b:=by
 show zY op A a C b=_;unfold zY
 grind
theorem r6(op:BinOp)(t:TypeId)(k:IntKind)(a b:Int)(ap:xB op=false):bin P op t (.int k a) (.int k b)=Dj op k a b:=apk ap (vH k)
@[simp] theorem O1(t:TypeId)(k:IntKind)(a b:Int):bin P .add t (.int k a) (.int k b) = .ok (.int k (k.wrap (a+b))):=by rw[r6 _ _ _ _ _ rfl,<-nL];rfl
@[simp] theorem aad(t:TypeId)(k:IntKind)(a b:Int):bin P .sub t (.int k a) (.int k b) = .ok (.int k (k.wrap (a-b))):=by rw[r6 _ _ _ _ _ rfl,<-nL];rfl
@[simp] theorem JA(t:TypeId)(k:IntKind)(a b:Int):bin P .lss t (.int k a) (.int k b) = .ok (.bool (decide (a<b))):=by rw[r6 _ _ _ _ _ rfl,<-qX];rfl
@[simp] theorem aae(t:TypeId)(k:IntKind)(a b:Int):bin P .leq t (.int k a) (.int k b) = .ok (.bool (!decide (b<a))):=by rw[r6 _ _ _ _ _ rfl,<-qX];rfl
@[simp] theorem aaf(t:TypeId)(k:IntKind)(a b:Int):bin P .gtr t (.int k a) (.int k b) = .ok (.bool (decide (b<a))):=by rw[r6 _ _ _ _ _ rfl,<-qX];rfl
@[simp] theorem aag(t:TypeId)(k:IntKind)(a b:Int):bin P .geq t (.int k a) (.int k b) = .ok (.bool (!decide (a<b))):=by rw[r6 _ _ _ _ _ rfl,<-qX];rfl
@[simp] theorem aah(t:TypeId)(k:IntKind)(a b:Int):bin P .eql t (.int k a) (.int k b) = .ok (.bool (a == b)):=by rw[r6 _ _ _ _ _ rfl,<-kN];rfl
@[simp] theorem aai(t:TypeId)(k:IntKind)(a b:Int):bin P .neq t (.int k a) (.int k b) = .ok (.bool (!(a == b))):=by rw[r6 _ _ _ _ _ rfl,<-kN];rfl
@[simp] theorem acj(b:al):dr .not (.bool b) = .ok (.bool (!b)):=rfl
@[simp] theorem Yn(k dm:IntKind)(n:Int):qe (.int dm) (.int k n) = .ok (.int dm (dm.wrap n)):=by rw[<-nL];rfl
theorem Ng{t:TypeId}{x:Addr}(A:vO P t=true):bin P .neq t (.pointer (some x)) (.pointer none) = .ok (.bool true):=by show R.of "compared" (oG P t (.pointer (some x)) (.pointer none)) _=_;unfold oG;simp[A,Gp,nP]
theorem pc{t:TypeId}{x:Addr}(A:vO P t=true):bin P .eql t (.pointer (some x)) (.pointer none) = .ok (.bool false):=by show R.of "compared" (oG P t (.pointer (some x)) (.pointer none)) _=_;unfold oG;simp[A,Gp,nP]
@[simp] theorem Wb(a:aw Addr)(n c:Nat):z0 (.slice a n c) = .ok (n:X):=rfl
theorem vD{A:al}(C:u h b=some (.cells cs A))(k:aa X->al->R e4):cellsOf h b k=k cs A:=by unfold cellsOf;rw[C]
@[simp] theorem W0(A:Nat)(cs:aa X):h0 none A cs=CC (cs[A]?):=by show CC (gU cs A)=_;rw[iS]
@[simp] theorem Wc(v:X):CC (some v) = .ok v:=rfl
@[simp] theorem azp:CC none = .no "load - out of block" := rfl
@[simp] theorem p6(n A:Nat)(cs:aa X):h0 (some n) A cs=if n<=cs.length-A then .ok (.agg ⟨(cs.drop A).take n⟩)else .no "load - out of block" := by
 show J9 (na n (m6 cs A))=_;rw[rW,q1,Ep]
 by_cases h:n<=cs.length-A <;> simp[h,J9]
end
def Co:aa MapEntry->Prop:=List.Pairwise (λa b=>a.born<b.born)
theorem apl(seen:aa Nat)(b:Nat):seen.any (Nat.beq b)=decide (b∈seen):=by
 rw[zc,xk];simp only[MS];constructor
 ·rintro⟨x,C,A⟩;rw[gG A];omega
 ·intro h;exact⟨b,h,ua b⟩
theorem uf(seen:aa Nat)(e:MapEntry)(A:aa MapEntry):leftOf seen (e::A)=if e.born∈seen then leftOf seen A else e::leftOf seen A:=by
 show(bif seen.any (Nat.beq e.born)then _ else _)=_;rw[apl]
 grind
theorem M0:∀(A:aa MapEntry),leftOf [] A=A
 | []=>rfl
 |e::A=>by rw[uf];simp[M0 A]
theorem EM{seen:aa Nat}:∀{A:aa MapEntry} {e:MapEntry},e∈leftOf seen A->e∈A/\e.born ∉ seen
 | [],e,h=>by cases h
 |x::A,e,h=>by
  rw[uf]at h
  by_cases C:x.born∈seen
  ·rw[if_pos C]at h;obtain⟨E,D⟩:=EM h
   grind
  ·rw[if_neg C]at h;rcases g5.1 h with rfl|h
   ·grind
   ·obtain⟨E,D⟩:=EM h
    grind
theorem VA{seen:aa Nat}{b:Nat}:∀{A:aa MapEntry},(∀e∈A,e.born≠b)->leftOf (seen++[b]) A=leftOf seen A
 | [],_=>rfl
 |x::A,h=>by
  rw[uf,uf,VA ab]
  grind
theorem Nh{seen:aa Nat}:∀{A:aa MapEntry} {e:MapEntry},Co A->e∈leftOf seen A->(leftOf seen A).Perm (e::leftOf (seen++[e.born]) A)
 | [],e,_,h=>by cases h
 |x::A,e,E,h=>by
  have I:∀y∈A,x.born<y.born:=λy M=>sR E M;have C:Co A:=MK E;rw[uf]at h
  by_cases D:x.born∈seen
  ·rw[if_pos D]at h;rw[uf,if_pos D,uf,if_pos ab];exact Nh C h
  ·rw[if_neg D]at h;rw[uf,if_neg D,uf];rcases g5.1 h with rfl|h
   ·rw[if_pos (by simp),VA ab]
   ·have N:=EM h;rw[if_neg ab];exact((Nh C h).cons x).trans (List.Perm.swap ..)
theorem W1:∀{A:aa MapEntry} {e:MapEntry},Co A->e∈A->CE e.born A=some e
 | [],e,_,h=>by cases h
 |x::A,e,C,h=>by
  show(bif Nat.beq x.born e.born then some x else CE e.born A)=some e;rcases g5.1 h with rfl|h
  ·rw[ua];rfl
  ·have E:x.born<e.born:=sR C h;have:Nat.beq x.born e.born=false:=by
    cases D:Nat.beq x.born e.born with
    |false=>rfl
    |true=>have:=gG D;omega
   rw[this];exact W1 (MK C) h
theorem W2:∀(l:aa Nat) (b:Nat),F7 (l++[b])=some b
 | [],b=>rfl
 | [x],b=>rfl
 |x::y::l,b=>W2 (y::l) b
theorem W3{E r A D:Nat}{C:aa MapEntry}{e:MapEntry}(aj:u h E=some (.iter (some r) A (seen++[e.born]) D))(M:u h r=some (.map C D))(N:Co C)(I:e∈C):
  vU h (bd E) = .ok (.tuple #[e.key,e.val]):=by unfold vU kQ;simp only[NC,show Nat.beq 0 0=true from rfl,p5,aj,M,ua,W2,W1 N I,Fv]
@[simp] theorem zS{az:Type}(v:az)(k:az->Prop):af (.ok v) k↔k v:=Iff.rfl
@[simp] theorem aem{az:Type}(w:String)(k:az->Prop):af (.no w) k↔False:=Iff.rfl
section
variable {ai bq:ca}
mutual
theorem bA.back(ap:Sub ai bq):∀{v V c:X},bA ai v V->bA bq v c->bA ai v c
 |_,_,_,.bool b,.bool _=>.bool b
 |_,_,_,.int k n,.int _ _=>.int k n
 |_,_,_,.string s,.string _=>.string s
 |_,_,_,.FP,.FP=>.FP
 |_,_,_,.ptr h,.ptr A=>by have e:=ap _ _ h;rw[e]at A;cases A;exact .ptr h
 |_,_,_,.qW l c,.qW _ _=>.qW l c
 |_,_,_,.kO h l c,.kO A _ _=>by have e:=ap _ _ h;rw[e]at A;cases A;exact .kO h l c
 |_,_,_,.ox h N l c,.ox A aV _ _=>by have e:=ap _ _ h;rw[e]at A;cases A;exact .ox h N l c
 |_,_,_,.oy b o g aX c,.oy _ _ I M c2=>.oy b o I M c2
 |_,_,_,.FQ,.FQ=>.FQ
 |_,_,_,.map h,.map A=>by have e:=ap _ _ h;rw[e]at A;cases A;exact .map h
 |_,_,_,.nilFunc,.nilFunc=>.nilFunc
 |_,_,_,.nilIface,.nilIface=>.nilIface
 |_,_,_,.func f Z E,.func _ C D=>.func f (dl.back ap Z C) (dl.back ap E D)
 |_,_,_,.yield h,.yield A=>by have e:=ap _ _ h;rw[e]at A;cases A;exact .yield h
 |_,_,_,.iface t h,.iface _ A=>.iface t (bA.back ap h A)
 |_,_,_,.agg h,.agg A=>.agg (dl.back ap h A)
 |_,_,_,.tuple h,.tuple A=>.tuple (dl.back ap h A)
theorem dl.back(ap:Sub ai bq):∀{v D c:aa X},dl ai v D->dl bq v c->dl ai v c
 |_,_,_,.nil,.nil=>.nil
 |_,_,_,.cons h t,.cons C A=>.cons (bA.back ap h C) (dl.back ap t A)
end
theorem pf.back(ap:Sub ai bq){cs:aa X}{c C:Array X}{A:Nat}(h:pf ai cs c A)(D:pf bq cs C A):pf ai cs C A:=λi v e=>by obtain⟨_,_,N⟩:=h i v e;obtain⟨I,M,E⟩:=D i v e;exact⟨I,M,bA.back ap N E⟩
theorem hm.back(ap:Sub ai bq):∀{C E A:aa MapEntry},hm ai C E->hm bq C A->hm ai C A
 |_,_,_,.nil,.nil=>.nil
 |_,_,_,.cons Z V _ t,.cons I D M N=>.cons (bA.back ap Z I) (bA.back ap V D) M (hm.back ap t N)
theorem pt.back(ap:Sub ai bq){m E A:aw Nat}(h:pt ai m E)(C:pt bq m A):pt ai m A:=by
 cases m with
 |none=>cases A <;> simp only[pt]at *
 |some r =>
  cases A with
  |none=>simp only[pt]at C
  |some M =>
   cases E with
   |none=>simp only[pt]at h
   |some V =>
    simp only[pt]at h C ⊢;obtain⟨q,I,_⟩:=h;obtain⟨N,D,e⟩:=C;rw[ap _ _ I]at D;grind
theorem l7.back{B:Nat}(ap:Sub ai bq){w a9:World}{p:Place}{o:gh}(h:l7 B ai w p o)(E:l7 B bq a9 p o):l7 B ai a9 p o:=by
 cases o with
 |cells cs bJ =>
  cases bJ with
  |true =>
   obtain⟨_,c,e,e9,_,I⟩:=h;obtain⟨D,M,d3,fr',A,C⟩:=E;exact⟨D,M,d3,fr',A,I.back ap C⟩
  |false =>
   obtain⟨_,_,c,e,ao,aj,_,_,bm,_⟩:=h;obtain⟨D,hS,M,d3,d6,V,A,C,sH,N⟩:=E;exact⟨D,hS,M,d3,d6,V,A,C,bm.back ap sH,N⟩
 |map es cE =>
  obtain⟨_,dg,_,I⟩:=h;obtain⟨D,es2,A,C⟩:=E;exact⟨D,es2,A,I.back ap C⟩
 |iter m Z seen st =>
  obtain⟨_,_,bC,_,I⟩:=h;obtain⟨D,hS,m2,A,C⟩:=E;exact⟨D,hS,m2,A,I.back ap C⟩
 |loop st Gm lK cb a b =>
  obtain⟨_,l,_,_,_,b3,_⟩:=h;obtain⟨D,dB,A,C,sH,N,aBl⟩:=E;exact⟨D,dB,A,C,sH,λd v e=>bA.back ap (b3 d v e) (N d v e),aBl⟩
end
section
variable {B:Nat} {ai bq:ca} {H hj:fk} {w a9:World} {U Y:Nat}
theorem cx.forget(C:d7 B ai H w)(E:j2 ai U)(A:cx B ai H w U Y bq hj a9)(M:∀b o,H b=some o->hj b=some o):cx B ai H w U U ai H a9 where
 rel:={
  base:=hy C.base A.size
  obj:=λb p o D I=>(C.obj b p o D I).back (E.sub A) (A.rel.obj b p o (E.sub A b p D) ab)
  inj:=C.inj
  mG:=C.mG }
 agree:=ab
 size:=A.size
 os:=A.os
 tape:=A.tape
 output:=A.output
 frame:=A.frame
 own:=ab
 le:=J
theorem cx.apm(Z:d7 B ai H w)(N:j2 ai U)(C:cx B ai H w U Y bq hj a9)(hk:∀b o,H b=some o->hj b=some o){p:Place}{o:gh}(aT:U<=b)(bk:bq b=some p)(eU:hj b=some o)(rj:l7 B (λk=>if k=U then some p else ai k) a9 p o):cx B ai H w U (U+1) (λk=>if k=U then some p else ai k) (λk=>if k=U then some o else H k) a9:=by
 have nT:Sub ai (λk=>if k=U then some p else ai k):=λk q A=>by
  by_cases e:k=U
  ·rw[e,N.here]at A;grind
  grind
 have cA:∀k,(H k).isSome->k<U:=λk ap=>by
  rcases jn k U with h|h
  ·exact h
  ·have:=Z.mG k ap;rw[N k h]at this;grind
 refine⟨⟨hy Z.base C.size,λk q x A M=>?_,λk dm q k0 A D ap E V bE=>?_,λk ap=>?_⟩,λk hk=>?_,C.size,C.os,C.tape,C.output,C.frame,λk h=>?_,J⟩
 ·by_cases e:k=U
  ·simp only[e,if_true]at A M;cases A;cases M;exact rj
  ·simp only[e,fa]at A M;exact((Z.obj k q x A M).back (N.sub C) (C.rel.obj k q x (N.sub C k q A) ab)).mono nT rfl
 ·by_cases e:k=U
  ·by_cases d3:dm=U
   ·omega
   ·exfalso;simp only[e,if_true]at A;simp only[d3,fa]at D E;cases A;have I:(hj dm).isSome:=by
     obtain⟨x,M⟩:=mX.1 E
     grind
    have:=C.rel.inj b dm p k0 bk (N.sub C dm k0 D) ab I V bE
    grind
  ·by_cases d3:dm=U
   ·exfalso;simp only[d3,if_true]at D;simp only[e,fa]at A ap;cases D;have I:(hj k).isSome:=by
     obtain⟨x,M⟩:=mX.1 ap
     grind
    have:=C.rel.inj k b q p (N.sub C k q A) bk I ab V bE
    grind
   ·simp only[e,fa]at A ap;simp only[d3,fa]at D E;exact Z.inj k dm q k0 A D ap E V bE
 ·by_cases e:k=U
  ·grind
  ·simp only[e,fa]at ap ⊢;exact Z.mG k ap
 ·grind
 ·obtain⟨dm,q,A,ap,rfl,V⟩:=h
  by_cases e:dm=U
  ·simp only[e,if_true]at A;cases A;rcases C.own p.cm ⟨b,p,bk,ab,rfl,V⟩with⟨hu,eG,h1,ar,aL,bm⟩|h
   ·exact .inl ⟨hu,eG,h1,ar,aL,bm⟩
   omega
  ·simp only[e,fa]at A ap;exact .inl ⟨dm,q,A,ap,rfl,V⟩
end
section
variable {P:Program}
theorem d7.fresh{B:Nat}{ai:ca}{H:fk}{w:World}{U:Nat}(C:d7 B ai H w)(A:j2 ai U):∀b,U<=b->H b=none:=λb D=>by
 cases E:H b with
 |none=>rfl
 |some o =>
  have:=C.mG b ab;rw[A b D]at this;grind
end
end Go.Ax
