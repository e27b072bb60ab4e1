/- Parts of the proof: Cm2: each statement bears its own conditions. -/
import Derived.Test.YthlhhajnbgjfmaaGreatRwCm1
namespace Go.Ax
open Go
set_option linter.all false
set_option maxHeartbeats 1000000
variable {cv:Array ak} {h:ad} {all:aa Oper} {p:Nat} {gp:World} {i:Nat} {eV:Type} {args:aa X} {d:av Nat} {eW:aa (aa Nat)} {L:aa Nat} {c:Nat} {iL:cd} {n:Nat} {seen:aa Nat} {j b:Nat} {aA:Type} {tmps:Array X} {k K:bD} {q:Nat} {cW:kT} {o:Oper} {t:eP} {Q:Exit->Act->World->Prop} {g:av (Nat × ak)} {aE:aa X} {wy ob:aa (aa Nat)} {bW:aa Nat} {v:X} {ar:aa ad} {e:wx} {f:FuncId} {cs:aa X} {a:Act} {st:Nat} {r:ff} {ao ai:Nat} {dp:bD} {l:aa lD} {body:Code} {m:Nat} {pl:Place} {sc:Code} {kr:Nat} {fn:Func} {sD:fs} {x y:ip}
def Hy(P:Program)(o:Oper):ak:=match pw P o.op with|some k=>iS k|none=>false
def ks(a8:aa Oper):aa Nat:=(Region.before ⟨a8⟩).toList
def oE(a8:List Oper)(o:Oper):List Nat :=
 o.dst.toList++(o.op.operands.toList.filterMap λ| .tmp t=>some t|_=>none) ++
 (match o.guard with|some (g,_)=>((g7 a8 g).bind (·.dst)).toList|none=>[])
def kJ(a:aa Nat)(j i:Nat):ak:=((g7 a j).getD 0).testBit i
def s1(P:Program)(a8:aa Oper)(i:Nat):ak:=((g7 a8 i).map (Hy P)).getD false
def LU(P:Program)(a8:aa Oper)(a:aa Nat)(before:aa Nat)(i:Nat):Nat:=(before.filter (λe=>s1 P a8 e&&!kJ a i e)).length
def AZ(P:Program)(a8:aa Oper)(a:aa Nat)(i j:Nat):ak :=
 !Nat.beq i j&&!kJ a i j &&
 (!s1 P a8 j||kJ a j i) &&
 (match g7 a8 i,g7 a8 j with
  |some x,some y=>kJ a j i||((x.dst.toList.all λd=>!(oE a8 y).contains d)&&(y.dst.toList.all λd=>!(oE a8 x).contains d))
  |_,_=>false)
theorem YB(look:Nat->Nat):∀(A:aa Edge) (s i:Nat),(A.foldl (λs e=>if Region.binds .any e then s ||| 2 ^ e.on ||| look e.on else s) s).testBit i=true ->
  s.testBit i=true\/∃e∈A,Region.binds .any e=true/\(e.on=i\/(look e.on).testBit i=true)
 | [],s,i,h=>.inl h
 |e::A,s,i,h=>by
  rw[FK]at h;rcases YB look A _ i h with h|⟨C,D,E⟩
  all_goals grind
def Good(pre:aa Oper)(acc:Array Nat):Prop:=acc.size=pre.length/\∀j i,(acc.getD j 0).testBit i=true ->
 ∃o e,pre[j]? = some o/\e∈o.after/\Region.binds .any e=true/\(e.on=i\/(e.on<j/\(acc.getD e.on 0).testBit i=true))
theorem Kh{A:Array Nat}{v:Nat}(h:j<A.size):(A.push v).getD j 0=A.getD j 0:=by simp[qN,Array.getElem?_push,Nat.ne_of_lt h]
theorem Zq:∀(I C:aa Oper) (A:Array Nat),Good C A ->
  Good (C++I) (I.foldl (λA o=>A.push (o.after.foldl (λs e=>if Region.binds .any e then s ||| 2 ^ e.on ||| A.getD e.on 0 else s) 0)) A)
 | [],C,A,h=>by simpa using h
 |o::I,C,A,⟨h1,al⟩=>by
  have:=Zq I (C++[o]) (A.push (o.after.foldl (λs e=>if Region.binds .any e then s ||| 2 ^ e.on ||| A.getD e.on 0 else s) 0)) ?_
  ·simpa using this
  refine⟨ab,λj i N=>?_⟩;rcases Au j A.size with V|V|V
  ·rw[Kh V]at N;obtain⟨aW,e,br,Z,E,M⟩:=al j i N;refine⟨aW,e,?_,Z,E,?_⟩
   ·grind
   ·rcases M with M|⟨M,gx⟩
    ·omega
    ·exact .inr ⟨M,by rw[Kh J];omega⟩
  ·subst V;have aI:(A.push (o.after.foldl (λs e=>if Region.binds .any e then s ||| 2 ^ e.on ||| A.getD e.on 0 else s) 0)).getD A.size 0=o.after.foldl (λs e=>if Region.binds .any e then s ||| 2 ^ e.on ||| A.getD e.on 0 else s) 0:=by simp[qN]
   rw[aI,<-Ar]at N;rcases YB (λk=>A.getD k 0) o.after.toList 0 i N with h|⟨e,br,Z,E⟩
   ·grind
   ·refine⟨o,e,ab,ab,Z,?_⟩;rcases E with E|E
    ·omega
    ·right
     have D:e.on<A.size:=ab
     exact⟨D,by rw[Kh D];omega⟩
  grind
theorem PB(a8:aa Oper)(j i:Nat):kJ (ks a8) j i=((Region.before ⟨a8⟩).getD j 0).testBit i:=by unfold kJ ks;rw[jr];simp[qN]
theorem amP{a8:aa Oper}(h:kJ (ks a8) j i=true):∃o e,a8[j]? = some o/\e∈o.after/\Region.binds .any e=true/\(e.on=i\/(e.on<j/\kJ (ks a8) e.on i=true)):=by
 rw[PB]at h;have A:Good a8 (Region.before ⟨a8⟩):=by have:=Zq a8 [] #[] ⟨rfl,λj i h=>ab⟩;unfold Region.before;rw[<-Ar];simpa using this
 obtain⟨o,e,E,C,D,I⟩:=A.2 j i h;exact⟨o,e,E,C,D,by rw[PB];omega⟩
theorem aaI(look:Nat->Nat):∀(A:aa Edge) (s:Nat),(∀i,s.testBit i=true->(A.foldl (λs e=>if Region.binds .any e then s ||| 2 ^ e.on ||| look e.on else s) s).testBit i=true) /\
  ∀e∈A,Region.binds .any e=true->(A.foldl (λs e=>if Region.binds .any e then s ||| 2 ^ e.on ||| look e.on else s) s).testBit e.on=true
 | [],s=>ab
 |x::A,s=>by
  obtain⟨C,D⟩:=aaI look A (if Region.binds .any x then s ||| 2 ^ x.on ||| look x.on else s)
  grind
theorem Zr:∀(E C:aa Oper) (A:Array Nat),A.size=C.length->(∀j o e,C[j]? = some o->e∈o.after->Region.binds .any e=true->(A.getD j 0).testBit e.on=true) ->
  ∀(j:Nat) (o:Oper) (e:Edge),(C++E)[j]? = some o->e∈o.after->Region.binds .any e=true ->
   ((E.foldl (λA o=>A.push (o.after.foldl (λs e=>if Region.binds .any e then s ||| 2 ^ e.on ||| A.getD e.on 0 else s) 0)) A).getD j 0).testBit e.on=true
 | [],C,A,_,h,j,o,e,V,N,I=>ab
 |x::E,C,A,M,h,j,o,e,V,N,I=>by
  refine Zr E (C++[x]) (A.push (x.after.foldl (λs e=>if Region.binds .any e then s ||| 2 ^ e.on ||| A.getD e.on 0 else s) 0)) ab (λj o e V N I=>?_) j o e ab N I;rcases Au j C.length with D|D|D
  ·rw[Kh J]
   grind
  ·have aR:x=o:=ab
   subst aR;have Z:(A.push (x.after.foldl (λs e=>if Region.binds .any e then s ||| 2 ^ e.on ||| A.getD e.on 0 else s) 0)).getD j 0=x.after.foldl (λs e=>if Region.binds .any e then s ||| 2 ^ e.on ||| A.getD e.on 0 else s) 0:=by rw[D,<-M];simp[qN]
   rw[Z,<-Ar];exact(aaI (λk=>A.getD k 0) x.after.toList 0).2 e ab I
  grind
theorem amQ{a8:aa Oper}{e:Edge}(D:a8[j]? = some o)(A:e∈o.after)(C:Region.binds .any e=true):kJ (ks a8) j e.on=true:=by
 rw[PB];have:=Zr a8 [] #[] rfl ab j o e ab A C;unfold Region.before
 grind
theorem YC{a8:aa Oper}{L:Nat->Prop}(C:∀j o e,L j->a8[j]? = some o->e∈o.after->Region.binds .any e=true->L e.on):∀(j:Nat),(∀o e,a8[j]? = some o->e∈o.after->Region.binds .any e=true->L e.on) ->
  ∀i,kJ (ks a8) j i=true->L i:=by
 intro j
 induction j using Nat.strongRecOn with
 |_ j ev =>
  intro bM i N;obtain⟨o,e,h1,I,M,A⟩:=amP N;have D:=bM o e h1 I M;rcases A with A|⟨A,E⟩
  ·rw[<-A];exact D
  ·exact ev e.on A (λaW ep Z V c3=>C e.on aW ep D Z V c3) i E
structure ur (P:Program) (a8:aa Oper) (bK:aa eP):Prop where
 step:∀(p:Nat) (s:eP),bK[p]? = some s->a8[s.i]? = some s.o/\pw P s.o.op=some s.k/\s.wa=LU P a8 (ks a8) ((bK.take p).map (·.i)) s.i
 cover:∀(i:Nat),i<a8.length->∃(p:Nat) (s:eP),bK[p]? = some s/\s.i=i
 inside:∀(j:Nat) (o:Oper) (e:Edge),a8[j]? = some o->e∈o.after->Region.binds .any e=true->e.on<j
 pair:∀(p q:Nat) (s t:eP),p<q->bK[p]? = some s->bK[q]? = some t->AZ P a8 (ks a8) s.i t.i=true
 len:bK.length=a8.length
theorem Tc(m k:Nat):la m k=m.testBit k:=by
 show Nat.beq ((m >>> k) &&& 1) 1=(1 &&& (m >>> k) != 0)
 rw[Nat.and_comm 1,J1];rcases Nat.mod_two_eq_zero_or_one (m >>> k)with h|h <;> rw[h] <;> rfl
theorem acy{C:aa Nat}{A:Array Nat}(E:A.toList=C):∀(D:aa Edge) (s:Nat),Mf C D s=D.foldl (λs e=>if Region.binds .any e then s ||| 2 ^ e.on ||| A.getD e.on 0 else s) s
 | [],s=>rfl
 |e::D,s=>by
  have I:(g7 C e.on).getD 0=A.getD e.on 0:=by rw[jr,<-E];simp[qN]
  show Mf C D _=_;rw[acy E D,FK,I];cases Region.binds .any e <;> rfl
theorem aaJ:∀(D:aa Oper) (C:aa Nat) (A:Array Nat),A.toList=C ->
  (D.foldl (λC o=>C.push (o.after.foldl (λs e=>if Region.binds .any e then s ||| 2 ^ e.on ||| C.getD e.on 0 else s) 0)) A).toList=LQ D C
 | [],C,A,h=>h
 |o::D,C,A,h=>by rw[FK];refine aaJ D _ _ ?_;rw[Array.toList_push,h,kk,acy h,<-Ar]
theorem akv(a8:aa Oper):LQ a8 []=ks a8:=by unfold ks Region.before;rw[<-aaJ a8 [] #[] rfl,<-Ar]
def xC(P:Program)(a8:aa Oper)(x:ip):Prop:=a8[x.i]? = some x.o/\pw P x.o.op=some x.k/\x.e=Hy P x.o/\x.Fm=D5 x.o.dst/\x.mf=TD a8 x.o/\g7 (ks a8) x.i=some x.am
theorem acz{P:Program}{all:aa Oper}:∀(C:aa Oper) (jw:aa Nat) (j:Nat) (D:aa ip),Mh P all j C jw=some D->(∀k o,C[k]? = some o->all[j+k]? = some o)->(∀k a,jw[k]? = some a->g7 (ks all) (j+k)=some a)->∀x∈D,xC P all x
 | [],jw,j,D,h,_,_,x,A=>by cases jw <;> cases h <;> cases A
 |o::C,[],j,D,h,_,_,x,A=>by cases h;cases A
 |o::C,a::jw,j,D,h,N,M,x,A=>by
  simp only[Mh,j4,mw]at h;obtain⟨k,E,I,h,rfl⟩:=h;rcases hf.1 A with rfl|A
  ·exact⟨by simpa using N 0 o rfl,E,by simp[Hy,E],rfl,rfl,by simpa using M 0 a rfl⟩
  ·refine acz C jw (j+1) I h (λk Z E=>?_) (λk V E=>?_) x A
   ·have:=N (k+1) Z ab
    grind
   ·have:=M (k+1) V ab
    grind
theorem PC{C kr:Nat}:∀{l:aa ip} {x:ip},x∈Hv C kr l->x∈l
 | [],x,h=>by cases h
 |y::l,x,h=>by
  unfold Hv at h;cases A:(la C y.i&&!la kr y.i)with
  |true =>
   rw[A]at h;rcases hf.1 h with rfl|h
   ·grind
   ·exact m8 _ (PC h)
  |false=>rw[A]at h;exact m8 _ (PC h)
theorem PD{kr:Nat}:∀{l:aa ip} {x:ip},x∈Hw kr l->x∈l
 | [],x,h=>by cases h
 |y::l,x,h=>by
  unfold Hw at h;cases A:la kr y.i with
  |false =>
   rw[A]at h;rcases hf.1 h with rfl|h
   ·grind
   ·exact m8 _ (PD h)
  |true=>rw[A]at h;exact m8 _ (PD h)
theorem Pp{all:aa ip}:∀{l:aa ip} {kr:Nat} {x:ip},(∀y∈l,y∈all)->x∈ub all l kr->x∈all
 | [],kr,x,_,h=>PD h
 |y::l,kr,x,C,h=>by
  unfold ub at h;cases A:(y.e&&!la kr y.i)with
  |false=>rw[A]at h;exact Pp ab h
  |true =>
   rw[A]at h;simp only[oy,kk,g6,hf]at h;rcases h with h|rfl|h
   ·exact PC h
   ·grind
   ·exact Pp ab h
theorem KK{t:Nat}(h:t∈d.toList):(D5 d).testBit t=true:=by
 cases d with
 |none=>cases h
 |some d =>
  simp at h;subst h;show(2 ^ t).testBit t=true;simp
theorem Gq{t:Nat}:∀{xs:aa Operand},t∈(xs.filterMap λ| .tmp t=>some t|_=>none)->(D6 xs).testBit t=true
 | [],h=>ab
 |x::xs,h=>by
  rw[List.filterMap_cons]at h;cases x with
  |tmp A =>
   simp only[hf]at h;show(2 ^ A ||| D6 xs).testBit t=true;rw[FN];rcases h with rfl|h
   ·simp
   ·rw[Gq h];simp
  |const v=>exact Gq (xs:=xs) h
  |global g=>exact Gq (xs:=xs) h
  |func f=>exact Gq (xs:=xs) h
theorem aaK{a8:List Oper}{t:Nat}(h:t∈oE a8 o):(TD a8 o).testBit t=true:=by
 unfold oE at h;show(D5 o.dst ||| (D6 o.op.operands.toList ||| Mg a8 o.guard)).testBit t=true;rw[FN,FN];simp only[g6]at h;rcases h with(h|h)|h
 ·rw[KK h];rfl
 ·rw[Gq h];simp
 ·have:(Mg a8 o.guard).testBit t=true:=by
   unfold Mg
   split at h
   ·rename_i g b C
    cases A:g7 a8 g with
    |none=>grind
    |some D =>
     rw[A]at h;simp only[C,A];exact KK h
   grind
  grind
theorem aaL{a t:Nat}(h:TE a b=true)(A:a.testBit t=true)(C:b.testBit t=true):False:=by
 have:a &&& b=0:=g4 h;have D:(a &&& b).testBit t=true:=ab
 grind
theorem amR{P:Program}{a8:aa Oper}(aR:xC P a8 x)(Z:xC P a8 y)(h:DR x y=true):AZ P a8 (ks a8) x.i y.i=true:=by
 obtain⟨ih,jC,hZ,u3,yn,Jn⟩:=aR;obtain⟨I,cC,V,cR,d3,dM⟩:=Z;unfold DR at h;simp only[eD]at h;obtain⟨⟨⟨h1,al⟩,aM⟩,A⟩:=h;have D:∀k,la x.am k=kJ (ks a8) x.i k:=λk=>by unfold kJ;rw[Jn,Tc];rfl
 have E:∀k,la y.am k=kJ (ks a8) y.i k:=λk=>by unfold kJ;rw[dM,Tc];rfl
 rw[D]at al;rw[E]at aM A;have N:s1 P a8 y.i=y.e:=by unfold s1;rw[jr,I,V];rfl
 unfold AZ;simp only[eD];refine⟨ab,?_⟩;rw[jr,jr,ih,I];simp only[Bool.or_eq_true,eD]at A ⊢;rcases A with A|⟨A,M⟩
 ·grind
 ·right
  constructor
  ·rw[CP];intro d C;cases aU:(oE a8 y.o).contains d with
   |false=>rfl
   |true =>
    exfalso;rw[u3,d3]at A;exact aaL A (KK C) (aaK ab)
  ·rw[CP];intro d C;cases aU:(oE a8 x.o).contains d with
   |false=>rfl
   |true =>
    exfalso;rw[cR,yn]at M;exact aaL M (KK C) (aaK ab)
theorem acA{x:ip}:∀{l:aa ip},D7 x l=true->∀y∈l,DR x y=true
 | [],_,y,A=>ab
 |z::l,h,y,A=>by
  unfold D7 at h;obtain⟨D,C⟩:DR x z=true/\D7 x l=true:=ab
  rcases hf.1 A with rfl|A
  ·omega
  ·exact acA C y A
theorem Zs:∀{l:aa ip},Hb l=true->∀(p q:Nat) (x y:ip),p<q->l[p]? = some x->l[q]? = some y->DR x y=true
 | [],_,p,q,x,y,_,h,_=>ab
 |z::l,h,p,q,x,y,C,ai,A=>by
  unfold Hb at h;obtain⟨D,E⟩:D7 z l=true/\Hb l=true:=ab
  cases q with
  |zero=>omega
  |succ q =>
   have A:l[q]? = some y:=ab
   cases p with
   |zero=>simp at ai;subst ai;exact acA D y ab
   |succ p=>exact Zs E p q x y J ab A
theorem aaM{i:Nat}:∀{l:aa ip},(Bm l).testBit i=true->∃x∈l,x.i=i
 | [],h=>by simp[Bm]at h
 |x::l,h=>by
  have h:(2 ^ x.i ||| Bm l).testBit i=true:=h;rw[FN]at h;simp only[Bool.or_eq_true]at h;rcases h with h|h
  ·grind
  ·obtain⟨y,A,C⟩:=aaM h
   grind
theorem acB{j:Nat}:∀{A:aa Edge},Bn j A=true->∀e∈A,Region.binds .any e=true->e.on<j
 | [],_,e,C,_=>ab
 |x::A,h,e,C,D=>by
  unfold Bn at h;obtain⟨E,I⟩:(!Region.binds .any x||Nat.blt x.on j)=true/\Bn j A=true:=ab
  rcases hf.1 C with rfl|C
  ·rw[D]at E;simpa[wM]using E
  ·exact acB I e C D
theorem acC:∀{A:aa Oper} {j:Nat},HO j A=true->∀k o,A[k]? = some o->Bn (j+k) o.after.toList=true
 | [],j,_,k,o,h=>ab
 |x::A,j,h,k,o,E=>by
  unfold HO at h;obtain⟨D,C⟩:Bn j x.after.toList=true/\HO (Nat.succ j) A=true:=ab
  cases k with
  |zero=>grind
  |succ k =>
   have:=acC C k o ab
   grind
theorem acD{P:Program}{a8:aa Oper}{y:ip}(A:xC P a8 y):∀{b:aa ip},(∀x∈b,xC P a8 x)->HP y.am b=((b.map (·.i)).filter (λe=>s1 P a8 e&&!kJ (ks a8) y.i e)).length
 | [],_=>rfl
 |x::b,h=>by
  have ev:=acD A (b:=b) λz I=>h z ab;obtain⟨C,N,D,Z,V,Jn⟩:=h x ab;have E:s1 P a8 x.i=x.e:=by unfold s1;rw[jr,C,D];rfl
  have M:kJ (ks a8) y.i x.i=la y.am x.i:=by unfold kJ;rw[A.2.2.2.2.2,Tc];rfl
  unfold HP
  grind
theorem Yg{P:Program}{a8:aa Oper}:∀{l b:aa ip},(∀x∈l,xC P a8 x)->(∀x∈b,xC P a8 x)->(s3 b l).map (·.i)=l.map (·.i) /\
  ∀p s,(s3 b l)[p]? = some s->a8[s.i]? = some s.o/\pw P s.o.op=some s.k/\s.wa=LU P a8 (ks a8) ((b.reverse.map (·.i))++((s3 b l).take p).map (·.i)) s.i
 | [],b,_,_=>⟨rfl,λp s A=>by simp[s3]at A⟩
 |x::l,b,E,I=>by
  have D:=E x ab;obtain⟨N,M⟩:=Yg (l:=l)  (λz C=>E z ab) (λz C=>by
   rcases hf.1 C with rfl|C
   ·exact D
   ·exact I z C)
  refine⟨by simp[s3,N],λp s A=>?_⟩;cases p with
  |zero =>
   simp[s3]at A;subst A;refine⟨D.1,D.2.1,?_⟩;unfold LU;rw[acD D I]
   grind
  |succ p =>
   have:=M p s (by simpa[s3]using A);simpa[s3]using this
theorem aiQ{P:Program}{a8:aa Oper}{bK:aa eP}(h:Sj P a8=some bK):ur P a8 bK:=by
 obtain⟨I,BK,h⟩:=j4.1 h;have V:∀x∈I,xC P a8 x:=acz a8 _ 0 I BK ab (λk a hk=>by rw[<-akv,jr];grind);have A:∀x∈ub I I 0,xC P a8 x:=λx M=>V x (Pp ab M);generalize ub I I 0=l at h A;obtain⟨N,i0⟩:=t4 h;simp only[eD]at N;obtain⟨D,C,Z,E⟩:=N;cases i0;obtain⟨h1,al⟩:=Yg A (b:=[]) (λx M=>by cases M);have D:l.length=a8.length:=by have:=g4 D;rwa[oB,oB]at this
 have C:Bm l=2 ^ a8.length-1:=by have:=g4 C;rw[oB]at this;omega
 have u:∀(p:Nat) (s:eP),(s3 [] l)[p]? = some s->∃x,l[p]? = some x/\x.i=s.i:=λp s bv=>by
  have:=congrArg (λz=>z[p]?) h1
  grind
 refine⟨ab,λi ai=>?_,λj o e fj bk aG=>?_,λp q s t Ie ar cy=>?_,?_⟩
 ·have aG:(Bm l).testBit i=true:=ab
  obtain⟨x,M,rfl⟩:=aaM aG;have hm:x.i∈(s3 [] l).map (·.i):=ab
  obtain⟨s,ar,bk⟩:=fL.1 hm;obtain⟨p,bv⟩:=tS ar
  grind
 ·have:=acC Z j o fj;rw[ix]at this;exact acB this e ab aG
 ·obtain⟨x,M,ex⟩:=u p s ar;obtain⟨y,ca,Jk⟩:=u q t cy;rw[<-ex,<-Jk];exact amR (A x ab) (A y ab) (Zs E p q x y Ie M ca)
 ·have:=congrArg List.length h1
  grind
structure mi where
 aj:b8
 h:ad
 U:Nat
 b:ad
 ar:aa ad
def DT(st gT:mi):Prop:=gT.h=st.h/\gT.U=st.U/\gT.b=st.b/\gT.ar=st.ar
noncomputable def nf (all:aa Oper) (o:Oper) (aj:b8):ak:=match z6 all o.guard with
 |some g=>vP g aj
 |none=>false
def uH(v:X)(h:ad)(U:Nat):bD:=λa b c=>a=v/\b=h/\c=U
inductive aex (P:Program) (all:List Oper) (s:eP) (st gT:mi) (v:Option Value):Prop
 |skip (bN:nf all s.o st.aj=false) (hk:iS s.k=false) (aI:v=none) (aG:DT st gT)
 |vD (bN:nf all s.o st.aj=false) (hk:iS s.k=true) (aI:v=none) (ft:gT.h=st.h) (bm:gT.U=st.U) (aG:gT.b=st.h) (BL:gT.ar=st.b::st.ar)
 |fB (bN:nf all s.o st.aj=true) (e:Ji) (hk:s.k = .fB e) (aT:Value) (aI:v=some aT) (bk:nX P st.aj e = .ok aT) (aG:DT st gT)
 |iK (bN:nf all s.o st.aj=true) (e:Fl) (hk:s.k = .iK e) (cW:kT) (bk:xx st.aj e = .ok cW) (aI:v=some (xK st.U cW)) (ft:gT.h=F st.h st.U (tn cW)) (bm:gT.U=st.U+1) (aG:gT.b=st.b) (BL:gT.ar=st.ar)
 |red (bN:nf all s.o st.aj=true) (e:H5) (hk:s.k = .red e) (aT:Value) (aI:v=some aT) (bk:pred P st.aj e st.b = .ok aT) (dg:∀k,k<s.wa->∃h,st.ar[k]? = some h/\pred P st.aj e h = .ok aT) (aG:DT st gT)
 |fC (bN:nf all s.o st.aj=true) (e:wx) (hk:s.k = .fC e) (aT:Value) (aI:v=some aT) (bk:nB P false e st.aj st.h st.U (uH aT gT.h gT.U)) (bm:st.U<=gT.U) (aG:gT.b=gT.h) (BL:gT.ar=st.b::st.ar)
structure If (P:Program) (all:aa Oper) (s:eP) (st gT:mi) (v:av X):Prop where
 ok:aex P all s st gT v
 g:∃g,z6 all s.o.guard=some g/\MS g st.aj
 mf:∀d,hG gT.aj d=if s.o.dst=some d then some v else hG st.aj d
theorem If.xi{P:Program}{s:eP}{st N:mi}{v:av X}(h:If P all s st N v):st.U<=N.U:=by
 cases h.ok with
 |skip I M D A=>rw[A.2.1];omega
 |vD I M D ft Z A E=>omega
 |fB I e M C D V A=>rw[A.2.1];omega
 |iK I e M cW V D ft Z A E=>omega
 |red I e M C D V dg A=>rw[A.2.1];omega
 |fC I e M C D V Z A E=>omega
theorem akw(aj:b8)(dst:av Nat)(v:av X)(d:Nat):hG (et aj dst v) d=if dst=some d then some v else hG aj d:=by
 cases dst with
 |none=>rfl
 |some t=>show hG ((t,v)::aj) d=_;rw[yV];simp
theorem Sm{f:ad->R X}{v:X}{p:Prop}:∀{n:Nat} {ar:aa ad},py f v p n ar->(∀k,k<n->∃h,ar[k]? = some h/\f h = .ok v)/\p
 |0,ar,h=>⟨λk N=>J,h⟩
 |n+1,[],h=>h.elim
 |n+1,C::ar,⟨A,E⟩=>by
  obtain⟨I,M⟩:=Sm E;refine⟨λk N=>?_,M⟩;cases k with
  |zero =>
   refine⟨C,rfl,?_⟩;unfold nT at A;cases D:f C with
   |no w=>rw[D]at A;cases A
   |ok x=>rw[D]at A;rw[aaF A]
  |succ k=>exact I k J
theorem uH.self(v:X)(h:ad)(U:Nat):uH v h U v h U:=⟨rfl,rfl,rfl⟩
section
variable {P:Program}
theorem GN{aj:b8}{U:Nat}{b:ad}{k:b8->ad->Nat->ad->aa ad->Prop}:lQ P d c (.fC e) aj h U b ar k=nB P true e aj h U λv A Y=>U<=Y/\k (et aj d (some v)) A Y A (b::ar):=by
 cases e <;> first|rfl|simp only[lQ,nB,cB,true_and]
def DU(C:bD->Prop)(C':bD->Prop)(k:bD):Prop:=∃v h U,k v h U/\C (uH v h U)/\∀dp,dp v h U->C' dp
theorem aey{C:bD->Prop}(h:u1 true C k):DU C (u1 true C) k:=by obtain⟨v,h,U,D,A⟩:=h;exact⟨v,h,U,D,A,λdp E=>⟨v,h,U,E,A⟩⟩
theorem acE(h:gB P true r k):DU (gB P false r) (gB P true r) k:=by
 cases r <;> first|exact aey h|exact h.elim
theorem Sn(h:dB r k):DU (dB r) (dB r) k:=by
 cases r <;> first|exact⟨_,_,_,h,uH.self _ _ _,λ_ h=>h⟩|exact h.elim
theorem Sp{aj:b8}{U:Nat}(C:nB P true e aj h U k):DU (nB P false e aj h U) (nB P true e aj h U) k:=by
 have A:∀{aA:Type} {r:R aA} {f:aA->Prop} {g cb:aA->bD->Prop},ag r f->(∀x,f x->DU (g x) (cb x) k)->DU (λk=>ag r (λx=>g x k)) (λk=>ag r (λx=>cb x k)) k:=λ{aA r f g cb} D al=>by obtain⟨x,rfl,D⟩:=gu D;exact al x D
 cases e with
 |st n a x=>exact A C λ_ h=>A h λ_ h=>A h λE h=>⟨_,_,_,h,uH.self _ _ _,λ_ h=>h⟩
 |zC t m k x=>exact A C λ_ h=>A h λ_ h=>A h λ_ h=>A h λE h=>⟨_,_,_,h,uH.self _ _ _,λ_ h=>h⟩
 |jW x=>exact A C λ_ h=>Sn h
 |fW x=>exact A (g:=λx k=>wb false h U x k) (cb:=λx k=>wb true h U x k) C λ_ h=>by obtain⟨_,_,_,_,_,_,_,h,_⟩:=h;cases h
 |call f args=>exact A C λ_ h=>aey h
 |Bb f args=>exact A C λ_ h=>A h λ_ h=>acE h
 |app z x y=>exact A C λ_ h=>A h λ_ h=>Sn h
 |bi b I args=>exact A C λ_ h=>Sn h
 |inv r m args=>exact A C λ_ h=>A h λ_ h=>acE h
theorem af0{all:aa Oper}{K:b8->ad->Nat->Prop}:∀(bK:aa eP) (is:aa lD) (st:mi),Hc all bK=some is->hX P is st.aj st.h st.U st.b st.ar K ->
  ∃(bs:Nat->mi) (val:Nat->av X),(uq st.aj (bs 0).aj/\DT st (bs 0))/\(∀j s,bK[j]? = some s->If P all s (bs j) (bs (j+1)) (val j))/\K (bs bK.length).aj (bs bK.length).h (bs bK.length).U
 | [],is,st,aU,h=>by cases aU;exact⟨λ_=>st,λ_=>none,⟨λ_=>rfl,rfl,rfl,rfl,rfl⟩,λj s bM=>by simp at bM,h⟩
 |s::bK,is,st,aU,h=>by
  simp only[Hc,j4,mw]at aU;obtain⟨g,a5,I,Ib,rfl⟩:=aU;have h:lE g st.aj (λaj=>lQ P s.o.dst s.wa s.k aj st.h st.U st.b st.ar λaj h U b ar=>hX P I aj h U b ar K)
   (λaj=>Bool.rec (hX P I (et aj s.o.dst none) st.h st.U st.b st.ar K) (hX P I (et aj s.o.dst none) st.h st.U st.h (st.b::st.ar) K) (iS s.k)):=h
  obtain⟨Ic,aj,oQ,Z⟩:=afZ h;have axr:MS g aj:=λd w e=>by rw[oQ d];exact Ic d w e
  have MU:vP g aj=vP g st.aj:=by unfold vP;split <;> simp[oQ _]
  have go:∀(E:mi) (v:av X),hX P I E.aj E.h E.U E.b E.ar K->(∀D,DT E D->aex P all s ⟨aj,st.h,st.U,st.b,st.ar⟩ D v)->E.aj=et aj s.o.dst v ->
    ∃(bs:Nat->mi) (val:Nat->av X),(uq st.aj (bs 0).aj/\DT st (bs 0))/\(∀j t,(s::bK)[j]? = some t->If P all t (bs j) (bs (j+1)) (val j))/\K (bs (s::bK).length).aj (bs (s::bK).length).h (bs (s::bK).length).U:=by
   intro E v ac ar sd;obtain⟨bs,val,⟨ap,h0'⟩,h1,al⟩:=af0 bK I E Ib ac;refine⟨λj=>match j with|0=>⟨aj,st.h,st.U,st.b,st.ar⟩|j+1=>bs j,λj=>match j with|0=>v|j+1=>val j,⟨oQ,rfl,rfl,rfl,rfl⟩,λj t bM=>?_,al⟩;cases j with
   |zero =>
    simp at bM;subst bM;exact⟨ar _ h0',⟨g,a5,axr⟩,λd=>by show hG (bs 0).aj d=_;rw[ap d,sd,akw]⟩
   |succ j=>exact h1 j t ab
  have V:nf all s.o aj=vP g st.aj:=by unfold nf;rw[a5];exact MU
  rcases Z with⟨aG,h⟩|⟨aG,h⟩ <;> rw[aG]at V
  ·cases M:s.k with
   |fB e =>
    rw[M]at h;have h:ag (nX P aj e) λv=>hX P I (et aj s.o.dst (some v)) st.h st.U st.b st.ar K:=by
     cases e <;> first|exact h|skip
     obtain⟨c,h1,N⟩:=gu h;obtain⟨a,al,N⟩:=gu N;obtain⟨b,aM,N⟩:=gu N;simp only[nX,h1,al,aM,R.bind];rcases ug N with⟨rfl,N⟩|⟨rfl,N⟩ <;> exact N
    obtain⟨C,bk,h⟩:=gu h;exact go ⟨et aj s.o.dst (some C),st.h,st.U,st.b,st.ar⟩ (some C) h (λD A=>.fB V e M C rfl bk A) rfl
   |iK e =>
    rw[M]at h;obtain⟨cW,bk,h⟩:=gu h;exact go ⟨et aj s.o.dst (some (xK st.U cW)),F st.h st.U (tn cW),st.U+1,st.b,st.ar⟩ _ h (λD A=>.iK V e M cW bk rfl A.1 A.2.1 A.2.2.1 A.2.2.2) rfl
   |red e =>
    rw[M]at h;obtain⟨C,bk,h⟩:=gu h;have h:py (pred P aj e) C (hX P I (et aj s.o.dst (some C)) st.h st.U st.b st.ar K) s.wa st.ar:=by cases aU:s.wa <;> rw[aU]at h <;> exact h
    obtain⟨dg,h⟩:=Sm h;exact go ⟨et aj s.o.dst (some C),st.h,st.U,st.b,st.ar⟩ (some C) h (λD A=>.red V e M C rfl bk dg A) rfl
   |fC e =>
    rw[M]at h;rw[GN]at h;obtain⟨C,ac,Y,⟨bm,h⟩,bk,_⟩:=Sp h;refine go ⟨et aj s.o.dst (some C),ac,Y,ac,st.b::st.ar⟩ (some C) h (λD A=>.fC V e M C rfl ?_ ?_ ?_ A.2.2.2) rfl
    ·rw[A.1,A.2.1];exact bk
    ·rw[A.2.1];exact bm
    ·rw[A.2.2.1,A.1]
  ·cases M:iS s.k with
   |false =>
    rw[M]at h;exact go ⟨et aj s.o.dst none,st.h,st.U,st.b,st.ar⟩ none h (λD A=>.skip V M rfl A) rfl
   |true =>
    rw[M]at h;exact go ⟨et aj s.o.dst none,st.h,st.U,st.h,st.b::st.ar⟩ none h (λD A=>.vD V M rfl A.1 A.2.1 A.2.2.1 A.2.2.2) rfl
end
def cut(ah:cd)(n:Nat):cd:=λb=>if b<n then ah b else none
theorem pi{ah:cd}(h:b<n):cut ah n b=ah b:=by simp[cut,h]
theorem p1{ah:cd}(h:n<=b):cut ah n b=none:=by simp[cut,Nat.not_lt.2 h]
theorem Sq(ah:cd)(n:Nat):kw (cut ah n) n:=λb h=>p1 h
theorem Q1(ah:cd)(h:n<=m):Sub (cut ah n) (cut ah m):=λb p A=>by
 by_cases C:b<n
 ·rw[pi C]at A;rw[pi J];omega
 ·rw[p1 J]at A;grind
theorem aqd(ah:cd)(h:kw ah n):cut ah n=ah:=funext λb=>by
 by_cases A:b<n
 ·exact pi A
 ·rw[p1 J,h b J]
structure oR (P:Program) (a8:Array Oper) (bK:aa eP) (bs:Nat->mi) (val:Nat->av X):Prop where
 lv:ur P a8.toList bK
 iP:∀(j:Nat) (s:eP),bK[j]? = some s->If P a8.toList s (bs j) (bs (j+1)) (val j)
def ie(cv:Array ak)(i:Nat):Prop:=cv.getD i false=true
structure sE (a8:Array Oper) (cv:Array ak):Prop where
 size:cv.size=a8.size
 closed:∀(j:Nat) (o:Oper) (e:Edge),ie cv j->a8.toList[j]? = some o->e∈o.after->Region.binds .any e=true->ie cv e.on
theorem qU:ie (cv.setIfInBounds i true) j↔(j=i/\i<cv.size)\/ie cv j:=by
 unfold ie
 by_cases e:j=i
 ·subst e
  by_cases A:j<cv.size
  ·simp[qN,Al,A]
  grind
 ·simp[qN,Al,kE e,e]
section
variable {P:Program} {a8:Array Oper} {bK:aa eP} {bs:Nat->mi} {val:Nat->av X}
theorem oR.xi(R:oR P a8 bK bs val){i:Nat}:∀{j:Nat},i<=j->j<=bK.length->(bs i).U<=(bs j).U
 |0,h,_=>ab
 |j+1,h,A=>by
  by_cases e:i=j+1
  ·grind
  ·have ar:bK[j]? = some (bK[j]'J):=ab
   exact hu (R.xi J J) (R.iP j _ ar).xi
theorem ur.ne(R:ur P a8.toList bK){s:eP}(M:bK[p]? = some s)(I:bK[q]? = some t)(h:p≠q):s.i≠t.i:=by
 have D:∀(p q:Nat) (s t:eP),p<q->bK[p]? = some s->bK[q]? = some t->s.i≠t.i:=λp q s t A ar C=>by
  have:=R.pair p q s t A ar C;unfold AZ at this;simp only[eD]at this;have E:=this.1.1.1;intro e;rw[e,tW]at E
  grind
 grind
theorem ur.apart(R:ur P a8.toList bK){s:eP}(A:p<q)(ar:bK[p]? = some s)(C:bK[q]? = some t):
  kJ (ks a8.toList) t.i s.i=true\/((∀d,s.o.dst=some d->d ∉ oE a8.toList t.o)/\∀d,t.o.dst=some d->d ∉ oE a8.toList s.o):=by
 have:=R.pair p q s t A ar C;unfold AZ at this;simp only[eD]at this;have D:=this.2;rw[jr,jr,(R.step p s ar).1,(R.step q t C).1]at D
 grind
theorem ur.fC(R:ur P a8.toList bK){s:eP}(A:p<q)(ar:bK[p]? = some s)(C:bK[q]? = some t)(E:iS t.k=true):kJ (ks a8.toList) t.i s.i=true:=by
 have:=R.pair p q s t A ar C;unfold AZ at this;simp only[eD]at this;have D:=R.step q t C;have I:s1 P a8.toList t.i=true:=by unfold s1;rw[jr,D.1];simp only[FL,J6,Hy];rw[D.2.1];exact E
 grind
theorem ur.after(R:ur P a8.toList bK){s:eP}(A:p<q)(ar:bK[p]? = some s)(C:bK[q]? = some t):kJ (ks a8.toList) s.i t.i=false:=by
 have:=R.pair p q s t A ar C;unfold AZ at this
 grind
theorem sE.ahead(A:sE a8 cv)(D:ie cv j)(I:kJ (ks a8.toList) j i=true):ie cv i :=
 YC  A.closed j (λo e M C E=>A.closed j o e D M C E) i I
theorem sE.Pq(N:sE a8 cv)(E:j∈Region.ready .any a8 cv)(M:kJ (ks a8.toList) j i=true):ie cv i:=by
 obtain⟨_,o,V,A⟩:=mem_ready.1 E;refine YC  N.closed j (λZ e C D I=>?_) i M;have:a8.toList[j]? = some o:=ab
 rw[this]at C;cases C;exact A e D I
theorem sE.set(M:sE a8 cv)(ai:i∈Region.ready .any a8 cv):sE a8 (cv.setIfInBounds i true):=by
 obtain⟨_,o,V,A⟩:=mem_ready.1 ai;refine⟨by simpa using M.size,λj N e C D E I=>?_⟩;rw[qU]at C ⊢
 right
 rcases C with⟨rfl,_⟩|C
 ·have:a8.toList[j]? = some o:=ab
  rw[this]at D;cases D;exact A e E I
 ·exact M.closed j N e C D E I
def Bu(bK:aa eP)(bs:Nat->mi)(cv:Array ak)(ah:cd)(a:Act):Prop:=∀(j d:Nat),j<=bK.length ->
 (∀(q:Nat) (s:eP),q<j->bK[q]? = some s->s.o.dst=some d->ie cv s.i)->(∀(q:Nat) (s:eP),j<=q->bK[q]? = some s->s.o.dst=some d->¬ie cv s.i) ->
 ∀v,hG (bs j).aj d=some v->bE (cut ah (bs j).U) (r0 v) (a.tmps.getD d undef)
theorem aiE{d:Tmp}(h:o.dst=some d):d∈oE all o:=by unfold oE;grind
theorem Bu.look(R:oR P a8 bK bs val){ah:cd}(eH:Bu bK bs cv ah a)(N:sE a8 cv){s:eP}(ar:bK[p]? = some s)(I:s.i∈Region.ready .any a8 cv){d:Nat}(V:d∈oE a8.toList s.o):∀v,hG (bs p).aj d=some v->bE (cut ah (bs p).U) (r0 v) (a.tmps.getD d undef):=by
 have bv:p<bK.length:=ab
 have E:¬ie cv s.i:=by
  have ap:=(mem_ready.1 I).1;unfold ie
  grind
 refine eH p d J (λq t M D A=>?_) (λq t M D A Z=>?_)
 ·rcases R.lv.apart M D ar with h|⟨h,_⟩
  ·exact N.Pq I h
  ·exact absurd V ab
 ·rcases jH p q with C|C
  ·rcases R.lv.apart C ar D with h|⟨_,h⟩
   ·exact E (N.ahead Z h)
   grind
  grind
theorem Bu.step(R:oR P a8 bK bs val){ah bw:cd}(eH:Bu bK bs cv ah a)(aU:sE a8 cv)(N:∀m,Sub (cut ah m) (cut bw m)){s:eP}(ar:bK[p]? = some s)(ba:s.i∈Region.ready .any a8 cv){c:X}(aI:bE (cut bw (bs (p+1)).U) (r0 (val p)) c)(M:∀d,s.o.dst=some d->d<a.tmps.size):
  Bu bK bs (cv.setIfInBounds s.i true) bw (a.put s.o.dst c):=by
 have azX:s.i<cv.size:=by
  obtain⟨_,o,fj,_⟩:=mem_ready.1 ba
  grind
 have ts:¬ie cv s.i:=by
  have ap:=(mem_ready.1 ba).1;unfold ie
  grind
 intro j d bM aG bx l0 E
 by_cases I:s.o.dst=some d
 ·
  have UP:p<j:=by
   rcases jH p j with h|h
   ·exact h
   ·exact absurd (qU.2 J) (bx p s h ar I)
  have D:∀k,p+1+k<=j->hG (bs (p+1+k)).aj d=some (val p):=by
   intro k
   induction k with
   |zero =>
    intro _;rw[show p+1+0=p+1 from rfl,(R.iP p s ar).mf d,if_pos I]
   |succ k ev =>
    intro hk;have C:bK[p+1+k]? = some (bK[p+1+k]'J):=ab
    generalize bK[p+1+k]'J=t at C;have eg:t.o.dst≠some d:=λZ=>by
     have V:=aG (p+1+k) t J C Z;rw[qU]at V;rcases V with⟨h,_⟩|V
     ·exact R.lv.ne C ar J h
     ·rcases R.lv.apart J ar C with h|⟨h,_⟩
      ·exact ts (aU.ahead V h)
      ·exact h d I (aiE Z)
    rw[show p+1+(k+1)=p+1+k+1 by omega,(R.iP _ t C).mf d,if_neg eg];exact ev J
  have htg:hG (bs j).aj d=some (val p):=by have:=D (j-(p+1)) J;rwa[show p+1+(j-(p+1))=j by omega]at this
  rw[htg]at E;cases E;have u:(a.put s.o.dst c).tmps.getD d undef=c:=by have:=M d I;simp[Act.put,I,qN,Al,this]
  rw[u];exact aI.mono (Q1 bw (R.xi J bM))
 ·have u:(a.put s.o.dst c).tmps.getD d undef=a.tmps.getD d undef:=by
   cases MV:s.o.dst with
   |none=>rfl
   |some Jm =>
    have:Jm≠d:=ab
    simp[Act.put,qN,Al,this]
  rw[u];refine(eH j d bM (λq t C cy A=>?_) (λq t C cy A V=>?_) l0 E).mono (N _)
  ·have:=aG q t C cy A;rw[qU]at this;rcases this with⟨h,_⟩|h
   ·exfalso;have:q=p:=by
     rcases Nat.decEq q p with ac | ac
     ·exact absurd h (R.lv.ne cy ar ac)
     omega
    grind
   ·exact h
  ·exact bx q t C cy A (qU.2 ab)
end
theorem ee.aaN{B:Nat}{ah:cd}{H:fs}{w:World}(C:ee B ah H w){k:Nat}(h:xw B ah H k):k<w.heap.size:=by obtain⟨b,p,A,ar,rfl,_⟩:=h;obtain⟨x,D⟩:=nJ.1 ar;exact(C.obj b p x A D).DB
section
variable {P:Program} {a8:Array Oper} {bK:aa eP} {bs:Nat->mi} {val:Nat->av X}
structure ko (P:Program) (a8:Array Oper) (bK:aa eP) (bs:Nat->mi) (cv:Array ak) (p:Nat) (s:eP) (cW:kT):Prop where
 at_:bK[p]? = some s
 BM:ie cv s.i
 want:nf a8.toList s.o (bs p).aj=true
 ok:∃e,s.k = .iK e/\xx (bs p).aj e = .ok cW
theorem ko.l1{s:eP}(h:ko P a8 bK bs cv p s cW):iS s.k=false/\∃e,s.k = .iK e:=by obtain⟨e,A,_⟩:=h.ok;exact⟨by rw[A];rfl,e,A⟩
theorem ko.next(R:oR P a8 bK bs val){s:eP}(h:ko P a8 bK bs cv p s cW):(bs (p+1)).U=(bs p).U+1/\(bs (p+1)).h=F (bs p).h (bs p).U (tn cW)/\(bs (p+1)).b=(bs p).b:=by
 have bN:=h.want;obtain⟨e,hk,I⟩:=h.ok;cases(R.iP p s h.at_).ok with
 |skip D _ _ _=>grind
 |vD D _ _ _ _ _ _=>grind
 |fB _ C A _ _ _ _=>grind
 |red _ C A _ _ _ _ _=>grind
 |fC _ C A _ _ _ _ _ _=>grind
 |iK _ C A Z E aI M bm V N =>
  rw[hk]at A;cases A;rw[I]at E;cases E;exact⟨bm,M,V⟩
theorem ko.lt{s:eP}(h:ko P a8 bK bs cv p s cW):p<bK.length:=(gE.1 h.at_).1
theorem ko.af1(R:oR P a8 bK bs val){s:eP}(h:ko P a8 bK bs cv p s cW)(C:q<bK.length)(A:p<q):(bs p).U<(bs q).U:=by have D:=(h.next R).1;have:=R.xi (J:p+1<=q) J;omega
structure lR (P:Program) (a8:Array Oper) (bK:aa eP) (bs:Nat->mi) (B:Nat) (iL:cd) (gp:World) (cv:Array ak) (c:Nat) (ah:cd) (w:World):Prop where
 le:c<=bK.length
 done:∀(q:Nat) (s:eP),q<c->bK[q]? = some s->ie cv s.i
 io:cE B iL (u (bs 0).h) gp (bs 0).U (bs c).U (cut ah (bs c).U) (u (bs c).h) w
 sub:∀(x:Nat) (o:fM),u (bs c).b x=some o->u (bs c).h x=some o
 ext:∀(p:Nat) (s:eP) (cW:kT),c<=p->ko P a8 bK bs cv p s cW->∃pl,ah (bs p).U=some pl/\mC B (cut ah ((bs p).U+1)) w pl (tn cW)/\gp.heap.size<=pl.ct/\pl.ct<w.heap.size/\¬xw B (cut ah (bs c).U) (u (bs c).h) pl.ct
 pD:∀(p q:Nat) (s t:eP) (cW nb':kT) (pl UQ:Place),c<=p->c<=q->ko P a8 bK bs cv p s cW->ko P a8 bK bs cv q t nb'->p≠q->ah (bs p).U=some pl->ah (bs q).U=some UQ->pl.ct≠UQ.ct
 zv:∀(b:Nat) (pl:Place),ah b=some pl->b<(bs c).U\/∃p s cW,c<=p/\ko P a8 bK bs cv p s cW/\b=(bs p).U
theorem cE.avo{B:Nat}{ah bw:cd}{H:fs}{w:World}(A:cE B iL sD gp ao ai ah H w){o:fM}(bm:ah ai=none)(hρ:bw=λk=>if k=ai then some pl else ah k)(azY:iL ai=none\/ao<=ai)(Z:mC B bw w pl o)(aG:gp.heap.size<=pl.ct)(M:¬xw B ah H pl.ct):cE B iL sD gp ao (ai+1) bw (H.put ai o) w:=by
 subst hρ;have N:Sub ah (λk=>if k=ai then some pl else ah k):=λb q E=>ab
 have C:∀b q,b≠ai->(if b=ai then some pl else ah b)=some q->ah b=some q:=ab
 have oQ:∀b,b≠ai->((H.put ai o) b).isSome->(H b).isSome:=λb e h=>by simpa[fs.put,e]using h
 refine⟨⟨A.rel.base,?_,?_,?_⟩,λb hQ=>?_,A.size,A.os,A.tape,A.output,A.frame,?_,by have:=A.le;omega⟩
 ·intro b q x E aR
  by_cases e:b=ai
  ·subst e;simp[fs.put]at E aR;subst E;subst aR;exact Z
  ·have D:=C b q e E;have uF:H b=some x:=by simpa[fs.put,e]using aR
   exact(A.rel.obj b q x D uF).mono N rfl
 ·intro b ck q kU E D ar lP V I
  by_cases e:b=ai <;> by_cases ep:ck=ai
  ·omega
  ·subst e;simp at E;subst E;exact absurd ⟨ck,kU,ab,ab,I.symm,V⟩ M
  ·subst ep;simp at D;subst D;exact absurd ⟨b,q,ab,ab,I,J⟩ M
  ·exact A.rel.inj b ck q kU ab ab ab ab V I
 ·intro b ar
  by_cases e:b=ai
  ·grind
  ·simp only[e,fc];exact A.rel.nm b ab
 ·have dr:=A.le;have e:b≠ai:=J
  simp only[e,fc];exact A.agree b J
 ·rintro k ⟨b,q,E,ar,rfl,V⟩
  by_cases e:b=ai
  ·grind
  ·exact A.own _ ⟨b,q,ab,ab,rfl,V⟩
theorem lR.atp(R:oR P a8 bK bs val){B:Nat}{ah:cd}{w:World}(M:lR P a8 bK bs B iL gp cv c ah w){s:eP}(ar:bK[c]? = some s)(bg:ie cv s.i)(hk:iS s.k=false\/nf a8.toList s.o (bs c).aj=false):lR P a8 bK bs B iL gp cv (c+1) ah w:=by
 have ci:c<bK.length:=ab
 have V:∀(q:Nat) (t:eP),q<c+1->bK[q]? = some t->ie cv t.i:=λq t cz cy=>by
  rcases jH q c with h|h
  ·exact M.done q t h cy
  ·have:q=c:=J
   subst this;rw[ar]at cy;cases cy;exact bg
 have quiet:(∀cW,¬ko P a8 bK bs cv c s cW)->(bs (c+1)).h=(bs c).h->(bs (c+1)).U=(bs c).U->((bs (c+1)).b=(bs c).b\/(bs (c+1)).b=(bs c).h)->lR P a8 bK bs B iL gp cv (c+1) ah w:=by
  intro hna ft Z A;refine⟨ci,V,by rw[ft,Z];exact M.io,?_,?_,?_,?_⟩
  ·rw[ft];rcases A with A|A
   ·rw[A];exact M.sub
   grind
  ·intro p t cW bv D;rw[ft,Z];exact M.ext p t cW J D
  ·intro p q t mX cW N pl E bv cz;exact M.pD p q t mX cW N pl E J J
  ·intro b pl hQ;rw[Z];rcases M.zv b pl hQ with h|⟨p,t,cW,bv,D,bk⟩
   ·omega
   ·right
    refine⟨p,t,cW,?_,D,bk⟩;rcases jH c p with h|h
    ·exact h
    ·have:p=c:=J
     subst this;have:=D.at_
     grind
 cases(R.iP c s ar).ok with
 |skip I C aI A=>exact quiet (λcW D=>by rw[D.want]at I;cases I) A.1 A.2.1 (.inl A.2.2.1)
 |vD I C aI ft Z A BL=>exact quiet (λcW D=>by rw[D.want]at I;cases I) ft Z (.inr A)
 |fB I e C aT aI bk A=>exact quiet (λcW D=>by obtain⟨_,ep,h⟩:=D.l1;rw[C]at h;cases h) A.1 A.2.1 (.inl A.2.2.1)
 |red I e C aT aI bk Ey A=>exact quiet (λcW D=>by obtain⟨_,ep,h⟩:=D.l1;rw[C]at h;cases h) A.1 A.2.1 (.inl A.2.2.1)
 |fC I e C aT aI bk Z A BL =>
  rcases hk with hk|hk
  ·rw[C]at hk;cases hk
  ·rw[I]at hk;cases hk
 |iK I e C cW bk aI ft Z A BL =>
  have D:ko P a8 bK bs cv c s cW:=⟨ar,bg,I,e,C,bk⟩
  obtain⟨pl,h1,al,aM,bc,bP⟩:=M.ext c s cW J D;have Ml:cut ah ((bs c).U+1)=λk=>if k=(bs c).U then some pl else cut ah (bs c).U k:=by
   funext k
   by_cases e:k=(bs c).U
   ·subst e;rw[if_pos rfl,pi J,h1]
   ·rw[if_neg e]
    by_cases Mm:k<(bs c).U
    ·rw[pi Mm,pi J]
    ·rw[p1 J,p1 J]
  have kN:=cE.avo M.io   (p1 J) Ml (.inr M.io.le) al aM bP;have azN:u (bs c).h (bs c).U=none:=by
   cases a5:u (bs c).h (bs c).U with
   |none=>rfl
   |some x =>
    have:=M.io.rel.nm (bs c).U ab;rw[p1 J]at this;grind
  refine⟨ci,V,by rw[ft,Z,vy];exact kN,?_,?_,?_,?_⟩
  ·intro x o aR;rw[A]at aR;rw[ft,AE];have:=M.sub x o aR
   grind
  ·intro p t N bv Ey;obtain⟨E,br,g2,c3,dK,gx⟩:=M.ext p t N J Ey;refine⟨E,br,g2,c3,dK,?_⟩;rw[ft,Z,vy];rintro⟨b,q,cz,lP,MW,dZ⟩;rw[Ml]at cz
   by_cases e:b=(bs c).U
   ·subst e;simp at cz;subst cz;exact M.pD c p s t cW N pl E J J D Ey J h1 br MW
   ·refine gx ⟨b,q,ab,by simpa[fs.put,e]using lP,MW,dZ⟩
  ·intro p q t mX MX wk MY MZ bv cz;exact M.pD p q t mX MX wk MY MZ J J
  ·intro b E hQ;rw[Z];rcases M.zv b E hQ with h|⟨p,t,N,bv,Ey,he'⟩
   all_goals grind
theorem lR.advance(R:oR P a8 bK bs val){B:Nat}{iL ah:cd}{gp w:World}{cv:Array ak}:∀(k c:Nat),bK.length-c<=k->lR P a8 bK bs B iL gp cv c ah w ->
  (∀(p:Nat) (s:eP),c<=p->bK[p]? = some s->ie cv s.i->iS s.k=false\/nf a8.toList s.o (bs p).aj=false) ->
   ∃A,lR P a8 bK bs B iL gp cv A ah w/\∀s,bK[A]? = some s->¬ie cv s.i
 |0,c,D,M,_=>⟨c,M,ab⟩
 |k+1,c,D,M,E=>by
  cases ar:bK[c]? with
  |none=>exact⟨c,M,ab⟩
  |some s =>
   by_cases C:ie cv s.i
   ·exact lR.advance R k (c+1) J (M.atp R ar C ab) ab
   ·exact⟨c,M,ab⟩
end
section
variable {P:Program} {a8:Array Oper} {bK:aa eP} {bs:Nat->mi} {val:Nat->av X}
theorem PE(ai:i<cv.size):cv.getD i true=false↔¬ie cv i:=by
 unfold ie
 grind
theorem amS(R:oR P a8 bK bs val)(aU:sE a8 cv)(bu:∀(q:Nat) (s:eP),q<c->bK[q]? = some s->ie cv s.i)(bm:∀s,bK[c]? = some s->¬ie cv s.i)(ba:Region.ready .any a8 cv=[])(dr:c<=bK.length):c=bK.length:=by
 rcases jH c bK.length with A|h
 ·exfalso;have ar:bK[c]? = some (bK[c]'A):=ab
  generalize bK[c]'A=s at ar;have D:=bm s ar;have Z:a8[s.i]? = some s.o:=by simpa using(R.lv.step c s ar).1
  have ai:s.i<a8.size:=ab
  have:s.i∈Region.ready .any a8 cv:=by
   refine mem_ready.2 ⟨(PE (by rw[aU.size];omega)).2 D,s.o,Z,λe I M=>?_⟩;have C:a8.toList[s.i]? = some s.o:=ab
   have V:=R.lv.inside s.i s.o e C I M;obtain⟨q,t,N,E⟩:=R.lv.cover e.on ab;rcases Au q c with h|h|h
   ·have:=bu q t h N;rw[E]at this;exact this
   ·grind
   ·have h1:=R.lv.after h ar N;have al:=amQ C I M
    grind
  grind
 omega
def left(a8:Array Oper)(cv:Array ak):Nat:=((List.range a8.size).filter λi=>!cv.getD i false).length
theorem aaO(D:cv.size=a8.size)(ai:i<a8.size)(A:¬ie cv i):left a8 (cv.setIfInBounds i true)+1<=left a8 cv:=by
 unfold left;have C:∀(l:aa Nat),((l.filter λk=>!(cv.setIfInBounds i true).getD k false).length<=(l.filter λk=>!cv.getD k false).length) /\
   (i∈l->(l.filter λk=>!(cv.setIfInBounds i true).getD k false).length+1<=(l.filter λk=>!cv.getD k false).length):=by
  intro l
  induction l with
  |nil=>grind
  |cons x M N =>
   by_cases e:x=i
   ·subst e;have E:(cv.setIfInBounds x true).getD x false=true:=by have:ie (cv.setIfInBounds x true) x:=qU.2 J;exact this
    have I:cv.getD x false=false:=by simpa[ie]using A
    grind
   ·have E:(cv.setIfInBounds i true).getD x false=cv.getD x false:=by simp[qN,Al,kE e]
    grind
 grind
end
section
variable {P:Program} {a8:Array Oper} {bK:aa eP} {bs:Nat->mi} {val:Nat->av X}
theorem ko.set(R:oR P a8 bK bs val){s:eP}(ar:bK[p]? = some s)(h:ko P a8 bK bs (cv.setIfInBounds s.i true) q t cW):q=p\/ko P a8 bK bs cv q t cW:=by
 rcases Nat.decEq q p with A|C
 ·right
  refine⟨h.at_,?_,h.want,h.ok⟩;have:=h.BM;rw[qU]at this;rcases this with⟨e,_⟩|this
  ·exact absurd e (R.lv.ne h.at_ ar A)
  ·exact this
 omega
theorem ko.up{cv:Array ak}{q i:Nat}{t:eP}{cW:kT}(h:ko P a8 bK bs cv q t cW):ko P a8 bK bs (cv.setIfInBounds i true) q t cW :=
 ⟨h.at_,qU.2 (.inr h.BM),h.want,h.ok⟩
theorem lR.quiet(R:oR P a8 bK bs val){B:Nat}{ah:cd}{w:World}(M:lR P a8 bK bs B iL gp cv c ah w){s:eP}(ar:bK[p]? = some s)(A:nf a8.toList s.o (bs p).aj=false\/∀e,s.k≠.iK e):lR P a8 bK bs B iL gp (cv.setIfInBounds s.i true) c ah w:=by
 have back:∀{q:Nat} {t:eP} {cW:kT},ko P a8 bK bs (cv.setIfInBounds s.i true) q t cW->ko P a8 bK bs cv q t cW:=λ{q t cW} h=>by
  rcases h.set R ar with e|ac
  ·subst e;have:=h.at_;rw[ar]at this;cases this;rcases A with A|A
   ·have:=h.want;rw[A]at this;cases this
   ·obtain⟨_,e,bk⟩:=h.l1;exact absurd bk (A e)
  ·exact ac
 refine⟨M.le,λq t E Z=>qU.2 (.inr (M.done q t E Z)),M.io,M.sub,λq t cW E dg=>M.ext q t cW E (back dg),λeF q t mX cW N pl I V C D bc=>M.pD eF q t mX cW N pl I V C (back D) (back bc),λb pl aG=>?_⟩;rcases M.zv b pl aG with h|⟨q,t,cW,V,C,D⟩
 ·omega
 ·exact .inr ⟨q,t,cW,V,C.up,D⟩
theorem cE.grown{B:Nat}{ah:cd}{H:fs}{w bj:World}(A:cE B iL sD gp ao ai ah H w){o:Obj}(C:Made w bj o):cE B iL sD gp ao ai ah H bj where
 rel:=A.rel.world (by rw[C.size];omega) λb p D ar=>by obtain⟨x,I⟩:=nJ.1 ar;exact C.d8 _ (A.rel.obj b p x D I).DB
 agree:=A.agree
 size:=by have:=A.size;rw[C.size];omega
 os:=C.os.trans A.os
 tape:=A.tape.trans C.tape
 output:=C.output.trans A.output
 frame:=λk E M=>by rw[C.d8 k (by have:=A.size;omega)];exact A.frame k E M
 own:=A.own
 le:=A.le
end
section
variable {P:Program} {a8:Array Oper} {bK:aa eP} {bs:Nat->mi} {val:Nat->av X}
theorem lR.alloc(R:oR P a8 bK bs val){B:Nat}{ah:cd}{w bj:World}(M:lR P a8 bK bs B iL gp cv c ah w){s:eP}(bv:c<=p)(ar:bK[p]? = some s)(ts:¬ie cv s.i)(ai:s.i<cv.size)(bN:nf a8.toList s.o (bs p).aj=true){e:Fl}(hk:s.k = .iK e)(jf:xx (bs p).aj e = .ok cW){cV:Obj}(pA:pl.ct=w.heap.size)(uG:xz (cut ah (bs p).U) cW cV pl)(hm:Made w bj cV):
  ∃bw:cd,lR P a8 bK bs B iL gp (cv.setIfInBounds s.i true) c bw bj/\bE (cut bw ((bs p).U+1)) (xK (bs p).U cW) (UD cW w.heap.size pl.spare)/\∀m,Sub (cut ah m) (cut bw m):=by
 have ahd:p<bK.length:=ab
 have aN:ko P a8 bK bs (cv.setIfInBounds s.i true) p s cW:=⟨ar,qU.2 J,bN,e,hk,jf⟩
 have Ez:(bs c).U<=(bs p).U:=R.xi bv J;have azO:ah (bs p).U=none:=by
  cases A:ah (bs p).U with
  |none=>rfl
  |some q =>
   rcases M.zv _ q A with h|⟨r,t,D,h1,al,aM⟩
   ·omega
   ·exfalso;rcases Au r p with h|h|h
    ·have:=al.af1 R ahd h;omega
    ·subst h;have:=al.at_;rw[ar]at this;cases this;exact ts al.BM
    ·have:=aN.af1 R al.lt h;omega
 let bw:cd:=λk=>if k=(bs p).U then some pl else ah k
 have C:∀m,Sub (cut ah m) (cut bw m):=λm b q A=>by
  by_cases EA:b<m
  ·rw[pi EA]at A;rw[pi EA]
   grind
  ·rw[p1 J]at A;grind
 have avp:cut bw (bs c).U=cut ah (bs c).U:=funext λb=>by
  by_cases A:b<(bs c).U
  ·rw[pi A,pi A]
   grind
  ·rw[p1 J,p1 J]
 have avq:cut bw ((bs p).U+1)=λk=>if k=(bs p).U then some pl else cut ah (bs p).U k:=funext λb=>by
  by_cases e:b=(bs p).U
  ·subst e;rw[pi J];grind
  ·by_cases A:b<(bs p).U
   ·rw[pi J];simp[bw,e,pi A]
   ·rw[p1 J];simp[e,p1 (Nat.le_of_not_lt A)]
 have E:ee B (cut ah (bs p).U) (λ_=>none) w:={
  base:=M.io.rel.base
  obj:=λb q o _ h=>by cases h
  inj:=ab
  nm:=ab }
 obtain⟨h1,al⟩:=ML.step E (p1 (cB _)) pA uG hm;rw[<-avq]at h1 al;have HQ:mC B (cut bw ((bs p).U+1)) bj pl (tn cW):=by
  refine h1.rel.obj (bs p).U pl (tn cW) ?_ (by simp[fs.put])
  grind
 have wh:¬xw B (cut ah (bs c).U) (u (bs c).h) pl.ct:=λfj=>by have:=M.io.rel.aaN fj;omega
 refine⟨bw,⟨M.le,λq t cz cy=>qU.2 (.inr (M.done q t cz cy)),by rw[avp];exact M.io.grown hm,M.sub,?_,?_,?_⟩,al,C⟩
 ·intro q t D cz dg;rcases dg.set R ar with e|Ey
  ·subst e;have:=dg.at_;rw[ar]at this;cases this;obtain⟨ep,tq,this⟩:=dg.ok;rw[hk]at tq;cases tq;rw[jf]at this;cases this;exact⟨pl,ab,HQ,by rw[pA];exact M.io.size,by rw[pA,hm.size];omega,ab⟩
  ·obtain⟨I,br,g2,c3,dK,gx⟩:=M.ext q t D cz Ey;refine⟨I,ab,g2.mono (C _) (hm.d8 _ dK),c3,by rw[hm.size];omega,ab⟩
 ·intro q r t mX V Z MY MZ cz ba M0 UR eg rm jy;rcases M0.set R ar with aY|N <;> rcases UR.set R ar with aJ|EB
  ·omega
  ·subst aY;obtain⟨I,br,_,_,dK,_⟩:=M.ext r mX Z ba EB
   grind
  ·subst aJ;obtain⟨I,br,_,_,dK,_⟩:=M.ext q t V cz N
   grind
  ·obtain⟨_,br,_⟩:=M.ext q t V cz N;obtain⟨_,g2,_⟩:=M.ext r mX Z ba EB;exact M.pD q r t mX V Z MY MZ cz ba N EB eg ab ab
 ·intro b q A
  by_cases e:b=(bs p).U
  ·grind
  ·have A:ah b=some q:=ab
   rcases M.zv b q A with h|⟨r,t,D,br,g2,c3⟩
   ·omega
   ·exact .inr ⟨r,t,D,br,g2.up,c3⟩
end
section
variable {P:Program} {a8:Array Oper} {bK:aa eP} {bs:Nat->mi} {val:Nat->av X}
theorem lR.fC(R:oR P a8 bK bs val){B:Nat}{iL ah:cd}{gp w bj:World}{cv:Array ak}{c:Nat}(M:lR P a8 bK bs B iL gp cv c ah w){s:eP}(ar:bK[c]? = some s)(ai:s.i<cv.size){e:wx}(hk:s.k = .fC e)
  (bN:nf a8.toList s.o (bs c).aj=true) (ts:¬ie cv s.i) {bw:cd} (hm:cE B (cut ah (bs c).U) (u (bs c).h) w (bs c).U (bs (c+1)).U bw (u (bs (c+1)).h) bj):
  ∃Z:cd,lR P a8 bK bs B iL gp (cv.setIfInBounds s.i true) (c+1) Z bj/\cut Z (bs (c+1)).U=bw/\∀m,Sub (cut ah m) (cut Z m):=by
 have ci:c<bK.length:=ab
 have oL:kw bw (bs (c+1)).U:=(Sq ah (bs c).U).after hm
 let Z:cd:=λb=>if b<(bs (c+1)).U then bw b else ah b
 have zF:cut Z (bs (c+1)).U=bw:=funext λb=>by
  by_cases E:b<(bs (c+1)).U
  ·rw[pi E];grind
  ·rw[p1 J,oL b J]
 have azZ:∀{q:Nat} {t:eP} {cW:kT},c<=q->ko P a8 bK bs cv q t cW->(bs (c+1)).U<=(bs q).U/\c+1<=q:=λ{q t cW} cz dg=>by
  have:q≠c:=by intro e;subst e;have:=dg.at_;rw[ar]at this;cases this;exact ts dg.BM
  exact⟨R.xi J (by have:=dg.lt;omega),J⟩
 have C:∀b q,ah b=some q->Z b=some q:=λb q E=>by
  rcases M.zv b q E with h|⟨r,t,cW,h1,al,aM⟩
  ·have:bw b=some q:=by rw[hm.agree b J,pi h];omega
   grind
  grind
 have D:∀m,Sub (cut ah m) (cut Z m):=λm b q E=>by
  by_cases EA:b<m
  ·rw[pi EA]at E ⊢;grind
  ·rw[p1 J]at E;grind
 have hy:(bs (c+1)).b=(bs (c+1)).h:=by
  cases(R.iP c s ar).ok with
  |fC _ _ _ _ _ _ _ E _=>exact E
  |skip I _ _ _=>rw[bN]at I;cases I
  |vD I _ _ _ _ _ _=>rw[bN]at I;cases I
  |fB _ _ A _ _ _ _=>rw[hk]at A;cases A
  |red _ _ A _ _ _ _ _=>rw[hk]at A;cases A
  |iK _ _ A _ _ _ _ _ _ _=>rw[hk]at A;cases A
 have back:∀{q:Nat} {t:eP} {cW:kT},ko P a8 bK bs (cv.setIfInBounds s.i true) q t cW->ko P a8 bK bs cv q t cW:=λ{q t cW} h=>by
  rcases h.set R ar with e|ac
  ·subst e;have:=h.at_;rw[ar]at this;cases this;have:=h.l1.1;rw[hk]at this;cases this
  ·exact ac
 refine⟨Z,⟨ci,λq t cz cy=>?_,by rw[zF];exact M.io.trans hm,ab,?_,?_,?_⟩,zF,D⟩
 ·rcases jH q c with h|h
  ·exact qU.2 (.inr (M.done q t h cy))
  ·have:q=c:=J
   subst this;rw[ar]at cy;cases cy;exact qU.2 J
 ·intro q t cW cz dg;have dg:=back dg;obtain⟨pl,br,g2,c3,dK,gx⟩:=M.ext q t cW J dg;refine⟨pl,ab,g2.mono (D _) (hm.frame _ dK gx),c3,J2 dK hm.size,?_⟩;rw[zF];intro fj;rcases hm.own _ fj with h|h
  all_goals grind
 ·intro q r t mX MX wk MY MZ cz ba V N eg rm jy;have V:=back V;have N:=back N;obtain⟨_,br,_⟩:=M.ext q t MX J V;obtain⟨_,g2,_⟩:=M.ext r mX wk J N;have aY:=C _ _ br;have aJ:=C _ _ g2;rw[rm]at aY;cases aY;rw[jy]at aJ;cases aJ;exact M.pD q r t mX MX wk _ _ J J V N eg br g2
 ·intro b q E
  by_cases Mm:b<(bs (c+1)).U
  ·omega
  ·have E:ah b=some q:=ab
   rcases M.zv b q E with h|⟨r,t,cW,br,g2,c3⟩
   ·have:=hm.le;omega
   ·exact .inr ⟨r,t,cW,ab,g2.up,c3⟩
end
section
variable {P:Program} {a8:Array Oper} {bK:aa eP} {bs:Nat->mi} {val:Nat->av X}
def ut(bK:aa eP)(c p:Nat):Nat:=(((bK.take p).drop c).filter λs=>iS s.k).length
theorem oR.base(R:oR P a8 bK bs val){c:Nat}:∀{p:Nat},c<=p->p<=bK.length->(ut bK c p=0->(bs p).b=(bs c).b)/\(∀k,ut bK c p=k+1->(bs p).ar[k]? = some (bs c).b)
 |0,h,_=>by
  have:c=0:=J
  subst this;exact⟨ab,λk C=>by simp[ut]at C⟩
 |p+1,h,Z=>by
  by_cases e:c=p+1
  ·subst e;exact⟨ab,λk C=>by simp[ut]at C⟩
  ·obtain⟨N,V⟩:=R.base (c:=c) (p:=p) J J;have ar:bK[p]? = some (bK[p]'J):=ab
   generalize bK[p]'J=s at ar;have D:ut bK c (p+1)=ut bK c p+if iS s.k then 1 else 0:=by
    unfold ut;rw[gQ,ar,JR ab,rJ,jb]
    grind
   cases C:iS s.k with
   |false =>
    rw[C]at D;have M:(bs (p+1)).b=(bs p).b/\(bs (p+1)).ar=(bs p).ar:=by
     cases(R.iP p s ar).ok with
     |skip _ _ _ I=>exact⟨I.2.2.1,I.2.2.2⟩
     |vD _ A _ _ _ _ _=>rw[C]at A;cases A
     |fB _ _ _ _ _ _ I=>exact⟨I.2.2.1,I.2.2.2⟩
     |red _ _ _ _ _ _ _ I=>exact⟨I.2.2.1,I.2.2.2⟩
     |iK _ _ _ _ _ _ _ _ I E=>exact⟨I,E⟩
     |fC _ _ A _ _ _ _ _ _=>rw[A]at C;cases C
    grind
   |true =>
    rw[C]at D;have E:(bs (p+1)).ar=(bs p).b::(bs p).ar:=by
     cases(R.iP p s ar).ok with
     |skip _ A _ _=>rw[C]at A;cases A
     |vD _ _ _ _ _ _ E=>exact E
     |fB _ _ A _ _ _ _=>rw[A]at C;cases C
     |red _ _ A _ _ _ _ _=>rw[A]at C;cases C
     |iK _ _ A _ _ _ _ _ _ _=>rw[A]at C;cases C
     |fC _ _ _ _ _ _ _ _ E=>exact E
    grind
end
section
variable {P:Program} {a8:Array Oper} {bK:aa eP} {bs:Nat->mi} {val:Nat->av X}
theorem aqe(R:ur P a8.toList bK){s:eP}(ar:bK[p]? = some s)(V:c<=p)(D:∀(q:Nat) (t:eP),c<=q->q<p->bK[q]? = some t->iS t.k=true->kJ (ks a8.toList) s.i t.i=false):ut bK c p<=s.wa:=by
 rw[(R.step p s ar).2.2];unfold LU ut;rw[List.filter_map,g5];have C:((bK.take p).drop c).Sublist (bK.take p):=ab
 have h1:(((bK.take p).drop c).filter λs=>iS s.k)=((bK.take p).drop c).filter ((λe=>s1 P a8.toList e&&!kJ (ks a8.toList) s.i e) ∘ λx=>x.i):=by
  apply J3;intro t M;obtain⟨k,A⟩:=tS M;rw[vh,vi]at A
  split at A
  ·rename_i E
   have N:=R.step (c+k) t A;have Z:s1 P a8.toList t.i=iS t.k:=by
    unfold s1;rw[jr,N.1];simp only[FL,J6,Hy]
    grind
   simp only[Function.comp,Z];cases I:iS t.k with
   |false=>rfl
   |true =>
    rw[D (c+k) t J E A I];rfl
  grind
 grind
end
section
variable {P:Program} {a8:Array Oper} {bK:aa eP} {bs:Nat->mi} {val:Nat->av X}
theorem ajn(R:oR P a8 bK bs val)(aU:sE a8 cv){s:eP}(ar:bK[p]? = some s)(E:c<=p)(Z:∀t,bK[c]? = some t->¬ie cv t.i)(ba:s.i∈Region.ready .any a8 cv)(bN:nf a8.toList s.o (bs p).aj=true){e:H5}(M:s.k = .red e):∃D,val p=some D/\pred P (bs p).aj e (bs c).b = .ok D:=by
 have bv:p<bK.length:=ab
 obtain⟨h1,al⟩:=R.base E J;have dr:ut bK c p<=s.wa:=aqe R.lv ar E λq t V hqp cy N=>by
  cases aG:kJ (ks a8.toList) s.i t.i with
  |false=>rfl
  |true =>
   exfalso;have eJ:=aU.Pq ba aG;rcases jH c q with h|h
   ·have I:bK[c]? = some (bK[c]'J):=ab
    exact Z _ I (aU.ahead eJ (R.lv.fC h I cy N))
   grind
 cases(R.iP p s ar).ok with
 |skip C _ _ _=>rw[bN]at C;cases C
 |vD C _ _ _ _ _ _=>rw[bN]at C;cases C
 |fB _ _ A _ _ _ _=>rw[M]at A;cases A
 |iK _ _ A _ _ _ _ _ _ _=>rw[M]at A;cases A
 |fC _ _ A _ _ _ _ _ _=>rw[M]at A;cases A
 |red _ ep A D aI bk dg _ =>
  rw[M]at A;cases A;refine⟨D,aI,?_⟩;cases V:ut bK c p with
  |zero=>rw[<-h1 V];exact bk
  |succ k =>
   obtain⟨ft,br,g2⟩:=dg k J;rw[al k V]at br;cases br;exact g2
end
theorem ee.up{B:Nat}{ah bw:cd}{H:fs}{w:World}(h:ee B ah H w)(ar:Sub ah bw):ee B bw H w:=by
 have down:∀b p,bw b=some p->(H b).isSome->ah b=some p:=λb p D A=>by obtain⟨q,C⟩:=nJ.1 (h.nm b A);rw[ar b q C]at D;grind
 refine⟨h.base,λb p o D I=>?_,λb M p N D V A E=>h.inj b M p N ab ab A E,λb A=>?_⟩
 ·exact(h.obj b p o ab I).mono ar rfl
 ·obtain⟨q,C⟩:=nJ.1 (h.nm b A);rw[ar b q C];rfl
theorem akx{C:Oper}{A:ak}{d:Tmp}(E:o.guard=some (j,A))(D:all[j]? = some C)(I:C.dst=some d):d∈oE all o:=by
 unfold oE;rw[E];simp only;rw[jr,D]
 grind
theorem amT{t:Tmp}(h:Operand.tmp t∈o.op.operands):t∈oE all o:=by unfold oE;simp only[g6];refine .inl (.inr ?_);rw[List.mem_filterMap];exact⟨.tmp t,ab,rfl⟩
section
variable {P:Program}
theorem ajo{d:Nat}{w:ak}(A:z6 all o.guard=some (some (d,w))):d∈oE all o:=by
  unfold z6 at A
  split at A
  · cases A
  · rename_i j b E
    simp only[j4,mw]at A;obtain⟨M,C,I,D,e⟩:=A;cases e;exact akx E C D
theorem aqf{a8:Array Oper}{bK:aa eP}(pA:Sj P a8.toList=some bK){is:aa lD}(Ib:Hc a8.toList bK=some is){L B:Nat}{aj:b8}{U:Nat}{a0:Act}{r:av Nat}{K:b8->ad->Nat->Prop}(oS:hX P is aj h U h [] K)(HS:o2 L B iL aj h U a0 gp)(zw:w6 a0.tmps.size a8.toList=true)(bv:vK L B iL h gp U a0.tmps.size (λx aj h U=>x = .normal/\K aj h U) Q):
    wpAnyIn (nA r) n P .any a8 Q a8.size (Array.replicate a8.size false) a0 gp:=by
  have lv:=aiQ pA;obtain⟨bs,val,⟨oQ,gG,eL,yo,_⟩,wl,ha⟩:=af0 bK is ⟨aj,h,U,h,[]⟩ Ib oS;have gG:(bs 0).h=h:=gG;have eL:(bs 0).U=U:=eL;have yo:(bs 0).b=h:=yo;have EC:o2 L B iL (bs 0).aj (bs 0).h (bs 0).U a0 gp:=by rw[gG,eL];exact⟨HS.rel,HS.e5,HS.iP.same oQ,HS.marks,HS.low⟩
  rw[<-gG,<-eL]at bv;have R:oR P a8 bK bs val:=⟨lv,wl⟩
  have main:∀(D:Nat) (cv:Array ak) (a:Act) (w:World) (ah:cd) (c:Nat),sE a8 cv->lR P a8 bK bs B iL gp cv c ah w->Bu bK bs cv ah a->(∀s,bK[c]? = some s->¬ie cv s.i) ->
      a.tmps.size=a0.tmps.size->a.defers=a0.defers->left a8 cv<=D->wpAnyIn (nA r) n P .any a8 Q D cv a w:=by
    intro D;have fin:∀(cv:Array ak) (a:Act) (w:World) (ah:cd) (c:Nat),sE a8 cv->lR P a8 bK bs B iL gp cv c ah w->Bu bK bs cv ah a->(∀s,bK[c]? = some s->¬ie cv s.i) ->
        a.tmps.size=a0.tmps.size->a.defers=a0.defers->Region.ready .any a8 cv=[]->Q .normal a w:=by
      intro cv a w ah c C M eH zG h3 Ig ba;have aU:c=bK.length:=amS R C M.done zG ba M.le;subst aU;have kN:=M.io;refine bv .normal _ _ _ _ a w ⟨rfl,ha⟩ kN ⟨kN.rel,Sq _ _,λd v V=>?_,?_,hu EC.low kN.size⟩ h3
      · refine eH bK.length d J (λq s cz ar _=>M.done q s cz ar) (λq s cz ar _=>?_) v V
        grind
      · rw[Ig];exact EC.marks.io kN
    induction D with
    |zero =>
      intro cv a w ah c C M eH zG h3 Ig bg;have ba:Region.ready .any a8 cv=[]:=by
        cases se:Region.ready .any a8 cv with
        |nil=>rfl
        |cons i is =>
          exfalso;have ai:i∈Region.ready .any a8 cv:=ab
          obtain⟨ts,o,fj,_⟩:=mem_ready.1 ai;have ci:=(Array.getElem?_eq_some_iff.1 fj).1;have:=aaO C.size ci ((PE ab).1 ts);omega
      exact⟨ba,fin cv a w ah c C M eH zG h3 Ig ba⟩
    |succ D ev =>
      intro cv a w ah c C M eH zG h3 Ig bg;refine⟨λba=>fin cv a w ah c C M eH zG h3 Ig ba,λi ai=>?_⟩;obtain⟨axs,o,fj,_⟩:=mem_ready.1 ai;have ci:=(Array.getElem?_eq_some_iff.1 fj).1;obtain⟨p,s,ar,rfl⟩:=lv.cover i J;have pE:=(lv.step p s ar).1;have ho':a8[s.i]? = some s.o:=ab
      rw[ho']at fj;cases fj;have tp:s.i<cv.size:=ab
      have ts:=(PE tp).1 axs;have Ez:c<=p:=by
        rcases jH p c with h|h
        · exact absurd (M.done p s h ar) ts
        omega
      have ahd:p<bK.length:=ab
      have look:∀d,d∈oE a8.toList s.o->∀v,hG (bs p).aj d=some v->bE (cut ah (bs p).U) (r0 v) (a.tmps.getD d undef):=λd bu=>eH.look R C ar ai bu;obtain⟨g,a5,Ic⟩:=(wl p s ar).g;have hwq:Region.wanted s.o (yielded a8 a.tmps)=nf a8.toList s.o (bs p).aj:=by unfold nf;rw[a5];exact Zp a5 Ic λd w v e V=>look d (ajo (by rw[<-e];exact a5)) v V
      have Mn:Loc (cut ah (bs p).U) (bs p).aj a.tmps s.o.op.operands:=λt v cy V=>look t (amT cy) v V;have avr:∀d,s.o.dst=some d->d<a.tmps.size:=by rw[h3];exact acx zw (jp pE)
      have avs:left a8 (cv.setIfInBounds s.i true)<=D:=by have:=aaO C.size ci ts;omega
      have avt:∀(eF:Nat) (lY:eP),c<=eF->bK[eF]? = some lY->ie cv lY.i->iS lY.k=false:=λeF lY xS lP BN=>by
        cases tq:iS lY.k with
        |false=>rfl
        |true =>
        exfalso;rcases jH c eF with h|h
        · have lA:bK[c]? = some (bK[c]'J):=ab
          exact zG _ lA (C.ahead BN (lv.fC h lA lP tq))
        grind
      have N:∀(bw:cd) (bj:World) (ge:X) (c1:Nat),lR P a8 bK bs B iL gp (cv.setIfInBounds s.i true) c1 bw bj->c<=c1->(c1<=p->iS s.k=false\/nf a8.toList s.o (bs p).aj=false) ->
          bE (cut bw (bs (p+1)).U) (r0 (val p)) ge->(∀m,Sub (cut ah m) (cut bw m))->wpAnyIn (nA r) n P .any a8 Q D (cv.setIfInBounds s.i true) (a.put s.o.dst ge) bj:=by
        intro bw bj ge c1 aBr BI ED V oK;obtain⟨c2,aBs,axt⟩:=lR.advance R (bK.length-c1) c1 J aBr λeF lY xS lP BN=>by
          rcases Nat.decEq eF p with eg|rfl
          · left
            refine avt eF lY J lP ?_;rw[qU]at BN;rcases BN with⟨e,_⟩|BN
            · exact absurd e (lv.ne lP ar eg)
            · exact BN
          grind
        exact ev _ _ _ bw c2 (C.set ai) aBs (eH.step R C oK ar ai V avr) axt (by rw[Act.P9];omega) (by rw[Act.Yf];omega) avs
      unfold wpOpIn;simp only[ho'];rw[hwq];have I:=(lv.step p s ar).2.1;have i0:=(wl p s ar).ok;cases E:nf a8.toList s.o (bs p).aj with
      |false =>
        simp only[nK,fc];refine⟨λ_ _=>trivial,?_⟩;have TK:val p=none:=by
          cases i0 with
          |skip _ _ V _=>exact V
          |vD _ _ V _ _ _ _=>exact V
          |fB A _ _ _ _ _ _=>rw[E]at A;cases A
          |iK A _ _ _ _ _ _ _ _ _=>rw[E]at A;cases A
          |red A _ _ _ _ _ _ _=>rw[E]at A;cases A
          |fC A _ _ _ _ _ _ _ _=>rw[E]at A;cases A
        exact N ah w undef c (M.quiet R ar (.inl E)) J (λ_=>.inr E) (by rw[TK];exact t5) (λm _ _ h=>h)
      |true =>
        simp only[if_true];refine⟨λ_ _=>trivial,?_⟩;show s.o.uponIn (nA r) n P a _ Q ((s.o.semAt r a.eval).run P w);cases i0 with
        |skip A _ _ _=>rw[E]at A;cases A
        |vD A _ _ _ _ _ _=>rw[E]at A;cases A
        |fB _ e Z aT wi bk aG =>
          rw[Z]at I;rw[Oper.semAt_eq r a.eval s.o (AJ I)];obtain⟨ge,V,um⟩:=act s.o Mn I bk;rw[um w];exact N ah w ge c (M.quiet R ar (.inr λe=>by rw[Z];simp)) J (λ_=>.inl (by rw[Z];rfl)) (by rw[aG.2.1,wi];exact V) (λm _ _ h=>h)
        |red _ e Z aT wi bk dg aG =>
          obtain⟨u',Eu,hre⟩:=ajn R C ar Ez zG ai E Z;rw[wi]at Eu;cases Eu;rw[Z]at I;rw[Oper.semAt_eq r a.eval s.o (AJ I)];have axu:ee B (cut ah (bs p).U) (u (bs c).b) w:=(M.io.rel.less M.sub).up (Q1 ah (R.xi Ez J));obtain⟨ge,V,um⟩:=acw axu s.o Mn I hre;rw[um];exact N ah w ge c (M.quiet R ar (.inr λe=>by rw[Z];simp)) J (λ_=>.inl (by rw[Z];rfl)) (by rw[aG.2.1,wi];exact V) (λm _ _ h=>h)
        |iK _ e Z cW bk wi ft US aG BL =>
          have EE:=Z;rw[Z]at I;rw[Oper.semAt_eq r a.eval s.o (AJ I)];obtain⟨cV,pl,bj,pA,uG,avu,um⟩:=acu s.o Mn I bk w;obtain⟨bw,u4,V,oK⟩:=M.alloc R Ez ar ts tp E Z bk pA uG avu;rw[um];exact N bw bj _ c u4 J (λ_=>.inl (by rw[Z];rfl)) (by rw[US,wi];exact V) oK
        |fC _ e Z aT wi bk US aG BL =>
          have uI:p=c:=by
            rcases jH c p with h|h
            · exfalso
              have lA:bK[c]? = some (bK[c]'J):=ab
              exact zG _ lA (C.Pq ai (lv.fC h lA ar (by rw[Z];rfl)))
            omega
          subst uI;rw[Z]at I;refine aaH M.io.rel (Sq _ _) s.o Mn I bk ?_;intro v ac Y bw ge bj tr V hm;obtain⟨rfl,rfl,rfl⟩:=tr;obtain⟨ρn,u4,zF,oK⟩:=M.fC R ar tp Z E ts hm;exact N ρn bj ge (p+1) u4 J (λh=>J) (by rw[zF,wi];exact V) oK
  have Ex:∀i,¬ie (Array.replicate a8.size false) i:=λi bg=>by
    unfold ie at bg
    by_cases ai:i<a8.size <;> simp[qN,ai]at bg
  have af2:cut iL (bs 0).U=iL:=aqd iL EC.e5;have aBt:lR P a8 bK bs B iL gp (Array.replicate a8.size false) 0 iL gp :=
    { le:=Nat.zero_le _
      done:=λq s cz=>J
      io:=by rw[af2];exact cE.refl _ EC.rel
      sub:=by rw[show(bs 0).b=(bs 0).h by rw[yo,gG]];exact λ_ _ h=>h
      ext:=λp s cW _ dg=>absurd dg.BM (Ex _)
      pD:=λp q s t cW nb' pl UQ _ _ dg=>absurd dg.BM (Ex _)
      zv:=λb pl aG=>by
        left
        rcases jH b (bs 0).U with h|h
        · exact h
        · rw[EC.e5 b h]at aG;grind }
  refine main a8.size _ a0 gp iL 0 ⟨by simp,λj o e bg=>absurd bg (Ex _)⟩ aBt ?_ (λs _=>Ex _) rfl rfl ?_
  · intro j d bM aG bx v V
    have avv:∀k,k<=j->hG (bs k).aj d=hG (bs 0).aj d:=by
      intro k
      induction k with
      |zero=>intro _;rfl
      |succ k ev =>
        intro Z;have ar:bK[k]? = some (bK[k]'J):=jU _;generalize bK[k]'J=s at ar;rw[(wl k s ar).mf d,if_neg (λe=>Ex _ (aG k s J ar e))];exact ev J
    rw[avv j (cB _)]at V;have:=EC.iP d v V;rw[<-af2]at this;exact this.mono (Q1 iL (R.xi (Nat.zero_le _) bM))
  · unfold left
    grind
end
section
variable {P:Program} {s:ak}
theorem ib{r:R aA}{k dp:aA->Prop}(h:ag r k)(A:∀v,k v->dp v):ag r dp:=by
 cases r <;> first|exact A _ h|exact h
theorem AQ{a b A C:Prop}(h:bJ v a b)(D:a->A)(E:b->C):bJ v A C:=by
 rcases ug h with⟨rfl,h⟩|⟨rfl,h⟩
 ·exact D h
 ·exact E h
theorem Q2(h:dB r k)(A:∀v h U,k v h U->dp v h U):dB r dp:=by
 cases r <;> first|exact A _ _ _ h|exact h
theorem aaP(h:gB P s r k)(A:∀v h U,k v h U->dp v h U):gB P s r dp:=by
 cases r <;> first|exact aD.mono h A|exact mg.mono h A|exact h
theorem Di{aj:b8}{C A M I:b8->Prop}(h:lE g aj C A)(E:∀aj,C aj->M aj)(D:∀aj,A aj->I aj):lE g aj M I:=by
 cases g with
 |none=>exact E _ h
 |some g =>
  obtain⟨t,w⟩:=g;simp only[lE]at h ⊢
  split at h
  ·cases w <;> exact AQ h (by first|exact E _|exact D _) (by first|exact E _|exact D _)
  ·exact D _ h
  ·exact h
theorem Lb{aj:b8}{U:Nat}(C:nB P s e aj h U k)(A:∀v h U,k v h U->dp v h U):nB P s e aj h U dp:=by
 cases e with
 |st n a x=>exact ib C λ_ h=>ib h λ_ h=>ib h λ_=>A _ _ _
 |zC t m k x=>exact ib C λ_ h=>ib h λ_ h=>ib h λ_ h=>ib h λ_=>A _ _ _
 |jW x=>exact ib C λ_ h=>Q2 h A
 |fW x=>exact ib C λ_ ⟨a,b,c,d,e,f,g,h1,M,N,Z,I,V,D⟩=>⟨a,b,c,d,e,f,g,h1,M,N,Z,I,λh=>A _ _ _ (V h),λe E=>⟨(D e E).1,A _ _ _ (D e E).2⟩⟩
 |call f args=>exact ib C λ_ h=>aD.mono h A
 |Bb f args=>exact ib C λ_ h=>ib h λ_ h=>aaP h A
 |app z x y=>exact ib C λ_ h=>ib h λ_ h=>Q2 h A
 |bi b af args=>exact ib C λ_ h=>Q2 h A
 |inv r m args=>exact ib C λ_ h=>ib h λ_ h=>aaP h A
theorem LA{aj:b8}{U:Nat}{k:b8->ad->Nat->Prop}:mh P s d (.fC e) aj h U k=nB P s e aj h U λv h U=>k (et aj d (some v)) h U:=rfl
theorem Lc{i:lD}{aj:b8}{U:Nat}{K:b8->ad->Nat->Prop}:nC P s (i::l) aj h U K=lE i.g aj (λaj=>mh P s i.d i.k aj h U λaj h U=>nC P s l aj h U K) (λaj=>nC P s l (et aj i.d none) h U K):=rfl
theorem Q3{i:lD}{aj:b8}{U:Nat}{b:ad}{K:b8->ad->Nat->Prop}:hX P (i::l) aj h U b ar K=lE i.g aj (λaj=>lQ P i.d i.c i.k aj h U b ar λaj h U b ar=>hX P l aj h U b ar K)
 (λaj=>if iS i.k=true then hX P l (et aj i.d none) h U h (b::ar) K else hX P l (et aj i.d none) h U b ar K):=by
 have e:hX P (i::l) aj h U b ar K=lE i.g aj (λaj=>lQ P i.d i.c i.k aj h U b ar λaj h U b ar=>hX P l aj h U b ar K)
  (λaj=>Bool.rec (hX P l (et aj i.d none) h U b ar K) (hX P l (et aj i.d none) h U h (b::ar) K) (iS i.k)):=rfl
 rw[e]
 congr 1
 funext aj
 cases iS i.k <;> rfl
theorem Q4{i:nz}{aj:b8}{U:Nat}{k dp:b8->ad->Nat->Prop}(A:mh P s d i aj h U k)(C:∀p h U,k p h U->dp p h U):mh P s d i aj h U dp:=by
 cases i with
 |fB e=>cases e <;> first|exact ib A λ_=>C _ _ _|exact ib A λ_ h=>ib h λ_ h=>ib h λ_ h=>AQ h (C _ _ _) (C _ _ _)
 |iK e=>exact ib A λ_=>C _ _ _
 |red e=>exact ib A λ_=>C _ _ _
 |fC e=>rw[LA]at A ⊢;exact Lb A λ_ _ _=>C _ _ _
theorem Ld:∀{l:aa lD} {aj:b8} {h:ad} {U:Nat} {k dp:b8->ad->Nat->Prop},nC P s l aj h U k->(∀p h U,k p h U->dp p h U)->nC P s l aj h U dp
 | [],_,_,_,_,_,A,C=>C _ _ _ A
 |i::l,_,_,_,_,_,A,C=>by rw[Lc]at A ⊢;exact Di A (λ_ h=>Q4 h λ_ _ _ h=>Ld (l:=l) h C) (λ_ h=>Ld (l:=l) h C)
theorem aaQ{i:nz}{aj:b8}{U:Nat}{b:ad}{k dp:b8->ad->Nat->ad->aa ad->Prop}(C:lQ P d c i aj h U b ar k)(A:∀p h U b ar,k p h U b ar->dp p h U b ar):lQ P d c i aj h U b ar dp:=by
 have I:∀{f:ad->R X} {v:X} {p q:Prop} (_:p->q) {n:Nat} {ar:aa ad},py f v p n ar->py f v q n ar:=λ{f v p q} D {n}=>by
  induction n with
  |zero=>intro ar h;exact D h
  |succ n E=>intro ar h;cases ar with
   |nil=>exact h
   |cons x M=>exact⟨h.1,E h.2⟩
 cases i with
 |fB e=>cases e <;> first|exact ib C λ_=>A _ _ _ _ _|exact ib C λ_ h=>ib h λ_ h=>ib h λ_ h=>AQ h (A _ _ _ _ _) (A _ _ _ _ _)
 |iK e=>exact ib C λ_=>A _ _ _ _ _
 |red e=>exact ib C λ_ h=>by cases c <;> first|exact A _ _ _ _ _ h|exact I (A _ _ _ _ _) h
 |fC e=>rw[GN]at C ⊢;exact Lb C λ_ _ _ h=>⟨h.1,A _ _ _ _ _ h.2⟩
theorem GO:∀{l:aa lD} {aj:b8} {h:ad} {U:Nat} {b:ad} {ar:aa ad} {k dp:b8->ad->Nat->Prop},hX P l aj h U b ar k->(∀p h U,k p h U->dp p h U)->hX P l aj h U b ar dp
 | [],_,_,_,_,_,_,_,C,A=>A _ _ _ C
 |i::l,_,_,_,_,_,_,_,C,A=>by
  rw[Q3]at C ⊢;refine Di C (λ_ h=>aaQ h λ_ _ _ _ _ h=>GO (l:=l) h A) (λ_ h=>?_)
  split at h <;> rename_i e
  ·rw[if_pos e];exact GO (l:=l) h A
  ·rw[if_neg e];exact GO (l:=l) h A
theorem xj{aj:b8}:∀{L:aa Nat} {k:aa X->Prop},lZ L aj k->∃aE,k aE/\(∀dp,dp aE->lZ L aj dp)/\∀i n,L[i]? = some n->∃v,hG aj n=some v/\aQ aE i=r0 v
 | [],k,h=>⟨[],h,λ_ h=>h,λi n h=>by cases h⟩
 |n::L,k,h=>by
  unfold lZ at h
  split at h
  ·rename_i v A
   obtain⟨aE,I,C,D⟩:=xj h;refine⟨v::aE,I,λdp E=>by unfold lZ;rw[A];exact C _ E,λi m ai=>?_⟩;cases i with
   |zero=>cases ai;exact⟨_,A,rfl⟩
   |succ i=>exact D i m ai
  ·rename_i A
   obtain⟨aE,I,C,D⟩:=xj h;refine⟨km::aE,I,λdp E=>by unfold lZ;rw[A];exact C _ E,λi m ai=>?_⟩;cases i with
   |zero=>cases ai;exact⟨_,A,rfl⟩
   |succ i=>exact D i m ai
  ·exact h.elim
theorem aaR{aE:aa X}{d:Nat}{A:av X}:∀{L:aa Nat} {j:Nat},hG (nY L aE j) d=some A->∃i,L[i]? = some d/\A=some (aQ aE (j+i))
 | [],j,h=>by cases h
 |n::L,j,h=>by
  have h:hG ((n,some (aQ aE j))::nY L aE (j+1)) d=some A:=h;rw[yV]at h
  by_cases e:n=d
  ·rw[if_pos e]at h;cases h;exact⟨0,by simp[e],rfl⟩
  ·rw[if_neg e]at h;obtain⟨i,C,D⟩:=aaR h;exact⟨i+1,C,by rw[D];congr 2;omega⟩
theorem jP.sB{ah:cd}{aj:b8}{t:Array X}(M:jP ah aj t){k:aa X->Prop}(h:lZ L aj k):∃aE,k aE/\jP ah (nY L aE 0) t:=by obtain⟨aE,I,_,C⟩:=xj h;refine⟨aE,I,λd A E=>?_⟩;obtain⟨i,ai,rfl⟩:=aaR E;obtain⟨v,D,e⟩:=C i d ai;show bE ah (aQ aE (0+i)) _;rw[ix,e];exact M d v D
theorem Dj{aj:b8}{k dp:aa X->Prop}(h:lZ L aj k)(C:∀aE,k aE->dp aE):lZ L aj dp:=by obtain⟨aE,A,D,_⟩:=xj h;exact D _ (C _ A)
theorem Le{L:aa Nat}{i:Nat}{aj:b8}{h:ad}{U:Nat}:∀{E:aa (Nat × aH)},jx (r3 L E) i aj h U->lZ L aj λaE=>jx E i aE h U
 | [],A=>A.elim
 |p::E,A=>by
  have A:(bif Nat.beq p.1 i then rb L p.2 else jx (r3 L E) i) aj h U:=A;show lZ L aj λaE=>(bif Nat.beq p.1 i then p.2 else jx E i) aE h U;cases C:Nat.beq p.1 i <;> rw[C]at A
  ·exact Le A
  ·exact A
theorem Q5{L:aa Nat}{i:Nat}{aj:b8}{h:ad}{U:Nat}:∀{E:aa (Nat × aH)},(lZ L aj λaE=>jx E i aE h U)->jx (r3 L E) i aj h U
 | [],A=>by obtain⟨_,h,_⟩:=xj A;exact h
 |p::E,A=>by
  have A:lZ L aj λaE=>(bif Nat.beq p.1 i then p.2 else jx E i) aE h U:=A;show(bif Nat.beq p.1 i then rb L p.2 else jx (r3 L E) i) aj h U;cases C:Nat.beq p.1 i <;> rw[C]at A
  ·exact Q5 A
  ·exact A
theorem y5{L:aa Nat}{c:iE}{i:Nat}{aE:aa X}{h:ad}{U:Nat}:∀{E:aa (Nat × ig)},jx (rk L c E) i aE h U↔pr i c=true/\jx E i (nY L aE 0) h U
 | []=>⟨λh=>h.elim,λh=>h.2⟩
 |p::E=>by
  show jx (bif pr p.1 c then(p.1,Et L p.2)::rk L c E else rk L c E) i aE h U↔pr i c=true/\(bif Nat.beq p.1 i then p.2 else jx E i) (nY L aE 0) h U;have C:=y5 (L:=L) (c:=c) (i:=i) (aE:=aE) (h:=h) (U:=U) (E:=E);cases A:Nat.beq p.1 i with
  |false =>
   cases D:pr p.1 c with
   |false=>exact C
   |true =>
    show(bif Nat.beq p.1 i then Et L p.2 else jx (rk L c E) i) aE h U↔_;rw[A];exact C
  |true =>
   have e:=g4 A;subst e;cases D:pr p.1 c with
   |false=>exact⟨λh=>by rw[lH,C,D]at h;exact absurd h.1 (by simp),λh=>absurd h.1 (by simp)⟩
   |true =>
    show(bif Nat.beq p.1 p.1 then Et L p.2 else jx (rk L c E) p.1) aE h U↔_;rw[A];exact⟨λh=>⟨rfl,h⟩,λh=>h.2⟩
theorem AR{c:iE}{R:ig}{U:Nat}:xN L c R aE h U↔r2 c=true/\R (nY L aE 0) h U:=by
 unfold xN;cases r2 c with
 |false=>exact⟨λh=>h.elim,λh=>by cases h.1⟩
 |true=>exact⟨λh=>⟨rfl,h⟩,λh=>h.2⟩
theorem Q6:∀(c:iE) {i:Nat} {aj:b8} {h:ad} {U:Nat} {N V:ig} {E M:aa (Nat × ig)} {R Z:ig},fP P s eW c i aj h U N E R->(∀p h U,N p h U->V p h U)->(∀j p h U,jx E j p h U->jx M j p h U)->(∀p h U,R p h U->Z p h U)->fP P s eW c i aj h U V M Z:=by
 intro c
 induction c with
 |skip=>intro i aj h U N V E M R Z A C I D;exact C _ _ _ A
 |exit id=>intro i aj h U N V E M R Z A C I D;exact I _ _ _ _ A
 |ret=>intro i aj h U N V E M R Z A C I D;exact D _ _ _ A
 |scope c ev=>intro i aj h U N V E M R Z A C I D;exact ev A C I D
 |ta l=>intro i aj h U N V E M R Z A C I D;exact Ld A C
 |Bl l=>intro i aj h U N V E M R Z A C I D;exact GO A C
 |no=>intro i aj h U N V E M R Z A C I D;exact A
 |yl f bW a b =>
  intro i aj h U N V E M R Z A C I D;refine ib A λv aI=>?_;unfold uB at aI ⊢
  split at aI
  ·exact aD.mono aI λv h U ⟨st,p,mf,bW,a,b,h1,al,aM⟩=>⟨st,p,mf,bW,a,b,h1,al,aM.imp (λh=>⟨h.1,C _ _ _ h.2⟩) (λh=>⟨h.1,D _ _ _ h.2⟩)⟩
  ·exact aI
 |seq a b xT xU=>intro i aj h U N V E M R Z A C I D;exact xT A (λ_ _ _ h=>xU h C I D) I D
 |block id c ev =>
  intro i aj h U N V E M R Z A C I D;refine ev A C (λj p h U ft=>?_) D;have ft:(bif Nat.beq id j then N else jx E j) p h U:=ft;show(bif Nat.beq id j then V else jx M j) p h U;cases aG:Nat.beq id j <;> rw[aG]at ft
  ·exact I _ _ _ _ ft
  ·exact C _ _ _ ft
 |cond x a b xT xU =>
  intro i aj h U N V E M R Z A C I D;cases x with
  |v v=>exact AQ A (λh=>xT h C I D) (λh=>xU h C I D)
  |t n =>
   simp only[fP]at A ⊢
   split at A
   ·exact AQ A (λh=>xT h C I D) (λh=>xU h C I D)
   ·exact A
 |loop c ev =>
  intro i aj h U N V E M R Z A C I D;refine Dj A λaE ⟨eI,m,ap,dZ⟩=>⟨eI,m,ap,λm aE h U bM=>ev (dZ m aE h U bM) (λ_ _ _ h=>h) (λj p h U ft=>?_) (λp h U ft=>?_)⟩
  ·exact Q5 (Dj (Le ft) λaE h=>y5.2 ⟨(y5.1 h).1,I _ _ _ _ (y5.1 h).2⟩)
  ·exact Dj ft λaE h=>AR.2 ⟨(AR.1 h).1,D _ _ _ (AR.1 h).2⟩
end
def Jo(N:ig)(E:aa (Nat × ig))(R:ig):MT:=λx=>match x with
 | .normal=>N
 | .exit i=>jx E i
 | .ret=>R
def lS:Code->ak
 | .seq a b=>lS a&&lS b
 | .cond _ a b=>lS a&&lS b
 | .block _ c=>lS c
 | .loop c=>lS c
 | .scope c=>lS c
 | .rangeFunc _ _ _ _=>false
 |_=>true
structure ql (P:Program):Prop where
 mixed:P.follows .mixedOrders=true
 names:∀(f:FuncId) (fn:Func),P.funcs[f]? = some fn->(fn.name == "runtime.NumGoroutine")=false
 fit:∀(f:FuncId) (fn:Func) (c:Code),P.funcs[f]? = some fn->fn.body=some c->ln fn.ntmps c=true
def GP(fn:Func):ak:=!(fn.name == "runtime.NumGoroutine")&&(match fn.body with|some c=>ln fn.ntmps c|none=>true)
theorem ql.of{P:Program}(D:P.follows .mixedOrders=true)(E:P.funcs.toList.all GP=true):ql P:=by
 have A:∀(f:FuncId) (fn:Func),P.funcs[f]? = some fn->GP fn=true:=ab
 refine⟨D,λf fn h=>?_,λf fn c h C=>?_⟩
 ·have:=A f fn h;simp only[GP,eD,OT]at this
  grind
 ·have:=A f fn h;simp only[GP,C,eD]at this
  grind
section
variable {P:Program} {B:Nat}
theorem cE.push{ah:cd}{H:fs}{w:World}(A:ee B ah H w)(U:Nat)(o:Obj):cE B ah H w U U ah H { w with heap:=w.heap.push o } where
 rel:=A.world (by simp) λb p C ar=>by
  obtain⟨x,D⟩:=nJ.1 ar;have:=(A.obj b p x C D).DB
  grind
 agree:=ab
 size:=by simp
 os:=rfl
 tape:=.here
 output:=rfl
 frame:=ab
 own:=ab
 le:=J
theorem ee.Lf{ah:cd}{H:fs}{w:World}(I:ee B ah H w){p:Place}{A:av Code}{C:b8}(E:ah b=some p)(M:H b=some (.loop st A C bW sc body)):
  ∃l:Loop,B<=p.ct/\w.heap[p.ct]? = some (.loop l)/\Uv l.state=st/\l.pending=A/\jP ah C l.tmps/\l.params.toList=bW/\l.assign=sc/\l.body=body /\
   ln l.tmps.size sc=true/\ln l.tmps.size body=true/\(∀q∈bW,q<l.tmps.size):=by obtain⟨N,l,D⟩:=I.obj b p _ E M;exact⟨l,N,D⟩
theorem Pj{w:World}{k:Nat}{l:Loop}(h:w.heap[k]? = some (.loop l)):(Instr.getLoop k).run P w = .ok l w:=by have:=rL (P:=P) h ab;simp[Instr.getLoop,this]
theorem bE.amU{ah:cd}{a b:Array X}{c:X}(h:bE ah (.func (.func f) a b) c):∃A C:aa X,c = .func (.func f) ⟨A⟩ ⟨C⟩/\dm ah a.toList A/\dm ah b.toList C:=by
 cases h with
 |func _ D E=>exact⟨_,_,rfl,D,E⟩
theorem avw{f:Operand}{bW:Array Tmp}{aj:b8}{U:Nat}{x:e2}(aR:co f=some x)(aI:dR aj x = .ok v)(ar:uB P false v h U (.loop 0 none aj bW.toList sc body) K){L:Nat}{ah:cd}{w:World}(A:o2 L B ah aj h U a w)(zw:ln a.tmps.size (.rangeFunc f bW sc body)=true){N R:ad->Nat->Prop}(ha:K=zu U N R)(bv:vK L B ah h w U a.tmps.size (λx pC h U=>pC=aj/\(match x with | .normal=>N h U | .ret=>R h U | .exit _=>False)) Q):(Code.rangeFunc f bW sc body).wpIn (nA none) n P Q a w:=by
 have xP:=(A.iP.loc #[f]).ej (by simp) aR aI;unfold uB at ar
 split at ar
 ·rename_i g x y
  obtain⟨fY,qC,sd,aR,ca⟩:=xP.amU;have ar:lz P g _ _ _ K:=ar;obtain⟨⟨fn0,EF,sf,uJ⟩,avx⟩:=ar;simp only[ln,eD,CP,wM]at zw;refine wpIn_rangeFunc λfn _=>?_;have TL:∃(C:World) (E:aa Deferred) (bt:Nat),cE B ah (u h) w U U ah (u h) C/\p6 L B ah (u h) C (E++a.defers) /\
    (Instr.enterLoop fn a.tmps bW sc body none).run P w = .ok (C.heap.size,E) { C with heap:=C.heap.push (.loop { state:=.ready,pending:=none,fn,tmps:=a.tmps,params:=bW,assign:=sc,body,defers:=bt }) }:=by
   have kN:=cE.push A.rel U (.deferred (some []));refine⟨{ w with heap:=w.heap.push (.deferred (some [])) },[{ target:=.collected w.heap.size,args:=#[] }],w.heap.size,kN,⟨⟨w.heap.size,A.low,rfl,by simp,λfj=>?_,?_⟩,A.marks.io kN⟩,?_⟩
   ·have:=A.rel.aaN fj;omega
   ·intro Jm UT bk;have:∀(bt:aa Deferred),p6 L B ah (u h) w bt->Jm∈bt->False:=by
     intro bt
     induction bt with
     |nil=>grind
     |cons d bt ev =>
      rintro⟨⟨r,_,h1,al,_,_⟩,aM⟩ bu
      grind
    exact this _ A.marks UT
   ·simp[Instr.enterLoop,AD];rfl
  obtain⟨C,E,bt,TM,UU,um⟩:=TL
  let p:Place:=⟨C.heap.size,0,0,0⟩
  let tt:cd:=λk=>if k=U then some p else ah k
  have LS:tt U=some p:=ab
  have oK:Sub ah tt:=λb q aG=>by
   by_cases e:b=U
   ·subst e;rw[A.e5.here]at aG;grind
   grind
  have TN:=Made.push C (.loop { state:=.ready,pending:=none,fn,tmps:=a.tmps,params:=bW,assign:=sc,body,defers:=bt });have qi:mC B tt { C with heap:=C.heap.push (.loop { state:=.ready,pending:=none,fn,tmps:=a.tmps,params:=bW,assign:=sc,body,defers:=bt }) } p (.loop 0 none aj bW.toList sc body):=
   ⟨TM.rel.base,_,TN.new,rfl,rfl,A.iP.mono oK,rfl,rfl,rfl,ab,zw.2,ab⟩
  have M:=cE.make TM.rel A.e5.here TN.size TN.d8 rfl .here rfl  rfl qi;rw[<-vy]at M;have af3:=TM.trans M;have TO:kw tt (U+1):=A.e5.after af3;have UV:bE tt (.func (.yield U) #[] #[]) (.func (.yield C.heap.size) #[] #[]):=.yield  LS;have avy:dm tt (x.toList++(Value.func (.yield U) #[] #[]::y.toList)) (fY++(Value.func (.yield C.heap.size) #[] #[]::qC)):=(aR.mono oK).append (.cons UV (ca.mono oK));have hci:=avx B tt _ _ M.rel TO avy (n-1);generalize uE:({ C with heap:=C.heap.push (.loop { state:=.ready,pending:=none,fn,tmps:=a.tmps,params:=bW,assign:=sc,body,defers:=bt }) }:World)=Aa at *
  refine⟨C.heap.size,E,Aa,{ target:=.fn (.func g) ⟨qC⟩,args:=⟨fY⟩++#[Value.func (.yield C.heap.size) #[] #[]] },Aa,g,⟨fY++(Value.func (.yield C.heap.size) #[] #[]::qC)⟩,Aa,um,?_,λ_ _=>trivial,?_,λh=>by simp[nA,Fence.wide]at h,?_⟩
  ·have atq:a.eval (.const (.func (.yield C.heap.size) #[] #[])) = .func (.yield C.heap.size) #[] #[]:=rfl;simp[resolve,rangeCall,sd,Deferred.ofValue,atq]
  ·have aG:fn0.body≠none:=ab
   have zH:fn0.name ≠ "runtime.NumGoroutine" := by grind
   simp[invoke,callFunc,EF,zH,aG]
  ·rw[aax];refine hci.mono λe V bk=>?_;obtain⟨l0,ac,Y,bw,c,rfl,hk,UW,hm⟩:=bk;have oL:=TO.after hm;have M1:bw U=some p:=(TO.sub hm) _ _ LS;subst ha;obtain⟨st,HI,BF,BO,eo,ck,a5,Mo,hk⟩:=hk;obtain⟨Z,dZ,BP,i0,hpd,wl,Mp,TP,TQ,axv,axw,axx⟩:=hm.rel.Lf M1 a5;subst hpd;have qm:=Pj (P:=P) BP;have uG:Z.state≠.busy:=by intro h;rw[h]at i0;subst i0;exact Mo rfl
   have TR:=vs (P:=P)  (o:=.loop { Z with state:=.exhausted }) BP ab;have TS:(Instr.endLoop C.heap.size).run P V = .ok Z.pending { V with heap:=V.heap.setIfInBounds C.heap.size (.loop { Z with state:=.exhausted }) }:=by have qm:(Instr.getLoop C.heap.size).run P V = .ok Z V:=qm;have TR:(setObj C.heap.size (.loop { Z with state:=.exhausted })).run P V = .ok () _:=TR;simp[Instr.endLoop,qm,uG,TR];rfl
   have Mq:cE B bw (u ac) V Y Y bw (u (F ac U (.loop 3 Z.pending BF BO eo ck))) { V with heap:=V.heap.setIfInBounds C.heap.size (.loop { Z with state:=.exhausted }) }:=
    cE.set hm.rel Y M1 a5 dZ ab λbj oP=>⟨dZ,_,oP,rfl,rfl,wl,Mp,TP,TQ,axv,axw,axx⟩
   have D:=(af3.trans hm).trans Mq;have I:o2 L B bw aj (F ac U (.loop 3 Z.pending BF BO eo ck)) Y { a with defers:=E++a.defers } { V with heap:=V.heap.setIfInBounds C.heap.size (.loop { Z with state:=.exhausted }) }:=
    ⟨D.rel,oL,A.iP.mono (A.e5.sub D),((UU.io M).io hm).io Mq,hu A.low D.size⟩
   refine⟨_,_,TS,?_⟩;generalize (F ac U (.loop 3 Z.pending BF BO eo ck))=H at hk D I;generalize ({ V with heap:=V.heap.setIfInBounds C.heap.size (.loop { Z with state:=.exhausted }) }:World)=mj at D I ⊢;rcases hk with⟨bM,hk⟩|⟨bM,hk⟩ <;> rw[bM]
   ·exact bv .normal _ _ _ _ _ _ ⟨rfl,hk⟩ D I rfl
   ·exact wpIn_ret (bv .ret _ _ _ _ _ _ ⟨rfl,hk⟩ D I rfl)
 ·exact ar.elim
theorem o2.aj{L:Nat}{ah:cd}{aj A:b8}{U:Nat}{w:World}(s:o2 L B ah aj h U a w)(C:jP ah A a.tmps):o2 L B ah A h U a w:=⟨s.rel,s.e5,C,s.marks,s.low⟩
theorem Td(hl:ql P):∀(c:Code) {i:Nat} {aj:b8} {h:ad} {U:Nat} {N:ig} {E:aa (Nat × ig)} {R:ig},fP P false eW (comp P c) i aj h U N E R ->
  ∀{L:Nat} {ah:cd} {a:Act} {w:World} {n:Nat} {r:av Nat} {Q:Exit->Act->World->Prop},o2 L B ah aj h U a w->ln a.tmps.size c=true->(r=none\/lS c=true)->vK L B ah h w U a.tmps.size (Jo N E R) Q->c.wpIn (nA r) n P Q a w:=by
 intro c
 induction c with
 |skip=>intro i aj h U N E R ar L ah a w n r Q A C Z I;exact wpIn_skip (I .normal _ _ _ _ _ _ ar (cE.refl U A.rel) A rfl)
 |label l=>intro i aj h U N E R ar L ah a w n r Q A C Z I;exact wpIn_label (I .normal _ _ _ _ _ _ ar (cE.refl U A.rel) A rfl)
 |exit id=>intro i aj h U N E R ar L ah a w n r Q A C Z I;exact wpIn_exit (I (.exit id) _ _ _ _ _ _ ar (cE.refl U A.rel) A rfl)
 |ret=>intro i aj h U N E R ar L ah a w n r Q A C Z I;exact wpIn_ret (I .ret _ _ _ _ _ _ ar (cE.refl U A.rel) A rfl)
 |scope c ev =>
  intro i aj h U N E R ar L ah a w n r Q A C Z I;refine ajl (ev ar A C Z ?_);intro x pC ac Y bw eo bj V hm D M;have:=I x pC ac Y bw eo bj V hm D M;cases x <;> exact this
 |region id a8 D8 =>
  intro i aj h U N E R ar L ah a w n r Q A C Z I;have ar:fP P false eW (TF P a8.toList D8) i aj h U N E R:=ar;unfold TF at ar;cases D8 with
  |false =>
   simp only[lH]at ar
   split at ar
   ·rename_i l bg
    refine wpIn_region ?_;have:=aew (r:=r) (n:=n) (Q:=Q) a8.toList l 0 rfl bg ar A C (I.mono λx aj h U V=>by obtain⟨rfl,V⟩:=V;exact V);rw[List.range_eq_range'];simpa using this
   ·exact ar.elim
  |true =>
   simp only[oy]at ar
   split at ar
   ·rename_i l bg
    obtain⟨bK,h1,al⟩:=j4.1 bg;refine wpIn_region_any hl.mixed ?_;refine aqf h1 al ar ⟨A.rel.drawn _,A.e5,A.iP,p6.io (w:=w) (ao:=U) (ai:=U) ⟨A.rel.drawn (w.drawn+1),ab,ab,rfl,⟨rfl,by simp⟩,rfl,ab,ab,J⟩ A.marks,A.low⟩ C ?_;rintro x pC ac Y bw eo bj ⟨rfl,V⟩ hm D M;exact I .normal pC ac Y bw eo bj V (cE.from (by simp) hm) D M
   ·exact ar.elim
 |seq x y ihx ihy =>
  intro i aj h U N E R ar L ah a w n r Q A C Z I;simp only[ln,eD]at C;have xV:r=none\/lS x=true:=Z.imp id λh=>by simp only[lS,eD]at h;exact h.1
  have oT:r=none\/lS y=true:=Z.imp id λh=>by simp only[lS,eD]at h;exact h.2
  refine wpIn_seq (ihx ar A C.1 xV ?_);intro fY pC ac Y bw eo bj V hm D M;cases fY with
  |normal=>exact ihy V D (by rw[M];exact C.2) oT (by rw[M];exact I.after hm)
  |exit j=>exact I (.exit j) _ _ _ _ _ _ V hm D M
  |ret=>exact I .ret _ _ _ _ _ _ V hm D M
 |cond x c1 c2 ih1 UX =>
  intro i aj h U N E R ar L ah a w n r Q A C Z I;simp only[ln,eD]at C;have xV:r=none\/lS c1=true:=Z.imp id λh=>by simp only[lS,eD]at h;exact h.1
  have oT:r=none\/lS c2=true:=Z.imp id λh=>by simp only[lS,eD]at h;exact h.2
  simp only[comp]at ar
  split at ar
  ·rename_i y ca
   have M2:∀b,dR aj y = .ok (.bool b)->a.eval x = .bool b:=λb aG=>((A.iP.loc #[x]).ej (by simp) ca aG).Gn;cases y with
   |v v =>
    rcases ug ar with⟨rfl,ar⟩|⟨rfl,ar⟩
    ·exact wpIn_cond (M2 true rfl) (ih1 ar A C.1 xV I)
    ·exact wpIn_cond (M2 false rfl) (UX ar A C.2 oT I)
   |t m =>
    simp only[fP]at ar
    split at ar
    ·rename_i v aI
     have hpv:dR aj (.t m) = .ok v:=by simp[dR,aI]
     rcases ug ar with⟨rfl,ar⟩|⟨rfl,ar⟩
     ·exact wpIn_cond (M2 true hpv) (ih1 ar (A.aj (A.iP.same (uq.lit aI))) C.1 xV I)
     ·exact wpIn_cond (M2 false hpv) (UX ar (A.aj (A.iP.same (uq.lit aI))) C.2 oT I)
    ·exact ar.elim
  ·exact ar.elim
 |block id c ev =>
  intro i aj h U N E R ar L ah a w n r Q A C Z I;refine wpIn_block (ev ar A C Z ?_);intro x pC ac Y bw eo bj V hm D M;cases x with
  |normal=>exact I .normal _ _ _ _ _ _ V hm D M
  |ret=>exact I .ret _ _ _ _ _ _ V hm D M
  |exit j =>
   have V:(bif Nat.beq id j then N else jx E j) pC ac Y:=V;show if j=id then Q .normal eo bj else Q (.exit j) eo bj
   by_cases e:j=id
   ·rw[if_pos e];rw[show Nat.beq id j=true by rw[e];exact tW id]at V;exact I .normal _ _ _ _ _ _ V hm D M
   ·rw[if_neg e];rw[show Nat.beq id j=false by
     cases aG:Nat.beq id j with
     |true=>exact absurd (g4 aG).symm e
     |false=>rfl]at V
    exact I (.exit j) _ _ _ _ _ _ V hm D M
 |loop c ev =>
  intro i aj h U N E R ar L ah a w n r Q A C Z I;obtain⟨aE,⟨eI,m,pK,dZ⟩,eH⟩:=A.iP.sB ar;refine ajm (λm eo bj=>∃aE ac Y bw,eI m aE ac Y/\cE B ah (u h) w U Y bw (u ac) bj/\o2 L B bw (nY (ij eW i) aE 0) ac Y eo bj/\eo.tmps.size=a.tmps.size) ?_ (m:=m) ⟨aE,h,U,ah,pK,cE.refl U A.rel,A.aj eH,rfl⟩;rintro m ax dh ⟨vs1,h1,gv,tt,UY,axy,axz,TT⟩;refine ev (dZ m vs1 h1 gv UY) axz (by rw[TT];exact C) Z ?_;intro x pC ac Y bw eo bj V hm D M;have EG:=axy.trans hm;have TU:=M.trans TT;cases x with
  |normal =>
   obtain⟨zI,⟨bG,ci,hJ2⟩,uK⟩:=D.iP.sB V;exact⟨bG,ci,zI,ac,Y,bw,hJ2,EG,D.aj uK,TU⟩
  |exit j =>
   obtain⟨zI,dE,uK⟩:=D.iP.sB (Le V);exact I (.exit j) _ _ _ _ _ _ (y5.1 dE).2 EG (D.aj uK) TU
  |ret =>
   obtain⟨zI,dE,uK⟩:=D.iP.sB V;exact I .ret _ _ _ _ _ _ (AR.1 dE).2 EG (D.aj uK) TU
 |rangeFunc f bW sc body =>
  intro i aj h U N E R ar L ah a w n r Q A C Z I;rcases Z with rfl|Z
  ·simp only[comp]at ar
   split at ar
   ·rename_i x aR
    obtain⟨v,aI,ar⟩:=gu ar;refine avw aR aI ar A C rfl (I.mono λx pC h U V=>?_);obtain⟨rfl,V⟩:=V;cases x <;> first|exact V|exact V.elim
   ·exact ar.elim
  ·cases Z
 |_=>intro i aj h U N E R ar;exact ar.elim
end
section
variable {P:Program}
def wz(pe0:b8)(ap:ad)(aX:Nat):b8->ad->Nat->Prop:=λaj h U=>aj=pe0/\h=ap/\U=aX
theorem atr{i:nz}{aj:b8}{U:Nat}{k:b8->ad->Nat->Prop}(A:mh P true d i aj h U k):∃D M Y,k D M Y/\mh P false d i aj h U (wz D M Y):=by
 cases i with
 |fB e =>
  cases e
  case pick =>
   obtain⟨c,C,A⟩:=gu A;obtain⟨a,E,A⟩:=gu A;obtain⟨b,I,A⟩:=gu A;rcases ug A with⟨rfl,A⟩|⟨rfl,A⟩
   ·exact⟨_,_,_,A,by simp only[mh,C,E,I];exact⟨rfl,rfl,rfl⟩⟩
   ·exact⟨_,_,_,A,by simp only[mh,C,E,I];exact⟨rfl,rfl,rfl⟩⟩
  all_goals
   obtain⟨v,C,A⟩:=gu A;exact⟨_,_,_,A,by simp only[mh,Ci,id,C];exact⟨rfl,rfl,rfl⟩⟩
 |iK e=>obtain⟨v,C,A⟩:=gu A;exact⟨_,_,_,A,by simp only[mh,ey,C];exact⟨rfl,rfl,rfl⟩⟩
 |red e=>obtain⟨v,C,A⟩:=gu A;exact⟨_,_,_,A,by simp only[mh,C];exact⟨rfl,rfl,rfl⟩⟩
 |fC e =>
  rw[LA]at A;obtain⟨v,M,Y,N,V,_⟩:=Sp A;exact⟨_,_,_,N,by rw[LA];exact Lb V λ_ _ _ ⟨C,E,I⟩=>⟨by rw[C],E,I⟩⟩
theorem aez{aj:b8}{dy f2:b8->b8->ad->Nat->Prop}{K:b8->ad->Nat->Prop}(h:lE g aj (λaj=>∃p h n,K p h n/\dy aj p h n) (λaj=>∃p h n,K p h n/\f2 aj p h n)):∃p h n,K p h n/\lE g aj (λaj=>dy aj p h n) (λaj=>f2 aj p h n):=by
 cases g with
 |none=>exact h
 |some g =>
  obtain⟨t,w⟩:=g;simp only[lE]at h ⊢
  split at h
  ·rcases ug h with⟨rfl,h⟩|⟨rfl,h⟩ <;> cases w <;> exact h
  ·exact h
  ·exact h.elim
theorem Sr:∀{l:aa lD} {aj:b8} {h:ad} {U:Nat} {k:b8->ad->Nat->Prop},nC P true l aj h U k->∃C A Y,k C A Y/\nC P false l aj h U (wz C A Y)
 | [],_,_,_,_,D=>⟨_,_,_,D,rfl,rfl,rfl⟩
 |i::l,aj,h,U,k,D=>by rw[Lc]at D;simp only[Lc];refine aez (dy:=λaj p A n=>mh P false i.d i.k aj h U λaj h U=>nC P false l aj h U (wz p A n)) (f2:=λaj p A n=>nC P false l (et aj i.d none) h U (wz p A n)) (Di D (λ_ h=>?_) (λ_ h=>Sr (l:=l) h));obtain⟨p,h1,a6,hk,bu⟩:=atr h;obtain⟨ml,V,bH,E,I⟩:=Sr (l:=l) hk;exact⟨ml,V,bH,E,Q4 bu λ_ _ _ ⟨N,Z,M⟩=>by rw[N,Z,M];exact I⟩
theorem A0:∀{l:aa lD} {aj:b8} {h:ad} {U:Nat} {b:ad} {ar:aa ad} {k:b8->ad->Nat->Prop},hX P l aj h U b ar k->∃Z A Y,k Z A Y/\hX P l aj h U b ar (wz Z A Y)
 | [],_,_,_,_,_,_,M=>⟨_,_,_,M,rfl,rfl,rfl⟩
 |i::l,aj,h,U,b,ar,k,M=>by
  rw[Q3]at M;simp only[Q3];refine aez (dy:=λaj p A n=>lQ P i.d i.c i.k aj h U b ar λaj h U b ar=>hX P l aj h U b ar (wz p A n)) (f2:=λaj p A n=>if iS i.k=true then hX P l (et aj i.d none) h U h (b::ar) (wz p A n)else hX P l (et aj i.d none) h U b ar (wz p A n)) (Di M (λaj D=>?_) (λaj D=>?_))
  ·cases hk:i.k with
   |fB e =>
    rw[hk]at D;have fin:∀v,nX P aj e = .ok v->hX P l (et aj i.d (some v)) h U b ar k->∃p A n,k p A n/\lQ P i.d i.c (.fB e) aj h U b ar λaj h U b ar=>hX P l aj h U b ar (wz p A n):=λv I C=>by
     obtain⟨p,A,n,V,E⟩:=A0 (l:=l) C;refine⟨p,A,n,V,?_⟩;cases e
     case pick c x y =>
      simp only[nX]at I;obtain⟨c,br,I⟩:=R.fd I;obtain⟨a,g2,I⟩:=R.fd I;obtain⟨b,c3,I⟩:=R.fd I;simp only[lQ,br,g2,c3];cases c with
      |bool t=>cases t <;> cases I <;> exact E
      |_=>cases I
     all_goals (simp only[lQ,Ci,id];first|(rw[I];exact E)|(simp only[nX]at I;rw[I];exact E))
    have D:∃v,nX P aj e = .ok v/\hX P l (et aj i.d (some v)) h U b ar k:=by
     cases e
     case pick =>
      obtain⟨c,V,M⟩:=gu D;obtain⟨a,E,M⟩:=gu M;obtain⟨b,N,M⟩:=gu M;rcases ug M with⟨rfl,M⟩|⟨rfl,M⟩
      ·exact⟨a,by simp[nX,V,E,N,R.bind,Ht],M⟩
      ·exact⟨b,by simp[nX,V,E,N,R.bind,Ht],M⟩
     all_goals exact gu D
    obtain⟨v,I,C⟩:=D;exact fin v I C
   |iK e =>
    rw[hk]at D;obtain⟨v,V,C⟩:=gu D;obtain⟨p,A,n,E,N⟩:=A0 (l:=l) C;exact⟨p,A,n,E,by simp only[lQ,ey,V];exact N⟩
   |red e =>
    rw[hk]at D;obtain⟨v,V,C⟩:=gu D;have key:∃p A n,k p A n/\(hX P l (et aj i.d (some v)) h U b ar k->hX P l (et aj i.d (some v)) h U b ar (wz p A n)):=by
     have C:hX P l (et aj i.d (some v)) h U b ar k:=by
      cases aU:i.c <;> rw[aU]at C
      ·exact C
      ·exact(Sm C).2
     obtain⟨p,A,n,E,N⟩:=A0 (l:=l) C;exact⟨p,A,n,E,λ_=>N⟩
    obtain⟨p,A,n,E,N⟩:=key;refine⟨p,A,n,E,?_⟩;simp only[lQ,V];have bU:∀{f:ad->R X} {p q:Prop} (_:p->q) {n:Nat} {ar:aa ad},py f v p n ar->py f v q n ar:=λ{f p q} Ie {n}=>by
     induction n with
     |zero=>intro ar h;exact Ie h
     |succ n ev=>intro ar h;cases ar with
      |nil=>exact h
      |cons x xs=>exact⟨h.1,ev h.2⟩
    cases aU:i.c <;> rw[aU]at C
    ·exact N C
    ·exact bU N C
   |fC e =>
    rw[hk]at D;rw[GN]at D;obtain⟨v,V,a6,⟨dr,C⟩,_,bk⟩:=Sp D;obtain⟨p,A,n,E,N⟩:=A0 (l:=l) C;exact⟨p,A,n,E,by rw[GN];exact bk _ ⟨dr,N⟩⟩
  ·split at D <;> rename_i e
   ·simp only[if_pos e];exact A0 (l:=l) D
   ·simp only[if_neg e];exact A0 (l:=l) D
theorem Ss:∀(c:iE) {i:Nat} {aj:b8} {h:ad} {U:Nat} {N:ig} {E:aa (Nat × ig)} {R:ig},fP P true eW c i aj h U N E R ->
  ∃x p ac n,Jo N E R x p ac n/\∀D I C,Jo D I C x p ac n->fP P false eW c i aj h U D I C:=by
 intro c
 induction c with
 |skip=>intro i aj h U N E R A;exact⟨.normal,_,_,_,A,λ_ _ _ h=>h⟩
 |exit id=>intro i aj h U N E R A;exact⟨.exit id,_,_,_,A,λ_ _ _ h=>h⟩
 |ret=>intro i aj h U N E R A;exact⟨.ret,_,_,_,A,λ_ _ _ h=>h⟩
 |scope c ev=>intro i aj h U N E R A;exact ev A
 |ta l=>intro i aj h U N E R A;obtain⟨p,V,n,al,aM⟩:=Sr A;exact⟨.normal,p,V,n,al,λ_ _ _ M=>Ld aM λ_ _ _ ⟨aY,aJ,ce⟩=>by rw[aY,aJ,ce];exact M⟩
 |Bl l=>intro i aj h U N E R A;obtain⟨p,V,n,al,aM⟩:=A0 A;exact⟨.normal,p,V,n,al,λ_ _ _ M=>GO aM λ_ _ _ ⟨aY,aJ,ce⟩=>by rw[aY,aJ,ce];exact M⟩
 |no=>intro i aj h U N E R A;exact A.elim
 |yl f bW a b =>
  intro i aj h U N E R A;obtain⟨v,aI,A⟩:=gu A;unfold uB at A
  split at A
  ·obtain⟨v1,V,a6,⟨st,p,mf,BO,eo,ck,br,g2,c3⟩,aU⟩:=A;have up:∀(D C:ig) ,((p=none/\D aj (F V U (.loop 3 p mf BO eo ck)) a6)\/(p=some .ret/\C aj (F V U (.loop 3 p mf BO eo ck)) a6))->∀I,fP P false eW (.yl f bW a b) i aj h U D I C:=λD C M I=>by simp only[fP,aI];refine lz.mono aU ?_;rintro _ _ _ ⟨rfl,rfl,rfl⟩;exact⟨st,p,mf,BO,eo,ck,br,g2,M⟩
   rcases c3 with⟨e,c3⟩|⟨e,c3⟩
   ·exact⟨.normal,_,_,_,c3,λD I C M=>up D C (.inl ⟨e,M⟩) I⟩
   ·exact⟨.ret,_,_,_,c3,λD I C M=>up D C (.inr ⟨e,M⟩) I⟩
  ·exact A.elim
 |seq a b xT xU =>
  intro i aj h U N E R A;obtain⟨x,p,V,a6,M,bu⟩:=xT A;cases x with
  |normal =>
   obtain⟨x,ml,al,bH,dE,hd2⟩:=xU M;exact⟨x,ml,al,bH,dE,λD I C Z=>bu _ I C (hd2 D I C Z)⟩
  |exit j=>exact⟨.exit j,p,V,a6,M,λD I C Z=>bu _ I C Z⟩
  |ret=>exact⟨.ret,p,V,a6,M,λD I C Z=>bu _ I C Z⟩
 |block id c ev =>
  intro i aj h U N E R A;obtain⟨x,p,V,a6,M,bu⟩:=ev A;cases x with
  |normal=>exact⟨.normal,p,V,a6,M,λD I C Z=>bu D _ C Z⟩
  |ret=>exact⟨.ret,p,V,a6,M,λD I C Z=>bu D _ C Z⟩
  |exit j =>
   have M:(bif Nat.beq id j then N else jx E j) p V a6:=M;cases aG:Nat.beq id j <;> rw[aG]at M
   ·exact⟨.exit j,p,V,a6,M,λD I C Z=>bu D ((id,D)::I) C (by show(bif Nat.beq id j then D else jx I j) p V a6;rw[aG];exact Z)⟩
   ·exact⟨.normal,p,V,a6,M,λD I C Z=>bu D ((id,D)::I) C (by show(bif Nat.beq id j then D else jx I j) p V a6;rw[aG];exact Z)⟩
 |cond y a b xT xU =>
  intro i aj h U N E R A;cases y with
  |v v =>
   rcases ug A with⟨rfl,A⟩|⟨rfl,A⟩
   ·exact xT A
   ·exact xU A
  |t m =>
   simp only[fP]at A ⊢
   split at A
   ·rename_i v aI
    rcases ug A with⟨rfl,A⟩|⟨rfl,A⟩
    ·obtain⟨x,p,V,a6,M,bu⟩:=xT A;exact⟨x,p,V,a6,M,λD I C Z=>bu D I C Z⟩
    ·obtain⟨x,p,V,a6,M,bu⟩:=xU A;exact⟨x,p,V,a6,M,λD I C Z=>bu D I C Z⟩
   ·exact A.elim
 |loop c ev =>
  intro i aj h U N E R A;obtain⟨aE,⟨eI,m,pK,dZ⟩,eJ,_⟩:=xj A;have key:∀m aE h U,eI m aE h U->∃x p ac n,x≠.normal/\Jo N E R x p ac n/\∀D I C,Jo D I C x p ac n->bq (λaE h U N E R=>fP P false eW c (i+1) (nY (ij eW i) aE 0) h U (rb (ij eW i) N) (r3 (ij eW i) E) (rb (ij eW i) R)) aE h U (rk (ij eW i) c I) (xN (ij eW i) c C):=by
   intro m
   induction m using Nat.strongRecOn with
   |_ m ihm =>
    intro aE h U bM;obtain⟨x,p,V,a6,M,bu⟩:=ev (dZ m aE h U bM);cases x with
    |normal =>
     obtain⟨zI,⟨bG,ci,UZ⟩,zJ,_⟩:=xj M;obtain⟨x,oc,aM,bR,aR,ek,hd3⟩:=ihm bG ci zI V a6 UZ;refine⟨x,oc,aM,bR,aR,ek,λD I C Z=>?_⟩;obtain⟨aBu,m1,UY,wm⟩:=hd3 D I C Z;refine⟨λk v g n=>(k=m1+1/\v=aE/\g=h/\n=U)\/(k<=m1/\aBu k v g n),m1+1,.inl ⟨rfl,rfl,rfl,rfl⟩,?_⟩;rintro k v g n (⟨rfl,rfl,rfl,rfl⟩|⟨dr,bM⟩)
     ·exact bu _ _ _ (zJ _ ⟨m1,J,.inr ⟨J,UY⟩⟩)
     ·exact Q6 c (wm k v g n bM) (λ_ _ _ h=>Dj h λ_ ⟨bG,V,al⟩=>⟨bG,V,.inr ⟨J,al⟩⟩) (λ_ _ _ _ h=>h) (λ_ _ _ h=>h)
    |exit j =>
     obtain⟨zI,dE,zJ,_⟩:=xj (Le M);refine⟨.exit j,_,_,_,by simp,(y5.1 dE).2,λD I C Z=>⟨λk v g n=>v=aE/\g=h/\n=U,0,⟨rfl,rfl,rfl⟩,?_⟩⟩;rintro k v g n ⟨rfl,rfl,rfl⟩;exact bu _ _ _ (Q5 (zJ _ (y5.2 ⟨(y5.1 dE).1,Z⟩)))
    |ret =>
     obtain⟨zI,dE,zJ,_⟩:=xj M;refine⟨.ret,_,_,_,by simp,(AR.1 dE).2,λD I C Z=>⟨λk v g n=>v=aE/\g=h/\n=U,0,⟨rfl,rfl,rfl⟩,?_⟩⟩;rintro k v g n ⟨rfl,rfl,rfl⟩;exact bu _ _ _ (zJ _ (AR.2 ⟨(AR.1 dE).1,Z⟩))
  obtain⟨x,p,V,a6,aR,M,bu⟩:=key m aE h U pK;exact⟨x,p,V,a6,M,λD I C Z=>eJ _ (bu D I C Z)⟩
end
section
variable {P:Program} {B:Nat} {ah:cd}
def HT(tmps:Array X):ResultVar->Sem X
 | .tmp t=>pure (tmps.getD t undef)
 | .cell a t=>do loadVar t (<-asAddr (tmps.getD a undef))
theorem jP.ej{aj:b8}{tmps:Array X}(A:jP ah aj tmps){t:Nat}{v:X}(h:dR aj (.t t) = .ok v):bE ah v (tmps.getD t undef):=
 (A.loc #[.tmp t]).ej (a:={ tmps:=tmps,defers:=[] }) (x:=.tmp t) (by simp) rfl h
theorem Lg{aj:b8}{h:ad}:∀{I:aa ResultVar} {k:aa X->Prop},ul P aj h I k->∃l,k l/\(∀dp,dp l->ul P aj h I dp) /\
  ∀{B:Nat} {ah:cd} {w:World} {tmps:Array X},jP ah aj tmps->ee B ah (u h) w->∃C,dm ah l C/\(I.mapM (HT tmps)).run P w = .ok C w
 | [],k,A=>⟨[],A,λ_ h=>h,λ_ _=>⟨[],.nil,rfl⟩⟩
 | .tmp t::I,k,A=>by obtain⟨v,D,A⟩:=gu A;obtain⟨l,h1,N,V⟩:=Lg A;refine⟨v::l,h1,λdp hk=>by simp only[ul,D];exact N _ hk,λE M=>?_⟩;obtain⟨C,dL,h7⟩:=V E M;exact⟨_::C,.cons (E.ej D) dL,by simp only[Ay,HT,Sem.run_bind,h7,Result.andThen_ok,Sem.run_pure]⟩
 | .cell a t::I,k,A=>by obtain⟨v,D,A⟩:=gu A;obtain⟨aT,eb,A⟩:=gu A;obtain⟨bU,xO,Z⟩:=R.ls eb;obtain⟨l,h1,N,V⟩:=Lg A;refine⟨aT::l,h1,λdp hk=>by simp only[ul,D];exact(show ag (R.of "type" (nb P t) λbU=>im bU h v) _ by rw[eb];exact N _ hk),λ{B ah w tmps} E M=>?_⟩;obtain⟨C,dL,h7⟩:=V E M;obtain⟨eo,e,c,bc,bP⟩:=QZ M xO Z (E.ej D);exact⟨c::C,.cons bP dL,by simp only[Ay,HT,e,asAddr,Sem.run_bind,Sem.run_pure,Result.andThen_ok,bc,h7]⟩
theorem aiR{aj:b8}{U:Nat}{w:World}(eH:jP ah aj tmps)(ba:ee B ah (u h) w)(ar:tb P fn.results.toList K aj h U):
  ∃v c,K v h U/\bE ah v c/\(results fn tmps).run P w = .ok c w:=by
 obtain⟨l,E,_,aM⟩:=Lg ar;obtain⟨N,M,V⟩:=aM eH ba;have Z:(fn.results.mapM (HT tmps)).run P w = .ok ⟨N⟩ w:=by rw[Array.mapM_eq_mapM_toList];simp[V]
 have C:results fn tmps=(do
   let aE <-fn.results.mapM (HT tmps)
   pure (if h:aE.size=1 then aE[0]else .tuple aE)):=by congr 1
 rw[C];simp only[Sem.run_bind,Z,Result.andThen_ok,Sem.run_pure];cases M with
 |nil=>exact⟨_,_,E,.tuple .nil,rfl⟩
 |cons A D =>
  cases D with
  |nil=>exact⟨_,_,E,A,rfl⟩
  |cons I D=>exact⟨_,_,E,.tuple (.cons A (.cons I D)),by simp⟩
theorem cE.beside{H h6:fs}{w:World}{bw:cd}(V:B<=gp.heap.size)(A:cE B ah H gp ao ai bw h6 w){r:Nat}(N:gp.heap.size<=r)(C:¬xw B bw h6 r)(o:Obj):
  cE B ah H gp ao ai bw h6 { w with heap:=w.heap.setIfInBounds r o } where
 rel:=A.rel.world (by simp) λb p D ar=>by
  have M:r≠p.ct:=λe=>C ⟨b,p,D,ar,e.symm,J⟩
  grind
 agree:=A.agree
 size:=by simpa using A.size
 os:=A.os
 tape:=A.tape
 output:=A.output
 frame:=λk E I=>by simp only[Al];rw[if_neg J];exact A.frame k E I
 own:=A.own
 le:=A.le
theorem p6.beside{L:Nat}{H:fs}{w:World}{r:Nat}(o:Obj):∀{A:aa Deferred},(∀N∈A,N.target≠.collected r)->p6 L B ah H w A->p6 L B ah H { w with heap:=w.heap.setIfInBounds r o } A
 | [],_,_=>trivial
 |d::A,Z,⟨⟨q,D,M,V,E,I⟩,C⟩=>by
  refine⟨⟨q,D,M,?_,E,I⟩,p6.beside o ab C⟩
  grind
theorem aie{w:World}{A:aa Deferred}(h:w.heap[b]? = some (.deferred (some A))):
  (Instr.takeDeferred b).run P w = .ok A { w with heap:=w.heap.setIfInBounds b (.deferred none) }:=by have C:=rL (P:=P) h ab;have D:=vs (P:=P) (o:=.deferred none) h ab;simp[Instr.takeDeferred,C,D]
theorem PF{fn:Func}{tmps:Array X}{n:Nat}{Z E:ad}{gp:World}{A Y:Nat}{bw:cd}{aj:b8}{K:bD}(V:B<=gp.heap.size)(eH:jP bw aj tmps)(ar:tb P fn.results.toList K aj E Y):
  ∀(I:aa Deferred) (w:World),p6 gp.heap.size B bw (u E) w I->cE B ah (u Z) gp A Y bw (u E) w ->
   LeavesInM Fence.wide n P fn tmps (Fin B ah Z gp A K) I .returning w
 | [],w,_,D=>by obtain⟨v,c,hk,aI,C⟩:=aiR  eH D.rel ar;exact⟨c,C,v,E,Y,bw,c,rfl,hk,aI,D⟩
 |d::I,w,⟨⟨r,eJ,cy,bN,N,bu⟩,M⟩,D=>by refine⟨by simp,.inl ⟨r,{ w with heap:=w.heap.setIfInBounds r (.deferred none) },cy,aie bN,?_⟩⟩;exact PF V eH ar I _ (p6.beside _ bu M) (cE.beside V D eJ N _)
theorem YD{d:Nat}{v:av X}:∀{args:aa X} {i:Nat},hG (s4 args i) d=some v->∃j A,args[j]? = some A/\d=i+j/\v=some A
 | [],i,h=>by cases h
 |x::args,i,h=>by
  have h:hG ((i,some x)::s4 args (i+1)) d=some v:=h;rw[yV]at h
  by_cases e:i=d
  ·rw[if_pos e]at h;cases h;exact⟨0,x,rfl,J,rfl⟩
  ·rw[if_neg e]at h;obtain⟨j,A,C,E,D⟩:=YD h;exact⟨j+1,A,C,J,D⟩
theorem aky{A:aa X}(h:dm ah args A)(k:Nat):jP ah (s4 args 0) ((⟨A⟩:Array X)++Array.replicate k undef):=by
 intro d v I;obtain⟨j,D,C,rfl,rfl⟩:=YD I;obtain⟨c,M,E⟩:=h.get C;have C:((⟨A⟩:Array X)++Array.replicate k undef).getD (0+j) undef=c:=by
  simp only[qN]
  grind
 rw[C];exact E
theorem aiS(D:n<=m)(a8:aa Oper)(h:w6 n a8=true):w6 m a8=true:=by
 simp only[w6,CP]at *
 intro o A;have:=h o A;cases C:o.dst with
 |none=>rfl
 |some d =>
  rw[C]at this;simp only[wM]at *
  omega
theorem aiF(D:n<=m):∀(c:Code),ln n c=true->ln m c=true:=by
 intro c
 induction c <;> intro h <;> simp only[ln,eD]at * <;> try trivial
 all_goals first
  |exact aiS D _ h
  |(rename_i C A;exact ab)
  |(rename_i E;exact E h)
  |skip
 rename_i bW a b C A
 refine⟨⟨?_,ab⟩,A h.2⟩;simp only[CP,wM]at *
 grind
theorem lz.oU(Z:ql P){U:Nat}(M:nD P false eW f args h U K):lz P f args h U K:=by
 unfold nD at M
 split at M
 ·rename_i nE D
  unfold vJ at D
  split at D
  ·rename_i fn A
   split at D
   ·rename_i c aG
    cases D;have A:P.funcs[f]? = some fn:=by rw[jr]at A;simpa using A
    refine⟨⟨fn,A,ab,Z.names f fn A⟩,λB ah w E V bx I n=>?_⟩;refine callsIn_of_wp_marks A aG trivial ?_;have N:fn.ntmps<=((⟨E⟩:Array X)++Array.replicate (fn.ntmps-(⟨E⟩:Array X).size) undef).size:=ab
    refine Td Z c M (L:=w.heap.size) (r:=none) ⟨V,bx,aky I _,trivial,cB _⟩ (aiF N c (Z.fit f fn c A aG)) (.inl rfl) ?_;intro x pC ac Y bw eo bj hk hm C _;cases x with
    |exit i=>exact hk.elim
    |normal=>exact PF V.base C.iP hk eo.defers bj C.marks hm
    |ret=>exact PF V.base C.iP hk eo.defers bj C.marks hm
   ·cases D
  ·cases D
 ·exact M.elim
theorem aD.oU(N:ql P){s:ak}{f:FuncId}{args:aa X}{h:ad}{U:Nat}{K:bD}(eW:aa (aa Nat))(Z:nD P s eW f args h U K):aD P s f args h U K:=by
 cases s with
 |false=>exact lz.oU N Z
 |true =>
  have A:=Z;unfold nD at A
  split at A
  ·rename_i V C
   obtain⟨x,p,E,D,M,bu⟩:=Ss _ A;have up:tb P V.res K p E D->(∀l,tb P V.res (uH (r4 l) E D) p E D->nD P false eW f args h U (uH (r4 l) E D))->aD P true f args h U K:=λba eb=>by obtain⟨l,al,aM,_⟩:=Lg ba;exact⟨_,E,D,al,lz.oU N (eb l (aM _ ⟨rfl,rfl,rfl⟩))⟩
   cases x with
   |exit i=>exact M.elim
   |normal=>exact up M λl I=>by unfold nD;rw[C];exact bu _ _ _ I
   |ret=>exact up M λl I=>by unfold nD;rw[C];exact bu _ _ _ I
  ·exact A.elim
def DV:aa Nat->aa X->b8->b8
 |p::bW,v::aE,aj=>DV bW aE ((p,some v)::aj)
 |_,_,aj=>aj
theorem aaS{ah:cd}:∀{bW:aa Nat} {args A:aa X} {aj:b8} {t:Array X},dm ah args A->jP ah aj t->(∀q∈bW,q<t.size) ->
  jP ah (DV bW args aj) ((bW.zip A).foldl (λtmps (t,a)=>tmps.setIfInBounds t a) t)/\((bW.zip A).foldl (λtmps (t,a)=>tmps.setIfInBounds t a) t).size=t.size
 | [],_,_,aj,t,_,C,_=>by simpa[DV]using C
 |q::bW,[],_,aj,t,.nil,C,_=>by simpa[DV]using C
 |q::bW,v::args,_,aj,t,.cons (y:=c) I E,C,M=>by
  have N:=M q (by simp);have V:jP ah ((q,some v)::aj) (t.setIfInBounds q c):=by have:=jP.put (a:={ tmps:=t,defers:=[] }) (dst:=some q) (v:=some v) C I ab;exact this
  obtain⟨D,Z⟩:=aaS (bW:=bW) E V ab;simp only[DV,List.zip_cons_cons,FK];exact⟨D,ab⟩
def W4(l:Nat)(aj:b8)(bW:aa Nat)(a b:Code)(st:Nat)(p:av Code)(r:ak)(K:bD):ig:=λ_ h U=>∃gT eF,u h l=some (.loop gT eF aj bW a b)/\K (.bool r) (F h l (.loop st p aj bW a b)) U
def Cl(P:Program)(s:ak)(wy ob:aa (aa Nat))(l:Nat)(args:aa X)(aj:b8)(bW:aa Nat)(a b:Code)(h:ad)(U:Nat)(K:bD):Prop :=
 fP P s wy (comp P a) 0 (DV bW args aj) h U (λU0 h1 a6=>∃eF,u h1 l=some (.loop 0 eF aj bW a b) /\
  fP P s ob (comp P b) 0 U0 (F h1 l (.loop 1 eF aj bW a b)) a6 (W4 l aj bW a b 0 none true K) [] (W4 l aj bW a b 2 (some .ret) false K)) [] (λ_ _ _=>False)
theorem uA.oU(hl:ql P){l:Nat}{U:Nat}{p:av Code}{aj:b8}{a b:Code}(a5:u h l=some (.loop st p aj bW a b))(gA:args.length=bW.length)(u5:lS a=true)(wA:lS b=true)(ar:Cl P false wy ob l args aj bW a b h U K):uA P l args h U K:=by
 intro B ah w M p ba bx V bg;obtain⟨E,dZ,bN,i0,hpd,wl,Mp,TP,TQ,EF,sf,uJ⟩:=ba.Lf bg a5;refine⟨E,bN,by rw[<-V.length,gA,<-Mp];simp,λn=>?_⟩;obtain⟨axA,az0⟩:=aaS  V wl uJ;have avz:(E.params.zip ⟨M⟩).foldl (λtmps (t,a)=>tmps.setIfInBounds t a) E.tmps=(bW.zip M).foldl (λtmps (t,a)=>tmps.setIfInBounds t a) E.tmps:=by rw[<-Mp,<-Ar];simp
 rw[avz];subst TP TQ;refine roundIn_of_wpIn trivial ?_;refine Td hl E.assign ar (L:=w.heap.size) (r:=some p.ct) ⟨ba,bx,axA,trivial,cB _⟩ ab (.inr u5) ?_;intro x U0 h1 gv tt ax dh hk hm D TT;cases x with
 |exit i=>exact hk.elim
 |ret=>exact hk.elim
 |normal =>
  obtain⟨pd1,rm,hk⟩:=hk;have pz:=(bx.sub hm) _ _ bg;obtain⟨I,wm,M3,Mo,axB,axC,avA,avB,avC,axD,axE,axF⟩:=hm.rel.Lf pz rm;have att:I.state = .ready:=by
   cases U1:I.state <;> rw[U1]at Mo <;> first|rfl|cases Mo
  have qm:=Pj (P:=P) M3;have Z:=vs (P:=P)  (o:=.loop { I with state:=.busy }) M3 ab;have hbr:(Instr.beginRound p.ct).run P dh = .ok () { dh with heap:=dh.heap.setIfInBounds p.ct (.loop { I with state:=.busy }) }:=by simp only[Instr.beginRound,Sem.run_bind,qm,Z,Result.andThen_ok,att,Sem.run_pure]
  have C:cE B tt (u h1) dh gv gv tt (u (F h1 l (.loop 1 pd1 aj bW E.assign E.body))) { dh with heap:=dh.heap.setIfInBounds p.ct (.loop { I with state:=.busy }) }:=
   cE.set hm.rel gv pz rm wm ab λbj oP=>⟨wm,_,oP,rfl,axB,axC,avA,avB,avC,axD,axE,axF⟩
  refine⟨_,hbr,?_⟩;have axG:=hm.trans C;have ahe:o2 w.heap.size B tt U0 (F h1 l (.loop 1 pd1 aj bW E.assign E.body)) gv ax { dh with heap:=dh.heap.setIfInBounds p.ct (.loop { I with state:=.busy }) }:=
   ⟨C.rel,D.e5,D.iP,D.marks.io C,hu D.low C.size⟩
  refine Td hl E.body hk ahe (r:=some p.ct) ab (.inr wA) ?_;intro x pe2 al N U2 a2 db dE sg az1 _;have uC:=(ahe.e5.sub sg) _ _ pz;have fin:∀(A:av Code) (st:Nat) (s:LoopState),Uv s=st->(if A.isNone then LoopState.ready else LoopState.done)=s->W4 l aj bW E.assign E.body st A A.isNone K pe2 al N ->
    ∃v bj,(Instr.endRound p.ct A).run P db = .ok v bj/\Fin B ah h w U K (.returned v) bj:=by
   rintro A st s ar bM ⟨st3,pd3,tu,ha⟩;obtain⟨lp3,hB3,BP,az2,az3,axH,avD,avE,avF,axI,axJ,axK⟩:=sg.rel.Lf uC tu;have axL:=Pj (P:=P) BP;subst bM;have Z:=vs (P:=P)  (o:=.loop { lp3 with state:=if A.isNone then .ready else .done,pending:=A }) BP ab;have Mq:cE B U2 (u al) db N N U2 (u (F al l (.loop st A aj bW E.assign E.body))) { db with heap:=db.heap.setIfInBounds p.ct (.loop { lp3 with state:=if A.isNone then .ready else .done,pending:=A }) }:=
    cE.set sg.rel N uC tu hB3 ab λbj oP=>⟨hB3,_,oP,ar,rfl,axH,avD,avE,avF,axI,axJ,axK⟩
   refine⟨.bool A.isNone,_,?_,.bool A.isNone,_,N,U2,_,rfl,ha,.bool _,(axG.trans sg).trans Mq⟩;simp only[Instr.endRound,Sem.run_bind,axL,Z,Result.andThen_ok,Sem.run_pure]
  cases x with
  |normal=>exact fin none 0 _ rfl rfl dE
  |ret=>exact fin (some .ret) 2 _ rfl rfl dE
  |exit i=>exact dE.elim
theorem mg.oU(hl:ql P){s:ak}{wy ob:aa (aa Nat)}{l:Nat}{args:aa X}{h:ad}{U:Nat}{K:bD}{st:Nat}{p:av Code}{aj:b8}{bW:aa Nat}{a b:Code}(M:u h l=some (.loop st p aj bW a b))(A:args.length=bW.length)
  (u5:lS a=true) (Z:lS b=true) (ar:Cl P s wy ob l args aj bW a b h U K):mg P s l args h U K:=by
 cases s with
 |false=>exact uA.oU hl M A u5 Z ar
 |true =>
  obtain⟨x,cj,h1,a6,I,bu⟩:=Ss _ ar;cases x with
  |exit i=>exact I.elim
  |ret=>exact I.elim
  |normal =>
   obtain⟨eF,br,I⟩:=I;obtain⟨x,ml,al,bH,D,E⟩:=Ss _ I;cases x with
   |exit i=>exact D.elim
   |normal =>
    obtain⟨C,N,V,ha⟩:=D;exact⟨_,_,_,ha,uA.oU hl M A u5 Z (bu _ _ _ ⟨eF,br,E _ _ _ ⟨C,N,V,rfl,rfl,rfl⟩⟩)⟩
   |ret =>
    obtain⟨C,N,V,ha⟩:=D;exact⟨_,_,_,ha,uA.oU hl M A u5 Z (bu _ _ _ ⟨eF,br,E _ _ _ ⟨C,N,V,rfl,rfl,rfl⟩⟩)⟩
end
def ic:Go.Ax.ad:=λ_=>none
@[simp] theorem KL(k:Nat):u ic k=none:=rfl
section
variable {P:Program} {s:ak}
@[simp,grind =] theorem oV(h:ad)(b:Nat)(o:fM)(k:Nat):u (F h b o) k=if k=b then some o else u h k:=AE h b o k
@[simp] theorem fd{aA eV:Type}(x:aA)(f:aA->R eV):R.bind (.ok x) f=f x:=rfl
@[simp] theorem azG(w:String)(f:aA->R eV):R.bind (.no w) f = .no w:=rfl
@[simp] theorem GQ{aA eV:Type}(w:String)(x:aA)(f:aA->R eV):R.of w (some x) f=f x:=rfl
@[simp] theorem azH(w:String)(f:aA->R eV):R.of w none f = .no w:=rfl
@[simp] theorem azz(v:X):r4 [v]=v:=rfl
@[simp] theorem azA(v w:X)(l:aa X):r4 (v::w::l) = .tuple ⟨v::w::l⟩:=rfl
@[simp] theorem aaT(A:Nat)(C:av Nat)(l:aa X):Bk A C (.agg ⟨l⟩)=hF C A l:=rfl
@[simp] theorem PG{eV:Type}(a:Addr)(k:Addr->R eV):Ba (.pointer (some a)) k=k a:=rfl
@[simp] theorem aaU(b o:Nat)(A:av Nat)(n:Nat):DP ⟨b,o,A⟩ n = .pointer (some ⟨b,o+n,none⟩):=rfl
@[simp] theorem YE(a:Addr):cr (.pointer (some a)) = .ok (.pointer (some a)):=rfl
@[simp] theorem XT(l:aa X)(i:Nat):dz (.tuple ⟨l⟩) i=R.of "extract" (l[i]?) (λv=>.ok v):=by show R.of "extract" (g7 l i) _=_;rw[jr]
@[simp] theorem azB(k:IntKind)(n:Nat)(f:Nat->R eV):r1 (.int k (n:Int)) f=f n:=rfl
@[simp] theorem azu(k:IntKind)(n:Nat)(f:Nat->R eV):r1 (.int k (.ofNat n)) f=f n:=rfl
@[simp] theorem azC(k:IntKind)(n:Nat)(f:Nat->R eV):r1 (.int k (OfNat.ofNat n:Int)) f=f n:=rfl
@[simp] theorem azx(k:IntKind)(f:Nat->R eV):r1 (.int k 0) f=f 0:=rfl
@[simp] theorem azD(k:IntKind)(f:Nat->R eV):r1 (.int k 1) f=f 1:=rfl
@[simp] theorem Zt(s:Nat)(b o:Nat)(A:av Nat)(len cap i:Nat):yS (.slice s) (.slice (some ⟨b,o,A⟩) len cap) i=if i<len then .ok (.pointer (some ⟨b,o+i*s,none⟩))else .no "index" := by
 show(bif Nat.blt i len then _ else _)=_;rw[pd]
 by_cases h:i<len <;> simp[h] <;> rfl
@[simp] theorem Zu(n s:Nat)(b o:Nat)(A:av Nat)(i:Nat):yS (.array n s) (.pointer (some ⟨b,o,A⟩)) i=if i<n then .ok (.pointer (some ⟨b,o+i*s,none⟩))else .no "index" := by
 show(bif Nat.blt i n then _ else _)=_;rw[pd]
 by_cases h:i<n <;> simp[h] <;> rfl
theorem aqg{op:BinOp}{t:TypeId}{A C:IntKind}{a b:Int}(ar:y4 op=false)(D:mI A C=true):bin P op t (.int A a) (.int C b)=Ep op A a b:=by
 show Bi op A a C b=_;unfold Bi
 grind
theorem s7(op:BinOp)(t:TypeId)(k:IntKind)(a b:Int)(ar:y4 op=false):bin P op t (.int k a) (.int k b)=Ep op k a b:=aqg ar (wT k)
@[simp] theorem Q7(t:TypeId)(k:IntKind)(a b:Int):bin P .add t (.int k a) (.int k b) = .ok (.int k (k.wrap (a+b))):=by rw[s7 _ _ _ _ _ rfl,<-oA];rfl
@[simp] theorem acF(t:TypeId)(k:IntKind)(a b:Int):bin P .sub t (.int k a) (.int k b) = .ok (.int k (k.wrap (a-b))):=by rw[s7 _ _ _ _ _ rfl,<-oA];rfl
@[simp] theorem Lh(t:TypeId)(k:IntKind)(a b:Int):bin P .lss t (.int k a) (.int k b) = .ok (.bool (decide (a<b))):=by rw[s7 _ _ _ _ _ rfl,<-rS];rfl
@[simp] theorem acG(t:TypeId)(k:IntKind)(a b:Int):bin P .leq t (.int k a) (.int k b) = .ok (.bool (!decide (b<a))):=by rw[s7 _ _ _ _ _ rfl,<-rS];rfl
@[simp] theorem acH(t:TypeId)(k:IntKind)(a b:Int):bin P .gtr t (.int k a) (.int k b) = .ok (.bool (decide (b<a))):=by rw[s7 _ _ _ _ _ rfl,<-rS];rfl
@[simp] theorem acI(t:TypeId)(k:IntKind)(a b:Int):bin P .geq t (.int k a) (.int k b) = .ok (.bool (!decide (a<b))):=by rw[s7 _ _ _ _ _ rfl,<-rS];rfl
@[simp] theorem acJ(t:TypeId)(k:IntKind)(a b:Int):bin P .eql t (.int k a) (.int k b) = .ok (.bool (a == b)):=by rw[s7 _ _ _ _ _ rfl,<-lo];rfl
@[simp] theorem acK(t:TypeId)(k:IntKind)(a b:Int):bin P .neq t (.int k a) (.int k b) = .ok (.bool (!(a == b))):=by rw[s7 _ _ _ _ _ rfl,<-lo];rfl
@[simp] theorem aeA(b:ak):d2 .not (.bool b) = .ok (.bool (!b)):=rfl
@[simp] theorem aaV(k dp:IntKind)(n:Int):xe (.int dp) (.int k n) = .ok (.int dp (dp.wrap n)):=by rw[<-oA];rfl
theorem Pk{t:TypeId}{x:Addr}(A:w0 P t=true):bin P .neq t (.pointer (some x)) (.pointer none) = .ok (.bool true):=by show R.of "compared" (nV P t (.pointer (some x)) (.pointer none)) _=_;unfold nV;simp[A,HK,nc]
theorem pX{t:TypeId}{x:Addr}(A:w0 P t=true):bin P .eql t (.pointer (some x)) (.pointer none) = .ok (.bool false):=by show R.of "compared" (nV P t (.pointer (some x)) (.pointer none)) _=_;unfold nV;simp[A,HK,nc]
@[simp] theorem YF(a:av Addr)(n c:Nat):xu (.slice a n c) = .ok (n:X):=rfl
theorem vp{A:ak}(C:u h b=some (.cells cs A))(k:aa X->ak->R eV):cellsOf h b k=k cs A:=by unfold cellsOf;rw[C]
@[simp] theorem Zv(A:Nat)(cs:aa X):hF none A cs=DO (cs[A]?):=by show DO (g7 cs A)=_;rw[jr]
@[simp] theorem YG(v:X):DO (some v) = .ok v:=rfl
@[simp] theorem azv:DO none = .no "load - out of block" := rfl
@[simp] theorem qR(n A:Nat)(cs:aa X):hF (some n) A cs=if n<=cs.length-A then .ok (.agg ⟨(cs.drop A).take n⟩)else .no "load - out of block" := by
 show LP (nh n (na cs A))=_;rw[rP,qT,FH]
 by_cases h:n<=cs.length-A <;> simp[h,LP]
end
def DC:aa MapEntry->Prop:=List.Pairwise (λa b=>a.born<b.born)
theorem aqh(seen:aa Nat)(b:Nat):seen.any (Nat.beq b)=decide (b∈seen):=by
 rw[Aw,vl];simp only[OV];constructor
 ·rintro⟨x,C,A⟩;rw[g4 A];omega
 ·intro h;exact⟨b,h,tW b⟩
theorem vr(seen:aa Nat)(e:MapEntry)(A:aa MapEntry):leftOf seen (e::A)=if e.born∈seen then leftOf seen A else e::leftOf seen A:=by
 show(bif seen.any (Nat.beq e.born)then _ else _)=_;rw[aqh]
 grind
theorem O4:∀(A:aa MapEntry),leftOf [] A=A
 | []=>rfl
 |e::A=>by rw[vr];simp[O4 A]
theorem F5{seen:aa Nat}:∀{A:aa MapEntry} {e:MapEntry},e∈leftOf seen A->e∈A/\e.born ∉ seen
 | [],e,h=>by cases h
 |x::A,e,h=>by
  rw[vr]at h
  by_cases C:x.born∈seen
  ·rw[if_pos C]at h;obtain⟨D,E⟩:=F5 h
   grind
  ·rw[if_neg C]at h;rcases hf.1 h with rfl|h
   ·grind
   ·obtain⟨D,E⟩:=F5 h
    grind
theorem X5{seen:aa Nat}{b:Nat}:∀{A:aa MapEntry},(∀e∈A,e.born≠b)->leftOf (seen++[b]) A=leftOf seen A
 | [],_=>rfl
 |x::A,h=>by
  rw[vr,vr,X5 ab]
  grind
theorem Pl{seen:aa Nat}:∀{A:aa MapEntry} {e:MapEntry},DC A->e∈leftOf seen A->(leftOf seen A).Perm (e::leftOf (seen++[e.born]) A)
 | [],e,_,h=>by cases h
 |x::A,e,E,h=>by
  have M:∀y∈A,x.born<y.born:=λy I=>tR E I;have C:DC A:=OM E;rw[vr]at h
  by_cases D:x.born∈seen
  ·rw[if_pos D]at h;rw[vr,if_pos D,vr,if_pos ab];exact Pl C h
  ·rw[if_neg D]at h;rw[vr,if_neg D,vr];rcases hf.1 h with rfl|h
   ·rw[if_pos (by simp),X5 ab]
   ·have N:=F5 h;rw[if_neg ab];exact((Pl C h).cons x).trans (List.Perm.swap ..)
theorem Zw:∀{A:aa MapEntry} {e:MapEntry},DC A->e∈A->DQ e.born A=some e
 | [],e,_,h=>by cases h
 |x::A,e,C,h=>by
  show(bif Nat.beq x.born e.born then some x else DQ e.born A)=some e;rcases hf.1 h with rfl|h
  ·rw[tW];rfl
  ·have E:x.born<e.born:=tR C h;have:Nat.beq x.born e.born=false:=by
    cases D:Nat.beq x.born e.born with
    |false=>rfl
    |true=>have:=g4 D;omega
   rw[this];exact Zw (OM C) h
theorem Zx:∀(l:aa Nat) (b:Nat),Hu (l++[b])=some b
 | [],b=>rfl
 | [x],b=>rfl
 |x::y::l,b=>Zx (y::l) b
theorem Zy{D r A E:Nat}{C:aa MapEntry}{e:MapEntry}(ai:u h D=some (.iter (some r) A (seen++[e.born]) E))(I:u h r=some (.map C E))(M:DC C)(N:e∈C):
  w5 h (bb D) = .ok (.tuple #[e.key,e.val]):=by unfold w5 lr;simp only[PG,show Nat.beq 0 0=true from rfl,oy,ai,I,tW,Zx,Zw M N,GQ]
@[simp] theorem xk{aA:Type}(v:aA)(k:aA->Prop):ag (.ok v) k↔k v:=Iff.rfl
@[simp] theorem af4{aA:Type}(w:String)(k:aA->Prop):ag (.no w) k↔False:=Iff.rfl
section
variable {ah bw:cd}
mutual
theorem bE.back(ar:Sub ah bw):∀{v I c:X},bE ah v I->bE bw v c->bE ah v c
 |_,_,_,.bool b,.bool _=>.bool b
 |_,_,_,.int k n,.int _ _=>.int k n
 |_,_,_,.string s,.string _=>.string s
 |_,_,_,.Hd,.Hd=>.Hd
 |_,_,_,.ptr h,.ptr A=>by have e:=ar _ _ h;rw[e]at A;cases A;exact .ptr h
 |_,_,_,.rR l c,.rR _ _=>.rR l c
 |_,_,_,.lp h l c,.lp A _ _=>by have e:=ar _ _ h;rw[e]at A;cases A;exact .lp h l c
 |_,_,_,.pf h E l c,.pf A aY _ _=>by have e:=ar _ _ h;rw[e]at A;cases A;exact .pf h E l c
 |_,_,_,.pg b o g aW c,.pg _ _ V Z c2=>.pg b o V Z c2
 |_,_,_,.He,.He=>.He
 |_,_,_,.map h,.map A=>by have e:=ar _ _ h;rw[e]at A;cases A;exact .map h
 |_,_,_,.nilFunc,.nilFunc=>.nilFunc
 |_,_,_,.nilIface,.nilIface=>.nilIface
 |_,_,_,.func f M N,.func _ C D=>.func f (dm.back ar M C) (dm.back ar N D)
 |_,_,_,.yield h,.yield A=>by have e:=ar _ _ h;rw[e]at A;cases A;exact .yield h
 |_,_,_,.iface t h,.iface _ A=>.iface t (bE.back ar h A)
 |_,_,_,.agg h,.agg A=>.agg (dm.back ar h A)
 |_,_,_,.tuple h,.tuple A=>.tuple (dm.back ar h A)
theorem dm.back(ar:Sub ah bw):∀{v A c:aa X},dm ah v A->dm bw v c->dm ah v c
 |_,_,_,.nil,.nil=>.nil
 |_,_,_,.cons h t,.cons D C=>.cons (bE.back ar h D) (dm.back ar t C)
end
theorem ph.back(ar:Sub ah bw){cs:aa X}{c C:Array X}{A:Nat}(h:ph ah cs c A)(I:ph bw cs C A):ph ah cs C A:=λi v e=>by obtain⟨_,_,D⟩:=h i v e;obtain⟨N,M,E⟩:=I i v e;exact⟨N,M,bE.back ar D E⟩
theorem hU.back(ar:Sub ah bw):∀{D I A:aa MapEntry},hU ah D I->hU bw D A->hU ah D A
 |_,_,_,.nil,.nil=>.nil
 |_,_,_,.cons Z N _ t,.cons M C E V=>.cons (bE.back ar Z M) (bE.back ar N C) E (hU.back ar t V)
theorem p9.back(ar:Sub ah bw){m E A:av Nat}(h:p9 ah m E)(D:p9 bw m A):p9 ah m A:=by
 cases m with
 |none=>cases A <;> simp only[p9]at *
 |some r =>
  cases A with
  |none=>simp only[p9]at D
  |some N =>
   cases E with
   |none=>simp only[p9]at h
   |some M =>
    simp only[p9]at h D ⊢;obtain⟨q,I,_⟩:=h;obtain⟨V,C,e⟩:=D;rw[ar _ _ I]at C;grind
theorem mC.back{B:Nat}(ar:Sub ah bw){w bj:World}{p:Place}{o:fM}(h:mC B ah w p o)(E:mC B bw bj p o):mC B ah bj p o:=by
 cases o with
 |cells cs bC =>
  cases bC with
  |true =>
   obtain⟨_,c,e,e5,_,I⟩:=h;obtain⟨A,bL,Z,M,D,C⟩:=E;exact⟨A,bL,Z,M,D,I.back ar C⟩
  |false =>
   obtain⟨_,_,c,e,ao,ai,_,_,bc,_⟩:=h;obtain⟨A,hc,bL,Z,ed,da,D,C,tK,N⟩:=E;exact⟨A,hc,bL,Z,ed,da,D,C,bc.back ar tK,N⟩
 |map es cL =>
  obtain⟨_,df,_,I⟩:=h;obtain⟨A,V,D,C⟩:=E;exact⟨A,V,D,I.back ar C⟩
 |iter m A9 seen st =>
  obtain⟨_,_,bG,_,I⟩:=h;obtain⟨A,hc,m2,D,C⟩:=E;exact⟨A,hc,m2,D,I.back ar C⟩
 |loop st HI mf bW a b =>
  obtain⟨_,l,_,_,_,bP,_⟩:=h;obtain⟨A,dC,D,C,tK,N,aBv⟩:=E;exact⟨A,dC,D,C,tK,λd v e=>bE.back ar (bP d v e) (N d v e),aBv⟩
end
section
variable {B:Nat} {ah bw:cd} {H h6:fs} {w bj:World} {U Y:Nat}
theorem cE.forget(C:ee B ah H w)(E:kw ah U)(A:cE B ah H w U Y bw h6 bj)(M:∀b o,H b=some o->h6 b=some o):cE B ah H w U U ah H bj where
 rel:={
  base:=hu C.base A.size
  obj:=λb p o D I=>(C.obj b p o D I).back (E.sub A) (A.rel.obj b p o (E.sub A b p D) ab)
  inj:=C.inj
  nm:=C.nm }
 agree:=ab
 size:=A.size
 os:=A.os
 tape:=A.tape
 output:=A.output
 frame:=A.frame
 own:=ab
 le:=J
theorem cE.aqi(Z:ee B ah H w)(M:kw ah U)(C:cE B ah H w U Y bw h6 bj)(hk:∀b o,H b=some o->h6 b=some o){p:Place}{o:fM}(aG:U<=b)(bv:bw b=some p)(fj:h6 b=some o)(qi:mC B (λk=>if k=U then some p else ah k) bj p o):cE B ah H w U (U+1) (λk=>if k=U then some p else ah k) (λk=>if k=U then some o else H k) bj:=by
 have oK:Sub ah (λk=>if k=U then some p else ah k):=λk q A=>by
  by_cases e:k=U
  ·rw[e,M.here]at A;grind
  grind
 have ci:∀k,(H k).isSome->k<U:=λk ar=>by
  rcases jH k U with h|h
  ·exact h
  ·have:=Z.nm k ar;rw[M k h]at this;grind
 refine⟨⟨hu Z.base C.size,λk q x A N=>?_,λk dp q kU A D ar E V bk=>?_,λk ar=>?_⟩,λk hk=>?_,C.size,C.os,C.tape,C.output,C.frame,λk h=>?_,J⟩
 ·by_cases e:k=U
  ·simp only[e,if_true]at A N;cases A;cases N;exact qi
  ·simp only[e,fc]at A N;exact((Z.obj k q x A N).back (M.sub C) (C.rel.obj k q x (M.sub C k q A) ab)).mono oK rfl
 ·by_cases e:k=U
  ·by_cases ep:dp=U
   ·omega
   ·exfalso;simp only[e,if_true]at A;simp only[ep,fc]at D E;cases A;have I:(h6 dp).isSome:=by
     obtain⟨x,N⟩:=nJ.1 E
     grind
    have:=C.rel.inj b dp p kU bv (M.sub C dp kU D) ab I V bk
    grind
  ·by_cases ep:dp=U
   ·exfalso;simp only[ep,if_true]at D;simp only[e,fc]at A ar;cases D;have I:(h6 k).isSome:=by
     obtain⟨x,N⟩:=nJ.1 ar
     grind
    have:=C.rel.inj k b q p (M.sub C k q A) bv I ab V bk
    grind
   ·simp only[e,fc]at A ar;simp only[ep,fc]at D E;exact Z.inj k dp q kU A D ar E V bk
 ·by_cases e:k=U
  ·grind
  ·simp only[e,fc]at ar ⊢;exact Z.nm k ar
 ·grind
 ·obtain⟨dp,q,A,ar,rfl,V⟩:=h
  by_cases e:dp=U
  ·simp only[e,if_true]at A;cases A;rcases C.own p.ct ⟨b,p,bv,ab,rfl,V⟩with⟨hB,eK,h1,al,aM,bc⟩|h
   ·exact .inl ⟨hB,eK,h1,al,aM,bc⟩
   omega
  ·simp only[e,fc]at A ar;exact .inl ⟨dp,q,A,ar,rfl,V⟩
end
section
variable {P:Program}
theorem ee.fresh{B:Nat}{ah:cd}{H:fs}{w:World}{U:Nat}(D:ee B ah H w)(A:kw ah U):∀b,U<=b->H b=none:=λb C=>by
 cases E:H b with
 |none=>rfl
 |some o =>
  have:=D.nm b ab;rw[A b C]at this;grind
end
end Go.Ax
