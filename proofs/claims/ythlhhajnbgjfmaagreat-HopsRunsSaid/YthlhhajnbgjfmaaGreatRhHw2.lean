/- Parts of the proof: Hw2: each statement bears its own conditions. -/
import Init
import Derived.Test.YthlhhajnbgjfmaaGreatRhHw1
namespace Go.Ax
open Go
set_option linter.all false
set_option maxHeartbeats 1000000
def par(i:Nat):Nat:=(i-1) / 2
theorem Pa{az:Type}{g:az->aa X}{k:Nat}(A:∀x,(g x).length=k)(cs:aa X)(x:az):∀(l:aa az) (i:Nat),i<l.length->(bd g l++cs).take (i*k)++g x++(bd g l++cs).drop (i*k+k)=bd g (l.set i x)++cs
 | [],i,h=>ab
 |y::l,0,h=>by
  show(g y++bd g l++cs).take (0*k)++g x++(g y++bd g l++cs).drop (0*k+k)=(g x++bd g l)++cs
  grind
 |y::l,i+1,h=>by
  have E:=Pa A cs x l i ab;show(g y++bd g l++cs).take ((i+1)*k)++g x++(g y++bd g l++cs).drop ((i+1)*k+k)=(g y++bd g (l.set i x))++cs;have D:(i+1)*k=(g y).length+i*k:=ab
  have I:(i+1)*k+k=(g y).length+(i*k+k):=J
  rw[kA (g y),D,v5,List.take_length_add_append,I4,kA (g y),kA (g y),E,kA]
end Go.Ax
namespace Go.Ax.HdH
open Go Go.Ax
set_option linter.all false
set_option maxHeartbeats 1000000
variable {i:Nat} {cs:aa X} {j n:Nat} {aS:aw Nat} {cap:Nat}
structure e3 where
 v:X
 w:Nat
 k:Int
 n:Nat
 l:aa (Nat × Int)
def eH(i:Nat):Nat:=(i-1) / 2
def sI(W:aa e3)(i j:Nat)(a b:e3):aa e3:=(W.set i b).set j a
structure nY (W:aa e3):Prop where
 up:∀(c:Nat) (x y:e3),0<c->W[eH c]? = some x->W[c]? = some y->x.k<=y.k
variable {W:aa e3} {a b p:e3}
theorem nY.min(h:nY W)(Z:W[0]? = some p):∀q∈W,p.k<=q.k:=by
 have M:∀(c:Nat) (y:e3),W[c]? = some y->p.k<=y.k:=by
  intro c
  induction c using Nat.strongRecOn with
  |_ c E =>
   intro y A
   by_cases I:c=0
   ·grind
   ·have N:eH c<c:=by unfold eH;omega
    have bA:=(hn.1 A).1;obtain⟨x,g⟩:∃x,W[eH c]? = some x:=⟨_,oB J⟩
    have h1:=E _ N x g;have ap:=h.up c x y J g A;omega
 intro q D;obtain⟨c,I⟩:=EV D
 grind
theorem Gi(D:W[i]? = some a)(A:W[j]? = some b)(g:i≠j)(q:Nat):(sI W i j a b)[q]? = if q=j then some a else if q=i then some b else W[q]?:=by
 unfold sI
 grind
theorem Ab(W:aa e3)(i j:Nat)(a b:e3):(sI W i j a b).length=W.length:=by unfold sI;simp
theorem JX(E:W[i]? = some a)(D:W[j]? = some b):(sI W i j a b).Perm W:=by
 have I:=(hn.1 E).1;have A:=(hn.1 D).1;have g:W[i]=a:=ab
 have M:W[j]=b:=ab
 rw[<-g,<-M];exact List.set_set_perm I A
structure vd (W:aa e3) (j:Nat):Prop where
 w8:∀(c:Nat) (x y:e3),0<c->c≠j->W[eH c]? = some x->W[c]? = some y->x.k<=y.k
 TH:∀(c:Nat) (x y:e3),0<j->0<c->eH c=j->W[eH j]? = some x->W[c]? = some y->x.k<=y.k
theorem vd.done(h:vd W j)(E:∀x y:e3,0<j->W[eH j]? = some x->W[j]? = some y->x.k<=y.k):nY W:=by
 refine⟨λc x y D A g=>?_⟩
 by_cases e:c=j
 ·grind
 ·exact h.w8 c x y D e A g
theorem vd.step(h:vd W j)(bZ:0<j)(N:W[eH j]? = some a)(aO:W[j]? = some b)(ct:b.k<a.k):vd (sI W (eH j) j a b) (eH j):=by
 have bg:eH j<j:=by unfold eH;omega
 have I:eH j≠j:=J
 have M:=Gi N aO I;refine⟨λc x y E hcj g A=>?_,λc x y Z E sE g A=>?_⟩
 ·rw[M]at g A
  by_cases D:c=j
  ·grind
  ·rw[if_neg D,if_neg hcj]at A
   by_cases c2:eH c=j
   ·rw[if_pos c2]at g;cases g;exact h.TH c a y bZ E c2 N A
   ·rw[if_neg c2]at g
    by_cases b8:eH c=eH j
    ·rw[if_pos b8]at g;cases g;have:=h.w8 c a y E D ab A;omega
    ·rw[if_neg b8]at g;exact h.w8 c x y E D g A
 ·have Md:eH (eH j)<eH j:=by
   generalize eH j=q at *
   unfold eH;omega
  rw[M,if_neg J,if_neg J]at g;rw[M]at A;have h1:=h.w8 (eH j) x a Z I g N
  by_cases D:c=j
  ·grind
  ·rw[if_neg D]at A
   by_cases c2:c=eH j
   ·grind
   ·rw[if_neg c2]at A;have:=h.w8 c a y E D ab A;omega
theorem vd.push(h:nY W):vd (W++[p]) W.length:=by
 refine⟨λc x y E I D g=>?_,λc x y _ E N D g=>?_⟩
 ·have A:=(hn.1 g).1;rw[jd,NE]at A;have M:eH c<c:=by unfold eH;omega
  rw[xJ J]at D g;exact h.up c x y E D g
 ·have A:=(hn.1 g).1;rw[jd,NE]at A;have M:eH c<c:=by unfold eH;omega
  omega
structure uZ (W:aa e3) (n i:Nat):Prop where
 w8:∀(c:Nat) (x y:e3),0<c->c<n->eH c≠i->W[eH c]? = some x->W[c]? = some y->x.k<=y.k
 TH:∀(c:Nat) (x y:e3),0<i->0<c->c<n->eH c=i->W[eH i]? = some x->W[c]? = some y->x.k<=y.k
theorem uZ.done(h:uZ W n i)(M:∀(c:Nat) (x y:e3),0<c->c<n->eH c=i->W[i]? = some x->W[c]? = some y->x.k<=y.k):nY (W.take n):=by
 refine⟨λc x y E A g=>?_⟩;have D:=(hn.1 g).1;rw[ql]at D;have I:eH c<c:=by unfold eH;omega
 rw[xO,if_pos J]at A g
 by_cases e:eH c=i
 ·grind
 ·exact h.w8 c x y E J e A g
theorem uZ.step(h:uZ W n i)(bZ:0<j)(Z:j<n)(M:eH j=i)(cW:W[i]? = some a)(aO:W[j]? = some b)(ct:b.k<a.k)(bp:∀(c:Nat) (y:e3),0<c->c<n->eH c=i->W[c]? = some y->b.k<=y.k):uZ (sI W i j a b) n j:=by
 have Mb:i<j:=by rw[<-M];unfold eH;omega
 have E:=Gi cW aO (by omega:i≠j);refine⟨λc x y I A N D g=>?_,λc x y _ I A sE D g=>?_⟩
 ·rw[E,if_neg N]at D;rw[E]at g
  by_cases c1:eH c=i
  ·grind
  ·rw[if_neg c1]at D
   by_cases c2:c=j
   ·grind
   ·rw[if_neg c2]at g
    by_cases b8:c=i
    ·subst b8;rw[if_pos rfl]at g;cases g;exact h.TH j x b I bZ Z M D aO
    ·rw[if_neg b8]at g;exact h.w8 c x y I A c1 D g
 ·have aBt:eH c<c:=by unfold eH;omega
  rw[E,M,if_neg J,if_pos rfl]at D;cases D;rw[E,if_neg J,if_neg J]at g;exact h.w8 c b y I A J ab g
theorem uZ.pop(h:nY W)(bA:W.length=n+1)(I:W[0]? = some a)(N:W[n]? = some b):uZ (sI W 0 n a b) n 0:=by
 refine⟨λc x y M E Z D A=>?_,J⟩;have sE:eH c<c:=by unfold eH;omega
 have g:=Gi I N (by omega:0≠n);rw[g,if_neg J,if_neg Z]at D;rw[g,if_neg J,if_neg J]at A;exact h.up c x y M D A
theorem amQ{c:Nat}(g:0<c):eH c=i↔c=2*i+1\/c=2*i+2:=by unfold eH;omega
abbrev hr(p:e3):aa X:=[p.v,(p.w:X)]
structure oN (h:ae) (ch b:Nat) (aS:aw Nat) (cap:Nat) (W:aa e3) (cs bz:aa X):Prop where
 cell:u h ch=some (.cells (.slice (some ⟨b,0,aS⟩) W.length cap::bz) false)
 co:u h b=some (.cells (bd hr W++cs) false)
 len:W.length*2+cs.length=cap*2
 HL:aS=none\/aS=some 2
 ne:b≠ch
theorem wj(p:e3):(hr p).length=2:=rfl
theorem KK(g:W[i]? = some p):hV (some 2) (i*2) (bd hr W++cs) = .ok (.agg ⟨[p.v,(p.w:X)]⟩):=by have A:=tm (enc:=hr) wj g;have E:=(hn.1 g).1;have D:=gc (enc:=hr) wj (l:=W);rw[pq,if_pos ab,I2 J,I3 ab,A]
theorem afs(g:W[i]? = some p):(bd hr W++cs)[i*2]? = some p.v/\(bd hr W++cs)[i*2+1]? = some (p.w:X):=by
 have E:=(hn.1 g).1;have D:=gc (enc:=hr) wj (l:=W);rw[xJ J,xJ J];have A:=JF (enc:=hr) wj g (j:=0) J;have I:=JF (enc:=hr) wj g (j:=1) J
 grind
theorem aqG{h:ae}{U b:Nat}(Z:u h b=some (.cells (bd hr W++cs) false))(bv:W.length=n)(bA:W.length*2+cs.length=cap*2)(n5:aS=none\/aS=some 2)(vv:b<U){bQ dP ry:Nat}{k3:aw Nat}{E:aa X}{ro:al}(z:e3)(cL:gZ z.v=true)(ap:u h bQ=some (.cells E ro))(aY:(E.drop dP).take 2=hr z)(lP:n<100000):
  ∃I A g D ac Y,dM 2 h U (.slice (some ⟨b,0,aS⟩) n cap) (.slice (some ⟨bQ,dP,k3⟩) 1 ry) = .ok (.val (.slice (some ⟨I,0,A⟩) (n+1) g) ac Y)/\u ac I=some (.cells (bd hr (W++[z])++D) false) /\
   (W++[z]).length*2+D.length=g*2/\(A=none\/A=some 2)/\(I=b\/I=U)/\U<=Y/\I<Y/\∀c,c≠b->c≠U->u ac c=u h c:=by
 have N:2<=E.length-dP:=by
  have:=congrArg List.length aY
  grind
 have M:=gc (enc:=hr) wj (l:=W);unfold dM;simp only;rw[show Nat.mul 1 2=2 from rfl,tn ap J N,aY];unfold g0
 by_cases a1:n+1<=cap
 ·rw[show Nat.ble (Nat.add n 1) cap=true from B7 a1];show ∃I A g D ac Y,R.bind (qq h b (Nat.add 0 (Nat.mul n 2)) (hr z)) _=_/\_;rw[show Nat.add 0 (Nat.mul n 2)=n*2 from iV _,Js Z (by show ee [z.v,(z.w:X)]=true;rw[q9,cL];rfl) ab];refine⟨b,aS,cap,cs.drop 2,_,U,rfl,?_,ab,n5,.inl rfl,cD _,vv,λc h1 _=>ab⟩;rw[mq,if_pos rfl,se];have aW:(bd hr W++cs).take (n*2)=bd hr W:=ab
  have aK:(bd hr W++cs).drop (n*2+(hr z).length)=cs.drop 2:=by rw[<-bv,<-M,wj,I4]
  grind
 ·have rx:n=cap:=J
  have oU:cs=[]:=B4 J;subst oU;rw[h6]at Z;rw[show Nat.ble (Nat.add n 1) cap=false from by
   cases Z:Nat.ble (Nat.add n 1) cap with
   |false=>rfl
   |true=>exact absurd (ma Z) a1]
  have aK:(Nat.ble (Nat.mul (Nat.add n 1) 2) 1000000&&Nat.ble (Nat.add n 1) 1000000)=true:=by
   simp only[eB,tg]
   grind
  rw[aK];show ∃I A g D ac Y,rq h U 2 (some ⟨b,0,aS⟩) n cap (n+1) (hr z)=_/\_;unfold rq;simp only[v8 Z];have Dr:ni (Nat.mul n 2) (nc (bd hr W) 0)=some (bd hr W):=by
   rw[sd,pk,ri,if_pos ab]
   grind
  rw[Dr];rcases n5 with rfl|rfl
  ·refine⟨U,some 2,n+1,[],F h U (.cells (bd hr W++hr z) false),U+1,?_,?_,ab,.inr rfl,.inr rfl,J,J,λc _ ap=>ab⟩
   ·show qw h U 2 (kD (bd hr W) (hr z)) _=_;rw[kh];exact rf J
   ·rw[mq,if_pos rfl,se,h6]
  ·refine⟨U,some 2,n+1,[],F (yy h b) U (.cells (bd hr W++hr z) false),U+1,?_,?_,ab,.inr rfl,.inr rfl,J,J,λc h1 ap=>by rw[mq,if_neg ap,mT,if_neg h1]⟩
   ·have cf:(!false&&Nat.beq 0 0&&Nat.beq (jr (bd hr W)) (Nat.mul n 2)&&Nat.beq 2 2&&Nat.beq n cap&&ee (hr z))=true:=by
     rw[oD,M,bv,rx];have a1:ee (hr z)=true:=by show ee [z.v,(z.w:X)]=true;rw[q9,cL];rfl
     rw[a1];simp
    show(bif _ then _ else _)=_;rw[cf,kh];exact rf (s:=2) (Nat.succ_pos 1)
   ·rw[mq,if_pos rfl,se,h6]
theorem aqH{b:Nat}(g:n+1<=cap):gS 2 (.slice (some ⟨b,0,aS⟩) (n+1) cap) none (some (n:X)) none = .ok (.slice (some ⟨b,0,aS⟩) n cap):=by
 show nV 2 (some ⟨b,0,aS⟩) cap false cap n 0=_;unfold nV;rw[show(Nat.ble cap cap&&(Nat.ble n cap&&Nat.ble 0 n))=true from by simp only[eB,tg];omega];show uX 2 (some ⟨b,0,aS⟩) false cap n 0=_;unfold uX;rw[show Nat.beq cap 0=false from by
  cases cap with
  |zero=>omega
  |succ c=>rfl]
 rfl
end Go.Ax.HdH
namespace Go.Ax
open Go
variable {j:Nat} {O:aa (Nat × Int)} {es:aa MapEntry} {t:Nat} {az:Type} {seen:aa Nat} {b:Nat} {d:aw Nat} {a:Nat} {ak:cc} {z:X} {ok:al} {cap:Nat} {p:Prop} {aJ:Nat}
def jL(r:Int)(l:aa (Nat × Int))(v:Nat):aw Int:=fl r (l.map λp=>if p.1=v then some p.2 else none)
theorem x9(r:Int)(l g:aa (Nat × Int))(v:Nat):jL r (l++g) v=e0 r (jL r l v) (jL r g v):=by unfold jL;rw[iK,FU]
theorem Pb{r:Int}{l g:aa (Nat × Int)}(h:l.Perm g)(v:Nat):jL r l v=jL r g v:=by exact X5 ab
theorem CD(r:Int)(p:Nat × Int)(v:Nat):jL r [p] v=if p.1=v then some p.2 else none:=by show e0 r (if p.1=v then some p.2 else none) none=_;rw[ra]
theorem amR{r:Int}{l:aa (Nat × Int)}{v:Nat}(h:∀p∈l,p.1≠v):jL r l v=none:=by
 refine wc λx g=>?_
 grind
def qL(r:Int)(O:aa (Nat × Int))(p:Nat × Int):aa (Nat × Int):=match O.getLast? with
 |some q=>if q.1=p.1 then O.dropLast++[(q.1,jJ r q.2 p.2)]else O++[p]
 |none=>O++[p]
structure y3 (r:Int) (O M:aa (Nat × Int)) (av:Nat->aw Int):Prop where
 up:O.Pairwise λx y=>x.1<y.1
 le:∀o∈O,∀p∈M,o.1<=p.1
 II:∀v,e0 r (jL r O v) (jL r M v)=av v
theorem y3.step{r:Int}{M E:aa (Nat × Int)}{av:Nat->aw Int}{p:Nat × Int}(H:y3 r O M av)(bg:(p::E).Perm M)(bp:∀q∈M,p.1<=q.1):y3 r (qL r O p) E av:=by
 have I:∀v,jL r M v=e0 r (if p.1=v then some p.2 else none) (jL r E v):=λv=>by rw[<-Pb bg,show p::E=[p]++E from rfl,x9,CD]
 unfold qL;cases bA:O.getLast? with
 |none =>
  have:O=[]:=List.getLast?_eq_none_iff.1 bA;subst this;refine⟨ab,λo g q dt=>?_,λv=>?_⟩
  ·grind
  ·rw[<-H.II v,I v,te,CD];show _=e0 r none _;rw[FB]
 |some q =>
  obtain⟨O',kc⟩:=I6.1 bA;subst kc;have dt:=H.le q ab;have D:=r7.1 H.up
  by_cases e:q.1=p.1
  ·simp only[if_pos e,List.dropLast_concat];refine⟨r7.2 ⟨D.1,ab,λa A b aO=>?_⟩,λo g N Z=>?_,λv=>?_⟩
   ·grind
   ·rcases hp.1 g with g|g
    ·exact H.le o ab N ab
    grind
   ·rw[<-H.II v,I v,x9,x9,CD,CD,ti,ti]
    congr 1
    rw[<-ti]
    congr 1
    by_cases eg:q.1=v
    ·rw[if_pos eg,if_pos eg,if_pos J];rfl
    ·rw[if_neg eg,if_neg eg,if_neg J];rfl
  ·simp only[if_neg e];refine⟨r7.2 ⟨H.up,ab,λa A b aO=>?_⟩,λo g N Z=>?_,λv=>?_⟩
   ·rw[iU.1 aO];rcases hp.1 A with A|A
    ·have h1:=D.2.2 a A q ab
     grind
    grind
   ·rcases hp.1 g with g|g
    ·exact H.le o g N ab
    grind
   ·rw[<-H.II v,I v,x9,CD,ti]
theorem Q6{r:Int}:∀{O:aa (Nat × Int)},(O.Pairwise λx y=>x.1<y.1)->∀v x,jL r O v=some x↔(v,x)∈O
 | [],_,v,x=>⟨nofun,ab⟩
 |p::O,h,v,x=>by
  have A:=uA.1 h;rw[show p::O=[p]++O from rfl,x9,CD,hp,iU]
  by_cases e:p.1=v
  ·have g:jL r O v=none:=amR ab;rw[if_pos e,g,ra]
   grind
  ·rw[if_neg e,FB,Q6 A.2]
   grind
theorem y3.done{r:Int}{n:Nat}{av:Nat->aw Int}(H:y3 r O [] av)(A:∀v,n<=v->av v=none):O=bq n av:=by
 have g:∀v,jL r O v=av v:=λv=>by have:=H.II v;rwa[show jL r [] v=none from rfl,ra]at this
 refine Q5 H.up λi x=>?_;rw[<-Q6  H.up,g]
 grind
set_option linter.all false
set_option maxHeartbeats 1000000
set_option linter.unusedSectionVars false
section
variable {P:Program}  {s:al} {f:FuncId} {l:aa X} {h:ae} {U:Nat} {v:X} {K:bR}
theorem aH.fM(H:aH P s f l h U (λr ac Y=>r=v/\ac=h/\Y=U))(g:K v h U):aH P s f l h U K:=H.mono λ_ _ _ ⟨a,b,c⟩=>by subst a b c;exact g
theorem aH.cu(H:aH P s f l h U (λr ac Y=>r=v/\aA U h ac/\U<=Y))(g:∀ac Y,aA U h ac->U<=Y->K v ac Y):aH P s f l h U K:=H.mono λ_ _ _ ⟨a,b,c⟩=>by subst a;exact g _ _ b c
end
structure wS {iR:Type} [DecidableEq iR] (P:Program) (dW:TypeId) (cu:iR->X):Prop where
 ok:∀k,ym P dW (cu k)=true
 eq:∀a b,kV P dW (cu a) (cu b)=some (decide (a=b))
 same:∀k,oK (cu k) (cu k)=true
theorem Pc{P:Program}{dW:Nat}(g:wm P dW=true):wS P dW (λx:Int=>(x:X)):=by
 have e:∀a b:Int,kV P dW (.int .i64 a) (.int .i64 b)=some (decide (a=b)):=λa b=>by show(bif mm .i64 .i64&&wm P dW then some (f2 a b)else none)=_;rw[g,kT];rfl
 exact⟨λk=>by show(kV P dW (.int .i64 k) (.int .i64 k)).isSome=true;grind,e,λk=>by show(mm .i64 .i64&&f2 k k)=true;rw[wg,kT];simp⟩
section
variable {iR:Type} [DecidableEq iR] {P:Program} {dW:TypeId} {cu:iR->X} {h:ae} {r c:Nat} {L:aa (iR × X × Nat)} {k:iR} {x v:X}
def lm(cu:iR->X)(L:aa (iR × X × Nat)):aa MapEntry:=L.map λe=>{ key:=cu e.1,val:=e.2.1,born:=e.2.2 }
structure i0 (h:ae) (r:Nat) (cu:iR->X) (L:aa (iR × X × Nat)) (c:Nat):Prop where
 at_:u h r=some (.map (lm cu L) c)
 up:L.Pairwise λa b=>a.2.2<b.2.2
 lt:∀e∈L,e.2.2<c
 oX:L.Pairwise λa b=>a.1≠b.1
theorem i0.T{ac:ae}(H:i0 h r cu L c)(g:u ac r=u h r):i0 ac r cu L c:={ H with at_:=g.trans H.at_ }
def iA(L:aa (iR × X × Nat))(k:iR):aw X:=(L.find? λe=>decide (k=e.1)).map (·.2.1)
theorem x0(e:iR × X × Nat):iA (e::L) k=if k=e.1 then some e.2.1 else iA L k:=by
 unfold iA
 grind
theorem Pd{g:aa (iR × X × Nat)}:iA (L++g) k=(iA L k).or (iA g k):=by
 unfold iA
 grind
theorem FC:iA L k=none↔∀e∈L,k≠e.1:=by unfold iA;simp
theorem JY(g:L.Pairwise λa b=>a.1≠b.1):iA L k=some v↔∃n,(k,v,n)∈L:=by
 induction L with
 |nil=>simp[iA]
 |cons e L A =>
  rw[uA]at g;rw[x0]
  grind
theorem Pe(K:wS P dW cu):∀(L:aa (iR × X × Nat)) (i:Nat),iA L k=none->kC P dW (cu k) (lm cu L) i=some none
 | [],_,_=>rfl
 |e::L,i,h=>by have g:=FC.1 h;show(match kV P dW (cu k) (cu e.1)with|some true=>_|some false=>kC P dW (cu k) (lm cu L) (Nat.succ i)|none=>none)=_;rw[K.eq,hD (g e (nQ ..))];exact Pe K L _ (FC.2 ab)
theorem OF(K:wS P dW cu):∀(L:aa (iR × X × Nat)) (i:Nat),iA L k=some v->∃D n E,L=D++(k,v,n)::E/\kC P dW (cu k) (lm cu L) i=some (some (i+D.length,{ key:=cu k,val:=v,born:=n }))
 | [],_,h=>by cases h
 |e::L,i,h=>by
  have g:kC P dW (cu k) (lm cu (e::L)) i=(match kV P dW (cu k) (cu e.1)with|some true=>some (some (i,{ key:=cu e.1,val:=e.2.1,born:=e.2.2 }))|some false=>kC P dW (cu k) (lm cu L) (Nat.succ i)|none=>none):=rfl;rw[x0]at h
  by_cases A:k=e.1
  ·rw[if_pos A]at h;cases h;subst A;refine⟨[],e.2.2,L,rfl,?_⟩;rw[g,K.eq,gP rfl];rfl
  ·rw[if_neg A]at h;obtain⟨D,n,E,M,I⟩:=OF K L (i+1) h;refine⟨e::D,n,E,ab,?_⟩;rw[g,K.eq,hD A]
   grind
theorem wT(K:wS P dW cu)(H:i0 h r cu L c):jV P h dW z ok (.map (some r)) (cu k) = .ok (oF ok ((iA L k).getD z) (iA L k).isSome):=by
 unfold jV;rw[K.ok];show kW h r (λes _=>match kC P dW (cu k) es 0 with|some (some (_,x))=>R.ok (oF ok x.val true)|some none=>.ok (oF ok z false)|none=>.no "lookup - key")=_;unfold kW;rw[H.at_];simp only;cases g:iA L k with
 |none=>rw[Pe K L 0 g];rfl
 |some v =>
  obtain⟨D,n,A,_,e⟩:=OF K L 0 g
  grind
theorem aze(H:i0 h r cu L c):wK h (.map (some r)) = .ok (L.length:X):=by rw[at7];unfold kW;rw[H.at_];show iZ .i64 (.ofNat (jr (lm cu L)))=_;rw[oD];unfold lm;rw[gn];rfl
theorem Hh(K:wS P dW cu)(H:i0 h r cu L c)(D:iA L k=none):mK P dW h (.map (some r)) (cu k) x = .ok (F h r (.map (lm cu (L++[(k,x,c)])) (c+1)))/\∀ac,u ac r=some (.map (lm cu (L++[(k,x,c)])) (c+1))->i0 ac r cu (L++[(k,x,c)]) (c+1):=by
 constructor
 ·unfold mK;rw[K.ok];show kW h r _=_;unfold kW;rw[H.at_];simp only[Pe K L 0 D,kh];unfold lm
  grind
 ·refine λac E=>⟨E,r7.2 ⟨H.up,ab,λa A b g=>?_⟩,λe I=>?_,r7.2 ⟨H.oX,ab,λa A b g=>?_⟩⟩
  ·rw[iU.1 g];exact H.lt a A
  ·rcases hp.1 I with e|e
   ·have:=H.lt _ e;omega
   grind
  ·rw[iU.1 g];exact λe=>FC.1 D a A e.symm
theorem Hi{c:Nat}(g:u h r=some (.map [] c)):i0 h r cu ([]:aa (iR × X × Nat)) c:=⟨g,.nil,ab,.nil⟩
theorem aw8(K:wS P dW cu){n:Nat}(H:i0 h r cu [(k,v,n)] c):mK P dW h (.map (some r)) (cu k) x = .ok (F h r (.map (lm cu [(k,x,n)]) c)):=by
 unfold mK;rw[K.ok];show kW h r _=_;unfold kW;rw[H.at_];obtain⟨D,m,E,g,A⟩:=OF  K [(k,v,n)] 0 (by rw[x0];exact if_pos rfl);simp only[A];cases D with
 |cons a l=>have:=congrArg List.length g;grind
 |nil =>
  cases g;rw[K.same];rfl
theorem WI:∀{L:aa (iR × X × Nat)},L.Pairwise (λa b=>a.2.2<b.2.2)->(∀e∈L,e.2.2<c)->CB c (lm cu L)=true
 | [],_,_=>rfl
 | [e],_,h=>by show(Nat.blt e.2.2 c&&true)=true;rw[Bool.and_true];exact(oE _ _).trans ab
 |e::f::L,g,h=>by rw[uA]at g;show(Nat.blt e.2.2 f.2.2&&CB c (lm cu (f::L)))=true;rw[WI g.2 ab,Bool.and_true];exact(oE _ _).trans ab
end
def hW(i:Nat):X:=(i:X)
theorem rh{P:Program}{dW:Nat}(g:wm P dW=true):wS P dW hW :=
 ⟨λk=>(Pc g).ok _,λa b=>by show kV P dW (a:X) (b:X)=_;rw[(Pc g).eq];congr 1;grind,λk=>(Pc  g).same _⟩
structure iD (h:ae) (r n:Nat) (K:Nat->al) (V:Nat->X->Prop):Prop where
 ex:∃L c,i0 h r hW L c/\(∀e∈L,e.1<n/\V e.1 e.2.1)/\∀i,i<n->(K i=true↔∃e∈L,e.1=i)
section
variable {h ac:ae} {r n i:Nat} {K:Nat->al} {V Vu:Nat->X->Prop} {P:Program} {x:X}
theorem iD.T(H:iD h r n K V)(g:u ac r=u h r)(I:∀i v,V i v->Vu i v):iD ac r n K Vu:=by obtain⟨L,c,A,M,E⟩:=H.ex;exact⟨L,c,A.T g,λe D=>⟨ab,I _ _ (M e D).2⟩,E⟩
theorem iD.get(H:iD h r n K V)(aj:wm P 3=true)(A:i<n):∃v,jV P h 3 z ok (.map (some r)) (hW i) = .ok (oF ok (if K i=true then v else z) (K i))/\(K i=true->V i v):=by
 obtain⟨L,c,D,h1,M⟩:=H.ex;have e:=wT (rh aj) D (k:=i) (z:=z) (ok:=ok);cases g:iA L i with
 |none =>
  have Z:K i=false:=by
   cases E:K i with
   |false=>rfl
   |true =>
    obtain⟨y,I,N⟩:=(M i A).1 E;exact absurd N.symm (FC.1 g y I)
  rw[g]at e;exact⟨z,ab,λh=>by rw[Z]at h;cases h⟩
 |some v =>
  obtain⟨m,bp⟩:=(JY D.oX).1 g;rw[g]at e;exact⟨v,ab,λ_=>(h1 _ bp).2⟩
theorem iD.put(H:iD h r n K V)(M:wm P 3=true)(A:i<n)(hi:K i=false)(aY:V i x):∃o,mK P 3 h (.map (some r)) (hW i) x = .ok (F h r o)/\∀ac,u ac r=some o->iD ac r n (λk=>if k=i then true else K k) V:=by
 obtain⟨L,c,I,h1,N⟩:=H.ex;have bv:iA L i=none:=FC.2 ab;obtain⟨aW,Z⟩:=Hh  (rh M) I bv;refine⟨_,aW,λac D=>⟨_,_,Z ac D,λe g=>?_,λk E=>?_⟩⟩
 ·rcases hp.1 g with g|g
  ·exact h1 e g
  ·rw[iU.1 g];exact⟨A,aY⟩
 ·by_cases e:k=i
  ·subst e;rw[if_pos rfl];exact⟨λ_=>⟨_,hp.2 (.inr (iU.2 rfl)),rfl⟩,ab⟩
  ·rw[if_neg e,N k E];constructor
   ·rintro⟨y,cd,cf⟩;grind
   grind
theorem iD.no{c:Nat}(g:u h r=some (.map [] c)):iD h r n (λ_=>false) V:=⟨[],c,Hi g,λe A=>(td A).elim,ab⟩
theorem FV:∀(n:Nat) (l:aa Nat),l.Nodup->(∀x∈l,x<n)->l.length<=n
 |0,[],_,_=>ab
 |0,x::l,_,h=>absurd (h x ab) J
 |n+1,l,A,h=>by
  have g:=FV n (l.erase n) ab ab
  grind
theorem adr:∀(n:Nat) (l:aa Nat),(∀i,i<n->i∈l)->n<=l.length
 |0,_,_=>J
 |n+1,l,h=>by
  have g:=adr n (l.erase n) ab
  grind
theorem akt{n:Nat}{l:aa Nat}(E:l.Nodup)(h:∀x∈l,x<n):(l.length<n↔∃i,i<n/\i ∉ l):=by
 constructor
 ·intro A;apply uz;intro D;have:=adr n l ab;omega
 ·rintro⟨i,I,g⟩;have:=FV n (i::l) ab ab
  grind
theorem iD.len(H:iD h r n K V):∃m:Nat,wK h (.map (some r)) = .ok (m:X)/\m<=n/\(m<n↔∃i,i<n/\K i=false):=by
 obtain⟨L,c,g,N,M⟩:=H.ex;have E:(L.map (·.1)).Nodup:=tc.2 g.oX;have A:∀x∈L.map (·.1),x<n:=ab
 have D:=FV n _ E A;have I:=akt E A;rw[gn]at D I;refine⟨L.length,aze g,D,ab⟩
 all_goals grind
end
inductive cw where
 |share (i j t:Nat)
 |spread (i j t:Nat)
 |dz (i j t:Nat)
 |dA (i t:Nat)
 |order (i t:Nat)
def cw.src(C:Nat):cw->Nat
 | .share i _ _=>i*C
 | .spread _ j _=>j
 | .dz i j _=>i*C+j
 | .dA i _=>i*C
 | .order _ _=>0
def cw.dst(C:Nat):cw->Nat
 | .share _ j _=>j
 | .spread i j _=>i*C+j
 | .dz i _ _=>i*C
 | .dA _ _=>0
 | .order i _=>i*C
def hA(b:al):Nat:=if b then 1 else 0
variable {m bG:cw}
theorem RV:hA false=0:=rfl
theorem Q7(b:al):hA b<=1:=by cases b <;> decide
def up{az:Type}(f:Nat->az)(i:Nat)(x:az):Nat->az:=λn=>if n=i then x else f n
theorem g4(f:Nat->az)(i:Nat)(x:az):up f i x i=x:=if_pos rfl
theorem ha{f:Nat->az}{i n:Nat}{x:az}(h:n≠i):up f i x n=f n:=if_neg h
def lR:Nat->al:=λ_=>false
def mN(n:Nat)(K:Nat->al):Prop:=∀i,i<n->K i=true
instance (n:Nat) (K:Nat->al):Decidable (mN n K):=by unfold mN;exact inferInstance
theorem Pf{n:Nat}{K:Nat->al}(h:¬mN n K):∃i,i<n/\K i=false:=by
 unfold mN at h
 grind
structure f8 where
 P:Nat->Nat
 e4:Nat->Nat->al
 q:Nat->Nat->Nat
 a:Nat->Nat
 dX:Nat->Nat->al
 w:Nat->al
 V:Nat
 fN:Nat->al
 out:Nat->aa cw
section
variable (R C av:Nat) (x:f8)
def ig(i j:Nat):Nat:=x.P j+hA (x.e4 j i)
def fO(i j:Nat):Nat:=if x.w i=true then x.a i else x.a i-1+hA (x.dX i j)
def jm(i:Nat):Nat:=x.V+hA (x.fN i)
def jn(i:Nat):Nat:=if x.w i=true then x.a i+1 else x.a i
structure Ord:Prop where
 au:∀i,i<R->x.a i<=av+1/\(x.w i=true->x.a i<=av)/\(x.w i=false->1<=x.a i)
 h1:∀i j,i<R->j<C->ig x i j<=x.a i/\ig x i j<=av
 ap:∀i j,i<R->j<C->x.q i j<=x.P j
 aM:∀i j,i<R->j<C->fO x i j<=x.q i j
 bc:∀i,i<R->jm x i<=jn x i
 b3:∀i,i<R->x.a i<=x.V
 a5:∀j,j<C->∃i,i<R/\x.e4 j i=false
 bX:∃i,i<R/\x.fN i=false
 bW:∀i,i<R->x.w i=false->x.a i<=av->∃j,j<C/\x.dX i j=false
def gq:cw->Prop
 | .share i j t=>i<R/\j<C/\ig x i j<t/\t<=x.a i/\t<=av
 | .spread i j t=>i<R/\j<C/\x.q i j<t/\t<=x.P j
 | .dz i j t=>i<R/\j<C/\fO x i j<t/\t<=x.q i j
 | .dA i t=>i<R/\jm x i<=t/\t<jn x i
 | .order i t=>i<R/\x.a i<=t/\t<x.V
def mU:cw->Prop
 | .share i j t=>i<R/\j<C/\t=x.P j+1/\x.e4 j i=false/\t<=av
 | .spread i j t=>i<R/\j<C/\t=x.q i j+1/\t<=av
 | .dz i j t=>i<R/\j<C/\x.w i=false/\t=x.a i/\1<=t/\t<=av/\x.dX i j=false
 | .dA i t=>i<R/\t=x.V/\x.fN i=false/\t<=av
 | .order i t=>i<R/\x.w i=true/\t=x.a i/\t<=av
def dZ:cw->aa cw
 | .share i j t=>if mN R (up (x.e4 j) i true)then(List.range R).map λk=>.spread k j t else[]
 | .spread i j t=>[.dz i j t]
 | .dz i j t=>if mN C (up (x.dX i) j true)then[.dA i t]else[]
 | .dA i t=>if mN R (up x.fN i true)then(List.range R).map λk=>.order k t else[]
 | .order i t=>if t<av then(List.range C).map λk=>.share i k (t+1)else[]
def AS:cw->f8
 | .share i j _=>if mN R (up (x.e4 j) i true)then{ x with P:=up x.P j (x.P j+1),e4:=up x.e4 j lR }else{ x with e4:=up x.e4 j (up (x.e4 j) i true) }
 | .spread i j _=>{ x with q:=up x.q i (up (x.q i) j (x.q i j+1)) }
 | .dz i j _=>if mN C (up (x.dX i) j true)then{ x with dX:=up x.dX i (up (x.dX i) j true),w:=up x.w i true }else{ x with dX:=up x.dX i (up (x.dX i) j true) }
 | .dA i _=>if mN R (up x.fN i true)then{ x with V:=x.V+1,fN:=lR }else{ x with fN:=up x.fN i true }
 | .order i _=>{ x with a:=up x.a i (x.a i+1),w:=up x.w i false,dX:=up x.dX i lR }
def cR(m:cw):f8:={ AS R C x m with out:=up x.out (m.dst C) (x.out (m.dst C)++dZ R C av x m) }
end
section
variable {R C av:Nat} {x:f8}
theorem aw9(i j:Nat)(H:Ord R C av x)(g:i<R):jn x i<=1+fO x i j/\fO x i j<=x.a i:=by
 have:=H.au i g;unfold jn fO;cases A:x.w i with
 |true=>grind
 |false =>
  have:=Q7 (x.dX i j)
  grind
theorem K4{i:Nat}(g:x.w i=false):fO x i j=x.a i-1+hA (x.dX i j):=by unfold fO;grind
theorem azf{i:Nat}(g:x.w i=true):fO x i j=x.a i:=by unfold fO;grind
theorem yp{i:Nat}(g:x.w i=false):jn x i=x.a i:=by unfold jn;grind
theorem Dv{i:Nat}(g:x.w i=true):jn x i=x.a i+1:=by unfold jn;grind
theorem Ord.kF(H:Ord R C av x){i g:Nat}(E:i<R)(ac:aJ<R)(D:g<R)(A:j<C):
  x.a i<=x.V/\x.V<=jm x aJ/\jm x aJ<=x.V+1/\jm x aJ<=jn x aJ/\jn x aJ<=1+fO x aJ j/\fO x aJ j<=x.q aJ j/\x.q aJ j<=x.P j/\x.P j<=ig x g j/\ig x g j<=x.P j+1/\ig x g j<=x.a g/\ig x g j<=av/\x.a i<=av+1:=by have aB:=H.b3 i E;have M:=H.bc aJ ac;have Z:=aw9 aJ j H ac;have aZ:=H.aM aJ j ac A;have N:=H.ap aJ j ac A;have bm:=H.h1 g j D A;have I:=Q7 (x.fN aJ);have br:=Q7 (x.e4 j g);have aW:jm x aJ=x.V+hA (x.fN aJ):=rfl;have aK:ig x g j=x.P j+hA (x.e4 j g):=rfl;omega
theorem RW{b:al}(h:hA b=0):b=false:=by cases b with|false=>rfl|true=>cases h
theorem CV(H:Ord R C av x)(Z:0<C)(M:gq R C av x m):mU R C av x m:=by
 cases m with
 |share i j t =>
  obtain⟨g,D,I,N,aM⟩:=M;have b:=H.kF g g g D;have aK:ig x i j=x.P j+hA (x.e4 j i):=rfl;have E:hA (x.e4 j i)=0:=J
  exact⟨g,D,J,RW E,aM⟩
 |spread i j t =>
  obtain⟨g,D,I,N⟩:=M;have b:=H.kF g g g D;exact⟨g,D,J,J⟩
 |dz i j t =>
  obtain⟨g,D,I,N⟩:=M;have b:=H.kF g g g D;cases A:x.w i with
  |true=>rw[azf A]at I;omega
  |false =>
   have e:=K4 (j:=j) A;have E:hA (x.dX i j)=0:=J
   exact⟨g,D,A,J,J,J,RW E⟩
 |dA i t =>
  obtain⟨g,I,N⟩:=M;have b:=H.kF g g g Z;have aK:jm x i=x.V+hA (x.fN i):=rfl;have E:hA (x.fN i)=0:=J
  cases A:x.w i with
  |true=>rw[Dv A]at *;exact⟨g,J,RW E,J⟩
  |false=>rw[yp A]at *;exact⟨g,J,J,J⟩
 |order i t =>
  obtain⟨g,I,N⟩:=M;have b:=H.kF g g g Z;cases A:x.w i with
  |true=>rw[Dv A]at *;exact⟨g,A,J,J⟩
  |false=>rw[yp A]at *;omega
end
section
variable {R C av:Nat} {x:f8}
theorem JC{i:Nat}(h:mU R C av x (.share i j t)):
  (∀aJ g,aJ<R->ig (cR R C av x (.share i j t)) aJ g=ig x aJ g+if aJ=i/\g=j then 1 else 0) /\
  (cR R C av x (.share i j t)).q=x.q/\(cR R C av x (.share i j t)).a=x.a/\(cR R C av x (.share i j t)).dX=x.dX/\(cR R C av x (.share i j t)).w=x.w/\(cR R C av x (.share i j t)).V=x.V/\(cR R C av x (.share i j t)).fN=x.fN /\
  (∀g,g≠j->(cR R C av x (.share i j t)).P g=x.P g/\(cR R C av x (.share i j t)).e4 g=x.e4 g) /\
  ((mN R (up (x.e4 j) i true)/\(cR R C av x (.share i j t)).P j=x.P j+1/\(cR R C av x (.share i j t)).e4 j=lR/\dZ R C av x (.share i j t)=(List.range R).map λk=>.spread k j t) \/
   (¬mN R (up (x.e4 j) i true)/\(cR R C av x (.share i j t)).P j=x.P j/\(cR R C av x (.share i j t)).e4 j=up (x.e4 j) i true/\dZ R C av x (.share i j t)=[])):=by
 obtain⟨aj,bZ,ci,Z,_⟩:=h
 by_cases M:mN R (up (x.e4 j) i true)
 ·rw[show cR R C av x (.share i j t)={ ({ x with P:=up x.P j (x.P j+1),e4:=up x.e4 j lR }:f8)with out:=up x.out (cw.dst C (cw.share i j t)) (x.out (cw.dst C (cw.share i j t))++dZ R C av x (.share i j t)) } by unfold cR AS;grind];have N:dZ R C av x (.share i j t)=(List.range R).map λk=>cw.spread k j t:=by unfold dZ;grind
  rw[N];refine⟨λaJ g I=>?_,rfl,rfl,rfl,rfl,rfl,rfl,λg A=>⟨ha A,ha A⟩,.inl ⟨M,g4 _ _ _,g4 _ _ _,rfl⟩⟩;show up x.P j (x.P j+1) g+hA (up x.e4 j lR g aJ)=x.P g+hA (x.e4 g aJ)+_
  by_cases D:g=j
  ·subst D;rw[g4,g4]
   by_cases E:aJ=i
   ·subst E;rw[Z];simp[lR,hA]
   ·have:=M aJ I;rw[ha E]at this;rw[this,if_neg (λh=>E h.1)];simp[lR,hA]
  ·rw[ha D,ha D,if_neg (λh=>D h.2)];rfl
 ·rw[show cR R C av x (.share i j t)={ ({ x with e4:=up x.e4 j (up (x.e4 j) i true) }:f8)with out:=up x.out (cw.dst C (cw.share i j t)) (x.out (cw.dst C (cw.share i j t))++dZ R C av x (.share i j t)) } by unfold cR AS;grind];have N:dZ R C av x (.share i j t)=[]:=by unfold dZ;grind
  rw[N];refine⟨λaJ g I=>?_,rfl,rfl,rfl,rfl,rfl,rfl,λg A=>⟨rfl,ha A⟩,.inr ⟨M,rfl,g4 _ _ _,rfl⟩⟩;show x.P g+hA (up x.e4 j (up (x.e4 j) i true) g aJ)=x.P g+hA (x.e4 g aJ)+_
  by_cases D:g=j
  ·subst D;rw[g4]
   by_cases E:aJ=i
   ·subst E;rw[Z,g4];simp[hA]
   ·rw[ha E,if_neg (λh=>E h.1)];rfl
  ·rw[ha D,if_neg (λh=>D h.2)];rfl
theorem Jv{i:Nat}(h:mU R C av x (.dz i j t)):
  (∀aJ g,g<C->fO (cR R C av x (.dz i j t)) aJ g=fO x aJ g+if aJ=i/\g=j then 1 else 0) /\
  (cR R C av x (.dz i j t)).P=x.P/\(cR R C av x (.dz i j t)).e4=x.e4/\(cR R C av x (.dz i j t)).q=x.q/\(cR R C av x (.dz i j t)).a=x.a/\(cR R C av x (.dz i j t)).V=x.V/\(cR R C av x (.dz i j t)).fN=x.fN /\
  (∀aJ,aJ≠i->(cR R C av x (.dz i j t)).w aJ=x.w aJ/\(cR R C av x (.dz i j t)).dX aJ=x.dX aJ) /\
  ((mN C (up (x.dX i) j true)/\(cR R C av x (.dz i j t)).w i=true/\dZ R C av x (.dz i j t)=[.dA i t]) \/
   (¬mN C (up (x.dX i) j true)/\(cR R C av x (.dz i j t)).w i=false/\(cR R C av x (.dz i j t)).dX i=up (x.dX i) j true/\dZ R C av x (.dz i j t)=[])):=by
 obtain⟨aj,bZ,M,ci,h1,_,a9⟩:=h
 by_cases N:mN C (up (x.dX i) j true)
 ·rw[show cR R C av x (.dz i j t)={ ({ x with dX:=up x.dX i (up (x.dX i) j true),w:=up x.w i true }:f8)with out:=up x.out (cw.dst C (cw.dz i j t)) (x.out (cw.dst C (cw.dz i j t))++dZ R C av x (.dz i j t)) } by unfold cR AS;grind];have Z:dZ R C av x (.dz i j t)=[cw.dA i t]:=by unfold dZ;grind
  rw[Z];refine⟨λaJ g I=>?_,rfl,rfl,rfl,rfl,rfl,rfl,λaJ A=>⟨ha A,ha A⟩,.inl ⟨N,g4 _ _ _,rfl⟩⟩;show(if up x.w i true aJ=true then x.a aJ else x.a aJ-1+hA (up x.dX i (up (x.dX i) j true) aJ g))=(if x.w aJ=true then x.a aJ else x.a aJ-1+hA (x.dX aJ g))+_
  by_cases E:aJ=i
  ·subst E;simp only[g4,M,if_true,nP,ff,true_and]
   by_cases D:g=j
   ·subst D;rw[a9];simp[hA];omega
   ·have:=N g I;rw[ha D]at this;rw[this,if_neg D];simp[hA];omega
  ·simp only[ha E,E,false_and,ff];rfl
 ·rw[show cR R C av x (.dz i j t)={ ({ x with dX:=up x.dX i (up (x.dX i) j true) }:f8)with out:=up x.out (cw.dst C (cw.dz i j t)) (x.out (cw.dst C (cw.dz i j t))++dZ R C av x (.dz i j t)) } by unfold cR AS;grind];have Z:dZ R C av x (.dz i j t)=[]:=by unfold dZ;grind
  rw[Z];refine⟨λaJ g I=>?_,rfl,rfl,rfl,rfl,rfl,rfl,λaJ A=>⟨rfl,ha A⟩,.inr ⟨N,M,g4 _ _ _,rfl⟩⟩;show(if x.w aJ=true then x.a aJ else x.a aJ-1+hA (up x.dX i (up (x.dX i) j true) aJ g))=(if x.w aJ=true then x.a aJ else x.a aJ-1+hA (x.dX aJ g))+_
  by_cases E:aJ=i
  ·subst E;simp only[g4,M,nP,ff,true_and]
   by_cases D:g=j
   ·subst D;rw[a9,g4];simp[hA]
   ·rw[ha D,if_neg D];rfl
  ·simp only[ha E,E,false_and,ff];rfl
theorem JG{i:Nat}(h:mU R C av x (.dA i t)):
  (∀aJ,aJ<R->jm (cR R C av x (.dA i t)) aJ=jm x aJ+if aJ=i then 1 else 0) /\
  (cR R C av x (.dA i t)).P=x.P/\(cR R C av x (.dA i t)).e4=x.e4/\(cR R C av x (.dA i t)).q=x.q/\(cR R C av x (.dA i t)).a=x.a/\(cR R C av x (.dA i t)).dX=x.dX/\(cR R C av x (.dA i t)).w=x.w /\
  ((mN R (up x.fN i true)/\(cR R C av x (.dA i t)).V=x.V+1/\(cR R C av x (.dA i t)).fN=lR/\dZ R C av x (.dA i t)=(List.range R).map λk=>.order k t) \/
   (¬mN R (up x.fN i true)/\(cR R C av x (.dA i t)).V=x.V/\(cR R C av x (.dA i t)).fN=up x.fN i true/\dZ R C av x (.dA i t)=[])):=by
 obtain⟨N,M,E,_⟩:=h
 by_cases I:mN R (up x.fN i true)
 ·rw[show cR R C av x (.dA i t)={ ({ x with V:=x.V+1,fN:=lR }:f8)with out:=up x.out (cw.dst C (cw.dA i t)) (x.out (cw.dst C (cw.dA i t))++dZ R C av x (.dA i t)) } by unfold cR AS;grind];have D:dZ R C av x (.dA i t)=(List.range R).map λk=>cw.order k t:=by unfold dZ;grind
  rw[D];refine⟨λaJ A=>?_,rfl,rfl,rfl,rfl,rfl,rfl,ab⟩;show x.V+1+hA (lR aJ)=x.V+hA (x.fN aJ)+_
  by_cases g:aJ=i
  ·subst g;rw[E];simp[lR,hA]
  ·have:=I aJ A;rw[ha g]at this;rw[this,if_neg g];simp[lR,hA]
 ·rw[show cR R C av x (.dA i t)={ ({ x with fN:=up x.fN i true }:f8)with out:=up x.out (cw.dst C (cw.dA i t)) (x.out (cw.dst C (cw.dA i t))++dZ R C av x (.dA i t)) } by unfold cR AS;grind];have D:dZ R C av x (.dA i t)=[]:=by unfold dZ;grind
  rw[D];refine⟨λaJ A=>?_,rfl,rfl,rfl,rfl,rfl,rfl,ab⟩;show x.V+hA (up x.fN i true aJ)=x.V+hA (x.fN aJ)+_
  by_cases g:aJ=i
  ·subst g;rw[E,g4];simp[hA]
  ·rw[ha g,if_neg g];rfl
theorem Jw{i:Nat}:
  (cR R C av x (.spread i j t)).P=x.P/\(cR R C av x (.spread i j t)).e4=x.e4/\(cR R C av x (.spread i j t)).a=x.a/\(cR R C av x (.spread i j t)).dX=x.dX/\(cR R C av x (.spread i j t)).w=x.w/\(cR R C av x (.spread i j t)).V=x.V/\(cR R C av x (.spread i j t)).fN=x.fN /\
  (cR R C av x (.spread i j t)).q i j=x.q i j+1/\(∀aJ g,¬(aJ=i/\g=j)->(cR R C av x (.spread i j t)).q aJ g=x.q aJ g)/\dZ R C av x (.spread i j t)=[.dz i j t]:=by
 refine⟨rfl,rfl,rfl,rfl,rfl,rfl,rfl,?_,λaJ g D=>?_,rfl⟩
 ·show up x.q i (up (x.q i) j (x.q i j+1)) i j=_;rw[g4,g4]
 ·show up x.q i (up (x.q i) j (x.q i j+1)) aJ g=_
  by_cases A:aJ=i
  ·subst A;rw[g4,ha J]
  ·rw[ha A]
theorem Oh{i:Nat}(h:mU R C av x (.order i t)):
  (cR R C av x (.order i t)).P=x.P/\(cR R C av x (.order i t)).e4=x.e4/\(cR R C av x (.order i t)).q=x.q/\(cR R C av x (.order i t)).V=x.V/\(cR R C av x (.order i t)).fN=x.fN /\
  (∀aJ g,fO (cR R C av x (.order i t)) aJ g=fO x aJ g)/\(∀aJ,jn (cR R C av x (.order i t)) aJ=jn x aJ)/\(cR R C av x (.order i t)).a i=x.a i+1/\(cR R C av x (.order i t)).w i=false/\(cR R C av x (.order i t)).dX i=lR /\
  (∀aJ,aJ≠i->(cR R C av x (.order i t)).a aJ=x.a aJ/\(cR R C av x (.order i t)).w aJ=x.w aJ/\(cR R C av x (.order i t)).dX aJ=x.dX aJ) /\
  dZ R C av x (.order i t)=if t<av then(List.range C).map λk=>.share i k (t+1)else[]:=by
 obtain⟨I,D,E,_⟩:=h;refine⟨rfl,rfl,rfl,rfl,rfl,λaJ g=>?_,λaJ=>?_,g4 _ _ _,g4 _ _ _,g4 _ _ _,λaJ h=>⟨ha h,ha h,ha h⟩,rfl⟩
 ·show(if up x.w i false aJ=true then up x.a i (x.a i+1) aJ else up x.a i (x.a i+1) aJ-1+hA (up x.dX i lR aJ g))=if x.w aJ=true then x.a aJ else x.a aJ-1+hA (x.dX aJ g)
  by_cases A:aJ=i
  ·subst A;simp[g4,D,lR,hA]
  ·simp only[ha A]
 ·show(if up x.w i false aJ=true then up x.a i (x.a i+1) aJ+1 else up x.a i (x.a i+1) aJ)=if x.w aJ=true then x.a aJ+1 else x.a aJ
  by_cases A:aJ=i
  ·subst A;simp[g4,D]
  ·simp only[ha A]
theorem wo{n:Nat}{f:Nat->cw}:m∈(List.range n).map f↔∃k,k<n/\f k=m:=by simp
theorem step(H:Ord R C av x)(d5:0<C)(ei:0<R)(bp:gq R C av x m):
  Ord R C av (cR R C av x m)/\∀bG,gq R C av (cR R C av x m) bG↔(gq R C av x bG/\bG≠m)\/bG∈dZ R C av x m:=by
 have aY:=CV H d5 bp;cases m with
 |share i j t =>
  obtain⟨es,eq,E,qV,fb,um,Bk,f5,qc⟩:=JC aY;obtain⟨aj,bZ,ci,bg,e9⟩:=aY;obtain⟨_,_,fA,fW,f3⟩:=bp;generalize cd:cR R C av x (.share i j t)=y at *
  have t5:∀aJ g,fO y aJ g=fO x aJ g:=λaJ g=>by unfold fO;grind
  have N:∀aJ,jn y aJ=jn x aJ:=λaJ=>by unfold jn;grind
  have M:∀aJ,jm y aJ=jm x aJ:=λaJ=>by unfold jm;grind
  have eij:=es i j aj;rw[if_pos ⟨rfl,rfl⟩]at eij;refine⟨⟨λaJ ac=>?_,λaJ g ac A=>?_,λaJ g ac A=>?_,λaJ g ac A=>?_,λaJ ac=>?_,λaJ ac=>?_,λg A=>?_,?_,λaJ ac=>?_⟩,λbG=>?_⟩
  ·rw[E,fb];exact H.au aJ ac
  ·rw[es aJ g ac,E];have:=H.h1 aJ g ac A
   grind
  ·rw[eq];have:=H.ap aJ g ac A
   grind
  ·rw[t5,eq];exact H.aM aJ g ac A
  ·rw[M,N];exact H.bc aJ ac
  ·rw[E,um];exact H.b3 aJ ac
  ·by_cases e:g=j
   ·subst e;rcases qc with⟨_,_,Z,_⟩|⟨aE,_,Z,_⟩
    ·exact⟨i,aj,by rw[Z];rfl⟩
    ·rw[Z];exact Pf aE
   ·rw[(f5 g e).2];exact H.a5 g A
  ·rw[Bk];exact H.bX
  ·rw[fb,E,qV];exact H.bW aJ ac
  ·cases bG with
   |share aJ g D =>
    have I:cw.share aJ g D ∉ dZ R C av x (.share i j t):=ab
    simp only[gq,I,kf,E,ne_eq,cw.share.injEq];constructor
    ·rintro⟨aB,a2,a3,aZ,bt⟩;rw[es aJ g aB]at a3
     by_cases e:aJ=i/\g=j
     ·rw[if_pos e]at a3;obtain⟨rfl,rfl⟩:=e;have:ig x aJ g=x.P g:=by unfold ig;rw[bg];rfl
      omega
     omega
    ·rintro⟨⟨aB,a2,a3,aZ,bt⟩,eS⟩;refine⟨aB,a2,?_,aZ,bt⟩;rw[es aJ g aB]
     by_cases e:aJ=i/\g=j
     ·rw[if_pos e];obtain⟨rfl,rfl⟩:=e;have:ig x aJ g=x.P g:=by unfold ig;rw[bg];rfl
      omega
     grind
   |spread aJ g D =>
    rcases qc with⟨_,Z,_,aK⟩|⟨_,Z,_,aK⟩
    ·rw[aK,wo];simp only[gq,eq,ne_eq,reduceCtorEq,ke,ik]
     by_cases e:g=j
     ·subst e;rw[Z];constructor
      ·grind
      ·rintro(⟨aB,a2,a3,aZ⟩|⟨k,hk,bP⟩)
       ·omega
       ·cases bP;exact⟨hk,bZ,by have:=H.ap _ _ hk bZ;omega,J⟩
     grind
    ·rw[aK];simp only[gq,eq,ne_eq,reduceCtorEq,ke,ik,td,kf]
     grind
   |dz aJ g D =>
    have I:cw.dz aJ g D ∉ dZ R C av x (.share i j t):=ab
    simp only[gq,I,kf,t5,eq,ne_eq,reduceCtorEq,ke,ik]
   |dA aJ D =>
    have I:cw.dA aJ D ∉ dZ R C av x (.share i j t):=ab
    simp only[gq,I,kf,M,N,ne_eq,reduceCtorEq,ke,ik]
   |order aJ D =>
    have I:cw.order aJ D ∉ dZ R C av x (.share i j t):=ab
    simp only[gq,I,kf,E,um,ne_eq,reduceCtorEq,ke,ik]
 |spread i j t =>
  obtain⟨la,Bl,E,qV,fb,um,Bk,Z,f5,eN⟩:=Jw;obtain⟨aj,bZ,ci,e9⟩:=aY;obtain⟨_,_,fA,fW⟩:=bp;generalize cd:cR R C av x (.spread i j t)=y at *
  have sJ:∀aJ g,ig y aJ g=ig x aJ g:=λaJ g=>by unfold ig;grind
  have t5:∀aJ g,fO y aJ g=fO x aJ g:=λaJ g=>by unfold fO;grind
  have N:∀aJ,jn y aJ=jn x aJ:=λaJ=>by unfold jn;grind
  have M:∀aJ,jm y aJ=jm x aJ:=λaJ=>by unfold jm;grind
  refine⟨⟨λaJ ac=>?_,λaJ g ac A=>?_,λaJ g ac A=>?_,λaJ g ac A=>?_,λaJ ac=>?_,λaJ ac=>?_,λg A=>?_,?_,λaJ ac=>?_⟩,λbG=>?_⟩
  ·rw[E,fb];exact H.au aJ ac
  ·rw[sJ,E];exact H.h1 aJ g ac A
  ·rw[la]
   by_cases e:aJ=i/\g=j
   ·grind
   ·rw[f5 aJ g e];exact H.ap aJ g ac A
  ·rw[t5];have:=H.aM aJ g ac A
   grind
  ·rw[M,N];exact H.bc aJ ac
  ·rw[E,um];exact H.b3 aJ ac
  ·rw[Bl];exact H.a5 g A
  ·rw[Bk];exact H.bX
  ·rw[fb,E,qV];exact H.bW aJ ac
  ·rw[eN,iU];cases bG with
   |share aJ g D=>simp only[gq,sJ,E,ne_eq,reduceCtorEq,ke,ik,kf]
   |spread aJ g D =>
    simp only[gq,la,ne_eq,cw.spread.injEq,reduceCtorEq,kf]
    grind
   |dz aJ g D =>
    simp only[gq,t5,ne_eq,cw.dz.injEq,reduceCtorEq,ke,ik]
    by_cases e:aJ=i/\g=j
    ·obtain⟨rfl,rfl⟩:=e;rw[Z];constructor
     ·omega
     ·rintro(⟨aB,a2,a3,aZ⟩|⟨_,_,rfl⟩)
      ·omega
      ·exact⟨aj,bZ,by have:=H.aM aJ g aj bZ;omega,J⟩
    grind
   |dA aJ D=>simp only[gq,M,N,ne_eq,reduceCtorEq,ke,ik,kf]
   |order aJ D=>simp only[gq,E,um,ne_eq,reduceCtorEq,ke,ik,kf]
 |dz i j t =>
  obtain⟨es,la,Bl,eq,E,um,Bk,f5,qc⟩:=Jv aY;obtain⟨aj,bZ,b0,ci,h1t,e9,a9⟩:=aY;obtain⟨_,_,fA,fW⟩:=bp;generalize cd:cR R C av x (.dz i j t)=y at *
  have sJ:∀aJ g,ig y aJ g=ig x aJ g:=λaJ g=>by unfold ig;grind
  have M:∀aJ,jm y aJ=jm x aJ:=λaJ=>by unfold jm;grind
  have N:∀aJ,aJ≠i->jn y aJ=jn x aJ:=λaJ h=>by unfold jn;grind
  refine⟨⟨λaJ ac=>?_,λaJ g ac A=>?_,λaJ g ac A=>?_,λaJ g ac A=>?_,λaJ ac=>?_,λaJ ac=>?_,λg A=>?_,?_,λaJ ac=>?_⟩,λbG=>?_⟩
  ·rw[E]
   by_cases e:aJ=i
   ·grind
   ·rw[(f5 aJ e).1];exact H.au aJ ac
  ·rw[sJ,E];exact H.h1 aJ g ac A
  ·rw[la,eq];exact H.ap aJ g ac A
  ·rw[es aJ g A,eq];have:=H.aM aJ g ac A
   grind
  ·rw[M];have:=H.bc aJ ac
   by_cases e:aJ=i
   ·subst e;rw[yp b0]at this;rcases qc with⟨_,Z,_⟩|⟨_,Z,_⟩
    ·rw[Dv Z,E];omega
    ·rw[yp Z,E];omega
   grind
  ·rw[E,um];exact H.b3 aJ ac
  ·rw[Bl];exact H.a5 g A
  ·rw[Bk];exact H.bX
  ·rw[E]
   by_cases e:aJ=i
   ·subst e;rcases qc with⟨_,Z,_⟩|⟨aE,Z,aK,_⟩
    ·grind
    ·rw[aK];exact λ_ _=>Pf aE
   ·rw[(f5 aJ e).1,(f5 aJ e).2];exact H.bW aJ ac
  ·cases bG with
   |share aJ g D =>
    have I:cw.share aJ g D ∉ dZ R C av x (.dz i j t):=ab
    simp only[gq,I,kf,sJ,E,ne_eq,reduceCtorEq,ke,ik]
   |spread aJ g D =>
    have I:cw.spread aJ g D ∉ dZ R C av x (.dz i j t):=ab
    simp only[gq,I,kf,la,eq,ne_eq,reduceCtorEq,ke,ik]
   |dz aJ g D =>
    have I:cw.dz aJ g D ∉ dZ R C av x (.dz i j t):=ab
    simp only[gq,I,kf,eq,ne_eq,cw.dz.injEq];constructor
    ·rintro⟨aB,a2,a3,aZ⟩;rw[es aJ g a2]at a3
     by_cases e:aJ=i/\g=j
     ·rw[if_pos e]at a3;obtain⟨rfl,rfl⟩:=e;have jA:=K4 (j:=g) b0;omega
     omega
    ·rintro⟨⟨aB,a2,a3,aZ⟩,eS⟩;refine⟨aB,a2,?_,aZ⟩;rw[es aJ g a2]
     by_cases e:aJ=i/\g=j
     ·rw[if_pos e];obtain⟨rfl,rfl⟩:=e;have jA:=K4 (j:=g) b0;omega
     grind
   |dA aJ D =>
    by_cases e:aJ=i
    ·subst e;have jA:=yp b0;rcases qc with⟨_,Z,aK⟩|⟨_,Z,_,aK⟩
     ·rw[aK,iU];simp only[gq,M,Dv Z,E,jA,ne_eq,reduceCtorEq,ke,ik,cw.dA.injEq,true_and];constructor
      ·omega
      ·rintro(⟨aB,a2,a3⟩|rfl)
       ·omega
       ·exact⟨aj,by have:=H.bc aJ aj;omega,J⟩
     ·rw[aK];simp only[gq,M,yp Z,E,jA,ne_eq,reduceCtorEq,ke,ik,td,kf]
    ·have I:cw.dA aJ D ∉ dZ R C av x (.dz i j t):=ab
     simp only[gq,I,kf,M,N aJ e,ne_eq,reduceCtorEq,ke,ik]
   |order aJ D =>
    have I:cw.order aJ D ∉ dZ R C av x (.dz i j t):=ab
    simp only[gq,I,kf,E,um,ne_eq,reduceCtorEq,ke,ik]
 |dA i t =>
  obtain⟨es,la,Bl,eq,E,qV,fb,qc⟩:=JG aY;obtain⟨aj,ci,aG,e9⟩:=aY;obtain⟨_,fA,fW⟩:=bp;generalize cd:cR R C av x (.dA i t)=y at *
  have sJ:∀aJ g,ig y aJ g=ig x aJ g:=λaJ g=>by unfold ig;grind
  have t5:∀aJ g,fO y aJ g=fO x aJ g:=λaJ g=>by unfold fO;grind
  have N:∀aJ,jn y aJ=jn x aJ:=λaJ=>by unfold jn;grind
  have jA:jm x i=x.V:=by unfold jm;rw[aG];rfl
  refine⟨⟨λaJ ac=>?_,λaJ g ac A=>?_,λaJ g ac A=>?_,λaJ g ac A=>?_,λaJ ac=>?_,λaJ ac=>?_,λg A=>?_,?_,λaJ ac=>?_⟩,λbG=>?_⟩
  ·rw[E,fb];exact H.au aJ ac
  ·rw[sJ,E];exact H.h1 aJ g ac A
  ·rw[la,eq];exact H.ap aJ g ac A
  ·rw[t5,eq];exact H.aM aJ g ac A
  ·rw[es aJ ac,N];have:=H.bc aJ ac
   grind
  ·rw[E];have:=H.b3 aJ ac;omega
  ·rw[Bl];exact H.a5 g A
  ·rcases qc with⟨_,_,Z,_⟩|⟨aE,_,Z,_⟩
   ·exact⟨i,aj,by rw[Z];rfl⟩
   ·rw[Z];exact Pf aE
  ·rw[fb,E,qV];exact H.bW aJ ac
  ·cases bG with
   |share aJ g D =>
    have I:cw.share aJ g D ∉ dZ R C av x (.dA i t):=ab
    simp only[gq,I,kf,sJ,E,ne_eq,reduceCtorEq,ke,ik]
   |spread aJ g D =>
    have I:cw.spread aJ g D ∉ dZ R C av x (.dA i t):=ab
    simp only[gq,I,kf,la,eq,ne_eq,reduceCtorEq,ke,ik]
   |dz aJ g D =>
    have I:cw.dz aJ g D ∉ dZ R C av x (.dA i t):=ab
    simp only[gq,I,kf,t5,eq,ne_eq,reduceCtorEq,ke,ik]
   |dA aJ D =>
    have I:cw.dA aJ D ∉ dZ R C av x (.dA i t):=ab
    simp only[gq,I,kf,N,ne_eq,cw.dA.injEq]
    grind
   |order aJ D =>
    rcases qc with⟨_,Z,_,aK⟩|⟨_,Z,_,aK⟩
    ·rw[aK,wo];simp only[gq,E,Z,ne_eq,reduceCtorEq,ke,ik];constructor
     ·grind
     ·rintro(⟨aB,a2,a3⟩|⟨k,hk,bP⟩)
      ·omega
      ·cases bP;exact⟨hk,by have:=H.b3 _ hk;omega,J⟩
    ·rw[aK];simp only[gq,E,Z,ne_eq,reduceCtorEq,ke,ik,td,kf]
 |order i t =>
  obtain⟨la,Bl,eq,um,Bk,t5,N,E,fb,qV,f5,eN⟩:=Oh aY;obtain⟨aj,b0,ci,e9⟩:=aY;obtain⟨_,fA,fW⟩:=bp;generalize cd:cR R C av x (.order i t)=y at *
  have sJ:∀aJ g,ig y aJ g=ig x aJ g:=λaJ g=>by unfold ig;grind
  have M:∀aJ,jm y aJ=jm x aJ:=λaJ=>by unfold jm;grind
  refine⟨⟨λaJ ac=>?_,λaJ g ac A=>?_,λaJ g ac A=>?_,λaJ g ac A=>?_,λaJ ac=>?_,λaJ ac=>?_,λg A=>?_,?_,λaJ ac=>?_⟩,λbG=>?_⟩
  ·by_cases e:aJ=i
   ·grind
   ·rw[(f5 aJ e).1,(f5 aJ e).2.1];exact H.au aJ ac
  ·rw[sJ];have:=H.h1 aJ g ac A
   grind
  ·rw[la,eq];exact H.ap aJ g ac A
  ·rw[t5,eq];exact H.aM aJ g ac A
  ·rw[M,N];exact H.bc aJ ac
  ·rw[um]
   by_cases e:aJ=i
   ·grind
   ·rw[(f5 aJ e).1];exact H.b3 aJ ac
  ·rw[Bl];exact H.a5 g A
  ·rw[Bk];exact H.bX
  ·by_cases e:aJ=i
   ·subst e;rw[qV];exact λ_ _=>⟨0,d5,rfl⟩
   ·rw[(f5 aJ e).1,(f5 aJ e).2.1,(f5 aJ e).2.2];exact H.bW aJ ac
  ·cases bG with
   |share aJ g D =>
    by_cases ct:t<av
    ·rw[eN,if_pos ct,wo];simp only[gq,sJ,ne_eq,reduceCtorEq,ke,ik]
     by_cases e:aJ=i
     ·subst e;rw[E];constructor
      ·grind
      ·rintro(⟨aB,a2,a3,aZ,bt⟩|⟨k,hk,bP⟩)
       ·omega
       ·cases bP;exact⟨aj,hk,by have:=H.h1 _ _ aj hk;omega,J,J⟩
     grind
    ·rw[eN,if_neg ct];simp only[gq,sJ,ne_eq,reduceCtorEq,ke,ik,td,kf]
     grind
   |spread aJ g D =>
    have I:cw.spread aJ g D ∉ dZ R C av x (.order i t):=ab
    simp only[gq,I,kf,la,eq,ne_eq,reduceCtorEq,ke,ik]
   |dz aJ g D =>
    have I:cw.dz aJ g D ∉ dZ R C av x (.order i t):=ab
    simp only[gq,I,kf,t5,eq,ne_eq,reduceCtorEq,ke,ik]
   |dA aJ D =>
    have I:cw.dA aJ D ∉ dZ R C av x (.order i t):=ab
    simp only[gq,I,kf,M,N,ne_eq,reduceCtorEq,ke,ik]
   |order aJ D =>
    have I:cw.order aJ D ∉ dZ R C av x (.order i t):=ab
    simp only[gq,I,kf,um,ne_eq,cw.order.injEq]
    grind
end
def t6{az:Type}(f:Nat->Nat->az)(i j:Nat)(x:az):Nat->Nat->az:=up f i (up (f i) j x)
theorem qx(f:Nat->Nat->az)(i j:Nat)(x:az):t6 f i j x i j=x:=by unfold t6;rw[g4,g4]
theorem qy{f:Nat->Nat->az}{i:Nat}{x:az}(h:¬(a=i/\b=j)):t6 f i j x a b=f a b:=by
 unfold t6
 by_cases e:a=i
 ·subst e;rw[g4,ha J]
 ·rw[ha e]
theorem P0{R C av:Nat}{x:f8}{o:Nat->aa cw}:gq R C av { x with out:=o } m=gq R C av x m:=by cases m <;> rfl
theorem tr{C i ov:Nat}(h:i*C+j=aJ*C+ov)(A:j<C)(g:ov<C):i=aJ/\j=ov:=by
 have E:(i*C+j) / C=i:=by rw[xS,Nat.mul_add_div J,NQ A,nS]
 have D:(aJ*C+ov) / C=aJ:=by rw[xS,Nat.mul_add_div J,NQ g,nS]
 grind
theorem pv{R C i:Nat}(g:i<R)(A:j<C):i*C+j<R*C:=by
 have:(i+1)*C<=R*C:=qk C g
 grind
section
variable {R C av:Nat} {x:f8} {cK:Nat->Nat->aa cw}
theorem KL(g:0<C)(h:gq R C av x m):m.src C<R*C/\m.dst C<R*C:=by
 cases m with
 |share i j t=>obtain⟨a,b,_⟩:=h;have:=pv  a g;have:=pv   (by omega:0<R) b;simp only[cw.src,cw.dst];omega
 |spread i j t=>obtain⟨a,b,_⟩:=h;have:=pv a b;simp only[cw.src,cw.dst];omega
 |dz i j t=>obtain⟨a,b,_⟩:=h;have:=pv a b;simp only[cw.src,cw.dst];omega
 |dA i t=>obtain⟨a,_⟩:=h;have:=pv  a g;simp only[cw.src,cw.dst];omega
 |order i t=>obtain⟨a,_⟩:=h;have:=pv  a g;simp only[cw.src,cw.dst];omega
structure oQ (R C av:Nat) (x:f8) (cK:Nat->Nat->aa cw):Prop where
 ord:Ord R C av x
 eF:∀n m,m∈x.out n->m.src C=n/\gq R C av x m
 dP:∀n jR m,m∈cK n jR->m.src C=n/\m.dst C=jR/\gq R C av x m
 gh:∀m,gq R C av x m->m∈x.out (m.src C)\/m∈cK (m.src C) (m.dst C)
 l0:∀n,(x.out n).Nodup
 vN:∀n jR,(cK n jR).Nodup
 nD:∀n jR m,m∈x.out n->m ∉ cK n jR
theorem oQ.pick(H:oQ R C av x cK){n:Nat}{r:aa cw}(h:x.out n=m::r):oQ R C av { x with out:=up x.out n r } (t6 cK n (m.dst C) (cK n (m.dst C)++[m])):=by
 have bp:m∈x.out n:=ab
 have bv:=H.l0 n;rw[h,List.nodup_cons]at bv;obtain⟨I,bE⟩:=H.eF n m bp;have sub:∀k bG,bG∈up x.out n r k->bG∈x.out k/\¬(k=n/\bG=m):=λk bG g=>by
  by_cases e:k=n
  ·subst e;rw[g4]at g
   grind
  ·rw[ha e]at g;grind
 refine⟨⟨H.ord.au,H.ord.h1,H.ord.ap,H.ord.aM,H.ord.bc,H.ord.b3,H.ord.a5,H.ord.bX,H.ord.bW⟩,λk bG g=>?_,λk A bG g=>?_,λbG D=>?_,λk=>?_,λk A=>?_,λk A bG g=>?_⟩
 ·rw[P0];exact H.eF k bG ab
 ·rw[P0]
  by_cases e:k=n/\A=m.dst C
  ·obtain⟨rfl,rfl⟩:=e;rw[qx,hp,iU]at g;rcases g with g|rfl
   ·exact H.dP _ _ bG g
   ·exact⟨I,rfl,bE⟩
  ·rw[qy e]at g;exact H.dP k A bG g
 ·rw[P0]at D;rcases H.gh bG D with E|E
  ·by_cases e:bG=m
   ·subst e
    right
    rw[I,qx];simp
   ·left
    show bG∈up x.out n r (bG.src C)
    by_cases M:bG.src C=n
    ·rw[M,g4]
     grind
    ·rw[ha M];omega
  ·right
   by_cases e:bG.src C=n/\bG.dst C=m.dst C
   ·rw[e.1,e.2,qx,hp]
    grind
   ·rw[qy e];omega
 ·show(up x.out n r k).Nodup
  by_cases e:k=n
  ·subst e;rw[g4];grind
  ·rw[ha e];exact H.l0 k
 ·by_cases e:k=n/\A=m.dst C
  ·obtain⟨rfl,rfl⟩:=e;rw[qx,NM];exact⟨H.vN _ _,by simp,λa cW b Z=>by rw[iU]at Z;subst Z;intro e;subst e;exact H.nD _ _ _ bp cW⟩
  ·rw[qy e];exact H.vN k A
 ·obtain⟨N,kb⟩:=sub k bG g
  by_cases e:k=n/\A=m.dst C
  ·obtain⟨rfl,rfl⟩:=e;rw[qx,hp,iU];rintro(E|rfl)
   ·exact H.nD _ _ _ N E
   grind
  ·rw[qy e];exact H.nD k A bG N
theorem Zh(h:bG∈dZ R C av x m):bG.src C=m.dst C:=by
 cases m with
 |share i j t =>
  simp only[dZ]at h
  split at h
  ·rw[wo]at h;obtain⟨k,_,rfl⟩:=h;rfl
  grind
 |spread i j t=>simp only[dZ]at h;rw[iU]at h;subst h;rfl
 |dz i j t =>
  simp only[dZ]at h
  split at h
  ·rw[iU]at h;subst h;rfl
  grind
 |dA i t =>
  simp only[dZ]at h
  split at h
  ·rw[wo]at h;obtain⟨k,_,rfl⟩:=h;rfl
  grind
 |order i t =>
  simp only[dZ]at h
  split at h
  ·rw[wo]at h;obtain⟨k,_,rfl⟩:=h;rfl
  grind
theorem OG{n:Nat}{f:Nat->cw}(h:∀a b,f a=f b->a=b):((List.range n).map f).Nodup:=by
 induction n with
 |zero=>simp
 |succ n g =>
  rw[q6,iK,NM]
  grind
theorem ai9:(dZ R C av x m).Nodup:=by
 cases m with
 |share i j t =>
  simp only[dZ];split
  ·exact OG ab
  ·simp
 |spread i j t=>simp only[dZ];simp
 |dz i j t=>simp only[dZ];grind
 |dA i t =>
  simp only[dZ];split
  ·exact OG ab
  ·simp
 |order i t =>
  simp only[dZ];split
  ·exact OG ab
  ·simp
theorem Zi(A:mU R C av x m)(h:bG∈dZ R C av x m):¬gq R C av x bG:=by
 cases m with
 |share i j t =>
  simp only[dZ]at h
  split at h
  ·rw[wo]at h;obtain⟨k,_,rfl⟩:=h;obtain⟨_,_,D,_⟩:=A;rintro⟨_,_,_,g⟩;omega
  grind
 |spread i j t =>
  simp only[dZ]at h;rw[iU]at h;subst h;obtain⟨_,_,D,_⟩:=A;rintro⟨_,_,_,g⟩;omega
 |dz i j t =>
  simp only[dZ]at h
  split at h
  ·rw[iU]at h;subst h;obtain⟨_,_,E,D,_⟩:=A;rintro⟨_,_,g⟩;rw[yp E]at g;omega
  grind
 |dA i t =>
  simp only[dZ]at h
  split at h
  ·rw[wo]at h;obtain⟨k,_,rfl⟩:=h;obtain⟨_,D,_⟩:=A;rintro⟨_,_,g⟩;omega
  grind
 |order i t =>
  simp only[dZ]at h
  split at h
  ·rw[wo]at h;obtain⟨k,_,rfl⟩:=h;obtain⟨_,_,D,_⟩:=A;rintro⟨_,_,_,g,_⟩;omega
  grind
theorem oQ.P1(H:oQ R C av x cK)(d5:0<C)(ei:0<R){n D:Nat}{r:aa cw}(h:cK n D=m::r):oQ R C av (cR R C av x m) (t6 cK n D r):=by
 have bp:m∈cK n D:=ab
 have bv:=H.vN n D;rw[h,List.nodup_cons]at bv;obtain⟨aq,Z,bE⟩:=H.dP n D m bp;obtain⟨aC1,I⟩:=step H.ord d5 ei bE;have aY:=CV H.ord d5 bE;have f5:(cR R C av x m).out=up x.out D (x.out D++dZ R C av x m):=by subst Z;rfl
 have aB0:∀k bG,bG∈x.out k->bG≠m:=λk bG g e=>by subst e;have:=(H.eF k bG g).1;rw[aq]at this;subst this;exact H.nD _ _ _ g bp
 have M:∀k bG,bG∈(cR R C av x m).out k↔bG∈x.out k\/(k=D/\bG∈dZ R C av x m):=λk bG=>by
  rw[f5]
  by_cases e:k=D
  ·subst e;rw[g4,hp];simp
  ·rw[ha e];grind
 have aB1:∀k A bG,bG∈t6 cK n D r k A->bG∈cK k A/\bG≠m:=λk A bG g=>by
  by_cases e:k=n/\A=D
  ·obtain⟨rfl,rfl⟩:=e;rw[qx]at g
   grind
  ·rw[qy e]at g;exact⟨g,λaK=>by subst aK;have:=H.dP k A bG g;omega⟩
 refine⟨aC1,λk bG g=>?_,λk A bG g=>?_,λbG N=>?_,λk=>?_,λk A=>?_,λk A bG g bA=>?_⟩
 ·rw[M]at g;rcases g with g|⟨rfl,g⟩
  ·have:=H.eF k bG g;exact⟨this.1,(I bG).2 ab⟩
  ·exact⟨by rw[Zh g,Z],(I bG).2 ab⟩
 ·obtain⟨E,ap⟩:=aB1 k A bG g;have:=H.dP k A bG E;exact⟨this.1,J,(I bG).2 ab⟩
 ·rw[M];rcases(I bG).1 N with⟨E,ap⟩|E
  ·rcases H.gh bG E with aM|aM
   ·grind
   ·right
    by_cases e:bG.src C=n/\bG.dst C=D
    ·rw[e.1,e.2,qx]
     grind
    ·rw[qy e];omega
  ·exact .inl (.inr ⟨by rw[Zh E,Z],E⟩)
 ·rw[f5]
  by_cases e:k=D
  ·subst e;rw[g4,NM];exact⟨H.l0 _,ai9,λa cW b aO e=>by subst e;exact Zi aY aO (H.eF _ a cW).2⟩
  ·rw[ha e];exact H.l0 k
 ·by_cases e:k=n/\A=D
  ·obtain⟨rfl,rfl⟩:=e;rw[qx];grind
  ·rw[qy e];exact H.vN k A
 ·obtain⟨E,ap⟩:=aB1 k A bG bA;rw[M]at g;rcases g with g|⟨rfl,g⟩
  ·exact H.nD k A bG g E
  ·exact Zi aY g (H.dP _ _ _ E).2.2
theorem Ord.ended(H:Ord R C av x)(d5:0<C)(ei:0<R)(h:∀m,¬gq R C av x m){i:Nat}(g:i<R):x.a i=av+1:=by
 have M:∀i,i<R->x.a i=x.V:=λi g=>by
  have:=H.b3 i g
  by_cases e:x.a i<x.V
  ·exact absurd ⟨g,cD _,e⟩ (h (.order i (x.a i)))
  omega
 have es:∀i j,i<R->j<C->x.a i<=ig x i j\/av<=ig x i j:=λi j g A=>by
  by_cases e:ig x i j<x.a i/\ig x i j<av
  ·exact absurd ⟨g,A,E3 _,e.1,e.2⟩ (h (.share i j (ig x i j+1)))
  omega
 have eq:∀i j,i<R->j<C->x.q i j=x.P j:=λi j g A=>by
  have:=H.ap i j g A
  by_cases e:x.q i j<x.P j
  ·exact absurd ⟨g,A,E3 _,e⟩ (h (.spread i j (x.q i j+1)))
  omega
 have qV:∀i j,i<R->j<C->fO x i j=x.q i j:=λi j g A=>by
  have:=H.aM i j g A
  by_cases e:fO x i j<x.q i j
  ·exact absurd ⟨g,A,E3 _,e⟩ (h (.dz i j (fO x i j+1)))
  omega
 have eg:∀i,i<R->jm x i=jn x i:=λi g=>by
  have:=H.bc i g
  by_cases e:jm x i<jn x i
  ·exact absurd ⟨g,cD _,e⟩ (h (.dA i (jm x i)))
  omega
 have kP:=M i g;have e9:=(H.au i g).1
 by_cases bj:x.a i=av+1
 ·omega
 exfalso;obtain⟨k,N,aG⟩:=H.bX;have E:∀i,i<R->x.w i=true:=λi g=>by
  cases E:x.w i with
  |true=>rfl
  |false =>
   have I:=M i g;obtain⟨j,A,a9⟩:=H.bW i g E J;obtain⟨aB2,D,bg⟩:=H.a5 j A;have aK:=qV i j g A;rw[K4 E,a9,RV,eq i j g A]at aK;have Z:=es aB2 j D A;unfold ig at Z;rw[bg,RV,M aB2 D]at Z;have:=(H.au i g).2.2 E;omega
 have I:=eg k N;rw[Dv ab]at I;unfold jm at I;rw[aG,RV,M k N]at I;omega
def ms(R C t:Nat):Nat:=1+t*(2*R+C+2)
def gu(R C:Nat):cw->Nat
 | .share i j t=>ms R C (t-1)+R+j+1
 | .spread i j t=>ms R C (t-1)+R+C+i+1
 | .dz i j t=>ms R C (t-1)+2*R+C+1
 | .dA i t=>ms R C t
 | .order i t=>ms R C t+i+1
theorem oJ(h:a<=b):ms R C a<=ms R C b:=by have:=qk (2*R+C+2) h;unfold ms;omega
theorem qs(h:a<b):ms R C a+2*R+C+2<=ms R C b:=by have:=qk (2*R+C+2) (Nat.succ_le_of_lt h);rw[Fe]at this;unfold ms;omega
theorem auh(H:Ord R C av x)(d5:0<C)(bp:gq R C av x m){p:Nat}(bg:(dZ R C av x m)[p]? = some bG):
  gu R C m+p+1<=gu R C bG/\∀l,gq R C av x l->l.src C=m.dst C->gu R C l+p+1<=gu R C bG:=by
 have aY:=CV H d5 bp;have hd:∀{n:Nat} {f:Nat->cw},((List.range n).map f)[p]? = some bG->p<n/\bG=f p:=ab
 have one:∀{y:cw},[y][p]? = some bG->p=0/\bG=y:=ab
 have st:∀{i j k:Nat},i*C=k*C+j->j<C->i=k/\j=0:=λ{i j k} h bZ=>by have:=tr      J d5 bZ;omega
 cases m with
 |share i j t =>
  obtain⟨g,bZ,ci,_,e9⟩:=aY;simp only[dZ]at bg
  split at bg
  case isFalse=>grind
  obtain⟨hpR,rfl⟩:=hd bg;refine⟨by simp only[gu];omega,λl I N=>?_⟩;cases l with
  |share aJ Z A =>
   obtain⟨D,E,M,aZ,bt⟩:=I;have b:=H.kF D g g bZ;have:=oJ (R:=R) (C:=C) (J:A-1<=t-1);simp only[gu];omega
  |spread aJ Z A =>
   obtain⟨D,E,M,aZ⟩:=I;have N:Z=j:=N;subst N;have:=qs (R:=R) (C:=C) (J:A-1<t-1);simp only[gu];omega
  |dz aJ Z A =>
   obtain⟨D,E,M,aZ⟩:=I;have N:aJ*C+Z=j:=N;obtain⟨rfl,rfl⟩:=tr  (i:=aJ)  (aJ:=0)  J E bZ;have:=H.ap 0 Z D E;have:=qs (R:=R) (C:=C) (J:A-1<t-1);simp only[gu];omega
  |dA aJ A =>
   obtain⟨D,E,M⟩:=I;have b:=H.kF g D g bZ;have:=oJ (R:=R) (C:=C) (J:A<=t-1);simp only[gu];omega
  |order aJ A =>
   obtain⟨D,E,M⟩:=I;have b:=H.kF g g g bZ;have:=oJ (R:=R) (C:=C) (J:A<=t-1);simp only[gu];omega
 |spread i j t =>
  obtain⟨g,bZ,ci,e9⟩:=aY;obtain⟨_,_,fA,fW⟩:=bp;simp only[dZ]at bg;obtain⟨rfl,rfl⟩:=one bg;refine⟨by simp only[gu];omega,λl I N=>?_⟩;cases l with
  |share aJ Z A =>
   obtain⟨D,E,M,aZ,bt⟩:=I;have b:=H.kF D g g bZ;have:=oJ (R:=R) (C:=C) (J:A-1<=t-1);simp only[gu];omega
  |spread aJ Z A =>
   obtain⟨D,E,M,aZ⟩:=I;have b:=H.kF g g g bZ;have bQ:=H.kF g g g E;have:=oJ (R:=R) (C:=C) (J:A-1<=t-1);simp only[gu];omega
  |dz aJ Z A =>
   obtain⟨D,E,M,aZ⟩:=I;have N:aJ*C+Z=i*C+j:=N;obtain⟨rfl,rfl⟩:=tr N E bZ;have:=qs (R:=R) (C:=C) (J:A-1<t-1);simp only[gu];omega
  |dA aJ A =>
   obtain⟨D,E,M⟩:=I;have N:aJ*C=i*C+j:=N;obtain⟨rfl,rfl⟩:=st N bZ;have b:=H.kF D D D bZ;omega
  |order aJ A =>
   obtain⟨D,E,M⟩:=I;have b:=H.kF g g g bZ;have:=oJ (R:=R) (C:=C) (J:A<=t-1);simp only[gu];omega
 |dz i j t =>
  obtain⟨g,bZ,b0,ci,h1t,e9,a9⟩:=aY;obtain⟨_,_,fA,fW⟩:=bp;simp only[dZ]at bg
  split at bg
  case isFalse=>grind
  obtain⟨rfl,rfl⟩:=one bg;have fb:=yp b0;have aE:=qs (R:=R) (C:=C) (J:t-1<t);refine⟨by simp only[gu];omega,λl I N=>?_⟩;cases l with
  |share aJ Z A =>
   obtain⟨D,E,M,aZ,bt⟩:=I;have b:=H.kF D g g bZ;have:=oJ (R:=R) (C:=C) (J:A-1<=t-1);simp only[gu];omega
  |spread aJ Z A =>
   obtain⟨D,E,M,aZ⟩:=I;have b:=H.kF g g g E;have:=oJ (R:=R) (C:=C) (J:A-1<=t-1);simp only[gu];omega
  |dz aJ Z A =>
   obtain⟨D,E,M,aZ⟩:=I;have b:=H.kF g D g E;have:=oJ (R:=R) (C:=C) (J:A-1<=t-1);simp only[gu];omega
  |dA aJ A =>
   obtain⟨D,E,M⟩:=I;have N:aJ*C=i*C:=N;have:aJ=i:=(st (j:=0) J d5).1;subst this;have:=oJ (R:=R) (C:=C) (J:A<=t-1);simp only[gu];omega
  |order aJ A =>
   obtain⟨D,E,M⟩:=I;have b:=H.kF g g g bZ;have:=oJ (R:=R) (C:=C) (J:A<=t-1);simp only[gu];omega
 |dA i t =>
  obtain⟨g,ci,aG,e9⟩:=aY;simp only[dZ]at bg
  split at bg
  case isFalse=>grind
  obtain⟨hpR,rfl⟩:=hd bg;refine⟨by simp only[gu];omega,λl I N=>?_⟩;cases l with
  |share aJ Z A =>
   obtain⟨D,E,M,aZ,bt⟩:=I;have b:=H.kF D g g E;have:=qs (R:=R) (C:=C) (J:A-1<t);simp only[gu];omega
  |spread aJ Z A =>
   obtain⟨D,E,M,aZ⟩:=I;have b:=H.kF g g g E;have:=qs (R:=R) (C:=C) (J:A-1<t);simp only[gu];omega
  |dz aJ Z A =>
   obtain⟨D,E,M,aZ⟩:=I;have b:=H.kF g D g E;have:=qs (R:=R) (C:=C) (J:A-1<t);simp only[gu];omega
  |dA aJ A =>
   obtain⟨D,E,M⟩:=I;have b:=H.kF g D g d5;have:=oJ (R:=R) (C:=C) (J:A<=t);simp only[gu];omega
  |order aJ A =>
   obtain⟨D,E,M⟩:=I;have:=qs (R:=R) (C:=C) (J:A<t);simp only[gu];omega
 |order i t =>
  obtain⟨g,b0,ci,e9⟩:=aY;simp only[dZ]at bg
  split at bg
  case isFalse=>grind
  obtain⟨hpR,rfl⟩:=hd bg;have fb:=Dv b0;rw[show gu R C (.share i p (t+1))=ms R C t+R+p+1 from rfl];refine⟨by simp only[gu];omega,λl I N=>?_⟩;cases l with
  |share aJ Z A =>
   obtain⟨D,E,M,aZ,bt⟩:=I;have N:aJ*C=i*C:=N;have:aJ=i:=(st (j:=0) J d5).1;subst this;have:=qs (R:=R) (C:=C) (J:A-1<t);simp only[gu];omega
  |spread aJ Z A =>
   obtain⟨D,E,M,aZ⟩:=I;have b:=H.kF g g g E;have:=qs (R:=R) (C:=C) (J:A-1<t);simp only[gu];omega
  |dz aJ Z A =>
   obtain⟨D,E,M,aZ⟩:=I;have b:=H.kF g D g E;have:=qs (R:=R) (C:=C) (J:A-1<t);simp only[gu];omega
  |dA aJ A =>
   obtain⟨D,E,M⟩:=I;have N:aJ*C=i*C:=N;have:aJ=i:=(st (j:=0) J d5).1;subst this;have:=oJ (R:=R) (C:=C) (J:A<=t);simp only[gu];omega
  |order aJ A =>
   obtain⟨D,E,M⟩:=I;have b:=H.kF g g g d5;have:=oJ (R:=R) (C:=C) (J:A<=t);simp only[gu];omega
structure pV (R C n K:Nat) (x:f8) (cK:Nat->Nat->aa cw):Prop where
 t1:∀k p m,(x.out k)[p]? = some m->n+p+(if k<K then 1 else 0)<=gu R C m
 t2:∀k di m,m∈cK k di->n<=gu R C m
 t3:∀k di,K<=k->cK k di=[]
theorem pV.pick{n K:Nat}(D:pV R C n K x cK){r:aa cw}(h:x.out K=m::r):pV R C n (K+1) { x with out:=up x.out K r } (t6 cK K (m.dst C) (cK K (m.dst C)++[m])):=by
 refine⟨λk p bG g=>?_,λk A bG g=>?_,λk A g=>?_⟩
 ·have g:(up x.out K r k)[p]? = some bG:=g
  by_cases e:k=K
  ·subst e;rw[g4]at g;have:=D.t1 k (p+1) bG ab
   grind
  ·rw[ha e]at g;have:=D.t1 k p bG g
   grind
 ·by_cases e:k=K/\A=m.dst C
  ·obtain⟨rfl,rfl⟩:=e;rw[qx,hp,iU]at g;rcases g with g|rfl
   ·exact D.t2 _ _ _ g
   ·have:=D.t1 k 0 bG ab;omega
  ·rw[qy e]at g;exact D.t2 _ _ _ g
 ·rw[qy J];exact D.t3 k A J
theorem pV.skip{n K:Nat}(D:pV R C n K x cK)(h:x.out K=[]):pV R C n (K+1) x cK:=by
 refine⟨λk p bG g=>?_,D.t2,λk A g=>D.t3 k A J⟩;have:=D.t1 k p bG g
 grind
theorem pV.P1{n K:Nat}(D:pV R C n K x cK)(H:oQ R C av x cK)(d5:0<C)(hi:R*C<=K){k I:Nat}{r:aa cw}(h:cK k I=m::r):pV R C n K (cR R C av x m) (t6 cK k I r):=by
 have N:m∈cK k I:=ab
 obtain⟨aq,bj,Z⟩:=H.dP k I m N;have aO:=KL d5 Z;refine⟨λE p bG g=>?_,λE A bG g=>?_,λE A g=>?_⟩
 ·have g:(up x.out (m.dst C) (x.out (m.dst C)++dZ R C av x m) E)[p]? = some bG:=g
  by_cases e:E=m.dst C
  ·subst e;rw[g4]at g;rw[if_pos J]
   by_cases aK:p<(x.out (m.dst C)).length
   ·rw[xJ aK]at g;have:=D.t1 _ p bG g
    grind
   ·rw[EQ J]at g;obtain⟨e8,fX⟩:=auh H.ord d5 Z g;have h0:=D.t2 _ _ _ N;cases bA:(x.out (m.dst C)).length with
    |zero=>omega
    |succ q =>
     rw[bA]at fX;have M:∃l,(x.out (m.dst C))[q]? = some l:=⟨_,oB J⟩
     obtain⟨l,M⟩:=M;have h1:=D.t1 _ q l M;rw[if_pos J]at h1;have ap:=H.eF _ l (kz M)
     grind
  ·rw[ha e]at g;exact D.t1 E p bG g
 ·by_cases e:E=k/\A=I
  ·obtain⟨rfl,rfl⟩:=e;rw[qx]at g;exact D.t2 _ _ bG (by rw[h];grind)
  ·rw[qy e]at g;exact D.t2 _ _ bG g
 ·by_cases e:E=k/\A=I
  ·omega
  ·rw[qy e];exact D.t3 _ _ g
theorem pV.next{n K:Nat}(D:pV R C n K x cK)(H:oQ R C av x cK)(I:0<C)(Z:R*C<=K)(M:∀k E,cK k E=[]):pV R C (n+1) 0 x cK:=by
 refine⟨λk p m g=>?_,ab,ab⟩;have N:=D.t1 k p m g;have A:=H.eF k m ab;have aM:=KL I A.2
 grind
theorem axa(H:Ord R C av x)(I:0<C)(E:gq R C av x m):gu R C m<=ms R C av+R:=by
 have A:=CV H I E;cases m with
 |share i j t=>obtain⟨_,_,D,_,g⟩:=A;have:=qs (R:=R) (C:=C) (J:t-1<av);simp only[gu];omega
 |spread i j t=>obtain⟨_,_,D,g⟩:=A;have:=qs (R:=R) (C:=C) (J:t-1<av);simp only[gu];omega
 |dz i j t=>obtain⟨_,_,_,D,M,g,_⟩:=A;have:=qs (R:=R) (C:=C) (J:t-1<av);simp only[gu];omega
 |dA i t=>obtain⟨_,D,_,g⟩:=A;have:=oJ (R:=R) (C:=C) g;simp only[gu];omega
 |order i t=>obtain⟨D,_,_,g⟩:=A;have:=oJ (R:=R) (C:=C) g;simp only[gu];omega
theorem oQ.fin{n:Nat}(H:oQ R C av x cK)(D:pV R C n 0 x cK)(A:0<C)(M:0<R)(Z:ms R C av+R<n){i:Nat}(I:i<R):x.a i=av+1:=by
 refine H.ord.ended A M (λm E=>?_) I;have h1:=axa H.ord A E;rcases H.gh m E with g|g
 ·obtain⟨p,N⟩:=EU.1 g;have:=D.t1 _ p m N;omega
 ·rw[D.t3 _ _ J]at g;grind
theorem oQ.more(H:oQ R C av x cK)(g:0<C)(D:0<R)(au:∀k I,cK k I=[]){i:Nat}(Z:i<R)(N:x.a i≠av+1):∃k,k<R*C/\x.out k≠[]:=by
 apply uz;intro M;apply N;refine H.ord.ended g D (λm A=>?_) Z;rcases H.gh m A with E|E
 ·exact M ⟨m.src C,(KL g A).1,ab⟩
 grind
def mu(R C:Nat):f8:={ P:=λ_=>0,e4:=λ_=>lR,q:=λ_ _=>0,a:=λ_=>0,dX:=λ_=>lR,w:=λ_=>true,V:=0,fN:=lR,out:=λn=>if n % C=0/\n<R*C then[.dA (n / C) 0]else[] }
theorem axb(I:0<C)(M:0<R):oQ R C av (mu R C) (λ_ _=>[])/\pV R C 1 0 (mu R C) (λ_ _=>[]):=by
 have eg:∀i,jm (mu R C) i=0:=λi=>rfl;have es:∀i,jn (mu R C) i=1:=λi=>rfl;have qV:∀i j,fO (mu R C) i j=0:=λi j=>rfl;have BL:∀i j,ig (mu R C) i j=0:=λi j=>rfl;have N:∀n m,m∈(mu R C).out n->∃i,i<R/\n=i*C/\m = .dA i 0:=λn m h=>by
  have h:m∈(if n % C=0/\n<R*C then[cw.dA (n / C) 0]else[]):=h
  split at h
  case isFalse=>cases h
  rename_i bv
  rw[iU]at h;have Z:=Nat.div_add_mod n C;rw[bv.1,nS,xS]at Z;exact⟨n / C,by rw[NF I];omega,Z.symm,h⟩
 have aC2:∀i,i<R->(mu R C).out (i*C)=[.dA i 0]:=λi A=>by show(if i*C % C=0/\i*C<R*C then[cw.dA (i*C / C) 0]else[])=_;rw[if_pos ⟨Nat.mul_mod_left i C,by have:=pv  A I;omega⟩,Nat.mul_div_cancel i I]
 refine⟨⟨⟨λi A=>⟨by show 0<=_;omega,λ_=>by show 0<=_;omega,λh=>by cases h⟩,ab,λi j _ _=>cD _,ab,ab,λi _=>cD _,λj _=>⟨0,M,rfl⟩,⟨0,M,rfl⟩,λi _ h=>by cases h⟩,λn m h=>?_,λn jR m h=>(by cases h),λm E=>?_,λn=>?_,ab,ab⟩,⟨λk p m h=>?_,ab,ab⟩⟩
 ·obtain⟨i,A,rfl,rfl⟩:=N n m h;exact⟨rfl,A,ab,ab⟩
 ·left
  cases m with
  |share i j t=>obtain⟨_,_,D,g,_⟩:=E;rw[BL]at D;have g:t<=0:=g;omega
  |spread i j t=>obtain⟨_,_,D,g⟩:=E;have g:t<=0:=g;omega
  |dz i j t=>obtain⟨_,_,D,g⟩:=E;have g:t<=0:=g;omega
  |dA i t =>
   obtain⟨A,D,g⟩:=E;rw[es]at g;rw[show t=0 by omega];show _∈(mu R C).out (i*C)
   grind
  |order i t=>obtain⟨_,D,g⟩:=E;have g:t<0:=g;omega
 ·show(if n % C=0/\n<R*C then[cw.dA (n / C) 0]else[]).Nodup
  grind
 ·obtain⟨i,A,rfl,rfl⟩:=N k m ab;rw[aC2 i A]at h;cases p with
  |zero=>rw[if_neg J];simp[gu,ms]
  |succ p=>grind
end
section
variable {R C av:Nat} {x:f8} {cK:Nat->Nat->aa cw}
def cw.code:cw->Nat
 | .share i j _=>i*8+j
 | .spread i j _=>64+(i*8+j)
 | .dz i j _=>128+(i*8+j)
 | .dA i _=>192+i
 | .order i _=>200+i
theorem amS(ei:R<=8)(d5:C<=8)(h:mU R C av x m)(ac:mU R C av x bG)(e:m.code=bG.code):m=bG:=by
 cases m with
 |share i j t =>
  obtain⟨I,N,E,_⟩:=h;cases bG with
  |share aJ Z D =>
   obtain⟨g,A,M,_⟩:=ac;simp only[cw.code]at e
   grind
  |_=>exfalso;obtain⟨g,A,_⟩:=ac;simp only[cw.code]at e;omega
 |spread i j t =>
  obtain⟨I,N,E,_⟩:=h;cases bG with
  |spread aJ Z D =>
   obtain⟨g,A,M,_⟩:=ac;simp only[cw.code]at e
   grind
  |_=>exfalso;obtain⟨g,A,_⟩:=ac;simp only[cw.code]at e;omega
 |dz i j t =>
  obtain⟨I,N,_,E,_⟩:=h;cases bG with
  |dz aJ Z D =>
   obtain⟨g,A,_,M,_⟩:=ac;simp only[cw.code]at e
   grind
  |_=>exfalso;obtain⟨g,A,_⟩:=ac;simp only[cw.code]at e;omega
 |dA i t =>
  obtain⟨I,E,_⟩:=h;cases bG with
  |dA aJ D =>
   obtain⟨g,M,_⟩:=ac;simp only[cw.code]at e
   grind
  |_=>exfalso;obtain⟨g,A,_⟩:=ac;simp only[cw.code]at e;omega
 |order i t =>
  obtain⟨I,_,E,_⟩:=h;cases bG with
  |order aJ D =>
   obtain⟨g,_,M,_⟩:=ac;simp only[cw.code]at e
   grind
  |_=>exfalso;obtain⟨g,A,_⟩:=ac;simp only[cw.code]at e;omega
theorem aqI(g:R<=8)(D:C<=8)(h:mU R C av x m):m.code<208:=by
 cases m <;> (obtain⟨A,E,_⟩:=h;simp only[cw.code];omega)
theorem oQ.len(H:oQ R C av x cK)(g:0<C)(I:R<=8)(M:C<=8)(n:Nat):(x.out n).length<=208:=by
 have A:∀m∈x.out n,mU R C av x m:=λm D=>CV H.ord g (H.eF n m D).2;have:=FV 208 ((x.out n).map cw.code) (tc.2 ((H.l0 n).imp_of_mem λcW Z E e=>E (amS I M (A _ cW) (A _ Z) e))) λc N=>by obtain⟨m,D,rfl⟩:=fz.1 N;exact aqI I M (A m D)
 grind
def tz(R L:Nat)(a:Nat->Nat):Nat:=if ∀i,i<R->a i-1=L then L+1 else L
def ve(R:Nat)(x:f8)(L:Nat):Prop:=(∀i,i<R->L<=max 1 (x.a i))/\∃i,i<R/\max 1 (x.a i)=L
theorem ve.step{L:Nat}(H:ve R x L)(O:Ord R C av x)(I:mU R C av x m):ve R (cR R C av x m) (tz R L (cR R C av x m).a):=by
 obtain⟨h1,g,M,ap⟩:=H;have same:∀y:f8,y.a=x.a->ve R y (tz R L y.a):=λy e=>by
  have bv:tz R L y.a=L:=by
   unfold tz
   grind
  rw[bv];exact⟨ab,g,M,ab⟩
 cases m with
 |share i j t=>obtain⟨_,_,e,_⟩:=JC I;exact same _ e
 |spread i j t=>obtain⟨_,_,e,_⟩:=Jw       ;exact same _ e
 |dz i j t=>obtain⟨_,_,_,_,e,_⟩:=Jv I;exact same _ e
 |dA i t=>obtain⟨_,_,_,_,e,_⟩:=JG I;exact same _ e
 |order i t =>
  have ht:(cR R C av x (.order i t)).a=up x.a i (x.a i+1):=rfl;have aj:i<R:=I.1;unfold ve;rw[ht];have Z:∀k,k≠i->up x.a i (x.a i+1) k=x.a k:=λk hk=>ha hk;have a_s:up x.a i (x.a i+1) i=x.a i+1:=g4 _ _ _
  by_cases A:∀k,k<R->up x.a i (x.a i+1) k-1=L
  ·have:tz R L (up x.a i (x.a i+1))=L+1:=if_pos A
   grind
  ·have:tz R L (up x.a i (x.a i+1))=L:=if_neg A;rw[this];refine⟨λk hk=>?_,?_⟩
   ·grind
   ·by_cases e:g=i
    ·subst e
     by_cases au:x.a g=0
     ·grind
     ·obtain⟨D,HM,N⟩:∃D,D<R/\up x.a g (x.a g+1) D-1≠L:=uz ab;have E:D≠g:=ab
      rw[Z D E]at N;have cI:=O.b3 D HM;have bQ:=O.bc g aj;have d6:jn x g<=x.a g+1:=by unfold jn;grind
      have fB:x.V<=jm x g:=NR _ _
      grind
    grind
theorem ve.le{L:Nat}(H:ve R x L)(O:Ord R C av x):1<=L/\L<=av+1:=by obtain⟨_,i,g,e⟩:=H;have:=(O.au i g).1;omega
theorem ve.fin{L:Nat}(H:ve R x L)(h:∀i,i<R->x.a i=av+1):L=av+1:=by
 obtain⟨_,i,g,e⟩:=H
 grind
end
section
variable {P:Program} {s:al} {f:FuncId} {args:aa X} {h:ae} {U:Nat} {K:bR}
theorem d9.lt{B:Nat}{ai:b5}{w:World}(D:d9 B ai (u h) w)(A:jQ ai U){o:fJ}(e:u h b=some o):b<U:=by
 rcases h8 b U with g|g
 ·exact g
 ·have:=D.fresh A b g
  grind
theorem aH.plain{v:X}(aG:uW v=true)(M:aH P false f args h U (λE ac _=>E=v/\aA U h ac))(hi:K v h U):aH P s f args h U K :=
 kI.up ⟨M.1,λB ai w g D A cW n=>(M.2 B ai w g D A cW n).mono λe ba bP=>by obtain⟨E,ac,Y,bn,c,rfl,⟨rfl,Z⟩,I,N⟩:=bP;exact⟨E,h,U,ai,c,rfl,⟨rfl,rfl,rfl⟩,bF.back (A.sub N) (Fj aG ai) I,N.forget D A λb o e=>by rw[Z b (D.lt A e)];exact e⟩⟩ hi
theorem aH.m5{val:Nat->X}{cs:aa X}(N:hU cs=true)
  (A:∀(ai bn:b5) (b:Nat) (p:Place) (c:X),bn b=some p->ai U=some p->bF bn (val b) c->bF ai (val U) c)
  (a1:aH P false f args h U (λdF ac _=>∃b,dF=val b/\U<=b/\u ac b=some (.cells cs false)/\aA U h ac)) (hi:K (val U) (F h U (.cells cs false)) (U+1)):aH P s f args h U K :=
 kI.up ⟨a1.1,λB ai w g Z bE cW n=>(a1.2 B ai w g Z bE cW n).mono λe ba bP=>by
  obtain⟨dF,ac,Y,bn,c,rfl,⟨b,rfl,aO,I,hk⟩,w3,bp⟩:=bP;have D:=bp.rel.kH b ab;obtain⟨p,bg⟩:=lI.1 D;have nr:=bp.aqg Z bE (λb o e=>by rw[hk b (Z.lt bE e)];exact e) aO bg I (by obtain⟨gE,hu,bM,dK,d2,M,gW,ow,sZ,r2⟩:=bp.rel.obj b p _ bg I;refine⟨gE,hu,bM,dK,d2,M,gW,ow,λi x aY=>?_,r2⟩;obtain⟨fU,e,aG⟩:=sZ i x aY;have E:=Fv N (kz aY);exact⟨fU,e,by rw[zS E aG];exact Cg E _⟩)
  refine⟨val U,F h U (.cells cs false),U+1,(λk=>if k=U then some p else ai k),c,rfl,⟨rfl,rfl,rfl⟩,A _ bn b p c bg ab w3,?_⟩;have:u (F h U (.cells cs false))=(λk=>if k=U then some (fJ.cells cs false)else u h k):=funext λk=>wa h U _ k;rw[this];exact nr⟩ hi
theorem JH{n k:Nat}(ai bn:b5)(b:Nat)(p:Place)(c:X)(A:bn b=some p)(g:ai U=some p)(D:bF bn (.slice (some ⟨b,0,some k⟩) n cap) c):bF ai (.slice (some ⟨U,0,some k⟩) n cap) c:=by
 cases D with
 |oG h e=>rw[A]at h;cases h;exact .oG g e _ _
 |oH=>exact .oH _ _ _ _ _
theorem W9{n k:Nat}{lz:IntKind}{i:Int}(ai bn:b5)(b:Nat)(p:Place)(c:X)(A:bn b=some p)(g:ai U=some p)(D:bF bn (.tuple ⟨[.slice (some ⟨b,0,some k⟩) n cap,.int lz i]⟩) c):bF ai (.tuple ⟨[.slice (some ⟨U,0,some k⟩) n cap,.int lz i]⟩) c:=by
 cases D with
 |tuple h=>cases h with
  |cons a t=>cases t with
   |cons E t=>cases t with
    |nil =>
     cases E;exact .tuple (.cons (JH ai bn b p _ A g a) (.cons (.int _ _) .nil))
theorem ads{r c:Nat}(A:u h r=some (.map es c))(g:K (bf U) (F h U (.iter (some r) c [] c)) (U+1)):dD (sk h U (.map (some r))) K:=by unfold sk;simp only[A];exact g
theorem adt{it r g cH:Nat}(Z:u h it=some (.iter (some r) g seen cH))(I:u h r=some (.map es cH))(D:∀e∈es,e.born<cH)(N:g=cH)(E:leftOf seen es=[]->K (.tuple #[.bool false]) h U)(M:∀e∈leftOf seen es,e∈es->K (.tuple #[.bool true,e.key,e.val]) (F h it (.iter (some r) g (seen++[e.born]) cH)) U):vm false h U (bf it) K :=
 ⟨it,r,g,cH,cH,seen,es,rfl,rfl,Z,I,akf D,E,λe A=>⟨by rw[N];exact D e (Ft A).1,M e A (Ft A).1⟩⟩
end
section
variable {iR:Type} [DecidableEq iR] {cu:iR->X} {L rest:aa (iR × X × Nat)} {h:ae} {U it r cH:Nat} {K:bR}
theorem OH{seen:aa Nat}:∀{L:aa (iR × X × Nat)} {e:iR × X × Nat},L.Pairwise (λa b=>a.2.2<b.2.2)->e∈L.filter (λe=>decide (e.2.2 ∉ seen)) ->
  (L.filter λe=>decide (e.2.2 ∉ seen)).Perm (e::L.filter λx=>decide (x.2.2 ∉ seen++[e.2.2]))
 | [],e,_,h=>by cases h
 |x::L,e,E,h=>by
  have g:∀y∈L,x.2.2<y.2.2:=λy D=>r6 E D;have A:=ND E;rw[q4]at h;rw[q4,q4]
  by_cases M:x.2.2∈seen
  ·rw[if_neg ab]at h;rw[if_neg ab,if_neg ab];exact OH A h
  ·rw[if_pos ab]at h;rw[if_pos ab];rcases gQ.1 h with rfl|h
   ·rw[if_neg ab];have:L.filter (λx=>decide (x.2.2 ∉ seen))=L.filter (λx=>decide (x.2.2 ∉ seen++[e.2.2])):=Jf λy D=>by
     have:=g y D
     grind
    rw[this]
   ·have I:=nR.1 h;have:=g e I.1;rw[if_pos ab];exact((OH A h).cons x).trans (List.Perm.swap ..)
theorem Od(seen:aa Nat):∀L:aa (iR × X × Nat),leftOf seen (lm cu L)=lm cu (L.filter λe=>decide (e.2.2 ∉ seen))
 | []=>rfl
 |e::L=>by
  show leftOf seen (⟨cu e.1,e.2.1,e.2.2⟩::lm cu L)=_;rw[uI,Od seen L,q4]
  by_cases g:e.2.2∈seen
  ·rw[if_pos g,if_neg ab]
  ·rw[if_neg g,if_pos ab];rfl
def w9(h:ae)(it r:Nat)(cH:Nat)(L rest:aa (iR × X × Nat)):Prop:=∃seen,u h it=some (.iter (some r) cH seen cH)/\rest=L.filter λe=>decide (e.2.2 ∉ seen)
theorem w9.T{ac:ae}(I:w9 h it r cH L rest)(g:u ac it=u h it):w9 ac it r cH L rest:=by obtain⟨seen,e,A⟩:=I;exact⟨seen,g.trans e,A⟩
theorem i0.hd(H:i0 h r cu L cH)(g:∀ac,w9 ac U r cH L L->(∀c,c≠U->u ac c=u h c)->K (bf U) ac (U+1)):dD (sk h U (.map (some r))) K :=
 ads H.at_ (g _ ⟨[],aT _ _ _,(zG.2 (by simp)).symm⟩ λc A=>ar J)
theorem i0.fH(H:i0 h r cu L cH)(I:w9 h it r cH L rest)(eS:it≠r)(N:rest=[]->K (.tuple #[.bool false]) h U)
  (h1:∀e g ac,e∈L->rest.Perm (e::g)->w9 ac it r cH L g->(∀c,c≠it->u ac c=u h c)->wu ac (bf it) = .ok (.tuple #[cu e.1,e.2.1])->K (.tuple #[.bool true,cu e.1,e.2.1]) ac U):
  vm false h U (bf it) K:=by
 obtain⟨seen,aj,rfl⟩:=I;obtain⟨A,Z⟩:=W5 (WI (cu:=cu) H.up H.lt);refine adt aj H.at_ Z rfl (λe=>N ?_) λe E D=>?_
 ·rw[Od]at e;unfold lm at e;exact List.map_eq_nil_iff.1 e
 ·rw[Od]at E;obtain⟨x,M,rfl⟩:=fz.1 E;exact h1 x _ _ (nR.1 M).1 (OH H.up M) ⟨_,aT _ _ _,rfl⟩ (λc a1=>ar J) (XU (aT _ _ _) ((ar J).trans H.at_) A D)
end
noncomputable section
def BM(b:al)(p:Prop):Prop:=Bool.rec False p b
def SF(f:ae->R X)(v:X)(p:Prop):Nat->aa ae->Prop
 |0,_=>p
 |n+1,h::aq=>BM (nd v (f h)) (SF f v p n aq)
 |_+1,[]=>False
def TI(B:om)(E:aa (Nat × aP))(R:aP)(n:Nat):aP:=Nat.rec (λ_ _ _=>False) (λ_ eY aF h U=>B aF h U eY E R) n
section
variable (P:Program) (ih:FuncId->aa X->ae->Nat->bR->Prop)
def SG(r:fq)(k:bR):Prop:=match r with
 | .call f args h U=>ih f args h U k
 |_=>False
def Mf(e:vH)(ak:cc)(h:ae)(U:Nat)(k:bR):Prop:=match e with
 | .fH _=>False
 | .call f args=>af (pF ak args) λl=>ih f l h U k
 | .Aw f args=>af (ea ak f) λf=>af (pF ak args) λl=>SG ih (hP h U l f) k
 | .inv r m args=>af (pF ak args) λl=>af (ea ak r) λv=>SG ih (md P h U l m v) k
 |e=>o8 P true e ak h U k
def TJ(d:aw Nat)(i:m6)(ak:cc)(h:ae)(U:Nat)(k:cc->ae->Nat->Prop):Prop:=match i with
 | .fv e=>Mf P ih e ak h U λv h U=>k (ep ak d (some v)) h U
 |i=>ny P true d i ak h U k
def Mg(l:aa lV):cc->ae->Nat->(cc->ae->Nat->Prop)->Prop :=
 List.rec (motive:=λ_=>cc->ae->Nat->(cc->ae->Nat->Prop)->Prop) (λak h U K=>K ak h U)
  (λi _ eY ak h U K=>ku i.g ak (λak=>TJ P ih i.d i.k ak h U λak h U=>eY ak h U K) (λak=>eY (ep ak i.d none) h U K)) l
def SH(d:aw Nat)(c:Nat)(i:m6)(ak:cc)(h:ae)(U:Nat)(b:ae)(aq:aa ae)(k:cc->ae->Nat->ae->aa ae->Prop):Prop:=match i with
 | .red e=>af (pred P ak e b) λv=>SF (pred P ak e) v (k (ep ak d (some v)) h U b aq) c aq
 | .fv (.st n a x)=>mQ P d c (.fv (.st n a x)) ak h U b aq k
 | .fv (.yQ dW m key x)=>mQ P d c (.fv (.yQ dW m key x)) ak h U b aq k
 | .fv e=>Mf P ih e ak h U λv ac Y=>BM (Nat.ble U Y) (k (ep ak d (some v)) ac Y ac (b::aq))
 |i=>mQ P d c i ak h U b aq k
def HN(l:aa lV):cc->ae->Nat->ae->aa ae->(cc->ae->Nat->Prop)->Prop :=
 List.rec (motive:=λ_=>cc->ae->Nat->ae->aa ae->(cc->ae->Nat->Prop)->Prop) (λak h U _ _ K=>K ak h U)
  (λi _ eY ak h U b aq K=>ku i.g ak (λak=>SH P ih i.d i.c i.k ak h U b aq λak h U b aq=>eY ak h U b aq K)
   (λak=>Bool.rec (eY (ep ak i.d none) h U b aq K) (eY (ep ak i.d none) h U h (b::aq) K) (je i.k))) l
def rI(n:Nat)(eU:aa (aa Nat)):ks->Nat->cc->ae->Nat->iP->aa (Nat × iP)->iP->Prop
 | .skip,_,ak,h,U,N,_,_=>N ak h U
 | .exit id,_,ak,h,U,_,E,_=>j2 E id ak h U
 | .ret,_,ak,h,U,_,_,R=>R ak h U
 | .scope c,i,ak,h,U,N,E,R=>rI n eU c i ak h U N E R
 | .tB l,_,ak,h,U,N,_,_=>Mg P ih l ak h U N
 | .Di l,_,ak,h,U,N,_,_=>HN P ih l ak h U h [] N
 | .xp _ _ _ _,_,_,_,_,_,_,_=>False
 | .seq a b,i,ak,h,U,N,E,R=>rI n eU a i ak h U (λak h U=>rI n eU b (i+hE a) ak h U N E R) E R
 | .block id c,i,ak,h,U,N,E,R=>rI n eU c i ak h U N ((id,N)::E) R
 | .cond x a b,i,ak,h,U,N,E,R=>(match x with
  | .v v=>bu v (rI n eU a i ak h U N E R) (rI n eU b (i+hE a) ak h U N E R)
  | .t t=>(match hq ak t with
   |some (some v)=>bu v (rI n eU a i ((t,some (.bool true))::ak) h U N E R) (rI n eU b (i+hE a) ((t,some (.bool false))::ak) h U N E R)
   |_=>False))
 | .loop c,i,ak,h,U,_,E,R=>ol (kl eU i) ak λaF=>TI (λaF h U N E R=>rI n eU c (i+1) (ru (kl eU i) aF 0) h U (tC (kl eU i) N) (wM (kl eU i) E) (tC (kl eU i) R))
   (vn (kl eU i) c E) (Hx (kl eU i) c R) n aF h U
 | .no,_,_,_,_,_,_,_=>False
def ekF(n:Nat)(eU:aa (aa Nat))(f:FuncId)(args:aa X)(h:ae)(U:Nat)(K:bR):Prop:=match yc P f with
 |some oq=>rI P ih n eU oq.body 0 (yd args 0) h U (ss P oq.res K) [] (ss P oq.res K)
 |none=>False
def Mh(av:FuncId->aa (aa Nat))(ef:FuncId->aw (aa X->ae->Nat->bR->Prop))(n m:Nat):FuncId->aa X->ae->Nat->bR->Prop :=
 Nat.rec (λ_ _ _ _ _=>False) (λ_ eY f args h U K=>match ef f with
  |some g=>g args h U K
  |none=>ekF P eY n (av f) f args h U K) m
end
end
section
variable {P:Program} {ih:FuncId->aa X->ae->Nat->bR->Prop} {s:al}
theorem Az{b:al}(h:BM b p):b=true/\p:=by cases b <;> first|exact h.elim|exact⟨rfl,h⟩
theorem abj{f:ae->R X}{v:X}{p:Prop}:∀{n:Nat} {g:aa ae},SF f v p n g->oT f v p n g
 |0,_,h=>h
 |_+1,[],h=>h
 |n+1,x::A,h=>⟨(Az h).1,abj (n:=n) (Az h).2⟩
theorem abk(g:∀f args h U K,ih f args h U K->aH P s f args h U K){r:fq}{k:bR}(h:SG ih r k):fh P s r k:=by
 cases r <;> first|exact g _ _ _ _ _ h|exact h.elim
theorem adu(A:∀f args h U K,ih f args h U K->aH P s f args h U K){e:vH}{h:ae}{U:Nat}{k:bR}(g:Mf P ih e ak h U k):o8 P s e ak h U k:=by
 cases e with
 |fH x=>exact g.elim
 |call f args=>exact hO g λ_ h=>A _ _ _ _ _ h
 |Aw f args=>exact hO g λ_ h=>hO h λ_ h=>abk A h
 |inv r m args=>exact hO g λ_ h=>hO h λ_ h=>abk A h
 |_=>exact g
theorem aui(A:∀f args h U K,ih f args h U K->aH P s f args h U K){i:m6}{h:ae}{U:Nat}{k:cc->ae->Nat->Prop}(g:TJ P ih d i ak h U k):ny P s d i ak h U k:=by
 cases i with
 |fv e=>rw[KH];exact adu A g
 |fu e=>cases e <;> exact g
 |_=>exact g
theorem Q8(A:∀f args h U K,ih f args h U K->aH P s f args h U K):∀{l:aa lV} {ak:cc} {h:ae} {U:Nat} {k:cc->ae->Nat->Prop},Mg P ih l ak h U k->p6 P s l ak h U k
 | [],_,_,_,_,g=>g
 |i::l,ak,h,U,k,g=>by have g:ku i.g ak (λak=>TJ P ih i.d i.k ak h U λak h U=>Mg P ih l ak h U k) (λak=>Mg P ih l (ep ak i.d none) h U k):=g;rw[Kg];exact Cz g (λ_ h=>PS (aui A h) λ_ _ _ h=>Q8 A (l:=l) h) (λ_ h=>Q8 A (l:=l) h)
theorem aqJ(E:∀f args h U K,ih f args h U K->aH P true f args h U K){c:Nat}{i:m6}{h:ae}{U:Nat}{b:ae}{D:aa ae}{k:cc->ae->Nat->ae->aa ae->Prop}(A:SH P ih d c i ak h U b D k):mQ P d c i ak h U b D k:=by
 have g:∀{e:vH},Mf P ih e ak h U (λv ac Y=>BM (Nat.ble U Y) (k (ep ak d (some v)) ac Y ac (b::D)))->o8 P true e ak h U λv ac Y=>U<=Y/\k (ep ak d (some v)) ac Y ac (b::D):=
  λA=>Kf (adu E A) λ_ _ _ h=>⟨ma (Az h).1,(Az h).2⟩
 cases i with
 |red e=>exact hO A λv h=>by cases c <;> exact abj h
 |fv e =>
  cases e with
  |st n a x=>exact A
  |yQ dW m g x=>exact A
  |_ =>
  rw[Gb]
  first|exact g (e:=.fH _) A|exact g (e:=.hd _) A|exact g (e:=.call _ _) A|exact g (e:=.Aw _ _) A|exact g (e:=.app _ _ _) A|exact g (e:=.bi _ _ _) A|exact g (e:=.inv _ _ _) A
 |fu e=>cases e <;> exact A
 |_=>exact A
theorem Q9(D:∀f args h U K,ih f args h U K->aH P true f args h U K):∀{l:aa lV} {ak:cc} {h:ae} {U:Nat} {b:ae} {g:aa ae} {k:cc->ae->Nat->Prop},HN P ih l ak h U b g k->ie P l ak h U b g k
 | [],_,_,_,_,_,_,A=>A
 |i::l,ak,h,U,b,g,k,A=>by
  have A:ku i.g ak (λak=>SH P ih i.d i.c i.k ak h U b g λak h U b g=>HN P ih l ak h U b g k)
   (λak=>Bool.rec (HN P ih l (ep ak i.d none) h U b g k) (HN P ih l (ep ak i.d none) h U h (b::g) k) (je i.k)):=A
  show ku i.g ak (λak=>mQ P i.d i.c i.k ak h U b g λak h U b g=>ie P l ak h U b g k)
   (λak=>Bool.rec (ie P l (ep ak i.d none) h U b g k) (ie P l (ep ak i.d none) h U h (b::g) k) (je i.k))
  refine Cz A (λ_ h=>Y6 (aqJ D h) λ_ _ _ _ _ h=>Q9 D (l:=l) h) (λ_ h=>?_);cases E:je i.k <;> rw[E]at h <;> exact Q9 D (l:=l) h
theorem auj{B I:om}{E:aa (Nat × aP)}{R:aP}(en:∀g h U N A,B g h U N E R->(∀g h U,N g h U->A g h U)->I g h U A E R){n:Nat}{g:aa X}{h:ae}{U:Nat}(M:TI B E R n g h U):bC I g h U E R:=by
 refine⟨λm g h U=>TI B E R m g h U,n,M,λm g h U D=>?_⟩;cases m with
 |zero=>exact D.elim
 |succ m=>exact en _ _ _ _ _ D λg h U Z=>⟨m,J,Z⟩
theorem auk(d5:∀s f args h U K,ih f args h U K->aH P s f args h U K){n:Nat}{Z:aa (aa Nat)}:∀(c:ks) {i:Nat} {ak:cc} {h:ae} {U:Nat} {N:iP} {E:aa (Nat × iP)} {R:iP},rI P ih n Z c i ak h U N E R->hZ P s Z c i ak h U N E R:=by
 intro c
 induction c with
 |skip=>intro i ak h U N E R g;exact g
 |exit id=>intro i ak h U N E R g;exact g
 |ret=>intro i ak h U N E R g;exact g
 |scope c I=>intro i ak h U N E R g;exact I g
 |tB l=>intro i ak h U N E R g;exact Q8 (d5 s) g
 |Di l=>intro i ak h U N E R g;exact Q9 (d5 true) g
 |no=>intro i ak h U N E R g;exact g.elim
 |xp f b7 a b=>intro i ak h U N E R g;exact g.elim
 |seq a b D A=>intro i ak h U N E R g;exact PU a (D g) (λ_ _ _ h=>A h) (λ_ _ _ _ h=>h) λ_ _ _ h=>h
 |block id c I=>intro i ak h U N E R g;exact I g
 |cond x a b D A =>
  intro i ak h U N E R g;cases x with
  |v v=>exact z7 g (λh=>D h) (λh=>A h)
  |t t =>
   simp only[rI,hZ]at g ⊢
   split at g
   ·rename_i e
    rw[e];exact z7 g (λh=>D h) (λh=>A h)
   ·exact g.elim
 |loop c I =>
  intro i ak h U N E R g;exact CA g λM bA=>auj (λM h U N N' aO d7=>PU c (I aO) (λ_ _ _ h=>CA h λM h=>d7 _ _ _ h) (λ_ _ _ _ h=>h) λ_ _ _ h=>h) bA
theorem adv(M:pQ P){av:FuncId->aa (aa Nat)}{D:FuncId->aw (aa X->ae->Nat->bR->Prop)}(Z:∀f g,D f=some g->∀args h U K,g args h U K->∀s,aH P s f args h U K){n:Nat}:
  ∀(m:Nat) (s:al) (f:FuncId) (args:aa X) (h:ae) (U:Nat) (K:bR),Mh P av D n m f args h U K->aH P s f args h U K
 |0,_,_,_,_,_,_,A=>A.elim
 |m+1,s,f,args,h,U,K,A=>by
  have A:(match D f with
   |some g=>g args h U K
   |none=>ekF P (Mh P av D n m) n (av f) f args h U K):=A
  cases I:D f with
  |some g=>rw[I]at A;exact Z f g I _ _ _ _ A s
  |none =>
   rw[I]at A;refine aH.o0 M (av f) ?_;have A:(match yc P f with
    |some E=>rI P (Mh P av D n m) n (av f) E.body 0 (yd args 0) h U (ss P E.res K) [] (ss P E.res K)
    |none=>False):=A
   unfold oo;cases N:yc P f with
   |none=>rw[N]at A;exact A
   |some E=>rw[N]at A;exact auk (λs f args h U K hk=>adv M Z m s f args h U K hk) _ A
theorem aH.home{f:FuncId}{h:ae}{U:Nat}{b:al}{K:bR}(M:aH P false f [] iN 0 (λv _ _=>v = .bool b))(D:K (.bool b) h U):aH P s f [] h U K:=by
 refine kI.up ⟨M.1,λB ai w E Z bE cW n=>?_⟩ D;cases cW;have g:d9 w.heap.size (λ_=>none) (u iN) w:=⟨cD _,λb p o h=>(by cases h),λb ce p eu h=>(by cases h),λb h=>by rw[JT]at h;cases h⟩
 refine(M.2 w.heap.size _ w [] g (λb _=>rfl) .nil n).mono λe ba N=>?_;obtain⟨v,ac,Y,bn,c,rfl,rfl,I,A⟩:=N;cases I;exact⟨_,h,U,ai,_,rfl,⟨rfl,rfl,rfl⟩,.bool _,cx.still Z A.size A.os A.tape A.output λk D=>A.frame k D (by rintro⟨b,p,aO,_⟩;cases aO)⟩
end
section
variable {B:Nat} {ai bn:b5} {H gU:fp} {w ba:World} {U Y:Nat}
theorem cx.aqK(bb:d9 B ai H w)(bE:jQ ai U)(I:cx B ai H w U Y bn gU ba)(hk:∀b o,H b=some o->gU b=some o){m:Nat}{f:Nat->Nat}(pR:∀i,U<=i->i<m->U<=f i)(mS:∀i j,U<=i->i<m->U<=j->j<m->f i=f j->i=j)(Mi:U<=m)
  (pP:∀i o p,U<=i->i<m->gU (f i)=some o->bn (f i)=some p->kY B (λk=>if U<=k/\k<m then bn (f k)else ai k) ba p o):
  cx B ai H w U m (λk=>if U<=k/\k<m then bn (f k)else ai k) (λk=>if U<=k/\k<m then gU (f k)else H k) ba:=by
 have ct:∀k,(H k).isSome->k<U:=λk A=>by
  rcases h8 k U with h|h
  ·exact h
  ·have:=bb.kH k A;rw[bE k h]at this;grind
 have mL:Sub ai (λk=>if U<=k/\k<m then bn (f k)else ai k):=λk q g=>by
  have:k<U:=by
   rcases h8 k U with h|h
   ·exact h
   ·rw[bE k h]at g;cases g
  grind
 refine⟨⟨h7 bb.base I.size,λk q x g aY=>?_,λk M q jy g E A D Z bP=>?_,λk A=>?_⟩,λk hk=>?_,I.size,I.os,I.tape,I.output,I.frame,λk h=>?_,Mi⟩
 ·by_cases e:U<=k/\k<m
  ·simp only[e,uG,if_true]at g aY;exact pP k x q e.1 e.2 aY g
  ·simp only[if_neg e]at g aY;exact((bb.obj k q x g aY).back (bE.sub I) (I.rel.obj k q x (bE.sub I k q g) (hk k x aY))).mono mL rfl
 ·have dV:∀k q,ai k=some q->(H k).isSome->bn k=some q/\(gU k).isSome:=λk q g A=>by obtain⟨x,aY⟩:=lI.1 A;exact⟨bE.sub I k q g,by rw[hk k x aY];rfl⟩
  by_cases e:U<=k/\k<m
  ·simp only[e,uG,if_true]at g A
   by_cases N:U<=M/\M<m
   ·simp only[N,uG,if_true]at E D;exact mS k M e.1 e.2 N.1 N.2 (I.rel.inj _ _ _ _ g E A D Z bP)
   ·simp only[if_neg N]at E D;obtain⟨eF,dP⟩:=dV M jy E D;have:=I.rel.inj _ _ _ _ g eF A dP Z bP;have:=ct M D;have:=pR k e.1 e.2;omega
  ·simp only[if_neg e]at g A;obtain⟨eF,dP⟩:=dV k q g A
   by_cases N:U<=M/\M<m
   ·simp only[N,uG,if_true]at E D;have:=I.rel.inj _ _ _ _ eF E dP D Z bP;have:=ct k A;have:=pR M N.1 N.2;omega
   ·simp only[if_neg N]at E D;exact bb.inj k M q jy g E A D Z bP
 ·by_cases e:U<=k/\k<m
  ·simp only[e,uG,if_true]at A ⊢;exact I.rel.kH _ A
  ·simp only[if_neg e]at A ⊢;exact bb.kH k A
 ·have:¬(U<=k/\k<m):=J
  simp only[if_neg this]
 ·obtain⟨M,q,g,A,rfl,Z⟩:=h
  by_cases e:U<=M/\M<m
  ·simp only[e,uG,if_true]at g A;rcases I.own q.co ⟨f M,q,g,A,rfl,Z⟩with⟨gW,ew,h1,ap,aM,bc⟩|h
   ·exact .inl ⟨gW,ew,h1,ap,aM,bc⟩
   ·exact .inr h
  ·simp only[if_neg e]at g A;exact .inl ⟨M,q,g,A,rfl,Z⟩
end
section
variable {P:Program} {s:al} {f:FuncId} {args:aa X} {h:ae} {U:Nat} {K:bR}
theorem aH.sl2{val:Nat->Nat->X}{c1 c2:aa X}(h1:hU c1=true)(ap:hU c2=true)
  (I:∀(ai bn:b5) (A g:Nat) (cj iH:Place) (c:X),bn A=some cj->ai U=some cj->bn g=some iH->ai (U+1)=some iH->bF bn (val A g) c->bF ai (val U (U+1)) c)
  (a1:aH P false f args h U (λdF ac _=>∃A g,dF=val A g/\U<=A/\U<=g/\A≠g/\u ac A=some (.cells c1 false)/\u ac g=some (.cells c2 false)/\aA U h ac)) (hi:K (val U (U+1)) (F (F h U (.cells c1 false)) (U+1) (.cells c2 false)) (U+1+1)):aH P s f args h U K :=
 kI.up ⟨a1.1,λB ai w E bb bE cW n=>(a1.2 B ai w E bb bE cW n).mono λe ba bP=>by
  obtain⟨dF,ac,Y,bn,c,rfl,⟨A,g,rfl,hR,fm,eS,N,M,hk⟩,w3,bp⟩:=bP;obtain⟨cj,tX⟩:=lI.1 (bp.rel.kH A ab);obtain⟨iH,DV⟩:=lI.1 (bp.rel.kH g ab);have pl:∀{pT DR:b5} {p:Place} {cs:aa X},hU cs=true->kY B pT ba p (.cells cs false)->kY B DR ba p (.cells cs false):=λ{pT DR p cs} oU D=>by obtain⟨gE,hu,bM,dK,d2,dm,gW,ow,sZ,r2⟩:=D;refine⟨gE,hu,bM,dK,d2,dm,gW,ow,λi x aY=>?_,r2⟩;obtain⟨fU,e,aG⟩:=sZ i x aY;have Z:=Fv oU (kz aY);exact⟨fU,e,by rw[zS Z aG];exact Cg Z _⟩
  have nr:=bp.aqK bb bE (λb o e=>by rw[hk b (bb.lt bE e)];exact e) (m:=U+2) (f:=λk=>if k=U then A else g) ab ab J (λi o p HM hi2 D bg=>by
   by_cases e:i=U
   ·simp only[e,if_true]at D bg;rw[N]at D;cases D;exact pl h1 (bp.rel.obj A p _ bg N)
   ·simp only[if_neg e]at D bg;rw[M]at D;cases D;exact pl ap (bp.rel.obj g p _ bg M))
  refine⟨val U (U+1),F (F h U (.cells c1 false)) (U+1) (.cells c2 false),U+1+1,(λk=>if U<=k/\k<U+2 then bn (if k=U then A else g)else ai k),c,rfl,⟨rfl,rfl,rfl⟩,I _ bn A g cj iH c tX ?_ DV ?_ w3,?_⟩
  ·simp[tX]
  ·simp[DV]
  have:u (F (F h U (.cells c1 false)) (U+1) (.cells c2 false))=(λk=>if U<=k/\k<U+2 then u ac (if k=U then A else g)else u h k):=funext λk=>by
   rw[wa,wa]
   grind
  rw[this];exact nr⟩ hi
theorem aix(ai bn:b5){U M I N c2 k:Nat}{i:Int}(E A:Nat)(D g:Place)(c:X)(h1:bn E=some D)(ap:ai U=some D)(aM:bn A=some g)(bc:ai (U+1)=some g)(aG:bF bn (.tuple ⟨[.slice (some ⟨E,0,some k⟩) M N,.slice (some ⟨A,0,some k⟩) I c2,(i:X)]⟩) c):
  bF ai (.tuple ⟨[.slice (some ⟨U,0,some k⟩) M N,.slice (some ⟨U+1,0,some k⟩) I c2,(i:X)]⟩) c:=by
 cases aG with
 |tuple h=>cases h with
  |cons a t=>cases t with
   |cons Z t=>cases t with
    |cons a3 t=>cases t with
     |nil =>
      cases a3;exact .tuple (.cons (JH ai bn E D _ h1 ap a) (.cons (JH ai bn A g _ aM bc Z) (.cons (.int _ _) .nil)))
end
end Go.Ax
