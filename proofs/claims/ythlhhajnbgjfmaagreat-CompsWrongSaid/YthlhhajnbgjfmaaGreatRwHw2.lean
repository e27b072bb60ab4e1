/- Parts of the proof: Hw2: each statement bears its own conditions. -/
import Init
import Derived.Test.YthlhhajnbgjfmaaGreatRwHw1
namespace Go.Ax
open Go
set_option linter.all false
set_option maxHeartbeats 1000000
theorem Qj{aA:Type}{g:aA->aa X}{k:Nat}(E:∀x,(g x).length=k)(cs:aa X)(x:aA):∀(l:aa aA) (i:Nat),i<l.length->(a1 g l++cs).take (i*k)++g x++(a1 g l++cs).drop (i*k+k)=a1 g (l.set i x)++cs
 | [],i,h=>ab
 |y::l,0,h=>by
  show(g y++a1 g l++cs).take (0*k)++g x++(g y++a1 g l++cs).drop (0*k+k)=(g x++a1 g l)++cs
  grind
 |y::l,i+1,h=>by
  have D:=Qj E cs x l i ab;show(g y++a1 g l++cs).take ((i+1)*k)++g x++(g y++a1 g l++cs).drop ((i+1)*k+k)=(g y++a1 g (l.set i x))++cs;have A:(i+1)*k=(g y).length+i*k:=ab
  have I:(i+1)*k+k=(g y).length+(i*k+k):=J
  rw[kB (g y),A,wK,List.take_length_add_append,JT,kB (g y),kB (g y),D,kB]
end Go.Ax
namespace Go.Ax.HdH
open Go Go.Ax
set_option linter.all false
set_option maxHeartbeats 1000000
variable {i:Nat} {cs:aa X} {j n:Nat} {aO:av Nat} {cap:Nat}
structure e6 where
 v:X
 w:Nat
 k:Int
 n:Nat
 l:aa (Nat × Int)
def eN(i:Nat):Nat:=(i-1) / 2
def tx(W:aa e6)(i j:Nat)(a b:e6):aa e6:=(W.set i b).set j a
structure oF (W:aa e6):Prop where
 up:∀(c:Nat) (x y:e6),0<c->W[eN c]? = some x->W[c]? = some y->x.k<=y.k
variable {W:aa e6} {a b p:e6}
theorem oF.min(h:oF W)(Z:W[0]? = some p):∀q∈W,p.k<=q.k:=by
 have N:∀(c:Nat) (y:e6),W[c]? = some y->p.k<=y.k:=by
  intro c
  induction c using Nat.strongRecOn with
  |_ c I =>
   intro y g
   by_cases M:c=0
   ·grind
   ·have E:eN c<c:=by unfold eN;omega
    have bg:=(gE.1 g).1;obtain⟨x,A⟩:∃x,W[eN c]? = some x:=⟨_,jU J⟩
    have h1:=I _ E x A;have al:=h.up c x y J A g;omega
 intro q D;obtain⟨c,M⟩:=tS D
 grind
theorem GV(A:W[i]? = some a)(D:W[j]? = some b)(g:i≠j)(q:Nat):(tx W i j a b)[q]? = if q=j then some a else if q=i then some b else W[q]?:=by
 unfold tx
 grind
theorem AT(W:aa e6)(i j:Nat)(a b:e6):(tx W i j a b).length=W.length:=by unfold tx;simp
theorem KR(A:W[i]? = some a)(D:W[j]? = some b):(tx W i j a b).Perm W:=by
 have I:=(gE.1 A).1;have M:=(gE.1 D).1;have E:W[i]=a:=ab
 have g:W[j]=b:=ab
 rw[<-E,<-g];exact List.set_set_perm I M
structure vY (W:aa e6) (j:Nat):Prop where
 xY:∀(c:Nat) (x y:e6),0<c->c≠j->W[eN c]? = some x->W[c]? = some y->x.k<=y.k
 U5:∀(c:Nat) (x y:e6),0<j->0<c->eN c=j->W[eN j]? = some x->W[c]? = some y->x.k<=y.k
theorem vY.done(h:vY W j)(E:∀x y:e6,0<j->W[eN j]? = some x->W[j]? = some y->x.k<=y.k):oF W:=by
 refine⟨λc x y D A g=>?_⟩
 by_cases e:c=j
 ·grind
 ·exact h.xY c x y D e A g
theorem vY.step(h:vY W j)(bM:0<j)(N:W[eN j]? = some a)(aG:W[j]? = some b)(ci:b.k<a.k):vY (tx W (eN j) j a b) (eN j):=by
 have bv:eN j<j:=by unfold eN;omega
 have I:eN j≠j:=J
 have M:=GV N aG I;refine⟨λc x y E hcj g A=>?_,λc x y Z E uI g A=>?_⟩
 ·rw[M]at g A
  by_cases D:c=j
  ·grind
  ·rw[if_neg D,if_neg hcj]at A
   by_cases c2:eN c=j
   ·rw[if_pos c2]at g;cases g;exact h.U5 c a y bM E c2 N A
   ·rw[if_neg c2]at g
    by_cases cm:eN c=eN j
    ·rw[if_pos cm]at g;cases g;have:=h.xY c a y E D ab A;omega
    ·rw[if_neg cm]at g;exact h.xY c x y E D g A
 ·have M7:eN (eN j)<eN j:=by
   generalize eN j=q at *
   unfold eN;omega
  rw[M,if_neg J,if_neg J]at g;rw[M]at A;have h1:=h.xY (eN j) x a Z I g N
  by_cases D:c=j
  ·grind
  ·rw[if_neg D]at A
   by_cases c2:c=eN j
   ·grind
   ·rw[if_neg c2]at A;have:=h.xY c a y E D ab A;omega
theorem vY.push(h:oF W):vY (W++[p]) W.length:=by
 refine⟨λc x y E N D g=>?_,λc x y _ E I D g=>?_⟩
 ·have A:=(gE.1 g).1;rw[jb,ON]at A;have M:eN c<c:=by unfold eN;omega
  rw[sP J]at D g;exact h.up c x y E D g
 ·have A:=(gE.1 g).1;rw[jb,ON]at A;have M:eN c<c:=by unfold eN;omega
  omega
structure vL (W:aa e6) (n i:Nat):Prop where
 xY:∀(c:Nat) (x y:e6),0<c->c<n->eN c≠i->W[eN c]? = some x->W[c]? = some y->x.k<=y.k
 U5:∀(c:Nat) (x y:e6),0<i->0<c->c<n->eN c=i->W[eN i]? = some x->W[c]? = some y->x.k<=y.k
theorem vL.done(h:vL W n i)(I:∀(c:Nat) (x y:e6),0<c->c<n->eN c=i->W[i]? = some x->W[c]? = some y->x.k<=y.k):oF (W.take n):=by
 refine⟨λc x y E A g=>?_⟩;have D:=(gE.1 g).1;rw[ox]at D;have M:eN c<c:=by unfold eN;omega
 rw[vi,if_pos J]at A g
 by_cases e:eN c=i
 ·grind
 ·exact h.xY c x y E J e A g
theorem vL.step(h:vL W n i)(bM:0<j)(M:j<n)(N:eN j=i)(dg:W[i]? = some a)(aG:W[j]? = some b)(ci:b.k<a.k)(hm:∀(c:Nat) (y:e6),0<c->c<n->eN c=i->W[c]? = some y->b.k<=y.k):vL (tx W i j a b) n j:=by
 have hij:i<j:=by rw[<-N];unfold eN;omega
 have E:=GV dg aG (by omega:i≠j);refine⟨λc x y I D Z A g=>?_,λc x y _ I D uI A g=>?_⟩
 ·rw[E,if_neg Z]at A;rw[E]at g
  by_cases c1:eN c=i
  ·grind
  ·rw[if_neg c1]at A
   by_cases c2:c=j
   ·grind
   ·rw[if_neg c2]at g
    by_cases cm:c=i
    ·subst cm;rw[if_pos rfl]at g;cases g;exact h.U5 j x b I bM M N A aG
    ·rw[if_neg cm]at g;exact h.xY c x y I D c1 A g
 ·have az8:eN c<c:=by unfold eN;omega
  rw[E,N,if_neg J,if_pos rfl]at A;cases A;rw[E,if_neg J,if_neg J]at g;exact h.xY c b y I D J ab g
theorem vL.pop(h:oF W)(bg:W.length=n+1)(E:W[0]? = some a)(I:W[n]? = some b):vL (tx W 0 n a b) n 0:=by
 refine⟨λc x y Z zF N D g=>?_,J⟩;have M:eN c<c:=by unfold eN;omega
 have A:=GV E I (by omega:0≠n);rw[A,if_neg J,if_neg N]at D;rw[A,if_neg J,if_neg J]at g;exact h.up c x y Z D g
theorem am8{c:Nat}(g:0<c):eN c=i↔c=2*i+1\/c=2*i+2:=by unfold eN;omega
abbrev hO(p:e6):aa X:=[p.v,(p.w:X)]
structure pn (h:ad) (cg b:Nat) (aO:av Nat) (cap:Nat) (W:aa e6) (cs bz:aa X):Prop where
 cell:u h cg=some (.cells (.slice (some ⟨b,0,aO⟩) W.length cap::bz) false)
 ct:u h b=some (.cells (a1 hO W++cs) false)
 len:W.length*2+cs.length=cap*2
 Ih:aO=none\/aO=some 2
 ne:b≠cg
theorem wW(p:e6):(hO p).length=2:=rfl
theorem LC(g:W[i]? = some p):hF (some 2) (i*2) (a1 hO W++cs) = .ok (.agg ⟨[p.v,(p.w:X)]⟩):=by have A:=vz (enc:=hO) wW g;have E:=(gE.1 g).1;have D:=ga (enc:=hO) wW (l:=W);rw[qR,if_pos ab,JR J,JS ab,A]
theorem agh(g:W[i]? = some p):(a1 hO W++cs)[i*2]? = some p.v/\(a1 hO W++cs)[i*2+1]? = some (p.w:X):=by
 have E:=(gE.1 g).1;have D:=ga (enc:=hO) wW (l:=W);rw[sP J,sP J];have A:=Gb (enc:=hO) wW g (j:=0) J;have I:=Gb (enc:=hO) wW g (j:=1) J
 grind
theorem aqH{h:ad}{U b:Nat}(aG:u h b=some (.cells (a1 hO W++cs) false))(bm:W.length=n)(bg:W.length*2+cs.length=cap*2)(N:aO=none\/aO=some 2)(tv:b<U){bO dI r5:Nat}{mK:av Nat}{E:aa X}{bC:ak}(z:e6)(cX:hv z.v=true)(al:u h bO=some (.cells E bC))(aR:(E.drop dI).take 2=hO z)(h3:n<100000):
  ∃I A g D ac Y,dv 2 h U (.slice (some ⟨b,0,aO⟩) n cap) (.slice (some ⟨bO,dI,mK⟩) 1 r5) = .ok (.val (.slice (some ⟨I,0,A⟩) (n+1) g) ac Y)/\u ac I=some (.cells (a1 hO (W++[z])++D) false) /\
   (W++[z]).length*2+D.length=g*2/\(A=none\/A=some 2)/\(I=b\/I=U)/\U<=Y/\I<Y/\∀c,c≠b->c≠U->u ac c=u h c:=by
 have gA:2<=E.length-dI:=by
  have:=congrArg List.length aR
  grind
 have oW:=ga (enc:=hO) wW (l:=W);unfold dv;simp only;rw[show Nat.mul 1 2=2 from rfl,sX al J gA,aR];unfold gt
 by_cases aU:n+1<=cap
 ·rw[show Nat.ble (Nat.add n 1) cap=true from Ao aU];show ∃I A g D ac Y,R.bind (qX h b (Nat.add 0 (Nat.mul n 2)) (hO z)) _=_/\_;rw[show Nat.add 0 (Nat.mul n 2)=n*2 from ix _,Ki aG (by show ec [z.v,(z.w:X)]=true;rw[rM,cX];rfl) ab];refine⟨b,aO,cap,cs.drop 2,_,U,rfl,?_,ab,N,.inl rfl,cB _,tv,λc h1 _=>ab⟩;rw[oV,if_pos rfl,sW];have aY:(a1 hO W++cs).take (n*2)=a1 hO W:=ab
  have aJ:(a1 hO W++cs).drop (n*2+(hO z).length)=cs.drop 2:=by rw[<-bm,<-oW,wW,JT]
  grind
 ·have Z:n=cap:=J
  have lA:cs=[]:=Ak J;subst lA;rw[hM]at aG;rw[show Nat.ble (Nat.add n 1) cap=false from by
   cases aG:Nat.ble (Nat.add n 1) cap with
   |false=>rfl
   |true=>exact absurd (l6 aG) aU]
  have aJ:(Nat.ble (Nat.mul (Nat.add n 1) 2) 1000000&&Nat.ble (Nat.add n 1) 1000000)=true:=by
   simp only[eD,sU]
   grind
  rw[aJ];show ∃I A g D ac Y,p5 h U 2 (some ⟨b,0,aO⟩) n cap (n+1) (hO z)=_/\_;unfold p5;simp only[vp aG];have M:nh (Nat.mul n 2) (na (a1 hO W) 0)=some (a1 hO W):=by
   rw[rP,nO,qT,if_pos ab]
   grind
  rw[M];rcases N with rfl|rfl
  ·refine⟨U,some 2,n+1,[],F h U (.cells (a1 hO W++hO z) false),U+1,?_,?_,ab,.inr rfl,.inr rfl,J,J,λc _ al=>ab⟩
   ·show p4 h U 2 (k3 (a1 hO W) (hO z)) _=_;rw[kk];exact pZ J
   ·rw[oV,if_pos rfl,sW,hM]
  ·refine⟨U,some 2,n+1,[],F (xq h b) U (.cells (a1 hO W++hO z) false),U+1,?_,?_,ab,.inr rfl,.inr rfl,J,J,λc h1 al=>by rw[oV,if_neg al,sh,if_neg h1]⟩
   ·have ce:(!false&&Nat.beq 0 0&&Nat.beq (jJ (a1 hO W)) (Nat.mul n 2)&&Nat.beq 2 2&&Nat.beq n cap&&ec (hO z))=true:=by
     rw[oB,oW,bm,Z];have aU:ec (hO z)=true:=by show ec [z.v,(z.w:X)]=true;rw[rM,cX];rfl
     rw[aU];simp
    show(bif _ then _ else _)=_;rw[ce,kk];exact pZ (s:=2) (Nat.succ_pos 1)
   ·rw[oV,if_pos rfl,sW,hM]
theorem aqI{b:Nat}(g:n+1<=cap):iY 2 (.slice (some ⟨b,0,aO⟩) (n+1) cap) none (some (n:X)) none = .ok (.slice (some ⟨b,0,aO⟩) n cap):=by
 show oD 2 (some ⟨b,0,aO⟩) cap false cap n 0=_;unfold oD;rw[show(Nat.ble cap cap&&(Nat.ble n cap&&Nat.ble 0 n))=true from by simp only[eD,sU];omega];show vI 2 (some ⟨b,0,aO⟩) false cap n 0=_;unfold vI;rw[show Nat.beq cap 0=false from by
  cases cap with
  |zero=>omega
  |succ c=>rfl]
 rfl
end Go.Ax.HdH
namespace Go.Ax
open Go
variable {j:Nat} {O:aa (Nat × Int)} {es:aa MapEntry} {t:Nat} {aA:Type} {seen:aa Nat} {b:Nat} {d:av Nat} {a:Nat} {aj:b8} {z:X} {ok:ak} {cap:Nat} {p:Prop} {aL:Nat}
def kb(r:Int)(l:aa (Nat × Int))(v:Nat):av Int:=fo r (l.map λp=>if p.1=v then some p.2 else none)
theorem y8(r:Int)(l g:aa (Nat × Int))(v:Nat):kb r (l++g) v=e3 r (kb r l v) (kb r g v):=by unfold kb;rw[hN,Gu]
theorem Qk{r:Int}{l g:aa (Nat × Int)}(h:l.Perm g)(v:Nat):kb r l v=kb r g v:=by exact ZJ ab
theorem Do(r:Int)(p:Nat × Int)(v:Nat):kb r [p] v=if p.1=v then some p.2 else none:=by show e3 r (if p.1=v then some p.2 else none) none=_;rw[rO]
theorem am9{r:Int}{l:aa (Nat × Int)}{v:Nat}(h:∀p∈l,p.1≠v):kb r l v=none:=by
 refine yW λx g=>?_
 grind
def rp(r:Int)(O:aa (Nat × Int))(p:Nat × Int):aa (Nat × Int):=match O.getLast? with
 |some q=>if q.1=p.1 then O.dropLast++[(q.1,ka r q.2 p.2)]else O++[p]
 |none=>O++[p]
structure zL (r:Int) (O M:aa (Nat × Int)) (aw:Nat->av Int):Prop where
 up:O.Pairwise λx y=>x.1<y.1
 le:∀o∈O,∀p∈M,o.1<=p.1
 Jr:∀v,e3 r (kb r O v) (kb r M v)=aw v
theorem zL.step{r:Int}{M D:aa (Nat × Int)}{aw:Nat->av Int}{p:Nat × Int}(H:zL r O M aw)(bv:(p::D).Perm M)(hm:∀q∈M,p.1<=q.1):zL r (rp r O p) D aw:=by
 have I:∀v,kb r M v=e3 r (if p.1=v then some p.2 else none) (kb r D v):=λv=>by rw[<-Qk bv,show p::D=[p]++D from rfl,y8,Do]
 unfold rp;cases bg:O.getLast? with
 |none =>
  have:O=[]:=List.getLast?_eq_none_iff.1 bg;subst this;refine⟨ab,λo g q cz=>?_,λv=>?_⟩
  ·grind
  ·rw[<-H.Jr v,I v,tU,Do];show _=e3 r none _;rw[Gc]
 |some q =>
  obtain⟨O',j1⟩:=JU.1 bg;subst j1;have cz:=H.le q ab;have A:=rI.1 H.up
  by_cases e:q.1=p.1
  ·simp only[if_pos e,List.dropLast_concat];refine⟨rI.2 ⟨A.1,ab,λa E b aG=>?_⟩,λo g N Z=>?_,λv=>?_⟩
   ·grind
   ·rcases g6.1 g with g|g
    ·exact H.le o ab N ab
    grind
   ·rw[<-H.Jr v,I v,y8,y8,Do,Do,tZ,tZ]
    congr 1
    rw[<-tZ]
    congr 1
    by_cases ej:q.1=v
    ·rw[if_pos ej,if_pos ej,if_pos J];rfl
    ·rw[if_neg ej,if_neg ej,if_neg J];rfl
  ·simp only[if_neg e];refine⟨rI.2 ⟨H.up,ab,λa E b aG=>?_⟩,λo g N Z=>?_,λv=>?_⟩
   ·rw[iR.1 aG];rcases g6.1 E with E|E
    ·have h1:=A.2.2 a E q ab
     grind
    grind
   ·rcases g6.1 g with g|g
    ·exact H.le o g N ab
    grind
   ·rw[<-H.Jr v,I v,y8,Do,tZ]
theorem Su{r:Int}:∀{O:aa (Nat × Int)},(O.Pairwise λx y=>x.1<y.1)->∀v x,kb r O v=some x↔(v,x)∈O
 | [],_,v,x=>⟨nofun,ab⟩
 |p::O,h,v,x=>by
  have g:=vj.1 h;rw[show p::O=[p]++O from rfl,y8,Do,g6,iR]
  by_cases e:p.1=v
  ·have A:kb r O v=none:=am9 ab;rw[if_pos e,A,rO]
   grind
  ·rw[if_neg e,Gc,Su g.2]
   grind
theorem zL.done{r:Int}{n:Nat}{aw:Nat->av Int}(H:zL r O [] aw)(A:∀v,n<=v->aw v=none):O=bn n aw:=by
 have g:∀v,kb r O v=aw v:=λv=>by have:=H.Jr v;rwa[show kb r [] v=none from rfl,rO]at this
 refine St H.up λi x=>?_;rw[<-Su  H.up,g]
 grind
set_option linter.all false
set_option maxHeartbeats 1000000
set_option linter.unusedSectionVars false
section
variable {P:Program}  {s:ak} {f:FuncId} {l:aa X} {h:ad} {U:Nat} {v:X} {K:bD}
theorem aD.f4(H:aD P s f l h U (λr ac Y=>r=v/\ac=h/\Y=U))(g:K v h U):aD P s f l h U K:=H.mono λ_ _ _ ⟨a,b,c⟩=>by subst a b c;exact g
theorem aD.b0(H:aD P s f l h U (λr ac Y=>r=v/\az U h ac/\U<=Y))(g:∀ac Y,az U h ac->U<=Y->K v ac Y):aD P s f l h U K:=H.mono λ_ _ _ ⟨a,b,c⟩=>by subst a;exact g _ _ b c
end
structure xD {ji:Type} [DecidableEq ji] (P:Program) (dU:TypeId) (b0:ji->X):Prop where
 ok:∀k,zj P dU (b0 k)=true
 eq:∀a b,lq P dU (b0 a) (b0 b)=some (decide (a=b))
 same:∀k,mz (b0 k) (b0 k)=true
theorem Ql{P:Program}{dU:Nat}(g:wZ P dU=true):xD P dU (λx:Int=>(x:X)):=by
 have e:∀a b:Int,lq P dU (.int .i64 a) (.int .i64 b)=some (decide (a=b)):=λa b=>by show(bif mI .i64 .i64&&wZ P dU then some (fN a b)else none)=_;rw[g,lo];rfl
 exact⟨λk=>by show(lq P dU (.int .i64 k) (.int .i64 k)).isSome=true;grind,e,λk=>by show(mI .i64 .i64&&fN k k)=true;rw[wT,lo];simp⟩
section
variable {ji:Type} [DecidableEq ji] {P:Program} {dU:TypeId} {b0:ji->X} {h:ad} {r c:Nat} {L:aa (ji × X × Nat)} {k:ji} {x v:X}
def lN(b0:ji->X)(L:aa (ji × X × Nat)):aa MapEntry:=L.map λe=>{ key:=b0 e.1,val:=e.2.1,born:=e.2.2 }
structure ju (h:ad) (r:Nat) (b0:ji->X) (L:aa (ji × X × Nat)) (c:Nat):Prop where
 at_:u h r=some (.map (lN b0 L) c)
 up:L.Pairwise λa b=>a.2.2<b.2.2
 lt:∀e∈L,e.2.2<c
 pD:L.Pairwise λa b=>a.1≠b.1
theorem ju.T{ac:ad}(H:ju h r b0 L c)(g:u ac r=u h r):ju ac r b0 L c:={ H with at_:=g.trans H.at_ }
def iV(L:aa (ji × X × Nat))(k:ji):av X:=(L.find? λe=>decide (k=e.1)).map (·.2.1)
theorem yX(e:ji × X × Nat):iV (e::L) k=if k=e.1 then some e.2.1 else iV L k:=by
 unfold iV
 grind
theorem Qm{g:aa (ji × X × Nat)}:iV (L++g) k=(iV L k).or (iV g k):=by
 unfold iV
 grind
theorem Gd:iV L k=none↔∀e∈L,k≠e.1:=by unfold iV;simp
theorem KS(g:L.Pairwise λa b=>a.1≠b.1):iV L k=some v↔∃n,(k,v,n)∈L:=by
 induction L with
 |nil=>simp[iV]
 |cons e L A =>
  rw[vj]at g;rw[yX]
  grind
theorem Qn(K:xD P dU b0):∀(L:aa (ji × X × Nat)) (i:Nat),iV L k=none->k2 P dU (b0 k) (lN b0 L) i=some none
 | [],_,_=>rfl
 |e::L,i,h=>by have g:=Gd.1 h;show(match lq P dU (b0 k) (b0 e.1)with|some true=>_|some false=>k2 P dU (b0 k) (lN b0 L) (Nat.succ i)|none=>none)=_;rw[K.eq,f9 (g e (ow ..))];exact Qn K L _ (Gd.2 ab)
theorem PL(K:xD P dU b0):∀(L:aa (ji × X × Nat)) (i:Nat),iV L k=some v->∃A n E,L=A++(k,v,n)::E/\k2 P dU (b0 k) (lN b0 L) i=some (some (i+A.length,{ key:=b0 k,val:=v,born:=n }))
 | [],_,h=>by cases h
 |e::L,i,h=>by
  have g:k2 P dU (b0 k) (lN b0 (e::L)) i=(match lq P dU (b0 k) (b0 e.1)with|some true=>some (some (i,{ key:=b0 e.1,val:=e.2.1,born:=e.2.2 }))|some false=>k2 P dU (b0 k) (lN b0 L) (Nat.succ i)|none=>none):=rfl;rw[yX]at h
  by_cases D:k=e.1
  ·rw[if_pos D]at h;cases h;subst D;refine⟨[],e.2.2,L,rfl,?_⟩;rw[g,K.eq,gz rfl];rfl
  ·rw[if_neg D]at h;obtain⟨A,n,E,I,M⟩:=PL K L (i+1) h;refine⟨e::A,n,E,ab,?_⟩;rw[g,K.eq,f9 D]
   grind
theorem xE(K:xD P dU b0)(H:ju h r b0 L c):lL P h dU z ok (.map (some r)) (b0 k) = .ok (pe ok ((iV L k).getD z) (iV L k).isSome):=by
 unfold lL;rw[K.ok];show lr h r (λes _=>match k2 P dU (b0 k) es 0 with|some (some (_,x))=>R.ok (pe ok x.val true)|some none=>.ok (pe ok z false)|none=>.no "lookup - key")=_;unfold lr;rw[H.at_];simp only;cases g:iV L k with
 |none=>rw[Qn K L 0 g];rfl
 |some v =>
  obtain⟨A,n,D,_,e⟩:=PL K L 0 g
  grind
theorem axQ(H:ju h r b0 L c):xv h (.map (some r)) = .ok (L.length:X):=by rw[atA];unfold lr;rw[H.at_];show jt .i64 (.ofNat (jJ (lN b0 L)))=_;rw[oB];unfold lN;rw[g5];rfl
theorem HU(K:xD P dU b0)(H:ju h r b0 L c)(D:iV L k=none):pq P dU h (.map (some r)) (b0 k) x = .ok (F h r (.map (lN b0 (L++[(k,x,c)])) (c+1)))/\∀ac,u ac r=some (.map (lN b0 (L++[(k,x,c)])) (c+1))->ju ac r b0 (L++[(k,x,c)]) (c+1):=by
 constructor
 ·unfold pq;rw[K.ok];show lr h r _=_;unfold lr;rw[H.at_];simp only[Qn K L 0 D,kk];unfold lN
  grind
 ·refine λac E=>⟨E,rI.2 ⟨H.up,ab,λa g b A=>?_⟩,λe I=>?_,rI.2 ⟨H.pD,ab,λa g b A=>?_⟩⟩
  ·rw[iR.1 A];exact H.lt a g
  ·rcases g6.1 I with e|e
   ·have:=H.lt _ e;omega
   grind
  ·rw[iR.1 A];exact λe=>Gd.1 D a g e.symm
theorem HV{c:Nat}(g:u h r=some (.map [] c)):ju h r b0 ([]:aa (ji × X × Nat)) c:=⟨g,.nil,ab,.nil⟩
theorem av1(K:xD P dU b0){n:Nat}(H:ju h r b0 [(k,v,n)] c):pq P dU h (.map (some r)) (b0 k) x = .ok (F h r (.map (lN b0 [(k,x,n)]) c)):=by
 unfold pq;rw[K.ok];show lr h r _=_;unfold lr;rw[H.at_];obtain⟨A,m,E,g,D⟩:=PL  K [(k,v,n)] 0 (by rw[yX];exact if_pos rfl);simp only[D];cases A with
 |cons a l=>have:=congrArg List.length g;grind
 |nil =>
  cases g;rw[K.same];rfl
theorem Yl:∀{L:aa (ji × X × Nat)},L.Pairwise (λa b=>a.2.2<b.2.2)->(∀e∈L,e.2.2<c)->Dk c (lN b0 L)=true
 | [],_,_=>rfl
 | [e],_,h=>by show(Nat.blt e.2.2 c&&true)=true;rw[Bool.and_true];exact(pd _ _).trans ab
 |e::f::L,g,h=>by rw[vj]at g;show(Nat.blt e.2.2 f.2.2&&Dk c (lN b0 (f::L)))=true;rw[Yl g.2 ab,Bool.and_true];exact(pd _ _).trans ab
end
def ik(i:Nat):X:=(i:X)
theorem rT{P:Program}{dU:Nat}(g:wZ P dU=true):xD P dU ik :=
 ⟨λk=>(Ql g).ok _,λa b=>by show lq P dU (a:X) (b:X)=_;rw[(Ql g).eq];congr 1;grind,λk=>(Ql  g).same _⟩
structure i1 (h:ad) (r n:Nat) (K:Nat->ak) (V:Nat->X->Prop):Prop where
 ex:∃L c,ju h r ik L c/\(∀e∈L,e.1<n/\V e.1 e.2.1)/\∀i,i<n->(K i=true↔∃e∈L,e.1=i)
section
variable {h ac:ad} {r n i:Nat} {K:Nat->ak} {V W8:Nat->X->Prop} {P:Program} {x:X}
theorem i1.T(H:i1 h r n K V)(D:u ac r=u h r)(E:∀i v,V i v->W8 i v):i1 ac r n K W8:=by obtain⟨L,c,A,M,g⟩:=H.ex;exact⟨L,c,A.T D,λe I=>⟨ab,E _ _ (M e I).2⟩,g⟩
theorem i1.get(H:i1 h r n K V)(N:wZ P 3=true)(A:i<n):∃v,lL P h 3 z ok (.map (some r)) (ik i) = .ok (pe ok (if K i=true then v else z) (K i))/\(K i=true->V i v):=by
 obtain⟨L,c,D,h1,E⟩:=H.ex;have e:=xE (rT N) D (k:=i) (z:=z) (ok:=ok);cases g:iV L i with
 |none =>
  have bm:K i=false:=by
   cases Z:K i with
   |false=>rfl
   |true =>
    obtain⟨y,bk,M⟩:=(E i A).1 Z;exact absurd M.symm (Gd.1 g y bk)
  rw[g]at e;exact⟨z,ab,λh=>by rw[bm]at h;cases h⟩
 |some v =>
  obtain⟨m,I⟩:=(KS D.pD).1 g;rw[g]at e;exact⟨v,ab,λ_=>(h1 _ I).2⟩
theorem i1.put(H:i1 h r n K V)(N:wZ P 3=true)(A:i<n)(ha:K i=false)(aR:V i x):∃o,pq P 3 h (.map (some r)) (ik i) x = .ok (F h r o)/\∀ac,u ac r=some o->i1 ac r n (λk=>if k=i then true else K k) V:=by
 obtain⟨L,c,Z,h1,I⟩:=H.ex;have bm:iV L i=none:=Gd.2 ab;obtain⟨D,M⟩:=HU  (rT N) Z bm;refine⟨_,D,λac E=>⟨_,_,M ac E,λe g=>?_,λk hk=>?_⟩⟩
 ·rcases g6.1 g with g|g
  ·exact h1 e g
  ·rw[iR.1 g];exact⟨A,aR⟩
 ·by_cases e:k=i
  ·subst e;rw[if_pos rfl];exact⟨λ_=>⟨_,g6.2 (.inr (iR.2 rfl)),rfl⟩,ab⟩
  ·rw[if_neg e,I k hk];constructor
   ·rintro⟨y,ca,ce⟩;grind
   grind
theorem i1.no{c:Nat}(A:u h r=some (.map [] c)):i1 h r n (λ_=>false) V:=⟨[],c,HV A,λe g=>(tT g).elim,ab⟩
theorem Gv:∀(n:Nat) (l:aa Nat),l.Nodup->(∀x∈l,x<n)->l.length<=n
 |0,[],_,_=>ab
 |0,x::l,_,h=>absurd (h x ab) J
 |n+1,l,g,h=>by
  have A:=Gv n (l.erase n) ab ab
  grind
theorem aeM:∀(n:Nat) (l:aa Nat),(∀i,i<n->i∈l)->n<=l.length
 |0,_,_=>J
 |n+1,l,h=>by
  have g:=aeM n (l.erase n) ab
  grind
theorem akR{n:Nat}{l:aa Nat}(E:l.Nodup)(h:∀x∈l,x<n):(l.length<n↔∃i,i<n/\i ∉ l):=by
 constructor
 ·intro A;apply vg;intro I;have:=aeM n l ab;omega
 ·rintro⟨i,D,g⟩;have:=Gv n (i::l) ab ab
  grind
theorem i1.len(H:i1 h r n K V):∃m:Nat,xv h (.map (some r)) = .ok (m:X)/\m<=n/\(m<n↔∃i,i<n/\K i=false):=by
 obtain⟨L,c,D,N,M⟩:=H.ex;have E:(L.map (·.1)).Nodup:=yJ.2 D.pD;have A:∀x∈L.map (·.1),x<n:=ab
 have g:=Gv n _ E A;have I:=akR E A;rw[g5]at g I;refine⟨L.length,axQ D,g,ab⟩
 all_goals grind
end
inductive cw where
 |share (i j t:Nat)
 |spread (i j t:Nat)
 |dw (i j t:Nat)
 |dx (i t:Nat)
 |order (i t:Nat)
def cw.src(C:Nat):cw->Nat
 | .share i _ _=>i*C
 | .spread _ j _=>j
 | .dw i j _=>i*C+j
 | .dx i _=>i*C
 | .order _ _=>0
def cw.dst(C:Nat):cw->Nat
 | .share _ j _=>j
 | .spread i j _=>i*C+j
 | .dw i _ _=>i*C
 | .dx _ _=>0
 | .order i _=>i*C
def hV(b:ak):Nat:=if b then 1 else 0
variable {m bG:cw}
theorem Th:hV false=0:=rfl
theorem Sv(b:ak):hV b<=1:=by cases b <;> decide
def up{aA:Type}(f:Nat->aA)(i:Nat)(x:aA):Nat->aA:=λn=>if n=i then x else f n
theorem hx(f:Nat->aA)(i:Nat)(x:aA):up f i x i=x:=if_pos rfl
theorem hH{f:Nat->aA}{i n:Nat}{x:aA}(h:n≠i):up f i x n=f n:=if_neg h
def mc:Nat->ak:=λ_=>false
def ni(n:Nat)(K:Nat->ak):Prop:=∀i,i<n->K i=true
instance (n:Nat) (K:Nat->ak):Decidable (ni n K):=by unfold ni;exact inferInstance
theorem Qo{n:Nat}{K:Nat->ak}(h:¬ni n K):∃i,i<n/\K i=false:=by
 unfold ni at h
 grind
structure gy where
 P:Nat->Nat
 e7:Nat->Nat->ak
 q:Nat->Nat->Nat
 a:Nat->Nat
 dV:Nat->Nat->ak
 w:Nat->ak
 V:Nat
 f5:Nat->ak
 out:Nat->aa cw
section
variable (R C aw:Nat) (x:gy)
def iF(i j:Nat):Nat:=x.P j+hV (x.e7 j i)
def f7(i j:Nat):Nat:=if x.w i=true then x.a i else x.a i-1+hV (x.dV i j)
def jR(i:Nat):Nat:=x.V+hV (x.f5 i)
def jS(i:Nat):Nat:=if x.w i=true then x.a i+1 else x.a i
structure Ord:Prop where
 ap:∀i,i<R->x.a i<=aw+1/\(x.w i=true->x.a i<=aw)/\(x.w i=false->1<=x.a i)
 h1:∀i j,i<R->j<C->iF x i j<=x.a i/\iF x i j<=aw
 al:∀i j,i<R->j<C->x.q i j<=x.P j
 aM:∀i j,i<R->j<C->f7 x i j<=x.q i j
 bc:∀i,i<R->jR x i<=jS x i
 bP:∀i,i<R->x.a i<=x.V
 a6:∀j,j<C->∃i,i<R/\x.e7 j i=false
 bH:∃i,i<R/\x.f5 i=false
 bR:∀i,i<R->x.w i=false->x.a i<=aw->∃j,j<C/\x.dV i j=false
def gU:cw->Prop
 | .share i j t=>i<R/\j<C/\iF x i j<t/\t<=x.a i/\t<=aw
 | .spread i j t=>i<R/\j<C/\x.q i j<t/\t<=x.P j
 | .dw i j t=>i<R/\j<C/\f7 x i j<t/\t<=x.q i j
 | .dx i t=>i<R/\jR x i<=t/\t<jS x i
 | .order i t=>i<R/\x.a i<=t/\t<x.V
def np:cw->Prop
 | .share i j t=>i<R/\j<C/\t=x.P j+1/\x.e7 j i=false/\t<=aw
 | .spread i j t=>i<R/\j<C/\t=x.q i j+1/\t<=aw
 | .dw i j t=>i<R/\j<C/\x.w i=false/\t=x.a i/\1<=t/\t<=aw/\x.dV i j=false
 | .dx i t=>i<R/\t=x.V/\x.f5 i=false/\t<=aw
 | .order i t=>i<R/\x.w i=true/\t=x.a i/\t<=aw
def d1:cw->aa cw
 | .share i j t=>if ni R (up (x.e7 j) i true)then(List.range R).map λk=>.spread k j t else[]
 | .spread i j t=>[.dw i j t]
 | .dw i j t=>if ni C (up (x.dV i) j true)then[.dx i t]else[]
 | .dx i t=>if ni R (up x.f5 i true)then(List.range R).map λk=>.order k t else[]
 | .order i t=>if t<aw then(List.range C).map λk=>.share i k (t+1)else[]
def By:cw->gy
 | .share i j _=>if ni R (up (x.e7 j) i true)then{ x with P:=up x.P j (x.P j+1),e7:=up x.e7 j mc }else{ x with e7:=up x.e7 j (up (x.e7 j) i true) }
 | .spread i j _=>{ x with q:=up x.q i (up (x.q i) j (x.q i j+1)) }
 | .dw i j _=>if ni C (up (x.dV i) j true)then{ x with dV:=up x.dV i (up (x.dV i) j true),w:=up x.w i true }else{ x with dV:=up x.dV i (up (x.dV i) j true) }
 | .dx i _=>if ni R (up x.f5 i true)then{ x with V:=x.V+1,f5:=mc }else{ x with f5:=up x.f5 i true }
 | .order i _=>{ x with a:=up x.a i (x.a i+1),w:=up x.w i false,dV:=up x.dV i mc }
def cT(m:cw):gy:={ By R C x m with out:=up x.out (m.dst C) (x.out (m.dst C)++d1 R C aw x m) }
end
section
variable {R C aw:Nat} {x:gy}
theorem av2(i j:Nat)(H:Ord R C aw x)(g:i<R):jS x i<=1+f7 x i j/\f7 x i j<=x.a i:=by
 have:=H.ap i g;unfold jS f7;cases A:x.w i with
 |true=>grind
 |false =>
  have:=Sv (x.dV i j)
  grind
theorem LZ{i:Nat}(g:x.w i=false):f7 x i j=x.a i-1+hV (x.dV i j):=by unfold f7;grind
theorem axR{i:Nat}(g:x.w i=true):f7 x i j=x.a i:=by unfold f7;grind
theorem zl{i:Nat}(g:x.w i=false):jS x i=x.a i:=by unfold jS;grind
theorem Ec{i:Nat}(g:x.w i=true):jS x i=x.a i+1:=by unfold jS;grind
theorem Ord.k4(H:Ord R C aw x){i g:Nat}(E:i<R)(ac:aL<R)(A:g<R)(D:j<C):
  x.a i<=x.V/\x.V<=jR x aL/\jR x aL<=x.V+1/\jR x aL<=jS x aL/\jS x aL<=1+f7 x aL j/\f7 x aL j<=x.q aL j/\x.q aL j<=x.P j/\x.P j<=iF x g j/\iF x g j<=x.P j+1/\iF x g j<=x.a g/\iF x g j<=aw/\x.a i<=aw+1:=by have N:=H.bP i E;have a2:=H.bc aL ac;have a3:=av2 aL j H ac;have aV:=H.aM aL j ac D;have bl:=H.al aL j ac D;have bf:=H.h1 g j A D;have I:=Sv (x.f5 aL);have bo:=Sv (x.e7 j g);have M:jR x aL=x.V+hV (x.f5 aL):=rfl;have Z:iF x g j=x.P j+hV (x.e7 j g):=rfl;omega
theorem Ti{b:ak}(h:hV b=0):b=false:=by cases b with|false=>rfl|true=>cases h
theorem DG(H:Ord R C aw x)(Z:0<C)(I:gU R C aw x m):np R C aw x m:=by
 cases m with
 |share i j t =>
  obtain⟨g,D,E,N,aM⟩:=I;have b:=H.k4 g g g D;have aJ:iF x i j=x.P j+hV (x.e7 j i):=rfl;have M:hV (x.e7 j i)=0:=J
  exact⟨g,D,J,Ti M,aM⟩
 |spread i j t =>
  obtain⟨g,D,E,N⟩:=I;have b:=H.k4 g g g D;exact⟨g,D,J,J⟩
 |dw i j t =>
  obtain⟨g,D,E,N⟩:=I;have b:=H.k4 g g g D;cases A:x.w i with
  |true=>rw[axR A]at E;omega
  |false =>
   have e:=LZ (j:=j) A;have M:hV (x.dV i j)=0:=J
   exact⟨g,D,A,J,J,J,Ti M⟩
 |dx i t =>
  obtain⟨g,E,N⟩:=I;have b:=H.k4 g g g Z;have aJ:jR x i=x.V+hV (x.f5 i):=rfl;have M:hV (x.f5 i)=0:=J
  cases A:x.w i with
  |true=>rw[Ec A]at *;exact⟨g,J,Ti M,J⟩
  |false=>rw[zl A]at *;exact⟨g,J,J,J⟩
 |order i t =>
  obtain⟨g,E,N⟩:=I;have b:=H.k4 g g g Z;cases A:x.w i with
  |true=>rw[Ec A]at *;exact⟨g,A,J,J⟩
  |false=>rw[zl A]at *;omega
end
section
variable {R C aw:Nat} {x:gy}
theorem Kt{i:Nat}(h:np R C aw x (.share i j t)):
  (∀aL g,aL<R->iF (cT R C aw x (.share i j t)) aL g=iF x aL g+if aL=i/\g=j then 1 else 0) /\
  (cT R C aw x (.share i j t)).q=x.q/\(cT R C aw x (.share i j t)).a=x.a/\(cT R C aw x (.share i j t)).dV=x.dV/\(cT R C aw x (.share i j t)).w=x.w/\(cT R C aw x (.share i j t)).V=x.V/\(cT R C aw x (.share i j t)).f5=x.f5 /\
  (∀g,g≠j->(cT R C aw x (.share i j t)).P g=x.P g/\(cT R C aw x (.share i j t)).e7 g=x.e7 g) /\
  ((ni R (up (x.e7 j) i true)/\(cT R C aw x (.share i j t)).P j=x.P j+1/\(cT R C aw x (.share i j t)).e7 j=mc/\d1 R C aw x (.share i j t)=(List.range R).map λk=>.spread k j t) \/
   (¬ni R (up (x.e7 j) i true)/\(cT R C aw x (.share i j t)).P j=x.P j/\(cT R C aw x (.share i j t)).e7 j=up (x.e7 j) i true/\d1 R C aw x (.share i j t)=[])):=by
 obtain⟨ai,bM,cy,Z,_⟩:=h
 by_cases M:ni R (up (x.e7 j) i true)
 ·rw[show cT R C aw x (.share i j t)={ ({ x with P:=up x.P j (x.P j+1),e7:=up x.e7 j mc }:gy)with out:=up x.out (cw.dst C (cw.share i j t)) (x.out (cw.dst C (cw.share i j t))++d1 R C aw x (.share i j t)) } by unfold cT By;grind];have N:d1 R C aw x (.share i j t)=(List.range R).map λk=>cw.spread k j t:=by unfold d1;grind
  rw[N];refine⟨λaL g I=>?_,rfl,rfl,rfl,rfl,rfl,rfl,λg A=>⟨hH A,hH A⟩,.inl ⟨M,hx _ _ _,hx _ _ _,rfl⟩⟩;show up x.P j (x.P j+1) g+hV (up x.e7 j mc g aL)=x.P g+hV (x.e7 g aL)+_
  by_cases D:g=j
  ·subst D;rw[hx,hx]
   by_cases E:aL=i
   ·subst E;rw[Z];simp[mc,hV]
   ·have:=M aL I;rw[hH E]at this;rw[this,if_neg (λh=>E h.1)];simp[mc,hV]
  ·rw[hH D,hH D,if_neg (λh=>D h.2)];rfl
 ·rw[show cT R C aw x (.share i j t)={ ({ x with e7:=up x.e7 j (up (x.e7 j) i true) }:gy)with out:=up x.out (cw.dst C (cw.share i j t)) (x.out (cw.dst C (cw.share i j t))++d1 R C aw x (.share i j t)) } by unfold cT By;grind];have N:d1 R C aw x (.share i j t)=[]:=by unfold d1;grind
  rw[N];refine⟨λaL g I=>?_,rfl,rfl,rfl,rfl,rfl,rfl,λg A=>⟨rfl,hH A⟩,.inr ⟨M,rfl,hx _ _ _,rfl⟩⟩;show x.P g+hV (up x.e7 j (up (x.e7 j) i true) g aL)=x.P g+hV (x.e7 g aL)+_
  by_cases D:g=j
  ·subst D;rw[hx]
   by_cases E:aL=i
   ·subst E;rw[Z,hx];simp[hV]
   ·rw[hH E,if_neg (λh=>E h.1)];rfl
  ·rw[hH D,if_neg (λh=>D h.2)];rfl
theorem Kl{i:Nat}(h:np R C aw x (.dw i j t)):
  (∀aL g,g<C->f7 (cT R C aw x (.dw i j t)) aL g=f7 x aL g+if aL=i/\g=j then 1 else 0) /\
  (cT R C aw x (.dw i j t)).P=x.P/\(cT R C aw x (.dw i j t)).e7=x.e7/\(cT R C aw x (.dw i j t)).q=x.q/\(cT R C aw x (.dw i j t)).a=x.a/\(cT R C aw x (.dw i j t)).V=x.V/\(cT R C aw x (.dw i j t)).f5=x.f5 /\
  (∀aL,aL≠i->(cT R C aw x (.dw i j t)).w aL=x.w aL/\(cT R C aw x (.dw i j t)).dV aL=x.dV aL) /\
  ((ni C (up (x.dV i) j true)/\(cT R C aw x (.dw i j t)).w i=true/\d1 R C aw x (.dw i j t)=[.dx i t]) \/
   (¬ni C (up (x.dV i) j true)/\(cT R C aw x (.dw i j t)).w i=false/\(cT R C aw x (.dw i j t)).dV i=up (x.dV i) j true/\d1 R C aw x (.dw i j t)=[])):=by
 obtain⟨ai,bM,M,cy,h1,_,a5⟩:=h
 by_cases N:ni C (up (x.dV i) j true)
 ·rw[show cT R C aw x (.dw i j t)={ ({ x with dV:=up x.dV i (up (x.dV i) j true),w:=up x.w i true }:gy)with out:=up x.out (cw.dst C (cw.dw i j t)) (x.out (cw.dst C (cw.dw i j t))++d1 R C aw x (.dw i j t)) } by unfold cT By;grind];have Z:d1 R C aw x (.dw i j t)=[cw.dx i t]:=by unfold d1;grind
  rw[Z];refine⟨λaL g I=>?_,rfl,rfl,rfl,rfl,rfl,rfl,λaL A=>⟨hH A,hH A⟩,.inl ⟨N,hx _ _ _,rfl⟩⟩;show(if up x.w i true aL=true then x.a aL else x.a aL-1+hV (up x.dV i (up (x.dV i) j true) aL g))=(if x.w aL=true then x.a aL else x.a aL-1+hV (x.dV aL g))+_
  by_cases E:aL=i
  ·subst E;simp only[hx,M,if_true,nK,fc,true_and]
   by_cases D:g=j
   ·subst D;rw[a5];simp[hV];omega
   ·have:=N g I;rw[hH D]at this;rw[this,if_neg D];simp[hV];omega
  ·simp only[hH E,E,false_and,fc];rfl
 ·rw[show cT R C aw x (.dw i j t)={ ({ x with dV:=up x.dV i (up (x.dV i) j true) }:gy)with out:=up x.out (cw.dst C (cw.dw i j t)) (x.out (cw.dst C (cw.dw i j t))++d1 R C aw x (.dw i j t)) } by unfold cT By;grind];have Z:d1 R C aw x (.dw i j t)=[]:=by unfold d1;grind
  rw[Z];refine⟨λaL g I=>?_,rfl,rfl,rfl,rfl,rfl,rfl,λaL A=>⟨rfl,hH A⟩,.inr ⟨N,M,hx _ _ _,rfl⟩⟩;show(if x.w aL=true then x.a aL else x.a aL-1+hV (up x.dV i (up (x.dV i) j true) aL g))=(if x.w aL=true then x.a aL else x.a aL-1+hV (x.dV aL g))+_
  by_cases E:aL=i
  ·subst E;simp only[hx,M,nK,fc,true_and]
   by_cases D:g=j
   ·subst D;rw[a5,hx];simp[hV]
   ·rw[hH D,if_neg D];rfl
  ·simp only[hH E,E,false_and,fc];rfl
theorem Kw{i:Nat}(h:np R C aw x (.dx i t)):
  (∀aL,aL<R->jR (cT R C aw x (.dx i t)) aL=jR x aL+if aL=i then 1 else 0) /\
  (cT R C aw x (.dx i t)).P=x.P/\(cT R C aw x (.dx i t)).e7=x.e7/\(cT R C aw x (.dx i t)).q=x.q/\(cT R C aw x (.dx i t)).a=x.a/\(cT R C aw x (.dx i t)).dV=x.dV/\(cT R C aw x (.dx i t)).w=x.w /\
  ((ni R (up x.f5 i true)/\(cT R C aw x (.dx i t)).V=x.V+1/\(cT R C aw x (.dx i t)).f5=mc/\d1 R C aw x (.dx i t)=(List.range R).map λk=>.order k t) \/
   (¬ni R (up x.f5 i true)/\(cT R C aw x (.dx i t)).V=x.V/\(cT R C aw x (.dx i t)).f5=up x.f5 i true/\d1 R C aw x (.dx i t)=[])):=by
 obtain⟨N,M,E,_⟩:=h
 by_cases I:ni R (up x.f5 i true)
 ·rw[show cT R C aw x (.dx i t)={ ({ x with V:=x.V+1,f5:=mc }:gy)with out:=up x.out (cw.dst C (cw.dx i t)) (x.out (cw.dst C (cw.dx i t))++d1 R C aw x (.dx i t)) } by unfold cT By;grind];have D:d1 R C aw x (.dx i t)=(List.range R).map λk=>cw.order k t:=by unfold d1;grind
  rw[D];refine⟨λaL A=>?_,rfl,rfl,rfl,rfl,rfl,rfl,ab⟩;show x.V+1+hV (mc aL)=x.V+hV (x.f5 aL)+_
  by_cases g:aL=i
  ·subst g;rw[E];simp[mc,hV]
  ·have:=I aL A;rw[hH g]at this;rw[this,if_neg g];simp[mc,hV]
 ·rw[show cT R C aw x (.dx i t)={ ({ x with f5:=up x.f5 i true }:gy)with out:=up x.out (cw.dst C (cw.dx i t)) (x.out (cw.dst C (cw.dx i t))++d1 R C aw x (.dx i t)) } by unfold cT By;grind];have D:d1 R C aw x (.dx i t)=[]:=by unfold d1;grind
  rw[D];refine⟨λaL A=>?_,rfl,rfl,rfl,rfl,rfl,rfl,ab⟩;show x.V+hV (up x.f5 i true aL)=x.V+hV (x.f5 aL)+_
  by_cases g:aL=i
  ·subst g;rw[E,hx];simp[hV]
  ·rw[hH g,if_neg g];rfl
theorem Km{i:Nat}:
  (cT R C aw x (.spread i j t)).P=x.P/\(cT R C aw x (.spread i j t)).e7=x.e7/\(cT R C aw x (.spread i j t)).a=x.a/\(cT R C aw x (.spread i j t)).dV=x.dV/\(cT R C aw x (.spread i j t)).w=x.w/\(cT R C aw x (.spread i j t)).V=x.V/\(cT R C aw x (.spread i j t)).f5=x.f5 /\
  (cT R C aw x (.spread i j t)).q i j=x.q i j+1/\(∀aL g,¬(aL=i/\g=j)->(cT R C aw x (.spread i j t)).q aL g=x.q aL g)/\d1 R C aw x (.spread i j t)=[.dw i j t]:=by
 refine⟨rfl,rfl,rfl,rfl,rfl,rfl,rfl,?_,λaL g D=>?_,rfl⟩
 ·show up x.q i (up (x.q i) j (x.q i j+1)) i j=_;rw[hx,hx]
 ·show up x.q i (up (x.q i) j (x.q i j+1)) aL g=_
  by_cases A:aL=i
  ·subst A;rw[hx,hH J]
  ·rw[hH A]
theorem Pr{i:Nat}(h:np R C aw x (.order i t)):
  (cT R C aw x (.order i t)).P=x.P/\(cT R C aw x (.order i t)).e7=x.e7/\(cT R C aw x (.order i t)).q=x.q/\(cT R C aw x (.order i t)).V=x.V/\(cT R C aw x (.order i t)).f5=x.f5 /\
  (∀aL g,f7 (cT R C aw x (.order i t)) aL g=f7 x aL g)/\(∀aL,jS (cT R C aw x (.order i t)) aL=jS x aL)/\(cT R C aw x (.order i t)).a i=x.a i+1/\(cT R C aw x (.order i t)).w i=false/\(cT R C aw x (.order i t)).dV i=mc /\
  (∀aL,aL≠i->(cT R C aw x (.order i t)).a aL=x.a aL/\(cT R C aw x (.order i t)).w aL=x.w aL/\(cT R C aw x (.order i t)).dV aL=x.dV aL) /\
  d1 R C aw x (.order i t)=if t<aw then(List.range C).map λk=>.share i k (t+1)else[]:=by
 obtain⟨I,D,E,_⟩:=h;refine⟨rfl,rfl,rfl,rfl,rfl,λaL g=>?_,λaL=>?_,hx _ _ _,hx _ _ _,hx _ _ _,λaL h=>⟨hH h,hH h,hH h⟩,rfl⟩
 ·show(if up x.w i false aL=true then up x.a i (x.a i+1) aL else up x.a i (x.a i+1) aL-1+hV (up x.dV i mc aL g))=if x.w aL=true then x.a aL else x.a aL-1+hV (x.dV aL g)
  by_cases A:aL=i
  ·subst A;simp[hx,D,mc,hV]
  ·simp only[hH A]
 ·show(if up x.w i false aL=true then up x.a i (x.a i+1) aL+1 else up x.a i (x.a i+1) aL)=if x.w aL=true then x.a aL+1 else x.a aL
  by_cases A:aL=i
  ·subst A;simp[hx,D]
  ·simp only[hH A]
theorem w1{n:Nat}{f:Nat->cw}:m∈(List.range n).map f↔∃k,k<n/\f k=m:=by simp
theorem step(H:Ord R C aw x)(d5:0<C)(dD:0<R)(hm:gU R C aw x m):
  Ord R C aw (cT R C aw x m)/\∀bG,gU R C aw (cT R C aw x m) bG↔(gU R C aw x bG/\bG≠m)\/bG∈d1 R C aw x m:=by
 have aR:=DG H d5 hm;cases m with
 |share i j t =>
  obtain⟨es,eq,E,rA,e8,u7,BW,gY,qH⟩:=Kt aR;obtain⟨ai,bM,cy,bv,eH⟩:=aR;obtain⟨_,_,fk,gH,lg⟩:=hm;generalize ca:cT R C aw x (.share i j t)=y at *
  have uN:∀aL g,f7 y aL g=f7 x aL g:=λaL g=>by unfold f7;grind
  have N:∀aL,jS y aL=jS x aL:=λaL=>by unfold jS;grind
  have M:∀aL,jR y aL=jR x aL:=λaL=>by unfold jR;grind
  have eij:=es i j ai;rw[if_pos ⟨rfl,rfl⟩]at eij;refine⟨⟨λaL ac=>?_,λaL g ac A=>?_,λaL g ac A=>?_,λaL g ac A=>?_,λaL ac=>?_,λaL ac=>?_,λg A=>?_,?_,λaL ac=>?_⟩,λbG=>?_⟩
  ·rw[E,e8];exact H.ap aL ac
  ·rw[es aL g ac,E];have:=H.h1 aL g ac A
   grind
  ·rw[eq];have:=H.al aL g ac A
   grind
  ·rw[uN,eq];exact H.aM aL g ac A
  ·rw[M,N];exact H.bc aL ac
  ·rw[E,u7];exact H.bP aL ac
  ·by_cases e:g=j
   ·subst e;rcases qH with⟨_,_,Z,_⟩|⟨aF,_,Z,_⟩
    ·exact⟨i,ai,by rw[Z];rfl⟩
    ·rw[Z];exact Qo aF
   ·rw[(gY g e).2];exact H.a6 g A
  ·rw[BW];exact H.bH
  ·rw[e8,E,rA];exact H.bR aL ac
  ·cases bG with
   |share aL g D =>
    have I:cw.share aL g D ∉ d1 R C aw x (.share i j t):=ab
    simp only[gU,I,kD,E,ne_eq,cw.share.injEq];constructor
    ·rintro⟨ax,a2,a3,aV,bl⟩;rw[es aL g ax]at a3
     by_cases e:aL=i/\g=j
     ·rw[if_pos e]at a3;obtain⟨rfl,rfl⟩:=e;have:iF x aL g=x.P g:=by unfold iF;rw[bv];rfl
      omega
     omega
    ·rintro⟨⟨ax,a2,a3,aV,bl⟩,eg⟩;refine⟨ax,a2,?_,aV,bl⟩;rw[es aL g ax]
     by_cases e:aL=i/\g=j
     ·rw[if_pos e];obtain⟨rfl,rfl⟩:=e;have:iF x aL g=x.P g:=by unfold iF;rw[bv];rfl
      omega
     grind
   |spread aL g D =>
    rcases qH with⟨_,Z,_,aJ⟩|⟨_,Z,_,aJ⟩
    ·rw[aJ,w1];simp only[gU,eq,ne_eq,reduceCtorEq,kC,iy]
     by_cases e:g=j
     ·subst e;rw[Z];constructor
      ·grind
      ·rintro(⟨ax,a2,a3,aV⟩|⟨k,hk,bk⟩)
       ·omega
       ·cases bk;exact⟨hk,bM,by have:=H.al _ _ hk bM;omega,J⟩
     grind
    ·rw[aJ];simp only[gU,eq,ne_eq,reduceCtorEq,kC,iy,tT,kD]
     grind
   |dw aL g D =>
    have I:cw.dw aL g D ∉ d1 R C aw x (.share i j t):=ab
    simp only[gU,I,kD,uN,eq,ne_eq,reduceCtorEq,kC,iy]
   |dx aL D =>
    have I:cw.dx aL D ∉ d1 R C aw x (.share i j t):=ab
    simp only[gU,I,kD,M,N,ne_eq,reduceCtorEq,kC,iy]
   |order aL D =>
    have I:cw.order aL D ∉ d1 R C aw x (.share i j t):=ab
    simp only[gU,I,kD,E,u7,ne_eq,reduceCtorEq,kC,iy]
 |spread i j t =>
  obtain⟨mp,BX,E,rA,e8,u7,BW,Z,gY,eL⟩:=Km;obtain⟨ai,bM,cy,eH⟩:=aR;obtain⟨_,_,fk,gH⟩:=hm;generalize ca:cT R C aw x (.spread i j t)=y at *
  have ty:∀aL g,iF y aL g=iF x aL g:=λaL g=>by unfold iF;grind
  have uN:∀aL g,f7 y aL g=f7 x aL g:=λaL g=>by unfold f7;grind
  have N:∀aL,jS y aL=jS x aL:=λaL=>by unfold jS;grind
  have M:∀aL,jR y aL=jR x aL:=λaL=>by unfold jR;grind
  refine⟨⟨λaL ac=>?_,λaL g ac A=>?_,λaL g ac A=>?_,λaL g ac A=>?_,λaL ac=>?_,λaL ac=>?_,λg A=>?_,?_,λaL ac=>?_⟩,λbG=>?_⟩
  ·rw[E,e8];exact H.ap aL ac
  ·rw[ty,E];exact H.h1 aL g ac A
  ·rw[mp]
   by_cases e:aL=i/\g=j
   ·grind
   ·rw[gY aL g e];exact H.al aL g ac A
  ·rw[uN];have:=H.aM aL g ac A
   grind
  ·rw[M,N];exact H.bc aL ac
  ·rw[E,u7];exact H.bP aL ac
  ·rw[BX];exact H.a6 g A
  ·rw[BW];exact H.bH
  ·rw[e8,E,rA];exact H.bR aL ac
  ·rw[eL,iR];cases bG with
   |share aL g D=>simp only[gU,ty,E,ne_eq,reduceCtorEq,kC,iy,kD]
   |spread aL g D =>
    simp only[gU,mp,ne_eq,cw.spread.injEq,reduceCtorEq,kD]
    grind
   |dw aL g D =>
    simp only[gU,uN,ne_eq,cw.dw.injEq,reduceCtorEq,kC,iy]
    by_cases e:aL=i/\g=j
    ·obtain⟨rfl,rfl⟩:=e;rw[Z];constructor
     ·omega
     ·rintro(⟨ax,a2,a3,aV⟩|⟨_,_,rfl⟩)
      ·omega
      ·exact⟨ai,bM,by have:=H.aM aL g ai bM;omega,J⟩
    grind
   |dx aL D=>simp only[gU,M,N,ne_eq,reduceCtorEq,kC,iy,kD]
   |order aL D=>simp only[gU,E,u7,ne_eq,reduceCtorEq,kC,iy,kD]
 |dw i j t =>
  obtain⟨es,mp,BX,eq,E,u7,BW,gY,qH⟩:=Kl aR;obtain⟨ai,bM,bN,cy,h1t,eH,a5⟩:=aR;obtain⟨_,_,fk,gH⟩:=hm;generalize ca:cT R C aw x (.dw i j t)=y at *
  have ty:∀aL g,iF y aL g=iF x aL g:=λaL g=>by unfold iF;grind
  have M:∀aL,jR y aL=jR x aL:=λaL=>by unfold jR;grind
  have N:∀aL,aL≠i->jS y aL=jS x aL:=λaL h=>by unfold jS;grind
  refine⟨⟨λaL ac=>?_,λaL g ac A=>?_,λaL g ac A=>?_,λaL g ac A=>?_,λaL ac=>?_,λaL ac=>?_,λg A=>?_,?_,λaL ac=>?_⟩,λbG=>?_⟩
  ·rw[E]
   by_cases e:aL=i
   ·grind
   ·rw[(gY aL e).1];exact H.ap aL ac
  ·rw[ty,E];exact H.h1 aL g ac A
  ·rw[mp,eq];exact H.al aL g ac A
  ·rw[es aL g A,eq];have:=H.aM aL g ac A
   grind
  ·rw[M];have:=H.bc aL ac
   by_cases e:aL=i
   ·subst e;rw[zl bN]at this;rcases qH with⟨_,Z,_⟩|⟨_,Z,_⟩
    ·rw[Ec Z,E];omega
    ·rw[zl Z,E];omega
   grind
  ·rw[E,u7];exact H.bP aL ac
  ·rw[BX];exact H.a6 g A
  ·rw[BW];exact H.bH
  ·rw[E]
   by_cases e:aL=i
   ·subst e;rcases qH with⟨_,Z,_⟩|⟨aF,Z,aJ,_⟩
    ·grind
    ·rw[aJ];exact λ_ _=>Qo aF
   ·rw[(gY aL e).1,(gY aL e).2];exact H.bR aL ac
  ·cases bG with
   |share aL g D =>
    have I:cw.share aL g D ∉ d1 R C aw x (.dw i j t):=ab
    simp only[gU,I,kD,ty,E,ne_eq,reduceCtorEq,kC,iy]
   |spread aL g D =>
    have I:cw.spread aL g D ∉ d1 R C aw x (.dw i j t):=ab
    simp only[gU,I,kD,mp,eq,ne_eq,reduceCtorEq,kC,iy]
   |dw aL g D =>
    have I:cw.dw aL g D ∉ d1 R C aw x (.dw i j t):=ab
    simp only[gU,I,kD,eq,ne_eq,cw.dw.injEq];constructor
    ·rintro⟨ax,a2,a3,aV⟩;rw[es aL g a2]at a3
     by_cases e:aL=i/\g=j
     ·rw[if_pos e]at a3;obtain⟨rfl,rfl⟩:=e;have jj:=LZ (j:=g) bN;omega
     omega
    ·rintro⟨⟨ax,a2,a3,aV⟩,eg⟩;refine⟨ax,a2,?_,aV⟩;rw[es aL g a2]
     by_cases e:aL=i/\g=j
     ·rw[if_pos e];obtain⟨rfl,rfl⟩:=e;have jj:=LZ (j:=g) bN;omega
     grind
   |dx aL D =>
    by_cases e:aL=i
    ·subst e;have jj:=zl bN;rcases qH with⟨_,Z,aJ⟩|⟨_,Z,_,aJ⟩
     ·rw[aJ,iR];simp only[gU,M,Ec Z,E,jj,ne_eq,reduceCtorEq,kC,iy,cw.dx.injEq,true_and];constructor
      ·omega
      ·rintro(⟨ax,a2,a3⟩|rfl)
       ·omega
       ·exact⟨ai,by have:=H.bc aL ai;omega,J⟩
     ·rw[aJ];simp only[gU,M,zl Z,E,jj,ne_eq,reduceCtorEq,kC,iy,tT,kD]
    ·have I:cw.dx aL D ∉ d1 R C aw x (.dw i j t):=ab
     simp only[gU,I,kD,M,N aL e,ne_eq,reduceCtorEq,kC,iy]
   |order aL D =>
    have I:cw.order aL D ∉ d1 R C aw x (.dw i j t):=ab
    simp only[gU,I,kD,E,u7,ne_eq,reduceCtorEq,kC,iy]
 |dx i t =>
  obtain⟨es,mp,BX,eq,E,rA,e8,qH⟩:=Kw aR;obtain⟨ai,cy,aI,eH⟩:=aR;obtain⟨_,fk,gH⟩:=hm;generalize ca:cT R C aw x (.dx i t)=y at *
  have ty:∀aL g,iF y aL g=iF x aL g:=λaL g=>by unfold iF;grind
  have uN:∀aL g,f7 y aL g=f7 x aL g:=λaL g=>by unfold f7;grind
  have N:∀aL,jS y aL=jS x aL:=λaL=>by unfold jS;grind
  have jj:jR x i=x.V:=by unfold jR;rw[aI];rfl
  refine⟨⟨λaL ac=>?_,λaL g ac A=>?_,λaL g ac A=>?_,λaL g ac A=>?_,λaL ac=>?_,λaL ac=>?_,λg A=>?_,?_,λaL ac=>?_⟩,λbG=>?_⟩
  ·rw[E,e8];exact H.ap aL ac
  ·rw[ty,E];exact H.h1 aL g ac A
  ·rw[mp,eq];exact H.al aL g ac A
  ·rw[uN,eq];exact H.aM aL g ac A
  ·rw[es aL ac,N];have:=H.bc aL ac
   grind
  ·rw[E];have:=H.bP aL ac;omega
  ·rw[BX];exact H.a6 g A
  ·rcases qH with⟨_,_,Z,_⟩|⟨aF,_,Z,_⟩
   ·exact⟨i,ai,by rw[Z];rfl⟩
   ·rw[Z];exact Qo aF
  ·rw[e8,E,rA];exact H.bR aL ac
  ·cases bG with
   |share aL g D =>
    have I:cw.share aL g D ∉ d1 R C aw x (.dx i t):=ab
    simp only[gU,I,kD,ty,E,ne_eq,reduceCtorEq,kC,iy]
   |spread aL g D =>
    have I:cw.spread aL g D ∉ d1 R C aw x (.dx i t):=ab
    simp only[gU,I,kD,mp,eq,ne_eq,reduceCtorEq,kC,iy]
   |dw aL g D =>
    have I:cw.dw aL g D ∉ d1 R C aw x (.dx i t):=ab
    simp only[gU,I,kD,uN,eq,ne_eq,reduceCtorEq,kC,iy]
   |dx aL D =>
    have I:cw.dx aL D ∉ d1 R C aw x (.dx i t):=ab
    simp only[gU,I,kD,N,ne_eq,cw.dx.injEq]
    grind
   |order aL D =>
    rcases qH with⟨_,Z,_,aJ⟩|⟨_,Z,_,aJ⟩
    ·rw[aJ,w1];simp only[gU,E,Z,ne_eq,reduceCtorEq,kC,iy];constructor
     ·grind
     ·rintro(⟨ax,a2,a3⟩|⟨k,hk,bk⟩)
      ·omega
      ·cases bk;exact⟨hk,by have:=H.bP _ hk;omega,J⟩
    ·rw[aJ];simp only[gU,E,Z,ne_eq,reduceCtorEq,kC,iy,tT,kD]
 |order i t =>
  obtain⟨mp,BX,eq,u7,BW,uN,N,E,e8,rA,gY,eL⟩:=Pr aR;obtain⟨ai,bN,cy,eH⟩:=aR;obtain⟨_,fk,gH⟩:=hm;generalize ca:cT R C aw x (.order i t)=y at *
  have ty:∀aL g,iF y aL g=iF x aL g:=λaL g=>by unfold iF;grind
  have M:∀aL,jR y aL=jR x aL:=λaL=>by unfold jR;grind
  refine⟨⟨λaL ac=>?_,λaL g ac A=>?_,λaL g ac A=>?_,λaL g ac A=>?_,λaL ac=>?_,λaL ac=>?_,λg A=>?_,?_,λaL ac=>?_⟩,λbG=>?_⟩
  ·by_cases e:aL=i
   ·grind
   ·rw[(gY aL e).1,(gY aL e).2.1];exact H.ap aL ac
  ·rw[ty];have:=H.h1 aL g ac A
   grind
  ·rw[mp,eq];exact H.al aL g ac A
  ·rw[uN,eq];exact H.aM aL g ac A
  ·rw[M,N];exact H.bc aL ac
  ·rw[u7]
   by_cases e:aL=i
   ·grind
   ·rw[(gY aL e).1];exact H.bP aL ac
  ·rw[BX];exact H.a6 g A
  ·rw[BW];exact H.bH
  ·by_cases e:aL=i
   ·subst e;rw[rA];exact λ_ _=>⟨0,d5,rfl⟩
   ·rw[(gY aL e).1,(gY aL e).2.1,(gY aL e).2.2];exact H.bR aL ac
  ·cases bG with
   |share aL g D =>
    by_cases ci:t<aw
    ·rw[eL,if_pos ci,w1];simp only[gU,ty,ne_eq,reduceCtorEq,kC,iy]
     by_cases e:aL=i
     ·subst e;rw[E];constructor
      ·grind
      ·rintro(⟨ax,a2,a3,aV,bl⟩|⟨k,hk,bk⟩)
       ·omega
       ·cases bk;exact⟨ai,hk,by have:=H.h1 _ _ ai hk;omega,J,J⟩
     grind
    ·rw[eL,if_neg ci];simp only[gU,ty,ne_eq,reduceCtorEq,kC,iy,tT,kD]
     grind
   |spread aL g D =>
    have I:cw.spread aL g D ∉ d1 R C aw x (.order i t):=ab
    simp only[gU,I,kD,mp,eq,ne_eq,reduceCtorEq,kC,iy]
   |dw aL g D =>
    have I:cw.dw aL g D ∉ d1 R C aw x (.order i t):=ab
    simp only[gU,I,kD,uN,eq,ne_eq,reduceCtorEq,kC,iy]
   |dx aL D =>
    have I:cw.dx aL D ∉ d1 R C aw x (.order i t):=ab
    simp only[gU,I,kD,M,N,ne_eq,reduceCtorEq,kC,iy]
   |order aL D =>
    have I:cw.order aL D ∉ d1 R C aw x (.order i t):=ab
    simp only[gU,I,kD,u7,ne_eq,cw.order.injEq]
    grind
end
def uO{aA:Type}(f:Nat->Nat->aA)(i j:Nat)(x:aA):Nat->Nat->aA:=up f i (up (f i) j x)
theorem q7(f:Nat->Nat->aA)(i j:Nat)(x:aA):uO f i j x i j=x:=by unfold uO;rw[hx,hx]
theorem q8{f:Nat->Nat->aA}{i:Nat}{x:aA}(h:¬(a=i/\b=j)):uO f i j x a b=f a b:=by
 unfold uO
 by_cases e:a=i
 ·subst e;rw[hx,hH J]
 ·rw[hH e]
theorem Re{R C aw:Nat}{x:gy}{o:Nat->aa cw}:gU R C aw { x with out:=o } m=gU R C aw x m:=by cases m <;> rfl
theorem t9{C i o5:Nat}(h:i*C+j=aL*C+o5)(A:j<C)(g:o5<C):i=aL/\j=o5:=by
 have D:(i*C+j) / C=i:=by rw[yM,Nat.mul_add_div J,OY A,m9]
 have E:(aL*C+o5) / C=aL:=by rw[yM,Nat.mul_add_div J,OY g,m9]
 grind
theorem p2{R C i:Nat}(g:i<R)(A:j<C):i*C+j<R*C:=by
 have:(i+1)*C<=R*C:=pU C g
 grind
section
variable {R C aw:Nat} {x:gy} {cO:Nat->Nat->aa cw}
theorem LD(g:0<C)(h:gU R C aw x m):m.src C<R*C/\m.dst C<R*C:=by
 cases m with
 |share i j t=>obtain⟨a,b,_⟩:=h;have:=p2  a g;have:=p2   (by omega:0<R) b;simp only[cw.src,cw.dst];omega
 |spread i j t=>obtain⟨a,b,_⟩:=h;have:=p2 a b;simp only[cw.src,cw.dst];omega
 |dw i j t=>obtain⟨a,b,_⟩:=h;have:=p2 a b;simp only[cw.src,cw.dst];omega
 |dx i t=>obtain⟨a,_⟩:=h;have:=p2  a g;simp only[cw.src,cw.dst];omega
 |order i t=>obtain⟨a,_⟩:=h;have:=p2  a g;simp only[cw.src,cw.dst];omega
structure pv (R C aw:Nat) (x:gy) (cO:Nat->Nat->aa cw):Prop where
 ord:Ord R C aw x
 d9:∀n m,m∈x.out n->m.src C=n/\gU R C aw x m
 dI:∀n kx m,m∈cO n kx->m.src C=n/\m.dst C=kx/\gU R C aw x m
 gL:∀m,gU R C aw x m->m∈x.out (m.src C)\/m∈cO (m.src C) (m.dst C)
 kz:∀n,(x.out n).Nodup
 wB:∀n kx,(cO n kx).Nodup
 oe:∀n kx m,m∈x.out n->m ∉ cO n kx
theorem pv.pick(H:pv R C aw x cO){n:Nat}{r:aa cw}(h:x.out n=m::r):pv R C aw { x with out:=up x.out n r } (uO cO n (m.dst C) (cO n (m.dst C)++[m])):=by
 have M:m∈x.out n:=ab
 have bm:=H.kz n;rw[h,List.nodup_cons]at bm;obtain⟨ar,bx⟩:=H.d9 n m M;have sub:∀k bG,bG∈up x.out n r k->bG∈x.out k/\¬(k=n/\bG=m):=λk bG g=>by
  by_cases e:k=n
  ·subst e;rw[hx]at g
   grind
  ·rw[hH e]at g;grind
 refine⟨⟨H.ord.ap,H.ord.h1,H.ord.al,H.ord.aM,H.ord.bc,H.ord.bP,H.ord.a6,H.ord.bH,H.ord.bR⟩,λk bG g=>?_,λk A bG g=>?_,λbG D=>?_,λk=>?_,λk A=>?_,λk A bG g=>?_⟩
 ·rw[Re];exact H.d9 k bG ab
 ·rw[Re]
  by_cases e:k=n/\A=m.dst C
  ·obtain⟨rfl,rfl⟩:=e;rw[q7,g6,iR]at g;rcases g with g|rfl
   ·exact H.dI _ _ bG g
   ·exact⟨ar,rfl,bx⟩
  ·rw[q8 e]at g;exact H.dI k A bG g
 ·rw[Re]at D;rcases H.gL bG D with E|E
  ·by_cases e:bG=m
   ·subst e
    right
    rw[ar,q7];simp
   ·left
    show bG∈up x.out n r (bG.src C)
    by_cases N:bG.src C=n
    ·rw[N,hx]
     grind
    ·rw[hH N];omega
  ·right
   by_cases e:bG.src C=n/\bG.dst C=m.dst C
   ·rw[e.1,e.2,q7,g6]
    grind
   ·rw[q8 e];omega
 ·show(up x.out n r k).Nodup
  by_cases e:k=n
  ·subst e;rw[hx];grind
  ·rw[hH e];exact H.kz k
 ·by_cases e:k=n/\A=m.dst C
  ·obtain⟨rfl,rfl⟩:=e;rw[q7,OU];exact⟨H.wB _ _,by simp,λa dg b Z=>by rw[iR]at Z;subst Z;intro e;subst e;exact H.oe _ _ _ M dg⟩
  ·rw[q8 e];exact H.wB k A
 ·obtain⟨I,ky⟩:=sub k bG g
  by_cases e:k=n/\A=m.dst C
  ·obtain⟨rfl,rfl⟩:=e;rw[q7,g6,iR];rintro(E|rfl)
   ·exact H.oe _ _ _ I E
   grind
  ·rw[q8 e];exact H.oe k A bG I
theorem aa4(h:bG∈d1 R C aw x m):bG.src C=m.dst C:=by
 cases m with
 |share i j t =>
  simp only[d1]at h
  split at h
  ·rw[w1]at h;obtain⟨k,_,rfl⟩:=h;rfl
  grind
 |spread i j t=>simp only[d1]at h;rw[iR]at h;subst h;rfl
 |dw i j t =>
  simp only[d1]at h
  split at h
  ·rw[iR]at h;subst h;rfl
  grind
 |dx i t =>
  simp only[d1]at h
  split at h
  ·rw[w1]at h;obtain⟨k,_,rfl⟩:=h;rfl
  grind
 |order i t =>
  simp only[d1]at h
  split at h
  ·rw[w1]at h;obtain⟨k,_,rfl⟩:=h;rfl
  grind
theorem PM{n:Nat}{f:Nat->cw}(h:∀a b,f a=f b->a=b):((List.range n).map f).Nodup:=by
 induction n with
 |zero=>simp
 |succ n g =>
  rw[pb,hN,OU]
  grind
theorem ajw:(d1 R C aw x m).Nodup:=by
 cases m with
 |share i j t =>
  simp only[d1];split
  ·exact PM ab
  ·simp
 |spread i j t=>simp only[d1];simp
 |dw i j t=>simp only[d1];grind
 |dx i t =>
  simp only[d1];split
  ·exact PM ab
  ·simp
 |order i t =>
  simp only[d1];split
  ·exact PM ab
  ·simp
theorem aa5(g:np R C aw x m)(h:bG∈d1 R C aw x m):¬gU R C aw x bG:=by
 cases m with
 |share i j t =>
  simp only[d1]at h
  split at h
  ·rw[w1]at h;obtain⟨k,_,rfl⟩:=h;obtain⟨_,_,D,_⟩:=g;rintro⟨_,_,_,A⟩;omega
  grind
 |spread i j t =>
  simp only[d1]at h;rw[iR]at h;subst h;obtain⟨_,_,D,_⟩:=g;rintro⟨_,_,_,A⟩;omega
 |dw i j t =>
  simp only[d1]at h
  split at h
  ·rw[iR]at h;subst h;obtain⟨_,_,E,D,_⟩:=g;rintro⟨_,_,A⟩;rw[zl E]at A;omega
  grind
 |dx i t =>
  simp only[d1]at h
  split at h
  ·rw[w1]at h;obtain⟨k,_,rfl⟩:=h;obtain⟨_,D,_⟩:=g;rintro⟨_,_,A⟩;omega
  grind
 |order i t =>
  simp only[d1]at h
  split at h
  ·rw[w1]at h;obtain⟨k,_,rfl⟩:=h;obtain⟨_,_,D,_⟩:=g;rintro⟨_,_,_,A,_⟩;omega
  grind
theorem pv.Rf(H:pv R C aw x cO)(d5:0<C)(dD:0<R){n A:Nat}{r:aa cw}(h:cO n A=m::r):pv R C aw (cT R C aw x m) (uO cO n A r):=by
 have hm:m∈cO n A:=ab
 have bm:=H.wB n A;rw[h,List.nodup_cons]at bm;obtain⟨ar,M,bx⟩:=H.dI n A m hm;obtain⟨aBC,I⟩:=step H.ord d5 dD bx;have aR:=DG H.ord d5 bx;have gY:(cT R C aw x m).out=up x.out A (x.out A++d1 R C aw x m):=by subst M;rfl
 have aAD:∀k bG,bG∈x.out k->bG≠m:=λk bG g e=>by subst e;have:=(H.d9 k bG g).1;rw[ar]at this;subst this;exact H.oe _ _ _ g hm
 have N:∀k bG,bG∈(cT R C aw x m).out k↔bG∈x.out k\/(k=A/\bG∈d1 R C aw x m):=λk bG=>by
  rw[gY]
  by_cases e:k=A
  ·subst e;rw[hx,g6];simp
  ·rw[hH e];grind
 have aAE:∀k D bG,bG∈uO cO n A r k D->bG∈cO k D/\bG≠m:=λk D bG g=>by
  by_cases e:k=n/\D=A
  ·obtain⟨rfl,rfl⟩:=e;rw[q7]at g
   grind
  ·rw[q8 e]at g;exact⟨g,λaJ=>by subst aJ;have:=H.dI k D bG g;omega⟩
 refine⟨aBC,λk bG g=>?_,λk D bG g=>?_,λbG Z=>?_,λk=>?_,λk D=>?_,λk D bG g bg=>?_⟩
 ·rw[N]at g;rcases g with g|⟨rfl,g⟩
  ·have:=H.d9 k bG g;exact⟨this.1,(I bG).2 ab⟩
  ·exact⟨by rw[aa4 g,M],(I bG).2 ab⟩
 ·obtain⟨E,al⟩:=aAE k D bG g;have:=H.dI k D bG E;exact⟨this.1,J,(I bG).2 ab⟩
 ·rw[N];rcases(I bG).1 Z with⟨E,al⟩|E
  ·rcases H.gL bG E with aM|aM
   ·grind
   ·right
    by_cases e:bG.src C=n/\bG.dst C=A
    ·rw[e.1,e.2,q7]
     grind
    ·rw[q8 e];omega
  ·exact .inl (.inr ⟨by rw[aa4 E,M],E⟩)
 ·rw[gY]
  by_cases e:k=A
  ·subst e;rw[hx,OU];exact⟨H.kz _,ajw,λa dg b aG e=>by subst e;exact aa5 aR aG (H.d9 _ a dg).2⟩
  ·rw[hH e];exact H.kz k
 ·by_cases e:k=n/\D=A
  ·obtain⟨rfl,rfl⟩:=e;rw[q7];grind
  ·rw[q8 e];exact H.wB k D
 ·obtain⟨E,al⟩:=aAE k D bG bg;rw[N]at g;rcases g with g|⟨rfl,g⟩
  ·exact H.oe k D bG g E
  ·exact aa5 aR g (H.dI _ _ _ E).2.2
theorem Ord.ended(H:Ord R C aw x)(d5:0<C)(dD:0<R)(h:∀m,¬gU R C aw x m){i:Nat}(g:i<R):x.a i=aw+1:=by
 have M:∀i,i<R->x.a i=x.V:=λi g=>by
  have:=H.bP i g
  by_cases e:x.a i<x.V
  ·exact absurd ⟨g,cB _,e⟩ (h (.order i (x.a i)))
  omega
 have es:∀i j,i<R->j<C->x.a i<=iF x i j\/aw<=iF x i j:=λi j g A=>by
  by_cases e:iF x i j<x.a i/\iF x i j<aw
  ·exact absurd ⟨g,A,FJ _,e.1,e.2⟩ (h (.share i j (iF x i j+1)))
  omega
 have eq:∀i j,i<R->j<C->x.q i j=x.P j:=λi j g A=>by
  have:=H.al i j g A
  by_cases e:x.q i j<x.P j
  ·exact absurd ⟨g,A,FJ _,e⟩ (h (.spread i j (x.q i j+1)))
  omega
 have rA:∀i j,i<R->j<C->f7 x i j=x.q i j:=λi j g A=>by
  have:=H.aM i j g A
  by_cases e:f7 x i j<x.q i j
  ·exact absurd ⟨g,A,FJ _,e⟩ (h (.dw i j (f7 x i j+1)))
  omega
 have ej:∀i,i<R->jR x i=jS x i:=λi g=>by
  have:=H.bc i g
  by_cases e:jR x i<jS x i
  ·exact absurd ⟨g,cB _,e⟩ (h (.dx i (jR x i)))
  omega
 have hR:=M i g;have eH:=(H.ap i g).1
 by_cases bu:x.a i=aw+1
 ·omega
 exfalso;obtain⟨k,hk,aI⟩:=H.bH;have I:∀i,i<R->x.w i=true:=λi g=>by
  cases I:x.w i with
  |true=>rfl
  |false =>
   have E:=M i g;obtain⟨j,A,a5⟩:=H.bR i g I J;obtain⟨N,D,bv⟩:=H.a6 j A;have aJ:=rA i j g A;rw[LZ I,a5,Th,eq i j g A]at aJ;have Z:=es N j D A;unfold iF at Z;rw[bv,Th,M N D]at Z;have:=(H.ap i g).2.2 I;omega
 have E:=ej k hk;rw[Ec ab]at E;unfold jR at E;rw[aI,Th,M k hk]at E;omega
def mN(R C t:Nat):Nat:=1+t*(2*R+C+2)
def gZ(R C:Nat):cw->Nat
 | .share i j t=>mN R C (t-1)+R+j+1
 | .spread i j t=>mN R C (t-1)+R+C+i+1
 | .dw i j t=>mN R C (t-1)+2*R+C+1
 | .dx i t=>mN R C t
 | .order i t=>mN R C t+i+1
theorem pj(h:a<=b):mN R C a<=mN R C b:=by have:=pU (2*R+C+2) h;unfold mN;omega
theorem q2(h:a<b):mN R C a+2*R+C+2<=mN R C b:=by have:=pU (2*R+C+2) (Nat.succ_le_of_lt h);rw[FR]at this;unfold mN;omega
theorem atL(H:Ord R C aw x)(d5:0<C)(hm:gU R C aw x m){p:Nat}(bv:(d1 R C aw x m)[p]? = some bG):
  gZ R C m+p+1<=gZ R C bG/\∀l,gU R C aw x l->l.src C=m.dst C->gZ R C l+p+1<=gZ R C bG:=by
 have aR:=DG H d5 hm;have jW:∀{n:Nat} {f:Nat->cw},((List.range n).map f)[p]? = some bG->p<n/\bG=f p:=ab
 have one:∀{y:cw},[y][p]? = some bG->p=0/\bG=y:=ab
 have st:∀{i j k:Nat},i*C=k*C+j->j<C->i=k/\j=0:=λ{i j k} h bM=>by have:=t9      J d5 bM;omega
 cases m with
 |share i j t =>
  obtain⟨g,bM,cy,_,eH⟩:=aR;simp only[d1]at bv
  split at bv
  case isFalse=>grind
  obtain⟨hpR,rfl⟩:=jW bv;refine⟨by simp only[gZ];omega,λl I N=>?_⟩;cases l with
  |share aL Z A =>
   obtain⟨D,E,M,aV,bl⟩:=I;have b:=H.k4 D g g bM;have:=pj (R:=R) (C:=C) (J:A-1<=t-1);simp only[gZ];omega
  |spread aL Z A =>
   obtain⟨D,E,M,aV⟩:=I;have N:Z=j:=N;subst N;have:=q2 (R:=R) (C:=C) (J:A-1<t-1);simp only[gZ];omega
  |dw aL Z A =>
   obtain⟨D,E,M,aV⟩:=I;have N:aL*C+Z=j:=N;obtain⟨rfl,rfl⟩:=t9  (i:=aL)  (aL:=0)  J E bM;have:=H.al 0 Z D E;have:=q2 (R:=R) (C:=C) (J:A-1<t-1);simp only[gZ];omega
  |dx aL A =>
   obtain⟨D,E,M⟩:=I;have b:=H.k4 g D g bM;have:=pj (R:=R) (C:=C) (J:A<=t-1);simp only[gZ];omega
  |order aL A =>
   obtain⟨D,E,M⟩:=I;have b:=H.k4 g g g bM;have:=pj (R:=R) (C:=C) (J:A<=t-1);simp only[gZ];omega
 |spread i j t =>
  obtain⟨g,bM,cy,eH⟩:=aR;obtain⟨_,_,fk,gH⟩:=hm;simp only[d1]at bv;obtain⟨rfl,rfl⟩:=one bv;refine⟨by simp only[gZ];omega,λl I N=>?_⟩;cases l with
  |share aL Z A =>
   obtain⟨D,E,M,aV,bl⟩:=I;have b:=H.k4 D g g bM;have:=pj (R:=R) (C:=C) (J:A-1<=t-1);simp only[gZ];omega
  |spread aL Z A =>
   obtain⟨D,E,M,aV⟩:=I;have b:=H.k4 g g g bM;have bO:=H.k4 g g g E;have:=pj (R:=R) (C:=C) (J:A-1<=t-1);simp only[gZ];omega
  |dw aL Z A =>
   obtain⟨D,E,M,aV⟩:=I;have N:aL*C+Z=i*C+j:=N;obtain⟨rfl,rfl⟩:=t9 N E bM;have:=q2 (R:=R) (C:=C) (J:A-1<t-1);simp only[gZ];omega
  |dx aL A =>
   obtain⟨D,E,M⟩:=I;have N:aL*C=i*C+j:=N;obtain⟨rfl,rfl⟩:=st N bM;have b:=H.k4 D D D bM;omega
  |order aL A =>
   obtain⟨D,E,M⟩:=I;have b:=H.k4 g g g bM;have:=pj (R:=R) (C:=C) (J:A<=t-1);simp only[gZ];omega
 |dw i j t =>
  obtain⟨g,bM,bN,cy,h1t,eH,a5⟩:=aR;obtain⟨_,_,fk,gH⟩:=hm;simp only[d1]at bv
  split at bv
  case isFalse=>grind
  obtain⟨rfl,rfl⟩:=one bv;have e8:=zl bN;have aF:=q2 (R:=R) (C:=C) (J:t-1<t);refine⟨by simp only[gZ];omega,λl I N=>?_⟩;cases l with
  |share aL Z A =>
   obtain⟨D,E,M,aV,bl⟩:=I;have b:=H.k4 D g g bM;have:=pj (R:=R) (C:=C) (J:A-1<=t-1);simp only[gZ];omega
  |spread aL Z A =>
   obtain⟨D,E,M,aV⟩:=I;have b:=H.k4 g g g E;have:=pj (R:=R) (C:=C) (J:A-1<=t-1);simp only[gZ];omega
  |dw aL Z A =>
   obtain⟨D,E,M,aV⟩:=I;have b:=H.k4 g D g E;have:=pj (R:=R) (C:=C) (J:A-1<=t-1);simp only[gZ];omega
  |dx aL A =>
   obtain⟨D,E,M⟩:=I;have N:aL*C=i*C:=N;have:aL=i:=(st (j:=0) J d5).1;subst this;have:=pj (R:=R) (C:=C) (J:A<=t-1);simp only[gZ];omega
  |order aL A =>
   obtain⟨D,E,M⟩:=I;have b:=H.k4 g g g bM;have:=pj (R:=R) (C:=C) (J:A<=t-1);simp only[gZ];omega
 |dx i t =>
  obtain⟨g,cy,aI,eH⟩:=aR;simp only[d1]at bv
  split at bv
  case isFalse=>grind
  obtain⟨hpR,rfl⟩:=jW bv;refine⟨by simp only[gZ];omega,λl I N=>?_⟩;cases l with
  |share aL Z A =>
   obtain⟨D,E,M,aV,bl⟩:=I;have b:=H.k4 D g g E;have:=q2 (R:=R) (C:=C) (J:A-1<t);simp only[gZ];omega
  |spread aL Z A =>
   obtain⟨D,E,M,aV⟩:=I;have b:=H.k4 g g g E;have:=q2 (R:=R) (C:=C) (J:A-1<t);simp only[gZ];omega
  |dw aL Z A =>
   obtain⟨D,E,M,aV⟩:=I;have b:=H.k4 g D g E;have:=q2 (R:=R) (C:=C) (J:A-1<t);simp only[gZ];omega
  |dx aL A =>
   obtain⟨D,E,M⟩:=I;have b:=H.k4 g D g d5;have:=pj (R:=R) (C:=C) (J:A<=t);simp only[gZ];omega
  |order aL A =>
   obtain⟨D,E,M⟩:=I;have:=q2 (R:=R) (C:=C) (J:A<t);simp only[gZ];omega
 |order i t =>
  obtain⟨g,bN,cy,eH⟩:=aR;simp only[d1]at bv
  split at bv
  case isFalse=>grind
  obtain⟨hpR,rfl⟩:=jW bv;have e8:=Ec bN;rw[show gZ R C (.share i p (t+1))=mN R C t+R+p+1 from rfl];refine⟨by simp only[gZ];omega,λl I N=>?_⟩;cases l with
  |share aL Z A =>
   obtain⟨D,E,M,aV,bl⟩:=I;have N:aL*C=i*C:=N;have:aL=i:=(st (j:=0) J d5).1;subst this;have:=q2 (R:=R) (C:=C) (J:A-1<t);simp only[gZ];omega
  |spread aL Z A =>
   obtain⟨D,E,M,aV⟩:=I;have b:=H.k4 g g g E;have:=q2 (R:=R) (C:=C) (J:A-1<t);simp only[gZ];omega
  |dw aL Z A =>
   obtain⟨D,E,M,aV⟩:=I;have b:=H.k4 g D g E;have:=q2 (R:=R) (C:=C) (J:A-1<t);simp only[gZ];omega
  |dx aL A =>
   obtain⟨D,E,M⟩:=I;have N:aL*C=i*C:=N;have:aL=i:=(st (j:=0) J d5).1;subst this;have:=pj (R:=R) (C:=C) (J:A<=t);simp only[gZ];omega
  |order aL A =>
   obtain⟨D,E,M⟩:=I;have b:=H.k4 g g g d5;have:=pj (R:=R) (C:=C) (J:A<=t);simp only[gZ];omega
structure qq (R C n K:Nat) (x:gy) (cO:Nat->Nat->aa cw):Prop where
 t1:∀k p m,(x.out k)[p]? = some m->n+p+(if k<K then 1 else 0)<=gZ R C m
 t2:∀k dp m,m∈cO k dp->n<=gZ R C m
 t3:∀k dp,K<=k->cO k dp=[]
theorem qq.pick{n K:Nat}(D:qq R C n K x cO){r:aa cw}(h:x.out K=m::r):qq R C n (K+1) { x with out:=up x.out K r } (uO cO K (m.dst C) (cO K (m.dst C)++[m])):=by
 refine⟨λk p bG g=>?_,λk A bG g=>?_,λk A g=>?_⟩
 ·have g:(up x.out K r k)[p]? = some bG:=g
  by_cases e:k=K
  ·subst e;rw[hx]at g;have:=D.t1 k (p+1) bG ab
   grind
  ·rw[hH e]at g;have:=D.t1 k p bG g
   grind
 ·by_cases e:k=K/\A=m.dst C
  ·obtain⟨rfl,rfl⟩:=e;rw[q7,g6,iR]at g;rcases g with g|rfl
   ·exact D.t2 _ _ _ g
   ·have:=D.t1 k 0 bG ab;omega
  ·rw[q8 e]at g;exact D.t2 _ _ _ g
 ·rw[q8 J];exact D.t3 k A J
theorem qq.skip{n K:Nat}(D:qq R C n K x cO)(h:x.out K=[]):qq R C n (K+1) x cO:=by
 refine⟨λk p bG g=>?_,D.t2,λk A g=>D.t3 k A J⟩;have:=D.t1 k p bG g
 grind
theorem qq.Rf{n K:Nat}(D:qq R C n K x cO)(H:pv R C aw x cO)(d5:0<C)(ha:R*C<=K){k I:Nat}{r:aa cw}(h:cO k I=m::r):qq R C n K (cT R C aw x m) (uO cO k I r):=by
 have N:m∈cO k I:=ab
 obtain⟨ar,bu,Z⟩:=H.dI k I m N;have aG:=LD d5 Z;refine⟨λE p bG g=>?_,λE A bG g=>?_,λE A g=>?_⟩
 ·have g:(up x.out (m.dst C) (x.out (m.dst C)++d1 R C aw x m) E)[p]? = some bG:=g
  by_cases e:E=m.dst C
  ·subst e;rw[hx]at g;rw[if_pos J]
   by_cases aJ:p<(x.out (m.dst C)).length
   ·rw[sP aJ]at g;have:=D.t1 _ p bG g
    grind
   ·rw[vf J]at g;obtain⟨fv,fF⟩:=atL H.ord d5 Z g;have ir:=D.t2 _ _ _ N;cases bg:(x.out (m.dst C)).length with
    |zero=>omega
    |succ q =>
     rw[bg]at fF;have M:∃l,(x.out (m.dst C))[q]? = some l:=⟨_,jU J⟩
     obtain⟨l,M⟩:=M;have h1:=D.t1 _ q l M;rw[if_pos J]at h1;have al:=H.d9 _ l (jp M)
     grind
  ·rw[hH e]at g;exact D.t1 E p bG g
 ·by_cases e:E=k/\A=I
  ·obtain⟨rfl,rfl⟩:=e;rw[q7]at g;exact D.t2 _ _ bG (by rw[h];grind)
  ·rw[q8 e]at g;exact D.t2 _ _ bG g
 ·by_cases e:E=k/\A=I
  ·omega
  ·rw[q8 e];exact D.t3 _ _ g
theorem qq.next{n K:Nat}(D:qq R C n K x cO)(H:pv R C aw x cO)(I:0<C)(Z:R*C<=K)(M:∀k A,cO k A=[]):qq R C (n+1) 0 x cO:=by
 refine⟨λk p m E=>?_,ab,ab⟩;have h1:=D.t1 k p m E;have g:=H.d9 k m ab;have N:=LD I g.2
 grind
theorem av3(H:Ord R C aw x)(I:0<C)(E:gU R C aw x m):gZ R C m<=mN R C aw+R:=by
 have A:=DG H I E;cases m with
 |share i j t=>obtain⟨_,_,D,_,g⟩:=A;have:=q2 (R:=R) (C:=C) (J:t-1<aw);simp only[gZ];omega
 |spread i j t=>obtain⟨_,_,D,g⟩:=A;have:=q2 (R:=R) (C:=C) (J:t-1<aw);simp only[gZ];omega
 |dw i j t=>obtain⟨_,_,_,D,M,g,_⟩:=A;have:=q2 (R:=R) (C:=C) (J:t-1<aw);simp only[gZ];omega
 |dx i t=>obtain⟨_,D,_,g⟩:=A;have:=pj (R:=R) (C:=C) g;simp only[gZ];omega
 |order i t=>obtain⟨D,_,_,g⟩:=A;have:=pj (R:=R) (C:=C) g;simp only[gZ];omega
theorem pv.fin{n:Nat}(H:pv R C aw x cO)(D:qq R C n 0 x cO)(E:0<C)(N:0<R)(bm:mN R C aw+R<n){i:Nat}(I:i<R):x.a i=aw+1:=by
 refine H.ord.ended E N (λm A=>?_) I;have Z:=av3 H.ord E A;rcases H.gL m A with g|g
 ·obtain⟨p,M⟩:=FB.1 g;have:=D.t1 _ p m M;omega
 ·rw[D.t3 _ _ J]at g;grind
theorem pv.more(H:pv R C aw x cO)(A:0<C)(M:0<R)(Z:∀k E,cO k E=[]){i:Nat}(I:i<R)(D:x.a i≠aw+1):∃k,k<R*C/\x.out k≠[]:=by
 apply vg;intro N;apply D;refine H.ord.ended A M (λm g=>?_) I;rcases H.gL m g with al|al
 ·exact N ⟨m.src C,(LD A g).1,ab⟩
 grind
def mO(R C:Nat):gy:={ P:=λ_=>0,e7:=λ_=>mc,q:=λ_ _=>0,a:=λ_=>0,dV:=λ_=>mc,w:=λ_=>true,V:=0,f5:=mc,out:=λn=>if n % C=0/\n<R*C then[.dx (n / C) 0]else[] }
theorem av4(I:0<C)(Z:0<R):pv R C aw (mO R C) (λ_ _=>[])/\qq R C 1 0 (mO R C) (λ_ _=>[]):=by
 have ej:∀i,jR (mO R C) i=0:=λi=>rfl;have es:∀i,jS (mO R C) i=1:=λi=>rfl;have rA:∀i j,f7 (mO R C) i j=0:=λi j=>rfl;have Js:∀i j,iF (mO R C) i j=0:=λi j=>rfl;have N:∀n m,m∈(mO R C).out n->∃i,i<R/\n=i*C/\m = .dx i 0:=λn m h=>by
  have h:m∈(if n % C=0/\n<R*C then[cw.dx (n / C) 0]else[]):=h
  split at h
  case isFalse=>cases h
  rename_i bm
  rw[iR]at h;have M:=Nat.div_add_mod n C;rw[bm.1,m9,yM]at M;exact⟨n / C,by rw[OP I];omega,M.symm,h⟩
 have aBD:∀i,i<R->(mO R C).out (i*C)=[.dx i 0]:=λi A=>by show(if i*C % C=0/\i*C<R*C then[cw.dx (i*C / C) 0]else[])=_;rw[if_pos ⟨Nat.mul_mod_left i C,by have:=p2  A I;omega⟩,Nat.mul_div_cancel i I]
 refine⟨⟨⟨λi A=>⟨by show 0<=_;omega,λ_=>by show 0<=_;omega,λh=>by cases h⟩,ab,λi j _ _=>cB _,ab,ab,λi _=>cB _,λj _=>⟨0,Z,rfl⟩,⟨0,Z,rfl⟩,λi _ h=>by cases h⟩,λn m h=>?_,λn kx m h=>(by cases h),λm E=>?_,λn=>?_,ab,ab⟩,⟨λk p m h=>?_,ab,ab⟩⟩
 ·obtain⟨i,A,rfl,rfl⟩:=N n m h;exact⟨rfl,A,ab,ab⟩
 ·left
  cases m with
  |share i j t=>obtain⟨_,_,D,g,_⟩:=E;rw[Js]at D;have g:t<=0:=g;omega
  |spread i j t=>obtain⟨_,_,D,g⟩:=E;have g:t<=0:=g;omega
  |dw i j t=>obtain⟨_,_,D,g⟩:=E;have g:t<=0:=g;omega
  |dx i t =>
   obtain⟨A,D,g⟩:=E;rw[es]at g;rw[show t=0 by omega];show _∈(mO R C).out (i*C)
   grind
  |order i t=>obtain⟨_,D,g⟩:=E;have g:t<0:=g;omega
 ·show(if n % C=0/\n<R*C then[cw.dx (n / C) 0]else[]).Nodup
  grind
 ·obtain⟨i,A,rfl,rfl⟩:=N k m ab;rw[aBD i A]at h;cases p with
  |zero=>rw[if_neg J];simp[gZ,mN]
  |succ p=>grind
end
section
variable {R C aw:Nat} {x:gy} {cO:Nat->Nat->aa cw}
def cw.code:cw->Nat
 | .share i j _=>i*8+j
 | .spread i j _=>64+(i*8+j)
 | .dw i j _=>128+(i*8+j)
 | .dx i _=>192+i
 | .order i _=>200+i
theorem ana(dD:R<=8)(d5:C<=8)(h:np R C aw x m)(ac:np R C aw x bG)(e:m.code=bG.code):m=bG:=by
 cases m with
 |share i j t =>
  obtain⟨D,Z,M,_⟩:=h;cases bG with
  |share aL N I =>
   obtain⟨g,A,E,_⟩:=ac;simp only[cw.code]at e
   grind
  |_=>exfalso;obtain⟨g,A,_⟩:=ac;simp only[cw.code]at e;omega
 |spread i j t =>
  obtain⟨D,Z,M,_⟩:=h;cases bG with
  |spread aL N I =>
   obtain⟨g,A,E,_⟩:=ac;simp only[cw.code]at e
   grind
  |_=>exfalso;obtain⟨g,A,_⟩:=ac;simp only[cw.code]at e;omega
 |dw i j t =>
  obtain⟨D,Z,_,M,_⟩:=h;cases bG with
  |dw aL N I =>
   obtain⟨g,A,_,E,_⟩:=ac;simp only[cw.code]at e
   grind
  |_=>exfalso;obtain⟨g,A,_⟩:=ac;simp only[cw.code]at e;omega
 |dx i t =>
  obtain⟨D,M,_⟩:=h;cases bG with
  |dx aL I =>
   obtain⟨g,E,_⟩:=ac;simp only[cw.code]at e
   grind
  |_=>exfalso;obtain⟨g,A,_⟩:=ac;simp only[cw.code]at e;omega
 |order i t =>
  obtain⟨D,_,M,_⟩:=h;cases bG with
  |order aL I =>
   obtain⟨g,_,E,_⟩:=ac;simp only[cw.code]at e
   grind
  |_=>exfalso;obtain⟨g,A,_⟩:=ac;simp only[cw.code]at e;omega
theorem aqJ(A:R<=8)(D:C<=8)(h:np R C aw x m):m.code<208:=by
 cases m <;> (obtain⟨g,E,_⟩:=h;simp only[cw.code];omega)
theorem pv.len(H:pv R C aw x cO)(E:0<C)(I:R<=8)(M:C<=8)(n:Nat):(x.out n).length<=208:=by
 have A:∀m∈x.out n,np R C aw x m:=λm g=>DG H.ord E (H.d9 n m g).2;have:=Gv 208 ((x.out n).map cw.code) (yJ.2 ((H.kz n).imp_of_mem λN Z D e=>D (ana I M (A _ N) (A _ Z) e))) λc aU=>by obtain⟨m,g,rfl⟩:=fL.1 aU;exact aqJ I M (A m g)
 grind
def ui(R L:Nat)(a:Nat->Nat):Nat:=if ∀i,i<R->a i-1=L then L+1 else L
def vZ(R:Nat)(x:gy)(L:Nat):Prop:=(∀i,i<R->L<=max 1 (x.a i))/\∃i,i<R/\max 1 (x.a i)=L
theorem vZ.step{L:Nat}(H:vZ R x L)(O:Ord R C aw x)(I:np R C aw x m):vZ R (cT R C aw x m) (ui R L (cT R C aw x m).a):=by
 obtain⟨h1,g,N,al⟩:=H;have same:∀y:gy,y.a=x.a->vZ R y (ui R L y.a):=λy e=>by
  have bm:ui R L y.a=L:=by
   unfold ui
   grind
  rw[bm];exact⟨ab,g,N,ab⟩
 cases m with
 |share i j t=>obtain⟨_,_,e,_⟩:=Kt I;exact same _ e
 |spread i j t=>obtain⟨_,_,e,_⟩:=Km       ;exact same _ e
 |dw i j t=>obtain⟨_,_,_,_,e,_⟩:=Kl I;exact same _ e
 |dx i t=>obtain⟨_,_,_,_,e,_⟩:=Kw I;exact same _ e
 |order i t =>
  have g9:(cT R C aw x (.order i t)).a=up x.a i (x.a i+1):=rfl;have ai:i<R:=I.1;unfold vZ;rw[g9];have Z:∀k,k≠i->up x.a i (x.a i+1) k=x.a k:=λk hk=>hH hk;have a_s:up x.a i (x.a i+1) i=x.a i+1:=hx _ _ _
  by_cases A:∀k,k<R->up x.a i (x.a i+1) k-1=L
  ·have:ui R L (up x.a i (x.a i+1))=L+1:=if_pos A
   grind
  ·have:ui R L (up x.a i (x.a i+1))=L:=if_neg A;rw[this];refine⟨λk hk=>?_,?_⟩
   ·grind
   ·by_cases e:g=i
    ·subst e
     by_cases ap:x.a g=0
     ·grind
     ·obtain⟨D,M,eg⟩:∃D,D<R/\up x.a g (x.a g+1) D-1≠L:=vg ab;have E:D≠g:=ab
      rw[Z D E]at eg;have de:=O.bP D M;have bO:=O.bc g ai;have d6:jS x g<=x.a g+1:=by unfold jS;grind
      have fQ:x.V<=jR x g:=OZ _ _
      grind
    grind
theorem vZ.le{L:Nat}(H:vZ R x L)(O:Ord R C aw x):1<=L/\L<=aw+1:=by obtain⟨_,i,g,e⟩:=H;have:=(O.ap i g).1;omega
theorem vZ.fin{L:Nat}(H:vZ R x L)(h:∀i,i<R->x.a i=aw+1):L=aw+1:=by
 obtain⟨_,i,g,e⟩:=H
 grind
end
section
variable {P:Program} {s:ak} {f:FuncId} {args:aa X} {h:ad} {U:Nat} {K:bD}
theorem ee.lt{B:Nat}{ah:cd}{w:World}(D:ee B ah (u h) w)(A:kw ah U){o:fM}(e:u h b=some o):b<U:=by
 rcases jH b U with g|g
 ·exact g
 ·have:=D.fresh A b g
  grind
theorem aD.plain{v:X}(aI:vH v=true)(N:aD P false f args h U (λI ac _=>I=v/\az U h ac))(ha:K v h U):aD P s f args h U K :=
 lz.up ⟨N.1,λB ah w g E A dg n=>(N.2 B ah w g E A dg n).mono λe bj Z=>by obtain⟨I,ac,Y,bw,c,rfl,⟨rfl,hk⟩,D,M⟩:=Z;exact⟨I,h,U,ah,c,rfl,⟨rfl,rfl,rfl⟩,bE.back (A.sub M) (FX aI ah) D,M.forget E A λb o e=>by rw[hk b (E.lt A e)];exact e⟩⟩ ha
theorem aD.ny{val:Nat->X}{cs:aa X}(lA:ii cs=true)
  (E:∀(ah bw:cd) (b:Nat) (p:Place) (c:X),bw b=some p->ah U=some p->bE bw (val b) c->bE ah (val U) c)
  (aU:aD P false f args h U (λdG ac _=>∃b,dG=val b/\U<=b/\u ac b=some (.cells cs false)/\az U h ac)) (ha:K (val U) (F h U (.cells cs false)) (U+1)):aD P s f args h U K :=
 lz.up ⟨aU.1,λB ah w g ba bx dg n=>(aU.2 B ah w g ba bx dg n).mono λe bj bk=>by
  obtain⟨dG,ac,Y,bw,c,rfl,⟨b,rfl,aG,D,hk⟩,Z,hm⟩:=bk;have A:=hm.rel.nm b ab;obtain⟨p,N⟩:=nJ.1 A;have M:=hm.aqi ba bx (λb o e=>by rw[hk b (ba.lt bx e)];exact e) aG N D (by obtain⟨fD,hc,bL,ep,ed,da,hB,l2,tK,qF⟩:=hm.rel.obj b p _ N D;refine⟨fD,hc,bL,ep,ed,da,hB,l2,λi x aR=>?_,qF⟩;obtain⟨fY,e,aI⟩:=tK i x aR;have I:=Kr lA (jp aR);exact⟨fY,e,by rw[CZ I aI];exact FW I _⟩)
  refine⟨val U,F h U (.cells cs false),U+1,(λk=>if k=U then some p else ah k),c,rfl,⟨rfl,rfl,rfl⟩,E _ bw b p c N ab Z,?_⟩;have:u (F h U (.cells cs false))=(λk=>if k=U then some (fM.cells cs false)else u h k):=funext λk=>AE h U _ k;rw[this];exact M⟩ ha
theorem ZL{n k:Nat}(ah bw:cd)(b:Nat)(p:Place)(c:X)(A:bw b=some p)(g:ah U=some p)(D:bE bw (.slice (some ⟨b,0,some k⟩) n cap) c):bE ah (.slice (some ⟨U,0,some k⟩) n cap) c:=by
 cases D with
 |pf h e=>rw[A]at h;cases h;exact .pf g e _ _
 |pg=>exact .pg _ _ _ _ _
theorem YN{n k:Nat}{l1:IntKind}{i:Int}(ah bw:cd)(b:Nat)(p:Place)(c:X)(A:bw b=some p)(g:ah U=some p)(E:bE bw (.tuple ⟨[.slice (some ⟨b,0,some k⟩) n cap,.int l1 i]⟩) c):bE ah (.tuple ⟨[.slice (some ⟨U,0,some k⟩) n cap,.int l1 i]⟩) c:=by
 cases E with
 |tuple h=>cases h with
  |cons a t=>cases t with
   |cons D t=>cases t with
    |nil =>
     cases D;exact .tuple (.cons (ZL ah bw b p _ A g a) (.cons (.int _ _) .nil))
theorem aeN{r c:Nat}(A:u h r=some (.map es c))(g:K (bb U) (F h U (.iter (some r) c [] c)) (U+1)):dB (s2 h U (.map (some r))) K:=by unfold s2;simp only[A];exact g
theorem aeO{it r g cL:Nat}(M:u h it=some (.iter (some r) g seen cL))(I:u h r=some (.map es cL))(D:∀e∈es,e.born<cL)(N:g=cL)(E:leftOf seen es=[]->K (.tuple #[.bool false]) h U)(Z:∀e∈leftOf seen es,e∈es->K (.tuple #[.bool true,e.key,e.val]) (F h it (.iter (some r) g (seen++[e.born]) cL)) U):wb false h U (bb it) K :=
 ⟨it,r,g,cL,cL,seen,es,rfl,rfl,M,I,akz D,E,λe A=>⟨by rw[N];exact D e (F5 A).1,Z e A (F5 A).1⟩⟩
end
section
variable {ji:Type} [DecidableEq ji] {b0:ji->X} {L rest:aa (ji × X × Nat)} {h:ad} {U it r cL:Nat} {K:bD}
theorem PN{seen:aa Nat}:∀{L:aa (ji × X × Nat)} {e:ji × X × Nat},L.Pairwise (λa b=>a.2.2<b.2.2)->e∈L.filter (λe=>decide (e.2.2 ∉ seen)) ->
  (L.filter λe=>decide (e.2.2 ∉ seen)).Perm (e::L.filter λx=>decide (x.2.2 ∉ seen++[e.2.2]))
 | [],e,_,h=>by cases h
 |x::L,e,E,h=>by
  have A:∀y∈L,x.2.2<y.2.2:=λy D=>tR E D;have g:=OM E;rw[rK]at h;rw[rK,rK]
  by_cases M:x.2.2∈seen
  ·rw[if_neg ab]at h;rw[if_neg ab,if_neg ab];exact PN g h
  ·rw[if_pos ab]at h;rw[if_pos ab];rcases hf.1 h with rfl|h
   ·rw[if_neg ab];have:L.filter (λx=>decide (x.2.2 ∉ seen))=L.filter (λx=>decide (x.2.2 ∉ seen++[e.2.2])):=J3 λy D=>by
     have:=A y D
     grind
    rw[this]
   ·have I:=pV.1 h;have:=A e I.1;rw[if_pos ab];exact((PN g h).cons x).trans (List.Perm.swap ..)
theorem Pn(seen:aa Nat):∀L:aa (ji × X × Nat),leftOf seen (lN b0 L)=lN b0 (L.filter λe=>decide (e.2.2 ∉ seen))
 | []=>rfl
 |e::L=>by
  show leftOf seen (⟨b0 e.1,e.2.1,e.2.2⟩::lN b0 L)=_;rw[vr,Pn seen L,rK]
  by_cases g:e.2.2∈seen
  ·rw[if_pos g,if_neg ab]
  ·rw[if_neg g,if_pos ab];rfl
def xZ(h:ad)(it r:Nat)(cL:Nat)(L rest:aa (ji × X × Nat)):Prop:=∃seen,u h it=some (.iter (some r) cL seen cL)/\rest=L.filter λe=>decide (e.2.2 ∉ seen)
theorem xZ.T{ac:ad}(I:xZ h it r cL L rest)(A:u ac it=u h it):xZ ac it r cL L rest:=by obtain⟨seen,e,g⟩:=I;exact⟨seen,A.trans e,g⟩
theorem ju.jW(H:ju h r b0 L cL)(g:∀ac,xZ ac U r cL L L->(∀c,c≠U->u ac c=u h c)->K (bb U) ac (U+1)):dB (s2 h U (.map (some r))) K :=
 aeN H.at_ (g _ ⟨[],aN _ _ _,(Aq.2 (by simp)).symm⟩ λc A=>aq J)
theorem ju.fW(H:ju h r b0 L cL)(I:xZ h it r cL L rest)(eg:it≠r)(N:rest=[]->K (.tuple #[.bool false]) h U)
  (h1:∀e g ac,e∈L->rest.Perm (e::g)->xZ ac it r cL L g->(∀c,c≠it->u ac c=u h c)->w5 ac (bb it) = .ok (.tuple #[b0 e.1,e.2.1])->K (.tuple #[.bool true,b0 e.1,e.2.1]) ac U):
  wb false h U (bb it) K:=by
 obtain⟨seen,ai,rfl⟩:=I;obtain⟨D,Z⟩:=YH (Yl (b0:=b0) H.up H.lt);refine aeO ai H.at_ Z rfl (λe=>N ?_) λe E A=>?_
 ·rw[Pn]at e;unfold lN at e;exact List.map_eq_nil_iff.1 e
 ·rw[Pn]at E;obtain⟨x,M,rfl⟩:=fL.1 E;exact h1 x _ _ (pV.1 M).1 (PN H.up M) ⟨_,aN _ _ _,rfl⟩ (λc aU=>aq J) (Zy (aN _ _ _) ((aq J).trans H.at_) D A)
end
noncomputable section
def yp(b:ak)(p:Prop):Prop:=Bool.rec False p b
def TX(f:ad->R X)(v:X)(p:Prop):Nat->aa ad->Prop
 |0,_=>p
 |n+1,h::ar=>yp (nT v (f h)) (TX f v p n ar)
 |_+1,[]=>False
def U6(B:ob)(E:aa (Nat × aH))(R:aH)(n:Nat):aH:=Nat.rec (λ_ _ _=>False) (λ_ ev aE h U=>B aE h U ev E R) n
section
variable (P:Program) (iG:FuncId->aa X->ad->Nat->bD->Prop)
def TY(r:ff)(k:bD):Prop:=match r with
 | .call f args h U=>iG f args h U k
 |_=>False
def M9(e:wx)(aj:b8)(h:ad)(U:Nat)(k:bD):Prop:=match e with
 | .fW _=>False
 | .call f args=>ag (nW aj args) λl=>iG f l h U k
 | .Bb f args=>ag (dR aj f) λf=>ag (nW aj args) λl=>TY iG (jc h U l f) k
 | .inv r m args=>ag (nW aj args) λl=>ag (dR aj r) λv=>TY iG (p0 P h U l m v) k
 |e=>nB P true e aj h U k
def U7(d:av Nat)(i:nz)(aj:b8)(h:ad)(U:Nat)(k:b8->ad->Nat->Prop):Prop:=match i with
 | .fC e=>M9 P iG e aj h U λv h U=>k (et aj d (some v)) h U
 |i=>mh P true d i aj h U k
def Na(l:aa lD):b8->ad->Nat->(b8->ad->Nat->Prop)->Prop :=
 List.rec (motive:=λ_=>b8->ad->Nat->(b8->ad->Nat->Prop)->Prop) (λaj h U K=>K aj h U)
  (λi _ ev aj h U K=>lE i.g aj (λaj=>U7 P iG i.d i.k aj h U λaj h U=>ev aj h U K) (λaj=>ev (et aj i.d none) h U K)) l
def TZ(d:av Nat)(c:Nat)(i:nz)(aj:b8)(h:ad)(U:Nat)(b:ad)(ar:aa ad)(k:b8->ad->Nat->ad->aa ad->Prop):Prop:=match i with
 | .red e=>ag (pred P aj e b) λv=>TX (pred P aj e) v (k (et aj d (some v)) h U b ar) c ar
 | .fC (.st n a x)=>lQ P d c (.fC (.st n a x)) aj h U b ar k
 | .fC (.zC dU m key x)=>lQ P d c (.fC (.zC dU m key x)) aj h U b ar k
 | .fC e=>M9 P iG e aj h U λv ac Y=>yp (Nat.ble U Y) (k (et aj d (some v)) ac Y ac (b::ar))
 |i=>lQ P d c i aj h U b ar k
def Ii(l:aa lD):b8->ad->Nat->ad->aa ad->(b8->ad->Nat->Prop)->Prop :=
 List.rec (motive:=λ_=>b8->ad->Nat->ad->aa ad->(b8->ad->Nat->Prop)->Prop) (λaj h U _ _ K=>K aj h U)
  (λi _ ev aj h U b ar K=>lE i.g aj (λaj=>TZ P iG i.d i.c i.k aj h U b ar λaj h U b ar=>ev aj h U b ar K)
   (λaj=>Bool.rec (ev (et aj i.d none) h U b ar K) (ev (et aj i.d none) h U h (b::ar) K) (iS i.k))) l
def si(n:Nat)(eW:aa (aa Nat)):iE->Nat->b8->ad->Nat->ig->aa (Nat × ig)->ig->Prop
 | .skip,_,aj,h,U,N,_,_=>N aj h U
 | .exit id,_,aj,h,U,_,E,_=>jx E id aj h U
 | .ret,_,aj,h,U,_,_,R=>R aj h U
 | .scope c,i,aj,h,U,N,E,R=>si n eW c i aj h U N E R
 | .ta l,_,aj,h,U,N,_,_=>Na P iG l aj h U N
 | .Bl l,_,aj,h,U,N,_,_=>Ii P iG l aj h U h [] N
 | .yl _ _ _ _,_,_,_,_,_,_,_=>False
 | .seq a b,i,aj,h,U,N,E,R=>si n eW a i aj h U (λaj h U=>si n eW b (i+hh a) aj h U N E R) E R
 | .block id c,i,aj,h,U,N,E,R=>si n eW c i aj h U N ((id,N)::E) R
 | .cond x a b,i,aj,h,U,N,E,R=>(match x with
  | .v v=>bJ v (si n eW a i aj h U N E R) (si n eW b (i+hh a) aj h U N E R)
  | .t t=>(match hG aj t with
   |some (some v)=>bJ v (si n eW a i ((t,some (.bool true))::aj) h U N E R) (si n eW b (i+hh a) ((t,some (.bool false))::aj) h U N E R)
   |_=>False))
 | .loop c,i,aj,h,U,_,E,R=>lZ (ij eW i) aj λaE=>U6 (λaE h U N E R=>si n eW c (i+1) (nY (ij eW i) aE 0) h U (rb (ij eW i) N) (r3 (ij eW i) E) (rb (ij eW i) R))
   (rk (ij eW i) c E) (xN (ij eW i) c R) n aE h U
 | .no,_,_,_,_,_,_,_=>False
def ekF(n:Nat)(eW:aa (aa Nat))(f:FuncId)(args:aa X)(h:ad)(U:Nat)(K:bD):Prop:=match vJ P f with
 |some nE=>si P iG n eW nE.body 0 (s4 args 0) h U (tb P nE.res K) [] (tb P nE.res K)
 |none=>False
def Ij(aw:FuncId->aa (aa Nat))(dy:FuncId->av (aa X->ad->Nat->bD->Prop))(n m:Nat):FuncId->aa X->ad->Nat->bD->Prop :=
 Nat.rec (λ_ _ _ _ _=>False) (λ_ ev f args h U K=>match dy f with
  |some g=>g args h U K
  |none=>ekF P ev n (aw f) f args h U K) m
end
end
section
variable {P:Program} {iG:FuncId->aa X->ad->Nat->bD->Prop} {s:ak}
theorem DY{b:ak}(h:yp b p):b=true/\p:=by cases b <;> first|exact h.elim|exact⟨rfl,h⟩
theorem acW{f:ad->R X}{v:X}{p:Prop}:∀{n:Nat} {g:aa ad},TX f v p n g->py f v p n g
 |0,_,h=>h
 |_+1,[],h=>h
 |n+1,x::A,h=>⟨(DY h).1,acW (n:=n) (DY h).2⟩
theorem acX(g:∀f args h U K,iG f args h U K->aD P s f args h U K){r:ff}{k:bD}(h:TY iG r k):gB P s r k:=by
 cases r <;> first|exact g _ _ _ _ _ h|exact h.elim
theorem aeP(A:∀f args h U K,iG f args h U K->aD P s f args h U K){e:wx}{h:ad}{U:Nat}{k:bD}(g:M9 P iG e aj h U k):nB P s e aj h U k:=by
 cases e with
 |fW x=>exact g.elim
 |call f args=>exact ib g λ_ h=>A _ _ _ _ _ h
 |Bb f args=>exact ib g λ_ h=>ib h λ_ h=>acX A h
 |inv r m args=>exact ib g λ_ h=>ib h λ_ h=>acX A h
 |_=>exact g
theorem atM(A:∀f args h U K,iG f args h U K->aD P s f args h U K){i:nz}{h:ad}{U:Nat}{k:b8->ad->Nat->Prop}(g:U7 P iG d i aj h U k):mh P s d i aj h U k:=by
 cases i with
 |fC e=>rw[LA];exact aeP A g
 |fB e=>cases e <;> exact g
 |_=>exact g
theorem Sw(A:∀f args h U K,iG f args h U K->aD P s f args h U K):∀{l:aa lD} {aj:b8} {h:ad} {U:Nat} {k:b8->ad->Nat->Prop},Na P iG l aj h U k->nC P s l aj h U k
 | [],_,_,_,_,g=>g
 |i::l,aj,h,U,k,g=>by have g:lE i.g aj (λaj=>U7 P iG i.d i.k aj h U λaj h U=>Na P iG l aj h U k) (λaj=>Na P iG l (et aj i.d none) h U k):=g;rw[Lc];exact Di g (λ_ h=>Q4 (atM A h) λ_ _ _ h=>Sw A (l:=l) h) (λ_ h=>Sw A (l:=l) h)
theorem aqK(E:∀f args h U K,iG f args h U K->aD P true f args h U K){c:Nat}{i:nz}{h:ad}{U:Nat}{b:ad}{D:aa ad}{k:b8->ad->Nat->ad->aa ad->Prop}(A:TZ P iG d c i aj h U b D k):lQ P d c i aj h U b D k:=by
 have g:∀{e:wx},M9 P iG e aj h U (λv ac Y=>yp (Nat.ble U Y) (k (et aj d (some v)) ac Y ac (b::D)))->nB P true e aj h U λv ac Y=>U<=Y/\k (et aj d (some v)) ac Y ac (b::D):=
  λA=>Lb (aeP E A) λ_ _ _ h=>⟨l6 (DY h).1,(DY h).2⟩
 cases i with
 |red e=>exact ib A λv h=>by cases c <;> exact acW h
 |fC e =>
  cases e with
  |st n a x=>exact A
  |zC dU m g x=>exact A
  |_ =>
  rw[GN]
  first|exact g (e:=.fW _) A|exact g (e:=.jW _) A|exact g (e:=.call _ _) A|exact g (e:=.Bb _ _) A|exact g (e:=.app _ _ _) A|exact g (e:=.bi _ _ _) A|exact g (e:=.inv _ _ _) A
 |fB e=>cases e <;> exact A
 |_=>exact A
theorem Sx(D:∀f args h U K,iG f args h U K->aD P true f args h U K):∀{l:aa lD} {aj:b8} {h:ad} {U:Nat} {b:ad} {g:aa ad} {k:b8->ad->Nat->Prop},Ii P iG l aj h U b g k->hX P l aj h U b g k
 | [],_,_,_,_,_,_,A=>A
 |i::l,aj,h,U,b,g,k,A=>by
  have A:lE i.g aj (λaj=>TZ P iG i.d i.c i.k aj h U b g λaj h U b g=>Ii P iG l aj h U b g k)
   (λaj=>Bool.rec (Ii P iG l (et aj i.d none) h U b g k) (Ii P iG l (et aj i.d none) h U h (b::g) k) (iS i.k)):=A
  show lE i.g aj (λaj=>lQ P i.d i.c i.k aj h U b g λaj h U b g=>hX P l aj h U b g k)
   (λaj=>Bool.rec (hX P l (et aj i.d none) h U b g k) (hX P l (et aj i.d none) h U h (b::g) k) (iS i.k))
  refine Di A (λ_ h=>aaQ (aqK D h) λ_ _ _ _ _ h=>Sx D (l:=l) h) (λ_ h=>?_);cases E:iS i.k <;> rw[E]at h <;> exact Sx D (l:=l) h
theorem atN{B A:ob}{E:aa (Nat × aH)}{R:aH}(dZ:∀g h U N I,B g h U N E R->(∀g h U,N g h U->I g h U)->A g h U I E R){n:Nat}{g:aa X}{h:ad}{U:Nat}(Z:U6 B E R n g h U):bq A g h U E R:=by
 refine⟨λm g h U=>U6 B E R m g h U,n,Z,λm g h U D=>?_⟩;cases m with
 |zero=>exact D.elim
 |succ m=>exact dZ _ _ _ _ _ D λg h U M=>⟨m,J,M⟩
theorem atO(d5:∀s f args h U K,iG f args h U K->aD P s f args h U K){n:Nat}{Z:aa (aa Nat)}:∀(c:iE) {i:Nat} {aj:b8} {h:ad} {U:Nat} {N:ig} {E:aa (Nat × ig)} {R:ig},si P iG n Z c i aj h U N E R->fP P s Z c i aj h U N E R:=by
 intro c
 induction c with
 |skip=>intro i aj h U N E R g;exact g
 |exit id=>intro i aj h U N E R g;exact g
 |ret=>intro i aj h U N E R g;exact g
 |scope c I=>intro i aj h U N E R g;exact I g
 |ta l=>intro i aj h U N E R g;exact Sw (d5 s) g
 |Bl l=>intro i aj h U N E R g;exact Sx (d5 true) g
 |no=>intro i aj h U N E R g;exact g.elim
 |yl f bW a b=>intro i aj h U N E R g;exact g.elim
 |seq a b A D=>intro i aj h U N E R g;exact Q6 a (A g) (λ_ _ _ h=>D h) (λ_ _ _ _ h=>h) λ_ _ _ h=>h
 |block id c I=>intro i aj h U N E R g;exact I g
 |cond x a b A D =>
  intro i aj h U N E R g;cases x with
  |v v=>exact AQ g (λh=>A h) (λh=>D h)
  |t t =>
   simp only[si,fP]at g ⊢
   split at g
   ·rename_i e
    rw[e];exact AQ g (λh=>A h) (λh=>D h)
   ·exact g.elim
 |loop c I =>
  intro i aj h U N E R g;exact Dj g λM bg=>atN (λM h U N N' aG cU=>Q6 c (I aG) (λ_ _ _ h=>Dj h λM h=>cU _ _ _ h) (λ_ _ _ _ h=>h) λ_ _ _ h=>h) bg
theorem aeQ(M:ql P){aw:FuncId->aa (aa Nat)}{D:FuncId->av (aa X->ad->Nat->bD->Prop)}(Z:∀f g,D f=some g->∀args h U K,g args h U K->∀s,aD P s f args h U K){n:Nat}:
  ∀(m:Nat) (s:ak) (f:FuncId) (args:aa X) (h:ad) (U:Nat) (K:bD),Ij P aw D n m f args h U K->aD P s f args h U K
 |0,_,_,_,_,_,_,A=>A.elim
 |m+1,s,f,args,h,U,K,A=>by
  have A:(match D f with
   |some g=>g args h U K
   |none=>ekF P (Ij P aw D n m) n (aw f) f args h U K):=A
  cases I:D f with
  |some g=>rw[I]at A;exact Z f g I _ _ _ _ A s
  |none =>
   rw[I]at A;refine aD.oU M (aw f) ?_;have A:(match vJ P f with
    |some E=>si P (Ij P aw D n m) n (aw f) E.body 0 (s4 args 0) h U (tb P E.res K) [] (tb P E.res K)
    |none=>False):=A
   unfold nD;cases N:vJ P f with
   |none=>rw[N]at A;exact A
   |some E=>rw[N]at A;exact atO (λs f args h U K hk=>aeQ M Z m s f args h U K hk) _ A
theorem aD.home{f:FuncId}{h:ad}{U:Nat}{b:ak}{K:bD}(M:aD P false f [] ic 0 (λv _ _=>v = .bool b))(I:K (.bool b) h U):aD P s f [] h U K:=by
 refine lz.up ⟨M.1,λB ah w E ba bx Z n=>?_⟩ I;cases Z;have g:ee w.heap.size (λ_=>none) (u ic) w:=⟨cB _,λb p o h=>(by cases h),λb ck p eF h=>(by cases h),λb h=>by rw[KL]at h;cases h⟩
 refine(M.2 w.heap.size _ w [] g (λb _=>rfl) .nil n).mono λe bj N=>?_;obtain⟨v,ac,Y,bw,c,rfl,rfl,D,A⟩:=N;cases D;exact⟨_,h,U,ah,_,rfl,⟨rfl,rfl,rfl⟩,.bool _,cE.still ba A.size A.os A.tape A.output λk I=>A.frame k I (by rintro⟨b,p,aG,_⟩;cases aG)⟩
end
section
variable {B:Nat} {ah bw:cd} {H h6:fs} {w bj:World} {U Y:Nat}
end
section
variable {P:Program} {s:ak} {f:FuncId} {args:aa X} {h:ad} {U:Nat} {K:bD}
end
end Go.Ax
