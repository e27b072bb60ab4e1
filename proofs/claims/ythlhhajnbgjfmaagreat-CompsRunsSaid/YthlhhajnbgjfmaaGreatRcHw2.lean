/- Parts of the proof: Hw2: each statement bears its own conditions. -/
import Init
import Derived.Test.YthlhhajnbgjfmaaGreatRcHw1
namespace Go.Ax
open Go
set_option linter.all false
set_option maxHeartbeats 1000000
theorem Oc{az:Type}{g:az->aa X}{k:Nat}(E:∀x,(g x).length=k)(cs:aa X)(x:az):∀(l:aa az) (i:Nat),i<l.length->(bc g l++cs).take (i*k)++g x++(bc g l++cs).drop (i*k+k)=bc g (l.set i x)++cs
 | [],i,h=>ab
 |y::l,0,h=>by
  show(g y++bc g l++cs).take (0*k)++g x++(g y++bc g l++cs).drop (0*k+k)=(g x++bc g l)++cs
  grind
 |y::l,i+1,h=>by
  have A:=Oc E cs x l i ab;show(g y++bc g l++cs).take ((i+1)*k)++g x++(g y++bc g l++cs).drop ((i+1)*k+k)=(g y++bc g (l.set i x))++cs;have D:(i+1)*k=(g y).length+i*k:=ab
  have I:(i+1)*k+k=(g y).length+(i*k+k):=J
  rw[kv (g y),D,vA,List.take_length_add_append,Ig,kv (g y),kv (g y),A,kv]
end Go.Ax
namespace Go.Ax.HdH
open Go Go.Ax
set_option linter.all false
set_option maxHeartbeats 1000000
variable {i:Nat} {cs:aa X} {j n:Nat} {aO:aw Nat} {cap:Nat}
structure e2 where
 v:X
 w:Nat
 k:Int
 n:Nat
 l:aa (Nat × Int)
def eI(i:Nat):Nat:=(i-1) / 2
def ss(W:aa e2)(i j:Nat)(a b:e2):aa e2:=(W.set i b).set j a
structure nR (W:aa e2):Prop where
 up:∀(c:Nat) (x y:e2),0<c->W[eI c]? = some x->W[c]? = some y->x.k<=y.k
variable {W:aa e2} {a b p:e2}
theorem nR.min(h:nR W)(Z:W[0]? = some p):∀q∈W,p.k<=q.k:=by
 have N:∀(c:Nat) (y:e2),W[c]? = some y->p.k<=y.k:=by
  intro c
  induction c using Nat.strongRecOn with
  |_ c D =>
   intro y g
   by_cases M:c=0
   ·grind
   ·have E:eI c<c:=by unfold eI;omega
    have bb:=(hY.1 g).1;obtain⟨x,A⟩:∃x,W[eI c]? = some x:=⟨_,kL J⟩
    have h1:=D _ E x A;have ar:=h.up c x y J A g;omega
 intro q I;obtain⟨c,M⟩:=BC I
 grind
theorem Fz(A:W[i]? = some a)(D:W[j]? = some b)(g:i≠j)(q:Nat):(ss W i j a b)[q]? = if q=j then some a else if q=i then some b else W[q]?:=by
 unfold ss
 grind
theorem zz(W:aa e2)(i j:Nat)(a b:e2):(ss W i j a b).length=W.length:=by unfold ss;simp
theorem Jc(I:W[i]? = some a)(g:W[j]? = some b):(ss W i j a b).Perm W:=by
 have A:=(hY.1 I).1;have E:=(hY.1 g).1;have D:W[i]=a:=ab
 have M:W[j]=b:=ab
 rw[<-D,<-M];exact List.set_set_perm A E
structure uN (W:aa e2) (j:Nat):Prop where
 wI:∀(c:Nat) (x y:e2),0<c->c≠j->W[eI c]? = some x->W[c]? = some y->x.k<=y.k
 SL:∀(c:Nat) (x y:e2),0<j->0<c->eI c=j->W[eI j]? = some x->W[c]? = some y->x.k<=y.k
theorem uN.done(h:uN W j)(E:∀x y:e2,0<j->W[eI j]? = some x->W[j]? = some y->x.k<=y.k):nR W:=by
 refine⟨λc x y A g D=>?_⟩
 by_cases e:c=j
 ·grind
 ·exact h.wI c x y A e g D
theorem uN.step(h:uN W j)(b1:0<j)(Z:W[eI j]? = some a)(aT:W[j]? = some b)(cA:b.k<a.k):uN (ss W (eI j) j a b) (eI j):=by
 have bk:eI j<j:=by unfold eI;omega
 have I:eI j≠j:=J
 have N:=Fz Z aT I;refine⟨λc x y E hcj g A=>?_,λc x y M E tB g A=>?_⟩
 ·rw[N]at g A
  by_cases D:c=j
  ·grind
  ·rw[if_neg D,if_neg hcj]at A
   by_cases c2:eI c=j
   ·rw[if_pos c2]at g;cases g;exact h.SL c a y b1 E c2 Z A
   ·rw[if_neg c2]at g
    by_cases ci:eI c=eI j
    ·rw[if_pos ci]at g;cases g;have:=h.wI c a y E D ab A;omega
    ·rw[if_neg ci]at g;exact h.wI c x y E D g A
 ·have hpp:eI (eI j)<eI j:=by
   generalize eI j=q at *
   unfold eI;omega
  rw[N,if_neg J,if_neg J]at g;rw[N]at A;have h1:=h.wI (eI j) x a M I g Z
  by_cases D:c=j
  ·grind
  ·rw[if_neg D]at A
   by_cases c2:c=eI j
   ·grind
   ·rw[if_neg c2]at A;have:=h.wI c a y E D ab A;omega
theorem uN.push(h:nR W):uN (W++[p]) W.length:=by
 refine⟨λc x y E N A g=>?_,λc x y _ E I A g=>?_⟩
 ·have D:=(hY.1 g).1;rw[jm,List.length_singleton]at D;have M:eI c<c:=by unfold eI;omega
  rw[xf J]at A g;exact h.up c x y E A g
 ·have D:=(hY.1 g).1;rw[jm,List.length_singleton]at D;have M:eI c<c:=by unfold eI;omega
  omega
structure uA (W:aa e2) (n i:Nat):Prop where
 wI:∀(c:Nat) (x y:e2),0<c->c<n->eI c≠i->W[eI c]? = some x->W[c]? = some y->x.k<=y.k
 SL:∀(c:Nat) (x y:e2),0<i->0<c->c<n->eI c=i->W[eI i]? = some x->W[c]? = some y->x.k<=y.k
theorem uA.done(h:uA W n i)(I:∀(c:Nat) (x y:e2),0<c->c<n->eI c=i->W[i]? = some x->W[c]? = some y->x.k<=y.k):nR (W.take n):=by
 refine⟨λc x y D A g=>?_⟩;have E:=(hY.1 g).1;rw[p3]at E;have M:eI c<c:=by unfold eI;omega
 rw[xi,if_pos J]at A g
 by_cases e:eI c=i
 ·grind
 ·exact h.wI c x y D J e A g
theorem uA.step(h:uA W n i)(b1:0<j)(Z:j<n)(M:eI j=i)(cY:W[i]? = some a)(aT:W[j]? = some b)(cA:b.k<a.k)(bl:∀(c:Nat) (y:e2),0<c->c<n->eI c=i->W[c]? = some y->b.k<=y.k):uA (ss W i j a b) n j:=by
 have hij:i<j:=by rw[<-M];unfold eI;omega
 have E:=Fz cY aT (by omega:i≠j);refine⟨λc x y I D N A g=>?_,λc x y _ I D tB A g=>?_⟩
 ·rw[E,if_neg N]at A;rw[E]at g
  by_cases c1:eI c=i
  ·grind
  ·rw[if_neg c1]at A
   by_cases c2:c=j
   ·grind
   ·rw[if_neg c2]at g
    by_cases ci:c=i
    ·subst ci;rw[if_pos rfl]at g;cases g;exact h.SL j x b I b1 Z M A aT
    ·rw[if_neg ci]at g;exact h.wI c x y I D c1 A g
 ·have az1:eI c<c:=by unfold eI;omega
  rw[E,M,if_neg J,if_pos rfl]at A;cases A;rw[E,if_neg J,if_neg J]at g;exact h.wI c b y I D J ab g
theorem uA.pop(h:nR W)(bb:W.length=n+1)(cY:W[0]? = some a)(E:W[n]? = some b):uA (ss W 0 n a b) n 0:=by
 refine⟨λc x y N Z M A g=>?_,J⟩;have I:eI c<c:=by unfold eI;omega
 have D:=Fz cY E (by omega:0≠n);rw[D,if_neg J,if_neg M]at A;rw[D,if_neg J,if_neg J]at g;exact h.up c x y N A g
theorem alU{c:Nat}(g:0<c):eI c=i↔c=2*i+1\/c=2*i+2:=by unfold eI;omega
abbrev hd(p:e2):aa X:=[p.v,(p.w:X)]
structure oD (h:ae) (cf b:Nat) (aO:aw Nat) (cap:Nat) (W:aa e2) (cs bt:aa X):Prop where
 cell:u h cf=some (.cells (.slice (some ⟨b,0,aO⟩) W.length cap::bt) false)
 cm:u h b=some (.cells (bc hd W++cs) false)
 len:W.length*2+cs.length=cap*2
 G0:aO=none\/aO=some 2
 ne:b≠cf
theorem vK(p:e2):(hd p).length=2:=rfl
theorem JZ(g:W[i]? = some p):h0 (some 2) (i*2) (bc hd W++cs) = .ok (.agg ⟨[p.v,(p.w:X)]⟩):=by have A:=um (enc:=hd) vK g;have E:=(hY.1 g).1;have D:=gg (enc:=hd) vK (l:=W);rw[p6,if_pos ab,Ie J,If ab,A]
theorem aex(g:W[i]? = some p):(bc hd W++cs)[i*2]? = some p.v/\(bc hd W++cs)[i*2+1]? = some (p.w:X):=by
 have D:=(hY.1 g).1;have E:=gg (enc:=hd) vK (l:=W);rw[xf J,xf J];have A:=IS (enc:=hd) vK g (j:=0) J;have I:=IS (enc:=hd) vK g (j:=1) J
 grind
theorem apN{h:ae}{U b:Nat}(aT:u h b=some (.cells (bc hd W++cs) false))(bH:W.length=n)(bb:W.length*2+cs.length=cap*2)(Z:aO=none\/aO=some 2)(sp:b<U){b4 dO tm:Nat}{mf:aw Nat}{E:aa X}{bJ:al}(z:e2)(cZ:gS z.v=true)(ar:u h b4=some (.cells E bJ))(a1:(E.drop dO).take 2=hd z)(jH:n<100000):
  ∃I A g D ac Y,dT 2 h U (.slice (some ⟨b,0,aO⟩) n cap) (.slice (some ⟨b4,dO,mf⟩) 1 tm) = .ok (.val (.slice (some ⟨I,0,A⟩) (n+1) g) ac Y)/\u ac I=some (.cells (bc hd (W++[z])++D) false) /\
   (W++[z]).length*2+D.length=g*2/\(A=none\/A=some 2)/\(I=b\/I=U)/\U<=Y/\I<Y/\∀c,c≠b->c≠U->u ac c=u h c:=by
 have fW:2<=E.length-dO:=by
  have:=congrArg List.length a1
  grind
 have N:=gg (enc:=hd) vK (l:=W);unfold dT;simp only;rw[show Nat.mul 1 2=2 from rfl,s2 ar J fW,a1];unfold gT
 by_cases aZ:n+1<=cap
 ·rw[show Nat.ble (Nat.add n 1) cap=true from BA aZ];show ∃I A g D ac Y,R.bind (qb h b (Nat.add 0 (Nat.mul n 2)) (hd z)) _=_/\_;rw[show Nat.add 0 (Nat.mul n 2)=n*2 from iR _,ID aT (by show ea [z.v,(z.w:X)]=true;rw[qT,cZ];rfl) ab];refine⟨b,aO,cap,cs.drop 2,_,U,rfl,?_,ab,Z,.inl rfl,cD _,sp,λc h1 _=>ab⟩;rw[kW,if_pos rfl,rX];have aV:(bc hd W++cs).take (n*2)=bc hd W:=ab
  have aP:(bc hd W++cs).drop (n*2+(hd z).length)=cs.drop 2:=by rw[<-bH,<-N,vK,Ig]
  grind
 ·have rf:n=cap:=J
  have mK:cs=[]:=Bv J;subst mK;rw[hZ]at aT;rw[show Nat.ble (Nat.add n 1) cap=false from by
   cases aT:Nat.ble (Nat.add n 1) cap with
   |false=>rfl
   |true=>exact absurd (l0 aT) aZ]
  have aP:(Nat.ble (Nat.mul (Nat.add n 1) 2) 1000000&&Nat.ble (Nat.add n 1) 1000000)=true:=by
   simp only[eC,sW]
   grind
  rw[aP];show ∃I A g D ac Y,q8 h U 2 (some ⟨b,0,aO⟩) n cap (n+1) (hd z)=_/\_;unfold q8;simp only[vD aT];have M:na (Nat.mul n 2) (m6 (bc hd W) 0)=some (bc hd W):=by
   rw[rW,pb,q1,if_pos ab]
   grind
  rw[M];rcases Z with rfl|rfl
  ·refine⟨U,some 2,n+1,[],T h U (.cells (bc hd W++hd z) false),U+1,?_,?_,ab,.inr rfl,.inr rfl,J,J,λc _ ar=>ab⟩
   ·show qh h U 2 (kz (bc hd W) (hd z)) _=_;rw[ka];exact qY J
   ·rw[kW,if_pos rfl,rX,hZ]
  ·refine⟨U,some 2,n+1,[],T (x1 h b) U (.cells (bc hd W++hd z) false),U+1,?_,?_,ab,.inr rfl,.inr rfl,J,J,λc h1 ar=>by rw[kW,if_neg ar,sn,if_neg h1]⟩
   ·have ch:(!false&&Nat.beq 0 0&&Nat.beq (jo (bc hd W)) (Nat.mul n 2)&&Nat.beq 2 2&&Nat.beq n cap&&ea (hd z))=true:=by
     rw[ou,N,bH,rf];have aZ:ea (hd z)=true:=by show ea [z.v,(z.w:X)]=true;rw[qT,cZ];rfl
     rw[aZ];simp
    show(bif _ then _ else _)=_;rw[ch,ka];exact qY (s:=2) (Nat.succ_pos 1)
   ·rw[kW,if_pos rfl,rX,hZ]
theorem apO{b:Nat}(g:n+1<=cap):gW 2 (.slice (some ⟨b,0,aO⟩) (n+1) cap) none (some (n:X)) none = .ok (.slice (some ⟨b,0,aO⟩) n cap):=by
 show nN 2 (some ⟨b,0,aO⟩) cap false cap n 0=_;unfold nN;rw[show(Nat.ble cap cap&&(Nat.ble n cap&&Nat.ble 0 n))=true from by simp only[eC,sW];omega];show uy 2 (some ⟨b,0,aO⟩) false cap n 0=_;unfold uy;rw[show Nat.beq cap 0=false from by
  cases cap with
  |zero=>omega
  |succ c=>rfl]
 rfl
end Go.Ax.HdH
namespace Go.Ax
open Go
variable {j:Nat} {O:aa (Nat × Int)} {es:aa MapEntry} {t:Nat} {az:Type} {seen:aa Nat} {b:Nat} {d:aw Nat} {a:Nat} {ak:cc} {z:X} {ok:al} {cap:Nat} {p:Prop} {aG:Nat}
def jJ(r:Int)(l:aa (Nat × Int))(v:Nat):aw Int:=fi r (l.map λp=>if p.1=v then some p.2 else none)
theorem xF(r:Int)(l g:aa (Nat × Int))(v:Nat):jJ r (l++g) v=eY r (jJ r l v) (jJ r g v):=by unfold jJ;rw[iF,E9]
theorem Od{r:Int}{l g:aa (Nat × Int)}(h:l.Perm g)(v:Nat):jJ r l v=jJ r g v:=by exact Xe ab
theorem Cc(r:Int)(p:Nat × Int)(v:Nat):jJ r [p] v=if p.1=v then some p.2 else none:=by show eY r (if p.1=v then some p.2 else none) none=_;rw[qU]
theorem alV{r:Int}{l:aa (Nat × Int)}{v:Nat}(h:∀p∈l,p.1≠v):jJ r l v=none:=by
 refine xw λx g=>?_
 grind
def qy(r:Int)(O:aa (Nat × Int))(p:Nat × Int):aa (Nat × Int):=match O.getLast? with
 |some q=>if q.1=p.1 then O.dropLast++[(q.1,jI r q.2 p.2)]else O++[p]
 |none=>O++[p]
structure yx (r:Int) (O M:aa (Nat × Int)) (av:Nat->aw Int):Prop where
 up:O.Pairwise λx y=>x.1<y.1
 le:∀o∈O,∀p∈M,o.1<=p.1
 HP:∀v,eY r (jJ r O v) (jJ r M v)=av v
theorem yx.step{r:Int}{M A:aa (Nat × Int)}{av:Nat->aw Int}{p:Nat × Int}(H:yx r O M av)(bk:(p::A).Perm M)(bl:∀q∈M,p.1<=q.1):yx r (qy r O p) A av:=by
 have I:∀v,jJ r M v=eY r (if p.1=v then some p.2 else none) (jJ r A v):=λv=>by rw[<-Od bk,show p::A=[p]++A from rfl,xF,Cc]
 unfold qy;cases bb:O.getLast? with
 |none =>
  have:O=[]:=List.getLast?_eq_none_iff.1 bb;subst this;refine⟨ab,λo g q cM=>?_,λv=>?_⟩
  ·grind
  ·rw[<-H.HP v,I v,sU,Cc];show _=eY r none _;rw[ES]
 |some q =>
  obtain⟨O',j5⟩:=Ii.1 bb;subst j5;have cM:=H.le q ab;have D:=sS.1 H.up
  by_cases e:q.1=p.1
  ·simp only[if_pos e,List.dropLast_concat];refine⟨sS.2 ⟨D.1,ab,λa E b aT=>?_⟩,λo g N Z=>?_,λv=>?_⟩
   ·grind
   ·rcases hb.1 g with g|g
    ·exact H.le o ab N ab
    grind
   ·rw[<-H.HP v,I v,xF,xF,Cc,Cc,sY,sY]
    congr 1
    rw[<-sY]
    congr 1
    by_cases ec:q.1=v
    ·rw[if_pos ec,if_pos ec,if_pos J];rfl
    ·rw[if_neg ec,if_neg ec,if_neg J];rfl
  ·simp only[if_neg e];refine⟨sS.2 ⟨H.up,ab,λa E b aT=>?_⟩,λo g N Z=>?_,λv=>?_⟩
   ·rw[iP.1 aT];rcases hb.1 E with E|E
    ·have h1:=D.2.2 a E q ab
     grind
    grind
   ·rcases hb.1 g with g|g
    ·exact H.le o g N ab
    grind
   ·rw[<-H.HP v,I v,xF,Cc,sY]
theorem Qe{r:Int}:∀{O:aa (Nat × Int)},(O.Pairwise λx y=>x.1<y.1)->∀v x,jJ r O v=some x↔(v,x)∈O
 | [],_,v,x=>⟨nofun,ab⟩
 |p::O,h,v,x=>by
  have A:=t7.1 h;rw[show p::O=[p]++O from rfl,xF,Cc,hb,iP]
  by_cases e:p.1=v
  ·have g:jJ r O v=none:=alV ab;rw[if_pos e,g,qU]
   grind
  ·rw[if_neg e,ES,Qe A.2]
   grind
theorem yx.done{r:Int}{n:Nat}{av:Nat->aw Int}(H:yx r O [] av)(A:∀v,n<=v->av v=none):O=bj n av:=by
 have g:∀v,jJ r O v=av v:=λv=>by have:=H.HP v;rwa[show jJ r [] v=none from rfl,qU]at this
 refine Qd H.up λi x=>?_;rw[<-Qe  H.up,g]
 grind
set_option linter.all false
set_option maxHeartbeats 1000000
set_option linter.unusedSectionVars false
section
variable {P:Program}  {s:al} {f:FuncId} {l:aa X} {h:ae} {U:Nat} {v:X} {K:bP}
theorem aH.fR(H:aH P s f l h U (λr ac Y=>r=v/\ac=h/\Y=U))(g:K v h U):aH P s f l h U K:=H.mono λ_ _ _ ⟨a,b,c⟩=>by subst a b c;exact g
theorem aH.cn(H:aH P s f l h U (λr ac Y=>r=v/\aA U h ac/\U<=Y))(g:∀ac Y,aA U h ac->U<=Y->K v ac Y):aH P s f l h U K:=H.mono λ_ _ _ ⟨a,b,c⟩=>by subst a;exact g _ _ b c
end
structure wo {iL:Type} [DecidableEq iL] (P:Program) (dM:TypeId) (cn:iL->X):Prop where
 ok:∀k,xQ P dM (cn k)=true
 eq:∀a b,kP P dM (cn a) (cn b)=some (decide (a=b))
 same:∀k,nQ (cn k) (cn k)=true
theorem Oe{P:Program}{dM:Nat}(g:vN P dM=true):wo P dM (λx:Int=>(x:X)):=by
 have e:∀a b:Int,kP P dM (.int .i64 a) (.int .i64 b)=some (decide (a=b)):=λa b=>by show(bif mc .i64 .i64&&vN P dM then some (fz a b)else none)=_;rw[g,kN];rfl
 exact⟨λk=>by show(kP P dM (.int .i64 k) (.int .i64 k)).isSome=true;grind,e,λk=>by show(mc .i64 .i64&&fz k k)=true;rw[vH,kN];simp⟩
section
variable {iL:Type} [DecidableEq iL] {P:Program} {dM:TypeId} {cn:iL->X} {h:ae} {r c:Nat} {L:aa (iL × X × Nat)} {k:iL} {x v:X}
def lf(cn:iL->X)(L:aa (iL × X × Nat)):aa MapEntry:=L.map λe=>{ key:=cn e.1,val:=e.2.1,born:=e.2.2 }
structure iW (h:ae) (r:Nat) (cn:iL->X) (L:aa (iL × X × Nat)) (c:Nat):Prop where
 at_:u h r=some (.map (lf cn L) c)
 up:L.Pairwise λa b=>a.2.2<b.2.2
 lt:∀e∈L,e.2.2<c
 oQ:L.Pairwise λa b=>a.1≠b.1
theorem iW.F{ac:ae}(H:iW h r cn L c)(g:u ac r=u h r):iW ac r cn L c:={ H with at_:=g.trans H.at_ }
def iq(L:aa (iL × X × Nat))(k:iL):aw X:=(L.find? λe=>decide (k=e.1)).map (·.2.1)
theorem xx(e:iL × X × Nat):iq (e::L) k=if k=e.1 then some e.2.1 else iq L k:=by
 unfold iq
 grind
theorem Of{g:aa (iL × X × Nat)}:iq (L++g) k=(iq L k).or (iq g k):=by
 unfold iq
 grind
theorem ET:iq L k=none↔∀e∈L,k≠e.1:=by unfold iq;simp
theorem Jd(g:L.Pairwise λa b=>a.1≠b.1):iq L k=some v↔∃n,(k,v,n)∈L:=by
 induction L with
 |nil=>simp[iq]
 |cons e L A =>
  rw[t7]at g;rw[xx]
  grind
theorem Og(K:wo P dM cn):∀(L:aa (iL × X × Nat)) (i:Nat),iq L k=none->kx P dM (cn k) (lf cn L) i=some none
 | [],_,_=>rfl
 |e::L,i,h=>by have g:=ET.1 h;show(match kP P dM (cn k) (cn e.1)with|some true=>_|some false=>kx P dM (cn k) (lf cn L) (Nat.succ i)|none=>none)=_;rw[K.eq,hl (g e (nI ..))];exact Og K L _ (ET.2 ab)
theorem NH(K:wo P dM cn):∀(L:aa (iL × X × Nat)) (i:Nat),iq L k=some v->∃A n E,L=A++(k,v,n)::E/\kx P dM (cn k) (lf cn L) i=some (some (i+A.length,{ key:=cn k,val:=v,born:=n }))
 | [],_,h=>by cases h
 |e::L,i,h=>by
  have g:kx P dM (cn k) (lf cn (e::L)) i=(match kP P dM (cn k) (cn e.1)with|some true=>some (some (i,{ key:=cn e.1,val:=e.2.1,born:=e.2.2 }))|some false=>kx P dM (cn k) (lf cn L) (Nat.succ i)|none=>none):=rfl;rw[xx]at h
  by_cases D:k=e.1
  ·rw[if_pos D]at h;cases h;subst D;refine⟨[],e.2.2,L,rfl,?_⟩;rw[g,K.eq,g4 rfl];rfl
  ·rw[if_neg D]at h;obtain⟨A,n,E,M,I⟩:=NH K L (i+1) h;refine⟨e::A,n,E,ab,?_⟩;rw[g,K.eq,hl D]
   grind
theorem wp(K:wo P dM cn)(H:iW h r cn L c):jR P h dM z ok (.map (some r)) (cn k) = .ok (ow ok ((iq L k).getD z) (iq L k).isSome):=by
 unfold jR;rw[K.ok];show kQ h r (λes _=>match kx P dM (cn k) es 0 with|some (some (_,x))=>R.ok (ow ok x.val true)|some none=>.ok (ow ok z false)|none=>.no "lookup - key")=_;unfold kQ;rw[H.at_];simp only;cases g:iq L k with
 |none=>rw[Og K L 0 g];rfl
 |some v =>
  obtain⟨D,n,A,_,e⟩:=NH K L 0 g
  grind
theorem axT(H:iW h r cn L c):wg h (.map (some r)) = .ok (L.length:X):=by rw[as6];unfold kQ;rw[H.at_];show iV .i64 (.ofNat (jo (lf cn L)))=_;rw[ou];unfold lf;rw[gH];rfl
theorem Gy(K:wo P dM cn)(H:iW h r cn L c)(D:iq L k=none):mB P dM h (.map (some r)) (cn k) x = .ok (T h r (.map (lf cn (L++[(k,x,c)])) (c+1)))/\∀ac,u ac r=some (.map (lf cn (L++[(k,x,c)])) (c+1))->iW ac r cn (L++[(k,x,c)]) (c+1):=by
 constructor
 ·unfold mB;rw[K.ok];show kQ h r _=_;unfold kQ;rw[H.at_];simp only[Og K L 0 D,ka];unfold lf
  grind
 ·refine λac E=>⟨E,sS.2 ⟨H.up,ab,λa A b g=>?_⟩,λe I=>?_,sS.2 ⟨H.oQ,ab,λa A b g=>?_⟩⟩
  ·rw[iP.1 g];exact H.lt a A
  ·rcases hb.1 I with e|e
   ·have:=H.lt _ e;omega
   grind
  ·rw[iP.1 g];exact λe=>ET.1 D a A e.symm
theorem Gz{c:Nat}(g:u h r=some (.map [] c)):iW h r cn ([]:aa (iL × X × Nat)) c:=⟨g,.nil,ab,.nil⟩
theorem avT(K:wo P dM cn){n:Nat}(H:iW h r cn [(k,v,n)] c):mB P dM h (.map (some r)) (cn k) x = .ok (T h r (.map (lf cn [(k,x,n)]) c)):=by
 unfold mB;rw[K.ok];show kQ h r _=_;unfold kQ;rw[H.at_];obtain⟨A,m,E,g,D⟩:=NH  K [(k,v,n)] 0 (by rw[xx];exact if_pos rfl);simp only[D];cases A with
 |cons a l=>have:=congrArg List.length g;grind
 |nil =>
  cases g;rw[K.same];rfl
theorem VQ:∀{L:aa (iL × X × Nat)},L.Pairwise (λa b=>a.2.2<b.2.2)->(∀e∈L,e.2.2<c)->B8 c (lf cn L)=true
 | [],_,_=>rfl
 | [e],_,h=>by show(Nat.blt e.2.2 c&&true)=true;rw[Bool.and_true];exact(ov _ _).trans ab
 |e::f::L,g,h=>by rw[t7]at g;show(Nat.blt e.2.2 f.2.2&&B8 c (lf cn (f::L)))=true;rw[VQ g.2 ab,Bool.and_true];exact(ov _ _).trans ab
end
def hO(i:Nat):X:=(i:X)
theorem q0{P:Program}{dM:Nat}(g:vN P dM=true):wo P dM hO :=
 ⟨λk=>(Oe g).ok _,λa b=>by show kP P dM (a:X) (b:X)=_;rw[(Oe g).eq];congr 1;grind,λk=>(Oe  g).same _⟩
structure iy (h:ae) (r n:Nat) (K:Nat->al) (V:Nat->X->Prop):Prop where
 ex:∃L c,iW h r hO L c/\(∀e∈L,e.1<n/\V e.1 e.2.1)/\∀i,i<n->(K i=true↔∃e∈L,e.1=i)
section
variable {h ac:ae} {r n i:Nat} {K:Nat->al} {V UB:Nat->X->Prop} {P:Program} {x:X}
theorem iy.F(H:iy h r n K V)(I:u ac r=u h r)(g:∀i v,V i v->UB i v):iy ac r n K UB:=by obtain⟨L,c,E,M,A⟩:=H.ex;exact⟨L,c,E.F I,λe D=>⟨ab,g _ _ (M e D).2⟩,A⟩
theorem iy.get(H:iy h r n K V)(E:vN P 3=true)(A:i<n):∃v,jR P h 3 z ok (.map (some r)) (hO i) = .ok (ow ok (if K i=true then v else z) (K i))/\(K i=true->V i v):=by
 obtain⟨L,c,D,h1,M⟩:=H.ex;have e:=wp (q0 E) D (k:=i) (z:=z) (ok:=ok);cases g:iq L i with
 |none =>
  have N:K i=false:=by
   cases hk:K i with
   |false=>rfl
   |true =>
    obtain⟨y,Z,I⟩:=(M i A).1 hk;exact absurd I.symm (ET.1 g y Z)
  rw[g]at e;exact⟨z,ab,λh=>by rw[N]at h;cases h⟩
 |some v =>
  obtain⟨m,bl⟩:=(Jd D.oQ).1 g;rw[g]at e;exact⟨v,ab,λ_=>(h1 _ bl).2⟩
theorem iy.put(H:iy h r n K V)(D:vN P 3=true)(A:i<n)(ht:K i=false)(M:V i x):∃o,mB P 3 h (.map (some r)) (hO i) x = .ok (T h r o)/\∀ac,u ac r=some o->iy ac r n (λk=>if k=i then true else K k) V:=by
 obtain⟨L,c,hV,h1,E⟩:=H.ex;have I:iq L i=none:=ET.2 ab;obtain⟨aV,N⟩:=Gy  (q0 D) hV I;refine⟨_,aV,λac Z=>⟨_,_,N ac Z,λe g=>?_,λk hk=>?_⟩⟩
 ·rcases hb.1 g with g|g
  ·exact h1 e g
  ·rw[iP.1 g];exact⟨A,M⟩
 ·by_cases e:k=i
  ·subst e;rw[if_pos rfl];exact⟨λ_=>⟨_,hb.2 (.inr (iP.2 rfl)),rfl⟩,ab⟩
  ·rw[if_neg e,E k hk];constructor
   ·rintro⟨y,ce,ch⟩;grind
   grind
theorem iy.no{c:Nat}(A:u h r=some (.map [] c)):iy h r n (λ_=>false) V:=⟨[],c,Gz A,λe g=>(sT g).elim,ab⟩
theorem Fa:∀(n:Nat) (l:aa Nat),l.Nodup->(∀x∈l,x<n)->l.length<=n
 |0,[],_,_=>ab
 |0,x::l,_,h=>absurd (h x ab) J
 |n+1,l,g,h=>by
  have A:=Fa n (l.erase n) ab ab
  grind
theorem acv:∀(n:Nat) (l:aa Nat),(∀i,i<n->i∈l)->n<=l.length
 |0,_,_=>J
 |n+1,l,h=>by
  have g:=acv n (l.erase n) ab
  grind
theorem ajt{n:Nat}{l:aa Nat}(E:l.Nodup)(h:∀x∈l,x<n):(l.length<n↔∃i,i<n/\i ∉ l):=by
 constructor
 ·intro I;apply vw;intro D;have:=acv n l ab;omega
 ·rintro⟨i,A,g⟩;have:=Fa n (i::l) ab ab
  grind
theorem iy.len(H:iy h r n K V):∃m:Nat,wg h (.map (some r)) = .ok (m:X)/\m<=n/\(m<n↔∃i,i<n/\K i=false):=by
 obtain⟨L,c,E,N,M⟩:=H.ex;have g:(L.map (·.1)).Nodup:=xj.2 E.oQ;have D:∀x∈L.map (·.1),x<n:=ab
 have A:=Fa n _ g D;have I:=ajt g D;rw[gH]at A I;refine⟨L.length,axT E,A,ab⟩
 all_goals grind
end
inductive cr where
 |share (i j t:Nat)
 |spread (i j t:Nat)
 |dw (i j t:Nat)
 |dx (i t:Nat)
 |order (i t:Nat)
def cr.src(C:Nat):cr->Nat
 | .share i _ _=>i*C
 | .spread _ j _=>j
 | .dw i j _=>i*C+j
 | .dx i _=>i*C
 | .order _ _=>0
def cr.dst(C:Nat):cr->Nat
 | .share _ j _=>j
 | .spread i j _=>i*C+j
 | .dw i _ _=>i*C
 | .dx _ _=>0
 | .order i _=>i*C
def hn(b:al):Nat:=if b then 1 else 0
variable {m bC:cr}
theorem Q1:hn false=0:=rfl
theorem Qf(b:al):hn b<=1:=by cases b <;> decide
def up{az:Type}(f:Nat->az)(i:Nat)(x:az):Nat->az:=λn=>if n=i then x else f n
theorem gV(f:Nat->az)(i:Nat)(x:az):up f i x i=x:=if_pos rfl
theorem g6{f:Nat->az}{i n:Nat}{x:az}(h:n≠i):up f i x n=f n:=if_neg h
def lH:Nat->al:=λ_=>false
def mD(n:Nat)(K:Nat->al):Prop:=∀i,i<n->K i=true
instance (n:Nat) (K:Nat->al):Decidable (mD n K):=by unfold mD;exact inferInstance
theorem Oh{n:Nat}{K:Nat->al}(h:¬mD n K):∃i,i<n/\K i=false:=by
 unfold mD at h
 grind
structure f6 where
 P:Nat->Nat
 e3:Nat->Nat->al
 q:Nat->Nat->Nat
 a:Nat->Nat
 dP:Nat->Nat->al
 w:Nat->al
 V:Nat
 fL:Nat->al
 out:Nat->aa cr
section
variable (R C av:Nat) (x:f6)
def h5(i j:Nat):Nat:=x.P j+hn (x.e3 j i)
def fM(i j:Nat):Nat:=if x.w i=true then x.a i else x.a i-1+hn (x.dP i j)
def ji(i:Nat):Nat:=x.V+hn (x.fL i)
def jj(i:Nat):Nat:=if x.w i=true then x.a i+1 else x.a i
structure Ord:Prop where
 au:∀i,i<R->x.a i<=av+1/\(x.w i=true->x.a i<=av)/\(x.w i=false->1<=x.a i)
 h1:∀i j,i<R->j<C->h5 x i j<=x.a i/\h5 x i j<=av
 ar:∀i j,i<R->j<C->x.q i j<=x.P j
 aL:∀i j,i<R->j<C->fM x i j<=x.q i j
 bm:∀i,i<R->ji x i<=jj x i
 b3:∀i,i<R->x.a i<=x.V
 bh:∀j,j<C->∃i,i<R/\x.e3 j i=false
 bX:∃i,i<R/\x.fL i=false
 bS:∀i,i<R->x.w i=false->x.a i<=av->∃j,j<C/\x.dP i j=false
def gn:cr->Prop
 | .share i j t=>i<R/\j<C/\h5 x i j<t/\t<=x.a i/\t<=av
 | .spread i j t=>i<R/\j<C/\x.q i j<t/\t<=x.P j
 | .dw i j t=>i<R/\j<C/\fM x i j<t/\t<=x.q i j
 | .dx i t=>i<R/\ji x i<=t/\t<jj x i
 | .order i t=>i<R/\x.a i<=t/\t<x.V
def mL:cr->Prop
 | .share i j t=>i<R/\j<C/\t=x.P j+1/\x.e3 j i=false/\t<=av
 | .spread i j t=>i<R/\j<C/\t=x.q i j+1/\t<=av
 | .dw i j t=>i<R/\j<C/\x.w i=false/\t=x.a i/\1<=t/\t<=av/\x.dP i j=false
 | .dx i t=>i<R/\t=x.V/\x.fL i=false/\t<=av
 | .order i t=>i<R/\x.w i=true/\t=x.a i/\t<=av
def dU:cr->aa cr
 | .share i j t=>if mD R (up (x.e3 j) i true)then(List.range R).map λk=>.spread k j t else[]
 | .spread i j t=>[.dw i j t]
 | .dw i j t=>if mD C (up (x.dP i) j true)then[.dx i t]else[]
 | .dx i t=>if mD R (up x.fL i true)then(List.range R).map λk=>.order k t else[]
 | .order i t=>if t<av then(List.range C).map λk=>.share i k (t+1)else[]
def Ad:cr->f6
 | .share i j _=>if mD R (up (x.e3 j) i true)then{ x with P:=up x.P j (x.P j+1),e3:=up x.e3 j lH }else{ x with e3:=up x.e3 j (up (x.e3 j) i true) }
 | .spread i j _=>{ x with q:=up x.q i (up (x.q i) j (x.q i j+1)) }
 | .dw i j _=>if mD C (up (x.dP i) j true)then{ x with dP:=up x.dP i (up (x.dP i) j true),w:=up x.w i true }else{ x with dP:=up x.dP i (up (x.dP i) j true) }
 | .dx i _=>if mD R (up x.fL i true)then{ x with V:=x.V+1,fL:=lH }else{ x with fL:=up x.fL i true }
 | .order i _=>{ x with a:=up x.a i (x.a i+1),w:=up x.w i false,dP:=up x.dP i lH }
def cO(m:cr):f6:={ Ad R C x m with out:=up x.out (m.dst C) (x.out (m.dst C)++dU R C av x m) }
end
section
variable {R C av:Nat} {x:f6}
theorem avU(i j:Nat)(H:Ord R C av x)(g:i<R):jj x i<=1+fM x i j/\fM x i j<=x.a i:=by
 have:=H.au i g;unfold jj fM;cases A:x.w i with
 |true=>grind
 |false =>
  have:=Qf (x.dP i j)
  grind
theorem Ki{i:Nat}(g:x.w i=false):fM x i j=x.a i-1+hn (x.dP i j):=by unfold fM;grind
theorem axU{i:Nat}(g:x.w i=true):fM x i j=x.a i:=by unfold fM;grind
theorem xS{i:Nat}(g:x.w i=false):jj x i=x.a i:=by unfold jj;grind
theorem C7{i:Nat}(g:x.w i=true):jj x i=x.a i+1:=by unfold jj;grind
theorem Ord.kA(H:Ord R C av x){i g:Nat}(E:i<R)(ac:aG<R)(D:g<R)(A:j<C):
  x.a i<=x.V/\x.V<=ji x aG/\ji x aG<=x.V+1/\ji x aG<=jj x aG/\jj x aG<=1+fM x aG j/\fM x aG j<=x.q aG j/\x.q aG j<=x.P j/\x.P j<=h5 x g j/\h5 x g j<=x.P j+1/\h5 x g j<=x.a g/\h5 x g j<=av/\x.a i<=av+1:=by have aB:=H.b3 i E;have a2:=H.bm aG ac;have N:=avU aG j H ac;have aY:=H.aL aG j ac A;have Z:=H.ar aG j ac A;have M:=H.h1 g j D A;have ba:=Qf (x.fL aG);have bx:=Qf (x.e3 j g);have aV:ji x aG=x.V+hn (x.fL aG):=rfl;have I:h5 x g j=x.P j+hn (x.e3 j g):=rfl;omega
theorem Q2{b:al}(h:hn b=0):b=false:=by cases b with|false=>rfl|true=>cases h
theorem Ct(H:Ord R C av x)(Z:0<C)(M:gn R C av x m):mL R C av x m:=by
 cases m with
 |share i j t =>
  obtain⟨g,D,I,N,aL⟩:=M;have b:=H.kA g g g D;have aP:h5 x i j=x.P j+hn (x.e3 j i):=rfl;have E:hn (x.e3 j i)=0:=J
  exact⟨g,D,J,Q2 E,aL⟩
 |spread i j t =>
  obtain⟨g,D,I,N⟩:=M;have b:=H.kA g g g D;exact⟨g,D,J,J⟩
 |dw i j t =>
  obtain⟨g,D,I,N⟩:=M;have b:=H.kA g g g D;cases A:x.w i with
  |true=>rw[axU A]at I;omega
  |false =>
   have e:=Ki (j:=j) A;have E:hn (x.dP i j)=0:=J
   exact⟨g,D,A,J,J,J,Q2 E⟩
 |dx i t =>
  obtain⟨g,I,N⟩:=M;have b:=H.kA g g g Z;have aP:ji x i=x.V+hn (x.fL i):=rfl;have E:hn (x.fL i)=0:=J
  cases A:x.w i with
  |true=>rw[C7 A]at *;exact⟨g,J,Q2 E,J⟩
  |false=>rw[xS A]at *;exact⟨g,J,J,J⟩
 |order i t =>
  obtain⟨g,I,N⟩:=M;have b:=H.kA g g g Z;cases A:x.w i with
  |true=>rw[C7 A]at *;exact⟨g,A,J,J⟩
  |false=>rw[xS A]at *;omega
end
section
variable {R C av:Nat} {x:f6}
theorem IP{i:Nat}(h:mL R C av x (.share i j t)):
  (∀aG g,aG<R->h5 (cO R C av x (.share i j t)) aG g=h5 x aG g+if aG=i/\g=j then 1 else 0) /\
  (cO R C av x (.share i j t)).q=x.q/\(cO R C av x (.share i j t)).a=x.a/\(cO R C av x (.share i j t)).dP=x.dP/\(cO R C av x (.share i j t)).w=x.w/\(cO R C av x (.share i j t)).V=x.V/\(cO R C av x (.share i j t)).fL=x.fL /\
  (∀g,g≠j->(cO R C av x (.share i j t)).P g=x.P g/\(cO R C av x (.share i j t)).e3 g=x.e3 g) /\
  ((mD R (up (x.e3 j) i true)/\(cO R C av x (.share i j t)).P j=x.P j+1/\(cO R C av x (.share i j t)).e3 j=lH/\dU R C av x (.share i j t)=(List.range R).map λk=>.spread k j t) \/
   (¬mD R (up (x.e3 j) i true)/\(cO R C av x (.share i j t)).P j=x.P j/\(cO R C av x (.share i j t)).e3 j=up (x.e3 j) i true/\dU R C av x (.share i j t)=[])):=by
 obtain⟨aj,b1,ck,Z,_⟩:=h
 by_cases N:mD R (up (x.e3 j) i true)
 ·rw[show cO R C av x (.share i j t)={ ({ x with P:=up x.P j (x.P j+1),e3:=up x.e3 j lH }:f6)with out:=up x.out (cr.dst C (cr.share i j t)) (x.out (cr.dst C (cr.share i j t))++dU R C av x (.share i j t)) } by unfold cO Ad;grind];have M:dU R C av x (.share i j t)=(List.range R).map λk=>cr.spread k j t:=by unfold dU;grind
  rw[M];refine⟨λaG g I=>?_,rfl,rfl,rfl,rfl,rfl,rfl,λg A=>⟨g6 A,g6 A⟩,.inl ⟨N,gV _ _ _,gV _ _ _,rfl⟩⟩;show up x.P j (x.P j+1) g+hn (up x.e3 j lH g aG)=x.P g+hn (x.e3 g aG)+_
  by_cases D:g=j
  ·subst D;rw[gV,gV]
   by_cases E:aG=i
   ·subst E;rw[Z];simp[lH,hn]
   ·have:=N aG I;rw[g6 E]at this;rw[this,if_neg (λh=>E h.1)];simp[lH,hn]
  ·rw[g6 D,g6 D,if_neg (λh=>D h.2)];rfl
 ·rw[show cO R C av x (.share i j t)={ ({ x with e3:=up x.e3 j (up (x.e3 j) i true) }:f6)with out:=up x.out (cr.dst C (cr.share i j t)) (x.out (cr.dst C (cr.share i j t))++dU R C av x (.share i j t)) } by unfold cO Ad;grind];have M:dU R C av x (.share i j t)=[]:=by unfold dU;grind
  rw[M];refine⟨λaG g I=>?_,rfl,rfl,rfl,rfl,rfl,rfl,λg A=>⟨rfl,g6 A⟩,.inr ⟨N,rfl,gV _ _ _,rfl⟩⟩;show x.P g+hn (up x.e3 j (up (x.e3 j) i true) g aG)=x.P g+hn (x.e3 g aG)+_
  by_cases D:g=j
  ·subst D;rw[gV]
   by_cases E:aG=i
   ·subst E;rw[Z,gV];simp[hn]
   ·rw[g6 E,if_neg (λh=>E h.1)];rfl
  ·rw[g6 D,if_neg (λh=>D h.2)];rfl
theorem IG{i:Nat}(h:mL R C av x (.dw i j t)):
  (∀aG g,g<C->fM (cO R C av x (.dw i j t)) aG g=fM x aG g+if aG=i/\g=j then 1 else 0) /\
  (cO R C av x (.dw i j t)).P=x.P/\(cO R C av x (.dw i j t)).e3=x.e3/\(cO R C av x (.dw i j t)).q=x.q/\(cO R C av x (.dw i j t)).a=x.a/\(cO R C av x (.dw i j t)).V=x.V/\(cO R C av x (.dw i j t)).fL=x.fL /\
  (∀aG,aG≠i->(cO R C av x (.dw i j t)).w aG=x.w aG/\(cO R C av x (.dw i j t)).dP aG=x.dP aG) /\
  ((mD C (up (x.dP i) j true)/\(cO R C av x (.dw i j t)).w i=true/\dU R C av x (.dw i j t)=[.dx i t]) \/
   (¬mD C (up (x.dP i) j true)/\(cO R C av x (.dw i j t)).w i=false/\(cO R C av x (.dw i j t)).dP i=up (x.dP i) j true/\dU R C av x (.dw i j t)=[])):=by
 obtain⟨aj,b1,N,ck,h1,_,a6⟩:=h
 by_cases Z:mD C (up (x.dP i) j true)
 ·rw[show cO R C av x (.dw i j t)={ ({ x with dP:=up x.dP i (up (x.dP i) j true),w:=up x.w i true }:f6)with out:=up x.out (cr.dst C (cr.dw i j t)) (x.out (cr.dst C (cr.dw i j t))++dU R C av x (.dw i j t)) } by unfold cO Ad;grind];have M:dU R C av x (.dw i j t)=[cr.dx i t]:=by unfold dU;grind
  rw[M];refine⟨λaG g I=>?_,rfl,rfl,rfl,rfl,rfl,rfl,λaG A=>⟨g6 A,g6 A⟩,.inl ⟨Z,gV _ _ _,rfl⟩⟩;show(if up x.w i true aG=true then x.a aG else x.a aG-1+hn (up x.dP i (up (x.dP i) j true) aG g))=(if x.w aG=true then x.a aG else x.a aG-1+hn (x.dP aG g))+_
  by_cases E:aG=i
  ·subst E;simp only[gV,N,if_true,nH,fa,true_and]
   by_cases D:g=j
   ·subst D;rw[a6];simp[hn];omega
   ·have:=Z g I;rw[g6 D]at this;rw[this,if_neg D];simp[hn];omega
  ·simp only[g6 E,E,false_and,fa];rfl
 ·rw[show cO R C av x (.dw i j t)={ ({ x with dP:=up x.dP i (up (x.dP i) j true) }:f6)with out:=up x.out (cr.dst C (cr.dw i j t)) (x.out (cr.dst C (cr.dw i j t))++dU R C av x (.dw i j t)) } by unfold cO Ad;grind];have M:dU R C av x (.dw i j t)=[]:=by unfold dU;grind
  rw[M];refine⟨λaG g I=>?_,rfl,rfl,rfl,rfl,rfl,rfl,λaG A=>⟨rfl,g6 A⟩,.inr ⟨Z,N,gV _ _ _,rfl⟩⟩;show(if x.w aG=true then x.a aG else x.a aG-1+hn (up x.dP i (up (x.dP i) j true) aG g))=(if x.w aG=true then x.a aG else x.a aG-1+hn (x.dP aG g))+_
  by_cases E:aG=i
  ·subst E;simp only[gV,N,nH,fa,true_and]
   by_cases D:g=j
   ·subst D;rw[a6,gV];simp[hn]
   ·rw[g6 D,if_neg D];rfl
  ·simp only[g6 E,E,false_and,fa];rfl
theorem IT{i:Nat}(h:mL R C av x (.dx i t)):
  (∀aG,aG<R->ji (cO R C av x (.dx i t)) aG=ji x aG+if aG=i then 1 else 0) /\
  (cO R C av x (.dx i t)).P=x.P/\(cO R C av x (.dx i t)).e3=x.e3/\(cO R C av x (.dx i t)).q=x.q/\(cO R C av x (.dx i t)).a=x.a/\(cO R C av x (.dx i t)).dP=x.dP/\(cO R C av x (.dx i t)).w=x.w /\
  ((mD R (up x.fL i true)/\(cO R C av x (.dx i t)).V=x.V+1/\(cO R C av x (.dx i t)).fL=lH/\dU R C av x (.dx i t)=(List.range R).map λk=>.order k t) \/
   (¬mD R (up x.fL i true)/\(cO R C av x (.dx i t)).V=x.V/\(cO R C av x (.dx i t)).fL=up x.fL i true/\dU R C av x (.dx i t)=[])):=by
 obtain⟨N,M,E,_⟩:=h
 by_cases I:mD R (up x.fL i true)
 ·rw[show cO R C av x (.dx i t)={ ({ x with V:=x.V+1,fL:=lH }:f6)with out:=up x.out (cr.dst C (cr.dx i t)) (x.out (cr.dst C (cr.dx i t))++dU R C av x (.dx i t)) } by unfold cO Ad;grind];have D:dU R C av x (.dx i t)=(List.range R).map λk=>cr.order k t:=by unfold dU;grind
  rw[D];refine⟨λaG A=>?_,rfl,rfl,rfl,rfl,rfl,rfl,ab⟩;show x.V+1+hn (lH aG)=x.V+hn (x.fL aG)+_
  by_cases g:aG=i
  ·subst g;rw[E];simp[lH,hn]
  ·have:=I aG A;rw[g6 g]at this;rw[this,if_neg g];simp[lH,hn]
 ·rw[show cO R C av x (.dx i t)={ ({ x with fL:=up x.fL i true }:f6)with out:=up x.out (cr.dst C (cr.dx i t)) (x.out (cr.dst C (cr.dx i t))++dU R C av x (.dx i t)) } by unfold cO Ad;grind];have D:dU R C av x (.dx i t)=[]:=by unfold dU;grind
  rw[D];refine⟨λaG A=>?_,rfl,rfl,rfl,rfl,rfl,rfl,ab⟩;show x.V+hn (up x.fL i true aG)=x.V+hn (x.fL aG)+_
  by_cases g:aG=i
  ·subst g;rw[E,gV];simp[hn]
  ·rw[g6 g,if_neg g];rfl
theorem IH{i:Nat}:
  (cO R C av x (.spread i j t)).P=x.P/\(cO R C av x (.spread i j t)).e3=x.e3/\(cO R C av x (.spread i j t)).a=x.a/\(cO R C av x (.spread i j t)).dP=x.dP/\(cO R C av x (.spread i j t)).w=x.w/\(cO R C av x (.spread i j t)).V=x.V/\(cO R C av x (.spread i j t)).fL=x.fL /\
  (cO R C av x (.spread i j t)).q i j=x.q i j+1/\(∀aG g,¬(aG=i/\g=j)->(cO R C av x (.spread i j t)).q aG g=x.q aG g)/\dU R C av x (.spread i j t)=[.dw i j t]:=by
 refine⟨rfl,rfl,rfl,rfl,rfl,rfl,rfl,?_,λaG g D=>?_,rfl⟩
 ·show up x.q i (up (x.q i) j (x.q i j+1)) i j=_;rw[gV,gV]
 ·show up x.q i (up (x.q i) j (x.q i j+1)) aG g=_
  by_cases A:aG=i
  ·subst A;rw[gV,g6 J]
  ·rw[g6 A]
theorem No{i:Nat}(h:mL R C av x (.order i t)):
  (cO R C av x (.order i t)).P=x.P/\(cO R C av x (.order i t)).e3=x.e3/\(cO R C av x (.order i t)).q=x.q/\(cO R C av x (.order i t)).V=x.V/\(cO R C av x (.order i t)).fL=x.fL /\
  (∀aG g,fM (cO R C av x (.order i t)) aG g=fM x aG g)/\(∀aG,jj (cO R C av x (.order i t)) aG=jj x aG)/\(cO R C av x (.order i t)).a i=x.a i+1/\(cO R C av x (.order i t)).w i=false/\(cO R C av x (.order i t)).dP i=lH /\
  (∀aG,aG≠i->(cO R C av x (.order i t)).a aG=x.a aG/\(cO R C av x (.order i t)).w aG=x.w aG/\(cO R C av x (.order i t)).dP aG=x.dP aG) /\
  dU R C av x (.order i t)=if t<av then(List.range C).map λk=>.share i k (t+1)else[]:=by
 obtain⟨I,D,E,_⟩:=h;refine⟨rfl,rfl,rfl,rfl,rfl,λaG g=>?_,λaG=>?_,gV _ _ _,gV _ _ _,gV _ _ _,λaG h=>⟨g6 h,g6 h,g6 h⟩,rfl⟩
 ·show(if up x.w i false aG=true then up x.a i (x.a i+1) aG else up x.a i (x.a i+1) aG-1+hn (up x.dP i lH aG g))=if x.w aG=true then x.a aG else x.a aG-1+hn (x.dP aG g)
  by_cases A:aG=i
  ·subst A;simp[gV,D,lH,hn]
  ·simp only[g6 A]
 ·show(if up x.w i false aG=true then up x.a i (x.a i+1) aG+1 else up x.a i (x.a i+1) aG)=if x.w aG=true then x.a aG+1 else x.a aG
  by_cases A:aG=i
  ·subst A;simp[gV,D]
  ·simp only[g6 A]
theorem vQ{n:Nat}{f:Nat->cr}:m∈(List.range n).map f↔∃k,k<n/\f k=m:=by simp
theorem step(H:Ord R C av x)(ed:0<C)(dW:0<R)(bl:gn R C av x m):
  Ord R C av (cO R C av x m)/\∀bC,gn R C av (cO R C av x m) bC↔(gn R C av x bC/\bC≠m)\/bC∈dU R C av x m:=by
 have a1:=Ct H ed bl;cases m with
 |share i j t =>
  obtain⟨es,eq,E,qH,fe,tU,AJ,gv,pV⟩:=IP a1;obtain⟨aj,b1,ck,bk,eF⟩:=a1;obtain⟨_,_,fF,gj,mu⟩:=bl;generalize ce:cO R C av x (.share i j t)=y at *
  have tE:∀aG g,fM y aG g=fM x aG g:=λaG g=>by unfold fM;grind
  have M:∀aG,jj y aG=jj x aG:=λaG=>by unfold jj;grind
  have N:∀aG,ji y aG=ji x aG:=λaG=>by unfold ji;grind
  have eij:=es i j aj;rw[if_pos ⟨rfl,rfl⟩]at eij;refine⟨⟨λaG ac=>?_,λaG g ac A=>?_,λaG g ac A=>?_,λaG g ac A=>?_,λaG ac=>?_,λaG ac=>?_,λg A=>?_,?_,λaG ac=>?_⟩,λbC=>?_⟩
  ·rw[E,fe];exact H.au aG ac
  ·rw[es aG g ac,E];have:=H.h1 aG g ac A
   grind
  ·rw[eq];have:=H.ar aG g ac A
   grind
  ·rw[tE,eq];exact H.aL aG g ac A
  ·rw[N,M];exact H.bm aG ac
  ·rw[E,tU];exact H.b3 aG ac
  ·by_cases e:g=j
   ·subst e;rcases pV with⟨_,_,Z,_⟩|⟨aM,_,Z,_⟩
    ·exact⟨i,aj,by rw[Z];rfl⟩
    ·rw[Z];exact Oh aM
   ·rw[(gv g e).2];exact H.bh g A
  ·rw[AJ];exact H.bX
  ·rw[fe,E,qH];exact H.bS aG ac
  ·cases bC with
   |share aG g D =>
    have I:cr.share aG g D ∉ dU R C av x (.share i j t):=ab
    simp only[gn,I,j8,E,ne_eq,cr.share.injEq];constructor
    ·rintro⟨aB,a2,a3,aY,bN⟩;rw[es aG g aB]at a3
     by_cases e:aG=i/\g=j
     ·rw[if_pos e]at a3;obtain⟨rfl,rfl⟩:=e;have:h5 x aG g=x.P g:=by unfold h5;rw[bk];rfl
      omega
     omega
    ·rintro⟨⟨aB,a2,a3,aY,bN⟩,e0⟩;refine⟨aB,a2,?_,aY,bN⟩;rw[es aG g aB]
     by_cases e:aG=i/\g=j
     ·rw[if_pos e];obtain⟨rfl,rfl⟩:=e;have:h5 x aG g=x.P g:=by unfold h5;rw[bk];rfl
      omega
     grind
   |spread aG g D =>
    rcases pV with⟨_,Z,_,aP⟩|⟨_,Z,_,aP⟩
    ·rw[aP,vQ];simp only[gn,eq,ne_eq,reduceCtorEq,j7,ia]
     by_cases e:g=j
     ·subst e;rw[Z];constructor
      ·grind
      ·rintro(⟨aB,a2,a3,aY⟩|⟨k,hk,bE⟩)
       ·omega
       ·cases bE;exact⟨hk,b1,by have:=H.ar _ _ hk b1;omega,J⟩
     grind
    ·rw[aP];simp only[gn,eq,ne_eq,reduceCtorEq,j7,ia,sT,j8]
     grind
   |dw aG g D =>
    have I:cr.dw aG g D ∉ dU R C av x (.share i j t):=ab
    simp only[gn,I,j8,tE,eq,ne_eq,reduceCtorEq,j7,ia]
   |dx aG D =>
    have I:cr.dx aG D ∉ dU R C av x (.share i j t):=ab
    simp only[gn,I,j8,N,M,ne_eq,reduceCtorEq,j7,ia]
   |order aG D =>
    have I:cr.order aG D ∉ dU R C av x (.share i j t):=ab
    simp only[gn,I,j8,E,tU,ne_eq,reduceCtorEq,j7,ia]
 |spread i j t =>
  obtain⟨lQ,AK,E,qH,fe,tU,AJ,Z,gv,ez⟩:=IH;obtain⟨aj,b1,ck,eF⟩:=a1;obtain⟨_,_,fF,gj⟩:=bl;generalize ce:cO R C av x (.spread i j t)=y at *
  have su:∀aG g,h5 y aG g=h5 x aG g:=λaG g=>by unfold h5;grind
  have tE:∀aG g,fM y aG g=fM x aG g:=λaG g=>by unfold fM;grind
  have M:∀aG,jj y aG=jj x aG:=λaG=>by unfold jj;grind
  have N:∀aG,ji y aG=ji x aG:=λaG=>by unfold ji;grind
  refine⟨⟨λaG ac=>?_,λaG g ac A=>?_,λaG g ac A=>?_,λaG g ac A=>?_,λaG ac=>?_,λaG ac=>?_,λg A=>?_,?_,λaG ac=>?_⟩,λbC=>?_⟩
  ·rw[E,fe];exact H.au aG ac
  ·rw[su,E];exact H.h1 aG g ac A
  ·rw[lQ]
   by_cases e:aG=i/\g=j
   ·grind
   ·rw[gv aG g e];exact H.ar aG g ac A
  ·rw[tE];have:=H.aL aG g ac A
   grind
  ·rw[N,M];exact H.bm aG ac
  ·rw[E,tU];exact H.b3 aG ac
  ·rw[AK];exact H.bh g A
  ·rw[AJ];exact H.bX
  ·rw[fe,E,qH];exact H.bS aG ac
  ·rw[ez,iP];cases bC with
   |share aG g D=>simp only[gn,su,E,ne_eq,reduceCtorEq,j7,ia,j8]
   |spread aG g D =>
    simp only[gn,lQ,ne_eq,cr.spread.injEq,reduceCtorEq,j8]
    grind
   |dw aG g D =>
    simp only[gn,tE,ne_eq,cr.dw.injEq,reduceCtorEq,j7,ia]
    by_cases e:aG=i/\g=j
    ·obtain⟨rfl,rfl⟩:=e;rw[Z];constructor
     ·omega
     ·rintro(⟨aB,a2,a3,aY⟩|⟨_,_,rfl⟩)
      ·omega
      ·exact⟨aj,b1,by have:=H.aL aG g aj b1;omega,J⟩
    grind
   |dx aG D=>simp only[gn,N,M,ne_eq,reduceCtorEq,j7,ia,j8]
   |order aG D=>simp only[gn,E,tU,ne_eq,reduceCtorEq,j7,ia,j8]
 |dw i j t =>
  obtain⟨es,lQ,AK,eq,E,tU,AJ,gv,pV⟩:=IG a1;obtain⟨aj,b1,bV,ck,h1t,eF,a6⟩:=a1;obtain⟨_,_,fF,gj⟩:=bl;generalize ce:cO R C av x (.dw i j t)=y at *
  have su:∀aG g,h5 y aG g=h5 x aG g:=λaG g=>by unfold h5;grind
  have N:∀aG,ji y aG=ji x aG:=λaG=>by unfold ji;grind
  have M:∀aG,aG≠i->jj y aG=jj x aG:=λaG h=>by unfold jj;grind
  refine⟨⟨λaG ac=>?_,λaG g ac A=>?_,λaG g ac A=>?_,λaG g ac A=>?_,λaG ac=>?_,λaG ac=>?_,λg A=>?_,?_,λaG ac=>?_⟩,λbC=>?_⟩
  ·rw[E]
   by_cases e:aG=i
   ·grind
   ·rw[(gv aG e).1];exact H.au aG ac
  ·rw[su,E];exact H.h1 aG g ac A
  ·rw[lQ,eq];exact H.ar aG g ac A
  ·rw[es aG g A,eq];have:=H.aL aG g ac A
   grind
  ·rw[N];have:=H.bm aG ac
   by_cases e:aG=i
   ·subst e;rw[xS bV]at this;rcases pV with⟨_,Z,_⟩|⟨_,Z,_⟩
    ·rw[C7 Z,E];omega
    ·rw[xS Z,E];omega
   grind
  ·rw[E,tU];exact H.b3 aG ac
  ·rw[AK];exact H.bh g A
  ·rw[AJ];exact H.bX
  ·rw[E]
   by_cases e:aG=i
   ·subst e;rcases pV with⟨_,Z,_⟩|⟨aM,Z,aP,_⟩
    ·grind
    ·rw[aP];exact λ_ _=>Oh aM
   ·rw[(gv aG e).1,(gv aG e).2];exact H.bS aG ac
  ·cases bC with
   |share aG g D =>
    have I:cr.share aG g D ∉ dU R C av x (.dw i j t):=ab
    simp only[gn,I,j8,su,E,ne_eq,reduceCtorEq,j7,ia]
   |spread aG g D =>
    have I:cr.spread aG g D ∉ dU R C av x (.dw i j t):=ab
    simp only[gn,I,j8,lQ,eq,ne_eq,reduceCtorEq,j7,ia]
   |dw aG g D =>
    have I:cr.dw aG g D ∉ dU R C av x (.dw i j t):=ab
    simp only[gn,I,j8,eq,ne_eq,cr.dw.injEq];constructor
    ·rintro⟨aB,a2,a3,aY⟩;rw[es aG g a2]at a3
     by_cases e:aG=i/\g=j
     ·rw[if_pos e]at a3;obtain⟨rfl,rfl⟩:=e;have jw:=Ki (j:=g) bV;omega
     omega
    ·rintro⟨⟨aB,a2,a3,aY⟩,e0⟩;refine⟨aB,a2,?_,aY⟩;rw[es aG g a2]
     by_cases e:aG=i/\g=j
     ·rw[if_pos e];obtain⟨rfl,rfl⟩:=e;have jw:=Ki (j:=g) bV;omega
     grind
   |dx aG D =>
    by_cases e:aG=i
    ·subst e;have jw:=xS bV;rcases pV with⟨_,Z,aP⟩|⟨_,Z,_,aP⟩
     ·rw[aP,iP];simp only[gn,N,C7 Z,E,jw,ne_eq,reduceCtorEq,j7,ia,cr.dx.injEq,true_and];constructor
      ·omega
      ·rintro(⟨aB,a2,a3⟩|rfl)
       ·omega
       ·exact⟨aj,by have:=H.bm aG aj;omega,J⟩
     ·rw[aP];simp only[gn,N,xS Z,E,jw,ne_eq,reduceCtorEq,j7,ia,sT,j8]
    ·have I:cr.dx aG D ∉ dU R C av x (.dw i j t):=ab
     simp only[gn,I,j8,N,M aG e,ne_eq,reduceCtorEq,j7,ia]
   |order aG D =>
    have I:cr.order aG D ∉ dU R C av x (.dw i j t):=ab
    simp only[gn,I,j8,E,tU,ne_eq,reduceCtorEq,j7,ia]
 |dx i t =>
  obtain⟨es,lQ,AK,eq,E,qH,fe,pV⟩:=IT a1;obtain⟨aj,ck,aJ,eF⟩:=a1;obtain⟨_,fF,gj⟩:=bl;generalize ce:cO R C av x (.dx i t)=y at *
  have su:∀aG g,h5 y aG g=h5 x aG g:=λaG g=>by unfold h5;grind
  have tE:∀aG g,fM y aG g=fM x aG g:=λaG g=>by unfold fM;grind
  have M:∀aG,jj y aG=jj x aG:=λaG=>by unfold jj;grind
  have jw:ji x i=x.V:=by unfold ji;rw[aJ];rfl
  refine⟨⟨λaG ac=>?_,λaG g ac A=>?_,λaG g ac A=>?_,λaG g ac A=>?_,λaG ac=>?_,λaG ac=>?_,λg A=>?_,?_,λaG ac=>?_⟩,λbC=>?_⟩
  ·rw[E,fe];exact H.au aG ac
  ·rw[su,E];exact H.h1 aG g ac A
  ·rw[lQ,eq];exact H.ar aG g ac A
  ·rw[tE,eq];exact H.aL aG g ac A
  ·rw[es aG ac,M];have:=H.bm aG ac
   grind
  ·rw[E];have:=H.b3 aG ac;omega
  ·rw[AK];exact H.bh g A
  ·rcases pV with⟨_,_,Z,_⟩|⟨aM,_,Z,_⟩
   ·exact⟨i,aj,by rw[Z];rfl⟩
   ·rw[Z];exact Oh aM
  ·rw[fe,E,qH];exact H.bS aG ac
  ·cases bC with
   |share aG g D =>
    have I:cr.share aG g D ∉ dU R C av x (.dx i t):=ab
    simp only[gn,I,j8,su,E,ne_eq,reduceCtorEq,j7,ia]
   |spread aG g D =>
    have I:cr.spread aG g D ∉ dU R C av x (.dx i t):=ab
    simp only[gn,I,j8,lQ,eq,ne_eq,reduceCtorEq,j7,ia]
   |dw aG g D =>
    have I:cr.dw aG g D ∉ dU R C av x (.dx i t):=ab
    simp only[gn,I,j8,tE,eq,ne_eq,reduceCtorEq,j7,ia]
   |dx aG D =>
    have I:cr.dx aG D ∉ dU R C av x (.dx i t):=ab
    simp only[gn,I,j8,M,ne_eq,cr.dx.injEq]
    grind
   |order aG D =>
    rcases pV with⟨_,Z,_,aP⟩|⟨_,Z,_,aP⟩
    ·rw[aP,vQ];simp only[gn,E,Z,ne_eq,reduceCtorEq,j7,ia];constructor
     ·grind
     ·rintro(⟨aB,a2,a3⟩|⟨k,hk,bE⟩)
      ·omega
      ·cases bE;exact⟨hk,by have:=H.b3 _ hk;omega,J⟩
    ·rw[aP];simp only[gn,E,Z,ne_eq,reduceCtorEq,j7,ia,sT,j8]
 |order i t =>
  obtain⟨lQ,AK,eq,tU,AJ,tE,M,E,fe,qH,gv,ez⟩:=No a1;obtain⟨aj,bV,ck,eF⟩:=a1;obtain⟨_,fF,gj⟩:=bl;generalize ce:cO R C av x (.order i t)=y at *
  have su:∀aG g,h5 y aG g=h5 x aG g:=λaG g=>by unfold h5;grind
  have N:∀aG,ji y aG=ji x aG:=λaG=>by unfold ji;grind
  refine⟨⟨λaG ac=>?_,λaG g ac A=>?_,λaG g ac A=>?_,λaG g ac A=>?_,λaG ac=>?_,λaG ac=>?_,λg A=>?_,?_,λaG ac=>?_⟩,λbC=>?_⟩
  ·by_cases e:aG=i
   ·grind
   ·rw[(gv aG e).1,(gv aG e).2.1];exact H.au aG ac
  ·rw[su];have:=H.h1 aG g ac A
   grind
  ·rw[lQ,eq];exact H.ar aG g ac A
  ·rw[tE,eq];exact H.aL aG g ac A
  ·rw[N,M];exact H.bm aG ac
  ·rw[tU]
   by_cases e:aG=i
   ·grind
   ·rw[(gv aG e).1];exact H.b3 aG ac
  ·rw[AK];exact H.bh g A
  ·rw[AJ];exact H.bX
  ·by_cases e:aG=i
   ·subst e;rw[qH];exact λ_ _=>⟨0,ed,rfl⟩
   ·rw[(gv aG e).1,(gv aG e).2.1,(gv aG e).2.2];exact H.bS aG ac
  ·cases bC with
   |share aG g D =>
    by_cases cA:t<av
    ·rw[ez,if_pos cA,vQ];simp only[gn,su,ne_eq,reduceCtorEq,j7,ia]
     by_cases e:aG=i
     ·subst e;rw[E];constructor
      ·grind
      ·rintro(⟨aB,a2,a3,aY,bN⟩|⟨k,hk,bE⟩)
       ·omega
       ·cases bE;exact⟨aj,hk,by have:=H.h1 _ _ aj hk;omega,J,J⟩
     grind
    ·rw[ez,if_neg cA];simp only[gn,su,ne_eq,reduceCtorEq,j7,ia,sT,j8]
     grind
   |spread aG g D =>
    have I:cr.spread aG g D ∉ dU R C av x (.order i t):=ab
    simp only[gn,I,j8,lQ,eq,ne_eq,reduceCtorEq,j7,ia]
   |dw aG g D =>
    have I:cr.dw aG g D ∉ dU R C av x (.order i t):=ab
    simp only[gn,I,j8,tE,eq,ne_eq,reduceCtorEq,j7,ia]
   |dx aG D =>
    have I:cr.dx aG D ∉ dU R C av x (.order i t):=ab
    simp only[gn,I,j8,N,M,ne_eq,reduceCtorEq,j7,ia]
   |order aG D =>
    have I:cr.order aG D ∉ dU R C av x (.order i t):=ab
    simp only[gn,I,j8,tU,ne_eq,cr.order.injEq]
    grind
end
def tF{az:Type}(f:Nat->Nat->az)(i j:Nat)(x:az):Nat->Nat->az:=up f i (up (f i) j x)
theorem qj(f:Nat->Nat->az)(i j:Nat)(x:az):tF f i j x i j=x:=by unfold tF;rw[gV,gV]
theorem qk{f:Nat->Nat->az}{i:Nat}{x:az}(h:¬(a=i/\b=j)):tF f i j x a b=f a b:=by
 unfold tF
 by_cases e:a=i
 ·subst e;rw[gV,g6 J]
 ·rw[g6 e]
theorem O7{R C av:Nat}{x:f6}{o:Nat->aa cr}:gn R C av { x with out:=o } m=gn R C av x m:=by cases m <;> rfl
theorem s5{C i oh:Nat}(h:i*C+j=aG*C+oh)(A:j<C)(g:oh<C):i=aG/\j=oh:=by
 have E:(i*C+j) / C=i:=by rw[xn,Nat.mul_add_div J,MV A,nK]
 have D:(aG*C+oh) / C=aG:=by rw[xn,Nat.mul_add_div J,MV g,nK]
 grind
theorem ph{R C i:Nat}(g:i<R)(A:j<C):i*C+j<R*C:=by
 have:(i+1)*C<=R*C:=p2 C g
 grind
section
variable {R C av:Nat} {x:f6} {cI:Nat->Nat->aa cr}
theorem J0(g:0<C)(h:gn R C av x m):m.src C<R*C/\m.dst C<R*C:=by
 cases m with
 |share i j t=>obtain⟨a,b,_⟩:=h;have:=ph  a g;have:=ph   (by omega:0<R) b;simp only[cr.src,cr.dst];omega
 |spread i j t=>obtain⟨a,b,_⟩:=h;have:=ph a b;simp only[cr.src,cr.dst];omega
 |dw i j t=>obtain⟨a,b,_⟩:=h;have:=ph a b;simp only[cr.src,cr.dst];omega
 |dx i t=>obtain⟨a,_⟩:=h;have:=ph  a g;simp only[cr.src,cr.dst];omega
 |order i t=>obtain⟨a,_⟩:=h;have:=ph  a g;simp only[cr.src,cr.dst];omega
structure oI (R C av:Nat) (x:f6) (cI:Nat->Nat->aa cr):Prop where
 ord:Ord R C av x
 eX:∀n m,m∈x.out n->m.src C=n/\gn R C av x m
 dO:∀n jM m,m∈cI n jM->m.src C=n/\m.dst C=jM/\gn R C av x m
 fZ:∀m,gn R C av x m->m∈x.out (m.src C)\/m∈cI (m.src C) (m.dst C)
 lr:∀n,(x.out n).Nodup
 vl:∀n jM,(cI n jM).Nodup
 nv:∀n jM m,m∈x.out n->m ∉ cI n jM
theorem oI.pick(H:oI R C av x cI){n:Nat}{r:aa cr}(h:x.out n=m::r):oI R C av { x with out:=up x.out n r } (tF cI n (m.dst C) (cI n (m.dst C)++[m])):=by
 have Z:m∈x.out n:=ab
 have bH:=H.lr n;rw[h,List.nodup_cons]at bH;obtain⟨ap,bK⟩:=H.eX n m Z;have sub:∀k bC,bC∈up x.out n r k->bC∈x.out k/\¬(k=n/\bC=m):=λk bC g=>by
  by_cases e:k=n
  ·subst e;rw[gV]at g
   grind
  ·rw[g6 e]at g;grind
 refine⟨⟨H.ord.au,H.ord.h1,H.ord.ar,H.ord.aL,H.ord.bm,H.ord.b3,H.ord.bh,H.ord.bX,H.ord.bS⟩,λk bC g=>?_,λk A bC g=>?_,λbC D=>?_,λk=>?_,λk A=>?_,λk A bC g=>?_⟩
 ·rw[O7];exact H.eX k bC ab
 ·rw[O7]
  by_cases e:k=n/\A=m.dst C
  ·obtain⟨rfl,rfl⟩:=e;rw[qj,hb,iP]at g;rcases g with g|rfl
   ·exact H.dO _ _ bC g
   ·exact⟨ap,rfl,bK⟩
  ·rw[qk e]at g;exact H.dO k A bC g
 ·rw[O7]at D;rcases H.fZ bC D with E|E
  ·by_cases e:bC=m
   ·subst e
    right
    rw[ap,qj];simp
   ·left
    show bC∈up x.out n r (bC.src C)
    by_cases M:bC.src C=n
    ·rw[M,gV]
     grind
    ·rw[g6 M];omega
  ·right
   by_cases e:bC.src C=n/\bC.dst C=m.dst C
   ·rw[e.1,e.2,qj,hb]
    grind
   ·rw[qk e];omega
 ·show(up x.out n r k).Nodup
  by_cases e:k=n
  ·subst e;rw[gV];grind
  ·rw[g6 e];exact H.lr k
 ·by_cases e:k=n/\A=m.dst C
  ·obtain⟨rfl,rfl⟩:=e;rw[qj,MR];exact⟨H.vl _ _,by simp,λa cY b I=>by rw[iP]at I;subst I;intro e;subst e;exact H.nv _ _ _ Z cY⟩
  ·rw[qk e];exact H.vl k A
 ·obtain⟨N,mU⟩:=sub k bC g
  by_cases e:k=n/\A=m.dst C
  ·obtain⟨rfl,rfl⟩:=e;rw[qj,hb,iP];rintro(E|rfl)
   ·exact H.nv _ _ _ N E
   grind
  ·rw[qk e];exact H.nv k A bC N
theorem Yt(h:bC∈dU R C av x m):bC.src C=m.dst C:=by
 cases m with
 |share i j t =>
  simp only[dU]at h
  split at h
  ·rw[vQ]at h;obtain⟨k,_,rfl⟩:=h;rfl
  grind
 |spread i j t=>simp only[dU]at h;rw[iP]at h;subst h;rfl
 |dw i j t =>
  simp only[dU]at h
  split at h
  ·rw[iP]at h;subst h;rfl
  grind
 |dx i t =>
  simp only[dU]at h
  split at h
  ·rw[vQ]at h;obtain⟨k,_,rfl⟩:=h;rfl
  grind
 |order i t =>
  simp only[dU]at h
  split at h
  ·rw[vQ]at h;obtain⟨k,_,rfl⟩:=h;rfl
  grind
theorem NI{n:Nat}{f:Nat->cr}(h:∀a b,f a=f b->a=b):((List.range n).map f).Nodup:=by
 induction n with
 |zero=>simp
 |succ n g =>
  rw[p4,iF,MR]
  grind
theorem ah7:(dU R C av x m).Nodup:=by
 cases m with
 |share i j t =>
  simp only[dU];split
  ·exact NI ab
  ·simp
 |spread i j t=>simp only[dU];simp
 |dw i j t=>simp only[dU];grind
 |dx i t =>
  simp only[dU];split
  ·exact NI ab
  ·simp
 |order i t =>
  simp only[dU];split
  ·exact NI ab
  ·simp
theorem Yu(A:mL R C av x m)(h:bC∈dU R C av x m):¬gn R C av x bC:=by
 cases m with
 |share i j t =>
  simp only[dU]at h
  split at h
  ·rw[vQ]at h;obtain⟨k,_,rfl⟩:=h;obtain⟨_,_,D,_⟩:=A;rintro⟨_,_,_,g⟩;omega
  grind
 |spread i j t =>
  simp only[dU]at h;rw[iP]at h;subst h;obtain⟨_,_,D,_⟩:=A;rintro⟨_,_,_,g⟩;omega
 |dw i j t =>
  simp only[dU]at h
  split at h
  ·rw[iP]at h;subst h;obtain⟨_,_,E,D,_⟩:=A;rintro⟨_,_,g⟩;rw[xS E]at g;omega
  grind
 |dx i t =>
  simp only[dU]at h
  split at h
  ·rw[vQ]at h;obtain⟨k,_,rfl⟩:=h;obtain⟨_,D,_⟩:=A;rintro⟨_,_,g⟩;omega
  grind
 |order i t =>
  simp only[dU]at h
  split at h
  ·rw[vQ]at h;obtain⟨k,_,rfl⟩:=h;obtain⟨_,_,D,_⟩:=A;rintro⟨_,_,_,g,_⟩;omega
  grind
theorem oI.O8(H:oI R C av x cI)(ed:0<C)(dW:0<R){n A:Nat}{r:aa cr}(h:cI n A=m::r):oI R C av (cO R C av x m) (tF cI n A r):=by
 have bl:m∈cI n A:=ab
 have bH:=H.vl n A;rw[h,List.nodup_cons]at bH;obtain⟨ap,M,bK⟩:=H.dO n A m bl;obtain⟨aBs,I⟩:=step H.ord ed dW bK;have a1:=Ct H.ord ed bK;have gv:(cO R C av x m).out=up x.out A (x.out A++dU R C av x m):=by subst M;rfl
 have aAv:∀k bC,bC∈x.out k->bC≠m:=λk bC g e=>by subst e;have:=(H.eX k bC g).1;rw[ap]at this;subst this;exact H.nv _ _ _ g bl
 have Z:∀k bC,bC∈(cO R C av x m).out k↔bC∈x.out k\/(k=A/\bC∈dU R C av x m):=λk bC=>by
  rw[gv]
  by_cases e:k=A
  ·subst e;rw[gV,hb];simp
  ·rw[g6 e];grind
 have aAw:∀k D bC,bC∈tF cI n A r k D->bC∈cI k D/\bC≠m:=λk D bC g=>by
  by_cases e:k=n/\D=A
  ·obtain⟨rfl,rfl⟩:=e;rw[qj]at g
   grind
  ·rw[qk e]at g;exact⟨g,λaP=>by subst aP;have:=H.dO k D bC g;omega⟩
 refine⟨aBs,λk bC g=>?_,λk D bC g=>?_,λbC N=>?_,λk=>?_,λk D=>?_,λk D bC g bb=>?_⟩
 ·rw[Z]at g;rcases g with g|⟨rfl,g⟩
  ·have:=H.eX k bC g;exact⟨this.1,(I bC).2 ab⟩
  ·exact⟨by rw[Yt g,M],(I bC).2 ab⟩
 ·obtain⟨E,ar⟩:=aAw k D bC g;have:=H.dO k D bC E;exact⟨this.1,J,(I bC).2 ab⟩
 ·rw[Z];rcases(I bC).1 N with⟨E,ar⟩|E
  ·rcases H.fZ bC E with aL|aL
   ·grind
   ·right
    by_cases e:bC.src C=n/\bC.dst C=A
    ·rw[e.1,e.2,qj]
     grind
    ·rw[qk e];omega
  ·exact .inl (.inr ⟨by rw[Yt E,M],E⟩)
 ·rw[gv]
  by_cases e:k=A
  ·subst e;rw[gV,MR];exact⟨H.lr _,ah7,λa cY b aT e=>by subst e;exact Yu a1 aT (H.eX _ a cY).2⟩
  ·rw[g6 e];exact H.lr k
 ·by_cases e:k=n/\D=A
  ·obtain⟨rfl,rfl⟩:=e;rw[qj];grind
  ·rw[qk e];exact H.vl k D
 ·obtain⟨E,ar⟩:=aAw k D bC bb;rw[Z]at g;rcases g with g|⟨rfl,g⟩
  ·exact H.nv k D bC g E
  ·exact Yu a1 g (H.dO _ _ _ E).2.2
theorem Ord.ended(H:Ord R C av x)(ed:0<C)(dW:0<R)(h:∀m,¬gn R C av x m){i:Nat}(g:i<R):x.a i=av+1:=by
 have I:∀i,i<R->x.a i=x.V:=λi g=>by
  have:=H.b3 i g
  by_cases e:x.a i<x.V
  ·exact absurd ⟨g,cD _,e⟩ (h (.order i (x.a i)))
  omega
 have es:∀i j,i<R->j<C->x.a i<=h5 x i j\/av<=h5 x i j:=λi j g A=>by
  by_cases e:h5 x i j<x.a i/\h5 x i j<av
  ·exact absurd ⟨g,A,Ir _,e.1,e.2⟩ (h (.share i j (h5 x i j+1)))
  omega
 have eq:∀i j,i<R->j<C->x.q i j=x.P j:=λi j g A=>by
  have:=H.ar i j g A
  by_cases e:x.q i j<x.P j
  ·exact absurd ⟨g,A,Ir _,e⟩ (h (.spread i j (x.q i j+1)))
  omega
 have qH:∀i j,i<R->j<C->fM x i j=x.q i j:=λi j g A=>by
  have:=H.aL i j g A
  by_cases e:fM x i j<x.q i j
  ·exact absurd ⟨g,A,Ir _,e⟩ (h (.dw i j (fM x i j+1)))
  omega
 have ec:∀i,i<R->ji x i=jj x i:=λi g=>by
  have:=H.bm i g
  by_cases e:ji x i<jj x i
  ·exact absurd ⟨g,cD _,e⟩ (h (.dx i (ji x i)))
  omega
 have kI:=I i g;have eF:=(H.au i g).1
 by_cases bp:x.a i=av+1
 ·omega
 exfalso;obtain⟨k,Z,aJ⟩:=H.bX;have E:∀i,i<R->x.w i=true:=λi g=>by
  cases E:x.w i with
  |true=>rfl
  |false =>
   have M:=I i g;obtain⟨j,A,a6⟩:=H.bS i g E J;obtain⟨N,D,bk⟩:=H.bh j A;have aP:=qH i j g A;rw[Ki E,a6,Q1,eq i j g A]at aP;have ch:=es N j D A;unfold h5 at ch;rw[bk,Q1,I N D]at ch;have:=(H.au i g).2.2 E;omega
 have M:=ec k Z;rw[C7 ab]at M;unfold ji at M;rw[aJ,Q1,I k Z]at M;omega
def mh(R C t:Nat):Nat:=1+t*(2*R+C+2)
def gw(R C:Nat):cr->Nat
 | .share i j t=>mh R C (t-1)+R+j+1
 | .spread i j t=>mh R C (t-1)+R+C+i+1
 | .dw i j t=>mh R C (t-1)+2*R+C+1
 | .dx i t=>mh R C t
 | .order i t=>mh R C t+i+1
theorem oA(h:a<=b):mh R C a<=mh R C b:=by have:=p2 (2*R+C+2) h;unfold mh;omega
theorem qd(h:a<b):mh R C a+2*R+C+2<=mh R C b:=by have:=p2 (2*R+C+2) (Nat.succ_le_of_lt h);rw[Ey]at this;unfold mh;omega
theorem atg(H:Ord R C av x)(ed:0<C)(bl:gn R C av x m){p:Nat}(bk:(dU R C av x m)[p]? = some bC):
  gw R C m+p+1<=gw R C bC/\∀l,gn R C av x l->l.src C=m.dst C->gw R C l+p+1<=gw R C bC:=by
 have a1:=Ct H ed bl;have jp:∀{n:Nat} {f:Nat->cr},((List.range n).map f)[p]? = some bC->p<n/\bC=f p:=ab
 have one:∀{y:cr},[y][p]? = some bC->p=0/\bC=y:=ab
 have st:∀{i j k:Nat},i*C=k*C+j->j<C->i=k/\j=0:=λ{i j k} h b1=>by have:=s5      J ed b1;omega
 cases m with
 |share i j t =>
  obtain⟨g,b1,ck,_,eF⟩:=a1;simp only[dU]at bk
  split at bk
  case isFalse=>grind
  obtain⟨hpR,rfl⟩:=jp bk;refine⟨by simp only[gw];omega,λl I N=>?_⟩;cases l with
  |share aG Z A =>
   obtain⟨D,E,M,aY,bN⟩:=I;have b:=H.kA D g g b1;have:=oA (R:=R) (C:=C) (J:A-1<=t-1);simp only[gw];omega
  |spread aG Z A =>
   obtain⟨D,E,M,aY⟩:=I;have N:Z=j:=N;subst N;have:=qd (R:=R) (C:=C) (J:A-1<t-1);simp only[gw];omega
  |dw aG Z A =>
   obtain⟨D,E,M,aY⟩:=I;have N:aG*C+Z=j:=N;obtain⟨rfl,rfl⟩:=s5  (i:=aG)  (aG:=0)  J E b1;have:=H.ar 0 Z D E;have:=qd (R:=R) (C:=C) (J:A-1<t-1);simp only[gw];omega
  |dx aG A =>
   obtain⟨D,E,M⟩:=I;have b:=H.kA g D g b1;have:=oA (R:=R) (C:=C) (J:A<=t-1);simp only[gw];omega
  |order aG A =>
   obtain⟨D,E,M⟩:=I;have b:=H.kA g g g b1;have:=oA (R:=R) (C:=C) (J:A<=t-1);simp only[gw];omega
 |spread i j t =>
  obtain⟨g,b1,ck,eF⟩:=a1;obtain⟨_,_,fF,gj⟩:=bl;simp only[dU]at bk;obtain⟨rfl,rfl⟩:=one bk;refine⟨by simp only[gw];omega,λl I N=>?_⟩;cases l with
  |share aG Z A =>
   obtain⟨D,E,M,aY,bN⟩:=I;have b:=H.kA D g g b1;have:=oA (R:=R) (C:=C) (J:A-1<=t-1);simp only[gw];omega
  |spread aG Z A =>
   obtain⟨D,E,M,aY⟩:=I;have b:=H.kA g g g b1;have b4:=H.kA g g g E;have:=oA (R:=R) (C:=C) (J:A-1<=t-1);simp only[gw];omega
  |dw aG Z A =>
   obtain⟨D,E,M,aY⟩:=I;have N:aG*C+Z=i*C+j:=N;obtain⟨rfl,rfl⟩:=s5 N E b1;have:=qd (R:=R) (C:=C) (J:A-1<t-1);simp only[gw];omega
  |dx aG A =>
   obtain⟨D,E,M⟩:=I;have N:aG*C=i*C+j:=N;obtain⟨rfl,rfl⟩:=st N b1;have b:=H.kA D D D b1;omega
  |order aG A =>
   obtain⟨D,E,M⟩:=I;have b:=H.kA g g g b1;have:=oA (R:=R) (C:=C) (J:A<=t-1);simp only[gw];omega
 |dw i j t =>
  obtain⟨g,b1,bV,ck,h1t,eF,a6⟩:=a1;obtain⟨_,_,fF,gj⟩:=bl;simp only[dU]at bk
  split at bk
  case isFalse=>grind
  obtain⟨rfl,rfl⟩:=one bk;have fe:=xS bV;have aM:=qd (R:=R) (C:=C) (J:t-1<t);refine⟨by simp only[gw];omega,λl I N=>?_⟩;cases l with
  |share aG Z A =>
   obtain⟨D,E,M,aY,bN⟩:=I;have b:=H.kA D g g b1;have:=oA (R:=R) (C:=C) (J:A-1<=t-1);simp only[gw];omega
  |spread aG Z A =>
   obtain⟨D,E,M,aY⟩:=I;have b:=H.kA g g g E;have:=oA (R:=R) (C:=C) (J:A-1<=t-1);simp only[gw];omega
  |dw aG Z A =>
   obtain⟨D,E,M,aY⟩:=I;have b:=H.kA g D g E;have:=oA (R:=R) (C:=C) (J:A-1<=t-1);simp only[gw];omega
  |dx aG A =>
   obtain⟨D,E,M⟩:=I;have N:aG*C=i*C:=N;have:aG=i:=(st (j:=0) J ed).1;subst this;have:=oA (R:=R) (C:=C) (J:A<=t-1);simp only[gw];omega
  |order aG A =>
   obtain⟨D,E,M⟩:=I;have b:=H.kA g g g b1;have:=oA (R:=R) (C:=C) (J:A<=t-1);simp only[gw];omega
 |dx i t =>
  obtain⟨g,ck,aJ,eF⟩:=a1;simp only[dU]at bk
  split at bk
  case isFalse=>grind
  obtain⟨hpR,rfl⟩:=jp bk;refine⟨by simp only[gw];omega,λl I N=>?_⟩;cases l with
  |share aG Z A =>
   obtain⟨D,E,M,aY,bN⟩:=I;have b:=H.kA D g g E;have:=qd (R:=R) (C:=C) (J:A-1<t);simp only[gw];omega
  |spread aG Z A =>
   obtain⟨D,E,M,aY⟩:=I;have b:=H.kA g g g E;have:=qd (R:=R) (C:=C) (J:A-1<t);simp only[gw];omega
  |dw aG Z A =>
   obtain⟨D,E,M,aY⟩:=I;have b:=H.kA g D g E;have:=qd (R:=R) (C:=C) (J:A-1<t);simp only[gw];omega
  |dx aG A =>
   obtain⟨D,E,M⟩:=I;have b:=H.kA g D g ed;have:=oA (R:=R) (C:=C) (J:A<=t);simp only[gw];omega
  |order aG A =>
   obtain⟨D,E,M⟩:=I;have:=qd (R:=R) (C:=C) (J:A<t);simp only[gw];omega
 |order i t =>
  obtain⟨g,bV,ck,eF⟩:=a1;simp only[dU]at bk
  split at bk
  case isFalse=>grind
  obtain⟨hpR,rfl⟩:=jp bk;have fe:=C7 bV;rw[show gw R C (.share i p (t+1))=mh R C t+R+p+1 from rfl];refine⟨by simp only[gw];omega,λl I N=>?_⟩;cases l with
  |share aG Z A =>
   obtain⟨D,E,M,aY,bN⟩:=I;have N:aG*C=i*C:=N;have:aG=i:=(st (j:=0) J ed).1;subst this;have:=qd (R:=R) (C:=C) (J:A-1<t);simp only[gw];omega
  |spread aG Z A =>
   obtain⟨D,E,M,aY⟩:=I;have b:=H.kA g g g E;have:=qd (R:=R) (C:=C) (J:A-1<t);simp only[gw];omega
  |dw aG Z A =>
   obtain⟨D,E,M,aY⟩:=I;have b:=H.kA g D g E;have:=qd (R:=R) (C:=C) (J:A-1<t);simp only[gw];omega
  |dx aG A =>
   obtain⟨D,E,M⟩:=I;have N:aG*C=i*C:=N;have:aG=i:=(st (j:=0) J ed).1;subst this;have:=oA (R:=R) (C:=C) (J:A<=t);simp only[gw];omega
  |order aG A =>
   obtain⟨D,E,M⟩:=I;have b:=H.kA g g g ed;have:=oA (R:=R) (C:=C) (J:A<=t);simp only[gw];omega
structure pH (R C n K:Nat) (x:f6) (cI:Nat->Nat->aa cr):Prop where
 t1:∀k p m,(x.out k)[p]? = some m->n+p+(if k<K then 1 else 0)<=gw R C m
 t2:∀k dm m,m∈cI k dm->n<=gw R C m
 t3:∀k dm,K<=k->cI k dm=[]
theorem pH.pick{n K:Nat}(D:pH R C n K x cI){r:aa cr}(h:x.out K=m::r):pH R C n (K+1) { x with out:=up x.out K r } (tF cI K (m.dst C) (cI K (m.dst C)++[m])):=by
 refine⟨λk p bC g=>?_,λk A bC g=>?_,λk A g=>?_⟩
 ·have g:(up x.out K r k)[p]? = some bC:=g
  by_cases e:k=K
  ·subst e;rw[gV]at g;have:=D.t1 k (p+1) bC ab
   grind
  ·rw[g6 e]at g;have:=D.t1 k p bC g
   grind
 ·by_cases e:k=K/\A=m.dst C
  ·obtain⟨rfl,rfl⟩:=e;rw[qj,hb,iP]at g;rcases g with g|rfl
   ·exact D.t2 _ _ _ g
   ·have:=D.t1 k 0 bC ab;omega
  ·rw[qk e]at g;exact D.t2 _ _ _ g
 ·rw[qk J];exact D.t3 k A J
theorem pH.skip{n K:Nat}(D:pH R C n K x cI)(h:x.out K=[]):pH R C n (K+1) x cI:=by
 refine⟨λk p bC g=>?_,D.t2,λk A g=>D.t3 k A J⟩;have:=D.t1 k p bC g
 grind
theorem pH.O8{n K:Nat}(D:pH R C n K x cI)(H:oI R C av x cI)(Z:0<C)(ht:R*C<=K){k I:Nat}{r:aa cr}(h:cI k I=m::r):pH R C n K (cO R C av x m) (tF cI k I r):=by
 have bl:m∈cI k I:=ab
 obtain⟨ap,bp,N⟩:=H.dO k I m bl;have aT:=J0 Z N;refine⟨λA p bC g=>?_,λA E bC g=>?_,λA E g=>?_⟩
 ·have g:(up x.out (m.dst C) (x.out (m.dst C)++dU R C av x m) A)[p]? = some bC:=g
  by_cases e:A=m.dst C
  ·subst e;rw[gV]at g;rw[if_pos J]
   by_cases aP:p<(x.out (m.dst C)).length
   ·rw[xf aP]at g;have:=D.t1 _ p bC g
    grind
   ·rw[Ei J]at g;obtain⟨fr,fG⟩:=atg H.ord Z N g;have hW:=D.t2 _ _ _ bl;cases bb:(x.out (m.dst C)).length with
    |zero=>omega
    |succ q =>
     rw[bb]at fG;have M:∃l,(x.out (m.dst C))[q]? = some l:=⟨_,kL J⟩
     obtain⟨l,M⟩:=M;have h1:=D.t1 _ q l M;rw[if_pos J]at h1;have ar:=H.eX _ l (k4 M)
     grind
  ·rw[g6 e]at g;exact D.t1 A p bC g
 ·by_cases e:A=k/\E=I
  ·obtain⟨rfl,rfl⟩:=e;rw[qj]at g;exact D.t2 _ _ bC (by rw[h];grind)
  ·rw[qk e]at g;exact D.t2 _ _ bC g
 ·by_cases e:A=k/\E=I
  ·omega
  ·rw[qk e];exact D.t3 _ _ g
theorem pH.next{n K:Nat}(D:pH R C n K x cI)(H:oI R C av x cI)(E:0<C)(Z:R*C<=K)(M:∀k g,cI k g=[]):pH R C (n+1) 0 x cI:=by
 refine⟨λk p m I=>?_,ab,ab⟩;have h1:=D.t1 k p m I;have A:=H.eX k m ab;have N:=J0 E A.2
 grind
theorem avV(H:Ord R C av x)(I:0<C)(E:gn R C av x m):gw R C m<=mh R C av+R:=by
 have A:=Ct H I E;cases m with
 |share i j t=>obtain⟨_,_,D,_,g⟩:=A;have:=qd (R:=R) (C:=C) (J:t-1<av);simp only[gw];omega
 |spread i j t=>obtain⟨_,_,D,g⟩:=A;have:=qd (R:=R) (C:=C) (J:t-1<av);simp only[gw];omega
 |dw i j t=>obtain⟨_,_,_,D,M,g,_⟩:=A;have:=qd (R:=R) (C:=C) (J:t-1<av);simp only[gw];omega
 |dx i t=>obtain⟨_,D,_,g⟩:=A;have:=oA (R:=R) (C:=C) g;simp only[gw];omega
 |order i t=>obtain⟨D,_,_,g⟩:=A;have:=oA (R:=R) (C:=C) g;simp only[gw];omega
theorem oI.fin{n:Nat}(H:oI R C av x cI)(D:pH R C n 0 x cI)(E:0<C)(N:0<R)(Z:mh R C av+R<n){i:Nat}(I:i<R):x.a i=av+1:=by
 refine H.ord.ended E N (λm A=>?_) I;have h1:=avV H.ord E A;rcases H.fZ m A with g|g
 ·obtain⟨p,M⟩:=Ej.1 g;have:=D.t1 _ p m M;omega
 ·rw[D.t3 _ _ J]at g;grind
theorem oI.more(H:oI R C av x cI)(A:0<C)(N:0<R)(au:∀k D,cI k D=[]){i:Nat}(E:i<R)(Z:x.a i≠av+1):∃k,k<R*C/\x.out k≠[]:=by
 apply vw;intro M;apply Z;refine H.ord.ended A N (λm g=>?_) E;rcases H.fZ m g with I|I
 ·exact M ⟨m.src C,(J0 A g).1,ab⟩
 grind
def mi(R C:Nat):f6:={ P:=λ_=>0,e3:=λ_=>lH,q:=λ_ _=>0,a:=λ_=>0,dP:=λ_=>lH,w:=λ_=>true,V:=0,fL:=lH,out:=λn=>if n % C=0/\n<R*C then[.dx (n / C) 0]else[] }
theorem avW(I:0<C)(Z:0<R):oI R C av (mi R C) (λ_ _=>[])/\pH R C 1 0 (mi R C) (λ_ _=>[]):=by
 have ec:∀i,ji (mi R C) i=0:=λi=>rfl;have es:∀i,jj (mi R C) i=1:=λi=>rfl;have qH:∀i j,fM (mi R C) i j=0:=λi j=>rfl;have HQ:∀i j,h5 (mi R C) i j=0:=λi j=>rfl;have M:∀n m,m∈(mi R C).out n->∃i,i<R/\n=i*C/\m = .dx i 0:=λn m h=>by
  have h:m∈(if n % C=0/\n<R*C then[cr.dx (n / C) 0]else[]):=h
  split at h
  case isFalse=>cases h
  rename_i bH
  rw[iP]at h;have N:=Nat.div_add_mod n C;rw[bH.1,nK,xn]at N;exact⟨n / C,by rw[MM I];omega,N.symm,h⟩
 have aBt:∀i,i<R->(mi R C).out (i*C)=[.dx i 0]:=λi A=>by show(if i*C % C=0/\i*C<R*C then[cr.dx (i*C / C) 0]else[])=_;rw[if_pos ⟨Nat.mul_mod_left i C,by have:=ph  A I;omega⟩,Nat.mul_div_cancel i I]
 refine⟨⟨⟨λi A=>⟨by show 0<=_;omega,λ_=>by show 0<=_;omega,λh=>by cases h⟩,ab,λi j _ _=>cD _,ab,ab,λi _=>cD _,λj _=>⟨0,Z,rfl⟩,⟨0,Z,rfl⟩,λi _ h=>by cases h⟩,λn m h=>?_,λn jM m h=>(by cases h),λm D=>?_,λn=>?_,ab,ab⟩,⟨λk p m h=>?_,ab,ab⟩⟩
 ·obtain⟨i,A,rfl,rfl⟩:=M n m h;exact⟨rfl,A,ab,ab⟩
 ·left
  cases m with
  |share i j t=>obtain⟨_,_,E,g,_⟩:=D;rw[HQ]at E;have g:t<=0:=g;omega
  |spread i j t=>obtain⟨_,_,E,g⟩:=D;have g:t<=0:=g;omega
  |dw i j t=>obtain⟨_,_,E,g⟩:=D;have g:t<=0:=g;omega
  |dx i t =>
   obtain⟨A,E,g⟩:=D;rw[es]at g;rw[show t=0 by omega];show _∈(mi R C).out (i*C)
   grind
  |order i t=>obtain⟨_,E,g⟩:=D;have g:t<0:=g;omega
 ·show(if n % C=0/\n<R*C then[cr.dx (n / C) 0]else[]).Nodup
  grind
 ·obtain⟨i,A,rfl,rfl⟩:=M k m ab;rw[aBt i A]at h;cases p with
  |zero=>rw[if_neg J];simp[gw,mh]
  |succ p=>grind
end
section
variable {R C av:Nat} {x:f6} {cI:Nat->Nat->aa cr}
def cr.code:cr->Nat
 | .share i j _=>i*8+j
 | .spread i j _=>64+(i*8+j)
 | .dw i j _=>128+(i*8+j)
 | .dx i _=>192+i
 | .order i _=>200+i
theorem alW(dW:R<=8)(ed:C<=8)(h:mL R C av x m)(ac:mL R C av x bC)(e:m.code=bC.code):m=bC:=by
 cases m with
 |share i j t =>
  obtain⟨M,Z,I,_⟩:=h;cases bC with
  |share aG N D =>
   obtain⟨g,A,E,_⟩:=ac;simp only[cr.code]at e
   grind
  |_=>exfalso;obtain⟨g,A,_⟩:=ac;simp only[cr.code]at e;omega
 |spread i j t =>
  obtain⟨M,Z,I,_⟩:=h;cases bC with
  |spread aG N D =>
   obtain⟨g,A,E,_⟩:=ac;simp only[cr.code]at e
   grind
  |_=>exfalso;obtain⟨g,A,_⟩:=ac;simp only[cr.code]at e;omega
 |dw i j t =>
  obtain⟨M,Z,_,I,_⟩:=h;cases bC with
  |dw aG N D =>
   obtain⟨g,A,_,E,_⟩:=ac;simp only[cr.code]at e
   grind
  |_=>exfalso;obtain⟨g,A,_⟩:=ac;simp only[cr.code]at e;omega
 |dx i t =>
  obtain⟨M,I,_⟩:=h;cases bC with
  |dx aG D =>
   obtain⟨g,E,_⟩:=ac;simp only[cr.code]at e
   grind
  |_=>exfalso;obtain⟨g,A,_⟩:=ac;simp only[cr.code]at e;omega
 |order i t =>
  obtain⟨M,_,I,_⟩:=h;cases bC with
  |order aG D =>
   obtain⟨g,_,E,_⟩:=ac;simp only[cr.code]at e
   grind
  |_=>exfalso;obtain⟨g,A,_⟩:=ac;simp only[cr.code]at e;omega
theorem apP(E:R<=8)(g:C<=8)(h:mL R C av x m):m.code<208:=by
 cases m <;> (obtain⟨A,D,_⟩:=h;simp only[cr.code];omega)
theorem oI.len(H:oI R C av x cI)(A:0<C)(I:R<=8)(M:C<=8)(n:Nat):(x.out n).length<=208:=by
 have g:∀m∈x.out n,mL R C av x m:=λm D=>Ct H.ord A (H.eX n m D).2;have:=Fa 208 ((x.out n).map cr.code) (xj.2 ((H.lr n).imp_of_mem λcY N E e=>E (alW I M (g _ cY) (g _ N) e))) λc Z=>by obtain⟨m,D,rfl⟩:=f0.1 Z;exact apP I M (g m D)
 grind
def td(R L:Nat)(a:Nat->Nat):Nat:=if ∀i,i<R->a i-1=L then L+1 else L
def uO(R:Nat)(x:f6)(L:Nat):Prop:=(∀i,i<R->L<=max 1 (x.a i))/\∃i,i<R/\max 1 (x.a i)=L
theorem uO.step{L:Nat}(H:uO R x L)(O:Ord R C av x)(I:mL R C av x m):uO R (cO R C av x m) (td R L (cO R C av x m).a):=by
 obtain⟨h1,g,N,ar⟩:=H;have same:∀y:f6,y.a=x.a->uO R y (td R L y.a):=λy e=>by
  have bH:td R L y.a=L:=by
   unfold td
   grind
  rw[bH];exact⟨ab,g,N,ab⟩
 cases m with
 |share i j t=>obtain⟨_,_,e,_⟩:=IP I;exact same _ e
 |spread i j t=>obtain⟨_,_,e,_⟩:=IH       ;exact same _ e
 |dw i j t=>obtain⟨_,_,_,_,e,_⟩:=IG I;exact same _ e
 |dx i t=>obtain⟨_,_,_,_,e,_⟩:=IT I;exact same _ e
 |order i t =>
  have gZ:(cO R C av x (.order i t)).a=up x.a i (x.a i+1):=rfl;have aj:i<R:=I.1;unfold uO;rw[gZ];have a_o:∀k,k≠i->up x.a i (x.a i+1) k=x.a k:=λk hk=>g6 hk;have a_s:up x.a i (x.a i+1) i=x.a i+1:=gV _ _ _
  by_cases A:∀k,k<R->up x.a i (x.a i+1) k-1=L
  ·have:td R L (up x.a i (x.a i+1))=L+1:=if_pos A
   grind
  ·have:td R L (up x.a i (x.a i+1))=L:=if_neg A;rw[this];refine⟨λk hk=>?_,?_⟩
   ·grind
   ·by_cases e:g=i
    ·subst e
     by_cases au:x.a g=0
     ·grind
     ·obtain⟨D,Z,M⟩:∃D,D<R/\up x.a g (x.a g+1) D-1≠L:=vw ab;have E:D≠g:=ab
      rw[a_o D E]at M;have dE:=O.b3 D Z;have b4:=O.bm g aj;have dZ:jj x g<=x.a g+1:=by unfold jj;grind
      have fA:x.V<=ji x g:=MW _ _
      grind
    grind
theorem uO.le{L:Nat}(H:uO R x L)(O:Ord R C av x):1<=L/\L<=av+1:=by obtain⟨_,i,g,e⟩:=H;have:=(O.au i g).1;omega
theorem uO.fin{L:Nat}(H:uO R x L)(h:∀i,i<R->x.a i=av+1):L=av+1:=by
 obtain⟨_,i,g,e⟩:=H
 grind
end
section
variable {P:Program} {s:al} {f:FuncId} {args:aa X} {h:ae} {U:Nat} {K:bP}
theorem d7.lt{B:Nat}{ai:ca}{w:World}(A:d7 B ai (u h) w)(D:j2 ai U){o:gh}(e:u h b=some o):b<U:=by
 rcases jn b U with g|g
 ·exact g
 ·have:=A.fresh D b g
  grind
theorem aH.plain{v:X}(aJ:ux v=true)(M:aH P false f args h U (λD ac _=>D=v/\aA U h ac))(ht:K v h U):aH P s f args h U K :=
 kV.up ⟨M.1,λB ai w g E A Z n=>(M.2 B ai w g E A Z n).mono λe a9 bE=>by obtain⟨D,ac,Y,bq,c,rfl,⟨rfl,hk⟩,I,N⟩:=bE;exact⟨D,h,U,ai,c,rfl,⟨rfl,rfl,rfl⟩,bA.back (A.sub N) (EE aJ ai) I,N.forget E A λb o e=>by rw[hk b (E.lt A e)];exact e⟩⟩ ht
theorem aH.mR{val:Nat->X}{cs:aa X}(mK:il cs=true)
  (E:∀(ai bq:ca) (b:Nat) (p:Place) (c:X),bq b=some p->ai U=some p->bA bq (val b) c->bA ai (val U) c)
  (aZ:aH P false f args h U (λdN ac _=>∃b,dN=val b/\U<=b/\u ac b=some (.cells cs false)/\aA U h ac)) (ht:K (val U) (T h U (.cells cs false)) (U+1)):aH P s f args h U K :=
 kV.up ⟨aZ.1,λB ai w g a5 Z cY n=>(aZ.2 B ai w g a5 Z cY n).mono λe a9 bE=>by
  obtain⟨dN,ac,Y,bq,c,rfl,⟨b,rfl,aT,D,hk⟩,GZ,bl⟩:=bE;have I:=bl.rel.mG b ab;obtain⟨p,bk⟩:=mX.1 I;have N:=bl.apm a5 Z (λb o e=>by rw[hk b (a5.lt Z e)];exact e) aT bk D (by obtain⟨gk,hS,bO,d3,d6,M,hu,o1,sH,pU⟩:=bl.rel.obj b p _ bk D;refine⟨gk,hS,bO,d3,d6,M,hu,o1,λi x a1=>?_,pU⟩;obtain⟨f4,e,aJ⟩:=sH i x a1;have A:=IM mK (k4 a1);exact⟨f4,e,by rw[BP A aJ];exact ED A _⟩)
  refine⟨val U,T h U (.cells cs false),U+1,(λk=>if k=U then some p else ai k),c,rfl,⟨rfl,rfl,rfl⟩,E _ bq b p c bk ab GZ,?_⟩;have:u (T h U (.cells cs false))=(λk=>if k=U then some (gh.cells cs false)else u h k):=funext λk=>zk h U _ k;rw[this];exact N⟩ ht
theorem Xg{n k:Nat}(ai bq:ca)(b:Nat)(p:Place)(c:X)(g:bq b=some p)(A:ai U=some p)(D:bA bq (.slice (some ⟨b,0,some k⟩) n cap) c):bA ai (.slice (some ⟨U,0,some k⟩) n cap) c:=by
 cases D with
 |ox h e=>rw[g]at h;cases h;exact .ox A e _ _
 |oy=>exact .oy _ _ _ _ _
theorem Wi{n k:Nat}{lq:IntKind}{i:Int}(ai bq:ca)(b:Nat)(p:Place)(c:X)(g:bq b=some p)(E:ai U=some p)(A:bA bq (.tuple ⟨[.slice (some ⟨b,0,some k⟩) n cap,.int lq i]⟩) c):bA ai (.tuple ⟨[.slice (some ⟨U,0,some k⟩) n cap,.int lq i]⟩) c:=by
 cases A with
 |tuple h=>cases h with
  |cons a t=>cases t with
   |cons D t=>cases t with
    |nil =>
     cases D;exact .tuple (.cons (Xg ai bq b p _ g E a) (.cons (.int _ _) .nil))
theorem acw{r c:Nat}(A:u h r=some (.map es c))(g:K (bd U) (T h U (.iter (some r) c [] c)) (U+1)):dG (r3 h U (.map (some r))) K:=by unfold r3;simp only[A];exact g
theorem acx{it r g cE:Nat}(I:u h it=some (.iter (some r) g seen cE))(M:u h r=some (.map es cE))(D:∀e∈es,e.born<cE)(N:g=cE)(E:leftOf seen es=[]->K (.tuple #[.bool false]) h U)(Z:∀e∈leftOf seen es,e∈es->K (.tuple #[.bool true,e.key,e.val]) (T h it (.iter (some r) g (seen++[e.born]) cE)) U):uW false h U (bd it) K :=
 ⟨it,r,g,cE,cE,seen,es,rfl,rfl,I,M,ajd D,E,λe A=>⟨by rw[N];exact D e (EM A).1,Z e A (EM A).1⟩⟩
end
section
variable {iL:Type} [DecidableEq iL] {cn:iL->X} {L rest:aa (iL × X × Nat)} {h:ae} {U it r cE:Nat} {K:bP}
theorem NJ{seen:aa Nat}:∀{L:aa (iL × X × Nat)} {e:iL × X × Nat},L.Pairwise (λa b=>a.2.2<b.2.2)->e∈L.filter (λe=>decide (e.2.2 ∉ seen)) ->
  (L.filter λe=>decide (e.2.2 ∉ seen)).Perm (e::L.filter λx=>decide (x.2.2 ∉ seen++[e.2.2]))
 | [],e,_,h=>by cases h
 |x::L,e,E,h=>by
  have g:∀y∈L,x.2.2<y.2.2:=λy D=>sR E D;have A:=MK E;rw[qQ]at h;rw[qQ,qQ]
  by_cases M:x.2.2∈seen
  ·rw[if_neg ab]at h;rw[if_neg ab,if_neg ab];exact NJ A h
  ·rw[if_pos ab]at h;rw[if_pos ab];rcases g5.1 h with rfl|h
   ·rw[if_neg ab];have:L.filter (λx=>decide (x.2.2 ∉ seen))=L.filter (λx=>decide (x.2.2 ∉ seen++[e.2.2])):=Iq λy D=>by
     have:=g y D
     grind
    rw[this]
   ·have I:=pa.1 h;have:=g e I.1;rw[if_pos ab];exact((NJ A h).cons x).trans (List.Perm.swap ..)
theorem Nj(seen:aa Nat):∀L:aa (iL × X × Nat),leftOf seen (lf cn L)=lf cn (L.filter λe=>decide (e.2.2 ∉ seen))
 | []=>rfl
 |e::L=>by
  show leftOf seen (⟨cn e.1,e.2.1,e.2.2⟩::lf cn L)=_;rw[uf,Nj seen L,qQ]
  by_cases g:e.2.2∈seen
  ·rw[if_pos g,if_neg ab]
  ·rw[if_neg g,if_pos ab];rfl
def wJ(h:ae)(it r:Nat)(cE:Nat)(L rest:aa (iL × X × Nat)):Prop:=∃seen,u h it=some (.iter (some r) cE seen cE)/\rest=L.filter λe=>decide (e.2.2 ∉ seen)
theorem wJ.F{ac:ae}(I:wJ h it r cE L rest)(g:u ac it=u h it):wJ ac it r cE L rest:=by obtain⟨seen,e,A⟩:=I;exact⟨seen,g.trans e,A⟩
theorem iW.jp(H:iW h r cn L cE)(g:∀ac,wJ ac U r cE L L->(∀c,c≠U->u ac c=u h c)->K (bd U) ac (U+1)):dG (r3 h U (.map (some r))) K :=
 acw H.at_ (g _ ⟨[],aS _ _ _,(y6.2 (by simp)).symm⟩ λc A=>aq J)
theorem iW.fE(H:iW h r cn L cE)(I:wJ h it r cE L rest)(e0:it≠r)(N:rest=[]->K (.tuple #[.bool false]) h U)
  (h1:∀e g ac,e∈L->rest.Perm (e::g)->wJ ac it r cE L g->(∀c,c≠it->u ac c=u h c)->vU ac (bd it) = .ok (.tuple #[cn e.1,e.2.1])->K (.tuple #[.bool true,cn e.1,e.2.1]) ac U):
  uW false h U (bd it) K:=by
 obtain⟨seen,aj,rfl⟩:=I;obtain⟨A,Z⟩:=Wd (VQ (cn:=cn) H.up H.lt);refine acx aj H.at_ Z rfl (λe=>N ?_) λe M D=>?_
 ·rw[Nj]at e;unfold lf at e;exact List.map_eq_nil_iff.1 e
 ·rw[Nj]at M;obtain⟨x,E,rfl⟩:=f0.1 M;exact h1 x _ _ (pa.1 E).1 (NJ H.up E) ⟨_,aS _ _ _,rfl⟩ (λc aZ=>aq J) (W3 (aS _ _ _) ((aq J).trans H.at_) A D)
end
noncomputable section
def w3(b:al)(p:Prop):Prop:=Bool.rec False p b
def RL(f:ae->R X)(v:X)(p:Prop):Nat->aa ae->Prop
 |0,_=>p
 |n+1,h::ap=>w3 (m7 v (f h)) (RL f v p n ap)
 |_+1,[]=>False
def SM(B:oa)(E:aa (Nat × aR))(R:aR)(n:Nat):aR:=Nat.rec (λ_ _ _=>False) (λ_ eO aE h U=>B aE h U eO E R) n
section
variable (P:Program) (h6:FuncId->aa X->ae->Nat->bP->Prop)
def RM(r:fl)(k:bP):Prop:=match r with
 | .call f args h U=>h6 f args h U k
 |_=>False
def Ln(e:vh)(ak:cc)(h:ae)(U:Nat)(k:bP):Prop:=match e with
 | .fE _=>False
 | .call f args=>af (pu ak args) λl=>h6 f l h U k
 | .zR f args=>af (d2 ak f) λf=>af (pu ak args) λl=>RM h6 (hJ h U l f) k
 | .inv r m args=>af (pu ak args) λl=>af (d2 ak r) λv=>RM h6 (l2 P h U l m v) k
 |e=>oZ P true e ak h U k
def SN(d:aw Nat)(i:mS)(ak:cc)(h:ae)(U:Nat)(k:cc->ae->Nat->Prop):Prop:=match i with
 | .fv e=>Ln P h6 e ak h U λv h U=>k (eu ak d (some v)) h U
 |i=>nq P true d i ak h U k
def Lo(l:aa lM):cc->ae->Nat->(cc->ae->Nat->Prop)->Prop :=
 List.rec (motive:=λ_=>cc->ae->Nat->(cc->ae->Nat->Prop)->Prop) (λak h U K=>K ak h U)
  (λi _ eO ak h U K=>kq i.g ak (λak=>SN P h6 i.d i.k ak h U λak h U=>eO ak h U K) (λak=>eO (eu ak i.d none) h U K)) l
def RN(d:aw Nat)(c:Nat)(i:mS)(ak:cc)(h:ae)(U:Nat)(b:ae)(ap:aa ae)(k:cc->ae->Nat->ae->aa ae->Prop):Prop:=match i with
 | .red e=>af (pred P ak e b) λv=>RL (pred P ak e) v (k (eu ak d (some v)) h U b ap) c ap
 | .fv (.st n a x)=>mH P d c (.fv (.st n a x)) ak h U b ap k
 | .fv (.yk dM m key x)=>mH P d c (.fv (.yk dM m key x)) ak h U b ap k
 | .fv e=>Ln P h6 e ak h U λv ac Y=>w3 (Nat.ble U Y) (k (eu ak d (some v)) ac Y ac (b::ap))
 |i=>mH P d c i ak h U b ap k
def G1(l:aa lM):cc->ae->Nat->ae->aa ae->(cc->ae->Nat->Prop)->Prop :=
 List.rec (motive:=λ_=>cc->ae->Nat->ae->aa ae->(cc->ae->Nat->Prop)->Prop) (λak h U _ _ K=>K ak h U)
  (λi _ eO ak h U b ap K=>kq i.g ak (λak=>RN P h6 i.d i.c i.k ak h U b ap λak h U b ap=>eO ak h U b ap K)
   (λak=>Bool.rec (eO (eu ak i.d none) h U b ap K) (eO (eu ak i.d none) h U h (b::ap) K) (i9 i.k))) l
def rp(n:Nat)(eV:aa (aa Nat)):ko->Nat->cc->ae->Nat->iK->aa (Nat × iK)->iK->Prop
 | .skip,_,ak,h,U,N,_,_=>N ak h U
 | .exit id,_,ak,h,U,_,E,_=>jW E id ak h U
 | .ret,_,ak,h,U,_,_,R=>R ak h U
 | .scope c,i,ak,h,U,N,E,R=>rp n eV c i ak h U N E R
 | .tg l,_,ak,h,U,N,_,_=>Lo P h6 l ak h U N
 | .CT l,_,ak,h,U,N,_,_=>G1 P h6 l ak h U h [] N
 | .wZ _ _ _ _,_,_,_,_,_,_,_=>False
 | .seq a b,i,ak,h,U,N,E,R=>rp n eV a i ak h U (λak h U=>rp n eV b (i+hA a) ak h U N E R) E R
 | .block id c,i,ak,h,U,N,E,R=>rp n eV c i ak h U N ((id,N)::E) R
 | .cond x a b,i,ak,h,U,N,E,R=>(match x with
  | .v v=>br v (rp n eV a i ak h U N E R) (rp n eV b (i+hA a) ak h U N E R)
  | .t t=>(match hc ak t with
   |some (some v)=>br v (rp n eV a i ((t,some (.bool true))::ak) h U N E R) (rp n eV b (i+hA a) ((t,some (.bool false))::ak) h U N E R)
   |_=>False))
 | .loop c,i,ak,h,U,_,E,R=>n9 (ke eV i) ak λaE=>SM (λaE h U N E R=>rp n eV c (i+1) (rc (ke eV i) aE 0) h U (th (ke eV i) N) (wi (ke eV i) E) (th (ke eV i) R))
   (uX (ke eV i) c E) (GO (ke eV i) c R) n aE h U
 | .no,_,_,_,_,_,_,_=>False
def ekF(n:Nat)(eV:aa (aa Nat))(f:FuncId)(args:aa X)(h:ae)(U:Nat)(K:bP):Prop:=match xI P f with
 |some oc=>rp P h6 n eV oc.body 0 (xJ args 0) h U (r9 P oc.res K) [] (r9 P oc.res K)
 |none=>False
def G2(av:FuncId->aa (aa Nat))(eb:FuncId->aw (aa X->ae->Nat->bP->Prop))(n m:Nat):FuncId->aa X->ae->Nat->bP->Prop :=
 Nat.rec (λ_ _ _ _ _=>False) (λ_ eO f args h U K=>match eb f with
  |some g=>g args h U K
  |none=>ekF P eO n (av f) f args h U K) m
end
end
section
variable {P:Program} {h6:FuncId->aa X->ae->Nat->bP->Prop} {s:al}
theorem CM{b:al}(h:w3 b p):b=true/\p:=by cases b <;> first|exact h.elim|exact⟨rfl,h⟩
theorem aas{f:ae->R X}{v:X}{p:Prop}:∀{n:Nat} {g:aa ae},RL f v p n g->oL f v p n g
 |0,_,h=>h
 |_+1,[],h=>h
 |n+1,x::A,h=>⟨(CM h).1,aas (n:=n) (CM h).2⟩
theorem aat(g:∀f args h U K,h6 f args h U K->aH P s f args h U K){r:fl}{k:bP}(h:RM h6 r k):fc P s r k:=by
 cases r <;> first|exact g _ _ _ _ _ h|exact h.elim
theorem acy(A:∀f args h U K,h6 f args h U K->aH P s f args h U K){e:vh}{h:ae}{U:Nat}{k:bP}(g:Ln P h6 e ak h U k):oZ P s e ak h U k:=by
 cases e with
 |fE x=>exact g.elim
 |call f args=>exact hI g λ_ h=>A _ _ _ _ _ h
 |zR f args=>exact hI g λ_ h=>hI h λ_ h=>aat A h
 |inv r m args=>exact hI g λ_ h=>hI h λ_ h=>aat A h
 |_=>exact g
theorem ath(A:∀f args h U K,h6 f args h U K->aH P s f args h U K){i:mS}{h:ae}{U:Nat}{k:cc->ae->Nat->Prop}(g:SN P h6 d i ak h U k):nq P s d i ak h U k:=by
 cases i with
 |fv e=>rw[JW];exact acy A g
 |fu e=>cases e <;> exact g
 |_=>exact g
theorem Qg(A:∀f args h U K,h6 f args h U K->aH P s f args h U K):∀{l:aa lM} {ak:cc} {h:ae} {U:Nat} {k:cc->ae->Nat->Prop},Lo P h6 l ak h U k->pQ P s l ak h U k
 | [],_,_,_,_,g=>g
 |i::l,ak,h,U,k,g=>by have g:kq i.g ak (λak=>SN P h6 i.d i.k ak h U λak h U=>Lo P h6 l ak h U k) (λak=>Lo P h6 l (eu ak i.d none) h U k):=g;rw[Jv];exact B6 g (λ_ h=>OY (ath A h) λ_ _ _ h=>Qg A (l:=l) h) (λ_ h=>Qg A (l:=l) h)
theorem apQ(E:∀f args h U K,h6 f args h U K->aH P true f args h U K){c:Nat}{i:mS}{h:ae}{U:Nat}{b:ae}{D:aa ae}{k:cc->ae->Nat->ae->aa ae->Prop}(A:RN P h6 d c i ak h U b D k):mH P d c i ak h U b D k:=by
 have g:∀{e:vh},Ln P h6 e ak h U (λv ac Y=>w3 (Nat.ble U Y) (k (eu ak d (some v)) ac Y ac (b::D)))->oZ P true e ak h U λv ac Y=>U<=Y/\k (eu ak d (some v)) ac Y ac (b::D):=
  λA=>Ju (acy E A) λ_ _ _ h=>⟨l0 (CM h).1,(CM h).2⟩
 cases i with
 |red e=>exact hI A λv h=>by cases c <;> exact aas h
 |fv e =>
  cases e with
  |st n a x=>exact A
  |yk dM m g x=>exact A
  |_ =>
  rw[Fs]
  first|exact g (e:=.fE _) A|exact g (e:=.jp _) A|exact g (e:=.call _ _) A|exact g (e:=.zR _ _) A|exact g (e:=.app _ _ _) A|exact g (e:=.bi _ _ _) A|exact g (e:=.inv _ _ _) A
 |fu e=>cases e <;> exact A
 |_=>exact A
theorem Qh(D:∀f args h U K,h6 f args h U K->aH P true f args h U K):∀{l:aa lM} {ak:cc} {h:ae} {U:Nat} {b:ae} {g:aa ae} {k:cc->ae->Nat->Prop},G1 P h6 l ak h U b g k->h4 P l ak h U b g k
 | [],_,_,_,_,_,_,A=>A
 |i::l,ak,h,U,b,g,k,A=>by
  have A:kq i.g ak (λak=>RN P h6 i.d i.c i.k ak h U b g λak h U b g=>G1 P h6 l ak h U b g k)
   (λak=>Bool.rec (G1 P h6 l (eu ak i.d none) h U b g k) (G1 P h6 l (eu ak i.d none) h U h (b::g) k) (i9 i.k)):=A
  show kq i.g ak (λak=>mH P i.d i.c i.k ak h U b g λak h U b g=>h4 P l ak h U b g k)
   (λak=>Bool.rec (h4 P l (eu ak i.d none) h U b g k) (h4 P l (eu ak i.d none) h U h (b::g) k) (i9 i.k))
  refine B6 A (λ_ h=>Yi (apQ D h) λ_ _ _ _ _ h=>Qh D (l:=l) h) (λ_ h=>?_);cases E:i9 i.k <;> rw[E]at h <;> exact Qh D (l:=l) h
theorem ati{B A:oa}{E:aa (Nat × aR)}{R:aR}(M:∀g h U N I,B g h U N E R->(∀g h U,N g h U->I g h U)->A g h U I E R){n:Nat}{g:aa X}{h:ae}{U:Nat}(bb:SM B E R n g h U):bD A g h U E R:=by
 refine⟨λm g h U=>SM B E R m g h U,n,bb,λm g h U D=>?_⟩;cases m with
 |zero=>exact D.elim
 |succ m=>exact M _ _ _ _ _ D λg h U Z=>⟨m,J,Z⟩
theorem atj(Z:∀s f args h U K,h6 f args h U K->aH P s f args h U K){n:Nat}{M:aa (aa Nat)}:∀(c:ko) {i:Nat} {ak:cc} {h:ae} {U:Nat} {N:iK} {E:aa (Nat × iK)} {R:iK},rp P h6 n M c i ak h U N E R->hR P s M c i ak h U N E R:=by
 intro c
 induction c with
 |skip=>intro i ak h U N E R g;exact g
 |exit id=>intro i ak h U N E R g;exact g
 |ret=>intro i ak h U N E R g;exact g
 |scope c I=>intro i ak h U N E R g;exact I g
 |tg l=>intro i ak h U N E R g;exact Qg (Z s) g
 |CT l=>intro i ak h U N E R g;exact Qh (Z true) g
 |no=>intro i ak h U N E R g;exact g.elim
 |wZ f cb a b=>intro i ak h U N E R g;exact g.elim
 |seq a b D A=>intro i ak h U N E R g;exact O0 a (D g) (λ_ _ _ h=>A h) (λ_ _ _ _ h=>h) λ_ _ _ h=>h
 |block id c I=>intro i ak h U N E R g;exact I g
 |cond x a b D A =>
  intro i ak h U N E R g;cases x with
  |v v=>exact zw g (λh=>D h) (λh=>A h)
  |t t =>
   simp only[rp,hR]at g ⊢
   split at g
   ·rename_i e
    rw[e];exact zw g (λh=>D h) (λh=>A h)
   ·exact g.elim
 |loop c I =>
  intro i ak h U N E R g;exact B7 g λaE bb=>ati (λaE h U N N' aT ek=>O0 c (I aT) (λ_ _ _ h=>B7 h λaE h=>ek _ _ _ h) (λ_ _ _ _ h=>h) λ_ _ _ h=>h) bb
theorem acz(Z:pF P){av:FuncId->aa (aa Nat)}{A:FuncId->aw (aa X->ae->Nat->bP->Prop)}(M:∀f g,A f=some g->∀args h U K,g args h U K->∀s,aH P s f args h U K){n:Nat}:
  ∀(m:Nat) (s:al) (f:FuncId) (args:aa X) (h:ae) (U:Nat) (K:bP),G2 P av A n m f args h U K->aH P s f args h U K
 |0,_,_,_,_,_,_,D=>D.elim
 |m+1,s,f,args,h,U,K,D=>by
  have D:(match A f with
   |some g=>g args h U K
   |none=>ekF P (G2 P av A n m) n (av f) f args h U K):=D
  cases I:A f with
  |some g=>rw[I]at D;exact M f g I _ _ _ _ D s
  |none =>
   rw[I]at D;refine aH.oR Z (av f) ?_;have D:(match xI P f with
    |some E=>rp P (G2 P av A n m) n (av f) E.body 0 (xJ args 0) h U (r9 P E.res K) [] (r9 P E.res K)
    |none=>False):=D
   unfold ob;cases N:xI P f with
   |none=>rw[N]at D;exact D
   |some E=>rw[N]at D;exact atj (λs f args h U K hk=>acz Z M m s f args h U K hk) _ D
theorem aH.home{f:FuncId}{h:ae}{U:Nat}{b:al}{K:bP}(M:aH P false f [] ix 0 (λv _ _=>v = .bool b))(D:K (.bool b) h U):aH P s f [] h U K:=by
 refine kV.up ⟨M.1,λB ai w I a5 bK cY n=>?_⟩ D;cases cY;have g:d7 w.heap.size (λ_=>none) (u ix) w:=⟨cD _,λb p o h=>(by cases h),λb cd p ew h=>(by cases h),λb h=>by rw[I5]at h;cases h⟩
 refine(M.2 w.heap.size _ w [] g (λb _=>rfl) .nil n).mono λe a9 Z=>?_;obtain⟨v,ac,Y,bq,c,rfl,rfl,E,A⟩:=Z;cases E;exact⟨_,h,U,ai,_,rfl,⟨rfl,rfl,rfl⟩,.bool _,cx.still a5 A.size A.os A.tape A.output λk D=>A.frame k D (by rintro⟨b,p,N,_⟩;cases N)⟩
end
section
variable {B:Nat} {ai bq:ca} {H hj:fk} {w a9:World} {U Y:Nat}
end
section
variable {P:Program} {s:al} {f:FuncId} {args:aa X} {h:ae} {U:Nat} {K:bP}
end
end Go.Ax
