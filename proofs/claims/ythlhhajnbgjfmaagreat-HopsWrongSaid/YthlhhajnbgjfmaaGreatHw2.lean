/- Parts of the proof: Hw2: each statement bears its own conditions. -/
import Init
import Derived.Test.YthlhhajnbgjfmaaGreatHw1
namespace Go.Ax.HdH
open Go Go.Ax
set_option linter.all false
set_option maxHeartbeats 1000000
variable {cs:ac X} {W:ac eW} {aO:ay Nat} {cap i b n:Nat} {p:eW}
abbrev hx(p:eW):ac X:=[p.v,(p.w:X)]
structure oR (h:ae) (b7 b:Nat) (aO:ay Nat) (cap:Nat) (W:ac eW) (cs bC:ac X):Prop where
 cell:u h b7=some (.cells (.slice (some ⟨b,0,aO⟩) W.length cap::bC) false)
 ct:u h b=some (.cells (a7 hx W++cs) false)
 len:W.length*2+cs.length=cap*2
 Hg:aO=none\/aO=some 2
 ne:b≠b7
theorem v8(p:eW):(hx p).length=2:=rfl
theorem Kc(g:W[i]? = some p):hg (some 2) (i*2) (a7 hx W++cs) = .ok (.agg ⟨[p.v,(p.w:X)]⟩):=by have A:=uN (enc:=hx) v8 g;have D:=(g0.1 g).1;have E:=fX (enc:=hx) v8 (l:=W);rw[qm,if_pos aa,Ix J,Iy aa,A]
theorem afe(g:W[i]? = some p):(a7 hx W++cs)[i*2]? = some p.v/\(a7 hx W++cs)[i*2+1]? = some (p.w:X):=by
 have E:=(g0.1 g).1;have A:=fX (enc:=hx) v8 (l:=W);rw[uw J,uw J];have D:=E7 (enc:=hx) v8 g (j:=0) J;have I:=E7 (enc:=hx) v8 g (j:=1) J
 grind
theorem aqL{h:ae}{U:Nat}(M:u h b=some (.cells (a7 hx W++cs) false))(bw:W.length=n)(br:W.length*2+cs.length=cap*2)(oe:aO=none\/aO=some 2)(sJ:b<U){b2 dQ rv:Nat}{mr:ay Nat}{I:ac X}{bL:ao}(z:eW)(dc:g1 z.v=true)(ap:u h b2=some (.cells I bL))(aX:(I.drop dQ).take 2=hx z)(jE:n<100000):
  ∃E A g D ab Y,dn 2 h U (.slice (some ⟨b,0,aO⟩) n cap) (.slice (some ⟨b2,dQ,mr⟩) 1 rv) = .ok (.val (.slice (some ⟨E,0,A⟩) (n+1) g) ab Y)/\u ab E=some (.cells (a7 hx (W++[z])++D) false) /\
   (W++[z]).length*2+D.length=g*2/\(A=none\/A=some 2)/\(E=b\/E=U)/\U<=Y/\E<Y/\∀c,c≠b->c≠U->u ab c=u h c:=by
 have Z:2<=I.length-dQ:=by
  have:=congrArg List.length aX
  grind
 have N:=fX (enc:=hx) v8 (l:=W);unfold dn;simp only;rw[show Nat.mul 1 2=2 from rfl,sh ap J Z,aX];unfold ge
 by_cases a5:n+1<=cap
 ·rw[show Nat.ble (Nat.add n 1) cap=true from zv a5];show ∃E A g D ab Y,R.bind (qr h b (Nat.add 0 (Nat.mul n 2)) (hx z)) _=_/\_;rw[show Nat.add 0 (Nat.mul n 2)=n*2 from iU _,I0 M (by show ef [z.v,(z.w:X)]=true;rw[ra,dc];rfl) aa];refine⟨b,aO,cap,cs.drop 2,_,U,rfl,?_,aa,oe,.inl rfl,cR _,sJ,λc h1 _=>aa⟩;rw[sH,if_pos rfl,sg];have aW:(a7 hx W++cs).take (n*2)=a7 hx W:=aa
  have aP:(a7 hx W++cs).drop (n*2+(hx z).length)=cs.drop 2:=by rw[<-bw,<-N,v8,Iz]
  grind
 ·have ru:n=cap:=J
  have mp:cs=[]:=Es J;subst mp;rw[hC]at M;rw[show Nat.ble (Nat.add n 1) cap=false from by
   cases M:Nat.ble (Nat.add n 1) cap with
   |false=>rfl
   |true=>exact absurd (lJ M) a5]
  have aP:(Nat.ble (Nat.mul (Nat.add n 1) 2) 1000000&&Nat.ble (Nat.add n 1) 1000000)=true:=by
   simp only[eA,sd]
   grind
  rw[aP];show ∃E A g D ab Y,pw h U 2 (some ⟨b,0,aO⟩) n cap (n+1) (hx z)=_/\_;unfold pw;simp only[uE M];have Da:mT (Nat.mul n 2) (mO (a7 hx W) 0)=some (a7 hx W):=by
   rw[rc,nr,qn,if_pos aa]
   grind
  rw[Da];rcases oe with rfl|rfl
  ·refine⟨U,some 2,n+1,[],T h U (.cells (a7 hx W++hx z) false),U+1,?_,?_,aa,.inr rfl,.inr rfl,J,J,λc _ ap=>aa⟩
   ·show pv h U 2 (kP (a7 hx W) (hx z)) _=_;rw[j5];exact po J
   ·rw[sH,if_pos rfl,sg,hC]
  ·refine⟨U,some 2,n+1,[],T (wB h b) U (.cells (a7 hx W++hx z) false),U+1,?_,?_,aa,.inr rfl,.inr rfl,J,J,λc h1 ap=>by rw[sH,if_neg ap,rI,if_neg h1]⟩
   ·have cy:(!false&&Nat.beq 0 0&&Nat.beq (jq (a7 hx W)) (Nat.mul n 2)&&Nat.beq 2 2&&Nat.beq n cap&&ef (hx z))=true:=by
     rw[nX,N,bw,ru];have a5:ef (hx z)=true:=by show ef [z.v,(z.w:X)]=true;rw[ra,dc];rfl
     rw[a5];simp
    show(bif _ then _ else _)=_;rw[cy,j5];exact po (s:=2) (Nat.succ_pos 1)
   ·rw[sH,if_pos rfl,sg,hC]
theorem aqM(g:n+1<=cap):g5 2 (.slice (some ⟨b,0,aO⟩) (n+1) cap) none (some (n:X)) none = .ok (.slice (some ⟨b,0,aO⟩) n cap):=by
 show nZ 2 (some ⟨b,0,aO⟩) cap false cap n 0=_;unfold nZ;rw[show(Nat.ble cap cap&&(Nat.ble n cap&&Nat.ble 0 n))=true from by simp only[eA,sd];omega];show uW 2 (some ⟨b,0,aO⟩) false cap n 0=_;unfold uW;rw[show Nat.beq cap 0=false from by
  cases cap with
  |zero=>omega
  |succ c=>rfl]
 rfl
end Go.Ax.HdH
namespace Go.Ax
open Go
variable {j:Nat} {O:ac (Nat × Int)} {es:ac MapEntry} {t:Nat} {aB:Type} {seen:ac Nat} {b:Nat} {d:ay Nat} {a:Nat} {ak:ck} {z:X} {ok:ao} {cap:Nat} {p:Prop} {aK:Nat}
def jT(r:Int)(l:ac (Nat × Int))(v:Nat):ay Int:=fZ r (l.map λp=>if p.1=v then some p.2 else none)
theorem yb(r:Int)(l g:ac (Nat × Int))(v:Nat):jT r (l++g) v=e6 r (jT r l v) (jT r g v):=by unfold jT;rw[hr,Fr]
theorem OH{r:Int}{l g:ac (Nat × Int)}(h:l.Perm g)(v:Nat):jT r l v=jT r g v:=by exact XC aa
theorem Cl(r:Int)(p:Nat × Int)(v:Nat):jT r [p] v=if p.1=v then some p.2 else none:=by show e6 r (if p.1=v then some p.2 else none) none=_;rw[rb]
theorem amM{r:Int}{l:ac (Nat × Int)}{v:Nat}(h:∀p∈l,p.1≠v):jT r l v=none:=by
 refine vZ λx g=>?_
 grind
def qK(r:Int)(O:ac (Nat × Int))(p:Nat × Int):ac (Nat × Int):=match O.getLast? with
 |some q=>if q.1=p.1 then O.dropLast++[(q.1,kB r q.2 p.2)]else O++[p]
 |none=>O++[p]
structure yT (r:Int) (O M:ac (Nat × Int)) (ax:Nat->ay Int):Prop where
 up:O.Pairwise λx y=>x.1<y.1
 le:∀o∈O,∀p∈M,o.1<=p.1
 H9:∀v,e6 r (jT r O v) (jT r M v)=ax v
theorem yT.step{r:Int}{M A:ac (Nat × Int)}{ax:Nat->ay Int}{p:Nat × Int}(H:yT r O M ax)(bn:(p::A).Perm M)(bx:∀q∈M,p.1<=q.1):yT r (qK r O p) A ax:=by
 have N:∀v,jT r M v=e6 r (if p.1=v then some p.2 else none) (jT r A v):=λv=>by rw[<-OH bn,show p::A=[p]++A from rfl,yb,Cl]
 unfold qK;cases br:O.getLast? with
 |none =>
  have:O=[]:=List.getLast?_eq_none_iff.1 br;subst this;refine⟨aa,λo g q di=>?_,λv=>?_⟩
  ·grind
  ·rw[<-H.H9 v,N v,s7,Cl];show _=e6 r none _;rw[E8]
 |some q =>
  obtain⟨O',kn⟩:=IA.1 br;subst kn;have di:=H.le q aa;have E:=q4.1 H.up
  by_cases e:q.1=p.1
  ·simp only[if_pos e,List.dropLast_concat];refine⟨q4.2 ⟨E.1,aa,λa D b a1=>?_⟩,λo g I Z=>?_,λv=>?_⟩
   ·grind
   ·rcases hs.1 g with g|g
    ·exact H.le o aa I aa
    grind
   ·rw[<-H.H9 v,N v,yb,yb,Cl,Cl,tb,tb]
    congr 1
    rw[<-tb]
    congr 1
    by_cases ej:q.1=v
    ·rw[if_pos ej,if_pos ej,if_pos J];rfl
    ·rw[if_neg ej,if_neg ej,if_neg J];rfl
  ·simp only[if_neg e];refine⟨q4.2 ⟨H.up,aa,λa D b a1=>?_⟩,λo g I Z=>?_,λv=>?_⟩
   ·rw[jl.1 a1];rcases hs.1 D with D|D
    ·have h1:=E.2.2 a D q aa
     grind
    grind
   ·rcases hs.1 g with g|g
    ·exact H.le o g I aa
    grind
   ·rw[<-H.H9 v,N v,yb,Cl,tb]
theorem QG{r:Int}:∀{O:ac (Nat × Int)},(O.Pairwise λx y=>x.1<y.1)->∀v x,jT r O v=some x↔(v,x)∈O
 | [],_,v,x=>⟨nofun,aa⟩
 |p::O,h,v,x=>by
  have g:=uz.1 h;rw[show p::O=[p]++O from rfl,yb,Cl,hs,jl]
  by_cases e:p.1=v
  ·have A:jT r O v=none:=amM aa;rw[if_pos e,A,rb]
   grind
  ·rw[if_neg e,E8,QG g.2]
   grind
theorem yT.done{r:Int}{n:Nat}{ax:Nat->ay Int}(H:yT r O [] ax)(A:∀v,n<=v->ax v=none):O=bp n ax:=by
 have g:∀v,jT r O v=ax v:=λv=>by have:=H.H9 v;rwa[show jT r [] v=none from rfl,rb]at this
 refine QF H.up λi x=>?_;rw[<-QG  H.up,g]
 grind
set_option linter.all false
set_option maxHeartbeats 1000000
set_option linter.unusedSectionVars false
section
variable {P:Program}  {s:ao} {f:FuncId} {l:ac X} {h:ae} {U:Nat} {v:X} {K:bZ}
theorem aD.f5(H:aD P s f l h U (λr ab Y=>r=v/\ab=h/\Y=U))(g:K v h U):aD P s f l h U K:=H.mono λ_ _ _ ⟨a,b,c⟩=>by subst a b c;exact g
theorem aD.cz(H:aD P s f l h U (λr ab Y=>r=v/\aA U h ab/\U<=Y))(g:∀ab Y,aA U h ab->U<=Y->K v ab Y):aD P s f l h U K:=H.mono λ_ _ _ ⟨a,b,c⟩=>by subst a;exact g _ _ b c
end
structure wK {i0:Type} [DecidableEq i0] (P:Program) (d0:TypeId) (cz:i0->X):Prop where
 ok:∀k,yo P d0 (cz k)=true
 eq:∀a b,k5 P d0 (cz a) (cz b)=some (decide (a=b))
 same:∀k,oP (cz k) (cz k)=true
theorem OI{P:Program}{d0:Nat}(g:wb P d0=true):wK P d0 (λx:Int=>(x:X)):=by
 have e:∀a b:Int,k5 P d0 (.int .i64 a) (.int .i64 b)=some (decide (a=b)):=λa b=>by show(bif mn .i64 .i64&&wb P d0 then some (ga a b)else none)=_;rw[g,k3];rfl
 exact⟨λk=>by show(k5 P d0 (.int .i64 k) (.int .i64 k)).isSome=true;grind,e,λk=>by show(mn .i64 .i64&&ga k k)=true;rw[v6,k3];simp⟩
section
variable {i0:Type} [DecidableEq i0] {P:Program} {d0:TypeId} {cz:i0->X} {h:ae} {r c:Nat} {L:ac (i0 × X × Nat)} {k:i0} {x v:X}
def lq(cz:i0->X)(L:ac (i0 × X × Nat)):ac MapEntry:=L.map λe=>{ key:=cz e.1,val:=e.2.1,born:=e.2.2 }
structure jd (h:ae) (r:Nat) (cz:i0->X) (L:ac (i0 × X × Nat)) (c:Nat):Prop where
 at_:u h r=some (.map (lq cz L) c)
 up:L.Pairwise λa b=>a.2.2<b.2.2
 lt:∀e∈L,e.2.2<c
 oY:L.Pairwise λa b=>a.1≠b.1
theorem jd.F{ab:ae}(H:jd h r cz L c)(g:u ab r=u h r):jd ab r cz L c:={ H with at_:=g.trans H.at_ }
def iL(L:ac (i0 × X × Nat))(k:i0):ay X:=(L.find? λe=>decide (k=e.1)).map (·.2.1)
theorem x0(e:i0 × X × Nat):iL (e::L) k=if k=e.1 then some e.2.1 else iL L k:=by
 unfold iL
 grind
theorem OJ{g:ac (i0 × X × Nat)}:iL (L++g) k=(iL L k).or (iL g k):=by
 unfold iL
 grind
theorem E9:iL L k=none↔∀e∈L,k≠e.1:=by unfold iL;simp
theorem Ju(g:L.Pairwise λa b=>a.1≠b.1):iL L k=some v↔∃n,(k,v,n)∈L:=by
 induction L with
 |nil=>simp[iL]
 |cons e L A =>
  rw[uz]at g;rw[x0]
  grind
theorem OK(K:wK P d0 cz):∀(L:ac (i0 × X × Nat)) (i:Nat),iL L k=none->kO P d0 (cz k) (lq cz L) i=some none
 | [],_,_=>rfl
 |e::L,i,h=>by have g:=E9.1 h;show(match k5 P d0 (cz k) (cz e.1)with|some true=>_|some false=>kO P d0 (cz k) (lq cz L) (Nat.succ i)|none=>none)=_;rw[K.eq,ht (g e (pi ..))];exact OK K L _ (E9.2 aa)
theorem N6(K:wK P d0 cz):∀(L:ac (i0 × X × Nat)) (i:Nat),iL L k=some v->∃D n E,L=D++(k,v,n)::E/\kO P d0 (cz k) (lq cz L) i=some (some (i+D.length,{ key:=cz k,val:=v,born:=n }))
 | [],_,h=>by cases h
 |e::L,i,h=>by
  have g:kO P d0 (cz k) (lq cz (e::L)) i=(match k5 P d0 (cz k) (cz e.1)with|some true=>some (some (i,{ key:=cz e.1,val:=e.2.1,born:=e.2.2 }))|some false=>kO P d0 (cz k) (lq cz L) (Nat.succ i)|none=>none):=rfl;rw[x0]at h
  by_cases A:k=e.1
  ·rw[if_pos A]at h;cases h;subst A;refine⟨[],e.2.2,L,rfl,?_⟩;rw[g,K.eq,hf rfl];rfl
  ·rw[if_neg A]at h;obtain⟨D,n,E,M,I⟩:=N6 K L (i+1) h;refine⟨e::D,n,E,aa,?_⟩;rw[g,K.eq,ht A]
   grind
theorem wL(K:wK P d0 cz)(H:jd h r cz L c):j9 P h d0 z ok (.map (some r)) (cz k) = .ok (oJ ok ((iL L k).getD z) (iL L k).isSome):=by
 unfold j9;rw[K.ok];show k6 h r (λes _=>match kO P d0 (cz k) es 0 with|some (some (_,x))=>R.ok (oJ ok x.val true)|some none=>.ok (oJ ok z false)|none=>.no "lookup - key")=_;unfold k6;rw[H.at_];simp only;cases g:iL L k with
 |none=>rw[OK K L 0 g];rfl
 |some v =>
  obtain⟨D,n,A,_,e⟩:=N6 K L 0 g
  grind
theorem ay4(H:jd h r cz L c):wD h (.map (some r)) = .ok (L.length:X):=by rw[aug];unfold k6;rw[H.at_];show jc .i64 (.ofNat (jq (lq cz L)))=_;rw[nX];unfold lq;rw[gW];rfl
theorem GN(K:wK P d0 cz)(H:jd h r cz L c)(D:iL L k=none):mU P d0 h (.map (some r)) (cz k) x = .ok (T h r (.map (lq cz (L++[(k,x,c)])) (c+1)))/\∀ab,u ab r=some (.map (lq cz (L++[(k,x,c)])) (c+1))->jd ab r cz (L++[(k,x,c)]) (c+1):=by
 constructor
 ·unfold mU;rw[K.ok];show k6 h r _=_;unfold k6;rw[H.at_];simp only[OK K L 0 D,j5];unfold lq
  grind
 ·refine λab I=>⟨I,q4.2 ⟨H.up,aa,λa g b A=>?_⟩,λe E=>?_,q4.2 ⟨H.oY,aa,λa g b A=>?_⟩⟩
  ·rw[jl.1 A];exact H.lt a g
  ·rcases hs.1 E with e|e
   ·have:=H.lt _ e;omega
   grind
  ·rw[jl.1 A];exact λe=>E9.1 D a g e.symm
theorem GO{c:Nat}(g:u h r=some (.map [] c)):jd h r cz ([]:ac (i0 × X × Nat)) c:=⟨g,.nil,aa,.nil⟩
theorem aw6(K:wK P d0 cz){n:Nat}(H:jd h r cz [(k,v,n)] c):mU P d0 h (.map (some r)) (cz k) x = .ok (T h r (.map (lq cz [(k,x,n)]) c)):=by
 unfold mU;rw[K.ok];show k6 h r _=_;unfold k6;rw[H.at_];obtain⟨A,m,E,g,D⟩:=N6  K [(k,v,n)] 0 (by rw[x0];exact if_pos rfl);simp only[D];cases A with
 |cons a l=>have:=congrArg List.length g;grind
 |nil =>
  cases g;rw[K.same];rfl
theorem Wg:∀{L:ac (i0 × X × Nat)},L.Pairwise (λa b=>a.2.2<b.2.2)->(∀e∈L,e.2.2<c)->Cj c (lq cz L)=true
 | [],_,_=>rfl
 | [e],_,h=>by show(Nat.blt e.2.2 c&&true)=true;rw[Bool.and_true];exact(oI _ _).trans aa
 |e::f::L,g,h=>by rw[uz]at g;show(Nat.blt e.2.2 f.2.2&&Cj c (lq cz (f::L)))=true;rw[Wg g.2 aa,Bool.and_true];exact(oI _ _).trans aa
end
def h3(i:Nat):X:=(i:X)
theorem ri{P:Program}{d0:Nat}(g:wb P d0=true):wK P d0 h3 :=
 ⟨λk=>(OI g).ok _,λa b=>by show k5 P d0 (a:X) (b:X)=_;rw[(OI g).eq];congr 1;grind,λk=>(OI  g).same _⟩
structure iP (h:ae) (r n:Nat) (K:Nat->ao) (V:Nat->X->Prop):Prop where
 ex:∃L c,jd h r h3 L c/\(∀e∈L,e.1<n/\V e.1 e.2.1)/\∀i,i<n->(K i=true↔∃e∈L,e.1=i)
section
variable {h ab:ae} {r n i:Nat} {K:Nat->ao} {V U9:Nat->X->Prop} {P:Program} {x:X}
theorem iP.F(H:iP h r n K V)(g:u ab r=u h r)(A:∀i v,V i v->U9 i v):iP ab r n K U9:=by obtain⟨L,c,I,M,E⟩:=H.ex;exact⟨L,c,I.F g,λe D=>⟨aa,A _ _ (M e D).2⟩,E⟩
theorem iP.get(H:iP h r n K V)(aj:wb P 3=true)(A:i<n):∃v,j9 P h 3 z ok (.map (some r)) (h3 i) = .ok (oJ ok (if K i=true then v else z) (K i))/\(K i=true->V i v):=by
 obtain⟨L,c,D,h1,Z⟩:=H.ex;have e:=wL (ri aj) D (k:=i) (z:=z) (ok:=ok);cases g:iL L i with
 |none =>
  have bw:K i=false:=by
   cases I:K i with
   |false=>rfl
   |true =>
    obtain⟨y,N,M⟩:=(Z i A).1 I;exact absurd M.symm (E9.1 g y N)
  rw[g]at e;exact⟨z,aa,λh=>by rw[bw]at h;cases h⟩
 |some v =>
  obtain⟨m,E⟩:=(Ju D.oY).1 g;rw[g]at e;exact⟨v,aa,λ_=>(h1 _ E).2⟩
theorem iP.put(H:iP h r n K V)(aj:wb P 3=true)(A:i<n)(hm:K i=false)(aX:V i x):∃o,mU P 3 h (.map (some r)) (h3 i) x = .ok (T h r o)/\∀ab,u ab r=some o->iP ab r n (λk=>if k=i then true else K k) V:=by
 obtain⟨L,c,Z,h1,M⟩:=H.ex;have bw:iL L i=none:=E9.2 aa;obtain⟨N,E⟩:=GN  (ri aj) Z bw;refine⟨_,N,λab I=>⟨_,_,E ab I,λe g=>?_,λk D=>?_⟩⟩
 ·rcases hs.1 g with g|g
  ·exact h1 e g
  ·rw[jl.1 g];exact⟨A,aX⟩
 ·by_cases e:k=i
  ·subst e;rw[if_pos rfl];exact⟨λ_=>⟨_,hs.2 (.inr (jl.2 rfl)),rfl⟩,aa⟩
  ·rw[if_neg e,M k D];constructor
   ·rintro⟨y,cd,cy⟩;grind
   grind
theorem iP.no{c:Nat}(A:u h r=some (.map [] c)):iP h r n (λ_=>false) V:=⟨[],c,GO A,λe g=>(s6 g).elim,aa⟩
theorem Fs:∀(n:Nat) (l:ac Nat),l.Nodup->(∀x∈l,x<n)->l.length<=n
 |0,[],_,_=>aa
 |0,x::l,_,h=>absurd (h x aa) J
 |n+1,l,g,h=>by
  have A:=Fs n (l.erase n) aa aa
  grind
theorem adc:∀(n:Nat) (l:ac Nat),(∀i,i<n->i∈l)->n<=l.length
 |0,_,_=>J
 |n+1,l,h=>by
  have g:=adc n (l.erase n) aa
  grind
theorem akk{n:Nat}{l:ac Nat}(I:l.Nodup)(h:∀x∈l,x<n):(l.length<n↔∃i,i<n/\i ∉ l):=by
 constructor
 ·intro A;apply xK;intro D;have:=adc n l aa;omega
 ·rintro⟨i,E,g⟩;have:=Fs n (i::l) aa aa
  grind
theorem iP.len(H:iP h r n K V):∃m:Nat,wD h (.map (some r)) = .ok (m:X)/\m<=n/\(m<n↔∃i,i<n/\K i=false):=by
 obtain⟨L,c,D,N,M⟩:=H.ex;have E:(L.map (·.1)).Nodup:=xM.2 D.oY;have g:∀x∈L.map (·.1),x<n:=aa
 have A:=Fs n _ E g;have I:=akk E g;rw[gW]at A I;refine⟨L.length,ay4 D,A,aa⟩
 all_goals grind
end
inductive cB where
 |share (i j t:Nat)
 |spread (i j t:Nat)
 |dG (i j t:Nat)
 |dH (i t:Nat)
 |order (i t:Nat)
def cB.src(C:Nat):cB->Nat
 | .share i _ _=>i*C
 | .spread _ j _=>j
 | .dG i j _=>i*C+j
 | .dH i _=>i*C
 | .order _ _=>0
def cB.dst(C:Nat):cB->Nat
 | .share _ j _=>j
 | .spread i j _=>i*C+j
 | .dG i _ _=>i*C
 | .dH _ _=>0
 | .order i _=>i*C
def hG(b:ao):Nat:=if b then 1 else 0
variable {m bR:cB}
theorem Rs:hG false=0:=rfl
theorem QH(b:ao):hG b<=1:=by cases b <;> decide
def up{aB:Type}(f:Nat->aB)(i:Nat)(x:aB):Nat->aB:=λn=>if n=i then x else f n
theorem g4(f:Nat->aB)(i:Nat)(x:aB):up f i x i=x:=if_pos rfl
theorem hh{f:Nat->aB}{i n:Nat}{x:aB}(h:n≠i):up f i x n=f n:=if_neg h
def lQ:Nat->ao:=λ_=>false
def mW(n:Nat)(K:Nat->ao):Prop:=∀i,i<n->K i=true
instance (n:Nat) (K:Nat->ao):Decidable (mW n K):=by unfold mW;exact inferInstance
theorem OL{n:Nat}{K:Nat->ao}(h:¬mW n K):∃i,i<n/\K i=false:=by
 unfold mW at h
 grind
structure gi where
 P:Nat->Nat
 e2:Nat->Nat->ao
 q:Nat->Nat->Nat
 a:Nat->Nat
 d1:Nat->Nat->ao
 w:Nat->ao
 V:Nat
 fR:Nat->ao
 out:Nat->ac cB
section
variable (R C ax:Nat) (x:gi)
def io(i j:Nat):Nat:=x.P j+hG (x.e2 j i)
def fS(i j:Nat):Nat:=if x.w i=true then x.a i else x.a i-1+hG (x.d1 i j)
def jy(i:Nat):Nat:=x.V+hG (x.fR i)
def jz(i:Nat):Nat:=if x.w i=true then x.a i+1 else x.a i
structure Ord:Prop where
 aq:∀i,i<R->x.a i<=ax+1/\(x.w i=true->x.a i<=ax)/\(x.w i=false->1<=x.a i)
 h1:∀i j,i<R->j<C->io x i j<=x.a i/\io x i j<=ax
 ap:∀i j,i<R->j<C->x.q i j<=x.P j
 aH:∀i j,i<R->j<C->fS x i j<=x.q i j
 bh:∀i,i<R->jy x i<=jz x i
 b0:∀i,i<R->x.a i<=x.V
 bg:∀j,j<C->∃i,i<R/\x.e2 j i=false
 bU:∃i,i<R/\x.fR i=false
 b1:∀i,i<R->x.w i=false->x.a i<=ax->∃j,j<C/\x.d1 i j=false
def gH:cB->Prop
 | .share i j t=>i<R/\j<C/\io x i j<t/\t<=x.a i/\t<=ax
 | .spread i j t=>i<R/\j<C/\x.q i j<t/\t<=x.P j
 | .dG i j t=>i<R/\j<C/\fS x i j<t/\t<=x.q i j
 | .dH i t=>i<R/\jy x i<=t/\t<jz x i
 | .order i t=>i<R/\x.a i<=t/\t<x.V
def m7:cB->Prop
 | .share i j t=>i<R/\j<C/\t=x.P j+1/\x.e2 j i=false/\t<=ax
 | .spread i j t=>i<R/\j<C/\t=x.q i j+1/\t<=ax
 | .dG i j t=>i<R/\j<C/\x.w i=false/\t=x.a i/\1<=t/\t<=ax/\x.d1 i j=false
 | .dH i t=>i<R/\t=x.V/\x.fR i=false/\t<=ax
 | .order i t=>i<R/\x.w i=true/\t=x.a i/\t<=ax
def d4:cB->ac cB
 | .share i j t=>if mW R (up (x.e2 j) i true)then(List.range R).map λk=>.spread k j t else[]
 | .spread i j t=>[.dG i j t]
 | .dG i j t=>if mW C (up (x.d1 i) j true)then[.dH i t]else[]
 | .dH i t=>if mW R (up x.fR i true)then(List.range R).map λk=>.order k t else[]
 | .order i t=>if t<ax then(List.range C).map λk=>.share i k (t+1)else[]
def AD:cB->gi
 | .share i j _=>if mW R (up (x.e2 j) i true)then{ x with P:=up x.P j (x.P j+1),e2:=up x.e2 j lQ }else{ x with e2:=up x.e2 j (up (x.e2 j) i true) }
 | .spread i j _=>{ x with q:=up x.q i (up (x.q i) j (x.q i j+1)) }
 | .dG i j _=>if mW C (up (x.d1 i) j true)then{ x with d1:=up x.d1 i (up (x.d1 i) j true),w:=up x.w i true }else{ x with d1:=up x.d1 i (up (x.d1 i) j true) }
 | .dH i _=>if mW R (up x.fR i true)then{ x with V:=x.V+1,fR:=lQ }else{ x with fR:=up x.fR i true }
 | .order i _=>{ x with a:=up x.a i (x.a i+1),w:=up x.w i false,d1:=up x.d1 i lQ }
def cX(m:cB):gi:={ AD R C x m with out:=up x.out (m.dst C) (x.out (m.dst C)++d4 R C ax x m) }
end
section
variable {R C ax:Nat} {x:gi}
theorem aw7(i j:Nat)(H:Ord R C ax x)(g:i<R):jz x i<=1+fS x i j/\fS x i j<=x.a i:=by
 have:=H.aq i g;unfold jz fS;cases A:x.w i with
 |true=>grind
 |false =>
  have:=QH (x.d1 i j)
  grind
theorem Ky{i:Nat}(g:x.w i=false):fS x i j=x.a i-1+hG (x.d1 i j):=by unfold fS;grind
theorem ay5{i:Nat}(g:x.w i=true):fS x i j=x.a i:=by unfold fS;grind
theorem yq{i:Nat}(g:x.w i=false):jz x i=x.a i:=by unfold jz;grind
theorem Dc{i:Nat}(g:x.w i=true):jz x i=x.a i+1:=by unfold jz;grind
theorem Ord.kQ(H:Ord R C ax x){i g:Nat}(E:i<R)(ab:aK<R)(D:g<R)(A:j<C):
  x.a i<=x.V/\x.V<=jy x aK/\jy x aK<=x.V+1/\jy x aK<=jz x aK/\jz x aK<=1+fS x aK j/\fS x aK j<=x.q aK j/\x.q aK j<=x.P j/\x.P j<=io x g j/\io x g j<=x.P j+1/\io x g j<=x.a g/\io x g j<=ax/\x.a i<=ax+1:=by have az:=H.b0 i E;have a2:=H.bh aK ab;have M:=aw7 aK j H ab;have aZ:=H.aH aK j ab A;have bI:=H.ap aK j ab A;have Z:=H.h1 g j D A;have I:=QH (x.fR aK);have bq:=QH (x.e2 j g);have aW:jy x aK=x.V+hG (x.fR aK):=rfl;have N:io x g j=x.P j+hG (x.e2 j g):=rfl;omega
theorem Rt{b:ao}(h:hG b=0):b=false:=by cases b with|false=>rfl|true=>cases h
theorem CB(H:Ord R C ax x)(Z:0<C)(E:gH R C ax x m):m7 R C ax x m:=by
 cases m with
 |share i j t =>
  obtain⟨g,D,M,N,aH⟩:=E;have b:=H.kQ g g g D;have aP:io x i j=x.P j+hG (x.e2 j i):=rfl;have I:hG (x.e2 j i)=0:=J
  exact⟨g,D,J,Rt I,aH⟩
 |spread i j t =>
  obtain⟨g,D,M,N⟩:=E;have b:=H.kQ g g g D;exact⟨g,D,J,J⟩
 |dG i j t =>
  obtain⟨g,D,M,N⟩:=E;have b:=H.kQ g g g D;cases A:x.w i with
  |true=>rw[ay5 A]at M;omega
  |false =>
   have e:=Ky (j:=j) A;have I:hG (x.d1 i j)=0:=J
   exact⟨g,D,A,J,J,J,Rt I⟩
 |dH i t =>
  obtain⟨g,M,N⟩:=E;have b:=H.kQ g g g Z;have aP:jy x i=x.V+hG (x.fR i):=rfl;have I:hG (x.fR i)=0:=J
  cases A:x.w i with
  |true=>rw[Dc A]at *;exact⟨g,J,Rt I,J⟩
  |false=>rw[yq A]at *;exact⟨g,J,J,J⟩
 |order i t =>
  obtain⟨g,M,N⟩:=E;have b:=H.kQ g g g Z;cases A:x.w i with
  |true=>rw[Dc A]at *;exact⟨g,A,J,J⟩
  |false=>rw[yq A]at *;omega
end
section
variable {R C ax:Nat} {x:gi}
theorem Ja{i:Nat}(h:m7 R C ax x (.share i j t)):
  (∀aK g,aK<R->io (cX R C ax x (.share i j t)) aK g=io x aK g+if aK=i/\g=j then 1 else 0) /\
  (cX R C ax x (.share i j t)).q=x.q/\(cX R C ax x (.share i j t)).a=x.a/\(cX R C ax x (.share i j t)).d1=x.d1/\(cX R C ax x (.share i j t)).w=x.w/\(cX R C ax x (.share i j t)).V=x.V/\(cX R C ax x (.share i j t)).fR=x.fR /\
  (∀g,g≠j->(cX R C ax x (.share i j t)).P g=x.P g/\(cX R C ax x (.share i j t)).e2 g=x.e2 g) /\
  ((mW R (up (x.e2 j) i true)/\(cX R C ax x (.share i j t)).P j=x.P j+1/\(cX R C ax x (.share i j t)).e2 j=lQ/\d4 R C ax x (.share i j t)=(List.range R).map λk=>.spread k j t) \/
   (¬mW R (up (x.e2 j) i true)/\(cX R C ax x (.share i j t)).P j=x.P j/\(cX R C ax x (.share i j t)).e2 j=up (x.e2 j) i true/\d4 R C ax x (.share i j t)=[])):=by
 obtain⟨aj,cb,cK,Z,_⟩:=h
 by_cases N:mW R (up (x.e2 j) i true)
 ·rw[show cX R C ax x (.share i j t)={ ({ x with P:=up x.P j (x.P j+1),e2:=up x.e2 j lQ }:gi)with out:=up x.out (cB.dst C (cB.share i j t)) (x.out (cB.dst C (cB.share i j t))++d4 R C ax x (.share i j t)) } by unfold cX AD;grind];have M:d4 R C ax x (.share i j t)=(List.range R).map λk=>cB.spread k j t:=by unfold d4;grind
  rw[M];refine⟨λaK g I=>?_,rfl,rfl,rfl,rfl,rfl,rfl,λg A=>⟨hh A,hh A⟩,.inl ⟨N,g4 _ _ _,g4 _ _ _,rfl⟩⟩;show up x.P j (x.P j+1) g+hG (up x.e2 j lQ g aK)=x.P g+hG (x.e2 g aK)+_
  by_cases D:g=j
  ·subst D;rw[g4,g4]
   by_cases E:aK=i
   ·subst E;rw[Z];simp[lQ,hG]
   ·have:=N aK I;rw[hh E]at this;rw[this,if_neg (λh=>E h.1)];simp[lQ,hG]
  ·rw[hh D,hh D,if_neg (λh=>D h.2)];rfl
 ·rw[show cX R C ax x (.share i j t)={ ({ x with e2:=up x.e2 j (up (x.e2 j) i true) }:gi)with out:=up x.out (cB.dst C (cB.share i j t)) (x.out (cB.dst C (cB.share i j t))++d4 R C ax x (.share i j t)) } by unfold cX AD;grind];have M:d4 R C ax x (.share i j t)=[]:=by unfold d4;grind
  rw[M];refine⟨λaK g I=>?_,rfl,rfl,rfl,rfl,rfl,rfl,λg A=>⟨rfl,hh A⟩,.inr ⟨N,rfl,g4 _ _ _,rfl⟩⟩;show x.P g+hG (up x.e2 j (up (x.e2 j) i true) g aK)=x.P g+hG (x.e2 g aK)+_
  by_cases D:g=j
  ·subst D;rw[g4]
   by_cases E:aK=i
   ·subst E;rw[Z,g4];simp[hG]
   ·rw[hh E,if_neg (λh=>E h.1)];rfl
  ·rw[hh D,if_neg (λh=>D h.2)];rfl
theorem I3{i:Nat}(h:m7 R C ax x (.dG i j t)):
  (∀aK g,g<C->fS (cX R C ax x (.dG i j t)) aK g=fS x aK g+if aK=i/\g=j then 1 else 0) /\
  (cX R C ax x (.dG i j t)).P=x.P/\(cX R C ax x (.dG i j t)).e2=x.e2/\(cX R C ax x (.dG i j t)).q=x.q/\(cX R C ax x (.dG i j t)).a=x.a/\(cX R C ax x (.dG i j t)).V=x.V/\(cX R C ax x (.dG i j t)).fR=x.fR /\
  (∀aK,aK≠i->(cX R C ax x (.dG i j t)).w aK=x.w aK/\(cX R C ax x (.dG i j t)).d1 aK=x.d1 aK) /\
  ((mW C (up (x.d1 i) j true)/\(cX R C ax x (.dG i j t)).w i=true/\d4 R C ax x (.dG i j t)=[.dH i t]) \/
   (¬mW C (up (x.d1 i) j true)/\(cX R C ax x (.dG i j t)).w i=false/\(cX R C ax x (.dG i j t)).d1 i=up (x.d1 i) j true/\d4 R C ax x (.dG i j t)=[])):=by
 obtain⟨aj,cb,M,cK,h1,_,bd⟩:=h
 by_cases Z:mW C (up (x.d1 i) j true)
 ·rw[show cX R C ax x (.dG i j t)={ ({ x with d1:=up x.d1 i (up (x.d1 i) j true),w:=up x.w i true }:gi)with out:=up x.out (cB.dst C (cB.dG i j t)) (x.out (cB.dst C (cB.dG i j t))++d4 R C ax x (.dG i j t)) } by unfold cX AD;grind];have N:d4 R C ax x (.dG i j t)=[cB.dH i t]:=by unfold d4;grind
  rw[N];refine⟨λaK g I=>?_,rfl,rfl,rfl,rfl,rfl,rfl,λaK A=>⟨hh A,hh A⟩,.inl ⟨Z,g4 _ _ _,rfl⟩⟩;show(if up x.w i true aK=true then x.a aK else x.a aK-1+hG (up x.d1 i (up (x.d1 i) j true) aK g))=(if x.w aK=true then x.a aK else x.a aK-1+hG (x.d1 aK g))+_
  by_cases E:aK=i
  ·subst E;simp only[g4,M,if_true,np,ff,true_and]
   by_cases D:g=j
   ·subst D;rw[bd];simp[hG];omega
   ·have:=Z g I;rw[hh D]at this;rw[this,if_neg D];simp[hG];omega
  ·simp only[hh E,E,false_and,ff];rfl
 ·rw[show cX R C ax x (.dG i j t)={ ({ x with d1:=up x.d1 i (up (x.d1 i) j true) }:gi)with out:=up x.out (cB.dst C (cB.dG i j t)) (x.out (cB.dst C (cB.dG i j t))++d4 R C ax x (.dG i j t)) } by unfold cX AD;grind];have N:d4 R C ax x (.dG i j t)=[]:=by unfold d4;grind
  rw[N];refine⟨λaK g I=>?_,rfl,rfl,rfl,rfl,rfl,rfl,λaK A=>⟨rfl,hh A⟩,.inr ⟨Z,M,g4 _ _ _,rfl⟩⟩;show(if x.w aK=true then x.a aK else x.a aK-1+hG (up x.d1 i (up (x.d1 i) j true) aK g))=(if x.w aK=true then x.a aK else x.a aK-1+hG (x.d1 aK g))+_
  by_cases E:aK=i
  ·subst E;simp only[g4,M,np,ff,true_and]
   by_cases D:g=j
   ·subst D;rw[bd,g4];simp[hG]
   ·rw[hh D,if_neg D];rfl
  ·simp only[hh E,E,false_and,ff];rfl
theorem Jd{i:Nat}(h:m7 R C ax x (.dH i t)):
  (∀aK,aK<R->jy (cX R C ax x (.dH i t)) aK=jy x aK+if aK=i then 1 else 0) /\
  (cX R C ax x (.dH i t)).P=x.P/\(cX R C ax x (.dH i t)).e2=x.e2/\(cX R C ax x (.dH i t)).q=x.q/\(cX R C ax x (.dH i t)).a=x.a/\(cX R C ax x (.dH i t)).d1=x.d1/\(cX R C ax x (.dH i t)).w=x.w /\
  ((mW R (up x.fR i true)/\(cX R C ax x (.dH i t)).V=x.V+1/\(cX R C ax x (.dH i t)).fR=lQ/\d4 R C ax x (.dH i t)=(List.range R).map λk=>.order k t) \/
   (¬mW R (up x.fR i true)/\(cX R C ax x (.dH i t)).V=x.V/\(cX R C ax x (.dH i t)).fR=up x.fR i true/\d4 R C ax x (.dH i t)=[])):=by
 obtain⟨M,N,E,_⟩:=h
 by_cases I:mW R (up x.fR i true)
 ·rw[show cX R C ax x (.dH i t)={ ({ x with V:=x.V+1,fR:=lQ }:gi)with out:=up x.out (cB.dst C (cB.dH i t)) (x.out (cB.dst C (cB.dH i t))++d4 R C ax x (.dH i t)) } by unfold cX AD;grind];have D:d4 R C ax x (.dH i t)=(List.range R).map λk=>cB.order k t:=by unfold d4;grind
  rw[D];refine⟨λaK A=>?_,rfl,rfl,rfl,rfl,rfl,rfl,aa⟩;show x.V+1+hG (lQ aK)=x.V+hG (x.fR aK)+_
  by_cases g:aK=i
  ·subst g;rw[E];simp[lQ,hG]
  ·have:=I aK A;rw[hh g]at this;rw[this,if_neg g];simp[lQ,hG]
 ·rw[show cX R C ax x (.dH i t)={ ({ x with fR:=up x.fR i true }:gi)with out:=up x.out (cB.dst C (cB.dH i t)) (x.out (cB.dst C (cB.dH i t))++d4 R C ax x (.dH i t)) } by unfold cX AD;grind];have D:d4 R C ax x (.dH i t)=[]:=by unfold d4;grind
  rw[D];refine⟨λaK A=>?_,rfl,rfl,rfl,rfl,rfl,rfl,aa⟩;show x.V+hG (up x.fR i true aK)=x.V+hG (x.fR aK)+_
  by_cases g:aK=i
  ·subst g;rw[E,g4];simp[hG]
  ·rw[hh g,if_neg g];rfl
theorem I4{i:Nat}:
  (cX R C ax x (.spread i j t)).P=x.P/\(cX R C ax x (.spread i j t)).e2=x.e2/\(cX R C ax x (.spread i j t)).a=x.a/\(cX R C ax x (.spread i j t)).d1=x.d1/\(cX R C ax x (.spread i j t)).w=x.w/\(cX R C ax x (.spread i j t)).V=x.V/\(cX R C ax x (.spread i j t)).fR=x.fR /\
  (cX R C ax x (.spread i j t)).q i j=x.q i j+1/\(∀aK g,¬(aK=i/\g=j)->(cX R C ax x (.spread i j t)).q aK g=x.q aK g)/\d4 R C ax x (.spread i j t)=[.dG i j t]:=by
 refine⟨rfl,rfl,rfl,rfl,rfl,rfl,rfl,?_,λaK g D=>?_,rfl⟩
 ·show up x.q i (up (x.q i) j (x.q i j+1)) i j=_;rw[g4,g4]
 ·show up x.q i (up (x.q i) j (x.q i j+1)) aK g=_
  by_cases A:aK=i
  ·subst A;rw[g4,hh J]
  ·rw[hh A]
theorem NL{i:Nat}(h:m7 R C ax x (.order i t)):
  (cX R C ax x (.order i t)).P=x.P/\(cX R C ax x (.order i t)).e2=x.e2/\(cX R C ax x (.order i t)).q=x.q/\(cX R C ax x (.order i t)).V=x.V/\(cX R C ax x (.order i t)).fR=x.fR /\
  (∀aK g,fS (cX R C ax x (.order i t)) aK g=fS x aK g)/\(∀aK,jz (cX R C ax x (.order i t)) aK=jz x aK)/\(cX R C ax x (.order i t)).a i=x.a i+1/\(cX R C ax x (.order i t)).w i=false/\(cX R C ax x (.order i t)).d1 i=lQ /\
  (∀aK,aK≠i->(cX R C ax x (.order i t)).a aK=x.a aK/\(cX R C ax x (.order i t)).w aK=x.w aK/\(cX R C ax x (.order i t)).d1 aK=x.d1 aK) /\
  d4 R C ax x (.order i t)=if t<ax then(List.range C).map λk=>.share i k (t+1)else[]:=by
 obtain⟨I,D,E,_⟩:=h;refine⟨rfl,rfl,rfl,rfl,rfl,λaK g=>?_,λaK=>?_,g4 _ _ _,g4 _ _ _,g4 _ _ _,λaK h=>⟨hh h,hh h,hh h⟩,rfl⟩
 ·show(if up x.w i false aK=true then up x.a i (x.a i+1) aK else up x.a i (x.a i+1) aK-1+hG (up x.d1 i lQ aK g))=if x.w aK=true then x.a aK else x.a aK-1+hG (x.d1 aK g)
  by_cases A:aK=i
  ·subst A;simp[g4,D,lQ,hG]
  ·simp only[hh A]
 ·show(if up x.w i false aK=true then up x.a i (x.a i+1) aK+1 else up x.a i (x.a i+1) aK)=if x.w aK=true then x.a aK+1 else x.a aK
  by_cases A:aK=i
  ·subst A;simp[g4,D]
  ·simp only[hh A]
theorem wd{n:Nat}{f:Nat->cB}:m∈(List.range n).map f↔∃k,k<n/\f k=m:=by simp
theorem step(H:Ord R C ax x)(ee:0<C)(ei:0<R)(bx:gH R C ax x m):
  Ord R C ax (cX R C ax x m)/\∀bR,gH R C ax (cX R C ax x m) bR↔(gH R C ax x bR/\bR≠m)\/bR∈d4 R C ax x m:=by
 have aX:=CB H ee bx;cases m with
 |share i j t =>
  obtain⟨es,eq,E,qU,fh,ui,A1,gL,p5⟩:=Ja aX;obtain⟨aj,cb,cK,bn,fe⟩:=aX;obtain⟨_,_,fI,gr,mH⟩:=bx;generalize cd:cX R C ax x (.share i j t)=y at *
  have tX:∀aK g,fS y aK g=fS x aK g:=λaK g=>by unfold fS;grind
  have N:∀aK,jz y aK=jz x aK:=λaK=>by unfold jz;grind
  have M:∀aK,jy y aK=jy x aK:=λaK=>by unfold jy;grind
  have eij:=es i j aj;rw[if_pos ⟨rfl,rfl⟩]at eij;refine⟨⟨λaK ab=>?_,λaK g ab A=>?_,λaK g ab A=>?_,λaK g ab A=>?_,λaK ab=>?_,λaK ab=>?_,λg A=>?_,?_,λaK ab=>?_⟩,λbR=>?_⟩
  ·rw[E,fh];exact H.aq aK ab
  ·rw[es aK g ab,E];have:=H.h1 aK g ab A
   grind
  ·rw[eq];have:=H.ap aK g ab A
   grind
  ·rw[tX,eq];exact H.aH aK g ab A
  ·rw[M,N];exact H.bh aK ab
  ·rw[E,ui];exact H.b0 aK ab
  ·by_cases e:g=j
   ·subst e;rcases p5 with⟨_,_,Z,_⟩|⟨aM,_,Z,_⟩
    ·exact⟨i,aj,by rw[Z];rfl⟩
    ·rw[Z];exact OL aM
   ·rw[(gL g e).2];exact H.bg g A
  ·rw[A1];exact H.bU
  ·rw[fh,E,qU];exact H.b1 aK ab
  ·cases bR with
   |share aK g D =>
    have I:cB.share aK g D ∉ d4 R C ax x (.share i j t):=aa
    simp only[gH,I,ks,E,ne_eq,cB.share.injEq];constructor
    ·rintro⟨az,a2,a3,aZ,bI⟩;rw[es aK g az]at a3
     by_cases e:aK=i/\g=j
     ·rw[if_pos e]at a3;obtain⟨rfl,rfl⟩:=e;have:io x aK g=x.P g:=by unfold io;rw[bn];rfl
      omega
     omega
    ·rintro⟨⟨az,a2,a3,aZ,bI⟩,fk⟩;refine⟨az,a2,?_,aZ,bI⟩;rw[es aK g az]
     by_cases e:aK=i/\g=j
     ·rw[if_pos e];obtain⟨rfl,rfl⟩:=e;have:io x aK g=x.P g:=by unfold io;rw[bn];rfl
      omega
     grind
   |spread aK g D =>
    rcases p5 with⟨_,Z,_,aP⟩|⟨_,Z,_,aP⟩
    ·rw[aP,wd];simp only[gH,eq,ne_eq,reduceCtorEq,kr,iv]
     by_cases e:g=j
     ·subst e;rw[Z];constructor
      ·grind
      ·rintro(⟨az,a2,a3,aZ⟩|⟨k,hk,bK⟩)
       ·omega
       ·cases bK;exact⟨hk,cb,by have:=H.ap _ _ hk cb;omega,J⟩
     grind
    ·rw[aP];simp only[gH,eq,ne_eq,reduceCtorEq,kr,iv,s6,ks]
     grind
   |dG aK g D =>
    have I:cB.dG aK g D ∉ d4 R C ax x (.share i j t):=aa
    simp only[gH,I,ks,tX,eq,ne_eq,reduceCtorEq,kr,iv]
   |dH aK D =>
    have I:cB.dH aK D ∉ d4 R C ax x (.share i j t):=aa
    simp only[gH,I,ks,M,N,ne_eq,reduceCtorEq,kr,iv]
   |order aK D =>
    have I:cB.order aK D ∉ d4 R C ax x (.share i j t):=aa
    simp only[gH,I,ks,E,ui,ne_eq,reduceCtorEq,kr,iv]
 |spread i j t =>
  obtain⟨l1,A2,E,qU,fh,ui,A1,Z,gL,e1⟩:=I4;obtain⟨aj,cb,cK,fe⟩:=aX;obtain⟨_,_,fI,gr⟩:=bx;generalize cd:cX R C ax x (.spread i j t)=y at *
  have sM:∀aK g,io y aK g=io x aK g:=λaK g=>by unfold io;grind
  have tX:∀aK g,fS y aK g=fS x aK g:=λaK g=>by unfold fS;grind
  have N:∀aK,jz y aK=jz x aK:=λaK=>by unfold jz;grind
  have M:∀aK,jy y aK=jy x aK:=λaK=>by unfold jy;grind
  refine⟨⟨λaK ab=>?_,λaK g ab A=>?_,λaK g ab A=>?_,λaK g ab A=>?_,λaK ab=>?_,λaK ab=>?_,λg A=>?_,?_,λaK ab=>?_⟩,λbR=>?_⟩
  ·rw[E,fh];exact H.aq aK ab
  ·rw[sM,E];exact H.h1 aK g ab A
  ·rw[l1]
   by_cases e:aK=i/\g=j
   ·grind
   ·rw[gL aK g e];exact H.ap aK g ab A
  ·rw[tX];have:=H.aH aK g ab A
   grind
  ·rw[M,N];exact H.bh aK ab
  ·rw[E,ui];exact H.b0 aK ab
  ·rw[A2];exact H.bg g A
  ·rw[A1];exact H.bU
  ·rw[fh,E,qU];exact H.b1 aK ab
  ·rw[e1,jl];cases bR with
   |share aK g D=>simp only[gH,sM,E,ne_eq,reduceCtorEq,kr,iv,ks]
   |spread aK g D =>
    simp only[gH,l1,ne_eq,cB.spread.injEq,reduceCtorEq,ks]
    grind
   |dG aK g D =>
    simp only[gH,tX,ne_eq,cB.dG.injEq,reduceCtorEq,kr,iv]
    by_cases e:aK=i/\g=j
    ·obtain⟨rfl,rfl⟩:=e;rw[Z];constructor
     ·omega
     ·rintro(⟨az,a2,a3,aZ⟩|⟨_,_,rfl⟩)
      ·omega
      ·exact⟨aj,cb,by have:=H.aH aK g aj cb;omega,J⟩
    grind
   |dH aK D=>simp only[gH,M,N,ne_eq,reduceCtorEq,kr,iv,ks]
   |order aK D=>simp only[gH,E,ui,ne_eq,reduceCtorEq,kr,iv,ks]
 |dG i j t =>
  obtain⟨es,l1,A2,eq,E,ui,A1,gL,p5⟩:=I3 aX;obtain⟨aj,cb,bV,cK,h1t,fe,bd⟩:=aX;obtain⟨_,_,fI,gr⟩:=bx;generalize cd:cX R C ax x (.dG i j t)=y at *
  have sM:∀aK g,io y aK g=io x aK g:=λaK g=>by unfold io;grind
  have M:∀aK,jy y aK=jy x aK:=λaK=>by unfold jy;grind
  have N:∀aK,aK≠i->jz y aK=jz x aK:=λaK h=>by unfold jz;grind
  refine⟨⟨λaK ab=>?_,λaK g ab A=>?_,λaK g ab A=>?_,λaK g ab A=>?_,λaK ab=>?_,λaK ab=>?_,λg A=>?_,?_,λaK ab=>?_⟩,λbR=>?_⟩
  ·rw[E]
   by_cases e:aK=i
   ·grind
   ·rw[(gL aK e).1];exact H.aq aK ab
  ·rw[sM,E];exact H.h1 aK g ab A
  ·rw[l1,eq];exact H.ap aK g ab A
  ·rw[es aK g A,eq];have:=H.aH aK g ab A
   grind
  ·rw[M];have:=H.bh aK ab
   by_cases e:aK=i
   ·subst e;rw[yq bV]at this;rcases p5 with⟨_,Z,_⟩|⟨_,Z,_⟩
    ·rw[Dc Z,E];omega
    ·rw[yq Z,E];omega
   grind
  ·rw[E,ui];exact H.b0 aK ab
  ·rw[A2];exact H.bg g A
  ·rw[A1];exact H.bU
  ·rw[E]
   by_cases e:aK=i
   ·subst e;rcases p5 with⟨_,Z,_⟩|⟨aM,Z,aP,_⟩
    ·grind
    ·rw[aP];exact λ_ _=>OL aM
   ·rw[(gL aK e).1,(gL aK e).2];exact H.b1 aK ab
  ·cases bR with
   |share aK g D =>
    have I:cB.share aK g D ∉ d4 R C ax x (.dG i j t):=aa
    simp only[gH,I,ks,sM,E,ne_eq,reduceCtorEq,kr,iv]
   |spread aK g D =>
    have I:cB.spread aK g D ∉ d4 R C ax x (.dG i j t):=aa
    simp only[gH,I,ks,l1,eq,ne_eq,reduceCtorEq,kr,iv]
   |dG aK g D =>
    have I:cB.dG aK g D ∉ d4 R C ax x (.dG i j t):=aa
    simp only[gH,I,ks,eq,ne_eq,cB.dG.injEq];constructor
    ·rintro⟨az,a2,a3,aZ⟩;rw[es aK g a2]at a3
     by_cases e:aK=i/\g=j
     ·rw[if_pos e]at a3;obtain⟨rfl,rfl⟩:=e;have i1:=Ky (j:=g) bV;omega
     omega
    ·rintro⟨⟨az,a2,a3,aZ⟩,fk⟩;refine⟨az,a2,?_,aZ⟩;rw[es aK g a2]
     by_cases e:aK=i/\g=j
     ·rw[if_pos e];obtain⟨rfl,rfl⟩:=e;have i1:=Ky (j:=g) bV;omega
     grind
   |dH aK D =>
    by_cases e:aK=i
    ·subst e;have i1:=yq bV;rcases p5 with⟨_,Z,aP⟩|⟨_,Z,_,aP⟩
     ·rw[aP,jl];simp only[gH,M,Dc Z,E,i1,ne_eq,reduceCtorEq,kr,iv,cB.dH.injEq,true_and];constructor
      ·omega
      ·rintro(⟨az,a2,a3⟩|rfl)
       ·omega
       ·exact⟨aj,by have:=H.bh aK aj;omega,J⟩
     ·rw[aP];simp only[gH,M,yq Z,E,i1,ne_eq,reduceCtorEq,kr,iv,s6,ks]
    ·have I:cB.dH aK D ∉ d4 R C ax x (.dG i j t):=aa
     simp only[gH,I,ks,M,N aK e,ne_eq,reduceCtorEq,kr,iv]
   |order aK D =>
    have I:cB.order aK D ∉ d4 R C ax x (.dG i j t):=aa
    simp only[gH,I,ks,E,ui,ne_eq,reduceCtorEq,kr,iv]
 |dH i t =>
  obtain⟨es,l1,A2,eq,E,qU,fh,p5⟩:=Jd aX;obtain⟨aj,cK,aI,fe⟩:=aX;obtain⟨_,fI,gr⟩:=bx;generalize cd:cX R C ax x (.dH i t)=y at *
  have sM:∀aK g,io y aK g=io x aK g:=λaK g=>by unfold io;grind
  have tX:∀aK g,fS y aK g=fS x aK g:=λaK g=>by unfold fS;grind
  have N:∀aK,jz y aK=jz x aK:=λaK=>by unfold jz;grind
  have i1:jy x i=x.V:=by unfold jy;rw[aI];rfl
  refine⟨⟨λaK ab=>?_,λaK g ab A=>?_,λaK g ab A=>?_,λaK g ab A=>?_,λaK ab=>?_,λaK ab=>?_,λg A=>?_,?_,λaK ab=>?_⟩,λbR=>?_⟩
  ·rw[E,fh];exact H.aq aK ab
  ·rw[sM,E];exact H.h1 aK g ab A
  ·rw[l1,eq];exact H.ap aK g ab A
  ·rw[tX,eq];exact H.aH aK g ab A
  ·rw[es aK ab,N];have:=H.bh aK ab
   grind
  ·rw[E];have:=H.b0 aK ab;omega
  ·rw[A2];exact H.bg g A
  ·rcases p5 with⟨_,_,Z,_⟩|⟨aM,_,Z,_⟩
   ·exact⟨i,aj,by rw[Z];rfl⟩
   ·rw[Z];exact OL aM
  ·rw[fh,E,qU];exact H.b1 aK ab
  ·cases bR with
   |share aK g D =>
    have I:cB.share aK g D ∉ d4 R C ax x (.dH i t):=aa
    simp only[gH,I,ks,sM,E,ne_eq,reduceCtorEq,kr,iv]
   |spread aK g D =>
    have I:cB.spread aK g D ∉ d4 R C ax x (.dH i t):=aa
    simp only[gH,I,ks,l1,eq,ne_eq,reduceCtorEq,kr,iv]
   |dG aK g D =>
    have I:cB.dG aK g D ∉ d4 R C ax x (.dH i t):=aa
    simp only[gH,I,ks,tX,eq,ne_eq,reduceCtorEq,kr,iv]
   |dH aK D =>
    have I:cB.dH aK D ∉ d4 R C ax x (.dH i t):=aa
    simp only[gH,I,ks,N,ne_eq,cB.dH.injEq]
    grind
   |order aK D =>
    rcases p5 with⟨_,Z,_,aP⟩|⟨_,Z,_,aP⟩
    ·rw[aP,wd];simp only[gH,E,Z,ne_eq,reduceCtorEq,kr,iv];constructor
     ·grind
     ·rintro(⟨az,a2,a3⟩|⟨k,hk,bK⟩)
      ·omega
      ·cases bK;exact⟨hk,by have:=H.b0 _ hk;omega,J⟩
    ·rw[aP];simp only[gH,E,Z,ne_eq,reduceCtorEq,kr,iv,s6,ks]
 |order i t =>
  obtain⟨l1,A2,eq,ui,A1,tX,N,E,fh,qU,gL,e1⟩:=NL aX;obtain⟨aj,bV,cK,fe⟩:=aX;obtain⟨_,fI,gr⟩:=bx;generalize cd:cX R C ax x (.order i t)=y at *
  have sM:∀aK g,io y aK g=io x aK g:=λaK g=>by unfold io;grind
  have M:∀aK,jy y aK=jy x aK:=λaK=>by unfold jy;grind
  refine⟨⟨λaK ab=>?_,λaK g ab A=>?_,λaK g ab A=>?_,λaK g ab A=>?_,λaK ab=>?_,λaK ab=>?_,λg A=>?_,?_,λaK ab=>?_⟩,λbR=>?_⟩
  ·by_cases e:aK=i
   ·grind
   ·rw[(gL aK e).1,(gL aK e).2.1];exact H.aq aK ab
  ·rw[sM];have:=H.h1 aK g ab A
   grind
  ·rw[l1,eq];exact H.ap aK g ab A
  ·rw[tX,eq];exact H.aH aK g ab A
  ·rw[M,N];exact H.bh aK ab
  ·rw[ui]
   by_cases e:aK=i
   ·grind
   ·rw[(gL aK e).1];exact H.b0 aK ab
  ·rw[A2];exact H.bg g A
  ·rw[A1];exact H.bU
  ·by_cases e:aK=i
   ·subst e;rw[qU];exact λ_ _=>⟨0,ee,rfl⟩
   ·rw[(gL aK e).1,(gL aK e).2.1,(gL aK e).2.2];exact H.b1 aK ab
  ·cases bR with
   |share aK g D =>
    by_cases cS:t<ax
    ·rw[e1,if_pos cS,wd];simp only[gH,sM,ne_eq,reduceCtorEq,kr,iv]
     by_cases e:aK=i
     ·subst e;rw[E];constructor
      ·grind
      ·rintro(⟨az,a2,a3,aZ,bI⟩|⟨k,hk,bK⟩)
       ·omega
       ·cases bK;exact⟨aj,hk,by have:=H.h1 _ _ aj hk;omega,J,J⟩
     grind
    ·rw[e1,if_neg cS];simp only[gH,sM,ne_eq,reduceCtorEq,kr,iv,s6,ks]
     grind
   |spread aK g D =>
    have I:cB.spread aK g D ∉ d4 R C ax x (.order i t):=aa
    simp only[gH,I,ks,l1,eq,ne_eq,reduceCtorEq,kr,iv]
   |dG aK g D =>
    have I:cB.dG aK g D ∉ d4 R C ax x (.order i t):=aa
    simp only[gH,I,ks,tX,eq,ne_eq,reduceCtorEq,kr,iv]
   |dH aK D =>
    have I:cB.dH aK D ∉ d4 R C ax x (.order i t):=aa
    simp only[gH,I,ks,M,N,ne_eq,reduceCtorEq,kr,iv]
   |order aK D =>
    have I:cB.order aK D ∉ d4 R C ax x (.order i t):=aa
    simp only[gH,I,ks,ui,ne_eq,cB.order.injEq]
    grind
end
def tY{aB:Type}(f:Nat->Nat->aB)(i j:Nat)(x:aB):Nat->Nat->aB:=up f i (up (f i) j x)
theorem qx(f:Nat->Nat->aB)(i j:Nat)(x:aB):tY f i j x i j=x:=by unfold tY;rw[g4,g4]
theorem qy{f:Nat->Nat->aB}{i:Nat}{x:aB}(h:¬(a=i/\b=j)):tY f i j x a b=f a b:=by
 unfold tY
 by_cases e:a=i
 ·subst e;rw[g4,hh J]
 ·rw[hh e]
theorem Pz{R C ax:Nat}{x:gi}{o:Nat->ac cB}:gH R C ax { x with out:=o } m=gH R C ax x m:=by cases m <;> rfl
theorem tj{C i oC:Nat}(h:i*C+j=aK*C+oC)(A:j<C)(g:oC<C):i=aK/\j=oC:=by
 have D:(i*C+j) / C=i:=by rw[xQ,Nat.mul_add_div J,Nj A,mM]
 have E:(aK*C+oC) / C=aK:=by rw[xQ,Nat.mul_add_div J,Nj g,mM]
 grind
theorem ps{R C i:Nat}(g:i<R)(A:j<C):i*C+j<R*C:=by
 have:(i+1)*C<=R*C:=ph C g
 grind
section
variable {R C ax:Nat} {x:gi} {cU:Nat->Nat->ac cB}
theorem Kd(g:0<C)(h:gH R C ax x m):m.src C<R*C/\m.dst C<R*C:=by
 cases m with
 |share i j t=>obtain⟨a,b,_⟩:=h;have:=ps  a g;have:=ps   (by omega:0<R) b;simp only[cB.src,cB.dst];omega
 |spread i j t=>obtain⟨a,b,_⟩:=h;have:=ps a b;simp only[cB.src,cB.dst];omega
 |dG i j t=>obtain⟨a,b,_⟩:=h;have:=ps a b;simp only[cB.src,cB.dst];omega
 |dH i t=>obtain⟨a,_⟩:=h;have:=ps  a g;simp only[cB.src,cB.dst];omega
 |order i t=>obtain⟨a,_⟩:=h;have:=ps  a g;simp only[cB.src,cB.dst];omega
structure oU (R C ax:Nat) (x:gi) (cU:Nat->Nat->ac cB):Prop where
 ord:Ord R C ax x
 eV:∀n m,m∈x.out n->m.src C=n/\gH R C ax x m
 dQ:∀n jZ m,m∈cU n jZ->m.src C=n/\m.dst C=jZ/\gH R C ax x m
 gu:∀m,gH R C ax x m->m∈x.out (m.src C)\/m∈cU (m.src C) (m.dst C)
 l2:∀n,(x.out n).Nodup
 vE:∀n jZ,(cU n jZ).Nodup
 nJ:∀n jZ m,m∈x.out n->m ∉ cU n jZ
theorem oU.pick(H:oU R C ax x cU){n:Nat}{r:ac cB}(h:x.out n=m::r):oU R C ax { x with out:=up x.out n r } (tY cU n (m.dst C) (cU n (m.dst C)++[m])):=by
 have I:m∈x.out n:=aa
 have bw:=H.l2 n;rw[h,List.nodup_cons]at bw;obtain⟨au,bD⟩:=H.eV n m I;have sub:∀k bR,bR∈up x.out n r k->bR∈x.out k/\¬(k=n/\bR=m):=λk bR g=>by
  by_cases e:k=n
  ·subst e;rw[g4]at g
   grind
  ·rw[hh e]at g;grind
 refine⟨⟨H.ord.aq,H.ord.h1,H.ord.ap,H.ord.aH,H.ord.bh,H.ord.b0,H.ord.bg,H.ord.bU,H.ord.b1⟩,λk bR g=>?_,λk A bR g=>?_,λbR D=>?_,λk=>?_,λk A=>?_,λk A bR g=>?_⟩
 ·rw[Pz];exact H.eV k bR aa
 ·rw[Pz]
  by_cases e:k=n/\A=m.dst C
  ·obtain⟨rfl,rfl⟩:=e;rw[qx,hs,jl]at g;rcases g with g|rfl
   ·exact H.dQ _ _ bR g
   ·exact⟨au,rfl,bD⟩
  ·rw[qy e]at g;exact H.dQ k A bR g
 ·rw[Pz]at D;rcases H.gu bR D with E|E
  ·by_cases e:bR=m
   ·subst e
    right
    rw[au,qx];simp
   ·left
    show bR∈up x.out n r (bR.src C)
    by_cases N:bR.src C=n
    ·rw[N,g4]
     grind
    ·rw[hh N];omega
  ·right
   by_cases e:bR.src C=n/\bR.dst C=m.dst C
   ·rw[e.1,e.2,qx,hs]
    grind
   ·rw[qy e];omega
 ·show(up x.out n r k).Nodup
  by_cases e:k=n
  ·subst e;rw[g4];grind
  ·rw[hh e];exact H.l2 k
 ·by_cases e:k=n/\A=m.dst C
  ·obtain⟨rfl,rfl⟩:=e;rw[qx,Nf];exact⟨H.vE _ _,by simp,λa dy b M=>by rw[jl]at M;subst M;intro e;subst e;exact H.nJ _ _ _ I dy⟩
  ·rw[qy e];exact H.vE k A
 ·obtain⟨Z,nk⟩:=sub k bR g
  by_cases e:k=n/\A=m.dst C
  ·obtain⟨rfl,rfl⟩:=e;rw[qx,hs,jl];rintro(E|rfl)
   ·exact H.nJ _ _ _ Z E
   grind
  ·rw[qy e];exact H.nJ k A bR Z
theorem YQ(h:bR∈d4 R C ax x m):bR.src C=m.dst C:=by
 cases m with
 |share i j t =>
  simp only[d4]at h
  split at h
  ·rw[wd]at h;obtain⟨k,_,rfl⟩:=h;rfl
  grind
 |spread i j t=>simp only[d4]at h;rw[jl]at h;subst h;rfl
 |dG i j t =>
  simp only[d4]at h
  split at h
  ·rw[jl]at h;subst h;rfl
  grind
 |dH i t =>
  simp only[d4]at h
  split at h
  ·rw[wd]at h;obtain⟨k,_,rfl⟩:=h;rfl
  grind
 |order i t =>
  simp only[d4]at h
  split at h
  ·rw[wd]at h;obtain⟨k,_,rfl⟩:=h;rfl
  grind
theorem N7{n:Nat}{f:Nat->cB}(h:∀a b,f a=f b->a=b):((List.range n).map f).Nodup:=by
 induction n with
 |zero=>simp
 |succ n g =>
  rw[q8,hr,Nf]
  grind
theorem aiX:(d4 R C ax x m).Nodup:=by
 cases m with
 |share i j t =>
  simp only[d4];split
  ·exact N7 aa
  ·simp
 |spread i j t=>simp only[d4];simp
 |dG i j t=>simp only[d4];grind
 |dH i t =>
  simp only[d4];split
  ·exact N7 aa
  ·simp
 |order i t =>
  simp only[d4];split
  ·exact N7 aa
  ·simp
theorem YR(g:m7 R C ax x m)(h:bR∈d4 R C ax x m):¬gH R C ax x bR:=by
 cases m with
 |share i j t =>
  simp only[d4]at h
  split at h
  ·rw[wd]at h;obtain⟨k,_,rfl⟩:=h;obtain⟨_,_,D,_⟩:=g;rintro⟨_,_,_,A⟩;omega
  grind
 |spread i j t =>
  simp only[d4]at h;rw[jl]at h;subst h;obtain⟨_,_,D,_⟩:=g;rintro⟨_,_,_,A⟩;omega
 |dG i j t =>
  simp only[d4]at h
  split at h
  ·rw[jl]at h;subst h;obtain⟨_,_,E,D,_⟩:=g;rintro⟨_,_,A⟩;rw[yq E]at A;omega
  grind
 |dH i t =>
  simp only[d4]at h
  split at h
  ·rw[wd]at h;obtain⟨k,_,rfl⟩:=h;obtain⟨_,D,_⟩:=g;rintro⟨_,_,A⟩;omega
  grind
 |order i t =>
  simp only[d4]at h
  split at h
  ·rw[wd]at h;obtain⟨k,_,rfl⟩:=h;obtain⟨_,_,D,_⟩:=g;rintro⟨_,_,_,A,_⟩;omega
  grind
theorem oU.PA(H:oU R C ax x cU)(ee:0<C)(ei:0<R){n A:Nat}{r:ac cB}(h:cU n A=m::r):oU R C ax (cX R C ax x m) (tY cU n A r):=by
 have bx:m∈cU n A:=aa
 have bw:=H.vE n A;rw[h,List.nodup_cons]at bw;obtain⟨au,N,bD⟩:=H.dQ n A m bx;obtain⟨aCF,I⟩:=step H.ord ee ei bD;have aX:=CB H.ord ee bD;have gL:(cX R C ax x m).out=up x.out A (x.out A++d4 R C ax x m):=by subst N;rfl
 have aBD:∀k bR,bR∈x.out k->bR≠m:=λk bR g e=>by subst e;have:=(H.eV k bR g).1;rw[au]at this;subst this;exact H.nJ _ _ _ g bx
 have M:∀k bR,bR∈(cX R C ax x m).out k↔bR∈x.out k\/(k=A/\bR∈d4 R C ax x m):=λk bR=>by
  rw[gL]
  by_cases e:k=A
  ·subst e;rw[g4,hs];simp
  ·rw[hh e];grind
 have aBE:∀k D bR,bR∈tY cU n A r k D->bR∈cU k D/\bR≠m:=λk D bR g=>by
  by_cases e:k=n/\D=A
  ·obtain⟨rfl,rfl⟩:=e;rw[qx]at g
   grind
  ·rw[qy e]at g;exact⟨g,λaP=>by subst aP;have:=H.dQ k D bR g;omega⟩
 refine⟨aCF,λk bR g=>?_,λk D bR g=>?_,λbR Z=>?_,λk=>?_,λk D=>?_,λk D bR g br=>?_⟩
 ·rw[M]at g;rcases g with g|⟨rfl,g⟩
  ·have:=H.eV k bR g;exact⟨this.1,(I bR).2 aa⟩
  ·exact⟨by rw[YQ g,N],(I bR).2 aa⟩
 ·obtain⟨E,ap⟩:=aBE k D bR g;have:=H.dQ k D bR E;exact⟨this.1,J,(I bR).2 aa⟩
 ·rw[M];rcases(I bR).1 Z with⟨E,ap⟩|E
  ·rcases H.gu bR E with aH|aH
   ·grind
   ·right
    by_cases e:bR.src C=n/\bR.dst C=A
    ·rw[e.1,e.2,qx]
     grind
    ·rw[qy e];omega
  ·exact .inl (.inr ⟨by rw[YQ E,N],E⟩)
 ·rw[gL]
  by_cases e:k=A
  ·subst e;rw[g4,Nf];exact⟨H.l2 _,aiX,λa dy b a1 e=>by subst e;exact YR aX a1 (H.eV _ a dy).2⟩
  ·rw[hh e];exact H.l2 k
 ·by_cases e:k=n/\D=A
  ·obtain⟨rfl,rfl⟩:=e;rw[qx];grind
  ·rw[qy e];exact H.vE k D
 ·obtain⟨E,ap⟩:=aBE k D bR br;rw[M]at g;rcases g with g|⟨rfl,g⟩
  ·exact H.nJ k D bR g E
  ·exact YR aX g (H.dQ _ _ _ E).2.2
theorem Ord.ended(H:Ord R C ax x)(ee:0<C)(ei:0<R)(h:∀m,¬gH R C ax x m){i:Nat}(g:i<R):x.a i=ax+1:=by
 have E:∀i,i<R->x.a i=x.V:=λi g=>by
  have:=H.b0 i g
  by_cases e:x.a i<x.V
  ·exact absurd ⟨g,cR _,e⟩ (h (.order i (x.a i)))
  omega
 have es:∀i j,i<R->j<C->x.a i<=io x i j\/ax<=io x i j:=λi j g A=>by
  by_cases e:io x i j<x.a i/\io x i j<ax
  ·exact absurd ⟨g,A,EE _,e.1,e.2⟩ (h (.share i j (io x i j+1)))
  omega
 have eq:∀i j,i<R->j<C->x.q i j=x.P j:=λi j g A=>by
  have:=H.ap i j g A
  by_cases e:x.q i j<x.P j
  ·exact absurd ⟨g,A,EE _,e⟩ (h (.spread i j (x.q i j+1)))
  omega
 have qU:∀i j,i<R->j<C->fS x i j=x.q i j:=λi j g A=>by
  have:=H.aH i j g A
  by_cases e:fS x i j<x.q i j
  ·exact absurd ⟨g,A,EE _,e⟩ (h (.dG i j (fS x i j+1)))
  omega
 have ej:∀i,i<R->jy x i=jz x i:=λi g=>by
  have:=H.bh i g
  by_cases e:jy x i<jz x i
  ·exact absurd ⟨g,cR _,e⟩ (h (.dH i (jy x i)))
  omega
 have iG:=E i g;have fe:=(H.aq i g).1
 by_cases bs:x.a i=ax+1
 ·omega
 exfalso;obtain⟨k,N,aI⟩:=H.bU;have I:∀i,i<R->x.w i=true:=λi g=>by
  cases I:x.w i with
  |true=>rfl
  |false =>
   have M:=E i g;obtain⟨j,A,bd⟩:=H.b1 i g I J;obtain⟨aBF,D,bn⟩:=H.bg j A;have aP:=qU i j g A;rw[Ky I,bd,Rs,eq i j g A]at aP;have Z:=es aBF j D A;unfold io at Z;rw[bn,Rs,E aBF D]at Z;have:=(H.aq i g).2.2 I;omega
 have M:=ej k N;rw[Dc aa]at M;unfold jy at M;rw[aI,Rs,E k N]at M;omega
def ms(R C t:Nat):Nat:=1+t*(2*R+C+2)
def gM(R C:Nat):cB->Nat
 | .share i j t=>ms R C (t-1)+R+j+1
 | .spread i j t=>ms R C (t-1)+R+C+i+1
 | .dG i j t=>ms R C (t-1)+2*R+C+1
 | .dH i t=>ms R C t
 | .order i t=>ms R C t+i+1
theorem oN(h:a<=b):ms R C a<=ms R C b:=by have:=ph (2*R+C+2) h;unfold ms;omega
theorem qu(h:a<b):ms R C a+2*R+C+2<=ms R C b:=by have:=ph (2*R+C+2) (Nat.succ_le_of_lt h);rw[EN]at this;unfold ms;omega
theorem auq(H:Ord R C ax x)(ee:0<C)(bx:gH R C ax x m){p:Nat}(bn:(d4 R C ax x m)[p]? = some bR):
  gM R C m+p+1<=gM R C bR/\∀l,gH R C ax x l->l.src C=m.dst C->gM R C l+p+1<=gM R C bR:=by
 have aX:=CB H ee bx;have ry:∀{n:Nat} {f:Nat->cB},((List.range n).map f)[p]? = some bR->p<n/\bR=f p:=aa
 have one:∀{y:cB},[y][p]? = some bR->p=0/\bR=y:=aa
 have st:∀{i j k:Nat},i*C=k*C+j->j<C->i=k/\j=0:=λ{i j k} h cb=>by have:=tj      J ee cb;omega
 cases m with
 |share i j t =>
  obtain⟨g,cb,cK,_,fe⟩:=aX;simp only[d4]at bn
  split at bn
  case isFalse=>grind
  obtain⟨hpR,rfl⟩:=ry bn;refine⟨by simp only[gM];omega,λl I N=>?_⟩;cases l with
  |share aK Z A =>
   obtain⟨D,E,M,aZ,bI⟩:=I;have b:=H.kQ D g g cb;have:=oN (R:=R) (C:=C) (J:A-1<=t-1);simp only[gM];omega
  |spread aK Z A =>
   obtain⟨D,E,M,aZ⟩:=I;have N:Z=j:=N;subst N;have:=qu (R:=R) (C:=C) (J:A-1<t-1);simp only[gM];omega
  |dG aK Z A =>
   obtain⟨D,E,M,aZ⟩:=I;have N:aK*C+Z=j:=N;obtain⟨rfl,rfl⟩:=tj  (i:=aK)  (aK:=0)  J E cb;have:=H.ap 0 Z D E;have:=qu (R:=R) (C:=C) (J:A-1<t-1);simp only[gM];omega
  |dH aK A =>
   obtain⟨D,E,M⟩:=I;have b:=H.kQ g D g cb;have:=oN (R:=R) (C:=C) (J:A<=t-1);simp only[gM];omega
  |order aK A =>
   obtain⟨D,E,M⟩:=I;have b:=H.kQ g g g cb;have:=oN (R:=R) (C:=C) (J:A<=t-1);simp only[gM];omega
 |spread i j t =>
  obtain⟨g,cb,cK,fe⟩:=aX;obtain⟨_,_,fI,gr⟩:=bx;simp only[d4]at bn;obtain⟨rfl,rfl⟩:=one bn;refine⟨by simp only[gM];omega,λl I N=>?_⟩;cases l with
  |share aK Z A =>
   obtain⟨D,E,M,aZ,bI⟩:=I;have b:=H.kQ D g g cb;have:=oN (R:=R) (C:=C) (J:A-1<=t-1);simp only[gM];omega
  |spread aK Z A =>
   obtain⟨D,E,M,aZ⟩:=I;have b:=H.kQ g g g cb;have b2:=H.kQ g g g E;have:=oN (R:=R) (C:=C) (J:A-1<=t-1);simp only[gM];omega
  |dG aK Z A =>
   obtain⟨D,E,M,aZ⟩:=I;have N:aK*C+Z=i*C+j:=N;obtain⟨rfl,rfl⟩:=tj N E cb;have:=qu (R:=R) (C:=C) (J:A-1<t-1);simp only[gM];omega
  |dH aK A =>
   obtain⟨D,E,M⟩:=I;have N:aK*C=i*C+j:=N;obtain⟨rfl,rfl⟩:=st N cb;have b:=H.kQ D D D cb;omega
  |order aK A =>
   obtain⟨D,E,M⟩:=I;have b:=H.kQ g g g cb;have:=oN (R:=R) (C:=C) (J:A<=t-1);simp only[gM];omega
 |dG i j t =>
  obtain⟨g,cb,bV,cK,h1t,fe,bd⟩:=aX;obtain⟨_,_,fI,gr⟩:=bx;simp only[d4]at bn
  split at bn
  case isFalse=>grind
  obtain⟨rfl,rfl⟩:=one bn;have fh:=yq bV;have aM:=qu (R:=R) (C:=C) (J:t-1<t);refine⟨by simp only[gM];omega,λl I N=>?_⟩;cases l with
  |share aK Z A =>
   obtain⟨D,E,M,aZ,bI⟩:=I;have b:=H.kQ D g g cb;have:=oN (R:=R) (C:=C) (J:A-1<=t-1);simp only[gM];omega
  |spread aK Z A =>
   obtain⟨D,E,M,aZ⟩:=I;have b:=H.kQ g g g E;have:=oN (R:=R) (C:=C) (J:A-1<=t-1);simp only[gM];omega
  |dG aK Z A =>
   obtain⟨D,E,M,aZ⟩:=I;have b:=H.kQ g D g E;have:=oN (R:=R) (C:=C) (J:A-1<=t-1);simp only[gM];omega
  |dH aK A =>
   obtain⟨D,E,M⟩:=I;have N:aK*C=i*C:=N;have:aK=i:=(st (j:=0) J ee).1;subst this;have:=oN (R:=R) (C:=C) (J:A<=t-1);simp only[gM];omega
  |order aK A =>
   obtain⟨D,E,M⟩:=I;have b:=H.kQ g g g cb;have:=oN (R:=R) (C:=C) (J:A<=t-1);simp only[gM];omega
 |dH i t =>
  obtain⟨g,cK,aI,fe⟩:=aX;simp only[d4]at bn
  split at bn
  case isFalse=>grind
  obtain⟨hpR,rfl⟩:=ry bn;refine⟨by simp only[gM];omega,λl I N=>?_⟩;cases l with
  |share aK Z A =>
   obtain⟨D,E,M,aZ,bI⟩:=I;have b:=H.kQ D g g E;have:=qu (R:=R) (C:=C) (J:A-1<t);simp only[gM];omega
  |spread aK Z A =>
   obtain⟨D,E,M,aZ⟩:=I;have b:=H.kQ g g g E;have:=qu (R:=R) (C:=C) (J:A-1<t);simp only[gM];omega
  |dG aK Z A =>
   obtain⟨D,E,M,aZ⟩:=I;have b:=H.kQ g D g E;have:=qu (R:=R) (C:=C) (J:A-1<t);simp only[gM];omega
  |dH aK A =>
   obtain⟨D,E,M⟩:=I;have b:=H.kQ g D g ee;have:=oN (R:=R) (C:=C) (J:A<=t);simp only[gM];omega
  |order aK A =>
   obtain⟨D,E,M⟩:=I;have:=qu (R:=R) (C:=C) (J:A<t);simp only[gM];omega
 |order i t =>
  obtain⟨g,bV,cK,fe⟩:=aX;simp only[d4]at bn
  split at bn
  case isFalse=>grind
  obtain⟨hpR,rfl⟩:=ry bn;have fh:=Dc bV;rw[show gM R C (.share i p (t+1))=ms R C t+R+p+1 from rfl];refine⟨by simp only[gM];omega,λl I N=>?_⟩;cases l with
  |share aK Z A =>
   obtain⟨D,E,M,aZ,bI⟩:=I;have N:aK*C=i*C:=N;have:aK=i:=(st (j:=0) J ee).1;subst this;have:=qu (R:=R) (C:=C) (J:A-1<t);simp only[gM];omega
  |spread aK Z A =>
   obtain⟨D,E,M,aZ⟩:=I;have b:=H.kQ g g g E;have:=qu (R:=R) (C:=C) (J:A-1<t);simp only[gM];omega
  |dG aK Z A =>
   obtain⟨D,E,M,aZ⟩:=I;have b:=H.kQ g D g E;have:=qu (R:=R) (C:=C) (J:A-1<t);simp only[gM];omega
  |dH aK A =>
   obtain⟨D,E,M⟩:=I;have N:aK*C=i*C:=N;have:aK=i:=(st (j:=0) J ee).1;subst this;have:=oN (R:=R) (C:=C) (J:A<=t);simp only[gM];omega
  |order aK A =>
   obtain⟨D,E,M⟩:=I;have b:=H.kQ g g g ee;have:=oN (R:=R) (C:=C) (J:A<=t);simp only[gM];omega
structure pP (R C n K:Nat) (x:gi) (cU:Nat->Nat->ac cB):Prop where
 t1:∀k p m,(x.out k)[p]? = some m->n+p+(if k<K then 1 else 0)<=gM R C m
 t2:∀k dw m,m∈cU k dw->n<=gM R C m
 t3:∀k dw,K<=k->cU k dw=[]
theorem pP.pick{n K:Nat}(D:pP R C n K x cU){r:ac cB}(h:x.out K=m::r):pP R C n (K+1) { x with out:=up x.out K r } (tY cU K (m.dst C) (cU K (m.dst C)++[m])):=by
 refine⟨λk p bR g=>?_,λk A bR g=>?_,λk A g=>?_⟩
 ·have g:(up x.out K r k)[p]? = some bR:=g
  by_cases e:k=K
  ·subst e;rw[g4]at g;have:=D.t1 k (p+1) bR aa
   grind
  ·rw[hh e]at g;have:=D.t1 k p bR g
   grind
 ·by_cases e:k=K/\A=m.dst C
  ·obtain⟨rfl,rfl⟩:=e;rw[qx,hs,jl]at g;rcases g with g|rfl
   ·exact D.t2 _ _ _ g
   ·have:=D.t1 k 0 bR aa;omega
  ·rw[qy e]at g;exact D.t2 _ _ _ g
 ·rw[qy J];exact D.t3 k A J
theorem pP.skip{n K:Nat}(D:pP R C n K x cU)(h:x.out K=[]):pP R C n (K+1) x cU:=by
 refine⟨λk p bR g=>?_,D.t2,λk A g=>D.t3 k A J⟩;have:=D.t1 k p bR g
 grind
theorem pP.PA{n K:Nat}(D:pP R C n K x cU)(H:oU R C ax x cU)(Z:0<C)(hm:R*C<=K){k I:Nat}{r:ac cB}(h:cU k I=m::r):pP R C n K (cX R C ax x m) (tY cU k I r):=by
 have bx:m∈cU k I:=aa
 obtain⟨au,bs,N⟩:=H.dQ k I m bx;have a1:=Kd Z N;refine⟨λA p bR g=>?_,λA E bR g=>?_,λA E g=>?_⟩
 ·have g:(up x.out (m.dst C) (x.out (m.dst C)++d4 R C ax x m) A)[p]? = some bR:=g
  by_cases e:A=m.dst C
  ·subst e;rw[g4]at g;rw[if_pos J]
   by_cases aP:p<(x.out (m.dst C)).length
   ·rw[uw aP]at g;have:=D.t1 _ p bR g
    grind
   ·rw[zr J]at g;obtain⟨en,fT⟩:=auq H.ord Z N g;have ia:=D.t2 _ _ _ bx;cases br:(x.out (m.dst C)).length with
    |zero=>omega
    |succ q =>
     rw[br]at fT;have M:∃l,(x.out (m.dst C))[q]? = some l:=⟨_,qi J⟩
     obtain⟨l,M⟩:=M;have h1:=D.t1 _ q l M;rw[if_pos J]at h1;have ap:=H.eV _ l (k1 M)
     grind
  ·rw[hh e]at g;exact D.t1 A p bR g
 ·by_cases e:A=k/\E=I
  ·obtain⟨rfl,rfl⟩:=e;rw[qx]at g;exact D.t2 _ _ bR (by rw[h];grind)
  ·rw[qy e]at g;exact D.t2 _ _ bR g
 ·by_cases e:A=k/\E=I
  ·omega
  ·rw[qy e];exact D.t3 _ _ g
theorem pP.next{n K:Nat}(D:pP R C n K x cU)(H:oU R C ax x cU)(E:0<C)(M:R*C<=K)(N:∀k I,cU k I=[]):pP R C (n+1) 0 x cU:=by
 refine⟨λk p m g=>?_,aa,aa⟩;have Z:=D.t1 k p m g;have A:=H.eV k m aa;have aH:=Kd E A.2
 grind
theorem aw8(H:Ord R C ax x)(I:0<C)(E:gH R C ax x m):gM R C m<=ms R C ax+R:=by
 have A:=CB H I E;cases m with
 |share i j t=>obtain⟨_,_,D,_,g⟩:=A;have:=qu (R:=R) (C:=C) (J:t-1<ax);simp only[gM];omega
 |spread i j t=>obtain⟨_,_,D,g⟩:=A;have:=qu (R:=R) (C:=C) (J:t-1<ax);simp only[gM];omega
 |dG i j t=>obtain⟨_,_,_,D,M,g,_⟩:=A;have:=qu (R:=R) (C:=C) (J:t-1<ax);simp only[gM];omega
 |dH i t=>obtain⟨_,D,_,g⟩:=A;have:=oN (R:=R) (C:=C) g;simp only[gM];omega
 |order i t=>obtain⟨D,_,_,g⟩:=A;have:=oN (R:=R) (C:=C) g;simp only[gM];omega
theorem oU.fin{n:Nat}(H:oU R C ax x cU)(D:pP R C n 0 x cU)(E:0<C)(M:0<R)(Z:ms R C ax+R<n){i:Nat}(N:i<R):x.a i=ax+1:=by
 refine H.ord.ended E M (λm A=>?_) N;have h1:=aw8 H.ord E A;rcases H.gu m A with g|g
 ·obtain⟨p,I⟩:=Et.1 g;have:=D.t1 _ p m I;omega
 ·rw[D.t3 _ _ J]at g;grind
theorem oU.more(H:oU R C ax x cU)(A:0<C)(E:0<R)(Z:∀k I,cU k I=[]){i:Nat}(M:i<R)(D:x.a i≠ax+1):∃k,k<R*C/\x.out k≠[]:=by
 apply xK;intro N;apply D;refine H.ord.ended A E (λm g=>?_) M;rcases H.gu m g with ap|ap
 ·exact N ⟨m.src C,(Kd A g).1,aa⟩
 grind
def mu(R C:Nat):gi:={ P:=λ_=>0,e2:=λ_=>lQ,q:=λ_ _=>0,a:=λ_=>0,d1:=λ_=>lQ,w:=λ_=>true,V:=0,fR:=lQ,out:=λn=>if n % C=0/\n<R*C then[.dH (n / C) 0]else[] }
theorem aw9(I:0<C)(M:0<R):oU R C ax (mu R C) (λ_ _=>[])/\pP R C 1 0 (mu R C) (λ_ _=>[]):=by
 have ej:∀i,jy (mu R C) i=0:=λi=>rfl;have es:∀i,jz (mu R C) i=1:=λi=>rfl;have qU:∀i j,fS (mu R C) i j=0:=λi j=>rfl;have Bu:∀i j,io (mu R C) i j=0:=λi j=>rfl;have Z:∀n m,m∈(mu R C).out n->∃i,i<R/\n=i*C/\m = .dH i 0:=λn m h=>by
  have h:m∈(if n % C=0/\n<R*C then[cB.dH (n / C) 0]else[]):=h
  split at h
  case isFalse=>cases h
  rename_i bw
  rw[jl]at h;have N:=Nat.div_add_mod n C;rw[bw.1,mM,xQ]at N;exact⟨n / C,by rw[Na I];omega,N.symm,h⟩
 have aCG:∀i,i<R->(mu R C).out (i*C)=[.dH i 0]:=λi A=>by show(if i*C % C=0/\i*C<R*C then[cB.dH (i*C / C) 0]else[])=_;rw[if_pos ⟨Nat.mul_mod_left i C,by have:=ps  A I;omega⟩,Nat.mul_div_cancel i I]
 refine⟨⟨⟨λi A=>⟨by show 0<=_;omega,λ_=>by show 0<=_;omega,λh=>by cases h⟩,aa,λi j _ _=>cR _,aa,aa,λi _=>cR _,λj _=>⟨0,M,rfl⟩,⟨0,M,rfl⟩,λi _ h=>by cases h⟩,λn m h=>?_,λn jZ m h=>(by cases h),λm D=>?_,λn=>?_,aa,aa⟩,⟨λk p m h=>?_,aa,aa⟩⟩
 ·obtain⟨i,A,rfl,rfl⟩:=Z n m h;exact⟨rfl,A,aa,aa⟩
 ·left
  cases m with
  |share i j t=>obtain⟨_,_,E,g,_⟩:=D;rw[Bu]at E;have g:t<=0:=g;omega
  |spread i j t=>obtain⟨_,_,E,g⟩:=D;have g:t<=0:=g;omega
  |dG i j t=>obtain⟨_,_,E,g⟩:=D;have g:t<=0:=g;omega
  |dH i t =>
   obtain⟨A,E,g⟩:=D;rw[es]at g;rw[show t=0 by omega];show _∈(mu R C).out (i*C)
   grind
  |order i t=>obtain⟨_,E,g⟩:=D;have g:t<0:=g;omega
 ·show(if n % C=0/\n<R*C then[cB.dH (n / C) 0]else[]).Nodup
  grind
 ·obtain⟨i,A,rfl,rfl⟩:=Z k m aa;rw[aCG i A]at h;cases p with
  |zero=>rw[if_neg J];simp[gM,ms]
  |succ p=>grind
end
section
variable {R C ax:Nat} {x:gi} {cU:Nat->Nat->ac cB}
def cB.code:cB->Nat
 | .share i j _=>i*8+j
 | .spread i j _=>64+(i*8+j)
 | .dG i j _=>128+(i*8+j)
 | .dH i _=>192+i
 | .order i _=>200+i
theorem amN(ei:R<=8)(ee:C<=8)(h:m7 R C ax x m)(ab:m7 R C ax x bR)(e:m.code=bR.code):m=bR:=by
 cases m with
 |share i j t =>
  obtain⟨E,Z,D,_⟩:=h;cases bR with
  |share aK N I =>
   obtain⟨g,A,M,_⟩:=ab;simp only[cB.code]at e
   grind
  |_=>exfalso;obtain⟨g,A,_⟩:=ab;simp only[cB.code]at e;omega
 |spread i j t =>
  obtain⟨E,Z,D,_⟩:=h;cases bR with
  |spread aK N I =>
   obtain⟨g,A,M,_⟩:=ab;simp only[cB.code]at e
   grind
  |_=>exfalso;obtain⟨g,A,_⟩:=ab;simp only[cB.code]at e;omega
 |dG i j t =>
  obtain⟨E,Z,_,D,_⟩:=h;cases bR with
  |dG aK N I =>
   obtain⟨g,A,_,M,_⟩:=ab;simp only[cB.code]at e
   grind
  |_=>exfalso;obtain⟨g,A,_⟩:=ab;simp only[cB.code]at e;omega
 |dH i t =>
  obtain⟨E,D,_⟩:=h;cases bR with
  |dH aK I =>
   obtain⟨g,M,_⟩:=ab;simp only[cB.code]at e
   grind
  |_=>exfalso;obtain⟨g,A,_⟩:=ab;simp only[cB.code]at e;omega
 |order i t =>
  obtain⟨E,_,D,_⟩:=h;cases bR with
  |order aK I =>
   obtain⟨g,_,M,_⟩:=ab;simp only[cB.code]at e
   grind
  |_=>exfalso;obtain⟨g,A,_⟩:=ab;simp only[cB.code]at e;omega
theorem aqN(E:R<=8)(A:C<=8)(h:m7 R C ax x m):m.code<208:=by
 cases m <;> (obtain⟨D,g,_⟩:=h;simp only[cB.code];omega)
theorem oU.len(H:oU R C ax x cU)(E:0<C)(I:R<=8)(M:C<=8)(n:Nat):(x.out n).length<=208:=by
 have D:∀m∈x.out n,m7 R C ax x m:=λm g=>CB H.ord E (H.eV n m g).2;have:=Fs 208 ((x.out n).map cB.code) (xM.2 ((H.l2 n).imp_of_mem λN Z A e=>A (amN I M (D _ N) (D _ Z) e))) λc a5=>by obtain⟨m,g,rfl⟩:=gO.1 a5;exact aqN I M (D m g)
 grind
def tu(R L:Nat)(a:Nat->Nat):Nat:=if ∀i,i<R->a i-1=L then L+1 else L
def vc(R:Nat)(x:gi)(L:Nat):Prop:=(∀i,i<R->L<=max 1 (x.a i))/\∃i,i<R/\max 1 (x.a i)=L
theorem vc.step{L:Nat}(H:vc R x L)(O:Ord R C ax x)(I:m7 R C ax x m):vc R (cX R C ax x m) (tu R L (cX R C ax x m).a):=by
 obtain⟨h1,g,hi0,ap⟩:=H;have same:∀y:gi,y.a=x.a->vc R y (tu R L y.a):=λy e=>by
  have bw:tu R L y.a=L:=by
   unfold tu
   grind
  rw[bw];exact⟨aa,g,hi0,aa⟩
 cases m with
 |share i j t=>obtain⟨_,_,e,_⟩:=Ja I;exact same _ e
 |spread i j t=>obtain⟨_,_,e,_⟩:=I4       ;exact same _ e
 |dG i j t=>obtain⟨_,_,_,_,e,_⟩:=I3 I;exact same _ e
 |dH i t=>obtain⟨_,_,_,_,e,_⟩:=Jd I;exact same _ e
 |order i t =>
  have hz:(cX R C ax x (.order i t)).a=up x.a i (x.a i+1):=rfl;have aj:i<R:=I.1;unfold vc;rw[hz];have M:∀k,k≠i->up x.a i (x.a i+1) k=x.a k:=λk hk=>hh hk;have a_s:up x.a i (x.a i+1) i=x.a i+1:=g4 _ _ _
  by_cases A:∀k,k<R->up x.a i (x.a i+1) k-1=L
  ·have:tu R L (up x.a i (x.a i+1))=L+1:=if_pos A
   grind
  ·have:tu R L (up x.a i (x.a i+1))=L:=if_neg A;rw[this];refine⟨λk hk=>?_,?_⟩
   ·grind
   ·by_cases e:g=i
    ·subst e
     by_cases aq:x.a g=0
     ·grind
     ·obtain⟨D,Z,N⟩:∃D,D<R/\up x.a g (x.a g+1) D-1≠L:=xK aa;have E:D≠g:=aa
      rw[M D E]at N;have dA:=O.b0 D Z;have b2:=O.bh g aj;have d2:jz x g<=x.a g+1:=by unfold jz;grind
      have fJ:x.V<=jy x g:=Nk _ _
      grind
    grind
theorem vc.le{L:Nat}(H:vc R x L)(O:Ord R C ax x):1<=L/\L<=ax+1:=by obtain⟨_,i,g,e⟩:=H;have:=(O.aq i g).1;omega
theorem vc.fin{L:Nat}(H:vc R x L)(h:∀i,i<R->x.a i=ax+1):L=ax+1:=by
 obtain⟨_,i,g,e⟩:=H
 grind
end
section
variable {P:Program} {s:ao} {f:FuncId} {args:ac X} {h:ae} {U:Nat} {K:bZ}
theorem ec.lt{B:Nat}{ai:cc}{w:World}(A:ec B ai (u h) w)(D:jY ai U){o:gm}(e:u h b=some o):b<U:=by
 rcases iI b U with g|g
 ·exact g
 ·have:=A.fresh D b g
  grind
theorem aD.plain{v:X}(aI:uV v=true)(N:aD P false f args h U (λD ab _=>D=v/\aA U h ab))(hm:K v h U):aD P s f args h U K :=
 kT.up ⟨N.1,λB ai w g E A dy n=>(N.2 B ai w g E A dy n).mono λe bc bK=>by obtain⟨D,ab,Y,bo,c,rfl,⟨rfl,Z⟩,I,M⟩:=bK;exact⟨D,h,U,ai,c,rfl,⟨rfl,rfl,rfl⟩,bJ.back (A.sub M) (ER aI ai) I,M.forget E A λb o e=>by rw[Z b (E.lt A e)];exact e⟩⟩ hm
theorem aD.nf{val:Nat->X}{cs:ac X}(Z:h2 cs=true)
  (D:∀(ai bo:cc) (b:Nat) (p:Place) (c:X),bo b=some p->ai U=some p->bJ bo (val b) c->bJ ai (val U) c)
  (a5:aD P false f args h U (λd7 ab _=>∃b,d7=val b/\U<=b/\u ab b=some (.cells cs false)/\aA U h ab)) (hm:K (val U) (T h U (.cells cs false)) (U+1)):aD P s f args h U K :=
 kT.up ⟨a5.1,λB ai w g ba bD dy n=>(a5.2 B ai w g ba bD dy n).mono λe bc bK=>by
  obtain⟨d7,ab,Y,bo,c,rfl,⟨b,rfl,a1,A,hk⟩,N,bx⟩:=bK;have E:=bx.rel.kS b aa;obtain⟨p,bn⟩:=lI.1 E;have nA:=bx.aqm ba bD (λb o e=>by rw[hk b (ba.lt bD e)];exact e) a1 bn A (by obtain⟨gv,h9,bT,ew,ea,M,ha,nm,zh,r4⟩:=bx.rel.obj b p _ bn A;refine⟨gv,h9,bT,ew,ea,M,ha,nm,λi x aX=>?_,r4⟩;obtain⟨fD,e,aI⟩:=zh i x aX;have I:=E1 Z (k1 aX);exact⟨fD,e,by rw[zI I aI];exact BW I _⟩)
  refine⟨val U,T h U (.cells cs false),U+1,(λk=>if k=U then some p else ai k),c,rfl,⟨rfl,rfl,rfl⟩,D _ bo b p c bn aa N,?_⟩;have:u (T h U (.cells cs false))=(λk=>if k=U then some (gm.cells cs false)else u h k):=funext λk=>vX h U _ k;rw[this];exact nA⟩ hm
theorem Je{n k:Nat}(ai bo:cc)(b:Nat)(p:Place)(c:X)(A:bo b=some p)(g:ai U=some p)(D:bJ bo (.slice (some ⟨b,0,some k⟩) n cap) c):bJ ai (.slice (some ⟨U,0,some k⟩) n cap) c:=by
 cases D with
 |oK h e=>rw[A]at h;cases h;exact .oK g e _ _
 |oL=>exact .oL _ _ _ _ _
theorem WH{n k:Nat}{lC:IntKind}{i:Int}(ai bo:cc)(b:Nat)(p:Place)(c:X)(D:bo b=some p)(A:ai U=some p)(E:bJ bo (.tuple ⟨[.slice (some ⟨b,0,some k⟩) n cap,.int lC i]⟩) c):bJ ai (.tuple ⟨[.slice (some ⟨U,0,some k⟩) n cap,.int lC i]⟩) c:=by
 cases E with
 |tuple h=>cases h with
  |cons a t=>cases t with
   |cons g t=>cases t with
    |nil =>
     cases g;exact .tuple (.cons (Je ai bo b p _ D A a) (.cons (.int _ _) .nil))
theorem ade{r c:Nat}(g:u h r=some (.map es c))(A:K (bb U) (T h U (.iter (some r) c [] c)) (U+1)):dm (sn h U (.map (some r))) K:=by unfold sn;simp only[g];exact A
theorem adg{it r g cL:Nat}(M:u h it=some (.iter (some r) g seen cL))(E:u h r=some (.map es cL))(D:∀e∈es,e.born<cL)(I:g=cL)(N:leftOf seen es=[]->K (.tuple #[.bool false]) h U)(Z:∀e∈leftOf seen es,e∈es->K (.tuple #[.bool true,e.key,e.val]) (T h it (.iter (some r) g (seen++[e.born]) cL)) U):vk false h U (bb it) K :=
 ⟨it,r,g,cL,cL,seen,es,rfl,rfl,M,E,aj6 D,N,λe A=>⟨by rw[I];exact D e (EZ A).1,Z e A (EZ A).1⟩⟩
end
section
variable {i0:Type} [DecidableEq i0] {cz:i0->X} {L rest:ac (i0 × X × Nat)} {h:ae} {U it r cL:Nat} {K:bZ}
theorem N8{seen:ac Nat}:∀{L:ac (i0 × X × Nat)} {e:i0 × X × Nat},L.Pairwise (λa b=>a.2.2<b.2.2)->e∈L.filter (λe=>decide (e.2.2 ∉ seen)) ->
  (L.filter λe=>decide (e.2.2 ∉ seen)).Perm (e::L.filter λx=>decide (x.2.2 ∉ seen++[e.2.2]))
 | [],e,_,h=>by cases h
 |x::L,e,E,h=>by
  have g:∀y∈L,x.2.2<y.2.2:=λy D=>s3 E D;have A:=M9 E;rw[q7]at h;rw[q7,q7]
  by_cases M:x.2.2∈seen
  ·rw[if_neg aa]at h;rw[if_neg aa,if_neg aa];exact N8 A h
  ·rw[if_pos aa]at h;rw[if_pos aa];rcases hD.1 h with rfl|h
   ·rw[if_neg aa];have:L.filter (λx=>decide (x.2.2 ∉ seen))=L.filter (λx=>decide (x.2.2 ∉ seen++[e.2.2])):=IM λy D=>by
     have:=g y D
     grind
    rw[this]
   ·have I:=sb.1 h;have:=g e I.1;rw[if_pos aa];exact((N8 A h).cons x).trans (List.Perm.swap ..)
theorem NH(seen:ac Nat):∀L:ac (i0 × X × Nat),leftOf seen (lq cz L)=lq cz (L.filter λe=>decide (e.2.2 ∉ seen))
 | []=>rfl
 |e::L=>by
  show leftOf seen (⟨cz e.1,e.2.1,e.2.2⟩::lq cz L)=_;rw[uG,NH seen L,q7]
  by_cases g:e.2.2∈seen
  ·rw[if_pos g,if_neg aa]
  ·rw[if_neg g,if_pos aa];rfl
def w8(h:ae)(it r:Nat)(cL:Nat)(L rest:ac (i0 × X × Nat)):Prop:=∃seen,u h it=some (.iter (some r) cL seen cL)/\rest=L.filter λe=>decide (e.2.2 ∉ seen)
theorem w8.F{ab:ae}(I:w8 h it r cL L rest)(g:u ab it=u h it):w8 ab it r cL L rest:=by obtain⟨seen,e,A⟩:=I;exact⟨seen,g.trans e,A⟩
theorem jd.ry(H:jd h r cz L cL)(g:∀ab,w8 ab U r cL L L->(∀c,c≠U->u ab c=u h c)->K (bb U) ab (U+1)):dm (sn h U (.map (some r))) K :=
 ade H.at_ (g _ ⟨[],aR _ _ _,(zx.2 (by simp)).symm⟩ λc A=>ar J)
theorem jd.fO(H:jd h r cz L cL)(I:w8 h it r cL L rest)(N:it≠r)(aq:rest=[]->K (.tuple #[.bool false]) h U)
  (h1:∀e g ab,e∈L->rest.Perm (e::g)->w8 ab it r cL L g->(∀c,c≠it->u ab c=u h c)->wj ab (bb it) = .ok (.tuple #[cz e.1,e.2.1])->K (.tuple #[.bool true,cz e.1,e.2.1]) ab U):
  vk false h U (bb it) K:=by
 obtain⟨seen,aj,rfl⟩:=I;obtain⟨A,Z⟩:=WD (Wg (cz:=cz) H.up H.lt);refine adg aj H.at_ Z rfl (λe=>aq ?_) λe E D=>?_
 ·rw[NH]at e;unfold lq at e;exact List.map_eq_nil_iff.1 e
 ·rw[NH]at E;obtain⟨x,M,rfl⟩:=gO.1 E;exact h1 x _ _ (sb.1 M).1 (N8 H.up M) ⟨_,aR _ _ _,rfl⟩ (λc a5=>ar J) (Xt (aR _ _ _) ((ar J).trans H.at_) A D)
end
noncomputable section
def Bv(b:ao)(p:Prop):Prop:=Bool.rec False p b
def Sc(f:ae->R X)(v:X)(p:Prop):Nat->ac ae->Prop
 |0,_=>p
 |n+1,h::au=>Bv (nv v (f h)) (Sc f v p n au)
 |_+1,[]=>False
def Ti(B:oy)(E:ac (Nat × aQ))(R:aQ)(n:Nat):aQ:=Nat.rec (λ_ _ _=>False) (λ_ fb aJ h U=>B aJ h U fb E R) n
section
variable (P:Program) (ip:FuncId->ac X->ae->Nat->bZ->Prop)
def Sd(r:fc)(k:bZ):Prop:=match r with
 | .call f args h U=>ip f args h U k
 |_=>False
def LF(e:vB)(ak:ck)(h:ae)(U:Nat)(k:bZ):Prop:=match e with
 | .fO _=>False
 | .call f args=>af (pB ak args) λl=>ip f l h U k
 | .Af f args=>af (ed ak f) λf=>af (pB ak args) λl=>Sd ip (hV h U l f) k
 | .inv r m args=>af (pB ak args) λl=>af (ed ak r) λv=>Sd ip (mc P h U l m v) k
 |e=>o7 P true e ak h U k
def Tj(d:ay Nat)(i:ng)(ak:ck)(h:ae)(U:Nat)(k:ck->ae->Nat->Prop):Prop:=match i with
 | .fz e=>LF P ip e ak h U λv h U=>k (eB ak d (some v)) h U
 |i=>nH P true d i ak h U k
def LG(l:ac lV):ck->ae->Nat->(ck->ae->Nat->Prop)->Prop :=
 List.rec (motive:=λ_=>ck->ae->Nat->(ck->ae->Nat->Prop)->Prop) (λak h U K=>K ak h U)
  (λi _ fb ak h U K=>mB i.g ak (λak=>Tj P ip i.d i.k ak h U λak h U=>fb ak h U K) (λak=>fb (eB ak i.d none) h U K)) l
def Se(d:ay Nat)(c:Nat)(i:ng)(ak:ck)(h:ae)(U:Nat)(b:ae)(au:ac ae)(k:ck->ae->Nat->ae->ac ae->Prop):Prop:=match i with
 | .red e=>af (pred P ak e b) λv=>Sc (pred P ak e) v (k (eB ak d (some v)) h U b au) c au
 | .fz (.st n a x)=>mZ P d c (.fz (.st n a x)) ak h U b au k
 | .fz (.yL d0 m key x)=>mZ P d c (.fz (.yL d0 m key x)) ak h U b au k
 | .fz e=>LF P ip e ak h U λv ab Y=>Bv (Nat.ble U Y) (k (eB ak d (some v)) ab Y ab (b::au))
 |i=>mZ P d c i ak h U b au k
def Hh(l:ac lV):ck->ae->Nat->ae->ac ae->(ck->ae->Nat->Prop)->Prop :=
 List.rec (motive:=λ_=>ck->ae->Nat->ae->ac ae->(ck->ae->Nat->Prop)->Prop) (λak h U _ _ K=>K ak h U)
  (λi _ fb ak h U b au K=>mB i.g ak (λak=>Se P ip i.d i.c i.k ak h U b au λak h U b au=>fb ak h U b au K)
   (λak=>Bool.rec (fb (eB ak i.d none) h U b au K) (fb (eB ak i.d none) h U h (b::au) K) (jn i.k))) l
def rJ(n:Nat)(eU:ac (ac Nat)):kF->Nat->ck->ae->Nat->iY->ac (Nat × iY)->iY->Prop
 | .skip,_,ak,h,U,N,_,_=>N ak h U
 | .exit id,_,ak,h,U,_,E,_=>kf E id ak h U
 | .ret,_,ak,h,U,_,_,R=>R ak h U
 | .scope c,i,ak,h,U,N,E,R=>rJ n eU c i ak h U N E R
 | .ty l,_,ak,h,U,N,_,_=>LG P ip l ak h U N
 | .C0 l,_,ak,h,U,N,_,_=>Hh P ip l ak h U h [] N
 | .xw _ _ _ _,_,_,_,_,_,_,_=>False
 | .seq a b,i,ak,h,U,N,E,R=>rJ n eU a i ak h U (λak h U=>rJ n eU b (i+hK a) ak h U N E R) E R
 | .block id c,i,ak,h,U,N,E,R=>rJ n eU c i ak h U N ((id,N)::E) R
 | .cond x a b,i,ak,h,U,N,E,R=>(match x with
  | .v v=>bt v (rJ n eU a i ak h U N E R) (rJ n eU b (i+hK a) ak h U N E R)
  | .t t=>(match hv ak t with
   |some (some v)=>bt v (rJ n eU a i ((t,some (.bool true))::ak) h U N E R) (rJ n eU b (i+hK a) ((t,some (.bool false))::ak) h U N E R)
   |_=>False))
 | .loop c,i,ak,h,U,_,E,R=>ox (ky eU i) ak λaJ=>Ti (λaJ h U N E R=>rJ n eU c (i+1) (rs (ky eU i) aJ 0) h U (tz (ky eU i) N) (wF (ky eU i) E) (tz (ky eU i) R))
   (vl (ky eU i) c E) (G4 (ky eU i) c R) n aJ h U
 | .no,_,_,_,_,_,_,_=>False
def ekF(n:Nat)(eU:ac (ac Nat))(f:FuncId)(args:ac X)(h:ae)(U:Nat)(K:bZ):Prop:=match yf P f with
 |some ni=>rJ P ip n eU ni.body 0 (yg args 0) h U (sw P ni.res K) [] (sw P ni.res K)
 |none=>False
def LH(ax:FuncId->ac (ac Nat))(dJ:FuncId->ay (ac X->ae->Nat->bZ->Prop))(n m:Nat):FuncId->ac X->ae->Nat->bZ->Prop :=
 Nat.rec (λ_ _ _ _ _=>False) (λ_ fb f args h U K=>match dJ f with
  |some g=>g args h U K
  |none=>ekF P fb n (ax f) f args h U K) m
end
end
section
variable {P:Program} {ip:FuncId->ac X->ae->Nat->bZ->Prop} {s:ao}
theorem Ag{b:ao}(h:Bv b p):b=true/\p:=by cases b <;> first|exact h.elim|exact⟨rfl,h⟩
theorem aaX{f:ae->R X}{v:X}{p:Prop}:∀{n:Nat} {g:ac ae},Sc f v p n g->oW f v p n g
 |0,_,h=>h
 |_+1,[],h=>h
 |n+1,x::A,h=>⟨(Ag h).1,aaX (n:=n) (Ag h).2⟩
theorem aaY(g:∀f args h U K,ip f args h U K->aD P s f args h U K){r:fc}{k:bZ}(h:Sd ip r k):fg P s r k:=by
 cases r <;> first|exact g _ _ _ _ _ h|exact h.elim
theorem adh(A:∀f args h U K,ip f args h U K->aD P s f args h U K){e:vB}{h:ae}{U:Nat}{k:bZ}(g:LF P ip e ak h U k):o7 P s e ak h U k:=by
 cases e with
 |fO x=>exact g.elim
 |call f args=>exact hU g λ_ h=>A _ _ _ _ _ h
 |Af f args=>exact hU g λ_ h=>hU h λ_ h=>aaY A h
 |inv r m args=>exact hU g λ_ h=>hU h λ_ h=>aaY A h
 |_=>exact g
theorem aur(A:∀f args h U K,ip f args h U K->aD P s f args h U K){i:ng}{h:ae}{U:Nat}{k:ck->ae->Nat->Prop}(g:Tj P ip d i ak h U k):nH P s d i ak h U k:=by
 cases i with
 |fz e=>rw[J9];exact adh A g
 |fy e=>cases e <;> exact g
 |_=>exact g
theorem QI(A:∀f args h U K,ip f args h U K->aD P s f args h U K):∀{l:ac lV} {ak:ck} {h:ae} {U:Nat} {k:ck->ae->Nat->Prop},LG P ip l ak h U k->p2 P s l ak h U k
 | [],_,_,_,_,g=>g
 |i::l,ak,h,U,k,g=>by have g:mB i.g ak (λak=>Tj P ip i.d i.k ak h U λak h U=>LG P ip l ak h U k) (λak=>LG P ip l (eB ak i.d none) h U k):=g;rw[JL];exact Ch g (λ_ h=>Pr (aur A h) λ_ _ _ h=>QI A (l:=l) h) (λ_ h=>QI A (l:=l) h)
theorem aqO(E:∀f args h U K,ip f args h U K->aD P true f args h U K){c:Nat}{i:ng}{h:ae}{U:Nat}{b:ae}{D:ac ae}{k:ck->ae->Nat->ae->ac ae->Prop}(A:Se P ip d c i ak h U b D k):mZ P d c i ak h U b D k:=by
 have g:∀{e:vB},LF P ip e ak h U (λv ab Y=>Bv (Nat.ble U Y) (k (eB ak d (some v)) ab Y ab (b::D)))->o7 P true e ak h U λv ab Y=>U<=Y/\k (eB ak d (some v)) ab Y ab (b::D):=
  λA=>JK (adh E A) λ_ _ _ h=>⟨lJ (Ag h).1,(Ag h).2⟩
 cases i with
 |red e=>exact hU A λv h=>by cases c <;> exact aaX h
 |fz e =>
  cases e with
  |st n a x=>exact A
  |yL d0 m g x=>exact A
  |_ =>
  rw[FI]
  first|exact g (e:=.fO _) A|exact g (e:=.ry _) A|exact g (e:=.call _ _) A|exact g (e:=.Af _ _) A|exact g (e:=.app _ _ _) A|exact g (e:=.bi _ _ _) A|exact g (e:=.inv _ _ _) A
 |fy e=>cases e <;> exact A
 |_=>exact A
theorem QJ(D:∀f args h U K,ip f args h U K->aD P true f args h U K):∀{l:ac lV} {ak:ck} {h:ae} {U:Nat} {b:ae} {g:ac ae} {k:ck->ae->Nat->Prop},Hh P ip l ak h U b g k->im P l ak h U b g k
 | [],_,_,_,_,_,_,A=>A
 |i::l,ak,h,U,b,g,k,A=>by
  have A:mB i.g ak (λak=>Se P ip i.d i.c i.k ak h U b g λak h U b g=>Hh P ip l ak h U b g k)
   (λak=>Bool.rec (Hh P ip l (eB ak i.d none) h U b g k) (Hh P ip l (eB ak i.d none) h U h (b::g) k) (jn i.k)):=A
  show mB i.g ak (λak=>mZ P i.d i.c i.k ak h U b g λak h U b g=>im P l ak h U b g k)
   (λak=>Bool.rec (im P l (eB ak i.d none) h U b g k) (im P l (eB ak i.d none) h U h (b::g) k) (jn i.k))
  refine Ch A (λ_ h=>YF (aqO D h) λ_ _ _ _ _ h=>QJ D (l:=l) h) (λ_ h=>?_);cases E:jn i.k <;> rw[E]at h <;> exact QJ D (l:=l) h
theorem aus{B A:oy}{E:ac (Nat × aQ)}{R:aQ}(er:∀g h U N I,B g h U N E R->(∀g h U,N g h U->I g h U)->A g h U I E R){n:Nat}{g:ac X}{h:ae}{U:Nat}(M:Ti B E R n g h U):bF A g h U E R:=by
 refine⟨λm g h U=>Ti B E R m g h U,n,M,λm g h U D=>?_⟩;cases m with
 |zero=>exact D.elim
 |succ m=>exact er _ _ _ _ _ D λg h U Z=>⟨m,J,Z⟩
theorem aut(ee:∀s f args h U K,ip f args h U K->aD P s f args h U K){n:Nat}{M:ac (ac Nat)}:∀(c:kF) {i:Nat} {ak:ck} {h:ae} {U:Nat} {N:iY} {E:ac (Nat × iY)} {R:iY},rJ P ip n M c i ak h U N E R->jh P s M c i ak h U N E R:=by
 intro c
 induction c with
 |skip=>intro i ak h U N E R g;exact g
 |exit id=>intro i ak h U N E R g;exact g
 |ret=>intro i ak h U N E R g;exact g
 |scope c I=>intro i ak h U N E R g;exact I g
 |ty l=>intro i ak h U N E R g;exact QI (ee s) g
 |C0 l=>intro i ak h U N E R g;exact QJ (ee true) g
 |no=>intro i ak h U N E R g;exact g.elim
 |xw f ce a b=>intro i ak h U N E R g;exact g.elim
 |seq a b A D=>intro i ak h U N E R g;exact Pt a (A g) (λ_ _ _ h=>D h) (λ_ _ _ _ h=>h) λ_ _ _ h=>h
 |block id c I=>intro i ak h U N E R g;exact I g
 |cond x a b A D =>
  intro i ak h U N E R g;cases x with
  |v v=>exact zR g (λh=>A h) (λh=>D h)
  |t t =>
   simp only[rJ,jh]at g ⊢
   split at g
   ·rename_i e
    rw[e];exact zR g (λh=>A h) (λh=>D h)
   ·exact g.elim
 |loop c I =>
  intro i ak h U N E R g;exact Ci g λZ br=>aus (λZ h U N N' a1 dT=>Pt c (I a1) (λ_ _ _ h=>Ci h λZ h=>dT _ _ _ h) (λ_ _ _ _ h=>h) λ_ _ _ h=>h) br
theorem adi(Z:pL P){ax:FuncId->ac (ac Nat)}{D:FuncId->ay (ac X->ae->Nat->bZ->Prop)}(M:∀f g,D f=some g->∀args h U K,g args h U K->∀s,aD P s f args h U K){n:Nat}:
  ∀(m:Nat) (s:ao) (f:FuncId) (args:ac X) (h:ae) (U:Nat) (K:bZ),LH P ax D n m f args h U K->aD P s f args h U K
 |0,_,_,_,_,_,_,A=>A.elim
 |m+1,s,f,args,h,U,K,A=>by
  have A:(match D f with
   |some g=>g args h U K
   |none=>ekF P (LH P ax D n m) n (ax f) f args h U K):=A
  cases I:D f with
  |some g=>rw[I]at A;exact M f g I _ _ _ _ A s
  |none =>
   rw[I]at A;refine aD.o1 Z (ax f) ?_;have A:(match yf P f with
    |some E=>rJ P (LH P ax D n m) n (ax f) E.body 0 (yg args 0) h U (sw P E.res K) [] (sw P E.res K)
    |none=>False):=A
   unfold oz;cases N:yf P f with
   |none=>rw[N]at A;exact A
   |some E=>rw[N]at A;exact aut (λs f args h U K hk=>adi Z M m s f args h U K hk) _ A
theorem aD.home{f:FuncId}{h:ae}{U:Nat}{b:ao}{K:bZ}(M:aD P false f [] iy 0 (λv _ _=>v = .bool b))(D:K (.bool b) h U):aD P s f [] h U K:=by
 refine kT.up ⟨M.1,λB ai w I ba bD N n=>?_⟩ D;cases N;have A:ec w.heap.size (λ_=>none) (u iy) w:=⟨cR _,λb p o h=>(by cases h),λb cr p eH h=>(by cases h),λb h=>by rw[Jq]at h;cases h⟩
 refine(M.2 w.heap.size _ w [] A (λb _=>rfl) .nil n).mono λe bc bK=>?_;obtain⟨v,ab,Y,bo,c,rfl,rfl,E,g⟩:=bK;cases E;exact⟨_,h,U,ai,_,rfl,⟨rfl,rfl,rfl⟩,.bool _,cC.still ba g.size g.os g.tape g.output λk D=>g.frame k D (by rintro⟨b,p,Z,_⟩;cases Z)⟩
end
section
variable {B:Nat} {ai bo:cc} {H gA:fm} {w bc:World} {U Y:Nat}
theorem cC.aqP(ba:ec B ai H w)(bD:jY ai U)(I:cC B ai H w U Y bo gA bc)(hk:∀b o,H b=some o->gA b=some o){m:Nat}{f:Nat->Nat}(w3:∀i,U<=i->i<m->U<=f i)(pM:∀i j,U<=i->i<m->U<=j->j<m->f i=f j->i=j)(LI:U<=m)
  (rD:∀i o p,U<=i->i<m->gA (f i)=some o->bo (f i)=some p->k8 B (λk=>if U<=k/\k<m then bo (f k)else ai k) bc p o):
  cC B ai H w U m (λk=>if U<=k/\k<m then bo (f k)else ai k) (λk=>if U<=k/\k<m then gA (f k)else H k) bc:=by
 have cS:∀k,(H k).isSome->k<U:=λk A=>by
  rcases iI k U with h|h
  ·exact h
  ·have:=ba.kS k A;rw[bD k h]at this;grind
 have n5:Sub ai (λk=>if U<=k/\k<m then bo (f k)else ai k):=λk q g=>by
  have:k<U:=by
   rcases iI k U with h|h
   ·exact h
   ·rw[bD k h]at g;cases g
  grind
 refine⟨⟨hJ ba.base I.size,λk q x g aX=>?_,λk M q kG g E A D Z bK=>?_,λk A=>?_⟩,λk hk=>?_,I.size,I.os,I.tape,I.output,I.frame,λk h=>?_,LI⟩
 ·by_cases e:U<=k/\k<m
  ·simp only[e,se,if_true]at g aX;exact rD k x q e.1 e.2 aX g
  ·simp only[if_neg e]at g aX;exact((ba.obj k q x g aX).back (bD.sub I) (I.rel.obj k q x (bD.sub I k q g) (hk k x aX))).mono n5 rfl
 ·have dZ:∀k q,ai k=some q->(H k).isSome->bo k=some q/\(gA k).isSome:=λk q g A=>by obtain⟨x,aX⟩:=lI.1 A;exact⟨bD.sub I k q g,by rw[hk k x aX];rfl⟩
  by_cases e:U<=k/\k<m
  ·simp only[e,se,if_true]at g A
   by_cases N:U<=M/\M<m
   ·simp only[N,se,if_true]at E D;exact pM k M e.1 e.2 N.1 N.2 (I.rel.inj _ _ _ _ g E A D Z bK)
   ·simp only[if_neg N]at E D;obtain⟨eV,dQ⟩:=dZ M kG E D;have:=I.rel.inj _ _ _ _ g eV A dQ Z bK;have:=cS M D;have:=w3 k e.1 e.2;omega
  ·simp only[if_neg e]at g A;obtain⟨eV,dQ⟩:=dZ k q g A
   by_cases N:U<=M/\M<m
   ·simp only[N,se,if_true]at E D;have:=I.rel.inj _ _ _ _ eV E dQ D Z bK;have:=cS k A;have:=w3 M N.1 N.2;omega
   ·simp only[if_neg N]at E D;exact ba.inj k M q kG g E A D Z bK
 ·by_cases e:U<=k/\k<m
  ·simp only[e,se,if_true]at A ⊢;exact I.rel.kS _ A
  ·simp only[if_neg e]at A ⊢;exact ba.kS k A
 ·have:¬(U<=k/\k<m):=J
  simp only[if_neg this]
 ·obtain⟨M,q,g,A,rfl,Z⟩:=h
  by_cases e:U<=M/\M<m
  ·simp only[e,se,if_true]at g A;rcases I.own q.ct ⟨f M,q,g,A,rfl,Z⟩with⟨ha,eF,h1,ap,aH,bh⟩|h
   ·exact .inl ⟨ha,eF,h1,ap,aH,bh⟩
   ·exact .inr h
  ·simp only[if_neg e]at g A;exact .inl ⟨M,q,g,A,rfl,Z⟩
end
section
variable {P:Program} {s:ao} {f:FuncId} {args:ac X} {h:ae} {U:Nat} {K:bZ}
theorem aD.sl2{val:Nat->Nat->X}{c1 c2:ac X}(h1:h2 c1=true)(ap:h2 c2=true)
  (M:∀(ai bo:cc) (g A:Nat) (cf kY:Place) (c:X),bo g=some cf->ai U=some cf->bo A=some kY->ai (U+1)=some kY->bJ bo (val g A) c->bJ ai (val U (U+1)) c)
  (a5:aD P false f args h U (λd7 ab _=>∃g A,d7=val g A/\U<=g/\U<=A/\g≠A/\u ab g=some (.cells c1 false)/\u ab A=some (.cells c2 false)/\aA U h ab)) (hm:K (val U (U+1)) (T (T h U (.cells c1 false)) (U+1) (.cells c2 false)) (U+1+1)):aD P s f args h U K :=
 kT.up ⟨a5.1,λB ai w E ba bD dy n=>(a5.2 B ai w E ba bD dy n).mono λe bc bK=>by
  obtain⟨d7,ab,Y,bo,c,rfl,⟨g,A,rfl,iB,fH,fk,N,Z,hk⟩,Hf,bx⟩:=bK;obtain⟨cf,tU⟩:=lI.1 (bx.rel.kS g aa);obtain⟨kY,I⟩:=lI.1 (bx.rel.kS A aa);have pl:∀{pN DC:cc} {p:Place} {cs:ac X},h2 cs=true->k8 B pN bc p (.cells cs false)->k8 B DC bc p (.cells cs false):=λ{pN DC p cs} mp D=>by obtain⟨gv,h9,bT,ew,ea,dB,ha,nm,zh,r4⟩:=D;refine⟨gv,h9,bT,ew,ea,dB,ha,nm,λi x aX=>?_,r4⟩;obtain⟨fD,e,aI⟩:=zh i x aX;have qG:=E1 mp (k1 aX);exact⟨fD,e,by rw[zI qG aI];exact BW qG _⟩
  have nA:=bx.aqP ba bD (λb o e=>by rw[hk b (ba.lt bD e)];exact e) (m:=U+2) (f:=λk=>if k=U then g else A) aa aa J (λi o p Tk hi2 D bn=>by
   by_cases e:i=U
   ·simp only[e,if_true]at D bn;rw[N]at D;cases D;exact pl h1 (bx.rel.obj g p _ bn N)
   ·simp only[if_neg e]at D bn;rw[Z]at D;cases D;exact pl ap (bx.rel.obj A p _ bn Z))
  refine⟨val U (U+1),T (T h U (.cells c1 false)) (U+1) (.cells c2 false),U+1+1,(λk=>if U<=k/\k<U+2 then bo (if k=U then g else A)else ai k),c,rfl,⟨rfl,rfl,rfl⟩,M _ bo g A cf kY c tU ?_ I ?_ Hf,?_⟩
  ·simp[tU]
  ·simp[I]
  have:u (T (T h U (.cells c1 false)) (U+1) (.cells c2 false))=(λk=>if U<=k/\k<U+2 then u ab (if k=U then g else A)else u h k):=funext λk=>by
   rw[vX,vX]
   grind
  rw[this];exact nA⟩ hm
theorem aim(ai bo:cc){U M I N c2 k:Nat}{i:Int}(A D:Nat)(E g:Place)(c:X)(h1:bo A=some E)(ap:ai U=some E)(aH:bo D=some g)(bh:ai (U+1)=some g)(aI:bJ bo (.tuple ⟨[.slice (some ⟨A,0,some k⟩) M N,.slice (some ⟨D,0,some k⟩) I c2,(i:X)]⟩) c):
  bJ ai (.tuple ⟨[.slice (some ⟨U,0,some k⟩) M N,.slice (some ⟨U+1,0,some k⟩) I c2,(i:X)]⟩) c:=by
 cases aI with
 |tuple h=>cases h with
  |cons a t=>cases t with
   |cons a2 t=>cases t with
    |cons Z t=>cases t with
     |nil =>
      cases Z;exact .tuple (.cons (Je ai bo A E _ h1 ap a) (.cons (Je ai bo D g _ aH bh a2) (.cons (.int _ _) .nil)))
end
end Go.Ax
