/- Parts of the proof: HwFn1: each statement bears its own conditions. -/
import Derived.Test.YthlhhajnbgjfmaaGreatProg
import Derived.KernelRfl
import Derived.Shelf.SlGeneric
import Derived.Test.YthlhhajnbgjfmaaGreatRwHw2
namespace Go.Proofs.YthlhhajnbgjfmaaGreat
open Go Go.Ax Go.Shelf Go.Proofs
set_option maxRecDepth 1000000
theorem mixed:Tryz.prog.follows .mixedOrders=true:=by kernel_rfl
theorem atV:Tryz.prog.funcs.toList.all GP=true:=by kernel_rfl
theorem Ik:ql Tryz.prog:=ql.of mixed atV
set_option linter.all false
set_option maxHeartbeats 1000000
variable {s:ak} {N R:aH} {a0:X} {aF:aH} {ax aZ bf a2 aV bl bo a3:X} {x a n:Int} {es:aa gS} {b:Int} {f:Nat} {dO:X} {i:Nat} {aO:av Nat} {cs:aa X} {dT hI:X} {r:Int} {aJ:aH} {cH cZ jN jz:X} {k cap:Nat} {e:gS} {k8 lT gC:X} {K:bD} {rB:X} {aY:aH} {y:Int}
theorem u28:Tryz.prog.underlying 53=some (.array 2 3):=by kernel_rfl
theorem yq:Tryz.prog.underlying 3=some (.int .i64):=by kernel_rfl
theorem k28:Tryz.prog.keyTypeAt 8 53=true:=by kernel_rfl
theorem c28:Tryz.prog.cellsOf 53=2:=by kernel_rfl
theorem cm:Tryz.prog.cellsOf 3=1:=by kernel_rfl
theorem Hg{k:IntKind}(g:k = .i64\/k = .u64){m:Nat}(h:m<4294967296):(Lit.int k (m:Int)).wf=true:=by
 rcases g with rfl|rfl <;> simp[Lit.wf,IntKind.min,IntKind.max,IntKind.bits,IntKind.signed] <;> omega
theorem aeR{a b:Nat}(C:a<2147483648)(D:b<2147483648):Tryz.prog.keyLits 8 53 [.int .i64 (a:Int),.int .i64 (b:Int)]=some [.int .i64 (a:Int),.int .i64 (b:Int)]:=by
 have B:=Hg (k:=.i64) (.inl rfl) (J:a<4294967296)
 have I:=Hg (k:=.i64) (.inl rfl) (J:b<4294967296)
 have g:∀m:Nat,m<4294967296->Tryz.prog.keyLits 7 3 [.int .i64 (m:Int)]=some [.int .i64 (m:Int)]:=λm A=>by unfold Program.keyLits;simp only[yq,Hg (k:=.i64) (.inl rfl) A,and_self,if_true]
 unfold Program.keyLits;simp only[u28,c28,cm,nM,CQ,Nat.reduceAdd,if_true];rw[show List.range 2=[0,1]from rfl];simp only[Ay,Ka,mx,tX,nO,JY,CN,tV,g a J,g b J];rfl
theorem Sy:LW Tryz.prog 53:=λx y V D=>by
 obtain⟨a,b,c⟩:=x;obtain⟨d,e,f⟩:=y;obtain⟨g,h1,al⟩:=vt V.1;obtain⟨A,M,bc⟩:=vt V.2.1;obtain⟨B,I,b9⟩:=vt D.1;obtain⟨C,Z,h7⟩:=vt D.2.1;simp only at h1 M I Z;subst h1 M I Z;show rj Tryz.prog 53 (.agg ⟨[(g:X),(A:X)]⟩) (.agg ⟨[(B:X),(C:X)]⟩)=_;have fk:∀a b:Int,(Value.agg ⟨[.int .i64 a,.int .i64 b]⟩).formed Tryz.prog 53=true:=λa b=>by simp[Value.formed,u28,c28]
 unfold rj;rw[k28,fk,fk];show(bif true&&(true&&true&&true&&true)then H3 (Tryz.prog.keyLits 8 53 [.int .i64 (g:Int),.int .i64 (A:Int)]) (Tryz.prog.keyLits 8 53 [.int .i64 (B:Int),.int .i64 (C:Int)])else none)=_;rw[aeR al bc,aeR b9 h7];show some ((mI .i64 .i64&&fN g B)&&((mI .i64 .i64&&fN A C)&&true))=some (fN B g&&fN C A);rw[wT,lo,lo,lo,lo]
 congr 1
 simp only[Bool.true_and,Bool.and_true];rw[Bool.beq_comm (a:=(g:Int)),Bool.beq_comm (a:=(A:Int))]
def EM:Field:={ name := "Hi",type:=2,offset:=0,embedded:=false,tag := "",pkgPath := "",byteOffset:=0 }
def EN:Field:={ name := "Lo",type:=188,offset:=1,embedded:=false,tag := "",pkgPath := "",byteOffset:=8 }
theorem Mu:Tryz.prog.underlying 272=some (.struct #[EM,EN]):=by kernel_rfl
theorem Ab:Tryz.prog.underlying 2=some (.int .i64):=by kernel_rfl
theorem ahj:Tryz.prog.underlying 188=some (.int .u64):=by kernel_rfl
theorem ahk:Tryz.prog.keyTypeAt 8 272=true:=by kernel_rfl
theorem agi:Df Tryz.prog 272=true:=by kernel_rfl
theorem Mv:Tryz.prog.cellsOf 272=2:=by kernel_rfl
theorem c2:Tryz.prog.cellsOf 2=1:=by kernel_rfl
theorem ahl:Tryz.prog.cellsOf 188=1:=by kernel_rfl
def cI(v:X)(U:Nat)(h:ad):bD:=λr ac Y=>r=v/\az U h ac/\U<=Y
abbrev fm(v:X)(U:Nat)(h:ad):bD:=λr ac Y=>r=v/\ac=h/\Y=U
theorem aeS:IntKind.wrap .i64 n=(if n % 18446744073709551616≥9223372036854775808 then n % 18446744073709551616-18446744073709551616 else n % 18446744073709551616):=by simp only[IntKind.wrap,IntKind.signed,IntKind.bits];simp
theorem acY{n:Nat}(C:n<4294967296):Tryz.prog.keyLits 8 272 (f1 n)=some [.int .i64 0,.int .u64 (n:Int)]:=by
 have B:(Lit.int .i64 0).wf=true:=Hg (k:=.i64) (m:=0) (.inl rfl) J
 have A:=Hg (k:=.u64) (.inr rfl) C;have g:Tryz.prog.keyLits 7 2 [.int .i64 0]=some [.int .i64 0]:=by unfold Program.keyLits;simp only[Ab,B,and_self,if_true]
 have two:Tryz.prog.keyLits 7 188 [.int .u64 (n:Int)]=some [.int .u64 (n:Int)]:=by unfold Program.keyLits;simp only[ahj,A,and_self,if_true]
 unfold Program.keyLits;simp only[Mu,Mv,f1,nM,CQ,Nat.reduceAdd];rw[if_pos ⟨trivial,by kernel_rfl⟩];show Option.map List.flatten (List.mapM (λf:Field=>Tryz.prog.keyLits 7 f.type (List.take (Tryz.prog.cellsOf f.type) (List.drop f.offset [.int .i64 0,.int .u64 (n:Int)]))) [EM,EN])=_;simp only[Ay,Ka,show EM.type=2 from rfl,show EN.type=188 from rfl,show EM.offset=0 from rfl,show EN.offset=1 from rfl,c2,ahl,nO,JY,CN,tV,g,two];rfl
noncomputable abbrev Q:Program:=Tryz.prog
instance:Inhabited GE:=⟨⟨0,0,0⟩⟩
def re(x y:GE):Int:=h4 [gb (x.f:Int) (y.f:Int),gb (x.t:Int) (y.t:Int)]
theorem l3:ql Q:=Ik
theorem Rg{P:Program}{aj:b8}{g:av Nat}{x:e2}:pred P aj (.ld g x)=λh=>Go.Ax.R.bind (dR aj x) λx=>im g h x:=rfl
theorem Rh{P:Program}{aj:b8}{x:e2}:pred P aj (.lens x)=λh=>Go.Ax.R.bind (dR aj x) λx=>xu x:=rfl
def EO(P:Program)(r:ResultVar):Nat × av (av (av Nat)):=match r with
 |.tmp t=>(t,none)
 |.cell a t=>(a,some (nb P t))
def Il(h:ad)(v:X)(g:av (av Nat)):Go.Ax.R X:=match g with
 |some g=>im g h v
 |none=>.no "type"
def ti(aj:b8)(h:ad):aa (Nat × av (av (av Nat)))->(aa X->Prop)->Prop
 |[],k=>k []
 |(t,none)::r,k=>ag (dR aj (.t t)) λv=>ti aj h r λl=>k (v::l)
 |(t,some g)::r,k=>ag (dR aj (.t t)) λv=>ag (Il h v g) λv=>ti aj h r λl=>k (v::l)
theorem Ri{P:Program}{aj:b8}{h:ad}:∀{l:aa ResultVar}{k:aa X->Prop},ti aj h (l.map (EO P)) k=ul P aj h l k
 |[],_=>rfl
 |.tmp t::l,k=>by
  show ag _ (λv=>ti aj h (l.map (EO P)) λl=>k (v::l))=ag _ λv=>ul P aj h l λl=>k (v::l)
  congr 1;funext v;exact Ri
 |.cell a t::l,k=>by
  show ag _ (λv=>ag (Il h v (nb P t)) λv=>ti aj h (l.map (EO P)) λl=>k (v::l))=ag _ λv=>ag (R.of "type" (nb P t) λg=>im g h v) λv=>ul P aj h l λl=>k (v::l)
  congr 1;funext v;congr 1
  ·cases nb P t<;>rfl
  ·funext v;exact Ri
def Nb(P:Program)(f:Nat):av (iE × aa (Nat × av (av (av Nat)))):=match vJ P f with
 |some c=>some (c.body,c.res.map (EO P))
 |none=>none
def zM(P:Program)(s:ak)(L:aa (aa Nat))(f:Nat)(l:aa X)(h:ad)(U:Nat)(K:bD):Prop:=match Nb P f with
 |some (b,r)=>Go.Ax.fP P s L b 0 (s4 l 0) h U (λaj h U=>ti aj h r λl=>K (r4 l) h U) [] (λaj h U=>ti aj h r λl=>K (r4 l) h U)
 |none=>False
theorem atW{P:Program}{s:ak}{L:aa (aa Nat)}{f:Nat}{l:aa X}{h:ad}{U:Nat}{K:bD}:zM P s L f l h U K=nD P s L f l h U K:=by
 unfold zM nD Nb;cases vJ P f with
 |none=>rfl
 |some c=>show Go.Ax.fP _ _ _ _ _ _ _ _ (λaj h U=>ti aj h (c.res.map (EO P)) λl=>K (r4 l) h U) [] (λaj h U=>ti aj h (c.res.map (EO P)) λl=>K (r4 l) h U)=_;simp only[Ri];rfl
theorem U8{a b:Nat}:Nat.beq a b=decide (a=b):=by
 cases h:Nat.beq a b
 ·exact (f9 λe=>by rw[e,tW] at h;cases h).symm
 ·exact (gz (g4 h)).symm
section
variable {P:Program}{s:ak}{L:aa (aa Nat)}{i:Nat}{aj:b8}{h:ad}{U:Nat}{N R:ig}{E:aa (Nat × ig)}
theorem U9:Go.Ax.fP P s L .skip i aj h U N E R=N aj h U:=rfl
theorem Va{k:Nat}:Go.Ax.fP P s L (.exit k) i aj h U N E R=jx E k aj h U:=rfl
theorem Vb:Go.Ax.fP P s L .ret i aj h U N E R=R aj h U:=rfl
theorem Vc{c:iE}:Go.Ax.fP P s L (.scope c) i aj h U N E R=Go.Ax.fP P s L c i aj h U N E R:=rfl
theorem Vd{l:aa lD}:Go.Ax.fP P s L (.ta l) i aj h U N E R=nC P s l aj h U N:=rfl
theorem Ve{l:aa lD}:Go.Ax.fP P s L (.Bl l) i aj h U N E R=hX P l aj h U h [] N:=rfl
theorem Vf{a b:iE}:Go.Ax.fP P s L (.seq a b) i aj h U N E R=Go.Ax.fP P s L a i aj h U (λaj h U=>Go.Ax.fP P s L b (i+Go.Ax.hh a) aj h U N E R) E R:=rfl
theorem Vg{k:Nat}{c:iE}:Go.Ax.fP P s L (.block k c) i aj h U N E R=Go.Ax.fP P s L c i aj h U N ((k,N)::E) R:=rfl
theorem Vh{v:X}{a b:iE}:Go.Ax.fP P s L (.cond (.v v) a b) i aj h U N E R=bJ v (Go.Ax.fP P s L a i aj h U N E R) (Go.Ax.fP P s L b (i+Go.Ax.hh a) aj h U N E R):=rfl
theorem Vi:Go.Ax.fP P s L .no i aj h U N E R=False:=rfl
theorem Vj{n:Nat}{a b:iE}:Go.Ax.fP P s L (.cond (.t n) a b) i aj h U N E R=match hG aj n with
 |some (some v)=>bJ v (Go.Ax.fP P s L a i ((n,some (.bool true))::aj) h U N E R) (Go.Ax.fP P s L b (i+Go.Ax.hh a) ((n,some (.bool false))::aj) h U N E R)
 |_=>False:=rfl
end
def Nc(P:Program)(s:ak)(L:aa (aa Nat))(c:iE)(i:Nat):ob:=λv h U N E R=>Go.Ax.fP P s L c (i+1) (nY (ij L i) v 0) h U (rb (ij L i) N) (r3 (ij L i) E) (rb (ij L i) R)
@[congr]theorem azP{P:Program}{s:ak}{L:aa (aa Nat)}{c:iE}{i:Nat}:Nc P s L c i=Nc P s L c i:=rfl
theorem Rj{P:Program}{s:ak}{L:aa (aa Nat)}{c:iE}{i:Nat}{aj:b8}{h:ad}{U:Nat}{N R:ig}{E:aa (Nat × ig)}:Go.Ax.fP P s L (.loop c) i aj h U N E R=lZ (ij L i) aj λv=>bq (Nc P s L c i) v h U (rk (ij L i) c E) (xN (ij L i) c R):=rfl
theorem Tj{L:aa Nat}{k:ig}:Et L k=λv h U=>k (nY L v 0) h U:=rfl
theorem Sz{L:aa Nat}{k:aH}:rb L k=λaj h U=>lZ L aj λv=>k v h U:=rfl
def N9(_:Prop):Prop:=True
theorem W9(g:Prop):N9 g:=trivial
theorem aBE(L:aa (aa Nat)){f:Nat}{s:ak}{l:aa X}{h:ad}{U:Nat}{K:bD}{g:bD->Prop}(w:g K)(t:∀k,zM Q s L f l h U k->N9 (g k):=by
 intro k w;unfold zM at w;conv at w in Nb _ _=>reduce
 simp(config:={maxSteps:=1000000})only[↓U9,↓Va,↓Vb,↓Vc,↓Vd,↓Ve,↓Vf,↓Vg,↓Vh,↓Vj,↓Vi,↓Rj,↓Go.Ax.nC,↓Go.Ax.mh,↓Go.Ax.nB,↓Go.Ax.lE,↓Go.Ax.hX,↓Go.Ax.lQ,Go.Ax.nX,Go.Ax.xx,Rg,Rh,Go.Ax.pred,Go.Ax.dR,Go.Ax.nW,Go.Ax.Bo,Go.Ax.zc,Go.Ax.co,Go.Ax.cos,Go.Ax.et,Go.Ax.yV,↓Sz,↓Tj,Go.Ax.r3,Go.Ax.rk,Go.Ax.jx,Go.Ax.lZ,Go.Ax.nY,Go.Ax.s4,ti,Il,Go.Ax.r4,Go.Ax.ij,Go.Ax.g7,Go.Ax.hh,Go.Ax.pr,Go.Ax.r2,Go.Ax.R.bind,xN,Go.Ax.Ci,Go.Ax.xk,Go.Ax.iS,U8,Bool.or_false,Bool.false_or,Kb,Bool.true_or,oy,lH,decide_true,CU,Go.Ax.aQ,Nat.reduceEqDiff,↓reduceIte,Nat.reduceAdd,Int.reduceOfNat,Int.reduceNegSucc,ix,reduceCtorEq,O0,Nat.zero_ne_one,id] at w
 exact W9 (type_of% w))(e:∀k,zM Q s L f l h U k=g k:=by intro k;kernel_rfl):aD Q s f l h U K:=aD.oU l3 L (by rw[<-atW,e K];exact w)
theorem aC0{p g:Prop}(w:g)(t:p->N9 g:=by
 intro w;simp only[Nc,↓U9,↓Va,↓Vb,↓Vc,↓Vd,↓Ve,↓Vf,↓Vg,↓Vh,↓Vj,↓Vi,↓Rj,↓Go.Ax.nC,↓Go.Ax.mh,↓Go.Ax.nB,↓Go.Ax.lE,↓Go.Ax.hX,↓Go.Ax.lQ,Go.Ax.nX,Go.Ax.xx,Rg,Rh,Go.Ax.pred,Go.Ax.dR,Go.Ax.nW,Go.Ax.Bo,Go.Ax.zc,Go.Ax.co,Go.Ax.cos,Go.Ax.et,Go.Ax.yV,↓Sz,↓Tj,Go.Ax.r3,Go.Ax.rk,Go.Ax.jx,Go.Ax.lZ,Go.Ax.nY,Go.Ax.s4,ti,Il,Go.Ax.r4,Go.Ax.ij,Go.Ax.g7,Go.Ax.hh,Go.Ax.pr,Go.Ax.r2,Go.Ax.R.bind,xN,Go.Ax.Ci,Go.Ax.xk,Go.Ax.iS,U8,Bool.or_false,Bool.false_or,Kb,Bool.true_or,oy,lH,decide_true,CU,Go.Ax.aQ,Nat.reduceEqDiff,↓reduceIte,Nat.reduceAdd,Int.reduceOfNat,Int.reduceNegSucc,ix,reduceCtorEq,O0,Nat.zero_ne_one,id] at w
 exact W9 (type_of% w))(e:p=g:=by kernel_rfl):p:=e▸w
theorem bS{f:Nat}{s:ak}{l:aa X}{h:ad}{U:Nat}{K:bD}{g:bD->Prop}(w:g K)(t:∀k,zM Q s [] f l h U k->N9 (g k):=by
 intro k w;unfold zM at w;conv at w in Nb _ _=>reduce
 simp(config:={maxSteps:=1000000})only[↓U9,↓Va,↓Vb,↓Vc,↓Vd,↓Ve,↓Vf,↓Vg,↓Vh,↓Vj,↓Vi,↓Rj,↓Go.Ax.nC,↓Go.Ax.mh,↓Go.Ax.nB,↓Go.Ax.lE,↓Go.Ax.hX,↓Go.Ax.lQ,Go.Ax.nX,Go.Ax.xx,Rg,Rh,Go.Ax.pred,Go.Ax.dR,Go.Ax.nW,Go.Ax.Bo,Go.Ax.zc,Go.Ax.co,Go.Ax.cos,Go.Ax.et,Go.Ax.yV,↓Sz,↓Tj,Go.Ax.r3,Go.Ax.rk,Go.Ax.jx,Go.Ax.lZ,Go.Ax.nY,Go.Ax.s4,ti,Il,Go.Ax.r4,Go.Ax.ij,Go.Ax.g7,Go.Ax.hh,Go.Ax.pr,Go.Ax.r2,Go.Ax.R.bind,xN,Go.Ax.Ci,Go.Ax.xk,Go.Ax.iS,U8,Bool.or_false,Bool.false_or,Kb,Bool.true_or,oy,lH,decide_true,CU,Go.Ax.aQ,Nat.reduceEqDiff,↓reduceIte,Nat.reduceAdd,Int.reduceOfNat,Int.reduceNegSucc,ix,reduceCtorEq,O0,Nat.zero_ne_one,id] at w
 exact W9 (type_of% w))(e:∀k,zM Q s [] f l h U k=g k:=by intro k;kernel_rfl):aD Q s f l h U K:=aBE [] w t e
def ay(h:ad)(n:Nat)(x:X)(k:X->Prop):Prop:=ag (xf n x) λd=>ag (im none h d) k
def nH(m:Nat)(h:ad)(n:Nat)(x:X)(k:X->Prop):Prop:=ag (xf n x) λd=>ag (im (some m) h d) k
def ea(h:ad)(n:Nat)(x i:X)(k:X->Prop):Prop:=ag (il (.slice n) x i) λd=>ag (im none h d) k
def hq(m:Nat)(h:ad)(n:Nat)(x i:X)(k:X->Prop):Prop:=ag (il (.slice n) x i) λd=>ag (im (some m) h d) k
def bT(o:BinOp)(t:TypeId)(a b:X)(p q:Prop):Prop:=ag (bin Q o t a b) λv=>bJ v p q
def lh(a:X)(p q:Prop):Prop:=ag (bin Q .neq 30 a (.int .i64 0)) λv=>bJ v p q
def cq(a b:X)(p q:Prop):Prop:=ag (bin Q .lss 3 a b) λv=>bJ v p q
def kA(a b:X)(p q:Prop):Prop:=ag (bin Q .gtr 3 a b) λv=>bJ v p q
def b3(a:X)(k:X->Prop):Prop:=ag (bin Q .add 3 a (.int .i64 1)) k
def o6(a b:X)(k:X->Prop):Prop:=ag (bin Q .add 3 a b) k
abbrev aAF:=ak->ad->Nat->bD->Prop
abbrev aBF(f:Nat)(d7:aAF):=∀{s  h U K},d7 s  h U K->aD Q s f [] h U K
theorem zf0{g:aAF}(L:aa (aa Nat))(e:∀s  h U K,nD Q s L f [] h U K=g s  h U K:=by intros;kernel_rfl):aBF f g:=λw=>aD.BT l3 L w (e _ _ _ _)
abbrev fw:=ak->X->ad->Nat->bD->Prop
abbrev fG(f:Nat)(d7:fw):=∀{s au h U K},d7 s au h U K->aD Q s f [au] h U K
theorem fO{g:fw}(L:aa (aa Nat))(e:∀s A h U K,nD Q s L f [A] h U K=g s A h U K:=by intros;kernel_rfl):fG f g:=λw=>aD.BT l3 L w (e _ _ _ _ _)
abbrev fH:=ak->X->X->ad->Nat->bD->Prop
abbrev fR(f:Nat)(d7:fH):=∀{s au t1 h U K},d7 s au t1 h U K->aD Q s f [au,t1] h U K
theorem fX{g:fH}(L:aa (aa Nat))(e:∀s A B h U K,nD Q s L f [A,B] h U K=g s A B h U K:=by intros;kernel_rfl):fR f g:=λw=>aD.BT l3 L w (e _ _ _ _ _ _)
abbrev i6:=ak->X->X->X->ad->Nat->bD->Prop
abbrev jl(f:Nat)(d7:i6):=∀{s au t1 t2 h U K},d7 s au t1 t2 h U K->aD Q s f [au,t1,t2] h U K
theorem jA{g:i6}(L:aa (aa Nat))(e:∀s B A C h U K,nD Q s L f [B,A,C] h U K=g s B A C h U K:=by intros;kernel_rfl):jl f g:=λw=>aD.BT l3 L w (e _ _ _ _ _ _ _)
abbrev Cn:=ak->X->X->X->X->ad->Nat->bD->Prop
abbrev Fq(f:Nat)(d7:Cn):=∀{s au t1 t2 t3 h U K},d7 s au t1 t2 t3 h U K->aD Q s f [au,t1,t2,t3] h U K
theorem Im{g:Cn}(L:aa (aa Nat))(e:∀s B D C A h U K,nD Q s L f [B,D,C,A] h U K=g s B D C A h U K:=by intros;kernel_rfl):Fq f g:=λw=>aD.BT l3 L w (e _ _ _ _ _ _ _ _)
abbrev Co:=ak->X->X->X->X->X->ad->Nat->bD->Prop
abbrev Fr(f:Nat)(d7:Co):=∀{s au t1 t2 t3 g0 h U K},d7 s au t1 t2 t3 g0 h U K->aD Q s f [au,t1,t2,t3,g0] h U K
theorem In{g:Co}(L:aa (aa Nat))(e:∀s C I D A B h U K,nD Q s L f [C,I,D,A,B] h U K=g s C I D A B h U K:=by intros;kernel_rfl):Fr f g:=λw=>aD.BT l3 L w (e _ _ _ _ _ _ _ _ _)
abbrev Oa:=ak->X->X->X->X->X->X->ad->Nat->bD->Prop
abbrev Xa(f:Nat)(d7:Oa):=∀{s au t1 t2 t3 g0 tN h U K},d7 s au t1 t2 t3 g0 tN h U K->aD Q s f [au,t1,t2,t3,g0,tN] h U K
theorem zf6{g:Oa}(L:aa (aa Nat))(e:∀s C M I A B D h U K,nD Q s L f [C,M,I,A,B,D] h U K=g s C M I A B D h U K:=by intros;kernel_rfl):Xa f g:=λw=>aD.BT l3 L w (e _ _ _ _ _ _ _ _ _ _)
def cf(o:BinOp)(t:TypeId)(a b:X)(k:X->Prop):Prop:=ag (bin Q o t a b) k
def bh(s:ak)(f:Nat)(l:aa X)(h:ad)(n:Nat)(k:bD):Prop:=aD Q s f l h n k
def c7(f:Nat)(l:aa X)(h:ad)(n:Nat)(k:bD):Prop:=aD Q true f l h n λv ac kx=>n<=kx/\k v ac kx
def bd:=And.intro @W6 (And.intro @cf.eq_1 (And.intro @b4.eq_1 (And.intro @dc.eq_1 (And.intro @a4.eq_1 (And.intro @f3.eq_1 (And.intro @cQ.eq_1 (And.intro @c7.eq_1 (And.intro @eX.eq_1 (And.intro @bh.eq_1 (And.intro @cK.eq_1 (And.intro @cJ.eq_1 (And.intro @kZ.eq_1 (And.intro @ae.eq_1 (And.intro @aS.eq_1 (And.intro @ay.eq_1 (And.intro @nH.eq_1 (And.intro @ea.eq_1 (And.intro @hq.eq_1 (And.intro @bT.eq_1 (And.intro @lh.eq_1 (And.intro @cq.eq_1 (And.intro @kA.eq_1 (And.intro @b3.eq_1 @o6.eq_1)))))))))))))))))))))))
theorem nU{p q:Prop}(h:q)(e:q->p:=by intro  h;simp(config:={maxSteps:=1000000})(disch:=omega)only[bd,↓reduceIte,Nat.reduceAdd,Nat.reduceSub,Nat.reduceMul,Nat.reduceLT,Nat.reduceLeDiff,Nat.reduceEqDiff,Int.reduceBEq,Int.reduceLT,Int.reduceNeg];exact h):p:=e  h
theorem mA{p q g:Prop}(a0:g)(h:q)(e:g->q->p:=by intro a0 h;simp(config:={maxSteps:=1000000})(disch:=omega)only[bd,↓reduceIte,Nat.reduceAdd,Nat.reduceSub,Nat.reduceMul,Nat.reduceLT,Nat.reduceLeDiff,Nat.reduceEqDiff,Int.reduceBEq,Int.reduceLT,Int.reduceNeg,a0];exact h):p:=e a0 h
theorem uj{p q A g:Prop}(a0:A)(ax:g)(h:q)(e:A->g->q->p:=by intro a0 ax h;simp(config:={maxSteps:=1000000})(disch:=omega)only[bd,↓reduceIte,Nat.reduceAdd,Nat.reduceSub,Nat.reduceMul,Nat.reduceLT,Nat.reduceLeDiff,Nat.reduceEqDiff,Int.reduceBEq,Int.reduceLT,Int.reduceNeg,a0,ax];exact h):p:=e a0 ax h
theorem Tk{p q B A g:Prop}(a0:B)(ax:A)(a2:g)(h:q)(e:B->A->g->q->p:=by intro a0 ax a2 h;simp(config:={maxSteps:=1000000})(disch:=omega)only[bd,↓reduceIte,Nat.reduceAdd,Nat.reduceSub,Nat.reduceMul,Nat.reduceLT,Nat.reduceLeDiff,Nat.reduceEqDiff,Int.reduceBEq,Int.reduceLT,Int.reduceNeg,a0,ax,a2];exact h):p:=e a0 ax a2 h
theorem L0{p q C B A g:Prop}(a0:C)(ax:B)(a2:A)(a3:g)(h:q)(e:C->B->A->g->q->p:=by intro a0 ax a2 a3 h;simp(config:={maxSteps:=1000000})(disch:=omega)only[bd,↓reduceIte,Nat.reduceAdd,Nat.reduceSub,Nat.reduceMul,Nat.reduceLT,Nat.reduceLeDiff,Nat.reduceEqDiff,Int.reduceBEq,Int.reduceLT,Int.reduceNeg,a0,ax,a2,a3];exact h):p:=e a0 ax a2 a3 h
theorem Tl{p q B g D A C:Prop}(a0:B)(ax:g)(a2:D)(a3:A)(aV:C)(h:q)(e:B->g->D->A->C->q->p:=by intro a0 ax a2 a3 aV h;simp(config:={maxSteps:=1000000})(disch:=omega)only[bd,↓reduceIte,Nat.reduceAdd,Nat.reduceSub,Nat.reduceMul,Nat.reduceLT,Nat.reduceLeDiff,Nat.reduceEqDiff,Int.reduceBEq,Int.reduceLT,Int.reduceNeg,a0,ax,a2,a3,aV];exact h):p:=e a0 ax a2 a3 aV h
theorem aB{p q:Prop}(h:q)(e:q->p:=by intro  h;simp(config:={maxSteps:=1000000})(disch:=omega)only[bd,seval];exact h):p:=e  h
theorem a9{p q g:Prop}(a0:g)(h:q)(e:g->q->p:=by intro a0 h;simp(config:={maxSteps:=1000000})(disch:=omega)only[bd,a0,seval];exact h):p:=e a0 h
theorem cx{p q A g:Prop}(a0:A)(ax:g)(h:q)(e:A->g->q->p:=by intro a0 ax h;simp(config:={maxSteps:=1000000})(disch:=omega)only[bd,a0,ax,seval];exact h):p:=e a0 ax h
theorem hw{p q B A g:Prop}(a0:B)(ax:A)(a2:g)(h:q)(e:B->A->g->q->p:=by intro a0 ax a2 h;simp(config:={maxSteps:=1000000})(disch:=omega)only[bd,a0,ax,a2,seval];exact h):p:=e a0 ax a2 h
theorem j6{p q C B A g:Prop}(a0:C)(ax:B)(a2:A)(a3:g)(h:q)(e:C->B->A->g->q->p:=by intro a0 ax a2 a3 h;simp(config:={maxSteps:=1000000})(disch:=omega)only[bd,a0,ax,a2,a3,seval];exact h):p:=e a0 ax a2 a3 h
theorem vR{p q B g D A C:Prop}(a0:B)(ax:g)(a2:D)(a3:A)(aV:C)(h:q)(e:B->g->D->A->C->q->p:=by intro a0 ax a2 a3 aV h;simp(config:={maxSteps:=1000000})(disch:=omega)only[bd,a0,ax,a2,a3,aV,seval];exact h):p:=e a0 ax a2 a3 aV h
theorem Bc{p q B g I A D C:Prop}(a0:B)(ax:g)(a2:I)(a3:A)(aV:D)(bl:C)(h:q)(e:B->g->I->A->D->C->q->p:=by intro a0 ax a2 a3 aV bl h;simp(config:={maxSteps:=1000000})(disch:=omega)only[bd,a0,ax,a2,a3,aV,bl,seval];exact h):p:=e a0 ax a2 a3 aV bl h
def aeT(s:ak)(K:bD)(bY cC dM:X)(ap:ad)(aX:Nat):Prop:=ay ap 2 bY λb=>ay ap 0 dM λd=>c7 79 [b,d] ap aX λe f g=>a4 2 f dM λi=>kZ 2 dM i (ag (a7 f 2 cC i) λj=>b4 3 bY λk=>dc j k λl=>eX k l (ag (xe (.int .i64) l) λm=>cf .rem 3 m (ae 4) λn=>b3 n λo=>b4 4 bY λp=>dc j p λq=>eX p q (ag (xe (.int .i64) q) λr=>cf .rem 3 r (ae 4) λt=>b3 t λaT=>a4 2 j cC λv=>K (.tuple ⟨[v,e,o,aT]⟩) j g) 2 [f,ap]) 2 [f,ap]) 1 [ap]
def make:fw:=λs au h U K=>cK au h U λa b c=>cJ [(ae 0),aS] b c λd e f=>nH 2 e 0 a λi=>bh s 78 [i] e f λj k l=>cJ [(ae 0),aS] k l λm n o=>ag (a7 n 2 m j) λp=>ay p 0 m λr=>bT .eql 3 r (ae 0) (ag (c8 [(ae 0),aS] [(0,1,(ae 1))]) λaT=>ag (a7 p 2 m aT) λv=>(aeT s K a d m v o)) (aeT s K a d m p o)
def right:fw:=λs au h U K=>cK au h U λa b c=>ag (.ok (Value.func (.func 163) ⟨[]⟩ ⟨[a]⟩)) λd=>cJ [.nilFunc] b c λe f g=>ag (a7 f 1 e d) λi=>ay i 0 a λk=>cq k (ae 0) (K (ae 3) i g) (ay i 0 a λn=>kA n (ae 4096) (K (ae 5) i g) (ay i 1 a λq=>cQ q λr=>kA r (ae 65536) (K (ae 5) i g) (ay i 1 a λv=>ag (.ok (Value.func (.func 165) ⟨[]⟩ ⟨[e]⟩)) λw=>bh s 164 [v,w] i g λx y z=>bJ x (K (ae 3) y z) (ay y 1 a λch=>bh s 164 [ch,(.func (.func 166) #[] #[])] y z λbV bp b2=>bJ bV (K (ae 7) bp b2) (K (ae 0) bp b2)))))
theorem atX:fG 83 right:=fO []
def SA:aa (aa Nat):=[[0,1,4,7,8]]
def acZ(s:ak)(a0 ax aV aZ bo:X)(h:ad)(U:Nat)(N:aH)(aF:aH)(R:aH):Prop:=cq bo aZ (hq 3 h 3 a0 bo λc=>gB Q s (jc h U [c] ax) λd e f=>bJ d (R [a0,ax,bo,aZ,bo] e f) (b3 bo λg=>N [a0,ax,aV,aZ,g] e f)) (aF [a0,ax,aV,aZ,bo] h U)
def index:fH:=λs au t1 h U K=>cQ au λa=>bq (bA Q s SA 255 0) [au,t1,(ae 0),a,(ae 0)] h U [(0,λb c d=>K (ae (-1)) c d)] (λe f g=>K (aQ e 2) f g)
theorem aqR{h:ad}{U:Nat}:bA Q s SA 255 0 [a0,ax,aV,aZ,bo] h U N [(0,aF)] R=acZ s a0 ax aV aZ bo h U N aF R:=by kernel_rfl
theorem atY:fR 255 index:=fX SA
def GW:aa (aa Nat):=[[1,2,3],[1,2,5]]
def aa6(s:ak)(ax a2 a3:X)(h:ad)(U:Nat)(N:aH)(aF:aH)(R:aH):Prop:=ay h 1 ax λb=>cQ b λc=>cq a3 c (ay h 1 ax λf=>hq 3 h 3 f a3 λi=>cJ [(ae 0),(ae 0),(ae 0)] h U λj k l=>ag (a7 k 3 j i) λm=>ay m 0 j λo=>cq o (ae 0) (R [ax,(ae 3),a3] m l) (ay m 0 j λr=>ay m 0 ax λaT=>bT .geq 3 r aT (R [ax,(ae 3),a3] m l) (ay m 1 j λx=>cq x (ae 0) (R [ax,(ae 3),a3] m l) (ay m 1 j λbX=>ay m 0 ax λbV=>bT .geq 3 bX bV (R [ax,(ae 3),a3] m l) (b3 a3 λb2=>N [ax,a2,b2] m l))))) (aF [ax,a2,a3] h U)
def aa7(s:ak)(ax a2 bl:X)(h:ad)(U:Nat)(N:aH)(aJ:aH)(R:aH):Prop:=ay h 1 ax λb=>cQ b λc=>cq bl c (ay h 1 ax λf=>f3 3 f bl λg=>ay h 2 g λj=>bT .lss 2 j (ae 0) (R [ax,(ae 7),bl] h U) (ay h 1 ax λm=>f3 3 m bl λn=>ay h 2 n λp=>bT .gtr 2 p (ae 2147483647) (R [ax,(ae 7),bl] h U) (b3 bl λr=>N [ax,a2,r] h U))) (aJ [ax,a2,bl] h U)
def Qp(s:ak)(K:bD)(bY Io:X)(ap:ad)(aX:Nat):Prop:=bJ Io (K (ae 5) ap aX) (bq (bA Q s GW 92 0) [bY,(ae 0),(ae 0)] ap aX [(0,λa b c=>bq (bA Q s GW 92 1) [(aQ a 0),(aQ a 1),(ae 0)] b c [(2,λd e f=>K (ae 0) e f)] (λg i j=>K (aQ g 1) i j))] (λk l m=>K (aQ k 1) l m))
def aeU:fw:=λs au h U K=>cK au h U λa b c=>ay b 0 a λe=>cq e (ae 0) (K (ae 3) b c) (ay b 0 a λi=>kA i (ae 4096) (Qp s K a (.bool true) b c) (ay b 1 a λl=>cQ l λm=>cf .gtr 3 m (ae 65536) λn=>(Qp s K a n b c)))
theorem ann{h:ad}{U:Nat}:bA Q s GW 92 0 [ax,a2,a3] h U N [(0,aF)] R=aa6 s ax a2 a3 h U N aF R:=by kernel_rfl
theorem ano{h:ad}{U:Nat}:bA Q s GW 92 1 [ax,a2,bl] h U N [(2,aJ)] R=aa7 s ax a2 bl h U N aJ R:=by kernel_rfl
theorem aqS:fG 92 aeU:=fO GW
def SB:aa (aa Nat):=[[0,1,4,5]]
def ac0(s:ak)(a0 ax aV bl:X)(h:ad)(U:Nat)(N:aH)(aF:aH)(R:aH):Prop:=cQ a0 λa=>cq bl a (ea h 1 a0 bl λd=>ea h 1 ax bl λf=>bT .neq 2 d f (R [a0,ax,(.bool false),bl] h U) (b3 bl λi=>N [a0,ax,aV,i] h U)) (aF [a0,ax,aV,bl] h U)
def agj:fH:=λs au t1 h U K=>cQ au λa=>cQ t1 λb=>bT .neq 3 a b (K (.bool false) h U) (bq (bA Q s SB 19 0) [au,t1,(.bool false),(ae 0)] h U [(0,λd e f=>K (.bool true) e f)] (λg i j=>K (aQ g 2) i j))
theorem aqT{h:ad}{U:Nat}:bA Q s SB 19 0 [a0,ax,aV,bl] h U N [(0,aF)] R=ac0 s a0 ax aV bl h U N aF R:=by kernel_rfl
theorem atZ:fR 19 agj:=fX SB
def uc:aa (aa Nat):=[[0,1,4,5,6,7,8],[0,1,4,5,6,7,8,9],[0,1,4,5,6,7,8,9,10,11],[4,5,6,7,12]]
def ac1(s:ak)(a0 ax aV bl bf aZ bo cH:X)(h:ad)(U:Nat)(N:aH)(aJ:aH)(R:aH):Prop:=cQ bf λa=>cq cH a (hq 3 h 3 bf cH λd=>hq 3 h 3 ax bo λf=>c7 266 [d,f] h U λg i j=>bJ g (b3 cH λk=>N [a0,ax,aV,bl,bf,aZ,bo,k] i j) (aJ [a0,ax,aV,bl,bf,aZ,bo,cH] i j)) (aJ [a0,ax,aV,bl,bf,aZ,bo,cH] h U)
def ac4(s:ak)(a0 ax aV bl bf aZ bo cH cZ dO:X)(h:ad)(U:Nat)(N:aH)(eC:aH)(R:aH):Prop:=kA dO cH (cf .sub 3 dO (ae 1) λb=>hq 3 h 3 bf b λd=>f3 3 bf dO λe=>ag (a7 h 3 e d) λf=>cf .sub 3 dO (ae 1) λg=>hq 2 f 2 aZ g λj=>f3 2 aZ dO λk=>ag (a7 f 2 k j) λl=>cf .sub 3 dO (ae 1) λm=>N [a0,ax,aV,bl,bf,aZ,bo,cH,cZ,m] l U) (eC [a0,ax,aV,bl,bf,aZ,bo,cH,cZ,dO] h U)
def Dp(s:ak)(N:aH)(aF:aH)(R:aH)(cu bY cR d3 dM fl iu:X)(ap:ad)(aX:Nat):Prop:=b3 iu λa=>N [cu,bY,cR,d3,dM,fl,a] ap aX
def ac5(s:ak)(a0 ax aV bl bf aZ bo:X)(h:ad)(U:Nat)(N:aH)(aF:aH)(R:aH):Prop:=cQ ax λa=>cq bo a (bq (bA Q s uc 173 1) [a0,ax,aV,bl,bf,aZ,bo,(ae 0)] h U [(2,λc d e=>f3 3 (aQ c 1) (aQ c 6) λf=>ay d 2 f λi=>bh s 267 [i] d e λj k l=>cJ [(ae 0),(.int .u64 0)] k l λm n o=>ag (a7 n 2 m j) λp=>cQ (aQ c 4) λq=>cq (aQ c 7) q (hq 3 p 3 (aQ c 1) (aQ c 6) λaT=>hq 3 p 3 (aQ c 4) (aQ c 7) λw=>c7 266 [aT,w] p o λx y z=>ag (d2 .not x) λbX=>bJ bX (hq 2 y 2 (aQ c 5) (aQ c 7) λbV=>a4 2 y m λbp=>c7 268 [(aQ c 0),bV,bp] y z λb2 cM bU=>f3 2 (aQ c 5) (aQ c 7) λdj=>ag (a7 cM 2 dj b2) λcP=>(Dp s N aF R (aQ c 0) (aQ c 1) (aQ c 2) (aQ c 3) (aQ c 4) (aQ c 5) (aQ c 6) cP bU)) (ag (c8 [(ae 0),(ae 0),(ae 0)] []) λd0=>ey (fU 1 [(ae 0),(ae 0),(ae 0)] [(0,3,d0)]) y z λdH eM am=>dB (dS (dv 3 eM am (aQ c 4) dH)) λan eR gM=>ag (c8 [(ae 0),(.int .u64 0)] []) λhC=>ey (fU 1 [(ae 0),(.int .u64 0)] [(0,2,hC)]) eR gM λhL i7 hS=>dB (dS (dv 2 i7 hS (aQ c 5) hL)) λhd pL l4=>cQ an λm5=>cf .sub 3 m5 (ae 1) λo7=>bq (bA Q s uc 173 2) [(aQ c 0),(aQ c 1),(aQ c 2),(aQ c 3),an,hd,(aQ c 6),(aQ c 7),m,o7] pL l4 [(4,λi9 cg sG=>f3 3 (aQ i9 1) (aQ i9 6) λbe=>ay cg 0 be λjD=>f3 3 (aQ i9 1) (aQ i9 6) λfS=>ay cg 1 fS λog=>ag (c8 [(ae 0),(ae 0),(ae 0)] [(0,1,jD),(1,1,og)]) λnF=>f3 3 (aQ i9 4) (aQ i9 7) λli=>ag (a7 cg 3 li nF) λi5=>a4 2 i5 (aQ i9 8) λtO=>f3 2 (aQ i9 5) (aQ i9 7) λaP=>ag (a7 i5 2 aP tO) λyr=>(Dp s N aF R (aQ i9 0) (aQ i9 1) (aQ i9 2) (aQ i9 3) (aQ i9 4) (aQ i9 5) (aQ i9 6) yr sG))] (λ_ _ _=>False))) (ag (c8 [(ae 0),(ae 0),(ae 0)] []) λeS=>ey (fU 1 [(ae 0),(ae 0),(ae 0)] [(0,3,eS)]) p o λCp gN la=>dB (dS (dv 3 gN la (aQ c 4) Cp)) λOb Xb f0=>ag (c8 [(ae 0),(.int .u64 0)] []) λqD=>ey (fU 1 [(ae 0),(.int .u64 0)] [(0,2,qD)]) Xb f0 λXc qE gK=>dB (dS (dv 2 qE gK (aQ c 5) Xc)) λge hn pM=>cQ Ob λnE=>cf .sub 3 nE (ae 1) λys=>bq (bA Q s uc 173 2) [(aQ c 0),(aQ c 1),(aQ c 2),(aQ c 3),Ob,ge,(aQ c 6),(aQ c 7),m,ys] hn pM [(4,λkW ke aBG=>f3 3 (aQ kW 1) (aQ kW 6) λcL=>ay ke 0 cL λnx=>f3 3 (aQ kW 1) (aQ kW 6) λXd=>ay ke 1 Xd λJt=>ag (c8 [(ae 0),(ae 0),(ae 0)] [(0,1,nx),(1,1,Jt)]) λJu=>f3 3 (aQ kW 4) (aQ kW 7) λOc=>ag (a7 ke 3 Oc Ju) λcs=>a4 2 cs (aQ kW 8) λXe=>f3 2 (aQ kW 5) (aQ kW 7) λOd=>ag (a7 cs 2 Od Xe) λme=>(Dp s N aF R (aQ kW 0) (aQ kW 1) (aQ kW 2) (aQ kW 3) (aQ kW 4) (aQ kW 5) (aQ kW 6) me aBG))] (λ_ _ _=>False)))] (λ_ _ _=>False)) (aF [a0,ax,aV,bl,bf,aZ,bo] h U)
def ac6(s:ak)(aV bl bf aZ dT:X)(h:ad)(U:Nat)(N:aH)(g1:aH)(R:aH):Prop:=cQ bf λa=>cq dT a (hq 2 h 2 aZ dT λd=>bh s 269 [d] h U λe f g=>ag (dz e 0) λi=>ag (dz e 1) λj=>ag (d2 .not j) λk=>bJ k (R [aS,(ae 12),bf,aZ,dT] f g) (f3 3 bf dT λl=>b4 2 l λm=>ag (a7 f 1 m i) λn=>b3 dT λo=>N [aV,bl,bf,aZ,o] n g)) (g1 [aV,bl,bf,aZ,dT] h U)
def agk:fH:=λs au t1 h U K=>bh s 265 [au] h U λa b c=>ag (d2 .not a) λd=>bJ d (K (.tuple ⟨[aS,(ae 8)]⟩) b c) (bq (bA Q s uc 173 0) [au,t1,aS,(ae 0),aS,aS,(ae 0)] b c [(0,λe f g=>bq (bA Q s uc 173 3) [(aQ e 2),(aQ e 3),(aQ e 4),(aQ e 5),(ae 0)] f g [(6,λi j k=>K (.tuple ⟨[(aQ i 2),(ae 0)]⟩) j k)] (λl m n=>K (.tuple ⟨[(aQ l 0),(aQ l 1)]⟩) m n))] (λ_ _ _=>False))
theorem aqU{h:ad}{U:Nat}:bA Q s uc 173 1 [a0,ax,aV,bl,bf,aZ,bo,cH] h U N [(2,aJ)] R=ac1 s a0 ax aV bl bf aZ bo cH h U N aJ R:=by kernel_rfl
theorem aqV{h:ad}{U:Nat}{g:aH}:bA Q s uc 173 2 [a0,ax,aV,bl,bf,aZ,bo,cH,cZ,dO] h U N [(4,g)] R=ac4 s a0 ax aV bl bf aZ bo cH cZ dO h U N g R:=by kernel_rfl
theorem aqW{h:ad}{U:Nat}:bA Q s uc 173 0 [a0,ax,aV,bl,bf,aZ,bo] h U N [(0,aF)] R=ac5 s a0 ax aV bl bf aZ bo h U N aF R:=by kernel_rfl
theorem aqX{h:ad}{U:Nat}{g:aH}:bA Q s uc 173 3 [aV,bl,bf,aZ,dT] h U N [(6,g)] R=ac6 s aV bl bf aZ dT h U N g R:=by kernel_rfl
theorem at0:fR 173 agk:=fX uc
def below:fH:=λs au t1 h U K=>cK au h U λa b c=>cK t1 b c λd e f=>ay e 0 a λi=>ay e 0 d λk=>cq i k (K (.bool true) e f) (ay e 0 a λn=>ay e 0 d λp=>bT .eql 3 n p (ay e 1 a λt=>ay e 1 d λv=>cf .lss 3 t v λw=>K w e f) (K (.bool false) e f))
theorem at1:fR 266 below:=fX []
def LF(s:ak)(K:bD)(cR d3 dM fl qI:X)(ap:ad)(aX:Nat):Prop:=bJ qI (a4 2 ap d3 λa=>a4 2 ap cR λb=>bh s 360 [a,b] ap aX λc d e=>cq c (ae 0) (a4 2 d d3 λg=>ag (a7 d 2 dM g) λi=>a4 2 i dM λj=>K j i e) (a4 2 d cR λk=>ag (a7 d 2 dM k) λl=>a4 2 l dM λm=>K m l e)) (bT .eql 234 fl (ae 2) (a4 2 ap cR λo=>ag (c8 [(ae 0),(.int .u64 0)] []) λp=>bT .neq 272 o p (bh s 361 [(.bool true)] ap aX λr t aT=>ag (a7 t 2 dM r) λv=>a4 2 v dM λw=>K w v aT) (a4 2 ap d3 λx=>ag (c8 [(ae 0),(.int .u64 0)] []) λy=>cf .neq 272 x y λz=>bh s 361 [z] ap aX λbX ch bV=>ag (a7 ch 2 dM bX) λbp=>a4 2 bp dM λb2=>K b2 bp bV)) (bT .eql 234 fl (ae 5) (a4 2 ap cR λbU=>a4 2 ap d3 λdj=>bh s 362 [bU,dj] ap aX λcP d0 dH=>ag (a7 d0 2 dM cP) λeM=>a4 2 eM dM λam=>K am eM dH) (ag (c8 [(ae 0),(.int .u64 0)] []) λan=>ag (a7 ap 2 dM an) λeR=>a4 2 eR dM λgM=>K gM eR aX)))
def ahm:i6:=λs au t1 t2 h U K=>cK t1 h U λa b c=>cK t2 b c λd e f=>cJ [(ae 0),(.int .u64 0)] e f λg i j=>bT .eql 234 au (ae 1) (LF s K a d g au (.bool true) i j) (bT .eql 234 au (ae 3) (LF s K a d g au (.bool true) i j) (cf .eql 234 au (ae 4) λm=>(LF s K a d g au m i j)))
theorem av6:jl 268 ahm:=jA []
def C1(s:ak)(K:bD)(cR Vk:X)(ap:ad)(aX:Nat):Prop:=bJ Vk (K (.tuple ⟨[cR,(.bool true)]⟩) ap aX) (K (.tuple ⟨[(ae 0),(.bool false)]⟩) ap aX)
def ac7:fw:=λs au h U K=>cK au h U λa b c=>ay b 1 a λe=>ag (xe (.int .i64) e) λf=>ay b 0 a λi=>bT .eql 2 i (ae 0) (bT .geq 2 f (ae 0) (C1 s K f (.bool true) b c) (ay b 0 a λm=>bT .eql 2 m (ae (-1)) (cf .lss 2 f (ae 0) λo=>(C1 s K f o b c)) (C1 s K f (.bool false) b c))) (ay b 0 a λq=>bT .eql 2 q (ae (-1)) (cf .lss 2 f (ae 0) λt=>(C1 s K f t b c)) (C1 s K f (.bool false) b c))
theorem anp:fG 269 ac7:=fO []
def LG(s:ak)(K:bD)(cC b6 Vk:X)(ap:ad)(aX:Nat):Prop:=bJ Vk (K (ae (-1)) ap aX) (a4 2 ap cC λa=>a4 2 ap b6 λb=>bT .eql 272 a b (K (ae 0) ap aX) (K (ae 1) ap aX))
def ahn:fH:=λs au t1 h U K=>cK au h U λa b c=>cK t1 b c λd e f=>ay e 0 a λi=>ay e 0 d λk=>bT .lss 2 i k (LG s K a d (.bool true) e f) (ay e 0 a λn=>ay e 0 d λp=>bT .eql 2 n p (ay e 1 a λt=>ay e 1 d λv=>cf .lss 188 t v λw=>(LG s K a d w e f)) (LG s K a d (.bool false) e f))
theorem av7:fR 360 ahn:=fX []
def sY(s:ak)(K:bD)(b6 cR:X)(ap:ad)(aX:Nat):Prop:=a4 2 ap b6 λa=>bh s 189 [a] ap aX λb c d=>ag (dz b 0) λe=>ag (dz b 1) λf=>ag (a7 c 5 cR e) λg=>a4 5 g cR λi=>K (.tuple ⟨[i,f]⟩) g d
def SC:fH:=λs au t1 h U K=>cK au h U λa b c=>cK t1 b c λd e f=>cJ [(ae 0),(ae 0),aS,aS,aS] e f λg i j=>a4 5 i a λk=>bh s 187 [k] i j λl m n=>lh l (ag (c8 [(ae 0),(ae 0),aS,aS,aS] []) λp=>ag (a7 m 5 g p) λq=>a4 5 q g λr=>K (.tuple ⟨[r,l]⟩) q n) (ay m 0 d λaT=>ay m 1 a λw=>bT .neq 3 aT w (ag (c8 [(ae 0),(ae 0),aS,aS,aS] []) λy=>ag (a7 m 5 g y) λz=>a4 5 z g λbX=>K (.tuple ⟨[bX,(ae 4)]⟩) z n) (a4 2 m d λch=>bh s 83 [ch] m n λbV bp b2=>lh bV (ag (c8 [(ae 0),(ae 0),aS,aS,aS] []) λbU=>ag (a7 bp 5 g bU) λdj=>a4 5 dj g λcP=>K (.tuple ⟨[cP,bV]⟩) dj b2) (ay bp 0 a λdH=>bT .eql 40 dH (ae 5) (a4 2 bp d λam=>bh s 182 [am] bp b2 λan eR gM=>ag (a7 eR 2 d an) λhC=>a4 2 hC d λhL=>bh s 181 [hL] hC gM λi7 hS hd=>ag (a7 hS 2 d i7) λpL=>a4 2 pL d λl4=>bh s 188 [l4] pL hd λm5 o7 i9=>ag (a7 o7 2 d m5) λcg=>(sY s K d g cg i9)) (bT .eql 40 dH (ae 3) (a4 2 bp d λbe=>bh s 181 [be] bp b2 λsH jD fS=>ag (a7 jD 2 d sH) λbi=>a4 2 bi d λog=>bh s 188 [og] bi fS λnF li i5=>ag (a7 li 2 d nF) λtO=>(sY s K d g tO i5)) (bT .eql 40 dH (ae 1) (a4 2 bp d λyr=>bh s 188 [yr] bp b2 λeS Cp gN=>ag (a7 Cp 2 d eS) λla=>(sY s K d g la gN)) (sY s K d g bp b2))))))
theorem ac8:fR 114 SC:=fX []
def AF(s:ak)(K:bD)(bY:X)(ap:ad)(aX:Nat):Prop:=ay ap 4 bY λb=>cQ b λc=>kA c (ae 65536) (K (ae 5) ap aX) (ay ap 4 bY λf=>bh s 278 [f,(.func (.func 279) #[] #[])] ap aX λg i j=>bJ g (K (ae 7) i j) (K (ae 0) i j))
def Ge(s:ak)(K:bD)(bY lU:X)(ap:ad)(aX:Nat):Prop:=bJ lU (K (ae 8) ap aX) (ay ap 1 bY λb=>bh s 277 [b,(ae 4096)] ap aX λc d e=>ag (d2 .not c) λf=>bJ f (K (ae 3) d e) (ay d 0 bY λi=>bT .eql 40 i (ae 4) (ay d 3 bY λl=>bh s 277 [l,(ae 8192)] d e λm n o=>ag (d2 .not m) λp=>bJ p (K (ae 3) n o) (ay n 2 bY λr=>ay n 1 bY λaT=>cf .sub 3 aT (ae 1) λv=>bh s 277 [r,v] n o λw x y=>ag (d2 .not w) λz=>bJ z (K (ae 3) x y) (AF s K bY x y))) (bT .eql 40 i (ae 1) (ay d 2 bY λbV=>ay d 1 bY λb2=>cf .sub 3 b2 (ae 1) λcM=>bh s 277 [bV,cM] d e λbU dj cP=>ag (d2 .not bU) λd0=>bJ d0 (K (ae 3) dj cP) (AF s K bY dj cP)) (bT .eql 40 i (ae 2) (ay d 2 bY λam=>ay d 1 bY λeR=>cf .sub 3 eR (ae 1) λgM=>bh s 277 [am,gM] d e λhC hL i7=>ag (d2 .not hC) λhS=>bJ hS (K (ae 3) hL i7) (AF s K bY hL i7)) (AF s K bY d e)))))
def ac9:fw:=λs au h U K=>cK au h U λa b c=>ay b 0 a λe=>bT .leq 40 e (ae 0) (Ge s K a (.bool true) b c) (ay b 0 a λi=>cf .gtr 40 i (ae 5) λj=>(Ge s K a j b c))
theorem anq:fG 187 ac9:=fO []
def at2:fH:=λs au t1 h U K=>bh s 366 [au,t1] h U λa b c=>cf .geq 3 a (ae 0) λd=>K d b c
theorem aqY:fR 278 at2:=fX []
def Rk:aa (aa Nat):=[[0,1,4,7,8]]
def aa8(s:ak)(a0 ax aV aZ bo:X)(h:ad)(U:Nat)(N:aH)(aF:aH)(R:aH):Prop:=cq bo aZ (ea h 1 a0 bo λc=>gB Q s (jc h U [c] ax) λd e f=>bJ d (R [a0,ax,bo,aZ,bo] e f) (b3 bo λg=>N [a0,ax,aV,aZ,g] e f)) (aF [a0,ax,aV,aZ,bo] h U)
def aeV:fH:=λs au t1 h U K=>cQ au λa=>bq (bA Q s Rk 366 0) [au,t1,(ae 0),a,(ae 0)] h U [(0,λb c d=>K (ae (-1)) c d)] (λe f g=>K (aQ e 2) f g)
theorem anr{h:ad}{U:Nat}:bA Q s Rk 366 0 [a0,ax,aV,aZ,bo] h U N [(0,aF)] R=aa8 s a0 ax aV aZ bo h U N aF R:=by kernel_rfl
theorem aqZ:fR 366 aeV:=fX Rk
def uw:fw:=λs au h U K=>cK au h U λa b c=>cJ [(ae 0),aS] b c λd e f=>a4 2 e a λg=>c7 274 [g] e f λi j k=>b4 1 a λl=>dc j l λm=>eX l m (ag (Bk 1 none i) λn=>ey (fU 2 [aS,aS] [(0,1,m),(1,1,n)]) j k λo p q=>c7 273 [o] p q λr t aT=>b4 0 a λv=>dc t v λw=>eX v w (ag (c8 [(ae 0),aS] [(0,1,w),(1,1,r)]) λx=>c7 98 [x] t aT λy z bX=>ag (a7 z 2 d y) λch=>a4 2 ch d λbV=>K bV ch bX) 2 [j,e]) 1 [e]
theorem av8:fG 181 uw:=fO []
def plain:fw:=λs au h U K=>cK au h U λa b c=>cJ [(ae 0),aS] b c λd e f=>a4 2 e a λg=>bh s 275 [g,(.func (.func 280) #[] #[])] e f λi j k=>ag (a7 j 2 d i) λl=>a4 2 l d λm=>K m l k
theorem at3:fG 188 plain:=fO []
def Tm:aa (aa Nat):=[[1,2,5,16,17,18]]
def SD(s:ak)(ax a2 bl hI k8 lT:X)(h:ad)(U:Nat)(N:aH)(aF:aH)(R:aH):Prop:=cq lT k8 (hq 3 h 3 hI lT λc=>cJ [(ae 0),(ae 0),(ae 0)] h U λd e f=>ag (a7 e 3 d c) λg=>ay g 0 d λj=>ay g 1 d λl=>ay g 2 d λn=>ag (c8 [(ae 0),(ae 0),(ae 0)] [(0,1,j),(1,1,l),(2,1,n)]) λo=>ey (fU 1 [(ae 0),(ae 0),(ae 0)] [(0,3,o)]) g f λp q r=>dB (dS (dv 3 q r bl p)) λt aT v=>b3 lT λw=>N [ax,a2,t,hI,k8,w] aT v) (aF [ax,a2,bl,hI,k8,lT] h U)
def T0:fw:=λs au h U K=>cK au h U λa b c=>cJ [(ae 0),(ae 0),aS,aS,aS] b c λd e f=>a4 2 e a λg=>bh s 83 [g] e f λi j k=>lh i (ag (c8 [(ae 0),(ae 0),aS,aS,aS] []) λm=>ag (a7 j 5 d m) λn=>a4 5 n d λo=>K (.tuple ⟨[o,i]⟩) n k) (a4 2 j a λp=>bh s 274 [p] j k λq r t=>ag (Bk 1 none q) λaT=>cQ aT λv=>bq (bA Q s Tm 189 0) [a,d,aS,aT,v,(ae 0)] r t [(0,λw x y=>ay x 0 (aQ w 0) λbX=>ay x 0 (aQ w 0) λbV=>bh s 281 [bX,bV,(aQ w 2)] x y λbp b2 cM=>ag (a7 b2 5 (aQ w 1) bp) λbU=>a4 5 bU (aQ w 1) λdj=>K (.tuple ⟨[dj,(ae 0)]⟩) bU cM)] (λ_ _ _=>False))
theorem aeW{h:ad}{U:Nat}:bA Q s Tm 189 0 [ax,a2,bl,hI,k8,lT] h U N [(0,aF)] R=SD s ax a2 bl hI k8 lT h U N aF R:=by kernel_rfl
theorem agl:fG 189 T0:=fO Tm
def GX:aa (aa Nat):=[[0,3,9,10,11],[6,25,26,27]]
def aa9(s:ak)(a0 a3 cH cZ dO:X)(h:ad)(U:Nat)(N:aH)(aF:aH)(R:aH):Prop:=cq dO cZ (ea h 1 cH dO λc=>cQ c λd=>o6 a3 d λe=>cq e (ae 0) (ag (.ok (Value.iface 9 (.string ⟨#[108,101,110,32,111,117,116,32,111,102,32,114,97,110,103,101]⟩))) λg=>False) (b3 dO λi=>N [a0,e,cH,cZ,i] h U)) (aF [a0,a3,cH,cZ,dO] h U)
def aba(s:ak)(bf lC mP x0:X)(h:ad)(U:Nat)(N:aH)(aJ:aH)(R:aH):Prop:=cq x0 mP (ea h 1 lC x0 λc=>dB (dS (dv 3 h U bf c)) λd e f=>b3 x0 λg=>N [d,lC,mP,g] e f) (aJ [bf,lC,mP,x0] h U)
def aeX:fw:=λs au h U K=>cQ au λa=>bq (bA Q s GX 273 0) [au,(ae 0),au,a,(ae 0)] h U [(0,λb c d=>bh s 364 [aS,(aQ b 1)] c d λe f g=>cQ (aQ b 0) λi=>bq (bA Q s GX 273 1) [e,(aQ b 0),i,(ae 0)] f g [(2,λj k l=>K (aQ j 0) k l)] (λ_ _ _=>False))] (λ_ _ _=>False)
theorem ans{h:ad}{U:Nat}:bA Q s GX 273 0 [a0,a3,cH,cZ,dO] h U N [(0,aF)] R=aa9 s a0 a3 cH cZ dO h U N aF R:=by kernel_rfl
theorem ant{B A g:X}{h:ad}{U:Nat}:bA Q s GX 273 1 [bf,B,A,g] h U N [(2,aJ)] R=aba s bf B A g h U N aJ R:=by kernel_rfl
theorem aq0:fG 273 aeX:=fO GX
def Tn:aa (aa Nat):=[[1,2,4,5,11,12,13]]
def aeY(s:ak)(ax a2 aV bl dO dT hW:X)(h:ad)(U:Nat)(N:aH)(aF:aH)(R:aH):Prop:=cq hW dT (hq 3 h 3 dO hW λc=>cJ [(ae 0),(ae 0),(ae 0)] h U λd e f=>ag (a7 e 3 d c) λg=>a4 3 g d λi=>gB Q s (jc g f [i] ax) λj k l=>ag (dz j 0) λm=>ag (dz j 1) λn=>cJ [(ae 0),(ae 0),(ae 0)] k l λo p q=>ag (a7 p 3 o m) λr=>bJ n (a4 3 r o λt=>ey (fU 1 [(ae 0),(ae 0),(ae 0)] [(0,3,t)]) r q λaT v w=>dB (dS (dv 3 v w bl aT)) λx y z=>b3 hW λbX=>N [ax,a2,aV,x,dO,dT,bX] y z) (b3 hW λch=>N [ax,a2,aV,bl,dO,dT,ch] r q)) (aF [ax,a2,aV,bl,dO,dT,hW] h U)
def aho:fH:=λs au t1 h U K=>cK au h U λa b c=>cJ [(ae 0),aS] b c λd e f=>ay e 1 a λi=>cQ i λj=>bq (bA Q s Tn 275 0) [t1,a,d,aS,i,j,(ae 0)] e f [(0,λk l m=>ay l 0 (aQ k 1) λo=>ag (c8 [(ae 0),aS] [(0,1,o),(1,1,(aQ k 3))]) λp=>bh s 98 [p] l m λq r t=>ag (a7 r 2 (aQ k 2) q) λaT=>a4 2 aT (aQ k 2) λv=>K v aT t)] (λ_ _ _=>False)
theorem at4{g:X}{h:ad}{U:Nat}:bA Q s Tn 275 0 [ax,a2,aV,bl,dO,dT,g] h U N [(0,aF)] R=aeY s ax a2 aV bl dO dT g h U N aF R:=by kernel_rfl
theorem av9:fR 275 aho:=fX Tn
def Hh:aa (aa Nat):=[[0,6,7,14,15,16],[6,7,44,45]]
def Rl(s:ak)(a0 bf aZ jN jz hI:X)(h:ad)(U:Nat)(N:aH)(aF:aH)(R:aH):Prop:=cq hI jz (hq 3 h 3 jN hI λc=>cJ [(ae 0),(ae 0),(ae 0)] h U λd e f=>ag (a7 e 3 d c) λg=>ay g 2 aZ λj=>ay g 0 d λl=>b3 l λm=>ea g 1 j m λo=>b3 o λp=>f3 1 j m λq=>ag (a7 g 1 q p) λr=>ay r 3 aZ λaT=>ay r 1 d λw=>ey (fU 1 [(ae 0)] [(0,1,w)]) r f λx y z=>dB (dS (dv 1 y z aT x)) λbX ch bV=>b4 3 aZ λbp=>ag (a7 ch 1 bp bX) λb2=>ay b2 4 aZ λbU=>ay b2 2 d λcP=>ey (fU 1 [(ae 0)] [(0,1,cP)]) b2 bV λd0 dH eM=>dB (dS (dv 1 dH eM bU d0)) λam an eR=>b4 4 aZ λgM=>ag (a7 an 1 gM am) λhC=>b3 hI λhL=>N [a0,bf,aZ,jN,jz,hL] hC eR) (aF [a0,bf,aZ,jN,jz,hI] h U)
def Rm(s:ak)(bf aZ zN EP:X)(h:ad)(U:Nat)(N:aH)(aJ:aH)(R:aH):Prop:=cq EP zN (ay h 2 aZ λc=>b3 EP λd=>ea h 1 c d λf=>ay h 2 aZ λi=>ea h 1 i EP λk=>o6 f k λl=>f3 1 c d λm=>ag (a7 h 1 m l) λn=>b3 EP λo=>N [bf,aZ,zN,o] n U) (aJ [bf,aZ,zN,EP] h U)
def To:i6:=λs au t1 t2 h U K=>cJ [(ae 0),(ae 0),aS,aS,aS] h U λa b c=>bh s 367 [au,t1] b c λd e f=>cJ [(ae 0),(ae 0),aS,aS,aS] e f λg i j=>ag (a7 i 5 g d) λk=>cQ t2 λl=>bq (bA Q s Hh 281 0) [au,a,g,t2,l,(ae 0)] k j [(0,λm n o=>bq (bA Q s Hh 281 1) [(aQ m 1),(aQ m 2),(aQ m 0),(ae 0)] n o [(2,λp q r=>a4 5 q (aQ p 1) λt=>ag (a7 q 5 (aQ p 0) t) λaT=>a4 5 aT (aQ p 0) λv=>K v aT r)] (λ_ _ _=>False))] (λ_ _ _=>False)
theorem ada{h:ad}{U:Nat}:bA Q s Hh 281 0 [a0,bf,aZ,jN,jz,hI] h U N [(0,aF)] R=Rl s a0 bf aZ jN jz hI h U N aF R:=by kernel_rfl
theorem adb{A g:X}{h:ad}{U:Nat}:bA Q s Hh 281 1 [bf,aZ,A,g] h U N [(2,aJ)] R=Rm s bf aZ A g h U N aJ R:=by kernel_rfl
theorem aeZ:jl 281 To:=jA Hh
def grow:fH:=λs au t1 h U K=>cq t1 (ae 0) (ag (.ok (Value.iface 9 (.string ⟨#[99,97,110,110,111,116,32,98,101,32,110,101,103,97,116,105,118,101]⟩))) λb=>False) (ag (HM Q 22 au) λc=>cQ au λd=>cf .sub 3 c d λe=>cf .sub 3 t1 e λf=>kA f (ae 0) (ag (HM Q 22 au) λi=>ag (iY 3 au none (some i) none) λj=>dB (dS (sV Q .append [22,3] h U [j,f])) λk l m=>cQ au λn=>ag (iY 3 k none (some n) none) λo=>K o l m) (K au h U))
theorem awa:fR 364 grow:=fX []
def C2(s:ak)(K:bD)(bY Vl:X)(ap:ad)(aX:Nat):Prop:=bJ Vl (K (.bool false) ap aX) (ay ap 0 bY λb=>bT .gtr 209 b (ae 0) (ay ap 0 bY λe=>cf .leq 209 e (ae 5) λf=>K f ap aX) (K (.bool false) ap aX))
def adc:fw:=λs au h U K=>cK au h U λa b c=>ay b 1 a λe=>bh s 156 [e,(ae 63)] b c λf g i=>ag (d2 .not f) λj=>bJ j (C2 s K a (.bool true) g i) (ay g 2 a λl=>bh s 156 [l,(ae 63)] g i λm n o=>ag (d2 .not m) λp=>bJ p (C2 s K a (.bool true) n o) (ay n 3 a λr=>bh s 156 [r,(ae 63)] n o λt aT v=>ag (d2 .not t) λw=>(C2 s K a w aT v)))
theorem anu:fG 159 adc:=fO []
def at5:fH:=λs au t1 h U K=>bh s 350 [au,t1] h U λa b c=>cf .geq 3 a (ae 0) λd=>K d b c
theorem aq1:fR 253 at5:=fX []
def Rn:aa (aa Nat):=[[0,1,4,7,8]]
def abb(s:ak)(a0 ax aV aZ bo:X)(h:ad)(U:Nat)(N:aH)(aF:aH)(R:aH):Prop:=cq bo aZ (hq 4 h 4 a0 bo λc=>gB Q s (jc h U [c] ax) λd e f=>bJ d (R [a0,ax,bo,aZ,bo] e f) (b3 bo λg=>N [a0,ax,aV,aZ,g] e f)) (aF [a0,ax,aV,aZ,bo] h U)
def ae0:fH:=λs au t1 h U K=>cQ au λa=>bq (bA Q s Rn 350 0) [au,t1,(ae 0),a,(ae 0)] h U [(0,λb c d=>K (ae (-1)) c d)] (λe f g=>K (aQ e 2) f g)
theorem anv{h:ad}{U:Nat}:bA Q s Rn 350 0 [a0,ax,aV,aZ,bo] h U N [(0,aF)] R=abb s a0 ax aV aZ bo h U N aF R:=by kernel_rfl
theorem aq2:fR 350 ae0:=fX Rn
def PO(s:ak)(K:bD)(bY cC tz:X)(ap:ad)(aX:Nat):Prop:=bJ tz (K (ae 0) ap aX) (ay ap 7 cC λb=>ay ap 8 cC λd=>o6 b d λe=>o6 e (ae 4) λf=>cf .mul 3 (ae 4) f λg=>o6 bY (ae 2) λi=>cf .mul 3 g i λj=>K j ap aX)
def ade:fH:=λs au t1 h U K=>cK au h U λa b c=>bh s 156 [t1,(ae 8192)] b c λd e f=>ag (d2 .not d) λg=>bJ g (PO s K t1 a (.bool true) e f) (a4 12 e a λi=>bh s 121 [i] e f λj k l=>cf .neq 30 j (ae 0) λm=>(PO s K t1 a m k l))
theorem anw:fR 75 ade:=fX []
def Qq(s:ak)(K:bD)(cu b6 cR:X)(ap:ad)(aX:Nat):Prop:=ay ap 1 b6 λb=>cQ b λc=>ay ap 0 b6 λe=>bh s 317 [cu,c,e] ap aX λf g i=>bT .eql 165 f (ae 2) (a4 2 g b6 λk=>bh s 318 [k] g i λl m n=>ag (c8 [(ae 0),(ae 0),aS,(ae 0),aS,aS] [(0,1,(ae 2)),(3,3,l)]) λo=>ag (a7 m 6 cR o) λp=>a4 6 p cR λq=>K q p n) (ay g 1 b6 λt=>c7 217 [t] g i λaT v w=>b4 0 b6 λx=>dc v x λy=>eX x y (ag (c8 [(ae 0),aS] [(0,1,y),(1,1,aT)]) λz=>ag (c8 [(ae 0),(ae 0),aS,(ae 0),aS,aS] [(0,1,(ae 1)),(1,2,z)]) λbX=>ag (a7 v 6 cR bX) λch=>a4 6 ch cR λbV=>K bV ch w) 1 [g])
def ae1:fH:=λs au t1 h U K=>cK t1 h U λa b c=>cJ [(ae 0),(ae 0),aS,(ae 0),aS,aS] b c λd e f=>a4 2 e a λg=>bh s 312 [g] e f λi j k=>ag (d2 .not i) λl=>bJ l (ag (c8 [(ae 0),aS] []) λm=>ag (a7 j 2 a m) λn=>(Qq s K au a d n k)) (Qq s K au a d j k)
theorem aq3:fR 226 ae1:=fX []
def KT(s:ak)(K:bD)(d3 dM:X)(ap:ad)(aX:Nat):Prop:=gB Q s (jc ap aX [] dM) λa b c=>ag (dz a 0) λd=>ag (dz a 1) λe=>lh e (K (.tuple ⟨[aS,(ae 0),e]⟩) b c) (K (.tuple ⟨[d,d3,e]⟩) b c)
def ae2:fw:=λs au h U K=>cK au h U λa b c=>nH 6 b 12 a λe=>c7 321 [e] b c λf g i=>b4 6 a λj=>a4 6 g j λk=>kZ 6 j k (c7 320 [k,f] g i λl m n=>b4 1 a λo=>a4 5 m o λp=>kZ 5 o p (c7 322 [p] m n λq r t=>b4 20 a λaT=>dc r aT λv=>eX aT v (c7 319 [v,l,q] r t λw x y=>a4 21 x a λz=>ag (.ok (.func (.func 323) ⟨[z]⟩ ⟨[]⟩)) λbX=>bT .eql 164 w (ae 2) (a4 21 x a λbV=>ag (.ok (.func (.func 324) ⟨[bV]⟩ ⟨[]⟩)) λbp=>(KT s K w bp x y)) (KT s K w bX x y)) 3 [m,g,b]) 2 [g,b]) 1 [b]
theorem aq4:fG 227 ae2:=fO []
def Gw:aa (aa Nat):=[[6,17,18,19],[6]]
def ZM(s:ak)(bf k8 lT n2:X)(h:ad)(U:Nat)(N:aH)(aF:aH)(R:aH):Prop:=cq n2 lT (ea h 1 k8 n2 λc=>bh s 328 [bf,c,n2] h U λd e f=>b3 n2 λg=>N [bf,k8,lT,g] e f) (aF [bf,k8,lT,n2] h U)
def ZN(s:ak)(bf:X)(h:ad)(U:Nat)(N:aH)(aJ:aH)(R:aH):Prop:=ag (cr bf) λa=>ay h 0 a λc=>bh s 329 [c] h U λd e f=>kA d (ae 0) (bh s 330 [bf] e f λi j k=>N [bf] j k) (aJ [bf] e f)
def aq5:fH:=λs au t1 h U K=>bh s 259 [au] h U λa b c=>ag (d2 .not a) λd=>bJ d (K (.tuple ⟨[aS,(ae 8)]⟩) b c) (bh s 325 [t1,(.func (.func 326) #[] #[])] b c λe f g=>bJ e (K (.tuple ⟨[aS,(ae 6)]⟩) f g) (ag (c8 [aS,(ae 0),aS] [(1,1,au)]) λi=>cK i f g λj k l=>cQ t1 λm=>bq (bA Q s Gw 229 0) [j,t1,m,(ae 0)] k l [(0,λn o p=>bq (bA Q s Gw 229 1) [(aQ n 0)] o p [(2,λq r t=>ag (cr (aQ q 0)) λaT=>ay r 2 aT λw=>K (.tuple ⟨[w,(ae 0)]⟩) r t)] (λ_ _ _=>False))] (λ_ _ _=>False)))
theorem akY{g:X}{h:ad}{U:Nat}:bA Q s Gw 229 0 [bf,k8,lT,g] h U N [(0,aF)] R=ZM s bf k8 lT g h U N aF R:=by kernel_rfl
theorem akZ{h:ad}{U:Nat}:bA Q s Gw 229 1 [bf] h U N [(2,aJ)] R=ZN s bf h U N aJ R:=by kernel_rfl
theorem anx:fR 229 aq5:=fX Gw
def Ro:aa (aa Nat):=[[0,1,2,7]]
def KU(s:ak)(N:aH)(aF:aH)(R:aH)(cu bY cC fl qI lU Vm:X)(ap:ad)(aX:Nat):Prop:=bJ Vm (gB Q s (p0 Q ap aX [lU,fl] "Less" cu) λa b c=>ag (d2 .not a) λd=>bJ d (aF [cu,bY,cC,fl] b c) (gB Q s (p0 Q b c [fl,lU] "Swap" cu) λe f g=>N [cu,bY,cC,lU] f g)) (gB Q s (p0 Q ap aX [qI,fl] "Less" cu) λi j k=>ag (d2 .not i) λl=>bJ l (aF [cu,bY,cC,fl] j k) (gB Q s (p0 Q j k [fl,qI] "Swap" cu) λm n o=>N [cu,bY,cC,qI] n o))
def KV(s:ak)(N:aH)(aF:aH)(R:aH)(cu bY cC fl iu tA:X)(ap:ad)(aX:Nat):Prop:=bJ tA (aF [cu,bY,cC,fl] ap aX) (b3 iu λa=>cq a cC (gB Q s (p0 Q ap aX [a,iu] "Less" cu) λc d e=>(KU s N aF R cu bY cC fl iu a c d e)) (KU s N aF R cu bY cC fl iu a (.bool false) ap aX))
def abc(s:ak)(a0 ax a2 aZ:X)(h:ad)(U:Nat)(N:aH)(aF:aH)(R:aH):Prop:=cf .mul 3 (ae 2) aZ λa=>b3 a λb=>bT .geq 3 b a2 (KV s N aF R a0 ax a2 aZ b (.bool true) h U) (cf .lss 3 b (ae 0) λd=>(KV s N aF R a0 ax a2 aZ b d h U))
def at6:i6:=λs au t1 t2 h U K=>bq (bA Q s Ro 257 0) [au,t1,t2,t1] h U [(0,λa b c=>cf .gtr 3 (aQ a 3) (aQ a 1) λd=>K d b c)] (λ_ _ _=>False)
theorem anz{h:ad}{U:Nat}:bA Q s Ro 257 0 [a0,ax,a2,aZ] h U N [(0,aF)] R=abc s a0 ax a2 aZ h U N aF R:=by kernel_rfl
theorem aq6:jl 257 at6:=jA Ro
def Tp:aa (aa Nat):=[[0,1]]
def ae3(s:ak)(a0 ax:X)(h:ad)(U:Nat)(N:aH)(aF:aH)(R:aH):Prop:=cf .sub 3 ax (ae 1) λa=>cf .quo 3 a (ae 2) λb=>bT .eql 3 b ax (aF [a0,ax] h U) (gB Q s (p0 Q h U [ax,b] "Less" a0) λd e f=>ag (d2 .not d) λg=>bJ g (aF [a0,ax] e f) (gB Q s (p0 Q e f [b,ax] "Swap" a0) λi j k=>N [a0,b] j k))
def axS:fH:=λs au t1 h U K=>bq (bA Q s Tp 258 0) [au,t1] h U [(0,λa b c=>K (.tuple ⟨[]⟩) b c)] (λ_ _ _=>False)
theorem at7{h:ad}{U:Nat}:bA Q s Tp 258 0 [a0,ax] h U N [(0,aF)] R=ae3 s a0 ax h U N aF R:=by kernel_rfl
theorem awb:fR 258 axS:=fX Tp
def Tq:aa (aa Nat):=[[1,2,3,14,15,16]]
def ae4(s:ak)(ax a2 a3 jN jz hI:X)(h:ad)(U:Nat)(N:aH)(aF:aH)(R:aH):Prop:=cq hI jz (hq 2 h 2 jN hI λc=>cJ [(ae 0),(ae 0)] h U λd e f=>ag (a7 e 2 d c) λg=>ay g 2 a3 λj=>ay g 0 d λl=>ay g 1 d λn=>f3 1 j l λo=>ag (a7 g 1 o n) λp=>b3 hI λq=>N [ax,a2,a3,jN,jz,q] p f) (aF [ax,a2,a3,jN,jz,hI] h U)
def ahp:fw:=λs au h U K=>cK au h U λa b c=>cJ [(ae 0),aS,aS] b c λd e f=>a4 2 e a λg=>bh s 312 [g] e f λi j k=>ag (d2 .not i) λl=>bJ l (bh s 388 [(ae 0)] j k λm n o=>ag (a7 n 3 d m) λp=>a4 3 p d λq=>K q p o) (ay j 0 a λt=>bh s 388 [t] j k λaT v w=>cJ [(ae 0),aS,aS] v w λx y z=>ag (a7 y 3 x aT) λbX=>ay bX 1 a λbV=>cQ bV λbp=>bq (bA Q s Tq 318 0) [a,d,x,bV,bp,(ae 0)] bX z [(0,λb2 cM bU=>a4 2 cM (aQ b2 0) λdj=>c7 389 [dj] cM bU λcP d0 dH=>b4 0 (aQ b2 0) λeM=>dc d0 eM λam=>eX eM am (c7 108 [am,cP] d0 dH λan eR gM=>b4 1 (aQ b2 2) λhC=>ag (a7 eR 1 hC an) λhL=>a4 3 hL (aQ b2 2) λi7=>ag (a7 hL 3 (aQ b2 1) i7) λhS=>a4 3 hS (aQ b2 1) λhd=>K hd hS gM) 1 [cM])] (λ_ _ _=>False))
theorem at8{h:ad}{U:Nat}:bA Q s Tq 318 0 [ax,a2,a3,jN,jz,hI] h U N [(0,aF)] R=ae4 s ax a2 a3 jN jz hI h U N aF R:=by kernel_rfl
theorem awc:fG 318 ahp:=fO Tq
def Rp(s:ak)(K:bD)(bY cC lU:X)(ap:ad)(aX:Nat):Prop:=bJ lU (b4 1 bY λa=>ay ap 1 a λc=>c7 217 [c] ap aX λd e f=>b4 1 bY λg=>b4 0 g λi=>dc e i λj=>eX i j (ag (c8 [(ae 0),aS] [(0,1,j),(1,1,d)]) λk=>ag (a7 e 2 cC k) λl=>a4 2 l cC λm=>K m l f) 1 [ap]) (ag (c8 [(ae 0),aS] []) λn=>ag (a7 ap 2 cC n) λo=>a4 2 o cC λp=>K p o aX)
def agm:fw:=λs au h U K=>cK au h U λa b c=>cJ [(ae 0),aS] b c λd e f=>ay e 0 a λi=>bT .eql 165 i (ae 2) (nH 3 e 3 a λl=>bh s 391 [l] e f λm n o=>ag (a7 n 2 d m) λp=>a4 2 p d λq=>K q p o) (ay e 0 a λt=>bT .eql 165 t (ae 1) (nH 2 e 1 a λw=>bh s 312 [w] e f λx y z=>(Rp s K a d x y z)) (Rp s K a d (.bool false) e f))
theorem at9:fG 321 agm:=fO []
def Qr:aa (aa Nat):=[[0,2,5,6]]
def ZO(s:ak)(a0 a2 bl bf:X)(h:ad)(U:Nat)(N:aH)(aF:aH)(R:aH):Prop:=cq bf bl (kA bf (ae 0) (cf .sub 3 bf (ae 1) λc=>f3 3 a0 c λd=>ay h 0 d λf=>f3 3 a0 bf λg=>ay h 0 g λj=>bT .geq 3 f j (R [a0,(.bool false),bl,bf] h U) (b3 bf λl=>N [a0,a2,bl,l] h U)) (b3 bf λm=>N [a0,a2,bl,m] h U)) (aF [a0,a2,bl,bf] h U)
def adg:fw:=λs au h U K=>cQ au λa=>bq (bA Q s Qr 327 0) [au,(.bool false),a,(ae 0)] h U [(0,λb c d=>K (.bool true) c d)] (λe f g=>K (aQ e 1) f g)
theorem ak0{h:ad}{U:Nat}:bA Q s Qr 327 0 [a0,a2,bl,bf] h U N [(0,aF)] R=ZO s a0 a2 bl bf h U N aF R:=by kernel_rfl
theorem anA:fG 327 adg:=fO Qr
def Gx(s:ak)(K:bD)(cu b6 cR y47:X)(ap:ad)(aX:Nat):Prop:=bJ y47 (ag (cr cu) λa=>ay ap 1 a λc=>ag (cr cu) λd=>ay ap 2 d λf=>cf .sub 3 cR (ae 1) λg=>f3 3 f g λi=>nH 2 ap 1 i λk=>nH 2 ap 1 b6 λm=>c7 261 [c,k,m] ap aX λn o p=>ag (cr cu) λq=>b4 2 q λr=>dc o r λt=>eX r t (cf .sub 3 cR (ae 1) λaT=>f3 3 t aT λv=>b4 1 v λw=>ag (a7 o 2 w n) λx=>K (.tuple ⟨[]⟩) x p) 1 [ap]) (ag (cr cu) λy=>ay ap 2 y λbX=>a4 3 ap b6 λch=>ey (fU 1 [(ae 0),(ae 0),(.int .u64 0)] [(0,3,ch)]) ap aX λbV bp b2=>dB (dS (dv 3 bp b2 bX bV)) λcM bU dj=>b2<=dj/\ag (cr cu) λcP=>b4 2 cP λd0=>ag (a7 bU 1 d0 cM) λdH=>K (.tuple ⟨[]⟩) dH dj)
def ae5:fw:=λs au h U K=>ag (cr au) λa=>ay h 0 a λc=>hq 2 h 2 c (ae 0) λe=>cJ [aS,(ae 0)] h U λf g i=>ag (a7 g 2 f e) λj=>ag (cr au) λk=>b4 0 k λl=>ag (.ok (Value.iface 415 l)) λm=>bh s 170 [m] j i λn o p=>ay o 0 f λr=>hq 3 o 3 r (ae 0) λaT=>cJ [(ae 0),(ae 0),(.int .u64 0)] o p λv w x=>ag (a7 w 3 v aT) λy=>ay y 0 f λbX=>ag (iY 3 bX (some (ae 1)) none none) λch=>ay y 1 f λbp=>c7 328 [au,ch,bp] y x λb2 cM bU=>ag (cr au) λdj=>ay cM 2 dj λd0=>cQ d0 λdH=>kA dH (ae 0) (ag (cr au) λam=>ay cM 2 am λeR=>cf .sub 3 dH (ae 1) λgM=>f3 3 eR gM λhC=>ay cM 0 hC λi7=>ay cM 0 v λhd=>cf .eql 3 i7 hd λpL=>(Gx s K au v dH pL cM bU)) (Gx s K au v dH (.bool false) cM bU)
theorem aq7:fG 330 ae5:=fO []
def GY:aa (aa Nat):=[[0,2,4,6,7,31,32],[0,6,7,9,55,56,57]]
def abd(s:ak)(a0 a2 aV bf aZ kO gC:X)(h:ad)(U:Nat)(N:aH)(aY:aH)(R:aH):Prop:=cq gC kO (kA gC (ae 0) (cf .sub 3 gC (ae 1) λc=>f3 3 a2 c λd=>ay h 0 d λf=>f3 3 a2 gC λg=>ay h 0 g λj=>bT .geq 3 f j (ag (c8 [(ae 0),aS] []) λl=>ag (a7 h 2 bf l) λm=>R [a0,a2,aV,bf,(ae 6),kO,gC] m U) (b3 gC λn=>N [a0,a2,aV,bf,aZ,kO,n] h U)) (b3 gC λo=>N [a0,a2,aV,bf,aZ,kO,o] h U)) (aY [a0,a2,aV,bf,aZ,kO,gC] h U)
def abe(s:ak)(a0 bf aZ cH Ip Iq EQ:X)(h:ad)(U:Nat)(N:aH)(ce:aH)(R:aH):Prop:=cq EQ Iq (hq 3 h 3 Ip EQ λc=>cJ [(ae 0),(ae 0),(.int .u64 0)] h U λd e f=>ag (a7 e 3 d c) λg=>nH 2 g 1 d λj=>bh s 262 [a0,j] g f λk l m=>ag (dz k 0) λn=>ag (dz k 1) λo=>ag (d2 .not o) λp=>bJ p (ag (c8 [(ae 0),aS] []) λq=>ag (a7 l 2 bf q) λr=>R [a0,bf,(ae 12),cH,Ip,Iq,EQ] r m) (bh s 399 [a0] l m λt aT v=>bT .neq 2 n t (ay aT 1 cH λy=>ay aT 0 d λbX=>ag (c8 [(ae 0),(ae 0)] [(0,1,bX),(1,1,n)]) λch=>ey (fU 1 [(ae 0),(ae 0)] [(0,2,ch)]) aT v λbV bp b2=>dB (dS (dv 2 bp b2 y bV)) λcM bU dj=>b4 1 cH λcP=>ag (a7 bU 1 cP cM) λd0=>b3 EQ λdH=>N [a0,bf,aZ,cH,Ip,Iq,dH] d0 dj) (b3 EQ λeM=>N [a0,bf,aZ,cH,Ip,Iq,eM] aT v))) (ce [a0,bf,aZ,cH,Ip,Iq,EQ] h U)
def abf(s:ak)(K:bD)(cu cC cR dM:X)(ap:ad)(aX:Nat):Prop:=cQ cC λa=>bq (bA Q s GY 335 0) [cu,cC,cR,dM,(ae 0),a,(ae 0)] ap aX [(1,λb c d=>dc c (aQ b 2) λe=>ag (c8 [(ae 0),aS] [(0,1,e)]) λf=>cJ [(ae 0),aS] c d λg i j=>ag (a7 i 2 g f) λk=>cQ (aQ b 1) λl=>bq (bA Q s GY 335 1) [(aQ b 0),(aQ b 3),(aQ b 4),g,(aQ b 1),l,(ae 0)] k j [(3,λm n o=>a4 2 n (aQ m 3) λp=>ag (a7 n 2 (aQ m 1) p) λq=>a4 2 q (aQ m 1) λr=>K (.tuple ⟨[r,(ae 0)]⟩) q o)] (λt aT v=>a4 2 aT (aQ t 1) λw=>K (.tuple ⟨[w,(aQ t 2)]⟩) aT v))] (λx y z=>a4 2 y (aQ x 3) λbX=>K (.tuple ⟨[bX,(aQ x 4)]⟩) y z)
def Qs(s:ak)(K:bD)(cu cC cR dM Vn:X)(ap:ad)(aX:Nat):Prop:=bJ Vn (ag (c8 [(ae 0),aS] []) λa=>ag (a7 ap 2 dM a) λb=>a4 2 b dM λc=>K (.tuple ⟨[c,(ae 3)]⟩) b aX) (ag (.ok (.func (.func 398) ⟨[]⟩ ⟨[cR]⟩)) λd=>bh s 397 [cC,d] ap aX λe f g=>bJ e (ag (c8 [(ae 0),aS] []) λi=>ag (a7 f 2 dM i) λj=>a4 2 j dM λk=>K (.tuple ⟨[k,(ae 3)]⟩) j g) (abf s K cu cC cR dM f g))
def ae6:i6:=λs au t1 t2 h U K=>cK t1 h U λa b c=>cJ [(ae 0),aS] b c λd e f=>bh s 259 [au] e f λg i j=>ag (d2 .not g) λk=>bJ k (ag (c8 [(ae 0),aS] []) λl=>ag (a7 i 2 d l) λm=>a4 2 m d λn=>K (.tuple ⟨[n,(ae 8)]⟩) m j) (dc i a λo=>cq o (ae 0) (Qs s K au t2 a d (.bool true) i j) (dc i a λq=>cf .gtr 3 q (ae 4096) λr=>(Qs s K au t2 a d r i j)))
theorem anB{g:X}{h:ad}{U:Nat}:bA Q s GY 335 0 [a0,a2,aV,bf,aZ,g,gC] h U N [(1,aY)] R=abd s a0 a2 aV bf aZ g gC h U N aY R:=by kernel_rfl
theorem anC{A B g:X}{h:ad}{U:Nat}{C:aH}:bA Q s GY 335 1 [a0,bf,aZ,cH,A,B,g] h U N [(3,C)] R=abe s a0 bf aZ cH A B g h U N C R:=by kernel_rfl
theorem aq8:jl 335 ae6:=jA GY
def Rq(s:ak)(K:bD)(cu cC:X)(ap:ad)(aX:Nat):Prop:=c7 117 [cu] ap aX λa b c=>ey (xt [(ae 0)] cu cu) b c λd e f=>ag (c8 [(ae 0),aS,aS] [(0,1,cu),(1,1,a),(2,1,d)]) λg=>ag (a7 e 3 cC g) λi=>a4 3 i cC λj=>K j i f
def Rr(s:ak)(K:bD)(cu cC iu:X)(ap:ad)(aX:Nat):Prop:=bJ iu (Rq s K (ae 0) cC ap aX) (Rq s K cu cC ap aX)
def agn:fw:=λs au h U K=>cJ [(ae 0),aS,aS] h U λa b c=>cq au (ae 0) (Rr s K au a (.bool true) b c) (cf .gtr 3 au (ae 4096) λe=>(Rr s K au a e b c))
theorem aua:fG 388 agn:=fO []
def Rs:aa (aa Nat):=[[0,3,4,6,12,32,33,34]]
def abg(s:ak)(a0 a3 aV bf dT gC Ir ER:X)(h:ad)(U:Nat)(N:aH)(aY:aH)(R:aH):Prop:=cq ER Ir (hq 2 h 2 gC ER λc=>cJ [(ae 0),(ae 0)] h U λd e f=>ag (a7 e 2 d c) λg=>a4 6 g bf λi=>ay g 0 d λk=>c7 454 [i,k] g f λl m n=>b4 1 d λo=>dc m o λp=>eX o p (c7 453 [a0,l,p,a3,aV] m n λq r t=>ey (fU 1 [aS] [(0,1,q)]) r t λaT v w=>dB (dS (dv 1 v w dT aT)) λx y z=>w<=z/\b3 ER λbX=>N [a0,a3,aV,bf,x,gC,Ir,bX] y z) 1 [g]) (aY [a0,a3,aV,bf,dT,gC,Ir,ER] h U)
def ae7:Co:=λs au t1 t2 t3 g0 h U K=>cK t1 h U λa b c=>cK t2 b c λd e f=>a4 6 e a λg=>a4 2 e d λi=>bh s 452 [g,i] e f λj k l=>ag (dz j 0) λm=>ag (dz j 1) λn=>ag (a7 k 6 a m) λo=>ag (a7 o 2 d n) λp=>bh s 259 [au] p l λq r t=>ag (d2 .not q) λaT=>bJ aT (K (.tuple ⟨[aS,(ae 8)]⟩) r t) (ay r 0 d λw=>ay r 1 a λy=>bT .neq 3 w y (K (.tuple ⟨[aS,(ae 4)]⟩) r t) (ay r 1 d λch=>cQ ch λbV=>bq (bA Q s Rs 392 0) [au,t3,g0,a,aS,ch,bV,(ae 0)] r t [(1,λbp b2 cM=>bh s 229 [(aQ bp 0),(aQ bp 4)] b2 cM λbU dj cP=>ag (dz bU 0) λd0=>ag (dz bU 1) λdH=>K (.tuple ⟨[d0,dH]⟩) dj cP)] (λ_ _ _=>False)))
theorem anD{A g:X}{h:ad}{U:Nat}:bA Q s Rs 392 0 [a0,a3,aV,bf,dT,gC,A,g] h U N [(1,aY)] R=abg s a0 a3 aV bf dT gC A g h U N aY R:=by kernel_rfl
theorem aq9:Fr 392 ae7:=In Rs
def ago:fw:=λs au h U K=>cK au h U λa b c=>ag (.ok (.func (.func 479) ⟨[]⟩ ⟨[a]⟩)) λd=>K d b c
theorem aub:fG 451 ago:=fO []
def Qt(s:ak)(K:bD)(cC b6 cR d3:X)(ap:ad)(aX:Nat):Prop:=a4 6 ap cC λa=>ag (a7 ap 6 cR a) λb=>a4 2 b b6 λc=>kZ 2 b6 c (ag (a7 b 2 d3 c) λd=>a4 6 d cR λe=>a4 2 d d3 λf=>K (.tuple ⟨[e,f]⟩) d aX) 1 [ap]
def Qu(s:ak)(K:bD)(cC b6 cR d3:X)(ap:ad)(aX:Nat):Prop:=a4 2 ap b6 λa=>bh s 312 [a] ap aX λb c d=>ag (d2 .not b) λe=>bJ e (ag (c8 [(ae 0),aS] []) λf=>ag (a7 c 2 b6 f) λg=>(Qt s K cC b6 cR d3 g d)) (Qt s K cC b6 cR d3 c d)
def ae8:fH:=λs au t1 h U K=>cK au h U λa b c=>cK t1 b c λd e f=>cJ [(ae 0),(ae 0),aS,aS,aS,aS] e f λg i j=>cJ [(ae 0),aS] i j λk l m=>a4 6 l a λn=>bh s 477 [n] l m λo p q=>ag (d2 .not o) λr=>bJ r (ey (fU 1 [(ae 0)] [(0,1,(ae 0))]) p q λt aT v=>ag (c8 [(ae 0),(ae 0),aS,aS,aS,aS] [(3,1,t)]) λw=>ag (a7 aT 6 a w) λx=>(Qu s K a d g k x v)) (Qu s K a d g k p q)
theorem ara:fR 452 ae8:=fX []
def PP:aa (aa Nat):=[[0,2,3,4,11,14,15,16]]
def YO(s:ak)(a0 a2 a3 aV dO jN jz hI:X)(h:ad)(U:Nat)(N:aH)(aF:aH)(R:aH):Prop:=cq hI jz (hq 2 h 2 jN hI λc=>cJ [(ae 0),(ae 0)] h U λd e f=>ag (a7 e 2 d c) λg=>ay g 0 d λj=>bh s 334 [a3,j] g f λk l m=>bT .neq 4 k aV (ay l 1 d λp=>c7 480 [a0,p,a2] l m λq r t=>b4 0 d λaT=>dc r aT λv=>eX aT v (ag (c8 [(ae 0),(ae 0),(.int .u64 0)] [(0,1,v),(1,2,q)]) λw=>ey (fU 1 [(ae 0),(ae 0),(.int .u64 0)] [(0,3,w)]) r t λx y z=>dB (dS (dv 3 y z dO x)) λbX ch bV=>z<=bV/\b3 hI λbp=>N [a0,a2,a3,aV,bX,jN,jz,bp] ch bV) 1 [l]) (b3 hI λb2=>N [a0,a2,a3,aV,dO,jN,jz,b2] l m)) (aF [a0,a2,a3,aV,dO,jN,jz,hI] h U)
def abh:Co:=λs au t1 t2 t3 g0 h U K=>cQ t1 λa=>bq (bA Q s PP 453 0) [au,t2,t3,g0,aS,t1,a,(ae 0)] h U [(0,λb c d=>K (aQ b 4) c d)] (λ_ _ _=>False)
theorem ajz{h:ad}{U:Nat}:bA Q s PP 453 0 [a0,a2,a3,aV,dO,jN,jz,hI] h U N [(0,aF)] R=YO s a0 a2 a3 aV dO jN jz hI h U N aF R:=by kernel_rfl
theorem ak1:Fr 453 abh:=In PP
def Qv(s:ak)(K:bD)(cC b6 cR d3:X)(ap:ad)(aX:Nat):Prop:=a4 5 ap cC λa=>ag (a7 ap 5 cR a) λb=>a4 3 b b6 λc=>kZ 3 b6 c (ag (a7 b 3 d3 c) λd=>a4 5 d cR λe=>a4 3 d d3 λf=>K (.tuple ⟨[e,f]⟩) d aX) 1 [ap]
def Qw(s:ak)(K:bD)(cC b6 cR d3:X)(ap:ad)(aX:Nat):Prop:=a4 3 ap b6 λa=>bh s 478 [a] ap aX λb c d=>ag (d2 .not b) λe=>bJ e (bh s 388 [(ae 0)] c d λf g i=>ag (a7 g 3 b6 f) λj=>(Qv s K cC b6 cR d3 j i)) (Qv s K cC b6 cR d3 c d)
def ae9:fH:=λs au t1 h U K=>cK au h U λa b c=>cK t1 b c λd e f=>cJ [(ae 0),(ae 0),aS,aS,aS] e f λg i j=>cJ [(ae 0),aS,aS] i j λk l m=>a4 5 l a λn=>bh s 201 [n] l m λo p q=>ag (d2 .not o) λr=>bJ r (a4 5 p a λt=>ag (c8 [(ae 0),(ae 0)] []) λaT=>ag (c8 [(ae 0),(ae 0)] []) λv=>bh s 203 [t,aT,v] p q λw x y=>ag (a7 x 5 a w) λz=>(Qw s K a d g k z y)) (Qw s K a d g k p q)
theorem arb:fR 455 ae9:=fX []
def adh:i6:=λs au t1 t2 h U K=>cK au h U λa b c=>cK t1 b c λd e f=>cK t2 e f λg i j=>ag (.ok (.func (.func 483) ⟨[]⟩ ⟨[a,d,g]⟩)) λk=>K k i j
theorem anE:jl 456 adh:=jA []
def SE:aa (aa Nat):=[[0,2,5,7,8,10,11,12]]
def adi(s:ak)(a0 a2 bl aZ bo cZ dO dT:X)(h:ad)(U:Nat)(N:aH)(aF:aH)(R:aH):Prop:=ay h 2 bl λb=>b3 a2 λc=>ea h 1 b c λe=>cq dT e (ay h 3 bl λi=>ea h 1 i dT λk=>ay h 1 aZ λm=>bh s 334 [m,k] h U λn o p=>bJ n (ay o 4 bl λr=>ea o 1 r dT λaT=>ay o 2 aZ λw=>ea o 1 w k λy=>c7 480 [a0,aT,y] o p λz bX ch=>gB Q true (jc bX ch [z] cZ) λbV bp b2=>ch<=b2/\b3 dT λcM=>N [a0,a2,bl,aZ,bo,cZ,dO,cM] bp b2) (b3 dT λbU=>N [a0,a2,bl,aZ,bo,cZ,dO,bU] o p)) (aF [a0,a2,bl,aZ,bo,cZ,dO,dT] h U)
def agp:Cn:=λs au t1 t2 t3 h U K=>cK t1 h U λa b c=>cK t3 b c λd e f=>cJ [(ae 0),(.int .u64 0)] e f λg i j=>bh s 484 [au] i j λk l m=>ag (dz k 0) λn=>ag (dz k 1) λo=>ay l 2 a λq=>ea l 1 q t2 λt=>bq (bA Q s SE 457 0) [au,t2,a,d,g,n,o,t] l m [(0,λaT v w=>gB Q s (jc v w [] (aQ aT 6)) λx y z=>ag (dz x 0) λbX=>ag (dz x 1) λch=>ag (a7 y 2 (aQ aT 4) bX) λbV=>a4 2 bV (aQ aT 4) λbp=>K (.tuple ⟨[bp,ch]⟩) bV z)] (λ_ _ _=>False)
theorem arc{h:ad}{U:Nat}:bA Q s SE 457 0 [a0,a2,bl,aZ,bo,cZ,dO,dT] h U N [(0,aF)] R=adi s a0 a2 bl aZ bo cZ dO dT h U N aF R:=by kernel_rfl
theorem auc:Fq 457 agp:=Im SE
def Qx:aa (aa Nat):=[[1,2,20,21,22]]
def ZP(s:ak)(ax a2 i2 h5 en:X)(h:ad)(U:Nat)(N:aH)(aF:aH)(R:aH):Prop:=cq en h5 (ea h 1 i2 en λc=>bT .neq 2 c (ae 0) (ay h 1 ax λf=>bh s 334 [f,en] h U λg i j=>ag (d2 .not g) λk=>bJ k (R [ax,(.bool false),i2,h5,en] i j) (b3 en λl=>N [ax,a2,i2,h5,l] i j)) (b3 en λm=>N [ax,a2,i2,h5,m] h U)) (aF [ax,a2,i2,h5,en] h U)
def PQ(s:ak)(K:bD)(bY Vl:X)(ap:ad)(aX:Nat):Prop:=bJ Vl (K (.bool false) ap aX) (ay ap 2 bY λb=>cQ b λc=>bq (bA Q s Qx 478 0) [bY,(.bool false),b,c,(ae 0)] ap aX [(0,λd e f=>K (.bool true) e f)] (λg i j=>K (aQ g 1) i j))
def adj:fw:=λs au h U K=>cK au h U λa b c=>ay b 1 a λe=>ay b 0 a λg=>bh s 437 [e,g] b c λi j k=>ag (d2 .not i) λl=>bJ l (PQ s K a (.bool true) j k) (ay j 2 a λn=>cQ n λo=>ay j 0 a λq=>cf .neq 3 o q λr=>(PQ s K a r j k))
theorem ak2{B A g:X}{h:ad}{U:Nat}:bA Q s Qx 478 0 [ax,a2,B,A,g] h U N [(0,aF)] R=ZP s ax a2 B A g h U N aF R:=by kernel_rfl
theorem anF:fG 478 adj:=fO Qx
def Rt:aa (aa Nat):=[[0,1,3]]
def abi(s:ak)(a0 ax a3:X)(h:ad)(U:Nat)(N:aH)(aF:aH)(R:aH):Prop:=bT .geq 3 a3 (ae 0) (ay h 2 ax λc=>ea h 1 c a3 λe=>gB Q s (jc h U [a3,e] a0) λf g i=>ag (d2 .not f) λj=>bJ j (R [a0,ax,a3] g i) (ay g 1 ax λl=>b3 a3 λm=>bh s 473 [l,m] g i λn o p=>N [a0,ax,n] o p)) (aF [a0,ax,a3] h U)
def afa:fH:=λs au t1 h U K=>ay h 1 t1 λb=>bh s 473 [b,(ae 0)] h U λc d e=>bq (bA Q s Rt 479 0) [au,t1,c] d e [(0,λf g i=>K (.tuple ⟨[]⟩) g i)] (λj k l=>K (.tuple ⟨[]⟩) k l)
theorem anG{h:ad}{U:Nat}:bA Q s Rt 479 0 [a0,ax,a3] h U N [(0,aF)] R=abi s a0 ax a3 h U N aF R:=by kernel_rfl
theorem ard:fR 479 afa:=fX Rt
def Lk(s:ak)(K:bD)(cC dM fl:X)(ap:ad)(aX:Nat):Prop:=c7 260 [(ae 4611686018427387904)] ap aX λa b c=>c7 260 [cC] b c λd e f=>a4 2 e fl λg=>kZ 2 fl g (c7 355 [g,d] e f λi j k=>c7 353 [a,i] j k λl m n=>ag (a7 m 2 dM l) λo=>a4 2 o dM λp=>K p o n) 2 [b,ap]
def AU(s:ak)(K:bD)(cu bY cC dM Vo:X)(ap:ad)(aX:Nat):Prop:=bJ Vo (bh s 260 [(ae 4611686018427387904)] ap aX λa b c=>ag (a7 b 2 dM a) λd=>a4 2 d dM λe=>K e d c) (ag (c8 [(ae 0),(.int .u64 0)] []) λf=>cJ [(ae 0),(.int .u64 0)] ap aX λg i j=>ag (a7 i 2 g f) λk=>bT .eql 234 cu (ae 1) (bh s 260 [bY] k j λm n o=>ag (a7 n 2 g m) λp=>(Lk s K cC dM g p o)) (bT .eql 234 cu (ae 4) (Lk s K cC dM g k j) (bT .eql 234 cu (ae 3) (bh s 260 [bY] k j λt aT v=>ag (a7 aT 2 dM t) λw=>a4 2 w dM λx=>K x w v) (a4 2 k g λy=>ag (a7 k 2 dM y) λz=>a4 2 z dM λbX=>K bX z j))))
def L1:i6:=λs au t1 t2 h U K=>cJ [(ae 0),(.int .u64 0)] h U λa b c=>bT .eql 234 au (ae 2) (bT .neq 2 t1 (ae 0) (cf .neq 2 t2 (ae 0) λf=>bh s 354 [f] b c λg i j=>ag (a7 i 2 a g) λk=>a4 2 k a λl=>K l k j) (bh s 354 [(.bool false)] b c λm n o=>ag (a7 n 2 a m) λp=>a4 2 p a λq=>K q p o)) (bT .eql 234 au (ae 5) (bh s 494 [t1,t2] b c λt aT v=>ag (a7 aT 2 a t) λw=>a4 2 w a λx=>K x w v) (bh s 259 [au] b c λy z bX=>bJ y (ag (min2 false t1 t2) λch=>cf .geq 2 ch (ae 4611686018427387904) λbV=>(AU s K au t1 t2 a bV z bX)) (AU s K au t1 t2 a (.bool false) z bX)))
theorem aud:jl 480 L1:=jA []
def PR:aa (aa Nat):=[[0,2,3,6,7]]
def YP(s:ak)(a0 a2 a3 bf aZ:X)(h:ad)(U:Nat)(N:aH)(aF:aH)(R:aH):Prop:=cq aZ bf (dc h a2 λb=>c7 334 [b,aZ] h U λc d e=>dc d a3 λf=>eX a3 f (bT .neq 4 c f (gB Q true (jc d e [aZ] a0) λi j k=>e<=k/\ag (d2 .not i) λl=>bJ l (R [a0,a2,a3,bf,aZ] j k) (b3 aZ λm=>N [a0,a2,a3,bf,m] j k)) (b3 aZ λn=>N [a0,a2,a3,bf,n] d e)) 1 [h]) (aF [a0,a2,a3,bf,aZ] h U)
def abj:Cn:=λs au t1 t2 t3 h U K=>dc h t1 λa=>bq (bA Q s PR 483 0) [au,t2,t3,a,(ae 0)] h U [(0,λb c d=>K (.tuple ⟨[]⟩) c d)] (λe f g=>K (.tuple ⟨[]⟩) f g)
theorem ajA{h:ad}{U:Nat}:bA Q s PR 483 0 [a0,a2,a3,bf,aZ] h U N [(0,aF)] R=YP s a0 a2 a3 bf aZ h U N aF R:=by kernel_rfl
theorem ak3:Fq 483 abj:=Im PR
def Tr:aa (aa Nat):=[[2,3,6,7,8]]
def LH(s:ak)(a2 a3 bf aZ bo:X)(h:ad)(U:Nat)(N:aH)(aF:aH)(R:aH):Prop:=cq bo aZ (ea h 1 bf bo λc=>bT .neq 3 c a3 (R [c,a3,bf,aZ,bo] h U) (b3 bo λe=>N [a2,a3,bf,aZ,e] h U)) (aF [a2,a3,bf,aZ,bo] h U)
def ahq:fw:=λs au h U K=>cQ au λa=>bq (bA Q s Tr 241 0) [(ae 0),(ae 0),au,a,(ae 0)] h U [(0,λb c d=>K (aQ b 1) c d)] (λe f g=>K (aQ e 0) f g)
theorem SF{h:ad}{U:Nat}:bA Q s Tr 241 0 [a2,a3,bf,aZ,bo] h U N [(0,aF)] R=LH s a2 a3 bf aZ bo h U N aF R:=by kernel_rfl
theorem awd:fG 241 ahq:=fO Tr
def Dq(s:ak)(K:bD)(cR d3 dM fl iu:X)(ap:ad)(aX:Nat):Prop:=bJ iu (a4 2 ap cR λa=>a4 2 ap d3 λb=>bh s 353 [a,b] ap aX λc d e=>ag (a7 d 2 dM c) λf=>a4 2 f dM λg=>K g f e) (bT .eql 234 fl (ae 2) (a4 2 ap cR λj=>a4 2 ap d3 λk=>bT .neq 272 j k (bh s 354 [(.bool true)] ap aX λm n o=>ag (a7 n 2 dM m) λp=>a4 2 p dM λq=>K q p o) (a4 2 ap cR λr=>ag (c8 [(ae 0),(.int .u64 0)] []) λt=>cf .neq 272 r t λaT=>bh s 354 [aT] ap aX λv w x=>ag (a7 w 2 dM v) λy=>a4 2 y dM λz=>K z y x)) (bT .eql 234 fl (ae 5) (a4 2 ap cR λch=>a4 2 ap d3 λbV=>bh s 355 [ch,bV] ap aX λbp b2 cM=>ag (a7 b2 2 dM bp) λbU=>a4 2 bU dM λdj=>K dj bU cM) (ag (c8 [(ae 0),(.int .u64 0)] []) λcP=>ag (a7 ap 2 dM cP) λd0=>a4 2 d0 dM λdH=>K dH d0 aX)))
def agq:i6:=λs au t1 t2 h U K=>cK t1 h U λa b c=>cK t2 b c λd e f=>cJ [(ae 0),(.int .u64 0)] e f λg i j=>bT .eql 234 au (ae 1) (Dq s K a d g au (.bool true) i j) (bT .eql 234 au (ae 3) (Dq s K a d g au (.bool true) i j) (cf .eql 234 au (ae 4) λm=>(Dq s K a d g au m i j)))
theorem aue:jl 261 agq:=jA []
def wid(x:Int):aa X:=[.int .i64 (x / 18446744073709551616),.int .u64 (x % 18446744073709551616)]
def kP(n:Int):Prop:=-9223372036854775808<=n/\n<9223372036854775808
def lO(x:Int):Prop:=-170141183460469231731687303715884105728<=x/\x<170141183460469231731687303715884105728
theorem po:IntKind.wrap .i64 n=(n+9223372036854775808) % 18446744073709551616-9223372036854775808:=by rw[aeS];omega
theorem LV:IntKind.wrap .u64 n=n % 18446744073709551616:=by simp[IntKind.wrap,IntKind.signed,IntKind.bits]
theorem ak4{t:TypeId}(h:kP n):bin Q .shr t (n:X) (.int .u64 63) = .ok (.int .i64 (n / 18446744073709551616)):=by
 show R.ok (Value.int .i64 (n.fdiv 9223372036854775808))=_;rw[Int.fdiv_eq_ediv_of_nonneg _ (by decide)];unfold kP at h
 grind
theorem A3{h:ad}{U:Nat}(g:kP n):aD Q s 260 [(n:X)] h U (cI (.agg ⟨wid n⟩) U h):=by refine bS ?_;unfold wid;simp(disch:=omega)only[bd,ak4 g,LV,seval];exact⟨rfl,aC,J⟩
theorem adk{h:ad}{U:Nat}:aD Q s 359 [(a:X),(b:X)] h U (fm (.int .i64 (gb a b)) U h):=by
 have g:∀{n:Int} {K:bD},K (.bool false) h U->aD Q s 428 [(n:X)] h U K:=λ{n K} hk=>by refine bS ?_;simp(disch:=omega)only[bd,nN,seval];exact hk
 refine bS ?_;unfold gb;refine g (g ?_);refine aB ?_;refine⟨λA=>?_,λA=>⟨λB=>?_,λB=>?_⟩⟩
 ·rw[if_pos A];exact⟨rfl,rfl,rfl⟩
 ·rw[if_neg J,if_pos J];exact⟨rfl,rfl,rfl⟩
 ·rw[if_neg J,if_neg J];exact⟨rfl,rfl,rfl⟩
theorem are{h:ad}{U:Nat}:aD Q s 466 [.int .u64 a,.int .u64 b] h U (fm (.int .i64 (gb a b)) U h):=by
 have g:∀{n:Int} {K:bD},K (.bool false) h U->aD Q s 488 [.int .u64 n] h U K:=λ{n K} hk=>by refine bS ?_;simp(disch:=omega)only[bd,nN,seval];exact hk
 refine bS ?_;unfold gb;refine g (g ?_);refine aB ?_;refine⟨λA=>?_,λA=>⟨λB=>?_,λB=>?_⟩⟩
 ·rw[if_pos A];exact⟨rfl,rfl,rfl⟩
 ·rw[if_neg J,if_pos J];exact⟨rfl,rfl,rfl⟩
 ·rw[if_neg J,if_neg J];exact⟨rfl,rfl,rfl⟩
def axT(b:Nat)(x y:Int)(U:Nat)(h:ad)(m:Nat)(aE:aa X)(ac:ad)(Y:Nat):Prop :=
 (m=2/\aE=[.int .i64 0,.int .i64 0,.slice (some ⟨b,0,none⟩) 2 2,.int .i64 2,.int .i64 0]/\ac=h/\Y=U)\/(m=1/\x=0/\aE=[.int .i64 0,.int .i64 0,.slice (some ⟨b,0,none⟩) 2 2,.int .i64 2,.int .i64 1]/\ac=h/\Y=U)\/(m=0/\x=0/\y=0/\aE=[.int .i64 0,.int .i64 0,.slice (some ⟨b,0,none⟩) 2 2,.int .i64 2,.int .i64 2]/\ac=h/\Y=U)
theorem DH{b:Nat}{h:ad}{U:Nat}(B:u h b=some (.cells [(x:X),(y:X)] false)):aD Q s 241 [.slice (some ⟨b,0,none⟩) 2 2] h U (fm (.int .i64 (if x=0 then y else x)) U h):=by
 refine awd ?_;unfold ahq;refine aB ?_;refine bq.mk (axT b x y U h) 2 (.inl ab) ?_;rintro _ _ _ _ (⟨rfl,rfl,rfl,rfl⟩|⟨rfl,g,rfl,rfl,rfl⟩|⟨rfl,g,A,rfl,rfl,rfl⟩)
 ·rw[SF];unfold LH;simp(disch:=omega)only[bd,B,seval]
  by_cases g:x=0
  ·subst g;refine aB ?_;exact⟨⟨1,J,.inr (.inl ⟨rfl,rfl,rfl,rfl,rfl⟩)⟩,λh=>absurd trivial h⟩
  ·have e:(x == 0)=false:=ab
   refine cx @e @g ?_;exact⟨⟨rfl,rfl,rfl⟩,λh=>absurd trivial h⟩
 ·rw[SF];unfold LH;subst g;simp(disch:=omega)only[bd,B,seval]
  by_cases A:y=0
  ·subst A;refine aB ?_;exact⟨⟨0,J,.inr (.inr ⟨rfl,rfl,rfl,rfl,rfl,rfl⟩)⟩,λh=>absurd trivial h⟩
  ·have e:(y == 0)=false:=ab
   refine a9 @e ?_;exact⟨⟨rfl,rfl,rfl⟩,λh=>absurd trivial h⟩
 ·rw[SF];unfold LH;subst g A;refine aB ?_;exact λ_=>⟨rfl,rfl,rfl⟩
theorem aiZ{h:ad}{U:Nat}:aD Q s 418 [.agg ⟨wid a⟩,.agg ⟨wid b⟩] h U (cI (.int .i64 (gb a b)) U h):=by
 refine bS ?_;unfold wid;refine aB ?_;refine adk.mono ?_;rintro _ _ _ ⟨rfl,rfl,rfl⟩;refine⟨J,?_⟩;refine aB ?_;refine are.mono ?_;rintro _ _ _ ⟨rfl,rfl,rfl⟩;refine⟨J,?_⟩;refine aB ?_;refine(DH (aN _ _ _)).mono ?_;rintro _ _ _ ⟨rfl,rfl,rfl⟩;refine⟨J,?_,aC,J⟩
 congr 1
 unfold gb;omega
theorem anH:0<gb a b↔b<a:=by unfold gb;omega
theorem Ps{h:ad}{U:Nat}:aD Q s 353 [.agg ⟨wid a⟩,.agg ⟨wid b⟩] h U (cI (.agg ⟨wid (min a b)⟩) U h):=by
 refine bS ?_;rw[show c5 (.agg ⟨wid a⟩)=[.int .i64 (a / 18446744073709551616),.int .u64 (a % 18446744073709551616)]from rfl,show c5 (.agg ⟨wid b⟩)=[.int .i64 (b / 18446744073709551616),.int .u64 (b % 18446744073709551616)]from rfl];refine aB ?_;refine(aiZ  ).mono ?_;rintro _ Z M ⟨rfl,g,B⟩;have I:=g U J;rw[aq J,aq J,aN]at I;have D:=g (U+1) J;rw[aq J,aN]at D;have C:=g (U+2) J;rw[aN]at C;refine hw @I @D @C ?_;have V:=anH (a:=a) (b:=b);refine⟨λA=>?_,λA=>?_⟩
 ·have:min a b=(if 0<gb a b then b else a):=J
  rw[this]
  first|rw[if_pos A]|rw[if_neg A]
  exact⟨rfl,aC,J⟩
 ·have:min a b=(if 0<gb a b then b else a):=J
  rw[this]
  first|rw[if_pos A]|rw[if_neg A]|rw[if_neg J]
  exact⟨rfl,aC,J⟩
theorem wfI(h:kP n):(Lit.int .i64 n).wf=true:=by unfold kP at h;simp[Lit.wf,IntKind.min,IntKind.max,IntKind.bits,IntKind.signed];omega
theorem wfU(h:0<=n/\n<18446744073709551616):(Lit.int .u64 n).wf=true:=by simp[Lit.wf,IntKind.min,IntKind.max,IntKind.bits,IntKind.signed];omega
theorem axU(h:lO x):kP (x / 18446744073709551616)/\0<=x % 18446744073709551616/\x % 18446744073709551616<18446744073709551616:=by unfold lO at h;unfold kP;omega
theorem agr(h:lO x):Tryz.prog.keyLits 8 272 (wid x)=some [.int .i64 (x / 18446744073709551616),.int .u64 (x % 18446744073709551616)]:=by
 obtain⟨D,B⟩:=axU h;have C:=wfI D;have A:=wfU B;have g:Tryz.prog.keyLits 7 2 [.int .i64 (x / 18446744073709551616)]=some [.int .i64 (x / 18446744073709551616)]:=by unfold Program.keyLits;simp only[Ab,C,and_self,if_true]
 have two:Tryz.prog.keyLits 7 188 [.int .u64 (x % 18446744073709551616)]=some [.int .u64 (x % 18446744073709551616)]:=by unfold Program.keyLits;simp only[ahj,A,and_self,if_true]
 unfold Program.keyLits;simp only[Mu,Mv,wid,nM,CQ,Nat.reduceAdd];rw[if_pos ⟨trivial,by kernel_rfl⟩];simp only[Ay,Ka,show EM.type=2 from rfl,show EN.type=188 from rfl,show EM.offset=0 from rfl,show EN.offset=1 from rfl,c2,ahl,nO,JY,CN,tV,g,two];rfl
theorem Ru(B:lO x)(A:lO y):bin Q .neq 272 (.agg ⟨wid x⟩) (.agg ⟨wid y⟩) = .ok (.bool (!(x == y))):=by
 show R.of "compared" (bif Df Tryz.prog 272 then rj Tryz.prog 272 (.agg ⟨wid x⟩) (.agg ⟨wid y⟩)else none) (λb=>nc (!b))=_;have g:∀x,(Value.agg ⟨wid x⟩).formed Tryz.prog 272=true:=λx=>by simp[Value.formed,Mu,Mv,wid]
 unfold rj;rw[agi,ahk,g,g];show R.of "compared" (bif true&&(true&&true&&true&&true)then H3 (Tryz.prog.keyLits 8 272 (wid x)) (Tryz.prog.keyLits 8 272 (wid y))else none) (λb=>nc (!b))=_;rw[agr B,agr A];show R.ok (Value.bool (!((mI .i64 .i64&&fN (x / 18446744073709551616) (y / 18446744073709551616))&&((mI .u64 .u64&&fN (x % 18446744073709551616) (y % 18446744073709551616))&&true))))=_;rw[wT,wT,lo,lo];have:(true&&x / 18446744073709551616 == y / 18446744073709551616&&(true&&x % 18446744073709551616 == y % 18446744073709551616&&true))=(x == y):=ab
 grind
theorem ajB{h:ad}{U:Nat}(aR:lO x):aD Q s 356 [.agg ⟨wid x⟩] h U (cI (.tuple ⟨[.int .i64 (if tf x=true then x else 0),.bool (tf x)]⟩) U h):=by
 refine bS ?_;rw[show c5 (.agg ⟨wid x⟩)=[.int .i64 (x / 18446744073709551616),.int .u64 (x % 18446744073709551616)]from rfl];have Z:IntKind.wrap .i64 (x % 18446744073709551616)=(x+9223372036854775808) % 18446744073709551616-9223372036854775808:=by rw[po];omega
 have M:kP ((x+9223372036854775808) % 18446744073709551616-9223372036854775808):=by unfold kP;omega
 have A:lO ((x+9223372036854775808) % 18446744073709551616-9223372036854775808):=by unfold lO;omega
 refine a9 @Z ?_;refine(A3 M).mono ?_;rintro _ h1 a6 ⟨rfl,B,g⟩;have I:=B U J;rw[aN]at I;refine⟨g,?_⟩;refine a9 @I ?_;rw[show(Value.agg ⟨[.int .i64 (x / 18446744073709551616),.int .u64 (x % 18446744073709551616)]⟩) = .agg ⟨wid x⟩from rfl,Ru A aR];have C:((x+9223372036854775808) % 18446744073709551616-9223372036854775808 == x)=tf x:=by
  unfold tf
  grind
 rw[C];have D:az U h h1:=aC
 cases V:tf x with
 |true =>
  rw[V]at C;have:=vn.1 C;refine aB ?_;rw[this];exact⟨rfl,D,J⟩
 |false =>
  refine aB ?_;exact⟨rfl,D,J⟩
theorem YQ{h:ad}{U:Nat}(B:lO x):aD Q s 262 [(r:X),.agg ⟨wid x⟩] h U (cI (.tuple ⟨[.int .i64 (if tf x=true then x else 0),.bool (tf x)]⟩) U h):=by refine bS ?_;rw[show c5 (.agg ⟨wid x⟩)=[.int .i64 (x / 18446744073709551616),.int .u64 (x % 18446744073709551616)]from rfl];refine aB ?_;rw[show(Value.agg ⟨[.int .i64 (x / 18446744073709551616),.int .u64 (x % 18446744073709551616)]⟩) = .agg ⟨wid x⟩from rfl];refine(ajB B).mono ?_;rintro _ D C ⟨rfl,A,g⟩;refine aB ?_;exact⟨rfl,aC,J⟩
theorem Kx{b:ak}{h:ad}{U:Nat}:aD Q s 354 [.bool b] h U (cI (.agg ⟨wid (if b=true then 1 else 0)⟩) U h):=by
 refine bS ?_;cases b with
 |true =>
  refine aB ?_;refine(A3  (by unfold kP;omega)).mono ?_;rintro _ D C ⟨rfl,g,A⟩;have B:=g U J;rw[aN]at B;unfold wid;refine a9 @B ?_;exact⟨rfl,aC,J⟩
 |false =>
  refine aB ?_;exact⟨rfl,aC,J⟩
theorem A4{h:ad}{U:Nat}(B:0<r)(A:r<6):aD Q s 259 [(r:X)] h U (fm (.bool true) U h):=by refine bS ?_;refine aB ?_;refine⟨λ_=>?_,λg=>absurd g J⟩;rw[gz A];exact⟨rfl,rfl,rfl⟩
theorem anI{h:ad}{U:Nat}(g:r=1\/r=2\/r=4\/r=5):aD Q s 399 [(r:X)] h U (fm (.int .i64 (DX r)) U h):=by
 refine bS ?_;unfold DX eB;rcases g with rfl|rfl|rfl|rfl <;> (simp(disch:=omega)only[bd,seval];exact⟨rfl,rfl,rfl⟩)
def oM(r:Int):Prop:=r=1\/r=2\/r=4
theorem Rv{h:ad}{U:Nat}(ba:oM r)(V:lO a)(aG:lO b):aD Q s 261 [(r:X),.agg ⟨wid a⟩,.agg ⟨wid b⟩] h U (cI (.agg ⟨wid (ka r a b)⟩) U h):=by
 refine aue ?_;unfold agq cK;rw[show c5 (.agg ⟨wid a⟩)=[.int .i64 (a / 18446744073709551616),.int .u64 (a % 18446744073709551616)]from rfl,show c5 (.agg ⟨wid b⟩)=[.int .i64 (b / 18446744073709551616),.int .u64 (b % 18446744073709551616)]from rfl];have aF:∀x:Int,(Value.agg ⟨[.int .i64 (x / 18446744073709551616),.int .u64 (x % 18446744073709551616)]⟩) = .agg ⟨wid x⟩:=λ_=>rfl;rcases ba with rfl|rfl|rfl
 ·refine aB ?_;unfold Dq;refine aB ?_;rw[aF,aF];refine Ps.mono ?_;rintro _ I D ⟨rfl,g,A⟩;have B:=g (U+2) J;rw[aN]at B;unfold wid;refine a9 @B ?_;exact⟨rfl,aC,J⟩
 ·refine aB ?_;unfold Dq;refine aB ?_;rw[aF,aF,Ru V aG];have Z:(Value.agg ⟨[.int .i64 0,.int .u64 0]⟩) = .agg ⟨wid 0⟩:=rfl;have cX:lO 0:=by unfold lO;omega
  by_cases C:a=b
  ·subst C;simp(disch:=omega)only[bd,nN,seval];rw[Z,Ru V cX];refine aB ?_;refine Kx.mono ?_;rintro _ I D ⟨rfl,g,A⟩;have B:=g (U+2) J;rw[aN]at B;have M:(if(!a == 0)=true then(1:Int)else 0)=ka 2 a a:=by
    unfold ka
    grind
   rw[M];unfold wid;refine a9 @B ?_;exact⟨rfl,aC,J⟩
  ·rw[show(a == b)=false from sR.2 C];refine aB ?_;refine Kx.mono ?_;rintro _ I D ⟨rfl,g,A⟩;have B:=g (U+2) J;rw[aN]at B;have M:ka 2 a b=1:=by unfold ka;omega
   rw[M];unfold wid;refine a9 @B ?_;exact⟨rfl,aC,J⟩
 ·refine aB ?_;unfold Dq;refine aB ?_;rw[aF,aF];refine Ps.mono ?_;rintro _ I D ⟨rfl,g,A⟩;have B:=g (U+2) J;rw[aN]at B;unfold wid;refine a9 @B ?_;exact⟨rfl,aC,J⟩
theorem ak5{b:ak}{h:ad}{U:Nat}:aD Q s 419 [.bool b] h U (fm (.int .u64 (if b=true then 1 else 0)) U h):=by
 refine bS ?_;cases b <;> (simp(disch:=omega)only[bd,seval];exact⟨rfl,rfl,rfl⟩)
theorem arf{h:ad}{U:Nat}:aD Q s 355 [.agg ⟨wid a⟩,.agg ⟨wid b⟩] h U (cI (.agg ⟨wid (i5 (a+b))⟩) U h):=by
 refine bS ?_;rw[show c5 (.agg ⟨wid a⟩)=[.int .i64 (a / 18446744073709551616),.int .u64 (a % 18446744073709551616)]from rfl,show c5 (.agg ⟨wid b⟩)=[.int .i64 (b / 18446744073709551616),.int .u64 (b % 18446744073709551616)]from rfl];refine aB ?_;refine ak5.mono ?_;rintro _ _ _ ⟨rfl,rfl,rfl⟩;refine⟨J,?_⟩;refine aB ?_;have aY:((a % 18446744073709551616+b % 18446744073709551616) % 18446744073709551616)=i5 (a+b) % 18446744073709551616:=by unfold i5;omega
 have aJ:IntKind.wrap .u64 (a % 18446744073709551616+b % 18446744073709551616)=i5 (a+b) % 18446744073709551616:=by rw[LV,aY]
 rw[aJ];have A:IntKind.wrap .i64 (IntKind.wrap .u64 (IntKind.wrap .u64 (IntKind.wrap .u64 (a / 18446744073709551616)+IntKind.wrap .u64 (b / 18446744073709551616))+(if i5 (a+b) % 18446744073709551616<b % 18446744073709551616 then 1 else 0)))=i5 (a+b) / 18446744073709551616:=by
  simp only[LV,po]
  by_cases g:i5 (a+b) % 18446744073709551616<b % 18446744073709551616
  ·rw[if_pos g];unfold i5 at *
   omega
  ·rw[if_neg g];unfold i5 at *
   omega
 rw[A];exact⟨rfl,aC,J⟩
theorem anJ(h:lO x):i5 x=x:=by unfold lO at h;unfold i5;omega
theorem GZ(h:kP x):lO x:=by unfold kP at h;unfold lO;omega
theorem Ts(A:0<=a/\a<=2147483647)(B:0<=x/\x<=eB)(g:oM r):0<=gw r a x/\gw r a x<=eB:=by
 unfold gw eB at *
 rcases g with rfl|rfl|rfl
 all_goals omega
theorem ags{q:Int}{Z A:Nat}{D:ad}{g:Nat}(lF:u D Z=some (.cells [.int .i64 0,.int .u64 0] false))(o8:u D A=some (.cells [.int .i64 (q / 18446744073709551616),.int .u64 (q % 18446744073709551616)] false))(mq:Z<g)(oh:A<g)(cz:0<=q/\q<=2147483647)(aR:0<=x/\x<=eB)(fin:∀h1 a6,az g D h1->g<=a6->K (.agg ⟨wid (min eB (q+x))⟩) (F h1 Z (.cells [.int .i64 (min eB (q+x) / 18446744073709551616),.int .u64 (min eB (q+x) % 18446744073709551616)] false)) a6):
  Lk s K (x:X) (bb Z) (bb A) D g:=by
 have ai:eB=4611686018427387904:=rfl;rw[ai]at aR fin;have aBH:kP x:=by unfold kP;omega
 unfold Lk;refine(A3 (n:=4611686018427387904) (by unfold kP;omega)).mono ?_;rintro _ h1 a6 ⟨rfl,eT,I⟩;refine⟨I,?_⟩;refine(A3 aBH).mono ?_;rintro _ al bH ⟨rfl,dE,B⟩;have C:=(eT A oh).trans o8;have g7a:=(dE A J).trans C;refine⟨B,?_⟩;refine hw @g7a @C @o8 ?_;rw[show(Value.agg ⟨[.int .i64 (q / 18446744073709551616),.int .u64 (q % 18446744073709551616)]⟩) = .agg ⟨wid q⟩from rfl];refine arf.mono ?_;rintro _ aM bR ⟨rfl,ek,V⟩;refine⟨V,?_⟩;rw[anJ  (by unfold lO;omega)];refine Ps.mono ?_;rintro _ bc d4 ⟨rfl,gd,M⟩;refine⟨M,?_⟩;have gF:az g D bc:=aC
 have g6a:=(gF Z mq).trans lF;have:=fin bc d4 gF J;unfold wid at this ⊢;refine a9 @g6a ?_;exact this
theorem adl{h:ad}{U:Nat}(ba:oM r)(dg:0<=a/\a<=2147483647)(aR:0<=x/\x<=eB):aD Q s 480 [(r:X),(a:X),(x:X)] h U (cI (.agg ⟨wid (gw r a x)⟩) U h):=by
 refine aud ?_;have qp:=aR;have ai:eB=4611686018427387904:=rfl;have aBI:kP 4611686018427387904:=by unfold kP;omega
 rw[ai]at aR;have qG:kP a:=by unfold kP;omega
 have fin:∀(v:Int) (I:ad) (Z:Nat),az (U+1) (F h U (.cells [.int .i64 0,.int .u64 0] false)) I->U+1<=Z->v=gw r a x->cI (.agg ⟨wid (gw r a x)⟩) U h (.agg ⟨wid v⟩) (F I U (.cells [.int .i64 (v / 18446744073709551616),.int .u64 (v % 18446744073709551616)] false)) Z:=λv I Z hk dr e=>by subst e;exact⟨rfl,aC,J⟩
 have V:(r=1\/r=4)->4611686018427387904<=max a x->AU s (cI (.agg ⟨wid (gw r a x)⟩) U h) (r:X) (a:X) (x:X) (bb U) (.bool true) (F h U (.cells [.int .i64 0,.int .u64 0] false)) (U+1):=λI al=>by unfold AU;refine nU ?_;refine(A3 aBI).mono ?_;rintro _ zO Z ⟨rfl,g,A⟩;have D:=g U J;rw[aN]at D;unfold wid;refine mA @D ?_;refine fin _ _ _ g A ?_;unfold gw eB;omega
 have B:(r=1\/r=4)->¬4611686018427387904<=max a x->AU s (cI (.agg ⟨wid (gw r a x)⟩) U h) (r:X) (a:X) (x:X) (bb U) (.bool false) (F h U (.cells [.int .i64 0,.int .u64 0] false)) (U+1):=λI al=>by
  unfold AU;rcases I with rfl|rfl
  ·refine nU ?_;refine(A3 qG).mono ?_;rintro _ zO Z ⟨rfl,g,A⟩;have br:=(g (U+1) J).trans (aN _ _ _);have D:=g U J;rw[aq J,aq J,aN]at D;unfold wid;refine mA @br ?_;refine ags  ab ab J J dg qp ?_;intro EB bH dE e9;refine fin _ _ _ ?_ (by omega) ?_
   ·exact aC
   ·unfold gw eB;omega
  ·refine nU ?_;refine ags (q:=0) ab ab J J J qp ?_;intro EB bH dE e9;refine fin _ _ _ ?_ (by omega) ?_
   ·exact aC
   ·unfold gw eB;omega
 have C:r=1\/r=4->L1 s (r:X) (a:X) (x:X) h U (cI (.agg ⟨wid (gw r a x)⟩) U h):=λM=>by
  have V:=V M;have B:=B M;unfold L1;have e28:AU s (cI (.agg ⟨wid (gw r a x)⟩) U h) (r:X) (a:X) (x:X) (bb U) (.bool (!decide (max a x<4611686018427387904))) (F h U (.cells [.int .i64 0,.int .u64 0] false)) (U+1):=by
   by_cases aU:4611686018427387904<=max a x
   ·rw[f9 (J:¬max a x<4611686018427387904)];exact V aU
   ·rw[gz (J:max a x<4611686018427387904)];exact B aU
  rcases M with rfl|rfl
  ·refine nU ?_;refine(A4  J J).mono ?_;rintro _ _ _ ⟨rfl,rfl,rfl⟩;exact e28
  ·refine nU ?_;refine(A4  J J).mono ?_;rintro _ _ _ ⟨rfl,rfl,rfl⟩;exact e28
 rcases ba with rfl|rfl|rfl
 ·exact C J
 ·unfold L1;have em:gw 2 a x=if(!(a == 0)&&!(x == 0))=true then 1 else 0:=by
   unfold gw
   grind
  refine nU ?_;refine⟨λaU=>?_,λaU=>?_⟩
  ·refine Kx.mono ?_;rintro _ I Z ⟨rfl,g,A⟩;have D:=(g U J).trans (aN _ _ _);unfold wid;refine mA @D ?_;refine fin _ _ _ g A ?_
   grind
  ·refine Kx.mono ?_;rintro _ I Z ⟨rfl,g,A⟩;have D:=(g U J).trans (aN _ _ _);unfold wid;refine mA @D ?_;refine fin _ _ _ g A ?_
   grind
 ·exact C J
theorem Dc{h:ad}{U:Nat}:aD Q s 242 [(a:X),(b:X)] h U (fm (.int .i64 (gb a b)) U h):=by
 have g:∀{n:Int} {K:bD},K (.bool false) h U->aD Q s 345 [(n:X)] h U K:=λ{n K} hk=>by refine bS ?_;simp(disch:=omega)only[bd,nN,seval];exact hk
 refine bS ?_;unfold gb;refine g (g ?_);refine aB ?_;refine⟨λA=>?_,λA=>⟨λB=>?_,λB=>?_⟩⟩
 ·rw[if_pos A];exact⟨rfl,rfl,rfl⟩
 ·rw[if_neg J,if_pos J];exact⟨rfl,rfl,rfl⟩
 ·rw[if_neg J,if_neg J];exact⟨rfl,rfl,rfl⟩
theorem awe{x y:dn}{h:ad}{U:Nat}:aD Q s 358 [.agg ⟨kK x⟩,.agg ⟨kK y⟩] h U (cI (.int .i64 (h4 [gb x.1 y.1,gb x.2.1 y.2.1])) U h):=by
 refine bS ?_;rw[show c5 (.agg ⟨kK x⟩)=[(x.1:X),(x.2.1:X),(x.2.2:X)]from rfl,show c5 (.agg ⟨kK y⟩)=[(y.1:X),(y.2.1:X),(y.2.2:X)]from rfl];refine aB ?_;refine Dc.mono ?_;rintro _ _ _ ⟨rfl,rfl,rfl⟩;refine⟨J,?_⟩;refine aB ?_;refine Dc.mono ?_;rintro _ _ _ ⟨rfl,rfl,rfl⟩;refine⟨J,?_⟩;refine aB ?_;refine(DH (aN _ _ _)).mono ?_;rintro _ _ _ ⟨rfl,rfl,rfl⟩;refine⟨J,?_,aC,J⟩
 congr 1
 unfold h4 h4 h4
 grind
theorem auf{x y:GE}{h:ad}{U:Nat}:aD Q s 298 [.agg ⟨bQ x⟩,.agg ⟨bQ y⟩] h U (cI (.int .i64 (h4 [gb x.f y.f,gb x.t y.t])) U h):=by
 refine bS ?_;rw[show c5 (.agg ⟨bQ x⟩)=[(x.f:X),(x.t:X),(x.w:X)]from rfl,show c5 (.agg ⟨bQ y⟩)=[(y.f:X),(y.t:X),(y.w:X)]from rfl];refine aB ?_;refine Dc.mono ?_;rintro _ _ _ ⟨rfl,rfl,rfl⟩;refine⟨J,?_⟩;refine aB ?_;refine Dc.mono ?_;rintro _ _ _ ⟨rfl,rfl,rfl⟩;refine⟨J,?_⟩;refine aB ?_;refine(DH (aN _ _ _)).mono ?_;rintro _ _ _ ⟨rfl,rfl,rfl⟩;refine⟨J,?_,aC,J⟩
 congr 1
 unfold h4 h4 h4
 grind
theorem aug{x y:Int × Int}{h:ad}{U:Nat}:aD Q s 240 [.agg ⟨lM x⟩,.agg ⟨lM y⟩] h U (cI (.int .i64 (lw x y)) U h):=by
 refine bS ?_;rw[show c5 (.agg ⟨lM x⟩)=[(x.1:X),(x.2:X)]from rfl,show c5 (.agg ⟨lM y⟩)=[(y.1:X),(y.2:X)]from rfl];refine aB ?_;refine Dc.mono ?_;rintro _ _ _ ⟨rfl,rfl,rfl⟩;refine⟨J,?_⟩;refine aB ?_;refine Dc.mono ?_;rintro _ _ _ ⟨rfl,rfl,rfl⟩;refine⟨J,?_⟩;refine aB ?_;refine(DH (aN _ _ _)).mono ?_;rintro _ _ _ ⟨rfl,rfl,rfl⟩;refine⟨J,?_,aC,J⟩
 congr 1
 unfold lw h4 h4 h4
 grind
theorem auh{x y:dn}{h:ad}{U:Nat}:aD Q s 264 [.agg ⟨kK x⟩,.agg ⟨kK y⟩] h U (cI (.int .i64 (kp x y)) U h):=by
 have e:∀x:dn,c5 (.agg ⟨kK x⟩)=[(x.1:X),(x.2.1:X),(x.2.2:X)]:=λ_=>rfl;have aJ:∀x:dn,Value.agg ⟨[(x.1:X),(x.2.1:X),(x.2.2:X)]⟩ = .agg ⟨kK x⟩:=λ_=>rfl;refine bS ?_;rw[e,e];refine aB ?_;rw[aJ,aJ];refine awe.mono ?_;rintro _ I D ⟨rfl,A,g⟩;refine⟨g,?_⟩;have C:=A U J;rw[aq J,aN]at C;have B:=A (U+1) J;rw[aN]at B;refine cx @C @B ?_;refine adk.mono ?_;rintro _ _ _ ⟨rfl,rfl,rfl⟩;refine⟨J,?_⟩;refine aB ?_;refine(DH (aN _ _ _)).mono ?_;rintro _ _ _ ⟨rfl,rfl,rfl⟩;refine⟨J,?_,aC,J⟩
 congr 1
 unfold kp;generalize h4 [gb x.1 y.1,gb x.2.1 y.2.1]=a;unfold h4 h4 h4
 grind
theorem Tt{P:Program}{f:FuncId}{B:Func}(h:P.funcs[f]? = some { B with name:=(P.funcs[f]?.getD default).name }) (g:((P.funcs[f]?.getD default).name == "runtime.NumGoroutine")=false):Bears P f B:=⟨_,g,h⟩
def u9(l:aa (Nat × Nat))(n:Nat):Nat:=(l.lookup n).getD n
def Vp(f t:aa (Nat × Nat)):Ren:=⟨u9 (f++[(15,344),(28,415),(29,416),(47,462),(48,463)]),u9 (t++[(3,3),(39,238),(0,0),(53,385),(55,188),(4,4),(46,426),(45,425),(50,222),(5,5),(9,9),(66,463),(70,467),(76,489),(77,341)]),id⟩
def rnE:Ren:=Vp [(6,263),(14,357),(20,420),(21,421),(22,422),(23,423),(24,424),(25,425),(26,426),(27,427),(46,467),(49,468),(50,469),(57,489)] [(22,22),(24,124),(25,329)]
def rnT:Ren:=Vp [(6,297),(14,370),(20,429),(21,430),(22,431),(23,432),(24,433),(25,434),(26,435),(27,436),(46,470),(49,471),(50,472),(57,490)] [(22,99),(24,259),(25,347)]
def rnL:Ren:=Vp [(6,239),(14,343),(20,407),(21,408),(22,409),(23,410),(24,411),(25,412),(26,413),(27,414),(46,461),(49,464),(50,465),(57,487)] [(22,196),(24,198),(25,301)]
theorem axV:SlLaysF0.n6 Tryz.prog rnL:=by
 constructor <;> first|kernel_rfl|exact Tt (by kernel_rfl) (by kernel_rfl)|(intro w;kernel_rfl)
theorem ahr:SlLaysF0.n6 Tryz.prog rnE:=by
 constructor <;> first|kernel_rfl|exact Tt (by kernel_rfl) (by kernel_rfl)|(intro w;kernel_rfl)
theorem ahs:SlLaysF0.n6 Tryz.prog rnT:=by
 constructor <;> first|kernel_rfl|exact Tt (by kernel_rfl) (by kernel_rfl)|(intro w;kernel_rfl)
theorem abk:Sort.SWO (k7 kp) where
 irrefl:=λx=>by have:¬kp x x<0:=λh=>aqm x x h h;simpa[k7]using this
 trans:=λx y z g A=>by
  have g:kp x y<0:=by simpa[k7]using g
  have A:kp y z<0:=by simpa[k7]using A
  have:kp x z<0:=by rw[GS]at *;omega
  simpa[k7]using this
 ntrans:=λx y z g A=>by
  have g:¬kp x y<0:=by simpa[k7]using g
  have A:¬kp y z<0:=by simpa[k7]using A
  have:=aql z y x A g;simpa[k7]using this
theorem zh(h:(Tryz.prog.funcs[f]?.bind Func.body).isSome=true):C8 Tryz.prog f:=by
 cases g:Tryz.prog.funcs[f]? with
 |none=>rw[g]at h;cases h
 |some A =>
  rw[g]at h;exact⟨A,g,h,Ik.names f A g⟩
instance:Inhabited dn:=⟨(0,0,0)⟩
theorem abl:Sort.SWO (k7 lw) where
 irrefl:=λx=>by have:¬lw x x<0:=λh=>aqk x x h h;simpa[k7]using this
 trans:=λx y z g A=>by
  have g:lw x y<0:=by simpa[k7]using g
  have A:lw y z<0:=by simpa[k7]using A
  have:lw x z<0:=by rw[GR]at *;omega
  simpa[k7]using this
 ntrans:=λx y z g A=>by
  have g:¬lw x y<0:=by simpa[k7]using g
  have A:¬lw y z<0:=by simpa[k7]using A
  have:=aqj z y x A g;simpa[k7]using this
def nq(x y:GE):Prop:=x.f<y.f\/(x.f=y.f/\x.t<y.t)
theorem Ll{x y:GE}:re x y<0↔nq x y:=by
 unfold re h4 h4 h4 gb nq
 by_cases g:(x.f:Int)<y.f
 ·rw[if_pos g];simp;omega
 ·by_cases C:(y.f:Int)<x.f
  ·rw[if_neg g,if_pos C];simp;omega
  ·rw[if_neg g,if_neg C]
   by_cases A:(x.t:Int)<y.t
   ·rw[if_pos A];simp;omega
   ·by_cases B:(y.t:Int)<x.t
    ·rw[if_neg A,if_pos B];simp;omega
    ·rw[if_neg A,if_neg B];simp;omega
theorem arh:Sort.SWO (k7 re) where
 irrefl:=λx=>by
  have:¬re x x<0:=λh=>by rw[Ll]at h;unfold nq at h;omega
  simpa[k7]using this
 trans:=λx y z g A=>by
  have g:re x y<0:=by simpa[k7]using g
  have A:re y z<0:=by simpa[k7]using A
  have:re x z<0:=by rw[Ll]at *;unfold nq at *;omega
  simpa[k7]using this
 ntrans:=λx y z g A=>by
  have g:¬re x y<0:=by simpa[k7]using g
  have A:¬re y z<0:=by simpa[k7]using A
  have:¬re x z<0:=by rw[Ll]at *;unfold nq at *;omega
  simpa[k7]using this
theorem anK:Hz Q 264 kK kp:=λx y h U=>auh.mono λ_ _ _ h=>h.1
theorem ari:Hz Q 298 bQ re:=λx y h U=>auf.mono λ_ _ _ h=>h.1
theorem arj:Hz Q 240 lM lw:=λx y h U=>aug.mono λ_ _ _ h=>h.1
theorem ark{h:ad}{U b n:Nat}{l:aa dn}(g:l.length=n)(D:n<1000000)(C:b<U)(B:u h b=some (.cells (a1 kK l) false)):
  aD Q s 263 [.slice (some ⟨b,0,aO⟩) n cap,.func (.func 264) #[] #[]] h U (LB kK kp l b U h):=
 Q9 Ik ahr rfl (zh (by kernel_rfl)) (zh (by kernel_rfl)) abk (λw=>by kernel_rfl) (λw=>by kernel_rfl) (k:=3) (λ_=>rfl) (λ_=>rfl) (λx v A=>by simp[kK]at A;rcases A with rfl|rfl|rfl <;> rfl) anK g D C B
theorem anL{h:ad}{U:Nat}(g:K (.tuple #[]) h U):aD Q s 263 [.slice none 0 0,.func (.func 264) #[] #[]] h U K:=aa0 ahr rfl (zh (by kernel_rfl)) g
theorem arl{h:ad}{U b n:Nat}{l:aa GE}(g:l.length=n)(D:n<1000000)(C:b<U)(B:u h b=some (.cells (a1 bQ l) false)):
  aD Q s 297 [.slice (some ⟨b,0,aO⟩) n cap,.func (.func 298) #[] #[]] h U (LB bQ re l b U h):=
 Q9 Ik ahs rfl (zh (by kernel_rfl)) (zh (by kernel_rfl)) arh (λw=>by kernel_rfl) (λw=>by kernel_rfl) (k:=3) (λ_=>rfl) (λ_=>rfl) (λx v A=>by simp[bQ]at A;rcases A with rfl|rfl|rfl <;> rfl) ari g D C B
theorem anM{h:ad}{U:Nat}(g:K (.tuple #[]) h U):aD Q s 297 [.slice none 0 0,.func (.func 298) #[] #[]] h U K:=aa0 ahs rfl (zh (by kernel_rfl)) g
theorem arm{h:ad}{U b n:Nat}{l:aa (Int × Int)}(g:l.length=n)(D:n<1000000)(C:b<U)(B:u h b=some (.cells (a1 lM l) false)):
  aD Q s 239 [.slice (some ⟨b,0,aO⟩) n cap,.func (.func 240) #[] #[]] h U (LB lM lw l b U h):=
 Q9 Ik axV rfl (zh (by kernel_rfl)) (zh (by kernel_rfl)) abl (λw=>by kernel_rfl) (λw=>by kernel_rfl) (k:=2) (λ_=>rfl) (λ_=>rfl) (λx v A=>by simp[lM]at A;rcases A with rfl|rfl <;> rfl) arj g D C B
theorem rd3(g:es[i]? = some e):hF (some 3) (i*3) (a1 gc es) = .ok (.agg ⟨[(e.1:X),(e.2.1:X),(e.2.2:X)]⟩):=by have A:=vz (enc:=gc) (k:=3) (λ_=>rfl) g;have B:=(gE.1 g).1;rw[qR,if_pos (by rw[ga (k:=3) (λ_=>rfl)];omega),A];rfl
theorem l7{aA:Type}{enc:aA->aa X}(hk:∀x,(enc x).length=k)(g:∀x,ec (enc x)=true)(I:0<k){h:ad}{U ao:Nat}{v:X}{l:aa aA}(aI:dX h v enc k l ao U)(C:ao<=U){V Z A:Nat}{D:av Nat}{bC:ak}(x:aA)(al:u h V=some (.cells cs bC))(aR:(cs.drop Z).take k=enc x)(B:(l.length+1)*k<=1000000){K:X->ad->Nat->Prop}(ha:∀M ac,dX ac M enc k (l++[x]) ao (U+1)->(∀b,b<ao->u ac b=u h b)->K M ac (U+1)):dB (dS (dv k h U v (.slice (some ⟨V,Z,D⟩) 1 A))) K:=by obtain⟨M,ac,e,a,b⟩:=atu hk g I aI C al aR B;rw[e];exact ha _ _ a b
def dq{aA:Type}(h:ad)(U:Nat)(v:X)(enc:aA->aa X)(l:aa aA):Prop :=
 ∃a cap,v = .slice a l.length cap/\(l≠[]->∃b aO bC cs,b<U/\a=some ⟨b,0,aO⟩/\u h b=some (.cells (a1 enc l++cs) bC))
section
variable {aA:Type} {h ac:ad} {U Y:Nat} {v:X} {enc:aA->aa X} {l:aa aA}
theorem dq.T(I:dq h U v enc l)(V:az U h ac)(M:U<=Y):dq ac Y v enc l:=by obtain⟨a,cap,C,Z⟩:=I;refine⟨a,cap,C,λB=>?_⟩;obtain⟨b,aO,g,cs,D,A,a5⟩:=Z B;exact⟨b,aO,g,cs,J,A,by rw[V b D];omega⟩
theorem dq.of(I:cN h U v enc l):dq h U v enc l:=by obtain⟨a,cap,C,M⟩:=I;refine⟨a,cap,C,λB=>?_⟩;obtain⟨b,aO,g,D,A,V⟩:=M B;exact⟨b,aO,g,[],D,A,ab⟩
theorem dq.at(A:dq h U v enc l){x:aA}(M:l[i]? = some x):
  i<l.length/\∃b aO g cap cs,b<U/\v = .slice (some ⟨b,0,aO⟩) l.length cap/\u h b=some (.cells (a1 enc l++cs) g):=by
 obtain⟨a,cap,I,B⟩:=A;obtain⟨b,aO,g,cs,D,rfl,C⟩:=B ab
 grind
theorem sj(g:∀x,(enc x).length=k){e:aA}(C:l[i]? = some e):hF (some k) (i*k) (a1 enc l++cs) = .ok (.agg ⟨enc e⟩):=by
 have A:=vz  g C;have D:=ga  g (l:=l);have B:(i+1)*k<=l.length*k:=ab
 rw[yN,tX]at B;rw[qR,if_pos ab,JR J,JS ab,A]
theorem xn{j:Nat}(g:∀x,(enc x).length=k){e:aA}(A:l[i]? = some e)(D:j<k):(a1 enc l++cs)[i*k+j]? = (enc e)[j]?:=by have C:=(gE.1 A).1;have I:=ga  g (l:=l);have B:(i+1)*k<=l.length*k:=pU k C;rw[yN,tX]at B;rw[sP J,Gb g A D]
end
def rf(n:Int)(e:gS):Prop:=e.1<0\/n<=e.1\/e.2.1<0\/n<=e.2.1
def v0(e:gS):Prop:=e.2.2<0\/2147483647<e.2.2
instance (n:Int) (e:gS):Decidable (rf n e):=inferInstanceAs (Decidable (_\/_))
instance (e:gS):Decidable (v0 e):=inferInstanceAs (Decidable (_\/_))
def DI(n:Int)(es:aa gS):Prop:=0<=n/\n<=4096/\es.length<=65536/\(∀e∈es,¬rf n e)/\∀e∈es,¬v0 e
def axW{aA:Type}(p:aA->ak)(es:aa aA)(eI:ad->Nat->Prop)(v rB:X)(m:Nat)(aE:aa X)(ac:ad)(Y:Nat):Prop:=∃i,m=es.length-i/\i<=es.length/\aE=[v,rB,.int .i64 0,(es.length:X),(i:X)]/\eI ac Y/\∀x∈es.take i,p x=false
theorem arn{aA:Type}{enc:aA->aa X}(ek:∀x,(enc x).length=3){v:X}{es:aa aA}{h:ad}{U:Nat}(p:aA->ak)(eI:ad->Nat->Prop)(pK:∀ac Y,eI ac Y->dq ac Y v enc es)(ap:eI h U)(bg:es.length<=65536)(bx:∀g∈es,∀ac Y (K:bD),eI ac Y->(∀(b:ak) D A,b=p g->eI D A->K (.bool b) D A)->gB Q s (jc ac Y [.agg ⟨enc g⟩] rB) K):
  aD Q s 255 [v,rB] h U (λr ac Y=>eI ac Y/\((r = .int .i64 (-1)/\∀x∈es,p x=false)\/∃(i:Nat) (x:aA),r = (i:X)/\es[i]? = some x/\p x=true/\∀y∈es.take i,p y=false)):=by
 refine atY ?_;unfold index;obtain⟨a,cap,rfl,aU⟩:=id (pK _ _ ap);refine aB ?_;refine bq.mk (axW p es eI (.slice a es.length cap) rB) es.length ⟨0,J,J,rfl,ap,by simp⟩ ?_;rintro m _ ac Y ⟨i,rfl,ai,rfl,V,M⟩;rw[aqR];unfold acZ;refine aB ?_;refine⟨λh1=>?_,λh1=>?_⟩
 ·obtain⟨x,Z⟩:=dk h1;obtain⟨_,b,aO,bC,oJ,cs,tv,B,I⟩:=(pK _ _ V).at Z;cases B;simp(disch:=omega)only[bd,I,sj   ek Z,seval];refine bx x ab ac Y _ V (λck D A aG C=>?_);subst aG;refine a9 (cn (J:i<1000000000000)) ?_;refine⟨λbv=>⟨C,ab⟩,λbv=>⟨es.length-(i+1),J,i+1,rfl,h1,rfl,C,λy ca=>?_⟩⟩;rw[gQ,Z]at ca
  grind
 ·have:i=es.length:=J
  subst this;rw[ht]at M;exact⟨V,ab⟩
theorem adm{v:X}{h:ad}{U:Nat}(p:gS->ak)(aI:dq h U v gc es)(bg:es.length<=65536)(bx:∀g∈es,∀ac Y (K:bD),az U h ac->U<=Y->(∀(b:ak) B A,b=p g->az Y ac B->Y<=A->K (.bool b) B A)->gB Q s (jc ac Y [.agg ⟨gc g⟩] rB) K):
  aD Q s 164 [v,rB] h U (λr ac Y=>r = .bool (es.any p)/\az U h ac/\U<=Y):=by
 refine bS ?_;refine(arn  (λ_=>rfl) p (λac Y=>az U h ac/\U<=Y) (λac Y D=>aI.T D.1 D.2) aC bg (λg V ac Y K M Z=>bx g V ac Y K M.1 M.2 (λb B A aG dE I=>Z b B A aG aC))).mono ?_;rintro r ac Y ⟨⟨hk,C⟩,⟨rfl,wh⟩|⟨i,x,rfl,aR,bv,_⟩⟩
 ·refine aB ?_;exact aC
 ·refine aB ?_;exact⟨by rw[vl.2 ⟨x,jp aR,bv⟩];simp,hk,C⟩
def xF(n:Int)(e:gS):ak:=(decide (e.1<0)||!decide (e.1<n))||(decide (e.2.1<0)||!decide (e.2.1<n))
theorem KW:xF n e=true↔rf n e:=by
 unfold xF rf
 grind
def Bz(e:gS):ak:=decide (e.2.2<0)||decide (2147483647<e.2.2)
theorem KX:Bz e=true↔v0 e:=by
 unfold Bz v0
 grind
def aht(p:gS->Prop)(n:Int)(es:aa gS)(v w:X)(U:Nat)(h:ad)(m:Nat)(aE:aa X)(ac:ad)(Y:Nat):Prop :=
 ∃i:Nat,m=es.length-i/\i<=es.length/\aE=[bb U,w,(i:X)]/\u ac U=some (.cells [(n:X),v] false)/\az U h ac/\U+1<=Y/\∀x∈es.take i,¬p x
theorem adn{p:gS->Prop}{x:gS}(A:es[i]? = some x)(h:∀y∈es.take i,¬p y)(B:¬p x):∀y∈es.take (i+1),¬p y:=λy g=>by
 rw[gQ,A]at g
 grind
def mQ(e:gS):GE:=⟨e.1.toNat,e.2.1.toNat,e.2.2⟩
theorem DI.Is(h:DI n es):∃N:Nat,n=(N:Int)/\N<=4096/\a1 gc es=a1 bQ (es.map mQ)/\∀g∈es.map mQ,fy N g:=by
 obtain⟨h1,al,aM,Z,C⟩:=h;refine⟨n.toNat,J,J,?_,λg D=>?_⟩
 ·have:∀l:aa gS,(∀e∈l,¬rf n e)->a1 gc l=a1 bQ (l.map mQ):=by
   intro l
   induction l with
   |nil=>intro _;rfl
   |cons x l V =>
    intro B;show gc x++a1 gc l=bQ (mQ x)++a1 bQ (l.map mQ);have aR:=B x (ow ..);unfold rf at aR;rw[V (λe A=>B e (m8 _ A))]
    congr 1
    unfold gc bQ mQ
    grind
  grind
 ·obtain⟨e,A,rfl⟩:=fL.1 D;have I:=Z e A;have M:=C e A;unfold rf at I;unfold v0 at M;refine⟨?_,?_,?_,?_⟩
  ·show e.1.toNat<n.toNat;omega
  ·show e.2.1.toNat<n.toNat;omega
  ·show 0<=e.2.2;omega
  ·show e.2.2<=2147483647;omega
theorem dq.map{h:ad}{U:Nat}{v:X}{es:aa gS}(g:dq h U v gc es)(e:a1 gc es=a1 bQ (es.map mQ)):dq h U v bQ (es.map mQ):=by
 obtain⟨a,cap,M,A⟩:=g;refine⟨a,cap,ab,λI=>?_⟩;obtain⟨b,aO,B,cs,V,D,C⟩:=A ab
 grind
def Xf:GE:=⟨0,0,0⟩
theorem Vq{h:ad}{b:Nat}{m:aa GE}{x:GE}(g:i<m.length):jg (some (.cells (a1 bQ m) false)) h b (i*3) [(x.f:X),(x.t:X),(x.w:X)] = .ok (F h b (.cells (a1 bQ (m.set i x)) false)):=by show R.of _ (ng (bQ x) (a1 bQ m) (i*3)) _=_;rw[aaW (k:=3) (λ_=>rfl) x g];rfl
theorem x1{aA:Type}{enc:aA->aa X}{l:aa aA}(A:∀x,(enc x).length=k){e:aA}(g:l[i]? = some e):hF (some k) (i*k) (a1 enc l) = .ok (.agg ⟨enc e⟩):=by
 have:=sj A g (cs:=[])
 grind
def di(g:GE):dn:=((g.f:Int),(g.t:Int),g.w)
def Cq(x:dn):GE:=⟨x.1.toNat,x.2.1.toNat,x.2.2⟩
theorem Rw:∀l:aa GE,a1 bQ l=a1 kK (l.map di)
 | []=>rfl
 |x::l=>by show bQ x++a1 bQ l=kK (di x)++a1 kK (l.map di);rw[Rw l];rfl
theorem PS(g:0<=n)(A:n<2147483648):DD n=true:=by
 obtain⟨m,rfl⟩:=CK g;show Nat.blt m 2147483648=true;rw[pd]
 grind
theorem abm{N:Nat}{g:GE}(A:N<=2147483648)(h:fy N g):l8 (di g):=⟨PS (by show(0:Int)<=(g.f:Int);omega) (by have:=h.1;show((g.f:Int))<_;omega),PS (by show(0:Int)<=(g.t:Int);omega) (by have:=h.2.1;show((g.t:Int))<_;omega),PS h.2.2.1 (by have:=h.2.2.2;show g.w<_;omega)⟩
def Ends(x y:dn):Prop:=x.1=y.1/\x.2.1=y.2.1
theorem YR(e:dn):∀(l:aa dn),(∀x∈iT e l,∃y∈e::l,Ends x y)/\∀y∈e::l,∃x∈iT e l,Ends x y
 | []=>⟨λx A=>⟨x,A,rfl,rfl⟩,λy g=>⟨y,g,rfl,rfl⟩⟩
 |z::l=>by
  obtain⟨I,D⟩:=YR e l;have M:iT e (z::l)=(bif fN z.1 e.1&&fN z.2.1 e.2.1 then(z.1,z.2.1,bif lK e.2.2 z.2.2 then e.2.2 else z.2.2)::l else z::iT e l):=rfl;rw[M];cases C:(fN z.1 e.1&&fN z.2.1 e.2.1)with
  |true =>
   simp only[eD,lo,vn]at C;simp only[oy];refine⟨λx A=>?_,λy g=>?_⟩
   ·rcases hf.1 A with rfl|A
    ·exact⟨z,by simp,rfl,rfl⟩
    ·exact⟨x,ab,rfl,rfl⟩
   ·rcases hf.1 g with rfl|g
    ·exact⟨_,ow ..,C.1,C.2⟩
    ·rcases hf.1 g with rfl|g
     ·exact⟨_,ow ..,rfl,rfl⟩
     ·exact⟨y,ab,rfl,rfl⟩
  |false =>
   simp only[lH];refine⟨λx A=>?_,λy g=>?_⟩
   ·rcases hf.1 A with rfl|A
    ·exact⟨x,by simp,rfl,rfl⟩
    ·obtain⟨y,g,B⟩:=I x A;refine⟨y,?_,B⟩
     grind
   ·rcases hf.1 g with rfl|g
    ·obtain⟨x,A,B⟩:=D y ab;exact⟨x,ab,B⟩
    ·rcases hf.1 g with rfl|g
     ·exact⟨y,ab,rfl,rfl⟩
     ·obtain⟨x,A,B⟩:=D y ab;exact⟨x,ab,B⟩
theorem YS:∀(l g:aa dn),(∀x∈iA g l,∃y∈g++l,Ends x y)/\∀y∈g++l,∃x∈iA g l,Ends x y
 | [],g=>⟨λx I=>⟨x,by simpa[iA]using I,rfl,rfl⟩,λy A=>⟨y,by simpa[iA]using A,rfl,rfl⟩⟩
 |e::l,g=>by
  obtain⟨h1,Z⟩:=YS l (iT e g);obtain⟨aM,bc⟩:=YR e g;refine⟨λx I=>?_,λy A=>?_⟩
  ·obtain⟨y,A,C⟩:=h1 x I;rcases g6.1 A with A|A
   ·obtain⟨z,V,B⟩:=aM y A;refine⟨z,?_,C.1.trans B.1,C.2.trans B.2⟩
    grind
   ·exact⟨y,ab,C⟩
  ·have D:∀z∈e::g,∃x∈iA (iT e g) l,Ends x z:=λz V=>by obtain⟨x,I,C⟩:=bc z V;obtain⟨jC,M,B⟩:=Z x ab;exact⟨jC,M,B.1.trans C.1,B.2.trans C.2⟩
   rcases g6.1 A with A|A
   ·exact D y ab
   ·rcases hf.1 A with rfl|A
    ·exact D _ ab
    ·exact Z y ab
end Go.Proofs.YthlhhajnbgjfmaaGreat
