/- Parts of the proof: HwFn1: each statement bears its own conditions. -/
import Derived.Test.YthlhhajnbgjfmaaGreatProg
import Derived.KernelRfl
import Derived.Shelf.SlGeneric
import Derived.Test.YthlhhajnbgjfmaaGreatRcHw2
namespace Go.Proofs.YthlhhajnbgjfmaaGreat
open Go Go.Ax Go.Shelf Go.Proofs
set_option maxRecDepth 1000000
theorem mixed:Tryz.prog.follows .mixedOrders=true:=by kernel_rfl
theorem atp:Tryz.prog.funcs.toList.all Fu=true:=by kernel_rfl
theorem G3:pF Tryz.prog:=pF.of mixed atp
set_option linter.all false
set_option maxHeartbeats 1000000
variable {s:al} {N R aM:aR} {aC aB a2 ba bu:X} {n:Int} {aY:X} {es:aa hN} {a3:X} {x a b:Int} {f:Nat} {bx bN:X} {aO:aw Nat} {g7 en:X} {r:Int} {i:Nat} {eD jd iZ:X} {cs:aa X} {cap:Nat} {aP:aR} {e:hN} {kE lk di ga:X} {k:Nat} {K:bP} {c4 qI:X} {aV:aR} {y:Int}
theorem u28:Tryz.prog.underlying 53=some (.array 2 3):=by kernel_rfl
theorem yR:Tryz.prog.underlying 3=some (.int .i64):=by kernel_rfl
theorem k28:Tryz.prog.keyTypeAt 8 53=true:=by kernel_rfl
theorem c28:Tryz.prog.cellsOf 53=2:=by kernel_rfl
theorem ci:Tryz.prog.cellsOf 3=1:=by kernel_rfl
theorem Qi{k:IntKind}(g:k = .i64\/k = .u64){m:Nat}(h:m<4294967296):(Lit.int k (m:Int)).wf=true:=by
 rcases g with rfl|rfl <;> simp[Lit.wf,IntKind.min,IntKind.max,IntKind.bits,IntKind.signed] <;> omega
theorem acA{a b:Nat}(D:a<2147483648)(B:b<2147483648):Tryz.prog.keyLits 8 53 [.int .i64 (a:Int),.int .i64 (b:Int)]=some [.int .i64 (a:Int),.int .i64 (b:Int)]:=by
 have C:=Qi (k:=.i64) (.inl rfl) (J:a<4294967296)
 have E:=Qi (k:=.i64) (.inl rfl) (J:b<4294967296)
 have g:∀m:Nat,m<4294967296->Tryz.prog.keyLits 7 3 [.int .i64 (m:Int)]=some [.int .i64 (m:Int)]:=λm A=>by unfold Program.keyLits;simp only[yR,Qi (k:=.i64) (.inl rfl) A,and_self,if_true]
 unfold Program.keyLits;simp only[u28,c28,ci,nJ,Et,Nat.reduceAdd,if_true];rw[show List.range 2=[0,1]from rfl];simp only[BI,List.mapM_nil,l1,ub,pb,MN,Eo,t8,g a J,g b J];rfl
theorem Qj:Kf Tryz.prog 53:=λx y I L=>by
 obtain⟨a,b,c⟩:=x;obtain⟨d,e,f⟩:=y;obtain⟨g,V,ar⟩:=uh I.1;obtain⟨A,M,bm⟩:=uh I.2.1;obtain⟨C,D,cF⟩:=uh L.1;obtain⟨B,P,Z⟩:=uh L.2.1;simp only at V M D P;subst V M D P;show sg Tryz.prog 53 (.agg ⟨[(g:X),(A:X)]⟩) (.agg ⟨[(C:X),(B:X)]⟩)=_;have E:∀a b:Int,(Value.agg ⟨[.int .i64 a,.int .i64 b]⟩).formed Tryz.prog 53=true:=λa b=>by simp[Value.formed,u28,c28]
 unfold sg;rw[k28,E,E];show(bif true&&(true&&true&&true&&true)then K0 (Tryz.prog.keyLits 8 53 [.int .i64 (g:Int),.int .i64 (A:Int)]) (Tryz.prog.keyLits 8 53 [.int .i64 (C:Int),.int .i64 (B:Int)])else none)=_;rw[acA ar bm,acA cF Z];show some ((mc .i64 .i64&&fz g C)&&((mc .i64 .i64&&fz A B)&&true))=some (fz C g&&fz B A);rw[vH,kN,kN,kN,kN]
 congr 1
 simp only[Bool.true_and,Bool.and_true];rw[Bool.beq_comm (a:=(g:Int)),Bool.beq_comm (a:=(A:Int))]
def SO:Field:={ name := "Hi",type:=2,offset:=0,embedded:=false,tag := "",pkgPath := "",byteOffset:=0 }
def SP:Field:={ name := "Lo",type:=188,offset:=1,embedded:=false,tag := "",pkgPath := "",byteOffset:=8 }
theorem afQ:Tryz.prog.underlying 272=some (.struct #[SO,SP]):=by kernel_rfl
theorem D6:Tryz.prog.underlying 2=some (.int .i64):=by kernel_rfl
theorem axV:Tryz.prog.underlying 188=some (.int .u64):=by kernel_rfl
theorem axW:Tryz.prog.keyTypeAt 8 272=true:=by kernel_rfl
theorem avY:Fl Tryz.prog 272=true:=by kernel_rfl
theorem afR:Tryz.prog.cellsOf 272=2:=by kernel_rfl
theorem c2:Tryz.prog.cellsOf 2=1:=by kernel_rfl
theorem axX:Tryz.prog.cellsOf 188=1:=by kernel_rfl
def dC(v:X)(U:Nat)(h:ae):bP:=λr ac Y=>r=v/\aA U h ac/\U<=Y
abbrev fo(v:X)(U:Nat)(h:ae):bP:=λr ac Y=>r=v/\ac=h/\Y=U
theorem acB:IntKind.wrap .i64 n=(if n % 18446744073709551616≥9223372036854775808 then n % 18446744073709551616-18446744073709551616 else n % 18446744073709551616):=by simp only[IntKind.wrap,IntKind.signed,IntKind.bits];simp
noncomputable abbrev Q:Program:=Tryz.prog
instance:Inhabited GE:=⟨⟨0,0,0⟩⟩
def qp(x y:GE):Int:=hB [fO (x.f:Int) (y.f:Int),fO (x.t:Int) (y.t:Int)]
theorem lR:pF Q:=G3
def ax(h:ae)(n:Nat)(x:X)(k:X->Prop):Prop:=af (zQ n x) λd=>af (iH none h d) k
def jk(m:Nat)(h:ae)(n:Nat)(x:X)(k:X->Prop):Prop:=af (zQ n x) λd=>af (iH (some m) h d) k
def d0(h:ae)(n:Nat)(x i:X)(k:X->Prop):Prop:=af (ib (.slice n) x i) λd=>af (iH none h d) k
def hv(m:Nat)(h:ae)(n:Nat)(x i:X)(k:X->Prop):Prop:=af (ib (.slice n) x i) λd=>af (iH (some m) h d) k
def bw(o:BinOp)(t:TypeId)(a b:X)(p q:Prop):Prop:=af (bin Q o t a b) λv=>br v p q
def ls(a:X)(p q:Prop):Prop:=af (bin Q .neq 30 a (.int .i64 0)) λv=>br v p q
def cH(a b:X)(p q:Prop):Prop:=af (bin Q .lss 3 a b) λv=>br v p q
def j6(a b:X)(p q:Prop):Prop:=af (bin Q .gtr 3 a b) λv=>br v p q
def cg(a:X)(k:X->Prop):Prop:=af (bin Q .add 3 a (.int .i64 1)) k
def lu(a b:X)(k:X->Prop):Prop:=af (bin Q .add 3 a b) k
abbrev UC:=al->ae->Nat->bP->Prop
abbrev aAx(f:Nat)(dK:UC):=∀{s  h U K},dK s  h U K->aH Q s f [] h U K
theorem zf0{g:UC}(L:aa (aa Nat))(e:∀s  h U K,ob Q s L f [] h U K=g s  h U K:=by intros;kernel_rfl):aAx f g:=λw=>aH.AF lR L w (e _ _ _ _)
abbrev cP:=al->X->ae->Nat->bP->Prop
abbrev cQ(f:Nat)(dK:cP):=∀{s ah h U K},dK s ah h U K->aH Q s f [ah] h U K
theorem cT{g:cP}(L:aa (aa Nat))(e:∀s A h U K,ob Q s L f [A] h U K=g s A h U K:=by intros;kernel_rfl):cQ f g:=λw=>aH.AF lR L w (e _ _ _ _ _)
abbrev c5:=al->X->X->ae->Nat->bP->Prop
abbrev c7(f:Nat)(dK:c5):=∀{s ah t1 h U K},dK s ah t1 h U K->aH Q s f [ah,t1] h U K
theorem c9{g:c5}(L:aa (aa Nat))(e:∀s B A h U K,ob Q s L f [B,A] h U K=g s B A h U K:=by intros;kernel_rfl):c7 f g:=λw=>aH.AF lR L w (e _ _ _ _ _ _)
abbrev gf:=al->X->X->X->ae->Nat->bP->Prop
abbrev gl(f:Nat)(dK:gf):=∀{s ah t1 t2 h U K},dK s ah t1 t2 h U K->aH Q s f [ah,t1,t2] h U K
theorem gp{g:gf}(L:aa (aa Nat))(e:∀s C A B h U K,ob Q s L f [C,A,B] h U K=g s C A B h U K:=by intros;kernel_rfl):gl f g:=λw=>aH.AF lR L w (e _ _ _ _ _ _ _)
abbrev vm:=al->X->X->X->X->ae->Nat->bP->Prop
abbrev w4(f:Nat)(dK:vm):=∀{s ah t1 t2 t3 h U K},dK s ah t1 t2 t3 h U K->aH Q s f [ah,t1,t2,t3] h U K
theorem yy{g:vm}(L:aa (aa Nat))(e:∀s B D A C h U K,ob Q s L f [B,D,A,C] h U K=g s B D A C h U K:=by intros;kernel_rfl):w4 f g:=λw=>aH.AF lR L w (e _ _ _ _ _ _ _ _)
abbrev w5:=al->X->X->X->X->X->ae->Nat->bP->Prop
abbrev yS(f:Nat)(dK:w5):=∀{s ah t1 t2 t3 fS h U K},dK s ah t1 t2 t3 fS h U K->aH Q s f [ah,t1,t2,t3,fS] h U K
theorem AL{g:w5}(L:aa (aa Nat))(e:∀s C E A D B h U K,ob Q s L f [C,E,A,D,B] h U K=g s C E A D B h U K:=by intros;kernel_rfl):yS f g:=λw=>aH.AF lR L w (e _ _ _ _ _ _ _ _ _)
abbrev Mm:=al->X->X->X->X->X->X->ae->Nat->bP->Prop
abbrev UD(f:Nat)(dK:Mm):=∀{s ah t1 t2 t3 fS sL h U K},dK s ah t1 t2 t3 fS sL h U K->aH Q s f [ah,t1,t2,t3,fS,sL] h U K
theorem zf6{g:Mm}(L:aa (aa Nat))(e:∀s D I B E C A h U K,ob Q s L f [D,I,B,E,C,A] h U K=g s D I B E C A h U K:=by intros;kernel_rfl):UD f g:=λw=>aH.AF lR L w (e _ _ _ _ _ _ _ _ _ _)
def bG(o:BinOp)(t:TypeId)(a b:X)(k:X->Prop):Prop:=af (bin Q o t a b) k
def aW(s:al)(f:Nat)(l:aa X)(h:ae)(n:Nat)(k:bP):Prop:=aH Q s f l h n k
def b9(f:Nat)(l:aa X)(h:ae)(n:Nat)(k:bP):Prop:=aH Q true f l h n λv ac jM=>n<=jM/\k v ac jM
def bn:=And.intro @Uz (And.intro @bG.eq_1 (And.intro @bf.eq_1 (And.intro @bT.eq_1 (And.intro @aN.eq_1 (And.intro @hT.eq_1 (And.intro @cV.eq_1 (And.intro @b9.eq_1 (And.intro @c0.eq_1 (And.intro @aW.eq_1 (And.intro @bI.eq_1 (And.intro @bW.eq_1 (And.intro @jg.eq_1 (And.intro @ad.eq_1 (And.intro @ay.eq_1 (And.intro @ax.eq_1 (And.intro @jk.eq_1 (And.intro @d0.eq_1 (And.intro @hv.eq_1 (And.intro @bw.eq_1 (And.intro @ls.eq_1 (And.intro @cH.eq_1 (And.intro @j6.eq_1 (And.intro @cg.eq_1 @lu.eq_1)))))))))))))))))))))))
theorem m8{p q:Prop}(h:q)(e:q->p:=by intro  h;simp(config:={maxSteps:=1000000})(disch:=omega)only[bn,↓reduceIte,Nat.reduceAdd,Nat.reduceSub,Nat.reduceMul,Nat.reduceLT,Nat.reduceLeDiff,Nat.reduceEqDiff,Int.reduceBEq,Int.reduceLT,Int.reduceNeg];exact h):p:=e  h
theorem l5{p q g:Prop}(aC:g)(h:q)(e:g->q->p:=by intro aC h;simp(config:={maxSteps:=1000000})(disch:=omega)only[bn,↓reduceIte,Nat.reduceAdd,Nat.reduceSub,Nat.reduceMul,Nat.reduceLT,Nat.reduceLeDiff,Nat.reduceEqDiff,Int.reduceBEq,Int.reduceLT,Int.reduceNeg,aC];exact h):p:=e aC h
theorem te{p q A g:Prop}(aC:A)(aB:g)(h:q)(e:A->g->q->p:=by intro aC aB h;simp(config:={maxSteps:=1000000})(disch:=omega)only[bn,↓reduceIte,Nat.reduceAdd,Nat.reduceSub,Nat.reduceMul,Nat.reduceLT,Nat.reduceLeDiff,Nat.reduceEqDiff,Int.reduceBEq,Int.reduceLT,Int.reduceNeg,aC,aB];exact h):p:=e aC aB h
theorem Q3{p q B A g:Prop}(aC:B)(aB:A)(a2:g)(h:q)(e:B->A->g->q->p:=by intro aC aB a2 h;simp(config:={maxSteps:=1000000})(disch:=omega)only[bn,↓reduceIte,Nat.reduceAdd,Nat.reduceSub,Nat.reduceMul,Nat.reduceLT,Nat.reduceLeDiff,Nat.reduceEqDiff,Int.reduceBEq,Int.reduceLT,Int.reduceNeg,aC,aB,a2];exact h):p:=e aC aB a2 h
theorem Gf{p q C B A g:Prop}(aC:C)(aB:B)(a2:A)(a3:g)(h:q)(e:C->B->A->g->q->p:=by intro aC aB a2 a3 h;simp(config:={maxSteps:=1000000})(disch:=omega)only[bn,↓reduceIte,Nat.reduceAdd,Nat.reduceSub,Nat.reduceMul,Nat.reduceLT,Nat.reduceLeDiff,Nat.reduceEqDiff,Int.reduceBEq,Int.reduceLT,Int.reduceNeg,aC,aB,a2,a3];exact h):p:=e aC aB a2 a3 h
theorem Q4{p q D C g A B:Prop}(aC:D)(aB:C)(a2:g)(a3:A)(aY:B)(h:q)(e:D->C->g->A->B->q->p:=by intro aC aB a2 a3 aY h;simp(config:={maxSteps:=1000000})(disch:=omega)only[bn,↓reduceIte,Nat.reduceAdd,Nat.reduceSub,Nat.reduceMul,Nat.reduceLT,Nat.reduceLeDiff,Nat.reduceEqDiff,Int.reduceBEq,Int.reduceLT,Int.reduceNeg,aC,aB,a2,a3,aY];exact h):p:=e aC aB a2 a3 aY h
theorem aF{p q:Prop}(h:q)(e:q->p:=by intro  h;simp(config:={maxSteps:=1000000})(disch:=omega)only[bn,seval];exact h):p:=e  h
theorem bg{p q g:Prop}(aC:g)(h:q)(e:g->q->p:=by intro aC h;simp(config:={maxSteps:=1000000})(disch:=omega)only[bn,aC,seval];exact h):p:=e aC h
theorem cL{p q A g:Prop}(aC:A)(aB:g)(h:q)(e:A->g->q->p:=by intro aC aB h;simp(config:={maxSteps:=1000000})(disch:=omega)only[bn,aC,aB,seval];exact h):p:=e aC aB h
theorem hK{p q B A g:Prop}(aC:B)(aB:A)(a2:g)(h:q)(e:B->A->g->q->p:=by intro aC aB a2 h;simp(config:={maxSteps:=1000000})(disch:=omega)only[bn,aC,aB,a2,seval];exact h):p:=e aC aB a2 h
theorem k7{p q C B A g:Prop}(aC:C)(aB:B)(a2:A)(a3:g)(h:q)(e:C->B->A->g->q->p:=by intro aC aB a2 a3 h;simp(config:={maxSteps:=1000000})(disch:=omega)only[bn,aC,aB,a2,a3,seval];exact h):p:=e aC aB a2 a3 h
theorem uG{p q D C g A B:Prop}(aC:D)(aB:C)(a2:g)(a3:A)(aY:B)(h:q)(e:D->C->g->A->B->q->p:=by intro aC aB a2 a3 aY h;simp(config:={maxSteps:=1000000})(disch:=omega)only[bn,aC,aB,a2,a3,aY,seval];exact h):p:=e aC aB a2 a3 aY h
theorem zT{p q D C g A B E:Prop}(aC:D)(aB:C)(a2:g)(a3:A)(aY:B)(bN:E)(h:q)(e:D->C->g->A->B->E->q->p:=by intro aC aB a2 a3 aY bN h;simp(config:={maxSteps:=1000000})(disch:=omega)only[bn,aC,aB,a2,a3,aY,bN,seval];exact h):p:=e aC aB a2 a3 aY bN h
def acC:c5:=λs ah t1 h U K=>cH t1 (ad 1) (K (ad 0) h U) (cH ah (ad 0) (K (ad 0) h U) (bG .rem 3 ah t1 λc=>K c h U))
theorem apX:c7 79 acC:=c9 []
def Qk:aa (aa Nat):=[[1,2,3,4]]
def Cd(s:al)(N:aR)(aM:aR)(R:aR)(ct cB co de y23:X)(au:ae)(a0:Nat):Prop:=br y23 (ax au 1 ct λb=>hv 3 au 3 b de λd=>bW [(ad 0),(ad 0),(ad 0)] au a0 λe f g=>af (aQ f 3 e d) λi=>ax i 0 e λk=>ax i 0 co λm=>b9 79 [k,m] i g λn o p=>bf 1 e λq=>bT o q λr=>c0 q r (bf 0 co λt=>bT o t λaD=>c0 t aD (b9 79 [r,aD] o p λv w x=>bf 1 co λy=>bT w y λz=>c0 y z (bf 2 e λbz=>bT w bz λbU=>c0 bz bU (bG .and 2 bU (ad 2147483647) λbQ=>af (cS [(ad 0),(ad 0),(ad 0)] [(0,1,n),(1,1,v),(2,1,bQ)]) λa8=>d4 (fh 1 [(ad 0),(ad 0),(ad 0)] [(0,3,a8)]) w x λbY b7 bL=>dG (dX (dT 3 b7 bL z bY)) λcK cC dn=>bL<=dn/\bf 1 co λdf=>af (aQ cC 1 df cK) λeJ=>cg de λam=>N [ct,cB,co,am] eJ dn) 2 [o,i]) 2 [o,i]) 1 [i]) 1 [i]) (aM [ct,cB,co,de] au a0)
def aau(s:al)(aB a2 a3 aY:X)(h:ae)(U:Nat)(N:aR)(aM:aR)(R:aR):Prop:=ax h 1 aB λb=>cV b λc=>cH aY c (cH aY (ad 60) (ax h 0 a3 λg=>bG .gtr 3 g (ad 0) λi=>(Cd s N aM R aB a2 a3 aY i h U)) (Cd s N aM R aB a2 a3 aY (.bool false) h U)) (Cd s N aM R aB a2 a3 aY (.bool false) h U)
def aey:cP:=λs ah h U K=>bI ah h U λa b c=>bW [(ad 0),ay] b c λd e f=>ax e 0 a λi=>aW s 79 [i,(ad 24)] e f λj k l=>af (cS [(ad 0),ay] [(0,1,j)]) λm=>bW [(ad 0),ay] k l λn o p=>af (aQ o 2 n m) λq=>bD (bR Q s Qk 78 0) [a,d,n,(ad 0)] q p [(0,λr t aD=>aN 2 t (a7 r 2) λv=>af (aQ t 2 (a7 r 1) v) λw=>aN 2 w (a7 r 1) λx=>K x w aD)] (λ_ _ _=>False)
theorem apY{h:ae}{U:Nat}:bR Q s Qk 78 0 [aB,a2,a3,aY] h U N [(0,aM)] R=aau s aB a2 a3 aY h U N aM R:=by kernel_rfl
theorem atq:cQ 78 aey:=cT Qk
def J1(s:al)(K:bP)(ct cB ey:X)(au:ae)(a0:Nat):Prop:=ax au 2 ct λb=>ax au 0 ey λd=>b9 79 [b,d] au a0 λe f g=>aN 2 f ey λi=>jg 2 ey i (af (aQ f 2 cB i) λj=>bf 3 ct λk=>bT j k λl=>c0 k l (af (qe (.int .i64) l) λm=>bG .rem 3 m (ad 4) λn=>cg n λo=>bf 4 ct λp=>bT j p λq=>c0 p q (af (qe (.int .i64) q) λr=>bG .rem 3 r (ad 4) λt=>cg t λaD=>aN 2 j cB λv=>K (.tuple ⟨[v,e,o,aD]⟩) j g) 2 [f,au]) 2 [f,au]) 1 [au]
def make:cP:=λs ah h U K=>bI ah h U λa b c=>bW [(ad 0),ay] b c λd e f=>jk 2 e 0 a λi=>aW s 78 [i] e f λj k l=>bW [(ad 0),ay] k l λm n o=>af (aQ n 2 m j) λp=>ax p 0 m λr=>bw .eql 3 r (ad 0) (af (cS [(ad 0),ay] [(0,1,(ad 1))]) λaD=>af (aQ p 2 m aD) λv=>(J1 s K a d m v o)) (J1 s K a d m p o)
theorem avZ:cQ 15 make:=cT []
def right:cP:=λs ah h U K=>bI ah h U λa b c=>af (.ok (Value.func (.func 163) ⟨[]⟩ ⟨[a]⟩)) λd=>bW [.nilFunc] b c λe f g=>af (aQ f 1 e d) λi=>ax i 0 a λk=>cH k (ad 0) (K (ad 3) i g) (ax i 0 a λn=>j6 n (ad 4096) (K (ad 5) i g) (ax i 1 a λq=>cV q λr=>j6 r (ad 65536) (K (ad 5) i g) (ax i 1 a λv=>af (.ok (Value.func (.func 165) ⟨[]⟩ ⟨[e]⟩)) λw=>aW s 164 [v,w] i g λx y z=>br x (K (ad 3) y z) (ax y 1 a λbU=>aW s 164 [bU,(.func (.func 166) #[] #[])] y z λbQ a8 bY=>br bQ (K (ad 7) a8 bY) (K (ad 0) a8 bY)))))
theorem atr:cQ 83 right:=cT []
def Ql:c5:=λs ah t1 h U K=>cH ah (ad 0) (K (.bool true) h U) (ax h 0 t1 λc=>bG .geq 3 ah c λd=>K d h U)
theorem aav:c7 163 Ql:=c9 []
def acD:c5:=λs ah t1 h U K=>bI ah h U λa b c=>bT b t1 λd=>ax b 0 a λf=>fc Q s (hJ b c [f] d) λg i j=>br g (K (.bool true) i j) (bT i t1 λk=>ax i 1 a λm=>fc Q s (hJ i j [m] k) λn o p=>K n o p)
theorem apZ:c7 165 acD:=c9 []
def acE:cP:=λs ah h U K=>bI ah h U λa b c=>ax b 2 a λe=>bw .lss 2 e (ad 0) (K (.bool true) b c) (ax b 2 a λi=>bG .gtr 2 i (ad 2147483647) λj=>K j b c)
theorem ap0:cQ 166 acE:=cT []
def av0:c5:=λs ah t1 h U K=>aW s 255 [ah,t1] h U λa b c=>bG .geq 3 a (ad 0) λd=>K d b c
theorem att:c7 164 av0:=c9 []
def Qm:aa (aa Nat):=[[0,1,4,7,8]]
def aaw(s:al)(aC aB aY ba bx:X)(h:ae)(U:Nat)(N:aR)(aM:aR)(R:aR):Prop:=cH bx ba (hv 3 h 3 aC bx λc=>fc Q s (hJ h U [c] aB) λd e f=>br d (R [aC,aB,bx,ba,bx] e f) (cg bx λg=>N [aC,aB,aY,ba,g] e f)) (aM [aC,aB,aY,ba,bx] h U)
def index:c5:=λs ah t1 h U K=>cV ah λa=>bD (bR Q s Qm 255 0) [ah,t1,(ad 0),a,(ad 0)] h U [(0,λb c d=>K (ad (-1)) c d)] (λe f g=>K (a7 e 2) f g)
theorem ap1{h:ae}{U:Nat}:bR Q s Qm 255 0 [aC,aB,aY,ba,bx] h U N [(0,aM)] R=aaw s aC aB aY ba bx h U N aM R:=by kernel_rfl
theorem atu:c7 255 index:=c9 Qm
def O9:cP:=λs ah h U K=>bw .eql 29 ah ay (K ay h U) (d4 (fh 0 [] []) h U λb c d=>dG (dX (dT 1 c d b ah)) λe f g=>K e f g)
theorem Yv:cQ 88 O9:=cT []
def Qn:aa (aa Nat):=[[0,1,4,5]]
def aax(s:al)(aC aB aY bN:X)(h:ae)(U:Nat)(N:aR)(aM:aR)(R:aR):Prop:=cV aC λa=>cH bN a (d0 h 1 aC bN λd=>d0 h 1 aB bN λf=>bw .neq 2 d f (R [aC,aB,(.bool false),bN] h U) (cg bN λi=>N [aC,aB,aY,i] h U)) (aM [aC,aB,aY,bN] h U)
def aez:c5:=λs ah t1 h U K=>cV ah λa=>cV t1 λb=>bw .neq 3 a b (K (.bool false) h U) (bD (bR Q s Qn 19 0) [ah,t1,(.bool false),(ad 0)] h U [(0,λd e f=>K (.bool true) e f)] (λg i j=>K (a7 g 2) i j))
theorem ap2{h:ae}{U:Nat}:bR Q s Qn 19 0 [aC,aB,aY,bN] h U N [(0,aM)] R=aax s aC aB aY bN h U N aM R:=by kernel_rfl
theorem atv:c7 19 aez:=c9 Qn
def aeA:cP:=λs ah h U K=>bI ah h U λa b c=>bW [(ad 0),ay] b c λd e f=>ax e 1 a λi=>aW s 172 [(ad 1),i] e f λj k l=>af (cy j 0) λm=>af (cy j 1) λn=>ax k 0 a λp=>af (cS [(ad 0),ay] [(0,1,p),(1,1,m)]) λq=>af (aQ k 2 d q) λr=>aN 2 r d λt=>K t r l
theorem atw:cQ 98 aeA:=cT []
def rZ(s:al)(K:bP)(co de:X)(au:ae)(a0:Nat):Prop:=aN 2 au co λa=>aW s 189 [a] au a0 λb c d=>af (cy b 0) λe=>af (cy b 1) λf=>af (aQ c 5 de e) λg=>aN 5 g de λi=>K (.tuple ⟨[i,f]⟩) g d
def Qo:c5:=λs ah t1 h U K=>bI ah h U λa b c=>bI t1 b c λd e f=>bW [(ad 0),(ad 0),ay,ay,ay] e f λg i j=>aN 5 i a λk=>aW s 187 [k] i j λl m n=>ls l (af (cS [(ad 0),(ad 0),ay,ay,ay] []) λp=>af (aQ m 5 g p) λq=>aN 5 q g λr=>K (.tuple ⟨[r,l]⟩) q n) (ax m 0 d λaD=>ax m 1 a λw=>bw .neq 3 aD w (af (cS [(ad 0),(ad 0),ay,ay,ay] []) λy=>af (aQ m 5 g y) λz=>aN 5 z g λbz=>K (.tuple ⟨[bz,(ad 4)]⟩) z n) (aN 2 m d λbU=>aW s 83 [bU] m n λbQ a8 bY=>ls bQ (af (cS [(ad 0),(ad 0),ay,ay,ay] []) λbL=>af (aQ a8 5 g bL) λcK=>aN 5 cK g λcC=>K (.tuple ⟨[cC,bQ]⟩) cK bY) (ax a8 0 a λdf=>bw .eql 40 df (ad 5) (aN 2 a8 d λam=>aW s 182 [am] a8 bY λan eP gx=>af (aQ eP 2 d an) λgN=>aN 2 gN d λgE=>aW s 181 [gE] gN gx λh7 iN gy=>af (aQ iN 2 d h7) λlS=>aN 2 lS d λlv=>aW s 188 [lv] lS gy λlw oi oj=>af (aQ oi 2 d lw) λcf=>(rZ s K d g cf oj)) (bw .eql 40 df (ad 3) (aN 2 a8 d λbe=>aW s 181 [be] a8 bY λlT pW f7=>af (aQ pW 2 d lT) λbi=>aN 2 bi d λw6=>aW s 188 [w6] bi f7 λo0 lx jv=>af (aQ lx 2 d o0) λvn=>(rZ s K d g vn jv)) (bw .eql 40 df (ad 1) (aN 2 a8 d λtV=>aW s 188 [tV] a8 bY λeQ Bc pX=>af (aQ Bc 2 d eQ) λkG=>(rZ s K d g kG pX)) (rZ s K d g a8 bY))))))
theorem aay:c7 114 Qo:=c9 []
def zl(s:al)(K:bP)(ct:X)(au:ae)(a0:Nat):Prop:=ax au 4 ct λb=>cV b λc=>j6 c (ad 65536) (K (ad 5) au a0) (ax au 4 ct λf=>aW s 278 [f,(.func (.func 279) #[] #[])] au a0 λg i j=>br g (K (ad 7) i j) (K (ad 0) i j))
def EU(s:al)(K:bP)(ct ll:X)(au:ae)(a0:Nat):Prop:=br ll (K (ad 8) au a0) (ax au 1 ct λb=>aW s 277 [b,(ad 4096)] au a0 λc d e=>af (dr .not c) λf=>br f (K (ad 3) d e) (ax d 0 ct λi=>bw .eql 40 i (ad 4) (ax d 3 ct λl=>aW s 277 [l,(ad 8192)] d e λm n o=>af (dr .not m) λp=>br p (K (ad 3) n o) (ax n 2 ct λr=>ax n 1 ct λaD=>bG .sub 3 aD (ad 1) λv=>aW s 277 [r,v] n o λw x y=>af (dr .not w) λz=>br z (K (ad 3) x y) (zl s K ct x y))) (bw .eql 40 i (ad 1) (ax d 2 ct λbQ=>ax d 1 ct λbY=>bG .sub 3 bY (ad 1) λb7=>aW s 277 [bQ,b7] d e λbL cK cC=>af (dr .not bL) λdn=>br dn (K (ad 3) cK cC) (zl s K ct cK cC)) (bw .eql 40 i (ad 2) (ax d 2 ct λam=>ax d 1 ct λeP=>bG .sub 3 eP (ad 1) λgx=>aW s 277 [am,gx] d e λgN gE h7=>af (dr .not gN) λiN=>br iN (K (ad 3) gE h7) (zl s K ct gE h7)) (zl s K ct d e)))))
def aaz:cP:=λs ah h U K=>bI ah h U λa b c=>ax b 0 a λe=>bw .leq 40 e (ad 0) (EU s K a (.bool true) b c) (ax b 0 a λi=>bG .gtr 40 i (ad 5) λj=>(EU s K a j b c))
theorem al9:cQ 187 aaz:=cT []
def aaA:c5:=λs ah t1 h U K=>bw .geq 3 ah (ad 0) (bG .leq 3 ah t1 λb=>K b h U) (K (.bool false) h U)
theorem ama:c7 277 aaA:=c9 []
def atx:c5:=λs ah t1 h U K=>aW s 366 [ah,t1] h U λa b c=>bG .geq 3 a (ad 0) λd=>K d b c
theorem ap3:c7 278 atx:=c9 []
def aaB:cP:=λs ah h U K=>bw .lss 2 ah (ad 0) (K (.bool true) h U) (bG .gtr 2 ah (ad 2147483647) λb=>K b h U)
theorem amb:cQ 279 aaB:=cT []
def Pa:aa (aa Nat):=[[0,1,4,7,8]]
def Yw(s:al)(aC aB aY ba bx:X)(h:ae)(U:Nat)(N:aR)(aM:aR)(R:aR):Prop:=cH bx ba (d0 h 1 aC bx λc=>fc Q s (hJ h U [c] aB) λd e f=>br d (R [aC,aB,bx,ba,bx] e f) (cg bx λg=>N [aC,aB,aY,ba,g] e f)) (aM [aC,aB,aY,ba,bx] h U)
def acF:c5:=λs ah t1 h U K=>cV ah λa=>bD (bR Q s Pa 366 0) [ah,t1,(ad 0),a,(ad 0)] h U [(0,λb c d=>K (ad (-1)) c d)] (λe f g=>K (a7 e 2) f g)
theorem amc{h:ae}{U:Nat}:bR Q s Pa 366 0 [aC,aB,aY,ba,bx] h U N [(0,aM)] R=Yw s aC aB aY ba bx h U N aM R:=by kernel_rfl
theorem ap4:c7 366 acF:=c9 Pa
def acG:cP:=λs ah h U K=>bI ah h U λa b c=>bW [(ad 0),ay] b c λd e f=>aN 2 e a λg=>aW s 275 [g,(.func (.func 276) #[] #[])] e f λi j k=>af (aQ j 2 d i) λl=>aN 2 l d λm=>K m l k
theorem ap5:cQ 182 acG:=cT []
def x9:cP:=λs ah h U K=>bI ah h U λa b c=>bW [(ad 0),ay] b c λd e f=>aN 2 e a λg=>b9 274 [g] e f λi j k=>bf 1 a λl=>bT j l λm=>c0 l m (af (x3 1 none i) λn=>d4 (fh 2 [ay,ay] [(0,1,m),(1,1,n)]) j k λo p q=>b9 273 [o] p q λr t aD=>bf 0 a λv=>bT t v λw=>c0 v w (af (cS [(ad 0),ay] [(0,1,w),(1,1,r)]) λx=>b9 98 [x] t aD λy z bz=>af (aQ z 2 d y) λbU=>aN 2 bU d λbQ=>K bQ bU bz) 2 [j,e]) 1 [e]
theorem av1:cQ 181 x9:=cT []
def plain:cP:=λs ah h U K=>bI ah h U λa b c=>bW [(ad 0),ay] b c λd e f=>aN 2 e a λg=>aW s 275 [g,(.func (.func 280) #[] #[])] e f λi j k=>af (aQ j 2 d i) λl=>aN 2 l d λm=>K m l k
theorem aty:cQ 188 plain:=cT []
def Q5:aa (aa Nat):=[[1,2,5,16,17,18]]
def Qp(s:al)(aB a2 bN g7 kE lk:X)(h:ae)(U:Nat)(N:aR)(aM:aR)(R:aR):Prop:=cH lk kE (hv 3 h 3 g7 lk λc=>bW [(ad 0),(ad 0),(ad 0)] h U λd e f=>af (aQ e 3 d c) λg=>ax g 0 d λj=>ax g 1 d λl=>ax g 2 d λn=>af (cS [(ad 0),(ad 0),(ad 0)] [(0,1,j),(1,1,l),(2,1,n)]) λo=>d4 (fh 1 [(ad 0),(ad 0),(ad 0)] [(0,3,o)]) g f λp q r=>dG (dX (dT 3 q r bN p)) λt aD v=>cg lk λw=>N [aB,a2,t,g7,kE,w] aD v) (aM [aB,a2,bN,g7,kE,lk] h U)
def RO:cP:=λs ah h U K=>bI ah h U λa b c=>bW [(ad 0),(ad 0),ay,ay,ay] b c λd e f=>aN 2 e a λg=>aW s 83 [g] e f λi j k=>ls i (af (cS [(ad 0),(ad 0),ay,ay,ay] []) λm=>af (aQ j 5 d m) λn=>aN 5 n d λo=>K (.tuple ⟨[o,i]⟩) n k) (aN 2 j a λp=>aW s 274 [p] j k λq r t=>af (x3 1 none q) λaD=>cV aD λv=>bD (bR Q s Q5 189 0) [a,d,ay,aD,v,(ad 0)] r t [(0,λw x y=>ax x 0 (a7 w 0) λbz=>ax x 0 (a7 w 0) λbQ=>aW s 281 [bz,bQ,(a7 w 2)] x y λa8 bY b7=>af (aQ bY 5 (a7 w 1) a8) λbL=>aN 5 bL (a7 w 1) λcK=>K (.tuple ⟨[cK,(ad 0)]⟩) bL b7)] (λ_ _ _=>False))
theorem acH{h:ae}{U:Nat}:bR Q s Q5 189 0 [aB,a2,bN,g7,kE,lk] h U N [(0,aM)] R=Qp s aB a2 bN g7 kE lk h U N aM R:=by kernel_rfl
theorem aeB:cQ 189 RO:=cT Q5
def FA:aa (aa Nat):=[[0,3,9,10,11],[6,25,26,27]]
def Yx(s:al)(aC a3 c4 di en:X)(h:ae)(U:Nat)(N:aR)(aM:aR)(R:aR):Prop:=cH en di (d0 h 1 c4 en λc=>cV c λd=>lu a3 d λe=>cH e (ad 0) (af (.ok (Value.iface 9 (.string ⟨#[108,101,110,32,111,117,116,32,111,102,32,114,97,110,103,101]⟩))) λg=>False) (cg en λi=>N [aC,e,c4,di,i] h U)) (aM [aC,a3,c4,di,en] h U)
def Yy(s:al)(bu kY mj wK:X)(h:ae)(U:Nat)(N:aR)(aP:aR)(R:aR):Prop:=cH wK mj (d0 h 1 kY wK λc=>dG (dX (dT 3 h U bu c)) λd e f=>cg wK λg=>N [d,kY,mj,g] e f) (aP [bu,kY,mj,wK] h U)
def acI:cP:=λs ah h U K=>cV ah λa=>bD (bR Q s FA 273 0) [ah,(ad 0),ah,a,(ad 0)] h U [(0,λb c d=>aW s 364 [ay,(a7 b 1)] c d λe f g=>cV (a7 b 0) λi=>bD (bR Q s FA 273 1) [e,(a7 b 0),i,(ad 0)] f g [(2,λj k l=>K (a7 j 0) k l)] (λ_ _ _=>False))] (λ_ _ _=>False)
theorem amd{h:ae}{U:Nat}:bR Q s FA 273 0 [aC,a3,c4,di,en] h U N [(0,aM)] R=Yx s aC a3 c4 di en h U N aM R:=by kernel_rfl
theorem ame{B g A:X}{h:ae}{U:Nat}:bR Q s FA 273 1 [bu,B,g,A] h U N [(2,aP)] R=Yy s bu B g A h U N aP R:=by kernel_rfl
theorem ap6:cQ 273 acI:=cT FA
def afS:cP:=λs ah h U K=>bI ah h U λa b c=>bW [(ad 0),ay] b c λd e f=>aN 2 e a λg=>aW s 275 [g,(.func (.func 365) #[] #[])] e f λi j k=>af (aQ j 2 d i) λl=>aN 2 l d λm=>K m l k
theorem av2:cQ 274 afS:=cT []
def Q6:aa (aa Nat):=[[1,2,4,5,11,12,13]]
def acJ(s:al)(aB a2 aY bN en eD ho:X)(h:ae)(U:Nat)(N:aR)(aM:aR)(R:aR):Prop:=cH ho eD (hv 3 h 3 en ho λc=>bW [(ad 0),(ad 0),(ad 0)] h U λd e f=>af (aQ e 3 d c) λg=>aN 3 g d λi=>fc Q s (hJ g f [i] aB) λj k l=>af (cy j 0) λm=>af (cy j 1) λn=>bW [(ad 0),(ad 0),(ad 0)] k l λo p q=>af (aQ p 3 o m) λr=>br n (aN 3 r o λt=>d4 (fh 1 [(ad 0),(ad 0),(ad 0)] [(0,3,t)]) r q λaD v w=>dG (dX (dT 3 v w bN aD)) λx y z=>cg ho λbz=>N [aB,a2,aY,x,en,eD,bz] y z) (cg ho λbU=>N [aB,a2,aY,bN,en,eD,bU] r q)) (aM [aB,a2,aY,bN,en,eD,ho] h U)
def afT:c5:=λs ah t1 h U K=>bI ah h U λa b c=>bW [(ad 0),ay] b c λd e f=>ax e 1 a λi=>cV i λj=>bD (bR Q s Q6 275 0) [t1,a,d,ay,i,j,(ad 0)] e f [(0,λk l m=>ax l 0 (a7 k 1) λo=>af (cS [(ad 0),ay] [(0,1,o),(1,1,(a7 k 3))]) λp=>aW s 98 [p] l m λq r t=>af (aQ r 2 (a7 k 2) q) λaD=>aN 2 aD (a7 k 2) λv=>K v aD t)] (λ_ _ _=>False)
theorem atz{g:X}{h:ae}{U:Nat}:bR Q s Q6 275 0 [aB,a2,aY,bN,en,eD,g] h U N [(0,aM)] R=acJ s aB a2 aY bN en eD g h U N aM R:=by kernel_rfl
theorem av3:c7 275 afT:=c9 Q6
def aaC:cP:=λs ah h U K=>bI ah h U λa b c=>bW [(ad 0),(ad 0),(ad 0)] b c λd e f=>aN 3 e a λg=>af (aQ e 3 d g) λi=>bf 0 a λj=>bT i j λk=>c0 j k (bf 1 a λl=>bT i l λm=>c0 l m (bG .neq 3 k m λn=>aN 3 i d λo=>K (.tuple ⟨[o,n]⟩) i f) 1 [e]) 1 [e]
theorem amf:cQ 276 aaC:=cT []
def acK:cP:=λs ah h U K=>bI ah h U λa b c=>bW [(ad 0),(ad 0),(ad 0)] b c λd e f=>bf 2 a λg=>af (aQ e 1 g (ad 1)) λi=>aN 3 i a λj=>af (aQ i 3 d j) λk=>aN 3 k d λl=>K (.tuple ⟨[l,(.bool true)]⟩) k f
theorem ap7:cQ 280 acK:=cT []
def FU:aa (aa Nat):=[[0,6,7,14,15,16],[6,7,44,45]]
def Pb(s:al)(aC bu ba jd iZ g7:X)(h:ae)(U:Nat)(N:aR)(aM:aR)(R:aR):Prop:=cH g7 iZ (hv 3 h 3 jd g7 λc=>bW [(ad 0),(ad 0),(ad 0)] h U λd e f=>af (aQ e 3 d c) λg=>ax g 2 ba λj=>ax g 0 d λl=>cg l λm=>d0 g 1 j m λo=>cg o λp=>hT 1 j m λq=>af (aQ g 1 q p) λr=>ax r 3 ba λaD=>ax r 1 d λw=>d4 (fh 1 [(ad 0)] [(0,1,w)]) r f λx y z=>dG (dX (dT 1 y z aD x)) λbz bU bQ=>bf 3 ba λa8=>af (aQ bU 1 a8 bz) λbY=>ax bY 4 ba λbL=>ax bY 2 d λcC=>d4 (fh 1 [(ad 0)] [(0,1,cC)]) bY bQ λdn df eJ=>dG (dX (dT 1 df eJ bL dn)) λam an eP=>bf 4 ba λgx=>af (aQ an 1 gx am) λgN=>cg g7 λgE=>N [aC,bu,ba,jd,iZ,gE] gN eP) (aM [aC,bu,ba,jd,iZ,g7] h U)
def Pc(s:al)(bu ba yz DA:X)(h:ae)(U:Nat)(N:aR)(aP:aR)(R:aR):Prop:=cH DA yz (ax h 2 ba λc=>cg DA λd=>d0 h 1 c d λf=>ax h 2 ba λi=>d0 h 1 i DA λk=>lu f k λl=>hT 1 c d λm=>af (aQ h 1 m l) λn=>cg DA λo=>N [bu,ba,yz,o] n U) (aP [bu,ba,yz,DA] h U)
def Q7:gf:=λs ah t1 t2 h U K=>bW [(ad 0),(ad 0),ay,ay,ay] h U λa b c=>aW s 367 [ah,t1] b c λd e f=>bW [(ad 0),(ad 0),ay,ay,ay] e f λg i j=>af (aQ i 5 g d) λk=>cV t2 λl=>bD (bR Q s FU 281 0) [ah,a,g,t2,l,(ad 0)] k j [(0,λm n o=>bD (bR Q s FU 281 1) [(a7 m 1),(a7 m 2),(a7 m 0),(ad 0)] n o [(2,λp q r=>aN 5 q (a7 p 1) λt=>af (aQ q 5 (a7 p 0) t) λaD=>aN 5 aD (a7 p 0) λv=>K v aD r)] (λ_ _ _=>False))] (λ_ _ _=>False)
theorem aaD{h:ae}{U:Nat}:bR Q s FU 281 0 [aC,bu,ba,jd,iZ,g7] h U N [(0,aM)] R=Pb s aC bu ba jd iZ g7 h U N aM R:=by kernel_rfl
theorem aaE{g A:X}{h:ae}{U:Nat}:bR Q s FU 281 1 [bu,ba,g,A] h U N [(2,aP)] R=Pc s bu ba g A h U N aP R:=by kernel_rfl
theorem acL:gl 281 Q7:=gp FU
def grow:c5:=λs ah t1 h U K=>cH t1 (ad 0) (af (.ok (Value.iface 9 (.string ⟨#[99,97,110,110,111,116,32,98,101,32,110,101,103,97,116,105,118,101]⟩))) λb=>False) (af (Gr Q 22 ah) λc=>cV ah λd=>bG .sub 3 c d λe=>bG .sub 3 t1 e λf=>j6 f (ad 0) (af (Gr Q 22 ah) λi=>af (gW 3 ah none (some i) none) λj=>dG (dX (pd Q .append [22,3] h U [j,f])) λk l m=>cV ah λn=>af (gW 3 k none (some n) none) λo=>K o l m) (K ah h U))
theorem av4:c7 364 grow:=c9 []
def acM:cP:=λs ah h U K=>bI ah h U λa b c=>bW [(ad 0),(ad 0),(ad 0)] b c λd e f=>ax e 1 a λi=>ax e 0 a λk=>ax e 2 a λm=>af (cS [(ad 0),(ad 0),(ad 0)] [(0,1,i),(1,1,k),(2,1,m)]) λn=>af (aQ e 3 d n) λo=>aN 3 o d λp=>K (.tuple ⟨[p,(.bool true)]⟩) o f
theorem ap8:cQ 365 acM:=cT []
def Q8:c5:=λs ah t1 h U K=>bW [(ad 0),(ad 0),ay,ay,ay] h U λa b c=>cg ah λd=>d4 (tf [(ad 0)] d d) b c λe f g=>af (cS [(ad 0),(ad 0),ay,ay,ay] [(0,1,ah),(1,1,t1),(2,1,e)]) λi=>af (aQ f 5 a i) λj=>aN 5 j a λk=>K k j g
theorem acN:c7 367 Q8:=c9 []
def acO:cP:=λs ah h U K=>bI ah h U λa b c=>jk 5 b 0 a λe=>jk 2 b 5 a λg=>ax b 10 a λj=>aW s 200 [e,g,j] b c λk l m=>ls k (K k l m) (ax l 7 a λp=>fc Q s (hJ l m [p,(ad 8)] (.func (.func 199) #[] #[])) λq r t=>af (dr .not q) λaD=>br aD (K (ad 3) r t) (ax r 8 a λw=>fc Q s (hJ r t [w,(ad 8)] (.func (.func 199) #[] #[])) λx y z=>af (dr .not x) λbz=>br bz (K (ad 3) y z) (ax y 9 a λbQ=>fc Q s (hJ y z [bQ,(ad 64)] (.func (.func 199) #[] #[])) λa8 bY b7=>af (dr .not a8) λbL=>br bL (K (ad 3) bY b7) (ax bY 11 a λcC=>cV cC λdn=>j6 dn (ad 8192) (K (ad 5) bY b7) (K (ad 0) bY b7)))))
theorem ap9:cQ 121 acO:=cT []
def aaF:c5:=λs ah t1 h U K=>bw .geq 3 ah (ad 1) (bG .leq 3 ah t1 λb=>K b h U) (K (.bool false) h U)
theorem amg:c7 199 aaF:=c9 []
def acP:gf:=λs ah t1 t2 h U K=>bI ah h U λa b c=>bI t1 b c λd e f=>aN 5 e a λg=>aN 2 e d λi=>aW s 114 [g,i] e f λj k l=>af (cy j 0) λm=>af (cy j 1) λn=>bW [(ad 0),(ad 0),ay,ay,ay] k l λo p q=>af (aQ p 5 o m) λr=>ls n (K n r q) (cH t2 (ad 0) (K (ad 3) r q) (j6 t2 (ad 8192) (K (ad 3) r q) (K (ad 0) r q)))
theorem aqa:gl 200 acP:=gp []
def aaG:gf:=λs ah t1 t2 h U K=>bI ah h U λa b c=>aN 12 b a λd=>aW s 121 [d] b c λe f g=>ls e (K e f g) (cV t1 λj=>j6 j (ad 1048576) (K (ad 5) f g) (aW s 253 [t1,(.func (.func 254) #[] #[])] f g λl m n=>br l (K (ad 8) m n) (aW s 156 [t2,(ad 1048576)] m n λo p q=>af (dr .not o) λr=>br r (K (ad 3) p q) (K (ad 0) p q))))
theorem amh:gl 161 aaG:=gp []
def Yz:cP:=λs ah h U K=>bI ah h U λa b c=>aN 4 b a λd=>aW s 159 [d] b c λe f g=>af (dr .not e) λi=>K i f g
theorem ajA:cQ 254 Yz:=cT []
def BR(s:al)(K:bP)(ct SQ:X)(au:ae)(a0:Nat):Prop:=br SQ (K (.bool false) au a0) (ax au 0 ct λb=>bw .gtr 209 b (ad 0) (ax au 0 ct λe=>bG .leq 209 e (ad 5) λf=>K f au a0) (K (.bool false) au a0))
def aaH:cP:=λs ah h U K=>bI ah h U λa b c=>ax b 1 a λe=>aW s 156 [e,(ad 63)] b c λf g i=>af (dr .not f) λj=>br j (BR s K a (.bool true) g i) (ax g 2 a λl=>aW s 156 [l,(ad 63)] g i λm n o=>af (dr .not m) λp=>br p (BR s K a (.bool true) n o) (ax n 3 a λr=>aW s 156 [r,(ad 63)] n o λt aD v=>af (dr .not t) λw=>(BR s K a w aD v)))
theorem ami:cQ 159 aaH:=cT []
def atA:c5:=λs ah t1 h U K=>aW s 350 [ah,t1] h U λa b c=>bG .geq 3 a (ad 0) λd=>K d b c
theorem aqb:c7 253 atA:=c9 []
def Pd:aa (aa Nat):=[[0,1,4,7,8]]
def YA(s:al)(aC aB aY ba bx:X)(h:ae)(U:Nat)(N:aR)(aM:aR)(R:aR):Prop:=cH bx ba (hv 4 h 4 aC bx λc=>fc Q s (hJ h U [c] aB) λd e f=>br d (R [aC,aB,bx,ba,bx] e f) (cg bx λg=>N [aC,aB,aY,ba,g] e f)) (aM [aC,aB,aY,ba,bx] h U)
def acQ:c5:=λs ah t1 h U K=>cV ah λa=>bD (bR Q s Pd 350 0) [ah,t1,(ad 0),a,(ad 0)] h U [(0,λb c d=>K (ad (-1)) c d)] (λe f g=>K (a7 e 2) f g)
theorem amj{h:ae}{U:Nat}:bR Q s Pd 350 0 [aC,aB,aY,ba,bx] h U N [(0,aM)] R=YA s aC aB aY ba bx h U N aM R:=by kernel_rfl
theorem aqc:c7 350 acQ:=c9 Pd
def NK(s:al)(K:bP)(ct cB sv:X)(au:ae)(a0:Nat):Prop:=br sv (K (ad 0) au a0) (ax au 7 cB λb=>ax au 8 cB λd=>lu b d λe=>lu e (ad 4) λf=>bG .mul 3 (ad 4) f λg=>lu ct (ad 2) λi=>bG .mul 3 g i λj=>K j au a0)
def aaI:c5:=λs ah t1 h U K=>bI ah h U λa b c=>aW s 156 [t1,(ad 8192)] b c λd e f=>af (dr .not d) λg=>br g (NK s K t1 a (.bool true) e f) (aN 12 e a λi=>aW s 121 [i] e f λj k l=>bG .neq 30 j (ad 0) λm=>(NK s K t1 a m k l))
theorem amk:c7 75 aaI:=c9 []
def YB:c5:=λs ah t1 h U K=>bw .geq 3 ah (ad 0) (bG .leq 3 ah t1 λb=>K b h U) (K (.bool false) h U)
theorem ajB:c7 156 YB:=c9 []
def aeC:cP:=λs ah h U K=>fc Q s (l2 Q h U [] "Len" ah) λa b c=>bG .sub 3 a (ad 1) λd=>fc Q s (l2 Q b c [(ad 0),d] "Swap" ah) λe f g=>aW s 257 [ah,(ad 0),d] f g λi j k=>fc Q s (l2 Q j k [] "Pop" ah) λl m n=>K l m n
theorem atB:cQ 170 aeC:=cT []
def acR:c5:=λs ah t1 h U K=>fc Q s (l2 Q h U [t1] "Push" ah) λa b c=>fc Q s (l2 Q b c [] "Len" ah) λd e f=>bG .sub 3 d (ad 1) λg=>aW s 258 [ah,g] e f λi j k=>K (.tuple ⟨[]⟩) j k
theorem aqd:c7 171 acR:=c9 []
def Oi(s:al)(K:bP)(cu co de:X)(au:ae)(a0:Nat):Prop:=ax au 1 co λb=>cV b λc=>ax au 0 co λe=>aW s 317 [cu,c,e] au a0 λf g i=>bw .eql 165 f (ad 2) (aN 2 g co λk=>aW s 318 [k] g i λl m n=>af (cS [(ad 0),(ad 0),ay,(ad 0),ay,ay] [(0,1,(ad 2)),(3,3,l)]) λo=>af (aQ m 6 de o) λp=>aN 6 p de λq=>K q p n) (ax g 1 co λt=>b9 217 [t] g i λaD v w=>bf 0 co λx=>bT v x λy=>c0 x y (af (cS [(ad 0),ay] [(0,1,y),(1,1,aD)]) λz=>af (cS [(ad 0),(ad 0),ay,(ad 0),ay,ay] [(0,1,(ad 1)),(1,2,z)]) λbz=>af (aQ v 6 de bz) λbU=>aN 6 bU de λbQ=>K bQ bU w) 1 [g])
def acS:c5:=λs ah t1 h U K=>bI t1 h U λa b c=>bW [(ad 0),(ad 0),ay,(ad 0),ay,ay] b c λd e f=>aN 2 e a λg=>aW s 312 [g] e f λi j k=>af (dr .not i) λl=>br l (af (cS [(ad 0),ay] []) λm=>af (aQ j 2 a m) λn=>(Oi s K ah a d n k)) (Oi s K ah a d j k)
theorem aqe:c7 226 acS:=c9 []
def Je(s:al)(K:bP)(ep ey:X)(au:ae)(a0:Nat):Prop:=fc Q s (hJ au a0 [] ey) λa b c=>af (cy a 0) λd=>af (cy a 1) λe=>ls e (K (.tuple ⟨[ay,(ad 0),e]⟩) b c) (K (.tuple ⟨[d,ep,e]⟩) b c)
def acT:cP:=λs ah h U K=>bI ah h U λa b c=>jk 6 b 12 a λe=>b9 321 [e] b c λf g i=>bf 6 a λj=>aN 6 g j λk=>jg 6 j k (b9 320 [k,f] g i λl m n=>bf 1 a λo=>aN 5 m o λp=>jg 5 o p (b9 322 [p] m n λq r t=>bf 20 a λaD=>bT r aD λv=>c0 aD v (b9 319 [v,l,q] r t λw x y=>aN 21 x a λz=>af (.ok (.func (.func 323) ⟨[z]⟩ ⟨[]⟩)) λbz=>bw .eql 164 w (ad 2) (aN 21 x a λbQ=>af (.ok (.func (.func 324) ⟨[bQ]⟩ ⟨[]⟩)) λa8=>(Je s K w a8 x y)) (Je s K w bz x y)) 3 [m,g,b]) 2 [g,b]) 1 [b]
theorem aqf:cQ 227 acT:=cT []
def Fb:aa (aa Nat):=[[6,17,18,19],[6]]
def Xh(s:al)(bu kE lk nj:X)(h:ae)(U:Nat)(N:aR)(aM:aR)(R:aR):Prop:=cH nj lk (d0 h 1 kE nj λc=>aW s 328 [bu,c,nj] h U λd e f=>cg nj λg=>N [bu,kE,lk,g] e f) (aM [bu,kE,lk,nj] h U)
def Xi(s:al)(bu:X)(h:ae)(U:Nat)(N:aR)(aP:aR)(R:aR):Prop:=af (bs bu) λa=>ax h 0 a λc=>aW s 329 [c] h U λd e f=>j6 d (ad 0) (aW s 330 [bu] e f λi j k=>N [bu] j k) (aP [bu] e f)
def aqg:c5:=λs ah t1 h U K=>aW s 259 [ah] h U λa b c=>af (dr .not a) λd=>br d (K (.tuple ⟨[ay,(ad 8)]⟩) b c) (aW s 325 [t1,(.func (.func 326) #[] #[])] b c λe f g=>br e (K (.tuple ⟨[ay,(ad 6)]⟩) f g) (af (cS [ay,(ad 0),ay] [(1,1,ah)]) λi=>bI i f g λj k l=>cV t1 λm=>bD (bR Q s Fb 229 0) [j,t1,m,(ad 0)] k l [(0,λn o p=>bD (bR Q s Fb 229 1) [(a7 n 0)] o p [(2,λq r t=>af (bs (a7 q 0)) λaD=>ax r 2 aD λw=>K (.tuple ⟨[w,(ad 0)]⟩) r t)] (λ_ _ _=>False))] (λ_ _ _=>False)))
theorem ajC{g:X}{h:ae}{U:Nat}:bR Q s Fb 229 0 [bu,kE,lk,g] h U N [(0,aM)] R=Xh s bu kE lk g h U N aM R:=by kernel_rfl
theorem ajD{h:ae}{U:Nat}:bR Q s Fb 229 1 [bu] h U N [(2,aP)] R=Xi s bu h U N aP R:=by kernel_rfl
theorem aml:c7 229 aqg:=c9 Fb
def Pe:aa (aa Nat):=[[0,1,2,7]]
def Jf(s:al)(N:aR)(aM:aR)(R:aR)(cu ct cB fH rN ll y33:X)(au:ae)(a0:Nat):Prop:=br y33 (fc Q s (l2 Q au a0 [ll,fH] "Less" cu) λa b c=>af (dr .not a) λd=>br d (aM [cu,ct,cB,fH] b c) (fc Q s (l2 Q b c [fH,ll] "Swap" cu) λe f g=>N [cu,ct,cB,ll] f g)) (fc Q s (l2 Q au a0 [rN,fH] "Less" cu) λi j k=>af (dr .not i) λl=>br l (aM [cu,ct,cB,fH] j k) (fc Q s (l2 Q j k [fH,rN] "Swap" cu) λm n o=>N [cu,ct,cB,rN] n o))
def Jg(s:al)(N:aR)(aM:aR)(R:aR)(cu ct cB fH ij sw:X)(au:ae)(a0:Nat):Prop:=br sw (aM [cu,ct,cB,fH] au a0) (cg ij λa=>cH a cB (fc Q s (l2 Q au a0 [a,ij] "Less" cu) λc d e=>(Jf s N aM R cu ct cB fH ij a c d e)) (Jf s N aM R cu ct cB fH ij a (.bool false) au a0))
def YC(s:al)(aC aB a2 ba:X)(h:ae)(U:Nat)(N:aR)(aM:aR)(R:aR):Prop:=bG .mul 3 (ad 2) ba λa=>cg a λb=>bw .geq 3 b a2 (Jg s N aM R aC aB a2 ba b (.bool true) h U) (bG .lss 3 b (ad 0) λd=>(Jg s N aM R aC aB a2 ba b d h U))
def atC:gf:=λs ah t1 t2 h U K=>bD (bR Q s Pe 257 0) [ah,t1,t2,t1] h U [(0,λa b c=>bG .gtr 3 (a7 a 3) (a7 a 1) λd=>K d b c)] (λ_ _ _=>False)
theorem amm{h:ae}{U:Nat}:bR Q s Pe 257 0 [aC,aB,a2,ba] h U N [(0,aM)] R=YC s aC aB a2 ba h U N aM R:=by kernel_rfl
theorem aqh:gl 257 atC:=gp Pe
def Q9:aa (aa Nat):=[[0,1]]
def acU(s:al)(aC aB:X)(h:ae)(U:Nat)(N:aR)(aM:aR)(R:aR):Prop:=bG .sub 3 aB (ad 1) λa=>bG .quo 3 a (ad 2) λb=>bw .eql 3 b aB (aM [aC,aB] h U) (fc Q s (l2 Q h U [aB,b] "Less" aC) λd e f=>af (dr .not d) λg=>br g (aM [aC,aB] e f) (fc Q s (l2 Q e f [b,aB] "Swap" aC) λi j k=>N [aC,b] j k))
def axY:c5:=λs ah t1 h U K=>bD (bR Q s Q9 258 0) [ah,t1] h U [(0,λa b c=>K (.tuple ⟨[]⟩) b c)] (λ_ _ _=>False)
theorem atD{h:ae}{U:Nat}:bR Q s Q9 258 0 [aC,aB] h U N [(0,aM)] R=acU s aC aB h U N aM R:=by kernel_rfl
theorem av5:c7 258 axY:=c9 Q9
def aaJ:gf:=λs ah t1 t2 h U K=>bw .eql 165 ah (ad 1) (K ah h U) (bw .eql 165 ah (ad 2) (K ah h U) (bG .quo 3 t2 (ad 8) λc=>j6 t1 c (K (ad 2) h U) (K (ad 1) h U)))
theorem amn:gl 317 aaJ:=gp []
def Ra:aa (aa Nat):=[[1,2,3,14,15,16]]
def acV(s:al)(aB a2 a3 jd iZ g7:X)(h:ae)(U:Nat)(N:aR)(aM:aR)(R:aR):Prop:=cH g7 iZ (hv 2 h 2 jd g7 λc=>bW [(ad 0),(ad 0)] h U λd e f=>af (aQ e 2 d c) λg=>ax g 2 a3 λj=>ax g 0 d λl=>ax g 1 d λn=>hT 1 j l λo=>af (aQ g 1 o n) λp=>cg g7 λq=>N [aB,a2,a3,jd,iZ,q] p f) (aM [aB,a2,a3,jd,iZ,g7] h U)
def afU:cP:=λs ah h U K=>bI ah h U λa b c=>bW [(ad 0),ay,ay] b c λd e f=>aN 2 e a λg=>aW s 312 [g] e f λi j k=>af (dr .not i) λl=>br l (aW s 388 [(ad 0)] j k λm n o=>af (aQ n 3 d m) λp=>aN 3 p d λq=>K q p o) (ax j 0 a λt=>aW s 388 [t] j k λaD v w=>bW [(ad 0),ay,ay] v w λx y z=>af (aQ y 3 x aD) λbz=>ax bz 1 a λbQ=>cV bQ λa8=>bD (bR Q s Ra 318 0) [a,d,x,bQ,a8,(ad 0)] bz z [(0,λbY b7 bL=>aN 2 b7 (a7 bY 0) λcK=>b9 389 [cK] b7 bL λcC dn df=>bf 0 (a7 bY 0) λeJ=>bT dn eJ λam=>c0 eJ am (b9 108 [am,cC] dn df λan eP gx=>bf 1 (a7 bY 2) λgN=>af (aQ eP 1 gN an) λgE=>aN 3 gE (a7 bY 2) λh7=>af (aQ gE 3 (a7 bY 1) h7) λiN=>aN 3 iN (a7 bY 1) λgy=>K gy iN gx) 1 [b7])] (λ_ _ _=>False))
theorem atE{h:ae}{U:Nat}:bR Q s Ra 318 0 [aB,a2,a3,jd,iZ,g7] h U N [(0,aM)] R=acV s aB a2 a3 jd iZ g7 h U N aM R:=by kernel_rfl
theorem av6:cQ 318 afU:=cT Ra
def VR:gf:=λs ah t1 t2 h U K=>bw .eql 164 ah (ad 1) (K ah h U) (bw .eql 164 ah (ad 2) (K ah h U) (bG .quo 3 t2 (ad 4) λc=>j6 t1 c (K (ad 2) h U) (K (ad 1) h U)))
theorem ahg:gl 319 VR:=gp []
def acW:c5:=λs ah t1 h U K=>bI ah h U λa b c=>bI t1 b c λd e f=>aN 2 e d λg=>b9 389 [g] e f λi j k=>aN 6 j a λl=>jg 6 a l (b9 390 [l,i] j k λm n o=>K m n o) 1 [e]
theorem aqi:c7 320 acW:=c9 []
def Pf(s:al)(K:bP)(ct cB ll:X)(au:ae)(a0:Nat):Prop:=br ll (bf 1 ct λa=>ax au 1 a λc=>b9 217 [c] au a0 λd e f=>bf 1 ct λg=>bf 0 g λi=>bT e i λj=>c0 i j (af (cS [(ad 0),ay] [(0,1,j),(1,1,d)]) λk=>af (aQ e 2 cB k) λl=>aN 2 l cB λm=>K m l f) 1 [au]) (af (cS [(ad 0),ay] []) λn=>af (aQ au 2 cB n) λo=>aN 2 o cB λp=>K p o a0)
def aeD:cP:=λs ah h U K=>bI ah h U λa b c=>bW [(ad 0),ay] b c λd e f=>ax e 0 a λi=>bw .eql 165 i (ad 2) (jk 3 e 3 a λl=>aW s 391 [l] e f λm n o=>af (aQ n 2 d m) λp=>aN 2 p d λq=>K q p o) (ax e 0 a λt=>bw .eql 165 t (ad 1) (jk 2 e 1 a λw=>aW s 312 [w] e f λx y z=>(Pf s K a d x y z)) (Pf s K a d (.bool false) e f))
theorem atF:cQ 321 aeD:=cT []
def acX:cP:=λs ah h U K=>bI ah h U λa b c=>jk 6 b 12 a λe=>b9 321 [e] b c λf g i=>bf 0 a λj=>bT g j λk=>c0 j k (bf 6 a λl=>aN 6 g l λm=>jg 6 l m (bf 18 a λn=>bT g n λo=>c0 n o (bf 19 a λp=>bT g p λq=>c0 p q (b9 392 [k,m,f,o,q] g i λr t aD=>af (cy r 0) λv=>af (cy r 1) λw=>K (.tuple ⟨[v,w]⟩) t aD) 1 [b]) 1 [b]) 1 [b]) 1 [b]
theorem aqj:cQ 323 acX:=cT []
def acY:cP:=λs ah h U K=>bI ah h U λa b c=>jk 6 b 12 a λe=>b9 394 [e] b c λf g i=>bf 0 a λj=>bT g j λk=>c0 j k (bf 1 a λl=>aN 5 g l λm=>jg 5 l m (bf 18 a λn=>bT g n λo=>c0 n o (bf 19 a λp=>bT g p λq=>c0 p q (b9 393 [k,m,f,o,q] g i λr t aD=>af (cy r 0) λv=>af (cy r 1) λw=>K (.tuple ⟨[v,w]⟩) t aD) 1 [b]) 1 [b]) 1 [b]) 1 [b]
theorem aqk:cQ 324 acY:=cT []
def amo:cP:=λs ah h U K=>aW s 327 [ah] h U λa b c=>af (dr .not a) λd=>K d b c
theorem ajE:cQ 326 amo:=cT []
def Oj:aa (aa Nat):=[[0,2,5,6]]
def Xj(s:al)(aC a2 bN bu:X)(h:ae)(U:Nat)(N:aR)(aM:aR)(R:aR):Prop:=cH bu bN (j6 bu (ad 0) (bG .sub 3 bu (ad 1) λc=>hT 3 aC c λd=>ax h 0 d λf=>hT 3 aC bu λg=>ax h 0 g λj=>bw .geq 3 f j (R [aC,(.bool false),bN,bu] h U) (cg bu λl=>N [aC,a2,bN,l] h U)) (cg bu λm=>N [aC,a2,bN,m] h U)) (aM [aC,a2,bN,bu] h U)
def aaK:cP:=λs ah h U K=>cV ah λa=>bD (bR Q s Oj 327 0) [ah,(.bool false),a,(ad 0)] h U [(0,λb c d=>K (.bool true) c d)] (λe f g=>K (a7 e 1) f g)
theorem ajF{h:ae}{U:Nat}:bR Q s Oj 327 0 [aC,a2,bN,bu] h U N [(0,aM)] R=Xj s aC a2 bN bu h U N aM R:=by kernel_rfl
theorem amp:cQ 327 aaK:=cT Oj
def aeE:gf:=λs ah t1 t2 h U K=>cV t1 λa=>j6 a (ad 0) (af (bs ah) λc=>bf 0 c λd=>af (.ok (Value.iface 415 d)) λe=>af (cS [ay,(ad 0)] [(0,1,t1),(1,1,t2)]) λf=>af (.ok (Value.iface 417 f)) λg=>aW s 171 [e,g] h U λi j k=>K (.tuple ⟨[]⟩) j k) (K (.tuple ⟨[]⟩) h U)
theorem atG:gl 328 aeE:=gp []
def aeF:cP:=λs ah h U K=>cV ah λa=>K a h U
theorem atH:cQ 329 aeF:=cT []
def Fc(s:al)(K:bP)(cu co de y47:X)(au:ae)(a0:Nat):Prop:=br y47 (af (bs cu) λa=>ax au 1 a λc=>af (bs cu) λd=>ax au 2 d λf=>bG .sub 3 de (ad 1) λg=>hT 3 f g λi=>jk 2 au 1 i λk=>jk 2 au 1 co λm=>b9 261 [c,k,m] au a0 λn o p=>af (bs cu) λq=>bf 2 q λr=>bT o r λt=>c0 r t (bG .sub 3 de (ad 1) λaD=>hT 3 t aD λv=>bf 1 v λw=>af (aQ o 2 w n) λx=>K (.tuple ⟨[]⟩) x p) 1 [au]) (af (bs cu) λy=>ax au 2 y λbz=>aN 3 au co λbU=>d4 (fh 1 [(ad 0),(ad 0),(.int .u64 0)] [(0,3,bU)]) au a0 λbQ a8 bY=>dG (dX (dT 3 a8 bY bz bQ)) λb7 bL cK=>bY<=cK/\af (bs cu) λcC=>bf 2 cC λdn=>af (aQ bL 1 dn b7) λdf=>K (.tuple ⟨[]⟩) df cK)
def acZ:cP:=λs ah h U K=>af (bs ah) λa=>ax h 0 a λc=>hv 2 h 2 c (ad 0) λe=>bW [ay,(ad 0)] h U λf g i=>af (aQ g 2 f e) λj=>af (bs ah) λk=>bf 0 k λl=>af (.ok (Value.iface 415 l)) λm=>aW s 170 [m] j i λn o p=>ax o 0 f λr=>hv 3 o 3 r (ad 0) λaD=>bW [(ad 0),(ad 0),(.int .u64 0)] o p λv w x=>af (aQ w 3 v aD) λy=>ax y 0 f λbz=>af (gW 3 bz (some (ad 1)) none none) λbU=>ax y 1 f λa8=>b9 328 [ah,bU,a8] y x λbY b7 bL=>af (bs ah) λcK=>ax b7 2 cK λdn=>cV dn λdf=>j6 df (ad 0) (af (bs ah) λam=>ax b7 2 am λeP=>bG .sub 3 df (ad 1) λgx=>hT 3 eP gx λgN=>ax b7 0 gN λh7=>ax b7 0 v λgy=>bG .eql 3 h7 gy λlS=>(Fc s K ah v df lS b7 bL)) (Fc s K ah v df (.bool false) b7 bL)
theorem aql:cQ 330 acZ:=cT []
def FB:aa (aa Nat):=[[0,2,4,6,7,31,32],[0,6,7,9,55,56,57]]
def YD(s:al)(aC a2 aY bu ba iz ga:X)(h:ae)(U:Nat)(N:aR)(aV:aR)(R:aR):Prop:=cH ga iz (j6 ga (ad 0) (bG .sub 3 ga (ad 1) λc=>hT 3 a2 c λd=>ax h 0 d λf=>hT 3 a2 ga λg=>ax h 0 g λj=>bw .geq 3 f j (af (cS [(ad 0),ay] []) λl=>af (aQ h 2 bu l) λm=>R [aC,a2,aY,bu,(ad 6),iz,ga] m U) (cg ga λn=>N [aC,a2,aY,bu,ba,iz,n] h U)) (cg ga λo=>N [aC,a2,aY,bu,ba,iz,o] h U)) (aV [aC,a2,aY,bu,ba,iz,ga] h U)
def YE(s:al)(aC bu ba c4 G4 G5 DB:X)(h:ae)(U:Nat)(N:aR)(ch:aR)(R:aR):Prop:=cH DB G5 (hv 3 h 3 G4 DB λc=>bW [(ad 0),(ad 0),(.int .u64 0)] h U λd e f=>af (aQ e 3 d c) λg=>jk 2 g 1 d λj=>aW s 262 [aC,j] g f λk l m=>af (cy k 0) λn=>af (cy k 1) λo=>af (dr .not o) λp=>br p (af (cS [(ad 0),ay] []) λq=>af (aQ l 2 bu q) λr=>R [aC,bu,(ad 12),c4,G4,G5,DB] r m) (aW s 399 [aC] l m λt aD v=>bw .neq 2 n t (ax aD 1 c4 λy=>ax aD 0 d λbz=>af (cS [(ad 0),(ad 0)] [(0,1,bz),(1,1,n)]) λbU=>d4 (fh 1 [(ad 0),(ad 0)] [(0,2,bU)]) aD v λbQ a8 bY=>dG (dX (dT 2 a8 bY y bQ)) λb7 bL cK=>bf 1 c4 λcC=>af (aQ bL 1 cC b7) λdn=>cg DB λdf=>N [aC,bu,ba,c4,G4,G5,df] dn cK) (cg DB λeJ=>N [aC,bu,ba,c4,G4,G5,eJ] aD v))) (ch [aC,bu,ba,c4,G4,G5,DB] h U)
def YF(s:al)(K:bP)(cu cB de ey:X)(au:ae)(a0:Nat):Prop:=cV cB λa=>bD (bR Q s FB 335 0) [cu,cB,de,ey,(ad 0),a,(ad 0)] au a0 [(1,λb c d=>bT c (a7 b 2) λe=>af (cS [(ad 0),ay] [(0,1,e)]) λf=>bW [(ad 0),ay] c d λg i j=>af (aQ i 2 g f) λk=>cV (a7 b 1) λl=>bD (bR Q s FB 335 1) [(a7 b 0),(a7 b 3),(a7 b 4),g,(a7 b 1),l,(ad 0)] k j [(3,λm n o=>aN 2 n (a7 m 3) λp=>af (aQ n 2 (a7 m 1) p) λq=>aN 2 q (a7 m 1) λr=>K (.tuple ⟨[r,(ad 0)]⟩) q o)] (λt aD v=>aN 2 aD (a7 t 1) λw=>K (.tuple ⟨[w,(a7 t 2)]⟩) aD v))] (λx y z=>aN 2 y (a7 x 3) λbz=>K (.tuple ⟨[bz,(a7 x 4)]⟩) y z)
def Ol(s:al)(K:bP)(cu cB de ey SR:X)(au:ae)(a0:Nat):Prop:=br SR (af (cS [(ad 0),ay] []) λa=>af (aQ au 2 ey a) λb=>aN 2 b ey λc=>K (.tuple ⟨[c,(ad 3)]⟩) b a0) (af (.ok (.func (.func 398) ⟨[]⟩ ⟨[de]⟩)) λd=>aW s 397 [cB,d] au a0 λe f g=>br e (af (cS [(ad 0),ay] []) λi=>af (aQ f 2 ey i) λj=>aN 2 j ey λk=>K (.tuple ⟨[k,(ad 3)]⟩) j g) (YF s K cu cB de ey f g))
def ac0:gf:=λs ah t1 t2 h U K=>bI t1 h U λa b c=>bW [(ad 0),ay] b c λd e f=>aW s 259 [ah] e f λg i j=>af (dr .not g) λk=>br k (af (cS [(ad 0),ay] []) λl=>af (aQ i 2 d l) λm=>aN 2 m d λn=>K (.tuple ⟨[n,(ad 8)]⟩) m j) (bT i a λo=>cH o (ad 0) (Ol s K ah t2 a d (.bool true) i j) (bT i a λq=>bG .gtr 3 q (ad 4096) λr=>(Ol s K ah t2 a d r i j)))
theorem amq{g:X}{h:ae}{U:Nat}:bR Q s FB 335 0 [aC,a2,aY,bu,ba,g,ga] h U N [(1,aV)] R=YD s aC a2 aY bu ba g ga h U N aV R:=by kernel_rfl
theorem amr{A B g:X}{h:ae}{U:Nat}{C:aR}:bR Q s FB 335 1 [aC,bu,ba,c4,A,B,g] h U N [(3,C)] R=YE s aC bu ba c4 A B g h U N C R:=by kernel_rfl
theorem aqm:gl 335 ac0:=gp FB
def aaL:cP:=λs ah h U K=>bW [(ad 0),(.int .u64 0)] h U λa b c=>br ah (aW s 260 [(ad 1)] b c λd e f=>af (aQ e 2 a d) λg=>aN 2 g a λi=>K i g f) (af (cS [(ad 0),(.int .u64 0)] []) λj=>af (aQ b 2 a j) λk=>aN 2 k a λl=>K l k c)
theorem ams:cQ 354 aaL:=cT []
def aeG:c5:=λs ah t1 h U K=>bI ah h U λa b c=>bI t1 b c λd e f=>bW [(ad 0),(.int .u64 0)] e f λg i j=>ax i 1 a λl=>ax i 1 d λn=>bG .add 188 l n λo=>ax i 1 d λq=>bG .lss 188 o q λr=>b9 419 [r] i j λt aD v=>bf 0 a λw=>bT aD w λx=>c0 w x (af (qe (.int .u64) x) λy=>bf 0 d λz=>bT aD z λbz=>c0 z bz (af (qe (.int .u64) bz) λbU=>bG .add 188 y bU λbQ=>bG .add 188 bQ t λa8=>af (qe (.int .i64) a8) λbY=>af (cS [(ad 0),(.int .u64 0)] [(0,1,bY),(1,1,o)]) λb7=>af (aQ aD 2 g b7) λbL=>aN 2 bL g λcK=>K cK bL v) 1 [i]) 1 [i]
theorem atJ:c7 355 aeG:=c9 []
def Pg(s:al)(K:bP)(cu cB:X)(au:ae)(a0:Nat):Prop:=b9 117 [cu] au a0 λa b c=>d4 (tf [(ad 0)] cu cu) b c λd e f=>af (cS [(ad 0),ay,ay] [(0,1,cu),(1,1,a),(2,1,d)]) λg=>af (aQ e 3 cB g) λi=>aN 3 i cB λj=>K j i f
def Ph(s:al)(K:bP)(cu cB ij:X)(au:ae)(a0:Nat):Prop:=br ij (Pg s K (ad 0) cB au a0) (Pg s K cu cB au a0)
def aeH:cP:=λs ah h U K=>bW [(ad 0),ay,ay] h U λa b c=>cH ah (ad 0) (Ph s K ah a (.bool true) b c) (bG .gtr 3 ah (ad 4096) λe=>(Ph s K ah a e b c))
theorem atK:cQ 388 aeH:=cT []
def Pj:aa (aa Nat):=[[0,3,4,6,12,32,33,34]]
def YG(s:al)(aC a3 aY bu eD ga G6 DC:X)(h:ae)(U:Nat)(N:aR)(aV:aR)(R:aR):Prop:=cH DC G6 (hv 2 h 2 ga DC λc=>bW [(ad 0),(ad 0)] h U λd e f=>af (aQ e 2 d c) λg=>aN 6 g bu λi=>ax g 0 d λk=>b9 454 [i,k] g f λl m n=>bf 1 d λo=>bT m o λp=>c0 o p (b9 453 [aC,l,p,a3,aY] m n λq r t=>d4 (fh 1 [ay] [(0,1,q)]) r t λaD v w=>dG (dX (dT 1 v w eD aD)) λx y z=>w<=z/\cg DC λbz=>N [aC,a3,aY,bu,x,ga,G6,bz] y z) 1 [g]) (aV [aC,a3,aY,bu,eD,ga,G6,DC] h U)
def ac1:w5:=λs ah t1 t2 t3 fS h U K=>bI t1 h U λa b c=>bI t2 b c λd e f=>aN 6 e a λg=>aN 2 e d λi=>aW s 452 [g,i] e f λj k l=>af (cy j 0) λm=>af (cy j 1) λn=>af (aQ k 6 a m) λo=>af (aQ o 2 d n) λp=>aW s 259 [ah] p l λq r t=>af (dr .not q) λaD=>br aD (K (.tuple ⟨[ay,(ad 8)]⟩) r t) (ax r 0 d λw=>ax r 1 a λy=>bw .neq 3 w y (K (.tuple ⟨[ay,(ad 4)]⟩) r t) (ax r 1 d λbU=>cV bU λbQ=>bD (bR Q s Pj 392 0) [ah,t3,fS,a,ay,bU,bQ,(ad 0)] r t [(1,λa8 bY b7=>aW s 229 [(a7 a8 0),(a7 a8 4)] bY b7 λbL cK cC=>af (cy bL 0) λdn=>af (cy bL 1) λdf=>K (.tuple ⟨[dn,df]⟩) cK cC)] (λ_ _ _=>False)))
theorem amt{A g:X}{h:ae}{U:Nat}:bR Q s Pj 392 0 [aC,a3,aY,bu,eD,ga,A,g] h U N [(1,aV)] R=YG s aC a3 aY bu eD ga A g h U N aV R:=by kernel_rfl
theorem aqn:yS 392 ac1:=AL Pj
def aaM:cP:=λs ah h U K=>bI ah h U λa b c=>bW [(ad 0),ay,ay] b c λd e f=>aN 6 e a λg=>aW s 321 [g] e f λi j k=>aW s 318 [i] j k λl m n=>af (aQ m 3 d l) λo=>aN 3 o d λp=>K p o n
theorem amu:cQ 394 aaM:=cT []
def aaN:c5:=λs ah t1 h U K=>bI ah h U λa b c=>ax b 0 a λe=>cH e (ad 0) (K (.bool true) b c) (ax b 0 a λi=>bT b t1 λj=>bG .geq 3 i j λk=>K k b c)
theorem amv:c7 398 aaN:=c9 []
def ac4:cP:=λs ah h U K=>bw .eql 234 ah (ad 1) (K (ad 4611686018427387904) h U) (bw .eql 234 ah (ad 3) (K (ad 4611686018427387904) h U) (bw .eql 234 ah (ad 4) (K (ad 4611686018427387904) h U) (K (ad 0) h U)))
theorem aqo:cQ 399 ac4:=cT []
def aqp:cP:=λs ah h U K=>br ah (K (.int .u64 1) h U) (K (.int .u64 0) h U)
theorem amw:cQ 419 aqp:=cT []
def ac5:cP:=λs ah h U K=>bI ah h U λa b c=>bW [(ad 0),ay,ay] b c λd e f=>aN 3 e a λg=>aW s 478 [g] e f λi j k=>br i (aN 3 j a λl=>af (aQ j 3 d l) λm=>aN 3 m d λn=>K n m k) (aW s 388 [(ad 0)] j k λo p q=>af (aQ p 3 d o) λr=>aN 3 r d λt=>K t r q)
theorem aqq:cQ 450 ac5:=cT []
def aeI:cP:=λs ah h U K=>bI ah h U λa b c=>af (.ok (.func (.func 479) ⟨[]⟩ ⟨[a]⟩)) λd=>K d b c
theorem atL:cQ 451 aeI:=cT []
def Om(s:al)(K:bP)(cB co de ep:X)(au:ae)(a0:Nat):Prop:=aN 6 au cB λa=>af (aQ au 6 de a) λb=>aN 2 b co λc=>jg 2 co c (af (aQ b 2 ep c) λd=>aN 6 d de λe=>aN 2 d ep λf=>K (.tuple ⟨[e,f]⟩) d a0) 1 [au]
def On(s:al)(K:bP)(cB co de ep:X)(au:ae)(a0:Nat):Prop:=aN 2 au co λa=>aW s 312 [a] au a0 λb c d=>af (dr .not b) λe=>br e (af (cS [(ad 0),ay] []) λf=>af (aQ c 2 co f) λg=>(Om s K cB co de ep g d)) (Om s K cB co de ep c d)
def ac6:c5:=λs ah t1 h U K=>bI ah h U λa b c=>bI t1 b c λd e f=>bW [(ad 0),(ad 0),ay,ay,ay,ay] e f λg i j=>bW [(ad 0),ay] i j λk l m=>aN 6 l a λn=>aW s 477 [n] l m λo p q=>af (dr .not o) λr=>br r (d4 (fh 1 [(ad 0)] [(0,1,(ad 0))]) p q λt aD v=>af (cS [(ad 0),(ad 0),ay,ay,ay,ay] [(3,1,t)]) λw=>af (aQ aD 6 a w) λx=>(On s K a d g k x v)) (On s K a d g k p q)
theorem aqr:c7 452 ac6:=c9 []
def NL:aa (aa Nat):=[[0,2,3,4,11,14,15,16]]
def Wj(s:al)(aC a2 a3 aY en jd iZ g7:X)(h:ae)(U:Nat)(N:aR)(aM:aR)(R:aR):Prop:=cH g7 iZ (hv 2 h 2 jd g7 λc=>bW [(ad 0),(ad 0)] h U λd e f=>af (aQ e 2 d c) λg=>ax g 0 d λj=>aW s 334 [a3,j] g f λk l m=>bw .neq 4 k aY (ax l 1 d λp=>b9 480 [aC,p,a2] l m λq r t=>bf 0 d λaD=>bT r aD λv=>c0 aD v (af (cS [(ad 0),(ad 0),(.int .u64 0)] [(0,1,v),(1,2,q)]) λw=>d4 (fh 1 [(ad 0),(ad 0),(.int .u64 0)] [(0,3,w)]) r t λx y z=>dG (dX (dT 3 y z en x)) λbz bU bQ=>z<=bQ/\cg g7 λa8=>N [aC,a2,a3,aY,bz,jd,iZ,a8] bU bQ) 1 [l]) (cg g7 λbY=>N [aC,a2,a3,aY,en,jd,iZ,bY] l m)) (aM [aC,a2,a3,aY,en,jd,iZ,g7] h U)
def YH:w5:=λs ah t1 t2 t3 fS h U K=>cV t1 λa=>bD (bR Q s NL 453 0) [ah,t2,t3,fS,ay,t1,a,(ad 0)] h U [(0,λb c d=>K (a7 b 4) c d)] (λ_ _ _=>False)
theorem aia{h:ae}{U:Nat}:bR Q s NL 453 0 [aC,a2,a3,aY,en,jd,iZ,g7] h U N [(0,aM)] R=Wj s aC a2 a3 aY en jd iZ g7 h U N aM R:=by kernel_rfl
theorem ajG:yS 453 YH:=AL NL
def Oo(s:al)(K:bP)(cB co de ep:X)(au:ae)(a0:Nat):Prop:=aN 5 au cB λa=>af (aQ au 5 de a) λb=>aN 3 b co λc=>jg 3 co c (af (aQ b 3 ep c) λd=>aN 5 d de λe=>aN 3 d ep λf=>K (.tuple ⟨[e,f]⟩) d a0) 1 [au]
def Oq(s:al)(K:bP)(cB co de ep:X)(au:ae)(a0:Nat):Prop:=aN 3 au co λa=>aW s 478 [a] au a0 λb c d=>af (dr .not b) λe=>br e (aW s 388 [(ad 0)] c d λf g i=>af (aQ g 3 co f) λj=>(Oo s K cB co de ep j i)) (Oo s K cB co de ep c d)
def ac7:c5:=λs ah t1 h U K=>bI ah h U λa b c=>bI t1 b c λd e f=>bW [(ad 0),(ad 0),ay,ay,ay] e f λg i j=>bW [(ad 0),ay,ay] i j λk l m=>aN 5 l a λn=>aW s 201 [n] l m λo p q=>af (dr .not o) λr=>br r (aN 5 p a λt=>af (cS [(ad 0),(ad 0)] []) λaD=>af (cS [(ad 0),(ad 0)] []) λv=>aW s 203 [t,aD,v] p q λw x y=>af (aQ x 5 a w) λz=>(Oq s K a d g k z y)) (Oq s K a d g k p q)
theorem aqs:c7 455 ac7:=c9 []
def aaO:gf:=λs ah t1 t2 h U K=>bI ah h U λa b c=>bI t1 b c λd e f=>bI t2 e f λg i j=>af (.ok (.func (.func 483) ⟨[]⟩ ⟨[a,d,g]⟩)) λk=>K k i j
theorem amx:gl 456 aaO:=gp []
def Qq:aa (aa Nat):=[[0,2,5,7,8,10,11,12]]
def aaP(s:al)(aC a2 bN ba bx di en eD:X)(h:ae)(U:Nat)(N:aR)(aM:aR)(R:aR):Prop:=ax h 2 bN λb=>cg a2 λc=>d0 h 1 b c λe=>cH eD e (ax h 3 bN λi=>d0 h 1 i eD λk=>ax h 1 ba λm=>aW s 334 [m,k] h U λn o p=>br n (ax o 4 bN λr=>d0 o 1 r eD λaD=>ax o 2 ba λw=>d0 o 1 w k λy=>b9 480 [aC,aD,y] o p λz bz bU=>fc Q true (hJ bz bU [z] di) λbQ a8 bY=>bU<=bY/\cg eD λb7=>N [aC,a2,bN,ba,bx,di,en,b7] a8 bY) (cg eD λbL=>N [aC,a2,bN,ba,bx,di,en,bL] o p)) (aM [aC,a2,bN,ba,bx,di,en,eD] h U)
def aeJ:vm:=λs ah t1 t2 t3 h U K=>bI t1 h U λa b c=>bI t3 b c λd e f=>bW [(ad 0),(.int .u64 0)] e f λg i j=>aW s 484 [ah] i j λk l m=>af (cy k 0) λn=>af (cy k 1) λo=>ax l 2 a λq=>d0 l 1 q t2 λt=>bD (bR Q s Qq 457 0) [ah,t2,a,d,g,n,o,t] l m [(0,λaD v w=>fc Q s (hJ v w [] (a7 aD 6)) λx y z=>af (cy x 0) λbz=>af (cy x 1) λbU=>af (aQ y 2 (a7 aD 4) bz) λbQ=>aN 2 bQ (a7 aD 4) λa8=>K (.tuple ⟨[a8,bU]⟩) bQ z)] (λ_ _ _=>False)
theorem aqt{h:ae}{U:Nat}:bR Q s Qq 457 0 [aC,a2,bN,ba,bx,di,en,eD] h U N [(0,aM)] R=aaP s aC a2 bN ba bx di en eD h U N aM R:=by kernel_rfl
theorem atM:w4 457 aeJ:=yy Qq
def Ot:aa (aa Nat):=[[1,2,20,21,22]]
def Xk(s:al)(aB a2 iA hC ef:X)(h:ae)(U:Nat)(N:aR)(aM:aR)(R:aR):Prop:=cH ef hC (d0 h 1 iA ef λc=>bw .neq 2 c (ad 0) (ax h 1 aB λf=>aW s 334 [f,ef] h U λg i j=>af (dr .not g) λk=>br k (R [aB,(.bool false),iA,hC,ef] i j) (cg ef λl=>N [aB,a2,iA,hC,l] i j)) (cg ef λm=>N [aB,a2,iA,hC,m] h U)) (aM [aB,a2,iA,hC,ef] h U)
def NM(s:al)(K:bP)(ct SQ:X)(au:ae)(a0:Nat):Prop:=br SQ (K (.bool false) au a0) (ax au 2 ct λb=>cV b λc=>bD (bR Q s Ot 478 0) [ct,(.bool false),b,c,(ad 0)] au a0 [(0,λd e f=>K (.bool true) e f)] (λg i j=>K (a7 g 1) i j))
def aaQ:cP:=λs ah h U K=>bI ah h U λa b c=>ax b 1 a λe=>ax b 0 a λg=>aW s 437 [e,g] b c λi j k=>af (dr .not i) λl=>br l (NM s K a (.bool true) j k) (ax j 2 a λn=>cV n λo=>ax j 0 a λq=>bG .neq 3 o q λr=>(NM s K a r j k))
theorem ajH{A g B:X}{h:ae}{U:Nat}:bR Q s Ot 478 0 [aB,a2,A,g,B] h U N [(0,aM)] R=Xk s aB a2 A g B h U N aM R:=by kernel_rfl
theorem amy:cQ 478 aaQ:=cT Ot
def Pk:aa (aa Nat):=[[0,1,3]]
def YI(s:al)(aC aB a3:X)(h:ae)(U:Nat)(N:aR)(aM:aR)(R:aR):Prop:=bw .geq 3 a3 (ad 0) (ax h 2 aB λc=>d0 h 1 c a3 λe=>fc Q s (hJ h U [a3,e] aC) λf g i=>af (dr .not f) λj=>br j (R [aC,aB,a3] g i) (ax g 1 aB λl=>cg a3 λm=>aW s 473 [l,m] g i λn o p=>N [aC,aB,n] o p)) (aM [aC,aB,a3] h U)
def ac8:c5:=λs ah t1 h U K=>ax h 1 t1 λb=>aW s 473 [b,(ad 0)] h U λc d e=>bD (bR Q s Pk 479 0) [ah,t1,c] d e [(0,λf g i=>K (.tuple ⟨[]⟩) g i)] (λj k l=>K (.tuple ⟨[]⟩) k l)
theorem amz{h:ae}{U:Nat}:bR Q s Pk 479 0 [aC,aB,a3] h U N [(0,aM)] R=YI s aC aB a3 h U N aM R:=by kernel_rfl
theorem aqu:c7 479 ac8:=c9 Pk
def JF(s:al)(K:bP)(cB ey fH:X)(au:ae)(a0:Nat):Prop:=b9 260 [(ad 4611686018427387904)] au a0 λa b c=>b9 260 [cB] b c λd e f=>aN 2 e fH λg=>jg 2 fH g (b9 355 [g,d] e f λi j k=>b9 353 [a,i] j k λl m n=>af (aQ m 2 ey l) λo=>aN 2 o ey λp=>K p o n) 2 [b,au]
def zA(s:al)(K:bP)(cu ct cB ey y30:X)(au:ae)(a0:Nat):Prop:=br y30 (aW s 260 [(ad 4611686018427387904)] au a0 λa b c=>af (aQ b 2 ey a) λd=>aN 2 d ey λe=>K e d c) (af (cS [(ad 0),(.int .u64 0)] []) λf=>bW [(ad 0),(.int .u64 0)] au a0 λg i j=>af (aQ i 2 g f) λk=>bw .eql 234 cu (ad 1) (aW s 260 [ct] k j λm n o=>af (aQ n 2 g m) λp=>(JF s K cB ey g p o)) (bw .eql 234 cu (ad 4) (JF s K cB ey g k j) (bw .eql 234 cu (ad 3) (aW s 260 [ct] k j λt aD v=>af (aQ aD 2 ey t) λw=>aN 2 w ey λx=>K x w v) (aN 2 k g λy=>af (aQ k 2 ey y) λz=>aN 2 z ey λbz=>K bz z j))))
def Kj:gf:=λs ah t1 t2 h U K=>bW [(ad 0),(.int .u64 0)] h U λa b c=>bw .eql 234 ah (ad 2) (bw .neq 2 t1 (ad 0) (bG .neq 2 t2 (ad 0) λf=>aW s 354 [f] b c λg i j=>af (aQ i 2 a g) λk=>aN 2 k a λl=>K l k j) (aW s 354 [(.bool false)] b c λm n o=>af (aQ n 2 a m) λp=>aN 2 p a λq=>K q p o)) (bw .eql 234 ah (ad 5) (aW s 494 [t1,t2] b c λt aD v=>af (aQ aD 2 a t) λw=>aN 2 w a λx=>K x w v) (aW s 259 [ah] b c λy z bz=>br y (af (min2 false t1 t2) λbU=>bG .geq 2 bU (ad 4611686018427387904) λbQ=>(zA s K ah t1 t2 a bQ z bz)) (zA s K ah t1 t2 a (.bool false) z bz)))
theorem atN:gl 480 Kj:=gp []
def NN:aa (aa Nat):=[[0,2,3,6,7]]
def Wk(s:al)(aC a2 a3 bu ba:X)(h:ae)(U:Nat)(N:aR)(aM:aR)(R:aR):Prop:=cH ba bu (bT h a2 λb=>b9 334 [b,ba] h U λc d e=>bT d a3 λf=>c0 a3 f (bw .neq 4 c f (fc Q true (hJ d e [ba] aC) λi j k=>e<=k/\af (dr .not i) λl=>br l (R [aC,a2,a3,bu,ba] j k) (cg ba λm=>N [aC,a2,a3,bu,m] j k)) (cg ba λn=>N [aC,a2,a3,bu,n] d e)) 1 [h]) (aM [aC,a2,a3,bu,ba] h U)
def YJ:vm:=λs ah t1 t2 t3 h U K=>bT h t1 λa=>bD (bR Q s NN 483 0) [ah,t2,t3,a,(ad 0)] h U [(0,λb c d=>K (.tuple ⟨[]⟩) c d)] (λe f g=>K (.tuple ⟨[]⟩) f g)
theorem aib{h:ae}{U:Nat}:bR Q s NN 483 0 [aC,a2,a3,bu,ba] h U N [(0,aM)] R=Wk s aC a2 a3 bu ba h U N aM R:=by kernel_rfl
theorem ajI:w4 483 YJ:=yy NN
def aaR:cP:=λs ah h U K=>bI ah h U λa b c=>bW [(ad 0),(.int .u64 0)] b c λd e f=>bW [(.bool false)] e f λg i j=>af (aQ i 1 g (.bool false)) λk=>af (.ok (.func (.func 497) ⟨[]⟩ ⟨[g,a,d]⟩)) λl=>af (.ok (.func (.func 498) ⟨[]⟩ ⟨[d,g]⟩)) λm=>K (.tuple ⟨[l,m]⟩) k j
theorem amA:cQ 484 aaR:=cT []
def YK:vm:=λs ah t1 t2 t3 h U K=>bI ah h U λa b c=>bT b t1 λd=>br d (bT b t2 λe=>aN 2 b t3 λf=>aN 2 b a λg=>aW s 261 [e,f,g] b c λi j k=>af (aQ j 2 a i) λl=>aN 2 l a λm=>af (aQ l 2 t3 m) λn=>af (aQ n 1 t1 (.bool true)) λo=>K (.tuple ⟨[]⟩) o k) (aN 2 b a λp=>af (aQ b 2 t3 p) λq=>af (aQ q 1 t1 (.bool true)) λr=>K (.tuple ⟨[]⟩) r c)
theorem ajJ:w4 497 YK:=yy []
def YL:c5:=λs ah t1 h U K=>bW [(ad 0),(.int .u64 0)] h U λa b c=>aN 2 b ah λd=>af (aQ b 2 a d) λe=>bT e t1 λf=>c0 t1 f (aN 2 e a λg=>K (.tuple ⟨[g,f]⟩) e c) 1 [b]
theorem ajK:c7 498 YL:=c9 []
def aeK:c5:=λs ah t1 h U K=>aW s 345 [ah] h U λa b c=>aW s 345 [t1] b c λd e f=>br a (br d (K (ad 0) e f) (K (ad (-1)) e f)) (br d (K (ad 1) e f) (cH ah t1 (K (ad (-1)) e f) (j6 ah t1 (K (ad 1) e f) (K (ad 0) e f))))
theorem atO:c7 242 aeK:=c9 []
def Rb:aa (aa Nat):=[[2,3,6,7,8]]
def J2(s:al)(a2 a3 bu ba bx:X)(h:ae)(U:Nat)(N:aR)(aM:aR)(R:aR):Prop:=cH bx ba (d0 h 1 bu bx λc=>bw .neq 3 c a3 (R [c,a3,bu,ba,bx] h U) (cg bx λe=>N [a2,a3,bu,ba,e] h U)) (aM [a2,a3,bu,ba,bx] h U)
def afV:cP:=λs ah h U K=>cV ah λa=>bD (bR Q s Rb 241 0) [(ad 0),(ad 0),ah,a,(ad 0)] h U [(0,λb c d=>K (a7 b 1) c d)] (λe f g=>K (a7 e 0) f g)
theorem Qr{h:ae}{U:Nat}:bR Q s Rb 241 0 [a2,a3,bu,ba,bx] h U N [(0,aM)] R=J2 s a2 a3 bu ba bx h U N aM R:=by kernel_rfl
theorem av7:cQ 241 afV:=cT Rb
def afW:cP:=λs ah h U K=>bw .gtr 234 ah (ad 0) (bG .lss 3 ah (ad 6) λb=>K b h U) (K (.bool false) h U)
theorem av8:cQ 259 afW:=cT []
def afX:cP:=λs ah h U K=>bW [(ad 0),(.int .u64 0)] h U λa b c=>bG .shr 2 ah (.int .u64 63) λd=>af (qe (.int .u64) ah) λe=>af (cS [(ad 0),(.int .u64 0)] [(0,1,d),(1,1,e)]) λf=>af (aQ b 2 a f) λg=>aN 2 g a λi=>K i g c
theorem av9:cQ 260 afX:=cT []
def Ce(s:al)(K:bP)(de ep ey fH ij:X)(au:ae)(a0:Nat):Prop:=br ij (aN 2 au de λa=>aN 2 au ep λb=>aW s 353 [a,b] au a0 λc d e=>af (aQ d 2 ey c) λf=>aN 2 f ey λg=>K g f e) (bw .eql 234 fH (ad 2) (aN 2 au de λj=>aN 2 au ep λk=>bw .neq 272 j k (aW s 354 [(.bool true)] au a0 λm n o=>af (aQ n 2 ey m) λp=>aN 2 p ey λq=>K q p o) (aN 2 au de λr=>af (cS [(ad 0),(.int .u64 0)] []) λt=>bG .neq 272 r t λaD=>aW s 354 [aD] au a0 λv w x=>af (aQ w 2 ey v) λy=>aN 2 y ey λz=>K z y x)) (bw .eql 234 fH (ad 5) (aN 2 au de λbU=>aN 2 au ep λbQ=>aW s 355 [bU,bQ] au a0 λa8 bY b7=>af (aQ bY 2 ey a8) λbL=>aN 2 bL ey λcK=>K cK bL b7) (af (cS [(ad 0),(.int .u64 0)] []) λcC=>af (aQ au 2 ey cC) λdn=>aN 2 dn ey λdf=>K df dn a0)))
def aeL:gf:=λs ah t1 t2 h U K=>bI t1 h U λa b c=>bI t2 b c λd e f=>bW [(ad 0),(.int .u64 0)] e f λg i j=>bw .eql 234 ah (ad 1) (Ce s K a d g ah (.bool true) i j) (bw .eql 234 ah (ad 3) (Ce s K a d g ah (.bool true) i j) (bG .eql 234 ah (ad 4) λm=>(Ce s K a d g ah m i j)))
theorem atP:gl 261 aeL:=gp []
def YM:c5:=λs ah t1 h U K=>bI t1 h U λa b c=>aN 2 b a λd=>aW s 356 [d] b c λe f g=>af (cy e 0) λi=>af (cy e 1) λj=>K (.tuple ⟨[i,j]⟩) f g
theorem ajL:c7 262 YM:=c9 []
def YN:c5:=λs ah t1 h U K=>bI ah h U λa b c=>bI t1 b c λd e f=>bW [(ad 0),(.int .u64 0)] e f λg i j=>aN 2 i a λk=>aN 2 i d λl=>aW s 418 [k,l] i j λm n o=>bw .leq 3 m (ad 0) (aN 2 n a λq=>af (aQ n 2 g q) λr=>aN 2 r g λt=>K t r o) (aN 2 n d λaD=>af (aQ n 2 g aD) λv=>aN 2 v g λw=>K w v o)
theorem ajM:c7 353 YN:=c9 []
def YO:cP:=λs ah h U K=>bI ah h U λa b c=>ax b 1 a λe=>af (qe (.int .i64) e) λf=>b9 260 [f] b c λg i j=>aN 2 i a λk=>jg 2 a k (bw .neq 272 g k (K (.tuple ⟨[(ad 0),(.bool false)]⟩) i j) (K (.tuple ⟨[f,(.bool true)]⟩) i j)) 1 [b]
theorem ajN:cQ 356 YO:=cT []
def Xl:c5:=λs ah t1 h U K=>bI ah h U λa b c=>bI t1 b c λd e f=>ax e 0 a λi=>ax e 0 d λk=>b9 359 [i,k] e f λl m n=>bf 1 a λo=>bT m o λp=>c0 o p (bf 1 d λq=>bT m q λr=>c0 q r (b9 466 [p,r] m n λt aD v=>d4 (fh 2 [(ad 0),(ad 0)] [(0,1,l),(1,1,t)]) aD v λw x y=>b9 241 [w] x y λz bz bU=>K z bz bU) 1 [e]) 1 [e]
theorem aic:c7 418 Xl:=c9 []
def aeM:c5:=λs ah t1 h U K=>aW s 428 [ah] h U λa b c=>aW s 428 [t1] b c λd e f=>br a (br d (K (ad 0) e f) (K (ad (-1)) e f)) (br d (K (ad 1) e f) (bw .lss 2 ah t1 (K (ad (-1)) e f) (bw .gtr 2 ah t1 (K (ad 1) e f) (K (ad 0) e f))))
theorem atQ:c7 359 aeM:=c9 []
def aeN:c5:=λs ah t1 h U K=>aW s 488 [ah] h U λa b c=>aW s 488 [t1] b c λd e f=>br a (br d (K (ad 0) e f) (K (ad (-1)) e f)) (br d (K (ad 1) e f) (bw .lss 188 ah t1 (K (ad (-1)) e f) (bw .gtr 188 ah t1 (K (ad 1) e f) (K (ad 0) e f))))
theorem atS:c7 466 aeN:=c9 []
def aaS:cP:=λs ah h U K=>bG .neq 2 ah ah λa=>K a h U
theorem amB:cQ 428 aaS:=cT []
def aaT:cP:=λs ah h U K=>bG .neq 188 ah ah λa=>K a h U
theorem amC:cQ 488 aaT:=cT []
def wid(x:Int):aa X:=[.int .i64 (x / 18446744073709551616),.int .u64 (x % 18446744073709551616)]
def kk(n:Int):Prop:=-9223372036854775808<=n/\n<9223372036854775808
def lg(x:Int):Prop:=-170141183460469231731687303715884105728<=x/\x<170141183460469231731687303715884105728
theorem oE:IntKind.wrap .i64 n=(n+9223372036854775808) % 18446744073709551616-9223372036854775808:=by rw[acB];omega
theorem Ke:IntKind.wrap .u64 n=n % 18446744073709551616:=by simp[IntKind.wrap,IntKind.signed,IntKind.bits]
theorem ajO{t:TypeId}(h:kk n):bin Q .shr t (n:X) (.int .u64 63) = .ok (.int .i64 (n / 18446744073709551616)):=by
 show R.ok (Value.int .i64 (n.fdiv 9223372036854775808))=_;rw[Int.fdiv_eq_ediv_of_nonneg _ (by decide)];unfold kk at h
 grind
theorem zI{h:ae}{U:Nat}(g:kk n):aH Q s 260 [(n:X)] h U (dC (.agg ⟨wid n⟩) U h):=by refine av9 ?_;unfold afX wid;simp(disch:=omega)only[bn,ajO g,Ke,seval];exact⟨rfl,aK,J⟩
theorem aaU{h:ae}{U:Nat}:aH Q s 359 [(a:X),(b:X)] h U (fo (.int .i64 (fO a b)) U h):=by
 have g:∀{n:Int} {K:bP},K (.bool false) h U->aH Q s 428 [(n:X)] h U K:=λ{n K} hk=>by refine amB ?_;unfold aaS;simp(disch:=omega)only[bn,qR,seval];exact hk
 refine atQ ?_;unfold aeM fO;refine g (g ?_);refine aF ?_;refine⟨λA=>?_,λA=>⟨λB=>?_,λB=>?_⟩⟩
 ·rw[if_pos A];exact⟨rfl,rfl,rfl⟩
 ·rw[if_neg J,if_pos J];exact⟨rfl,rfl,rfl⟩
 ·rw[if_neg J,if_neg J];exact⟨rfl,rfl,rfl⟩
theorem aqv{h:ae}{U:Nat}:aH Q s 466 [.int .u64 a,.int .u64 b] h U (fo (.int .i64 (fO a b)) U h):=by
 have g:∀{n:Int} {K:bP},K (.bool false) h U->aH Q s 488 [.int .u64 n] h U K:=λ{n K} hk=>by refine amC ?_;unfold aaT;simp(disch:=omega)only[bn,qR,seval];exact hk
 refine atS ?_;unfold aeN fO;refine g (g ?_);refine aF ?_;refine⟨λA=>?_,λA=>⟨λB=>?_,λB=>?_⟩⟩
 ·rw[if_pos A];exact⟨rfl,rfl,rfl⟩
 ·rw[if_neg J,if_pos J];exact⟨rfl,rfl,rfl⟩
 ·rw[if_neg J,if_neg J];exact⟨rfl,rfl,rfl⟩
def axZ(b:Nat)(x y:Int)(U:Nat)(h:ae)(m:Nat)(aE:aa X)(ac:ae)(Y:Nat):Prop :=
 (m=2/\aE=[.int .i64 0,.int .i64 0,.slice (some ⟨b,0,none⟩) 2 2,.int .i64 2,.int .i64 0]/\ac=h/\Y=U)\/(m=1/\x=0/\aE=[.int .i64 0,.int .i64 0,.slice (some ⟨b,0,none⟩) 2 2,.int .i64 2,.int .i64 1]/\ac=h/\Y=U)\/(m=0/\x=0/\y=0/\aE=[.int .i64 0,.int .i64 0,.slice (some ⟨b,0,none⟩) 2 2,.int .i64 2,.int .i64 2]/\ac=h/\Y=U)
theorem Cu{b:Nat}{h:ae}{U:Nat}(B:u h b=some (.cells [(x:X),(y:X)] false)):aH Q s 241 [.slice (some ⟨b,0,none⟩) 2 2] h U (fo (.int .i64 (if x=0 then y else x)) U h):=by
 refine av7 ?_;unfold afV;refine aF ?_;refine bD.mk (axZ b x y U h) 2 (.inl ab) ?_;rintro _ _ _ _ (⟨rfl,rfl,rfl,rfl⟩|⟨rfl,g,rfl,rfl,rfl⟩|⟨rfl,g,A,rfl,rfl,rfl⟩)
 ·rw[Qr];unfold J2;simp(disch:=omega)only[bn,B,seval]
  by_cases g:x=0
  ·subst g;refine aF ?_;exact⟨⟨1,J,.inr (.inl ⟨rfl,rfl,rfl,rfl,rfl⟩)⟩,λh=>absurd trivial h⟩
  ·have e:(x == 0)=false:=ab
   refine cL @e @g ?_;exact⟨⟨rfl,rfl,rfl⟩,λh=>absurd trivial h⟩
 ·rw[Qr];unfold J2;subst g;simp(disch:=omega)only[bn,B,seval]
  by_cases A:y=0
  ·subst A;refine aF ?_;exact⟨⟨0,J,.inr (.inr ⟨rfl,rfl,rfl,rfl,rfl,rfl⟩)⟩,λh=>absurd trivial h⟩
  ·have e:(y == 0)=false:=ab
   refine bg @e ?_;exact⟨⟨rfl,rfl,rfl⟩,λh=>absurd trivial h⟩
 ·rw[Qr];unfold J2;subst g A;refine aF ?_;exact λ_=>⟨rfl,rfl,rfl⟩
theorem ahA{h:ae}{U:Nat}:aH Q s 418 [.agg ⟨wid a⟩,.agg ⟨wid b⟩] h U (dC (.int .i64 (fO a b)) U h):=by
 refine aic ?_;unfold Xl wid;refine aF ?_;refine aaU.mono ?_;rintro _ _ _ ⟨rfl,rfl,rfl⟩;refine⟨J,?_⟩;refine aF ?_;refine aqv.mono ?_;rintro _ _ _ ⟨rfl,rfl,rfl⟩;refine⟨J,?_⟩;refine aF ?_;refine(Cu (aS _ _ _)).mono ?_;rintro _ _ _ ⟨rfl,rfl,rfl⟩;refine⟨J,?_,aK,J⟩
 congr 1
 unfold fO;omega
theorem amD:0<fO a b↔b<a:=by unfold fO;omega
theorem Np{h:ae}{U:Nat}:aH Q s 353 [.agg ⟨wid a⟩,.agg ⟨wid b⟩] h U (dC (.agg ⟨wid (min a b)⟩) U h):=by
 refine ajM ?_;unfold YN bI;rw[show dh (.agg ⟨wid a⟩)=[.int .i64 (a / 18446744073709551616),.int .u64 (a % 18446744073709551616)]from rfl,show dh (.agg ⟨wid b⟩)=[.int .i64 (b / 18446744073709551616),.int .u64 (b % 18446744073709551616)]from rfl];refine aF ?_;refine(ahA  ).mono ?_;rintro _ M I ⟨rfl,g,E⟩;have C:=g U J;rw[aq J,aq J,aS]at C;have B:=g (U+1) J;rw[aq J,aS]at B;have D:=g (U+2) J;rw[aS]at D;refine hK @C @B @D ?_;have L:=amD (a:=a) (b:=b);refine⟨λA=>?_,λA=>?_⟩
 ·have:min a b=(if 0<fO a b then b else a):=J
  rw[this]
  first|rw[if_pos A]|rw[if_neg A]
  exact⟨rfl,aK,J⟩
 ·have:min a b=(if 0<fO a b then b else a):=J
  rw[this]
  first|rw[if_pos A]|rw[if_neg A]|rw[if_neg J]
  exact⟨rfl,aK,J⟩
theorem wfI(h:kk n):(Lit.int .i64 n).wf=true:=by unfold kk at h;simp[Lit.wf,IntKind.min,IntKind.max,IntKind.bits,IntKind.signed];omega
theorem wfU(h:0<=n/\n<18446744073709551616):(Lit.int .u64 n).wf=true:=by simp[Lit.wf,IntKind.min,IntKind.max,IntKind.bits,IntKind.signed];omega
theorem ax0(h:lg x):kk (x / 18446744073709551616)/\0<=x % 18446744073709551616/\x % 18446744073709551616<18446744073709551616:=by unfold lg at h;unfold kk;omega
theorem aeO(h:lg x):Tryz.prog.keyLits 8 272 (wid x)=some [.int .i64 (x / 18446744073709551616),.int .u64 (x % 18446744073709551616)]:=by
 obtain⟨D,A⟩:=ax0 h;have B:=wfI D;have C:=wfU A;have g:Tryz.prog.keyLits 7 2 [.int .i64 (x / 18446744073709551616)]=some [.int .i64 (x / 18446744073709551616)]:=by unfold Program.keyLits;simp only[D6,B,and_self,if_true]
 have two:Tryz.prog.keyLits 7 188 [.int .u64 (x % 18446744073709551616)]=some [.int .u64 (x % 18446744073709551616)]:=by unfold Program.keyLits;simp only[axV,C,and_self,if_true]
 unfold Program.keyLits;simp only[afQ,afR,wid,nJ,Et,Nat.reduceAdd];rw[if_pos ⟨trivial,by kernel_rfl⟩];simp only[BI,List.mapM_nil,show SO.type=2 from rfl,show SP.type=188 from rfl,show SO.offset=0 from rfl,show SP.offset=1 from rfl,c2,axX,pb,MN,Eo,t8,g,two];rfl
theorem Pl(A:lg x)(B:lg y):bin Q .neq 272 (.agg ⟨wid x⟩) (.agg ⟨wid y⟩) = .ok (.bool (!(x == y))):=by
 show R.of "compared" (bif Fl Tryz.prog 272 then sg Tryz.prog 272 (.agg ⟨wid x⟩) (.agg ⟨wid y⟩)else none) (λb=>nP (!b))=_;have g:∀x,(Value.agg ⟨wid x⟩).formed Tryz.prog 272=true:=λx=>by simp[Value.formed,afQ,afR,wid]
 unfold sg;rw[avY,axW,g,g];show R.of "compared" (bif true&&(true&&true&&true&&true)then K0 (Tryz.prog.keyLits 8 272 (wid x)) (Tryz.prog.keyLits 8 272 (wid y))else none) (λb=>nP (!b))=_;rw[aeO A,aeO B];show R.ok (Value.bool (!((mc .i64 .i64&&fz (x / 18446744073709551616) (y / 18446744073709551616))&&((mc .u64 .u64&&fz (x % 18446744073709551616) (y % 18446744073709551616))&&true))))=_;rw[vH,vH,kN,kN];have:(true&&x / 18446744073709551616 == y / 18446744073709551616&&(true&&x % 18446744073709551616 == y % 18446744073709551616&&true))=(x == y):=ab
 grind
theorem aid{h:ae}{U:Nat}(M:lg x):aH Q s 356 [.agg ⟨wid x⟩] h U (dC (.tuple ⟨[.int .i64 (if sb x=true then x else 0),.bool (sb x)]⟩) U h):=by
 refine ajN ?_;unfold YO bI;rw[show dh (.agg ⟨wid x⟩)=[.int .i64 (x / 18446744073709551616),.int .u64 (x % 18446744073709551616)]from rfl];have L:IntKind.wrap .i64 (x % 18446744073709551616)=(x+9223372036854775808) % 18446744073709551616-9223372036854775808:=by rw[oE];omega
 have P:kk ((x+9223372036854775808) % 18446744073709551616-9223372036854775808):=by unfold kk;omega
 have C:lg ((x+9223372036854775808) % 18446744073709551616-9223372036854775808):=by unfold lg;omega
 refine bg @L ?_;refine(zI P).mono ?_;rintro _ V Z ⟨rfl,A,g⟩;have D:=A U J;rw[aS]at D;refine⟨g,?_⟩;refine bg @D ?_;rw[show(Value.agg ⟨[.int .i64 (x / 18446744073709551616),.int .u64 (x % 18446744073709551616)]⟩) = .agg ⟨wid x⟩from rfl,Pl C M];have B:((x+9223372036854775808) % 18446744073709551616-9223372036854775808 == x)=sb x:=by
  unfold sb
  grind
 rw[B];have E:aA U h V:=aK
 cases I:sb x with
 |true =>
  rw[I]at B;have:=uc.1 B;refine aF ?_;rw[this];exact⟨rfl,E,J⟩
 |false =>
  refine aF ?_;exact⟨rfl,E,J⟩
theorem Wl{h:ae}{U:Nat}(A:lg x):aH Q s 262 [(r:X),.agg ⟨wid x⟩] h U (dC (.tuple ⟨[.int .i64 (if sb x=true then x else 0),.bool (sb x)]⟩) U h):=by refine ajL ?_;unfold YM bI;rw[show dh (.agg ⟨wid x⟩)=[.int .i64 (x / 18446744073709551616),.int .u64 (x % 18446744073709551616)]from rfl];refine aF ?_;rw[show(Value.agg ⟨[.int .i64 (x / 18446744073709551616),.int .u64 (x % 18446744073709551616)]⟩) = .agg ⟨wid x⟩from rfl];refine(aid A).mono ?_;rintro _ D C ⟨rfl,B,g⟩;refine aF ?_;exact⟨rfl,aK,J⟩
theorem IU{b:al}{h:ae}{U:Nat}:aH Q s 354 [.bool b] h U (dC (.agg ⟨wid (if b=true then 1 else 0)⟩) U h):=by
 refine ams ?_;unfold aaL;cases b with
 |true =>
  refine aF ?_;refine(zI  (by unfold kk;omega)).mono ?_;rintro _ D C ⟨rfl,g,B⟩;have A:=g U J;rw[aS]at A;unfold wid;refine bg @A ?_;exact⟨rfl,aK,J⟩
 |false =>
  refine aF ?_;exact⟨rfl,aK,J⟩
theorem zJ{h:ae}{U:Nat}(B:0<r)(g:r<6):aH Q s 259 [(r:X)] h U (fo (.bool true) U h):=by refine av8 ?_;unfold afW;refine aF ?_;refine⟨λ_=>?_,λA=>absurd A J⟩;rw[g4 g];exact⟨rfl,rfl,rfl⟩
theorem amE{h:ae}{U:Nat}(g:r=1\/r=2\/r=4\/r=5):aH Q s 399 [(r:X)] h U (fo (.int .i64 (CL r)) U h):=by
 refine aqo ?_;unfold ac4 CL er;rcases g with rfl|rfl|rfl|rfl <;> (simp(disch:=omega)only[bn,seval];exact⟨rfl,rfl,rfl⟩)
def nU(r:Int):Prop:=r=1\/r=2\/r=4
theorem Pm{h:ae}{U:Nat}(Z:nU r)(L:lg a)(M:lg b):aH Q s 261 [(r:X),.agg ⟨wid a⟩,.agg ⟨wid b⟩] h U (dC (.agg ⟨wid (jI r a b)⟩) U h):=by
 refine atP ?_;unfold aeL bI;rw[show dh (.agg ⟨wid a⟩)=[.int .i64 (a / 18446744073709551616),.int .u64 (a % 18446744073709551616)]from rfl,show dh (.agg ⟨wid b⟩)=[.int .i64 (b / 18446744073709551616),.int .u64 (b % 18446744073709551616)]from rfl];have aM:∀x:Int,(Value.agg ⟨[.int .i64 (x / 18446744073709551616),.int .u64 (x % 18446744073709551616)]⟩) = .agg ⟨wid x⟩:=λ_=>rfl;rcases Z with rfl|rfl|rfl
 ·refine aF ?_;unfold Ce;refine aF ?_;rw[aM,aM];refine Np.mono ?_;rintro _ I D ⟨rfl,g,B⟩;have A:=g (U+2) J;rw[aS]at A;unfold wid;refine bg @A ?_;exact⟨rfl,aK,J⟩
 ·refine aF ?_;unfold Ce;refine aF ?_;rw[aM,aM,Pl L M];have V:(Value.agg ⟨[.int .i64 0,.int .u64 0]⟩) = .agg ⟨wid 0⟩:=rfl;have P:lg 0:=by unfold lg;omega
  by_cases C:a=b
  ·subst C;simp(disch:=omega)only[bn,qR,seval];rw[V,Pl L P];refine aF ?_;refine IU.mono ?_;rintro _ I D ⟨rfl,g,B⟩;have A:=g (U+2) J;rw[aS]at A;have E:(if(!a == 0)=true then(1:Int)else 0)=jI 2 a a:=by
    unfold jI
    grind
   rw[E];unfold wid;refine bg @A ?_;exact⟨rfl,aK,J⟩
  ·rw[show(a == b)=false from rS.2 C];refine aF ?_;refine IU.mono ?_;rintro _ I D ⟨rfl,g,B⟩;have A:=g (U+2) J;rw[aS]at A;have E:jI 2 a b=1:=by unfold jI;omega
   rw[E];unfold wid;refine bg @A ?_;exact⟨rfl,aK,J⟩
 ·refine aF ?_;unfold Ce;refine aF ?_;rw[aM,aM];refine Np.mono ?_;rintro _ I D ⟨rfl,g,B⟩;have A:=g (U+2) J;rw[aS]at A;unfold wid;refine bg @A ?_;exact⟨rfl,aK,J⟩
theorem ajP{b:al}{h:ae}{U:Nat}:aH Q s 419 [.bool b] h U (fo (.int .u64 (if b=true then 1 else 0)) U h):=by
 refine amw ?_;cases b <;> (simp(disch:=omega)only[bn,seval];exact⟨rfl,rfl,rfl⟩)
theorem aqw{h:ae}{U:Nat}:aH Q s 355 [.agg ⟨wid a⟩,.agg ⟨wid b⟩] h U (dC (.agg ⟨wid (jv (a+b))⟩) U h):=by
 refine atJ ?_;unfold aeG bI;rw[show dh (.agg ⟨wid a⟩)=[.int .i64 (a / 18446744073709551616),.int .u64 (a % 18446744073709551616)]from rfl,show dh (.agg ⟨wid b⟩)=[.int .i64 (b / 18446744073709551616),.int .u64 (b % 18446744073709551616)]from rfl];refine aF ?_;refine ajP.mono ?_;rintro _ _ _ ⟨rfl,rfl,rfl⟩;refine⟨J,?_⟩;refine aF ?_;have aV:((a % 18446744073709551616+b % 18446744073709551616) % 18446744073709551616)=jv (a+b) % 18446744073709551616:=by unfold jv;omega
 have aP:IntKind.wrap .u64 (a % 18446744073709551616+b % 18446744073709551616)=jv (a+b) % 18446744073709551616:=by rw[Ke,aV]
 rw[aP];have A:IntKind.wrap .i64 (IntKind.wrap .u64 (IntKind.wrap .u64 (IntKind.wrap .u64 (a / 18446744073709551616)+IntKind.wrap .u64 (b / 18446744073709551616))+(if jv (a+b) % 18446744073709551616<b % 18446744073709551616 then 1 else 0)))=jv (a+b) / 18446744073709551616:=by
  simp only[Ke,oE]
  by_cases g:jv (a+b) % 18446744073709551616<b % 18446744073709551616
  ·rw[if_pos g];unfold jv at *
   omega
  ·rw[if_neg g];unfold jv at *
   omega
 rw[A];exact⟨rfl,aK,J⟩
theorem amF(h:lg x):jv x=x:=by unfold lg at h;unfold jv;omega
theorem FC(h:kk x):lg x:=by unfold kk at h;unfold lg;omega
theorem Rc(A:0<=a/\a<=2147483647)(B:0<=x/\x<=er)(g:nU r):0<=f3 r a x/\f3 r a x<=er:=by
 unfold f3 er at *
 rcases g with rfl|rfl|rfl
 all_goals omega
theorem aeP{q:Int}{A E:Nat}{C:ae}{g:Nat}(ol:u C A=some (.cells [.int .i64 0,.int .u64 0] false))(qJ:u C E=some (.cells [.int .i64 (q / 18446744073709551616),.int .u64 (q % 18446744073709551616)] false))(lU:A<g)(nw:E<g)(cM:0<=q/\q<=2147483647)(a1:0<=x/\x<=er)(fin:∀h1 P,aA g C h1->g<=P->K (.agg ⟨wid (min er (q+x))⟩) (T h1 A (.cells [.int .i64 (min er (q+x) / 18446744073709551616),.int .u64 (min er (q+x) % 18446744073709551616)] false)) P):
  JF s K (x:X) (bd A) (bd E) C g:=by
 have aj:er=4611686018427387904:=rfl;rw[aj]at a1 fin;have aBu:kk x:=by unfold kk;omega
 unfold JF;refine(zI (n:=4611686018427387904) (by unfold kk;omega)).mono ?_;rintro _ h1 P ⟨rfl,d9,B⟩;refine⟨B,?_⟩;refine(zI aBu).mono ?_;rintro _ ar bX ⟨rfl,Z,I⟩;have L:=(d9 E nw).trans qJ;have V:=(Z E J).trans L;refine⟨I,?_⟩;refine hK @V @L @qJ ?_;rw[show(Value.agg ⟨[.int .i64 (q / 18446744073709551616),.int .u64 (q % 18446744073709551616)]⟩) = .agg ⟨wid q⟩from rfl];refine aqw.mono ?_;rintro _ aL bS ⟨rfl,e8,M⟩;refine⟨M,?_⟩;rw[amF  (by unfold lg;omega)];refine Np.mono ?_;rintro _ bm dH ⟨rfl,fP,D⟩;refine⟨D,?_⟩;have hD:aA g C bm:=aK
 have g6a:=(hD A lU).trans ol;have:=fin bm dH hD J;unfold wid at this ⊢;refine bg @g6a ?_;exact this
theorem aaV{h:ae}{U:Nat}(a5:nU r)(cY:0<=a/\a<=2147483647)(a1:0<=x/\x<=er):aH Q s 480 [(r:X),(a:X),(x:X)] h U (dC (.agg ⟨wid (f3 r a x)⟩) U h):=by
 refine atN ?_;have P:=a1;have aj:er=4611686018427387904:=rfl;have aBv:kk 4611686018427387904:=by unfold kk;omega
 rw[aj]at a1;have k3:kk a:=by unfold kk;omega
 have fin:∀(v:Int) (E:ae) (L:Nat),aA (U+1) (T h U (.cells [.int .i64 0,.int .u64 0] false)) E->U+1<=L->v=f3 r a x->dC (.agg ⟨wid (f3 r a x)⟩) U h (.agg ⟨wid v⟩) (T E U (.cells [.int .i64 (v / 18446744073709551616),.int .u64 (v % 18446744073709551616)] false)) L:=λv E L hk dR e=>by subst e;exact⟨rfl,aK,J⟩
 have M:(r=1\/r=4)->4611686018427387904<=max a x->zA s (dC (.agg ⟨wid (f3 r a x)⟩) U h) (r:X) (a:X) (x:X) (bd U) (.bool true) (T h U (.cells [.int .i64 0,.int .u64 0] false)) (U+1):=λE ar=>by unfold zA;refine m8 ?_;refine(zI aBv).mono ?_;rintro _ ng L ⟨rfl,g,A⟩;have C:=g U J;rw[aS]at C;unfold wid;refine l5 @C ?_;refine fin _ _ _ g A ?_;unfold f3 er;omega
 have B:(r=1\/r=4)->¬4611686018427387904<=max a x->zA s (dC (.agg ⟨wid (f3 r a x)⟩) U h) (r:X) (a:X) (x:X) (bd U) (.bool false) (T h U (.cells [.int .i64 0,.int .u64 0] false)) (U+1):=λE ar=>by
  unfold zA;rcases E with rfl|rfl
  ·refine m8 ?_;refine(zI k3).mono ?_;rintro _ ng L ⟨rfl,g,A⟩;have bB:=(g (U+1) J).trans (aS _ _ _);have C:=g U J;rw[aq J,aq J,aS]at C;unfold wid;refine l5 @bB ?_;refine aeP  ab ab J J cY P ?_;intro h2' bX ei Z;refine fin _ _ _ ?_ (by omega) ?_
   ·exact aK
   ·unfold f3 er;omega
  ·refine m8 ?_;refine aeP (q:=0) ab ab J J J P ?_;intro h2' bX ei Z;refine fin _ _ _ ?_ (by omega) ?_
   ·exact aK
   ·unfold f3 er;omega
 have D:r=1\/r=4->Kj s (r:X) (a:X) (x:X) h U (dC (.agg ⟨wid (f3 r a x)⟩) U h):=λI=>by
  have M:=M I;have B:=B I;unfold Kj;have V:zA s (dC (.agg ⟨wid (f3 r a x)⟩) U h) (r:X) (a:X) (x:X) (bd U) (.bool (!decide (max a x<4611686018427387904))) (T h U (.cells [.int .i64 0,.int .u64 0] false)) (U+1):=by
   by_cases aZ:4611686018427387904<=max a x
   ·rw[hl (J:¬max a x<4611686018427387904)];exact M aZ
   ·rw[g4 (J:max a x<4611686018427387904)];exact B aZ
  rcases I with rfl|rfl
  ·refine m8 ?_;refine(zJ  J J).mono ?_;rintro _ _ _ ⟨rfl,rfl,rfl⟩;exact V
  ·refine m8 ?_;refine(zJ  J J).mono ?_;rintro _ _ _ ⟨rfl,rfl,rfl⟩;exact V
 rcases a5 with rfl|rfl|rfl
 ·exact D J
 ·unfold Kj;have em:f3 2 a x=if(!(a == 0)&&!(x == 0))=true then 1 else 0:=by
   unfold f3
   grind
  refine m8 ?_;refine⟨λaZ=>?_,λaZ=>?_⟩
  ·refine IU.mono ?_;rintro _ E L ⟨rfl,g,A⟩;have C:=(g U J).trans (aS _ _ _);unfold wid;refine l5 @C ?_;refine fin _ _ _ g A ?_
   grind
  ·refine IU.mono ?_;rintro _ E L ⟨rfl,g,A⟩;have C:=(g U J).trans (aS _ _ _);unfold wid;refine l5 @C ?_;refine fin _ _ _ g A ?_
   grind
 ·exact D J
def ac9:c5:=λs ah t1 h U K=>aW s 345 [ah] h U λa b c=>aW s 345 [t1] b c λd e f=>br a (br d (K (ad 0) e f) (K (ad (-1)) e f)) (br d (K (ad 1) e f) (cH ah t1 (K (ad (-1)) e f) (j6 ah t1 (K (ad 1) e f) (K (ad 0) e f))))
theorem aqx:c7 242 ac9:=c9 []
def ada:cP:=λs ah h U K=>bG .neq 3 ah ah λa=>K a h U
theorem aqy:cQ 345 ada:=cT []
def afY:c5:=λs ah t1 h U K=>bI ah h U λa b c=>bI t1 b c λd e f=>ax e 0 a λi=>ax e 0 d λk=>b9 242 [i,k] e f λl m n=>bf 1 a λo=>bT m o λp=>c0 o p (bf 1 d λq=>bT m q λr=>c0 q r (b9 242 [p,r] m n λt aD v=>d4 (fh 2 [(ad 0),(ad 0)] [(0,1,l),(1,1,t)]) aD v λw x y=>b9 241 [w] x y λz bz bU=>K z bz bU) 1 [e]) 1 [e]
theorem awa:c7 298 afY:=c9 []
def afZ:c5:=λs ah t1 h U K=>bI ah h U λa b c=>bI t1 b c λd e f=>aN 3 e a λg=>aN 3 e d λi=>b9 358 [g,i] e f λj k l=>bf 2 a λm=>bT k m λn=>c0 m n (bf 2 d λo=>bT k o λp=>c0 o p (b9 359 [n,p] k l λq r t=>d4 (fh 2 [(ad 0),(ad 0)] [(0,1,j),(1,1,q)]) r t λaD v w=>b9 241 [aD] v w λx y z=>K x y z) 1 [e]) 1 [e]
theorem awb:c7 264 afZ:=c9 []
def edT:c5:=λs ah t1 h U K=>bI ah h U λa b c=>bI t1 b c λd e f=>ax e 0 a λi=>ax e 0 d λk=>b9 242 [i,k] e f λl m n=>bf 1 a λo=>bT m o λp=>c0 o p (bf 1 d λq=>bT m q λr=>c0 q r (b9 242 [p,r] m n λt aD v=>d4 (fh 2 [(ad 0),(ad 0)] [(0,1,l),(1,1,t)]) aD v λw x y=>b9 241 [w] x y λz bz bU=>K z bz bU) 1 [e]) 1 [e]
theorem ax1:c7 358 edT:=c9 []
def af0:c5:=λs ah t1 h U K=>bI ah h U λa b c=>bI t1 b c λd e f=>af (ib (.array 2 1) a (ad 0)) λg=>bT e g λi=>af (ib (.array 2 1) d (ad 0)) λj=>bT e j λk=>b9 242 [i,k] e f λl m n=>af (ib (.array 2 1) a (ad 1)) λo=>bT m o λp=>c0 o p (af (ib (.array 2 1) d (ad 1)) λq=>bT m q λr=>c0 q r (b9 242 [p,r] m n λt aD v=>d4 (fh 2 [(ad 0),(ad 0)] [(0,1,l),(1,1,t)]) aD v λw x y=>b9 241 [w] x y λz bz bU=>K z bz bU) 1 [e]) 1 [e]
theorem awc:c7 240 af0:=c9 []
theorem B1{h:ae}{U:Nat}:aH Q s 242 [(a:X),(b:X)] h U (fo (.int .i64 (fO a b)) U h):=by
 have g:∀{n:Int} {K:bP},K (.bool false) h U->aH Q s 345 [(n:X)] h U K:=λ{n K} hk=>by refine aqy ?_;unfold ada;simp(disch:=omega)only[bn,qR,seval];exact hk
 refine aqx ?_;unfold ac9 fO;refine g (g ?_);refine aF ?_;refine⟨λA=>?_,λA=>⟨λB=>?_,λB=>?_⟩⟩
 ·rw[if_pos A];exact⟨rfl,rfl,rfl⟩
 ·rw[if_neg J,if_pos J];exact⟨rfl,rfl,rfl⟩
 ·rw[if_neg J,if_neg J];exact⟨rfl,rfl,rfl⟩
theorem awd{x y:dz}{h:ae}{U:Nat}:aH Q s 358 [.agg ⟨kf x⟩,.agg ⟨kf y⟩] h U (dC (.int .i64 (hB [fO x.1 y.1,fO x.2.1 y.2.1])) U h):=by
 refine ax1 ?_;unfold edT bI;rw[show dh (.agg ⟨kf x⟩)=[(x.1:X),(x.2.1:X),(x.2.2:X)]from rfl,show dh (.agg ⟨kf y⟩)=[(y.1:X),(y.2.1:X),(y.2.2:X)]from rfl];refine aF ?_;refine B1.mono ?_;rintro _ _ _ ⟨rfl,rfl,rfl⟩;refine⟨J,?_⟩;refine aF ?_;refine B1.mono ?_;rintro _ _ _ ⟨rfl,rfl,rfl⟩;refine⟨J,?_⟩;refine aF ?_;refine(Cu (aS _ _ _)).mono ?_;rintro _ _ _ ⟨rfl,rfl,rfl⟩;refine⟨J,?_,aK,J⟩
 congr 1
 unfold hB hB hB
 grind
theorem atT{x y:GE}{h:ae}{U:Nat}:aH Q s 298 [.agg ⟨cW x⟩,.agg ⟨cW y⟩] h U (dC (.int .i64 (hB [fO x.f y.f,fO x.t y.t])) U h):=by
 refine awa ?_;unfold afY bI;rw[show dh (.agg ⟨cW x⟩)=[(x.f:X),(x.t:X),(x.w:X)]from rfl,show dh (.agg ⟨cW y⟩)=[(y.f:X),(y.t:X),(y.w:X)]from rfl];refine aF ?_;refine B1.mono ?_;rintro _ _ _ ⟨rfl,rfl,rfl⟩;refine⟨J,?_⟩;refine aF ?_;refine B1.mono ?_;rintro _ _ _ ⟨rfl,rfl,rfl⟩;refine⟨J,?_⟩;refine aF ?_;refine(Cu (aS _ _ _)).mono ?_;rintro _ _ _ ⟨rfl,rfl,rfl⟩;refine⟨J,?_,aK,J⟩
 congr 1
 unfold hB hB hB
 grind
theorem atU{x y:Int × Int}{h:ae}{U:Nat}:aH Q s 240 [.agg ⟨lb x⟩,.agg ⟨lb y⟩] h U (dC (.int .i64 (kT x y)) U h):=by
 refine awc ?_;unfold af0 bI;rw[show dh (.agg ⟨lb x⟩)=[(x.1:X),(x.2:X)]from rfl,show dh (.agg ⟨lb y⟩)=[(y.1:X),(y.2:X)]from rfl];refine aF ?_;refine B1.mono ?_;rintro _ _ _ ⟨rfl,rfl,rfl⟩;refine⟨J,?_⟩;refine aF ?_;refine B1.mono ?_;rintro _ _ _ ⟨rfl,rfl,rfl⟩;refine⟨J,?_⟩;refine aF ?_;refine(Cu (aS _ _ _)).mono ?_;rintro _ _ _ ⟨rfl,rfl,rfl⟩;refine⟨J,?_,aK,J⟩
 congr 1
 unfold kT hB hB hB
 grind
theorem atV{x y:dz}{h:ae}{U:Nat}:aH Q s 264 [.agg ⟨kf x⟩,.agg ⟨kf y⟩] h U (dC (.int .i64 (jT x y)) U h):=by
 have e:∀x:dz,dh (.agg ⟨kf x⟩)=[(x.1:X),(x.2.1:X),(x.2.2:X)]:=λ_=>rfl;have aP:∀x:dz,Value.agg ⟨[(x.1:X),(x.2.1:X),(x.2.2:X)]⟩ = .agg ⟨kf x⟩:=λ_=>rfl;refine awb ?_;unfold afZ bI;rw[e,e];refine aF ?_;rw[aP,aP];refine awd.mono ?_;rintro _ E D ⟨rfl,g,A⟩;refine⟨A,?_⟩;have B:=g U J;rw[aq J,aS]at B;have C:=g (U+1) J;rw[aS]at C;refine cL @B @C ?_;refine aaU.mono ?_;rintro _ _ _ ⟨rfl,rfl,rfl⟩;refine⟨J,?_⟩;refine aF ?_;refine(Cu (aS _ _ _)).mono ?_;rintro _ _ _ ⟨rfl,rfl,rfl⟩;refine⟨J,?_,aK,J⟩
 congr 1
 unfold jT;generalize hB [fO x.1 y.1,fO x.2.1 y.2.1]=a;unfold hB hB hB
 grind
theorem Re{P:Program}{f:FuncId}{B:Func}(h:P.funcs[f]? = some { B with name:=(P.funcs[f]?.getD default).name }) (g:((P.funcs[f]?.getD default).name == "runtime.NumGoroutine")=false):Bears P f B:=⟨_,g,h⟩
def tW(l:aa (Nat × Nat))(n:Nat):Nat:=(l.lookup n).getD n
def SS(f t:aa (Nat × Nat)):Ren:=⟨tW (f++[(15,344),(28,415),(29,416),(47,462),(48,463)]),tW (t++[(3,3),(39,238),(0,0),(53,385),(55,188),(4,4),(46,426),(45,425),(50,222),(5,5),(9,9),(66,463),(70,467),(76,489),(77,341)]),id⟩
def rnE:Ren:=SS [(6,263),(14,357),(20,420),(21,421),(22,422),(23,423),(24,424),(25,425),(26,426),(27,427),(46,467),(49,468),(50,469),(57,489)] [(22,22),(24,124),(25,329)]
def rnT:Ren:=SS [(6,297),(14,370),(20,429),(21,430),(22,431),(23,432),(24,433),(25,434),(26,435),(27,436),(46,470),(49,471),(50,472),(57,490)] [(22,99),(24,259),(25,347)]
def rnL:Ren:=SS [(6,239),(14,343),(20,407),(21,408),(22,409),(23,410),(24,411),(25,412),(26,413),(27,414),(46,461),(49,464),(50,465),(57,487)] [(22,196),(24,198),(25,301)]
theorem ax2:SlLaysF0.n6 Tryz.prog rnL:=by
 constructor <;> first|kernel_rfl|exact Re (by kernel_rfl) (by kernel_rfl)|(intro w;kernel_rfl)
theorem af1:SlLaysF0.n6 Tryz.prog rnE:=by
 constructor <;> first|kernel_rfl|exact Re (by kernel_rfl) (by kernel_rfl)|(intro w;kernel_rfl)
theorem af2:SlLaysF0.n6 Tryz.prog rnT:=by
 constructor <;> first|kernel_rfl|exact Re (by kernel_rfl) (by kernel_rfl)|(intro w;kernel_rfl)
theorem YP:Sort.SWO (kD jT) where
 irrefl:=λx=>by have:¬jT x x<0:=λh=>apr x x h h;simpa[kD]using this
 trans:=λx y z A g=>by
  have A:jT x y<0:=by simpa[kD]using A
  have g:jT y z<0:=by simpa[kD]using g
  have:jT x z<0:=by rw[Fx]at *;omega
  simpa[kD]using this
 ntrans:=λx y z A g=>by
  have A:¬jT x y<0:=by simpa[kD]using A
  have g:¬jT y z<0:=by simpa[kD]using g
  have:=apq z y x g A;simpa[kD]using this
theorem xO(h:(Tryz.prog.funcs[f]?.bind Func.body).isSome=true):BX Tryz.prog f:=by
 cases g:Tryz.prog.funcs[f]? with
 |none=>rw[g]at h;cases h
 |some A =>
  rw[g]at h;exact⟨A,g,h,G3.names f A g⟩
instance:Inhabited dz:=⟨(0,0,0)⟩
theorem YQ:Sort.SWO (kD kT) where
 irrefl:=λx=>by have:¬kT x x<0:=λh=>apo x x h h;simpa[kD]using this
 trans:=λx y z A g=>by
  have A:kT x y<0:=by simpa[kD]using A
  have g:kT y z<0:=by simpa[kD]using g
  have:kT x z<0:=by rw[Fw]at *;omega
  simpa[kD]using this
 ntrans:=λx y z A g=>by
  have A:¬kT x y<0:=by simpa[kD]using A
  have g:¬kT y z<0:=by simpa[kD]using g
  have:=apn z y x g A;simpa[kD]using this
def mM(x y:GE):Prop:=x.f<y.f\/(x.f=y.f/\x.t<y.t)
theorem JG{x y:GE}:qp x y<0↔mM x y:=by
 unfold qp hB hB hB fO mM
 by_cases A:(x.f:Int)<y.f
 ·rw[if_pos A];simp;omega
 ·by_cases B:(y.f:Int)<x.f
  ·rw[if_neg A,if_pos B];simp;omega
  ·rw[if_neg A,if_neg B]
   by_cases g:(x.t:Int)<y.t
   ·rw[if_pos g];simp;omega
   ·by_cases C:(y.t:Int)<x.t
    ·rw[if_neg g,if_pos C];simp;omega
    ·rw[if_neg g,if_neg C];simp;omega
theorem aqz:Sort.SWO (kD qp) where
 irrefl:=λx=>by
  have:¬qp x x<0:=λh=>by rw[JG]at h;unfold mM at h;omega
  simpa[kD]using this
 trans:=λx y z A g=>by
  have A:qp x y<0:=by simpa[kD]using A
  have g:qp y z<0:=by simpa[kD]using g
  have:qp x z<0:=by rw[JG]at *;unfold mM at *;omega
  simpa[kD]using this
 ntrans:=λx y z A g=>by
  have A:¬qp x y<0:=by simpa[kD]using A
  have g:¬qp y z<0:=by simpa[kD]using g
  have:¬qp x z<0:=by rw[JG]at *;unfold mM at *;omega
  simpa[kD]using this
theorem amG:Gc Q 264 kf jT:=λx y h U=>atV.mono λ_ _ _ h=>h.1
theorem aqA:Gc Q 298 cW qp:=λx y h U=>atT.mono λ_ _ _ h=>h.1
theorem aqB:Gc Q 240 lb kT:=λx y h U=>atU.mono λ_ _ _ h=>h.1
theorem aqC{h:ae}{U b n:Nat}{l:aa dz}(g:l.length=n)(D:n<1000000)(B:b<U)(C:u h b=some (.cells (bc kf l) false)):
  aH Q s 263 [.slice (some ⟨b,0,aO⟩) n cap,.func (.func 264) #[] #[]] h U (JX kf jT l b U h):=
 O3 G3 af1 rfl (xO (by kernel_rfl)) (xO (by kernel_rfl)) YP (λw=>by kernel_rfl) (λw=>by kernel_rfl) (k:=3) (λ_=>rfl) (λ_=>rfl) (λx v A=>by simp[kf]at A;rcases A with rfl|rfl|rfl <;> rfl) amG g D B C
theorem amH{h:ae}{U:Nat}(g:K (.tuple #[]) h U):aH Q s 263 [.slice none 0 0,.func (.func 264) #[] #[]] h U K:=Yq af1 rfl (xO (by kernel_rfl)) g
theorem aqD{h:ae}{U b n:Nat}{l:aa GE}(g:l.length=n)(D:n<1000000)(B:b<U)(C:u h b=some (.cells (bc cW l) false)):
  aH Q s 297 [.slice (some ⟨b,0,aO⟩) n cap,.func (.func 298) #[] #[]] h U (JX cW qp l b U h):=
 O3 G3 af2 rfl (xO (by kernel_rfl)) (xO (by kernel_rfl)) aqz (λw=>by kernel_rfl) (λw=>by kernel_rfl) (k:=3) (λ_=>rfl) (λ_=>rfl) (λx v A=>by simp[cW]at A;rcases A with rfl|rfl|rfl <;> rfl) aqA g D B C
theorem amI{h:ae}{U:Nat}(g:K (.tuple #[]) h U):aH Q s 297 [.slice none 0 0,.func (.func 298) #[] #[]] h U K:=Yq af2 rfl (xO (by kernel_rfl)) g
theorem aqE{h:ae}{U b n:Nat}{l:aa (Int × Int)}(g:l.length=n)(D:n<1000000)(B:b<U)(C:u h b=some (.cells (bc lb l) false)):
  aH Q s 239 [.slice (some ⟨b,0,aO⟩) n cap,.func (.func 240) #[] #[]] h U (JX lb kT l b U h):=
 O3 G3 ax2 rfl (xO (by kernel_rfl)) (xO (by kernel_rfl)) YQ (λw=>by kernel_rfl) (λw=>by kernel_rfl) (k:=2) (λ_=>rfl) (λ_=>rfl) (λx v A=>by simp[lb]at A;rcases A with rfl|rfl <;> rfl) aqB g D B C
theorem Jh{k:Int}{h:ae}{U:Nat}:aH Q s 79 [(k:X),(n:X)] h U (λv ac Y=>v = .int .i64 (Dy k n)/\ac=h/\Y=U):=by refine apX ?_;unfold acC;refine aF ?_;refine⟨λA=>by simp[Dy,A],λA=>⟨λg=>by simp[Dy,g],λg=>?_⟩⟩;rw[JD J,zS];simp[Dy,A,g]
theorem rd3(g:es[i]? = some e):h0 (some 3) (i*3) (bc io es) = .ok (.agg ⟨[(e.1:X),(e.2.1:X),(e.2.2:X)]⟩):=by have A:=um (enc:=io) (k:=3) (λ_=>rfl) g;have B:=(hY.1 g).1;rw[p6,if_pos (by rw[gg (k:=3) (λ_=>rfl)];omega),A];rfl
def adb(U:Nat)(h:ae):bP:=λr ac Y=>∃(N:Nat) (v2:X) (gs:aa GE),r = .agg ⟨[(N:X),v2]⟩/\N<24/\gs.length<=60/\(∀g∈gs,hi N g)/\eH ac U Y v2 cW gs/\U<=Y/\aA U h ac
def adc(n:Int)(v:X)(es:aa hN)(N U:Nat)(h:ae)(m:Nat)(aE:aa X)(ac:ae)(Y:Nat):Prop :=
 ∃(i:Nat) (v2:X) (gs:aa GE),m=60-i/\i<=60/\aE=[bd U,.pointer (some ⟨U+1,0,none⟩),.pointer (some ⟨U+1+1,0,none⟩),(i:X)] /\
  u ac U=some (.cells [(n:X),v] false)/\u ac (U+1)=some (.cells [.int .i64 0,.slice none 0 0] false)/\u ac (U+1+1)=some (.cells [(N:X),v2] false) /\
  d5 ac v2 cW 3 gs (U+1+1+1) Y/\gs.length=i/\(∀g∈gs,hi N g)/\U+1+1+1<=Y/\aA U h ac
theorem l4{az:Type}{enc:az->aa X}(hk:∀x,(enc x).length=k)(g:∀x,ea (enc x)=true)(E:0<k){h:ae}{U ao:Nat}{v:X}{l:aa az}(aJ:d5 h v enc k l ao U)(B:ao<=U){M L A:Nat}{D:aw Nat}{P:al}(x:az)(V:u h M=some (.cells cs P))(Z:(cs.drop L).take k=enc x)(I:(l.length+1)*k<=1000000){K:X->ae->Nat->Prop}(ht:∀C ac,d5 ac C enc k (l++[x]) ao (U+1)->(∀b,b<ao->u ac b=u h b)->K C ac (U+1)):dG (dX (dT k h U v (.slice (some ⟨M,L,D⟩) 1 A))) K:=by obtain⟨C,ac,e,a,b⟩:=as0 hk g E aJ B V Z I;rw[e];exact ht _ _ a b
theorem aqF{v:X}{h:ae}{U:Nat}(aJ:cN h U v io es):aH Q s 78 [.agg ⟨[(n:X),v]⟩] h U (adb U h):=by
 refine atq ?_;obtain⟨a,cap,rfl,aZ⟩:=id aJ;unfold aey;refine aF ?_;refine Jh.mono ?_;rintro r h1 kC ⟨rfl,rfl,rfl⟩;obtain⟨N,ek,cA⟩:=JC
 rw[ek];refine aF ?_;refine bD.mk (adc n (.slice a es.length cap) es N U h) 60 ⟨0,.slice none 0 0,[],rfl,J,rfl,ab,ab,ab,.inl ab,rfl,by simp,J,aK⟩ ?_;rintro m _ ac Y ⟨i,v2,gs,rfl,aj,rfl,cv,bB,E,C,u5,P,Li,hk⟩;obtain⟨a2,bX,c2,rfl⟩:=C.form;rw[apY];unfold aau;have A:Cd s (λaE h_1 ax3=>∃bC,bC<60-i/\adc n (.slice a es.length cap) es N U h bC aE h_1 ax3)
   (λD V n18=>af (iH (some 2) V (a7 D 2)) λx65=>af (aQ V 2 (a7 D 1) x65) λZ=>af (iH (some 2) Z (a7 D 1)) λx67=>adb U h x67 Z n18) (λ_ _ _=>False)
   (bd U) (.pointer (some ⟨U+1,0,none⟩)) (.pointer (some ⟨U+1+1,0,none⟩)) (i:X) (.bool false) ac Y:=by unfold Cd;refine cL @bB @E ?_;refine⟨N,_,gs,rfl,J,J,P,C.gr.F ab J J,J,aK⟩
 refine cL @cv @E ?_;refine⟨λh1=>⟨λar=>?_,λar=>A⟩,λh1=>A⟩
 by_cases aL:(0:Int)<(N:Int)
 case neg=>rw[hl aL];exact A
 unfold Cd;obtain⟨x,a1⟩:=d1 h1;obtain⟨_,b,aO,bJ,mC,sp,L,DD⟩:=aJ.at a1;cases L;have hh:=(hk b sp).trans DD;simp(disch:=omega)only[bn,cv,E,hh,rd3 a1,g4 aL,seval];refine Jh.mono ?_;rintro r h1 kC ⟨rfl,rfl,rfl⟩;obtain⟨f,bK,sq⟩:=JC
 rw[bK];refine cL @cv @E ?_;refine Jh.mono ?_;rintro r h1 kC ⟨rfl,rfl,rfl⟩;obtain⟨t,ck,AH⟩:=JC
 rw[ck];obtain⟨w,bV,oS,Lk⟩:=apu x.2.2;refine Gf @cv @E @aam @bV ?_;refine l4 (enc:=cW)  (λ_=>rfl) (λ_=>rfl) J (C.F ab J) J ⟨f,t,w⟩ (aS _ _ _) rfl (by omega) ?_;intro v3 aL M B;obtain⟨a3,bS,ci,rfl⟩:=M.form;simp(disch:=omega)only[bn,B (U+1+1) J,B (U+1) J,B U J,E,cG (J:i<1000000000000),seval];refine⟨J,60-(i+1),J,i+1,_,gs++[⟨f,t,w⟩],rfl,J,rfl,?_,?_,ab,M.F ab J,ab,?_,J,?_⟩
 ·grind
 ·grind
 ·intro g I;rcases hb.1 I with I|I
  ·exact P g I
  ·rw[iP.1 I];exact⟨(by omega:f<N),(by omega:t<N),oS,Lk⟩
 ·intro b aT;rw[aq J,B b J,aq J,aq J,aq J];exact hk b aT
def aeQ(R C:Int)(U:Nat)(h:ae):bP:=λr ac Y=>∃(N sM:Nat) (k3 rM:Int) (v2:X) (gs:aa GE),r = .tuple ⟨[.agg ⟨[(N:X),v2]⟩,(sM:X),(k3:X),(rM:X)]⟩/\0<N/\N<24/\sM<N/\gs.length<=60/\(∀g∈gs,hi N g)/\eH ac U Y v2 cW gs/\U<=Y/\aA U h ac/\(0<=R->R<=255->1<=k3/\k3<=4)/\(0<=C->C<=255->1<=rM/\rM<=4)
theorem af3{R:Int}(g:0<=R)(A:R<=255):1<=IntKind.wrap .i64 ((IntKind.wrap .i64 R).tmod 4+1)/\IntKind.wrap .i64 ((IntKind.wrap .i64 R).tmod 4+1)<=4:=by rw[CK g J,Int.tmod_eq_emod_of_nonneg g,CK J J];omega
theorem atW{V R C:Int}{v:X}{h:ae}{U:Nat}(aJ:cN h U v io es):aH Q s 15 [.agg ⟨[(n:X),v,(V:X),.int .u8 R,.int .u8 C]⟩] h U (aeQ R C U h):=by
 refine avZ ?_;obtain⟨a,cap,rfl,aZ⟩:=id aJ;unfold make;refine aF ?_;refine(aqF (aJ.F aK J)).mono ?_;rintro r E A ⟨N,v2,B,rfl,ek,D,Z,kW,dR,hk⟩;obtain⟨a2,c2,rfl,qu⟩:=id kW;have cv:=hk U J;have bB:=hk (U+1) J;rw[aq J,aS]at cv;rw[aS]at bB;have fin:∀(M:Nat) (ac:ae) (a2:aw Addr) (B:aa GE) (c2:Nat),eH E (U+1+1) A (.slice a2 B.length c2) cW B->B.length<=60->0<M->M<24->u ac A=some (.cells [(M:X),.slice a2 B.length c2] false)->u ac U=some (.cells [(n:X),.slice a es.length cap,(V:X),.int .u8 R,.int .u8 C] false)->u ac (U+1)=some (.cells [.int .i64 0,.slice none 0 0] false)->(∀g∈B,hi M g) ->
   (∀b,U+1+1<=b->b<A->u ac b=u E b)->(∀b,b<U->u ac b=u E b)->J1 s (aeQ R C U h) (bd U) (.pointer (some ⟨U+1,0,none⟩)) (bd A) ac (A+1):=by
  intro M ac a2 B c2 kW D G7 hV aV aP ch P tz hkl;unfold J1;refine hK @aV @aP @ch ?_;refine Jh.mono ?_;rintro r ar nk ⟨rfl,rfl,rfl⟩;obtain⟨f,bK,sq⟩:=JC
  rw[bK];refine k7 @aV @aP @ch @JD ?_;refine⟨M,f,_,_,_,B,rfl,G7,hV,J,D,P,kW.F ab J J,J,λb aT=>?_,λI E=>af3 I E,λI E=>af3 I E⟩;rw[aq J,hkl b aT,hk b J,aq J,aq J]
 refine aF ?_;refine⟨λI=>?_,λI=>?_⟩
 ·have L:N=0:=ab
  subst L;refine fin 1 _ none [] 0 ⟨none,0,rfl,λh=>absurd rfl h⟩ (by simp) J J ab ?_ ?_ (λg a6=>by cases a6) ?_ ?_
  all_goals grind
 ·have L:N≠0:=ab
  refine fin N _ a2 B c2 kW D J ek ab ?_ ?_ Z ?_ ?_
  all_goals grind
def ft{az:Type}(h:ae)(U:Nat)(v:X)(enc:az->aa X)(l:aa az):Prop :=
 ∃a cap,v = .slice a l.length cap/\(l≠[]->∃b aO bJ cs,b<U/\a=some ⟨b,0,aO⟩/\u h b=some (.cells (bc enc l++cs) bJ))
section
variable {az:Type} {h ac:ae} {U Y:Nat} {v:X} {enc:az->aa X} {l:aa az}
theorem ft.F(M:ft h U v enc l)(L:aA U h ac)(D:U<=Y):ft ac Y v enc l:=by obtain⟨a,cap,I,C⟩:=M;refine⟨a,cap,I,λg=>?_⟩;obtain⟨b,aO,B,cs,A,E,P⟩:=C g;exact⟨b,aO,B,cs,J,E,by rw[L b A];omega⟩
theorem ft.of(I:cN h U v enc l):ft h U v enc l:=by obtain⟨a,cap,E,C⟩:=I;refine⟨a,cap,E,λg=>?_⟩;obtain⟨b,aO,B,A,D,L⟩:=C g;exact⟨b,aO,B,[],A,D,ab⟩
theorem ft.at(B:ft h U v enc l){x:az}(D:l[i]? = some x):
  i<l.length/\∃b aO g cap cs,b<U/\v = .slice (some ⟨b,0,aO⟩) l.length cap/\u h b=some (.cells (bc enc l++cs) g):=by
 obtain⟨a,cap,I,A⟩:=B;obtain⟨b,aO,g,cs,C,rfl,E⟩:=A ab
 grind
theorem yA(g:∀x,(enc x).length=k){e:az}(B:l[i]? = some e):h0 (some k) (i*k) (bc enc l++cs) = .ok (.agg ⟨enc e⟩):=by
 have A:=um  g B;have D:=gg  g (l:=l);have C:(i+1)*k<=l.length*k:=ab
 rw[ze,ub]at C;rw[p6,if_pos ab,Ie J,If ab,A]
end
def ya(n:Int)(e:hN):Prop:=e.1<0\/n<=e.1\/e.2.1<0\/n<=e.2.1
def C8(e:hN):Prop:=e.2.2<0\/2147483647<e.2.2
instance (n:Int) (e:hN):Decidable (ya n e):=inferInstanceAs (Decidable (_\/_))
instance (e:hN):Decidable (C8 e):=inferInstanceAs (Decidable (_\/_))
def FV(n:Int)(es:aa hN):Prop:=0<=n/\n<=4096/\es.length<=65536/\(∀e∈es,¬ya n e)/\∀e∈es,¬C8 e
def ax4{az:Type}(p:az->al)(es:aa az)(eB:ae->Nat->Prop)(v qI:X)(m:Nat)(aE:aa X)(ac:ae)(Y:Nat):Prop:=∃i,m=es.length-i/\i<=es.length/\aE=[v,qI,.int .i64 0,(es.length:X),(i:X)]/\eB ac Y/\∀x∈es.take i,p x=false
theorem aqG{az:Type}{enc:az->aa X}(M:∀x,(enc x).length=3){v:X}{es:aa az}{h:ae}{U:Nat}(p:az->al)(eB:ae->Nat->Prop)(Z:∀ac Y,eB ac Y->ft ac Y v enc es)(au:eB h U)(bb:es.length<=65536)(bK:∀g∈es,∀ac Y (K:bP),eB ac Y->(∀(b:al) L A,b=p g->eB L A->K (.bool b) L A)->fc Q s (hJ ac Y [.agg ⟨enc g⟩] qI) K):
  aH Q s 255 [v,qI] h U (λr ac Y=>eB ac Y/\((r = .int .i64 (-1)/\∀x∈es,p x=false)\/∃(i:Nat) (x:az),r = (i:X)/\es[i]? = some x/\p x=true/\∀y∈es.take i,p y=false)):=by
 refine atu ?_;unfold index;obtain⟨a,cap,rfl,aZ⟩:=id (Z _ _ au);refine aF ?_;refine bD.mk (ax4 p es eB (.slice a es.length cap) qI) es.length ⟨0,J,J,rfl,au,by simp⟩ ?_;rintro m _ ac Y ⟨i,rfl,aj,rfl,P,I⟩;rw[ap1];unfold aaw;refine aF ?_;refine⟨λV=>?_,λV=>?_⟩
 ·obtain⟨x,E⟩:=d1 V;obtain⟨_,b,aO,bJ,mC,cs,sp,B,D⟩:=(Z _ _ P).at E;cases B;simp(disch:=omega)only[bn,D,yA   M E,seval];refine bK x ab ac Y _ P (λcd L A aT C=>?_);subst aT;refine bg (cG (J:i<1000000000000)) ?_;refine⟨λbk=>⟨C,ab⟩,λbk=>⟨es.length-(i+1),J,i+1,rfl,V,rfl,C,λy ce=>?_⟩⟩;rw[hx,E]at ce
  grind
 ·have:i=es.length:=J
  subst this;rw[iQ]at I;exact⟨P,ab⟩
theorem aaW{v:X}{h:ae}{U:Nat}(p:hN->al)(aJ:ft h U v io es)(L:es.length<=65536)(bK:∀g∈es,∀ac Y (K:bP),aA U h ac->U<=Y->(∀(b:al) B A,b=p g->aA Y ac B->Y<=A->K (.bool b) B A)->fc Q s (hJ ac Y [.agg ⟨io g⟩] qI) K):
  aH Q s 164 [v,qI] h U (λr ac Y=>r = .bool (es.any p)/\aA U h ac/\U<=Y):=by
 refine att ?_;refine(aqG  (λ_=>rfl) p (λac Y=>aA U h ac/\U<=Y) (λac Y D=>aJ.F D.1 D.2) aK L (λg Z ac Y K I ht=>bK g Z ac Y K I.1 I.2 (λb B A M ei E=>ht b B A M aK))).mono ?_;rintro r ac Y ⟨⟨hk,C⟩,⟨rfl,u0⟩|⟨i,x,rfl,P,V,_⟩⟩
 ·refine aF ?_;exact aK
 ·refine aF ?_;exact⟨by rw[xk.2 ⟨x,k4 P,V⟩];simp,hk,C⟩
def yb(n:Int)(e:hN):al:=(decide (e.1<0)||!decide (e.1<n))||(decide (e.2.1<0)||!decide (e.2.1<n))
theorem YR:yb n e=true↔ya n e:=by
 unfold yb ya
 grind
def C9(e:hN):al:=decide (e.2.2<0)||decide (2147483647<e.2.2)
theorem YS:C9 e=true↔C8 e:=by
 unfold C9 C8
 grind
def nl(e:hN):GE:=⟨e.1.toNat,e.2.1.toNat,e.2.2⟩
theorem FV.ges(h:FV n es):∃N:Nat,n=(N:Int)/\N<=4096/\bc io es=bc cW (es.map nl)/\∀g∈es.map nl,hi N g:=by
 obtain⟨h1,V,Z,M,C⟩:=h;refine⟨n.toNat,J,J,?_,λg L=>?_⟩
 ·have:∀l:aa hN,(∀e∈l,¬ya n e)->bc io l=bc cW (l.map nl):=by
   intro l
   induction l with
   |nil=>intro _;rfl
   |cons x l E =>
    intro B;show io x++bc io l=cW (nl x)++bc cW (l.map nl);have I:=B x (nI ..);unfold ya at I;rw[E (λe A=>B e (mx _ A))]
    congr 1
    unfold io cW nl
    grind
  grind
 ·obtain⟨e,A,rfl⟩:=f0.1 L;have D:=M e A;have P:=C e A;unfold ya at D;unfold C8 at P;refine⟨?_,?_,?_,?_⟩
  ·show e.1.toNat<n.toNat;omega
  ·show e.2.1.toNat<n.toNat;omega
  ·show 0<=e.2.2;omega
  ·show e.2.2<=2147483647;omega
theorem ft.map{h:ae}{U:Nat}{v:X}{es:aa hN}(A:ft h U v io es)(e:bc io es=bc cW (es.map nl)):ft h U v cW (es.map nl):=by
 obtain⟨a,cap,L,g⟩:=A;refine⟨a,cap,ab,λB=>?_⟩;obtain⟨b,aO,D,cs,C,I,E⟩:=g ab
 grind
theorem wrG{h:ae}{b:Nat}{m:aa GE}{x:GE}(g:i<m.length):jY (some (.cells (bc cW m) false)) h b (i*3) [(x.f:X),(x.t:X),(x.w:X)] = .ok (T h b (.cells (bc cW (m.set i x)) false)):=by show R.of _ (m9 (cW x) (bc cW m) (i*3)) _=_;rw[alG (k:=3) (λ_=>rfl) x g];rfl
theorem DE{az:Type}{enc:az->aa X}{l:aa az}(A:∀x,(enc x).length=k){e:az}(g:l[i]? = some e):h0 (some k) (i*k) (bc enc l) = .ok (.agg ⟨enc e⟩):=by
 have:=yA A g (cs:=[])
 grind
def ee(g:GE):dz:=((g.f:Int),(g.t:Int),g.w)
def Bd(x:dz):GE:=⟨x.1.toNat,x.2.1.toNat,x.2.2⟩
theorem JH:∀l:aa GE,bc cW l=bc kf (l.map ee)
 | []=>rfl
 |x::l=>by show cW x++bc cW l=kf (ee x)++bc kf (l.map ee);rw[JH l];rfl
theorem NO(g:0<=n)(A:n<2147483648):Cp n=true:=by
 obtain⟨m,rfl⟩:=By g;show Nat.blt m 2147483648=true;rw[ov]
 grind
theorem YT{N:Nat}{g:GE}(A:N<=2147483648)(h:hi N g):lB (ee g):=⟨NO (by show(0:Int)<=(g.f:Int);omega) (by have:=h.1;show((g.f:Int))<_;omega),NO (by show(0:Int)<=(g.t:Int);omega) (by have:=h.2.1;show((g.t:Int))<_;omega),NO h.2.2.1 (by have:=h.2.2.2;show g.w<_;omega)⟩
def Ends(x y:dz):Prop:=x.1=y.1/\x.2.1=y.2.1
theorem Wm(e:dz):∀(l:aa dz),(∀x∈im e l,∃y∈e::l,Ends x y)/\∀y∈e::l,∃x∈im e l,Ends x y
 | []=>⟨λx A=>⟨x,A,rfl,rfl⟩,λy g=>⟨y,g,rfl,rfl⟩⟩
 |z::l=>by
  obtain⟨I,D⟩:=Wm e l;have E:im e (z::l)=(bif fz z.1 e.1&&fz z.2.1 e.2.1 then(z.1,z.2.1,bif la e.2.2 z.2.2 then e.2.2 else z.2.2)::l else z::im e l):=rfl;rw[E];cases C:(fz z.1 e.1&&fz z.2.1 e.2.1)with
  |true =>
   simp only[eC,kN,uc]at C;simp only[p5];refine⟨λx A=>?_,λy g=>?_⟩
   ·rcases g5.1 A with rfl|A
    ·exact⟨z,by simp,rfl,rfl⟩
    ·exact⟨x,ab,rfl,rfl⟩
   ·rcases g5.1 g with rfl|g
    ·exact⟨_,nI ..,C.1,C.2⟩
    ·rcases g5.1 g with rfl|g
     ·exact⟨_,nI ..,rfl,rfl⟩
     ·exact⟨y,ab,rfl,rfl⟩
  |false =>
   simp only[my];refine⟨λx A=>?_,λy g=>?_⟩
   ·rcases g5.1 A with rfl|A
    ·exact⟨x,by simp,rfl,rfl⟩
    ·obtain⟨y,g,B⟩:=I x A;refine⟨y,?_,B⟩
     grind
   ·rcases g5.1 g with rfl|g
    ·obtain⟨x,A,B⟩:=D y ab;exact⟨x,ab,B⟩
    ·rcases g5.1 g with rfl|g
     ·exact⟨y,ab,rfl,rfl⟩
     ·obtain⟨x,A,B⟩:=D y ab;exact⟨x,ab,B⟩
theorem Wn:∀(l g:aa dz),(∀x∈h2 g l,∃y∈g++l,Ends x y)/\∀y∈g++l,∃x∈h2 g l,Ends x y
 | [],g=>⟨λx E=>⟨x,by simpa[h2]using E,rfl,rfl⟩,λy A=>⟨y,by simpa[h2]using A,rfl,rfl⟩⟩
 |e::l,g=>by
  obtain⟨h1,L⟩:=Wn l (im e g);obtain⟨V,Z⟩:=Wm e g;refine⟨λx E=>?_,λy A=>?_⟩
  ·obtain⟨y,A,C⟩:=h1 x E;rcases hb.1 A with A|A
   ·obtain⟨z,M,B⟩:=V y A;refine⟨z,?_,C.1.trans B.1,C.2.trans B.2⟩
    grind
   ·exact⟨y,ab,C⟩
  ·have D:∀z∈e::g,∃x∈h2 (im e g) l,Ends x z:=λz M=>by obtain⟨x,E,C⟩:=Z z M;obtain⟨P,I,B⟩:=L x ab;exact⟨P,I,B.1.trans C.1,B.2.trans C.2⟩
   rcases hb.1 A with A|A
   ·exact D y ab
   ·rcases g5.1 A with rfl|A
    ·exact D _ ab
    ·exact L y ab
end Go.Proofs.YthlhhajnbgjfmaaGreat
