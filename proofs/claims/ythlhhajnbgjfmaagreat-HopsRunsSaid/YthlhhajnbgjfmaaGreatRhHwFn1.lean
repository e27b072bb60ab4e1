/- Parts of the proof: HwFn1: each statement bears its own conditions. -/
import Derived.Test.YthlhhajnbgjfmaaGreatProg
import Derived.KernelRfl
import Derived.Shelf.SlGeneric
import Derived.Test.YthlhhajnbgjfmaaGreatRhHw2
namespace Go.Proofs.YthlhhajnbgjfmaaGreat
open Go Go.Ax Go.Shelf Go.Proofs
set_option maxRecDepth 1000000
theorem mixed:Tryz.prog.follows .mixedOrders=true:=by kernel_rfl
theorem auq:Tryz.prog.funcs.toList.all Gd=true:=by kernel_rfl
theorem HO:pQ Tryz.prog:=pQ.of mixed auq
set_option linter.all false
set_option maxHeartbeats 1000000
variable {s:al} {N R:aP} {aC:X} {aE:aP} {aB a2 a6 bm aZ:X} {n:Int} {es:aa iy} {a3:X} {x a b:Int} {f:Nat} {br bt:X} {aS:aw Nat} {dI hf d3:X} {r:Int} {i:Nat} {k5 i3:X} {cs:aa X} {cap:Nat} {aK:aP} {e:iy} {e5 kK ls dk ge:X} {k:Nat} {K:bR} {c7 qW:X} {aW:aP} {y:Int}
theorem u28:Tryz.prog.underlying 53=some (.array 2 3):=by kernel_rfl
theorem zq:Tryz.prog.underlying 3=some (.int .i64):=by kernel_rfl
theorem k28:Tryz.prog.keyTypeAt 8 53=true:=by kernel_rfl
theorem c28:Tryz.prog.cellsOf 53=2:=by kernel_rfl
theorem b8:Tryz.prog.cellsOf 3=1:=by kernel_rfl
theorem Ra{k:IntKind}(g:k = .i64\/k = .u64){m:Nat}(h:m<4294967296):(Lit.int k (m:Int)).wf=true:=by
 rcases g with rfl|rfl <;> simp[Lit.wf,IntKind.min,IntKind.max,IntKind.bits,IntKind.signed] <;> omega
theorem adw{a b:Nat}(D:a<2147483648)(C:b<2147483648):Tryz.prog.keyLits 8 53 [.int .i64 (a:Int),.int .i64 (b:Int)]=some [.int .i64 (a:Int),.int .i64 (b:Int)]:=by
 have E:=Ra (k:=.i64) (.inl rfl) (J:a<4294967296)
 have B:=Ra (k:=.i64) (.inl rfl) (J:b<4294967296)
 have g:∀m:Nat,m<4294967296->Tryz.prog.keyLits 7 3 [.int .i64 (m:Int)]=some [.int .i64 (m:Int)]:=λm A=>by unfold Program.keyLits;simp only[zq,Ra (k:=.i64) (.inl rfl) A,uG,if_true]
 unfold Program.keyLits;simp only[u28,c28,b8,mb,E5,Nat.reduceAdd,if_true];rw[show List.range 2=[0,1]from rfl];simp only[Cf,List.mapM_nil,mc,uD,pk,NH,E0,tf,g a J,g b J];rfl
theorem Rb:K1 Tryz.prog 53:=λx y L P=>by
 obtain⟨a,b,c⟩:=x;obtain⟨d,e,f⟩:=y;obtain⟨A,M,ap⟩:=uK L.1;obtain⟨g,V,bc⟩:=uK L.2.1;obtain⟨C,E,cy⟩:=uK P.1;obtain⟨B,D,Z⟩:=uK P.2.1;simp only at M V E D;subst M V E D;show sB Tryz.prog 53 (.agg ⟨[(A:X),(g:X)]⟩) (.agg ⟨[(C:X),(B:X)]⟩)=_;have I:∀a b:Int,(Value.agg ⟨[.int .i64 a,.int .i64 b]⟩).formed Tryz.prog 53=true:=λa b=>by simp[Value.formed,u28,c28]
 unfold sB;rw[k28,I,I];show(bif true&&(true&&true&&true&&true)then LO (Tryz.prog.keyLits 8 53 [.int .i64 (A:Int),.int .i64 (g:Int)]) (Tryz.prog.keyLits 8 53 [.int .i64 (C:Int),.int .i64 (B:Int)])else none)=_;rw[adw ap bc,adw cy Z];show some ((mm .i64 .i64&&f2 A C)&&((mm .i64 .i64&&f2 g B)&&true))=some (f2 C A&&f2 B g);rw[wg,kT,kT,kT,kT]
 congr 1
 simp only[Bool.true_and,Bool.and_true];rw[Bool.beq_comm (a:=(A:Int)),Bool.beq_comm (a:=(g:Int))]
def TK:Field:={ name := "Hi",type:=2,offset:=0,embedded:=false,tag := "",pkgPath := "",byteOffset:=0 }
def TL:Field:={ name := "Lo",type:=188,offset:=1,embedded:=false,tag := "",pkgPath := "",byteOffset:=8 }
theorem agO:Tryz.prog.underlying 272=some (.struct #[TK,TL]):=by kernel_rfl
theorem Ey:Tryz.prog.underlying 2=some (.int .i64):=by kernel_rfl
theorem azg:Tryz.prog.underlying 188=some (.int .u64):=by kernel_rfl
theorem azh:Tryz.prog.keyTypeAt 8 272=true:=by kernel_rfl
theorem axd:F5 Tryz.prog 272=true:=by kernel_rfl
theorem agP:Tryz.prog.cellsOf 272=2:=by kernel_rfl
theorem c2:Tryz.prog.cellsOf 2=1:=by kernel_rfl
theorem azi:Tryz.prog.cellsOf 188=1:=by kernel_rfl
def dJ(v:X)(U:Nat)(h:ae):bR:=λr ac Y=>r=v/\aA U h ac/\U<=Y
abbrev fr(v:X)(U:Nat)(h:ae):bR:=λr ac Y=>r=v/\ac=h/\Y=U
theorem adx:IntKind.wrap .i64 n=(if n % 18446744073709551616≥9223372036854775808 then n % 18446744073709551616-18446744073709551616 else n % 18446744073709551616):=by simp only[IntKind.wrap,IntKind.signed,IntKind.bits];simp
noncomputable abbrev Q:Program:=Tryz.prog
instance:Inhabited GE:=⟨⟨0,0,0⟩⟩
def qD(x y:GE):Int:=hG [fR (x.f:Int) (y.f:Int),fR (x.t:Int) (y.t:Int)]
theorem l1:pQ Q:=HO
def ax(h:ae)(n:Nat)(x:X)(k:X->Prop):Prop:=af (Av n x) λd=>af (iM none h d) k
def i5(m:Nat)(h:ae)(n:Nat)(x:X)(k:X->Prop):Prop:=af (Av n x) λd=>af (iM (some m) h d) k
def dL(h:ae)(n:Nat)(x i:X)(k:X->Prop):Prop:=af (im (.slice n) x i) λd=>af (iM none h d) k
def hw(m:Nat)(h:ae)(n:Nat)(x i:X)(k:X->Prop):Prop:=af (im (.slice n) x i) λd=>af (iM (some m) h d) k
def bw(o:BinOp)(t:TypeId)(a b:X)(p q:Prop):Prop:=af (bin Q o t a b) λv=>bu v p q
def lA(a:X)(p q:Prop):Prop:=af (bin Q .neq 30 a (.int .i64 0)) λv=>bu v p q
def cF(a b:X)(p q:Prop):Prop:=af (bin Q .lss 3 a b) λv=>bu v p q
def kd(a b:X)(p q:Prop):Prop:=af (bin Q .gtr 3 a b) λv=>bu v p q
def b9(a:X)(k:X->Prop):Prop:=af (bin Q .add 3 a (.int .i64 1)) k
def lB(a b:X)(k:X->Prop):Prop:=af (bin Q .add 3 a b) k
abbrev Vv:=al->ae->Nat->bR->Prop
abbrev aB3(f:Nat)(er:Vv):=∀{s  h U K},er s  h U K->aH Q s f [] h U K
theorem zf0{g:Vv}(L:aa (aa Nat))(e:∀s  h U K,oo Q s L f [] h U K=g s  h U K:=by intros;kernel_rfl):aB3 f g:=λw=>aH.Bg l1 L w (e _ _ _ _)
abbrev cS:=al->X->ae->Nat->bR->Prop
abbrev cT(f:Nat)(er:cS):=∀{s ah h U K},er s ah h U K->aH Q s f [ah] h U K
theorem cV{g:cS}(L:aa (aa Nat))(e:∀s A h U K,oo Q s L f [A] h U K=g s A h U K:=by intros;kernel_rfl):cT f g:=λw=>aH.Bg l1 L w (e _ _ _ _ _)
abbrev c0:=al->X->X->ae->Nat->bR->Prop
abbrev c4(f:Nat)(er:c0):=∀{s ah t1 h U K},er s ah t1 h U K->aH Q s f [ah,t1] h U K
theorem c5{g:c0}(L:aa (aa Nat))(e:∀s A B h U K,oo Q s L f [A,B] h U K=g s A B h U K:=by intros;kernel_rfl):c4 f g:=λw=>aH.Bg l1 L w (e _ _ _ _ _ _)
abbrev gv:=al->X->X->X->ae->Nat->bR->Prop
abbrev gF(f:Nat)(er:gv):=∀{s ah t1 t2 h U K},er s ah t1 t2 h U K->aH Q s f [ah,t1,t2] h U K
theorem gL{g:gv}(L:aa (aa Nat))(e:∀s A B C h U K,oo Q s L f [A,B,C] h U K=g s A B C h U K:=by intros;kernel_rfl):gF f g:=λw=>aH.Bg l1 L w (e _ _ _ _ _ _ _)
abbrev s2:=al->X->X->X->X->ae->Nat->bR->Prop
abbrev uo(f:Nat)(er:s2):=∀{s ah t1 t2 t3 h U K},er s ah t1 t2 t3 h U K->aH Q s f [ah,t1,t2,t3] h U K
theorem vw{g:s2}(L:aa (aa Nat))(e:∀s A D C B h U K,oo Q s L f [A,D,C,B] h U K=g s A D C B h U K:=by intros;kernel_rfl):uo f g:=λw=>aH.Bg l1 L w (e _ _ _ _ _ _ _ _)
abbrev xv:=al->X->X->X->X->X->ae->Nat->bR->Prop
abbrev zr(f:Nat)(er:xv):=∀{s ah t1 t2 t3 fY h U K},er s ah t1 t2 t3 fY h U K->aH Q s f [ah,t1,t2,t3,fY] h U K
theorem Bm{g:xv}(L:aa (aa Nat))(e:∀s B E D C A h U K,oo Q s L f [B,E,D,C,A] h U K=g s B E D C A h U K:=by intros;kernel_rfl):zr f g:=λw=>aH.Bg l1 L w (e _ _ _ _ _ _ _ _ _)
abbrev Nd:=al->X->X->X->X->X->X->ae->Nat->bR->Prop
abbrev Vw(f:Nat)(er:Nd):=∀{s ah t1 t2 t3 fY s3 h U K},er s ah t1 t2 t3 fY s3 h U K->aH Q s f [ah,t1,t2,t3,fY,s3] h U K
theorem zf6{g:Nd}(L:aa (aa Nat))(e:∀s B I D C A E h U K,oo Q s L f [B,I,D,C,A,E] h U K=g s B I D C A E h U K:=by intros;kernel_rfl):Vw f g:=λw=>aH.Bg l1 L w (e _ _ _ _ _ _ _ _ _ _)
def bH(o:BinOp)(t:TypeId)(a b:X)(k:X->Prop):Prop:=af (bin Q o t a b) k
def aX(s:al)(f:Nat)(l:aa X)(h:ae)(n:Nat)(k:bR):Prop:=aH Q s f l h n k
def b6(f:Nat)(l:aa X)(h:ae)(n:Nat)(k:bR):Prop:=aH Q true f l h n λv ac jR=>n<=jR/\k v ac jR
def bl:=And.intro @Vt (And.intro @bH.eq_1 (And.intro @bo.eq_1 (And.intro @bS.eq_1 (And.intro @aR.eq_1 (And.intro @hJ.eq_1 (And.intro @cO.eq_1 (And.intro @b6.eq_1 (And.intro @cZ.eq_1 (And.intro @aX.eq_1 (And.intro @bI.eq_1 (And.intro @b1.eq_1 (And.intro @jl.eq_1 (And.intro @ad.eq_1 (And.intro @ay.eq_1 (And.intro @ax.eq_1 (And.intro @i5.eq_1 (And.intro @dL.eq_1 (And.intro @hw.eq_1 (And.intro @bw.eq_1 (And.intro @lA.eq_1 (And.intro @cF.eq_1 (And.intro @kd.eq_1 (And.intro @b9.eq_1 @lB.eq_1)))))))))))))))))))))))
theorem ng{p q:Prop}(h:q)(e:q->p:=by intro  h;simp(config:={maxSteps:=1000000})(disch:=omega)only[bl,↓reduceIte,Nat.reduceAdd,Nat.reduceSub,Nat.reduceMul,Nat.reduceLT,Nat.reduceLeDiff,Nat.reduceEqDiff,Int.reduceBEq,Int.reduceLT,Int.reduceNeg];exact h):p:=e  h
theorem mf{p q g:Prop}(aC:g)(h:q)(e:g->q->p:=by intro aC h;simp(config:={maxSteps:=1000000})(disch:=omega)only[bl,↓reduceIte,Nat.reduceAdd,Nat.reduceSub,Nat.reduceMul,Nat.reduceLT,Nat.reduceLeDiff,Nat.reduceEqDiff,Int.reduceBEq,Int.reduceLT,Int.reduceNeg,aC];exact h):p:=e aC h
theorem tA{p q A g:Prop}(aC:A)(aB:g)(h:q)(e:A->g->q->p:=by intro aC aB h;simp(config:={maxSteps:=1000000})(disch:=omega)only[bl,↓reduceIte,Nat.reduceAdd,Nat.reduceSub,Nat.reduceMul,Nat.reduceLT,Nat.reduceLeDiff,Nat.reduceEqDiff,Int.reduceBEq,Int.reduceLT,Int.reduceNeg,aC,aB];exact h):p:=e aC aB h
theorem RX{p q A g B:Prop}(aC:A)(aB:g)(a2:B)(h:q)(e:A->g->B->q->p:=by intro aC aB a2 h;simp(config:={maxSteps:=1000000})(disch:=omega)only[bl,↓reduceIte,Nat.reduceAdd,Nat.reduceSub,Nat.reduceMul,Nat.reduceLT,Nat.reduceLeDiff,Nat.reduceEqDiff,Int.reduceBEq,Int.reduceLT,Int.reduceNeg,aC,aB,a2];exact h):p:=e aC aB a2 h
theorem G0{p q A g C B:Prop}(aC:A)(aB:g)(a2:C)(a3:B)(h:q)(e:A->g->C->B->q->p:=by intro aC aB a2 a3 h;simp(config:={maxSteps:=1000000})(disch:=omega)only[bl,↓reduceIte,Nat.reduceAdd,Nat.reduceSub,Nat.reduceMul,Nat.reduceLT,Nat.reduceLeDiff,Nat.reduceEqDiff,Int.reduceBEq,Int.reduceLT,Int.reduceNeg,aC,aB,a2,a3];exact h):p:=e aC aB a2 a3 h
theorem RY{p q A B C D g:Prop}(aC:A)(aB:B)(a2:C)(a3:D)(aZ:g)(h:q)(e:A->B->C->D->g->q->p:=by intro aC aB a2 a3 aZ h;simp(config:={maxSteps:=1000000})(disch:=omega)only[bl,↓reduceIte,Nat.reduceAdd,Nat.reduceSub,Nat.reduceMul,Nat.reduceLT,Nat.reduceLeDiff,Nat.reduceEqDiff,Int.reduceBEq,Int.reduceLT,Int.reduceNeg,aC,aB,a2,a3,aZ];exact h):p:=e aC aB a2 a3 aZ h
theorem aD{p q:Prop}(h:q)(e:q->p:=by intro  h;simp(config:={maxSteps:=1000000})(disch:=omega)only[bl,seval];exact h):p:=e  h
theorem bh{p q g:Prop}(aC:g)(h:q)(e:g->q->p:=by intro aC h;simp(config:={maxSteps:=1000000})(disch:=omega)only[bl,aC,seval];exact h):p:=e aC h
theorem cQ{p q A g:Prop}(aC:A)(aB:g)(h:q)(e:A->g->q->p:=by intro aC aB h;simp(config:={maxSteps:=1000000})(disch:=omega)only[bl,aC,aB,seval];exact h):p:=e aC aB h
theorem hx{p q A g B:Prop}(aC:A)(aB:g)(a2:B)(h:q)(e:A->g->B->q->p:=by intro aC aB a2 h;simp(config:={maxSteps:=1000000})(disch:=omega)only[bl,aC,aB,a2,seval];exact h):p:=e aC aB a2 h
theorem lh{p q A g C B:Prop}(aC:A)(aB:g)(a2:C)(a3:B)(h:q)(e:A->g->C->B->q->p:=by intro aC aB a2 a3 h;simp(config:={maxSteps:=1000000})(disch:=omega)only[bl,aC,aB,a2,a3,seval];exact h):p:=e aC aB a2 a3 h
theorem u5{p q A B C D g:Prop}(aC:A)(aB:B)(a2:C)(a3:D)(aZ:g)(h:q)(e:A->B->C->D->g->q->p:=by intro aC aB a2 a3 aZ h;simp(config:={maxSteps:=1000000})(disch:=omega)only[bl,aC,aB,a2,a3,aZ,seval];exact h):p:=e aC aB a2 a3 aZ h
theorem AA{p q A B C E g D:Prop}(aC:A)(aB:B)(a2:C)(a3:E)(aZ:g)(bt:D)(h:q)(e:A->B->C->E->g->D->q->p:=by intro aC aB a2 a3 aZ bt h;simp(config:={maxSteps:=1000000})(disch:=omega)only[bl,aC,aB,a2,a3,aZ,bt,seval];exact h):p:=e aC aB a2 a3 aZ bt h
def ady:c0:=λs ah t1 h U K=>cF t1 (ad 1) (K (ad 0) h U) (cF ah (ad 0) (K (ad 0) h U) (bH .rem 3 ah t1 λc=>K c h U))
theorem aqR:c4 79 ady:=c5 []
def Rc:aa (aa Nat):=[[1,2,3,4]]
def CE(s:al)(N:aP)(aE:aP)(R:aP)(cB cE cg df TM:X)(au:ae)(a4:Nat):Prop:=bu TM (ax au 1 cB λb=>hw 3 au 3 b df λd=>b1 [(ad 0),(ad 0),(ad 0)] au a4 λe f g=>af (aU f 3 e d) λi=>ax i 0 e λk=>ax i 0 cg λm=>b6 79 [k,m] i g λn o p=>bo 1 e λq=>bS o q λr=>cZ q r (bo 0 cg λt=>bS o t λaI=>cZ t aI (b6 79 [r,aI] o p λv w x=>bo 1 cg λy=>bS w y λz=>cZ y z (bo 2 e λbD=>bS w bD λbU=>cZ bD bU (bH .and 2 bU (ad 2147483647) λbL=>af (cU [(ad 0),(ad 0),(ad 0)] [(0,1,n),(1,1,v),(2,1,bL)]) λbk=>dS (eV 1 [(ad 0),(ad 0),(ad 0)] [(0,3,bk)]) w x λbV ca bO=>dD (dU (dM 3 ca bO z bV)) λcM cG ds=>bO<=ds/\bo 1 cg λdh=>af (aU cG 1 dh cM) λey=>b9 df λam=>N [cB,cE,cg,am] ey ds) 2 [o,i]) 2 [o,i]) 1 [i]) 1 [i]) (aE [cB,cE,cg,df] au a4)
def abl(s:al)(aB a2 a3 aZ:X)(h:ae)(U:Nat)(N:aP)(aE:aP)(R:aP):Prop:=ax h 1 aB λb=>cO b λc=>cF aZ c (cF aZ (ad 60) (ax h 0 a3 λg=>bH .gtr 3 g (ad 0) λi=>(CE s N aE R aB a2 a3 aZ i h U)) (CE s N aE R aB a2 a3 aZ (.bool false) h U)) (CE s N aE R aB a2 a3 aZ (.bool false) h U)
def aft:cS:=λs ah h U K=>bI ah h U λa b c=>b1 [(ad 0),ay] b c λd e f=>ax e 0 a λi=>aX s 79 [i,(ad 24)] e f λj k l=>af (cU [(ad 0),ay] [(0,1,j)]) λm=>b1 [(ad 0),ay] k l λn o p=>af (aU o 2 n m) λq=>bC (bN Q s Rc 78 0) [a,d,n,(ad 0)] q p [(0,λr t aI=>aR 2 t (a8 r 2) λv=>af (aU t 2 (a8 r 1) v) λw=>aR 2 w (a8 r 1) λx=>K x w aI)] (λ_ _ _=>False)
theorem aqS{h:ae}{U:Nat}:bN Q s Rc 78 0 [aB,a2,a3,aZ] h U N [(0,aE)] R=abl s aB a2 a3 aZ h U N aE R:=by kernel_rfl
theorem aur:cT 78 aft:=cV Rc
def KM(s:al)(K:bR)(cB cE eh:X)(au:ae)(a4:Nat):Prop:=ax au 2 cB λb=>ax au 0 eh λd=>b6 79 [b,d] au a4 λe f g=>aR 2 f eh λi=>jl 2 eh i (af (aU f 2 cE i) λj=>bo 3 cB λk=>bS j k λl=>cZ k l (af (qt (.int .i64) l) λm=>bH .rem 3 m (ad 4) λn=>b9 n λo=>bo 4 cB λp=>bS j p λq=>cZ p q (af (qt (.int .i64) q) λr=>bH .rem 3 r (ad 4) λt=>b9 t λaI=>aR 2 j cE λv=>K (.tuple ⟨[v,e,o,aI]⟩) j g) 2 [f,au]) 2 [f,au]) 1 [au]
def make:cS:=λs ah h U K=>bI ah h U λa b c=>b1 [(ad 0),ay] b c λd e f=>i5 2 e 0 a λi=>aX s 78 [i] e f λj k l=>b1 [(ad 0),ay] k l λm n o=>af (aU n 2 m j) λp=>ax p 0 m λr=>bw .eql 3 r (ad 0) (af (cU [(ad 0),ay] [(0,1,(ad 1))]) λaI=>af (aU p 2 m aI) λv=>(KM s K a d m v o)) (KM s K a d m p o)
theorem axe:cT 15 make:=cV []
def right:cS:=λs ah h U K=>bI ah h U λa b c=>af (.ok (Value.func (.func 163) ⟨[]⟩ ⟨[a]⟩)) λd=>b1 [.nilFunc] b c λe f g=>af (aU f 1 e d) λi=>ax i 0 a λk=>cF k (ad 0) (K (ad 3) i g) (ax i 0 a λn=>kd n (ad 4096) (K (ad 5) i g) (ax i 1 a λq=>cO q λr=>kd r (ad 65536) (K (ad 5) i g) (ax i 1 a λv=>af (.ok (Value.func (.func 165) ⟨[]⟩ ⟨[e]⟩)) λw=>aX s 164 [v,w] i g λx y z=>bu x (K (ad 3) y z) (ax y 1 a λbU=>aX s 164 [bU,(.func (.func 166) #[] #[])] y z λbL bk bV=>bu bL (K (ad 7) bk bV) (K (ad 0) bk bV)))))
theorem aus:cT 83 right:=cV []
def Re:c0:=λs ah t1 h U K=>cF ah (ad 0) (K (.bool true) h U) (ax h 0 t1 λc=>bH .geq 3 ah c λd=>K d h U)
theorem abm:c4 163 Re:=c5 []
def adz:c0:=λs ah t1 h U K=>bI ah h U λa b c=>bS b t1 λd=>ax b 0 a λf=>fh Q s (hP b c [f] d) λg i j=>bu g (K (.bool true) i j) (bS i t1 λk=>ax i 1 a λm=>fh Q s (hP i j [m] k) λn o p=>K n o p)
theorem aqT:c4 165 adz:=c5 []
def adA:cS:=λs ah h U K=>bI ah h U λa b c=>ax b 2 a λe=>bw .lss 2 e (ad 0) (K (.bool true) b c) (ax b 2 a λi=>bH .gtr 2 i (ad 2147483647) λj=>K j b c)
theorem aqU:cT 166 adA:=cV []
def axf:c0:=λs ah t1 h U K=>aX s 255 [ah,t1] h U λa b c=>bH .geq 3 a (ad 0) λd=>K d b c
theorem aut:c4 164 axf:=c5 []
def Rf:aa (aa Nat):=[[0,1,4,7,8]]
def abn(s:al)(aC aB aZ a6 br:X)(h:ae)(U:Nat)(N:aP)(aE:aP)(R:aP):Prop:=cF br a6 (hw 3 h 3 aC br λc=>fh Q s (hP h U [c] aB) λd e f=>bu d (R [aC,aB,br,a6,br] e f) (b9 br λg=>N [aC,aB,aZ,a6,g] e f)) (aE [aC,aB,aZ,a6,br] h U)
def index:c0:=λs ah t1 h U K=>cO ah λa=>bC (bN Q s Rf 255 0) [ah,t1,(ad 0),a,(ad 0)] h U [(0,λb c d=>K (ad (-1)) c d)] (λe f g=>K (a8 e 2) f g)
theorem aqV{h:ae}{U:Nat}:bN Q s Rf 255 0 [aC,aB,aZ,a6,br] h U N [(0,aE)] R=abn s aC aB aZ a6 br h U N aE R:=by kernel_rfl
theorem auu:c4 255 index:=c5 Rf
def RZ:aa (aa Nat):=[[0,1,4,12,13]]
def adB(s:al)(aC aB aZ dI e5:X)(h:ae)(U:Nat)(N:aP)(aE:aP)(R:aP):Prop:=cF e5 dI (dL h 1 aC e5 λc=>dL h 1 aB e5 λe=>bw .neq 2 c e (R [aC,aB,(.bool false),dI,e5] h U) (b9 e5 λg=>N [aC,aB,aZ,dI,g] h U)) (aE [aC,aB,aZ,dI,e5] h U)
def agQ:c0:=λs ah t1 h U K=>cO ah λa=>cO t1 λb=>bw .neq 3 a b (K (.bool false) h U) (cO ah λd=>bC (bN Q s RZ 85 0) [ah,t1,(.bool false),d,(ad 0)] h U [(0,λe f g=>K (.bool true) f g)] (λi j k=>K (a8 i 2) j k))
theorem auv{h:ae}{U:Nat}:bN Q s RZ 85 0 [aC,aB,aZ,dI,e5] h U N [(0,aE)] R=adB s aC aB aZ dI e5 h U N aE R:=by kernel_rfl
theorem axg:c4 85 agQ:=c5 RZ
def P2:cS:=λs ah h U K=>bw .eql 29 ah ay (K ay h U) (dS (eV 0 [] []) h U λb c d=>dD (dU (dM 1 c d b ah)) λe f g=>K e f g)
theorem Zj:cT 88 P2:=cV []
def Rg:aa (aa Nat):=[[0,1,4,5]]
def abo(s:al)(aC aB aZ bt:X)(h:ae)(U:Nat)(N:aP)(aE:aP)(R:aP):Prop:=cO aC λa=>cF bt a (dL h 1 aC bt λd=>dL h 1 aB bt λf=>bw .neq 2 d f (R [aC,aB,(.bool false),bt] h U) (b9 bt λi=>N [aC,aB,aZ,i] h U)) (aE [aC,aB,aZ,bt] h U)
def afu:c0:=λs ah t1 h U K=>cO ah λa=>cO t1 λb=>bw .neq 3 a b (K (.bool false) h U) (bC (bN Q s Rg 19 0) [ah,t1,(.bool false),(ad 0)] h U [(0,λd e f=>K (.bool true) e f)] (λg i j=>K (a8 g 2) i j))
theorem aqW{h:ae}{U:Nat}:bN Q s Rg 19 0 [aC,aB,aZ,bt] h U N [(0,aE)] R=abo s aC aB aZ bt h U N aE R:=by kernel_rfl
theorem auw:c4 19 afu:=c5 Rg
def afv:cS:=λs ah h U K=>bI ah h U λa b c=>b1 [(ad 0),ay] b c λd e f=>ax e 1 a λi=>aX s 172 [(ad 1),i] e f λj k l=>af (cp j 0) λm=>af (cp j 1) λn=>ax k 0 a λp=>af (cU [(ad 0),ay] [(0,1,p),(1,1,m)]) λq=>af (aU k 2 d q) λr=>aR 2 r d λt=>K t r l
theorem aux:cT 98 afv:=cV []
def below:c0:=λs ah t1 h U K=>bI ah h U λa b c=>bI t1 b c λd e f=>ax e 0 a λi=>ax e 0 d λk=>cF i k (K (.bool true) e f) (ax e 0 a λn=>ax e 0 d λp=>bw .eql 3 n p (ax e 1 a λt=>ax e 1 d λv=>bH .lss 3 t v λw=>K w e f) (K (.bool false) e f))
def sg(s:al)(K:bR)(cg df:X)(au:ae)(a4:Nat):Prop:=aR 2 au cg λa=>aX s 189 [a] au a4 λb c d=>af (cp b 0) λe=>af (cp b 1) λf=>af (aU c 5 df e) λg=>aR 5 g df λi=>K (.tuple ⟨[i,f]⟩) g d
def Rh:c0:=λs ah t1 h U K=>bI ah h U λa b c=>bI t1 b c λd e f=>b1 [(ad 0),(ad 0),ay,ay,ay] e f λg i j=>aR 5 i a λk=>aX s 187 [k] i j λl m n=>lA l (af (cU [(ad 0),(ad 0),ay,ay,ay] []) λp=>af (aU m 5 g p) λq=>aR 5 q g λr=>K (.tuple ⟨[r,l]⟩) q n) (ax m 0 d λaI=>ax m 1 a λw=>bw .neq 3 aI w (af (cU [(ad 0),(ad 0),ay,ay,ay] []) λy=>af (aU m 5 g y) λz=>aR 5 z g λbD=>K (.tuple ⟨[bD,(ad 4)]⟩) z n) (aR 2 m d λbU=>aX s 83 [bU] m n λbL bk bV=>lA bL (af (cU [(ad 0),(ad 0),ay,ay,ay] []) λbO=>af (aU bk 5 g bO) λcM=>aR 5 cM g λcG=>K (.tuple ⟨[cG,bL]⟩) cM bV) (ax bk 0 a λdh=>bw .eql 40 dh (ad 5) (aR 2 bk d λam=>aX s 182 [am] bk bV λan ez f9=>af (aU ez 2 d an) λgw=>aR 2 gw d λgl=>aX s 181 [gl] gw f9 λhT iu gx=>af (aU iu 2 d hT) λl2=>aR 2 l2 d λlC=>aX s 188 [lC] l2 gx λlD ox qd=>af (aU ox 2 d lD) λch=>(sg s K d g ch qd)) (bw .eql 40 dh (ad 3) (aR 2 bk d λbe=>aX s 181 [be] bk bV λl3 pc ga=>af (aU pc 2 d l3) λbi=>aR 2 bi d λxw=>aX s 188 [xw] bi ga λpa lE jz=>af (aU lE 2 d pa) λvO=>(sg s K d g vO jz)) (bw .eql 40 dh (ad 1) (aR 2 bk d λuq=>aX s 188 [uq] bk bV λeO vP qe=>af (aU vP 2 d eO) λkN=>(sg s K d g kN qe)) (sg s K d g bk bV))))))
theorem abp:c4 114 Rh:=c5 []
def zT(s:al)(K:bR)(cB:X)(au:ae)(a4:Nat):Prop:=ax au 4 cB λb=>cO b λc=>kd c (ad 65536) (K (ad 5) au a4) (ax au 4 cB λf=>aX s 278 [f,(.func (.func 279) #[] #[])] au a4 λg i j=>bu g (K (ad 7) i j) (K (ad 0) i j))
def FD(s:al)(K:bR)(cB lu:X)(au:ae)(a4:Nat):Prop:=bu lu (K (ad 8) au a4) (ax au 1 cB λb=>aX s 277 [b,(ad 4096)] au a4 λc d e=>af (dv .not c) λf=>bu f (K (ad 3) d e) (ax d 0 cB λi=>bw .eql 40 i (ad 4) (ax d 3 cB λl=>aX s 277 [l,(ad 8192)] d e λm n o=>af (dv .not m) λp=>bu p (K (ad 3) n o) (ax n 2 cB λr=>ax n 1 cB λaI=>bH .sub 3 aI (ad 1) λv=>aX s 277 [r,v] n o λw x y=>af (dv .not w) λz=>bu z (K (ad 3) x y) (zT s K cB x y))) (bw .eql 40 i (ad 1) (ax d 2 cB λbL=>ax d 1 cB λbV=>bH .sub 3 bV (ad 1) λca=>aX s 277 [bL,ca] d e λbO cM cG=>af (dv .not bO) λds=>bu ds (K (ad 3) cM cG) (zT s K cB cM cG)) (bw .eql 40 i (ad 2) (ax d 2 cB λam=>ax d 1 cB λez=>bH .sub 3 ez (ad 1) λf9=>aX s 277 [am,f9] d e λgw gl hT=>af (dv .not gw) λiu=>bu iu (K (ad 3) gl hT) (zT s K cB gl hT)) (zT s K cB d e)))))
def abq:cS:=λs ah h U K=>bI ah h U λa b c=>ax b 0 a λe=>bw .leq 40 e (ad 0) (FD s K a (.bool true) b c) (ax b 0 a λi=>bH .gtr 40 i (ad 5) λj=>(FD s K a j b c))
theorem am3:cT 187 abq:=cV []
def abr:c0:=λs ah t1 h U K=>bw .geq 3 ah (ad 0) (bH .leq 3 ah t1 λb=>K b h U) (K (.bool false) h U)
theorem am4:c4 277 abr:=c5 []
def auy:c0:=λs ah t1 h U K=>aX s 366 [ah,t1] h U λa b c=>bH .geq 3 a (ad 0) λd=>K d b c
theorem aqX:c4 278 auy:=c5 []
def abs:cS:=λs ah h U K=>bw .lss 2 ah (ad 0) (K (.bool true) h U) (bH .gtr 2 ah (ad 2147483647) λb=>K b h U)
theorem am5:cT 279 abs:=cV []
def P3:aa (aa Nat):=[[0,1,4,7,8]]
def Zk(s:al)(aC aB aZ a6 br:X)(h:ae)(U:Nat)(N:aP)(aE:aP)(R:aP):Prop:=cF br a6 (dL h 1 aC br λc=>fh Q s (hP h U [c] aB) λd e f=>bu d (R [aC,aB,br,a6,br] e f) (b9 br λg=>N [aC,aB,aZ,a6,g] e f)) (aE [aC,aB,aZ,a6,br] h U)
def adC:c0:=λs ah t1 h U K=>cO ah λa=>bC (bN Q s P3 366 0) [ah,t1,(ad 0),a,(ad 0)] h U [(0,λb c d=>K (ad (-1)) c d)] (λe f g=>K (a8 e 2) f g)
theorem am6{h:ae}{U:Nat}:bN Q s P3 366 0 [aC,aB,aZ,a6,br] h U N [(0,aE)] R=Zk s aC aB aZ a6 br h U N aE R:=by kernel_rfl
theorem aqY:c4 366 adC:=c5 P3
def adD:cS:=λs ah h U K=>bI ah h U λa b c=>b1 [(ad 0),ay] b c λd e f=>aR 2 e a λg=>aX s 275 [g,(.func (.func 276) #[] #[])] e f λi j k=>af (aU j 2 d i) λl=>aR 2 l d λm=>K m l k
theorem aqZ:cT 182 adD:=cV []
def yF:cS:=λs ah h U K=>bI ah h U λa b c=>b1 [(ad 0),ay] b c λd e f=>aR 2 e a λg=>b6 274 [g] e f λi j k=>bo 1 a λl=>bS j l λm=>cZ l m (af (va 1 none i) λn=>dS (eV 2 [ay,ay] [(0,1,m),(1,1,n)]) j k λo p q=>b6 273 [o] p q λr t aI=>bo 0 a λv=>bS t v λw=>cZ v w (af (cU [(ad 0),ay] [(0,1,w),(1,1,r)]) λx=>b6 98 [x] t aI λy z bD=>af (aU z 2 d y) λbU=>aR 2 bU d λbL=>K bL bU bD) 2 [j,e]) 1 [e]
theorem axh:cT 181 yF:=cV []
def plain:cS:=λs ah h U K=>bI ah h U λa b c=>b1 [(ad 0),ay] b c λd e f=>aR 2 e a λg=>aX s 275 [g,(.func (.func 280) #[] #[])] e f λi j k=>af (aU j 2 d i) λl=>aR 2 l d λm=>K m l k
theorem auz:cT 188 plain:=cV []
def R0:aa (aa Nat):=[[1,2,5,16,17,18]]
def Ri(s:al)(aB a2 bt hf kK ls:X)(h:ae)(U:Nat)(N:aP)(aE:aP)(R:aP):Prop:=cF ls kK (hw 3 h 3 hf ls λc=>b1 [(ad 0),(ad 0),(ad 0)] h U λd e f=>af (aU e 3 d c) λg=>ax g 0 d λj=>ax g 1 d λl=>ax g 2 d λn=>af (cU [(ad 0),(ad 0),(ad 0)] [(0,1,j),(1,1,l),(2,1,n)]) λo=>dS (eV 1 [(ad 0),(ad 0),(ad 0)] [(0,3,o)]) g f λp q r=>dD (dU (dM 3 q r bt p)) λt aI v=>b9 ls λw=>N [aB,a2,t,hf,kK,w] aI v) (aE [aB,a2,bt,hf,kK,ls] h U)
def SI:cS:=λs ah h U K=>bI ah h U λa b c=>b1 [(ad 0),(ad 0),ay,ay,ay] b c λd e f=>aR 2 e a λg=>aX s 83 [g] e f λi j k=>lA i (af (cU [(ad 0),(ad 0),ay,ay,ay] []) λm=>af (aU j 5 d m) λn=>aR 5 n d λo=>K (.tuple ⟨[o,i]⟩) n k) (aR 2 j a λp=>aX s 274 [p] j k λq r t=>af (va 1 none q) λaI=>cO aI λv=>bC (bN Q s R0 189 0) [a,d,ay,aI,v,(ad 0)] r t [(0,λw x y=>ax x 0 (a8 w 0) λbD=>ax x 0 (a8 w 0) λbL=>aX s 281 [bD,bL,(a8 w 2)] x y λbk bV ca=>af (aU bV 5 (a8 w 1) bk) λbO=>aR 5 bO (a8 w 1) λcM=>K (.tuple ⟨[cM,(ad 0)]⟩) bO ca)] (λ_ _ _=>False))
theorem adE{h:ae}{U:Nat}:bN Q s R0 189 0 [aB,a2,bt,hf,kK,ls] h U N [(0,aE)] R=Ri s aB a2 bt hf kK ls h U N aE R:=by kernel_rfl
theorem afw:cT 189 SI:=cV R0
def Gj:aa (aa Nat):=[[0,3,9,10,11],[6,25,26,27]]
def Zl(s:al)(aC a3 c7 dk d3:X)(h:ae)(U:Nat)(N:aP)(aE:aP)(R:aP):Prop:=cF d3 dk (dL h 1 c7 d3 λc=>cO c λd=>lB a3 d λe=>cF e (ad 0) (af (.ok (Value.iface 9 (.string ⟨#[108,101,110,32,111,117,116,32,111,102,32,114,97,110,103,101]⟩))) λg=>False) (b9 d3 λi=>N [aC,e,c7,dk,i] h U)) (aE [aC,a3,c7,dk,d3] h U)
def Zm(s:al)(bm ns mv xa:X)(h:ae)(U:Nat)(N:aP)(aK:aP)(R:aP):Prop:=cF xa mv (dL h 1 ns xa λc=>dD (dU (dM 3 h U bm c)) λd e f=>b9 xa λg=>N [d,ns,mv,g] e f) (aK [bm,ns,mv,xa] h U)
def adF:cS:=λs ah h U K=>cO ah λa=>bC (bN Q s Gj 273 0) [ah,(ad 0),ah,a,(ad 0)] h U [(0,λb c d=>aX s 364 [ay,(a8 b 1)] c d λe f g=>cO (a8 b 0) λi=>bC (bN Q s Gj 273 1) [e,(a8 b 0),i,(ad 0)] f g [(2,λj k l=>K (a8 j 0) k l)] (λ_ _ _=>False))] (λ_ _ _=>False)
theorem am7{h:ae}{U:Nat}:bN Q s Gj 273 0 [aC,a3,c7,dk,d3] h U N [(0,aE)] R=Zl s aC a3 c7 dk d3 h U N aE R:=by kernel_rfl
theorem am8{B g A:X}{h:ae}{U:Nat}:bN Q s Gj 273 1 [bm,B,g,A] h U N [(2,aK)] R=Zm s bm B g A h U N aK R:=by kernel_rfl
theorem aq0:cT 273 adF:=cV Gj
def agR:cS:=λs ah h U K=>bI ah h U λa b c=>b1 [(ad 0),ay] b c λd e f=>aR 2 e a λg=>aX s 275 [g,(.func (.func 365) #[] #[])] e f λi j k=>af (aU j 2 d i) λl=>aR 2 l d λm=>K m l k
theorem axi:cT 274 agR:=cV []
def R1:aa (aa Nat):=[[1,2,4,5,11,12,13]]
def adG(s:al)(aB a2 aZ bt d3 dI e5:X)(h:ae)(U:Nat)(N:aP)(aE:aP)(R:aP):Prop:=cF e5 dI (hw 3 h 3 d3 e5 λc=>b1 [(ad 0),(ad 0),(ad 0)] h U λd e f=>af (aU e 3 d c) λg=>aR 3 g d λi=>fh Q s (hP g f [i] aB) λj k l=>af (cp j 0) λm=>af (cp j 1) λn=>b1 [(ad 0),(ad 0),(ad 0)] k l λo p q=>af (aU p 3 o m) λr=>bu n (aR 3 r o λt=>dS (eV 1 [(ad 0),(ad 0),(ad 0)] [(0,3,t)]) r q λaI v w=>dD (dU (dM 3 v w bt aI)) λx y z=>b9 e5 λbD=>N [aB,a2,aZ,x,d3,dI,bD] y z) (b9 e5 λbU=>N [aB,a2,aZ,bt,d3,dI,bU] r q)) (aE [aB,a2,aZ,bt,d3,dI,e5] h U)
def agS:c0:=λs ah t1 h U K=>bI ah h U λa b c=>b1 [(ad 0),ay] b c λd e f=>ax e 1 a λi=>cO i λj=>bC (bN Q s R1 275 0) [t1,a,d,ay,i,j,(ad 0)] e f [(0,λk l m=>ax l 0 (a8 k 1) λo=>af (cU [(ad 0),ay] [(0,1,o),(1,1,(a8 k 3))]) λp=>aX s 98 [p] l m λq r t=>af (aU r 2 (a8 k 2) q) λaI=>aR 2 aI (a8 k 2) λv=>K v aI t)] (λ_ _ _=>False)
theorem auA{h:ae}{U:Nat}:bN Q s R1 275 0 [aB,a2,aZ,bt,d3,dI,e5] h U N [(0,aE)] R=adG s aB a2 aZ bt d3 dI e5 h U N aE R:=by kernel_rfl
theorem axj:c4 275 agS:=c5 R1
def abt:cS:=λs ah h U K=>bI ah h U λa b c=>b1 [(ad 0),(ad 0),(ad 0)] b c λd e f=>aR 3 e a λg=>af (aU e 3 d g) λi=>bo 0 a λj=>bS i j λk=>cZ j k (bo 1 a λl=>bS i l λm=>cZ l m (bH .neq 3 k m λn=>aR 3 i d λo=>K (.tuple ⟨[o,n]⟩) i f) 1 [e]) 1 [e]
theorem am9:cT 276 abt:=cV []
def adH:cS:=λs ah h U K=>bI ah h U λa b c=>b1 [(ad 0),(ad 0),(ad 0)] b c λd e f=>bo 2 a λg=>af (aU e 1 g (ad 1)) λi=>aR 3 i a λj=>af (aU i 3 d j) λk=>aR 3 k d λl=>K (.tuple ⟨[l,(.bool true)]⟩) k f
theorem aq1:cT 280 adH:=cV []
def GD:aa (aa Nat):=[[0,6,7,14,15,16],[6,7,44,45]]
def P4(s:al)(aC bm a6 k5 i3 hf:X)(h:ae)(U:Nat)(N:aP)(aE:aP)(R:aP):Prop:=cF hf i3 (hw 3 h 3 k5 hf λc=>b1 [(ad 0),(ad 0),(ad 0)] h U λd e f=>af (aU e 3 d c) λg=>ax g 2 a6 λj=>ax g 0 d λl=>b9 l λm=>dL g 1 j m λo=>b9 o λp=>hJ 1 j m λq=>af (aU g 1 q p) λr=>ax r 3 a6 λaI=>ax r 1 d λw=>dS (eV 1 [(ad 0)] [(0,1,w)]) r f λx y z=>dD (dU (dM 1 y z aI x)) λbD bU bL=>bo 3 a6 λbk=>af (aU bU 1 bk bD) λbV=>ax bV 4 a6 λbO=>ax bV 2 d λcG=>dS (eV 1 [(ad 0)] [(0,1,cG)]) bV bL λds dh ey=>dD (dU (dM 1 dh ey bO ds)) λam an ez=>bo 4 a6 λf9=>af (aU an 1 f9 am) λgw=>b9 hf λgl=>N [aC,bm,a6,k5,i3,gl] gw ez) (aE [aC,bm,a6,k5,i3,hf] h U)
def P5(s:al)(bm a6 qM sK:X)(h:ae)(U:Nat)(N:aP)(aK:aP)(R:aP):Prop:=cF sK qM (ax h 2 a6 λc=>b9 sK λd=>dL h 1 c d λf=>ax h 2 a6 λi=>dL h 1 i sK λk=>lB f k λl=>hJ 1 c d λm=>af (aU h 1 m l) λn=>b9 sK λo=>N [bm,a6,qM,o] n U) (aK [bm,a6,qM,sK] h U)
def R2:gv:=λs ah t1 t2 h U K=>b1 [(ad 0),(ad 0),ay,ay,ay] h U λa b c=>aX s 367 [ah,t1] b c λd e f=>b1 [(ad 0),(ad 0),ay,ay,ay] e f λg i j=>af (aU i 5 g d) λk=>cO t2 λl=>bC (bN Q s GD 281 0) [ah,a,g,t2,l,(ad 0)] k j [(0,λm n o=>bC (bN Q s GD 281 1) [(a8 m 1),(a8 m 2),(a8 m 0),(ad 0)] n o [(2,λp q r=>aR 5 q (a8 p 1) λt=>af (aU q 5 (a8 p 0) t) λaI=>aR 5 aI (a8 p 0) λv=>K v aI r)] (λ_ _ _=>False))] (λ_ _ _=>False)
theorem abu{h:ae}{U:Nat}:bN Q s GD 281 0 [aC,bm,a6,k5,i3,hf] h U N [(0,aE)] R=P4 s aC bm a6 k5 i3 hf h U N aE R:=by kernel_rfl
theorem abv{g A:X}{h:ae}{U:Nat}:bN Q s GD 281 1 [bm,a6,g,A] h U N [(2,aK)] R=P5 s bm a6 g A h U N aK R:=by kernel_rfl
theorem adI:gF 281 R2:=gL GD
def grow:c0:=λs ah t1 h U K=>cF t1 (ad 0) (af (.ok (Value.iface 9 (.string ⟨#[99,97,110,110,111,116,32,98,101,32,110,101,103,97,116,105,118,101]⟩))) λb=>False) (af (Hb Q 22 ah) λc=>cO ah λd=>bH .sub 3 c d λe=>bH .sub 3 t1 e λf=>kd f (ad 0) (af (Hb Q 22 ah) λi=>af (gS 3 ah none (some i) none) λj=>dD (dU (pr Q .append [22,3] h U [j,f])) λk l m=>cO ah λn=>af (gS 3 k none (some n) none) λo=>K o l m) (K ah h U))
theorem axk:c4 364 grow:=c5 []
def adJ:cS:=λs ah h U K=>bI ah h U λa b c=>b1 [(ad 0),(ad 0),(ad 0)] b c λd e f=>ax e 1 a λi=>ax e 0 a λk=>ax e 2 a λm=>af (cU [(ad 0),(ad 0),(ad 0)] [(0,1,i),(1,1,k),(2,1,m)]) λn=>af (aU e 3 d n) λo=>aR 3 o d λp=>K (.tuple ⟨[p,(.bool true)]⟩) o f
theorem aq2:cT 365 adJ:=cV []
def R3:c0:=λs ah t1 h U K=>b1 [(ad 0),(ad 0),ay,ay,ay] h U λa b c=>b9 ah λd=>dS (sr [(ad 0)] d d) b c λe f g=>af (cU [(ad 0),(ad 0),ay,ay,ay] [(0,1,ah),(1,1,t1),(2,1,e)]) λi=>af (aU f 5 a i) λj=>aR 5 j a λk=>K k j g
theorem adK:c4 367 R3:=c5 []
def adL:cS:=λs ah h U K=>bI ah h U λa b c=>i5 5 b 0 a λe=>i5 2 b 5 a λg=>ax b 10 a λj=>aX s 200 [e,g,j] b c λk l m=>lA k (K k l m) (ax l 7 a λp=>fh Q s (hP l m [p,(ad 8)] (.func (.func 199) #[] #[])) λq r t=>af (dv .not q) λaI=>bu aI (K (ad 3) r t) (ax r 8 a λw=>fh Q s (hP r t [w,(ad 8)] (.func (.func 199) #[] #[])) λx y z=>af (dv .not x) λbD=>bu bD (K (ad 3) y z) (ax y 9 a λbL=>fh Q s (hP y z [bL,(ad 64)] (.func (.func 199) #[] #[])) λbk bV ca=>af (dv .not bk) λbO=>bu bO (K (ad 3) bV ca) (ax bV 11 a λcG=>cO cG λds=>kd ds (ad 8192) (K (ad 5) bV ca) (K (ad 0) bV ca)))))
theorem aq3:cT 121 adL:=cV []
def abw:c0:=λs ah t1 h U K=>bw .geq 3 ah (ad 1) (bH .leq 3 ah t1 λb=>K b h U) (K (.bool false) h U)
theorem ana:c4 199 abw:=c5 []
def adM:gv:=λs ah t1 t2 h U K=>bI ah h U λa b c=>bI t1 b c λd e f=>aR 5 e a λg=>aR 2 e d λi=>aX s 114 [g,i] e f λj k l=>af (cp j 0) λm=>af (cp j 1) λn=>b1 [(ad 0),(ad 0),ay,ay,ay] k l λo p q=>af (aU p 5 o m) λr=>lA n (K n r q) (cF t2 (ad 0) (K (ad 3) r q) (kd t2 (ad 8192) (K (ad 3) r q) (K (ad 0) r q)))
theorem aq4:gF 200 adM:=gL []
def abx:gv:=λs ah t1 t2 h U K=>bI ah h U λa b c=>aR 12 b a λd=>aX s 121 [d] b c λe f g=>lA e (K e f g) (cO t1 λj=>kd j (ad 1048576) (K (ad 5) f g) (aX s 253 [t1,(.func (.func 254) #[] #[])] f g λl m n=>bu l (K (ad 8) m n) (aX s 156 [t2,(ad 1048576)] m n λo p q=>af (dv .not o) λr=>bu r (K (ad 3) p q) (K (ad 0) p q))))
theorem anb:gF 161 abx:=gL []
def Zn:cS:=λs ah h U K=>bI ah h U λa b c=>aR 4 b a λd=>aX s 159 [d] b c λe f g=>af (dv .not e) λi=>K i f g
theorem akA:cT 254 Zn:=cV []
def Cl(s:al)(K:bR)(cB TN:X)(au:ae)(a4:Nat):Prop:=bu TN (K (.bool false) au a4) (ax au 0 cB λb=>bw .gtr 209 b (ad 0) (ax au 0 cB λe=>bH .leq 209 e (ad 5) λf=>K f au a4) (K (.bool false) au a4))
def aby:cS:=λs ah h U K=>bI ah h U λa b c=>ax b 1 a λe=>aX s 156 [e,(ad 63)] b c λf g i=>af (dv .not f) λj=>bu j (Cl s K a (.bool true) g i) (ax g 2 a λl=>aX s 156 [l,(ad 63)] g i λm n o=>af (dv .not m) λp=>bu p (Cl s K a (.bool true) n o) (ax n 3 a λr=>aX s 156 [r,(ad 63)] n o λt aI v=>af (dv .not t) λw=>(Cl s K a w aI v)))
theorem ane:cT 159 aby:=cV []
def auB:c0:=λs ah t1 h U K=>aX s 350 [ah,t1] h U λa b c=>bH .geq 3 a (ad 0) λd=>K d b c
theorem aq5:c4 253 auB:=c5 []
def P6:aa (aa Nat):=[[0,1,4,7,8]]
def Zo(s:al)(aC aB aZ a6 br:X)(h:ae)(U:Nat)(N:aP)(aE:aP)(R:aP):Prop:=cF br a6 (hw 4 h 4 aC br λc=>fh Q s (hP h U [c] aB) λd e f=>bu d (R [aC,aB,br,a6,br] e f) (b9 br λg=>N [aC,aB,aZ,a6,g] e f)) (aE [aC,aB,aZ,a6,br] h U)
def adN:c0:=λs ah t1 h U K=>cO ah λa=>bC (bN Q s P6 350 0) [ah,t1,(ad 0),a,(ad 0)] h U [(0,λb c d=>K (ad (-1)) c d)] (λe f g=>K (a8 e 2) f g)
theorem anf{h:ae}{U:Nat}:bN Q s P6 350 0 [aC,aB,aZ,a6,br] h U N [(0,aE)] R=Zo s aC aB aZ a6 br h U N aE R:=by kernel_rfl
theorem aq6:c4 350 adN:=c5 P6
def OI(s:al)(K:bR)(cB cE sL:X)(au:ae)(a4:Nat):Prop:=bu sL (K (ad 0) au a4) (ax au 7 cE λb=>ax au 8 cE λd=>lB b d λe=>lB e (ad 4) λf=>bH .mul 3 (ad 4) f λg=>lB cB (ad 2) λi=>bH .mul 3 g i λj=>K j au a4)
def abz:c0:=λs ah t1 h U K=>bI ah h U λa b c=>aX s 156 [t1,(ad 8192)] b c λd e f=>af (dv .not d) λg=>bu g (OI s K t1 a (.bool true) e f) (aR 12 e a λi=>aX s 121 [i] e f λj k l=>bH .neq 30 j (ad 0) λm=>(OI s K t1 a m k l))
theorem ang:c4 75 abz:=c5 []
def Zp:c0:=λs ah t1 h U K=>bw .geq 3 ah (ad 0) (bH .leq 3 ah t1 λb=>K b h U) (K (.bool false) h U)
theorem akB:c4 156 Zp:=c5 []
def afx:cS:=λs ah h U K=>fh Q s (md Q h U [] "Len" ah) λa b c=>bH .sub 3 a (ad 1) λd=>fh Q s (md Q b c [(ad 0),d] "Swap" ah) λe f g=>aX s 257 [ah,(ad 0),d] f g λi j k=>fh Q s (md Q j k [] "Pop" ah) λl m n=>K l m n
theorem auC:cT 170 afx:=cV []
def adO:c0:=λs ah t1 h U K=>fh Q s (md Q h U [t1] "Push" ah) λa b c=>fh Q s (md Q b c [] "Len" ah) λd e f=>bH .sub 3 d (ad 1) λg=>aX s 258 [ah,g] e f λi j k=>K (.tuple ⟨[]⟩) j k
theorem aq7:c4 171 adO:=c5 []
def Pg(s:al)(K:bR)(cz cg df:X)(au:ae)(a4:Nat):Prop:=ax au 1 cg λb=>cO b λc=>ax au 0 cg λe=>aX s 317 [cz,c,e] au a4 λf g i=>bw .eql 165 f (ad 2) (aR 2 g cg λk=>aX s 318 [k] g i λl m n=>af (cU [(ad 0),(ad 0),ay,(ad 0),ay,ay] [(0,1,(ad 2)),(3,3,l)]) λo=>af (aU m 6 df o) λp=>aR 6 p df λq=>K q p n) (ax g 1 cg λt=>b6 217 [t] g i λaI v w=>bo 0 cg λx=>bS v x λy=>cZ x y (af (cU [(ad 0),ay] [(0,1,y),(1,1,aI)]) λz=>af (cU [(ad 0),(ad 0),ay,(ad 0),ay,ay] [(0,1,(ad 1)),(1,2,z)]) λbD=>af (aU v 6 df bD) λbU=>aR 6 bU df λbL=>K bL bU w) 1 [g])
def adP:c0:=λs ah t1 h U K=>bI t1 h U λa b c=>b1 [(ad 0),(ad 0),ay,(ad 0),ay,ay] b c λd e f=>aR 2 e a λg=>aX s 312 [g] e f λi j k=>af (dv .not i) λl=>bu l (af (cU [(ad 0),ay] []) λm=>af (aU j 2 a m) λn=>(Pg s K ah a d n k)) (Pg s K ah a d j k)
theorem aq8:c4 226 adP:=c5 []
def JZ(s:al)(K:bR)(d8 eh:X)(au:ae)(a4:Nat):Prop:=fh Q s (hP au a4 [] eh) λa b c=>af (cp a 0) λd=>af (cp a 1) λe=>lA e (K (.tuple ⟨[ay,(ad 0),e]⟩) b c) (K (.tuple ⟨[d,d8,e]⟩) b c)
def adQ:cS:=λs ah h U K=>bI ah h U λa b c=>i5 6 b 12 a λe=>b6 321 [e] b c λf g i=>bo 6 a λj=>aR 6 g j λk=>jl 6 j k (b6 320 [k,f] g i λl m n=>bo 1 a λo=>aR 5 m o λp=>jl 5 o p (b6 322 [p] m n λq r t=>bo 20 a λaI=>bS r aI λv=>cZ aI v (b6 319 [v,l,q] r t λw x y=>aR 21 x a λz=>af (.ok (.func (.func 323) ⟨[z]⟩ ⟨[]⟩)) λbD=>bw .eql 164 w (ad 2) (aR 21 x a λbL=>af (.ok (.func (.func 324) ⟨[bL]⟩ ⟨[]⟩)) λbk=>(JZ s K w bk x y)) (JZ s K w bD x y)) 3 [m,g,b]) 2 [g,b]) 1 [b]
theorem aq9:cT 227 adQ:=cV []
def FW:aa (aa Nat):=[[6,17,18,19],[6]]
def X7(s:al)(bm kK ls nt:X)(h:ae)(U:Nat)(N:aP)(aE:aP)(R:aP):Prop:=cF nt ls (dL h 1 kK nt λc=>aX s 328 [bm,c,nt] h U λd e f=>b9 nt λg=>N [bm,kK,ls,g] e f) (aE [bm,kK,ls,nt] h U)
def X8(s:al)(bm:X)(h:ae)(U:Nat)(N:aP)(aK:aP)(R:aP):Prop:=af (bx bm) λa=>ax h 0 a λc=>aX s 329 [c] h U λd e f=>kd d (ad 0) (aX s 330 [bm] e f λi j k=>N [bm] j k) (aK [bm] e f)
def ara:c0:=λs ah t1 h U K=>aX s 259 [ah] h U λa b c=>af (dv .not a) λd=>bu d (K (.tuple ⟨[ay,(ad 8)]⟩) b c) (aX s 325 [t1,(.func (.func 326) #[] #[])] b c λe f g=>bu e (K (.tuple ⟨[ay,(ad 6)]⟩) f g) (af (cU [ay,(ad 0),ay] [(1,1,ah)]) λi=>bI i f g λj k l=>cO t1 λm=>bC (bN Q s FW 229 0) [j,t1,m,(ad 0)] k l [(0,λn o p=>bC (bN Q s FW 229 1) [(a8 n 0)] o p [(2,λq r t=>af (bx (a8 q 0)) λaI=>ax r 2 aI λw=>K (.tuple ⟨[w,(ad 0)]⟩) r t)] (λ_ _ _=>False))] (λ_ _ _=>False)))
theorem akC{g:X}{h:ae}{U:Nat}:bN Q s FW 229 0 [bm,kK,ls,g] h U N [(0,aE)] R=X7 s bm kK ls g h U N aE R:=by kernel_rfl
theorem akD{h:ae}{U:Nat}:bN Q s FW 229 1 [bm] h U N [(2,aK)] R=X8 s bm h U N aK R:=by kernel_rfl
theorem anh:c4 229 ara:=c5 FW
def P7:aa (aa Nat):=[[0,1,2,7]]
def J0(s:al)(N:aP)(aE:aP)(R:aP)(cz cB cE fe qf lu y33:X)(au:ae)(a4:Nat):Prop:=bu y33 (fh Q s (md Q au a4 [lu,fe] "Less" cz) λa b c=>af (dv .not a) λd=>bu d (aE [cz,cB,cE,fe] b c) (fh Q s (md Q b c [fe,lu] "Swap" cz) λe f g=>N [cz,cB,cE,lu] f g)) (fh Q s (md Q au a4 [qf,fe] "Less" cz) λi j k=>af (dv .not i) λl=>bu l (aE [cz,cB,cE,fe] j k) (fh Q s (md Q j k [fe,qf] "Swap" cz) λm n o=>N [cz,cB,cE,qf] n o))
def J1(s:al)(N:aP)(aE:aP)(R:aP)(cz cB cE fe hm sM:X)(au:ae)(a4:Nat):Prop:=bu sM (aE [cz,cB,cE,fe] au a4) (b9 hm λa=>cF a cE (fh Q s (md Q au a4 [a,hm] "Less" cz) λc d e=>(J0 s N aE R cz cB cE fe hm a c d e)) (J0 s N aE R cz cB cE fe hm a (.bool false) au a4))
def Zq(s:al)(aC aB a2 a6:X)(h:ae)(U:Nat)(N:aP)(aE:aP)(R:aP):Prop:=bH .mul 3 (ad 2) a6 λa=>b9 a λb=>bw .geq 3 b a2 (J1 s N aE R aC aB a2 a6 b (.bool true) h U) (bH .lss 3 b (ad 0) λd=>(J1 s N aE R aC aB a2 a6 b d h U))
def auD:gv:=λs ah t1 t2 h U K=>bC (bN Q s P7 257 0) [ah,t1,t2,t1] h U [(0,λa b c=>bH .gtr 3 (a8 a 3) (a8 a 1) λd=>K d b c)] (λ_ _ _=>False)
theorem ani{h:ae}{U:Nat}:bN Q s P7 257 0 [aC,aB,a2,a6] h U N [(0,aE)] R=Zq s aC aB a2 a6 h U N aE R:=by kernel_rfl
theorem arb:gF 257 auD:=gL P7
def R4:aa (aa Nat):=[[0,1]]
def adR(s:al)(aC aB:X)(h:ae)(U:Nat)(N:aP)(aE:aP)(R:aP):Prop:=bH .sub 3 aB (ad 1) λa=>bH .quo 3 a (ad 2) λb=>bw .eql 3 b aB (aE [aC,aB] h U) (fh Q s (md Q h U [aB,b] "Less" aC) λd e f=>af (dv .not d) λg=>bu g (aE [aC,aB] e f) (fh Q s (md Q e f [b,aB] "Swap" aC) λi j k=>N [aC,b] j k))
def azj:c0:=λs ah t1 h U K=>bC (bN Q s R4 258 0) [ah,t1] h U [(0,λa b c=>K (.tuple ⟨[]⟩) b c)] (λ_ _ _=>False)
theorem auE{h:ae}{U:Nat}:bN Q s R4 258 0 [aC,aB] h U N [(0,aE)] R=adR s aC aB h U N aE R:=by kernel_rfl
theorem axl:c4 258 azj:=c5 R4
def abA:gv:=λs ah t1 t2 h U K=>bw .eql 165 ah (ad 1) (K ah h U) (bw .eql 165 ah (ad 2) (K ah h U) (bH .quo 3 t2 (ad 8) λc=>kd t1 c (K (ad 2) h U) (K (ad 1) h U)))
theorem anj:gF 317 abA:=gL []
def R5:aa (aa Nat):=[[1,2,3,14,15,16]]
def adS(s:al)(aB a2 a3 k5 i3 hf:X)(h:ae)(U:Nat)(N:aP)(aE:aP)(R:aP):Prop:=cF hf i3 (hw 2 h 2 k5 hf λc=>b1 [(ad 0),(ad 0)] h U λd e f=>af (aU e 2 d c) λg=>ax g 2 a3 λj=>ax g 0 d λl=>ax g 1 d λn=>hJ 1 j l λo=>af (aU g 1 o n) λp=>b9 hf λq=>N [aB,a2,a3,k5,i3,q] p f) (aE [aB,a2,a3,k5,i3,hf] h U)
def agT:cS:=λs ah h U K=>bI ah h U λa b c=>b1 [(ad 0),ay,ay] b c λd e f=>aR 2 e a λg=>aX s 312 [g] e f λi j k=>af (dv .not i) λl=>bu l (aX s 388 [(ad 0)] j k λm n o=>af (aU n 3 d m) λp=>aR 3 p d λq=>K q p o) (ax j 0 a λt=>aX s 388 [t] j k λaI v w=>b1 [(ad 0),ay,ay] v w λx y z=>af (aU y 3 x aI) λbD=>ax bD 1 a λbL=>cO bL λbk=>bC (bN Q s R5 318 0) [a,d,x,bL,bk,(ad 0)] bD z [(0,λbV ca bO=>aR 2 ca (a8 bV 0) λcM=>b6 389 [cM] ca bO λcG ds dh=>bo 0 (a8 bV 0) λey=>bS ds ey λam=>cZ ey am (b6 108 [am,cG] ds dh λan ez f9=>bo 1 (a8 bV 2) λgw=>af (aU ez 1 gw an) λgl=>aR 3 gl (a8 bV 2) λhT=>af (aU gl 3 (a8 bV 1) hT) λiu=>aR 3 iu (a8 bV 1) λgx=>K gx iu f9) 1 [ca])] (λ_ _ _=>False))
theorem auF{h:ae}{U:Nat}:bN Q s R5 318 0 [aB,a2,a3,k5,i3,hf] h U N [(0,aE)] R=adS s aB a2 a3 k5 i3 hf h U N aE R:=by kernel_rfl
theorem axm:cT 318 agT:=cV R5
def WJ:gv:=λs ah t1 t2 h U K=>bw .eql 164 ah (ad 1) (K ah h U) (bw .eql 164 ah (ad 2) (K ah h U) (bH .quo 3 t2 (ad 4) λc=>kd t1 c (K (ad 2) h U) (K (ad 1) h U)))
theorem aig:gF 319 WJ:=gL []
def adT:c0:=λs ah t1 h U K=>bI ah h U λa b c=>bI t1 b c λd e f=>aR 2 e d λg=>b6 389 [g] e f λi j k=>aR 6 j a λl=>jl 6 a l (b6 390 [l,i] j k λm n o=>K m n o) 1 [e]
theorem arc:c4 320 adT:=c5 []
def P8(s:al)(K:bR)(cB cE lu:X)(au:ae)(a4:Nat):Prop:=bu lu (bo 1 cB λa=>ax au 1 a λc=>b6 217 [c] au a4 λd e f=>bo 1 cB λg=>bo 0 g λi=>bS e i λj=>cZ i j (af (cU [(ad 0),ay] [(0,1,j),(1,1,d)]) λk=>af (aU e 2 cE k) λl=>aR 2 l cE λm=>K m l f) 1 [au]) (af (cU [(ad 0),ay] []) λn=>af (aU au 2 cE n) λo=>aR 2 o cE λp=>K p o a4)
def afy:cS:=λs ah h U K=>bI ah h U λa b c=>b1 [(ad 0),ay] b c λd e f=>ax e 0 a λi=>bw .eql 165 i (ad 2) (i5 3 e 3 a λl=>aX s 391 [l] e f λm n o=>af (aU n 2 d m) λp=>aR 2 p d λq=>K q p o) (ax e 0 a λt=>bw .eql 165 t (ad 1) (i5 2 e 1 a λw=>aX s 312 [w] e f λx y z=>(P8 s K a d x y z)) (P8 s K a d (.bool false) e f))
theorem auG:cT 321 afy:=cV []
def adU:cS:=λs ah h U K=>bI ah h U λa b c=>i5 6 b 12 a λe=>b6 321 [e] b c λf g i=>bo 0 a λj=>bS g j λk=>cZ j k (bo 6 a λl=>aR 6 g l λm=>jl 6 l m (bo 18 a λn=>bS g n λo=>cZ n o (bo 19 a λp=>bS g p λq=>cZ p q (b6 392 [k,m,f,o,q] g i λr t aI=>af (cp r 0) λv=>af (cp r 1) λw=>K (.tuple ⟨[v,w]⟩) t aI) 1 [b]) 1 [b]) 1 [b]) 1 [b]
theorem ard:cT 323 adU:=cV []
def adV:cS:=λs ah h U K=>bI ah h U λa b c=>i5 6 b 12 a λe=>b6 394 [e] b c λf g i=>bo 0 a λj=>bS g j λk=>cZ j k (bo 1 a λl=>aR 5 g l λm=>jl 5 l m (bo 18 a λn=>bS g n λo=>cZ n o (bo 19 a λp=>bS g p λq=>cZ p q (b6 393 [k,m,f,o,q] g i λr t aI=>af (cp r 0) λv=>af (cp r 1) λw=>K (.tuple ⟨[v,w]⟩) t aI) 1 [b]) 1 [b]) 1 [b]) 1 [b]
theorem are:cT 324 adV:=cV []
def ank:cS:=λs ah h U K=>aX s 327 [ah] h U λa b c=>af (dv .not a) λd=>K d b c
theorem akE:cT 326 ank:=cV []
def Ph:aa (aa Nat):=[[0,2,5,6]]
def X9(s:al)(aC a2 bt bm:X)(h:ae)(U:Nat)(N:aP)(aE:aP)(R:aP):Prop:=cF bm bt (kd bm (ad 0) (bH .sub 3 bm (ad 1) λc=>hJ 3 aC c λd=>ax h 0 d λf=>hJ 3 aC bm λg=>ax h 0 g λj=>bw .geq 3 f j (R [aC,(.bool false),bt,bm] h U) (b9 bm λl=>N [aC,a2,bt,l] h U)) (b9 bm λm=>N [aC,a2,bt,m] h U)) (aE [aC,a2,bt,bm] h U)
def abB:cS:=λs ah h U K=>cO ah λa=>bC (bN Q s Ph 327 0) [ah,(.bool false),a,(ad 0)] h U [(0,λb c d=>K (.bool true) c d)] (λe f g=>K (a8 e 1) f g)
theorem akF{h:ae}{U:Nat}:bN Q s Ph 327 0 [aC,a2,bt,bm] h U N [(0,aE)] R=X9 s aC a2 bt bm h U N aE R:=by kernel_rfl
theorem anl:cT 327 abB:=cV Ph
def afz:gv:=λs ah t1 t2 h U K=>cO t1 λa=>kd a (ad 0) (af (bx ah) λc=>bo 0 c λd=>af (.ok (Value.iface 415 d)) λe=>af (cU [ay,(ad 0)] [(0,1,t1),(1,1,t2)]) λf=>af (.ok (Value.iface 417 f)) λg=>aX s 171 [e,g] h U λi j k=>K (.tuple ⟨[]⟩) j k) (K (.tuple ⟨[]⟩) h U)
theorem auH:gF 328 afz:=gL []
def afA:cS:=λs ah h U K=>cO ah λa=>K a h U
theorem auI:cT 329 afA:=cV []
def FX(s:al)(K:bR)(cz cg df y47:X)(au:ae)(a4:Nat):Prop:=bu y47 (af (bx cz) λa=>ax au 1 a λc=>af (bx cz) λd=>ax au 2 d λf=>bH .sub 3 df (ad 1) λg=>hJ 3 f g λi=>i5 2 au 1 i λk=>i5 2 au 1 cg λm=>b6 261 [c,k,m] au a4 λn o p=>af (bx cz) λq=>bo 2 q λr=>bS o r λt=>cZ r t (bH .sub 3 df (ad 1) λaI=>hJ 3 t aI λv=>bo 1 v λw=>af (aU o 2 w n) λx=>K (.tuple ⟨[]⟩) x p) 1 [au]) (af (bx cz) λy=>ax au 2 y λbD=>aR 3 au cg λbU=>dS (eV 1 [(ad 0),(ad 0),(.int .u64 0)] [(0,3,bU)]) au a4 λbL bk bV=>dD (dU (dM 3 bk bV bD bL)) λca bO cM=>bV<=cM/\af (bx cz) λcG=>bo 2 cG λds=>af (aU bO 1 ds ca) λdh=>K (.tuple ⟨[]⟩) dh cM)
def adW:cS:=λs ah h U K=>af (bx ah) λa=>ax h 0 a λc=>hw 2 h 2 c (ad 0) λe=>b1 [ay,(ad 0)] h U λf g i=>af (aU g 2 f e) λj=>af (bx ah) λk=>bo 0 k λl=>af (.ok (Value.iface 415 l)) λm=>aX s 170 [m] j i λn o p=>ax o 0 f λr=>hw 3 o 3 r (ad 0) λaI=>b1 [(ad 0),(ad 0),(.int .u64 0)] o p λv w x=>af (aU w 3 v aI) λy=>ax y 0 f λbD=>af (gS 3 bD (some (ad 1)) none none) λbU=>ax y 1 f λbk=>b6 328 [ah,bU,bk] y x λbV ca bO=>af (bx ah) λcM=>ax ca 2 cM λds=>cO ds λdh=>kd dh (ad 0) (af (bx ah) λam=>ax ca 2 am λez=>bH .sub 3 dh (ad 1) λf9=>hJ 3 ez f9 λgw=>ax ca 0 gw λhT=>ax ca 0 v λgx=>bH .eql 3 hT gx λl2=>(FX s K ah v dh l2 ca bO)) (FX s K ah v dh (.bool false) ca bO)
theorem arf:cT 330 adW:=cV []
def Gk:aa (aa Nat):=[[0,2,4,6,7,31,32],[0,6,7,9,55,56,57]]
def Zr(s:al)(aC a2 aZ bm a6 i4 ge:X)(h:ae)(U:Nat)(N:aP)(aW:aP)(R:aP):Prop:=cF ge i4 (kd ge (ad 0) (bH .sub 3 ge (ad 1) λc=>hJ 3 a2 c λd=>ax h 0 d λf=>hJ 3 a2 ge λg=>ax h 0 g λj=>bw .geq 3 f j (af (cU [(ad 0),ay] []) λl=>af (aU h 2 bm l) λm=>R [aC,a2,aZ,bm,(ad 6),i4,ge] m U) (b9 ge λn=>N [aC,a2,aZ,bm,a6,i4,n] h U)) (b9 ge λo=>N [aC,a2,aZ,bm,a6,i4,o] h U)) (aW [aC,a2,aZ,bm,a6,i4,ge] h U)
def Zs(s:al)(aC bm a6 c7 HP HQ DX:X)(h:ae)(U:Nat)(N:aP)(cf:aP)(R:aP):Prop:=cF DX HQ (hw 3 h 3 HP DX λc=>b1 [(ad 0),(ad 0),(.int .u64 0)] h U λd e f=>af (aU e 3 d c) λg=>i5 2 g 1 d λj=>aX s 262 [aC,j] g f λk l m=>af (cp k 0) λn=>af (cp k 1) λo=>af (dv .not o) λp=>bu p (af (cU [(ad 0),ay] []) λq=>af (aU l 2 bm q) λr=>R [aC,bm,(ad 12),c7,HP,HQ,DX] r m) (aX s 399 [aC] l m λt aI v=>bw .neq 2 n t (ax aI 1 c7 λy=>ax aI 0 d λbD=>af (cU [(ad 0),(ad 0)] [(0,1,bD),(1,1,n)]) λbU=>dS (eV 1 [(ad 0),(ad 0)] [(0,2,bU)]) aI v λbL bk bV=>dD (dU (dM 2 bk bV y bL)) λca bO cM=>bo 1 c7 λcG=>af (aU bO 1 cG ca) λds=>b9 DX λdh=>N [aC,bm,a6,c7,HP,HQ,dh] ds cM) (b9 DX λey=>N [aC,bm,a6,c7,HP,HQ,ey] aI v))) (cf [aC,bm,a6,c7,HP,HQ,DX] h U)
def Zt(s:al)(K:bR)(cz cE df eh:X)(au:ae)(a4:Nat):Prop:=cO cE λa=>bC (bN Q s Gk 335 0) [cz,cE,df,eh,(ad 0),a,(ad 0)] au a4 [(1,λb c d=>bS c (a8 b 2) λe=>af (cU [(ad 0),ay] [(0,1,e)]) λf=>b1 [(ad 0),ay] c d λg i j=>af (aU i 2 g f) λk=>cO (a8 b 1) λl=>bC (bN Q s Gk 335 1) [(a8 b 0),(a8 b 3),(a8 b 4),g,(a8 b 1),l,(ad 0)] k j [(3,λm n o=>aR 2 n (a8 m 3) λp=>af (aU n 2 (a8 m 1) p) λq=>aR 2 q (a8 m 1) λr=>K (.tuple ⟨[r,(ad 0)]⟩) q o)] (λt aI v=>aR 2 aI (a8 t 1) λw=>K (.tuple ⟨[w,(a8 t 2)]⟩) aI v))] (λx y z=>aR 2 y (a8 x 3) λbD=>K (.tuple ⟨[bD,(a8 x 4)]⟩) y z)
def Pj(s:al)(K:bR)(cz cE df eh TO:X)(au:ae)(a4:Nat):Prop:=bu TO (af (cU [(ad 0),ay] []) λa=>af (aU au 2 eh a) λb=>aR 2 b eh λc=>K (.tuple ⟨[c,(ad 3)]⟩) b a4) (af (.ok (.func (.func 398) ⟨[]⟩ ⟨[df]⟩)) λd=>aX s 397 [cE,d] au a4 λe f g=>bu e (af (cU [(ad 0),ay] []) λi=>af (aU f 2 eh i) λj=>aR 2 j eh λk=>K (.tuple ⟨[k,(ad 3)]⟩) j g) (Zt s K cz cE df eh f g))
def adX:gv:=λs ah t1 t2 h U K=>bI t1 h U λa b c=>b1 [(ad 0),ay] b c λd e f=>aX s 259 [ah] e f λg i j=>af (dv .not g) λk=>bu k (af (cU [(ad 0),ay] []) λl=>af (aU i 2 d l) λm=>aR 2 m d λn=>K (.tuple ⟨[n,(ad 8)]⟩) m j) (bS i a λo=>cF o (ad 0) (Pj s K ah t2 a d (.bool true) i j) (bS i a λq=>bH .gtr 3 q (ad 4096) λr=>(Pj s K ah t2 a d r i j)))
theorem anm{g:X}{h:ae}{U:Nat}:bN Q s Gk 335 0 [aC,a2,aZ,bm,a6,g,ge] h U N [(1,aW)] R=Zr s aC a2 aZ bm a6 g ge h U N aW R:=by kernel_rfl
theorem ann{g B A:X}{h:ae}{U:Nat}{C:aP}:bN Q s Gk 335 1 [aC,bm,a6,c7,g,B,A] h U N [(3,C)] R=Zs s aC bm a6 c7 g B A h U N C R:=by kernel_rfl
theorem arh:gF 335 adX:=gL Gk
def abC:cS:=λs ah h U K=>b1 [(ad 0),(.int .u64 0)] h U λa b c=>bu ah (aX s 260 [(ad 1)] b c λd e f=>af (aU e 2 a d) λg=>aR 2 g a λi=>K i g f) (af (cU [(ad 0),(.int .u64 0)] []) λj=>af (aU b 2 a j) λk=>aR 2 k a λl=>K l k c)
theorem ano:cT 354 abC:=cV []
def afB:c0:=λs ah t1 h U K=>bI ah h U λa b c=>bI t1 b c λd e f=>b1 [(ad 0),(.int .u64 0)] e f λg i j=>ax i 1 a λl=>ax i 1 d λn=>bH .add 188 l n λo=>ax i 1 d λq=>bH .lss 188 o q λr=>b6 419 [r] i j λt aI v=>bo 0 a λw=>bS aI w λx=>cZ w x (af (qt (.int .u64) x) λy=>bo 0 d λz=>bS aI z λbD=>cZ z bD (af (qt (.int .u64) bD) λbU=>bH .add 188 y bU λbL=>bH .add 188 bL t λbk=>af (qt (.int .i64) bk) λbV=>af (cU [(ad 0),(.int .u64 0)] [(0,1,bV),(1,1,o)]) λca=>af (aU aI 2 g ca) λbO=>aR 2 bO g λcM=>K cM bO v) 1 [i]) 1 [i]
theorem auJ:c4 355 afB:=c5 []
def P9(s:al)(K:bR)(cz cE:X)(au:ae)(a4:Nat):Prop:=b6 117 [cz] au a4 λa b c=>dS (sr [(ad 0)] cz cz) b c λd e f=>af (cU [(ad 0),ay,ay] [(0,1,cz),(1,1,a),(2,1,d)]) λg=>af (aU e 3 cE g) λi=>aR 3 i cE λj=>K j i f
def Qa(s:al)(K:bR)(cz cE hm:X)(au:ae)(a4:Nat):Prop:=bu hm (P9 s K (ad 0) cE au a4) (P9 s K cz cE au a4)
def afC:cS:=λs ah h U K=>b1 [(ad 0),ay,ay] h U λa b c=>cF ah (ad 0) (Qa s K ah a (.bool true) b c) (bH .gtr 3 ah (ad 4096) λe=>(Qa s K ah a e b c))
theorem auK:cT 388 afC:=cV []
def Qb:aa (aa Nat):=[[0,3,4,6,12,32,33,34]]
def Zu(s:al)(aC a3 aZ bm dI ge HR DY:X)(h:ae)(U:Nat)(N:aP)(aW:aP)(R:aP):Prop:=cF DY HR (hw 2 h 2 ge DY λc=>b1 [(ad 0),(ad 0)] h U λd e f=>af (aU e 2 d c) λg=>aR 6 g bm λi=>ax g 0 d λk=>b6 454 [i,k] g f λl m n=>bo 1 d λo=>bS m o λp=>cZ o p (b6 453 [aC,l,p,a3,aZ] m n λq r t=>dS (eV 1 [ay] [(0,1,q)]) r t λaI v w=>dD (dU (dM 1 v w dI aI)) λx y z=>w<=z/\b9 DY λbD=>N [aC,a3,aZ,bm,x,ge,HR,bD] y z) 1 [g]) (aW [aC,a3,aZ,bm,dI,ge,HR,DY] h U)
def adY:xv:=λs ah t1 t2 t3 fY h U K=>bI t1 h U λa b c=>bI t2 b c λd e f=>aR 6 e a λg=>aR 2 e d λi=>aX s 452 [g,i] e f λj k l=>af (cp j 0) λm=>af (cp j 1) λn=>af (aU k 6 a m) λo=>af (aU o 2 d n) λp=>aX s 259 [ah] p l λq r t=>af (dv .not q) λaI=>bu aI (K (.tuple ⟨[ay,(ad 8)]⟩) r t) (ax r 0 d λw=>ax r 1 a λy=>bw .neq 3 w y (K (.tuple ⟨[ay,(ad 4)]⟩) r t) (ax r 1 d λbU=>cO bU λbL=>bC (bN Q s Qb 392 0) [ah,t3,fY,a,ay,bU,bL,(ad 0)] r t [(1,λbk bV ca=>aX s 229 [(a8 bk 0),(a8 bk 4)] bV ca λbO cM cG=>af (cp bO 0) λds=>af (cp bO 1) λdh=>K (.tuple ⟨[ds,dh]⟩) cM cG)] (λ_ _ _=>False)))
theorem anp{A g:X}{h:ae}{U:Nat}:bN Q s Qb 392 0 [aC,a3,aZ,bm,dI,ge,A,g] h U N [(1,aW)] R=Zu s aC a3 aZ bm dI ge A g h U N aW R:=by kernel_rfl
theorem ari:zr 392 adY:=Bm Qb
def abD:cS:=λs ah h U K=>bI ah h U λa b c=>b1 [(ad 0),ay,ay] b c λd e f=>aR 6 e a λg=>aX s 321 [g] e f λi j k=>aX s 318 [i] j k λl m n=>af (aU m 3 d l) λo=>aR 3 o d λp=>K p o n
theorem anq:cT 394 abD:=cV []
def abE:c0:=λs ah t1 h U K=>bI ah h U λa b c=>ax b 0 a λe=>cF e (ad 0) (K (.bool true) b c) (ax b 0 a λi=>bS b t1 λj=>bH .geq 3 i j λk=>K k b c)
theorem anr:c4 398 abE:=c5 []
def adZ:cS:=λs ah h U K=>bw .eql 234 ah (ad 1) (K (ad 4611686018427387904) h U) (bw .eql 234 ah (ad 3) (K (ad 4611686018427387904) h U) (bw .eql 234 ah (ad 4) (K (ad 4611686018427387904) h U) (K (ad 0) h U)))
theorem arj:cT 399 adZ:=cV []
def ark:cS:=λs ah h U K=>bu ah (K (.int .u64 1) h U) (K (.int .u64 0) h U)
theorem ans:cT 419 ark:=cV []
def ad0:cS:=λs ah h U K=>bI ah h U λa b c=>b1 [(ad 0),ay,ay] b c λd e f=>aR 3 e a λg=>aX s 478 [g] e f λi j k=>bu i (aR 3 j a λl=>af (aU j 3 d l) λm=>aR 3 m d λn=>K n m k) (aX s 388 [(ad 0)] j k λo p q=>af (aU p 3 d o) λr=>aR 3 r d λt=>K t r q)
theorem arl:cT 450 ad0:=cV []
def afD:cS:=λs ah h U K=>bI ah h U λa b c=>af (.ok (.func (.func 479) ⟨[]⟩ ⟨[a]⟩)) λd=>K d b c
theorem auL:cT 451 afD:=cV []
def Pk(s:al)(K:bR)(cE cg df d8:X)(au:ae)(a4:Nat):Prop:=aR 6 au cE λa=>af (aU au 6 df a) λb=>aR 2 b cg λc=>jl 2 cg c (af (aU b 2 d8 c) λd=>aR 6 d df λe=>aR 2 d d8 λf=>K (.tuple ⟨[e,f]⟩) d a4) 1 [au]
def Pl(s:al)(K:bR)(cE cg df d8:X)(au:ae)(a4:Nat):Prop:=aR 2 au cg λa=>aX s 312 [a] au a4 λb c d=>af (dv .not b) λe=>bu e (af (cU [(ad 0),ay] []) λf=>af (aU c 2 cg f) λg=>(Pk s K cE cg df d8 g d)) (Pk s K cE cg df d8 c d)
def ad1:c0:=λs ah t1 h U K=>bI ah h U λa b c=>bI t1 b c λd e f=>b1 [(ad 0),(ad 0),ay,ay,ay,ay] e f λg i j=>b1 [(ad 0),ay] i j λk l m=>aR 6 l a λn=>aX s 477 [n] l m λo p q=>af (dv .not o) λr=>bu r (dS (eV 1 [(ad 0)] [(0,1,(ad 0))]) p q λt aI v=>af (cU [(ad 0),(ad 0),ay,ay,ay,ay] [(3,1,t)]) λw=>af (aU aI 6 a w) λx=>(Pl s K a d g k x v)) (Pl s K a d g k p q)
theorem arm:c4 452 ad1:=c5 []
def OJ:aa (aa Nat):=[[0,2,3,4,11,14,15,16]]
def Xa(s:al)(aC a2 a3 aZ d3 k5 i3 hf:X)(h:ae)(U:Nat)(N:aP)(aE:aP)(R:aP):Prop:=cF hf i3 (hw 2 h 2 k5 hf λc=>b1 [(ad 0),(ad 0)] h U λd e f=>af (aU e 2 d c) λg=>ax g 0 d λj=>aX s 334 [a3,j] g f λk l m=>bw .neq 4 k aZ (ax l 1 d λp=>b6 480 [aC,p,a2] l m λq r t=>bo 0 d λaI=>bS r aI λv=>cZ aI v (af (cU [(ad 0),(ad 0),(.int .u64 0)] [(0,1,v),(1,2,q)]) λw=>dS (eV 1 [(ad 0),(ad 0),(.int .u64 0)] [(0,3,w)]) r t λx y z=>dD (dU (dM 3 y z d3 x)) λbD bU bL=>z<=bL/\b9 hf λbk=>N [aC,a2,a3,aZ,bD,k5,i3,bk] bU bL) 1 [l]) (b9 hf λbV=>N [aC,a2,a3,aZ,d3,k5,i3,bV] l m)) (aE [aC,a2,a3,aZ,d3,k5,i3,hf] h U)
def Zv:xv:=λs ah t1 t2 t3 fY h U K=>cO t1 λa=>bC (bN Q s OJ 453 0) [ah,t2,t3,fY,ay,t1,a,(ad 0)] h U [(0,λb c d=>K (a8 b 4) c d)] (λ_ _ _=>False)
theorem ajc{h:ae}{U:Nat}:bN Q s OJ 453 0 [aC,a2,a3,aZ,d3,k5,i3,hf] h U N [(0,aE)] R=Xa s aC a2 a3 aZ d3 k5 i3 hf h U N aE R:=by kernel_rfl
theorem akG:zr 453 Zv:=Bm OJ
def Pm(s:al)(K:bR)(cE cg df d8:X)(au:ae)(a4:Nat):Prop:=aR 5 au cE λa=>af (aU au 5 df a) λb=>aR 3 b cg λc=>jl 3 cg c (af (aU b 3 d8 c) λd=>aR 5 d df λe=>aR 3 d d8 λf=>K (.tuple ⟨[e,f]⟩) d a4) 1 [au]
def Pn(s:al)(K:bR)(cE cg df d8:X)(au:ae)(a4:Nat):Prop:=aR 3 au cg λa=>aX s 478 [a] au a4 λb c d=>af (dv .not b) λe=>bu e (aX s 388 [(ad 0)] c d λf g i=>af (aU g 3 cg f) λj=>(Pm s K cE cg df d8 j i)) (Pm s K cE cg df d8 c d)
def ad3:c0:=λs ah t1 h U K=>bI ah h U λa b c=>bI t1 b c λd e f=>b1 [(ad 0),(ad 0),ay,ay,ay] e f λg i j=>b1 [(ad 0),ay,ay] i j λk l m=>aR 5 l a λn=>aX s 201 [n] l m λo p q=>af (dv .not o) λr=>bu r (aR 5 p a λt=>af (cU [(ad 0),(ad 0)] []) λaI=>af (cU [(ad 0),(ad 0)] []) λv=>aX s 203 [t,aI,v] p q λw x y=>af (aU x 5 a w) λz=>(Pn s K a d g k z y)) (Pn s K a d g k p q)
theorem arn:c4 455 ad3:=c5 []
def abF:gv:=λs ah t1 t2 h U K=>bI ah h U λa b c=>bI t1 b c λd e f=>bI t2 e f λg i j=>af (.ok (.func (.func 483) ⟨[]⟩ ⟨[a,d,g]⟩)) λk=>K k i j
theorem ant:gF 456 abF:=gL []
def Rj:aa (aa Nat):=[[0,2,5,7,8,10,11,12]]
def abG(s:al)(aC a2 bt a6 br dk d3 dI:X)(h:ae)(U:Nat)(N:aP)(aE:aP)(R:aP):Prop:=ax h 2 bt λb=>b9 a2 λc=>dL h 1 b c λe=>cF dI e (ax h 3 bt λi=>dL h 1 i dI λk=>ax h 1 a6 λm=>aX s 334 [m,k] h U λn o p=>bu n (ax o 4 bt λr=>dL o 1 r dI λaI=>ax o 2 a6 λw=>dL o 1 w k λy=>b6 480 [aC,aI,y] o p λz bD bU=>fh Q true (hP bD bU [z] dk) λbL bk bV=>bU<=bV/\b9 dI λca=>N [aC,a2,bt,a6,br,dk,d3,ca] bk bV) (b9 dI λbO=>N [aC,a2,bt,a6,br,dk,d3,bO] o p)) (aE [aC,a2,bt,a6,br,dk,d3,dI] h U)
def afE:s2:=λs ah t1 t2 t3 h U K=>bI t1 h U λa b c=>bI t3 b c λd e f=>b1 [(ad 0),(.int .u64 0)] e f λg i j=>aX s 484 [ah] i j λk l m=>af (cp k 0) λn=>af (cp k 1) λo=>ax l 2 a λq=>dL l 1 q t2 λt=>bC (bN Q s Rj 457 0) [ah,t2,a,d,g,n,o,t] l m [(0,λaI v w=>fh Q s (hP v w [] (a8 aI 6)) λx y z=>af (cp x 0) λbD=>af (cp x 1) λbU=>af (aU y 2 (a8 aI 4) bD) λbL=>aR 2 bL (a8 aI 4) λbk=>K (.tuple ⟨[bk,bU]⟩) bL z)] (λ_ _ _=>False)
theorem aro{h:ae}{U:Nat}:bN Q s Rj 457 0 [aC,a2,bt,a6,br,dk,d3,dI] h U N [(0,aE)] R=abG s aC a2 bt a6 br dk d3 dI h U N aE R:=by kernel_rfl
theorem auM:uo 457 afE:=vw Rj
def Po:aa (aa Nat):=[[1,2,20,21,22]]
def Ya(s:al)(aB a2 jM iE eJ:X)(h:ae)(U:Nat)(N:aP)(aE:aP)(R:aP):Prop:=cF eJ iE (dL h 1 jM eJ λc=>bw .neq 2 c (ad 0) (ax h 1 aB λf=>aX s 334 [f,eJ] h U λg i j=>af (dv .not g) λk=>bu k (R [aB,(.bool false),jM,iE,eJ] i j) (b9 eJ λl=>N [aB,a2,jM,iE,l] i j)) (b9 eJ λm=>N [aB,a2,jM,iE,m] h U)) (aE [aB,a2,jM,iE,eJ] h U)
def OK(s:al)(K:bR)(cB TN:X)(au:ae)(a4:Nat):Prop:=bu TN (K (.bool false) au a4) (ax au 2 cB λb=>cO b λc=>bC (bN Q s Po 478 0) [cB,(.bool false),b,c,(ad 0)] au a4 [(0,λd e f=>K (.bool true) e f)] (λg i j=>K (a8 g 1) i j))
def abH:cS:=λs ah h U K=>bI ah h U λa b c=>ax b 1 a λe=>ax b 0 a λg=>aX s 437 [e,g] b c λi j k=>af (dv .not i) λl=>bu l (OK s K a (.bool true) j k) (ax j 2 a λn=>cO n λo=>ax j 0 a λq=>bH .neq 3 o q λr=>(OK s K a r j k))
theorem akH{B A g:X}{h:ae}{U:Nat}:bN Q s Po 478 0 [aB,a2,B,A,g] h U N [(0,aE)] R=Ya s aB a2 B A g h U N aE R:=by kernel_rfl
theorem anu:cT 478 abH:=cV Po
def Qc:aa (aa Nat):=[[0,1,3]]
def Zw(s:al)(aC aB a3:X)(h:ae)(U:Nat)(N:aP)(aE:aP)(R:aP):Prop:=bw .geq 3 a3 (ad 0) (ax h 2 aB λc=>dL h 1 c a3 λe=>fh Q s (hP h U [a3,e] aC) λf g i=>af (dv .not f) λj=>bu j (R [aC,aB,a3] g i) (ax g 1 aB λl=>b9 a3 λm=>aX s 473 [l,m] g i λn o p=>N [aC,aB,n] o p)) (aE [aC,aB,a3] h U)
def ad5:c0:=λs ah t1 h U K=>ax h 1 t1 λb=>aX s 473 [b,(ad 0)] h U λc d e=>bC (bN Q s Qc 479 0) [ah,t1,c] d e [(0,λf g i=>K (.tuple ⟨[]⟩) g i)] (λj k l=>K (.tuple ⟨[]⟩) k l)
theorem anv{h:ae}{U:Nat}:bN Q s Qc 479 0 [aC,aB,a3] h U N [(0,aE)] R=Zw s aC aB a3 h U N aE R:=by kernel_rfl
theorem arp:c4 479 ad5:=c5 Qc
def Kq(s:al)(K:bR)(cE eh fe:X)(au:ae)(a4:Nat):Prop:=b6 260 [(ad 4611686018427387904)] au a4 λa b c=>b6 260 [cE] b c λd e f=>aR 2 e fe λg=>jl 2 fe g (b6 355 [g,d] e f λi j k=>b6 353 [a,i] j k λl m n=>af (aU m 2 eh l) λo=>aR 2 o eh λp=>K p o n) 2 [b,au]
def Ac(s:al)(K:bR)(cz cB cE eh y30:X)(au:ae)(a4:Nat):Prop:=bu y30 (aX s 260 [(ad 4611686018427387904)] au a4 λa b c=>af (aU b 2 eh a) λd=>aR 2 d eh λe=>K e d c) (af (cU [(ad 0),(.int .u64 0)] []) λf=>b1 [(ad 0),(.int .u64 0)] au a4 λg i j=>af (aU i 2 g f) λk=>bw .eql 234 cz (ad 1) (aX s 260 [cB] k j λm n o=>af (aU n 2 g m) λp=>(Kq s K cE eh g p o)) (bw .eql 234 cz (ad 4) (Kq s K cE eh g k j) (bw .eql 234 cz (ad 3) (aX s 260 [cB] k j λt aI v=>af (aU aI 2 eh t) λw=>aR 2 w eh λx=>K x w v) (aR 2 k g λy=>af (aU k 2 eh y) λz=>aR 2 z eh λbD=>K bD z j))))
def K5:gv:=λs ah t1 t2 h U K=>b1 [(ad 0),(.int .u64 0)] h U λa b c=>bw .eql 234 ah (ad 2) (bw .neq 2 t1 (ad 0) (bH .neq 2 t2 (ad 0) λf=>aX s 354 [f] b c λg i j=>af (aU i 2 a g) λk=>aR 2 k a λl=>K l k j) (aX s 354 [(.bool false)] b c λm n o=>af (aU n 2 a m) λp=>aR 2 p a λq=>K q p o)) (bw .eql 234 ah (ad 5) (aX s 494 [t1,t2] b c λt aI v=>af (aU aI 2 a t) λw=>aR 2 w a λx=>K x w v) (aX s 259 [ah] b c λy z bD=>bu y (af (min2 false t1 t2) λbU=>bH .geq 2 bU (ad 4611686018427387904) λbL=>(Ac s K ah t1 t2 a bL z bD)) (Ac s K ah t1 t2 a (.bool false) z bD)))
theorem auN:gF 480 K5:=gL []
def OL:aa (aa Nat):=[[0,2,3,6,7]]
def Xb(s:al)(aC a2 a3 bm a6:X)(h:ae)(U:Nat)(N:aP)(aE:aP)(R:aP):Prop:=cF a6 bm (bS h a2 λb=>b6 334 [b,a6] h U λc d e=>bS d a3 λf=>cZ a3 f (bw .neq 4 c f (fh Q true (hP d e [a6] aC) λi j k=>e<=k/\af (dv .not i) λl=>bu l (R [aC,a2,a3,bm,a6] j k) (b9 a6 λm=>N [aC,a2,a3,bm,m] j k)) (b9 a6 λn=>N [aC,a2,a3,bm,n] d e)) 1 [h]) (aE [aC,a2,a3,bm,a6] h U)
def Zx:s2:=λs ah t1 t2 t3 h U K=>bS h t1 λa=>bC (bN Q s OL 483 0) [ah,t2,t3,a,(ad 0)] h U [(0,λb c d=>K (.tuple ⟨[]⟩) c d)] (λe f g=>K (.tuple ⟨[]⟩) f g)
theorem ajd{h:ae}{U:Nat}:bN Q s OL 483 0 [aC,a2,a3,bm,a6] h U N [(0,aE)] R=Xb s aC a2 a3 bm a6 h U N aE R:=by kernel_rfl
theorem akI:uo 483 Zx:=vw OL
def abI:cS:=λs ah h U K=>bI ah h U λa b c=>b1 [(ad 0),(.int .u64 0)] b c λd e f=>b1 [(.bool false)] e f λg i j=>af (aU i 1 g (.bool false)) λk=>af (.ok (.func (.func 497) ⟨[]⟩ ⟨[g,a,d]⟩)) λl=>af (.ok (.func (.func 498) ⟨[]⟩ ⟨[d,g]⟩)) λm=>K (.tuple ⟨[l,m]⟩) k j
theorem anw:cT 484 abI:=cV []
def Zy:s2:=λs ah t1 t2 t3 h U K=>bI ah h U λa b c=>bS b t1 λd=>bu d (bS b t2 λe=>aR 2 b t3 λf=>aR 2 b a λg=>aX s 261 [e,f,g] b c λi j k=>af (aU j 2 a i) λl=>aR 2 l a λm=>af (aU l 2 t3 m) λn=>af (aU n 1 t1 (.bool true)) λo=>K (.tuple ⟨[]⟩) o k) (aR 2 b a λp=>af (aU b 2 t3 p) λq=>af (aU q 1 t1 (.bool true)) λr=>K (.tuple ⟨[]⟩) r c)
theorem akJ:uo 497 Zy:=vw []
def Zz:c0:=λs ah t1 h U K=>b1 [(ad 0),(.int .u64 0)] h U λa b c=>aR 2 b ah λd=>af (aU b 2 a d) λe=>bS e t1 λf=>cZ t1 f (aR 2 e a λg=>K (.tuple ⟨[g,f]⟩) e c) 1 [b]
theorem akK:c4 498 Zz:=c5 []
def afF:c0:=λs ah t1 h U K=>aX s 345 [ah] h U λa b c=>aX s 345 [t1] b c λd e f=>bu a (bu d (K (ad 0) e f) (K (ad (-1)) e f)) (bu d (K (ad 1) e f) (cF ah t1 (K (ad (-1)) e f) (kd ah t1 (K (ad 1) e f) (K (ad 0) e f))))
theorem auO:c4 242 afF:=c5 []
def R6:aa (aa Nat):=[[2,3,6,7,8]]
def KN(s:al)(a2 a3 bm a6 br:X)(h:ae)(U:Nat)(N:aP)(aE:aP)(R:aP):Prop:=cF br a6 (dL h 1 bm br λc=>bw .neq 3 c a3 (R [c,a3,bm,a6,br] h U) (b9 br λe=>N [a2,a3,bm,a6,e] h U)) (aE [a2,a3,bm,a6,br] h U)
def agU:cS:=λs ah h U K=>cO ah λa=>bC (bN Q s R6 241 0) [(ad 0),(ad 0),ah,a,(ad 0)] h U [(0,λb c d=>K (a8 b 1) c d)] (λe f g=>K (a8 e 0) f g)
theorem Rk{h:ae}{U:Nat}:bN Q s R6 241 0 [a2,a3,bm,a6,br] h U N [(0,aE)] R=KN s a2 a3 bm a6 br h U N aE R:=by kernel_rfl
theorem axn:cT 241 agU:=cV R6
def agV:cS:=λs ah h U K=>bw .gtr 234 ah (ad 0) (bH .lss 3 ah (ad 6) λb=>K b h U) (K (.bool false) h U)
theorem axo:cT 259 agV:=cV []
def agW:cS:=λs ah h U K=>b1 [(ad 0),(.int .u64 0)] h U λa b c=>bH .shr 2 ah (.int .u64 63) λd=>af (qt (.int .u64) ah) λe=>af (cU [(ad 0),(.int .u64 0)] [(0,1,d),(1,1,e)]) λf=>af (aU b 2 a f) λg=>aR 2 g a λi=>K i g c
theorem axp:cT 260 agW:=cV []
def CF(s:al)(K:bR)(df d8 eh fe hm:X)(au:ae)(a4:Nat):Prop:=bu hm (aR 2 au df λa=>aR 2 au d8 λb=>aX s 353 [a,b] au a4 λc d e=>af (aU d 2 eh c) λf=>aR 2 f eh λg=>K g f e) (bw .eql 234 fe (ad 2) (aR 2 au df λj=>aR 2 au d8 λk=>bw .neq 272 j k (aX s 354 [(.bool true)] au a4 λm n o=>af (aU n 2 eh m) λp=>aR 2 p eh λq=>K q p o) (aR 2 au df λr=>af (cU [(ad 0),(.int .u64 0)] []) λt=>bH .neq 272 r t λaI=>aX s 354 [aI] au a4 λv w x=>af (aU w 2 eh v) λy=>aR 2 y eh λz=>K z y x)) (bw .eql 234 fe (ad 5) (aR 2 au df λbU=>aR 2 au d8 λbL=>aX s 355 [bU,bL] au a4 λbk bV ca=>af (aU bV 2 eh bk) λbO=>aR 2 bO eh λcM=>K cM bO ca) (af (cU [(ad 0),(.int .u64 0)] []) λcG=>af (aU au 2 eh cG) λds=>aR 2 ds eh λdh=>K dh ds a4)))
def afG:gv:=λs ah t1 t2 h U K=>bI t1 h U λa b c=>bI t2 b c λd e f=>b1 [(ad 0),(.int .u64 0)] e f λg i j=>bw .eql 234 ah (ad 1) (CF s K a d g ah (.bool true) i j) (bw .eql 234 ah (ad 3) (CF s K a d g ah (.bool true) i j) (bH .eql 234 ah (ad 4) λm=>(CF s K a d g ah m i j)))
theorem auP:gF 261 afG:=gL []
def ZA:c0:=λs ah t1 h U K=>bI t1 h U λa b c=>aR 2 b a λd=>aX s 356 [d] b c λe f g=>af (cp e 0) λi=>af (cp e 1) λj=>K (.tuple ⟨[i,j]⟩) f g
theorem akL:c4 262 ZA:=c5 []
def ZB:c0:=λs ah t1 h U K=>bI ah h U λa b c=>bI t1 b c λd e f=>b1 [(ad 0),(.int .u64 0)] e f λg i j=>aR 2 i a λk=>aR 2 i d λl=>aX s 418 [k,l] i j λm n o=>bw .leq 3 m (ad 0) (aR 2 n a λq=>af (aU n 2 g q) λr=>aR 2 r g λt=>K t r o) (aR 2 n d λaI=>af (aU n 2 g aI) λv=>aR 2 v g λw=>K w v o)
theorem akM:c4 353 ZB:=c5 []
def ZC:cS:=λs ah h U K=>bI ah h U λa b c=>ax b 1 a λe=>af (qt (.int .i64) e) λf=>b6 260 [f] b c λg i j=>aR 2 i a λk=>jl 2 a k (bw .neq 272 g k (K (.tuple ⟨[(ad 0),(.bool false)]⟩) i j) (K (.tuple ⟨[f,(.bool true)]⟩) i j)) 1 [b]
theorem akN:cT 356 ZC:=cV []
def Yb:c0:=λs ah t1 h U K=>bI ah h U λa b c=>bI t1 b c λd e f=>ax e 0 a λi=>ax e 0 d λk=>b6 359 [i,k] e f λl m n=>bo 1 a λo=>bS m o λp=>cZ o p (bo 1 d λq=>bS m q λr=>cZ q r (b6 466 [p,r] m n λt aI v=>dS (eV 2 [(ad 0),(ad 0)] [(0,1,l),(1,1,t)]) aI v λw x y=>b6 241 [w] x y λz bD bU=>K z bD bU) 1 [e]) 1 [e]
theorem aje:c4 418 Yb:=c5 []
def afH:c0:=λs ah t1 h U K=>aX s 428 [ah] h U λa b c=>aX s 428 [t1] b c λd e f=>bu a (bu d (K (ad 0) e f) (K (ad (-1)) e f)) (bu d (K (ad 1) e f) (bw .lss 2 ah t1 (K (ad (-1)) e f) (bw .gtr 2 ah t1 (K (ad 1) e f) (K (ad 0) e f))))
theorem auQ:c4 359 afH:=c5 []
def afI:c0:=λs ah t1 h U K=>aX s 488 [ah] h U λa b c=>aX s 488 [t1] b c λd e f=>bu a (bu d (K (ad 0) e f) (K (ad (-1)) e f)) (bu d (K (ad 1) e f) (bw .lss 188 ah t1 (K (ad (-1)) e f) (bw .gtr 188 ah t1 (K (ad 1) e f) (K (ad 0) e f))))
theorem auR:c4 466 afI:=c5 []
def abJ:cS:=λs ah h U K=>bH .neq 2 ah ah λa=>K a h U
theorem anx:cT 428 abJ:=cV []
def abK:cS:=λs ah h U K=>bH .neq 188 ah ah λa=>K a h U
theorem anz:cT 488 abK:=cV []
def wid(x:Int):aa X:=[.int .i64 (x / 18446744073709551616),.int .u64 (x % 18446744073709551616)]
def kq(n:Int):Prop:=-9223372036854775808<=n/\n<9223372036854775808
def ln(x:Int):Prop:=-170141183460469231731687303715884105728<=x/\x<170141183460469231731687303715884105728
theorem oO:IntKind.wrap .i64 n=(n+9223372036854775808) % 18446744073709551616-9223372036854775808:=by rw[adx];omega
theorem K0:IntKind.wrap .u64 n=n % 18446744073709551616:=by simp[IntKind.wrap,IntKind.signed,IntKind.bits]
theorem akO{t:TypeId}(h:kq n):bin Q .shr t (n:X) (.int .u64 63) = .ok (.int .i64 (n / 18446744073709551616)):=by
 show R.ok (Value.int .i64 (n.fdiv 9223372036854775808))=_;rw[Int.fdiv_eq_ediv_of_nonneg _ (by decide)];unfold kq at h
 grind
theorem Ak{h:ae}{U:Nat}(g:kq n):aH Q s 260 [(n:X)] h U (dJ (.agg ⟨wid n⟩) U h):=by refine axp ?_;unfold agW wid;simp(disch:=omega)only[bl,akO g,K0,seval];exact⟨rfl,aN,J⟩
theorem abL{h:ae}{U:Nat}:aH Q s 359 [(a:X),(b:X)] h U (fr (.int .i64 (fR a b)) U h):=by
 have g:∀{n:Int} {K:bR},K (.bool false) h U->aH Q s 428 [(n:X)] h U K:=λ{n K} hk=>by refine anx ?_;unfold abJ;simp(disch:=omega)only[bl,q5,seval];exact hk
 refine auQ ?_;unfold afH fR;refine g (g ?_);refine aD ?_;refine⟨λA=>?_,λA=>⟨λB=>?_,λB=>?_⟩⟩
 ·rw[if_pos A];exact⟨rfl,rfl,rfl⟩
 ·rw[if_neg J,if_pos J];exact⟨rfl,rfl,rfl⟩
 ·rw[if_neg J,if_neg J];exact⟨rfl,rfl,rfl⟩
theorem arq{h:ae}{U:Nat}:aH Q s 466 [.int .u64 a,.int .u64 b] h U (fr (.int .i64 (fR a b)) U h):=by
 have g:∀{n:Int} {K:bR},K (.bool false) h U->aH Q s 488 [.int .u64 n] h U K:=λ{n K} hk=>by refine anz ?_;unfold abK;simp(disch:=omega)only[bl,q5,seval];exact hk
 refine auR ?_;unfold afI fR;refine g (g ?_);refine aD ?_;refine⟨λA=>?_,λA=>⟨λB=>?_,λB=>?_⟩⟩
 ·rw[if_pos A];exact⟨rfl,rfl,rfl⟩
 ·rw[if_neg J,if_pos J];exact⟨rfl,rfl,rfl⟩
 ·rw[if_neg J,if_neg J];exact⟨rfl,rfl,rfl⟩
def azk(b:Nat)(x y:Int)(U:Nat)(h:ae)(m:Nat)(aF:aa X)(ac:ae)(Y:Nat):Prop :=
 (m=2/\aF=[.int .i64 0,.int .i64 0,.slice (some ⟨b,0,none⟩) 2 2,.int .i64 2,.int .i64 0]/\ac=h/\Y=U)\/(m=1/\x=0/\aF=[.int .i64 0,.int .i64 0,.slice (some ⟨b,0,none⟩) 2 2,.int .i64 2,.int .i64 1]/\ac=h/\Y=U)\/(m=0/\x=0/\y=0/\aF=[.int .i64 0,.int .i64 0,.slice (some ⟨b,0,none⟩) 2 2,.int .i64 2,.int .i64 2]/\ac=h/\Y=U)
theorem CW{b:Nat}{h:ae}{U:Nat}(B:u h b=some (.cells [(x:X),(y:X)] false)):aH Q s 241 [.slice (some ⟨b,0,none⟩) 2 2] h U (fr (.int .i64 (if x=0 then y else x)) U h):=by
 refine axn ?_;unfold agU;refine aD ?_;refine bC.mk (azk b x y U h) 2 (.inl ab) ?_;rintro _ _ _ _ (⟨rfl,rfl,rfl,rfl⟩|⟨rfl,g,rfl,rfl,rfl⟩|⟨rfl,g,A,rfl,rfl,rfl⟩)
 ·rw[Rk];unfold KN;simp(disch:=omega)only[bl,B,seval]
  by_cases g:x=0
  ·subst g;refine aD ?_;exact⟨⟨1,J,.inr (.inl ⟨rfl,rfl,rfl,rfl,rfl⟩)⟩,λh=>absurd trivial h⟩
  ·have e:(x == 0)=false:=ab
   refine cQ @e @g ?_;exact⟨⟨rfl,rfl,rfl⟩,λh=>absurd trivial h⟩
 ·rw[Rk];unfold KN;subst g;simp(disch:=omega)only[bl,B,seval]
  by_cases A:y=0
  ·subst A;refine aD ?_;exact⟨⟨0,J,.inr (.inr ⟨rfl,rfl,rfl,rfl,rfl,rfl⟩)⟩,λh=>absurd trivial h⟩
  ·have e:(y == 0)=false:=ab
   refine bh @e ?_;exact⟨⟨rfl,rfl,rfl⟩,λh=>absurd trivial h⟩
 ·rw[Rk];unfold KN;subst g A;refine aD ?_;exact λ_=>⟨rfl,rfl,rfl⟩
theorem aiB{h:ae}{U:Nat}:aH Q s 418 [.agg ⟨wid a⟩,.agg ⟨wid b⟩] h U (dJ (.int .i64 (fR a b)) U h):=by
 refine aje ?_;unfold Yb wid;refine aD ?_;refine abL.mono ?_;rintro _ _ _ ⟨rfl,rfl,rfl⟩;refine⟨J,?_⟩;refine aD ?_;refine arq.mono ?_;rintro _ _ _ ⟨rfl,rfl,rfl⟩;refine⟨J,?_⟩;refine aD ?_;refine(CW (aT _ _ _)).mono ?_;rintro _ _ _ ⟨rfl,rfl,rfl⟩;refine⟨J,?_,aN,J⟩
 congr 1
 unfold fR;omega
theorem anA:0<fR a b↔b<a:=by unfold fR;omega
theorem Oi{h:ae}{U:Nat}:aH Q s 353 [.agg ⟨wid a⟩,.agg ⟨wid b⟩] h U (dJ (.agg ⟨wid (min a b)⟩) U h):=by
 refine akM ?_;unfold ZB bI;rw[show dj (.agg ⟨wid a⟩)=[.int .i64 (a / 18446744073709551616),.int .u64 (a % 18446744073709551616)]from rfl,show dj (.agg ⟨wid b⟩)=[.int .i64 (b / 18446744073709551616),.int .u64 (b % 18446744073709551616)]from rfl];refine aD ?_;refine(aiB  ).mono ?_;rintro _ M I ⟨rfl,g,D⟩;have B:=g U J;rw[ar J,ar J,aT]at B;have C:=g (U+1) J;rw[ar J,aT]at C;have E:=g (U+2) J;rw[aT]at E;refine hx @B @C @E ?_;have L:=anA (a:=a) (b:=b);refine⟨λA=>?_,λA=>?_⟩
 ·have:min a b=(if 0<fR a b then b else a):=J
  rw[this]
  first|rw[if_pos A]|rw[if_neg A]
  exact⟨rfl,aN,J⟩
 ·have:min a b=(if 0<fR a b then b else a):=J
  rw[this]
  first|rw[if_pos A]|rw[if_neg A]|rw[if_neg J]
  exact⟨rfl,aN,J⟩
theorem wfI(h:kq n):(Lit.int .i64 n).wf=true:=by unfold kq at h;simp[Lit.wf,IntKind.min,IntKind.max,IntKind.bits,IntKind.signed];omega
theorem wfU(h:0<=n/\n<18446744073709551616):(Lit.int .u64 n).wf=true:=by simp[Lit.wf,IntKind.min,IntKind.max,IntKind.bits,IntKind.signed];omega
theorem azl(h:ln x):kq (x / 18446744073709551616)/\0<=x % 18446744073709551616/\x % 18446744073709551616<18446744073709551616:=by unfold ln at h;unfold kq;omega
theorem afJ(h:ln x):Tryz.prog.keyLits 8 272 (wid x)=some [.int .i64 (x / 18446744073709551616),.int .u64 (x % 18446744073709551616)]:=by
 obtain⟨C,A⟩:=azl h;have B:=wfI C;have D:=wfU A;have g:Tryz.prog.keyLits 7 2 [.int .i64 (x / 18446744073709551616)]=some [.int .i64 (x / 18446744073709551616)]:=by unfold Program.keyLits;simp only[Ey,B,uG,if_true]
 have two:Tryz.prog.keyLits 7 188 [.int .u64 (x % 18446744073709551616)]=some [.int .u64 (x % 18446744073709551616)]:=by unfold Program.keyLits;simp only[azg,D,uG,if_true]
 unfold Program.keyLits;simp only[agO,agP,wid,mb,E5,Nat.reduceAdd];rw[if_pos ⟨trivial,by kernel_rfl⟩];simp only[Cf,List.mapM_nil,show TK.type=2 from rfl,show TL.type=188 from rfl,show TK.offset=0 from rfl,show TL.offset=1 from rfl,c2,azi,pk,NH,E0,tf,g,two];rfl
theorem Qd(B:ln x)(A:ln y):bin Q .neq 272 (.agg ⟨wid x⟩) (.agg ⟨wid y⟩) = .ok (.bool (!(x == y))):=by
 show R.of "compared" (bif F5 Tryz.prog 272 then sB Tryz.prog 272 (.agg ⟨wid x⟩) (.agg ⟨wid y⟩)else none) (λb=>nX (!b))=_;have g:∀x,(Value.agg ⟨wid x⟩).formed Tryz.prog 272=true:=λx=>by simp[Value.formed,agO,agP,wid]
 unfold sB;rw[axd,azh,g,g];show R.of "compared" (bif true&&(true&&true&&true&&true)then LO (Tryz.prog.keyLits 8 272 (wid x)) (Tryz.prog.keyLits 8 272 (wid y))else none) (λb=>nX (!b))=_;rw[afJ B,afJ A];show R.ok (Value.bool (!((mm .i64 .i64&&f2 (x / 18446744073709551616) (y / 18446744073709551616))&&((mm .u64 .u64&&f2 (x % 18446744073709551616) (y % 18446744073709551616))&&true))))=_;rw[wg,wg,kT,kT];have:(true&&x / 18446744073709551616 == y / 18446744073709551616&&(true&&x % 18446744073709551616 == y % 18446744073709551616&&true))=(x == y):=ab
 grind
theorem ajf{h:ae}{U:Nat}(L:ln x):aH Q s 356 [.agg ⟨wid x⟩] h U (dJ (.tuple ⟨[.int .i64 (if sv x=true then x else 0),.bool (sv x)]⟩) U h):=by
 refine akN ?_;unfold ZC bI;rw[show dj (.agg ⟨wid x⟩)=[.int .i64 (x / 18446744073709551616),.int .u64 (x % 18446744073709551616)]from rfl];have M:IntKind.wrap .i64 (x % 18446744073709551616)=(x+9223372036854775808) % 18446744073709551616-9223372036854775808:=by rw[oO];omega
 have I:kq ((x+9223372036854775808) % 18446744073709551616-9223372036854775808):=by unfold kq;omega
 have C:ln ((x+9223372036854775808) % 18446744073709551616-9223372036854775808):=by unfold ln;omega
 refine bh @M ?_;refine(Ak I).mono ?_;rintro _ P Z ⟨rfl,B,g⟩;have D:=B U J;rw[aT]at D;refine⟨g,?_⟩;refine bh @D ?_;rw[show(Value.agg ⟨[.int .i64 (x / 18446744073709551616),.int .u64 (x % 18446744073709551616)]⟩) = .agg ⟨wid x⟩from rfl,Qd C L];have A:((x+9223372036854775808) % 18446744073709551616-9223372036854775808 == x)=sv x:=by
  unfold sv
  grind
 rw[A];have E:aA U h P:=aN
 cases V:sv x with
 |true =>
  rw[V]at A;have:=uE.1 A;refine aD ?_;rw[this];exact⟨rfl,E,J⟩
 |false =>
  refine aD ?_;exact⟨rfl,E,J⟩
theorem Xc{h:ae}{U:Nat}(A:ln x):aH Q s 262 [(r:X),.agg ⟨wid x⟩] h U (dJ (.tuple ⟨[.int .i64 (if sv x=true then x else 0),.bool (sv x)]⟩) U h):=by refine akL ?_;unfold ZA bI;rw[show dj (.agg ⟨wid x⟩)=[.int .i64 (x / 18446744073709551616),.int .u64 (x % 18446744073709551616)]from rfl];refine aD ?_;rw[show(Value.agg ⟨[.int .i64 (x / 18446744073709551616),.int .u64 (x % 18446744073709551616)]⟩) = .agg ⟨wid x⟩from rfl];refine(ajf A).mono ?_;rintro _ D C ⟨rfl,B,g⟩;refine aD ?_;exact⟨rfl,aN,J⟩
theorem JI{b:al}{h:ae}{U:Nat}:aH Q s 354 [.bool b] h U (dJ (.agg ⟨wid (if b=true then 1 else 0)⟩) U h):=by
 refine ano ?_;unfold abC;cases b with
 |true =>
  refine aD ?_;refine(Ak  (by unfold kq;omega)).mono ?_;rintro _ D C ⟨rfl,g,B⟩;have A:=g U J;rw[aT]at A;unfold wid;refine bh @A ?_;exact⟨rfl,aN,J⟩
 |false =>
  refine aD ?_;exact⟨rfl,aN,J⟩
theorem Al{h:ae}{U:Nat}(B:0<r)(g:r<6):aH Q s 259 [(r:X)] h U (fr (.bool true) U h):=by refine axo ?_;unfold agV;refine aD ?_;refine⟨λ_=>?_,λA=>absurd A J⟩;rw[gP g];exact⟨rfl,rfl,rfl⟩
theorem anB{h:ae}{U:Nat}(g:r=1\/r=2\/r=4\/r=5):aH Q s 399 [(r:X)] h U (fr (.int .i64 (GZ r)) U h):=by
 refine arj ?_;unfold adZ GZ eI;rcases g with rfl|rfl|rfl|rfl <;> (simp(disch:=omega)only[bl,seval];exact⟨rfl,rfl,rfl⟩)
def n1(r:Int):Prop:=r=1\/r=2\/r=4
theorem Qe{h:ae}{U:Nat}(P:n1 r)(L:ln a)(Z:ln b):aH Q s 261 [(r:X),.agg ⟨wid a⟩,.agg ⟨wid b⟩] h U (dJ (.agg ⟨wid (jJ r a b)⟩) U h):=by
 refine auP ?_;unfold afG bI;rw[show dj (.agg ⟨wid a⟩)=[.int .i64 (a / 18446744073709551616),.int .u64 (a % 18446744073709551616)]from rfl,show dj (.agg ⟨wid b⟩)=[.int .i64 (b / 18446744073709551616),.int .u64 (b % 18446744073709551616)]from rfl];have aE:∀x:Int,(Value.agg ⟨[.int .i64 (x / 18446744073709551616),.int .u64 (x % 18446744073709551616)]⟩) = .agg ⟨wid x⟩:=λ_=>rfl;rcases P with rfl|rfl|rfl
 ·refine aD ?_;unfold CF;refine aD ?_;rw[aE,aE];refine Oi.mono ?_;rintro _ I D ⟨rfl,g,B⟩;have A:=g (U+2) J;rw[aT]at A;unfold wid;refine bh @A ?_;exact⟨rfl,aN,J⟩
 ·refine aD ?_;unfold CF;refine aD ?_;rw[aE,aE,Qd L Z];have M:(Value.agg ⟨[.int .i64 0,.int .u64 0]⟩) = .agg ⟨wid 0⟩:=rfl;have V:ln 0:=by unfold ln;omega
  by_cases C:a=b
  ·subst C;simp(disch:=omega)only[bl,q5,seval];rw[M,Qd L V];refine aD ?_;refine JI.mono ?_;rintro _ I D ⟨rfl,g,B⟩;have A:=g (U+2) J;rw[aT]at A;have E:(if(!a == 0)=true then(1:Int)else 0)=jJ 2 a a:=by
    unfold jJ
    grind
   rw[E];unfold wid;refine bh @A ?_;exact⟨rfl,aN,J⟩
  ·rw[show(a == b)=false from r8.2 C];refine aD ?_;refine JI.mono ?_;rintro _ I D ⟨rfl,g,B⟩;have A:=g (U+2) J;rw[aT]at A;have E:jJ 2 a b=1:=by unfold jJ;omega
   rw[E];unfold wid;refine bh @A ?_;exact⟨rfl,aN,J⟩
 ·refine aD ?_;unfold CF;refine aD ?_;rw[aE,aE];refine Oi.mono ?_;rintro _ I D ⟨rfl,g,B⟩;have A:=g (U+2) J;rw[aT]at A;unfold wid;refine bh @A ?_;exact⟨rfl,aN,J⟩
theorem akP{b:al}{h:ae}{U:Nat}:aH Q s 419 [.bool b] h U (fr (.int .u64 (if b=true then 1 else 0)) U h):=by
 refine ans ?_;cases b <;> (simp(disch:=omega)only[bl,seval];exact⟨rfl,rfl,rfl⟩)
theorem arr{h:ae}{U:Nat}:aH Q s 355 [.agg ⟨wid a⟩,.agg ⟨wid b⟩] h U (dJ (.agg ⟨wid (jz (a+b))⟩) U h):=by
 refine auJ ?_;unfold afB bI;rw[show dj (.agg ⟨wid a⟩)=[.int .i64 (a / 18446744073709551616),.int .u64 (a % 18446744073709551616)]from rfl,show dj (.agg ⟨wid b⟩)=[.int .i64 (b / 18446744073709551616),.int .u64 (b % 18446744073709551616)]from rfl];refine aD ?_;refine akP.mono ?_;rintro _ _ _ ⟨rfl,rfl,rfl⟩;refine⟨J,?_⟩;refine aD ?_;have aW:((a % 18446744073709551616+b % 18446744073709551616) % 18446744073709551616)=jz (a+b) % 18446744073709551616:=by unfold jz;omega
 have aK:IntKind.wrap .u64 (a % 18446744073709551616+b % 18446744073709551616)=jz (a+b) % 18446744073709551616:=by rw[K0,aW]
 rw[aK];have A:IntKind.wrap .i64 (IntKind.wrap .u64 (IntKind.wrap .u64 (IntKind.wrap .u64 (a / 18446744073709551616)+IntKind.wrap .u64 (b / 18446744073709551616))+(if jz (a+b) % 18446744073709551616<b % 18446744073709551616 then 1 else 0)))=jz (a+b) / 18446744073709551616:=by
  simp only[K0,oO]
  by_cases g:jz (a+b) % 18446744073709551616<b % 18446744073709551616
  ·rw[if_pos g];unfold jz at *
   omega
  ·rw[if_neg g];unfold jz at *
   omega
 rw[A];exact⟨rfl,aN,J⟩
theorem anC(h:ln x):jz x=x:=by unfold ln at h;unfold jz;omega
theorem Gl(h:kq x):ln x:=by unfold kq at h;unfold ln;omega
theorem R7(A:0<=a/\a<=2147483647)(B:0<=x/\x<=eI)(g:n1 r):0<=he r a x/\he r a x<=eI:=by
 unfold he eI at *
 rcases g with rfl|rfl|rfl
 all_goals omega
theorem afK{q:Int}{L D:Nat}{B:ae}{g:Nat}(oy:u B L=some (.cells [.int .i64 0,.int .u64 0] false))(qX:u B D=some (.cells [.int .i64 (q / 18446744073709551616),.int .u64 (q % 18446744073709551616)] false))(l4:L<g)(nE:D<g)(dt:0<=q/\q<=2147483647)(aY:0<=x/\x<=eI)(fin:∀V a5,aA g B V->g<=a5->K (.agg ⟨wid (min eI (q+x))⟩) (F V L (.cells [.int .i64 (min eI (q+x) / 18446744073709551616),.int .u64 (min eI (q+x) % 18446744073709551616)] false)) a5):
  Kq s K (x:X) (bf L) (bf D) B g:=by
 have aj:eI=4611686018427387904:=rfl;rw[aj]at aY fin;have aC3:kq x:=by unfold kq;omega
 unfold Kq;refine(Ak (n:=4611686018427387904) (by unfold kq;omega)).mono ?_;rintro _ V a5 ⟨rfl,d0,A⟩;refine⟨A,?_⟩;refine(Ak aC3).mono ?_;rintro _ ap bX ⟨rfl,P,C⟩;have I:=(d0 D nE).trans qX;have Z:=(P D J).trans I;refine⟨C,?_⟩;refine hx @Z @I @qX ?_;rw[show(Value.agg ⟨[.int .i64 (q / 18446744073709551616),.int .u64 (q % 18446744073709551616)]⟩) = .agg ⟨wid q⟩from rfl];refine arr.mono ?_;rintro _ aM bW ⟨rfl,e1,E⟩;refine⟨E,?_⟩;rw[anC  (by unfold ln;omega)];refine Oi.mono ?_;rintro _ bc d4 ⟨rfl,fI,M⟩;refine⟨M,?_⟩;have hj:aA g B bc:=aN
 have g6a:=(hj L l4).trans oy;have:=fin bc d4 hj J;unfold wid at this ⊢;refine bh @g6a ?_;exact this
theorem abM{h:ae}{U:Nat}(bb:n1 r)(cW:0<=a/\a<=2147483647)(aY:0<=x/\x<=eI):aH Q s 480 [(r:X),(a:X),(x:X)] h U (dJ (.agg ⟨wid (he r a x)⟩) U h):=by
 refine auN ?_;have P:=aY;have aj:eI=4611686018427387904:=rfl;have aC4:kq 4611686018427387904:=by unfold kq;omega
 rw[aj]at aY;have lF:kq a:=by unfold kq;omega
 have fin:∀(v:Int) (D:ae) (M:Nat),aA (U+1) (F h U (.cells [.int .i64 0,.int .u64 0] false)) D->U+1<=M->v=he r a x->dJ (.agg ⟨wid (he r a x)⟩) U h (.agg ⟨wid v⟩) (F D U (.cells [.int .i64 (v / 18446744073709551616),.int .u64 (v % 18446744073709551616)] false)) M:=λv D M hk dO e=>by subst e;exact⟨rfl,aN,J⟩
 have L:(r=1\/r=4)->4611686018427387904<=max a x->Ac s (dJ (.agg ⟨wid (he r a x)⟩) U h) (r:X) (a:X) (x:X) (bf U) (.bool true) (F h U (.cells [.int .i64 0,.int .u64 0] false)) (U+1):=λD ap=>by unfold Ac;refine ng ?_;refine(Ak aC4).mono ?_;rintro _ y4 M ⟨rfl,g,A⟩;have E:=g U J;rw[aT]at E;unfold wid;refine mf @E ?_;refine fin _ _ _ g A ?_;unfold he eI;omega
 have B:(r=1\/r=4)->¬4611686018427387904<=max a x->Ac s (dJ (.agg ⟨wid (he r a x)⟩) U h) (r:X) (a:X) (x:X) (bf U) (.bool false) (F h U (.cells [.int .i64 0,.int .u64 0] false)) (U+1):=λD ap=>by
  unfold Ac;rcases D with rfl|rfl
  ·refine ng ?_;refine(Ak lF).mono ?_;rintro _ y4 M ⟨rfl,g,A⟩;have g1:=(g (U+1) J).trans (aT _ _ _);have E:=g U J;rw[ar J,ar J,aT]at E;unfold wid;refine mf @g1 ?_;refine afK  ab ab J J cW P ?_;intro Me bX eW V;refine fin _ _ _ ?_ (by omega) ?_
   ·exact aN
   ·unfold he eI;omega
  ·refine ng ?_;refine afK (q:=0) ab ab J J J P ?_;intro Me bX eW V;refine fin _ _ _ ?_ (by omega) ?_
   ·exact aN
   ·unfold he eI;omega
 have C:r=1\/r=4->K5 s (r:X) (a:X) (x:X) h U (dJ (.agg ⟨wid (he r a x)⟩) U h):=λI=>by
  have L:=L I;have B:=B I;unfold K5;have Z:Ac s (dJ (.agg ⟨wid (he r a x)⟩) U h) (r:X) (a:X) (x:X) (bf U) (.bool (!decide (max a x<4611686018427387904))) (F h U (.cells [.int .i64 0,.int .u64 0] false)) (U+1):=by
   by_cases a1:4611686018427387904<=max a x
   ·rw[hD (J:¬max a x<4611686018427387904)];exact L a1
   ·rw[gP (J:max a x<4611686018427387904)];exact B a1
  rcases I with rfl|rfl
  ·refine ng ?_;refine(Al  J J).mono ?_;rintro _ _ _ ⟨rfl,rfl,rfl⟩;exact Z
  ·refine ng ?_;refine(Al  J J).mono ?_;rintro _ _ _ ⟨rfl,rfl,rfl⟩;exact Z
 rcases bb with rfl|rfl|rfl
 ·exact C J
 ·unfold K5;have em:he 2 a x=if(!(a == 0)&&!(x == 0))=true then 1 else 0:=by
   unfold he
   grind
  refine ng ?_;refine⟨λa1=>?_,λa1=>?_⟩
  ·refine JI.mono ?_;rintro _ D M ⟨rfl,g,A⟩;have E:=(g U J).trans (aT _ _ _);unfold wid;refine mf @E ?_;refine fin _ _ _ g A ?_
   grind
  ·refine JI.mono ?_;rintro _ D M ⟨rfl,g,A⟩;have E:=(g U J).trans (aT _ _ _);unfold wid;refine mf @E ?_;refine fin _ _ _ g A ?_
   grind
 ·exact C J
def ad6:c0:=λs ah t1 h U K=>aX s 345 [ah] h U λa b c=>aX s 345 [t1] b c λd e f=>bu a (bu d (K (ad 0) e f) (K (ad (-1)) e f)) (bu d (K (ad 1) e f) (cF ah t1 (K (ad (-1)) e f) (kd ah t1 (K (ad 1) e f) (K (ad 0) e f))))
theorem ars:c4 242 ad6:=c5 []
def ad7:cS:=λs ah h U K=>bH .neq 3 ah ah λa=>K a h U
theorem art:cT 345 ad7:=cV []
def agX:c0:=λs ah t1 h U K=>bI ah h U λa b c=>bI t1 b c λd e f=>ax e 0 a λi=>ax e 0 d λk=>b6 242 [i,k] e f λl m n=>bo 1 a λo=>bS m o λp=>cZ o p (bo 1 d λq=>bS m q λr=>cZ q r (b6 242 [p,r] m n λt aI v=>dS (eV 2 [(ad 0),(ad 0)] [(0,1,l),(1,1,t)]) aI v λw x y=>b6 241 [w] x y λz bD bU=>K z bD bU) 1 [e]) 1 [e]
theorem axq:c4 298 agX:=c5 []
def agY:c0:=λs ah t1 h U K=>bI ah h U λa b c=>bI t1 b c λd e f=>aR 3 e a λg=>aR 3 e d λi=>b6 358 [g,i] e f λj k l=>bo 2 a λm=>bS k m λn=>cZ m n (bo 2 d λo=>bS k o λp=>cZ o p (b6 359 [n,p] k l λq r t=>dS (eV 2 [(ad 0),(ad 0)] [(0,1,j),(1,1,q)]) r t λaI v w=>b6 241 [aI] v w λx y z=>K x y z) 1 [e]) 1 [e]
theorem axr:c4 264 agY:=c5 []
def edT:c0:=λs ah t1 h U K=>bI ah h U λa b c=>bI t1 b c λd e f=>ax e 0 a λi=>ax e 0 d λk=>b6 242 [i,k] e f λl m n=>bo 1 a λo=>bS m o λp=>cZ o p (bo 1 d λq=>bS m q λr=>cZ q r (b6 242 [p,r] m n λt aI v=>dS (eV 2 [(ad 0),(ad 0)] [(0,1,l),(1,1,t)]) aI v λw x y=>b6 241 [w] x y λz bD bU=>K z bD bU) 1 [e]) 1 [e]
theorem azm:c4 358 edT:=c5 []
def agZ:c0:=λs ah t1 h U K=>bI ah h U λa b c=>bI t1 b c λd e f=>af (im (.array 2 1) a (ad 0)) λg=>bS e g λi=>af (im (.array 2 1) d (ad 0)) λj=>bS e j λk=>b6 242 [i,k] e f λl m n=>af (im (.array 2 1) a (ad 1)) λo=>bS m o λp=>cZ o p (af (im (.array 2 1) d (ad 1)) λq=>bS m q λr=>cZ q r (b6 242 [p,r] m n λt aI v=>dS (eV 2 [(ad 0),(ad 0)] [(0,1,l),(1,1,t)]) aI v λw x y=>b6 241 [w] x y λz bD bU=>K z bD bU) 1 [e]) 1 [e]
theorem axs:c4 240 agZ:=c5 []
theorem Cu{h:ae}{U:Nat}:aH Q s 242 [(a:X),(b:X)] h U (fr (.int .i64 (fR a b)) U h):=by
 have g:∀{n:Int} {K:bR},K (.bool false) h U->aH Q s 345 [(n:X)] h U K:=λ{n K} hk=>by refine art ?_;unfold ad7;simp(disch:=omega)only[bl,q5,seval];exact hk
 refine ars ?_;unfold ad6 fR;refine g (g ?_);refine aD ?_;refine⟨λA=>?_,λA=>⟨λB=>?_,λB=>?_⟩⟩
 ·rw[if_pos A];exact⟨rfl,rfl,rfl⟩
 ·rw[if_neg J,if_pos J];exact⟨rfl,rfl,rfl⟩
 ·rw[if_neg J,if_neg J];exact⟨rfl,rfl,rfl⟩
theorem axt{x y:dB}{h:ae}{U:Nat}:aH Q s 358 [.agg ⟨jX x⟩,.agg ⟨jX y⟩] h U (dJ (.int .i64 (hG [fR x.1 y.1,fR x.2.1 y.2.1])) U h):=by
 refine azm ?_;unfold edT bI;rw[show dj (.agg ⟨jX x⟩)=[(x.1:X),(x.2.1:X),(x.2.2:X)]from rfl,show dj (.agg ⟨jX y⟩)=[(y.1:X),(y.2.1:X),(y.2.2:X)]from rfl];refine aD ?_;refine Cu.mono ?_;rintro _ _ _ ⟨rfl,rfl,rfl⟩;refine⟨J,?_⟩;refine aD ?_;refine Cu.mono ?_;rintro _ _ _ ⟨rfl,rfl,rfl⟩;refine⟨J,?_⟩;refine aD ?_;refine(CW (aT _ _ _)).mono ?_;rintro _ _ _ ⟨rfl,rfl,rfl⟩;refine⟨J,?_,aN,J⟩
 congr 1
 unfold hG hG hG
 grind
theorem auS{x y:GE}{h:ae}{U:Nat}:aH Q s 298 [.agg ⟨cX x⟩,.agg ⟨cX y⟩] h U (dJ (.int .i64 (hG [fR x.f y.f,fR x.t y.t])) U h):=by
 refine axq ?_;unfold agX bI;rw[show dj (.agg ⟨cX x⟩)=[(x.f:X),(x.t:X),(x.w:X)]from rfl,show dj (.agg ⟨cX y⟩)=[(y.f:X),(y.t:X),(y.w:X)]from rfl];refine aD ?_;refine Cu.mono ?_;rintro _ _ _ ⟨rfl,rfl,rfl⟩;refine⟨J,?_⟩;refine aD ?_;refine Cu.mono ?_;rintro _ _ _ ⟨rfl,rfl,rfl⟩;refine⟨J,?_⟩;refine aD ?_;refine(CW (aT _ _ _)).mono ?_;rintro _ _ _ ⟨rfl,rfl,rfl⟩;refine⟨J,?_,aN,J⟩
 congr 1
 unfold hG hG hG
 grind
theorem auT{x y:Int × Int}{h:ae}{U:Nat}:aH Q s 240 [.agg ⟨ll x⟩,.agg ⟨ll y⟩] h U (dJ (.int .i64 (k1 x y)) U h):=by
 refine axs ?_;unfold agZ bI;rw[show dj (.agg ⟨ll x⟩)=[(x.1:X),(x.2:X)]from rfl,show dj (.agg ⟨ll y⟩)=[(y.1:X),(y.2:X)]from rfl];refine aD ?_;refine Cu.mono ?_;rintro _ _ _ ⟨rfl,rfl,rfl⟩;refine⟨J,?_⟩;refine aD ?_;refine Cu.mono ?_;rintro _ _ _ ⟨rfl,rfl,rfl⟩;refine⟨J,?_⟩;refine aD ?_;refine(CW (aT _ _ _)).mono ?_;rintro _ _ _ ⟨rfl,rfl,rfl⟩;refine⟨J,?_,aN,J⟩
 congr 1
 unfold k1 hG hG hG
 grind
theorem auU{x y:dB}{h:ae}{U:Nat}:aH Q s 264 [.agg ⟨jX x⟩,.agg ⟨jX y⟩] h U (dJ (.int .i64 (jY x y)) U h):=by
 have e:∀x:dB,dj (.agg ⟨jX x⟩)=[(x.1:X),(x.2.1:X),(x.2.2:X)]:=λ_=>rfl;have aK:∀x:dB,Value.agg ⟨[(x.1:X),(x.2.1:X),(x.2.2:X)]⟩ = .agg ⟨jX x⟩:=λ_=>rfl;refine axr ?_;unfold agY bI;rw[e,e];refine aD ?_;rw[aK,aK];refine axt.mono ?_;rintro _ E D ⟨rfl,g,A⟩;refine⟨A,?_⟩;have B:=g U J;rw[ar J,aT]at B;have C:=g (U+1) J;rw[aT]at C;refine cQ @B @C ?_;refine abL.mono ?_;rintro _ _ _ ⟨rfl,rfl,rfl⟩;refine⟨J,?_⟩;refine aD ?_;refine(CW (aT _ _ _)).mono ?_;rintro _ _ _ ⟨rfl,rfl,rfl⟩;refine⟨J,?_,aN,J⟩
 congr 1
 unfold jY;generalize hG [fR x.1 y.1,fR x.2.1 y.2.1]=a;unfold hG hG hG
 grind
theorem R8{P:Program}{f:FuncId}{B:Func}(h:P.funcs[f]? = some { B with name:=(P.funcs[f]?.getD default).name }) (g:((P.funcs[f]?.getD default).name == "runtime.NumGoroutine")=false):Bears P f B:=⟨_,g,h⟩
def ur(l:aa (Nat × Nat))(n:Nat):Nat:=(l.lookup n).getD n
def TP(f t:aa (Nat × Nat)):Ren:=⟨ur (f++[(15,344),(28,415),(29,416),(47,462),(48,463)]),ur (t++[(3,3),(39,238),(0,0),(53,385),(55,188),(4,4),(46,426),(45,425),(50,222),(5,5),(9,9),(66,463),(70,467),(76,489),(77,341)]),id⟩
def rnE:Ren:=TP [(6,263),(14,357),(20,420),(21,421),(22,422),(23,423),(24,424),(25,425),(26,426),(27,427),(46,467),(49,468),(50,469),(57,489)] [(22,22),(24,124),(25,329)]
def rnT:Ren:=TP [(6,297),(14,370),(20,429),(21,430),(22,431),(23,432),(24,433),(25,434),(26,435),(27,436),(46,470),(49,471),(50,472),(57,490)] [(22,99),(24,259),(25,347)]
def rnL:Ren:=TP [(6,239),(14,343),(20,407),(21,408),(22,409),(23,410),(24,411),(25,412),(26,413),(27,414),(46,461),(49,464),(50,465),(57,487)] [(22,196),(24,198),(25,301)]
theorem azn:SlLaysF0.n6 Tryz.prog rnL:=by
 constructor <;> first|kernel_rfl|exact R8 (by kernel_rfl) (by kernel_rfl)|(intro w;kernel_rfl)
theorem ag0:SlLaysF0.n6 Tryz.prog rnE:=by
 constructor <;> first|kernel_rfl|exact R8 (by kernel_rfl) (by kernel_rfl)|(intro w;kernel_rfl)
theorem ag1:SlLaysF0.n6 Tryz.prog rnT:=by
 constructor <;> first|kernel_rfl|exact R8 (by kernel_rfl) (by kernel_rfl)|(intro w;kernel_rfl)
theorem ZD:Sort.SWO (kJ jY) where
 irrefl:=λx=>by have:¬jY x x<0:=λh=>aqk x x h h;simpa[kJ]using this
 trans:=λx y z A g=>by
  have A:jY x y<0:=by simpa[kJ]using A
  have g:jY y z<0:=by simpa[kJ]using g
  have:jY x z<0:=by rw[Gg]at *;omega
  simpa[kJ]using this
 ntrans:=λx y z A g=>by
  have A:¬jY x y<0:=by simpa[kJ]using A
  have g:¬jY y z<0:=by simpa[kJ]using g
  have:=aqj z y x g A;simpa[kJ]using this
theorem yj(h:(Tryz.prog.funcs[f]?.bind Func.body).isSome=true):Cr Tryz.prog f:=by
 cases g:Tryz.prog.funcs[f]? with
 |none=>rw[g]at h;cases h
 |some A =>
  rw[g]at h;exact⟨A,g,h,HO.names f A g⟩
instance:Inhabited dB:=⟨(0,0,0)⟩
theorem ZE:Sort.SWO (kJ k1) where
 irrefl:=λx=>by have:¬k1 x x<0:=λh=>aqi x x h h;simpa[kJ]using this
 trans:=λx y z A g=>by
  have A:k1 x y<0:=by simpa[kJ]using A
  have g:k1 y z<0:=by simpa[kJ]using g
  have:k1 x z<0:=by rw[Gf]at *;omega
  simpa[kJ]using this
 ntrans:=λx y z A g=>by
  have A:¬k1 x y<0:=by simpa[kJ]using A
  have g:¬k1 y z<0:=by simpa[kJ]using g
  have:=aqh z y x g A;simpa[kJ]using this
def mV(x y:GE):Prop:=x.f<y.f\/(x.f=y.f/\x.t<y.t)
theorem Kr{x y:GE}:qD x y<0↔mV x y:=by
 unfold qD hG hG hG fR mV
 by_cases A:(x.f:Int)<y.f
 ·rw[if_pos A];simp;omega
 ·by_cases B:(y.f:Int)<x.f
  ·rw[if_neg A,if_pos B];simp;omega
  ·rw[if_neg A,if_neg B]
   by_cases g:(x.t:Int)<y.t
   ·rw[if_pos g];simp;omega
   ·by_cases C:(y.t:Int)<x.t
    ·rw[if_neg g,if_pos C];simp;omega
    ·rw[if_neg g,if_neg C];simp;omega
theorem aru:Sort.SWO (kJ qD) where
 irrefl:=λx=>by
  have:¬qD x x<0:=λh=>by rw[Kr]at h;unfold mV at h;omega
  simpa[kJ]using this
 trans:=λx y z A g=>by
  have A:qD x y<0:=by simpa[kJ]using A
  have g:qD y z<0:=by simpa[kJ]using g
  have:qD x z<0:=by rw[Kr]at *;unfold mV at *;omega
  simpa[kJ]using this
 ntrans:=λx y z A g=>by
  have A:¬qD x y<0:=by simpa[kJ]using A
  have g:¬qD y z<0:=by simpa[kJ]using g
  have:¬qD x z<0:=by rw[Kr]at *;unfold mV at *;omega
  simpa[kJ]using this
theorem anD:GW Q 264 jX jY:=λx y h U=>auU.mono λ_ _ _ h=>h.1
theorem arv:GW Q 298 cX qD:=λx y h U=>auS.mono λ_ _ _ h=>h.1
theorem arw:GW Q 240 ll k1:=λx y h U=>auT.mono λ_ _ _ h=>h.1
theorem arx{h:ae}{U b n:Nat}{l:aa dB}(g:l.length=n)(D:n<1000000)(C:b<U)(B:u h b=some (.cells (bd jX l) false)):
  aH Q s 263 [.slice (some ⟨b,0,aS⟩) n cap,.func (.func 264) #[] #[]] h U (KI jX jY l b U h):=
 PX HO ag0 rfl (yj (by kernel_rfl)) (yj (by kernel_rfl)) ZD (λw=>by kernel_rfl) (λw=>by kernel_rfl) (k:=3) (λ_=>rfl) (λ_=>rfl) (λx v A=>by simp[jX]at A;rcases A with rfl|rfl|rfl <;> rfl) anD g D C B
theorem anE{h:ae}{U:Nat}(g:K (.tuple #[]) h U):aH Q s 263 [.slice none 0 0,.func (.func 264) #[] #[]] h U K:=Zf ag0 rfl (yj (by kernel_rfl)) g
theorem ary{h:ae}{U b n:Nat}{l:aa GE}(g:l.length=n)(D:n<1000000)(C:b<U)(B:u h b=some (.cells (bd cX l) false)):
  aH Q s 297 [.slice (some ⟨b,0,aS⟩) n cap,.func (.func 298) #[] #[]] h U (KI cX qD l b U h):=
 PX HO ag1 rfl (yj (by kernel_rfl)) (yj (by kernel_rfl)) aru (λw=>by kernel_rfl) (λw=>by kernel_rfl) (k:=3) (λ_=>rfl) (λ_=>rfl) (λx v A=>by simp[cX]at A;rcases A with rfl|rfl|rfl <;> rfl) arv g D C B
theorem anF{h:ae}{U:Nat}(g:K (.tuple #[]) h U):aH Q s 297 [.slice none 0 0,.func (.func 298) #[] #[]] h U K:=Zf ag1 rfl (yj (by kernel_rfl)) g
theorem arz{h:ae}{U b n:Nat}{l:aa (Int × Int)}(g:l.length=n)(D:n<1000000)(C:b<U)(B:u h b=some (.cells (bd ll l) false)):
  aH Q s 239 [.slice (some ⟨b,0,aS⟩) n cap,.func (.func 240) #[] #[]] h U (KI ll k1 l b U h):=
 PX HO azn rfl (yj (by kernel_rfl)) (yj (by kernel_rfl)) ZE (λw=>by kernel_rfl) (λw=>by kernel_rfl) (k:=2) (λ_=>rfl) (λ_=>rfl) (λx v A=>by simp[ll]at A;rcases A with rfl|rfl <;> rfl) arw g D C B
theorem J2{k:Int}{h:ae}{U:Nat}:aH Q s 79 [(k:X),(n:X)] h U (λv ac Y=>v = .int .i64 (DT k n)/\ac=h/\Y=U):=by refine aqR ?_;unfold ady;refine aD ?_;refine⟨λA=>by simp[DT,A],λA=>⟨λg=>by simp[DT,g],λg=>?_⟩⟩;rw[Ko J,yn];simp[DT,A,g]
theorem rd3(g:es[i]? = some e):hV (some 3) (i*3) (bd iz es) = .ok (.agg ⟨[(e.1:X),(e.2.1:X),(e.2.2:X)]⟩):=by have A:=tm (enc:=iz) (k:=3) (λ_=>rfl) g;have B:=(hn.1 g).1;rw[pq,if_pos (by rw[gc (k:=3) (λ_=>rfl)];omega),A];rfl
def ad8(U:Nat)(h:ae):bR:=λr ac Y=>∃(N:Nat) (v2:X) (aV:aa GE),r = .agg ⟨[(N:X),v2]⟩/\N<24/\aV.length<=60/\(∀g∈aV,gT N g)/\eG ac U Y v2 cX aV/\U<=Y/\aA U h ac
def ad9(n:Int)(v:X)(es:aa iy)(N U:Nat)(h:ae)(m:Nat)(aF:aa X)(ac:ae)(Y:Nat):Prop :=
 ∃(i:Nat) (v2:X) (aV:aa GE),m=60-i/\i<=60/\aF=[bf U,.pointer (some ⟨U+1,0,none⟩),.pointer (some ⟨U+1+1,0,none⟩),(i:X)] /\
  u ac U=some (.cells [(n:X),v] false)/\u ac (U+1)=some (.cells [.int .i64 0,.slice none 0 0] false)/\u ac (U+1+1)=some (.cells [(N:X),v2] false) /\
  d1 ac v2 cX 3 aV (U+1+1+1) Y/\aV.length=i/\(∀g∈aV,gT N g)/\U+1+1+1<=Y/\aA U h ac
theorem lJ{az:Type}{enc:az->aa X}(P:∀x,(enc x).length=k)(g:∀x,ee (enc x)=true)(D:0<k){h:ae}{U ao:Nat}{v:X}{l:aa az}(aG:d1 h v enc k l ao U)(I:ao<=U){M L A:Nat}{B:aw Nat}{ro:al}(x:az)(V:u h M=some (.cells cs ro))(Z:(cs.drop L).take k=enc x)(C:(l.length+1)*k<=1000000){K:X->ae->Nat->Prop}(hi:∀E ac,d1 ac E enc k (l++[x]) ao (U+1)->(∀b,b<ao->u ac b=u h b)->K E ac (U+1)):dD (dU (dM k h U v (.slice (some ⟨M,L,B⟩) 1 A))) K:=by obtain⟨E,ac,e,a,b⟩:=at1 P g D aG I V Z C;rw[e];exact hi _ _ a b
theorem arA{v:X}{h:ae}{U:Nat}(aG:cr h U v iz es):aH Q s 78 [.agg ⟨[(n:X),v]⟩] h U (ad8 U h):=by
 refine aur ?_;obtain⟨a,cap,rfl,a1⟩:=id aG;unfold aft;refine aD ?_;refine J2.mono ?_;rintro r I V ⟨rfl,rfl,rfl⟩;obtain⟨N,d7,ct⟩:=Kn
 rw[d7];refine aD ?_;refine bC.mk (ad9 n (.slice a es.length cap) es N U h) 60 ⟨0,.slice none 0 0,[],rfl,J,rfl,ab,ab,ab,.inl ab,rfl,by simp,J,aN⟩ ?_;rintro m _ ac Y ⟨i,v2,aV,rfl,aj,rfl,cJ,g1,E,D,sF,hF,HK,hk⟩;obtain⟨a2,bX,c2,rfl⟩:=D.form;rw[aqS];unfold abl;have A:CE s (λaF h_1 Z=>∃bG,bG<60-i/\ad9 n (.slice a es.length cap) es N U h bG aF h_1 Z)
   (λC M n18=>af (iM (some 2) M (a8 C 2)) λx65=>af (aU M 2 (a8 C 1) x65) λh66=>af (iM (some 2) h66 (a8 C 1)) λx67=>ad8 U h x67 h66 n18) (λ_ _ _=>False)
   (bf U) (.pointer (some ⟨U+1,0,none⟩)) (.pointer (some ⟨U+1+1,0,none⟩)) (i:X) (.bool false) ac Y:=by unfold CE;refine cQ @g1 @E ?_;refine⟨N,_,aV,rfl,J,J,hF,D.fj.T ab J J,J,aN⟩
 refine cQ @cJ @E ?_;refine⟨λI=>⟨λap=>?_,λap=>A⟩,λI=>A⟩
 by_cases aM:(0:Int)<(N:Int)
 case neg=>rw[hD aM];exact A
 unfold CE;obtain⟨x,aY⟩:=dR I;obtain⟨_,b,aS,ro,kZ,vv,SJ,DZ⟩:=aG.at aY;cases SJ;have gK:=(hk b vv).trans DZ;simp(disch:=omega)only[bl,cJ,E,gK,rd3 aY,gP aM,seval];refine J2.mono ?_;rintro r I V ⟨rfl,rfl,rfl⟩;obtain⟨f,bE,tZ⟩:=Kn
 rw[bE];refine cQ @cJ @E ?_;refine J2.mono ?_;rintro r I V ⟨rfl,rfl,rfl⟩;obtain⟨t,ci,y5⟩:=Kn
 rw[ci];obtain⟨w,b0,o2,L8⟩:=aqn x.2.2;refine G0 @cJ @E @abc @b0 ?_;refine lJ (enc:=cX)  (λ_=>rfl) (λ_=>rfl) J (D.T ab J) J ⟨f,t,w⟩ (aT _ _ _) rfl (by omega) ?_;intro v3 aM P B;obtain⟨a3,bW,b8,rfl⟩:=P.form;simp(disch:=omega)only[bl,B (U+1+1) J,B (U+1) J,B U J,E,cv (J:i<1000000000000),seval];refine⟨J,60-(i+1),J,i+1,_,aV++[⟨f,t,w⟩],rfl,J,rfl,?_,?_,ab,P.T ab J,ab,?_,J,?_⟩
 ·grind
 ·grind
 ·intro g L;rcases hp.1 L with L|L
  ·exact hF g L
  ·rw[iU.1 L];exact⟨(by omega:f<N),(by omega:t<N),o2,L8⟩
 ·intro b aO;rw[ar J,B b J,ar J,ar J,ar J];exact hk b aO
def afL(R C:Int)(U:Nat)(h:ae):bR:=λr ac Y=>∃(N eP:Nat) (lF ut:Int) (v2:X) (aV:aa GE),r = .tuple ⟨[.agg ⟨[(N:X),v2]⟩,(eP:X),(lF:X),(ut:X)]⟩/\0<N/\N<24/\eP<N/\aV.length<=60/\(∀g∈aV,gT N g)/\eG ac U Y v2 cX aV/\U<=Y/\aA U h ac/\(0<=R->R<=255->1<=lF/\lF<=4)/\(0<=C->C<=255->1<=ut/\ut<=4)
theorem ag2{R:Int}(g:0<=R)(A:R<=255):1<=IntKind.wrap .i64 ((IntKind.wrap .i64 R).tmod 4+1)/\IntKind.wrap .i64 ((IntKind.wrap .i64 R).tmod 4+1)<=4:=by rw[Ay g J,Int.tmod_eq_emod_of_nonneg g,Ay J J];omega
theorem auV{V R C:Int}{v:X}{h:ae}{U:Nat}(aG:cr h U v iz es):aH Q s 15 [.agg ⟨[(n:X),v,(V:X),.int .u8 R,.int .u8 C]⟩] h U (afL R C U h):=by
 refine axe ?_;obtain⟨a,cap,rfl,a1⟩:=id aG;unfold make;refine aD ?_;refine(arA (aG.T aN J)).mono ?_;rintro r E A ⟨N,v2,B,rfl,d7,D,hF,mq,dO,Z⟩;obtain⟨a2,c2,rfl,nq⟩:=id mq;have cJ:=Z U J;have g1:=Z (U+1) J;rw[ar J,aT]at cJ;rw[aT]at g1;have fin:∀(M:Nat) (ac:ae) (a2:aw Addr) (B:aa GE) (c2:Nat),eG E (U+1+1) A (.slice a2 B.length c2) cX B->B.length<=60->0<M->M<24->u ac A=some (.cells [(M:X),.slice a2 B.length c2] false)->u ac U=some (.cells [(n:X),.slice a es.length cap,(V:X),.int .u8 R,.int .u8 C] false)->u ac (U+1)=some (.cells [.int .i64 0,.slice none 0 0] false)->(∀g∈B,gT M g) ->
   (∀b,U+1+1<=b->b<A->u ac b=u E b)->(∀b,b<U->u ac b=u E b)->KM s (afL R C U h) (bf U) (.pointer (some ⟨U+1,0,none⟩)) (bf A) ac (A+1):=by
  intro M ac a2 B c2 mq D HS iv aW aK cf P tV hkl;unfold KM;refine hx @aW @aK @cf ?_;refine J2.mono ?_;rintro r ap jh ⟨rfl,rfl,rfl⟩;obtain⟨f,bE,tZ⟩:=Kn
  rw[bE];refine lh @aW @aK @cf @Ko ?_;refine⟨M,f,_,_,_,B,rfl,HS,iv,J,D,P,mq.T ab J J,J,λb aO=>?_,λL E=>ag2 L E,λL E=>ag2 L E⟩;rw[ar J,hkl b aO,Z b J,ar J,ar J]
 refine aD ?_;refine⟨λL=>?_,λL=>?_⟩
 ·have I:N=0:=ab
  subst I;refine fin 1 _ none [] 0 ⟨none,0,rfl,λh=>absurd rfl h⟩ (by simp) J J ab ?_ ?_ (λg a9=>by cases a9) ?_ ?_
  all_goals grind
 ·have I:N≠0:=ab
  refine fin N _ a2 B c2 mq D J d7 ab ?_ ?_ hF ?_ ?_
  all_goals grind
def fF{az:Type}(h:ae)(U:Nat)(v:X)(enc:az->aa X)(l:aa az):Prop :=
 ∃a cap,v = .slice a l.length cap/\(l≠[]->∃b aS ro cs,b<U/\a=some ⟨b,0,aS⟩/\u h b=some (.cells (bd enc l++cs) ro))
section
variable {az:Type} {h ac:ae} {U Y:Nat} {v:X} {enc:az->aa X} {l:aa az}
theorem fF.T(L:fF h U v enc l)(g:aA U h ac)(B:U<=Y):fF ac Y v enc l:=by obtain⟨a,cap,I,C⟩:=L;refine⟨a,cap,I,λA=>?_⟩;obtain⟨b,aS,M,cs,D,E,P⟩:=C A;exact⟨b,aS,M,cs,J,E,by rw[g b D];omega⟩
theorem fF.of(E:cr h U v enc l):fF h U v enc l:=by obtain⟨a,cap,D,A⟩:=E;refine⟨a,cap,D,λg=>?_⟩;obtain⟨b,aS,I,B,C,L⟩:=A g;exact⟨b,aS,I,[],B,C,ab⟩
theorem fF.at(B:fF h U v enc l){x:az}(D:l[i]? = some x):
  i<l.length/\∃b aS g cap cs,b<U/\v = .slice (some ⟨b,0,aS⟩) l.length cap/\u h b=some (.cells (bd enc l++cs) g):=by
 obtain⟨a,cap,I,A⟩:=B;obtain⟨b,aS,g,cs,E,rfl,C⟩:=A ab
 grind
theorem D0(g:∀x,(enc x).length=k){e:az}(B:l[i]? = some e):hV (some k) (i*k) (bd enc l++cs) = .ok (.agg ⟨enc e⟩):=by
 have A:=tm  g B;have D:=gc  g (l:=l);have C:(i+1)*k<=l.length*k:=ab
 rw[zM,uD]at C;rw[pq,if_pos ab,I2 J,I3 ab,A]
end
def yG(n:Int)(e:iy):Prop:=e.1<0\/n<=e.1\/e.2.1<0\/n<=e.2.1
def Dw(e:iy):Prop:=e.2.2<0\/2147483647<e.2.2
instance (n:Int) (e:iy):Decidable (yG n e):=inferInstanceAs (Decidable (_\/_))
instance (e:iy):Decidable (Dw e):=inferInstanceAs (Decidable (_\/_))
def GF(n:Int)(es:aa iy):Prop:=0<=n/\n<=4096/\es.length<=65536/\(∀e∈es,¬yG n e)/\∀e∈es,¬Dw e
def azo{az:Type}(p:az->al)(es:aa az)(eC:ae->Nat->Prop)(v qW:X)(m:Nat)(aF:aa X)(ac:ae)(Y:Nat):Prop:=∃i,m=es.length-i/\i<=es.length/\aF=[v,qW,.int .i64 0,(es.length:X),(i:X)]/\eC ac Y/\∀x∈es.take i,p x=false
theorem arB{az:Type}{enc:az->aa X}(E:∀x,(enc x).length=3){v:X}{es:aa az}{h:ae}{U:Nat}(p:az->al)(eC:ae->Nat->Prop)(vJ:∀ac Y,eC ac Y->fF ac Y v enc es)(Z:eC h U)(bA:es.length<=65536)(bE:∀g∈es,∀ac Y (K:bR),eC ac Y->(∀(b:al) M A,b=p g->eC M A->K (.bool b) M A)->fh Q s (hP ac Y [.agg ⟨enc g⟩] qW) K):
  aH Q s 255 [v,qW] h U (λr ac Y=>eC ac Y/\((r = .int .i64 (-1)/\∀x∈es,p x=false)\/∃(i:Nat) (x:az),r = (i:X)/\es[i]? = some x/\p x=true/\∀y∈es.take i,p y=false)):=by
 refine auu ?_;unfold index;obtain⟨a,cap,rfl,a1⟩:=id (vJ _ _ Z);refine aD ?_;refine bC.mk (azo p es eC (.slice a es.length cap) qW) es.length ⟨0,J,J,rfl,Z,by simp⟩ ?_;rintro m _ ac Y ⟨i,rfl,aj,rfl,P,L⟩;rw[aqV];unfold abn;refine aD ?_;refine⟨λD=>?_,λD=>?_⟩
 ·obtain⟨x,V⟩:=dR D;obtain⟨_,b,aS,ro,kZ,cs,vv,C,I⟩:=(vJ _ _ P).at V;cases C;simp(disch:=omega)only[bl,I,D0   E V,seval];refine bE x ab ac Y _ P (λce M A aO B=>?_);subst aO;refine bh (cv (J:i<1000000000000)) ?_;refine⟨λbg=>⟨B,ab⟩,λbg=>⟨es.length-(i+1),J,i+1,rfl,D,rfl,B,λy cd=>?_⟩⟩;rw[ho,V]at cd
  grind
 ·have:i=es.length:=J
  subst this;rw[hC]at L;exact⟨P,ab⟩
theorem abN{v:X}{h:ae}{U:Nat}(p:iy->al)(aG:fF h U v iz es)(V:es.length<=65536)(Z:∀g∈es,∀ac Y (K:bR),aA U h ac->U<=Y->(∀(b:al) B A,b=p g->aA Y ac B->Y<=A->K (.bool b) B A)->fh Q s (hP ac Y [.agg ⟨iz g⟩] qW) K):
  aH Q s 164 [v,qW] h U (λr ac Y=>r = .bool (es.any p)/\aA U h ac/\U<=Y):=by
 refine aut ?_;refine(arB  (λ_=>rfl) p (λac Y=>aA U h ac/\U<=Y) (λac Y I=>aG.T I.1 I.2) aN V (λg L ac Y K E hi=>Z g L ac Y K E.1 E.2 (λb B A aO P D=>hi b B A aO aN))).mono ?_;rintro r ac Y ⟨⟨M,C⟩,⟨rfl,rD⟩|⟨i,x,rfl,aY,bg,_⟩⟩
 ·refine aD ?_;exact aN
 ·refine aD ?_;exact⟨by rw[xP.2 ⟨x,kz aY,bg⟩];simp,M,C⟩
def yH(n:Int)(e:iy):al:=(decide (e.1<0)||!decide (e.1<n))||(decide (e.2.1<0)||!decide (e.2.1<n))
theorem ZF:yH n e=true↔yG n e:=by
 unfold yH yG
 grind
def Dx(e:iy):al:=decide (e.2.2<0)||decide (2147483647<e.2.2)
theorem ZG:Dx e=true↔Dw e:=by
 unfold Dx Dw
 grind
def nu(e:iy):GE:=⟨e.1.toNat,e.2.1.toNat,e.2.2⟩
theorem GF.ges(h:GF n es):∃N:Nat,n=(N:Int)/\N<=4096/\bd iz es=bd cX (es.map nu)/\∀g∈es.map nu,gT N g:=by
 obtain⟨Z,V,aM,L,E⟩:=h;refine⟨n.toNat,J,J,?_,λg C=>?_⟩
 ·have:∀l:aa iy,(∀e∈l,¬yG n e)->bd iz l=bd cX (l.map nu):=by
   intro l
   induction l with
   |nil=>intro _;rfl
   |cons x l M =>
    intro B;show iz x++bd iz l=cX (nu x)++bd cX (l.map nu);have P:=B x (nQ ..);unfold yG at P;rw[M (λe A=>B e (mG _ A))]
    congr 1
    unfold iz cX nu
    grind
  grind
 ·obtain⟨e,A,rfl⟩:=fz.1 C;have I:=L e A;have D:=E e A;unfold yG at I;unfold Dw at D;refine⟨?_,?_,?_,?_⟩
  ·show e.1.toNat<n.toNat;omega
  ·show e.2.1.toNat<n.toNat;omega
  ·show 0<=e.2.2;omega
  ·show e.2.2<=2147483647;omega
theorem fF.map{h:ae}{U:Nat}{v:X}{es:aa iy}(A:fF h U v iz es)(e:bd iz es=bd cX (es.map nu)):fF h U v cX (es.map nu):=by
 obtain⟨a,cap,I,g⟩:=A;refine⟨a,cap,ab,λC=>?_⟩;obtain⟨b,aS,L,cs,D,E,B⟩:=g ab
 grind
theorem wrG{h:ae}{b:Nat}{m:aa GE}{x:GE}(g:i<m.length):j4 (some (.cells (bd cX m) false)) h b (i*3) [(x.f:X),(x.t:X),(x.w:X)] = .ok (F h b (.cells (bd cX (m.set i x)) false)):=by show R.of _ (nh (cX x) (bd cX m) (i*3)) _=_;rw[amC (k:=3) (λ_=>rfl) x g];rfl
theorem D1{az:Type}{enc:az->aa X}{l:aa az}(g:∀x,(enc x).length=k){e:az}(A:l[i]? = some e):hV (some k) (i*k) (bd enc l) = .ok (.agg ⟨enc e⟩):=by
 have:=D0 g A (cs:=[])
 grind
def dE(g:GE):dB:=((g.f:Int),(g.t:Int),g.w)
def BN(x:dB):GE:=⟨x.1.toNat,x.2.1.toNat,x.2.2⟩
theorem Ks:∀l:aa GE,bd cX l=bd jX (l.map dE)
 | []=>rfl
 |x::l=>by show cX x++bd cX l=jX (dE x)++bd jX (l.map dE);rw[Ks l];rfl
theorem OM(g:0<=n)(A:n<2147483648):CR n=true:=by
 obtain⟨m,rfl⟩:=xL g;show Nat.blt m 2147483648=true;rw[oE]
 grind
theorem ZH{N:Nat}{g:GE}(A:N<=2147483648)(h:gT N g):lK (dE g):=⟨OM (by show(0:Int)<=(g.f:Int);omega) (by have:=h.1;show((g.f:Int))<_;omega),OM (by show(0:Int)<=(g.t:Int);omega) (by have:=h.2.1;show((g.t:Int))<_;omega),OM h.2.2.1 (by have:=h.2.2.2;show g.w<_;omega)⟩
def Ends(x y:dB):Prop:=x.1=y.1/\x.2.1=y.2.1
theorem Xd(e:dB):∀(l:aa dB),(∀x∈ix e l,∃y∈e::l,Ends x y)/\∀y∈e::l,∃x∈ix e l,Ends x y
 | []=>⟨λx A=>⟨x,A,rfl,rfl⟩,λy g=>⟨y,g,rfl,rfl⟩⟩
 |z::l=>by
  obtain⟨I,D⟩:=Xd e l;have E:ix e (z::l)=(bif f2 z.1 e.1&&f2 z.2.1 e.2.1 then(z.1,z.2.1,bif lk e.2.2 z.2.2 then e.2.2 else z.2.2)::l else z::ix e l):=rfl;rw[E];cases C:(f2 z.1 e.1&&f2 z.2.1 e.2.1)with
  |true =>
   simp only[eB,kT,uE]at C;simp only[qm];refine⟨λx A=>?_,λy g=>?_⟩
   ·rcases gQ.1 A with rfl|A
    ·exact⟨z,by simp,rfl,rfl⟩
    ·exact⟨x,ab,rfl,rfl⟩
   ·rcases gQ.1 g with rfl|g
    ·exact⟨_,nQ ..,C.1,C.2⟩
    ·rcases gQ.1 g with rfl|g
     ·exact⟨_,nQ ..,rfl,rfl⟩
     ·exact⟨y,ab,rfl,rfl⟩
  |false =>
   simp only[mH];refine⟨λx A=>?_,λy g=>?_⟩
   ·rcases gQ.1 A with rfl|A
    ·exact⟨x,by simp,rfl,rfl⟩
    ·obtain⟨y,g,B⟩:=I x A;refine⟨y,?_,B⟩
     grind
   ·rcases gQ.1 g with rfl|g
    ·obtain⟨x,A,B⟩:=D y ab;exact⟨x,ab,B⟩
    ·rcases gQ.1 g with rfl|g
     ·exact⟨y,ab,rfl,rfl⟩
     ·obtain⟨x,A,B⟩:=D y ab;exact⟨x,ab,B⟩
theorem Xe:∀(l g:aa dB),(∀x∈h9 g l,∃y∈g++l,Ends x y)/\∀y∈g++l,∃x∈h9 g l,Ends x y
 | [],g=>⟨λx E=>⟨x,by simpa[h9]using E,rfl,rfl⟩,λy A=>⟨y,by simpa[h9]using A,rfl,rfl⟩⟩
 |e::l,g=>by
  obtain⟨h1,L⟩:=Xe l (ix e g);obtain⟨P,Z⟩:=Xd e g;refine⟨λx E=>?_,λy A=>?_⟩
  ·obtain⟨y,A,C⟩:=h1 x E;rcases hp.1 A with A|A
   ·obtain⟨z,M,B⟩:=P y A;refine⟨z,?_,C.1.trans B.1,C.2.trans B.2⟩
    grind
   ·exact⟨y,ab,C⟩
  ·have D:∀z∈e::g,∃x∈h9 (ix e g) l,Ends x z:=λz M=>by obtain⟨x,E,C⟩:=Z z M;obtain⟨V,I,B⟩:=L x ab;exact⟨V,I,B.1.trans C.1,B.2.trans C.2⟩
   rcases hp.1 A with A|A
   ·exact D y ab
   ·rcases gQ.1 A with rfl|A
    ·exact D _ ab
    ·exact L y ab
end Go.Proofs.YthlhhajnbgjfmaaGreat
