/- Parts of the proof: HwFn1: each statement bears its own conditions. -/
import Derived.Test.YthlhhajnbgjfmaaGreatProg
import Derived.KernelRfl
import Derived.Shelf.SlGeneric
import Derived.Test.YthlhhajnbgjfmaaGreatRpHw2
namespace Go.Proofs.YthlhhajnbgjfmaaGreat
open Go Go.Ax Go.Shelf Go.Proofs
set_option maxRecDepth 1000000
theorem mixed:Tryz.prog.follows .mixedOrders=true:=by kernel_rfl
theorem avh:Tryz.prog.funcs.toList.all Gq=true:=by kernel_rfl
theorem H1:qe Tryz.prog:=qe.of mixed avh
set_option linter.all false
set_option maxHeartbeats 1000000
variable {s:al} {N R:aP} {aC:X} {aL:aP} {aD a2 ba bp aZ:X} {n:Int} {es:aa hZ} {a3:X} {x a b:Int} {f:Nat} {bv bA:X} {aB:aw Nat} {ej hg et:X} {r:Int} {i:Nat} {lk jd:X} {cs:aa X} {cap:Nat} {aK:aP} {e:hZ} {gt kR lD dd gj:X} {k:Nat} {K:bN} {cF rl:X} {aU:aP} {y:Int}
theorem u28:Tryz.prog.underlying 53=some (.array 2 3):=by kernel_rfl
theorem zF:Tryz.prog.underlying 3=some (.int .i64):=by kernel_rfl
theorem k28:Tryz.prog.keyTypeAt 8 53=true:=by kernel_rfl
theorem c28:Tryz.prog.cellsOf 53=2:=by kernel_rfl
theorem ci:Tryz.prog.cellsOf 3=1:=by kernel_rfl
theorem Rl{k:IntKind}(g:k = .i64\/k = .u64){m:Nat}(h:m<4294967296):(Lit.int k (m:Int)).wf=true:=by
 rcases g with rfl|rfl <;> simp[Lit.wf,IntKind.min,IntKind.max,IntKind.bits,IntKind.signed] <;> omega
theorem adJ{a b:Nat}(C:a<2147483648)(D:b<2147483648):Tryz.prog.keyLits 8 53 [.int .i64 (a:Int),.int .i64 (b:Int)]=some [.int .i64 (a:Int),.int .i64 (b:Int)]:=by
 have E:=Rl (k:=.i64) (.inl rfl) (J:a<4294967296)
 have B:=Rl (k:=.i64) (.inl rfl) (J:b<4294967296)
 have g:∀m:Nat,m<4294967296->Tryz.prog.keyLits 7 3 [.int .i64 (m:Int)]=some [.int .i64 (m:Int)]:=λm A=>by unfold Program.keyLits;simp only[zF,Rl (k:=.i64) (.inl rfl) A,and_self,if_true]
 unfold Program.keyLits;simp only[u28,c28,ci,nC,Fr,Nat.reduceAdd,if_true];rw[show List.range 2=[0,1]from rfl];simp only[CE,List.mapM_nil,lY,uR,oe,NN,Fm,sz,g a J,g b J];rfl
theorem Rm:Lj Tryz.prog 53:=λx y E P=>by
 obtain⟨a,b,c⟩:=x;obtain⟨d,e,f⟩:=y;obtain⟨A,L,ao⟩:=uX E.1;obtain⟨g,D,a9⟩:=uX E.2.1;obtain⟨C,M,cy⟩:=uX P.1;obtain⟨B,V,Z⟩:=uX P.2.1;simp only at L D M V;subst L D M V;show sX Tryz.prog 53 (.agg ⟨[(A:X),(g:X)]⟩) (.agg ⟨[(C:X),(B:X)]⟩)=_;have I:∀a b:Int,(Value.agg ⟨[.int .i64 a,.int .i64 b]⟩).formed Tryz.prog 53=true:=λa b=>by simp[Value.formed,u28,c28]
 unfold sX;rw[k28,I,I];show(bif true&&(true&&true&&true&&true)then L6 (Tryz.prog.keyLits 8 53 [.int .i64 (A:Int),.int .i64 (g:Int)]) (Tryz.prog.keyLits 8 53 [.int .i64 (C:Int),.int .i64 (B:Int)])else none)=_;rw[adJ ao a9,adJ cy Z];show some ((mC .i64 .i64&&fk A C)&&((mC .i64 .i64&&fk g B)&&true))=some (fk C A&&fk B g);rw[wy,k4,k4,k4,k4]
 congr 1
 simp only[Bool.true_and,Bool.and_true];rw[Bool.beq_comm (a:=(A:Int)),Bool.beq_comm (a:=(g:Int))]
def T0:Field:={ name := "Hi",type:=2,offset:=0,embedded:=false,tag := "",pkgPath := "",byteOffset:=0 }
def T1:Field:={ name := "Lo",type:=188,offset:=1,embedded:=false,tag := "",pkgPath := "",byteOffset:=8 }
theorem ahj:Tryz.prog.underlying 272=some (.struct #[T0,T1]):=by kernel_rfl
theorem EX:Tryz.prog.underlying 2=some (.int .i64):=by kernel_rfl
theorem az2:Tryz.prog.underlying 188=some (.int .u64):=by kernel_rfl
theorem az3:Tryz.prog.keyTypeAt 8 272=true:=by kernel_rfl
theorem ax5:Gi Tryz.prog 272=true:=by kernel_rfl
theorem ahk:Tryz.prog.cellsOf 272=2:=by kernel_rfl
theorem c2:Tryz.prog.cellsOf 2=1:=by kernel_rfl
theorem az4:Tryz.prog.cellsOf 188=1:=by kernel_rfl
def dI(v:X)(U:Nat)(h:ae):bN:=λr ac Y=>r=v/\aA U h ac/\U<=Y
abbrev fs(v:X)(U:Nat)(h:ae):bN:=λr ac Y=>r=v/\ac=h/\Y=U
theorem adK:IntKind.wrap .i64 n=(if n % 18446744073709551616≥9223372036854775808 then n % 18446744073709551616-18446744073709551616 else n % 18446744073709551616):=by simp only[IntKind.wrap,IntKind.signed,IntKind.bits];simp
noncomputable abbrev Q:Program:=Tryz.prog
instance:Inhabited GE:=⟨⟨0,0,0⟩⟩
def qY(x y:GE):Int:=hJ [fV (x.f:Int) (y.f:Int),fV (x.t:Int) (y.t:Int)]
theorem mh:qe Q:=H1
def ax(h:ae)(n:Nat)(x:X)(k:X->Prop):Prop:=af (AM n x) λd=>af (iz none h d) k
def jw(m:Nat)(h:ae)(n:Nat)(x:X)(k:X->Prop):Prop:=af (AM n x) λd=>af (iz (some m) h d) k
def d2(h:ae)(n:Nat)(x i:X)(k:X->Prop):Prop:=af (iy (.slice n) x i) λd=>af (iz none h d) k
def gT(m:Nat)(h:ae)(n:Nat)(x i:X)(k:X->Prop):Prop:=af (iy (.slice n) x i) λd=>af (iz (some m) h d) k
def bz(o:BinOp)(t:TypeId)(a b:X)(p q:Prop):Prop:=af (bin Q o t a b) λv=>br v p q
def mi(a:X)(p q:Prop):Prop:=af (bin Q .neq 30 a (.int .i64 0)) λv=>br v p q
def cG(a b:X)(p q:Prop):Prop:=af (bin Q .lss 3 a b) λv=>br v p q
def jY(a b:X)(p q:Prop):Prop:=af (bin Q .gtr 3 a b) λv=>br v p q
def cj(a:X)(k:X->Prop):Prop:=af (bin Q .add 3 a (.int .i64 1)) k
def ln(a b:X)(k:X->Prop):Prop:=af (bin Q .add 3 a b) k
abbrev VJ:=al->ae->Nat->bN->Prop
abbrev aCW(f:Nat)(eA:VJ):=∀{s  h U K},eA s  h U K->aE Q s f [] h U K
theorem zf0{g:VJ}(L:aa (aa Nat))(e:∀s  h U K,oT Q s L f [] h U K=g s  h U K:=by intros;kernel_rfl):aCW f g:=λw=>aE.BA mh L w (e _ _ _ _)
abbrev cU:=al->X->ae->Nat->bN->Prop
abbrev cW(f:Nat)(eA:cU):=∀{s ah h U K},eA s ah h U K->aE Q s f [ah] h U K
theorem cY{g:cU}(L:aa (aa Nat))(e:∀s A h U K,oT Q s L f [A] h U K=g s A h U K:=by intros;kernel_rfl):cW f g:=λw=>aE.BA mh L w (e _ _ _ _ _)
abbrev cO:=al->X->X->ae->Nat->bN->Prop
abbrev cX(f:Nat)(eA:cO):=∀{s ah t1 h U K},eA s ah t1 h U K->aE Q s f [ah,t1] h U K
theorem cZ{g:cO}(L:aa (aa Nat))(e:∀s B A h U K,oT Q s L f [B,A] h U K=g s B A h U K:=by intros;kernel_rfl):cX f g:=λw=>aE.BA mh L w (e _ _ _ _ _ _)
abbrev ge:=al->X->X->X->ae->Nat->bN->Prop
abbrev gp(f:Nat)(eA:ge):=∀{s ah t1 t2 h U K},eA s ah t1 t2 h U K->aE Q s f [ah,t1,t2] h U K
theorem gu{g:ge}(L:aa (aa Nat))(e:∀s C B A h U K,oT Q s L f [C,B,A] h U K=g s C B A h U K:=by intros;kernel_rfl):gp f g:=λw=>aE.BA mh L w (e _ _ _ _ _ _ _)
abbrev sr:=al->X->X->X->X->ae->Nat->bN->Prop
abbrev uC(f:Nat)(eA:sr):=∀{s ah t1 t2 t3 h U K},eA s ah t1 t2 t3 h U K->aE Q s f [ah,t1,t2,t3] h U K
theorem vK{g:sr}(L:aa (aa Nat))(e:∀s C D B A h U K,oT Q s L f [C,D,B,A] h U K=g s C D B A h U K:=by intros;kernel_rfl):uC f g:=λw=>aE.BA mh L w (e _ _ _ _ _ _ _ _)
abbrev xO:=al->X->X->X->X->X->ae->Nat->bN->Prop
abbrev zG(f:Nat)(eA:xO):=∀{s ah t1 t2 t3 f1 h U K},eA s ah t1 t2 t3 f1 h U K->aE Q s f [ah,t1,t2,t3,f1] h U K
theorem BH{g:xO}(L:aa (aa Nat))(e:∀s C D B A E h U K,oT Q s L f [C,D,B,A,E] h U K=g s C D B A E h U K:=by intros;kernel_rfl):zG f g:=λw=>aE.BA mh L w (e _ _ _ _ _ _ _ _ _)
abbrev Np:=al->X->X->X->X->X->X->ae->Nat->bN->Prop
abbrev VK(f:Nat)(eA:Np):=∀{s ah t1 t2 t3 f1 tm h U K},eA s ah t1 t2 t3 f1 tm h U K->aE Q s f [ah,t1,t2,t3,f1,tm] h U K
theorem zf6{g:Np}(L:aa (aa Nat))(e:∀s D E C A I B h U K,oT Q s L f [D,E,C,A,I,B] h U K=g s D E C A I B h U K:=by intros;kernel_rfl):VK f g:=λw=>aE.BA mh L w (e _ _ _ _ _ _ _ _ _ _)
def bt(o:BinOp)(t:TypeId)(a b:X)(k:X->Prop):Prop:=af (bin Q o t a b) k
def aV(s:al)(f:Nat)(l:aa X)(h:ae)(n:Nat)(k:bN):Prop:=aE Q s f l h n k
def cg(f:Nat)(l:aa X)(h:ae)(n:Nat)(k:bN):Prop:=aE Q true f l h n λv ac jB=>n<=jB/\k v ac jB
def bk:=And.intro @VG (And.intro @bt.eq_1 (And.intro @bn.eq_1 (And.intro @bS.eq_1 (And.intro @aN.eq_1 (And.intro @hx.eq_1 (And.intro @cP.eq_1 (And.intro @cg.eq_1 (And.intro @c7.eq_1 (And.intro @aV.eq_1 (And.intro @bH.eq_1 (And.intro @bX.eq_1 (And.intro @jt.eq_1 (And.intro @ad.eq_1 (And.intro @ay.eq_1 (And.intro @ax.eq_1 (And.intro @jw.eq_1 (And.intro @d2.eq_1 (And.intro @gT.eq_1 (And.intro @bz.eq_1 (And.intro @mi.eq_1 (And.intro @cG.eq_1 (And.intro @jY.eq_1 (And.intro @cj.eq_1 @ln.eq_1)))))))))))))))))))))))
theorem m6{p q:Prop}(h:q)(e:q->p:=by intro  h;simp(config:={maxSteps:=1000000})(disch:=omega)only[bk,↓reduceIte,Nat.reduceAdd,Nat.reduceSub,Nat.reduceMul,Nat.reduceLT,Nat.reduceLeDiff,Nat.reduceEqDiff,Int.reduceBEq,Int.reduceLT,Int.reduceNeg];exact h):p:=e  h
theorem mv{p q g:Prop}(aC:g)(h:q)(e:g->q->p:=by intro aC h;simp(config:={maxSteps:=1000000})(disch:=omega)only[bk,↓reduceIte,Nat.reduceAdd,Nat.reduceSub,Nat.reduceMul,Nat.reduceLT,Nat.reduceLeDiff,Nat.reduceEqDiff,Int.reduceBEq,Int.reduceLT,Int.reduceNeg,aC];exact h):p:=e aC h
theorem tN{p q A g:Prop}(aC:A)(aD:g)(h:q)(e:A->g->q->p:=by intro aC aD h;simp(config:={maxSteps:=1000000})(disch:=omega)only[bk,↓reduceIte,Nat.reduceAdd,Nat.reduceSub,Nat.reduceMul,Nat.reduceLT,Nat.reduceLeDiff,Nat.reduceEqDiff,Int.reduceBEq,Int.reduceLT,Int.reduceNeg,aC,aD];exact h):p:=e aC aD h
theorem R9{p q B A g:Prop}(aC:B)(aD:A)(a2:g)(h:q)(e:B->A->g->q->p:=by intro aC aD a2 h;simp(config:={maxSteps:=1000000})(disch:=omega)only[bk,↓reduceIte,Nat.reduceAdd,Nat.reduceSub,Nat.reduceMul,Nat.reduceLT,Nat.reduceLeDiff,Nat.reduceEqDiff,Int.reduceBEq,Int.reduceLT,Int.reduceNeg,aC,aD,a2];exact h):p:=e aC aD a2 h
theorem Hf{p q C B A g:Prop}(aC:C)(aD:B)(a2:A)(a3:g)(h:q)(e:C->B->A->g->q->p:=by intro aC aD a2 a3 h;simp(config:={maxSteps:=1000000})(disch:=omega)only[bk,↓reduceIte,Nat.reduceAdd,Nat.reduceSub,Nat.reduceMul,Nat.reduceLT,Nat.reduceLeDiff,Nat.reduceEqDiff,Int.reduceBEq,Int.reduceLT,Int.reduceNeg,aC,aD,a2,a3];exact h):p:=e aC aD a2 a3 h
theorem Sa{p q B D g C A:Prop}(aC:B)(aD:D)(a2:g)(a3:C)(aZ:A)(h:q)(e:B->D->g->C->A->q->p:=by intro aC aD a2 a3 aZ h;simp(config:={maxSteps:=1000000})(disch:=omega)only[bk,↓reduceIte,Nat.reduceAdd,Nat.reduceSub,Nat.reduceMul,Nat.reduceLT,Nat.reduceLeDiff,Nat.reduceEqDiff,Int.reduceBEq,Int.reduceLT,Int.reduceNeg,aC,aD,a2,a3,aZ];exact h):p:=e aC aD a2 a3 aZ h
theorem aG{p q:Prop}(h:q)(e:q->p:=by intro  h;simp(config:={maxSteps:=1000000})(disch:=omega)only[bk,seval];exact h):p:=e  h
theorem bl{p q g:Prop}(aC:g)(h:q)(e:g->q->p:=by intro aC h;simp(config:={maxSteps:=1000000})(disch:=omega)only[bk,aC,seval];exact h):p:=e aC h
theorem cN{p q A g:Prop}(aC:A)(aD:g)(h:q)(e:A->g->q->p:=by intro aC aD h;simp(config:={maxSteps:=1000000})(disch:=omega)only[bk,aC,aD,seval];exact h):p:=e aC aD h
theorem hV{p q B A g:Prop}(aC:B)(aD:A)(a2:g)(h:q)(e:B->A->g->q->p:=by intro aC aD a2 h;simp(config:={maxSteps:=1000000})(disch:=omega)only[bk,aC,aD,a2,seval];exact h):p:=e aC aD a2 h
theorem ls{p q C B A g:Prop}(aC:C)(aD:B)(a2:A)(a3:g)(h:q)(e:C->B->A->g->q->p:=by intro aC aD a2 a3 h;simp(config:={maxSteps:=1000000})(disch:=omega)only[bk,aC,aD,a2,a3,seval];exact h):p:=e aC aD a2 a3 h
theorem tO{p q B D g C A:Prop}(aC:B)(aD:D)(a2:g)(a3:C)(aZ:A)(h:q)(e:B->D->g->C->A->q->p:=by intro aC aD a2 a3 aZ h;simp(config:={maxSteps:=1000000})(disch:=omega)only[bk,aC,aD,a2,a3,aZ,seval];exact h):p:=e aC aD a2 a3 aZ h
theorem AP{p q C E g D A B:Prop}(aC:C)(aD:E)(a2:g)(a3:D)(aZ:A)(bA:B)(h:q)(e:C->E->g->D->A->B->q->p:=by intro aC aD a2 a3 aZ bA h;simp(config:={maxSteps:=1000000})(disch:=omega)only[bk,aC,aD,a2,a3,aZ,bA,seval];exact h):p:=e aC aD a2 a3 aZ bA h
def adL:cO:=λs ah t1 h U K=>cG t1 (ad 1) (K (ad 0) h U) (cG ah (ad 0) (K (ad 0) h U) (bt .rem 3 ah t1 λc=>K c h U))
theorem arD:cX 79 adL:=cZ []
def Rn:aa (aa Nat):=[[1,2,3,4]]
def C8(s:al)(N:aP)(aL:aP)(R:aP)(cz cE cm di y23:X)(au:ae)(a0:Nat):Prop:=br y23 (ax au 1 cz λb=>gT 3 au 3 b di λd=>bX [(ad 0),(ad 0),(ad 0)] au a0 λe f g=>af (aS f 3 e d) λi=>ax i 0 e λk=>ax i 0 cm λm=>cg 79 [k,m] i g λn o p=>bn 1 e λq=>bS o q λr=>c7 q r (bn 0 cm λt=>bS o t λaO=>c7 t aO (cg 79 [r,aO] o p λv w x=>bn 1 cm λy=>bS w y λz=>c7 y z (bn 2 e λbC=>bS w bC λbV=>c7 bC bV (bt .and 2 bV (ad 2147483647) λbM=>af (cV [(ad 0),(ad 0),(ad 0)] [(0,1,n),(1,1,v),(2,1,bM)]) λbg=>dY (fc 1 [(ad 0),(ad 0),(ad 0)] [(0,3,bg)]) w x λbW b7 bI=>dG (dO (dM 3 b7 bI z bW)) λcJ cB ds=>bI<=ds/\bn 1 cm λde=>af (aS cB 1 de cJ) λeN=>cj di λam=>N [cz,cE,cm,am] eN ds) 2 [o,i]) 2 [o,i]) 1 [i]) 1 [i]) (aL [cz,cE,cm,di] au a0)
def abB(s:al)(aD a2 a3 aZ:X)(h:ae)(U:Nat)(N:aP)(aL:aP)(R:aP):Prop:=ax h 1 aD λb=>cP b λc=>cG aZ c (cG aZ (ad 60) (ax h 0 a3 λg=>bt .gtr 3 g (ad 0) λi=>(C8 s N aL R aD a2 a3 aZ i h U)) (C8 s N aL R aD a2 a3 aZ (.bool false) h U)) (C8 s N aL R aD a2 a3 aZ (.bool false) h U)
def afO:cU:=λs ah h U K=>bH ah h U λa b c=>bX [(ad 0),ay] b c λd e f=>ax e 0 a λi=>aV s 79 [i,(ad 24)] e f λj k l=>af (cV [(ad 0),ay] [(0,1,j)]) λm=>bX [(ad 0),ay] k l λn o p=>af (aS o 2 n m) λq=>bE (bU Q s Rn 78 0) [a,d,n,(ad 0)] q p [(0,λr t aO=>aN 2 t (bb r 2) λv=>af (aS t 2 (bb r 1) v) λw=>aN 2 w (bb r 1) λx=>K x w aO)] (λ_ _ _=>False)
theorem arE{h:ae}{U:Nat}:bU Q s Rn 78 0 [aD,a2,a3,aZ] h U N [(0,aL)] R=abB s aD a2 a3 aZ h U N aL R:=by kernel_rfl
theorem avi:cW 78 afO:=cY Rn
def K4(s:al)(K:bN)(cz cE ev:X)(au:ae)(a0:Nat):Prop:=ax au 2 cz λb=>ax au 0 ev λd=>cg 79 [b,d] au a0 λe f g=>aN 2 f ev λi=>jt 2 ev i (af (aS f 2 cE i) λj=>bn 3 cz λk=>bS j k λl=>c7 k l (af (ou (.int .i64) l) λm=>bt .rem 3 m (ad 4) λn=>cj n λo=>bn 4 cz λp=>bS j p λq=>c7 p q (af (ou (.int .i64) q) λr=>bt .rem 3 r (ad 4) λt=>cj t λaO=>aN 2 j cE λv=>K (.tuple ⟨[v,e,o,aO]⟩) j g) 2 [f,au]) 2 [f,au]) 1 [au]
def make:cU:=λs ah h U K=>bH ah h U λa b c=>bX [(ad 0),ay] b c λd e f=>jw 2 e 0 a λi=>aV s 78 [i] e f λj k l=>bX [(ad 0),ay] k l λm n o=>af (aS n 2 m j) λp=>ax p 0 m λr=>bz .eql 3 r (ad 0) (af (cV [(ad 0),ay] [(0,1,(ad 1))]) λaO=>af (aS p 2 m aO) λv=>(K4 s K a d m v o)) (K4 s K a d m p o)
theorem ax6:cW 15 make:=cY []
def right:cU:=λs ah h U K=>bH ah h U λa b c=>af (.ok (Value.func (.func 163) ⟨[]⟩ ⟨[a]⟩)) λd=>bX [.nilFunc] b c λe f g=>af (aS f 1 e d) λi=>ax i 0 a λk=>cG k (ad 0) (K (ad 3) i g) (ax i 0 a λn=>jY n (ad 4096) (K (ad 5) i g) (ax i 1 a λq=>cP q λr=>jY r (ad 65536) (K (ad 5) i g) (ax i 1 a λv=>af (.ok (Value.func (.func 165) ⟨[]⟩ ⟨[e]⟩)) λw=>aV s 164 [v,w] i g λx y z=>br x (K (ad 3) y z) (ax y 1 a λbV=>aV s 164 [bV,(.func (.func 166) #[] #[])] y z λbM bg bW=>br bM (K (ad 7) bg bW) (K (ad 0) bg bW)))))
theorem avj:cW 83 right:=cY []
def Ro:cO:=λs ah t1 h U K=>cG ah (ad 0) (K (.bool true) h U) (ax h 0 t1 λc=>bt .geq 3 ah c λd=>K d h U)
theorem abC:cX 163 Ro:=cZ []
def adM:cO:=λs ah t1 h U K=>bH ah h U λa b c=>bS b t1 λd=>ax b 0 a λf=>eQ Q s (hU b c [f] d) λg i j=>br g (K (.bool true) i j) (bS i t1 λk=>ax i 1 a λm=>eQ Q s (hU i j [m] k) λn o p=>K n o p)
theorem arF:cX 165 adM:=cZ []
def adN:cU:=λs ah h U K=>bH ah h U λa b c=>ax b 2 a λe=>bz .lss 2 e (ad 0) (K (.bool true) b c) (ax b 2 a λi=>bt .gtr 2 i (ad 2147483647) λj=>K j b c)
theorem arG:cW 166 adN:=cY []
def ax7:cO:=λs ah t1 h U K=>aV s 255 [ah,t1] h U λa b c=>bt .geq 3 a (ad 0) λd=>K d b c
theorem avk:cX 164 ax7:=cZ []
def Rp:aa (aa Nat):=[[0,1,4,7,8]]
def abD(s:al)(aC aD aZ ba bv:X)(h:ae)(U:Nat)(N:aP)(aL:aP)(R:aP):Prop:=cG bv ba (gT 3 h 3 aC bv λc=>eQ Q s (hU h U [c] aD) λd e f=>br d (R [aC,aD,bv,ba,bv] e f) (cj bv λg=>N [aC,aD,aZ,ba,g] e f)) (aL [aC,aD,aZ,ba,bv] h U)
def index:cO:=λs ah t1 h U K=>cP ah λa=>bE (bU Q s Rp 255 0) [ah,t1,(ad 0),a,(ad 0)] h U [(0,λb c d=>K (ad (-1)) c d)] (λe f g=>K (bb e 2) f g)
theorem arH{h:ae}{U:Nat}:bU Q s Rp 255 0 [aC,aD,aZ,ba,bv] h U N [(0,aL)] R=abD s aC aD aZ ba bv h U N aL R:=by kernel_rfl
theorem avl:cX 255 index:=cZ Rp
def Sb:aa (aa Nat):=[[0,1,4,12,13]]
def adO(s:al)(aC aD aZ ej gt:X)(h:ae)(U:Nat)(N:aP)(aL:aP)(R:aP):Prop:=cG gt ej (d2 h 1 aC gt λc=>d2 h 1 aD gt λe=>bz .neq 2 c e (R [aC,aD,(.bool false),ej,gt] h U) (cj gt λg=>N [aC,aD,aZ,ej,g] h U)) (aL [aC,aD,aZ,ej,gt] h U)
def ahl:cO:=λs ah t1 h U K=>cP ah λa=>cP t1 λb=>bz .neq 3 a b (K (.bool false) h U) (cP ah λd=>bE (bU Q s Sb 85 0) [ah,t1,(.bool false),d,(ad 0)] h U [(0,λe f g=>K (.bool true) f g)] (λi j k=>K (bb i 2) j k))
theorem avm{h:ae}{U:Nat}:bU Q s Sb 85 0 [aC,aD,aZ,ej,gt] h U N [(0,aL)] R=adO s aC aD aZ ej gt h U N aL R:=by kernel_rfl
theorem ax8:cX 85 ahl:=cZ Sb
def Qa:cU:=λs ah h U K=>bz .eql 29 ah ay (K ay h U) (dY (fc 0 [] []) h U λb c d=>dG (dO (dM 1 c d b ah)) λe f g=>K e f g)
theorem Zy:cW 88 Qa:=cY []
def Rq:aa (aa Nat):=[[0,1,4,5]]
def abE(s:al)(aC aD aZ bA:X)(h:ae)(U:Nat)(N:aP)(aL:aP)(R:aP):Prop:=cP aC λa=>cG bA a (d2 h 1 aC bA λd=>d2 h 1 aD bA λf=>bz .neq 2 d f (R [aC,aD,(.bool false),bA] h U) (cj bA λi=>N [aC,aD,aZ,i] h U)) (aL [aC,aD,aZ,bA] h U)
def afP:cO:=λs ah t1 h U K=>cP ah λa=>cP t1 λb=>bz .neq 3 a b (K (.bool false) h U) (bE (bU Q s Rq 19 0) [ah,t1,(.bool false),(ad 0)] h U [(0,λd e f=>K (.bool true) e f)] (λg i j=>K (bb g 2) i j))
theorem arI{h:ae}{U:Nat}:bU Q s Rq 19 0 [aC,aD,aZ,bA] h U N [(0,aL)] R=abE s aC aD aZ bA h U N aL R:=by kernel_rfl
theorem avn:cX 19 afP:=cZ Rq
def afQ:cU:=λs ah h U K=>bH ah h U λa b c=>bX [(ad 0),ay] b c λd e f=>ax e 1 a λi=>aV s 172 [(ad 1),i] e f λj k l=>af (cp j 0) λm=>af (cp j 1) λn=>ax k 0 a λp=>af (cV [(ad 0),ay] [(0,1,p),(1,1,m)]) λq=>af (aS k 2 d q) λr=>aN 2 r d λt=>K t r l
theorem avo:cW 98 afQ:=cY []
def below:cO:=λs ah t1 h U K=>bH ah h U λa b c=>bH t1 b c λd e f=>ax e 0 a λi=>ax e 0 d λk=>cG i k (K (.bool true) e f) (ax e 0 a λn=>ax e 0 d λp=>bz .eql 3 n p (ax e 1 a λt=>ax e 1 d λv=>bt .lss 3 t v λw=>K w e f) (K (.bool false) e f))
def sF(s:al)(K:bN)(cm di:X)(au:ae)(a0:Nat):Prop:=aN 2 au cm λa=>aV s 189 [a] au a0 λb c d=>af (cp b 0) λe=>af (cp b 1) λf=>af (aS c 5 di e) λg=>aN 5 g di λi=>K (.tuple ⟨[i,f]⟩) g d
def Rr:cO:=λs ah t1 h U K=>bH ah h U λa b c=>bH t1 b c λd e f=>bX [(ad 0),(ad 0),ay,ay,ay] e f λg i j=>aN 5 i a λk=>aV s 187 [k] i j λl m n=>mi l (af (cV [(ad 0),(ad 0),ay,ay,ay] []) λp=>af (aS m 5 g p) λq=>aN 5 q g λr=>K (.tuple ⟨[r,l]⟩) q n) (ax m 0 d λaO=>ax m 1 a λw=>bz .neq 3 aO w (af (cV [(ad 0),(ad 0),ay,ay,ay] []) λy=>af (aS m 5 g y) λz=>aN 5 z g λbC=>K (.tuple ⟨[bC,(ad 4)]⟩) z n) (aN 2 m d λbV=>aV s 83 [bV] m n λbM bg bW=>mi bM (af (cV [(ad 0),(ad 0),ay,ay,ay] []) λbI=>af (aS bg 5 g bI) λcJ=>aN 5 cJ g λcB=>K (.tuple ⟨[cB,bM]⟩) cJ bW) (ax bg 0 a λde=>bz .eql 40 de (ad 5) (aN 2 bg d λam=>aV s 182 [am] bg bW λan eU gG=>af (aS eU 2 d an) λgU=>aN 2 gU d λgL=>aV s 181 [gL] gU gG λio i0 gH=>af (aS i0 2 d io) λmj=>aN 2 mj d λlQ=>aV s 188 [lQ] mj gH λlR oX qw=>af (aS oX 2 d lR) λbm=>(sF s K d g bm qw)) (bz .eql 40 de (ad 3) (aN 2 bg d λbe=>aV s 181 [be] bg bW λi1 pC gf=>af (aS pC 2 d i1) λbi=>aN 2 bi d λxP=>aV s 188 [xP] bi gf λpB lS jC=>af (aS lS 2 d pB) λv7=>(sF s K d g v7 jC)) (bz .eql 40 de (ad 1) (aN 2 bg d λuD=>aV s 188 [uD] bg bW λeV B9 qx=>af (aS B9 2 d eV) λkW=>(sF s K d g kW qx)) (sF s K d g bg bW))))))
theorem abF:cX 114 Rr:=cZ []
def Af(s:al)(K:bN)(cz:X)(au:ae)(a0:Nat):Prop:=ax au 4 cz λb=>cP b λc=>jY c (ad 65536) (K (ad 5) au a0) (ax au 4 cz λf=>aV s 278 [f,(.func (.func 279) #[] #[])] au a0 λg i j=>br g (K (ad 7) i j) (K (ad 0) i j))
def FR(s:al)(K:bN)(cz lE:X)(au:ae)(a0:Nat):Prop:=br lE (K (ad 8) au a0) (ax au 1 cz λb=>aV s 277 [b,(ad 4096)] au a0 λc d e=>af (du .not c) λf=>br f (K (ad 3) d e) (ax d 0 cz λi=>bz .eql 40 i (ad 4) (ax d 3 cz λl=>aV s 277 [l,(ad 8192)] d e λm n o=>af (du .not m) λp=>br p (K (ad 3) n o) (ax n 2 cz λr=>ax n 1 cz λaO=>bt .sub 3 aO (ad 1) λv=>aV s 277 [r,v] n o λw x y=>af (du .not w) λz=>br z (K (ad 3) x y) (Af s K cz x y))) (bz .eql 40 i (ad 1) (ax d 2 cz λbM=>ax d 1 cz λbW=>bt .sub 3 bW (ad 1) λb7=>aV s 277 [bM,b7] d e λbI cJ cB=>af (du .not bI) λds=>br ds (K (ad 3) cJ cB) (Af s K cz cJ cB)) (bz .eql 40 i (ad 2) (ax d 2 cz λam=>ax d 1 cz λeU=>bt .sub 3 eU (ad 1) λgG=>aV s 277 [am,gG] d e λgU gL io=>af (du .not gU) λi0=>br i0 (K (ad 3) gL io) (Af s K cz gL io)) (Af s K cz d e)))))
def abG:cU:=λs ah h U K=>bH ah h U λa b c=>ax b 0 a λe=>bz .leq 40 e (ad 0) (FR s K a (.bool true) b c) (ax b 0 a λi=>bt .gtr 40 i (ad 5) λj=>(FR s K a j b c))
theorem anM:cW 187 abG:=cY []
def abH:cO:=λs ah t1 h U K=>bz .geq 3 ah (ad 0) (bt .leq 3 ah t1 λb=>K b h U) (K (.bool false) h U)
theorem anN:cX 277 abH:=cZ []
def avp:cO:=λs ah t1 h U K=>aV s 366 [ah,t1] h U λa b c=>bt .geq 3 a (ad 0) λd=>K d b c
theorem arJ:cX 278 avp:=cZ []
def abI:cU:=λs ah h U K=>bz .lss 2 ah (ad 0) (K (.bool true) h U) (bt .gtr 2 ah (ad 2147483647) λb=>K b h U)
theorem anO:cW 279 abI:=cY []
def Qb:aa (aa Nat):=[[0,1,4,7,8]]
def Zz(s:al)(aC aD aZ ba bv:X)(h:ae)(U:Nat)(N:aP)(aL:aP)(R:aP):Prop:=cG bv ba (d2 h 1 aC bv λc=>eQ Q s (hU h U [c] aD) λd e f=>br d (R [aC,aD,bv,ba,bv] e f) (cj bv λg=>N [aC,aD,aZ,ba,g] e f)) (aL [aC,aD,aZ,ba,bv] h U)
def adP:cO:=λs ah t1 h U K=>cP ah λa=>bE (bU Q s Qb 366 0) [ah,t1,(ad 0),a,(ad 0)] h U [(0,λb c d=>K (ad (-1)) c d)] (λe f g=>K (bb e 2) f g)
theorem anP{h:ae}{U:Nat}:bU Q s Qb 366 0 [aC,aD,aZ,ba,bv] h U N [(0,aL)] R=Zz s aC aD aZ ba bv h U N aL R:=by kernel_rfl
theorem arK:cX 366 adP:=cZ Qb
def simple:cU:=λs ah h U K=>bH ah h U λa b c=>bX [(ad 0),ay] b c λd e f=>aN 2 e a λg=>aV s 275 [g,(.func (.func 276) #[] #[])] e f λi j k=>af (aS j 2 d i) λl=>aN 2 l d λm=>K m l k
theorem arL:cW 182 simple:=cY []
def yR:cU:=λs ah h U K=>bH ah h U λa b c=>bX [(ad 0),ay] b c λd e f=>aN 2 e a λg=>cg 274 [g] e f λi j k=>bn 1 a λl=>bS j l λm=>c7 l m (af (w1 1 none i) λn=>dY (fc 2 [ay,ay] [(0,1,m),(1,1,n)]) j k λo p q=>cg 273 [o] p q λr t aO=>bn 0 a λv=>bS t v λw=>c7 v w (af (cV [(ad 0),ay] [(0,1,w),(1,1,r)]) λx=>cg 98 [x] t aO λy z bC=>af (aS z 2 d y) λbV=>aN 2 bV d λbM=>K bM bV bC) 2 [j,e]) 1 [e]
theorem ax9:cW 181 yR:=cY []
def plain:cU:=λs ah h U K=>bH ah h U λa b c=>bX [(ad 0),ay] b c λd e f=>aN 2 e a λg=>aV s 275 [g,(.func (.func 280) #[] #[])] e f λi j k=>af (aS j 2 d i) λl=>aN 2 l d λm=>K m l k
theorem avq:cW 188 plain:=cY []
def Sc:aa (aa Nat):=[[1,2,5,16,17,18]]
def Rs(s:al)(aD a2 bA hg kR lD:X)(h:ae)(U:Nat)(N:aP)(aL:aP)(R:aP):Prop:=cG lD kR (gT 3 h 3 hg lD λc=>bX [(ad 0),(ad 0),(ad 0)] h U λd e f=>af (aS e 3 d c) λg=>ax g 0 d λj=>ax g 1 d λl=>ax g 2 d λn=>af (cV [(ad 0),(ad 0),(ad 0)] [(0,1,j),(1,1,l),(2,1,n)]) λo=>dY (fc 1 [(ad 0),(ad 0),(ad 0)] [(0,3,o)]) g f λp q r=>dG (dO (dM 3 q r bA p)) λt aO v=>cj lD λw=>N [aD,a2,t,hg,kR,w] aO v) (aL [aD,a2,bA,hg,kR,lD] h U)
def SZ:cU:=λs ah h U K=>bH ah h U λa b c=>bX [(ad 0),(ad 0),ay,ay,ay] b c λd e f=>aN 2 e a λg=>aV s 83 [g] e f λi j k=>mi i (af (cV [(ad 0),(ad 0),ay,ay,ay] []) λm=>af (aS j 5 d m) λn=>aN 5 n d λo=>K (.tuple ⟨[o,i]⟩) n k) (aN 2 j a λp=>aV s 274 [p] j k λq r t=>af (w1 1 none q) λaO=>cP aO λv=>bE (bU Q s Sc 189 0) [a,d,ay,aO,v,(ad 0)] r t [(0,λw x y=>ax x 0 (bb w 0) λbC=>ax x 0 (bb w 0) λbM=>aV s 281 [bC,bM,(bb w 2)] x y λbg bW b7=>af (aS bW 5 (bb w 1) bg) λbI=>aN 5 bI (bb w 1) λcJ=>K (.tuple ⟨[cJ,(ad 0)]⟩) bI b7)] (λ_ _ _=>False))
theorem adQ{h:ae}{U:Nat}:bU Q s Sc 189 0 [aD,a2,bA,hg,kR,lD] h U N [(0,aL)] R=Rs s aD a2 bA hg kR lD h U N aL R:=by kernel_rfl
theorem afR:cW 189 SZ:=cY Sc
def Gw:aa (aa Nat):=[[0,3,9,10,11],[6,25,26,27]]
def ZA(s:al)(aC a3 cF dd et:X)(h:ae)(U:Nat)(N:aP)(aL:aP)(R:aP):Prop:=cG et dd (d2 h 1 cF et λc=>cP c λd=>ln a3 d λe=>cG e (ad 0) (af (.ok (Value.iface 9 (.string ⟨#[108,101,110,32,111,117,116,32,111,102,32,114,97,110,103,101]⟩))) λg=>False) (cj et λi=>N [aC,e,cF,dd,i] h U)) (aL [aC,a3,cF,dd,et] h U)
def ZB(s:al)(bp nN kS r3:X)(h:ae)(U:Nat)(N:aP)(aK:aP)(R:aP):Prop:=cG r3 kS (d2 h 1 nN r3 λc=>dG (dO (dM 3 h U bp c)) λd e f=>cj r3 λg=>N [d,nN,kS,g] e f) (aK [bp,nN,kS,r3] h U)
def adR:cU:=λs ah h U K=>cP ah λa=>bE (bU Q s Gw 273 0) [ah,(ad 0),ah,a,(ad 0)] h U [(0,λb c d=>aV s 364 [ay,(bb b 1)] c d λe f g=>cP (bb b 0) λi=>bE (bU Q s Gw 273 1) [e,(bb b 0),i,(ad 0)] f g [(2,λj k l=>K (bb j 0) k l)] (λ_ _ _=>False))] (λ_ _ _=>False)
theorem anQ{h:ae}{U:Nat}:bU Q s Gw 273 0 [aC,a3,cF,dd,et] h U N [(0,aL)] R=ZA s aC a3 cF dd et h U N aL R:=by kernel_rfl
theorem anR{B g A:X}{h:ae}{U:Nat}:bU Q s Gw 273 1 [bp,B,g,A] h U N [(2,aK)] R=ZB s bp B g A h U N aK R:=by kernel_rfl
theorem arM:cW 273 adR:=cY Gw
def ahm:cU:=λs ah h U K=>bH ah h U λa b c=>bX [(ad 0),ay] b c λd e f=>aN 2 e a λg=>aV s 275 [g,(.func (.func 365) #[] #[])] e f λi j k=>af (aS j 2 d i) λl=>aN 2 l d λm=>K m l k
theorem aya:cW 274 ahm:=cY []
def Sd:aa (aa Nat):=[[1,2,4,5,11,12,13]]
def adS(s:al)(aD a2 aZ bA et ej gt:X)(h:ae)(U:Nat)(N:aP)(aL:aP)(R:aP):Prop:=cG gt ej (gT 3 h 3 et gt λc=>bX [(ad 0),(ad 0),(ad 0)] h U λd e f=>af (aS e 3 d c) λg=>aN 3 g d λi=>eQ Q s (hU g f [i] aD) λj k l=>af (cp j 0) λm=>af (cp j 1) λn=>bX [(ad 0),(ad 0),(ad 0)] k l λo p q=>af (aS p 3 o m) λr=>br n (aN 3 r o λt=>dY (fc 1 [(ad 0),(ad 0),(ad 0)] [(0,3,t)]) r q λaO v w=>dG (dO (dM 3 v w bA aO)) λx y z=>cj gt λbC=>N [aD,a2,aZ,x,et,ej,bC] y z) (cj gt λbV=>N [aD,a2,aZ,bA,et,ej,bV] r q)) (aL [aD,a2,aZ,bA,et,ej,gt] h U)
def ahn:cO:=λs ah t1 h U K=>bH ah h U λa b c=>bX [(ad 0),ay] b c λd e f=>ax e 1 a λi=>cP i λj=>bE (bU Q s Sd 275 0) [t1,a,d,ay,i,j,(ad 0)] e f [(0,λk l m=>ax l 0 (bb k 1) λo=>af (cV [(ad 0),ay] [(0,1,o),(1,1,(bb k 3))]) λp=>aV s 98 [p] l m λq r t=>af (aS r 2 (bb k 2) q) λaO=>aN 2 aO (bb k 2) λv=>K v aO t)] (λ_ _ _=>False)
theorem avr{h:ae}{U:Nat}:bU Q s Sd 275 0 [aD,a2,aZ,bA,et,ej,gt] h U N [(0,aL)] R=adS s aD a2 aZ bA et ej gt h U N aL R:=by kernel_rfl
theorem ayb:cX 275 ahn:=cZ Sd
def abJ:cU:=λs ah h U K=>bH ah h U λa b c=>bX [(ad 0),(ad 0),(ad 0)] b c λd e f=>aN 3 e a λg=>af (aS e 3 d g) λi=>bn 0 a λj=>bS i j λk=>c7 j k (bn 1 a λl=>bS i l λm=>c7 l m (bt .neq 3 k m λn=>aN 3 i d λo=>K (.tuple ⟨[o,n]⟩) i f) 1 [e]) 1 [e]
theorem anS:cW 276 abJ:=cY []
def adT:cU:=λs ah h U K=>bH ah h U λa b c=>bX [(ad 0),(ad 0),(ad 0)] b c λd e f=>bn 2 a λg=>af (aS e 1 g (ad 1)) λi=>aN 3 i a λj=>af (aS i 3 d j) λk=>aN 3 k d λl=>K (.tuple ⟨[l,(.bool true)]⟩) k f
theorem arN:cW 280 adT:=cY []
def GS:aa (aa Nat):=[[0,6,7,14,15,16],[6,7,44,45]]
def Qc(s:al)(aC bp ba lk jd hg:X)(h:ae)(U:Nat)(N:aP)(aL:aP)(R:aP):Prop:=cG hg jd (gT 3 h 3 lk hg λc=>bX [(ad 0),(ad 0),(ad 0)] h U λd e f=>af (aS e 3 d c) λg=>ax g 2 ba λj=>ax g 0 d λl=>cj l λm=>d2 g 1 j m λo=>cj o λp=>hx 1 j m λq=>af (aS g 1 q p) λr=>ax r 3 ba λaO=>ax r 1 d λw=>dY (fc 1 [(ad 0)] [(0,1,w)]) r f λx y z=>dG (dO (dM 1 y z aO x)) λbC bV bM=>bn 3 ba λbg=>af (aS bV 1 bg bC) λbW=>ax bW 4 ba λbI=>ax bW 2 d λcB=>dY (fc 1 [(ad 0)] [(0,1,cB)]) bW bM λds de eN=>dG (dO (dM 1 de eN bI ds)) λam an eU=>bn 4 ba λgG=>af (aS an 1 gG am) λgU=>cj hg λgL=>N [aC,bp,ba,lk,jd,gL] gU eU) (aL [aC,bp,ba,lk,jd,hg] h U)
def Qd(s:al)(bp ba zi Et:X)(h:ae)(U:Nat)(N:aP)(aK:aP)(R:aP):Prop:=cG Et zi (ax h 2 ba λc=>cj Et λd=>d2 h 1 c d λf=>ax h 2 ba λi=>d2 h 1 i Et λk=>ln f k λl=>hx 1 c d λm=>af (aS h 1 m l) λn=>cj Et λo=>N [bp,ba,zi,o] n U) (aK [bp,ba,zi,Et] h U)
def Se:ge:=λs ah t1 t2 h U K=>bX [(ad 0),(ad 0),ay,ay,ay] h U λa b c=>aV s 367 [ah,t1] b c λd e f=>bX [(ad 0),(ad 0),ay,ay,ay] e f λg i j=>af (aS i 5 g d) λk=>cP t2 λl=>bE (bU Q s GS 281 0) [ah,a,g,t2,l,(ad 0)] k j [(0,λm n o=>bE (bU Q s GS 281 1) [(bb m 1),(bb m 2),(bb m 0),(ad 0)] n o [(2,λp q r=>aN 5 q (bb p 1) λt=>af (aS q 5 (bb p 0) t) λaO=>aN 5 aO (bb p 0) λv=>K v aO r)] (λ_ _ _=>False))] (λ_ _ _=>False)
theorem abK{h:ae}{U:Nat}:bU Q s GS 281 0 [aC,bp,ba,lk,jd,hg] h U N [(0,aL)] R=Qc s aC bp ba lk jd hg h U N aL R:=by kernel_rfl
theorem abL{g A:X}{h:ae}{U:Nat}:bU Q s GS 281 1 [bp,ba,g,A] h U N [(2,aK)] R=Qd s bp ba g A h U N aK R:=by kernel_rfl
theorem adU:gp 281 Se:=gu GS
def grow:cO:=λs ah t1 h U K=>cG t1 (ad 0) (af (.ok (Value.iface 9 (.string ⟨#[99,97,110,110,111,116,32,98,101,32,110,101,103,97,116,105,118,101]⟩))) λb=>False) (af (Hp Q 22 ah) λc=>cP ah λd=>bt .sub 3 c d λe=>bt .sub 3 t1 e λf=>jY f (ad 0) (af (Hp Q 22 ah) λi=>af (gi 3 ah none (some i) none) λj=>dG (dO (nE Q .append [22,3] h U [j,f])) λk l m=>cP ah λn=>af (gi 3 k none (some n) none) λo=>K o l m) (K ah h U))
theorem ayc:cX 364 grow:=cZ []
def adV:cU:=λs ah h U K=>bH ah h U λa b c=>bX [(ad 0),(ad 0),(ad 0)] b c λd e f=>ax e 1 a λi=>ax e 0 a λk=>ax e 2 a λm=>af (cV [(ad 0),(ad 0),(ad 0)] [(0,1,i),(1,1,k),(2,1,m)]) λn=>af (aS e 3 d n) λo=>aN 3 o d λp=>K (.tuple ⟨[p,(.bool true)]⟩) o f
theorem arO:cW 365 adV:=cY []
def Sf:cO:=λs ah t1 h U K=>bX [(ad 0),(ad 0),ay,ay,ay] h U λa b c=>cj ah λd=>dY (sP [(ad 0)] d d) b c λe f g=>af (cV [(ad 0),(ad 0),ay,ay,ay] [(0,1,ah),(1,1,t1),(2,1,e)]) λi=>af (aS f 5 a i) λj=>aN 5 j a λk=>K k j g
theorem adW:cX 367 Sf:=cZ []
def adX:cU:=λs ah h U K=>bH ah h U λa b c=>jw 5 b 0 a λe=>jw 2 b 5 a λg=>ax b 10 a λj=>aV s 200 [e,g,j] b c λk l m=>mi k (K k l m) (ax l 7 a λp=>eQ Q s (hU l m [p,(ad 8)] (.func (.func 199) #[] #[])) λq r t=>af (du .not q) λaO=>br aO (K (ad 3) r t) (ax r 8 a λw=>eQ Q s (hU r t [w,(ad 8)] (.func (.func 199) #[] #[])) λx y z=>af (du .not x) λbC=>br bC (K (ad 3) y z) (ax y 9 a λbM=>eQ Q s (hU y z [bM,(ad 64)] (.func (.func 199) #[] #[])) λbg bW b7=>af (du .not bg) λbI=>br bI (K (ad 3) bW b7) (ax bW 11 a λcB=>cP cB λds=>jY ds (ad 8192) (K (ad 5) bW b7) (K (ad 0) bW b7)))))
theorem arP:cW 121 adX:=cY []
def abM:cO:=λs ah t1 h U K=>bz .geq 3 ah (ad 1) (bt .leq 3 ah t1 λb=>K b h U) (K (.bool false) h U)
theorem anT:cX 199 abM:=cZ []
def adY:ge:=λs ah t1 t2 h U K=>bH ah h U λa b c=>bH t1 b c λd e f=>aN 5 e a λg=>aN 2 e d λi=>aV s 114 [g,i] e f λj k l=>af (cp j 0) λm=>af (cp j 1) λn=>bX [(ad 0),(ad 0),ay,ay,ay] k l λo p q=>af (aS p 5 o m) λr=>mi n (K n r q) (cG t2 (ad 0) (K (ad 3) r q) (jY t2 (ad 8192) (K (ad 3) r q) (K (ad 0) r q)))
theorem arQ:gp 200 adY:=gu []
def abN:ge:=λs ah t1 t2 h U K=>bH ah h U λa b c=>aN 12 b a λd=>aV s 121 [d] b c λe f g=>mi e (K e f g) (cP t1 λj=>jY j (ad 1048576) (K (ad 5) f g) (aV s 253 [t1,(.func (.func 254) #[] #[])] f g λl m n=>br l (K (ad 8) m n) (aV s 156 [t2,(ad 1048576)] m n λo p q=>af (du .not o) λr=>br r (K (ad 3) p q) (K (ad 0) p q))))
theorem anU:gp 161 abN:=gu []
def ZC:cU:=λs ah h U K=>bH ah h U λa b c=>aN 4 b a λd=>aV s 159 [d] b c λe f g=>af (du .not e) λi=>K i f g
theorem ak8:cW 254 ZC:=cY []
def CO(s:al)(K:bN)(cz T2:X)(au:ae)(a0:Nat):Prop:=br T2 (K (.bool false) au a0) (ax au 0 cz λb=>bz .gtr 209 b (ad 0) (ax au 0 cz λe=>bt .leq 209 e (ad 5) λf=>K f au a0) (K (.bool false) au a0))
def abO:cU:=λs ah h U K=>bH ah h U λa b c=>ax b 1 a λe=>aV s 156 [e,(ad 63)] b c λf g i=>af (du .not f) λj=>br j (CO s K a (.bool true) g i) (ax g 2 a λl=>aV s 156 [l,(ad 63)] g i λm n o=>af (du .not m) λp=>br p (CO s K a (.bool true) n o) (ax n 3 a λr=>aV s 156 [r,(ad 63)] n o λt aO v=>af (du .not t) λw=>(CO s K a w aO v)))
theorem anV:cW 159 abO:=cY []
def avs:cO:=λs ah t1 h U K=>aV s 350 [ah,t1] h U λa b c=>bt .geq 3 a (ad 0) λd=>K d b c
theorem arR:cX 253 avs:=cZ []
def Qe:aa (aa Nat):=[[0,1,4,7,8]]
def ZD(s:al)(aC aD aZ ba bv:X)(h:ae)(U:Nat)(N:aP)(aL:aP)(R:aP):Prop:=cG bv ba (gT 4 h 4 aC bv λc=>eQ Q s (hU h U [c] aD) λd e f=>br d (R [aC,aD,bv,ba,bv] e f) (cj bv λg=>N [aC,aD,aZ,ba,g] e f)) (aL [aC,aD,aZ,ba,bv] h U)
def adZ:cO:=λs ah t1 h U K=>cP ah λa=>bE (bU Q s Qe 350 0) [ah,t1,(ad 0),a,(ad 0)] h U [(0,λb c d=>K (ad (-1)) c d)] (λe f g=>K (bb e 2) f g)
theorem anW{h:ae}{U:Nat}:bU Q s Qe 350 0 [aC,aD,aZ,ba,bv] h U N [(0,aL)] R=ZD s aC aD aZ ba bv h U N aL R:=by kernel_rfl
theorem arS:cX 350 adZ:=cZ Qe
def ON(s:al)(K:bN)(cz cE s6:X)(au:ae)(a0:Nat):Prop:=br s6 (K (ad 0) au a0) (ax au 7 cE λb=>ax au 8 cE λd=>ln b d λe=>ln e (ad 4) λf=>bt .mul 3 (ad 4) f λg=>ln cz (ad 2) λi=>bt .mul 3 g i λj=>K j au a0)
def abP:cO:=λs ah t1 h U K=>bH ah h U λa b c=>aV s 156 [t1,(ad 8192)] b c λd e f=>af (du .not d) λg=>br g (ON s K t1 a (.bool true) e f) (aN 12 e a λi=>aV s 121 [i] e f λj k l=>bt .neq 30 j (ad 0) λm=>(ON s K t1 a m k l))
theorem anX:cX 75 abP:=cZ []
def ZE:cO:=λs ah t1 h U K=>bz .geq 3 ah (ad 0) (bt .leq 3 ah t1 λb=>K b h U) (K (.bool false) h U)
theorem ak9:cX 156 ZE:=cZ []
def afS:cU:=λs ah h U K=>eQ Q s (jm Q h U [] "Len" ah) λa b c=>bt .sub 3 a (ad 1) λd=>eQ Q s (jm Q b c [(ad 0),d] "Swap" ah) λe f g=>aV s 257 [ah,(ad 0),d] f g λi j k=>eQ Q s (jm Q j k [] "Pop" ah) λl m n=>K l m n
theorem avt:cW 170 afS:=cY []
def ad0:cO:=λs ah t1 h U K=>eQ Q s (jm Q h U [t1] "Push" ah) λa b c=>eQ Q s (jm Q b c [] "Len" ah) λd e f=>bt .sub 3 d (ad 1) λg=>aV s 258 [ah,g] e f λi j k=>K (.tuple ⟨[]⟩) j k
theorem arT:cX 171 ad0:=cZ []
def Pk(s:al)(K:bN)(co cm di:X)(au:ae)(a0:Nat):Prop:=ax au 1 cm λb=>cP b λc=>ax au 0 cm λe=>aV s 317 [co,c,e] au a0 λf g i=>bz .eql 165 f (ad 2) (aN 2 g cm λk=>aV s 318 [k] g i λl m n=>af (cV [(ad 0),(ad 0),ay,(ad 0),ay,ay] [(0,1,(ad 2)),(3,3,l)]) λo=>af (aS m 6 di o) λp=>aN 6 p di λq=>K q p n) (ax g 1 cm λt=>cg 217 [t] g i λaO v w=>bn 0 cm λx=>bS v x λy=>c7 x y (af (cV [(ad 0),ay] [(0,1,y),(1,1,aO)]) λz=>af (cV [(ad 0),(ad 0),ay,(ad 0),ay,ay] [(0,1,(ad 1)),(1,2,z)]) λbC=>af (aS v 6 di bC) λbV=>aN 6 bV di λbM=>K bM bV w) 1 [g])
def ad1:cO:=λs ah t1 h U K=>bH t1 h U λa b c=>bX [(ad 0),(ad 0),ay,(ad 0),ay,ay] b c λd e f=>aN 2 e a λg=>aV s 312 [g] e f λi j k=>af (du .not i) λl=>br l (af (cV [(ad 0),ay] []) λm=>af (aS j 2 a m) λn=>(Pk s K ah a d n k)) (Pk s K ah a d j k)
theorem arU:cX 226 ad1:=cZ []
def Kj(s:al)(K:bN)(ee ev:X)(au:ae)(a0:Nat):Prop:=eQ Q s (hU au a0 [] ev) λa b c=>af (cp a 0) λd=>af (cp a 1) λe=>mi e (K (.tuple ⟨[ay,(ad 0),e]⟩) b c) (K (.tuple ⟨[d,ee,e]⟩) b c)
def ad3:cU:=λs ah h U K=>bH ah h U λa b c=>jw 6 b 12 a λe=>cg 321 [e] b c λf g i=>bn 6 a λj=>aN 6 g j λk=>jt 6 j k (cg 320 [k,f] g i λl m n=>bn 1 a λo=>aN 5 m o λp=>jt 5 o p (cg 322 [p] m n λq r t=>bn 20 a λaO=>bS r aO λv=>c7 aO v (cg 319 [v,l,q] r t λw x y=>aN 21 x a λz=>af (.ok (.func (.func 323) ⟨[z]⟩ ⟨[]⟩)) λbC=>bz .eql 164 w (ad 2) (aN 21 x a λbM=>af (.ok (.func (.func 324) ⟨[bM]⟩ ⟨[]⟩)) λbg=>(Kj s K w bg x y)) (Kj s K w bC x y)) 3 [m,g,b]) 2 [g,b]) 1 [b]
theorem arV:cW 227 ad3:=cY []
def F9:aa (aa Nat):=[[6,17,18,19],[6]]
def Yn(s:al)(bp kR lD nO:X)(h:ae)(U:Nat)(N:aP)(aL:aP)(R:aP):Prop:=cG nO lD (d2 h 1 kR nO λc=>aV s 328 [bp,c,nO] h U λd e f=>cj nO λg=>N [bp,kR,lD,g] e f) (aL [bp,kR,lD,nO] h U)
def Yo(s:al)(bp:X)(h:ae)(U:Nat)(N:aP)(aK:aP)(R:aP):Prop:=af (bs bp) λa=>ax h 0 a λc=>aV s 329 [c] h U λd e f=>jY d (ad 0) (aV s 330 [bp] e f λi j k=>N [bp] j k) (aK [bp] e f)
def arW:cO:=λs ah t1 h U K=>aV s 259 [ah] h U λa b c=>af (du .not a) λd=>br d (K (.tuple ⟨[ay,(ad 8)]⟩) b c) (aV s 325 [t1,(.func (.func 326) #[] #[])] b c λe f g=>br e (K (.tuple ⟨[ay,(ad 6)]⟩) f g) (af (cV [ay,(ad 0),ay] [(1,1,ah)]) λi=>bH i f g λj k l=>cP t1 λm=>bE (bU Q s F9 229 0) [j,t1,m,(ad 0)] k l [(0,λn o p=>bE (bU Q s F9 229 1) [(bb n 0)] o p [(2,λq r t=>af (bs (bb q 0)) λaO=>ax r 2 aO λw=>K (.tuple ⟨[w,(ad 0)]⟩) r t)] (λ_ _ _=>False))] (λ_ _ _=>False)))
theorem ala{g:X}{h:ae}{U:Nat}:bU Q s F9 229 0 [bp,kR,lD,g] h U N [(0,aL)] R=Yn s bp kR lD g h U N aL R:=by kernel_rfl
theorem alb{h:ae}{U:Nat}:bU Q s F9 229 1 [bp] h U N [(2,aK)] R=Yo s bp h U N aK R:=by kernel_rfl
theorem anY:cX 229 arW:=cZ F9
def Qf:aa (aa Nat):=[[0,1,2,7]]
def CX(s:al)(N:aP)(aL:aP)(R:aP)(co cz cE fv oY lE y33:X)(au:ae)(a0:Nat):Prop:=br y33 (eQ Q s (jm Q au a0 [lE,fv] "Less" co) λa b c=>af (du .not a) λd=>br d (aL [co,cz,cE,fv] b c) (eQ Q s (jm Q b c [fv,lE] "Swap" co) λe f g=>N [co,cz,cE,lE] f g)) (eQ Q s (jm Q au a0 [oY,fv] "Less" co) λi j k=>af (du .not i) λl=>br l (aL [co,cz,cE,fv] j k) (eQ Q s (jm Q j k [fv,oY] "Swap" co) λm n o=>N [co,cz,cE,oY] n o))
def CY(s:al)(N:aP)(aL:aP)(R:aP)(co cz cE fv hY s7:X)(au:ae)(a0:Nat):Prop:=br s7 (aL [co,cz,cE,fv] au a0) (cj hY λa=>cG a cE (eQ Q s (jm Q au a0 [a,hY] "Less" co) λc d e=>(CX s N aL R co cz cE fv hY a c d e)) (CX s N aL R co cz cE fv hY a (.bool false) au a0))
def Pl(s:al)(aC aD a2 ba:X)(h:ae)(U:Nat)(N:aP)(aL:aP)(R:aP):Prop:=bt .mul 3 (ad 2) ba λa=>cj a λb=>bz .geq 3 b a2 (CY s N aL R aC aD a2 ba b (.bool true) h U) (bt .lss 3 b (ad 0) λd=>(CY s N aL R aC aD a2 ba b d h U))
def avu:ge:=λs ah t1 t2 h U K=>bE (bU Q s Qf 257 0) [ah,t1,t2,t1] h U [(0,λa b c=>bt .gtr 3 (bb a 3) (bb a 1) λd=>K d b c)] (λ_ _ _=>False)
theorem ZF{h:ae}{U:Nat}:bU Q s Qf 257 0 [aC,aD,a2,ba] h U N [(0,aL)] R=Pl s aC aD a2 ba h U N aL R:=by kernel_rfl
theorem abQ:gp 257 avu:=gu Qf
def Sg:aa (aa Nat):=[[0,1]]
def Rt(s:al)(aC aD:X)(h:ae)(U:Nat)(N:aP)(aL:aP)(R:aP):Prop:=bt .sub 3 aD (ad 1) λa=>bt .quo 3 a (ad 2) λb=>bz .eql 3 b aD (aL [aC,aD] h U) (eQ Q s (jm Q h U [aD,b] "Less" aC) λd e f=>af (du .not d) λg=>br g (aL [aC,aD] e f) (eQ Q s (jm Q e f [b,aD] "Swap" aC) λi j k=>N [aC,b] j k))
def az5:cO:=λs ah t1 h U K=>bE (bU Q s Sg 258 0) [ah,t1] h U [(0,λa b c=>K (.tuple ⟨[]⟩) b c)] (λ_ _ _=>False)
theorem ad5{h:ae}{U:Nat}:bU Q s Sg 258 0 [aC,aD] h U N [(0,aL)] R=Rt s aC aD h U N aL R:=by kernel_rfl
theorem afT:cX 258 az5:=cZ Sg
def abR:ge:=λs ah t1 t2 h U K=>bz .eql 165 ah (ad 1) (K ah h U) (bz .eql 165 ah (ad 2) (K ah h U) (bt .quo 3 t2 (ad 8) λc=>jY t1 c (K (ad 2) h U) (K (ad 1) h U)))
theorem anZ:gp 317 abR:=gu []
def Sh:aa (aa Nat):=[[1,2,3,14,15,16]]
def ad6(s:al)(aD a2 a3 lk jd hg:X)(h:ae)(U:Nat)(N:aP)(aL:aP)(R:aP):Prop:=cG hg jd (gT 2 h 2 lk hg λc=>bX [(ad 0),(ad 0)] h U λd e f=>af (aS e 2 d c) λg=>ax g 2 a3 λj=>ax g 0 d λl=>ax g 1 d λn=>hx 1 j l λo=>af (aS g 1 o n) λp=>cj hg λq=>N [aD,a2,a3,lk,jd,q] p f) (aL [aD,a2,a3,lk,jd,hg] h U)
def aho:cU:=λs ah h U K=>bH ah h U λa b c=>bX [(ad 0),ay,ay] b c λd e f=>aN 2 e a λg=>aV s 312 [g] e f λi j k=>af (du .not i) λl=>br l (aV s 388 [(ad 0)] j k λm n o=>af (aS n 3 d m) λp=>aN 3 p d λq=>K q p o) (ax j 0 a λt=>aV s 388 [t] j k λaO v w=>bX [(ad 0),ay,ay] v w λx y z=>af (aS y 3 x aO) λbC=>ax bC 1 a λbM=>cP bM λbg=>bE (bU Q s Sh 318 0) [a,d,x,bM,bg,(ad 0)] bC z [(0,λbW b7 bI=>aN 2 b7 (bb bW 0) λcJ=>cg 389 [cJ] b7 bI λcB ds de=>bn 0 (bb bW 0) λeN=>bS ds eN λam=>c7 eN am (cg 108 [am,cB] ds de λan eU gG=>bn 1 (bb bW 2) λgU=>af (aS eU 1 gU an) λgL=>aN 3 gL (bb bW 2) λio=>af (aS gL 3 (bb bW 1) io) λi0=>aN 3 i0 (bb bW 1) λgH=>K gH i0 gG) 1 [b7])] (λ_ _ _=>False))
theorem avv{h:ae}{U:Nat}:bU Q s Sh 318 0 [aD,a2,a3,lk,jd,hg] h U N [(0,aL)] R=ad6 s aD a2 a3 lk jd hg h U N aL R:=by kernel_rfl
theorem ayd:cW 318 aho:=cY Sh
def WZ:ge:=λs ah t1 t2 h U K=>bz .eql 164 ah (ad 1) (K ah h U) (bz .eql 164 ah (ad 2) (K ah h U) (bt .quo 3 t2 (ad 4) λc=>jY t1 c (K (ad 2) h U) (K (ad 1) h U)))
theorem aiP:gp 319 WZ:=gu []
def ad7:cO:=λs ah t1 h U K=>bH ah h U λa b c=>bH t1 b c λd e f=>aN 2 e d λg=>cg 389 [g] e f λi j k=>aN 6 j a λl=>jt 6 a l (cg 390 [l,i] j k λm n o=>K m n o) 1 [e]
theorem arX:cX 320 ad7:=cZ []
def Qg(s:al)(K:bN)(cz cE lE:X)(au:ae)(a0:Nat):Prop:=br lE (bn 1 cz λa=>ax au 1 a λc=>cg 217 [c] au a0 λd e f=>bn 1 cz λg=>bn 0 g λi=>bS e i λj=>c7 i j (af (cV [(ad 0),ay] [(0,1,j),(1,1,d)]) λk=>af (aS e 2 cE k) λl=>aN 2 l cE λm=>K m l f) 1 [au]) (af (cV [(ad 0),ay] []) λn=>af (aS au 2 cE n) λo=>aN 2 o cE λp=>K p o a0)
def afU:cU:=λs ah h U K=>bH ah h U λa b c=>bX [(ad 0),ay] b c λd e f=>ax e 0 a λi=>bz .eql 165 i (ad 2) (jw 3 e 3 a λl=>aV s 391 [l] e f λm n o=>af (aS n 2 d m) λp=>aN 2 p d λq=>K q p o) (ax e 0 a λt=>bz .eql 165 t (ad 1) (jw 2 e 1 a λw=>aV s 312 [w] e f λx y z=>(Qg s K a d x y z)) (Qg s K a d (.bool false) e f))
theorem avw:cW 321 afU:=cY []
def ad8:cU:=λs ah h U K=>bH ah h U λa b c=>jw 6 b 12 a λe=>cg 321 [e] b c λf g i=>bn 0 a λj=>bS g j λk=>c7 j k (bn 6 a λl=>aN 6 g l λm=>jt 6 l m (bn 18 a λn=>bS g n λo=>c7 n o (bn 19 a λp=>bS g p λq=>c7 p q (cg 392 [k,m,f,o,q] g i λr t aO=>af (cp r 0) λv=>af (cp r 1) λw=>K (.tuple ⟨[v,w]⟩) t aO) 1 [b]) 1 [b]) 1 [b]) 1 [b]
theorem arY:cW 323 ad8:=cY []
def ad9:cU:=λs ah h U K=>bH ah h U λa b c=>jw 6 b 12 a λe=>cg 394 [e] b c λf g i=>bn 0 a λj=>bS g j λk=>c7 j k (bn 1 a λl=>aN 5 g l λm=>jt 5 l m (bn 18 a λn=>bS g n λo=>c7 n o (bn 19 a λp=>bS g p λq=>c7 p q (cg 393 [k,m,f,o,q] g i λr t aO=>af (cp r 0) λv=>af (cp r 1) λw=>K (.tuple ⟨[v,w]⟩) t aO) 1 [b]) 1 [b]) 1 [b]) 1 [b]
theorem arZ:cW 324 ad9:=cY []
def an0:cU:=λs ah h U K=>aV s 327 [ah] h U λa b c=>af (du .not a) λd=>K d b c
theorem ald:cW 326 an0:=cY []
def Pm:aa (aa Nat):=[[0,2,5,6]]
def Yp(s:al)(aC a2 bA bp:X)(h:ae)(U:Nat)(N:aP)(aL:aP)(R:aP):Prop:=cG bp bA (jY bp (ad 0) (bt .sub 3 bp (ad 1) λc=>hx 3 aC c λd=>ax h 0 d λf=>hx 3 aC bp λg=>ax h 0 g λj=>bz .geq 3 f j (R [aC,(.bool false),bA,bp] h U) (cj bp λl=>N [aC,a2,bA,l] h U)) (cj bp λm=>N [aC,a2,bA,m] h U)) (aL [aC,a2,bA,bp] h U)
def abS:cU:=λs ah h U K=>cP ah λa=>bE (bU Q s Pm 327 0) [ah,(.bool false),a,(ad 0)] h U [(0,λb c d=>K (.bool true) c d)] (λe f g=>K (bb e 1) f g)
theorem ale{h:ae}{U:Nat}:bU Q s Pm 327 0 [aC,a2,bA,bp] h U N [(0,aL)] R=Yp s aC a2 bA bp h U N aL R:=by kernel_rfl
theorem an1:cW 327 abS:=cY Pm
def afV:ge:=λs ah t1 t2 h U K=>cP t1 λa=>jY a (ad 0) (af (bs ah) λc=>bn 0 c λd=>af (.ok (Value.iface 415 d)) λe=>af (cV [ay,(ad 0)] [(0,1,t1),(1,1,t2)]) λf=>af (.ok (Value.iface 417 f)) λg=>aV s 171 [e,g] h U λi j k=>K (.tuple ⟨[]⟩) j k) (K (.tuple ⟨[]⟩) h U)
theorem avx:gp 328 afV:=gu []
def afW:cU:=λs ah h U K=>cP ah λa=>K a h U
theorem avy:cW 329 afW:=cY []
def Ga(s:al)(K:bN)(co cm di y47:X)(au:ae)(a0:Nat):Prop:=br y47 (af (bs co) λa=>ax au 1 a λc=>af (bs co) λd=>ax au 2 d λf=>bt .sub 3 di (ad 1) λg=>hx 3 f g λi=>jw 2 au 1 i λk=>jw 2 au 1 cm λm=>cg 261 [c,k,m] au a0 λn o p=>af (bs co) λq=>bn 2 q λr=>bS o r λt=>c7 r t (bt .sub 3 di (ad 1) λaO=>hx 3 t aO λv=>bn 1 v λw=>af (aS o 2 w n) λx=>K (.tuple ⟨[]⟩) x p) 1 [au]) (af (bs co) λy=>ax au 2 y λbC=>aN 3 au cm λbV=>dY (fc 1 [(ad 0),(ad 0),(.int .u64 0)] [(0,3,bV)]) au a0 λbM bg bW=>dG (dO (dM 3 bg bW bC bM)) λb7 bI cJ=>bW<=cJ/\af (bs co) λcB=>bn 2 cB λds=>af (aS bI 1 ds b7) λde=>K (.tuple ⟨[]⟩) de cJ)
def aea:cU:=λs ah h U K=>af (bs ah) λa=>ax h 0 a λc=>gT 2 h 2 c (ad 0) λe=>bX [ay,(ad 0)] h U λf g i=>af (aS g 2 f e) λj=>af (bs ah) λk=>bn 0 k λl=>af (.ok (Value.iface 415 l)) λm=>aV s 170 [m] j i λn o p=>ax o 0 f λr=>gT 3 o 3 r (ad 0) λaO=>bX [(ad 0),(ad 0),(.int .u64 0)] o p λv w x=>af (aS w 3 v aO) λy=>ax y 0 f λbC=>af (gi 3 bC (some (ad 1)) none none) λbV=>ax y 1 f λbg=>cg 328 [ah,bV,bg] y x λbW b7 bI=>af (bs ah) λcJ=>ax b7 2 cJ λds=>cP ds λde=>jY de (ad 0) (af (bs ah) λam=>ax b7 2 am λeU=>bt .sub 3 de (ad 1) λgG=>hx 3 eU gG λgU=>ax b7 0 gU λio=>ax b7 0 v λgH=>bt .eql 3 io gH λmj=>(Ga s K ah v de mj b7 bI)) (Ga s K ah v de (.bool false) b7 bI)
theorem ar0:cW 330 aea:=cY []
def Gx:aa (aa Nat):=[[0,2,4,6,7,31,32],[0,6,7,9,55,56,57]]
def ZG(s:al)(aC a2 aZ bp ba je gj:X)(h:ae)(U:Nat)(N:aP)(aU:aP)(R:aP):Prop:=cG gj je (jY gj (ad 0) (bt .sub 3 gj (ad 1) λc=>hx 3 a2 c λd=>ax h 0 d λf=>hx 3 a2 gj λg=>ax h 0 g λj=>bz .geq 3 f j (af (cV [(ad 0),ay] []) λl=>af (aS h 2 bp l) λm=>R [aC,a2,aZ,bp,(ad 6),je,gj] m U) (cj gj λn=>N [aC,a2,aZ,bp,ba,je,n] h U)) (cj gj λo=>N [aC,a2,aZ,bp,ba,je,o] h U)) (aU [aC,a2,aZ,bp,ba,je,gj] h U)
def ZH(s:al)(aC bp ba cF H2 H3 Eu:X)(h:ae)(U:Nat)(N:aP)(cc:aP)(R:aP):Prop:=cG Eu H3 (gT 3 h 3 H2 Eu λc=>bX [(ad 0),(ad 0),(.int .u64 0)] h U λd e f=>af (aS e 3 d c) λg=>jw 2 g 1 d λj=>aV s 262 [aC,j] g f λk l m=>af (cp k 0) λn=>af (cp k 1) λo=>af (du .not o) λp=>br p (af (cV [(ad 0),ay] []) λq=>af (aS l 2 bp q) λr=>R [aC,bp,(ad 12),cF,H2,H3,Eu] r m) (aV s 399 [aC] l m λt aO v=>bz .neq 2 n t (ax aO 1 cF λy=>ax aO 0 d λbC=>af (cV [(ad 0),(ad 0)] [(0,1,bC),(1,1,n)]) λbV=>dY (fc 1 [(ad 0),(ad 0)] [(0,2,bV)]) aO v λbM bg bW=>dG (dO (dM 2 bg bW y bM)) λb7 bI cJ=>bn 1 cF λcB=>af (aS bI 1 cB b7) λds=>cj Eu λde=>N [aC,bp,ba,cF,H2,H3,de] ds cJ) (cj Eu λeN=>N [aC,bp,ba,cF,H2,H3,eN] aO v))) (cc [aC,bp,ba,cF,H2,H3,Eu] h U)
def ZI(s:al)(K:bN)(co cE di ev:X)(au:ae)(a0:Nat):Prop:=cP cE λa=>bE (bU Q s Gx 335 0) [co,cE,di,ev,(ad 0),a,(ad 0)] au a0 [(1,λb c d=>bS c (bb b 2) λe=>af (cV [(ad 0),ay] [(0,1,e)]) λf=>bX [(ad 0),ay] c d λg i j=>af (aS i 2 g f) λk=>cP (bb b 1) λl=>bE (bU Q s Gx 335 1) [(bb b 0),(bb b 3),(bb b 4),g,(bb b 1),l,(ad 0)] k j [(3,λm n o=>aN 2 n (bb m 3) λp=>af (aS n 2 (bb m 1) p) λq=>aN 2 q (bb m 1) λr=>K (.tuple ⟨[r,(ad 0)]⟩) q o)] (λt aO v=>aN 2 aO (bb t 1) λw=>K (.tuple ⟨[w,(bb t 2)]⟩) aO v))] (λx y z=>aN 2 y (bb x 3) λbC=>K (.tuple ⟨[bC,(bb x 4)]⟩) y z)
def Pn(s:al)(K:bN)(co cE di ev T3:X)(au:ae)(a0:Nat):Prop:=br T3 (af (cV [(ad 0),ay] []) λa=>af (aS au 2 ev a) λb=>aN 2 b ev λc=>K (.tuple ⟨[c,(ad 3)]⟩) b a0) (af (.ok (.func (.func 398) ⟨[]⟩ ⟨[di]⟩)) λd=>aV s 397 [cE,d] au a0 λe f g=>br e (af (cV [(ad 0),ay] []) λi=>af (aS f 2 ev i) λj=>aN 2 j ev λk=>K (.tuple ⟨[k,(ad 3)]⟩) j g) (ZI s K co cE di ev f g))
def aeb:ge:=λs ah t1 t2 h U K=>bH t1 h U λa b c=>bX [(ad 0),ay] b c λd e f=>aV s 259 [ah] e f λg i j=>af (du .not g) λk=>br k (af (cV [(ad 0),ay] []) λl=>af (aS i 2 d l) λm=>aN 2 m d λn=>K (.tuple ⟨[n,(ad 8)]⟩) m j) (bS i a λo=>cG o (ad 0) (Pn s K ah t2 a d (.bool true) i j) (bS i a λq=>bt .gtr 3 q (ad 4096) λr=>(Pn s K ah t2 a d r i j)))
theorem an2{g:X}{h:ae}{U:Nat}:bU Q s Gx 335 0 [aC,a2,aZ,bp,ba,g,gj] h U N [(1,aU)] R=ZG s aC a2 aZ bp ba g gj h U N aU R:=by kernel_rfl
theorem an3{g B A:X}{h:ae}{U:Nat}{C:aP}:bU Q s Gx 335 1 [aC,bp,ba,cF,g,B,A] h U N [(3,C)] R=ZH s aC bp ba cF g B A h U N C R:=by kernel_rfl
theorem ar1:gp 335 aeb:=gu Gx
def abT:cU:=λs ah h U K=>bX [(ad 0),(.int .u64 0)] h U λa b c=>br ah (aV s 260 [(ad 1)] b c λd e f=>af (aS e 2 a d) λg=>aN 2 g a λi=>K i g f) (af (cV [(ad 0),(.int .u64 0)] []) λj=>af (aS b 2 a j) λk=>aN 2 k a λl=>K l k c)
theorem an4:cW 354 abT:=cY []
def afX:cO:=λs ah t1 h U K=>bH ah h U λa b c=>bH t1 b c λd e f=>bX [(ad 0),(.int .u64 0)] e f λg i j=>ax i 1 a λl=>ax i 1 d λn=>bt .add 188 l n λo=>ax i 1 d λq=>bt .lss 188 o q λr=>cg 419 [r] i j λt aO v=>bn 0 a λw=>bS aO w λx=>c7 w x (af (ou (.int .u64) x) λy=>bn 0 d λz=>bS aO z λbC=>c7 z bC (af (ou (.int .u64) bC) λbV=>bt .add 188 y bV λbM=>bt .add 188 bM t λbg=>af (ou (.int .i64) bg) λbW=>af (cV [(ad 0),(.int .u64 0)] [(0,1,bW),(1,1,o)]) λb7=>af (aS aO 2 g b7) λbI=>aN 2 bI g λcJ=>K cJ bI v) 1 [i]) 1 [i]
theorem avz:cX 355 afX:=cZ []
def Qh(s:al)(K:bN)(co cE:X)(au:ae)(a0:Nat):Prop:=cg 117 [co] au a0 λa b c=>dY (sP [(ad 0)] co co) b c λd e f=>af (cV [(ad 0),ay,ay] [(0,1,co),(1,1,a),(2,1,d)]) λg=>af (aS e 3 cE g) λi=>aN 3 i cE λj=>K j i f
def Qi(s:al)(K:bN)(co cE hY:X)(au:ae)(a0:Nat):Prop:=br hY (Qh s K (ad 0) cE au a0) (Qh s K co cE au a0)
def afY:cU:=λs ah h U K=>bX [(ad 0),ay,ay] h U λa b c=>cG ah (ad 0) (Qi s K ah a (.bool true) b c) (bt .gtr 3 ah (ad 4096) λe=>(Qi s K ah a e b c))
theorem avA:cW 388 afY:=cY []
def Qj:aa (aa Nat):=[[0,3,4,6,12,32,33,34]]
def ZJ(s:al)(aC a3 aZ bp ej gj H4 Ev:X)(h:ae)(U:Nat)(N:aP)(aU:aP)(R:aP):Prop:=cG Ev H4 (gT 2 h 2 gj Ev λc=>bX [(ad 0),(ad 0)] h U λd e f=>af (aS e 2 d c) λg=>aN 6 g bp λi=>ax g 0 d λk=>cg 454 [i,k] g f λl m n=>bn 1 d λo=>bS m o λp=>c7 o p (cg 453 [aC,l,p,a3,aZ] m n λq r t=>dY (fc 1 [ay] [(0,1,q)]) r t λaO v w=>dG (dO (dM 1 v w ej aO)) λx y z=>w<=z/\cj Ev λbC=>N [aC,a3,aZ,bp,x,gj,H4,bC] y z) 1 [g]) (aU [aC,a3,aZ,bp,ej,gj,H4,Ev] h U)
def aec:xO:=λs ah t1 t2 t3 f1 h U K=>bH t1 h U λa b c=>bH t2 b c λd e f=>aN 6 e a λg=>aN 2 e d λi=>aV s 452 [g,i] e f λj k l=>af (cp j 0) λm=>af (cp j 1) λn=>af (aS k 6 a m) λo=>af (aS o 2 d n) λp=>aV s 259 [ah] p l λq r t=>af (du .not q) λaO=>br aO (K (.tuple ⟨[ay,(ad 8)]⟩) r t) (ax r 0 d λw=>ax r 1 a λy=>bz .neq 3 w y (K (.tuple ⟨[ay,(ad 4)]⟩) r t) (ax r 1 d λbV=>cP bV λbM=>bE (bU Q s Qj 392 0) [ah,t3,f1,a,ay,bV,bM,(ad 0)] r t [(1,λbg bW b7=>aV s 229 [(bb bg 0),(bb bg 4)] bW b7 λbI cJ cB=>af (cp bI 0) λds=>af (cp bI 1) λde=>K (.tuple ⟨[ds,de]⟩) cJ cB)] (λ_ _ _=>False)))
theorem an5{A g:X}{h:ae}{U:Nat}:bU Q s Qj 392 0 [aC,a3,aZ,bp,ej,gj,A,g] h U N [(1,aU)] R=ZJ s aC a3 aZ bp ej gj A g h U N aU R:=by kernel_rfl
theorem ar2:zG 392 aec:=BH Qj
def abU:cU:=λs ah h U K=>bH ah h U λa b c=>bX [(ad 0),ay,ay] b c λd e f=>aN 6 e a λg=>aV s 321 [g] e f λi j k=>aV s 318 [i] j k λl m n=>af (aS m 3 d l) λo=>aN 3 o d λp=>K p o n
theorem an6:cW 394 abU:=cY []
def abV:cO:=λs ah t1 h U K=>bH ah h U λa b c=>ax b 0 a λe=>cG e (ad 0) (K (.bool true) b c) (ax b 0 a λi=>bS b t1 λj=>bt .geq 3 i j λk=>K k b c)
theorem an7:cX 398 abV:=cZ []
def aed:cU:=λs ah h U K=>bz .eql 234 ah (ad 1) (K (ad 4611686018427387904) h U) (bz .eql 234 ah (ad 3) (K (ad 4611686018427387904) h U) (bz .eql 234 ah (ad 4) (K (ad 4611686018427387904) h U) (K (ad 0) h U)))
theorem ar3:cW 399 aed:=cY []
def ar4:cU:=λs ah h U K=>br ah (K (.int .u64 1) h U) (K (.int .u64 0) h U)
theorem an8:cW 419 ar4:=cY []
def aee:cU:=λs ah h U K=>bH ah h U λa b c=>bX [(ad 0),ay,ay] b c λd e f=>aN 3 e a λg=>aV s 478 [g] e f λi j k=>br i (aN 3 j a λl=>af (aS j 3 d l) λm=>aN 3 m d λn=>K n m k) (aV s 388 [(ad 0)] j k λo p q=>af (aS p 3 d o) λr=>aN 3 r d λt=>K t r q)
theorem ar5:cW 450 aee:=cY []
def afZ:cU:=λs ah h U K=>bH ah h U λa b c=>af (.ok (.func (.func 479) ⟨[]⟩ ⟨[a]⟩)) λd=>K d b c
theorem avB:cW 451 afZ:=cY []
def Po(s:al)(K:bN)(cE cm di ee:X)(au:ae)(a0:Nat):Prop:=aN 6 au cE λa=>af (aS au 6 di a) λb=>aN 2 b cm λc=>jt 2 cm c (af (aS b 2 ee c) λd=>aN 6 d di λe=>aN 2 d ee λf=>K (.tuple ⟨[e,f]⟩) d a0) 1 [au]
def Pp(s:al)(K:bN)(cE cm di ee:X)(au:ae)(a0:Nat):Prop:=aN 2 au cm λa=>aV s 312 [a] au a0 λb c d=>af (du .not b) λe=>br e (af (cV [(ad 0),ay] []) λf=>af (aS c 2 cm f) λg=>(Po s K cE cm di ee g d)) (Po s K cE cm di ee c d)
def aef:cO:=λs ah t1 h U K=>bH ah h U λa b c=>bH t1 b c λd e f=>bX [(ad 0),(ad 0),ay,ay,ay,ay] e f λg i j=>bX [(ad 0),ay] i j λk l m=>aN 6 l a λn=>aV s 477 [n] l m λo p q=>af (du .not o) λr=>br r (dY (fc 1 [(ad 0)] [(0,1,(ad 0))]) p q λt aO v=>af (cV [(ad 0),(ad 0),ay,ay,ay,ay] [(3,1,t)]) λw=>af (aS aO 6 a w) λx=>(Pp s K a d g k x v)) (Pp s K a d g k p q)
theorem ar6:cX 452 aef:=cZ []
def OO:aa (aa Nat):=[[0,2,3,4,11,14,15,16]]
def Xq(s:al)(aC a2 a3 aZ et lk jd hg:X)(h:ae)(U:Nat)(N:aP)(aL:aP)(R:aP):Prop:=cG hg jd (gT 2 h 2 lk hg λc=>bX [(ad 0),(ad 0)] h U λd e f=>af (aS e 2 d c) λg=>ax g 0 d λj=>aV s 334 [a3,j] g f λk l m=>bz .neq 4 k aZ (ax l 1 d λp=>cg 480 [aC,p,a2] l m λq r t=>bn 0 d λaO=>bS r aO λv=>c7 aO v (af (cV [(ad 0),(ad 0),(.int .u64 0)] [(0,1,v),(1,2,q)]) λw=>dY (fc 1 [(ad 0),(ad 0),(.int .u64 0)] [(0,3,w)]) r t λx y z=>dG (dO (dM 3 y z et x)) λbC bV bM=>z<=bM/\cj hg λbg=>N [aC,a2,a3,aZ,bC,lk,jd,bg] bV bM) 1 [l]) (cj hg λbW=>N [aC,a2,a3,aZ,et,lk,jd,bW] l m)) (aL [aC,a2,a3,aZ,et,lk,jd,hg] h U)
def ZK:xO:=λs ah t1 t2 t3 f1 h U K=>cP t1 λa=>bE (bU Q s OO 453 0) [ah,t2,t3,f1,ay,t1,a,(ad 0)] h U [(0,λb c d=>K (bb b 4) c d)] (λ_ _ _=>False)
theorem ajJ{h:ae}{U:Nat}:bU Q s OO 453 0 [aC,a2,a3,aZ,et,lk,jd,hg] h U N [(0,aL)] R=Xq s aC a2 a3 aZ et lk jd hg h U N aL R:=by kernel_rfl
theorem alf:zG 453 ZK:=BH OO
def Pq(s:al)(K:bN)(cE cm di ee:X)(au:ae)(a0:Nat):Prop:=aN 5 au cE λa=>af (aS au 5 di a) λb=>aN 3 b cm λc=>jt 3 cm c (af (aS b 3 ee c) λd=>aN 5 d di λe=>aN 3 d ee λf=>K (.tuple ⟨[e,f]⟩) d a0) 1 [au]
def Pr(s:al)(K:bN)(cE cm di ee:X)(au:ae)(a0:Nat):Prop:=aN 3 au cm λa=>aV s 478 [a] au a0 λb c d=>af (du .not b) λe=>br e (aV s 388 [(ad 0)] c d λf g i=>af (aS g 3 cm f) λj=>(Pq s K cE cm di ee j i)) (Pq s K cE cm di ee c d)
def aeg:cO:=λs ah t1 h U K=>bH ah h U λa b c=>bH t1 b c λd e f=>bX [(ad 0),(ad 0),ay,ay,ay] e f λg i j=>bX [(ad 0),ay,ay] i j λk l m=>aN 5 l a λn=>aV s 201 [n] l m λo p q=>af (du .not o) λr=>br r (aN 5 p a λt=>af (cV [(ad 0),(ad 0)] []) λaO=>af (cV [(ad 0),(ad 0)] []) λv=>aV s 203 [t,aO,v] p q λw x y=>af (aS x 5 a w) λz=>(Pr s K a d g k z y)) (Pr s K a d g k p q)
theorem ar7:cX 455 aeg:=cZ []
def abW:ge:=λs ah t1 t2 h U K=>bH ah h U λa b c=>bH t1 b c λd e f=>bH t2 e f λg i j=>af (.ok (.func (.func 483) ⟨[]⟩ ⟨[a,d,g]⟩)) λk=>K k i j
theorem an9:gp 456 abW:=gu []
def Ru:aa (aa Nat):=[[0,2,5,7,8,10,11,12]]
def abX(s:al)(aC a2 bA ba bv dd et ej:X)(h:ae)(U:Nat)(N:aP)(aL:aP)(R:aP):Prop:=ax h 2 bA λb=>cj a2 λc=>d2 h 1 b c λe=>cG ej e (ax h 3 bA λi=>d2 h 1 i ej λk=>ax h 1 ba λm=>aV s 334 [m,k] h U λn o p=>br n (ax o 4 bA λr=>d2 o 1 r ej λaO=>ax o 2 ba λw=>d2 o 1 w k λy=>cg 480 [aC,aO,y] o p λz bC bV=>eQ Q true (hU bC bV [z] dd) λbM bg bW=>bV<=bW/\cj ej λb7=>N [aC,a2,bA,ba,bv,dd,et,b7] bg bW) (cj ej λbI=>N [aC,a2,bA,ba,bv,dd,et,bI] o p)) (aL [aC,a2,bA,ba,bv,dd,et,ej] h U)
def af0:sr:=λs ah t1 t2 t3 h U K=>bH t1 h U λa b c=>bH t3 b c λd e f=>bX [(ad 0),(.int .u64 0)] e f λg i j=>aV s 484 [ah] i j λk l m=>af (cp k 0) λn=>af (cp k 1) λo=>ax l 2 a λq=>d2 l 1 q t2 λt=>bE (bU Q s Ru 457 0) [ah,t2,a,d,g,n,o,t] l m [(0,λaO v w=>eQ Q s (hU v w [] (bb aO 6)) λx y z=>af (cp x 0) λbC=>af (cp x 1) λbV=>af (aS y 2 (bb aO 4) bC) λbM=>aN 2 bM (bb aO 4) λbg=>K (.tuple ⟨[bg,bV]⟩) bM z)] (λ_ _ _=>False)
theorem ar8{h:ae}{U:Nat}:bU Q s Ru 457 0 [aC,a2,bA,ba,bv,dd,et,ej] h U N [(0,aL)] R=abX s aC a2 bA ba bv dd et ej h U N aL R:=by kernel_rfl
theorem avC:uC 457 af0:=vK Ru
def Ps:aa (aa Nat):=[[1,2,20,21,22]]
def Yq(s:al)(aD a2 jU iO eL:X)(h:ae)(U:Nat)(N:aP)(aL:aP)(R:aP):Prop:=cG eL iO (d2 h 1 jU eL λc=>bz .neq 2 c (ad 0) (ax h 1 aD λf=>aV s 334 [f,eL] h U λg i j=>af (du .not g) λk=>br k (R [aD,(.bool false),jU,iO,eL] i j) (cj eL λl=>N [aD,a2,jU,iO,l] i j)) (cj eL λm=>N [aD,a2,jU,iO,m] h U)) (aL [aD,a2,jU,iO,eL] h U)
def OP(s:al)(K:bN)(cz T2:X)(au:ae)(a0:Nat):Prop:=br T2 (K (.bool false) au a0) (ax au 2 cz λb=>cP b λc=>bE (bU Q s Ps 478 0) [cz,(.bool false),b,c,(ad 0)] au a0 [(0,λd e f=>K (.bool true) e f)] (λg i j=>K (bb g 1) i j))
def abY:cU:=λs ah h U K=>bH ah h U λa b c=>ax b 1 a λe=>ax b 0 a λg=>aV s 437 [e,g] b c λi j k=>af (du .not i) λl=>br l (OP s K a (.bool true) j k) (ax j 2 a λn=>cP n λo=>ax j 0 a λq=>bt .neq 3 o q λr=>(OP s K a r j k))
theorem alg{g B A:X}{h:ae}{U:Nat}:bU Q s Ps 478 0 [aD,a2,g,B,A] h U N [(0,aL)] R=Yq s aD a2 g B A h U N aL R:=by kernel_rfl
theorem aoa:cW 478 abY:=cY Ps
def Qk:aa (aa Nat):=[[0,1,3]]
def ZL(s:al)(aC aD a3:X)(h:ae)(U:Nat)(N:aP)(aL:aP)(R:aP):Prop:=bz .geq 3 a3 (ad 0) (ax h 2 aD λc=>d2 h 1 c a3 λe=>eQ Q s (hU h U [a3,e] aC) λf g i=>af (du .not f) λj=>br j (R [aC,aD,a3] g i) (ax g 1 aD λl=>cj a3 λm=>aV s 473 [l,m] g i λn o p=>N [aC,aD,n] o p)) (aL [aC,aD,a3] h U)
def aeh:cO:=λs ah t1 h U K=>ax h 1 t1 λb=>aV s 473 [b,(ad 0)] h U λc d e=>bE (bU Q s Qk 479 0) [ah,t1,c] d e [(0,λf g i=>K (.tuple ⟨[]⟩) g i)] (λj k l=>K (.tuple ⟨[]⟩) k l)
theorem aob{h:ae}{U:Nat}:bU Q s Qk 479 0 [aC,aD,a3] h U N [(0,aL)] R=ZL s aC aD a3 h U N aL R:=by kernel_rfl
theorem ar9:cX 479 aeh:=cZ Qk
def KH(s:al)(K:bN)(cE ev fv:X)(au:ae)(a0:Nat):Prop:=cg 260 [(ad 4611686018427387904)] au a0 λa b c=>cg 260 [cE] b c λd e f=>aN 2 e fv λg=>jt 2 fv g (cg 355 [g,d] e f λi j k=>cg 353 [a,i] j k λl m n=>af (aS m 2 ev l) λo=>aN 2 o ev λp=>K p o n) 2 [b,au]
def Au(s:al)(K:bN)(co cz cE ev y30:X)(au:ae)(a0:Nat):Prop:=br y30 (aV s 260 [(ad 4611686018427387904)] au a0 λa b c=>af (aS b 2 ev a) λd=>aN 2 d ev λe=>K e d c) (af (cV [(ad 0),(.int .u64 0)] []) λf=>bX [(ad 0),(.int .u64 0)] au a0 λg i j=>af (aS i 2 g f) λk=>bz .eql 234 co (ad 1) (aV s 260 [cz] k j λm n o=>af (aS n 2 g m) λp=>(KH s K cE ev g p o)) (bz .eql 234 co (ad 4) (KH s K cE ev g k j) (bz .eql 234 co (ad 3) (aV s 260 [cz] k j λt aO v=>af (aS aO 2 ev t) λw=>aN 2 w ev λx=>K x w v) (aN 2 k g λy=>af (aS k 2 ev y) λz=>aN 2 z ev λbC=>K bC z j))))
def Ln:ge:=λs ah t1 t2 h U K=>bX [(ad 0),(.int .u64 0)] h U λa b c=>bz .eql 234 ah (ad 2) (bz .neq 2 t1 (ad 0) (bt .neq 2 t2 (ad 0) λf=>aV s 354 [f] b c λg i j=>af (aS i 2 a g) λk=>aN 2 k a λl=>K l k j) (aV s 354 [(.bool false)] b c λm n o=>af (aS n 2 a m) λp=>aN 2 p a λq=>K q p o)) (bz .eql 234 ah (ad 5) (aV s 494 [t1,t2] b c λt aO v=>af (aS aO 2 a t) λw=>aN 2 w a λx=>K x w v) (aV s 259 [ah] b c λy z bC=>br y (af (min2 false t1 t2) λbV=>bt .geq 2 bV (ad 4611686018427387904) λbM=>(Au s K ah t1 t2 a bM z bC)) (Au s K ah t1 t2 a (.bool false) z bC)))
theorem avD:gp 480 Ln:=gu []
def OQ:aa (aa Nat):=[[0,2,3,6,7]]
def Xr(s:al)(aC a2 a3 bp ba:X)(h:ae)(U:Nat)(N:aP)(aL:aP)(R:aP):Prop:=cG ba bp (bS h a2 λb=>cg 334 [b,ba] h U λc d e=>bS d a3 λf=>c7 a3 f (bz .neq 4 c f (eQ Q true (hU d e [ba] aC) λi j k=>e<=k/\af (du .not i) λl=>br l (R [aC,a2,a3,bp,ba] j k) (cj ba λm=>N [aC,a2,a3,bp,m] j k)) (cj ba λn=>N [aC,a2,a3,bp,n] d e)) 1 [h]) (aL [aC,a2,a3,bp,ba] h U)
def ZM:sr:=λs ah t1 t2 t3 h U K=>bS h t1 λa=>bE (bU Q s OQ 483 0) [ah,t2,t3,a,(ad 0)] h U [(0,λb c d=>K (.tuple ⟨[]⟩) c d)] (λe f g=>K (.tuple ⟨[]⟩) f g)
theorem ajK{h:ae}{U:Nat}:bU Q s OQ 483 0 [aC,a2,a3,bp,ba] h U N [(0,aL)] R=Xr s aC a2 a3 bp ba h U N aL R:=by kernel_rfl
theorem alh:uC 483 ZM:=vK OQ
def abZ:cU:=λs ah h U K=>bH ah h U λa b c=>bX [(ad 0),(.int .u64 0)] b c λd e f=>bX [(.bool false)] e f λg i j=>af (aS i 1 g (.bool false)) λk=>af (.ok (.func (.func 497) ⟨[]⟩ ⟨[g,a,d]⟩)) λl=>af (.ok (.func (.func 498) ⟨[]⟩ ⟨[d,g]⟩)) λm=>K (.tuple ⟨[l,m]⟩) k j
theorem aoc:cW 484 abZ:=cY []
def ZN:sr:=λs ah t1 t2 t3 h U K=>bH ah h U λa b c=>bS b t1 λd=>br d (bS b t2 λe=>aN 2 b t3 λf=>aN 2 b a λg=>aV s 261 [e,f,g] b c λi j k=>af (aS j 2 a i) λl=>aN 2 l a λm=>af (aS l 2 t3 m) λn=>af (aS n 1 t1 (.bool true)) λo=>K (.tuple ⟨[]⟩) o k) (aN 2 b a λp=>af (aS b 2 t3 p) λq=>af (aS q 1 t1 (.bool true)) λr=>K (.tuple ⟨[]⟩) r c)
theorem ali:uC 497 ZN:=vK []
def ZO:cO:=λs ah t1 h U K=>bX [(ad 0),(.int .u64 0)] h U λa b c=>aN 2 b ah λd=>af (aS b 2 a d) λe=>bS e t1 λf=>c7 t1 f (aN 2 e a λg=>K (.tuple ⟨[g,f]⟩) e c) 1 [b]
theorem alj:cX 498 ZO:=cZ []
def af1:cO:=λs ah t1 h U K=>aV s 345 [ah] h U λa b c=>aV s 345 [t1] b c λd e f=>br a (br d (K (ad 0) e f) (K (ad (-1)) e f)) (br d (K (ad 1) e f) (cG ah t1 (K (ad (-1)) e f) (jY ah t1 (K (ad 1) e f) (K (ad 0) e f))))
theorem avE:cX 242 af1:=cZ []
def Si:aa (aa Nat):=[[2,3,6,7,8]]
def K5(s:al)(a2 a3 bp ba bv:X)(h:ae)(U:Nat)(N:aP)(aL:aP)(R:aP):Prop:=cG bv ba (d2 h 1 bp bv λc=>bz .neq 3 c a3 (R [c,a3,bp,ba,bv] h U) (cj bv λe=>N [a2,a3,bp,ba,e] h U)) (aL [a2,a3,bp,ba,bv] h U)
def ahp:cU:=λs ah h U K=>cP ah λa=>bE (bU Q s Si 241 0) [(ad 0),(ad 0),ah,a,(ad 0)] h U [(0,λb c d=>K (bb b 1) c d)] (λe f g=>K (bb e 0) f g)
theorem Rv{h:ae}{U:Nat}:bU Q s Si 241 0 [a2,a3,bp,ba,bv] h U N [(0,aL)] R=K5 s a2 a3 bp ba bv h U N aL R:=by kernel_rfl
theorem aye:cW 241 ahp:=cY Si
def ahq:cU:=λs ah h U K=>bz .gtr 234 ah (ad 0) (bt .lss 3 ah (ad 6) λb=>K b h U) (K (.bool false) h U)
theorem ayf:cW 259 ahq:=cY []
def ahr:cU:=λs ah h U K=>bX [(ad 0),(.int .u64 0)] h U λa b c=>bt .shr 2 ah (.int .u64 63) λd=>af (ou (.int .u64) ah) λe=>af (cV [(ad 0),(.int .u64 0)] [(0,1,d),(1,1,e)]) λf=>af (aS b 2 a f) λg=>aN 2 g a λi=>K i g c
theorem ayg:cW 260 ahr:=cY []
def C9(s:al)(K:bN)(di ee ev fv hY:X)(au:ae)(a0:Nat):Prop:=br hY (aN 2 au di λa=>aN 2 au ee λb=>aV s 353 [a,b] au a0 λc d e=>af (aS d 2 ev c) λf=>aN 2 f ev λg=>K g f e) (bz .eql 234 fv (ad 2) (aN 2 au di λj=>aN 2 au ee λk=>bz .neq 272 j k (aV s 354 [(.bool true)] au a0 λm n o=>af (aS n 2 ev m) λp=>aN 2 p ev λq=>K q p o) (aN 2 au di λr=>af (cV [(ad 0),(.int .u64 0)] []) λt=>bt .neq 272 r t λaO=>aV s 354 [aO] au a0 λv w x=>af (aS w 2 ev v) λy=>aN 2 y ev λz=>K z y x)) (bz .eql 234 fv (ad 5) (aN 2 au di λbV=>aN 2 au ee λbM=>aV s 355 [bV,bM] au a0 λbg bW b7=>af (aS bW 2 ev bg) λbI=>aN 2 bI ev λcJ=>K cJ bI b7) (af (cV [(ad 0),(.int .u64 0)] []) λcB=>af (aS au 2 ev cB) λds=>aN 2 ds ev λde=>K de ds a0)))
def af2:ge:=λs ah t1 t2 h U K=>bH t1 h U λa b c=>bH t2 b c λd e f=>bX [(ad 0),(.int .u64 0)] e f λg i j=>bz .eql 234 ah (ad 1) (C9 s K a d g ah (.bool true) i j) (bz .eql 234 ah (ad 3) (C9 s K a d g ah (.bool true) i j) (bt .eql 234 ah (ad 4) λm=>(C9 s K a d g ah m i j)))
theorem avF:gp 261 af2:=gu []
def ZP:cO:=λs ah t1 h U K=>bH t1 h U λa b c=>aN 2 b a λd=>aV s 356 [d] b c λe f g=>af (cp e 0) λi=>af (cp e 1) λj=>K (.tuple ⟨[i,j]⟩) f g
theorem alk:cX 262 ZP:=cZ []
def ZQ:cO:=λs ah t1 h U K=>bH ah h U λa b c=>bH t1 b c λd e f=>bX [(ad 0),(.int .u64 0)] e f λg i j=>aN 2 i a λk=>aN 2 i d λl=>aV s 418 [k,l] i j λm n o=>bz .leq 3 m (ad 0) (aN 2 n a λq=>af (aS n 2 g q) λr=>aN 2 r g λt=>K t r o) (aN 2 n d λaO=>af (aS n 2 g aO) λv=>aN 2 v g λw=>K w v o)
theorem alm:cX 353 ZQ:=cZ []
def ZR:cU:=λs ah h U K=>bH ah h U λa b c=>ax b 1 a λe=>af (ou (.int .i64) e) λf=>cg 260 [f] b c λg i j=>aN 2 i a λk=>jt 2 a k (bz .neq 272 g k (K (.tuple ⟨[(ad 0),(.bool false)]⟩) i j) (K (.tuple ⟨[f,(.bool true)]⟩) i j)) 1 [b]
theorem aln:cW 356 ZR:=cY []
def Yr:cO:=λs ah t1 h U K=>bH ah h U λa b c=>bH t1 b c λd e f=>ax e 0 a λi=>ax e 0 d λk=>cg 359 [i,k] e f λl m n=>bn 1 a λo=>bS m o λp=>c7 o p (bn 1 d λq=>bS m q λr=>c7 q r (cg 466 [p,r] m n λt aO v=>dY (fc 2 [(ad 0),(ad 0)] [(0,1,l),(1,1,t)]) aO v λw x y=>cg 241 [w] x y λz bC bV=>K z bC bV) 1 [e]) 1 [e]
theorem ajL:cX 418 Yr:=cZ []
def af3:cO:=λs ah t1 h U K=>aV s 428 [ah] h U λa b c=>aV s 428 [t1] b c λd e f=>br a (br d (K (ad 0) e f) (K (ad (-1)) e f)) (br d (K (ad 1) e f) (bz .lss 2 ah t1 (K (ad (-1)) e f) (bz .gtr 2 ah t1 (K (ad 1) e f) (K (ad 0) e f))))
theorem avG:cX 359 af3:=cZ []
def af4:cO:=λs ah t1 h U K=>aV s 488 [ah] h U λa b c=>aV s 488 [t1] b c λd e f=>br a (br d (K (ad 0) e f) (K (ad (-1)) e f)) (br d (K (ad 1) e f) (bz .lss 188 ah t1 (K (ad (-1)) e f) (bz .gtr 188 ah t1 (K (ad 1) e f) (K (ad 0) e f))))
theorem avH:cX 466 af4:=cZ []
def ab0:cU:=λs ah h U K=>bt .neq 2 ah ah λa=>K a h U
theorem aod:cW 428 ab0:=cY []
def ab1:cU:=λs ah h U K=>bt .neq 188 ah ah λa=>K a h U
theorem aoe:cW 488 ab1:=cY []
def wid(x:Int):aa X:=[.int .i64 (x / 18446744073709551616),.int .u64 (x % 18446744073709551616)]
def kz(n:Int):Prop:=-9223372036854775808<=n/\n<9223372036854775808
def lA(x:Int):Prop:=-170141183460469231731687303715884105728<=x/\x<170141183460469231731687303715884105728
theorem nI:IntKind.wrap .i64 n=(n+9223372036854775808) % 18446744073709551616-9223372036854775808:=by rw[adK];omega
theorem Li:IntKind.wrap .u64 n=n % 18446744073709551616:=by simp[IntKind.wrap,IntKind.signed,IntKind.bits]
theorem alo{t:TypeId}(h:kz n):bin Q .shr t (n:X) (.int .u64 63) = .ok (.int .i64 (n / 18446744073709551616)):=by
 show R.ok (Value.int .i64 (n.fdiv 9223372036854775808))=_;rw[Int.fdiv_eq_ediv_of_nonneg _ (by decide)];unfold kz at h
 grind
theorem AF{h:ae}{U:Nat}(g:kz n):aE Q s 260 [(n:X)] h U (dI (.agg ⟨wid n⟩) U h):=by refine ayg ?_;unfold ahr wid;simp(disch:=omega)only[bk,alo g,Li,seval];exact⟨rfl,aM,J⟩
theorem ab2{h:ae}{U:Nat}:aE Q s 359 [(a:X),(b:X)] h U (fs (.int .i64 (fV a b)) U h):=by
 have g:∀{n:Int} {K:bN},K (.bool false) h U->aE Q s 428 [(n:X)] h U K:=λ{n K} hk=>by refine aod ?_;unfold ab0;simp(disch:=omega)only[bk,ru,seval];exact hk
 refine avG ?_;unfold af3 fV;refine g (g ?_);refine aG ?_;refine⟨λA=>?_,λA=>⟨λB=>?_,λB=>?_⟩⟩
 ·rw[if_pos A];exact⟨rfl,rfl,rfl⟩
 ·rw[if_neg J,if_pos J];exact⟨rfl,rfl,rfl⟩
 ·rw[if_neg J,if_neg J];exact⟨rfl,rfl,rfl⟩
theorem asa{h:ae}{U:Nat}:aE Q s 466 [.int .u64 a,.int .u64 b] h U (fs (.int .i64 (fV a b)) U h):=by
 have g:∀{n:Int} {K:bN},K (.bool false) h U->aE Q s 488 [.int .u64 n] h U K:=λ{n K} hk=>by refine aoe ?_;unfold ab1;simp(disch:=omega)only[bk,ru,seval];exact hk
 refine avH ?_;unfold af4 fV;refine g (g ?_);refine aG ?_;refine⟨λA=>?_,λA=>⟨λB=>?_,λB=>?_⟩⟩
 ·rw[if_pos A];exact⟨rfl,rfl,rfl⟩
 ·rw[if_neg J,if_pos J];exact⟨rfl,rfl,rfl⟩
 ·rw[if_neg J,if_neg J];exact⟨rfl,rfl,rfl⟩
def az6(b:Nat)(x y:Int)(U:Nat)(h:ae)(m:Nat)(aF:aa X)(ac:ae)(Y:Nat):Prop :=
 (m=2/\aF=[.int .i64 0,.int .i64 0,.slice (some ⟨b,0,none⟩) 2 2,.int .i64 2,.int .i64 0]/\ac=h/\Y=U)\/(m=1/\x=0/\aF=[.int .i64 0,.int .i64 0,.slice (some ⟨b,0,none⟩) 2 2,.int .i64 2,.int .i64 1]/\ac=h/\Y=U)\/(m=0/\x=0/\y=0/\aF=[.int .i64 0,.int .i64 0,.slice (some ⟨b,0,none⟩) 2 2,.int .i64 2,.int .i64 2]/\ac=h/\Y=U)
theorem Do{b:Nat}{h:ae}{U:Nat}(B:u h b=some (.cells [(x:X),(y:X)] false)):aE Q s 241 [.slice (some ⟨b,0,none⟩) 2 2] h U (fs (.int .i64 (if x=0 then y else x)) U h):=by
 refine aye ?_;unfold ahp;refine aG ?_;refine bE.mk (az6 b x y U h) 2 (.inl ab) ?_;rintro _ _ _ _ (⟨rfl,rfl,rfl,rfl⟩|⟨rfl,g,rfl,rfl,rfl⟩|⟨rfl,g,A,rfl,rfl,rfl⟩)
 ·rw[Rv];unfold K5;simp(disch:=omega)only[bk,B,seval]
  by_cases g:x=0
  ·subst g;refine aG ?_;exact⟨⟨1,J,.inr (.inl ⟨rfl,rfl,rfl,rfl,rfl⟩)⟩,λh=>absurd trivial h⟩
  ·have e:(x == 0)=false:=ab
   refine cN @e @g ?_;exact⟨⟨rfl,rfl,rfl⟩,λh=>absurd trivial h⟩
 ·rw[Rv];unfold K5;subst g;simp(disch:=omega)only[bk,B,seval]
  by_cases A:y=0
  ·subst A;refine aG ?_;exact⟨⟨0,J,.inr (.inr ⟨rfl,rfl,rfl,rfl,rfl,rfl⟩)⟩,λh=>absurd trivial h⟩
  ·have e:(y == 0)=false:=ab
   refine bl @e ?_;exact⟨⟨rfl,rfl,rfl⟩,λh=>absurd trivial h⟩
 ·rw[Rv];unfold K5;subst g A;refine aG ?_;exact λ_=>⟨rfl,rfl,rfl⟩
theorem ai9{h:ae}{U:Nat}:aE Q s 418 [.agg ⟨wid a⟩,.agg ⟨wid b⟩] h U (dI (.int .i64 (fV a b)) U h):=by
 refine ajL ?_;unfold Yr wid;refine aG ?_;refine ab2.mono ?_;rintro _ _ _ ⟨rfl,rfl,rfl⟩;refine⟨J,?_⟩;refine aG ?_;refine asa.mono ?_;rintro _ _ _ ⟨rfl,rfl,rfl⟩;refine⟨J,?_⟩;refine aG ?_;refine(Do (aR _ _ _)).mono ?_;rintro _ _ _ ⟨rfl,rfl,rfl⟩;refine⟨J,?_,aM,J⟩
 congr 1
 unfold fV;omega
theorem aof:0<fV a b↔b<a:=by unfold fV;omega
theorem Oq{h:ae}{U:Nat}:aE Q s 353 [.agg ⟨wid a⟩,.agg ⟨wid b⟩] h U (dI (.agg ⟨wid (min a b)⟩) U h):=by
 refine alm ?_;unfold ZQ bH;rw[show dn (.agg ⟨wid a⟩)=[.int .i64 (a / 18446744073709551616),.int .u64 (a % 18446744073709551616)]from rfl,show dn (.agg ⟨wid b⟩)=[.int .i64 (b / 18446744073709551616),.int .u64 (b % 18446744073709551616)]from rfl];refine aG ?_;refine(ai9  ).mono ?_;rintro _ I L ⟨rfl,g,B⟩;have C:=g U J;rw[aq J,aq J,aR]at C;have E:=g (U+1) J;rw[aq J,aR]at E;have D:=g (U+2) J;rw[aR]at D;refine hV @C @E @D ?_;have M:=aof (a:=a) (b:=b);refine⟨λA=>?_,λA=>?_⟩
 ·have:min a b=(if 0<fV a b then b else a):=J
  rw[this]
  first|rw[if_pos A]|rw[if_neg A]
  exact⟨rfl,aM,J⟩
 ·have:min a b=(if 0<fV a b then b else a):=J
  rw[this]
  first|rw[if_pos A]|rw[if_neg A]|rw[if_neg J]
  exact⟨rfl,aM,J⟩
theorem wfI(h:kz n):(Lit.int .i64 n).wf=true:=by unfold kz at h;simp[Lit.wf,IntKind.min,IntKind.max,IntKind.bits,IntKind.signed];omega
theorem wfU(h:0<=n/\n<18446744073709551616):(Lit.int .u64 n).wf=true:=by simp[Lit.wf,IntKind.min,IntKind.max,IntKind.bits,IntKind.signed];omega
theorem az7(h:lA x):kz (x / 18446744073709551616)/\0<=x % 18446744073709551616/\x % 18446744073709551616<18446744073709551616:=by unfold lA at h;unfold kz;omega
theorem af5(h:lA x):Tryz.prog.keyLits 8 272 (wid x)=some [.int .i64 (x / 18446744073709551616),.int .u64 (x % 18446744073709551616)]:=by
 obtain⟨A,D⟩:=az7 h;have B:=wfI A;have C:=wfU D;have g:Tryz.prog.keyLits 7 2 [.int .i64 (x / 18446744073709551616)]=some [.int .i64 (x / 18446744073709551616)]:=by unfold Program.keyLits;simp only[EX,B,and_self,if_true]
 have two:Tryz.prog.keyLits 7 188 [.int .u64 (x % 18446744073709551616)]=some [.int .u64 (x % 18446744073709551616)]:=by unfold Program.keyLits;simp only[az2,C,and_self,if_true]
 unfold Program.keyLits;simp only[ahj,ahk,wid,nC,Fr,Nat.reduceAdd];rw[if_pos ⟨trivial,by kernel_rfl⟩];simp only[CE,List.mapM_nil,show T0.type=2 from rfl,show T1.type=188 from rfl,show T0.offset=0 from rfl,show T1.offset=1 from rfl,c2,az4,oe,NN,Fm,sz,g,two];rfl
theorem Ql(B:lA x)(A:lA y):bin Q .neq 272 (.agg ⟨wid x⟩) (.agg ⟨wid y⟩) = .ok (.bool (!(x == y))):=by
 show R.of "compared" (bif Gi Tryz.prog 272 then sX Tryz.prog 272 (.agg ⟨wid x⟩) (.agg ⟨wid y⟩)else none) (λb=>ot (!b))=_;have g:∀x,(Value.agg ⟨wid x⟩).formed Tryz.prog 272=true:=λx=>by simp[Value.formed,ahj,ahk,wid]
 unfold sX;rw[ax5,az3,g,g];show R.of "compared" (bif true&&(true&&true&&true&&true)then L6 (Tryz.prog.keyLits 8 272 (wid x)) (Tryz.prog.keyLits 8 272 (wid y))else none) (λb=>ot (!b))=_;rw[af5 B,af5 A];show R.ok (Value.bool (!((mC .i64 .i64&&fk (x / 18446744073709551616) (y / 18446744073709551616))&&((mC .u64 .u64&&fk (x % 18446744073709551616) (y % 18446744073709551616))&&true))))=_;rw[wy,wy,k4,k4];have:(true&&x / 18446744073709551616 == y / 18446744073709551616&&(true&&x % 18446744073709551616 == y % 18446744073709551616&&true))=(x == y):=ab
 grind
theorem ajM{h:ae}{U:Nat}(I:lA x):aE Q s 356 [.agg ⟨wid x⟩] h U (dI (.tuple ⟨[.int .i64 (if sS x=true then x else 0),.bool (sS x)]⟩) U h):=by
 refine aln ?_;unfold ZR bH;rw[show dn (.agg ⟨wid x⟩)=[.int .i64 (x / 18446744073709551616),.int .u64 (x % 18446744073709551616)]from rfl];have V:IntKind.wrap .i64 (x % 18446744073709551616)=(x+9223372036854775808) % 18446744073709551616-9223372036854775808:=by rw[nI];omega
 have P:kz ((x+9223372036854775808) % 18446744073709551616-9223372036854775808):=by unfold kz;omega
 have B:lA ((x+9223372036854775808) % 18446744073709551616-9223372036854775808):=by unfold lA;omega
 refine bl @V ?_;refine(AF P).mono ?_;rintro _ L Z ⟨rfl,A,g⟩;have E:=A U J;rw[aR]at E;refine⟨g,?_⟩;refine bl @E ?_;rw[show(Value.agg ⟨[.int .i64 (x / 18446744073709551616),.int .u64 (x % 18446744073709551616)]⟩) = .agg ⟨wid x⟩from rfl,Ql B I];have C:((x+9223372036854775808) % 18446744073709551616-9223372036854775808 == x)=sS x:=by
  unfold sS
  grind
 rw[C];have D:aA U h L:=aM
 cases M:sS x with
 |true =>
  rw[M]at C;have:=sB.1 C;refine aG ?_;rw[this];exact⟨rfl,D,J⟩
 |false =>
  refine aG ?_;exact⟨rfl,D,J⟩
theorem Xs{h:ae}{U:Nat}(B:lA x):aE Q s 262 [(r:X),.agg ⟨wid x⟩] h U (dI (.tuple ⟨[.int .i64 (if sS x=true then x else 0),.bool (sS x)]⟩) U h):=by refine alk ?_;unfold ZP bH;rw[show dn (.agg ⟨wid x⟩)=[.int .i64 (x / 18446744073709551616),.int .u64 (x % 18446744073709551616)]from rfl];refine aG ?_;rw[show(Value.agg ⟨[.int .i64 (x / 18446744073709551616),.int .u64 (x % 18446744073709551616)]⟩) = .agg ⟨wid x⟩from rfl];refine(ajM B).mono ?_;rintro _ C D ⟨rfl,A,g⟩;refine aG ?_;exact⟨rfl,aM,J⟩
theorem JZ{b:al}{h:ae}{U:Nat}:aE Q s 354 [.bool b] h U (dI (.agg ⟨wid (if b=true then 1 else 0)⟩) U h):=by
 refine an4 ?_;unfold abT;cases b with
 |true =>
  refine aG ?_;refine(AF  (by unfold kz;omega)).mono ?_;rintro _ C D ⟨rfl,g,A⟩;have B:=g U J;rw[aR]at B;unfold wid;refine bl @B ?_;exact⟨rfl,aM,J⟩
 |false =>
  refine aG ?_;exact⟨rfl,aM,J⟩
theorem AG{h:ae}{U:Nat}(B:0<r)(g:r<6):aE Q s 259 [(r:X)] h U (fs (.bool true) U h):=by refine ayf ?_;unfold ahq;refine aG ?_;refine⟨λ_=>?_,λA=>absurd A J⟩;rw[gY g];exact⟨rfl,rfl,rfl⟩
theorem aog{h:ae}{U:Nat}(g:r=1\/r=2\/r=4\/r=5):aE Q s 399 [(r:X)] h U (fs (.int .i64 (DF r)) U h):=by
 refine ar3 ?_;unfold aed DF dg;rcases g with rfl|rfl|rfl|rfl <;> (simp(disch:=omega)only[bk,seval];exact⟨rfl,rfl,rfl⟩)
def oz(r:Int):Prop:=r=1\/r=2\/r=4
theorem Qm{h:ae}{U:Nat}(Z:oz r)(L:lA a)(M:lA b):aE Q s 261 [(r:X),.agg ⟨wid a⟩,.agg ⟨wid b⟩] h U (dI (.agg ⟨wid (jR r a b)⟩) U h):=by
 refine avF ?_;unfold af2 bH;rw[show dn (.agg ⟨wid a⟩)=[.int .i64 (a / 18446744073709551616),.int .u64 (a % 18446744073709551616)]from rfl,show dn (.agg ⟨wid b⟩)=[.int .i64 (b / 18446744073709551616),.int .u64 (b % 18446744073709551616)]from rfl];have aL:∀x:Int,(Value.agg ⟨[.int .i64 (x / 18446744073709551616),.int .u64 (x % 18446744073709551616)]⟩) = .agg ⟨wid x⟩:=λ_=>rfl;rcases Z with rfl|rfl|rfl
 ·refine aG ?_;unfold C9;refine aG ?_;rw[aL,aL];refine Oq.mono ?_;rintro _ E I ⟨rfl,g,A⟩;have B:=g (U+2) J;rw[aR]at B;unfold wid;refine bl @B ?_;exact⟨rfl,aM,J⟩
 ·refine aG ?_;unfold C9;refine aG ?_;rw[aL,aL,Ql L M];have P:(Value.agg ⟨[.int .i64 0,.int .u64 0]⟩) = .agg ⟨wid 0⟩:=rfl;have V:lA 0:=by unfold lA;omega
  by_cases C:a=b
  ·subst C;simp(disch:=omega)only[bk,ru,seval];rw[P,Ql L V];refine aG ?_;refine JZ.mono ?_;rintro _ E I ⟨rfl,g,A⟩;have B:=g (U+2) J;rw[aR]at B;have D:(if(!a == 0)=true then(1:Int)else 0)=jR 2 a a:=by
    unfold jR
    grind
   rw[D];unfold wid;refine bl @B ?_;exact⟨rfl,aM,J⟩
  ·rw[show(a == b)=false from rt.2 C];refine aG ?_;refine JZ.mono ?_;rintro _ E I ⟨rfl,g,A⟩;have B:=g (U+2) J;rw[aR]at B;have D:jR 2 a b=1:=by unfold jR;omega
   rw[D];unfold wid;refine bl @B ?_;exact⟨rfl,aM,J⟩
 ·refine aG ?_;unfold C9;refine aG ?_;rw[aL,aL];refine Oq.mono ?_;rintro _ E I ⟨rfl,g,A⟩;have B:=g (U+2) J;rw[aR]at B;unfold wid;refine bl @B ?_;exact⟨rfl,aM,J⟩
theorem alp{b:al}{h:ae}{U:Nat}:aE Q s 419 [.bool b] h U (fs (.int .u64 (if b=true then 1 else 0)) U h):=by
 refine an8 ?_;cases b <;> (simp(disch:=omega)only[bk,seval];exact⟨rfl,rfl,rfl⟩)
theorem asb{h:ae}{U:Nat}:aE Q s 355 [.agg ⟨wid a⟩,.agg ⟨wid b⟩] h U (dI (.agg ⟨wid (jC (a+b))⟩) U h):=by
 refine avz ?_;unfold afX bH;rw[show dn (.agg ⟨wid a⟩)=[.int .i64 (a / 18446744073709551616),.int .u64 (a % 18446744073709551616)]from rfl,show dn (.agg ⟨wid b⟩)=[.int .i64 (b / 18446744073709551616),.int .u64 (b % 18446744073709551616)]from rfl];refine aG ?_;refine alp.mono ?_;rintro _ _ _ ⟨rfl,rfl,rfl⟩;refine⟨J,?_⟩;refine aG ?_;have aU:((a % 18446744073709551616+b % 18446744073709551616) % 18446744073709551616)=jC (a+b) % 18446744073709551616:=by unfold jC;omega
 have aK:IntKind.wrap .u64 (a % 18446744073709551616+b % 18446744073709551616)=jC (a+b) % 18446744073709551616:=by rw[Li,aU]
 rw[aK];have A:IntKind.wrap .i64 (IntKind.wrap .u64 (IntKind.wrap .u64 (IntKind.wrap .u64 (a / 18446744073709551616)+IntKind.wrap .u64 (b / 18446744073709551616))+(if jC (a+b) % 18446744073709551616<b % 18446744073709551616 then 1 else 0)))=jC (a+b) / 18446744073709551616:=by
  simp only[Li,nI]
  by_cases g:jC (a+b) % 18446744073709551616<b % 18446744073709551616
  ·rw[if_pos g];unfold jC at *
   omega
  ·rw[if_neg g];unfold jC at *
   omega
 rw[A];exact⟨rfl,aM,J⟩
theorem aoh(h:lA x):jC x=x:=by unfold lA at h;unfold jC;omega
theorem Gy(h:kz x):lA x:=by unfold kz at h;unfold lA;omega
theorem Sj(A:0<=a/\a<=2147483647)(B:0<=x/\x<=dg)(g:oz r):0<=fH r a x/\fH r a x<=dg:=by
 unfold fH dg at *
 rcases g with rfl|rfl|rfl
 all_goals omega
theorem af6{q:Int}{I D:Nat}{A:ae}{g:Nat}(oZ:u A I=some (.cells [.int .i64 0,.int .u64 0] false))(rm:u A D=some (.cells [.int .i64 (q / 18446744073709551616),.int .u64 (q % 18446744073709551616)] false))(ml:I<g)(nZ:D<g)(c3:0<=q/\q<=2147483647)(bd:0<=x/\x<=dg)(fin:∀V a5,aA g A V->g<=a5->K (.agg ⟨wid (min dg (q+x))⟩) (T V I (.cells [.int .i64 (min dg (q+x) / 18446744073709551616),.int .u64 (min dg (q+x) % 18446744073709551616)] false)) a5):
  KH s K (x:X) (bf I) (bf D) A g:=by
 have ag:dg=4611686018427387904:=rfl;rw[ag]at bd fin;have aDR:kz x:=by unfold kz;omega
 unfold KH;refine(AF (n:=4611686018427387904) (by unfold kz;omega)).mono ?_;rintro _ V a5 ⟨rfl,e5,E⟩;refine⟨E,?_⟩;refine(AF aDR).mono ?_;rintro _ ao bQ ⟨rfl,dD,C⟩;have B:=(e5 D nZ).trans rm;have Z:=(dD D J).trans B;refine⟨C,?_⟩;refine hV @Z @B @rm ?_;rw[show(Value.agg ⟨[.int .i64 (q / 18446744073709551616),.int .u64 (q % 18446744073709551616)]⟩) = .agg ⟨wid q⟩from rfl];refine asb.mono ?_;rintro _ aT bT ⟨rfl,eY,M⟩;refine⟨M,?_⟩;rw[aoh  (by unfold lA;omega)];refine Oq.mono ?_;rintro _ a9 dP ⟨rfl,g8,L⟩;refine⟨L,?_⟩;have hL:aA g A a9:=aM
 have P:=(hL I ml).trans oZ;have:=fin a9 dP hL J;unfold wid at this ⊢;refine bl @P ?_;exact this
theorem ab3{h:ae}{U:Nat}(bc:oz r)(dR:0<=a/\a<=2147483647)(bd:0<=x/\x<=dg):aE Q s 480 [(r:X),(a:X),(x:X)] h U (dI (.agg ⟨wid (fH r a x)⟩) U h):=by
 refine avD ?_;have P:=bd;have ag:dg=4611686018427387904:=rfl;have aDS:kz 4611686018427387904:=by unfold kz;omega
 rw[ag]at bd;have lT:kz a:=by unfold kz;omega
 have fin:∀(v:Int) (C:ae) (M:Nat),aA (U+1) (T h U (.cells [.int .i64 0,.int .u64 0] false)) C->U+1<=M->v=fH r a x->dI (.agg ⟨wid (fH r a x)⟩) U h (.agg ⟨wid v⟩) (T C U (.cells [.int .i64 (v / 18446744073709551616),.int .u64 (v % 18446744073709551616)] false)) M:=λv C M hk dv e=>by subst e;exact⟨rfl,aM,J⟩
 have L:(r=1\/r=4)->4611686018427387904<=max a x->Au s (dI (.agg ⟨wid (fH r a x)⟩) U h) (r:X) (a:X) (x:X) (bf U) (.bool true) (T h U (.cells [.int .i64 0,.int .u64 0] false)) (U+1):=λC ao=>by unfold Au;refine m6 ?_;refine(AF aDS).mono ?_;rintro _ rb M ⟨rfl,g,A⟩;have D:=g U J;rw[aR]at D;unfold wid;refine mv @D ?_;refine fin _ _ _ g A ?_;unfold fH dg;omega
 have B:(r=1\/r=4)->¬4611686018427387904<=max a x->Au s (dI (.agg ⟨wid (fH r a x)⟩) U h) (r:X) (a:X) (x:X) (bf U) (.bool false) (T h U (.cells [.int .i64 0,.int .u64 0] false)) (U+1):=λC ao=>by
  unfold Au;rcases C with rfl|rfl
  ·refine m6 ?_;refine(AF lT).mono ?_;rintro _ rb M ⟨rfl,g,A⟩;have bP:=(g (U+1) J).trans (aR _ _ _);have D:=g U J;rw[aq J,aq J,aR]at D;unfold wid;refine mv @bP ?_;refine af6  ab ab J J dR P ?_;intro y9 bQ dD V;refine fin _ _ _ ?_ (by omega) ?_
   ·exact aM
   ·unfold fH dg;omega
  ·refine m6 ?_;refine af6 (q:=0) ab ab J J J P ?_;intro y9 bQ dD V;refine fin _ _ _ ?_ (by omega) ?_
   ·exact aM
   ·unfold fH dg;omega
 have E:r=1\/r=4->Ln s (r:X) (a:X) (x:X) h U (dI (.agg ⟨wid (fH r a x)⟩) U h):=λI=>by
  have L:=L I;have B:=B I;unfold Ln;have Z:Au s (dI (.agg ⟨wid (fH r a x)⟩) U h) (r:X) (a:X) (x:X) (bf U) (.bool (!decide (max a x<4611686018427387904))) (T h U (.cells [.int .i64 0,.int .u64 0] false)) (U+1):=by
   by_cases a1:4611686018427387904<=max a x
   ·rw[hA (J:¬max a x<4611686018427387904)];exact L a1
   ·rw[gY (J:max a x<4611686018427387904)];exact B a1
  rcases I with rfl|rfl
  ·refine m6 ?_;refine(AG  J J).mono ?_;rintro _ _ _ ⟨rfl,rfl,rfl⟩;exact Z
  ·refine m6 ?_;refine(AG  J J).mono ?_;rintro _ _ _ ⟨rfl,rfl,rfl⟩;exact Z
 rcases bc with rfl|rfl|rfl
 ·exact E J
 ·unfold Ln;have em:fH 2 a x=if(!(a == 0)&&!(x == 0))=true then 1 else 0:=by
   unfold fH
   grind
  refine m6 ?_;refine⟨λa1=>?_,λa1=>?_⟩
  ·refine JZ.mono ?_;rintro _ C M ⟨rfl,g,A⟩;have D:=(g U J).trans (aR _ _ _);unfold wid;refine mv @D ?_;refine fin _ _ _ g A ?_
   grind
  ·refine JZ.mono ?_;rintro _ C M ⟨rfl,g,A⟩;have D:=(g U J).trans (aR _ _ _);unfold wid;refine mv @D ?_;refine fin _ _ _ g A ?_
   grind
 ·exact E J
def aei:cO:=λs ah t1 h U K=>aV s 345 [ah] h U λa b c=>aV s 345 [t1] b c λd e f=>br a (br d (K (ad 0) e f) (K (ad (-1)) e f)) (br d (K (ad 1) e f) (cG ah t1 (K (ad (-1)) e f) (jY ah t1 (K (ad 1) e f) (K (ad 0) e f))))
theorem asc:cX 242 aei:=cZ []
def aej:cU:=λs ah h U K=>bt .neq 3 ah ah λa=>K a h U
theorem ase:cW 345 aej:=cY []
def ahs:cO:=λs ah t1 h U K=>bH ah h U λa b c=>bH t1 b c λd e f=>ax e 0 a λi=>ax e 0 d λk=>cg 242 [i,k] e f λl m n=>bn 1 a λo=>bS m o λp=>c7 o p (bn 1 d λq=>bS m q λr=>c7 q r (cg 242 [p,r] m n λt aO v=>dY (fc 2 [(ad 0),(ad 0)] [(0,1,l),(1,1,t)]) aO v λw x y=>cg 241 [w] x y λz bC bV=>K z bC bV) 1 [e]) 1 [e]
theorem ayh:cX 298 ahs:=cZ []
def aht:cO:=λs ah t1 h U K=>bH ah h U λa b c=>bH t1 b c λd e f=>aN 3 e a λg=>aN 3 e d λi=>cg 358 [g,i] e f λj k l=>bn 2 a λm=>bS k m λn=>c7 m n (bn 2 d λo=>bS k o λp=>c7 o p (cg 359 [n,p] k l λq r t=>dY (fc 2 [(ad 0),(ad 0)] [(0,1,j),(1,1,q)]) r t λaO v w=>cg 241 [aO] v w λx y z=>K x y z) 1 [e]) 1 [e]
theorem ayi:cX 264 aht:=cZ []
def edT:cO:=λs ah t1 h U K=>bH ah h U λa b c=>bH t1 b c λd e f=>ax e 0 a λi=>ax e 0 d λk=>cg 242 [i,k] e f λl m n=>bn 1 a λo=>bS m o λp=>c7 o p (bn 1 d λq=>bS m q λr=>c7 q r (cg 242 [p,r] m n λt aO v=>dY (fc 2 [(ad 0),(ad 0)] [(0,1,l),(1,1,t)]) aO v λw x y=>cg 241 [w] x y λz bC bV=>K z bC bV) 1 [e]) 1 [e]
theorem az8:cX 358 edT:=cZ []
def ahu:cO:=λs ah t1 h U K=>bH ah h U λa b c=>bH t1 b c λd e f=>af (iy (.array 2 1) a (ad 0)) λg=>bS e g λi=>af (iy (.array 2 1) d (ad 0)) λj=>bS e j λk=>cg 242 [i,k] e f λl m n=>af (iy (.array 2 1) a (ad 1)) λo=>bS m o λp=>c7 o p (af (iy (.array 2 1) d (ad 1)) λq=>bS m q λr=>c7 q r (cg 242 [p,r] m n λt aO v=>dY (fc 2 [(ad 0),(ad 0)] [(0,1,l),(1,1,t)]) aO v λw x y=>cg 241 [w] x y λz bC bV=>K z bC bV) 1 [e]) 1 [e]
theorem ayj:cX 240 ahu:=cZ []
theorem CZ{h:ae}{U:Nat}:aE Q s 242 [(a:X),(b:X)] h U (fs (.int .i64 (fV a b)) U h):=by
 have g:∀{n:Int} {K:bN},K (.bool false) h U->aE Q s 345 [(n:X)] h U K:=λ{n K} hk=>by refine ase ?_;unfold aej;simp(disch:=omega)only[bk,ru,seval];exact hk
 refine asc ?_;unfold aei fV;refine g (g ?_);refine aG ?_;refine⟨λA=>?_,λA=>⟨λB=>?_,λB=>?_⟩⟩
 ·rw[if_pos A];exact⟨rfl,rfl,rfl⟩
 ·rw[if_neg J,if_pos J];exact⟨rfl,rfl,rfl⟩
 ·rw[if_neg J,if_neg J];exact⟨rfl,rfl,rfl⟩
theorem ayk{x y:dC}{h:ae}{U:Nat}:aE Q s 358 [.agg ⟨j6 x⟩,.agg ⟨j6 y⟩] h U (dI (.int .i64 (hJ [fV x.1 y.1,fV x.2.1 y.2.1])) U h):=by
 refine az8 ?_;unfold edT bH;rw[show dn (.agg ⟨j6 x⟩)=[(x.1:X),(x.2.1:X),(x.2.2:X)]from rfl,show dn (.agg ⟨j6 y⟩)=[(y.1:X),(y.2.1:X),(y.2.2:X)]from rfl];refine aG ?_;refine CZ.mono ?_;rintro _ _ _ ⟨rfl,rfl,rfl⟩;refine⟨J,?_⟩;refine aG ?_;refine CZ.mono ?_;rintro _ _ _ ⟨rfl,rfl,rfl⟩;refine⟨J,?_⟩;refine aG ?_;refine(Do (aR _ _ _)).mono ?_;rintro _ _ _ ⟨rfl,rfl,rfl⟩;refine⟨J,?_,aM,J⟩
 congr 1
 unfold hJ hJ hJ
 grind
theorem avI{x y:GE}{h:ae}{U:Nat}:aE Q s 298 [.agg ⟨cR x⟩,.agg ⟨cR y⟩] h U (dI (.int .i64 (hJ [fV x.f y.f,fV x.t y.t])) U h):=by
 refine ayh ?_;unfold ahs bH;rw[show dn (.agg ⟨cR x⟩)=[(x.f:X),(x.t:X),(x.w:X)]from rfl,show dn (.agg ⟨cR y⟩)=[(y.f:X),(y.t:X),(y.w:X)]from rfl];refine aG ?_;refine CZ.mono ?_;rintro _ _ _ ⟨rfl,rfl,rfl⟩;refine⟨J,?_⟩;refine aG ?_;refine CZ.mono ?_;rintro _ _ _ ⟨rfl,rfl,rfl⟩;refine⟨J,?_⟩;refine aG ?_;refine(Do (aR _ _ _)).mono ?_;rintro _ _ _ ⟨rfl,rfl,rfl⟩;refine⟨J,?_,aM,J⟩
 congr 1
 unfold hJ hJ hJ
 grind
theorem avJ{x y:Int × Int}{h:ae}{U:Nat}:aE Q s 240 [.agg ⟨lx x⟩,.agg ⟨lx y⟩] h U (dI (.int .i64 (lb x y)) U h):=by
 refine ayj ?_;unfold ahu bH;rw[show dn (.agg ⟨lx x⟩)=[(x.1:X),(x.2:X)]from rfl,show dn (.agg ⟨lx y⟩)=[(y.1:X),(y.2:X)]from rfl];refine aG ?_;refine CZ.mono ?_;rintro _ _ _ ⟨rfl,rfl,rfl⟩;refine⟨J,?_⟩;refine aG ?_;refine CZ.mono ?_;rintro _ _ _ ⟨rfl,rfl,rfl⟩;refine⟨J,?_⟩;refine aG ?_;refine(Do (aR _ _ _)).mono ?_;rintro _ _ _ ⟨rfl,rfl,rfl⟩;refine⟨J,?_,aM,J⟩
 congr 1
 unfold lb hJ hJ hJ
 grind
theorem avK{x y:dC}{h:ae}{U:Nat}:aE Q s 264 [.agg ⟨j6 x⟩,.agg ⟨j6 y⟩] h U (dI (.int .i64 (j7 x y)) U h):=by
 have e:∀x:dC,dn (.agg ⟨j6 x⟩)=[(x.1:X),(x.2.1:X),(x.2.2:X)]:=λ_=>rfl;have aK:∀x:dC,Value.agg ⟨[(x.1:X),(x.2.1:X),(x.2.2:X)]⟩ = .agg ⟨j6 x⟩:=λ_=>rfl;refine ayi ?_;unfold aht bH;rw[e,e];refine aG ?_;rw[aK,aK];refine ayk.mono ?_;rintro _ D E ⟨rfl,g,A⟩;refine⟨A,?_⟩;have B:=g U J;rw[aq J,aR]at B;have C:=g (U+1) J;rw[aR]at C;refine cN @B @C ?_;refine ab2.mono ?_;rintro _ _ _ ⟨rfl,rfl,rfl⟩;refine⟨J,?_⟩;refine aG ?_;refine(Do (aR _ _ _)).mono ?_;rintro _ _ _ ⟨rfl,rfl,rfl⟩;refine⟨J,?_,aM,J⟩
 congr 1
 unfold j7;generalize hJ [fV x.1 y.1,fV x.2.1 y.2.1]=a;unfold hJ hJ hJ
 grind
theorem Sk{P:Program}{f:FuncId}{B:Func}(h:P.funcs[f]? = some { B with name:=(P.funcs[f]?.getD default).name }) (g:((P.funcs[f]?.getD default).name == "runtime.NumGoroutine")=false):Bears P f B:=⟨_,g,h⟩
def uE(l:aa (Nat × Nat))(n:Nat):Nat:=(l.lookup n).getD n
def T4(f t:aa (Nat × Nat)):Ren:=⟨uE (f++[(15,344),(28,415),(29,416),(47,462),(48,463)]),uE (t++[(3,3),(39,238),(0,0),(53,385),(55,188),(4,4),(46,426),(45,425),(50,222),(5,5),(9,9),(66,463),(70,467),(76,489),(77,341)]),id⟩
def rnE:Ren:=T4 [(6,263),(14,357),(20,420),(21,421),(22,422),(23,423),(24,424),(25,425),(26,426),(27,427),(46,467),(49,468),(50,469),(57,489)] [(22,22),(24,124),(25,329)]
def rnT:Ren:=T4 [(6,297),(14,370),(20,429),(21,430),(22,431),(23,432),(24,433),(25,434),(26,435),(27,436),(46,470),(49,471),(50,472),(57,490)] [(22,99),(24,259),(25,347)]
def rnL:Ren:=T4 [(6,239),(14,343),(20,407),(21,408),(22,409),(23,410),(24,411),(25,412),(26,413),(27,414),(46,461),(49,464),(50,465),(57,487)] [(22,196),(24,198),(25,301)]
theorem az9:SlLaysF0.n6 Tryz.prog rnL:=by
 constructor <;> first|kernel_rfl|exact Sk (by kernel_rfl) (by kernel_rfl)|(intro w;kernel_rfl)
theorem ahv:SlLaysF0.n6 Tryz.prog rnE:=by
 constructor <;> first|kernel_rfl|exact Sk (by kernel_rfl) (by kernel_rfl)|(intro w;kernel_rfl)
theorem ahw:SlLaysF0.n6 Tryz.prog rnT:=by
 constructor <;> first|kernel_rfl|exact Sk (by kernel_rfl) (by kernel_rfl)|(intro w;kernel_rfl)
theorem ZS:Sort.SWO (kQ j7) where
 irrefl:=λx=>by have:¬j7 x x<0:=λh=>aq5 x x h h;simpa[kQ]using this
 trans:=λx y z g A=>by
  have g:j7 x y<0:=by simpa[kQ]using g
  have A:j7 y z<0:=by simpa[kQ]using A
  have:j7 x z<0:=by rw[Gt]at *;omega
  simpa[kQ]using this
 ntrans:=λx y z g A=>by
  have g:¬j7 x y<0:=by simpa[kQ]using g
  have A:¬j7 y z<0:=by simpa[kQ]using A
  have:=aq4 z y x A g;simpa[kQ]using this
theorem yx(h:(Tryz.prog.funcs[f]?.bind Func.body).isSome=true):CU Tryz.prog f:=by
 cases g:Tryz.prog.funcs[f]? with
 |none=>rw[g]at h;cases h
 |some A =>
  rw[g]at h;exact⟨A,g,h,H1.names f A g⟩
instance:Inhabited dC:=⟨(0,0,0)⟩
theorem ZT:Sort.SWO (kQ lb) where
 irrefl:=λx=>by have:¬lb x x<0:=λh=>aq3 x x h h;simpa[kQ]using this
 trans:=λx y z g A=>by
  have g:lb x y<0:=by simpa[kQ]using g
  have A:lb y z<0:=by simpa[kQ]using A
  have:lb x z<0:=by rw[Gs]at *;omega
  simpa[kQ]using this
 ntrans:=λx y z g A=>by
  have g:¬lb x y<0:=by simpa[kQ]using g
  have A:¬lb y z<0:=by simpa[kQ]using A
  have:=aq2 z y x A g;simpa[kQ]using this
def nn(x y:GE):Prop:=x.f<y.f\/(x.f=y.f/\x.t<y.t)
theorem KI{x y:GE}:qY x y<0↔nn x y:=by
 unfold qY hJ hJ hJ fV nn
 by_cases A:(x.f:Int)<y.f
 ·rw[if_pos A];simp;omega
 ·by_cases B:(y.f:Int)<x.f
  ·rw[if_neg A,if_pos B];simp;omega
  ·rw[if_neg A,if_neg B]
   by_cases g:(x.t:Int)<y.t
   ·rw[if_pos g];simp;omega
   ·by_cases C:(y.t:Int)<x.t
    ·rw[if_neg g,if_pos C];simp;omega
    ·rw[if_neg g,if_neg C];simp;omega
theorem asf:Sort.SWO (kQ qY) where
 irrefl:=λx=>by
  have:¬qY x x<0:=λh=>by rw[KI]at h;unfold nn at h;omega
  simpa[kQ]using this
 trans:=λx y z g A=>by
  have g:qY x y<0:=by simpa[kQ]using g
  have A:qY y z<0:=by simpa[kQ]using A
  have:qY x z<0:=by rw[KI]at *;unfold nn at *;omega
  simpa[kQ]using this
 ntrans:=λx y z g A=>by
  have g:¬qY x y<0:=by simpa[kQ]using g
  have A:¬qY y z<0:=by simpa[kQ]using A
  have:¬qY x z<0:=by rw[KI]at *;unfold nn at *;omega
  simpa[kQ]using this
theorem aoi:Hb Q 264 j6 j7:=λx y h U=>avK.mono λ_ _ _ h=>h.1
theorem ash:Hb Q 298 cR qY:=λx y h U=>avI.mono λ_ _ _ h=>h.1
theorem asi:Hb Q 240 lx lb:=λx y h U=>avJ.mono λ_ _ _ h=>h.1
theorem asj{h:ae}{U b n:Nat}{l:aa dC}(g:l.length=n)(C:n<1000000)(B:b<U)(D:u h b=some (.cells (a7 j6 l) false)):
  aE Q s 263 [.slice (some ⟨b,0,aB⟩) n cap,.func (.func 264) #[] #[]] h U (KZ j6 j7 l b U h):=
 P4 H1 ahv rfl (yx (by kernel_rfl)) (yx (by kernel_rfl)) ZS (λw=>by kernel_rfl) (λw=>by kernel_rfl) (k:=3) (λ_=>rfl) (λ_=>rfl) (λx v A=>by simp[j6]at A;rcases A with rfl|rfl|rfl <;> rfl) aoi g C B D
theorem aoj{h:ae}{U:Nat}(g:K (.tuple #[]) h U):aE Q s 263 [.slice none 0 0,.func (.func 264) #[] #[]] h U K:=Zt ahv rfl (yx (by kernel_rfl)) g
theorem asl{h:ae}{U b n:Nat}{l:aa GE}(g:l.length=n)(C:n<1000000)(B:b<U)(D:u h b=some (.cells (a7 cR l) false)):
  aE Q s 297 [.slice (some ⟨b,0,aB⟩) n cap,.func (.func 298) #[] #[]] h U (KZ cR qY l b U h):=
 P4 H1 ahw rfl (yx (by kernel_rfl)) (yx (by kernel_rfl)) asf (λw=>by kernel_rfl) (λw=>by kernel_rfl) (k:=3) (λ_=>rfl) (λ_=>rfl) (λx v A=>by simp[cR]at A;rcases A with rfl|rfl|rfl <;> rfl) ash g C B D
theorem aok{h:ae}{U:Nat}(g:K (.tuple #[]) h U):aE Q s 297 [.slice none 0 0,.func (.func 298) #[] #[]] h U K:=Zt ahw rfl (yx (by kernel_rfl)) g
theorem asm{h:ae}{U b n:Nat}{l:aa (Int × Int)}(g:l.length=n)(C:n<1000000)(B:b<U)(D:u h b=some (.cells (a7 lx l) false)):
  aE Q s 239 [.slice (some ⟨b,0,aB⟩) n cap,.func (.func 240) #[] #[]] h U (KZ lx lb l b U h):=
 P4 H1 az9 rfl (yx (by kernel_rfl)) (yx (by kernel_rfl)) ZT (λw=>by kernel_rfl) (λw=>by kernel_rfl) (k:=2) (λ_=>rfl) (λ_=>rfl) (λx v A=>by simp[lx]at A;rcases A with rfl|rfl <;> rfl) asi g C B D
theorem Kk{k:Int}{h:ae}{U:Nat}:aE Q s 79 [(k:X),(n:X)] h U (λv ac Y=>v = .int .i64 (Em k n)/\ac=h/\Y=U):=by refine arD ?_;unfold adL;refine aG ?_;refine⟨λg=>by simp[Em,g],λg=>⟨λA=>by simp[Em,A],λA=>?_⟩⟩;rw[KF J,tK];simp[Em,g,A]
theorem rd3(g:es[i]? = some e):hB (some 3) (i*3) (a7 iI es) = .ok (.agg ⟨[(e.1:X),(e.2.1:X),(e.2.2:X)]⟩):=by have A:=sD (enc:=iI) (k:=3) (λ_=>rfl) g;have B:=(fb.1 g).1;rw[o3,if_pos (by rw[fN (k:=3) (λ_=>rfl)];omega),A];rfl
def aek(U:Nat)(h:ae):bN:=λr ac Y=>∃(N:Nat) (v2:X) (gs:aa GE),r = .agg ⟨[(N:X),v2]⟩/\N<24/\gs.length<=60/\(∀g∈gs,g7 N g)/\eJ ac U Y v2 cR gs/\U<=Y/\aA U h ac
def ael(n:Int)(v:X)(es:aa hZ)(N U:Nat)(h:ae)(m:Nat)(aF:aa X)(ac:ae)(Y:Nat):Prop :=
 ∃(i:Nat) (v2:X) (gs:aa GE),m=60-i/\i<=60/\aF=[bf U,.pointer (some ⟨U+1,0,none⟩),.pointer (some ⟨U+1+1,0,none⟩),(i:X)] /\
  u ac U=some (.cells [(n:X),v] false)/\u ac (U+1)=some (.cells [.int .i64 0,.slice none 0 0] false)/\u ac (U+1+1)=some (.cells [(N:X),v2] false) /\
  eb ac v2 cR 3 gs (U+1+1+1) Y/\gs.length=i/\(∀g∈gs,g7 N g)/\U+1+1+1<=Y/\aA U h ac
theorem mu{az:Type}{enc:az->aa X}(hk:∀x,(enc x).length=k)(g:∀x,d4 (enc x)=true)(I:0<k){h:ae}{U ap:Nat}{v:X}{l:aa az}(aI:eb h v enc k l ap U)(D:ap<=U){M L A:Nat}{B:aw Nat}{V:al}(x:az)(ao:u h M=some (.cells cs V))(P:(cs.drop L).take k=enc x)(C:(l.length+1)*k<=1000000){K:X->ae->Nat->Prop}(Z:∀E ac,eb ac E enc k (l++[x]) ap (U+1)->(∀b,b<ap->u ac b=u h b)->K E ac (U+1)):dG (dO (dM k h U v (.slice (some ⟨M,L,B⟩) 1 A))) K:=by obtain⟨E,ac,e,a,b⟩:=auQ hk g I aI D ao P C;rw[e];exact Z _ _ a b
theorem asn{v:X}{h:ae}{U:Nat}(aI:cL h U v iI es):aE Q s 78 [.agg ⟨[(n:X),v]⟩] h U (aek U h):=by
 refine avi ?_;obtain⟨a,cap,rfl,a1⟩:=id aI;unfold afO;refine aG ?_;refine Kk.mono ?_;rintro r L V ⟨rfl,rfl,rfl⟩;obtain⟨N,d7,cb⟩:=KE
 rw[d7];refine aG ?_;refine bE.mk (ael n (.slice a es.length cap) es N U h) 60 ⟨0,.slice none 0 0,[],rfl,J,rfl,ab,ab,ab,.inl ab,rfl,by simp,J,aM⟩ ?_;rintro m _ ac Y ⟨i,v2,gs,rfl,ag,rfl,cH,bP,E,D,s1,Z,HU,hk⟩;obtain⟨a2,bQ,c2,rfl⟩:=D.form;rw[arE];unfold abB;have A:C8 s (λaF h_1 I=>∃bD,bD<60-i/\ael n (.slice a es.length cap) es N U h bD aF h_1 I)
   (λC h17 n18=>af (iz (some 2) h17 (bb C 2)) λx65=>af (aS h17 2 (bb C 1) x65) λh66=>af (iz (some 2) h66 (bb C 1)) λx67=>aek U h x67 h66 n18) (λ_ _ _=>False)
   (bf U) (.pointer (some ⟨U+1,0,none⟩)) (.pointer (some ⟨U+1+1,0,none⟩)) (i:X) (.bool false) ac Y:=by unfold C8;refine cN @bP @E ?_;refine⟨N,_,gs,rfl,J,J,Z,D.gv.F ab J J,J,aM⟩
 refine cN @cH @E ?_;refine⟨λL=>⟨λao=>?_,λao=>A⟩,λL=>A⟩
 by_cases aT:(0:Int)<(N:Int)
 case neg=>rw[hA aT];exact A
 unfold C8;obtain⟨x,bd⟩:=dH L;obtain⟨_,b,aB,bG,j4,q8,P,zj⟩:=aI.at bd;cases P;have ht:=(hk b q8).trans zj;simp(disch:=omega)only[bk,cH,E,ht,rd3 bd,gY aT,seval];refine Kk.mono ?_;rintro r L V ⟨rfl,rfl,rfl⟩;obtain⟨f,bK,oJ⟩:=KE
 rw[bK];refine cN @cH @E ?_;refine Kk.mono ?_;rintro r L V ⟨rfl,rfl,rfl⟩;obtain⟨t,cq,ug⟩:=KE
 rw[cq];obtain⟨w,bO,pt,Ml⟩:=aq8 x.2.2;refine Hf @cH @E @abt @bO ?_;refine mu (enc:=cR)  (λ_=>rfl) (λ_=>rfl) J (D.F ab J) J ⟨f,t,w⟩ (aR _ _ _) rfl (by omega) ?_;intro v3 aT M B;obtain⟨a3,bT,ci,rfl⟩:=M.form;simp(disch:=omega)only[bk,B (U+1+1) J,B (U+1) J,B U J,E,cD (J:i<1000000000000),seval];refine⟨J,60-(i+1),J,i+1,_,gs++[⟨f,t,w⟩],rfl,J,rfl,?_,?_,ab,M.F ab J,ab,?_,J,?_⟩
 ·grind
 ·grind
 ·intro g aY;rcases he.1 aY with aY|aY
  ·exact Z g aY
  ·rw[iu.1 aY];exact⟨(by omega:f<N),(by omega:t<N),pt,Ml⟩
 ·intro b aW;rw[aq J,B b J,aq J,aq J,aq J];exact hk b aW
def af7(R C:Int)(U:Nat)(h:ae):bN:=λr ac Y=>∃(N fS:Nat) (lT tn:Int) (v2:X) (gs:aa GE),r = .tuple ⟨[.agg ⟨[(N:X),v2]⟩,(fS:X),(lT:X),(tn:X)]⟩/\0<N/\N<24/\fS<N/\gs.length<=60/\(∀g∈gs,g7 N g)/\eJ ac U Y v2 cR gs/\U<=Y/\aA U h ac/\(0<=R->R<=255->1<=lT/\lT<=4)/\(0<=C->C<=255->1<=tn/\tn<=4)
theorem ahx{R:Int}(g:0<=R)(A:R<=255):1<=IntKind.wrap .i64 ((IntKind.wrap .i64 R).tmod 4+1)/\IntKind.wrap .i64 ((IntKind.wrap .i64 R).tmod 4+1)<=4:=by rw[wV g J,Int.tmod_eq_emod_of_nonneg g,wV J J];omega
theorem avL{V R C:Int}{v:X}{h:ae}{U:Nat}(aI:cL h U v iI es):aE Q s 15 [.agg ⟨[(n:X),v,(V:X),.int .u8 R,.int .u8 C]⟩] h U (af7 R C U h):=by
 refine ax6 ?_;obtain⟨a,cap,rfl,a1⟩:=id aI;unfold make;refine aG ?_;refine(asn (aI.F aM J)).mono ?_;rintro r D A ⟨N,v2,B,rfl,d7,E,jb,jP,dv,Z⟩;obtain⟨a2,c2,rfl,oG⟩:=id jP;have cH:=Z U J;have bP:=Z (U+1) J;rw[aq J,aR]at cH;rw[aR]at bP;have fin:∀(M:Nat) (ac:ae) (a2:aw Addr) (B:aa GE) (c2:Nat),eJ D (U+1+1) A (.slice a2 B.length c2) cR B->B.length<=60->0<M->M<24->u ac A=some (.cells [(M:X),.slice a2 B.length c2] false)->u ac U=some (.cells [(n:X),.slice a es.length cap,(V:X),.int .u8 R,.int .u8 C] false)->u ac (U+1)=some (.cells [.int .i64 0,.slice none 0 0] false)->(∀g∈B,g7 M g) ->
   (∀b,U+1+1<=b->b<A->u ac b=u D b)->(∀b,b<U->u ac b=u D b)->K4 s (af7 R C U h) (bf U) (.pointer (some ⟨U+1,0,none⟩)) (bf A) ac (A+1):=by
  intro M ac a2 B c2 jP E H5 h9 aU aK cc P uc hkl;unfold K4;refine hV @aU @aK @cc ?_;refine Kk.mono ?_;rintro r ao np ⟨rfl,rfl,rfl⟩;obtain⟨f,bK,oJ⟩:=KE
  rw[bK];refine ls @aU @aK @cc @KF ?_;refine⟨M,f,_,_,_,B,rfl,H5,h9,J,E,P,jP.F ab J J,J,λb aW=>?_,λL D=>ahx L D,λL D=>ahx L D⟩;rw[aq J,hkl b aW,Z b J,aq J,aq J]
 refine aG ?_;refine⟨λL=>?_,λL=>?_⟩
 ·have I:N=0:=ab
  subst I;refine fin 1 _ none [] 0 ⟨none,0,rfl,λh=>absurd rfl h⟩ (by simp) J J ab ?_ ?_ (λg aY=>by cases aY) ?_ ?_
  all_goals grind
 ·have I:N≠0:=ab
  refine fin N _ a2 B c2 jP E J d7 ab ?_ ?_ jb ?_ ?_
  all_goals grind
def fj{az:Type}(h:ae)(U:Nat)(v:X)(enc:az->aa X)(l:aa az):Prop :=
 ∃a cap,v = .slice a l.length cap/\(l≠[]->∃b aB bG cs,b<U/\a=some ⟨b,0,aB⟩/\u h b=some (.cells (a7 enc l++cs) bG))
section
variable {az:Type} {h ac:ae} {U Y:Nat} {v:X} {enc:az->aa X} {l:aa az}
theorem fj.F(B:fj h U v enc l)(L:aA U h ac)(E:U<=Y):fj ac Y v enc l:=by obtain⟨a,cap,M,C⟩:=B;refine⟨a,cap,M,λI=>?_⟩;obtain⟨b,aB,D,cs,A,g,P⟩:=C I;exact⟨b,aB,D,cs,J,g,by rw[L b A];omega⟩
theorem fj.of(B:cL h U v enc l):fj h U v enc l:=by obtain⟨a,cap,I,C⟩:=B;refine⟨a,cap,I,λE=>?_⟩;obtain⟨b,aB,D,A,g,L⟩:=C E;exact⟨b,aB,D,[],A,g,ab⟩
theorem fj.at(A:fj h U v enc l){x:az}(C:l[i]? = some x):
  i<l.length/\∃b aB g cap cs,b<U/\v = .slice (some ⟨b,0,aB⟩) l.length cap/\u h b=some (.cells (a7 enc l++cs) g):=by
 obtain⟨a,cap,I,B⟩:=A;obtain⟨b,aB,g,cs,D,rfl,E⟩:=B ab
 grind
theorem BI(g:∀x,(enc x).length=k){e:az}(B:l[i]? = some e):hB (some k) (i*k) (a7 enc l++cs) = .ok (.agg ⟨enc e⟩):=by
 have A:=sD  g B;have D:=fN  g (l:=l);have C:(i+1)*k<=l.length*k:=ab
 rw[z8,uR]at C;rw[o3,if_pos ab,Fa J,zR ab,A]
end
def yS(n:Int)(e:hZ):Prop:=e.1<0\/n<=e.1\/e.2.1<0\/n<=e.2.1
def D0(e:hZ):Prop:=e.2.2<0\/2147483647<e.2.2
instance (n:Int) (e:hZ):Decidable (yS n e):=inferInstanceAs (Decidable (_\/_))
instance (e:hZ):Decidable (D0 e):=inferInstanceAs (Decidable (_\/_))
def GU(n:Int)(es:aa hZ):Prop:=0<=n/\n<=4096/\es.length<=65536/\(∀e∈es,¬yS n e)/\∀e∈es,¬D0 e
def aAa{az:Type}(p:az->al)(es:aa az)(eF:ae->Nat->Prop)(v rl:X)(m:Nat)(aF:aa X)(ac:ae)(Y:Nat):Prop:=∃i,m=es.length-i/\i<=es.length/\aF=[v,rl,.int .i64 0,(es.length:X),(i:X)]/\eF ac Y/\∀x∈es.take i,p x=false
theorem aso{az:Type}{enc:az->aa X}(P:∀x,(enc x).length=3){v:X}{es:aa az}{h:ae}{U:Nat}(p:az->al)(eF:ae->Nat->Prop)(vX:∀ac Y,eF ac Y->fj ac Y v enc es)(Z:eF h U)(bo:es.length<=65536)(bK:∀g∈es,∀ac Y (K:bN),eF ac Y->(∀(b:al) V A,b=p g->eF V A->K (.bool b) V A)->eQ Q s (hU ac Y [.agg ⟨enc g⟩] rl) K):
  aE Q s 255 [v,rl] h U (λr ac Y=>eF ac Y/\((r = .int .i64 (-1)/\∀x∈es,p x=false)\/∃(i:Nat) (x:az),r = (i:X)/\es[i]? = some x/\p x=true/\∀y∈es.take i,p y=false)):=by
 refine avl ?_;unfold index;obtain⟨a,cap,rfl,a1⟩:=id (vX _ _ Z);refine aG ?_;refine bE.mk (aAa p es eF (.slice a es.length cap) rl) es.length ⟨0,J,J,rfl,Z,by simp⟩ ?_;rintro m _ ac Y ⟨i,rfl,ag,rfl,M,I⟩;rw[arH];unfold abD;refine aG ?_;refine⟨λE=>?_,λE=>?_⟩
 ·obtain⟨x,D⟩:=dH E;obtain⟨_,b,aB,bG,j4,cs,q8,B,L⟩:=(vX _ _ M).at D;cases B;simp(disch:=omega)only[bk,L,BI   P D,seval];refine bK x ab ac Y _ M (λb6 V A aW C=>?_);subst aW;refine bl (cD (J:i<1000000000000)) ?_;refine⟨λa6=>⟨C,ab⟩,λa6=>⟨es.length-(i+1),J,i+1,rfl,E,rfl,C,λy ck=>?_⟩⟩;rw[gW,D]at ck
  grind
 ·have:i=es.length:=J
  subst this;rw[ic]at I;exact⟨M,ab⟩
theorem ab4{v:X}{h:ae}{U:Nat}(p:hZ->al)(Z:fj h U v iI es)(bo:es.length<=65536)(V:∀g∈es,∀ac Y (K:bN),aA U h ac->U<=Y->(∀(b:al) B A,b=p g->aA Y ac B->Y<=A->K (.bool b) B A)->eQ Q s (hU ac Y [.agg ⟨iI g⟩] rl) K):
  aE Q s 164 [v,rl] h U (λr ac Y=>r = .bool (es.any p)/\aA U h ac/\U<=Y):=by
 refine avk ?_;refine(aso  (λ_=>rfl) p (λac Y=>aA U h ac/\U<=Y) (λac Y E=>Z.F E.1 E.2) aM bo (λg aY ac Y K D h8=>V g aY ac Y K D.1 D.2 (λb B A P M I=>h8 b B A P aM))).mono ?_;rintro r ac Y ⟨⟨hk,C⟩,⟨rfl,xk⟩|⟨i,x,rfl,L,a6,_⟩⟩
 ·refine aG ?_;exact aM
 ·refine aG ?_;exact⟨by rw[x0.2 ⟨x,kk L,a6⟩];simp,hk,C⟩
def yT(n:Int)(e:hZ):al:=(decide (e.1<0)||!decide (e.1<n))||(decide (e.2.1<0)||!decide (e.2.1<n))
theorem ZU:yT n e=true↔yS n e:=by
 unfold yT yS
 grind
def D1(e:hZ):al:=decide (e.2.2<0)||decide (2147483647<e.2.2)
theorem ZV:D1 e=true↔D0 e:=by
 unfold D1 D0
 grind
def nP(e:hZ):GE:=⟨e.1.toNat,e.2.1.toNat,e.2.2⟩
theorem GU.ges(h:GU n es):∃N:Nat,n=(N:Int)/\N<=4096/\a7 iI es=a7 cR (es.map nP)/\∀g∈es.map nP,g7 N g:=by
 obtain⟨Z,ao,V,L,I⟩:=h;refine⟨n.toNat,J,J,?_,λg E=>?_⟩
 ·have:∀l:aa hZ,(∀e∈l,¬yS n e)->a7 iI l=a7 cR (l.map nP):=by
   intro l
   induction l with
   |nil=>intro _;rfl
   |cons x l D =>
    intro B;show iI x++a7 iI l=cR (nP x)++a7 cR (l.map nP);have C:=B x (mr ..);unfold yS at C;rw[D (λe A=>B e (jZ _ A))]
    congr 1
    unfold iI cR nP
    grind
  grind
 ·obtain⟨e,A,rfl⟩:=f3.1 E;have P:=L e A;have M:=I e A;unfold yS at P;unfold D0 at M;refine⟨?_,?_,?_,?_⟩
  ·show e.1.toNat<n.toNat;omega
  ·show e.2.1.toNat<n.toNat;omega
  ·show 0<=e.2.2;omega
  ·show e.2.2<=2147483647;omega
theorem fj.map{h:ae}{U:Nat}{v:X}{es:aa hZ}(g:fj h U v iI es)(e:a7 iI es=a7 cR (es.map nP)):fj h U v cR (es.map nP):=by
 obtain⟨a,cap,L,A⟩:=g;refine⟨a,cap,ab,λI=>?_⟩;obtain⟨b,aB,E,cs,C,B,D⟩:=A ab
 grind
theorem wrG{h:ae}{b:Nat}{m:aa GE}{x:GE}(g:i<m.length):jQ (some (.cells (a7 cR m) false)) h b (i*3) [(x.f:X),(x.t:X),(x.w:X)] = .ok (T h b (.cells (a7 cR (m.set i x)) false)):=by show R.of _ (m7 (cR x) (a7 cR m) (i*3)) _=_;rw[ang (k:=3) (λ_=>rfl) x g];rfl
theorem Ew{az:Type}{enc:az->aa X}{l:aa az}(g:∀x,(enc x).length=k){e:az}(A:l[i]? = some e):hB (some k) (i*k) (a7 enc l) = .ok (.agg ⟨enc e⟩):=by
 have:=BI g A (cs:=[])
 grind
def dJ(g:GE):dC:=((g.f:Int),(g.t:Int),g.w)
def Ca(x:dC):GE:=⟨x.1.toNat,x.2.1.toNat,x.2.2⟩
theorem KJ:∀l:aa GE,a7 cR l=a7 j6 (l.map dJ)
 | []=>rfl
 |x::l=>by show cR x++a7 cR l=j6 (dJ x)++a7 j6 (l.map dJ);rw[KJ l];rfl
theorem OR(g:0<=n)(A:n<2147483648):Dj n=true:=by
 obtain⟨m,rfl⟩:=Int.eq_ofNat_of_zero_le g;show Nat.blt m 2147483648=true;rw[o5]
 grind
theorem ZW{N:Nat}{g:GE}(A:N<=2147483648)(h:g7 N g):lZ (dJ g):=⟨OR (by show(0:Int)<=(g.f:Int);omega) (by have:=h.1;show((g.f:Int))<_;omega),OR (by show(0:Int)<=(g.t:Int);omega) (by have:=h.2.1;show((g.t:Int))<_;omega),OR h.2.2.1 (by have:=h.2.2.2;show g.w<_;omega)⟩
def Ends(x y:dC):Prop:=x.1=y.1/\x.2.1=y.2.1
theorem Xt(e:dC):∀(l:aa dC),(∀x∈iH e l,∃y∈e::l,Ends x y)/\∀y∈e::l,∃x∈iH e l,Ends x y
 | []=>⟨λx A=>⟨x,A,rfl,rfl⟩,λy g=>⟨y,g,rfl,rfl⟩⟩
 |z::l=>by
  obtain⟨E,D⟩:=Xt e l;have I:iH e (z::l)=(bif fk z.1 e.1&&fk z.2.1 e.2.1 then(z.1,z.2.1,bif lw e.2.2 z.2.2 then e.2.2 else z.2.2)::l else z::iH e l):=rfl;rw[I];cases C:(fk z.1 e.1&&fk z.2.1 e.2.1)with
  |true =>
   simp only[eo,k4,sB]at C;simp only[qF];refine⟨λx A=>?_,λy g=>?_⟩
   ·rcases gh.1 A with rfl|A
    ·exact⟨z,by simp,rfl,rfl⟩
    ·exact⟨x,ab,rfl,rfl⟩
   ·rcases gh.1 g with rfl|g
    ·exact⟨_,mr ..,C.1,C.2⟩
    ·rcases gh.1 g with rfl|g
     ·exact⟨_,mr ..,rfl,rfl⟩
     ·exact⟨y,ab,rfl,rfl⟩
  |false =>
   simp only[mX];refine⟨λx A=>?_,λy g=>?_⟩
   ·rcases gh.1 A with rfl|A
    ·exact⟨x,by simp,rfl,rfl⟩
    ·obtain⟨y,g,B⟩:=E x A;refine⟨y,?_,B⟩
     grind
   ·rcases gh.1 g with rfl|g
    ·obtain⟨x,A,B⟩:=D y ab;exact⟨x,ab,B⟩
    ·rcases gh.1 g with rfl|g
     ·exact⟨y,ab,rfl,rfl⟩
     ·obtain⟨x,A,B⟩:=D y ab;exact⟨x,ab,B⟩
theorem Xu:∀(l g:aa dC),(∀x∈ig g l,∃y∈g++l,Ends x y)/\∀y∈g++l,∃x∈ig g l,Ends x y
 | [],g=>⟨λx E=>⟨x,by simpa[ig]using E,rfl,rfl⟩,λy A=>⟨y,by simpa[ig]using A,rfl,rfl⟩⟩
 |e::l,g=>by
  obtain⟨V,M⟩:=Xu l (iH e g);obtain⟨P,Z⟩:=Xt e g;refine⟨λx E=>?_,λy A=>?_⟩
  ·obtain⟨y,A,C⟩:=V x E;rcases he.1 A with A|A
   ·obtain⟨z,L,B⟩:=P y A;refine⟨z,?_,C.1.trans B.1,C.2.trans B.2⟩
    grind
   ·exact⟨y,ab,C⟩
  ·have D:∀z∈e::g,∃x∈ig (iH e g) l,Ends x z:=λz L=>by obtain⟨x,E,C⟩:=Z z L;obtain⟨h7,I,B⟩:=M x ab;exact⟨h7,I,B.1.trans C.1,B.2.trans C.2⟩
   rcases he.1 A with A|A
   ·exact D y ab
   ·rcases gh.1 A with rfl|A
    ·exact D _ ab
    ·exact M y ab
end Go.Proofs.YthlhhajnbgjfmaaGreat
