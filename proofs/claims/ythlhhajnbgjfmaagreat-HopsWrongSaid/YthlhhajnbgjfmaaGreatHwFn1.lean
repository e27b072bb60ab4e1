/- Parts of the proof: HwFn1: each statement bears its own conditions. -/
import Derived.Test.YthlhhajnbgjfmaaGreatProg
import Derived.KernelRfl
import Derived.Shelf.SlGeneric
import Derived.Test.YthlhhajnbgjfmaaGreatHw2
namespace Go.Proofs.YthlhhajnbgjfmaaGreat
open Go Go.Ax Go.Shelf Go.Proofs
set_option maxRecDepth 1000000
theorem mixed:Tryz.prog.follows .mixedOrders=true:=by kernel_rfl
theorem auz:Tryz.prog.funcs.toList.all FK=true:=by kernel_rfl
theorem Hi:pL Tryz.prog:=pL.of mixed auz
set_option linter.all false
set_option maxHeartbeats 1000000
variable {s:ao} {N R:aQ} {aC:X} {aM:aQ} {az a6 bj a2 aZ bI bq a3:X} {x a n:Int} {es:ac hF} {b:Int} {f:Nat} {d5:X} {i:Nat} {aO:ay Nat} {cs:ac X} {eg hi:X} {r:Int} {aP:aQ} {cH dd li jg:X} {k cap:Nat} {e:hF} {kV lw gp:X} {K:bZ} {qV:X} {aW:aQ} {y:Int}
theorem u28:Tryz.prog.underlying 53=some (.array 2 3):=by kernel_rfl
theorem vF:Tryz.prog.underlying 3=some (.int .i64):=by kernel_rfl
theorem k28:Tryz.prog.keyTypeAt 8 53=true:=by kernel_rfl
theorem c28:Tryz.prog.cellsOf 53=2:=by kernel_rfl
theorem cm:Tryz.prog.cellsOf 3=1:=by kernel_rfl
theorem Gc{k:IntKind}(g:k = .i64\/k = .u64){m:Nat}(h:m<4294967296):(Lit.int k (m:Int)).wf=true:=by
 rcases g with rfl|rfl <;> simp[Lit.wf,IntKind.min,IntKind.max,IntKind.bits,IntKind.signed] <;> omega
theorem adj{a b:Nat}(B:a<2147483648)(C:b<2147483648):Tryz.prog.keyLits 8 53 [.int .i64 (a:Int),.int .i64 (b:Int)]=some [.int .i64 (a:Int),.int .i64 (b:Int)]:=by
 have E:=Gc (k:=.i64) (.inl rfl) (J:a<4294967296)
 have D:=Gc (k:=.i64) (.inl rfl) (J:b<4294967296)
 have g:∀m:Nat,m<4294967296->Tryz.prog.keyLits 7 3 [.int .i64 (m:Int)]=some [.int .i64 (m:Int)]:=λm A=>by unfold Program.keyLits;simp only[vF,Gc (k:=.i64) (.inl rfl) A,se,if_true]
 unfold Program.keyLits;simp only[u28,c28,cm,nq,BU,Nat.reduceAdd,if_true];rw[show List.range 2=[0,1]from rfl];simp only[zC,IU,mb,s9,nr,IG,BQ,s8,g a J,g b J];rfl
theorem QK:Ku Tryz.prog 53:=λx y L E=>by
 obtain⟨a,b,c⟩:=x;obtain⟨d,e,f⟩:=y;obtain⟨A,P,Z⟩:=uI L.1;obtain⟨g,V,bh⟩:=uI L.2.1;obtain⟨B,I,cj⟩:=uI E.1;obtain⟨C,D,h8⟩:=uI E.2.1;simp only at P V I D;subst P V I D;show qF Tryz.prog 53 (.agg ⟨[(A:X),(g:X)]⟩) (.agg ⟨[(B:X),(C:X)]⟩)=_;have M:∀a b:Int,(Value.agg ⟨[.int .i64 a,.int .i64 b]⟩).formed Tryz.prog 53=true:=λa b=>by simp[Value.formed,u28,c28]
 unfold qF;rw[k28,M,M];show(bif true&&(true&&true&&true&&true)then GY (Tryz.prog.keyLits 8 53 [.int .i64 (A:Int),.int .i64 (g:Int)]) (Tryz.prog.keyLits 8 53 [.int .i64 (B:Int),.int .i64 (C:Int)])else none)=_;rw[adj Z bh,adj cj h8];show some ((mn .i64 .i64&&ga A B)&&((mn .i64 .i64&&ga g C)&&true))=some (ga B A&&ga C g);rw[v6,k3,k3,k3,k3]
 congr 1
 simp only[Bool.true_and,Bool.and_true];rw[Bool.beq_comm (a:=(A:Int)),Bool.beq_comm (a:=(g:Int))]
def DG:Field:={ name := "Hi",type:=2,offset:=0,embedded:=false,tag := "",pkgPath := "",byteOffset:=0 }
def DH:Field:={ name := "Lo",type:=188,offset:=1,embedded:=false,tag := "",pkgPath := "",byteOffset:=8 }
theorem K1:Tryz.prog.underlying 272=some (.struct #[DG,DH]):=by kernel_rfl
theorem Bt:Tryz.prog.underlying 2=some (.int .i64):=by kernel_rfl
theorem agC:Tryz.prog.underlying 188=some (.int .u64):=by kernel_rfl
theorem agD:Tryz.prog.keyTypeAt 8 272=true:=by kernel_rfl
theorem aff:Ce Tryz.prog 272=true:=by kernel_rfl
theorem K2:Tryz.prog.cellsOf 272=2:=by kernel_rfl
theorem c2:Tryz.prog.cellsOf 2=1:=by kernel_rfl
theorem agE:Tryz.prog.cellsOf 188=1:=by kernel_rfl
def c9(v:X)(U:Nat)(h:ae):bZ:=λr ab Y=>r=v/\aA U h ab/\U<=Y
abbrev fs(v:X)(U:Nat)(h:ae):bZ:=λr ab Y=>r=v/\ab=h/\Y=U
theorem adk:IntKind.wrap .i64 n=(if n % 18446744073709551616≥9223372036854775808 then n % 18446744073709551616-18446744073709551616 else n % 18446744073709551616):=by simp only[IntKind.wrap,IntKind.signed,IntKind.bits];simp
theorem aaZ{n:Nat}(C:n<4294967296):Tryz.prog.keyLits 8 272 (fP n)=some [.int .i64 0,.int .u64 (n:Int)]:=by
 have B:(Lit.int .i64 0).wf=true:=Gc (k:=.i64) (m:=0) (.inl rfl) J
 have A:=Gc (k:=.u64) (.inr rfl) C;have g:Tryz.prog.keyLits 7 2 [.int .i64 0]=some [.int .i64 0]:=by unfold Program.keyLits;simp only[Bt,B,se,if_true]
 have two:Tryz.prog.keyLits 7 188 [.int .u64 (n:Int)]=some [.int .u64 (n:Int)]:=by unfold Program.keyLits;simp only[agC,A,se,if_true]
 unfold Program.keyLits;simp only[K1,K2,fP,nq,BU,Nat.reduceAdd];rw[if_pos ⟨trivial,by kernel_rfl⟩];show Option.map List.flatten (List.mapM (λf:Field=>Tryz.prog.keyLits 7 f.type (List.take (Tryz.prog.cellsOf f.type) (List.drop f.offset [.int .i64 0,.int .u64 (n:Int)]))) [DG,DH])=_;simp only[zC,IU,show DG.type=2 from rfl,show DH.type=188 from rfl,show DG.offset=0 from rfl,show DH.offset=1 from rfl,c2,agE,nr,IG,BQ,s8,g,two];rfl
noncomputable abbrev Q:Program:=Tryz.prog
instance:Inhabited GE:=⟨⟨0,0,0⟩⟩
def qA(x y:GE):Int:=hL [fY (x.f:Int) (y.f:Int),fY (x.t:Int) (y.t:Int)]
theorem l3:pL Q:=Hi
def av(h:ae)(n:Nat)(x:X)(k:X->Prop):Prop:=af (wq n x) λd=>af (iO none h d) k
def iS(m:Nat)(h:ae)(n:Nat)(x:X)(k:X->Prop):Prop:=af (wq n x) λd=>af (iO (some m) h d) k
def et(h:ae)(n:Nat)(x i:X)(k:X->Prop):Prop:=af (f0 (.slice n) x i) λd=>af (iO none h d) k
def gD(m:Nat)(h:ae)(n:Nat)(x i:X)(k:X->Prop):Prop:=af (f0 (.slice n) x i) λd=>af (iO (some m) h d) k
def bm(o:BinOp)(t:TypeId)(a b:X)(p q:Prop):Prop:=af (bin Q o t a b) λv=>bt v p q
def ko(a:X)(p q:Prop):Prop:=af (bin Q .neq 30 a (.int .i64 0)) λv=>bt v p q
def cv(a b:X)(p q:Prop):Prop:=af (bin Q .lss 3 a b) λv=>bt v p q
def hP(a b:X)(p q:Prop):Prop:=af (bin Q .gtr 3 a b) λv=>bt v p q
def b9(a:X)(k:X->Prop):Prop:=af (bin Q .add 3 a (.int .i64 1)) k
def lD(a b:X)(k:X->Prop):Prop:=af (bin Q .add 3 a b) k
abbrev Va:=ao->ae->Nat->bZ->Prop
abbrev aBG(f:Nat)(eL:Va):=∀{s  h U K},eL s  h U K->aD Q s f [] h U K
theorem zf0{g:Va}(L:ac (ac Nat))(e:∀s  h U K,oz Q s L f [] h U K=g s  h U K:=by intros;kernel_rfl):aBG f g:=λw=>aD.AY l3 L w (e _ _ _ _)
abbrev cO:=ao->X->ae->Nat->bZ->Prop
abbrev cQ(f:Nat)(eL:cO):=∀{s ah h U K},eL s ah h U K->aD Q s f [ah] h U K
theorem cT{g:cO}(L:ac (ac Nat))(e:∀s A h U K,oz Q s L f [A] h U K=g s A h U K:=by intros;kernel_rfl):cQ f g:=λw=>aD.AY l3 L w (e _ _ _ _ _)
abbrev c0:=ao->X->X->ae->Nat->bZ->Prop
abbrev c4(f:Nat)(eL:c0):=∀{s ah t1 h U K},eL s ah t1 h U K->aD Q s f [ah,t1] h U K
theorem c5{g:c0}(L:ac (ac Nat))(e:∀s B A h U K,oz Q s L f [B,A] h U K=g s B A h U K:=by intros;kernel_rfl):c4 f g:=λw=>aD.AY l3 L w (e _ _ _ _ _ _)
abbrev gj:=ao->X->X->X->ae->Nat->bZ->Prop
abbrev gw(f:Nat)(eL:gj):=∀{s ah t1 t2 h U K},eL s ah t1 t2 h U K->aD Q s f [ah,t1,t2] h U K
theorem gz{g:gj}(L:ac (ac Nat))(e:∀s B A C h U K,oz Q s L f [B,A,C] h U K=g s B A C h U K:=by intros;kernel_rfl):gw f g:=λw=>aD.AY l3 L w (e _ _ _ _ _ _ _)
abbrev sZ:=ao->X->X->X->X->ae->Nat->bZ->Prop
abbrev uj(f:Nat)(eL:sZ):=∀{s ah t1 t2 t3 h U K},eL s ah t1 t2 t3 h U K->aD Q s f [ah,t1,t2,t3] h U K
theorem vu{g:sZ}(L:ac (ac Nat))(e:∀s C A B D h U K,oz Q s L f [C,A,B,D] h U K=g s C A B D h U K:=by intros;kernel_rfl):uj f g:=λw=>aD.AY l3 L w (e _ _ _ _ _ _ _ _)
abbrev xz:=ao->X->X->X->X->X->ae->Nat->bZ->Prop
abbrev zi(f:Nat)(eL:xz):=∀{s ah t1 t2 t3 f6 h U K},eL s ah t1 t2 t3 f6 h U K->aD Q s f [ah,t1,t2,t3,f6] h U K
theorem A3{g:xz}(L:ac (ac Nat))(e:∀s C A B D E h U K,oz Q s L f [C,A,B,D,E] h U K=g s C A B D E h U K:=by intros;kernel_rfl):zi f g:=λw=>aD.AY l3 L w (e _ _ _ _ _ _ _ _ _)
abbrev MH:=ao->X->X->X->X->X->X->ae->Nat->bZ->Prop
abbrev Vb(f:Nat)(eL:MH):=∀{s ah t1 t2 t3 f6 s0 h U K},eL s ah t1 t2 t3 f6 s0 h U K->aD Q s f [ah,t1,t2,t3,f6,s0] h U K
theorem zf6{g:MH}(L:ac (ac Nat))(e:∀s D A C E I B h U K,oz Q s L f [D,A,C,E,I,B] h U K=g s D A C E I B h U K:=by intros;kernel_rfl):Vb f g:=λw=>aD.AY l3 L w (e _ _ _ _ _ _ _ _ _ _)
def bE(o:BinOp)(t:TypeId)(a b:X)(k:X->Prop):Prop:=af (bin Q o t a b) k
def aV(s:ao)(f:Nat)(l:ac X)(h:ae)(n:Nat)(k:bZ):Prop:=aD Q s f l h n k
def cg(f:Nat)(l:ac X)(h:ae)(n:Nat)(k:bZ):Prop:=aD Q true f l h n λv ab jZ=>n<=jZ/\k v ab jZ
def bk:=And.intro @U8 (And.intro @bE.eq_1 (And.intro @bl.eq_1 (And.intro @bY.eq_1 (And.intro @aG.eq_1 (And.intro @fq.eq_1 (And.intro @cP.eq_1 (And.intro @cg.eq_1 (And.intro @da.eq_1 (And.intro @aV.eq_1 (And.intro @bG.eq_1 (And.intro @bX.eq_1 (And.intro @jx.eq_1 (And.intro @ad.eq_1 (And.intro @aw.eq_1 (And.intro @av.eq_1 (And.intro @iS.eq_1 (And.intro @et.eq_1 (And.intro @gD.eq_1 (And.intro @bm.eq_1 (And.intro @ko.eq_1 (And.intro @cv.eq_1 (And.intro @hP.eq_1 (And.intro @b9.eq_1 @lD.eq_1)))))))))))))))))))))))
theorem nw{p q:Prop}(h:q)(e:q->p:=by intro  h;simp(config:={maxSteps:=1000000})(disch:=omega)only[bk,↓reduceIte,Nat.reduceAdd,Nat.reduceSub,Nat.reduceMul,Nat.reduceLT,Nat.reduceLeDiff,Nat.reduceEqDiff,Int.reduceBEq,Int.reduceLT,Int.reduceNeg];exact h):p:=e  h
theorem mf{p q g:Prop}(aC:g)(h:q)(e:g->q->p:=by intro aC h;simp(config:={maxSteps:=1000000})(disch:=omega)only[bk,↓reduceIte,Nat.reduceAdd,Nat.reduceSub,Nat.reduceMul,Nat.reduceLT,Nat.reduceLeDiff,Nat.reduceEqDiff,Int.reduceBEq,Int.reduceLT,Int.reduceNeg,aC];exact h):p:=e aC h
theorem tv{p q g A:Prop}(aC:g)(az:A)(h:q)(e:g->A->q->p:=by intro aC az h;simp(config:={maxSteps:=1000000})(disch:=omega)only[bk,↓reduceIte,Nat.reduceAdd,Nat.reduceSub,Nat.reduceMul,Nat.reduceLT,Nat.reduceLeDiff,Nat.reduceEqDiff,Int.reduceBEq,Int.reduceLT,Int.reduceNeg,aC,az];exact h):p:=e aC az h
theorem Ru{p q A B g:Prop}(aC:A)(az:B)(a2:g)(h:q)(e:A->B->g->q->p:=by intro aC az a2 h;simp(config:={maxSteps:=1000000})(disch:=omega)only[bk,↓reduceIte,Nat.reduceAdd,Nat.reduceSub,Nat.reduceMul,Nat.reduceLT,Nat.reduceLeDiff,Nat.reduceEqDiff,Int.reduceBEq,Int.reduceLT,Int.reduceNeg,aC,az,a2];exact h):p:=e aC az a2 h
theorem Kz{p q A C g B:Prop}(aC:A)(az:C)(a2:g)(a3:B)(h:q)(e:A->C->g->B->q->p:=by intro aC az a2 a3 h;simp(config:={maxSteps:=1000000})(disch:=omega)only[bk,↓reduceIte,Nat.reduceAdd,Nat.reduceSub,Nat.reduceMul,Nat.reduceLT,Nat.reduceLeDiff,Nat.reduceEqDiff,Int.reduceBEq,Int.reduceLT,Int.reduceNeg,aC,az,a2,a3];exact h):p:=e aC az a2 a3 h
theorem Rv{p q B A D g C:Prop}(aC:B)(az:A)(a2:D)(a3:g)(aZ:C)(h:q)(e:B->A->D->g->C->q->p:=by intro aC az a2 a3 aZ h;simp(config:={maxSteps:=1000000})(disch:=omega)only[bk,↓reduceIte,Nat.reduceAdd,Nat.reduceSub,Nat.reduceMul,Nat.reduceLT,Nat.reduceLeDiff,Nat.reduceEqDiff,Int.reduceBEq,Int.reduceLT,Int.reduceNeg,aC,az,a2,a3,aZ];exact h):p:=e aC az a2 a3 aZ h
theorem aE{p q:Prop}(h:q)(e:q->p:=by intro  h;simp(config:={maxSteps:=1000000})(disch:=omega)only[bk,seval];exact h):p:=e  h
theorem bf{p q g:Prop}(aC:g)(h:q)(e:g->q->p:=by intro aC h;simp(config:={maxSteps:=1000000})(disch:=omega)only[bk,aC,seval];exact h):p:=e aC h
theorem cM{p q g A:Prop}(aC:g)(az:A)(h:q)(e:g->A->q->p:=by intro aC az h;simp(config:={maxSteps:=1000000})(disch:=omega)only[bk,aC,az,seval];exact h):p:=e aC az h
theorem gX{p q A B g:Prop}(aC:A)(az:B)(a2:g)(h:q)(e:A->B->g->q->p:=by intro aC az a2 h;simp(config:={maxSteps:=1000000})(disch:=omega)only[bk,aC,az,a2,seval];exact h):p:=e aC az a2 h
theorem ll{p q A C g B:Prop}(aC:A)(az:C)(a2:g)(a3:B)(h:q)(e:A->C->g->B->q->p:=by intro aC az a2 a3 h;simp(config:={maxSteps:=1000000})(disch:=omega)only[bk,aC,az,a2,a3,seval];exact h):p:=e aC az a2 a3 h
theorem u4{p q B A D g C:Prop}(aC:B)(az:A)(a2:D)(a3:g)(aZ:C)(h:q)(e:B->A->D->g->C->q->p:=by intro aC az a2 a3 aZ h;simp(config:={maxSteps:=1000000})(disch:=omega)only[bk,aC,az,a2,a3,aZ,seval];exact h):p:=e aC az a2 a3 aZ h
theorem Ah{p q B A D g C E:Prop}(aC:B)(az:A)(a2:D)(a3:g)(aZ:C)(bI:E)(h:q)(e:B->A->D->g->C->E->q->p:=by intro aC az a2 a3 aZ bI h;simp(config:={maxSteps:=1000000})(disch:=omega)only[bk,aC,az,a2,a3,aZ,bI,seval];exact h):p:=e aC az a2 a3 aZ bI h
def adl(s:ao)(K:bZ)(b8 cN dY:X)(aq:ae)(a0:Nat):Prop:=av aq 2 b8 λb=>av aq 0 dY λd=>cg 79 [b,d] aq a0 λe f g=>aG 2 f dY λi=>jx 2 dY i (af (aN f 2 cN i) λj=>bl 3 b8 λk=>bY j k λl=>da k l (af (n1 (.int .i64) l) λm=>bE .rem 3 m (ad 4) λn=>b9 n λo=>bl 4 b8 λp=>bY j p λq=>da p q (af (n1 (.int .i64) q) λr=>bE .rem 3 r (ad 4) λt=>b9 t λaS=>aG 2 j cN λv=>K (.tuple ⟨[v,e,o,aS]⟩) j g) 2 [f,aq]) 2 [f,aq]) 1 [aq]
def make:cO:=λs ah h U K=>bG ah h U λa b c=>bX [(ad 0),aw] b c λd e f=>iS 2 e 0 a λi=>aV s 78 [i] e f λj k l=>bX [(ad 0),aw] k l λm n o=>af (aN n 2 m j) λp=>av p 0 m λr=>bm .eql 3 r (ad 0) (af (cw [(ad 0),aw] [(0,1,(ad 1))]) λaS=>af (aN p 2 m aS) λv=>(adl s K a d m v o)) (adl s K a d m p o)
def right:cO:=λs ah h U K=>bG ah h U λa b c=>af (.ok (Value.func (.func 163) ⟨[]⟩ ⟨[a]⟩)) λd=>bX [.nilFunc] b c λe f g=>af (aN f 1 e d) λi=>av i 0 a λk=>cv k (ad 0) (K (ad 3) i g) (av i 0 a λn=>hP n (ad 4096) (K (ad 5) i g) (av i 1 a λq=>cP q λr=>hP r (ad 65536) (K (ad 5) i g) (av i 1 a λv=>af (.ok (Value.func (.func 165) ⟨[]⟩ ⟨[e]⟩)) λw=>aV s 164 [v,w] i g λx y z=>bt x (K (ad 3) y z) (av y 1 a λbS=>aV s 164 [bS,(.func (.func 166) #[] #[])] y z λbA a9 bM=>bt bA (K (ad 7) a9 bM) (K (ad 0) a9 bM)))))
theorem auA:cQ 83 right:=cT []
def QL:c0:=λs ah t1 h U K=>cv ah (ad 0) (K (.bool true) h U) (av h 0 t1 λc=>bE .geq 3 ah c λd=>K d h U)
theorem aa0:c4 163 QL:=c5 []
def adm:c0:=λs ah t1 h U K=>bG ah h U λa b c=>bY b t1 λd=>av b 0 a λf=>fg Q s (hV b c [f] d) λg i j=>bt g (K (.bool true) i j) (bY i t1 λk=>av i 1 a λm=>fg Q s (hV i j [m] k) λn o p=>K n o p)
theorem aqW:c4 165 adm:=c5 []
def adn:cO:=λs ah h U K=>bG ah h U λa b c=>av b 2 a λe=>bm .lss 2 e (ad 0) (K (.bool true) b c) (av b 2 a λi=>bE .gtr 2 i (ad 2147483647) λj=>K j b c)
theorem aqX:cQ 166 adn:=cT []
def axb:c0:=λs ah t1 h U K=>aV s 255 [ah,t1] h U λa b c=>bE .geq 3 a (ad 0) λd=>K d b c
theorem auB:c4 164 axb:=c5 []
def QM:ac (ac Nat):=[[0,1,4,7,8]]
def aa1(s:ao)(aC az aZ a6 bq:X)(h:ae)(U:Nat)(N:aQ)(aM:aQ)(R:aQ):Prop:=cv bq a6 (gD 3 h 3 aC bq λc=>fg Q s (hV h U [c] az) λd e f=>bt d (R [aC,az,bq,a6,bq] e f) (b9 bq λg=>N [aC,az,aZ,a6,g] e f)) (aM [aC,az,aZ,a6,bq] h U)
def index:c0:=λs ah t1 h U K=>cP ah λa=>bF (bW Q s QM 255 0) [ah,t1,(ad 0),a,(ad 0)] h U [(0,λb c d=>K (ad (-1)) c d)] (λe f g=>K (aT e 2) f g)
theorem aqY{h:ae}{U:Nat}:bW Q s QM 255 0 [aC,az,aZ,a6,bq] h U N [(0,aM)] R=aa1 s aC az aZ a6 bq h U N aM R:=by kernel_rfl
theorem auC:c4 255 index:=c5 QM
def PB:cO:=λs ah h U K=>bm .eql 29 ah aw (K aw h U) (dS (eO 0 [] []) h U λb c d=>dm (dI (dn 1 c d b ah)) λe f g=>K e f g)
theorem YS:cQ 88 PB:=cT []
def FQ:ac (ac Nat):=[[1,2,3],[1,2,5]]
def YT(s:ao)(az a2 a3:X)(h:ae)(U:Nat)(N:aQ)(aM:aQ)(R:aQ):Prop:=av h 1 az λb=>cP b λc=>cv a3 c (av h 1 az λf=>gD 3 h 3 f a3 λi=>bX [(ad 0),(ad 0),(ad 0)] h U λj k l=>af (aN k 3 j i) λm=>av m 0 j λo=>cv o (ad 0) (R [az,(ad 3),a3] m l) (av m 0 j λr=>av m 0 az λaS=>bm .geq 3 r aS (R [az,(ad 3),a3] m l) (av m 1 j λx=>cv x (ad 0) (R [az,(ad 3),a3] m l) (av m 1 j λbz=>av m 0 az λbA=>bm .geq 3 bz bA (R [az,(ad 3),a3] m l) (b9 a3 λbM=>N [az,a2,bM] m l))))) (aM [az,a2,a3] h U)
def YU(s:ao)(az a2 bI:X)(h:ae)(U:Nat)(N:aQ)(aP:aQ)(R:aQ):Prop:=av h 1 az λb=>cP b λc=>cv bI c (av h 1 az λf=>fq 3 f bI λg=>av h 2 g λj=>bm .lss 2 j (ad 0) (R [az,(ad 7),bI] h U) (av h 1 az λm=>fq 3 m bI λn=>av h 2 n λp=>bm .gtr 2 p (ad 2147483647) (R [az,(ad 7),bI] h U) (b9 bI λr=>N [az,a2,r] h U))) (aP [az,a2,bI] h U)
def OM(s:ao)(K:bZ)(b8 Tl:X)(aq:ae)(a0:Nat):Prop:=bt Tl (K (ad 5) aq a0) (bF (bW Q s FQ 92 0) [b8,(ad 0),(ad 0)] aq a0 [(0,λa b c=>bF (bW Q s FQ 92 1) [(aT a 0),(aT a 1),(ad 0)] b c [(2,λd e f=>K (ad 0) e f)] (λg i j=>K (aT g 1) i j))] (λk l m=>K (aT k 1) l m))
def ado:cO:=λs ah h U K=>bG ah h U λa b c=>av b 0 a λe=>cv e (ad 0) (K (ad 3) b c) (av b 0 a λi=>hP i (ad 4096) (OM s K a (.bool true) b c) (av b 1 a λl=>cP l λm=>bE .gtr 3 m (ad 65536) λn=>(OM s K a n b c)))
theorem amY{h:ae}{U:Nat}:bW Q s FQ 92 0 [az,a2,a3] h U N [(0,aM)] R=YT s az a2 a3 h U N aM R:=by kernel_rfl
theorem amZ{h:ae}{U:Nat}:bW Q s FQ 92 1 [az,a2,bI] h U N [(2,aP)] R=YU s az a2 bI h U N aP R:=by kernel_rfl
theorem aqZ:cQ 92 ado:=cT FQ
def afg:cO:=λs ah h U K=>bG ah h U λa b c=>bX [(ad 0),aw] b c λd e f=>av e 1 a λi=>aV s 172 [(ad 1),i] e f λj k l=>af (cu j 0) λm=>af (cu j 1) λn=>av k 0 a λp=>af (cw [(ad 0),aw] [(0,1,p),(1,1,m)]) λq=>af (aN k 2 d q) λr=>aG 2 r d λt=>K t r l
theorem auD:cQ 98 afg:=cT []
def adp:cO:=λs ah h U K=>bG ah h U λa b c=>bX [(ad 0),aw] b c λd e f=>av e 1 a λi=>aV s 173 [(ad 1),i] e f λj k l=>af (cu j 0) λm=>af (cu j 1) λn=>av k 0 a λp=>af (cw [(ad 0),aw] [(0,1,p),(1,1,m)]) λq=>af (aN k 2 d q) λr=>aG 2 r d λt=>K t r l
theorem aq0:cQ 100 adp:=cT []
def tm:ac (ac Nat):=[[0,1,4,5,6,7,8],[0,1,4,5,6,7,8,9],[0,1,4,5,6,7,8,9,10,11],[4,5,6,7,12]]
def aa2(s:ao)(aC az aZ bI bj a6 bq cH:X)(h:ae)(U:Nat)(N:aQ)(aP:aQ)(R:aQ):Prop:=cP bj λa=>cv cH a (gD 3 h 3 bj cH λd=>gD 3 h 3 az bq λf=>cg 266 [d,f] h U λg i j=>bt g (b9 cH λk=>N [aC,az,aZ,bI,bj,a6,bq,k] i j) (aP [aC,az,aZ,bI,bj,a6,bq,cH] i j)) (aP [aC,az,aZ,bI,bj,a6,bq,cH] h U)
def aa3(s:ao)(aC az aZ bI bj a6 bq cH dd d5:X)(h:ae)(U:Nat)(N:aQ)(eE:aQ)(R:aQ):Prop:=hP d5 cH (bE .sub 3 d5 (ad 1) λb=>gD 3 h 3 bj b λd=>fq 3 bj d5 λe=>af (aN h 3 e d) λf=>bE .sub 3 d5 (ad 1) λg=>gD 2 f 2 a6 g λj=>fq 2 a6 d5 λk=>af (aN f 2 k j) λl=>bE .sub 3 d5 (ad 1) λm=>N [aC,az,aZ,bI,bj,a6,bq,cH,dd,m] l U) (eE [aC,az,aZ,bI,bj,a6,bq,cH,dd,d5] h U)
def Cm(s:ao)(N:aQ)(aM:aQ)(R:aQ)(cA b8 c6 eb dY fi ib:X)(aq:ae)(a0:Nat):Prop:=b9 ib λa=>N [cA,b8,c6,eb,dY,fi,a] aq a0
def aa4(s:ao)(aC az aZ bI bj a6 bq:X)(h:ae)(U:Nat)(N:aQ)(aM:aQ)(R:aQ):Prop:=cP az λa=>cv bq a (bF (bW Q s tm 173 1) [aC,az,aZ,bI,bj,a6,bq,(ad 0)] h U [(2,λc d e=>fq 3 (aT c 1) (aT c 6) λf=>av d 2 f λi=>aV s 267 [i] d e λj k l=>bX [(ad 0),(.int .u64 0)] k l λm n o=>af (aN n 2 m j) λp=>cP (aT c 4) λq=>cv (aT c 7) q (gD 3 p 3 (aT c 1) (aT c 6) λaS=>gD 3 p 3 (aT c 4) (aT c 7) λw=>cg 266 [aS,w] p o λx y z=>af (ds .not x) λbz=>bt bz (gD 2 y 2 (aT c 5) (aT c 7) λbA=>aG 2 y m λa9=>cg 268 [(aT c 0),bA,a9] y z λbM b5 bO=>fq 2 (aT c 5) (aT c 7) λcJ=>af (aN b5 2 cJ bM) λcp=>(Cm s N aM R (aT c 0) (aT c 1) (aT c 2) (aT c 3) (aT c 4) (aT c 5) (aT c 6) cp bO)) (af (cw [(ad 0),(ad 0),(ad 0)] []) λdk=>dS (eO 1 [(ad 0),(ad 0),(ad 0)] [(0,3,dk)]) y z λc3 eo am=>dm (dI (dn 3 eo am (aT c 4) c3)) λan ek fK=>af (cw [(ad 0),(.int .u64 0)] []) λfU=>dS (eO 1 [(ad 0),(.int .u64 0)] [(0,2,fU)]) ek fK λgk hp hQ=>dm (dI (dn 2 hp hQ (aT c 5) gk)) λfV jA jB=>cP an λjJ=>bE .sub 3 jJ (ad 1) λlj=>bF (bW Q s tm 173 2) [(aT c 0),(aT c 1),(aT c 2),(aT c 3),an,fV,(aT c 6),(aT c 7),m,lj] jA jB [(4,λfj b7 oD=>fq 3 (aT fj 1) (aT fj 6) λbe=>av b7 0 be λic=>fq 3 (aT fj 1) (aT fj 6) λfF=>av b7 1 fF λp6=>af (cw [(ad 0),(ad 0),(ad 0)] [(0,1,ic),(1,1,p6)]) λmC=>fq 3 (aT fj 4) (aT fj 7) λjK=>af (aN b7 3 jK mC) λiF=>aG 2 iF (aT fj 8) λpa=>fq 2 (aT fj 5) (aT fj 7) λaY=>af (aN iF 2 aY pa) λp7=>(Cm s N aM R (aT fj 0) (aT fj 1) (aT fj 2) (aT fj 3) (aT fj 4) (aT fj 5) (aT fj 6) p7 oD))] (λ_ _ _=>False))) (af (cw [(ad 0),(ad 0),(ad 0)] []) λeJ=>dS (eO 1 [(ad 0),(ad 0),(ad 0)] [(0,3,eJ)]) p o λuk gx jI=>dm (dI (dn 3 gx jI (aT c 4) uk)) λEf Bw fv=>af (cw [(ad 0),(.int .u64 0)] []) λnj=>dS (eO 1 [(ad 0),(.int .u64 0)] [(0,2,nj)]) Bw fv λIa oB gc=>dm (dI (dn 2 oB gc (aT c 5) Ia)) λgq gs qW=>cP Ef λni=>bE .sub 3 ni (ad 1) λul=>bF (bW Q s tm 173 2) [(aT c 0),(aT c 1),(aT c 2),(aT c 3),Ef,gq,(aT c 6),(aT c 7),m,ul] gs qW [(4,λj0 jw aCH=>fq 3 (aT j0 1) (aT j0 6) λcL=>av jw 0 cL λnd=>fq 3 (aT j0 1) (aT j0 6) λVc=>av jw 1 Vc λIb=>af (cw [(ad 0),(ad 0),(ad 0)] [(0,1,nd),(1,1,Ib)]) λBx=>fq 3 (aT j0 4) (aT j0 7) λMI=>af (aN jw 3 MI Bx) λcs=>aG 2 cs (aT j0 8) λVd=>fq 2 (aT j0 5) (aT j0 7) λMJ=>af (aN cs 2 MJ Vd) λow=>(Cm s N aM R (aT j0 0) (aT j0 1) (aT j0 2) (aT j0 3) (aT j0 4) (aT j0 5) (aT j0 6) ow aCH))] (λ_ _ _=>False)))] (λ_ _ _=>False)) (aM [aC,az,aZ,bI,bj,a6,bq] h U)
def aa5(s:ao)(aZ bI bj a6 eg:X)(h:ae)(U:Nat)(N:aQ)(hA:aQ)(R:aQ):Prop:=cP bj λa=>cv eg a (gD 2 h 2 a6 eg λd=>aV s 269 [d] h U λe f g=>af (cu e 0) λi=>af (cu e 1) λj=>af (ds .not j) λk=>bt k (R [aw,(ad 12),bj,a6,eg] f g) (fq 3 bj eg λl=>bl 2 l λm=>af (aN f 1 m i) λn=>b9 eg λo=>N [aZ,bI,bj,a6,o] n g)) (hA [aZ,bI,bj,a6,eg] h U)
def afh:c0:=λs ah t1 h U K=>aV s 265 [ah] h U λa b c=>af (ds .not a) λd=>bt d (K (.tuple ⟨[aw,(ad 8)]⟩) b c) (bF (bW Q s tm 173 0) [ah,t1,aw,(ad 0),aw,aw,(ad 0)] b c [(0,λe f g=>bF (bW Q s tm 173 3) [(aT e 2),(aT e 3),(aT e 4),(aT e 5),(ad 0)] f g [(6,λi j k=>K (.tuple ⟨[(aT i 2),(ad 0)]⟩) j k)] (λl m n=>K (.tuple ⟨[(aT l 0),(aT l 1)]⟩) m n))] (λ_ _ _=>False))
theorem aq1{h:ae}{U:Nat}:bW Q s tm 173 1 [aC,az,aZ,bI,bj,a6,bq,cH] h U N [(2,aP)] R=aa2 s aC az aZ bI bj a6 bq cH h U N aP R:=by kernel_rfl
theorem aq2{h:ae}{U:Nat}{g:aQ}:bW Q s tm 173 2 [aC,az,aZ,bI,bj,a6,bq,cH,dd,d5] h U N [(4,g)] R=aa3 s aC az aZ bI bj a6 bq cH dd d5 h U N g R:=by kernel_rfl
theorem aq3{h:ae}{U:Nat}:bW Q s tm 173 0 [aC,az,aZ,bI,bj,a6,bq] h U N [(0,aM)] R=aa4 s aC az aZ bI bj a6 bq h U N aM R:=by kernel_rfl
theorem aq4{h:ae}{U:Nat}{g:aQ}:bW Q s tm 173 3 [aZ,bI,bj,a6,eg] h U N [(6,g)] R=aa5 s aZ bI bj a6 eg h U N g R:=by kernel_rfl
theorem auE:c4 173 afh:=c5 tm
def ris:cO:=λs ah h U K=>bm .geq 234 ah (ad 1) (bE .leq 234 ah (ad 5) λb=>K b h U) (K (.bool false) h U)
theorem ay6:cQ 265 ris:=cT []
def afi:c0:=λs ah t1 h U K=>bG ah h U λa b c=>bG t1 b c λd e f=>av e 0 a λi=>av e 0 d λk=>cv i k (K (.bool true) e f) (av e 0 a λn=>av e 0 d λp=>bm .eql 3 n p (av e 1 a λt=>av e 1 d λv=>bE .lss 3 t v λw=>K w e f) (K (.bool false) e f))
theorem auF:c4 266 afi:=c5 []
def rof:cO:=λs ah h U K=>bX [(ad 0),(.int .u64 0)] h U λa b c=>bm .lss 2 ah (ad 0) (af (n1 (.int .u64) ah) λe=>af (cw [(ad 0),(.int .u64 0)] [(0,1,(ad (-1))),(1,1,e)]) λf=>af (aN b 2 a f) λg=>aG 2 g a λi=>K i g c) (af (n1 (.int .u64) ah) λj=>af (cw [(ad 0),(.int .u64 0)] [(1,1,j)]) λk=>af (aN b 2 a k) λl=>aG 2 l a λm=>K m l c)
theorem ay7:cQ 267 rof:=cT []
def Ke(s:ao)(K:bZ)(c6 eb dY fi p8:X)(aq:ae)(a0:Nat):Prop:=bt p8 (aG 2 aq eb λa=>aG 2 aq c6 λb=>aV s 360 [a,b] aq a0 λc d e=>cv c (ad 0) (aG 2 d eb λg=>af (aN d 2 dY g) λi=>aG 2 i dY λj=>K j i e) (aG 2 d c6 λk=>af (aN d 2 dY k) λl=>aG 2 l dY λm=>K m l e)) (bm .eql 234 fi (ad 2) (aG 2 aq c6 λo=>af (cw [(ad 0),(.int .u64 0)] []) λp=>bm .neq 272 o p (aV s 361 [(.bool true)] aq a0 λr t aS=>af (aN t 2 dY r) λv=>aG 2 v dY λw=>K w v aS) (aG 2 aq eb λx=>af (cw [(ad 0),(.int .u64 0)] []) λy=>bE .neq 272 x y λz=>aV s 361 [z] aq a0 λbz bS bA=>af (aN bS 2 dY bz) λa9=>aG 2 a9 dY λbM=>K bM a9 bA)) (bm .eql 234 fi (ad 5) (aG 2 aq c6 λbO=>aG 2 aq eb λcJ=>aV s 362 [bO,cJ] aq a0 λcp dk c3=>af (aN dk 2 dY cp) λeo=>aG 2 eo dY λam=>K am eo c3) (af (cw [(ad 0),(.int .u64 0)] []) λan=>af (aN aq 2 dY an) λek=>aG 2 ek dY λfK=>K fK ek a0)))
def agF:gj:=λs ah t1 t2 h U K=>bG t1 h U λa b c=>bG t2 b c λd e f=>bX [(ad 0),(.int .u64 0)] e f λg i j=>bm .eql 234 ah (ad 1) (Ke s K a d g ah (.bool true) i j) (bm .eql 234 ah (ad 3) (Ke s K a d g ah (.bool true) i j) (bE .eql 234 ah (ad 4) λm=>(Ke s K a d g ah m i j)))
theorem axc:gw 268 agF:=gz []
def B1(s:ao)(K:bZ)(c6 Tm:X)(aq:ae)(a0:Nat):Prop:=bt Tm (K (.tuple ⟨[c6,(.bool true)]⟩) aq a0) (K (.tuple ⟨[(ad 0),(.bool false)]⟩) aq a0)
def aa6:cO:=λs ah h U K=>bG ah h U λa b c=>av b 1 a λe=>af (n1 (.int .i64) e) λf=>av b 0 a λi=>bm .eql 2 i (ad 0) (bm .geq 2 f (ad 0) (B1 s K f (.bool true) b c) (av b 0 a λm=>bm .eql 2 m (ad (-1)) (bE .lss 2 f (ad 0) λo=>(B1 s K f o b c)) (B1 s K f (.bool false) b c))) (av b 0 a λq=>bm .eql 2 q (ad (-1)) (bE .lss 2 f (ad 0) λt=>(B1 s K f t b c)) (B1 s K f (.bool false) b c))
theorem am0:cQ 269 aa6:=cT []
def Kf(s:ao)(K:bZ)(cN ca Tm:X)(aq:ae)(a0:Nat):Prop:=bt Tm (K (ad (-1)) aq a0) (aG 2 aq cN λa=>aG 2 aq ca λb=>bm .eql 272 a b (K (ad 0) aq a0) (K (ad 1) aq a0))
def agG:c0:=λs ah t1 h U K=>bG ah h U λa b c=>bG t1 b c λd e f=>av e 0 a λi=>av e 0 d λk=>bm .lss 2 i k (Kf s K a d (.bool true) e f) (av e 0 a λn=>av e 0 d λp=>bm .eql 2 n p (av e 1 a λt=>av e 1 d λv=>bE .lss 188 t v λw=>(Kf s K a d w e f)) (Kf s K a d (.bool false) e f))
theorem axd:c4 360 agG:=c5 []
def sj(s:ao)(K:bZ)(ca c6:X)(aq:ae)(a0:Nat):Prop:=aG 2 aq ca λa=>aV s 189 [a] aq a0 λb c d=>af (cu b 0) λe=>af (cu b 1) λf=>af (aN c 5 c6 e) λg=>aG 5 g c6 λi=>K (.tuple ⟨[i,f]⟩) g d
def QN:c0:=λs ah t1 h U K=>bG ah h U λa b c=>bG t1 b c λd e f=>bX [(ad 0),(ad 0),aw,aw,aw] e f λg i j=>aG 5 i a λk=>aV s 187 [k] i j λl m n=>ko l (af (cw [(ad 0),(ad 0),aw,aw,aw] []) λp=>af (aN m 5 g p) λq=>aG 5 q g λr=>K (.tuple ⟨[r,l]⟩) q n) (av m 0 d λaS=>av m 1 a λw=>bm .neq 3 aS w (af (cw [(ad 0),(ad 0),aw,aw,aw] []) λy=>af (aN m 5 g y) λz=>aG 5 z g λbz=>K (.tuple ⟨[bz,(ad 4)]⟩) z n) (aG 2 m d λbS=>aV s 83 [bS] m n λbA a9 bM=>ko bA (af (cw [(ad 0),(ad 0),aw,aw,aw] []) λbO=>af (aN a9 5 g bO) λcJ=>aG 5 cJ g λcp=>K (.tuple ⟨[cp,bA]⟩) cJ bM) (av a9 0 a λc3=>bm .eql 40 c3 (ad 5) (aG 2 a9 d λam=>aV s 182 [am] a9 bM λan ek fK=>af (aN ek 2 d an) λfU=>aG 2 fU d λgk=>aV s 181 [gk] fU fK λhp hQ fV=>af (aN hQ 2 d hp) λjA=>aG 2 jA d λjB=>aV s 188 [jB] jA fV λjJ lj fj=>af (aN lj 2 d jJ) λb7=>(sj s K d g b7 fj)) (bm .eql 40 c3 (ad 3) (aG 2 a9 d λbe=>aV s 181 [be] a9 bM λkK ic fF=>af (aN ic 2 d kK) λbi=>aG 2 bi d λp6=>aV s 188 [p6] bi fF λmC jK iF=>af (aN jK 2 d mC) λpa=>(sj s K d g pa iF)) (bm .eql 40 c3 (ad 1) (aG 2 a9 d λp7=>aV s 188 [p7] a9 bM λeJ uk gx=>af (aN uk 2 d eJ) λjI=>(sj s K d g jI gx)) (sj s K d g a9 bM))))))
theorem aa7:c4 114 QN:=c5 []
def zJ(s:ao)(K:bZ)(b8:X)(aq:ae)(a0:Nat):Prop:=av aq 4 b8 λb=>cP b λc=>hP c (ad 65536) (K (ad 5) aq a0) (av aq 4 b8 λf=>aV s 278 [f,(.func (.func 279) #[] #[])] aq a0 λg i j=>bt g (K (ad 7) i j) (K (ad 0) i j))
def Fa(s:ao)(K:bZ)(b8 lx:X)(aq:ae)(a0:Nat):Prop:=bt lx (K (ad 8) aq a0) (av aq 1 b8 λb=>aV s 277 [b,(ad 4096)] aq a0 λc d e=>af (ds .not c) λf=>bt f (K (ad 3) d e) (av d 0 b8 λi=>bm .eql 40 i (ad 4) (av d 3 b8 λl=>aV s 277 [l,(ad 8192)] d e λm n o=>af (ds .not m) λp=>bt p (K (ad 3) n o) (av n 2 b8 λr=>av n 1 b8 λaS=>bE .sub 3 aS (ad 1) λv=>aV s 277 [r,v] n o λw x y=>af (ds .not w) λz=>bt z (K (ad 3) x y) (zJ s K b8 x y))) (bm .eql 40 i (ad 1) (av d 2 b8 λbA=>av d 1 b8 λbM=>bE .sub 3 bM (ad 1) λb5=>aV s 277 [bA,b5] d e λbO cJ cp=>af (ds .not bO) λdk=>bt dk (K (ad 3) cJ cp) (zJ s K b8 cJ cp)) (bm .eql 40 i (ad 2) (av d 2 b8 λam=>av d 1 b8 λek=>bE .sub 3 ek (ad 1) λfK=>aV s 277 [am,fK] d e λfU gk hp=>af (ds .not fU) λhQ=>bt hQ (K (ad 3) gk hp) (zJ s K b8 gk hp)) (zJ s K b8 d e)))))
def aa8:cO:=λs ah h U K=>bG ah h U λa b c=>av b 0 a λe=>bm .leq 40 e (ad 0) (Fa s K a (.bool true) b c) (av b 0 a λi=>bE .gtr 40 i (ad 5) λj=>(Fa s K a j b c))
theorem am1:cQ 187 aa8:=cT []
def aa9:c0:=λs ah t1 h U K=>bm .geq 3 ah (ad 0) (bE .leq 3 ah t1 λb=>K b h U) (K (.bool false) h U)
theorem am2:c4 277 aa9:=c5 []
def auG:c0:=λs ah t1 h U K=>aV s 366 [ah,t1] h U λa b c=>bE .geq 3 a (ad 0) λd=>K d b c
theorem aq5:c4 278 auG:=c5 []
def aba:cO:=λs ah h U K=>bm .lss 2 ah (ad 0) (K (.bool true) h U) (bE .gtr 2 ah (ad 2147483647) λb=>K b h U)
theorem am3:cQ 279 aba:=cT []
def PC:ac (ac Nat):=[[0,1,4,7,8]]
def YV(s:ao)(aC az aZ a6 bq:X)(h:ae)(U:Nat)(N:aQ)(aM:aQ)(R:aQ):Prop:=cv bq a6 (et h 1 aC bq λc=>fg Q s (hV h U [c] az) λd e f=>bt d (R [aC,az,bq,a6,bq] e f) (b9 bq λg=>N [aC,az,aZ,a6,g] e f)) (aM [aC,az,aZ,a6,bq] h U)
def adq:c0:=λs ah t1 h U K=>cP ah λa=>bF (bW Q s PC 366 0) [ah,t1,(ad 0),a,(ad 0)] h U [(0,λb c d=>K (ad (-1)) c d)] (λe f g=>K (aT e 2) f g)
theorem am4{h:ae}{U:Nat}:bW Q s PC 366 0 [aC,az,aZ,a6,bq] h U N [(0,aM)] R=YV s aC az aZ a6 bq h U N aM R:=by kernel_rfl
theorem aq6:c4 366 adq:=c5 PC
def adr:cO:=λs ah h U K=>bG ah h U λa b c=>bX [(ad 0),aw] b c λd e f=>aG 2 e a λg=>aV s 275 [g,(.func (.func 276) #[] #[])] e f λi j k=>af (aN j 2 d i) λl=>aG 2 l d λm=>K m l k
theorem aq7:cQ 182 adr:=cT []
def tG:cO:=λs ah h U K=>bG ah h U λa b c=>bX [(ad 0),aw] b c λd e f=>aG 2 e a λg=>cg 274 [g] e f λi j k=>bl 1 a λl=>bY j l λm=>da l m (af (yz 1 none i) λn=>dS (eO 2 [aw,aw] [(0,1,m),(1,1,n)]) j k λo p q=>cg 273 [o] p q λr t aS=>bl 0 a λv=>bY t v λw=>da v w (af (cw [(ad 0),aw] [(0,1,w),(1,1,r)]) λx=>cg 98 [x] t aS λy z bz=>af (aN z 2 d y) λbS=>aG 2 bS d λbA=>K bA bS bz) 2 [j,e]) 1 [e]
theorem axe:cQ 181 tG:=cT []
def plain:cO:=λs ah h U K=>bG ah h U λa b c=>bX [(ad 0),aw] b c λd e f=>aG 2 e a λg=>aV s 275 [g,(.func (.func 280) #[] #[])] e f λi j k=>af (aN j 2 d i) λl=>aG 2 l d λm=>K m l k
theorem auH:cQ 188 plain:=cT []
def Rw:ac (ac Nat):=[[1,2,5,16,17,18]]
def QO(s:ao)(az a2 bI hi kV lw:X)(h:ae)(U:Nat)(N:aQ)(aM:aQ)(R:aQ):Prop:=cv lw kV (gD 3 h 3 hi lw λc=>bX [(ad 0),(ad 0),(ad 0)] h U λd e f=>af (aN e 3 d c) λg=>av g 0 d λj=>av g 1 d λl=>av g 2 d λn=>af (cw [(ad 0),(ad 0),(ad 0)] [(0,1,j),(1,1,l),(2,1,n)]) λo=>dS (eO 1 [(ad 0),(ad 0),(ad 0)] [(0,3,o)]) g f λp q r=>dm (dI (dn 3 q r bI p)) λt aS v=>b9 lw λw=>N [az,a2,t,hi,kV,w] aS v) (aM [az,a2,bI,hi,kV,lw] h U)
def Sf:cO:=λs ah h U K=>bG ah h U λa b c=>bX [(ad 0),(ad 0),aw,aw,aw] b c λd e f=>aG 2 e a λg=>aV s 83 [g] e f λi j k=>ko i (af (cw [(ad 0),(ad 0),aw,aw,aw] []) λm=>af (aN j 5 d m) λn=>aG 5 n d λo=>K (.tuple ⟨[o,i]⟩) n k) (aG 2 j a λp=>aV s 274 [p] j k λq r t=>af (yz 1 none q) λaS=>cP aS λv=>bF (bW Q s Rw 189 0) [a,d,aw,aS,v,(ad 0)] r t [(0,λw x y=>av x 0 (aT w 0) λbz=>av x 0 (aT w 0) λbA=>aV s 281 [bz,bA,(aT w 2)] x y λa9 bM b5=>af (aN bM 5 (aT w 1) a9) λbO=>aG 5 bO (aT w 1) λcJ=>K (.tuple ⟨[cJ,(ad 0)]⟩) bO b5)] (λ_ _ _=>False))
theorem ads{h:ae}{U:Nat}:bW Q s Rw 189 0 [az,a2,bI,hi,kV,lw] h U N [(0,aM)] R=QO s az a2 bI hi kV lw h U N aM R:=by kernel_rfl
theorem afj:cQ 189 Sf:=cT Rw
def FR:ac (ac Nat):=[[0,3,9,10,11],[6,25,26,27]]
def YW(s:ao)(aC a3 cH dd d5:X)(h:ae)(U:Nat)(N:aQ)(aM:aQ)(R:aQ):Prop:=cv d5 dd (et h 1 cH d5 λc=>cP c λd=>lD a3 d λe=>cv e (ad 0) (af (.ok (Value.iface 9 (.string ⟨#[108,101,110,32,111,117,116,32,111,102,32,114,97,110,103,101]⟩))) λg=>False) (b9 d5 λi=>N [aC,e,cH,dd,i] h U)) (aM [aC,a3,cH,dd,d5] h U)
def YX(s:ao)(bj nC mv w9:X)(h:ae)(U:Nat)(N:aQ)(aP:aQ)(R:aQ):Prop:=cv w9 mv (et h 1 nC w9 λc=>dm (dI (dn 3 h U bj c)) λd e f=>b9 w9 λg=>N [d,nC,mv,g] e f) (aP [bj,nC,mv,w9] h U)
def adt:cO:=λs ah h U K=>cP ah λa=>bF (bW Q s FR 273 0) [ah,(ad 0),ah,a,(ad 0)] h U [(0,λb c d=>aV s 364 [aw,(aT b 1)] c d λe f g=>cP (aT b 0) λi=>bF (bW Q s FR 273 1) [e,(aT b 0),i,(ad 0)] f g [(2,λj k l=>K (aT j 0) k l)] (λ_ _ _=>False))] (λ_ _ _=>False)
theorem am5{h:ae}{U:Nat}:bW Q s FR 273 0 [aC,a3,cH,dd,d5] h U N [(0,aM)] R=YW s aC a3 cH dd d5 h U N aM R:=by kernel_rfl
theorem am6{B g A:X}{h:ae}{U:Nat}:bW Q s FR 273 1 [bj,B,g,A] h U N [(2,aP)] R=YX s bj B g A h U N aP R:=by kernel_rfl
theorem aq8:cQ 273 adt:=cT FR
def agH:cO:=λs ah h U K=>bG ah h U λa b c=>bX [(ad 0),aw] b c λd e f=>aG 2 e a λg=>aV s 275 [g,(.func (.func 365) #[] #[])] e f λi j k=>af (aN j 2 d i) λl=>aG 2 l d λm=>K m l k
theorem axf:cQ 274 agH:=cT []
def Rx:ac (ac Nat):=[[1,2,4,5,11,12,13]]
def adu(s:ao)(az a2 aZ bI d5 eg ik:X)(h:ae)(U:Nat)(N:aQ)(aM:aQ)(R:aQ):Prop:=cv ik eg (gD 3 h 3 d5 ik λc=>bX [(ad 0),(ad 0),(ad 0)] h U λd e f=>af (aN e 3 d c) λg=>aG 3 g d λi=>fg Q s (hV g f [i] az) λj k l=>af (cu j 0) λm=>af (cu j 1) λn=>bX [(ad 0),(ad 0),(ad 0)] k l λo p q=>af (aN p 3 o m) λr=>bt n (aG 3 r o λt=>dS (eO 1 [(ad 0),(ad 0),(ad 0)] [(0,3,t)]) r q λaS v w=>dm (dI (dn 3 v w bI aS)) λx y z=>b9 ik λbz=>N [az,a2,aZ,x,d5,eg,bz] y z) (b9 ik λbS=>N [az,a2,aZ,bI,d5,eg,bS] r q)) (aM [az,a2,aZ,bI,d5,eg,ik] h U)
def agI:c0:=λs ah t1 h U K=>bG ah h U λa b c=>bX [(ad 0),aw] b c λd e f=>av e 1 a λi=>cP i λj=>bF (bW Q s Rx 275 0) [t1,a,d,aw,i,j,(ad 0)] e f [(0,λk l m=>av l 0 (aT k 1) λo=>af (cw [(ad 0),aw] [(0,1,o),(1,1,(aT k 3))]) λp=>aV s 98 [p] l m λq r t=>af (aN r 2 (aT k 2) q) λaS=>aG 2 aS (aT k 2) λv=>K v aS t)] (λ_ _ _=>False)
theorem auI{g:X}{h:ae}{U:Nat}:bW Q s Rx 275 0 [az,a2,aZ,bI,d5,eg,g] h U N [(0,aM)] R=adu s az a2 aZ bI d5 eg g h U N aM R:=by kernel_rfl
theorem axg:c4 275 agI:=c5 Rx
def abb:cO:=λs ah h U K=>bG ah h U λa b c=>bX [(ad 0),(ad 0),(ad 0)] b c λd e f=>aG 3 e a λg=>af (aN e 3 d g) λi=>bl 0 a λj=>bY i j λk=>da j k (bl 1 a λl=>bY i l λm=>da l m (bE .neq 3 k m λn=>aG 3 i d λo=>K (.tuple ⟨[o,n]⟩) i f) 1 [e]) 1 [e]
theorem am7:cQ 276 abb:=cT []
def adv:cO:=λs ah h U K=>bG ah h U λa b c=>bX [(ad 0),(ad 0),(ad 0)] b c λd e f=>bl 2 a λg=>af (aN e 1 g (ad 1)) λi=>aG 3 i a λj=>af (aN i 3 d j) λk=>aG 3 k d λl=>K (.tuple ⟨[l,(.bool true)]⟩) k f
theorem aq9:cQ 280 adv:=cT []
def Gd:ac (ac Nat):=[[0,6,7,14,15,16],[6,7,44,45]]
def PD(s:ao)(aC bj a6 li jg hi:X)(h:ae)(U:Nat)(N:aQ)(aM:aQ)(R:aQ):Prop:=cv hi jg (gD 3 h 3 li hi λc=>bX [(ad 0),(ad 0),(ad 0)] h U λd e f=>af (aN e 3 d c) λg=>av g 2 a6 λj=>av g 0 d λl=>b9 l λm=>et g 1 j m λo=>b9 o λp=>fq 1 j m λq=>af (aN g 1 q p) λr=>av r 3 a6 λaS=>av r 1 d λw=>dS (eO 1 [(ad 0)] [(0,1,w)]) r f λx y z=>dm (dI (dn 1 y z aS x)) λbz bS bA=>bl 3 a6 λa9=>af (aN bS 1 a9 bz) λbM=>av bM 4 a6 λbO=>av bM 2 d λcp=>dS (eO 1 [(ad 0)] [(0,1,cp)]) bM bA λdk c3 eo=>dm (dI (dn 1 c3 eo bO dk)) λam an ek=>bl 4 a6 λfK=>af (aN an 1 fK am) λfU=>b9 hi λgk=>N [aC,bj,a6,li,jg,gk] fU ek) (aM [aC,bj,a6,li,jg,hi] h U)
def PE(s:ao)(bj a6 yU DI:X)(h:ae)(U:Nat)(N:aQ)(aP:aQ)(R:aQ):Prop:=cv DI yU (av h 2 a6 λc=>b9 DI λd=>et h 1 c d λf=>av h 2 a6 λi=>et h 1 i DI λk=>lD f k λl=>fq 1 c d λm=>af (aN h 1 m l) λn=>b9 DI λo=>N [bj,a6,yU,o] n U) (aP [bj,a6,yU,DI] h U)
def Ry:gj:=λs ah t1 t2 h U K=>bX [(ad 0),(ad 0),aw,aw,aw] h U λa b c=>aV s 367 [ah,t1] b c λd e f=>bX [(ad 0),(ad 0),aw,aw,aw] e f λg i j=>af (aN i 5 g d) λk=>cP t2 λl=>bF (bW Q s Gd 281 0) [ah,a,g,t2,l,(ad 0)] k j [(0,λm n o=>bF (bW Q s Gd 281 1) [(aT m 1),(aT m 2),(aT m 0),(ad 0)] n o [(2,λp q r=>aG 5 q (aT p 1) λt=>af (aN q 5 (aT p 0) t) λaS=>aG 5 aS (aT p 0) λv=>K v aS r)] (λ_ _ _=>False))] (λ_ _ _=>False)
theorem abc{h:ae}{U:Nat}:bW Q s Gd 281 0 [aC,bj,a6,li,jg,hi] h U N [(0,aM)] R=PD s aC bj a6 li jg hi h U N aM R:=by kernel_rfl
theorem abd{A g:X}{h:ae}{U:Nat}:bW Q s Gd 281 1 [bj,a6,A,g] h U N [(2,aP)] R=PE s bj a6 A g h U N aP R:=by kernel_rfl
theorem adw:gw 281 Ry:=gz Gd
def grow:c0:=λs ah t1 h U K=>cv t1 (ad 0) (af (.ok (Value.iface 9 (.string ⟨#[99,97,110,110,111,116,32,98,101,32,110,101,103,97,116,105,118,101]⟩))) λb=>False) (af (GH Q 22 ah) λc=>cP ah λd=>bE .sub 3 c d λe=>bE .sub 3 t1 e λf=>hP f (ad 0) (af (GH Q 22 ah) λi=>af (g5 3 ah none (some i) none) λj=>dm (dI (pk Q .append [22,3] h U [j,f])) λk l m=>cP ah λn=>af (g5 3 k none (some n) none) λo=>K o l m) (K ah h U))
theorem axh:c4 364 grow:=c5 []
def adx:cO:=λs ah h U K=>bG ah h U λa b c=>bX [(ad 0),(ad 0),(ad 0)] b c λd e f=>av e 1 a λi=>av e 0 a λk=>av e 2 a λm=>af (cw [(ad 0),(ad 0),(ad 0)] [(0,1,i),(1,1,k),(2,1,m)]) λn=>af (aN e 3 d n) λo=>aG 3 o d λp=>K (.tuple ⟨[p,(.bool true)]⟩) o f
theorem ara:cQ 365 adx:=cT []
def Rz:c0:=λs ah t1 h U K=>bX [(ad 0),(ad 0),aw,aw,aw] h U λa b c=>b9 ah λd=>dS (tx [(ad 0)] d d) b c λe f g=>af (cw [(ad 0),(ad 0),aw,aw,aw] [(0,1,ah),(1,1,t1),(2,1,e)]) λi=>af (aN f 5 a i) λj=>aG 5 j a λk=>K k j g
theorem ady:c4 367 Rz:=c5 []
def adz:cO:=λs ah h U K=>bG ah h U λa b c=>iS 5 b 0 a λe=>iS 2 b 5 a λg=>av b 10 a λj=>aV s 200 [e,g,j] b c λk l m=>ko k (K k l m) (av l 7 a λp=>fg Q s (hV l m [p,(ad 8)] (.func (.func 199) #[] #[])) λq r t=>af (ds .not q) λaS=>bt aS (K (ad 3) r t) (av r 8 a λw=>fg Q s (hV r t [w,(ad 8)] (.func (.func 199) #[] #[])) λx y z=>af (ds .not x) λbz=>bt bz (K (ad 3) y z) (av y 9 a λbA=>fg Q s (hV y z [bA,(ad 64)] (.func (.func 199) #[] #[])) λa9 bM b5=>af (ds .not a9) λbO=>bt bO (K (ad 3) bM b5) (av bM 11 a λcp=>cP cp λdk=>hP dk (ad 8192) (K (ad 5) bM b5) (K (ad 0) bM b5)))))
theorem arb:cQ 121 adz:=cT []
def abe:c0:=λs ah t1 h U K=>bm .geq 3 ah (ad 1) (bE .leq 3 ah t1 λb=>K b h U) (K (.bool false) h U)
theorem am8:c4 199 abe:=c5 []
def adA:gj:=λs ah t1 t2 h U K=>bG ah h U λa b c=>bG t1 b c λd e f=>aG 5 e a λg=>aG 2 e d λi=>aV s 114 [g,i] e f λj k l=>af (cu j 0) λm=>af (cu j 1) λn=>bX [(ad 0),(ad 0),aw,aw,aw] k l λo p q=>af (aN p 5 o m) λr=>ko n (K n r q) (cv t2 (ad 0) (K (ad 3) r q) (hP t2 (ad 8192) (K (ad 3) r q) (K (ad 0) r q)))
theorem arc:gw 200 adA:=gz []
def abf:gj:=λs ah t1 t2 h U K=>bG ah h U λa b c=>aG 12 b a λd=>aV s 121 [d] b c λe f g=>ko e (K e f g) (cP t1 λj=>hP j (ad 1048576) (K (ad 5) f g) (aV s 253 [t1,(.func (.func 254) #[] #[])] f g λl m n=>bt l (K (ad 8) m n) (aV s 156 [t2,(ad 1048576)] m n λo p q=>af (ds .not o) λr=>bt r (K (ad 3) p q) (K (ad 0) p q))))
theorem am9:gw 161 abf:=gz []
def YY:cO:=λs ah h U K=>bG ah h U λa b c=>aG 4 b a λd=>aV s 159 [d] b c λe f g=>af (ds .not e) λi=>K i f g
theorem akr:cQ 254 YY:=cT []
def B2(s:ao)(K:bZ)(b8 Tn:X)(aq:ae)(a0:Nat):Prop:=bt Tn (K (.bool false) aq a0) (av aq 0 b8 λb=>bm .gtr 209 b (ad 0) (av aq 0 b8 λe=>bE .leq 209 e (ad 5) λf=>K f aq a0) (K (.bool false) aq a0))
def abg:cO:=λs ah h U K=>bG ah h U λa b c=>av b 1 a λe=>aV s 156 [e,(ad 63)] b c λf g i=>af (ds .not f) λj=>bt j (B2 s K a (.bool true) g i) (av g 2 a λl=>aV s 156 [l,(ad 63)] g i λm n o=>af (ds .not m) λp=>bt p (B2 s K a (.bool true) n o) (av n 3 a λr=>aV s 156 [r,(ad 63)] n o λt aS v=>af (ds .not t) λw=>(B2 s K a w aS v)))
theorem ana:cQ 159 abg:=cT []
def auJ:c0:=λs ah t1 h U K=>aV s 350 [ah,t1] h U λa b c=>bE .geq 3 a (ad 0) λd=>K d b c
theorem ard:c4 253 auJ:=c5 []
def PF:ac (ac Nat):=[[0,1,4,7,8]]
def YZ(s:ao)(aC az aZ a6 bq:X)(h:ae)(U:Nat)(N:aQ)(aM:aQ)(R:aQ):Prop:=cv bq a6 (gD 4 h 4 aC bq λc=>fg Q s (hV h U [c] az) λd e f=>bt d (R [aC,az,bq,a6,bq] e f) (b9 bq λg=>N [aC,az,aZ,a6,g] e f)) (aM [aC,az,aZ,a6,bq] h U)
def adB:c0:=λs ah t1 h U K=>cP ah λa=>bF (bW Q s PF 350 0) [ah,t1,(ad 0),a,(ad 0)] h U [(0,λb c d=>K (ad (-1)) c d)] (λe f g=>K (aT e 2) f g)
theorem anb{h:ae}{U:Nat}:bW Q s PF 350 0 [aC,az,aZ,a6,bq] h U N [(0,aM)] R=YZ s aC az aZ a6 bq h U N aM R:=by kernel_rfl
theorem are:c4 350 adB:=c5 PF
def N9(s:ao)(K:bZ)(b8 cN sN:X)(aq:ae)(a0:Nat):Prop:=bt sN (K (ad 0) aq a0) (av aq 7 cN λb=>av aq 8 cN λd=>lD b d λe=>lD e (ad 4) λf=>bE .mul 3 (ad 4) f λg=>lD b8 (ad 2) λi=>bE .mul 3 g i λj=>K j aq a0)
def abh:c0:=λs ah t1 h U K=>bG ah h U λa b c=>aV s 156 [t1,(ad 8192)] b c λd e f=>af (ds .not d) λg=>bt g (N9 s K t1 a (.bool true) e f) (aG 12 e a λi=>aV s 121 [i] e f λj k l=>bE .neq 30 j (ad 0) λm=>(N9 s K t1 a m k l))
theorem ane:c4 75 abh:=c5 []
def Y0:c0:=λs ah t1 h U K=>bm .geq 3 ah (ad 0) (bE .leq 3 ah t1 λb=>K b h U) (K (.bool false) h U)
theorem aks:c4 156 Y0:=c5 []
def afk:cO:=λs ah h U K=>fg Q s (mc Q h U [] "Len" ah) λa b c=>bE .sub 3 a (ad 1) λd=>fg Q s (mc Q b c [(ad 0),d] "Swap" ah) λe f g=>aV s 257 [ah,(ad 0),d] f g λi j k=>fg Q s (mc Q j k [] "Pop" ah) λl m n=>K l m n
theorem auK:cQ 170 afk:=cT []
def adC:c0:=λs ah t1 h U K=>fg Q s (mc Q h U [t1] "Push" ah) λa b c=>fg Q s (mc Q b c [] "Len" ah) λd e f=>bE .sub 3 d (ad 1) λg=>aV s 258 [ah,g] e f λi j k=>K (.tuple ⟨[]⟩) j k
theorem arf:c4 171 adC:=c5 []
def ON(s:ao)(K:bZ)(cA ca c6:X)(aq:ae)(a0:Nat):Prop:=av aq 1 ca λb=>cP b λc=>av aq 0 ca λe=>aV s 317 [cA,c,e] aq a0 λf g i=>bm .eql 165 f (ad 2) (aG 2 g ca λk=>aV s 318 [k] g i λl m n=>af (cw [(ad 0),(ad 0),aw,(ad 0),aw,aw] [(0,1,(ad 2)),(3,3,l)]) λo=>af (aN m 6 c6 o) λp=>aG 6 p c6 λq=>K q p n) (av g 1 ca λt=>cg 217 [t] g i λaS v w=>bl 0 ca λx=>bY v x λy=>da x y (af (cw [(ad 0),aw] [(0,1,y),(1,1,aS)]) λz=>af (cw [(ad 0),(ad 0),aw,(ad 0),aw,aw] [(0,1,(ad 1)),(1,2,z)]) λbz=>af (aN v 6 c6 bz) λbS=>aG 6 bS c6 λbA=>K bA bS w) 1 [g])
def adD:c0:=λs ah t1 h U K=>bG t1 h U λa b c=>bX [(ad 0),(ad 0),aw,(ad 0),aw,aw] b c λd e f=>aG 2 e a λg=>aV s 312 [g] e f λi j k=>af (ds .not i) λl=>bt l (af (cw [(ad 0),aw] []) λm=>af (aN j 2 a m) λn=>(ON s K ah a d n k)) (ON s K ah a d j k)
theorem arh:c4 226 adD:=c5 []
def Jv(s:ao)(K:bZ)(eb dY:X)(aq:ae)(a0:Nat):Prop:=fg Q s (hV aq a0 [] dY) λa b c=>af (cu a 0) λd=>af (cu a 1) λe=>ko e (K (.tuple ⟨[aw,(ad 0),e]⟩) b c) (K (.tuple ⟨[d,eb,e]⟩) b c)
def adE:cO:=λs ah h U K=>bG ah h U λa b c=>iS 6 b 12 a λe=>cg 321 [e] b c λf g i=>bl 6 a λj=>aG 6 g j λk=>jx 6 j k (cg 320 [k,f] g i λl m n=>bl 1 a λo=>aG 5 m o λp=>jx 5 o p (cg 322 [p] m n λq r t=>bl 20 a λaS=>bY r aS λv=>da aS v (cg 319 [v,l,q] r t λw x y=>aG 21 x a λz=>af (.ok (.func (.func 323) ⟨[z]⟩ ⟨[]⟩)) λbz=>bm .eql 164 w (ad 2) (aG 21 x a λbA=>af (.ok (.func (.func 324) ⟨[bA]⟩ ⟨[]⟩)) λa9=>(Jv s K w a9 x y)) (Jv s K w bz x y)) 3 [m,g,b]) 2 [g,b]) 1 [b]
theorem ari:cQ 227 adE:=cT []
def Ft:ac (ac Nat):=[[6,17,18,19],[6]]
def XE(s:ao)(bj kV lw nD:X)(h:ae)(U:Nat)(N:aQ)(aM:aQ)(R:aQ):Prop:=cv nD lw (et h 1 kV nD λc=>aV s 328 [bj,c,nD] h U λd e f=>b9 nD λg=>N [bj,kV,lw,g] e f) (aM [bj,kV,lw,nD] h U)
def XF(s:ao)(bj:X)(h:ae)(U:Nat)(N:aQ)(aP:aQ)(R:aQ):Prop:=af (bB bj) λa=>av h 0 a λc=>aV s 329 [c] h U λd e f=>hP d (ad 0) (aV s 330 [bj] e f λi j k=>N [bj] j k) (aP [bj] e f)
def arj:c0:=λs ah t1 h U K=>aV s 259 [ah] h U λa b c=>af (ds .not a) λd=>bt d (K (.tuple ⟨[aw,(ad 8)]⟩) b c) (aV s 325 [t1,(.func (.func 326) #[] #[])] b c λe f g=>bt e (K (.tuple ⟨[aw,(ad 6)]⟩) f g) (af (cw [aw,(ad 0),aw] [(1,1,ah)]) λi=>bG i f g λj k l=>cP t1 λm=>bF (bW Q s Ft 229 0) [j,t1,m,(ad 0)] k l [(0,λn o p=>bF (bW Q s Ft 229 1) [(aT n 0)] o p [(2,λq r t=>af (bB (aT q 0)) λaS=>av r 2 aS λw=>K (.tuple ⟨[w,(ad 0)]⟩) r t)] (λ_ _ _=>False))] (λ_ _ _=>False)))
theorem akt{g:X}{h:ae}{U:Nat}:bW Q s Ft 229 0 [bj,kV,lw,g] h U N [(0,aM)] R=XE s bj kV lw g h U N aM R:=by kernel_rfl
theorem aku{h:ae}{U:Nat}:bW Q s Ft 229 1 [bj] h U N [(2,aP)] R=XF s bj h U N aP R:=by kernel_rfl
theorem anf:c4 229 arj:=c5 Ft
def PG:ac (ac Nat):=[[0,1,2,7]]
def Jw(s:ao)(N:aQ)(aM:aQ)(R:aQ)(cA b8 cN fi p8 lx y33:X)(aq:ae)(a0:Nat):Prop:=bt y33 (fg Q s (mc Q aq a0 [lx,fi] "Less" cA) λa b c=>af (ds .not a) λd=>bt d (aM [cA,b8,cN,fi] b c) (fg Q s (mc Q b c [fi,lx] "Swap" cA) λe f g=>N [cA,b8,cN,lx] f g)) (fg Q s (mc Q aq a0 [p8,fi] "Less" cA) λi j k=>af (ds .not i) λl=>bt l (aM [cA,b8,cN,fi] j k) (fg Q s (mc Q j k [fi,p8] "Swap" cA) λm n o=>N [cA,b8,cN,p8] n o))
def Jx(s:ao)(N:aQ)(aM:aQ)(R:aQ)(cA b8 cN fi ib sO:X)(aq:ae)(a0:Nat):Prop:=bt sO (aM [cA,b8,cN,fi] aq a0) (b9 ib λa=>cv a cN (fg Q s (mc Q aq a0 [a,ib] "Less" cA) λc d e=>(Jw s N aM R cA b8 cN fi ib a c d e)) (Jw s N aM R cA b8 cN fi ib a (.bool false) aq a0))
def Y1(s:ao)(aC az a2 a6:X)(h:ae)(U:Nat)(N:aQ)(aM:aQ)(R:aQ):Prop:=bE .mul 3 (ad 2) a6 λa=>b9 a λb=>bm .geq 3 b a2 (Jx s N aM R aC az a2 a6 b (.bool true) h U) (bE .lss 3 b (ad 0) λd=>(Jx s N aM R aC az a2 a6 b d h U))
def auL:gj:=λs ah t1 t2 h U K=>bF (bW Q s PG 257 0) [ah,t1,t2,t1] h U [(0,λa b c=>bE .gtr 3 (aT a 3) (aT a 1) λd=>K d b c)] (λ_ _ _=>False)
theorem ang{h:ae}{U:Nat}:bW Q s PG 257 0 [aC,az,a2,a6] h U N [(0,aM)] R=Y1 s aC az a2 a6 h U N aM R:=by kernel_rfl
theorem ark:gw 257 auL:=gz PG
def RA:ac (ac Nat):=[[0,1]]
def adF(s:ao)(aC az:X)(h:ae)(U:Nat)(N:aQ)(aM:aQ)(R:aQ):Prop:=bE .sub 3 az (ad 1) λa=>bE .quo 3 a (ad 2) λb=>bm .eql 3 b az (aM [aC,az] h U) (fg Q s (mc Q h U [az,b] "Less" aC) λd e f=>af (ds .not d) λg=>bt g (aM [aC,az] e f) (fg Q s (mc Q e f [b,az] "Swap" aC) λi j k=>N [aC,b] j k))
def ay8:c0:=λs ah t1 h U K=>bF (bW Q s RA 258 0) [ah,t1] h U [(0,λa b c=>K (.tuple ⟨[]⟩) b c)] (λ_ _ _=>False)
theorem auM{h:ae}{U:Nat}:bW Q s RA 258 0 [aC,az] h U N [(0,aM)] R=adF s aC az h U N aM R:=by kernel_rfl
theorem axi:c4 258 ay8:=c5 RA
def abi:gj:=λs ah t1 t2 h U K=>bm .eql 165 ah (ad 1) (K ah h U) (bm .eql 165 ah (ad 2) (K ah h U) (bE .quo 3 t2 (ad 8) λc=>hP t1 c (K (ad 2) h U) (K (ad 1) h U)))
theorem anh:gw 317 abi:=gz []
def RB:ac (ac Nat):=[[1,2,3,14,15,16]]
def adG(s:ao)(az a2 a3 li jg hi:X)(h:ae)(U:Nat)(N:aQ)(aM:aQ)(R:aQ):Prop:=cv hi jg (gD 2 h 2 li hi λc=>bX [(ad 0),(ad 0)] h U λd e f=>af (aN e 2 d c) λg=>av g 2 a3 λj=>av g 0 d λl=>av g 1 d λn=>fq 1 j l λo=>af (aN g 1 o n) λp=>b9 hi λq=>N [az,a2,a3,li,jg,q] p f) (aM [az,a2,a3,li,jg,hi] h U)
def agJ:cO:=λs ah h U K=>bG ah h U λa b c=>bX [(ad 0),aw,aw] b c λd e f=>aG 2 e a λg=>aV s 312 [g] e f λi j k=>af (ds .not i) λl=>bt l (aV s 388 [(ad 0)] j k λm n o=>af (aN n 3 d m) λp=>aG 3 p d λq=>K q p o) (av j 0 a λt=>aV s 388 [t] j k λaS v w=>bX [(ad 0),aw,aw] v w λx y z=>af (aN y 3 x aS) λbz=>av bz 1 a λbA=>cP bA λa9=>bF (bW Q s RB 318 0) [a,d,x,bA,a9,(ad 0)] bz z [(0,λbM b5 bO=>aG 2 b5 (aT bM 0) λcJ=>cg 389 [cJ] b5 bO λcp dk c3=>bl 0 (aT bM 0) λeo=>bY dk eo λam=>da eo am (cg 108 [am,cp] dk c3 λan ek fK=>bl 1 (aT bM 2) λfU=>af (aN ek 1 fU an) λgk=>aG 3 gk (aT bM 2) λhp=>af (aN gk 3 (aT bM 1) hp) λhQ=>aG 3 hQ (aT bM 1) λfV=>K fV hQ fK) 1 [b5])] (λ_ _ _=>False))
theorem auN{h:ae}{U:Nat}:bW Q s RB 318 0 [az,a2,a3,li,jg,hi] h U N [(0,aM)] R=adG s az a2 a3 li jg hi h U N aM R:=by kernel_rfl
theorem axj:cQ 318 agJ:=cT RB
def Wh:gj:=λs ah t1 t2 h U K=>bm .eql 164 ah (ad 1) (K ah h U) (bm .eql 164 ah (ad 2) (K ah h U) (bE .quo 3 t2 (ad 4) λc=>hP t1 c (K (ad 2) h U) (K (ad 1) h U)))
theorem ah5:gw 319 Wh:=gz []
def adH:c0:=λs ah t1 h U K=>bG ah h U λa b c=>bG t1 b c λd e f=>aG 2 e d λg=>cg 389 [g] e f λi j k=>aG 6 j a λl=>jx 6 a l (cg 390 [l,i] j k λm n o=>K m n o) 1 [e]
theorem arl:c4 320 adH:=c5 []
def PH(s:ao)(K:bZ)(b8 cN lx:X)(aq:ae)(a0:Nat):Prop:=bt lx (bl 1 b8 λa=>av aq 1 a λc=>cg 217 [c] aq a0 λd e f=>bl 1 b8 λg=>bl 0 g λi=>bY e i λj=>da i j (af (cw [(ad 0),aw] [(0,1,j),(1,1,d)]) λk=>af (aN e 2 cN k) λl=>aG 2 l cN λm=>K m l f) 1 [aq]) (af (cw [(ad 0),aw] []) λn=>af (aN aq 2 cN n) λo=>aG 2 o cN λp=>K p o a0)
def afl:cO:=λs ah h U K=>bG ah h U λa b c=>bX [(ad 0),aw] b c λd e f=>av e 0 a λi=>bm .eql 165 i (ad 2) (iS 3 e 3 a λl=>aV s 391 [l] e f λm n o=>af (aN n 2 d m) λp=>aG 2 p d λq=>K q p o) (av e 0 a λt=>bm .eql 165 t (ad 1) (iS 2 e 1 a λw=>aV s 312 [w] e f λx y z=>(PH s K a d x y z)) (PH s K a d (.bool false) e f))
theorem auO:cQ 321 afl:=cT []
def adI:cO:=λs ah h U K=>bG ah h U λa b c=>iS 6 b 12 a λe=>cg 321 [e] b c λf g i=>bl 0 a λj=>bY g j λk=>da j k (bl 6 a λl=>aG 6 g l λm=>jx 6 l m (bl 18 a λn=>bY g n λo=>da n o (bl 19 a λp=>bY g p λq=>da p q (cg 392 [k,m,f,o,q] g i λr t aS=>af (cu r 0) λv=>af (cu r 1) λw=>K (.tuple ⟨[v,w]⟩) t aS) 1 [b]) 1 [b]) 1 [b]) 1 [b]
theorem arm:cQ 323 adI:=cT []
def adJ:cO:=λs ah h U K=>bG ah h U λa b c=>iS 6 b 12 a λe=>cg 394 [e] b c λf g i=>bl 0 a λj=>bY g j λk=>da j k (bl 1 a λl=>aG 5 g l λm=>jx 5 l m (bl 18 a λn=>bY g n λo=>da n o (bl 19 a λp=>bY g p λq=>da p q (cg 393 [k,m,f,o,q] g i λr t aS=>af (cu r 0) λv=>af (cu r 1) λw=>K (.tuple ⟨[v,w]⟩) t aS) 1 [b]) 1 [b]) 1 [b]) 1 [b]
theorem arn:cQ 324 adJ:=cT []
def ani:cO:=λs ah h U K=>aV s 327 [ah] h U λa b c=>af (ds .not a) λd=>K d b c
theorem akv:cQ 326 ani:=cT []
def OO:ac (ac Nat):=[[0,2,5,6]]
def XG(s:ao)(aC a2 bI bj:X)(h:ae)(U:Nat)(N:aQ)(aM:aQ)(R:aQ):Prop:=cv bj bI (hP bj (ad 0) (bE .sub 3 bj (ad 1) λc=>fq 3 aC c λd=>av h 0 d λf=>fq 3 aC bj λg=>av h 0 g λj=>bm .geq 3 f j (R [aC,(.bool false),bI,bj] h U) (b9 bj λl=>N [aC,a2,bI,l] h U)) (b9 bj λm=>N [aC,a2,bI,m] h U)) (aM [aC,a2,bI,bj] h U)
def abj:cO:=λs ah h U K=>cP ah λa=>bF (bW Q s OO 327 0) [ah,(.bool false),a,(ad 0)] h U [(0,λb c d=>K (.bool true) c d)] (λe f g=>K (aT e 1) f g)
theorem akw{h:ae}{U:Nat}:bW Q s OO 327 0 [aC,a2,bI,bj] h U N [(0,aM)] R=XG s aC a2 bI bj h U N aM R:=by kernel_rfl
theorem anj:cQ 327 abj:=cT OO
def afm:gj:=λs ah t1 t2 h U K=>cP t1 λa=>hP a (ad 0) (af (bB ah) λc=>bl 0 c λd=>af (.ok (Value.iface 415 d)) λe=>af (cw [aw,(ad 0)] [(0,1,t1),(1,1,t2)]) λf=>af (.ok (Value.iface 417 f)) λg=>aV s 171 [e,g] h U λi j k=>K (.tuple ⟨[]⟩) j k) (K (.tuple ⟨[]⟩) h U)
theorem auP:gw 328 afm:=gz []
def afn:cO:=λs ah h U K=>cP ah λa=>K a h U
theorem auQ:cQ 329 afn:=cT []
def Fu(s:ao)(K:bZ)(cA ca c6 y47:X)(aq:ae)(a0:Nat):Prop:=bt y47 (af (bB cA) λa=>av aq 1 a λc=>af (bB cA) λd=>av aq 2 d λf=>bE .sub 3 c6 (ad 1) λg=>fq 3 f g λi=>iS 2 aq 1 i λk=>iS 2 aq 1 ca λm=>cg 261 [c,k,m] aq a0 λn o p=>af (bB cA) λq=>bl 2 q λr=>bY o r λt=>da r t (bE .sub 3 c6 (ad 1) λaS=>fq 3 t aS λv=>bl 1 v λw=>af (aN o 2 w n) λx=>K (.tuple ⟨[]⟩) x p) 1 [aq]) (af (bB cA) λy=>av aq 2 y λbz=>aG 3 aq ca λbS=>dS (eO 1 [(ad 0),(ad 0),(.int .u64 0)] [(0,3,bS)]) aq a0 λbA a9 bM=>dm (dI (dn 3 a9 bM bz bA)) λb5 bO cJ=>bM<=cJ/\af (bB cA) λcp=>bl 2 cp λdk=>af (aN bO 1 dk b5) λc3=>K (.tuple ⟨[]⟩) c3 cJ)
def adK:cO:=λs ah h U K=>af (bB ah) λa=>av h 0 a λc=>gD 2 h 2 c (ad 0) λe=>bX [aw,(ad 0)] h U λf g i=>af (aN g 2 f e) λj=>af (bB ah) λk=>bl 0 k λl=>af (.ok (Value.iface 415 l)) λm=>aV s 170 [m] j i λn o p=>av o 0 f λr=>gD 3 o 3 r (ad 0) λaS=>bX [(ad 0),(ad 0),(.int .u64 0)] o p λv w x=>af (aN w 3 v aS) λy=>av y 0 f λbz=>af (g5 3 bz (some (ad 1)) none none) λbS=>av y 1 f λa9=>cg 328 [ah,bS,a9] y x λbM b5 bO=>af (bB ah) λcJ=>av b5 2 cJ λdk=>cP dk λc3=>hP c3 (ad 0) (af (bB ah) λam=>av b5 2 am λek=>bE .sub 3 c3 (ad 1) λfK=>fq 3 ek fK λfU=>av b5 0 fU λhp=>av b5 0 v λfV=>bE .eql 3 hp fV λjA=>(Fu s K ah v c3 jA b5 bO)) (Fu s K ah v c3 (.bool false) b5 bO)
theorem aro:cQ 330 adK:=cT []
def FT:ac (ac Nat):=[[0,2,4,6,7,31,32],[0,6,7,9,55,56,57]]
def Y2(s:ao)(aC a2 aZ bj a6 jU gp:X)(h:ae)(U:Nat)(N:aQ)(aW:aQ)(R:aQ):Prop:=cv gp jU (hP gp (ad 0) (bE .sub 3 gp (ad 1) λc=>fq 3 a2 c λd=>av h 0 d λf=>fq 3 a2 gp λg=>av h 0 g λj=>bm .geq 3 f j (af (cw [(ad 0),aw] []) λl=>af (aN h 2 bj l) λm=>R [aC,a2,aZ,bj,(ad 6),jU,gp] m U) (b9 gp λn=>N [aC,a2,aZ,bj,a6,jU,n] h U)) (b9 gp λo=>N [aC,a2,aZ,bj,a6,jU,o] h U)) (aW [aC,a2,aZ,bj,a6,jU,gp] h U)
def Y3(s:ao)(aC bj a6 cH Hj Hk DJ:X)(h:ae)(U:Nat)(N:aQ)(cy:aQ)(R:aQ):Prop:=cv DJ Hk (gD 3 h 3 Hj DJ λc=>bX [(ad 0),(ad 0),(.int .u64 0)] h U λd e f=>af (aN e 3 d c) λg=>iS 2 g 1 d λj=>aV s 262 [aC,j] g f λk l m=>af (cu k 0) λn=>af (cu k 1) λo=>af (ds .not o) λp=>bt p (af (cw [(ad 0),aw] []) λq=>af (aN l 2 bj q) λr=>R [aC,bj,(ad 12),cH,Hj,Hk,DJ] r m) (aV s 399 [aC] l m λt aS v=>bm .neq 2 n t (av aS 1 cH λy=>av aS 0 d λbz=>af (cw [(ad 0),(ad 0)] [(0,1,bz),(1,1,n)]) λbS=>dS (eO 1 [(ad 0),(ad 0)] [(0,2,bS)]) aS v λbA a9 bM=>dm (dI (dn 2 a9 bM y bA)) λb5 bO cJ=>bl 1 cH λcp=>af (aN bO 1 cp b5) λdk=>b9 DJ λc3=>N [aC,bj,a6,cH,Hj,Hk,c3] dk cJ) (b9 DJ λeo=>N [aC,bj,a6,cH,Hj,Hk,eo] aS v))) (cy [aC,bj,a6,cH,Hj,Hk,DJ] h U)
def Y4(s:ao)(K:bZ)(cA cN c6 dY:X)(aq:ae)(a0:Nat):Prop:=cP cN λa=>bF (bW Q s FT 335 0) [cA,cN,c6,dY,(ad 0),a,(ad 0)] aq a0 [(1,λb c d=>bY c (aT b 2) λe=>af (cw [(ad 0),aw] [(0,1,e)]) λf=>bX [(ad 0),aw] c d λg i j=>af (aN i 2 g f) λk=>cP (aT b 1) λl=>bF (bW Q s FT 335 1) [(aT b 0),(aT b 3),(aT b 4),g,(aT b 1),l,(ad 0)] k j [(3,λm n o=>aG 2 n (aT m 3) λp=>af (aN n 2 (aT m 1) p) λq=>aG 2 q (aT m 1) λr=>K (.tuple ⟨[r,(ad 0)]⟩) q o)] (λt aS v=>aG 2 aS (aT t 1) λw=>K (.tuple ⟨[w,(aT t 2)]⟩) aS v))] (λx y z=>aG 2 y (aT x 3) λbz=>K (.tuple ⟨[bz,(aT x 4)]⟩) y z)
def OP(s:ao)(K:bZ)(cA cN c6 dY To:X)(aq:ae)(a0:Nat):Prop:=bt To (af (cw [(ad 0),aw] []) λa=>af (aN aq 2 dY a) λb=>aG 2 b dY λc=>K (.tuple ⟨[c,(ad 3)]⟩) b a0) (af (.ok (.func (.func 398) ⟨[]⟩ ⟨[c6]⟩)) λd=>aV s 397 [cN,d] aq a0 λe f g=>bt e (af (cw [(ad 0),aw] []) λi=>af (aN f 2 dY i) λj=>aG 2 j dY λk=>K (.tuple ⟨[k,(ad 3)]⟩) j g) (Y4 s K cA cN c6 dY f g))
def adL:gj:=λs ah t1 t2 h U K=>bG t1 h U λa b c=>bX [(ad 0),aw] b c λd e f=>aV s 259 [ah] e f λg i j=>af (ds .not g) λk=>bt k (af (cw [(ad 0),aw] []) λl=>af (aN i 2 d l) λm=>aG 2 m d λn=>K (.tuple ⟨[n,(ad 8)]⟩) m j) (bY i a λo=>cv o (ad 0) (OP s K ah t2 a d (.bool true) i j) (bY i a λq=>bE .gtr 3 q (ad 4096) λr=>(OP s K ah t2 a d r i j)))
theorem ank{g:X}{h:ae}{U:Nat}:bW Q s FT 335 0 [aC,a2,aZ,bj,a6,g,gp] h U N [(1,aW)] R=Y2 s aC a2 aZ bj a6 g gp h U N aW R:=by kernel_rfl
theorem anl{A B g:X}{h:ae}{U:Nat}{C:aQ}:bW Q s FT 335 1 [aC,bj,a6,cH,A,B,g] h U N [(3,C)] R=Y3 s aC bj a6 cH A B g h U N C R:=by kernel_rfl
theorem arp:gw 335 adL:=gz FT
def abk:cO:=λs ah h U K=>bX [(ad 0),(.int .u64 0)] h U λa b c=>bt ah (aV s 260 [(ad 1)] b c λd e f=>af (aN e 2 a d) λg=>aG 2 g a λi=>K i g f) (af (cw [(ad 0),(.int .u64 0)] []) λj=>af (aN b 2 a j) λk=>aG 2 k a λl=>K l k c)
theorem anm:cQ 354 abk:=cT []
def afo:c0:=λs ah t1 h U K=>bG ah h U λa b c=>bG t1 b c λd e f=>bX [(ad 0),(.int .u64 0)] e f λg i j=>av i 1 a λl=>av i 1 d λn=>bE .add 188 l n λo=>av i 1 d λq=>bE .lss 188 o q λr=>cg 419 [r] i j λt aS v=>bl 0 a λw=>bY aS w λx=>da w x (af (n1 (.int .u64) x) λy=>bl 0 d λz=>bY aS z λbz=>da z bz (af (n1 (.int .u64) bz) λbS=>bE .add 188 y bS λbA=>bE .add 188 bA t λa9=>af (n1 (.int .i64) a9) λbM=>af (cw [(ad 0),(.int .u64 0)] [(0,1,bM),(1,1,o)]) λb5=>af (aN aS 2 g b5) λbO=>aG 2 bO g λcJ=>K cJ bO v) 1 [i]) 1 [i]
theorem auR:c4 355 afo:=c5 []
def PI(s:ao)(K:bZ)(cA cN:X)(aq:ae)(a0:Nat):Prop:=cg 117 [cA] aq a0 λa b c=>dS (tx [(ad 0)] cA cA) b c λd e f=>af (cw [(ad 0),aw,aw] [(0,1,cA),(1,1,a),(2,1,d)]) λg=>af (aN e 3 cN g) λi=>aG 3 i cN λj=>K j i f
def PJ(s:ao)(K:bZ)(cA cN ib:X)(aq:ae)(a0:Nat):Prop:=bt ib (PI s K (ad 0) cN aq a0) (PI s K cA cN aq a0)
def afp:cO:=λs ah h U K=>bX [(ad 0),aw,aw] h U λa b c=>cv ah (ad 0) (PJ s K ah a (.bool true) b c) (bE .gtr 3 ah (ad 4096) λe=>(PJ s K ah a e b c))
theorem auS:cQ 388 afp:=cT []
def PK:ac (ac Nat):=[[0,3,4,6,12,32,33,34]]
def Y5(s:ao)(aC a3 aZ bj eg gp Hl DK:X)(h:ae)(U:Nat)(N:aQ)(aW:aQ)(R:aQ):Prop:=cv DK Hl (gD 2 h 2 gp DK λc=>bX [(ad 0),(ad 0)] h U λd e f=>af (aN e 2 d c) λg=>aG 6 g bj λi=>av g 0 d λk=>cg 454 [i,k] g f λl m n=>bl 1 d λo=>bY m o λp=>da o p (cg 453 [aC,l,p,a3,aZ] m n λq r t=>dS (eO 1 [aw] [(0,1,q)]) r t λaS v w=>dm (dI (dn 1 v w eg aS)) λx y z=>w<=z/\b9 DK λbz=>N [aC,a3,aZ,bj,x,gp,Hl,bz] y z) 1 [g]) (aW [aC,a3,aZ,bj,eg,gp,Hl,DK] h U)
def adM:xz:=λs ah t1 t2 t3 f6 h U K=>bG t1 h U λa b c=>bG t2 b c λd e f=>aG 6 e a λg=>aG 2 e d λi=>aV s 452 [g,i] e f λj k l=>af (cu j 0) λm=>af (cu j 1) λn=>af (aN k 6 a m) λo=>af (aN o 2 d n) λp=>aV s 259 [ah] p l λq r t=>af (ds .not q) λaS=>bt aS (K (.tuple ⟨[aw,(ad 8)]⟩) r t) (av r 0 d λw=>av r 1 a λy=>bm .neq 3 w y (K (.tuple ⟨[aw,(ad 4)]⟩) r t) (av r 1 d λbS=>cP bS λbA=>bF (bW Q s PK 392 0) [ah,t3,f6,a,aw,bS,bA,(ad 0)] r t [(1,λa9 bM b5=>aV s 229 [(aT a9 0),(aT a9 4)] bM b5 λbO cJ cp=>af (cu bO 0) λdk=>af (cu bO 1) λc3=>K (.tuple ⟨[dk,c3]⟩) cJ cp)] (λ_ _ _=>False)))
theorem ann{A g:X}{h:ae}{U:Nat}:bW Q s PK 392 0 [aC,a3,aZ,bj,eg,gp,A,g] h U N [(1,aW)] R=Y5 s aC a3 aZ bj eg gp A g h U N aW R:=by kernel_rfl
theorem arq:zi 392 adM:=A3 PK
def abl:cO:=λs ah h U K=>bG ah h U λa b c=>bX [(ad 0),aw,aw] b c λd e f=>aG 6 e a λg=>aV s 321 [g] e f λi j k=>aV s 318 [i] j k λl m n=>af (aN m 3 d l) λo=>aG 3 o d λp=>K p o n
theorem ano:cQ 394 abl:=cT []
def abm:c0:=λs ah t1 h U K=>bG ah h U λa b c=>av b 0 a λe=>cv e (ad 0) (K (.bool true) b c) (av b 0 a λi=>bY b t1 λj=>bE .geq 3 i j λk=>K k b c)
theorem anp:c4 398 abm:=c5 []
def adN:cO:=λs ah h U K=>bm .eql 234 ah (ad 1) (K (ad 4611686018427387904) h U) (bm .eql 234 ah (ad 3) (K (ad 4611686018427387904) h U) (bm .eql 234 ah (ad 4) (K (ad 4611686018427387904) h U) (K (ad 0) h U)))
theorem arr:cQ 399 adN:=cT []
def ars:cO:=λs ah h U K=>bt ah (K (.int .u64 1) h U) (K (.int .u64 0) h U)
theorem anq:cQ 419 ars:=cT []
def adO:cO:=λs ah h U K=>bG ah h U λa b c=>bX [(ad 0),aw,aw] b c λd e f=>aG 3 e a λg=>aV s 478 [g] e f λi j k=>bt i (aG 3 j a λl=>af (aN j 3 d l) λm=>aG 3 m d λn=>K n m k) (aV s 388 [(ad 0)] j k λo p q=>af (aN p 3 d o) λr=>aG 3 r d λt=>K t r q)
theorem art:cQ 450 adO:=cT []
def afq:cO:=λs ah h U K=>bG ah h U λa b c=>af (.ok (.func (.func 479) ⟨[]⟩ ⟨[a]⟩)) λd=>K d b c
theorem auT:cQ 451 afq:=cT []
def OQ(s:ao)(K:bZ)(cN ca c6 eb:X)(aq:ae)(a0:Nat):Prop:=aG 6 aq cN λa=>af (aN aq 6 c6 a) λb=>aG 2 b ca λc=>jx 2 ca c (af (aN b 2 eb c) λd=>aG 6 d c6 λe=>aG 2 d eb λf=>K (.tuple ⟨[e,f]⟩) d a0) 1 [aq]
def OR(s:ao)(K:bZ)(cN ca c6 eb:X)(aq:ae)(a0:Nat):Prop:=aG 2 aq ca λa=>aV s 312 [a] aq a0 λb c d=>af (ds .not b) λe=>bt e (af (cw [(ad 0),aw] []) λf=>af (aN c 2 ca f) λg=>(OQ s K cN ca c6 eb g d)) (OQ s K cN ca c6 eb c d)
def adP:c0:=λs ah t1 h U K=>bG ah h U λa b c=>bG t1 b c λd e f=>bX [(ad 0),(ad 0),aw,aw,aw,aw] e f λg i j=>bX [(ad 0),aw] i j λk l m=>aG 6 l a λn=>aV s 477 [n] l m λo p q=>af (ds .not o) λr=>bt r (dS (eO 1 [(ad 0)] [(0,1,(ad 0))]) p q λt aS v=>af (cw [(ad 0),(ad 0),aw,aw,aw,aw] [(3,1,t)]) λw=>af (aN aS 6 a w) λx=>(OR s K a d g k x v)) (OR s K a d g k p q)
theorem aru:c4 452 adP:=c5 []
def Oa:ac (ac Nat):=[[0,2,3,4,11,14,15,16]]
def WI(s:ao)(aC a2 a3 aZ d5 li jg hi:X)(h:ae)(U:Nat)(N:aQ)(aM:aQ)(R:aQ):Prop:=cv hi jg (gD 2 h 2 li hi λc=>bX [(ad 0),(ad 0)] h U λd e f=>af (aN e 2 d c) λg=>av g 0 d λj=>aV s 334 [a3,j] g f λk l m=>bm .neq 4 k aZ (av l 1 d λp=>cg 480 [aC,p,a2] l m λq r t=>bl 0 d λaS=>bY r aS λv=>da aS v (af (cw [(ad 0),(ad 0),(.int .u64 0)] [(0,1,v),(1,2,q)]) λw=>dS (eO 1 [(ad 0),(ad 0),(.int .u64 0)] [(0,3,w)]) r t λx y z=>dm (dI (dn 3 y z d5 x)) λbz bS bA=>z<=bA/\b9 hi λa9=>N [aC,a2,a3,aZ,bz,li,jg,a9] bS bA) 1 [l]) (b9 hi λbM=>N [aC,a2,a3,aZ,d5,li,jg,bM] l m)) (aM [aC,a2,a3,aZ,d5,li,jg,hi] h U)
def Y6:xz:=λs ah t1 t2 t3 f6 h U K=>cP t1 λa=>bF (bW Q s Oa 453 0) [ah,t2,t3,f6,aw,t1,a,(ad 0)] h U [(0,λb c d=>K (aT b 4) c d)] (λ_ _ _=>False)
theorem ai0{h:ae}{U:Nat}:bW Q s Oa 453 0 [aC,a2,a3,aZ,d5,li,jg,hi] h U N [(0,aM)] R=WI s aC a2 a3 aZ d5 li jg hi h U N aM R:=by kernel_rfl
theorem akx:zi 453 Y6:=A3 Oa
def OS(s:ao)(K:bZ)(cN ca c6 eb:X)(aq:ae)(a0:Nat):Prop:=aG 5 aq cN λa=>af (aN aq 5 c6 a) λb=>aG 3 b ca λc=>jx 3 ca c (af (aN b 3 eb c) λd=>aG 5 d c6 λe=>aG 3 d eb λf=>K (.tuple ⟨[e,f]⟩) d a0) 1 [aq]
def OT(s:ao)(K:bZ)(cN ca c6 eb:X)(aq:ae)(a0:Nat):Prop:=aG 3 aq ca λa=>aV s 478 [a] aq a0 λb c d=>af (ds .not b) λe=>bt e (aV s 388 [(ad 0)] c d λf g i=>af (aN g 3 ca f) λj=>(OS s K cN ca c6 eb j i)) (OS s K cN ca c6 eb c d)
def adQ:c0:=λs ah t1 h U K=>bG ah h U λa b c=>bG t1 b c λd e f=>bX [(ad 0),(ad 0),aw,aw,aw] e f λg i j=>bX [(ad 0),aw,aw] i j λk l m=>aG 5 l a λn=>aV s 201 [n] l m λo p q=>af (ds .not o) λr=>bt r (aG 5 p a λt=>af (cw [(ad 0),(ad 0)] []) λaS=>af (cw [(ad 0),(ad 0)] []) λv=>aV s 203 [t,aS,v] p q λw x y=>af (aN x 5 a w) λz=>(OT s K a d g k z y)) (OT s K a d g k p q)
theorem arv:c4 455 adQ:=c5 []
def abn:gj:=λs ah t1 t2 h U K=>bG ah h U λa b c=>bG t1 b c λd e f=>bG t2 e f λg i j=>af (.ok (.func (.func 483) ⟨[]⟩ ⟨[a,d,g]⟩)) λk=>K k i j
theorem anr:gw 456 abn:=gz []
def QP:ac (ac Nat):=[[0,2,5,7,8,10,11,12]]
def abo(s:ao)(aC a2 bI a6 bq dd d5 eg:X)(h:ae)(U:Nat)(N:aQ)(aM:aQ)(R:aQ):Prop:=av h 2 bI λb=>b9 a2 λc=>et h 1 b c λe=>cv eg e (av h 3 bI λi=>et h 1 i eg λk=>av h 1 a6 λm=>aV s 334 [m,k] h U λn o p=>bt n (av o 4 bI λr=>et o 1 r eg λaS=>av o 2 a6 λw=>et o 1 w k λy=>cg 480 [aC,aS,y] o p λz bz bS=>fg Q true (hV bz bS [z] dd) λbA a9 bM=>bS<=bM/\b9 eg λb5=>N [aC,a2,bI,a6,bq,dd,d5,b5] a9 bM) (b9 eg λbO=>N [aC,a2,bI,a6,bq,dd,d5,bO] o p)) (aM [aC,a2,bI,a6,bq,dd,d5,eg] h U)
def afr:sZ:=λs ah t1 t2 t3 h U K=>bG t1 h U λa b c=>bG t3 b c λd e f=>bX [(ad 0),(.int .u64 0)] e f λg i j=>aV s 484 [ah] i j λk l m=>af (cu k 0) λn=>af (cu k 1) λo=>av l 2 a λq=>et l 1 q t2 λt=>bF (bW Q s QP 457 0) [ah,t2,a,d,g,n,o,t] l m [(0,λaS v w=>fg Q s (hV v w [] (aT aS 6)) λx y z=>af (cu x 0) λbz=>af (cu x 1) λbS=>af (aN y 2 (aT aS 4) bz) λbA=>aG 2 bA (aT aS 4) λa9=>K (.tuple ⟨[a9,bS]⟩) bA z)] (λ_ _ _=>False)
theorem arw{h:ae}{U:Nat}:bW Q s QP 457 0 [aC,a2,bI,a6,bq,dd,d5,eg] h U N [(0,aM)] R=abo s aC a2 bI a6 bq dd d5 eg h U N aM R:=by kernel_rfl
theorem auU:uj 457 afr:=vu QP
def OU:ac (ac Nat):=[[1,2,20,21,22]]
def XH(s:ao)(az a2 jV iQ eM:X)(h:ae)(U:Nat)(N:aQ)(aM:aQ)(R:aQ):Prop:=cv eM iQ (et h 1 jV eM λc=>bm .neq 2 c (ad 0) (av h 1 az λf=>aV s 334 [f,eM] h U λg i j=>af (ds .not g) λk=>bt k (R [az,(.bool false),jV,iQ,eM] i j) (b9 eM λl=>N [az,a2,jV,iQ,l] i j)) (b9 eM λm=>N [az,a2,jV,iQ,m] h U)) (aM [az,a2,jV,iQ,eM] h U)
def Ob(s:ao)(K:bZ)(b8 Tn:X)(aq:ae)(a0:Nat):Prop:=bt Tn (K (.bool false) aq a0) (av aq 2 b8 λb=>cP b λc=>bF (bW Q s OU 478 0) [b8,(.bool false),b,c,(ad 0)] aq a0 [(0,λd e f=>K (.bool true) e f)] (λg i j=>K (aT g 1) i j))
def abp:cO:=λs ah h U K=>bG ah h U λa b c=>av b 1 a λe=>av b 0 a λg=>aV s 437 [e,g] b c λi j k=>af (ds .not i) λl=>bt l (Ob s K a (.bool true) j k) (av j 2 a λn=>cP n λo=>av j 0 a λq=>bE .neq 3 o q λr=>(Ob s K a r j k))
theorem aky{g B A:X}{h:ae}{U:Nat}:bW Q s OU 478 0 [az,a2,g,B,A] h U N [(0,aM)] R=XH s az a2 g B A h U N aM R:=by kernel_rfl
theorem ans:cQ 478 abp:=cT OU
def PL:ac (ac Nat):=[[0,1,3]]
def Y7(s:ao)(aC az a3:X)(h:ae)(U:Nat)(N:aQ)(aM:aQ)(R:aQ):Prop:=bm .geq 3 a3 (ad 0) (av h 2 az λc=>et h 1 c a3 λe=>fg Q s (hV h U [a3,e] aC) λf g i=>af (ds .not f) λj=>bt j (R [aC,az,a3] g i) (av g 1 az λl=>b9 a3 λm=>aV s 473 [l,m] g i λn o p=>N [aC,az,n] o p)) (aM [aC,az,a3] h U)
def adR:c0:=λs ah t1 h U K=>av h 1 t1 λb=>aV s 473 [b,(ad 0)] h U λc d e=>bF (bW Q s PL 479 0) [ah,t1,c] d e [(0,λf g i=>K (.tuple ⟨[]⟩) g i)] (λj k l=>K (.tuple ⟨[]⟩) k l)
theorem ant{h:ae}{U:Nat}:bW Q s PL 479 0 [aC,az,a3] h U N [(0,aM)] R=Y7 s aC az a3 h U N aM R:=by kernel_rfl
theorem arx:c4 479 adR:=c5 PL
def JT(s:ao)(K:bZ)(cN dY fi:X)(aq:ae)(a0:Nat):Prop:=cg 260 [(ad 4611686018427387904)] aq a0 λa b c=>cg 260 [cN] b c λd e f=>aG 2 e fi λg=>jx 2 fi g (cg 355 [g,d] e f λi j k=>cg 353 [a,i] j k λl m n=>af (aN m 2 dY l) λo=>aG 2 o dY λp=>K p o n) 2 [b,aq]
def zV(s:ao)(K:bZ)(cA b8 cN dY y30:X)(aq:ae)(a0:Nat):Prop:=bt y30 (aV s 260 [(ad 4611686018427387904)] aq a0 λa b c=>af (aN b 2 dY a) λd=>aG 2 d dY λe=>K e d c) (af (cw [(ad 0),(.int .u64 0)] []) λf=>bX [(ad 0),(.int .u64 0)] aq a0 λg i j=>af (aN i 2 g f) λk=>bm .eql 234 cA (ad 1) (aV s 260 [b8] k j λm n o=>af (aN n 2 g m) λp=>(JT s K cN dY g p o)) (bm .eql 234 cA (ad 4) (JT s K cN dY g k j) (bm .eql 234 cA (ad 3) (aV s 260 [b8] k j λt aS v=>af (aN aS 2 dY t) λw=>aG 2 w dY λx=>K x w v) (aG 2 k g λy=>af (aN k 2 dY y) λz=>aG 2 z dY λbz=>K bz z j))))
def KA:gj:=λs ah t1 t2 h U K=>bX [(ad 0),(.int .u64 0)] h U λa b c=>bm .eql 234 ah (ad 2) (bm .neq 2 t1 (ad 0) (bE .neq 2 t2 (ad 0) λf=>aV s 354 [f] b c λg i j=>af (aN i 2 a g) λk=>aG 2 k a λl=>K l k j) (aV s 354 [(.bool false)] b c λm n o=>af (aN n 2 a m) λp=>aG 2 p a λq=>K q p o)) (bm .eql 234 ah (ad 5) (aV s 494 [t1,t2] b c λt aS v=>af (aN aS 2 a t) λw=>aG 2 w a λx=>K x w v) (aV s 259 [ah] b c λy z bz=>bt y (af (min2 false t1 t2) λbS=>bE .geq 2 bS (ad 4611686018427387904) λbA=>(zV s K ah t1 t2 a bA z bz)) (zV s K ah t1 t2 a (.bool false) z bz)))
theorem auV:gw 480 KA:=gz []
def Oc:ac (ac Nat):=[[0,2,3,6,7]]
def WJ(s:ao)(aC a2 a3 bj a6:X)(h:ae)(U:Nat)(N:aQ)(aM:aQ)(R:aQ):Prop:=cv a6 bj (bY h a2 λb=>cg 334 [b,a6] h U λc d e=>bY d a3 λf=>da a3 f (bm .neq 4 c f (fg Q true (hV d e [a6] aC) λi j k=>e<=k/\af (ds .not i) λl=>bt l (R [aC,a2,a3,bj,a6] j k) (b9 a6 λm=>N [aC,a2,a3,bj,m] j k)) (b9 a6 λn=>N [aC,a2,a3,bj,n] d e)) 1 [h]) (aM [aC,a2,a3,bj,a6] h U)
def Y8:sZ:=λs ah t1 t2 t3 h U K=>bY h t1 λa=>bF (bW Q s Oc 483 0) [ah,t2,t3,a,(ad 0)] h U [(0,λb c d=>K (.tuple ⟨[]⟩) c d)] (λe f g=>K (.tuple ⟨[]⟩) f g)
theorem ai1{h:ae}{U:Nat}:bW Q s Oc 483 0 [aC,a2,a3,bj,a6] h U N [(0,aM)] R=WJ s aC a2 a3 bj a6 h U N aM R:=by kernel_rfl
theorem akz:uj 483 Y8:=vu Oc
def abq:cO:=λs ah h U K=>bG ah h U λa b c=>bX [(ad 0),(.int .u64 0)] b c λd e f=>bX [(.bool false)] e f λg i j=>af (aN i 1 g (.bool false)) λk=>af (.ok (.func (.func 497) ⟨[]⟩ ⟨[g,a,d]⟩)) λl=>af (.ok (.func (.func 498) ⟨[]⟩ ⟨[d,g]⟩)) λm=>K (.tuple ⟨[l,m]⟩) k j
theorem anu:cQ 484 abq:=cT []
def Y9:sZ:=λs ah t1 t2 t3 h U K=>bG ah h U λa b c=>bY b t1 λd=>bt d (bY b t2 λe=>aG 2 b t3 λf=>aG 2 b a λg=>aV s 261 [e,f,g] b c λi j k=>af (aN j 2 a i) λl=>aG 2 l a λm=>af (aN l 2 t3 m) λn=>af (aN n 1 t1 (.bool true)) λo=>K (.tuple ⟨[]⟩) o k) (aG 2 b a λp=>af (aN b 2 t3 p) λq=>af (aN q 1 t1 (.bool true)) λr=>K (.tuple ⟨[]⟩) r c)
theorem akA:uj 497 Y9:=vu []
def Za:c0:=λs ah t1 h U K=>bX [(ad 0),(.int .u64 0)] h U λa b c=>aG 2 b ah λd=>af (aN b 2 a d) λe=>bY e t1 λf=>da t1 f (aG 2 e a λg=>K (.tuple ⟨[g,f]⟩) e c) 1 [b]
theorem akB:c4 498 Za:=c5 []
def afs:c0:=λs ah t1 h U K=>aV s 345 [ah] h U λa b c=>aV s 345 [t1] b c λd e f=>bt a (bt d (K (ad 0) e f) (K (ad (-1)) e f)) (bt d (K (ad 1) e f) (cv ah t1 (K (ad (-1)) e f) (hP ah t1 (K (ad 1) e f) (K (ad 0) e f))))
theorem auW:c4 242 afs:=c5 []
def RC:ac (ac Nat):=[[2,3,6,7,8]]
def Kg(s:ao)(a2 a3 bj a6 bq:X)(h:ae)(U:Nat)(N:aQ)(aM:aQ)(R:aQ):Prop:=cv bq a6 (et h 1 bj bq λc=>bm .neq 3 c a3 (R [c,a3,bj,a6,bq] h U) (b9 bq λe=>N [a2,a3,bj,a6,e] h U)) (aM [a2,a3,bj,a6,bq] h U)
def agK:cO:=λs ah h U K=>cP ah λa=>bF (bW Q s RC 241 0) [(ad 0),(ad 0),ah,a,(ad 0)] h U [(0,λb c d=>K (aT b 1) c d)] (λe f g=>K (aT e 0) f g)
theorem QQ{h:ae}{U:Nat}:bW Q s RC 241 0 [a2,a3,bj,a6,bq] h U N [(0,aM)] R=Kg s a2 a3 bj a6 bq h U N aM R:=by kernel_rfl
theorem axk:cQ 241 agK:=cT RC
def agL:cO:=λs ah h U K=>bm .gtr 234 ah (ad 0) (bE .lss 3 ah (ad 6) λb=>K b h U) (K (.bool false) h U)
theorem axl:cQ 259 agL:=cT []
def agM:cO:=λs ah h U K=>bX [(ad 0),(.int .u64 0)] h U λa b c=>bE .shr 2 ah (.int .u64 63) λd=>af (n1 (.int .u64) ah) λe=>af (cw [(ad 0),(.int .u64 0)] [(0,1,d),(1,1,e)]) λf=>af (aN b 2 a f) λg=>aG 2 g a λi=>K i g c
theorem axm:cQ 260 agM:=cT []
def Cn(s:ao)(K:bZ)(c6 eb dY fi ib:X)(aq:ae)(a0:Nat):Prop:=bt ib (aG 2 aq c6 λa=>aG 2 aq eb λb=>aV s 353 [a,b] aq a0 λc d e=>af (aN d 2 dY c) λf=>aG 2 f dY λg=>K g f e) (bm .eql 234 fi (ad 2) (aG 2 aq c6 λj=>aG 2 aq eb λk=>bm .neq 272 j k (aV s 354 [(.bool true)] aq a0 λm n o=>af (aN n 2 dY m) λp=>aG 2 p dY λq=>K q p o) (aG 2 aq c6 λr=>af (cw [(ad 0),(.int .u64 0)] []) λt=>bE .neq 272 r t λaS=>aV s 354 [aS] aq a0 λv w x=>af (aN w 2 dY v) λy=>aG 2 y dY λz=>K z y x)) (bm .eql 234 fi (ad 5) (aG 2 aq c6 λbS=>aG 2 aq eb λbA=>aV s 355 [bS,bA] aq a0 λa9 bM b5=>af (aN bM 2 dY a9) λbO=>aG 2 bO dY λcJ=>K cJ bO b5) (af (cw [(ad 0),(.int .u64 0)] []) λcp=>af (aN aq 2 dY cp) λdk=>aG 2 dk dY λc3=>K c3 dk a0)))
def aft:gj:=λs ah t1 t2 h U K=>bG t1 h U λa b c=>bG t2 b c λd e f=>bX [(ad 0),(.int .u64 0)] e f λg i j=>bm .eql 234 ah (ad 1) (Cn s K a d g ah (.bool true) i j) (bm .eql 234 ah (ad 3) (Cn s K a d g ah (.bool true) i j) (bE .eql 234 ah (ad 4) λm=>(Cn s K a d g ah m i j)))
theorem auX:gw 261 aft:=gz []
def Zb:c0:=λs ah t1 h U K=>bG t1 h U λa b c=>aG 2 b a λd=>aV s 356 [d] b c λe f g=>af (cu e 0) λi=>af (cu e 1) λj=>K (.tuple ⟨[i,j]⟩) f g
theorem akC:c4 262 Zb:=c5 []
def Zc:c0:=λs ah t1 h U K=>bG ah h U λa b c=>bG t1 b c λd e f=>bX [(ad 0),(.int .u64 0)] e f λg i j=>aG 2 i a λk=>aG 2 i d λl=>aV s 418 [k,l] i j λm n o=>bm .leq 3 m (ad 0) (aG 2 n a λq=>af (aN n 2 g q) λr=>aG 2 r g λt=>K t r o) (aG 2 n d λaS=>af (aN n 2 g aS) λv=>aG 2 v g λw=>K w v o)
theorem akD:c4 353 Zc:=c5 []
def Zd:cO:=λs ah h U K=>bG ah h U λa b c=>av b 1 a λe=>af (n1 (.int .i64) e) λf=>cg 260 [f] b c λg i j=>aG 2 i a λk=>jx 2 a k (bm .neq 272 g k (K (.tuple ⟨[(ad 0),(.bool false)]⟩) i j) (K (.tuple ⟨[f,(.bool true)]⟩) i j)) 1 [b]
theorem akE:cQ 356 Zd:=cT []
def XI:c0:=λs ah t1 h U K=>bG ah h U λa b c=>bG t1 b c λd e f=>av e 0 a λi=>av e 0 d λk=>cg 359 [i,k] e f λl m n=>bl 1 a λo=>bY m o λp=>da o p (bl 1 d λq=>bY m q λr=>da q r (cg 466 [p,r] m n λt aS v=>dS (eO 2 [(ad 0),(ad 0)] [(0,1,l),(1,1,t)]) aS v λw x y=>cg 241 [w] x y λz bz bS=>K z bz bS) 1 [e]) 1 [e]
theorem ai2:c4 418 XI:=c5 []
def afu:c0:=λs ah t1 h U K=>aV s 428 [ah] h U λa b c=>aV s 428 [t1] b c λd e f=>bt a (bt d (K (ad 0) e f) (K (ad (-1)) e f)) (bt d (K (ad 1) e f) (bm .lss 2 ah t1 (K (ad (-1)) e f) (bm .gtr 2 ah t1 (K (ad 1) e f) (K (ad 0) e f))))
theorem auY:c4 359 afu:=c5 []
def afv:c0:=λs ah t1 h U K=>aV s 488 [ah] h U λa b c=>aV s 488 [t1] b c λd e f=>bt a (bt d (K (ad 0) e f) (K (ad (-1)) e f)) (bt d (K (ad 1) e f) (bm .lss 188 ah t1 (K (ad (-1)) e f) (bm .gtr 188 ah t1 (K (ad 1) e f) (K (ad 0) e f))))
theorem auZ:c4 466 afv:=c5 []
def abr:cO:=λs ah h U K=>bE .neq 2 ah ah λa=>K a h U
theorem anv:cQ 428 abr:=cT []
def abs:cO:=λs ah h U K=>bE .neq 188 ah ah λa=>K a h U
theorem anw:cQ 488 abs:=cT []
def wid(x:Int):ac X:=[.int .i64 (x / 18446744073709551616),.int .u64 (x % 18446744073709551616)]
def kC(n:Int):Prop:=-9223372036854775808<=n/\n<9223372036854775808
def lr(x:Int):Prop:=-170141183460469231731687303715884105728<=x/\x<170141183460469231731687303715884105728
theorem oS:IntKind.wrap .i64 n=(n+9223372036854775808) % 18446744073709551616-9223372036854775808:=by rw[adk];omega
theorem Kt:IntKind.wrap .u64 n=n % 18446744073709551616:=by simp[IntKind.wrap,IntKind.signed,IntKind.bits]
theorem akF{t:TypeId}(h:kC n):bin Q .shr t (n:X) (.int .u64 63) = .ok (.int .i64 (n / 18446744073709551616)):=by
 show R.ok (Value.int .i64 (n.fdiv 9223372036854775808))=_;rw[Int.fdiv_eq_ediv_of_nonneg _ (by decide)];unfold kC at h
 grind
theorem z7{h:ae}{U:Nat}(g:kC n):aD Q s 260 [(n:X)] h U (c9 (.agg ⟨wid n⟩) U h):=by refine axm ?_;unfold agM wid;simp(disch:=omega)only[bk,akF g,Kt,seval];exact⟨rfl,aF,J⟩
theorem abt{h:ae}{U:Nat}:aD Q s 359 [(a:X),(b:X)] h U (fs (.int .i64 (fY a b)) U h):=by
 have g:∀{n:Int} {K:bZ},K (.bool false) h U->aD Q s 428 [(n:X)] h U K:=λ{n K} hk=>by refine anv ?_;unfold abr;simp(disch:=omega)only[bk,oH,seval];exact hk
 refine auY ?_;unfold afu fY;refine g (g ?_);refine aE ?_;refine⟨λA=>?_,λA=>⟨λB=>?_,λB=>?_⟩⟩
 ·rw[if_pos A];exact⟨rfl,rfl,rfl⟩
 ·rw[if_neg J,if_pos J];exact⟨rfl,rfl,rfl⟩
 ·rw[if_neg J,if_neg J];exact⟨rfl,rfl,rfl⟩
theorem ary{h:ae}{U:Nat}:aD Q s 466 [.int .u64 a,.int .u64 b] h U (fs (.int .i64 (fY a b)) U h):=by
 have g:∀{n:Int} {K:bZ},K (.bool false) h U->aD Q s 488 [.int .u64 n] h U K:=λ{n K} hk=>by refine anw ?_;unfold abs;simp(disch:=omega)only[bk,oH,seval];exact hk
 refine auZ ?_;unfold afv fY;refine g (g ?_);refine aE ?_;refine⟨λA=>?_,λA=>⟨λB=>?_,λB=>?_⟩⟩
 ·rw[if_pos A];exact⟨rfl,rfl,rfl⟩
 ·rw[if_neg J,if_pos J];exact⟨rfl,rfl,rfl⟩
 ·rw[if_neg J,if_neg J];exact⟨rfl,rfl,rfl⟩
def ay9(b:Nat)(x y:Int)(U:Nat)(h:ae)(m:Nat)(aJ:ac X)(ab:ae)(Y:Nat):Prop :=
 (m=2/\aJ=[.int .i64 0,.int .i64 0,.slice (some ⟨b,0,none⟩) 2 2,.int .i64 2,.int .i64 0]/\ab=h/\Y=U)\/(m=1/\x=0/\aJ=[.int .i64 0,.int .i64 0,.slice (some ⟨b,0,none⟩) 2 2,.int .i64 2,.int .i64 1]/\ab=h/\Y=U)\/(m=0/\x=0/\y=0/\aJ=[.int .i64 0,.int .i64 0,.slice (some ⟨b,0,none⟩) 2 2,.int .i64 2,.int .i64 2]/\ab=h/\Y=U)
theorem CC{b:Nat}{h:ae}{U:Nat}(B:u h b=some (.cells [(x:X),(y:X)] false)):aD Q s 241 [.slice (some ⟨b,0,none⟩) 2 2] h U (fs (.int .i64 (if x=0 then y else x)) U h):=by
 refine axk ?_;unfold agK;refine aE ?_;refine bF.mk (ay9 b x y U h) 2 (.inl aa) ?_;rintro _ _ _ _ (⟨rfl,rfl,rfl,rfl⟩|⟨rfl,g,rfl,rfl,rfl⟩|⟨rfl,g,A,rfl,rfl,rfl⟩)
 ·rw[QQ];unfold Kg;simp(disch:=omega)only[bk,B,seval]
  by_cases g:x=0
  ·subst g;refine aE ?_;exact⟨⟨1,J,.inr (.inl ⟨rfl,rfl,rfl,rfl,rfl⟩)⟩,λh=>absurd trivial h⟩
  ·have e:(x == 0)=false:=aa
   refine cM @e @g ?_;exact⟨⟨rfl,rfl,rfl⟩,λh=>absurd trivial h⟩
 ·rw[QQ];unfold Kg;subst g;simp(disch:=omega)only[bk,B,seval]
  by_cases A:y=0
  ·subst A;refine aE ?_;exact⟨⟨0,J,.inr (.inr ⟨rfl,rfl,rfl,rfl,rfl,rfl⟩)⟩,λh=>absurd trivial h⟩
  ·have e:(y == 0)=false:=aa
   refine bf @e ?_;exact⟨⟨rfl,rfl,rfl⟩,λh=>absurd trivial h⟩
 ·rw[QQ];unfold Kg;subst g A;refine aE ?_;exact λ_=>⟨rfl,rfl,rfl⟩
theorem aiq{h:ae}{U:Nat}:aD Q s 418 [.agg ⟨wid a⟩,.agg ⟨wid b⟩] h U (c9 (.int .i64 (fY a b)) U h):=by
 refine ai2 ?_;unfold XI wid;refine aE ?_;refine abt.mono ?_;rintro _ _ _ ⟨rfl,rfl,rfl⟩;refine⟨J,?_⟩;refine aE ?_;refine ary.mono ?_;rintro _ _ _ ⟨rfl,rfl,rfl⟩;refine⟨J,?_⟩;refine aE ?_;refine(CC (aR _ _ _)).mono ?_;rintro _ _ _ ⟨rfl,rfl,rfl⟩;refine⟨J,?_,aF,J⟩
 congr 1
 unfold fY;omega
theorem anx:0<fY a b↔b<a:=by unfold fY;omega
theorem NM{h:ae}{U:Nat}:aD Q s 353 [.agg ⟨wid a⟩,.agg ⟨wid b⟩] h U (c9 (.agg ⟨wid (min a b)⟩) U h):=by
 refine akD ?_;unfold Zc bG;rw[show c7 (.agg ⟨wid a⟩)=[.int .i64 (a / 18446744073709551616),.int .u64 (a % 18446744073709551616)]from rfl,show c7 (.agg ⟨wid b⟩)=[.int .i64 (b / 18446744073709551616),.int .u64 (b % 18446744073709551616)]from rfl];refine aE ?_;refine(aiq  ).mono ?_;rintro _ M L ⟨rfl,g,D⟩;have C:=g U J;rw[ar J,ar J,aR]at C;have B:=g (U+1) J;rw[ar J,aR]at B;have E:=g (U+2) J;rw[aR]at E;refine gX @C @B @E ?_;have I:=anx (a:=a) (b:=b);refine⟨λA=>?_,λA=>?_⟩
 ·have:min a b=(if 0<fY a b then b else a):=J
  rw[this]
  first|rw[if_pos A]|rw[if_neg A]
  exact⟨rfl,aF,J⟩
 ·have:min a b=(if 0<fY a b then b else a):=J
  rw[this]
  first|rw[if_pos A]|rw[if_neg A]|rw[if_neg J]
  exact⟨rfl,aF,J⟩
theorem wfI(h:kC n):(Lit.int .i64 n).wf=true:=by unfold kC at h;simp[Lit.wf,IntKind.min,IntKind.max,IntKind.bits,IntKind.signed];omega
theorem wfU(h:0<=n/\n<18446744073709551616):(Lit.int .u64 n).wf=true:=by simp[Lit.wf,IntKind.min,IntKind.max,IntKind.bits,IntKind.signed];omega
theorem aza(h:lr x):kC (x / 18446744073709551616)/\0<=x % 18446744073709551616/\x % 18446744073709551616<18446744073709551616:=by unfold lr at h;unfold kC;omega
theorem afw(h:lr x):Tryz.prog.keyLits 8 272 (wid x)=some [.int .i64 (x / 18446744073709551616),.int .u64 (x % 18446744073709551616)]:=by
 obtain⟨D,A⟩:=aza h;have C:=wfI D;have B:=wfU A;have g:Tryz.prog.keyLits 7 2 [.int .i64 (x / 18446744073709551616)]=some [.int .i64 (x / 18446744073709551616)]:=by unfold Program.keyLits;simp only[Bt,C,se,if_true]
 have two:Tryz.prog.keyLits 7 188 [.int .u64 (x % 18446744073709551616)]=some [.int .u64 (x % 18446744073709551616)]:=by unfold Program.keyLits;simp only[agC,B,se,if_true]
 unfold Program.keyLits;simp only[K1,K2,wid,nq,BU,Nat.reduceAdd];rw[if_pos ⟨trivial,by kernel_rfl⟩];simp only[zC,IU,show DG.type=2 from rfl,show DH.type=188 from rfl,show DG.offset=0 from rfl,show DH.offset=1 from rfl,c2,agE,nr,IG,BQ,s8,g,two];rfl
theorem PM(B:lr x)(A:lr y):bin Q .neq 272 (.agg ⟨wid x⟩) (.agg ⟨wid y⟩) = .ok (.bool (!(x == y))):=by
 show R.of "compared" (bif Ce Tryz.prog 272 then qF Tryz.prog 272 (.agg ⟨wid x⟩) (.agg ⟨wid y⟩)else none) (λb=>mP (!b))=_;have g:∀x,(Value.agg ⟨wid x⟩).formed Tryz.prog 272=true:=λx=>by simp[Value.formed,K1,K2,wid]
 unfold qF;rw[aff,agD,g,g];show R.of "compared" (bif true&&(true&&true&&true&&true)then GY (Tryz.prog.keyLits 8 272 (wid x)) (Tryz.prog.keyLits 8 272 (wid y))else none) (λb=>mP (!b))=_;rw[afw B,afw A];show R.ok (Value.bool (!((mn .i64 .i64&&ga (x / 18446744073709551616) (y / 18446744073709551616))&&((mn .u64 .u64&&ga (x % 18446744073709551616) (y % 18446744073709551616))&&true))))=_;rw[v6,v6,k3,k3];have:(true&&x / 18446744073709551616 == y / 18446744073709551616&&(true&&x % 18446744073709551616 == y % 18446744073709551616&&true))=(x == y):=aa
 grind
theorem ai3{h:ae}{U:Nat}(P:lr x):aD Q s 356 [.agg ⟨wid x⟩] h U (c9 (.tuple ⟨[.int .i64 (if sy x=true then x else 0),.bool (sy x)]⟩) U h):=by
 refine akE ?_;unfold Zd bG;rw[show c7 (.agg ⟨wid x⟩)=[.int .i64 (x / 18446744073709551616),.int .u64 (x % 18446744073709551616)]from rfl];have I:IntKind.wrap .i64 (x % 18446744073709551616)=(x+9223372036854775808) % 18446744073709551616-9223372036854775808:=by rw[oS];omega
 have M:kC ((x+9223372036854775808) % 18446744073709551616-9223372036854775808):=by unfold kC;omega
 have C:lr ((x+9223372036854775808) % 18446744073709551616-9223372036854775808):=by unfold lr;omega
 refine bf @I ?_;refine(z7 M).mono ?_;rintro _ V Z ⟨rfl,A,g⟩;have D:=A U J;rw[aR]at D;refine⟨g,?_⟩;refine bf @D ?_;rw[show(Value.agg ⟨[.int .i64 (x / 18446744073709551616),.int .u64 (x % 18446744073709551616)]⟩) = .agg ⟨wid x⟩from rfl,PM C P];have B:((x+9223372036854775808) % 18446744073709551616-9223372036854775808 == x)=sy x:=by
  unfold sy
  grind
 rw[B];have E:aA U h V:=aF
 cases L:sy x with
 |true =>
  rw[L]at B;have:=uC.1 B;refine aE ?_;rw[this];exact⟨rfl,E,J⟩
 |false =>
  refine aE ?_;exact⟨rfl,E,J⟩
theorem WK{h:ae}{U:Nat}(B:lr x):aD Q s 262 [(r:X),.agg ⟨wid x⟩] h U (c9 (.tuple ⟨[.int .i64 (if sy x=true then x else 0),.bool (sy x)]⟩) U h):=by refine akC ?_;unfold Zb bG;rw[show c7 (.agg ⟨wid x⟩)=[.int .i64 (x / 18446744073709551616),.int .u64 (x % 18446744073709551616)]from rfl];refine aE ?_;rw[show(Value.agg ⟨[.int .i64 (x / 18446744073709551616),.int .u64 (x % 18446744073709551616)]⟩) = .agg ⟨wid x⟩from rfl];refine(ai3 B).mono ?_;rintro _ D C ⟨rfl,A,g⟩;refine aE ?_;exact⟨rfl,aF,J⟩
theorem Jf{b:ao}{h:ae}{U:Nat}:aD Q s 354 [.bool b] h U (c9 (.agg ⟨wid (if b=true then 1 else 0)⟩) U h):=by
 refine anm ?_;unfold abk;cases b with
 |true =>
  refine aE ?_;refine(z7  (by unfold kC;omega)).mono ?_;rintro _ D C ⟨rfl,g,B⟩;have A:=g U J;rw[aR]at A;unfold wid;refine bf @A ?_;exact⟨rfl,aF,J⟩
 |false =>
  refine aE ?_;exact⟨rfl,aF,J⟩
theorem z8{h:ae}{U:Nat}(B:0<r)(A:r<6):aD Q s 259 [(r:X)] h U (fs (.bool true) U h):=by refine axl ?_;unfold agL;refine aE ?_;refine⟨λ_=>?_,λg=>absurd g J⟩;rw[hf A];exact⟨rfl,rfl,rfl⟩
theorem anz{h:ae}{U:Nat}(g:r=1\/r=2\/r=4\/r=5):aD Q s 399 [(r:X)] h U (fs (.int .i64 (Kx r)) U h):=by
 refine arr ?_;unfold adN Kx eS;rcases g with rfl|rfl|rfl|rfl <;> (simp(disch:=omega)only[bk,seval];exact⟨rfl,rfl,rfl⟩)
def ob(r:Int):Prop:=r=1\/r=2\/r=4
theorem PN{h:ae}{U:Nat}(P:ob r)(L:lr a)(M:lr b):aD Q s 261 [(r:X),.agg ⟨wid a⟩,.agg ⟨wid b⟩] h U (c9 (.agg ⟨wid (kB r a b)⟩) U h):=by
 refine auX ?_;unfold aft bG;rw[show c7 (.agg ⟨wid a⟩)=[.int .i64 (a / 18446744073709551616),.int .u64 (a % 18446744073709551616)]from rfl,show c7 (.agg ⟨wid b⟩)=[.int .i64 (b / 18446744073709551616),.int .u64 (b % 18446744073709551616)]from rfl];have aM:∀x:Int,(Value.agg ⟨[.int .i64 (x / 18446744073709551616),.int .u64 (x % 18446744073709551616)]⟩) = .agg ⟨wid x⟩:=λ_=>rfl;rcases P with rfl|rfl|rfl
 ·refine aE ?_;unfold Cn;refine aE ?_;rw[aM,aM];refine NM.mono ?_;rintro _ I E ⟨rfl,g,A⟩;have B:=g (U+2) J;rw[aR]at B;unfold wid;refine bf @B ?_;exact⟨rfl,aF,J⟩
 ·refine aE ?_;unfold Cn;refine aE ?_;rw[aM,aM,PM L M];have V:(Value.agg ⟨[.int .i64 0,.int .u64 0]⟩) = .agg ⟨wid 0⟩:=rfl;have Z:lr 0:=by unfold lr;omega
  by_cases C:a=b
  ·subst C;simp(disch:=omega)only[bk,oH,seval];rw[V,PM L Z];refine aE ?_;refine Jf.mono ?_;rintro _ I E ⟨rfl,g,A⟩;have B:=g (U+2) J;rw[aR]at B;have D:(if(!a == 0)=true then(1:Int)else 0)=kB 2 a a:=by
    unfold kB
    grind
   rw[D];unfold wid;refine bf @B ?_;exact⟨rfl,aF,J⟩
  ·rw[show(a == b)=false from sa.2 C];refine aE ?_;refine Jf.mono ?_;rintro _ I E ⟨rfl,g,A⟩;have B:=g (U+2) J;rw[aR]at B;have D:kB 2 a b=1:=by unfold kB;omega
   rw[D];unfold wid;refine bf @B ?_;exact⟨rfl,aF,J⟩
 ·refine aE ?_;unfold Cn;refine aE ?_;rw[aM,aM];refine NM.mono ?_;rintro _ I E ⟨rfl,g,A⟩;have B:=g (U+2) J;rw[aR]at B;unfold wid;refine bf @B ?_;exact⟨rfl,aF,J⟩
theorem akG{b:ao}{h:ae}{U:Nat}:aD Q s 419 [.bool b] h U (fs (.int .u64 (if b=true then 1 else 0)) U h):=by
 refine anq ?_;cases b <;> (simp(disch:=omega)only[bk,seval];exact⟨rfl,rfl,rfl⟩)
theorem arz{h:ae}{U:Nat}:aD Q s 355 [.agg ⟨wid a⟩,.agg ⟨wid b⟩] h U (c9 (.agg ⟨wid (iF (a+b))⟩) U h):=by
 refine auR ?_;unfold afo bG;rw[show c7 (.agg ⟨wid a⟩)=[.int .i64 (a / 18446744073709551616),.int .u64 (a % 18446744073709551616)]from rfl,show c7 (.agg ⟨wid b⟩)=[.int .i64 (b / 18446744073709551616),.int .u64 (b % 18446744073709551616)]from rfl];refine aE ?_;refine akG.mono ?_;rintro _ _ _ ⟨rfl,rfl,rfl⟩;refine⟨J,?_⟩;refine aE ?_;have aW:((a % 18446744073709551616+b % 18446744073709551616) % 18446744073709551616)=iF (a+b) % 18446744073709551616:=by unfold iF;omega
 have aP:IntKind.wrap .u64 (a % 18446744073709551616+b % 18446744073709551616)=iF (a+b) % 18446744073709551616:=by rw[Kt,aW]
 rw[aP];have A:IntKind.wrap .i64 (IntKind.wrap .u64 (IntKind.wrap .u64 (IntKind.wrap .u64 (a / 18446744073709551616)+IntKind.wrap .u64 (b / 18446744073709551616))+(if iF (a+b) % 18446744073709551616<b % 18446744073709551616 then 1 else 0)))=iF (a+b) / 18446744073709551616:=by
  simp only[Kt,oS]
  by_cases g:iF (a+b) % 18446744073709551616<b % 18446744073709551616
  ·rw[if_pos g];unfold iF at *
   omega
  ·rw[if_neg g];unfold iF at *
   omega
 rw[A];exact⟨rfl,aF,J⟩
theorem anA(h:lr x):iF x=x:=by unfold lr at h;unfold iF;omega
theorem FU(h:kC x):lr x:=by unfold kC at h;unfold lr;omega
theorem RD(B:0<=a/\a<=2147483647)(A:0<=x/\x<=eS)(g:ob r):0<=hM r a x/\hM r a x<=eS:=by
 unfold hM eS at *
 rcases g with rfl|rfl|rfl
 all_goals omega
theorem afx{q:Int}{D M:Nat}{I:ae}{g:Nat}(lE:u I D=some (.cells [.int .i64 0,.int .u64 0] false))(mI:u I M=some (.cells [.int .i64 (q / 18446744073709551616),.int .u64 (q % 18446744073709551616)] false))(l4:D<g)(nK:M<g)(di:0<=q/\q<=2147483647)(aX:0<=x/\x<=eS)(fin:∀V P,aA g I V->g<=P->K (.agg ⟨wid (min eS (q+x))⟩) (T V D (.cells [.int .i64 (min eS (q+x) / 18446744073709551616),.int .u64 (min eS (q+x) % 18446744073709551616)] false)) P):
  JT s K (x:X) (bb D) (bb M) I g:=by
 have aj:eS=4611686018427387904:=rfl;rw[aj]at aX fin;have aCI:kC x:=by unfold kC;omega
 unfold JT;refine(z7 (n:=4611686018427387904) (by unfold kC;omega)).mono ?_;rintro _ V P ⟨rfl,dv,B⟩;refine⟨B,?_⟩;refine(z7 aCI).mono ?_;rintro _ ap bU ⟨rfl,Z,C⟩;have A:=(dv M nK).trans mI;have g7a:=(Z M J).trans A;refine⟨C,?_⟩;refine gX @g7a @A @mI ?_;rw[show(Value.agg ⟨[.int .i64 (q / 18446744073709551616),.int .u64 (q % 18446744073709551616)]⟩) = .agg ⟨wid q⟩from rfl];refine arz.mono ?_;rintro _ aH b1 ⟨rfl,f1,L⟩;refine⟨L,?_⟩;rw[anA  (by unfold lr;omega)];refine NM.mono ?_;rintro _ bh d9 ⟨rfl,g6,E⟩;refine⟨E,?_⟩;have hn:aA g I bh:=aF
 have g6a:=(hn D l4).trans lE;have:=fin bh d9 hn J;unfold wid at this ⊢;refine bf @g6a ?_;exact this
theorem abu{h:ae}{U:Nat}(ba:ob r)(dy:0<=a/\a<=2147483647)(aX:0<=x/\x<=eS):aD Q s 480 [(r:X),(a:X),(x:X)] h U (c9 (.agg ⟨wid (hM r a x)⟩) U h):=by
 refine auV ?_;have Z:=aX;have aj:eS=4611686018427387904:=rfl;have aCJ:kC 4611686018427387904:=by unfold kC;omega
 rw[aj]at aX;have um:kC a:=by unfold kC;omega
 have fin:∀(v:Int) (C:ae) (I:Nat),aA (U+1) (T h U (.cells [.int .i64 0,.int .u64 0] false)) C->U+1<=I->v=hM r a x->c9 (.agg ⟨wid (hM r a x)⟩) U h (.agg ⟨wid v⟩) (T C U (.cells [.int .i64 (v / 18446744073709551616),.int .u64 (v % 18446744073709551616)] false)) I:=λv C I hk dx e=>by subst e;exact⟨rfl,aF,J⟩
 have M:(r=1\/r=4)->4611686018427387904<=max a x->zV s (c9 (.agg ⟨wid (hM r a x)⟩) U h) (r:X) (a:X) (x:X) (bb U) (.bool true) (T h U (.cells [.int .i64 0,.int .u64 0] false)) (U+1):=λC ap=>by unfold zV;refine nw ?_;refine(z7 aCJ).mono ?_;rintro _ oZ I ⟨rfl,g,A⟩;have E:=g U J;rw[aR]at E;unfold wid;refine mf @E ?_;refine fin _ _ _ g A ?_;unfold hM eS;omega
 have B:(r=1\/r=4)->¬4611686018427387904<=max a x->zV s (c9 (.agg ⟨wid (hM r a x)⟩) U h) (r:X) (a:X) (x:X) (bb U) (.bool false) (T h U (.cells [.int .i64 0,.int .u64 0] false)) (U+1):=λC ap=>by
  unfold zV;rcases C with rfl|rfl
  ·refine nw ?_;refine(z7 um).mono ?_;rintro _ oZ I ⟨rfl,g,A⟩;have bP:=(g (U+1) J).trans (aR _ _ _);have E:=g U J;rw[ar J,ar J,aR]at E;unfold wid;refine mf @bP ?_;refine afx  aa aa J J dy Z ?_;intro Dz bU dM V;refine fin _ _ _ ?_ (by omega) ?_
   ·exact aF
   ·unfold hM eS;omega
  ·refine nw ?_;refine afx (q:=0) aa aa J J J Z ?_;intro Dz bU dM V;refine fin _ _ _ ?_ (by omega) ?_
   ·exact aF
   ·unfold hM eS;omega
 have D:r=1\/r=4->KA s (r:X) (a:X) (x:X) h U (c9 (.agg ⟨wid (hM r a x)⟩) U h):=λL=>by
  have M:=M L;have B:=B L;unfold KA;have P:zV s (c9 (.agg ⟨wid (hM r a x)⟩) U h) (r:X) (a:X) (x:X) (bb U) (.bool (!decide (max a x<4611686018427387904))) (T h U (.cells [.int .i64 0,.int .u64 0] false)) (U+1):=by
   by_cases a5:4611686018427387904<=max a x
   ·rw[ht (J:¬max a x<4611686018427387904)];exact M a5
   ·rw[hf (J:max a x<4611686018427387904)];exact B a5
  rcases L with rfl|rfl
  ·refine nw ?_;refine(z8  J J).mono ?_;rintro _ _ _ ⟨rfl,rfl,rfl⟩;exact P
  ·refine nw ?_;refine(z8  J J).mono ?_;rintro _ _ _ ⟨rfl,rfl,rfl⟩;exact P
 rcases ba with rfl|rfl|rfl
 ·exact D J
 ·unfold KA;have em:hM 2 a x=if(!(a == 0)&&!(x == 0))=true then 1 else 0:=by
   unfold hM
   grind
  refine nw ?_;refine⟨λa5=>?_,λa5=>?_⟩
  ·refine Jf.mono ?_;rintro _ C I ⟨rfl,g,A⟩;have E:=(g U J).trans (aR _ _ _);unfold wid;refine mf @E ?_;refine fin _ _ _ g A ?_
   grind
  ·refine Jf.mono ?_;rintro _ C I ⟨rfl,g,A⟩;have E:=(g U J).trans (aR _ _ _);unfold wid;refine mf @E ?_;refine fin _ _ _ g A ?_
   grind
 ·exact D J
def adS:c0:=λs ah t1 h U K=>aV s 345 [ah] h U λa b c=>aV s 345 [t1] b c λd e f=>bt a (bt d (K (ad 0) e f) (K (ad (-1)) e f)) (bt d (K (ad 1) e f) (cv ah t1 (K (ad (-1)) e f) (hP ah t1 (K (ad 1) e f) (K (ad 0) e f))))
theorem arA:c4 242 adS:=c5 []
def adT:cO:=λs ah h U K=>bE .neq 3 ah ah λa=>K a h U
theorem arB:cQ 345 adT:=cT []
def agN:c0:=λs ah t1 h U K=>bG ah h U λa b c=>bG t1 b c λd e f=>av e 0 a λi=>av e 0 d λk=>cg 242 [i,k] e f λl m n=>bl 1 a λo=>bY m o λp=>da o p (bl 1 d λq=>bY m q λr=>da q r (cg 242 [p,r] m n λt aS v=>dS (eO 2 [(ad 0),(ad 0)] [(0,1,l),(1,1,t)]) aS v λw x y=>cg 241 [w] x y λz bz bS=>K z bz bS) 1 [e]) 1 [e]
theorem axn:c4 298 agN:=c5 []
def agO:c0:=λs ah t1 h U K=>bG ah h U λa b c=>bG t1 b c λd e f=>aG 3 e a λg=>aG 3 e d λi=>cg 358 [g,i] e f λj k l=>bl 2 a λm=>bY k m λn=>da m n (bl 2 d λo=>bY k o λp=>da o p (cg 359 [n,p] k l λq r t=>dS (eO 2 [(ad 0),(ad 0)] [(0,1,j),(1,1,q)]) r t λaS v w=>cg 241 [aS] v w λx y z=>K x y z) 1 [e]) 1 [e]
theorem axo:c4 264 agO:=c5 []
def edT:c0:=λs ah t1 h U K=>bG ah h U λa b c=>bG t1 b c λd e f=>av e 0 a λi=>av e 0 d λk=>cg 242 [i,k] e f λl m n=>bl 1 a λo=>bY m o λp=>da o p (bl 1 d λq=>bY m q λr=>da q r (cg 242 [p,r] m n λt aS v=>dS (eO 2 [(ad 0),(ad 0)] [(0,1,l),(1,1,t)]) aS v λw x y=>cg 241 [w] x y λz bz bS=>K z bz bS) 1 [e]) 1 [e]
theorem azb:c4 358 edT:=c5 []
def agP:c0:=λs ah t1 h U K=>bG ah h U λa b c=>bG t1 b c λd e f=>af (f0 (.array 2 1) a (ad 0)) λg=>bY e g λi=>af (f0 (.array 2 1) d (ad 0)) λj=>bY e j λk=>cg 242 [i,k] e f λl m n=>af (f0 (.array 2 1) a (ad 1)) λo=>bY m o λp=>da o p (af (f0 (.array 2 1) d (ad 1)) λq=>bY m q λr=>da q r (cg 242 [p,r] m n λt aS v=>dS (eO 2 [(ad 0),(ad 0)] [(0,1,l),(1,1,t)]) aS v λw x y=>cg 241 [w] x y λz bz bS=>K z bz bS) 1 [e]) 1 [e]
theorem axp:c4 240 agP:=c5 []
theorem Cb{h:ae}{U:Nat}:aD Q s 242 [(a:X),(b:X)] h U (fs (.int .i64 (fY a b)) U h):=by
 have g:∀{n:Int} {K:bZ},K (.bool false) h U->aD Q s 345 [(n:X)] h U K:=λ{n K} hk=>by refine arB ?_;unfold adT;simp(disch:=omega)only[bk,oH,seval];exact hk
 refine arA ?_;unfold adS fY;refine g (g ?_);refine aE ?_;refine⟨λA=>?_,λA=>⟨λB=>?_,λB=>?_⟩⟩
 ·rw[if_pos A];exact⟨rfl,rfl,rfl⟩
 ·rw[if_neg J,if_pos J];exact⟨rfl,rfl,rfl⟩
 ·rw[if_neg J,if_neg J];exact⟨rfl,rfl,rfl⟩
theorem axq{x y:du}{h:ae}{U:Nat}:aD Q s 358 [.agg ⟨kb x⟩,.agg ⟨kb y⟩] h U (c9 (.int .i64 (hL [fY x.1 y.1,fY x.2.1 y.2.1])) U h):=by
 refine azb ?_;unfold edT bG;rw[show c7 (.agg ⟨kb x⟩)=[(x.1:X),(x.2.1:X),(x.2.2:X)]from rfl,show c7 (.agg ⟨kb y⟩)=[(y.1:X),(y.2.1:X),(y.2.2:X)]from rfl];refine aE ?_;refine Cb.mono ?_;rintro _ _ _ ⟨rfl,rfl,rfl⟩;refine⟨J,?_⟩;refine aE ?_;refine Cb.mono ?_;rintro _ _ _ ⟨rfl,rfl,rfl⟩;refine⟨J,?_⟩;refine aE ?_;refine(CC (aR _ _ _)).mono ?_;rintro _ _ _ ⟨rfl,rfl,rfl⟩;refine⟨J,?_,aF,J⟩
 congr 1
 unfold hL hL hL
 grind
theorem au0{x y:GE}{h:ae}{U:Nat}:aD Q s 298 [.agg ⟨b3 x⟩,.agg ⟨b3 y⟩] h U (c9 (.int .i64 (hL [fY x.f y.f,fY x.t y.t])) U h):=by
 refine axn ?_;unfold agN bG;rw[show c7 (.agg ⟨b3 x⟩)=[(x.f:X),(x.t:X),(x.w:X)]from rfl,show c7 (.agg ⟨b3 y⟩)=[(y.f:X),(y.t:X),(y.w:X)]from rfl];refine aE ?_;refine Cb.mono ?_;rintro _ _ _ ⟨rfl,rfl,rfl⟩;refine⟨J,?_⟩;refine aE ?_;refine Cb.mono ?_;rintro _ _ _ ⟨rfl,rfl,rfl⟩;refine⟨J,?_⟩;refine aE ?_;refine(CC (aR _ _ _)).mono ?_;rintro _ _ _ ⟨rfl,rfl,rfl⟩;refine⟨J,?_,aF,J⟩
 congr 1
 unfold hL hL hL
 grind
theorem au1{x y:Int × Int}{h:ae}{U:Nat}:aD Q s 240 [.agg ⟨lp x⟩,.agg ⟨lp y⟩] h U (c9 (.int .i64 (la x y)) U h):=by
 refine axp ?_;unfold agP bG;rw[show c7 (.agg ⟨lp x⟩)=[(x.1:X),(x.2:X)]from rfl,show c7 (.agg ⟨lp y⟩)=[(y.1:X),(y.2:X)]from rfl];refine aE ?_;refine Cb.mono ?_;rintro _ _ _ ⟨rfl,rfl,rfl⟩;refine⟨J,?_⟩;refine aE ?_;refine Cb.mono ?_;rintro _ _ _ ⟨rfl,rfl,rfl⟩;refine⟨J,?_⟩;refine aE ?_;refine(CC (aR _ _ _)).mono ?_;rintro _ _ _ ⟨rfl,rfl,rfl⟩;refine⟨J,?_,aF,J⟩
 congr 1
 unfold la hL hL hL
 grind
theorem au2{x y:du}{h:ae}{U:Nat}:aD Q s 264 [.agg ⟨kb x⟩,.agg ⟨kb y⟩] h U (c9 (.int .i64 (kc x y)) U h):=by
 have e:∀x:du,c7 (.agg ⟨kb x⟩)=[(x.1:X),(x.2.1:X),(x.2.2:X)]:=λ_=>rfl;have aP:∀x:du,Value.agg ⟨[(x.1:X),(x.2.1:X),(x.2.2:X)]⟩ = .agg ⟨kb x⟩:=λ_=>rfl;refine axo ?_;unfold agO bG;rw[e,e];refine aE ?_;rw[aP,aP];refine axq.mono ?_;rintro _ E D ⟨rfl,g,A⟩;refine⟨A,?_⟩;have C:=g U J;rw[ar J,aR]at C;have B:=g (U+1) J;rw[aR]at B;refine cM @C @B ?_;refine abt.mono ?_;rintro _ _ _ ⟨rfl,rfl,rfl⟩;refine⟨J,?_⟩;refine aE ?_;refine(CC (aR _ _ _)).mono ?_;rintro _ _ _ ⟨rfl,rfl,rfl⟩;refine⟨J,?_,aF,J⟩
 congr 1
 unfold kc;generalize hL [fY x.1 y.1,fY x.2.1 y.2.1]=a;unfold hL hL hL
 grind
theorem RE{P:Program}{f:FuncId}{B:Func}(h:P.funcs[f]? = some { B with name:=(P.funcs[f]?.getD default).name }) (g:((P.funcs[f]?.getD default).name == "runtime.NumGoroutine")=false):Bears P f B:=⟨_,g,h⟩
def uo(l:ac (Nat × Nat))(n:Nat):Nat:=(l.lookup n).getD n
def Tp(f t:ac (Nat × Nat)):Ren:=⟨uo (f++[(15,344),(28,415),(29,416),(47,462),(48,463)]),uo (t++[(3,3),(39,238),(0,0),(53,385),(55,188),(4,4),(46,426),(45,425),(50,222),(5,5),(9,9),(66,463),(70,467),(76,489),(77,341)]),id⟩
def rnE:Ren:=Tp [(6,263),(14,357),(20,420),(21,421),(22,422),(23,423),(24,424),(25,425),(26,426),(27,427),(46,467),(49,468),(50,469),(57,489)] [(22,22),(24,124),(25,329)]
def rnT:Ren:=Tp [(6,297),(14,370),(20,429),(21,430),(22,431),(23,432),(24,433),(25,434),(26,435),(27,436),(46,470),(49,471),(50,472),(57,490)] [(22,99),(24,259),(25,347)]
def rnL:Ren:=Tp [(6,239),(14,343),(20,407),(21,408),(22,409),(23,410),(24,411),(25,412),(26,413),(27,414),(46,461),(49,464),(50,465),(57,487)] [(22,196),(24,198),(25,301)]
theorem azc:SlLaysF0.n6 Tryz.prog rnL:=by
 constructor <;> first|kernel_rfl|exact RE (by kernel_rfl) (by kernel_rfl)|(intro w;kernel_rfl)
theorem agQ:SlLaysF0.n6 Tryz.prog rnE:=by
 constructor <;> first|kernel_rfl|exact RE (by kernel_rfl) (by kernel_rfl)|(intro w;kernel_rfl)
theorem agR:SlLaysF0.n6 Tryz.prog rnT:=by
 constructor <;> first|kernel_rfl|exact RE (by kernel_rfl) (by kernel_rfl)|(intro w;kernel_rfl)
theorem Ze:Sort.SWO (kU kc) where
 irrefl:=λx=>by have:¬kc x x<0:=λh=>aqq x x h h;simpa[kU]using this
 trans:=λx y z g A=>by
  have g:kc x y<0:=by simpa[kU]using g
  have A:kc y z<0:=by simpa[kU]using A
  have:kc x z<0:=by rw[FN]at *;omega
  simpa[kU]using this
 ntrans:=λx y z g A=>by
  have g:¬kc x y<0:=by simpa[kU]using g
  have A:¬kc y z<0:=by simpa[kU]using A
  have:=aqp z y x A g;simpa[kU]using this
theorem yl(h:(Tryz.prog.funcs[f]?.bind Func.body).isSome=true):B8 Tryz.prog f:=by
 cases g:Tryz.prog.funcs[f]? with
 |none=>rw[g]at h;cases h
 |some A =>
  rw[g]at h;exact⟨A,g,h,Hi.names f A g⟩
instance:Inhabited du:=⟨(0,0,0)⟩
theorem Zf:Sort.SWO (kU la) where
 irrefl:=λx=>by have:¬la x x<0:=λh=>aqo x x h h;simpa[kU]using this
 trans:=λx y z g A=>by
  have g:la x y<0:=by simpa[kU]using g
  have A:la y z<0:=by simpa[kU]using A
  have:la x z<0:=by rw[FM]at *;omega
  simpa[kU]using this
 ntrans:=λx y z g A=>by
  have g:¬la x y<0:=by simpa[kU]using g
  have A:¬la y z<0:=by simpa[kU]using A
  have:=aqn z y x A g;simpa[kU]using this
def m8(x y:GE):Prop:=x.f<y.f\/(x.f=y.f/\x.t<y.t)
theorem JU{x y:GE}:qA x y<0↔m8 x y:=by
 unfold qA hL hL hL fY m8
 by_cases A:(x.f:Int)<y.f
 ·rw[if_pos A];simp;omega
 ·by_cases C:(y.f:Int)<x.f
  ·rw[if_neg A,if_pos C];simp;omega
  ·rw[if_neg A,if_neg C]
   by_cases g:(x.t:Int)<y.t
   ·rw[if_pos g];simp;omega
   ·by_cases B:(y.t:Int)<x.t
    ·rw[if_neg g,if_pos B];simp;omega
    ·rw[if_neg g,if_neg B];simp;omega
theorem arC:Sort.SWO (kU qA) where
 irrefl:=λx=>by
  have:¬qA x x<0:=λh=>by rw[JU]at h;unfold m8 at h;omega
  simpa[kU]using this
 trans:=λx y z g A=>by
  have g:qA x y<0:=by simpa[kU]using g
  have A:qA y z<0:=by simpa[kU]using A
  have:qA x z<0:=by rw[JU]at *;unfold m8 at *;omega
  simpa[kU]using this
 ntrans:=λx y z g A=>by
  have g:¬qA x y<0:=by simpa[kU]using g
  have A:¬qA y z<0:=by simpa[kU]using A
  have:¬qA x z<0:=by rw[JU]at *;unfold m8 at *;omega
  simpa[kU]using this
theorem anB:Gu Q 264 kb kc:=λx y h U=>au2.mono λ_ _ _ h=>h.1
theorem arD:Gu Q 298 b3 qA:=λx y h U=>au0.mono λ_ _ _ h=>h.1
theorem arE:Gu Q 240 lp la:=λx y h U=>au1.mono λ_ _ _ h=>h.1
theorem arF{h:ae}{U b n:Nat}{l:ac du}(g:l.length=n)(D:n<1000000)(B:b<U)(C:u h b=some (.cells (a7 kb l) false)):
  aD Q s 263 [.slice (some ⟨b,0,aO⟩) n cap,.func (.func 264) #[] #[]] h U (Ka kb kc l b U h):=
 Pw Hi agQ rfl (yl (by kernel_rfl)) (yl (by kernel_rfl)) Ze (λw=>by kernel_rfl) (λw=>by kernel_rfl) (k:=3) (λ_=>rfl) (λ_=>rfl) (λx v A=>by simp[kb]at A;rcases A with rfl|rfl|rfl <;> rfl) anB g D B C
theorem anC{h:ae}{U:Nat}(g:K (.tuple #[]) h U):aD Q s 263 [.slice none 0 0,.func (.func 264) #[] #[]] h U K:=YO agQ rfl (yl (by kernel_rfl)) g
theorem arG{h:ae}{U b n:Nat}{l:ac GE}(g:l.length=n)(D:n<1000000)(B:b<U)(C:u h b=some (.cells (a7 b3 l) false)):
  aD Q s 297 [.slice (some ⟨b,0,aO⟩) n cap,.func (.func 298) #[] #[]] h U (Ka b3 qA l b U h):=
 Pw Hi agR rfl (yl (by kernel_rfl)) (yl (by kernel_rfl)) arC (λw=>by kernel_rfl) (λw=>by kernel_rfl) (k:=3) (λ_=>rfl) (λ_=>rfl) (λx v A=>by simp[b3]at A;rcases A with rfl|rfl|rfl <;> rfl) arD g D B C
theorem anD{h:ae}{U:Nat}(g:K (.tuple #[]) h U):aD Q s 297 [.slice none 0 0,.func (.func 298) #[] #[]] h U K:=YO agR rfl (yl (by kernel_rfl)) g
theorem arH{h:ae}{U b n:Nat}{l:ac (Int × Int)}(g:l.length=n)(D:n<1000000)(B:b<U)(C:u h b=some (.cells (a7 lp l) false)):
  aD Q s 239 [.slice (some ⟨b,0,aO⟩) n cap,.func (.func 240) #[] #[]] h U (Ka lp la l b U h):=
 Pw Hi azc rfl (yl (by kernel_rfl)) (yl (by kernel_rfl)) Zf (λw=>by kernel_rfl) (λw=>by kernel_rfl) (k:=2) (λ_=>rfl) (λ_=>rfl) (λx v A=>by simp[lp]at A;rcases A with rfl|rfl <;> rfl) arE g D B C
theorem rd3(g:es[i]? = some e):hg (some 3) (i*3) (a7 hW es) = .ok (.agg ⟨[(e.1:X),(e.2.1:X),(e.2.2:X)]⟩):=by have A:=uN (enc:=hW) (k:=3) (λ_=>rfl) g;have B:=(g0.1 g).1;rw[qm,if_pos (by rw[fX (k:=3) (λ_=>rfl)];omega),A];rfl
theorem me{aB:Type}{enc:aB->ac X}(P:∀x,(enc x).length=k)(g:∀x,ef (enc x)=true)(D:0<k){h:ae}{U al:Nat}{v:X}{l:ac aB}(Z:dX h v enc k l al U)(B:al<=U){M L A:Nat}{E:ay Nat}{bL:ao}(x:aB)(V:u h M=some (.cells cs bL))(aX:(cs.drop L).take k=enc x)(I:(l.length+1)*k<=1000000){K:X->ae->Nat->Prop}(hm:∀C ab,dX ab C enc k (l++[x]) al (U+1)->(∀b,b<al->u ab b=u h b)->K C ab (U+1)):dm (dI (dn k h U v (.slice (some ⟨M,L,E⟩) 1 A))) K:=by obtain⟨C,ab,e,a,b⟩:=aua P g D Z B V aX I;rw[e];exact hm _ _ a b
def el{aB:Type}(h:ae)(U:Nat)(v:X)(enc:aB->ac X)(l:ac aB):Prop :=
 ∃a cap,v = .slice a l.length cap/\(l≠[]->∃b aO bL cs,b<U/\a=some ⟨b,0,aO⟩/\u h b=some (.cells (a7 enc l++cs) bL))
section
variable {aB:Type} {h ab:ae} {U Y:Nat} {v:X} {enc:aB->ac X} {l:ac aB}
theorem el.F(D:el h U v enc l)(g:aA U h ab)(I:U<=Y):el ab Y v enc l:=by obtain⟨a,cap,E,L⟩:=D;refine⟨a,cap,E,λC=>?_⟩;obtain⟨b,aO,M,cs,B,A,P⟩:=L C;exact⟨b,aO,M,cs,J,A,by rw[g b B];omega⟩
theorem el.of(C:dg h U v enc l):el h U v enc l:=by obtain⟨a,cap,D,E⟩:=C;refine⟨a,cap,D,λB=>?_⟩;obtain⟨b,aO,I,A,g,L⟩:=E B;exact⟨b,aO,I,[],A,g,aa⟩
theorem el.at(A:el h U v enc l){x:aB}(E:l[i]? = some x):
  i<l.length/\∃b aO g cap cs,b<U/\v = .slice (some ⟨b,0,aO⟩) l.length cap/\u h b=some (.cells (a7 enc l++cs) g):=by
 obtain⟨a,cap,I,B⟩:=A;obtain⟨b,aO,g,cs,C,rfl,D⟩:=B aa
 grind
theorem tZ(g:∀x,(enc x).length=k){e:aB}(B:l[i]? = some e):hg (some k) (i*k) (a7 enc l++cs) = .ok (.agg ⟨enc e⟩):=by
 have C:=uN  g B;have D:=fX  g (l:=l);have A:(i+1)*k<=l.length*k:=aa
 rw[xR,s9]at A;rw[qm,if_pos aa,Ix J,Iy aa,C]
theorem wz{j:Nat}(g:∀x,(enc x).length=k){e:aB}(A:l[i]? = some e)(C:j<k):(a7 enc l++cs)[i*k+j]? = (enc e)[j]?:=by have D:=(g0.1 A).1;have E:=fX  g (l:=l);have B:(i+1)*k<=l.length*k:=ph k D;rw[xR,s9]at B;rw[uw J,E7 g A C]
end
def qB(n:Int)(e:hF):Prop:=e.1<0\/n<=e.1\/e.2.1<0\/n<=e.2.1
def vd(e:hF):Prop:=e.2.2<0\/2147483647<e.2.2
instance (n:Int) (e:hF):Decidable (qB n e):=inferInstanceAs (Decidable (_\/_))
instance (e:hF):Decidable (vd e):=inferInstanceAs (Decidable (_\/_))
def CD(n:Int)(es:ac hF):Prop:=0<=n/\n<=4096/\es.length<=65536/\(∀e∈es,¬qB n e)/\∀e∈es,¬vd e
def azd{aB:Type}(p:aB->ao)(es:ac aB)(eG:ae->Nat->Prop)(v qV:X)(m:Nat)(aJ:ac X)(ab:ae)(Y:Nat):Prop:=∃i,m=es.length-i/\i<=es.length/\aJ=[v,qV,.int .i64 0,(es.length:X),(i:X)]/\eG ab Y/\∀x∈es.take i,p x=false
theorem arI{aB:Type}{enc:aB->ac X}(I:∀x,(enc x).length=3){v:X}{es:ac aB}{h:ae}{U:Nat}(p:aB->ao)(eG:ae->Nat->Prop)(o9:∀ab Y,eG ab Y->el ab Y v enc es)(aq:eG h U)(br:es.length<=65536)(bD:∀g∈es,∀ab Y (K:bZ),eG ab Y->(∀(b:ao) L A,b=p g->eG L A->K (.bool b) L A)->fg Q s (hV ab Y [.agg ⟨enc g⟩] qV) K):
  aD Q s 255 [v,qV] h U (λr ab Y=>eG ab Y/\((r = .int .i64 (-1)/\∀x∈es,p x=false)\/∃(i:Nat) (x:aB),r = (i:X)/\es[i]? = some x/\p x=true/\∀y∈es.take i,p y=false)):=by
 refine auC ?_;unfold index;obtain⟨a,cap,rfl,a5⟩:=id (o9 _ _ aq);refine aE ?_;refine bF.mk (azd p es eG (.slice a es.length cap) qV) es.length ⟨0,J,J,rfl,aq,by simp⟩ ?_;rintro m _ ab Y ⟨i,rfl,aj,rfl,P,M⟩;rw[aqY];unfold aa1;refine aE ?_;refine⟨λE=>?_,λE=>?_⟩
 ·obtain⟨x,V⟩:=dW E;obtain⟨_,b,aO,bL,Z,cs,sJ,C,D⟩:=(o9 _ _ P).at V;cases C;simp(disch:=omega)only[bk,D,tZ   I V,seval];refine bD x aa ab Y _ P (λcr L A a1 B=>?_);subst a1;refine bf (cF (J:i<1000000000000)) ?_;refine⟨λbn=>⟨B,aa⟩,λbn=>⟨es.length-(i+1),J,i+1,rfl,E,rfl,B,λy cd=>?_⟩⟩;rw[hq,V]at cd
  grind
 ·have:i=es.length:=J
  subst this;rw[hB]at M;exact⟨P,aa⟩
theorem abv{v:X}{h:ae}{U:Nat}(p:hF->ao)(aI:el h U v hW es)(V:es.length<=65536)(bD:∀g∈es,∀ab Y (K:bZ),aA U h ab->U<=Y->(∀(b:ao) B A,b=p g->aA Y ab B->Y<=A->K (.bool b) B A)->fg Q s (hV ab Y [.agg ⟨hW g⟩] qV) K):
  aD Q s 164 [v,qV] h U (λr ab Y=>r = .bool (es.any p)/\aA U h ab/\U<=Y):=by
 refine auB ?_;refine(arI  (λ_=>rfl) p (λab Y=>aA U h ab/\U<=Y) (λab Y I=>aI.F I.1 I.2) aF V (λg Z ab Y K E hm=>bD g Z ab Y K E.1 E.2 (λb B A P dM D=>hm b B A P aF))).mono ?_;rintro r ab Y ⟨⟨L,C⟩,⟨rfl,qH⟩|⟨i,x,rfl,aX,M,_⟩⟩
 ·refine aE ?_;exact aF
 ·refine aE ?_;exact⟨by rw[uA.2 ⟨x,k1 aX,M⟩];simp,L,C⟩
def wM(n:Int)(e:hF):ao:=(decide (e.1<0)||!decide (e.1<n))||(decide (e.2.1<0)||!decide (e.2.1<n))
theorem Jy:wM n e=true↔qB n e:=by
 unfold wM qB
 grind
def AE(e:hF):ao:=decide (e.2.2<0)||decide (2147483647<e.2.2)
theorem Jz:AE e=true↔vd e:=by
 unfold AE vd
 grind
def agS(p:hF->Prop)(n:Int)(es:ac hF)(v w:X)(U:Nat)(h:ae)(m:Nat)(aJ:ac X)(ab:ae)(Y:Nat):Prop :=
 ∃i:Nat,m=es.length-i/\i<=es.length/\aJ=[bb U,w,(i:X)]/\u ab U=some (.cells [(n:X),v] false)/\aA U h ab/\U+1<=Y/\∀x∈es.take i,¬p x
theorem abw{p:hF->Prop}{x:hF}(A:es[i]? = some x)(h:∀y∈es.take i,¬p y)(B:¬p x):∀y∈es.take (i+1),¬p y:=λy g=>by
 rw[hq,A]at g
 grind
def ol(e:hF):GE:=⟨e.1.toNat,e.2.1.toNat,e.2.2⟩
theorem CD.Tq(h:CD n es):∃N:Nat,n=(N:Int)/\N<=4096/\a7 hW es=a7 b3 (es.map ol)/\∀g∈es.map ol,gQ N g:=by
 obtain⟨Z,V,aH,L,M⟩:=h;refine⟨n.toNat,J,J,?_,λg E=>?_⟩
 ·have:∀l:ac hF,(∀e∈l,¬qB n e)->a7 hW l=a7 b3 (l.map ol):=by
   intro l
   induction l with
   |nil=>intro _;rfl
   |cons x l D =>
    intro B;show hW x++a7 hW l=b3 (ol x)++a7 b3 (l.map ol);have P:=B x (pi ..);unfold qB at P;rw[D (λe A=>B e (nT _ A))]
    congr 1
    unfold hW b3 ol
    grind
  grind
 ·obtain⟨e,A,rfl⟩:=gO.1 E;have I:=L e A;have C:=M e A;unfold qB at I;unfold vd at C;refine⟨?_,?_,?_,?_⟩
  ·show e.1.toNat<n.toNat;omega
  ·show e.2.1.toNat<n.toNat;omega
  ·show 0<=e.2.2;omega
  ·show e.2.2<=2147483647;omega
theorem el.map{h:ae}{U:Nat}{v:X}{es:ac hF}(g:el h U v hW es)(e:a7 hW es=a7 b3 (es.map ol)):el h U v b3 (es.map ol):=by
 obtain⟨a,cap,I,A⟩:=g;refine⟨a,cap,aa,λD=>?_⟩;obtain⟨b,aO,L,cs,C,B,E⟩:=A aa
 grind
def Ve:GE:=⟨0,0,0⟩
theorem Tr{h:ae}{b:Nat}{m:ac GE}{x:GE}(g:i<m.length):iW (some (.cells (a7 b3 m) false)) h b (i*3) [(x.f:X),(x.t:X),(x.w:X)] = .ok (T h b (.cells (a7 b3 (m.set i x)) false)):=by show R.of _ (mS (b3 x) (a7 b3 m) (i*3)) _=_;rw[YL (k:=3) (λ_=>rfl) x g];rfl
theorem xa{aB:Type}{enc:aB->ac X}{l:ac aB}(g:∀x,(enc x).length=k){e:aB}(A:l[i]? = some e):hg (some k) (i*k) (a7 enc l) = .ok (.agg ⟨enc e⟩):=by
 have:=tZ g A (cs:=[])
 grind
def df(g:GE):du:=((g.f:Int),(g.t:Int),g.w)
def By(x:du):GE:=⟨x.1.toNat,x.2.1.toNat,x.2.2⟩
theorem PO:∀l:ac GE,a7 b3 l=a7 kb (l.map df)
 | []=>rfl
 |x::l=>by show b3 x++a7 b3 l=kb (df x)++a7 kb (l.map df);rw[PO l];rfl
theorem Od(g:0<=n)(A:n<2147483648):Cy n=true:=by
 obtain⟨m,rfl⟩:=Int.eq_ofNat_of_zero_le g;show Nat.blt m 2147483648=true;rw[oI]
 grind
theorem Zg{N:Nat}{g:GE}(A:N<=2147483648)(h:gQ N g):lK (df g):=⟨Od (by show(0:Int)<=(g.f:Int);omega) (by have:=h.1;show((g.f:Int))<_;omega),Od (by show(0:Int)<=(g.t:Int);omega) (by have:=h.2.1;show((g.t:Int))<_;omega),Od h.2.2.1 (by have:=h.2.2.2;show g.w<_;omega)⟩
def Ends(x y:du):Prop:=x.1=y.1/\x.2.1=y.2.1
theorem WL(e:du):∀(l:ac du),(∀x∈iJ e l,∃y∈e::l,Ends x y)/\∀y∈e::l,∃x∈iJ e l,Ends x y
 | []=>⟨λx A=>⟨x,A,rfl,rfl⟩,λy g=>⟨y,g,rfl,rfl⟩⟩
 |z::l=>by
  obtain⟨I,D⟩:=WL e l;have E:iJ e (z::l)=(bif ga z.1 e.1&&ga z.2.1 e.2.1 then(z.1,z.2.1,bif lo e.2.2 z.2.2 then e.2.2 else z.2.2)::l else z::iJ e l):=rfl;rw[E];cases C:(ga z.1 e.1&&ga z.2.1 e.2.1)with
  |true =>
   simp only[eA,k3,uC]at C;simp only[ql];refine⟨λx A=>?_,λy g=>?_⟩
   ·rcases hD.1 A with rfl|A
    ·exact⟨z,by simp,rfl,rfl⟩
    ·exact⟨x,aa,rfl,rfl⟩
   ·rcases hD.1 g with rfl|g
    ·exact⟨_,pi ..,C.1,C.2⟩
    ·rcases hD.1 g with rfl|g
     ·exact⟨_,pi ..,rfl,rfl⟩
     ·exact⟨y,aa,rfl,rfl⟩
  |false =>
   simp only[mN];refine⟨λx A=>?_,λy g=>?_⟩
   ·rcases hD.1 A with rfl|A
    ·exact⟨x,by simp,rfl,rfl⟩
    ·obtain⟨y,g,B⟩:=I x A;refine⟨y,?_,B⟩
     grind
   ·rcases hD.1 g with rfl|g
    ·obtain⟨x,A,B⟩:=D y aa;exact⟨x,aa,B⟩
    ·rcases hD.1 g with rfl|g
     ·exact⟨y,aa,rfl,rfl⟩
     ·obtain⟨x,A,B⟩:=D y aa;exact⟨x,aa,B⟩
theorem WM:∀(l g:ac du),(∀x∈ii g l,∃y∈g++l,Ends x y)/\∀y∈g++l,∃x∈ii g l,Ends x y
 | [],g=>⟨λx E=>⟨x,by simpa[ii]using E,rfl,rfl⟩,λy A=>⟨y,by simpa[ii]using A,rfl,rfl⟩⟩
 |e::l,g=>by
  obtain⟨Z,M⟩:=WM l (iJ e g);obtain⟨aH,P⟩:=WL e g;refine⟨λx E=>?_,λy A=>?_⟩
  ·obtain⟨y,A,C⟩:=Z x E;rcases hs.1 A with A|A
   ·obtain⟨z,L,B⟩:=aH y A;refine⟨z,?_,C.1.trans B.1,C.2.trans B.2⟩
    grind
   ·exact⟨y,aa,C⟩
  ·have D:∀z∈e::g,∃x∈ii (iJ e g) l,Ends x z:=λz L=>by obtain⟨x,E,C⟩:=P z L;obtain⟨V,I,B⟩:=M x aa;exact⟨V,I,B.1.trans C.1,B.2.trans C.2⟩
   rcases hs.1 A with A|A
   ·exact D y aa
   ·rcases hD.1 A with rfl|A
    ·exact D _ aa
    ·exact M y aa
end Go.Proofs.YthlhhajnbgjfmaaGreat
