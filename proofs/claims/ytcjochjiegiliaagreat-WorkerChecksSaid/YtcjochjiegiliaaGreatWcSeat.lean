/- Parts of the proof: WcSeat: each statement zDz its own conditions. -/
import Derived.Test.YtcjochjiegiliaaGreatProg
import Derived.KernelRfl
import Derived.Shelf.SlGeneric
import Derived.Test.YtcjochjiegiliaaGreatRows
import Derived.WalkKit
import Derived.ProofKit
import Derived.OpenShut
import Derived.ChangeOld
import Derived.Below
import Derived.Test.YtcjochjiegiliaaGreatWcLive
namespace Go.Proofs.YtcjochjiegiliaaGreat
open Go Go.Ax
set_option maxRecDepth 1000000
theorem mixed:Tryz.prog.follows .mixedOrders=true:=by kernel_rfl
theorem fitAll:Tryz.prog.funcs.toList.all zGd=true:=by kernel_rfl
theorem pok:POk Tryz.prog:=POk.of mixed fitAll
theorem c139:zK Tryz.prog 315=some (zST 3 367):=by kernel_rfl
theorem c176:zK Tryz.prog 367=some (zO6 3):=by kernel_rfl
theorem c107:zK Tryz.prog 314=some cfOr:=by kernel_rfl
theorem c68:zK Tryz.prog 307=some (zGt 291 364 352 356 365 366 43):=by kernel_rfl
theorem c80:zK Tryz.prog 291=some (cfIs 259):=by kernel_rfl
theorem c81:zK Tryz.prog 364=some (cfOf 251):=by kernel_rfl
theorem c83:zK Tryz.prog 356=some (zE8 414):=by kernel_rfl
theorem c104:zK Tryz.prog 414=some (zCT 364 251):=by kernel_rfl
theorem c101:zK Tryz.prog 411=some (zDV 448 251):=by kernel_rfl
theorem c85:zK Tryz.prog 366=some (zLb 419 420 314):=by kernel_rfl
theorem w112:zHC Tryz.prog 251=some (some 2):=by kernel_rfl
def addR (c:Option CF):CC × CC × CC:=match c with
 | some { body:=.seq _ (.seq (.seq _ (.block _ (.seq (.seq _ (.cond _ _ r1)) (.cond _ _ r2)))) r3),res:=_ }=>(r1,r2,r3)
 | _=>(.skip,.skip,.skip)
theorem c82:zK Tryz.prog 352=some (zSU 411 259 251 (addR (zK Tryz.prog 352)).1 (addR (zK Tryz.prog 352)).2.1 (addR (zK Tryz.prog 352)).2.2):=by kernel_rfl
theorem c127:zK Tryz.prog 448=some (zO5 420 472 314):=by kernel_rfl
theorem c108:zK Tryz.prog 419=some (zO5 315 315 314):=by kernel_rfl
set_option linter.unusedVariables false
theorem n139:zF0 Tryz.prog orc0 .i64 315:=fun s a b h nx=>zNR c139 rfl c176 rfl a b
def lenIs (n m:Nat):Prop:=∀ (h:Hp) (nx:Nat),zR Tryz.prog orc0 (cexA Tryz.prog orc0 30) 313 [.int .u64 (.ofNat n)] h nx = .ok (.int .i64 (.ofNat m)) h nx
theorem len4:lenIs 4 3:=fun h nx=>by kernel_rfl
theorem c109:zK Tryz.prog 420=some (zST 2 460):=by kernel_rfl
theorem c140:zK Tryz.prog 460=some (zO6 2):=by kernel_rfl
theorem c170:zK Tryz.prog 472=some (zST 221 480):=by kernel_rfl
theorem c218:zK Tryz.prog 480=some (zO6 221):=by kernel_rfl
theorem n109:zF0 Tryz.prog orc0 .i64 420:=fun s a b h nx=>zNR c109 rfl c140 rfl a b
theorem edge_cmp:zSr Tryz.prog orc0 366 encE cmpE:=order_ok c85 rfl c108 rfl n139 n109 c107 rfl
set_option maxRecDepth 2147483648
set_option linter.unusedSimpArgs false
theorem u28:Tryz.prog.underlying 43=some (.array 2 3):=by kernel_rfl
theorem u3:Tryz.prog.underlying 3=some (.int .i64):=by kernel_rfl
theorem k28:Tryz.prog.keyTypeAt 8 43=true:=by kernel_rfl
theorem c28:Tryz.prog.cellsOf 43=2:=by kernel_rfl
theorem c3:Tryz.prog.cellsOf 3=1:=by kernel_rfl
theorem zJC {k:IntKind} (hk:k = .i64∨k = .u64) {m:Nat} (h:m<4294967296):(Lit.int k (m:Int)).wf=true:=by
 rcases hk with rfl | rfl <;> simp [Lit.wf,IntKind.min,IntKind.max,IntKind.bits,IntKind.signed] <;> omega
theorem lits28 {a b:Nat} (ha:a<2147483648) (hb:b<2147483648):Tryz.prog.keyLits 8 43 [.int .i64 (a:Int),.int .i64 (b:Int)]=some [.int .i64 (a:Int),.int .i64 (b:Int)]:=by
 have w1:=zJC (k:=.i64) (.inl rfl) (show a<4294967296 by omega)
 have w2:=zJC (k:=.i64) (.inl rfl) (show b<4294967296 by omega)
 have one:∀ m:Nat,m<4294967296→Tryz.prog.keyLits 7 3 [.int .i64 (m:Int)]=some [.int .i64 (m:Int)]:=fun m hm=>by
  unfold Program.keyLits;simp only [u3,zJC (k:=.i64) (.inl rfl) hm,and_self,if_true]
 unfold Program.keyLits;simp only [u28,c28,c3,List.length_cons,List.length_nil,Nat.reduceAdd,if_true];rw [show List.range 2=[0,1] from rfl];simp only [List.mapM_cons,List.mapM_nil,Nat.zero_mul,Nat.one_mul,List.drop_zero,List.drop_succ_cons,List.take_succ_cons,List.take_zero,one a (by omega),one b (by omega)];rfl
theorem key_at:zOi Tryz.prog 43:=fun x y hx hy=>by
 obtain ⟨a,b,c⟩:=x;obtain ⟨d,e,f⟩:=y;obtain ⟨w1,h1,h2⟩:=zAS hx.1;obtain ⟨w2,h3,h4⟩:=zAS hx.2.1;obtain ⟨w3,h5,h6⟩:=zAS hy.1;obtain ⟨w4,h7,h8⟩:=zAS hy.2.1;simp only at h1 h3 h5 h7;subst h1 h3 h5 h7;show eqK Tryz.prog 43 (.agg ⟨[.int .i64 (w1:Int),.int .i64 (w2:Int)]⟩) (.agg ⟨[.int .i64 (w3:Int),.int .i64 (w4:Int)]⟩)=_;have f1:∀ a b:Int,(Value.agg ⟨[.int .i64 a,.int .i64 b]⟩).formed Tryz.prog 43=true:=fun a b=>by
  simp [Value.formed,u28,c28]
 unfold eqK;rw [k28,f1,f1];show (bif true&&(true&&true&&true&&true) then eqL (Tryz.prog.keyLits 8 43 [.int .i64 (w1:Int),.int .i64 (w2:Int)]) (Tryz.prog.keyLits 8 43 [.int .i64 (w3:Int),.int .i64 (w4:Int)]) else none)=_;rw [lits28 h2 h4,lits28 h6 h8];show some ((keq .i64 .i64&&ieq w1 w3)&&((keq .i64 .i64&&ieq w2 w4)&&true))=some (ieq w3 w1&&ieq w4 w2);rw [zBp,zAB,zAB,zAB,zAB]
 congr 1
 simp only [Bool.true_and,Bool.and_true];rw [Bool.beq_comm (a:=(w1:Int)),Bool.beq_comm (a:=(w2:Int))]
def fHi:Field:={ name := "Hi",type:=2,offset:=0,embedded:=false,tag := "",pkgPath := "",byteOffset:=0 }
def fLo:Field:={ name := "Lo",type:=221,offset:=1,embedded:=false,tag := "",pkgPath := "",byteOffset:=8 }
theorem u112:Tryz.prog.underlying 251=some (.struct #[fHi,fLo]):=by kernel_rfl
theorem u2:Tryz.prog.underlying 2=some (.int .i64):=by kernel_rfl
theorem u110:Tryz.prog.underlying 221=some (.int .u64):=by kernel_rfl
theorem k112:Tryz.prog.keyTypeAt 8 251=true:=by kernel_rfl
theorem ng112:zEn Tryz.prog 251=true:=by kernel_rfl
theorem c112:Tryz.prog.cellsOf 251=2:=by kernel_rfl
theorem c2:Tryz.prog.cellsOf 2=1:=by kernel_rfl
theorem c110:Tryz.prog.cellsOf 221=1:=by kernel_rfl
theorem zLG {n:Nat} (hn:n<4294967296):Tryz.prog.keyLits 8 251 (zD n)=some [.int .i64 0,.int .u64 (n:Int)]:=by
 have w0:(Lit.int .i64 0).wf=true:=zJC (k:=.i64) (m:=0) (.inl rfl) (by omega)
 have w1:=zJC (k:=.u64) (.inr rfl) hn;have one:Tryz.prog.keyLits 7 2 [.int .i64 0]=some [.int .i64 0]:=by
  unfold Program.keyLits;simp only [u2,w0,and_self,if_true]
 have two:Tryz.prog.keyLits 7 221 [.int .u64 (n:Int)]=some [.int .u64 (n:Int)]:=by
  unfold Program.keyLits;simp only [u110,w1,and_self,if_true]
 unfold Program.keyLits;simp only [u112,c112,zD,List.length_cons,List.length_nil,Nat.reduceAdd];rw [if_pos ⟨trivial,by kernel_rfl⟩];show Option.map List.flatten (List.mapM (fun f:Field=>Tryz.prog.keyLits 7 f.type (List.take (Tryz.prog.cellsOf f.type) (List.drop f.offset [.int .i64 0,.int .u64 (n:Int)]))) [fHi,fLo])=_;simp only [List.mapM_cons,List.mapM_nil,show fHi.type=2 from rfl,show fLo.type=221 from rfl,show fHi.offset=0 from rfl,show fLo.offset=1 from rfl,c2,c110,List.drop_zero,List.drop_succ_cons,List.take_succ_cons,List.take_zero,one,two];rfl
theorem wide_neq (n:Nat) (hn:n<4294967296):bin Tryz.prog .neq 251 (.agg ⟨zD n⟩) (.agg ⟨zD n⟩) = .ok (.bool false):=by
 show R.of "compared" (bif zEn Tryz.prog 251 then eqK Tryz.prog 251 (.agg ⟨zD n⟩) (.agg ⟨zD n⟩) else none) (fun b=>zCc (!b))=_;have f1:(Value.agg ⟨zD n⟩).formed Tryz.prog 251=true:=by
  simp [Value.formed,u112,c112,zD]
 unfold eqK;rw [ng112,k112,f1];show R.of "compared" (bif true&&(true&&true&&true&&true) then eqL (Tryz.prog.keyLits 8 251 (zD n)) (Tryz.prog.keyLits 8 251 (zD n)) else none) (fun b=>zCc (!b))=_;rw [zLG hn];show R.ok (Value.bool (!((keq .i64 .i64&&ieq 0 0)&&((keq .u64 .u64&&ieq n n)&&true))))=_;rw [zBp,zBp,zAB,zAB];simp
theorem wide_at:zD7 Tryz.prog 251:=w112
open Go Go.Ax Go.Shelf Go.Proofs
theorem zDz {P:Program} {f:FuncId} {B:Func} (h:P.funcs[f]? = some { B with name:=(P.funcs[f]?.getD default).name }) (hn:((P.funcs[f]?.getD default).name == "runtime.NumGoroutine")=false):Bears P f B:=⟨_,hn,h⟩
def tb (l:List (Nat × Nat)) (n:Nat):Nat:=(l.lookup n).getD n
def rnC (f t:List (Nat × Nat)):Ren:=⟨tb (f++[(15,313),(28,376),(29,377),(47,422),(48,423)]),tb (t++[(3,3),(39,236),(0,0),(53,148),(55,221),(4,4),(46,394),(45,393),(50,398),(5,5),(9,9),(66,439),(70,443),(76,473),(77,280)]),id⟩
def rnE:Ren:=rnC [(6,365),(14,418),(20,452),(21,453),(22,454),(23,455),(24,456),(25,457),(26,458),(27,459),(46,473),(49,474),(50,475),(57,481)] [(22,26),(24,84),(25,391)]
def rnT:Ren:=rnC [(6,240),(14,312),(20,368),(21,369),(22,370),(23,371),(24,372),(25,373),(26,374),(27,375),(46,421),(49,424),(50,425),(57,461)] [(22,90),(24,193),(25,286)]
theorem layE:SlLaysF0.n6 Tryz.prog rnE:=by
 constructor <;> first | kernel_rfl | exact zDz (by kernel_rfl) (by kernel_rfl) | (intro w; kernel_rfl)
theorem layT:SlLaysF0.n6 Tryz.prog rnT:=by
 constructor <;> first | kernel_rfl | exact zDz (by kernel_rfl) (by kernel_rfl) | (intro w; kernel_rfl)
theorem zNG:Sort.SWO (ltC cmpE) where
 irrefl:=fun x=>by
  have:¬ cmpE x x<0:=fun h=>zSK x x h h;simpa [ltC] using this
 trans:=fun x y z h1 h2=>by
  have h1:cmpE x y<0:=by simpa [ltC] using h1
  have h2:cmpE y z<0:=by simpa [ltC] using h2
  have:cmpE x z<0:=by rw [zGs] at *; omega
  simpa [ltC] using this
 ntrans:=fun x y z h1 h2=>by
  have h1:¬ cmpE x y<0:=by simpa [ltC] using h1
  have h2:¬ cmpE y z<0:=by simpa [ltC] using h2
  have:=zSJ z y x h2 h1;simpa [ltC] using this
theorem zNU {f:Nat} (h:(Tryz.prog.funcs[f]?.bind Func.body).isSome=true):zAs Tryz.prog f:=by
 cases hf:Tryz.prog.funcs[f]? with
 | none=>rw [hf] at h; cases h
 | some fn =>
  rw [hf] at h;exact ⟨fn,hf,h,pok.names f fn hf⟩
instance:Inhabited Edg:=⟨(0,0,0)⟩
theorem sortE_ok:zKY Tryz.prog 365 (zHN encE cmpE 366) :=
 zMy pok layE rfl (zNU (by kernel_rfl)) (zNU (by kernel_rfl)) zNG (fun w=>by kernel_rfl) (fun w=>by kernel_rfl) (k:=3) (fun _=>rfl) (fun _=>rfl) (fun x v hv=>by simp [encE] at hv; rcases hv with rfl | rfl | rfl <;> rfl) edge_cmp
noncomputable def orcS:Orc:=fun f=>bif Nat.beq f 365 then some (zHN encE cmpE 366) else none
theorem orcS_ok:zF8 Tryz.prog orcS:=fun f g h=>by
 unfold orcS at h;cases h1:Nat.beq f 365 with
 | true =>
  have e:=Nat.eq_of_beq_eq_true h1;subst e;rw [h1] at h;cases h;exact sortE_ok
 | false=>rw [h1] at h; cases h
theorem zOp:zFG Tryz.prog orcS 448:=zNe c127 rfl (fun s a b h nx=>zNR c109 rfl c140 rfl a b) (fun s a b h nx=>zNR c170 rfl c218 rfl a b) c107 rfl
theorem combF_at:CombF Tryz.prog orcS 307 291 364 352 356 365 366 411 448 414 259 251 43 (addR (zK Tryz.prog 352)).1 (addR (zK Tryz.prog 352)).2.1 (addR (zK Tryz.prog 352)).2.2 where
 cf:=c68
 no:=rfl
 is:=c80
 nis:=rfl
 of:=c81
 nof:=rfl
 ad:=c82
 nad:=rfl
 le:=c101
 nle:=rfl
 na:=c83
 nna:=rfl
 wn:=c104
 nwn:=rfl
 w:=wide_at
 c:=zOp
 k:=key_at
 eq:=wide_neq
 S:=fun l h nx b n cap sp hl hn hb hh=>zMz rfl zNG (k:=3) (fun _=>rfl) (by decide) (fun x y h=>by simp [encE] at h; exact Prod.ext h.1 (Prod.ext h.2.1 h.2.2)) hl (by omega) hb hh
 S0:=fun h nx=>zJo rfl ⟨rfl,rfl⟩
theorem combF_ok:zKY Tryz.prog 307 zFW:=zRU pok orcS_ok combF_at
theorem a24:zHC Tryz.prog 28=some (some 2):=by kernel_rfl
open Go.ChangeShapes Go.WideShapes Go.ChangeAt Go.RowKit
theorem own:ownKnob Tryz.prog.godebug=none:=by kernel_rfl
theorem laidOut:laidOutB Tryz.prog=true:=by kernel_rfl
def fG:Field:={ name := "G",type:=28,offset:=0,embedded:=false,tag := "",pkgPath := "",byteOffset:=0 }
def fC:Field:={ name := "C",type:=5,offset:=4,embedded:=false,tag := "",pkgPath := "",byteOffset:=41 }
def fN:Field:={ name := "N",type:=3,offset:=0,embedded:=false,tag := "",pkgPath := "",byteOffset:=0 }
def fEdges:Field:={ name := "Edges",type:=26,offset:=1,embedded:=false,tag := "",pkgPath := "",byteOffset:=8 }
def fFrom:Field:={ name := "From",type:=3,offset:=0,embedded:=false,tag := "",pkgPath := "",byteOffset:=0 }
def fTo:Field:={ name := "To",type:=3,offset:=1,embedded:=false,tag := "",pkgPath := "",byteOffset:=8 }
def fW:Field:={ name := "W",type:=2,offset:=2,embedded:=false,tag := "",pkgPath := "",byteOffset:=16 }
theorem u24:Tryz.prog.underlying 28=some (.struct #[fN,fEdges]):=by kernel_rfl
theorem u52:Tryz.prog.underlying 84=some (.struct #[fFrom,fTo,fW]):=by kernel_rfl
theorem u22:Tryz.prog.underlying 26=some (.slice 84):=by kernel_rfl
theorem u5:Tryz.prog.underlying 5=some (.int .u8):=by kernel_rfl
theorem u4:Tryz.prog.underlying 4=some .bool:=by kernel_rfl
theorem n24:Tryz.prog.cellsOf 28=2:=by kernel_rfl
theorem n52:Tryz.prog.cellsOf 84=3:=by kernel_rfl
theorem n22:Tryz.prog.cellsOf 26=1:=by kernel_rfl
theorem n5:Tryz.prog.cellsOf 5=1:=by kernel_rfl
theorem tri52:Tri Tryz.prog 84:=⟨⟨_,fFrom,fTo,fW,u52,rfl,rfl,rfl,rfl,rfl,rfl,u3,u3,u2,c3,c3,c2⟩,n52⟩
section
variable {H:Type} {enc:TypeId × Value→H} {w:World} {sp:Nat→Bool}
end
end Go.Proofs.YtcjochjiegiliaaGreat
