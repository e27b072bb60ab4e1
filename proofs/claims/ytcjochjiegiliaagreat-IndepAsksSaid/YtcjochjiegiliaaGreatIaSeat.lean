/- Parts of the proof: IaSeat: each statement bears its own conditions. -/
import Derived.Test.YtcjochjiegiliaaGreatProg
import Derived.KernelRfl
import Derived.Test.YtcjochjiegiliaaGreatRows
import Derived.WalkKit
import Derived.ProofKit
import Derived.OpenShut
import Derived.ChangeOld
import Derived.Below
import Derived.Test.YtcjochjiegiliaaGreatIaLive
namespace Go.Proofs.YtcjochjiegiliaaGreat
open Go Go.Ax
set_option maxRecDepth 1000000
theorem mixed:Tryz.prog.follows .mixedOrders=true:=by kernel_rfl
theorem fitAll:Tryz.prog.funcs.toList.all zGx=true:=by kernel_rfl
theorem pok:POk Tryz.prog:=POk.of mixed fitAll
theorem c76:zD Tryz.prog 163=some (zNb 204 255):=by kernel_rfl
theorem c96:zD Tryz.prog 255=some (zDV 296):=by kernel_rfl
theorem p118:zBA Tryz.prog 204=true:=by kernel_rfl
theorem p151:zBA Tryz.prog 296=true:=by kernel_rfl
theorem c251:zD Tryz.prog 219=some zEl:=by kernel_rfl
theorem sent_ok:zF2 Tryz.prog 163 gSent:=gSent_ok pok c76 p118 c96 p151
theorem zOg:zF2 Tryz.prog 219 zFz:=zL5 pok c251
theorem c121:zD Tryz.prog 266=some (zIy 267 331 332):=by kernel_rfl
theorem c122:zD Tryz.prog 267=some (zEm 296):=by kernel_rfl
theorem c160:zD Tryz.prog 331=some (zHy 313 394):=by kernel_rfl
theorem c208:zD Tryz.prog 394=some (cfPdq 432 (zQe (zD Tryz.prog 394))):=by kernel_rfl
theorem c253:zD Tryz.prog 432=some (zSR 2):=by kernel_rfl
theorem c161:zD Tryz.prog 332=some (zHJ 315 314):=by kernel_rfl
theorem c139:zD Tryz.prog 315=some (zOo 3 367):=by kernel_rfl
theorem c176:zD Tryz.prog 367=some (zLx 3):=by kernel_rfl
theorem c107:zD Tryz.prog 314=some cfOr:=by kernel_rfl
theorem c68:zD Tryz.prog 307=some (zDU 291 364 352 356 365 366 43):=by kernel_rfl
theorem c80:zD Tryz.prog 291=some (cfIs 259):=by kernel_rfl
theorem c81:zD Tryz.prog 364=some (cfOf 251):=by kernel_rfl
theorem c83:zD Tryz.prog 356=some (zDi 414):=by kernel_rfl
theorem c104:zD Tryz.prog 414=some (zBz 364 251):=by kernel_rfl
theorem c101:zD Tryz.prog 411=some (zCx 448 251):=by kernel_rfl
theorem c84:zD Tryz.prog 365=some (zHy 313 418):=by kernel_rfl
theorem c105:zD Tryz.prog 418=some (cfPdq 452 (zQe (zD Tryz.prog 418))):=by kernel_rfl
theorem c129:zD Tryz.prog 452=some (zSR 3):=by kernel_rfl
theorem c85:zD Tryz.prog 366=some (zLw 419 420 314):=by kernel_rfl
theorem w112:zH3 Tryz.prog 251=some (some 2):=by kernel_rfl
def addR (c:Option CF):CC × CC × CC:=match c with
 | some { body:=.seq _ (.seq (.seq _ (.block _ (.seq (.seq _ (.cond _ _ r1)) (.cond _ _ r2)))) r3),res:=_ }=>(r1,r2,r3)
 | _=>(.skip,.skip,.skip)
theorem c82:zD Tryz.prog 352=some (zOp 411 259 251 (addR (zD Tryz.prog 352)).1 (addR (zD Tryz.prog 352)).2.1 (addR (zD Tryz.prog 352)).2.2):=by kernel_rfl
theorem c127:zD Tryz.prog 448=some (zOm 420 472 314):=by kernel_rfl
theorem c108:zD Tryz.prog 419=some (zOm 315 315 314):=by kernel_rfl
set_option linter.unusedVariables false
theorem n139:zEs Tryz.prog orc0 .i64 315:=fun s a b h nx=>zKV c139 rfl c176 rfl a b
theorem lnk_cmp:zKj Tryz.prog orc0 332 encL cmpL:=zOX c161 rfl c139 rfl c176 rfl c107 rfl
def zQ (n m:Nat):Prop:=∀ (h:Hp) (nx:Nat),zb Tryz.prog orc0 (cexA Tryz.prog orc0 30) 313 [.int .u64 (.ofNat n)] h nx = .ok (.int .i64 (.ofNat m)) h nx
theorem len0:zQ 0 0:=fun h nx=>by kernel_rfl
theorem len1:zQ 1 1:=fun h nx=>by kernel_rfl
theorem len2:zQ 2 2:=fun h nx=>by kernel_rfl
theorem len3:zQ 3 2:=fun h nx=>by kernel_rfl
theorem len4:zQ 4 3:=fun h nx=>by kernel_rfl
theorem len5:zQ 5 3:=fun h nx=>by kernel_rfl
theorem len6:zQ 6 3:=fun h nx=>by kernel_rfl
theorem len7:zQ 7 3:=fun h nx=>by kernel_rfl
theorem len8:zQ 8 4:=fun h nx=>by kernel_rfl
theorem len9:zQ 9 4:=fun h nx=>by kernel_rfl
theorem len10:zQ 10 4:=fun h nx=>by kernel_rfl
theorem len11:zQ 11 4:=fun h nx=>by kernel_rfl
theorem len12:zQ 12 4:=fun h nx=>by kernel_rfl
theorem zCf {n m:Nat} (hl:zQ n m) (s:Bool) (h:Hp) (nx:Nat):Cv Tryz.prog orc0 s 313 [.int .u64 (n:Int)] h nx (fun _ h' nx'=>h'=h∧nx'=nx):=by
 refine ⟨30,?_⟩;have e:=hl h nx;rw [show ((n:Int))=Int.ofNat n from rfl,e];exact satC_ok.2 ⟨rfl,rfl⟩
theorem len_ok (s:Bool) (n:Nat) (hn:n≤12) (h:Hp) (nx:Nat):Cv Tryz.prog orc0 s 313 [.int .u64 (n:Int)] h nx (fun _ h' nx'=>h'=h∧nx'=nx):=by
 match n,hn with
 | 0,_=>exact zCf len0 s h nx
 | 1,_=>exact zCf len1 s h nx
 | 2,_=>exact zCf len2 s h nx
 | 3,_=>exact zCf len3 s h nx
 | 4,_=>exact zCf len4 s h nx
 | 5,_=>exact zCf len5 s h nx
 | 6,_=>exact zCf len6 s h nx
 | 7,_=>exact zCf len7 s h nx
 | 8,_=>exact zCf len8 s h nx
 | 9,_=>exact zCf len9 s h nx
 | 10,_=>exact zCf len10 s h nx
 | 11,_=>exact zCf len11 s h nx
 | 12,_=>exact zCf len12 s h nx
 | n+13,hn=>exact absurd hn (by omega)
theorem lnk_sort:SortAt Tryz.prog orc0 331 313 394 432 2 332 encL cmpL:=⟨c160,rfl,len_ok,⟨_,c208⟩,rfl,c253,rfl,fun _=>rfl,fun _=>rfl,lnk_cmp,cmpL_tr,cmpL_as⟩
theorem links_ok:zF2 Tryz.prog 266 zNU:=zRa pok c121 c122 p151 lnk_sort
theorem c109:zD Tryz.prog 420=some (zOo 2 460):=by kernel_rfl
theorem c140:zD Tryz.prog 460=some (zLx 2):=by kernel_rfl
theorem c170:zD Tryz.prog 472=some (zOo 221 480):=by kernel_rfl
theorem c218:zD Tryz.prog 480=some (zLx 221):=by kernel_rfl
theorem n109:zEs Tryz.prog orc0 .i64 420:=fun s a b h nx=>zKV c109 rfl c140 rfl a b
theorem n170:zEs Tryz.prog orc0 .u64 472:=fun s a b h nx=>zKV c170 rfl c218 rfl a b
theorem zN2:zKj Tryz.prog orc0 366 encE cmpE:=order_ok c85 rfl c108 rfl n139 n109 c107 rfl
theorem zRq:SortAt Tryz.prog orc0 365 313 418 452 3 366 encE cmpE:=⟨c84,rfl,len_ok,⟨_,c105⟩,rfl,c129,rfl,fun _=>rfl,fun _=>rfl,zN2,zLq,zLr⟩
theorem zMQ:zEQ Tryz.prog orc0 448:=zNw c127 rfl n109 n170 c107 rfl
set_option maxRecDepth 2147483648
set_option linter.unusedSimpArgs false
theorem u28:Tryz.prog.underlying 43=some (.array 2 3):=by kernel_rfl
theorem u3:Tryz.prog.underlying 3=some (.int .i64):=by kernel_rfl
theorem k28:Tryz.prog.keyTypeAt 8 43=true:=by kernel_rfl
theorem c28:Tryz.prog.cellsOf 43=2:=by kernel_rfl
theorem c3:Tryz.prog.cellsOf 3=1:=by kernel_rfl
theorem zJL {k:IntKind} (hk:k = .i64∨k = .u64) {m:Nat} (h:m<4294967296):(Lit.int k (m:Int)).wf=true:=by
 rcases hk with rfl | rfl <;> simp [Lit.wf,IntKind.min,IntKind.max,IntKind.bits,IntKind.signed] <;> omega
theorem lits28 {a b:Nat} (ha:a<2147483648) (hb:b<2147483648):Tryz.prog.keyLits 8 43 [.int .i64 (a:Int),.int .i64 (b:Int)]=some [.int .i64 (a:Int),.int .i64 (b:Int)]:=by
 have w1:=zJL (k:=.i64) (.inl rfl) (show a<4294967296 by omega)
 have w2:=zJL (k:=.i64) (.inl rfl) (show b<4294967296 by omega)
 have one:∀ m:Nat,m<4294967296→Tryz.prog.keyLits 7 3 [.int .i64 (m:Int)]=some [.int .i64 (m:Int)]:=fun m hm=>by
  unfold Program.keyLits;simp only [u3,zJL (k:=.i64) (.inl rfl) hm,and_self,if_true]
 unfold Program.keyLits;simp only [u28,c28,c3,List.length_cons,List.length_nil,Nat.reduceAdd,if_true];rw [show List.range 2=[0,1] from rfl];simp only [List.mapM_cons,List.mapM_nil,Nat.zero_mul,Nat.one_mul,List.drop_zero,List.drop_succ_cons,List.take_succ_cons,List.take_zero,one a (by omega),one b (by omega)];rfl
theorem key_at:zMK Tryz.prog 43:=fun x y hx hy=>by
 obtain ⟨a,b,c⟩:=x;obtain ⟨d,e,f⟩:=y;obtain ⟨w1,h1,h2⟩:=zAa hx.1;obtain ⟨w2,h3,h4⟩:=zAa hx.2.1;obtain ⟨w3,h5,h6⟩:=zAa hy.1;obtain ⟨w4,h7,h8⟩:=zAa hy.2.1;simp only at h1 h3 h5 h7;subst h1 h3 h5 h7;show eqK Tryz.prog 43 (.agg ⟨[.int .i64 (w1:Int),.int .i64 (w2:Int)]⟩) (.agg ⟨[.int .i64 (w3:Int),.int .i64 (w4:Int)]⟩)=_;have f1:∀ a b:Int,(Value.agg ⟨[.int .i64 a,.int .i64 b]⟩).formed Tryz.prog 43=true:=fun a b=>by
  simp [Value.formed,u28,c28]
 unfold eqK;rw [k28,f1,f1];show (bif true&&(true&&true&&true&&true) then eqL (Tryz.prog.keyLits 8 43 [.int .i64 (w1:Int),.int .i64 (w2:Int)]) (Tryz.prog.keyLits 8 43 [.int .i64 (w3:Int),.int .i64 (w4:Int)]) else none)=_;rw [lits28 h2 h4,lits28 h6 h8];show some ((keq .i64 .i64&&ieq w1 w3)&&((keq .i64 .i64&&ieq w2 w4)&&true))=some (ieq w3 w1&&ieq w4 w2);rw [zCQ,zAJ,zAJ,zAJ,zAJ]
 congr 1
 simp only [Bool.true_and,Bool.and_true];rw [Bool.beq_comm (a:=(w1:Int)),Bool.beq_comm (a:=(w2:Int))]
def fHi:Field:={ name := "Hi",type:=2,offset:=0,embedded:=false,tag := "",pkgPath := "",byteOffset:=0 }
def fLo:Field:={ name := "Lo",type:=221,offset:=1,embedded:=false,tag := "",pkgPath := "",byteOffset:=8 }
theorem u112:Tryz.prog.underlying 251=some (.struct #[fHi,fLo]):=by kernel_rfl
theorem u2:Tryz.prog.underlying 2=some (.int .i64):=by kernel_rfl
theorem u110:Tryz.prog.underlying 221=some (.int .u64):=by kernel_rfl
theorem k112:Tryz.prog.keyTypeAt 8 251=true:=by kernel_rfl
theorem ng112:zFB Tryz.prog 251=true:=by kernel_rfl
theorem c112:Tryz.prog.cellsOf 251=2:=by kernel_rfl
theorem c2:Tryz.prog.cellsOf 2=1:=by kernel_rfl
theorem c110:Tryz.prog.cellsOf 221=1:=by kernel_rfl
theorem zLP {n:Nat} (hn:n<4294967296):Tryz.prog.keyLits 8 251 (zF n)=some [.int .i64 0,.int .u64 (n:Int)]:=by
 have w0:(Lit.int .i64 0).wf=true:=zJL (k:=.i64) (m:=0) (.inl rfl) (by omega)
 have w1:=zJL (k:=.u64) (.inr rfl) hn;have one:Tryz.prog.keyLits 7 2 [.int .i64 0]=some [.int .i64 0]:=by
  unfold Program.keyLits;simp only [u2,w0,and_self,if_true]
 have two:Tryz.prog.keyLits 7 221 [.int .u64 (n:Int)]=some [.int .u64 (n:Int)]:=by
  unfold Program.keyLits;simp only [u110,w1,and_self,if_true]
 unfold Program.keyLits;simp only [u112,c112,zF,List.length_cons,List.length_nil,Nat.reduceAdd];rw [if_pos ⟨trivial,by kernel_rfl⟩];show Option.map List.flatten (List.mapM (fun f:Field=>Tryz.prog.keyLits 7 f.type (List.take (Tryz.prog.cellsOf f.type) (List.drop f.offset [.int .i64 0,.int .u64 (n:Int)]))) [fHi,fLo])=_;simp only [List.mapM_cons,List.mapM_nil,show fHi.type=2 from rfl,show fLo.type=221 from rfl,show fHi.offset=0 from rfl,show fLo.offset=1 from rfl,c2,c110,List.drop_zero,List.drop_succ_cons,List.take_succ_cons,List.take_zero,one,two];rfl
theorem zMP (n:Nat) (hn:n<4294967296):bin Tryz.prog .neq 251 (.agg ⟨zF n⟩) (.agg ⟨zF n⟩) = .ok (.bool false):=by
 show R.of "compared" (bif zFB Tryz.prog 251 then eqK Tryz.prog 251 (.agg ⟨zF n⟩) (.agg ⟨zF n⟩) else none) (fun b=>zCF (!b))=_;have f1:(Value.agg ⟨zF n⟩).formed Tryz.prog 251=true:=by
  simp [Value.formed,u112,c112,zF]
 unfold eqK;rw [ng112,k112,f1];show R.of "compared" (bif true&&(true&&true&&true&&true) then eqL (Tryz.prog.keyLits 8 251 (zF n)) (Tryz.prog.keyLits 8 251 (zF n)) else none) (fun b=>zCF (!b))=_;rw [zLP hn];show R.ok (Value.bool (!((keq .i64 .i64&&ieq 0 0)&&((keq .u64 .u64&&ieq n n)&&true))))=_;rw [zCQ,zCQ,zAJ,zAJ];simp
theorem zPF:zDY Tryz.prog 251:=w112
theorem comb_at:CombAt Tryz.prog orc0 307 291 364 352 356 365 366 411 448 414 259 251 43 313 418 452 (addR (zD Tryz.prog 352)).1 (addR (zD Tryz.prog 352)).2.1 (addR (zD Tryz.prog 352)).2.2 where
 cf:=c68
 no:=rfl
 is:=c80
 nis:=rfl
 of:=c81
 nof:=rfl
 ad:=c82
 nad:=rfl
 le:=c101
 nle:=rfl
 na:=c83
 nna:=rfl
 wn:=c104
 nwn:=rfl
 w:=zPF
 c:=zMQ
 k:=key_at
 eq:=zMP
 S:=zRq
theorem comb_ok:zF2 Tryz.prog 307 zGA:=zL6 pok comb_at
theorem len13:zQ 13 4:=fun h nx=>by kernel_rfl
theorem len14:zQ 14 4:=fun h nx=>by kernel_rfl
theorem len15:zQ 15 4:=fun h nx=>by kernel_rfl
theorem len16:zQ 16 5:=fun h nx=>by kernel_rfl
theorem len17:zQ 17 5:=fun h nx=>by kernel_rfl
theorem len18:zQ 18 5:=fun h nx=>by kernel_rfl
theorem len19:zQ 19 5:=fun h nx=>by kernel_rfl
theorem len20:zQ 20 5:=fun h nx=>by kernel_rfl
theorem len21:zQ 21 5:=fun h nx=>by kernel_rfl
theorem len22:zQ 22 5:=fun h nx=>by kernel_rfl
theorem len23:zQ 23 5:=fun h nx=>by kernel_rfl
theorem len24:zQ 24 5:=fun h nx=>by kernel_rfl
theorem len25:zQ 25 5:=fun h nx=>by kernel_rfl
theorem len26:zQ 26 5:=fun h nx=>by kernel_rfl
theorem len27:zQ 27 5:=fun h nx=>by kernel_rfl
theorem len28:zQ 28 5:=fun h nx=>by kernel_rfl
theorem len29:zQ 29 5:=fun h nx=>by kernel_rfl
theorem len30:zQ 30 5:=fun h nx=>by kernel_rfl
theorem len31:zQ 31 5:=fun h nx=>by kernel_rfl
theorem len32:zQ 32 6:=fun h nx=>by kernel_rfl
theorem len33:zQ 33 6:=fun h nx=>by kernel_rfl
theorem len34:zQ 34 6:=fun h nx=>by kernel_rfl
theorem len35:zQ 35 6:=fun h nx=>by kernel_rfl
theorem len36:zQ 36 6:=fun h nx=>by kernel_rfl
theorem len37:zQ 37 6:=fun h nx=>by kernel_rfl
theorem len38:zQ 38 6:=fun h nx=>by kernel_rfl
theorem len39:zQ 39 6:=fun h nx=>by kernel_rfl
theorem len40:zQ 40 6:=fun h nx=>by kernel_rfl
theorem len41:zQ 41 6:=fun h nx=>by kernel_rfl
theorem len42:zQ 42 6:=fun h nx=>by kernel_rfl
theorem len43:zQ 43 6:=fun h nx=>by kernel_rfl
theorem len44:zQ 44 6:=fun h nx=>by kernel_rfl
theorem len45:zQ 45 6:=fun h nx=>by kernel_rfl
theorem len46:zQ 46 6:=fun h nx=>by kernel_rfl
theorem len47:zQ 47 6:=fun h nx=>by kernel_rfl
theorem len48:zQ 48 6:=fun h nx=>by kernel_rfl
theorem len49:zQ 49 6:=fun h nx=>by kernel_rfl
theorem len50:zQ 50 6:=fun h nx=>by kernel_rfl
theorem len51:zQ 51 6:=fun h nx=>by kernel_rfl
theorem len52:zQ 52 6:=fun h nx=>by kernel_rfl
theorem len53:zQ 53 6:=fun h nx=>by kernel_rfl
theorem len54:zQ 54 6:=fun h nx=>by kernel_rfl
theorem len55:zQ 55 6:=fun h nx=>by kernel_rfl
theorem len56:zQ 56 6:=fun h nx=>by kernel_rfl
theorem len57:zQ 57 6:=fun h nx=>by kernel_rfl
theorem len58:zQ 58 6:=fun h nx=>by kernel_rfl
theorem len59:zQ 59 6:=fun h nx=>by kernel_rfl
theorem len60:zQ 60 6:=fun h nx=>by kernel_rfl
theorem len61:zQ 61 6:=fun h nx=>by kernel_rfl
theorem len62:zQ 62 6:=fun h nx=>by kernel_rfl
theorem len63:zQ 63 6:=fun h nx=>by kernel_rfl
theorem len64:zQ 64 7:=fun h nx=>by kernel_rfl
theorem len65:zQ 65 7:=fun h nx=>by kernel_rfl
theorem len66:zQ 66 7:=fun h nx=>by kernel_rfl
theorem len67:zQ 67 7:=fun h nx=>by kernel_rfl
theorem len68:zQ 68 7:=fun h nx=>by kernel_rfl
theorem len69:zQ 69 7:=fun h nx=>by kernel_rfl
theorem len70:zQ 70 7:=fun h nx=>by kernel_rfl
theorem len71:zQ 71 7:=fun h nx=>by kernel_rfl
theorem len72:zQ 72 7:=fun h nx=>by kernel_rfl
theorem len73:zQ 73 7:=fun h nx=>by kernel_rfl
theorem len74:zQ 74 7:=fun h nx=>by kernel_rfl
theorem len75:zQ 75 7:=fun h nx=>by kernel_rfl
theorem len76:zQ 76 7:=fun h nx=>by kernel_rfl
theorem len77:zQ 77 7:=fun h nx=>by kernel_rfl
theorem len78:zQ 78 7:=fun h nx=>by kernel_rfl
theorem len79:zQ 79 7:=fun h nx=>by kernel_rfl
theorem len80:zQ 80 7:=fun h nx=>by kernel_rfl
theorem len81:zQ 81 7:=fun h nx=>by kernel_rfl
theorem len82:zQ 82 7:=fun h nx=>by kernel_rfl
theorem len83:zQ 83 7:=fun h nx=>by kernel_rfl
theorem len84:zQ 84 7:=fun h nx=>by kernel_rfl
theorem len85:zQ 85 7:=fun h nx=>by kernel_rfl
theorem len86:zQ 86 7:=fun h nx=>by kernel_rfl
theorem len87:zQ 87 7:=fun h nx=>by kernel_rfl
theorem len88:zQ 88 7:=fun h nx=>by kernel_rfl
theorem len89:zQ 89 7:=fun h nx=>by kernel_rfl
theorem len90:zQ 90 7:=fun h nx=>by kernel_rfl
theorem len91:zQ 91 7:=fun h nx=>by kernel_rfl
theorem len92:zQ 92 7:=fun h nx=>by kernel_rfl
theorem len93:zQ 93 7:=fun h nx=>by kernel_rfl
theorem len94:zQ 94 7:=fun h nx=>by kernel_rfl
theorem len95:zQ 95 7:=fun h nx=>by kernel_rfl
theorem len96:zQ 96 7:=fun h nx=>by kernel_rfl
theorem len97:zQ 97 7:=fun h nx=>by kernel_rfl
theorem len98:zQ 98 7:=fun h nx=>by kernel_rfl
theorem len99:zQ 99 7:=fun h nx=>by kernel_rfl
theorem len100:zQ 100 7:=fun h nx=>by kernel_rfl
theorem len101:zQ 101 7:=fun h nx=>by kernel_rfl
theorem len102:zQ 102 7:=fun h nx=>by kernel_rfl
theorem len103:zQ 103 7:=fun h nx=>by kernel_rfl
theorem len104:zQ 104 7:=fun h nx=>by kernel_rfl
theorem len105:zQ 105 7:=fun h nx=>by kernel_rfl
theorem len106:zQ 106 7:=fun h nx=>by kernel_rfl
theorem len107:zQ 107 7:=fun h nx=>by kernel_rfl
theorem len108:zQ 108 7:=fun h nx=>by kernel_rfl
theorem len109:zQ 109 7:=fun h nx=>by kernel_rfl
theorem len110:zQ 110 7:=fun h nx=>by kernel_rfl
theorem len111:zQ 111 7:=fun h nx=>by kernel_rfl
theorem len112:zQ 112 7:=fun h nx=>by kernel_rfl
theorem len113:zQ 113 7:=fun h nx=>by kernel_rfl
theorem len114:zQ 114 7:=fun h nx=>by kernel_rfl
theorem len115:zQ 115 7:=fun h nx=>by kernel_rfl
theorem len116:zQ 116 7:=fun h nx=>by kernel_rfl
theorem len117:zQ 117 7:=fun h nx=>by kernel_rfl
theorem len118:zQ 118 7:=fun h nx=>by kernel_rfl
theorem len119:zQ 119 7:=fun h nx=>by kernel_rfl
theorem len120:zQ 120 7:=fun h nx=>by kernel_rfl
def bl (n:Nat):Nat:=if n=0 then 0 else Nat.log2 n+1
theorem bl_ok:∀ n,n≤120→bl n≤7∧(8≤n→2 ^ bl n≤2*n):=by decide +kernel
theorem zRJ:∀ (n:Nat),n≤120→zQ n (bl n)
 | 0,_=>len0
 | 1,_=>len1
 | 2,_=>len2
 | 3,_=>len3
 | 4,_=>len4
 | 5,_=>len5
 | 6,_=>len6
 | 7,_=>len7
 | 8,_=>len8
 | 9,_=>len9
 | 10,_=>len10
 | 11,_=>len11
 | 12,_=>len12
 | 13,_=>len13
 | 14,_=>len14
 | 15,_=>len15
 | 16,_=>len16
 | 17,_=>len17
 | 18,_=>len18
 | 19,_=>len19
 | 20,_=>len20
 | 21,_=>len21
 | 22,_=>len22
 | 23,_=>len23
 | 24,_=>len24
 | 25,_=>len25
 | 26,_=>len26
 | 27,_=>len27
 | 28,_=>len28
 | 29,_=>len29
 | 30,_=>len30
 | 31,_=>len31
 | 32,_=>len32
 | 33,_=>len33
 | 34,_=>len34
 | 35,_=>len35
 | 36,_=>len36
 | 37,_=>len37
 | 38,_=>len38
 | 39,_=>len39
 | 40,_=>len40
 | 41,_=>len41
 | 42,_=>len42
 | 43,_=>len43
 | 44,_=>len44
 | 45,_=>len45
 | 46,_=>len46
 | 47,_=>len47
 | 48,_=>len48
 | 49,_=>len49
 | 50,_=>len50
 | 51,_=>len51
 | 52,_=>len52
 | 53,_=>len53
 | 54,_=>len54
 | 55,_=>len55
 | 56,_=>len56
 | 57,_=>len57
 | 58,_=>len58
 | 59,_=>len59
 | 60,_=>len60
 | 61,_=>len61
 | 62,_=>len62
 | 63,_=>len63
 | 64,_=>len64
 | 65,_=>len65
 | 66,_=>len66
 | 67,_=>len67
 | 68,_=>len68
 | 69,_=>len69
 | 70,_=>len70
 | 71,_=>len71
 | 72,_=>len72
 | 73,_=>len73
 | 74,_=>len74
 | 75,_=>len75
 | 76,_=>len76
 | 77,_=>len77
 | 78,_=>len78
 | 79,_=>len79
 | 80,_=>len80
 | 81,_=>len81
 | 82,_=>len82
 | 83,_=>len83
 | 84,_=>len84
 | 85,_=>len85
 | 86,_=>len86
 | 87,_=>len87
 | 88,_=>len88
 | 89,_=>len89
 | 90,_=>len90
 | 91,_=>len91
 | 92,_=>len92
 | 93,_=>len93
 | 94,_=>len94
 | 95,_=>len95
 | 96,_=>len96
 | 97,_=>len97
 | 98,_=>len98
 | 99,_=>len99
 | 100,_=>len100
 | 101,_=>len101
 | 102,_=>len102
 | 103,_=>len103
 | 104,_=>len104
 | 105,_=>len105
 | 106,_=>len106
 | 107,_=>len107
 | 108,_=>len108
 | 109,_=>len109
 | 110,_=>len110
 | 111,_=>len111
 | 112,_=>len112
 | 113,_=>len113
 | 114,_=>len114
 | 115,_=>len115
 | 116,_=>len116
 | 117,_=>len117
 | 118,_=>len118
 | 119,_=>len119
 | 120,_=>len120
 | n+121,hn=>absurd hn (by omega)
theorem len_all:LenAll Tryz.prog orc0 313:=fun s n hn h nx=>by
 refine ⟨30,?_⟩;have e:=zRJ n hn h nx;rw [show ((n:Int))=Int.ofNat n from rfl,e];exact satC_ok.2 ⟨bl n,rfl,(bl_ok n hn).1,(bl_ok n hn).2,rfl,rfl⟩
theorem q105:zD Tryz.prog 418=some (zSQ 418 452 453 454 455 456 457 458 459 3):=by kernel_rfl
theorem q129:zD Tryz.prog 452=some (zNe 3):=by kernel_rfl
theorem q130:zD Tryz.prog 453=some (zNf 473 3):=by kernel_rfl
theorem q171:zD Tryz.prog 473=some (zKY 3):=by kernel_rfl
theorem q131:zD Tryz.prog 454=some (zIz 422 423 3):=by kernel_rfl
theorem q172:zD Tryz.prog 422=some (zHI 313):=by kernel_rfl
theorem q173:zD Tryz.prog 423=some (zSP):=by kernel_rfl
theorem q132:zD Tryz.prog 455=some (zGH 474 475):=by kernel_rfl
theorem q174:zD Tryz.prog 474=some (zKZ 475):=by kernel_rfl
theorem q175:zD Tryz.prog 475=some (zOn 481):=by kernel_rfl
theorem q219:zD Tryz.prog 481=some (zHH 3):=by kernel_rfl
theorem q133:zD Tryz.prog 456=some (cfRev 3):=by kernel_rfl
theorem q134:zD Tryz.prog 457=some (zNc 3):=by kernel_rfl
theorem q135:zD Tryz.prog 458=some (zIx 3):=by kernel_rfl
theorem q136:zD Tryz.prog 459=some (zNd 3):=by kernel_rfl
theorem edge_swo:Sort.SWO (ltC cmpE) where
 irrefl:=fun x=>by
  have:¬ cmpE x x<0:=fun h=>zLr x x h h;simpa [ltC] using this
 trans:=fun x y z h1 h2=>by
  have h1:cmpE x y<0:=by simpa [ltC] using h1
  have h2:cmpE y z<0:=by simpa [ltC] using h2
  have:cmpE x z<0:=by rw [zHG] at *; omega
  simpa [ltC] using this
 ntrans:=fun x y z h1 h2=>by
  have h1:¬ cmpE x y<0:=by simpa [ltC] using h1
  have h2:¬ cmpE y z<0:=by simpa [ltC] using h2
  have:=zLq z y x h2 h1;simpa [ltC] using this
theorem pdq_at:PdqAt Tryz.prog orc0 418 452 453 454 455 456 457 458 459 3 473 475 481 474 422 423 313 366 encE cmpE where
 S:=⟨fun _=>rfl,fun _=>rfl,zN2⟩
 swo:=edge_swo
 cq:=q105
 nq:=rfl
 ci:=q129
 ni:=rfl
 ch:=q130
 nh:=rfl
 cs:=q171
 ns:=rfl
 cb:=q131
 nb:=rfl
 cn:=q172
 nn:=rfl
 len:=len_all.some
 cx:=q173
 nx:=rfl
 cc:=q132
 nc:=rfl
 ca:=q174
 na:=rfl
 cm:=q175
 nm:=rfl
 co:=q219
 no:=rfl
 cr:=q133
 nr:=rfl
 cp:=q134
 np:=rfl
 ce:=q135
 ne:=rfl
 ct:=q136
 nt:=rfl
def sort0Is:Prop:=∀ (h:Hp) (nx:Nat),zb Tryz.prog orc0 (cexA Tryz.prog orc0 60) 365 [.slice none 0 0,.func (.func 366) #[] #[]] h nx = .ok (.tuple #[]) h nx
theorem sort0:sort0Is:=fun h nx=>by kernel_rfl
theorem combF_at:CombF Tryz.prog orc0 307 291 364 352 356 365 366 411 448 414 259 251 43 (addR (zD Tryz.prog 352)).1 (addR (zD Tryz.prog 352)).2.1 (addR (zD Tryz.prog 352)).2.2 where
 cf:=c68
 no:=rfl
 is:=c80
 nis:=rfl
 of:=c81
 nof:=rfl
 ad:=c82
 nad:=rfl
 le:=c101
 nle:=rfl
 na:=c83
 nna:=rfl
 wn:=c104
 nwn:=rfl
 w:=zPF
 c:=zMQ
 k:=key_at
 eq:=zMP
 S:=fun l h nx b n cap sp hl hn hb hh=>sortF_cv pdq_at c84 rfl len_all hl hn hb hh
 S0:=fun h nx=>⟨60,by rw [sort0 h nx]; exact satC_ok.2 ⟨rfl,rfl⟩⟩
theorem combF_ok:zF2 Tryz.prog 307 zFh:=zRb pok combF_at
theorem zOH:zHT Tryz.prog zLC:=fun f g h=>by
 unfold zLC at h;cases h1:Nat.beq f 163 with
 | true =>
  have e:=Nat.eq_of_beq_eq_true h1;subst e;rw [h1] at h;cases h;exact sent_ok
 | false =>
  rw [h1] at h;cases h2:Nat.beq f 266 with
  | true =>
   have e:=Nat.eq_of_beq_eq_true h2;subst e;rw [h2] at h;cases h;exact links_ok
  | false =>
   rw [h2] at h;cases h3:Nat.beq f 219 with
   | true =>
    have e:=Nat.eq_of_beq_eq_true h3;subst e;rw [h3] at h;cases h;exact zOg
   | false =>
    rw [h3] at h;cases h4:Nat.beq f 307 with
    | true =>
     have e:=Nat.eq_of_beq_eq_true h4;subst e;rw [h4] at h;cases h;exact comb_ok
    | false =>
     rw [h4] at h;cases h
open Go.ChangeShapes Go.WideShapes Go.ChangeAt Go.RowKit
theorem own:ownKnob Tryz.prog.godebug=none:=by kernel_rfl
theorem zLQ:laidOutB Tryz.prog=true:=by kernel_rfl
def fG:Field:={ name := "G",type:=28,offset:=0,embedded:=false,tag := "",pkgPath := "",byteOffset:=0 }
def fV:Field:={ name := "V",type:=3,offset:=2,embedded:=false,tag := "",pkgPath := "",byteOffset:=32 }
def fR:Field:={ name := "R",type:=5,offset:=3,embedded:=false,tag := "",pkgPath := "",byteOffset:=40 }
def fC:Field:={ name := "C",type:=5,offset:=4,embedded:=false,tag := "",pkgPath := "",byteOffset:=41 }
def fN:Field:={ name := "N",type:=3,offset:=0,embedded:=false,tag := "",pkgPath := "",byteOffset:=0 }
def fEdges:Field:={ name := "Edges",type:=26,offset:=1,embedded:=false,tag := "",pkgPath := "",byteOffset:=8 }
def fFrom:Field:={ name := "From",type:=3,offset:=0,embedded:=false,tag := "",pkgPath := "",byteOffset:=0 }
def fTo:Field:={ name := "To",type:=3,offset:=1,embedded:=false,tag := "",pkgPath := "",byteOffset:=8 }
def fW:Field:={ name := "W",type:=2,offset:=2,embedded:=false,tag := "",pkgPath := "",byteOffset:=16 }
theorem u26:Tryz.prog.underlying 64=some (.struct #[fG,fV,fR,fC]):=by kernel_rfl
theorem u24:Tryz.prog.underlying 28=some (.struct #[fN,fEdges]):=by kernel_rfl
theorem u52:Tryz.prog.underlying 84=some (.struct #[fFrom,fTo,fW]):=by kernel_rfl
theorem u22:Tryz.prog.underlying 26=some (.slice 84):=by kernel_rfl
theorem u5:Tryz.prog.underlying 5=some (.int .u8):=by kernel_rfl
theorem u4:Tryz.prog.underlying 4=some .bool:=by kernel_rfl
theorem n26:Tryz.prog.cellsOf 64=5:=by kernel_rfl
theorem n24:Tryz.prog.cellsOf 28=2:=by kernel_rfl
theorem n52:Tryz.prog.cellsOf 84=3:=by kernel_rfl
theorem n22:Tryz.prog.cellsOf 26=1:=by kernel_rfl
theorem n5:Tryz.prog.cellsOf 5=1:=by kernel_rfl
theorem ct26:Tryz.prog.cellTypes Tryz.prog.depth 64=some [3,26,3,5,5]:=by kernel_rfl
theorem tri52:Tri Tryz.prog 84:=⟨⟨_,fFrom,fTo,fW,u52,rfl,rfl,rfl,rfl,rfl,rfl,u3,u3,u2,c3,c3,c2⟩,n52⟩
section
variable {H:Type} {enc:TypeId × Value→H} {w:World} {sp:Nat→Bool}
theorem zQk {r:Reach} {b0:Nat} {v:Value} {d:DataW H} {ps:List MemPlace} (hval:Value.okWide Tryz.prog w r b0 64 v) (h:DataW.Trod enc Tryz.prog w 0 sp true 64 v d ps) :
  ∃ (n V R C:Int) (sl:Value) (zs:List Edg3),v = .agg ⟨[.int .i64 n,sl,.int .i64 V,.int .u8 R,.int .u8 C]⟩∧((zs=[]∧sl = .slice none 0 0)∨∃ b off cap,sl = .slice (some ⟨b,off,none⟩) zs.length cap∧zDE w b off (flat enc3 zs)):=by
 unfold Value.okWide at hval;rw [u26] at hval;obtain ⟨cs,rfl,hsz,ts,hts,_,hcell⟩:=hval;rw [ct26] at hts;cases hts;rw [n26] at hsz;obtain ⟨l⟩:=cs
 match l,hsz with
 | [a,b,c,e,f],_ =>
  obtain ⟨fuel,hf⟩:=h;have hf:DataW.trod enc Tryz.prog w 0 sp true fuel 64 [a,b,c,e,f]=some (d,ps):=hf;obtain ⟨xs,n,rfl,_,hlen,hxl,hall⟩:=DataW.trod_struct u26 hf;have hxl:xs.length=4:=hxl;have get:∀ (i:Nat) (fd:Field),#[fG,fV,fR,fC][i]? = some fd→∃ y,DataW.trod enc Tryz.prog w 0 sp true n fd.type (([a,b,c,e,f].drop fd.offset).take (Tryz.prog.cellsOf fd.type))=some y:=fun i fd hfd=>by
   have hi:i<4:=(Array.getElem?_eq_some_iff.1 hfd).1;exact ⟨xs[i]'(by omega),by rw [hall i fd hfd,List.getElem?_eq_getElem]⟩
  obtain ⟨y0,h0⟩:=get 0 fG rfl;obtain ⟨y1,h1⟩:=get 1 fV rfl;obtain ⟨y2,h2⟩:=get 2 fR rfl;obtain ⟨y3,h3⟩:=get 3 fC rfl;rw [show fG.type=28 from rfl,show fG.offset=0 from rfl,n24] at h0;rw [show fV.type=3 from rfl,show fV.offset=2 from rfl,c3] at h1;rw [show fR.type=5 from rfl,show fR.offset=3 from rfl,n5] at h2;rw [show fC.type=5 from rfl,show fC.offset=4 from rfl,n5] at h3;obtain ⟨V,rfl⟩:=zEg u3 h1;obtain ⟨R,rfl⟩:=zEg u5 h2;obtain ⟨C,rfl⟩:=zEg u5 h3;have h0:DataW.trod enc Tryz.prog w 0 sp true n 28 [a,b]=some y0:=h0;obtain ⟨xs',n',rfl,_,_,hxl',hall'⟩:=DataW.trod_struct u24 h0;have hxl':xs'.length=2:=hxl';have get':∀ (i:Nat) (fd:Field),#[fN,fEdges][i]? = some fd→∃ y,DataW.trod enc Tryz.prog w 0 sp true n' fd.type (([a,b].drop fd.offset).take (Tryz.prog.cellsOf fd.type))=some y:=fun i fd hfd=>by
   have hi:i<2:=(Array.getElem?_eq_some_iff.1 hfd).1;exact ⟨xs'[i]'(by omega),by rw [hall' i fd hfd,List.getElem?_eq_getElem]⟩
  obtain ⟨z0,k0⟩:=get' 0 fN rfl;obtain ⟨z1,k1⟩:=get' 1 fEdges rfl;rw [show fN.type=3 from rfl,show fN.offset=0 from rfl,c3] at k0;rw [show fEdges.type=26 from rfl,show fEdges.offset=1 from rfl,n22] at k1;obtain ⟨N,rfl⟩:=zEg u3 k0;obtain ⟨u,hu,hok⟩:=hcell 1 b rfl;cases hu;obtain ⟨zs,_,hz⟩:=zLF (e3:=enc3) (k:=3) u22 n52 (fun _=>True) (fun n c y hy=>by obtain ⟨e,he,_⟩:=trod_tri tri52 hy; exact ⟨e,he,trivial⟩) k1 hok;exact ⟨N,V,R,C,b,zs,rfl,hz⟩
end
end Go.Proofs.YtcjochjiegiliaaGreat
