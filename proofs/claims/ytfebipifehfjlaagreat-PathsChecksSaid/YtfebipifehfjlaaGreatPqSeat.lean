/- Parts of the proof: PqSeat: each statement bears its own conditions. -/
import Derived.Test.YtfebipifehfjlaaGreatProg
import Derived.KernelRfl
import Derived.Test.YtfebipifehfjlaaGreatRows
import Derived.WalkKit
import Derived.ProofKit
import Derived.OpenShut
import Derived.ChangeOld
import Derived.Below
import Derived.Test.YtfebipifehfjlaaGreatPqLive
namespace Go.Proofs.YtfebipifehfjlaaGreat
open Go Go.Ax
set_option maxRecDepth 1000000
theorem mixed:Tryz.prog.follows .mixedOrders=true:=by kernel_rfl
theorem fitAll:Tryz.prog.funcs.toList.all zGh=true:=by kernel_rfl
theorem pok:POk Tryz.prog:=POk.of mixed fitAll
theorem c76:zD Tryz.prog 56=some (zMg 98 83):=by kernel_rfl
theorem c96:zD Tryz.prog 83=some (zDL 149):=by kernel_rfl
theorem p118:zBB Tryz.prog 98=true:=by kernel_rfl
theorem p151:zBB Tryz.prog 149=true:=by kernel_rfl
theorem c251:zD Tryz.prog 241=some zE9:=by kernel_rfl
theorem sent_ok:zFQ Tryz.prog 56 gSent:=gSent_ok pok c76 p118 c96 p151
theorem zNi:zFQ Tryz.prog 241 zFl:=zKo pok c251
theorem c121:zD Tryz.prog 111=some (zIa 112 150 151):=by kernel_rfl
theorem c122:zD Tryz.prog 112=some (zEa 149):=by kernel_rfl
theorem c160:zD Tryz.prog 150=some (zHm 93 198):=by kernel_rfl
theorem c208:zD Tryz.prog 198=some (cfPdq 243 (zP4 (zD Tryz.prog 198))):=by kernel_rfl
theorem c253:zD Tryz.prog 243=some (zQt 2):=by kernel_rfl
theorem c161:zD Tryz.prog 151=some (zGr 129 94):=by kernel_rfl
theorem c139:zD Tryz.prog 129=some (zNr 3 166):=by kernel_rfl
theorem c176:zD Tryz.prog 166=some (zLM 3):=by kernel_rfl
theorem c107:zD Tryz.prog 94=some cfOr:=by kernel_rfl
theorem c68:zD Tryz.prog 43=some (zDK 60 61 62 63 64 65 60):=by kernel_rfl
theorem c80:zD Tryz.prog 60=some (cfIs 80):=by kernel_rfl
theorem c81:zD Tryz.prog 61=some (cfOf 108):=by kernel_rfl
theorem c83:zD Tryz.prog 63=some (zD4 91):=by kernel_rfl
theorem c104:zD Tryz.prog 91=some (zBx 61 108):=by kernel_rfl
theorem c101:zD Tryz.prog 88=some (zCj 117 108):=by kernel_rfl
theorem c84:zD Tryz.prog 64=some (zHm 93 92):=by kernel_rfl
theorem c105:zD Tryz.prog 92=some (cfPdq 119 (zP4 (zD Tryz.prog 92))):=by kernel_rfl
theorem c129:zD Tryz.prog 119=some (zQt 3):=by kernel_rfl
theorem c85:zD Tryz.prog 65=some (zLL 95 96 94):=by kernel_rfl
theorem w112:zFd Tryz.prog 108=some (some 2):=by kernel_rfl
def addR (c:Option CF):CC × CC × CC:=match c with
 | some { body:=.seq _ (.seq (.seq _ (.block _ (.seq (.seq _ (.cond _ _ r1)) (.cond _ _ r2)))) r3),res:=_ }=>(r1,r2,r3)
 | _=>(.skip,.skip,.skip)
theorem c82:zD Tryz.prog 62=some (zNs 88 80 108 (addR (zD Tryz.prog 62)).1 (addR (zD Tryz.prog 62)).2.1 (addR (zD Tryz.prog 62)).2.2):=by kernel_rfl
theorem c127:zD Tryz.prog 117=some (zNp 96 160 94):=by kernel_rfl
theorem c108:zD Tryz.prog 95=some (zNp 129 129 94):=by kernel_rfl
set_option linter.unusedVariables false
theorem n139:zEe Tryz.prog orc0 .i64 129:=fun s a b h nx=>zJf c139 rfl c176 rfl a b
theorem lnk_cmp:zKA Tryz.prog orc0 151 encL cmpL:=zN9 c161 rfl c139 rfl c176 rfl c107 rfl
def zw (n m:Nat):Prop:=∀ (h:Hp) (nx:Nat),zc Tryz.prog orc0 (cexA Tryz.prog orc0 30) 93 [.int .u64 (.ofNat n)] h nx = .ok (.int .i64 (.ofNat m)) h nx
theorem len0:zw 0 0:=fun h nx=>by kernel_rfl
theorem len1:zw 1 1:=fun h nx=>by kernel_rfl
theorem len2:zw 2 2:=fun h nx=>by kernel_rfl
theorem len3:zw 3 2:=fun h nx=>by kernel_rfl
theorem len4:zw 4 3:=fun h nx=>by kernel_rfl
theorem len5:zw 5 3:=fun h nx=>by kernel_rfl
theorem len6:zw 6 3:=fun h nx=>by kernel_rfl
theorem len7:zw 7 3:=fun h nx=>by kernel_rfl
theorem len8:zw 8 4:=fun h nx=>by kernel_rfl
theorem len9:zw 9 4:=fun h nx=>by kernel_rfl
theorem len10:zw 10 4:=fun h nx=>by kernel_rfl
theorem len11:zw 11 4:=fun h nx=>by kernel_rfl
theorem len12:zw 12 4:=fun h nx=>by kernel_rfl
theorem zC3 {n m:Nat} (hl:zw n m) (s:Bool) (h:Hp) (nx:Nat):Cv Tryz.prog orc0 s 93 [.int .u64 (n:Int)] h nx (fun _ h' nx'=>h'=h∧nx'=nx):=by
 refine ⟨30,?_⟩
 have e:=hl h nx
 rw [show ((n:Int))=Int.ofNat n from rfl,e]
 exact satC_ok.2 ⟨rfl,rfl⟩
theorem len_ok (s:Bool) (n:Nat) (hn:n≤12) (h:Hp) (nx:Nat):Cv Tryz.prog orc0 s 93 [.int .u64 (n:Int)] h nx (fun _ h' nx'=>h'=h∧nx'=nx):=by
 match n,hn with
 | 0,_=>exact zC3 len0 s h nx
 | 1,_=>exact zC3 len1 s h nx
 | 2,_=>exact zC3 len2 s h nx
 | 3,_=>exact zC3 len3 s h nx
 | 4,_=>exact zC3 len4 s h nx
 | 5,_=>exact zC3 len5 s h nx
 | 6,_=>exact zC3 len6 s h nx
 | 7,_=>exact zC3 len7 s h nx
 | 8,_=>exact zC3 len8 s h nx
 | 9,_=>exact zC3 len9 s h nx
 | 10,_=>exact zC3 len10 s h nx
 | 11,_=>exact zC3 len11 s h nx
 | 12,_=>exact zC3 len12 s h nx
 | n+13,hn=>exact absurd hn (by omega)
theorem lnk_sort:SortAt Tryz.prog orc0 150 93 198 243 2 151 encL cmpL:=⟨c160,rfl,len_ok,⟨_,c208⟩,rfl,c253,rfl,fun _=>rfl,fun _=>rfl,lnk_cmp,cmpL_tr,cmpL_as⟩
theorem links_ok:zFQ Tryz.prog 111 zM4:=zQW pok c121 c122 p151 lnk_sort
theorem c109:zD Tryz.prog 96=some (zNr 2 130):=by kernel_rfl
theorem c140:zD Tryz.prog 130=some (zLM 2):=by kernel_rfl
theorem c170:zD Tryz.prog 160=some (zNr 106 208):=by kernel_rfl
theorem c218:zD Tryz.prog 208=some (zLM 106):=by kernel_rfl
theorem n109:zEe Tryz.prog orc0 .i64 96:=fun s a b h nx=>zJf c109 rfl c140 rfl a b
theorem n170:zEe Tryz.prog orc0 .u64 160:=fun s a b h nx=>zJf c170 rfl c218 rfl a b
theorem zMa:zKA Tryz.prog orc0 65 encE cmpE:=order_ok c85 rfl c108 rfl n139 n109 c107 rfl
theorem zQ9:SortAt Tryz.prog orc0 64 93 92 119 3 65 encE cmpE:=⟨c84,rfl,len_ok,⟨_,c105⟩,rfl,c129,rfl,fun _=>rfl,fun _=>rfl,zMa,zLE,zLF⟩
theorem zL8:zEB Tryz.prog orc0 117:=zNA c127 rfl n109 n170 c107 rfl
set_option maxRecDepth 2147483648
set_option linter.unusedSimpArgs false
theorem u28:Tryz.prog.underlying 60=some (.array 2 3):=by kernel_rfl
theorem u3:Tryz.prog.underlying 3=some (.int .i64):=by kernel_rfl
theorem k28:Tryz.prog.keyTypeAt 8 60=true:=by kernel_rfl
theorem c28:Tryz.prog.cellsOf 60=2:=by kernel_rfl
theorem c3:Tryz.prog.cellsOf 3=1:=by kernel_rfl
theorem zGA {k:IntKind} (hk:k = .i64∨k = .u64) {m:Nat} (h:m<4294967296):(Lit.int k (m:Int)).wf=true:=by
 rcases hk with rfl | rfl <;> simp [Lit.wf,IntKind.min,IntKind.max,IntKind.bits,IntKind.signed] <;> omega
theorem lits28 {a b:Nat} (ha:a<2147483648) (hb:b<2147483648):Tryz.prog.keyLits 8 60 [.int .i64 (a:Int),.int .i64 (b:Int)]=some [.int .i64 (a:Int),.int .i64 (b:Int)]:=by
 have w1:=zGA (k:=.i64) (.inl rfl) (show a<4294967296 by omega)
 have w2:=zGA (k:=.i64) (.inl rfl) (show b<4294967296 by omega)
 have one:∀ m:Nat,m<4294967296→Tryz.prog.keyLits 7 3 [.int .i64 (m:Int)]=some [.int .i64 (m:Int)]:=fun m hm=>by
  unfold Program.keyLits
  simp only [u3,zGA (k:=.i64) (.inl rfl) hm,and_self,if_true]
 unfold Program.keyLits
 simp only [u28,c28,c3,List.length_cons,List.length_nil,Nat.reduceAdd,if_true]
 rw [show List.range 2=[0,1] from rfl]
 simp only [List.mapM_cons,List.mapM_nil,Nat.zero_mul,Nat.one_mul,List.drop_zero,List.drop_succ_cons,List.take_succ_cons,List.take_zero,one a (by omega),one b (by omega)]
 rfl
theorem key_at:zL1 Tryz.prog 60:=fun x y hx hy=>by
 obtain ⟨a,b,c⟩:=x
 obtain ⟨d,e,f⟩:=y
 obtain ⟨w1,h1,h2⟩:=zAc hx.1
 obtain ⟨w2,h3,h4⟩:=zAc hx.2.1
 obtain ⟨w3,h5,h6⟩:=zAc hy.1
 obtain ⟨w4,h7,h8⟩:=zAc hy.2.1
 simp only at h1 h3 h5 h7
 subst h1 h3 h5 h7
 show eqK Tryz.prog 60 (.agg ⟨[.int .i64 (w1:Int),.int .i64 (w2:Int)]⟩) (.agg ⟨[.int .i64 (w3:Int),.int .i64 (w4:Int)]⟩)=_
 have f1:∀ a b:Int,(Value.agg ⟨[.int .i64 a,.int .i64 b]⟩).formed Tryz.prog 60=true:=fun a b=>by
  simp [Value.formed,u28,c28]
 unfold eqK
 rw [k28,f1,f1]
 show (bif true&&(true&&true&&true&&true) then eqL (Tryz.prog.keyLits 8 60 [.int .i64 (w1:Int),.int .i64 (w2:Int)]) (Tryz.prog.keyLits 8 60 [.int .i64 (w3:Int),.int .i64 (w4:Int)]) else none)=_
 rw [lits28 h2 h4,lits28 h6 h8]
 show some ((keq .i64 .i64&&ieq w1 w3)&&((keq .i64 .i64&&ieq w2 w4)&&true))=some (ieq w3 w1&&ieq w4 w2)
 rw [zBX,zAE,zAE,zAE,zAE]
 congr 1
 simp only [Bool.true_and,Bool.and_true]
 rw [Bool.beq_comm (a:=(w1:Int)),Bool.beq_comm (a:=(w2:Int))]
def fHi:Field:={ name := "Hi",type:=2,offset:=0,embedded:=false,tag := "",pkgPath := "",byteOffset:=0 }
def fLo:Field:={ name := "Lo",type:=106,offset:=1,embedded:=false,tag := "",pkgPath := "",byteOffset:=8 }
theorem u112:Tryz.prog.underlying 108=some (.struct #[fHi,fLo]):=by kernel_rfl
theorem u2:Tryz.prog.underlying 2=some (.int .i64):=by kernel_rfl
theorem u110:Tryz.prog.underlying 106=some (.int .u64):=by kernel_rfl
theorem k112:Tryz.prog.keyTypeAt 8 108=true:=by kernel_rfl
theorem ng112:zDC Tryz.prog 108=true:=by kernel_rfl
theorem c112:Tryz.prog.cellsOf 108=2:=by kernel_rfl
theorem c2:Tryz.prog.cellsOf 2=1:=by kernel_rfl
theorem c110:Tryz.prog.cellsOf 106=1:=by kernel_rfl
theorem zKg {n:Nat} (hn:n<4294967296):Tryz.prog.keyLits 8 108 (zM n)=some [.int .i64 0,.int .u64 (n:Int)]:=by
 have w0:(Lit.int .i64 0).wf=true:=zGA (k:=.i64) (m:=0) (.inl rfl) (by omega)
 have w1:=zGA (k:=.u64) (.inr rfl) hn
 have one:Tryz.prog.keyLits 7 2 [.int .i64 0]=some [.int .i64 0]:=by
  unfold Program.keyLits
  simp only [u2,w0,and_self,if_true]
 have two:Tryz.prog.keyLits 7 106 [.int .u64 (n:Int)]=some [.int .u64 (n:Int)]:=by
  unfold Program.keyLits
  simp only [u110,w1,and_self,if_true]
 unfold Program.keyLits
 simp only [u112,c112,zM,List.length_cons,List.length_nil,Nat.reduceAdd]
 rw [if_pos ⟨trivial,by kernel_rfl⟩]
 show Option.map List.flatten (List.mapM (fun f:Field=>Tryz.prog.keyLits 7 f.type (List.take (Tryz.prog.cellsOf f.type) (List.drop f.offset [.int .i64 0,.int .u64 (n:Int)]))) [fHi,fLo])=_
 simp only [List.mapM_cons,List.mapM_nil,show fHi.type=2 from rfl,show fLo.type=106 from rfl,show fHi.offset=0 from rfl,show fLo.offset=1 from rfl,c2,c110,List.drop_zero,List.drop_succ_cons,List.take_succ_cons,List.take_zero,one,two]
 rfl
theorem zL7 (n:Nat) (hn:n<4294967296):bin Tryz.prog .neq 108 (.agg ⟨zM n⟩) (.agg ⟨zM n⟩) = .ok (.bool false):=by
 show R.of "compared" (bif zDC Tryz.prog 108 then eqK Tryz.prog 108 (.agg ⟨zM n⟩) (.agg ⟨zM n⟩) else none) (fun b=>zBp (!b))=_
 have f1:(Value.agg ⟨zM n⟩).formed Tryz.prog 108=true:=by
  simp [Value.formed,u112,c112,zM]
 unfold eqK
 rw [ng112,k112,f1]
 show R.of "compared" (bif true&&(true&&true&&true&&true) then eqL (Tryz.prog.keyLits 8 108 (zM n)) (Tryz.prog.keyLits 8 108 (zM n)) else none) (fun b=>zBp (!b))=_
 rw [zKg hn]
 show R.ok (Value.bool (!((keq .i64 .i64&&ieq 0 0)&&((keq .u64 .u64&&ieq n n)&&true))))=_
 rw [zBX,zBX,zAE,zAE]
 simp
theorem zON:zDQ Tryz.prog 108:=w112
theorem comb_at:CombAt Tryz.prog orc0 43 60 61 62 63 64 65 88 117 91 80 108 60 93 92 119 (addR (zD Tryz.prog 62)).1 (addR (zD Tryz.prog 62)).2.1 (addR (zD Tryz.prog 62)).2.2 where
 cf:=c68
 no:=rfl
 is:=c80
 nis:=rfl
 of:=c81
 nof:=rfl
 ad:=c82
 nad:=rfl
 le:=c101
 nle:=rfl
 na:=c83
 nna:=rfl
 wn:=c104
 nwn:=rfl
 w:=zON
 c:=zL8
 k:=key_at
 eq:=zL7
 S:=zQ9
theorem comb_ok:zFQ Tryz.prog 43 zFm:=zKp pok comb_at
theorem len13:zw 13 4:=fun h nx=>by kernel_rfl
theorem len14:zw 14 4:=fun h nx=>by kernel_rfl
theorem len15:zw 15 4:=fun h nx=>by kernel_rfl
theorem len16:zw 16 5:=fun h nx=>by kernel_rfl
theorem len17:zw 17 5:=fun h nx=>by kernel_rfl
theorem len18:zw 18 5:=fun h nx=>by kernel_rfl
theorem len19:zw 19 5:=fun h nx=>by kernel_rfl
theorem len20:zw 20 5:=fun h nx=>by kernel_rfl
theorem len21:zw 21 5:=fun h nx=>by kernel_rfl
theorem len22:zw 22 5:=fun h nx=>by kernel_rfl
theorem len23:zw 23 5:=fun h nx=>by kernel_rfl
theorem len24:zw 24 5:=fun h nx=>by kernel_rfl
theorem len25:zw 25 5:=fun h nx=>by kernel_rfl
theorem len26:zw 26 5:=fun h nx=>by kernel_rfl
theorem len27:zw 27 5:=fun h nx=>by kernel_rfl
theorem len28:zw 28 5:=fun h nx=>by kernel_rfl
theorem len29:zw 29 5:=fun h nx=>by kernel_rfl
theorem len30:zw 30 5:=fun h nx=>by kernel_rfl
theorem len31:zw 31 5:=fun h nx=>by kernel_rfl
theorem len32:zw 32 6:=fun h nx=>by kernel_rfl
theorem len33:zw 33 6:=fun h nx=>by kernel_rfl
theorem len34:zw 34 6:=fun h nx=>by kernel_rfl
theorem len35:zw 35 6:=fun h nx=>by kernel_rfl
theorem len36:zw 36 6:=fun h nx=>by kernel_rfl
theorem len37:zw 37 6:=fun h nx=>by kernel_rfl
theorem len38:zw 38 6:=fun h nx=>by kernel_rfl
theorem len39:zw 39 6:=fun h nx=>by kernel_rfl
theorem len40:zw 40 6:=fun h nx=>by kernel_rfl
theorem len41:zw 41 6:=fun h nx=>by kernel_rfl
theorem len42:zw 42 6:=fun h nx=>by kernel_rfl
theorem len43:zw 43 6:=fun h nx=>by kernel_rfl
theorem len44:zw 44 6:=fun h nx=>by kernel_rfl
theorem len45:zw 45 6:=fun h nx=>by kernel_rfl
theorem len46:zw 46 6:=fun h nx=>by kernel_rfl
theorem len47:zw 47 6:=fun h nx=>by kernel_rfl
theorem len48:zw 48 6:=fun h nx=>by kernel_rfl
theorem len49:zw 49 6:=fun h nx=>by kernel_rfl
theorem len50:zw 50 6:=fun h nx=>by kernel_rfl
theorem len51:zw 51 6:=fun h nx=>by kernel_rfl
theorem len52:zw 52 6:=fun h nx=>by kernel_rfl
theorem len53:zw 53 6:=fun h nx=>by kernel_rfl
theorem len54:zw 54 6:=fun h nx=>by kernel_rfl
theorem len55:zw 55 6:=fun h nx=>by kernel_rfl
theorem len56:zw 56 6:=fun h nx=>by kernel_rfl
theorem len57:zw 57 6:=fun h nx=>by kernel_rfl
theorem len58:zw 58 6:=fun h nx=>by kernel_rfl
theorem len59:zw 59 6:=fun h nx=>by kernel_rfl
theorem len60:zw 60 6:=fun h nx=>by kernel_rfl
def bl (n:Nat):Nat:=if n=0 then 0 else Nat.log2 n+1
theorem bl_ok:∀ n,n≤60→bl n≤7∧(8≤n→2 ^ bl n≤2*n):=by decide +kernel
theorem zQH:∀ (n:Nat),n≤60→zw n (bl n)
 | 0,_=>len0
 | 1,_=>len1
 | 2,_=>len2
 | 3,_=>len3
 | 4,_=>len4
 | 5,_=>len5
 | 6,_=>len6
 | 7,_=>len7
 | 8,_=>len8
 | 9,_=>len9
 | 10,_=>len10
 | 11,_=>len11
 | 12,_=>len12
 | 13,_=>len13
 | 14,_=>len14
 | 15,_=>len15
 | 16,_=>len16
 | 17,_=>len17
 | 18,_=>len18
 | 19,_=>len19
 | 20,_=>len20
 | 21,_=>len21
 | 22,_=>len22
 | 23,_=>len23
 | 24,_=>len24
 | 25,_=>len25
 | 26,_=>len26
 | 27,_=>len27
 | 28,_=>len28
 | 29,_=>len29
 | 30,_=>len30
 | 31,_=>len31
 | 32,_=>len32
 | 33,_=>len33
 | 34,_=>len34
 | 35,_=>len35
 | 36,_=>len36
 | 37,_=>len37
 | 38,_=>len38
 | 39,_=>len39
 | 40,_=>len40
 | 41,_=>len41
 | 42,_=>len42
 | 43,_=>len43
 | 44,_=>len44
 | 45,_=>len45
 | 46,_=>len46
 | 47,_=>len47
 | 48,_=>len48
 | 49,_=>len49
 | 50,_=>len50
 | 51,_=>len51
 | 52,_=>len52
 | 53,_=>len53
 | 54,_=>len54
 | 55,_=>len55
 | 56,_=>len56
 | 57,_=>len57
 | 58,_=>len58
 | 59,_=>len59
 | 60,_=>len60
 | n+61,hn=>absurd hn (by omega)
theorem len_all:LenAll Tryz.prog orc0 93:=fun s n hn h nx=>by
 refine ⟨30,?_⟩
 have e:=zQH n hn h nx
 rw [show ((n:Int))=Int.ofNat n from rfl,e]
 exact satC_ok.2 ⟨bl n,rfl,(bl_ok n hn).1,(bl_ok n hn).2,rfl,rfl⟩
theorem q105:zD Tryz.prog 92=some (zQs 92 119 120 121 122 123 124 125 126 3):=by kernel_rfl
theorem q129:zD Tryz.prog 119=some (zMj 3):=by kernel_rfl
theorem q130:zD Tryz.prog 120=some (zMk 161 3):=by kernel_rfl
theorem q171:zD Tryz.prog 161=some (zJi 3):=by kernel_rfl
theorem q131:zD Tryz.prog 121=some (zIc 162 163 3):=by kernel_rfl
theorem q172:zD Tryz.prog 162=some (zGq 93):=by kernel_rfl
theorem q173:zD Tryz.prog 163=some (zQr):=by kernel_rfl
theorem q132:zD Tryz.prog 122=some (zFr 164 165):=by kernel_rfl
theorem q174:zD Tryz.prog 164=some (zJj 165):=by kernel_rfl
theorem q175:zD Tryz.prog 165=some (zNq 209):=by kernel_rfl
theorem q219:zD Tryz.prog 209=some (zGp 3):=by kernel_rfl
theorem q133:zD Tryz.prog 123=some (cfRev 3):=by kernel_rfl
theorem q134:zD Tryz.prog 124=some (zMh 3):=by kernel_rfl
theorem q135:zD Tryz.prog 125=some (zI9 3):=by kernel_rfl
theorem q136:zD Tryz.prog 126=some (zMi 3):=by kernel_rfl
theorem edge_swo:Sort.SWO (ltC cmpE) where
 irrefl:=fun x=>by
  have:¬ cmpE x x<0:=fun h=>zLF x x h h
  simpa [ltC] using this
 trans:=fun x y z h1 h2=>by
  have h1:cmpE x y<0:=by simpa [ltC] using h1
  have h2:cmpE y z<0:=by simpa [ltC] using h2
  have:cmpE x z<0:=by rw [zGn] at *; omega
  simpa [ltC] using this
 ntrans:=fun x y z h1 h2=>by
  have h1:¬ cmpE x y<0:=by simpa [ltC] using h1
  have h2:¬ cmpE y z<0:=by simpa [ltC] using h2
  have:=zLE z y x h2 h1
  simpa [ltC] using this
theorem pdq_at:PdqAt Tryz.prog orc0 92 119 120 121 122 123 124 125 126 3 161 165 209 164 162 163 93 65 encE cmpE where
 S:=⟨fun _=>rfl,fun _=>rfl,zMa⟩
 swo:=edge_swo
 cq:=q105
 nq:=rfl
 ci:=q129
 ni:=rfl
 ch:=q130
 nh:=rfl
 cs:=q171
 ns:=rfl
 cb:=q131
 nb:=rfl
 cn:=q172
 nn:=rfl
 len:=len_all.some
 cx:=q173
 nx:=rfl
 cc:=q132
 nc:=rfl
 ca:=q174
 na:=rfl
 cm:=q175
 nm:=rfl
 co:=q219
 no:=rfl
 cr:=q133
 nr:=rfl
 cp:=q134
 np:=rfl
 ce:=q135
 ne:=rfl
 ct:=q136
 nt:=rfl
def sort0Is:Prop:=∀ (h:Hp) (nx:Nat),zc Tryz.prog orc0 (cexA Tryz.prog orc0 60) 64 [.slice none 0 0,.func (.func 65) #[] #[]] h nx = .ok (.tuple #[]) h nx
theorem sort0:sort0Is:=fun h nx=>by kernel_rfl
theorem combF_at:CombF Tryz.prog orc0 43 60 61 62 63 64 65 88 117 91 80 108 60 (addR (zD Tryz.prog 62)).1 (addR (zD Tryz.prog 62)).2.1 (addR (zD Tryz.prog 62)).2.2 where
 cf:=c68
 no:=rfl
 is:=c80
 nis:=rfl
 of:=c81
 nof:=rfl
 ad:=c82
 nad:=rfl
 le:=c101
 nle:=rfl
 na:=c83
 nna:=rfl
 wn:=c104
 nwn:=rfl
 w:=zON
 c:=zL8
 k:=key_at
 eq:=zL7
 S:=fun l h nx b n cap sp hl hn hb hh=>sortF_cv pdq_at c84 rfl len_all hl hn hb hh
 S0:=fun h nx=>⟨60,by rw [sort0 h nx]; exact satC_ok.2 ⟨rfl,rfl⟩⟩
theorem combF_ok:zFQ Tryz.prog 43 zF3:=zQX pok combF_at
theorem zNU:zHG Tryz.prog zK4:=fun f g h=>by
 unfold zK4 at h
 cases h1:Nat.beq f 56 with
 | true =>
  have e:=Nat.eq_of_beq_eq_true h1
  subst e
  rw [h1] at h
  cases h
  exact sent_ok
 | false =>
  rw [h1] at h
  cases h2:Nat.beq f 111 with
  | true =>
   have e:=Nat.eq_of_beq_eq_true h2
   subst e
   rw [h2] at h
   cases h
   exact links_ok
  | false =>
   rw [h2] at h
   cases h3:Nat.beq f 241 with
   | true =>
    have e:=Nat.eq_of_beq_eq_true h3
    subst e
    rw [h3] at h
    cases h
    exact zNi
   | false =>
    rw [h3] at h
    cases h4:Nat.beq f 43 with
    | true =>
     have e:=Nat.eq_of_beq_eq_true h4
     subst e
     rw [h4] at h
     cases h
     exact comb_ok
    | false =>
     rw [h4] at h
     cases h
theorem zQC:zFQ Tryz.prog 6 zQV:=live_eq pok zNU live27
theorem a24:zFd Tryz.prog 24=some (some 2):=by kernel_rfl
open Go.ChangeShapes Go.WideShapes Go.ChangeAt Go.RowKit
theorem own:ownKnob Tryz.prog.godebug=none:=by kernel_rfl
theorem zKh:laidOutB Tryz.prog=true:=by kernel_rfl
def fG:Field:={ name := "G",type:=24,offset:=0,embedded:=false,tag := "",pkgPath := "",byteOffset:=0 }
def fV:Field:={ name := "V",type:=3,offset:=2,embedded:=false,tag := "",pkgPath := "",byteOffset:=32 }
def fR:Field:={ name := "R",type:=5,offset:=3,embedded:=false,tag := "",pkgPath := "",byteOffset:=40 }
def fC:Field:={ name := "C",type:=5,offset:=4,embedded:=false,tag := "",pkgPath := "",byteOffset:=41 }
def fN:Field:={ name := "N",type:=3,offset:=0,embedded:=false,tag := "",pkgPath := "",byteOffset:=0 }
def fEdges:Field:={ name := "Edges",type:=22,offset:=1,embedded:=false,tag := "",pkgPath := "",byteOffset:=8 }
def fFrom:Field:={ name := "From",type:=3,offset:=0,embedded:=false,tag := "",pkgPath := "",byteOffset:=0 }
def fTo:Field:={ name := "To",type:=3,offset:=1,embedded:=false,tag := "",pkgPath := "",byteOffset:=8 }
def fW:Field:={ name := "W",type:=2,offset:=2,embedded:=false,tag := "",pkgPath := "",byteOffset:=16 }
theorem u26:Tryz.prog.underlying 26=some (.struct #[fG,fV,fR,fC]):=by kernel_rfl
theorem u24:Tryz.prog.underlying 24=some (.struct #[fN,fEdges]):=by kernel_rfl
theorem u52:Tryz.prog.underlying 52=some (.struct #[fFrom,fTo,fW]):=by kernel_rfl
theorem u22:Tryz.prog.underlying 22=some (.slice 52):=by kernel_rfl
theorem u5:Tryz.prog.underlying 5=some (.int .u8):=by kernel_rfl
theorem u4:Tryz.prog.underlying 4=some .bool:=by kernel_rfl
theorem n26:Tryz.prog.cellsOf 26=5:=by kernel_rfl
theorem n24:Tryz.prog.cellsOf 24=2:=by kernel_rfl
theorem n52:Tryz.prog.cellsOf 52=3:=by kernel_rfl
theorem n22:Tryz.prog.cellsOf 22=1:=by kernel_rfl
theorem n5:Tryz.prog.cellsOf 5=1:=by kernel_rfl
theorem ct26:Tryz.prog.cellTypes Tryz.prog.depth 26=some [3,22,3,5,5]:=by kernel_rfl
theorem tri52:Tri Tryz.prog 52:=⟨⟨_,fFrom,fTo,fW,u52,rfl,rfl,rfl,rfl,rfl,rfl,u3,u3,u2,c3,c3,c2⟩,n52⟩
section
variable {H:Type} {enc:TypeId × Value→H} {w:World} {sp:Nat→Bool}
theorem zPm {r:Reach} {b0:Nat} {v:Value} {d:DataW H} {ps:List MemPlace} (hval:Value.okWide Tryz.prog w r b0 26 v) (h:DataW.Trod enc Tryz.prog w 0 sp true 26 v d ps) :
  ∃ (n V R C:Int) (sl:Value) (zs:List Edg3),v = .agg ⟨[.int .i64 n,sl,.int .i64 V,.int .u8 R,.int .u8 C]⟩∧((zs=[]∧sl = .slice none 0 0)∨∃ b off cap,sl = .slice (some ⟨b,off,none⟩) zs.length cap∧zEf w b off (flat enc3 zs)):=by
 unfold Value.okWide at hval
 rw [u26] at hval
 obtain ⟨cs,rfl,hsz,ts,hts,_,hcell⟩:=hval
 rw [ct26] at hts
 cases hts
 rw [n26] at hsz
 obtain ⟨l⟩:=cs
 match l,hsz with
 | [a,b,c,e,f],_ =>
  obtain ⟨fuel,hf⟩:=h
  have hf:DataW.trod enc Tryz.prog w 0 sp true fuel 26 [a,b,c,e,f]=some (d,ps):=hf
  obtain ⟨xs,n,rfl,_,hlen,hxl,hall⟩:=DataW.trod_struct u26 hf
  have hxl:xs.length=4:=hxl
  have get:∀ (i:Nat) (fd:Field),#[fG,fV,fR,fC][i]? = some fd→∃ y,DataW.trod enc Tryz.prog w 0 sp true n fd.type (([a,b,c,e,f].drop fd.offset).take (Tryz.prog.cellsOf fd.type))=some y:=fun i fd hfd=>by
   have hi:i<4:=(Array.getElem?_eq_some_iff.1 hfd).1
   exact ⟨xs[i]'(by omega),by rw [hall i fd hfd,List.getElem?_eq_getElem]⟩
  obtain ⟨y0,h0⟩:=get 0 fG rfl
  obtain ⟨y1,h1⟩:=get 1 fV rfl
  obtain ⟨y2,h2⟩:=get 2 fR rfl
  obtain ⟨y3,h3⟩:=get 3 fC rfl
  rw [show fG.type=24 from rfl,show fG.offset=0 from rfl,n24] at h0
  rw [show fV.type=3 from rfl,show fV.offset=2 from rfl,c3] at h1
  rw [show fR.type=5 from rfl,show fR.offset=3 from rfl,n5] at h2
  rw [show fC.type=5 from rfl,show fC.offset=4 from rfl,n5] at h3
  obtain ⟨V,rfl⟩:=zE4 u3 h1
  obtain ⟨R,rfl⟩:=zE4 u5 h2
  obtain ⟨C,rfl⟩:=zE4 u5 h3
  have h0:DataW.trod enc Tryz.prog w 0 sp true n 24 [a,b]=some y0:=h0
  obtain ⟨xs',n',rfl,_,_,hxl',hall'⟩:=DataW.trod_struct u24 h0
  have hxl':xs'.length=2:=hxl'
  have get':∀ (i:Nat) (fd:Field),#[fN,fEdges][i]? = some fd→∃ y,DataW.trod enc Tryz.prog w 0 sp true n' fd.type (([a,b].drop fd.offset).take (Tryz.prog.cellsOf fd.type))=some y:=fun i fd hfd=>by
   have hi:i<2:=(Array.getElem?_eq_some_iff.1 hfd).1
   exact ⟨xs'[i]'(by omega),by rw [hall' i fd hfd,List.getElem?_eq_getElem]⟩
  obtain ⟨z0,k0⟩:=get' 0 fN rfl
  obtain ⟨z1,k1⟩:=get' 1 fEdges rfl
  rw [show fN.type=3 from rfl,show fN.offset=0 from rfl,c3] at k0
  rw [show fEdges.type=22 from rfl,show fEdges.offset=1 from rfl,n22] at k1
  obtain ⟨N,rfl⟩:=zE4 u3 k0
  obtain ⟨u,hu,hok⟩:=hcell 1 b rfl
  cases hu
  obtain ⟨zs,_,hz⟩:=zPk (e3:=enc3) (k:=3) u22 n52 (fun _=>True) (fun n c y hy=>by obtain ⟨e,he,_⟩:=trod_tri tri52 hy; exact ⟨e,he,trivial⟩) k1 hok
  exact ⟨N,V,R,C,b,zs,rfl,hz⟩
end
end Go.Proofs.YtfebipifehfjlaaGreat
