/- Code over an abstract heap aS0 formulas, and their soundness: no condition. -/
import GoSem.Dispatch
import GoSem.ClaimKeys
import GoSem.ClaimWide
import Derived.RangeFuncLeaves
import Derived.OrdersIn
import Derived.Laws.Cells
import Derived.Laws.CopyRow
import Derived.DeepKeys3
import Derived.Laws.Pointers
set_option linter.all false
set_option maxHeartbeats 1000000
namespace Go.Ax
open Go
abbrev X:=Value
instance cVq:Coe Int X:=⟨λx=>.int .i64 x⟩
instance cWq:Coe Nat X:=⟨λx=>.int .i64 (x:Int)⟩
abbrev bb(p:Nat):Value:=.pointer (some ⟨p,0,none⟩)
abbrev ac:=@List
abbrev ay:=@Option
abbrev ao:=Bool
def zy:=@Array.foldl_toList
def qh:=@Array.getD_eq_getD_getElem?
def IB:=@Array.getElem?_modify
def zq:=@Array.getElem?_setIfInBounds
def Ew:=@Array.length_toList
def xN:=@Array.mk.injEq
def eA:=@Bool.and_eq_true
def zB:=@Bool.eq_iff_iff
def np:=@Bool.false_eq_true
def Nd:=@Bool.not_eq_true'
def xK:=@Classical.byContradiction
def IV:=@Classical.em
def vQ:=@Int.natCast_add
def IL:=@Int.toNat_natCast
def IE:=@List.Pairwise.filter
def M9:=@List.Pairwise.of_cons
def BV:=@List.Perm.refl
def BT:=@List.all_eq_true
def uA:=@List.any_eq_true
def kq:=@List.append_assoc
def hC:=@List.append_nil
def vR:=@List.cons.injEq
def Nh:=@List.cons_append
def Ni:=@List.drop_append
def Ix:=@List.drop_append_of_le_length
def xO:=@List.drop_drop
def zs:=@List.drop_eq_getElem_cons
def M7:=@List.drop_eq_nil_of_le
def Iz:=@List.drop_length_add_append
def M8:=@List.drop_of_length_le
def IG:=@List.drop_succ_cons
def EI:=@List.drop_take
def nr:=@List.drop_zero
def Es:=@List.eq_nil_of_length_eq_zero
def q6:=@List.ext_getElem?
def s4:=@List.filter_append
def IM:=@List.filter_congr
def q7:=@List.filter_cons
def zt:=@List.filter_eq_nil_iff
def zx:=@List.filter_eq_self
def IH:=@List.flatMap_append
def EF:=@List.foldl_cons
def Ev:=@List.getElem?_append
def uw:=@List.getElem?_append_left
def zr:=@List.getElem?_append_right
def ux:=@List.getElem?_drop
def qi:=@List.getElem?_eq_getElem
def IC:=@List.getElem?_eq_none
def g0:=@List.getElem?_eq_some_iff
def s5:=@List.getElem?_map
def vO:=@List.getElem?_of_mem
def Ex:=@List.getElem?_range
def vP:=@List.getElem?_set
def uy:=@List.getElem?_take
def Ey:=@List.getElem_of_mem
def IA:=@List.getLast?_eq_some_iff
def jk:=@List.length_append
def nq:=@List.length_cons
def EC:=@List.length_drop
def zu:=@List.length_filter_le
def gW:=@List.length_map
def BU:=@List.length_nil
def Ez:=@List.length_pos_iff
def EB:=@List.length_range
def nU:=@List.length_take
def zC:=@List.mapM_cons
def IU:=@List.mapM_nil
def hr:=@List.map_append
def q5:=@List.map_congr_left
def qj:=@List.map_cons
def EK:=@List.map_drop
def qk:=@List.map_map
def xP:=@List.map_nil
def EL:=@List.map_take
def hs:=@List.mem_append
def IF:=@List.mem_append_left
def hD:=@List.mem_cons
def nT:=@List.mem_cons_of_mem
def pi:=@List.mem_cons_self
def sb:=@List.mem_filter
def Et:=@List.mem_iff_getElem?
def gO:=@List.mem_map
def k1:=@List.mem_of_getElem?
def Nb:=@List.mem_of_mem_take
def IS:=@List.mem_range
def jl:=@List.mem_singleton
def s7:=@List.nil_append
def Nf:=@List.nodup_append
def s6:=@List.not_mem_nil
def q4:=@List.pairwise_append
def uz:=@List.pairwise_cons
def xL:=@List.pairwise_iff_getElem
def xM:=@List.pairwise_map
def q8:=@List.range_succ
def s3:=@List.rel_of_pairwise_cons
def EA:=@List.replicate_succ
def ID:=@List.set_append_right
def VI:=@List.set_eq_take_append_cons_drop
def hq:=@List.take_add_one
def Eu:=@List.take_append_drop
def Iy:=@List.take_append_of_le_length
def IT:=@List.take_left
def hB:=@List.take_length
def q3:=@List.take_of_length_le
def BQ:=@List.take_succ_cons
def s8:=@List.take_zero
def vS:=@Nat.add_assoc
def xR:=@Nat.add_mul
def II:=@Nat.add_sub_cancel
def M5:=@Nat.add_sub_cancel_left
def mM:=@Nat.add_zero
def IJ:=@Nat.and_one_is_mod
def uB:=@Nat.beq_refl
def sd:=@Nat.ble_eq
def zv:=@Nat.ble_eq_true_of_le
def vU:=@Nat.blt_eq
def Nj:=@Nat.div_eq_of_lt
def Na:=@Nat.div_lt_iff_lt_mul
def gE:=@Nat.eq_of_beq_eq_true
def zw:=@Nat.eq_of_testBit_eq
def zz:=@Nat.eq_zero_or_pos
def Nk:=@Nat.le_add_right
def BP:=@Nat.le_mul_of_pos_right
def lJ:=@Nat.le_of_ble_eq_true
def cR:=@Nat.le_refl
def vT:=@Nat.le_succ
def hJ:=@Nat.le_trans
def IK:=@Nat.lt_of_lt_of_le
def M3:=@Nat.lt_of_mul_lt_mul_right
def ED:=@Nat.lt_of_not_le
def iI:=@Nat.lt_or_ge
def EE:=@Nat.lt_succ_self
def zA:=@Nat.lt_trichotomy
def EG:=@Nat.min_eq_left
def IN:=@Nat.mod_eq_of_lt
def zD:=@Nat.mod_lt
def xQ:=@Nat.mul_comm
def M6:=@Nat.mul_div_cancel_left
def xS:=@Nat.mul_eq
def sc:=@Nat.mul_le_mul
def ph:=@Nat.mul_le_mul_right
def EO:=@Nat.mul_one
def s9:=@Nat.one_mul
def EM:=@Nat.sub_self
def EN:=@Nat.succ_mul
def IR:=@Nat.testBit_and
def EJ:=@Nat.testBit_or
def IP:=@Nat.testBit_succ
def iU:=@Nat.zero_add
def mb:=@Nat.zero_mul
def kt:=@Ne.symm
def jO:=@Option.bind_eq_some_iff
def IQ:=@Option.getD_some
def lI:=@Option.isSome_iff_exists
def BR:=@Option.isSome_none
def Nc:=@Option.isSome_some
def ma:=@Option.map_eq_some_iff
def EH:=@Option.map_some
def M4:=@Option.ne_none_iff_exists'
def BS:=@Option.some.injEq
def se:=@and_self
def iv:=@and_true
def sa:=@beq_eq_false_iff_ne
def uC:=@beq_iff_eq
def oH:=@beq_self_eq_true
def mN:=@cond_false
def ql:=@cond_true
def ht:=@decide_eq_false
def hf:=@decide_eq_true
def Ng:=@decide_eq_true_eq
def IW:=@exists_false
def ff:=@if_false
def kr:=@not_false_eq_true
def ks:=@or_false
theorem J{p:Prop}(h:p:=by omega):p:=h
theorem aa{p:Prop}(h:p:=by grind):p:=h
variable {t:TypeId} {v x dN:X} {e:TypeId} {cs:ac X} {c:X} {l:ac X} {ag:Array TypeId} {bc:World} {y:X} {b:Nat} {k il:X} {args:ac X} {bO:ay Nat} {cV aJ:ac X} {dl:ac MapEntry} {i:Nat} {es:ac MapEntry} {al aj:Nat} {e4:Type} {dst:ay Tmp} {g:ay (Nat × ao)} {len:Nat} {z:X} {L:Nat} {f:FuncId} {a8:Array Operand} {ea dB Lh iX:ay X} {xs:ac Operand} {q:IntKind} {d0:TypeId} {new:ac X} {bR aO:ay Nat} {cL nd:X} {jQ m off cap:Nat} {dw:IntKind} {d:Nat} {n4:World} {ow:X} {bL ok:ao} {eL:Fence} {Y sX:Nat}
section
variable {aB:Type}
def g3(l:ac aB)(n:Nat):ay aB:=l[n]?
def mO(l:ac aB)(n:Nat):ac aB:=l.drop n
def kP(l k:ac aB):ac aB:=l++k
def jq(l:ac aB):Nat:=l.length
def mS(aJ l:ac aB)(n:Nat):ay (ac aB):=if n+aJ.length<=l.length then some (l.take n++(aJ++l.drop (n+aJ.length)))else none
def mT(n:Nat)(l:ac aB):ay (ac aB):=if n<=l.length then some (l.take n)else none
theorem ja(l:ac aB)(n:Nat):g3 l n=l[n]?:=rfl
theorem rc(l:ac aB)(n:Nat):mO l n=l.drop n:=rfl
theorem j5(l k:ac aB):kP l k=l++k:=rfl
theorem nX(l:ac aB):jq l=l.length:=rfl
theorem tg(aJ l:ac aB)(n:Nat):mS aJ l n=if n+aJ.length<=l.length then some (l.take n++(aJ++l.drop (n+aJ.length)))else none:=rfl
theorem qn(n:Nat)(l:ac aB):mT n l=if n<=l.length then some (l.take n)else none:=rfl
end
inductive R (aB:Type) where
 |ok (x:aB)
 |no (why:String)
def R.bind{aB e4:Type}(r:R aB)(f:aB->R e4):R e4:=R.casesOn r (λx=>f x) (λw=>.no w)
def R.of{aB e4:Type}(w:String)(r:ay aB)(f:aB->R e4):R e4:=Option.casesOn r (.no w) (λx=>f x)
def af{aB:Type}(r:R aB)(k:aB->Prop):Prop:=match r with
 | .ok v=>k v
 | .no _=>False
def j7:X:=.tuple #[]
abbrev ck:=ac (Nat × ay X)
noncomputable section
def hv(ak:ck)(n:Nat):ay (ay X):=List.rec none (λp _ fb=>bif Nat.beq p.1 n then some p.2 else fb) ak
end
def eB(ak:ck)(d:ay Nat)(v:ay X):ck:=match d with
 |some d=>(d,v)::ak
 |none=>ak
def rq(v:ay X):X:=match v with|some v=>v|none=>j7
inductive gm where
 |cells (cs:List Value) (bL:Bool)
 |map (es:List MapEntry) (aAN:Nat)
 |iter (m:Option Nat) (yn:Nat) (seen:List Nat) (aAJ:Nat)
 |loop (st:Nat) (GC:Option Code) (lT:ck) (params:List Nat) (assign body:Code)
abbrev fm:=Nat->ay gm
abbrev ae:=fm
def u(h:ae)(b:Nat):ay gm:=h b
def T(h:ae)(b:Nat)(o:gm):ae:=λk=>if k=b then some o else h k
def wB(h:ae)(b:Nat):ae:=λk=>if k=b then none else h k
variable {ak:ck} {H gA:fm} {ab:ae} {aU:gm} {KJ:fm}
theorem vX(h:ae)(b:Nat)(o:gm)(k:Nat):u (T h b o) k=if k=b then some o else u h k:=rfl
theorem NT(h:ae)(b:Nat)(k:Nat):u (wB h b) k=if k=b then none else u h k:=rfl
def qq:X->ao
 | .bool _=>true | .int _ _=>true | .string _=>true | .pointer none=>true | .slice none _ _=>true | .map none=>true | .nilFunc=>true | .nilIface=>true
 | .func (.func _) ⟨[]⟩ ⟨[]⟩=>true
 |_=>false
def h2:ac X->ao
 | []=>true
 |x::xs=>qq x&&h2 xs
def uV:X->ao
 | .agg ⟨l⟩=>h2 l
 | .tuple ⟨l⟩=>h2 l
 |v=>qq v
def c7:X->ac X
 | .agg cs=>cs.toList
 |v=>[v]
def lo(a b:Int):ao:=Int.casesOn a (λm=>Int.casesOn b (λn=>Nat.blt m n) (λ_=>false)) (λm=>Int.casesOn b (λ_=>true) (λn=>Nat.blt n m))
def ga(a b:Int):ao:=Int.casesOn a (λm=>Int.casesOn b (λn=>Nat.beq m n) (λ_=>false)) (λm=>Int.casesOn b (λ_=>false) (λn=>Nat.beq n m))
def GD:IntKind->Nat
 | .i64=>9223372036854775808 | .u64=>0 | .i32=>2147483648 | .u32=>0 | .i16=>32768 | .u16=>0 | .i8=>128 | .u8=>0
def yy:IntKind->Nat
 | .i64=>9223372036854775808 | .u64=>18446744073709551616 | .i32=>2147483648 | .u32=>4294967296 | .i16=>32768 | .u16=>65536 | .i8=>128 | .u8=>256
def zY(k:IntKind)(a:Nat):Int:=bif Nat.blt a (yy k)then .ofNat a else k.wrap (.ofNat a)
def atX(k:IntKind)(a:Nat):Int:=bif Nat.blt a (GD k)then .negSucc a else k.wrap (.negSucc a)
def tq(k:IntKind)(n:Int):Int:=Int.casesOn n (λa=>zY k a) (λa=>atX k a)
def kix:IntKind->Nat
 | .i8=>0 | .i16=>1 | .i32=>2 | .i64=>3 | .u8=>4 | .u16=>5 | .u32=>6 | .u64=>7
def mn(a b:IntKind):ao:=Nat.beq (kix a) (kix b)
def und(P:Program)(t:TypeId):ay TypeDesc:=P.underlying t
def jR(P:Program)(t:TypeId):ay Nat:=Option.casesOn (P.info? t) none (λi=>some i.size)
def nY(P:Program)(t:TypeId):ay (ac X):=match P.info? t with
 |some i=>match i.zero with
  |some z=>bif uV z then some z.cells.toList else none
  |none=>none
 |none=>none
def JH(P:Program)(t:TypeId):ay X:=match P.info? t with
 |some i=>match i.zero with
  |some z=>bif uV z then some z else none
  |none=>none
 |none=>none
def pu(P:Program)(t:TypeId):ay (ay Nat):=match P.underlying t,jR P t with
 |some (.struct _),some n=>some (some n)
 |some (.array _ _),some n=>some (some n)
 |some _,some _=>some none
 |_,_=>none
def Cu(P:Program)(t:TypeId):ay Nat:=match P.underlying t with
 |some (.slice e)=>jR P e
 |_=>none
def rj(P:Program)(t:TypeId):ay TypeId:=match P.underlying t with
 |some (.slice e)=>some e
 |_=>none
inductive wQ where
 |slice (s:Nat)
 |array (n s:Nat)
def KK(P:Program)(t:TypeId):ay wQ:=match P.underlying t with
 |some (.slice e)=>match jR P e with|some s=>some (.slice s)|none=>none
 |some (.array n e)=>match jR P e with|some s=>some (.array n s)|none=>none
 |_=>none
def Cd(P:Program)(t:TypeId)(i:Nat):ay (Nat × TypeId):=match P.underlying t with
 |some (.struct dD)=>match g3 dD.toList i with
  |some f=>match jR P f.type with
   |some (_+1)=>some (f.offset,f.type)
   |_=>none
  |none=>none
 |_=>none
def cellsOf{e4:Type}(h:ae)(b:Nat)(k:ac X->ao->R e4):R e4:=Option.casesOn (u h b) (.no "no such block")
 (λo=>gm.casesOn o (λcs bL=>k cs bL) (λ_ _=>.no "cells expected") (λ_ _ _ _=>.no "cells expected") (λ_ _ _ _ _ _=>.no "cells expected"))
def Ko(r:ay (ac X)):R X:=Option.casesOn r (.no "load - out of block") (λl=>.ok (.agg ⟨l⟩))
def CJ(r:ay X):R X:=Option.casesOn r (.no "load - out of block") (λv=>.ok v)
def hg(bO:ay Nat)(off:Nat)(cs:ac X):R X:=Option.casesOn bO (CJ (g3 cs off)) (λn=>Ko (mT n (mO cs off)))
def Ae{e4:Type}(v:X)(k:Addr->R e4):R e4:=match v with
 | .pointer (some a)=>k a
 |_=>.no "address expected"
def g1:X->ao
 | .agg _=>false
 | .tuple _=>false
 |_=>true
def ef:ac X->ao
 | []=>true
 |x::xs=>bif g1 x then ef xs else false
def qr(h:ae)(b off:Nat)(l:ac X):R ae :=
 cellsOf h b (λcs bL=>Bool.casesOn bL (bif ef l then R.of "write - out of block" (mS l cs off) (λcs=>.ok (T h b (.cells cs false)))else .no "write - cells") (.no "write - read only"))
inductive fc where
 |val (v:Value) (h:ae) (U:Nat)
 |call (f:FuncId) (args:List Value) (h:ae) (U:Nat)
 |round (l:Nat) (args:List Value) (h:ae) (U:Nat)
 |no (why:String)
inductive kX where
 |ptr (o:gm)
 |slice (o:gm) (len cap:Nat)
 |map
def wR(U:Nat)(b:kX):X:=kX.casesOn b (λ_=>.pointer (some ⟨U,0,none⟩)) (λ_ len cap=>.slice (some ⟨U,0,none⟩) len cap) (.map (some U))
def sC(b:kX):gm:=kX.casesOn b (λo=>o) (λo _ _=>o) (.map [] 0)
def FC(l:ac X):R kX:=bif ef l then .ok (.ptr (.cells l false))else .no "cells"
def wa(l:ac X)(len cap:Nat):R kX:=bif ef l then .ok (.slice (.cells l false) len cap)else .no "cells"
def Jl(P:Program):ac Field->ay (ac (Nat × Nat))
 | []=>some []
 |f::dD=>match jR P f.type,Jl P dD with
  |some s,some r=>some ((f.offset,s)::r)
  |_,_=>none
def Pj(P:Program)(t:TypeId):ay (Nat->ay (Nat × Nat)):=match P.underlying t with
 |some (.struct dD)=>match Jl P dD.toList with
  |some ce=>some (g3 ce)
  |none=>none
 |some (.array _ e)=>match jR P e with
  |some s=>some (λi=>some (Nat.mul i s,s))
  |none=>none
 |_=>none
def gS:Nat->ac X->ac X
 |0,_=>[]
 |n+1,z=>kP z (gS n z)
def bB(v:X):R X:=match v with
 | .pointer (some a)=>.ok (.pointer (some a))
 | .func (.func f) a b=>.ok (.func (.func f) a b)
 | .func (.yield f) a b=>.ok (.func (.yield f) a b)
 | .iface t x=>.ok (.iface t x)
 |_=>.no "nilCheck"
def Rj(x y:Lit):ao:=match x,y with
 | .bool a,.bool b=>a == b
 | .int j a,.int k b=>mn j k&&ga a b
 | .string a,.string b=>a == b
 | .nil,.nil=>true
 | .float j a,.float k b=>decide (j=k)&&Nat.beq a b
 |_,_=>false
def yd:ac Lit->ac Lit->ao
 | [],[]=>true
 |x::xs,y::lU=>Rj x y&&yd xs lU
 |_,_=>false
def GY(a b:ay (ac Lit)):ay ao:=match a,b with
 |some a,some b=>some (yd a b)
 |_,_=>none
def qF(P:Program)(t:TypeId)(x y:X):ay ao :=
 bif P.keyTypeAt 8 t&&(x.formed P t&&y.formed P t&&h2 (c7 x)&&h2 (c7 y))then GY (P.keyLits 8 t (c7 x)) (P.keyLits 8 t (c7 y))else none
def wb(P:Program)(t:TypeId):ao:=match P.underlying t with
 |some (.int _)=>true
 |_=>false
def J6(P:Program)(t:TypeId)(k:IntKind)(a:Int)(y:X):ay ao:=match y with
 | .int dw b=>bif mn k dw&&wb P t then some (ga a b)else none
 |_=>none
def k5(P:Program)(t:TypeId)(x y:X):ay ao:=match x with
 | .int k a=>J6 P t k a y
 |x=>qF P t x y
def Ce(P:Program)(t:TypeId):ao:=!(P.eqGuardType P.depth t)
def agk(a:ao)(y:X):ay ao:=match y with
 | .bool b=>some (a == b)
 |_=>none
def Ov(P:Program)(t:TypeId):ao:=match P.underlying t with|some .bool=>true|_=>false
def wc(P:Program)(t:TypeId):ao:=match P.underlying t with|some (.pointer _)=>true|_=>false
def ns(P:Program)(t:TypeId):ao:=match P.underlying t with|some (.slice _)=>true|_=>false
def rk(P:Program)(t:TypeId):ao:=match P.underlying t with|some (.map _ _)=>true|_=>false
def GF(a:ay Addr)(y:X):ay ao:=match y with
 | .pointer b=>(match a,b with|none,b=>some b.isNone|some _,none=>some false|some _,some _=>none)
 |_=>none
def RP(a:ay Addr)(y:X):ay ao:=match y with
 | .slice b _ _=>(match a,b with|none,b=>some b.isNone|some _,none=>some false|some _,some _=>none)
 |_=>none
def agl(a:ay Nat)(y:X):ay ao:=match y with
 | .map b=>(match a,b with|none,b=>some b.isNone|some _,none=>some false|some _,some _=>none)
 |_=>none
def oT(P:Program)(t:TypeId)(x y:X):ay ao:=match x with
 | .bool a=>bif Ov P t then agk a y else none
 | .pointer a=>bif wc P t then GF a y else none
 | .slice a _ _=>bif ns P t then RP a y else none
 | .map a=>bif rk P t then agl a y else none
 | .agg xs=>bif Ce P t then qF P t (.agg xs) y else none
 |_=>none
def jc(k:IntKind)(n:Int):R X:=.ok (.int k n)
def mP(b:ao):R X:=.ok (.bool b)
def wi(op:BinOp)(k:IntKind)(a b:Int):R X:=bif lo b 0 then .no "shift" else match op with
 | .shl=>jc k (tq k (a*2 ^ (min b.toNat k.bits)))
 | .shr=>jc k (a.fdiv (2 ^ (min b.toNat k.bits)))
 |_=>.no "shift"
def Gm(op:BinOp)(k:IntKind)(a b:Int):R X:=match op with
 | .and=>jc k (k.wrap ((BitVec.ofInt k.bits a &&& BitVec.ofInt k.bits b).toNat))
 | .or=>jc k (k.wrap ((BitVec.ofInt k.bits a ||| BitVec.ofInt k.bits b).toNat))
 | .xor=>jc k (k.wrap ((BitVec.ofInt k.bits a ^^^ BitVec.ofInt k.bits b).toNat))
 | .andNot=>jc k (k.wrap ((BitVec.ofInt k.bits a &&& ~~~ (BitVec.ofInt k.bits b)).toNat))
 |_=>.no "bits"
def CZ(op:BinOp)(k:IntKind)(a b:Int):R X:=bif ga b 0 then .no "div" else match op with
 | .quo=>jc k (tq k (a.tdiv b))
 |_=>jc k (a.tmod b)
def Dp(op:BinOp)(k:IntKind)(a b:Int):R X:=match op with
 | .add=>jc k (tq k (Int.add a b))
 | .sub=>jc k (tq k (Int.sub a b))
 | .mul=>jc k (tq k (Int.mul a b))
 | .quo=>CZ .quo k a b
 | .rem=>CZ .rem k a b
 | .lss=>mP (lo a b)
 | .leq=>mP (!lo b a)
 | .gtr=>mP (lo b a)
 | .geq=>mP (!lo a b)
 | .eql=>mP (ga a b)
 | .neq=>mP (!ga a b)
 |op=>Gm op k a b
def x6:BinOp->ao
 | .shl=>true | .shr=>true|_=>false
def Ao(op:BinOp)(k:IntKind)(a:Int)(dw:IntKind)(b:Int):R X :=
 bif x6 op then wi op k a b else bif mn k dw then Dp op k a b else .no "kinds"
def agm(P:Program)(op:BinOp)(t:TypeId)(x y:X):R X:=match op with
 | .eql=>R.of "compared" (oT P t x y) (λb=>mP b)
 | .neq=>R.of "compared" (oT P t x y) (λb=>mP (!b))
 |_=>.no "binop"
def agn(op:BinOp)(k:IntKind)(a:Int)(y:X):R X:=match y with
 | .int dw b=>Ao op k a dw b
 |_=>.no "binop"
def bin(P:Program)(op:BinOp)(t:TypeId)(x y:X):R X:=match x with
 | .int k a=>agn op k a y
 |x=>agm P op t x y
def ds(op:UnOp)(v:X):R X:=match v with
 | .bool b=>(match op with | .not=>mP (!b)|_=>.no "unOp")
 | .int k n=>(match op with
  | .neg=>jc k (tq k (Int.sub 0 n))
  | .xor=>Gm .xor k (if k.signed then -1 else k.max) n
  |_=>.no "unOp")
 |_=>.no "unOp"
def n1(d:TypeDesc)(v:X):R X:=match v with
 | .int _ n=>(match d with | .int k=>jc k (tq k n)|_=>.no "convert - int")
 |_=>.no "convert A"
def rr{e4:Type}(v:X)(k:Nat->R e4):R e4:=match v with
 | .int _ n=>Int.casesOn n (λn=>k n) (λ_=>.no "nat expected")
 |_=>.no "nat expected"
def FD(a:ay Addr)(n:Nat)(wC:ao):ay Addr:=Option.casesOn a none (λa=>some ⟨a.block,Nat.add a.off n,bif wC then none else a.spot⟩)
def zQ(a:ay Addr):ao:=match a with
 |some ⟨_,_,some _⟩=>true
 |_=>false
def wS(a:ay Addr):ao:=match a with
 |some ⟨_,_,some 0⟩=>true
 |_=>false
def Li(a:ay Addr):ay Addr:=match a with
 |some a=>some ⟨a.block,a.off,some 0⟩
 |none=>none
def k4(a:ay Addr)(wC:ao)(n c:Nat):R X :=
 bif zQ a&&!wC then .ok (.slice (Li a) 0 0)else bif wS a then .no "slice - of nothing" else .ok (.slice (FD a 0 wC) n c)
def uW(s:Nat)(a:ay Addr)(wC:ao)(m fo l:Nat):R X :=
 bif Nat.beq m l then k4 a wC (Nat.sub fo l) (Nat.sub m l)else .ok (.slice (FD a (Nat.mul l s) wC) (Nat.sub fo l) (Nat.sub m l))
def nZ(s:Nat)(a:ay Addr)(cap:Nat)(wC:ao)(m fo l:Nat):R X :=
 bif Nat.ble m cap&&(Nat.ble fo m&&Nat.ble l fo)then uW s a wC m fo l else .no "slice - bounds"
def Ap(x:ay X)(d:Nat):R Nat:=match x with
 |none=>.ok d
 |some v=>rr v (λn=>.ok n)
def g5(s:Nat)(v:X)(al aj iX:ay X):R X:=match v with
 | .slice a len cap=>bif !iX.isSome||aj.isSome then R.bind (Ap iX cap) (λm=>R.bind (Ap aj len) (λfo=>R.bind (Ap al 0) (λl=>nZ s a cap iX.isSome m fo l)))else .no "slice - max without high"
 |_=>.no "slice"
def Gn(c a b:X):R X:=match c with
 | .bool c=>Bool.casesOn c (.ok b) (.ok a)
 |_=>.no "pick"
def CK(a:Addr)(n:Nat):X:=.pointer (some ⟨a.block,Nat.add a.off n,none⟩)
def xX(ud:wQ)(v:X)(i:Nat):R X:=match v with
 | .slice (some a) len _=>(match ud with | .slice s=>bif Nat.blt i len then .ok (CK a (Nat.mul i s))else .no "index" |_=>.no "index")
 | .pointer (some a)=>(match ud with | .array n s=>bif Nat.blt i n then .ok (CK a (Nat.mul i s))else .no "index" |_=>.no "index")
 |_=>.no "indexAddr"
def wq(off:Nat)(v:X):R X:=Ae v (λa=>.ok (CK a off))
def f0(k:wQ)(x i:X):R X:=rr i (λi=>xX k x i)
def Qu(P:Program)(t:TypeId)(v:X)(i:Nat):R X:=match v with
 | .agg cs=>(match P.underlying t with
  |some (.array n e)=>bif Nat.blt i n then R.of "index" (pu P e) (λbO=>R.of "index" (jR P e) (λs=>hg bO (Nat.mul i s) cs.toList))else .no "index"
  |_=>.no "index")
 |_=>.no "index"
def ayt(P:Program)(t:TypeId)(x i:X):R X:=rr i (λi=>Qu P t x i)
def yz(off:Nat)(bO:ay Nat)(v:X):R X:=match v with
 | .agg cs=>hg bO off cs.toList
 |_=>.no "field"
def qs(fb:ac X->R (ac X))(off sX:Nat)(l cells:ac X):R (ac X):=bif Nat.beq (jq l) sX then R.of "fill" (mS l cells off) fb else .no "fill - size"
def oO:ac (Nat × Nat × X)->ac X->R (ac X)
 | [],cells=>.ok cells
 |(off,sX,x)::xs,cells=>qs (oO xs) off sX (c7 x) cells
def cw(z:ac X)(mQ:ac (Nat × Nat × X)):R X:=R.bind (oO mQ z) (λl=>.ok (.agg ⟨l⟩))
def eO(len:Nat)(z:ac X)(mQ:ac (Nat × Nat × X)):R kX:=R.bind (oO mQ z) (λl=>wa l len len)
def tx(z:ac X)(l c:X):R kX:=rr l (λl=>rr c (λc=>bif Nat.ble l c&&Nat.ble c 100000 then wa (gS c z) l c else .no "makeSlice"))
def iO(bO:ay Nat)(h:ae)(x:X):R X:=Ae x (λa=>cellsOf h a.block (λcs _=>hg bO a.off cs))
def SJ(h:ae)(n:Nat)(l:ac X)(a:Addr):R ae:=bif Nat.beq (jq l) n then qr h a.block a.off l else .no "store - size"
def aN(h:ae)(n:Nat)(a x:X):R ae:=Ae a (SJ h n (c7 x))
def kO(P:Program)(t:TypeId)(k:X):ac MapEntry->Nat->ay (ay (Nat × MapEntry))
 | [],_=>some none
 |e::es,i=>match k5 P t k e.key with
  |some true=>some (some (i,e))
  |some false=>kO P t k es (Nat.succ i)
  |none=>none
def yo(P:Program)(t:TypeId)(k:X):ao:=(k5 P t k k).isSome
def zZ(a b:Addr):ao:=Nat.beq a.block b.block&&Nat.beq a.off b.off&&(match a.spot,b.spot with|none,none=>true|some x,some y=>Nat.beq x y|_,_=>false)
def qv(x y:X):ao:=match x with
 | .bool a=>(match y with | .bool b=>a == b|_=>false)
 | .int k m=>(match y with | .int dw n=>mn k dw&&ga m n|_=>false)
 | .pointer none=>(match y with | .pointer none=>true|_=>false)
 | .pointer (some a)=>(match y with | .pointer (some b)=>zZ a b|_=>false)
 | .slice none l c=>(match y with | .slice none cV bT=>Nat.beq l cV&&Nat.beq c bT | _=>false)
 | .slice (some a) l c=>(match y with | .slice (some b) cV bT=>zZ a b&&Nat.beq l cV&&Nat.beq c bT | _=>false)
 | .map none=>(match y with | .map none=>true|_=>false)
 | .map (some a)=>(match y with | .map (some b)=>Nat.beq a b|_=>false)
 | .nilFunc=>(match y with | .nilFunc=>true|_=>false)
 | .nilIface=>(match y with | .nilIface=>true|_=>false)
 | .func (.func f) ⟨[]⟩ ⟨[]⟩=>(match y with | .func (.func g) ⟨[]⟩ ⟨[]⟩=>Nat.beq f g|_=>false)
 |_=>false
def qw:ac X->ac X->ao
 | [],[]=>true
 |x::xs,y::lU=>qv x y&&qw xs lU
 |_,_=>false
def oP(x y:X):ao:=match x with
 | .agg ⟨xs⟩=>(match y with | .agg ⟨lU⟩=>qw xs lU|_=>false)
 | .tuple ⟨xs⟩=>(match y with | .tuple ⟨lU⟩=>qw xs lU|_=>false)
 | .func (.func f) ⟨a⟩ ⟨b⟩=>(match y with | .func (.func g) ⟨ev⟩ ⟨cr⟩=>Nat.beq f g&&qw a ev&&qw b cr | _=>false)
 |x=>qv x y
def GG:ac MapEntry->Nat->X->X->ac MapEntry
 | [],_,_,_=>[]
 |e::es,i,k,v=>Nat.casesOn i ({ e with key:=k,val:=v }::es) (λj=>e::GG es j k v)
def KL:ac MapEntry->Nat->ac MapEntry
 | [],_=>[]
 |e::es,i=>Nat.casesOn i es (λj=>e::KL es j)
def k6{e4:Type}(h:ae)(r:Nat)(k:ac MapEntry->Nat->R e4):R e4:=match u h r with
 |some (.map es c)=>k es c
 |_=>.no "map expected"
def Qv{e4:Type}(h:ae)(v:X)(k:ac MapEntry->R e4):R e4:=match v with
 | .map none=>k []
 | .map (some r)=>k6 h r (λes _=>k es)
 |_=>.no "map expected"
def oJ(ok:ao)(v:X)(b:ao):X:=bif ok then .tuple #[v,.bool b]else v
def j9(P:Program)(h:ae)(d0:TypeId)(z:X)(ok:ao)(m k:X):R X :=
 bif yo P d0 k then Qv h m (λes=>match kO P d0 k es 0 with
   |some (some (_,x))=>.ok (oJ ok x.val true)
   |some none=>.ok (oJ ok z false)
   |none=>.no "lookup - key")else .no "lookup - key"
def mU(P:Program)(d0:TypeId)(h:ae)(m k x:X):R ae :=
 bif yo P d0 k then(match m with
  | .map (some r)=>k6 h r (λes c=>match kO P d0 k es 0 with
   |some (some (i,e))=>bif oP e.key k then .ok (T h r (.map (GG es i k x) c))else .no "mapUpdate - which key"
   |some none=>.ok (T h r (.map (kP es [{ key:=k,val:=x,born:=c }]) (Nat.succ c)))
   |none=>.no "mapUpdate - key")
  |_=>.no "mapUpdate")else .no "mapUpdate - key"
def aar(h:ae)(U:Nat)(m:ay Nat)(c:Nat):fc:=.val (.pointer (some ⟨U,0,none⟩)) (T h U (.iter m c [] c)) (Nat.succ U)
def sn(h:ae)(U:Nat)(v:X):fc:=match v with
 | .map none=>aar h U none 0
 | .map (some r)=>(match u h r with
  |some (.map _ c)=>aar h U (some r) c
  |_=>.no "range")
 |_=>.no "range"
def leftOf(seen:ac Nat):ac MapEntry->ac MapEntry
 | []=>[]
 |e::es=>bif seen.any (Nat.beq e.born)then leftOf seen es else e::leftOf seen es
def J7(seen:ac Nat)(es:ac MapEntry)(st:Nat):ao:=seen.isEmpty||es.isEmpty||es.any (λe=>Nat.blt e.born st)
def Gp:ac Nat->ay Nat
 | []=>none
 | [x]=>some x
 |_::xs=>Gp xs
def CL(b:Nat):ac MapEntry->ay MapEntry
 | []=>none
 |e::es=>bif Nat.beq e.born b then some e else CL b es
def wj(h:ae)(v:X):R X:=Ae v (λa=>bif Nat.beq a.off 0 then(match u h a.block with
 |some (.iter (some r) _ seen st)=>k6 h r (λes c=>bif Nat.beq c st then(match Gp seen with
  |some b=>R.of "entry" (CL b es) (λe=>.ok (.tuple #[e.key,e.val]))
  |none=>.no "entry")else .no "entry - clock")
 |_=>.no "entry")else .no "entry")
def jD(h:ae)(a:ay Addr)(n:Nat)(k:ac X->R fc):R fc:=Nat.casesOn n (k []) (λ_=>Option.casesOn a (.no "read - nil")
 (λa=>cellsOf h a.block (λcs _=>R.of "read - out of block" (mT n (mO cs a.off)) k)))
def dI(r:R fc):fc:=R.casesOn r (λx=>x) (λw=>.no w)
def pv(h:ae)(U s:Nat)(l:ac X)(jQ:Nat):R fc:=bif Nat.beq s 0 then .no "append - no size" else .ok (.val (.slice (some ⟨U,0,some s⟩) jQ jQ) (T h U (.cells l false)) (Nat.succ U))
def Rk(h:ae)(U:Nat)(s:Nat)(a:ay Addr)(len cap jQ:Nat)(new:ac X):R fc:=match a with
 |none=>.ok (.val (.slice none jQ cap) h U)
 |some a=>(match new with
  | []=>.ok (.val (.slice (some a) jQ cap) h U)
  |_=>R.bind (qr h a.block (Nat.add a.off (Nat.mul len s)) new) (λh=>.ok (.val (.slice (some a) jQ cap) h U)))
def pw(h:ae)(U:Nat)(s:Nat)(a:ay Addr)(len cap jQ:Nat)(new:ac X):R fc:=match a with
 |none=>pv h U s new jQ
 |some a=>cellsOf h a.block (λcs bL=>R.of "append - out of block" (mT (Nat.mul len s) (mO cs a.off)) (λdZ=>match a.spot with
  |none=>pv h U s (kP dZ new) jQ
  |some mA=>bif !bL&&Nat.beq a.off 0&&Nat.beq (jq cs) (Nat.mul len s)&&Nat.beq mA s&&Nat.beq len cap&&ef new then pv (wB h a.block) U s (kP dZ new) jQ else .no "append - inner"))
def ge(s:Nat)(h:ae)(U:Nat)(a:ay Addr)(len cap n:Nat)(new:ac X):R fc :=
 bif Nat.ble (Nat.add len n) cap then Rk h U s a len cap (Nat.add len n) new else
 bif Nat.ble (Nat.mul (Nat.add len n) s) 1000000&&Nat.ble (Nat.add len n) 1000000 then pw h U s a len cap (Nat.add len n) new else .no "append - great"
def dn(s:Nat)(h:ae)(U:Nat)(x y:X):R fc:=match x with
 | .slice a len cap=>(match y with
  | .slice b n _=>jD h b (Nat.mul n s) (λnew=>ge s h U a len cap n new)
  |_=>.no "append")
 |_=>.no "append"
def FE(z:ac X)(s:Nat)(h:ae)(U:Nat)(x y:X):R fc:=match x with
 | .slice a len cap=>rr y (λn=>bif Nat.ble n 1000000 then ge s h U a len cap n (gS n z)else .no "append")
 |_=>.no "append"
def rm(P:Program)(t:ay TypeId):ao:=match t with
 |some t=>(match P.underlying t with|some (.int _)=>true|_=>false)
 |none=>false
def acS(P:Program)(t:ay TypeId):ao:=match t with
 |some t=>(P.underlying t).isSome
 |none=>true
def ye(P:Program)(e:TypeId):ao:=Nat.ble (((P.info? e).map (·.bytes)).getD 1000001) 1000000
def yA(v:X):R X:=match v with | .slice _ n _=>jc .i64 (.ofNat n)|_=>.no "len"
def wD(h:ae)(v:X):R X:=match v with
 | .map none=>jc .i64 (.ofNat 0)
 | .map (some r)=>k6 h r (λes _=>jc .i64 (.ofNat (jq es)))
 |_=>.no "len"
def ago(v:X):R X:=match v with
 | .slice none _ c=>jc .i64 (.ofNat c)
 | .slice (some ⟨_,_,none⟩) _ c=>jc .i64 (.ofNat c)
 |_=>.no "cap"
def GH(P:Program)(t:TypeId)(v:X):R X:=bif ns P t then ago v else .no "cap"
def J8(P:Program)(t:TypeId)(h:ae)(U:Nat)(a:Addr)(n:Nat):R fc :=
 R.of "clear" (rj P t) (λe=>R.of "clear" (nY P e) (λz=>R.bind (qr h a.block a.off (gS n z)) (λh=>.ok (.val j7 h U))))
def F5(P:Program)(t:TypeId)(h:ae)(U:Nat)(v:X):R fc:=match v with
 | .map none=>.ok (.val j7 h U)
 | .map (some r)=>k6 h r (λ_ c=>.ok (.val j7 (T h r (.map [] c)) U))
 | .slice none _ _=>.ok (.val j7 h U)
 | .slice (some a) n _=>Nat.casesOn n (.ok (.val j7 h U)) (λm=>J8 P t h U a (Nat.succ m))
 |_=>.no "clear"
def Pk(P:Program)(d0:TypeId)(h:ae)(U:Nat)(m k:X):R fc:=match m with
 | .map (some r)=>k6 h r (λes c=>match kO P d0 k es 0 with
  |some (some (i,_))=>.ok (.val j7 (T h r (.map (KL es i) c)) U)
  |some none=>.ok (.val j7 h U)
  |none=>.no "delete - key")
 |_=>.no "delete"
def FF(P:Program)(t:TypeId)(h:ae)(U:Nat)(m k:X):R fc:=match P.underlying t with
 |some (.map d0 _)=>bif yo P d0 k then Pk P d0 h U m k else .no "delete - key"
 |_=>.no "delete"
def Rl(s:Nat)(h:ae)(U:Nat)(x y:X):R fc:=match x with
 | .slice a len _=>(match y with
  | .slice b n _=>jD h b (Nat.mul (Nat.min n len) s) (λl=>match l with
   | []=>.ok (.val (.int .i64 (.ofNat (Nat.min n len))) h U)
   |_=>(match a with
    |some a=>R.bind (qr h a.block a.off l) (λh=>.ok (.val (.int .i64 (.ofNat (Nat.min n len))) h U))
    |none=>.no "copy"))
  |_=>.no "copy")
 |_=>.no "copy"
def min2(b:ao)(x y:X):R X:=match x with
 | .int k m=>(match y with
  | .int dw n=>bif mn k dw then(bif b then jc k (bif lo n m then n else m)else jc k (bif lo m n then n else m))else .no "min"
  |_=>.no "min")
 |_=>.no "min"
def agp(l:ac X)(k:X->R fc):R fc:=match l with
 | [x]=>k x
 |_=>.no "one argument expected"
def GI(l:ac X)(k:X->X->R fc):R fc:=match l with
 | [x,y]=>k x y
 |_=>.no "two arguments expected"
def pk(P:Program)(b:Builtin)(ag:ac TypeId)(h:ae)(U:Nat)(args:ac X):R fc:=match b with
 | .append=>R.of "append" (g3 ag 0) (λt=>R.of "append" (rj P t) (λe=>R.of "append" (jR P e) (λs=>R.of "append" (nY P e) (λz =>
  bif Nat.beq (jq z) s&&ye P e&&rm P (g3 ag 1)then GI args (λx y=>FE z s h U x y)else .no "append - element"))))
 | .delete=>R.of "delete" (g3 ag 0) (λt=>GI args (λx y=>FF P t h U x y))
 | .clear=>R.of "clear" (g3 ag 0) (λt=>bif rk P t||ns P t then agp args (λv=>F5 P t h U v)else .no "clear")
 | .copy=>R.of "copy" (g3 ag 0) (λt=>R.of "copy" (Cu P t) (λs=>GI args (λx y=>Rl s h U x y)))
 |_=>.no "builtin"
def Dq{aB:Type}(r:R aB)(f:aB->fc):fc:=R.casesOn r (λx=>f x) (λw=>.no w)
def SK{aB:Type}(w:String)(r:ay aB)(f:aB->fc):fc:=Option.casesOn r (.no w) (λx=>f x)
def hV(h:ae)(U:Nat)(aJ:ac X)(f:X):fc:=match f with
 | .func fn a b=>(match fn with
  | .func f=>.call f (kP a.toList (kP aJ b.toList)) h U
  | .yield l=>.round l (kP a.toList aJ) h U
  |_=>.no "call")
 |_=>.no "call"
def wt(P:Program)(h:ae)(t:TypeId)(xv:ao)(y:X):R X:=match P.underlying t with
 |some (.pointer e)=>bif xv then .ok y else R.of "type" (pu P e) (λbO=>iO bO h y)
 |some _=>bif xv then .no "invoke - pointer method" else .ok y
 |none=>.no "invoke - type"
def re(P:Program)(t:TypeId)(m:String):ay (FuncId × ao):=match P.info? t with
 |some i=>(match i.methods.find? (λx=>x.name == m)with
  |some x=>(match x.path with
   |⟨[]⟩=>x.func
   |_=>none)
  |none=>none)
 |none=>none
def mc(P:Program)(h:ae)(U:Nat)(aJ:ac X)(m:String)(v:X):fc:=match v with
 | .iface t y=>SK "invoke - method" (re P t m) (λH1=>Dq (wt P h t H1.2 y) (λy=>.call H1.1 (y::aJ) h U))
 |_=>.no "invoke"
def zG(P:Program)(t:TypeId):ao:=match P.underlying t with
 |some (.interface _)=>false
 |some _=>true
 |none=>false
def FG(P:Program)(Yl:TypeId)(ok:ao)(v:X):R X:=match v with
 | .iface t y=>bif zG P Yl&&Nat.beq t Yl then .ok (oJ ok y true)else .no "typeAssert"
 |_=>.no "typeAssert"
def cu(v:X)(i:Nat):R X:=match v with
 | .tuple aJ=>R.of "extract" (g3 aJ.toList i) (λv=>.ok v)
 |_=>.no "extract"
inductive e5 where
 |t (n:Nat)
 |v (x:Value)
def co(x:Operand):ay e5:=match x with
 | .tmp t=>some (.t t)
 | .const v=>bif uV v then some (.v v)else none
 | .func f=>some (.v (.func (.func f) #[] #[]))
 | .global _=>none
def yK:ac Operand->ay (ac e5)
 | []=>some []
 |x::xs=>match co x,yK xs with
  |some y,some lU=>some (y::lU)
  |_,_=>none
def GZ(x:ay Operand):ay (ay e5):=match x with
 |none=>some none
 |some x=>match co x with
  |some y=>some (some y)
  |none=>none
inductive H2 where
 |h6 (x:e5)
 |pick (c a b:e5)
 |bin (op:BinOp) (t:TypeId) (x y:e5)
 |un (op:UnOp) (x:e5)
 |conv(d:TypeDesc) (x:e5)
 |vi (off:Nat) (bO:Option Nat) (x:e5)
 |agq (off:Nat) (x:e5)
 |ixA (k:wQ) (x i:e5)
 |idx (t:TypeId) (x i:e5)
 |nf (s:Nat) (x:e5) (al aj iX:Option e5)
 |ext (x:e5) (i:Nat)
 |agr (x:e5)
 |mkf (f:FuncId) (a b:List e5)
 |ifc (t:TypeId) (x:e5)
 |asr (a:TypeId) (ok:Bool) (x:e5)
 |U3 (b:Bool) (x y:e5)
 |cap (t:TypeId) (x:e5)
 |build (z:List Value) (mQ:List (Nat × Nat × e5))
inductive Ec where
 |new (l:List Value)
 |box (x:e5)
 |SL (len:Nat) (base:List Value) (mQ:List (Nat × Nat × e5))
 |mkm
 |mks (z:List Value) (l c:e5)
inductive G0 where
 |ld (bO:Option Nat) (x:e5)
 |lkp (d0:TypeId) (z:Value) (m k:e5) (ok:Bool)
 |lens (x:e5)
 |ags (x:e5)
 |entry (x:e5)
inductive vB where
 |st (n:Nat) (a x:e5)
 |yL (d0:TypeId) (m k x:e5)
 |ry (x:e5)
 |fO (x:e5)
 |call (f:FuncId) (args:List e5)
 |Af (f:e5) (args:List e5)
 |app (s:Nat) (x y:e5)
 |bi (b:Builtin) (ag:List TypeId) (args:List e5)
 |inv (r:e5) (m:String) (args:List e5)
inductive ng where
 |fy (e:H2)
 |ix (e:Ec)
 |red (e:G0)
 |fz (e:vB)
structure lV where
 g:ay (Nat × ao)
 d:ay Nat
 c:Nat
 k:ng
inductive kF where
 |skip
 |ty (l:List lV)
 |C0 (l:List lV)
 |seq (a b:kF)
 |cond (c:e5) (a b:kF)
 |block (id:Nat) (c:kF)
 |loop (c:kF)
 |exit (id:Nat)
 |ret
 |scope (c:kF)
 |xw (f:e5) (ce:List Nat) (a b:Code)
 |no
structure aBA where
 body:kF
 res:ac ResultVar
def Cv(aeV:Nat->ay (Nat × Nat)):ac (Nat × Operand)->ay (ac (Nat × Nat × e5))
 | []=>some []
 |x::xs=>match aeV x.1,co x.2,Cv aeV xs with
  |some p,some y,some r=>some ((p.1,p.2,y)::r)
  |_,_,_=>none
def aas(f:e5)(jf:ac e5):vB:=match f with
 | .v (.func (.func g) ⟨[]⟩ ⟨[]⟩)=>.call g jf
 |f=>.Af f jf
def Dr(P:Program)(b:Builtin)(ag:ac TypeId)(jf:ac e5):ay ng:=match b with
 | .len=>(match jf with
  | [x]=>(g3 ag 0).bind λt=>(match P.underlying t with
   |some (.slice _)=>some (.red (.lens x))
   |some (.map _ _)=>some (.red (.ags x))
   |_=>none)
  |_=>none)
 | .min=>(match jf with | [x,y]=>some (.fy (.U3 true x y))|_=>none)
 | .max=>(match jf with | [x,y]=>some (.fy (.U3 false x y))|_=>none)
 | .cap=>(match jf with | [x]=>(g3 ag 0).map λt=>.fy (.cap t x)|_=>none)
 | .append=>bif rm P (g3 ag 1)then some (.fz (.bi .append ag jf))else(g3 ag 0).bind λt=>(rj P t).bind λe=>(jR P e).bind λs=>(nY P e).bind λz =>
    bif Nat.beq (jq z) s&&ye P e&&(!rm P (g3 ag 1)&&acS P (g3 ag 1))then(match jf with | [x,y]=>some (.fz (.app s x y))|_=>none)else none
 |b=>some (.fz (.bi b ag jf))
def oV(P:Program)(o:Op):ay ng:=match o with
 | .move x=>(co x).map λx=>.fy (.h6 x)
 | .assign x=>(co x).map λx=>.fy (.h6 x)
 | .pick c a b=>(co c).bind λc=>(co a).bind λa=>(co b).map λb=>.fy (.pick c a b)
 | .build t mQ=>(nY P t).bind λz=>(Pj P t).bind λpl=>(Cv pl mQ.toList).map λce=>.fy (.build z ce)
 | .nilCheck x=>(co x).map λx=>.fy (.agr x)
 | .binOp op t x y _=>(co x).bind λx=>(co y).map λy=>.fy (.bin op t x y)
 | .unOp op _ x=>(co x).map λx=>.fy (.un op x)
 | .convert s d x=>(und P s).bind λ_=>(und P d).bind λd=>(co x).map λx=>.fy (.conv d x)
 | .makeInterface t x=>bif zG P t then(co x).map λx=>.fy (.ifc t x)else none
 | .makeFunc fn a b=>(match fn with
  | .func f=>(yK a.toList).bind λa=>(yK b.toList).map λb=>.fy (.mkf f a b)
  |_=>none)
 | .slice t x al aj iX=>(Cu P t).bind λs=>(co x).bind λx=>(GZ al).bind λal=>(GZ aj).bind λaj=>(GZ iX).map λiX=>.fy (.nf s x al aj iX)
 | .fieldAddr s x f=>(Cd P s f).bind λf=>(co x).map λx=>.fy (.agq f.1 x)
 | .field s x f=>(Cd P s f).bind λf=>(pu P f.2).bind λbO=>(co x).map λx=>.fy (.vi f.1 bO x)
 | .indexAddr t x ud=>(KK P t).bind λk=>(co x).bind λx=>(co ud).map λi=>.fy (.ixA k x i)
 | .index t x ud=>(co x).bind λx=>(co ud).map λi=>.fy (.idx t x i)
 | .extract x i=>(co x).map λx=>.fy (.ext x i)
 | .typeAssert x _ a ok=>(co x).map λx=>.fy (.asr a ok x)
 | .alloc e=>(nY P e).bind λl=>bif ef l then some (.ix (.new l))else none
 | .box _ x=>(co x).map λx=>.ix (.box x)
 | .buildSlice t len mQ=>(rj P t).bind λe=>(jR P e).bind λs=>(nY P e).bind λz =>
   bif Nat.beq (jq z) s&&Nat.ble (Nat.mul len s) 1000000 then(Cv (λi=>some (Nat.mul i s,s)) mQ.toList).map λce=>.ix (.SL len (gS len z) ce)else none
 | .makeMap _ none=>some (.ix .mkm)
 | .makeSlice t l c=>(rj P t).bind λe=>(nY P e).bind λz =>
   bif Nat.beq (jq z) (((P.info? e).map (·.size)).getD 0)&&Nat.ble (((P.info? e).map (·.bytes)).getD 1000001) 1000000 then(co l).bind λl=>(co c).map λc=>.ix (.mks z l c)else none
 | .load t a=>(pu P t).bind λbO=>(co a).map λa=>.red (.ld bO a)
 | .lookup t x ud ok=>(match P.underlying t with
  |some (.map d0 e)=>(JH P e).bind λz=>(co x).bind λm=>(co ud).map λk=>.red (.lkp d0 z m k ok)
  |_=>none)
 | .entry x=>(co x).map λx=>.red (.entry x)
 | .store t a x=>(jR P t).bind λn=>(co a).bind λa=>(co x).map λx=>.fz (.st n a x)
 | .mapUpdate t m k x=>(match P.underlying t with
  |some (.map d0 _)=>(co m).bind λm=>(co k).bind λk=>(co x).map λx=>.fz (.yL d0 m k x)
  |_=>none)
 | .range t x=>bif rk P t then(co x).map λx=>.fz (.ry x)else none
 | .next it s=>bif s then none else(co it).map λx=>.fz (.fO x)
 | .call c=>(yK c.args.toList).bind λjf=>(match c.callee with
  | .value f=>(co f).map λf=>.fz (aas f jf)
  | .invoke r m=>(co r).map λr=>.fz (.inv r m jf)
  | .builtin b=>Dr P b c.argTypes.toList jf)
 |_=>none
def jn(k:ng):ao:=match k with | .fz _=>true|_=>false
def zd(all:ac Oper)(g:ay (Nat × ao)):ay (ay (Nat × ao)):=match g with
 |none=>some none
 |some (j,b)=>(g3 all j).bind λo=>o.dst.map λd=>some (d,b)
def agt(P:Program)(all:ac Oper)(c:Nat)(o:Oper):ay lV:=(zd all o.guard).bind λg=>(oV P o.op).map λk=>⟨g,o.dst,c,k⟩
def KM(P:Program)(all:ac Oper):ac Oper->ay (ac lV)
 | []=>some []
 |o::os=>(agt P all 0 o).bind λi=>(KM P all os).map λis=>i::is
structure eR where
 i:Nat
 o:Oper
 k:ng
 vj:Nat
def jI(m k:Nat):ao:=Nat.beq (Nat.land (Nat.shiftRight m k) 1) 1
def KN(acc:ac Nat):ac Edge->Nat->Nat
 | [],s=>s
 |e::es,s=>KN acc es (bif Region.binds .any e then Nat.lor (Nat.lor s (Nat.pow 2 e.on)) ((g3 acc e.on).getD 0)else s)
def Kp:ac Oper->ac Nat->ac Nat
 | [],acc=>acc
 |o::os,acc=>Kp os (kP acc [KN acc o.after.toList 0])
structure h7 where
 i:Nat
 o:Oper
 k:ng
 e:ao
 Ed:Nat
 lT:Nat
 am:Nat
def C1(d:ay Nat):Nat:=Option.casesOn d 0 (λd=>Nat.pow 2 d)
def C2:ac Operand->Nat
 | []=>0
 | .tmp t::xs=>Nat.lor (Nat.pow 2 t) (C2 xs)
 |_::xs=>C2 xs
def KO(a8:List Oper)(g:Option (Nat × Bool)):Nat:=match g with
 |some (g,_)=>(match g3 a8 g with|some o=>C1 o.dst|none=>0)
 |none=>0
def RQ(a8:ac Oper)(o:Oper):Nat:=Nat.lor (C1 o.dst) (Nat.lor (C2 o.op.operands.toList) (KO a8 o.guard))
def KP(P:Program)(all:ac Oper):Nat->ac Oper->ac Nat->ay (ac h7)
 |j,o::os,a::jf=>(oV P o.op).bind λk=>(KP P all (Nat.succ j) os jf).map λbC=>{ i:=j,o:=o,k:=k,e:=jn k,Ed:=C1 o.dst,lT:=RQ all o,am:=a }::bC
 |_,_,_=>some []
def Gq(am ke:Nat):ac h7->ac h7
 | []=>[]
 |x::xs=>bif jI am x.i&&!jI ke x.i then x::Gq am ke xs else Gq am ke xs
def Gr(ke:Nat):ac h7->ac h7
 | []=>[]
 |x::xs=>bif jI ke x.i then Gr ke xs else x::Gr ke xs
def tl(all:ac h7):ac h7->Nat->ac h7
 | [],ke=>Gr ke all
 |x::xs,ke=>bif x.e&&!jI ke x.i then kP (Gq x.am ke all) (x::tl all xs (Nat.lor ke (Nat.lor x.am (Nat.pow 2 x.i))))else tl all xs ke
def RR(a b:Nat):ao:=Nat.beq (Nat.land a b) 0
def CM(x y:h7):ao:=!Nat.beq x.i y.i&&!jI x.am y.i&&(!y.e||jI y.am x.i)&&(jI y.am x.i||(RR x.Ed y.lT&&RR y.Ed x.lT))
def C3(x:h7):ac h7->ao
 | []=>true
 |y::lU=>bif CM x y then C3 x lU else false
def F6:ac h7->ao
 | []=>true
 |x::xs=>bif C3 x xs then F6 xs else false
def Aq:ac h7->Nat
 | []=>0
 |x::xs=>Nat.lor (Nat.pow 2 x.i) (Aq xs)
def Ar(j:Nat):ac Edge->ao
 | []=>true
 |e::es=>bif !Region.binds .any e||Nat.blt e.on j then Ar j es else false
def GJ:Nat->ac Oper->ao
 |_,[]=>true
 |j,o::os=>bif Ar j o.after.toList then GJ (Nat.succ j) os else false
def GK(am:Nat):ac h7->Nat
 | []=>0
 |y::lU=>bif y.e&&!jI am y.i then Nat.succ (GK am lU)else GK am lU
def sp:ac h7->ac h7->ac eR
 |_,[]=>[]
 |before,x::xs=>{ i:=x.i,o:=x.o,k:=x.k,vj:=GK x.am before }::sp (x::before) xs
def atY(a8:ac Oper)(l:ac h7):ay (ac eR):=
 bif Nat.beq (jq l) (jq a8)&&(Nat.beq (Aq l) (Nat.pred (Nat.pow 2 (jq a8)))&&(GJ 0 a8&&F6 l))then some (sp [] l)else none
def Qw(P:Program)(a8:ac Oper):ay (ac eR):=(KP P a8 0 a8 (Kp a8 [])).bind λbC=>atY a8 (tl bC bC 0)
def F7(all:ac Oper):ac eR->ay (ac lV)
 | []=>some []
 |s::bQ=>(zd all s.o.guard).bind λg=>(F7 all bQ).map λis=>⟨g,s.o.dst,s.vj,s.k⟩::is
def RS(P:Program)(a8:ac Oper)(C4:ao):kF:=bif C4
 then(match(Qw P a8).bind (F7 a8)with|some l=>.C0 l|none=>.no)
 else(match KM P a8 a8 with|some l=>.ty l|none=>.no)
def comp(P:Program):Code->kF
 | .skip=>.skip
 | .label _=>.skip
 | .scope c=>.scope (comp P c)
 | .region _ a8 C4=>RS P a8.toList C4
 | .seq a b=>.seq (comp P a) (comp P b)
 | .cond x a b=>(match co x with
  |some x=>.cond x (comp P a) (comp P b)
  |none=>.no)
 | .block id c=>.block id (comp P c)
 | .loop c=>.loop (comp P c)
 | .exit id=>.exit id
 | .ret=>.ret
 | .rangeFunc f ce a b=>(match co f with|some f=>.xw f ce.toList a b|none=>.no)
 |_=>.no
def yf(P:Program)(f:FuncId):ay aBA:=match g3 P.funcs.toList f with
 |some fn=>(match fn.body with
  |some c=>some { body:=comp P c,res:=fn.results.toList }
  |none=>none)
 |none=>none
structure Place where
 ct:Nat
 off:Nat
 spare:Nat
 es:Nat
abbrev cc:=Nat->ay Place
mutual
inductive bJ (ai:cc):Value->Value->Prop
 |bool (b:Bool):bJ ai (.bool b) (.bool b)
 |int (k:IntKind) (n:Int):bJ ai (.int k n) (.int k n)
 |string (s:ByteArray):bJ ai (.string s) (.string s)
 |F8:bJ ai (.pointer none) (.pointer none)
 |ptr {b o:Nat} {p:Place} (h:ai b=some p):bJ ai (.pointer (some ⟨b,o,none⟩)) (.pointer (some ⟨p.ct,p.off+o,none⟩))
 |rf (l c:Nat):bJ ai (.slice none l c) (.slice none l c)
 |k4 {b o:Nat} {p:Place} (h:ai b=some p) (l c:Nat):bJ ai (.slice (some ⟨b,o,none⟩) l c) (.slice (some ⟨p.ct,p.off+o,none⟩) l c)
 |oK {b o s:Nat} {p:Place} (h:ai b=some p) (au:p.es=s+1) (l c:Nat):bJ ai (.slice (some ⟨b,o,some (s+1)⟩) l c) (.slice (some ⟨p.ct,p.off+o,none⟩) l (c+p.spare))
 |oL (b o:Nat) (g aU:Nat) (c:Nat):bJ ai (.slice (some ⟨b,o,some 0⟩) 0 0) (.slice (some ⟨g,aU,none⟩) 0 c)
 |F9:bJ ai (.map none) (.map none)
 |map {r:Nat} {p:Place} (h:ai r=some p):bJ ai (.map (some r)) (.map (some p.ct))
 |nilFunc:bJ ai .nilFunc .nilFunc
 |nilIface:bJ ai .nilIface .nilIface
 |func (f:FuncId) {a ev b cr:List Value} (dy:dt ai a ev) (a1:dt ai b cr):bJ ai (.func (.func f) ⟨a⟩ ⟨b⟩) (.func (.func f) ⟨ev⟩ ⟨cr⟩)
 |yield {l:Nat} {p:Place} (h:ai l=some p):bJ ai (.func (.yield l) #[] #[]) (.func (.yield p.ct) #[] #[])
 |iface (t:TypeId) {v d7:Value} (h:bJ ai v d7):bJ ai (.iface t v) (.iface t d7)
 |agg {l cV:List Value} (h:dt ai l cV):bJ ai (.agg ⟨l⟩) (.agg ⟨cV⟩)
 |tuple {l cV:List Value} (h:dt ai l cV):bJ ai (.tuple ⟨l⟩) (.tuple ⟨cV⟩)
inductive dt (ai:cc):List Value->List Value->Prop
 |nil:dt ai [] []
 |cons {x y:Value} {xs lU:List Value} (h:bJ ai x y) (t:dt ai xs lU):dt ai (x::xs) (y::lU)
end
def Sub(ai bo:cc):Prop:=∀b p,ai b=some p->bo b=some p
mutual
theorem bJ.mono{ai bo:cc}(A:Sub ai bo):∀{v c:X},bJ ai v c->bJ bo v c
 |_,_,.bool b=>.bool b
 |_,_,.int k n=>.int k n
 |_,_,.string s=>.string s
 |_,_,.F8=>.F8
 |_,_,.ptr h=>.ptr (A _ _ h)
 |_,_,.rf l c=>.rf l c
 |_,_,.k4 h l c=>.k4 (A _ _ h) l c
 |_,_,.oK h e l c=>.oK (A _ _ h) e l c
 |_,_,.oL b o g aU c=>.oL b o g aU c
 |_,_,.F9=>.F9
 |_,_,.map h=>.map (A _ _ h)
 |_,_,.nilFunc=>.nilFunc
 |_,_,.nilIface=>.nilIface
 |_,_,.func f D E=>.func f (dt.mono A D) (dt.mono A E)
 |_,_,.yield h=>.yield (A _ _ h)
 |_,_,.iface t h=>.iface t (bJ.mono A h)
 |_,_,.agg h=>.agg (dt.mono A h)
 |_,_,.tuple h=>.tuple (dt.mono A h)
theorem dt.mono{ai bo:cc}(A:Sub ai bo):∀{v c:ac X},dt ai v c->dt bo v c
 |_,_,.nil=>.nil
 |_,_,.cons h t=>.cons (bJ.mono A h) (dt.mono A t)
end
variable {bo:cc} {p:Place} {cZ:kX} {Gs:cc}
theorem dt.length{ai:cc}:∀{l cV:ac X},dt ai l cV->l.length=cV.length
 |_,_,.nil=>rfl
 |_,_,.cons _ t=>by simp[dt.length t]
theorem dt.append{ai:cc}:∀{a D b A:ac X},dt ai a D->dt ai b A->dt ai (a++b) (D++A)
 |_,_,_,_,.nil,h=>h
 |_,_,_,_,.cons h t,k=>.cons h (dt.append t k)
theorem dt.get{ai:cc}:∀{l cV:ac X} {i:Nat} {v:X},dt ai l cV->l[i]? = some v->∃A,cV[i]? = some A/\bJ ai v A
 |_,_,0,_,.cons h _,e=>by simp at e;subst e;exact⟨_,rfl,h⟩
 |_,_,i+1,_,.cons _ t,e=>by simpa using dt.get  t aa
theorem dt.acT{ai:cc}:∀{l cV:ac X},l.length=cV.length->(∀(i:Nat) (v:X),l[i]? = some v->∃A:X,cV[i]? = some A/\bJ ai v A)->dt ai l cV
 | [],[],_,_=>.nil
 | [],_::_,h,_=>by simp at h
 |_::_,[],h,_=>by simp at h
 |x::xs,y::E,h,k=>by obtain⟨A,e,D⟩:=k 0 x rfl;simp at e;subst e;exact .cons D (dt.acT aa λi v e=>by simpa using k (i+1) v aa)
theorem dt.take{ai:cc}(n:Nat):∀{l cV:ac X},dt ai l cV->dt ai (l.take n) (cV.take n):=by
 induction n with
 |zero=>intro l cV _;simpa using dt.nil
 |succ n A=>intro l cV h;cases h with
  |nil=>simpa using dt.nil
  |cons h t=>exact .cons h (A t)
theorem dt.drop{ai:cc}(n:Nat):∀{l cV:ac X},dt ai l cV->dt ai (l.drop n) (cV.drop n):=by
 induction n with
 |zero=>intro l cV h;exact h
 |succ n A=>intro l cV h;cases h with
  |nil=>simpa using dt.nil
  |cons h t=>exact A t
theorem BW(h:qq v=true)(ai:cc):bJ ai v v:=by
 unfold qq at h
 split at h <;> first|(exact .func _ .nil .nil)|constructor|(exact absurd h (by simp))
theorem zI{ai:cc}(h:qq v=true)(k:bJ ai v c):c=v:=by
 cases k <;> simp_all[qq]
 all_goals (rename_i A D;cases A <;> cases D <;> grind)
theorem I1(h:h2 l=true)(ai:cc):dt ai l l:=by
 induction l with
 |nil=>exact .nil
 |cons x xs A=>simp[h2]at h;exact .cons (BW h.1 ai) (A h.2)
theorem ER(h:uV v=true)(ai:cc):bJ ai v v:=by
 unfold uV at h
 split at h
 ·exact .agg (I1 h ai)
 ·exact .tuple (I1 h ai)
 ·exact BW h ai
theorem bJ.cells{ai:cc}{v c:X}(h:bJ ai v c):dt ai (c7 v) c.cells.toList:=by
 cases h <;> first|(rename_i h;exact h)|exact .cons (by constructor <;> omega) .nil|skip
theorem NA{ai:cc}:∀{l cV:ac X},dt ai l cV->ef l=true->∀x∈cV,g1 x=true
 |_,_,.nil,_=>by simp
 |_,_,.cons h t,e=>by
  rename_i x y xs E
  have D:g1 x=true/\ef xs=true:=by
   unfold ef at e
   grind
  intro z A;rcases hD.1 A with rfl|A
  ·cases h <;> simp_all[g1]
  ·exact NA t D.2 z A
def pq(ai:cc)(cs:ac X)(c:Array X)(off:Nat):Prop:=∀(i:Nat) (v:X),cs[i]? = some v->∃d7:X,c[off+i]? = some d7/\bJ ai v d7
inductive hE (ai:cc):List MapEntry->List MapEntry->Prop
 |nil:hE ai [] []
 |cons {e ew:MapEntry} {es dl:List MapEntry} (hk:bJ ai e.key ew.key) (aI:bJ ai e.val ew.val) (a1:ew.born=e.born) (t:hE ai es dl):hE ai (e::es) (ew::dl)
def SM:LoopState->Nat
 | .ready=>0 | .busy=>1 | .done=>2 | .exhausted=>3
def ju(ai:cc)(lT:ck)(a:Array X):Prop:=∀d v,hv lT d=some v->bJ ai (rq v) (a.getD d undef)
def wk(n:Nat)(a8:ac Oper):ao:=a8.all λo=>match o.dst with|some d=>Nat.blt d n|none=>true
def k2(n:Nat):Code->ao
 | .region _ a8 _=>wk n a8.toList
 | .seq a b=>k2 n a&&k2 n b
 | .cond _ a b=>k2 n a&&k2 n b
 | .block _ c=>k2 n c
 | .loop c=>k2 n c
 | .rangeFunc _ ce a b=>ce.toList.all (λp=>Nat.blt p n)&&k2 n a&&k2 n b
 | .scope c=>k2 n c
 |_=>true
def pA(ai:cc)(m bR:ay Nat):Prop:=match m,bR with
 |none,none=>True
 |some r,some xx=>∃q,ai r=some q/\q.ct=xx
 |_,_=>False
def k8(B:Nat)(ai:cc)(w:World)(p:Place):gm->Prop
 | .cells cs true=>p.ct<B/\∃c e fB,w.heap[p.ct]? = some (.cells c e fB)/\pq ai cs c p.off
 | .cells cs false=>B<=p.ct/\p.off=0/\∃c e al aj,w.heap[p.ct]? = some (.cells c e (al,aj))/\(al=aj\/c.size<=al)/\pq ai cs c 0/\c.size=cs.length+p.spare*p.es
 | .map es cL=>B<=p.ct/\∃dl:ac MapEntry,w.heap[p.ct]? = some (.map dl.toArray cL)/\hE ai es dl
 | .iter m yn seen st=>B<=p.ct/\p.off=0/\∃bR,w.heap[p.ct]? = some (.mapIter bR yn seen.toArray st)/\pA ai m bR
 | .loop st GC lT ce a b=>B<=p.ct/\∃l:Loop,w.heap[p.ct]? = some (.loop l)/\SM l.state=st/\l.pending=GC/\ju ai lT l.tmps/\l.params.toList=ce/\l.assign=a/\l.body=b /\
   k2 l.tmps.size a=true/\k2 l.tmps.size b=true/\(∀q∈ce,q<l.tmps.size)
structure ec (B:Nat) (ai:cc) (H:fm) (w:World):Prop where
 base:B<=w.heap.size
 obj:∀b p o,ai b=some p->H b=some o->k8 B ai w p o
 inj:∀b cr p eH,ai b=some p->ai cr=some eH->(H b).isSome->(H cr).isSome->B<=p.ct->p.ct=eH.ct->b=cr
 kS:∀b,(H b).isSome->(ai b).isSome
def wE(B:Nat)(ai:cc)(H:fm)(k:Nat):Prop:=∃b p,ai b=some p/\(H b).isSome/\p.ct=k/\B<=k
def wu(ai:cc)(al aj:Nat):Prop:=∀b,al<=b->b<aj->ai b=none
def qS(w bc:World):Prop:=bc.tape=w.tape/\w.drawn<=bc.drawn
theorem qS.here{w:World}:qS w w:=⟨rfl,J⟩
theorem qS.trans{w A D:World}(s:qS w A)(t:qS A D):qS w D:=⟨t.1.trans s.1,hJ s.2 t.2⟩
structure cC (B:Nat) (ai:cc) (H:fm) (w:World) (al aj:Nat) (bo:cc) (gA:fm) (bc:World):Prop where
 rel:ec B bo gA bc
 agree:∀b,(b<al\/aj<=b)->bo b=ai b
 size:w.heap.size<=bc.heap.size
 os:bc.os=w.os
 tape:qS w bc
 output:bc.output=w.output
 frame:∀k,k<w.heap.size->¬wE B ai H k->bc.heap[k]? = w.heap[k]?
 own:∀k,wE B bo gA k->wE B ai H k\/w.heap.size<=k
 le:al<=aj
theorem wu.sub{ai:cc}(A:wu ai al aj)(D:∀b,(b<al\/aj<=b)->bo b=ai b):Sub ai bo:=by
 intro b p h
 by_cases E:b<al
 ·grind
 by_cases I:aj<=b
 ·grind
 rw[A b J J]at h;cases h
theorem cC.sub{B:Nat}{ai bo:cc}{H gA:fm}{w bc:World}{al aj:Nat}(s:cC B ai H w al aj bo gA bc)(A:wu ai al aj):Sub ai bo:=A.sub s.agree
theorem cC.refl{B:Nat}{ai:cc}{w:World}(n:Nat)(h:ec B ai H w):cC B ai H w n n ai H w :=
 ⟨h,aa,J,rfl,.here,rfl,aa,aa,J⟩
theorem cC.trans{B:Nat}{ai Gs I:cc}{H KJ E:fm}{w n4 D:World}{a b c:Nat}(s:cC B ai H w a b Gs KJ n4)(t:cC B Gs KJ n4 b c I E D):cC B ai H w a c I E D where
 rel:=t.rel
 agree:=λx h=>by have Z:=s.le;have V:=t.le;rw[t.agree x J,s.agree x J]
 size:=hJ s.size t.size
 os:=t.os.trans s.os
 tape:=s.tape.trans t.tape
 output:=t.output.trans s.output
 frame:=λk A M=>by rw[t.frame k (IK A s.size) (λN=>(s.own k N).elim M J),s.frame k A M]
 own:=λk h=>(t.own k h).elim (λh=>s.own k h) (λh=>.inr (hJ s.size h))
 le:=hJ s.le t.le
theorem wu.after{B:Nat}{ai:cc}{w:World}{a N:Nat}(s:cC B ai H w a b Gs KJ n4)(h:wu ai a N):wu Gs b N:=by intro x A D;rw[s.agree x J];exact h x (hJ s.le A) D
theorem wu.mono{ai:cc}{a D A:Nat}(h:wu ai a b)(M:a<=D)(E:A<=b):wu ai D A:=λx N I=>h x J J
theorem pq.mono{ai bo:cc}(A:Sub ai bo){cs:ac X}{c:Array X}{off:Nat}(h:pq ai cs c off):pq bo cs c off :=
 λi v e=>let ⟨d7,ew,aI⟩:=h i v e;⟨d7,ew,aI.mono A⟩
theorem hE.mono{ai bo:cc}(A:Sub ai bo):∀{es dl:ac MapEntry},hE ai es dl->hE bo es dl
 |_,_,.nil=>.nil
 |_,_,.cons D I E t=>.cons (D.mono A) (I.mono A) E (hE.mono A t)
theorem ju.mono{ai bo:cc}(D:Sub ai bo){A:ck}{a:Array X}(h:ju ai A a):ju bo A a:=λd v e=>(h d v e).mono D
theorem pA.mono{ai:cc}(D:Sub ai bo){m:ay Nat}(h:pA ai m bR):pA bo m bR:=by
 cases m <;> cases bR <;> simp only[pA]at h ⊢;obtain⟨q,A,e⟩:=h;exact⟨q,D _ _ A,e⟩
theorem k8.mono{B:Nat}{ai bo:cc}{w bc:World}{p:Place}{o:gm}(E:Sub ai bo)(bV:bc.heap[p.ct]? = w.heap[p.ct]?)(h:k8 B ai w p o):k8 B bo bc p o:=by
 cases o with
 |cells cs bL =>
  cases bL with
  |true =>
   obtain⟨A,c,e,fB,I,D⟩:=h;exact⟨A,c,e,fB,aa,D.mono E⟩
  |false =>
   obtain⟨A,V,c,e,al,aj,I,D,M,N⟩:=h;exact⟨A,V,c,e,al,aj,aa,D,M.mono E,N⟩
 |map es cL =>
  obtain⟨A,dl,I,D⟩:=h;exact⟨A,dl,aa,D.mono E⟩
 |iter m Z seen st =>
  obtain⟨A,V,bR,I,D⟩:=h;exact⟨A,V,bR,aa,D.mono E⟩
 |loop st GC lT ce a b =>
  obtain⟨A,l,I,D,M,N,cj⟩:=h;exact⟨A,l,aa,D,M,N.mono E,cj⟩
theorem ec.less{B:Nat}{ai:cc}{w:World}(h:ec B ai H w)(au:∀b o,gA b=some o->H b=some o):ec B ai gA w where
 base:=h.base
 obj:=λb p o A D=>h.obj b p o A aa
 inj:=λb N p M A D Z V=>h.inj b N p M A D (by obtain⟨o,E⟩:=lI.1 Z;grind) (by obtain⟨o,E⟩:=lI.1 V;grind)
 kS:=λb I=>h.kS b (by obtain⟨o,E⟩:=lI.1 I;grind)
theorem ec.world{B:Nat}{ai:cc}{w:World}(h:ec B ai H w)(A:w.heap.size<=bc.heap.size)(I:∀b p,ai b=some p->(H b).isSome->bc.heap[p.ct]? = w.heap[p.ct]?):ec B ai H bc where
 base:=hJ h.base A
 obj:=λb p o E D=>(h.obj b p o E D).mono (λ_ _ h=>h) aa
 inj:=h.inj
 kS:=h.kS
theorem k8.Cw{B:Nat}{ai:cc}{w:World}{o:gm}(h:k8 B ai w p o):p.ct<w.heap.size:=by
 cases o with
 |cells cs bL =>
  cases bL with
  |true=>obtain⟨_,c,e,N,A,_⟩:=h;grind
  |false=>obtain⟨_,_,c,e,al,aj,A,_⟩:=h;grind
 |map es cL=>obtain⟨_,dl,A,_⟩:=h;grind
 |iter m D I st=>obtain⟨_,_,bR,A,_⟩:=h;grind
 |loop st E V M a b=>obtain⟨_,l,A,_⟩:=h;grind
def fm.put(H:fm)(b:Nat)(o:gm):fm:=λk=>if k=b then some o else H k
theorem uM(h:ae)(b:Nat)(o:gm):u (T h b o)=fm.put (u h) b o:=funext λk=>vX h b o k
theorem cC.make{B:Nat}{ai:cc}{w:World}{U:Nat}{o:gm}(h:ec B ai H w)(bw:ai U=none)(jE:bc.heap.size=w.heap.size+1)(lP:∀k,k<w.heap.size->bc.heap[k]? = w.heap[k]?)(wT:bc.os=w.os)(G1:qS w bc)(G2:bc.output=w.output)(bn:p.ct=w.heap.size)(fd:k8 B (λk=>if k=U then some p else ai k) bc p o):
  cC B ai H w U (U+1) (λk=>if k=U then some p else ai k) (H.put U o) bc:=by
 have V:Sub ai (λk=>if k=U then some p else ai k):=λb q A=>aa
 have cS:∀b q,ai b=some q->(H b).isSome->q.ct<w.heap.size:=λb q A E=>by obtain⟨aU,D⟩:=lI.1 E;exact(h.obj b q aU A D).Cw
 refine⟨⟨by have:=h.base;omega,?_,?_,?_⟩,?_,J,wT,G1,G2,aa,?_,J⟩
 ·intro b q aU A D
  by_cases e:b=U
  ·subst e;simp[fm.put]at A D;subst A;subst D;exact fd
  ·simp only[e,ff]at A;simp only[fm.put,e,ff]at D;exact(h.obj b q aU A D).mono V aa
 ·intro b cr q kG A I E M er Z
  by_cases e:b=U <;> by_cases N:cr=U
  ·omega
  ·subst e;simp at A;subst A;simp only[N,ff]at I;simp only[fm.put,N,ff]at M
   grind
  ·subst N;simp at I;subst I;simp only[e,ff]at A;simp only[fm.put,e,ff]at E
   grind
  ·simp only[e,ff]at A;simp only[N,ff]at I;simp only[fm.put,e,ff]at E;simp only[fm.put,N,ff]at M;exact h.inj b cr q kG A I E M er Z
 ·intro b E
  by_cases e:b=U
  ·grind
  ·simp only[fm.put,e,ff]at E;simp only[e,ff];exact h.kS b E
 ·grind
 ·rintro k ⟨b,q,A,E,rfl,er⟩
  by_cases e:b=U
  ·grind
  ·simp only[e,ff]at A;simp only[fm.put,e,ff]at E;exact .inl ⟨b,q,A,E,rfl,er⟩
theorem cC.change{B:Nat}{ai:cc}{w:World}(U:Nat){o:gm}(h:ec B ai H w)(M:ai b=some p)(fd:H b=some o)(er:B<=p.ct)(jE:bc.heap.size=w.heap.size)(E:∀k,k≠p.ct->bc.heap[k]? = w.heap[k]?)(V:bc.os=w.os)(G1:qS w bc)(G2:bc.output=w.output)(I:k8 B ai bc p aU):cC B ai H w U U ai (H.put b aU) bc:=by
 refine⟨⟨by have:=h.base;omega,?_,?_,?_⟩,aa,J,V,G1,G2,?_,?_,J⟩
 ·intro x q y A D
  by_cases e:x=b
  ·subst e;rw[M]at A;cases A;simp[fm.put]at D;subst D;exact I
  ·simp only[fm.put,e,ff]at D;refine(h.obj x q y A D).mono (λ_ _ h=>h) (E _ λN=>e ?_);exact h.inj x b q p A M aa aa J N
 ·have aAO:∀x,((H.put b aU) x).isSome->(H x).isSome:=λx A=>by
   by_cases e:x=b
   ·grind
   ·simpa[fm.put,e]using A
  exact λx y q kG A D au ls=>h.inj x y q kG A D aa aa
 ·intro x A
  by_cases e:x=b
  ·grind
  ·simp only[fm.put,e,ff]at A;exact h.kS x A
 ·intro k _ bw;refine E k λe=>bw ⟨b,p,M,aa,e.symm,J⟩
 ·rintro k ⟨x,q,A,au,rfl,Z⟩;refine .inl ⟨x,q,A,?_,rfl,Z⟩
  by_cases e:x=b
  ·grind
  ·simpa[fm.put,e]using au
def jY(ai:cc)(U:Nat):Prop:=∀b,U<=b->ai b=none
theorem jY.here{ai:cc}{U:Nat}(h:jY ai U):ai U=none:=h U J
theorem jY.sub{B:Nat}{ai:cc}{w:World}(h:jY ai al)(s:cC B ai H w al aj bo gA bc):Sub ai bo:=λb p A=>by
 by_cases D:b<al
 ·rw[s.agree b J];omega
 ·rw[h b J]at A;grind
theorem jY.after{B:Nat}{ai:cc}{w:World}(h:jY ai al)(s:cC B ai H w al aj bo gA bc):jY bo aj:=λb A=>by rw[s.agree b J];exact h b (hJ s.le A)
def Fin(B:Nat)(ai:cc)(h:ae)(w:World)(U:Nat)(K:X->ae->Nat->Prop)(e:Ending)(bc:World):Prop :=
 ∃v ab Y bo c,e = .returned c/\K v ab Y/\bJ bo v c/\cC B ai (u h) w U Y bo (u ab) bc
def B8(P:Program)(f:FuncId):Prop:=∃fn,P.funcs[f]? = some fn/\fn.body.isSome=true/\(fn.name == "runtime.NumGoroutine")=false
abbrev bZ:=X->ae->Nat->Prop
def nh(r:ay Nat):Fence:={ Fence.wide with round:=r }
variable {kH:bZ} {C:bZ->Prop}
theorem Ym(r:ay Nat)(n:Nat)(P:Program):CallsIn (nh r) n P=CallsIn Fence.wide n P:=rfl
theorem amg(r:ay Nat)(n:Nat)(P:Program):RoundIn (nh r) n P=RoundIn Fence.wide n P:=rfl
def kT(P:Program)(f:FuncId)(args:ac X)(h:ae)(U:Nat)(K:bZ):Prop :=
 B8 P f/\∀(B:Nat) (ai:cc) (w:World) (CN:ac X),ec B ai (u h) w->jY ai U->dt ai args CN->∀n,CallsIn Fence.wide n P f ⟨CN⟩ w (Fin B ai h w U K)
def tK(P:Program)(l:Nat)(args:ac X)(h:ae)(U:Nat)(K:bZ):Prop :=
 ∀(B:Nat) (ai:cc) (w:World) (CN:ac X) (p:Place),ec B ai (u h) w->jY ai U->dt ai args CN->ai l=some p ->
  ∃o6:Loop,w.heap[p.ct]? = some (.loop o6)/\CN.length=o6.params.size/\∀n,RoundIn Fence.wide n P p.ct o6.fn ((o6.params.zip ⟨CN⟩).foldl (λtmps (t,a)=>tmps.setIfInBounds t a) o6.tmps) o6.assign o6.body w (Fin B ai h w U K)
def ue(s:ao)(C:bZ->Prop)(K:bZ):Prop:=match s with
 |true=>∃v h U,K v h U/\C (λd7 ab Y=>d7=v/\ab=h/\Y=U)
 |false=>C K
def aD(P:Program)(s:ao)(f:FuncId)(args:ac X)(h:ae)(U:Nat)(K:bZ):Prop:=ue s (kT P f args h U) K
def lW(P:Program)(s:ao)(l:Nat)(args:ac X)(h:ae)(U:Nat)(K:bZ):Prop:=ue s (tK P l args h U) K
theorem Fin.mono{B:Nat}{ai:cc}{h:ae}{w:World}{U:Nat}{K:bZ}(A:∀v h U,K v h U->kH v h U){e:Ending}:Fin B ai h w U K e bc->Fin B ai h w U kH e bc:=λ⟨v,ab,Y,bo,c,e,D,r⟩=>⟨v,ab,Y,bo,c,e,A _ _ _ D,r⟩
theorem kT.mono{P:Program}{f:FuncId}{args:ac X}{h:ae}{U:Nat}{K kH:bZ}(A:kT P f args h U K)(D:∀v h U,K v h U->kH v h U):kT P f args h U kH :=
 ⟨A.1,λB ai w a I E M n=>(A.2 B ai w a I E M n).mono λ_ _=>Fin.mono D⟩
theorem tK.mono{P:Program}{l:Nat}{args:ac X}{h:ae}{U:Nat}{K kH:bZ}(D:tK P l args h U K)(A:∀v h U,K v h U->kH v h U):tK P l args h U kH :=
 λB ai w a p M E N I=>let ⟨o6,aW,aP,cy⟩:=D B ai w a p M E N I;⟨o6,aW,aP,λn=>(cy n).mono λ_ _=>Fin.mono A⟩
theorem ue.mono{s:ao}(I:∀{K kH:bZ},C K->(∀v h U,K v h U->kH v h U)->C kH){K:bZ}(D:ue s C K)(A:∀v h U,K v h U->kH v h U):ue s C kH:=by
 cases s with
 |true=>obtain⟨v,h,U,M,E⟩:=D;exact⟨v,h,U,A _ _ _ M,E⟩
 |false=>exact I D A
theorem ue.down{s:ao}(D:∀{K kH:bZ},C K->(∀v h U,K v h U->kH v h U)->C kH){K:bZ}(A:ue s C K):C K:=by
 cases s with
 |true=>obtain⟨v,h,U,E,I⟩:=A;exact D I (by rintro _ _ _ ⟨rfl,rfl,rfl⟩;exact E)
 |false=>exact A
theorem aD.mono{P:Program}{s:ao}{f:FuncId}{args:ac X}{h:ae}{U:Nat}{K kH:bZ}(D:aD P s f args h U K)(A:∀v h U,K v h U->kH v h U):aD P s f args h U kH:=ue.mono kT.mono D A
theorem lW.mono{P:Program}{s:ao}{l:Nat}{args:ac X}{h:ae}{U:Nat}{K kH:bZ}(D:lW P s l args h U K)(A:∀v h U,K v h U->kH v h U):lW P s l args h U kH:=ue.mono tK.mono D A
noncomputable section
def ed(ak:ck)(x:e5):R X:=match x with
 | .t n=>(match hv ak n with|some (some v)=>.ok v|some none=>.ok j7|none=>.no "temp")
 | .v v=>.ok v
def pB(ak:ck):ac e5->R (ac X)
 | []=>.ok []
 |x::xs=>R.bind (ed ak x) λv=>R.bind (pB ak xs) λaJ=>.ok (v::aJ)
def KQ(ak:ck)(x:ay e5):R (ay X):=match x with
 |none=>.ok none
 |some x=>R.bind (ed ak x) λv=>.ok (some v)
def Ga(ak:ck):ac (Nat × Nat × e5)->R (ac (Nat × Nat × X))
 | []=>.ok []
 |(o,z,x)::xs=>R.bind (ed ak x) λv=>R.bind (Ga ak xs) λaJ=>.ok ((o,z,v)::aJ)
def pC(P:Program)(ak:ck)(e:H2):R X:=match e with
 | .h6 x=>ed ak x
 | .pick c a b=>R.bind (ed ak c) λc=>R.bind (ed ak a) λa=>R.bind (ed ak b) λb=>Gn c a b
 | .bin op t x y=>R.bind (ed ak x) λx=>R.bind (ed ak y) λy=>bin P op t x y
 | .un op x=>R.bind (ed ak x) λx=>ds op x
 | .conv d x=>R.bind (ed ak x) λx=>n1 d x
 | .vi off bO x=>R.bind (ed ak x) λx=>yz off bO x
 | .agq off x=>R.bind (ed ak x) λx=>wq off x
 | .ixA k x i=>R.bind (ed ak x) λx=>R.bind (ed ak i) λi=>f0 k x i
 | .idx t x i=>R.bind (ed ak x) λx=>R.bind (ed ak i) λi=>ayt P t x i
 | .nf s x al aj iX=>R.bind (ed ak x) λx=>R.bind (KQ ak al) λal=>R.bind (KQ ak aj) λaj=>R.bind (KQ ak iX) λiX=>g5 s x al aj iX
 | .ext x i=>R.bind (ed ak x) λx=>cu x i
 | .agr x=>R.bind (ed ak x) λx=>bB x
 | .mkf f a b=>R.bind (pB ak a) λa=>R.bind (pB ak b) λb=>.ok (.func (.func f) ⟨a⟩ ⟨b⟩)
 | .ifc t x=>R.bind (ed ak x) λx=>.ok (.iface t x)
 | .asr a ok x=>R.bind (ed ak x) λx=>FG P a ok x
 | .U3 b x y=>R.bind (ed ak x) λx=>R.bind (ed ak y) λy=>min2 b x y
 | .cap t x=>R.bind (ed ak x) λx=>GH P t x
 | .build z mQ=>R.bind (Ga ak mQ) λce=>cw z ce
def C5(ak:ck)(e:Ec):R kX:=match e with
 | .new l=>.ok (.ptr (.cells l false))
 | .box x=>R.bind (ed ak x) λx=>FC (c7 x)
 | .SL len base mQ=>R.bind (Ga ak mQ) λce=>eO len base ce
 | .mkm=>.ok .map
 | .mks z l c=>R.bind (ed ak l) λl=>R.bind (ed ak c) λc=>tx z l c
def pred(P:Program)(ak:ck)(e:G0)(h:ae):R X:=match e with
 | .ld bO x=>R.bind (ed ak x) λx=>iO bO h x
 | .lkp d0 z m k ok=>R.bind (ed ak m) λm=>R.bind (ed ak k) λk=>j9 P h d0 z ok m k
 | .lens x=>R.bind (ed ak x) λx=>yA x
 | .ags x=>R.bind (ed ak x) λx=>wD h x
 | .entry x=>R.bind (ed ak x) λx=>wj h x
def bt(v:X)(a b:Prop):Prop:=match v with
 | .bool t=>(match t with|true=>a|false=>b)
 |_=>False
def dS(r:R kX)(h:ae)(U:Nat)(k:X->ae->Nat->Prop):Prop:=af r λb=>k (wR U b) (T h U (sC b)) (U+1)
def dm(r:fc)(k:X->ae->Nat->Prop):Prop:=match r with
 | .val v h U=>k v h U
 |_=>False
def fg(P:Program)(s:ao)(r:fc)(k:X->ae->Nat->Prop):Prop:=match r with
 | .call f args h U=>aD P s f args h U k
 | .round l args h U=>lW P s l args h U k
 |_=>False
def vk(s:ao)(h:ae)(U:Nat)(v:X)(k:X->ae->Nat->Prop):Prop :=
 ∃it r yn st cL seen es,s=false/\v = .pointer (some ⟨it,0,none⟩)/\u h it=some (.iter (some r) yn seen st)/\u h r=some (.map es cL)/\J7 seen es st=true /\
  (leftOf seen es=[]->k (.tuple #[.bool false]) h U)/\∀e∈leftOf seen es,e.born<yn/\k (.tuple #[.bool true,e.key,e.val]) (T h it (.iter (some r) yn (seen++[e.born]) cL)) U
def nv(v:X)(r:R X):ao:=match r with | .ok w=>oP v w | .no _=>false
def oW(f:ae->R X)(v:X)(p:Prop):Nat->ac ae->Prop
 |0,_=>p
 |n+1,h::au=>nv v (f h)=true/\oW f v p n au
 |_+1,[]=>False
def MD{e4:Type}(r:R e4)(k:e4->Prop):Prop:=id (af r k)
def mB(g:ay (Nat × ao))(ak:ck)(a b:ck->Prop):Prop:=match g with
 |none=>a ak
 |some (t,w)=>(match hv ak t with
  |some (some v)=>bt v ((match w with|true=>a|false=>b) ((t,some (.bool true))::ak)) ((match w with|true=>b|false=>a) ((t,some (.bool false))::ak))
  |some none=>b ak
  |none=>False)
section
variable (P:Program) (s:ao)
def o7(e:vB)(ak:ck)(h:ae)(U:Nat)(k:X->ae->Nat->Prop):Prop:=match e with
 | .st n a x=>af (ed ak a) λa=>af (ed ak x) λx=>af (aN h n a x) λh=>k j7 h U
 | .yL d0 m key x=>af (ed ak m) λm=>af (ed ak key) λkey=>af (ed ak x) λx=>af (mU P d0 h m key x) λh=>k j7 h U
 | .ry x=>af (ed ak x) λx=>dm (sn h U x) k
 | .fO x=>af (ed ak x) λx=>vk s h U x k
 | .call f args=>af (pB ak args) λl=>aD P s f l h U k
 | .Af f args=>af (ed ak f) λf=>af (pB ak args) λl=>fg P s (hV h U l f) k
 | .app z x y=>af (ed ak x) λx=>af (ed ak y) λy=>dm (dI (dn z h U x y)) k
 | .bi b ag args=>af (pB ak args) λl=>dm (dI (pk P b ag h U l)) k
 | .inv r m args=>af (pB ak args) λl=>af (ed ak r) λv=>fg P s (mc P h U l m v) k
def nH(d:ay Nat)(i:ng)(ak:ck)(h:ae)(U:Nat)(k:ck->ae->Nat->Prop):Prop:=match i with
 | .fy (.h6 x)=>MD (ed ak x) λv=>k (eB ak d (some v)) h U
 | .fy (.pick c a b)=>af (ed ak c) λc=>af (ed ak a) λa=>af (ed ak b) λb=>bt c (k (eB ak d (some a)) h U) (k (eB ak d (some b)) h U)
 | .fy e=>af (pC P ak e) λv=>k (eB ak d (some v)) h U
 | .ix e=>dS (C5 ak e) h U λv h U=>k (eB ak d (some v)) h U
 | .red e=>af (pred P ak e h) λv=>k (eB ak d (some v)) h U
 | .fz e=>o7 P s e ak h U λv h U=>k (eB ak d (some v)) h U
def p2(l:ac lV):ck->ae->Nat->(ck->ae->Nat->Prop)->Prop :=
 List.rec (motive:=λ_=>ck->ae->Nat->(ck->ae->Nat->Prop)->Prop) (λak h U K=>K ak h U)
  (λi _ fb ak h U K=>mB i.g ak (λak=>nH P s i.d i.k ak h U λak h U=>fb ak h U K) (λak=>fb (eB ak i.d none) h U K)) l
def mZ(d:ay Nat)(c:Nat)(i:ng)(ak:ck)(h:ae)(U:Nat)(b:ae)(au:ac ae)(k:ck->ae->Nat->ae->ac ae->Prop):Prop:=match i with
 | .fy (.h6 x)=>MD (ed ak x) λv=>k (eB ak d (some v)) h U b au
 | .fy (.pick c x y)=>af (ed ak c) λc=>af (ed ak x) λx=>af (ed ak y) λy=>bt c (k (eB ak d (some x)) h U b au) (k (eB ak d (some y)) h U b au)
 | .fy e=>af (pC P ak e) λv=>k (eB ak d (some v)) h U b au
 | .ix e=>dS (C5 ak e) h U λv h U=>k (eB ak d (some v)) h U b au
 | .red e=>af (pred P ak e b) λv=>Nat.rec (k (eB ak d (some v)) h U b au) (λ_ _=>oW (pred P ak e) v (k (eB ak d (some v)) h U b au) c au) c
 | .fz (.st n a x)=>af (ed ak a) λa=>af (ed ak x) λx=>af (aN h n a x) λh=>k (eB ak d (some j7)) h U h (b::au)
 | .fz (.yL d0 m key x)=>af (ed ak m) λm=>af (ed ak key) λkey=>af (ed ak x) λx=>af (mU P d0 h m key x) λh=>k (eB ak d (some j7)) h U h (b::au)
 | .fz e=>o7 P true e ak h U λv ab Y=>U<=Y/\k (eB ak d (some v)) ab Y ab (b::au)
def im(l:ac lV):ck->ae->Nat->ae->ac ae->(ck->ae->Nat->Prop)->Prop :=
 List.rec (motive:=λ_=>ck->ae->Nat->ae->ac ae->(ck->ae->Nat->Prop)->Prop) (λak h U _ _ K=>K ak h U)
  (λi _ fb ak h U b au K=>mB i.g ak (λak=>mZ P i.d i.c i.k ak h U b au λak h U b au=>fb ak h U b au K)
   (λak=>Bool.rec (fb (eB ak i.d none) h U b au K) (fb (eB ak i.d none) h U h (b::au) K) (jn i.k))) l
abbrev iY:=ck->ae->Nat->Prop
abbrev aQ:=ac X->ae->Nat->Prop
def aT:ac X->Nat->X
 | [],_=>j7
 |x::l,i=>match i with|0=>x|i+1=>aT l i
def rs:ac Nat->ac X->Nat->ck
 | [],_,_=>[]
 |n::L,aJ,i=>(n,some (aT aJ i))::rs L aJ (i+1)
def ox:ac Nat->ck->(ac X->Prop)->Prop
 | [],_,k=>k []
 |n::L,ak,k=>match hv ak n with
  |some (some v)=>ox L ak λaJ=>k (v::aJ)
  |some none=>ox L ak λaJ=>k (j7::aJ)
  |none=>False
def kf{aB:Type}:ac (Nat × (aB->ae->Nat->Prop))->Nat->aB->ae->Nat->Prop
 | [],_=>λ_ _ _=>False
 |p::l,i=>bif Nat.beq p.1 i then p.2 else kf l i
abbrev oy:=ac X->ae->Nat->aQ->ac (Nat × aQ)->aQ->Prop
def bF(B:oy)(aJ:ac X)(h:ae)(U:Nat)(E:ac (Nat × aQ))(R:aQ):Prop :=
 ∃(eG:Nat->ac X->ae->Nat->Prop) (m:Nat),eG m aJ h U/\∀m aJ h U,eG m aJ h U->B aJ h U (λaJ h U=>∃bR,bR<m/\eG bR aJ h U) E R
def hK:kF->Nat
 | .seq a b=>hK a+hK b
 | .cond _ a b=>hK a+hK b
 | .block _ c=>hK c
 | .scope c=>hK c
 | .loop c=>hK c+1
 |_=>0
def ky(l:ac (ac Nat))(i:Nat):ac Nat:=match g3 l i with|some x=>x|none=>[]
def rt(i:Nat):kF->ao
 | .seq a b=>rt i a||rt i b
 | .cond _ a b=>rt i a||rt i b
 | .block _ c=>rt i c
 | .scope c=>rt i c
 | .loop c=>rt i c
 | .exit j=>Nat.beq i j
 |_=>false
def u7:kF->ao
 | .seq a b=>u7 a||u7 b
 | .cond _ a b=>u7 a||u7 b
 | .block _ c=>u7 c
 | .scope c=>u7 c
 | .loop c=>u7 c
 | .ret=>true
 |_=>false
def tz(L:ac Nat)(k:aQ):iY:=λak h U=>ox L ak λaJ=>k aJ h U
def G3(L:ac Nat)(k:iY):aQ:=λaJ h U=>k (rs L aJ 0) h U
def wF(L:ac Nat):ac (Nat × aQ)->ac (Nat × iY)
 | []=>[]
 |p::l=>(p.1,tz L p.2)::wF L l
def vl(L:ac Nat)(c:kF):ac (Nat × iY)->ac (Nat × aQ)
 | []=>[]
 |p::l=>bif rt p.1 c then(p.1,G3 L p.2)::vl L c l else vl L c l
def G4(L:ac Nat)(c:kF)(k:iY):aQ:=bif u7 c then G3 L k else λ_ _ _=>False
def yB(l:Nat)(N R:ae->Nat->Prop):bZ:=λ_ h U=>∃st p AJ ce a b,u h l=some (.loop st p AJ ce a b)/\st≠1/\((p=none/\N (T h l (.loop 3 p AJ ce a b)) U)\/(p=some .ret/\R (T h l (.loop 3 p AJ ce a b)) U))
def tL(P:Program)(s:ao)(v:X)(h:ae)(U:Nat)(o:gm)(K:bZ):Prop:=match v with
 | .func (.func g) a b=>aD P s g (a.toList++(.func (.yield U) #[] #[]::b.toList)) (T h U o) (U+1) K
 |_=>False
def jh(eU:ac (ac Nat)):kF->Nat->ck->ae->Nat->iY->ac (Nat × iY)->iY->Prop
 | .skip,_,ak,h,U,N,_,_=>N ak h U
 | .exit id,_,ak,h,U,_,E,_=>kf E id ak h U
 | .ret,_,ak,h,U,_,_,R=>R ak h U
 | .scope c,i,ak,h,U,N,E,R=>jh eU c i ak h U N E R
 | .ty l,_,ak,h,U,N,_,_=>p2 P s l ak h U N
 | .C0 l,_,ak,h,U,N,_,_=>im P l ak h U h [] N
 | .xw f ce a b,_,ak,h,U,N,_,R=>af (ed ak f) λv=>tL P s v h U (.loop 0 none ak ce a b) (yB U (N ak) (R ak))
 | .seq a b,i,ak,h,U,N,E,R=>jh eU a i ak h U (λak h U=>jh eU b (i+hK a) ak h U N E R) E R
 | .block id c,i,ak,h,U,N,E,R=>jh eU c i ak h U N ((id,N)::E) R
 | .cond x a b,i,ak,h,U,N,E,R=>(match x with
  | .v v=>bt v (jh eU a i ak h U N E R) (jh eU b (i+hK a) ak h U N E R)
  | .t n=>(match hv ak n with
   |some (some v)=>bt v (jh eU a i ((n,some (.bool true))::ak) h U N E R) (jh eU b (i+hK a) ((n,some (.bool false))::ak) h U N E R)
   |_=>False))
 | .loop c,i,ak,h,U,_,E,R=>ox (ky eU i) ak λaJ=>bF (λaJ h U N E R=>jh eU c (i+1) (rs (ky eU i) aJ 0) h U (tz (ky eU i) N) (wF (ky eU i) E) (tz (ky eU i) R)) aJ h U
   (vl (ky eU i) c E) (G4 (ky eU i) c R)
 | .no,_,_,_,_,_,_,_=>False
end
def yC(P:Program)(ak:ck)(h:ae):ac ResultVar->(ac X->Prop)->Prop
 | [],k=>k []
 | .tmp t::bC,k=>af (ed ak (.t t)) λv=>yC P ak h bC λaJ=>k (v::aJ)
 | .cell a t::bC,k=>af (ed ak (.t a)) λv=>af (R.of "type" (pu P t) λbO=>iO bO h v) λv=>yC P ak h bC λaJ=>k (v::aJ)
def C6(l:ac X):X:=match l with | [v]=>v|l=>.tuple ⟨l⟩
def sw(P:Program)(bC:ac ResultVar)(K:bZ):iY:=λak h U=>yC P ak h bC λl=>K (C6 l) h U
def yg:ac X->Nat->ck
 | [],_=>[]
 |v::aJ,i=>(i,some v)::yg aJ (i+1)
def oz(P:Program)(s:ao)(eU:ac (ac Nat))(f:FuncId)(args:ac X)(h:ae)(U:Nat)(K:bZ):Prop:=match yf P f with
 |some ni=>jh P s eU ni.body 0 (yg args 0) h U (sw P ni.res K) [] (sw P ni.res K)
 |none=>False
def yh:kF->Nat->ay kF
 | .seq a b,i=>(bif Nat.blt i (hK a)then yh a i else yh b (i-hK a))
 | .cond _ a b,i=>(bif Nat.blt i (hK a)then yh a i else yh b (i-hK a))
 | .block _ c,i=>yh c i
 | .scope c,i=>yh c i
 | .loop c,i=>(match i with|0=>some c|i+1=>yh c i)
 |_,_=>none
def bW(P:Program)(s:ao)(eU:ac (ac Nat))(f:FuncId)(i:Nat):oy:=match yf P f with
 |some ni=>(match yh ni.body i with
  |some c=>λaJ h U N E R=>jh P s eU c (i+1) (rs (ky eU i) aJ 0) h U (tz (ky eU i) N) (wF (ky eU i) E) (tz (ky eU i) R)
  |none=>λ_ _ _ _ _ _=>False)
 |none=>λ_ _ _ _ _ _=>False
end
theorem pn(g o n:Nat):(⟨g,o,none⟩:Addr).add n=⟨g,o+n,none⟩:=by unfold Addr.add;grind
theorem Xc(h:g1 v=true):v.oneCell'=true:=by cases v <;> simp_all[g1,Value.oneCell']
theorem ec.cells{B:Nat}{ai:cc}{H:fm}{w:World}(M:ec B ai H w){b:Nat}{p:Place}{cs:ac X}{bL:ao}(I:ai b=some p)(N:H b=some (.cells cs bL)):
  ∃c e D,w.heap[p.ct]? = some (.cells c e D)/\pq ai cs c p.off:=by
 have:=M.obj b p _ I N;cases bL with
 |true=>obtain⟨_,c,e,D,E,A⟩:=this;exact⟨c,e,D,E,A⟩
 |false=>obtain⟨_,V,c,e,al,aj,E,_,A,_⟩:=this;exact⟨c,e,(al,aj),E,by rw[V];exact A⟩
theorem pq.cut{ai:cc}{c:Array X}{o n:Nat}(h:pq ai cs c off)(N:o+n<=cs.length):
  ∃cV:ac X,cV.length=n/\dt ai ((cs.drop o).take n) cV/\∀j v,cV[j]? = some v->c[off+o+j]? = some v:=by
 have A:∀j,j<n->off+o+j<c.size:=λj I=>by
  obtain⟨E,e,_⟩:=h (o+j) (cs[o+j]'J) aa
  grind
 refine⟨(c.toList.drop (off+o)).take n,?_,?_,?_⟩
 ·simp only[nU,EC,Ew];rcases zz n with D|D
  ·omega
  ·have:=A (n-1) J;omega
 ·refine dt.acT ?_ ?_
  ·simp only[nU,EC,Ew];rcases zz n with D|D
   ·omega
   ·have:=A (n-1) J;omega
  ·intro j v e;simp only[uy,ux]at e ⊢
   split at e
   ·rename_i I
    obtain⟨E,V,M⟩:=h (o+j) v e;exact⟨E,aa,M⟩
   ·cases e
 grind
theorem Wm{P:Program}(h:pu P t=some bO):
  ∃i d,P.info? t=some i/\P.underlying t=some d /\
   ((∃n,bO=some n/\i.size=n/\∀w,(isAgg t).run P w = .ok true w)\/(bO=none/\∀w,(isAgg t).run P w = .ok false w)):=by
 unfold pu jR at h;cases A:P.underlying t with
 |none=>grind
 |some d =>
  cases aj:P.info? t with
  |none=>rw[A,aj]at h;grind
  |some i =>
   refine⟨i,d,rfl,rfl,?_⟩;rw[A,aj]at h;have D:∀w,(underlying t).run P w = .ok d w:=run_underlying A;cases d <;> simp at h <;> first
    |(right;refine⟨h.symm,λw=>?_⟩;simp[isAgg,D];done)
    |(left;refine⟨_,h.symm,rfl,λw=>?_⟩;simp[isAgg,D];done)
theorem ES{P:Program}{i:TypeInfo}(h:P.info? t=some i)(w:World):(sizeOf t).run P w = .ok i.size w:=by simp[sizeOf,typeInfo,h]
theorem ajX{P:Program}{n:Nat}(h:jR P t=some n):∃i,P.info? t=some i/\i.size=n:=by
 unfold jR at h;cases aj:P.info? t with
 |none=>rw[aj]at h;cases h
 |some i=>rw[aj]at h;grind
theorem ku{P:Program}{n:Nat}(h:jR P t=some n)(w:World):(sizeOf t).run P w = .ok n w:=by obtain⟨i,aj,rfl⟩:=ajX h;exact ES aj w
theorem Pl{w:World}{g:Nat}{c:Array X}{D:Nat × Nat}(h:w.heap[g]? = some (.cells c e D))(A:c[i]? = some v):w.cell? ⟨g,i,none⟩=some v:=by simp[World.cell?,h,A]
theorem Yn{r:ay (ac X)}(h:Ko r = .ok v):∃l,r=some l/\v = .agg ⟨l⟩:=by
 cases r with
 |none=>cases h
 |some l=>cases h;grind
theorem Yo{r:ay X}(h:CJ r = .ok v):r=some v:=by
 cases r with
 |none=>cases h
 |some l=>cases h;rfl
theorem R.k7{aB:Type}{s:String}{r:ay aB}{f:aB->R e4}{x:e4}(h:R.of s r f = .ok x):∃a,r=some a/\f a = .ok x:=by
 cases r with
 |none=>cases h
 |some a=>exact⟨a,rfl,h⟩
theorem R.e9{aB e4:Type}{r:R aB}{f:aB->R e4}{x:e4}(h:R.bind r f = .ok x):∃a,r = .ok a/\f a = .ok x:=by
 cases r with
 |no w=>cases h
 |ok a=>exact⟨a,rfl,h⟩
theorem EX{h:ae}{k:ac X->ao->R e4}{x:e4}(e:cellsOf h b k = .ok x):∃cs bL,u h b=some (.cells cs bL)/\k cs bL = .ok x:=by
 unfold cellsOf at e;cases A:u h b with
 |none=>rw[A]at e;cases e
 |some o =>
  rw[A]at e;cases o with
  |cells cs bL=>grind
  |_=>cases e
theorem Jm{k:Addr->R e4}{x:e4}(e:Ae v k = .ok x):∃a,v = .pointer (some a)/\k a = .ok x:=by
 unfold Ae at e
 grind
theorem bJ.Ow{ai:cc}{a:Addr}(h:bJ ai (.pointer (some a)) c):∃p,a.spot=none/\ai a.block=some p/\c = .pointer (some ⟨p.ct,p.off+a.off,none⟩):=by
 cases h with
 |ptr h=>grind
theorem Pm{P:Program}{B:Nat}{ai:cc}{h:ae}{w:World}(ba:ec B ai (u h) w)(AK:pu P t=some bO)(V:iO bO h x = .ok v)(aX:bJ ai x dN):
  ∃ev,dN = .pointer (some ev)/\∃c,(loadVar t ev).run P w = .ok c w/\bJ ai v c:=by
 obtain⟨⟨b,o,aO⟩,rfl,V⟩:=Jm V;obtain⟨p,oe,a1,rfl⟩:=aX.Ow;refine⟨_,rfl,?_⟩;simp only at oe a1 V;obtain⟨cs,bL,a5,V⟩:=EX V;obtain⟨c,e,fB,bV,A⟩:=ba.cells a1 a5;obtain⟨i,d,aj,eI,h|h⟩:=Wm AK
 ·obtain⟨n,rfl,rfl,E⟩:=h;obtain⟨l,D,rfl⟩:=Yn V;rw[qn,rc]at D
  split at D
  ·rename_i dx
   cases D;have I:o+i.size<=cs.length\/i.size=0:=aa
   rcases I with I | aq
   ·obtain⟨cV,Z,Lj,u⟩:=A.cut   I;refine⟨.agg ⟨cV⟩,?_,.agg Lj⟩;have M:=run_loadCells_list (P:=P) w ⟨p.ct,p.off+o,none⟩ cV (λj v aI=>by rw[pn];exact Pl bV aa)
    rw[Z]at M;simp[loadVar,E,ES aj,M]
   ·refine⟨.agg #[],?_,.agg (by rw[aq];simpa using dt.nil)⟩;simp[loadVar,E,ES aj,aq,loadCells,loadCellsFrom]
  ·cases D
 ·obtain⟨rfl,E⟩:=h;have bd:=Yo V;rw[ja]at bd;obtain⟨d7,ew,aI⟩:=A o v bd;refine⟨d7,?_,aI⟩;have N:=Pl bV ew;simp[loadVar,E,N]
structure aeW (w bc:World) (g:Nat) (c:Array X) (e:TypeId) (fB:Nat × Nat):Prop where
 heap:bc.heap[g]? = some (.cells c e fB)
 size:bc.heap.size=w.heap.size
 frame:∀k,k≠g->bc.heap[k]? = w.heap[k]?
 os:bc.os=w.os
 tape:qS w bc
 output:bc.output=w.output
theorem aiE(w:World)(g i:Nat)(A:Array X)(e:TypeId)(D:Nat × Nat)(v:X)(I:w.heap[g]? = some (.cells A e D)):
  aeW w (w.setCell ⟨g,i,none⟩ v) g (A.setIfInBounds i v) e D:=by
 refine⟨?_,by simp[World.setCell],λk E=>?_,rfl,.here,rfl⟩
 ·simp[World.setCell,IB,I]
 ·simp[World.setCell,IB,kt E]
theorem VT{aB:Type}(l:ac aB)(k:Nat)(v:aB)(A:ac aB)(h:k+A.length+1<=l.length):
  (l.set k v).take (k+1)++A++(l.set k v).drop (k+1+A.length)=l.take k++(v::A)++l.drop (k+(A.length+1)):=by
 have D:(l.set k v).take (k+1)=l.take k++[v]:=by
  apply q6;intro j;simp only[uy,Ev,nU,vP]
  grind
 have E:(l.set k v).drop (k+1+A.length)=l.drop (k+(A.length+1)):=by
  apply q6
  grind
 grind
theorem Nn(P:Program)(g o:Nat)(e:TypeId)(al aj:Nat):∀(aJ:ac X) (i:Nat) (A:Array X) (w:World),w.heap[g]? = some (.cells A e (al,aj))->(al<aj->A.size<=al) ->
  o+i+aJ.length<=A.size->(∀v∈aJ,v.oneCell'=true) ->
  ∃bc,(storeCells ⟨g,o,none⟩ aJ i).run P w = .ok () bc/\aeW w bc g (A.toList.take (o+i)++aJ++A.toList.drop (o+i+aJ.length)).toArray e (al,aj)
 | [],i,A,w,V,_,_,_=>by refine⟨w,rfl,⟨?_,rfl,aa,rfl,.here,rfl⟩⟩;simp[V]
 |v::I,i,A,w,V,lP,br,h1=>by
  have cS:o+i<A.size:=aa
  have M:w.cell? ⟨g,o+i,none⟩=some A[o+i]:=by simp[World.cell?,V,cS]
  have Z:w.frozen? ⟨g,o+i,none⟩=false:=by
   simp only[World.frozen?,V]
   grind
  have D:=aiE w g (o+i) A e (al,aj) v V;obtain⟨bc,N,E⟩:=Nn P g o e al aj I (i+1) (A.setIfInBounds (o+i) v) (w.setCell ⟨g,o+i,none⟩ v) D.heap aa aa aa;refine⟨bc,?_,?_⟩
  ·simp only[storeCells,Sem.run_bind];rw[pn,run_store P w _ v _ aa,M];simp[Z,N]
  ·refine⟨?_,E.size.trans D.size,λk hk=>(E.frame k hk).trans (D.frame k hk),E.os.trans D.os,D.tape.trans E.tape,E.output.trans D.output⟩;rw[E.heap]
   congr 3
   have:=VT A.toList (o+i) v I J;simpa[Array.toList_setIfInBounds,vS]using this
theorem I7{P:Program}{B:Nat}{ai:cc}{h:ae}{w:World}(ba:ec B ai (u h) w){o:Nat}(U:Nat)(a1:ai b=some p)(I:qr h b o l = .ok ab)(br:dt ai l cV):
  ∃bc,(storeCells ⟨p.ct,p.off+o,none⟩ cV).run P w = .ok () bc/\cC B ai (u h) w U U ai (u ab) bc:=by
 obtain⟨cs,bL,a5,I⟩:=EX I;cases bL with
 |true=>cases I
 |false =>
  have I:(bif ef l then R.of "write - out of block" (mS l cs o) (λcs=>.ok (T h b (.cells cs false)))else .no "write - cells")=R.ok ab:=I;rcases M:ef l with _|_
  ·rw[M]at I;cases I
  rw[M]at I;have KR:∀v∈cV,v.oneCell'=true:=λv N=>Xc (NA br M v N);obtain⟨rz,A,I⟩:=R.k7 I;cases I;have Z:=ba.obj b p _ a1 a5;obtain⟨er,aq,c,e,al,aj,h1,ap,aH,bh⟩:=Z;rw[tg]at A
  split at A
  ·rename_i dx
   cases A;have gT:=br.length;obtain⟨bc,tA,D⟩:=Nn P p.ct (p.off+o) e al aj cV 0 c w h1 J J KR;refine⟨bc,tA,?_⟩;rw[uM];refine cC.change U ba a1 a5 er D.size D.frame D.os D.tape D.output ?_;refine⟨er,aq,_,e,al,aj,D.heap,?_,?_,?_⟩
   ·grind
   ·intro i v N;simp only[iU,aq,mM]at *
    have M:cs.length<=c.size:=J
    simp only[Ev,nU,ux,uy,List.getElem?_toArray,Ew,Array.getElem?_toList,jk]at N ⊢;rcases iI i o with hio|hio
    ·simp only[show i<min o cs.length by omega,if_true,hio]at N;obtain⟨d7,V,E⟩:=aH i v N;rw[iU]at V;exact⟨d7,aa,E⟩
    ·rcases iI i (o+l.length)with tM|tM
     ·simp only[show ¬i<min o cs.length by omega,ff,show i-min o cs.length<l.length by omega,if_true]at N;obtain⟨d7,V,E⟩:=br.get N;refine⟨d7,?_,E⟩
      grind
     ·simp only[show ¬i<min o cs.length by omega,ff,show ¬i-min o cs.length<l.length by omega]at N;obtain⟨d7,V,E⟩:=aH i v aa;refine⟨d7,?_,E⟩
      grind
   grind
  ·cases A
theorem FH{a b:IntKind}:mn a b=true↔a=b:=by cases a <;> cases b <;> decide
theorem v6(a:IntKind):mn a a=true:=FH.2 rfl
theorem oI(a b:Nat):Nat.blt a b=decide (a<b):=by rw[zB];simp[vU]
theorem x7{a b:Int}:ga a b=true↔a=b:=by
 cases a <;> cases b <;> simp[ga]
 all_goals omega
theorem k3(a b:Int):ga a b=(a == b):=by rw[zB,x7];simp
theorem amh{a b:Int}:lo a b=true↔a<b:=by
 cases a with
 |ofNat m=>cases b with
  |ofNat n=>show Nat.blt m n=true↔_;rw[oI];simp
  |negSucc n=>show false=true↔_;grind
 |negSucc m=>cases b with
  |ofNat n=>show true=true↔_;grind
  |negSucc n=>show Nat.blt n m=true↔_;rw[oI];grind
theorem rh(a b:Int):lo a b=decide (a<b):=by rw[zB,amh];simp
theorem JI{k:IntKind}{n:Int}(A:k.min<=n)(D:n<=k.max):k.wrap n=n:=by
 cases k <;> simp[IntKind.min,IntKind.max,IntKind.signed,IntKind.bits]at A D <;> simp[IntKind.wrap,IntKind.signed,IntKind.bits] <;> omega <;> omega
theorem nW(k:IntKind)(n:Int):tq k n=k.wrap n:=by
 cases n with
 |ofNat a =>
  show(bif Nat.blt a (yy k)then Int.ofNat a else k.wrap (.ofNat a))=_;cases h:Nat.blt a (yy k)with
  |false=>rfl
  |true =>
   have ab:a<yy k:=by simpa[oI]using h
   refine(JI ?_ ?_).symm
   ·cases k <;> simp[IntKind.min,IntKind.signed,IntKind.bits] <;> omega
   ·cases k <;> simp[yy]at ab <;> simp[IntKind.max,IntKind.signed,IntKind.bits] <;> omega
 |negSucc a =>
  show(bif Nat.blt a (GD k)then Int.negSucc a else k.wrap (.negSucc a))=_;cases h:Nat.blt a (GD k)with
  |false=>rfl
  |true =>
   have ab:a<GD k:=by simpa[oI]using h
   refine(JI ?_ ?_).symm
   ·cases k <;> simp[GD]at ab <;> simp[IntKind.min,IntKind.signed,IntKind.bits] <;> omega
   ·cases k <;> simp[IntKind.max,IntKind.signed,IntKind.bits] <;> omega
theorem Cf{k:Nat->R e4}{x:e4}(h:rr v k = .ok x):∃q n,v = .int q (.ofNat n)/\k n = .ok x:=by
 unfold rr at h
 split at h
 ·rename_i q n
  cases n with
  |ofNat n=>grind
  |negSucc n=>cases h
 grind
theorem bJ.th{ai:cc}{k:IntKind}{n:Int}(h:bJ ai (.int k n) c):c = .int k n:=by cases h;rfl
theorem bJ.Fk{ai:cc}{b:ao}(h:bJ ai (.bool b) c):c = .bool b:=by cases h;rfl
theorem Xd{ai:cc}:∀{l cV:ac X},h2 l=true->dt ai l cV->cV=l
 |_,_,_,.nil=>rfl
 |x::xs,_,h,.cons D A=>by simp[h2]at h;rw[zI h.1 D,Xd h.2 A]
theorem uD{ai:cc}(h:h2 (c7 v)=true)(D:bJ ai v c):c=v:=by
 cases D with
 |agg A=>rw[Xd (by simpa[c7]using h) A]
 |_=>exact zI (ai:=ai) (by simpa[c7,h2]using h) (by constructor <;> omega)
theorem ajY{a b:Lit}:Rj a b=true↔a=b:=by
 cases a <;> cases b <;> simp[Rj,FH,x7]
theorem Wn:∀{a b:ac Lit},yd a b=true↔a=b
 | [],[]=>by simp[yd]
 | [],_::_=>by simp[yd]
 |_::_,[]=>by simp[yd]
 |x::xs,y::A=>by simp[yd,ajY,Wn]
theorem v7{P:Program}{r:ao}(h:qF P t x y=some r):
  P.keyTypeAt 8 t=true/\x.formed P t=true/\y.formed P t=true/\h2 (c7 x)=true/\h2 (c7 y)=true /\
   ∃A D,P.keyLits 8 t (c7 x)=some A/\P.keyLits 8 t (c7 y)=some D/\(r=true↔A=D):=by
 unfold qF at h;cases I:(P.keyTypeAt 8 t&&(x.formed P t&&y.formed P t&&h2 (c7 x)&&h2 (c7 y)))with
 |false=>grind
 |true =>
  rw[I]at h;simp only[eA]at I;obtain⟨Z,⟨⟨N,aH⟩,V⟩,b0⟩:=I;refine⟨Z,N,aH,V,b0,?_⟩;simp only[ql]at h;cases E:P.keyLits 8 t (c7 x)with
  |none=>rw[E]at h;cases h
  |some A =>
   cases M:P.keyLits 8 t (c7 y)with
   |none=>rw[E,M]at h;cases h
   |some D =>
    rw[E,M]at h;cases h;exact⟨A,D,rfl,rfl,Wn⟩
theorem IY(v:X):c7 v=v.cells.toList:=by cases v <;> rfl
theorem aat{P:Program}{r:ao}(h:qF P t x y=some r)(d:Nat)(w:World):(Op.equalIn (d+8) t x y).run P w = .ok r w:=by
 obtain⟨I,A,M,_,_,D,E,N,V,aj⟩:=v7 h;obtain⟨xx,Z,dB⟩:=run_equalIn_deep d 8 t I w 8 8 x y D E A M (by rw[<-IY];omega) (by rw[<-IY];omega)
 grind
theorem xV{P:Program}{r:ao}(h:k5 P t x y=some r):h2 (c7 x)=true/\h2 (c7 y)=true:=by
 unfold k5 at h
 split at h
 ·unfold J6 at h
  split at h
  ·exact⟨rfl,rfl⟩
  grind
 ·obtain⟨_,_,_,D,A,_⟩:=v7 h;grind
theorem ahQ{P:Program}(h:Ov P t=true):P.underlying t=some .bool:=by unfold Ov at h;grind
theorem ahY{P:Program}(h:wc P t=true):∃e,P.underlying t=some (.pointer e):=by unfold wc at h;grind
theorem Nq{P:Program}(h:ns P t=true):∃e,P.underlying t=some (.slice e):=by unfold ns at h;grind
theorem Ny{P:Program}(h:rk P t=true):∃k e,P.underlying t=some (.map k e):=by unfold rk at h;grind
theorem VW{P:Program}(h:wb P t=true):∃k,P.underlying t=some (.int k):=by unfold wb at h;grind
theorem td{aB:Type}{b:ao}{x:ay aB}{r:aB}(h:(bif b then x else none)=some r):b=true/\x=some r:=aa
theorem jP{aB:Type}{b:ao}{x:R aB}{s:String}{r:aB}(h:(bif b then x else .no s) = .ok r):b=true/\x = .ok r:=aa
theorem Fl{aB:Type}{b:ao}{x:R aB}{s:String}{r:aB}(h:(bif b then .no s else x) = .ok r):b=false/\x = .ok r:=aa
theorem ap0{P:Program}(A:P.underlying t=some (.pointer e))(d:Nat)(b:ay Addr)(w:World):(Op.equalIn (d+1) t (.pointer none) (.pointer b)).run P w = .ok b.isNone w:=by
 cases b <;> simp[Op.equalIn,run_underlying A]
theorem ap1{P:Program}(A:P.underlying t=some (.pointer e))(d:Nat)(a:Addr)(w:World):(Op.equalIn (d+1) t (.pointer (some a)) (.pointer none)).run P w = .ok false w:=by simp[Op.equalIn,run_underlying A]
theorem atZ{P:Program}(A:P.underlying t=some (.slice e))(d:Nat)(l c:Nat)(b:ay Addr)(cV D:Nat)(w:World):(Op.equalIn (d+1) t (.slice none l c) (.slice b cV D)).run P w = .ok b.isNone w:=by
 cases b <;> simp[Op.equalIn,run_underlying A]
theorem at0{P:Program}(A:P.underlying t=some (.slice e))(d:Nat)(a:Addr)(l c:Nat)(cV D:Nat)(w:World):(Op.equalIn (d+1) t (.slice (some a) l c) (.slice none cV D)).run P w = .ok false w:=by simp[Op.equalIn,run_underlying A]
theorem ap2{P:Program}{k:TypeId}(A:P.underlying t=some (.map k e))(d:Nat)(b:ay Nat)(w:World):(Op.equalIn (d+1) t (.map none) (.map b)).run P w = .ok b.isNone w:=by
 cases b <;> simp[Op.equalIn,run_underlying A]
theorem ap3{P:Program}{k:TypeId}(A:P.underlying t=some (.map k e))(d:Nat)(a:Nat)(w:World):(Op.equalIn (d+1) t (.map (some a)) (.map none)).run P w = .ok false w:=by simp[Op.equalIn,run_underlying A]
theorem Yp{P:Program}{ai:cc}{r:ao}(h:oT P t x y=some r)(D:bJ ai x dN)(E:bJ ai y il)(w:World):
  (Op.equal t dN il).run P w = .ok r w:=by
 unfold oT at h
 split at h
 ·obtain⟨I,h⟩:=td h;have A:=ahQ I;unfold agk at h
  split at h
  ·cases h;rw[D.Fk,E.Fk];exact run_equal_bool w t _ _ A
  grind
 ·obtain⟨I,h⟩:=td h;obtain⟨e,A⟩:=ahY I;unfold GF at h
  split at h
  ·split at h
   ·cases h;cases D;cases E <;> exact ap0 A 9999 _ w
   ·cases h;cases D;cases E;exact ap1 A 9999 _ w
   grind
  grind
 ·obtain⟨I,h⟩:=td h;obtain⟨e,A⟩:=Nq I;unfold RP at h
  split at h
  ·split at h
   ·cases h;cases D;cases E <;> exact atZ A 9999 _ _ _ _ _ w
   ·cases h;cases D <;> cases E <;> exact at0 A 9999 _ _ _ _ _ w
   grind
  grind
 ·obtain⟨I,h⟩:=td h;obtain⟨k,e,A⟩:=Ny I;unfold agl at h
  split at h
  ·split at h
   ·cases h;cases D;cases E <;> exact ap2 A 9999 _ w
   ·cases h;cases D;cases E;exact ap3 A 9999 _ w
   grind
  grind
 ·obtain⟨_,h⟩:=td h;obtain⟨_,_,_,M,N,_⟩:=v7 h;rw[uD M D,uD N E];exact aat h 9992 w
 grind
theorem zL{b:ao}(h:mP b = .ok v):v = .bool b:=by cases h;rfl
theorem rl{k:IntKind}{n:Int}(h:jc k n = .ok v):v = .int k n:=by cases h;rfl
theorem ami(a b:Int):(!lo b a)=decide (a<=b):=by rw[rh,zB];simp
theorem ap4(a b:Int):(!ga a b)=(a != b):=by rw[k3];rfl
theorem ap5{P:Program}{op:BinOp}{k:IntKind}{a b:Int}(t:TypeId)(D:x6 op=false)(h:Dp op k a b = .ok v)(w:World):
  (binOp op t (.int k a) (.int k b)).run P w = .ok v w:=by
 cases op <;> simp only[Dp,x6]at h D
 all_goals first
  |(cases D;done)
  |(rw[rl h,nW];simp[binOp,Op.intArith];done)
  |(rw[rl h,nW];simp[binOp,Op.intArith];rfl)
  |(rw[zL h];simp[binOp,Op.intCmp,rh,k3];done)
  |(rw[zL h,ami];simp[binOp,Op.intCmp];done)
  |(rw[zL h,ap4];simp[binOp,Op.intCmp];done)
  |skip
 all_goals first
  |(simp only[CZ]at h;obtain⟨E,I⟩:=Fl h;have A:¬b=0:=(by rw[k3]at E;grind);rw[rl I];simp[binOp,Op.intDiv,A,nW];done)
  |(simp only[Gm]at h;rw[rl h];simp[binOp,Op.intBits];done)
  |(simp only[Gm]at h;cases h;done)
theorem amj{P:Program}{op:BinOp}{k:IntKind}{a b:Int}(t:TypeId)(h:Ao op k a dw b = .ok v)(w:World):
  (binOp op t (.int k a) (.int dw b)).run P w = .ok v w:=by
 unfold Ao at h;cases A:x6 op with
 |true =>
  rw[A]at h;simp only[ql,wi]at h;obtain⟨N,E⟩:=Fl h;have D:¬b<0:=by rw[rh]at N;grind
  cases op <;> simp only[x6]at A
  all_goals first
   |(cases A;done)
   |(rw[rl E];simp[binOp,Op.shift,D,nW];done)
 |false =>
  rw[A]at h;simp only[mN]at h;obtain⟨M,E⟩:=jP h;have I:=FH.1 M;rw[<-I];exact ap5 t A E w
def m5(P:Program)(ai:cc)(v:X)(s:Sem X):Prop:=∃c,bJ ai v c/\∀w,s.run P w = .ok c w
def Gb:X->ao
 | .bool _=>true | .pointer _=>true | .slice _ _ _=>true | .map _=>true | .agg _=>true|_=>false
theorem binOp_eql{a b:X}(h:Gb a=true):binOp .eql t a b=(do pure (.bool (<-Op.equal t a b))):=by
 cases a <;> first|(cases h;done)|(cases b <;> rfl)
theorem binOp_neq{a b:X}(h:Gb a=true):binOp .neq t a b=(do pure (.bool (!(<-Op.equal t a b)))):=by
 cases a <;> first|(cases h;done)|(cases b <;> rfl)
def Qx:X->ao
 | .nilIface=>false | .agg _=>false|_=>true
theorem EP{P:Program}{op:BinOp}{x y:Operand}{a b:X}(h:Qx a=true)(w:World):(eqGuard op t x y a b).run P w = .ok () w:=by
 cases a <;> first|(cases h;done)|(cases op <;> simp[eqGuard])
theorem ah9{P:Program}{op:BinOp}{x y:Operand}{a:Array X}{b:X}(h:Ce P t=true)(w:World):(eqGuard op t x y (.agg a) b).run P w = .ok () w:=by
 have ab:P.eqGuardType P.depth t=false:=by simpa[Ce]using h
 cases b <;> cases op <;> simp[eqGuard,ab]
theorem bJ.other{ai:cc}(h:bJ ai x c):Gb c=Gb x:=by cases h <;> rfl
theorem bJ.Kq{ai:cc}(h:bJ ai x c):Qx c=Qx x:=by cases h <;> rfl
section
variable {P:Program} {ai:cc}
theorem ap6{op:BinOp}{k:IntKind}{a b:Int}(h:Ao op k a dw b = .ok v):bJ ai v v:=by
 have D:∀{k n},jc k n = .ok v->bJ ai v v:=λh=>by rw[rl h];exact .int _ _
 have I:∀{b},mP b = .ok v->bJ ai v v:=λh=>by rw[zL h];exact .bool _
 unfold Ao at h;cases E:x6 op with
 |true =>
  rw[E]at h;simp only[ql,wi]at h;obtain⟨_,A⟩:=Fl h;cases op <;> simp only[]at A <;> first|exact D A|(cases A;done)
 |false =>
  rw[E]at h;simp only[mN]at h;obtain⟨_,A⟩:=jP h;cases op <;> simp only[Dp,CZ,Gm]at A
  all_goals first
   |exact D A
   |exact I A
   |(cases A;done)
   |(obtain⟨_,M⟩:=Fl A;exact D M)
theorem Wo{b:ao}(h:oT P t x y=some b):Gb x=true:=by
 unfold oT at h
 split at h <;> first|rfl|(cases h;done)
theorem Wp{b:ao}(h:oT P t x y=some b)(A:bJ ai x dN)(op:BinOp)(I E:Operand)(il:X)(w:World):(eqGuard op t I E dN il).run P w = .ok () w:=by
 unfold oT at h
 split at h
 ·exact EP A.Kq w
 ·exact EP A.Kq w
 ·exact EP A.Kq w
 ·exact EP A.Kq w
 ·obtain⟨D,_⟩:=td h;cases A with
  |agg M=>exact ah9 D w
 grind
theorem ap7{op:BinOp}(M I:Operand)(h:bin P op t x y = .ok v)(D:bJ ai x dN)(E:bJ ai y il):
  m5 P ai v (do eqGuard op t M I dN il;binOp op t dN il):=by
 unfold bin at h
 split at h
 ·unfold agn at h
  split at h
  ·rw[D.th,E.th];refine⟨v,ap6 h,λw=>?_⟩;rw[Sem.run_bind,EP rfl];exact amj t h w
  ·cases h
 ·unfold agm at h
  split at h
  ·obtain⟨b,A,h⟩:=R.k7 h;rw[zL h];refine⟨_,.bool _,λw=>?_⟩;rw[Sem.run_bind,Wp A D,binOp_eql (by rw[D.other];exact Wo A)];simp[Yp A D E]
  ·obtain⟨b,A,h⟩:=R.k7 h;rw[zL h];refine⟨_,.bool _,λw=>?_⟩;rw[Sem.run_bind,Wp A D,binOp_neq (by rw[D.other];exact Wo A)];simp[Yp A D E]
  ·cases h
theorem ap8{op:UnOp}(h:ds op x = .ok v)(A:bJ ai x dN):m5 P ai v (Op.unary op dN):=by
 unfold ds at h
 split at h
 ·rw[A.Fk]
  split at h
  ·rw[zL h];exact⟨_,.bool _,λw=>rfl⟩
  ·cases h
 ·rw[A.th]
  split at h
  ·rw[rl h,nW];exact⟨_,.int _ _,λw=>rfl⟩
  ·rw[rl h];exact⟨_,.int _ _,λw=>rfl⟩
  ·cases h
 ·cases h
theorem ajZ{s d:TypeId}{jv A:TypeDesc}(E:P.underlying s=some jv)(D:P.underlying d=some A)(h:n1 A x = .ok v)(I:bJ ai x dN):m5 P ai v (convert s d dN):=by
 unfold n1 at h
 split at h
 ·rw[I.th]
  split at h
  ·rw[rl h,nW];exact⟨_,.int _ _,λw=>by simp[convert,run_underlying E,run_underlying D,Conv.intToInt]⟩
  ·cases h
 ·cases h
theorem aiF(h:bB x = .ok v):v=x/\((∃a,x = .pointer (some a))\/(∃f a b,x = .func (.func f) a b)\/(∃f a b,x = .func (.yield f) a b)\/∃t y,x = .iface t y):=by
 unfold bB at h
 grind
theorem ap9(h:zG P t=true)(D:bJ ai x dN):m5 P ai (.iface t x) (Instr.makeInterface t dN):=by
 unfold zG at h
 split at h
 ·cases h
 ·rename_i d E A
  refine⟨_,.iface t D,λw=>?_⟩;cases d <;> first|(exact(E _ rfl).elim)|simp[Instr.makeInterface,run_underlying A]
 ·cases h
theorem aia{V:TypeId}(h:FG P t ok x = .ok v)(Z:bJ ai x dN):m5 P ai v (Instr.typeAssert dN V t ok):=by
 unfold FG at h
 split at h
 ·obtain⟨E,h⟩:=jP h;cases h;simp only[eA]at E;obtain⟨A,D⟩:=E;cases gE D;cases Z with
  | @iface _ _ M I =>
   refine⟨if ok then .tuple #[M,.bool true]else M,?_,λw=>?_⟩
   ·cases ok with
    |true=>exact .tuple (.cons I (.cons (.bool _) .nil))
    |false=>exact I
   unfold zG at A
   split at A
   ·grind
   ·rename_i d bw N
    cases d <;> first|(exact(bw _ rfl).elim)|simp[Instr.typeAssert,run_underlying N]
   grind
 ·cases h
theorem ahZ(h:cu x i = .ok v)(E:bJ ai x dN):m5 P ai v (Instr.extract dN i):=by
 unfold cu at h
 split at h
 ·obtain⟨y,A,h⟩:=R.k7 h;cases h;cases E with
  |tuple D =>
   rw[ja]at A;obtain⟨c,I,M⟩:=D.get A;refine⟨c,M,λw=>?_⟩;simp[Instr.extract,I]
 ·cases h
theorem Yq{b:ao}(h:min2 b x y = .ok v)(D:bJ ai x dN)(A:bJ ai y il):m5 P ai v (bif b then Builtin.min2 dN il else Builtin.max2 dN il):=by
 unfold min2 at h
 split at h
 ·split at h
  ·obtain⟨E,h⟩:=jP h;rw[D.th,A.th];cases b with
   |true =>
    simp only[ql]at h;rw[rl h,rh];refine⟨_,.int _ _,λw=>?_⟩;simp only[ql,Builtin.min2]
    congr 2
    simp
   |false =>
    simp only[mN]at h;rw[rl h,rh];refine⟨_,.int _ _,λw=>?_⟩;simp only[mN,Builtin.max2]
    congr 2
    simp
  ·cases h
 ·cases h
end
section
variable {P:Program} {ai:cc}
theorem Qy{a:Nat}(h:Nat.blt a b=true):a<b:=by rw[oI]at h;grind
theorem V7{s:Nat}(h:Cu P t=some s):∃e,P.underlying t=some (.slice e)/\jR P e=some s:=by
 unfold Cu at h
 grind
theorem ET(k:IntKind)(n:Int)(w:World):(asIntOf (.int k n)).run P w = .ok (k,n) w:=rfl
theorem vV(k:IntKind)(n y:Nat)(code:BoundsCode)(h:n<=y)(w:World):(Instr.sliceBound (.int k (.ofNat n)) y code).run P w = .ok n w:=by simp[Instr.sliceBound,ET,h]
theorem JJ{x:ay X}{n:Nat}(h:Ap x d = .ok n):(x=none/\n=d)\/∃k,x=some (.int k (.ofNat n)):=by
 cases x with
 |none=>cases h;grind
 |some v =>
  obtain⟨q,m,rfl,A⟩:=Cf h
  grind
def uf(ai:cc)(x c:ay X):Prop:=match x,c with
 |none,none=>True
 |some v,some c=>bJ ai v c
 |_,_=>False
theorem uf.none{c:ay X}(h:uf ai none c):c=none:=by cases c with|none=>rfl|some c=>exact h.elim
theorem uf.int{c:ay X}{k:IntKind}{n:Int}(h:uf ai (some (.int k n)) c):c=some (.int k n):=by cases c with|none=>exact h.elim|some c=>rw[bJ.th h]
theorem aiG{al aj:ay X}(rZ:uf ai al ea)(D:uf ai aj dB)(E:uf ai iX Lh){up A l:Nat}(h1:Ap iX cap = .ok m)(Z:Ap aj len = .ok A)(aH:Ap al 0 = .ok l)(hmh:iX.isSome=true->aj.isSome=true)(bx:m<=cap)(I:A<=m)(N:l<=A)(w:World):
  (Instr.sliceBounds true len (cap+up) ea dB Lh).run P w = .ok (l,A,if iX.isSome then m else cap+up) w:=by
 rcases JJ h1 with⟨rfl,rfl⟩|⟨mk,rfl⟩ <;> rcases JJ Z with⟨rfl,rfl⟩|⟨M,rfl⟩ <;> rcases JJ aH with⟨rfl,rfl⟩|⟨V,rfl⟩
 ·rw[rZ.none,D.none,E.none];simp only[Instr.sliceBounds,Sem.run_bind,Sem.run_pure,Result.andThen_ok,BR,np,ff]
 ·rw[rZ.int,D.none,E.none];simp only[Instr.sliceBounds,Sem.run_bind,Sem.run_pure,Result.andThen_ok,BR,np,ff,vV V l A _ N w]
 ·rw[rZ.none,D.int,E.none];simp only[Instr.sliceBounds,Sem.run_bind,Sem.run_pure,Result.andThen_ok,BR,np,ff,if_true,vV M A (m+up) _ J w]
 ·rw[rZ.int,D.int,E.none];simp only[Instr.sliceBounds,Sem.run_bind,Sem.run_pure,Result.andThen_ok,BR,np,ff,if_true,vV M A (m+up) _ J w,vV V l A _ N w]
 ·grind
 ·grind
 ·rw[rZ.none,D.int,E.int];simp only[Instr.sliceBounds,Sem.run_bind,Sem.run_pure,Result.andThen_ok,Nc,if_true,vV mk m (cap+up) _ J w,vV M A m _ I w]
 ·rw[rZ.int,D.int,E.int];simp only[Instr.sliceBounds,Sem.run_bind,Sem.run_pure,Result.andThen_ok,Nc,if_true,vV mk m (cap+up) _ J w,vV M A m _ I w,vV V l A _ N w]
theorem uF(D:P.underlying t=some (.slice e)){s:Nat}(E:jR P e=some s)(A:ay Addr)(len cap:Nat)(al aj iX:ay X){l h:Nat}{w:World}(I:(Instr.sliceBounds true len cap al aj iX).run P w = .ok (l,h,m) w):
  (Instr.sliceAt t (.slice A len cap) al aj iX).run P w = .ok (.slice (if m=l then A else A.map (·.add (l*s))) (h-l) (m-l)) w:=by simp[Instr.sliceAt,Instr.slice,run_underlying D,I,ku E]
theorem aqa{al aj:ay X}(rZ:uf ai al ea)(aCq:uf ai aj dB)(U4:uf ai iX Lh){s:Nat}(au:Cu P t=some s)(h:g5 s x al aj iX = .ok v)(aX:bJ ai x dN):m5 P ai v (Instr.sliceAt t dN ea dB Lh):=by
 obtain⟨e,N,A⟩:=V7 au;unfold g5 at h
 split at h
 ·rename_i a9 len cap
  obtain⟨hmh,h⟩:=jP h;obtain⟨m,h1,h⟩:=R.e9 h;obtain⟨M,ap,h⟩:=R.e9 h;obtain⟨l,aH,h⟩:=R.e9 h;obtain⟨a5,h⟩:=jP h;simp only[eA]at a5;obtain⟨bx,SN,br⟩:=a5;have bx:=lJ bx;have SN:=lJ SN;have br:=lJ br;have ayu:iX.isSome=true->aj.isSome=true:=aa
  have B:∀up w,_:=λup w=>aiG (P:=P) (up:=up) rZ aCq U4 h1 ap aH ayu bx SN br w;have SO:iX.isSome=false->m=cap:=λaX=>by
   rcases JJ h1 with⟨rfl,rfl⟩|⟨k,rfl⟩
   all_goals grind
  unfold uW at h;cases V:Nat.beq m l with
  |true =>
   have E:=gE V;subst E;have hhm:M=m:=J
   subst hhm;rw[V]at h;simp only[ql]at h;unfold k4 at h;cases D:(zQ a9&&!iX.isSome)with
   |true =>
    rw[D]at h;cases h;simp only[eA,Nd]at D;have ru:=SO D.2;subst ru;cases aX with
    | @oK b o mA p Z bK _ _ =>
     by_cases oe:p.spare=0
     ·refine⟨_,.oL b o p.ct (p.off+o) 0,λw=>?_⟩;rw[uF N A _ _ _ _ _ _ (B p.spare w)]
      grind
     ·refine⟨_,.oL b o p.ct (p.off+o+M*s) p.spare,λw=>?_⟩;rw[uF N A _ _ _ _ _ _ (B p.spare w)];simp[D.2,oe,pn]
    |oL b o g aU c =>
     refine⟨_,.oL b o g aU c,λw=>?_⟩;have:=uF N A (some ⟨g,aU,none⟩) _ _ _ _ _ (B c w);simp only[iU]at this;rw[this];simp[D.2,pn]
    |rf=>cases D.1
    |k4=>cases D.1
   |false =>
    rw[D]at h;simp only[mN]at h;obtain⟨dc,h⟩:=Fl h;cases h;cases aX with
    |rf =>
     refine⟨_,.rf _ _,λw=>?_⟩;have:=uF N A none _ _ _ _ _ (B 0 w)
     grind
    | @k4 b o p Z _ _ =>
     refine⟨.slice (some ⟨p.ct,p.off+(o+0),none⟩) (Nat.sub M M) (Nat.sub M M),?_,λw=>?_⟩
     ·cases I:iX.isSome <;> exact .k4 Z _ _
     ·have:=uF N A (some ⟨p.ct,p.off+o,none⟩) _ _ _ _ _ (B 0 w)
      grind
    | @oK b o mA p Z bK _ _ =>
     have awl:iX.isSome=true:=by simpa[zQ]using D
     refine⟨.slice (some ⟨p.ct,p.off+(o+0),none⟩) (Nat.sub M M) (Nat.sub M M),?_,λw=>?_⟩
     ·simp only[awl];exact .k4 Z _ _
     ·rw[uF N A _ _ _ _ _ _ (B p.spare w)]
      grind
    |oL=>cases dc
  |false =>
   have E:=Nat.ne_of_beq_eq_false V;rw[V]at h;simp only[mN]at h;cases h;cases aX with
   |rf =>
    refine⟨_,.rf _ _,λw=>?_⟩;have:=uF N A none _ _ _ _ _ (B 0 w)
    grind
   | @k4 b o p Z _ _ =>
    refine⟨.slice (some ⟨p.ct,p.off+(o+l*s),none⟩) (M-l) (m-l),?_,λw=>?_⟩
    ·cases I:iX.isSome <;> exact .k4 Z _ _
    ·have:=uF N A (some ⟨p.ct,p.off+o,none⟩) _ _ _ _ _ (B 0 w);simp only[mM]at this;rw[this];cases I:iX.isSome with
     |true=>simp[E,pn,vS]
     |false=>have:=SO I;subst this;simp[E,pn,vS]
   | @oK b o mA p Z bK _ _ =>
    cases I:iX.isSome with
    |true =>
     refine⟨.slice (some ⟨p.ct,p.off+(o+l*s),none⟩) (M-l) (m-l),?_,λw=>?_⟩
     ·exact .k4 Z _ _
     ·rw[uF N A _ _ _ _ _ _ (B p.spare w)];simp[I,E,pn,vS]
    |false =>
     have ayv:=SO I;subst ayv;refine⟨.slice (some ⟨p.ct,p.off+(o+l*s),none⟩) (M-l) (m-l+p.spare),?_,λw=>?_⟩
     ·exact .oK Z bK _ _
     ·rw[uF N A _ _ _ _ _ _ (B p.spare w)];have:¬m+p.spare=l:=J
      simp[I,this,pn,vS];omega
   |oL=>omega
 ·cases h
theorem bJ.aau{o:Nat}(h:bJ ai (.pointer (some ⟨b,o,aO⟩)) c):∃p,ai b=some p/\aO=none/\c = .pointer (some ⟨p.ct,p.off+o,none⟩):=by
 cases h with
 |ptr h=>grind
theorem Jn{o n:Nat}(h:ai b=some p):bJ ai (CK ⟨b,o,aO⟩ n) (.pointer (some ⟨p.ct,p.off+o+n,none⟩)):=by rw[show p.off+o+n=p.off+(o+n) by omega];exact .ptr h
theorem VX{f:Nat × TypeId}(h:Cd P t i=some f):
  ∃A vi n,P.underlying t=some (.struct A)/\A[i]? = some vi/\f=(vi.offset,vi.type)/\jR P vi.type=some (n+1):=by
 unfold Cd at h
 split at h
 ·rename_i A E
  split at h
  ·rename_i vi D
   split at h
   ·rename_i n I
    cases h;rw[ja]at D
    grind
   grind
  grind
 grind
theorem aib{f:Nat × TypeId}{a:Addr}(h:Cd P t i=some f)(I:bJ ai (.pointer (some a)) dN):m5 P ai (CK a f.1) (Instr.fieldAt t dN i):=by obtain⟨N,vi,n,D,E,rfl,M⟩:=VX h;obtain⟨b,o,aO⟩:=a;obtain⟨p,A,rfl,rfl⟩:=I.aau;refine⟨_,Jn A,λw=>?_⟩;simp[Instr.fieldAt,run_underlying D,E,Instr.sureAddr,fieldPlace,ku M,pn]
theorem Yr(E:pu P e=some bO)(h:hg bO off l = .ok v)(I:dt ai l cV):m5 P ai v (part e ⟨cV⟩ off):=by
 obtain⟨i,d,aj,Z,ab | ab⟩:=Wm E
 ·obtain⟨n,rfl,rfl,D⟩:=ab;obtain⟨k,A,rfl⟩:=Yn h;rw[qn,rc]at A
  split at A
  ·cases A;refine⟨.agg ⟨(cV.drop off).take i.size⟩,.agg ((I.drop _).take _),λw=>?_⟩;simp[part,D,ES aj]
  ·cases A
 ·obtain⟨rfl,D⟩:=ab;have M:=Yo h;rw[ja]at M;obtain⟨c,N,V⟩:=I.get M;refine⟨c,V,λw=>?_⟩;simp[part,D,N]
theorem amk{f:Nat × TypeId}(N:Cd P t i=some f)(D:pu P f.2=some bO)(h:yz f.1 bO x = .ok v)(V:bJ ai x dN):m5 P ai v (Instr.field t dN i):=by
 obtain⟨dD,vi,n,M,A,rfl,bw⟩:=VX N;unfold yz at h
 split at h
 ·cases V with
  |agg I =>
   obtain⟨c,Z,E⟩:=Yr D h I;refine⟨c,Z,λw=>?_⟩;simp[Instr.field,run_underlying M,A,asAgg,E w]
 ·cases h
theorem Xe{k:wQ}(h:KK P t=some k):(∃e s,P.underlying t=some (.slice e)/\jR P e=some s/\k = .slice s)\/∃n e s,P.underlying t=some (.array n e)/\jR P e=some s/\k = .array n s:=by
 unfold KK at h
 grind
theorem ahL{k:wQ}(V:KK P t=some k)(h:xX k x i = .ok v)(Z:bJ ai x dN):
  m5 P ai v (Instr.indexAt t dN (.int q (.ofNat i))):=by
 unfold xX at h
 split at h
 ·split at h
  ·rename_i s
   obtain⟨A,h⟩:=jP h;have A:=Qy A;cases h;rcases Xe V with⟨e,N,E,I,D⟩|⟨n,e,N,E,I,D⟩
   ·cases D;cases Z with
    |k4 M =>
     refine⟨_,Jn M,λw=>?_⟩;simp[Instr.indexAt,ET,run_underlying E,A,ku I,pn]
    |oK M D =>
     refine⟨_,Jn M,λw=>?_⟩;simp[Instr.indexAt,ET,run_underlying E,A,ku I,pn]
    |oL=>omega
   ·cases D
  ·cases h
 ·split at h
  ·obtain⟨A,h1⟩:=jP h;have A:=Qy A;cases h1;rcases Xe V with⟨e,N,E,I,D⟩|⟨jZ,e,N,E,I,D⟩
   ·cases D
   ·cases D;cases Z with
    |ptr M =>
     refine⟨_,Jn M,λw=>?_⟩;simp[Instr.indexAt,ET,run_underlying E,A,ku I,pn,Instr.sureAddr]
  ·cases h
 ·cases h
theorem aiH(h:Qu P t x i = .ok v)(aX:bJ ai x dN):m5 P ai v (Instr.index t dN (.int q (.ofNat i))):=by
 cases x <;> simp only[Qu]at h
 case agg cs =>
  cases E:P.underlying t with
  |none=>rw[E]at h;cases h
  |some d =>
   rw[E]at h;cases d <;> try(cases h;done)
   case array n e =>
    obtain⟨A,h1⟩:=jP h;have A:=Qy A;obtain⟨bO,D,V⟩:=R.k7 h1;obtain⟨s,Z,aH⟩:=R.k7 V;cases aX with
    |agg N =>
     obtain⟨c,aI,M⟩:=Yr D aH N;refine⟨c,aI,λw=>?_⟩;have I:=M w;have aW:Nat.mul i s=i*s:=rfl;rw[aW]at I;simp[Instr.index,ET,run_underlying E,A,ku Z,I]
 all_goals (cases h;done)
theorem aml{I:TypeId}(E:ag[0]? = some t)(h:GH P t x = .ok v)(D:bJ ai x dN):m5 P ai v (Builtin.cap_ ag I #[dN]):=by
 obtain⟨M,h⟩:=jP h;obtain⟨e,A⟩:=Nq M;unfold ago at h
 split at h
 ·rw[rl h];cases D;exact⟨_,.int _ _,λw=>by simp[Builtin.cap_,E,run_underlying A,goInt]⟩
 ·rw[rl h];cases D;exact⟨_,.int _ _,λw=>by simp[Builtin.cap_,E,run_underlying A,goInt]⟩
 ·cases h
theorem zF(h:nY P t=some l):∃i z,P.info? t=some i/\i.zero=some z/\uV z=true/\l=z.cells.toList:=by
 unfold nY at h
 grind
theorem ah0(h:JH P t=some z):∃i,P.info? t=some i/\i.zero=some z/\uV z=true:=by
 unfold JH at h
 grind
theorem x3{i:TypeInfo}(aj:P.info? t=some i)(A:i.zero=some z)(w:World):(zeroValue t).run P w = .ok z w:=by simp[zeroValue,typeInfo,aj,A]
theorem xU(h:uV z=true)(ai:cc):dt ai z.cells.toList z.cells.toList:=by have:=(ER h ai).cells;rwa[IY]at this
theorem aav(off:Nat):∀(l:ac X) (k:Nat) (cells:Array X),off+k+l.length<=cells.size ->
  ((l.zipIdx k).foldl (λcs (x:X × Nat)=>cs.setIfInBounds (off+x.2) x.1) cells).toList=cells.toList.take (off+k)++l++cells.toList.drop (off+k+l.length)
 | [],k,cells,_=>by simp
 |v::A,k,cells,h=>by simp only[List.zipIdx_cons,EF];rw[aav off A (k+1) (cells.setIfInBounds (off+k) v) aa];have:=VT cells.toList (off+k) v A J;simpa[Array.toList_setIfInBounds,vS]using this
theorem dt.put{c A:ac X}(E:dt ai l cV)(D:dt ai c A)(o n:Nat):dt ai (c.take o++(l++c.drop n)) (A.take o++(cV++A.drop n)):=
 (D.take o).append (E.append (D.drop n))
def Loc(ai:cc)(ak:ck)(t:Array X)(l:Array Operand):Prop:=∀d v,Operand.tmp d∈l->hv ak d=some v->bJ ai (rq v) (t.getD d undef)
theorem ju.loc{t:Array X}(h:ju ai ak t)(l:Array Operand):Loc ai ak t l:=λd v _=>h d v
theorem Loc.ej{a:Act}{l:Array Operand}(N:Loc ai ak a.tmps l){x:Operand}(M:x∈l){y:e5}(A:co x=some y)(h:ed ak y = .ok v):bJ ai v (a.eval x):=by
 cases x with
 |tmp t =>
  cases A;unfold ed at h;cases D:hv ak t with
  |none=>simp only[D]at h;cases h
  |some o =>
   have:=N t o M D;cases o <;> simp only[D]at h <;> cases h <;> exact this
 |const c =>
  obtain⟨E,I⟩:=td A;cases I;cases h;exact ER E ai
 |global g=>cases A
 |func f=>cases A;cases h;exact .func f .nil .nil
theorem Loc.vm{ak:ck}{a:Act}{l:Array Operand}(I:Loc ai ak a.tmps l):∀{xs:ac Operand} {D:ac e5} {aJ:ac X},(∀x∈xs,x∈l)->yK xs=some D->pB ak D = .ok aJ->dt ai aJ (xs.map a.eval)
 | [],D,aJ,_,A,h=>by cases A;cases h;exact .nil
 |x::xs,D,aJ,E,A,h=>by
  unfold yK at A
  split at A
  ·rename_i y Z h1 M
   cases A;obtain⟨v,aH,h⟩:=R.e9 (show R.bind (ed ak y) _=_ from h);obtain⟨N,V,h⟩:=R.e9 h;cases h;exact .cons (I.ej (E x (by simp)) h1 aH) (I.vm (λz dc=>E z aa) M V)
  ·cases A
theorem Loc.SP{a:Act}{l:Array Operand}(M:Loc ai ak a.tmps l){x:ay Operand}(I:∀y,x=some y->y∈l){y:ay e5}(A:GZ x=some y){v:ay X}(h:KQ ak y = .ok v):uf ai v (x.map a.eval):=by
 cases x with
 |none=>cases A;cases h;trivial
 |some x =>
  unfold GZ at A;cases D:co x with
  |none=>simp only[D]at A;cases A
  |some z =>
   simp only[D]at A;cases A;obtain⟨E,N,h⟩:=R.e9 (show R.bind (ed ak z) _=_ from h);cases h;exact M.ej (I _ rfl) D N
theorem Jo{ak:ck}{a:Act}{a8:Array Operand}(f3:Loc ai ak a.tmps a8)(D:Nat->ay (Nat × Nat)):∀(E:ac (Nat × Operand)) (cs:ac (Nat × Nat × e5)) (aJ:ac (Nat × Nat × X)) (cells A l:ac X),(∀x∈E,x.2∈a8) ->
  Cv D E=some cs->Ga ak cs = .ok aJ->dt ai cells A->oO aJ cells = .ok l ->
  ∃cV,Instr.fill D ⟨A⟩ (E.map λx=>(x.1,a.eval x.2))=some ⟨cV⟩/\dt ai l cV
 | [],cs,aJ,cells,A,l,_,a5,Z,ba,h=>by cases a5;cases Z;cases h;exact⟨A,rfl,ba⟩
 |(i,x)::xs,cs,aJ,cells,A,l,bx,a5,Z,ba,h=>by
  unfold Cv at a5
  split at a5
  ·rename_i p y r N SQ V
   cases a5;obtain⟨v,aI,Z⟩:=R.e9 (show R.bind (ed ak y) _=_ from Z);obtain⟨vs',G5,Z⟩:=R.e9 Z;cases Z;obtain⟨gT,aH⟩:=jP (show(bif Nat.beq (jq (c7 v)) p.2 then R.of "fill" (mS (c7 v) cells p.1) (oO vs')else .no "fill - size") = .ok l from h);obtain⟨aAM,I,bh⟩:=R.k7 aH;have wU:=(f3.ej (bx (i,x) (by simp)) SQ aI).cells;have bw:p.2=(c7 v).length:=(gE gT).symm;rw[tg]at I
   split at I
   ·rename_i dx
    cases I;have rA:=wU.length;have tN:=ba.length;obtain⟨cV,M,RT⟩:=Jo f3 D xs r vs' _ _ l (λz dc=>bx z aa) V G5 (wU.put ba p.1 (p.1+(c7 v).length)) bh;refine⟨cV,?_,RT⟩;obtain⟨off,sX⟩:=p;simp only at bw dx M;have N:D i=some (off,sX):=N;simp only[qj,Instr.fill,N];have:((a.eval x).cells.zipIdx.foldl (λcs (x:X × Nat)=>cs.setIfInBounds (off+x.2) x.1) (⟨A⟩:Array X))=⟨A.take off++((a.eval x).cells.toList++A.drop (off+(c7 v).length))⟩:=by
     apply Array.ext';rw[<-zy,Array.toList_zipIdx,aav off _ 0 _ aa]
     grind
    grind
   ·cases I
  ·cases a5
theorem VY:∀{D:ac Field} {A:ac (Nat × Nat)},Jl P D=some A->∀w,(D.mapM λf=>(do pure (f.offset,<-sizeOf f.type):Sem (Nat × Nat))).run P w = .ok A w
 | [],A,h,w=>by cases h;rfl
 |f::D,A,h,w=>by
  unfold Jl at h
  split at h
  ·rename_i s r E I
   cases h;have:=VY I w;simp only[zC,Sem.run_bind,ku E,Result.andThen_ok,Sem.run_pure,this]
  grind
theorem amm{a:Act}(f3:Loc ai ak a.tmps a8){A:Array (Nat × Operand)}(bx:∀x∈A.toList,x.2∈a8){xy:ac X}{pl:Nat->ay (Nat × Nat)}{cs:ac (Nat × Nat × e5)}{aJ:ac (Nat × Nat × X)}(dc:nY P t=some xy)(D:Pj P t=some pl)(a5:Cv pl A.toList=some cs)(V:Ga ak cs = .ok aJ)(h:cw xy aJ = .ok v):m5 P ai v (Instr.build t (A.map λ(i,x)=>(i,a.eval x))):=by
 obtain⟨l,bD,aH⟩:=R.e9 h;cases aH;obtain⟨i,z,aj,N,mo,rfl⟩:=zF dc;have Z:(A.map λ(i,x)=>(i,a.eval x)).toList=A.toList.map λx=>(x.1,a.eval x.2):=by simp
 unfold Pj at D
 split at D
 ·rename_i dD eI
  split at D
  ·rename_i ce G6
   cases D;obtain⟨cV,M,I⟩:=Jo f3 (g3 ce) A.toList cs aJ _ _ l bx a5 V (xU mo ai) bD;refine⟨_,.agg I,λw=>?_⟩;have SR:=VY  G6 w;have D:(λi=>g3 ce i)=(λi=>ce.toArray[i]?):=funext λi=>by rw[ja];simp
   have E:Instr.fill (λi=>ce.toArray[i]?) z.cells (A.map λ(i,x)=>(i,a.eval x)).toList=some ⟨cV⟩:=by rw[Z,<-D];omega
   simp only[Instr.build,Sem.run_bind,x3 aj N,Result.andThen_ok,run_underlying eI];rw[Array.mapM_eq_mapM_toList];simp only[Sem.run_map,SR,Result.andThen_ok,E,Sem.run_pure]
  ·cases D
 ·rename_i n e eI
  split at D
  ·rename_i s au
   cases D;obtain⟨cV,M,I⟩:=Jo f3 (λi=>some (Nat.mul i s,s)) A.toList cs aJ _ _ l bx a5 V (xU mo ai) bD;refine⟨_,.agg I,λw=>?_⟩;have E:Instr.fill (λi=>some (i*s,s)) z.cells (A.map λ(i,x)=>(i,a.eval x)).toList=some ⟨cV⟩:=by rw[Z];omega
   simp only[Instr.build,Sem.run_bind,x3 aj N,Result.andThen_ok,run_underlying eI,ku au,E,Sem.run_pure]
  ·cases D
 ·cases D
theorem EU(n:Nat)(z:ac X):(gS n z).length=n*z.length:=by
 induction n with
 |zero=>simp[gS]
 |succ n A=>simp[gS,j5,A,EN];omega
theorem Ys(z:ac X):∀(n i:Nat),i<n*z.length->(gS n z)[i]? = z[i % z.length]?
 |0,i,h=>J
 |n+1,i,h=>by
  simp only[gS,j5,Ev]
  split
  ·rename_i aj;rw[IN aj]
  ·rename_i aj
   rw[Ys z n (i-z.length) aa]
   congr 1
   rw[Nat.mod_eq_sub_mod (by omega:i≥z.length)]
theorem NU(z:Array X)(n:Nat):((Array.range (n*z.size)).map λi=>z[i % z.size]!)=⟨gS n z.toList⟩:=by
 apply Array.ext';apply q6;intro i
 by_cases h:i<n*z.size
 ·rw[Ys _ _ _ J];have A:0<z.size:=aa
  have D:=zD i A
  grind
 ·rw[IC aa,IC (by rw[EU];grind)]
theorem Cg{z A:ac X}(h:dt ai z A):∀n,dt ai (gS n z) (gS n A)
 |0=>.nil
 |n+1=>by simp only[gS,j5];exact h.append (Cg h n)
theorem zE(z:Array X)(n:Nat):Builtin.zeroCells z n=⟨gS n z.toList⟩:=NU z n
end
section
variable {P:Program} {ai:cc}
def C7(P:Program)(ai:cc)(v:X)(s:Sem Next):Prop:=∃c,bJ ai v c/\∀w,s.run P w = .ok (.value c) w
theorem m5.op{s:Sem X}(h:m5 P ai v s):C7 P ai v (do pure (.value (<-s))):=by obtain⟨c,D,A⟩:=h;exact⟨c,D,λw=>by simp[A w]⟩
theorem C7.pure{v c:X}(h:bJ ai v c):C7 P ai v (Pure.pure (.value c)):=⟨c,h,λ_=>rfl⟩
theorem ah1(A:bJ ai v c)(h:(∃a,v = .pointer (some a))\/(∃f a b,v = .func (.func f) a b)\/(∃f a b,v = .func (.yield f) a b)\/∃t y,v = .iface t y){o:Oper}{x:Operand}{bo:Operand->X}(D:o.op = .nilCheck x)(E:bo x=c):∀w,(execOp bo o).run P w = .ok (.value c) w:=by
 intro w;unfold execOp;rw[D];simp only[E];rcases h with⟨a,rfl⟩|⟨f,a,b,rfl⟩|⟨f,a,b,rfl⟩|⟨t,y,rfl⟩
 ·cases A;rfl
 ·cases A;rfl
 ·cases A;rfl
 ·cases A;rfl
theorem No{bo:Operand->X}{c:Call}{b:Builtin}(D:c.callee = .builtin b)(A:TypeId):
  ∃cs,resolve bo c A=pure { target:=.builtin b c.argTypes A cs,args:=c.args.map bo }:=by unfold resolve;rw[D];grind
theorem x4{aB:Type}{b:ao}{x:ay aB}{r:aB}:(bif b then x else none)=some r↔b=true/\x=some r:=by cases b <;> simp
theorem Loc.C8{a:Act}{l:Array Operand}(A:Loc ai ak a.tmps l){y:e5}(D:∀x∈xs,x∈l)(E:yK xs=some [y])(h:ed ak y = .ok v):
  ∃c,bJ ai v c/\(⟨xs.map a.eval⟩:Array X)=#[c]:=by
 have:=A.vm D E (show pB ak [y] = .ok [v] by simp[pB,h,R.bind]);generalize xs.map a.eval=lU at *
 cases this with
 |cons h t=>cases t;exact⟨_,h,rfl⟩
theorem Loc.As{a:Act}{l:Array Operand}(N:Loc ai ak a.tmps l){y D:e5}{E:X}(I:∀x∈xs,x∈l)(M:yK xs=some [y,D])(h:ed ak y = .ok v)(A:ed ak D = .ok E):
  ∃c c2,bJ ai v c/\bJ ai E c2/\(⟨xs.map a.eval⟩:Array X)=#[c,c2]:=by
 have:=N.vm I M (show pB ak [y,D] = .ok [v,E] by simp[pB,h,A,R.bind]);generalize xs.map a.eval=lU at *
 cases this with
 |cons h t=>cases t with
  |cons A t=>cases t;exact⟨_,_,h,A,rfl⟩
theorem aaw{a:Act}(o:Oper)(M:Loc ai ak a.tmps o.op.operands){e:H2}(A:oV P o.op=some (.fy e))(h:pC P ak e = .ok v):C7 P ai v (execOp a.eval o):=by
 have ex:∀{op:Op},o.op=op->execOp a.eval o=execOp a.eval { o with op:=op }:=λh=>by rw[<-h]
 cases tO:o.op <;> rw[tO]at A M <;> rw[ex tO] <;> (try simp only[oV,jO,ma,x4,BS,reduceCtorEq,and_false,IW]at A)
 case move x =>
  obtain⟨dN,I,D⟩:=A;cases D;exact C7.pure (M.ej (by simp[Op.operands]) I h)
 case assign x =>
  obtain⟨dN,I,D⟩:=A;cases D;exact C7.pure (M.ej (by simp[Op.operands]) I h)
 case pick c x y =>
  obtain⟨gq,I,dN,Z,il,aH,D⟩:=A;cases D;obtain⟨eD,E,h⟩:=R.e9 h;obtain⟨N,V,h⟩:=R.e9 h;obtain⟨r0,dz,h⟩:=R.e9 h;have d6:=M.ej (by simp[Op.operands]) I E;cases eD with
  |bool b =>
   have aM:=d6.Fk;cases b with
   |true=>cases h;exact⟨_,M.ej (by simp[Op.operands]) Z V,λw=>by simp[execOp,aM,asBool]⟩
   |false=>cases h;exact⟨_,M.ej (by simp[Op.operands]) aH dz,λw=>by simp[execOp,aM,asBool]⟩
  |_=>cases h
 case build t mQ =>
  obtain⟨z,dc,pl,qG,ce,G6,D⟩:=A;cases D;obtain⟨aJ,E,h⟩:=R.e9 h;exact(amm M (λx aX=>by simp only[Op.operands];grind) dc qG G6 E h).op
 case nilCheck x =>
  obtain⟨dN,I,D⟩:=A;cases D;obtain⟨N,E,h⟩:=R.e9 h;obtain⟨rfl,aH⟩:=aiF h;have aI:=M.ej (by simp[Op.operands]) I E;exact⟨_,aI,ah1 aI aH rfl rfl⟩
 case binOp op t x y aDS =>
  obtain⟨dN,I,il,Z,D⟩:=A;cases D;obtain⟨N,E,h⟩:=R.e9 h;obtain⟨r0,V,h⟩:=R.e9 h;exact(ap7 x y h (M.ej (by simp[Op.operands]) I E) (M.ej (by simp[Op.operands]) Z V)).op
 case unOp op t x =>
  obtain⟨dN,I,D⟩:=A;cases D;obtain⟨N,E,h⟩:=R.e9 h;exact(ap8 h (M.ej (by simp[Op.operands]) I E)).op
 case convert s d x =>
  obtain⟨jv,au,U5,bs,dN,I,D⟩:=A;cases D;obtain⟨N,E,h⟩:=R.e9 h;exact(ajZ au bs h (M.ej (by simp[Op.operands]) I E)).op
 case makeInterface t x =>
  obtain⟨cK,dN,I,D⟩:=A;cases D;obtain⟨N,E,h⟩:=R.e9 h;cases h;exact(ap9 cK (M.ej (by simp[Op.operands]) I E)).op
 case makeFunc fn x y =>
  split at A
  ·simp only[jO,ma]at A;obtain⟨dN,I,il,Z,D⟩:=A;cases D;obtain⟨N,E,h⟩:=R.e9 h;obtain⟨r0,V,h⟩:=R.e9 h;cases h;have aX:=M.vm (λz dc=>by simp only[Op.operands];grind) I E;have cd:=M.vm (λz dc=>by simp only[Op.operands];grind) Z V;refine⟨.func (.func _) ⟨x.toList.map a.eval⟩ ⟨y.toList.map a.eval⟩,.func _ aX cd,λw=>?_⟩;have D:x.map a.eval=⟨x.toList.map a.eval⟩:=aa
   have aP:y.map a.eval=⟨y.toList.map a.eval⟩:=aa
   simp[execOp,Instr.makeFunc,D,aP]
  ·cases A
 case slice t x al aj iX =>
  obtain⟨s,au,dN,I,cl,Z,j0,aH,nd,bh,D⟩:=A;cases D;obtain⟨N,E,h⟩:=R.e9 h;obtain⟨ME,V,h⟩:=R.e9 h;obtain⟨aDT,dz,h⟩:=R.e9 h;obtain⟨H3,dO,h⟩:=R.e9 h;exact(aqa (M.SP (λy cd=>by subst cd;simp[Op.operands]) Z V) (M.SP (λy cd=>by subst cd;simp[Op.operands]) aH dz) (M.SP (λy cd=>by subst cd;simp[Op.operands]) bh dO) au h (M.ej (by simp[Op.operands]) I E)).op
 case fieldAddr s x f =>
  obtain⟨aBB,bD,dN,I,D⟩:=A;cases D;obtain⟨N,E,h⟩:=R.e9 h;obtain⟨a9,rfl,h⟩:=Jm h;cases h;exact(aib bD (M.ej (by simp[Op.operands]) I E)).op
 case field s x f =>
  obtain⟨aBB,bD,bO,AK,dN,I,D⟩:=A;cases D;obtain⟨N,E,h⟩:=R.e9 h;exact(amk bD AK h (M.ej (by simp[Op.operands]) I E)).op
 case indexAddr t x ud =>
  obtain⟨k,hk,dN,I,jw,Z,D⟩:=A;cases D;obtain⟨N,E,h⟩:=R.e9 h;obtain⟨gK,V,h⟩:=R.e9 h;obtain⟨q,i,rfl,h⟩:=Cf h;have:=(ahL (q:=q) hk h (M.ej (by simp[Op.operands]) I E)).op;rwa[<-(M.ej (by simp[Op.operands]) Z V).th]at this
 case index t x ud =>
  obtain⟨dN,I,jw,Z,D⟩:=A;cases D;obtain⟨N,E,h⟩:=R.e9 h;obtain⟨gK,V,h⟩:=R.e9 h;obtain⟨q,i,rfl,h⟩:=Cf h;have:=(aiH (q:=q) h (M.ej (by simp[Op.operands]) I E)).op;rwa[<-(M.ej (by simp[Op.operands]) Z V).th]at this
 case extract x i =>
  obtain⟨dN,I,D⟩:=A;cases D;obtain⟨N,E,h⟩:=R.e9 h;exact(ahZ h (M.ej (by simp[Op.operands]) I E)).op
 case typeAssert x aDU t ok =>
  obtain⟨dN,I,D⟩:=A;cases D;obtain⟨N,E,h⟩:=R.e9 h;exact(aia h (M.ej (by simp[Op.operands]) I E)).op
 case call c =>
  obtain⟨jf,I,A⟩:=A;have aX:∀x∈c.args.toList,x∈(Op.call c).operands:=λx aX=>by simp only[Op.operands,Call.operands];grind
  have Au:c.args.map a.eval=⟨c.args.toList.map a.eval⟩:=aa
  split at A
  ·simp at A
  ·simp at A
  ·rename_i b a1
   obtain⟨cs,mp⟩:=No (bo:=a.eval) a1 o.type;unfold execOp;simp only[mp,Au];unfold Dr at A
   split at A
   ·split at A
    ·obtain⟨t,_,A⟩:=jO.1 A
     split at A <;> cases A
    ·cases A
   ·split at A
    ·cases A;obtain⟨N,E,h⟩:=R.e9 h;obtain⟨r0,V,h⟩:=R.e9 h;obtain⟨g8,iZ,d6,gV,aP⟩:=M.As aX I E V;obtain⟨bT,aI,ba⟩:=Yq (P:=P) h d6 gV;rw[aP];exact m5.op ⟨bT,aI,λw=>by have:=ba w;simp only[ql]at this;simp[Builtin.min_,this]⟩
    ·cases A
   ·split at A
    ·cases A;obtain⟨N,E,h⟩:=R.e9 h;obtain⟨r0,V,h⟩:=R.e9 h;obtain⟨g8,iZ,d6,gV,aP⟩:=M.As aX I E V;obtain⟨bT,aI,ba⟩:=Yq (P:=P) h d6 gV;rw[aP];exact m5.op ⟨bT,aI,λw=>by have:=ba w;simp only[mN]at this;simp[Builtin.max_,this]⟩
    ·cases A
   ·split at A
    ·obtain⟨t,cK,D⟩:=ma.1 A;cases D;obtain⟨N,E,h⟩:=R.e9 h;obtain⟨g8,d6,aP⟩:=M.C8 aX I E;rw[aP];exact(aml (by rw[ja]at cK;grind) h d6).op
    ·cases A
   ·cases Av:rm P (g3 c.argTypes.toList 1) <;> rw[Av]at A
    ·simp only[mN,jO,x4]at A;obtain⟨_,_,_,_,_,_,_,_,_,A⟩:=A
     split at A <;> cases A
    ·cases A
   ·cases A
 case makeMap t r=>cases r <;> cases A
 case next it b=>cases b <;> simp at A
 all_goals (split at A <;> simp[jO]at A)
end
section
variable {P:Program} {ai:cc} {B:Nat}
structure Made (w bc:World) (o:Obj):Prop where
 size:bc.heap.size=w.heap.size+1
 new:bc.heap[w.heap.size]? = some o
 dZ:∀k,k<w.heap.size->bc.heap[k]? = w.heap[k]?
 os:bc.os=w.os
 tape:qS w bc
 output:bc.output=w.output
theorem Made.push(w:World)(o:Obj):Made w { w with heap:=w.heap.push o } o :=
 ⟨by simp,by simp,aa,rfl,.here,rfl⟩
def wG(ai:cc)(cZ:kX)(o:Obj)(p:Place):Prop:=match cZ with
 | .ptr (.cells cs false)=>p.off=0/\p.spare=0/\∃c e,o = .cells c e (0,0)/\dt ai cs c.toList
 | .slice (.cells cs false) _ _=>p.off=0/\p.spare=0/\∃c e,o = .cells c e (0,0)/\dt ai cs c.toList
 | .map=>p.off=0/\o = .map #[] 0
 |_=>False
def SS(cZ:kX)(ct:Nat)(spare:Nat):X:=match cZ with
 | .ptr _=>.pointer (some ⟨ct,0,none⟩)
 | .slice _ len cap=>.slice (some ⟨ct,0,none⟩) len cap
 | .map=>.map (some ct)
def Lk(P:Program)(ai:cc)(cZ:kX)(s:Sem Next):Prop:=∀w,∃o p bc,p.ct=w.heap.size/\wG ai cZ o p/\Made w bc o/\s.run P w = .ok (.value (SS cZ w.heap.size p.spare)) bc
theorem wG.mono{bo:cc}(M:Sub ai bo){cZ:kX}{o:Obj}{p:Place}(h:wG ai cZ o p):wG bo cZ o p:=by
 unfold wG at *
 split at h
 ·obtain⟨E,A,c,e,I,D⟩:=h;exact⟨E,A,c,e,I,D.mono M⟩
 ·obtain⟨E,A,c,e,I,D⟩:=h;exact⟨E,A,c,e,I,D.mono M⟩
 ·exact h
 omega
theorem Jc{c:Array X}(h:dt ai cs (c.toList.take cs.length)):pq ai cs c 0:=by
 intro i v I;obtain⟨D,A,E⟩:=h.get I;refine⟨D,?_,E⟩
 grind
theorem Lk.step{w:World}{o:Obj}{U:Nat}(ba:ec B ai H w)(bw:ai U=none)(N:p.ct=w.heap.size)(E:wG ai cZ o p)(M:Made w bc o):
  cC B ai H w U (U+1) (λk=>if k=U then some p else ai k) (H.put U (sC cZ)) bc/\bJ (λk=>if k=U then some p else ai k) (wR U cZ) (SS cZ w.heap.size p.spare):=by
 have Z:Sub ai (λk=>if k=U then some p else ai k):=λb q a1=>aa
 have er:B<=p.ct:=by rw[N];exact ba.base
 have D:(λk=>if k=U then some p else ai k) U=some p:=by simp
 have A:=E.mono Z;have bV:bc.heap[p.ct]? = some o:=by rw[N];exact M.new
 constructor
 ·refine cC.make ba bw M.size M.dZ M.os M.tape M.output N ?_;unfold wG at A
  split at A
  ·obtain⟨I,ap,c,e,rfl,V⟩:=A;have br:=V.length;refine⟨er,I,c,e,0,0,bV,J,Jc (by rw[br,hB];exact V),aa⟩
  ·obtain⟨I,ap,c,e,rfl,V⟩:=A;have br:=V.length;refine⟨er,I,c,e,0,0,bV,J,Jc (by rw[br,hB];exact V),aa⟩
  ·obtain⟨I,rfl⟩:=A;exact⟨er,[],bV,.nil⟩
  ·exact A.elim
 ·unfold wG at E
  split at E
  ·obtain⟨I,_⟩:=E;have:=bJ.ptr (ai:=λk=>if k=U then some p else ai k) (o:=0) D;rw[N,I]at this;exact this
  ·obtain⟨I,_⟩:=E;have:=λl c=>bJ.k4 (ai:=λk=>if k=U then some p else ai k) (o:=0) D l c;rw[N,I]at this;exact this _ _
  ·have:=bJ.map (ai:=λk=>if k=U then some p else ai k) D;rw[N]at this;exact this
  ·exact E.elim
theorem aiI(h:FC l = .ok cZ):ef l=true/\cZ = .ptr (.cells l false):=by obtain⟨A,D⟩:=jP h;grind
theorem Wq{n c:Nat}(h:wa l n c = .ok cZ):ef l=true/\cZ = .slice (.cells l false) n c:=by obtain⟨A,D⟩:=jP h;grind
theorem EQ(h:rj P t=some e):P.underlying t=some (.slice e):=by
 unfold rj at h
 grind
theorem Wr(e:TypeId)(v:X)(w:World):(newVar e v).run P w = .ok ⟨w.heap.size,0,none⟩ { w with heap:=w.heap.push (.cells v.cells e) }:=rfl
theorem I8(e:TypeId)(c:Array X)(w:World):(newRow e c).run P w = .ok ⟨w.heap.size,0,none⟩ { w with heap:=w.heap.push (.cells c e) }:=rfl
theorem aqb{b:Builtin}{ag:ac TypeId}{jf:ac e5}{e:Ec}(h:Dr P b ag jf=some (.ix e)):False:=by
 unfold Dr at h
 split at h
 ·split at h
  ·obtain⟨t,_,h⟩:=jO.1 h
   split at h <;> cases h
  ·cases h
 ·split at h <;> cases h
 ·split at h <;> cases h
 ·split at h
  ·simp at h
  ·cases h
 ·cases A:rm P (g3 ag 1) <;> rw[A]at h
  ·simp only[mN,jO,x4]at h;obtain⟨_,_,_,_,_,_,_,_,_,h⟩:=h
   split at h <;> cases h
  ·cases h
 ·cases h
theorem aax{a:Act}(o:Oper)(f3:Loc ai ak a.tmps o.op.operands){e:Ec}(D:oV P o.op=some (.ix e))(h:C5 ak e = .ok cZ):Lk P ai cZ (execOp a.eval o):=by
 have ex:∀{op:Op},o.op=op->execOp a.eval o=execOp a.eval { o with op:=op }:=λh=>by rw[<-h]
 cases tO:o.op <;> rw[tO]at D f3 <;> rw[ex tO] <;> (try simp only[oV,jO,ma,x4,BS,reduceCtorEq,and_false,IW]at D)
 case alloc e =>
  obtain⟨l,dc,lf,aW⟩:=D;cases aW;cases h;obtain⟨i,z,aj,V,mo,rfl⟩:=zF dc;intro w;refine⟨.cells z.cells e (0,0),⟨w.heap.size,0,0,0⟩,{ w with heap:=w.heap.push (.cells z.cells e) },rfl,⟨rfl,rfl,_,e,rfl,xU mo ai⟩,Made.push w _,?_⟩;unfold execOp;simp only[Instr.alloc,Sem.run_bind,x3 aj V,Result.andThen_ok,Wr,Sem.run_pure];rfl
 case box e x =>
  obtain⟨dN,bP,aW⟩:=D;cases aW;obtain⟨v,aI,h1⟩:=R.e9 h;obtain⟨D,rfl⟩:=aiI h1;have wU:=(f3.ej (by simp[Op.operands]) bP aI).cells;intro w;refine⟨.cells (a.eval x).cells e (0,0),⟨w.heap.size,0,0,0⟩,{ w with heap:=w.heap.push (.cells (a.eval x).cells e) },rfl,⟨rfl,rfl,_,e,rfl,wU⟩,Made.push w _,?_⟩;unfold execOp;simp only[Instr.box,Sem.run_bind,Result.andThen_ok,Wr,Sem.run_pure];rfl
 case buildSlice t len mQ =>
  obtain⟨e,bK,s,au,xy,dc,Ll,ce,G6,aW⟩:=D;cases aW;simp only[eA]at Ll;obtain⟨G7,dx⟩:=Ll;obtain⟨aJ,G5,h⟩:=R.e9 h;obtain⟨l,bD,cj⟩:=R.e9 h;obtain⟨i,z,aj,V,mo,rfl⟩:=zF dc;obtain⟨D,rfl⟩:=Wq cj;have eI:=EQ bK;have RU:z.cells.size=s:=by have:=gE G7;rw[nX]at this;omega
  have wH:=lJ dx;have wH:len*s<=1000000:=wH;obtain⟨cV,aAP,RT⟩:=Jo f3 (λi=>some (Nat.mul i s,s)) mQ.toList ce aJ _ _ l (λx aX=>by simp only[Op.operands];grind) G6 G5 (Cg (xU mo ai) len) bD;have rB:(mQ.map λ(i,x)=>(i,a.eval x)).toList=mQ.toList.map λx=>(x.1,a.eval x.2):=by simp
  intro w;refine⟨.cells ⟨cV⟩ e (0,0),⟨w.heap.size,0,0,0⟩,{ w with heap:=w.heap.push (.cells ⟨cV⟩ e) },rfl,⟨rfl,rfl,_,e,rfl,RT⟩,Made.push w _,?_⟩;unfold execOp;have M:Instr.fill (λi=>some (i*s,s)) ⟨gS len z.cells.toList⟩ (mQ.map λ(i,x)=>(i,a.eval x)).toList=some ⟨cV⟩:=by rw[rB];omega
  have bd:¬(len*s>2 ^ 24):=J
  by_cases aq:len*s=0
  ·have wI:gS len z.cells.toList=[]:=by
    apply Es;rw[EU]
    grind
   have A:((Array.range (len*s)).map (λx=>(#[]:Array X)[x % (#[]:Array X).size]!))=⟨gS len z.cells.toList⟩:=aa
   simp only[Instr.buildSlice,Sem.run_bind,run_underlying eI,ku au,Result.andThen_ok,Sem.run_ite,if_neg bd,Sem.run_pure,if_pos aq,A,M,I8];rfl
  ·have A:((Array.range (len*s)).map (λx=>z.cells[x % z.cells.size]!))=⟨gS len z.cells.toList⟩:=by rw[<-RU];exact NU z.cells len
   simp only[Instr.buildSlice,Sem.run_bind,run_underlying eI,ku au,Result.andThen_ok,Sem.run_ite,if_neg bd,Sem.run_pure,if_neg aq,x3 aj V,A,M,I8];rfl
 case makeMap t r =>
  cases r with
  |some r=>cases D
  |none =>
   cases D;cases h;intro w;refine⟨.map #[] 0,⟨w.heap.size,0,0,0⟩,{ w with heap:=w.heap.push (.map #[] 0) },rfl,⟨rfl,rfl⟩,Made.push w _,?_⟩;unfold execOp;rfl
 case makeSlice t l c =>
  obtain⟨e,bK,xy,dc,N,cl,c1,gq,c2,aW⟩:=D;cases aW;obtain⟨ME,h1,ap⟩:=R.e9 h;obtain⟨eD,bh,b0⟩:=R.e9 ap;obtain⟨aDV,MF,rfl,aH⟩:=Cf b0;obtain⟨aDW,E,rfl,cj⟩:=Cf aH;obtain⟨I,SU⟩:=jP cj;simp only[eA]at I;have rC:=lJ I.1;have Lm:=lJ I.2;obtain⟨i,z,aj,V,mo,rfl⟩:=zF dc;obtain⟨D,rfl⟩:=Wq SU;have eI:=EQ bK;simp only[eA]at N;obtain⟨G7,N⟩:=N;rw[aj]at G7 N;simp only[EH,IQ]at G7 N;have RU:z.cells.size=i.size:=by have:=gE G7;rw[nX]at this;omega
  have ayw:i.bytes<=1000000:=lJ N;intro w;refine⟨.cells ⟨gS E z.cells.toList⟩ e (0,0),⟨w.heap.size,0,0,0⟩,{ w with heap:=w.heap.push (.cells ⟨gS E z.cells.toList⟩ e) },rfl,⟨rfl,rfl,_,e,rfl,Cg (xU mo ai) E⟩,Made.push w _,?_⟩;unfold execOp;simp only[(f3.ej (by simp[Op.operands]) c1 h1).th,(f3.ej (by simp[Op.operands]) c2 bh).th];have tP:IntKind.i64.wrap (Int.ofNat MF)=(MF:Int):=JI (by simp[IntKind.min,IntKind.signed,IntKind.bits] <;> omega) (by simp[IntKind.max,IntKind.signed,IntKind.bits] <;> omega);have hwc:IntKind.i64.wrap (Int.ofNat E)=(E:Int):=JI (by simp[IntKind.min,IntKind.signed,IntKind.bits] <;> omega) (by simp[IntKind.max,IntKind.signed,IntKind.bits] <;> omega);have aeX:∀w,(typeInfo e).run P w = .ok i w:=λw=>by simp[typeInfo,aj]
  have jE:∀w,(sizeOf e).run P w = .ok i.size w:=λw=>ES aj w;have agu:(i.bytes:Int)*(E:Int)<=1000000*100000:=by have:i.bytes*E<=1000000*100000:=sc ayw Lm;omega
  have hai:∀(k:IntKind) (n:Nat) w,(asInt (.int k (Int.ofNat n))).run P w = .ok (Int.ofNat n) w:=λ_ _ _=>rfl;have Z:(decide ((E:Int)<0)||decide ((i.bytes:Int)*(E:Int)>2 ^ 48)||decide ((MF:Int)<0)||decide ((MF:Int)>(E:Int)))=false:=aa
  by_cases aq:E*i.size=0
  ·have wI:gS E z.cells.toList=[]:=by
    apply Es;rw[EU]
    grind
   have A:((Array.range (E*i.size)).map (λx=>(#[]:Array X)[x % (#[]:Array X).size]!))=⟨gS E z.cells.toList⟩:=aa
   simp only[Instr.makeSlice,Sem.run_bind,run_underlying eI,hai,aeX,jE,Result.andThen_ok,tP,hwc,Sem.run_ite,Z,np,ff,Sem.run_pure,run_askRoom,IL,if_pos aq,A,I8];rfl
  ·have A:((Array.range (E*i.size)).map (λx=>z.cells[x % z.cells.size]!))=⟨gS E z.cells.toList⟩:=by rw[<-RU];exact NU z.cells E
   simp only[Instr.makeSlice,Sem.run_bind,run_underlying eI,hai,aeX,jE,Result.andThen_ok,tP,hwc,Sem.run_ite,Z,np,ff,Sem.run_pure,run_askRoom,IL,if_neg aq,x3 aj V,A,I8];rfl
 case call c =>
  obtain⟨_,_,D⟩:=D
  split at D
  ·simp at D
  ·simp at D
  ·exact(aqb D).elim
 case next it b=>cases b <;> simp at D
 all_goals (split at D <;> simp[jO]at D)
end
section
variable {P:Program} {ai:cc} {B:Nat}
theorem ah2(D:P.underlying t=some (.int q))(A:ao)(d:Nat)(k:X)(w:World):(Instr.checkKey A (d+1) t k).run P w = .ok () w:=by
 cases k <;> simp only[Instr.checkKey,Sem.run_bind,run_underlying D,Result.andThen_ok] <;> rfl
theorem IX{r:ao}(h:k5 P t k k=some r)(A:ao)(w:World):(Instr.checkKey A 10000 t k).run P w = .ok () w:=by
 unfold k5 at h
 split at h
 ·obtain⟨D,_⟩:=td h;simp only[eA]at D;obtain⟨q,I⟩:=VW D.2;exact ah2 I A 9999 _ w
 ·obtain⟨N,E,_,_,_,M,Z,V,_,_⟩:=v7 h;exact run_checkKey_deep A 9992 8 t N w 8 _ M E (by rw[<-IY];omega)
theorem NI(h:yo P t k=true):∃r,k5 P t k k=some r:=lI.1 h
def agv(P:Program)(t:TypeId)(k:X):Prop:=∀(y:X) (r:ao),k5 P t k y=some r->∀w,(Op.equal t k y).run P w = .ok r w
def RV(P:Program)(d:TypeDesc)(t:TypeId)(k:X):Prop:=∀(y:X) (r:ao),k5 P t k y=some r->Instr.sameNow d k y=some r
theorem hE.get:∀{es dl:ac MapEntry} {i:Nat} {e:MapEntry},hE ai es dl->es[i]? = some e->∃A,dl[i]? = some A/\bJ ai e.key A.key/\bJ ai e.val A.val/\A.born=e.born
 |_,_,0,_,.cons D I E _,h=>by simp at h;subst h;exact⟨_,rfl,D,I,E⟩
 |_,_,i+1,_,.cons _ _ _ t,h=>by simpa using hE.get  t aa
theorem hE.length:∀{es dl:ac MapEntry},hE ai es dl->es.length=dl.length
 |_,_,.nil=>rfl
 |_,_,.cons _ _ _ t=>by simp[hE.length t]
theorem EY{t:TypeId}{k:X}:∀{es:ac MapEntry} {i:Nat} {r:ay (Nat × MapEntry)},kO P t k es i=some r ->
  (∀j e,r=some (j,e)->i<=j/\es[j-i]? = some e/\k5 P t k e.key=some true)
 | [],i,r,h=>by cases h;grind
 |x::xs,i,r,h=>by
  unfold kO at h
  split at h
  ·grind
  ·intro j e A;obtain⟨E,I,D⟩:=EY h j e A
   grind
  grind
def yi(dl:ac MapEntry)(i:Nat)(r:ay (Nat × MapEntry))(c:ay (Nat × X)):Prop:=match r with
 |none=>c=none
 |some (j,_)=>∃ew,dl[j-i]? = some ew/\c=some (j,ew.val)
theorem yi.shift{x:MapEntry}{r:ay (Nat × MapEntry)}{c:ay (Nat × X)}(h:yi dl (i+1) r c)(I:∀j e,r=some (j,e)->i+1<=j):yi (x::dl) i r c:=by
 cases r with
 |none=>exact h
 |some q =>
  obtain⟨j,e⟩:=q;obtain⟨A,E,D⟩:=h;refine⟨A,?_,D⟩
  grind
theorem NB{d:TypeDesc}{t:TypeId}{k:X}(E:RV P d t k):∀{es dl:ac MapEntry} {i:Nat} {r:ay (Nat × MapEntry)},hE ai es dl->kO P t k es i=some r ->
  ∃c,Instr.findNow d k dl i=some c/\yi dl i r c
 |_,_,i,r,.nil,h=>by cases h;exact⟨none,rfl,rfl⟩
 |x::xs,y::lU,i,r,.cons M aI Z V,h=>by
  have D:=EY  h;unfold kO at h
  split at h
  ·rename_i A
   cases h;have I:y.key=x.key:=uD (xV A).2 M;refine⟨some (i,y.val),?_,y,by simp,rfl⟩;simp[Instr.findNow,I,E _ _ A]
  ·rename_i A
   have I:y.key=x.key:=uD (xV A).2 M;obtain⟨c,h1,N⟩:=NB E V h;refine⟨c,?_,N.shift λj e ba=>?_⟩
   ·simp only[Instr.findNow,I,E _ _ A];omega
   grind
  ·cases h
theorem VM{t:TypeId}{k:X}(E:agv P t k)(w:World):∀{es dl:ac MapEntry} {i:Nat} {r:ay (Nat × MapEntry)},hE ai es dl->kO P t k es i=some r ->
  ∃c,(Instr.findAsking t k dl i).run P w = .ok c w/\yi dl i r c
 |_,_,i,r,.nil,h=>by cases h;exact⟨none,rfl,rfl⟩
 |x::xs,y::lU,i,r,.cons I aI Z V,h=>by
  unfold kO at h
  split at h
  ·rename_i A
   cases h;have D:y.key=x.key:=uD (xV A).2 I;refine⟨some (i,y.val),?_,y,by simp,rfl⟩;simp[Instr.findAsking,D,E _ _ A w]
  ·rename_i A
   have D:y.key=x.key:=uD (xV A).2 I;obtain⟨c,h1,N⟩:=VM E w V h;refine⟨c,?_,N.shift λj e M=>?_⟩
   ·simp only[Instr.findAsking,D,Sem.run_bind,E _ _ A w,Result.andThen_ok,np,ff];omega
   ·exact(EY h j e M).1
  ·cases h
theorem EV{fC:ao}(hk:k5 P t k k=some fC){r:ay (Nat × MapEntry)}(bK:hE ai es dl)(h:kO P t k es 0=some r)(w:World):
  ∃c,(Instr.findKey t k dl).run P w = .ok c w/\yi dl 0 r c:=by
 have Z:(∃q n,k = .int q n)\/((∀q n,k≠.int q n)/\∀y r,k5 P t k y=some r->qF P t k y=some r):=by
  cases k <;> first|exact .inl ⟨_,_,rfl⟩|exact .inr ⟨aa,λy r I=>I⟩
 rcases Z with⟨q,n,rfl⟩|⟨hni,A⟩
 ·have tQ:=hk;simp only[k5,J6]at tQ;obtain⟨a5,_⟩:=td tQ;simp only[eA]at a5;obtain⟨kG,M⟩:=VW a5.2;have dT:RV P (.int kG) t (.int q n):=by
   intro y r I;simp only[k5,J6]at I
   split at I
   ·obtain⟨a5,I⟩:=td I;cases I;simp only[eA]at a5;rw[FH.1 a5.1];simp[Instr.sameNow,k3]
   grind
  obtain⟨c,N,ap⟩:=NB dT bK h;exact⟨c,by simp[Instr.findKey,run_underlying M,N],ap⟩
 ·obtain⟨N,aAQ,_,_,_,ze,_,hla,_,_⟩:=v7 (A _ _ hk);have h0:agv P t k:=λy r I w=>aat aa 9992 w;unfold Program.keyTypeAt at N;cases M:P.underlying t with
  |none=>rw[M]at N;simp at N
  |some d =>
   rw[M]at N;have E:(∀x y,Instr.sameNow d x y=none)->∃c,(Instr.findKey t k dl).run P w = .ok c w/\yi dl 0 r c:=by
    intro bs;obtain⟨c,aH,bh⟩:=VM h0 w bK h;refine⟨c,?_,bh⟩;cases dl with
    |nil =>
     simp[Instr.findAsking]at aH;simp[Instr.findKey,run_underlying M,Instr.findNow,aH]
    |cons ew dl=>simp[Instr.findKey,run_underlying M,Instr.findNow,bs,aH]
   have D:RV P d t k->∃c,(Instr.findKey t k dl).run P w = .ok c w/\yi dl 0 r c:=by intro dT;obtain⟨c,aH,bh⟩:=NB dT bK h;exact⟨c,by simp[Instr.findKey,run_underlying M,aH],bh⟩
   cases d <;> simp at N
   case bool =>
    refine D λy r I=>?_;obtain⟨_,_,_,_,_,MG,aCr,aX,V,aj⟩:=v7 (A _ _ I);obtain⟨b,aW,aP⟩:=keyLits_bool' M aX;obtain⟨cr,cy,eE⟩:=keyLits_bool' M V;have cz:k = .bool b:=by
     cases k <;> simp_all[c7,Value.formed]
    have H4:y = .bool cr:=by
     obtain⟨_,_,hfy,_⟩:=v7 (A _ _ I);cases y <;> simp_all[c7,Value.formed]
    rw[cz,H4];simp only[Instr.sameNow]
    congr 1
    grind
   case string =>
    refine D λy r I=>?_;obtain⟨_,_,_,_,_,MG,aCr,aX,V,aj⟩:=v7 (A _ _ I);obtain⟨b,aW,aP⟩:=keyLits_string' M aX;obtain⟨cr,cy,eE⟩:=keyLits_string' M V;have cz:k = .string b:=by
     cases k <;> simp_all[c7,Value.formed]
    have H4:y = .string cr:=by
     obtain⟨_,_,hfy,_⟩:=v7 (A _ _ I);cases y <;> simp_all[c7,Value.formed]
    rw[cz,H4];simp only[Instr.sameNow]
    congr 1
    have Ds:(b == cr)=(b.data == cr.data):=rfl;rw[zB,aj,aP,eE,Ds];simp[Array.ext_iff]
   case int q =>
    exfalso;obtain⟨n,aW,_⟩:=keyLits_int' M hla;cases k <;> simp_all[c7,Value.formed]
   case array n e=>exact E λ_ _=>rfl
   case struct dD=>exact E λ_ _=>rfl
theorem B9{h:ae}{r:Nat}{k:ac MapEntry->Nat->R e4}{x:e4}(e:k6 h r k = .ok x):∃es c,u h r=some (.map es c)/\k es c = .ok x:=by
 unfold k6 at e
 grind
theorem ec.map{H:fm}{w:World}(D:ec B ai H w){b:Nat}{p:Place}{es:ac MapEntry}{cL:Nat}(A:ai b=some p)(I:H b=some (.map es cL)):
  ∃dl:ac MapEntry,w.heap[p.ct]? = some (.map dl.toArray cL)/\hE ai es dl/\B<=p.ct:=by obtain⟨M,dl,E,N⟩:=D.obj b p _ A I;exact⟨dl,E,N,M⟩
theorem q9{w:World}{r:Nat}{o:Obj}(h:w.heap[r]? = some o)(A:∀c e f,o≠.cells c e f):(getObj r).run P w = .ok o w:=by
 cases o <;> first
  |(exact aa)
  |simp[getObj,Sem.run,h]
theorem amn{h:ae}{w:World}(ba:ec B ai (u h) w){m:X}(eI:P.underlying t=some (.map d0 e))(dc:JH P e=some z)(br:j9 P h d0 z ok m k = .ok v)(bx:bJ ai m nd)(hk:bJ ai k cL):
  ∃c,bJ ai v c/\(Instr.lookup t nd cL ok).run P w = .ok c w:=by
 obtain⟨js,D⟩:=jP br;obtain⟨fC,M⟩:=NI js;have A:cL=k:=uD (xV M).1 hk;subst A;have N:∀(es dl:ac MapEntry),hE ai es dl->(match kO P d0 cL es 0 with
   |some (some (_,x))=>R.ok (oJ ok x.val true)
   |some none=>.ok (oJ ok z false)
   |none=>R.no "lookup - key")=R.ok v ->
   (∃j x,(Instr.findKey d0 cL dl).run P w = .ok (some (j,x)) w/\bJ ai v (oJ ok x true)) \/
   ((Instr.findKey d0 cL dl).run P w = .ok none w/\(zeroValue e).run P w = .ok z w/\bJ ai v (oJ ok z false)):=by
  intro es dl bK bD;cases V:kO P d0 cL es 0 with
  |none=>grind
  |some r =>
   obtain⟨c,E,I⟩:=EV M bK V w;rw[V]at bD;cases r with
   |none =>
    cases bD;obtain⟨i,aj,wV,mo⟩:=ah0 dc;cases I;refine .inr ⟨E,x3 aj wV w,?_⟩;cases ok <;> first|exact ER mo ai|exact .tuple (.cons (ER mo ai) (.cons (.bool _) .nil))
   |some q =>
    obtain⟨j,x⟩:=q;cases bD;obtain⟨ew,aH,rfl⟩:=I;obtain⟨_,aX,_⟩:=EY  V j x rfl;obtain⟨e'',bh,_,aI,_⟩:=bK.get aX;rw[aH]at bh;cases bh;refine .inl ⟨j,ew.val,E,?_⟩;cases ok <;> first|exact aI|exact .tuple (.cons aI (.cons (.bool _) .nil))
 unfold Qv at D
 split at D
 ·cases bx;have A:=IX M true w;rcases N [] [] .nil D with⟨j,x,E,I⟩|⟨E,aH,I⟩
  ·refine⟨_,I,?_⟩;cases ok <;> simp[Instr.lookup,run_underlying eI,A,E,oJ]
  ·refine⟨_,I,?_⟩;cases ok <;> simp[Instr.lookup,run_underlying eI,A,E,aH,oJ]
 ·obtain⟨es,SV,bd,tN⟩:=B9 D;cases bx with
  |map a1 =>
   obtain⟨dl,bV,bK,_⟩:=ba.map a1 bd;have A:=IX M dl.isEmpty w;have Z:=q9 (P:=P) bV aa;rcases N es dl bK tN with⟨j,x,E,I⟩|⟨E,aH,I⟩
   ·refine⟨_,I,?_⟩;cases ok <;> simp[Instr.lookup,run_underlying eI,Z,A,E,oJ]
   ·refine⟨_,I,?_⟩;cases ok <;> simp[Instr.lookup,run_underlying eI,Z,A,E,aH,oJ]
 ·cases D
theorem Ws:∀(l:ac Nat),Gp l=l.getLast?
 | []=>rfl
 | [_]=>rfl
 |_::y::xs=>by simp[Gp,Ws (y::xs),List.getLast?_cons_cons]
theorem Wt{b:Nat}:∀{es dl:ac MapEntry} {e:MapEntry},hE ai es dl->CL b es=some e->∃A,dl.find? (·.born == b)=some A/\bJ ai e.key A.key/\bJ ai e.val A.val
 |_,_,_,.nil,h=>by cases h
 |x::xs,y::Z,e,.cons E V D N,h=>by
  unfold CL at h;rcases aX:Nat.beq x.born b with _|_
  ·rw[aX]at h;obtain⟨A,h1,M⟩:=Wt N h;have I:¬(y.born=b):=by rw[D];intro h;exact Nat.ne_of_beq_eq_false aX h
   exact⟨A,aa,M⟩
  ·rw[aX]at h;cases h;have:y.born=b:=by rw[D];exact gE aX
   exact⟨y,aa,E,V⟩
theorem ec.iter{w:World}(I:ec B ai H w){m:ay Nat}{A st:Nat}{D:ac Nat}(E:ai b=some p)(N:H b=some (.iter m A D st)):
  ∃bR,w.heap[p.ct]? = some (.mapIter bR A D.toArray st)/\pA ai m bR/\p.off=0/\B<=p.ct:=by obtain⟨Z,V,bR,M,aH⟩:=I.obj b p _ E N;exact⟨bR,M,aH,V,Z⟩
theorem aiJ{h:ae}{w:World}(ba:ec B ai (u h) w)(bK:wj h v = .ok x)(aI:bJ ai v c):
  ∃bT,bJ ai x bT/\(Instr.entry c).run P w = .ok bT w:=by
 obtain⟨a,rfl,E⟩:=Jm bK;obtain⟨aq,E⟩:=jP E
 split at E
 ·rename_i r yn D st bd
  obtain⟨es,M,bx,I⟩:=B9 E;obtain⟨wW,I⟩:=jP I
  split at I
  ·rename_i b a1
   obtain⟨e,aH,bh⟩:=R.k7 I;cases bh;obtain⟨p,bn,_,rfl⟩:=aI.aau;obtain⟨bR,bV,fd,iy,_⟩:=ba.iter bn bd;cases bR with
   |none=>exact fd.elim
   |some bR =>
    obtain⟨q,di,rfl⟩:=fd;obtain⟨dl,V,N,_⟩:=ba.map di bx;obtain⟨ew,b0,cj,d8⟩:=Wt N aH;refine⟨.tuple #[ew.key,ew.val],.tuple (.cons cj (.cons d8 .nil)),?_⟩;have Z:a.off=0:=gE aq;have ij:M=st:=gE wW;rw[Ws]at a1;have A:D.toArray.back? = some b:=aa
    have bP:=q9 (P:=P) bV aa;have g2:=q9 (P:=P) V aa;simp[Instr.entry,Z,iy,bP,g2,A,ij,b0]
  ·cases I
 ·cases E
theorem amo(M:P.underlying t=some (.slice e))(D:ag[0]? = some t)(A:yA v = .ok x)(N:bJ ai v c)(I:TypeId)(w:World):
  ∃E,bJ ai x E/\(Builtin.len_ ag I #[c]).run P w = .ok E w:=by
 unfold yA at A
 split at A
 ·cases A;cases N <;> exact⟨_,.int _ _,by simp[Builtin.len_,D,run_underlying M,goInt]⟩
 ·cases A
theorem amp{h:ae}{w:World}(V:ec B ai (u h) w)(E:P.underlying t=some (.map d0 e))(D:ag[0]? = some t)(A:wD h v = .ok x)(I:bJ ai v c)(o8:TypeId):
  ∃M,bJ ai x M/\(Builtin.len_ ag o8 #[c]).run P w = .ok M w:=by
 unfold wD at A
 split at A
 ·cases A;cases I;exact⟨_,.int _ _,by simp[Builtin.len_,D,run_underlying E,goInt]⟩
 ·obtain⟨es,cL,bd,h1⟩:=B9 A;cases h1;cases I with
  |map N =>
   obtain⟨dl,bV,Z,_⟩:=V.map N bd;have bP:=q9 (P:=P) bV aa;refine⟨_,.int _ _,?_⟩;simp[Builtin.len_,D,run_underlying E,goInt,bP,nX,Z.length]
 ·cases A
theorem bJ.xZ{a:ay Addr}{l c:Nat}(h:bJ ai (.slice a l c) v):∃D A,v = .slice D l A /\
  ((a=none/\D=none/\A=c) \/
   (∃b o aO p,a=some ⟨b,o,aO⟩/\ai b=some p/\D=some ⟨p.ct,p.off+o,none⟩/\((aO=none/\A=c)\/(∃s,aO=some (s+1)/\p.es=s+1/\A=c+p.spare))) \/
   (∃b o g aU,a=some ⟨b,o,some 0⟩/\l=0/\c=0/\D=some ⟨g,aU,none⟩)):=by
 cases h with
 |rf=>grind
 |k4 h=>grind
 |oK h E=>grind
 |oL b o g aU c=>grind
theorem aay{w:World}(Z:ec B ai H w){o n:Nat}(V:ai b=some p)(a5:H b=some (.cells cs bL))(E:mT n (mO cs o)=some l):
  ∃cV,dt ai l cV/\(loadCells ⟨p.ct,p.off+o,none⟩ n).run P w = .ok cV.toArray w:=by
 obtain⟨c,e,fB,bV,D⟩:=Z.cells V a5;rw[qn,rc]at E
 split at E
 ·rename_i dx
  cases E;have A:o+n<=cs.length\/n=0:=aa
  rcases A with A | aq
  ·obtain⟨cV,N,I,u⟩:=D.cut   A;refine⟨cV,I,?_⟩;have M:=run_loadCells_list (P:=P) w ⟨p.ct,p.off+o,none⟩ cV (λj v aI=>by rw[pn];exact Pl bV aa)
   grind
  ·subst aq;exact⟨[],by simpa using dt.nil,rfl⟩
 ·cases E
theorem aaz{a:Act}{h:ae}{w:World}(ba:ec B ai (u h) w)(o:Oper)(V:Loc ai ak a.tmps o.op.operands){e:G0}(A:oV P o.op=some (.red e))(D:pred P ak e h = .ok v):
  ∃c,bJ ai v c/\(execOp a.eval o).run P w = .ok (.value c) w:=by
 have ex:∀{op:Op},o.op=op->execOp a.eval o=execOp a.eval { o with op:=op }:=λh=>by rw[<-h]
 cases tO:o.op <;> rw[tO]at A V <;> rw[ex tO] <;> (try simp only[oV,jO,ma,x4,BS,reduceCtorEq,and_false,IW]at A)
 case load t x =>
  obtain⟨bO,AK,dN,N,aW⟩:=A;cases aW;obtain⟨dp,E,D⟩:=R.e9 D;obtain⟨ev,hz,c,bh,I⟩:=Pm ba AK D (V.ej (by simp[Op.operands]) N E);exact⟨c,I,by simp[execOp,Instr.loadAt,hz,Instr.sureAddr,bh]⟩
 case lookup t x ud ok =>
  split at A
  ·rename_i d0 e eI
   simp only[jO,ma]at A;obtain⟨z,dc,nd,N,cL,ap,aW⟩:=A;cases aW;obtain⟨H3,E,D⟩:=R.e9 D;obtain⟨aCs,g2,D⟩:=R.e9 D;obtain⟨c,I,cj⟩:=amn ba eI dc D (V.ej (by simp[Op.operands]) N E) (V.ej (by simp[Op.operands]) ap g2);exact⟨c,I,by simp[execOp,cj]⟩
  ·cases A
 case entry it =>
  obtain⟨dN,N,aW⟩:=A;cases aW;obtain⟨dp,E,D⟩:=R.e9 D;obtain⟨c,I,cj⟩:=aiJ (P:=P) ba D (V.ej (by simp[Op.operands]) N E);exact⟨c,I,by simp[execOp,cj]⟩
 case makeMap t r=>cases r <;> cases A
 case next it b=>cases b <;> simp at A
 case call c =>
  obtain⟨jf,N,A⟩:=A;have aX:∀x∈c.args.toList,x∈(Op.call c).operands:=λx aX=>by simp only[Op.operands,Call.operands];grind
  have Z:c.args.map a.eval=⟨c.args.toList.map a.eval⟩:=aa
  split at A
  ·simp at A
  ·simp at A
  ·rename_i b a1
   obtain⟨cs,mp⟩:=No (bo:=a.eval) a1 o.type;unfold execOp;simp only[mp,Z];have M:∀x,(invoke (.builtin .len c.argTypes o.type cs) #[x])=(do pure (.value (<-Builtin.len_ c.argTypes o.type #[x])):Sem Next):=λ_=>rfl;unfold Dr at A
   split at A
   ·split at A
    ·obtain⟨t,cK,A⟩:=jO.1 A;rw[ja]at cK
     split at A
     ·rename_i ew eI
      cases A;obtain⟨Bn,E,D⟩:=R.e9 D;obtain⟨g8,d6,aP⟩:=V.C8 aX N E;obtain⟨bT,bh,I⟩:=amo eI (ag:=c.argTypes) aa D d6 o.type w;rw[aP];exact⟨bT,bh,by simp only[M,Sem.run_bind,Sem.run_pure,Result.andThen_ok,I]⟩
     ·rename_i d0 ew eI
      cases A;obtain⟨Bn,E,D⟩:=R.e9 D;obtain⟨g8,d6,aP⟩:=V.C8 aX N E;obtain⟨bT,bh,I⟩:=amp ba eI (ag:=c.argTypes) aa D d6 o.type;rw[aP];exact⟨bT,bh,by simp only[M,Sem.run_bind,Sem.run_pure,Result.andThen_ok,I]⟩
     ·cases A
    ·cases A
   ·split at A <;> cases A
   ·split at A <;> cases A
   ·split at A
    ·simp at A
    ·cases A
   ·cases Av:rm P (g3 c.argTypes.toList 1) <;> rw[Av]at A
    ·simp only[mN,jO,x4]at A;obtain⟨_,_,_,_,_,_,_,_,_,A⟩:=A
     split at A <;> cases A
    ·cases A
   ·cases A
 all_goals (split at A <;> simp[jO]at A)
end
section
variable {P:Program} {ai:cc} {B:Nat}
def iV(P:Program)(B:Nat)(ai:cc)(H:fm)(w:World)(U:Nat)(r:fc)(s:Sem Next):Prop :=
 ∃v ab Y bo c bc,r = .val v ab Y/\bJ bo v c/\cC B ai H w U Y bo (u ab) bc/\(s.run P w = .ok (.value c) bc\/(s.run P w = .ok .skip bc/\c=undef))
theorem te:bJ ai j7 undef:=.tuple .nil
theorem aqc{h:ae}{w:World}(ba:ec B ai (u h) w)(U:Nat){n:Nat}(bw:jR P t=some n)(bK:aN h n x y = .ok ab)(aX:bJ ai x dN)(cd:bJ ai y il):
  ∃bc,(Instr.storeAt t dN il).run P w = .ok () bc/\cC B ai (u h) w U U ai (u ab) bc:=by
 obtain⟨Z,rfl,aH⟩:=Jm bK;obtain⟨h8,N⟩:=jP aH;obtain⟨p,D,M,rfl⟩:=aX.Ow;obtain⟨mC,of,aO⟩:=Z;simp only at D M N;subst D;have V:=cd.cells;obtain⟨bc,A,E⟩:=I7 (P:=P) ba U M N V;refine⟨bc,?_,E⟩;have I:il.cells.size=n:=by rw[<-Ew,<-V.length,<-nX];exact gE h8
 simp only[Instr.storeAt,Instr.sureAddr,storeVar,Sem.run_bind,Sem.run_pure,Result.andThen_ok,ku bw,I,ne_eq,not_true,ff,A]
theorem uH{w:World}{r:Nat}{o aU:Obj}(h:w.heap[r]? = some aU)(A:∀c e f,aU≠.cells c e f):(setObj r o).run P w = .ok () { w with heap:=w.heap.setIfInBounds r o }:=by
 cases aU <;> first
  |(exact aa)
  |simp[setObj,Sem.run,h]
theorem cC.set{h:ae}{w:World}(E:ec B ai (u h) w)(U:Nat){o:gm}{c:Obj}(D:ai b=some p)(M:u h b=some o)(I:B<=p.ct)(N:(w.heap[p.ct]?).isSome)(A:∀bc:World,bc.heap[p.ct]? = some c->k8 B ai bc p aU):cC B ai (u h) w U U ai (u (T h b aU)) { w with heap:=w.heap.setIfInBounds p.ct c }:=by
 rw[uM];refine cC.change U E D M I (by simp) ?_ rfl .here rfl (A _ ?_)
 all_goals grind
theorem hE.app{es dl:ac MapEntry}{e A:MapEntry}(h:hE ai es dl)(D:bJ ai e.key A.key)(I:bJ ai e.val A.val)(E:A.born=e.born):hE ai (es++[e]) (dl++[A]):=by
 match h with
 | .nil=>exact .cons D I E .nil
 | .cons a b c t=>exact .cons a b c (hE.app t D I E)
theorem Xf{k v dw E:X}:∀{es dl:ac MapEntry} {i:Nat},hE ai es dl->bJ ai k dw->bJ ai v E->hE ai (GG es i k v) (dl.modify i λe=>{ e with key:=dw,val:=E })
 |_,_,i,.nil,_,_=>by cases i <;> exact .nil
 |_,_,0,.cons a b c t,A,D=>.cons A D c t
 |_,_,i+1,.cons a b c t,A,D=>.cons a b c (Xf  t A D)
theorem Xg:∀{es dl:ac MapEntry} {i:Nat},hE ai es dl->hE ai (KL es i) (dl.eraseIdx i)
 |_,_,i,.nil=>by cases i <;> exact .nil
 |_,_,0,.cons a b c t=>t
 |_,_,i+1,.cons a b c t=>.cons a b c (Xg  t)
end
theorem Xh{a b:Addr}(h:zZ a b=true):a=b:=by
 obtain⟨x,y,z⟩:=a;obtain⟨V,Z,I⟩:=b;unfold zZ at h;rw[eA,eA]at h;obtain⟨⟨M,E⟩,N⟩:=h;have D:=gE M;have A:=gE E;simp only at D A;subst D A;cases z <;> cases I <;> simp at N
 all_goals grind
theorem at1{a b:Int}(h:ga a b=true):a=b:=by rw[k3]at h;grind
theorem Yt(h:qv x y=true):x=y:=by
 unfold qv at h
 split at h <;> (try(split at h)) <;> (try(cases h;done)) <;> (try rfl)
 ·grind
 ·simp only[eA]at h;rw[FH.1 h.1,at1 h.2]
 ·rw[Xh h]
 ·simp only[eA]at h;rw[gE h.1,gE h.2]
 ·simp only[eA]at h;rw[Xh h.1.1,gE h.1.2,gE h.2]
 ·rw[gE h]
 ·rw[gE h]
theorem Ca:∀{x y:ac X},qw x y=true->x=y
 | [],[],_=>rfl
 |a::x,b::y,h=>by simp only[qw,eA]at h;rw[Yt h.1,Ca h.2]
 | [],_::_,h=>by simp[qw]at h
 |_::_,[],h=>by simp[qw]at h
theorem Yu(h:oP x y=true):x=y:=by
 unfold oP at h
 split at h
 ·split at h
  ·rw[Ca h]
  grind
 ·split at h
  ·rw[Ca h]
  grind
 ·split at h
  ·simp only[eA]at h;rw[gE h.1.1,Ca h.1.2,Ca h.2]
  grind
 ·exact Yt h
section
variable {P:Program} {ai:cc} {B:Nat}
theorem aiK(q:Question)(w:World):∃n d,(choose q).run P w = .ok n { w with drawn:=d }/\w.drawn<=d:=by
 simp only[choose,Sem.run]
 split
 all_goals grind
theorem aic{q:Question}{f:Nat->Sem X}{w:World}(D:∀n d,(f n).run P { w with drawn:=d } = .ok v { w with drawn:=d }):∃d,(choose q >>= f).run P w = .ok v { w with drawn:=d }/\w.drawn<=d:=by
 obtain⟨n,d,h,A⟩:=aiK  q w;refine⟨d,?_,A⟩;rw[Sem.run_bind,h,Result.andThen_ok]
 grind
theorem ec.drawn{H:fm}{w:World}(A:ec B ai H w)(d:Nat):ec B ai H { w with drawn:=d }:=A.world aa aa
theorem cC.from{w:World}(A:w.drawn<=d)(h:cC B ai H { w with drawn:=d } al aj bo gA bc):cC B ai H w al aj bo gA bc :=
 ⟨h.rel,h.agree,h.size,h.os,⟨h.tape.1,hJ A h.tape.2⟩,h.output,h.frame,h.own,h.le⟩
theorem ahA(k:X)(w:World):∃d,(Instr.keyThatStays k k).run P w = .ok k { w with drawn:=d }/\w.drawn<=d:=by
 unfold Instr.keyThatStays
 split
 ·exact⟨w.drawn,rfl,J⟩
 ·refine aic λn d=>?_;simp only[ite_self,Sem.run_pure]
theorem amq{h:ae}{w:World}(ba:ec B ai (u h) w)(U:Nat){m:X}(eI:P.underlying t=some (.map d0 e))(vn:mU P d0 h m k x = .ok ab)(bx:bJ ai m nd)(hk:bJ ai k cL)(aX:bJ ai x dN):
  ∃bc,(Instr.mapUpdate t nd cL dN).run P w = .ok () bc/\cC B ai (u h) w U U ai (u ab) bc:=by
 obtain⟨js,h1⟩:=jP vn;obtain⟨fC,E⟩:=NI js;have wW:cL=k:=uD (xV E).1 hk;subst wW
 split at h1
 ·rename_i r
  obtain⟨es,A,bd,ap⟩:=B9 h1;cases bx with
  |map a1 =>
   rename_i p
   obtain⟨dl,bV,I,er⟩:=ba.map a1 bd;have D:=IX E false w;have M:=q9 (P:=P) bV aa
   split at ap
   ·rename_i i e Z
    obtain⟨au,aH⟩:=jP ap;cases aH;obtain⟨c,bh,b0⟩:=EV E I Z w;obtain⟨ew,cj,rfl⟩:=b0;obtain⟨_,tR,N⟩:=EY  Z i e rfl;obtain⟨e'',d8,hkv,_,_⟩:=I.get tR;rw[cj]at d8;cases d8;have V:ew.key=cL:=(uD (xV N).2 hkv).trans (Yu au);obtain⟨d,ij,SX⟩:=ahA (P:=P) cL w;have hei:dl.toArray[i]? = some ew:=aa
    have T:=uH (P:=P) (w:={ w with drawn:=d }) (o:=.map (dl.toArray.modify i λe=>{ e with key:=cL,val:=dN }) A) bV aa;refine⟨{ w with drawn:=d,heap:=w.heap.setIfInBounds p.ct (.map (dl.toArray.modify i λe=>{ e with key:=cL,val:=dN }) A) },?_,?_⟩
    ·simp only[Instr.mapUpdate,Sem.run_bind,run_underlying eI,Result.andThen_ok,M,D,bh,hei,EH,IQ,V,ij,T]
    ·refine cC.from  SX (cC.set (ba.drawn d) U a1 bd er aa λbc pJ=>⟨er,_,?_,Xf  I hk aX⟩)
     grind
   ·rename_i Z
    cases ap;obtain⟨c,bh,b0⟩:=EV E I Z w;cases b0;have T:=uH (P:=P)  (o:=.map (dl.toArray.push { key:=cL,val:=dN,born:=A }) (A+1)) bV aa;refine⟨{ w with heap:=w.heap.setIfInBounds p.ct (.map (dl.toArray.push { key:=cL,val:=dN,born:=A }) (A+1)) },?_,?_⟩
    ·simp only[Instr.mapUpdate,Sem.run_bind,run_underlying eI,Result.andThen_ok,M,D,bh,T]
    ·refine cC.set ba U a1 bd er aa λbc pJ=>⟨er,dl++[{ key:=cL,val:=dN,born:=A }],?_,?_⟩
     ·grind
     ·rw[j5];exact I.app hk aX rfl
   ·cases ap
 ·cases h1
theorem zH(o:Obj)(w:World):(newObj o).run P w = .ok w.heap.size { w with heap:=w.heap.push o }:=rfl
theorem V8{h:ae}{w:World}(M:ec B ai (u h) w){U:Nat}(Z:ai U=none){m:ay Nat}(N:pA ai m bR)(c:Nat):
  ∃bo,bJ bo (.pointer (some ⟨U,0,none⟩)) (.pointer (some ⟨w.heap.size,0,none⟩)) /\
   cC B ai (u h) w U (U+1) bo (u (T h U (.iter m c [] c))) { w with heap:=w.heap.push (.mapIter bR c #[] c) }:=by
 have V:(⟨w.heap.size,0,0,0⟩:Place).ct=w.heap.size:=rfl;have E:Sub ai (λk=>if k=U then some ⟨w.heap.size,0,0,0⟩else ai k):=λb q a1=>aa
 have D:(λk=>if k=U then some (⟨w.heap.size,0,0,0⟩:Place)else ai k) U=some ⟨w.heap.size,0,0,0⟩:=by simp
 have I:=bJ.ptr (ai:=λk=>if k=U then some (⟨w.heap.size,0,0,0⟩:Place)else ai k) (o:=0) D;refine⟨_,I,?_⟩;rw[uM];have A:=Made.push w (.mapIter bR c #[] c);exact cC.make M Z A.size A.dZ A.os A.tape A.output V ⟨M.base,rfl,bR,A.new,N.mono E⟩
theorem aiL{h:ae}{w:World}(D:ec B ai (u h) w){U:Nat}(bw:ai U=none)(cK:rk P t=true)(Z:bJ ai v c){K:bZ}(A:dm (sn h U v) K):
  iV P B ai (u h) w U (sn h U v) (do pure (.value (<-Instr.range t c))):=by
 obtain⟨d0,zf,V⟩:=Ny cK;unfold sn at *
 split at A
 ·cases Z;obtain⟨bo,M,I⟩:=V8 D bw (m:=none) (bR:=none) trivial 0;refine⟨_,_,_,bo,_,_,rfl,M,I,.inl ?_⟩;simp[Instr.range,run_underlying V,zH]
 ·split at A
  ·rename_i bd
   cases Z with
   |map N =>
    obtain⟨dl,bV,bK,er⟩:=D.map N bd;obtain⟨bo,M,I⟩:=V8 D bw (m:=some _) (bR:=some _) ⟨_,N,rfl⟩ _;refine⟨_,_,_,bo,_,_,rfl,M,I,.inl ?_⟩;have E:=q9 (P:=P) bV aa;simp[Instr.range,run_underlying V,zH,E]
  ·exact A.elim
 ·exact A.elim
theorem NC(A:ac Nat):∀{es dl:ac MapEntry},hE ai es dl->hE ai (leftOf A es) (dl.filter λe=>!A.contains e.born)
 |_,_,.nil=>.nil
 |x::xs,y::Z,.cons M N E I=>by
  have D:(A.any (Nat.beq x.born))=A.contains y.born:=by
   rw[E,zB];simp only[uA,List.contains_iff_exists_mem_beq,Nat.beq_eq]
   grind
  unfold leftOf;rw[D,q7];cases V:A.contains y.born
  ·simp only[mN,Bool.not_false,if_true];exact .cons M N E (NC A I)
  ·simp only[ql,Bool.not_true,np,ff];exact NC A I
theorem hE.mem:∀{es dl:ac MapEntry} {A:MapEntry},hE ai es dl->A∈dl->∃e∈es,bJ ai e.key A.key/\bJ ai e.val A.val/\A.born=e.born
 |_,_,A,.cons (e:=x) D V E M,h=>by
  rcases hD.1 h with rfl|h
  ·exact⟨x,by simp,D,V,E⟩
  ·obtain⟨e,N,I⟩:=hE.mem M h;exact⟨e,by simp[N],I⟩
theorem aid{n:Nat}(A:0<n)(w:World):∃i d,(choose (.mapNext n)).run P w = .ok i { w with drawn:=d }/\w.drawn<=d/\i<n:=by
 simp only[choose,Sem.run,Question.forced,Question.cut]
 by_cases h:n<=1
 ·exact⟨0,w.drawn,by simp[h],J,A⟩
 ·exact⟨w.tape w.drawn (.mapNext n) % n,w.drawn+1,aa,J,zD _ A⟩
theorem aqd{h:ae}{w:World}(ba:ec B ai (u h) w)(U:Nat)(aI:bJ ai v c){s:ao}{K:bZ}(js:vk s h U v K)(o8:TypeId):
  ∃d7 ab bo bT bc,K d7 ab U/\bJ bo d7 bT/\cC B ai (u h) w U U bo (u ab) bc/\(Instr.next c false o8).run P w = .ok bT bc:=by
 obtain⟨it,r,E,st,SV,A,es,rfl,rfl,bd,bx,qH,aq,V⟩:=js;obtain⟨p,_,bn,rfl⟩:=aI.Ow;obtain⟨bR,bV,fd,iy,hBi⟩:=ba.iter bn bd;cases bR with
 |none=>exact fd.elim
 |some bR =>
  obtain⟨q,di,rfl⟩:=fd;have bP:=q9 (P:=P) bV aa;obtain⟨dl,pJ,bK,er⟩:=ba.map di bx;have g2:=q9 (P:=P) pJ aa;have N:(!A.toArray.isEmpty&&!dl.toArray.isEmpty&&dl.toArray.all (λe=>decide (e.born≥st)))=false:=by
   unfold J7 at qH;simp only[Bool.or_eq_true]at qH;rcases qH with(V|V)|V
   ·grind
   ·simp[List.isEmpty_iff]at V;subst V;cases bK;simp
   ·obtain⟨e,ap,aH⟩:=uA.1 V;obtain⟨k,hk⟩:=vO ap;obtain⟨I,bh,_,_,b0⟩:=bK.get hk;have cS:e.born<st:=by simpa[vU]using aH
    grind
  have D:=NC A bK;have M:(dl.toArray.filter λe=>!A.toArray.contains e.born)=(dl.filter λe=>!A.contains e.born).toArray:=by simp
  generalize bD:(dl.filter λe=>!A.contains e.born)=ez at D M;cases br:leftOf A es with
  |nil =>
   rw[br]at D;cases D;refine⟨_,_,ai,_,w,aq br,.tuple (.cons (.bool _) .nil),cC.refl U ba,?_⟩;simp only[Instr.next,iy,mM,Sem.run_bind,bP,g2,Result.andThen_ok,N,M,np,ff];simp[choose,Sem.run,Question.forced]
  |cons aM l =>
   have Z:∀I∈ez,∃e∈leftOf A es,bJ ai e.key I.key/\bJ ai e.val I.val/\I.born=e.born:=λI h=>D.mem h;have b0:∀I∈ez,I.born<E:=λI h=>by obtain⟨e,ap,_,_,aH⟩:=Z I h;rw[aH];exact(V e ap).1
   have fk:ez≠[]:=by
    intro h;subst h;have:=D.length
    grind
   have ar:(ez.toArray.filter λe=>decide (e.born<E))=ez.toArray:=by apply Array.ext';rw[Array.toList_filter];exact zx.2 aa
   have aR:(ez.toArray.filter λe=>decide (e.born≥E))=#[]:=by apply Array.ext';rw[Array.toList_filter];exact zt.2 aa
   have ayx:ez.toArray.isEmpty=false:=aa
   obtain⟨i,d,AL,SX,aj⟩:=aid (P:=P) (n:=ez.length) aa w;obtain⟨I,he'⟩:∃I,ez[i]? = some I:=⟨ez[i],aa⟩
   obtain⟨e,agw,hk,vo,a1⟩:=Z I aa;have T:=uH (P:=P) (w:={ w with drawn:=d }) (o:=.mapIter (some q.ct) E (A.toArray.push I.born) SV) bV aa;rw[List.push_toArray]at T;refine⟨_,_,ai,.tuple #[.bool true,I.key,I.val],{ w with drawn:=d,heap:=w.heap.setIfInBounds p.ct (.mapIter (some q.ct) E (A++[I.born]).toArray SV) },(V e agw).2,.tuple (.cons (.bool _) (.cons hk (.cons vo .nil))),?_,?_⟩
   ·refine cC.from  SX (cC.set (ba.drawn d) U bn bd hBi aa λbc pJ=>⟨hBi,iy,some q.ct,?_,⟨q,di,rfl⟩⟩)
    grind
   ·simp only[Instr.next,iy,mM,Sem.run_bind,bP,g2,Result.andThen_ok,N,M,np,ff,ar,aR,ayx];simp[AL,he',T]
theorem VN{h:ae}{w:World}(ba:ec B ai (u h) w){a:ay Addr}{c s:Nat}{k:ac X->R fc}{r:fc}(aI:bJ ai (.slice a len c) ow)(bx:m<=len)(N:jD h a (Nat.mul m s) k = .ok r):∃l,k l = .ok r/\l.length=m*s/\∀d,∃cV,dt ai l cV/\(Builtin.firstCells s m ow).run P { w with drawn:=d } = .ok cV.toArray { w with drawn:=d }:=by
 obtain⟨ev,bT,rfl,D⟩:=aI.xZ;unfold jD at N;rcases zz (Nat.mul m s)with aq|RW
 ·rw[aq]at N;have SY:m*s=0:=aq;refine⟨[],N,aa,λd=>⟨[],.nil,?_⟩⟩;cases ev with
  |none=>rfl
  |some x=>simp only[Builtin.firstCells,SY];rfl
 ·obtain⟨q,di⟩:∃q,Nat.mul m s=q+1:=⟨Nat.mul m s-1,J⟩
  have I:Option.casesOn (motive:=λ_=>R fc) a (.no "read - nil") (λa=>cellsOf h a.block (λcs _=>R.of "read - out of block" (mT (Nat.mul m s) (mO cs a.off)) k)) = .ok r:=by rw[di]at N ⊢;omega
  have V:0<m:=aa
  rcases D with⟨rfl,_,_⟩|⟨b,o,aO,p,rfl,a1,rfl,_⟩|⟨b,o,g,aU,rfl,pK,_,rfl⟩
  ·cases I
  ·obtain⟨cs,bL,a5,dM⟩:=EX I;obtain⟨l,A,f1⟩:=R.k7 dM;have E:l.length=m*s:=by
    rw[qn]at A
    grind
   refine⟨l,f1,E,λd=>?_⟩;obtain⟨cV,Z,M⟩:=aay  (ba.drawn d) a1 a5 A;exact⟨cV,Z,M⟩
  ·omega
theorem aj0{h:ae}{w:World}(ba:ec B ai (u h) w)(U:Nat){s:Nat}(V:ag[0]? = some t)(au:Cu P t=some s){r:fc}(E:Rl s h U x y = .ok r)(aX:bJ ai x dN)(cd:bJ ai y il)(o8:TypeId):
  iV P B ai (u h) w U r (do pure (.value (<-Builtin.copy_ ag o8 #[dN,il]))):=by
 obtain⟨e,eI,N⟩:=V7 au;unfold Rl at E
 split at E
 ·rename_i a len cap
  split at E
  ·rename_i b n mV
   obtain⟨ev,bT,rfl,hcx⟩:=aX.xZ;have SZ:=cd;obtain⟨cr,c'',rfl,hcy⟩:=cd.xZ;obtain⟨l,A,M,lM⟩:=VN (P:=P) ba SZ (Nat.min_le_left n len) E;obtain⟨cV,I,D⟩:=lM w.drawn;have Z:∀w,(Builtin.lenOf (.slice cr n c'')).run P w = .ok n w:=λ_=>rfl
   split at A
   ·cases A;cases I;refine⟨_,_,_,ai,_,w,rfl,.int _ _,cC.refl U ba,.inl ?_⟩;simp[Builtin.copy_,V,run_underlying eI,Z,ku N,D,goInt];cases ev <;> simp[storeCells]
   ·split at A
    ·rename_i fk _ a
     obtain⟨ab,pJ,A⟩:=R.e9 A;cases A;rcases hcx with⟨h1,_⟩|⟨Bo,H5,aO,p,h1,a1,rfl,_⟩|⟨_,_,g,aU,h1,pK,_,rfl⟩
     ·cases h1
     ·cases h1;obtain⟨bc,ij,kA⟩:=I7 (P:=P) ba U a1 pJ I;refine⟨_,_,_,ai,_,bc,rfl,.int _ _,kA,.inl ?_⟩;simp[Builtin.copy_,V,run_underlying eI,Z,ku N,D,goInt,ij]
     ·exfalso;rw[pK,Nat.min_zero,mb]at M
      grind
    ·cases A
  ·cases E
 ·cases E
theorem aiM{h:ae}{w:World}(N:ec B ai (u h) w)(U:Nat)(A:ag[0]? = some t)(hty:rk P t=true\/ns P t=true){r:fc}(D:F5 P t h U x = .ok r)(aX:bJ ai x dN)(o8:TypeId):
  iV P B ai (u h) w U r (do pure (.value (<-Builtin.clear_ ag o8 #[dN]))):=by
 have V:∃d,P.underlying t=some d:=by
  rcases hty with h|h
  ·obtain⟨k,e,h⟩:=Ny h;grind
  ·obtain⟨e,h⟩:=Nq h;grind
 obtain⟨d,V⟩:=V;unfold F5 at D
 split at D
 ·cases D;cases aX;exact⟨_,_,_,ai,_,w,rfl,te,cC.refl U N,.inl (by simp[Builtin.clear_,A,run_underlying V];rfl)⟩
 ·obtain⟨es,Z,bd,E⟩:=B9 D;cases E;cases aX with
  |map a1 =>
   rename_i p
   obtain⟨dl,bV,bK,er⟩:=N.map a1 bd;have hgo:=q9 (P:=P) bV aa;have T:=uH (P:=P)  (o:=.map #[] Z) bV aa;refine⟨_,_,_,ai,_,{ w with heap:=w.heap.setIfInBounds p.ct (.map #[] Z) },rfl,te,cC.set N U a1 bd er aa λbc I=>⟨er,[],I,.nil⟩,.inl ?_⟩;simp[Builtin.clear_,A,run_underlying V,hgo,T];rfl
 ·cases D;obtain⟨ev,bT,rfl,M⟩:=aX.xZ;rcases M with⟨_,rfl,_⟩|⟨_,_,_,_,h,_⟩|⟨_,_,_,_,h,_⟩
  ·exact⟨_,_,_,ai,_,w,rfl,te,cC.refl U N,.inl (by simp[Builtin.clear_,A,run_underlying V];rfl)⟩
  ·cases h
  ·cases h
 ·rename_i a n cap
  obtain⟨ev,bT,rfl,M⟩:=aX.xZ;cases n with
  |zero =>
   cases D;refine⟨_,_,_,ai,_,w,rfl,te,cC.refl U N,.inl ?_⟩;cases ev <;> simp[Builtin.clear_,A,run_underlying V] <;> rfl
  |succ m =>
   have D:J8 P t h U a (Nat.succ m) = .ok r:=D;obtain⟨e,bK,E⟩:=R.k7 D;obtain⟨xy,dc,ap⟩:=R.k7 E;obtain⟨ab,I,aH⟩:=R.e9 ap;cases aH;obtain⟨i,z,aj,wV,mo,rfl⟩:=zF dc;have vn:=EQ bK;rcases M with⟨E,_⟩|⟨Bo,H5,aO,p,E,a1,rfl,_⟩|⟨_,_,g,aU,E,pK,_,rfl⟩
   ·cases E
   ·cases E;obtain⟨bc,ij,kA⟩:=I7 (P:=P) N U a1 I (Cg (xU mo ai) (Nat.succ m));refine⟨_,_,_,ai,_,bc,rfl,te,kA,.inl ?_⟩;simp[Builtin.clear_,A,run_underlying vn,x3 aj wV,zE,ij];rfl
   ·cases pK
 ·cases D
theorem aie{h:ae}{w:World}(ba:ec B ai (u h) w)(U:Nat)(N:ag[0]? = some t){m:X}{r:fc}(V:FF P t h U m k = .ok r)(bx:bJ ai m nd)(hk:bJ ai k cL)(o8:TypeId):
  iV P B ai (u h) w U r (do pure (.value (<-Builtin.delete_ ag o8 #[nd,cL]))):=by
 unfold FF at V
 split at V
 ·rename_i d0 e eI
  obtain⟨js,Z⟩:=jP V;obtain⟨fC,E⟩:=NI js;have wW:cL=k:=uD (xV E).1 hk;subst wW;unfold Pk at Z
  split at Z
  ·rename_i b
   obtain⟨es,D,bd,ap⟩:=B9 Z;cases bx with
   |map a1 =>
    rename_i p
    obtain⟨dl,bV,bK,er⟩:=ba.map a1 bd;have A:=IX E dl.isEmpty w;have M:=q9 (P:=P) bV aa
    split at ap
    ·rename_i i e bD
     cases ap;obtain⟨c,bh,b0⟩:=EV E bK bD w;obtain⟨ew,cj,rfl⟩:=b0;have T:=uH (P:=P)  (o:=.map (dl.eraseIdx i).toArray D) bV aa;have cS:i<dl.length:=aa
     refine⟨_,_,_,ai,_,{ w with heap:=w.heap.setIfInBounds p.ct (.map (dl.eraseIdx i).toArray D) },rfl,te,cC.set ba U a1 bd er aa λbc pJ=>⟨er,dl.eraseIdx i,?_,Xg bK⟩,.inl ?_⟩
     ·omega
     ·simp[Builtin.delete_,N,run_underlying eI,M,A,bh,T,Array.eraseIdxIfInBounds,cS];rfl
    ·rename_i bD
     cases ap;obtain⟨c,bh,b0⟩:=EV E bK bD w;cases b0;have T:=uH (P:=P)  (o:=.map dl.toArray D) bV aa;have I:(w.heap.setIfInBounds p.ct (.map dl.toArray D))=w.heap:=aa
     rw[I]at T;refine⟨_,_,_,ai,_,w,rfl,te,cC.refl U ba,.inl ?_⟩;simp[Builtin.delete_,N,run_underlying eI,M,A,bh,T];rfl
    ·cases ap
  ·cases Z
 ·cases V
end
section
variable {P:Program} {ai:cc} {B:Nat}
theorem cC.less{H gA:fm}{w:World}(U:Nat)(A:ec B ai H w)(E:∀b o,gA b=some o->H b=some o):cC B ai H w U U ai gA w where
 rel:=A.less E
 agree:=aa
 size:=J
 os:=rfl
 tape:=.here
 output:=rfl
 frame:=aa
 own:=λk ⟨b,p,M,D,N,I⟩=>by obtain⟨o,V⟩:=lI.1 D;exact .inl ⟨b,p,M,aa,N,I⟩
 le:=J
theorem cC.at2{w:World}{U:Nat}{eH:Place}{o:gm}(Z:ec B ai H w)(bw:ai U=none)(a1:ai b=some p)(fd:H b=some o)(er:B<=p.ct)(hH':∀x,gA x=if x=b then none else H x)(bn:eH.ct=p.ct)(jE:bc.heap.size=w.heap.size)(lP:∀k,k≠p.ct->bc.heap[k]? = w.heap[k]?)(wT:bc.os=w.os)(G1:qS w bc)(G2:bc.output=w.output)(rD:k8 B (λk=>if k=U then some eH else ai k) bc eH aU):
  cC B ai H w U (U+1) (λk=>if k=U then some eH else ai k) (gA.put U aU) bc:=by
 have n5:Sub ai (λk=>if k=U then some eH else ai k):=λx q D=>aa
 have A:∀x,x≠U->((gA.put U aU) x).isSome->(H x).isSome/\x≠b:=λx e h=>by
  simp only[fm.put,e,ff,hH']at h
  grind
 refine⟨⟨by have:=Z.base;omega,?_,?_,?_⟩,λx D=>?_,J,wT,G1,G2,?_,?_,J⟩
 ·intro x q y D E
  by_cases e:x=U
  ·subst e;simp[fm.put]at D E;subst D;subst E;exact rD
  ·obtain⟨V,M⟩:=A x e aa;simp only[e,ff]at D;simp only[fm.put,e,ff,hH',M]at E;refine(Z.obj x q y D E).mono n5 (lP _ λN=>M ?_);exact Z.inj x b q p D a1 V aa J N
 ·intro x y q kG D E au ls I N
  by_cases e:x=U <;> by_cases ew:y=U
  ·omega
  ·subst e;simp at D;subst D;obtain⟨V,M⟩:=A y ew ls;simp only[ew,ff]at E;exact absurd (Z.inj y b kG p E a1 V aa J J) M
  ·subst ew;simp at E;subst E;obtain⟨V,M⟩:=A x e au;simp only[e,ff]at D;exact absurd (Z.inj x b q p D a1 V aa J J) M
  ·obtain⟨V,_⟩:=A x e au;obtain⟨M,_⟩:=A y ew ls;simp only[e,ff]at D;simp only[ew,ff]at E;exact Z.inj x y q kG D E V M I N
 ·intro x au
  by_cases e:x=U
  ·grind
  ·simp only[e,ff];exact Z.kS x aa
 ·grind
 ·intro k hk qH;exact lP k λe=>qH ⟨b,p,a1,aa,e.symm,J⟩
 ·rintro k ⟨x,q,D,au,rfl,I⟩
  by_cases e:x=U
  ·subst e;simp at D;subst D;exact .inl ⟨b,p,a1,aa,bn.symm,I⟩
  ·simp only[e,ff]at D;exact .inl ⟨x,q,D,aa,rfl,I⟩
theorem Xi{n:Nat}(A:n<=1000000):∀(r c:Nat),c<=1250192->Builtin.growBy n r c<=1250192
 |0,c,h=>h
 |r+1,c,h=>by
  unfold Builtin.growBy
  split
  ·exact h
  ·exact Xi A r _ J
theorem nextslicecap_le{c:Nat}(A:jQ<=1000000)(D:c<jQ):Builtin.nextslicecap jQ c<=2000000:=by
 unfold Builtin.nextslicecap
 split
 ·omega
 ·split
  ·omega
  ·exact hJ (Xi A 4 c J) J
theorem run_typeInfo{i:TypeInfo}(h:P.info? t=some i)(w:World):(typeInfo t).run P w = .ok i w:=by simp[typeInfo,h]
theorem Yv{h:ae}{U s:Nat}{r:fc}(D:pv h U s l jQ = .ok r):
  ∃A,s=A+1/\r = .val (.slice (some ⟨U,0,some (A+1)⟩) jQ jQ) (T h U (.cells l false)) (U+1):=by
 unfold pv at D;cases s with
 |zero=>cases D
 |succ A=>grind
theorem Wu{h N:ae}{w:World}(ba:ec B ai (u h) w){U s:Nat}(bw:ai U=none)(dx:∀b o,u N b=some o->u h b=some o){r:fc}(hk:pv N U s l jQ = .ok r)(Z:dt ai l cV){z:ac X}(dc:z.length=s){A:Nat}(a5:jQ<=A)(d:Nat)(bs:w.drawn<=d)(e:TypeId):
  ∃v ab Y bo,r = .val v ab Y/\bJ bo v (.slice (some ⟨w.heap.size,0,none⟩) jQ A) /\
   cC B ai (u h) w U Y bo (u ab) { w with drawn:=d,heap:=w.heap.push (.cells (cV++gS (A-jQ) z).toArray e) }:=by
 obtain⟨lA,rfl,rfl⟩:=Yv hk
 let p:Place:=⟨w.heap.size,0,A-jQ,lA+1⟩
 have D:(λk=>if k=U then some p else ai k) U=some p:=by simp
 have M:Sub ai (λk=>if k=U then some p else ai k):=λb q a1=>aa
 have aI:=bJ.oK (ai:=λk=>if k=U then some p else ai k) (o:=0)  D rfl jQ jQ;have E:jQ+p.spare=A:=aa
 rw[E]at aI;refine⟨_,_,_,_,rfl,aI,?_⟩;rw[uM];have N:=cC.less  U ba dx;refine N.trans ?_;have V:k8 B (λk=>if k=U then some p else ai k) { w with drawn:=d,heap:=w.heap.push (.cells (cV++gS (A-jQ) z).toArray e) } p (.cells l false):=?_
 ·exact cC.make N.rel bw (by simp) aa rfl ⟨rfl,bs⟩ rfl rfl V
 refine⟨ba.base,rfl,(cV++gS (A-jQ) z).toArray,e,0,0,aa,J,Jc ?_,?_⟩
 ·have I:=Z.length;rw[Iy J];rw[I,hB];exact Z.mono M
 ·have I:=Z.length;simp only[List.size_toArray,jk,EU,dc]
  grind
theorem amr{I:ac X}{c:Array X}{s:Nat}(D:pq ai cs c 0)(N:cs.length=len*s)(A:mT (len*s) (mO cs 0)=some I):
  ∃E,dt ai I E/\E=c.toList.take (len*s):=by
 rw[qn,rc,nr]at A
 split at A
 ·cases A;refine⟨_,?_,rfl⟩;obtain⟨cV,V,M,Z⟩:=D.cut (o:=0) (n:=len*s) J;have:cV=c.toList.take (len*s):=by
   apply q6
   grind
  rw[<-this];simpa using M
 ·cases A
theorem aiN{h:ae}{w:World}(ba:ec B ai (u h) w){U:Nat}(bw:ai U=none){s n:Nat}{a:ay Addr}(aX:bJ ai (.slice a len cap) dN)(gT:new.length=n*s){z:ac X}(dc:z.length=s)(e:TypeId){r:fc}(I:ge s h U a len cap n new = .ok r):
  ∃ev bT,dN = .slice ev len bT /\
   ((len+n<=bT/\∀A,dt ai new A->∃v ab Y bo bc,r = .val v ab Y/\bJ bo v (.slice ev (len+n) bT)/\cC B ai (u h) w U Y bo (u ab) bc /\
     (match ev with|some x=>(storeCells (x.add (len*s)) A).run P w = .ok () bc | none=>bc=w)) \/
    (bT<len+n/\len+n<=1000000/\∀d D,w.drawn<=d->len+n<=D->∃E:ac X,(Builtin.firstCells s len dN).run P { w with drawn:=d } = .ok E.toArray { w with drawn:=d } /\
     ∀A,dt ai new A->∃v ab Y bo,r = .val v ab Y/\bJ bo v (.slice (some ⟨w.heap.size,0,none⟩) (len+n) D) /\
      cC B ai (u h) w U Y bo (u ab) { w with drawn:=d,heap:=w.heap.push (.cells (E++A++gS (D-(len+n)) z).toArray e) })):=by
 obtain⟨ev,bT,rfl,oQ⟩:=aX.xZ;refine⟨ev,bT,rfl,?_⟩;unfold ge at I;cases ru:Nat.ble (Nat.add len n) cap with
 |true =>
  rw[ru]at I;have dx:len+n<=cap:=lJ ru;have I:Rk h U s a len cap (Nat.add len n) new = .ok r:=I;unfold Rk at I
  left
  rcases oQ with⟨rfl,rfl,rfl⟩|⟨b,o,aO,p,rfl,a1,rfl,oe⟩|⟨b,o,g,aU,rfl,pK,hc0,rfl⟩
  ·cases I;exact⟨dx,λA _=>⟨_,_,_,ai,w,rfl,.rf _ _,cC.refl U ba,rfl⟩⟩
  ·have wU:bJ ai (.slice (some ⟨b,o,aO⟩) (len+n) cap) (.slice (some ⟨p.ct,p.off+o,none⟩) (len+n) bT):=by
    rcases oe with⟨rfl,rfl⟩|⟨lA,rfl,Ln,rfl⟩
    ·exact .k4 a1 _ _
    ·exact .oK a1 Ln _ _
   have S0:len+n<=bT:=J
   refine⟨S0,λA aR=>?_⟩;dsimp only at I
   split at I
   ·cases I;cases aR;exact⟨_,_,_,ai,w,rfl,wU,cC.refl U ba,rfl⟩
   ·obtain⟨ab,pJ,I⟩:=R.e9 I;cases I;obtain⟨bc,ij,kA⟩:=I7 (P:=P) ba U a1 pJ aR;refine⟨_,_,_,ai,bc,rfl,wU,kA,?_⟩;have:(⟨p.ct,p.off+o,none⟩:Addr).add (len*s)=⟨p.ct,p.off+(o.add (len.mul s)),none⟩:=by rw[pn,vS];rfl
    dsimp only
    grind
  ·subst pK hc0;have lg:n=0:=J
   subst lg;have wI:new=[]:=aa
   subst wI;cases I;refine⟨J,λA aR=>?_⟩;cases aR;exact⟨_,_,_,ai,w,rfl,.oL _ _ _ _ _,cC.refl U ba,rfl⟩
 |false =>
  rw[ru]at I;obtain⟨fH,I⟩:=jP  I;simp only[eA]at fH;have Rm:len+n<=1000000:=lJ fH.2;have vp:cap<len+n:=by
   rcases iI cap (len+n)with h|h
   ·exact h
   ·have:=zv h
    grind
  rcases oQ with⟨rfl,rfl,rfl⟩|⟨b,o,aO,p,rfl,a1,rfl,oe⟩|⟨b,o,g,aU,rfl,pK,hc0,rfl⟩
  ·right
   refine⟨vp,Rm,λd D bs yM=>⟨[],rfl,λA aR=>?_⟩⟩;exact Wu ba bw aa I aR dc yM d bs e
  ·obtain⟨cs,bL,a5,I⟩:=EX I;obtain⟨V,N,I⟩:=R.k7 I;dsimp only at N I;have awm:∀d,∃E,dt ai V E/\(Builtin.firstCells s len (.slice (some ⟨p.ct,p.off+o,none⟩) len bT)).run P { w with drawn:=d } = .ok E.toArray { w with drawn:=d }:=λd =>
    aay  (ba.drawn d) a1 a5 N
   have grow:bT<len+n->∀h1:ae,(∀b o,u h1 b=some o->u h b=some o)->pv h1 U s (kP V new) (Nat.add len n) = .ok r ->
     ∀d D,w.drawn<=d->len+n<=D->∃E:ac X,(Builtin.firstCells s len (.slice (some ⟨p.ct,p.off+o,none⟩) len bT)).run P { w with drawn:=d } = .ok E.toArray { w with drawn:=d } /\
     ∀A,dt ai new A->∃v ab Y bo,r = .val v ab Y/\bJ bo v (.slice (some ⟨w.heap.size,0,none⟩) (len+n) D) /\
      cC B ai (u h) w U Y bo (u ab) { w with drawn:=d,heap:=w.heap.push (.cells (E++A++gS (D-(len+n)) z).toArray e) }:=by intro _ h1 dx bd d D bs yM;obtain⟨E,Dt,tA⟩:=awm d;refine⟨E,tA,λA aR=>?_⟩;rw[j5]at bd;exact Wu ba bw dx bd (Dt.append aR) dc yM d bs e
   rcases oe with⟨rfl,rfl⟩|⟨lA,rfl,Ln,rfl⟩
   ·grind
   ·dsimp only at I;obtain⟨M,hkg⟩:=jP I;simp only[eA]at M;obtain⟨⟨⟨⟨⟨hro,S1⟩,lf⟩,G8⟩,rC⟩,ayy⟩:=M;have ayz:bL=false:=aa
    subst ayz;have S1:o=0:=gE S1;have lf:cs.length=len*s:=by rw[<-nX];exact gE lf
    have G8:lA+1=s:=gE G8;have rC:len=cap:=gE rC;subst rC S1;have dx:∀x y,u (wB h b) x=some y->u h x=some y:=λx y hxy=>by
     rw[NT]at hxy
     grind
    rcases iI (len+p.spare) (len+n)with cS|eZ
    ·grind
    ·left
     refine⟨eZ,λA aR=>?_⟩;obtain⟨p3,hs1,rfl⟩:=Yv hkg;have ayA:lA=p3:=J
     subst ayA;obtain⟨er,ayB,c,ew,al,aj,bV,lP,at3,agx⟩:=ba.obj b p _ a1 a5;have Du:=aR.length;rw[G8]at Ln;rw[lf,Ln]at agx;have aAX:n*s<=p.spare*s:=ph s J;have aAY:(⟨p.ct,p.off+0,none⟩:Addr).add (len*s)=⟨p.ct,len*s,none⟩:=by rw[pn,ayB];simp
     obtain⟨bc,ij,Z⟩:=Nn P p.ct (len*s) ew al aj A 0 c w bV J J (λv aI=>Xc (NA aR ayy v aI))
     ·let eH:Place:=⟨p.ct,0,p.spare-n,s⟩
      have Kr:(λk=>if k=U then some eH else ai k) U=some eH:=by simp
      have n5:Sub ai (λk=>if k=U then some eH else ai k):=λb q a1=>aa
      have aI:=bJ.oK (ai:=λk=>if k=U then some eH else ai k) (o:=0)  Kr J (len+n) (len+n);have awn:len+n+eH.spare=len+p.spare:=aa
      rw[awn]at aI;have hpz:(⟨eH.ct,eH.off+0,none⟩:Addr)=⟨p.ct,p.off+0,none⟩:=aa
      rw[hpz]at aI;refine⟨_,_,_,_,bc,rfl,aI,?_,by dsimp only;grind⟩;rw[uM];refine cC.at2 ba bw a1 a5 er (λx=>NT h b x) rfl Z.size Z.frame Z.os Z.tape Z.output ?_;refine⟨er,rfl,_,ew,al,aj,Z.heap,?_,Jc ?_,?_⟩
      ·grind
      ·obtain⟨E,Dt,vq⟩:=amr at3 lf N;simp only[mM];rw[j5];have hol:V.length=len*s:=by
        rw[Dt.length,vq]
        grind
       have mq:(c.toList.take (len*s)++A++c.toList.drop (len*s+A.length)).take (V++new).length=E++A:=by
        rw[vq];apply List.take_left'
        grind
       rw[mq];exact(Dt.append aR).mono n5
      ·simp only[j5,List.size_toArray,jk,nU,EC,Ew,mM];have hol:V.length=len*s:=by
        rw[qn,rc]at N
        grind
       show min (len*s) c.size+A.length+(c.size-(len*s+A.length))=V.length+new.length+(p.spare-n)*s;rw[Nat.sub_mul];omega
  ·obtain⟨cs,bL,a5,I⟩:=EX I;obtain⟨V,N,I⟩:=R.k7 I;dsimp only at I;obtain⟨M,I⟩:=jP I;simp only[eA]at M;have G8:0=s:=gE aa;subst G8;cases I
theorem V9{i:TypeInfo}(aj:P.info? e=some i)(h:ye P e=true):i.bytes<=1000000:=by unfold ye at h;rw[aj]at h;exact lJ h
theorem wrap_small{n:Nat}(h:n<=1000000):IntKind.i64.wrap (n:Int)=(n:Int):=by
 rw[<-nW];show zY .i64 n=(n:Int)
 unfold zY yy;have:Nat.blt n 9223372036854775808=true:=by rw[vU];omega
 grind
theorem Wv{h:ae}{w:World}(ba:ec B ai (u h) w){U:Nat}(bw:ai U=none){s n:Nat}{a:ay Addr}(aX:bJ ai (.slice a len cap) dN)(gT:new.length=n*s){i:TypeInfo}(aj:P.info? e=some i)(wV:i.zero=some z)(Ll:z.cells.toList.length=s)(Z:jR P e=some s)(rE:i.bytes<=1000000)(mo:uV z=true){r:fc}(hk:ge s h U a len cap n new = .ok r)(iz:ag[0]? = some t)(eI:P.underlying t=some (.slice e))(o8:TypeId) (oQ:(∃t1 q k,ag[1]? = some t1/\P.underlying t1=some (.int q)/\il = .int k (.ofNat n)/\n<=1000000/\new=gS n z.cells.toList) \/
   ((ag[1]? = none\/∃t1 d,ag[1]? = some t1/\P.underlying t1=some d/\∀q,d≠.int q)/\(∀w,(Builtin.lenOf il).run P w = .ok n w) /\
    ∀d,∃Aw,dt ai new Aw/\(Builtin.firstCells s n il).run P { w with drawn:=d } = .ok Aw.toArray { w with drawn:=d })):
  iV P B ai (u h) w U r (do pure (.value (<-Builtin.append_ ag o8 #[dN,il]))):=by
 obtain⟨ev,bT,rfl,awo⟩:=aiN (P:=P) ba bw aX gT Ll e hk;have hbz:¬((n:Int)*(i.bytes:Int)>2 ^ 48)\/1000000<n:=by
  rcases iI 1000000 n with h|h
  ·omega
  ·left
   have:n*i.bytes<=1000000*1000000:=sc h rE;omega
 have C9:¬((n:Int)<0):=J
 have M:∀(k:IntKind) (w:World),(asInt (Value.int k (n:Int))).run P w = .ok (n:Int) w:=λ_ _=>rfl;have aeY:w.drew={ w with drawn:=w.drawn+1 }:=rfl;have I:=λw=>x3 aj wV w;rcases awo with⟨dx,tS⟩|⟨cS,Rm,S2⟩
 ·rcases oQ with⟨t1,q,k,N,V,rfl,wX,rfl⟩|⟨yN,rF,lM⟩
  ·obtain⟨v,ab,Y,bo,bc,D,aI,kA,E⟩:=tS _ (Cg (xU mo ai) n);refine⟨v,ab,Y,bo,_,bc,D,aI,kA,.inl ?_⟩;have Ay:¬(281474976710656<(n:Int)*(i.bytes:Int)):=J
   have wY:IntKind.i64.wrap (n:Int)=(n:Int):=wrap_small J
   by_cases AM:n*s=0
   ·have wI:gS n z.cells.toList=[]:=aa
    rw[wI]at E;cases ev with
    |none=>simp[Builtin.append_,iz,run_underlying eI,ku Z,N,run_underlying V,dx,M,C9,wY,run_typeInfo aj,Ay,AM]at E ⊢;grind
    |some x=>simp[Builtin.append_,iz,run_underlying eI,ku Z,N,run_underlying V,dx,M,C9,wY,run_typeInfo aj,Ay,AM]at E ⊢;simp[E]
   ·cases ev with
    |none=>simp[Builtin.append_,iz,run_underlying eI,ku Z,N,run_underlying V,dx,M,C9,wY,run_typeInfo aj,Ay,AM,I,zE]at E ⊢;grind
    |some x=>simp[Builtin.append_,iz,run_underlying eI,ku Z,N,run_underlying V,dx,M,C9,wY,run_typeInfo aj,Ay,AM,I,zE]at E ⊢;simp[E]
  ·obtain⟨Aw,aR,A⟩:=lM w.drawn;have A:(Builtin.firstCells s n il).run P w = .ok Aw.toArray w:=A;obtain⟨v,ab,Y,bo,bc,D,aI,kA,E⟩:=tS Aw aR;refine⟨v,ab,Y,bo,_,bc,D,aI,kA,.inl ?_⟩;rcases yN with yN|⟨t1,d,N,V,bs⟩
   ·cases ev with
    |none=>simp[Builtin.append_,iz,run_underlying eI,ku Z,yN,rF,dx,A]at E ⊢;grind
    |some x=>simp[Builtin.append_,iz,run_underlying eI,ku Z,yN,rF,dx,A]at E ⊢;simp[E]
   ·cases ev with
    |none=>simp[Builtin.append_,iz,run_underlying eI,ku Z,N,run_underlying V,rF,dx,A]at E ⊢;grind
    |some x=>simp[Builtin.append_,iz,run_underlying eI,ku Z,N,run_underlying V,rF,dx,A]at E ⊢;simp[E]
 ·have Lo:¬(len+n<=bT):=J
  have KS:¬(9223372036854775807<(len:Int)+(n:Int)):=J
  have KT:¬(281474976710656<Builtin.nextslicecap (len+n) bT*i.bytes):=by have:=sc (nextslicecap_le Rm cS) rE;omega
  have KU:(Question.appendCap (len+n) bT e).forced=false:=rfl;generalize ru:(Question.appendCap (len+n) bT e).cut (w.tape w.drawn (Question.appendCap (len+n) bT e))=acU;have yM:len+n<=acU:=by rw[<-ru];exact Nk _ _
  obtain⟨aAZ,ar,aeZ⟩:=S2 (w.drawn+1) acU J yM;rw[<-aeY]at ar;rcases oQ with⟨t1,q,k,N,V,rfl,wX,rfl⟩|⟨yN,rF,lM⟩
  ·obtain⟨v,ab,Y,bo,D,aI,kA⟩:=aeZ _ (Cg (xU mo ai) n);refine⟨v,ab,Y,bo,_,_,D,aI,kA,.inl ?_⟩;have Ay:¬(281474976710656<(n:Int)*(i.bytes:Int)):=J
   have wY:IntKind.i64.wrap (n:Int)=(n:Int):=wrap_small J
   by_cases AM:n*s=0
   ·have wI:gS n z.cells.toList=[]:=aa
    simp[Builtin.append_,iz,run_underlying eI,ku Z,N,run_underlying V,Lo,KS,M,C9,wY,run_typeInfo aj,Ay,AM,KT,KU,ru,ar,I,newRow,zH,zE,wI];rfl
   ·simp[Builtin.append_,iz,run_underlying eI,ku Z,N,run_underlying V,Lo,KS,M,C9,wY,run_typeInfo aj,Ay,AM,KT,KU,ru,ar,I,newRow,zH,zE];rfl
  ·obtain⟨Aw,aR,A⟩:=lM (w.drawn+1);rw[<-aeY]at A;obtain⟨v,ab,Y,bo,D,aI,kA⟩:=aeZ Aw aR;refine⟨v,ab,Y,bo,_,_,D,aI,kA,.inl ?_⟩;rcases yN with yN|⟨t1,d,N,V,bs⟩
   ·simp[Builtin.append_,iz,run_underlying eI,ku Z,yN,rF,Lo,KS,run_typeInfo aj,KT,KU,ru,ar,A,I,newRow,zH,zE];rfl
   ·simp[Builtin.append_,iz,run_underlying eI,ku Z,N,run_underlying V,rF,Lo,KS,run_typeInfo aj,KT,KU,ru,ar,A,I,newRow,zH,zE];rfl
end
section
variable {P:Program} {ai:cc} {B:Nat}
def yj(B:Nat)(ai:cc)(h:ae)(w:World)(U:Nat)(K:bZ)(dst:ay Tmp)(a:Act)(next:Act->World->Prop):Prop :=
 ∀v ab Y bo c bc,K v ab Y->bJ bo v c->cC B ai (u h) w U Y bo (u ab) bc->next (a.put dst c) bc
theorem yj.fin{h:ae}{w:World}{U:Nat}{K:bZ}{a:Act}{next:Act->World->Prop}(M:yj B ai h w U K dst a next){e:Ending}(I:Fin B ai h w U K e bc):∃c,e = .returned c/\next (a.put dst c) bc:=by obtain⟨v,ab,Y,bo,c,rfl,E,A,D⟩:=I;exact⟨c,rfl,M v ab Y bo c bc E A D⟩
theorem RX{r:R fc}{K:bZ}(h:dm (dI r) K):∃x,r = .ok x/\dm x K:=by
 cases r with
 |ok x=>exact⟨x,rfl,h⟩
 |no w=>exact h.elim
theorem gf{aB:Type}{r:R aB}{k:aB->Prop}(h:af r k):∃v,r = .ok v/\k v:=by
 cases r with
 |ok x=>exact⟨x,rfl,h⟩
 |no w=>exact h.elim
section
variable {h:ae} {w:World} {U:Nat} {K:bZ} {o:Oper} {a:Act} {n:Nat} {r:ay Nat} {next:Act->World->Prop} {Q:Exit->Act->World->Prop}
theorem iV.upon{x:fc}{s:Sem Next}(D:iV P B ai (u h) w U x s)(I:dm x K)(M:yj B ai h w U K o.dst a next):o.uponIn (nh r) n P a next Q (s.run P w):=by
 obtain⟨v,ab,Y,bo,c,bc,rfl,N,E,A|⟨A,rfl⟩⟩:=D
 ·rw[A];exact M v ab Y bo c bc I N E
 ·rw[A];exact M v ab Y bo undef bc I N E
theorem Xj(D:ec B ai (u h) w)(I:jY ai U)(M:kT P f aJ h U K)(A:dt ai aJ cs)(N:yj B ai h w U K o.dst a next):o.uponIn (nh r) n P a next Q (.ok (.enter f ⟨cs⟩) w):=by refine⟨λh=>by simp[nh,Fence.wide]at h,?_⟩;rw[Ym];exact(M.2 B ai w _ D I A (n-1)).mono λe bc E=>by obtain⟨c,rfl,h⟩:=N.fin E;exact h
theorem VZ(h:B8 P f)(cs:Array X)(w:World):(callFunc f cs).run P w = .ok (.enter f cs) w:=by
 obtain⟨D,I,M,N⟩:=h;have E:D.body≠none:=aa
 have A:D.name ≠ "runtime.NumGoroutine" := by grind
 simp[callFunc,I,A,E]
theorem Ww(ba:ec B ai (u h) w)(bD:jY ai U){f ni:X}(A:fg P false (hV h U aJ f) K)(M:dt ai aJ cs)(aI:bJ ai f ni)(bw:yj B ai h w U K o.dst a next):
  o.uponIn (nh r) n P a next Q ((do let d <-Deferred.ofValue ni ⟨cs⟩;invoke d.target d.args:Sem Next).run P w):=by
 unfold hV at A
 split at A
 ·rename_i fn x y
  split at A
  ·cases aI with
   |func f aX cd =>
    rename_i Z fD p4 nj N
    have A:kT P Z _ h U K:=A;have D:((do let d <-Deferred.ofValue (.func (.func Z) ⟨p4⟩ ⟨N⟩) ⟨cs⟩;invoke d.target d.args:Sem Next)).run P w = .ok (.enter Z ⟨p4++(cs++N)⟩) w:=by simp[Deferred.ofValue,invoke,VZ A.1]
    rw[D];exact Xj ba bD A (aX.append (M.append cd)) bw
  ·cases aI with
   |yield br =>
    rename_i l p
    have A:tK P l _ h U K:=A;obtain⟨E,h1,ap,aH⟩:=A B ai w cs p ba bD (by simpa[kP]using M) br;have V:=q9 (P:=P) h1 aa;have D:((do let d <-Deferred.ofValue (.func (.yield p.ct) #[] #[]) ⟨cs⟩;invoke d.target d.args:Sem Next)).run P w = .ok (.round p.ct E.fn ((E.params.zip ⟨cs⟩).foldl (λI (t,a)=>I.setIfInBounds t a) E.tmps) E.assign E.body) w:=by simp[Deferred.ofValue,invoke,Instr.yield,Instr.getLoop,V,ap]
    rw[D];refine⟨λh=>by simp[nh,Fence.wide]at h,?_⟩;rw[amg];exact(aH (n-1)).mono λe bc bK=>by obtain⟨c,rfl,h⟩:=bw.fin bK;exact h
  ·exact A.elim
 ·exact A.elim
theorem ahR{m:String}{A:FuncId × ao}(h:re P t m=some A):∃i x,P.info? t=some i/\i.methods.find? (λx=>x.name == m)=some x/\x.path=#[]/\x.func=some A:=by
 unfold re at h
 grind
theorem aqe(ag:Array TypeId)(t:TypeId)(a:Addr)(x y:String):Builtin.ssaWrapNilChk_ ag t #[.pointer (some a),strVal x,strVal y]=pure (.pointer (some a)):=rfl
theorem aj1(Z:ec B ai (u h) w){I:ao}{E:X}(A:wt P h t I y = .ok v)(V:bJ ai y E):
  ∃c,(∀M:String,(receiverAt t (.val E) I (some M)).run P w = .ok c w)/\bJ ai v c:=by
 unfold wt at A
 split at A
 ·rename_i e D
  cases I with
  |true=>cases A;exact⟨E,λM=>by simp[receiverAt,run_underlying D,Place.get],V⟩
  |false =>
   obtain⟨bO,N,A⟩:=R.k7 (show R.of "type" (pu P e) (λbO=>iO bO h y) = .ok v from A);obtain⟨ev,rfl,c,bh,b0⟩:=Pm Z N A V;refine⟨c,λM=>?_,b0⟩;simp[receiverAt,run_underlying D,Place.get,aqe,asAddr,bh]
 ·rename_i d bw D
  cases I with
  |true=>cases A
  |false =>
   cases A;refine⟨E,λM=>?_,V⟩;cases d <;> first|(exact(bw _ rfl).elim)|simp[receiverAt,run_underlying D,Place.get]
 ·cases A
theorem aif(ba:ec B ai (u h) w)(bD:jY ai U){m:String}(A:fg P false (mc P h U aJ m v) K)(G5:dt ai aJ cs)(aI:bJ ai v ow)(bw:yj B ai h w U K o.dst a next):
  o.uponIn (nh r) n P a next Q ((do let d <-(pure { target:=.fn (.method m) #[],args:=#[ow]++⟨cs⟩ }:Sem Deferred);invoke d.target d.args:Sem Next).run P w):=by
 unfold mc at A
 split at A
 ·rename_i t y
  cases bx:re P t m with
  |none=>rw[bx]at A;exact A.elim
  |some M =>
   rw[bx]at A;obtain⟨i,x,aj,aX,hpa,Z⟩:=ahR bx;have A:fg P false (Dq (wt P h t M.2 y) (λy=>.call M.1 (y::aJ) h U)) K:=A;cases D:wt P h t M.2 y with
   |no s=>rw[D]at A;exact A.elim
   |ok aCt =>
    rw[D]at A;have A:kT P M.1 (aCt::aJ) h U K:=A;cases aI with
    |iface _ cd =>
     rename_i p4
     obtain⟨c,N,V⟩:=aj1 ba D cd;have E:((do let d <-(pure { target:=.fn (.method m) #[],args:=#[Value.iface t p4]++⟨cs⟩ }:Sem Deferred);invoke d.target d.args:Sem Next)).run P w = .ok (.enter M.1 ⟨c::cs⟩) w:=by
      have I:∀k,(method (k+1) t p4 m).run P w = .ok (M.1,c) w:=λk=>by unfold method;obtain⟨f,xv⟩:=M;simp[run_typeInfo aj,aX,hpa,Z,follow,N]
      have bs:P.types.size+Made.depth=(P.types.size+99)+1:=rfl;simp[invoke,callMethod,VZ A.1,bs,I]
     rw[E];exact Xj ba bD A (.cons V G5) bw
 ·exact A.elim
theorem Pn{k:X->X->R fc}{r:fc}(h:GI l k = .ok r):∃x y,l=[x,y]/\k x y = .ok r:=by
 unfold GI at h
 grind
theorem dt.two(h:dt ai [x,y] cs):∃dN il,cs=[dN,il]/\bJ ai x dN/\bJ ai y il:=by
 cases h with
 |cons h t=>cases t with
  |cons A t=>cases t;exact⟨_,_,rfl,h,A⟩
theorem Wa(ba:ec B ai (u h) w)(bD:jY ai U){b:Builtin}{r:fc}(A:pk P b ag.toList h U aJ = .ok r)(aI:dt ai aJ cs)(V:TypeId)(E:Array ao):
  iV P B ai (u h) w U r (invoke (.builtin b ag V E) ⟨cs⟩):=by
 unfold pk at A
 split at A
 ·obtain⟨t,I,A⟩:=R.k7 A;obtain⟨e,bK,A⟩:=R.k7 A;obtain⟨s,au,A⟩:=R.k7 A;obtain⟨xy,dc,A⟩:=R.k7 A;obtain⟨a5,A⟩:=jP A;simp only[eA]at a5;obtain⟨⟨yO,og⟩,D⟩:=a5;rw[ja]at I;have I:ag[0]? = some t:=aa
  obtain⟨i,z,aj,wV,mo,rfl⟩:=zF dc;have N:z.cells.toList.length=s:=gE yO;obtain⟨x,y,rfl,h4⟩:=Pn A;clear A;obtain⟨dN,il,rfl,M,Z⟩:=aI.two;have A:FE z.cells.toList s h U x y = .ok r:=h4;unfold FE at A
  split at A
  ·obtain⟨q,n,rfl,A⟩:=Cf A;obtain⟨bw,A⟩:=jP A;cases Z;unfold rm at D
   split at D
   ·rename_i t1 ht1
    split at D
    ·rename_i dq hu1
     rw[ja]at ht1;exact Wv ba bD.here M (by rw[EU,N]) aj wV N au (V9 aj og) mo A I (EQ bK) V (.inl ⟨t1,dq,q,aa,hu1,rfl,lJ bw,rfl⟩)
    ·cases D
   ·cases D
  ·cases A
 ·obtain⟨t,I,A⟩:=R.k7 A;rw[ja]at I;obtain⟨x,y,rfl,A⟩:=Pn A;obtain⟨dN,il,rfl,M,Z⟩:=aI.two;exact aie ba U aa A M Z V
 ·obtain⟨t,I,A⟩:=R.k7 A;obtain⟨hty,A⟩:=jP A;rw[ja]at I;unfold agp at A
  split at A
  ·match aI with
   | .cons  M .nil=>exact aiM ba U aa aa A M V
  ·cases A
 ·obtain⟨t,I,A⟩:=R.k7 A;obtain⟨s,au,A⟩:=R.k7 A;rw[ja]at I;obtain⟨x,y,rfl,A⟩:=Pn A;obtain⟨dN,il,rfl,M,Z⟩:=aI.two;exact aj0 ba U aa au A M Z V
 ·cases A
theorem aqf(ba:ec B ai (u h) w)(bD:jY ai U){s:Nat}{z:ac X}(cK:ag[0]? = some t)(bK:rj P t=some e)(au:jR P e=some s)(dc:nY P e=some z)(a5:(Nat.beq (jq z) s&&ye P e&&(!rm P (g3 ag.toList 1)&&acS P (g3 ag.toList 1)))=true){r:fc}(M:dn s h U x y = .ok r)(aX:bJ ai x dN)(cd:bJ ai y il)(o8:TypeId):
  iV P B ai (u h) w U r (do pure (.value (<-Builtin.append_ ag o8 #[dN,il]))):=by
 simp only[eA,Nd]at a5;obtain⟨⟨E,I⟩,A,D⟩:=a5;have eI:=EQ bK;obtain⟨i,z,aj,wV,mo,rfl⟩:=zF dc;have E:z.cells.toList.length=s:=gE E;have I:=V9 aj I;unfold dn at M
 split at M
 ·split at M
  ·obtain⟨new,hk,N,V⟩:=VN  ba cd J M;obtain⟨cr,c'',rfl,_⟩:=cd.xZ;refine Wv ba bD.here aX N aj wV E au I mo hk cK eI o8 (.inr ⟨?_,λ_=>rfl,V⟩);unfold rm at A;rw[ja]at A D;have bd:ag.toList[1]? = ag[1]?:=by simp
   rw[bd]at A D;cases Z:ag[1]? with
   |none=>grind
   |some t1 =>
    rw[Z]at A D;obtain⟨d,bs⟩:=lI.1 D
    grind
  ·cases M
 ·cases M
theorem zM{o:Oper}{k:ng}(A:oV P o.op=some k):∀c,o.op≠.defer c:=λc h=>by rw[h]at A;cases A
theorem Yw{aC:Act}(ba:ec B ai (u h) w)(bD:jY ai U)(o:Oper)(M:Loc ai ak a.tmps o.op.operands){e:vB}(D:oV P o.op=some (.fz e))(A:o7 P false e ak h U K)(bw:yj B ai h w U K o.dst aC next):
  o.uponIn (nh r) n P aC next Q ((o.semAt r a.eval).run P w):=by
 rw[Oper.semAt_eq r a.eval o (zM D)];have ex:∀{op:Op},o.op=op->execOp a.eval o=execOp a.eval { o with op:=op }:=λh=>by rw[<-h]
 cases tO:o.op <;> rw[tO]at D M <;> rw[ex tO] <;> (try simp only[oV,jO,ma,x4,BS,reduceCtorEq,and_false,IW]at D)
 case store t x y =>
  obtain⟨m,bx,dN,V,il,ap,aW⟩:=D;cases aW;obtain⟨Bn,I,A⟩:=gf A;obtain⟨r0,g2,A⟩:=gf A;obtain⟨ab,dz,A⟩:=gf A;obtain⟨bc,N,kA⟩:=aqc (P:=P) ba U bx dz (M.ej (by simp[Op.operands]) V I) (M.ej (by simp[Op.operands]) ap g2);simp only[execOp,Sem.run_bind,N,Result.andThen_ok,Sem.run_pure];exact bw j7 ab U ai undef bc A te kA
 case mapUpdate t m k x =>
  split at D
  ·rename_i d0 zf eI
   simp only[jO,ma]at D;obtain⟨nd,V,cL,ap,dN,aH,aW⟩:=D;cases aW;obtain⟨H3,I,A⟩:=gf A;obtain⟨aCs,g2,A⟩:=gf A;obtain⟨Bn,dz,A⟩:=gf A;obtain⟨ab,dO,A⟩:=gf A;obtain⟨bc,N,bx⟩:=amq ba U eI dO (M.ej (by simp[Op.operands]) V I) (M.ej (by simp[Op.operands]) ap g2) (M.ej (by simp[Op.operands]) aH dz);simp only[execOp,Sem.run_bind,N,Result.andThen_ok,Sem.run_pure];exact bw j7 ab U ai undef bc A te bx
  ·cases D
 case range t x =>
  obtain⟨cK,dN,V,aW⟩:=D;cases aW;obtain⟨Bn,I,A⟩:=gf A;exact(aiL ba bD.here cK (M.ej (by simp[Op.operands]) V I) A).upon A bw
 case next it isS =>
  cases isS with
  |true=>cases D
  |false =>
   obtain⟨dN,V,aW⟩:=ma.1 D;cases aW;obtain⟨Bn,I,A⟩:=gf A;obtain⟨d7,ab,bo,bT,bc,hm,aI,bx,N⟩:=aqd (P:=P) ba U (M.ej (by simp[Op.operands]) V I) A o.type;simp only[execOp,Sem.run_bind,N,Result.andThen_ok,Sem.run_pure];exact bw d7 ab U bo bT bc hm aI bx
 case makeMap t r=>cases r <;> cases D
 case call c =>
  obtain⟨jf,V,D⟩:=D;have aX:∀x∈c.args.toList,x∈(Op.call c).operands:=λx aX=>by simp only[Op.operands,Call.operands];grind
  have Au:c.args.map a.eval=⟨c.args.toList.map a.eval⟩:=aa
  unfold execOp
  split at D
  ·rename_i f E
   obtain⟨ni,ap,aW⟩:=ma.1 D;simp only[BS,ng.fz.injEq]at aW;subst aW;have AN:f∈(Op.call c).operands:=by simp only[Op.operands,Call.operands,E];simp
   simp only[resolve,E,Au];unfold aas at A
   split at A
   ·obtain⟨aJ,I,A⟩:=gf A;refine Ww ba bD (f:=.func (.func _) ⟨[]⟩ ⟨[]⟩) ?_ (M.vm aX V I) (M.ej AN ap rfl) bw;have A:kT P _ aJ h U K:=A;show kT P _ (kP [] (kP aJ [])) h U K;simpa[kP]using A
   ·obtain⟨km,g2,A⟩:=gf A;obtain⟨aJ,I,A⟩:=gf A;exact Ww ba bD A (M.vm aX V I) (M.ej AN ap g2) bw
  ·rename_i f m E
   obtain⟨ni,ap,aW⟩:=ma.1 D;simp only[BS,ng.fz.injEq]at aW;subst aW;have AN:f∈(Op.call c).operands:=by simp only[Op.operands,Call.operands,E];simp
   obtain⟨aJ,I,A⟩:=gf A;obtain⟨km,g2,A⟩:=gf A;simp only[resolve,E,Au];exact aif ba bD A (M.vm aX V I) (M.ej AN ap g2) bw
  ·rename_i b E
   obtain⟨Z,mp⟩:=No (bo:=a.eval) E o.type;simp only[mp,Au];unfold Dr at D
   split at D
   ·split at D
    ·obtain⟨t,_,D⟩:=jO.1 D
     split at D <;> cases D
    ·cases D
   ·split at D <;> cases D
   ·split at D <;> cases D
   ·split at D
    ·simp at D
    ·cases D
   ·cases Av:rm P (g3 c.argTypes.toList 1)with
    |true =>
     rw[Av]at D;cases D;obtain⟨aJ,I,A⟩:=gf A;obtain⟨x,a1,A⟩:=RX A;exact(Wa ba bD a1 (M.vm aX V I) o.type Z).upon A bw
    |false =>
    rw[Av]at D;simp only[mN,jO,x4]at D;obtain⟨t,cK,zf,bK,s,jE,z,dc,awp,D⟩:=D
    split at D
    ·cases D;obtain⟨Bn,I,A⟩:=gf A;obtain⟨r0,g2,A⟩:=gf A;obtain⟨x,a1,A⟩:=RX A;obtain⟨g8,iZ,d6,gV,aP⟩:=M.As aX V I g2;rw[aP];rw[ja]at cK;exact(aqf ba bD (ag:=c.argTypes) aa bK jE dc (by rw[Av];exact awp) a1 d6 gV o.type).upon A bw
    ·cases D
   ·cases D;obtain⟨aJ,I,A⟩:=gf A;obtain⟨x,a1,A⟩:=RX A;exact(Wa ba bD a1 (M.vm aX V I) o.type Z).upon A bw
 all_goals (split at D <;> simp[jO]at D)
end
end
def at4(Q:Exit->Act->World->Prop):Exit->Act->World->Prop
 | .goto _,_,_=>False
 |e,a,w=>Q e a w
theorem aiO{n:Nat}{P:Program}{Q:Exit->Act->World->Prop}{a:Act}{w:World}{c:Code}(h:c.wpIn eL n P (at4 Q) a w):(Code.scope c).wpIn eL n P Q a w:=by
 intro b k cs Z N V;have E:step P (lone (b.atR a (.code (.scope c)::k)) cs w) = .next (lone (b.atR a (.code c::.inScope c::k)) cs w):=step_lone_go (by simp[stepG,stepG.exec,Frame.atR]);have nk:∀a w,step P (lone (b.atR a (.inScope c::k)) cs w) = .next (lone (b.atR a k) cs w):=λa w=>step_lone_go (by simp[stepG,stepG.exec,Frame.atR]);have I:(lone (b.atR a (.code (.scope c)::k)) cs w).fenced P eL:=fenced_calm N V rfl;obtain⟨e,M,n4,D,A⟩:=h b (.inScope c::k) cs Z N V;cases e with
 |normal=>exact⟨.normal,M,n4,D,.head I E (StepsIn.trans A (.one (fenced_calm N V rfl) aa))⟩
 |exit id =>
  have aX:exitTo id (.inScope c::k)=exitTo id k:=by simp[exitTo]
  exact⟨.exit id,M,n4,D,λdw hk=>.head I E (A.1 dw aa),
   λLp hk=>let ⟨ayC,h1,ap⟩:=A.2 Lp aa;⟨ayC,h1,.head I E ap⟩⟩
 |goto l=>exact D.elim
 |ret=>exact⟨_,M,n4,D,.of_steps (.one I E) A⟩
 |panic j0=>exact⟨_,M,n4,D,.of_steps (.one I E) A⟩
 |outgrown=>exact⟨_,M,n4,D,.of_steps (.one I E) A⟩
theorem aiP{n:Nat}{P:Program}{Q:Exit->Act->World->Prop}{c:Code}(eG:Nat->Act->World->Prop)(round:∀m a w,eG m a w->c.wpIn eL n P (Exit.then (λI bc=>∃bR,bR<m/\eG bR I bc) Q) a w){a:Act}{w:World}(ayD:eG m a w):(Code.loop c).wpIn eL n P Q a w:=by
 intro b k cs hro Z ba;have key:∀j a w,eG j a w ->
   ∃e I bc,Q e I bc/\ArrivesIn (Machine.fenced P eL) P (lone (b.atR a (.code c::.inLoop c::k)) cs w) b k cs e I bc:=by
  intro j
  induction j using Nat.strongRecOn with
  |_ j fb =>
   intro a w mD;obtain⟨e,M,n4,D,A⟩:=round j a w mD b (.inLoop c::k) cs hro Z ba;cases e with
   |normal =>
    obtain⟨bR,N,V⟩:=D;obtain⟨ayE,ayF,ayG,awq,E⟩:=fb bR N M n4 V;exact⟨ayE,ayF,ayG,awq,.of_steps (StepsIn.trans A (.one (fenced_calm Z ba rfl) stepR_inLoop)) E⟩
   |exit id=>exact⟨_,M,n4,D,.pass  rfl aa A⟩
   |goto l=>exact⟨_,M,n4,D,.pass  rfl aa A⟩
   |ret=>exact⟨_,M,n4,D,.pass  rfl aa A⟩
   |panic j0=>exact⟨_,M,n4,D,.pass  rfl aa A⟩
   |outgrown=>exact⟨_,M,n4,D,.pass  rfl aa A⟩
 obtain⟨e,I,bc,D,A⟩:=key _ a w ayD;exact⟨e,I,bc,D,.of_steps (.one (fenced_calm Z ba rfl) stepR_loop) A⟩
section
variable {P:Program} {ai:cc} {B:Nat}
theorem Act.Ox(a:Act)(dst:ay Tmp)(v:X):(a.put dst v).tmps.size=a.tmps.size:=by
 cases dst <;> simp[Act.put]
theorem Act.Wb(a:Act)(dst:ay Tmp)(v:X):(a.put dst v).defers=a.defers:=by
 cases dst <;> rfl
theorem E6(a:Nat)(o:ay X)(ak:ck)(n:Nat):hv ((a,o)::ak) n=if a=n then some o else hv ak n:=by
 show(bif Nat.beq a n then some o else hv ak n)=_
 by_cases e:a=n
 ·subst e;simp
 ·have:Nat.beq a n=false:=by
   cases A:Nat.beq a n with
   |false=>rfl
   |true=>exact absurd (gE A) e
  simp[this,e]
theorem ju.put{ak:ck}{a:Act}(h:ju ai ak a.tmps){dst:ay Tmp}{v:ay X}{c:X}(N:bJ ai (rq v) c)(I:∀d,dst=some d->d<a.tmps.size):ju ai (eB ak dst v) (a.put dst c).tmps:=by
 cases dst with
 |none=>exact h
 |some t =>
  intro d A D;have M:=I t rfl;show bJ ai (rq A) ((a.tmps.setIfInBounds t c).getD d undef);have D:hv ((t,v)::ak) d=some A:=D;rw[E6]at D
  by_cases e:t=d
  ·subst e;simp at D;subst D;simp[M];exact N
  ·rw[if_neg e]at D;have E:(a.tmps.setIfInBounds t c).getD d undef=a.tmps.getD d undef:=by simp[qh,zq,e]
   rw[E];exact h d A D
def tB(ak oX:ck):Prop:=∀d,hv oX d=hv ak d
theorem ju.same{A:ck}{t:Array X}(h:ju ai ak t)(s:tB ak A):ju ai A t:=λd v e=>h d v (by rw[<-s d];exact e)
theorem tB.lit(h:hv ak d=some (some v)):tB ak ((d,some v)::ak):=λk=>by
 rw[E6]
 by_cases e:d=k
 ·subst e;rw[if_pos rfl,h]
 ·rw[if_neg e]
theorem tr{a b:Prop}(h:bt v a b):(v = .bool true/\a)\/(v = .bool false/\b):=by
 unfold bt at h
 split at h
 ·split at h
  ·exact .inl ⟨rfl,h⟩
  ·exact .inr ⟨rfl,h⟩
 ·exact h.elim
noncomputable def u2 (g:ay (Nat × ao)) (ak:ck):ao:=match g with
 |none=>true
 |some (d,w)=>match hv ak d with
  |some (some (.bool b))=>b == w
  |_=>false
def Lq(g:ay (Nat × ao))(ak:ck):Prop:=∀d w,g=some (d,w)->hv ak d≠none
theorem ae0{I D:ck->Prop}(h:mB g ak I D):Lq g ak/\∃M,tB ak M/\((u2 g ak=true/\I M)\/(u2 g ak=false/\D M)):=by
 cases g with
 |none=>exact⟨λd w e=>(by cases e),ak,λ_=>rfl,.inl ⟨rfl,h⟩⟩
 |some g =>
  obtain⟨d,A⟩:=g;have h:(match hv ak d with
   |some (some v)=>bt v ((match A with|true=>I|false=>D) ((d,some (.bool true))::ak)) ((match A with|true=>D|false=>I) ((d,some (.bool false))::ak))
   |some none=>D ak
   |none=>False):=h
  unfold u2;cases E:hv ak d with
  |none=>rw[E]at h;exact h.elim
  |some v =>
   refine⟨λN w e=>by cases e;simp[E],?_⟩;rw[E]at h;cases v with
   |none=>exact⟨ak,λ_=>rfl,.inr ⟨by simp[E],h⟩⟩
   |some v =>
    rcases tr h with⟨rfl,h⟩|⟨rfl,h⟩
    ·refine⟨_,tB.lit E,?_⟩;cases A with
     |true=>exact .inl ⟨by simp[E],h⟩
     |false=>exact .inr ⟨by simp[E],h⟩
    ·refine⟨_,tB.lit E,?_⟩;cases A with
     |true=>exact .inr ⟨by simp[E],h⟩
     |false=>exact .inl ⟨by simp[E],h⟩
theorem Xk{a8:Array Oper}{tmps:Array X}{o:Oper}(E:zd a8.toList o.guard=some g)(Z:Lq g ak)(fe:∀d w v,g=some (d,w)->hv ak d=some v->bJ ai (rq v) (tmps.getD d undef)):
  Region.wanted o (yielded a8 tmps)=u2 g ak:=by
 unfold zd at E
 split at E
 ·rename_i N
  cases E;unfold Region.wanted;rw[N];rfl
 ·rename_i j A N
  simp only[jO,ma]at E;obtain⟨aCu,V,d,bs,e⟩:=E;cases e;rw[ja]at V;have bV:Region.wanted o (yielded a8 tmps)=(yielded a8 tmps j == some A):=by unfold Region.wanted;rw[N]
  have cd:yielded a8 tmps j=(match tmps.getD d undef with | .bool b=>some b|_=>none):=by
   unfold yielded;have M:a8[j]? = some aCu:=by simpa using V
   simp only[M,Option.bind_some,bs];cases aX:tmps[d]? with
   |none =>
    have:tmps.getD d undef=undef:=aa
    rw[this];rfl
   |some x =>
    have:tmps.getD d undef=x:=by simp[qh,aX]
    rw[this];cases x <;> rfl
  rw[bV,cd];unfold u2;cases I:hv ak d with
  |none=>exact absurd I (Z d A rfl)
  |some v =>
   have D:=fe d A v rfl I;cases v with
   |none =>
    generalize tmps.getD d undef=c at D;have D:bJ ai j7 c:=D;cases D with|tuple h=>cases h;simp only[I];rfl
   |some v =>
    simp only[I];generalize tmps.getD d undef=c at D;have D:bJ ai v c:=D;cases D <;> first|rfl|(rename_i b;cases b <;> cases A <;> rfl)
def px(L B:Nat)(ai:cc)(H:fm)(w:World):ac Deferred->Prop
 | []=>True
 |d::bu=>(∃r,L<=r/\d.target = .collected r/\w.heap[r]? = some (.deferred (some []))/\¬wE B ai H r/\∀H6∈bu,H6.target≠.collected r)/\px L B ai H w bu
theorem px.h6{L:Nat}{H gA:fm}{w bc:World}{al aj:Nat}{bo:cc}(s:cC B ai H w al aj bo gA bc):∀{D:ac Deferred},px L B ai H w D->px L B bo gA bc D
 | [],_=>trivial
 |d::D,⟨⟨r,N,Z,ap,E,I⟩,M⟩=>by
  have A:r<w.heap.size:=aa
  exact⟨⟨r,N,Z,by rw[s.frame r A E];omega,λV=>(s.own r V).elim E J,I⟩,px.h6 s M⟩
inductive aBC where
 |normal
 |exit (id:Nat)
 |ret
def ayH:aBC->Exit
 | .normal=>.normal
 | .exit i=>.exit i
 | .ret=>.ret
structure oA (L B:Nat) (ai:cc) (ak:ck) (h:ae) (U:Nat) (a:Act) (w:World):Prop where
 rel:ec B ai (u h) w
 fB:jY ai U
 iD:ju ai ak a.tmps
 marks:px L B ai (u h) w a.defers
 low:L<=w.heap.size
abbrev Lr:=aBC->ck->ae->Nat->Prop
def uX(L B:Nat)(ai:cc)(h:ae)(w:World)(U sX:Nat)(K:Lr)(Q:Exit->Act->World->Prop):Prop :=
 ∀x oX ab Y bo ev bc,K x oX ab Y->cC B ai (u h) w U Y bo (u ab) bc->oA L B bo oX ab Y ev bc->ev.tmps.size=sX->Q (ayH x) ev bc
theorem oA.put{L:Nat}{ak:ck}{h ab:ae}{U Y:Nat}{a:Act}{w bc:World}{bo:cc}(s:oA L B ai ak h U a w)(A:cC B ai (u h) w U Y bo (u ab) bc){dst:ay Tmp}{v:ay X}{c:X}(E:bJ bo (rq v) c)(D:∀d,dst=some d->d<a.tmps.size):
  oA L B bo (eB ak dst v) ab Y (a.put dst c) bc :=
 ⟨A.rel,s.fB.after A,ju.put (s.iD.mono (s.fB.sub A)) E D,by rw[Act.Wb];exact s.marks.h6 A,hJ s.low A.size⟩
theorem uX.after{h:ae}{U:Nat}{w:World}{K:Lr}{Q:Exit->Act->World->Prop}(bn:uX L B ai h w U sX K Q)(bx:cC B ai (u h) w U Y bo (u ab) bc):uX L B bo ab bc Y sX K Q :=
 λx D N A Z E M hk I au V=>bn x D N A Z E M hk (bx.trans I) au V
theorem uX.mono{h:ae}{U:Nat}{w:World}{K kH:Lr}{Q:Exit->Act->World->Prop}(D:uX L B ai h w U sX K Q)(A:∀x ak h U,kH x ak h U->K x ak h U):uX L B ai h w U sX kH Q :=
 λx ak h U ai a w E=>D x ak h U ai a w (A _ _ _ _ E)
theorem at5{s:ao}{d:ay Nat}{e:H2}{h:ae}{U:Nat}{k:ck->ae->Nat->Prop}(A:nH P s d (.fy e) ak h U k):∃v,pC P ak e = .ok v/\k (eB ak d (some v)) h U:=by
 have g:af (pC P ak e) (λv=>k (eB ak d (some v)) h U):=by
  cases e <;> first|exact A|skip
  obtain⟨c,E,A⟩:=gf A;obtain⟨a,I,A⟩:=gf A;obtain⟨b,D,A⟩:=gf A;simp only[pC,E,I,D,R.bind];rcases tr A with⟨rfl,A⟩|⟨rfl,A⟩ <;> exact A
 exact gf g
theorem aqg{n:Nat}{r:ay Nat}{Q:Exit->Act->World->Prop}{h:ae}{U:Nat}{a:Act}{w:World}(D:oA L B ai ak h U a w){o:Oper}{k:ng}(I:oV P o.op=some k){K:ck->ae->Nat->Prop}(E:nH P false o.dst k ak h U K){next:Act->World->Prop}(V:yj B ai h w U (λv h U=>K (eB ak o.dst (some v)) h U) o.dst a next):o.uponIn (nh r) n P a next Q ((o.semAt r a.eval).run P w):=by
 have N:=D.iD.loc o.op.operands;cases k with
 |fz e =>
  have E:o7 P false e ak h U λv h U=>K (eB ak o.dst (some v)) h U:=E;exact Yw D.rel D.fB o N I E V
 |fy e =>
  obtain⟨v,M,E⟩:=at5 E;rw[Oper.semAt_eq r a.eval o (zM I)];obtain⟨c,aI,A⟩:=aaw o N I M;rw[A w];exact V v h U ai c w E aI (cC.refl U D.rel)
 |red e =>
  obtain⟨v,M,E⟩:=gf E;rw[Oper.semAt_eq r a.eval o (zM I)];obtain⟨c,aI,A⟩:=aaz D.rel o N I M;rw[A];exact V v h U ai c w E aI (cC.refl U D.rel)
 |ix e =>
  obtain⟨cZ,M,E⟩:=gf E;rw[Oper.semAt_eq r a.eval o (zM I)];obtain⟨dC,p,bc,G9,Z,bx,A⟩:=aax o N I M w;obtain⟨h1,ap⟩:=Lk.step D.rel D.fB.here G9 Z bx;rw[A];rw[<-uM]at h1;exact V _ _ _ _ _ bc E ap h1
theorem aaA{n:Nat}{o:Oper}{A:ac Oper}(h:wk n A=true)(D:o∈A):∀d,o.dst=some d->d<n:=λd E=>by have:=BT.1 h o D;rw[E]at this;simpa[vU]using this
theorem acV{L:Nat}{a8:Array Oper}{n:Nat}{r:ay Nat}{Q:Exit->Act->World->Prop}{K:ck->ae->Nat->Prop}:
  ∀(I:ac Oper) (is:ac lV) (k:Nat),a8.toList.drop k=I->KM P a8.toList I=some is->∀{ai:cc} {ak:ck} {h:ae} {U:Nat} {a:Act} {w:World},p2 P false is ak h U K->oA L B ai ak h U a w ->
   wk a.tmps.size I=true->uX L B ai h w U a.tmps.size (λx ak h U=>x = .normal/\K ak h U) Q->wpOpsIn (nh r) n P a8 Q (List.range' k I.length) a w
 | [],is,k,hk,a5,ai,ak,h,U,a,w,M,A,_,bn=>by cases a5;exact bn .normal ak h U ai a w ⟨rfl,M⟩ (cC.refl U A.rel) A rfl
 |o::I,is,k,hk,a5,ai,ak,h,U,a,w,M,A,D,bn=>by
  have hko:a8[k]? = some o:=by
   have:(a8.toList.drop k)[0]? = some o:=aa
   grind
  have tQ:a8.toList.drop (k+1)=I:=by have:=congrArg (List.drop 1) hk;simpa[xO]using this
  simp only[KM,agt,jO,ma]at a5;obtain⟨_,⟨g,bd,hn,sD,rfl⟩,N,Ha,rfl⟩:=a5;have bs:=aaA D (o:=o) (by simp);have awr:wk a.tmps.size I=true:=by simp only[wk,List.all_cons,eA]at D ⊢;exact D.2
  have step:∀{bo:cc} {Z:ck} {v:ay X} {c:X} {ab:ae} {Y:Nat} {bc:World},tB ak Z->p2 P false N (eB Z o.dst v) ab Y K->bJ bo (rq v) c->cC B ai (u h) w U Y bo (u ab) bc ->
    wpOpsIn (nh r) n P a8 Q (List.range' (k+1) I.length) (a.put o.dst c) bc:=λE ls aI bx=>by
   refine acV I N (k+1) tQ Ha ls (oA.put ⟨A.rel,A.fB,A.iD.same E,A.marks,A.low⟩ bx aI bs) ?_ ?_
   ·rw[Act.Ox];exact awr
   ·rw[Act.Ox];exact bn.after bx
  rw[show(o::I).length=I.length+1 from rfl,List.range'_succ];simp only[wpOpsIn,hko];have M:mB g ak (λak=>nH P false o.dst hn ak h U λak h U=>p2 P false N ak h U K) (λak=>p2 P false N (eB ak o.dst none) h U K):=M;obtain⟨Hb,Z,E,oQ⟩:=ae0 M;have V:=Xk (ai:=ai) (tmps:=a.tmps) bd Hb (λd w v _ aI=>A.iD d v aI);rcases oQ with⟨bV,M⟩|⟨bV,M⟩ <;> rw[bV]at V
  ·simp only[V,if_true];refine⟨λ_ _=>trivial,?_⟩;exact aqg ⟨A.rel,A.fB,A.iD.same E,A.marks,A.low⟩ sD M λv ab Y bo c bc hk aI bx=>step (v:=some v) E hk aI bx
  ·simp only[V,np,ff];exact⟨λ_ _=>trivial,step E M te (cC.refl U A.rel)⟩
end
end Go.Ax
