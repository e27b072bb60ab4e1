/- Code over an abstract heap aS0 formulas, and their soundness: no condition. -/
import GoSem.Dispatch
import GoSem.ClaimKeys
import GoSem.ClaimWide
import Derived.RangeFuncLeaves
import Derived.OrdersIn
import Derived.Laws.Cells
import Derived.Laws.CopyRow
import Derived.DeepKeys3
import Derived.Laws.Pointers
set_option linter.all false
set_option maxHeartbeats 1000000
namespace Go.Ax
open Go
abbrev X:=Value
instance cVq:Coe Int X:=⟨λx=>.int .i64 x⟩
instance cWq:Coe Nat X:=⟨λx=>.int .i64 (x:Int)⟩
abbrev bd(p:Nat):Value:=.pointer (some ⟨p,0,none⟩)
abbrev aa:=@List
abbrev aw:=@Option
abbrev al:=Bool
def y7:=@Array.foldl_toList
def p1:=@Array.getD_eq_getD_getElem?
def Ih:=@Array.getElem?_eq_some_iff
def Ij:=@Array.getElem?_modify
def y2:=@Array.getElem?_setIfInBounds
def Ek:=@Array.length_toList
def xl:=@Array.mk.injEq
def eC:=@Bool.and_eq_true
def zc:=@Bool.eq_iff_iff
def nH:=@Bool.false_eq_true
def MQ:=@Bool.not_eq_true'
def vw:=@Classical.byContradiction
def Ix:=@Classical.em
def By:=@Int.eq_ofNat_of_zero_le
def BL:=@Int.le_refl
def Iy:=@Int.le_trans
def vy:=@Int.natCast_add
def Ip:=@Int.toNat_natCast
def Il:=@List.Pairwise.filter
def MK:=@List.Pairwise.of_cons
def BH:=@List.Perm.refl
def BF:=@List.all_eq_true
def xk:=@List.any_eq_true
def kv:=@List.append_assoc
def hZ:=@List.append_nil
def vz:=@List.cons.injEq
def MT:=@List.cons_append
def MU:=@List.drop_append
def Ie:=@List.drop_append_of_le_length
def xm:=@List.drop_drop
def Bw:=@List.drop_eq_getElem_cons
def MI:=@List.drop_eq_nil_of_le
def Ig:=@List.drop_length_add_append
def MJ:=@List.drop_of_length_le
def MN:=@List.drop_succ_cons
def Ew:=@List.drop_take
def pb:=@List.drop_zero
def Bv:=@List.eq_nil_of_length_eq_zero
def oq:=@List.ext_getElem?
def t6:=@List.filter_append
def Iq:=@List.filter_congr
def qQ:=@List.filter_cons
def y3:=@List.filter_eq_nil_iff
def y6:=@List.filter_eq_self
def Im:=@List.flatMap_append
def Es:=@List.foldl_cons
def BB:=@List.getElem?_append
def xf:=@List.getElem?_append_left
def Ei:=@List.getElem?_append_right
def xh:=@List.getElem?_drop
def kL:=@List.getElem?_eq_getElem
def t5:=@List.getElem?_eq_none
def hY:=@List.getElem?_eq_some_iff
def rT:=@List.getElem?_map
def BC:=@List.getElem?_of_mem
def xg:=@List.getElem?_range
def y9:=@List.getElem?_set
def xi:=@List.getElem?_take
def El:=@List.getElem_of_mem
def Ii:=@List.getLast?_eq_some_iff
def jm:=@List.length_append
def nJ:=@List.length_cons
def Ep:=@List.length_drop
def y4:=@List.length_filter_le
def gH:=@List.length_map
def Et:=@List.length_nil
def Em:=@List.length_pos_iff
def vx:=@List.length_range
def Eu:=@List.length_set
def p3:=@List.length_take
def BI:=@List.mapM_cons
def iF:=@List.map_append
def o9:=@List.map_congr_left
def t9:=@List.map_cons
def Ez:=@List.map_id
def ot:=@List.map_map
def zd:=@List.map_nil
def hb:=@List.mem_append
def BD:=@List.mem_append_left
def ML:=@List.mem_append_right
def g5:=@List.mem_cons
def mx:=@List.mem_cons_of_mem
def nI:=@List.mem_cons_self
def pa:=@List.mem_filter
def Ej:=@List.mem_iff_getElem?
def f0:=@List.mem_map
def k4:=@List.mem_of_getElem?
def BJ:=@List.mem_range
def iP:=@List.mem_singleton
def sU:=@List.nil_append
def MR:=@List.nodup_append
def sT:=@List.not_mem_nil
def sS:=@List.pairwise_append
def t7:=@List.pairwise_cons
def Bx:=@List.pairwise_iff_getElem
def xj:=@List.pairwise_map
def p4:=@List.range_succ
def sR:=@List.rel_of_pairwise_cons
def En:=@List.replicate_succ
def Ik:=@List.set_append_right
def Vi:=@List.set_eq_take_append_cons_drop
def hx:=@List.take_add_one
def If:=@List.take_append_of_le_length
def iQ:=@List.take_length
def o8:=@List.take_of_length_le
def Eo:=@List.take_succ_cons
def t8:=@List.take_zero
def vA:=@Nat.add_assoc
def ze:=@Nat.add_mul
def MO:=@Nat.add_sub_cancel
def MG:=@Nat.add_sub_cancel_left
def nK:=@Nat.add_zero
def In:=@Nat.and_one_is_mod
def ua:=@Nat.beq_refl
def sW:=@Nat.ble_eq
def BA:=@Nat.ble_eq_true_of_le
def vB:=@Nat.blt_eq
def MV:=@Nat.div_eq_of_lt
def MM:=@Nat.div_lt_iff_lt_mul
def gG:=@Nat.eq_of_beq_eq_true
def y5:=@Nat.eq_of_testBit_eq
def y8:=@Nat.eq_zero_or_pos
def MW:=@Nat.le_add_right
def Bz:=@Nat.le_mul_of_pos_right
def l0:=@Nat.le_of_ble_eq_true
def cD:=@Nat.le_refl
def sV:=@Nat.le_succ
def hy:=@Nat.le_trans
def Io:=@Nat.lt_of_lt_of_le
def ME:=@Nat.lt_of_mul_lt_mul_right
def Er:=@Nat.lt_of_not_le
def jn:=@Nat.lt_or_ge
def Ir:=@Nat.lt_succ_self
def za:=@Nat.lt_trichotomy
def BG:=@Nat.min_eq_left
def Is:=@Nat.mod_eq_of_lt
def zf:=@Nat.mod_lt
def xn:=@Nat.mul_comm
def MH:=@Nat.mul_div_cancel_left
def xo:=@Nat.mul_eq
def rU:=@Nat.mul_le_mul
def p2:=@Nat.mul_le_mul_right
def EA:=@Nat.mul_one
def Iv:=@Nat.not_lt_zero
def ub:=@Nat.one_mul
def BK:=@Nat.sub_self
def Ey:=@Nat.succ_mul
def Iw:=@Nat.testBit_and
def Ex:=@Nat.testBit_or
def It:=@Nat.testBit_succ
def iR:=@Nat.zero_add
def l1:=@Nat.zero_mul
def kw:=@Ne.symm
def jC:=@Option.bind_eq_some_iff
def Iu:=@Option.getD_some
def mX:=@Option.isSome_iff_exists
def BE:=@Option.isSome_none
def MP:=@Option.isSome_some
def lZ:=@Option.map_eq_some_iff
def Ev:=@Option.map_some
def MF:=@Option.ne_none_iff_exists'
def zb:=@Option.some.injEq
def ia:=@and_true
def rS:=@beq_eq_false_iff_ne
def uc:=@beq_iff_eq
def qR:=@beq_self_eq_true
def my:=@cond_false
def p5:=@cond_true
def hl:=@decide_eq_false
def g4:=@decide_eq_true
def MS:=@decide_eq_true_eq
def Iz:=@exists_false
def fa:=@if_false
def j7:=@not_false_eq_true
def j8:=@or_false
theorem J{p:Prop}(h:p:=by omega):p:=h
theorem ab{p:Prop}(h:p:=by grind):p:=h
variable {t:TypeId} {v x dD:X} {e:TypeId} {cs:aa X} {c:X} {l:aa X} {ag:Array TypeId} {a9:World} {y:X} {b:Nat} {k h3:X} {args:aa X} {bL:aw Nat} {b6 aE:aa X} {dg:aa MapEntry} {i:Nat} {es:aa MapEntry} {ao aj:Nat} {e4:Type} {dst:aw Tmp} {g:aw (Nat × al)} {len:Nat} {z:X} {L:Nat} {f:FuncId} {a4:Array Operand} {d6 dy KZ iJ:aw X} {xs:aa Operand} {q:IntKind} {dM:TypeId} {new:aa X} {bC aO:aw Nat} {cE n4:X} {jF m off cap:Nat} {dm:IntKind} {d:Nat} {nS:World} {n5:X} {bJ ok:al} {dK:Fence} {Y sF:Nat}
section
variable {az:Type}
def gU(l:aa az)(n:Nat):aw az:=l[n]?
def m6(l:aa az)(n:Nat):aa az:=l.drop n
def kz(l k:aa az):aa az:=l++k
def jo(l:aa az):Nat:=l.length
def m9(aE l:aa az)(n:Nat):aw (aa az):=if n+aE.length<=l.length then some (l.take n++(aE++l.drop (n+aE.length)))else none
def na(n:Nat)(l:aa az):aw (aa az):=if n<=l.length then some (l.take n)else none
theorem iS(l:aa az)(n:Nat):gU l n=l[n]?:=rfl
theorem rW(l:aa az)(n:Nat):m6 l n=l.drop n:=rfl
theorem ka(l k:aa az):kz l k=l++k:=rfl
theorem ou(l:aa az):jo l=l.length:=rfl
theorem s3(aE l:aa az)(n:Nat):m9 aE l n=if n+aE.length<=l.length then some (l.take n++(aE++l.drop (n+aE.length)))else none:=rfl
theorem q1(n:Nat)(l:aa az):na n l=if n<=l.length then some (l.take n)else none:=rfl
end
inductive R (az:Type) where
 |ok (x:az)
 |no (why:String)
def R.bind{az e4:Type}(r:R az)(f:az->R e4):R e4:=R.casesOn r (λx=>f x) (λw=>.no w)
def R.of{az e4:Type}(w:String)(r:aw az)(f:az->R e4):R e4:=Option.casesOn r (.no w) (λx=>f x)
def af{az:Type}(r:R az)(k:az->Prop):Prop:=match r with
 | .ok v=>k v
 | .no _=>False
def jP:X:=.tuple #[]
abbrev cc:=aa (Nat × aw X)
noncomputable section
def hc(ak:cc)(n:Nat):aw (aw X):=List.rec none (λp _ eO=>bif Nat.beq p.1 n then some p.2 else eO) ak
end
def eu(ak:cc)(d:aw Nat)(v:aw X):cc:=match d with
 |some d=>(d,v)::ak
 |none=>ak
def ra(v:aw X):X:=match v with|some v=>v|none=>jP
inductive gh where
 |cells (cs:List Value) (bJ:Bool)
 |map (es:List MapEntry) (azD:Nat)
 |iter (m:Option Nat) (CB:Nat) (seen:List Nat) (azz:Nat)
 |loop (st:Nat) (Gm:Option Code) (lK:cc) (params:List Nat) (assign body:Code)
abbrev fk:=Nat->aw gh
abbrev ae:=fk
def u(h:ae)(b:Nat):aw gh:=h b
def T(h:ae)(b:Nat)(o:gh):ae:=λk=>if k=b then some o else h k
def x1(h:ae)(b:Nat):ae:=λk=>if k=b then none else h k
variable {ak:cc} {H hj:fk} {ac:ae} {aX:gh} {Ks:fk}
theorem zk(h:ae)(b:Nat)(o:gh)(k:Nat):u (T h b o) k=if k=b then some o else u h k:=rfl
theorem Nv(h:ae)(b:Nat)(k:Nat):u (x1 h b) k=if k=b then none else u h k:=rfl
def qa:X->al
 | .bool _=>true | .int _ _=>true | .string _=>true | .pointer none=>true | .slice none _ _=>true | .map none=>true | .nilFunc=>true | .nilIface=>true
 | .func (.func _) ⟨[]⟩ ⟨[]⟩=>true
 |_=>false
def il:aa X->al
 | []=>true
 |x::xs=>qa x&&il xs
def ux:X->al
 | .agg ⟨l⟩=>il l
 | .tuple ⟨l⟩=>il l
 |v=>qa v
def dh:X->aa X
 | .agg cs=>cs.toList
 |v=>[v]
def la(a b:Int):al:=Int.casesOn a (λm=>Int.casesOn b (λn=>Nat.blt m n) (λ_=>false)) (λm=>Int.casesOn b (λ_=>true) (λn=>Nat.blt n m))
def fz(a b:Int):al:=Int.casesOn a (λm=>Int.casesOn b (λn=>Nat.beq m n) (λ_=>false)) (λm=>Int.casesOn b (λ_=>false) (λn=>Nat.beq n m))
def Gn:IntKind->Nat
 | .i64=>9223372036854775808 | .u64=>0 | .i32=>2147483648 | .u32=>0 | .i16=>32768 | .u16=>0 | .i8=>128 | .u8=>0
def x2:IntKind->Nat
 | .i64=>9223372036854775808 | .u64=>18446744073709551616 | .i32=>2147483648 | .u32=>4294967296 | .i16=>32768 | .u16=>65536 | .i8=>128 | .u8=>256
def zC(k:IntKind)(a:Nat):Int:=bif Nat.blt a (x2 k)then .ofNat a else k.wrap (.ofNat a)
def asN(k:IntKind)(a:Nat):Int:=bif Nat.blt a (Gn k)then .negSucc a else k.wrap (.negSucc a)
def ta(k:IntKind)(n:Int):Int:=Int.casesOn n (λa=>zC k a) (λa=>asN k a)
def kix:IntKind->Nat
 | .i8=>0 | .i16=>1 | .i32=>2 | .i64=>3 | .u8=>4 | .u16=>5 | .u32=>6 | .u64=>7
def mc(a b:IntKind):al:=Nat.beq (kix a) (kix b)
def und(P:Program)(t:TypeId):aw TypeDesc:=P.underlying t
def jG(P:Program)(t:TypeId):aw Nat:=Option.casesOn (P.info? t) none (λi=>some i.size)
def nM(P:Program)(t:TypeId):aw (aa X):=match P.info? t with
 |some i=>match i.zero with
  |some z=>bif ux z then some z.cells.toList else none
  |none=>none
 |none=>none
def Jr(P:Program)(t:TypeId):aw X:=match P.info? t with
 |some i=>match i.zero with
  |some z=>bif ux z then some z else none
  |none=>none
 |none=>none
def pj(P:Program)(t:TypeId):aw (aw Nat):=match P.underlying t,jG P t with
 |some (.struct _),some n=>some (some n)
 |some (.array _ _),some n=>some (some n)
 |some _,some _=>some none
 |_,_=>none
def Cl(P:Program)(t:TypeId):aw Nat:=match P.underlying t with
 |some (.slice e)=>jG P e
 |_=>none
def q2(P:Program)(t:TypeId):aw TypeId:=match P.underlying t with
 |some (.slice e)=>some e
 |_=>none
inductive wt where
 |slice (s:Nat)
 |array (n s:Nat)
def Kt(P:Program)(t:TypeId):aw wt:=match P.underlying t with
 |some (.slice e)=>match jG P e with|some s=>some (.slice s)|none=>none
 |some (.array n e)=>match jG P e with|some s=>some (.array n s)|none=>none
 |_=>none
def B3(P:Program)(t:TypeId)(i:Nat):aw (Nat × TypeId):=match P.underlying t with
 |some (.struct ds)=>match gU ds.toList i with
  |some f=>match jG P f.type with
   |some (_+1)=>some (f.offset,f.type)
   |_=>none
  |none=>none
 |_=>none
def cellsOf{e4:Type}(h:ae)(b:Nat)(k:aa X->al->R e4):R e4:=Option.casesOn (u h b) (.no "no such block")
 (λo=>gh.casesOn o (λcs bJ=>k cs bJ) (λ_ _=>.no "cells expected") (λ_ _ _ _=>.no "cells expected") (λ_ _ _ _ _ _=>.no "cells expected"))
def J9(r:aw (aa X)):R X:=Option.casesOn r (.no "load - out of block") (λl=>.ok (.agg ⟨l⟩))
def CC(r:aw X):R X:=Option.casesOn r (.no "load - out of block") (λv=>.ok v)
def h0(bL:aw Nat)(off:Nat)(cs:aa X):R X:=Option.casesOn bL (CC (gU cs off)) (λn=>J9 (na n (m6 cs off)))
def zP{e4:Type}(v:X)(k:Addr->R e4):R e4:=match v with
 | .pointer (some a)=>k a
 |_=>.no "address expected"
def gS:X->al
 | .agg _=>false
 | .tuple _=>false
 |_=>true
def ea:aa X->al
 | []=>true
 |x::xs=>bif gS x then ea xs else false
def qb(h:ae)(b off:Nat)(l:aa X):R ae :=
 cellsOf h b (λcs bJ=>Bool.casesOn bJ (bif ea l then R.of "write - out of block" (m9 l cs off) (λcs=>.ok (T h b (.cells cs false)))else .no "write - cells") (.no "write - read only"))
inductive fl where
 |val (v:Value) (h:ae) (U:Nat)
 |call (f:FuncId) (args:List Value) (h:ae) (U:Nat)
 |round (l:Nat) (args:List Value) (h:ae) (U:Nat)
 |no (why:String)
inductive kn where
 |ptr (o:gh)
 |slice (o:gh) (len cap:Nat)
 |map
def wu(U:Nat)(b:kn):X:=kn.casesOn b (λ_=>.pointer (some ⟨U,0,none⟩)) (λ_ len cap=>.slice (some ⟨U,0,none⟩) len cap) (.map (some U))
def sf(b:kn):gh:=kn.casesOn b (λo=>o) (λo _ _=>o) (.map [] 0)
def Fk(l:aa X):R kn:=bif ea l then .ok (.ptr (.cells l false))else .no "cells"
def vM(l:aa X)(len cap:Nat):R kn:=bif ea l then .ok (.slice (.cells l false) len cap)else .no "cells"
def I0(P:Program):aa Field->aw (aa (Nat × Nat))
 | []=>some []
 |f::ds=>match jG P f.type,I0 P ds with
  |some s,some r=>some ((f.offset,s)::r)
  |_,_=>none
def OQ(P:Program)(t:TypeId):aw (Nat->aw (Nat × Nat)):=match P.underlying t with
 |some (.struct ds)=>match I0 P ds.toList with
  |some cb=>some (gU cb)
  |none=>none
 |some (.array _ e)=>match jG P e with
  |some s=>some (λi=>some (Nat.mul i s,s))
  |none=>none
 |_=>none
def gI:Nat->aa X->aa X
 |0,_=>[]
 |n+1,z=>kz z (gI n z)
def bs(v:X):R X:=match v with
 | .pointer (some a)=>.ok (.pointer (some a))
 | .func (.func f) a b=>.ok (.func (.func f) a b)
 | .func (.yield f) a b=>.ok (.func (.yield f) a b)
 | .iface t x=>.ok (.iface t x)
 |_=>.no "nilCheck"
def QS(x y:Lit):al:=match x,y with
 | .bool a,.bool b=>a == b
 | .int j a,.int k b=>mc j k&&fz a b
 | .string a,.string b=>a == b
 | .nil,.nil=>true
 | .float j a,.float k b=>decide (j=k)&&Nat.beq a b
 |_,_=>false
def zD:aa Lit->aa Lit->al
 | [],[]=>true
 |x::xs,y::lL=>QS x y&&zD xs lL
 |_,_=>false
def K0(a b:aw (aa Lit)):aw al:=match a,b with
 |some a,some b=>some (zD a b)
 |_,_=>none
def sg(P:Program)(t:TypeId)(x y:X):aw al :=
 bif P.keyTypeAt 8 t&&(x.formed P t&&y.formed P t&&il (dh x)&&il (dh y))then K0 (P.keyLits 8 t (dh x)) (P.keyLits 8 t (dh y))else none
def vN(P:Program)(t:TypeId):al:=match P.underlying t with
 |some (.int _)=>true
 |_=>false
def JT(P:Program)(t:TypeId)(k:IntKind)(a:Int)(y:X):aw al:=match y with
 | .int dm b=>bif mc k dm&&vN P t then some (fz a b)else none
 |_=>none
def kP(P:Program)(t:TypeId)(x y:X):aw al:=match x with
 | .int k a=>JT P t k a y
 |x=>sg P t x y
def Fl(P:Program)(t:TypeId):al:=!(P.eqGuardType P.depth t)
def afz(a:al)(y:X):aw al:=match y with
 | .bool b=>some (a == b)
 |_=>none
def N1(P:Program)(t:TypeId):al:=match P.underlying t with|some .bool=>true|_=>false
def vO(P:Program)(t:TypeId):al:=match P.underlying t with|some (.pointer _)=>true|_=>false
def mY(P:Program)(t:TypeId):al:=match P.underlying t with|some (.slice _)=>true|_=>false
def q3(P:Program)(t:TypeId):al:=match P.underlying t with|some (.map _ _)=>true|_=>false
def Gp(a:aw Addr)(y:X):aw al:=match y with
 | .pointer b=>(match a,b with|none,b=>some b.isNone|some _,none=>some false|some _,some _=>none)
 |_=>none
def Ro(a:aw Addr)(y:X):aw al:=match y with
 | .slice b _ _=>(match a,b with|none,b=>some b.isNone|some _,none=>some false|some _,some _=>none)
 |_=>none
def afA(a:aw Nat)(y:X):aw al:=match y with
 | .map b=>(match a,b with|none,b=>some b.isNone|some _,none=>some false|some _,some _=>none)
 |_=>none
def oG(P:Program)(t:TypeId)(x y:X):aw al:=match x with
 | .bool a=>bif N1 P t then afz a y else none
 | .pointer a=>bif vO P t then Gp a y else none
 | .slice a _ _=>bif mY P t then Ro a y else none
 | .map a=>bif q3 P t then afA a y else none
 | .agg xs=>bif Fl P t then sg P t (.agg xs) y else none
 |_=>none
def iV(k:IntKind)(n:Int):R X:=.ok (.int k n)
def nP(b:al):R X:=.ok (.bool b)
def vT(op:BinOp)(k:IntKind)(a b:Int):R X:=bif la b 0 then .no "shift" else match op with
 | .shl=>iV k (ta k (a*2 ^ (min b.toNat k.bits)))
 | .shr=>iV k (a.fdiv (2 ^ (min b.toNat k.bits)))
 |_=>.no "shift"
def F5(op:BinOp)(k:IntKind)(a b:Int):R X:=match op with
 | .and=>iV k (k.wrap ((BitVec.ofInt k.bits a &&& BitVec.ofInt k.bits b).toNat))
 | .or=>iV k (k.wrap ((BitVec.ofInt k.bits a ||| BitVec.ofInt k.bits b).toNat))
 | .xor=>iV k (k.wrap ((BitVec.ofInt k.bits a ^^^ BitVec.ofInt k.bits b).toNat))
 | .andNot=>iV k (k.wrap ((BitVec.ofInt k.bits a &&& ~~~ (BitVec.ofInt k.bits b)).toNat))
 |_=>.no "bits"
def CS(op:BinOp)(k:IntKind)(a b:Int):R X:=bif fz b 0 then .no "div" else match op with
 | .quo=>iV k (ta k (a.tdiv b))
 |_=>iV k (a.tmod b)
def Dj(op:BinOp)(k:IntKind)(a b:Int):R X:=match op with
 | .add=>iV k (ta k (Int.add a b))
 | .sub=>iV k (ta k (Int.sub a b))
 | .mul=>iV k (ta k (Int.mul a b))
 | .quo=>CS .quo k a b
 | .rem=>CS .rem k a b
 | .lss=>nP (la a b)
 | .leq=>nP (!la b a)
 | .gtr=>nP (la b a)
 | .geq=>nP (!la a b)
 | .eql=>nP (fz a b)
 | .neq=>nP (!fz a b)
 |op=>F5 op k a b
def xB:BinOp->al
 | .shl=>true | .shr=>true|_=>false
def zY(op:BinOp)(k:IntKind)(a:Int)(dm:IntKind)(b:Int):R X :=
 bif xB op then vT op k a b else bif mc k dm then Dj op k a b else .no "kinds"
def afB(P:Program)(op:BinOp)(t:TypeId)(x y:X):R X:=match op with
 | .eql=>R.of "compared" (oG P t x y) (λb=>nP b)
 | .neq=>R.of "compared" (oG P t x y) (λb=>nP (!b))
 |_=>.no "binop"
def afC(op:BinOp)(k:IntKind)(a:Int)(y:X):R X:=match y with
 | .int dm b=>zY op k a dm b
 |_=>.no "binop"
def bin(P:Program)(op:BinOp)(t:TypeId)(x y:X):R X:=match x with
 | .int k a=>afC op k a y
 |x=>afB P op t x y
def dr(op:UnOp)(v:X):R X:=match v with
 | .bool b=>(match op with | .not=>nP (!b)|_=>.no "unOp")
 | .int k n=>(match op with
  | .neg=>iV k (ta k (Int.sub 0 n))
  | .xor=>F5 .xor k (if k.signed then -1 else k.max) n
  |_=>.no "unOp")
 |_=>.no "unOp"
def qe(d:TypeDesc)(v:X):R X:=match v with
 | .int _ n=>(match d with | .int k=>iV k (ta k n)|_=>.no "convert - int")
 |_=>.no "convert A"
def rb{e4:Type}(v:X)(k:Nat->R e4):R e4:=match v with
 | .int _ n=>Int.casesOn n (λn=>k n) (λ_=>.no "nat expected")
 |_=>.no "nat expected"
def Fm(a:aw Addr)(n:Nat)(wd:al):aw Addr:=Option.casesOn a none (λa=>some ⟨a.block,Nat.add a.off n,bif wd then none else a.spot⟩)
def zu(a:aw Addr):al:=match a with
 |some ⟨_,_,some _⟩=>true
 |_=>false
def wv(a:aw Addr):al:=match a with
 |some ⟨_,_,some 0⟩=>true
 |_=>false
def K1(a:aw Addr):aw Addr:=match a with
 |some a=>some ⟨a.block,a.off,some 0⟩
 |none=>none
def kO(a:aw Addr)(wd:al)(n c:Nat):R X :=
 bif zu a&&!wd then .ok (.slice (K1 a) 0 0)else bif wv a then .no "slice - of nothing" else .ok (.slice (Fm a 0 wd) n c)
def uy(s:Nat)(a:aw Addr)(wd:al)(m fm l:Nat):R X :=
 bif Nat.beq m l then kO a wd (Nat.sub fm l) (Nat.sub m l)else .ok (.slice (Fm a (Nat.mul l s) wd) (Nat.sub fm l) (Nat.sub m l))
def nN(s:Nat)(a:aw Addr)(cap:Nat)(wd:al)(m fm l:Nat):R X :=
 bif Nat.ble m cap&&(Nat.ble fm m&&Nat.ble l fm)then uy s a wd m fm l else .no "slice - bounds"
def zZ(x:aw X)(d:Nat):R Nat:=match x with
 |none=>.ok d
 |some v=>rb v (λn=>.ok n)
def gW(s:Nat)(v:X)(ao aj iJ:aw X):R X:=match v with
 | .slice a len cap=>bif !iJ.isSome||aj.isSome then R.bind (zZ iJ cap) (λm=>R.bind (zZ aj len) (λfm=>R.bind (zZ ao 0) (λl=>nN s a cap iJ.isSome m fm l)))else .no "slice - max without high"
 |_=>.no "slice"
def F6(c a b:X):R X:=match c with
 | .bool c=>Bool.casesOn c (.ok b) (.ok a)
 |_=>.no "pick"
def CD(a:Addr)(n:Nat):X:=.pointer (some ⟨a.block,Nat.add a.off n,none⟩)
def xt(tO:wt)(v:X)(i:Nat):R X:=match v with
 | .slice (some a) len _=>(match tO with | .slice s=>bif Nat.blt i len then .ok (CD a (Nat.mul i s))else .no "index" |_=>.no "index")
 | .pointer (some a)=>(match tO with | .array n s=>bif Nat.blt i n then .ok (CD a (Nat.mul i s))else .no "index" |_=>.no "index")
 |_=>.no "indexAddr"
def zQ(off:Nat)(v:X):R X:=zP v (λa=>.ok (CD a off))
def ib(k:wt)(x i:X):R X:=rb i (λi=>xt k x i)
def P2(P:Program)(t:TypeId)(v:X)(i:Nat):R X:=match v with
 | .agg cs=>(match P.underlying t with
  |some (.array n e)=>bif Nat.blt i n then R.of "index" (pj P e) (λbL=>R.of "index" (jG P e) (λs=>h0 bL (Nat.mul i s) cs.toList))else .no "index"
  |_=>.no "index")
 |_=>.no "index"
def axh(P:Program)(t:TypeId)(x i:X):R X:=rb i (λi=>P2 P t x i)
def x3(off:Nat)(bL:aw Nat)(v:X):R X:=match v with
 | .agg cs=>h0 bL off cs.toList
 |_=>.no "field"
def q5(eO:aa X->R (aa X))(off sF:Nat)(l cells:aa X):R (aa X):=bif Nat.beq (jo l) sF then R.of "fill" (m9 l cells off) eO else .no "fill - size"
def pk:aa (Nat × Nat × X)->aa X->R (aa X)
 | [],cells=>.ok cells
 |(off,sF,x)::xs,cells=>q5 (pk xs) off sF (dh x) cells
def cS(z:aa X)(mz:aa (Nat × Nat × X)):R X:=R.bind (pk mz z) (λl=>.ok (.agg ⟨l⟩))
def fh(len:Nat)(z:aa X)(mz:aa (Nat × Nat × X)):R kn:=R.bind (pk mz z) (λl=>vM l len len)
def tf(z:aa X)(l c:X):R kn:=rb l (λl=>rb c (λc=>bif Nat.ble l c&&Nat.ble c 100000 then vM (gI c z) l c else .no "makeSlice"))
def iH(bL:aw Nat)(h:ae)(x:X):R X:=zP x (λa=>cellsOf h a.block (λcs _=>h0 bL a.off cs))
def Sd(h:ae)(n:Nat)(l:aa X)(a:Addr):R ae:=bif Nat.beq (jo l) n then qb h a.block a.off l else .no "store - size"
def aQ(h:ae)(n:Nat)(a x:X):R ae:=zP a (Sd h n (dh x))
def kx(P:Program)(t:TypeId)(k:X):aa MapEntry->Nat->aw (aw (Nat × MapEntry))
 | [],_=>some none
 |e::es,i=>match kP P t k e.key with
  |some true=>some (some (i,e))
  |some false=>kx P t k es (Nat.succ i)
  |none=>none
def xQ(P:Program)(t:TypeId)(k:X):al:=(kP P t k k).isSome
def zE(a b:Addr):al:=Nat.beq a.block b.block&&Nat.beq a.off b.off&&(match a.spot,b.spot with|none,none=>true|some x,some y=>Nat.beq x y|_,_=>false)
def qf(x y:X):al:=match x with
 | .bool a=>(match y with | .bool b=>a == b|_=>false)
 | .int k m=>(match y with | .int dm n=>mc k dm&&fz m n|_=>false)
 | .pointer none=>(match y with | .pointer none=>true|_=>false)
 | .pointer (some a)=>(match y with | .pointer (some b)=>zE a b|_=>false)
 | .slice none l c=>(match y with | .slice none b6 bO=>Nat.beq l b6&&Nat.beq c bO | _=>false)
 | .slice (some a) l c=>(match y with | .slice (some b) b6 bO=>zE a b&&Nat.beq l b6&&Nat.beq c bO | _=>false)
 | .map none=>(match y with | .map none=>true|_=>false)
 | .map (some a)=>(match y with | .map (some b)=>Nat.beq a b|_=>false)
 | .nilFunc=>(match y with | .nilFunc=>true|_=>false)
 | .nilIface=>(match y with | .nilIface=>true|_=>false)
 | .func (.func f) ⟨[]⟩ ⟨[]⟩=>(match y with | .func (.func g) ⟨[]⟩ ⟨[]⟩=>Nat.beq f g|_=>false)
 |_=>false
def qg:aa X->aa X->al
 | [],[]=>true
 |x::xs,y::lL=>qf x y&&qg xs lL
 |_,_=>false
def nQ(x y:X):al:=match x with
 | .agg ⟨xs⟩=>(match y with | .agg ⟨lL⟩=>qg xs lL|_=>false)
 | .tuple ⟨xs⟩=>(match y with | .tuple ⟨lL⟩=>qg xs lL|_=>false)
 | .func (.func f) ⟨a⟩ ⟨b⟩=>(match y with | .func (.func g) ⟨eg⟩ ⟨cd⟩=>Nat.beq f g&&qg a eg&&qg b cd | _=>false)
 |x=>qf x y
def Gq:aa MapEntry->Nat->X->X->aa MapEntry
 | [],_,_,_=>[]
 |e::es,i,k,v=>Nat.casesOn i ({ e with key:=k,val:=v }::es) (λj=>e::Gq es j k v)
def Ku:aa MapEntry->Nat->aa MapEntry
 | [],_=>[]
 |e::es,i=>Nat.casesOn i es (λj=>e::Ku es j)
def kQ{e4:Type}(h:ae)(r:Nat)(k:aa MapEntry->Nat->R e4):R e4:=match u h r with
 |some (.map es c)=>k es c
 |_=>.no "map expected"
def P3{e4:Type}(h:ae)(v:X)(k:aa MapEntry->R e4):R e4:=match v with
 | .map none=>k []
 | .map (some r)=>kQ h r (λes _=>k es)
 |_=>.no "map expected"
def ow(ok:al)(v:X)(b:al):X:=bif ok then .tuple #[v,.bool b]else v
def jR(P:Program)(h:ae)(dM:TypeId)(z:X)(ok:al)(m k:X):R X :=
 bif xQ P dM k then P3 h m (λes=>match kx P dM k es 0 with
   |some (some (_,x))=>.ok (ow ok x.val true)
   |some none=>.ok (ow ok z false)
   |none=>.no "lookup - key")else .no "lookup - key"
def mB(P:Program)(dM:TypeId)(h:ae)(m k x:X):R ae :=
 bif xQ P dM k then(match m with
  | .map (some r)=>kQ h r (λes c=>match kx P dM k es 0 with
   |some (some (i,e))=>bif nQ e.key k then .ok (T h r (.map (Gq es i k x) c))else .no "mapUpdate - which key"
   |some none=>.ok (T h r (.map (kz es [{ key:=k,val:=x,born:=c }]) (Nat.succ c)))
   |none=>.no "mapUpdate - key")
  |_=>.no "mapUpdate")else .no "mapUpdate - key"
def ZW(h:ae)(U:Nat)(m:aw Nat)(c:Nat):fl:=.val (.pointer (some ⟨U,0,none⟩)) (T h U (.iter m c [] c)) (Nat.succ U)
def r3(h:ae)(U:Nat)(v:X):fl:=match v with
 | .map none=>ZW h U none 0
 | .map (some r)=>(match u h r with
  |some (.map _ c)=>ZW h U (some r) c
  |_=>.no "range")
 |_=>.no "range"
def leftOf(seen:aa Nat):aa MapEntry->aa MapEntry
 | []=>[]
 |e::es=>bif seen.any (Nat.beq e.born)then leftOf seen es else e::leftOf seen es
def JU(seen:aa Nat)(es:aa MapEntry)(st:Nat):al:=seen.isEmpty||es.isEmpty||es.any (λe=>Nat.blt e.born st)
def F7:aa Nat->aw Nat
 | []=>none
 | [x]=>some x
 |_::xs=>F7 xs
def CE(b:Nat):aa MapEntry->aw MapEntry
 | []=>none
 |e::es=>bif Nat.beq e.born b then some e else CE b es
def vU(h:ae)(v:X):R X:=zP v (λa=>bif Nat.beq a.off 0 then(match u h a.block with
 |some (.iter (some r) _ seen st)=>kQ h r (λes c=>bif Nat.beq c st then(match F7 seen with
  |some b=>R.of "entry" (CE b es) (λe=>.ok (.tuple #[e.key,e.val]))
  |none=>.no "entry")else .no "entry - clock")
 |_=>.no "entry")else .no "entry")
def k6(h:ae)(a:aw Addr)(n:Nat)(k:aa X->R fl):R fl:=Nat.casesOn n (k []) (λ_=>Option.casesOn a (.no "read - nil")
 (λa=>cellsOf h a.block (λcs _=>R.of "read - out of block" (na n (m6 cs a.off)) k)))
def dX(r:R fl):fl:=R.casesOn r (λx=>x) (λw=>.no w)
def qh(h:ae)(U s:Nat)(l:aa X)(jF:Nat):R fl:=bif Nat.beq s 0 then .no "append - no size" else .ok (.val (.slice (some ⟨U,0,some s⟩) jF jF) (T h U (.cells l false)) (Nat.succ U))
def QT(h:ae)(U:Nat)(s:Nat)(a:aw Addr)(len cap jF:Nat)(new:aa X):R fl:=match a with
 |none=>.ok (.val (.slice none jF cap) h U)
 |some a=>(match new with
  | []=>.ok (.val (.slice (some a) jF cap) h U)
  |_=>R.bind (qb h a.block (Nat.add a.off (Nat.mul len s)) new) (λh=>.ok (.val (.slice (some a) jF cap) h U)))
def q8(h:ae)(U:Nat)(s:Nat)(a:aw Addr)(len cap jF:Nat)(new:aa X):R fl:=match a with
 |none=>qh h U s new jF
 |some a=>cellsOf h a.block (λcs bJ=>R.of "append - out of block" (na (Nat.mul len s) (m6 cs a.off)) (λdV=>match a.spot with
  |none=>qh h U s (kz dV new) jF
  |some mp=>bif !bJ&&Nat.beq a.off 0&&Nat.beq (jo cs) (Nat.mul len s)&&Nat.beq mp s&&Nat.beq len cap&&ea new then qh (x1 h a.block) U s (kz dV new) jF else .no "append - inner"))
def gT(s:Nat)(h:ae)(U:Nat)(a:aw Addr)(len cap n:Nat)(new:aa X):R fl :=
 bif Nat.ble (Nat.add len n) cap then QT h U s a len cap (Nat.add len n) new else
 bif Nat.ble (Nat.mul (Nat.add len n) s) 1000000&&Nat.ble (Nat.add len n) 1000000 then q8 h U s a len cap (Nat.add len n) new else .no "append - great"
def dT(s:Nat)(h:ae)(U:Nat)(x y:X):R fl:=match x with
 | .slice a len cap=>(match y with
  | .slice b n _=>k6 h b (Nat.mul n s) (λnew=>gT s h U a len cap n new)
  |_=>.no "append")
 |_=>.no "append"
def Fo(z:aa X)(s:Nat)(h:ae)(U:Nat)(x y:X):R fl:=match x with
 | .slice a len cap=>rb y (λn=>bif Nat.ble n 1000000 then gT s h U a len cap n (gI n z)else .no "append")
 |_=>.no "append"
def q6(P:Program)(t:aw TypeId):al:=match t with
 |some t=>(match P.underlying t with|some (.int _)=>true|_=>false)
 |none=>false
def acb(P:Program)(t:aw TypeId):al:=match t with
 |some t=>(P.underlying t).isSome
 |none=>true
def xH(P:Program)(e:TypeId):al:=Nat.ble (((P.info? e).map (·.bytes)).getD 1000001) 1000000
def z0(v:X):R X:=match v with | .slice _ n _=>iV .i64 (.ofNat n)|_=>.no "len"
def wg(h:ae)(v:X):R X:=match v with
 | .map none=>iV .i64 (.ofNat 0)
 | .map (some r)=>kQ h r (λes _=>iV .i64 (.ofNat (jo es)))
 |_=>.no "len"
def afD(v:X):R X:=match v with
 | .slice none _ c=>iV .i64 (.ofNat c)
 | .slice (some ⟨_,_,none⟩) _ c=>iV .i64 (.ofNat c)
 |_=>.no "cap"
def Gr(P:Program)(t:TypeId)(v:X):R X:=bif mY P t then afD v else .no "cap"
def JV(P:Program)(t:TypeId)(h:ae)(U:Nat)(a:Addr)(n:Nat):R fl :=
 R.of "clear" (q2 P t) (λe=>R.of "clear" (nM P e) (λz=>R.bind (qb h a.block a.off (gI n z)) (λh=>.ok (.val jP h U))))
def FM(P:Program)(t:TypeId)(h:ae)(U:Nat)(v:X):R fl:=match v with
 | .map none=>.ok (.val jP h U)
 | .map (some r)=>kQ h r (λ_ c=>.ok (.val jP (T h r (.map [] c)) U))
 | .slice none _ _=>.ok (.val jP h U)
 | .slice (some a) n _=>Nat.casesOn n (.ok (.val jP h U)) (λm=>JV P t h U a (Nat.succ m))
 |_=>.no "clear"
def OR(P:Program)(dM:TypeId)(h:ae)(U:Nat)(m k:X):R fl:=match m with
 | .map (some r)=>kQ h r (λes c=>match kx P dM k es 0 with
  |some (some (i,_))=>.ok (.val jP (T h r (.map (Ku es i) c)) U)
  |some none=>.ok (.val jP h U)
  |none=>.no "delete - key")
 |_=>.no "delete"
def Fp(P:Program)(t:TypeId)(h:ae)(U:Nat)(m k:X):R fl:=match P.underlying t with
 |some (.map dM _)=>bif xQ P dM k then OR P dM h U m k else .no "delete - key"
 |_=>.no "delete"
def QU(s:Nat)(h:ae)(U:Nat)(x y:X):R fl:=match x with
 | .slice a len _=>(match y with
  | .slice b n _=>k6 h b (Nat.mul (Nat.min n len) s) (λl=>match l with
   | []=>.ok (.val (.int .i64 (.ofNat (Nat.min n len))) h U)
   |_=>(match a with
    |some a=>R.bind (qb h a.block a.off l) (λh=>.ok (.val (.int .i64 (.ofNat (Nat.min n len))) h U))
    |none=>.no "copy"))
  |_=>.no "copy")
 |_=>.no "copy"
def min2(b:al)(x y:X):R X:=match x with
 | .int k m=>(match y with
  | .int dm n=>bif mc k dm then(bif b then iV k (bif la n m then n else m)else iV k (bif la m n then n else m))else .no "min"
  |_=>.no "min")
 |_=>.no "min"
def afE(l:aa X)(k:X->R fl):R fl:=match l with
 | [x]=>k x
 |_=>.no "one argument expected"
def Gs(l:aa X)(k:X->X->R fl):R fl:=match l with
 | [x,y]=>k x y
 |_=>.no "two arguments expected"
def pd(P:Program)(b:Builtin)(ag:aa TypeId)(h:ae)(U:Nat)(args:aa X):R fl:=match b with
 | .append=>R.of "append" (gU ag 0) (λt=>R.of "append" (q2 P t) (λe=>R.of "append" (jG P e) (λs=>R.of "append" (nM P e) (λz =>
  bif Nat.beq (jo z) s&&xH P e&&q6 P (gU ag 1)then Gs args (λx y=>Fo z s h U x y)else .no "append - element"))))
 | .delete=>R.of "delete" (gU ag 0) (λt=>Gs args (λx y=>Fp P t h U x y))
 | .clear=>R.of "clear" (gU ag 0) (λt=>bif q3 P t||mY P t then afE args (λv=>FM P t h U v)else .no "clear")
 | .copy=>R.of "copy" (gU ag 0) (λt=>R.of "copy" (Cl P t) (λs=>Gs args (λx y=>QU s h U x y)))
 |_=>.no "builtin"
def Dk{az:Type}(r:R az)(f:az->fl):fl:=R.casesOn r (λx=>f x) (λw=>.no w)
def Se{az:Type}(w:String)(r:aw az)(f:az->fl):fl:=Option.casesOn r (.no w) (λx=>f x)
def hJ(h:ae)(U:Nat)(aE:aa X)(f:X):fl:=match f with
 | .func fn a b=>(match fn with
  | .func f=>.call f (kz a.toList (kz aE b.toList)) h U
  | .yield l=>.round l (kz a.toList aE) h U
  |_=>.no "call")
 |_=>.no "call"
def v6(P:Program)(h:ae)(t:TypeId)(wY:al)(y:X):R X:=match P.underlying t with
 |some (.pointer e)=>bif wY then .ok y else R.of "type" (pj P e) (λbL=>iH bL h y)
 |some _=>bif wY then .no "invoke - pointer method" else .ok y
 |none=>.no "invoke - type"
def qV(P:Program)(t:TypeId)(m:String):aw (FuncId × al):=match P.info? t with
 |some i=>(match i.methods.find? (λx=>x.name == m)with
  |some x=>(match x.path with
   |⟨[]⟩=>x.func
   |_=>none)
  |none=>none)
 |none=>none
def l2(P:Program)(h:ae)(U:Nat)(aE:aa X)(m:String)(v:X):fl:=match v with
 | .iface t y=>Se "invoke - method" (qV P t m) (λHH=>Dk (v6 P h t HH.2 y) (λy=>.call HH.1 (y::aE) h U))
 |_=>.no "invoke"
def zi(P:Program)(t:TypeId):al:=match P.underlying t with
 |some (.interface _)=>false
 |some _=>true
 |none=>false
def Fq(P:Program)(XY:TypeId)(ok:al)(v:X):R X:=match v with
 | .iface t y=>bif zi P XY&&Nat.beq t XY then .ok (ow ok y true)else .no "typeAssert"
 |_=>.no "typeAssert"
def cy(v:X)(i:Nat):R X:=match v with
 | .tuple aE=>R.of "extract" (gU aE.toList i) (λv=>.ok v)
 |_=>.no "extract"
inductive e5 where
 |t (n:Nat)
 |v (x:Value)
def cX(x:Operand):aw e5:=match x with
 | .tmp t=>some (.t t)
 | .const v=>bif ux v then some (.v v)else none
 | .func f=>some (.v (.func (.func f) #[] #[]))
 | .global _=>none
def yj:aa Operand->aw (aa e5)
 | []=>some []
 |x::xs=>match cX x,yj xs with
  |some y,some lL=>some (y::lL)
  |_,_=>none
def GK(x:aw Operand):aw (aw e5):=match x with
 |none=>some none
 |some x=>match cX x with
  |some y=>some (some y)
  |none=>none
inductive HI where
 |hP (x:e5)
 |pick (c a b:e5)
 |bin (op:BinOp) (t:TypeId) (x y:e5)
 |un (op:UnOp) (x:e5)
 |conv(d:TypeDesc) (x:e5)
 |uU (off:Nat) (bL:Option Nat) (x:e5)
 |afF (off:Nat) (x:e5)
 |ixA (k:wt) (x i:e5)
 |idx (t:TypeId) (x i:e5)
 |mR (s:Nat) (x:e5) (ao aj iJ:Option e5)
 |ext (x:e5) (i:Nat)
 |afG (x:e5)
 |mkf (f:FuncId) (a b:List e5)
 |ifc (t:TypeId) (x:e5)
 |asr (a:TypeId) (ok:Bool) (x:e5)
 |Uu (b:Bool) (x y:e5)
 |cap (t:TypeId) (x:e5)
 |build (z:List Value) (mz:List (Nat × Nat × e5))
inductive D1 where
 |new (l:List Value)
 |box (x:e5)
 |Sf (len:Nat) (base:List Value) (mz:List (Nat × Nat × e5))
 |mkm
 |mks (z:List Value) (l c:e5)
inductive GL where
 |ld (bL:Option Nat) (x:e5)
 |lkp (dM:TypeId) (z:Value) (m k:e5) (ok:Bool)
 |lens (x:e5)
 |afH (x:e5)
 |entry (x:e5)
inductive vh where
 |st (n:Nat) (a x:e5)
 |yk (dM:TypeId) (m k x:e5)
 |jp (x:e5)
 |fE (x:e5)
 |call (f:FuncId) (args:List e5)
 |zR (f:e5) (args:List e5)
 |app (s:Nat) (x y:e5)
 |bi (b:Builtin) (ag:List TypeId) (args:List e5)
 |inv (r:e5) (m:String) (args:List e5)
inductive mS where
 |fu (e:HI)
 |ic (e:D1)
 |red (e:GL)
 |fv (e:vh)
structure lM where
 g:aw (Nat × al)
 d:aw Nat
 c:Nat
 k:mS
inductive ko where
 |skip
 |tg (l:List lM)
 |CT (l:List lM)
 |seq (a b:ko)
 |cond (c:e5) (a b:ko)
 |block (id:Nat) (c:ko)
 |loop (c:ko)
 |exit (id:Nat)
 |ret
 |scope (c:ko)
 |wZ (f:e5) (cb:List Nat) (a b:Code)
 |no
structure aAq where
 body:ko
 res:aa ResultVar
def Cm(aec:Nat->aw (Nat × Nat)):aa (Nat × Operand)->aw (aa (Nat × Nat × e5))
 | []=>some []
 |x::xs=>match aec x.1,cX x.2,Cm aec xs with
  |some p,some y,some r=>some ((p.1,p.2,y)::r)
  |_,_,_=>none
def ZX(f:e5)(iX:aa e5):vh:=match f with
 | .v (.func (.func g) ⟨[]⟩ ⟨[]⟩)=>.call g iX
 |f=>.zR f iX
def Dl(P:Program)(b:Builtin)(ag:aa TypeId)(iX:aa e5):aw mS:=match b with
 | .len=>(match iX with
  | [x]=>(gU ag 0).bind λt=>(match P.underlying t with
   |some (.slice _)=>some (.red (.lens x))
   |some (.map _ _)=>some (.red (.afH x))
   |_=>none)
  |_=>none)
 | .min=>(match iX with | [x,y]=>some (.fu (.Uu true x y))|_=>none)
 | .max=>(match iX with | [x,y]=>some (.fu (.Uu false x y))|_=>none)
 | .cap=>(match iX with | [x]=>(gU ag 0).map λt=>.fu (.cap t x)|_=>none)
 | .append=>bif q6 P (gU ag 1)then some (.fv (.bi .append ag iX))else(gU ag 0).bind λt=>(q2 P t).bind λe=>(jG P e).bind λs=>(nM P e).bind λz =>
    bif Nat.beq (jo z) s&&xH P e&&(!q6 P (gU ag 1)&&acb P (gU ag 1))then(match iX with | [x,y]=>some (.fv (.app s x y))|_=>none)else none
 |b=>some (.fv (.bi b ag iX))
def oK(P:Program)(o:Op):aw mS:=match o with
 | .move x=>(cX x).map λx=>.fu (.hP x)
 | .assign x=>(cX x).map λx=>.fu (.hP x)
 | .pick c a b=>(cX c).bind λc=>(cX a).bind λa=>(cX b).map λb=>.fu (.pick c a b)
 | .build t mz=>(nM P t).bind λz=>(OQ P t).bind λpl=>(Cm pl mz.toList).map λcb=>.fu (.build z cb)
 | .nilCheck x=>(cX x).map λx=>.fu (.afG x)
 | .binOp op t x y _=>(cX x).bind λx=>(cX y).map λy=>.fu (.bin op t x y)
 | .unOp op _ x=>(cX x).map λx=>.fu (.un op x)
 | .convert s d x=>(und P s).bind λ_=>(und P d).bind λd=>(cX x).map λx=>.fu (.conv d x)
 | .makeInterface t x=>bif zi P t then(cX x).map λx=>.fu (.ifc t x)else none
 | .makeFunc fn a b=>(match fn with
  | .func f=>(yj a.toList).bind λa=>(yj b.toList).map λb=>.fu (.mkf f a b)
  |_=>none)
 | .slice t x ao aj iJ=>(Cl P t).bind λs=>(cX x).bind λx=>(GK ao).bind λao=>(GK aj).bind λaj=>(GK iJ).map λiJ=>.fu (.mR s x ao aj iJ)
 | .fieldAddr s x f=>(B3 P s f).bind λf=>(cX x).map λx=>.fu (.afF f.1 x)
 | .field s x f=>(B3 P s f).bind λf=>(pj P f.2).bind λbL=>(cX x).map λx=>.fu (.uU f.1 bL x)
 | .indexAddr t x tO=>(Kt P t).bind λk=>(cX x).bind λx=>(cX tO).map λi=>.fu (.ixA k x i)
 | .index t x tO=>(cX x).bind λx=>(cX tO).map λi=>.fu (.idx t x i)
 | .extract x i=>(cX x).map λx=>.fu (.ext x i)
 | .typeAssert x _ a ok=>(cX x).map λx=>.fu (.asr a ok x)
 | .alloc e=>(nM P e).bind λl=>bif ea l then some (.ic (.new l))else none
 | .box _ x=>(cX x).map λx=>.ic (.box x)
 | .buildSlice t len mz=>(q2 P t).bind λe=>(jG P e).bind λs=>(nM P e).bind λz =>
   bif Nat.beq (jo z) s&&Nat.ble (Nat.mul len s) 1000000 then(Cm (λi=>some (Nat.mul i s,s)) mz.toList).map λcb=>.ic (.Sf len (gI len z) cb)else none
 | .makeMap _ none=>some (.ic .mkm)
 | .makeSlice t l c=>(q2 P t).bind λe=>(nM P e).bind λz =>
   bif Nat.beq (jo z) (((P.info? e).map (·.size)).getD 0)&&Nat.ble (((P.info? e).map (·.bytes)).getD 1000001) 1000000 then(cX l).bind λl=>(cX c).map λc=>.ic (.mks z l c)else none
 | .load t a=>(pj P t).bind λbL=>(cX a).map λa=>.red (.ld bL a)
 | .lookup t x tO ok=>(match P.underlying t with
  |some (.map dM e)=>(Jr P e).bind λz=>(cX x).bind λm=>(cX tO).map λk=>.red (.lkp dM z m k ok)
  |_=>none)
 | .entry x=>(cX x).map λx=>.red (.entry x)
 | .store t a x=>(jG P t).bind λn=>(cX a).bind λa=>(cX x).map λx=>.fv (.st n a x)
 | .mapUpdate t m k x=>(match P.underlying t with
  |some (.map dM _)=>(cX m).bind λm=>(cX k).bind λk=>(cX x).map λx=>.fv (.yk dM m k x)
  |_=>none)
 | .range t x=>bif q3 P t then(cX x).map λx=>.fv (.jp x)else none
 | .next it s=>bif s then none else(cX it).map λx=>.fv (.fE x)
 | .call c=>(yj c.args.toList).bind λiX=>(match c.callee with
  | .value f=>(cX f).map λf=>.fv (ZX f iX)
  | .invoke r m=>(cX r).map λr=>.fv (.inv r m iX)
  | .builtin b=>Dl P b c.argTypes.toList iX)
 |_=>none
def i9(k:mS):al:=match k with | .fv _=>true|_=>false
def yM(all:aa Oper)(g:aw (Nat × al)):aw (aw (Nat × al)):=match g with
 |none=>some none
 |some (j,b)=>(gU all j).bind λo=>o.dst.map λd=>some (d,b)
def afI(P:Program)(all:aa Oper)(c:Nat)(o:Oper):aw lM:=(yM all o.guard).bind λg=>(oK P o.op).map λk=>⟨g,o.dst,c,k⟩
def Kv(P:Program)(all:aa Oper):aa Oper->aw (aa lM)
 | []=>some []
 |o::os=>(afI P all 0 o).bind λi=>(Kv P all os).map λis=>i::is
structure eK where
 i:Nat
 o:Oper
 k:mS
 uV:Nat
def kG(m k:Nat):al:=Nat.beq (Nat.land (Nat.shiftRight m k) 1) 1
def Kw(acc:aa Nat):aa Edge->Nat->Nat
 | [],s=>s
 |e::es,s=>Kw acc es (bif Region.binds .any e then Nat.lor (Nat.lor s (Nat.pow 2 e.on)) ((gU acc e.on).getD 0)else s)
def Ka:aa Oper->aa Nat->aa Nat
 | [],acc=>acc
 |o::os,acc=>Ka os (kz acc [Kw acc o.after.toList 0])
structure hQ where
 i:Nat
 o:Oper
 k:mS
 e:al
 D2:Nat
 lK:Nat
 am:Nat
def CU(d:aw Nat):Nat:=Option.casesOn d 0 (λd=>Nat.pow 2 d)
def CV:aa Operand->Nat
 | []=>0
 | .tmp t::xs=>Nat.lor (Nat.pow 2 t) (CV xs)
 |_::xs=>CV xs
def Kx(a4:List Oper)(g:Option (Nat × Bool)):Nat:=match g with
 |some (g,_)=>(match gU a4 g with|some o=>CU o.dst|none=>0)
 |none=>0
def Rp(a4:aa Oper)(o:Oper):Nat:=Nat.lor (CU o.dst) (Nat.lor (CV o.op.operands.toList) (Kx a4 o.guard))
def Ky(P:Program)(all:aa Oper):Nat->aa Oper->aa Nat->aw (aa hQ)
 |j,o::os,a::iX=>(oK P o.op).bind λk=>(Ky P all (Nat.succ j) os iX).map λbt=>{ i:=j,o:=o,k:=k,e:=i9 k,D2:=CU o.dst,lK:=Rp all o,am:=a }::bt
 |_,_,_=>some []
def F8(am jV:Nat):aa hQ->aa hQ
 | []=>[]
 |x::xs=>bif kG am x.i&&!kG jV x.i then x::F8 am jV xs else F8 am jV xs
def F9(jV:Nat):aa hQ->aa hQ
 | []=>[]
 |x::xs=>bif kG jV x.i then F9 jV xs else x::F9 jV xs
def s7(all:aa hQ):aa hQ->Nat->aa hQ
 | [],jV=>F9 jV all
 |x::xs,jV=>bif x.e&&!kG jV x.i then kz (F8 x.am jV all) (x::s7 all xs (Nat.lor jV (Nat.lor x.am (Nat.pow 2 x.i))))else s7 all xs jV
def Rq(a b:Nat):al:=Nat.beq (Nat.land a b) 0
def CF(x y:hQ):al:=!Nat.beq x.i y.i&&!kG x.am y.i&&(!y.e||kG y.am x.i)&&(kG y.am x.i||(Rq x.D2 y.lK&&Rq y.D2 x.lK))
def CW(x:hQ):aa hQ->al
 | []=>true
 |y::lL=>bif CF x y then CW x lL else false
def FN:aa hQ->al
 | []=>true
 |x::xs=>bif CW x xs then FN xs else false
def z1:aa hQ->Nat
 | []=>0
 |x::xs=>Nat.lor (Nat.pow 2 x.i) (z1 xs)
def z5(j:Nat):aa Edge->al
 | []=>true
 |e::es=>bif !Region.binds .any e||Nat.blt e.on j then z5 j es else false
def Gt:Nat->aa Oper->al
 |_,[]=>true
 |j,o::os=>bif z5 j o.after.toList then Gt (Nat.succ j) os else false
def Gu(am:Nat):aa hQ->Nat
 | []=>0
 |y::lL=>bif y.e&&!kG am y.i then Nat.succ (Gu am lL)else Gu am lL
def r4:aa hQ->aa hQ->aa eK
 |_,[]=>[]
 |before,x::xs=>{ i:=x.i,o:=x.o,k:=x.k,uV:=Gu x.am before }::r4 (x::before) xs
def asO(a4:aa Oper)(l:aa hQ):aw (aa eK):=
 bif Nat.beq (jo l) (jo a4)&&(Nat.beq (z1 l) (Nat.pred (Nat.pow 2 (jo a4)))&&(Gt 0 a4&&FN l))then some (r4 [] l)else none
def P4(P:Program)(a4:aa Oper):aw (aa eK):=(Ky P a4 0 a4 (Ka a4 [])).bind λbt=>asO a4 (s7 bt bt 0)
def FO(all:aa Oper):aa eK->aw (aa lM)
 | []=>some []
 |s::bF=>(yM all s.o.guard).bind λg=>(FO all bF).map λis=>⟨g,s.o.dst,s.uV,s.k⟩::is
def Rr(P:Program)(a4:aa Oper)(CX:al):ko:=bif CX
 then(match(P4 P a4).bind (FO a4)with|some l=>.CT l|none=>.no)
 else(match Kv P a4 a4 with|some l=>.tg l|none=>.no)
def comp(P:Program):Code->ko
 | .skip=>.skip
 | .label _=>.skip
 | .scope c=>.scope (comp P c)
 | .region _ a4 CX=>Rr P a4.toList CX
 | .seq a b=>.seq (comp P a) (comp P b)
 | .cond x a b=>(match cX x with
  |some x=>.cond x (comp P a) (comp P b)
  |none=>.no)
 | .block id c=>.block id (comp P c)
 | .loop c=>.loop (comp P c)
 | .exit id=>.exit id
 | .ret=>.ret
 | .rangeFunc f cb a b=>(match cX f with|some f=>.wZ f cb.toList a b|none=>.no)
 |_=>.no
def xI(P:Program)(f:FuncId):aw aAq:=match gU P.funcs.toList f with
 |some fn=>(match fn.body with
  |some c=>some { body:=comp P c,res:=fn.results.toList }
  |none=>none)
 |none=>none
structure Place where
 cm:Nat
 off:Nat
 spare:Nat
 es:Nat
abbrev ca:=Nat->aw Place
mutual
inductive bA (ai:ca):Value->Value->Prop
 |bool (b:Bool):bA ai (.bool b) (.bool b)
 |int (k:IntKind) (n:Int):bA ai (.int k n) (.int k n)
 |string (s:ByteArray):bA ai (.string s) (.string s)
 |FP:bA ai (.pointer none) (.pointer none)
 |ptr {b o:Nat} {p:Place} (h:ai b=some p):bA ai (.pointer (some ⟨b,o,none⟩)) (.pointer (some ⟨p.cm,p.off+o,none⟩))
 |qW (l c:Nat):bA ai (.slice none l c) (.slice none l c)
 |kO {b o:Nat} {p:Place} (h:ai b=some p) (l c:Nat):bA ai (.slice (some ⟨b,o,none⟩) l c) (.slice (some ⟨p.cm,p.off+o,none⟩) l c)
 |ox {b o s:Nat} {p:Place} (h:ai b=some p) (ap:p.es=s+1) (l c:Nat):bA ai (.slice (some ⟨b,o,some (s+1)⟩) l c) (.slice (some ⟨p.cm,p.off+o,none⟩) l (c+p.spare))
 |oy (b o:Nat) (g aX:Nat) (c:Nat):bA ai (.slice (some ⟨b,o,some 0⟩) 0 0) (.slice (some ⟨g,aX,none⟩) 0 c)
 |FQ:bA ai (.map none) (.map none)
 |map {r:Nat} {p:Place} (h:ai r=some p):bA ai (.map (some r)) (.map (some p.cm))
 |nilFunc:bA ai .nilFunc .nilFunc
 |nilIface:bA ai .nilIface .nilIface
 |func (f:FuncId) {a eg b cd:List Value} (cY:dl ai a eg) (aT:dl ai b cd):bA ai (.func (.func f) ⟨a⟩ ⟨b⟩) (.func (.func f) ⟨eg⟩ ⟨cd⟩)
 |yield {l:Nat} {p:Place} (h:ai l=some p):bA ai (.func (.yield l) #[] #[]) (.func (.yield p.cm) #[] #[])
 |iface (t:TypeId) {v dN:Value} (h:bA ai v dN):bA ai (.iface t v) (.iface t dN)
 |agg {l b6:List Value} (h:dl ai l b6):bA ai (.agg ⟨l⟩) (.agg ⟨b6⟩)
 |tuple {l b6:List Value} (h:dl ai l b6):bA ai (.tuple ⟨l⟩) (.tuple ⟨b6⟩)
inductive dl (ai:ca):List Value->List Value->Prop
 |nil:dl ai [] []
 |cons {x y:Value} {xs lL:List Value} (h:bA ai x y) (t:dl ai xs lL):dl ai (x::xs) (y::lL)
end
def Sub(ai bq:ca):Prop:=∀b p,ai b=some p->bq b=some p
mutual
theorem bA.mono{ai bq:ca}(A:Sub ai bq):∀{v c:X},bA ai v c->bA bq v c
 |_,_,.bool b=>.bool b
 |_,_,.int k n=>.int k n
 |_,_,.string s=>.string s
 |_,_,.FP=>.FP
 |_,_,.ptr h=>.ptr (A _ _ h)
 |_,_,.qW l c=>.qW l c
 |_,_,.kO h l c=>.kO (A _ _ h) l c
 |_,_,.ox h e l c=>.ox (A _ _ h) e l c
 |_,_,.oy b o g aX c=>.oy b o g aX c
 |_,_,.FQ=>.FQ
 |_,_,.map h=>.map (A _ _ h)
 |_,_,.nilFunc=>.nilFunc
 |_,_,.nilIface=>.nilIface
 |_,_,.func f D E=>.func f (dl.mono A D) (dl.mono A E)
 |_,_,.yield h=>.yield (A _ _ h)
 |_,_,.iface t h=>.iface t (bA.mono A h)
 |_,_,.agg h=>.agg (dl.mono A h)
 |_,_,.tuple h=>.tuple (dl.mono A h)
theorem dl.mono{ai bq:ca}(A:Sub ai bq):∀{v c:aa X},dl ai v c->dl bq v c
 |_,_,.nil=>.nil
 |_,_,.cons h t=>.cons (bA.mono A h) (dl.mono A t)
end
variable {bq:ca} {p:Place} {cU:kn} {Ga:ca}
theorem dl.length{ai:ca}:∀{l b6:aa X},dl ai l b6->l.length=b6.length
 |_,_,.nil=>rfl
 |_,_,.cons _ t=>by simp[dl.length t]
theorem dl.append{ai:ca}:∀{a D b A:aa X},dl ai a D->dl ai b A->dl ai (a++b) (D++A)
 |_,_,_,_,.nil,h=>h
 |_,_,_,_,.cons h t,k=>.cons h (dl.append t k)
theorem dl.get{ai:ca}:∀{l b6:aa X} {i:Nat} {v:X},dl ai l b6->l[i]? = some v->∃A,b6[i]? = some A/\bA ai v A
 |_,_,0,_,.cons h _,e=>by simp at e;subst e;exact⟨_,rfl,h⟩
 |_,_,i+1,_,.cons _ t,e=>by simpa using dl.get  t ab
theorem dl.acd{ai:ca}:∀{l b6:aa X},l.length=b6.length->(∀(i:Nat) (v:X),l[i]? = some v->∃A:X,b6[i]? = some A/\bA ai v A)->dl ai l b6
 | [],[],_,_=>.nil
 | [],_::_,h,_=>by simp at h
 |_::_,[],h,_=>by simp at h
 |x::xs,y::E,h,k=>by obtain⟨A,e,D⟩:=k 0 x rfl;simp at e;subst e;exact .cons D (dl.acd ab λi v e=>by simpa using k (i+1) v ab)
theorem dl.take{ai:ca}(n:Nat):∀{l b6:aa X},dl ai l b6->dl ai (l.take n) (b6.take n):=by
 induction n with
 |zero=>intro l b6 _;simpa using dl.nil
 |succ n A=>intro l b6 h;cases h with
  |nil=>simpa using dl.nil
  |cons h t=>exact .cons h (A t)
theorem dl.drop{ai:ca}(n:Nat):∀{l b6:aa X},dl ai l b6->dl ai (l.drop n) (b6.drop n):=by
 induction n with
 |zero=>intro l b6 h;exact h
 |succ n A=>intro l b6 h;cases h with
  |nil=>simpa using dl.nil
  |cons h t=>exact A t
theorem ED(h:qa v=true)(ai:ca):bA ai v v:=by
 unfold qa at h
 split at h <;> first|(exact .func _ .nil .nil)|constructor|(exact absurd h (by simp))
theorem BP{ai:ca}(h:qa v=true)(k:bA ai v c):c=v:=by
 cases k <;> simp_all[qa]
 all_goals (rename_i A D;cases A <;> cases D <;> grind)
theorem IE(h:il l=true)(ai:ca):dl ai l l:=by
 induction l with
 |nil=>exact .nil
 |cons x xs A=>simp[il]at h;exact .cons (ED h.1 ai) (A h.2)
theorem EE(h:ux v=true)(ai:ca):bA ai v v:=by
 unfold ux at h
 split at h
 ·exact .agg (IE h ai)
 ·exact .tuple (IE h ai)
 ·exact ED h ai
theorem bA.cells{ai:ca}{v c:X}(h:bA ai v c):dl ai (dh v) c.cells.toList:=by
 cases h <;> first|(rename_i h;exact h)|exact .cons (by constructor <;> omega) .nil|skip
theorem Nb{ai:ca}:∀{l b6:aa X},dl ai l b6->ea l=true->∀x∈b6,gS x=true
 |_,_,.nil,_=>by simp
 |_,_,.cons h t,e=>by
  rename_i x y xs E
  have D:gS x=true/\ea xs=true:=by
   unfold ea at e
   grind
  intro z A;rcases g5.1 A with rfl|A
  ·cases h <;> simp_all[gS]
  ·exact Nb t D.2 z A
def pf(ai:ca)(cs:aa X)(c:Array X)(off:Nat):Prop:=∀(i:Nat) (v:X),cs[i]? = some v->∃dN:X,c[off+i]? = some dN/\bA ai v dN
inductive hm (ai:ca):List MapEntry->List MapEntry->Prop
 |nil:hm ai [] []
 |cons {e d3:MapEntry} {es dg:List MapEntry} (hk:bA ai e.key d3.key) (aJ:bA ai e.val d3.val) (aT:d3.born=e.born) (t:hm ai es dg):hm ai (e::es) (d3::dg)
def Sg:LoopState->Nat
 | .ready=>0 | .busy=>1 | .done=>2 | .exhausted=>3
def jf(ai:ca)(lK:cc)(a:Array X):Prop:=∀d v,hc lK d=some v->bA ai (ra v) (a.getD d undef)
def vV(n:Nat)(a4:aa Oper):al:=a4.all λo=>match o.dst with|some d=>Nat.blt d n|none=>true
def kM(n:Nat):Code->al
 | .region _ a4 _=>vV n a4.toList
 | .seq a b=>kM n a&&kM n b
 | .cond _ a b=>kM n a&&kM n b
 | .block _ c=>kM n c
 | .loop c=>kM n c
 | .rangeFunc _ cb a b=>cb.toList.all (λp=>Nat.blt p n)&&kM n a&&kM n b
 | .scope c=>kM n c
 |_=>true
def pt(ai:ca)(m bC:aw Nat):Prop:=match m,bC with
 |none,none=>True
 |some r,some yN=>∃q,ai r=some q/\q.cm=yN
 |_,_=>False
def l7(B:Nat)(ai:ca)(w:World)(p:Place):gh->Prop
 | .cells cs true=>p.cm<B/\∃c e e9,w.heap[p.cm]? = some (.cells c e e9)/\pf ai cs c p.off
 | .cells cs false=>B<=p.cm/\p.off=0/\∃c e ao aj,w.heap[p.cm]? = some (.cells c e (ao,aj))/\(ao=aj\/c.size<=ao)/\pf ai cs c 0/\c.size=cs.length+p.spare*p.es
 | .map es cE=>B<=p.cm/\∃dg:aa MapEntry,w.heap[p.cm]? = some (.map dg.toArray cE)/\hm ai es dg
 | .iter m CB seen st=>B<=p.cm/\p.off=0/\∃bC,w.heap[p.cm]? = some (.mapIter bC CB seen.toArray st)/\pt ai m bC
 | .loop st Gm lK cb a b=>B<=p.cm/\∃l:Loop,w.heap[p.cm]? = some (.loop l)/\Sg l.state=st/\l.pending=Gm/\jf ai lK l.tmps/\l.params.toList=cb/\l.assign=a/\l.body=b /\
   kM l.tmps.size a=true/\kM l.tmps.size b=true/\(∀q∈cb,q<l.tmps.size)
structure d7 (B:Nat) (ai:ca) (H:fk) (w:World):Prop where
 base:B<=w.heap.size
 obj:∀b p o,ai b=some p->H b=some o->l7 B ai w p o
 inj:∀b cd p ew,ai b=some p->ai cd=some ew->(H b).isSome->(H cd).isSome->B<=p.cm->p.cm=ew.cm->b=cd
 mG:∀b,(H b).isSome->(ai b).isSome
def wh(B:Nat)(ai:ca)(H:fk)(k:Nat):Prop:=∃b p,ai b=some p/\(H b).isSome/\p.cm=k/\B<=k
def v7(ai:ca)(ao aj:Nat):Prop:=∀b,ao<=b->b<aj->ai b=none
def qD(w a9:World):Prop:=a9.tape=w.tape/\w.drawn<=a9.drawn
theorem qD.here{w:World}:qD w w:=⟨rfl,J⟩
theorem qD.trans{w D A:World}(s:qD w D)(t:qD D A):qD w A:=⟨t.1.trans s.1,hy s.2 t.2⟩
structure cx (B:Nat) (ai:ca) (H:fk) (w:World) (ao aj:Nat) (bq:ca) (hj:fk) (a9:World):Prop where
 rel:d7 B bq hj a9
 agree:∀b,(b<ao\/aj<=b)->bq b=ai b
 size:w.heap.size<=a9.heap.size
 os:a9.os=w.os
 tape:qD w a9
 output:a9.output=w.output
 frame:∀k,k<w.heap.size->¬wh B ai H k->a9.heap[k]? = w.heap[k]?
 own:∀k,wh B bq hj k->wh B ai H k\/w.heap.size<=k
 le:ao<=aj
theorem v7.sub{ai:ca}(A:v7 ai ao aj)(E:∀b,(b<ao\/aj<=b)->bq b=ai b):Sub ai bq:=by
 intro b p h
 by_cases I:b<ao
 ·grind
 by_cases D:aj<=b
 ·grind
 rw[A b J J]at h;cases h
theorem cx.sub{B:Nat}{ai bq:ca}{H hj:fk}{w a9:World}{ao aj:Nat}(s:cx B ai H w ao aj bq hj a9)(A:v7 ai ao aj):Sub ai bq:=A.sub s.agree
theorem cx.refl{B:Nat}{ai:ca}{w:World}(n:Nat)(h:d7 B ai H w):cx B ai H w n n ai H w :=
 ⟨h,ab,J,rfl,.here,rfl,ab,ab,J⟩
theorem cx.trans{B:Nat}{ai Ga I:ca}{H Ks A:fk}{w nS M:World}{a b c:Nat}(s:cx B ai H w a b Ga Ks nS)(t:cx B Ga Ks nS b c I A M):cx B ai H w a c I A M where
 rel:=t.rel
 agree:=λx h=>by have Z:=s.le;have V:=t.le;rw[t.agree x J,s.agree x J]
 size:=hy s.size t.size
 os:=t.os.trans s.os
 tape:=s.tape.trans t.tape
 output:=t.output.trans s.output
 frame:=λk E D=>by rw[t.frame k (Io E s.size) (λN=>(s.own k N).elim D J),s.frame k E D]
 own:=λk h=>(t.own k h).elim (λh=>s.own k h) (λh=>.inr (hy s.size h))
 le:=hy s.le t.le
theorem v7.after{B:Nat}{ai:ca}{w:World}{a N:Nat}(s:cx B ai H w a b Ga Ks nS)(h:v7 ai a N):v7 Ga b N:=by intro x D A;rw[s.agree x J];exact h x (hy s.le D) A
theorem v7.mono{ai:ca}{a D A:Nat}(h:v7 ai a b)(N:a<=D)(E:A<=b):v7 ai D A:=λx I M=>h x J J
theorem pf.mono{ai bq:ca}(A:Sub ai bq){cs:aa X}{c:Array X}{off:Nat}(h:pf ai cs c off):pf bq cs c off :=
 λi v e=>let ⟨dN,d3,aJ⟩:=h i v e;⟨dN,d3,aJ.mono A⟩
theorem hm.mono{ai bq:ca}(A:Sub ai bq):∀{es dg:aa MapEntry},hm ai es dg->hm bq es dg
 |_,_,.nil=>.nil
 |_,_,.cons E D I t=>.cons (E.mono A) (D.mono A) I (hm.mono A t)
theorem jf.mono{ai bq:ca}(D:Sub ai bq){A:cc}{a:Array X}(h:jf ai A a):jf bq A a:=λd v e=>(h d v e).mono D
theorem pt.mono{ai:ca}(A:Sub ai bq){m:aw Nat}(h:pt ai m bC):pt bq m bC:=by
 cases m <;> cases bC <;> simp only[pt]at h ⊢;obtain⟨q,D,e⟩:=h;exact⟨q,A _ _ D,e⟩
theorem l7.mono{B:Nat}{ai bq:ca}{w a9:World}{p:Place}{o:gh}(E:Sub ai bq)(bV:a9.heap[p.cm]? = w.heap[p.cm]?)(h:l7 B ai w p o):l7 B bq a9 p o:=by
 cases o with
 |cells cs bJ =>
  cases bJ with
  |true =>
   obtain⟨A,c,e,e9,I,D⟩:=h;exact⟨A,c,e,e9,ab,D.mono E⟩
  |false =>
   obtain⟨A,M,c,e,ao,aj,I,D,Z,N⟩:=h;exact⟨A,M,c,e,ao,aj,ab,D,Z.mono E,N⟩
 |map es cE =>
  obtain⟨A,dg,I,D⟩:=h;exact⟨A,dg,ab,D.mono E⟩
 |iter m V seen st =>
  obtain⟨A,M,bC,I,D⟩:=h;exact⟨A,M,bC,ab,D.mono E⟩
 |loop st Gm lK cb a b =>
  obtain⟨A,l,I,D,Z,N,cF⟩:=h;exact⟨A,l,ab,D,Z,N.mono E,cF⟩
theorem d7.less{B:Nat}{ai:ca}{w:World}(h:d7 B ai H w)(ap:∀b o,hj b=some o->H b=some o):d7 B ai hj w where
 base:=h.base
 obj:=λb p o A D=>h.obj b p o A ab
 inj:=λb N p I A D V Z=>h.inj b N p I A D (by obtain⟨o,E⟩:=mX.1 V;grind) (by obtain⟨o,E⟩:=mX.1 Z;grind)
 mG:=λb M=>h.mG b (by obtain⟨o,E⟩:=mX.1 M;grind)
theorem d7.world{B:Nat}{ai:ca}{w:World}(h:d7 B ai H w)(A:w.heap.size<=a9.heap.size)(I:∀b p,ai b=some p->(H b).isSome->a9.heap[p.cm]? = w.heap[p.cm]?):d7 B ai H a9 where
 base:=hy h.base A
 obj:=λb p o E D=>(h.obj b p o E D).mono (λ_ _ h=>h) ab
 inj:=h.inj
 mG:=h.mG
theorem l7.Cn{B:Nat}{ai:ca}{w:World}{o:gh}(h:l7 B ai w p o):p.cm<w.heap.size:=by
 cases o with
 |cells cs bJ =>
  cases bJ with
  |true=>obtain⟨_,c,e,V,A,_⟩:=h;grind
  |false=>obtain⟨_,_,c,e,ao,aj,A,_⟩:=h;grind
 |map es cE=>obtain⟨_,dg,A,_⟩:=h;grind
 |iter m D E st=>obtain⟨_,_,bC,A,_⟩:=h;grind
 |loop st I M N a b=>obtain⟨_,l,A,_⟩:=h;grind
def fk.put(H:fk)(b:Nat)(o:gh):fk:=λk=>if k=b then some o else H k
theorem ul(h:ae)(b:Nat)(o:gh):u (T h b o)=fk.put (u h) b o:=funext λk=>zk h b o k
theorem cx.make{B:Nat}{ai:ca}{w:World}{U:Nat}{o:gh}(h:d7 B ai H w)(bH:ai U=none)(jH:a9.heap.size=w.heap.size+1)(lh:∀k,k<w.heap.size->a9.heap[k]? = w.heap[k]?)(ww:a9.os=w.os)(Sh:qD w a9)(GM:a9.output=w.output)(bk:p.cm=w.heap.size)(eU:l7 B (λk=>if k=U then some p else ai k) a9 p o):
  cx B ai H w U (U+1) (λk=>if k=U then some p else ai k) (H.put U o) a9:=by
 have V:Sub ai (λk=>if k=U then some p else ai k):=λb q A=>ab
 have cA:∀b q,ai b=some q->(H b).isSome->q.cm<w.heap.size:=λb q A I=>by obtain⟨aX,D⟩:=mX.1 I;exact(h.obj b q aX A D).Cn
 refine⟨⟨by have:=h.base;omega,?_,?_,?_⟩,?_,J,ww,Sh,GM,ab,?_,J⟩
 ·intro b q aX A D
  by_cases e:b=U
  ·subst e;simp[fk.put]at A D;subst A;subst D;exact eU
  ·simp only[e,fa]at A;simp only[fk.put,e,fa]at D;exact(h.obj b q aX A D).mono V ab
 ·intro b cd q k0 A E I M et Z
  by_cases e:b=U <;> by_cases N:cd=U
  ·omega
  ·subst e;simp at A;subst A;simp only[N,fa]at E;simp only[fk.put,N,fa]at M
   grind
  ·subst N;simp at E;subst E;simp only[e,fa]at A;simp only[fk.put,e,fa]at I
   grind
  ·simp only[e,fa]at A;simp only[N,fa]at E;simp only[fk.put,e,fa]at I;simp only[fk.put,N,fa]at M;exact h.inj b cd q k0 A E I M et Z
 ·intro b I
  by_cases e:b=U
  ·grind
  ·simp only[fk.put,e,fa]at I;simp only[e,fa];exact h.mG b I
 ·grind
 ·rintro k ⟨b,q,A,I,rfl,et⟩
  by_cases e:b=U
  ·grind
  ·simp only[e,fa]at A;simp only[fk.put,e,fa]at I;exact .inl ⟨b,q,A,I,rfl,et⟩
theorem cx.change{B:Nat}{ai:ca}{w:World}(U:Nat){o:gh}(h:d7 B ai H w)(I:ai b=some p)(eU:H b=some o)(et:B<=p.cm)(jH:a9.heap.size=w.heap.size)(E:∀k,k≠p.cm->a9.heap[k]? = w.heap[k]?)(N:a9.os=w.os)(V:qD w a9)(GM:a9.output=w.output)(M:l7 B ai a9 p aX):cx B ai H w U U ai (H.put b aX) a9:=by
 refine⟨⟨by have:=h.base;omega,?_,?_,?_⟩,ab,J,N,V,GM,?_,?_,J⟩
 ·intro x q y A D
  by_cases e:x=b
  ·subst e;rw[I]at A;cases A;simp[fk.put]at D;subst D;exact M
  ·simp only[fk.put,e,fa]at D;refine(h.obj x q y A D).mono (λ_ _ h=>h) (E _ λZ=>e ?_);exact h.inj x b q p A I ab ab J Z
 ·have azE:∀x,((H.put b aX) x).isSome->(H x).isSome:=λx A=>by
   by_cases e:x=b
   ·grind
   ·simpa[fk.put,e]using A
  exact λx y q k0 A D ap nd=>h.inj x y q k0 A D ab ab
 ·intro x A
  by_cases e:x=b
  ·grind
  ·simp only[fk.put,e,fa]at A;exact h.mG x A
 ·intro k _ bH;refine E k λe=>bH ⟨b,p,I,ab,e.symm,J⟩
 ·rintro k ⟨x,q,A,ap,rfl,hB'⟩;refine .inl ⟨x,q,A,?_,rfl,hB'⟩
  by_cases e:x=b
  ·grind
  ·simpa[fk.put,e]using ap
def j2(ai:ca)(U:Nat):Prop:=∀b,U<=b->ai b=none
theorem j2.here{ai:ca}{U:Nat}(h:j2 ai U):ai U=none:=h U J
theorem j2.sub{B:Nat}{ai:ca}{w:World}(h:j2 ai ao)(s:cx B ai H w ao aj bq hj a9):Sub ai bq:=λb p A=>by
 by_cases D:b<ao
 ·rw[s.agree b J];omega
 ·rw[h b J]at A;grind
theorem j2.after{B:Nat}{ai:ca}{w:World}(h:j2 ai ao)(s:cx B ai H w ao aj bq hj a9):j2 bq aj:=λb A=>by rw[s.agree b J];exact h b (hy s.le A)
def Fin(B:Nat)(ai:ca)(h:ae)(w:World)(U:Nat)(K:X->ae->Nat->Prop)(e:Ending)(a9:World):Prop :=
 ∃v ac Y bq c,e = .returned c/\K v ac Y/\bA bq v c/\cx B ai (u h) w U Y bq (u ac) a9
def BX(P:Program)(f:FuncId):Prop:=∃fn,P.funcs[f]? = some fn/\fn.body.isSome=true/\(fn.name == "runtime.NumGoroutine")=false
abbrev bP:=X->ae->Nat->Prop
def mT(r:aw Nat):Fence:={ Fence.wide with round:=r }
variable {kp:bP} {C:bP->Prop}
theorem XZ(r:aw Nat)(n:Nat)(P:Program):CallsIn (mT r) n P=CallsIn Fence.wide n P:=rfl
theorem alo(r:aw Nat)(n:Nat)(P:Program):RoundIn (mT r) n P=RoundIn Fence.wide n P:=rfl
def kV(P:Program)(f:FuncId)(args:aa X)(h:ae)(U:Nat)(K:bP):Prop :=
 BX P f/\∀(B:Nat) (ai:ca) (w:World) (CG:aa X),d7 B ai (u h) w->j2 ai U->dl ai args CG->∀n,CallsIn Fence.wide n P f ⟨CG⟩ w (Fin B ai h w U K)
def tt(P:Program)(l:Nat)(args:aa X)(h:ae)(U:Nat)(K:bP):Prop :=
 ∀(B:Nat) (ai:ca) (w:World) (CG:aa X) (p:Place),d7 B ai (u h) w->j2 ai U->dl ai args CG->ai l=some p ->
  ∃oY:Loop,w.heap[p.cm]? = some (.loop oY)/\CG.length=oY.params.size/\∀n,RoundIn Fence.wide n P p.cm oY.fn ((oY.params.zip ⟨CG⟩).foldl (λtmps (t,a)=>tmps.setIfInBounds t a) oY.tmps) oY.assign oY.body w (Fin B ai h w U K)
def tP(s:al)(C:bP->Prop)(K:bP):Prop:=match s with
 |true=>∃v h U,K v h U/\C (λdN ac Y=>dN=v/\ac=h/\Y=U)
 |false=>C K
def aH(P:Program)(s:al)(f:FuncId)(args:aa X)(h:ae)(U:Nat)(K:bP):Prop:=tP s (kV P f args h U) K
def lN(P:Program)(s:al)(l:Nat)(args:aa X)(h:ae)(U:Nat)(K:bP):Prop:=tP s (tt P l args h U) K
theorem Fin.mono{B:Nat}{ai:ca}{h:ae}{w:World}{U:Nat}{K:bP}(D:∀v h U,K v h U->kp v h U){e:Ending}:Fin B ai h w U K e a9->Fin B ai h w U kp e a9:=λ⟨v,ac,Y,bq,c,e,A,r⟩=>⟨v,ac,Y,bq,c,e,D _ _ _ A,r⟩
theorem kV.mono{P:Program}{f:FuncId}{args:aa X}{h:ae}{U:Nat}{K kp:bP}(A:kV P f args h U K)(I:∀v h U,K v h U->kp v h U):kV P f args h U kp :=
 ⟨A.1,λB ai w a M D E n=>(A.2 B ai w a M D E n).mono λ_ _=>Fin.mono I⟩
theorem tt.mono{P:Program}{l:Nat}{args:aa X}{h:ae}{U:Nat}{K kp:bP}(D:tt P l args h U K)(M:∀v h U,K v h U->kp v h U):tt P l args h U kp :=
 λB ai w a p N A E I=>let ⟨oY,aV,aP,ch⟩:=D B ai w a p N A E I;⟨oY,aV,aP,λn=>(ch n).mono λ_ _=>Fin.mono M⟩
theorem tP.mono{s:al}(I:∀{K kp:bP},C K->(∀v h U,K v h U->kp v h U)->C kp){K:bP}(A:tP s C K)(D:∀v h U,K v h U->kp v h U):tP s C kp:=by
 cases s with
 |true=>obtain⟨v,h,U,M,E⟩:=A;exact⟨v,h,U,D _ _ _ M,E⟩
 |false=>exact I A D
theorem tP.down{s:al}(E:∀{K kp:bP},C K->(∀v h U,K v h U->kp v h U)->C kp){K:bP}(A:tP s C K):C K:=by
 cases s with
 |true=>obtain⟨v,h,U,I,D⟩:=A;exact E D (by rintro _ _ _ ⟨rfl,rfl,rfl⟩;exact I)
 |false=>exact A
theorem aH.mono{P:Program}{s:al}{f:FuncId}{args:aa X}{h:ae}{U:Nat}{K kp:bP}(A:aH P s f args h U K)(D:∀v h U,K v h U->kp v h U):aH P s f args h U kp:=tP.mono kV.mono A D
theorem lN.mono{P:Program}{s:al}{l:Nat}{args:aa X}{h:ae}{U:Nat}{K kp:bP}(A:lN P s l args h U K)(D:∀v h U,K v h U->kp v h U):lN P s l args h U kp:=tP.mono tt.mono A D
noncomputable section
def d2(ak:cc)(x:e5):R X:=match x with
 | .t n=>(match hc ak n with|some (some v)=>.ok v|some none=>.ok jP|none=>.no "temp")
 | .v v=>.ok v
def pu(ak:cc):aa e5->R (aa X)
 | []=>.ok []
 |x::xs=>R.bind (d2 ak x) λv=>R.bind (pu ak xs) λaE=>.ok (v::aE)
def Kz(ak:cc)(x:aw e5):R (aw X):=match x with
 |none=>.ok none
 |some x=>R.bind (d2 ak x) λv=>.ok (some v)
def FR(ak:cc):aa (Nat × Nat × e5)->R (aa (Nat × Nat × X))
 | []=>.ok []
 |(o,z,x)::xs=>R.bind (d2 ak x) λv=>R.bind (FR ak xs) λaE=>.ok ((o,z,v)::aE)
def pv(P:Program)(ak:cc)(e:HI):R X:=match e with
 | .hP x=>d2 ak x
 | .pick c a b=>R.bind (d2 ak c) λc=>R.bind (d2 ak a) λa=>R.bind (d2 ak b) λb=>F6 c a b
 | .bin op t x y=>R.bind (d2 ak x) λx=>R.bind (d2 ak y) λy=>bin P op t x y
 | .un op x=>R.bind (d2 ak x) λx=>dr op x
 | .conv d x=>R.bind (d2 ak x) λx=>qe d x
 | .uU off bL x=>R.bind (d2 ak x) λx=>x3 off bL x
 | .afF off x=>R.bind (d2 ak x) λx=>zQ off x
 | .ixA k x i=>R.bind (d2 ak x) λx=>R.bind (d2 ak i) λi=>ib k x i
 | .idx t x i=>R.bind (d2 ak x) λx=>R.bind (d2 ak i) λi=>axh P t x i
 | .mR s x ao aj iJ=>R.bind (d2 ak x) λx=>R.bind (Kz ak ao) λao=>R.bind (Kz ak aj) λaj=>R.bind (Kz ak iJ) λiJ=>gW s x ao aj iJ
 | .ext x i=>R.bind (d2 ak x) λx=>cy x i
 | .afG x=>R.bind (d2 ak x) λx=>bs x
 | .mkf f a b=>R.bind (pu ak a) λa=>R.bind (pu ak b) λb=>.ok (.func (.func f) ⟨a⟩ ⟨b⟩)
 | .ifc t x=>R.bind (d2 ak x) λx=>.ok (.iface t x)
 | .asr a ok x=>R.bind (d2 ak x) λx=>Fq P a ok x
 | .Uu b x y=>R.bind (d2 ak x) λx=>R.bind (d2 ak y) λy=>min2 b x y
 | .cap t x=>R.bind (d2 ak x) λx=>Gr P t x
 | .build z mz=>R.bind (FR ak mz) λcb=>cS z cb
def CY(ak:cc)(e:D1):R kn:=match e with
 | .new l=>.ok (.ptr (.cells l false))
 | .box x=>R.bind (d2 ak x) λx=>Fk (dh x)
 | .Sf len base mz=>R.bind (FR ak mz) λcb=>fh len base cb
 | .mkm=>.ok .map
 | .mks z l c=>R.bind (d2 ak l) λl=>R.bind (d2 ak c) λc=>tf z l c
def pred(P:Program)(ak:cc)(e:GL)(h:ae):R X:=match e with
 | .ld bL x=>R.bind (d2 ak x) λx=>iH bL h x
 | .lkp dM z m k ok=>R.bind (d2 ak m) λm=>R.bind (d2 ak k) λk=>jR P h dM z ok m k
 | .lens x=>R.bind (d2 ak x) λx=>z0 x
 | .afH x=>R.bind (d2 ak x) λx=>wg h x
 | .entry x=>R.bind (d2 ak x) λx=>vU h x
def br(v:X)(a b:Prop):Prop:=match v with
 | .bool t=>(match t with|true=>a|false=>b)
 |_=>False
def d4(r:R kn)(h:ae)(U:Nat)(k:X->ae->Nat->Prop):Prop:=af r λb=>k (wu U b) (T h U (sf b)) (U+1)
def dG(r:fl)(k:X->ae->Nat->Prop):Prop:=match r with
 | .val v h U=>k v h U
 |_=>False
def fc(P:Program)(s:al)(r:fl)(k:X->ae->Nat->Prop):Prop:=match r with
 | .call f args h U=>aH P s f args h U k
 | .round l args h U=>lN P s l args h U k
 |_=>False
def uW(s:al)(h:ae)(U:Nat)(v:X)(k:X->ae->Nat->Prop):Prop :=
 ∃it r CB st cE seen es,s=false/\v = .pointer (some ⟨it,0,none⟩)/\u h it=some (.iter (some r) CB seen st)/\u h r=some (.map es cE)/\JU seen es st=true /\
  (leftOf seen es=[]->k (.tuple #[.bool false]) h U)/\∀e∈leftOf seen es,e.born<CB/\k (.tuple #[.bool true,e.key,e.val]) (T h it (.iter (some r) CB (seen++[e.born]) cE)) U
def m7(v:X)(r:R X):al:=match r with | .ok w=>nQ v w | .no _=>false
def oL(f:ae->R X)(v:X)(p:Prop):Nat->aa ae->Prop
 |0,_=>p
 |n+1,h::ap=>m7 v (f h)=true/\oL f v p n ap
 |_+1,[]=>False
def Mi{e4:Type}(r:R e4)(k:e4->Prop):Prop:=id (af r k)
def kq(g:aw (Nat × al))(ak:cc)(a b:cc->Prop):Prop:=match g with
 |none=>a ak
 |some (t,w)=>(match hc ak t with
  |some (some v)=>br v ((match w with|true=>a|false=>b) ((t,some (.bool true))::ak)) ((match w with|true=>b|false=>a) ((t,some (.bool false))::ak))
  |some none=>b ak
  |none=>False)
section
variable (P:Program) (s:al)
def oZ(e:vh)(ak:cc)(h:ae)(U:Nat)(k:X->ae->Nat->Prop):Prop:=match e with
 | .st n a x=>af (d2 ak a) λa=>af (d2 ak x) λx=>af (aQ h n a x) λh=>k jP h U
 | .yk dM m key x=>af (d2 ak m) λm=>af (d2 ak key) λkey=>af (d2 ak x) λx=>af (mB P dM h m key x) λh=>k jP h U
 | .jp x=>af (d2 ak x) λx=>dG (r3 h U x) k
 | .fE x=>af (d2 ak x) λx=>uW s h U x k
 | .call f args=>af (pu ak args) λl=>aH P s f l h U k
 | .zR f args=>af (d2 ak f) λf=>af (pu ak args) λl=>fc P s (hJ h U l f) k
 | .app z x y=>af (d2 ak x) λx=>af (d2 ak y) λy=>dG (dX (dT z h U x y)) k
 | .bi b ag args=>af (pu ak args) λl=>dG (dX (pd P b ag h U l)) k
 | .inv r m args=>af (pu ak args) λl=>af (d2 ak r) λv=>fc P s (l2 P h U l m v) k
def nq(d:aw Nat)(i:mS)(ak:cc)(h:ae)(U:Nat)(k:cc->ae->Nat->Prop):Prop:=match i with
 | .fu (.hP x)=>Mi (d2 ak x) λv=>k (eu ak d (some v)) h U
 | .fu (.pick c a b)=>af (d2 ak c) λc=>af (d2 ak a) λa=>af (d2 ak b) λb=>br c (k (eu ak d (some a)) h U) (k (eu ak d (some b)) h U)
 | .fu e=>af (pv P ak e) λv=>k (eu ak d (some v)) h U
 | .ic e=>d4 (CY ak e) h U λv h U=>k (eu ak d (some v)) h U
 | .red e=>af (pred P ak e h) λv=>k (eu ak d (some v)) h U
 | .fv e=>oZ P s e ak h U λv h U=>k (eu ak d (some v)) h U
def pQ(l:aa lM):cc->ae->Nat->(cc->ae->Nat->Prop)->Prop :=
 List.rec (motive:=λ_=>cc->ae->Nat->(cc->ae->Nat->Prop)->Prop) (λak h U K=>K ak h U)
  (λi _ eO ak h U K=>kq i.g ak (λak=>nq P s i.d i.k ak h U λak h U=>eO ak h U K) (λak=>eO (eu ak i.d none) h U K)) l
def mH(d:aw Nat)(c:Nat)(i:mS)(ak:cc)(h:ae)(U:Nat)(b:ae)(ap:aa ae)(k:cc->ae->Nat->ae->aa ae->Prop):Prop:=match i with
 | .fu (.hP x)=>Mi (d2 ak x) λv=>k (eu ak d (some v)) h U b ap
 | .fu (.pick c x y)=>af (d2 ak c) λc=>af (d2 ak x) λx=>af (d2 ak y) λy=>br c (k (eu ak d (some x)) h U b ap) (k (eu ak d (some y)) h U b ap)
 | .fu e=>af (pv P ak e) λv=>k (eu ak d (some v)) h U b ap
 | .ic e=>d4 (CY ak e) h U λv h U=>k (eu ak d (some v)) h U b ap
 | .red e=>af (pred P ak e b) λv=>Nat.rec (k (eu ak d (some v)) h U b ap) (λ_ _=>oL (pred P ak e) v (k (eu ak d (some v)) h U b ap) c ap) c
 | .fv (.st n a x)=>af (d2 ak a) λa=>af (d2 ak x) λx=>af (aQ h n a x) λh=>k (eu ak d (some jP)) h U h (b::ap)
 | .fv (.yk dM m key x)=>af (d2 ak m) λm=>af (d2 ak key) λkey=>af (d2 ak x) λx=>af (mB P dM h m key x) λh=>k (eu ak d (some jP)) h U h (b::ap)
 | .fv e=>oZ P true e ak h U λv ac Y=>U<=Y/\k (eu ak d (some v)) ac Y ac (b::ap)
def h4(l:aa lM):cc->ae->Nat->ae->aa ae->(cc->ae->Nat->Prop)->Prop :=
 List.rec (motive:=λ_=>cc->ae->Nat->ae->aa ae->(cc->ae->Nat->Prop)->Prop) (λak h U _ _ K=>K ak h U)
  (λi _ eO ak h U b ap K=>kq i.g ak (λak=>mH P i.d i.c i.k ak h U b ap λak h U b ap=>eO ak h U b ap K)
   (λak=>Bool.rec (eO (eu ak i.d none) h U b ap K) (eO (eu ak i.d none) h U h (b::ap) K) (i9 i.k))) l
abbrev iK:=cc->ae->Nat->Prop
abbrev aR:=aa X->ae->Nat->Prop
def a7:aa X->Nat->X
 | [],_=>jP
 |x::l,i=>match i with|0=>x|i+1=>a7 l i
def rc:aa Nat->aa X->Nat->cc
 | [],_,_=>[]
 |n::L,aE,i=>(n,some (a7 aE i))::rc L aE (i+1)
def n9:aa Nat->cc->(aa X->Prop)->Prop
 | [],_,k=>k []
 |n::L,ak,k=>match hc ak n with
  |some (some v)=>n9 L ak λaE=>k (v::aE)
  |some none=>n9 L ak λaE=>k (jP::aE)
  |none=>False
def jW{az:Type}:aa (Nat × (az->ae->Nat->Prop))->Nat->az->ae->Nat->Prop
 | [],_=>λ_ _ _=>False
 |p::l,i=>bif Nat.beq p.1 i then p.2 else jW l i
abbrev oa:=aa X->ae->Nat->aR->aa (Nat × aR)->aR->Prop
def bD(B:oa)(aE:aa X)(h:ae)(U:Nat)(E:aa (Nat × aR))(R:aR):Prop :=
 ∃(eB:Nat->aa X->ae->Nat->Prop) (m:Nat),eB m aE h U/\∀m aE h U,eB m aE h U->B aE h U (λaE h U=>∃bC,bC<m/\eB bC aE h U) E R
def hA:ko->Nat
 | .seq a b=>hA a+hA b
 | .cond _ a b=>hA a+hA b
 | .block _ c=>hA c
 | .scope c=>hA c
 | .loop c=>hA c+1
 |_=>0
def ke(l:aa (aa Nat))(i:Nat):aa Nat:=match gU l i with|some x=>x|none=>[]
def re(i:Nat):ko->al
 | .seq a b=>re i a||re i b
 | .cond _ a b=>re i a||re i b
 | .block _ c=>re i c
 | .scope c=>re i c
 | .loop c=>re i c
 | .exit j=>Nat.beq i j
 |_=>false
def uK:ko->al
 | .seq a b=>uK a||uK b
 | .cond _ a b=>uK a||uK b
 | .block _ c=>uK c
 | .scope c=>uK c
 | .loop c=>uK c
 | .ret=>true
 |_=>false
def th(L:aa Nat)(k:aR):iK:=λak h U=>n9 L ak λaE=>k aE h U
def GN(L:aa Nat)(k:iK):aR:=λaE h U=>k (rc L aE 0) h U
def wi(L:aa Nat):aa (Nat × aR)->aa (Nat × iK)
 | []=>[]
 |p::l=>(p.1,th L p.2)::wi L l
def uX(L:aa Nat)(c:ko):aa (Nat × iK)->aa (Nat × aR)
 | []=>[]
 |p::l=>bif re p.1 c then(p.1,GN L p.2)::uX L c l else uX L c l
def GO(L:aa Nat)(c:ko)(k:iK):aR:=bif uK c then GN L k else λ_ _ _=>False
def x4(l:Nat)(N R:ae->Nat->Prop):bP:=λ_ h U=>∃st p Ak cb a b,u h l=some (.loop st p Ak cb a b)/\st≠1/\((p=none/\N (T h l (.loop 3 p Ak cb a b)) U)\/(p=some .ret/\R (T h l (.loop 3 p Ak cb a b)) U))
def tu(P:Program)(s:al)(v:X)(h:ae)(U:Nat)(o:gh)(K:bP):Prop:=match v with
 | .func (.func g) a b=>aH P s g (a.toList++(.func (.yield U) #[] #[]::b.toList)) (T h U o) (U+1) K
 |_=>False
def hR(eV:aa (aa Nat)):ko->Nat->cc->ae->Nat->iK->aa (Nat × iK)->iK->Prop
 | .skip,_,ak,h,U,N,_,_=>N ak h U
 | .exit id,_,ak,h,U,_,E,_=>jW E id ak h U
 | .ret,_,ak,h,U,_,_,R=>R ak h U
 | .scope c,i,ak,h,U,N,E,R=>hR eV c i ak h U N E R
 | .tg l,_,ak,h,U,N,_,_=>pQ P s l ak h U N
 | .CT l,_,ak,h,U,N,_,_=>h4 P l ak h U h [] N
 | .wZ f cb a b,_,ak,h,U,N,_,R=>af (d2 ak f) λv=>tu P s v h U (.loop 0 none ak cb a b) (x4 U (N ak) (R ak))
 | .seq a b,i,ak,h,U,N,E,R=>hR eV a i ak h U (λak h U=>hR eV b (i+hA a) ak h U N E R) E R
 | .block id c,i,ak,h,U,N,E,R=>hR eV c i ak h U N ((id,N)::E) R
 | .cond x a b,i,ak,h,U,N,E,R=>(match x with
  | .v v=>br v (hR eV a i ak h U N E R) (hR eV b (i+hA a) ak h U N E R)
  | .t n=>(match hc ak n with
   |some (some v)=>br v (hR eV a i ((n,some (.bool true))::ak) h U N E R) (hR eV b (i+hA a) ((n,some (.bool false))::ak) h U N E R)
   |_=>False))
 | .loop c,i,ak,h,U,_,E,R=>n9 (ke eV i) ak λaE=>bD (λaE h U N E R=>hR eV c (i+1) (rc (ke eV i) aE 0) h U (th (ke eV i) N) (wi (ke eV i) E) (th (ke eV i) R)) aE h U
   (uX (ke eV i) c E) (GO (ke eV i) c R)
 | .no,_,_,_,_,_,_,_=>False
end
def x5(P:Program)(ak:cc)(h:ae):aa ResultVar->(aa X->Prop)->Prop
 | [],k=>k []
 | .tmp t::bt,k=>af (d2 ak (.t t)) λv=>x5 P ak h bt λaE=>k (v::aE)
 | .cell a t::bt,k=>af (d2 ak (.t a)) λv=>af (R.of "type" (pj P t) λbL=>iH bL h v) λv=>x5 P ak h bt λaE=>k (v::aE)
def CZ(l:aa X):X:=match l with | [v]=>v|l=>.tuple ⟨l⟩
def r9(P:Program)(bt:aa ResultVar)(K:bP):iK:=λak h U=>x5 P ak h bt λl=>K (CZ l) h U
def xJ:aa X->Nat->cc
 | [],_=>[]
 |v::aE,i=>(i,some v)::xJ aE (i+1)
def ob(P:Program)(s:al)(eV:aa (aa Nat))(f:FuncId)(args:aa X)(h:ae)(U:Nat)(K:bP):Prop:=match xI P f with
 |some oc=>hR P s eV oc.body 0 (xJ args 0) h U (r9 P oc.res K) [] (r9 P oc.res K)
 |none=>False
def xK:ko->Nat->aw ko
 | .seq a b,i=>(bif Nat.blt i (hA a)then xK a i else xK b (i-hA a))
 | .cond _ a b,i=>(bif Nat.blt i (hA a)then xK a i else xK b (i-hA a))
 | .block _ c,i=>xK c i
 | .scope c,i=>xK c i
 | .loop c,i=>(match i with|0=>some c|i+1=>xK c i)
 |_,_=>none
def bR(P:Program)(s:al)(eV:aa (aa Nat))(f:FuncId)(i:Nat):oa:=match xI P f with
 |some oc=>(match xK oc.body i with
  |some c=>λaE h U N E R=>hR P s eV c (i+1) (rc (ke eV i) aE 0) h U (th (ke eV i) N) (wi (ke eV i) E) (th (ke eV i) R)
  |none=>λ_ _ _ _ _ _=>False)
 |none=>λ_ _ _ _ _ _=>False
end
theorem pe(g o n:Nat):(⟨g,o,none⟩:Addr).add n=⟨g,o+n,none⟩:=by unfold Addr.add;grind
theorem WM(h:gS v=true):v.oneCell'=true:=by cases v <;> simp_all[gS,Value.oneCell']
theorem d7.cells{B:Nat}{ai:ca}{H:fk}{w:World}(V:d7 B ai H w){b:Nat}{p:Place}{cs:aa X}{bJ:al}(M:ai b=some p)(N:H b=some (.cells cs bJ)):
  ∃c e D,w.heap[p.cm]? = some (.cells c e D)/\pf ai cs c p.off:=by
 have:=V.obj b p _ M N;cases bJ with
 |true=>obtain⟨_,c,e,D,E,A⟩:=this;exact⟨c,e,D,E,A⟩
 |false=>obtain⟨_,I,c,e,ao,aj,E,_,A,_⟩:=this;exact⟨c,e,(ao,aj),E,by rw[I];exact A⟩
theorem pf.cut{ai:ca}{c:Array X}{o n:Nat}(h:pf ai cs c off)(V:o+n<=cs.length):
  ∃b6:aa X,b6.length=n/\dl ai ((cs.drop o).take n) b6/\∀j v,b6[j]? = some v->c[off+o+j]? = some v:=by
 have A:∀j,j<n->off+o+j<c.size:=λj I=>by
  obtain⟨E,e,_⟩:=h (o+j) (cs[o+j]'J) ab
  grind
 refine⟨(c.toList.drop (off+o)).take n,?_,?_,?_⟩
 ·simp only[p3,Ep,Ek];rcases y8 n with D|D
  ·omega
  ·have:=A (n-1) J;omega
 ·refine dl.acd ?_ ?_
  ·simp only[p3,Ep,Ek];rcases y8 n with D|D
   ·omega
   ·have:=A (n-1) J;omega
  ·intro j v e;simp only[xi,xh]at e ⊢
   split at e
   ·rename_i I
    obtain⟨E,N,M⟩:=h (o+j) v e;exact⟨E,ab,M⟩
   ·cases e
 grind
theorem VW{P:Program}(h:pj P t=some bL):
  ∃i d,P.info? t=some i/\P.underlying t=some d /\
   ((∃n,bL=some n/\i.size=n/\∀w,(isAgg t).run P w = .ok true w)\/(bL=none/\∀w,(isAgg t).run P w = .ok false w)):=by
 unfold pj jG at h;cases A:P.underlying t with
 |none=>grind
 |some d =>
  cases aj:P.info? t with
  |none=>rw[A,aj]at h;grind
  |some i =>
   refine⟨i,d,rfl,rfl,?_⟩;rw[A,aj]at h;have D:∀w,(underlying t).run P w = .ok d w:=run_underlying A;cases d <;> simp at h <;> first
    |(right;refine⟨h.symm,λw=>?_⟩;simp[isAgg,D];done)
    |(left;refine⟨_,h.symm,rfl,λw=>?_⟩;simp[isAgg,D];done)
theorem EF{P:Program}{i:TypeInfo}(h:P.info? t=some i)(w:World):(sizeOf t).run P w = .ok i.size w:=by simp[sizeOf,typeInfo,h]
theorem ai4{P:Program}{n:Nat}(h:jG P t=some n):∃i,P.info? t=some i/\i.size=n:=by
 unfold jG at h;cases aj:P.info? t with
 |none=>rw[aj]at h;cases h
 |some i=>rw[aj]at h;grind
theorem j9{P:Program}{n:Nat}(h:jG P t=some n)(w:World):(sizeOf t).run P w = .ok n w:=by obtain⟨i,aj,rfl⟩:=ai4 h;exact EF aj w
theorem OS{w:World}{g:Nat}{c:Array X}{D:Nat × Nat}(h:w.heap[g]? = some (.cells c e D))(A:c[i]? = some v):w.cell? ⟨g,i,none⟩=some v:=by simp[World.cell?,h,A]
theorem X0{r:aw (aa X)}(h:J9 r = .ok v):∃l,r=some l/\v = .agg ⟨l⟩:=by
 cases r with
 |none=>cases h
 |some l=>cases h;grind
theorem X1{r:aw X}(h:CC r = .ok v):r=some v:=by
 cases r with
 |none=>cases h
 |some l=>cases h;rfl
theorem R.kR{az:Type}{s:String}{r:aw az}{f:az->R e4}{x:e4}(h:R.of s r f = .ok x):∃a,r=some a/\f a = .ok x:=by
 cases r with
 |none=>cases h
 |some a=>exact⟨a,rfl,h⟩
theorem R.e7{az e4:Type}{r:R az}{f:az->R e4}{x:e4}(h:R.bind r f = .ok x):∃a,r = .ok a/\f a = .ok x:=by
 cases r with
 |no w=>cases h
 |ok a=>exact⟨a,rfl,h⟩
theorem EK{h:ae}{k:aa X->al->R e4}{x:e4}(e:cellsOf h b k = .ok x):∃cs bJ,u h b=some (.cells cs bJ)/\k cs bJ = .ok x:=by
 unfold cellsOf at e;cases A:u h b with
 |none=>rw[A]at e;cases e
 |some o =>
  rw[A]at e;cases o with
  |cells cs bJ=>grind
  |_=>cases e
theorem I1{k:Addr->R e4}{x:e4}(e:zP v k = .ok x):∃a,v = .pointer (some a)/\k a = .ok x:=by
 unfold zP at e
 grind
theorem bA.N2{ai:ca}{a:Addr}(h:bA ai (.pointer (some a)) c):∃p,a.spot=none/\ai a.block=some p/\c = .pointer (some ⟨p.cm,p.off+a.off,none⟩):=by
 cases h with
 |ptr h=>grind
theorem OT{P:Program}{B:Nat}{ai:ca}{h:ae}{w:World}(a5:d7 B ai (u h) w)(Al:pj P t=some bL)(V:iH bL h x = .ok v)(a1:bA ai x dD):
  ∃eg,dD = .pointer (some eg)/\∃c,(loadVar t eg).run P w = .ok c w/\bA ai v c:=by
 obtain⟨⟨b,o,aO⟩,rfl,V⟩:=I1 V;obtain⟨p,qt,aT,rfl⟩:=a1.N2;refine⟨_,rfl,?_⟩;simp only at qt aT V;obtain⟨cs,bJ,aZ,V⟩:=EK V;obtain⟨c,e,e9,bV,E⟩:=a5.cells aT aZ;obtain⟨i,d,aj,dY,h|h⟩:=VW Al
 ·obtain⟨n,rfl,rfl,D⟩:=h;obtain⟨l,A,rfl⟩:=X0 V;rw[q1,rW]at A
  split at A
  ·rename_i dR
   cases A;have I:o+i.size<=cs.length\/i.size=0:=ab
   rcases I with I | au
   ·obtain⟨b6,Z,Dm,u⟩:=E.cut   I;refine⟨.agg ⟨b6⟩,?_,.agg Dm⟩;have M:=run_loadCells_list (P:=P) w ⟨p.cm,p.off+o,none⟩ b6 (λj v aJ=>by rw[pe];exact OS bV ab)
    rw[Z]at M;simp[loadVar,D,EF aj,M]
   ·refine⟨.agg #[],?_,.agg (by rw[au];simpa using dl.nil)⟩;simp[loadVar,D,EF aj,au,loadCells,loadCellsFrom]
  ·cases A
 ·obtain⟨rfl,D⟩:=h;have a6:=X1 V;rw[iS]at a6;obtain⟨dN,d3,aJ⟩:=E o v a6;refine⟨dN,?_,aJ⟩;have N:=OS bV d3;simp[loadVar,D,N]
structure aed (w a9:World) (g:Nat) (c:Array X) (e:TypeId) (e9:Nat × Nat):Prop where
 heap:a9.heap[g]? = some (.cells c e e9)
 size:a9.heap.size=w.heap.size
 frame:∀k,k≠g->a9.heap[k]? = w.heap[k]?
 os:a9.os=w.os
 tape:qD w a9
 output:a9.output=w.output
theorem ahO(w:World)(g i:Nat)(A:Array X)(e:TypeId)(D:Nat × Nat)(v:X)(I:w.heap[g]? = some (.cells A e D)):
  aed w (w.setCell ⟨g,i,none⟩ v) g (A.setIfInBounds i v) e D:=by
 refine⟨?_,by simp[World.setCell],λk E=>?_,rfl,.here,rfl⟩
 ·simp[World.setCell,Ij,I]
 ·simp[World.setCell,Ij,kw E]
theorem Vt{az:Type}(l:aa az)(k:Nat)(v:az)(A:aa az)(h:k+A.length+1<=l.length):
  (l.set k v).take (k+1)++A++(l.set k v).drop (k+1+A.length)=l.take k++(v::A)++l.drop (k+(A.length+1)):=by
 have E:(l.set k v).take (k+1)=l.take k++[v]:=by
  apply oq;intro j;simp only[xi,BB,p3,y9]
  grind
 have D:(l.set k v).drop (k+1+A.length)=l.drop (k+(A.length+1)):=by
  apply oq
  grind
 grind
theorem MY(P:Program)(g o:Nat)(e:TypeId)(ao aj:Nat):∀(aE:aa X) (i:Nat) (A:Array X) (w:World),w.heap[g]? = some (.cells A e (ao,aj))->(ao<aj->A.size<=ao) ->
  o+i+aE.length<=A.size->(∀v∈aE,v.oneCell'=true) ->
  ∃a9,(storeCells ⟨g,o,none⟩ aE i).run P w = .ok () a9/\aed w a9 g (A.toList.take (o+i)++aE++A.toList.drop (o+i+aE.length)).toArray e (ao,aj)
 | [],i,A,w,V,_,_,_=>by refine⟨w,rfl,⟨?_,rfl,ab,rfl,.here,rfl⟩⟩;simp[V]
 |v::I,i,A,w,V,lh,bb,h1=>by
  have cA:o+i<A.size:=ab
  have M:w.cell? ⟨g,o+i,none⟩=some A[o+i]:=by simp[World.cell?,V,cA]
  have Z:w.frozen? ⟨g,o+i,none⟩=false:=by
   simp only[World.frozen?,V]
   grind
  have E:=ahO w g (o+i) A e (ao,aj) v V;obtain⟨a9,N,D⟩:=MY P g o e ao aj I (i+1) (A.setIfInBounds (o+i) v) (w.setCell ⟨g,o+i,none⟩ v) E.heap ab ab ab;refine⟨a9,?_,?_⟩
  ·simp only[storeCells,Sem.run_bind];rw[pe,run_store P w _ v _ ab,M];simp[Z,N]
  ·refine⟨?_,D.size.trans E.size,λk hk=>(D.frame k hk).trans (E.frame k hk),D.os.trans E.os,E.tape.trans D.tape,D.output.trans E.output⟩;rw[D.heap]
   congr 3
   have:=Vt A.toList (o+i) v I J;simpa[Array.toList_setIfInBounds,vA]using this
theorem IK{P:Program}{B:Nat}{ai:ca}{h:ae}{w:World}(a5:d7 B ai (u h) w){o:Nat}(U:Nat)(aT:ai b=some p)(I:qb h b o l = .ok ac)(bb:dl ai l b6):
  ∃a9,(storeCells ⟨p.cm,p.off+o,none⟩ b6).run P w = .ok () a9/\cx B ai (u h) w U U ai (u ac) a9:=by
 obtain⟨cs,bJ,aZ,I⟩:=EK I;cases bJ with
 |true=>cases I
 |false =>
  have I:(bif ea l then R.of "write - out of block" (m9 l cs o) (λcs=>.ok (T h b (.cells cs false)))else .no "write - cells")=R.ok ac:=I;rcases M:ea l with _|_
  ·rw[M]at I;cases I
  rw[M]at I;have C0:∀v∈b6,v.oneCell'=true:=λv N=>WM (Nb bb M v N);obtain⟨sh,A,I⟩:=R.kR I;cases I;have Gv:=a5.obj b p _ aT aZ;obtain⟨et,au,c,e,ao,aj,h1,ar,aL,bm⟩:=Gv;rw[s3]at A
  split at A
  ·rename_i dR
   cases A;have fW:=bb.length;obtain⟨a9,ti,D⟩:=MY P p.cm (p.off+o) e ao aj b6 0 c w h1 J J C0;refine⟨a9,ti,?_⟩;rw[ul];refine cx.change U a5 aT aZ et D.size D.frame D.os D.tape D.output ?_;refine⟨et,au,_,e,ao,aj,D.heap,?_,?_,?_⟩
   ·grind
   ·intro i v N;simp only[iR,au,nK]at *
    have M:cs.length<=c.size:=J
    simp only[BB,p3,xh,xi,List.getElem?_toArray,Ek,Array.getElem?_toList,jm]at N ⊢;rcases jn i o with Z|Z
    ·simp only[show i<min o cs.length by omega,if_true,Z]at N;obtain⟨dN,V,E⟩:=aL i v N;rw[iR]at V;exact⟨dN,ab,E⟩
    ·rcases jn i (o+l.length)with tv|tv
     ·simp only[show ¬i<min o cs.length by omega,fa,show i-min o cs.length<l.length by omega,if_true]at N;obtain⟨dN,V,E⟩:=bb.get N;refine⟨dN,?_,E⟩
      grind
     ·simp only[show ¬i<min o cs.length by omega,fa,show ¬i-min o cs.length<l.length by omega]at N;obtain⟨dN,V,E⟩:=aL i v ab;refine⟨dN,?_,E⟩
      grind
   grind
  ·cases A
theorem Fr{a b:IntKind}:mc a b=true↔a=b:=by cases a <;> cases b <;> decide
theorem vH(a:IntKind):mc a a=true:=Fr.2 rfl
theorem ov(a b:Nat):Nat.blt a b=decide (a<b):=by rw[zc];simp[vB]
theorem zv{a b:Int}:fz a b=true↔a=b:=by
 cases a <;> cases b <;> simp[fz]
 all_goals omega
theorem kN(a b:Int):fz a b=(a == b):=by rw[zc,zv];simp
theorem alp{a b:Int}:la a b=true↔a<b:=by
 cases a with
 |ofNat m=>cases b with
  |ofNat n=>show Nat.blt m n=true↔_;rw[ov];simp
  |negSucc n=>show false=true↔_;grind
 |negSucc m=>cases b with
  |ofNat n=>show true=true↔_;grind
  |negSucc n=>show Nat.blt n m=true↔_;rw[ov];grind
theorem qX(a b:Int):la a b=decide (a<b):=by rw[zc,alp];simp
theorem Js{k:IntKind}{n:Int}(D:k.min<=n)(A:n<=k.max):k.wrap n=n:=by
 cases k <;> simp[IntKind.min,IntKind.max,IntKind.signed,IntKind.bits]at D A <;> simp[IntKind.wrap,IntKind.signed,IntKind.bits] <;> omega <;> omega
theorem nL(k:IntKind)(n:Int):ta k n=k.wrap n:=by
 cases n with
 |ofNat a =>
  show(bif Nat.blt a (x2 k)then Int.ofNat a else k.wrap (.ofNat a))=_;cases h:Nat.blt a (x2 k)with
  |false=>rfl
  |true =>
   have ac:a<x2 k:=by simpa[ov]using h
   refine(Js ?_ ?_).symm
   ·cases k <;> simp[IntKind.min,IntKind.signed,IntKind.bits] <;> omega
   ·cases k <;> simp[x2]at ac <;> simp[IntKind.max,IntKind.signed,IntKind.bits] <;> omega
 |negSucc a =>
  show(bif Nat.blt a (Gn k)then Int.negSucc a else k.wrap (.negSucc a))=_;cases h:Nat.blt a (Gn k)with
  |false=>rfl
  |true =>
   have ac:a<Gn k:=by simpa[ov]using h
   refine(Js ?_ ?_).symm
   ·cases k <;> simp[Gn]at ac <;> simp[IntKind.min,IntKind.signed,IntKind.bits] <;> omega
   ·cases k <;> simp[IntKind.max,IntKind.signed,IntKind.bits] <;> omega
theorem B4{k:Nat->R e4}{x:e4}(h:rb v k = .ok x):∃q n,v = .int q (.ofNat n)/\k n = .ok x:=by
 unfold rb at h
 split at h
 ·rename_i q n
  cases n with
  |ofNat n=>grind
  |negSucc n=>cases h
 grind
theorem bA.s4{ai:ca}{k:IntKind}{n:Int}(h:bA ai (.int k n) c):c = .int k n:=by cases h;rfl
theorem bA.E3{ai:ca}{b:al}(h:bA ai (.bool b) c):c = .bool b:=by cases h;rfl
theorem WN{ai:ca}:∀{l b6:aa X},il l=true->dl ai l b6->b6=l
 |_,_,_,.nil=>rfl
 |x::xs,_,h,.cons D A=>by simp[il]at h;rw[BP h.1 D,WN h.2 A]
theorem ud{ai:ca}(h:il (dh v)=true)(D:bA ai v c):c=v:=by
 cases D with
 |agg A=>rw[WN (by simpa[dh]using h) A]
 |_=>exact BP (ai:=ai) (by simpa[dh,il]using h) (by constructor <;> omega)
theorem ai5{a b:Lit}:QS a b=true↔a=b:=by
 cases a <;> cases b <;> simp[QS,Fr,zv]
theorem VX:∀{a b:aa Lit},zD a b=true↔a=b
 | [],[]=>by simp[zD]
 | [],_::_=>by simp[zD]
 |_::_,[]=>by simp[zD]
 |x::xs,y::A=>by simp[zD,ai5,VX]
theorem vI{P:Program}{r:al}(h:sg P t x y=some r):
  P.keyTypeAt 8 t=true/\x.formed P t=true/\y.formed P t=true/\il (dh x)=true/\il (dh y)=true /\
   ∃A D,P.keyLits 8 t (dh x)=some A/\P.keyLits 8 t (dh y)=some D/\(r=true↔A=D):=by
 unfold sg at h;cases E:(P.keyTypeAt 8 t&&(x.formed P t&&y.formed P t&&il (dh x)&&il (dh y)))with
 |false=>grind
 |true =>
  rw[E]at h;simp only[eC]at E;obtain⟨h1,⟨⟨Z,aL⟩,V⟩,N⟩:=E;refine⟨h1,Z,aL,V,N,?_⟩;simp only[p5]at h;cases I:P.keyLits 8 t (dh x)with
  |none=>rw[I]at h;cases h
  |some A =>
   cases M:P.keyLits 8 t (dh y)with
   |none=>rw[I,M]at h;cases h
   |some D =>
    rw[I,M]at h;cases h;exact⟨A,D,rfl,rfl,VX⟩
theorem IB(v:X):dh v=v.cells.toList:=by cases v <;> rfl
theorem ZY{P:Program}{r:al}(h:sg P t x y=some r)(d:Nat)(w:World):(Op.equalIn (d+8) t x y).run P w = .ok r w:=by
 obtain⟨M,A,D,_,_,E,I,cY,N,aj⟩:=vI h;obtain⟨V,Z,dy⟩:=run_equalIn_deep d 8 t M w 8 8 x y E I A D (by rw[<-IB];omega) (by rw[<-IB];omega)
 grind
theorem xq{P:Program}{r:al}(h:kP P t x y=some r):il (dh x)=true/\il (dh y)=true:=by
 unfold kP at h
 split at h
 ·unfold JT at h
  split at h
  ·exact⟨rfl,rfl⟩
  grind
 ·obtain⟨_,_,_,A,D,_⟩:=vI h;grind
theorem ag1{P:Program}(h:N1 P t=true):P.underlying t=some .bool:=by unfold N1 at h;grind
theorem ag9{P:Program}(h:vO P t=true):∃e,P.underlying t=some (.pointer e):=by unfold vO at h;grind
theorem M1{P:Program}(h:mY P t=true):∃e,P.underlying t=some (.slice e):=by unfold mY at h;grind
theorem M9{P:Program}(h:q3 P t=true):∃k e,P.underlying t=some (.map k e):=by unfold q3 at h;grind
theorem Vw{P:Program}(h:vN P t=true):∃k,P.underlying t=some (.int k):=by unfold vN at h;grind
theorem s0{az:Type}{b:al}{x:aw az}{r:az}(h:(bif b then x else none)=some r):b=true/\x=some r:=ab
theorem jD{az:Type}{b:al}{x:R az}{s:String}{r:az}(h:(bif b then x else .no s) = .ok r):b=true/\x = .ok r:=ab
theorem E4{az:Type}{b:al}{x:R az}{s:String}{r:az}(h:(bif b then .no s else x) = .ok r):b=false/\x = .ok r:=ab
theorem ao0{P:Program}(A:P.underlying t=some (.pointer e))(d:Nat)(b:aw Addr)(w:World):(Op.equalIn (d+1) t (.pointer none) (.pointer b)).run P w = .ok b.isNone w:=by
 cases b <;> simp[Op.equalIn,run_underlying A]
theorem ao1{P:Program}(A:P.underlying t=some (.pointer e))(d:Nat)(a:Addr)(w:World):(Op.equalIn (d+1) t (.pointer (some a)) (.pointer none)).run P w = .ok false w:=by simp[Op.equalIn,run_underlying A]
theorem asP{P:Program}(D:P.underlying t=some (.slice e))(d:Nat)(l c:Nat)(b:aw Addr)(b6 A:Nat)(w:World):(Op.equalIn (d+1) t (.slice none l c) (.slice b b6 A)).run P w = .ok b.isNone w:=by
 cases b <;> simp[Op.equalIn,run_underlying D]
theorem asQ{P:Program}(D:P.underlying t=some (.slice e))(d:Nat)(a:Addr)(l c:Nat)(b6 A:Nat)(w:World):(Op.equalIn (d+1) t (.slice (some a) l c) (.slice none b6 A)).run P w = .ok false w:=by simp[Op.equalIn,run_underlying D]
theorem ao2{P:Program}{k:TypeId}(A:P.underlying t=some (.map k e))(d:Nat)(b:aw Nat)(w:World):(Op.equalIn (d+1) t (.map none) (.map b)).run P w = .ok b.isNone w:=by
 cases b <;> simp[Op.equalIn,run_underlying A]
theorem ao3{P:Program}{k:TypeId}(A:P.underlying t=some (.map k e))(d:Nat)(a:Nat)(w:World):(Op.equalIn (d+1) t (.map (some a)) (.map none)).run P w = .ok false w:=by simp[Op.equalIn,run_underlying A]
theorem X2{P:Program}{ai:ca}{r:al}(h:oG P t x y=some r)(E:bA ai x dD)(D:bA ai y h3)(w:World):
  (Op.equal t dD h3).run P w = .ok r w:=by
 unfold oG at h
 split at h
 ·obtain⟨I,h⟩:=s0 h;have A:=ag1 I;unfold afz at h
  split at h
  ·cases h;rw[E.E3,D.E3];exact run_equal_bool w t _ _ A
  grind
 ·obtain⟨I,h⟩:=s0 h;obtain⟨e,A⟩:=ag9 I;unfold Gp at h
  split at h
  ·split at h
   ·cases h;cases E;cases D <;> exact ao0 A 9999 _ w
   ·cases h;cases E;cases D;exact ao1 A 9999 _ w
   grind
  grind
 ·obtain⟨I,h⟩:=s0 h;obtain⟨e,A⟩:=M1 I;unfold Ro at h
  split at h
  ·split at h
   ·cases h;cases E;cases D <;> exact asP A 9999 _ _ _ _ _ w
   ·cases h;cases E <;> cases D <;> exact asQ A 9999 _ _ _ _ _ w
   grind
  grind
 ·obtain⟨I,h⟩:=s0 h;obtain⟨k,e,A⟩:=M9 I;unfold afA at h
  split at h
  ·split at h
   ·cases h;cases E;cases D <;> exact ao2 A 9999 _ w
   ·cases h;cases E;cases D;exact ao3 A 9999 _ w
   grind
  grind
 ·obtain⟨_,h⟩:=s0 h;obtain⟨_,_,_,N,M,_⟩:=vI h;rw[ud N E,ud M D];exact ZY h 9992 w
 grind
theorem zn{b:al}(h:nP b = .ok v):v = .bool b:=by cases h;rfl
theorem q4{k:IntKind}{n:Int}(h:iV k n = .ok v):v = .int k n:=by cases h;rfl
theorem alq(a b:Int):(!la b a)=decide (a<=b):=by rw[qX,zc];simp
theorem ao4(a b:Int):(!fz a b)=(a != b):=by rw[kN];rfl
theorem ao5{P:Program}{op:BinOp}{k:IntKind}{a b:Int}(t:TypeId)(D:xB op=false)(h:Dj op k a b = .ok v)(w:World):
  (binOp op t (.int k a) (.int k b)).run P w = .ok v w:=by
 cases op <;> simp only[Dj,xB]at h D
 all_goals first
  |(cases D;done)
  |(rw[q4 h,nL];simp[binOp,Op.intArith];done)
  |(rw[q4 h,nL];simp[binOp,Op.intArith];rfl)
  |(rw[zn h];simp[binOp,Op.intCmp,qX,kN];done)
  |(rw[zn h,alq];simp[binOp,Op.intCmp];done)
  |(rw[zn h,ao4];simp[binOp,Op.intCmp];done)
  |skip
 all_goals first
  |(simp only[CS]at h;obtain⟨I,E⟩:=E4 h;have A:¬b=0:=(by rw[kN]at I;grind);rw[q4 E];simp[binOp,Op.intDiv,A,nL];done)
  |(simp only[F5]at h;rw[q4 h];simp[binOp,Op.intBits];done)
  |(simp only[F5]at h;cases h;done)
theorem alr{P:Program}{op:BinOp}{k:IntKind}{a b:Int}(t:TypeId)(h:zY op k a dm b = .ok v)(w:World):
  (binOp op t (.int k a) (.int dm b)).run P w = .ok v w:=by
 unfold zY at h;cases A:xB op with
 |true =>
  rw[A]at h;simp only[p5,vT]at h;obtain⟨M,E⟩:=E4 h;have D:¬b<0:=by rw[qX]at M;grind
  cases op <;> simp only[xB]at A
  all_goals first
   |(cases A;done)
   |(rw[q4 E];simp[binOp,Op.shift,D,nL];done)
 |false =>
  rw[A]at h;simp only[my]at h;obtain⟨N,E⟩:=jD h;have I:=Fr.1 N;rw[<-I];exact ao5 t A E w
def mI(P:Program)(ai:ca)(v:X)(s:Sem X):Prop:=∃c,bA ai v c/\∀w,s.run P w = .ok c w
def FT:X->al
 | .bool _=>true | .pointer _=>true | .slice _ _ _=>true | .map _=>true | .agg _=>true|_=>false
theorem binOp_eql{a b:X}(h:FT a=true):binOp .eql t a b=(do pure (.bool (<-Op.equal t a b))):=by
 cases a <;> first|(cases h;done)|(cases b <;> rfl)
theorem binOp_neq{a b:X}(h:FT a=true):binOp .neq t a b=(do pure (.bool (!(<-Op.equal t a b)))):=by
 cases a <;> first|(cases h;done)|(cases b <;> rfl)
def P5:X->al
 | .nilIface=>false | .agg _=>false|_=>true
theorem EB{P:Program}{op:BinOp}{x y:Operand}{a b:X}(h:P5 a=true)(w:World):(eqGuard op t x y a b).run P w = .ok () w:=by
 cases a <;> first|(cases h;done)|(cases op <;> simp[eqGuard])
theorem ahk{P:Program}{op:BinOp}{x y:Operand}{a:Array X}{b:X}(h:Fl P t=true)(w:World):(eqGuard op t x y (.agg a) b).run P w = .ok () w:=by
 have ac:P.eqGuardType P.depth t=false:=by simpa[Fl]using h
 cases b <;> cases op <;> simp[eqGuard,ac]
theorem bA.other{ai:ca}(h:bA ai x c):FT c=FT x:=by cases h <;> rfl
theorem bA.Kb{ai:ca}(h:bA ai x c):P5 c=P5 x:=by cases h <;> rfl
section
variable {P:Program} {ai:ca}
theorem ao6{op:BinOp}{k:IntKind}{a b:Int}(h:zY op k a dm b = .ok v):bA ai v v:=by
 have D:∀{k n},iV k n = .ok v->bA ai v v:=λh=>by rw[q4 h];exact .int _ _
 have M:∀{b},nP b = .ok v->bA ai v v:=λh=>by rw[zn h];exact .bool _
 unfold zY at h;cases E:xB op with
 |true =>
  rw[E]at h;simp only[p5,vT]at h;obtain⟨_,A⟩:=E4 h;cases op <;> simp only[]at A <;> first|exact D A|(cases A;done)
 |false =>
  rw[E]at h;simp only[my]at h;obtain⟨_,A⟩:=jD h;cases op <;> simp only[Dj,CS,F5]at A
  all_goals first
   |exact D A
   |exact M A
   |(cases A;done)
   |(obtain⟨_,I⟩:=E4 A;exact D I)
theorem VY{b:al}(h:oG P t x y=some b):FT x=true:=by
 unfold oG at h
 split at h <;> first|rfl|(cases h;done)
theorem VZ{b:al}(h:oG P t x y=some b)(A:bA ai x dD)(op:BinOp)(D I:Operand)(h3:X)(w:World):(eqGuard op t D I dD h3).run P w = .ok () w:=by
 unfold oG at h
 split at h
 ·exact EB A.Kb w
 ·exact EB A.Kb w
 ·exact EB A.Kb w
 ·exact EB A.Kb w
 ·obtain⟨E,_⟩:=s0 h;cases A with
  |agg M=>exact ahk E w
 grind
theorem ao7{op:BinOp}(I M:Operand)(h:bin P op t x y = .ok v)(D:bA ai x dD)(E:bA ai y h3):
  mI P ai v (do eqGuard op t I M dD h3;binOp op t dD h3):=by
 unfold bin at h
 split at h
 ·unfold afC at h
  split at h
  ·rw[D.s4,E.s4];refine⟨v,ao6 h,λw=>?_⟩;rw[Sem.run_bind,EB rfl];exact alr t h w
  ·cases h
 ·unfold afB at h
  split at h
  ·obtain⟨b,A,h⟩:=R.kR h;rw[zn h];refine⟨_,.bool _,λw=>?_⟩;rw[Sem.run_bind,VZ A D,binOp_eql (by rw[D.other];exact VY A)];simp[X2 A D E]
  ·obtain⟨b,A,h⟩:=R.kR h;rw[zn h];refine⟨_,.bool _,λw=>?_⟩;rw[Sem.run_bind,VZ A D,binOp_neq (by rw[D.other];exact VY A)];simp[X2 A D E]
  ·cases h
theorem ao8{op:UnOp}(h:dr op x = .ok v)(A:bA ai x dD):mI P ai v (Op.unary op dD):=by
 unfold dr at h
 split at h
 ·rw[A.E3]
  split at h
  ·rw[zn h];exact⟨_,.bool _,λw=>rfl⟩
  ·cases h
 ·rw[A.s4]
  split at h
  ·rw[q4 h,nL];exact⟨_,.int _ _,λw=>rfl⟩
  ·rw[q4 h];exact⟨_,.int _ _,λw=>rfl⟩
  ·cases h
 ·cases h
theorem ai6{s d:TypeId}{j3 A:TypeDesc}(I:P.underlying s=some j3)(D:P.underlying d=some A)(h:qe A x = .ok v)(E:bA ai x dD):mI P ai v (convert s d dD):=by
 unfold qe at h
 split at h
 ·rw[E.s4]
  split at h
  ·rw[q4 h,nL];exact⟨_,.int _ _,λw=>by simp[convert,run_underlying I,run_underlying D,Conv.intToInt]⟩
  ·cases h
 ·cases h
theorem ahP(h:bs x = .ok v):v=x/\((∃a,x = .pointer (some a))\/(∃f a b,x = .func (.func f) a b)\/(∃f a b,x = .func (.yield f) a b)\/∃t y,x = .iface t y):=by
 unfold bs at h
 grind
theorem ao9(h:zi P t=true)(D:bA ai x dD):mI P ai (.iface t x) (Instr.makeInterface t dD):=by
 unfold zi at h
 split at h
 ·cases h
 ·rename_i d A E
  refine⟨_,.iface t D,λw=>?_⟩;cases d <;> first|(exact(A _ rfl).elim)|simp[Instr.makeInterface,run_underlying E]
 ·cases h
theorem ahl{Z:TypeId}(h:Fq P t ok x = .ok v)(V:bA ai x dD):mI P ai v (Instr.typeAssert dD Z t ok):=by
 unfold Fq at h
 split at h
 ·obtain⟨I,h⟩:=jD h;cases h;simp only[eC]at I;obtain⟨A,D⟩:=I;cases gG D;cases V with
  | @iface _ _ M E =>
   refine⟨if ok then .tuple #[M,.bool true]else M,?_,λw=>?_⟩
   ·cases ok with
    |true=>exact .tuple (.cons E (.cons (.bool _) .nil))
    |false=>exact E
   unfold zi at A
   split at A
   ·grind
   ·rename_i d N dY
    cases d <;> first|(exact(N _ rfl).elim)|simp[Instr.typeAssert,run_underlying dY]
   grind
 ·cases h
theorem aha(h:cy x i = .ok v)(D:bA ai x dD):mI P ai v (Instr.extract dD i):=by
 unfold cy at h
 split at h
 ·obtain⟨y,A,h⟩:=R.kR h;cases h;cases D with
  |tuple I =>
   rw[iS]at A;obtain⟨c,E,M⟩:=I.get A;refine⟨c,M,λw=>?_⟩;simp[Instr.extract,E]
 ·cases h
theorem X3{b:al}(h:min2 b x y = .ok v)(A:bA ai x dD)(D:bA ai y h3):mI P ai v (bif b then Builtin.min2 dD h3 else Builtin.max2 dD h3):=by
 unfold min2 at h
 split at h
 ·split at h
  ·obtain⟨E,h⟩:=jD h;rw[A.s4,D.s4];cases b with
   |true =>
    simp only[p5]at h;rw[q4 h,qX];refine⟨_,.int _ _,λw=>?_⟩;simp only[p5,Builtin.min2]
    congr 2
    simp
   |false =>
    simp only[my]at h;rw[q4 h,qX];refine⟨_,.int _ _,λw=>?_⟩;simp only[my,Builtin.max2]
    congr 2
    simp
  ·cases h
 ·cases h
end
section
variable {P:Program} {ai:ca}
theorem P6{a:Nat}(h:Nat.blt a b=true):a<b:=by rw[ov]at h;grind
theorem VG{s:Nat}(h:Cl P t=some s):∃e,P.underlying t=some (.slice e)/\jG P e=some s:=by
 unfold Cl at h
 grind
theorem EG(k:IntKind)(n:Int)(w:World):(asIntOf (.int k n)).run P w = .ok (k,n) w:=rfl
theorem vC(k:IntKind)(n y:Nat)(code:BoundsCode)(h:n<=y)(w:World):(Instr.sliceBound (.int k (.ofNat n)) y code).run P w = .ok n w:=by simp[Instr.sliceBound,EG,h]
theorem Jt{x:aw X}{n:Nat}(h:zZ x d = .ok n):(x=none/\n=d)\/∃k,x=some (.int k (.ofNat n)):=by
 cases x with
 |none=>cases h;grind
 |some v =>
  obtain⟨q,m,rfl,A⟩:=B4 h
  grind
def tQ(ai:ca)(x c:aw X):Prop:=match x,c with
 |none,none=>True
 |some v,some c=>bA ai v c
 |_,_=>False
theorem tQ.none{c:aw X}(h:tQ ai none c):c=none:=by cases c with|none=>rfl|some c=>exact h.elim
theorem tQ.int{c:aw X}{k:IntKind}{n:Int}(h:tQ ai (some (.int k n)) c):c=some (.int k n):=by cases c with|none=>exact h.elim|some c=>rw[bA.s4 h]
theorem ahQ{ao aj:aw X}(rH:tQ ai ao d6)(D:tQ ai aj dy)(E:tQ ai iJ KZ){up A l:Nat}(h1:zZ iJ cap = .ok m)(ar:zZ aj len = .ok A)(aL:zZ ao 0 = .ok l)(Z:iJ.isSome=true->aj.isSome=true)(bl:m<=cap)(I:A<=m)(V:l<=A)(w:World):
  (Instr.sliceBounds true len (cap+up) d6 dy KZ).run P w = .ok (l,A,if iJ.isSome then m else cap+up) w:=by
 rcases Jt h1 with⟨rfl,rfl⟩|⟨mk,rfl⟩ <;> rcases Jt ar with⟨rfl,rfl⟩|⟨M,rfl⟩ <;> rcases Jt aL with⟨rfl,rfl⟩|⟨N,rfl⟩
 ·rw[rH.none,D.none,E.none];simp only[Instr.sliceBounds,Sem.run_bind,Sem.run_pure,Result.andThen_ok,BE,nH,fa]
 ·rw[rH.int,D.none,E.none];simp only[Instr.sliceBounds,Sem.run_bind,Sem.run_pure,Result.andThen_ok,BE,nH,fa,vC N l A _ V w]
 ·rw[rH.none,D.int,E.none];simp only[Instr.sliceBounds,Sem.run_bind,Sem.run_pure,Result.andThen_ok,BE,nH,fa,if_true,vC M A (m+up) _ J w]
 ·rw[rH.int,D.int,E.none];simp only[Instr.sliceBounds,Sem.run_bind,Sem.run_pure,Result.andThen_ok,BE,nH,fa,if_true,vC M A (m+up) _ J w,vC N l A _ V w]
 ·grind
 ·grind
 ·rw[rH.none,D.int,E.int];simp only[Instr.sliceBounds,Sem.run_bind,Sem.run_pure,Result.andThen_ok,MP,if_true,vC mk m (cap+up) _ J w,vC M A m _ I w]
 ·rw[rH.int,D.int,E.int];simp only[Instr.sliceBounds,Sem.run_bind,Sem.run_pure,Result.andThen_ok,MP,if_true,vC mk m (cap+up) _ J w,vC M A m _ I w,vC N l A _ V w]
theorem ue(I:P.underlying t=some (.slice e)){s:Nat}(D:jG P e=some s)(A:aw Addr)(len cap:Nat)(ao aj iJ:aw X){l h:Nat}{w:World}(E:(Instr.sliceBounds true len cap ao aj iJ).run P w = .ok (l,h,m) w):
  (Instr.sliceAt t (.slice A len cap) ao aj iJ).run P w = .ok (.slice (if m=l then A else A.map (·.add (l*s))) (h-l) (m-l)) w:=by simp[Instr.sliceAt,Instr.slice,run_underlying I,E,j9 D]
theorem apa{ao aj:aw X}(rH:tQ ai ao d6)(aBc:tQ ai aj dy)(Uv:tQ ai iJ KZ){s:Nat}(ap:Cl P t=some s)(h:gW s x ao aj iJ = .ok v)(a1:bA ai x dD):mI P ai v (Instr.sliceAt t dD d6 dy KZ):=by
 obtain⟨e,N,A⟩:=VG ap;unfold gW at h
 split at h
 ·rename_i a8 len cap
  obtain⟨hmh,h⟩:=jD h;obtain⟨m,h1,h⟩:=R.e7 h;obtain⟨M,ar,h⟩:=R.e7 h;obtain⟨l,aL,h⟩:=R.e7 h;obtain⟨aZ,h⟩:=jD h;simp only[eC]at aZ;obtain⟨bl,Si,bb⟩:=aZ;have bl:=l0 bl;have Si:=l0 Si;have bb:=l0 bb;have axi:iJ.isSome=true->aj.isSome=true:=ab
  have B:∀up w,_:=λup w=>ahQ (P:=P) (up:=up) rH aBc Uv h1 ar aL axi bl Si bb w;have Sj:iJ.isSome=false->m=cap:=λa1=>by
   rcases Jt h1 with⟨rfl,rfl⟩|⟨k,rfl⟩
   all_goals grind
  unfold uy at h;cases Z:Nat.beq m l with
  |true =>
   have E:=gG Z;subst E;have hhm:M=m:=J
   subst hhm;rw[Z]at h;simp only[p5]at h;unfold kO at h;cases D:(zu a8&&!iJ.isSome)with
   |true =>
    rw[D]at h;cases h;simp only[eC,MQ]at D;have rf:=Sj D.2;subst rf;cases a1 with
    | @ox b o mp p V bE _ _ =>
     by_cases qt:p.spare=0
     ·refine⟨_,.oy b o p.cm (p.off+o) 0,λw=>?_⟩;rw[ue N A _ _ _ _ _ _ (B p.spare w)]
      grind
     ·refine⟨_,.oy b o p.cm (p.off+o+M*s) p.spare,λw=>?_⟩;rw[ue N A _ _ _ _ _ _ (B p.spare w)];simp[D.2,qt,pe]
    |oy b o g aX c =>
     refine⟨_,.oy b o g aX c,λw=>?_⟩;have:=ue N A (some ⟨g,aX,none⟩) _ _ _ _ _ (B c w);simp only[iR]at this;rw[this];simp[D.2,pe]
    |qW=>cases D.1
    |kO=>cases D.1
   |false =>
    rw[D]at h;simp only[my]at h;obtain⟨cZ,h⟩:=E4 h;cases h;cases a1 with
    |qW =>
     refine⟨_,.qW _ _,λw=>?_⟩;have:=ue N A none _ _ _ _ _ (B 0 w)
     grind
    | @kO b o p V _ _ =>
     refine⟨.slice (some ⟨p.cm,p.off+(o+0),none⟩) (Nat.sub M M) (Nat.sub M M),?_,λw=>?_⟩
     ·cases I:iJ.isSome <;> exact .kO V _ _
     ·have:=ue N A (some ⟨p.cm,p.off+o,none⟩) _ _ _ _ _ (B 0 w)
      grind
    | @ox b o mp p V bE _ _ =>
     have avc:iJ.isSome=true:=by simpa[zu]using D
     refine⟨.slice (some ⟨p.cm,p.off+(o+0),none⟩) (Nat.sub M M) (Nat.sub M M),?_,λw=>?_⟩
     ·simp only[avc];exact .kO V _ _
     ·rw[ue N A _ _ _ _ _ _ (B p.spare w)]
      grind
    |oy=>cases cZ
  |false =>
   have E:=Nat.ne_of_beq_eq_false Z;rw[Z]at h;simp only[my]at h;cases h;cases a1 with
   |qW =>
    refine⟨_,.qW _ _,λw=>?_⟩;have:=ue N A none _ _ _ _ _ (B 0 w)
    grind
   | @kO b o p V _ _ =>
    refine⟨.slice (some ⟨p.cm,p.off+(o+l*s),none⟩) (M-l) (m-l),?_,λw=>?_⟩
    ·cases I:iJ.isSome <;> exact .kO V _ _
    ·have:=ue N A (some ⟨p.cm,p.off+o,none⟩) _ _ _ _ _ (B 0 w);simp only[nK]at this;rw[this];cases I:iJ.isSome with
     |true=>simp[E,pe,vA]
     |false=>have:=Sj I;subst this;simp[E,pe,vA]
   | @ox b o mp p V bE _ _ =>
    cases I:iJ.isSome with
    |true =>
     refine⟨.slice (some ⟨p.cm,p.off+(o+l*s),none⟩) (M-l) (m-l),?_,λw=>?_⟩
     ·exact .kO V _ _
     ·rw[ue N A _ _ _ _ _ _ (B p.spare w)];simp[I,E,pe,vA]
    |false =>
     have axj:=Sj I;subst axj;refine⟨.slice (some ⟨p.cm,p.off+(o+l*s),none⟩) (M-l) (m-l+p.spare),?_,λw=>?_⟩
     ·exact .ox V bE _ _
     ·rw[ue N A _ _ _ _ _ _ (B p.spare w)];have:¬m+p.spare=l:=J
      simp[I,this,pe,vA];omega
   |oy=>omega
 ·cases h
theorem bA.ZZ{o:Nat}(h:bA ai (.pointer (some ⟨b,o,aO⟩)) c):∃p,ai b=some p/\aO=none/\c = .pointer (some ⟨p.cm,p.off+o,none⟩):=by
 cases h with
 |ptr h=>grind
theorem I2{o n:Nat}(h:ai b=some p):bA ai (CD ⟨b,o,aO⟩ n) (.pointer (some ⟨p.cm,p.off+o+n,none⟩)):=by rw[show p.off+o+n=p.off+(o+n) by omega];exact .ptr h
theorem Vx{f:Nat × TypeId}(h:B3 P t i=some f):
  ∃A uU n,P.underlying t=some (.struct A)/\A[i]? = some uU/\f=(uU.offset,uU.type)/\jG P uU.type=some (n+1):=by
 unfold B3 at h
 split at h
 ·rename_i A I
  split at h
  ·rename_i uU D
   split at h
   ·rename_i n E
    cases h;rw[iS]at D
    grind
   grind
  grind
 grind
theorem ahm{f:Nat × TypeId}{a:Addr}(h:B3 P t i=some f)(E:bA ai (.pointer (some a)) dD):mI P ai (CD a f.1) (Instr.fieldAt t dD i):=by obtain⟨N,uU,n,M,I,rfl,D⟩:=Vx h;obtain⟨b,o,aO⟩:=a;obtain⟨p,A,rfl,rfl⟩:=E.ZZ;refine⟨_,I2 A,λw=>?_⟩;simp[Instr.fieldAt,run_underlying M,I,Instr.sureAddr,fieldPlace,j9 D,pe]
theorem X4(E:pj P e=some bL)(h:h0 bL off l = .ok v)(M:dl ai l b6):mI P ai v (part e ⟨b6⟩ off):=by
 obtain⟨i,d,aj,Z,ac | ac⟩:=VW E
 ·obtain⟨n,rfl,rfl,D⟩:=ac;obtain⟨k,A,rfl⟩:=X0 h;rw[q1,rW]at A
  split at A
  ·cases A;refine⟨.agg ⟨(b6.drop off).take i.size⟩,.agg ((M.drop _).take _),λw=>?_⟩;simp[part,D,EF aj]
  ·cases A
 ·obtain⟨rfl,D⟩:=ac;have I:=X1 h;rw[iS]at I;obtain⟨c,N,V⟩:=M.get I;refine⟨c,V,λw=>?_⟩;simp[part,D,N]
theorem als{f:Nat × TypeId}(M:B3 P t i=some f)(D:pj P f.2=some bL)(h:x3 f.1 bL x = .ok v)(E:bA ai x dD):mI P ai v (Instr.field t dD i):=by
 obtain⟨ds,uU,n,Z,A,rfl,bH⟩:=Vx M;unfold x3 at h
 split at h
 ·cases E with
  |agg N =>
   obtain⟨c,V,I⟩:=X4 D h N;refine⟨c,V,λw=>?_⟩;simp[Instr.field,run_underlying Z,A,asAgg,I w]
 ·cases h
theorem WO{k:wt}(h:Kt P t=some k):(∃e s,P.underlying t=some (.slice e)/\jG P e=some s/\k = .slice s)\/∃n e s,P.underlying t=some (.array n e)/\jG P e=some s/\k = .array n s:=by
 unfold Kt at h
 grind
theorem agW{k:wt}(Z:Kt P t=some k)(h:xt k x i = .ok v)(V:bA ai x dD):
  mI P ai v (Instr.indexAt t dD (.int q (.ofNat i))):=by
 unfold xt at h
 split at h
 ·split at h
  ·rename_i s
   obtain⟨A,h⟩:=jD h;have A:=P6 A;cases h;rcases WO Z with⟨e,N,E,I,D⟩|⟨n,e,N,E,I,D⟩
   ·cases D;cases V with
    |kO M =>
     refine⟨_,I2 M,λw=>?_⟩;simp[Instr.indexAt,EG,run_underlying E,A,j9 I,pe]
    |ox M D =>
     refine⟨_,I2 M,λw=>?_⟩;simp[Instr.indexAt,EG,run_underlying E,A,j9 I,pe]
    |oy=>omega
   ·cases D
  ·cases h
 ·split at h
  ·obtain⟨A,h1⟩:=jD h;have A:=P6 A;cases h1;rcases WO Z with⟨e,N,E,I,D⟩|⟨jM,e,N,E,I,D⟩
   ·cases D
   ·cases D;cases V with
    |ptr M =>
     refine⟨_,I2 M,λw=>?_⟩;simp[Instr.indexAt,EG,run_underlying E,A,j9 I,pe,Instr.sureAddr]
  ·cases h
 ·cases h
theorem ahR(h:P2 P t x i = .ok v)(N:bA ai x dD):mI P ai v (Instr.index t dD (.int q (.ofNat i))):=by
 cases x <;> simp only[P2]at h
 case agg cs =>
  cases D:P.underlying t with
  |none=>rw[D]at h;cases h
  |some d =>
   rw[D]at h;cases d <;> try(cases h;done)
   case array n e =>
    obtain⟨A,V⟩:=jD h;have A:=P6 A;obtain⟨bL,E,M⟩:=R.kR V;obtain⟨s,ap,Z⟩:=R.kR M;cases N with
    |agg bb =>
     obtain⟨c,aJ,a5⟩:=X4 E Z bb;refine⟨c,aJ,λw=>?_⟩;have I:=a5 w;have aV:Nat.mul i s=i*s:=rfl;rw[aV]at I;simp[Instr.index,EG,run_underlying D,A,j9 ap,I]
 all_goals (cases h;done)
theorem alt{I:TypeId}(A:ag[0]? = some t)(h:Gr P t x = .ok v)(D:bA ai x dD):mI P ai v (Builtin.cap_ ag I #[dD]):=by
 obtain⟨M,h⟩:=jD h;obtain⟨e,E⟩:=M1 M;unfold afD at h
 split at h
 ·rw[q4 h];cases D;exact⟨_,.int _ _,λw=>by simp[Builtin.cap_,A,run_underlying E,goInt]⟩
 ·rw[q4 h];cases D;exact⟨_,.int _ _,λw=>by simp[Builtin.cap_,A,run_underlying E,goInt]⟩
 ·cases h
theorem zh(h:nM P t=some l):∃i z,P.info? t=some i/\i.zero=some z/\ux z=true/\l=z.cells.toList:=by
 unfold nM at h
 grind
theorem ahb(h:Jr P t=some z):∃i,P.info? t=some i/\i.zero=some z/\ux z=true:=by
 unfold Jr at h
 grind
theorem xz{i:TypeInfo}(aj:P.info? t=some i)(A:i.zero=some z)(w:World):(zeroValue t).run P w = .ok z w:=by simp[zeroValue,typeInfo,aj,A]
theorem xp(h:ux z=true)(ai:ca):dl ai z.cells.toList z.cells.toList:=by have:=(EE h ai).cells;rwa[IB]at this
theorem Z0(off:Nat):∀(l:aa X) (k:Nat) (cells:Array X),off+k+l.length<=cells.size ->
  ((l.zipIdx k).foldl (λcs (x:X × Nat)=>cs.setIfInBounds (off+x.2) x.1) cells).toList=cells.toList.take (off+k)++l++cells.toList.drop (off+k+l.length)
 | [],k,cells,_=>by simp
 |v::A,k,cells,h=>by simp only[List.zipIdx_cons,Es];rw[Z0 off A (k+1) (cells.setIfInBounds (off+k) v) ab];have:=Vt cells.toList (off+k) v A J;simpa[Array.toList_setIfInBounds,vA]using this
theorem dl.put{c A:aa X}(E:dl ai l b6)(D:dl ai c A)(o n:Nat):dl ai (c.take o++(l++c.drop n)) (A.take o++(b6++A.drop n)):=
 (D.take o).append (E.append (D.drop n))
def Loc(ai:ca)(ak:cc)(t:Array X)(l:Array Operand):Prop:=∀d v,Operand.tmp d∈l->hc ak d=some v->bA ai (ra v) (t.getD d undef)
theorem jf.loc{t:Array X}(h:jf ai ak t)(l:Array Operand):Loc ai ak t l:=λd v _=>h d v
theorem Loc.ec{a:Act}{l:Array Operand}(N:Loc ai ak a.tmps l){x:Operand}(E:x∈l){y:e5}(A:cX x=some y)(h:d2 ak y = .ok v):bA ai v (a.eval x):=by
 cases x with
 |tmp t =>
  cases A;unfold d2 at h;cases D:hc ak t with
  |none=>simp only[D]at h;cases h
  |some o =>
   have:=N t o E D;cases o <;> simp only[D]at h <;> cases h <;> exact this
 |const c =>
  obtain⟨M,I⟩:=s0 A;cases I;cases h;exact EE M ai
 |global g=>cases A
 |func f=>cases A;cases h;exact .func f .nil .nil
theorem Loc.uY{ak:cc}{a:Act}{l:Array Operand}(I:Loc ai ak a.tmps l):∀{xs:aa Operand} {D:aa e5} {aE:aa X},(∀x∈xs,x∈l)->yj xs=some D->pu ak D = .ok aE->dl ai aE (xs.map a.eval)
 | [],D,aE,_,A,h=>by cases A;cases h;exact .nil
 |x::xs,D,aE,E,A,h=>by
  unfold yj at A
  split at A
  ·rename_i y V h1 M
   cases A;obtain⟨v,N,h⟩:=R.e7 (show R.bind (d2 ak y) _=_ from h);obtain⟨Sk,Z,h⟩:=R.e7 h;cases h;exact .cons (I.ec (E x (by simp)) h1 N) (I.uY (λz cZ=>E z ab) M Z)
  ·cases A
theorem Loc.Sl{a:Act}{l:Array Operand}(M:Loc ai ak a.tmps l){x:aw Operand}(I:∀y,x=some y->y∈l){y:aw e5}(A:GK x=some y){v:aw X}(h:Kz ak y = .ok v):tQ ai v (x.map a.eval):=by
 cases x with
 |none=>cases A;cases h;trivial
 |some x =>
  unfold GK at A;cases D:cX x with
  |none=>simp only[D]at A;cases A
  |some z =>
   simp only[D]at A;cases A;obtain⟨E,N,h⟩:=R.e7 (show R.bind (d2 ak z) _=_ from h);cases h;exact M.ec (I _ rfl) D N
theorem I3{ak:cc}{a:Act}{a4:Array Operand}(fq:Loc ai ak a.tmps a4)(D:Nat->aw (Nat × Nat)):∀(E:aa (Nat × Operand)) (cs:aa (Nat × Nat × e5)) (aE:aa (Nat × Nat × X)) (cells A l:aa X),(∀x∈E,x.2∈a4) ->
  Cm D E=some cs->FR ak cs = .ok aE->dl ai cells A->pk aE cells = .ok l ->
  ∃b6,Instr.fill D ⟨A⟩ (E.map λx=>(x.1,a.eval x.2))=some ⟨b6⟩/\dl ai l b6
 | [],cs,aE,cells,A,l,_,aZ,Z,a5,h=>by cases aZ;cases Z;cases h;exact⟨A,rfl,a5⟩
 |(i,x)::xs,cs,aE,cells,A,l,bl,aZ,Z,a5,h=>by
  unfold Cm at aZ
  split at aZ
  ·rename_i p y r V hco N
   cases aZ;obtain⟨v,aJ,Z⟩:=R.e7 (show R.bind (d2 ak y) _=_ from Z);obtain⟨Sk,GP,Z⟩:=R.e7 Z;cases Z;obtain⟨fW,aL⟩:=jD (show(bif Nat.beq (jo (dh v)) p.2 then R.of "fill" (m9 (dh v) cells p.1) (pk Sk)else .no "fill - size") = .ok l from h);obtain⟨azC,I,bm⟩:=R.kR aL;have wx:=(fq.ec (bl (i,x) (by simp)) hco aJ).cells;have bH:p.2=(dh v).length:=(gG fW).symm;rw[s3]at I
   split at I
   ·rename_i dR
    cases I;have oM:=wx.length;have tw:=a5.length;obtain⟨b6,M,Rs⟩:=I3 fq D xs r Sk _ _ l (λz cZ=>bl z ab) N GP (wx.put a5 p.1 (p.1+(dh v).length)) bm;refine⟨b6,?_,Rs⟩;obtain⟨off,sF⟩:=p;simp only at bH dR M;have V:D i=some (off,sF):=V;simp only[t9,Instr.fill,V];have:((a.eval x).cells.zipIdx.foldl (λcs (x:X × Nat)=>cs.setIfInBounds (off+x.2) x.1) (⟨A⟩:Array X))=⟨A.take off++((a.eval x).cells.toList++A.drop (off+(dh v).length))⟩:=by
     apply Array.ext';rw[<-y7,Array.toList_zipIdx,Z0 off _ 0 _ ab]
     grind
    grind
   ·cases I
  ·cases aZ
theorem Vy:∀{D:aa Field} {A:aa (Nat × Nat)},I0 P D=some A->∀w,(D.mapM λf=>(do pure (f.offset,<-sizeOf f.type):Sem (Nat × Nat))).run P w = .ok A w
 | [],A,h,w=>by cases h;rfl
 |f::D,A,h,w=>by
  unfold I0 at h
  split at h
  ·rename_i s r I E
   cases h;have:=Vy E w;simp only[BI,Sem.run_bind,j9 I,Result.andThen_ok,Sem.run_pure,this]
  grind
theorem alu{a:Act}(fq:Loc ai ak a.tmps a4){A:Array (Nat × Operand)}(bl:∀x∈A.toList,x.2∈a4){w0:aa X}{pl:Nat->aw (Nat × Nat)}{cs:aa (Nat × Nat × e5)}{aE:aa (Nat × Nat × X)}(cZ:nM P t=some w0)(D:OQ P t=some pl)(aZ:Cm pl A.toList=some cs)(Z:FR ak cs = .ok aE)(h:cS w0 aE = .ok v):mI P ai v (Instr.build t (A.map λ(i,x)=>(i,a.eval x))):=by
 obtain⟨l,bK,aL⟩:=R.e7 h;cases aL;obtain⟨i,z,aj,nf,N,rfl⟩:=zh cZ;have V:(A.map λ(i,x)=>(i,a.eval x)).toList=A.toList.map λx=>(x.1,a.eval x.2):=by simp
 unfold OQ at D
 split at D
 ·rename_i ds dY
  split at D
  ·rename_i cb Am
   cases D;obtain⟨b6,M,I⟩:=I3 fq (gU cb) A.toList cs aE _ _ l bl aZ Z (xp N ai) bK;refine⟨_,.agg I,λw=>?_⟩;have Sm:=Vy  Am w;have D:(λi=>gU cb i)=(λi=>cb.toArray[i]?):=funext λi=>by rw[iS];simp
   have E:Instr.fill (λi=>cb.toArray[i]?) z.cells (A.map λ(i,x)=>(i,a.eval x)).toList=some ⟨b6⟩:=by rw[V,<-D];omega
   simp only[Instr.build,Sem.run_bind,xz aj nf,Result.andThen_ok,run_underlying dY];rw[Array.mapM_eq_mapM_toList];simp only[Sem.run_map,Sm,Result.andThen_ok,E,Sem.run_pure]
  ·cases D
 ·rename_i n e dY
  split at D
  ·rename_i s ap
   cases D;obtain⟨b6,M,I⟩:=I3 fq (λi=>some (Nat.mul i s,s)) A.toList cs aE _ _ l bl aZ Z (xp N ai) bK;refine⟨_,.agg I,λw=>?_⟩;have E:Instr.fill (λi=>some (i*s,s)) z.cells (A.map λ(i,x)=>(i,a.eval x)).toList=some ⟨b6⟩:=by rw[V];omega
   simp only[Instr.build,Sem.run_bind,xz aj nf,Result.andThen_ok,run_underlying dY,j9 ap,E,Sem.run_pure]
  ·cases D
 ·cases D
theorem EH(n:Nat)(z:aa X):(gI n z).length=n*z.length:=by
 induction n with
 |zero=>simp[gI]
 |succ n A=>simp[gI,ka,A,Ey];omega
theorem X5(z:aa X):∀(n i:Nat),i<n*z.length->(gI n z)[i]? = z[i % z.length]?
 |0,i,h=>J
 |n+1,i,h=>by
  simp only[gI,ka,BB]
  split
  ·rename_i aj;rw[Is aj]
  ·rename_i aj
   rw[X5 z n (i-z.length) ab]
   congr 1
   rw[Nat.mod_eq_sub_mod (by omega:i≥z.length)]
theorem Nw(z:Array X)(n:Nat):((Array.range (n*z.size)).map λi=>z[i % z.size]!)=⟨gI n z.toList⟩:=by
 apply Array.ext';apply oq;intro i
 by_cases h:i<n*z.size
 ·rw[X5 _ _ _ J];have A:0<z.size:=ab
  have D:=zf i A
  grind
 ·rw[t5 ab,t5 (by rw[EH];grind)]
theorem B5{z A:aa X}(h:dl ai z A):∀n,dl ai (gI n z) (gI n A)
 |0=>.nil
 |n+1=>by simp only[gI,ka];exact h.append (B5 h n)
theorem zg(z:Array X)(n:Nat):Builtin.zeroCells z n=⟨gI n z.toList⟩:=Nw z n
end
section
variable {P:Program} {ai:ca}
def C1(P:Program)(ai:ca)(v:X)(s:Sem Next):Prop:=∃c,bA ai v c/\∀w,s.run P w = .ok (.value c) w
theorem mI.op{s:Sem X}(h:mI P ai v s):C1 P ai v (do pure (.value (<-s))):=by obtain⟨c,A,D⟩:=h;exact⟨c,A,λw=>by simp[D w]⟩
theorem C1.pure{v c:X}(h:bA ai v c):C1 P ai v (Pure.pure (.value c)):=⟨c,h,λ_=>rfl⟩
theorem ahc(A:bA ai v c)(h:(∃a,v = .pointer (some a))\/(∃f a b,v = .func (.func f) a b)\/(∃f a b,v = .func (.yield f) a b)\/∃t y,v = .iface t y){o:Oper}{x:Operand}{bq:Operand->X}(E:o.op = .nilCheck x)(D:bq x=c):∀w,(execOp bq o).run P w = .ok (.value c) w:=by
 intro w;unfold execOp;rw[E];simp only[D];rcases h with⟨a,rfl⟩|⟨f,a,b,rfl⟩|⟨f,a,b,rfl⟩|⟨t,y,rfl⟩
 ·cases A;rfl
 ·cases A;rfl
 ·cases A;rfl
 ·cases A;rfl
theorem MZ{bq:Operand->X}{c:Call}{b:Builtin}(D:c.callee = .builtin b)(A:TypeId):
  ∃cs,resolve bq c A=pure { target:=.builtin b c.argTypes A cs,args:=c.args.map bq }:=by unfold resolve;rw[D];grind
theorem xA{az:Type}{b:al}{x:aw az}{r:az}:(bif b then x else none)=some r↔b=true/\x=some r:=by cases b <;> simp
theorem Loc.C2{a:Act}{l:Array Operand}(A:Loc ai ak a.tmps l){y:e5}(D:∀x∈xs,x∈l)(E:yj xs=some [y])(h:d2 ak y = .ok v):
  ∃c,bA ai v c/\(⟨xs.map a.eval⟩:Array X)=#[c]:=by
 have:=A.uY D E (show pu ak [y] = .ok [v] by simp[pu,h,R.bind]);generalize xs.map a.eval=lL at *
 cases this with
 |cons h t=>cases t;exact⟨_,h,rfl⟩
theorem Loc.z6{a:Act}{l:Array Operand}(N:Loc ai ak a.tmps l){y E:e5}{D:X}(I:∀x∈xs,x∈l)(M:yj xs=some [y,E])(h:d2 ak y = .ok v)(A:d2 ak E = .ok D):
  ∃c c2,bA ai v c/\bA ai D c2/\(⟨xs.map a.eval⟩:Array X)=#[c,c2]:=by
 have:=N.uY I M (show pu ak [y,E] = .ok [v,D] by simp[pu,h,A,R.bind]);generalize xs.map a.eval=lL at *
 cases this with
 |cons h t=>cases t with
  |cons A t=>cases t;exact⟨_,_,h,A,rfl⟩
theorem Z1{a:Act}(o:Oper)(M:Loc ai ak a.tmps o.op.operands){e:HI}(A:oK P o.op=some (.fu e))(h:pv P ak e = .ok v):C1 P ai v (execOp a.eval o):=by
 have ex:∀{op:Op},o.op=op->execOp a.eval o=execOp a.eval { o with op:=op }:=λh=>by rw[<-h]
 cases tx:o.op <;> rw[tx]at A M <;> rw[ex tx] <;> (try simp only[oK,jC,lZ,xA,zb,reduceCtorEq,and_false,Iz]at A)
 case move x =>
  obtain⟨dD,I,D⟩:=A;cases D;exact C1.pure (M.ec (by simp[Op.operands]) I h)
 case assign x =>
  obtain⟨dD,I,D⟩:=A;cases D;exact C1.pure (M.ec (by simp[Op.operands]) I h)
 case pick c x y =>
  obtain⟨hr,I,dD,Z,h3,aL,D⟩:=A;cases D;obtain⟨e1,E,h⟩:=R.e7 h;obtain⟨N,V,h⟩:=R.e7 h;obtain⟨rI,dj,h⟩:=R.e7 h;have eo:=M.ec (by simp[Op.operands]) I E;cases e1 with
  |bool b =>
   have aM:=eo.E3;cases b with
   |true=>cases h;exact⟨_,M.ec (by simp[Op.operands]) Z V,λw=>by simp[execOp,aM,asBool]⟩
   |false=>cases h;exact⟨_,M.ec (by simp[Op.operands]) aL dj,λw=>by simp[execOp,aM,asBool]⟩
  |_=>cases h
 case build t mz =>
  obtain⟨z,cZ,pl,mJ,cb,Am,D⟩:=A;cases D;obtain⟨aE,E,h⟩:=R.e7 h;exact(alu M (λx a1=>by simp only[Op.operands];grind) cZ mJ Am E h).op
 case nilCheck x =>
  obtain⟨dD,I,D⟩:=A;cases D;obtain⟨N,E,h⟩:=R.e7 h;obtain⟨rfl,aL⟩:=ahP h;have aJ:=M.ec (by simp[Op.operands]) I E;exact⟨_,aJ,ahc aJ aL rfl rfl⟩
 case binOp op t x y aCG =>
  obtain⟨dD,I,h3,Z,D⟩:=A;cases D;obtain⟨N,E,h⟩:=R.e7 h;obtain⟨rI,V,h⟩:=R.e7 h;exact(ao7 x y h (M.ec (by simp[Op.operands]) I E) (M.ec (by simp[Op.operands]) Z V)).op
 case unOp op t x =>
  obtain⟨dD,I,D⟩:=A;cases D;obtain⟨N,E,h⟩:=R.e7 h;exact(ao8 h (M.ec (by simp[Op.operands]) I E)).op
 case convert s d x =>
  obtain⟨j3,ap,Uw,bp,dD,I,D⟩:=A;cases D;obtain⟨N,E,h⟩:=R.e7 h;exact(ai6 ap bp h (M.ec (by simp[Op.operands]) I E)).op
 case makeInterface t x =>
  obtain⟨ck,dD,I,D⟩:=A;cases D;obtain⟨N,E,h⟩:=R.e7 h;cases h;exact(ao9 ck (M.ec (by simp[Op.operands]) I E)).op
 case makeFunc fn x y =>
  split at A
  ·simp only[jC,lZ]at A;obtain⟨dD,I,h3,Z,D⟩:=A;cases D;obtain⟨N,E,h⟩:=R.e7 h;obtain⟨rI,V,h⟩:=R.e7 h;cases h;have a1:=M.uY (λz cZ=>by simp only[Op.operands];grind) I E;have ce:=M.uY (λz cZ=>by simp only[Op.operands];grind) Z V;refine⟨.func (.func _) ⟨x.toList.map a.eval⟩ ⟨y.toList.map a.eval⟩,.func _ a1 ce,λw=>?_⟩;have D:x.map a.eval=⟨x.toList.map a.eval⟩:=ab
   have aP:y.map a.eval=⟨y.toList.map a.eval⟩:=ab
   simp[execOp,Instr.makeFunc,D,aP]
  ·cases A
 case slice t x ao aj iJ =>
  obtain⟨s,ap,dD,I,cl,Z,yO,aL,n4,bm,D⟩:=A;cases D;obtain⟨N,E,h⟩:=R.e7 h;obtain⟨w1,V,h⟩:=R.e7 h;obtain⟨aCH,dj,h⟩:=R.e7 h;obtain⟨HJ,dL,h⟩:=R.e7 h;exact(apa (M.Sl (λy ce=>by subst ce;simp[Op.operands]) Z V) (M.Sl (λy ce=>by subst ce;simp[Op.operands]) aL dj) (M.Sl (λy ce=>by subst ce;simp[Op.operands]) bm dL) ap h (M.ec (by simp[Op.operands]) I E)).op
 case fieldAddr s x f =>
  obtain⟨aAr,bK,dD,I,D⟩:=A;cases D;obtain⟨N,E,h⟩:=R.e7 h;obtain⟨a8,rfl,h⟩:=I1 h;cases h;exact(ahm bK (M.ec (by simp[Op.operands]) I E)).op
 case field s x f =>
  obtain⟨aAr,bK,bL,Al,dD,I,D⟩:=A;cases D;obtain⟨N,E,h⟩:=R.e7 h;exact(als bK Al h (M.ec (by simp[Op.operands]) I E)).op
 case indexAddr t x tO =>
  obtain⟨k,hk,dD,I,k1,Z,D⟩:=A;cases D;obtain⟨N,E,h⟩:=R.e7 h;obtain⟨gK,V,h⟩:=R.e7 h;obtain⟨q,i,rfl,h⟩:=B4 h;have:=(agW (q:=q) hk h (M.ec (by simp[Op.operands]) I E)).op;rwa[<-(M.ec (by simp[Op.operands]) Z V).s4]at this
 case index t x tO =>
  obtain⟨dD,I,k1,Z,D⟩:=A;cases D;obtain⟨N,E,h⟩:=R.e7 h;obtain⟨gK,V,h⟩:=R.e7 h;obtain⟨q,i,rfl,h⟩:=B4 h;have:=(ahR (q:=q) h (M.ec (by simp[Op.operands]) I E)).op;rwa[<-(M.ec (by simp[Op.operands]) Z V).s4]at this
 case extract x i =>
  obtain⟨dD,I,D⟩:=A;cases D;obtain⟨N,E,h⟩:=R.e7 h;exact(aha h (M.ec (by simp[Op.operands]) I E)).op
 case typeAssert x aCI t ok =>
  obtain⟨dD,I,D⟩:=A;cases D;obtain⟨N,E,h⟩:=R.e7 h;exact(ahl h (M.ec (by simp[Op.operands]) I E)).op
 case call c =>
  obtain⟨iX,I,A⟩:=A;have a1:∀x∈c.args.toList,x∈(Op.call c).operands:=λx a1=>by simp only[Op.operands,Call.operands];grind
  have wj:c.args.map a.eval=⟨c.args.toList.map a.eval⟩:=ab
  split at A
  ·simp at A
  ·simp at A
  ·rename_i b aT
   obtain⟨cs,mK⟩:=MZ (bq:=a.eval) aT o.type;unfold execOp;simp only[mK,wj];unfold Dl at A
   split at A
   ·split at A
    ·obtain⟨t,_,A⟩:=jC.1 A
     split at A <;> cases A
    ·cases A
   ·split at A
    ·cases A;obtain⟨N,E,h⟩:=R.e7 h;obtain⟨rI,V,h⟩:=R.e7 h;obtain⟨ii,jN,eo,gY,aP⟩:=M.z6 a1 I E V;obtain⟨bO,aJ,a5⟩:=X3 (P:=P) h eo gY;rw[aP];exact mI.op ⟨bO,aJ,λw=>by have:=a5 w;simp only[p5]at this;simp[Builtin.min_,this]⟩
    ·cases A
   ·split at A
    ·cases A;obtain⟨N,E,h⟩:=R.e7 h;obtain⟨rI,V,h⟩:=R.e7 h;obtain⟨ii,jN,eo,gY,aP⟩:=M.z6 a1 I E V;obtain⟨bO,aJ,a5⟩:=X3 (P:=P) h eo gY;rw[aP];exact mI.op ⟨bO,aJ,λw=>by have:=a5 w;simp only[my]at this;simp[Builtin.max_,this]⟩
    ·cases A
   ·split at A
    ·obtain⟨t,ck,D⟩:=lZ.1 A;cases D;obtain⟨N,E,h⟩:=R.e7 h;obtain⟨ii,eo,aP⟩:=M.C2 a1 I E;rw[aP];exact(alt (by rw[iS]at ck;grind) h eo).op
    ·cases A
   ·cases z7:q6 P (gU c.argTypes.toList 1) <;> rw[z7]at A
    ·simp only[my,jC,xA]at A;obtain⟨_,_,_,_,_,_,_,_,_,A⟩:=A
     split at A <;> cases A
    ·cases A
   ·cases A
 case makeMap t r=>cases r <;> cases A
 case next it b=>cases b <;> simp at A
 all_goals (split at A <;> simp[jC]at A)
end
section
variable {P:Program} {ai:ca} {B:Nat}
structure Made (w a9:World) (o:Obj):Prop where
 size:a9.heap.size=w.heap.size+1
 new:a9.heap[w.heap.size]? = some o
 dV:∀k,k<w.heap.size->a9.heap[k]? = w.heap[k]?
 os:a9.os=w.os
 tape:qD w a9
 output:a9.output=w.output
theorem Made.push(w:World)(o:Obj):Made w { w with heap:=w.heap.push o } o :=
 ⟨by simp,by simp,ab,rfl,.here,rfl⟩
def wk(ai:ca)(cU:kn)(o:Obj)(p:Place):Prop:=match cU with
 | .ptr (.cells cs false)=>p.off=0/\p.spare=0/\∃c e,o = .cells c e (0,0)/\dl ai cs c.toList
 | .slice (.cells cs false) _ _=>p.off=0/\p.spare=0/\∃c e,o = .cells c e (0,0)/\dl ai cs c.toList
 | .map=>p.off=0/\o = .map #[] 0
 |_=>False
def Sn(cU:kn)(cm:Nat)(spare:Nat):X:=match cU with
 | .ptr _=>.pointer (some ⟨cm,0,none⟩)
 | .slice _ len cap=>.slice (some ⟨cm,0,none⟩) len cap
 | .map=>.map (some cm)
def K2(P:Program)(ai:ca)(cU:kn)(s:Sem Next):Prop:=∀w,∃o p a9,p.cm=w.heap.size/\wk ai cU o p/\Made w a9 o/\s.run P w = .ok (.value (Sn cU w.heap.size p.spare)) a9
theorem wk.mono{bq:ca}(M:Sub ai bq){cU:kn}{o:Obj}{p:Place}(h:wk ai cU o p):wk bq cU o p:=by
 unfold wk at *
 split at h
 ·obtain⟨I,A,c,e,D,E⟩:=h;exact⟨I,A,c,e,D,E.mono M⟩
 ·obtain⟨I,A,c,e,D,E⟩:=h;exact⟨I,A,c,e,D,E.mono M⟩
 ·exact h
 omega
theorem IR{c:Array X}(h:dl ai cs (c.toList.take cs.length)):pf ai cs c 0:=by
 intro i v A;obtain⟨I,E,D⟩:=h.get A;refine⟨I,?_,D⟩
 grind
theorem K2.step{w:World}{o:Obj}{U:Nat}(a5:d7 B ai H w)(bH:ai U=none)(M:p.cm=w.heap.size)(E:wk ai cU o p)(N:Made w a9 o):
  cx B ai H w U (U+1) (λk=>if k=U then some p else ai k) (H.put U (sf cU)) a9/\bA (λk=>if k=U then some p else ai k) (wu U cU) (Sn cU w.heap.size p.spare):=by
 have Z:Sub ai (λk=>if k=U then some p else ai k):=λb q aT=>ab
 have et:B<=p.cm:=by rw[M];exact a5.base
 have D:(λk=>if k=U then some p else ai k) U=some p:=by simp
 have A:=E.mono Z;have bV:a9.heap[p.cm]? = some o:=by rw[M];exact N.new
 constructor
 ·refine cx.make a5 bH N.size N.dV N.os N.tape N.output M ?_;unfold wk at A
  split at A
  ·obtain⟨I,ar,c,e,rfl,V⟩:=A;have bb:=V.length;refine⟨et,I,c,e,0,0,bV,J,IR (by rw[bb,iQ];exact V),ab⟩
  ·obtain⟨I,ar,c,e,rfl,V⟩:=A;have bb:=V.length;refine⟨et,I,c,e,0,0,bV,J,IR (by rw[bb,iQ];exact V),ab⟩
  ·obtain⟨I,rfl⟩:=A;exact⟨et,[],bV,.nil⟩
  ·exact A.elim
 ·unfold wk at E
  split at E
  ·obtain⟨I,_⟩:=E;have:=bA.ptr (ai:=λk=>if k=U then some p else ai k) (o:=0) D;rw[M,I]at this;exact this
  ·obtain⟨I,_⟩:=E;have:=λl c=>bA.kO (ai:=λk=>if k=U then some p else ai k) (o:=0) D l c;rw[M,I]at this;exact this _ _
  ·have:=bA.map (ai:=λk=>if k=U then some p else ai k) D;rw[M]at this;exact this
  ·exact E.elim
theorem ahS(h:Fk l = .ok cU):ea l=true/\cU = .ptr (.cells l false):=by obtain⟨D,A⟩:=jD h;grind
theorem V0{n c:Nat}(h:vM l n c = .ok cU):ea l=true/\cU = .slice (.cells l false) n c:=by obtain⟨D,A⟩:=jD h;grind
theorem EC(h:q2 P t=some e):P.underlying t=some (.slice e):=by
 unfold q2 at h
 grind
theorem V1(e:TypeId)(v:X)(w:World):(newVar e v).run P w = .ok ⟨w.heap.size,0,none⟩ { w with heap:=w.heap.push (.cells v.cells e) }:=rfl
theorem IL(e:TypeId)(c:Array X)(w:World):(newRow e c).run P w = .ok ⟨w.heap.size,0,none⟩ { w with heap:=w.heap.push (.cells c e) }:=rfl
theorem apb{b:Builtin}{ag:aa TypeId}{iX:aa e5}{e:D1}(h:Dl P b ag iX=some (.ic e)):False:=by
 unfold Dl at h
 split at h
 ·split at h
  ·obtain⟨t,_,h⟩:=jC.1 h
   split at h <;> cases h
  ·cases h
 ·split at h <;> cases h
 ·split at h <;> cases h
 ·split at h
  ·simp at h
  ·cases h
 ·cases A:q6 P (gU ag 1) <;> rw[A]at h
  ·simp only[my,jC,xA]at h;obtain⟨_,_,_,_,_,_,_,_,_,h⟩:=h
   split at h <;> cases h
  ·cases h
 ·cases h
theorem Z2{a:Act}(o:Oper)(fq:Loc ai ak a.tmps o.op.operands){e:D1}(D:oK P o.op=some (.ic e))(h:CY ak e = .ok cU):K2 P ai cU (execOp a.eval o):=by
 have ex:∀{op:Op},o.op=op->execOp a.eval o=execOp a.eval { o with op:=op }:=λh=>by rw[<-h]
 cases tx:o.op <;> rw[tx]at D fq <;> rw[ex tx] <;> (try simp only[oK,jC,lZ,xA,zb,reduceCtorEq,and_false,Iz]at D)
 case alloc e =>
  obtain⟨l,cZ,lG,aV⟩:=D;cases aV;cases h;obtain⟨i,z,aj,nf,si,rfl⟩:=zh cZ;intro w;refine⟨.cells z.cells e (0,0),⟨w.heap.size,0,0,0⟩,{ w with heap:=w.heap.push (.cells z.cells e) },rfl,⟨rfl,rfl,_,e,rfl,xp si ai⟩,Made.push w _,?_⟩;unfold execOp;simp only[Instr.alloc,Sem.run_bind,xz aj nf,Result.andThen_ok,V1,Sem.run_pure];rfl
 case box e x =>
  obtain⟨dD,bB,aV⟩:=D;cases aV;obtain⟨v,aJ,h1⟩:=R.e7 h;obtain⟨D,rfl⟩:=ahS h1;have wx:=(fq.ec (by simp[Op.operands]) bB aJ).cells;intro w;refine⟨.cells (a.eval x).cells e (0,0),⟨w.heap.size,0,0,0⟩,{ w with heap:=w.heap.push (.cells (a.eval x).cells e) },rfl,⟨rfl,rfl,_,e,rfl,wx⟩,Made.push w _,?_⟩;unfold execOp;simp only[Instr.box,Sem.run_bind,Result.andThen_ok,V1,Sem.run_pure];rfl
 case buildSlice t len mz =>
  obtain⟨e,bE,s,ap,w0,cZ,K3,cb,Am,aV⟩:=D;cases aV;simp only[eC]at K3;obtain⟨Z,dR⟩:=K3;obtain⟨aE,GP,h⟩:=R.e7 h;obtain⟨l,bK,cF⟩:=R.e7 h;obtain⟨i,z,aj,nf,si,rfl⟩:=zh cZ;obtain⟨D,rfl⟩:=V0 cF;have dY:=EC bE;have Rt:z.cells.size=s:=by have:=gG Z;rw[ou]at this;omega
  have wl:=l0 dR;have wl:len*s<=1000000:=wl;obtain⟨b6,azF,Rs⟩:=I3 fq (λi=>some (Nat.mul i s,s)) mz.toList cb aE _ _ l (λx a1=>by simp only[Op.operands];grind) Am GP (B5 (xp si ai) len) bK;have sj:(mz.map λ(i,x)=>(i,a.eval x)).toList=mz.toList.map λx=>(x.1,a.eval x.2):=by simp
  intro w;refine⟨.cells ⟨b6⟩ e (0,0),⟨w.heap.size,0,0,0⟩,{ w with heap:=w.heap.push (.cells ⟨b6⟩ e) },rfl,⟨rfl,rfl,_,e,rfl,Rs⟩,Made.push w _,?_⟩;unfold execOp;have M:Instr.fill (λi=>some (i*s,s)) ⟨gI len z.cells.toList⟩ (mz.map λ(i,x)=>(i,a.eval x)).toList=some ⟨b6⟩:=by rw[sj];omega
  have a6:¬(len*s>2 ^ 24):=J
  by_cases au:len*s=0
  ·have wm:gI len z.cells.toList=[]:=by
    apply Bv;rw[EH]
    grind
   have A:((Array.range (len*s)).map (λx=>(#[]:Array X)[x % (#[]:Array X).size]!))=⟨gI len z.cells.toList⟩:=ab
   simp only[Instr.buildSlice,Sem.run_bind,run_underlying dY,j9 ap,Result.andThen_ok,Sem.run_ite,if_neg a6,Sem.run_pure,if_pos au,A,M,IL];rfl
  ·have A:((Array.range (len*s)).map (λx=>z.cells[x % z.cells.size]!))=⟨gI len z.cells.toList⟩:=by rw[<-Rt];exact Nw z.cells len
   simp only[Instr.buildSlice,Sem.run_bind,run_underlying dY,j9 ap,Result.andThen_ok,Sem.run_ite,if_neg a6,Sem.run_pure,if_neg au,xz aj nf,A,M,IL];rfl
 case makeMap t r =>
  cases r with
  |some r=>cases D
  |none =>
   cases D;cases h;intro w;refine⟨.map #[] 0,⟨w.heap.size,0,0,0⟩,{ w with heap:=w.heap.push (.map #[] 0) },rfl,⟨rfl,rfl⟩,Made.push w _,?_⟩;unfold execOp;rfl
 case makeSlice t l c =>
  obtain⟨e,bE,w0,cZ,N,cl,c1,hr,c2,aV⟩:=D;cases aV;obtain⟨w1,h1,ar⟩:=R.e7 h;obtain⟨e1,bm,b3⟩:=R.e7 ar;obtain⟨aCJ,Mj,rfl,aL⟩:=B4 b3;obtain⟨aCK,E,rfl,cF⟩:=B4 aL;obtain⟨I,Sp⟩:=jD cF;simp only[eC]at I;have ri:=l0 I.1;have Dn:=l0 I.2;obtain⟨i,z,aj,nf,si,rfl⟩:=zh cZ;obtain⟨D,rfl⟩:=V0 Sp;have dY:=EC bE;simp only[eC]at N;obtain⟨Z,N⟩:=N;rw[aj]at Z N;simp only[Ev,Iu]at Z N;have Rt:z.cells.size=i.size:=by have:=gG Z;rw[ou]at this;omega
  have axk:i.bytes<=1000000:=l0 N;intro w;refine⟨.cells ⟨gI E z.cells.toList⟩ e (0,0),⟨w.heap.size,0,0,0⟩,{ w with heap:=w.heap.push (.cells ⟨gI E z.cells.toList⟩ e) },rfl,⟨rfl,rfl,_,e,rfl,B5 (xp si ai) E⟩,Made.push w _,?_⟩;unfold execOp;simp only[(fq.ec (by simp[Op.operands]) c1 h1).s4,(fq.ec (by simp[Op.operands]) c2 bm).s4];have yl:IntKind.i64.wrap (Int.ofNat Mj)=(Mj:Int):=Js (by simp[IntKind.min,IntKind.signed,IntKind.bits] <;> omega) (by simp[IntKind.max,IntKind.signed,IntKind.bits] <;> omega);have hwc:IntKind.i64.wrap (Int.ofNat E)=(E:Int):=Js (by simp[IntKind.min,IntKind.signed,IntKind.bits] <;> omega) (by simp[IntKind.max,IntKind.signed,IntKind.bits] <;> omega);have V:∀w,(typeInfo e).run P w = .ok i w:=λw=>by simp[typeInfo,aj]
  have jH:∀w,(sizeOf e).run P w = .ok i.size w:=λw=>EF aj w;have afJ:(i.bytes:Int)*(E:Int)<=1000000*100000:=by have:i.bytes*E<=1000000*100000:=rU axk Dn;omega
  have hai:∀(k:IntKind) (n:Nat) w,(asInt (.int k (Int.ofNat n))).run P w = .ok (Int.ofNat n) w:=λ_ _ _=>rfl;have aee:(decide ((E:Int)<0)||decide ((i.bytes:Int)*(E:Int)>2 ^ 48)||decide ((Mj:Int)<0)||decide ((Mj:Int)>(E:Int)))=false:=ab
  by_cases au:E*i.size=0
  ·have wm:gI E z.cells.toList=[]:=by
    apply Bv;rw[EH]
    grind
   have A:((Array.range (E*i.size)).map (λx=>(#[]:Array X)[x % (#[]:Array X).size]!))=⟨gI E z.cells.toList⟩:=ab
   simp only[Instr.makeSlice,Sem.run_bind,run_underlying dY,hai,V,jH,Result.andThen_ok,yl,hwc,Sem.run_ite,aee,nH,fa,Sem.run_pure,run_askRoom,Ip,if_pos au,A,IL];rfl
  ·have A:((Array.range (E*i.size)).map (λx=>z.cells[x % z.cells.size]!))=⟨gI E z.cells.toList⟩:=by rw[<-Rt];exact Nw z.cells E
   simp only[Instr.makeSlice,Sem.run_bind,run_underlying dY,hai,V,jH,Result.andThen_ok,yl,hwc,Sem.run_ite,aee,nH,fa,Sem.run_pure,run_askRoom,Ip,if_neg au,xz aj nf,A,IL];rfl
 case call c =>
  obtain⟨_,_,D⟩:=D
  split at D
  ·simp at D
  ·simp at D
  ·exact(apb D).elim
 case next it b=>cases b <;> simp at D
 all_goals (split at D <;> simp[jC]at D)
end
section
variable {P:Program} {ai:ca} {B:Nat}
theorem ahd(A:P.underlying t=some (.int q))(D:al)(d:Nat)(k:X)(w:World):(Instr.checkKey D (d+1) t k).run P w = .ok () w:=by
 cases k <;> simp only[Instr.checkKey,Sem.run_bind,run_underlying A,Result.andThen_ok] <;> rfl
theorem IA{r:al}(h:kP P t k k=some r)(A:al)(w:World):(Instr.checkKey A 10000 t k).run P w = .ok () w:=by
 unfold kP at h
 split at h
 ·obtain⟨D,_⟩:=s0 h;simp only[eC]at D;obtain⟨q,M⟩:=Vw D.2;exact ahd M A 9999 _ w
 ·obtain⟨N,E,_,_,_,I,Z,V,_,_⟩:=vI h;exact run_checkKey_deep A 9992 8 t N w 8 _ I E (by rw[<-IB];omega)
theorem Nk(h:xQ P t k=true):∃r,kP P t k k=some r:=mX.1 h
def afK(P:Program)(t:TypeId)(k:X):Prop:=∀(y:X) (r:al),kP P t k y=some r->∀w,(Op.equal t k y).run P w = .ok r w
def Ru(P:Program)(d:TypeDesc)(t:TypeId)(k:X):Prop:=∀(y:X) (r:al),kP P t k y=some r->Instr.sameNow d k y=some r
theorem hm.get:∀{es dg:aa MapEntry} {i:Nat} {e:MapEntry},hm ai es dg->es[i]? = some e->∃A,dg[i]? = some A/\bA ai e.key A.key/\bA ai e.val A.val/\A.born=e.born
 |_,_,0,_,.cons E D I _,h=>by simp at h;subst h;exact⟨_,rfl,E,D,I⟩
 |_,_,i+1,_,.cons _ _ _ t,h=>by simpa using hm.get  t ab
theorem hm.length:∀{es dg:aa MapEntry},hm ai es dg->es.length=dg.length
 |_,_,.nil=>rfl
 |_,_,.cons _ _ _ t=>by simp[hm.length t]
theorem EL{t:TypeId}{k:X}:∀{es:aa MapEntry} {i:Nat} {r:aw (Nat × MapEntry)},kx P t k es i=some r ->
  (∀j e,r=some (j,e)->i<=j/\es[j-i]? = some e/\kP P t k e.key=some true)
 | [],i,r,h=>by cases h;grind
 |x::xs,i,r,h=>by
  unfold kx at h
  split at h
  ·grind
  ·intro j e A;obtain⟨I,D,E⟩:=EL h j e A
   grind
  grind
def xL(dg:aa MapEntry)(i:Nat)(r:aw (Nat × MapEntry))(c:aw (Nat × X)):Prop:=match r with
 |none=>c=none
 |some (j,_)=>∃d3,dg[j-i]? = some d3/\c=some (j,d3.val)
theorem xL.shift{x:MapEntry}{r:aw (Nat × MapEntry)}{c:aw (Nat × X)}(h:xL dg (i+1) r c)(I:∀j e,r=some (j,e)->i+1<=j):xL (x::dg) i r c:=by
 cases r with
 |none=>exact h
 |some q =>
  obtain⟨j,e⟩:=q;obtain⟨D,E,A⟩:=h;refine⟨D,?_,A⟩
  grind
theorem Nc{d:TypeDesc}{t:TypeId}{k:X}(I:Ru P d t k):∀{es dg:aa MapEntry} {i:Nat} {r:aw (Nat × MapEntry)},hm ai es dg->kx P t k es i=some r ->
  ∃c,Instr.findNow d k dg i=some c/\xL dg i r c
 |_,_,i,r,.nil,h=>by cases h;exact⟨none,rfl,rfl⟩
 |x::xs,y::lL,i,r,.cons M aJ Z N,h=>by
  have E:=EL  h;unfold kx at h
  split at h
  ·rename_i A
   cases h;have D:y.key=x.key:=ud (xq A).2 M;refine⟨some (i,y.val),?_,y,by simp,rfl⟩;simp[Instr.findNow,D,I _ _ A]
  ·rename_i A
   have D:y.key=x.key:=ud (xq A).2 M;obtain⟨c,h1,V⟩:=Nc I N h;refine⟨c,?_,V.shift λj e a5=>?_⟩
   ·simp only[Instr.findNow,D,I _ _ A];omega
   grind
  ·cases h
theorem Vm{t:TypeId}{k:X}(D:afK P t k)(w:World):∀{es dg:aa MapEntry} {i:Nat} {r:aw (Nat × MapEntry)},hm ai es dg->kx P t k es i=some r ->
  ∃c,(Instr.findAsking t k dg i).run P w = .ok c w/\xL dg i r c
 |_,_,i,r,.nil,h=>by cases h;exact⟨none,rfl,rfl⟩
 |x::xs,y::lL,i,r,.cons I aJ Z M,h=>by
  unfold kx at h
  split at h
  ·rename_i A
   cases h;have E:y.key=x.key:=ud (xq A).2 I;refine⟨some (i,y.val),?_,y,by simp,rfl⟩;simp[Instr.findAsking,E,D _ _ A w]
  ·rename_i A
   have E:y.key=x.key:=ud (xq A).2 I;obtain⟨c,h1,N⟩:=Vm D w M h;refine⟨c,?_,N.shift λj e V=>?_⟩
   ·simp only[Instr.findAsking,E,Sem.run_bind,D _ _ A w,Result.andThen_ok,nH,fa];omega
   ·exact(EL h j e V).1
  ·cases h
theorem EI{gb:al}(hk:kP P t k k=some gb){r:aw (Nat × MapEntry)}(bE:hm ai es dg)(h:kx P t k es 0=some r)(w:World):
  ∃c,(Instr.findKey t k dg).run P w = .ok c w/\xL dg 0 r c:=by
 have V:(∃q n,k = .int q n)\/((∀q n,k≠.int q n)/\∀y r,kP P t k y=some r->sg P t k y=some r):=by
  cases k <;> first|exact .inl ⟨_,_,rfl⟩|exact .inr ⟨ab,λy r I=>I⟩
 rcases V with⟨q,n,rfl⟩|⟨hni,A⟩
 ·have sk:=hk;simp only[kP,JT]at sk;obtain⟨aZ,_⟩:=s0 sk;simp only[eC]at aZ;obtain⟨k0,M⟩:=Vw aZ.2;have ek:Ru P (.int k0) t (.int q n):=by
   intro y r I;simp only[kP,JT]at I
   split at I
   ·obtain⟨aZ,I⟩:=s0 I;cases I;simp only[eC]at aZ;rw[Fr.1 aZ.1];simp[Instr.sameNow,kN]
   grind
  obtain⟨c,Z,ar⟩:=Nc ek bE h;exact⟨c,by simp[Instr.findKey,run_underlying M,Z],ar⟩
 ·obtain⟨Z,azG,_,_,_,yP,_,hla,_,_⟩:=vI (A _ _ hk);have hs:afK P t k:=λy r I w=>ZY ab 9992 w;unfold Program.keyTypeAt at Z;cases M:P.underlying t with
  |none=>rw[M]at Z;simp at Z
  |some d =>
   rw[M]at Z;have D:(∀x y,Instr.sameNow d x y=none)->∃c,(Instr.findKey t k dg).run P w = .ok c w/\xL dg 0 r c:=by
    intro bp;obtain⟨c,aL,bm⟩:=Vm hs w bE h;refine⟨c,?_,bm⟩;cases dg with
    |nil =>
     simp[Instr.findAsking]at aL;simp[Instr.findKey,run_underlying M,Instr.findNow,aL]
    |cons d3 dg=>simp[Instr.findKey,run_underlying M,Instr.findNow,bp,aL]
   have E:Ru P d t k->∃c,(Instr.findKey t k dg).run P w = .ok c w/\xL dg 0 r c:=by intro ek;obtain⟨c,aL,bm⟩:=Nc ek bE h;exact⟨c,by simp[Instr.findKey,run_underlying M,aL],bm⟩
   cases d <;> simp at Z
   case bool =>
    refine E λy r I=>?_;obtain⟨_,_,_,_,_,Mk,aBd,a1,N,aj⟩:=vI (A _ _ I);obtain⟨b,aV,aP⟩:=keyLits_bool' M a1;obtain⟨cd,ch,e6⟩:=keyLits_bool' M N;have cn:k = .bool b:=by
     cases k <;> simp_all[dh,Value.formed]
    have HK:y = .bool cd:=by
     obtain⟨_,_,hfy,_⟩:=vI (A _ _ I);cases y <;> simp_all[dh,Value.formed]
    rw[cn,HK];simp only[Instr.sameNow]
    congr 1
    grind
   case string =>
    refine E λy r I=>?_;obtain⟨_,_,_,_,_,Mk,aBd,a1,N,aj⟩:=vI (A _ _ I);obtain⟨b,aV,aP⟩:=keyLits_string' M a1;obtain⟨cd,ch,e6⟩:=keyLits_string' M N;have cn:k = .string b:=by
     cases k <;> simp_all[dh,Value.formed]
    have HK:y = .string cd:=by
     obtain⟨_,_,hfy,_⟩:=vI (A _ _ I);cases y <;> simp_all[dh,Value.formed]
    rw[cn,HK];simp only[Instr.sameNow]
    congr 1
    have ym:(b == cd)=(b.data == cd.data):=rfl;rw[zc,aj,aP,e6,ym];simp[Array.ext_iff]
   case int q =>
    exfalso;obtain⟨n,aV,_⟩:=keyLits_int' M hla;cases k <;> simp_all[dh,Value.formed]
   case array n e=>exact D λ_ _=>rfl
   case struct ds=>exact D λ_ _=>rfl
theorem BY{h:ae}{r:Nat}{k:aa MapEntry->Nat->R e4}{x:e4}(e:kQ h r k = .ok x):∃es c,u h r=some (.map es c)/\k es c = .ok x:=by
 unfold kQ at e
 grind
theorem d7.map{H:fk}{w:World}(M:d7 B ai H w){b:Nat}{p:Place}{es:aa MapEntry}{cE:Nat}(A:ai b=some p)(E:H b=some (.map es cE)):
  ∃dg:aa MapEntry,w.heap[p.cm]? = some (.map dg.toArray cE)/\hm ai es dg/\B<=p.cm:=by obtain⟨N,dg,D,I⟩:=M.obj b p _ A E;exact⟨dg,D,I,N⟩
theorem qS{w:World}{r:Nat}{o:Obj}(h:w.heap[r]? = some o)(A:∀c e f,o≠.cells c e f):(getObj r).run P w = .ok o w:=by
 cases o <;> first
  |(exact ab)
  |simp[getObj,Sem.run,h]
theorem alv{h:ae}{w:World}(a5:d7 B ai (u h) w){m:X}(dY:P.underlying t=some (.map dM e))(cZ:Jr P e=some z)(bb:jR P h dM z ok m k = .ok v)(bl:bA ai m n4)(hk:bA ai k cE):
  ∃c,bA ai v c/\(Instr.lookup t n4 cE ok).run P w = .ok c w:=by
 obtain⟨iw,D⟩:=jD bb;obtain⟨gb,M⟩:=Nk iw;have A:cE=k:=ud (xq M).1 hk;subst A;have N:∀(es dg:aa MapEntry),hm ai es dg->(match kx P dM cE es 0 with
   |some (some (_,x))=>R.ok (ow ok x.val true)
   |some none=>.ok (ow ok z false)
   |none=>R.no "lookup - key")=R.ok v ->
   (∃j x,(Instr.findKey dM cE dg).run P w = .ok (some (j,x)) w/\bA ai v (ow ok x true)) \/
   ((Instr.findKey dM cE dg).run P w = .ok none w/\(zeroValue e).run P w = .ok z w/\bA ai v (ow ok z false)):=by
  intro es dg bE bK;cases V:kx P dM cE es 0 with
  |none=>grind
  |some r =>
   obtain⟨c,I,E⟩:=EI M bE V w;rw[V]at bK;cases r with
   |none =>
    cases bK;obtain⟨i,aj,nf,Z⟩:=ahb cZ;cases E;refine .inr ⟨I,xz aj nf w,?_⟩;cases ok <;> first|exact EE Z ai|exact .tuple (.cons (EE Z ai) (.cons (.bool _) .nil))
   |some q =>
    obtain⟨j,x⟩:=q;cases bK;obtain⟨d3,aL,rfl⟩:=E;obtain⟨_,a1,_⟩:=EL  V j x rfl;obtain⟨e'',bm,_,aJ,_⟩:=bE.get a1;rw[aL]at bm;cases bm;refine .inl ⟨j,d3.val,I,?_⟩;cases ok <;> first|exact aJ|exact .tuple (.cons aJ (.cons (.bool _) .nil))
 unfold P3 at D
 split at D
 ·cases bl;have A:=IA M true w;rcases N [] [] .nil D with⟨j,x,I,E⟩|⟨I,aL,E⟩
  ·refine⟨_,E,?_⟩;cases ok <;> simp[Instr.lookup,run_underlying dY,A,I,ow]
  ·refine⟨_,E,?_⟩;cases ok <;> simp[Instr.lookup,run_underlying dY,A,I,aL,ow]
 ·obtain⟨es,Sq,a6,tw⟩:=BY D;cases bl with
  |map aT =>
   obtain⟨dg,bV,bE,_⟩:=a5.map aT a6;have A:=IA M dg.isEmpty w;have K4:=qS (P:=P) bV ab;rcases N es dg bE tw with⟨j,x,I,E⟩|⟨I,aL,E⟩
   ·refine⟨_,E,?_⟩;cases ok <;> simp[Instr.lookup,run_underlying dY,K4,A,I,ow]
   ·refine⟨_,E,?_⟩;cases ok <;> simp[Instr.lookup,run_underlying dY,K4,A,I,aL,ow]
 ·cases D
theorem V2:∀(l:aa Nat),F7 l=l.getLast?
 | []=>rfl
 | [_]=>rfl
 |_::y::xs=>by simp[F7,V2 (y::xs),List.getLast?_cons_cons]
theorem V3{b:Nat}:∀{es dg:aa MapEntry} {e:MapEntry},hm ai es dg->CE b es=some e->∃A,dg.find? (·.born == b)=some A/\bA ai e.key A.key/\bA ai e.val A.val
 |_,_,_,.nil,h=>by cases h
 |x::xs,y::Z,e,.cons V N D E,h=>by
  unfold CE at h;rcases a1:Nat.beq x.born b with _|_
  ·rw[a1]at h;obtain⟨A,h1,I⟩:=V3 E h;have M:¬(y.born=b):=by rw[D];intro h;exact Nat.ne_of_beq_eq_false a1 h
   exact⟨A,ab,I⟩
  ·rw[a1]at h;cases h;have:y.born=b:=by rw[D];exact gG a1
   exact⟨y,ab,V,N⟩
theorem d7.iter{w:World}(V:d7 B ai H w){m:aw Nat}{A st:Nat}{D:aa Nat}(I:ai b=some p)(N:H b=some (.iter m A D st)):
  ∃bC,w.heap[p.cm]? = some (.mapIter bC A D.toArray st)/\pt ai m bC/\p.off=0/\B<=p.cm:=by obtain⟨h1,E,bC,M,Z⟩:=V.obj b p _ I N;exact⟨bC,M,Z,E,h1⟩
theorem ahT{h:ae}{w:World}(a5:d7 B ai (u h) w)(bE:vU h v = .ok x)(aJ:bA ai v c):
  ∃bO,bA ai x bO/\(Instr.entry c).run P w = .ok bO w:=by
 obtain⟨a,rfl,I⟩:=I1 bE;obtain⟨au,I⟩:=jD I
 split at I
 ·rename_i r N D st a6
  obtain⟨es,M,bl,E⟩:=BY I;obtain⟨wy,E⟩:=jD E
  split at E
  ·rename_i b aT
   obtain⟨e,aL,bm⟩:=R.kR E;cases bm;obtain⟨p,bk,_,rfl⟩:=aJ.ZZ;obtain⟨bC,bV,eU,ix,_⟩:=a5.iter bk a6;cases bC with
   |none=>exact eU.elim
   |some bC =>
    obtain⟨q,cM,rfl⟩:=eU;obtain⟨dg,V,Do,_⟩:=a5.map cM bl;obtain⟨d3,b3,cF,eE⟩:=V3 Do aL;refine⟨.tuple #[d3.key,d3.val],.tuple (.cons cF (.cons eE .nil)),?_⟩;have Z:a.off=0:=gG au;have iY:M=st:=gG wy;rw[V2]at aT;have A:D.toArray.back? = some b:=ab
    have bB:=qS (P:=P) bV ab;have g2:=qS (P:=P) V ab;simp[Instr.entry,Z,ix,bB,g2,A,iY,b3]
  ·cases E
 ·cases I
theorem alw(N:P.underlying t=some (.slice e))(D:ag[0]? = some t)(A:z0 v = .ok x)(M:bA ai v c)(I:TypeId)(w:World):
  ∃E,bA ai x E/\(Builtin.len_ ag I #[c]).run P w = .ok E w:=by
 unfold z0 at A
 split at A
 ·cases A;cases M <;> exact⟨_,.int _ _,by simp[Builtin.len_,D,run_underlying N,goInt]⟩
 ·cases A
theorem alx{h:ae}{w:World}(a5:d7 B ai (u h) w)(M:P.underlying t=some (.map dM e))(D:ag[0]? = some t)(A:wg h v = .ok x)(I:bA ai v c)(V:TypeId):
  ∃E,bA ai x E/\(Builtin.len_ ag V #[c]).run P w = .ok E w:=by
 unfold wg at A
 split at A
 ·cases A;cases I;exact⟨_,.int _ _,by simp[Builtin.len_,D,run_underlying M,goInt]⟩
 ·obtain⟨es,cE,a6,Z⟩:=BY A;cases Z;cases I with
  |map N =>
   obtain⟨dg,bV,bE,_⟩:=a5.map N a6;have bB:=qS (P:=P) bV ab;refine⟨_,.int _ _,?_⟩;simp[Builtin.len_,D,run_underlying M,goInt,bB,ou,bE.length]
 ·cases A
theorem bA.xv{a:aw Addr}{l c:Nat}(h:bA ai (.slice a l c) v):∃D A,v = .slice D l A /\
  ((a=none/\D=none/\A=c) \/
   (∃b o aO p,a=some ⟨b,o,aO⟩/\ai b=some p/\D=some ⟨p.cm,p.off+o,none⟩/\((aO=none/\A=c)\/(∃s,aO=some (s+1)/\p.es=s+1/\A=c+p.spare))) \/
   (∃b o g aX,a=some ⟨b,o,some 0⟩/\l=0/\c=0/\D=some ⟨g,aX,none⟩)):=by
 cases h with
 |qW=>grind
 |kO h=>grind
 |ox h E=>grind
 |oy b o g aX c=>grind
theorem Z3{w:World}(a5:d7 B ai H w){o n:Nat}(V:ai b=some p)(aZ:H b=some (.cells cs bJ))(E:na n (m6 cs o)=some l):
  ∃b6,dl ai l b6/\(loadCells ⟨p.cm,p.off+o,none⟩ n).run P w = .ok b6.toArray w:=by
 obtain⟨c,e,e9,bV,D⟩:=a5.cells V aZ;rw[q1,rW]at E
 split at E
 ·rename_i Z
  cases E;have A:o+n<=cs.length\/n=0:=ab
  rcases A with A | au
  ·obtain⟨b6,M,I,u⟩:=D.cut   A;refine⟨b6,I,?_⟩;have N:=run_loadCells_list (P:=P) w ⟨p.cm,p.off+o,none⟩ b6 (λj v aJ=>by rw[pe];exact OS bV ab)
   grind
  ·subst au;exact⟨[],by simpa using dl.nil,rfl⟩
 ·cases E
theorem Z4{a:Act}{h:ae}{w:World}(a5:d7 B ai (u h) w)(o:Oper)(V:Loc ai ak a.tmps o.op.operands){e:GL}(A:oK P o.op=some (.red e))(D:pred P ak e h = .ok v):
  ∃c,bA ai v c/\(execOp a.eval o).run P w = .ok (.value c) w:=by
 have ex:∀{op:Op},o.op=op->execOp a.eval o=execOp a.eval { o with op:=op }:=λh=>by rw[<-h]
 cases tx:o.op <;> rw[tx]at A V <;> rw[ex tx] <;> (try simp only[oK,jC,lZ,xA,zb,reduceCtorEq,and_false,Iz]at A)
 case load t x =>
  obtain⟨bL,Al,dD,N,aV⟩:=A;cases aV;obtain⟨dp,E,D⟩:=R.e7 D;obtain⟨eg,gZ,c,Z,I⟩:=OT a5 Al D (V.ec (by simp[Op.operands]) N E);exact⟨c,I,by simp[execOp,Instr.loadAt,gZ,Instr.sureAddr,Z]⟩
 case lookup t x tO ok =>
  split at A
  ·rename_i dM e dY
   simp only[jC,lZ]at A;obtain⟨z,cZ,n4,N,cE,ar,aV⟩:=A;cases aV;obtain⟨HJ,E,D⟩:=R.e7 D;obtain⟨aBe,g2,D⟩:=R.e7 D;obtain⟨c,I,cF⟩:=alv a5 dY cZ D (V.ec (by simp[Op.operands]) N E) (V.ec (by simp[Op.operands]) ar g2);exact⟨c,I,by simp[execOp,cF]⟩
  ·cases A
 case entry it =>
  obtain⟨dD,N,aV⟩:=A;cases aV;obtain⟨dp,E,D⟩:=R.e7 D;obtain⟨c,I,cF⟩:=ahT (P:=P) a5 D (V.ec (by simp[Op.operands]) N E);exact⟨c,I,by simp[execOp,cF]⟩
 case makeMap t r=>cases r <;> cases A
 case next it b=>cases b <;> simp at A
 case call c =>
  obtain⟨iX,N,A⟩:=A;have a1:∀x∈c.args.toList,x∈(Op.call c).operands:=λx a1=>by simp only[Op.operands,Call.operands];grind
  have wj:c.args.map a.eval=⟨c.args.toList.map a.eval⟩:=ab
  split at A
  ·simp at A
  ·simp at A
  ·rename_i b aT
   obtain⟨cs,mK⟩:=MZ (bq:=a.eval) aT o.type;unfold execOp;simp only[mK,wj];have M:∀x,(invoke (.builtin .len c.argTypes o.type cs) #[x])=(do pure (.value (<-Builtin.len_ c.argTypes o.type #[x])):Sem Next):=λ_=>rfl;unfold Dl at A
   split at A
   ·split at A
    ·obtain⟨t,ck,A⟩:=jC.1 A;rw[iS]at ck
     split at A
     ·rename_i d3 dY
      cases A;obtain⟨A7,E,D⟩:=R.e7 D;obtain⟨ii,eo,aP⟩:=V.C2 a1 N E;obtain⟨bO,Z,I⟩:=alw dY (ag:=c.argTypes) ab D eo o.type w;rw[aP];exact⟨bO,Z,by simp only[M,Sem.run_bind,Sem.run_pure,Result.andThen_ok,I]⟩
     ·rename_i dM d3 dY
      cases A;obtain⟨A7,E,D⟩:=R.e7 D;obtain⟨ii,eo,aP⟩:=V.C2 a1 N E;obtain⟨bO,Z,I⟩:=alx a5 dY (ag:=c.argTypes) ab D eo o.type;rw[aP];exact⟨bO,Z,by simp only[M,Sem.run_bind,Sem.run_pure,Result.andThen_ok,I]⟩
     ·cases A
    ·cases A
   ·split at A <;> cases A
   ·split at A <;> cases A
   ·split at A
    ·simp at A
    ·cases A
   ·cases z7:q6 P (gU c.argTypes.toList 1) <;> rw[z7]at A
    ·simp only[my,jC,xA]at A;obtain⟨_,_,_,_,_,_,_,_,_,A⟩:=A
     split at A <;> cases A
    ·cases A
   ·cases A
 all_goals (split at A <;> simp[jC]at A)
end
section
variable {P:Program} {ai:ca} {B:Nat}
def iI(P:Program)(B:Nat)(ai:ca)(H:fk)(w:World)(U:Nat)(r:fl)(s:Sem Next):Prop :=
 ∃v ac Y bq c a9,r = .val v ac Y/\bA bq v c/\cx B ai H w U Y bq (u ac) a9/\(s.run P w = .ok (.value c) a9\/(s.run P w = .ok .skip a9/\c=undef))
theorem s1:bA ai jP undef:=.tuple .nil
theorem apc{h:ae}{w:World}(a5:d7 B ai (u h) w)(U:Nat){n:Nat}(bH:jG P t=some n)(bE:aQ h n x y = .ok ac)(a1:bA ai x dD)(ce:bA ai y h3):
  ∃a9,(Instr.storeAt t dD h3).run P w = .ok () a9/\cx B ai (u h) w U U ai (u ac) a9:=by
 obtain⟨a8,rfl,aL⟩:=I1 bE;obtain⟨Z,V⟩:=jD aL;obtain⟨p,D,M,rfl⟩:=a1.N2;obtain⟨o0,of,aO⟩:=a8;simp only at D M V;subst D;have N:=ce.cells;obtain⟨a9,A,I⟩:=IK (P:=P) a5 U M V N;refine⟨a9,?_,I⟩;have E:h3.cells.size=n:=by rw[<-Ek,<-N.length,<-ou];exact gG Z
 simp only[Instr.storeAt,Instr.sureAddr,storeVar,Sem.run_bind,Sem.run_pure,Result.andThen_ok,j9 bH,E,ne_eq,not_true,fa,A]
theorem ug{w:World}{r:Nat}{o aX:Obj}(h:w.heap[r]? = some aX)(A:∀c e f,aX≠.cells c e f):(setObj r o).run P w = .ok () { w with heap:=w.heap.setIfInBounds r o }:=by
 cases aX <;> first
  |(exact ab)
  |simp[setObj,Sem.run,h]
theorem cx.set{h:ae}{w:World}(I:d7 B ai (u h) w)(U:Nat){o:gh}{c:Obj}(D:ai b=some p)(M:u h b=some o)(E:B<=p.cm)(N:(w.heap[p.cm]?).isSome)(A:∀a9:World,a9.heap[p.cm]? = some c->l7 B ai a9 p aX):cx B ai (u h) w U U ai (u (T h b aX)) { w with heap:=w.heap.setIfInBounds p.cm c }:=by
 rw[ul];refine cx.change U I D M E (by simp) ?_ rfl .here rfl (A _ ?_)
 all_goals grind
theorem hm.app{es dg:aa MapEntry}{e A:MapEntry}(h:hm ai es dg)(E:bA ai e.key A.key)(D:bA ai e.val A.val)(I:A.born=e.born):hm ai (es++[e]) (dg++[A]):=by
 match h with
 | .nil=>exact .cons E D I .nil
 | .cons a b c t=>exact .cons a b c (hm.app t E D I)
theorem WP{k v dm E:X}:∀{es dg:aa MapEntry} {i:Nat},hm ai es dg->bA ai k dm->bA ai v E->hm ai (Gq es i k v) (dg.modify i λe=>{ e with key:=dm,val:=E })
 |_,_,i,.nil,_,_=>by cases i <;> exact .nil
 |_,_,0,.cons a b c t,D,A=>.cons D A c t
 |_,_,i+1,.cons a b c t,D,A=>.cons a b c (WP  t D A)
theorem WQ:∀{es dg:aa MapEntry} {i:Nat},hm ai es dg->hm ai (Ku es i) (dg.eraseIdx i)
 |_,_,i,.nil=>by cases i <;> exact .nil
 |_,_,0,.cons a b c t=>t
 |_,_,i+1,.cons a b c t=>.cons a b c (WQ  t)
end
theorem WR{a b:Addr}(h:zE a b=true):a=b:=by
 obtain⟨x,y,z⟩:=a;obtain⟨Z,V,I⟩:=b;unfold zE at h;rw[eC,eC]at h;obtain⟨⟨N,E⟩,M⟩:=h;have D:=gG N;have A:=gG E;simp only at D A;subst D A;cases z <;> cases I <;> simp at M
 all_goals grind
theorem asR{a b:Int}(h:fz a b=true):a=b:=by rw[kN]at h;grind
theorem X6(h:qf x y=true):x=y:=by
 unfold qf at h
 split at h <;> (try(split at h)) <;> (try(cases h;done)) <;> (try rfl)
 ·grind
 ·simp only[eC]at h;rw[Fr.1 h.1,asR h.2]
 ·rw[WR h]
 ·simp only[eC]at h;rw[gG h.1,gG h.2]
 ·simp only[eC]at h;rw[WR h.1.1,gG h.1.2,gG h.2]
 ·rw[gG h]
 ·rw[gG h]
theorem BZ:∀{x y:aa X},qg x y=true->x=y
 | [],[],_=>rfl
 |a::x,b::y,h=>by simp only[qg,eC]at h;rw[X6 h.1,BZ h.2]
 | [],_::_,h=>by simp[qg]at h
 |_::_,[],h=>by simp[qg]at h
theorem X7(h:nQ x y=true):x=y:=by
 unfold nQ at h
 split at h
 ·split at h
  ·rw[BZ h]
  grind
 ·split at h
  ·rw[BZ h]
  grind
 ·split at h
  ·simp only[eC]at h;rw[gG h.1.1,BZ h.1.2,BZ h.2]
  grind
 ·exact X6 h
section
variable {P:Program} {ai:ca} {B:Nat}
theorem ahU(q:Question)(w:World):∃n d,(choose q).run P w = .ok n { w with drawn:=d }/\w.drawn<=d:=by
 simp only[choose,Sem.run]
 split
 all_goals grind
theorem ahn{q:Question}{f:Nat->Sem X}{w:World}(D:∀n d,(f n).run P { w with drawn:=d } = .ok v { w with drawn:=d }):∃d,(choose q >>= f).run P w = .ok v { w with drawn:=d }/\w.drawn<=d:=by
 obtain⟨n,d,h,A⟩:=ahU  q w;refine⟨d,?_,A⟩;rw[Sem.run_bind,h,Result.andThen_ok]
 grind
theorem d7.drawn{H:fk}{w:World}(A:d7 B ai H w)(d:Nat):d7 B ai H { w with drawn:=d }:=A.world ab ab
theorem cx.from{w:World}(A:w.drawn<=d)(h:cx B ai H { w with drawn:=d } ao aj bq hj a9):cx B ai H w ao aj bq hj a9 :=
 ⟨h.rel,h.agree,h.size,h.os,⟨h.tape.1,hy A h.tape.2⟩,h.output,h.frame,h.own,h.le⟩
theorem agL(k:X)(w:World):∃d,(Instr.keyThatStays k k).run P w = .ok k { w with drawn:=d }/\w.drawn<=d:=by
 unfold Instr.keyThatStays
 split
 ·exact⟨w.drawn,rfl,J⟩
 ·refine ahn λn d=>?_;simp only[ite_self,Sem.run_pure]
theorem aly{h:ae}{w:World}(a5:d7 B ai (u h) w)(U:Nat){m:X}(dY:P.underlying t=some (.map dM e))(uZ:mB P dM h m k x = .ok ac)(bl:bA ai m n4)(hk:bA ai k cE)(a1:bA ai x dD):
  ∃a9,(Instr.mapUpdate t n4 cE dD).run P w = .ok () a9/\cx B ai (u h) w U U ai (u ac) a9:=by
 obtain⟨iw,h1⟩:=jD uZ;obtain⟨gb,E⟩:=Nk iw;have wy:cE=k:=ud (xq E).1 hk;subst wy
 split at h1
 ·rename_i r
  obtain⟨es,A,a6,ar⟩:=BY h1;cases bl with
  |map aT =>
   rename_i p
   obtain⟨dg,bV,M,et⟩:=a5.map aT a6;have D:=IA E false w;have I:=qS (P:=P) bV ab
   split at ar
   ·rename_i i e Z
    obtain⟨ap,aL⟩:=jD ar;cases aL;obtain⟨c,bm,b3⟩:=EI E M Z w;obtain⟨d3,cF,rfl⟩:=b3;obtain⟨_,GQ,N⟩:=EL  Z i e rfl;obtain⟨e'',eE,hkv,_,_⟩:=M.get GQ;rw[cF]at eE;cases eE;have V:d3.key=cE:=(ud (xq N).2 hkv).trans (X7 ap);obtain⟨d,iY,Sr⟩:=agL (P:=P) cE w;have hei:dg.toArray[i]? = some d3:=ab
    have T:=ug (P:=P) (w:={ w with drawn:=d }) (o:=.map (dg.toArray.modify i λe=>{ e with key:=cE,val:=dD }) A) bV ab;refine⟨{ w with drawn:=d,heap:=w.heap.setIfInBounds p.cm (.map (dg.toArray.modify i λe=>{ e with key:=cE,val:=dD }) A) },?_,?_⟩
    ·simp only[Instr.mapUpdate,Sem.run_bind,run_underlying dY,Result.andThen_ok,I,D,bm,hei,Ev,Iu,V,iY,T]
    ·refine cx.from  Sr (cx.set (a5.drawn d) U aT a6 et ab λa9 pC=>⟨et,_,?_,WP  M hk a1⟩)
     grind
   ·rename_i Z
    cases ar;obtain⟨c,bm,b3⟩:=EI E M Z w;cases b3;have T:=ug (P:=P)  (o:=.map (dg.toArray.push { key:=cE,val:=dD,born:=A }) (A+1)) bV ab;refine⟨{ w with heap:=w.heap.setIfInBounds p.cm (.map (dg.toArray.push { key:=cE,val:=dD,born:=A }) (A+1)) },?_,?_⟩
    ·simp only[Instr.mapUpdate,Sem.run_bind,run_underlying dY,Result.andThen_ok,I,D,bm,T]
    ·refine cx.set a5 U aT a6 et ab λa9 pC=>⟨et,dg++[{ key:=cE,val:=dD,born:=A }],?_,?_⟩
     ·grind
     ·rw[ka];exact M.app hk a1 rfl
   ·cases ar
 ·cases h1
theorem zj(o:Obj)(w:World):(newObj o).run P w = .ok w.heap.size { w with heap:=w.heap.push o }:=rfl
theorem VH{h:ae}{w:World}(M:d7 B ai (u h) w){U:Nat}(N:ai U=none){m:aw Nat}(Z:pt ai m bC)(c:Nat):
  ∃bq,bA bq (.pointer (some ⟨U,0,none⟩)) (.pointer (some ⟨w.heap.size,0,none⟩)) /\
   cx B ai (u h) w U (U+1) bq (u (T h U (.iter m c [] c))) { w with heap:=w.heap.push (.mapIter bC c #[] c) }:=by
 have V:(⟨w.heap.size,0,0,0⟩:Place).cm=w.heap.size:=rfl;have E:Sub ai (λk=>if k=U then some ⟨w.heap.size,0,0,0⟩else ai k):=λb q aT=>ab
 have D:(λk=>if k=U then some (⟨w.heap.size,0,0,0⟩:Place)else ai k) U=some ⟨w.heap.size,0,0,0⟩:=by simp
 have I:=bA.ptr (ai:=λk=>if k=U then some (⟨w.heap.size,0,0,0⟩:Place)else ai k) (o:=0) D;refine⟨_,I,?_⟩;rw[ul];have A:=Made.push w (.mapIter bC c #[] c);exact cx.make M N A.size A.dV A.os A.tape A.output V ⟨M.base,rfl,bC,A.new,Z.mono E⟩
theorem ahV{h:ae}{w:World}(M:d7 B ai (u h) w){U:Nat}(V:ai U=none)(ck:q3 P t=true)(Z:bA ai v c){K:bP}(A:dG (r3 h U v) K):
  iI P B ai (u h) w U (r3 h U v) (do pure (.value (<-Instr.range t c))):=by
 obtain⟨dM,D3,dY⟩:=M9 ck;unfold r3 at *
 split at A
 ·cases Z;obtain⟨bq,I,D⟩:=VH M V (m:=none) (bC:=none) trivial 0;refine⟨_,_,_,bq,_,_,rfl,I,D,.inl ?_⟩;simp[Instr.range,run_underlying dY,zj]
 ·split at A
  ·rename_i a6
   cases Z with
   |map N =>
    obtain⟨dg,bV,bE,et⟩:=M.map N a6;obtain⟨bq,I,D⟩:=VH M V (m:=some _) (bC:=some _) ⟨_,N,rfl⟩ _;refine⟨_,_,_,bq,_,_,rfl,I,D,.inl ?_⟩;have E:=qS (P:=P) bV ab;simp[Instr.range,run_underlying dY,zj,E]
  ·exact A.elim
 ·exact A.elim
theorem Nd(A:aa Nat):∀{es dg:aa MapEntry},hm ai es dg->hm ai (leftOf A es) (dg.filter λe=>!A.contains e.born)
 |_,_,.nil=>.nil
 |x::xs,y::Z,.cons N M I E=>by
  have D:(A.any (Nat.beq x.born))=A.contains y.born:=by
   rw[I,zc];simp only[xk,List.contains_iff_exists_mem_beq,Nat.beq_eq]
   grind
  unfold leftOf;rw[D,qQ];cases V:A.contains y.born
  ·simp only[my,Bool.not_false,if_true];exact .cons N M I (Nd A E)
  ·simp only[p5,Bool.not_true,nH,fa];exact Nd A E
theorem hm.mem:∀{es dg:aa MapEntry} {A:MapEntry},hm ai es dg->A∈dg->∃e∈es,bA ai e.key A.key/\bA ai e.val A.val/\A.born=e.born
 |_,_,A,.cons (e:=x) N M E D,h=>by
  rcases g5.1 h with rfl|h
  ·exact⟨x,by simp,N,M,E⟩
  ·obtain⟨e,V,I⟩:=hm.mem D h;exact⟨e,by simp[V],I⟩
theorem aho{n:Nat}(A:0<n)(w:World):∃i d,(choose (.mapNext n)).run P w = .ok i { w with drawn:=d }/\w.drawn<=d/\i<n:=by
 simp only[choose,Sem.run,Question.forced,Question.cut]
 by_cases h:n<=1
 ·exact⟨0,w.drawn,by simp[h],J,A⟩
 ·exact⟨w.tape w.drawn (.mapNext n) % n,w.drawn+1,ab,J,zf _ A⟩
theorem apd{h:ae}{w:World}(a5:d7 B ai (u h) w)(U:Nat)(aJ:bA ai v c){s:al}{K:bP}(iw:uW s h U v K)(qE:TypeId):
  ∃dN ac bq bO a9,K dN ac U/\bA bq dN bO/\cx B ai (u h) w U U bq (u ac) a9/\(Instr.next c false qE).run P w = .ok bO a9:=by
 obtain⟨it,r,E,st,Sq,A,es,rfl,rfl,a6,bl,u0,au,Z⟩:=iw;obtain⟨p,_,bk,rfl⟩:=aJ.N2;obtain⟨bC,bV,eU,ix,hBi⟩:=a5.iter bk a6;cases bC with
 |none=>exact eU.elim
 |some bC =>
  obtain⟨q,cM,rfl⟩:=eU;have bB:=qS (P:=P) bV ab;obtain⟨dg,pC,bE,et⟩:=a5.map cM bl;have g2:=qS (P:=P) pC ab;have N:(!A.toArray.isEmpty&&!dg.toArray.isEmpty&&dg.toArray.all (λe=>decide (e.born≥st)))=false:=by
   unfold JU at u0;simp only[Bool.or_eq_true]at u0;rcases u0 with(Z|Z)|Z
   ·grind
   ·simp[List.isEmpty_iff]at Z;subst Z;cases bE;simp
   ·obtain⟨e,ar,aL⟩:=xk.1 Z;obtain⟨k,hk⟩:=BC ar;obtain⟨I,bm,_,_,b3⟩:=bE.get hk;have cA:e.born<st:=by simpa[vB]using aL
    grind
  have D:=Nd A bE;have M:(dg.toArray.filter λe=>!A.toArray.contains e.born)=(dg.filter λe=>!A.contains e.born).toArray:=by simp
  generalize bK:(dg.filter λe=>!A.contains e.born)=eh at D M;cases bb:leftOf A es with
  |nil =>
   rw[bb]at D;cases D;refine⟨_,_,ai,_,w,au bb,.tuple (.cons (.bool _) .nil),cx.refl U a5,?_⟩;simp only[Instr.next,ix,nK,Sem.run_bind,bB,g2,Result.andThen_ok,N,M,nH,fa];simp[choose,Sem.run,Question.forced]
  |cons aM l =>
   have V:∀I∈eh,∃e∈leftOf A es,bA ai e.key I.key/\bA ai e.val I.val/\I.born=e.born:=λI h=>D.mem h;have b3:∀I∈eh,I.born<E:=λI h=>by obtain⟨e,ar,_,_,aL⟩:=V I h;rw[aL];exact(Z e ar).1
   have e0:eh≠[]:=by
    intro h;subst h;have:=D.length
    grind
   have aq:(eh.toArray.filter λe=>decide (e.born<E))=eh.toArray:=by apply Array.ext';rw[Array.toList_filter];exact y6.2 ab
   have aS:(eh.toArray.filter λe=>decide (e.born≥E))=#[]:=by apply Array.ext';rw[Array.toList_filter];exact y3.2 ab
   have axl:eh.toArray.isEmpty=false:=ab
   obtain⟨i,d,An,Sr,aj⟩:=aho (P:=P) (n:=eh.length) ab w;obtain⟨I,he'⟩:∃I,eh[i]? = some I:=⟨eh[i],ab⟩
   obtain⟨e,KA,hk,u1,aT⟩:=V I ab;have T:=ug (P:=P) (w:={ w with drawn:=d }) (o:=.mapIter (some q.cm) E (A.toArray.push I.born) Sq) bV ab;rw[List.push_toArray]at T;refine⟨_,_,ai,.tuple #[.bool true,I.key,I.val],{ w with drawn:=d,heap:=w.heap.setIfInBounds p.cm (.mapIter (some q.cm) E (A++[I.born]).toArray Sq) },(Z e KA).2,.tuple (.cons (.bool _) (.cons hk (.cons u1 .nil))),?_,?_⟩
   ·refine cx.from  Sr (cx.set (a5.drawn d) U bk a6 hBi ab λa9 pC=>⟨hBi,ix,some q.cm,?_,⟨q,cM,rfl⟩⟩)
    grind
   ·simp only[Instr.next,ix,nK,Sem.run_bind,bB,g2,Result.andThen_ok,N,M,nH,fa,aq,aS,axl];simp[An,he',T]
theorem Vn{h:ae}{w:World}(a5:d7 B ai (u h) w){a:aw Addr}{c s:Nat}{k:aa X->R fl}{r:fl}(aJ:bA ai (.slice a len c) n5)(bl:m<=len)(N:k6 h a (Nat.mul m s) k = .ok r):∃l,k l = .ok r/\l.length=m*s/\∀d,∃b6,dl ai l b6/\(Builtin.firstCells s m n5).run P { w with drawn:=d } = .ok b6.toArray { w with drawn:=d }:=by
 obtain⟨eg,bO,rfl,D⟩:=aJ.xv;unfold k6 at N;rcases y8 (Nat.mul m s)with au|Rv
 ·rw[au]at N;have Z:m*s=0:=au;refine⟨[],N,ab,λd=>⟨[],.nil,?_⟩⟩;cases eg with
  |none=>rfl
  |some x=>simp only[Builtin.firstCells,Z];rfl
 ·obtain⟨q,cM⟩:∃q,Nat.mul m s=q+1:=⟨Nat.mul m s-1,J⟩
  have E:Option.casesOn (motive:=λ_=>R fl) a (.no "read - nil") (λa=>cellsOf h a.block (λcs _=>R.of "read - out of block" (na (Nat.mul m s) (m6 cs a.off)) k)) = .ok r:=by rw[cM]at N ⊢;omega
  have V:0<m:=ab
  rcases D with⟨rfl,_,_⟩|⟨b,o,aO,p,rfl,aT,rfl,_⟩|⟨b,o,g,aX,rfl,pD,_,rfl⟩
  ·cases E
  ·obtain⟨cs,bJ,aZ,ei⟩:=EK E;obtain⟨l,A,e8⟩:=R.kR ei;have M:l.length=m*s:=by
    rw[q1]at A
    grind
   refine⟨l,e8,M,λd=>?_⟩;obtain⟨b6,Dm,I⟩:=Z3  (a5.drawn d) aT aZ A;exact⟨b6,Dm,I⟩
  ·omega
theorem ai7{h:ae}{w:World}(a5:d7 B ai (u h) w)(U:Nat){s:Nat}(hg:ag[0]? = some t)(ap:Cl P t=some s){r:fl}(E:QU s h U x y = .ok r)(a1:bA ai x dD)(ce:bA ai y h3)(qE:TypeId):
  iI P B ai (u h) w U r (do pure (.value (<-Builtin.copy_ ag qE #[dD,h3]))):=by
 obtain⟨e,dY,V⟩:=VG ap;unfold QU at E
 split at E
 ·rename_i a len cap
  split at E
  ·rename_i b n mC
   obtain⟨eg,bO,rfl,hcx⟩:=a1.xv;have Ss:=ce;obtain⟨cd,c'',rfl,hcy⟩:=ce.xv;obtain⟨l,A,Z,N⟩:=Vn (P:=P) a5 Ss (Nat.min_le_left n len) E;obtain⟨b6,I,D⟩:=N w.drawn;have M:∀w,(Builtin.lenOf (.slice cd n c'')).run P w = .ok n w:=λ_=>rfl
   split at A
   ·cases A;cases I;refine⟨_,_,_,ai,_,w,rfl,.int _ _,cx.refl U a5,.inl ?_⟩;simp[Builtin.copy_,hg,run_underlying dY,M,j9 V,D,goInt];cases eg <;> simp[storeCells]
   ·split at A
    ·rename_i e0 _ a
     obtain⟨ac,pC,A⟩:=R.e7 A;cases A;rcases hcx with⟨h1,_⟩|⟨D4,HL,aO,p,h1,aT,rfl,_⟩|⟨_,_,g,aX,h1,pD,_,rfl⟩
     ·cases h1
     ·cases h1;obtain⟨a9,iY,kj⟩:=IK (P:=P) a5 U aT pC I;refine⟨_,_,_,ai,_,a9,rfl,.int _ _,kj,.inl ?_⟩;simp[Builtin.copy_,hg,run_underlying dY,M,j9 V,D,goInt,iY]
     ·exfalso;rw[pD,Nat.min_zero,l1]at Z
      grind
    ·cases A
  ·cases E
 ·cases E
theorem ahW{h:ae}{w:World}(V:d7 B ai (u h) w)(U:Nat)(A:ag[0]? = some t)(hty:q3 P t=true\/mY P t=true){r:fl}(D:FM P t h U x = .ok r)(a1:bA ai x dD)(qE:TypeId):
  iI P B ai (u h) w U r (do pure (.value (<-Builtin.clear_ ag qE #[dD]))):=by
 have N:∃d,P.underlying t=some d:=by
  rcases hty with h|h
  ·obtain⟨k,e,h⟩:=M9 h;grind
  ·obtain⟨e,h⟩:=M1 h;grind
 obtain⟨d,N⟩:=N;unfold FM at D
 split at D
 ·cases D;cases a1;exact⟨_,_,_,ai,_,w,rfl,s1,cx.refl U V,.inl (by simp[Builtin.clear_,A,run_underlying N];rfl)⟩
 ·obtain⟨es,Z,a6,E⟩:=BY D;cases E;cases a1 with
  |map aT =>
   rename_i p
   obtain⟨dg,bV,bE,et⟩:=V.map aT a6;have K4:=qS (P:=P) bV ab;have T:=ug (P:=P)  (o:=.map #[] Z) bV ab;refine⟨_,_,_,ai,_,{ w with heap:=w.heap.setIfInBounds p.cm (.map #[] Z) },rfl,s1,cx.set V U aT a6 et ab λa9 M=>⟨et,[],M,.nil⟩,.inl ?_⟩;simp[Builtin.clear_,A,run_underlying N,K4,T];rfl
 ·cases D;obtain⟨eg,bO,rfl,I⟩:=a1.xv;rcases I with⟨_,rfl,_⟩|⟨_,_,_,_,h,_⟩|⟨_,_,_,_,h,_⟩
  ·exact⟨_,_,_,ai,_,w,rfl,s1,cx.refl U V,.inl (by simp[Builtin.clear_,A,run_underlying N];rfl)⟩
  ·cases h
  ·cases h
 ·rename_i a n cap
  obtain⟨eg,bO,rfl,I⟩:=a1.xv;cases n with
  |zero =>
   cases D;refine⟨_,_,_,ai,_,w,rfl,s1,cx.refl U V,.inl ?_⟩;cases eg <;> simp[Builtin.clear_,A,run_underlying N] <;> rfl
  |succ m =>
   have D:JV P t h U a (Nat.succ m) = .ok r:=D;obtain⟨e,bE,E⟩:=R.kR D;obtain⟨w0,cZ,ar⟩:=R.kR E;obtain⟨ac,M,aL⟩:=R.e7 ar;cases aL;obtain⟨i,z,aj,nf,si,rfl⟩:=zh cZ;have uZ:=EC bE;rcases I with⟨E,_⟩|⟨D4,HL,aO,p,E,aT,rfl,_⟩|⟨_,_,g,aX,E,pD,_,rfl⟩
   ·cases E
   ·cases E;obtain⟨a9,iY,kj⟩:=IK (P:=P) V U aT M (B5 (xp si ai) (Nat.succ m));refine⟨_,_,_,ai,_,a9,rfl,s1,kj,.inl ?_⟩;simp[Builtin.clear_,A,run_underlying uZ,xz aj nf,zg,iY];rfl
   ·cases pD
 ·cases D
theorem ahp{h:ae}{w:World}(a5:d7 B ai (u h) w)(U:Nat)(N:ag[0]? = some t){m:X}{r:fl}(V:Fp P t h U m k = .ok r)(bl:bA ai m n4)(hk:bA ai k cE)(qE:TypeId):
  iI P B ai (u h) w U r (do pure (.value (<-Builtin.delete_ ag qE #[n4,cE]))):=by
 unfold Fp at V
 split at V
 ·rename_i dM e dY
  obtain⟨iw,h1⟩:=jD V;obtain⟨gb,E⟩:=Nk iw;have wy:cE=k:=ud (xq E).1 hk;subst wy;unfold OR at h1
  split at h1
  ·rename_i b
   obtain⟨es,D,a6,Z⟩:=BY h1;cases bl with
   |map aT =>
    rename_i p
    obtain⟨dg,bV,bE,et⟩:=a5.map aT a6;have A:=IA E dg.isEmpty w;have M:=qS (P:=P) bV ab
    split at Z
    ·rename_i i e bK
     cases Z;obtain⟨c,bm,b3⟩:=EI E bE bK w;obtain⟨d3,cF,rfl⟩:=b3;have T:=ug (P:=P)  (o:=.map (dg.eraseIdx i).toArray D) bV ab;have cA:i<dg.length:=ab
     refine⟨_,_,_,ai,_,{ w with heap:=w.heap.setIfInBounds p.cm (.map (dg.eraseIdx i).toArray D) },rfl,s1,cx.set a5 U aT a6 et ab λa9 pC=>⟨et,dg.eraseIdx i,?_,WQ bE⟩,.inl ?_⟩
     ·omega
     ·simp[Builtin.delete_,N,run_underlying dY,M,A,bm,T,Array.eraseIdxIfInBounds,cA];rfl
    ·rename_i bK
     cases Z;obtain⟨c,bm,b3⟩:=EI E bE bK w;cases b3;have T:=ug (P:=P)  (o:=.map dg.toArray D) bV ab;have I:(w.heap.setIfInBounds p.cm (.map dg.toArray D))=w.heap:=ab
     rw[I]at T;refine⟨_,_,_,ai,_,w,rfl,s1,cx.refl U a5,.inl ?_⟩;simp[Builtin.delete_,N,run_underlying dY,M,A,bm,T];rfl
    ·cases Z
  ·cases h1
 ·cases V
end
section
variable {P:Program} {ai:ca} {B:Nat}
theorem cx.less{H hj:fk}{w:World}(U:Nat)(E:d7 B ai H w)(M:∀b o,hj b=some o->H b=some o):cx B ai H w U U ai hj w where
 rel:=E.less M
 agree:=ab
 size:=J
 os:=rfl
 tape:=.here
 output:=rfl
 frame:=ab
 own:=λk ⟨b,p,N,A,D,I⟩=>by obtain⟨o,V⟩:=mX.1 A;exact .inl ⟨b,p,N,ab,D,I⟩
 le:=J
theorem cx.asS{w:World}{U:Nat}{ew:Place}{o:gh}(V:d7 B ai H w)(bH:ai U=none)(aT:ai b=some p)(eU:H b=some o)(et:B<=p.cm)(hH':∀x,hj x=if x=b then none else H x)(bk:ew.cm=p.cm)(jH:a9.heap.size=w.heap.size)(lh:∀k,k≠p.cm->a9.heap[k]? = w.heap[k]?)(ww:a9.os=w.os)(Sh:qD w a9)(GM:a9.output=w.output)(rj:l7 B (λk=>if k=U then some ew else ai k) a9 ew aX):
  cx B ai H w U (U+1) (λk=>if k=U then some ew else ai k) (hj.put U aX) a9:=by
 have nT:Sub ai (λk=>if k=U then some ew else ai k):=λx q D=>ab
 have A:∀x,x≠U->((hj.put U aX) x).isSome->(H x).isSome/\x≠b:=λx e h=>by
  simp only[fk.put,e,fa,hH']at h
  grind
 refine⟨⟨by have:=V.base;omega,?_,?_,?_⟩,λx D=>?_,J,ww,Sh,GM,?_,?_,J⟩
 ·intro x q y D E
  by_cases e:x=U
  ·subst e;simp[fk.put]at D E;subst D;subst E;exact rj
  ·obtain⟨Z,M⟩:=A x e ab;simp only[e,fa]at D;simp only[fk.put,e,fa,hH',M]at E;refine(V.obj x q y D E).mono nT (lh _ λN=>M ?_);exact V.inj x b q p D aT Z ab J N
 ·intro x y q k0 D E ap nd I N
  by_cases e:x=U <;> by_cases d3:y=U
  ·omega
  ·subst e;simp at D;subst D;obtain⟨Z,M⟩:=A y d3 nd;simp only[d3,fa]at E;exact absurd (V.inj y b k0 p E aT Z ab J J) M
  ·subst d3;simp at E;subst E;obtain⟨Z,M⟩:=A x e ap;simp only[e,fa]at D;exact absurd (V.inj x b q p D aT Z ab J J) M
  ·obtain⟨Z,_⟩:=A x e ap;obtain⟨M,_⟩:=A y d3 nd;simp only[e,fa]at D;simp only[d3,fa]at E;exact V.inj x y q k0 D E Z M I N
 ·intro x ap
  by_cases e:x=U
  ·grind
  ·simp only[e,fa];exact V.mG x ab
 ·grind
 ·intro k hk u0;exact lh k λe=>u0 ⟨b,p,aT,ab,e.symm,J⟩
 ·rintro k ⟨x,q,D,ap,rfl,I⟩
  by_cases e:x=U
  ·subst e;simp at D;subst D;exact .inl ⟨b,p,aT,ab,bk.symm,I⟩
  ·simp only[e,fa]at D;exact .inl ⟨x,q,D,ab,rfl,I⟩
theorem WS{n:Nat}(A:n<=1000000):∀(r c:Nat),c<=1250192->Builtin.growBy n r c<=1250192
 |0,c,h=>h
 |r+1,c,h=>by
  unfold Builtin.growBy
  split
  ·exact h
  ·exact WS A r _ J
theorem nextslicecap_le{c:Nat}(A:jF<=1000000)(D:c<jF):Builtin.nextslicecap jF c<=2000000:=by
 unfold Builtin.nextslicecap
 split
 ·omega
 ·split
  ·omega
  ·exact hy (WS A 4 c J) J
theorem run_typeInfo{i:TypeInfo}(h:P.info? t=some i)(w:World):(typeInfo t).run P w = .ok i w:=by simp[typeInfo,h]
theorem X8{h:ae}{U s:Nat}{r:fl}(D:qh h U s l jF = .ok r):
  ∃A,s=A+1/\r = .val (.slice (some ⟨U,0,some (A+1)⟩) jF jF) (T h U (.cells l false)) (U+1):=by
 unfold qh at D;cases s with
 |zero=>cases D
 |succ A=>grind
theorem V4{h N:ae}{w:World}(a5:d7 B ai (u h) w){U s:Nat}(bH:ai U=none)(Z:∀b o,u N b=some o->u h b=some o){r:fl}(hk:qh N U s l jF = .ok r)(bb:dl ai l b6){z:aa X}(cZ:z.length=s){A:Nat}(aZ:jF<=A)(d:Nat)(bp:w.drawn<=d)(e:TypeId):
  ∃v ac Y bq,r = .val v ac Y/\bA bq v (.slice (some ⟨w.heap.size,0,none⟩) jF A) /\
   cx B ai (u h) w U Y bq (u ac) { w with drawn:=d,heap:=w.heap.push (.cells (b6++gI (A-jF) z).toArray e) }:=by
 obtain⟨lp,rfl,rfl⟩:=X8 hk
 let p:Place:=⟨w.heap.size,0,A-jF,lp+1⟩
 have D:(λk=>if k=U then some p else ai k) U=some p:=by simp
 have E:Sub ai (λk=>if k=U then some p else ai k):=λb q aT=>ab
 have aJ:=bA.ox (ai:=λk=>if k=U then some p else ai k) (o:=0)  D rfl jF jF;have I:jF+p.spare=A:=ab
 rw[I]at aJ;refine⟨_,_,_,_,rfl,aJ,?_⟩;rw[ul];have N:=cx.less  U a5 Z;refine N.trans ?_;have V:l7 B (λk=>if k=U then some p else ai k) { w with drawn:=d,heap:=w.heap.push (.cells (b6++gI (A-jF) z).toArray e) } p (.cells l false):=?_
 ·exact cx.make N.rel bH (by simp) ab rfl ⟨rfl,bp⟩ rfl rfl V
 refine⟨a5.base,rfl,(b6++gI (A-jF) z).toArray,e,0,0,ab,J,IR ?_,?_⟩
 ·have M:=bb.length;rw[If J];rw[M,iQ];exact bb.mono E
 ·have M:=bb.length;simp only[List.size_toArray,jm,EH,cZ]
  grind
theorem alz{I:aa X}{c:Array X}{s:Nat}(D:pf ai cs c 0)(N:cs.length=len*s)(A:na (len*s) (m6 cs 0)=some I):
  ∃E,dl ai I E/\E=c.toList.take (len*s):=by
 rw[q1,rW,pb]at A
 split at A
 ·cases A;refine⟨_,?_,rfl⟩;obtain⟨b6,Z,M,V⟩:=D.cut (o:=0) (n:=len*s) J;have:b6=c.toList.take (len*s):=by
   apply oq
   grind
  rw[<-this];simpa using M
 ·cases A
theorem ahX{h:ae}{w:World}(a5:d7 B ai (u h) w){U:Nat}(bH:ai U=none){s n:Nat}{a:aw Addr}(a1:bA ai (.slice a len cap) dD)(fW:new.length=n*s){z:aa X}(cZ:z.length=s)(e:TypeId){r:fl}(I:gT s h U a len cap n new = .ok r):
  ∃eg bO,dD = .slice eg len bO /\
   ((len+n<=bO/\∀A,dl ai new A->∃v ac Y bq a9,r = .val v ac Y/\bA bq v (.slice eg (len+n) bO)/\cx B ai (u h) w U Y bq (u ac) a9 /\
     (match eg with|some x=>(storeCells (x.add (len*s)) A).run P w = .ok () a9 | none=>a9=w)) \/
    (bO<len+n/\len+n<=1000000/\∀d D,w.drawn<=d->len+n<=D->∃E:aa X,(Builtin.firstCells s len dD).run P { w with drawn:=d } = .ok E.toArray { w with drawn:=d } /\
     ∀A,dl ai new A->∃v ac Y bq,r = .val v ac Y/\bA bq v (.slice (some ⟨w.heap.size,0,none⟩) (len+n) D) /\
      cx B ai (u h) w U Y bq (u ac) { w with drawn:=d,heap:=w.heap.push (.cells (E++A++gI (D-(len+n)) z).toArray e) })):=by
 obtain⟨eg,bO,rfl,oB⟩:=a1.xv;refine⟨eg,bO,rfl,?_⟩;unfold gT at I;cases rf:Nat.ble (Nat.add len n) cap with
 |true =>
  rw[rf]at I;have dR:len+n<=cap:=l0 rf;have I:QT h U s a len cap (Nat.add len n) new = .ok r:=I;unfold QT at I
  left
  rcases oB with⟨rfl,rfl,rfl⟩|⟨b,o,aO,p,rfl,aT,rfl,qt⟩|⟨b,o,g,aX,rfl,pD,hc0,rfl⟩
  ·cases I;exact⟨dR,λA _=>⟨_,_,_,ai,w,rfl,.qW _ _,cx.refl U a5,rfl⟩⟩
  ·have wx:bA ai (.slice (some ⟨b,o,aO⟩) (len+n) cap) (.slice (some ⟨p.cm,p.off+o,none⟩) (len+n) bO):=by
    rcases qt with⟨rfl,rfl⟩|⟨lp,rfl,Do,rfl⟩
    ·exact .kO aT _ _
    ·exact .ox aT Do _ _
   have K5:len+n<=bO:=J
   refine⟨K5,λA aS=>?_⟩;dsimp only at I
   split at I
   ·cases I;cases aS;exact⟨_,_,_,ai,w,rfl,wx,cx.refl U a5,rfl⟩
   ·obtain⟨ac,pC,I⟩:=R.e7 I;cases I;obtain⟨a9,iY,kj⟩:=IK (P:=P) a5 U aT pC aS;refine⟨_,_,_,ai,a9,rfl,wx,kj,?_⟩;have:(⟨p.cm,p.off+o,none⟩:Addr).add (len*s)=⟨p.cm,p.off+(o.add (len.mul s)),none⟩:=by rw[pe,vA];rfl
    dsimp only
    grind
  ·subst pD hc0;have md:n=0:=J
   subst md;have wm:new=[]:=ab
   subst wm;cases I;refine⟨J,λA aS=>?_⟩;cases aS;exact⟨_,_,_,ai,w,rfl,.oy _ _ _ _ _,cx.refl U a5,rfl⟩
 |false =>
  rw[rf]at I;obtain⟨fw,I⟩:=jD  I;simp only[eC]at fw;have QV:len+n<=1000000:=l0 fw.2;have u2:cap<len+n:=by
   rcases jn cap (len+n)with h|h
   ·exact h
   ·have:=BA h
    grind
  rcases oB with⟨rfl,rfl,rfl⟩|⟨b,o,aO,p,rfl,aT,rfl,qt⟩|⟨b,o,g,aX,rfl,pD,hc0,rfl⟩
  ·right
   refine⟨u2,QV,λd D bp yn=>⟨[],rfl,λA aS=>?_⟩⟩;exact V4 a5 bH ab I aS cZ yn d bp e
  ·obtain⟨cs,bJ,aZ,I⟩:=EK I;obtain⟨V,N,I⟩:=R.kR I;dsimp only at N I;have avd:∀d,∃E,dl ai V E/\(Builtin.firstCells s len (.slice (some ⟨p.cm,p.off+o,none⟩) len bO)).run P { w with drawn:=d } = .ok E.toArray { w with drawn:=d }:=λd =>
    Z3  (a5.drawn d) aT aZ N
   have grow:bO<len+n->∀h1:ae,(∀b o,u h1 b=some o->u h b=some o)->qh h1 U s (kz V new) (Nat.add len n) = .ok r ->
     ∀d D,w.drawn<=d->len+n<=D->∃E:aa X,(Builtin.firstCells s len (.slice (some ⟨p.cm,p.off+o,none⟩) len bO)).run P { w with drawn:=d } = .ok E.toArray { w with drawn:=d } /\
     ∀A,dl ai new A->∃v ac Y bq,r = .val v ac Y/\bA bq v (.slice (some ⟨w.heap.size,0,none⟩) (len+n) D) /\
      cx B ai (u h) w U Y bq (u ac) { w with drawn:=d,heap:=w.heap.push (.cells (E++A++gI (D-(len+n)) z).toArray e) }:=by intro _ h1 dR a6 d D bp yn;obtain⟨E,Dp,ti⟩:=avd d;refine⟨E,ti,λA aS=>?_⟩;rw[ka]at a6;exact V4 a5 bH dR a6 (Dp.append aS) cZ yn d bp e
   rcases qt with⟨rfl,rfl⟩|⟨lp,rfl,Do,rfl⟩
   ·grind
   ·dsimp only at I;obtain⟨M,hkg⟩:=jD I;simp only[eC]at M;obtain⟨⟨⟨⟨⟨K6,St⟩,lG⟩,GR⟩,ri⟩,axm⟩:=M;have axn:bJ=false:=ab
    subst axn;have St:o=0:=gG St;have lG:cs.length=len*s:=by rw[<-ou];exact gG lG
    have GR:lp+1=s:=gG GR;have ri:len=cap:=gG ri;subst ri St;have dR:∀x y,u (x1 h b) x=some y->u h x=some y:=λx y Su=>by
     rw[Nv]at Su
     grind
    rcases jn (len+p.spare) (len+n)with cA|eN
    ·grind
    ·left
     refine⟨eN,λA aS=>?_⟩;obtain⟨pR,hs1,rfl⟩:=X8 hkg;have axo:lp=pR:=J
     subst axo;obtain⟨et,axp,c,d3,ao,aj,bV,lh,asT,afL⟩:=a5.obj b p _ aT aZ;have Dq:=aS.length;rw[GR]at Do;rw[lG,Do]at afL;have azN:n*s<=p.spare*s:=p2 s J;have azO:(⟨p.cm,p.off+0,none⟩:Addr).add (len*s)=⟨p.cm,len*s,none⟩:=by rw[pe,axp];simp
     obtain⟨a9,iY,Z⟩:=MY P p.cm (len*s) d3 ao aj A 0 c w bV J J (λv aJ=>WM (Nb aS axm v aJ))
     ·let ew:Place:=⟨p.cm,0,p.spare-n,s⟩
      have Kc:(λk=>if k=U then some ew else ai k) U=some ew:=by simp
      have nT:Sub ai (λk=>if k=U then some ew else ai k):=λb q aT=>ab
      have aJ:=bA.ox (ai:=λk=>if k=U then some ew else ai k) (o:=0)  Kc J (len+n) (len+n);have ave:len+n+ew.spare=len+p.spare:=ab
      rw[ave]at aJ;have hpz:(⟨ew.cm,ew.off+0,none⟩:Addr)=⟨p.cm,p.off+0,none⟩:=ab
      rw[hpz]at aJ;refine⟨_,_,_,_,a9,rfl,aJ,?_,by dsimp only;grind⟩;rw[ul];refine cx.asS a5 bH aT aZ et (λx=>Nv h b x) rfl Z.size Z.frame Z.os Z.tape Z.output ?_;refine⟨et,rfl,_,d3,ao,aj,Z.heap,?_,IR ?_,?_⟩
      ·grind
      ·obtain⟨E,Dp,wz⟩:=alz asT lG N;simp only[nK];rw[ka];have hol:V.length=len*s:=by
        rw[Dp.length,wz]
        grind
       have oN:(c.toList.take (len*s)++A++c.toList.drop (len*s+A.length)).take (V++new).length=E++A:=by
        rw[wz];apply List.take_left'
        grind
       rw[oN];exact(Dp.append aS).mono nT
      ·simp only[ka,List.size_toArray,jm,p3,Ep,Ek,nK];have hol:V.length=len*s:=by
        rw[q1,rW]at N
        grind
       show min (len*s) c.size+A.length+(c.size-(len*s+A.length))=V.length+new.length+(p.spare-n)*s;rw[Nat.sub_mul];omega
  ·obtain⟨cs,bJ,aZ,I⟩:=EK I;obtain⟨V,N,I⟩:=R.kR I;dsimp only at I;obtain⟨M,I⟩:=jD I;simp only[eC]at M;have GR:0=s:=gG ab;subst GR;cases I
theorem VI{i:TypeInfo}(aj:P.info? e=some i)(h:xH P e=true):i.bytes<=1000000:=by unfold xH at h;rw[aj]at h;exact l0 h
theorem wrap_small{n:Nat}(h:n<=1000000):IntKind.i64.wrap (n:Int)=(n:Int):=by
 rw[<-nL];show zC .i64 n=(n:Int)
 unfold zC x2;have:Nat.blt n 9223372036854775808=true:=by rw[vB];omega
 grind
theorem V5{h:ae}{w:World}(a5:d7 B ai (u h) w){U:Nat}(bH:ai U=none){s n:Nat}{a:aw Addr}(a1:bA ai (.slice a len cap) dD)(fW:new.length=n*s){i:TypeInfo}(aj:P.info? e=some i)(nf:i.zero=some z)(K3:z.cells.toList.length=s)(V:jG P e=some s)(ty:i.bytes<=1000000)(si:ux z=true){r:fl}(hk:gT s h U a len cap n new = .ok r)(hg:ag[0]? = some t)(dY:P.underlying t=some (.slice e))(qE:TypeId) (oB:(∃t1 q k,ag[1]? = some t1/\P.underlying t1=some (.int q)/\h3 = .int k (.ofNat n)/\n<=1000000/\new=gI n z.cells.toList) \/
   ((ag[1]? = none\/∃t1 d,ag[1]? = some t1/\P.underlying t1=some d/\∀q,d≠.int q)/\(∀w,(Builtin.lenOf h3).run P w = .ok n w) /\
    ∀d,∃z8,dl ai new z8/\(Builtin.firstCells s n h3).run P { w with drawn:=d } = .ok z8.toArray { w with drawn:=d })):
  iI P B ai (u h) w U r (do pure (.value (<-Builtin.append_ ag qE #[dD,h3]))):=by
 obtain⟨eg,bO,rfl,avf⟩:=ahX (P:=P) a5 bH a1 fW K3 e hk;have hbz:¬((n:Int)*(i.bytes:Int)>2 ^ 48)\/1000000<n:=by
  rcases jn 1000000 n with h|h
  ·omega
  ·left
   have:n*i.bytes<=1000000*1000000:=rU h ty;omega
 have C3:¬((n:Int)<0):=J
 have M:∀(k:IntKind) (w:World),(asInt (Value.int k (n:Int))).run P w = .ok (n:Int) w:=λ_ _=>rfl;have aef:w.drew={ w with drawn:=w.drawn+1 }:=rfl;have I:=λw=>xz aj nf w;rcases avf with⟨dR,pE⟩|⟨cA,QV,Sv⟩
 ·rcases oB with⟨t1,q,k,N,Z,rfl,wA,rfl⟩|⟨yo,rk,nb⟩
  ·obtain⟨v,ac,Y,bq,a9,D,aJ,kj,E⟩:=pE _ (B5 (xp si ai) n);refine⟨v,ac,Y,bq,_,a9,D,aJ,kj,.inl ?_⟩;have z9:¬(281474976710656<(n:Int)*(i.bytes:Int)):=J
   have wB:IntKind.i64.wrap (n:Int)=(n:Int):=wrap_small J
   by_cases Ao:n*s=0
   ·have wm:gI n z.cells.toList=[]:=ab
    rw[wm]at E;cases eg with
    |none=>simp[Builtin.append_,hg,run_underlying dY,j9 V,N,run_underlying Z,dR,M,C3,wB,run_typeInfo aj,z9,Ao]at E ⊢;grind
    |some x=>simp[Builtin.append_,hg,run_underlying dY,j9 V,N,run_underlying Z,dR,M,C3,wB,run_typeInfo aj,z9,Ao]at E ⊢;simp[E]
   ·cases eg with
    |none=>simp[Builtin.append_,hg,run_underlying dY,j9 V,N,run_underlying Z,dR,M,C3,wB,run_typeInfo aj,z9,Ao,I,zg]at E ⊢;grind
    |some x=>simp[Builtin.append_,hg,run_underlying dY,j9 V,N,run_underlying Z,dR,M,C3,wB,run_typeInfo aj,z9,Ao,I,zg]at E ⊢;simp[E]
  ·obtain⟨z8,aS,A⟩:=nb w.drawn;have A:(Builtin.firstCells s n h3).run P w = .ok z8.toArray w:=A;obtain⟨v,ac,Y,bq,a9,D,aJ,kj,E⟩:=pE z8 aS;refine⟨v,ac,Y,bq,_,a9,D,aJ,kj,.inl ?_⟩;rcases yo with yo|⟨t1,d,N,Z,bp⟩
   ·cases eg with
    |none=>simp[Builtin.append_,hg,run_underlying dY,j9 V,yo,rk,dR,A]at E ⊢;grind
    |some x=>simp[Builtin.append_,hg,run_underlying dY,j9 V,yo,rk,dR,A]at E ⊢;simp[E]
   ·cases eg with
    |none=>simp[Builtin.append_,hg,run_underlying dY,j9 V,N,run_underlying Z,rk,dR,A]at E ⊢;grind
    |some x=>simp[Builtin.append_,hg,run_underlying dY,j9 V,N,run_underlying Z,rk,dR,A]at E ⊢;simp[E]
 ·have K7:¬(len+n<=bO):=J
  have KB:¬(9223372036854775807<(len:Int)+(n:Int)):=J
  have KC:¬(281474976710656<Builtin.nextslicecap (len+n) bO*i.bytes):=by have:=rU (nextslicecap_le QV cA) ty;omega
  have KD:(Question.appendCap (len+n) bO e).forced=false:=rfl;generalize rf:(Question.appendCap (len+n) bO e).cut (w.tape w.drawn (Question.appendCap (len+n) bO e))=ace;have yn:len+n<=ace:=by rw[<-rf];exact MW _ _
  obtain⟨azP,aq,aeg⟩:=Sv (w.drawn+1) ace J yn;rw[<-aef]at aq;rcases oB with⟨t1,q,k,N,Z,rfl,wA,rfl⟩|⟨yo,rk,nb⟩
  ·obtain⟨v,ac,Y,bq,D,aJ,kj⟩:=aeg _ (B5 (xp si ai) n);refine⟨v,ac,Y,bq,_,_,D,aJ,kj,.inl ?_⟩;have z9:¬(281474976710656<(n:Int)*(i.bytes:Int)):=J
   have wB:IntKind.i64.wrap (n:Int)=(n:Int):=wrap_small J
   by_cases Ao:n*s=0
   ·have wm:gI n z.cells.toList=[]:=ab
    simp[Builtin.append_,hg,run_underlying dY,j9 V,N,run_underlying Z,K7,KB,M,C3,wB,run_typeInfo aj,z9,Ao,KC,KD,rf,aq,I,newRow,zj,zg,wm];rfl
   ·simp[Builtin.append_,hg,run_underlying dY,j9 V,N,run_underlying Z,K7,KB,M,C3,wB,run_typeInfo aj,z9,Ao,KC,KD,rf,aq,I,newRow,zj,zg];rfl
  ·obtain⟨z8,aS,A⟩:=nb (w.drawn+1);rw[<-aef]at A;obtain⟨v,ac,Y,bq,D,aJ,kj⟩:=aeg z8 aS;refine⟨v,ac,Y,bq,_,_,D,aJ,kj,.inl ?_⟩;rcases yo with yo|⟨t1,d,N,Z,bp⟩
   ·simp[Builtin.append_,hg,run_underlying dY,j9 V,yo,rk,K7,KB,run_typeInfo aj,KC,KD,rf,aq,A,I,newRow,zj,zg];rfl
   ·simp[Builtin.append_,hg,run_underlying dY,j9 V,N,run_underlying Z,rk,K7,KB,run_typeInfo aj,KC,KD,rf,aq,A,I,newRow,zj,zg];rfl
end
section
variable {P:Program} {ai:ca} {B:Nat}
def xM(B:Nat)(ai:ca)(h:ae)(w:World)(U:Nat)(K:bP)(dst:aw Tmp)(a:Act)(next:Act->World->Prop):Prop :=
 ∀v ac Y bq c a9,K v ac Y->bA bq v c->cx B ai (u h) w U Y bq (u ac) a9->next (a.put dst c) a9
theorem xM.fin{h:ae}{w:World}{U:Nat}{K:bP}{a:Act}{next:Act->World->Prop}(D:xM B ai h w U K dst a next){e:Ending}(E:Fin B ai h w U K e a9):∃c,e = .returned c/\next (a.put dst c) a9:=by obtain⟨v,ac,Y,bq,c,rfl,M,A,I⟩:=E;exact⟨c,rfl,D v ac Y bq c a9 M A I⟩
theorem Rw{r:R fl}{K:bP}(h:dG (dX r) K):∃x,r = .ok x/\dG x K:=by
 cases r with
 |ok x=>exact⟨x,rfl,h⟩
 |no w=>exact h.elim
theorem f1{az:Type}{r:R az}{k:az->Prop}(h:af r k):∃v,r = .ok v/\k v:=by
 cases r with
 |ok x=>exact⟨x,rfl,h⟩
 |no w=>exact h.elim
section
variable {h:ae} {w:World} {U:Nat} {K:bP} {o:Oper} {a:Act} {n:Nat} {r:aw Nat} {next:Act->World->Prop} {Q:Exit->Act->World->Prop}
theorem iI.upon{x:fl}{s:Sem Next}(D:iI P B ai (u h) w U x s)(N:dG x K)(E:xM B ai h w U K o.dst a next):o.uponIn (mT r) n P a next Q (s.run P w):=by
 obtain⟨v,ac,Y,bq,c,a9,rfl,M,I,A|⟨A,rfl⟩⟩:=D
 ·rw[A];exact E v ac Y bq c a9 N M I
 ·rw[A];exact E v ac Y bq undef a9 N M I
theorem WT(M:d7 B ai (u h) w)(N:j2 ai U)(E:kV P f aE h U K)(A:dl ai aE cs)(D:xM B ai h w U K o.dst a next):o.uponIn (mT r) n P a next Q (.ok (.enter f ⟨cs⟩) w):=by refine⟨λh=>by simp[mT,Fence.wide]at h,?_⟩;rw[XZ];exact(E.2 B ai w _ M N A (n-1)).mono λe a9 I=>by obtain⟨c,rfl,h⟩:=D.fin I;exact h
theorem Vz(h:BX P f)(cs:Array X)(w:World):(callFunc f cs).run P w = .ok (.enter f cs) w:=by
 obtain⟨D,I,M,N⟩:=h;have E:D.body≠none:=ab
 have A:D.name ≠ "runtime.NumGoroutine" := by grind
 simp[callFunc,I,A,E]
theorem V6(a5:d7 B ai (u h) w)(bK:j2 ai U){f oc:X}(A:fc P false (hJ h U aE f) K)(N:dl ai aE cs)(aJ:bA ai f oc)(bH:xM B ai h w U K o.dst a next):
  o.uponIn (mT r) n P a next Q ((do let d <-Deferred.ofValue oc ⟨cs⟩;invoke d.target d.args:Sem Next).run P w):=by
 unfold hJ at A
 split at A
 ·rename_i fn x y
  split at A
  ·cases aJ with
   |func f a1 ce =>
    rename_i V f4 qF pS E
    have A:kV P V _ h U K:=A;have D:((do let d <-Deferred.ofValue (.func (.func V) ⟨qF⟩ ⟨E⟩) ⟨cs⟩;invoke d.target d.args:Sem Next)).run P w = .ok (.enter V ⟨qF++(cs++E)⟩) w:=by simp[Deferred.ofValue,invoke,Vz A.1]
    rw[D];exact WT a5 bK A (a1.append (N.append ce)) bH
  ·cases aJ with
   |yield bb =>
    rename_i l p
    have A:tt P l _ h U K:=A;obtain⟨I,h1,ar,aL⟩:=A B ai w cs p a5 bK (by simpa[kz]using N) bb;have Z:=qS (P:=P) h1 ab;have D:((do let d <-Deferred.ofValue (.func (.yield p.cm) #[] #[]) ⟨cs⟩;invoke d.target d.args:Sem Next)).run P w = .ok (.round p.cm I.fn ((I.params.zip ⟨cs⟩).foldl (λM (t,a)=>M.setIfInBounds t a) I.tmps) I.assign I.body) w:=by simp[Deferred.ofValue,invoke,Instr.yield,Instr.getLoop,Z,ar]
    rw[D];refine⟨λh=>by simp[mT,Fence.wide]at h,?_⟩;rw[alo];exact(aL (n-1)).mono λe a9 bE=>by obtain⟨c,rfl,h⟩:=bH.fin bE;exact h
  ·exact A.elim
 ·exact A.elim
theorem ag2{m:String}{A:FuncId × al}(h:qV P t m=some A):∃i x,P.info? t=some i/\i.methods.find? (λx=>x.name == m)=some x/\x.path=#[]/\x.func=some A:=by
 unfold qV at h
 grind
theorem ape(ag:Array TypeId)(t:TypeId)(a:Addr)(x y:String):Builtin.ssaWrapNilChk_ ag t #[.pointer (some a),strVal x,strVal y]=pure (.pointer (some a)):=rfl
theorem ai8(a5:d7 B ai (u h) w){E:al}{M:X}(A:v6 P h t E y = .ok v)(N:bA ai y M):
  ∃c,(∀I:String,(receiverAt t (.val M) E (some I)).run P w = .ok c w)/\bA ai v c:=by
 unfold v6 at A
 split at A
 ·rename_i e D
  cases E with
  |true=>cases A;exact⟨M,λI=>by simp[receiverAt,run_underlying D,Place.get],N⟩
  |false =>
   obtain⟨bL,V,A⟩:=R.kR (show R.of "type" (pj P e) (λbL=>iH bL h y) = .ok v from A);obtain⟨eg,rfl,c,bm,Z⟩:=OT a5 V A N;refine⟨c,λI=>?_,Z⟩;simp[receiverAt,run_underlying D,Place.get,ape,asAddr,bm]
 ·rename_i d bH D
  cases E with
  |true=>cases A
  |false =>
   cases A;refine⟨M,λI=>?_,N⟩;cases d <;> first|(exact(bH _ rfl).elim)|simp[receiverAt,run_underlying D,Place.get]
 ·cases A
theorem ahq(a5:d7 B ai (u h) w)(bK:j2 ai U){m:String}(A:fc P false (l2 P h U aE m v) K)(GP:dl ai aE cs)(aJ:bA ai v n5)(bH:xM B ai h w U K o.dst a next):
  o.uponIn (mT r) n P a next Q ((do let d <-(pure { target:=.fn (.method m) #[],args:=#[n5]++⟨cs⟩ }:Sem Deferred);invoke d.target d.args:Sem Next).run P w):=by
 unfold l2 at A
 split at A
 ·rename_i t y
  cases bl:qV P t m with
  |none=>rw[bl]at A;exact A.elim
  |some I =>
   rw[bl]at A;obtain⟨i,x,aj,a1,V,hfu⟩:=ag2 bl;have A:fc P false (Dk (v6 P h t I.2 y) (λy=>.call I.1 (y::aE) h U)) K:=A;cases D:v6 P h t I.2 y with
   |no s=>rw[D]at A;exact A.elim
   |ok aBf =>
    rw[D]at A;have A:kV P I.1 (aBf::aE) h U K:=A;cases aJ with
    |iface _ ce =>
     rename_i qF
     obtain⟨c,N,Z⟩:=ai8 a5 D ce;have M:((do let d <-(pure { target:=.fn (.method m) #[],args:=#[Value.iface t qF]++⟨cs⟩ }:Sem Deferred);invoke d.target d.args:Sem Next)).run P w = .ok (.enter I.1 ⟨c::cs⟩) w:=by
      have E:∀k,(method (k+1) t qF m).run P w = .ok (I.1,c) w:=λk=>by unfold method;obtain⟨f,wY⟩:=I;simp[run_typeInfo aj,a1,V,hfu,follow,N]
      have bp:P.types.size+Made.depth=(P.types.size+99)+1:=rfl;simp[invoke,callMethod,Vz A.1,bp,E]
     rw[M];exact WT a5 bK A (.cons Z GP) bH
 ·exact A.elim
theorem OU{k:X->X->R fl}{r:fl}(h:Gs l k = .ok r):∃x y,l=[x,y]/\k x y = .ok r:=by
 unfold Gs at h
 grind
theorem dl.two(h:dl ai [x,y] cs):∃dD h3,cs=[dD,h3]/\bA ai x dD/\bA ai y h3:=by
 cases h with
 |cons h t=>cases t with
  |cons A t=>cases t;exact⟨_,_,rfl,h,A⟩
theorem VJ(a5:d7 B ai (u h) w)(bK:j2 ai U){b:Builtin}{r:fl}(A:pd P b ag.toList h U aE = .ok r)(aJ:dl ai aE cs)(V:TypeId)(E:Array al):
  iI P B ai (u h) w U r (invoke (.builtin b ag V E) ⟨cs⟩):=by
 unfold pd at A
 split at A
 ·obtain⟨t,I,A⟩:=R.kR A;obtain⟨e,bE,A⟩:=R.kR A;obtain⟨s,ap,A⟩:=R.kR A;obtain⟨w0,cZ,A⟩:=R.kR A;obtain⟨aZ,A⟩:=jD A;simp only[eC]at aZ;obtain⟨⟨Dr,qu⟩,D⟩:=aZ;rw[iS]at I;have I:ag[0]? = some t:=ab
  obtain⟨i,z,aj,nf,si,rfl⟩:=zh cZ;have Z:z.cells.toList.length=s:=gG Dr;obtain⟨x,y,rfl,hh⟩:=OU A;clear A;obtain⟨dD,h3,rfl,M,N⟩:=aJ.two;have A:Fo z.cells.toList s h U x y = .ok r:=hh;unfold Fo at A
  split at A
  ·obtain⟨q,n,rfl,A⟩:=B4 A;obtain⟨bH,A⟩:=jD A;cases N;unfold q6 at D
   split at D
   ·rename_i t1 Sw
    split at D
    ·rename_i dt hu1
     rw[iS]at Sw;exact V5 a5 bK.here M (by rw[EH,Z]) aj nf Z ap (VI aj qu) si A I (EC bE) V (.inl ⟨t1,dt,q,ab,hu1,rfl,l0 bH,rfl⟩)
    ·cases D
   ·cases D
  ·cases A
 ·obtain⟨t,I,A⟩:=R.kR A;rw[iS]at I;obtain⟨x,y,rfl,A⟩:=OU A;obtain⟨dD,h3,rfl,M,N⟩:=aJ.two;exact ahp a5 U ab A M N V
 ·obtain⟨t,I,A⟩:=R.kR A;obtain⟨hty,A⟩:=jD A;rw[iS]at I;unfold afE at A
  split at A
  ·match aJ with
   | .cons  M .nil=>exact ahW a5 U ab ab A M V
  ·cases A
 ·obtain⟨t,I,A⟩:=R.kR A;obtain⟨s,ap,A⟩:=R.kR A;rw[iS]at I;obtain⟨x,y,rfl,A⟩:=OU A;obtain⟨dD,h3,rfl,M,N⟩:=aJ.two;exact ai7 a5 U ab ap A M N V
 ·cases A
theorem apf(a5:d7 B ai (u h) w)(bK:j2 ai U){s:Nat}{z:aa X}(ck:ag[0]? = some t)(bE:q2 P t=some e)(ap:jG P e=some s)(cZ:nM P e=some z)(aZ:(Nat.beq (jo z) s&&xH P e&&(!q6 P (gU ag.toList 1)&&acb P (gU ag.toList 1)))=true){r:fl}(M:dT s h U x y = .ok r)(a1:bA ai x dD)(ce:bA ai y h3)(qE:TypeId):
  iI P B ai (u h) w U r (do pure (.value (<-Builtin.append_ ag qE #[dD,h3]))):=by
 simp only[eC,MQ]at aZ;obtain⟨⟨I,E⟩,A,D⟩:=aZ;have dY:=EC bE;obtain⟨i,z,aj,nf,Z,rfl⟩:=zh cZ;have I:z.cells.toList.length=s:=gG I;have E:=VI aj E;unfold dT at M
 split at M
 ·split at M
  ·obtain⟨new,hk,V,N⟩:=Vn  a5 ce J M;obtain⟨cd,c'',rfl,_⟩:=ce.xv;refine V5 a5 bK.here a1 V aj nf I ap E Z hk ck dY qE (.inr ⟨?_,λ_=>rfl,N⟩);unfold q6 at A;rw[iS]at A D;have a6:ag.toList[1]? = ag[1]?:=by simp
   rw[a6]at A D;cases Sw:ag[1]? with
   |none=>grind
   |some t1 =>
    rw[Sw]at A D;obtain⟨d,bp⟩:=mX.1 D
    grind
  ·cases M
 ·cases M
theorem zo{o:Oper}{k:mS}(A:oK P o.op=some k):∀c,o.op≠.defer c:=λc h=>by rw[h]at A;cases A
theorem X9{aC:Act}(a5:d7 B ai (u h) w)(bK:j2 ai U)(o:Oper)(M:Loc ai ak a.tmps o.op.operands){e:vh}(D:oK P o.op=some (.fv e))(A:oZ P false e ak h U K)(bH:xM B ai h w U K o.dst aC next):
  o.uponIn (mT r) n P aC next Q ((o.semAt r a.eval).run P w):=by
 rw[Oper.semAt_eq r a.eval o (zo D)];have ex:∀{op:Op},o.op=op->execOp a.eval o=execOp a.eval { o with op:=op }:=λh=>by rw[<-h]
 cases tx:o.op <;> rw[tx]at D M <;> rw[ex tx] <;> (try simp only[oK,jC,lZ,xA,zb,reduceCtorEq,and_false,Iz]at D)
 case store t x y =>
  obtain⟨m,bl,dD,Z,h3,ar,aV⟩:=D;cases aV;obtain⟨A7,I,A⟩:=f1 A;obtain⟨rI,g2,A⟩:=f1 A;obtain⟨ac,dj,A⟩:=f1 A;obtain⟨a9,N,kj⟩:=apc (P:=P) a5 U bl dj (M.ec (by simp[Op.operands]) Z I) (M.ec (by simp[Op.operands]) ar g2);simp only[execOp,Sem.run_bind,N,Result.andThen_ok,Sem.run_pure];exact bH jP ac U ai undef a9 A s1 kj
 case mapUpdate t m k x =>
  split at D
  ·rename_i dM D3 dY
   simp only[jC,lZ]at D;obtain⟨n4,Z,cE,ar,dD,aL,aV⟩:=D;cases aV;obtain⟨HJ,I,A⟩:=f1 A;obtain⟨aBe,g2,A⟩:=f1 A;obtain⟨A7,dj,A⟩:=f1 A;obtain⟨ac,dL,A⟩:=f1 A;obtain⟨a9,N,bl⟩:=aly a5 U dY dL (M.ec (by simp[Op.operands]) Z I) (M.ec (by simp[Op.operands]) ar g2) (M.ec (by simp[Op.operands]) aL dj);simp only[execOp,Sem.run_bind,N,Result.andThen_ok,Sem.run_pure];exact bH jP ac U ai undef a9 A s1 bl
  ·cases D
 case range t x =>
  obtain⟨ck,dD,Z,aV⟩:=D;cases aV;obtain⟨A7,I,A⟩:=f1 A;exact(ahV a5 bK.here ck (M.ec (by simp[Op.operands]) Z I) A).upon A bH
 case next it isS =>
  cases isS with
  |true=>cases D
  |false =>
   obtain⟨dD,Z,aV⟩:=lZ.1 D;cases aV;obtain⟨A7,I,A⟩:=f1 A;obtain⟨dN,ac,bq,bO,a9,ht,aJ,bl,N⟩:=apd (P:=P) a5 U (M.ec (by simp[Op.operands]) Z I) A o.type;simp only[execOp,Sem.run_bind,N,Result.andThen_ok,Sem.run_pure];exact bH dN ac U bq bO a9 ht aJ bl
 case makeMap t r=>cases r <;> cases D
 case call c =>
  obtain⟨iX,Z,D⟩:=D;have a1:∀x∈c.args.toList,x∈(Op.call c).operands:=λx a1=>by simp only[Op.operands,Call.operands];grind
  have wj:c.args.map a.eval=⟨c.args.toList.map a.eval⟩:=ab
  unfold execOp
  split at D
  ·rename_i f E
   obtain⟨oc,ar,aV⟩:=lZ.1 D;simp only[zb,mS.fv.injEq]at aV;subst aV;have Ap:f∈(Op.call c).operands:=by simp only[Op.operands,Call.operands,E];simp
   simp only[resolve,E,wj];unfold ZX at A
   split at A
   ·obtain⟨aE,I,A⟩:=f1 A;refine V6 a5 bK (f:=.func (.func _) ⟨[]⟩ ⟨[]⟩) ?_ (M.uY a1 Z I) (M.ec Ap ar rfl) bH;have A:kV P _ aE h U K:=A;show kV P _ (kz [] (kz aE [])) h U K;simpa[kz]using A
   ·obtain⟨j4,g2,A⟩:=f1 A;obtain⟨aE,I,A⟩:=f1 A;exact V6 a5 bK A (M.uY a1 Z I) (M.ec Ap ar g2) bH
  ·rename_i f m E
   obtain⟨oc,ar,aV⟩:=lZ.1 D;simp only[zb,mS.fv.injEq]at aV;subst aV;have Ap:f∈(Op.call c).operands:=by simp only[Op.operands,Call.operands,E];simp
   obtain⟨aE,I,A⟩:=f1 A;obtain⟨j4,g2,A⟩:=f1 A;simp only[resolve,E,wj];exact ahq a5 bK A (M.uY a1 Z I) (M.ec Ap ar g2) bH
  ·rename_i b E
   obtain⟨V,mK⟩:=MZ (bq:=a.eval) E o.type;simp only[mK,wj];unfold Dl at D
   split at D
   ·split at D
    ·obtain⟨t,_,D⟩:=jC.1 D
     split at D <;> cases D
    ·cases D
   ·split at D <;> cases D
   ·split at D <;> cases D
   ·split at D
    ·simp at D
    ·cases D
   ·cases z7:q6 P (gU c.argTypes.toList 1)with
    |true =>
     rw[z7]at D;cases D;obtain⟨aE,I,A⟩:=f1 A;obtain⟨x,aT,A⟩:=Rw A;exact(VJ a5 bK aT (M.uY a1 Z I) o.type V).upon A bH
    |false =>
    rw[z7]at D;simp only[my,jC,xA]at D;obtain⟨t,ck,D3,bE,s,jH,z,cZ,avg,D⟩:=D
    split at D
    ·cases D;obtain⟨A7,I,A⟩:=f1 A;obtain⟨rI,g2,A⟩:=f1 A;obtain⟨x,aT,A⟩:=Rw A;obtain⟨ii,jN,eo,gY,aP⟩:=M.z6 a1 Z I g2;rw[aP];rw[iS]at ck;exact(apf a5 bK (ag:=c.argTypes) ab bE jH cZ (by rw[z7];exact avg) aT eo gY o.type).upon A bH
    ·cases D
   ·cases D;obtain⟨aE,I,A⟩:=f1 A;obtain⟨x,aT,A⟩:=Rw A;exact(VJ a5 bK aT (M.uY a1 Z I) o.type V).upon A bH
 all_goals (split at D <;> simp[jC]at D)
end
end
def asU(Q:Exit->Act->World->Prop):Exit->Act->World->Prop
 | .goto _,_,_=>False
 |e,a,w=>Q e a w
theorem ahY{n:Nat}{P:Program}{Q:Exit->Act->World->Prop}{a:Act}{w:World}{c:Code}(h:c.wpIn dK n P (asU Q) a w):(Code.scope c).wpIn dK n P Q a w:=by
 intro b k cs K6 N Z;have E:step P (lone (b.atR a (.code (.scope c)::k)) cs w) = .next (lone (b.atR a (.code c::.inScope c::k)) cs w):=step_lone_go (by simp[stepG,stepG.exec,Frame.atR]);have mU:∀a w,step P (lone (b.atR a (.inScope c::k)) cs w) = .next (lone (b.atR a k) cs w):=λa w=>step_lone_go (by simp[stepG,stepG.exec,Frame.atR]);have D:(lone (b.atR a (.code (.scope c)::k)) cs w).fenced P dK:=fenced_calm N Z rfl;obtain⟨e,M,nS,I,A⟩:=h b (.inScope c::k) cs K6 N Z;cases e with
 |normal=>exact⟨.normal,M,nS,I,.head D E (StepsIn.trans A (.one (fenced_calm N Z rfl) ab))⟩
 |exit id =>
  have a1:exitTo id (.inScope c::k)=exitTo id k:=by simp[exitTo]
  exact⟨.exit id,M,nS,I,λdm hk=>.head D E (A.1 dm ab),
   λV hk=>let ⟨axq,h1,ar⟩:=A.2 V ab;⟨axq,h1,.head D E ar⟩⟩
 |goto l=>exact I.elim
 |ret=>exact⟨_,M,nS,I,.of_steps (.one D E) A⟩
 |panic yO=>exact⟨_,M,nS,I,.of_steps (.one D E) A⟩
 |outgrown=>exact⟨_,M,nS,I,.of_steps (.one D E) A⟩
theorem ahZ{n:Nat}{P:Program}{Q:Exit->Act->World->Prop}{c:Code}(eB:Nat->Act->World->Prop)(round:∀m a w,eB m a w->c.wpIn dK n P (Exit.then (λI a9=>∃bC,bC<m/\eB bC I a9) Q) a w){a:Act}{w:World}(axr:eB m a w):(Code.loop c).wpIn dK n P Q a w:=by
 intro b k cs K6 aT a5;have key:∀j a w,eB j a w ->
   ∃e I a9,Q e I a9/\ArrivesIn (Machine.fenced P dK) P (lone (b.atR a (.code c::.inLoop c::k)) cs w) b k cs e I a9:=by
  intro j
  induction j using Nat.strongRecOn with
  |_ j eO =>
   intro a w rJ;obtain⟨e,M,nS,D,A⟩:=round j a w rJ b (.inLoop c::k) cs K6 aT a5;cases e with
   |normal =>
    obtain⟨bC,V,Z⟩:=D;obtain⟨axs,axt,axu,N,E⟩:=eO bC V M nS Z;exact⟨axs,axt,axu,N,.of_steps (StepsIn.trans A (.one (fenced_calm aT a5 rfl) stepR_inLoop)) E⟩
   |exit id=>exact⟨_,M,nS,D,.pass  rfl ab A⟩
   |goto l=>exact⟨_,M,nS,D,.pass  rfl ab A⟩
   |ret=>exact⟨_,M,nS,D,.pass  rfl ab A⟩
   |panic yO=>exact⟨_,M,nS,D,.pass  rfl ab A⟩
   |outgrown=>exact⟨_,M,nS,D,.pass  rfl ab A⟩
 obtain⟨e,I,a9,D,A⟩:=key _ a w axr;exact⟨e,I,a9,D,.of_steps (.one (fenced_calm aT a5 rfl) stepR_loop) A⟩
section
variable {P:Program} {ai:ca} {B:Nat}
theorem Act.N3(a:Act)(dst:aw Tmp)(v:X):(a.put dst v).tmps.size=a.tmps.size:=by
 cases dst <;> simp[Act.put]
theorem Act.VK(a:Act)(dst:aw Tmp)(v:X):(a.put dst v).defers=a.defers:=by
 cases dst <;> rfl
theorem ER(a:Nat)(o:aw X)(ak:cc)(n:Nat):hc ((a,o)::ak) n=if a=n then some o else hc ak n:=by
 show(bif Nat.beq a n then some o else hc ak n)=_
 by_cases e:a=n
 ·subst e;simp
 ·have:Nat.beq a n=false:=by
   cases A:Nat.beq a n with
   |false=>rfl
   |true=>exact absurd (gG A) e
  simp[this,e]
theorem jf.put{ak:cc}{a:Act}(h:jf ai ak a.tmps){dst:aw Tmp}{v:aw X}{c:X}(N:bA ai (ra v) c)(M:∀d,dst=some d->d<a.tmps.size):jf ai (eu ak dst v) (a.put dst c).tmps:=by
 cases dst with
 |none=>exact h
 |some t =>
  intro d A D;have E:=M t rfl;show bA ai (ra A) ((a.tmps.setIfInBounds t c).getD d undef);have D:hc ((t,v)::ak) d=some A:=D;rw[ER]at D
  by_cases e:t=d
  ·subst e;simp at D;subst D;simp[E];exact N
  ·rw[if_neg e]at D;have I:(a.tmps.setIfInBounds t c).getD d undef=a.tmps.getD d undef:=by simp[p1,y2,e]
   rw[I];exact h d A D
def tj(ak oO:cc):Prop:=∀d,hc oO d=hc ak d
theorem jf.same{A:cc}{t:Array X}(h:jf ai ak t)(s:tj ak A):jf ai A t:=λd v e=>h d v (by rw[<-s d];exact e)
theorem tj.lit(h:hc ak d=some (some v)):tj ak ((d,some v)::ak):=λk=>by
 rw[ER]
 by_cases e:d=k
 ·subst e;rw[if_pos rfl,h]
 ·rw[if_neg e]
theorem tb{a b:Prop}(h:br v a b):(v = .bool true/\a)\/(v = .bool false/\b):=by
 unfold br at h
 split at h
 ·split at h
  ·exact .inl ⟨rfl,h⟩
  ·exact .inr ⟨rfl,h⟩
 ·exact h.elim
noncomputable def uE (g:aw (Nat × al)) (ak:cc):al:=match g with
 |none=>true
 |some (d,w)=>match hc ak d with
  |some (some (.bool b))=>b == w
  |_=>false
def K8(g:aw (Nat × al))(ak:cc):Prop:=∀d w,g=some (d,w)->hc ak d≠none
theorem aeh{I D:cc->Prop}(h:kq g ak I D):K8 g ak/\∃M,tj ak M/\((uE g ak=true/\I M)\/(uE g ak=false/\D M)):=by
 cases g with
 |none=>exact⟨λd w e=>(by cases e),ak,λ_=>rfl,.inl ⟨rfl,h⟩⟩
 |some g =>
  obtain⟨d,A⟩:=g;have h:(match hc ak d with
   |some (some v)=>br v ((match A with|true=>I|false=>D) ((d,some (.bool true))::ak)) ((match A with|true=>D|false=>I) ((d,some (.bool false))::ak))
   |some none=>D ak
   |none=>False):=h
  unfold uE;cases E:hc ak d with
  |none=>rw[E]at h;exact h.elim
  |some v =>
   refine⟨λN w e=>by cases e;simp[E],?_⟩;rw[E]at h;cases v with
   |none=>exact⟨ak,λ_=>rfl,.inr ⟨by simp[E],h⟩⟩
   |some v =>
    rcases tb h with⟨rfl,h⟩|⟨rfl,h⟩
    ·refine⟨_,tj.lit E,?_⟩;cases A with
     |true=>exact .inl ⟨by simp[E],h⟩
     |false=>exact .inr ⟨by simp[E],h⟩
    ·refine⟨_,tj.lit E,?_⟩;cases A with
     |true=>exact .inr ⟨by simp[E],h⟩
     |false=>exact .inl ⟨by simp[E],h⟩
theorem WU{a4:Array Oper}{tmps:Array X}{o:Oper}(E:yM a4.toList o.guard=some g)(hk:K8 g ak)(eF:∀d w v,g=some (d,w)->hc ak d=some v->bA ai (ra v) (tmps.getD d undef)):
  Region.wanted o (yielded a4 tmps)=uE g ak:=by
 unfold yM at E
 split at E
 ·rename_i M
  cases E;unfold Region.wanted;rw[M];rfl
 ·rename_i j A M
  simp only[jC,lZ]at E;obtain⟨aBg,V,d,bp,e⟩:=E;cases e;rw[iS]at V;have bV:Region.wanted o (yielded a4 tmps)=(yielded a4 tmps j == some A):=by unfold Region.wanted;rw[M]
  have Z:yielded a4 tmps j=(match tmps.getD d undef with | .bool b=>some b|_=>none):=by
   unfold yielded;have N:a4[j]? = some aBg:=by simpa using V
   simp only[N,Option.bind_some,bp];cases a1:tmps[d]? with
   |none =>
    have:tmps.getD d undef=undef:=ab
    rw[this];rfl
   |some x =>
    have:tmps.getD d undef=x:=by simp[p1,a1]
    rw[this];cases x <;> rfl
  rw[bV,Z];unfold uE;cases I:hc ak d with
  |none=>exact absurd I (hk d A rfl)
  |some v =>
   have D:=eF d A v rfl I;cases v with
   |none =>
    generalize tmps.getD d undef=c at D;have D:bA ai jP c:=D;cases D with|tuple h=>cases h;simp only[I];rfl
   |some v =>
    simp only[I];generalize tmps.getD d undef=c at D;have D:bA ai v c:=D;cases D <;> first|rfl|(rename_i b;cases b <;> cases A <;> rfl)
def pn(L B:Nat)(ai:ca)(H:fk)(w:World):aa Deferred->Prop
 | []=>True
 |d::bM=>(∃r,L<=r/\d.target = .collected r/\w.heap[r]? = some (.deferred (some []))/\¬wh B ai H r/\∀HM∈bM,HM.target≠.collected r)/\pn L B ai H w bM
theorem pn.hP{L:Nat}{H hj:fk}{w a9:World}{ao aj:Nat}{bq:ca}(s:cx B ai H w ao aj bq hj a9):∀{D:aa Deferred},pn L B ai H w D->pn L B bq hj a9 D
 | [],_=>trivial
 |d::D,⟨⟨r,I,Z,ar,E,N⟩,M⟩=>by
  have A:r<w.heap.size:=ab
  exact⟨⟨r,I,Z,by rw[s.frame r A E];omega,λV=>(s.own r V).elim E J,N⟩,pn.hP s M⟩
inductive aAs where
 |normal
 |exit (id:Nat)
 |ret
def axv:aAs->Exit
 | .normal=>.normal
 | .exit i=>.exit i
 | .ret=>.ret
structure od (L B:Nat) (ai:ca) (ak:cc) (h:ae) (U:Nat) (a:Act) (w:World):Prop where
 rel:d7 B ai (u h) w
 e9:j2 ai U
 iC:jf ai ak a.tmps
 marks:pn L B ai (u h) w a.defers
 low:L<=w.heap.size
abbrev K9:=aAs->cc->ae->Nat->Prop
def uz(L B:Nat)(ai:ca)(h:ae)(w:World)(U sF:Nat)(K:K9)(Q:Exit->Act->World->Prop):Prop :=
 ∀x oO ac Y bq eg a9,K x oO ac Y->cx B ai (u h) w U Y bq (u ac) a9->od L B bq oO ac Y eg a9->eg.tmps.size=sF->Q (axv x) eg a9
theorem od.put{L:Nat}{ak:cc}{h ac:ae}{U Y:Nat}{a:Act}{w a9:World}{bq:ca}(s:od L B ai ak h U a w)(A:cx B ai (u h) w U Y bq (u ac) a9){dst:aw Tmp}{v:aw X}{c:X}(E:bA bq (ra v) c)(D:∀d,dst=some d->d<a.tmps.size):
  od L B bq (eu ak dst v) ac Y (a.put dst c) a9 :=
 ⟨A.rel,s.e9.after A,jf.put (s.iC.mono (s.e9.sub A)) E D,by rw[Act.VK];exact s.marks.hP A,hy s.low A.size⟩
theorem uz.after{h:ae}{U:Nat}{w:World}{K:K9}{Q:Exit->Act->World->Prop}(bk:uz L B ai h w U sF K Q)(bl:cx B ai (u h) w U Y bq (u ac) a9):uz L B bq ac a9 Y sF K Q :=
 λx A Z D M E N hk I ap V=>bk x A Z D M E N hk (bl.trans I) ap V
theorem uz.mono{h:ae}{U:Nat}{w:World}{K kp:K9}{Q:Exit->Act->World->Prop}(A:uz L B ai h w U sF K Q)(D:∀x ak h U,kp x ak h U->K x ak h U):uz L B ai h w U sF kp Q :=
 λx ak h U ai a w E=>A x ak h U ai a w (D _ _ _ _ E)
theorem asV{s:al}{d:aw Nat}{e:HI}{h:ae}{U:Nat}{k:cc->ae->Nat->Prop}(A:nq P s d (.fu e) ak h U k):∃v,pv P ak e = .ok v/\k (eu ak d (some v)) h U:=by
 have g:af (pv P ak e) (λv=>k (eu ak d (some v)) h U):=by
  cases e <;> first|exact A|skip
  obtain⟨c,I,A⟩:=f1 A;obtain⟨a,D,A⟩:=f1 A;obtain⟨b,E,A⟩:=f1 A;simp only[pv,I,D,E,R.bind];rcases tb A with⟨rfl,A⟩|⟨rfl,A⟩ <;> exact A
 exact f1 g
theorem apg{n:Nat}{r:aw Nat}{Q:Exit->Act->World->Prop}{h:ae}{U:Nat}{a:Act}{w:World}(D:od L B ai ak h U a w){o:Oper}{k:mS}(I:oK P o.op=some k){K:cc->ae->Nat->Prop}(E:nq P false o.dst k ak h U K){next:Act->World->Prop}(N:xM B ai h w U (λv h U=>K (eu ak o.dst (some v)) h U) o.dst a next):o.uponIn (mT r) n P a next Q ((o.semAt r a.eval).run P w):=by
 have V:=D.iC.loc o.op.operands;cases k with
 |fv e =>
  have E:oZ P false e ak h U λv h U=>K (eu ak o.dst (some v)) h U:=E;exact X9 D.rel D.e9 o V I E N
 |fu e =>
  obtain⟨v,M,E⟩:=asV E;rw[Oper.semAt_eq r a.eval o (zo I)];obtain⟨c,aJ,A⟩:=Z1 o V I M;rw[A w];exact N v h U ai c w E aJ (cx.refl U D.rel)
 |red e =>
  obtain⟨v,M,E⟩:=f1 E;rw[Oper.semAt_eq r a.eval o (zo I)];obtain⟨c,aJ,A⟩:=Z4 D.rel o V I M;rw[A];exact N v h U ai c w E aJ (cx.refl U D.rel)
 |ic e =>
  obtain⟨cU,M,E⟩:=f1 E;rw[Oper.semAt_eq r a.eval o (zo I)];obtain⟨dq,p,a9,GS,Z,bl,A⟩:=Z2 o V I M w;obtain⟨h1,ar⟩:=K2.step D.rel D.e9.here GS Z bl;rw[A];rw[<-ul]at h1;exact N _ _ _ _ _ a9 E ar h1
theorem Z5{n:Nat}{o:Oper}{A:aa Oper}(h:vV n A=true)(E:o∈A):∀d,o.dst=some d->d<n:=λd D=>by have:=BF.1 h o E;rw[D]at this;simpa[vB]using this
theorem acf{L:Nat}{a4:Array Oper}{n:Nat}{r:aw Nat}{Q:Exit->Act->World->Prop}{K:cc->ae->Nat->Prop}:
  ∀(I:aa Oper) (is:aa lM) (k:Nat),a4.toList.drop k=I->Kv P a4.toList I=some is->∀{ai:ca} {ak:cc} {h:ae} {U:Nat} {a:Act} {w:World},pQ P false is ak h U K->od L B ai ak h U a w ->
   vV a.tmps.size I=true->uz L B ai h w U a.tmps.size (λx ak h U=>x = .normal/\K ak h U) Q->wpOpsIn (mT r) n P a4 Q (List.range' k I.length) a w
 | [],is,k,hk,aZ,ai,ak,h,U,a,w,N,A,_,bk=>by cases aZ;exact bk .normal ak h U ai a w ⟨rfl,N⟩ (cx.refl U A.rel) A rfl
 |o::I,is,k,hk,aZ,ai,ak,h,U,a,w,N,A,E,bk=>by
  have hko:a4[k]? = some o:=by
   have:(a4.toList.drop k)[0]? = some o:=ab
   grind
  have sk:a4.toList.drop (k+1)=I:=by have:=congrArg (List.drop 1) hk;simpa[xm]using this
  simp only[Kv,afI,jC,lZ]at aZ;obtain⟨_,⟨g,a6,hD,tz,rfl⟩,M,GU,rfl⟩:=aZ;have bp:=Z5 E (o:=o) (by simp);have V:vV a.tmps.size I=true:=by simp only[vV,List.all_cons,eC]at E ⊢;exact E.2
  have step:∀{bq:ca} {Z:cc} {v:aw X} {c:X} {ac:ae} {Y:Nat} {a9:World},tj ak Z->pQ P false M (eu Z o.dst v) ac Y K->bA bq (ra v) c->cx B ai (u h) w U Y bq (u ac) a9 ->
    wpOpsIn (mT r) n P a4 Q (List.range' (k+1) I.length) (a.put o.dst c) a9:=λD nd aJ bl=>by
   refine acf I M (k+1) sk GU nd (od.put ⟨A.rel,A.e9,A.iC.same D,A.marks,A.low⟩ bl aJ bp) ?_ ?_
   ·rw[Act.N3];exact V
   ·rw[Act.N3];exact bk.after bl
  rw[show(o::I).length=I.length+1 from rfl,List.range'_succ];simp only[wpOpsIn,hko];have N:kq g ak (λak=>nq P false o.dst hD ak h U λak h U=>pQ P false M ak h U K) (λak=>pQ P false M (eu ak o.dst none) h U K):=N;obtain⟨GV,Z,D,oB⟩:=aeh N;have Sx:=WU (ai:=ai) (tmps:=a.tmps) a6 GV (λd w v _ aJ=>A.iC d v aJ);rcases oB with⟨bV,N⟩|⟨bV,N⟩ <;> rw[bV]at Sx
  ·simp only[Sx,if_true];refine⟨λ_ _=>trivial,?_⟩;exact apg ⟨A.rel,A.e9,A.iC.same D,A.marks,A.low⟩ tz N λv ac Y bq c a9 hk aJ bl=>step (v:=some v) D hk aJ bl
  ·simp only[Sx,nH,fa];exact⟨λ_ _=>trivial,step D N s1 (cx.refl U A.rel)⟩
end
end Go.Ax
