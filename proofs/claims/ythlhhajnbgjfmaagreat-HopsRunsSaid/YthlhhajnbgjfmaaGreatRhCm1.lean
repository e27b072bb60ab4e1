/- Code over an abstract heap aS0 formulas, and their soundness: no condition. -/
import GoSem.Dispatch
import GoSem.ClaimKeys
import GoSem.ClaimWide
import Derived.RangeFuncLeaves
import Derived.OrdersIn
import Derived.Laws.Cells
import Derived.Laws.CopyRow
import Derived.DeepKeys3
import Derived.Laws.Pointers
set_option linter.all false
set_option maxHeartbeats 1000000
namespace Go.Ax
open Go
abbrev X:=Value
instance cVq:Coe Int X:=⟨λx=>.int .i64 x⟩
instance cWq:Coe Nat X:=⟨λx=>.int .i64 (x:Int)⟩
abbrev bf(p:Nat):Value:=.pointer (some ⟨p,0,none⟩)
abbrev aa:=@List
abbrev aw:=@Option
abbrev al:=Bool
def zH:=@Array.foldl_toList
def qj:=@Array.getD_eq_getD_getElem?
def I5:=@Array.getElem?_eq_some_iff
def I7:=@Array.getElem?_modify
def zD:=@Array.getElem?_setIfInBounds
def EW:=@Array.length_toList
def xQ:=@Array.mk.injEq
def eB:=@Bool.and_eq_true
def zK:=@Bool.eq_iff_iff
def nP:=@Bool.false_eq_true
def NK:=@Bool.not_eq_true'
def uz:=@Classical.byContradiction
def Jl:=@Classical.em
def xL:=@Int.eq_ofNat_of_zero_le
def Jm:=@Int.lt_or_le
def vZ:=@Int.natCast_add
def Je:=@Int.toNat_natCast
def I9:=@List.Pairwise.filter
def NL:=@List.Pairwise.imp
def ND:=@List.Pairwise.of_cons
def Ce:=@List.Perm.refl
def Cd:=@List.all_eq_true
def xP:=@List.any_eq_true
def kA:=@List.append_assoc
def h6:=@List.append_nil
def v0:=@List.cons.injEq
def NO:=@List.cons_append
def NP:=@List.drop_append
def I2:=@List.drop_append_of_le_length
def xR:=@List.drop_drop
def B5:=@List.drop_eq_getElem_cons
def NB:=@List.drop_eq_nil_of_le
def I4:=@List.drop_length_add_append
def NC:=@List.drop_of_length_le
def NH:=@List.drop_succ_cons
def E9:=@List.drop_take
def pk:=@List.drop_zero
def B4:=@List.eq_nil_of_length_eq_zero
def pj:=@List.ext_getElem?
def r9:=@List.filter_append
def Jf:=@List.filter_congr
def q4:=@List.filter_cons
def zE:=@List.filter_eq_nil_iff
def zG:=@List.filter_eq_self
def Jb:=@List.flatMap_append
def E4:=@List.foldl_cons
def B8:=@List.getElem?_append
def xJ:=@List.getElem?_append_left
def EQ:=@List.getElem?_append_right
def xN:=@List.getElem?_drop
def oB:=@List.getElem?_eq_getElem
def xM:=@List.getElem?_eq_none
def hn:=@List.getElem?_eq_some_iff
def sa:=@List.getElem?_map
def EV:=@List.getElem?_of_mem
def B9:=@List.getElem?_range
def ES:=@List.getElem?_replicate
def vY:=@List.getElem?_set
def xO:=@List.getElem?_take
def EX:=@List.getElem_of_mem
def I6:=@List.getLast?_eq_some_iff
def jd:=@List.length_append
def mb:=@List.length_cons
def E1:=@List.length_drop
def vX:=@List.length_filter_le
def gn:=@List.length_map
def E5:=@List.length_nil
def EY:=@List.length_pos_iff
def Cb:=@List.length_range
def ET:=@List.length_replicate
def E6:=@List.length_set
def NE:=@List.length_singleton
def ql:=@List.length_take
def Cf:=@List.mapM_cons
def iK:=@List.map_append
def oC:=@List.map_congr_left
def uB:=@List.map_cons
def Ff:=@List.map_id
def pn:=@List.map_map
def zL:=@List.map_nil
def hp:=@List.mem_append
def Ja:=@List.mem_append_left
def gQ:=@List.mem_cons
def mG:=@List.mem_cons_of_mem
def nQ:=@List.mem_cons_self
def nR:=@List.mem_filter
def EU:=@List.mem_iff_getElem?
def fz:=@List.mem_map
def kz:=@List.mem_of_getElem?
def Fa:=@List.mem_range
def iU:=@List.mem_singleton
def te:=@List.nil_append
def NM:=@List.nodup_append
def ER:=@List.nodup_iff_pairwise_ne
def Jg:=@List.nodup_range
def td:=@List.not_mem_nil
def r7:=@List.pairwise_append
def uA:=@List.pairwise_cons
def xK:=@List.pairwise_iff_getElem
def tc:=@List.pairwise_map
def q6:=@List.range_succ
def r6:=@List.rel_of_pairwise_cons
def EZ:=@List.replicate_succ
def NG:=@List.replicate_succ'
def I8:=@List.set_append_right
def Wb:=@List.set_eq_take_append_cons_drop
def ho:=@List.take_add_one
def I3:=@List.take_append_of_le_length
def hC:=@List.take_length
def q3:=@List.take_of_length_le
def E0:=@List.take_succ_cons
def tf:=@List.take_zero
def v5:=@Nat.add_assoc
def zM:=@Nat.add_mul
def NI:=@Nat.add_sub_cancel
def Nz:=@Nat.add_sub_cancel_left
def nS:=@Nat.add_zero
def Jc:=@Nat.and_one_is_mod
def uC:=@Nat.beq_refl
def tg:=@Nat.ble_eq
def B7:=@Nat.ble_eq_true_of_le
def v6:=@Nat.blt_eq
def NQ:=@Nat.div_eq_of_lt
def NF:=@Nat.div_lt_iff_lt_mul
def gm:=@Nat.eq_of_beq_eq_true
def zF:=@Nat.eq_of_testBit_eq
def zI:=@Nat.eq_zero_or_pos
def NR:=@Nat.le_add_right
def B6:=@Nat.le_mul_of_pos_right
def ma:=@Nat.le_of_ble_eq_true
def cD:=@Nat.le_refl
def q7:=@Nat.le_succ
def h7:=@Nat.le_trans
def Jd:=@Nat.lt_of_lt_of_le
def Nx:=@Nat.lt_of_mul_lt_mul_right
def E2:=@Nat.lt_of_not_le
def h8:=@Nat.lt_or_ge
def E3:=@Nat.lt_succ_self
def zJ:=@Nat.lt_trichotomy
def E7:=@Nat.min_eq_left
def Jh:=@Nat.mod_eq_of_lt
def zN:=@Nat.mod_lt
def xS:=@Nat.mul_comm
def NA:=@Nat.mul_div_cancel_left
def xT:=@Nat.mul_eq
def sb:=@Nat.mul_le_mul
def qk:=@Nat.mul_le_mul_right
def Fg:=@Nat.mul_one
def uD:=@Nat.one_mul
def Fc:=@Nat.sub_self
def Fe:=@Nat.succ_mul
def Jk:=@Nat.testBit_and
def Fb:=@Nat.testBit_or
def Ji:=@Nat.testBit_succ
def iV:=@Nat.zero_add
def mc:=@Nat.zero_mul
def kB:=@Ne.symm
def jE:=@Option.bind_eq_some_iff
def Jj:=@Option.getD_some
def lI:=@Option.isSome_iff_exists
def Ca:=@Option.isSome_none
def NJ:=@Option.isSome_some
def l9:=@Option.map_eq_some_iff
def E8:=@Option.map_some
def Ny:=@Option.ne_none_iff_exists'
def Cc:=@Option.some.injEq
def uG:=@and_self
def ik:=@and_true
def r8:=@beq_eq_false_iff_ne
def uE:=@beq_iff_eq
def q5:=@beq_self_eq_true
def mH:=@cond_false
def qm:=@cond_true
def hD:=@decide_eq_false
def gP:=@decide_eq_true
def NN:=@decide_eq_true_eq
def Jn:=@exists_false
def ff:=@if_false
def ke:=@not_false_eq_true
def kf:=@or_false
theorem J{p:Prop}(h:p:=by omega):p:=h
theorem ab{p:Prop}(h:p:=by grind):p:=h
variable {t:TypeId} {v x dG:X} {e:TypeId} {cs:aa X} {c:X} {l:aa X} {ag:Array TypeId} {ba:World} {y:X} {b:Nat} {k ic:X} {args:aa X} {bO:aw Nat} {bY aF:aa X} {c9:aa MapEntry} {i:Nat} {es:aa MapEntry} {ao aj:Nat} {e6:Type} {dst:aw Tmp} {g:aw (Nat × al)} {len:Nat} {z:X} {L:Nat} {f:FuncId} {a7:Array Operand} {d2 dm LN iO:aw X} {xs:aa Operand} {q:IntKind} {dW:TypeId} {new:aa X} {bG aS:aw Nat} {cH oi:X} {jH m off cap:Nat} {di:IntKind} {d:Nat} {nZ:World} {oj:X} {ro ok:al} {er:Fence} {Y sY:Nat}
section
variable {az:Type}
def g3(l:aa az)(n:Nat):aw az:=l[n]?
def nc(l:aa az)(n:Nat):aa az:=l.drop n
def kD(l k:aa az):aa az:=l++k
def jr(l:aa az):Nat:=l.length
def nh(aF l:aa az)(n:Nat):aw (aa az):=if n+aF.length<=l.length then some (l.take n++(aF++l.drop (n+aF.length)))else none
def ni(n:Nat)(l:aa az):aw (aa az):=if n<=l.length then some (l.take n)else none
theorem iX(l:aa az)(n:Nat):g3 l n=l[n]?:=rfl
theorem sd(l:aa az)(n:Nat):nc l n=l.drop n:=rfl
theorem kh(l k:aa az):kD l k=l++k:=rfl
theorem oD(l:aa az):jr l=l.length:=rfl
theorem tp(aF l:aa az)(n:Nat):nh aF l n=if n+aF.length<=l.length then some (l.take n++(aF++l.drop (n+aF.length)))else none:=rfl
theorem ri(n:Nat)(l:aa az):ni n l=if n<=l.length then some (l.take n)else none:=rfl
end
inductive R (az:Type) where
 |ok (x:az)
 |no (why:String)
def R.bind{az e6:Type}(r:R az)(f:az->R e6):R e6:=R.casesOn r (λx=>f x) (λw=>.no w)
def R.of{az e6:Type}(w:String)(r:aw az)(f:az->R e6):R e6:=Option.casesOn r (.no w) (λx=>f x)
def af{az:Type}(r:R az)(k:az->Prop):Prop:=match r with
 | .ok v=>k v
 | .no _=>False
def jT:X:=.tuple #[]
abbrev cc:=aa (Nat × aw X)
noncomputable section
def hq(ak:cc)(n:Nat):aw (aw X):=List.rec none (λp _ eY=>bif Nat.beq p.1 n then some p.2 else eY) ak
end
def ep(ak:cc)(d:aw Nat)(v:aw X):cc:=match d with
 |some d=>(d,v)::ak
 |none=>ak
def rs(v:aw X):X:=match v with|some v=>v|none=>jT
inductive fJ where
 |cells (cs:List Value) (ro:Bool)
 |map (es:List MapEntry) (aA4:Nat)
 |iter (m:Option Nat) (yl:Nat) (seen:List Nat) (aA0:Nat)
 |loop (st:Nat) (G7:Option Code) (lT:cc) (params:List Nat) (assign body:Code)
abbrev fp:=Nat->aw fJ
abbrev ae:=fp
def u(h:ae)(b:Nat):aw fJ:=h b
def F(h:ae)(b:Nat)(o:fJ):ae:=λk=>if k=b then some o else h k
def yy(h:ae)(b:Nat):ae:=λk=>if k=b then none else h k
variable {ak:cc} {H gU:fp} {ac:ae} {a0:fJ} {Le:fp}
theorem wa(h:ae)(b:Nat)(o:fJ)(k:Nat):u (F h b o) k=if k=b then some o else u h k:=rfl
theorem Oq(h:ae)(b:Nat)(k:Nat):u (yy h b) k=if k=b then none else u h k:=rfl
def qp:X->al
 | .bool _=>true | .int _ _=>true | .string _=>true | .pointer none=>true | .slice none _ _=>true | .map none=>true | .nilFunc=>true | .nilIface=>true
 | .func (.func _) ⟨[]⟩ ⟨[]⟩=>true
 |_=>false
def hU:aa X->al
 | []=>true
 |x::xs=>qp x&&hU xs
def uW:X->al
 | .agg ⟨l⟩=>hU l
 | .tuple ⟨l⟩=>hU l
 |v=>qp v
def dj:X->aa X
 | .agg cs=>cs.toList
 |v=>[v]
def lk(a b:Int):al:=Int.casesOn a (λm=>Int.casesOn b (λn=>Nat.blt m n) (λ_=>false)) (λm=>Int.casesOn b (λ_=>true) (λn=>Nat.blt n m))
def f2(a b:Int):al:=Int.casesOn a (λm=>Int.casesOn b (λn=>Nat.beq m n) (λ_=>false)) (λm=>Int.casesOn b (λ_=>false) (λn=>Nat.beq n m))
def G8:IntKind->Nat
 | .i64=>9223372036854775808 | .u64=>0 | .i32=>2147483648 | .u32=>0 | .i16=>32768 | .u16=>0 | .i8=>128 | .u8=>0
def yz:IntKind->Nat
 | .i64=>9223372036854775808 | .u64=>18446744073709551616 | .i32=>2147483648 | .u32=>4294967296 | .i16=>32768 | .u16=>65536 | .i8=>128 | .u8=>256
def Ae(k:IntKind)(a:Nat):Int:=bif Nat.blt a (yz k)then .ofNat a else k.wrap (.ofNat a)
def atN(k:IntKind)(a:Nat):Int:=bif Nat.blt a (G8 k)then .negSucc a else k.wrap (.negSucc a)
def tw(k:IntKind)(n:Int):Int:=Int.casesOn n (λa=>Ae k a) (λa=>atN k a)
def kix:IntKind->Nat
 | .i8=>0 | .i16=>1 | .i32=>2 | .i64=>3 | .u8=>4 | .u16=>5 | .u32=>6 | .u64=>7
def mm(a b:IntKind):al:=Nat.beq (kix a) (kix b)
def und(P:Program)(t:TypeId):aw TypeDesc:=P.underlying t
def jI(P:Program)(t:TypeId):aw Nat:=Option.casesOn (P.info? t) none (λi=>some i.size)
def nU(P:Program)(t:TypeId):aw (aa X):=match P.info? t with
 |some i=>match i.zero with
  |some z=>bif uW z then some z.cells.toList else none
  |none=>none
 |none=>none
def Kc(P:Program)(t:TypeId):aw X:=match P.info? t with
 |some i=>match i.zero with
  |some z=>bif uW z then some z else none
  |none=>none
 |none=>none
def px(P:Program)(t:TypeId):aw (aw Nat):=match P.underlying t,jI P t with
 |some (.struct _),some n=>some (some n)
 |some (.array _ _),some n=>some (some n)
 |some _,some _=>some none
 |_,_=>none
def CN(P:Program)(t:TypeId):aw Nat:=match P.underlying t with
 |some (.slice e)=>jI P e
 |_=>none
def rj(P:Program)(t:TypeId):aw TypeId:=match P.underlying t with
 |some (.slice e)=>some e
 |_=>none
inductive wV where
 |slice (s:Nat)
 |array (n s:Nat)
def Lf(P:Program)(t:TypeId):aw wV:=match P.underlying t with
 |some (.slice e)=>match jI P e with|some s=>some (.slice s)|none=>none
 |some (.array n e)=>match jI P e with|some s=>some (.array n s)|none=>none
 |_=>none
def Cw(P:Program)(t:TypeId)(i:Nat):aw (Nat × TypeId):=match P.underlying t with
 |some (.struct dw)=>match g3 dw.toList i with
  |some f=>match jI P f.type with
   |some (_+1)=>some (f.offset,f.type)
   |_=>none
  |none=>none
 |_=>none
def cellsOf{e6:Type}(h:ae)(b:Nat)(k:aa X->al->R e6):R e6:=Option.casesOn (u h b) (.no "no such block")
 (λo=>fJ.casesOn o (λcs ro=>k cs ro) (λ_ _=>.no "cells expected") (λ_ _ _ _=>.no "cells expected") (λ_ _ _ _ _ _=>.no "cells expected"))
def KV(r:aw (aa X)):R X:=Option.casesOn r (.no "load - out of block") (λl=>.ok (.agg ⟨l⟩))
def C4(r:aw X):R X:=Option.casesOn r (.no "load - out of block") (λv=>.ok v)
def hV(bO:aw Nat)(off:Nat)(cs:aa X):R X:=Option.casesOn bO (C4 (g3 cs off)) (λn=>KV (ni n (nc cs off)))
def Au{e6:Type}(v:X)(k:Addr->R e6):R e6:=match v with
 | .pointer (some a)=>k a
 |_=>.no "address expected"
def gZ:X->al
 | .agg _=>false
 | .tuple _=>false
 |_=>true
def ee:aa X->al
 | []=>true
 |x::xs=>bif gZ x then ee xs else false
def qq(h:ae)(b off:Nat)(l:aa X):R ae :=
 cellsOf h b (λcs ro=>Bool.casesOn ro (bif ee l then R.of "write - out of block" (nh l cs off) (λcs=>.ok (F h b (.cells cs false)))else .no "write - cells") (.no "write - read only"))
inductive fq where
 |val (v:Value) (h:ae) (U:Nat)
 |call (f:FuncId) (args:List Value) (h:ae) (U:Nat)
 |round (l:Nat) (args:List Value) (h:ae) (U:Nat)
 |no (why:String)
inductive kM where
 |ptr (o:fJ)
 |slice (o:fJ) (len cap:Nat)
 |map
def wW(U:Nat)(b:kM):X:=kM.casesOn b (λ_=>.pointer (some ⟨U,0,none⟩)) (λ_ len cap=>.slice (some ⟨U,0,none⟩) len cap) (.map (some U))
def sA(b:kM):fJ:=kM.casesOn b (λo=>o) (λo _ _=>o) (.map [] 0)
def F4(l:aa X):R kM:=bif ee l then .ok (.ptr (.cells l false))else .no "cells"
def wl(l:aa X)(len cap:Nat):R kM:=bif ee l then .ok (.slice (.cells l false) len cap)else .no "cells"
def JO(P:Program):aa Field->aw (aa (Nat × Nat))
 | []=>some []
 |f::dw=>match jI P f.type,JO P dw with
  |some s,some r=>some ((f.offset,s)::r)
  |_,_=>none
def PK(P:Program)(t:TypeId):aw (Nat->aw (Nat × Nat)):=match P.underlying t with
 |some (.struct dw)=>match JO P dw.toList with
  |some b7=>some (g3 b7)
  |none=>none
 |some (.array _ e)=>match jI P e with
  |some s=>some (λi=>some (Nat.mul i s,s))
  |none=>none
 |_=>none
def gI:Nat->aa X->aa X
 |0,_=>[]
 |n+1,z=>kD z (gI n z)
def bx(v:X):R X:=match v with
 | .pointer (some a)=>.ok (.pointer (some a))
 | .func (.func f) a b=>.ok (.func (.func f) a b)
 | .func (.yield f) a b=>.ok (.func (.yield f) a b)
 | .iface t x=>.ok (.iface t x)
 |_=>.no "nilCheck"
def RM(x y:Lit):al:=match x,y with
 | .bool a,.bool b=>a == b
 | .int j a,.int k b=>mm j k&&f2 a b
 | .string a,.string b=>a == b
 | .nil,.nil=>true
 | .float j a,.float k b=>decide (j=k)&&Nat.beq a b
 |_,_=>false
def Af:aa Lit->aa Lit->al
 | [],[]=>true
 |x::xs,y::lU=>RM x y&&Af xs lU
 |_,_=>false
def LO(a b:aw (aa Lit)):aw al:=match a,b with
 |some a,some b=>some (Af a b)
 |_,_=>none
def sB(P:Program)(t:TypeId)(x y:X):aw al :=
 bif P.keyTypeAt 8 t&&(x.formed P t&&y.formed P t&&hU (dj x)&&hU (dj y))then LO (P.keyLits 8 t (dj x)) (P.keyLits 8 t (dj y))else none
def wm(P:Program)(t:TypeId):al:=match P.underlying t with
 |some (.int _)=>true
 |_=>false
def KE(P:Program)(t:TypeId)(k:IntKind)(a:Int)(y:X):aw al:=match y with
 | .int di b=>bif mm k di&&wm P t then some (f2 a b)else none
 |_=>none
def kV(P:Program)(t:TypeId)(x y:X):aw al:=match x with
 | .int k a=>KE P t k a y
 |x=>sB P t x y
def F5(P:Program)(t:TypeId):al:=!(P.eqGuardType P.depth t)
def agv(a:al)(y:X):aw al:=match y with
 | .bool b=>some (a == b)
 |_=>none
def OZ(P:Program)(t:TypeId):al:=match P.underlying t with|some .bool=>true|_=>false
def wn(P:Program)(t:TypeId):al:=match P.underlying t with|some (.pointer _)=>true|_=>false
def m9(P:Program)(t:TypeId):al:=match P.underlying t with|some (.slice _)=>true|_=>false
def rk(P:Program)(t:TypeId):al:=match P.underlying t with|some (.map _ _)=>true|_=>false
def G9(a:aw Addr)(y:X):aw al:=match y with
 | .pointer b=>(match a,b with|none,b=>some b.isNone|some _,none=>some false|some _,some _=>none)
 |_=>none
def Si(a:aw Addr)(y:X):aw al:=match y with
 | .slice b _ _=>(match a,b with|none,b=>some b.isNone|some _,none=>some false|some _,some _=>none)
 |_=>none
def agw(a:aw Nat)(y:X):aw al:=match y with
 | .map b=>(match a,b with|none,b=>some b.isNone|some _,none=>some false|some _,some _=>none)
 |_=>none
def oP(P:Program)(t:TypeId)(x y:X):aw al:=match x with
 | .bool a=>bif OZ P t then agv a y else none
 | .pointer a=>bif wn P t then G9 a y else none
 | .slice a _ _=>bif m9 P t then Si a y else none
 | .map a=>bif rk P t then agw a y else none
 | .agg xs=>bif F5 P t then sB P t (.agg xs) y else none
 |_=>none
def iZ(k:IntKind)(n:Int):R X:=.ok (.int k n)
def nX(b:al):R X:=.ok (.bool b)
def wt(op:BinOp)(k:IntKind)(a b:Int):R X:=bif lk b 0 then .no "shift" else match op with
 | .shl=>iZ k (tw k (a*2 ^ (min b.toNat k.bits)))
 | .shr=>iZ k (a.fdiv (2 ^ (min b.toNat k.bits)))
 |_=>.no "shift"
def GO(op:BinOp)(k:IntKind)(a b:Int):R X:=match op with
 | .and=>iZ k (k.wrap ((BitVec.ofInt k.bits a &&& BitVec.ofInt k.bits b).toNat))
 | .or=>iZ k (k.wrap ((BitVec.ofInt k.bits a ||| BitVec.ofInt k.bits b).toNat))
 | .xor=>iZ k (k.wrap ((BitVec.ofInt k.bits a ^^^ BitVec.ofInt k.bits b).toNat))
 | .andNot=>iZ k (k.wrap ((BitVec.ofInt k.bits a &&& ~~~ (BitVec.ofInt k.bits b)).toNat))
 |_=>.no "bits"
def Dh(op:BinOp)(k:IntKind)(a b:Int):R X:=bif f2 b 0 then .no "div" else match op with
 | .quo=>iZ k (tw k (a.tdiv b))
 |_=>iZ k (a.tmod b)
def DH(op:BinOp)(k:IntKind)(a b:Int):R X:=match op with
 | .add=>iZ k (tw k (Int.add a b))
 | .sub=>iZ k (tw k (Int.sub a b))
 | .mul=>iZ k (tw k (Int.mul a b))
 | .quo=>Dh .quo k a b
 | .rem=>Dh .rem k a b
 | .lss=>nX (lk a b)
 | .leq=>nX (!lk b a)
 | .gtr=>nX (lk b a)
 | .geq=>nX (!lk a b)
 | .eql=>nX (f2 a b)
 | .neq=>nX (!f2 a b)
 |op=>GO op k a b
def x4:BinOp->al
 | .shl=>true | .shr=>true|_=>false
def AG(op:BinOp)(k:IntKind)(a:Int)(di:IntKind)(b:Int):R X :=
 bif x4 op then wt op k a b else bif mm k di then DH op k a b else .no "kinds"
def agx(P:Program)(op:BinOp)(t:TypeId)(x y:X):R X:=match op with
 | .eql=>R.of "compared" (oP P t x y) (λb=>nX b)
 | .neq=>R.of "compared" (oP P t x y) (λb=>nX (!b))
 |_=>.no "binop"
def agy(op:BinOp)(k:IntKind)(a:Int)(y:X):R X:=match y with
 | .int di b=>AG op k a di b
 |_=>.no "binop"
def bin(P:Program)(op:BinOp)(t:TypeId)(x y:X):R X:=match x with
 | .int k a=>agy op k a y
 |x=>agx P op t x y
def dv(op:UnOp)(v:X):R X:=match v with
 | .bool b=>(match op with | .not=>nX (!b)|_=>.no "unOp")
 | .int k n=>(match op with
  | .neg=>iZ k (tw k (Int.sub 0 n))
  | .xor=>GO .xor k (if k.signed then -1 else k.max) n
  |_=>.no "unOp")
 |_=>.no "unOp"
def qt(d:TypeDesc)(v:X):R X:=match v with
 | .int _ n=>(match d with | .int k=>iZ k (tw k n)|_=>.no "convert - int")
 |_=>.no "convert A"
def rt{e6:Type}(v:X)(k:Nat->R e6):R e6:=match v with
 | .int _ n=>Int.casesOn n (λn=>k n) (λ_=>.no "nat expected")
 |_=>.no "nat expected"
def F6(a:aw Addr)(n:Nat)(wJ:al):aw Addr:=Option.casesOn a none (λa=>some ⟨a.block,Nat.add a.off n,bif wJ then none else a.spot⟩)
def z6(a:aw Addr):al:=match a with
 |some ⟨_,_,some _⟩=>true
 |_=>false
def wX(a:aw Addr):al:=match a with
 |some ⟨_,_,some 0⟩=>true
 |_=>false
def LP(a:aw Addr):aw Addr:=match a with
 |some a=>some ⟨a.block,a.off,some 0⟩
 |none=>none
def kU(a:aw Addr)(wJ:al)(n c:Nat):R X :=
 bif z6 a&&!wJ then .ok (.slice (LP a) 0 0)else bif wX a then .no "slice - of nothing" else .ok (.slice (F6 a 0 wJ) n c)
def uX(s:Nat)(a:aw Addr)(wJ:al)(m eZ l:Nat):R X :=
 bif Nat.beq m l then kU a wJ (Nat.sub eZ l) (Nat.sub m l)else .ok (.slice (F6 a (Nat.mul l s) wJ) (Nat.sub eZ l) (Nat.sub m l))
def nV(s:Nat)(a:aw Addr)(cap:Nat)(wJ:al)(m eZ l:Nat):R X :=
 bif Nat.ble m cap&&(Nat.ble eZ m&&Nat.ble l eZ)then uX s a wJ m eZ l else .no "slice - bounds"
def AH(x:aw X)(d:Nat):R Nat:=match x with
 |none=>.ok d
 |some v=>rt v (λn=>.ok n)
def gS(s:Nat)(v:X)(ao aj iO:aw X):R X:=match v with
 | .slice a len cap=>bif !iO.isSome||aj.isSome then R.bind (AH iO cap) (λm=>R.bind (AH aj len) (λeZ=>R.bind (AH ao 0) (λl=>nV s a cap iO.isSome m eZ l)))else .no "slice - max without high"
 |_=>.no "slice"
def GP(c a b:X):R X:=match c with
 | .bool c=>Bool.casesOn c (.ok b) (.ok a)
 |_=>.no "pick"
def C5(a:Addr)(n:Nat):X:=.pointer (some ⟨a.block,Nat.add a.off n,none⟩)
def xX(ue:wV)(v:X)(i:Nat):R X:=match v with
 | .slice (some a) len _=>(match ue with | .slice s=>bif Nat.blt i len then .ok (C5 a (Nat.mul i s))else .no "index" |_=>.no "index")
 | .pointer (some a)=>(match ue with | .array n s=>bif Nat.blt i n then .ok (C5 a (Nat.mul i s))else .no "index" |_=>.no "index")
 |_=>.no "indexAddr"
def Av(off:Nat)(v:X):R X:=Au v (λa=>.ok (C5 a off))
def im(k:wV)(x i:X):R X:=rt i (λi=>xX k x i)
def QU(P:Program)(t:TypeId)(v:X)(i:Nat):R X:=match v with
 | .agg cs=>(match P.underlying t with
  |some (.array n e)=>bif Nat.blt i n then R.of "index" (px P e) (λbO=>R.of "index" (jI P e) (λs=>hV bO (Nat.mul i s) cs.toList))else .no "index"
  |_=>.no "index")
 |_=>.no "index"
def ayB(P:Program)(t:TypeId)(x i:X):R X:=rt i (λi=>QU P t x i)
def va(off:Nat)(bO:aw Nat)(v:X):R X:=match v with
 | .agg cs=>hV bO off cs.toList
 |_=>.no "field"
def rn(eY:aa X->R (aa X))(off sY:Nat)(l cells:aa X):R (aa X):=bif Nat.beq (jr l) sY then R.of "fill" (nh l cells off) eY else .no "fill - size"
def py:aa (Nat × Nat × X)->aa X->R (aa X)
 | [],cells=>.ok cells
 |(off,sY,x)::xs,cells=>rn (py xs) off sY (dj x) cells
def cU(z:aa X)(mI:aa (Nat × Nat × X)):R X:=R.bind (py mI z) (λl=>.ok (.agg ⟨l⟩))
def eV(len:Nat)(z:aa X)(mI:aa (Nat × Nat × X)):R kM:=R.bind (py mI z) (λl=>wl l len len)
def sr(z:aa X)(l c:X):R kM:=rt l (λl=>rt c (λc=>bif Nat.ble l c&&Nat.ble c 100000 then wl (gI c z) l c else .no "makeSlice"))
def iM(bO:aw Nat)(h:ae)(x:X):R X:=Au x (λa=>cellsOf h a.block (λcs _=>hV bO a.off cs))
def Tc(h:ae)(n:Nat)(l:aa X)(a:Addr):R ae:=bif Nat.beq (jr l) n then qq h a.block a.off l else .no "store - size"
def aU(h:ae)(n:Nat)(a x:X):R ae:=Au a (Tc h n (dj x))
def kC(P:Program)(t:TypeId)(k:X):aa MapEntry->Nat->aw (aw (Nat × MapEntry))
 | [],_=>some none
 |e::es,i=>match kV P t k e.key with
  |some true=>some (some (i,e))
  |some false=>kC P t k es (Nat.succ i)
  |none=>none
def ym(P:Program)(t:TypeId)(k:X):al:=(kV P t k k).isSome
def Ag(a b:Addr):al:=Nat.beq a.block b.block&&Nat.beq a.off b.off&&(match a.spot,b.spot with|none,none=>true|some x,some y=>Nat.beq x y|_,_=>false)
def qu(x y:X):al:=match x with
 | .bool a=>(match y with | .bool b=>a == b|_=>false)
 | .int k m=>(match y with | .int di n=>mm k di&&f2 m n|_=>false)
 | .pointer none=>(match y with | .pointer none=>true|_=>false)
 | .pointer (some a)=>(match y with | .pointer (some b)=>Ag a b|_=>false)
 | .slice none l c=>(match y with | .slice none bY bM=>Nat.beq l bY&&Nat.beq c bM | _=>false)
 | .slice (some a) l c=>(match y with | .slice (some b) bY bM=>Ag a b&&Nat.beq l bY&&Nat.beq c bM | _=>false)
 | .map none=>(match y with | .map none=>true|_=>false)
 | .map (some a)=>(match y with | .map (some b)=>Nat.beq a b|_=>false)
 | .nilFunc=>(match y with | .nilFunc=>true|_=>false)
 | .nilIface=>(match y with | .nilIface=>true|_=>false)
 | .func (.func f) ⟨[]⟩ ⟨[]⟩=>(match y with | .func (.func g) ⟨[]⟩ ⟨[]⟩=>Nat.beq f g|_=>false)
 |_=>false
def qv:aa X->aa X->al
 | [],[]=>true
 |x::xs,y::lU=>qu x y&&qv xs lU
 |_,_=>false
def oK(x y:X):al:=match x with
 | .agg ⟨xs⟩=>(match y with | .agg ⟨lU⟩=>qv xs lU|_=>false)
 | .tuple ⟨xs⟩=>(match y with | .tuple ⟨lU⟩=>qv xs lU|_=>false)
 | .func (.func f) ⟨a⟩ ⟨b⟩=>(match y with | .func (.func g) ⟨eb⟩ ⟨ce⟩=>Nat.beq f g&&qv a eb&&qv b ce | _=>false)
 |x=>qu x y
def Ha:aa MapEntry->Nat->X->X->aa MapEntry
 | [],_,_,_=>[]
 |e::es,i,k,v=>Nat.casesOn i ({ e with key:=k,val:=v }::es) (λj=>e::Ha es j k v)
def Lg:aa MapEntry->Nat->aa MapEntry
 | [],_=>[]
 |e::es,i=>Nat.casesOn i es (λj=>e::Lg es j)
def kW{e6:Type}(h:ae)(r:Nat)(k:aa MapEntry->Nat->R e6):R e6:=match u h r with
 |some (.map es c)=>k es c
 |_=>.no "map expected"
def QV{e6:Type}(h:ae)(v:X)(k:aa MapEntry->R e6):R e6:=match v with
 | .map none=>k []
 | .map (some r)=>kW h r (λes _=>k es)
 |_=>.no "map expected"
def oF(ok:al)(v:X)(b:al):X:=bif ok then .tuple #[v,.bool b]else v
def jV(P:Program)(h:ae)(dW:TypeId)(z:X)(ok:al)(m k:X):R X :=
 bif ym P dW k then QV h m (λes=>match kC P dW k es 0 with
   |some (some (_,x))=>.ok (oF ok x.val true)
   |some none=>.ok (oF ok z false)
   |none=>.no "lookup - key")else .no "lookup - key"
def mK(P:Program)(dW:TypeId)(h:ae)(m k x:X):R ae :=
 bif ym P dW k then(match m with
  | .map (some r)=>kW h r (λes c=>match kC P dW k es 0 with
   |some (some (i,e))=>bif oK e.key k then .ok (F h r (.map (Ha es i k x) c))else .no "mapUpdate - which key"
   |some none=>.ok (F h r (.map (kD es [{ key:=k,val:=x,born:=c }]) (Nat.succ c)))
   |none=>.no "mapUpdate - key")
  |_=>.no "mapUpdate")else .no "mapUpdate - key"
def aaM(h:ae)(U:Nat)(m:aw Nat)(c:Nat):fq:=.val (.pointer (some ⟨U,0,none⟩)) (F h U (.iter m c [] c)) (Nat.succ U)
def sk(h:ae)(U:Nat)(v:X):fq:=match v with
 | .map none=>aaM h U none 0
 | .map (some r)=>(match u h r with
  |some (.map _ c)=>aaM h U (some r) c
  |_=>.no "range")
 |_=>.no "range"
def leftOf(seen:aa Nat):aa MapEntry->aa MapEntry
 | []=>[]
 |e::es=>bif seen.any (Nat.beq e.born)then leftOf seen es else e::leftOf seen es
def KF(seen:aa Nat)(es:aa MapEntry)(st:Nat):al:=seen.isEmpty||es.isEmpty||es.any (λe=>Nat.blt e.born st)
def GQ:aa Nat->aw Nat
 | []=>none
 | [x]=>some x
 |_::xs=>GQ xs
def C6(b:Nat):aa MapEntry->aw MapEntry
 | []=>none
 |e::es=>bif Nat.beq e.born b then some e else C6 b es
def wu(h:ae)(v:X):R X:=Au v (λa=>bif Nat.beq a.off 0 then(match u h a.block with
 |some (.iter (some r) _ seen st)=>kW h r (λes c=>bif Nat.beq c st then(match GQ seen with
  |some b=>R.of "entry" (C6 b es) (λe=>.ok (.tuple #[e.key,e.val]))
  |none=>.no "entry")else .no "entry - clock")
 |_=>.no "entry")else .no "entry")
def lg(h:ae)(a:aw Addr)(n:Nat)(k:aa X->R fq):R fq:=Nat.casesOn n (k []) (λ_=>Option.casesOn a (.no "read - nil")
 (λa=>cellsOf h a.block (λcs _=>R.of "read - out of block" (ni n (nc cs a.off)) k)))
def dU(r:R fq):fq:=R.casesOn r (λx=>x) (λw=>.no w)
def qw(h:ae)(U s:Nat)(l:aa X)(jH:Nat):R fq:=bif Nat.beq s 0 then .no "append - no size" else .ok (.val (.slice (some ⟨U,0,some s⟩) jH jH) (F h U (.cells l false)) (Nat.succ U))
def RN(h:ae)(U:Nat)(s:Nat)(a:aw Addr)(len cap jH:Nat)(new:aa X):R fq:=match a with
 |none=>.ok (.val (.slice none jH cap) h U)
 |some a=>(match new with
  | []=>.ok (.val (.slice (some a) jH cap) h U)
  |_=>R.bind (qq h a.block (Nat.add a.off (Nat.mul len s)) new) (λh=>.ok (.val (.slice (some a) jH cap) h U)))
def rq(h:ae)(U:Nat)(s:Nat)(a:aw Addr)(len cap jH:Nat)(new:aa X):R fq:=match a with
 |none=>qw h U s new jH
 |some a=>cellsOf h a.block (λcs ro=>R.of "append - out of block" (ni (Nat.mul len s) (nc cs a.off)) (λdV=>match a.spot with
  |none=>qw h U s (kD dV new) jH
  |some lx=>bif !ro&&Nat.beq a.off 0&&Nat.beq (jr cs) (Nat.mul len s)&&Nat.beq lx s&&Nat.beq len cap&&ee new then qw (yy h a.block) U s (kD dV new) jH else .no "append - inner"))
def g0(s:Nat)(h:ae)(U:Nat)(a:aw Addr)(len cap n:Nat)(new:aa X):R fq :=
 bif Nat.ble (Nat.add len n) cap then RN h U s a len cap (Nat.add len n) new else
 bif Nat.ble (Nat.mul (Nat.add len n) s) 1000000&&Nat.ble (Nat.add len n) 1000000 then rq h U s a len cap (Nat.add len n) new else .no "append - great"
def dM(s:Nat)(h:ae)(U:Nat)(x y:X):R fq:=match x with
 | .slice a len cap=>(match y with
  | .slice b n _=>lg h b (Nat.mul n s) (λnew=>g0 s h U a len cap n new)
  |_=>.no "append")
 |_=>.no "append"
def F7(z:aa X)(s:Nat)(h:ae)(U:Nat)(x y:X):R fq:=match x with
 | .slice a len cap=>rt y (λn=>bif Nat.ble n 1000000 then g0 s h U a len cap n (gI n z)else .no "append")
 |_=>.no "append"
def rp(P:Program)(t:aw TypeId):al:=match t with
 |some t=>(match P.underlying t with|some (.int _)=>true|_=>false)
 |none=>false
def ac7(P:Program)(t:aw TypeId):al:=match t with
 |some t=>(P.underlying t).isSome
 |none=>true
def yb(P:Program)(e:TypeId):al:=Nat.ble (((P.info? e).map (·.bytes)).getD 1000001) 1000000
def AI(v:X):R X:=match v with | .slice _ n _=>iZ .i64 (.ofNat n)|_=>.no "len"
def wK(h:ae)(v:X):R X:=match v with
 | .map none=>iZ .i64 (.ofNat 0)
 | .map (some r)=>kW h r (λes _=>iZ .i64 (.ofNat (jr es)))
 |_=>.no "len"
def agz(v:X):R X:=match v with
 | .slice none _ c=>iZ .i64 (.ofNat c)
 | .slice (some ⟨_,_,none⟩) _ c=>iZ .i64 (.ofNat c)
 |_=>.no "cap"
def Hb(P:Program)(t:TypeId)(v:X):R X:=bif m9 P t then agz v else .no "cap"
def KG(P:Program)(t:TypeId)(h:ae)(U:Nat)(a:Addr)(n:Nat):R fq :=
 R.of "clear" (rj P t) (λe=>R.of "clear" (nU P e) (λz=>R.bind (qq h a.block a.off (gI n z)) (λh=>.ok (.val jT h U))))
def Gw(P:Program)(t:TypeId)(h:ae)(U:Nat)(v:X):R fq:=match v with
 | .map none=>.ok (.val jT h U)
 | .map (some r)=>kW h r (λ_ c=>.ok (.val jT (F h r (.map [] c)) U))
 | .slice none _ _=>.ok (.val jT h U)
 | .slice (some a) n _=>Nat.casesOn n (.ok (.val jT h U)) (λm=>KG P t h U a (Nat.succ m))
 |_=>.no "clear"
def PL(P:Program)(dW:TypeId)(h:ae)(U:Nat)(m k:X):R fq:=match m with
 | .map (some r)=>kW h r (λes c=>match kC P dW k es 0 with
  |some (some (i,_))=>.ok (.val jT (F h r (.map (Lg es i) c)) U)
  |some none=>.ok (.val jT h U)
  |none=>.no "delete - key")
 |_=>.no "delete"
def F8(P:Program)(t:TypeId)(h:ae)(U:Nat)(m k:X):R fq:=match P.underlying t with
 |some (.map dW _)=>bif ym P dW k then PL P dW h U m k else .no "delete - key"
 |_=>.no "delete"
def RO(s:Nat)(h:ae)(U:Nat)(x y:X):R fq:=match x with
 | .slice a len _=>(match y with
  | .slice b n _=>lg h b (Nat.mul (Nat.min n len) s) (λl=>match l with
   | []=>.ok (.val (.int .i64 (.ofNat (Nat.min n len))) h U)
   |_=>(match a with
    |some a=>R.bind (qq h a.block a.off l) (λh=>.ok (.val (.int .i64 (.ofNat (Nat.min n len))) h U))
    |none=>.no "copy"))
  |_=>.no "copy")
 |_=>.no "copy"
def min2(b:al)(x y:X):R X:=match x with
 | .int k m=>(match y with
  | .int di n=>bif mm k di then(bif b then iZ k (bif lk n m then n else m)else iZ k (bif lk m n then n else m))else .no "min"
  |_=>.no "min")
 |_=>.no "min"
def agA(l:aa X)(k:X->R fq):R fq:=match l with
 | [x]=>k x
 |_=>.no "one argument expected"
def Hc(l:aa X)(k:X->X->R fq):R fq:=match l with
 | [x,y]=>k x y
 |_=>.no "two arguments expected"
def pr(P:Program)(b:Builtin)(ag:aa TypeId)(h:ae)(U:Nat)(args:aa X):R fq:=match b with
 | .append=>R.of "append" (g3 ag 0) (λt=>R.of "append" (rj P t) (λe=>R.of "append" (jI P e) (λs=>R.of "append" (nU P e) (λz =>
  bif Nat.beq (jr z) s&&yb P e&&rp P (g3 ag 1)then Hc args (λx y=>F7 z s h U x y)else .no "append - element"))))
 | .delete=>R.of "delete" (g3 ag 0) (λt=>Hc args (λx y=>F8 P t h U x y))
 | .clear=>R.of "clear" (g3 ag 0) (λt=>bif rk P t||m9 P t then agA args (λv=>Gw P t h U v)else .no "clear")
 | .copy=>R.of "copy" (g3 ag 0) (λt=>R.of "copy" (CN P t) (λs=>Hc args (λx y=>RO s h U x y)))
 |_=>.no "builtin"
def DI{az:Type}(r:R az)(f:az->fq):fq:=R.casesOn r (λx=>f x) (λw=>.no w)
def Td{az:Type}(w:String)(r:aw az)(f:az->fq):fq:=Option.casesOn r (.no w) (λx=>f x)
def hP(h:ae)(U:Nat)(aF:aa X)(f:X):fq:=match f with
 | .func fn a b=>(match fn with
  | .func f=>.call f (kD a.toList (kD aF b.toList)) h U
  | .yield l=>.round l (kD a.toList aF) h U
  |_=>.no "call")
 |_=>.no "call"
def wB(P:Program)(h:ae)(t:TypeId)(xo:al)(y:X):R X:=match P.underlying t with
 |some (.pointer e)=>bif xo then .ok y else R.of "type" (px P e) (λbO=>iM bO h y)
 |some _=>bif xo then .no "invoke - pointer method" else .ok y
 |none=>.no "invoke - type"
def rb(P:Program)(t:TypeId)(m:String):aw (FuncId × al):=match P.info? t with
 |some i=>(match i.methods.find? (λx=>x.name == m)with
  |some x=>(match x.path with
   |⟨[]⟩=>x.func
   |_=>none)
  |none=>none)
 |none=>none
def md(P:Program)(h:ae)(U:Nat)(aF:aa X)(m:String)(v:X):fq:=match v with
 | .iface t y=>Td "invoke - method" (rb P t m) (λIC=>DI (wB P h t IC.2 y) (λy=>.call IC.1 (y::aF) h U))
 |_=>.no "invoke"
def zQ(P:Program)(t:TypeId):al:=match P.underlying t with
 |some (.interface _)=>false
 |some _=>true
 |none=>false
def F9(P:Program)(YM:TypeId)(ok:al)(v:X):R X:=match v with
 | .iface t y=>bif zQ P YM&&Nat.beq t YM then .ok (oF ok y true)else .no "typeAssert"
 |_=>.no "typeAssert"
def cp(v:X)(i:Nat):R X:=match v with
 | .tuple aF=>R.of "extract" (g3 aF.toList i) (λv=>.ok v)
 |_=>.no "extract"
inductive e7 where
 |t (n:Nat)
 |v (x:Value)
def c3(x:Operand):aw e7:=match x with
 | .tmp t=>some (.t t)
 | .const v=>bif uW v then some (.v v)else none
 | .func f=>some (.v (.func (.func f) #[] #[]))
 | .global _=>none
def yP:aa Operand->aw (aa e7)
 | []=>some []
 |x::xs=>match c3 x,yP xs with
  |some y,some lU=>some (y::lU)
  |_,_=>none
def Ht(x:aw Operand):aw (aw e7):=match x with
 |none=>some none
 |some x=>match c3 x with
  |some y=>some (some y)
  |none=>none
inductive ID where
 |hX (x:e7)
 |pick (c a b:e7)
 |bin (op:BinOp) (t:TypeId) (x y:e7)
 |un (op:UnOp) (x:e7)
 |conv(d:TypeDesc) (x:e7)
 |vk (off:Nat) (bO:Option Nat) (x:e7)
 |agB (off:Nat) (x:e7)
 |ixA (k:wV) (x i:e7)
 |idx (t:TypeId) (x i:e7)
 |m5 (s:Nat) (x:e7) (ao aj iO:Option e7)
 |ext (x:e7) (i:Nat)
 |agC (x:e7)
 |mkf (f:FuncId) (a b:List e7)
 |ifc (t:TypeId) (x:e7)
 |asr (a:TypeId) (ok:Bool) (x:e7)
 |Vo (b:Bool) (x y:e7)
 |cap (t:TypeId) (x:e7)
 |build (z:List Value) (mI:List (Nat × Nat × e7))
inductive Eu where
 |new (l:List Value)
 |box (x:e7)
 |Te (len:Nat) (base:List Value) (mI:List (Nat × Nat × e7))
 |mkm
 |mks (z:List Value) (l c:e7)
inductive Hu where
 |ld (bO:Option Nat) (x:e7)
 |lkp (dW:TypeId) (z:Value) (m k:e7) (ok:Bool)
 |lens (x:e7)
 |agD (x:e7)
 |entry (x:e7)
inductive vH where
 |st (n:Nat) (a x:e7)
 |yQ (dW:TypeId) (m k x:e7)
 |hd (x:e7)
 |fH (x:e7)
 |call (f:FuncId) (args:List e7)
 |Aw (f:e7) (args:List e7)
 |app (s:Nat) (x y:e7)
 |bi (b:Builtin) (ag:List TypeId) (args:List e7)
 |inv (r:e7) (m:String) (args:List e7)
inductive m6 where
 |fu (e:ID)
 |io (e:Eu)
 |red (e:Hu)
 |fv (e:vH)
structure lV where
 g:aw (Nat × al)
 d:aw Nat
 c:Nat
 k:m6
inductive ks where
 |skip
 |tB (l:List lV)
 |Di (l:List lV)
 |seq (a b:ks)
 |cond (c:e7) (a b:ks)
 |block (id:Nat) (c:ks)
 |loop (c:ks)
 |exit (id:Nat)
 |ret
 |scope (c:ks)
 |xp (f:e7) (b7:List Nat) (a b:Code)
 |no
structure aBV where
 body:ks
 res:aa ResultVar
def CO(ae9:Nat->aw (Nat × Nat)):aa (Nat × Operand)->aw (aa (Nat × Nat × e7))
 | []=>some []
 |x::xs=>match ae9 x.1,c3 x.2,CO ae9 xs with
  |some p,some y,some r=>some ((p.1,p.2,y)::r)
  |_,_,_=>none
def aaN(f:e7)(i1:aa e7):vH:=match f with
 | .v (.func (.func g) ⟨[]⟩ ⟨[]⟩)=>.call g i1
 |f=>.Aw f i1
def DJ(P:Program)(b:Builtin)(ag:aa TypeId)(i1:aa e7):aw m6:=match b with
 | .len=>(match i1 with
  | [x]=>(g3 ag 0).bind λt=>(match P.underlying t with
   |some (.slice _)=>some (.red (.lens x))
   |some (.map _ _)=>some (.red (.agD x))
   |_=>none)
  |_=>none)
 | .min=>(match i1 with | [x,y]=>some (.fu (.Vo true x y))|_=>none)
 | .max=>(match i1 with | [x,y]=>some (.fu (.Vo false x y))|_=>none)
 | .cap=>(match i1 with | [x]=>(g3 ag 0).map λt=>.fu (.cap t x)|_=>none)
 | .append=>bif rp P (g3 ag 1)then some (.fv (.bi .append ag i1))else(g3 ag 0).bind λt=>(rj P t).bind λe=>(jI P e).bind λs=>(nU P e).bind λz =>
    bif Nat.beq (jr z) s&&yb P e&&(!rp P (g3 ag 1)&&ac7 P (g3 ag 1))then(match i1 with | [x,y]=>some (.fv (.app s x y))|_=>none)else none
 |b=>some (.fv (.bi b ag i1))
def oS(P:Program)(o:Op):aw m6:=match o with
 | .move x=>(c3 x).map λx=>.fu (.hX x)
 | .assign x=>(c3 x).map λx=>.fu (.hX x)
 | .pick c a b=>(c3 c).bind λc=>(c3 a).bind λa=>(c3 b).map λb=>.fu (.pick c a b)
 | .build t mI=>(nU P t).bind λz=>(PK P t).bind λpl=>(CO pl mI.toList).map λb7=>.fu (.build z b7)
 | .nilCheck x=>(c3 x).map λx=>.fu (.agC x)
 | .binOp op t x y _=>(c3 x).bind λx=>(c3 y).map λy=>.fu (.bin op t x y)
 | .unOp op _ x=>(c3 x).map λx=>.fu (.un op x)
 | .convert s d x=>(und P s).bind λ_=>(und P d).bind λd=>(c3 x).map λx=>.fu (.conv d x)
 | .makeInterface t x=>bif zQ P t then(c3 x).map λx=>.fu (.ifc t x)else none
 | .makeFunc fn a b=>(match fn with
  | .func f=>(yP a.toList).bind λa=>(yP b.toList).map λb=>.fu (.mkf f a b)
  |_=>none)
 | .slice t x ao aj iO=>(CN P t).bind λs=>(c3 x).bind λx=>(Ht ao).bind λao=>(Ht aj).bind λaj=>(Ht iO).map λiO=>.fu (.m5 s x ao aj iO)
 | .fieldAddr s x f=>(Cw P s f).bind λf=>(c3 x).map λx=>.fu (.agB f.1 x)
 | .field s x f=>(Cw P s f).bind λf=>(px P f.2).bind λbO=>(c3 x).map λx=>.fu (.vk f.1 bO x)
 | .indexAddr t x ue=>(Lf P t).bind λk=>(c3 x).bind λx=>(c3 ue).map λi=>.fu (.ixA k x i)
 | .index t x ue=>(c3 x).bind λx=>(c3 ue).map λi=>.fu (.idx t x i)
 | .extract x i=>(c3 x).map λx=>.fu (.ext x i)
 | .typeAssert x _ a ok=>(c3 x).map λx=>.fu (.asr a ok x)
 | .alloc e=>(nU P e).bind λl=>bif ee l then some (.io (.new l))else none
 | .box _ x=>(c3 x).map λx=>.io (.box x)
 | .buildSlice t len mI=>(rj P t).bind λe=>(jI P e).bind λs=>(nU P e).bind λz =>
   bif Nat.beq (jr z) s&&Nat.ble (Nat.mul len s) 1000000 then(CO (λi=>some (Nat.mul i s,s)) mI.toList).map λb7=>.io (.Te len (gI len z) b7)else none
 | .makeMap _ none=>some (.io .mkm)
 | .makeSlice t l c=>(rj P t).bind λe=>(nU P e).bind λz =>
   bif Nat.beq (jr z) (((P.info? e).map (·.size)).getD 0)&&Nat.ble (((P.info? e).map (·.bytes)).getD 1000001) 1000000 then(c3 l).bind λl=>(c3 c).map λc=>.io (.mks z l c)else none
 | .load t a=>(px P t).bind λbO=>(c3 a).map λa=>.red (.ld bO a)
 | .lookup t x ue ok=>(match P.underlying t with
  |some (.map dW e)=>(Kc P e).bind λz=>(c3 x).bind λm=>(c3 ue).map λk=>.red (.lkp dW z m k ok)
  |_=>none)
 | .entry x=>(c3 x).map λx=>.red (.entry x)
 | .store t a x=>(jI P t).bind λn=>(c3 a).bind λa=>(c3 x).map λx=>.fv (.st n a x)
 | .mapUpdate t m k x=>(match P.underlying t with
  |some (.map dW _)=>(c3 m).bind λm=>(c3 k).bind λk=>(c3 x).map λx=>.fv (.yQ dW m k x)
  |_=>none)
 | .range t x=>bif rk P t then(c3 x).map λx=>.fv (.hd x)else none
 | .next it s=>bif s then none else(c3 it).map λx=>.fv (.fH x)
 | .call c=>(yP c.args.toList).bind λi1=>(match c.callee with
  | .value f=>(c3 f).map λf=>.fv (aaN f i1)
  | .invoke r m=>(c3 r).map λr=>.fv (.inv r m i1)
  | .builtin b=>DJ P b c.argTypes.toList i1)
 |_=>none
def je(k:m6):al:=match k with | .fv _=>true|_=>false
def zk(all:aa Oper)(g:aw (Nat × al)):aw (aw (Nat × al)):=match g with
 |none=>some none
 |some (j,b)=>(g3 all j).bind λo=>o.dst.map λd=>some (d,b)
def agE(P:Program)(all:aa Oper)(c:Nat)(o:Oper):aw lV:=(zk all o.guard).bind λg=>(oS P o.op).map λk=>⟨g,o.dst,c,k⟩
def Lh(P:Program)(all:aa Oper):aa Oper->aw (aa lV)
 | []=>some []
 |o::os=>(agE P all 0 o).bind λi=>(Lh P all os).map λis=>i::is
structure eR where
 i:Nat
 o:Oper
 k:m6
 vl:Nat
def kN(m k:Nat):al:=Nat.beq (Nat.land (Nat.shiftRight m k) 1) 1
def Li(acc:aa Nat):aa Edge->Nat->Nat
 | [],s=>s
 |e::es,s=>Li acc es (bif Region.binds .any e then Nat.lor (Nat.lor s (Nat.pow 2 e.on)) ((g3 acc e.on).getD 0)else s)
def KW:aa Oper->aa Nat->aa Nat
 | [],acc=>acc
 |o::os,acc=>KW os (kD acc [Li acc o.after.toList 0])
structure hY where
 i:Nat
 o:Oper
 k:m6
 e:al
 Ev:Nat
 lT:Nat
 am:Nat
def Dj(d:aw Nat):Nat:=Option.casesOn d 0 (λd=>Nat.pow 2 d)
def Dk:aa Operand->Nat
 | []=>0
 | .tmp t::xs=>Nat.lor (Nat.pow 2 t) (Dk xs)
 |_::xs=>Dk xs
def Lj(a7:List Oper)(g:Option (Nat × Bool)):Nat:=match g with
 |some (g,_)=>(match g3 a7 g with|some o=>Dj o.dst|none=>0)
 |none=>0
def Sj(a7:aa Oper)(o:Oper):Nat:=Nat.lor (Dj o.dst) (Nat.lor (Dk o.op.operands.toList) (Lj a7 o.guard))
def Lk(P:Program)(all:aa Oper):Nat->aa Oper->aa Nat->aw (aa hY)
 |j,o::os,a::i1=>(oS P o.op).bind λk=>(Lk P all (Nat.succ j) os i1).map λbz=>{ i:=j,o:=o,k:=k,e:=je k,Ev:=Dj o.dst,lT:=Sj all o,am:=a }::bz
 |_,_,_=>some []
def GR(am j1:Nat):aa hY->aa hY
 | []=>[]
 |x::xs=>bif kN am x.i&&!kN j1 x.i then x::GR am j1 xs else GR am j1 xs
def GS(j1:Nat):aa hY->aa hY
 | []=>[]
 |x::xs=>bif kN j1 x.i then GS j1 xs else x::GS j1 xs
def tt(all:aa hY):aa hY->Nat->aa hY
 | [],j1=>GS j1 all
 |x::xs,j1=>bif x.e&&!kN j1 x.i then kD (GR x.am j1 all) (x::tt all xs (Nat.lor j1 (Nat.lor x.am (Nat.pow 2 x.i))))else tt all xs j1
def Sk(a b:Nat):al:=Nat.beq (Nat.land a b) 0
def C7(x y:hY):al:=!Nat.beq x.i y.i&&!kN x.am y.i&&(!y.e||kN y.am x.i)&&(kN y.am x.i||(Sk x.Ev y.lT&&Sk y.Ev x.lT))
def Dl(x:hY):aa hY->al
 | []=>true
 |y::lU=>bif C7 x y then Dl x lU else false
def Gx:aa hY->al
 | []=>true
 |x::xs=>bif Dl x xs then Gx xs else false
def AJ:aa hY->Nat
 | []=>0
 |x::xs=>Nat.lor (Nat.pow 2 x.i) (AJ xs)
def AK(j:Nat):aa Edge->al
 | []=>true
 |e::es=>bif !Region.binds .any e||Nat.blt e.on j then AK j es else false
def Hd:Nat->aa Oper->al
 |_,[]=>true
 |j,o::os=>bif AK j o.after.toList then Hd (Nat.succ j) os else false
def He(am:Nat):aa hY->Nat
 | []=>0
 |y::lU=>bif y.e&&!kN am y.i then Nat.succ (He am lU)else He am lU
def sl:aa hY->aa hY->aa eR
 |_,[]=>[]
 |before,x::xs=>{ i:=x.i,o:=x.o,k:=x.k,vl:=He x.am before }::sl (x::before) xs
def atO(a7:aa Oper)(l:aa hY):aw (aa eR):=
 bif Nat.beq (jr l) (jr a7)&&(Nat.beq (AJ l) (Nat.pred (Nat.pow 2 (jr a7)))&&(Hd 0 a7&&Gx l))then some (sl [] l)else none
def QW(P:Program)(a7:aa Oper):aw (aa eR):=(Lk P a7 0 a7 (KW a7 [])).bind λbz=>atO a7 (tt bz bz 0)
def Gy(all:aa Oper):aa eR->aw (aa lV)
 | []=>some []
 |s::bJ=>(zk all s.o.guard).bind λg=>(Gy all bJ).map λis=>⟨g,s.o.dst,s.vl,s.k⟩::is
def Sl(P:Program)(a7:aa Oper)(Dm:al):ks:=bif Dm
 then(match(QW P a7).bind (Gy a7)with|some l=>.Di l|none=>.no)
 else(match Lh P a7 a7 with|some l=>.tB l|none=>.no)
def comp(P:Program):Code->ks
 | .skip=>.skip
 | .label _=>.skip
 | .scope c=>.scope (comp P c)
 | .region _ a7 Dm=>Sl P a7.toList Dm
 | .seq a b=>.seq (comp P a) (comp P b)
 | .cond x a b=>(match c3 x with
  |some x=>.cond x (comp P a) (comp P b)
  |none=>.no)
 | .block id c=>.block id (comp P c)
 | .loop c=>.loop (comp P c)
 | .exit id=>.exit id
 | .ret=>.ret
 | .rangeFunc f b7 a b=>(match c3 f with|some f=>.xp f b7.toList a b|none=>.no)
 |_=>.no
def yc(P:Program)(f:FuncId):aw aBV:=match g3 P.funcs.toList f with
 |some fn=>(match fn.body with
  |some c=>some { body:=comp P c,res:=fn.results.toList }
  |none=>none)
 |none=>none
structure Place where
 co:Nat
 off:Nat
 spare:Nat
 es:Nat
abbrev b5:=Nat->aw Place
mutual
inductive bF (ai:b5):Value->Value->Prop
 |bool (b:Bool):bF ai (.bool b) (.bool b)
 |int (k:IntKind) (n:Int):bF ai (.int k n) (.int k n)
 |string (s:ByteArray):bF ai (.string s) (.string s)
 |Gz:bF ai (.pointer none) (.pointer none)
 |ptr {b o:Nat} {p:Place} (h:ai b=some p):bF ai (.pointer (some ⟨b,o,none⟩)) (.pointer (some ⟨p.co,p.off+o,none⟩))
 |rc (l c:Nat):bF ai (.slice none l c) (.slice none l c)
 |kU {b o:Nat} {p:Place} (h:ai b=some p) (l c:Nat):bF ai (.slice (some ⟨b,o,none⟩) l c) (.slice (some ⟨p.co,p.off+o,none⟩) l c)
 |oG {b o s:Nat} {p:Place} (h:ai b=some p) (aq:p.es=s+1) (l c:Nat):bF ai (.slice (some ⟨b,o,some (s+1)⟩) l c) (.slice (some ⟨p.co,p.off+o,none⟩) l (c+p.spare))
 |oH (b o:Nat) (g a0:Nat) (c:Nat):bF ai (.slice (some ⟨b,o,some 0⟩) 0 0) (.slice (some ⟨g,a0,none⟩) 0 c)
 |GA:bF ai (.map none) (.map none)
 |map {r:Nat} {p:Place} (h:ai r=some p):bF ai (.map (some r)) (.map (some p.co))
 |nilFunc:bF ai .nilFunc .nilFunc
 |nilIface:bF ai .nilIface .nilIface
 |func (f:FuncId) {a eb b ce:List Value} (cW:dq ai a eb) (aO:dq ai b ce):bF ai (.func (.func f) ⟨a⟩ ⟨b⟩) (.func (.func f) ⟨eb⟩ ⟨ce⟩)
 |yield {l:Nat} {p:Place} (h:ai l=some p):bF ai (.func (.yield l) #[] #[]) (.func (.yield p.co) #[] #[])
 |iface (t:TypeId) {v dF:Value} (h:bF ai v dF):bF ai (.iface t v) (.iface t dF)
 |agg {l bY:List Value} (h:dq ai l bY):bF ai (.agg ⟨l⟩) (.agg ⟨bY⟩)
 |tuple {l bY:List Value} (h:dq ai l bY):bF ai (.tuple ⟨l⟩) (.tuple ⟨bY⟩)
inductive dq (ai:b5):List Value->List Value->Prop
 |nil:dq ai [] []
 |cons {x y:Value} {xs lU:List Value} (h:bF ai x y) (t:dq ai xs lU):dq ai (x::xs) (y::lU)
end
def Sub(ai bn:b5):Prop:=∀b p,ai b=some p->bn b=some p
mutual
theorem bF.mono{ai bn:b5}(A:Sub ai bn):∀{v c:X},bF ai v c->bF bn v c
 |_,_,.bool b=>.bool b
 |_,_,.int k n=>.int k n
 |_,_,.string s=>.string s
 |_,_,.Gz=>.Gz
 |_,_,.ptr h=>.ptr (A _ _ h)
 |_,_,.rc l c=>.rc l c
 |_,_,.kU h l c=>.kU (A _ _ h) l c
 |_,_,.oG h e l c=>.oG (A _ _ h) e l c
 |_,_,.oH b o g a0 c=>.oH b o g a0 c
 |_,_,.GA=>.GA
 |_,_,.map h=>.map (A _ _ h)
 |_,_,.nilFunc=>.nilFunc
 |_,_,.nilIface=>.nilIface
 |_,_,.func f E D=>.func f (dq.mono A E) (dq.mono A D)
 |_,_,.yield h=>.yield (A _ _ h)
 |_,_,.iface t h=>.iface t (bF.mono A h)
 |_,_,.agg h=>.agg (dq.mono A h)
 |_,_,.tuple h=>.tuple (dq.mono A h)
theorem dq.mono{ai bn:b5}(A:Sub ai bn):∀{v c:aa X},dq ai v c->dq bn v c
 |_,_,.nil=>.nil
 |_,_,.cons h t=>.cons (bF.mono A h) (dq.mono A t)
end
variable {bn:b5} {p:Place} {cY:kM} {GU:b5}
theorem dq.length{ai:b5}:∀{l bY:aa X},dq ai l bY->l.length=bY.length
 |_,_,.nil=>rfl
 |_,_,.cons _ t=>by simp[dq.length t]
theorem dq.append{ai:b5}:∀{a A b D:aa X},dq ai a A->dq ai b D->dq ai (a++b) (A++D)
 |_,_,_,_,.nil,h=>h
 |_,_,_,_,.cons h t,k=>.cons h (dq.append t k)
theorem dq.get{ai:b5}:∀{l bY:aa X} {i:Nat} {v:X},dq ai l bY->l[i]? = some v->∃A,bY[i]? = some A/\bF ai v A
 |_,_,0,_,.cons h _,e=>by simp at e;subst e;exact⟨_,rfl,h⟩
 |_,_,i+1,_,.cons _ t,e=>by simpa using dq.get  t ab
theorem dq.ac8{ai:b5}:∀{l bY:aa X},l.length=bY.length->(∀(i:Nat) (v:X),l[i]? = some v->∃A:X,bY[i]? = some A/\bF ai v A)->dq ai l bY
 | [],[],_,_=>.nil
 | [],_::_,h,_=>by simp at h
 |_::_,[],h,_=>by simp at h
 |x::xs,y::E,h,k=>by obtain⟨A,e,D⟩:=k 0 x rfl;simp at e;subst e;exact .cons D (dq.ac8 ab λi v e=>by simpa using k (i+1) v ab)
theorem dq.take{ai:b5}(n:Nat):∀{l bY:aa X},dq ai l bY->dq ai (l.take n) (bY.take n):=by
 induction n with
 |zero=>intro l bY _;simpa using dq.nil
 |succ n A=>intro l bY h;cases h with
  |nil=>simpa using dq.nil
  |cons h t=>exact .cons h (A t)
theorem dq.drop{ai:b5}(n:Nat):∀{l bY:aa X},dq ai l bY->dq ai (l.drop n) (bY.drop n):=by
 induction n with
 |zero=>intro l bY h;exact h
 |succ n A=>intro l bY h;cases h with
  |nil=>simpa using dq.nil
  |cons h t=>exact A t
theorem Cg(h:qp v=true)(ai:b5):bF ai v v:=by
 unfold qp at h
 split at h <;> first|(exact .func _ .nil .nil)|constructor|(exact absurd h (by simp))
theorem zS{ai:b5}(h:qp v=true)(k:bF ai v c):c=v:=by
 cases k <;> simp_all[qp]
 all_goals (rename_i D A;cases D <;> cases A <;> grind)
theorem Jt(h:hU l=true)(ai:b5):dq ai l l:=by
 induction l with
 |nil=>exact .nil
 |cons x xs A=>simp[hU]at h;exact .cons (Cg h.1 ai) (A h.2)
theorem Fj(h:uW v=true)(ai:b5):bF ai v v:=by
 unfold uW at h
 split at h
 ·exact .agg (Jt h ai)
 ·exact .tuple (Jt h ai)
 ·exact Cg h ai
theorem bF.cells{ai:b5}{v c:X}(h:bF ai v c):dq ai (dj v) c.cells.toList:=by
 cases h <;> first|(rename_i h;exact h)|exact .cons (by constructor <;> omega) .nil|skip
theorem N6{ai:b5}:∀{l bY:aa X},dq ai l bY->ee l=true->∀x∈bY,gZ x=true
 |_,_,.nil,_=>by simp
 |_,_,.cons h t,e=>by
  rename_i x y xs E
  have D:gZ x=true/\ee xs=true:=by
   unfold ee at e
   grind
  intro z A;rcases gQ.1 A with rfl|A
  ·cases h <;> simp_all[gZ]
  ·exact N6 t D.2 z A
def pt(ai:b5)(cs:aa X)(c:Array X)(off:Nat):Prop:=∀(i:Nat) (v:X),cs[i]? = some v->∃dF:X,c[off+i]? = some dF/\bF ai v dF
inductive hy (ai:b5):List MapEntry->List MapEntry->Prop
 |nil:hy ai [] []
 |cons {e dK:MapEntry} {es c9:List MapEntry} (hk:bF ai e.key dK.key) (aG:bF ai e.val dK.val) (aO:dK.born=e.born) (t:hy ai es c9):hy ai (e::es) (dK::c9)
def Tf:LoopState->Nat
 | .ready=>0 | .busy=>1 | .done=>2 | .exhausted=>3
def jk(ai:b5)(lT:cc)(a:Array X):Prop:=∀d v,hq lT d=some v->bF ai (rs v) (a.getD d undef)
def wv(n:Nat)(a7:aa Oper):al:=a7.all λo=>match o.dst with|some d=>Nat.blt d n|none=>true
def kS(n:Nat):Code->al
 | .region _ a7 _=>wv n a7.toList
 | .seq a b=>kS n a&&kS n b
 | .cond _ a b=>kS n a&&kS n b
 | .block _ c=>kS n c
 | .loop c=>kS n c
 | .rangeFunc _ b7 a b=>b7.toList.all (λp=>Nat.blt p n)&&kS n a&&kS n b
 | .scope c=>kS n c
 |_=>true
def pE(ai:b5)(m bG:aw Nat):Prop:=match m,bG with
 |none,none=>True
 |some r,some xq=>∃q,ai r=some q/\q.co=xq
 |_,_=>False
def kY(B:Nat)(ai:b5)(w:World)(p:Place):fJ->Prop
 | .cells cs true=>p.co<B/\∃c e fi,w.heap[p.co]? = some (.cells c e fi)/\pt ai cs c p.off
 | .cells cs false=>B<=p.co/\p.off=0/\∃c e ao aj,w.heap[p.co]? = some (.cells c e (ao,aj))/\(ao=aj\/c.size<=ao)/\pt ai cs c 0/\c.size=cs.length+p.spare*p.es
 | .map es cH=>B<=p.co/\∃c9:aa MapEntry,w.heap[p.co]? = some (.map c9.toArray cH)/\hy ai es c9
 | .iter m yl seen st=>B<=p.co/\p.off=0/\∃bG,w.heap[p.co]? = some (.mapIter bG yl seen.toArray st)/\pE ai m bG
 | .loop st G7 lT b7 a b=>B<=p.co/\∃l:Loop,w.heap[p.co]? = some (.loop l)/\Tf l.state=st/\l.pending=G7/\jk ai lT l.tmps/\l.params.toList=b7/\l.assign=a/\l.body=b /\
   kS l.tmps.size a=true/\kS l.tmps.size b=true/\(∀q∈b7,q<l.tmps.size)
structure d9 (B:Nat) (ai:b5) (H:fp) (w:World):Prop where
 base:B<=w.heap.size
 obj:∀b p o,ai b=some p->H b=some o->kY B ai w p o
 inj:∀b ce p eu,ai b=some p->ai ce=some eu->(H b).isSome->(H ce).isSome->B<=p.co->p.co=eu.co->b=ce
 kH:∀b,(H b).isSome->(ai b).isSome
def wL(B:Nat)(ai:b5)(H:fp)(k:Nat):Prop:=∃b p,ai b=some p/\(H b).isSome/\p.co=k/\B<=k
def wC(ai:b5)(ao aj:Nat):Prop:=∀b,ao<=b->b<aj->ai b=none
def qT(w ba:World):Prop:=ba.tape=w.tape/\w.drawn<=ba.drawn
theorem qT.here{w:World}:qT w w:=⟨rfl,J⟩
theorem qT.trans{w A D:World}(s:qT w A)(t:qT A D):qT w D:=⟨t.1.trans s.1,h7 s.2 t.2⟩
structure cx (B:Nat) (ai:b5) (H:fp) (w:World) (ao aj:Nat) (bn:b5) (gU:fp) (ba:World):Prop where
 rel:d9 B bn gU ba
 agree:∀b,(b<ao\/aj<=b)->bn b=ai b
 size:w.heap.size<=ba.heap.size
 os:ba.os=w.os
 tape:qT w ba
 output:ba.output=w.output
 frame:∀k,k<w.heap.size->¬wL B ai H k->ba.heap[k]? = w.heap[k]?
 own:∀k,wL B bn gU k->wL B ai H k\/w.heap.size<=k
 le:ao<=aj
theorem wC.sub{ai:b5}(A:wC ai ao aj)(D:∀b,(b<ao\/aj<=b)->bn b=ai b):Sub ai bn:=by
 intro b p h
 by_cases I:b<ao
 ·grind
 by_cases E:aj<=b
 ·grind
 rw[A b J J]at h;cases h
theorem cx.sub{B:Nat}{ai bn:b5}{H gU:fp}{w ba:World}{ao aj:Nat}(s:cx B ai H w ao aj bn gU ba)(A:wC ai ao aj):Sub ai bn:=A.sub s.agree
theorem cx.refl{B:Nat}{ai:b5}{w:World}(n:Nat)(h:d9 B ai H w):cx B ai H w n n ai H w :=
 ⟨h,ab,J,rfl,.here,rfl,ab,ab,J⟩
theorem cx.trans{B:Nat}{ai GU D:b5}{H Le I:fp}{w nZ E:World}{a b c:Nat}(s:cx B ai H w a b GU Le nZ)(t:cx B GU Le nZ b c D I E):cx B ai H w a c D I E where
 rel:=t.rel
 agree:=λx h=>by have Z:=s.le;have V:=t.le;rw[t.agree x J,s.agree x J]
 size:=h7 s.size t.size
 os:=t.os.trans s.os
 tape:=s.tape.trans t.tape
 output:=t.output.trans s.output
 frame:=λk A M=>by rw[t.frame k (Jd A s.size) (λN=>(s.own k N).elim M J),s.frame k A M]
 own:=λk h=>(t.own k h).elim (λh=>s.own k h) (λh=>.inr (h7 s.size h))
 le:=h7 s.le t.le
theorem wC.after{B:Nat}{ai:b5}{w:World}{a N:Nat}(s:cx B ai H w a b GU Le nZ)(h:wC ai a N):wC GU b N:=by intro x D A;rw[s.agree x J];exact h x (h7 s.le D) A
theorem wC.mono{ai:b5}{a A D:Nat}(h:wC ai a b)(M:a<=A)(E:D<=b):wC ai A D:=λx N I=>h x J J
theorem pt.mono{ai bn:b5}(A:Sub ai bn){cs:aa X}{c:Array X}{off:Nat}(h:pt ai cs c off):pt bn cs c off :=
 λi v e=>let ⟨dF,dK,aG⟩:=h i v e;⟨dF,dK,aG.mono A⟩
theorem hy.mono{ai bn:b5}(A:Sub ai bn):∀{es c9:aa MapEntry},hy ai es c9->hy bn es c9
 |_,_,.nil=>.nil
 |_,_,.cons E I D t=>.cons (E.mono A) (I.mono A) D (hy.mono A t)
theorem jk.mono{ai bn:b5}(D:Sub ai bn){A:cc}{a:Array X}(h:jk ai A a):jk bn A a:=λd v e=>(h d v e).mono D
theorem pE.mono{ai:b5}(D:Sub ai bn){m:aw Nat}(h:pE ai m bG):pE bn m bG:=by
 cases m <;> cases bG <;> simp only[pE]at h ⊢;obtain⟨q,A,e⟩:=h;exact⟨q,D _ _ A,e⟩
theorem kY.mono{B:Nat}{ai bn:b5}{w ba:World}{p:Place}{o:fJ}(E:Sub ai bn)(b0:ba.heap[p.co]? = w.heap[p.co]?)(h:kY B ai w p o):kY B bn ba p o:=by
 cases o with
 |cells cs ro =>
  cases ro with
  |true =>
   obtain⟨A,c,e,fi,I,D⟩:=h;exact⟨A,c,e,fi,ab,D.mono E⟩
  |false =>
   obtain⟨A,M,c,e,ao,aj,I,D,Z,V⟩:=h;exact⟨A,M,c,e,ao,aj,ab,D,Z.mono E,V⟩
 |map es cH =>
  obtain⟨A,c9,I,D⟩:=h;exact⟨A,c9,ab,D.mono E⟩
 |iter m N seen st =>
  obtain⟨A,M,bG,I,D⟩:=h;exact⟨A,M,bG,ab,D.mono E⟩
 |loop st G7 lT b7 a b =>
  obtain⟨A,l,I,D,Z,V,cy⟩:=h;exact⟨A,l,ab,D,Z,V.mono E,cy⟩
theorem d9.less{B:Nat}{ai:b5}{w:World}(h:d9 B ai H w)(aq:∀b o,gU b=some o->H b=some o):d9 B ai gU w where
 base:=h.base
 obj:=λb p o A D=>h.obj b p o A ab
 inj:=λb V p I A D Z M=>h.inj b V p I A D (by obtain⟨o,E⟩:=lI.1 Z;grind) (by obtain⟨o,E⟩:=lI.1 M;grind)
 kH:=λb N=>h.kH b (by obtain⟨o,E⟩:=lI.1 N;grind)
theorem d9.world{B:Nat}{ai:b5}{w:World}(h:d9 B ai H w)(A:w.heap.size<=ba.heap.size)(I:∀b p,ai b=some p->(H b).isSome->ba.heap[p.co]? = w.heap[p.co]?):d9 B ai H ba where
 base:=h7 h.base A
 obj:=λb p o E D=>(h.obj b p o E D).mono (λ_ _ h=>h) ab
 inj:=h.inj
 kH:=h.kH
theorem kY.CP{B:Nat}{ai:b5}{w:World}{o:fJ}(h:kY B ai w p o):p.co<w.heap.size:=by
 cases o with
 |cells cs ro =>
  cases ro with
  |true=>obtain⟨_,c,e,N,A,_⟩:=h;grind
  |false=>obtain⟨_,_,c,e,ao,aj,A,_⟩:=h;grind
 |map es cH=>obtain⟨_,c9,A,_⟩:=h;grind
 |iter m D I st=>obtain⟨_,_,bG,A,_⟩:=h;grind
 |loop st E M V a b=>obtain⟨_,l,A,_⟩:=h;grind
def fp.put(H:fp)(b:Nat)(o:fJ):fp:=λk=>if k=b then some o else H k
theorem uO(h:ae)(b:Nat)(o:fJ):u (F h b o)=fp.put (u h) b o:=funext λk=>wa h b o k
theorem cx.make{B:Nat}{ai:b5}{w:World}{U:Nat}{o:fJ}(h:d9 B ai H w)(bv:ai U=none)(lP:ba.heap.size=w.heap.size+1)(jg:∀k,k<w.heap.size->ba.heap[k]? = w.heap[k]?)(wY:ba.os=w.os)(Hv:qT w ba)(Z:ba.output=w.output)(bg:p.co=w.heap.size)(fw:kY B (λk=>if k=U then some p else ai k) ba p o):
  cx B ai H w U (U+1) (λk=>if k=U then some p else ai k) (H.put U o) ba:=by
 have V:Sub ai (λk=>if k=U then some p else ai k):=λb q A=>ab
 have ct:∀b q,ai b=some q->(H b).isSome->q.co<w.heap.size:=λb q A I=>by obtain⟨a0,D⟩:=lI.1 I;exact(h.obj b q a0 A D).CP
 refine⟨⟨by have:=h.base;omega,?_,?_,?_⟩,?_,J,wY,Hv,Z,ab,?_,J⟩
 ·intro b q a0 A D
  by_cases e:b=U
  ·subst e;simp[fp.put]at A D;subst A;subst D;exact fw
  ·simp only[e,ff]at A;simp only[fp.put,e,ff]at D;exact(h.obj b q a0 A D).mono V ab
 ·intro b ce q jy A E I M en tM
  by_cases e:b=U <;> by_cases N:ce=U
  ·omega
  ·subst e;simp at A;subst A;simp only[N,ff]at E;simp only[fp.put,N,ff]at M
   grind
  ·subst N;simp at E;subst E;simp only[e,ff]at A;simp only[fp.put,e,ff]at I
   grind
  ·simp only[e,ff]at A;simp only[N,ff]at E;simp only[fp.put,e,ff]at I;simp only[fp.put,N,ff]at M;exact h.inj b ce q jy A E I M en tM
 ·intro b I
  by_cases e:b=U
  ·grind
  ·simp only[fp.put,e,ff]at I;simp only[e,ff];exact h.kH b I
 ·grind
 ·rintro k ⟨b,q,A,I,rfl,en⟩
  by_cases e:b=U
  ·grind
  ·simp only[e,ff]at A;simp only[fp.put,e,ff]at I;exact .inl ⟨b,q,A,I,rfl,en⟩
theorem cx.change{B:Nat}{ai:b5}{w:World}(U:Nat){o:fJ}(h:d9 B ai H w)(aO:ai b=some p)(fw:H b=some o)(en:B<=p.co)(lP:ba.heap.size=w.heap.size)(E:∀k,k≠p.co->ba.heap[k]? = w.heap[k]?)(V:ba.os=w.os)(Hv:qT w ba)(Tg:ba.output=w.output)(I:kY B ai ba p a0):cx B ai H w U U ai (H.put b a0) ba:=by
 refine⟨⟨by have:=h.base;omega,?_,?_,?_⟩,ab,J,V,Hv,Tg,?_,?_,J⟩
 ·intro x q y A D
  by_cases e:x=b
  ·subst e;rw[aO]at A;cases A;simp[fp.put]at D;subst D;exact I
  ·simp only[fp.put,e,ff]at D;refine(h.obj x q y A D).mono (λ_ _ h=>h) (E _ λM=>e ?_);exact h.inj x b q p A aO ab ab J M
 ·have N:∀x,((H.put b a0) x).isSome->(H x).isSome:=λx A=>by
   by_cases e:x=b
   ·grind
   ·simpa[fp.put,e]using A
  exact λx y q jy A D aq nn=>h.inj x y q jy A D ab ab
 ·intro x A
  by_cases e:x=b
  ·grind
  ·simp only[fp.put,e,ff]at A;exact h.kH x A
 ·intro k _ bv;refine E k λe=>bv ⟨b,p,aO,ab,e.symm,J⟩
 ·rintro k ⟨x,q,A,aq,rfl,Z⟩;refine .inl ⟨x,q,A,?_,rfl,Z⟩
  by_cases e:x=b
  ·grind
  ·simpa[fp.put,e]using aq
def jQ(ai:b5)(U:Nat):Prop:=∀b,U<=b->ai b=none
theorem jQ.here{ai:b5}{U:Nat}(h:jQ ai U):ai U=none:=h U J
theorem jQ.sub{B:Nat}{ai:b5}{w:World}(h:jQ ai ao)(s:cx B ai H w ao aj bn gU ba):Sub ai bn:=λb p A=>by
 by_cases D:b<ao
 ·rw[s.agree b J];omega
 ·rw[h b J]at A;grind
theorem jQ.after{B:Nat}{ai:b5}{w:World}(h:jQ ai ao)(s:cx B ai H w ao aj bn gU ba):jQ bn aj:=λb A=>by rw[s.agree b J];exact h b (h7 s.le A)
def Fin(B:Nat)(ai:b5)(h:ae)(w:World)(U:Nat)(K:X->ae->Nat->Prop)(e:Ending)(ba:World):Prop :=
 ∃v ac Y bn c,e = .returned c/\K v ac Y/\bF bn v c/\cx B ai (u h) w U Y bn (u ac) ba
def Cr(P:Program)(f:FuncId):Prop:=∃fn,P.funcs[f]? = some fn/\fn.body.isSome=true/\(fn.name == "runtime.NumGoroutine")=false
abbrev bR:=X->ae->Nat->Prop
def m7(r:aw Nat):Fence:={ Fence.wide with round:=r }
variable {kt:bR} {C:bR->Prop}
theorem YN(r:aw Nat)(n:Nat)(P:Program):CallsIn (m7 r) n P=CallsIn Fence.wide n P:=rfl
theorem amk(r:aw Nat)(n:Nat)(P:Program):RoundIn (m7 r) n P=RoundIn Fence.wide n P:=rfl
def kI(P:Program)(f:FuncId)(args:aa X)(h:ae)(U:Nat)(K:bR):Prop :=
 Cr P f/\∀(B:Nat) (ai:b5) (w:World) (C8:aa X),d9 B ai (u h) w->jQ ai U->dq ai args C8->∀n,CallsIn Fence.wide n P f ⟨C8⟩ w (Fin B ai h w U K)
def tN(P:Program)(l:Nat)(args:aa X)(h:ae)(U:Nat)(K:bR):Prop :=
 ∀(B:Nat) (ai:b5) (w:World) (C8:aa X) (p:Place),d9 B ai (u h) w->jQ ai U->dq ai args C8->ai l=some p ->
  ∃o7:Loop,w.heap[p.co]? = some (.loop o7)/\C8.length=o7.params.size/\∀n,RoundIn Fence.wide n P p.co o7.fn ((o7.params.zip ⟨C8⟩).foldl (λtmps (t,a)=>tmps.setIfInBounds t a) o7.tmps) o7.assign o7.body w (Fin B ai h w U K)
def uf(s:al)(C:bR->Prop)(K:bR):Prop:=match s with
 |true=>∃v h U,K v h U/\C (λdF ac Y=>dF=v/\ac=h/\Y=U)
 |false=>C K
def aH(P:Program)(s:al)(f:FuncId)(args:aa X)(h:ae)(U:Nat)(K:bR):Prop:=uf s (kI P f args h U) K
def lW(P:Program)(s:al)(l:Nat)(args:aa X)(h:ae)(U:Nat)(K:bR):Prop:=uf s (tN P l args h U) K
theorem Fin.mono{B:Nat}{ai:b5}{h:ae}{w:World}{U:Nat}{K:bR}(A:∀v h U,K v h U->kt v h U){e:Ending}:Fin B ai h w U K e ba->Fin B ai h w U kt e ba:=λ⟨v,ac,Y,bn,c,e,D,r⟩=>⟨v,ac,Y,bn,c,e,A _ _ _ D,r⟩
theorem kI.mono{P:Program}{f:FuncId}{args:aa X}{h:ae}{U:Nat}{K kt:bR}(A:kI P f args h U K)(D:∀v h U,K v h U->kt v h U):kI P f args h U kt :=
 ⟨A.1,λB ai w a I E M n=>(A.2 B ai w a I E M n).mono λ_ _=>Fin.mono D⟩
theorem tN.mono{P:Program}{l:Nat}{args:aa X}{h:ae}{U:Nat}{K kt:bR}(D:tN P l args h U K)(A:∀v h U,K v h U->kt v h U):tN P l args h U kt :=
 λB ai w a p M E N I=>let ⟨o7,aW,aK,cf⟩:=D B ai w a p M E N I;⟨o7,aW,aK,λn=>(cf n).mono λ_ _=>Fin.mono A⟩
theorem uf.mono{s:al}(M:∀{K kt:bR},C K->(∀v h U,K v h U->kt v h U)->C kt){K:bR}(D:uf s C K)(A:∀v h U,K v h U->kt v h U):uf s C kt:=by
 cases s with
 |true=>obtain⟨v,h,U,I,E⟩:=D;exact⟨v,h,U,A _ _ _ I,E⟩
 |false=>exact M D A
theorem uf.down{s:al}(E:∀{K kt:bR},C K->(∀v h U,K v h U->kt v h U)->C kt){K:bR}(A:uf s C K):C K:=by
 cases s with
 |true=>obtain⟨v,h,U,I,D⟩:=A;exact E D (by rintro _ _ _ ⟨rfl,rfl,rfl⟩;exact I)
 |false=>exact A
theorem aH.mono{P:Program}{s:al}{f:FuncId}{args:aa X}{h:ae}{U:Nat}{K kt:bR}(D:aH P s f args h U K)(A:∀v h U,K v h U->kt v h U):aH P s f args h U kt:=uf.mono kI.mono D A
theorem lW.mono{P:Program}{s:al}{l:Nat}{args:aa X}{h:ae}{U:Nat}{K kt:bR}(D:lW P s l args h U K)(A:∀v h U,K v h U->kt v h U):lW P s l args h U kt:=uf.mono tN.mono D A
noncomputable section
def ea(ak:cc)(x:e7):R X:=match x with
 | .t n=>(match hq ak n with|some (some v)=>.ok v|some none=>.ok jT|none=>.no "temp")
 | .v v=>.ok v
def pF(ak:cc):aa e7->R (aa X)
 | []=>.ok []
 |x::xs=>R.bind (ea ak x) λv=>R.bind (pF ak xs) λaF=>.ok (v::aF)
def Ll(ak:cc)(x:aw e7):R (aw X):=match x with
 |none=>.ok none
 |some x=>R.bind (ea ak x) λv=>.ok (some v)
def GB(ak:cc):aa (Nat × Nat × e7)->R (aa (Nat × Nat × X))
 | []=>.ok []
 |(o,z,x)::xs=>R.bind (ea ak x) λv=>R.bind (GB ak xs) λaF=>.ok ((o,z,v)::aF)
def pG(P:Program)(ak:cc)(e:ID):R X:=match e with
 | .hX x=>ea ak x
 | .pick c a b=>R.bind (ea ak c) λc=>R.bind (ea ak a) λa=>R.bind (ea ak b) λb=>GP c a b
 | .bin op t x y=>R.bind (ea ak x) λx=>R.bind (ea ak y) λy=>bin P op t x y
 | .un op x=>R.bind (ea ak x) λx=>dv op x
 | .conv d x=>R.bind (ea ak x) λx=>qt d x
 | .vk off bO x=>R.bind (ea ak x) λx=>va off bO x
 | .agB off x=>R.bind (ea ak x) λx=>Av off x
 | .ixA k x i=>R.bind (ea ak x) λx=>R.bind (ea ak i) λi=>im k x i
 | .idx t x i=>R.bind (ea ak x) λx=>R.bind (ea ak i) λi=>ayB P t x i
 | .m5 s x ao aj iO=>R.bind (ea ak x) λx=>R.bind (Ll ak ao) λao=>R.bind (Ll ak aj) λaj=>R.bind (Ll ak iO) λiO=>gS s x ao aj iO
 | .ext x i=>R.bind (ea ak x) λx=>cp x i
 | .agC x=>R.bind (ea ak x) λx=>bx x
 | .mkf f a b=>R.bind (pF ak a) λa=>R.bind (pF ak b) λb=>.ok (.func (.func f) ⟨a⟩ ⟨b⟩)
 | .ifc t x=>R.bind (ea ak x) λx=>.ok (.iface t x)
 | .asr a ok x=>R.bind (ea ak x) λx=>F9 P a ok x
 | .Vo b x y=>R.bind (ea ak x) λx=>R.bind (ea ak y) λy=>min2 b x y
 | .cap t x=>R.bind (ea ak x) λx=>Hb P t x
 | .build z mI=>R.bind (GB ak mI) λb7=>cU z b7
def Dn(ak:cc)(e:Eu):R kM:=match e with
 | .new l=>.ok (.ptr (.cells l false))
 | .box x=>R.bind (ea ak x) λx=>F4 (dj x)
 | .Te len base mI=>R.bind (GB ak mI) λb7=>eV len base b7
 | .mkm=>.ok .map
 | .mks z l c=>R.bind (ea ak l) λl=>R.bind (ea ak c) λc=>sr z l c
def pred(P:Program)(ak:cc)(e:Hu)(h:ae):R X:=match e with
 | .ld bO x=>R.bind (ea ak x) λx=>iM bO h x
 | .lkp dW z m k ok=>R.bind (ea ak m) λm=>R.bind (ea ak k) λk=>jV P h dW z ok m k
 | .lens x=>R.bind (ea ak x) λx=>AI x
 | .agD x=>R.bind (ea ak x) λx=>wK h x
 | .entry x=>R.bind (ea ak x) λx=>wu h x
def bu(v:X)(a b:Prop):Prop:=match v with
 | .bool t=>(match t with|true=>a|false=>b)
 |_=>False
def dS(r:R kM)(h:ae)(U:Nat)(k:X->ae->Nat->Prop):Prop:=af r λb=>k (wW U b) (F h U (sA b)) (U+1)
def dD(r:fq)(k:X->ae->Nat->Prop):Prop:=match r with
 | .val v h U=>k v h U
 |_=>False
def fh(P:Program)(s:al)(r:fq)(k:X->ae->Nat->Prop):Prop:=match r with
 | .call f args h U=>aH P s f args h U k
 | .round l args h U=>lW P s l args h U k
 |_=>False
def vm(s:al)(h:ae)(U:Nat)(v:X)(k:X->ae->Nat->Prop):Prop :=
 ∃it r yl st cH seen es,s=false/\v = .pointer (some ⟨it,0,none⟩)/\u h it=some (.iter (some r) yl seen st)/\u h r=some (.map es cH)/\KF seen es st=true /\
  (leftOf seen es=[]->k (.tuple #[.bool false]) h U)/\∀e∈leftOf seen es,e.born<yl/\k (.tuple #[.bool true,e.key,e.val]) (F h it (.iter (some r) yl (seen++[e.born]) cH)) U
def nd(v:X)(r:R X):al:=match r with | .ok w=>oK v w | .no _=>false
def oT(f:ae->R X)(v:X)(p:Prop):Nat->aa ae->Prop
 |0,_=>p
 |n+1,h::aq=>nd v (f h)=true/\oT f v p n aq
 |_+1,[]=>False
def Na{e6:Type}(r:R e6)(k:e6->Prop):Prop:=id (af r k)
def ku(g:aw (Nat × al))(ak:cc)(a b:cc->Prop):Prop:=match g with
 |none=>a ak
 |some (t,w)=>(match hq ak t with
  |some (some v)=>bu v ((match w with|true=>a|false=>b) ((t,some (.bool true))::ak)) ((match w with|true=>b|false=>a) ((t,some (.bool false))::ak))
  |some none=>b ak
  |none=>False)
section
variable (P:Program) (s:al)
def o8(e:vH)(ak:cc)(h:ae)(U:Nat)(k:X->ae->Nat->Prop):Prop:=match e with
 | .st n a x=>af (ea ak a) λa=>af (ea ak x) λx=>af (aU h n a x) λh=>k jT h U
 | .yQ dW m key x=>af (ea ak m) λm=>af (ea ak key) λkey=>af (ea ak x) λx=>af (mK P dW h m key x) λh=>k jT h U
 | .hd x=>af (ea ak x) λx=>dD (sk h U x) k
 | .fH x=>af (ea ak x) λx=>vm s h U x k
 | .call f args=>af (pF ak args) λl=>aH P s f l h U k
 | .Aw f args=>af (ea ak f) λf=>af (pF ak args) λl=>fh P s (hP h U l f) k
 | .app z x y=>af (ea ak x) λx=>af (ea ak y) λy=>dD (dU (dM z h U x y)) k
 | .bi b ag args=>af (pF ak args) λl=>dD (dU (pr P b ag h U l)) k
 | .inv r m args=>af (pF ak args) λl=>af (ea ak r) λv=>fh P s (md P h U l m v) k
def ny(d:aw Nat)(i:m6)(ak:cc)(h:ae)(U:Nat)(k:cc->ae->Nat->Prop):Prop:=match i with
 | .fu (.hX x)=>Na (ea ak x) λv=>k (ep ak d (some v)) h U
 | .fu (.pick c a b)=>af (ea ak c) λc=>af (ea ak a) λa=>af (ea ak b) λb=>bu c (k (ep ak d (some a)) h U) (k (ep ak d (some b)) h U)
 | .fu e=>af (pG P ak e) λv=>k (ep ak d (some v)) h U
 | .io e=>dS (Dn ak e) h U λv h U=>k (ep ak d (some v)) h U
 | .red e=>af (pred P ak e h) λv=>k (ep ak d (some v)) h U
 | .fv e=>o8 P s e ak h U λv h U=>k (ep ak d (some v)) h U
def p6(l:aa lV):cc->ae->Nat->(cc->ae->Nat->Prop)->Prop :=
 List.rec (motive:=λ_=>cc->ae->Nat->(cc->ae->Nat->Prop)->Prop) (λak h U K=>K ak h U)
  (λi _ eY ak h U K=>ku i.g ak (λak=>ny P s i.d i.k ak h U λak h U=>eY ak h U K) (λak=>eY (ep ak i.d none) h U K)) l
def mQ(d:aw Nat)(c:Nat)(i:m6)(ak:cc)(h:ae)(U:Nat)(b:ae)(aq:aa ae)(k:cc->ae->Nat->ae->aa ae->Prop):Prop:=match i with
 | .fu (.hX x)=>Na (ea ak x) λv=>k (ep ak d (some v)) h U b aq
 | .fu (.pick c x y)=>af (ea ak c) λc=>af (ea ak x) λx=>af (ea ak y) λy=>bu c (k (ep ak d (some x)) h U b aq) (k (ep ak d (some y)) h U b aq)
 | .fu e=>af (pG P ak e) λv=>k (ep ak d (some v)) h U b aq
 | .io e=>dS (Dn ak e) h U λv h U=>k (ep ak d (some v)) h U b aq
 | .red e=>af (pred P ak e b) λv=>Nat.rec (k (ep ak d (some v)) h U b aq) (λ_ _=>oT (pred P ak e) v (k (ep ak d (some v)) h U b aq) c aq) c
 | .fv (.st n a x)=>af (ea ak a) λa=>af (ea ak x) λx=>af (aU h n a x) λh=>k (ep ak d (some jT)) h U h (b::aq)
 | .fv (.yQ dW m key x)=>af (ea ak m) λm=>af (ea ak key) λkey=>af (ea ak x) λx=>af (mK P dW h m key x) λh=>k (ep ak d (some jT)) h U h (b::aq)
 | .fv e=>o8 P true e ak h U λv ac Y=>U<=Y/\k (ep ak d (some v)) ac Y ac (b::aq)
def ie(l:aa lV):cc->ae->Nat->ae->aa ae->(cc->ae->Nat->Prop)->Prop :=
 List.rec (motive:=λ_=>cc->ae->Nat->ae->aa ae->(cc->ae->Nat->Prop)->Prop) (λak h U _ _ K=>K ak h U)
  (λi _ eY ak h U b aq K=>ku i.g ak (λak=>mQ P i.d i.c i.k ak h U b aq λak h U b aq=>eY ak h U b aq K)
   (λak=>Bool.rec (eY (ep ak i.d none) h U b aq K) (eY (ep ak i.d none) h U h (b::aq) K) (je i.k))) l
abbrev iP:=cc->ae->Nat->Prop
abbrev aP:=aa X->ae->Nat->Prop
def a8:aa X->Nat->X
 | [],_=>jT
 |x::l,i=>match i with|0=>x|i+1=>a8 l i
def ru:aa Nat->aa X->Nat->cc
 | [],_,_=>[]
 |n::L,aF,i=>(n,some (a8 aF i))::ru L aF (i+1)
def ol:aa Nat->cc->(aa X->Prop)->Prop
 | [],_,k=>k []
 |n::L,ak,k=>match hq ak n with
  |some (some v)=>ol L ak λaF=>k (v::aF)
  |some none=>ol L ak λaF=>k (jT::aF)
  |none=>False
def j2{az:Type}:aa (Nat × (az->ae->Nat->Prop))->Nat->az->ae->Nat->Prop
 | [],_=>λ_ _ _=>False
 |p::l,i=>bif Nat.beq p.1 i then p.2 else j2 l i
abbrev om:=aa X->ae->Nat->aP->aa (Nat × aP)->aP->Prop
def bC(B:om)(aF:aa X)(h:ae)(U:Nat)(E:aa (Nat × aP))(R:aP):Prop :=
 ∃(eC:Nat->aa X->ae->Nat->Prop) (m:Nat),eC m aF h U/\∀m aF h U,eC m aF h U->B aF h U (λaF h U=>∃bG,bG<m/\eC bG aF h U) E R
def hE:ks->Nat
 | .seq a b=>hE a+hE b
 | .cond _ a b=>hE a+hE b
 | .block _ c=>hE c
 | .scope c=>hE c
 | .loop c=>hE c+1
 |_=>0
def kl(l:aa (aa Nat))(i:Nat):aa Nat:=match g3 l i with|some x=>x|none=>[]
def rv(i:Nat):ks->al
 | .seq a b=>rv i a||rv i b
 | .cond _ a b=>rv i a||rv i b
 | .block _ c=>rv i c
 | .scope c=>rv i c
 | .loop c=>rv i c
 | .exit j=>Nat.beq i j
 |_=>false
def vb:ks->al
 | .seq a b=>vb a||vb b
 | .cond _ a b=>vb a||vb b
 | .block _ c=>vb c
 | .scope c=>vb c
 | .loop c=>vb c
 | .ret=>true
 |_=>false
def tC(L:aa Nat)(k:aP):iP:=λak h U=>ol L ak λaF=>k aF h U
def Hw(L:aa Nat)(k:iP):aP:=λaF h U=>k (ru L aF 0) h U
def wM(L:aa Nat):aa (Nat × aP)->aa (Nat × iP)
 | []=>[]
 |p::l=>(p.1,tC L p.2)::wM L l
def vn(L:aa Nat)(c:ks):aa (Nat × iP)->aa (Nat × aP)
 | []=>[]
 |p::l=>bif rv p.1 c then(p.1,Hw L p.2)::vn L c l else vn L c l
def Hx(L:aa Nat)(c:ks)(k:iP):aP:=bif vb c then Hw L k else λ_ _ _=>False
def yA(l:Nat)(N R:ae->Nat->Prop):bR:=λ_ h U=>∃st p AY b7 a b,u h l=some (.loop st p AY b7 a b)/\st≠1/\((p=none/\N (F h l (.loop 3 p AY b7 a b)) U)\/(p=some .ret/\R (F h l (.loop 3 p AY b7 a b)) U))
def tO(P:Program)(s:al)(v:X)(h:ae)(U:Nat)(o:fJ)(K:bR):Prop:=match v with
 | .func (.func g) a b=>aH P s g (a.toList++(.func (.yield U) #[] #[]::b.toList)) (F h U o) (U+1) K
 |_=>False
def hZ(eU:aa (aa Nat)):ks->Nat->cc->ae->Nat->iP->aa (Nat × iP)->iP->Prop
 | .skip,_,ak,h,U,N,_,_=>N ak h U
 | .exit id,_,ak,h,U,_,E,_=>j2 E id ak h U
 | .ret,_,ak,h,U,_,_,R=>R ak h U
 | .scope c,i,ak,h,U,N,E,R=>hZ eU c i ak h U N E R
 | .tB l,_,ak,h,U,N,_,_=>p6 P s l ak h U N
 | .Di l,_,ak,h,U,N,_,_=>ie P l ak h U h [] N
 | .xp f b7 a b,_,ak,h,U,N,_,R=>af (ea ak f) λv=>tO P s v h U (.loop 0 none ak b7 a b) (yA U (N ak) (R ak))
 | .seq a b,i,ak,h,U,N,E,R=>hZ eU a i ak h U (λak h U=>hZ eU b (i+hE a) ak h U N E R) E R
 | .block id c,i,ak,h,U,N,E,R=>hZ eU c i ak h U N ((id,N)::E) R
 | .cond x a b,i,ak,h,U,N,E,R=>(match x with
  | .v v=>bu v (hZ eU a i ak h U N E R) (hZ eU b (i+hE a) ak h U N E R)
  | .t n=>(match hq ak n with
   |some (some v)=>bu v (hZ eU a i ((n,some (.bool true))::ak) h U N E R) (hZ eU b (i+hE a) ((n,some (.bool false))::ak) h U N E R)
   |_=>False))
 | .loop c,i,ak,h,U,_,E,R=>ol (kl eU i) ak λaF=>bC (λaF h U N E R=>hZ eU c (i+1) (ru (kl eU i) aF 0) h U (tC (kl eU i) N) (wM (kl eU i) E) (tC (kl eU i) R)) aF h U
   (vn (kl eU i) c E) (Hx (kl eU i) c R)
 | .no,_,_,_,_,_,_,_=>False
end
def yB(P:Program)(ak:cc)(h:ae):aa ResultVar->(aa X->Prop)->Prop
 | [],k=>k []
 | .tmp t::bz,k=>af (ea ak (.t t)) λv=>yB P ak h bz λaF=>k (v::aF)
 | .cell a t::bz,k=>af (ea ak (.t a)) λv=>af (R.of "type" (px P t) λbO=>iM bO h v) λv=>yB P ak h bz λaF=>k (v::aF)
def Do(l:aa X):X:=match l with | [v]=>v|l=>.tuple ⟨l⟩
def ss(P:Program)(bz:aa ResultVar)(K:bR):iP:=λak h U=>yB P ak h bz λl=>K (Do l) h U
def yd:aa X->Nat->cc
 | [],_=>[]
 |v::aF,i=>(i,some v)::yd aF (i+1)
def oo(P:Program)(s:al)(eU:aa (aa Nat))(f:FuncId)(args:aa X)(h:ae)(U:Nat)(K:bR):Prop:=match yc P f with
 |some oq=>hZ P s eU oq.body 0 (yd args 0) h U (ss P oq.res K) [] (ss P oq.res K)
 |none=>False
def ye:ks->Nat->aw ks
 | .seq a b,i=>(bif Nat.blt i (hE a)then ye a i else ye b (i-hE a))
 | .cond _ a b,i=>(bif Nat.blt i (hE a)then ye a i else ye b (i-hE a))
 | .block _ c,i=>ye c i
 | .scope c,i=>ye c i
 | .loop c,i=>(match i with|0=>some c|i+1=>ye c i)
 |_,_=>none
def bN(P:Program)(s:al)(eU:aa (aa Nat))(f:FuncId)(i:Nat):om:=match yc P f with
 |some oq=>(match ye oq.body i with
  |some c=>λaF h U N E R=>hZ P s eU c (i+1) (ru (kl eU i) aF 0) h U (tC (kl eU i) N) (wM (kl eU i) E) (tC (kl eU i) R)
  |none=>λ_ _ _ _ _ _=>False)
 |none=>λ_ _ _ _ _ _=>False
end
theorem ps(g o n:Nat):(⟨g,o,none⟩:Addr).add n=⟨g,o+n,none⟩:=by unfold Addr.add;grind
theorem XD(h:gZ v=true):v.oneCell'=true:=by cases v <;> simp_all[gZ,Value.oneCell']
theorem d9.cells{B:Nat}{ai:b5}{H:fp}{w:World}(M:d9 B ai H w){b:Nat}{p:Place}{cs:aa X}{ro:al}(V:ai b=some p)(N:H b=some (.cells cs ro)):
  ∃c e D,w.heap[p.co]? = some (.cells c e D)/\pt ai cs c p.off:=by
 have:=M.obj b p _ V N;cases ro with
 |true=>obtain⟨_,c,e,D,E,A⟩:=this;exact⟨c,e,D,E,A⟩
 |false=>obtain⟨_,I,c,e,ao,aj,E,_,A,_⟩:=this;exact⟨c,e,(ao,aj),E,by rw[I];exact A⟩
theorem pt.cut{ai:b5}{c:Array X}{o n:Nat}(h:pt ai cs c off)(N:o+n<=cs.length):
  ∃bY:aa X,bY.length=n/\dq ai ((cs.drop o).take n) bY/\∀j v,bY[j]? = some v->c[off+o+j]? = some v:=by
 have A:∀j,j<n->off+o+j<c.size:=λj I=>by
  obtain⟨E,e,_⟩:=h (o+j) (cs[o+j]'J) ab
  grind
 refine⟨(c.toList.drop (off+o)).take n,?_,?_,?_⟩
 ·simp only[ql,E1,EW];rcases zI n with D|D
  ·omega
  ·have:=A (n-1) J;omega
 ·refine dq.ac8 ?_ ?_
  ·simp only[ql,E1,EW];rcases zI n with D|D
   ·omega
   ·have:=A (n-1) J;omega
  ·intro j v e;simp only[xO,xN]at e ⊢
   split at e
   ·rename_i I
    obtain⟨E,V,M⟩:=h (o+j) v e;exact⟨E,ab,M⟩
   ·cases e
 grind
theorem WO{P:Program}(h:px P t=some bO):
  ∃i d,P.info? t=some i/\P.underlying t=some d /\
   ((∃n,bO=some n/\i.size=n/\∀w,(isAgg t).run P w = .ok true w)\/(bO=none/\∀w,(isAgg t).run P w = .ok false w)):=by
 unfold px jI at h;cases A:P.underlying t with
 |none=>grind
 |some d =>
  cases aj:P.info? t with
  |none=>rw[A,aj]at h;grind
  |some i =>
   refine⟨i,d,rfl,rfl,?_⟩;rw[A,aj]at h;have D:∀w,(underlying t).run P w = .ok d w:=run_underlying A;cases d <;> simp at h <;> first
    |(right;refine⟨h.symm,λw=>?_⟩;simp[isAgg,D];done)
    |(left;refine⟨_,h.symm,rfl,λw=>?_⟩;simp[isAgg,D];done)
theorem Fk{P:Program}{i:TypeInfo}(h:P.info? t=some i)(w:World):(sizeOf t).run P w = .ok i.size w:=by simp[sizeOf,typeInfo,h]
theorem aj6{P:Program}{n:Nat}(h:jI P t=some n):∃i,P.info? t=some i/\i.size=n:=by
 unfold jI at h;cases aj:P.info? t with
 |none=>rw[aj]at h;cases h
 |some i=>rw[aj]at h;grind
theorem kg{P:Program}{n:Nat}(h:jI P t=some n)(w:World):(sizeOf t).run P w = .ok n w:=by obtain⟨i,aj,rfl⟩:=aj6 h;exact Fk aj w
theorem PM{w:World}{g:Nat}{c:Array X}{A:Nat × Nat}(h:w.heap[g]? = some (.cells c e A))(D:c[i]? = some v):w.cell? ⟨g,i,none⟩=some v:=by simp[World.cell?,h,D]
theorem YO{r:aw (aa X)}(h:KV r = .ok v):∃l,r=some l/\v = .agg ⟨l⟩:=by
 cases r with
 |none=>cases h
 |some l=>cases h;grind
theorem YP{r:aw X}(h:C4 r = .ok v):r=some v:=by
 cases r with
 |none=>cases h
 |some l=>cases h;rfl
theorem R.kX{az:Type}{s:String}{r:aw az}{f:az->R e6}{x:e6}(h:R.of s r f = .ok x):∃a,r=some a/\f a = .ok x:=by
 cases r with
 |none=>cases h
 |some a=>exact⟨a,rfl,h⟩
theorem R.fd{az e6:Type}{r:R az}{f:az->R e6}{x:e6}(h:R.bind r f = .ok x):∃a,r = .ok a/\f a = .ok x:=by
 cases r with
 |no w=>cases h
 |ok a=>exact⟨a,rfl,h⟩
theorem Fr{h:ae}{k:aa X->al->R e6}{x:e6}(e:cellsOf h b k = .ok x):∃cs ro,u h b=some (.cells cs ro)/\k cs ro = .ok x:=by
 unfold cellsOf at e;cases A:u h b with
 |none=>rw[A]at e;cases e
 |some o =>
  rw[A]at e;cases o with
  |cells cs ro=>grind
  |_=>cases e
theorem JP{k:Addr->R e6}{x:e6}(e:Au v k = .ok x):∃a,v = .pointer (some a)/\k a = .ok x:=by
 unfold Au at e
 grind
theorem bF.O0{ai:b5}{a:Addr}(h:bF ai (.pointer (some a)) c):∃p,a.spot=none/\ai a.block=some p/\c = .pointer (some ⟨p.co,p.off+a.off,none⟩):=by
 cases h with
 |ptr h=>grind
theorem PN{P:Program}{B:Nat}{ai:b5}{h:ae}{w:World}(bb:d9 B ai (u h) w)(wZ:px P t=some bO)(N:iM bO h x = .ok v)(aY:bF ai x dG):
  ∃eb,dG = .pointer (some eb)/\∃c,(loadVar t eb).run P w = .ok c w/\bF ai v c:=by
 obtain⟨⟨b,o,aS⟩,rfl,N⟩:=JP N;obtain⟨p,n5,aO,rfl⟩:=aY.O0;refine⟨_,rfl,?_⟩;simp only at n5 aO N;obtain⟨cs,ro,a1,N⟩:=Fr N;obtain⟨c,e,fi,b0,D⟩:=bb.cells aO a1;obtain⟨i,d,aj,ej,h|h⟩:=WO wZ
 ·obtain⟨n,rfl,rfl,A⟩:=h;obtain⟨l,E,rfl⟩:=YO N;rw[ri,sd]at E
  split at E
  ·rename_i dO
   cases E;have I:o+i.size<=cs.length\/i.size=0:=ab
   rcases I with I | au
   ·obtain⟨bY,Z,Hy,u⟩:=D.cut   I;refine⟨.agg ⟨bY⟩,?_,.agg Hy⟩;have M:=run_loadCells_list (P:=P) w ⟨p.co,p.off+o,none⟩ bY (λj v aG=>by rw[ps];exact PM b0 ab)
    rw[Z]at M;simp[loadVar,A,Fk aj,M]
   ·refine⟨.agg #[],?_,.agg (by rw[au];simpa using dq.nil)⟩;simp[loadVar,A,Fk aj,au,loadCells,loadCellsFrom]
  ·cases E
 ·obtain⟨rfl,A⟩:=h;have a9:=YP N;rw[iX]at a9;obtain⟨dF,dK,aG⟩:=D o v a9;refine⟨dF,?_,aG⟩;have V:=PM b0 dK;simp[loadVar,A,V]
structure afa (w ba:World) (g:Nat) (c:Array X) (e:TypeId) (fi:Nat × Nat):Prop where
 heap:ba.heap[g]? = some (.cells c e fi)
 size:ba.heap.size=w.heap.size
 frame:∀k,k≠g->ba.heap[k]? = w.heap[k]?
 os:ba.os=w.os
 tape:qT w ba
 output:ba.output=w.output
theorem aiP(w:World)(g i:Nat)(A:Array X)(e:TypeId)(D:Nat × Nat)(v:X)(E:w.heap[g]? = some (.cells A e D)):
  afa w (w.setCell ⟨g,i,none⟩ v) g (A.setIfInBounds i v) e D:=by
 refine⟨?_,by simp[World.setCell],λk I=>?_,rfl,.here,rfl⟩
 ·simp[World.setCell,I7,E]
 ·simp[World.setCell,I7,kB I]
theorem Wm{az:Type}(l:aa az)(k:Nat)(v:az)(A:aa az)(h:k+A.length+1<=l.length):
  (l.set k v).take (k+1)++A++(l.set k v).drop (k+1+A.length)=l.take k++(v::A)++l.drop (k+(A.length+1)):=by
 have E:(l.set k v).take (k+1)=l.take k++[v]:=by
  apply pj;intro j;simp only[xO,B8,ql,vY]
  grind
 have D:(l.set k v).drop (k+1+A.length)=l.drop (k+(A.length+1)):=by
  apply pj
  grind
 grind
theorem NT(P:Program)(g o:Nat)(e:TypeId)(ao aj:Nat):∀(aF:aa X) (i:Nat) (A:Array X) (w:World),w.heap[g]? = some (.cells A e (ao,aj))->(ao<aj->A.size<=ao) ->
  o+i+aF.length<=A.size->(∀v∈aF,v.oneCell'=true) ->
  ∃ba,(storeCells ⟨g,o,none⟩ aF i).run P w = .ok () ba/\afa w ba g (A.toList.take (o+i)++aF++A.toList.drop (o+i+aF.length)).toArray e (ao,aj)
 | [],i,A,w,N,_,_,_=>by refine⟨w,rfl,⟨?_,rfl,ab,rfl,.here,rfl⟩⟩;simp[N]
 |v::I,i,A,w,N,jg,bA,h1=>by
  have ct:o+i<A.size:=ab
  have M:w.cell? ⟨g,o+i,none⟩=some A[o+i]:=by simp[World.cell?,N,ct]
  have V:w.frozen? ⟨g,o+i,none⟩=false:=by
   simp only[World.frozen?,N]
   grind
  have D:=aiP w g (o+i) A e (ao,aj) v N;obtain⟨ba,Z,E⟩:=NT P g o e ao aj I (i+1) (A.setIfInBounds (o+i) v) (w.setCell ⟨g,o+i,none⟩ v) D.heap ab ab ab;refine⟨ba,?_,?_⟩
  ·simp only[storeCells,Sem.run_bind];rw[ps,run_store P w _ v _ ab,M];simp[V,Z]
  ·refine⟨?_,E.size.trans D.size,λk hk=>(E.frame k hk).trans (D.frame k hk),E.os.trans D.os,D.tape.trans E.tape,E.output.trans D.output⟩;rw[E.heap]
   congr 3
   have:=Wm A.toList (o+i) v I J;simpa[Array.toList_setIfInBounds,v5]using this
theorem Jz{P:Program}{B:Nat}{ai:b5}{h:ae}{w:World}(bb:d9 B ai (u h) w){o:Nat}(U:Nat)(aO:ai b=some p)(I:qq h b o l = .ok ac)(bA:dq ai l bY):
  ∃ba,(storeCells ⟨p.co,p.off+o,none⟩ bY).run P w = .ok () ba/\cx B ai (u h) w U U ai (u ac) ba:=by
 obtain⟨cs,ro,a1,I⟩:=Fr I;cases ro with
 |true=>cases I
 |false =>
  have I:(bif ee l then R.of "write - out of block" (nh l cs o) (λcs=>.ok (F h b (.cells cs false)))else .no "write - cells")=R.ok ac:=I;rcases M:ee l with _|_
  ·rw[M]at I;cases I
  rw[M]at I;have Lm:∀v∈bY,v.oneCell'=true:=λv N=>XD (N6 bA M v N);obtain⟨tP,A,I⟩:=R.kX I;cases I;have Z:=bb.obj b p _ aO a1;obtain⟨en,au,c,e,ao,aj,h1,ap,aM,bc⟩:=Z;rw[tp]at A
  split at A
  ·rename_i dO
   cases A;have gz:=bA.length;obtain⟨ba,tD,D⟩:=NT P p.co (p.off+o) e ao aj bY 0 c w h1 J J Lm;refine⟨ba,tD,?_⟩;rw[uO];refine cx.change U bb aO a1 en D.size D.frame D.os D.tape D.output ?_;refine⟨en,au,_,e,ao,aj,D.heap,?_,?_,?_⟩
   ·grind
   ·intro i v N;simp only[iV,au,nS]at *
    have M:cs.length<=c.size:=J
    simp only[B8,ql,xN,xO,List.getElem?_toArray,EW,Array.getElem?_toList,jd]at N ⊢;rcases h8 i o with hio|hio
    ·simp only[show i<min o cs.length by omega,if_true,hio]at N;obtain⟨dF,V,E⟩:=aM i v N;rw[iV]at V;exact⟨dF,ab,E⟩
    ·rcases h8 i (o+l.length)with vo|vo
     ·simp only[show ¬i<min o cs.length by omega,ff,show i-min o cs.length<l.length by omega,if_true]at N;obtain⟨dF,V,E⟩:=bA.get N;refine⟨dF,?_,E⟩
      grind
     ·simp only[show ¬i<min o cs.length by omega,ff,show ¬i-min o cs.length<l.length by omega]at N;obtain⟨dF,V,E⟩:=aM i v ab;refine⟨dF,?_,E⟩
      grind
   grind
  ·cases A
theorem Ga{a b:IntKind}:mm a b=true↔a=b:=by cases a <;> cases b <;> decide
theorem wg(a:IntKind):mm a a=true:=Ga.2 rfl
theorem oE(a b:Nat):Nat.blt a b=decide (a<b):=by rw[zK];simp[v6]
theorem x5{a b:Int}:f2 a b=true↔a=b:=by
 cases a <;> cases b <;> simp[f2]
 all_goals omega
theorem kT(a b:Int):f2 a b=(a == b):=by rw[zK,x5];simp
theorem aml{a b:Int}:lk a b=true↔a<b:=by
 cases a with
 |ofNat m=>cases b with
  |ofNat n=>show Nat.blt m n=true↔_;rw[oE];simp
  |negSucc n=>show false=true↔_;grind
 |negSucc m=>cases b with
  |ofNat n=>show true=true↔_;grind
  |negSucc n=>show Nat.blt n m=true↔_;rw[oE];grind
theorem re(a b:Int):lk a b=decide (a<b):=by rw[zK,aml];simp
theorem Kd{k:IntKind}{n:Int}(A:k.min<=n)(D:n<=k.max):k.wrap n=n:=by
 cases k <;> simp[IntKind.min,IntKind.max,IntKind.signed,IntKind.bits]at A D <;> simp[IntKind.wrap,IntKind.signed,IntKind.bits] <;> omega <;> omega
theorem nT(k:IntKind)(n:Int):tw k n=k.wrap n:=by
 cases n with
 |ofNat a =>
  show(bif Nat.blt a (yz k)then Int.ofNat a else k.wrap (.ofNat a))=_;cases h:Nat.blt a (yz k)with
  |false=>rfl
  |true =>
   have ac:a<yz k:=by simpa[oE]using h
   refine(Kd ?_ ?_).symm
   ·cases k <;> simp[IntKind.min,IntKind.signed,IntKind.bits] <;> omega
   ·cases k <;> simp[yz]at ac <;> simp[IntKind.max,IntKind.signed,IntKind.bits] <;> omega
 |negSucc a =>
  show(bif Nat.blt a (G8 k)then Int.negSucc a else k.wrap (.negSucc a))=_;cases h:Nat.blt a (G8 k)with
  |false=>rfl
  |true =>
   have ac:a<G8 k:=by simpa[oE]using h
   refine(Kd ?_ ?_).symm
   ·cases k <;> simp[G8]at ac <;> simp[IntKind.min,IntKind.signed,IntKind.bits] <;> omega
   ·cases k <;> simp[IntKind.max,IntKind.signed,IntKind.bits] <;> omega
theorem Cx{k:Nat->R e6}{x:e6}(h:rt v k = .ok x):∃q n,v = .int q (.ofNat n)/\k n = .ok x:=by
 unfold rt at h
 split at h
 ·rename_i q n
  cases n with
  |ofNat n=>grind
  |negSucc n=>cases h
 grind
theorem bF.tq{ai:b5}{k:IntKind}{n:Int}(h:bF ai (.int k n) c):c = .int k n:=by cases h;rfl
theorem bF.FM{ai:b5}{b:al}(h:bF ai (.bool b) c):c = .bool b:=by cases h;rfl
theorem XE{ai:b5}:∀{l bY:aa X},hU l=true->dq ai l bY->bY=l
 |_,_,_,.nil=>rfl
 |x::xs,_,h,.cons D A=>by simp[hU]at h;rw[zS h.1 D,XE h.2 A]
theorem uF{ai:b5}(h:hU (dj v)=true)(D:bF ai v c):c=v:=by
 cases D with
 |agg A=>rw[XE (by simpa[dj]using h) A]
 |_=>exact zS (ai:=ai) (by simpa[dj,hU]using h) (by constructor <;> omega)
theorem aj7{a b:Lit}:RM a b=true↔a=b:=by
 cases a <;> cases b <;> simp[RM,Ga,x5]
theorem WP:∀{a b:aa Lit},Af a b=true↔a=b
 | [],[]=>by simp[Af]
 | [],_::_=>by simp[Af]
 |_::_,[]=>by simp[Af]
 |x::xs,y::A=>by simp[Af,aj7,WP]
theorem wh{P:Program}{r:al}(h:sB P t x y=some r):
  P.keyTypeAt 8 t=true/\x.formed P t=true/\y.formed P t=true/\hU (dj x)=true/\hU (dj y)=true /\
   ∃D A,P.keyLits 8 t (dj x)=some D/\P.keyLits 8 t (dj y)=some A/\(r=true↔D=A):=by
 unfold sB at h;cases E:(P.keyTypeAt 8 t&&(x.formed P t&&y.formed P t&&hU (dj x)&&hU (dj y)))with
 |false=>grind
 |true =>
  rw[E]at h;simp only[eB]at E;obtain⟨N,⟨⟨Z,aM⟩,bc⟩,V⟩:=E;refine⟨N,Z,aM,bc,V,?_⟩;simp only[qm]at h;cases I:P.keyLits 8 t (dj x)with
  |none=>rw[I]at h;cases h
  |some D =>
   cases M:P.keyLits 8 t (dj y)with
   |none=>rw[I,M]at h;cases h
   |some A =>
    rw[I,M]at h;cases h;exact⟨D,A,rfl,rfl,WP⟩
theorem Jq(v:X):dj v=v.cells.toList:=by cases v <;> rfl
theorem aaO{P:Program}{r:al}(h:sB P t x y=some r)(d:Nat)(w:World):(Op.equalIn (d+8) t x y).run P w = .ok r w:=by
 obtain⟨D,E,A,_,_,I,M,Z,V,aj⟩:=wh h;obtain⟨xq,N,dm⟩:=run_equalIn_deep d 8 t D w 8 8 x y I M E A (by rw[<-Jq];omega) (by rw[<-Jq];omega)
 grind
theorem xV{P:Program}{r:al}(h:kV P t x y=some r):hU (dj x)=true/\hU (dj y)=true:=by
 unfold kV at h
 split at h
 ·unfold KE at h
  split at h
  ·exact⟨rfl,rfl⟩
  grind
 ·obtain⟨_,_,_,D,A,_⟩:=wh h;grind
theorem ah2{P:Program}(h:OZ P t=true):P.underlying t=some .bool:=by unfold OZ at h;grind
theorem ah9{P:Program}(h:wn P t=true):∃e,P.underlying t=some (.pointer e):=by unfold wn at h;grind
theorem NW{P:Program}(h:m9 P t=true):∃e,P.underlying t=some (.slice e):=by unfold m9 at h;grind
theorem N4{P:Program}(h:rk P t=true):∃k e,P.underlying t=some (.map k e):=by unfold rk at h;grind
theorem Wp{P:Program}(h:wm P t=true):∃k,P.underlying t=some (.int k):=by unfold wm at h;grind
theorem tk{az:Type}{b:al}{x:aw az}{r:az}(h:(bif b then x else none)=some r):b=true/\x=some r:=ab
theorem jF{az:Type}{b:al}{x:R az}{s:String}{r:az}(h:(bif b then x else .no s) = .ok r):b=true/\x = .ok r:=ab
theorem FN{az:Type}{b:al}{x:R az}{s:String}{r:az}(h:(bif b then .no s else x) = .ok r):b=false/\x = .ok r:=ab
theorem apU{P:Program}(A:P.underlying t=some (.pointer e))(d:Nat)(b:aw Addr)(w:World):(Op.equalIn (d+1) t (.pointer none) (.pointer b)).run P w = .ok b.isNone w:=by
 cases b <;> simp[Op.equalIn,run_underlying A]
theorem apV{P:Program}(A:P.underlying t=some (.pointer e))(d:Nat)(a:Addr)(w:World):(Op.equalIn (d+1) t (.pointer (some a)) (.pointer none)).run P w = .ok false w:=by simp[Op.equalIn,run_underlying A]
theorem atP{P:Program}(D:P.underlying t=some (.slice e))(d:Nat)(l c:Nat)(b:aw Addr)(bY A:Nat)(w:World):(Op.equalIn (d+1) t (.slice none l c) (.slice b bY A)).run P w = .ok b.isNone w:=by
 cases b <;> simp[Op.equalIn,run_underlying D]
theorem atQ{P:Program}(D:P.underlying t=some (.slice e))(d:Nat)(a:Addr)(l c:Nat)(bY A:Nat)(w:World):(Op.equalIn (d+1) t (.slice (some a) l c) (.slice none bY A)).run P w = .ok false w:=by simp[Op.equalIn,run_underlying D]
theorem apW{P:Program}{k:TypeId}(A:P.underlying t=some (.map k e))(d:Nat)(b:aw Nat)(w:World):(Op.equalIn (d+1) t (.map none) (.map b)).run P w = .ok b.isNone w:=by
 cases b <;> simp[Op.equalIn,run_underlying A]
theorem apX{P:Program}{k:TypeId}(A:P.underlying t=some (.map k e))(d:Nat)(a:Nat)(w:World):(Op.equalIn (d+1) t (.map (some a)) (.map none)).run P w = .ok false w:=by simp[Op.equalIn,run_underlying A]
theorem YQ{P:Program}{ai:b5}{r:al}(h:oP P t x y=some r)(D:bF ai x dG)(E:bF ai y ic)(w:World):
  (Op.equal t dG ic).run P w = .ok r w:=by
 unfold oP at h
 split at h
 ·obtain⟨I,h⟩:=tk h;have A:=ah2 I;unfold agv at h
  split at h
  ·cases h;rw[D.FM,E.FM];exact run_equal_bool w t _ _ A
  grind
 ·obtain⟨I,h⟩:=tk h;obtain⟨e,A⟩:=ah9 I;unfold G9 at h
  split at h
  ·split at h
   ·cases h;cases D;cases E <;> exact apU A 9999 _ w
   ·cases h;cases D;cases E;exact apV A 9999 _ w
   grind
  grind
 ·obtain⟨I,h⟩:=tk h;obtain⟨e,A⟩:=NW I;unfold Si at h
  split at h
  ·split at h
   ·cases h;cases D;cases E <;> exact atP A 9999 _ _ _ _ _ w
   ·cases h;cases D <;> cases E <;> exact atQ A 9999 _ _ _ _ _ w
   grind
  grind
 ·obtain⟨I,h⟩:=tk h;obtain⟨k,e,A⟩:=N4 I;unfold agw at h
  split at h
  ·split at h
   ·cases h;cases D;cases E <;> exact apW A 9999 _ w
   ·cases h;cases D;cases E;exact apX A 9999 _ w
   grind
  grind
 ·obtain⟨_,h⟩:=tk h;obtain⟨_,_,_,N,M,_⟩:=wh h;rw[uF N D,uF M E];exact aaO h 9992 w
 grind
theorem zV{b:al}(h:nX b = .ok v):v = .bool b:=by cases h;rfl
theorem rl{k:IntKind}{n:Int}(h:iZ k n = .ok v):v = .int k n:=by cases h;rfl
theorem amm(a b:Int):(!lk b a)=decide (a<=b):=by rw[re,zK];simp
theorem apY(a b:Int):(!f2 a b)=(a != b):=by rw[kT];rfl
theorem apZ{P:Program}{op:BinOp}{k:IntKind}{a b:Int}(t:TypeId)(D:x4 op=false)(h:DH op k a b = .ok v)(w:World):
  (binOp op t (.int k a) (.int k b)).run P w = .ok v w:=by
 cases op <;> simp only[DH,x4]at h D
 all_goals first
  |(cases D;done)
  |(rw[rl h,nT];simp[binOp,Op.intArith];done)
  |(rw[rl h,nT];simp[binOp,Op.intArith];rfl)
  |(rw[zV h];simp[binOp,Op.intCmp,re,kT];done)
  |(rw[zV h,amm];simp[binOp,Op.intCmp];done)
  |(rw[zV h,apY];simp[binOp,Op.intCmp];done)
  |skip
 all_goals first
  |(simp only[Dh]at h;obtain⟨E,I⟩:=FN h;have A:¬b=0:=(by rw[kT]at E;grind);rw[rl I];simp[binOp,Op.intDiv,A,nT];done)
  |(simp only[GO]at h;rw[rl h];simp[binOp,Op.intBits];done)
  |(simp only[GO]at h;cases h;done)
theorem amn{P:Program}{op:BinOp}{k:IntKind}{a b:Int}(t:TypeId)(h:AG op k a di b = .ok v)(w:World):
  (binOp op t (.int k a) (.int di b)).run P w = .ok v w:=by
 unfold AG at h;cases A:x4 op with
 |true =>
  rw[A]at h;simp only[qm,wt]at h;obtain⟨N,D⟩:=FN h;have I:¬b<0:=by rw[re]at N;grind
  cases op <;> simp only[x4]at A
  all_goals first
   |(cases A;done)
   |(rw[rl D];simp[binOp,Op.shift,I,nT];done)
 |false =>
  rw[A]at h;simp only[mH]at h;obtain⟨M,D⟩:=jF h;have E:=Ga.1 M;rw[<-E];exact apZ t A D w
def mR(P:Program)(ai:b5)(v:X)(s:Sem X):Prop:=∃c,bF ai v c/\∀w,s.run P w = .ok c w
def GC:X->al
 | .bool _=>true | .pointer _=>true | .slice _ _ _=>true | .map _=>true | .agg _=>true|_=>false
theorem binOp_eql{a b:X}(h:GC a=true):binOp .eql t a b=(do pure (.bool (<-Op.equal t a b))):=by
 cases a <;> first|(cases h;done)|(cases b <;> rfl)
theorem binOp_neq{a b:X}(h:GC a=true):binOp .neq t a b=(do pure (.bool (!(<-Op.equal t a b)))):=by
 cases a <;> first|(cases h;done)|(cases b <;> rfl)
def QX:X->al
 | .nilIface=>false | .agg _=>false|_=>true
theorem Fh{P:Program}{op:BinOp}{x y:Operand}{a b:X}(h:QX a=true)(w:World):(eqGuard op t x y a b).run P w = .ok () w:=by
 cases a <;> first|(cases h;done)|(cases op <;> simp[eqGuard])
theorem aik{P:Program}{op:BinOp}{x y:Operand}{a:Array X}{b:X}(h:F5 P t=true)(w:World):(eqGuard op t x y (.agg a) b).run P w = .ok () w:=by
 have ac:P.eqGuardType P.depth t=false:=by simpa[F5]using h
 cases b <;> cases op <;> simp[eqGuard,ac]
theorem bF.other{ai:b5}(h:bF ai x c):GC c=GC x:=by cases h <;> rfl
theorem bF.KX{ai:b5}(h:bF ai x c):QX c=QX x:=by cases h <;> rfl
section
variable {P:Program} {ai:b5}
theorem ap0{op:BinOp}{k:IntKind}{a b:Int}(h:AG op k a di b = .ok v):bF ai v v:=by
 have D:∀{k n},iZ k n = .ok v->bF ai v v:=λh=>by rw[rl h];exact .int _ _
 have I:∀{b},nX b = .ok v->bF ai v v:=λh=>by rw[zV h];exact .bool _
 unfold AG at h;cases E:x4 op with
 |true =>
  rw[E]at h;simp only[qm,wt]at h;obtain⟨_,A⟩:=FN h;cases op <;> simp only[]at A <;> first|exact D A|(cases A;done)
 |false =>
  rw[E]at h;simp only[mH]at h;obtain⟨_,A⟩:=jF h;cases op <;> simp only[DH,Dh,GO]at A
  all_goals first
   |exact D A
   |exact I A
   |(cases A;done)
   |(obtain⟨_,M⟩:=FN A;exact D M)
theorem WQ{b:al}(h:oP P t x y=some b):GC x=true:=by
 unfold oP at h
 split at h <;> first|rfl|(cases h;done)
theorem WR{b:al}(h:oP P t x y=some b)(A:bF ai x dG)(op:BinOp)(E D:Operand)(ic:X)(w:World):(eqGuard op t E D dG ic).run P w = .ok () w:=by
 unfold oP at h
 split at h
 ·exact Fh A.KX w
 ·exact Fh A.KX w
 ·exact Fh A.KX w
 ·exact Fh A.KX w
 ·obtain⟨I,_⟩:=tk h;cases A with
  |agg M=>exact aik I w
 grind
theorem ap1{op:BinOp}(M I:Operand)(h:bin P op t x y = .ok v)(A:bF ai x dG)(E:bF ai y ic):
  mR P ai v (do eqGuard op t M I dG ic;binOp op t dG ic):=by
 unfold bin at h
 split at h
 ·unfold agy at h
  split at h
  ·rw[A.tq,E.tq];refine⟨v,ap0 h,λw=>?_⟩;rw[Sem.run_bind,Fh rfl];exact amn t h w
  ·cases h
 ·unfold agx at h
  split at h
  ·obtain⟨b,D,h⟩:=R.kX h;rw[zV h];refine⟨_,.bool _,λw=>?_⟩;rw[Sem.run_bind,WR D A,binOp_eql (by rw[A.other];exact WQ D)];simp[YQ D A E]
  ·obtain⟨b,D,h⟩:=R.kX h;rw[zV h];refine⟨_,.bool _,λw=>?_⟩;rw[Sem.run_bind,WR D A,binOp_neq (by rw[A.other];exact WQ D)];simp[YQ D A E]
  ·cases h
theorem ap2{op:UnOp}(h:dv op x = .ok v)(A:bF ai x dG):mR P ai v (Op.unary op dG):=by
 unfold dv at h
 split at h
 ·rw[A.FM]
  split at h
  ·rw[zV h];exact⟨_,.bool _,λw=>rfl⟩
  ·cases h
 ·rw[A.tq]
  split at h
  ·rw[rl h,nT];exact⟨_,.int _ _,λw=>rfl⟩
  ·rw[rl h];exact⟨_,.int _ _,λw=>rfl⟩
  ·cases h
 ·cases h
theorem aj8{s d:TypeId}{j9 A:TypeDesc}(D:P.underlying s=some j9)(E:P.underlying d=some A)(h:qt A x = .ok v)(I:bF ai x dG):mR P ai v (convert s d dG):=by
 unfold qt at h
 split at h
 ·rw[I.tq]
  split at h
  ·rw[rl h,nT];exact⟨_,.int _ _,λw=>by simp[convert,run_underlying D,run_underlying E,Conv.intToInt]⟩
  ·cases h
 ·cases h
theorem aiQ(h:bx x = .ok v):v=x/\((∃a,x = .pointer (some a))\/(∃f a b,x = .func (.func f) a b)\/(∃f a b,x = .func (.yield f) a b)\/∃t y,x = .iface t y):=by
 unfold bx at h
 grind
theorem ap3(h:zQ P t=true)(D:bF ai x dG):mR P ai (.iface t x) (Instr.makeInterface t dG):=by
 unfold zQ at h
 split at h
 ·cases h
 ·rename_i d E A
  refine⟨_,.iface t D,λw=>?_⟩;cases d <;> first|(exact(E _ rfl).elim)|simp[Instr.makeInterface,run_underlying A]
 ·cases h
theorem ail{N:TypeId}(h:F9 P t ok x = .ok v)(V:bF ai x dG):mR P ai v (Instr.typeAssert dG N t ok):=by
 unfold F9 at h
 split at h
 ·obtain⟨I,h⟩:=jF h;cases h;simp only[eB]at I;obtain⟨A,D⟩:=I;cases gm D;cases V with
  | @iface _ _ E M =>
   refine⟨if ok then .tuple #[E,.bool true]else E,?_,λw=>?_⟩
   ·cases ok with
    |true=>exact .tuple (.cons M (.cons (.bool _) .nil))
    |false=>exact M
   unfold zQ at A
   split at A
   ·grind
   ·rename_i d bv Z
    cases d <;> first|(exact(bv _ rfl).elim)|simp[Instr.typeAssert,run_underlying Z]
   grind
 ·cases h
theorem aia(h:cp x i = .ok v)(E:bF ai x dG):mR P ai v (Instr.extract dG i):=by
 unfold cp at h
 split at h
 ·obtain⟨y,A,h⟩:=R.kX h;cases h;cases E with
  |tuple D =>
   rw[iX]at A;obtain⟨c,I,M⟩:=D.get A;refine⟨c,M,λw=>?_⟩;simp[Instr.extract,I]
 ·cases h
theorem YR{b:al}(h:min2 b x y = .ok v)(D:bF ai x dG)(A:bF ai y ic):mR P ai v (bif b then Builtin.min2 dG ic else Builtin.max2 dG ic):=by
 unfold min2 at h
 split at h
 ·split at h
  ·obtain⟨E,h⟩:=jF h;rw[D.tq,A.tq];cases b with
   |true =>
    simp only[qm]at h;rw[rl h,re];refine⟨_,.int _ _,λw=>?_⟩;simp only[qm,Builtin.min2]
    congr 2
    simp
   |false =>
    simp only[mH]at h;rw[rl h,re];refine⟨_,.int _ _,λw=>?_⟩;simp only[mH,Builtin.max2]
    congr 2
    simp
  ·cases h
 ·cases h
end
section
variable {P:Program} {ai:b5}
theorem QY{a:Nat}(h:Nat.blt a b=true):a<b:=by rw[oE]at h;grind
theorem Wz{s:Nat}(h:CN P t=some s):∃e,P.underlying t=some (.slice e)/\jI P e=some s:=by
 unfold CN at h
 grind
theorem Fl(k:IntKind)(n:Int)(w:World):(asIntOf (.int k n)).run P w = .ok (k,n) w:=rfl
theorem v7(k:IntKind)(n y:Nat)(code:BoundsCode)(h:n<=y)(w:World):(Instr.sliceBound (.int k (.ofNat n)) y code).run P w = .ok n w:=by simp[Instr.sliceBound,Fl,h]
theorem Ke{x:aw X}{n:Nat}(h:AH x d = .ok n):(x=none/\n=d)\/∃k,x=some (.int k (.ofNat n)):=by
 cases x with
 |none=>cases h;grind
 |some v =>
  obtain⟨q,m,rfl,A⟩:=Cx h
  grind
def ug(ai:b5)(x c:aw X):Prop:=match x,c with
 |none,none=>True
 |some v,some c=>bF ai v c
 |_,_=>False
theorem ug.none{c:aw X}(h:ug ai none c):c=none:=by cases c with|none=>rfl|some c=>exact h.elim
theorem ug.int{c:aw X}{k:IntKind}{n:Int}(h:ug ai (some (.int k n)) c):c=some (.int k n):=by cases c with|none=>exact h.elim|some c=>rw[bF.tq h]
theorem aiR{ao aj:aw X}(rY:ug ai ao d2)(D:ug ai aj dm)(E:ug ai iO LN){up A l:Nat}(h1:AH iO cap = .ok m)(ap:AH aj len = .ok A)(aM:AH ao 0 = .ok l)(Z:iO.isSome=true->aj.isSome=true)(bp:m<=cap)(I:A<=m)(N:l<=A)(w:World):
  (Instr.sliceBounds true len (cap+up) d2 dm LN).run P w = .ok (l,A,if iO.isSome then m else cap+up) w:=by
 rcases Ke h1 with⟨rfl,rfl⟩|⟨mk,rfl⟩ <;> rcases Ke ap with⟨rfl,rfl⟩|⟨M,rfl⟩ <;> rcases Ke aM with⟨rfl,rfl⟩|⟨V,rfl⟩
 ·rw[rY.none,D.none,E.none];simp only[Instr.sliceBounds,Sem.run_bind,Sem.run_pure,Result.andThen_ok,Ca,nP,ff]
 ·rw[rY.int,D.none,E.none];simp only[Instr.sliceBounds,Sem.run_bind,Sem.run_pure,Result.andThen_ok,Ca,nP,ff,v7 V l A _ N w]
 ·rw[rY.none,D.int,E.none];simp only[Instr.sliceBounds,Sem.run_bind,Sem.run_pure,Result.andThen_ok,Ca,nP,ff,if_true,v7 M A (m+up) _ J w]
 ·rw[rY.int,D.int,E.none];simp only[Instr.sliceBounds,Sem.run_bind,Sem.run_pure,Result.andThen_ok,Ca,nP,ff,if_true,v7 M A (m+up) _ J w,v7 V l A _ N w]
 ·grind
 ·grind
 ·rw[rY.none,D.int,E.int];simp only[Instr.sliceBounds,Sem.run_bind,Sem.run_pure,Result.andThen_ok,NJ,if_true,v7 mk m (cap+up) _ J w,v7 M A m _ I w]
 ·rw[rY.int,D.int,E.int];simp only[Instr.sliceBounds,Sem.run_bind,Sem.run_pure,Result.andThen_ok,NJ,if_true,v7 mk m (cap+up) _ J w,v7 M A m _ I w,v7 V l A _ N w]
theorem uH(I:P.underlying t=some (.slice e)){s:Nat}(E:jI P e=some s)(A:aw Addr)(len cap:Nat)(ao aj iO:aw X){l h:Nat}{w:World}(D:(Instr.sliceBounds true len cap ao aj iO).run P w = .ok (l,h,m) w):
  (Instr.sliceAt t (.slice A len cap) ao aj iO).run P w = .ok (.slice (if m=l then A else A.map (·.add (l*s))) (h-l) (m-l)) w:=by simp[Instr.sliceAt,Instr.slice,run_underlying I,D,kg E]
theorem ap4{ao aj:aw X}(rY:ug ai ao d2)(aCL:ug ai aj dm)(Vp:ug ai iO LN){s:Nat}(aq:CN P t=some s)(h:gS s x ao aj iO = .ok v)(aY:bF ai x dG):mR P ai v (Instr.sliceAt t dG d2 dm LN):=by
 obtain⟨e,N,A⟩:=Wz aq;unfold gS at h
 split at h
 ·rename_i bk len cap
  obtain⟨hmh,h⟩:=jF h;obtain⟨m,h1,h⟩:=R.fd h;obtain⟨M,ap,h⟩:=R.fd h;obtain⟨l,aM,h⟩:=R.fd h;obtain⟨a1,h⟩:=jF h;simp only[eB]at a1;obtain⟨bp,Th,bA⟩:=a1;have bp:=ma bp;have Th:=ma Th;have bA:=ma bA;have ayC:iO.isSome=true->aj.isSome=true:=ab
  have B:∀up w,_:=λup w=>aiR (P:=P) (up:=up) rY aCL Vp h1 ap aM ayC bp Th bA w;have Ti:iO.isSome=false->m=cap:=λaY=>by
   rcases Ke h1 with⟨rfl,rfl⟩|⟨k,rfl⟩
   all_goals grind
  unfold uX at h;cases V:Nat.beq m l with
  |true =>
   have E:=gm V;subst E;have hhm:M=m:=J
   subst hhm;rw[V]at h;simp only[qm]at h;unfold kU at h;cases D:(z6 bk&&!iO.isSome)with
   |true =>
    rw[D]at h;cases h;simp only[eB,NK]at D;have rx:=Ti D.2;subst rx;cases aY with
    | @oG b o lx p Z bP _ _ =>
     by_cases n5:p.spare=0
     ·refine⟨_,.oH b o p.co (p.off+o) 0,λw=>?_⟩;rw[uH N A _ _ _ _ _ _ (B p.spare w)]
      grind
     ·refine⟨_,.oH b o p.co (p.off+o+M*s) p.spare,λw=>?_⟩;rw[uH N A _ _ _ _ _ _ (B p.spare w)];simp[D.2,n5,ps]
    |oH b o g a0 c =>
     refine⟨_,.oH b o g a0 c,λw=>?_⟩;have:=uH N A (some ⟨g,a0,none⟩) _ _ _ _ _ (B c w);simp only[iV]at this;rw[this];simp[D.2,ps]
    |rc=>cases D.1
    |kU=>cases D.1
   |false =>
    rw[D]at h;simp only[mH]at h;obtain⟨cL,h⟩:=FN h;cases h;cases aY with
    |rc =>
     refine⟨_,.rc _ _,λw=>?_⟩;have:=uH N A none _ _ _ _ _ (B 0 w)
     grind
    | @kU b o p Z _ _ =>
     refine⟨.slice (some ⟨p.co,p.off+(o+0),none⟩) (Nat.sub M M) (Nat.sub M M),?_,λw=>?_⟩
     ·cases I:iO.isSome <;> exact .kU Z _ _
     ·have:=uH N A (some ⟨p.co,p.off+o,none⟩) _ _ _ _ _ (B 0 w)
      grind
    | @oG b o lx p Z bP _ _ =>
     have awm:iO.isSome=true:=by simpa[z6]using D
     refine⟨.slice (some ⟨p.co,p.off+(o+0),none⟩) (Nat.sub M M) (Nat.sub M M),?_,λw=>?_⟩
     ·simp only[awm];exact .kU Z _ _
     ·rw[uH N A _ _ _ _ _ _ (B p.spare w)]
      grind
    |oH=>cases cL
  |false =>
   have E:=Nat.ne_of_beq_eq_false V;rw[V]at h;simp only[mH]at h;cases h;cases aY with
   |rc =>
    refine⟨_,.rc _ _,λw=>?_⟩;have:=uH N A none _ _ _ _ _ (B 0 w)
    grind
   | @kU b o p Z _ _ =>
    refine⟨.slice (some ⟨p.co,p.off+(o+l*s),none⟩) (M-l) (m-l),?_,λw=>?_⟩
    ·cases I:iO.isSome <;> exact .kU Z _ _
    ·have:=uH N A (some ⟨p.co,p.off+o,none⟩) _ _ _ _ _ (B 0 w);simp only[nS]at this;rw[this];cases I:iO.isSome with
     |true=>simp[E,ps,v5]
     |false=>have:=Ti I;subst this;simp[E,ps,v5]
   | @oG b o lx p Z bP _ _ =>
    cases I:iO.isSome with
    |true =>
     refine⟨.slice (some ⟨p.co,p.off+(o+l*s),none⟩) (M-l) (m-l),?_,λw=>?_⟩
     ·exact .kU Z _ _
     ·rw[uH N A _ _ _ _ _ _ (B p.spare w)];simp[I,E,ps,v5]
    |false =>
     have ayD:=Ti I;subst ayD;refine⟨.slice (some ⟨p.co,p.off+(o+l*s),none⟩) (M-l) (m-l+p.spare),?_,λw=>?_⟩
     ·exact .oG Z bP _ _
     ·rw[uH N A _ _ _ _ _ _ (B p.spare w)];have:¬m+p.spare=l:=J
      simp[I,this,ps,v5];omega
   |oH=>omega
 ·cases h
theorem bF.aaP{o:Nat}(h:bF ai (.pointer (some ⟨b,o,aS⟩)) c):∃p,ai b=some p/\aS=none/\c = .pointer (some ⟨p.co,p.off+o,none⟩):=by
 cases h with
 |ptr h=>grind
theorem JQ{o n:Nat}(h:ai b=some p):bF ai (C5 ⟨b,o,aS⟩ n) (.pointer (some ⟨p.co,p.off+o+n,none⟩)):=by rw[show p.off+o+n=p.off+(o+n) by omega];exact .ptr h
theorem Wq{f:Nat × TypeId}(h:Cw P t i=some f):
  ∃A vk n,P.underlying t=some (.struct A)/\A[i]? = some vk/\f=(vk.offset,vk.type)/\jI P vk.type=some (n+1):=by
 unfold Cw at h
 split at h
 ·rename_i A E
  split at h
  ·rename_i vk D
   split at h
   ·rename_i n I
    cases h;rw[iX]at D
    grind
   grind
  grind
 grind
theorem aim{f:Nat × TypeId}{a:Addr}(h:Cw P t i=some f)(D:bF ai (.pointer (some a)) dG):mR P ai (C5 a f.1) (Instr.fieldAt t dG i):=by obtain⟨N,vk,n,I,A,rfl,M⟩:=Wq h;obtain⟨b,o,aS⟩:=a;obtain⟨p,E,rfl,rfl⟩:=D.aaP;refine⟨_,JQ E,λw=>?_⟩;simp[Instr.fieldAt,run_underlying I,A,Instr.sureAddr,fieldPlace,kg M,ps]
theorem YS(E:px P e=some bO)(h:hV bO off l = .ok v)(M:dq ai l bY):mR P ai v (part e ⟨bY⟩ off):=by
 obtain⟨i,d,aj,Z,ac | ac⟩:=WO E
 ·obtain⟨n,rfl,rfl,D⟩:=ac;obtain⟨k,A,rfl⟩:=YO h;rw[ri,sd]at A
  split at A
  ·cases A;refine⟨.agg ⟨(bY.drop off).take i.size⟩,.agg ((M.drop _).take _),λw=>?_⟩;simp[part,D,Fk aj]
  ·cases A
 ·obtain⟨rfl,D⟩:=ac;have I:=YP h;rw[iX]at I;obtain⟨c,N,V⟩:=M.get I;refine⟨c,V,λw=>?_⟩;simp[part,D,N]
theorem amo{f:Nat × TypeId}(M:Cw P t i=some f)(D:px P f.2=some bO)(h:va f.1 bO x = .ok v)(N:bF ai x dG):mR P ai v (Instr.field t dG i):=by
 obtain⟨dw,vk,n,Z,A,rfl,bv⟩:=Wq M;unfold va at h
 split at h
 ·cases N with
  |agg E =>
   obtain⟨c,V,I⟩:=YS D h E;refine⟨c,V,λw=>?_⟩;simp[Instr.field,run_underlying Z,A,asAgg,I w]
 ·cases h
theorem XF{k:wV}(h:Lf P t=some k):(∃e s,P.underlying t=some (.slice e)/\jI P e=some s/\k = .slice s)\/∃n e s,P.underlying t=some (.array n e)/\jI P e=some s/\k = .array n s:=by
 unfold Lf at h
 grind
theorem ahX{k:wV}(V:Lf P t=some k)(h:xX k x i = .ok v)(Z:bF ai x dG):
  mR P ai v (Instr.indexAt t dG (.int q (.ofNat i))):=by
 unfold xX at h
 split at h
 ·split at h
  ·rename_i s
   obtain⟨A,h⟩:=jF h;have A:=QY A;cases h;rcases XF V with⟨e,N,I,E,D⟩|⟨n,e,N,I,E,D⟩
   ·cases D;cases Z with
    |kU M =>
     refine⟨_,JQ M,λw=>?_⟩;simp[Instr.indexAt,Fl,run_underlying I,A,kg E,ps]
    |oG M D =>
     refine⟨_,JQ M,λw=>?_⟩;simp[Instr.indexAt,Fl,run_underlying I,A,kg E,ps]
    |oH=>omega
   ·cases D
  ·cases h
 ·split at h
  ·obtain⟨A,h1⟩:=jF h;have A:=QY A;cases h1;rcases XF V with⟨e,N,I,E,D⟩|⟨jR,e,N,I,E,D⟩
   ·cases D
   ·cases D;cases Z with
    |ptr M =>
     refine⟨_,JQ M,λw=>?_⟩;simp[Instr.indexAt,Fl,run_underlying I,A,kg E,ps,Instr.sureAddr]
  ·cases h
 ·cases h
theorem aiS(h:QU P t x i = .ok v)(aY:bF ai x dG):mR P ai v (Instr.index t dG (.int q (.ofNat i))):=by
 cases x <;> simp only[QU]at h
 case agg cs =>
  cases E:P.underlying t with
  |none=>rw[E]at h;cases h
  |some d =>
   rw[E]at h;cases d <;> try(cases h;done)
   case array n e =>
    obtain⟨A,h1⟩:=jF h;have A:=QY A;obtain⟨bO,D,N⟩:=R.kX h1;obtain⟨s,aq,aM⟩:=R.kX N;cases aY with
    |agg M =>
     obtain⟨c,aG,Z⟩:=YS D aM M;refine⟨c,aG,λw=>?_⟩;have I:=Z w;have V:Nat.mul i s=i*s:=rfl;rw[V]at I;simp[Instr.index,Fl,run_underlying E,A,kg aq,I]
 all_goals (cases h;done)
theorem amp{M:TypeId}(A:ag[0]? = some t)(h:Hb P t x = .ok v)(D:bF ai x dG):mR P ai v (Builtin.cap_ ag M #[dG]):=by
 obtain⟨I,h⟩:=jF h;obtain⟨e,E⟩:=NW I;unfold agz at h
 split at h
 ·rw[rl h];cases D;exact⟨_,.int _ _,λw=>by simp[Builtin.cap_,A,run_underlying E,goInt]⟩
 ·rw[rl h];cases D;exact⟨_,.int _ _,λw=>by simp[Builtin.cap_,A,run_underlying E,goInt]⟩
 ·cases h
theorem zP(h:nU P t=some l):∃i z,P.info? t=some i/\i.zero=some z/\uW z=true/\l=z.cells.toList:=by
 unfold nU at h
 grind
theorem aib(h:Kc P t=some z):∃i,P.info? t=some i/\i.zero=some z/\uW z=true:=by
 unfold Kc at h
 grind
theorem x2{i:TypeInfo}(aj:P.info? t=some i)(A:i.zero=some z)(w:World):(zeroValue t).run P w = .ok z w:=by simp[zeroValue,typeInfo,aj,A]
theorem xU(h:uW z=true)(ai:b5):dq ai z.cells.toList z.cells.toList:=by have:=(Fj h ai).cells;rwa[Jq]at this
theorem aaQ(off:Nat):∀(l:aa X) (k:Nat) (cells:Array X),off+k+l.length<=cells.size ->
  ((l.zipIdx k).foldl (λcs (x:X × Nat)=>cs.setIfInBounds (off+x.2) x.1) cells).toList=cells.toList.take (off+k)++l++cells.toList.drop (off+k+l.length)
 | [],k,cells,_=>by simp
 |v::A,k,cells,h=>by simp only[List.zipIdx_cons,E4];rw[aaQ off A (k+1) (cells.setIfInBounds (off+k) v) ab];have:=Wm cells.toList (off+k) v A J;simpa[Array.toList_setIfInBounds,v5]using this
theorem dq.put{c A:aa X}(E:dq ai l bY)(D:dq ai c A)(o n:Nat):dq ai (c.take o++(l++c.drop n)) (A.take o++(bY++A.drop n)):=
 (D.take o).append (E.append (D.drop n))
def Loc(ai:b5)(ak:cc)(t:Array X)(l:Array Operand):Prop:=∀d v,Operand.tmp d∈l->hq ak d=some v->bF ai (rs v) (t.getD d undef)
theorem jk.loc{t:Array X}(h:jk ai ak t)(l:Array Operand):Loc ai ak t l:=λd v _=>h d v
theorem Loc.eg{a:Act}{l:Array Operand}(M:Loc ai ak a.tmps l){x:Operand}(N:x∈l){y:e7}(A:c3 x=some y)(h:ea ak y = .ok v):bF ai v (a.eval x):=by
 cases x with
 |tmp t =>
  cases A;unfold ea at h;cases D:hq ak t with
  |none=>simp only[D]at h;cases h
  |some o =>
   have:=M t o N D;cases o <;> simp only[D]at h <;> cases h <;> exact this
 |const c =>
  obtain⟨E,I⟩:=tk A;cases I;cases h;exact Fj E ai
 |global g=>cases A
 |func f=>cases A;cases h;exact .func f .nil .nil
theorem Loc.vp{ak:cc}{a:Act}{l:Array Operand}(E:Loc ai ak a.tmps l):∀{xs:aa Operand} {D:aa e7} {aF:aa X},(∀x∈xs,x∈l)->yP xs=some D->pF ak D = .ok aF->dq ai aF (xs.map a.eval)
 | [],D,aF,_,A,h=>by cases A;cases h;exact .nil
 |x::xs,D,aF,I,A,h=>by
  unfold yP at A
  split at A
  ·rename_i y ys' h1 N
   cases A;obtain⟨v,M,h⟩:=R.fd (show R.bind (ea ak y) _=_ from h);obtain⟨V,Z,h⟩:=R.fd h;cases h;exact .cons (E.eg (I x (by simp)) h1 M) (E.vp (λz cL=>I z ab) N Z)
  ·cases A
theorem Loc.Tj{a:Act}{l:Array Operand}(E:Loc ai ak a.tmps l){x:aw Operand}(M:∀y,x=some y->y∈l){y:aw e7}(A:Ht x=some y){v:aw X}(h:Ll ak y = .ok v):ug ai v (x.map a.eval):=by
 cases x with
 |none=>cases A;cases h;trivial
 |some x =>
  unfold Ht at A;cases D:c3 x with
  |none=>simp only[D]at A;cases A
  |some z =>
   simp only[D]at A;cases A;obtain⟨I,N,h⟩:=R.fd (show R.bind (ea ak z) _=_ from h);cases h;exact E.eg (M _ rfl) D N
theorem JR{ak:cc}{a:Act}{a7:Array Operand}(eD:Loc ai ak a.tmps a7)(D:Nat->aw (Nat × Nat)):∀(E:aa (Nat × Operand)) (cs:aa (Nat × Nat × e7)) (aF:aa (Nat × Nat × X)) (cells A l:aa X),(∀x∈E,x.2∈a7) ->
  CO D E=some cs->GB ak cs = .ok aF->dq ai cells A->py aF cells = .ok l ->
  ∃bY,Instr.fill D ⟨A⟩ (E.map λx=>(x.1,a.eval x.2))=some ⟨bY⟩/\dq ai l bY
 | [],cs,aF,cells,A,l,_,a1,Z,bb,h=>by cases a1;cases Z;cases h;exact⟨A,rfl,bb⟩
 |(i,x)::xs,cs,aF,cells,A,l,bp,a1,Z,bb,h=>by
  unfold CO at a1
  split at a1
  ·rename_i p y r M hco V
   cases a1;obtain⟨v,aG,Z⟩:=R.fd (show R.bind (ea ak y) _=_ from Z);obtain⟨vs',Hz,Z⟩:=R.fd Z;cases Z;obtain⟨gz,aM⟩:=jF (show(bif Nat.beq (jr (dj v)) p.2 then R.of "fill" (nh (dj v) cells p.1) (py vs')else .no "fill - size") = .ok l from h);obtain⟨aA3,I,bc⟩:=R.kX aM;have w0:=(eD.eg (bp (i,x) (by simp)) hco aG).cells;have bv:p.2=(dj v).length:=(gm gz).symm;rw[tp]at I
   split at I
   ·rename_i dO
    cases I;have rB:=w0.length;have tQ:=bb.length;obtain⟨bY,N,Sm⟩:=JR eD D xs r vs' _ _ l (λz cL=>bp z ab) V Hz (w0.put bb p.1 (p.1+(dj v).length)) bc;refine⟨bY,?_,Sm⟩;obtain⟨off,sY⟩:=p;simp only at bv dO N;have M:D i=some (off,sY):=M;simp only[uB,Instr.fill,M];have:((a.eval x).cells.zipIdx.foldl (λcs (x:X × Nat)=>cs.setIfInBounds (off+x.2) x.1) (⟨A⟩:Array X))=⟨A.take off++((a.eval x).cells.toList++A.drop (off+(dj v).length))⟩:=by
     apply Array.ext';rw[<-zH,Array.toList_zipIdx,aaQ off _ 0 _ ab]
     grind
    grind
   ·cases I
  ·cases a1
theorem Wr:∀{D:aa Field} {A:aa (Nat × Nat)},JO P D=some A->∀w,(D.mapM λf=>(do pure (f.offset,<-sizeOf f.type):Sem (Nat × Nat))).run P w = .ok A w
 | [],A,h,w=>by cases h;rfl
 |f::D,A,h,w=>by
  unfold JO at h
  split at h
  ·rename_i s r E I
   cases h;have:=Wr I w;simp only[Cf,Sem.run_bind,kg E,Result.andThen_ok,Sem.run_pure,this]
  grind
theorem amq{a:Act}(eD:Loc ai ak a.tmps a7){A:Array (Nat × Operand)}(bp:∀x∈A.toList,x.2∈a7){xr:aa X}{pl:Nat->aw (Nat × Nat)}{cs:aa (Nat × Nat × e7)}{aF:aa (Nat × Nat × X)}(cL:nU P t=some xr)(D:PK P t=some pl)(a1:CO pl A.toList=some cs)(V:GB ak cs = .ok aF)(h:cU xr aF = .ok v):mR P ai v (Instr.build t (A.map λ(i,x)=>(i,a.eval x))):=by
 obtain⟨l,bE,aM⟩:=R.fd h;cases aM;obtain⟨i,z,aj,np,Z,rfl⟩:=zP cL;have N:(A.map λ(i,x)=>(i,a.eval x)).toList=A.toList.map λx=>(x.1,a.eval x.2):=by simp
 unfold PK at D
 split at D
 ·rename_i dw ej
  split at D
  ·rename_i b7 HA
   cases D;obtain⟨bY,M,I⟩:=JR eD (g3 b7) A.toList cs aF _ _ l bp a1 V (xU Z ai) bE;refine⟨_,.agg I,λw=>?_⟩;have Tk:=Wr  HA w;have D:(λi=>g3 b7 i)=(λi=>b7.toArray[i]?):=funext λi=>by rw[iX];simp
   have E:Instr.fill (λi=>b7.toArray[i]?) z.cells (A.map λ(i,x)=>(i,a.eval x)).toList=some ⟨bY⟩:=by rw[N,<-D];omega
   simp only[Instr.build,Sem.run_bind,x2 aj np,Result.andThen_ok,run_underlying ej];rw[Array.mapM_eq_mapM_toList];simp only[Sem.run_map,Tk,Result.andThen_ok,E,Sem.run_pure]
  ·cases D
 ·rename_i n e ej
  split at D
  ·rename_i s aq
   cases D;obtain⟨bY,M,I⟩:=JR eD (λi=>some (Nat.mul i s,s)) A.toList cs aF _ _ l bp a1 V (xU Z ai) bE;refine⟨_,.agg I,λw=>?_⟩;have E:Instr.fill (λi=>some (i*s,s)) z.cells (A.map λ(i,x)=>(i,a.eval x)).toList=some ⟨bY⟩:=by rw[N];omega
   simp only[Instr.build,Sem.run_bind,x2 aj np,Result.andThen_ok,run_underlying ej,kg aq,E,Sem.run_pure]
  ·cases D
 ·cases D
theorem Fm(n:Nat)(z:aa X):(gI n z).length=n*z.length:=by
 induction n with
 |zero=>simp[gI]
 |succ n A=>simp[gI,kh,A,Fe];omega
theorem YT(z:aa X):∀(n i:Nat),i<n*z.length->(gI n z)[i]? = z[i % z.length]?
 |0,i,h=>J
 |n+1,i,h=>by
  simp only[gI,kh,B8]
  split
  ·rename_i aj;rw[Jh aj]
  ·rename_i aj
   rw[YT z n (i-z.length) ab]
   congr 1
   rw[Nat.mod_eq_sub_mod (by omega:i≥z.length)]
theorem Ot(z:Array X)(n:Nat):((Array.range (n*z.size)).map λi=>z[i % z.size]!)=⟨gI n z.toList⟩:=by
 apply Array.ext';apply pj;intro i
 by_cases h:i<n*z.size
 ·rw[YT _ _ _ J];have A:0<z.size:=ab
  have D:=zN i A
  grind
 ·rw[xM ab,xM (by rw[Fm];grind)]
theorem Cy{z A:aa X}(h:dq ai z A):∀n,dq ai (gI n z) (gI n A)
 |0=>.nil
 |n+1=>by simp only[gI,kh];exact h.append (Cy h n)
theorem zO(z:Array X)(n:Nat):Builtin.zeroCells z n=⟨gI n z.toList⟩:=Ot z n
end
section
variable {P:Program} {ai:b5}
def Dp(P:Program)(ai:b5)(v:X)(s:Sem Next):Prop:=∃c,bF ai v c/\∀w,s.run P w = .ok (.value c) w
theorem mR.op{s:Sem X}(h:mR P ai v s):Dp P ai v (do pure (.value (<-s))):=by obtain⟨c,A,D⟩:=h;exact⟨c,A,λw=>by simp[D w]⟩
theorem Dp.pure{v c:X}(h:bF ai v c):Dp P ai v (Pure.pure (.value c)):=⟨c,h,λ_=>rfl⟩
theorem aic(A:bF ai v c)(h:(∃a,v = .pointer (some a))\/(∃f a b,v = .func (.func f) a b)\/(∃f a b,v = .func (.yield f) a b)\/∃t y,v = .iface t y){o:Oper}{x:Operand}{bn:Operand->X}(D:o.op = .nilCheck x)(E:bn x=c):∀w,(execOp bn o).run P w = .ok (.value c) w:=by
 intro w;unfold execOp;rw[D];simp only[E];rcases h with⟨a,rfl⟩|⟨f,a,b,rfl⟩|⟨f,a,b,rfl⟩|⟨t,y,rfl⟩
 ·cases A;rfl
 ·cases A;rfl
 ·cases A;rfl
 ·cases A;rfl
theorem NU{bn:Operand->X}{c:Call}{b:Builtin}(D:c.callee = .builtin b)(A:TypeId):
  ∃cs,resolve bn c A=pure { target:=.builtin b c.argTypes A cs,args:=c.args.map bn }:=by unfold resolve;rw[D];grind
theorem x3{az:Type}{b:al}{x:aw az}{r:az}:(bif b then x else none)=some r↔b=true/\x=some r:=by cases b <;> simp
theorem Loc.Dq{a:Act}{l:Array Operand}(E:Loc ai ak a.tmps l){y:e7}(D:∀x∈xs,x∈l)(A:yP xs=some [y])(h:ea ak y = .ok v):
  ∃c,bF ai v c/\(⟨xs.map a.eval⟩:Array X)=#[c]:=by
 have:=E.vp D A (show pF ak [y] = .ok [v] by simp[pF,h,R.bind]);generalize xs.map a.eval=lU at *
 cases this with
 |cons h t=>cases t;exact⟨_,h,rfl⟩
theorem Loc.AL{a:Act}{l:Array Operand}(I:Loc ai ak a.tmps l){y E:e7}{A:X}(M:∀x∈xs,x∈l)(N:yP xs=some [y,E])(h:ea ak y = .ok v)(D:ea ak E = .ok A):
  ∃c c2,bF ai v c/\bF ai A c2/\(⟨xs.map a.eval⟩:Array X)=#[c,c2]:=by
 have:=I.vp M N (show pF ak [y,E] = .ok [v,A] by simp[pF,h,D,R.bind]);generalize xs.map a.eval=lU at *
 cases this with
 |cons h t=>cases t with
  |cons D t=>cases t;exact⟨_,_,h,D,rfl⟩
theorem aaR{a:Act}(o:Oper)(M:Loc ai ak a.tmps o.op.operands){e:ID}(A:oS P o.op=some (.fu e))(h:pG P ak e = .ok v):Dp P ai v (execOp a.eval o):=by
 have ex:∀{op:Op},o.op=op->execOp a.eval o=execOp a.eval { o with op:=op }:=λh=>by rw[<-h]
 cases yR:o.op <;> rw[yR]at A M <;> rw[ex yR] <;> (try simp only[oS,jE,l9,x3,Cc,reduceCtorEq,and_false,Jn]at A)
 case move x =>
  obtain⟨dG,E,D⟩:=A;cases D;exact Dp.pure (M.eg (by simp[Op.operands]) E h)
 case assign x =>
  obtain⟨dG,E,D⟩:=A;cases D;exact Dp.pure (M.eg (by simp[Op.operands]) E h)
 case pick c x y =>
  obtain⟨gV,E,dG,Z,ic,aM,D⟩:=A;cases D;obtain⟨e2,I,h⟩:=R.fd h;obtain⟨N,V,h⟩:=R.fd h;obtain⟨rZ,c6,h⟩:=R.fd h;have eE:=M.eg (by simp[Op.operands]) E I;cases e2 with
  |bool b =>
   have aE:=eE.FM;cases b with
   |true=>cases h;exact⟨_,M.eg (by simp[Op.operands]) Z V,λw=>by simp[execOp,aE,asBool]⟩
   |false=>cases h;exact⟨_,M.eg (by simp[Op.operands]) aM c6,λw=>by simp[execOp,aE,asBool]⟩
  |_=>cases h
 case build t mI =>
  obtain⟨z,cL,pl,mn,b7,HA,D⟩:=A;cases D;obtain⟨aF,I,h⟩:=R.fd h;exact(amq M (λx aY=>by simp only[Op.operands];grind) cL mn HA I h).op
 case nilCheck x =>
  obtain⟨dG,E,D⟩:=A;cases D;obtain⟨N,I,h⟩:=R.fd h;obtain⟨rfl,aM⟩:=aiQ h;have aG:=M.eg (by simp[Op.operands]) E I;exact⟨_,aG,aic aG aM rfl rfl⟩
 case binOp op t x y aEk =>
  obtain⟨dG,E,ic,Z,D⟩:=A;cases D;obtain⟨N,I,h⟩:=R.fd h;obtain⟨rZ,V,h⟩:=R.fd h;exact(ap1 x y h (M.eg (by simp[Op.operands]) E I) (M.eg (by simp[Op.operands]) Z V)).op
 case unOp op t x =>
  obtain⟨dG,E,D⟩:=A;cases D;obtain⟨N,I,h⟩:=R.fd h;exact(ap2 h (M.eg (by simp[Op.operands]) E I)).op
 case convert s d x =>
  obtain⟨j9,aq,Vq,bj,dG,E,D⟩:=A;cases D;obtain⟨N,I,h⟩:=R.fd h;exact(aj8 aq bj h (M.eg (by simp[Op.operands]) E I)).op
 case makeInterface t x =>
  obtain⟨ci,dG,E,D⟩:=A;cases D;obtain⟨N,I,h⟩:=R.fd h;cases h;exact(ap3 ci (M.eg (by simp[Op.operands]) E I)).op
 case makeFunc fn x y =>
  split at A
  ·simp only[jE,l9]at A;obtain⟨dG,E,ic,Z,D⟩:=A;cases D;obtain⟨N,I,h⟩:=R.fd h;obtain⟨rZ,V,h⟩:=R.fd h;cases h;have aY:=M.vp (λz cL=>by simp only[Op.operands];grind) E I;have cd:=M.vp (λz cL=>by simp only[Op.operands];grind) Z V;refine⟨.func (.func _) ⟨x.toList.map a.eval⟩ ⟨y.toList.map a.eval⟩,.func _ aY cd,λw=>?_⟩;have D:x.map a.eval=⟨x.toList.map a.eval⟩:=ab
   have aK:y.map a.eval=⟨y.toList.map a.eval⟩:=ab
   simp[execOp,Instr.makeFunc,D,aK]
  ·cases A
 case slice t x ao aj iO =>
  obtain⟨s,aq,dG,E,cl,Z,zl,aM,oi,bc,D⟩:=A;cases D;obtain⟨N,I,h⟩:=R.fd h;obtain⟨p7,V,h⟩:=R.fd h;obtain⟨aEl,c6,h⟩:=R.fd h;obtain⟨aBW,ed,h⟩:=R.fd h;exact(ap4 (M.Tj (λy cd=>by subst cd;simp[Op.operands]) Z V) (M.Tj (λy cd=>by subst cd;simp[Op.operands]) aM c6) (M.Tj (λy cd=>by subst cd;simp[Op.operands]) bc ed) aq h (M.eg (by simp[Op.operands]) E I)).op
 case fieldAddr s x f =>
  obtain⟨aBX,bE,dG,E,D⟩:=A;cases D;obtain⟨N,I,h⟩:=R.fd h;obtain⟨bk,rfl,h⟩:=JP h;cases h;exact(aim bE (M.eg (by simp[Op.operands]) E I)).op
 case field s x f =>
  obtain⟨aBX,bE,bO,wZ,dG,E,D⟩:=A;cases D;obtain⟨N,I,h⟩:=R.fd h;exact(amo bE wZ h (M.eg (by simp[Op.operands]) E I)).op
 case indexAddr t x ue =>
  obtain⟨k,hk,dG,E,k7,Z,D⟩:=A;cases D;obtain⟨N,I,h⟩:=R.fd h;obtain⟨gN,V,h⟩:=R.fd h;obtain⟨q,i,rfl,h⟩:=Cx h;have:=(ahX (q:=q) hk h (M.eg (by simp[Op.operands]) E I)).op;rwa[<-(M.eg (by simp[Op.operands]) Z V).tq]at this
 case index t x ue =>
  obtain⟨dG,E,k7,Z,D⟩:=A;cases D;obtain⟨N,I,h⟩:=R.fd h;obtain⟨gN,V,h⟩:=R.fd h;obtain⟨q,i,rfl,h⟩:=Cx h;have:=(aiS (q:=q) h (M.eg (by simp[Op.operands]) E I)).op;rwa[<-(M.eg (by simp[Op.operands]) Z V).tq]at this
 case extract x i =>
  obtain⟨dG,E,D⟩:=A;cases D;obtain⟨N,I,h⟩:=R.fd h;exact(aia h (M.eg (by simp[Op.operands]) E I)).op
 case typeAssert x aEm t ok =>
  obtain⟨dG,E,D⟩:=A;cases D;obtain⟨N,I,h⟩:=R.fd h;exact(ail h (M.eg (by simp[Op.operands]) E I)).op
 case call c =>
  obtain⟨i1,E,A⟩:=A;have aY:∀x∈c.args.toList,x∈(Op.call c).operands:=λx aY=>by simp only[Op.operands,Call.operands];grind
  have wN:c.args.map a.eval=⟨c.args.toList.map a.eval⟩:=ab
  split at A
  ·simp at A
  ·simp at A
  ·rename_i b aO
   obtain⟨cs,oU⟩:=NU (bn:=a.eval) aO o.type;unfold execOp;simp only[oU,wN];unfold DJ at A
   split at A
   ·split at A
    ·obtain⟨t,_,A⟩:=jE.1 A
     split at A <;> cases A
    ·cases A
   ·split at A
    ·cases A;obtain⟨N,I,h⟩:=R.fd h;obtain⟨rZ,V,h⟩:=R.fd h;obtain⟨hH,iQ,eE,hS,aK⟩:=M.AL aY E I V;obtain⟨bM,aG,bb⟩:=YR (P:=P) h eE hS;rw[aK];exact mR.op ⟨bM,aG,λw=>by have:=bb w;simp only[qm]at this;simp[Builtin.min_,this]⟩
    ·cases A
   ·split at A
    ·cases A;obtain⟨N,I,h⟩:=R.fd h;obtain⟨rZ,V,h⟩:=R.fd h;obtain⟨hH,iQ,eE,hS,aK⟩:=M.AL aY E I V;obtain⟨bM,aG,bb⟩:=YR (P:=P) h eE hS;rw[aK];exact mR.op ⟨bM,aG,λw=>by have:=bb w;simp only[mH]at this;simp[Builtin.max_,this]⟩
    ·cases A
   ·split at A
    ·obtain⟨t,ci,D⟩:=l9.1 A;cases D;obtain⟨N,I,h⟩:=R.fd h;obtain⟨hH,eE,aK⟩:=M.Dq aY E I;rw[aK];exact(amp (by rw[iX]at ci;grind) h eE).op
    ·cases A
   ·cases AM:rp P (g3 c.argTypes.toList 1) <;> rw[AM]at A
    ·simp only[mH,jE,x3]at A;obtain⟨_,_,_,_,_,_,_,_,_,A⟩:=A
     split at A <;> cases A
    ·cases A
   ·cases A
 case makeMap t r=>cases r <;> cases A
 case next it b=>cases b <;> simp at A
 all_goals (split at A <;> simp[jE]at A)
end
section
variable {P:Program} {ai:b5} {B:Nat}
structure Made (w ba:World) (o:Obj):Prop where
 size:ba.heap.size=w.heap.size+1
 new:ba.heap[w.heap.size]? = some o
 dV:∀k,k<w.heap.size->ba.heap[k]? = w.heap[k]?
 os:ba.os=w.os
 tape:qT w ba
 output:ba.output=w.output
theorem Made.push(w:World)(o:Obj):Made w { w with heap:=w.heap.push o } o :=
 ⟨by simp,by simp,ab,rfl,.here,rfl⟩
def wO(ai:b5)(cY:kM)(o:Obj)(p:Place):Prop:=match cY with
 | .ptr (.cells cs false)=>p.off=0/\p.spare=0/\∃c e,o = .cells c e (0,0)/\dq ai cs c.toList
 | .slice (.cells cs false) _ _=>p.off=0/\p.spare=0/\∃c e,o = .cells c e (0,0)/\dq ai cs c.toList
 | .map=>p.off=0/\o = .map #[] 0
 |_=>False
def Tl(cY:kM)(co:Nat)(spare:Nat):X:=match cY with
 | .ptr _=>.pointer (some ⟨co,0,none⟩)
 | .slice _ len cap=>.slice (some ⟨co,0,none⟩) len cap
 | .map=>.map (some co)
def LQ(P:Program)(ai:b5)(cY:kM)(s:Sem Next):Prop:=∀w,∃o p ba,p.co=w.heap.size/\wO ai cY o p/\Made w ba o/\s.run P w = .ok (.value (Tl cY w.heap.size p.spare)) ba
theorem wO.mono{bn:b5}(M:Sub ai bn){cY:kM}{o:Obj}{p:Place}(h:wO ai cY o p):wO bn cY o p:=by
 unfold wO at *
 split at h
 ·obtain⟨E,A,c,e,I,D⟩:=h;exact⟨E,A,c,e,I,D.mono M⟩
 ·obtain⟨E,A,c,e,I,D⟩:=h;exact⟨E,A,c,e,I,D.mono M⟩
 ·exact h
 omega
theorem JE{c:Array X}(h:dq ai cs (c.toList.take cs.length)):pt ai cs c 0:=by
 intro i v E;obtain⟨A,D,I⟩:=h.get E;refine⟨A,?_,I⟩
 grind
theorem LQ.step{w:World}{o:Obj}{U:Nat}(bb:d9 B ai H w)(bv:ai U=none)(M:p.co=w.heap.size)(E:wO ai cY o p)(N:Made w ba o):
  cx B ai H w U (U+1) (λk=>if k=U then some p else ai k) (H.put U (sA cY)) ba/\bF (λk=>if k=U then some p else ai k) (wW U cY) (Tl cY w.heap.size p.spare):=by
 have Z:Sub ai (λk=>if k=U then some p else ai k):=λb q aO=>ab
 have en:B<=p.co:=by rw[M];exact bb.base
 have D:(λk=>if k=U then some p else ai k) U=some p:=by simp
 have A:=E.mono Z;have b0:ba.heap[p.co]? = some o:=by rw[M];exact N.new
 constructor
 ·refine cx.make bb bv N.size N.dV N.os N.tape N.output M ?_;unfold wO at A
  split at A
  ·obtain⟨I,ap,c,e,rfl,V⟩:=A;have bA:=V.length;refine⟨en,I,c,e,0,0,b0,J,JE (by rw[bA,hC];exact V),ab⟩
  ·obtain⟨I,ap,c,e,rfl,V⟩:=A;have bA:=V.length;refine⟨en,I,c,e,0,0,b0,J,JE (by rw[bA,hC];exact V),ab⟩
  ·obtain⟨I,rfl⟩:=A;exact⟨en,[],b0,.nil⟩
  ·exact A.elim
 ·unfold wO at E
  split at E
  ·obtain⟨I,_⟩:=E;have:=bF.ptr (ai:=λk=>if k=U then some p else ai k) (o:=0) D;rw[M,I]at this;exact this
  ·obtain⟨I,_⟩:=E;have:=λl c=>bF.kU (ai:=λk=>if k=U then some p else ai k) (o:=0) D l c;rw[M,I]at this;exact this _ _
  ·have:=bF.map (ai:=λk=>if k=U then some p else ai k) D;rw[M]at this;exact this
  ·exact E.elim
theorem aiT(h:F4 l = .ok cY):ee l=true/\cY = .ptr (.cells l false):=by obtain⟨D,A⟩:=jF h;grind
theorem WS{n c:Nat}(h:wl l n c = .ok cY):ee l=true/\cY = .slice (.cells l false) n c:=by obtain⟨D,A⟩:=jF h;grind
theorem Fi(h:rj P t=some e):P.underlying t=some (.slice e):=by
 unfold rj at h
 grind
theorem WT(e:TypeId)(v:X)(w:World):(newVar e v).run P w = .ok ⟨w.heap.size,0,none⟩ { w with heap:=w.heap.push (.cells v.cells e) }:=rfl
theorem JA(e:TypeId)(c:Array X)(w:World):(newRow e c).run P w = .ok ⟨w.heap.size,0,none⟩ { w with heap:=w.heap.push (.cells c e) }:=rfl
theorem ap5{b:Builtin}{ag:aa TypeId}{i1:aa e7}{e:Eu}(h:DJ P b ag i1=some (.io e)):False:=by
 unfold DJ at h
 split at h
 ·split at h
  ·obtain⟨t,_,h⟩:=jE.1 h
   split at h <;> cases h
  ·cases h
 ·split at h <;> cases h
 ·split at h <;> cases h
 ·split at h
  ·simp at h
  ·cases h
 ·cases A:rp P (g3 ag 1) <;> rw[A]at h
  ·simp only[mH,jE,x3]at h;obtain⟨_,_,_,_,_,_,_,_,_,h⟩:=h
   split at h <;> cases h
  ·cases h
 ·cases h
theorem aaS{a:Act}(o:Oper)(eD:Loc ai ak a.tmps o.op.operands){e:Eu}(D:oS P o.op=some (.io e))(h:Dn ak e = .ok cY):LQ P ai cY (execOp a.eval o):=by
 have ex:∀{op:Op},o.op=op->execOp a.eval o=execOp a.eval { o with op:=op }:=λh=>by rw[<-h]
 cases yR:o.op <;> rw[yR]at D eD <;> rw[ex yR] <;> (try simp only[oS,jE,l9,x3,Cc,reduceCtorEq,and_false,Jn]at D)
 case alloc e =>
  obtain⟨l,cL,ko,aW⟩:=D;cases aW;cases h;obtain⟨i,z,aj,np,n9,rfl⟩:=zP cL;intro w;refine⟨.cells z.cells e (0,0),⟨w.heap.size,0,0,0⟩,{ w with heap:=w.heap.push (.cells z.cells e) },rfl,⟨rfl,rfl,_,e,rfl,xU n9 ai⟩,Made.push w _,?_⟩;unfold execOp;simp only[Instr.alloc,Sem.run_bind,x2 aj np,Result.andThen_ok,WT,Sem.run_pure];rfl
 case box e x =>
  obtain⟨dG,g1,aW⟩:=D;cases aW;obtain⟨v,aG,h1⟩:=R.fd h;obtain⟨D,rfl⟩:=aiT h1;have w0:=(eD.eg (by simp[Op.operands]) g1 aG).cells;intro w;refine⟨.cells (a.eval x).cells e (0,0),⟨w.heap.size,0,0,0⟩,{ w with heap:=w.heap.push (.cells (a.eval x).cells e) },rfl,⟨rfl,rfl,_,e,rfl,w0⟩,Made.push w _,?_⟩;unfold execOp;simp only[Instr.box,Sem.run_bind,Result.andThen_ok,WT,Sem.run_pure];rfl
 case buildSlice t len mI =>
  obtain⟨e,bP,s,aq,xr,cL,LR,b7,HA,aW⟩:=D;cases aW;simp only[eB]at LR;obtain⟨V,dO⟩:=LR;obtain⟨aF,Hz,h⟩:=R.fd h;obtain⟨l,bE,cy⟩:=R.fd h;obtain⟨i,z,aj,np,n9,rfl⟩:=zP cL;obtain⟨D,rfl⟩:=WS cy;have ej:=Fi bP;have Sn:z.cells.size=s:=by have:=gm V;rw[oD]at this;omega
  have wP:=ma dO;have wP:len*s<=1000000:=wP;obtain⟨bY,aA5,Sm⟩:=JR eD (λi=>some (Nat.mul i s,s)) mI.toList b7 aF _ _ l (λx aY=>by simp only[Op.operands];grind) HA Hz (Cy (xU n9 ai) len) bE;have sC:(mI.map λ(i,x)=>(i,a.eval x)).toList=mI.toList.map λx=>(x.1,a.eval x.2):=by simp
  intro w;refine⟨.cells ⟨bY⟩ e (0,0),⟨w.heap.size,0,0,0⟩,{ w with heap:=w.heap.push (.cells ⟨bY⟩ e) },rfl,⟨rfl,rfl,_,e,rfl,Sm⟩,Made.push w _,?_⟩;unfold execOp;have M:Instr.fill (λi=>some (i*s,s)) ⟨gI len z.cells.toList⟩ (mI.map λ(i,x)=>(i,a.eval x)).toList=some ⟨bY⟩:=by rw[sC];omega
  have a9:¬(len*s>2 ^ 24):=J
  by_cases au:len*s=0
  ·have wQ:gI len z.cells.toList=[]:=by
    apply B4;rw[Fm]
    grind
   have A:((Array.range (len*s)).map (λx=>(#[]:Array X)[x % (#[]:Array X).size]!))=⟨gI len z.cells.toList⟩:=ab
   simp only[Instr.buildSlice,Sem.run_bind,run_underlying ej,kg aq,Result.andThen_ok,Sem.run_ite,if_neg a9,Sem.run_pure,if_pos au,A,M,JA];rfl
  ·have A:((Array.range (len*s)).map (λx=>z.cells[x % z.cells.size]!))=⟨gI len z.cells.toList⟩:=by rw[<-Sn];exact Ot z.cells len
   simp only[Instr.buildSlice,Sem.run_bind,run_underlying ej,kg aq,Result.andThen_ok,Sem.run_ite,if_neg a9,Sem.run_pure,if_neg au,x2 aj np,A,M,JA];rfl
 case makeMap t r =>
  cases r with
  |some r=>cases D
  |none =>
   cases D;cases h;intro w;refine⟨.map #[] 0,⟨w.heap.size,0,0,0⟩,{ w with heap:=w.heap.push (.map #[] 0) },rfl,⟨rfl,rfl⟩,Made.push w _,?_⟩;unfold execOp;rfl
 case makeSlice t l c =>
  obtain⟨e,bP,xr,cL,N,cl,c1,gV,c2,aW⟩:=D;cases aW;obtain⟨p7,h1,ap⟩:=R.fd h;obtain⟨e2,bc,b3⟩:=R.fd ap;obtain⟨aEn,Nb,rfl,aM⟩:=Cx b3;obtain⟨aEo,E,rfl,cy⟩:=Cx aM;obtain⟨I,Tm⟩:=jF cy;simp only[eB]at I;have rC:=ma I.1;have LS:=ma I.2;obtain⟨i,z,aj,np,n9,rfl⟩:=zP cL;obtain⟨D,rfl⟩:=WS Tm;have ej:=Fi bP;simp only[eB]at N;obtain⟨V,N⟩:=N;rw[aj]at V N;simp only[E8,Jj]at V N;have Sn:z.cells.size=i.size:=by have:=gm V;rw[oD]at this;omega
  have ayE:i.bytes<=1000000:=ma N;intro w;refine⟨.cells ⟨gI E z.cells.toList⟩ e (0,0),⟨w.heap.size,0,0,0⟩,{ w with heap:=w.heap.push (.cells ⟨gI E z.cells.toList⟩ e) },rfl,⟨rfl,rfl,_,e,rfl,Cy (xU n9 ai) E⟩,Made.push w _,?_⟩;unfold execOp;simp only[(eD.eg (by simp[Op.operands]) c1 h1).tq,(eD.eg (by simp[Op.operands]) c2 bc).tq];have vq:IntKind.i64.wrap (Int.ofNat Nb)=(Nb:Int):=Kd (by simp[IntKind.min,IntKind.signed,IntKind.bits] <;> omega) (by simp[IntKind.max,IntKind.signed,IntKind.bits] <;> omega);have hwc:IntKind.i64.wrap (Int.ofNat E)=(E:Int):=Kd (by simp[IntKind.min,IntKind.signed,IntKind.bits] <;> omega) (by simp[IntKind.max,IntKind.signed,IntKind.bits] <;> omega);have afb:∀w,(typeInfo e).run P w = .ok i w:=λw=>by simp[typeInfo,aj]
  have lP:∀w,(sizeOf e).run P w = .ok i.size w:=λw=>Fk aj w;have agF:(i.bytes:Int)*(E:Int)<=1000000*100000:=by have:i.bytes*E<=1000000*100000:=sb ayE LS;omega
  have hai:∀(k:IntKind) (n:Nat) w,(asInt (.int k (Int.ofNat n))).run P w = .ok (Int.ofNat n) w:=λ_ _ _=>rfl;have Z:(decide ((E:Int)<0)||decide ((i.bytes:Int)*(E:Int)>2 ^ 48)||decide ((Nb:Int)<0)||decide ((Nb:Int)>(E:Int)))=false:=ab
  by_cases au:E*i.size=0
  ·have wQ:gI E z.cells.toList=[]:=by
    apply B4;rw[Fm]
    grind
   have A:((Array.range (E*i.size)).map (λx=>(#[]:Array X)[x % (#[]:Array X).size]!))=⟨gI E z.cells.toList⟩:=ab
   simp only[Instr.makeSlice,Sem.run_bind,run_underlying ej,hai,afb,lP,Result.andThen_ok,vq,hwc,Sem.run_ite,Z,nP,ff,Sem.run_pure,run_askRoom,Je,if_pos au,A,JA];rfl
  ·have A:((Array.range (E*i.size)).map (λx=>z.cells[x % z.cells.size]!))=⟨gI E z.cells.toList⟩:=by rw[<-Sn];exact Ot z.cells E
   simp only[Instr.makeSlice,Sem.run_bind,run_underlying ej,hai,afb,lP,Result.andThen_ok,vq,hwc,Sem.run_ite,Z,nP,ff,Sem.run_pure,run_askRoom,Je,if_neg au,x2 aj np,A,JA];rfl
 case call c =>
  obtain⟨_,_,D⟩:=D
  split at D
  ·simp at D
  ·simp at D
  ·exact(ap5 D).elim
 case next it b=>cases b <;> simp at D
 all_goals (split at D <;> simp[jE]at D)
end
section
variable {P:Program} {ai:b5} {B:Nat}
theorem aid(D:P.underlying t=some (.int q))(A:al)(d:Nat)(k:X)(w:World):(Instr.checkKey A (d+1) t k).run P w = .ok () w:=by
 cases k <;> simp only[Instr.checkKey,Sem.run_bind,run_underlying D,Result.andThen_ok] <;> rfl
theorem Jo{r:al}(h:kV P t k k=some r)(A:al)(w:World):(Instr.checkKey A 10000 t k).run P w = .ok () w:=by
 unfold kV at h
 split at h
 ·obtain⟨D,_⟩:=tk h;simp only[eB]at D;obtain⟨q,M⟩:=Wp D.2;exact aid M A 9999 _ w
 ·obtain⟨N,E,_,_,_,I,V,Z,_,_⟩:=wh h;exact run_checkKey_deep A 9992 8 t N w 8 _ I E (by rw[<-Jq];omega)
theorem Oe(h:ym P t k=true):∃r,kV P t k k=some r:=lI.1 h
def agG(P:Program)(t:TypeId)(k:X):Prop:=∀(y:X) (r:al),kV P t k y=some r->∀w,(Op.equal t k y).run P w = .ok r w
def Sp(P:Program)(d:TypeDesc)(t:TypeId)(k:X):Prop:=∀(y:X) (r:al),kV P t k y=some r->Instr.sameNow d k y=some r
theorem hy.get:∀{es c9:aa MapEntry} {i:Nat} {e:MapEntry},hy ai es c9->es[i]? = some e->∃A,c9[i]? = some A/\bF ai e.key A.key/\bF ai e.val A.val/\A.born=e.born
 |_,_,0,_,.cons E I D _,h=>by simp at h;subst h;exact⟨_,rfl,E,I,D⟩
 |_,_,i+1,_,.cons _ _ _ t,h=>by simpa using hy.get  t ab
theorem hy.length:∀{es c9:aa MapEntry},hy ai es c9->es.length=c9.length
 |_,_,.nil=>rfl
 |_,_,.cons _ _ _ t=>by simp[hy.length t]
theorem Fs{t:TypeId}{k:X}:∀{es:aa MapEntry} {i:Nat} {r:aw (Nat × MapEntry)},kC P t k es i=some r ->
  (∀j e,r=some (j,e)->i<=j/\es[j-i]? = some e/\kV P t k e.key=some true)
 | [],i,r,h=>by cases h;grind
 |x::xs,i,r,h=>by
  unfold kC at h
  split at h
  ·grind
  ·intro j e A;obtain⟨E,D,I⟩:=Fs h j e A
   grind
  grind
def yf(c9:aa MapEntry)(i:Nat)(r:aw (Nat × MapEntry))(c:aw (Nat × X)):Prop:=match r with
 |none=>c=none
 |some (j,_)=>∃dK,c9[j-i]? = some dK/\c=some (j,dK.val)
theorem yf.shift{x:MapEntry}{r:aw (Nat × MapEntry)}{c:aw (Nat × X)}(h:yf c9 (i+1) r c)(I:∀j e,r=some (j,e)->i+1<=j):yf (x::c9) i r c:=by
 cases r with
 |none=>exact h
 |some q =>
  obtain⟨j,e⟩:=q;obtain⟨D,E,A⟩:=h;refine⟨D,?_,A⟩
  grind
theorem N7{d:TypeDesc}{t:TypeId}{k:X}(D:Sp P d t k):∀{es c9:aa MapEntry} {i:Nat} {r:aw (Nat × MapEntry)},hy ai es c9->kC P t k es i=some r ->
  ∃c,Instr.findNow d k c9 i=some c/\yf c9 i r c
 |_,_,i,r,.nil,h=>by cases h;exact⟨none,rfl,rfl⟩
 |x::xs,y::lU,i,r,.cons M aG aO V,h=>by
  have E:=Fs  h;unfold kC at h
  split at h
  ·rename_i A
   cases h;have I:y.key=x.key:=uF (xV A).2 M;refine⟨some (i,y.val),?_,y,by simp,rfl⟩;simp[Instr.findNow,I,D _ _ A]
  ·rename_i A
   have I:y.key=x.key:=uF (xV A).2 M;obtain⟨c,h1,N⟩:=N7 D V h;refine⟨c,?_,N.shift λj e Z=>?_⟩
   ·simp only[Instr.findNow,I,D _ _ A];omega
   grind
  ·cases h
theorem Wf{t:TypeId}{k:X}(D:agG P t k)(w:World):∀{es c9:aa MapEntry} {i:Nat} {r:aw (Nat × MapEntry)},hy ai es c9->kC P t k es i=some r ->
  ∃c,(Instr.findAsking t k c9 i).run P w = .ok c w/\yf c9 i r c
 |_,_,i,r,.nil,h=>by cases h;exact⟨none,rfl,rfl⟩
 |x::xs,y::Z,i,r,.cons I aG aO N,h=>by
  unfold kC at h
  split at h
  ·rename_i A
   cases h;have E:y.key=x.key:=uF (xV A).2 I;refine⟨some (i,y.val),?_,y,by simp,rfl⟩;simp[Instr.findAsking,E,D _ _ A w]
  ·rename_i A
   have E:y.key=x.key:=uF (xV A).2 I;obtain⟨c,h1,M⟩:=Wf D w N h;refine⟨c,?_,M.shift λj e V=>?_⟩
   ·simp only[Instr.findAsking,E,Sem.run_bind,D _ _ A w,Result.andThen_ok,nP,ff];omega
   ·exact(Fs h j e V).1
  ·cases h
theorem Fo{gs:al}(hk:kV P t k k=some gs){r:aw (Nat × MapEntry)}(bP:hy ai es c9)(h:kC P t k es 0=some r)(w:World):
  ∃c,(Instr.findKey t k c9).run P w = .ok c w/\yf c9 0 r c:=by
 have V:(∃q n,k = .int q n)\/((∀q n,k≠.int q n)/\∀y r,kV P t k y=some r->sB P t k y=some r):=by
  cases k <;> first|exact .inl ⟨_,_,rfl⟩|exact .inr ⟨ab,λy r D=>D⟩
 rcases V with⟨q,n,rfl⟩|⟨hni,A⟩
 ·have tR:=hk;simp only[kV,KE]at tR;obtain⟨a1,_⟩:=tk tR;simp only[eB]at a1;obtain⟨jy,M⟩:=Wp a1.2;have d7:Sp P (.int jy) t (.int q n):=by
   intro y r D;simp only[kV,KE]at D
   split at D
   ·obtain⟨a1,D⟩:=tk D;cases D;simp only[eB]at a1;rw[Ga.1 a1.1];simp[Instr.sameNow,kT]
   grind
  obtain⟨c,N,ap⟩:=N7 d7 bP h;exact⟨c,by simp[Instr.findKey,run_underlying M,N],ap⟩
 ·obtain⟨N,aA6,_,_,_,zm,_,hla,_,_⟩:=wh (A _ _ hk);have g6:agG P t k:=λy r D w=>aaO ab 9992 w;unfold Program.keyTypeAt at N;cases M:P.underlying t with
  |none=>rw[M]at N;simp at N
  |some d =>
   rw[M]at N;have I:(∀x y,Instr.sameNow d x y=none)->∃c,(Instr.findKey t k c9).run P w = .ok c w/\yf c9 0 r c:=by
    intro bj;obtain⟨c,aM,bc⟩:=Wf g6 w bP h;refine⟨c,?_,bc⟩;cases c9 with
    |nil =>
     simp[Instr.findAsking]at aM;simp[Instr.findKey,run_underlying M,Instr.findNow,aM]
    |cons dK c9=>simp[Instr.findKey,run_underlying M,Instr.findNow,bj,aM]
   have E:Sp P d t k->∃c,(Instr.findKey t k c9).run P w = .ok c w/\yf c9 0 r c:=by intro d7;obtain⟨c,aM,bc⟩:=N7 d7 bP h;exact⟨c,by simp[Instr.findKey,run_underlying M,aM],bc⟩
   cases d <;> simp at N
   case bool =>
    refine E λy r D=>?_;obtain⟨_,_,_,_,_,Nc,aCM,aY,Z,aj⟩:=wh (A _ _ D);obtain⟨b,aW,aK⟩:=keyLits_bool' M aY;obtain⟨ce,cf,dT⟩:=keyLits_bool' M Z;have cu:k = .bool b:=by
     cases k <;> simp_all[dj,Value.formed]
    have IE:y = .bool ce:=by
     obtain⟨_,_,hfy,_⟩:=wh (A _ _ D);cases y <;> simp_all[dj,Value.formed]
    rw[cu,IE];simp only[Instr.sameNow]
    congr 1
    grind
   case string =>
    refine E λy r D=>?_;obtain⟨_,_,_,_,_,Nc,aCM,aY,Z,aj⟩:=wh (A _ _ D);obtain⟨b,aW,aK⟩:=keyLits_string' M aY;obtain⟨ce,cf,dT⟩:=keyLits_string' M Z;have cu:k = .string b:=by
     cases k <;> simp_all[dj,Value.formed]
    have IE:y = .string ce:=by
     obtain⟨_,_,hfy,_⟩:=wh (A _ _ D);cases y <;> simp_all[dj,Value.formed]
    rw[cu,IE];simp only[Instr.sameNow]
    congr 1
    have yS:(b == ce)=(b.data == ce.data):=rfl;rw[zK,aj,aK,dT,yS];simp[Array.ext_iff]
   case int q =>
    exfalso;obtain⟨n,aW,_⟩:=keyLits_int' M hla;cases k <;> simp_all[dj,Value.formed]
   case array n e=>exact I λ_ _=>rfl
   case struct dw=>exact I λ_ _=>rfl
theorem Cs{h:ae}{r:Nat}{k:aa MapEntry->Nat->R e6}{x:e6}(e:kW h r k = .ok x):∃es c,u h r=some (.map es c)/\k es c = .ok x:=by
 unfold kW at e
 grind
theorem d9.map{H:fp}{w:World}(D:d9 B ai H w){b:Nat}{p:Place}{es:aa MapEntry}{cH:Nat}(I:ai b=some p)(E:H b=some (.map es cH)):
  ∃c9:aa MapEntry,w.heap[p.co]? = some (.map c9.toArray cH)/\hy ai es c9/\B<=p.co:=by obtain⟨M,c9,A,N⟩:=D.obj b p _ I E;exact⟨c9,A,N,M⟩
theorem q8{w:World}{r:Nat}{o:Obj}(h:w.heap[r]? = some o)(A:∀c e f,o≠.cells c e f):(getObj r).run P w = .ok o w:=by
 cases o <;> first
  |(exact ab)
  |simp[getObj,Sem.run,h]
theorem amr{h:ae}{w:World}(bb:d9 B ai (u h) w){m:X}(ej:P.underlying t=some (.map dW e))(cL:Kc P e=some z)(bA:jV P h dW z ok m k = .ok v)(bp:bF ai m oi)(hk:bF ai k cH):
  ∃c,bF ai v c/\(Instr.lookup t oi cH ok).run P w = .ok c w:=by
 obtain⟨hF,D⟩:=jF bA;obtain⟨gs,M⟩:=Oe hF;have A:cH=k:=uF (xV M).1 hk;subst A;have N:∀(es c9:aa MapEntry),hy ai es c9->(match kC P dW cH es 0 with
   |some (some (_,x))=>R.ok (oF ok x.val true)
   |some none=>.ok (oF ok z false)
   |none=>R.no "lookup - key")=R.ok v ->
   (∃j x,(Instr.findKey dW cH c9).run P w = .ok (some (j,x)) w/\bF ai v (oF ok x true)) \/
   ((Instr.findKey dW cH c9).run P w = .ok none w/\(zeroValue e).run P w = .ok z w/\bF ai v (oF ok z false)):=by
  intro es c9 bP bE;cases V:kC P dW cH es 0 with
  |none=>grind
  |some r =>
   obtain⟨c,E,I⟩:=Fo M bP V w;rw[V]at bE;cases r with
   |none =>
    cases bE;obtain⟨i,aj,np,n9⟩:=aib cL;cases I;refine .inr ⟨E,x2 aj np w,?_⟩;cases ok <;> first|exact Fj n9 ai|exact .tuple (.cons (Fj n9 ai) (.cons (.bool _) .nil))
   |some q =>
    obtain⟨j,x⟩:=q;cases bE;obtain⟨dK,Z,rfl⟩:=I;obtain⟨_,aY,_⟩:=Fs  V j x rfl;obtain⟨e'',bc,_,aG,_⟩:=bP.get aY;rw[Z]at bc;cases bc;refine .inl ⟨j,dK.val,E,?_⟩;cases ok <;> first|exact aG|exact .tuple (.cons aG (.cons (.bool _) .nil))
 unfold QV at D
 split at D
 ·cases bp;have A:=Jo M true w;rcases N [] [] .nil D with⟨j,x,E,I⟩|⟨E,Z,I⟩
  ·refine⟨_,I,?_⟩;cases ok <;> simp[Instr.lookup,run_underlying ej,A,E,oF]
  ·refine⟨_,I,?_⟩;cases ok <;> simp[Instr.lookup,run_underlying ej,A,E,Z,oF]
 ·obtain⟨es,Tn,a9,tQ⟩:=Cs D;cases bp with
  |map aO =>
   obtain⟨c9,b0,bP,_⟩:=bb.map aO a9;have A:=Jo M c9.isEmpty w;have LU:=q8 (P:=P) b0 ab;rcases N es c9 bP tQ with⟨j,x,E,I⟩|⟨E,Z,I⟩
   ·refine⟨_,I,?_⟩;cases ok <;> simp[Instr.lookup,run_underlying ej,LU,A,E,oF]
   ·refine⟨_,I,?_⟩;cases ok <;> simp[Instr.lookup,run_underlying ej,LU,A,E,Z,oF]
 ·cases D
theorem WU:∀(l:aa Nat),GQ l=l.getLast?
 | []=>rfl
 | [_]=>rfl
 |_::y::xs=>by simp[GQ,WU (y::xs),List.getLast?_cons_cons]
theorem WV{b:Nat}:∀{es c9:aa MapEntry} {e:MapEntry},hy ai es c9->C6 b es=some e->∃A,c9.find? (·.born == b)=some A/\bF ai e.key A.key/\bF ai e.val A.val
 |_,_,_,.nil,h=>by cases h
 |x::xs,y::lU,e,.cons E N D M,h=>by
  unfold C6 at h;rcases aY:Nat.beq x.born b with _|_
  ·rw[aY]at h;obtain⟨A,Z,I⟩:=WV M h;have V:¬(y.born=b):=by rw[D];intro h;exact Nat.ne_of_beq_eq_false aY h
   exact⟨A,ab,I⟩
  ·rw[aY]at h;cases h;have:y.born=b:=by rw[D];exact gm aY
   exact⟨y,ab,E,N⟩
theorem d9.iter{w:World}(M:d9 B ai H w){m:aw Nat}{A st:Nat}{D:aa Nat}(V:ai b=some p)(N:H b=some (.iter m A D st)):
  ∃bG,w.heap[p.co]? = some (.mapIter bG A D.toArray st)/\pE ai m bG/\p.off=0/\B<=p.co:=by obtain⟨Z,E,bG,I,aM⟩:=M.obj b p _ V N;exact⟨bG,I,aM,E,Z⟩
theorem aiU{h:ae}{w:World}(bb:d9 B ai (u h) w)(bP:wu h v = .ok x)(aG:bF ai v c):
  ∃bM,bF ai x bM/\(Instr.entry c).run P w = .ok bM w:=by
 obtain⟨a,rfl,D⟩:=JP bP;obtain⟨au,D⟩:=jF D
 split at D
 ·rename_i r yl E st a9
  obtain⟨es,M,bp,I⟩:=Cs D;obtain⟨V,I⟩:=jF I
  split at I
  ·rename_i b aO
   obtain⟨e,aM,bc⟩:=R.kX I;cases bc;obtain⟨p,bg,_,rfl⟩:=aG.aaP;obtain⟨bG,b0,fw,iN,_⟩:=bb.iter bg a9;cases bG with
   |none=>exact fw.elim
   |some bG =>
    obtain⟨q,dt,rfl⟩:=fw;obtain⟨c9,Z,DK,_⟩:=bb.map dt bp;obtain⟨dK,b3,cy,ev⟩:=WV DK aM;refine⟨.tuple #[dK.key,dK.val],.tuple (.cons cy (.cons ev .nil)),?_⟩;have ha0:a.off=0:=gm au;have N:M=st:=gm V;rw[WU]at aO;have A:E.toArray.back? = some b:=ab
    have g1:=q8 (P:=P) b0 ab;have g2:=q8 (P:=P) Z ab;simp[Instr.entry,ha0,iN,g1,g2,A,N,b3]
  ·cases I
 ·cases D
theorem ams(N:P.underlying t=some (.slice e))(D:ag[0]? = some t)(A:AI v = .ok x)(M:bF ai v c)(I:TypeId)(w:World):
  ∃E,bF ai x E/\(Builtin.len_ ag I #[c]).run P w = .ok E w:=by
 unfold AI at A
 split at A
 ·cases A;cases M <;> exact⟨_,.int _ _,by simp[Builtin.len_,D,run_underlying N,goInt]⟩
 ·cases A
theorem amt{h:ae}{w:World}(bb:d9 B ai (u h) w)(M:P.underlying t=some (.map dW e))(D:ag[0]? = some t)(A:wK h v = .ok x)(E:bF ai v c)(o9:TypeId):
  ∃I,bF ai x I/\(Builtin.len_ ag o9 #[c]).run P w = .ok I w:=by
 unfold wK at A
 split at A
 ·cases A;cases E;exact⟨_,.int _ _,by simp[Builtin.len_,D,run_underlying M,goInt]⟩
 ·obtain⟨es,cH,N,h1⟩:=Cs A;cases h1;cases E with
  |map aO =>
   obtain⟨c9,V,Z,_⟩:=bb.map aO N;have g1:=q8 (P:=P) V ab;refine⟨_,.int _ _,?_⟩;simp[Builtin.len_,D,run_underlying M,goInt,g1,oD,Z.length]
 ·cases A
theorem bF.xZ{a:aw Addr}{l c:Nat}(h:bF ai (.slice a l c) v):∃A D,v = .slice A l D /\
  ((a=none/\A=none/\D=c) \/
   (∃b o aS p,a=some ⟨b,o,aS⟩/\ai b=some p/\A=some ⟨p.co,p.off+o,none⟩/\((aS=none/\D=c)\/(∃s,aS=some (s+1)/\p.es=s+1/\D=c+p.spare))) \/
   (∃b o g a0,a=some ⟨b,o,some 0⟩/\l=0/\c=0/\A=some ⟨g,a0,none⟩)):=by
 cases h with
 |rc=>grind
 |kU h=>grind
 |oG h E=>grind
 |oH b o g a0 c=>grind
theorem aaT{w:World}(bb:d9 B ai H w){o n:Nat}(aO:ai b=some p)(a1:H b=some (.cells cs ro))(E:ni n (nc cs o)=some l):
  ∃bY,dq ai l bY/\(loadCells ⟨p.co,p.off+o,none⟩ n).run P w = .ok bY.toArray w:=by
 obtain⟨c,e,fi,V,D⟩:=bb.cells aO a1;rw[ri,sd]at E
 split at E
 ·rename_i Z
  cases E;have A:o+n<=cs.length\/n=0:=ab
  rcases A with A | au
  ·obtain⟨bY,M,I,u⟩:=D.cut   A;refine⟨bY,I,?_⟩;have N:=run_loadCells_list (P:=P) w ⟨p.co,p.off+o,none⟩ bY (λj v aG=>by rw[ps];exact PM V ab)
   grind
  ·subst au;exact⟨[],by simpa using dq.nil,rfl⟩
 ·cases E
theorem aaU{a:Act}{h:ae}{w:World}(bb:d9 B ai (u h) w)(o:Oper)(V:Loc ai ak a.tmps o.op.operands){e:Hu}(A:oS P o.op=some (.red e))(D:pred P ak e h = .ok v):
  ∃c,bF ai v c/\(execOp a.eval o).run P w = .ok (.value c) w:=by
 have ex:∀{op:Op},o.op=op->execOp a.eval o=execOp a.eval { o with op:=op }:=λh=>by rw[<-h]
 cases Z:o.op <;> rw[Z]at A V <;> rw[ex Z] <;> (try simp only[oS,jE,l9,x3,Cc,reduceCtorEq,and_false,Jn]at A)
 case load t x =>
  obtain⟨bO,wZ,dG,M,aW⟩:=A;cases aW;obtain⟨dr,I,D⟩:=R.fd D;obtain⟨eb,ht,c,bc,E⟩:=PN bb wZ D (V.eg (by simp[Op.operands]) M I);exact⟨c,E,by simp[execOp,Instr.loadAt,ht,Instr.sureAddr,bc]⟩
 case lookup t x ue ok =>
  split at A
  ·rename_i dW e ej
   simp only[jE,l9]at A;obtain⟨z,cL,oi,M,cH,ap,aW⟩:=A;cases aW;obtain⟨aBW,I,D⟩:=R.fd D;obtain⟨aCN,g2,D⟩:=R.fd D;obtain⟨c,E,cy⟩:=amr bb ej cL D (V.eg (by simp[Op.operands]) M I) (V.eg (by simp[Op.operands]) ap g2);exact⟨c,E,by simp[execOp,cy]⟩
  ·cases A
 case entry it =>
  obtain⟨dG,M,aW⟩:=A;cases aW;obtain⟨dr,I,D⟩:=R.fd D;obtain⟨c,E,cy⟩:=aiU (P:=P) bb D (V.eg (by simp[Op.operands]) M I);exact⟨c,E,by simp[execOp,cy]⟩
 case makeMap t r=>cases r <;> cases A
 case next it b=>cases b <;> simp at A
 case call c =>
  obtain⟨i1,M,A⟩:=A;have aY:∀x∈c.args.toList,x∈(Op.call c).operands:=λx aY=>by simp only[Op.operands,Call.operands];grind
  have wN:c.args.map a.eval=⟨c.args.toList.map a.eval⟩:=ab
  split at A
  ·simp at A
  ·simp at A
  ·rename_i b aO
   obtain⟨cs,oU⟩:=NU (bn:=a.eval) aO o.type;unfold execOp;simp only[oU,wN];have N:∀x,(invoke (.builtin .len c.argTypes o.type cs) #[x])=(do pure (.value (<-Builtin.len_ c.argTypes o.type #[x])):Sem Next):=λ_=>rfl;unfold DJ at A
   split at A
   ·split at A
    ·obtain⟨t,ci,A⟩:=jE.1 A;rw[iX]at ci
     split at A
     ·rename_i dK ej
      cases A;obtain⟨BH,I,D⟩:=R.fd D;obtain⟨hH,eE,aK⟩:=V.Dq aY M I;obtain⟨bM,bc,E⟩:=ams ej (ag:=c.argTypes) ab D eE o.type w;rw[aK];exact⟨bM,bc,by simp only[N,Sem.run_bind,Sem.run_pure,Result.andThen_ok,E]⟩
     ·rename_i dW dK ej
      cases A;obtain⟨BH,I,D⟩:=R.fd D;obtain⟨hH,eE,aK⟩:=V.Dq aY M I;obtain⟨bM,bc,E⟩:=amt bb ej (ag:=c.argTypes) ab D eE o.type;rw[aK];exact⟨bM,bc,by simp only[N,Sem.run_bind,Sem.run_pure,Result.andThen_ok,E]⟩
     ·cases A
    ·cases A
   ·split at A <;> cases A
   ·split at A <;> cases A
   ·split at A
    ·simp at A
    ·cases A
   ·cases AM:rp P (g3 c.argTypes.toList 1) <;> rw[AM]at A
    ·simp only[mH,jE,x3]at A;obtain⟨_,_,_,_,_,_,_,_,_,A⟩:=A
     split at A <;> cases A
    ·cases A
   ·cases A
 all_goals (split at A <;> simp[jE]at A)
end
section
variable {P:Program} {ai:b5} {B:Nat}
def i2(P:Program)(B:Nat)(ai:b5)(H:fp)(w:World)(U:Nat)(r:fq)(s:Sem Next):Prop :=
 ∃v ac Y bn c ba,r = .val v ac Y/\bF bn v c/\cx B ai H w U Y bn (u ac) ba/\(s.run P w = .ok (.value c) ba\/(s.run P w = .ok .skip ba/\c=undef))
theorem tl:bF ai jT undef:=.tuple .nil
theorem ap6{h:ae}{w:World}(bb:d9 B ai (u h) w)(U:Nat){n:Nat}(bv:jI P t=some n)(bP:aU h n x y = .ok ac)(aY:bF ai x dG)(cd:bF ai y ic):
  ∃ba,(Instr.storeAt t dG ic).run P w = .ok () ba/\cx B ai (u h) w U U ai (u ac) ba:=by
 obtain⟨Z,rfl,aM⟩:=JP bP;obtain⟨m8,M⟩:=jF aM;obtain⟨p,A,N,rfl⟩:=aY.O0;obtain⟨pa,of,aS⟩:=Z;simp only at A N M;subst A;have V:=cd.cells;obtain⟨ba,D,I⟩:=Jz (P:=P) bb U N M V;refine⟨ba,?_,I⟩;have E:ic.cells.size=n:=by rw[<-EW,<-V.length,<-oD];exact gm m8
 simp only[Instr.storeAt,Instr.sureAddr,storeVar,Sem.run_bind,Sem.run_pure,Result.andThen_ok,kg bv,E,ne_eq,not_true,ff,D]
theorem uJ{w:World}{r:Nat}{o a0:Obj}(h:w.heap[r]? = some a0)(A:∀c e f,a0≠.cells c e f):(setObj r o).run P w = .ok () { w with heap:=w.heap.setIfInBounds r o }:=by
 cases a0 <;> first
  |(exact ab)
  |simp[setObj,Sem.run,h]
theorem cx.set{h:ae}{w:World}(D:d9 B ai (u h) w)(U:Nat){o:fJ}{c:Obj}(I:ai b=some p)(E:u h b=some o)(M:B<=p.co)(N:(w.heap[p.co]?).isSome)(A:∀ba:World,ba.heap[p.co]? = some c->kY B ai ba p a0):cx B ai (u h) w U U ai (u (F h b a0)) { w with heap:=w.heap.setIfInBounds p.co c }:=by
 rw[uO];refine cx.change U D I E M (by simp) ?_ rfl .here rfl (A _ ?_)
 all_goals grind
theorem hy.app{es c9:aa MapEntry}{e A:MapEntry}(h:hy ai es c9)(E:bF ai e.key A.key)(I:bF ai e.val A.val)(D:A.born=e.born):hy ai (es++[e]) (c9++[A]):=by
 match h with
 | .nil=>exact .cons E I D .nil
 | .cons a b c t=>exact .cons a b c (hy.app t E I D)
theorem XG{k v di E:X}:∀{es c9:aa MapEntry} {i:Nat},hy ai es c9->bF ai k di->bF ai v E->hy ai (Ha es i k v) (c9.modify i λe=>{ e with key:=di,val:=E })
 |_,_,i,.nil,_,_=>by cases i <;> exact .nil
 |_,_,0,.cons a b c t,A,D=>.cons A D c t
 |_,_,i+1,.cons a b c t,A,D=>.cons a b c (XG  t A D)
theorem XH:∀{es c9:aa MapEntry} {i:Nat},hy ai es c9->hy ai (Lg es i) (c9.eraseIdx i)
 |_,_,i,.nil=>by cases i <;> exact .nil
 |_,_,0,.cons a b c t=>t
 |_,_,i+1,.cons a b c t=>.cons a b c (XH  t)
end
theorem XI{a b:Addr}(h:Ag a b=true):a=b:=by
 obtain⟨x,y,z⟩:=a;obtain⟨Z,V,I⟩:=b;unfold Ag at h;rw[eB,eB]at h;obtain⟨⟨M,E⟩,N⟩:=h;have D:=gm M;have A:=gm E;simp only at D A;subst D A;cases z <;> cases I <;> simp at N
 all_goals grind
theorem atS{a b:Int}(h:f2 a b=true):a=b:=by rw[kT]at h;grind
theorem YU(h:qu x y=true):x=y:=by
 unfold qu at h
 split at h <;> (try(split at h)) <;> (try(cases h;done)) <;> (try rfl)
 ·grind
 ·simp only[eB]at h;rw[Ga.1 h.1,atS h.2]
 ·rw[XI h]
 ·simp only[eB]at h;rw[gm h.1,gm h.2]
 ·simp only[eB]at h;rw[XI h.1.1,gm h.1.2,gm h.2]
 ·rw[gm h]
 ·rw[gm h]
theorem Ct:∀{x y:aa X},qv x y=true->x=y
 | [],[],_=>rfl
 |a::x,b::y,h=>by simp only[qv,eB]at h;rw[YU h.1,Ct h.2]
 | [],_::_,h=>by simp[qv]at h
 |_::_,[],h=>by simp[qv]at h
theorem YV(h:oK x y=true):x=y:=by
 unfold oK at h
 split at h
 ·split at h
  ·rw[Ct h]
  grind
 ·split at h
  ·rw[Ct h]
  grind
 ·split at h
  ·simp only[eB]at h;rw[gm h.1.1,Ct h.1.2,Ct h.2]
  grind
 ·exact YU h
section
variable {P:Program} {ai:b5} {B:Nat}
theorem aiV(q:Question)(w:World):∃n d,(choose q).run P w = .ok n { w with drawn:=d }/\w.drawn<=d:=by
 simp only[choose,Sem.run]
 split
 all_goals grind
theorem ain{q:Question}{f:Nat->Sem X}{w:World}(D:∀n d,(f n).run P { w with drawn:=d } = .ok v { w with drawn:=d }):∃d,(choose q >>= f).run P w = .ok v { w with drawn:=d }/\w.drawn<=d:=by
 obtain⟨n,d,h,A⟩:=aiV  q w;refine⟨d,?_,A⟩;rw[Sem.run_bind,h,Result.andThen_ok]
 grind
theorem d9.drawn{H:fp}{w:World}(A:d9 B ai H w)(d:Nat):d9 B ai H { w with drawn:=d }:=A.world ab ab
theorem cx.from{w:World}(A:w.drawn<=d)(h:cx B ai H { w with drawn:=d } ao aj bn gU ba):cx B ai H w ao aj bn gU ba :=
 ⟨h.rel,h.agree,h.size,h.os,⟨h.tape.1,h7 A h.tape.2⟩,h.output,h.frame,h.own,h.le⟩
theorem ahM(k:X)(w:World):∃d,(Instr.keyThatStays k k).run P w = .ok k { w with drawn:=d }/\w.drawn<=d:=by
 unfold Instr.keyThatStays
 split
 ·exact⟨w.drawn,rfl,J⟩
 ·refine ain λn d=>?_;simp only[ite_self,Sem.run_pure]
theorem amu{h:ae}{w:World}(bb:d9 B ai (u h) w)(U:Nat){m:X}(ej:P.underlying t=some (.map dW e))(vr:mK P dW h m k x = .ok ac)(bp:bF ai m oi)(hk:bF ai k cH)(aY:bF ai x dG):
  ∃ba,(Instr.mapUpdate t oi cH dG).run P w = .ok () ba/\cx B ai (u h) w U U ai (u ac) ba:=by
 obtain⟨hF,h1⟩:=jF vr;obtain⟨gs,E⟩:=Oe hF;have AZ:cH=k:=uF (xV E).1 hk;subst AZ
 split at h1
 ·rename_i r
  obtain⟨es,A,a9,ap⟩:=Cs h1;cases bp with
  |map aO =>
   rename_i p
   obtain⟨c9,b0,N,en⟩:=bb.map aO a9;have D:=Jo E false w;have V:=q8 (P:=P) b0 ab
   split at ap
   ·rename_i i e Z
    obtain⟨aq,aM⟩:=jF ap;cases aM;obtain⟨c,bc,b3⟩:=Fo E N Z w;obtain⟨dK,cy,rfl⟩:=b3;obtain⟨_,A0,I⟩:=Fs  Z i e rfl;obtain⟨e'',ev,hkv,_,_⟩:=N.get A0;rw[cy]at ev;cases ev;have M:dK.key=cH:=(uF (xV I).2 hkv).trans (YV aq);obtain⟨d,js,To⟩:=ahM (P:=P) cH w;have hei:c9.toArray[i]? = some dK:=ab
    have F:=uJ (P:=P) (w:={ w with drawn:=d }) (o:=.map (c9.toArray.modify i λe=>{ e with key:=cH,val:=dG }) A) b0 ab;refine⟨{ w with drawn:=d,heap:=w.heap.setIfInBounds p.co (.map (c9.toArray.modify i λe=>{ e with key:=cH,val:=dG }) A) },?_,?_⟩
    ·simp only[Instr.mapUpdate,Sem.run_bind,run_underlying ej,Result.andThen_ok,V,D,bc,hei,E8,Jj,M,js,F]
    ·refine cx.from  To (cx.set (bb.drawn d) U aO a9 en ab λba pN=>⟨en,_,?_,XG  N hk aY⟩)
     grind
   ·rename_i Z
    cases ap;obtain⟨c,bc,b3⟩:=Fo E N Z w;cases b3;have F:=uJ (P:=P)  (o:=.map (c9.toArray.push { key:=cH,val:=dG,born:=A }) (A+1)) b0 ab;refine⟨{ w with heap:=w.heap.setIfInBounds p.co (.map (c9.toArray.push { key:=cH,val:=dG,born:=A }) (A+1)) },?_,?_⟩
    ·simp only[Instr.mapUpdate,Sem.run_bind,run_underlying ej,Result.andThen_ok,V,D,bc,F]
    ·refine cx.set bb U aO a9 en ab λba pN=>⟨en,c9++[{ key:=cH,val:=dG,born:=A }],?_,?_⟩
     ·grind
     ·rw[kh];exact N.app hk aY rfl
   ·cases ap
 ·cases h1
theorem zR(o:Obj)(w:World):(newObj o).run P w = .ok w.heap.size { w with heap:=w.heap.push o }:=rfl
theorem WA{h:ae}{w:World}(M:d9 B ai (u h) w){U:Nat}(Z:ai U=none){m:aw Nat}(N:pE ai m bG)(c:Nat):
  ∃bn,bF bn (.pointer (some ⟨U,0,none⟩)) (.pointer (some ⟨w.heap.size,0,none⟩)) /\
   cx B ai (u h) w U (U+1) bn (u (F h U (.iter m c [] c))) { w with heap:=w.heap.push (.mapIter bG c #[] c) }:=by
 have V:(⟨w.heap.size,0,0,0⟩:Place).co=w.heap.size:=rfl;have E:Sub ai (λk=>if k=U then some ⟨w.heap.size,0,0,0⟩else ai k):=λb q aO=>ab
 have D:(λk=>if k=U then some (⟨w.heap.size,0,0,0⟩:Place)else ai k) U=some ⟨w.heap.size,0,0,0⟩:=by simp
 have I:=bF.ptr (ai:=λk=>if k=U then some (⟨w.heap.size,0,0,0⟩:Place)else ai k) (o:=0) D;refine⟨_,I,?_⟩;rw[uO];have A:=Made.push w (.mapIter bG c #[] c);exact cx.make M Z A.size A.dV A.os A.tape A.output V ⟨M.base,rfl,bG,A.new,N.mono E⟩
theorem aiW{h:ae}{w:World}(I:d9 B ai (u h) w){U:Nat}(bv:ai U=none)(ci:rk P t=true)(Z:bF ai v c){K:bR}(A:dD (sk h U v) K):
  i2 P B ai (u h) w U (sk h U v) (do pure (.value (<-Instr.range t c))):=by
 obtain⟨dW,zn,N⟩:=N4 ci;unfold sk at *
 split at A
 ·cases Z;obtain⟨bn,M,D⟩:=WA I bv (m:=none) (bG:=none) trivial 0;refine⟨_,_,_,bn,_,_,rfl,M,D,.inl ?_⟩;simp[Instr.range,run_underlying N,zR]
 ·split at A
  ·rename_i a9
   cases Z with
   |map V =>
    obtain⟨c9,b0,bP,en⟩:=I.map V a9;obtain⟨bn,M,D⟩:=WA I bv (m:=some _) (bG:=some _) ⟨_,V,rfl⟩ _;refine⟨_,_,_,bn,_,_,rfl,M,D,.inl ?_⟩;have E:=q8 (P:=P) b0 ab;simp[Instr.range,run_underlying N,zR,E]
  ·exact A.elim
 ·exact A.elim
theorem N8(A:aa Nat):∀{es c9:aa MapEntry},hy ai es c9->hy ai (leftOf A es) (c9.filter λe=>!A.contains e.born)
 |_,_,.nil=>.nil
 |x::xs,y::Z,.cons M N I E=>by
  have D:(A.any (Nat.beq x.born))=A.contains y.born:=by
   rw[I,zK];simp only[xP,List.contains_iff_exists_mem_beq,Nat.beq_eq]
   grind
  unfold leftOf;rw[D,q4];cases V:A.contains y.born
  ·simp only[mH,Bool.not_false,if_true];exact .cons M N I (N8 A E)
  ·simp only[qm,Bool.not_true,nP,ff];exact N8 A E
theorem hy.mem:∀{es c9:aa MapEntry} {A:MapEntry},hy ai es c9->A∈c9->∃e∈es,bF ai e.key A.key/\bF ai e.val A.val/\A.born=e.born
 |_,_,A,.cons (e:=x) D V M I,h=>by
  rcases gQ.1 h with rfl|h
  ·exact⟨x,by simp,D,V,M⟩
  ·obtain⟨e,N,E⟩:=hy.mem I h;exact⟨e,by simp[N],E⟩
theorem aio{n:Nat}(A:0<n)(w:World):∃i d,(choose (.mapNext n)).run P w = .ok i { w with drawn:=d }/\w.drawn<=d/\i<n:=by
 simp only[choose,Sem.run,Question.forced,Question.cut]
 by_cases h:n<=1
 ·exact⟨0,w.drawn,by simp[h],J,A⟩
 ·exact⟨w.tape w.drawn (.mapNext n) % n,w.drawn+1,ab,J,zN _ A⟩
theorem ap7{h:ae}{w:World}(bb:d9 B ai (u h) w)(U:Nat)(aG:bF ai v c){s:al}{K:bR}(hF:vm s h U v K)(o9:TypeId):
  ∃dF ac bn bM ba,K dF ac U/\bF bn dF bM/\cx B ai (u h) w U U bn (u ac) ba/\(Instr.next c false o9).run P w = .ok bM ba:=by
 obtain⟨it,r,E,st,Tn,A,es,rfl,rfl,a9,bp,rD,au,V⟩:=hF;obtain⟨p,_,bg,rfl⟩:=aG.O0;obtain⟨bG,b0,fw,iN,hBi⟩:=bb.iter bg a9;cases bG with
 |none=>exact fw.elim
 |some bG =>
  obtain⟨q,dt,rfl⟩:=fw;have g1:=q8 (P:=P) b0 ab;obtain⟨c9,pN,bP,en⟩:=bb.map dt bp;have g2:=q8 (P:=P) pN ab;have N:(!A.toArray.isEmpty&&!c9.toArray.isEmpty&&c9.toArray.all (λe=>decide (e.born≥st)))=false:=by
   unfold KF at rD;simp only[Bool.or_eq_true]at rD;rcases rD with(V|V)|V
   ·grind
   ·simp[List.isEmpty_iff]at V;subst V;cases bP;simp
   ·obtain⟨e,ap,aM⟩:=xP.1 V;obtain⟨k,hk⟩:=EV ap;obtain⟨I,bc,_,_,b3⟩:=bP.get hk;have ct:e.born<st:=by simpa[v6]using aM
    grind
  have D:=N8 A bP;have M:(c9.toArray.filter λe=>!A.toArray.contains e.born)=(c9.filter λe=>!A.contains e.born).toArray:=by simp
  generalize bE:(c9.filter λe=>!A.contains e.born)=ek at D M;cases bA:leftOf A es with
  |nil =>
   rw[bA]at D;cases D;refine⟨_,_,ai,_,w,au bA,.tuple (.cons (.bool _) .nil),cx.refl U bb,?_⟩;simp only[Instr.next,iN,nS,Sem.run_bind,g1,g2,Result.andThen_ok,N,M,nP,ff];simp[choose,Sem.run,Question.forced]
  |cons aE l =>
   have Z:∀I∈ek,∃e∈leftOf A es,bF ai e.key I.key/\bF ai e.val I.val/\I.born=e.born:=λI h=>D.mem h;have b3:∀I∈ek,I.born<E:=λI h=>by obtain⟨e,ap,_,_,aM⟩:=Z I h;rw[aM];exact(V e ap).1
   have eS:ek≠[]:=by
    intro h;subst h;have:=D.length
    grind
   have ar:(ek.toArray.filter λe=>decide (e.born<E))=ek.toArray:=by apply Array.ext';rw[Array.toList_filter];exact zG.2 ab
   have aT:(ek.toArray.filter λe=>decide (e.born≥E))=#[]:=by apply Array.ext';rw[Array.toList_filter];exact zE.2 ab
   have ayF:ek.toArray.isEmpty=false:=ab
   obtain⟨i,d,A1,To,aj⟩:=aio (P:=P) (n:=ek.length) ab w;obtain⟨I,HB⟩:∃I,ek[i]? = some I:=⟨ek[i],ab⟩
   obtain⟨e,agH,hk,vs,aO⟩:=Z I ab;have F:=uJ (P:=P) (w:={ w with drawn:=d }) (o:=.mapIter (some q.co) E (A.toArray.push I.born) Tn) b0 ab;rw[List.push_toArray]at F;refine⟨_,_,ai,.tuple #[.bool true,I.key,I.val],{ w with drawn:=d,heap:=w.heap.setIfInBounds p.co (.mapIter (some q.co) E (A++[I.born]).toArray Tn) },(V e agH).2,.tuple (.cons (.bool _) (.cons hk (.cons vs .nil))),?_,?_⟩
   ·refine cx.from  To (cx.set (bb.drawn d) U bg a9 hBi ab λba pN=>⟨hBi,iN,some q.co,?_,⟨q,dt,rfl⟩⟩)
    grind
   ·simp only[Instr.next,iN,nS,Sem.run_bind,g1,g2,Result.andThen_ok,N,M,nP,ff,ar,aT,ayF];simp[A1,HB,F]
theorem Wg{h:ae}{w:World}(bb:d9 B ai (u h) w){a:aw Addr}{c s:Nat}{k:aa X->R fq}{r:fq}(aG:bF ai (.slice a len c) oj)(bp:m<=len)(N:lg h a (Nat.mul m s) k = .ok r):∃l,k l = .ok r/\l.length=m*s/\∀d,∃bY,dq ai l bY/\(Builtin.firstCells s m oj).run P { w with drawn:=d } = .ok bY.toArray { w with drawn:=d }:=by
 obtain⟨eb,bM,rfl,D⟩:=aG.xZ;unfold lg at N;rcases zI (Nat.mul m s)with au|Ln
 ·rw[au]at N;have Tp:m*s=0:=au;refine⟨[],N,ab,λd=>⟨[],.nil,?_⟩⟩;cases eb with
  |none=>rfl
  |some x=>simp only[Builtin.firstCells,Tp];rfl
 ·obtain⟨q,dt⟩:∃q,Nat.mul m s=q+1:=⟨Nat.mul m s-1,J⟩
  have M:Option.casesOn (motive:=λ_=>R fq) a (.no "read - nil") (λa=>cellsOf h a.block (λcs _=>R.of "read - out of block" (ni (Nat.mul m s) (nc cs a.off)) k)) = .ok r:=by rw[dt]at N ⊢;omega
  have aA7:0<m:=ab
  rcases D with⟨rfl,_,_⟩|⟨b,o,aS,p,rfl,aO,rfl,_⟩|⟨b,o,g,a0,rfl,pO,_,rfl⟩
  ·cases M
  ·obtain⟨cs,ro,a1,V⟩:=Fr M;obtain⟨l,A,e1⟩:=R.kX V;have I:l.length=m*s:=by
    rw[ri]at A
    grind
   refine⟨l,e1,I,λd=>?_⟩;obtain⟨bY,Z,E⟩:=aaT  (bb.drawn d) aO a1 A;exact⟨bY,Z,E⟩
  ·omega
theorem aj9{h:ae}{w:World}(bb:d9 B ai (u h) w)(U:Nat){s:Nat}(lQ:ag[0]? = some t)(aq:CN P t=some s){r:fq}(E:RO s h U x y = .ok r)(aY:bF ai x dG)(cd:bF ai y ic)(o9:TypeId):
  i2 P B ai (u h) w U r (do pure (.value (<-Builtin.copy_ ag o9 #[dG,ic]))):=by
 obtain⟨e,ej,Z⟩:=Wz aq;unfold RO at E
 split at E
 ·rename_i a len cap
  split at E
  ·rename_i b n kZ
   obtain⟨eb,bM,rfl,LV⟩:=aY.xZ;have Tq:=cd;obtain⟨ce,c'',rfl,hcy⟩:=cd.xZ;obtain⟨l,A,M,V⟩:=Wg (P:=P) bb Tq (Nat.min_le_left n len) E;obtain⟨bY,I,D⟩:=V w.drawn;have N:∀w,(Builtin.lenOf (.slice ce n c'')).run P w = .ok n w:=λ_=>rfl
   split at A
   ·cases A;cases I;refine⟨_,_,_,ai,_,w,rfl,.int _ _,cx.refl U bb,.inl ?_⟩;simp[Builtin.copy_,lQ,run_underlying ej,N,kg Z,D,goInt];cases eb <;> simp[storeCells]
   ·split at A
    ·rename_i eS _ a
     obtain⟨ac,pN,A⟩:=R.fd A;cases A;rcases LV with⟨h1,_⟩|⟨Ew,IF,aS,p,h1,aO,rfl,_⟩|⟨_,_,g,a0,h1,pO,_,rfl⟩
     ·cases h1
     ·cases h1;obtain⟨ba,js,kp⟩:=Jz (P:=P) bb U aO pN I;refine⟨_,_,_,ai,_,ba,rfl,.int _ _,kp,.inl ?_⟩;simp[Builtin.copy_,lQ,run_underlying ej,N,kg Z,D,goInt,js]
     ·exfalso;rw[pO,Nat.min_zero,mc]at M
      grind
    ·cases A
  ·cases E
 ·cases E
theorem aiX{h:ae}{w:World}(N:d9 B ai (u h) w)(U:Nat)(A:ag[0]? = some t)(hty:rk P t=true\/m9 P t=true){r:fq}(D:Gw P t h U x = .ok r)(aY:bF ai x dG)(o9:TypeId):
  i2 P B ai (u h) w U r (do pure (.value (<-Builtin.clear_ ag o9 #[dG]))):=by
 have V:∃d,P.underlying t=some d:=by
  rcases hty with h|h
  ·obtain⟨k,e,h⟩:=N4 h;grind
  ·obtain⟨e,h⟩:=NW h;grind
 obtain⟨d,V⟩:=V;unfold Gw at D
 split at D
 ·cases D;cases aY;exact⟨_,_,_,ai,_,w,rfl,tl,cx.refl U N,.inl (by simp[Builtin.clear_,A,run_underlying V];rfl)⟩
 ·obtain⟨es,Z,a9,E⟩:=Cs D;cases E;cases aY with
  |map aO =>
   rename_i p
   obtain⟨c9,b0,bP,en⟩:=N.map aO a9;have LU:=q8 (P:=P) b0 ab;have F:=uJ (P:=P)  (o:=.map #[] Z) b0 ab;refine⟨_,_,_,ai,_,{ w with heap:=w.heap.setIfInBounds p.co (.map #[] Z) },rfl,tl,cx.set N U aO a9 en ab λba M=>⟨en,[],M,.nil⟩,.inl ?_⟩;simp[Builtin.clear_,A,run_underlying V,LU,F];rfl
 ·cases D;obtain⟨eb,bM,rfl,I⟩:=aY.xZ;rcases I with⟨_,rfl,_⟩|⟨_,_,_,_,h,_⟩|⟨_,_,_,_,h,_⟩
  ·exact⟨_,_,_,ai,_,w,rfl,tl,cx.refl U N,.inl (by simp[Builtin.clear_,A,run_underlying V];rfl)⟩
  ·cases h
  ·cases h
 ·rename_i a n cap
  obtain⟨eb,bM,rfl,I⟩:=aY.xZ;cases n with
  |zero =>
   cases D;refine⟨_,_,_,ai,_,w,rfl,tl,cx.refl U N,.inl ?_⟩;cases eb <;> simp[Builtin.clear_,A,run_underlying V] <;> rfl
  |succ m =>
   have D:KG P t h U a (Nat.succ m) = .ok r:=D;obtain⟨e,bP,E⟩:=R.kX D;obtain⟨xr,cL,ap⟩:=R.kX E;obtain⟨ac,M,aM⟩:=R.fd ap;cases aM;obtain⟨i,z,aj,np,n9,rfl⟩:=zP cL;have vr:=Fi bP;rcases I with⟨E,_⟩|⟨Ew,IF,aS,p,E,aO,rfl,_⟩|⟨_,_,g,a0,E,pO,_,rfl⟩
   ·cases E
   ·cases E;obtain⟨ba,js,kp⟩:=Jz (P:=P) N U aO M (Cy (xU n9 ai) (Nat.succ m));refine⟨_,_,_,ai,_,ba,rfl,tl,kp,.inl ?_⟩;simp[Builtin.clear_,A,run_underlying vr,x2 aj np,zO,js];rfl
   ·cases pO
 ·cases D
theorem aip{h:ae}{w:World}(bb:d9 B ai (u h) w)(U:Nat)(N:ag[0]? = some t){m:X}{r:fq}(bj:F8 P t h U m k = .ok r)(bp:bF ai m oi)(hk:bF ai k cH)(o9:TypeId):
  i2 P B ai (u h) w U r (do pure (.value (<-Builtin.delete_ ag o9 #[oi,cH]))):=by
 unfold F8 at bj
 split at bj
 ·rename_i dW e ej
  obtain⟨hF,V⟩:=jF bj;obtain⟨gs,E⟩:=Oe hF;have AZ:cH=k:=uF (xV E).1 hk;subst AZ;unfold PL at V
  split at V
  ·rename_i b
   obtain⟨es,D,a9,Z⟩:=Cs V;cases bp with
   |map aO =>
    rename_i p
    obtain⟨c9,b0,bP,en⟩:=bb.map aO a9;have A:=Jo E c9.isEmpty w;have M:=q8 (P:=P) b0 ab
    split at Z
    ·rename_i i e bE
     cases Z;obtain⟨c,bc,b3⟩:=Fo E bP bE w;obtain⟨dK,cy,rfl⟩:=b3;have F:=uJ (P:=P)  (o:=.map (c9.eraseIdx i).toArray D) b0 ab;have ct:i<c9.length:=ab
     refine⟨_,_,_,ai,_,{ w with heap:=w.heap.setIfInBounds p.co (.map (c9.eraseIdx i).toArray D) },rfl,tl,cx.set bb U aO a9 en ab λba pN=>⟨en,c9.eraseIdx i,?_,XH bP⟩,.inl ?_⟩
     ·omega
     ·simp[Builtin.delete_,N,run_underlying ej,M,A,bc,F,Array.eraseIdxIfInBounds,ct];rfl
    ·rename_i bE
     cases Z;obtain⟨c,bc,b3⟩:=Fo E bP bE w;cases b3;have F:=uJ (P:=P)  (o:=.map c9.toArray D) b0 ab;have I:(w.heap.setIfInBounds p.co (.map c9.toArray D))=w.heap:=ab
     rw[I]at F;refine⟨_,_,_,ai,_,w,rfl,tl,cx.refl U bb,.inl ?_⟩;simp[Builtin.delete_,N,run_underlying ej,M,A,bc,F];rfl
    ·cases Z
  ·cases V
 ·cases bj
end
section
variable {P:Program} {ai:b5} {B:Nat}
theorem cx.less{H gU:fp}{w:World}(U:Nat)(D:d9 B ai H w)(M:∀b o,gU b=some o->H b=some o):cx B ai H w U U ai gU w where
 rel:=D.less M
 agree:=ab
 size:=J
 os:=rfl
 tape:=.here
 output:=rfl
 frame:=ab
 own:=λk ⟨b,p,I,A,N,E⟩=>by obtain⟨o,V⟩:=lI.1 A;exact .inl ⟨b,p,I,ab,N,E⟩
 le:=J
theorem cx.atT{w:World}{U:Nat}{eu:Place}{o:fJ}(N:d9 B ai H w)(bv:ai U=none)(aO:ai b=some p)(fw:H b=some o)(en:B<=p.co)(hH':∀x,gU x=if x=b then none else H x)(bg:eu.co=p.co)(lP:ba.heap.size=w.heap.size)(jg:∀k,k≠p.co->ba.heap[k]? = w.heap[k]?)(wY:ba.os=w.os)(Hv:qT w ba)(Tg:ba.output=w.output)(pP:kY B (λk=>if k=U then some eu else ai k) ba eu a0):
  cx B ai H w U (U+1) (λk=>if k=U then some eu else ai k) (gU.put U a0) ba:=by
 have mL:Sub ai (λk=>if k=U then some eu else ai k):=λx q D=>ab
 have A:∀x,x≠U->((gU.put U a0) x).isSome->(H x).isSome/\x≠b:=λx e h=>by
  simp only[fp.put,e,ff,hH']at h
  grind
 refine⟨⟨by have:=N.base;omega,?_,?_,?_⟩,λx D=>?_,J,wY,Hv,Tg,?_,?_,J⟩
 ·intro x q y D E
  by_cases e:x=U
  ·subst e;simp[fp.put]at D E;subst D;subst E;exact pP
  ·obtain⟨V,M⟩:=A x e ab;simp only[e,ff]at D;simp only[fp.put,e,ff,hH',M]at E;refine(N.obj x q y D E).mono mL (jg _ λZ=>M ?_);exact N.inj x b q p D aO V ab J Z
 ·intro x y q jy D E aq nn I Z
  by_cases e:x=U <;> by_cases dK:y=U
  ·omega
  ·subst e;simp at D;subst D;obtain⟨V,M⟩:=A y dK nn;simp only[dK,ff]at E;exact absurd (N.inj y b jy p E aO V ab J J) M
  ·subst dK;simp at E;subst E;obtain⟨V,M⟩:=A x e aq;simp only[e,ff]at D;exact absurd (N.inj x b q p D aO V ab J J) M
  ·obtain⟨V,_⟩:=A x e aq;obtain⟨M,_⟩:=A y dK nn;simp only[e,ff]at D;simp only[dK,ff]at E;exact N.inj x y q jy D E V M I Z
 ·intro x aq
  by_cases e:x=U
  ·grind
  ·simp only[e,ff];exact N.kH x ab
 ·grind
 ·intro k hk rD;exact jg k λe=>rD ⟨b,p,aO,ab,e.symm,J⟩
 ·rintro k ⟨x,q,D,aq,rfl,I⟩
  by_cases e:x=U
  ·subst e;simp at D;subst D;exact .inl ⟨b,p,aO,ab,bg.symm,I⟩
  ·simp only[e,ff]at D;exact .inl ⟨x,q,D,ab,rfl,I⟩
theorem XJ{n:Nat}(A:n<=1000000):∀(r c:Nat),c<=1250192->Builtin.growBy n r c<=1250192
 |0,c,h=>h
 |r+1,c,h=>by
  unfold Builtin.growBy
  split
  ·exact h
  ·exact XJ A r _ J
theorem nextslicecap_le{c:Nat}(A:jH<=1000000)(D:c<jH):Builtin.nextslicecap jH c<=2000000:=by
 unfold Builtin.nextslicecap
 split
 ·omega
 ·split
  ·omega
  ·exact h7 (XJ A 4 c J) J
theorem run_typeInfo{i:TypeInfo}(h:P.info? t=some i)(w:World):(typeInfo t).run P w = .ok i w:=by simp[typeInfo,h]
theorem YW{h:ae}{U s:Nat}{r:fq}(D:qw h U s l jH = .ok r):
  ∃A,s=A+1/\r = .val (.slice (some ⟨U,0,some (A+1)⟩) jH jH) (F h U (.cells l false)) (U+1):=by
 unfold qw at D;cases s with
 |zero=>cases D
 |succ A=>grind
theorem WW{h M:ae}{w:World}(bb:d9 B ai (u h) w){U s:Nat}(bv:ai U=none)(dO:∀b o,u M b=some o->u h b=some o){r:fq}(hk:qw M U s l jH = .ok r)(Z:dq ai l bY){z:aa X}(cL:z.length=s){A:Nat}(a1:jH<=A)(d:Nat)(bj:w.drawn<=d)(e:TypeId):
  ∃v ac Y bn,r = .val v ac Y/\bF bn v (.slice (some ⟨w.heap.size,0,none⟩) jH A) /\
   cx B ai (u h) w U Y bn (u ac) { w with drawn:=d,heap:=w.heap.push (.cells (bY++gI (A-jH) z).toArray e) }:=by
 obtain⟨ly,rfl,rfl⟩:=YW hk
 let p:Place:=⟨w.heap.size,0,A-jH,ly+1⟩
 have D:(λk=>if k=U then some p else ai k) U=some p:=by simp
 have N:Sub ai (λk=>if k=U then some p else ai k):=λb q aO=>ab
 have aG:=bF.oG (ai:=λk=>if k=U then some p else ai k) (o:=0)  D rfl jH jH;have I:jH+p.spare=A:=ab
 rw[I]at aG;refine⟨_,_,_,_,rfl,aG,?_⟩;rw[uO];have M:=cx.less  U bb dO;refine M.trans ?_;have V:kY B (λk=>if k=U then some p else ai k) { w with drawn:=d,heap:=w.heap.push (.cells (bY++gI (A-jH) z).toArray e) } p (.cells l false):=?_
 ·exact cx.make M.rel bv (by simp) ab rfl ⟨rfl,bj⟩ rfl rfl V
 refine⟨bb.base,rfl,(bY++gI (A-jH) z).toArray,e,0,0,ab,J,JE ?_,?_⟩
 ·have E:=Z.length;rw[I3 J];rw[E,hC];exact Z.mono N
 ·have E:=Z.length;simp only[List.size_toArray,jd,Fm,cL]
  grind
theorem amv{I:aa X}{c:Array X}{s:Nat}(D:pt ai cs c 0)(N:cs.length=len*s)(A:ni (len*s) (nc cs 0)=some I):
  ∃E,dq ai I E/\E=c.toList.take (len*s):=by
 rw[ri,sd,pk]at A
 split at A
 ·cases A;refine⟨_,?_,rfl⟩;obtain⟨bY,V,M,Z⟩:=D.cut (o:=0) (n:=len*s) J;have:bY=c.toList.take (len*s):=by
   apply pj
   grind
  rw[<-this];simpa using M
 ·cases A
theorem aiY{h:ae}{w:World}(bb:d9 B ai (u h) w){U:Nat}(bv:ai U=none){s n:Nat}{a:aw Addr}(aY:bF ai (.slice a len cap) dG)(gz:new.length=n*s){z:aa X}(cL:z.length=s)(e:TypeId){r:fq}(I:g0 s h U a len cap n new = .ok r):
  ∃eb bM,dG = .slice eb len bM /\
   ((len+n<=bM/\∀A,dq ai new A->∃v ac Y bn ba,r = .val v ac Y/\bF bn v (.slice eb (len+n) bM)/\cx B ai (u h) w U Y bn (u ac) ba /\
     (match eb with|some x=>(storeCells (x.add (len*s)) A).run P w = .ok () ba | none=>ba=w)) \/
    (bM<len+n/\len+n<=1000000/\∀d D,w.drawn<=d->len+n<=D->∃E:aa X,(Builtin.firstCells s len dG).run P { w with drawn:=d } = .ok E.toArray { w with drawn:=d } /\
     ∀A,dq ai new A->∃v ac Y bn,r = .val v ac Y/\bF bn v (.slice (some ⟨w.heap.size,0,none⟩) (len+n) D) /\
      cx B ai (u h) w U Y bn (u ac) { w with drawn:=d,heap:=w.heap.push (.cells (E++A++gI (D-(len+n)) z).toArray e) })):=by
 obtain⟨eb,bM,rfl,oL⟩:=aY.xZ;refine⟨eb,bM,rfl,?_⟩;unfold g0 at I;cases rx:Nat.ble (Nat.add len n) cap with
 |true =>
  rw[rx]at I;have dO:len+n<=cap:=ma rx;have I:RN h U s a len cap (Nat.add len n) new = .ok r:=I;unfold RN at I
  left
  rcases oL with⟨rfl,rfl,rfl⟩|⟨b,o,aS,p,rfl,aO,rfl,n5⟩|⟨b,o,g,a0,rfl,pO,LW,rfl⟩
  ·cases I;exact⟨dO,λA _=>⟨_,_,_,ai,w,rfl,.rc _ _,cx.refl U bb,rfl⟩⟩
  ·have w0:bF ai (.slice (some ⟨b,o,aS⟩) (len+n) cap) (.slice (some ⟨p.co,p.off+o,none⟩) (len+n) bM):=by
    rcases n5 with⟨rfl,rfl⟩|⟨ly,rfl,DK,rfl⟩
    ·exact .kU aO _ _
    ·exact .oG aO DK _ _
   have tS:len+n<=bM:=J
   refine⟨tS,λA aT=>?_⟩;dsimp only at I
   split at I
   ·cases I;cases aT;exact⟨_,_,_,ai,w,rfl,w0,cx.refl U bb,rfl⟩
   ·obtain⟨ac,pN,I⟩:=R.fd I;cases I;obtain⟨ba,js,kp⟩:=Jz (P:=P) bb U aO pN aT;refine⟨_,_,_,ai,ba,rfl,w0,kp,?_⟩;have:(⟨p.co,p.off+o,none⟩:Addr).add (len*s)=⟨p.co,p.off+(o.add (len.mul s)),none⟩:=by rw[ps,v5];rfl
    dsimp only
    grind
  ·subst pO LW;have mo:n=0:=J
   subst mo;have wQ:new=[]:=ab
   subst wQ;cases I;refine⟨J,λA aT=>?_⟩;cases aT;exact⟨_,_,_,ai,w,rfl,.oH _ _ _ _ _,cx.refl U bb,rfl⟩
 |false =>
  rw[rx]at I;obtain⟨fm,I⟩:=jF  I;simp only[eB]at fm;have RP:len+n<=1000000:=ma fm.2;have vt:cap<len+n:=by
   rcases h8 cap (len+n)with h|h
   ·exact h
   ·have:=B7 h
    grind
  rcases oL with⟨rfl,rfl,rfl⟩|⟨b,o,aS,p,rfl,aO,rfl,n5⟩|⟨b,o,g,a0,rfl,pO,LW,rfl⟩
  ·right
   refine⟨vt,RP,λd D bj yT=>⟨[],rfl,λA aT=>?_⟩⟩;exact WW bb bv ab I aT cL yT d bj e
  ·obtain⟨cs,ro,a1,I⟩:=Fr I;obtain⟨V,N,I⟩:=R.kX I;dsimp only at N I;have awn:∀d,∃E,dq ai V E/\(Builtin.firstCells s len (.slice (some ⟨p.co,p.off+o,none⟩) len bM)).run P { w with drawn:=d } = .ok E.toArray { w with drawn:=d }:=λd =>
    aaT  (bb.drawn d) aO a1 N
   have grow:bM<len+n->∀h1:ae,(∀b o,u h1 b=some o->u h b=some o)->qw h1 U s (kD V new) (Nat.add len n) = .ok r ->
     ∀d D,w.drawn<=d->len+n<=D->∃E:aa X,(Builtin.firstCells s len (.slice (some ⟨p.co,p.off+o,none⟩) len bM)).run P { w with drawn:=d } = .ok E.toArray { w with drawn:=d } /\
     ∀A,dq ai new A->∃v ac Y bn,r = .val v ac Y/\bF bn v (.slice (some ⟨w.heap.size,0,none⟩) (len+n) D) /\
      cx B ai (u h) w U Y bn (u ac) { w with drawn:=d,heap:=w.heap.push (.cells (E++A++gI (D-(len+n)) z).toArray e) }:=by intro _ h1 dO a9 d D bj yT;obtain⟨E,DL,tD⟩:=awn d;refine⟨E,tD,λA aT=>?_⟩;rw[kh]at a9;exact WW bb bv dO a9 (DL.append aT) cL yT d bj e
   rcases n5 with⟨rfl,rfl⟩|⟨ly,rfl,DK,rfl⟩
   ·grind
   ·dsimp only at I;obtain⟨M,hkg⟩:=jF I;simp only[eB]at M;obtain⟨⟨⟨⟨⟨hro,Tr⟩,ko⟩,HC⟩,rC⟩,ayG⟩:=M;have ayH:ro=false:=ab
    subst ayH;have Tr:o=0:=gm Tr;have ko:cs.length=len*s:=by rw[<-oD];exact gm ko
    have HC:ly+1=s:=gm HC;have rC:len=cap:=gm rC;subst rC Tr;have dO:∀x y,u (yy h b) x=some y->u h x=some y:=λx y HD=>by
     rw[Oq]at HD
     grind
    rcases h8 (len+p.spare) (len+n)with ct|eM
    ·grind
    ·left
     refine⟨eM,λA aT=>?_⟩;obtain⟨kv,hs1,rfl⟩:=YW hkg;have ayI:ly=kv:=J
     subst ayI;obtain⟨en,ayJ,c,dK,ao,aj,b0,jg,atU,agI⟩:=bb.obj b p _ aO a1;have DM:=aT.length;rw[HC]at DK;rw[ko,DK]at agI;have aBe:n*s<=p.spare*s:=qk s J;have aBf:(⟨p.co,p.off+0,none⟩:Addr).add (len*s)=⟨p.co,len*s,none⟩:=by rw[ps,ayJ];simp
     obtain⟨ba,js,Z⟩:=NT P p.co (len*s) dK ao aj A 0 c w b0 J J (λv aG=>XD (N6 aT ayG v aG))
     ·let eu:Place:=⟨p.co,0,p.spare-n,s⟩
      have KY:(λk=>if k=U then some eu else ai k) U=some eu:=by simp
      have mL:Sub ai (λk=>if k=U then some eu else ai k):=λb q aO=>ab
      have aG:=bF.oG (ai:=λk=>if k=U then some eu else ai k) (o:=0)  KY J (len+n) (len+n);have awo:len+n+eu.spare=len+p.spare:=ab
      rw[awo]at aG;have hpz:(⟨eu.co,eu.off+0,none⟩:Addr)=⟨p.co,p.off+0,none⟩:=ab
      rw[hpz]at aG;refine⟨_,_,_,_,ba,rfl,aG,?_,by dsimp only;grind⟩;rw[uO];refine cx.atT bb bv aO a1 en (λx=>Oq h b x) rfl Z.size Z.frame Z.os Z.tape Z.output ?_;refine⟨en,rfl,_,dK,ao,aj,Z.heap,?_,JE ?_,?_⟩
      ·grind
      ·obtain⟨E,DL,tT⟩:=amv atU ko N;simp only[nS];rw[kh];have hol:V.length=len*s:=by
        rw[DL.length,tT]
        grind
       have mp:(c.toList.take (len*s)++A++c.toList.drop (len*s+A.length)).take (V++new).length=E++A:=by
        rw[tT];apply List.take_left'
        grind
       rw[mp];exact(DL.append aT).mono mL
      ·simp only[kh,List.size_toArray,jd,ql,E1,EW,nS];have hol:V.length=len*s:=by
        rw[ri,sd]at N
        grind
       show min (len*s) c.size+A.length+(c.size-(len*s+A.length))=V.length+new.length+(p.spare-n)*s;rw[Nat.sub_mul];omega
  ·obtain⟨cs,ro,a1,I⟩:=Fr I;obtain⟨V,N,I⟩:=R.kX I;dsimp only at I;obtain⟨M,I⟩:=jF I;simp only[eB]at M;have HC:0=s:=gm ab;subst HC;cases I
theorem WB{i:TypeInfo}(aj:P.info? e=some i)(h:yb P e=true):i.bytes<=1000000:=by unfold yb at h;rw[aj]at h;exact ma h
theorem wrap_small{n:Nat}(h:n<=1000000):IntKind.i64.wrap (n:Int)=(n:Int):=by
 rw[<-nT];show Ae .i64 n=(n:Int)
 unfold Ae yz;have:Nat.blt n 9223372036854775808=true:=by rw[v6];omega
 grind
theorem WX{h:ae}{w:World}(bb:d9 B ai (u h) w){U:Nat}(bv:ai U=none){s n:Nat}{a:aw Addr}(aY:bF ai (.slice a len cap) dG)(gz:new.length=n*s){i:TypeInfo}(aj:P.info? e=some i)(np:i.zero=some z)(LR:z.cells.toList.length=s)(V:jI P e=some s)(oa:i.bytes<=1000000)(n9:uW z=true){r:fq}(hk:g0 s h U a len cap n new = .ok r)(Z:ag[0]? = some t)(ej:P.underlying t=some (.slice e))(o9:TypeId) (oL:(∃t1 q k,ag[1]? = some t1/\P.underlying t1=some (.int q)/\ic = .int k (.ofNat n)/\n<=1000000/\new=gI n z.cells.toList) \/
   ((ag[1]? = none\/∃t1 d,ag[1]? = some t1/\P.underlying t1=some d/\∀q,d≠.int q)/\(∀w,(Builtin.lenOf ic).run P w = .ok n w) /\
    ∀d,∃AN,dq ai new AN/\(Builtin.firstCells s n ic).run P { w with drawn:=d } = .ok AN.toArray { w with drawn:=d })):
  i2 P B ai (u h) w U r (do pure (.value (<-Builtin.append_ ag o9 #[dG,ic]))):=by
 obtain⟨eb,bM,rfl,awp⟩:=aiY (P:=P) bb bv aY gz LR e hk;have hbz:¬((n:Int)*(i.bytes:Int)>2 ^ 48)\/1000000<n:=by
  rcases h8 1000000 n with h|h
  ·omega
  ·left
   have:n*i.bytes<=1000000*1000000:=sb h oa;omega
 have AO:¬((n:Int)<0):=J
 have I:∀(k:IntKind) (w:World),(asInt (Value.int k (n:Int))).run P w = .ok (n:Int) w:=λ_ _=>rfl;have afc:w.drew={ w with drawn:=w.drawn+1 }:=rfl;have M:=λw=>x2 aj np w;rcases awp with⟨dO,tU⟩|⟨ct,RP,Ts⟩
 ·rcases oL with⟨t1,q,k,N,qG,rfl,w1,rfl⟩|⟨yU,rE,nj⟩
  ·obtain⟨v,ac,Y,bn,ba,D,aG,kp,E⟩:=tU _ (Cy (xU n9 ai) n);refine⟨v,ac,Y,bn,_,ba,D,aG,kp,.inl ?_⟩;have AP:¬(281474976710656<(n:Int)*(i.bytes:Int)):=J
   have w2:IntKind.i64.wrap (n:Int)=(n:Int):=wrap_small J
   by_cases A2:n*s=0
   ·have wQ:gI n z.cells.toList=[]:=ab
    rw[wQ]at E;cases eb with
    |none=>simp[Builtin.append_,Z,run_underlying ej,kg V,N,run_underlying qG,dO,I,AO,w2,run_typeInfo aj,AP,A2]at E ⊢;grind
    |some x=>simp[Builtin.append_,Z,run_underlying ej,kg V,N,run_underlying qG,dO,I,AO,w2,run_typeInfo aj,AP,A2]at E ⊢;simp[E]
   ·cases eb with
    |none=>simp[Builtin.append_,Z,run_underlying ej,kg V,N,run_underlying qG,dO,I,AO,w2,run_typeInfo aj,AP,A2,M,zO]at E ⊢;grind
    |some x=>simp[Builtin.append_,Z,run_underlying ej,kg V,N,run_underlying qG,dO,I,AO,w2,run_typeInfo aj,AP,A2,M,zO]at E ⊢;simp[E]
  ·obtain⟨AN,aT,A⟩:=nj w.drawn;have A:(Builtin.firstCells s n ic).run P w = .ok AN.toArray w:=A;obtain⟨v,ac,Y,bn,ba,D,aG,kp,E⟩:=tU AN aT;refine⟨v,ac,Y,bn,_,ba,D,aG,kp,.inl ?_⟩;rcases yU with yU|⟨t1,d,N,qG,bj⟩
   ·cases eb with
    |none=>simp[Builtin.append_,Z,run_underlying ej,kg V,yU,rE,dO,A]at E ⊢;grind
    |some x=>simp[Builtin.append_,Z,run_underlying ej,kg V,yU,rE,dO,A]at E ⊢;simp[E]
   ·cases eb with
    |none=>simp[Builtin.append_,Z,run_underlying ej,kg V,N,run_underlying qG,rE,dO,A]at E ⊢;grind
    |some x=>simp[Builtin.append_,Z,run_underlying ej,kg V,N,run_underlying qG,rE,dO,A]at E ⊢;simp[E]
 ·have LX:¬(len+n<=bM):=J
  have Lo:¬(9223372036854775807<(len:Int)+(n:Int)):=J
  have Lp:¬(281474976710656<Builtin.nextslicecap (len+n) bM*i.bytes):=by have:=sb (nextslicecap_le RP ct) oa;omega
  have Lq:(Question.appendCap (len+n) bM e).forced=false:=rfl;generalize rx:(Question.appendCap (len+n) bM e).cut (w.tape w.drawn (Question.appendCap (len+n) bM e))=ac9;have yT:len+n<=ac9:=by rw[<-rx];exact NR _ _
  obtain⟨aBg,ar,afd⟩:=Ts (w.drawn+1) ac9 J yT;rw[<-afc]at ar;rcases oL with⟨t1,q,k,N,qG,rfl,w1,rfl⟩|⟨yU,rE,nj⟩
  ·obtain⟨v,ac,Y,bn,D,aG,kp⟩:=afd _ (Cy (xU n9 ai) n);refine⟨v,ac,Y,bn,_,_,D,aG,kp,.inl ?_⟩;have AP:¬(281474976710656<(n:Int)*(i.bytes:Int)):=J
   have w2:IntKind.i64.wrap (n:Int)=(n:Int):=wrap_small J
   by_cases A2:n*s=0
   ·have wQ:gI n z.cells.toList=[]:=ab
    simp[Builtin.append_,Z,run_underlying ej,kg V,N,run_underlying qG,LX,Lo,I,AO,w2,run_typeInfo aj,AP,A2,Lp,Lq,rx,ar,M,newRow,zR,zO,wQ];rfl
   ·simp[Builtin.append_,Z,run_underlying ej,kg V,N,run_underlying qG,LX,Lo,I,AO,w2,run_typeInfo aj,AP,A2,Lp,Lq,rx,ar,M,newRow,zR,zO];rfl
  ·obtain⟨AN,aT,A⟩:=nj (w.drawn+1);rw[<-afc]at A;obtain⟨v,ac,Y,bn,D,aG,kp⟩:=afd AN aT;refine⟨v,ac,Y,bn,_,_,D,aG,kp,.inl ?_⟩;rcases yU with yU|⟨t1,d,N,qG,bj⟩
   ·simp[Builtin.append_,Z,run_underlying ej,kg V,yU,rE,LX,Lo,run_typeInfo aj,Lp,Lq,rx,ar,A,M,newRow,zR,zO];rfl
   ·simp[Builtin.append_,Z,run_underlying ej,kg V,N,run_underlying qG,rE,LX,Lo,run_typeInfo aj,Lp,Lq,rx,ar,A,M,newRow,zR,zO];rfl
end
section
variable {P:Program} {ai:b5} {B:Nat}
def yg(B:Nat)(ai:b5)(h:ae)(w:World)(U:Nat)(K:bR)(dst:aw Tmp)(a:Act)(next:Act->World->Prop):Prop :=
 ∀v ac Y bn c ba,K v ac Y->bF bn v c->cx B ai (u h) w U Y bn (u ac) ba->next (a.put dst c) ba
theorem yg.fin{h:ae}{w:World}{U:Nat}{K:bR}{a:Act}{next:Act->World->Prop}(M:yg B ai h w U K dst a next){e:Ending}(E:Fin B ai h w U K e ba):∃c,e = .returned c/\next (a.put dst c) ba:=by obtain⟨v,ac,Y,bn,c,rfl,D,A,I⟩:=E;exact⟨c,rfl,M v ac Y bn c ba D A I⟩
theorem Sq{r:R fq}{K:bR}(h:dD (dU r) K):∃x,r = .ok x/\dD x K:=by
 cases r with
 |ok x=>exact⟨x,rfl,h⟩
 |no w=>exact h.elim
theorem f6{az:Type}{r:R az}{k:az->Prop}(h:af r k):∃v,r = .ok v/\k v:=by
 cases r with
 |ok x=>exact⟨x,rfl,h⟩
 |no w=>exact h.elim
section
variable {h:ae} {w:World} {U:Nat} {K:bR} {o:Oper} {a:Act} {n:Nat} {r:aw Nat} {next:Act->World->Prop} {Q:Exit->Act->World->Prop}
theorem i2.upon{x:fq}{s:Sem Next}(D:i2 P B ai (u h) w U x s)(N:dD x K)(E:yg B ai h w U K o.dst a next):o.uponIn (m7 r) n P a next Q (s.run P w):=by
 obtain⟨v,ac,Y,bn,c,ba,rfl,M,I,A|⟨A,rfl⟩⟩:=D
 ·rw[A];exact E v ac Y bn c ba N M I
 ·rw[A];exact E v ac Y bn undef ba N M I
theorem XK(E:d9 B ai (u h) w)(I:jQ ai U)(M:kI P f aF h U K)(A:dq ai aF cs)(N:yg B ai h w U K o.dst a next):o.uponIn (m7 r) n P a next Q (.ok (.enter f ⟨cs⟩) w):=by refine⟨λh=>by simp[m7,Fence.wide]at h,?_⟩;rw[YN];exact(M.2 B ai w _ E I A (n-1)).mono λe ba D=>by obtain⟨c,rfl,h⟩:=N.fin D;exact h
theorem Ws(h:Cr P f)(cs:Array X)(w:World):(callFunc f cs).run P w = .ok (.enter f cs) w:=by
 obtain⟨D,I,M,N⟩:=h;have E:D.body≠none:=ab
 have A:D.name ≠ "runtime.NumGoroutine" := by grind
 simp[callFunc,I,A,E]
theorem WY(bb:d9 B ai (u h) w)(bE:jQ ai U){f oq:X}(A:fh P false (hP h U aF f) K)(M:dq ai aF cs)(aG:bF ai f oq)(bv:yg B ai h w U K o.dst a next):
  o.uponIn (m7 r) n P a next Q ((do let d <-Deferred.ofValue oq ⟨cs⟩;invoke d.target d.args:Sem Next).run P w):=by
 unfold hP at A
 split at A
 ·rename_i fn x y
  split at A
  ·cases aG with
   |func f aY cd =>
    rename_i V fU qU p8 N
    have A:kI P V _ h U K:=A;have D:((do let d <-Deferred.ofValue (.func (.func V) ⟨qU⟩ ⟨N⟩) ⟨cs⟩;invoke d.target d.args:Sem Next)).run P w = .ok (.enter V ⟨qU++(cs++N)⟩) w:=by simp[Deferred.ofValue,invoke,Ws A.1]
    rw[D];exact XK bb bE A (aY.append (M.append cd)) bv
  ·cases aG with
   |yield bA =>
    rename_i l p
    have A:tN P l _ h U K:=A;obtain⟨E,h1,ap,aM⟩:=A B ai w cs p bb bE (by simpa[kD]using M) bA;have Z:=q8 (P:=P) h1 ab;have D:((do let d <-Deferred.ofValue (.func (.yield p.co) #[] #[]) ⟨cs⟩;invoke d.target d.args:Sem Next)).run P w = .ok (.round p.co E.fn ((E.params.zip ⟨cs⟩).foldl (λI (t,a)=>I.setIfInBounds t a) E.tmps) E.assign E.body) w:=by simp[Deferred.ofValue,invoke,Instr.yield,Instr.getLoop,Z,ap]
    rw[D];refine⟨λh=>by simp[m7,Fence.wide]at h,?_⟩;rw[amk];exact(aM (n-1)).mono λe ba bP=>by obtain⟨c,rfl,h⟩:=bv.fin bP;exact h
  ·exact A.elim
 ·exact A.elim
theorem ah3{m:String}{A:FuncId × al}(h:rb P t m=some A):∃i x,P.info? t=some i/\i.methods.find? (λx=>x.name == m)=some x/\x.path=#[]/\x.func=some A:=by
 unfold rb at h
 grind
theorem ap8(ag:Array TypeId)(t:TypeId)(a:Addr)(x y:String):Builtin.ssaWrapNilChk_ ag t #[.pointer (some a),strVal x,strVal y]=pure (.pointer (some a)):=rfl
theorem aka(bb:d9 B ai (u h) w){M:al}{D:X}(A:wB P h t M y = .ok v)(V:bF ai y D):
  ∃c,(∀E:String,(receiverAt t (.val D) M (some E)).run P w = .ok c w)/\bF ai v c:=by
 unfold wB at A
 split at A
 ·rename_i e I
  cases M with
  |true=>cases A;exact⟨D,λE=>by simp[receiverAt,run_underlying I,Place.get],V⟩
  |false =>
   obtain⟨bO,N,A⟩:=R.kX (show R.of "type" (px P e) (λbO=>iM bO h y) = .ok v from A);obtain⟨eb,rfl,c,bc,Z⟩:=PN bb N A V;refine⟨c,λE=>?_,Z⟩;simp[receiverAt,run_underlying I,Place.get,ap8,asAddr,bc]
 ·rename_i d bv I
  cases M with
  |true=>cases A
  |false =>
   cases A;refine⟨D,λE=>?_,V⟩;cases d <;> first|(exact(bv _ rfl).elim)|simp[receiverAt,run_underlying I,Place.get]
 ·cases A
theorem aiq(bb:d9 B ai (u h) w)(bE:jQ ai U){m:String}(A:fh P false (md P h U aF m v) K)(Hz:dq ai aF cs)(aG:bF ai v oj)(bv:yg B ai h w U K o.dst a next):
  o.uponIn (m7 r) n P a next Q ((do let d <-(pure { target:=.fn (.method m) #[],args:=#[oj]++⟨cs⟩ }:Sem Deferred);invoke d.target d.args:Sem Next).run P w):=by
 unfold md at A
 split at A
 ·rename_i t y
  cases V:rb P t m with
  |none=>rw[V]at A;exact A.elim
  |some M =>
   rw[V]at A;obtain⟨i,x,aj,aY,Z,hfu⟩:=ah3 V;have A:fh P false (DI (wB P h t M.2 y) (λy=>.call M.1 (y::aF) h U)) K:=A;cases D:wB P h t M.2 y with
   |no s=>rw[D]at A;exact A.elim
   |ok aCO =>
    rw[D]at A;have A:kI P M.1 (aCO::aF) h U K:=A;cases aG with
    |iface _ cd =>
     rename_i qU
     obtain⟨c,N,w3⟩:=aka bb D cd;have I:((do let d <-(pure { target:=.fn (.method m) #[],args:=#[Value.iface t qU]++⟨cs⟩ }:Sem Deferred);invoke d.target d.args:Sem Next)).run P w = .ok (.enter M.1 ⟨c::cs⟩) w:=by
      have E:∀k,(method (k+1) t qU m).run P w = .ok (M.1,c) w:=λk=>by unfold method;obtain⟨f,xo⟩:=M;simp[run_typeInfo aj,aY,Z,hfu,follow,N]
      have bj:P.types.size+Made.depth=(P.types.size+99)+1:=rfl;simp[invoke,callMethod,Ws A.1,bj,E]
     rw[I];exact XK bb bE A (.cons w3 Hz) bv
 ·exact A.elim
theorem PO{k:X->X->R fq}{r:fq}(h:Hc l k = .ok r):∃x y,l=[x,y]/\k x y = .ok r:=by
 unfold Hc at h
 grind
theorem dq.two(h:dq ai [x,y] cs):∃dG ic,cs=[dG,ic]/\bF ai x dG/\bF ai y ic:=by
 cases h with
 |cons h t=>cases t with
  |cons A t=>cases t;exact⟨_,_,rfl,h,A⟩
theorem WC(bb:d9 B ai (u h) w)(bE:jQ ai U){b:Builtin}{r:fq}(A:pr P b ag.toList h U aF = .ok r)(aG:dq ai aF cs)(Z:TypeId)(E:Array al):
  i2 P B ai (u h) w U r (invoke (.builtin b ag Z E) ⟨cs⟩):=by
 unfold pr at A
 split at A
 ·obtain⟨t,I,A⟩:=R.kX A;obtain⟨e,bP,A⟩:=R.kX A;obtain⟨s,aq,A⟩:=R.kX A;obtain⟨xr,cL,A⟩:=R.kX A;obtain⟨a1,A⟩:=jF A;simp only[eB]at a1;obtain⟨⟨yV,nq⟩,D⟩:=a1;rw[iX]at I;have I:ag[0]? = some t:=ab
  obtain⟨i,z,aj,np,n9,rfl⟩:=zP cL;have V:z.cells.toList.length=s:=gm yV;obtain⟨x,y,rfl,gK⟩:=PO A;clear A;obtain⟨dG,ic,rfl,M,N⟩:=aG.two;have A:F7 z.cells.toList s h U x y = .ok r:=gK;unfold F7 at A
  split at A
  ·obtain⟨q,n,rfl,A⟩:=Cx A;obtain⟨bv,A⟩:=jF A;cases N;unfold rp at D
   split at D
   ·rename_i t1 ht1
    split at D
    ·rename_i de qG
     rw[iX]at ht1;exact WX bb bE.here M (by rw[Fm,V]) aj np V aq (WB aj nq) n9 A I (Fi bP) Z (.inl ⟨t1,de,q,ab,qG,rfl,ma bv,rfl⟩)
    ·cases D
   ·cases D
  ·cases A
 ·obtain⟨t,I,A⟩:=R.kX A;rw[iX]at I;obtain⟨x,y,rfl,A⟩:=PO A;obtain⟨dG,ic,rfl,M,N⟩:=aG.two;exact aip bb U ab A M N Z
 ·obtain⟨t,I,A⟩:=R.kX A;obtain⟨hty,A⟩:=jF A;rw[iX]at I;unfold agA at A
  split at A
  ·match aG with
   | .cons  M .nil=>exact aiX bb U ab ab A M Z
  ·cases A
 ·obtain⟨t,I,A⟩:=R.kX A;obtain⟨s,aq,A⟩:=R.kX A;rw[iX]at I;obtain⟨x,y,rfl,A⟩:=PO A;obtain⟨dG,ic,rfl,M,N⟩:=aG.two;exact aj9 bb U ab aq A M N Z
 ·cases A
theorem ap9(bb:d9 B ai (u h) w)(bE:jQ ai U){s:Nat}{z:aa X}(ci:ag[0]? = some t)(bP:rj P t=some e)(aq:jI P e=some s)(cL:nU P e=some z)(a1:(Nat.beq (jr z) s&&yb P e&&(!rp P (g3 ag.toList 1)&&ac7 P (g3 ag.toList 1)))=true){r:fq}(M:dM s h U x y = .ok r)(aY:bF ai x dG)(cd:bF ai y ic)(o9:TypeId):
  i2 P B ai (u h) w U r (do pure (.value (<-Builtin.append_ ag o9 #[dG,ic]))):=by
 simp only[eB,NK]at a1;obtain⟨⟨E,I⟩,A,D⟩:=a1;have ej:=Fi bP;obtain⟨i,z,aj,np,n9,rfl⟩:=zP cL;have E:z.cells.toList.length=s:=gm E;have I:=WB aj I;unfold dM at M
 split at M
 ·split at M
  ·obtain⟨new,hk,N,V⟩:=Wg  bb cd J M;obtain⟨ce,c'',rfl,_⟩:=cd.xZ;refine WX bb bE.here aY N aj np E aq I n9 hk ci ej o9 (.inr ⟨?_,λ_=>rfl,V⟩);unfold rp at A;rw[iX]at A D;have a9:ag.toList[1]? = ag[1]?:=by simp
   rw[a9]at A D;cases Z:ag[1]? with
   |none=>grind
   |some t1 =>
    rw[Z]at A D;obtain⟨d,bj⟩:=lI.1 D
    grind
  ·cases M
 ·cases M
theorem zW{o:Oper}{k:m6}(A:oS P o.op=some k):∀c,o.op≠.defer c:=λc h=>by rw[h]at A;cases A
theorem YX{aC:Act}(bb:d9 B ai (u h) w)(bE:jQ ai U)(o:Oper)(N:Loc ai ak a.tmps o.op.operands){e:vH}(D:oS P o.op=some (.fv e))(A:o8 P false e ak h U K)(bv:yg B ai h w U K o.dst aC next):
  o.uponIn (m7 r) n P aC next Q ((o.semAt r a.eval).run P w):=by
 rw[Oper.semAt_eq r a.eval o (zW D)];have ex:∀{op:Op},o.op=op->execOp a.eval o=execOp a.eval { o with op:=op }:=λh=>by rw[<-h]
 cases yR:o.op <;> rw[yR]at D N <;> rw[ex yR] <;> (try simp only[oS,jE,l9,x3,Cc,reduceCtorEq,and_false,Jn]at D)
 case store t x y =>
  obtain⟨m,bp,dG,V,ic,ap,aW⟩:=D;cases aW;obtain⟨BH,I,A⟩:=f6 A;obtain⟨rZ,g2,A⟩:=f6 A;obtain⟨ac,c6,A⟩:=f6 A;obtain⟨ba,M,kp⟩:=ap6 (P:=P) bb U bp c6 (N.eg (by simp[Op.operands]) V I) (N.eg (by simp[Op.operands]) ap g2);simp only[execOp,Sem.run_bind,M,Result.andThen_ok,Sem.run_pure];exact bv jT ac U ai undef ba A tl kp
 case mapUpdate t m k x =>
  split at D
  ·rename_i dW zn ej
   simp only[jE,l9]at D;obtain⟨oi,V,cH,ap,dG,aM,aW⟩:=D;cases aW;obtain⟨aBW,I,A⟩:=f6 A;obtain⟨aCN,g2,A⟩:=f6 A;obtain⟨BH,c6,A⟩:=f6 A;obtain⟨ac,ed,A⟩:=f6 A;obtain⟨ba,M,bp⟩:=amu bb U ej ed (N.eg (by simp[Op.operands]) V I) (N.eg (by simp[Op.operands]) ap g2) (N.eg (by simp[Op.operands]) aM c6);simp only[execOp,Sem.run_bind,M,Result.andThen_ok,Sem.run_pure];exact bv jT ac U ai undef ba A tl bp
  ·cases D
 case range t x =>
  obtain⟨ci,dG,V,aW⟩:=D;cases aW;obtain⟨BH,I,A⟩:=f6 A;exact(aiW bb bE.here ci (N.eg (by simp[Op.operands]) V I) A).upon A bv
 case next it isS =>
  cases isS with
  |true=>cases D
  |false =>
   obtain⟨dG,V,aW⟩:=l9.1 D;cases aW;obtain⟨BH,I,A⟩:=f6 A;obtain⟨dF,ac,bn,bM,ba,hi,aG,bp,M⟩:=ap7 (P:=P) bb U (N.eg (by simp[Op.operands]) V I) A o.type;simp only[execOp,Sem.run_bind,M,Result.andThen_ok,Sem.run_pure];exact bv dF ac U bn bM ba hi aG bp
 case makeMap t r=>cases r <;> cases D
 case call c =>
  obtain⟨i1,V,D⟩:=D;have aY:∀x∈c.args.toList,x∈(Op.call c).operands:=λx aY=>by simp only[Op.operands,Call.operands];grind
  have wN:c.args.map a.eval=⟨c.args.toList.map a.eval⟩:=ab
  unfold execOp
  split at D
  ·rename_i f E
   obtain⟨oq,ap,aW⟩:=l9.1 D;simp only[Cc,m6.fv.injEq]at aW;subst aW;have A3:f∈(Op.call c).operands:=by simp only[Op.operands,Call.operands,E];simp
   simp only[resolve,E,wN];unfold aaN at A
   split at A
   ·obtain⟨aF,I,A⟩:=f6 A;refine WY bb bE (f:=.func (.func _) ⟨[]⟩ ⟨[]⟩) ?_ (N.vp aY V I) (N.eg A3 ap rfl) bv;have A:kI P _ aF h U K:=A;show kI P _ (kD [] (kD aF [])) h U K;simpa[kD]using A
   ·obtain⟨ka,g2,A⟩:=f6 A;obtain⟨aF,I,A⟩:=f6 A;exact WY bb bE A (N.vp aY V I) (N.eg A3 ap g2) bv
  ·rename_i f m E
   obtain⟨oq,ap,aW⟩:=l9.1 D;simp only[Cc,m6.fv.injEq]at aW;subst aW;have A3:f∈(Op.call c).operands:=by simp only[Op.operands,Call.operands,E];simp
   obtain⟨aF,I,A⟩:=f6 A;obtain⟨ka,g2,A⟩:=f6 A;simp only[resolve,E,wN];exact aiq bb bE A (N.vp aY V I) (N.eg A3 ap g2) bv
  ·rename_i b E
   obtain⟨Z,oU⟩:=NU (bn:=a.eval) E o.type;simp only[oU,wN];unfold DJ at D
   split at D
   ·split at D
    ·obtain⟨t,_,D⟩:=jE.1 D
     split at D <;> cases D
    ·cases D
   ·split at D <;> cases D
   ·split at D <;> cases D
   ·split at D
    ·simp at D
    ·cases D
   ·cases AM:rp P (g3 c.argTypes.toList 1)with
    |true =>
     rw[AM]at D;cases D;obtain⟨aF,I,A⟩:=f6 A;obtain⟨x,aO,A⟩:=Sq A;exact(WC bb bE aO (N.vp aY V I) o.type Z).upon A bv
    |false =>
    rw[AM]at D;simp only[mH,jE,x3]at D;obtain⟨t,ci,zn,bP,s,lP,z,cL,awq,D⟩:=D
    split at D
    ·cases D;obtain⟨BH,I,A⟩:=f6 A;obtain⟨rZ,g2,A⟩:=f6 A;obtain⟨x,aO,A⟩:=Sq A;obtain⟨hH,iQ,eE,hS,aK⟩:=N.AL aY V I g2;rw[aK];rw[iX]at ci;exact(ap9 bb bE (ag:=c.argTypes) ab bP lP cL (by rw[AM];exact awq) aO eE hS o.type).upon A bv
    ·cases D
   ·cases D;obtain⟨aF,I,A⟩:=f6 A;obtain⟨x,aO,A⟩:=Sq A;exact(WC bb bE aO (N.vp aY V I) o.type Z).upon A bv
 all_goals (split at D <;> simp[jE]at D)
end
end
def atV(Q:Exit->Act->World->Prop):Exit->Act->World->Prop
 | .goto _,_,_=>False
 |e,a,w=>Q e a w
theorem aiZ{n:Nat}{P:Program}{Q:Exit->Act->World->Prop}{a:Act}{w:World}{c:Code}(h:c.wpIn er n P (atV Q) a w):(Code.scope c).wpIn er n P Q a w:=by
 intro b k cs N aO Z;have I:step P (lone (b.atR a (.code (.scope c)::k)) cs w) = .next (lone (b.atR a (.code c::.inScope c::k)) cs w):=step_lone_go (by simp[stepG,stepG.exec,Frame.atR]);have kb:∀a w,step P (lone (b.atR a (.inScope c::k)) cs w) = .next (lone (b.atR a k) cs w):=λa w=>step_lone_go (by simp[stepG,stepG.exec,Frame.atR]);have E:(lone (b.atR a (.code (.scope c)::k)) cs w).fenced P er:=fenced_calm aO Z rfl;obtain⟨e,M,nZ,D,A⟩:=h b (.inScope c::k) cs N aO Z;cases e with
 |normal=>exact⟨.normal,M,nZ,D,.head E I (StepsIn.trans A (.one (fenced_calm aO Z rfl) ab))⟩
 |exit id =>
  have aY:exitTo id (.inScope c::k)=exitTo id k:=by simp[exitTo]
  exact⟨.exit id,M,nZ,D,λdi hk=>.head E I (A.1 di ab),
   λV hk=>let ⟨ayK,h1,ap⟩:=A.2 V ab;⟨ayK,h1,.head E I ap⟩⟩
 |goto l=>exact D.elim
 |ret=>exact⟨_,M,nZ,D,.of_steps (.one E I) A⟩
 |panic zl=>exact⟨_,M,nZ,D,.of_steps (.one E I) A⟩
 |outgrown=>exact⟨_,M,nZ,D,.of_steps (.one E I) A⟩
theorem ai0{n:Nat}{P:Program}{Q:Exit->Act->World->Prop}{c:Code}(eC:Nat->Act->World->Prop)(round:∀m a w,eC m a w->c.wpIn er n P (Exit.then (λM ba=>∃bG,bG<m/\eC bG M ba) Q) a w){a:Act}{w:World}(ayL:eC m a w):(Code.loop c).wpIn er n P Q a w:=by
 intro b k cs hro aO Z;have key:∀j a w,eC j a w ->
   ∃e M ba,Q e M ba/\ArrivesIn (Machine.fenced P er) P (lone (b.atR a (.code c::.inLoop c::k)) cs w) b k cs e M ba:=by
  intro j
  induction j using Nat.strongRecOn with
  |_ j eY =>
   intro a w p9;obtain⟨e,I,nZ,D,A⟩:=round j a w p9 b (.inLoop c::k) cs hro aO Z;cases e with
   |normal =>
    obtain⟨bG,V,N⟩:=D;obtain⟨ayM,ayN,ayO,awr,E⟩:=eY bG V I nZ N;exact⟨ayM,ayN,ayO,awr,.of_steps (StepsIn.trans A (.one (fenced_calm aO Z rfl) stepR_inLoop)) E⟩
   |exit id=>exact⟨_,I,nZ,D,.pass  rfl ab A⟩
   |goto l=>exact⟨_,I,nZ,D,.pass  rfl ab A⟩
   |ret=>exact⟨_,I,nZ,D,.pass  rfl ab A⟩
   |panic zl=>exact⟨_,I,nZ,D,.pass  rfl ab A⟩
   |outgrown=>exact⟨_,I,nZ,D,.pass  rfl ab A⟩
 obtain⟨e,M,ba,D,A⟩:=key _ a w ayL;exact⟨e,M,ba,D,.of_steps (.one (fenced_calm aO Z rfl) stepR_loop) A⟩
section
variable {P:Program} {ai:b5} {B:Nat}
theorem Act.O1(a:Act)(dst:aw Tmp)(v:X):(a.put dst v).tmps.size=a.tmps.size:=by
 cases dst <;> simp[Act.put]
theorem Act.WD(a:Act)(dst:aw Tmp)(v:X):(a.put dst v).defers=a.defers:=by
 cases dst <;> rfl
theorem Fz(a:Nat)(o:aw X)(ak:cc)(n:Nat):hq ((a,o)::ak) n=if a=n then some o else hq ak n:=by
 show(bif Nat.beq a n then some o else hq ak n)=_
 by_cases e:a=n
 ·subst e;simp
 ·have:Nat.beq a n=false:=by
   cases A:Nat.beq a n with
   |false=>rfl
   |true=>exact absurd (gm A) e
  simp[this,e]
theorem jk.put{ak:cc}{a:Act}(h:jk ai ak a.tmps){dst:aw Tmp}{v:aw X}{c:X}(M:bF ai (rs v) c)(N:∀d,dst=some d->d<a.tmps.size):jk ai (ep ak dst v) (a.put dst c).tmps:=by
 cases dst with
 |none=>exact h
 |some t =>
  intro d A D;have I:=N t rfl;show bF ai (rs A) ((a.tmps.setIfInBounds t c).getD d undef);have D:hq ((t,v)::ak) d=some A:=D;rw[Fz]at D
  by_cases e:t=d
  ·subst e;simp at D;subst D;simp[I];exact M
  ·rw[if_neg e]at D;have E:(a.tmps.setIfInBounds t c).getD d undef=a.tmps.getD d undef:=by simp[qj,zD,e]
   rw[E];exact h d A D
def tE(ak oV:cc):Prop:=∀d,hq oV d=hq ak d
theorem jk.same{A:cc}{t:Array X}(h:jk ai ak t)(s:tE ak A):jk ai A t:=λd v e=>h d v (by rw[<-s d];exact e)
theorem tE.lit(h:hq ak d=some (some v)):tE ak ((d,some v)::ak):=λk=>by
 rw[Fz]
 by_cases e:d=k
 ·subst e;rw[if_pos rfl,h]
 ·rw[if_neg e]
theorem tx{a b:Prop}(h:bu v a b):(v = .bool true/\a)\/(v = .bool false/\b):=by
 unfold bu at h
 split at h
 ·split at h
  ·exact .inl ⟨rfl,h⟩
  ·exact .inr ⟨rfl,h⟩
 ·exact h.elim
noncomputable def u3 (g:aw (Nat × al)) (ak:cc):al:=match g with
 |none=>true
 |some (d,w)=>match hq ak d with
  |some (some (.bool b))=>b == w
  |_=>false
def LY(g:aw (Nat × al))(ak:cc):Prop:=∀d w,g=some (d,w)->hq ak d≠none
theorem afe{I D:cc->Prop}(h:ku g ak I D):LY g ak/\∃M,tE ak M/\((u3 g ak=true/\I M)\/(u3 g ak=false/\D M)):=by
 cases g with
 |none=>exact⟨λd w e=>(by cases e),ak,λ_=>rfl,.inl ⟨rfl,h⟩⟩
 |some g =>
  obtain⟨d,A⟩:=g;have h:(match hq ak d with
   |some (some v)=>bu v ((match A with|true=>I|false=>D) ((d,some (.bool true))::ak)) ((match A with|true=>D|false=>I) ((d,some (.bool false))::ak))
   |some none=>D ak
   |none=>False):=h
  unfold u3;cases E:hq ak d with
  |none=>rw[E]at h;exact h.elim
  |some v =>
   refine⟨λN w e=>by cases e;simp[E],?_⟩;rw[E]at h;cases v with
   |none=>exact⟨ak,λ_=>rfl,.inr ⟨by simp[E],h⟩⟩
   |some v =>
    rcases tx h with⟨rfl,h⟩|⟨rfl,h⟩
    ·refine⟨_,tE.lit E,?_⟩;cases A with
     |true=>exact .inl ⟨by simp[E],h⟩
     |false=>exact .inr ⟨by simp[E],h⟩
    ·refine⟨_,tE.lit E,?_⟩;cases A with
     |true=>exact .inr ⟨by simp[E],h⟩
     |false=>exact .inl ⟨by simp[E],h⟩
theorem XL{a7:Array Oper}{tmps:Array X}{o:Oper}(E:zk a7.toList o.guard=some g)(Z:LY g ak)(e9:∀d w v,g=some (d,w)->hq ak d=some v->bF ai (rs v) (tmps.getD d undef)):
  Region.wanted o (yielded a7 tmps)=u3 g ak:=by
 unfold zk at E
 split at E
 ·rename_i N
  cases E;unfold Region.wanted;rw[N];rfl
 ·rename_i j A N
  simp only[jE,l9]at E;obtain⟨aCP,V,d,bj,e⟩:=E;cases e;rw[iX]at V;have b0:Region.wanted o (yielded a7 tmps)=(yielded a7 tmps j == some A):=by unfold Region.wanted;rw[N]
  have cd:yielded a7 tmps j=(match tmps.getD d undef with | .bool b=>some b|_=>none):=by
   unfold yielded;have M:a7[j]? = some aCP:=by simpa using V
   simp only[M,Option.bind_some,bj];cases aY:tmps[d]? with
   |none =>
    have:tmps.getD d undef=undef:=ab
    rw[this];rfl
   |some x =>
    have:tmps.getD d undef=x:=by simp[qj,aY]
    rw[this];cases x <;> rfl
  rw[b0,cd];unfold u3;cases I:hq ak d with
  |none=>exact absurd I (Z d A rfl)
  |some v =>
   have D:=e9 d A v rfl I;cases v with
   |none =>
    generalize tmps.getD d undef=c at D;have D:bF ai jT c:=D;cases D with|tuple h=>cases h;simp only[I];rfl
   |some v =>
    simp only[I];generalize tmps.getD d undef=c at D;have D:bF ai v c:=D;cases D <;> first|rfl|(rename_i b;cases b <;> cases A <;> rfl)
def pz(L B:Nat)(ai:b5)(H:fp)(w:World):aa Deferred->Prop
 | []=>True
 |d::bK=>(∃r,L<=r/\d.target = .collected r/\w.heap[r]? = some (.deferred (some []))/\¬wL B ai H r/\∀IG∈bK,IG.target≠.collected r)/\pz L B ai H w bK
theorem pz.hX{L:Nat}{H gU:fp}{w ba:World}{ao aj:Nat}{bn:b5}(s:cx B ai H w ao aj bn gU ba):∀{A:aa Deferred},pz L B ai H w A->pz L B bn gU ba A
 | [],_=>trivial
 |d::A,⟨⟨r,I,Z,ap,E,V⟩,M⟩=>by
  have D:r<w.heap.size:=ab
  exact⟨⟨r,I,Z,by rw[s.frame r D E];omega,λN=>(s.own r N).elim E J,V⟩,pz.hX s M⟩
inductive aBY where
 |normal
 |exit (id:Nat)
 |ret
def ayP:aBY->Exit
 | .normal=>.normal
 | .exit i=>.exit i
 | .ret=>.ret
structure ot (L B:Nat) (ai:b5) (ak:cc) (h:ae) (U:Nat) (a:Act) (w:World):Prop where
 rel:d9 B ai (u h) w
 fi:jQ ai U
 iG:jk ai ak a.tmps
 marks:pz L B ai (u h) w a.defers
 low:L<=w.heap.size
abbrev LZ:=aBY->cc->ae->Nat->Prop
def uY(L B:Nat)(ai:b5)(h:ae)(w:World)(U sY:Nat)(K:LZ)(Q:Exit->Act->World->Prop):Prop :=
 ∀x oV ac Y bn eb ba,K x oV ac Y->cx B ai (u h) w U Y bn (u ac) ba->ot L B bn oV ac Y eb ba->eb.tmps.size=sY->Q (ayP x) eb ba
theorem ot.put{L:Nat}{ak:cc}{h ac:ae}{U Y:Nat}{a:Act}{w ba:World}{bn:b5}(s:ot L B ai ak h U a w)(A:cx B ai (u h) w U Y bn (u ac) ba){dst:aw Tmp}{v:aw X}{c:X}(D:bF bn (rs v) c)(E:∀d,dst=some d->d<a.tmps.size):
  ot L B bn (ep ak dst v) ac Y (a.put dst c) ba :=
 ⟨A.rel,s.fi.after A,jk.put (s.iG.mono (s.fi.sub A)) D E,by rw[Act.WD];exact s.marks.hX A,h7 s.low A.size⟩
theorem uY.after{h:ae}{U:Nat}{w:World}{K:LZ}{Q:Exit->Act->World->Prop}(bg:uY L B ai h w U sY K Q)(bp:cx B ai (u h) w U Y bn (u ac) ba):uY L B bn ac ba Y sY K Q :=
 λx D Z A V I M hk E aq N=>bg x D Z A V I M hk (bp.trans E) aq N
theorem uY.mono{h:ae}{U:Nat}{w:World}{K kt:LZ}{Q:Exit->Act->World->Prop}(E:uY L B ai h w U sY K Q)(A:∀x ak h U,kt x ak h U->K x ak h U):uY L B ai h w U sY kt Q :=
 λx ak h U ai a w D=>E x ak h U ai a w (A _ _ _ _ D)
theorem atW{s:al}{d:aw Nat}{e:ID}{h:ae}{U:Nat}{k:cc->ae->Nat->Prop}(A:ny P s d (.fu e) ak h U k):∃v,pG P ak e = .ok v/\k (ep ak d (some v)) h U:=by
 have g:af (pG P ak e) (λv=>k (ep ak d (some v)) h U):=by
  cases e <;> first|exact A|skip
  obtain⟨c,I,A⟩:=f6 A;obtain⟨a,D,A⟩:=f6 A;obtain⟨b,E,A⟩:=f6 A;simp only[pG,I,D,E,R.bind];rcases tx A with⟨rfl,A⟩|⟨rfl,A⟩ <;> exact A
 exact f6 g
theorem aqa{n:Nat}{r:aw Nat}{Q:Exit->Act->World->Prop}{h:ae}{U:Nat}{a:Act}{w:World}(A:ot L B ai ak h U a w){o:Oper}{k:m6}(I:oS P o.op=some k){K:cc->ae->Nat->Prop}(E:ny P false o.dst k ak h U K){next:Act->World->Prop}(V:yg B ai h w U (λv h U=>K (ep ak o.dst (some v)) h U) o.dst a next):o.uponIn (m7 r) n P a next Q ((o.semAt r a.eval).run P w):=by
 have N:=A.iG.loc o.op.operands;cases k with
 |fv e =>
  have E:o8 P false e ak h U λv h U=>K (ep ak o.dst (some v)) h U:=E;exact YX A.rel A.fi o N I E V
 |fu e =>
  obtain⟨v,M,E⟩:=atW E;rw[Oper.semAt_eq r a.eval o (zW I)];obtain⟨c,aG,D⟩:=aaR o N I M;rw[D w];exact V v h U ai c w E aG (cx.refl U A.rel)
 |red e =>
  obtain⟨v,M,E⟩:=f6 E;rw[Oper.semAt_eq r a.eval o (zW I)];obtain⟨c,aG,D⟩:=aaU A.rel o N I M;rw[D];exact V v h U ai c w E aG (cx.refl U A.rel)
 |io e =>
  obtain⟨cY,M,E⟩:=f6 E;rw[Oper.semAt_eq r a.eval o (zW I)];obtain⟨du,p,ba,HE,Z,bp,D⟩:=aaS o N I M w;obtain⟨h1,ap⟩:=LQ.step A.rel A.fi.here HE Z bp;rw[D];rw[<-uO]at h1;exact V _ _ _ _ _ ba E ap h1
theorem aaV{n:Nat}{o:Oper}{A:aa Oper}(h:wv n A=true)(D:o∈A):∀d,o.dst=some d->d<n:=λd E=>by have:=Cd.1 h o D;rw[E]at this;simpa[v6]using this
theorem ada{L:Nat}{a7:Array Oper}{n:Nat}{r:aw Nat}{Q:Exit->Act->World->Prop}{K:cc->ae->Nat->Prop}:
  ∀(D:aa Oper) (is:aa lV) (k:Nat),a7.toList.drop k=D->Lh P a7.toList D=some is->∀{ai:b5} {ak:cc} {h:ae} {U:Nat} {a:Act} {w:World},p6 P false is ak h U K->ot L B ai ak h U a w ->
   wv a.tmps.size D=true->uY L B ai h w U a.tmps.size (λx ak h U=>x = .normal/\K ak h U) Q->wpOpsIn (m7 r) n P a7 Q (List.range' k D.length) a w
 | [],is,k,hk,a1,ai,ak,h,U,a,w,M,A,_,bg=>by cases a1;exact bg .normal ak h U ai a w ⟨rfl,M⟩ (cx.refl U A.rel) A rfl
 |o::D,is,k,hk,a1,ai,ak,h,U,a,w,M,A,E,bg=>by
  have hko:a7[k]? = some o:=by
   have:(a7.toList.drop k)[0]? = some o:=ab
   grind
  have tR:a7.toList.drop (k+1)=D:=by have:=congrArg (List.drop 1) hk;simpa[xR]using this
  simp only[Lh,agE,jE,l9]at a1;obtain⟨_,⟨g,a9,hj,tV,rfl⟩,N,HF,rfl⟩:=a1;have bj:=aaV E (o:=o) (by simp);have aws:wv a.tmps.size D=true:=by simp only[wv,List.all_cons,eB]at E ⊢;exact E.2
  have step:∀{bn:b5} {V:cc} {v:aw X} {c:X} {ac:ae} {Y:Nat} {ba:World},tE ak V->p6 P false N (ep V o.dst v) ac Y K->bF bn (rs v) c->cx B ai (u h) w U Y bn (u ac) ba ->
    wpOpsIn (m7 r) n P a7 Q (List.range' (k+1) D.length) (a.put o.dst c) ba:=λI nn aG bp=>by
   refine ada D N (k+1) tR HF nn (ot.put ⟨A.rel,A.fi,A.iG.same I,A.marks,A.low⟩ bp aG bj) ?_ ?_
   ·rw[Act.O1];exact aws
   ·rw[Act.O1];exact bg.after bp
  rw[show(o::D).length=D.length+1 from rfl,List.range'_succ];simp only[wpOpsIn,hko];have M:ku g ak (λak=>ny P false o.dst hj ak h U λak h U=>p6 P false N ak h U K) (λak=>p6 P false N (ep ak o.dst none) h U K):=M;obtain⟨HG,V,I,oL⟩:=afe M;have Z:=XL (ai:=ai) (tmps:=a.tmps) a9 HG (λd w v _ aG=>A.iG d v aG);rcases oL with⟨b0,M⟩|⟨b0,M⟩ <;> rw[b0]at Z
  ·simp only[Z,if_true];refine⟨λ_ _=>trivial,?_⟩;exact aqa ⟨A.rel,A.fi,A.iG.same I,A.marks,A.low⟩ tV M λv ac Y bn c ba hk aG bp=>step (v:=some v) I hk aG bp
  ·simp only[Z,nP,ff];exact⟨λ_ _=>trivial,step I M tl (cx.refl U A.rel)⟩
end
end Go.Ax
