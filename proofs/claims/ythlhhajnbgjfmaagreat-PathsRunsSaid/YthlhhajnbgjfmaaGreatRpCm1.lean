/- Code over an abstract heap aS0 formulas, and their soundness: no condition. -/
import GoSem.Dispatch
import GoSem.ClaimKeys
import GoSem.ClaimWide
import Derived.RangeFuncLeaves
import Derived.OrdersIn
import Derived.Laws.Cells
import Derived.Laws.CopyRow
import Derived.DeepKeys3
import Derived.Laws.Pointers
set_option linter.all false
set_option maxHeartbeats 1000000
namespace Go.Ax
open Go
abbrev X:=Value
instance cVq:Coe Int X:=⟨λx=>.int .i64 x⟩
instance cWq:Coe Nat X:=⟨λx=>.int .i64 (x:Int)⟩
abbrev bf(p:Nat):Value:=.pointer (some ⟨p,0,none⟩)
abbrev aa:=@List
abbrev aw:=@Option
abbrev al:=Bool
def z0:=@Array.foldl_toList
def qC:=@Array.getD_eq_getD_getElem?
def Jh:=@Array.getElem?_eq_some_iff
def Jl:=@Array.getElem?_modify
def zS:=@Array.getElem?_setIfInBounds
def Fj:=@Array.length_toList
def x1:=@Array.mk.injEq
def eo:=@Bool.and_eq_true
def z5:=@Bool.eq_iff_iff
def nB:=@Bool.false_eq_true
def NR:=@Bool.not_eq_true'
def Fp:=@Bool.or_eq_true
def wj:=@Classical.byContradiction
def JF:=@Classical.em
def wp:=@Int.le_refl
def JG:=@Int.le_trans
def wm:=@Int.natCast_add
def Ju:=@Int.toNat_natCast
def Jp:=@List.Pairwise.filter
def NL:=@List.Pairwise.of_cons
def x2:=@List.Perm.refl
def CC:=@List.all_eq_true
def x0:=@List.any_eq_true
def kl:=@List.append_assoc
def hz:=@List.append_nil
def wn:=@List.cons.injEq
def NU:=@List.cons_append
def Jw:=@List.drop_append
def Fa:=@List.drop_append_of_le_length
def x3:=@List.drop_drop
def zT:=@List.drop_eq_getElem_cons
def Jk:=@List.drop_eq_nil_of_le
def Fb:=@List.drop_length_add_append
def NK:=@List.drop_of_length_le
def NN:=@List.drop_succ_cons
def Ft:=@List.drop_take
def oe:=@List.drop_zero
def xW:=@List.eq_nil_of_length_eq_zero
def pI:=@List.ext_getElem?
def sv:=@List.filter_append
def Jv:=@List.filter_congr
def mW:=@List.filter_cons
def zU:=@List.filter_eq_nil_iff
def zX:=@List.filter_eq_self
def Jr:=@List.flatMap_append
def Fq:=@List.foldl_cons
def Fh:=@List.getElem?_append
def tt:=@List.getElem?_append_left
def Fc:=@List.getElem?_append_right
def xY:=@List.getElem?_drop
def lo:=@List.getElem?_eq_getElem
def xX:=@List.getElem?_eq_none
def fb:=@List.getElem?_eq_some_iff
def sw:=@List.getElem?_map
def Fi:=@List.getElem?_of_mem
def Cy:=@List.getElem?_range
def Fe:=@List.getElem?_replicate
def uN:=@List.getElem?_set
def wk:=@List.getElem?_take
def Fk:=@List.getElem_of_mem
def Ji:=@List.getLast?_eq_some_iff
def ib:=@List.length_append
def nC:=@List.length_cons
def CD:=@List.length_drop
def uL:=@List.length_filter_le
def gX:=@List.length_map
def Fr:=@List.length_nil
def zY:=@List.length_pos_iff
def CA:=@List.length_range
def Jm:=@List.length_replicate
def JB:=@List.length_set
def Ff:=@List.length_singleton
def oc:=@List.length_take
def CE:=@List.mapM_cons
def iU:=@List.map_append
def qE:=@List.map_congr_left
def uO:=@List.map_cons
def Fw:=@List.map_id
def pJ:=@List.map_map
def z7:=@List.map_nil
def he:=@List.mem_append
def Jq:=@List.mem_append_left
def gh:=@List.mem_cons
def jZ:=@List.mem_cons_of_mem
def mr:=@List.mem_cons_self
def od:=@List.mem_filter
def Fg:=@List.mem_iff_getElem?
def f3:=@List.mem_map
def zZ:=@List.mem_map_of_mem
def kk:=@List.mem_of_getElem?
def CF:=@List.mem_range
def iu:=@List.mem_singleton
def sy:=@List.nil_append
def NS:=@List.nodup_append
def JC:=@List.nodup_cons
def sx:=@List.not_mem_nil
def tv:=@List.pairwise_append
def uM:=@List.pairwise_cons
def Cw:=@List.pairwise_iff_getElem
def wl:=@List.pairwise_map
def Jn:=@List.perm_append_comm
def rv:=@List.range_succ
def tu:=@List.rel_of_pairwise_cons
def Fl:=@List.replicate_succ
def Jo:=@List.set_append_right
def Wq:=@List.set_eq_take_append_cons_drop
def gW:=@List.take_add_one
def zR:=@List.take_append_of_le_length
def ic:=@List.take_length
def o2:=@List.take_of_length_le
def Fm:=@List.take_succ_cons
def sz:=@List.take_zero
def wo:=@Nat.add_assoc
def z8:=@Nat.add_mul
def NO:=@Nat.add_sub_cancel
def Jj:=@Nat.add_sub_cancel_left
def og:=@Nat.add_zero
def Js:=@Nat.and_one_is_mod
def uP:=@Nat.beq_refl
def pK:=@Nat.ble_eq
def zV:=@Nat.ble_eq_true_of_le
def wq:=@Nat.blt_eq
def NV:=@Nat.div_eq_of_lt
def NM:=@Nat.div_lt_iff_lt_mul
def gr:=@Nat.eq_of_beq_eq_true
def zW:=@Nat.eq_of_testBit_eq
def xZ:=@Nat.eq_zero_or_pos
def NW:=@Nat.le_add_right
def Cx:=@Nat.le_mul_of_pos_right
def lX:=@Nat.le_of_ble_eq_true
def cC:=@Nat.le_refl
def uQ:=@Nat.le_succ
def iv:=@Nat.le_trans
def JE:=@Nat.lt_irrefl
def Jt:=@Nat.lt_of_lt_of_le
def NH:=@Nat.lt_of_mul_lt_mul_right
def Fo:=@Nat.lt_of_not_le
def jJ:=@Nat.lt_or_ge
def Jx:=@Nat.lt_succ_self
def z1:=@Nat.lt_trichotomy
def z6:=@Nat.min_eq_left
def Jy:=@Nat.mod_eq_of_lt
def Aa:=@Nat.mod_lt
def x4:=@Nat.mul_comm
def NJ:=@Nat.mul_div_cancel_left
def x5:=@Nat.mul_eq
def sA:=@Nat.mul_le_mul
def qD:=@Nat.mul_le_mul_right
def z9:=@Nat.mul_one
def uR:=@Nat.one_mul
def CG:=@Nat.sub_self
def Fv:=@Nat.succ_mul
def JD:=@Nat.testBit_and
def Fu:=@Nat.testBit_or
def Jz:=@Nat.testBit_succ
def iE:=@Nat.zero_add
def Fx:=@Nat.zero_le
def lY:=@Nat.zero_mul
def kI:=@Ne.symm
def jI:=@Option.bind_eq_some_iff
def JA:=@Option.getD_some
def nA:=@Option.isSome_iff_exists
def Cz:=@Option.isSome_none
def NP:=@Option.isSome_some
def mq:=@Option.map_eq_some_iff
def Fs:=@Option.map_some
def NI:=@Option.ne_none_iff_exists'
def CB:=@Option.some.injEq
def iw:=@and_true
def rt:=@beq_eq_false_iff_ne
def sB:=@beq_iff_eq
def ru:=@beq_self_eq_true
def mX:=@cond_false
def qF:=@cond_true
def hA:=@decide_eq_false
def gY:=@decide_eq_true
def NT:=@decide_eq_true_eq
def JH:=@exists_false
def fg:=@if_false
def km:=@not_false_eq_true
def NQ:=@of_decide_eq_false
def kn:=@or_false
theorem J{p:Prop}(h:p:=by omega):p:=h
theorem ab{p:Prop}(h:p:=by grind):p:=h
variable {t:TypeId} {v x dh:X} {e:TypeId} {cs:aa X} {c:X} {l:aa X} {ai:Array TypeId} {a8:World} {y:X} {b:Nat} {k ii:X} {args:aa X} {bI:aw Nat} {b1 aF:aa X} {dj:aa MapEntry} {i:Nat} {es:aa MapEntry} {ap ag:Nat} {fe:Type} {dst:aw Tmp} {g:aw (Nat × al)} {len:Nat} {z:X} {L:Nat} {f:FuncId} {a4:Array Operand} {ec dk L5 iW:aw X} {xs:aa Operand} {q:IntKind} {dT:TypeId} {new:aa X} {bD aB:aw Nat} {cI oQ:X} {jN m off cap:Nat} {dm:IntKind} {d:Nat} {ox:World} {qr:X} {bG ok:al} {eA:Fence} {Y tg:Nat}
section
variable {az:Type}
def g3(l:aa az)(n:Nat):aw az:=l[n]?
def mY(l:aa az)(n:Nat):aa az:=l.drop n
def ks(l k:aa az):aa az:=l++k
def jo(l:aa az):Nat:=l.length
def m7(aF l:aa az)(n:Nat):aw (aa az):=if n+aF.length<=l.length then some (l.take n++(aF++l.drop (n+aF.length)))else none
def m8(n:Nat)(l:aa az):aw (aa az):=if n<=l.length then some (l.take n)else none
theorem i4(l:aa az)(n:Nat):g3 l n=l[n]?:=rfl
theorem rA(l:aa az)(n:Nat):mY l n=l.drop n:=rfl
theorem jK(l k:aa az):ks l k=l++k:=rfl
theorem oi(l:aa az):jo l=l.length:=rfl
theorem tB(aF l:aa az)(n:Nat):m7 aF l n=if n+aF.length<=l.length then some (l.take n++(aF++l.drop (n+aF.length)))else none:=rfl
theorem qG(n:Nat)(l:aa az):m8 n l=if n<=l.length then some (l.take n)else none:=rfl
end
inductive R (az:Type) where
 |ok (x:az)
 |no (why:String)
def R.bind{az fe:Type}(r:R az)(f:az->R fe):R fe:=R.casesOn r (λx=>f x) (λw=>.no w)
def R.of{az fe:Type}(w:String)(r:aw az)(f:az->R fe):R fe:=Option.casesOn r (.no w) (λx=>f x)
def af{az:Type}(r:R az)(k:az->Prop):Prop:=match r with
 | .ok v=>k v
 | .no _=>False
def j1:X:=.tuple #[]
abbrev ch:=aa (Nat × aw X)
noncomputable section
def ho(ak:ch)(n:Nat):aw (aw X):=List.rec none (λp _ eS=>bif Nat.beq p.1 n then some p.2 else eS) ak
end
def ez(ak:ch)(d:aw Nat)(v:aw X):ch:=match d with
 |some d=>(d,v)::ak
 |none=>ak
def rM(v:aw X):X:=match v with|some v=>v|none=>j1
inductive fU where
 |cells (cs:List Value) (bG:Bool)
 |map (es:List MapEntry) (aB1:Nat)
 |iter (m:Option Nat) (Dv:Nat) (seen:List Nat) (aBX:Nat)
 |loop (st:Nat) (rN:Option Code) (l9:ch) (params:List Nat) (assign body:Code)
abbrev fq:=Nat->aw fU
abbrev ae:=fq
def u(h:ae)(b:Nat):aw fU:=h b
def T(h:ae)(b:Nat)(o:fU):ae:=λk=>if k=b then some o else h k
def wZ(h:ae)(b:Nat):ae:=λk=>if k=b then none else h k
variable {ak:ch} {H hK:fq} {ac:ae} {aX:fU} {Lw:fq}
theorem Ae(h:ae)(b:Nat)(o:fU)(k:Nat):u (T h b o) k=if k=b then some o else u h k:=rfl
theorem Oy(h:ae)(b:Nat)(k:Nat):u (wZ h b) k=if k=b then none else u h k:=rfl
def qJ:X->al
 | .bool _=>true | .int _ _=>true | .string _=>true | .pointer none=>true | .slice none _ _=>true | .map none=>true | .nilFunc=>true | .nilIface=>true
 | .func (.func _) ⟨[]⟩ ⟨[]⟩=>true
 |_=>false
def iG:aa X->al
 | []=>true
 |x::xs=>qJ x&&iG xs
def vc:X->al
 | .agg ⟨l⟩=>iG l
 | .tuple ⟨l⟩=>iG l
 |v=>qJ v
def dn:X->aa X
 | .agg cs=>cs.toList
 |v=>[v]
def lw(a b:Int):al:=Int.casesOn a (λm=>Int.casesOn b (λn=>Nat.blt m n) (λ_=>false)) (λm=>Int.casesOn b (λ_=>true) (λn=>Nat.blt n m))
def fk(a b:Int):al:=Int.casesOn a (λm=>Int.casesOn b (λn=>Nat.beq m n) (λ_=>false)) (λm=>Int.casesOn b (λ_=>false) (λn=>Nat.beq n m))
def Hm:IntKind->Nat
 | .i64=>9223372036854775808 | .u64=>0 | .i32=>2147483648 | .u32=>0 | .i16=>32768 | .u16=>0 | .i8=>128 | .u8=>0
def yK:IntKind->Nat
 | .i64=>9223372036854775808 | .u64=>18446744073709551616 | .i32=>2147483648 | .u32=>4294967296 | .i16=>32768 | .u16=>65536 | .i8=>128 | .u8=>256
def Ay(k:IntKind)(a:Nat):Int:=bif Nat.blt a (yK k)then .ofNat a else k.wrap (.ofNat a)
def auD(k:IntKind)(a:Nat):Int:=bif Nat.blt a (Hm k)then .negSucc a else k.wrap (.negSucc a)
def tI(k:IntKind)(n:Int):Int:=Int.casesOn n (λa=>Ay k a) (λa=>auD k a)
def kix:IntKind->Nat
 | .i8=>0 | .i16=>1 | .i32=>2 | .i64=>3 | .u8=>4 | .u16=>5 | .u32=>6 | .u64=>7
def mC(a b:IntKind):al:=Nat.beq (kix a) (kix b)
def t5(P:Program)(t:TypeId):aw TypeDesc:=P.underlying t
def jO(P:Program)(t:TypeId):aw Nat:=Option.casesOn (P.info? t) none (λi=>some i.size)
def oj(P:Program)(t:TypeId):aw (aa X):=match P.info? t with
 |some i=>match i.zero with
  |some z=>bif vc z then some z.cells.toList else none
  |none=>none
 |none=>none
def Kt(P:Program)(t:TypeId):aw X:=match P.info? t with
 |some i=>match i.zero with
  |some z=>bif vc z then some z else none
  |none=>none
 |none=>none
def oq(P:Program)(t:TypeId):aw (aw Nat):=match P.underlying t,jO P t with
 |some (.struct _),some n=>some (some n)
 |some (.array _ _),some n=>some (some n)
 |some _,some _=>some none
 |_,_=>none
def yp(P:Program)(t:TypeId):aw Nat:=match P.underlying t with
 |some (.slice e)=>jO P e
 |_=>none
def rF(P:Program)(t:TypeId):aw TypeId:=match P.underlying t with
 |some (.slice e)=>some e
 |_=>none
inductive xd where
 |slice (s:Nat)
 |array (n s:Nat)
def Lx(P:Program)(t:TypeId):aw xd:=match P.underlying t with
 |some (.slice e)=>match jO P e with|some s=>some (.slice s)|none=>none
 |some (.array n e)=>match jO P e with|some s=>some (.array n s)|none=>none
 |_=>none
def C1(P:Program)(t:TypeId)(i:Nat):aw (Nat × TypeId):=match P.underlying t with
 |some (.struct dx)=>match g3 dx.toList i with
  |some f=>match jO P f.type with
   |some (_+1)=>some (f.offset,f.type)
   |_=>none
  |none=>none
 |_=>none
def cellsOf{fe:Type}(h:ae)(b:Nat)(k:aa X->al->R fe):R fe:=Option.casesOn (u h b) (.no "no such block")
 (λo=>fU.casesOn o (λcs bG=>k cs bG) (λ_ _=>.no "cells expected") (λ_ _ _ _=>.no "cells expected") (λ_ _ _ _ _ _=>.no "cells expected"))
def Ld(r:aw (aa X)):R X:=Option.casesOn r (.no "load - out of block") (λl=>.ok (.agg ⟨l⟩))
def Dw(r:aw X):R X:=Option.casesOn r (.no "load - out of block") (λv=>.ok v)
def hB(bI:aw Nat)(off:Nat)(cs:aa X):R X:=Option.casesOn bI (Dw (g3 cs off)) (λn=>Ld (m8 n (mY cs off)))
def AL{fe:Type}(v:X)(k:Addr->R fe):R fe:=match v with
 | .pointer (some a)=>k a
 |_=>.no "address expected"
def gN:X->al
 | .agg _=>false
 | .tuple _=>false
 |_=>true
def d4:aa X->al
 | []=>true
 |x::xs=>bif gN x then d4 xs else false
def ol(h:ae)(b off:Nat)(l:aa X):R ae :=
 cellsOf h b (λcs bG=>Bool.casesOn bG (bif d4 l then R.of "write - out of block" (m7 l cs off) (λcs=>.ok (T h b (.cells cs false)))else .no "write - cells") (.no "write - read only"))
inductive fr where
 |val (v:Value) (h:ae) (U:Nat)
 |call (f:FuncId) (args:List Value) (h:ae) (U:Nat)
 |round (l:Nat) (args:List Value) (h:ae) (U:Nat)
 |no (why:String)
inductive kV where
 |ptr (o:fU)
 |slice (o:fU) (len cap:Nat)
 |map
def xe(U:Nat)(b:kV):X:=kV.casesOn b (λ_=>.pointer (some ⟨U,0,none⟩)) (λ_ len cap=>.slice (some ⟨U,0,none⟩) len cap) (.map (some U))
def sW(b:kV):fU:=kV.casesOn b (λo=>o) (λo _ _=>o) (.map [] 0)
def Gh(l:aa X):R kV:=bif d4 l then .ok (.ptr (.cells l false))else .no "cells"
def wD(l:aa X)(len cap:Nat):R kV:=bif d4 l then .ok (.slice (.cells l false) len cap)else .no "cells"
def J5(P:Program):aa Field->aw (aa (Nat × Nat))
 | []=>some []
 |f::dx=>match jO P f.type,J5 P dx with
  |some s,some r=>some ((f.offset,s)::r)
  |_,_=>none
def PR(P:Program)(t:TypeId):aw (Nat->aw (Nat × Nat)):=match P.underlying t with
 |some (.struct dx)=>match J5 P dx.toList with
  |some cf=>some (g3 cf)
  |none=>none
 |some (.array _ e)=>match jO P e with
  |some s=>some (λi=>some (Nat.mul i s,s))
  |none=>none
 |_=>none
def gO:Nat->aa X->aa X
 |0,_=>[]
 |n+1,z=>ks z (gO n z)
def bs(v:X):R X:=match v with
 | .pointer (some a)=>.ok (.pointer (some a))
 | .func (.func f) a b=>.ok (.func (.func f) a b)
 | .func (.yield f) a b=>.ok (.func (.yield f) a b)
 | .iface t x=>.ok (.iface t x)
 |_=>.no "nilCheck"
def RZ(x y:Lit):al:=match x,y with
 | .bool a,.bool b=>a == b
 | .int j a,.int k b=>mC j k&&fk a b
 | .string a,.string b=>a == b
 | .nil,.nil=>true
 | .float j a,.float k b=>decide (j=k)&&Nat.beq a b
 |_,_=>false
def Az:aa Lit->aa Lit->al
 | [],[]=>true
 |x::xs,y::lI=>RZ x y&&Az xs lI
 |_,_=>false
def L6(a b:aw (aa Lit)):aw al:=match a,b with
 |some a,some b=>some (Az a b)
 |_,_=>none
def sX(P:Program)(t:TypeId)(x y:X):aw al :=
 bif P.keyTypeAt 8 t&&(x.formed P t&&y.formed P t&&iG (dn x)&&iG (dn y))then L6 (P.keyLits 8 t (dn x)) (P.keyLits 8 t (dn y))else none
def wE(P:Program)(t:TypeId):al:=match P.underlying t with
 |some (.int _)=>true
 |_=>false
def KV(P:Program)(t:TypeId)(k:IntKind)(a:Int)(y:X):aw al:=match y with
 | .int dm b=>bif mC k dm&&wE P t then some (fk a b)else none
 |_=>none
def k7(P:Program)(t:TypeId)(x y:X):aw al:=match x with
 | .int k a=>KV P t k a y
 |x=>sX P t x y
def Gi(P:Program)(t:TypeId):al:=!(P.eqGuardType P.depth t)
def agZ(a:al)(y:X):aw al:=match y with
 | .bool b=>some (a == b)
 |_=>none
def O4(P:Program)(t:TypeId):al:=match P.underlying t with|some .bool=>true|_=>false
def wF(P:Program)(t:TypeId):al:=match P.underlying t with|some (.pointer _)=>true|_=>false
def nD(P:Program)(t:TypeId):al:=match P.underlying t with|some (.slice _)=>true|_=>false
def rG(P:Program)(t:TypeId):al:=match P.underlying t with|some (.map _ _)=>true|_=>false
def Hn(a:aw Addr)(y:X):aw al:=match y with
 | .pointer b=>(match a,b with|none,b=>some b.isNone|some _,none=>some false|some _,some _=>none)
 |_=>none
def Sw(a:aw Addr)(y:X):aw al:=match y with
 | .slice b _ _=>(match a,b with|none,b=>some b.isNone|some _,none=>some false|some _,some _=>none)
 |_=>none
def ag0(a:aw Nat)(y:X):aw al:=match y with
 | .map b=>(match a,b with|none,b=>some b.isNone|some _,none=>some false|some _,some _=>none)
 |_=>none
def pd(P:Program)(t:TypeId)(x y:X):aw al:=match x with
 | .bool a=>bif O4 P t then agZ a y else none
 | .pointer a=>bif wF P t then Hn a y else none
 | .slice a _ _=>bif nD P t then Sw a y else none
 | .map a=>bif rG P t then ag0 a y else none
 | .agg xs=>bif Gi P t then sX P t (.agg xs) y else none
 |_=>none
def i6(k:IntKind)(n:Int):R X:=.ok (.int k n)
def ot(b:al):R X:=.ok (.bool b)
def wK(op:BinOp)(k:IntKind)(a b:Int):R X:=bif lw b 0 then .no "shift" else match op with
 | .shl=>i6 k (tI k (a*2 ^ (min b.toNat k.bits)))
 | .shr=>i6 k (a.fdiv (2 ^ (min b.toNat k.bits)))
 |_=>.no "shift"
def G4(op:BinOp)(k:IntKind)(a b:Int):R X:=match op with
 | .and=>i6 k (k.wrap ((BitVec.ofInt k.bits a &&& BitVec.ofInt k.bits b).toNat))
 | .or=>i6 k (k.wrap ((BitVec.ofInt k.bits a ||| BitVec.ofInt k.bits b).toNat))
 | .xor=>i6 k (k.wrap ((BitVec.ofInt k.bits a ^^^ BitVec.ofInt k.bits b).toNat))
 | .andNot=>i6 k (k.wrap ((BitVec.ofInt k.bits a &&& ~~~ (BitVec.ofInt k.bits b)).toNat))
 |_=>.no "bits"
def DL(op:BinOp)(k:IntKind)(a b:Int):R X:=bif fk b 0 then .no "div" else match op with
 | .quo=>i6 k (tI k (a.tdiv b))
 |_=>i6 k (a.tmod b)
def D8(op:BinOp)(k:IntKind)(a b:Int):R X:=match op with
 | .add=>i6 k (tI k (Int.add a b))
 | .sub=>i6 k (tI k (Int.sub a b))
 | .mul=>i6 k (tI k (Int.mul a b))
 | .quo=>DL .quo k a b
 | .rem=>DL .rem k a b
 | .lss=>ot (lw a b)
 | .leq=>ot (!lw b a)
 | .gtr=>ot (lw b a)
 | .geq=>ot (!lw a b)
 | .eql=>ot (fk a b)
 | .neq=>ot (!fk a b)
 |op=>G4 op k a b
def yh:BinOp->al
 | .shl=>true | .shr=>true|_=>false
def AV(op:BinOp)(k:IntKind)(a:Int)(dm:IntKind)(b:Int):R X :=
 bif yh op then wK op k a b else bif mC k dm then D8 op k a b else .no "kinds"
def ag1(P:Program)(op:BinOp)(t:TypeId)(x y:X):R X:=match op with
 | .eql=>R.of "compared" (pd P t x y) (λb=>ot b)
 | .neq=>R.of "compared" (pd P t x y) (λb=>ot (!b))
 |_=>.no "binop"
def ag2(op:BinOp)(k:IntKind)(a:Int)(y:X):R X:=match y with
 | .int dm b=>AV op k a dm b
 |_=>.no "binop"
def bin(P:Program)(op:BinOp)(t:TypeId)(x y:X):R X:=match x with
 | .int k a=>ag2 op k a y
 |x=>ag1 P op t x y
def du(op:UnOp)(v:X):R X:=match v with
 | .bool b=>(match op with | .not=>ot (!b)|_=>.no "unOp")
 | .int k n=>(match op with
  | .neg=>i6 k (tI k (Int.sub 0 n))
  | .xor=>G4 .xor k (if k.signed then -1 else k.max) n
  |_=>.no "unOp")
 |_=>.no "unOp"
def ou(d:TypeDesc)(v:X):R X:=match v with
 | .int _ n=>(match d with | .int k=>i6 k (tI k n)|_=>.no "convert - int")
 |_=>.no "convert A"
def rO{fe:Type}(v:X)(k:Nat->R fe):R fe:=match v with
 | .int _ n=>Int.casesOn n (λn=>k n) (λ_=>.no "nat expected")
 |_=>.no "nat expected"
def Gj(a:aw Addr)(n:Nat)(w0:al):aw Addr:=Option.casesOn a none (λa=>some ⟨a.block,Nat.add a.off n,bif w0 then none else a.spot⟩)
def An(a:aw Addr):al:=match a with
 |some ⟨_,_,some _⟩=>true
 |_=>false
def xf(a:aw Addr):al:=match a with
 |some ⟨_,_,some 0⟩=>true
 |_=>false
def L7(a:aw Addr):aw Addr:=match a with
 |some a=>some ⟨a.block,a.off,some 0⟩
 |none=>none
def k5(a:aw Addr)(w0:al)(n c:Nat):R X :=
 bif An a&&!w0 then .ok (.slice (L7 a) 0 0)else bif xf a then .no "slice - of nothing" else .ok (.slice (Gj a 0 w0) n c)
def o6(s:Nat)(a:aw Addr)(w0:al)(m eT l:Nat):R X :=
 bif Nat.beq m l then k5 a w0 (Nat.sub eT l) (Nat.sub m l)else .ok (.slice (Gj a (Nat.mul l s) w0) (Nat.sub eT l) (Nat.sub m l))
def k6(s:Nat)(a:aw Addr)(cap:Nat)(w0:al)(m eT l:Nat):R X :=
 bif Nat.ble m cap&&(Nat.ble eT m&&Nat.ble l eT)then o6 s a w0 m eT l else .no "slice - bounds"
def AW(x:aw X)(d:Nat):R Nat:=match x with
 |none=>.ok d
 |some v=>rO v (λn=>.ok n)
def gi(s:Nat)(v:X)(ap ag iW:aw X):R X:=match v with
 | .slice a len cap=>bif !iW.isSome||ag.isSome then R.bind (AW iW cap) (λm=>R.bind (AW ag len) (λeT=>R.bind (AW ap 0) (λl=>k6 s a cap iW.isSome m eT l)))else .no "slice - max without high"
 |_=>.no "slice"
def G5(c a b:X):R X:=match c with
 | .bool c=>Bool.casesOn c (.ok b) (.ok a)
 |_=>.no "pick"
def Dx(a:Addr)(n:Nat):X:=.pointer (some ⟨a.block,Nat.add a.off n,none⟩)
def x9(uu:xd)(v:X)(i:Nat):R X:=match v with
 | .slice (some a) len _=>(match uu with | .slice s=>bif Nat.blt i len then .ok (Dx a (Nat.mul i s))else .no "index" |_=>.no "index")
 | .pointer (some a)=>(match uu with | .array n s=>bif Nat.blt i n then .ok (Dx a (Nat.mul i s))else .no "index" |_=>.no "index")
 |_=>.no "indexAddr"
def AM(off:Nat)(v:X):R X:=AL v (λa=>.ok (Dx a off))
def iy(k:xd)(x i:X):R X:=rO i (λi=>x9 k x i)
def Q4(P:Program)(t:TypeId)(v:X)(i:Nat):R X:=match v with
 | .agg cs=>(match P.underlying t with
  |some (.array n e)=>bif Nat.blt i n then R.of "index" (oq P e) (λbI=>R.of "index" (jO P e) (λs=>hB bI (Nat.mul i s) cs.toList))else .no "index"
  |_=>.no "index")
 |_=>.no "index"
def azn(P:Program)(t:TypeId)(x i:X):R X:=rO i (λi=>Q4 P t x i)
def w1(off:Nat)(bI:aw Nat)(v:X):R X:=match v with
 | .agg cs=>hB bI off cs.toList
 |_=>.no "field"
def rI(eS:aa X->R (aa X))(off tg:Nat)(l cells:aa X):R (aa X):=bif Nat.beq (jo l) tg then R.of "fill" (m7 l cells off) eS else .no "fill - size"
def pS:aa (Nat × Nat × X)->aa X->R (aa X)
 | [],cells=>.ok cells
 |(off,tg,x)::xs,cells=>rI (pS xs) off tg (dn x) cells
def cV(z:aa X)(mZ:aa (Nat × Nat × X)):R X:=R.bind (pS mZ z) (λl=>.ok (.agg ⟨l⟩))
def fc(len:Nat)(z:aa X)(mZ:aa (Nat × Nat × X)):R kV:=R.bind (pS mZ z) (λl=>wD l len len)
def sP(z:aa X)(l c:X):R kV:=rO l (λl=>rO c (λc=>bif Nat.ble l c&&Nat.ble c 100000 then wD (gO c z) l c else .no "makeSlice"))
def iz(bI:aw Nat)(h:ae)(x:X):R X:=AL x (λa=>cellsOf h a.block (λcs _=>hB bI a.off cs))
def Ts(h:ae)(n:Nat)(l:aa X)(a:Addr):R ae:=bif Nat.beq (jo l) n then ol h a.block a.off l else .no "store - size"
def aS(h:ae)(n:Nat)(a x:X):R ae:=AL a (Ts h n (dn x))
def kJ(P:Program)(t:TypeId)(k:X):aa MapEntry->Nat->aw (aw (Nat × MapEntry))
 | [],_=>some none
 |e::es,i=>match k7 P t k e.key with
  |some true=>some (some (i,e))
  |some false=>kJ P t k es (Nat.succ i)
  |none=>none
def yA(P:Program)(t:TypeId)(k:X):al:=(k7 P t k k).isSome
def AA(a b:Addr):al:=Nat.beq a.block b.block&&Nat.beq a.off b.off&&(match a.spot,b.spot with|none,none=>true|some x,some y=>Nat.beq x y|_,_=>false)
def qM(x y:X):al:=match x with
 | .bool a=>(match y with | .bool b=>a == b|_=>false)
 | .int k m=>(match y with | .int dm n=>mC k dm&&fk m n|_=>false)
 | .pointer none=>(match y with | .pointer none=>true|_=>false)
 | .pointer (some a)=>(match y with | .pointer (some b)=>AA a b|_=>false)
 | .slice none l c=>(match y with | .slice none b1 bL=>Nat.beq l b1&&Nat.beq c bL | _=>false)
 | .slice (some a) l c=>(match y with | .slice (some b) b1 bL=>AA a b&&Nat.beq l b1&&Nat.beq c bL | _=>false)
 | .map none=>(match y with | .map none=>true|_=>false)
 | .map (some a)=>(match y with | .map (some b)=>Nat.beq a b|_=>false)
 | .nilFunc=>(match y with | .nilFunc=>true|_=>false)
 | .nilIface=>(match y with | .nilIface=>true|_=>false)
 | .func (.func f) ⟨[]⟩ ⟨[]⟩=>(match y with | .func (.func g) ⟨[]⟩ ⟨[]⟩=>Nat.beq f g|_=>false)
 |_=>false
def qN:aa X->aa X->al
 | [],[]=>true
 |x::xs,y::lI=>qM x y&&qN xs lI
 |_,_=>false
def ov(x y:X):al:=match x with
 | .agg ⟨xs⟩=>(match y with | .agg ⟨lI⟩=>qN xs lI|_=>false)
 | .tuple ⟨xs⟩=>(match y with | .tuple ⟨lI⟩=>qN xs lI|_=>false)
 | .func (.func f) ⟨a⟩ ⟨b⟩=>(match y with | .func (.func g) ⟨ea⟩ ⟨b6⟩=>Nat.beq f g&&qN a ea&&qN b b6 | _=>false)
 |x=>qM x y
def Ho:aa MapEntry->Nat->X->X->aa MapEntry
 | [],_,_,_=>[]
 |e::es,i,k,v=>Nat.casesOn i ({ e with key:=k,val:=v }::es) (λj=>e::Ho es j k v)
def Ly:aa MapEntry->Nat->aa MapEntry
 | [],_=>[]
 |e::es,i=>Nat.casesOn i es (λj=>e::Ly es j)
def k8{fe:Type}(h:ae)(r:Nat)(k:aa MapEntry->Nat->R fe):R fe:=match u h r with
 |some (.map es c)=>k es c
 |_=>.no "map expected"
def Q5{fe:Type}(h:ae)(v:X)(k:aa MapEntry->R fe):R fe:=match v with
 | .map none=>k []
 | .map (some r)=>k8 h r (λes _=>k es)
 |_=>.no "map expected"
def om(ok:al)(v:X)(b:al):X:=bif ok then .tuple #[v,.bool b]else v
def j3(P:Program)(h:ae)(dT:TypeId)(z:X)(ok:al)(m k:X):R X :=
 bif yA P dT k then Q5 h m (λes=>match kJ P dT k es 0 with
   |some (some (_,x))=>.ok (om ok x.val true)
   |some none=>.ok (om ok z false)
   |none=>.no "lookup - key")else .no "lookup - key"
def m9(P:Program)(dT:TypeId)(h:ae)(m k x:X):R ae :=
 bif yA P dT k then(match m with
  | .map (some r)=>k8 h r (λes c=>match kJ P dT k es 0 with
   |some (some (i,e))=>bif ov e.key k then .ok (T h r (.map (Ho es i k x) c))else .no "mapUpdate - which key"
   |some none=>.ok (T h r (.map (ks es [{ key:=k,val:=x,born:=c }]) (Nat.succ c)))
   |none=>.no "mapUpdate - key")
  |_=>.no "mapUpdate")else .no "mapUpdate - key"
def aa3(h:ae)(U:Nat)(m:aw Nat)(c:Nat):fr:=.val (.pointer (some ⟨U,0,none⟩)) (T h U (.iter m c [] c)) (Nat.succ U)
def sJ(h:ae)(U:Nat)(v:X):fr:=match v with
 | .map none=>aa3 h U none 0
 | .map (some r)=>(match u h r with
  |some (.map _ c)=>aa3 h U (some r) c
  |_=>.no "range")
 |_=>.no "range"
def leftOf(seen:aa Nat):aa MapEntry->aa MapEntry
 | []=>[]
 |e::es=>bif seen.any (Nat.beq e.born)then leftOf seen es else e::leftOf seen es
def KW(seen:aa Nat)(es:aa MapEntry)(st:Nat):al:=seen.isEmpty||es.isEmpty||es.any (λe=>Nat.blt e.born st)
def G6:aa Nat->aw Nat
 | []=>none
 | [x]=>some x
 |_::xs=>G6 xs
def Dy(b:Nat):aa MapEntry->aw MapEntry
 | []=>none
 |e::es=>bif Nat.beq e.born b then some e else Dy b es
def wL(h:ae)(v:X):R X:=AL v (λa=>bif Nat.beq a.off 0 then(match u h a.block with
 |some (.iter (some r) _ seen st)=>k8 h r (λes c=>bif Nat.beq c st then(match G6 seen with
  |some b=>R.of "entry" (Dy b es) (λe=>.ok (.tuple #[e.key,e.val]))
  |none=>.no "entry")else .no "entry - clock")
 |_=>.no "entry")else .no "entry")
def lr(h:ae)(a:aw Addr)(n:Nat)(k:aa X->R fr):R fr:=Nat.casesOn n (k []) (λ_=>Option.casesOn a (.no "read - nil")
 (λa=>cellsOf h a.block (λcs _=>R.of "read - out of block" (m8 n (mY cs a.off)) k)))
def dO(r:R fr):fr:=R.casesOn r (λx=>x) (λw=>.no w)
def pT(h:ae)(U s:Nat)(l:aa X)(jN:Nat):R fr:=bif Nat.beq s 0 then .no "append - no size" else .ok (.val (.slice (some ⟨U,0,some s⟩) jN jN) (T h U (.cells l false)) (Nat.succ U))
def R0(h:ae)(U:Nat)(s:Nat)(a:aw Addr)(len cap jN:Nat)(new:aa X):R fr:=match a with
 |none=>.ok (.val (.slice none jN cap) h U)
 |some a=>(match new with
  | []=>.ok (.val (.slice (some a) jN cap) h U)
  |_=>R.bind (ol h a.block (Nat.add a.off (Nat.mul len s)) new) (λh=>.ok (.val (.slice (some a) jN cap) h U)))
def pU(h:ae)(U:Nat)(s:Nat)(a:aw Addr)(len cap jN:Nat)(new:aa X):R fr:=match a with
 |none=>pT h U s new jN
 |some a=>cellsOf h a.block (λcs bG=>R.of "append - out of block" (m8 (Nat.mul len s) (mY cs a.off)) (λd3=>match a.spot with
  |none=>pT h U s (ks d3 new) jN
  |some lJ=>bif !bG&&Nat.beq a.off 0&&Nat.beq (jo cs) (Nat.mul len s)&&Nat.beq lJ s&&Nat.beq len cap&&d4 new then pT (wZ h a.block) U s (ks d3 new) jN else .no "append - inner"))
def gZ(s:Nat)(h:ae)(U:Nat)(a:aw Addr)(len cap n:Nat)(new:aa X):R fr :=
 bif Nat.ble (Nat.add len n) cap then R0 h U s a len cap (Nat.add len n) new else
 bif Nat.ble (Nat.mul (Nat.add len n) s) 1000000&&Nat.ble (Nat.add len n) 1000000 then pU h U s a len cap (Nat.add len n) new else .no "append - great"
def dM(s:Nat)(h:ae)(U:Nat)(x y:X):R fr:=match x with
 | .slice a len cap=>(match y with
  | .slice b n _=>lr h b (Nat.mul n s) (λnew=>gZ s h U a len cap n new)
  |_=>.no "append")
 |_=>.no "append"
def Gk(z:aa X)(s:Nat)(h:ae)(U:Nat)(x y:X):R fr:=match x with
 | .slice a len cap=>rO y (λn=>bif Nat.ble n 1000000 then gZ s h U a len cap n (gO n z)else .no "append")
 |_=>.no "append"
def rJ(P:Program)(t:aw TypeId):al:=match t with
 |some t=>(match P.underlying t with|some (.int _)=>true|_=>false)
 |none=>false
def adm(P:Program)(t:aw TypeId):al:=match t with
 |some t=>(P.underlying t).isSome
 |none=>true
def yq(P:Program)(e:TypeId):al:=Nat.ble (((P.info? e).map (·.bytes)).getD 1000001) 1000000
def AX(v:X):R X:=match v with | .slice _ n _=>i6 .i64 (.ofNat n)|_=>.no "len"
def w2(h:ae)(v:X):R X:=match v with
 | .map none=>i6 .i64 (.ofNat 0)
 | .map (some r)=>k8 h r (λes _=>i6 .i64 (.ofNat (jo es)))
 |_=>.no "len"
def ag3(v:X):R X:=match v with
 | .slice none _ c=>i6 .i64 (.ofNat c)
 | .slice (some ⟨_,_,none⟩) _ c=>i6 .i64 (.ofNat c)
 |_=>.no "cap"
def Hp(P:Program)(t:TypeId)(v:X):R X:=bif nD P t then ag3 v else .no "cap"
def KX(P:Program)(t:TypeId)(h:ae)(U:Nat)(a:Addr)(n:Nat):R fr :=
 R.of "clear" (rF P t) (λe=>R.of "clear" (oj P e) (λz=>R.bind (ol h a.block a.off (gO n z)) (λh=>.ok (.val j1 h U))))
def GJ(P:Program)(t:TypeId)(h:ae)(U:Nat)(v:X):R fr:=match v with
 | .map none=>.ok (.val j1 h U)
 | .map (some r)=>k8 h r (λ_ c=>.ok (.val j1 (T h r (.map [] c)) U))
 | .slice none _ _=>.ok (.val j1 h U)
 | .slice (some a) n _=>Nat.casesOn n (.ok (.val j1 h U)) (λm=>KX P t h U a (Nat.succ m))
 |_=>.no "clear"
def PS(P:Program)(dT:TypeId)(h:ae)(U:Nat)(m k:X):R fr:=match m with
 | .map (some r)=>k8 h r (λes c=>match kJ P dT k es 0 with
  |some (some (i,_))=>.ok (.val j1 (T h r (.map (Ly es i) c)) U)
  |some none=>.ok (.val j1 h U)
  |none=>.no "delete - key")
 |_=>.no "delete"
def Gl(P:Program)(t:TypeId)(h:ae)(U:Nat)(m k:X):R fr:=match P.underlying t with
 |some (.map dT _)=>bif yA P dT k then PS P dT h U m k else .no "delete - key"
 |_=>.no "delete"
def Dz(s:Nat)(h:ae)(U:Nat)(x y:X):R fr:=match x with
 | .slice a len _=>(match y with
  | .slice b n _=>lr h b (Nat.mul (Nat.min n len) s) (λl=>match l with
   | []=>.ok (.val (.int .i64 (.ofNat (Nat.min n len))) h U)
   |_=>(match a with
    |some a=>R.bind (ol h a.block a.off l) (λh=>.ok (.val (.int .i64 (.ofNat (Nat.min n len))) h U))
    |none=>.no "copy"))
  |_=>.no "copy")
 |_=>.no "copy"
def min2(b:al)(x y:X):R X:=match x with
 | .int k m=>(match y with
  | .int dm n=>bif mC k dm then(bif b then i6 k (bif lw n m then n else m)else i6 k (bif lw m n then n else m))else .no "min"
  |_=>.no "min")
 |_=>.no "min"
def ag4(l:aa X)(k:X->R fr):R fr:=match l with
 | [x]=>k x
 |_=>.no "one argument expected"
def Hq(l:aa X)(k:X->X->R fr):R fr:=match l with
 | [x,y]=>k x y
 |_=>.no "two arguments expected"
def nE(P:Program)(b:Builtin)(ai:aa TypeId)(h:ae)(U:Nat)(args:aa X):R fr:=match b with
 | .append=>R.of "append" (g3 ai 0) (λt=>R.of "append" (rF P t) (λe=>R.of "append" (jO P e) (λs=>R.of "append" (oj P e) (λz =>
  bif Nat.beq (jo z) s&&yq P e&&rJ P (g3 ai 1)then Hq args (λx y=>Gk z s h U x y)else .no "append - element"))))
 | .delete=>R.of "delete" (g3 ai 0) (λt=>Hq args (λx y=>Gl P t h U x y))
 | .clear=>R.of "clear" (g3 ai 0) (λt=>bif rG P t||nD P t then ag4 args (λv=>GJ P t h U v)else .no "clear")
 | .copy=>R.of "copy" (g3 ai 0) (λt=>R.of "copy" (yp P t) (λs=>Hq args (λx y=>Dz s h U x y)))
 |_=>.no "builtin"
def vy{az:Type}(r:R az)(f:az->fr):fr:=R.casesOn r (λx=>f x) (λw=>.no w)
def HG{az:Type}(w:String)(r:aw az)(f:az->fr):fr:=Option.casesOn r (.no w) (λx=>f x)
def hU(h:ae)(U:Nat)(aF:aa X)(f:X):fr:=match f with
 | .func fn a b=>(match fn with
  | .func f=>.call f (ks a.toList (ks aF b.toList)) h U
  | .yield l=>.round l (ks a.toList aF) h U
  |_=>.no "call")
 |_=>.no "call"
def rK(P:Program)(h:ae)(t:TypeId)(xK:al)(y:X):R X:=match P.underlying t with
 |some (.pointer e)=>bif xK then .ok y else R.of "type" (oq P e) (λbI=>iz bI h y)
 |some _=>bif xK then .no "invoke - pointer method" else .ok y
 |none=>.no "invoke - type"
def lp(P:Program)(t:TypeId)(m:String):aw (FuncId × al):=match P.info? t with
 |some i=>(match i.methods.find? (λx=>x.name == m)with
  |some x=>(match x.path with
   |⟨[]⟩=>x.func
   |_=>none)
  |none=>none)
 |none=>none
def jm(P:Program)(h:ae)(U:Nat)(aF:aa X)(m:String)(v:X):fr:=match v with
 | .iface t y=>HG "invoke - method" (lp P t m) (λIP=>vy (rK P h t IP.2 y) (λy=>.call IP.1 (y::aF) h U))
 |_=>.no "invoke"
def wv(P:Program)(t:TypeId):al:=match P.underlying t with
 |some (.interface _)=>false
 |some _=>true
 |none=>false
def Ao(P:Program)(Y1:TypeId)(ok:al)(v:X):R X:=match v with
 | .iface t y=>bif wv P Y1&&Nat.beq t Y1 then .ok (om ok y true)else .no "typeAssert"
 |_=>.no "typeAssert"
def cp(v:X)(i:Nat):R X:=match v with
 | .tuple aF=>R.of "extract" (g3 aF.toList i) (λv=>.ok v)
 |_=>.no "extract"
inductive ff where
 |t (n:Nat)
 |v (x:Value)
def c6(x:Operand):aw ff:=match x with
 | .tmp t=>some (.t t)
 | .const v=>bif vc v then some (.v v)else none
 | .func f=>some (.v (.func (.func f) #[] #[]))
 | .global _=>none
def y0:aa Operand->aw (aa ff)
 | []=>some []
 |x::xs=>match c6 x,y0 xs with
  |some y,some lI=>some (y::lI)
  |_,_=>none
def HH(x:aw Operand):aw (aw ff):=match x with
 |none=>some none
 |some x=>match c6 x with
  |some y=>some (some y)
  |none=>none
inductive IQ where
 |h4 (x:ff)
 |pick (c a b:ff)
 |bin (op:BinOp) (t:TypeId) (x y:ff)
 |un (op:UnOp) (x:ff)
 |conv(d:TypeDesc) (x:ff)
 |vz (off:Nat) (bI:Option Nat) (x:ff)
 |ag5 (off:Nat) (x:ff)
 |ixA (k:xd) (x i:ff)
 |idx (t:TypeId) (x i:ff)
 |mN (s:Nat) (x:ff) (ap ag iW:Option ff)
 |ext (x:ff) (i:Nat)
 |ag6 (x:ff)
 |mkf (f:FuncId) (a b:List ff)
 |ifc (t:TypeId) (x:ff)
 |asr (a:TypeId) (ok:Bool) (x:ff)
 |VC (b:Bool) (x y:ff)
 |cap (t:TypeId) (x:ff)
 |build (z:List Value) (mZ:List (Nat × Nat × ff))
inductive ES where
 |new (l:List Value)
 |box (x:ff)
 |Tt (len:Nat) (base:List Value) (mZ:List (Nat × Nat × ff))
 |mkm
 |mks (z:List Value) (l c:ff)
inductive HI where
 |ld (bI:Option Nat) (x:ff)
 |lkp (dT:TypeId) (z:Value) (m k:ff) (ok:Bool)
 |lens (x:ff)
 |ag7 (x:ff)
 |entry (x:ff)
inductive vV where
 |st (n:Nat) (a x:ff)
 |y1 (dT:TypeId) (m k x:ff)
 |rR (x:ff)
 |fG (x:ff)
 |call (f:FuncId) (args:List ff)
 |AN (f:ff) (args:List ff)
 |app (s:Nat) (x y:ff)
 |bi (b:Builtin) (ai:List TypeId) (args:List ff)
 |inv (r:ff) (m:String) (args:List ff)
inductive nu where
 |fx (e:IQ)
 |iA (e:ES)
 |red (e:HI)
 |fy (e:vV)
structure ma where
 g:aw (Nat × al)
 d:aw Nat
 c:Nat
 k:nu
inductive kB where
 |skip
 |tQ (l:List ma)
 |DM (l:List ma)
 |seq (a b:kB)
 |cond (c:ff) (a b:kB)
 |block (id:Nat) (c:kB)
 |loop (c:kB)
 |exit (id:Nat)
 |ret
 |scope (c:kB)
 |xL (f:ff) (cf:List Nat) (a b:Code)
 |no
structure aCN where
 body:kB
 res:aa ResultVar
def Dg(afu:Nat->aw (Nat × Nat)):aa (Nat × Operand)->aw (aa (Nat × Nat × ff))
 | []=>some []
 |x::xs=>match afu x.1,c6 x.2,Dg afu xs with
  |some p,some y,some r=>some ((p.1,p.2,y)::r)
  |_,_,_=>none
def aa4(f:ff)(i9:aa ff):vV:=match f with
 | .v (.func (.func g) ⟨[]⟩ ⟨[]⟩)=>.call g i9
 |f=>.AN f i9
def D9(P:Program)(b:Builtin)(ai:aa TypeId)(i9:aa ff):aw nu:=match b with
 | .len=>(match i9 with
  | [x]=>(g3 ai 0).bind λt=>(match P.underlying t with
   |some (.slice _)=>some (.red (.lens x))
   |some (.map _ _)=>some (.red (.ag7 x))
   |_=>none)
  |_=>none)
 | .min=>(match i9 with | [x,y]=>some (.fx (.VC true x y))|_=>none)
 | .max=>(match i9 with | [x,y]=>some (.fx (.VC false x y))|_=>none)
 | .cap=>(match i9 with | [x]=>(g3 ai 0).map λt=>.fx (.cap t x)|_=>none)
 | .append=>bif rJ P (g3 ai 1)then some (.fy (.bi .append ai i9))else(g3 ai 0).bind λt=>(rF P t).bind λe=>(jO P e).bind λs=>(oj P e).bind λz =>
    bif Nat.beq (jo z) s&&yq P e&&(!rJ P (g3 ai 1)&&adm P (g3 ai 1))then(match i9 with | [x,y]=>some (.fy (.app s x y))|_=>none)else none
 |b=>some (.fy (.bi b ai i9))
def ph(P:Program)(o:Op):aw nu:=match o with
 | .move x=>(c6 x).map λx=>.fx (.h4 x)
 | .assign x=>(c6 x).map λx=>.fx (.h4 x)
 | .pick c a b=>(c6 c).bind λc=>(c6 a).bind λa=>(c6 b).map λb=>.fx (.pick c a b)
 | .build t mZ=>(oj P t).bind λz=>(PR P t).bind λpl=>(Dg pl mZ.toList).map λcf=>.fx (.build z cf)
 | .nilCheck x=>(c6 x).map λx=>.fx (.ag6 x)
 | .binOp op t x y _=>(c6 x).bind λx=>(c6 y).map λy=>.fx (.bin op t x y)
 | .unOp op _ x=>(c6 x).map λx=>.fx (.un op x)
 | .convert s d x=>(t5 P s).bind λ_=>(t5 P d).bind λd=>(c6 x).map λx=>.fx (.conv d x)
 | .makeInterface t x=>bif wv P t then(c6 x).map λx=>.fx (.ifc t x)else none
 | .makeFunc fn a b=>(match fn with
  | .func f=>(y0 a.toList).bind λa=>(y0 b.toList).map λb=>.fx (.mkf f a b)
  |_=>none)
 | .slice t x ap ag iW=>(yp P t).bind λs=>(c6 x).bind λx=>(HH ap).bind λap=>(HH ag).bind λag=>(HH iW).map λiW=>.fx (.mN s x ap ag iW)
 | .fieldAddr s x f=>(C1 P s f).bind λf=>(c6 x).map λx=>.fx (.ag5 f.1 x)
 | .field s x f=>(C1 P s f).bind λf=>(oq P f.2).bind λbI=>(c6 x).map λx=>.fx (.vz f.1 bI x)
 | .indexAddr t x uu=>(Lx P t).bind λk=>(c6 x).bind λx=>(c6 uu).map λi=>.fx (.ixA k x i)
 | .index t x uu=>(c6 x).bind λx=>(c6 uu).map λi=>.fx (.idx t x i)
 | .extract x i=>(c6 x).map λx=>.fx (.ext x i)
 | .typeAssert x _ a ok=>(c6 x).map λx=>.fx (.asr a ok x)
 | .alloc e=>(oj P e).bind λl=>bif d4 l then some (.iA (.new l))else none
 | .box _ x=>(c6 x).map λx=>.iA (.box x)
 | .buildSlice t len mZ=>(rF P t).bind λe=>(jO P e).bind λs=>(oj P e).bind λz =>
   bif Nat.beq (jo z) s&&Nat.ble (Nat.mul len s) 1000000 then(Dg (λi=>some (Nat.mul i s,s)) mZ.toList).map λcf=>.iA (.Tt len (gO len z) cf)else none
 | .makeMap _ none=>some (.iA .mkm)
 | .makeSlice t l c=>(rF P t).bind λe=>(oj P e).bind λz =>
   bif Nat.beq (jo z) (((P.info? e).map (·.size)).getD 0)&&Nat.ble (((P.info? e).map (·.bytes)).getD 1000001) 1000000 then(c6 l).bind λl=>(c6 c).map λc=>.iA (.mks z l c)else none
 | .load t a=>(oq P t).bind λbI=>(c6 a).map λa=>.red (.ld bI a)
 | .lookup t x uu ok=>(match P.underlying t with
  |some (.map dT e)=>(Kt P e).bind λz=>(c6 x).bind λm=>(c6 uu).map λk=>.red (.lkp dT z m k ok)
  |_=>none)
 | .entry x=>(c6 x).map λx=>.red (.entry x)
 | .store t a x=>(jO P t).bind λn=>(c6 a).bind λa=>(c6 x).map λx=>.fy (.st n a x)
 | .mapUpdate t m k x=>(match P.underlying t with
  |some (.map dT _)=>(c6 m).bind λm=>(c6 k).bind λk=>(c6 x).map λx=>.fy (.y1 dT m k x)
  |_=>none)
 | .range t x=>bif rG P t then(c6 x).map λx=>.fy (.rR x)else none
 | .next it s=>bif s then none else(c6 it).map λx=>.fy (.fG x)
 | .call c=>(y0 c.args.toList).bind λi9=>(match c.callee with
  | .value f=>(c6 f).map λf=>.fy (aa4 f i9)
  | .invoke r m=>(c6 r).map λr=>.fy (.inv r m i9)
  | .builtin b=>D9 P b c.argTypes.toList i9)
 |_=>none
def jn(k:nu):al:=match k with | .fy _=>true|_=>false
def zA(all:aa Oper)(g:aw (Nat × al)):aw (aw (Nat × al)):=match g with
 |none=>some none
 |some (j,b)=>(g3 all j).bind λo=>o.dst.map λd=>some (d,b)
def ag8(P:Program)(all:aa Oper)(c:Nat)(o:Oper):aw ma:=(zA all o.guard).bind λg=>(ph P o.op).map λk=>⟨g,o.dst,c,k⟩
def Lz(P:Program)(all:aa Oper):aa Oper->aw (aa ma)
 | []=>some []
 |o::os=>(ag8 P all 0 o).bind λi=>(Lz P all os).map λis=>i::is
structure eX where
 i:Nat
 o:Oper
 k:nu
 vA:Nat
def kW(m k:Nat):al:=Nat.beq (Nat.land (Nat.shiftRight m k) 1) 1
def LA(acc:aa Nat):aa Edge->Nat->Nat
 | [],s=>s
 |e::es,s=>LA acc es (bif Region.binds .any e then Nat.lor (Nat.lor s (Nat.pow 2 e.on)) ((g3 acc e.on).getD 0)else s)
def Le:aa Oper->aa Nat->aa Nat
 | [],acc=>acc
 |o::os,acc=>Le os (ks acc [LA acc o.after.toList 0])
structure h5 where
 i:Nat
 o:Oper
 k:nu
 e:al
 ET:Nat
 l9:Nat
 am:Nat
def DN(d:aw Nat):Nat:=Option.casesOn d 0 (λd=>Nat.pow 2 d)
def DO:aa Operand->Nat
 | []=>0
 | .tmp t::xs=>Nat.lor (Nat.pow 2 t) (DO xs)
 |_::xs=>DO xs
def LB(a4:List Oper)(g:Option (Nat × Bool)):Nat:=match g with
 |some (g,_)=>(match g3 a4 g with|some o=>DN o.dst|none=>0)
 |none=>0
def Sx(a4:aa Oper)(o:Oper):Nat:=Nat.lor (DN o.dst) (Nat.lor (DO o.op.operands.toList) (LB a4 o.guard))
def LC(P:Program)(all:aa Oper):Nat->aa Oper->aa Nat->aw (aa h5)
 |j,o::os,a::i9=>(ph P o.op).bind λk=>(LC P all (Nat.succ j) os i9).map λbx=>{ i:=j,o:=o,k:=k,e:=jn k,ET:=DN o.dst,l9:=Sx all o,am:=a }::bx
 |_,_,_=>some []
def G7(am j9:Nat):aa h5->aa h5
 | []=>[]
 |x::xs=>bif kW am x.i&&!kW j9 x.i then x::G7 am j9 xs else G7 am j9 xs
def G8(j9:Nat):aa h5->aa h5
 | []=>[]
 |x::xs=>bif kW j9 x.i then G8 j9 xs else x::G8 j9 xs
def tF(all:aa h5):aa h5->Nat->aa h5
 | [],j9=>G8 j9 all
 |x::xs,j9=>bif x.e&&!kW j9 x.i then ks (G7 x.am j9 all) (x::tF all xs (Nat.lor j9 (Nat.lor x.am (Nat.pow 2 x.i))))else tF all xs j9
def Sy(a b:Nat):al:=Nat.beq (Nat.land a b) 0
def DA(x y:h5):al:=!Nat.beq x.i y.i&&!kW x.am y.i&&(!y.e||kW y.am x.i)&&(kW y.am x.i||(Sy x.ET y.l9&&Sy y.ET x.l9))
def DP(x:h5):aa h5->al
 | []=>true
 |y::lI=>bif DA x y then DP x lI else false
def GK:aa h5->al
 | []=>true
 |x::xs=>bif DP x xs then GK xs else false
def AY:aa h5->Nat
 | []=>0
 |x::xs=>Nat.lor (Nat.pow 2 x.i) (AY xs)
def AZ(j:Nat):aa Edge->al
 | []=>true
 |e::es=>bif !Region.binds .any e||Nat.blt e.on j then AZ j es else false
def Hr:Nat->aa Oper->al
 |_,[]=>true
 |j,o::os=>bif AZ j o.after.toList then Hr (Nat.succ j) os else false
def Hs(am:Nat):aa h5->Nat
 | []=>0
 |y::lI=>bif y.e&&!kW am y.i then Nat.succ (Hs am lI)else Hs am lI
def sK:aa h5->aa h5->aa eX
 |_,[]=>[]
 |before,x::xs=>{ i:=x.i,o:=x.o,k:=x.k,vA:=Hs x.am before }::sK (x::before) xs
def auE(a4:aa Oper)(l:aa h5):aw (aa eX):=
 bif Nat.beq (jo l) (jo a4)&&(Nat.beq (AY l) (Nat.pred (Nat.pow 2 (jo a4)))&&(Hr 0 a4&&GK l))then some (sK [] l)else none
def Q6(P:Program)(a4:aa Oper):aw (aa eX):=(LC P a4 0 a4 (Le a4 [])).bind λbx=>auE a4 (tF bx bx 0)
def GL(all:aa Oper):aa eX->aw (aa ma)
 | []=>some []
 |s::bJ=>(zA all s.o.guard).bind λg=>(GL all bJ).map λis=>⟨g,s.o.dst,s.vA,s.k⟩::is
def Sz(P:Program)(a4:aa Oper)(DQ:al):kB:=bif DQ
 then(match(Q6 P a4).bind (GL a4)with|some l=>.DM l|none=>.no)
 else(match Lz P a4 a4 with|some l=>.tQ l|none=>.no)
def comp(P:Program):Code->kB
 | .skip=>.skip
 | .label _=>.skip
 | .scope c=>.scope (comp P c)
 | .region _ a4 DQ=>Sz P a4.toList DQ
 | .seq a b=>.seq (comp P a) (comp P b)
 | .cond x a b=>(match c6 x with
  |some x=>.cond x (comp P a) (comp P b)
  |none=>.no)
 | .block id c=>.block id (comp P c)
 | .loop c=>.loop (comp P c)
 | .exit id=>.exit id
 | .ret=>.ret
 | .rangeFunc f cf a b=>(match c6 f with|some f=>.xL f cf.toList a b|none=>.no)
 |_=>.no
def yr(P:Program)(f:FuncId):aw aCN:=match g3 P.funcs.toList f with
 |some fn=>(match fn.body with
  |some c=>some { body:=comp P c,res:=fn.results.toList }
  |none=>none)
 |none=>none
structure Place where
 ca:Nat
 off:Nat
 spare:Nat
 es:Nat
abbrev ce:=Nat->aw Place
mutual
inductive bF (aj:ce):Value->Value->Prop
 |bool (b:Bool):bF aj (.bool b) (.bool b)
 |int (k:IntKind) (n:Int):bF aj (.int k n) (.int k n)
 |string (s:ByteArray):bF aj (.string s) (.string s)
 |GM:bF aj (.pointer none) (.pointer none)
 |ptr {b o:Nat} {p:Place} (h:aj b=some p):bF aj (.pointer (some ⟨b,o,none⟩)) (.pointer (some ⟨p.ca,p.off+o,none⟩))
 |rB (l c:Nat):bF aj (.slice none l c) (.slice none l c)
 |k5 {b o:Nat} {p:Place} (h:aj b=some p) (l c:Nat):bF aj (.slice (some ⟨b,o,none⟩) l c) (.slice (some ⟨p.ca,p.off+o,none⟩) l c)
 |o7 {b o s:Nat} {p:Place} (h:aj b=some p) (ar:p.es=s+1) (l c:Nat):bF aj (.slice (some ⟨b,o,some (s+1)⟩) l c) (.slice (some ⟨p.ca,p.off+o,none⟩) l (c+p.spare))
 |o8 (b o:Nat) (g aX:Nat) (c:Nat):bF aj (.slice (some ⟨b,o,some 0⟩) 0 0) (.slice (some ⟨g,aX,none⟩) 0 c)
 |GN:bF aj (.map none) (.map none)
 |map {r:Nat} {p:Place} (h:aj r=some p):bF aj (.map (some r)) (.map (some p.ca))
 |nilFunc:bF aj .nilFunc .nilFunc
 |nilIface:bF aj .nilIface .nilIface
 |func (f:FuncId) {a ea b b6:List Value} (dR:dt aj a ea) (aW:dt aj b b6):bF aj (.func (.func f) ⟨a⟩ ⟨b⟩) (.func (.func f) ⟨ea⟩ ⟨b6⟩)
 |yield {l:Nat} {p:Place} (h:aj l=some p):bF aj (.func (.yield l) #[] #[]) (.func (.yield p.ca) #[] #[])
 |iface (t:TypeId) {v dX:Value} (h:bF aj v dX):bF aj (.iface t v) (.iface t dX)
 |agg {l b1:List Value} (h:dt aj l b1):bF aj (.agg ⟨l⟩) (.agg ⟨b1⟩)
 |tuple {l b1:List Value} (h:dt aj l b1):bF aj (.tuple ⟨l⟩) (.tuple ⟨b1⟩)
inductive dt (aj:ce):List Value->List Value->Prop
 |nil:dt aj [] []
 |cons {x y:Value} {xs lI:List Value} (h:bF aj x y) (t:dt aj xs lI):dt aj (x::xs) (y::lI)
end
def Sub(aj bu:ce):Prop:=∀b p,aj b=some p->bu b=some p
mutual
theorem bF.mono{aj bu:ce}(A:Sub aj bu):∀{v c:X},bF aj v c->bF bu v c
 |_,_,.bool b=>.bool b
 |_,_,.int k n=>.int k n
 |_,_,.string s=>.string s
 |_,_,.GM=>.GM
 |_,_,.ptr h=>.ptr (A _ _ h)
 |_,_,.rB l c=>.rB l c
 |_,_,.k5 h l c=>.k5 (A _ _ h) l c
 |_,_,.o7 h e l c=>.o7 (A _ _ h) e l c
 |_,_,.o8 b o g aX c=>.o8 b o g aX c
 |_,_,.GN=>.GN
 |_,_,.map h=>.map (A _ _ h)
 |_,_,.nilFunc=>.nilFunc
 |_,_,.nilIface=>.nilIface
 |_,_,.func f D E=>.func f (dt.mono A D) (dt.mono A E)
 |_,_,.yield h=>.yield (A _ _ h)
 |_,_,.iface t h=>.iface t (bF.mono A h)
 |_,_,.agg h=>.agg (dt.mono A h)
 |_,_,.tuple h=>.tuple (dt.mono A h)
theorem dt.mono{aj bu:ce}(A:Sub aj bu):∀{v c:aa X},dt aj v c->dt bu v c
 |_,_,.nil=>.nil
 |_,_,.cons h t=>.cons (bF.mono A h) (dt.mono A t)
end
variable {bu:ce} {p:Place} {c5:kV} {G9:ce}
theorem dt.length{aj:ce}:∀{l b1:aa X},dt aj l b1->l.length=b1.length
 |_,_,.nil=>rfl
 |_,_,.cons _ t=>by simp[dt.length t]
theorem dt.append{aj:ce}:∀{a A b D:aa X},dt aj a A->dt aj b D->dt aj (a++b) (A++D)
 |_,_,_,_,.nil,h=>h
 |_,_,_,_,.cons h t,k=>.cons h (dt.append t k)
theorem dt.get{aj:ce}:∀{l b1:aa X} {i:Nat} {v:X},dt aj l b1->l[i]? = some v->∃A,b1[i]? = some A/\bF aj v A
 |_,_,0,_,.cons h _,e=>by simp at e;subst e;exact⟨_,rfl,h⟩
 |_,_,i+1,_,.cons _ t,e=>by simpa using dt.get  t ab
theorem dt.adn{aj:ce}:∀{l b1:aa X},l.length=b1.length->(∀(i:Nat) (v:X),l[i]? = some v->∃A:X,b1[i]? = some A/\bF aj v A)->dt aj l b1
 | [],[],_,_=>.nil
 | [],_::_,h,_=>by simp at h
 |_::_,[],h,_=>by simp at h
 |x::xs,y::E,h,k=>by obtain⟨A,e,D⟩:=k 0 x rfl;simp at e;subst e;exact .cons D (dt.adn ab λi v e=>by simpa using k (i+1) v ab)
theorem dt.take{aj:ce}(n:Nat):∀{l b1:aa X},dt aj l b1->dt aj (l.take n) (b1.take n):=by
 induction n with
 |zero=>intro l b1 _;simpa using dt.nil
 |succ n A=>intro l b1 h;cases h with
  |nil=>simpa using dt.nil
  |cons h t=>exact .cons h (A t)
theorem dt.drop{aj:ce}(n:Nat):∀{l b1:aa X},dt aj l b1->dt aj (l.drop n) (b1.drop n):=by
 induction n with
 |zero=>intro l b1 h;exact h
 |succ n A=>intro l b1 h;cases h with
  |nil=>simpa using dt.nil
  |cons h t=>exact A t
theorem FA(h:qJ v=true)(aj:ce):bF aj v v:=by
 unfold qJ at h
 split at h <;> first|(exact .func _ .nil .nil)|constructor|(exact absurd h (by simp))
theorem CL{aj:ce}(h:qJ v=true)(k:bF aj v c):c=v:=by
 cases k <;> simp_all[qJ]
 all_goals (rename_i A D;cases A <;> cases D <;> grind)
theorem JL(h:iG l=true)(aj:ce):dt aj l l:=by
 induction l with
 |nil=>exact .nil
 |cons x xs A=>simp[iG]at h;exact .cons (FA h.1 aj) (A h.2)
theorem FB(h:vc v=true)(aj:ce):bF aj v v:=by
 unfold vc at h
 split at h
 ·exact .agg (JL h aj)
 ·exact .tuple (JL h aj)
 ·exact FA h aj
theorem bF.cells{aj:ce}{v c:X}(h:bF aj v c):dt aj (dn v) c.cells.toList:=by
 cases h <;> first|(rename_i h;exact h)|exact .cons (by constructor <;> omega) .nil|skip
theorem Ob{aj:ce}:∀{l b1:aa X},dt aj l b1->d4 l=true->∀x∈b1,gN x=true
 |_,_,.nil,_=>by simp
 |_,_,.cons h t,e=>by
  rename_i x y xs E
  have D:gN x=true/\d4 xs=true:=by
   unfold d4 at e
   grind
  intro z A;rcases gh.1 A with rfl|A
  ·cases h <;> simp_all[gN]
  ·exact Ob t D.2 z A
def pO(aj:ce)(cs:aa X)(c:Array X)(off:Nat):Prop:=∀(i:Nat) (v:X),cs[i]? = some v->∃dX:X,c[off+i]? = some dX/\bF aj v dX
inductive hC (aj:ce):List MapEntry->List MapEntry->Prop
 |nil:hC aj [] []
 |cons {e dS:MapEntry} {es dj:List MapEntry} (hk:bF aj e.key dS.key) (aI:bF aj e.val dS.val) (aW:dS.born=e.born) (t:hC aj es dj):hC aj (e::es) (dS::dj)
def Tu:LoopState->Nat
 | .ready=>0 | .busy=>1 | .done=>2 | .exhausted=>3
def js(aj:ce)(l9:ch)(a:Array X):Prop:=∀d v,ho l9 d=some v->bF aj (rM v) (a.getD d undef)
def wM(n:Nat)(a4:aa Oper):al:=a4.all λo=>match o.dst with|some d=>Nat.blt d n|none=>true
def k3(n:Nat):Code->al
 | .region _ a4 _=>wM n a4.toList
 | .seq a b=>k3 n a&&k3 n b
 | .cond _ a b=>k3 n a&&k3 n b
 | .block _ c=>k3 n c
 | .loop c=>k3 n c
 | .rangeFunc _ cf a b=>cf.toList.all (λp=>Nat.blt p n)&&k3 n a&&k3 n b
 | .scope c=>k3 n c
 |_=>true
def p0(aj:ce)(m bD:aw Nat):Prop:=match m,bD with
 |none,none=>True
 |some r,some xM=>∃q,aj r=some q/\q.ca=xM
 |_,_=>False
def mx(B:Nat)(aj:ce)(w:World)(p:Place):fU->Prop
 | .cells cs true=>p.ca<B/\∃c e eu,w.heap[p.ca]? = some (.cells c e eu)/\pO aj cs c p.off
 | .cells cs false=>B<=p.ca/\p.off=0/\∃c e ap ag,w.heap[p.ca]? = some (.cells c e (ap,ag))/\(ap=ag\/c.size<=ap)/\pO aj cs c 0/\c.size=cs.length+p.spare*p.es
 | .map es cI=>B<=p.ca/\∃dj:aa MapEntry,w.heap[p.ca]? = some (.map dj.toArray cI)/\hC aj es dj
 | .iter m Dv seen st=>B<=p.ca/\p.off=0/\∃bD,w.heap[p.ca]? = some (.mapIter bD Dv seen.toArray st)/\p0 aj m bD
 | .loop st rN l9 cf a b=>B<=p.ca/\∃l:Loop,w.heap[p.ca]? = some (.loop l)/\Tu l.state=st/\l.pending=rN/\js aj l9 l.tmps/\l.params.toList=cf/\l.assign=a/\l.body=b /\
   k3 l.tmps.size a=true/\k3 l.tmps.size b=true/\(∀q∈cf,q<l.tmps.size)
structure ed (B:Nat) (aj:ce) (H:fq) (w:World):Prop where
 base:B<=w.heap.size
 obj:∀b p o,aj b=some p->H b=some o->mx B aj w p o
 inj:∀b b6 p eC,aj b=some p->aj b6=some eC->(H b).isSome->(H b6).isSome->B<=p.ca->p.ca=eC.ca->b=b6
 nd:∀b,(H b).isSome->(aj b).isSome
def w3(B:Nat)(aj:ce)(H:fq)(k:Nat):Prop:=∃b p,aj b=some p/\(H b).isSome/\p.ca=k/\B<=k
def wS(aj:ce)(ap ag:Nat):Prop:=∀b,ap<=b->b<ag->aj b=none
def ri(w a8:World):Prop:=a8.tape=w.tape/\w.drawn<=a8.drawn
theorem ri.here{w:World}:ri w w:=⟨rfl,J⟩
theorem ri.trans{w D A:World}(s:ri w D)(t:ri D A):ri w A:=⟨t.1.trans s.1,iv s.2 t.2⟩
structure cx (B:Nat) (aj:ce) (H:fq) (w:World) (ap ag:Nat) (bu:ce) (hK:fq) (a8:World):Prop where
 rel:ed B bu hK a8
 agree:∀b,(b<ap\/ag<=b)->bu b=aj b
 size:w.heap.size<=a8.heap.size
 os:a8.os=w.os
 tape:ri w a8
 output:a8.output=w.output
 frame:∀k,k<w.heap.size->¬w3 B aj H k->a8.heap[k]? = w.heap[k]?
 own:∀k,w3 B bu hK k->w3 B aj H k\/w.heap.size<=k
 le:ap<=ag
theorem wS.sub{aj:ce}(A:wS aj ap ag)(D:∀b,(b<ap\/ag<=b)->bu b=aj b):Sub aj bu:=by
 intro b p h
 by_cases E:b<ap
 ·grind
 by_cases I:ag<=b
 ·grind
 rw[A b J J]at h;cases h
theorem cx.sub{B:Nat}{aj bu:ce}{H hK:fq}{w a8:World}{ap ag:Nat}(s:cx B aj H w ap ag bu hK a8)(A:wS aj ap ag):Sub aj bu:=A.sub s.agree
theorem cx.refl{B:Nat}{aj:ce}{w:World}(n:Nat)(h:ed B aj H w):cx B aj H w n n aj H w :=
 ⟨h,ab,J,rfl,.here,rfl,ab,ab,J⟩
theorem cx.trans{B:Nat}{aj G9 I:ce}{H Lw E:fq}{w ox D:World}{a b c:Nat}(s:cx B aj H w a b G9 Lw ox)(t:cx B G9 Lw ox b c I E D):cx B aj H w a c I E D where
 rel:=t.rel
 agree:=λx h=>by have V:=s.le;have Z:=t.le;rw[t.agree x J,s.agree x J]
 size:=iv s.size t.size
 os:=t.os.trans s.os
 tape:=s.tape.trans t.tape
 output:=t.output.trans s.output
 frame:=λk M A=>by rw[t.frame k (Jt M s.size) (λN=>(s.own k N).elim A J),s.frame k M A]
 own:=λk h=>(t.own k h).elim (λh=>s.own k h) (λh=>.inr (iv s.size h))
 le:=iv s.le t.le
theorem wS.after{B:Nat}{aj:ce}{w:World}{a N:Nat}(s:cx B aj H w a b G9 Lw ox)(h:wS aj a N):wS G9 b N:=by intro x A D;rw[s.agree x J];exact h x (iv s.le A) D
theorem wS.mono{aj:ce}{a D A:Nat}(h:wS aj a b)(I:a<=D)(N:A<=b):wS aj D A:=λx E M=>h x J J
theorem pO.mono{aj bu:ce}(A:Sub aj bu){cs:aa X}{c:Array X}{off:Nat}(h:pO aj cs c off):pO bu cs c off :=
 λi v e=>let ⟨dX,dS,aI⟩:=h i v e;⟨dX,dS,aI.mono A⟩
theorem hC.mono{aj bu:ce}(A:Sub aj bu):∀{es dj:aa MapEntry},hC aj es dj->hC bu es dj
 |_,_,.nil=>.nil
 |_,_,.cons E I D t=>.cons (E.mono A) (I.mono A) D (hC.mono A t)
theorem js.mono{aj bu:ce}(D:Sub aj bu){A:ch}{a:Array X}(h:js aj A a):js bu A a:=λd v e=>(h d v e).mono D
theorem p0.mono{aj:ce}(D:Sub aj bu){m:aw Nat}(h:p0 aj m bD):p0 bu m bD:=by
 cases m <;> cases bD <;> simp only[p0]at h ⊢;obtain⟨q,A,e⟩:=h;exact⟨q,D _ _ A,e⟩
theorem mx.mono{B:Nat}{aj bu:ce}{w a8:World}{p:Place}{o:fU}(E:Sub aj bu)(bO:a8.heap[p.ca]? = w.heap[p.ca]?)(h:mx B aj w p o):mx B bu a8 p o:=by
 cases o with
 |cells cs bG =>
  cases bG with
  |true =>
   obtain⟨D,c,e,eu,I,A⟩:=h;exact⟨D,c,e,eu,ab,A.mono E⟩
  |false =>
   obtain⟨D,M,c,e,ap,ag,I,A,Z,V⟩:=h;exact⟨D,M,c,e,ap,ag,ab,A,Z.mono E,V⟩
 |map es cI =>
  obtain⟨D,dj,I,A⟩:=h;exact⟨D,dj,ab,A.mono E⟩
 |iter m N seen st =>
  obtain⟨D,M,bD,I,A⟩:=h;exact⟨D,M,bD,ab,A.mono E⟩
 |loop st rN l9 cf a b =>
  obtain⟨D,l,I,A,Z,V,cy⟩:=h;exact⟨D,l,ab,A,Z,V.mono E,cy⟩
theorem ed.less{B:Nat}{aj:ce}{w:World}(h:ed B aj H w)(ar:∀b o,hK b=some o->H b=some o):ed B aj hK w where
 base:=h.base
 obj:=λb p o A E=>h.obj b p o A ab
 inj:=λb N p V A E I Z=>h.inj b N p V A E (by obtain⟨o,D⟩:=nA.1 I;grind) (by obtain⟨o,D⟩:=nA.1 Z;grind)
 nd:=λb M=>h.nd b (by obtain⟨o,D⟩:=nA.1 M;grind)
theorem ed.world{B:Nat}{aj:ce}{w:World}(h:ed B aj H w)(A:w.heap.size<=a8.heap.size)(I:∀b p,aj b=some p->(H b).isSome->a8.heap[p.ca]? = w.heap[p.ca]?):ed B aj H a8 where
 base:=iv h.base A
 obj:=λb p o D E=>(h.obj b p o D E).mono (λ_ _ h=>h) ab
 inj:=h.inj
 nd:=h.nd
theorem mx.Dh{B:Nat}{aj:ce}{w:World}{o:fU}(h:mx B aj w p o):p.ca<w.heap.size:=by
 cases o with
 |cells cs bG =>
  cases bG with
  |true=>obtain⟨_,c,e,V,A,_⟩:=h;grind
  |false=>obtain⟨_,_,c,e,ap,ag,A,_⟩:=h;grind
 |map es cI=>obtain⟨_,dj,A,_⟩:=h;grind
 |iter m D E st=>obtain⟨_,_,bD,A,_⟩:=h;grind
 |loop st I M N a b=>obtain⟨_,l,A,_⟩:=h;grind
def fq.put(H:fq)(b:Nat)(o:fU):fq:=λk=>if k=b then some o else H k
theorem u1(h:ae)(b:Nat)(o:fU):u (T h b o)=fq.put (u h) b o:=funext λk=>Ae h b o k
theorem cx.make{B:Nat}{aj:ce}{w:World}{U:Nat}{o:fU}(h:ed B aj H w)(bw:aj U=none)(kP:a8.heap.size=w.heap.size+1)(ja:∀k,k<w.heap.size->a8.heap[k]? = w.heap[k]?)(xg:a8.os=w.os)(Z:ri w a8)(Tv:a8.output=w.output)(a6:p.ca=w.heap.size)(fI:mx B (λk=>if k=U then some p else aj k) a8 p o):
  cx B aj H w U (U+1) (λk=>if k=U then some p else aj k) (H.put U o) a8:=by
 have N:Sub aj (λk=>if k=U then some p else aj k):=λb q A=>ab
 have cb:∀b q,aj b=some q->(H b).isSome->q.ca<w.heap.size:=λb q A E=>by obtain⟨aX,D⟩:=nA.1 E;exact(h.obj b q aX A D).Dh
 refine⟨⟨by have:=h.base;omega,?_,?_,?_⟩,?_,J,xg,Z,Tv,ab,?_,J⟩
 ·intro b q aX A D
  by_cases e:b=U
  ·subst e;simp[fq.put]at A D;subst A;subst D;exact fI
  ·simp only[e,fg]at A;simp only[fq.put,e,fg]at D;exact(h.obj b q aX A D).mono N ab
 ·intro b b6 q mO A I E M ey t6
  by_cases e:b=U <;> by_cases V:b6=U
  ·omega
  ·subst e;simp at A;subst A;simp only[V,fg]at I;simp only[fq.put,V,fg]at M
   grind
  ·subst V;simp at I;subst I;simp only[e,fg]at A;simp only[fq.put,e,fg]at E
   grind
  ·simp only[e,fg]at A;simp only[V,fg]at I;simp only[fq.put,e,fg]at E;simp only[fq.put,V,fg]at M;exact h.inj b b6 q mO A I E M ey t6
 ·intro b E
  by_cases e:b=U
  ·grind
  ·simp only[fq.put,e,fg]at E;simp only[e,fg];exact h.nd b E
 ·grind
 ·rintro k ⟨b,q,A,E,rfl,ey⟩
  by_cases e:b=U
  ·grind
  ·simp only[e,fg]at A;simp only[fq.put,e,fg]at E;exact .inl ⟨b,q,A,E,rfl,ey⟩
theorem cx.change{B:Nat}{aj:ce}{w:World}(U:Nat){o:fU}(h:ed B aj H w)(M:aj b=some p)(fI:H b=some o)(ey:B<=p.ca)(kP:a8.heap.size=w.heap.size)(E:∀k,k≠p.ca->a8.heap[k]? = w.heap[k]?)(Z:a8.os=w.os)(V:ri w a8)(I:a8.output=w.output)(oD:mx B aj a8 p aX):cx B aj H w U U aj (H.put b aX) a8:=by
 refine⟨⟨by have:=h.base;omega,?_,?_,?_⟩,ab,J,Z,V,I,?_,?_,J⟩
 ·intro x q y A D
  by_cases e:x=b
  ·subst e;rw[M]at A;cases A;simp[fq.put]at D;subst D;exact oD
  ·simp only[fq.put,e,fg]at D;refine(h.obj x q y A D).mono (λ_ _ h=>h) (E _ λt6=>e ?_);exact h.inj x b q p A M ab ab J t6
 ·have N:∀x,((H.put b aX) x).isSome->(H x).isSome:=λx A=>by
   by_cases e:x=b
   ·grind
   ·simpa[fq.put,e]using A
  exact λx y q mO A D ar nK=>h.inj x y q mO A D ab ab
 ·intro x A
  by_cases e:x=b
  ·grind
  ·simp only[fq.put,e,fg]at A;exact h.nd x A
 ·intro k _ bw;refine E k λe=>bw ⟨b,p,M,ab,e.symm,J⟩
 ·rintro k ⟨x,q,A,ar,rfl,hB'⟩;refine .inl ⟨x,q,A,?_,rfl,hB'⟩
  by_cases e:x=b
  ·grind
  ·simpa[fq.put,e]using ar
def kg(aj:ce)(U:Nat):Prop:=∀b,U<=b->aj b=none
theorem kg.here{aj:ce}{U:Nat}(h:kg aj U):aj U=none:=h U J
theorem kg.sub{B:Nat}{aj:ce}{w:World}(h:kg aj ap)(s:cx B aj H w ap ag bu hK a8):Sub aj bu:=λb p A=>by
 by_cases D:b<ap
 ·rw[s.agree b J];omega
 ·rw[h b J]at A;grind
theorem kg.after{B:Nat}{aj:ce}{w:World}(h:kg aj ap)(s:cx B aj H w ap ag bu hK a8):kg bu ag:=λb A=>by rw[s.agree b J];exact h b (iv s.le A)
def Fin(B:Nat)(aj:ce)(h:ae)(w:World)(U:Nat)(K:X->ae->Nat->Prop)(e:Ending)(a8:World):Prop :=
 ∃v ac Y bu c,e = .returned c/\K v ac Y/\bF bu v c/\cx B aj (u h) w U Y bu (u ac) a8
def CU(P:Program)(f:FuncId):Prop:=∃fn,P.funcs[f]? = some fn/\fn.body.isSome=true/\(fn.name == "runtime.NumGoroutine")=false
abbrev bN:=X->ae->Nat->Prop
def nv(r:aw Nat):Fence:={ Fence.wide with round:=r }
variable {kC:bN} {C:bN->Prop}
theorem Y2(r:aw Nat)(n:Nat)(P:Program):CallsIn (nv r) n P=CallsIn Fence.wide n P:=rfl
theorem amW(r:aw Nat)(n:Nat)(P:Program):RoundIn (nv r) n P=RoundIn Fence.wide n P:=rfl
def lg(P:Program)(f:FuncId)(args:aa X)(h:ae)(U:Nat)(K:bN):Prop :=
 CU P f/\∀(B:Nat) (aj:ce) (w:World) (DB:aa X),ed B aj (u h) w->kg aj U->dt aj args DB->∀n,CallsIn Fence.wide n P f ⟨DB⟩ w (Fin B aj h w U K)
def t7(P:Program)(l:Nat)(args:aa X)(h:ae)(U:Nat)(K:bN):Prop :=
 ∀(B:Nat) (aj:ce) (w:World) (DB:aa X) (p:Place),ed B aj (u h) w->kg aj U->dt aj args DB->aj l=some p ->
  ∃py:Loop,w.heap[p.ca]? = some (.loop py)/\DB.length=py.params.size/\∀n,RoundIn Fence.wide n P p.ca py.fn ((py.params.zip ⟨DB⟩).foldl (λtmps (t,a)=>tmps.setIfInBounds t a) py.tmps) py.assign py.body w (Fin B aj h w U K)
def uv(s:al)(C:bN->Prop)(K:bN):Prop:=match s with
 |true=>∃v h U,K v h U/\C (λdX ac Y=>dX=v/\ac=h/\Y=U)
 |false=>C K
def aE(P:Program)(s:al)(f:FuncId)(args:aa X)(h:ae)(U:Nat)(K:bN):Prop:=uv s (lg P f args h U) K
def mb(P:Program)(s:al)(l:Nat)(args:aa X)(h:ae)(U:Nat)(K:bN):Prop:=uv s (t7 P l args h U) K
theorem Fin.mono{B:Nat}{aj:ce}{h:ae}{w:World}{U:Nat}{K:bN}(A:∀v h U,K v h U->kC v h U){e:Ending}:Fin B aj h w U K e a8->Fin B aj h w U kC e a8:=λ⟨v,ac,Y,bu,c,e,D,r⟩=>⟨v,ac,Y,bu,c,e,A _ _ _ D,r⟩
theorem lg.mono{P:Program}{f:FuncId}{args:aa X}{h:ae}{U:Nat}{K kC:bN}(A:lg P f args h U K)(I:∀v h U,K v h U->kC v h U):lg P f args h U kC :=
 ⟨A.1,λB aj w a E M D n=>(A.2 B aj w a E M D n).mono λ_ _=>Fin.mono I⟩
theorem t7.mono{P:Program}{l:Nat}{args:aa X}{h:ae}{U:Nat}{K kC:bN}(E:t7 P l args h U K)(M:∀v h U,K v h U->kC v h U):t7 P l args h U kC :=
 λB aj w a p D N A I=>let ⟨py,aU,aK,cc⟩:=E B aj w a p D N A I;⟨py,aU,aK,λn=>(cc n).mono λ_ _=>Fin.mono M⟩
theorem uv.mono{s:al}(M:∀{K kC:bN},C K->(∀v h U,K v h U->kC v h U)->C kC){K:bN}(A:uv s C K)(D:∀v h U,K v h U->kC v h U):uv s C kC:=by
 cases s with
 |true=>obtain⟨v,h,U,E,I⟩:=A;exact⟨v,h,U,D _ _ _ E,I⟩
 |false=>exact M A D
theorem uv.down{s:al}(I:∀{K kC:bN},C K->(∀v h U,K v h U->kC v h U)->C kC){K:bN}(A:uv s C K):C K:=by
 cases s with
 |true=>obtain⟨v,h,U,E,D⟩:=A;exact I D (by rintro _ _ _ ⟨rfl,rfl,rfl⟩;exact E)
 |false=>exact A
theorem aE.mono{P:Program}{s:al}{f:FuncId}{args:aa X}{h:ae}{U:Nat}{K kC:bN}(D:aE P s f args h U K)(A:∀v h U,K v h U->kC v h U):aE P s f args h U kC:=uv.mono lg.mono D A
theorem mb.mono{P:Program}{s:al}{l:Nat}{args:aa X}{h:ae}{U:Nat}{K kC:bN}(D:mb P s l args h U K)(A:∀v h U,K v h U->kC v h U):mb P s l args h U kC:=uv.mono t7.mono D A
noncomputable section
def d9(ak:ch)(x:ff):R X:=match x with
 | .t n=>(match ho ak n with|some (some v)=>.ok v|some none=>.ok j1|none=>.no "temp")
 | .v v=>.ok v
def p1(ak:ch):aa ff->R (aa X)
 | []=>.ok []
 |x::xs=>R.bind (d9 ak x) λv=>R.bind (p1 ak xs) λaF=>.ok (v::aF)
def LD(ak:ch)(x:aw ff):R (aw X):=match x with
 |none=>.ok none
 |some x=>R.bind (d9 ak x) λv=>.ok (some v)
def GO(ak:ch):aa (Nat × Nat × ff)->R (aa (Nat × Nat × X))
 | []=>.ok []
 |(o,z,x)::xs=>R.bind (d9 ak x) λv=>R.bind (GO ak xs) λaF=>.ok ((o,z,v)::aF)
def p2(P:Program)(ak:ch)(e:IQ):R X:=match e with
 | .h4 x=>d9 ak x
 | .pick c a b=>R.bind (d9 ak c) λc=>R.bind (d9 ak a) λa=>R.bind (d9 ak b) λb=>G5 c a b
 | .bin op t x y=>R.bind (d9 ak x) λx=>R.bind (d9 ak y) λy=>bin P op t x y
 | .un op x=>R.bind (d9 ak x) λx=>du op x
 | .conv d x=>R.bind (d9 ak x) λx=>ou d x
 | .vz off bI x=>R.bind (d9 ak x) λx=>w1 off bI x
 | .ag5 off x=>R.bind (d9 ak x) λx=>AM off x
 | .ixA k x i=>R.bind (d9 ak x) λx=>R.bind (d9 ak i) λi=>iy k x i
 | .idx t x i=>R.bind (d9 ak x) λx=>R.bind (d9 ak i) λi=>azn P t x i
 | .mN s x ap ag iW=>R.bind (d9 ak x) λx=>R.bind (LD ak ap) λap=>R.bind (LD ak ag) λag=>R.bind (LD ak iW) λiW=>gi s x ap ag iW
 | .ext x i=>R.bind (d9 ak x) λx=>cp x i
 | .ag6 x=>R.bind (d9 ak x) λx=>bs x
 | .mkf f a b=>R.bind (p1 ak a) λa=>R.bind (p1 ak b) λb=>.ok (.func (.func f) ⟨a⟩ ⟨b⟩)
 | .ifc t x=>R.bind (d9 ak x) λx=>.ok (.iface t x)
 | .asr a ok x=>R.bind (d9 ak x) λx=>Ao P a ok x
 | .VC b x y=>R.bind (d9 ak x) λx=>R.bind (d9 ak y) λy=>min2 b x y
 | .cap t x=>R.bind (d9 ak x) λx=>Hp P t x
 | .build z mZ=>R.bind (GO ak mZ) λcf=>cV z cf
def DR(ak:ch)(e:ES):R kV:=match e with
 | .new l=>.ok (.ptr (.cells l false))
 | .box x=>R.bind (d9 ak x) λx=>Gh (dn x)
 | .Tt len base mZ=>R.bind (GO ak mZ) λcf=>fc len base cf
 | .mkm=>.ok .map
 | .mks z l c=>R.bind (d9 ak l) λl=>R.bind (d9 ak c) λc=>sP z l c
def pred(P:Program)(ak:ch)(e:HI)(h:ae):R X:=match e with
 | .ld bI x=>R.bind (d9 ak x) λx=>iz bI h x
 | .lkp dT z m k ok=>R.bind (d9 ak m) λm=>R.bind (d9 ak k) λk=>j3 P h dT z ok m k
 | .lens x=>R.bind (d9 ak x) λx=>AX x
 | .ag7 x=>R.bind (d9 ak x) λx=>w2 h x
 | .entry x=>R.bind (d9 ak x) λx=>wL h x
def br(v:X)(a b:Prop):Prop:=match v with
 | .bool t=>(match t with|true=>a|false=>b)
 |_=>False
def dY(r:R kV)(h:ae)(U:Nat)(k:X->ae->Nat->Prop):Prop:=af r λb=>k (xe U b) (T h U (sW b)) (U+1)
def dG(r:fr)(k:X->ae->Nat->Prop):Prop:=match r with
 | .val v h U=>k v h U
 |_=>False
def eQ(P:Program)(s:al)(r:fr)(k:X->ae->Nat->Prop):Prop:=match r with
 | .call f args h U=>aE P s f args h U k
 | .round l args h U=>mb P s l args h U k
 |_=>False
def vB(s:al)(h:ae)(U:Nat)(v:X)(k:X->ae->Nat->Prop):Prop :=
 ∃it r Dv st cI seen es,s=false/\v = .pointer (some ⟨it,0,none⟩)/\u h it=some (.iter (some r) Dv seen st)/\u h r=some (.map es cI)/\KW seen es st=true /\
  (leftOf seen es=[]->k (.tuple #[.bool false]) h U)/\∀e∈leftOf seen es,e.born<Dv/\k (.tuple #[.bool true,e.key,e.val]) (T h it (.iter (some r) Dv (seen++[e.born]) cI)) U
def nH(v:X)(r:R X):al:=match r with | .ok w=>ov v w | .no _=>false
def pi(f:ae->R X)(v:X)(p:Prop):Nat->aa ae->Prop
 |0,_=>p
 |n+1,h::ar=>nH v (f h)=true/\pi f v p n ar
 |_+1,[]=>False
def Nj{fe:Type}(r:R fe)(k:fe->Prop):Prop:=id (af r k)
def kD(g:aw (Nat × al))(ak:ch)(a b:ch->Prop):Prop:=match g with
 |none=>a ak
 |some (t,w)=>(match ho ak t with
  |some (some v)=>br v ((match w with|true=>a|false=>b) ((t,some (.bool true))::ak)) ((match w with|true=>b|false=>a) ((t,some (.bool false))::ak))
  |some none=>b ak
  |none=>False)
section
variable (P:Program) (s:al)
def pz(e:vV)(ak:ch)(h:ae)(U:Nat)(k:X->ae->Nat->Prop):Prop:=match e with
 | .st n a x=>af (d9 ak a) λa=>af (d9 ak x) λx=>af (aS h n a x) λh=>k j1 h U
 | .y1 dT m key x=>af (d9 ak m) λm=>af (d9 ak key) λkey=>af (d9 ak x) λx=>af (m9 P dT h m key x) λh=>k j1 h U
 | .rR x=>af (d9 ak x) λx=>dG (sJ h U x) k
 | .fG x=>af (d9 ak x) λx=>vB s h U x k
 | .call f args=>af (p1 ak args) λl=>aE P s f l h U k
 | .AN f args=>af (d9 ak f) λf=>af (p1 ak args) λl=>eQ P s (hU h U l f) k
 | .app z x y=>af (d9 ak x) λx=>af (d9 ak y) λy=>dG (dO (dM z h U x y)) k
 | .bi b ai args=>af (p1 ak args) λl=>dG (dO (nE P b ai h U l)) k
 | .inv r m args=>af (p1 ak args) λl=>af (d9 ak r) λv=>eQ P s (jm P h U l m v) k
def nU(d:aw Nat)(i:nu)(ak:ch)(h:ae)(U:Nat)(k:ch->ae->Nat->Prop):Prop:=match i with
 | .fx (.h4 x)=>Nj (d9 ak x) λv=>k (ez ak d (some v)) h U
 | .fx (.pick c a b)=>af (d9 ak c) λc=>af (d9 ak a) λa=>af (d9 ak b) λb=>br c (k (ez ak d (some a)) h U) (k (ez ak d (some b)) h U)
 | .fx e=>af (p2 P ak e) λv=>k (ez ak d (some v)) h U
 | .iA e=>dY (DR ak e) h U λv h U=>k (ez ak d (some v)) h U
 | .red e=>af (pred P ak e h) λv=>k (ez ak d (some v)) h U
 | .fy e=>pz P s e ak h U λv h U=>k (ez ak d (some v)) h U
def qs(l:aa ma):ch->ae->Nat->(ch->ae->Nat->Prop)->Prop :=
 List.rec (motive:=λ_=>ch->ae->Nat->(ch->ae->Nat->Prop)->Prop) (λak h U K=>K ak h U)
  (λi _ eS ak h U K=>kD i.g ak (λak=>nU P s i.d i.k ak h U λak h U=>eS ak h U K) (λak=>eS (ez ak i.d none) h U K)) l
def nf(d:aw Nat)(c:Nat)(i:nu)(ak:ch)(h:ae)(U:Nat)(b:ae)(ar:aa ae)(k:ch->ae->Nat->ae->aa ae->Prop):Prop:=match i with
 | .fx (.h4 x)=>Nj (d9 ak x) λv=>k (ez ak d (some v)) h U b ar
 | .fx (.pick c x y)=>af (d9 ak c) λc=>af (d9 ak x) λx=>af (d9 ak y) λy=>br c (k (ez ak d (some x)) h U b ar) (k (ez ak d (some y)) h U b ar)
 | .fx e=>af (p2 P ak e) λv=>k (ez ak d (some v)) h U b ar
 | .iA e=>dY (DR ak e) h U λv h U=>k (ez ak d (some v)) h U b ar
 | .red e=>af (pred P ak e b) λv=>Nat.rec (k (ez ak d (some v)) h U b ar) (λ_ _=>pi (pred P ak e) v (k (ez ak d (some v)) h U b ar) c ar) c
 | .fy (.st n a x)=>af (d9 ak a) λa=>af (d9 ak x) λx=>af (aS h n a x) λh=>k (ez ak d (some j1)) h U h (b::ar)
 | .fy (.y1 dT m key x)=>af (d9 ak m) λm=>af (d9 ak key) λkey=>af (d9 ak x) λx=>af (m9 P dT h m key x) λh=>k (ez ak d (some j1)) h U h (b::ar)
 | .fy e=>pz P true e ak h U λv ac Y=>U<=Y/\k (ez ak d (some v)) ac Y ac (b::ar)
def ij(l:aa ma):ch->ae->Nat->ae->aa ae->(ch->ae->Nat->Prop)->Prop :=
 List.rec (motive:=λ_=>ch->ae->Nat->ae->aa ae->(ch->ae->Nat->Prop)->Prop) (λak h U _ _ K=>K ak h U)
  (λi _ eS ak h U b ar K=>kD i.g ak (λak=>nf P i.d i.c i.k ak h U b ar λak h U b ar=>eS ak h U b ar K)
   (λak=>Bool.rec (eS (ez ak i.d none) h U b ar K) (eS (ez ak i.d none) h U h (b::ar) K) (jn i.k))) l
abbrev iX:=ch->ae->Nat->Prop
abbrev aP:=aa X->ae->Nat->Prop
def bb:aa X->Nat->X
 | [],_=>j1
 |x::l,i=>match i with|0=>x|i+1=>bb l i
def rP:aa Nat->aa X->Nat->ch
 | [],_,_=>[]
 |n::L,aF,i=>(n,some (bb aF i))::rP L aF (i+1)
def oR:aa Nat->ch->(aa X->Prop)->Prop
 | [],_,k=>k []
 |n::L,ak,k=>match ho ak n with
  |some (some v)=>oR L ak λaF=>k (v::aF)
  |some none=>oR L ak λaF=>k (j1::aF)
  |none=>False
def ka{az:Type}:aa (Nat × (az->ae->Nat->Prop))->Nat->az->ae->Nat->Prop
 | [],_=>λ_ _ _=>False
 |p::l,i=>bif Nat.beq p.1 i then p.2 else ka l i
abbrev oS:=aa X->ae->Nat->aP->aa (Nat × aP)->aP->Prop
def bE(B:oS)(aF:aa X)(h:ae)(U:Nat)(E:aa (Nat × aP))(R:aP):Prop :=
 ∃(eF:Nat->aa X->ae->Nat->Prop) (m:Nat),eF m aF h U/\∀m aF h U,eF m aF h U->B aF h U (λaF h U=>∃bD,bD<m/\eF bD aF h U) E R
def hI:kB->Nat
 | .seq a b=>hI a+hI b
 | .cond _ a b=>hI a+hI b
 | .block _ c=>hI c
 | .scope c=>hI c
 | .loop c=>hI c+1
 |_=>0
def kt(l:aa (aa Nat))(i:Nat):aa Nat:=match g3 l i with|some x=>x|none=>[]
def rQ(i:Nat):kB->al
 | .seq a b=>rQ i a||rQ i b
 | .cond _ a b=>rQ i a||rQ i b
 | .block _ c=>rQ i c
 | .scope c=>rQ i c
 | .loop c=>rQ i c
 | .exit j=>Nat.beq i j
 |_=>false
def vo:kB->al
 | .seq a b=>vo a||vo b
 | .cond _ a b=>vo a||vo b
 | .block _ c=>vo c
 | .scope c=>vo c
 | .loop c=>vo c
 | .ret=>true
 |_=>false
def tR(L:aa Nat)(k:aP):iX:=λak h U=>oR L ak λaF=>k aF h U
def HJ(L:aa Nat)(k:iX):aP:=λaF h U=>k (rP L aF 0) h U
def w4(L:aa Nat):aa (Nat × aP)->aa (Nat × iX)
 | []=>[]
 |p::l=>(p.1,tR L p.2)::w4 L l
def vC(L:aa Nat)(c:kB):aa (Nat × iX)->aa (Nat × aP)
 | []=>[]
 |p::l=>bif rQ p.1 c then(p.1,HJ L p.2)::vC L c l else vC L c l
def HK(L:aa Nat)(c:kB)(k:iX):aP:=bif vo c then HJ L k else λ_ _ _=>False
def yL(l:Nat)(N R:ae->Nat->Prop):bN:=λ_ h U=>∃st p Bi cf a b,u h l=some (.loop st p Bi cf a b)/\st≠1/\((p=none/\N (T h l (.loop 3 p Bi cf a b)) U)\/(p=some .ret/\R (T h l (.loop 3 p Bi cf a b)) U))
def t8(P:Program)(s:al)(v:X)(h:ae)(U:Nat)(o:fU)(K:bN):Prop:=match v with
 | .func (.func g) a b=>aE P s g (a.toList++(.func (.yield U) #[] #[]::b.toList)) (T h U o) (U+1) K
 |_=>False
def h6(e0:aa (aa Nat)):kB->Nat->ch->ae->Nat->iX->aa (Nat × iX)->iX->Prop
 | .skip,_,ak,h,U,N,_,_=>N ak h U
 | .exit id,_,ak,h,U,_,E,_=>ka E id ak h U
 | .ret,_,ak,h,U,_,_,R=>R ak h U
 | .scope c,i,ak,h,U,N,E,R=>h6 e0 c i ak h U N E R
 | .tQ l,_,ak,h,U,N,_,_=>qs P s l ak h U N
 | .DM l,_,ak,h,U,N,_,_=>ij P l ak h U h [] N
 | .xL f cf a b,_,ak,h,U,N,_,R=>af (d9 ak f) λv=>t8 P s v h U (.loop 0 none ak cf a b) (yL U (N ak) (R ak))
 | .seq a b,i,ak,h,U,N,E,R=>h6 e0 a i ak h U (λak h U=>h6 e0 b (i+hI a) ak h U N E R) E R
 | .block id c,i,ak,h,U,N,E,R=>h6 e0 c i ak h U N ((id,N)::E) R
 | .cond x a b,i,ak,h,U,N,E,R=>(match x with
  | .v v=>br v (h6 e0 a i ak h U N E R) (h6 e0 b (i+hI a) ak h U N E R)
  | .t n=>(match ho ak n with
   |some (some v)=>br v (h6 e0 a i ((n,some (.bool true))::ak) h U N E R) (h6 e0 b (i+hI a) ((n,some (.bool false))::ak) h U N E R)
   |_=>False))
 | .loop c,i,ak,h,U,_,E,R=>oR (kt e0 i) ak λaF=>bE (λaF h U N E R=>h6 e0 c (i+1) (rP (kt e0 i) aF 0) h U (tR (kt e0 i) N) (w4 (kt e0 i) E) (tR (kt e0 i) R)) aF h U
   (vC (kt e0 i) c E) (HK (kt e0 i) c R)
 | .no,_,_,_,_,_,_,_=>False
end
def yM(P:Program)(ak:ch)(h:ae):aa ResultVar->(aa X->Prop)->Prop
 | [],k=>k []
 | .tmp t::bx,k=>af (d9 ak (.t t)) λv=>yM P ak h bx λaF=>k (v::aF)
 | .cell a t::bx,k=>af (d9 ak (.t a)) λv=>af (R.of "type" (oq P t) λbI=>iz bI h v) λv=>yM P ak h bx λaF=>k (v::aF)
def DS(l:aa X):X:=match l with | [v]=>v|l=>.tuple ⟨l⟩
def sQ(P:Program)(bx:aa ResultVar)(K:bN):iX:=λak h U=>yM P ak h bx λl=>K (DS l) h U
def ys:aa X->Nat->ch
 | [],_=>[]
 |v::aF,i=>(i,some v)::ys aF (i+1)
def oT(P:Program)(s:al)(e0:aa (aa Nat))(f:FuncId)(args:aa X)(h:ae)(U:Nat)(K:bN):Prop:=match yr P f with
 |some oU=>h6 P s e0 oU.body 0 (ys args 0) h U (sQ P oU.res K) [] (sQ P oU.res K)
 |none=>False
def yt:kB->Nat->aw kB
 | .seq a b,i=>(bif Nat.blt i (hI a)then yt a i else yt b (i-hI a))
 | .cond _ a b,i=>(bif Nat.blt i (hI a)then yt a i else yt b (i-hI a))
 | .block _ c,i=>yt c i
 | .scope c,i=>yt c i
 | .loop c,i=>(match i with|0=>some c|i+1=>yt c i)
 |_,_=>none
def bU(P:Program)(s:al)(e0:aa (aa Nat))(f:FuncId)(i:Nat):oS:=match yr P f with
 |some oU=>(match yt oU.body i with
  |some c=>λaF h U N E R=>h6 P s e0 c (i+1) (rP (kt e0 i) aF 0) h U (tR (kt e0 i) N) (w4 (kt e0 i) E) (tR (kt e0 i) R)
  |none=>λ_ _ _ _ _ _=>False)
 |none=>λ_ _ _ _ _ _=>False
end
theorem pM(g o n:Nat):(⟨g,o,none⟩:Addr).add n=⟨g,o+n,none⟩:=by unfold Addr.add;grind
theorem XT(h:gN v=true):v.oneCell'=true:=by cases v <;> simp_all[gN,Value.oneCell']
theorem ed.cells{B:Nat}{aj:ce}{H:fq}{w:World}(V:ed B aj H w){b:Nat}{p:Place}{cs:aa X}{bG:al}(I:aj b=some p)(N:H b=some (.cells cs bG)):
  ∃c e D,w.heap[p.ca]? = some (.cells c e D)/\pO aj cs c p.off:=by
 have:=V.obj b p _ I N;cases bG with
 |true=>obtain⟨_,c,e,D,A,E⟩:=this;exact⟨c,e,D,A,E⟩
 |false=>obtain⟨_,M,c,e,ap,ag,A,_,E,_⟩:=this;exact⟨c,e,(ap,ag),A,by rw[M];exact E⟩
theorem pO.cut{aj:ce}{c:Array X}{o n:Nat}(h:pO aj cs c off)(N:o+n<=cs.length):
  ∃b1:aa X,b1.length=n/\dt aj ((cs.drop o).take n) b1/\∀j v,b1[j]? = some v->c[off+o+j]? = some v:=by
 have A:∀j,j<n->off+o+j<c.size:=λj I=>by
  obtain⟨E,e,_⟩:=h (o+j) (cs[o+j]'J) ab
  grind
 refine⟨(c.toList.drop (off+o)).take n,?_,?_,?_⟩
 ·simp only[oc,CD,Fj];rcases xZ n with D|D
  ·omega
  ·have:=A (n-1) J;omega
 ·refine dt.adn ?_ ?_
  ·simp only[oc,CD,Fj];rcases xZ n with D|D
   ·omega
   ·have:=A (n-1) J;omega
  ·intro j v e;simp only[wk,xY]at e ⊢
   split at e
   ·rename_i I
    obtain⟨E,V,M⟩:=h (o+j) v e;exact⟨E,ab,M⟩
   ·cases e
 grind
theorem W4{P:Program}(h:oq P t=some bI):
  ∃i d,P.info? t=some i/\P.underlying t=some d /\
   ((∃n,bI=some n/\i.size=n/\∀w,(isAgg t).run P w = .ok true w)\/(bI=none/\∀w,(isAgg t).run P w = .ok false w)):=by
 unfold oq jO at h;cases A:P.underlying t with
 |none=>grind
 |some d =>
  cases ag:P.info? t with
  |none=>rw[A,ag]at h;grind
  |some i =>
   refine⟨i,d,rfl,rfl,?_⟩;rw[A,ag]at h;have D:∀w,(underlying t).run P w = .ok d w:=run_underlying A;cases d <;> simp at h <;> first
    |(right;refine⟨h.symm,λw=>?_⟩;simp[isAgg,D];done)
    |(left;refine⟨_,h.symm,rfl,λw=>?_⟩;simp[isAgg,D];done)
theorem FC{P:Program}{i:TypeInfo}(h:P.info? t=some i)(w:World):(sizeOf t).run P w = .ok i.size w:=by simp[sizeOf,typeInfo,h]
theorem akD{P:Program}{n:Nat}(h:jO P t=some n):∃i,P.info? t=some i/\i.size=n:=by
 unfold jO at h;cases ag:P.info? t with
 |none=>rw[ag]at h;cases h
 |some i=>rw[ag]at h;grind
theorem ko{P:Program}{n:Nat}(h:jO P t=some n)(w:World):(sizeOf t).run P w = .ok n w:=by obtain⟨i,ag,rfl⟩:=akD h;exact FC ag w
theorem PT{w:World}{g:Nat}{c:Array X}{A:Nat × Nat}(h:w.heap[g]? = some (.cells c e A))(D:c[i]? = some v):w.cell? ⟨g,i,none⟩=some v:=by simp[World.cell?,h,D]
theorem Y3{r:aw (aa X)}(h:Ld r = .ok v):∃l,r=some l/\v = .agg ⟨l⟩:=by
 cases r with
 |none=>cases h
 |some l=>cases h;grind
theorem Y4{r:aw X}(h:Dw r = .ok v):r=some v:=by
 cases r with
 |none=>cases h
 |some l=>cases h;rfl
theorem R.k9{az:Type}{s:String}{r:aw az}{f:az->R fe}{x:fe}(h:R.of s r f = .ok x):∃a,r=some a/\f a = .ok x:=by
 cases r with
 |none=>cases h
 |some a=>exact⟨a,rfl,h⟩
theorem R.fh{az fe:Type}{r:R az}{f:az->R fe}{x:fe}(h:R.bind r f = .ok x):∃a,r = .ok a/\f a = .ok x:=by
 cases r with
 |no w=>cases h
 |ok a=>exact⟨a,rfl,h⟩
theorem FH{h:ae}{k:aa X->al->R fe}{x:fe}(e:cellsOf h b k = .ok x):∃cs bG,u h b=some (.cells cs bG)/\k cs bG = .ok x:=by
 unfold cellsOf at e;cases A:u h b with
 |none=>rw[A]at e;cases e
 |some o =>
  rw[A]at e;cases o with
  |cells cs bG=>grind
  |_=>cases e
theorem J6{k:Addr->R fe}{x:fe}(e:AL v k = .ok x):∃a,v = .pointer (some a)/\k a = .ok x:=by
 unfold AL at e
 grind
theorem bF.O5{aj:ce}{a:Addr}(h:bF aj (.pointer (some a)) c):∃p,a.spot=none/\aj a.block=some p/\c = .pointer (some ⟨p.ca,p.off+a.off,none⟩):=by
 cases h with
 |ptr h=>grind
theorem PU{P:Program}{B:Nat}{aj:ce}{h:ae}{w:World}(bc:ed B aj (u h) w)(xh:oq P t=some bI)(V:iz bI h x = .ok v)(bd:bF aj x dh):
  ∃ea,dh = .pointer (some ea)/\∃c,(loadVar t ea).run P w = .ok c w/\bF aj v c:=by
 obtain⟨⟨b,o,aB⟩,rfl,V⟩:=J6 V;obtain⟨p,mD,aW,rfl⟩:=bd.O5;refine⟨_,rfl,?_⟩;simp only at mD aW V;obtain⟨cs,bG,a1,V⟩:=FH V;obtain⟨c,e,eu,bO,A⟩:=bc.cells aW a1;obtain⟨i,d,ag,d5,h|h⟩:=W4 xh
 ·obtain⟨n,rfl,rfl,E⟩:=h;obtain⟨l,D,rfl⟩:=Y3 V;rw[qG,rA]at D
  split at D
  ·rename_i dv
   cases D;have I:o+i.size<=cs.length\/i.size=0:=ab
   rcases I with I | au
   ·obtain⟨b1,Z,Ea,u⟩:=A.cut   I;refine⟨.agg ⟨b1⟩,?_,.agg Ea⟩;have M:=run_loadCells_list (P:=P) w ⟨p.ca,p.off+o,none⟩ b1 (λj v aI=>by rw[pM];exact PT bO ab)
    rw[Z]at M;simp[loadVar,E,FC ag,M]
   ·refine⟨.agg #[],?_,.agg (by rw[au];simpa using dt.nil)⟩;simp[loadVar,E,FC ag,au,loadCells,loadCellsFrom]
  ·cases D
 ·obtain⟨rfl,E⟩:=h;have aY:=Y4 V;rw[i4]at aY;obtain⟨dX,dS,aI⟩:=A o v aY;refine⟨dX,?_,aI⟩;have N:=PT bO dS;simp[loadVar,E,N]
structure afv (w a8:World) (g:Nat) (c:Array X) (e:TypeId) (eu:Nat × Nat):Prop where
 heap:a8.heap[g]? = some (.cells c e eu)
 size:a8.heap.size=w.heap.size
 frame:∀k,k≠g->a8.heap[k]? = w.heap[k]?
 os:a8.os=w.os
 tape:ri w a8
 output:a8.output=w.output
theorem ajn(w:World)(g i:Nat)(A:Array X)(e:TypeId)(D:Nat × Nat)(v:X)(I:w.heap[g]? = some (.cells A e D)):
  afv w (w.setCell ⟨g,i,none⟩ v) g (A.setIfInBounds i v) e D:=by
 refine⟨?_,by simp[World.setCell],λk E=>?_,rfl,.here,rfl⟩
 ·simp[World.setCell,Jl,I]
 ·simp[World.setCell,Jl,kI E]
theorem WB{az:Type}(l:aa az)(k:Nat)(v:az)(A:aa az)(h:k+A.length+1<=l.length):
  (l.set k v).take (k+1)++A++(l.set k v).drop (k+1+A.length)=l.take k++(v::A)++l.drop (k+(A.length+1)):=by
 have D:(l.set k v).take (k+1)=l.take k++[v]:=by
  apply pI;intro j;simp only[wk,Fh,oc,uN]
  grind
 have E:(l.set k v).drop (k+1+A.length)=l.drop (k+(A.length+1)):=by
  apply pI
  grind
 grind
theorem NY(P:Program)(g o:Nat)(e:TypeId)(ap ag:Nat):∀(aF:aa X) (i:Nat) (A:Array X) (w:World),w.heap[g]? = some (.cells A e (ap,ag))->(ap<ag->A.size<=ap) ->
  o+i+aF.length<=A.size->(∀v∈aF,v.oneCell'=true) ->
  ∃a8,(storeCells ⟨g,o,none⟩ aF i).run P w = .ok () a8/\afv w a8 g (A.toList.take (o+i)++aF++A.toList.drop (o+i+aF.length)).toArray e (ap,ag)
 | [],i,A,w,Z,_,_,_=>by refine⟨w,rfl,⟨?_,rfl,ab,rfl,.here,rfl⟩⟩;simp[Z]
 |v::I,i,A,w,Z,ja,bo,h1=>by
  have cb:o+i<A.size:=ab
  have M:w.cell? ⟨g,o+i,none⟩=some A[o+i]:=by simp[World.cell?,Z,cb]
  have N:w.frozen? ⟨g,o+i,none⟩=false:=by
   simp only[World.frozen?,Z]
   grind
  have D:=ajn w g (o+i) A e (ap,ag) v Z;obtain⟨a8,V,E⟩:=NY P g o e ap ag I (i+1) (A.setIfInBounds (o+i) v) (w.setCell ⟨g,o+i,none⟩ v) D.heap ab ab ab;refine⟨a8,?_,?_⟩
  ·simp only[storeCells,Sem.run_bind];rw[pM,run_store P w _ v _ ab,M];simp[N,V]
  ·refine⟨?_,E.size.trans D.size,λk hk=>(E.frame k hk).trans (D.frame k hk),E.os.trans D.os,D.tape.trans E.tape,E.output.trans D.output⟩;rw[E.heap]
   congr 3
   have:=WB A.toList (o+i) v I J;simpa[Array.toList_setIfInBounds,wo]using this
theorem JR{P:Program}{B:Nat}{aj:ce}{h:ae}{w:World}(bc:ed B aj (u h) w){o:Nat}(U:Nat)(aW:aj b=some p)(I:ol h b o l = .ok ac)(bo:dt aj l b1):
  ∃a8,(storeCells ⟨p.ca,p.off+o,none⟩ b1).run P w = .ok () a8/\cx B aj (u h) w U U aj (u ac) a8:=by
 obtain⟨cs,bG,a1,I⟩:=FH I;cases bG with
 |true=>cases I
 |false =>
  have I:(bif d4 l then R.of "write - out of block" (m7 l cs o) (λcs=>.ok (T h b (.cells cs false)))else .no "write - cells")=R.ok ac:=I;rcases M:d4 l with _|_
  ·rw[M]at I;cases I
  rw[M]at I;have LF:∀v∈b1,v.oneCell'=true:=λv N=>XT (Ob bo M v N);obtain⟨l3,A,I⟩:=R.k9 I;cases I;have Z:=bc.obj b p _ aW a1;obtain⟨ey,au,c,e,ap,ag,h1,ao,aT,a9⟩:=Z;rw[tB]at A
  split at A
  ·rename_i dv
   cases A;have fO:=bo.length;obtain⟨a8,tS,D⟩:=NY P p.ca (p.off+o) e ap ag b1 0 c w h1 J J LF;refine⟨a8,tS,?_⟩;rw[u1];refine cx.change U bc aW a1 ey D.size D.frame D.os D.tape D.output ?_;refine⟨ey,au,_,e,ap,ag,D.heap,?_,?_,?_⟩
   ·grind
   ·intro i v N;simp only[iE,au,og]at *
    have M:cs.length<=c.size:=J
    simp only[Fh,oc,xY,wk,List.getElem?_toArray,Fj,Array.getElem?_toList,ib]at N ⊢;rcases jJ i o with hio|hio
    ·simp only[show i<min o cs.length by omega,if_true,hio]at N;obtain⟨dX,V,E⟩:=aT i v N;rw[iE]at V;exact⟨dX,ab,E⟩
    ·rcases jJ i (o+l.length)with vD|vD
     ·simp only[show ¬i<min o cs.length by omega,fg,show i-min o cs.length<l.length by omega,if_true]at N;obtain⟨dX,V,E⟩:=bo.get N;refine⟨dX,?_,E⟩
      grind
     ·simp only[show ¬i<min o cs.length by omega,fg,show ¬i-min o cs.length<l.length by omega]at N;obtain⟨dX,V,E⟩:=aT i v ab;refine⟨dX,?_,E⟩
      grind
   grind
  ·cases A
theorem Gm{a b:IntKind}:mC a b=true↔a=b:=by cases a <;> cases b <;> decide
theorem wy(a:IntKind):mC a a=true:=Gm.2 rfl
theorem o5(a b:Nat):Nat.blt a b=decide (a<b):=by rw[z5];simp[wq]
theorem yi{a b:Int}:fk a b=true↔a=b:=by
 cases a <;> cases b <;> simp[fk]
 all_goals omega
theorem k4(a b:Int):fk a b=(a == b):=by rw[z5,yi];simp
theorem amX{a b:Int}:lw a b=true↔a<b:=by
 cases a with
 |ofNat m=>cases b with
  |ofNat n=>show Nat.blt m n=true↔_;rw[o5];simp
  |negSucc n=>show false=true↔_;grind
 |negSucc m=>cases b with
  |ofNat n=>show true=true↔_;grind
  |negSucc n=>show Nat.blt n m=true↔_;rw[o5];grind
theorem rC(a b:Int):lw a b=decide (a<b):=by rw[z5,amX];simp
theorem Ku{k:IntKind}{n:Int}(A:k.min<=n)(D:n<=k.max):k.wrap n=n:=by
 cases k <;> simp[IntKind.min,IntKind.max,IntKind.signed,IntKind.bits]at A D <;> simp[IntKind.wrap,IntKind.signed,IntKind.bits] <;> omega <;> omega
theorem oh(k:IntKind)(n:Int):tI k n=k.wrap n:=by
 cases n with
 |ofNat a =>
  show(bif Nat.blt a (yK k)then Int.ofNat a else k.wrap (.ofNat a))=_;cases h:Nat.blt a (yK k)with
  |false=>rfl
  |true =>
   have ac:a<yK k:=by simpa[o5]using h
   refine(Ku ?_ ?_).symm
   ·cases k <;> simp[IntKind.min,IntKind.signed,IntKind.bits] <;> omega
   ·cases k <;> simp[yK]at ac <;> simp[IntKind.max,IntKind.signed,IntKind.bits] <;> omega
 |negSucc a =>
  show(bif Nat.blt a (Hm k)then Int.negSucc a else k.wrap (.negSucc a))=_;cases h:Nat.blt a (Hm k)with
  |false=>rfl
  |true =>
   have ac:a<Hm k:=by simpa[o5]using h
   refine(Ku ?_ ?_).symm
   ·cases k <;> simp[Hm]at ac <;> simp[IntKind.min,IntKind.signed,IntKind.bits] <;> omega
   ·cases k <;> simp[IntKind.max,IntKind.signed,IntKind.bits] <;> omega
theorem C2{k:Nat->R fe}{x:fe}(h:rO v k = .ok x):∃q n,v = .int q (.ofNat n)/\k n = .ok x:=by
 unfold rO at h
 split at h
 ·rename_i q n
  cases n with
  |ofNat n=>grind
  |negSucc n=>cases h
 grind
theorem bF.tC{aj:ce}{k:IntKind}{n:Int}(h:bF aj (.int k n) c):c = .int k n:=by cases h;rfl
theorem bF.F1{aj:ce}{b:al}(h:bF aj (.bool b) c):c = .bool b:=by cases h;rfl
theorem XU{aj:ce}:∀{l b1:aa X},iG l=true->dt aj l b1->b1=l
 |_,_,_,.nil=>rfl
 |x::xs,_,h,.cons D A=>by simp[iG]at h;rw[CL h.1 D,XU h.2 A]
theorem uS{aj:ce}(h:iG (dn v)=true)(D:bF aj v c):c=v:=by
 cases D with
 |agg A=>rw[XU (by simpa[dn]using h) A]
 |_=>exact CL (aj:=aj) (by simpa[dn,iG]using h) (by constructor <;> omega)
theorem akE{a b:Lit}:RZ a b=true↔a=b:=by
 cases a <;> cases b <;> simp[RZ,Gm,yi]
theorem W5:∀{a b:aa Lit},Az a b=true↔a=b
 | [],[]=>by simp[Az]
 | [],_::_=>by simp[Az]
 |_::_,[]=>by simp[Az]
 |x::xs,y::A=>by simp[Az,akE,W5]
theorem wz{P:Program}{r:al}(h:sX P t x y=some r):
  P.keyTypeAt 8 t=true/\x.formed P t=true/\y.formed P t=true/\iG (dn x)=true/\iG (dn y)=true /\
   ∃A D,P.keyLits 8 t (dn x)=some A/\P.keyLits 8 t (dn y)=some D/\(r=true↔A=D):=by
 unfold sX at h;cases I:(P.keyTypeAt 8 t&&(x.formed P t&&y.formed P t&&iG (dn x)&&iG (dn y)))with
 |false=>grind
 |true =>
  rw[I]at h;simp only[eo]at I;obtain⟨V,⟨⟨ao,N⟩,a9⟩,Z⟩:=I;refine⟨V,ao,N,a9,Z,?_⟩;simp only[qF]at h;cases E:P.keyLits 8 t (dn x)with
  |none=>rw[E]at h;cases h
  |some A =>
   cases M:P.keyLits 8 t (dn y)with
   |none=>rw[E,M]at h;cases h
   |some D =>
    rw[E,M]at h;cases h;exact⟨A,D,rfl,rfl,W5⟩
theorem JJ(v:X):dn v=v.cells.toList:=by cases v <;> rfl
theorem aa5{P:Program}{r:al}(h:sX P t x y=some r)(d:Nat)(w:World):(Op.equalIn (d+8) t x y).run P w = .ok r w:=by
 obtain⟨D,M,A,_,_,E,I,N,V,ag⟩:=wz h;obtain⟨xM,Z,dk⟩:=run_equalIn_deep d 8 t D w 8 8 x y E I M A (by rw[<-JJ];omega) (by rw[<-JJ];omega)
 grind
theorem x7{P:Program}{r:al}(h:k7 P t x y=some r):iG (dn x)=true/\iG (dn y)=true:=by
 unfold k7 at h
 split at h
 ·unfold KV at h
  split at h
  ·exact⟨rfl,rfl⟩
  grind
 ·obtain⟨_,_,_,A,D,_⟩:=wz h;grind
theorem aiB{P:Program}(h:O4 P t=true):P.underlying t=some .bool:=by unfold O4 at h;grind
theorem aiI{P:Program}(h:wF P t=true):∃e,P.underlying t=some (.pointer e):=by unfold wF at h;grind
theorem N1{P:Program}(h:nD P t=true):∃e,P.underlying t=some (.slice e):=by unfold nD at h;grind
theorem N9{P:Program}(h:rG P t=true):∃k e,P.underlying t=some (.map k e):=by unfold rG at h;grind
theorem WE{P:Program}(h:wE P t=true):∃k,P.underlying t=some (.int k):=by unfold wE at h;grind
theorem tz{az:Type}{b:al}{x:aw az}{r:az}(h:(bif b then x else none)=some r):b=true/\x=some r:=ab
theorem jL{az:Type}{b:al}{x:R az}{s:String}{r:az}(h:(bif b then x else .no s) = .ok r):b=true/\x = .ok r:=ab
theorem F2{az:Type}{b:al}{x:R az}{s:String}{r:az}(h:(bif b then .no s else x) = .ok r):b=false/\x = .ok r:=ab
theorem aqF{P:Program}(A:P.underlying t=some (.pointer e))(d:Nat)(b:aw Addr)(w:World):(Op.equalIn (d+1) t (.pointer none) (.pointer b)).run P w = .ok b.isNone w:=by
 cases b <;> simp[Op.equalIn,run_underlying A]
theorem aqG{P:Program}(A:P.underlying t=some (.pointer e))(d:Nat)(a:Addr)(w:World):(Op.equalIn (d+1) t (.pointer (some a)) (.pointer none)).run P w = .ok false w:=by simp[Op.equalIn,run_underlying A]
theorem auF{P:Program}(D:P.underlying t=some (.slice e))(d:Nat)(l c:Nat)(b:aw Addr)(b1 A:Nat)(w:World):(Op.equalIn (d+1) t (.slice none l c) (.slice b b1 A)).run P w = .ok b.isNone w:=by
 cases b <;> simp[Op.equalIn,run_underlying D]
theorem auG{P:Program}(D:P.underlying t=some (.slice e))(d:Nat)(a:Addr)(l c:Nat)(b1 A:Nat)(w:World):(Op.equalIn (d+1) t (.slice (some a) l c) (.slice none b1 A)).run P w = .ok false w:=by simp[Op.equalIn,run_underlying D]
theorem aqH{P:Program}{k:TypeId}(A:P.underlying t=some (.map k e))(d:Nat)(b:aw Nat)(w:World):(Op.equalIn (d+1) t (.map none) (.map b)).run P w = .ok b.isNone w:=by
 cases b <;> simp[Op.equalIn,run_underlying A]
theorem aqI{P:Program}{k:TypeId}(A:P.underlying t=some (.map k e))(d:Nat)(a:Nat)(w:World):(Op.equalIn (d+1) t (.map (some a)) (.map none)).run P w = .ok false w:=by simp[Op.equalIn,run_underlying A]
theorem Y5{P:Program}{aj:ce}{r:al}(h:pd P t x y=some r)(D:bF aj x dh)(E:bF aj y ii)(w:World):
  (Op.equal t dh ii).run P w = .ok r w:=by
 unfold pd at h
 split at h
 ·obtain⟨I,h⟩:=tz h;have A:=aiB I;unfold agZ at h
  split at h
  ·cases h;rw[D.F1,E.F1];exact run_equal_bool w t _ _ A
  grind
 ·obtain⟨I,h⟩:=tz h;obtain⟨e,A⟩:=aiI I;unfold Hn at h
  split at h
  ·split at h
   ·cases h;cases D;cases E <;> exact aqF A 9999 _ w
   ·cases h;cases D;cases E;exact aqG A 9999 _ w
   grind
  grind
 ·obtain⟨I,h⟩:=tz h;obtain⟨e,A⟩:=N1 I;unfold Sw at h
  split at h
  ·split at h
   ·cases h;cases D;cases E <;> exact auF A 9999 _ _ _ _ _ w
   ·cases h;cases D <;> cases E <;> exact auG A 9999 _ _ _ _ _ w
   grind
  grind
 ·obtain⟨I,h⟩:=tz h;obtain⟨k,e,A⟩:=N9 I;unfold ag0 at h
  split at h
  ·split at h
   ·cases h;cases D;cases E <;> exact aqH A 9999 _ w
   ·cases h;cases D;cases E;exact aqI A 9999 _ w
   grind
  grind
 ·obtain⟨_,h⟩:=tz h;obtain⟨_,_,_,N,M,_⟩:=wz h;rw[uS N D,uS M E];exact aa5 h 9992 w
 grind
theorem Ah{b:al}(h:ot b = .ok v):v = .bool b:=by cases h;rfl
theorem rH{k:IntKind}{n:Int}(h:i6 k n = .ok v):v = .int k n:=by cases h;rfl
theorem amY(a b:Int):(!lw b a)=decide (a<=b):=by rw[rC,z5];simp
theorem aqJ(a b:Int):(!fk a b)=(a != b):=by rw[k4];rfl
theorem aqK{P:Program}{op:BinOp}{k:IntKind}{a b:Int}(t:TypeId)(D:yh op=false)(h:D8 op k a b = .ok v)(w:World):
  (binOp op t (.int k a) (.int k b)).run P w = .ok v w:=by
 cases op <;> simp only[D8,yh]at h D
 all_goals first
  |(cases D;done)
  |(rw[rH h,oh];simp[binOp,Op.intArith];done)
  |(rw[rH h,oh];simp[binOp,Op.intArith];rfl)
  |(rw[Ah h];simp[binOp,Op.intCmp,rC,k4];done)
  |(rw[Ah h,amY];simp[binOp,Op.intCmp];done)
  |(rw[Ah h,aqJ];simp[binOp,Op.intCmp];done)
  |skip
 all_goals first
  |(simp only[DL]at h;obtain⟨E,I⟩:=F2 h;have A:¬b=0:=(by rw[k4]at E;grind);rw[rH I];simp[binOp,Op.intDiv,A,oh];done)
  |(simp only[G4]at h;rw[rH h];simp[binOp,Op.intBits];done)
  |(simp only[G4]at h;cases h;done)
theorem amZ{P:Program}{op:BinOp}{k:IntKind}{a b:Int}(t:TypeId)(h:AV op k a dm b = .ok v)(w:World):
  (binOp op t (.int k a) (.int dm b)).run P w = .ok v w:=by
 unfold AV at h;cases A:yh op with
 |true =>
  rw[A]at h;simp only[qF,wK]at h;obtain⟨M,I⟩:=F2 h;have E:¬b<0:=by rw[rC]at M;grind
  cases op <;> simp only[yh]at A
  all_goals first
   |(cases A;done)
   |(rw[rH I];simp[binOp,Op.shift,E,oh];done)
 |false =>
  rw[A]at h;simp only[mX]at h;obtain⟨N,I⟩:=jL h;have D:=Gm.1 N;rw[<-D];exact aqK t A I w
def ng(P:Program)(aj:ce)(v:X)(s:Sem X):Prop:=∃c,bF aj v c/\∀w,s.run P w = .ok c w
def GP:X->al
 | .bool _=>true | .pointer _=>true | .slice _ _ _=>true | .map _=>true | .agg _=>true|_=>false
theorem binOp_eql{a b:X}(h:GP a=true):binOp .eql t a b=(do pure (.bool (<-Op.equal t a b))):=by
 cases a <;> first|(cases h;done)|(cases b <;> rfl)
theorem binOp_neq{a b:X}(h:GP a=true):binOp .neq t a b=(do pure (.bool (!(<-Op.equal t a b)))):=by
 cases a <;> first|(cases h;done)|(cases b <;> rfl)
def Q7:X->al
 | .nilIface=>false | .agg _=>false|_=>true
theorem Fy{P:Program}{op:BinOp}{x y:Operand}{a b:X}(h:Q7 a=true)(w:World):(eqGuard op t x y a b).run P w = .ok () w:=by
 cases a <;> first|(cases h;done)|(cases op <;> simp[eqGuard])
theorem aiT{P:Program}{op:BinOp}{x y:Operand}{a:Array X}{b:X}(h:Gi P t=true)(w:World):(eqGuard op t x y (.agg a) b).run P w = .ok () w:=by
 have ac:P.eqGuardType P.depth t=false:=by simpa[Gi]using h
 cases b <;> cases op <;> simp[eqGuard,ac]
theorem bF.other{aj:ce}(h:bF aj x c):GP c=GP x:=by cases h <;> rfl
theorem bF.Lf{aj:ce}(h:bF aj x c):Q7 c=Q7 x:=by cases h <;> rfl
section
variable {P:Program} {aj:ce}
theorem aqL{op:BinOp}{k:IntKind}{a b:Int}(h:AV op k a dm b = .ok v):bF aj v v:=by
 have D:∀{k n},i6 k n = .ok v->bF aj v v:=λh=>by rw[rH h];exact .int _ _
 have M:∀{b},ot b = .ok v->bF aj v v:=λh=>by rw[Ah h];exact .bool _
 unfold AV at h;cases E:yh op with
 |true =>
  rw[E]at h;simp only[qF,wK]at h;obtain⟨_,A⟩:=F2 h;cases op <;> simp only[]at A <;> first|exact D A|(cases A;done)
 |false =>
  rw[E]at h;simp only[mX]at h;obtain⟨_,A⟩:=jL h;cases op <;> simp only[D8,DL,G4]at A
  all_goals first
   |exact D A
   |exact M A
   |(cases A;done)
   |(obtain⟨_,I⟩:=F2 A;exact D I)
theorem W6{b:al}(h:pd P t x y=some b):GP x=true:=by
 unfold pd at h
 split at h <;> first|rfl|(cases h;done)
theorem W7{b:al}(h:pd P t x y=some b)(A:bF aj x dh)(op:BinOp)(I E:Operand)(ii:X)(w:World):(eqGuard op t I E dh ii).run P w = .ok () w:=by
 unfold pd at h
 split at h
 ·exact Fy A.Lf w
 ·exact Fy A.Lf w
 ·exact Fy A.Lf w
 ·exact Fy A.Lf w
 ·obtain⟨D,_⟩:=tz h;cases A with
  |agg M=>exact aiT D w
 grind
theorem aqM{op:BinOp}(M I:Operand)(h:bin P op t x y = .ok v)(A:bF aj x dh)(E:bF aj y ii):
  ng P aj v (do eqGuard op t M I dh ii;binOp op t dh ii):=by
 unfold bin at h
 split at h
 ·unfold ag2 at h
  split at h
  ·rw[A.tC,E.tC];refine⟨v,aqL h,λw=>?_⟩;rw[Sem.run_bind,Fy rfl];exact amZ t h w
  ·cases h
 ·unfold ag1 at h
  split at h
  ·obtain⟨b,D,h⟩:=R.k9 h;rw[Ah h];refine⟨_,.bool _,λw=>?_⟩;rw[Sem.run_bind,W7 D A,binOp_eql (by rw[A.other];exact W6 D)];simp[Y5 D A E]
  ·obtain⟨b,D,h⟩:=R.k9 h;rw[Ah h];refine⟨_,.bool _,λw=>?_⟩;rw[Sem.run_bind,W7 D A,binOp_neq (by rw[A.other];exact W6 D)];simp[Y5 D A E]
  ·cases h
theorem aqN{op:UnOp}(h:du op x = .ok v)(A:bF aj x dh):ng P aj v (Op.unary op dh):=by
 unfold du at h
 split at h
 ·rw[A.F1]
  split at h
  ·rw[Ah h];exact⟨_,.bool _,λw=>rfl⟩
  ·cases h
 ·rw[A.tC]
  split at h
  ·rw[rH h,oh];exact⟨_,.int _ _,λw=>rfl⟩
  ·rw[rH h];exact⟨_,.int _ _,λw=>rfl⟩
  ·cases h
 ·cases h
theorem akF{s d:TypeId}{kh A:TypeDesc}(I:P.underlying s=some kh)(D:P.underlying d=some A)(h:ou A x = .ok v)(E:bF aj x dh):ng P aj v (convert s d dh):=by
 unfold ou at h
 split at h
 ·rw[E.tC]
  split at h
  ·rw[rH h,oh];exact⟨_,.int _ _,λw=>by simp[convert,run_underlying I,run_underlying D,Conv.intToInt]⟩
  ·cases h
 ·cases h
theorem ajo(h:bs x = .ok v):v=x/\((∃a,x = .pointer (some a))\/(∃f a b,x = .func (.func f) a b)\/(∃f a b,x = .func (.yield f) a b)\/∃t y,x = .iface t y):=by
 unfold bs at h
 grind
theorem aqO(h:wv P t=true)(D:bF aj x dh):ng P aj (.iface t x) (Instr.makeInterface t dh):=by
 unfold wv at h
 split at h
 ·cases h
 ·rename_i d A E
  refine⟨_,.iface t D,λw=>?_⟩;cases d <;> first|(exact(A _ rfl).elim)|simp[Instr.makeInterface,run_underlying E]
 ·cases h
theorem aiU{Z:TypeId}(h:Ao P t ok x = .ok v)(N:bF aj x dh):ng P aj v (Instr.typeAssert dh Z t ok):=by
 unfold Ao at h
 split at h
 ·obtain⟨E,h⟩:=jL h;cases h;simp only[eo]at E;obtain⟨A,D⟩:=E;cases gr D;cases N with
  | @iface _ _ I M =>
   refine⟨if ok then .tuple #[I,.bool true]else I,?_,λw=>?_⟩
   ·cases ok with
    |true=>exact .tuple (.cons M (.cons (.bool _) .nil))
    |false=>exact M
   unfold wv at A
   split at A
   ·grind
   ·rename_i d V d5
    cases d <;> first|(exact(V _ rfl).elim)|simp[Instr.typeAssert,run_underlying d5]
   grind
 ·cases h
theorem aiJ(h:cp x i = .ok v)(D:bF aj x dh):ng P aj v (Instr.extract dh i):=by
 unfold cp at h
 split at h
 ·obtain⟨y,A,h⟩:=R.k9 h;cases h;cases D with
  |tuple I =>
   rw[i4]at A;obtain⟨c,E,M⟩:=I.get A;refine⟨c,M,λw=>?_⟩;simp[Instr.extract,E]
 ·cases h
theorem Y6{b:al}(h:min2 b x y = .ok v)(D:bF aj x dh)(A:bF aj y ii):ng P aj v (bif b then Builtin.min2 dh ii else Builtin.max2 dh ii):=by
 unfold min2 at h
 split at h
 ·split at h
  ·obtain⟨E,h⟩:=jL h;rw[D.tC,A.tC];cases b with
   |true =>
    simp only[qF]at h;rw[rH h,rC];refine⟨_,.int _ _,λw=>?_⟩;simp only[qF,Builtin.min2]
    congr 2
    simp
   |false =>
    simp only[mX]at h;rw[rH h,rC];refine⟨_,.int _ _,λw=>?_⟩;simp only[mX,Builtin.max2]
    congr 2
    simp
  ·cases h
 ·cases h
end
section
variable {P:Program} {aj:ce}
theorem Q8{a:Nat}(h:Nat.blt a b=true):a<b:=by rw[o5]at h;grind
theorem WO{s:Nat}(h:yp P t=some s):∃e,P.underlying t=some (.slice e)/\jO P e=some s:=by
 unfold yp at h
 grind
theorem FD(k:IntKind)(n:Int)(w:World):(asIntOf (.int k n)).run P w = .ok (k,n) w:=rfl
theorem wt(k:IntKind)(n y:Nat)(code:BoundsCode)(h:n<=y)(w:World):(Instr.sliceBound (.int k (.ofNat n)) y code).run P w = .ok n w:=by simp[Instr.sliceBound,FD,h]
theorem Kv{x:aw X}{n:Nat}(h:AW x d = .ok n):(x=none/\n=d)\/∃k,x=some (.int k (.ofNat n)):=by
 cases x with
 |none=>cases h;grind
 |some v =>
  obtain⟨q,m,rfl,A⟩:=C2 h
  grind
def uw(aj:ce)(x c:aw X):Prop:=match x,c with
 |none,none=>True
 |some v,some c=>bF aj v c
 |_,_=>False
theorem uw.none{c:aw X}(h:uw aj none c):c=none:=by cases c with|none=>rfl|some c=>exact h.elim
theorem uw.int{c:aw X}{k:IntKind}{n:Int}(h:uw aj (some (.int k n)) c):c=some (.int k n):=by cases c with|none=>exact h.elim|some c=>rw[bF.tC h]
theorem ajp{ap ag:aw X}(sl:uw aj ap ec)(E:uw aj ag dk)(D:uw aj iW L5){up A l:Nat}(h1:AW iW cap = .ok m)(ao:AW ag len = .ok A)(Z:AW ap 0 = .ok l)(hmh:iW.isSome=true->ag.isSome=true)(hm:m<=cap)(I:A<=m)(V:l<=A)(w:World):
  (Instr.sliceBounds true len (cap+up) ec dk L5).run P w = .ok (l,A,if iW.isSome then m else cap+up) w:=by
 rcases Kv h1 with⟨rfl,rfl⟩|⟨mk,rfl⟩ <;> rcases Kv ao with⟨rfl,rfl⟩|⟨M,rfl⟩ <;> rcases Kv Z with⟨rfl,rfl⟩|⟨N,rfl⟩
 ·rw[sl.none,E.none,D.none];simp only[Instr.sliceBounds,Sem.run_bind,Sem.run_pure,Result.andThen_ok,Cz,nB,fg]
 ·rw[sl.int,E.none,D.none];simp only[Instr.sliceBounds,Sem.run_bind,Sem.run_pure,Result.andThen_ok,Cz,nB,fg,wt N l A _ V w]
 ·rw[sl.none,E.int,D.none];simp only[Instr.sliceBounds,Sem.run_bind,Sem.run_pure,Result.andThen_ok,Cz,nB,fg,if_true,wt M A (m+up) _ J w]
 ·rw[sl.int,E.int,D.none];simp only[Instr.sliceBounds,Sem.run_bind,Sem.run_pure,Result.andThen_ok,Cz,nB,fg,if_true,wt M A (m+up) _ J w,wt N l A _ V w]
 ·grind
 ·grind
 ·rw[sl.none,E.int,D.int];simp only[Instr.sliceBounds,Sem.run_bind,Sem.run_pure,Result.andThen_ok,NP,if_true,wt mk m (cap+up) _ J w,wt M A m _ I w]
 ·rw[sl.int,E.int,D.int];simp only[Instr.sliceBounds,Sem.run_bind,Sem.run_pure,Result.andThen_ok,NP,if_true,wt mk m (cap+up) _ J w,wt M A m _ I w,wt N l A _ V w]
theorem uU(D:P.underlying t=some (.slice e)){s:Nat}(I:jO P e=some s)(A:aw Addr)(len cap:Nat)(ap ag iW:aw X){l h:Nat}{w:World}(E:(Instr.sliceBounds true len cap ap ag iW).run P w = .ok (l,h,m) w):
  (Instr.sliceAt t (.slice A len cap) ap ag iW).run P w = .ok (.slice (if m=l then A else A.map (·.add (l*s))) (h-l) (m-l)) w:=by simp[Instr.sliceAt,Instr.slice,run_underlying D,E,ko I]
theorem aqP{ap ag:aw X}(sl:uw aj ap ec)(aDz:uw aj ag dk)(B0:uw aj iW L5){s:Nat}(ar:yp P t=some s)(h:gi s x ap ag iW = .ok v)(bd:bF aj x dh):ng P aj v (Instr.sliceAt t dh ec dk L5):=by
 obtain⟨e,N,A⟩:=WO ar;unfold gi at h
 split at h
 ·rename_i bg len cap
  obtain⟨hmh,h⟩:=jL h;obtain⟨m,h1,h⟩:=R.fh h;obtain⟨M,ao,h⟩:=R.fh h;obtain⟨l,aT,h⟩:=R.fh h;obtain⟨a1,h⟩:=jL h;simp only[eo]at a1;obtain⟨hm,Tw,bo⟩:=a1;have hm:=lX hm;have Tw:=lX Tw;have bo:=lX bo;have azo:iW.isSome=true->ag.isSome=true:=ab
  have B:∀up w,_:=λup w=>ajp (P:=P) (up:=up) sl aDz B0 h1 ao aT azo hm Tw bo w;have Tx:iW.isSome=false->m=cap:=λbd=>by
   rcases Kv h1 with⟨rfl,rfl⟩|⟨k,rfl⟩
   all_goals grind
  unfold o6 at h;cases Z:Nat.beq m l with
  |true =>
   have E:=gr Z;subst E;have hhm:M=m:=J
   subst hhm;rw[Z]at h;simp only[qF]at h;unfold k5 at h;cases D:(An bg&&!iW.isSome)with
   |true =>
    rw[D]at h;cases h;simp only[eo,NR]at D;have p3:=Tx D.2;subst p3;cases bd with
    | @o7 b o lJ p V b0 _ _ =>
     by_cases mD:p.spare=0
     ·refine⟨_,.o8 b o p.ca (p.off+o) 0,λw=>?_⟩;rw[uU N A _ _ _ _ _ _ (B p.spare w)]
      grind
     ·refine⟨_,.o8 b o p.ca (p.off+o+M*s) p.spare,λw=>?_⟩;rw[uU N A _ _ _ _ _ _ (B p.spare w)];simp[D.2,mD,pM]
    |o8 b o g aX c =>
     refine⟨_,.o8 b o g aX c,λw=>?_⟩;have:=uU N A (some ⟨g,aX,none⟩) _ _ _ _ _ (B c w);simp only[iE]at this;rw[this];simp[D.2,pM]
    |rB=>cases D.1
    |k5=>cases D.1
   |false =>
    rw[D]at h;simp only[mX]at h;obtain⟨c0,h⟩:=F2 h;cases h;cases bd with
    |rB =>
     refine⟨_,.rB _ _,λw=>?_⟩;have:=uU N A none _ _ _ _ _ (B 0 w)
     grind
    | @k5 b o p V _ _ =>
     refine⟨.slice (some ⟨p.ca,p.off+(o+0),none⟩) (Nat.sub M M) (Nat.sub M M),?_,λw=>?_⟩
     ·cases I:iW.isSome <;> exact .k5 V _ _
     ·have:=uU N A (some ⟨p.ca,p.off+o,none⟩) _ _ _ _ _ (B 0 w)
      grind
    | @o7 b o lJ p V b0 _ _ =>
     have axh:iW.isSome=true:=by simpa[An]using D
     refine⟨.slice (some ⟨p.ca,p.off+(o+0),none⟩) (Nat.sub M M) (Nat.sub M M),?_,λw=>?_⟩
     ·simp only[axh];exact .k5 V _ _
     ·rw[uU N A _ _ _ _ _ _ (B p.spare w)]
      grind
    |o8=>cases c0
  |false =>
   have E:=Nat.ne_of_beq_eq_false Z;rw[Z]at h;simp only[mX]at h;cases h;cases bd with
   |rB =>
    refine⟨_,.rB _ _,λw=>?_⟩;have:=uU N A none _ _ _ _ _ (B 0 w)
    grind
   | @k5 b o p V _ _ =>
    refine⟨.slice (some ⟨p.ca,p.off+(o+l*s),none⟩) (M-l) (m-l),?_,λw=>?_⟩
    ·cases I:iW.isSome <;> exact .k5 V _ _
    ·have:=uU N A (some ⟨p.ca,p.off+o,none⟩) _ _ _ _ _ (B 0 w);simp only[og]at this;rw[this];cases I:iW.isSome with
     |true=>simp[E,pM,wo]
     |false=>have:=Tx I;subst this;simp[E,pM,wo]
   | @o7 b o lJ p V b0 _ _ =>
    cases I:iW.isSome with
    |true =>
     refine⟨.slice (some ⟨p.ca,p.off+(o+l*s),none⟩) (M-l) (m-l),?_,λw=>?_⟩
     ·exact .k5 V _ _
     ·rw[uU N A _ _ _ _ _ _ (B p.spare w)];simp[I,E,pM,wo]
    |false =>
     have azp:=Tx I;subst azp;refine⟨.slice (some ⟨p.ca,p.off+(o+l*s),none⟩) (M-l) (m-l+p.spare),?_,λw=>?_⟩
     ·exact .o7 V b0 _ _
     ·rw[uU N A _ _ _ _ _ _ (B p.spare w)];have:¬m+p.spare=l:=J
      simp[I,this,pM,wo];omega
   |o8=>omega
 ·cases h
theorem bF.aa6{o:Nat}(h:bF aj (.pointer (some ⟨b,o,aB⟩)) c):∃p,aj b=some p/\aB=none/\c = .pointer (some ⟨p.ca,p.off+o,none⟩):=by
 cases h with
 |ptr h=>grind
theorem J7{o n:Nat}(h:aj b=some p):bF aj (Dx ⟨b,o,aB⟩ n) (.pointer (some ⟨p.ca,p.off+o+n,none⟩)):=by rw[show p.off+o+n=p.off+(o+n) by omega];exact .ptr h
theorem WF{f:Nat × TypeId}(h:C1 P t i=some f):
  ∃A vz n,P.underlying t=some (.struct A)/\A[i]? = some vz/\f=(vz.offset,vz.type)/\jO P vz.type=some (n+1):=by
 unfold C1 at h
 split at h
 ·rename_i A I
  split at h
  ·rename_i vz D
   split at h
   ·rename_i n E
    cases h;rw[i4]at D
    grind
   grind
  grind
 grind
theorem aiV{f:Nat × TypeId}{a:Addr}(h:C1 P t i=some f)(A:bF aj (.pointer (some a)) dh):ng P aj (Dx a f.1) (Instr.fieldAt t dh i):=by obtain⟨N,vz,n,M,I,rfl,E⟩:=WF h;obtain⟨b,o,aB⟩:=a;obtain⟨p,D,rfl,rfl⟩:=A.aa6;refine⟨_,J7 D,λw=>?_⟩;simp[Instr.fieldAt,run_underlying M,I,Instr.sureAddr,fieldPlace,ko E,pM]
theorem Y7(E:oq P e=some bI)(h:hB bI off l = .ok v)(M:dt aj l b1):ng P aj v (part e ⟨b1⟩ off):=by
 obtain⟨i,d,ag,Z,ac | ac⟩:=W4 E
 ·obtain⟨n,rfl,rfl,D⟩:=ac;obtain⟨k,A,rfl⟩:=Y3 h;rw[qG,rA]at A
  split at A
  ·cases A;refine⟨.agg ⟨(b1.drop off).take i.size⟩,.agg ((M.drop _).take _),λw=>?_⟩;simp[part,D,FC ag]
  ·cases A
 ·obtain⟨rfl,D⟩:=ac;have I:=Y4 h;rw[i4]at I;obtain⟨c,N,V⟩:=M.get I;refine⟨c,V,λw=>?_⟩;simp[part,D,N]
theorem am0{f:Nat × TypeId}(I:C1 P t i=some f)(A:oq P f.2=some bI)(h:w1 f.1 bI x = .ok v)(E:bF aj x dh):ng P aj v (Instr.field t dh i):=by
 obtain⟨dx,vz,n,V,D,rfl,bw⟩:=WF I;unfold w1 at h
 split at h
 ·cases E with
  |agg N =>
   obtain⟨c,Z,M⟩:=Y7 A h N;refine⟨c,Z,λw=>?_⟩;simp[Instr.field,run_underlying V,D,asAgg,M w]
 ·cases h
theorem XV{k:xd}(h:Lx P t=some k):(∃e s,P.underlying t=some (.slice e)/\jO P e=some s/\k = .slice s)\/∃n e s,P.underlying t=some (.array n e)/\jO P e=some s/\k = .array n s:=by
 unfold Lx at h
 grind
theorem aiw{k:xd}(Z:Lx P t=some k)(h:x9 k x i = .ok v)(V:bF aj x dh):
  ng P aj v (Instr.indexAt t dh (.int q (.ofNat i))):=by
 unfold x9 at h
 split at h
 ·split at h
  ·rename_i s
   obtain⟨A,h⟩:=jL h;have A:=Q8 A;cases h;rcases XV Z with⟨e,N,I,E,D⟩|⟨n,e,N,I,E,D⟩
   ·cases D;cases V with
    |k5 M =>
     refine⟨_,J7 M,λw=>?_⟩;simp[Instr.indexAt,FD,run_underlying I,A,ko E,pM]
    |o7 M D =>
     refine⟨_,J7 M,λw=>?_⟩;simp[Instr.indexAt,FD,run_underlying I,A,ko E,pM]
    |o8=>omega
   ·cases D
  ·cases h
 ·split at h
  ·obtain⟨A,h1⟩:=jL h;have A:=Q8 A;cases h1;rcases XV Z with⟨e,N,I,E,D⟩|⟨jB,e,N,I,E,D⟩
   ·cases D
   ·cases D;cases V with
    |ptr M =>
     refine⟨_,J7 M,λw=>?_⟩;simp[Instr.indexAt,FD,run_underlying I,A,ko E,pM,Instr.sureAddr]
  ·cases h
 ·cases h
theorem ajq(h:Q4 P t x i = .ok v)(N:bF aj x dh):ng P aj v (Instr.index t dh (.int q (.ofNat i))):=by
 cases x <;> simp only[Q4]at h
 case agg cs =>
  cases E:P.underlying t with
  |none=>rw[E]at h;cases h
  |some d =>
   rw[E]at h;cases d <;> try(cases h;done)
   case array n e =>
    obtain⟨A,Z⟩:=jL h;have A:=Q8 A;obtain⟨bI,D,ao⟩:=R.k9 Z;obtain⟨s,ar,M⟩:=R.k9 ao;cases N with
    |agg bo =>
     obtain⟨c,aI,bc⟩:=Y7 D M bo;refine⟨c,aI,λw=>?_⟩;have I:=bc w;have V:Nat.mul i s=i*s:=rfl;rw[V]at I;simp[Instr.index,FD,run_underlying E,A,ko ar,I]
 all_goals (cases h;done)
theorem am1{M:TypeId}(D:ai[0]? = some t)(h:Hp P t x = .ok v)(A:bF aj x dh):ng P aj v (Builtin.cap_ ai M #[dh]):=by
 obtain⟨I,h⟩:=jL h;obtain⟨e,E⟩:=N1 I;unfold ag3 at h
 split at h
 ·rw[rH h];cases A;exact⟨_,.int _ _,λw=>by simp[Builtin.cap_,D,run_underlying E,goInt]⟩
 ·rw[rH h];cases A;exact⟨_,.int _ _,λw=>by simp[Builtin.cap_,D,run_underlying E,goInt]⟩
 ·cases h
theorem Ac(h:oj P t=some l):∃i z,P.info? t=some i/\i.zero=some z/\vc z=true/\l=z.cells.toList:=by
 unfold oj at h
 grind
theorem aiK(h:Kt P t=some z):∃i,P.info? t=some i/\i.zero=some z/\vc z=true:=by
 unfold Kt at h
 grind
theorem yf{i:TypeInfo}(ag:P.info? t=some i)(A:i.zero=some z)(w:World):(zeroValue t).run P w = .ok z w:=by simp[zeroValue,typeInfo,ag,A]
theorem x6(h:vc z=true)(aj:ce):dt aj z.cells.toList z.cells.toList:=by have:=(FB h aj).cells;rwa[JJ]at this
theorem aa7(off:Nat):∀(l:aa X) (k:Nat) (cells:Array X),off+k+l.length<=cells.size ->
  ((l.zipIdx k).foldl (λcs (x:X × Nat)=>cs.setIfInBounds (off+x.2) x.1) cells).toList=cells.toList.take (off+k)++l++cells.toList.drop (off+k+l.length)
 | [],k,cells,_=>by simp
 |v::A,k,cells,h=>by simp only[List.zipIdx_cons,Fq];rw[aa7 off A (k+1) (cells.setIfInBounds (off+k) v) ab];have:=WB cells.toList (off+k) v A J;simpa[Array.toList_setIfInBounds,wo]using this
theorem dt.put{c A:aa X}(E:dt aj l b1)(D:dt aj c A)(o n:Nat):dt aj (c.take o++(l++c.drop n)) (A.take o++(b1++A.drop n)):=
 (D.take o).append (E.append (D.drop n))
def Loc(aj:ce)(ak:ch)(t:Array X)(l:Array Operand):Prop:=∀d v,Operand.tmp d∈l->ho ak d=some v->bF aj (rM v) (t.getD d undef)
theorem js.loc{t:Array X}(h:js aj ak t)(l:Array Operand):Loc aj ak t l:=λd v _=>h d v
theorem Loc.ek{a:Act}{l:Array Operand}(M:Loc aj ak a.tmps l){x:Operand}(E:x∈l){y:ff}(A:c6 x=some y)(h:d9 ak y = .ok v):bF aj v (a.eval x):=by
 cases x with
 |tmp t =>
  cases A;unfold d9 at h;cases D:ho ak t with
  |none=>simp only[D]at h;cases h
  |some o =>
   have:=M t o E D;cases o <;> simp only[D]at h <;> cases h <;> exact this
 |const c =>
  obtain⟨N,I⟩:=tz A;cases I;cases h;exact FB N aj
 |global g=>cases A
 |func f=>cases A;cases h;exact .func f .nil .nil
theorem Loc.vE{ak:ch}{a:Act}{l:Array Operand}(E:Loc aj ak a.tmps l):∀{xs:aa Operand} {D:aa ff} {aF:aa X},(∀x∈xs,x∈l)->y0 xs=some D->p1 ak D = .ok aF->dt aj aF (xs.map a.eval)
 | [],D,aF,_,A,h=>by cases A;cases h;exact .nil
 |x::xs,D,aF,I,A,h=>by
  unfold y0 at A
  split at A
  ·rename_i y V N ao
   cases A;obtain⟨v,M,h⟩:=R.fh (show R.bind (d9 ak y) _=_ from h);obtain⟨Ty,Z,h⟩:=R.fh h;cases h;exact .cons (E.ek (I x (by simp)) N M) (E.vE (λz c0=>I z ab) ao Z)
  ·cases A
theorem Loc.Tz{a:Act}{l:Array Operand}(N:Loc aj ak a.tmps l){x:aw Operand}(E:∀y,x=some y->y∈l){y:aw ff}(A:HH x=some y){v:aw X}(h:LD ak y = .ok v):uw aj v (x.map a.eval):=by
 cases x with
 |none=>cases A;cases h;trivial
 |some x =>
  unfold HH at A;cases D:c6 x with
  |none=>simp only[D]at A;cases A
  |some z =>
   simp only[D]at A;cases A;obtain⟨M,I,h⟩:=R.fh (show R.bind (d9 ak z) _=_ from h);cases h;exact N.ek (E _ rfl) D I
theorem J8{ak:ch}{a:Act}{a4:Array Operand}(fJ:Loc aj ak a.tmps a4)(D:Nat->aw (Nat × Nat)):∀(E:aa (Nat × Operand)) (cs:aa (Nat × Nat × ff)) (aF:aa (Nat × Nat × X)) (cells A l:aa X),(∀x∈E,x.2∈a4) ->
  Dg D E=some cs->GO ak cs = .ok aF->dt aj cells A->pS aF cells = .ok l ->
  ∃b1,Instr.fill D ⟨A⟩ (E.map λx=>(x.1,a.eval x.2))=some ⟨b1⟩/\dt aj l b1
 | [],cs,aF,cells,A,l,_,a1,Z,bc,h=>by cases a1;cases Z;cases h;exact⟨A,rfl,bc⟩
 |(i,x)::xs,cs,aF,cells,A,l,hm,a1,Z,bc,h=>by
  unfold Dg at a1
  split at a1
  ·rename_i p y r V hco M
   cases a1;obtain⟨v,aI,Z⟩:=R.fh (show R.bind (d9 ak y) _=_ from Z);obtain⟨Ty,y2,Z⟩:=R.fh Z;cases Z;obtain⟨fO,aT⟩:=jL (show(bif Nat.beq (jo (dn v)) p.2 then R.of "fill" (m7 (dn v) cells p.1) (pS Ty)else .no "fill - size") = .ok l from h);obtain⟨aB0,I,a9⟩:=R.k9 aT;have xi:=(fJ.ek (hm (i,x) (by simp)) hco aI).cells;have bw:p.2=(dn v).length:=(gr fO).symm;rw[tB]at I
   split at I
   ·rename_i dv
    cases I;have rS:=xi.length;have rT:=bc.length;obtain⟨b1,N,SA⟩:=J8 fJ D xs r Ty _ _ l (λz c0=>hm z ab) M y2 (xi.put bc p.1 (p.1+(dn v).length)) a9;refine⟨b1,?_,SA⟩;obtain⟨off,tg⟩:=p;simp only at bw dv N;have V:D i=some (off,tg):=V;simp only[uO,Instr.fill,V];have:((a.eval x).cells.zipIdx.foldl (λcs (x:X × Nat)=>cs.setIfInBounds (off+x.2) x.1) (⟨A⟩:Array X))=⟨A.take off++((a.eval x).cells.toList++A.drop (off+(dn v).length))⟩:=by
     apply Array.ext';rw[<-z0,Array.toList_zipIdx,aa7 off _ 0 _ ab]
     grind
    grind
   ·cases I
  ·cases a1
theorem WG:∀{D:aa Field} {A:aa (Nat × Nat)},J5 P D=some A->∀w,(D.mapM λf=>(do pure (f.offset,<-sizeOf f.type):Sem (Nat × Nat))).run P w = .ok A w
 | [],A,h,w=>by cases h;rfl
 |f::D,A,h,w=>by
  unfold J5 at h
  split at h
  ·rename_i s r I E
   cases h;have:=WG E w;simp only[CE,Sem.run_bind,ko I,Result.andThen_ok,Sem.run_pure,this]
  grind
theorem am2{a:Act}(fJ:Loc aj ak a.tmps a4){A:Array (Nat × Operand)}(hm:∀x∈A.toList,x.2∈a4){xN:aa X}{pl:Nat->aw (Nat × Nat)}{cs:aa (Nat × Nat × ff)}{aF:aa (Nat × Nat × X)}(c0:oj P t=some xN)(D:PR P t=some pl)(a1:Dg pl A.toList=some cs)(y2:GO ak cs = .ok aF)(h:cV xN aF = .ok v):ng P aj v (Instr.build t (A.map λ(i,x)=>(i,a.eval x))):=by
 obtain⟨l,bK,aT⟩:=R.fh h;cases aT;obtain⟨i,z,ag,V,Z,rfl⟩:=Ac c0;have N:(A.map λ(i,x)=>(i,a.eval x)).toList=A.toList.map λx=>(x.1,a.eval x.2):=by simp
 unfold PR at D
 split at D
 ·rename_i dx d5
  split at D
  ·rename_i cf Bj
   cases D;obtain⟨b1,M,I⟩:=J8 fJ (g3 cf) A.toList cs aF _ _ l hm a1 y2 (x6 Z aj) bK;refine⟨_,.agg I,λw=>?_⟩;have TA:=WG  Bj w;have D:(λi=>g3 cf i)=(λi=>cf.toArray[i]?):=funext λi=>by rw[i4];simp
   have E:Instr.fill (λi=>cf.toArray[i]?) z.cells (A.map λ(i,x)=>(i,a.eval x)).toList=some ⟨b1⟩:=by rw[N,<-D];omega
   simp only[Instr.build,Sem.run_bind,yf ag V,Result.andThen_ok,run_underlying d5];rw[Array.mapM_eq_mapM_toList];simp only[Sem.run_map,TA,Result.andThen_ok,E,Sem.run_pure]
  ·cases D
 ·rename_i n e d5
  split at D
  ·rename_i s ar
   cases D;obtain⟨b1,M,I⟩:=J8 fJ (λi=>some (Nat.mul i s,s)) A.toList cs aF _ _ l hm a1 y2 (x6 Z aj) bK;refine⟨_,.agg I,λw=>?_⟩;have E:Instr.fill (λi=>some (i*s,s)) z.cells (A.map λ(i,x)=>(i,a.eval x)).toList=some ⟨b1⟩:=by rw[N];omega
   simp only[Instr.build,Sem.run_bind,yf ag V,Result.andThen_ok,run_underlying d5,ko ar,E,Sem.run_pure]
  ·cases D
 ·cases D
theorem FE(n:Nat)(z:aa X):(gO n z).length=n*z.length:=by
 induction n with
 |zero=>simp[gO]
 |succ n A=>simp[gO,jK,A,Fv];omega
theorem Y8(z:aa X):∀(n i:Nat),i<n*z.length->(gO n z)[i]? = z[i % z.length]?
 |0,i,h=>J
 |n+1,i,h=>by
  simp only[gO,jK,Fh]
  split
  ·rename_i ag;rw[Jy ag]
  ·rename_i ag
   rw[Y8 z n (i-z.length) ab]
   congr 1
   rw[Nat.mod_eq_sub_mod (by omega:i≥z.length)]
theorem Oz(z:Array X)(n:Nat):((Array.range (n*z.size)).map λi=>z[i % z.size]!)=⟨gO n z.toList⟩:=by
 apply Array.ext';apply pI;intro i
 by_cases h:i<n*z.size
 ·rw[Y8 _ _ _ J];have A:0<z.size:=ab
  have D:=Aa i A
  grind
 ·rw[xX ab,xX (by rw[FE];grind)]
theorem C3{z A:aa X}(h:dt aj z A):∀n,dt aj (gO n z) (gO n A)
 |0=>.nil
 |n+1=>by simp only[gO,jK];exact h.append (C3 h n)
theorem Ab(z:Array X)(n:Nat):Builtin.zeroCells z n=⟨gO n z.toList⟩:=Oz z n
end
section
variable {P:Program} {aj:ce}
def DT(P:Program)(aj:ce)(v:X)(s:Sem Next):Prop:=∃c,bF aj v c/\∀w,s.run P w = .ok (.value c) w
theorem ng.op{s:Sem X}(h:ng P aj v s):DT P aj v (do pure (.value (<-s))):=by obtain⟨c,D,A⟩:=h;exact⟨c,D,λw=>by simp[A w]⟩
theorem DT.pure{v c:X}(h:bF aj v c):DT P aj v (Pure.pure (.value c)):=⟨c,h,λ_=>rfl⟩
theorem aiL(A:bF aj v c)(h:(∃a,v = .pointer (some a))\/(∃f a b,v = .func (.func f) a b)\/(∃f a b,v = .func (.yield f) a b)\/∃t y,v = .iface t y){o:Oper}{x:Operand}{bu:Operand->X}(E:o.op = .nilCheck x)(D:bu x=c):∀w,(execOp bu o).run P w = .ok (.value c) w:=by
 intro w;unfold execOp;rw[E];simp only[D];rcases h with⟨a,rfl⟩|⟨f,a,b,rfl⟩|⟨f,a,b,rfl⟩|⟨t,y,rfl⟩
 ·cases A;rfl
 ·cases A;rfl
 ·cases A;rfl
 ·cases A;rfl
theorem NZ{bu:Operand->X}{c:Call}{b:Builtin}(D:c.callee = .builtin b)(A:TypeId):
  ∃cs,resolve bu c A=pure { target:=.builtin b c.argTypes A cs,args:=c.args.map bu }:=by unfold resolve;rw[D];grind
theorem yg{az:Type}{b:al}{x:aw az}{r:az}:(bif b then x else none)=some r↔b=true/\x=some r:=by cases b <;> simp
theorem Loc.DU{a:Act}{l:Array Operand}(A:Loc aj ak a.tmps l){y:ff}(D:∀x∈xs,x∈l)(E:y0 xs=some [y])(h:d9 ak y = .ok v):
  ∃c,bF aj v c/\(⟨xs.map a.eval⟩:Array X)=#[c]:=by
 have:=A.vE D E (show p1 ak [y] = .ok [v] by simp[p1,h,R.bind]);generalize xs.map a.eval=lI at *
 cases this with
 |cons h t=>cases t;exact⟨_,h,rfl⟩
theorem Loc.A0{a:Act}{l:Array Operand}(N:Loc aj ak a.tmps l){y D:ff}{A:X}(I:∀x∈xs,x∈l)(M:y0 xs=some [y,D])(h:d9 ak y = .ok v)(E:d9 ak D = .ok A):
  ∃c c2,bF aj v c/\bF aj A c2/\(⟨xs.map a.eval⟩:Array X)=#[c,c2]:=by
 have:=N.vE I M (show p1 ak [y,D] = .ok [v,A] by simp[p1,h,E,R.bind]);generalize xs.map a.eval=lI at *
 cases this with
 |cons h t=>cases t with
  |cons E t=>cases t;exact⟨_,_,h,E,rfl⟩
theorem aa8{a:Act}(o:Oper)(M:Loc aj ak a.tmps o.op.operands){e:IQ}(A:ph P o.op=some (.fx e))(h:p2 P ak e = .ok v):DT P aj v (execOp a.eval o):=by
 have ex:∀{op:Op},o.op=op->execOp a.eval o=execOp a.eval { o with op:=op }:=λh=>by rw[<-h]
 cases t9:o.op <;> rw[t9]at A M <;> rw[ex t9] <;> (try simp only[ph,jI,mq,yg,CB,reduceCtorEq,and_false,JH]at A)
 case move x =>
  obtain⟨dh,E,D⟩:=A;cases D;exact DT.pure (M.ek (by simp[Op.operands]) E h)
 case assign x =>
  obtain⟨dh,E,D⟩:=A;cases D;exact DT.pure (M.ek (by simp[Op.operands]) E h)
 case pick c x y =>
  obtain⟨hj,E,dh,Z,ii,aT,D⟩:=A;cases D;obtain⟨e6,I,h⟩:=R.fh h;obtain⟨N,V,h⟩:=R.fh h;obtain⟨sm,dp,h⟩:=R.fh h;have eH:=M.ek (by simp[Op.operands]) E I;cases e6 with
  |bool b =>
   have aL:=eH.F1;cases b with
   |true=>cases h;exact⟨_,M.ek (by simp[Op.operands]) Z V,λw=>by simp[execOp,aL,asBool]⟩
   |false=>cases h;exact⟨_,M.ek (by simp[Op.operands]) aT dp,λw=>by simp[execOp,aL,asBool]⟩
  |_=>cases h
 case build t mZ =>
  obtain⟨z,c0,pl,qa,cf,Bj,D⟩:=A;cases D;obtain⟨aF,I,h⟩:=R.fh h;exact(am2 M (λx bd=>by simp only[Op.operands];grind) c0 qa Bj I h).op
 case nilCheck x =>
  obtain⟨dh,E,D⟩:=A;cases D;obtain⟨N,I,h⟩:=R.fh h;obtain⟨rfl,aT⟩:=ajo h;have aI:=M.ek (by simp[Op.operands]) E I;exact⟨_,aI,aiL aI aT rfl rfl⟩
 case binOp op t x y aE4 =>
  obtain⟨dh,E,ii,Z,D⟩:=A;cases D;obtain⟨N,I,h⟩:=R.fh h;obtain⟨sm,V,h⟩:=R.fh h;exact(aqM x y h (M.ek (by simp[Op.operands]) E I) (M.ek (by simp[Op.operands]) Z V)).op
 case unOp op t x =>
  obtain⟨dh,E,D⟩:=A;cases D;obtain⟨N,I,h⟩:=R.fh h;exact(aqN h (M.ek (by simp[Op.operands]) E I)).op
 case convert s d x =>
  obtain⟨kh,ar,VD,bh,dh,E,D⟩:=A;cases D;obtain⟨N,I,h⟩:=R.fh h;exact(akF ar bh h (M.ek (by simp[Op.operands]) E I)).op
 case makeInterface t x =>
  obtain⟨cq,dh,E,D⟩:=A;cases D;obtain⟨N,I,h⟩:=R.fh h;cases h;exact(aqO cq (M.ek (by simp[Op.operands]) E I)).op
 case makeFunc fn x y =>
  split at A
  ·simp only[jI,mq]at A;obtain⟨dh,E,ii,Z,D⟩:=A;cases D;obtain⟨N,I,h⟩:=R.fh h;obtain⟨sm,V,h⟩:=R.fh h;cases h;have bd:=M.vE (λz c0=>by simp only[Op.operands];grind) E I;have ck:=M.vE (λz c0=>by simp only[Op.operands];grind) Z V;refine⟨.func (.func _) ⟨x.toList.map a.eval⟩ ⟨y.toList.map a.eval⟩,.func _ bd ck,λw=>?_⟩;have D:x.map a.eval=⟨x.toList.map a.eval⟩:=ab
   have aK:y.map a.eval=⟨y.toList.map a.eval⟩:=ab
   simp[execOp,Instr.makeFunc,D,aK]
  ·cases A
 case slice t x ap ag iW =>
  obtain⟨s,ar,dh,E,cl,Z,zB,aT,oQ,a9,D⟩:=A;cases D;obtain⟨N,I,h⟩:=R.fh h;obtain⟨B1,V,h⟩:=R.fh h;obtain⟨aE5,dp,h⟩:=R.fh h;obtain⟨aCO,dZ,h⟩:=R.fh h;exact(aqP (M.Tz (λy ck=>by subst ck;simp[Op.operands]) Z V) (M.Tz (λy ck=>by subst ck;simp[Op.operands]) aT dp) (M.Tz (λy ck=>by subst ck;simp[Op.operands]) a9 dZ) ar h (M.ek (by simp[Op.operands]) E I)).op
 case fieldAddr s x f =>
  obtain⟨aCP,bK,dh,E,D⟩:=A;cases D;obtain⟨N,I,h⟩:=R.fh h;obtain⟨bg,rfl,h⟩:=J6 h;cases h;exact(aiV bK (M.ek (by simp[Op.operands]) E I)).op
 case field s x f =>
  obtain⟨aCP,bK,bI,xh,dh,E,D⟩:=A;cases D;obtain⟨N,I,h⟩:=R.fh h;exact(am0 bK xh h (M.ek (by simp[Op.operands]) E I)).op
 case indexAddr t x uu =>
  obtain⟨k,hk,dh,E,lm,Z,D⟩:=A;cases D;obtain⟨N,I,h⟩:=R.fh h;obtain⟨gB,V,h⟩:=R.fh h;obtain⟨q,i,rfl,h⟩:=C2 h;have:=(aiw (q:=q) hk h (M.ek (by simp[Op.operands]) E I)).op;rwa[<-(M.ek (by simp[Op.operands]) Z V).tC]at this
 case index t x uu =>
  obtain⟨dh,E,lm,Z,D⟩:=A;cases D;obtain⟨N,I,h⟩:=R.fh h;obtain⟨gB,V,h⟩:=R.fh h;obtain⟨q,i,rfl,h⟩:=C2 h;have:=(ajq (q:=q) h (M.ek (by simp[Op.operands]) E I)).op;rwa[<-(M.ek (by simp[Op.operands]) Z V).tC]at this
 case extract x i =>
  obtain⟨dh,E,D⟩:=A;cases D;obtain⟨N,I,h⟩:=R.fh h;exact(aiJ h (M.ek (by simp[Op.operands]) E I)).op
 case typeAssert x aE6 t ok =>
  obtain⟨dh,E,D⟩:=A;cases D;obtain⟨N,I,h⟩:=R.fh h;exact(aiU h (M.ek (by simp[Op.operands]) E I)).op
 case call c =>
  obtain⟨i9,E,A⟩:=A;have bd:∀x∈c.args.toList,x∈(Op.call c).operands:=λx bd=>by simp only[Op.operands,Call.operands];grind
  have A1:c.args.map a.eval=⟨c.args.toList.map a.eval⟩:=ab
  split at A
  ·simp at A
  ·simp at A
  ·rename_i b aW
   obtain⟨cs,nh⟩:=NZ (bu:=a.eval) aW o.type;unfold execOp;simp only[nh,A1];unfold D9 at A
   split at A
   ·split at A
    ·obtain⟨t,_,A⟩:=jI.1 A
     split at A <;> cases A
    ·cases A
   ·split at A
    ·cases A;obtain⟨N,I,h⟩:=R.fh h;obtain⟨sm,V,h⟩:=R.fh h;obtain⟨iD,h7,eH,hu,aK⟩:=M.A0 bd E I V;obtain⟨bL,aI,bc⟩:=Y6 (P:=P) h eH hu;rw[aK];exact ng.op ⟨bL,aI,λw=>by have:=bc w;simp only[qF]at this;simp[Builtin.min_,this]⟩
    ·cases A
   ·split at A
    ·cases A;obtain⟨N,I,h⟩:=R.fh h;obtain⟨sm,V,h⟩:=R.fh h;obtain⟨iD,h7,eH,hu,aK⟩:=M.A0 bd E I V;obtain⟨bL,aI,bc⟩:=Y6 (P:=P) h eH hu;rw[aK];exact ng.op ⟨bL,aI,λw=>by have:=bc w;simp only[mX]at this;simp[Builtin.max_,this]⟩
    ·cases A
   ·split at A
    ·obtain⟨t,cq,D⟩:=mq.1 A;cases D;obtain⟨N,I,h⟩:=R.fh h;obtain⟨iD,eH,aK⟩:=M.DU bd E I;rw[aK];exact(am1 (by rw[i4]at cq;grind) h eH).op
    ·cases A
   ·cases A2:rJ P (g3 c.argTypes.toList 1) <;> rw[A2]at A
    ·simp only[mX,jI,yg]at A;obtain⟨_,_,_,_,_,_,_,_,_,A⟩:=A
     split at A <;> cases A
    ·cases A
   ·cases A
 case makeMap t r=>cases r <;> cases A
 case next it b=>cases b <;> simp at A
 all_goals (split at A <;> simp[jI]at A)
end
section
variable {P:Program} {aj:ce} {B:Nat}
structure Made (w a8:World) (o:Obj):Prop where
 size:a8.heap.size=w.heap.size+1
 new:a8.heap[w.heap.size]? = some o
 d3:∀k,k<w.heap.size->a8.heap[k]? = w.heap[k]?
 os:a8.os=w.os
 tape:ri w a8
 output:a8.output=w.output
theorem Made.push(w:World)(o:Obj):Made w { w with heap:=w.heap.push o } o :=
 ⟨by simp,by simp,ab,rfl,.here,rfl⟩
def w5(aj:ce)(c5:kV)(o:Obj)(p:Place):Prop:=match c5 with
 | .ptr (.cells cs false)=>p.off=0/\p.spare=0/\∃c e,o = .cells c e (0,0)/\dt aj cs c.toList
 | .slice (.cells cs false) _ _=>p.off=0/\p.spare=0/\∃c e,o = .cells c e (0,0)/\dt aj cs c.toList
 | .map=>p.off=0/\o = .map #[] 0
 |_=>False
def TB(c5:kV)(ca:Nat)(spare:Nat):X:=match c5 with
 | .ptr _=>.pointer (some ⟨ca,0,none⟩)
 | .slice _ len cap=>.slice (some ⟨ca,0,none⟩) len cap
 | .map=>.map (some ca)
def L8(P:Program)(aj:ce)(c5:kV)(s:Sem Next):Prop:=∀w,∃o p a8,p.ca=w.heap.size/\w5 aj c5 o p/\Made w a8 o/\s.run P w = .ok (.value (TB c5 w.heap.size p.spare)) a8
theorem w5.mono{bu:ce}(M:Sub aj bu){c5:kV}{o:Obj}{p:Place}(h:w5 aj c5 o p):w5 bu c5 o p:=by
 unfold w5 at *
 split at h
 ·obtain⟨D,I,c,e,A,E⟩:=h;exact⟨D,I,c,e,A,E.mono M⟩
 ·obtain⟨D,I,c,e,A,E⟩:=h;exact⟨D,I,c,e,A,E.mono M⟩
 ·exact h
 omega
theorem JX{c:Array X}(h:dt aj cs (c.toList.take cs.length)):pO aj cs c 0:=by
 intro i v I;obtain⟨D,E,A⟩:=h.get I;refine⟨D,?_,A⟩
 grind
theorem L8.step{w:World}{o:Obj}{U:Nat}(bc:ed B aj H w)(bw:aj U=none)(N:p.ca=w.heap.size)(E:w5 aj c5 o p)(M:Made w a8 o):
  cx B aj H w U (U+1) (λk=>if k=U then some p else aj k) (H.put U (sW c5)) a8/\bF (λk=>if k=U then some p else aj k) (xe U c5) (TB c5 w.heap.size p.spare):=by
 have V:Sub aj (λk=>if k=U then some p else aj k):=λb q aW=>ab
 have ey:B<=p.ca:=by rw[N];exact bc.base
 have D:(λk=>if k=U then some p else aj k) U=some p:=by simp
 have A:=E.mono V;have bO:a8.heap[p.ca]? = some o:=by rw[N];exact M.new
 constructor
 ·refine cx.make bc bw M.size M.d3 M.os M.tape M.output N ?_;unfold w5 at A
  split at A
  ·obtain⟨I,ao,c,e,rfl,Z⟩:=A;have bo:=Z.length;refine⟨ey,I,c,e,0,0,bO,J,JX (by rw[bo,ic];exact Z),ab⟩
  ·obtain⟨I,ao,c,e,rfl,Z⟩:=A;have bo:=Z.length;refine⟨ey,I,c,e,0,0,bO,J,JX (by rw[bo,ic];exact Z),ab⟩
  ·obtain⟨I,rfl⟩:=A;exact⟨ey,[],bO,.nil⟩
  ·exact A.elim
 ·unfold w5 at E
  split at E
  ·obtain⟨I,_⟩:=E;have:=bF.ptr (aj:=λk=>if k=U then some p else aj k) (o:=0) D;rw[N,I]at this;exact this
  ·obtain⟨I,_⟩:=E;have:=λl c=>bF.k5 (aj:=λk=>if k=U then some p else aj k) (o:=0) D l c;rw[N,I]at this;exact this _ _
  ·have:=bF.map (aj:=λk=>if k=U then some p else aj k) D;rw[N]at this;exact this
  ·exact E.elim
theorem ajr(h:Gh l = .ok c5):d4 l=true/\c5 = .ptr (.cells l false):=by obtain⟨A,D⟩:=jL h;grind
theorem W8{n c:Nat}(h:wD l n c = .ok c5):d4 l=true/\c5 = .slice (.cells l false) n c:=by obtain⟨A,D⟩:=jL h;grind
theorem Fz(h:rF P t=some e):P.underlying t=some (.slice e):=by
 unfold rF at h
 grind
theorem W9(e:TypeId)(v:X)(w:World):(newVar e v).run P w = .ok ⟨w.heap.size,0,none⟩ { w with heap:=w.heap.push (.cells v.cells e) }:=rfl
theorem JS(e:TypeId)(c:Array X)(w:World):(newRow e c).run P w = .ok ⟨w.heap.size,0,none⟩ { w with heap:=w.heap.push (.cells c e) }:=rfl
theorem aqQ{b:Builtin}{ai:aa TypeId}{i9:aa ff}{e:ES}(h:D9 P b ai i9=some (.iA e)):False:=by
 unfold D9 at h
 split at h
 ·split at h
  ·obtain⟨t,_,h⟩:=jI.1 h
   split at h <;> cases h
  ·cases h
 ·split at h <;> cases h
 ·split at h <;> cases h
 ·split at h
  ·simp at h
  ·cases h
 ·cases A:rJ P (g3 ai 1) <;> rw[A]at h
  ·simp only[mX,jI,yg]at h;obtain⟨_,_,_,_,_,_,_,_,_,h⟩:=h
   split at h <;> cases h
  ·cases h
 ·cases h
theorem aa9{a:Act}(o:Oper)(fJ:Loc aj ak a.tmps o.op.operands){e:ES}(D:ph P o.op=some (.iA e))(h:DR ak e = .ok c5):L8 P aj c5 (execOp a.eval o):=by
 have ex:∀{op:Op},o.op=op->execOp a.eval o=execOp a.eval { o with op:=op }:=λh=>by rw[<-h]
 cases t9:o.op <;> rw[t9]at D fJ <;> rw[ex t9] <;> (try simp only[ph,jI,mq,yg,CB,reduceCtorEq,and_false,JH]at D)
 case alloc e =>
  obtain⟨l,c0,lh,aU⟩:=D;cases aU;cases h;obtain⟨i,z,ag,rU,oE,rfl⟩:=Ac c0;intro w;refine⟨.cells z.cells e (0,0),⟨w.heap.size,0,0,0⟩,{ w with heap:=w.heap.push (.cells z.cells e) },rfl,⟨rfl,rfl,_,e,rfl,x6 oE aj⟩,Made.push w _,?_⟩;unfold execOp;simp only[Instr.alloc,Sem.run_bind,yf ag rU,Result.andThen_ok,W9,Sem.run_pure];rfl
 case box e x =>
  obtain⟨dh,bP,aU⟩:=D;cases aU;obtain⟨v,aI,h1⟩:=R.fh h;obtain⟨D,rfl⟩:=ajr h1;have xi:=(fJ.ek (by simp[Op.operands]) bP aI).cells;intro w;refine⟨.cells (a.eval x).cells e (0,0),⟨w.heap.size,0,0,0⟩,{ w with heap:=w.heap.push (.cells (a.eval x).cells e) },rfl,⟨rfl,rfl,_,e,rfl,xi⟩,Made.push w _,?_⟩;unfold execOp;simp only[Instr.box,Sem.run_bind,Result.andThen_ok,W9,Sem.run_pure];rfl
 case buildSlice t len mZ =>
  obtain⟨e,b0,s,ar,xN,c0,L9,cf,Bj,aU⟩:=D;cases aU;simp only[eo]at L9;obtain⟨HL,dv⟩:=L9;obtain⟨aF,y2,h⟩:=R.fh h;obtain⟨l,bK,cy⟩:=R.fh h;obtain⟨i,z,ag,rU,oE,rfl⟩:=Ac c0;obtain⟨D,rfl⟩:=W8 cy;have d5:=Fz b0;have SB:z.cells.size=s:=by have:=gr HL;rw[oi]at this;omega
  have w6:=lX dv;have w6:len*s<=1000000:=w6;obtain⟨b1,aB2,SA⟩:=J8 fJ (λi=>some (Nat.mul i s,s)) mZ.toList cf aF _ _ l (λx bd=>by simp only[Op.operands];grind) Bj y2 (C3 (x6 oE aj) len) bK;have qb:(mZ.map λ(i,x)=>(i,a.eval x)).toList=mZ.toList.map λx=>(x.1,a.eval x.2):=by simp
  intro w;refine⟨.cells ⟨b1⟩ e (0,0),⟨w.heap.size,0,0,0⟩,{ w with heap:=w.heap.push (.cells ⟨b1⟩ e) },rfl,⟨rfl,rfl,_,e,rfl,SA⟩,Made.push w _,?_⟩;unfold execOp;have M:Instr.fill (λi=>some (i*s,s)) ⟨gO len z.cells.toList⟩ (mZ.map λ(i,x)=>(i,a.eval x)).toList=some ⟨b1⟩:=by rw[qb];omega
  have aY:¬(len*s>2 ^ 24):=J
  by_cases au:len*s=0
  ·have w7:gO len z.cells.toList=[]:=by
    apply xW;rw[FE]
    grind
   have A:((Array.range (len*s)).map (λx=>(#[]:Array X)[x % (#[]:Array X).size]!))=⟨gO len z.cells.toList⟩:=ab
   simp only[Instr.buildSlice,Sem.run_bind,run_underlying d5,ko ar,Result.andThen_ok,Sem.run_ite,if_neg aY,Sem.run_pure,if_pos au,A,M,JS];rfl
  ·have A:((Array.range (len*s)).map (λx=>z.cells[x % z.cells.size]!))=⟨gO len z.cells.toList⟩:=by rw[<-SB];exact Oz z.cells len
   simp only[Instr.buildSlice,Sem.run_bind,run_underlying d5,ko ar,Result.andThen_ok,Sem.run_ite,if_neg aY,Sem.run_pure,if_neg au,yf ag rU,A,M,JS];rfl
 case makeMap t r =>
  cases r with
  |some r=>cases D
  |none =>
   cases D;cases h;intro w;refine⟨.map #[] 0,⟨w.heap.size,0,0,0⟩,{ w with heap:=w.heap.push (.map #[] 0) },rfl,⟨rfl,rfl⟩,Made.push w _,?_⟩;unfold execOp;rfl
 case makeSlice t l c =>
  obtain⟨e,b0,xN,c0,N,cl,c1,hj,c2,aU⟩:=D;cases aU;obtain⟨B1,h1,ao⟩:=R.fh h;obtain⟨e6,a9,bY⟩:=R.fh ao;obtain⟨aE7,Nk,rfl,aT⟩:=C2 bY;obtain⟨aE8,E,rfl,cy⟩:=C2 aT;obtain⟨I,TC⟩:=jL cy;simp only[eo]at I;have rV:=lX I.1;have Ma:=lX I.2;obtain⟨i,z,ag,rU,oE,rfl⟩:=Ac c0;obtain⟨D,rfl⟩:=W8 TC;have d5:=Fz b0;simp only[eo]at N;obtain⟨HL,N⟩:=N;rw[ag]at HL N;simp only[Fs,JA]at HL N;have SB:z.cells.size=i.size:=by have:=gr HL;rw[oi]at this;omega
  have azq:i.bytes<=1000000:=lX N;intro w;refine⟨.cells ⟨gO E z.cells.toList⟩ e (0,0),⟨w.heap.size,0,0,0⟩,{ w with heap:=w.heap.push (.cells ⟨gO E z.cells.toList⟩ e) },rfl,⟨rfl,rfl,_,e,rfl,C3 (x6 oE aj) E⟩,Made.push w _,?_⟩;unfold execOp;simp only[(fJ.ek (by simp[Op.operands]) c1 h1).tC,(fJ.ek (by simp[Op.operands]) c2 a9).tC];have xj:IntKind.i64.wrap (Int.ofNat Nk)=(Nk:Int):=Ku (by simp[IntKind.min,IntKind.signed,IntKind.bits] <;> omega) (by simp[IntKind.max,IntKind.signed,IntKind.bits] <;> omega);have hwc:IntKind.i64.wrap (Int.ofNat E)=(E:Int):=Ku (by simp[IntKind.min,IntKind.signed,IntKind.bits] <;> omega) (by simp[IntKind.max,IntKind.signed,IntKind.bits] <;> omega);have Z:∀w,(typeInfo e).run P w = .ok i w:=λw=>by simp[typeInfo,ag]
  have kP:∀w,(sizeOf e).run P w = .ok i.size w:=λw=>FC ag w;have ag9:(i.bytes:Int)*(E:Int)<=1000000*100000:=by have:i.bytes*E<=1000000*100000:=sA azq Ma;omega
  have TD:∀(k:IntKind) (n:Nat) w,(asInt (.int k (Int.ofNat n))).run P w = .ok (Int.ofNat n) w:=λ_ _ _=>rfl;have V:(decide ((E:Int)<0)||decide ((i.bytes:Int)*(E:Int)>2 ^ 48)||decide ((Nk:Int)<0)||decide ((Nk:Int)>(E:Int)))=false:=ab
  by_cases au:E*i.size=0
  ·have w7:gO E z.cells.toList=[]:=by
    apply xW;rw[FE]
    grind
   have A:((Array.range (E*i.size)).map (λx=>(#[]:Array X)[x % (#[]:Array X).size]!))=⟨gO E z.cells.toList⟩:=ab
   simp only[Instr.makeSlice,Sem.run_bind,run_underlying d5,TD,Z,kP,Result.andThen_ok,xj,hwc,Sem.run_ite,V,nB,fg,Sem.run_pure,run_askRoom,Ju,if_pos au,A,JS];rfl
  ·have A:((Array.range (E*i.size)).map (λx=>z.cells[x % z.cells.size]!))=⟨gO E z.cells.toList⟩:=by rw[<-SB];exact Oz z.cells E
   simp only[Instr.makeSlice,Sem.run_bind,run_underlying d5,TD,Z,kP,Result.andThen_ok,xj,hwc,Sem.run_ite,V,nB,fg,Sem.run_pure,run_askRoom,Ju,if_neg au,yf ag rU,A,JS];rfl
 case call c =>
  obtain⟨_,_,D⟩:=D
  split at D
  ·simp at D
  ·simp at D
  ·exact(aqQ D).elim
 case next it b=>cases b <;> simp at D
 all_goals (split at D <;> simp[jI]at D)
end
section
variable {P:Program} {aj:ce} {B:Nat}
theorem aiM(D:P.underlying t=some (.int q))(A:al)(d:Nat)(k:X)(w:World):(Instr.checkKey A (d+1) t k).run P w = .ok () w:=by
 cases k <;> simp only[Instr.checkKey,Sem.run_bind,run_underlying D,Result.andThen_ok] <;> rfl
theorem JI{r:al}(h:k7 P t k k=some r)(A:al)(w:World):(Instr.checkKey A 10000 t k).run P w = .ok () w:=by
 unfold k7 at h
 split at h
 ·obtain⟨D,_⟩:=tz h;simp only[eo]at D;obtain⟨q,M⟩:=WE D.2;exact aiM M A 9999 _ w
 ·obtain⟨I,N,_,_,_,E,Z,V,_,_⟩:=wz h;exact run_checkKey_deep A 9992 8 t I w 8 _ E N (by rw[<-JJ];omega)
theorem Oj(h:yA P t k=true):∃r,k7 P t k k=some r:=nA.1 h
def aha(P:Program)(t:TypeId)(k:X):Prop:=∀(y:X) (r:al),k7 P t k y=some r->∀w,(Op.equal t k y).run P w = .ok r w
def SC(P:Program)(d:TypeDesc)(t:TypeId)(k:X):Prop:=∀(y:X) (r:al),k7 P t k y=some r->Instr.sameNow d k y=some r
theorem hC.get:∀{es dj:aa MapEntry} {i:Nat} {e:MapEntry},hC aj es dj->es[i]? = some e->∃A,dj[i]? = some A/\bF aj e.key A.key/\bF aj e.val A.val/\A.born=e.born
 |_,_,0,_,.cons D I E _,h=>by simp at h;subst h;exact⟨_,rfl,D,I,E⟩
 |_,_,i+1,_,.cons _ _ _ t,h=>by simpa using hC.get  t ab
theorem hC.length:∀{es dj:aa MapEntry},hC aj es dj->es.length=dj.length
 |_,_,.nil=>rfl
 |_,_,.cons _ _ _ t=>by simp[hC.length t]
theorem FI{t:TypeId}{k:X}:∀{es:aa MapEntry} {i:Nat} {r:aw (Nat × MapEntry)},kJ P t k es i=some r ->
  (∀j e,r=some (j,e)->i<=j/\es[j-i]? = some e/\k7 P t k e.key=some true)
 | [],i,r,h=>by cases h;grind
 |x::xs,i,r,h=>by
  unfold kJ at h
  split at h
  ·grind
  ·intro j e A;obtain⟨I,E,D⟩:=FI h j e A
   grind
  grind
def yu(dj:aa MapEntry)(i:Nat)(r:aw (Nat × MapEntry))(c:aw (Nat × X)):Prop:=match r with
 |none=>c=none
 |some (j,_)=>∃dS,dj[j-i]? = some dS/\c=some (j,dS.val)
theorem yu.shift{x:MapEntry}{r:aw (Nat × MapEntry)}{c:aw (Nat × X)}(h:yu dj (i+1) r c)(I:∀j e,r=some (j,e)->i+1<=j):yu (x::dj) i r c:=by
 cases r with
 |none=>exact h
 |some q =>
  obtain⟨j,e⟩:=q;obtain⟨A,E,D⟩:=h;refine⟨A,?_,D⟩
  grind
theorem Oc{d:TypeDesc}{t:TypeId}{k:X}(I:SC P d t k):∀{es dj:aa MapEntry} {i:Nat} {r:aw (Nat × MapEntry)},hC aj es dj->kJ P t k es i=some r ->
  ∃c,Instr.findNow d k dj i=some c/\yu dj i r c
 |_,_,i,r,.nil,h=>by cases h;exact⟨none,rfl,rfl⟩
 |x::xs,y::lI,i,r,.cons M aI Z N,h=>by
  have D:=FI  h;unfold kJ at h
  split at h
  ·rename_i A
   cases h;have E:y.key=x.key:=uS (x7 A).2 M;refine⟨some (i,y.val),?_,y,by simp,rfl⟩;simp[Instr.findNow,E,I _ _ A]
  ·rename_i A
   have E:y.key=x.key:=uS (x7 A).2 M;obtain⟨c,h1,V⟩:=Oc I N h;refine⟨c,?_,V.shift λj e bc=>?_⟩
   ·simp only[Instr.findNow,E,I _ _ A];omega
   grind
  ·cases h
theorem Wu{t:TypeId}{k:X}(D:aha P t k)(w:World):∀{es dj:aa MapEntry} {i:Nat} {r:aw (Nat × MapEntry)},hC aj es dj->kJ P t k es i=some r ->
  ∃c,(Instr.findAsking t k dj i).run P w = .ok c w/\yu dj i r c
 |_,_,i,r,.nil,h=>by cases h;exact⟨none,rfl,rfl⟩
 |x::xs,y::lI,i,r,.cons I aI Z N,h=>by
  unfold kJ at h
  split at h
  ·rename_i A
   cases h;have E:y.key=x.key:=uS (x7 A).2 I;refine⟨some (i,y.val),?_,y,by simp,rfl⟩;simp[Instr.findAsking,E,D _ _ A w]
  ·rename_i A
   have E:y.key=x.key:=uS (x7 A).2 I;obtain⟨c,h1,V⟩:=Wu D w N h;refine⟨c,?_,V.shift λj e M=>?_⟩
   ·simp only[Instr.findAsking,E,Sem.run_bind,D _ _ A w,Result.andThen_ok,nB,fg];omega
   ·exact(FI h j e M).1
  ·cases h
theorem FF{fX:al}(hk:k7 P t k k=some fX){r:aw (Nat × MapEntry)}(b0:hC aj es dj)(h:kJ P t k es 0=some r)(w:World):
  ∃c,(Instr.findKey t k dj).run P w = .ok c w/\yu dj 0 r c:=by
 have Z:(∃q n,k = .int q n)\/((∀q n,k≠.int q n)/\∀y r,k7 P t k y=some r->sX P t k y=some r):=by
  cases k <;> first|exact .inl ⟨_,_,rfl⟩|exact .inr ⟨ab,λy r E=>E⟩
 rcases Z with⟨q,n,rfl⟩|⟨hni,A⟩
 ·have ua:=hk;simp only[k7,KV]at ua;obtain⟨a1,_⟩:=tz ua;simp only[eo]at a1;obtain⟨mO,M⟩:=WE a1.2;have d7:SC P (.int mO) t (.int q n):=by
   intro y r E;simp only[k7,KV]at E
   split at E
   ·obtain⟨a1,E⟩:=tz E;cases E;simp only[eo]at a1;rw[Gm.1 a1.1];simp[Instr.sameNow,k4]
   grind
  obtain⟨c,N,ao⟩:=Oc d7 b0 h;exact⟨c,by simp[Instr.findKey,run_underlying M,N],ao⟩
 ·obtain⟨N,aB3,_,_,_,zC,_,hla,_,_⟩:=wz (A _ _ hk);have ik:aha P t k:=λy r E w=>aa5 ab 9992 w;unfold Program.keyTypeAt at N;cases M:P.underlying t with
  |none=>rw[M]at N;simp at N
  |some d =>
   rw[M]at N;have I:(∀x y,Instr.sameNow d x y=none)->∃c,(Instr.findKey t k dj).run P w = .ok c w/\yu dj 0 r c:=by
    intro bh;obtain⟨c,aT,a9⟩:=Wu ik w b0 h;refine⟨c,?_,a9⟩;cases dj with
    |nil =>
     simp[Instr.findAsking]at aT;simp[Instr.findKey,run_underlying M,Instr.findNow,aT]
    |cons dS dj=>simp[Instr.findKey,run_underlying M,Instr.findNow,bh,aT]
   have D:SC P d t k->∃c,(Instr.findKey t k dj).run P w = .ok c w/\yu dj 0 r c:=by intro d7;obtain⟨c,aT,a9⟩:=Oc d7 b0 h;exact⟨c,by simp[Instr.findKey,run_underlying M,aT],a9⟩
   cases d <;> simp at N
   case bool =>
    refine D λy r E=>?_;obtain⟨_,_,_,_,_,Nl,aDA,bd,V,ag⟩:=wz (A _ _ E);obtain⟨b,aU,aK⟩:=keyLits_bool' M bd;obtain⟨b6,cc,d6⟩:=keyLits_bool' M V;have cu:k = .bool b:=by
     cases k <;> simp_all[dn,Value.formed]
    have IR:y = .bool b6:=by
     obtain⟨_,_,hfy,_⟩:=wz (A _ _ E);cases y <;> simp_all[dn,Value.formed]
    rw[cu,IR];simp only[Instr.sameNow]
    congr 1
    grind
   case string =>
    refine D λy r E=>?_;obtain⟨_,_,_,_,_,Nl,aDA,bd,V,ag⟩:=wz (A _ _ E);obtain⟨b,aU,aK⟩:=keyLits_string' M bd;obtain⟨b6,cc,d6⟩:=keyLits_string' M V;have cu:k = .string b:=by
     cases k <;> simp_all[dn,Value.formed]
    have IR:y = .string b6:=by
     obtain⟨_,_,hfy,_⟩:=wz (A _ _ E);cases y <;> simp_all[dn,Value.formed]
    rw[cu,IR];simp only[Instr.sameNow]
    congr 1
    have y3:(b == b6)=(b.data == b6.data):=rfl;rw[z5,ag,aK,d6,y3];simp[Array.ext_iff]
   case int q =>
    exfalso;obtain⟨n,aU,_⟩:=keyLits_int' M hla;cases k <;> simp_all[dn,Value.formed]
   case array n e=>exact I λ_ _=>rfl
   case struct dx=>exact I λ_ _=>rfl
theorem CV{h:ae}{r:Nat}{k:aa MapEntry->Nat->R fe}{x:fe}(e:k8 h r k = .ok x):∃es c,u h r=some (.map es c)/\k es c = .ok x:=by
 unfold k8 at e
 grind
theorem ed.map{H:fq}{w:World}(M:ed B aj H w){b:Nat}{p:Place}{es:aa MapEntry}{cI:Nat}(E:aj b=some p)(I:H b=some (.map es cI)):
  ∃dj:aa MapEntry,w.heap[p.ca]? = some (.map dj.toArray cI)/\hC aj es dj/\B<=p.ca:=by obtain⟨D,dj,N,A⟩:=M.obj b p _ E I;exact⟨dj,N,A,D⟩
theorem rx{w:World}{r:Nat}{o:Obj}(h:w.heap[r]? = some o)(A:∀c e f,o≠.cells c e f):(getObj r).run P w = .ok o w:=by
 cases o <;> first
  |(exact ab)
  |simp[getObj,Sem.run,h]
theorem am3{h:ae}{w:World}(bc:ed B aj (u h) w){m:X}(d5:P.underlying t=some (.map dT e))(c0:Kt P e=some z)(bo:j3 P h dT z ok m k = .ok v)(hm:bF aj m oQ)(hk:bF aj k cI):
  ∃c,bF aj v c/\(Instr.lookup t oQ cI ok).run P w = .ok c w:=by
 obtain⟨jb,D⟩:=jL bo;obtain⟨fX,M⟩:=Oj jb;have A:cI=k:=uS (x7 M).1 hk;subst A;have N:∀(es dj:aa MapEntry),hC aj es dj->(match kJ P dT cI es 0 with
   |some (some (_,x))=>R.ok (om ok x.val true)
   |some none=>.ok (om ok z false)
   |none=>R.no "lookup - key")=R.ok v ->
   (∃j x,(Instr.findKey dT cI dj).run P w = .ok (some (j,x)) w/\bF aj v (om ok x true)) \/
   ((Instr.findKey dT cI dj).run P w = .ok none w/\(zeroValue e).run P w = .ok z w/\bF aj v (om ok z false)):=by
  intro es dj b0 bK;cases V:kJ P dT cI es 0 with
  |none=>grind
  |some r =>
   obtain⟨c,E,I⟩:=FF M b0 V w;rw[V]at bK;cases r with
   |none =>
    cases bK;obtain⟨i,ag,rU,oE⟩:=aiK c0;cases I;refine .inr ⟨E,yf ag rU w,?_⟩;cases ok <;> first|exact FB oE aj|exact .tuple (.cons (FB oE aj) (.cons (.bool _) .nil))
   |some q =>
    obtain⟨j,x⟩:=q;cases bK;obtain⟨dS,Z,rfl⟩:=I;obtain⟨_,bd,_⟩:=FI  V j x rfl;obtain⟨e'',a9,_,aI,_⟩:=b0.get bd;rw[Z]at a9;cases a9;refine .inl ⟨j,dS.val,E,?_⟩;cases ok <;> first|exact aI|exact .tuple (.cons aI (.cons (.bool _) .nil))
 unfold Q5 at D
 split at D
 ·cases hm;have A:=JI M true w;rcases N [] [] .nil D with⟨j,x,E,I⟩|⟨E,Z,I⟩
  ·refine⟨_,I,?_⟩;cases ok <;> simp[Instr.lookup,run_underlying d5,A,E,om]
  ·refine⟨_,I,?_⟩;cases ok <;> simp[Instr.lookup,run_underlying d5,A,E,Z,om]
 ·obtain⟨es,TE,aY,rT⟩:=CV D;cases hm with
  |map aW =>
   obtain⟨dj,bO,b0,_⟩:=bc.map aW aY;have A:=JI M dj.isEmpty w;have Mb:=rx (P:=P) bO ab;rcases N es dj b0 rT with⟨j,x,E,I⟩|⟨E,Z,I⟩
   ·refine⟨_,I,?_⟩;cases ok <;> simp[Instr.lookup,run_underlying d5,Mb,A,E,om]
   ·refine⟨_,I,?_⟩;cases ok <;> simp[Instr.lookup,run_underlying d5,Mb,A,E,Z,om]
 ·cases D
theorem Xa:∀(l:aa Nat),G6 l=l.getLast?
 | []=>rfl
 | [_]=>rfl
 |_::y::xs=>by simp[G6,Xa (y::xs),List.getLast?_cons_cons]
theorem Xb{b:Nat}:∀{es dj:aa MapEntry} {e:MapEntry},hC aj es dj->Dy b es=some e->∃A,dj.find? (·.born == b)=some A/\bF aj e.key A.key/\bF aj e.val A.val
 |_,_,_,.nil,h=>by cases h
 |x::xs,y::lI,e,.cons I V D M,h=>by
  unfold Dy at h;rcases bd:Nat.beq x.born b with _|_
  ·rw[bd]at h;obtain⟨A,Z,N⟩:=Xb M h;have E:¬(y.born=b):=by rw[D];intro h;exact Nat.ne_of_beq_eq_false bd h
   exact⟨A,ab,N⟩
  ·rw[bd]at h;cases h;have:y.born=b:=by rw[D];exact gr bd
   exact⟨y,ab,I,V⟩
theorem ed.iter{w:World}(Z:ed B aj H w){m:aw Nat}{A st:Nat}{D:aa Nat}(M:aj b=some p)(V:H b=some (.iter m A D st)):
  ∃bD,w.heap[p.ca]? = some (.mapIter bD A D.toArray st)/\p0 aj m bD/\p.off=0/\B<=p.ca:=by obtain⟨I,N,bD,ao,E⟩:=Z.obj b p _ M V;exact⟨bD,ao,E,N,I⟩
theorem ajs{h:ae}{w:World}(bc:ed B aj (u h) w)(b0:wL h v = .ok x)(aI:bF aj v c):
  ∃bL,bF aj x bL/\(Instr.entry c).run P w = .ok bL w:=by
 obtain⟨a,rfl,D⟩:=J6 b0;obtain⟨au,D⟩:=jL D
 split at D
 ·rename_i r V E st aY
  obtain⟨es,N,hm,I⟩:=CV D;obtain⟨Z,I⟩:=jL I
  split at I
  ·rename_i b aW
   obtain⟨e,aT,a9⟩:=R.k9 I;cases a9;obtain⟨p,a6,_,rfl⟩:=aI.aa6;obtain⟨bD,bO,fI,hs,_⟩:=bc.iter a6 aY;cases bD with
   |none=>exact fI.elim
   |some bD =>
    obtain⟨q,c3,rfl⟩:=fI;obtain⟨dj,oF,Eb,_⟩:=bc.map c3 hm;obtain⟨dS,bY,cy,eD⟩:=Xb Eb aT;refine⟨.tuple #[dS.key,dS.val],.tuple (.cons cy (.cons eD .nil)),?_⟩;have ha0:a.off=0:=gr au;have M:N=st:=gr Z;rw[Xa]at aW;have A:E.toArray.back? = some b:=ab
    have bP:=rx (P:=P) bO ab;have g2:=rx (P:=P) oF ab;simp[Instr.entry,ha0,hs,bP,g2,A,M,bY]
  ·cases I
 ·cases D
theorem am4(M:P.underlying t=some (.slice e))(D:ai[0]? = some t)(A:AX v = .ok x)(N:bF aj v c)(I:TypeId)(w:World):
  ∃E,bF aj x E/\(Builtin.len_ ai I #[c]).run P w = .ok E w:=by
 unfold AX at A
 split at A
 ·cases A;cases N <;> exact⟨_,.int _ _,by simp[Builtin.len_,D,run_underlying M,goInt]⟩
 ·cases A
theorem am5{h:ae}{w:World}(bc:ed B aj (u h) w)(I:P.underlying t=some (.map dT e))(A:ai[0]? = some t)(D:w2 h v = .ok x)(M:bF aj v c)(pA:TypeId):
  ∃E,bF aj x E/\(Builtin.len_ ai pA #[c]).run P w = .ok E w:=by
 unfold w2 at D
 split at D
 ·cases D;cases M;exact⟨_,.int _ _,by simp[Builtin.len_,A,run_underlying I,goInt]⟩
 ·obtain⟨es,cI,Z,V⟩:=CV D;cases V;cases M with
  |map N =>
   obtain⟨dj,bO,b0,_⟩:=bc.map N Z;have bP:=rx (P:=P) bO ab;refine⟨_,.int _ _,?_⟩;simp[Builtin.len_,A,run_underlying I,goInt,bP,oi,b0.length]
 ·cases D
theorem bF.yb{a:aw Addr}{l c:Nat}(h:bF aj (.slice a l c) v):∃A D,v = .slice A l D /\
  ((a=none/\A=none/\D=c) \/
   (∃b o aB p,a=some ⟨b,o,aB⟩/\aj b=some p/\A=some ⟨p.ca,p.off+o,none⟩/\((aB=none/\D=c)\/(∃s,aB=some (s+1)/\p.es=s+1/\D=c+p.spare))) \/
   (∃b o g aX,a=some ⟨b,o,some 0⟩/\l=0/\c=0/\A=some ⟨g,aX,none⟩)):=by
 cases h with
 |rB=>grind
 |k5 h=>grind
 |o7 h E=>grind
 |o8 b o g aX c=>grind
theorem aba{w:World}(bc:ed B aj H w){o n:Nat}(V:aj b=some p)(Z:H b=some (.cells cs bG))(E:m8 n (mY cs o)=some l):
  ∃b1,dt aj l b1/\(loadCells ⟨p.ca,p.off+o,none⟩ n).run P w = .ok b1.toArray w:=by
 obtain⟨c,e,eu,bO,D⟩:=bc.cells V Z;rw[qG,rA]at E
 split at E
 ·rename_i dv
  cases E;have A:o+n<=cs.length\/n=0:=ab
  rcases A with A | au
  ·obtain⟨b1,N,I,u⟩:=D.cut   A;refine⟨b1,I,?_⟩;have M:=run_loadCells_list (P:=P) w ⟨p.ca,p.off+o,none⟩ b1 (λj v aI=>by rw[pM];exact PT bO ab)
   grind
  ·subst au;exact⟨[],by simpa using dt.nil,rfl⟩
 ·cases E
theorem abb{a:Act}{h:ae}{w:World}(bc:ed B aj (u h) w)(o:Oper)(V:Loc aj ak a.tmps o.op.operands){e:HI}(A:ph P o.op=some (.red e))(D:pred P ak e h = .ok v):
  ∃c,bF aj v c/\(execOp a.eval o).run P w = .ok (.value c) w:=by
 have ex:∀{op:Op},o.op=op->execOp a.eval o=execOp a.eval { o with op:=op }:=λh=>by rw[<-h]
 cases t9:o.op <;> rw[t9]at A V <;> rw[ex t9] <;> (try simp only[ph,jI,mq,yg,CB,reduceCtorEq,and_false,JH]at A)
 case load t x =>
  obtain⟨bI,xh,dh,M,aU⟩:=A;cases aU;obtain⟨dq,E,D⟩:=R.fh D;obtain⟨ea,hv,c,a9,I⟩:=PU bc xh D (V.ek (by simp[Op.operands]) M E);exact⟨c,I,by simp[execOp,Instr.loadAt,hv,Instr.sureAddr,a9]⟩
 case lookup t x uu ok =>
  split at A
  ·rename_i dT e d5
   simp only[jI,mq]at A;obtain⟨z,c0,oQ,M,cI,ao,aU⟩:=A;cases aU;obtain⟨aCO,E,D⟩:=R.fh D;obtain⟨aDB,g2,D⟩:=R.fh D;obtain⟨c,I,cy⟩:=am3 bc d5 c0 D (V.ek (by simp[Op.operands]) M E) (V.ek (by simp[Op.operands]) ao g2);exact⟨c,I,by simp[execOp,cy]⟩
  ·cases A
 case entry it =>
  obtain⟨dh,M,aU⟩:=A;cases aU;obtain⟨dq,E,D⟩:=R.fh D;obtain⟨c,I,cy⟩:=ajs (P:=P) bc D (V.ek (by simp[Op.operands]) M E);exact⟨c,I,by simp[execOp,cy]⟩
 case makeMap t r=>cases r <;> cases A
 case next it b=>cases b <;> simp at A
 case call c =>
  obtain⟨i9,M,A⟩:=A;have bd:∀x∈c.args.toList,x∈(Op.call c).operands:=λx bd=>by simp only[Op.operands,Call.operands];grind
  have Z:c.args.map a.eval=⟨c.args.toList.map a.eval⟩:=ab
  split at A
  ·simp at A
  ·simp at A
  ·rename_i b aW
   obtain⟨cs,nh⟩:=NZ (bu:=a.eval) aW o.type;unfold execOp;simp only[nh,Z];have N:∀x,(invoke (.builtin .len c.argTypes o.type cs) #[x])=(do pure (.value (<-Builtin.len_ c.argTypes o.type #[x])):Sem Next):=λ_=>rfl;unfold D9 at A
   split at A
   ·split at A
    ·obtain⟨t,cq,A⟩:=jI.1 A;rw[i4]at cq
     split at A
     ·rename_i dS d5
      cases A;obtain⟨B2,E,D⟩:=R.fh D;obtain⟨iD,eH,aK⟩:=V.DU bd M E;obtain⟨bL,a9,I⟩:=am4 d5 (ai:=c.argTypes) ab D eH o.type w;rw[aK];exact⟨bL,a9,by simp only[N,Sem.run_bind,Sem.run_pure,Result.andThen_ok,I]⟩
     ·rename_i dT dS d5
      cases A;obtain⟨B2,E,D⟩:=R.fh D;obtain⟨iD,eH,aK⟩:=V.DU bd M E;obtain⟨bL,a9,I⟩:=am5 bc d5 (ai:=c.argTypes) ab D eH o.type;rw[aK];exact⟨bL,a9,by simp only[N,Sem.run_bind,Sem.run_pure,Result.andThen_ok,I]⟩
     ·cases A
    ·cases A
   ·split at A <;> cases A
   ·split at A <;> cases A
   ·split at A
    ·simp at A
    ·cases A
   ·cases A2:rJ P (g3 c.argTypes.toList 1) <;> rw[A2]at A
    ·simp only[mX,jI,yg]at A;obtain⟨_,_,_,_,_,_,_,_,_,A⟩:=A
     split at A <;> cases A
    ·cases A
   ·cases A
 all_goals (split at A <;> simp[jI]at A)
end
section
variable {P:Program} {aj:ce} {B:Nat}
def iV(P:Program)(B:Nat)(aj:ce)(H:fq)(w:World)(U:Nat)(r:fr)(s:Sem Next):Prop :=
 ∃v ac Y bu c a8,r = .val v ac Y/\bF bu v c/\cx B aj H w U Y bu (u ac) a8/\(s.run P w = .ok (.value c) a8\/(s.run P w = .ok .skip a8/\c=undef))
theorem tA:bF aj j1 undef:=.tuple .nil
theorem aqR{h:ae}{w:World}(bc:ed B aj (u h) w)(U:Nat){n:Nat}(bw:jO P t=some n)(b0:aS h n x y = .ok ac)(bd:bF aj x dh)(ck:bF aj y ii):
  ∃a8,(Instr.storeAt t dh ii).run P w = .ok () a8/\cx B aj (u h) w U U aj (u ac) a8:=by
 obtain⟨bg,rfl,Z⟩:=J6 b0;obtain⟨mc,N⟩:=jL Z;obtain⟨p,D,V,rfl⟩:=bd.O5;obtain⟨pB,of,aB⟩:=bg;simp only at D V N;subst D;have M:=ck.cells;obtain⟨a8,A,I⟩:=JR (P:=P) bc U V N M;refine⟨a8,?_,I⟩;have E:ii.cells.size=n:=by rw[<-Fj,<-M.length,<-oi];exact gr mc
 simp only[Instr.storeAt,Instr.sureAddr,storeVar,Sem.run_bind,Sem.run_pure,Result.andThen_ok,ko bw,E,ne_eq,not_true,fg,A]
theorem uW{w:World}{r:Nat}{o aX:Obj}(h:w.heap[r]? = some aX)(A:∀c e f,aX≠.cells c e f):(setObj r o).run P w = .ok () { w with heap:=w.heap.setIfInBounds r o }:=by
 cases aX <;> first
  |(exact ab)
  |simp[setObj,Sem.run,h]
theorem cx.set{h:ae}{w:World}(I:ed B aj (u h) w)(U:Nat){o:fU}{c:Obj}(E:aj b=some p)(D:u h b=some o)(M:B<=p.ca)(N:(w.heap[p.ca]?).isSome)(A:∀a8:World,a8.heap[p.ca]? = some c->mx B aj a8 p aX):cx B aj (u h) w U U aj (u (T h b aX)) { w with heap:=w.heap.setIfInBounds p.ca c }:=by
 rw[u1];refine cx.change U I E D M (by simp) ?_ rfl .here rfl (A _ ?_)
 all_goals grind
theorem hC.app{es dj:aa MapEntry}{e A:MapEntry}(h:hC aj es dj)(D:bF aj e.key A.key)(I:bF aj e.val A.val)(E:A.born=e.born):hC aj (es++[e]) (dj++[A]):=by
 match h with
 | .nil=>exact .cons D I E .nil
 | .cons a b c t=>exact .cons a b c (hC.app t D I E)
theorem XW{k v dm E:X}:∀{es dj:aa MapEntry} {i:Nat},hC aj es dj->bF aj k dm->bF aj v E->hC aj (Ho es i k v) (dj.modify i λe=>{ e with key:=dm,val:=E })
 |_,_,i,.nil,_,_=>by cases i <;> exact .nil
 |_,_,0,.cons a b c t,A,D=>.cons A D c t
 |_,_,i+1,.cons a b c t,A,D=>.cons a b c (XW  t A D)
theorem XX:∀{es dj:aa MapEntry} {i:Nat},hC aj es dj->hC aj (Ly es i) (dj.eraseIdx i)
 |_,_,i,.nil=>by cases i <;> exact .nil
 |_,_,0,.cons a b c t=>t
 |_,_,i+1,.cons a b c t=>.cons a b c (XX  t)
end
theorem XY{a b:Addr}(h:AA a b=true):a=b:=by
 obtain⟨x,y,z⟩:=a;obtain⟨V,Z,N⟩:=b;unfold AA at h;rw[eo,eo]at h;obtain⟨⟨I,M⟩,E⟩:=h;have A:=gr I;have D:=gr M;simp only at A D;subst A D;cases z <;> cases N <;> simp at E
 all_goals grind
theorem auH{a b:Int}(h:fk a b=true):a=b:=by rw[k4]at h;grind
theorem Y9(h:qM x y=true):x=y:=by
 unfold qM at h
 split at h <;> (try(split at h)) <;> (try(cases h;done)) <;> (try rfl)
 ·grind
 ·simp only[eo]at h;rw[Gm.1 h.1,auH h.2]
 ·rw[XY h]
 ·simp only[eo]at h;rw[gr h.1,gr h.2]
 ·simp only[eo]at h;rw[XY h.1.1,gr h.1.2,gr h.2]
 ·rw[gr h]
 ·rw[gr h]
theorem CW:∀{x y:aa X},qN x y=true->x=y
 | [],[],_=>rfl
 |a::x,b::y,h=>by simp only[qN,eo]at h;rw[Y9 h.1,CW h.2]
 | [],_::_,h=>by simp[qN]at h
 |_::_,[],h=>by simp[qN]at h
theorem Za(h:ov x y=true):x=y:=by
 unfold ov at h
 split at h
 ·split at h
  ·rw[CW h]
  grind
 ·split at h
  ·rw[CW h]
  grind
 ·split at h
  ·simp only[eo]at h;rw[gr h.1.1,CW h.1.2,CW h.2]
  grind
 ·exact Y9 h
section
variable {P:Program} {aj:ce} {B:Nat}
theorem ajt(q:Question)(w:World):∃n d,(choose q).run P w = .ok n { w with drawn:=d }/\w.drawn<=d:=by
 simp only[choose,Sem.run]
 split
 all_goals grind
theorem aiW{q:Question}{f:Nat->Sem X}{w:World}(D:∀n d,(f n).run P { w with drawn:=d } = .ok v { w with drawn:=d }):∃d,(choose q >>= f).run P w = .ok v { w with drawn:=d }/\w.drawn<=d:=by
 obtain⟨n,d,h,A⟩:=ajt  q w;refine⟨d,?_,A⟩;rw[Sem.run_bind,h,Result.andThen_ok]
 grind
theorem ed.drawn{H:fq}{w:World}(A:ed B aj H w)(d:Nat):ed B aj H { w with drawn:=d }:=A.world ab ab
theorem cx.from{w:World}(A:w.drawn<=d)(h:cx B aj H { w with drawn:=d } ap ag bu hK a8):cx B aj H w ap ag bu hK a8 :=
 ⟨h.rel,h.agree,h.size,h.os,⟨h.tape.1,iv A h.tape.2⟩,h.output,h.frame,h.own,h.le⟩
theorem ail(k:X)(w:World):∃d,(Instr.keyThatStays k k).run P w = .ok k { w with drawn:=d }/\w.drawn<=d:=by
 unfold Instr.keyThatStays
 split
 ·exact⟨w.drawn,rfl,J⟩
 ·refine aiW λn d=>?_;simp only[ite_self,Sem.run_pure]
theorem am6{h:ae}{w:World}(bc:ed B aj (u h) w)(U:Nat){m:X}(d5:P.underlying t=some (.map dT e))(y4:m9 P dT h m k x = .ok ac)(hm:bF aj m oQ)(hk:bF aj k cI)(bd:bF aj x dh):
  ∃a8,(Instr.mapUpdate t oQ cI dh).run P w = .ok () a8/\cx B aj (u h) w U U aj (u ac) a8:=by
 obtain⟨jb,h1⟩:=jL y4;obtain⟨fX,E⟩:=Oj jb;have Bk:cI=k:=uS (x7 E).1 hk;subst Bk
 split at h1
 ·rename_i r
  obtain⟨es,A,aY,ao⟩:=CV h1;cases hm with
  |map aW =>
   rename_i p
   obtain⟨dj,bO,I,ey⟩:=bc.map aW aY;have D:=JI E false w;have V:=rx (P:=P) bO ab
   split at ao
   ·rename_i i e Z
    obtain⟨ar,aT⟩:=jL ao;cases aT;obtain⟨c,a9,bY⟩:=FF E I Z w;obtain⟨dS,cy,rfl⟩:=bY;obtain⟨_,Bl,N⟩:=FI  Z i e rfl;obtain⟨e'',eD,hkv,_,_⟩:=I.get Bl;rw[cy]at eD;cases eD;have M:dS.key=cI:=(uS (x7 N).2 hkv).trans (Za ar);obtain⟨d,jc,TF⟩:=ail (P:=P) cI w;have hei:dj.toArray[i]? = some dS:=ab
    have T:=uW (P:=P) (w:={ w with drawn:=d }) (o:=.map (dj.toArray.modify i λe=>{ e with key:=cI,val:=dh }) A) bO ab;refine⟨{ w with drawn:=d,heap:=w.heap.setIfInBounds p.ca (.map (dj.toArray.modify i λe=>{ e with key:=cI,val:=dh }) A) },?_,?_⟩
    ·simp only[Instr.mapUpdate,Sem.run_bind,run_underlying d5,Result.andThen_ok,V,D,a9,hei,Fs,JA,M,jc,T]
    ·refine cx.from  TF (cx.set (bc.drawn d) U aW aY ey ab λa8 oF=>⟨ey,_,?_,XW  I hk bd⟩)
     grind
   ·rename_i Z
    cases ao;obtain⟨c,a9,bY⟩:=FF E I Z w;cases bY;have T:=uW (P:=P)  (o:=.map (dj.toArray.push { key:=cI,val:=dh,born:=A }) (A+1)) bO ab;refine⟨{ w with heap:=w.heap.setIfInBounds p.ca (.map (dj.toArray.push { key:=cI,val:=dh,born:=A }) (A+1)) },?_,?_⟩
    ·simp only[Instr.mapUpdate,Sem.run_bind,run_underlying d5,Result.andThen_ok,V,D,a9,T]
    ·refine cx.set bc U aW aY ey ab λa8 oF=>⟨ey,dj++[{ key:=cI,val:=dh,born:=A }],?_,?_⟩
     ·grind
     ·rw[jK];exact I.app hk bd rfl
   ·cases ao
 ·cases h1
theorem Ad(o:Obj)(w:World):(newObj o).run P w = .ok w.heap.size { w with heap:=w.heap.push o }:=rfl
theorem WP{h:ae}{w:World}(M:ed B aj (u h) w){U:Nat}(N:aj U=none){m:aw Nat}(V:p0 aj m bD)(c:Nat):
  ∃bu,bF bu (.pointer (some ⟨U,0,none⟩)) (.pointer (some ⟨w.heap.size,0,none⟩)) /\
   cx B aj (u h) w U (U+1) bu (u (T h U (.iter m c [] c))) { w with heap:=w.heap.push (.mapIter bD c #[] c) }:=by
 have Z:(⟨w.heap.size,0,0,0⟩:Place).ca=w.heap.size:=rfl;have E:Sub aj (λk=>if k=U then some ⟨w.heap.size,0,0,0⟩else aj k):=λb q aW=>ab
 have D:(λk=>if k=U then some (⟨w.heap.size,0,0,0⟩:Place)else aj k) U=some ⟨w.heap.size,0,0,0⟩:=by simp
 have I:=bF.ptr (aj:=λk=>if k=U then some (⟨w.heap.size,0,0,0⟩:Place)else aj k) (o:=0) D;refine⟨_,I,?_⟩;rw[u1];have A:=Made.push w (.mapIter bD c #[] c);exact cx.make M N A.size A.d3 A.os A.tape A.output Z ⟨M.base,rfl,bD,A.new,V.mono E⟩
theorem aju{h:ae}{w:World}(E:ed B aj (u h) w){U:Nat}(V:aj U=none)(cq:rG P t=true)(Z:bF aj v c){K:bN}(A:dG (sJ h U v) K):
  iV P B aj (u h) w U (sJ h U v) (do pure (.value (<-Instr.range t c))):=by
 obtain⟨dT,EU,d5⟩:=N9 cq;unfold sJ at *
 split at A
 ·cases Z;obtain⟨bu,D,I⟩:=WP E V (m:=none) (bD:=none) trivial 0;refine⟨_,_,_,bu,_,_,rfl,D,I,.inl ?_⟩;simp[Instr.range,run_underlying d5,Ad]
 ·split at A
  ·rename_i aY
   cases Z with
   |map N =>
    obtain⟨dj,bO,b0,ey⟩:=E.map N aY;obtain⟨bu,D,I⟩:=WP E V (m:=some _) (bD:=some _) ⟨_,N,rfl⟩ _;refine⟨_,_,_,bu,_,_,rfl,D,I,.inl ?_⟩;have M:=rx (P:=P) bO ab;simp[Instr.range,run_underlying d5,Ad,M]
  ·exact A.elim
 ·exact A.elim
theorem Od(A:aa Nat):∀{es dj:aa MapEntry},hC aj es dj->hC aj (leftOf A es) (dj.filter λe=>!A.contains e.born)
 |_,_,.nil=>.nil
 |x::xs,y::Z,.cons M N E I=>by
  have D:(A.any (Nat.beq x.born))=A.contains y.born:=by
   rw[E,z5];simp only[x0,List.contains_iff_exists_mem_beq,Nat.beq_eq]
   grind
  unfold leftOf;rw[D,mW];cases V:A.contains y.born
  ·simp only[mX,Bool.not_false,if_true];exact .cons M N E (Od A I)
  ·simp only[qF,Bool.not_true,nB,fg];exact Od A I
theorem hC.mem:∀{es dj:aa MapEntry} {A:MapEntry},hC aj es dj->A∈dj->∃e∈es,bF aj e.key A.key/\bF aj e.val A.val/\A.born=e.born
 |_,_,A,.cons (e:=x) M V D I,h=>by
  rcases gh.1 h with rfl|h
  ·exact⟨x,by simp,M,V,D⟩
  ·obtain⟨e,E,N⟩:=hC.mem I h;exact⟨e,by simp[E],N⟩
theorem aiX{n:Nat}(A:0<n)(w:World):∃i d,(choose (.mapNext n)).run P w = .ok i { w with drawn:=d }/\w.drawn<=d/\i<n:=by
 simp only[choose,Sem.run,Question.forced,Question.cut]
 by_cases h:n<=1
 ·exact⟨0,w.drawn,by simp[h],J,A⟩
 ·exact⟨w.tape w.drawn (.mapNext n) % n,w.drawn+1,ab,J,Aa _ A⟩
theorem aqS{h:ae}{w:World}(bc:ed B aj (u h) w)(U:Nat)(aI:bF aj v c){s:al}{K:bN}(jb:vB s h U v K)(pA:TypeId):
  ∃dX ac bu bL a8,K dX ac U/\bF bu dX bL/\cx B aj (u h) w U U bu (u ac) a8/\(Instr.next c false pA).run P w = .ok bL a8:=by
 obtain⟨it,r,D,st,TE,A,es,rfl,rfl,aY,hm,xk,au,V⟩:=jb;obtain⟨p,_,a6,rfl⟩:=aI.O5;obtain⟨bD,bO,fI,hs,hBi⟩:=bc.iter a6 aY;cases bD with
 |none=>exact fI.elim
 |some bD =>
  obtain⟨q,c3,rfl⟩:=fI;have bP:=rx (P:=P) bO ab;obtain⟨dj,oF,b0,ey⟩:=bc.map c3 hm;have g2:=rx (P:=P) oF ab;have N:(!A.toArray.isEmpty&&!dj.toArray.isEmpty&&dj.toArray.all (λe=>decide (e.born≥st)))=false:=by
   unfold KW at xk;simp only[Fp]at xk;rcases xk with(V|V)|V
   ·grind
   ·simp[List.isEmpty_iff]at V;subst V;cases b0;simp
   ·obtain⟨e,ao,aT⟩:=x0.1 V;obtain⟨k,hk⟩:=Fi ao;obtain⟨I,a9,_,_,bY⟩:=b0.get hk;have cb:e.born<st:=by simpa[wq]using aT
    grind
  have E:=Od A b0;have M:(dj.toArray.filter λe=>!A.toArray.contains e.born)=(dj.filter λe=>!A.contains e.born).toArray:=by simp
  generalize bK:(dj.filter λe=>!A.contains e.born)=en at E M;cases bo:leftOf A es with
  |nil =>
   rw[bo]at E;cases E;refine⟨_,_,aj,_,w,au bo,.tuple (.cons (.bool _) .nil),cx.refl U bc,?_⟩;simp only[Instr.next,hs,og,Sem.run_bind,bP,g2,Result.andThen_ok,N,M,nB,fg];simp[choose,Sem.run,Question.forced]
  |cons aL l =>
   have Z:∀I∈en,∃e∈leftOf A es,bF aj e.key I.key/\bF aj e.val I.val/\I.born=e.born:=λI h=>E.mem h;have bY:∀I∈en,I.born<D:=λI h=>by obtain⟨e,ao,_,_,aT⟩:=Z I h;rw[aT];exact(V e ao).1
   have eh:en≠[]:=by
    intro h;subst h;have:=E.length
    grind
   have aq:(en.toArray.filter λe=>decide (e.born<D))=en.toArray:=by apply Array.ext';rw[Array.toList_filter];exact zX.2 ab
   have aR:(en.toArray.filter λe=>decide (e.born≥D))=#[]:=by apply Array.ext';rw[Array.toList_filter];exact zU.2 ab
   have azr:en.toArray.isEmpty=false:=ab
   obtain⟨i,d,Bm,TF,ag⟩:=aiX (P:=P) (n:=en.length) ab w;obtain⟨I,pj⟩:∃I,en[i]? = some I:=⟨en[i],ab⟩
   obtain⟨e,ahb,hk,vF,aW⟩:=Z I ab;have T:=uW (P:=P) (w:={ w with drawn:=d }) (o:=.mapIter (some q.ca) D (A.toArray.push I.born) TE) bO ab;rw[List.push_toArray]at T;refine⟨_,_,aj,.tuple #[.bool true,I.key,I.val],{ w with drawn:=d,heap:=w.heap.setIfInBounds p.ca (.mapIter (some q.ca) D (A++[I.born]).toArray TE) },(V e ahb).2,.tuple (.cons (.bool _) (.cons hk (.cons vF .nil))),?_,?_⟩
   ·refine cx.from  TF (cx.set (bc.drawn d) U a6 aY hBi ab λa8 oF=>⟨hBi,hs,some q.ca,?_,⟨q,c3,rfl⟩⟩)
    grind
   ·simp only[Instr.next,hs,og,Sem.run_bind,bP,g2,Result.andThen_ok,N,M,nB,fg,aq,aR,azr];simp[Bm,pj,T]
theorem Wv{h:ae}{w:World}(bc:ed B aj (u h) w){a:aw Addr}{c s:Nat}{k:aa X->R fr}{r:fr}(aI:bF aj (.slice a len c) qr)(hm:m<=len)(N:lr h a (Nat.mul m s) k = .ok r):∃l,k l = .ok r/\l.length=m*s/\∀d,∃b1,dt aj l b1/\(Builtin.firstCells s m qr).run P { w with drawn:=d } = .ok b1.toArray { w with drawn:=d }:=by
 obtain⟨ea,bL,rfl,D⟩:=aI.yb;unfold lr at N;rcases xZ (Nat.mul m s)with au|SD
 ·rw[au]at N;have Z:m*s=0:=au;refine⟨[],N,ab,λd=>⟨[],.nil,?_⟩⟩;cases ea with
  |none=>rfl
  |some x=>simp only[Builtin.firstCells,Z];rfl
 ·obtain⟨q,c3⟩:∃q,Nat.mul m s=q+1:=⟨Nat.mul m s-1,J⟩
  have I:Option.casesOn (motive:=λ_=>R fr) a (.no "read - nil") (λa=>cellsOf h a.block (λcs _=>R.of "read - out of block" (m8 (Nat.mul m s) (mY cs a.off)) k)) = .ok r:=by rw[c3]at N ⊢;omega
  have V:0<m:=ab
  rcases D with⟨rfl,_,_⟩|⟨b,o,aB,p,rfl,aW,rfl,_⟩|⟨b,o,g,aX,rfl,ni,_,rfl⟩
  ·cases I
  ·obtain⟨cs,bG,a1,dD⟩:=FH I;obtain⟨l,A,eY⟩:=R.k9 dD;have M:l.length=m*s:=by
    rw[qG]at A
    grind
   refine⟨l,eY,M,λd=>?_⟩;obtain⟨b1,Ea,E⟩:=aba  (bc.drawn d) aW a1 A;exact⟨b1,Ea,E⟩
  ·omega
theorem akG{h:ae}{w:World}(bc:ed B aj (u h) w)(U:Nat){s:Nat}(Z:ai[0]? = some t)(ar:yp P t=some s){r:fr}(E:Dz s h U x y = .ok r)(bd:bF aj x dh)(ck:bF aj y ii)(pA:TypeId):
  iV P B aj (u h) w U r (do pure (.value (<-Builtin.copy_ ai pA #[dh,ii]))):=by
 obtain⟨e,d5,V⟩:=WO ar;unfold Dz at E
 split at E
 ·rename_i a len cap
  split at E
  ·rename_i b n j4
   obtain⟨ea,bL,rfl,hcx⟩:=bd.yb;have HM:=ck;obtain⟨b6,c'',rfl,hcy⟩:=ck.yb;obtain⟨l,A,fO,N⟩:=Wv (P:=P) bc HM (Nat.min_le_left n len) E;obtain⟨b1,M,D⟩:=N w.drawn;have I:∀w,(Builtin.lenOf (.slice b6 n c'')).run P w = .ok n w:=λ_=>rfl
   split at A
   ·cases A;cases M;refine⟨_,_,_,aj,_,w,rfl,.int _ _,cx.refl U bc,.inl ?_⟩;simp[Builtin.copy_,Z,run_underlying d5,I,ko V,D,goInt];cases ea <;> simp[storeCells]
   ·split at A
    ·rename_i eh _ a
     obtain⟨ac,oF,A⟩:=R.fh A;cases A;rcases hcx with⟨h1,_⟩|⟨EV,IS,aB,p,h1,aW,rfl,_⟩|⟨_,_,g,aX,h1,ni,_,rfl⟩
     ·cases h1
     ·cases h1;obtain⟨a8,jc,kx⟩:=JR (P:=P) bc U aW oF M;refine⟨_,_,_,aj,_,a8,rfl,.int _ _,kx,.inl ?_⟩;simp[Builtin.copy_,Z,run_underlying d5,I,ko V,D,goInt,jc]
     ·exfalso;rw[ni,Nat.min_zero,lY]at fO
      grind
    ·cases A
  ·cases E
 ·cases E
theorem ajv{h:ae}{w:World}(N:ed B aj (u h) w)(U:Nat)(A:ai[0]? = some t)(hty:rG P t=true\/nD P t=true){r:fr}(D:GJ P t h U x = .ok r)(bd:bF aj x dh)(pA:TypeId):
  iV P B aj (u h) w U r (do pure (.value (<-Builtin.clear_ ai pA #[dh]))):=by
 have V:∃d,P.underlying t=some d:=by
  rcases hty with h|h
  ·obtain⟨k,e,h⟩:=N9 h;grind
  ·obtain⟨e,h⟩:=N1 h;grind
 obtain⟨d,V⟩:=V;unfold GJ at D
 split at D
 ·cases D;cases bd;exact⟨_,_,_,aj,_,w,rfl,tA,cx.refl U N,.inl (by simp[Builtin.clear_,A,run_underlying V];rfl)⟩
 ·obtain⟨es,Z,aY,E⟩:=CV D;cases E;cases bd with
  |map aW =>
   rename_i p
   obtain⟨dj,bO,b0,ey⟩:=N.map aW aY;have Mb:=rx (P:=P) bO ab;have T:=uW (P:=P)  (o:=.map #[] Z) bO ab;refine⟨_,_,_,aj,_,{ w with heap:=w.heap.setIfInBounds p.ca (.map #[] Z) },rfl,tA,cx.set N U aW aY ey ab λa8 M=>⟨ey,[],M,.nil⟩,.inl ?_⟩;simp[Builtin.clear_,A,run_underlying V,Mb,T];rfl
 ·cases D;obtain⟨ea,bL,rfl,I⟩:=bd.yb;rcases I with⟨_,rfl,_⟩|⟨_,_,_,_,h,_⟩|⟨_,_,_,_,h,_⟩
  ·exact⟨_,_,_,aj,_,w,rfl,tA,cx.refl U N,.inl (by simp[Builtin.clear_,A,run_underlying V];rfl)⟩
  ·cases h
  ·cases h
 ·rename_i a n cap
  obtain⟨ea,bL,rfl,I⟩:=bd.yb;cases n with
  |zero =>
   cases D;refine⟨_,_,_,aj,_,w,rfl,tA,cx.refl U N,.inl ?_⟩;cases ea <;> simp[Builtin.clear_,A,run_underlying V] <;> rfl
  |succ m =>
   have D:KX P t h U a (Nat.succ m) = .ok r:=D;obtain⟨e,b0,E⟩:=R.k9 D;obtain⟨xN,c0,ao⟩:=R.k9 E;obtain⟨ac,M,aT⟩:=R.fh ao;cases aT;obtain⟨i,z,ag,rU,oE,rfl⟩:=Ac c0;have y4:=Fz b0;rcases I with⟨E,_⟩|⟨EV,IS,aB,p,E,aW,rfl,_⟩|⟨_,_,g,aX,E,ni,_,rfl⟩
   ·cases E
   ·cases E;obtain⟨a8,jc,kx⟩:=JR (P:=P) N U aW M (C3 (x6 oE aj) (Nat.succ m));refine⟨_,_,_,aj,_,a8,rfl,tA,kx,.inl ?_⟩;simp[Builtin.clear_,A,run_underlying y4,yf ag rU,Ab,jc];rfl
   ·cases ni
 ·cases D
theorem aiY{h:ae}{w:World}(bc:ed B aj (u h) w)(U:Nat)(M:ai[0]? = some t){m:X}{r:fr}(bh:Gl P t h U m k = .ok r)(hm:bF aj m oQ)(hk:bF aj k cI)(pA:TypeId):
  iV P B aj (u h) w U r (do pure (.value (<-Builtin.delete_ ai pA #[oQ,cI]))):=by
 unfold Gl at bh
 split at bh
 ·rename_i dT e d5
  obtain⟨jb,V⟩:=jL bh;obtain⟨fX,E⟩:=Oj jb;have Bk:cI=k:=uS (x7 E).1 hk;subst Bk;unfold PS at V
  split at V
  ·rename_i b
   obtain⟨es,D,aY,Z⟩:=CV V;cases hm with
   |map aW =>
    rename_i p
    obtain⟨dj,bO,b0,ey⟩:=bc.map aW aY;have A:=JI E dj.isEmpty w;have N:=rx (P:=P) bO ab
    split at Z
    ·rename_i i e bK
     cases Z;obtain⟨c,a9,bY⟩:=FF E b0 bK w;obtain⟨dS,cy,rfl⟩:=bY;have T:=uW (P:=P)  (o:=.map (dj.eraseIdx i).toArray D) bO ab;have cb:i<dj.length:=ab
     refine⟨_,_,_,aj,_,{ w with heap:=w.heap.setIfInBounds p.ca (.map (dj.eraseIdx i).toArray D) },rfl,tA,cx.set bc U aW aY ey ab λa8 oF=>⟨ey,dj.eraseIdx i,?_,XX b0⟩,.inl ?_⟩
     ·omega
     ·simp[Builtin.delete_,M,run_underlying d5,N,A,a9,T,Array.eraseIdxIfInBounds,cb];rfl
    ·rename_i bK
     cases Z;obtain⟨c,a9,bY⟩:=FF E b0 bK w;cases bY;have T:=uW (P:=P)  (o:=.map dj.toArray D) bO ab;have I:(w.heap.setIfInBounds p.ca (.map dj.toArray D))=w.heap:=ab
     rw[I]at T;refine⟨_,_,_,aj,_,w,rfl,tA,cx.refl U bc,.inl ?_⟩;simp[Builtin.delete_,M,run_underlying d5,N,A,a9,T];rfl
    ·cases Z
  ·cases V
 ·cases bh
end
section
variable {P:Program} {aj:ce} {B:Nat}
theorem cx.less{H hK:fq}{w:World}(U:Nat)(I:ed B aj H w)(E:∀b o,hK b=some o->H b=some o):cx B aj H w U U aj hK w where
 rel:=I.less E
 agree:=ab
 size:=J
 os:=rfl
 tape:=.here
 output:=rfl
 frame:=ab
 own:=λk ⟨b,p,D,N,A,M⟩=>by obtain⟨o,V⟩:=nA.1 N;exact .inl ⟨b,p,D,ab,A,M⟩
 le:=J
theorem cx.auI{w:World}{U:Nat}{eC:Place}{o:fU}(V:ed B aj H w)(bw:aj U=none)(aW:aj b=some p)(fI:H b=some o)(ey:B<=p.ca)(hH':∀x,hK x=if x=b then none else H x)(a6:eC.ca=p.ca)(kP:a8.heap.size=w.heap.size)(ja:∀k,k≠p.ca->a8.heap[k]? = w.heap[k]?)(xg:a8.os=w.os)(hta:ri w a8)(Tv:a8.output=w.output)(oD:mx B (λk=>if k=U then some eC else aj k) a8 eC aX):
  cx B aj H w U (U+1) (λk=>if k=U then some eC else aj k) (hK.put U aX) a8:=by
 have p4:Sub aj (λk=>if k=U then some eC else aj k):=λx q D=>ab
 have A:∀x,x≠U->((hK.put U aX) x).isSome->(H x).isSome/\x≠b:=λx e h=>by
  simp only[fq.put,e,fg,hH']at h
  grind
 refine⟨⟨by have:=V.base;omega,?_,?_,?_⟩,λx D=>?_,J,xg,hta,Tv,?_,?_,J⟩
 ·intro x q y D E
  by_cases e:x=U
  ·subst e;simp[fq.put]at D E;subst D;subst E;exact oD
  ·obtain⟨N,M⟩:=A x e ab;simp only[e,fg]at D;simp only[fq.put,e,fg,hH',M]at E;refine(V.obj x q y D E).mono p4 (ja _ λZ=>M ?_);exact V.inj x b q p D aW N ab J Z
 ·intro x y q mO D E ar nK I Z
  by_cases e:x=U <;> by_cases dS:y=U
  ·omega
  ·subst e;simp at D;subst D;obtain⟨N,M⟩:=A y dS nK;simp only[dS,fg]at E;exact absurd (V.inj y b mO p E aW N ab J J) M
  ·subst dS;simp at E;subst E;obtain⟨N,M⟩:=A x e ar;simp only[e,fg]at D;exact absurd (V.inj x b q p D aW N ab J J) M
  ·obtain⟨N,_⟩:=A x e ar;obtain⟨M,_⟩:=A y dS nK;simp only[e,fg]at D;simp only[dS,fg]at E;exact V.inj x y q mO D E N M I Z
 ·intro x ar
  by_cases e:x=U
  ·grind
  ·simp only[e,fg];exact V.nd x ab
 ·grind
 ·intro k hk xk;exact ja k λe=>xk ⟨b,p,aW,ab,e.symm,J⟩
 ·rintro k ⟨x,q,D,ar,rfl,I⟩
  by_cases e:x=U
  ·subst e;simp at D;subst D;exact .inl ⟨b,p,aW,ab,a6.symm,I⟩
  ·simp only[e,fg]at D;exact .inl ⟨x,q,D,ab,rfl,I⟩
theorem XZ{n:Nat}(A:n<=1000000):∀(r c:Nat),c<=1250192->Builtin.growBy n r c<=1250192
 |0,c,h=>h
 |r+1,c,h=>by
  unfold Builtin.growBy
  split
  ·exact h
  ·exact XZ A r _ J
theorem nextslicecap_le{c:Nat}(A:jN<=1000000)(D:c<jN):Builtin.nextslicecap jN c<=2000000:=by
 unfold Builtin.nextslicecap
 split
 ·omega
 ·split
  ·omega
  ·exact iv (XZ A 4 c J) J
theorem run_typeInfo{i:TypeInfo}(h:P.info? t=some i)(w:World):(typeInfo t).run P w = .ok i w:=by simp[typeInfo,h]
theorem Zb{h:ae}{U s:Nat}{r:fr}(D:pT h U s l jN = .ok r):
  ∃A,s=A+1/\r = .val (.slice (some ⟨U,0,some (A+1)⟩) jN jN) (T h U (.cells l false)) (U+1):=by
 unfold pT at D;cases s with
 |zero=>cases D
 |succ A=>grind
theorem Xc{h I:ae}{w:World}(bc:ed B aj (u h) w){U s:Nat}(bw:aj U=none)(Z:∀b o,u I b=some o->u h b=some o){r:fr}(hk:pT I U s l jN = .ok r)(V:dt aj l b1){z:aa X}(c0:z.length=s){A:Nat}(a1:jN<=A)(d:Nat)(bh:w.drawn<=d)(e:TypeId):
  ∃v ac Y bu,r = .val v ac Y/\bF bu v (.slice (some ⟨w.heap.size,0,none⟩) jN A) /\
   cx B aj (u h) w U Y bu (u ac) { w with drawn:=d,heap:=w.heap.push (.cells (b1++gO (A-jN) z).toArray e) }:=by
 obtain⟨lK,rfl,rfl⟩:=Zb hk
 let p:Place:=⟨w.heap.size,0,A-jN,lK+1⟩
 have D:(λk=>if k=U then some p else aj k) U=some p:=by simp
 have E:Sub aj (λk=>if k=U then some p else aj k):=λb q aW=>ab
 have aI:=bF.o7 (aj:=λk=>if k=U then some p else aj k) (o:=0)  D rfl jN jN;have M:jN+p.spare=A:=ab
 rw[M]at aI;refine⟨_,_,_,_,rfl,aI,?_⟩;rw[u1];have I:=cx.less  U bc Z;refine I.trans ?_;have oD:mx B (λk=>if k=U then some p else aj k) { w with drawn:=d,heap:=w.heap.push (.cells (b1++gO (A-jN) z).toArray e) } p (.cells l false):=?_
 ·exact cx.make I.rel bw (by simp) ab rfl ⟨rfl,bh⟩ rfl rfl oD
 refine⟨bc.base,rfl,(b1++gO (A-jN) z).toArray,e,0,0,ab,J,JX ?_,?_⟩
 ·have N:=V.length;rw[zR J];rw[N,ic];exact V.mono E
 ·have N:=V.length;simp only[List.size_toArray,ib,FE,c0]
  grind
theorem am7{I:aa X}{c:Array X}{s:Nat}(D:pO aj cs c 0)(M:cs.length=len*s)(A:m8 (len*s) (mY cs 0)=some I):
  ∃E,dt aj I E/\E=c.toList.take (len*s):=by
 rw[qG,rA,oe]at A
 split at A
 ·cases A;refine⟨_,?_,rfl⟩;obtain⟨b1,Z,N,V⟩:=D.cut (o:=0) (n:=len*s) J;have:b1=c.toList.take (len*s):=by
   apply pI
   grind
  rw[<-this];simpa using N
 ·cases A
theorem ajw{h:ae}{w:World}(bc:ed B aj (u h) w){U:Nat}(bw:aj U=none){s n:Nat}{a:aw Addr}(bd:bF aj (.slice a len cap) dh)(fO:new.length=n*s){z:aa X}(c0:z.length=s)(e:TypeId){r:fr}(I:gZ s h U a len cap n new = .ok r):
  ∃ea bL,dh = .slice ea len bL /\
   ((len+n<=bL/\∀A,dt aj new A->∃v ac Y bu a8,r = .val v ac Y/\bF bu v (.slice ea (len+n) bL)/\cx B aj (u h) w U Y bu (u ac) a8 /\
     (match ea with|some x=>(storeCells (x.add (len*s)) A).run P w = .ok () a8 | none=>a8=w)) \/
    (bL<len+n/\len+n<=1000000/\∀d D,w.drawn<=d->len+n<=D->∃E:aa X,(Builtin.firstCells s len dh).run P { w with drawn:=d } = .ok E.toArray { w with drawn:=d } /\
     ∀A,dt aj new A->∃v ac Y bu,r = .val v ac Y/\bF bu v (.slice (some ⟨w.heap.size,0,none⟩) (len+n) D) /\
      cx B aj (u h) w U Y bu (u ac) { w with drawn:=d,heap:=w.heap.push (.cells (E++A++gO (D-(len+n)) z).toArray e) })):=by
 obtain⟨ea,bL,rfl,qO⟩:=bd.yb;refine⟨ea,bL,rfl,?_⟩;unfold gZ at I;cases p3:Nat.ble (Nat.add len n) cap with
 |true =>
  rw[p3]at I;have dv:len+n<=cap:=lX p3;have I:R0 h U s a len cap (Nat.add len n) new = .ok r:=I;unfold R0 at I
  left
  rcases qO with⟨rfl,rfl,rfl⟩|⟨b,o,aB,p,rfl,aW,rfl,mD⟩|⟨b,o,g,aX,rfl,ni,hc0,rfl⟩
  ·cases I;exact⟨dv,λA _=>⟨_,_,_,aj,w,rfl,.rB _ _,cx.refl U bc,rfl⟩⟩
  ·have xi:bF aj (.slice (some ⟨b,o,aB⟩) (len+n) cap) (.slice (some ⟨p.ca,p.off+o,none⟩) (len+n) bL):=by
    rcases mD with⟨rfl,rfl⟩|⟨lK,rfl,Eb,rfl⟩
    ·exact .k5 aW _ _
    ·exact .o7 aW Eb _ _
   have Bn:len+n<=bL:=J
   refine⟨Bn,λA aR=>?_⟩;dsimp only at I
   split at I
   ·cases I;cases aR;exact⟨_,_,_,aj,w,rfl,xi,cx.refl U bc,rfl⟩
   ·obtain⟨ac,oF,I⟩:=R.fh I;cases I;obtain⟨a8,jc,kx⟩:=JR (P:=P) bc U aW oF aR;refine⟨_,_,_,aj,a8,rfl,xi,kx,?_⟩;have:(⟨p.ca,p.off+o,none⟩:Addr).add (len*s)=⟨p.ca,p.off+(o.add (len.mul s)),none⟩:=by rw[pM,wo];rfl
    dsimp only
    grind
  ·subst ni hc0;have ky:n=0:=J
   subst ky;have w7:new=[]:=ab
   subst w7;cases I;refine⟨J,λA aR=>?_⟩;cases aR;exact⟨_,_,_,aj,w,rfl,.o8 _ _ _ _ _,cx.refl U bc,rfl⟩
 |false =>
  rw[p3]at I;obtain⟨eR,I⟩:=jL  I;simp only[eo]at eR;have R1:len+n<=1000000:=lX eR.2;have vG:cap<len+n:=by
   rcases jJ cap (len+n)with h|h
   ·exact h
   ·have:=zV h
    grind
  rcases qO with⟨rfl,rfl,rfl⟩|⟨b,o,aB,p,rfl,aW,rfl,mD⟩|⟨b,o,g,aX,rfl,ni,hc0,rfl⟩
  ·right
   refine⟨vG,R1,λd D bh y5=>⟨[],rfl,λA aR=>?_⟩⟩;exact Xc bc bw ab I aR c0 y5 d bh e
  ·obtain⟨cs,bG,a1,I⟩:=FH I;obtain⟨V,N,I⟩:=R.k9 I;dsimp only at N I;have axi:∀d,∃E,dt aj V E/\(Builtin.firstCells s len (.slice (some ⟨p.ca,p.off+o,none⟩) len bL)).run P { w with drawn:=d } = .ok E.toArray { w with drawn:=d }:=λd =>
    aba  (bc.drawn d) aW a1 N
   have grow:bL<len+n->∀h1:ae,(∀b o,u h1 b=some o->u h b=some o)->pT h1 U s (ks V new) (Nat.add len n) = .ok r ->
     ∀d D,w.drawn<=d->len+n<=D->∃E:aa X,(Builtin.firstCells s len (.slice (some ⟨p.ca,p.off+o,none⟩) len bL)).run P { w with drawn:=d } = .ok E.toArray { w with drawn:=d } /\
     ∀A,dt aj new A->∃v ac Y bu,r = .val v ac Y/\bF bu v (.slice (some ⟨w.heap.size,0,none⟩) (len+n) D) /\
      cx B aj (u h) w U Y bu (u ac) { w with drawn:=d,heap:=w.heap.push (.cells (E++A++gO (D-(len+n)) z).toArray e) }:=by intro _ h1 dv aY d D bh y5;obtain⟨E,Ec,tS⟩:=axi d;refine⟨E,tS,λA aR=>?_⟩;rw[jK]at aY;exact Xc bc bw dv aY (Ec.append aR) c0 y5 d bh e
   rcases mD with⟨rfl,rfl⟩|⟨lK,rfl,Eb,rfl⟩
   ·grind
   ·dsimp only at I;obtain⟨M,hkg⟩:=jL I;simp only[eo]at M;obtain⟨⟨⟨⟨⟨hro,TG⟩,lh⟩,HN⟩,rV⟩,azs⟩:=M;have azt:bG=false:=ab
    subst azt;have TG:o=0:=gr TG;have lh:cs.length=len*s:=by rw[<-oi];exact gr lh
    have HN:lK+1=s:=gr HN;have rV:len=cap:=gr rV;subst rV TG;have dv:∀x y,u (wZ h b) x=some y->u h x=some y:=λx y hxy=>by
     rw[Oy]at hxy
     grind
    rcases jJ (len+p.spare) (len+n)with cb|eG
    ·grind
    ·left
     refine⟨eG,λA aR=>?_⟩;obtain⟨mP,hs1,rfl⟩:=Zb hkg;have azu:lK=mP:=J
     subst azu;obtain⟨ey,azv,c,dS,ap,ag,bO,ja,auJ,ahc⟩:=bc.obj b p _ aW a1;have Ed:=aR.length;rw[HN]at Eb;rw[lh,Eb]at ahc;have aCa:n*s<=p.spare*s:=qD s J;have aCb:(⟨p.ca,p.off+0,none⟩:Addr).add (len*s)=⟨p.ca,len*s,none⟩:=by rw[pM,azv];simp
     obtain⟨a8,jc,Z⟩:=NY P p.ca (len*s) dS ap ag A 0 c w bO J J (λv aI=>XT (Ob aR azs v aI))
     ·let eC:Place:=⟨p.ca,0,p.spare-n,s⟩
      have Lg:(λk=>if k=U then some eC else aj k) U=some eC:=by simp
      have p4:Sub aj (λk=>if k=U then some eC else aj k):=λb q aW=>ab
      have aI:=bF.o7 (aj:=λk=>if k=U then some eC else aj k) (o:=0)  Lg J (len+n) (len+n);have axj:len+n+eC.spare=len+p.spare:=ab
      rw[axj]at aI;have hpz:(⟨eC.ca,eC.off+0,none⟩:Addr)=⟨p.ca,p.off+0,none⟩:=ab
      rw[hpz]at aI;refine⟨_,_,_,_,a8,rfl,aI,?_,by dsimp only;grind⟩;rw[u1];refine cx.auI bc bw aW a1 ey (λx=>Oy h b x) rfl Z.size Z.frame Z.os Z.tape Z.output ?_;refine⟨ey,rfl,_,dS,ap,ag,Z.heap,?_,JX ?_,?_⟩
      ·grind
      ·obtain⟨E,Ec,sY⟩:=am7 auJ lh N;simp only[og];rw[jK];have hol:V.length=len*s:=by
        rw[Ec.length,sY]
        grind
       have pk:(c.toList.take (len*s)++A++c.toList.drop (len*s+A.length)).take (V++new).length=E++A:=by
        rw[sY];apply List.take_left'
        grind
       rw[pk];exact(Ec.append aR).mono p4
      ·simp only[jK,List.size_toArray,ib,oc,CD,Fj,og];have hol:V.length=len*s:=by
        rw[qG,rA]at N
        grind
       show min (len*s) c.size+A.length+(c.size-(len*s+A.length))=V.length+new.length+(p.spare-n)*s;rw[Nat.sub_mul];omega
  ·obtain⟨cs,bG,a1,I⟩:=FH I;obtain⟨V,N,I⟩:=R.k9 I;dsimp only at I;obtain⟨M,I⟩:=jL I;simp only[eo]at M;have HN:0=s:=gr ab;subst HN;cases I
theorem WQ{i:TypeInfo}(ag:P.info? e=some i)(h:yq P e=true):i.bytes<=1000000:=by unfold yq at h;rw[ag]at h;exact lX h
theorem wrap_small{n:Nat}(h:n<=1000000):IntKind.i64.wrap (n:Int)=(n:Int):=by
 rw[<-oh];show Ay .i64 n=(n:Int)
 unfold Ay yK;have:Nat.blt n 9223372036854775808=true:=by rw[wq];omega
 grind
theorem Xd{h:ae}{w:World}(bc:ed B aj (u h) w){U:Nat}(bw:aj U=none){s n:Nat}{a:aw Addr}(bd:bF aj (.slice a len cap) dh)(fO:new.length=n*s){i:TypeInfo}(ag:P.info? e=some i)(rU:i.zero=some z)(L9:z.cells.toList.length=s)(N:jO P e=some s)(rW:i.bytes<=1000000)(oE:vc z=true){r:fr}(hk:gZ s h U a len cap n new = .ok r)(V:ai[0]? = some t)(d5:P.underlying t=some (.slice e))(pA:TypeId) (qO:(∃t1 q k,ai[1]? = some t1/\P.underlying t1=some (.int q)/\ii = .int k (.ofNat n)/\n<=1000000/\new=gO n z.cells.toList) \/
   ((ai[1]? = none\/∃t1 d,ai[1]? = some t1/\P.underlying t1=some d/\∀q,d≠.int q)/\(∀w,(Builtin.lenOf ii).run P w = .ok n w) /\
    ∀d,∃A3,dt aj new A3/\(Builtin.firstCells s n ii).run P { w with drawn:=d } = .ok A3.toArray { w with drawn:=d })):
  iV P B aj (u h) w U r (do pure (.value (<-Builtin.append_ ai pA #[dh,ii]))):=by
 obtain⟨ea,bL,rfl,axk⟩:=ajw (P:=P) bc bw bd fO L9 e hk;have hbz:¬((n:Int)*(i.bytes:Int)>2 ^ 48)\/1000000<n:=by
  rcases jJ 1000000 n with h|h
  ·omega
  ·left
   have:n*i.bytes<=1000000*1000000:=sA h rW;omega
 have DV:¬((n:Int)<0):=J
 have M:∀(k:IntKind) (w:World),(asInt (Value.int k (n:Int))).run P w = .ok (n:Int) w:=λ_ _=>rfl;have afw:w.drew={ w with drawn:=w.drawn+1 }:=rfl;have I:=λw=>yf ag rU w;rcases axk with⟨dv,ub⟩|⟨cb,R1,TH⟩
 ·rcases qO with⟨t1,q,k,Z,q2,rfl,xl,rfl⟩|⟨y6,rX,pe⟩
  ·obtain⟨v,ac,Y,bu,a8,D,aI,kx,E⟩:=ub _ (C3 (x6 oE aj) n);refine⟨v,ac,Y,bu,_,a8,D,aI,kx,.inl ?_⟩;have A4:¬(281474976710656<(n:Int)*(i.bytes:Int)):=J
   have q3:IntKind.i64.wrap (n:Int)=(n:Int):=wrap_small J
   by_cases Bo:n*s=0
   ·have w7:gO n z.cells.toList=[]:=ab
    rw[w7]at E;cases ea with
    |none=>simp[Builtin.append_,V,run_underlying d5,ko N,Z,run_underlying q2,dv,M,DV,q3,run_typeInfo ag,A4,Bo]at E ⊢;grind
    |some x=>simp[Builtin.append_,V,run_underlying d5,ko N,Z,run_underlying q2,dv,M,DV,q3,run_typeInfo ag,A4,Bo]at E ⊢;simp[E]
   ·cases ea with
    |none=>simp[Builtin.append_,V,run_underlying d5,ko N,Z,run_underlying q2,dv,M,DV,q3,run_typeInfo ag,A4,Bo,I,Ab]at E ⊢;grind
    |some x=>simp[Builtin.append_,V,run_underlying d5,ko N,Z,run_underlying q2,dv,M,DV,q3,run_typeInfo ag,A4,Bo,I,Ab]at E ⊢;simp[E]
  ·obtain⟨A3,aR,A⟩:=pe w.drawn;have A:(Builtin.firstCells s n ii).run P w = .ok A3.toArray w:=A;obtain⟨v,ac,Y,bu,a8,D,aI,kx,E⟩:=ub A3 aR;refine⟨v,ac,Y,bu,_,a8,D,aI,kx,.inl ?_⟩;rcases y6 with y6|⟨t1,d,Z,q2,bh⟩
   ·cases ea with
    |none=>simp[Builtin.append_,V,run_underlying d5,ko N,y6,rX,dv,A]at E ⊢;grind
    |some x=>simp[Builtin.append_,V,run_underlying d5,ko N,y6,rX,dv,A]at E ⊢;simp[E]
   ·cases ea with
    |none=>simp[Builtin.append_,V,run_underlying d5,ko N,Z,run_underlying q2,rX,dv,A]at E ⊢;grind
    |some x=>simp[Builtin.append_,V,run_underlying d5,ko N,Z,run_underlying q2,rX,dv,A]at E ⊢;simp[E]
 ·have Mc:¬(len+n<=bL):=J
  have LG:¬(9223372036854775807<(len:Int)+(n:Int)):=J
  have LH:¬(281474976710656<Builtin.nextslicecap (len+n) bL*i.bytes):=by have:=sA (nextslicecap_le R1 cb) rW;omega
  have LI:(Question.appendCap (len+n) bL e).forced=false:=rfl;generalize p3:(Question.appendCap (len+n) bL e).cut (w.tape w.drawn (Question.appendCap (len+n) bL e))=ado;have y5:len+n<=ado:=by rw[<-p3];exact NW _ _
  obtain⟨aCc,aq,afx⟩:=TH (w.drawn+1) ado J y5;rw[<-afw]at aq;rcases qO with⟨t1,q,k,Z,q2,rfl,xl,rfl⟩|⟨y6,rX,pe⟩
  ·obtain⟨v,ac,Y,bu,D,aI,kx⟩:=afx _ (C3 (x6 oE aj) n);refine⟨v,ac,Y,bu,_,_,D,aI,kx,.inl ?_⟩;have A4:¬(281474976710656<(n:Int)*(i.bytes:Int)):=J
   have q3:IntKind.i64.wrap (n:Int)=(n:Int):=wrap_small J
   by_cases Bo:n*s=0
   ·have w7:gO n z.cells.toList=[]:=ab
    simp[Builtin.append_,V,run_underlying d5,ko N,Z,run_underlying q2,Mc,LG,M,DV,q3,run_typeInfo ag,A4,Bo,LH,LI,p3,aq,I,newRow,Ad,Ab,w7];rfl
   ·simp[Builtin.append_,V,run_underlying d5,ko N,Z,run_underlying q2,Mc,LG,M,DV,q3,run_typeInfo ag,A4,Bo,LH,LI,p3,aq,I,newRow,Ad,Ab];rfl
  ·obtain⟨A3,aR,A⟩:=pe (w.drawn+1);rw[<-afw]at A;obtain⟨v,ac,Y,bu,D,aI,kx⟩:=afx A3 aR;refine⟨v,ac,Y,bu,_,_,D,aI,kx,.inl ?_⟩;rcases y6 with y6|⟨t1,d,Z,q2,bh⟩
   ·simp[Builtin.append_,V,run_underlying d5,ko N,y6,rX,Mc,LG,run_typeInfo ag,LH,LI,p3,aq,A,I,newRow,Ad,Ab];rfl
   ·simp[Builtin.append_,V,run_underlying d5,ko N,Z,run_underlying q2,rX,Mc,LG,run_typeInfo ag,LH,LI,p3,aq,A,I,newRow,Ad,Ab];rfl
end
section
variable {P:Program} {aj:ce} {B:Nat}
def yv(B:Nat)(aj:ce)(h:ae)(w:World)(U:Nat)(K:bN)(dst:aw Tmp)(a:Act)(next:Act->World->Prop):Prop :=
 ∀v ac Y bu c a8,K v ac Y->bF bu v c->cx B aj (u h) w U Y bu (u ac) a8->next (a.put dst c) a8
theorem yv.fin{h:ae}{w:World}{U:Nat}{K:bN}{a:Act}{next:Act->World->Prop}(D:yv B aj h w U K dst a next){e:Ending}(E:Fin B aj h w U K e a8):∃c,e = .returned c/\next (a.put dst c) a8:=by obtain⟨v,ac,Y,bu,c,rfl,I,A,M⟩:=E;exact⟨c,rfl,D v ac Y bu c a8 I A M⟩
theorem SE{r:R fr}{K:bN}(h:dG (dO r) K):∃x,r = .ok x/\dG x K:=by
 cases r with
 |ok x=>exact⟨x,rfl,h⟩
 |no w=>exact h.elim
theorem f9{az:Type}{r:R az}{k:az->Prop}(h:af r k):∃v,r = .ok v/\k v:=by
 cases r with
 |ok x=>exact⟨x,rfl,h⟩
 |no w=>exact h.elim
section
variable {h:ae} {w:World} {U:Nat} {K:bN} {o:Oper} {a:Act} {n:Nat} {r:aw Nat} {next:Act->World->Prop} {Q:Exit->Act->World->Prop}
theorem iV.upon{x:fr}{s:Sem Next}(D:iV P B aj (u h) w U x s)(E:dG x K)(I:yv B aj h w U K o.dst a next):o.uponIn (nv r) n P a next Q (s.run P w):=by
 obtain⟨v,ac,Y,bu,c,a8,rfl,N,M,A|⟨A,rfl⟩⟩:=D
 ·rw[A];exact I v ac Y bu c a8 E N M
 ·rw[A];exact I v ac Y bu undef a8 E N M
theorem X0(M:ed B aj (u h) w)(N:kg aj U)(D:lg P f aF h U K)(A:dt aj aF cs)(E:yv B aj h w U K o.dst a next):o.uponIn (nv r) n P a next Q (.ok (.enter f ⟨cs⟩) w):=by refine⟨λh=>by simp[nv,Fence.wide]at h,?_⟩;rw[Y2];exact(D.2 B aj w _ M N A (n-1)).mono λe a8 I=>by obtain⟨c,rfl,h⟩:=E.fin I;exact h
theorem WH(h:CU P f)(cs:Array X)(w:World):(callFunc f cs).run P w = .ok (.enter f cs) w:=by
 obtain⟨D,I,N,M⟩:=h;have E:D.body≠none:=ab
 have A:D.name ≠ "runtime.NumGoroutine" := by grind
 simp[callFunc,I,A,E]
theorem Xe(bc:ed B aj (u h) w)(bK:kg aj U){f oU:X}(A:eQ P false (hU h U aF f) K)(I:dt aj aF cs)(aI:bF aj f oU)(bw:yv B aj h w U K o.dst a next):
  o.uponIn (nv r) n P a next Q ((do let d <-Deferred.ofValue oU ⟨cs⟩;invoke d.target d.args:Sem Next).run P w):=by
 unfold hU at A
 split at A
 ·rename_i fn x y
  split at A
  ·cases aI with
   |func f bd ck =>
    rename_i V fK nV qt E
    have A:lg P V _ h U K:=A;have D:((do let d <-Deferred.ofValue (.func (.func V) ⟨nV⟩ ⟨E⟩) ⟨cs⟩;invoke d.target d.args:Sem Next)).run P w = .ok (.enter V ⟨nV++(cs++E)⟩) w:=by simp[Deferred.ofValue,invoke,WH A.1]
    rw[D];exact X0 bc bK A (bd.append (I.append ck)) bw
  ·cases aI with
   |yield bo =>
    rename_i l p
    have A:t7 P l _ h U K:=A;obtain⟨M,h1,ao,aT⟩:=A B aj w cs p bc bK (by simpa[ks]using I) bo;have Z:=rx (P:=P) h1 ab;have D:((do let d <-Deferred.ofValue (.func (.yield p.ca) #[] #[]) ⟨cs⟩;invoke d.target d.args:Sem Next)).run P w = .ok (.round p.ca M.fn ((M.params.zip ⟨cs⟩).foldl (λN (t,a)=>N.setIfInBounds t a) M.tmps) M.assign M.body) w:=by simp[Deferred.ofValue,invoke,Instr.yield,Instr.getLoop,Z,ao]
    rw[D];refine⟨λh=>by simp[nv,Fence.wide]at h,?_⟩;rw[amW];exact(aT (n-1)).mono λe a8 b0=>by obtain⟨c,rfl,h⟩:=bw.fin b0;exact h
  ·exact A.elim
 ·exact A.elim
theorem aiC{m:String}{A:FuncId × al}(h:lp P t m=some A):∃i x,P.info? t=some i/\i.methods.find? (λx=>x.name == m)=some x/\x.path=#[]/\x.func=some A:=by
 unfold lp at h
 grind
theorem aqT(ai:Array TypeId)(t:TypeId)(a:Addr)(x y:String):Builtin.ssaWrapNilChk_ ai t #[.pointer (some a),strVal x,strVal y]=pure (.pointer (some a)):=rfl
theorem akH(bc:ed B aj (u h) w){I:al}{D:X}(A:rK P h t I y = .ok v)(V:bF aj y D):
  ∃c,(∀E:String,(receiverAt t (.val D) I (some E)).run P w = .ok c w)/\bF aj v c:=by
 unfold rK at A
 split at A
 ·rename_i e M
  cases I with
  |true=>cases A;exact⟨D,λE=>by simp[receiverAt,run_underlying M,Place.get],V⟩
  |false =>
   obtain⟨bI,N,A⟩:=R.k9 (show R.of "type" (oq P e) (λbI=>iz bI h y) = .ok v from A);obtain⟨ea,rfl,c,a9,bY⟩:=PU bc N A V;refine⟨c,λE=>?_,bY⟩;simp[receiverAt,run_underlying M,Place.get,aqT,asAddr,a9]
 ·rename_i d Z M
  cases I with
  |true=>cases A
  |false =>
   cases A;refine⟨D,λE=>?_,V⟩;cases d <;> first|(exact(Z _ rfl).elim)|simp[receiverAt,run_underlying M,Place.get]
 ·cases A
theorem aiZ(bc:ed B aj (u h) w)(bK:kg aj U){m:String}(A:eQ P false (jm P h U aF m v) K)(y2:dt aj aF cs)(aI:bF aj v qr)(bw:yv B aj h w U K o.dst a next):
  o.uponIn (nv r) n P a next Q ((do let d <-(pure { target:=.fn (.method m) #[],args:=#[qr]++⟨cs⟩ }:Sem Deferred);invoke d.target d.args:Sem Next).run P w):=by
 unfold jm at A
 split at A
 ·rename_i t y
  cases hm:lp P t m with
  |none=>rw[hm]at A;exact A.elim
  |some M =>
   rw[hm]at A;obtain⟨i,x,ag,bd,V,hfu⟩:=aiC hm;have A:eQ P false (vy (rK P h t M.2 y) (λy=>.call M.1 (y::aF) h U)) K:=A;cases D:rK P h t M.2 y with
   |no s=>rw[D]at A;exact A.elim
   |ok aDC =>
    rw[D]at A;have A:lg P M.1 (aDC::aF) h U K:=A;cases aI with
    |iface _ ck =>
     rename_i nV
     obtain⟨c,N,Z⟩:=akH bc D ck;have I:((do let d <-(pure { target:=.fn (.method m) #[],args:=#[Value.iface t nV]++⟨cs⟩ }:Sem Deferred);invoke d.target d.args:Sem Next)).run P w = .ok (.enter M.1 ⟨c::cs⟩) w:=by
      have E:∀k,(method (k+1) t nV m).run P w = .ok (M.1,c) w:=λk=>by unfold method;obtain⟨f,xK⟩:=M;simp[run_typeInfo ag,bd,V,hfu,follow,N]
      have bh:P.types.size+Made.depth=(P.types.size+99)+1:=rfl;simp[invoke,callMethod,WH A.1,bh,E]
     rw[I];exact X0 bc bK A (.cons Z y2) bw
 ·exact A.elim
theorem PV{k:X->X->R fr}{r:fr}(h:Hq l k = .ok r):∃x y,l=[x,y]/\k x y = .ok r:=by
 unfold Hq at h
 grind
theorem dt.two(h:dt aj [x,y] cs):∃dh ii,cs=[dh,ii]/\bF aj x dh/\bF aj y ii:=by
 cases h with
 |cons h t=>cases t with
  |cons A t=>cases t;exact⟨_,_,rfl,h,A⟩
theorem WR(bc:ed B aj (u h) w)(bK:kg aj U){b:Builtin}{r:fr}(A:nE P b ai.toList h U aF = .ok r)(aI:dt aj aF cs)(N:TypeId)(I:Array al):
  iV P B aj (u h) w U r (invoke (.builtin b ai N I) ⟨cs⟩):=by
 unfold nE at A
 split at A
 ·obtain⟨t,E,A⟩:=R.k9 A;obtain⟨e,b0,A⟩:=R.k9 A;obtain⟨s,ar,A⟩:=R.k9 A;obtain⟨xN,c0,A⟩:=R.k9 A;obtain⟨a1,A⟩:=jL A;simp only[eo]at a1;obtain⟨⟨Ee,oG⟩,D⟩:=a1;rw[i4]at E;have E:ai[0]? = some t:=ab
  obtain⟨i,z,ag,rU,oE,rfl⟩:=Ac c0;have V:z.cells.toList.length=s:=gr Ee;obtain⟨x,y,rfl,ht⟩:=PV A;clear A;obtain⟨dh,ii,rfl,M,Z⟩:=aI.two;have A:Gk z.cells.toList s h U x y = .ok r:=ht;unfold Gk at A
  split at A
  ·obtain⟨q,n,rfl,A⟩:=C2 A;obtain⟨bw,A⟩:=jL A;cases Z;unfold rJ at D
   split at D
   ·rename_i t1 TI
    split at D
    ·rename_i dl q2
     rw[i4]at TI;exact Xd bc bK.here M (by rw[FE,V]) ag rU V ar (WQ ag oG) oE A E (Fz b0) N (.inl ⟨t1,dl,q,ab,q2,rfl,lX bw,rfl⟩)
    ·cases D
   ·cases D
  ·cases A
 ·obtain⟨t,E,A⟩:=R.k9 A;rw[i4]at E;obtain⟨x,y,rfl,A⟩:=PV A;obtain⟨dh,ii,rfl,M,Z⟩:=aI.two;exact aiY bc U ab A M Z N
 ·obtain⟨t,E,A⟩:=R.k9 A;obtain⟨hty,A⟩:=jL A;rw[i4]at E;unfold ag4 at A
  split at A
  ·match aI with
   | .cons  M .nil=>exact ajv bc U ab ab A M N
  ·cases A
 ·obtain⟨t,E,A⟩:=R.k9 A;obtain⟨s,ar,A⟩:=R.k9 A;rw[i4]at E;obtain⟨x,y,rfl,A⟩:=PV A;obtain⟨dh,ii,rfl,M,Z⟩:=aI.two;exact akG bc U ab ar A M Z N
 ·cases A
theorem aqU(bc:ed B aj (u h) w)(bK:kg aj U){s:Nat}{z:aa X}(cq:ai[0]? = some t)(b0:rF P t=some e)(ar:jO P e=some s)(c0:oj P e=some z)(a1:(Nat.beq (jo z) s&&yq P e&&(!rJ P (g3 ai.toList 1)&&adm P (g3 ai.toList 1)))=true){r:fr}(M:dM s h U x y = .ok r)(bd:bF aj x dh)(ck:bF aj y ii)(pA:TypeId):
  iV P B aj (u h) w U r (do pure (.value (<-Builtin.append_ ai pA #[dh,ii]))):=by
 simp only[eo,NR]at a1;obtain⟨⟨E,I⟩,A,D⟩:=a1;have d5:=Fz b0;obtain⟨i,z,ag,Z,oE,rfl⟩:=Ac c0;have E:z.cells.toList.length=s:=gr E;have I:=WQ ag I;unfold dM at M
 split at M
 ·split at M
  ·obtain⟨new,hk,V,N⟩:=Wv  bc ck J M;obtain⟨b6,c'',rfl,_⟩:=ck.yb;refine Xd bc bK.here bd V ag Z E ar I oE hk cq d5 pA (.inr ⟨?_,λ_=>rfl,N⟩);unfold rJ at A;rw[i4]at A D;have aY:ai.toList[1]? = ai[1]?:=by simp
   rw[aY]at A D;cases TI:ai[1]? with
   |none=>grind
   |some t1 =>
    rw[TI]at A D;obtain⟨d,bh⟩:=nA.1 D
    grind
  ·cases M
 ·cases M
theorem Ai{o:Oper}{k:nu}(A:ph P o.op=some k):∀c,o.op≠.defer c:=λc h=>by rw[h]at A;cases A
theorem Zc{aC:Act}(bc:ed B aj (u h) w)(bK:kg aj U)(o:Oper)(N:Loc aj ak a.tmps o.op.operands){e:vV}(D:ph P o.op=some (.fy e))(A:pz P false e ak h U K)(bw:yv B aj h w U K o.dst aC next):
  o.uponIn (nv r) n P aC next Q ((o.semAt r a.eval).run P w):=by
 rw[Oper.semAt_eq r a.eval o (Ai D)];have ex:∀{op:Op},o.op=op->execOp a.eval o=execOp a.eval { o with op:=op }:=λh=>by rw[<-h]
 cases t9:o.op <;> rw[t9]at D N <;> rw[ex t9] <;> (try simp only[ph,jI,mq,yg,CB,reduceCtorEq,and_false,JH]at D)
 case store t x y =>
  obtain⟨m,hm,dh,V,ii,ao,aU⟩:=D;cases aU;obtain⟨B2,I,A⟩:=f9 A;obtain⟨sm,g2,A⟩:=f9 A;obtain⟨ac,dp,A⟩:=f9 A;obtain⟨a8,M,kx⟩:=aqR (P:=P) bc U hm dp (N.ek (by simp[Op.operands]) V I) (N.ek (by simp[Op.operands]) ao g2);simp only[execOp,Sem.run_bind,M,Result.andThen_ok,Sem.run_pure];exact bw j1 ac U aj undef a8 A tA kx
 case mapUpdate t m k x =>
  split at D
  ·rename_i dT EU d5
   simp only[jI,mq]at D;obtain⟨oQ,V,cI,ao,dh,aT,aU⟩:=D;cases aU;obtain⟨aCO,I,A⟩:=f9 A;obtain⟨aDB,g2,A⟩:=f9 A;obtain⟨B2,dp,A⟩:=f9 A;obtain⟨ac,dZ,A⟩:=f9 A;obtain⟨a8,M,hm⟩:=am6 bc U d5 dZ (N.ek (by simp[Op.operands]) V I) (N.ek (by simp[Op.operands]) ao g2) (N.ek (by simp[Op.operands]) aT dp);simp only[execOp,Sem.run_bind,M,Result.andThen_ok,Sem.run_pure];exact bw j1 ac U aj undef a8 A tA hm
  ·cases D
 case range t x =>
  obtain⟨cq,dh,V,aU⟩:=D;cases aU;obtain⟨B2,I,A⟩:=f9 A;exact(aju bc bK.here cq (N.ek (by simp[Op.operands]) V I) A).upon A bw
 case next it isS =>
  cases isS with
  |true=>cases D
  |false =>
   obtain⟨dh,V,aU⟩:=mq.1 D;cases aU;obtain⟨B2,I,A⟩:=f9 A;obtain⟨dX,ac,bu,bL,a8,h8,aI,hm,M⟩:=aqS (P:=P) bc U (N.ek (by simp[Op.operands]) V I) A o.type;simp only[execOp,Sem.run_bind,M,Result.andThen_ok,Sem.run_pure];exact bw dX ac U bu bL a8 h8 aI hm
 case makeMap t r=>cases r <;> cases D
 case call c =>
  obtain⟨i9,V,D⟩:=D;have bd:∀x∈c.args.toList,x∈(Op.call c).operands:=λx bd=>by simp only[Op.operands,Call.operands];grind
  have A1:c.args.map a.eval=⟨c.args.toList.map a.eval⟩:=ab
  unfold execOp
  split at D
  ·rename_i f E
   obtain⟨oU,ao,aU⟩:=mq.1 D;simp only[CB,nu.fy.injEq]at aU;subst aU;have Bp:f∈(Op.call c).operands:=by simp only[Op.operands,Call.operands,E];simp
   simp only[resolve,E,A1];unfold aa4 at A
   split at A
   ·obtain⟨aF,I,A⟩:=f9 A;refine Xe bc bK (f:=.func (.func _) ⟨[]⟩ ⟨[]⟩) ?_ (N.vE bd V I) (N.ek Bp ao rfl) bw;have A:lg P _ aF h U K:=A;show lg P _ (ks [] (ks aF [])) h U K;simpa[ks]using A
   ·obtain⟨ki,g2,A⟩:=f9 A;obtain⟨aF,I,A⟩:=f9 A;exact Xe bc bK A (N.vE bd V I) (N.ek Bp ao g2) bw
  ·rename_i f m E
   obtain⟨oU,ao,aU⟩:=mq.1 D;simp only[CB,nu.fy.injEq]at aU;subst aU;have Bp:f∈(Op.call c).operands:=by simp only[Op.operands,Call.operands,E];simp
   obtain⟨aF,I,A⟩:=f9 A;obtain⟨ki,g2,A⟩:=f9 A;simp only[resolve,E,A1];exact aiZ bc bK A (N.vE bd V I) (N.ek Bp ao g2) bw
  ·rename_i b E
   obtain⟨Z,nh⟩:=NZ (bu:=a.eval) E o.type;simp only[nh,A1];unfold D9 at D
   split at D
   ·split at D
    ·obtain⟨t,_,D⟩:=jI.1 D
     split at D <;> cases D
    ·cases D
   ·split at D <;> cases D
   ·split at D <;> cases D
   ·split at D
    ·simp at D
    ·cases D
   ·cases A2:rJ P (g3 c.argTypes.toList 1)with
    |true =>
     rw[A2]at D;cases D;obtain⟨aF,I,A⟩:=f9 A;obtain⟨x,aW,A⟩:=SE A;exact(WR bc bK aW (N.vE bd V I) o.type Z).upon A bw
    |false =>
    rw[A2]at D;simp only[mX,jI,yg]at D;obtain⟨t,cq,EU,b0,s,kP,z,c0,axl,D⟩:=D
    split at D
    ·cases D;obtain⟨B2,I,A⟩:=f9 A;obtain⟨sm,g2,A⟩:=f9 A;obtain⟨x,aW,A⟩:=SE A;obtain⟨iD,h7,eH,hu,aK⟩:=N.A0 bd V I g2;rw[aK];rw[i4]at cq;exact(aqU bc bK (ai:=c.argTypes) ab b0 kP c0 (by rw[A2];exact axl) aW eH hu o.type).upon A bw
    ·cases D
   ·cases D;obtain⟨aF,I,A⟩:=f9 A;obtain⟨x,aW,A⟩:=SE A;exact(WR bc bK aW (N.vE bd V I) o.type Z).upon A bw
 all_goals (split at D <;> simp[jI]at D)
end
end
def auK(Q:Exit->Act->World->Prop):Exit->Act->World->Prop
 | .goto _,_,_=>False
 |e,a,w=>Q e a w
theorem ajx{n:Nat}{P:Program}{Q:Exit->Act->World->Prop}{a:Act}{w:World}{c:Code}(h:c.wpIn eA n P (auK Q) a w):(Code.scope c).wpIn eA n P Q a w:=by
 intro b k cs hro N Z;have D:step P (lone (b.atR a (.code (.scope c)::k)) cs w) = .next (lone (b.atR a (.code c::.inScope c::k)) cs w):=step_lone_go (by simp[stepG,stepG.exec,Frame.atR]);have kX:∀a w,step P (lone (b.atR a (.inScope c::k)) cs w) = .next (lone (b.atR a k) cs w):=λa w=>step_lone_go (by simp[stepG,stepG.exec,Frame.atR]);have E:(lone (b.atR a (.code (.scope c)::k)) cs w).fenced P eA:=fenced_calm N Z rfl;obtain⟨e,M,ox,I,A⟩:=h b (.inScope c::k) cs hro N Z;cases e with
 |normal=>exact⟨.normal,M,ox,I,.head E D (StepsIn.trans A (.one (fenced_calm N Z rfl) ab))⟩
 |exit id =>
  have bd:exitTo id (.inScope c::k)=exitTo id k:=by simp[exitTo]
  exact⟨.exit id,M,ox,I,λdm hk=>.head E D (A.1 dm ab),
   λV hk=>let ⟨azw,h1,ao⟩:=A.2 V ab;⟨azw,h1,.head E D ao⟩⟩
 |goto l=>exact I.elim
 |ret=>exact⟨_,M,ox,I,.of_steps (.one E D) A⟩
 |panic zB=>exact⟨_,M,ox,I,.of_steps (.one E D) A⟩
 |outgrown=>exact⟨_,M,ox,I,.of_steps (.one E D) A⟩
theorem ajy{n:Nat}{P:Program}{Q:Exit->Act->World->Prop}{c:Code}(eF:Nat->Act->World->Prop)(round:∀m a w,eF m a w->c.wpIn eA n P (Exit.then (λM a8=>∃bD,bD<m/\eF bD M a8) Q) a w){a:Act}{w:World}(azx:eF m a w):(Code.loop c).wpIn eA n P Q a w:=by
 intro b k cs V N Z;have key:∀j a w,eF j a w ->
   ∃e M a8,Q e M a8/\ArrivesIn (Machine.fenced P eA) P (lone (b.atR a (.code c::.inLoop c::k)) cs w) b k cs e M a8:=by
  intro j
  induction j using Nat.strongRecOn with
  |_ j eS =>
   intro a w sn;obtain⟨e,I,ox,D,A⟩:=round j a w sn b (.inLoop c::k) cs V N Z;cases e with
   |normal =>
    obtain⟨bD,cb,axm⟩:=D;obtain⟨azy,azz,azA,axn,E⟩:=eS bD cb I ox axm;exact⟨azy,azz,azA,axn,.of_steps (StepsIn.trans A (.one (fenced_calm N Z rfl) stepR_inLoop)) E⟩
   |exit id=>exact⟨_,I,ox,D,.pass  rfl ab A⟩
   |goto l=>exact⟨_,I,ox,D,.pass  rfl ab A⟩
   |ret=>exact⟨_,I,ox,D,.pass  rfl ab A⟩
   |panic zB=>exact⟨_,I,ox,D,.pass  rfl ab A⟩
   |outgrown=>exact⟨_,I,ox,D,.pass  rfl ab A⟩
 obtain⟨e,M,a8,D,A⟩:=key _ a w azx;exact⟨e,M,a8,D,.of_steps (.one (fenced_calm N Z rfl) stepR_loop) A⟩
section
variable {P:Program} {aj:ce} {B:Nat}
theorem Act.O6(a:Act)(dst:aw Tmp)(v:X):(a.put dst v).tmps.size=a.tmps.size:=by
 cases dst <;> simp[Act.put]
theorem Act.WS(a:Act)(dst:aw Tmp)(v:X):(a.put dst v).defers=a.defers:=by
 cases dst <;> rfl
theorem FO(a:Nat)(o:aw X)(ak:ch)(n:Nat):ho ((a,o)::ak) n=if a=n then some o else ho ak n:=by
 show(bif Nat.beq a n then some o else ho ak n)=_
 by_cases e:a=n
 ·subst e;simp
 ·have:Nat.beq a n=false:=by
   cases A:Nat.beq a n with
   |false=>rfl
   |true=>exact absurd (gr A) e
  simp[this,e]
theorem js.put{ak:ch}{a:Act}(h:js aj ak a.tmps){dst:aw Tmp}{v:aw X}{c:X}(N:bF aj (rM v) c)(M:∀d,dst=some d->d<a.tmps.size):js aj (ez ak dst v) (a.put dst c).tmps:=by
 cases dst with
 |none=>exact h
 |some t =>
  intro d A D;have I:=M t rfl;show bF aj (rM A) ((a.tmps.setIfInBounds t c).getD d undef);have D:ho ((t,v)::ak) d=some A:=D;rw[FO]at D
  by_cases e:t=d
  ·subst e;simp at D;subst D;simp[I];exact N
  ·rw[if_neg e]at D;have E:(a.tmps.setIfInBounds t c).getD d undef=a.tmps.getD d undef:=by simp[qC,zS,e]
   rw[E];exact h d A D
def tT(ak mE:ch):Prop:=∀d,ho mE d=ho ak d
theorem js.same{A:ch}{t:Array X}(h:js aj ak t)(s:tT ak A):js aj A t:=λd v e=>h d v (by rw[<-s d];exact e)
theorem tT.lit(h:ho ak d=some (some v)):tT ak ((d,some v)::ak):=λk=>by
 rw[FO]
 by_cases e:d=k
 ·subst e;rw[if_pos rfl,h]
 ·rw[if_neg e]
theorem tJ{a b:Prop}(h:br v a b):(v = .bool true/\a)\/(v = .bool false/\b):=by
 unfold br at h
 split at h
 ·split at h
  ·exact .inl ⟨rfl,h⟩
  ·exact .inr ⟨rfl,h⟩
 ·exact h.elim
noncomputable def vi (g:aw (Nat × al)) (ak:ch):al:=match g with
 |none=>true
 |some (d,w)=>match ho ak d with
  |some (some (.bool b))=>b == w
  |_=>false
def Md(g:aw (Nat × al))(ak:ch):Prop:=∀d w,g=some (d,w)->ho ak d≠none
theorem afy{I D:ch->Prop}(h:kD g ak I D):Md g ak/\∃M,tT ak M/\((vi g ak=true/\I M)\/(vi g ak=false/\D M)):=by
 cases g with
 |none=>exact⟨λd w e=>(by cases e),ak,λ_=>rfl,.inl ⟨rfl,h⟩⟩
 |some g =>
  obtain⟨d,A⟩:=g;have h:(match ho ak d with
   |some (some v)=>br v ((match A with|true=>I|false=>D) ((d,some (.bool true))::ak)) ((match A with|true=>D|false=>I) ((d,some (.bool false))::ak))
   |some none=>D ak
   |none=>False):=h
  unfold vi;cases E:ho ak d with
  |none=>rw[E]at h;exact h.elim
  |some v =>
   refine⟨λN w e=>by cases e;simp[E],?_⟩;rw[E]at h;cases v with
   |none=>exact⟨ak,λ_=>rfl,.inr ⟨by simp[E],h⟩⟩
   |some v =>
    rcases tJ h with⟨rfl,h⟩|⟨rfl,h⟩
    ·refine⟨_,tT.lit E,?_⟩;cases A with
     |true=>exact .inl ⟨by simp[E],h⟩
     |false=>exact .inr ⟨by simp[E],h⟩
    ·refine⟨_,tT.lit E,?_⟩;cases A with
     |true=>exact .inr ⟨by simp[E],h⟩
     |false=>exact .inl ⟨by simp[E],h⟩
theorem X1{a4:Array Oper}{tmps:Array X}{o:Oper}(E:zA a4.toList o.guard=some g)(hk:Md g ak)(eI:∀d w v,g=some (d,w)->ho ak d=some v->bF aj (rM v) (tmps.getD d undef)):
  Region.wanted o (yielded a4 tmps)=vi g ak:=by
 unfold zA at E
 split at E
 ·rename_i N
  cases E;unfold Region.wanted;rw[N];rfl
 ·rename_i j A N
  simp only[jI,mq]at E;obtain⟨Z,V,d,bh,e⟩:=E;cases e;rw[i4]at V;have bO:Region.wanted o (yielded a4 tmps)=(yielded a4 tmps j == some A):=by unfold Region.wanted;rw[N]
  have ck:yielded a4 tmps j=(match tmps.getD d undef with | .bool b=>some b|_=>none):=by
   unfold yielded;have M:a4[j]? = some Z:=by simpa using V
   simp only[M,Option.bind_some,bh];cases bd:tmps[d]? with
   |none =>
    have:tmps.getD d undef=undef:=ab
    rw[this];rfl
   |some x =>
    have:tmps.getD d undef=x:=by simp[qC,bd]
    rw[this];cases x <;> rfl
  rw[bO,ck];unfold vi;cases I:ho ak d with
  |none=>exact absurd I (hk d A rfl)
  |some v =>
   have D:=eI d A v rfl I;cases v with
   |none =>
    generalize tmps.getD d undef=c at D;have D:bF aj j1 c:=D;cases D with|tuple h=>cases h;simp only[I];rfl
   |some v =>
    simp only[I];generalize tmps.getD d undef=c at D;have D:bF aj v c:=D;cases D <;> first|rfl|(rename_i b;cases b <;> cases A <;> rfl)
def pV(L B:Nat)(aj:ce)(H:fq)(w:World):aa Deferred->Prop
 | []=>True
 |d::bR=>(∃r,L<=r/\d.target = .collected r/\w.heap[r]? = some (.deferred (some []))/\¬w3 B aj H r/\∀IT∈bR,IT.target≠.collected r)/\pV L B aj H w bR
theorem pV.h4{L:Nat}{H hK:fq}{w a8:World}{ap ag:Nat}{bu:ce}(s:cx B aj H w ap ag bu hK a8):∀{A:aa Deferred},pV L B aj H w A->pV L B bu hK a8 A
 | [],_=>trivial
 |d::A,⟨⟨r,N,I,ao,E,Z⟩,V⟩=>by
  have D:r<w.heap.size:=ab
  exact⟨⟨r,N,I,by rw[s.frame r D E];omega,λM=>(s.own r M).elim E J,Z⟩,pV.h4 s V⟩
inductive aCQ where
 |normal
 |exit (id:Nat)
 |ret
def azB:aCQ->Exit
 | .normal=>.normal
 | .exit i=>.exit i
 | .ret=>.ret
structure oV (L B:Nat) (aj:ce) (ak:ch) (h:ae) (U:Nat) (a:Act) (w:World):Prop where
 rel:ed B aj (u h) w
 eu:kg aj U
 iR:js aj ak a.tmps
 marks:pV L B aj (u h) w a.defers
 low:L<=w.heap.size
abbrev Me:=aCQ->ch->ae->Nat->Prop
def vd(L B:Nat)(aj:ce)(h:ae)(w:World)(U tg:Nat)(K:Me)(Q:Exit->Act->World->Prop):Prop :=
 ∀x mE ac Y bu ea a8,K x mE ac Y->cx B aj (u h) w U Y bu (u ac) a8->oV L B bu mE ac Y ea a8->ea.tmps.size=tg->Q (azB x) ea a8
theorem oV.put{L:Nat}{ak:ch}{h ac:ae}{U Y:Nat}{a:Act}{w a8:World}{bu:ce}(s:oV L B aj ak h U a w)(A:cx B aj (u h) w U Y bu (u ac) a8){dst:aw Tmp}{v:aw X}{c:X}(E:bF bu (rM v) c)(D:∀d,dst=some d->d<a.tmps.size):
  oV L B bu (ez ak dst v) ac Y (a.put dst c) a8 :=
 ⟨A.rel,s.eu.after A,js.put (s.iR.mono (s.eu.sub A)) E D,by rw[Act.WS];exact s.marks.h4 A,iv s.low A.size⟩
theorem vd.after{h:ae}{U:Nat}{w:World}{K:Me}{Q:Exit->Act->World->Prop}(a6:vd L B aj h w U tg K Q)(hm:cx B aj (u h) w U Y bu (u ac) a8):vd L B bu ac a8 Y tg K Q :=
 λx A Z D N E I hk V ar M=>a6 x A Z D N E I hk (hm.trans V) ar M
theorem vd.mono{h:ae}{U:Nat}{w:World}{K kC:Me}{Q:Exit->Act->World->Prop}(E:vd L B aj h w U tg K Q)(A:∀x ak h U,kC x ak h U->K x ak h U):vd L B aj h w U tg kC Q :=
 λx ak h U aj a w D=>E x ak h U aj a w (A _ _ _ _ D)
theorem auL{s:al}{d:aw Nat}{e:IQ}{h:ae}{U:Nat}{k:ch->ae->Nat->Prop}(A:nU P s d (.fx e) ak h U k):∃v,p2 P ak e = .ok v/\k (ez ak d (some v)) h U:=by
 have g:af (p2 P ak e) (λv=>k (ez ak d (some v)) h U):=by
  cases e <;> first|exact A|skip
  obtain⟨c,E,A⟩:=f9 A;obtain⟨a,I,A⟩:=f9 A;obtain⟨b,D,A⟩:=f9 A;simp only[p2,E,I,D,R.bind];rcases tJ A with⟨rfl,A⟩|⟨rfl,A⟩ <;> exact A
 exact f9 g
theorem aqV{n:Nat}{r:aw Nat}{Q:Exit->Act->World->Prop}{h:ae}{U:Nat}{a:Act}{w:World}(D:oV L B aj ak h U a w){o:Oper}{k:nu}(I:ph P o.op=some k){K:ch->ae->Nat->Prop}(E:nU P false o.dst k ak h U K){next:Act->World->Prop}(N:yv B aj h w U (λv h U=>K (ez ak o.dst (some v)) h U) o.dst a next):o.uponIn (nv r) n P a next Q ((o.semAt r a.eval).run P w):=by
 have V:=D.iR.loc o.op.operands;cases k with
 |fy e =>
  have E:pz P false e ak h U λv h U=>K (ez ak o.dst (some v)) h U:=E;exact Zc D.rel D.eu o V I E N
 |fx e =>
  obtain⟨v,M,E⟩:=auL E;rw[Oper.semAt_eq r a.eval o (Ai I)];obtain⟨c,aI,A⟩:=aa8 o V I M;rw[A w];exact N v h U aj c w E aI (cx.refl U D.rel)
 |red e =>
  obtain⟨v,M,E⟩:=f9 E;rw[Oper.semAt_eq r a.eval o (Ai I)];obtain⟨c,aI,A⟩:=abb D.rel o V I M;rw[A];exact N v h U aj c w E aI (cx.refl U D.rel)
 |iA e =>
  obtain⟨c5,M,E⟩:=f9 E;rw[Oper.semAt_eq r a.eval o (Ai I)];obtain⟨dw,p,a8,HO,Z,hm,A⟩:=aa9 o V I M w;obtain⟨h1,ao⟩:=L8.step D.rel D.eu.here HO Z hm;rw[A];rw[<-u1]at h1;exact N _ _ _ _ _ a8 E ao h1
theorem abc{n:Nat}{o:Oper}{A:aa Oper}(h:wM n A=true)(E:o∈A):∀d,o.dst=some d->d<n:=λd D=>by have:=CC.1 h o E;rw[D]at this;simpa[wq]using this
theorem adp{L:Nat}{a4:Array Oper}{n:Nat}{r:aw Nat}{Q:Exit->Act->World->Prop}{K:ch->ae->Nat->Prop}:
  ∀(D:aa Oper) (is:aa ma) (k:Nat),a4.toList.drop k=D->Lz P a4.toList D=some is->∀{aj:ce} {ak:ch} {h:ae} {U:Nat} {a:Act} {w:World},qs P false is ak h U K->oV L B aj ak h U a w ->
   wM a.tmps.size D=true->vd L B aj h w U a.tmps.size (λx ak h U=>x = .normal/\K ak h U) Q->wpOpsIn (nv r) n P a4 Q (List.range' k D.length) a w
 | [],is,k,hk,a1,aj,ak,h,U,a,w,M,A,_,a6=>by cases a1;exact a6 .normal ak h U aj a w ⟨rfl,M⟩ (cx.refl U A.rel) A rfl
 |o::D,is,k,hk,a1,aj,ak,h,U,a,w,M,A,I,a6=>by
  have hko:a4[k]? = some o:=by
   have:(a4.toList.drop k)[0]? = some o:=ab
   grind
  have ua:a4.toList.drop (k+1)=D:=by have:=congrArg (List.drop 1) hk;simpa[x3]using this
  simp only[Lz,ag8,jI,mq]at a1;obtain⟨_,⟨g,aY,hL,uc,rfl⟩,N,HP,rfl⟩:=a1;have bh:=abc I (o:=o) (by simp);have axo:wM a.tmps.size D=true:=by simp only[wM,List.all_cons,eo]at I ⊢;exact I.2
  have step:∀{bu:ce} {mE:ch} {v:aw X} {c:X} {ac:ae} {Y:Nat} {a8:World},tT ak mE->qs P false N (ez mE o.dst v) ac Y K->bF bu (rM v) c->cx B aj (u h) w U Y bu (u ac) a8 ->
    wpOpsIn (nv r) n P a4 Q (List.range' (k+1) D.length) (a.put o.dst c) a8:=λE nK aI hm=>by
   refine adp D N (k+1) ua HP nK (oV.put ⟨A.rel,A.eu,A.iR.same E,A.marks,A.low⟩ hm aI bh) ?_ ?_
   ·rw[Act.O6];exact axo
   ·rw[Act.O6];exact a6.after hm
  rw[show(o::D).length=D.length+1 from rfl,List.range'_succ];simp only[wpOpsIn,hko];have M:kD g ak (λak=>nU P false o.dst hL ak h U λak h U=>qs P false N ak h U K) (λak=>qs P false N (ez ak o.dst none) h U K):=M;obtain⟨HQ,mE,E,Z⟩:=afy M;have V:=X1 (aj:=aj) (tmps:=a.tmps) aY HQ (λd w v _ aI=>A.iR d v aI);rcases Z with⟨bO,M⟩|⟨bO,M⟩ <;> rw[bO]at V
  ·simp only[V,if_true];refine⟨λ_ _=>trivial,?_⟩;exact aqV ⟨A.rel,A.eu,A.iR.same E,A.marks,A.low⟩ uc M λv ac Y bu c a8 hk aI hm=>step (v:=some v) E hk aI hm
  ·simp only[V,nB,fg];exact⟨λ_ _=>trivial,step E M tA (cx.refl U A.rel)⟩
end
end Go.Ax
