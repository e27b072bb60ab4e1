/- Code over an abstract heap aS0 formulas, and their soundness: no condition. -/
import GoSem.Dispatch
import GoSem.ClaimKeys
import GoSem.ClaimWide
import Derived.RangeFuncLeaves
import Derived.OrdersIn
import Derived.Laws.Cells
import Derived.Laws.CopyRow
import Derived.DeepKeys3
import Derived.Laws.Pointers
set_option linter.all false
set_option maxHeartbeats 1000000
namespace Go.Ax
open Go
abbrev X:=Value
instance cVq:Coe Int X:=⟨λx=>.int .i64 x⟩
instance cWq:Coe Nat X:=⟨λx=>.int .i64 (x:Int)⟩
abbrev bb(p:Nat):Value:=.pointer (some ⟨p,0,none⟩)
abbrev aa:=@List
abbrev av:=@Option
abbrev ak:=Bool
def Ar:=@Array.foldl_toList
def qN:=@Array.getD_eq_getD_getElem?
def JV:=@Array.getElem?_modify
def Al:=@Array.getElem?_setIfInBounds
def FD:=@Array.length_toList
def wJ:=@Array.mk.injEq
def eD:=@Bool.and_eq_true
def Aw:=@Bool.eq_iff_iff
def nK:=@Bool.false_eq_true
def OT:=@Bool.not_eq_true'
def Kb:=@Bool.or_true
def vg:=@Classical.byContradiction
def Kc:=@Classical.em
def CK:=@Int.eq_ofNat_of_zero_le
def CV:=@Int.le_refl
def Kd:=@Int.le_trans
def wH:=@Int.natCast_add
def yI:=@Int.toNat_natCast
def JX:=@List.Pairwise.filter
def OM:=@List.Pairwise.of_cons
def CS:=@List.Perm.refl
def CP:=@List.all_eq_true
def vl:=@List.any_eq_true
def kB:=@List.append_assoc
def hM:=@List.append_nil
def vm:=@List.cons.injEq
def OW:=@List.cons_append
def OX:=@List.drop_append
def JR:=@List.drop_append_of_le_length
def yK:=@List.drop_drop
def Am:=@List.drop_eq_getElem_cons
def OK:=@List.drop_eq_nil_of_le
def JT:=@List.drop_length_add_append
def OL:=@List.drop_of_length_le
def JY:=@List.drop_succ_cons
def FM:=@List.drop_take
def nO:=@List.drop_zero
def Ak:=@List.eq_nil_of_length_eq_zero
def nL:=@List.ext_getElem?
def rJ:=@List.filter_append
def J3:=@List.filter_congr
def rK:=@List.filter_cons
def An:=@List.filter_eq_nil_iff
def Aq:=@List.filter_eq_self
def JZ:=@List.flatMap_append
def FK:=@List.foldl_cons
def yG:=@List.getElem?_append
def sP:=@List.getElem?_append_left
def vf:=@List.getElem?_append_right
def vh:=@List.getElem?_drop
def jU:=@List.getElem?_eq_getElem
def sQ:=@List.getElem?_eq_none
def gE:=@List.getElem?_eq_some_iff
def sS:=@List.getElem?_map
def tS:=@List.getElem?_of_mem
def yH:=@List.getElem?_range
def qP:=@List.getElem?_set
def vi:=@List.getElem?_take
def FE:=@List.getElem_of_mem
def JU:=@List.getLast?_eq_some_iff
def jb:=@List.length_append
def nM:=@List.length_cons
def FH:=@List.length_drop
def yF:=@List.length_filter_le
def g5:=@List.length_map
def CQ:=@List.length_nil
def FF:=@List.length_pos_iff
def vk:=@List.length_range
def wI:=@List.length_set
def ON:=@List.length_singleton
def ox:=@List.length_take
def Ay:=@List.mapM_cons
def Ka:=@List.mapM_nil
def hN:=@List.map_append
def qO:=@List.map_congr_left
def qQ:=@List.map_cons
def FO:=@List.map_drop
def pW:=@List.map_map
def yL:=@List.map_nil
def FQ:=@List.map_set
def FP:=@List.map_take
def g6:=@List.mem_append
def CM:=@List.mem_append_left
def OO:=@List.mem_append_right
def hf:=@List.mem_cons
def m8:=@List.mem_cons_of_mem
def ow:=@List.mem_cons_self
def pV:=@List.mem_filter
def FB:=@List.mem_iff_getElem?
def fL:=@List.mem_map
def jp:=@List.mem_of_getElem?
def OQ:=@List.mem_of_mem_take
def OH:=@List.mem_or_eq_of_mem_set
def CT:=@List.mem_range
def iR:=@List.mem_singleton
def tU:=@List.nil_append
def OU:=@List.nodup_append
def tT:=@List.not_mem_nil
def rI:=@List.pairwise_append
def vj:=@List.pairwise_cons
def yE:=@List.pairwise_iff_getElem
def yJ:=@List.pairwise_map
def pb:=@List.range_succ
def tR:=@List.rel_of_pairwise_cons
def FG:=@List.replicate_succ
def JW:=@List.set_append_right
def XN:=@List.set_eq_take_append_cons_drop
def gQ:=@List.take_add_one
def FC:=@List.take_append_drop
def JS:=@List.take_append_of_le_length
def J9:=@List.take_left
def ht:=@List.take_length
def pT:=@List.take_of_length_le
def CN:=@List.take_succ_cons
def tV:=@List.take_zero
def wK:=@Nat.add_assoc
def yN:=@Nat.add_mul
def J0:=@Nat.add_sub_cancel
def OI:=@Nat.add_sub_cancel_left
def m9:=@Nat.add_zero
def J1:=@Nat.and_one_is_mod
def tW:=@Nat.beq_refl
def sU:=@Nat.ble_eq
def Ao:=@Nat.ble_eq_true_of_le
def wM:=@Nat.blt_eq
def OY:=@Nat.div_eq_of_lt
def OP:=@Nat.div_lt_iff_lt_mul
def g4:=@Nat.eq_of_beq_eq_true
def Ap:=@Nat.eq_of_testBit_eq
def As:=@Nat.eq_zero_or_pos
def OZ:=@Nat.le_add_right
def CL:=@Nat.le_mul_of_pos_right
def l6:=@Nat.le_of_ble_eq_true
def cB:=@Nat.le_refl
def nP:=@Nat.le_succ
def hu:=@Nat.le_trans
def J2:=@Nat.lt_of_lt_of_le
def OF:=@Nat.lt_of_mul_lt_mul_right
def FI:=@Nat.lt_of_not_le
def jH:=@Nat.lt_or_ge
def FJ:=@Nat.lt_succ_self
def Au:=@Nat.lt_trichotomy
def CR:=@Nat.min_eq_left
def J4:=@Nat.mod_eq_of_lt
def Az:=@Nat.mod_lt
def yM:=@Nat.mul_comm
def OJ:=@Nat.mul_div_cancel_left
def yO:=@Nat.mul_eq
def sT:=@Nat.mul_le_mul
def pU:=@Nat.mul_le_mul_right
def FT:=@Nat.mul_one
def J7:=@Nat.not_lt_zero
def tX:=@Nat.one_mul
def wL:=@Nat.sub_self
def FR:=@Nat.succ_mul
def O0:=@Nat.succ_ne_self
def J8:=@Nat.testBit_and
def FN:=@Nat.testBit_or
def J5:=@Nat.testBit_succ
def ix:=@Nat.zero_add
def mx:=@Nat.zero_mul
def kE:=@Ne.symm
def j4:=@Option.bind_eq_some_iff
def J6:=@Option.getD_some
def nJ:=@Option.isSome_iff_exists
def CO:=@Option.isSome_none
def OR:=@Option.isSome_some
def mw:=@Option.map_eq_some_iff
def FL:=@Option.map_some
def OG:=@Option.ne_none_iff_exists'
def Av:=@Option.some.injEq
def iy:=@and_true
def sR:=@beq_eq_false_iff_ne
def vn:=@beq_iff_eq
def nN:=@beq_self_eq_true
def lH:=@cond_false
def oy:=@cond_true
def f9:=@decide_eq_false
def gz:=@decide_eq_true
def OV:=@decide_eq_true_eq
def CU:=@decide_false
def Ke:=@exists_false
def fc:=@if_false
def kC:=@not_false_eq_true
def OS:=@of_decide_eq_false
def kD:=@or_false
theorem J{p:Prop}(h:p:=by omega):p:=h
theorem ab{p:Prop}(h:p:=by grind):p:=h
variable {t:TypeId} {v x dF:X} {e:TypeId} {cs:aa X} {c:X} {l:aa X} {af:Array TypeId} {bj:World} {y:X} {b:Nat} {k iD:X} {args:aa X} {bU:av Nat} {cc aE:aa X} {df:aa MapEntry} {i:Nat} {es:aa MapEntry} {ao ai:Nat} {eV:Type} {dst:av Tmp} {g:av (Nat × ak)} {len:Nat} {z:X} {L:Nat} {f:FuncId} {a8:Array Operand} {ed da MJ jh:av X} {xs:aa Operand} {q:IntKind} {dU:TypeId} {new:aa X} {bG aO:av Nat} {cL nx:X} {j7 m off cap:Nat} {dp:IntKind} {d:Nat} {oI:World} {me:X} {bC ok:ak} {d7:Fence} {Y tI:Nat}
section
variable {aA:Type}
def g7(l:aa aA)(n:Nat):av aA:=l[n]?
def na(l:aa aA)(n:Nat):aa aA:=l.drop n
def k3(l k:aa aA):aa aA:=l++k
def jJ(l:aa aA):Nat:=l.length
def ng(aE l:aa aA)(n:Nat):av (aa aA):=if n+aE.length<=l.length then some (l.take n++(aE++l.drop (n+aE.length)))else none
def nh(n:Nat)(l:aa aA):av (aa aA):=if n<=l.length then some (l.take n)else none
theorem jr(l:aa aA)(n:Nat):g7 l n=l[n]?:=rfl
theorem rP(l:aa aA)(n:Nat):na l n=l.drop n:=rfl
theorem kk(l k:aa aA):k3 l k=l++k:=rfl
theorem oB(l:aa aA):jJ l=l.length:=rfl
theorem t7(aE l:aa aA)(n:Nat):ng aE l n=if n+aE.length<=l.length then some (l.take n++(aE++l.drop (n+aE.length)))else none:=rfl
theorem qT(n:Nat)(l:aa aA):nh n l=if n<=l.length then some (l.take n)else none:=rfl
end
inductive R (aA:Type) where
 |ok (x:aA)
 |no (why:String)
def R.bind{aA eV:Type}(r:R aA)(f:aA->R eV):R eV:=R.casesOn r (λx=>f x) (λw=>.no w)
def R.of{aA eV:Type}(w:String)(r:av aA)(f:aA->R eV):R eV:=Option.casesOn r (.no w) (λx=>f x)
def ag{aA:Type}(r:R aA)(k:aA->Prop):Prop:=match r with
 | .ok v=>k v
 | .no _=>False
def km:X:=.tuple #[]
abbrev b8:=aa (Nat × av X)
noncomputable section
def hG(aj:b8)(n:Nat):av (av X):=List.rec none (λp _ ev=>bif Nat.beq p.1 n then some p.2 else ev) aj
end
def et(aj:b8)(d:av Nat)(v:av X):b8:=match d with
 |some d=>(d,v)::aj
 |none=>aj
def r0(v:av X):X:=match v with|some v=>v|none=>km
inductive fM where
 |cells (cs:List Value) (bC:Bool)
 |map (es:List MapEntry) (azJ:Nat)
 |iter (m:Option Nat) (A9:Nat) (seen:List Nat) (azF:Nat)
 |loop (st:Nat) (HI:Option Code) (mf:b8) (params:List Nat) (assign body:Code)
abbrev fs:=Nat->av fM
abbrev ad:=fs
def u(h:ad)(b:Nat):av fM:=h b
def F(h:ad)(b:Nat)(o:fM):ad:=λk=>if k=b then some o else h k
def xq(h:ad)(b:Nat):ad:=λk=>if k=b then none else h k
variable {aj:b8} {H h6:fs} {ac:ad} {aW:fM} {Ma:fs}
theorem AE(h:ad)(b:Nat)(o:fM)(k:Nat):u (F h b o) k=if k=b then some o else u h k:=rfl
theorem Pz(h:ad)(b:Nat)(k:Nat):u (xq h b) k=if k=b then none else u h k:=rfl
def qW:X->ak
 | .bool _=>true | .int _ _=>true | .string _=>true | .pointer none=>true | .slice none _ _=>true | .map none=>true | .nilFunc=>true | .nilIface=>true
 | .func (.func _) ⟨[]⟩ ⟨[]⟩=>true
 |_=>false
def ii:aa X->ak
 | []=>true
 |x::xs=>qW x&&ii xs
def vH:X->ak
 | .agg ⟨l⟩=>ii l
 | .tuple ⟨l⟩=>ii l
 |v=>qW v
def c5:X->aa X
 | .agg cs=>cs.toList
 |v=>[v]
def lK(a b:Int):ak:=Int.casesOn a (λm=>Int.casesOn b (λn=>Nat.blt m n) (λ_=>false)) (λm=>Int.casesOn b (λ_=>true) (λn=>Nat.blt n m))
def fN(a b:Int):ak:=Int.casesOn a (λm=>Int.casesOn b (λn=>Nat.beq m n) (λ_=>false)) (λm=>Int.casesOn b (λ_=>false) (λn=>Nat.beq n m))
def HJ:IntKind->Nat
 | .i64=>9223372036854775808 | .u64=>0 | .i32=>2147483648 | .u32=>0 | .i16=>32768 | .u16=>0 | .i8=>128 | .u8=>0
def zt:IntKind->Nat
 | .i64=>9223372036854775808 | .u64=>18446744073709551616 | .i32=>2147483648 | .u32=>4294967296 | .i16=>32768 | .u16=>65536 | .i8=>128 | .u8=>256
def AX(k:IntKind)(a:Nat):Int:=bif Nat.blt a (zt k)then .ofNat a else k.wrap (.ofNat a)
def atg(k:IntKind)(a:Nat):Int:=bif Nat.blt a (HJ k)then .negSucc a else k.wrap (.negSucc a)
def uf(k:IntKind)(n:Int):Int:=Int.casesOn n (λa=>AX k a) (λa=>atg k a)
def kix:IntKind->Nat
 | .i8=>0 | .i16=>1 | .i32=>2 | .i64=>3 | .u8=>4 | .u16=>5 | .u32=>6 | .u64=>7
def mI(a b:IntKind):ak:=Nat.beq (kix a) (kix b)
def und(P:Program)(t:TypeId):av TypeDesc:=P.underlying t
def j8(P:Program)(t:TypeId):av Nat:=Option.casesOn (P.info? t) none (λi=>some i.size)
def oC(P:Program)(t:TypeId):av (aa X):=match P.info? t with
 |some i=>match i.zero with
  |some z=>bif vH z then some z.cells.toList else none
  |none=>none
 |none=>none
def K7(P:Program)(t:TypeId):av X:=match P.info? t with
 |some i=>match i.zero with
  |some z=>bif vH z then some z else none
  |none=>none
 |none=>none
def nb(P:Program)(t:TypeId):av (av Nat):=match P.underlying t,j8 P t with
 |some (.struct _),some n=>some (some n)
 |some (.array _ _),some n=>some (some n)
 |some _,some _=>some none
 |_,_=>none
def Dz(P:Program)(t:TypeId):av Nat:=match P.underlying t with
 |some (.slice e)=>j8 P e
 |_=>none
def rU(P:Program)(t:TypeId):av TypeId:=match P.underlying t with
 |some (.slice e)=>some e
 |_=>none
inductive xJ where
 |slice (s:Nat)
 |array (n s:Nat)
def Mb(P:Program)(t:TypeId):av xJ:=match P.underlying t with
 |some (.slice e)=>match j8 P e with|some s=>some (.slice s)|none=>none
 |some (.array n e)=>match j8 P e with|some s=>some (.array n s)|none=>none
 |_=>none
def De(P:Program)(t:TypeId)(i:Nat):av (Nat × TypeId):=match P.underlying t with
 |some (.struct ds)=>match g7 ds.toList i with
  |some f=>match j8 P f.type with
   |some (_+1)=>some (f.offset,f.type)
   |_=>none
  |none=>none
 |_=>none
def cellsOf{eV:Type}(h:ad)(b:Nat)(k:aa X->ak->R eV):R eV:=Option.casesOn (u h b) (.no "no such block")
 (λo=>fM.casesOn o (λcs bC=>k cs bC) (λ_ _=>.no "cells expected") (λ_ _ _ _=>.no "cells expected") (λ_ _ _ _ _ _=>.no "cells expected"))
def LP(r:av (aa X)):R X:=Option.casesOn r (.no "load - out of block") (λl=>.ok (.agg ⟨l⟩))
def DO(r:av X):R X:=Option.casesOn r (.no "load - out of block") (λv=>.ok v)
def hF(bU:av Nat)(off:Nat)(cs:aa X):R X:=Option.casesOn bU (DO (g7 cs off)) (λn=>LP (nh n (na cs off)))
def Ba{eV:Type}(v:X)(k:Addr->R eV):R eV:=match v with
 | .pointer (some a)=>k a
 |_=>.no "address expected"
def hv:X->ak
 | .agg _=>false
 | .tuple _=>false
 |_=>true
def ec:aa X->ak
 | []=>true
 |x::xs=>bif hv x then ec xs else false
def qX(h:ad)(b off:Nat)(l:aa X):R ad :=
 cellsOf h b (λcs bC=>Bool.casesOn bC (bif ec l then R.of "write - out of block" (ng l cs off) (λcs=>.ok (F h b (.cells cs false)))else .no "write - cells") (.no "write - read only"))
inductive ff where
 |val (v:Value) (h:ad) (U:Nat)
 |call (f:FuncId) (args:List Value) (h:ad) (U:Nat)
 |round (l:Nat) (args:List Value) (h:ad) (U:Nat)
 |no (why:String)
inductive kT where
 |ptr (o:fM)
 |slice (o:fM) (len cap:Nat)
 |map
def xK(U:Nat)(b:kT):X:=kT.casesOn b (λ_=>.pointer (some ⟨U,0,none⟩)) (λ_ len cap=>.slice (some ⟨U,0,none⟩) len cap) (.map (some U))
def tn(b:kT):fM:=kT.casesOn b (λo=>o) (λo _ _=>o) (.map [] 0)
def GI(l:aa X):R kT:=bif ec l then .ok (.ptr (.cells l false))else .no "cells"
def wY(l:aa X)(len cap:Nat):R kT:=bif ec l then .ok (.slice (.cells l false) len cap)else .no "cells"
def KF(P:Program):aa Field->av (aa (Nat × Nat))
 | []=>some []
 |f::ds=>match j8 P f.type,KF P ds with
  |some s,some r=>some ((f.offset,s)::r)
  |_,_=>none
def QW(P:Program)(t:TypeId):av (Nat->av (Nat × Nat)):=match P.underlying t with
 |some (.struct ds)=>match KF P ds.toList with
  |some bW=>some (g7 bW)
  |none=>none
 |some (.array _ e)=>match j8 P e with
  |some s=>some (λi=>some (Nat.mul i s,s))
  |none=>none
 |_=>none
def hg:Nat->aa X->aa X
 |0,_=>[]
 |n+1,z=>k3 z (hg n z)
def cr(v:X):R X:=match v with
 | .pointer (some a)=>.ok (.pointer (some a))
 | .func (.func f) a b=>.ok (.func (.func f) a b)
 | .func (.yield f) a b=>.ok (.func (.yield f) a b)
 | .iface t x=>.ok (.iface t x)
 |_=>.no "nilCheck"
def S8(x y:Lit):ak:=match x,y with
 | .bool a,.bool b=>a == b
 | .int j a,.int k b=>mI j k&&fN a b
 | .string a,.string b=>a == b
 | .nil,.nil=>true
 | .float j a,.float k b=>decide (j=k)&&Nat.beq a b
 |_,_=>false
def za:aa Lit->aa Lit->ak
 | [],[]=>true
 |x::xs,y::mV=>S8 x y&&za xs mV
 |_,_=>false
def H3(a b:av (aa Lit)):av ak:=match a,b with
 |some a,some b=>some (za a b)
 |_,_=>none
def rj(P:Program)(t:TypeId)(x y:X):av ak :=
 bif P.keyTypeAt 8 t&&(x.formed P t&&y.formed P t&&ii (c5 x)&&ii (c5 y))then H3 (P.keyLits 8 t (c5 x)) (P.keyLits 8 t (c5 y))else none
def wZ(P:Program)(t:TypeId):ak:=match P.underlying t with
 |some (.int _)=>true
 |_=>false
def Lx(P:Program)(t:TypeId)(k:IntKind)(a:Int)(y:X):av ak:=match y with
 | .int dp b=>bif mI k dp&&wZ P t then some (fN a b)else none
 |_=>none
def lq(P:Program)(t:TypeId)(x y:X):av ak:=match x with
 | .int k a=>Lx P t k a y
 |x=>rj P t x y
def Df(P:Program)(t:TypeId):ak:=!(P.eqGuardType P.depth t)
def ag0(a:ak)(y:X):av ak:=match y with
 | .bool b=>some (a == b)
 |_=>none
def KG(P:Program)(t:TypeId):ak:=match P.underlying t with|some .bool=>true|_=>false
def w0(P:Program)(t:TypeId):ak:=match P.underlying t with|some (.pointer _)=>true|_=>false
def nQ(P:Program)(t:TypeId):ak:=match P.underlying t with|some (.slice _)=>true|_=>false
def rV(P:Program)(t:TypeId):ak:=match P.underlying t with|some (.map _ _)=>true|_=>false
def HK(a:av Addr)(y:X):av ak:=match y with
 | .pointer b=>(match a,b with|none,b=>some b.isNone|some _,none=>some false|some _,some _=>none)
 |_=>none
def TC(a:av Addr)(y:X):av ak:=match y with
 | .slice b _ _=>(match a,b with|none,b=>some b.isNone|some _,none=>some false|some _,some _=>none)
 |_=>none
def ag1(a:av Nat)(y:X):av ak:=match y with
 | .map b=>(match a,b with|none,b=>some b.isNone|some _,none=>some false|some _,some _=>none)
 |_=>none
def nV(P:Program)(t:TypeId)(x y:X):av ak:=match x with
 | .bool a=>bif KG P t then ag0 a y else none
 | .pointer a=>bif w0 P t then HK a y else none
 | .slice a _ _=>bif nQ P t then TC a y else none
 | .map a=>bif rV P t then ag1 a y else none
 | .agg xs=>bif Df P t then rj P t (.agg xs) y else none
 |_=>none
def jt(k:IntKind)(n:Int):R X:=.ok (.int k n)
def nc(b:ak):R X:=.ok (.bool b)
def w4(op:BinOp)(k:IntKind)(a b:Int):R X:=bif lK b 0 then .no "shift" else match op with
 | .shl=>jt k (uf k (a*2 ^ (min b.toNat k.bits)))
 | .shr=>jt k (a.fdiv (2 ^ (min b.toNat k.bits)))
 |_=>.no "shift"
def Hs(op:BinOp)(k:IntKind)(a b:Int):R X:=match op with
 | .and=>jt k (k.wrap ((BitVec.ofInt k.bits a &&& BitVec.ofInt k.bits b).toNat))
 | .or=>jt k (k.wrap ((BitVec.ofInt k.bits a ||| BitVec.ofInt k.bits b).toNat))
 | .xor=>jt k (k.wrap ((BitVec.ofInt k.bits a ^^^ BitVec.ofInt k.bits b).toNat))
 | .andNot=>jt k (k.wrap ((BitVec.ofInt k.bits a &&& ~~~ (BitVec.ofInt k.bits b)).toNat))
 |_=>.no "bits"
def D4(op:BinOp)(k:IntKind)(a b:Int):R X:=bif fN b 0 then .no "div" else match op with
 | .quo=>jt k (uf k (a.tdiv b))
 |_=>jt k (a.tmod b)
def Ep(op:BinOp)(k:IntKind)(a b:Int):R X:=match op with
 | .add=>jt k (uf k (Int.add a b))
 | .sub=>jt k (uf k (Int.sub a b))
 | .mul=>jt k (uf k (Int.mul a b))
 | .quo=>D4 .quo k a b
 | .rem=>D4 .rem k a b
 | .lss=>nc (lK a b)
 | .leq=>nc (!lK b a)
 | .gtr=>nc (lK b a)
 | .geq=>nc (!lK a b)
 | .eql=>nc (fN a b)
 | .neq=>nc (!fN a b)
 |op=>Hs op k a b
def y4:BinOp->ak
 | .shl=>true | .shr=>true|_=>false
def Bi(op:BinOp)(k:IntKind)(a:Int)(dp:IntKind)(b:Int):R X :=
 bif y4 op then w4 op k a b else bif mI k dp then Ep op k a b else .no "kinds"
def Mc(P:Program)(op:BinOp)(t:TypeId)(x y:X):R X:=match op with
 | .eql=>R.of "compared" (nV P t x y) (λb=>nc b)
 | .neq=>R.of "compared" (nV P t x y) (λb=>nc (!b))
 |_=>.no "binop"
def ag2(op:BinOp)(k:IntKind)(a:Int)(y:X):R X:=match y with
 | .int dp b=>Bi op k a dp b
 |_=>.no "binop"
def bin(P:Program)(op:BinOp)(t:TypeId)(x y:X):R X:=match x with
 | .int k a=>ag2 op k a y
 |x=>Mc P op t x y
def d2(op:UnOp)(v:X):R X:=match v with
 | .bool b=>(match op with | .not=>nc (!b)|_=>.no "unOp")
 | .int k n=>(match op with
  | .neg=>jt k (uf k (Int.sub 0 n))
  | .xor=>Hs .xor k (if k.signed then -1 else k.max) n
  |_=>.no "unOp")
 |_=>.no "unOp"
def xe(d:TypeDesc)(v:X):R X:=match v with
 | .int _ n=>(match d with | .int k=>jt k (uf k n)|_=>.no "convert - int")
 |_=>.no "convert A"
def r1{eV:Type}(v:X)(k:Nat->R eV):R eV:=match v with
 | .int _ n=>Int.casesOn n (λn=>k n) (λ_=>.no "nat expected")
 |_=>.no "nat expected"
def GJ(a:av Addr)(n:Nat)(xr:ak):av Addr:=Option.casesOn a none (λa=>some ⟨a.block,Nat.add a.off n,bif xr then none else a.spot⟩)
def AO(a:av Addr):ak:=match a with
 |some ⟨_,_,some _⟩=>true
 |_=>false
def xL(a:av Addr):ak:=match a with
 |some ⟨_,_,some 0⟩=>true
 |_=>false
def MK(a:av Addr):av Addr:=match a with
 |some a=>some ⟨a.block,a.off,some 0⟩
 |none=>none
def lp(a:av Addr)(xr:ak)(n c:Nat):R X :=
 bif AO a&&!xr then .ok (.slice (MK a) 0 0)else bif xL a then .no "slice - of nothing" else .ok (.slice (GJ a 0 xr) n c)
def vI(s:Nat)(a:av Addr)(xr:ak)(m ft l:Nat):R X :=
 bif Nat.beq m l then lp a xr (Nat.sub ft l) (Nat.sub m l)else .ok (.slice (GJ a (Nat.mul l s) xr) (Nat.sub ft l) (Nat.sub m l))
def oD(s:Nat)(a:av Addr)(cap:Nat)(xr:ak)(m ft l:Nat):R X :=
 bif Nat.ble m cap&&(Nat.ble ft m&&Nat.ble l ft)then vI s a xr m ft l else .no "slice - bounds"
def Bj(x:av X)(d:Nat):R Nat:=match x with
 |none=>.ok d
 |some v=>r1 v (λn=>.ok n)
def iY(s:Nat)(v:X)(ao ai jh:av X):R X:=match v with
 | .slice a len cap=>bif !jh.isSome||ai.isSome then R.bind (Bj jh cap) (λm=>R.bind (Bj ai len) (λft=>R.bind (Bj ao 0) (λl=>oD s a cap jh.isSome m ft l)))else .no "slice - max without high"
 |_=>.no "slice"
def Ht(c a b:X):R X:=match c with
 | .bool c=>Bool.casesOn c (.ok b) (.ok a)
 |_=>.no "pick"
def DP(a:Addr)(n:Nat):X:=.pointer (some ⟨a.block,Nat.add a.off n,none⟩)
def yS(u0:xJ)(v:X)(i:Nat):R X:=match v with
 | .slice (some a) len _=>(match u0 with | .slice s=>bif Nat.blt i len then .ok (DP a (Nat.mul i s))else .no "index" |_=>.no "index")
 | .pointer (some a)=>(match u0 with | .array n s=>bif Nat.blt i n then .ok (DP a (Nat.mul i s))else .no "index" |_=>.no "index")
 |_=>.no "indexAddr"
def xf(off:Nat)(v:X):R X:=Ba v (λa=>.ok (DP a off))
def il(k:xJ)(x i:X):R X:=r1 i (λi=>yS k x i)
def Sh(P:Program)(t:TypeId)(v:X)(i:Nat):R X:=match v with
 | .agg cs=>(match P.underlying t with
  |some (.array n e)=>bif Nat.blt i n then R.of "index" (nb P e) (λbU=>R.of "index" (j8 P e) (λs=>hF bU (Nat.mul i s) cs.toList))else .no "index"
  |_=>.no "index")
 |_=>.no "index"
def axc(P:Program)(t:TypeId)(x i:X):R X:=r1 i (λi=>Sh P t x i)
def Bk(off:Nat)(bU:av Nat)(v:X):R X:=match v with
 | .agg cs=>hF bU off cs.toList
 |_=>.no "field"
def qY(ev:aa X->R (aa X))(off tI:Nat)(l cells:aa X):R (aa X):=bif Nat.beq (jJ l) tI then R.of "fill" (ng l cells off) ev else .no "fill - size"
def pk:aa (Nat × Nat × X)->aa X->R (aa X)
 | [],cells=>.ok cells
 |(off,tI,x)::xs,cells=>qY (pk xs) off tI (c5 x) cells
def c8(z:aa X)(nd:aa (Nat × Nat × X)):R X:=R.bind (pk nd z) (λl=>.ok (.agg ⟨l⟩))
def fU(len:Nat)(z:aa X)(nd:aa (Nat × Nat × X)):R kT:=R.bind (pk nd z) (λl=>wY l len len)
def xt(z:aa X)(l c:X):R kT:=r1 l (λl=>r1 c (λc=>bif Nat.ble l c&&Nat.ble c 100000 then wY (hg c z) l c else .no "makeSlice"))
def im(bU:av Nat)(h:ad)(x:X):R X:=Ba x (λa=>cellsOf h a.block (λcs _=>hF bU a.off cs))
def Us(h:ad)(n:Nat)(l:aa X)(a:Addr):R ad:=bif Nat.beq (jJ l) n then qX h a.block a.off l else .no "store - size"
def a7(h:ad)(n:Nat)(a x:X):R ad:=Ba a (Us h n (c5 x))
def k2(P:Program)(t:TypeId)(k:X):aa MapEntry->Nat->av (av (Nat × MapEntry))
 | [],_=>some none
 |e::es,i=>match lq P t k e.key with
  |some true=>some (some (i,e))
  |some false=>k2 P t k es (Nat.succ i)
  |none=>none
def zj(P:Program)(t:TypeId)(k:X):ak:=(lq P t k k).isSome
def AY(a b:Addr):ak:=Nat.beq a.block b.block&&Nat.beq a.off b.off&&(match a.spot,b.spot with|none,none=>true|some x,some y=>Nat.beq x y|_,_=>false)
def q3(x y:X):ak:=match x with
 | .bool a=>(match y with | .bool b=>a == b|_=>false)
 | .int k m=>(match y with | .int dp n=>mI k dp&&fN m n|_=>false)
 | .pointer none=>(match y with | .pointer none=>true|_=>false)
 | .pointer (some a)=>(match y with | .pointer (some b)=>AY a b|_=>false)
 | .slice none l c=>(match y with | .slice none cc bL=>Nat.beq l cc&&Nat.beq c bL | _=>false)
 | .slice (some a) l c=>(match y with | .slice (some b) cc bL=>AY a b&&Nat.beq l cc&&Nat.beq c bL | _=>false)
 | .map none=>(match y with | .map none=>true|_=>false)
 | .map (some a)=>(match y with | .map (some b)=>Nat.beq a b|_=>false)
 | .nilFunc=>(match y with | .nilFunc=>true|_=>false)
 | .nilIface=>(match y with | .nilIface=>true|_=>false)
 | .func (.func f) ⟨[]⟩ ⟨[]⟩=>(match y with | .func (.func g) ⟨[]⟩ ⟨[]⟩=>Nat.beq f g|_=>false)
 |_=>false
def q4:aa X->aa X->ak
 | [],[]=>true
 |x::xs,y::mV=>q3 x y&&q4 xs mV
 |_,_=>false
def mz(x y:X):ak:=match x with
 | .agg ⟨xs⟩=>(match y with | .agg ⟨mV⟩=>q4 xs mV|_=>false)
 | .tuple ⟨xs⟩=>(match y with | .tuple ⟨mV⟩=>q4 xs mV|_=>false)
 | .func (.func f) ⟨a⟩ ⟨b⟩=>(match y with | .func (.func g) ⟨eo⟩ ⟨ck⟩=>Nat.beq f g&&q4 a eo&&q4 b ck | _=>false)
 |x=>q3 x y
def HL:aa MapEntry->Nat->X->X->aa MapEntry
 | [],_,_,_=>[]
 |e::es,i,k,v=>Nat.casesOn i ({ e with key:=k,val:=v }::es) (λj=>e::HL es j k v)
def Md:aa MapEntry->Nat->aa MapEntry
 | [],_=>[]
 |e::es,i=>Nat.casesOn i es (λj=>e::Md es j)
def lr{eV:Type}(h:ad)(r:Nat)(k:aa MapEntry->Nat->R eV):R eV:=match u h r with
 |some (.map es c)=>k es c
 |_=>.no "map expected"
def Si{eV:Type}(h:ad)(v:X)(k:aa MapEntry->R eV):R eV:=match v with
 | .map none=>k []
 | .map (some r)=>lr h r (λes _=>k es)
 |_=>.no "map expected"
def pe(ok:ak)(v:X)(b:ak):X:=bif ok then .tuple #[v,.bool b]else v
def lL(P:Program)(h:ad)(dU:TypeId)(z:X)(ok:ak)(m k:X):R X :=
 bif zj P dU k then Si h m (λes=>match k2 P dU k es 0 with
   |some (some (_,x))=>.ok (pe ok x.val true)
   |some none=>.ok (pe ok z false)
   |none=>.no "lookup - key")else .no "lookup - key"
def pq(P:Program)(dU:TypeId)(h:ad)(m k x:X):R ad :=
 bif zj P dU k then(match m with
  | .map (some r)=>lr h r (λes c=>match k2 P dU k es 0 with
   |some (some (i,e))=>bif mz e.key k then .ok (F h r (.map (HL es i k x) c))else .no "mapUpdate - which key"
   |some none=>.ok (F h r (.map (k3 es [{ key:=k,val:=x,born:=c }]) (Nat.succ c)))
   |none=>.no "mapUpdate - key")
  |_=>.no "mapUpdate")else .no "mapUpdate - key"
def aco(h:ad)(U:Nat)(m:av Nat)(c:Nat):ff:=.val (.pointer (some ⟨U,0,none⟩)) (F h U (.iter m c [] c)) (Nat.succ U)
def s2(h:ad)(U:Nat)(v:X):ff:=match v with
 | .map none=>aco h U none 0
 | .map (some r)=>(match u h r with
  |some (.map _ c)=>aco h U (some r) c
  |_=>.no "range")
 |_=>.no "range"
def leftOf(seen:aa Nat):aa MapEntry->aa MapEntry
 | []=>[]
 |e::es=>bif seen.any (Nat.beq e.born)then leftOf seen es else e::leftOf seen es
def Ly(seen:aa Nat)(es:aa MapEntry)(st:Nat):ak:=seen.isEmpty||es.isEmpty||es.any (λe=>Nat.blt e.born st)
def Hu:aa Nat->av Nat
 | []=>none
 | [x]=>some x
 |_::xs=>Hu xs
def DQ(b:Nat):aa MapEntry->av MapEntry
 | []=>none
 |e::es=>bif Nat.beq e.born b then some e else DQ b es
def w5(h:ad)(v:X):R X:=Ba v (λa=>bif Nat.beq a.off 0 then(match u h a.block with
 |some (.iter (some r) _ seen st)=>lr h r (λes c=>bif Nat.beq c st then(match Hu seen with
  |some b=>R.of "entry" (DQ b es) (λe=>.ok (.tuple #[e.key,e.val]))
  |none=>.no "entry")else .no "entry - clock")
 |_=>.no "entry")else .no "entry")
def jV(h:ad)(a:av Addr)(n:Nat)(k:aa X->R ff):R ff:=Nat.casesOn n (k []) (λ_=>Option.casesOn a (.no "read - nil")
 (λa=>cellsOf h a.block (λcs _=>R.of "read - out of block" (nh n (na cs a.off)) k)))
def dS(r:R ff):ff:=R.casesOn r (λx=>x) (λw=>.no w)
def p4(h:ad)(U s:Nat)(l:aa X)(j7:Nat):R ff:=bif Nat.beq s 0 then .no "append - no size" else .ok (.val (.slice (some ⟨U,0,some s⟩) j7 j7) (F h U (.cells l false)) (Nat.succ U))
def S9(h:ad)(U:Nat)(s:Nat)(a:av Addr)(len cap j7:Nat)(new:aa X):R ff:=match a with
 |none=>.ok (.val (.slice none j7 cap) h U)
 |some a=>(match new with
  | []=>.ok (.val (.slice (some a) j7 cap) h U)
  |_=>R.bind (qX h a.block (Nat.add a.off (Nat.mul len s)) new) (λh=>.ok (.val (.slice (some a) j7 cap) h U)))
def p5(h:ad)(U:Nat)(s:Nat)(a:av Addr)(len cap j7:Nat)(new:aa X):R ff:=match a with
 |none=>p4 h U s new j7
 |some a=>cellsOf h a.block (λcs bC=>R.of "append - out of block" (nh (Nat.mul len s) (na cs a.off)) (λd8=>match a.spot with
  |none=>p4 h U s (k3 d8 new) j7
  |some lY=>bif !bC&&Nat.beq a.off 0&&Nat.beq (jJ cs) (Nat.mul len s)&&Nat.beq lY s&&Nat.beq len cap&&ec new then p4 (xq h a.block) U s (k3 d8 new) j7 else .no "append - inner"))
def gt(s:Nat)(h:ad)(U:Nat)(a:av Addr)(len cap n:Nat)(new:aa X):R ff :=
 bif Nat.ble (Nat.add len n) cap then S9 h U s a len cap (Nat.add len n) new else
 bif Nat.ble (Nat.mul (Nat.add len n) s) 1000000&&Nat.ble (Nat.add len n) 1000000 then p5 h U s a len cap (Nat.add len n) new else .no "append - great"
def dv(s:Nat)(h:ad)(U:Nat)(x y:X):R ff:=match x with
 | .slice a len cap=>(match y with
  | .slice b n _=>jV h b (Nat.mul n s) (λnew=>gt s h U a len cap n new)
  |_=>.no "append")
 |_=>.no "append"
def GK(z:aa X)(s:Nat)(h:ad)(U:Nat)(x y:X):R ff:=match x with
 | .slice a len cap=>r1 y (λn=>bif Nat.ble n 1000000 then gt s h U a len cap n (hg n z)else .no "append")
 |_=>.no "append"
def rY(P:Program)(t:av TypeId):ak:=match t with
 |some t=>(match P.underlying t with|some (.int _)=>true|_=>false)
 |none=>false
def aet(P:Program)(t:av TypeId):ak:=match t with
 |some t=>(P.underlying t).isSome
 |none=>true
def zb(P:Program)(e:TypeId):ak:=Nat.ble (((P.info? e).map (·.bytes)).getD 1000001) 1000000
def xu(v:X):R X:=match v with | .slice _ n _=>jt .i64 (.ofNat n)|_=>.no "len"
def xv(h:ad)(v:X):R X:=match v with
 | .map none=>jt .i64 (.ofNat 0)
 | .map (some r)=>lr h r (λes _=>jt .i64 (.ofNat (jJ es)))
 |_=>.no "len"
def ag3(v:X):R X:=match v with
 | .slice none _ c=>jt .i64 (.ofNat c)
 | .slice (some ⟨_,_,none⟩) _ c=>jt .i64 (.ofNat c)
 |_=>.no "cap"
def HM(P:Program)(t:TypeId)(v:X):R X:=bif nQ P t then ag3 v else .no "cap"
def Lz(P:Program)(t:TypeId)(h:ad)(U:Nat)(a:Addr)(n:Nat):R ff :=
 R.of "clear" (rU P t) (λe=>R.of "clear" (oC P e) (λz=>R.bind (qX h a.block a.off (hg n z)) (λh=>.ok (.val km h U))))
def Ha(P:Program)(t:TypeId)(h:ad)(U:Nat)(v:X):R ff:=match v with
 | .map none=>.ok (.val km h U)
 | .map (some r)=>lr h r (λ_ c=>.ok (.val km (F h r (.map [] c)) U))
 | .slice none _ _=>.ok (.val km h U)
 | .slice (some a) n _=>Nat.casesOn n (.ok (.val km h U)) (λm=>Lz P t h U a (Nat.succ m))
 |_=>.no "clear"
def QX(P:Program)(dU:TypeId)(h:ad)(U:Nat)(m k:X):R ff:=match m with
 | .map (some r)=>lr h r (λes c=>match k2 P dU k es 0 with
  |some (some (i,_))=>.ok (.val km (F h r (.map (Md es i) c)) U)
  |some none=>.ok (.val km h U)
  |none=>.no "delete - key")
 |_=>.no "delete"
def GL(P:Program)(t:TypeId)(h:ad)(U:Nat)(m k:X):R ff:=match P.underlying t with
 |some (.map dU _)=>bif zj P dU k then QX P dU h U m k else .no "delete - key"
 |_=>.no "delete"
def Ta(s:Nat)(h:ad)(U:Nat)(x y:X):R ff:=match x with
 | .slice a len _=>(match y with
  | .slice b n _=>jV h b (Nat.mul (Nat.min n len) s) (λl=>match l with
   | []=>.ok (.val (.int .i64 (.ofNat (Nat.min n len))) h U)
   |_=>(match a with
    |some a=>R.bind (qX h a.block a.off l) (λh=>.ok (.val (.int .i64 (.ofNat (Nat.min n len))) h U))
    |none=>.no "copy"))
  |_=>.no "copy")
 |_=>.no "copy"
def min2(b:ak)(x y:X):R X:=match x with
 | .int k m=>(match y with
  | .int dp n=>bif mI k dp then(bif b then jt k (bif lK n m then n else m)else jt k (bif lK m n then n else m))else .no "min"
  |_=>.no "min")
 |_=>.no "min"
def ag4(l:aa X)(k:X->R ff):R ff:=match l with
 | [x]=>k x
 |_=>.no "one argument expected"
def HN(l:aa X)(k:X->X->R ff):R ff:=match l with
 | [x,y]=>k x y
 |_=>.no "two arguments expected"
def sV(P:Program)(b:Builtin)(af:aa TypeId)(h:ad)(U:Nat)(args:aa X):R ff:=match b with
 | .append=>R.of "append" (g7 af 0) (λt=>R.of "append" (rU P t) (λe=>R.of "append" (j8 P e) (λs=>R.of "append" (oC P e) (λz =>
  bif Nat.beq (jJ z) s&&zb P e&&rY P (g7 af 1)then HN args (λx y=>GK z s h U x y)else .no "append - element"))))
 | .delete=>R.of "delete" (g7 af 0) (λt=>HN args (λx y=>GL P t h U x y))
 | .clear=>R.of "clear" (g7 af 0) (λt=>bif rV P t||nQ P t then ag4 args (λv=>Ha P t h U v)else .no "clear")
 | .copy=>R.of "copy" (g7 af 0) (λt=>R.of "copy" (Dz P t) (λs=>HN args (λx y=>Ta s h U x y)))
 |_=>.no "builtin"
def Er{aA:Type}(r:R aA)(f:aA->ff):ff:=R.casesOn r (λx=>f x) (λw=>.no w)
def Ut{aA:Type}(w:String)(r:av aA)(f:aA->ff):ff:=Option.casesOn r (.no w) (λx=>f x)
def jc(h:ad)(U:Nat)(aE:aa X)(f:X):ff:=match f with
 | .func fn a b=>(match fn with
  | .func f=>.call f (k3 a.toList (k3 aE b.toList)) h U
  | .yield l=>.round l (k3 a.toList aE) h U
  |_=>.no "call")
 |_=>.no "call"
def xg(P:Program)(h:ad)(t:TypeId)(yk:ak)(y:X):R X:=match P.underlying t with
 |some (.pointer e)=>bif yk then .ok y else R.of "type" (nb P e) (λbU=>im bU h y)
 |some _=>bif yk then .no "invoke - pointer method" else .ok y
 |none=>.no "invoke - type"
def rQ(P:Program)(t:TypeId)(m:String):av (FuncId × ak):=match P.info? t with
 |some i=>(match i.methods.find? (λx=>x.name == m)with
  |some x=>(match x.path with
   |⟨[]⟩=>x.func
   |_=>none)
  |none=>none)
 |none=>none
def p0(P:Program)(h:ad)(U:Nat)(aE:aa X)(m:String)(v:X):ff:=match v with
 | .iface t y=>Ut "invoke - method" (rQ P t m) (λJh=>Er (xg P h t Jh.2 y) (λy=>.call Jh.1 (y::aE) h U))
 |_=>.no "invoke"
def AC(P:Program)(t:TypeId):ak:=match P.underlying t with
 |some (.interface _)=>false
 |some _=>true
 |none=>false
def K8(P:Program)(aaw:TypeId)(ok:ak)(v:X):R X:=match v with
 | .iface t y=>bif AC P aaw&&Nat.beq t aaw then .ok (pe ok y true)else .no "typeAssert"
 |_=>.no "typeAssert"
def dz(v:X)(i:Nat):R X:=match v with
 | .tuple aE=>R.of "extract" (g7 aE.toList i) (λv=>.ok v)
 |_=>.no "extract"
inductive e2 where
 |t (n:Nat)
 |v (x:Value)
def co(x:Operand):av e2:=match x with
 | .tmp t=>some (.t t)
 | .const v=>bif vH v then some (.v v)else none
 | .func f=>some (.v (.func (.func f) #[] #[]))
 | .global _=>none
def cos:aa Operand->av (aa e2)
 | []=>some []
 |x::xs=>match co x,cos xs with
  |some y,some mV=>some (y::mV)
  |_,_=>none
def H4(x:av Operand):av (av e2):=match x with
 |none=>some none
 |some x=>match co x with
  |some y=>some (some y)
  |none=>none
inductive Ji where
 |io (x:e2)
 |pick (c a b:e2)
 |bin (op:BinOp) (t:TypeId) (x y:e2)
 |un (op:UnOp) (x:e2)
 |conv(d:TypeDesc) (x:e2)
 |v9 (off:Nat) (bU:Option Nat) (x:e2)
 |ag5 (off:Nat) (x:e2)
 |ixA (k:xJ) (x i:e2)
 |idx (t:TypeId) (x i:e2)
 |ny (s:Nat) (x:e2) (ao ai jh:Option e2)
 |ext (x:e2) (i:Nat)
 |ag6 (x:e2)
 |mkf (f:FuncId) (a b:List e2)
 |ifc (t:TypeId) (x:e2)
 |asr (a:TypeId) (ok:Bool) (x:e2)
 |W1 (b:Bool) (x y:e2)
 |cap (t:TypeId) (x:e2)
 |build (z:List Value) (nd:List (Nat × Nat × e2))
inductive Fl where
 |new (l:List Value)
 |box (x:e2)
 |Uu (len:Nat) (base:List Value) (nd:List (Nat × Nat × e2))
 |mkm
 |mks (z:List Value) (l c:e2)
inductive H5 where
 |ld (bU:Option Nat) (x:e2)
 |lkp (dU:TypeId) (z:Value) (m k:e2) (ok:Bool)
 |lens (x:e2)
 |ag7 (x:e2)
 |entry (x:e2)
inductive wx where
 |st (n:Nat) (a x:e2)
 |zC (dU:TypeId) (m k x:e2)
 |jW (x:e2)
 |fW (x:e2)
 |call (f:FuncId) (args:List e2)
 |Bb (f:e2) (args:List e2)
 |app (s:Nat) (x y:e2)
 |bi (b:Builtin) (af:List TypeId) (args:List e2)
 |inv (r:e2) (m:String) (args:List e2)
inductive nz where
 |fB (e:Ji)
 |iK (e:Fl)
 |red (e:H5)
 |fC (e:wx)
structure lD where
 g:av (Nat × ak)
 d:av Nat
 c:Nat
 k:nz
inductive iE where
 |skip
 |ta (l:List lD)
 |Bl (l:List lD)
 |seq (a b:iE)
 |cond (c:e2) (a b:iE)
 |block (id:Nat) (c:iE)
 |loop (c:iE)
 |exit (id:Nat)
 |ret
 |scope (c:iE)
 |yl (f:e2) (bW:List Nat) (a b:Code)
 |no
structure aAy where
 body:iE
 res:aa ResultVar
def DA(afU:Nat->av (Nat × Nat)):aa (Nat × Operand)->av (aa (Nat × Nat × e2))
 | []=>some []
 |x::xs=>match afU x.1,co x.2,DA afU xs with
  |some p,some y,some r=>some ((p.1,p.2,y)::r)
  |_,_,_=>none
def acp(f:e2)(jw:aa e2):wx:=match f with
 | .v (.func (.func g) ⟨[]⟩ ⟨[]⟩)=>.call g jw
 |f=>.Bb f jw
def Es(P:Program)(b:Builtin)(af:aa TypeId)(jw:aa e2):av nz:=match b with
 | .len=>(match jw with
  | [x]=>(g7 af 0).bind λt=>(match P.underlying t with
   |some (.slice _)=>some (.red (.lens x))
   |some (.map _ _)=>some (.red (.ag7 x))
   |_=>none)
  |_=>none)
 | .min=>(match jw with | [x,y]=>some (.fB (.W1 true x y))|_=>none)
 | .max=>(match jw with | [x,y]=>some (.fB (.W1 false x y))|_=>none)
 | .cap=>(match jw with | [x]=>(g7 af 0).map λt=>.fB (.cap t x)|_=>none)
 | .append=>bif rY P (g7 af 1)then some (.fC (.bi .append af jw))else(g7 af 0).bind λt=>(rU P t).bind λe=>(j8 P e).bind λs=>(oC P e).bind λz =>
    bif Nat.beq (jJ z) s&&zb P e&&(!rY P (g7 af 1)&&aet P (g7 af 1))then(match jw with | [x,y]=>some (.fC (.app s x y))|_=>none)else none
 |b=>some (.fC (.bi b af jw))
def pw(P:Program)(o:Op):av nz:=match o with
 | .move x=>(co x).map λx=>.fB (.io x)
 | .assign x=>(co x).map λx=>.fB (.io x)
 | .pick c a b=>(co c).bind λc=>(co a).bind λa=>(co b).map λb=>.fB (.pick c a b)
 | .build t nd=>(oC P t).bind λz=>(QW P t).bind λpl=>(DA pl nd.toList).map λbW=>.fB (.build z bW)
 | .nilCheck x=>(co x).map λx=>.fB (.ag6 x)
 | .binOp op t x y _=>(co x).bind λx=>(co y).map λy=>.fB (.bin op t x y)
 | .unOp op _ x=>(co x).map λx=>.fB (.un op x)
 | .convert s d x=>(und P s).bind λ_=>(und P d).bind λd=>(co x).map λx=>.fB (.conv d x)
 | .makeInterface t x=>bif AC P t then(co x).map λx=>.fB (.ifc t x)else none
 | .makeFunc fn a b=>(match fn with
  | .func f=>(cos a.toList).bind λa=>(cos b.toList).map λb=>.fB (.mkf f a b)
  |_=>none)
 | .slice t x ao ai jh=>(Dz P t).bind λs=>(co x).bind λx=>(H4 ao).bind λao=>(H4 ai).bind λai=>(H4 jh).map λjh=>.fB (.ny s x ao ai jh)
 | .fieldAddr s x f=>(De P s f).bind λf=>(co x).map λx=>.fB (.ag5 f.1 x)
 | .field s x f=>(De P s f).bind λf=>(nb P f.2).bind λbU=>(co x).map λx=>.fB (.v9 f.1 bU x)
 | .indexAddr t x u0=>(Mb P t).bind λk=>(co x).bind λx=>(co u0).map λi=>.fB (.ixA k x i)
 | .index t x u0=>(co x).bind λx=>(co u0).map λi=>.fB (.idx t x i)
 | .extract x i=>(co x).map λx=>.fB (.ext x i)
 | .typeAssert x _ a ok=>(co x).map λx=>.fB (.asr a ok x)
 | .alloc e=>(oC P e).bind λl=>bif ec l then some (.iK (.new l))else none
 | .box _ x=>(co x).map λx=>.iK (.box x)
 | .buildSlice t len nd=>(rU P t).bind λe=>(j8 P e).bind λs=>(oC P e).bind λz =>
   bif Nat.beq (jJ z) s&&Nat.ble (Nat.mul len s) 1000000 then(DA (λi=>some (Nat.mul i s,s)) nd.toList).map λbW=>.iK (.Uu len (hg len z) bW)else none
 | .makeMap _ none=>some (.iK .mkm)
 | .makeSlice t l c=>(rU P t).bind λe=>(oC P e).bind λz =>
   bif Nat.beq (jJ z) (((P.info? e).map (·.size)).getD 0)&&Nat.ble (((P.info? e).map (·.bytes)).getD 1000001) 1000000 then(co l).bind λl=>(co c).map λc=>.iK (.mks z l c)else none
 | .load t a=>(nb P t).bind λbU=>(co a).map λa=>.red (.ld bU a)
 | .lookup t x u0 ok=>(match P.underlying t with
  |some (.map dU e)=>(K7 P e).bind λz=>(co x).bind λm=>(co u0).map λk=>.red (.lkp dU z m k ok)
  |_=>none)
 | .entry x=>(co x).map λx=>.red (.entry x)
 | .store t a x=>(j8 P t).bind λn=>(co a).bind λa=>(co x).map λx=>.fC (.st n a x)
 | .mapUpdate t m k x=>(match P.underlying t with
  |some (.map dU _)=>(co m).bind λm=>(co k).bind λk=>(co x).map λx=>.fC (.zC dU m k x)
  |_=>none)
 | .range t x=>bif rV P t then(co x).map λx=>.fC (.jW x)else none
 | .next it s=>bif s then none else(co it).map λx=>.fC (.fW x)
 | .call c=>(cos c.args.toList).bind λjw=>(match c.callee with
  | .value f=>(co f).map λf=>.fC (acp f jw)
  | .invoke r m=>(co r).map λr=>.fC (.inv r m jw)
  | .builtin b=>Es P b c.argTypes.toList jw)
 |_=>none
def iS(k:nz):ak:=match k with | .fC _=>true|_=>false
def z6(all:aa Oper)(g:av (Nat × ak)):av (av (Nat × ak)):=match g with
 |none=>some none
 |some (j,b)=>(g7 all j).bind λo=>o.dst.map λd=>some (d,b)
def ag8(P:Program)(all:aa Oper)(c:Nat)(o:Oper):av lD:=(z6 all o.guard).bind λg=>(pw P o.op).map λk=>⟨g,o.dst,c,k⟩
def Me(P:Program)(all:aa Oper):aa Oper->av (aa lD)
 | []=>some []
 |o::os=>(ag8 P all 0 o).bind λi=>(Me P all os).map λis=>i::is
structure eP where
 i:Nat
 o:Oper
 k:nz
 wa:Nat
def la(m k:Nat):ak:=Nat.beq (Nat.land (Nat.shiftRight m k) 1) 1
def Mf(acc:aa Nat):aa Edge->Nat->Nat
 | [],s=>s
 |e::es,s=>Mf acc es (bif Region.binds .any e then Nat.lor (Nat.lor s (Nat.pow 2 e.on)) ((g7 acc e.on).getD 0)else s)
def LQ:aa Oper->aa Nat->aa Nat
 | [],acc=>acc
 |o::os,acc=>LQ os (k3 acc [Mf acc o.after.toList 0])
structure ip where
 i:Nat
 o:Oper
 k:nz
 e:ak
 Fm:Nat
 mf:Nat
 am:Nat
def D5(d:av Nat):Nat:=Option.casesOn d 0 (λd=>Nat.pow 2 d)
def D6:aa Operand->Nat
 | []=>0
 | .tmp t::xs=>Nat.lor (Nat.pow 2 t) (D6 xs)
 |_::xs=>D6 xs
def Mg(a8:List Oper)(g:Option (Nat × Bool)):Nat:=match g with
 |some (g,_)=>(match g7 a8 g with|some o=>D5 o.dst|none=>0)
 |none=>0
def TD(a8:aa Oper)(o:Oper):Nat:=Nat.lor (D5 o.dst) (Nat.lor (D6 o.op.operands.toList) (Mg a8 o.guard))
def Mh(P:Program)(all:aa Oper):Nat->aa Oper->aa Nat->av (aa ip)
 |j,o::os,a::jw=>(pw P o.op).bind λk=>(Mh P all (Nat.succ j) os jw).map λbz=>{ i:=j,o:=o,k:=k,e:=iS k,Fm:=D5 o.dst,mf:=TD all o,am:=a }::bz
 |_,_,_=>some []
def Hv(am kr:Nat):aa ip->aa ip
 | []=>[]
 |x::xs=>bif la am x.i&&!la kr x.i then x::Hv am kr xs else Hv am kr xs
def Hw(kr:Nat):aa ip->aa ip
 | []=>[]
 |x::xs=>bif la kr x.i then Hw kr xs else x::Hw kr xs
def ub(all:aa ip):aa ip->Nat->aa ip
 | [],kr=>Hw kr all
 |x::xs,kr=>bif x.e&&!la kr x.i then k3 (Hv x.am kr all) (x::ub all xs (Nat.lor kr (Nat.lor x.am (Nat.pow 2 x.i))))else ub all xs kr
def TE(a b:Nat):ak:=Nat.beq (Nat.land a b) 0
def DR(x y:ip):ak:=!Nat.beq x.i y.i&&!la x.am y.i&&(!y.e||la y.am x.i)&&(la y.am x.i||(TE x.Fm y.mf&&TE y.Fm x.mf))
def D7(x:ip):aa ip->ak
 | []=>true
 |y::mV=>bif DR x y then D7 x mV else false
def Hb:aa ip->ak
 | []=>true
 |x::xs=>bif D7 x xs then Hb xs else false
def Bm:aa ip->Nat
 | []=>0
 |x::xs=>Nat.lor (Nat.pow 2 x.i) (Bm xs)
def Bn(j:Nat):aa Edge->ak
 | []=>true
 |e::es=>bif !Region.binds .any e||Nat.blt e.on j then Bn j es else false
def HO:Nat->aa Oper->ak
 |_,[]=>true
 |j,o::os=>bif Bn j o.after.toList then HO (Nat.succ j) os else false
def HP(am:Nat):aa ip->Nat
 | []=>0
 |y::mV=>bif y.e&&!la am y.i then Nat.succ (HP am mV)else HP am mV
def s3:aa ip->aa ip->aa eP
 |_,[]=>[]
 |before,x::xs=>{ i:=x.i,o:=x.o,k:=x.k,wa:=HP x.am before }::s3 (x::before) xs
def ath(a8:aa Oper)(l:aa ip):av (aa eP):=
 bif Nat.beq (jJ l) (jJ a8)&&(Nat.beq (Bm l) (Nat.pred (Nat.pow 2 (jJ a8)))&&(HO 0 a8&&Hb l))then some (s3 [] l)else none
def Sj(P:Program)(a8:aa Oper):av (aa eP):=(Mh P a8 0 a8 (LQ a8 [])).bind λbz=>ath a8 (ub bz bz 0)
def Hc(all:aa Oper):aa eP->av (aa lD)
 | []=>some []
 |s::bK=>(z6 all s.o.guard).bind λg=>(Hc all bK).map λis=>⟨g,s.o.dst,s.wa,s.k⟩::is
def TF(P:Program)(a8:aa Oper)(D8:ak):iE:=bif D8
 then(match(Sj P a8).bind (Hc a8)with|some l=>.Bl l|none=>.no)
 else(match Me P a8 a8 with|some l=>.ta l|none=>.no)
def comp(P:Program):Code->iE
 | .skip=>.skip
 | .label _=>.skip
 | .scope c=>.scope (comp P c)
 | .region _ a8 D8=>TF P a8.toList D8
 | .seq a b=>.seq (comp P a) (comp P b)
 | .cond x a b=>(match co x with
  |some x=>.cond x (comp P a) (comp P b)
  |none=>.no)
 | .block id c=>.block id (comp P c)
 | .loop c=>.loop (comp P c)
 | .exit id=>.exit id
 | .ret=>.ret
 | .rangeFunc f bW a b=>(match co f with|some f=>.yl f bW.toList a b|none=>.no)
 |_=>.no
def vJ(P:Program)(f:FuncId):av aAy:=match g7 P.funcs.toList f with
 |some fn=>(match fn.body with
  |some c=>some { body:=comp P c,res:=fn.results.toList }
  |none=>none)
 |none=>none
structure Place where
 ct:Nat
 off:Nat
 spare:Nat
 es:Nat
abbrev cd:=Nat->av Place
mutual
inductive bE (ah:cd):Value->Value->Prop
 |bool (b:Bool):bE ah (.bool b) (.bool b)
 |int (k:IntKind) (n:Int):bE ah (.int k n) (.int k n)
 |string (s:ByteArray):bE ah (.string s) (.string s)
 |Hd:bE ah (.pointer none) (.pointer none)
 |ptr {b o:Nat} {p:Place} (h:ah b=some p):bE ah (.pointer (some ⟨b,o,none⟩)) (.pointer (some ⟨p.ct,p.off+o,none⟩))
 |rR (l c:Nat):bE ah (.slice none l c) (.slice none l c)
 |lp {b o:Nat} {p:Place} (h:ah b=some p) (l c:Nat):bE ah (.slice (some ⟨b,o,none⟩) l c) (.slice (some ⟨p.ct,p.off+o,none⟩) l c)
 |pf {b o s:Nat} {p:Place} (h:ah b=some p) (ar:p.es=s+1) (l c:Nat):bE ah (.slice (some ⟨b,o,some (s+1)⟩) l c) (.slice (some ⟨p.ct,p.off+o,none⟩) l (c+p.spare))
 |pg (b o:Nat) (g aW:Nat) (c:Nat):bE ah (.slice (some ⟨b,o,some 0⟩) 0 0) (.slice (some ⟨g,aW,none⟩) 0 c)
 |He:bE ah (.map none) (.map none)
 |map {r:Nat} {p:Place} (h:ah r=some p):bE ah (.map (some r)) (.map (some p.ct))
 |nilFunc:bE ah .nilFunc .nilFunc
 |nilIface:bE ah .nilIface .nilIface
 |func (f:FuncId) {a eo b ck:List Value} (dg:dm ah a eo) (aG:dm ah b ck):bE ah (.func (.func f) ⟨a⟩ ⟨b⟩) (.func (.func f) ⟨eo⟩ ⟨ck⟩)
 |yield {l:Nat} {p:Place} (h:ah l=some p):bE ah (.func (.yield l) #[] #[]) (.func (.yield p.ct) #[] #[])
 |iface (t:TypeId) {v dG:Value} (h:bE ah v dG):bE ah (.iface t v) (.iface t dG)
 |agg {l cc:List Value} (h:dm ah l cc):bE ah (.agg ⟨l⟩) (.agg ⟨cc⟩)
 |tuple {l cc:List Value} (h:dm ah l cc):bE ah (.tuple ⟨l⟩) (.tuple ⟨cc⟩)
inductive dm (ah:cd):List Value->List Value->Prop
 |nil:dm ah [] []
 |cons {x y:Value} {xs mV:List Value} (h:bE ah x y) (t:dm ah xs mV):dm ah (x::xs) (y::mV)
end
def Sub(ah bw:cd):Prop:=∀b p,ah b=some p->bw b=some p
mutual
theorem bE.mono{ah bw:cd}(A:Sub ah bw):∀{v c:X},bE ah v c->bE bw v c
 |_,_,.bool b=>.bool b
 |_,_,.int k n=>.int k n
 |_,_,.string s=>.string s
 |_,_,.Hd=>.Hd
 |_,_,.ptr h=>.ptr (A _ _ h)
 |_,_,.rR l c=>.rR l c
 |_,_,.lp h l c=>.lp (A _ _ h) l c
 |_,_,.pf h e l c=>.pf (A _ _ h) e l c
 |_,_,.pg b o g aW c=>.pg b o g aW c
 |_,_,.He=>.He
 |_,_,.map h=>.map (A _ _ h)
 |_,_,.nilFunc=>.nilFunc
 |_,_,.nilIface=>.nilIface
 |_,_,.func f D E=>.func f (dm.mono A D) (dm.mono A E)
 |_,_,.yield h=>.yield (A _ _ h)
 |_,_,.iface t h=>.iface t (bE.mono A h)
 |_,_,.agg h=>.agg (dm.mono A h)
 |_,_,.tuple h=>.tuple (dm.mono A h)
theorem dm.mono{ah bw:cd}(A:Sub ah bw):∀{v c:aa X},dm ah v c->dm bw v c
 |_,_,.nil=>.nil
 |_,_,.cons h t=>.cons (bE.mono A h) (dm.mono A t)
end
variable {bw:cd} {p:Place} {cW:kT} {Hx:cd}
theorem dm.length{ah:cd}:∀{l cc:aa X},dm ah l cc->l.length=cc.length
 |_,_,.nil=>rfl
 |_,_,.cons _ t=>by simp[dm.length t]
theorem dm.append{ah:cd}:∀{a A b D:aa X},dm ah a A->dm ah b D->dm ah (a++b) (A++D)
 |_,_,_,_,.nil,h=>h
 |_,_,_,_,.cons h t,k=>.cons h (dm.append t k)
theorem dm.get{ah:cd}:∀{l cc:aa X} {i:Nat} {v:X},dm ah l cc->l[i]? = some v->∃A,cc[i]? = some A/\bE ah v A
 |_,_,0,_,.cons h _,e=>by simp at e;subst e;exact⟨_,rfl,h⟩
 |_,_,i+1,_,.cons _ t,e=>by simpa using dm.get  t ab
theorem dm.aeu{ah:cd}:∀{l cc:aa X},l.length=cc.length->(∀(i:Nat) (v:X),l[i]? = some v->∃A:X,cc[i]? = some A/\bE ah v A)->dm ah l cc
 | [],[],_,_=>.nil
 | [],_::_,h,_=>by simp at h
 |_::_,[],h,_=>by simp at h
 |x::xs,y::E,h,k=>by obtain⟨A,e,D⟩:=k 0 x rfl;simp at e;subst e;exact .cons D (dm.aeu ab λi v e=>by simpa using k (i+1) v ab)
theorem dm.take{ah:cd}(n:Nat):∀{l cc:aa X},dm ah l cc->dm ah (l.take n) (cc.take n):=by
 induction n with
 |zero=>intro l cc _;simpa using dm.nil
 |succ n A=>intro l cc h;cases h with
  |nil=>simpa using dm.nil
  |cons h t=>exact .cons h (A t)
theorem dm.drop{ah:cd}(n:Nat):∀{l cc:aa X},dm ah l cc->dm ah (l.drop n) (cc.drop n):=by
 induction n with
 |zero=>intro l cc h;exact h
 |succ n A=>intro l cc h;cases h with
  |nil=>simpa using dm.nil
  |cons h t=>exact A t
theorem FW(h:qW v=true)(ah:cd):bE ah v v:=by
 unfold qW at h
 split at h <;> first|(exact .func _ .nil .nil)|constructor|(exact absurd h (by simp))
theorem CZ{ah:cd}(h:qW v=true)(k:bE ah v c):c=v:=by
 cases k <;> simp_all[qW]
 all_goals (rename_i A D;cases A <;> cases D <;> grind)
theorem Kj(h:ii l=true)(ah:cd):dm ah l l:=by
 induction l with
 |nil=>exact .nil
 |cons x xs A=>simp[ii]at h;exact .cons (FW h.1 ah) (A h.2)
theorem FX(h:vH v=true)(ah:cd):bE ah v v:=by
 unfold vH at h
 split at h
 ·exact .agg (Kj h ah)
 ·exact .tuple (Kj h ah)
 ·exact FW h ah
theorem bE.cells{ah:cd}{v c:X}(h:bE ah v c):dm ah (c5 v) c.cells.toList:=by
 cases h <;> first|(rename_i h;exact h)|exact .cons (by constructor <;> omega) .nil|skip
theorem Pf{ah:cd}:∀{l cc:aa X},dm ah l cc->ec l=true->∀x∈cc,hv x=true
 |_,_,.nil,_=>by simp
 |_,_,.cons h t,e=>by
  rename_i x y xs E
  have D:hv x=true/\ec xs=true:=by
   unfold ec at e
   grind
  intro z A;rcases hf.1 A with rfl|A
  ·cases h <;> simp_all[hv]
  ·exact Pf t D.2 z A
def ph(ah:cd)(cs:aa X)(c:Array X)(off:Nat):Prop:=∀(i:Nat) (v:X),cs[i]? = some v->∃dG:X,c[off+i]? = some dG/\bE ah v dG
inductive hU (ah:cd):List MapEntry->List MapEntry->Prop
 |nil:hU ah [] []
 |cons {e ep:MapEntry} {es df:List MapEntry} (hk:bE ah e.key ep.key) (aI:bE ah e.val ep.val) (aG:ep.born=e.born) (t:hU ah es df):hU ah (e::es) (ep::df)
def Uv:LoopState->Nat
 | .ready=>0 | .busy=>1 | .done=>2 | .exhausted=>3
def jP(ah:cd)(mf:b8)(a:Array X):Prop:=∀d v,hG mf d=some v->bE ah (r0 v) (a.getD d undef)
def w6(n:Nat)(a8:aa Oper):ak:=a8.all λo=>match o.dst with|some d=>Nat.blt d n|none=>true
def ln(n:Nat):Code->ak
 | .region _ a8 _=>w6 n a8.toList
 | .seq a b=>ln n a&&ln n b
 | .cond _ a b=>ln n a&&ln n b
 | .block _ c=>ln n c
 | .loop c=>ln n c
 | .rangeFunc _ bW a b=>bW.toList.all (λp=>Nat.blt p n)&&ln n a&&ln n b
 | .scope c=>ln n c
 |_=>true
def p9(ah:cd)(m bG:av Nat):Prop:=match m,bG with
 |none,none=>True
 |some r,some z7=>∃q,ah r=some q/\q.ct=z7
 |_,_=>False
def mC(B:Nat)(ah:cd)(w:World)(p:Place):fM->Prop
 | .cells cs true=>p.ct<B/\∃c e e5,w.heap[p.ct]? = some (.cells c e e5)/\ph ah cs c p.off
 | .cells cs false=>B<=p.ct/\p.off=0/\∃c e ao ai,w.heap[p.ct]? = some (.cells c e (ao,ai))/\(ao=ai\/c.size<=ao)/\ph ah cs c 0/\c.size=cs.length+p.spare*p.es
 | .map es cL=>B<=p.ct/\∃df:aa MapEntry,w.heap[p.ct]? = some (.map df.toArray cL)/\hU ah es df
 | .iter m A9 seen st=>B<=p.ct/\p.off=0/\∃bG,w.heap[p.ct]? = some (.mapIter bG A9 seen.toArray st)/\p9 ah m bG
 | .loop st HI mf bW a b=>B<=p.ct/\∃l:Loop,w.heap[p.ct]? = some (.loop l)/\Uv l.state=st/\l.pending=HI/\jP ah mf l.tmps/\l.params.toList=bW/\l.assign=a/\l.body=b /\
   ln l.tmps.size a=true/\ln l.tmps.size b=true/\(∀q∈bW,q<l.tmps.size)
structure ee (B:Nat) (ah:cd) (H:fs) (w:World):Prop where
 base:B<=w.heap.size
 obj:∀b p o,ah b=some p->H b=some o->mC B ah w p o
 inj:∀b ck p eF,ah b=some p->ah ck=some eF->(H b).isSome->(H ck).isSome->B<=p.ct->p.ct=eF.ct->b=ck
 nm:∀b,(H b).isSome->(ah b).isSome
def xw(B:Nat)(ah:cd)(H:fs)(k:Nat):Prop:=∃b p,ah b=some p/\(H b).isSome/\p.ct=k/\B<=k
def xh(ah:cd)(ao ai:Nat):Prop:=∀b,ao<=b->b<ai->ah b=none
def rz(w bj:World):Prop:=bj.tape=w.tape/\w.drawn<=bj.drawn
theorem rz.here{w:World}:rz w w:=⟨rfl,J⟩
theorem rz.trans{w A D:World}(s:rz w A)(t:rz A D):rz w D:=⟨t.1.trans s.1,hu s.2 t.2⟩
structure cE (B:Nat) (ah:cd) (H:fs) (w:World) (ao ai:Nat) (bw:cd) (h6:fs) (bj:World):Prop where
 rel:ee B bw h6 bj
 agree:∀b,(b<ao\/ai<=b)->bw b=ah b
 size:w.heap.size<=bj.heap.size
 os:bj.os=w.os
 tape:rz w bj
 output:bj.output=w.output
 frame:∀k,k<w.heap.size->¬xw B ah H k->bj.heap[k]? = w.heap[k]?
 own:∀k,xw B bw h6 k->xw B ah H k\/w.heap.size<=k
 le:ao<=ai
theorem xh.sub{ah:cd}(A:xh ah ao ai)(D:∀b,(b<ao\/ai<=b)->bw b=ah b):Sub ah bw:=by
 intro b p h
 by_cases E:b<ao
 ·grind
 by_cases I:ai<=b
 ·grind
 rw[A b J J]at h;cases h
theorem cE.sub{B:Nat}{ah bw:cd}{H h6:fs}{w bj:World}{ao ai:Nat}(s:cE B ah H w ao ai bw h6 bj)(A:xh ah ao ai):Sub ah bw:=A.sub s.agree
theorem cE.refl{B:Nat}{ah:cd}{w:World}(n:Nat)(h:ee B ah H w):cE B ah H w n n ah H w :=
 ⟨h,ab,J,rfl,.here,rfl,ab,ab,J⟩
theorem cE.trans{B:Nat}{ah Hx A:cd}{H Ma D:fs}{w oI M:World}{a b c:Nat}(s:cE B ah H w a b Hx Ma oI)(t:cE B Hx Ma oI b c A D M):cE B ah H w a c A D M where
 rel:=t.rel
 agree:=λx h=>by have Z:=s.le;have V:=t.le;rw[t.agree x J,s.agree x J]
 size:=hu s.size t.size
 os:=t.os.trans s.os
 tape:=s.tape.trans t.tape
 output:=t.output.trans s.output
 frame:=λk E I=>by rw[t.frame k (J2 E s.size) (λN=>(s.own k N).elim I J),s.frame k E I]
 own:=λk h=>(t.own k h).elim (λh=>s.own k h) (λh=>.inr (hu s.size h))
 le:=hu s.le t.le
theorem xh.after{B:Nat}{ah:cd}{w:World}{a N:Nat}(s:cE B ah H w a b Hx Ma oI)(h:xh ah a N):xh Hx b N:=by intro x A D;rw[s.agree x J];exact h x (hu s.le A) D
theorem xh.mono{ah:cd}{a D A:Nat}(h:xh ah a b)(N:a<=D)(E:A<=b):xh ah D A:=λx I M=>h x J J
theorem ph.mono{ah bw:cd}(A:Sub ah bw){cs:aa X}{c:Array X}{off:Nat}(h:ph ah cs c off):ph bw cs c off :=
 λi v e=>let ⟨dG,ep,aI⟩:=h i v e;⟨dG,ep,aI.mono A⟩
theorem hU.mono{ah bw:cd}(A:Sub ah bw):∀{es df:aa MapEntry},hU ah es df->hU bw es df
 |_,_,.nil=>.nil
 |_,_,.cons I E D t=>.cons (I.mono A) (E.mono A) D (hU.mono A t)
theorem jP.mono{ah bw:cd}(D:Sub ah bw){A:b8}{a:Array X}(h:jP ah A a):jP bw A a:=λd v e=>(h d v e).mono D
theorem p9.mono{ah:cd}(A:Sub ah bw){m:av Nat}(h:p9 ah m bG):p9 bw m bG:=by
 cases m <;> cases bG <;> simp only[p9]at h ⊢;obtain⟨q,D,e⟩:=h;exact⟨q,A _ _ D,e⟩
theorem mC.mono{B:Nat}{ah bw:cd}{w bj:World}{p:Place}{o:fM}(E:Sub ah bw)(bN:bj.heap[p.ct]? = w.heap[p.ct]?)(h:mC B ah w p o):mC B bw bj p o:=by
 cases o with
 |cells cs bC =>
  cases bC with
  |true =>
   obtain⟨D,c,e,e5,I,A⟩:=h;exact⟨D,c,e,e5,ab,A.mono E⟩
  |false =>
   obtain⟨D,V,c,e,ao,ai,I,A,Z,N⟩:=h;exact⟨D,V,c,e,ao,ai,ab,A,Z.mono E,N⟩
 |map es cL =>
  obtain⟨D,df,I,A⟩:=h;exact⟨D,df,ab,A.mono E⟩
 |iter m M seen st =>
  obtain⟨D,V,bG,I,A⟩:=h;exact⟨D,V,bG,ab,A.mono E⟩
 |loop st HI mf bW a b =>
  obtain⟨D,l,I,A,Z,N,b9⟩:=h;exact⟨D,l,ab,A,Z,N.mono E,b9⟩
theorem ee.less{B:Nat}{ah:cd}{w:World}(h:ee B ah H w)(ar:∀b o,h6 b=some o->H b=some o):ee B ah h6 w where
 base:=h.base
 obj:=λb p o A E=>h.obj b p o A ab
 inj:=λb I p V A E M Z=>h.inj b I p V A E (by obtain⟨o,D⟩:=nJ.1 M;grind) (by obtain⟨o,D⟩:=nJ.1 Z;grind)
 nm:=λb N=>h.nm b (by obtain⟨o,D⟩:=nJ.1 N;grind)
theorem ee.world{B:Nat}{ah:cd}{w:World}(h:ee B ah H w)(A:w.heap.size<=bj.heap.size)(I:∀b p,ah b=some p->(H b).isSome->bj.heap[p.ct]? = w.heap[p.ct]?):ee B ah H bj where
 base:=hu h.base A
 obj:=λb p o D E=>(h.obj b p o D E).mono (λ_ _ h=>h) ab
 inj:=h.inj
 nm:=h.nm
theorem mC.DB{B:Nat}{ah:cd}{w:World}{o:fM}(h:mC B ah w p o):p.ct<w.heap.size:=by
 cases o with
 |cells cs bC =>
  cases bC with
  |true=>obtain⟨_,c,e,M,A,_⟩:=h;grind
  |false=>obtain⟨_,_,c,e,ao,ai,A,_⟩:=h;grind
 |map es cL=>obtain⟨_,df,A,_⟩:=h;grind
 |iter m D E st=>obtain⟨_,_,bG,A,_⟩:=h;grind
 |loop st I V N a b=>obtain⟨_,l,A,_⟩:=h;grind
def fs.put(H:fs)(b:Nat)(o:fM):fs:=λk=>if k=b then some o else H k
theorem vy(h:ad)(b:Nat)(o:fM):u (F h b o)=fs.put (u h) b o:=funext λk=>AE h b o k
theorem cE.make{B:Nat}{ah:cd}{w:World}{U:Nat}{o:fM}(h:ee B ah H w)(bm:ah U=none)(h3:bj.heap.size=w.heap.size+1)(k6:∀k,k<w.heap.size->bj.heap[k]? = w.heap[k]?)(Z:bj.os=w.os)(Uw:rz w bj)(Ux:bj.output=w.output)(bv:p.ct=w.heap.size)(fj:mC B (λk=>if k=U then some p else ah k) bj p o):
  cE B ah H w U (U+1) (λk=>if k=U then some p else ah k) (H.put U o) bj:=by
 have V:Sub ah (λk=>if k=U then some p else ah k):=λb q A=>ab
 have ci:∀b q,ah b=some q->(H b).isSome->q.ct<w.heap.size:=λb q A E=>by obtain⟨aW,D⟩:=nJ.1 E;exact(h.obj b q aW A D).DB
 refine⟨⟨by have:=h.base;omega,?_,?_,?_⟩,?_,J,Z,Uw,Ux,ab,?_,J⟩
 ·intro b q aW A D
  by_cases e:b=U
  ·subst e;simp[fs.put]at A D;subst A;subst D;exact fj
  ·simp only[e,fc]at A;simp only[fs.put,e,fc]at D;exact(h.obj b q aW A D).mono V ab
 ·intro b ck q kU A I E M dZ px
  by_cases e:b=U <;> by_cases N:ck=U
  ·omega
  ·subst e;simp at A;subst A;simp only[N,fc]at I;simp only[fs.put,N,fc]at M
   grind
  ·subst N;simp at I;subst I;simp only[e,fc]at A;simp only[fs.put,e,fc]at E
   grind
  ·simp only[e,fc]at A;simp only[N,fc]at I;simp only[fs.put,e,fc]at E;simp only[fs.put,N,fc]at M;exact h.inj b ck q kU A I E M dZ px
 ·intro b E
  by_cases e:b=U
  ·grind
  ·simp only[fs.put,e,fc]at E;simp only[e,fc];exact h.nm b E
 ·grind
 ·rintro k ⟨b,q,A,E,rfl,dZ⟩
  by_cases e:b=U
  ·grind
  ·simp only[e,fc]at A;simp only[fs.put,e,fc]at E;exact .inl ⟨b,q,A,E,rfl,dZ⟩
theorem cE.change{B:Nat}{ah:cd}{w:World}(U:Nat){o:fM}(h:ee B ah H w)(aG:ah b=some p)(fj:H b=some o)(dZ:B<=p.ct)(h3:bj.heap.size=w.heap.size)(E:∀k,k≠p.ct->bj.heap[k]? = w.heap[k]?)(xM:bj.os=w.os)(I:rz w bj)(V:bj.output=w.output)(M:mC B ah bj p aW):cE B ah H w U U ah (H.put b aW) bj:=by
 refine⟨⟨by have:=h.base;omega,?_,?_,?_⟩,ab,J,xM,I,V,?_,?_,J⟩
 ·intro x q y A D
  by_cases e:x=b
  ·subst e;rw[aG]at A;cases A;simp[fs.put]at D;subst D;exact M
  ·simp only[fs.put,e,fc]at D;refine(h.obj x q y A D).mono (λ_ _ h=>h) (E _ λpx=>e ?_);exact h.inj x b q p A aG ab ab J px
 ·have N:∀x,((H.put b aW) x).isSome->(H x).isSome:=λx A=>by
   by_cases e:x=b
   ·grind
   ·simpa[fs.put,e]using A
  exact λx y q kU A D ar lP=>h.inj x y q kU A D ab ab
 ·intro x A
  by_cases e:x=b
  ·grind
  ·simp only[fs.put,e,fc]at A;exact h.nm x A
 ·intro k _ bm;refine E k λe=>bm ⟨b,p,aG,ab,e.symm,J⟩
 ·rintro k ⟨x,q,A,ar,rfl,Z⟩;refine .inl ⟨x,q,A,?_,rfl,Z⟩
  by_cases e:x=b
  ·grind
  ·simpa[fs.put,e]using ar
def kw(ah:cd)(U:Nat):Prop:=∀b,U<=b->ah b=none
theorem kw.here{ah:cd}{U:Nat}(h:kw ah U):ah U=none:=h U J
theorem kw.sub{B:Nat}{ah:cd}{w:World}(h:kw ah ao)(s:cE B ah H w ao ai bw h6 bj):Sub ah bw:=λb p A=>by
 by_cases D:b<ao
 ·rw[s.agree b J];omega
 ·rw[h b J]at A;grind
theorem kw.after{B:Nat}{ah:cd}{w:World}(h:kw ah ao)(s:cE B ah H w ao ai bw h6 bj):kw bw ai:=λb A=>by rw[s.agree b J];exact h b (hu s.le A)
def Fin(B:Nat)(ah:cd)(h:ad)(w:World)(U:Nat)(K:X->ad->Nat->Prop)(e:Ending)(bj:World):Prop :=
 ∃v ac Y bw c,e = .returned c/\K v ac Y/\bE bw v c/\cE B ah (u h) w U Y bw (u ac) bj
def C8(P:Program)(f:FuncId):Prop:=∃fn,P.funcs[f]? = some fn/\fn.body.isSome=true/\(fn.name == "runtime.NumGoroutine")=false
abbrev bD:=X->ad->Nat->Prop
def nA(r:av Nat):Fence:={ Fence.wide with round:=r }
variable {kV:bD} {C:bD->Prop}
theorem aax(r:av Nat)(n:Nat)(P:Program):CallsIn (nA r) n P=CallsIn Fence.wide n P:=rfl
theorem amD(r:av Nat)(n:Nat)(P:Program):RoundIn (nA r) n P=RoundIn Fence.wide n P:=rfl
def lz(P:Program)(f:FuncId)(args:aa X)(h:ad)(U:Nat)(K:bD):Prop :=
 C8 P f/\∀(B:Nat) (ah:cd) (w:World) (DS:aa X),ee B ah (u h) w->kw ah U->dm ah args DS->∀n,CallsIn Fence.wide n P f ⟨DS⟩ w (Fin B ah h w U K)
def uA(P:Program)(l:Nat)(args:aa X)(h:ad)(U:Nat)(K:bD):Prop :=
 ∀(B:Nat) (ah:cd) (w:World) (DS:aa X) (p:Place),ee B ah (u h) w->kw ah U->dm ah args DS->ah l=some p ->
  ∃pJ:Loop,w.heap[p.ct]? = some (.loop pJ)/\DS.length=pJ.params.size/\∀n,RoundIn Fence.wide n P p.ct pJ.fn ((pJ.params.zip ⟨DS⟩).foldl (λtmps (t,a)=>tmps.setIfInBounds t a) pJ.tmps) pJ.assign pJ.body w (Fin B ah h w U K)
def u1(s:ak)(C:bD->Prop)(K:bD):Prop:=match s with
 |true=>∃v h U,K v h U/\C (λdG ac Y=>dG=v/\ac=h/\Y=U)
 |false=>C K
def aD(P:Program)(s:ak)(f:FuncId)(args:aa X)(h:ad)(U:Nat)(K:bD):Prop:=u1 s (lz P f args h U) K
def mg(P:Program)(s:ak)(l:Nat)(args:aa X)(h:ad)(U:Nat)(K:bD):Prop:=u1 s (uA P l args h U) K
theorem Fin.mono{B:Nat}{ah:cd}{h:ad}{w:World}{U:Nat}{K:bD}(A:∀v h U,K v h U->kV v h U){e:Ending}:Fin B ah h w U K e bj->Fin B ah h w U kV e bj:=λ⟨v,ac,Y,bw,c,e,D,r⟩=>⟨v,ac,Y,bw,c,e,A _ _ _ D,r⟩
theorem lz.mono{P:Program}{f:FuncId}{args:aa X}{h:ad}{U:Nat}{K kV:bD}(A:lz P f args h U K)(I:∀v h U,K v h U->kV v h U):lz P f args h U kV :=
 ⟨A.1,λB ah w a M D E n=>(A.2 B ah w a M D E n).mono λ_ _=>Fin.mono I⟩
theorem uA.mono{P:Program}{l:Nat}{args:aa X}{h:ad}{U:Nat}{K kV:bD}(M:uA P l args h U K)(I:∀v h U,K v h U->kV v h U):uA P l args h U kV :=
 λB ah w a p N A D E=>let ⟨pJ,aY,aJ,ce⟩:=M B ah w a p N A D E;⟨pJ,aY,aJ,λn=>(ce n).mono λ_ _=>Fin.mono I⟩
theorem u1.mono{s:ak}(M:∀{K kV:bD},C K->(∀v h U,K v h U->kV v h U)->C kV){K:bD}(D:u1 s C K)(A:∀v h U,K v h U->kV v h U):u1 s C kV:=by
 cases s with
 |true=>obtain⟨v,h,U,I,E⟩:=D;exact⟨v,h,U,A _ _ _ I,E⟩
 |false=>exact M D A
theorem u1.down{s:ak}(I:∀{K kV:bD},C K->(∀v h U,K v h U->kV v h U)->C kV){K:bD}(A:u1 s C K):C K:=by
 cases s with
 |true=>obtain⟨v,h,U,D,E⟩:=A;exact I E (by rintro _ _ _ ⟨rfl,rfl,rfl⟩;exact D)
 |false=>exact A
theorem aD.mono{P:Program}{s:ak}{f:FuncId}{args:aa X}{h:ad}{U:Nat}{K kV:bD}(A:aD P s f args h U K)(D:∀v h U,K v h U->kV v h U):aD P s f args h U kV:=u1.mono lz.mono A D
theorem mg.mono{P:Program}{s:ak}{l:Nat}{args:aa X}{h:ad}{U:Nat}{K kV:bD}(A:mg P s l args h U K)(D:∀v h U,K v h U->kV v h U):mg P s l args h U kV:=u1.mono uA.mono A D
noncomputable section
def dR(aj:b8)(x:e2):R X:=match x with
 | .t n=>(match hG aj n with|some (some v)=>.ok v|some none=>.ok km|none=>.no "temp")
 | .v v=>.ok v
def nW(aj:b8):aa e2->R (aa X)
 | []=>.ok []
 |x::xs=>R.bind (dR aj x) λv=>R.bind (nW aj xs) λaE=>.ok (v::aE)
def Bo(aj:b8)(x:av e2):R (av X):=match x with
 |none=>.ok none
 |some x=>R.bind (dR aj x) λv=>.ok (some v)
def zc(aj:b8):aa (Nat × Nat × e2)->R (aa (Nat × Nat × X))
 | []=>.ok []
 |(o,z,x)::xs=>R.bind (dR aj x) λv=>R.bind (zc aj xs) λaE=>.ok ((o,z,v)::aE)
def nX(P:Program)(aj:b8)(e:Ji):R X:=match e with
 | .io x=>dR aj x
 | .pick c a b=>R.bind (dR aj c) λc=>R.bind (dR aj a) λa=>R.bind (dR aj b) λb=>Ht c a b
 | .bin op t x y=>R.bind (dR aj x) λx=>R.bind (dR aj y) λy=>bin P op t x y
 | .un op x=>R.bind (dR aj x) λx=>d2 op x
 | .conv d x=>R.bind (dR aj x) λx=>xe d x
 | .v9 off bU x=>R.bind (dR aj x) λx=>Bk off bU x
 | .ag5 off x=>R.bind (dR aj x) λx=>xf off x
 | .ixA k x i=>R.bind (dR aj x) λx=>R.bind (dR aj i) λi=>il k x i
 | .idx t x i=>R.bind (dR aj x) λx=>R.bind (dR aj i) λi=>axc P t x i
 | .ny s x ao ai jh=>R.bind (dR aj x) λx=>R.bind (Bo aj ao) λao=>R.bind (Bo aj ai) λai=>R.bind (Bo aj jh) λjh=>iY s x ao ai jh
 | .ext x i=>R.bind (dR aj x) λx=>dz x i
 | .ag6 x=>R.bind (dR aj x) λx=>cr x
 | .mkf f a b=>R.bind (nW aj a) λa=>R.bind (nW aj b) λb=>.ok (.func (.func f) ⟨a⟩ ⟨b⟩)
 | .ifc t x=>R.bind (dR aj x) λx=>.ok (.iface t x)
 | .asr a ok x=>R.bind (dR aj x) λx=>K8 P a ok x
 | .W1 b x y=>R.bind (dR aj x) λx=>R.bind (dR aj y) λy=>min2 b x y
 | .cap t x=>R.bind (dR aj x) λx=>HM P t x
 | .build z nd=>R.bind (zc aj nd) λbW=>c8 z bW
def xx(aj:b8)(e:Fl):R kT:=match e with
 | .new l=>.ok (.ptr (.cells l false))
 | .box x=>R.bind (dR aj x) λx=>GI (c5 x)
 | .Uu len base nd=>R.bind (zc aj nd) λbW=>fU len base bW
 | .mkm=>.ok .map
 | .mks z l c=>R.bind (dR aj l) λl=>R.bind (dR aj c) λc=>xt z l c
def pred(P:Program)(aj:b8)(e:H5)(h:ad):R X:=match e with
 | .ld bU x=>R.bind (dR aj x) λx=>im bU h x
 | .lkp dU z m k ok=>R.bind (dR aj m) λm=>R.bind (dR aj k) λk=>lL P h dU z ok m k
 | .lens x=>R.bind (dR aj x) λx=>xu x
 | .ag7 x=>R.bind (dR aj x) λx=>xv h x
 | .entry x=>R.bind (dR aj x) λx=>w5 h x
def bJ(v:X)(a b:Prop):Prop:=match v with
 | .bool t=>(match t with|true=>a|false=>b)
 |_=>False
def ey(r:R kT)(h:ad)(U:Nat)(k:X->ad->Nat->Prop):Prop:=ag r λb=>k (xK U b) (F h U (tn b)) (U+1)
def dB(r:ff)(k:X->ad->Nat->Prop):Prop:=match r with
 | .val v h U=>k v h U
 |_=>False
def gB(P:Program)(s:ak)(r:ff)(k:X->ad->Nat->Prop):Prop:=match r with
 | .call f args h U=>aD P s f args h U k
 | .round l args h U=>mg P s l args h U k
 |_=>False
def wb(s:ak)(h:ad)(U:Nat)(v:X)(k:X->ad->Nat->Prop):Prop :=
 ∃it r A9 st cL seen es,s=false/\v = .pointer (some ⟨it,0,none⟩)/\u h it=some (.iter (some r) A9 seen st)/\u h r=some (.map es cL)/\Ly seen es st=true /\
  (leftOf seen es=[]->k (.tuple #[.bool false]) h U)/\∀e∈leftOf seen es,e.born<A9/\k (.tuple #[.bool true,e.key,e.val]) (F h it (.iter (some r) A9 (seen++[e.born]) cL)) U
def nT(v:X)(r:R X):ak:=match r with | .ok w=>mz v w | .no _=>false
def py(f:ad->R X)(v:X)(p:Prop):Nat->aa ad->Prop
 |0,_=>p
 |n+1,h::ar=>nT v (f h)=true/\py f v p n ar
 |_+1,[]=>False
def Ci{eV:Type}(r:R eV)(k:eV->Prop):Prop:=id (ag r k)
def lE(g:av (Nat × ak))(aj:b8)(a b:b8->Prop):Prop:=match g with
 |none=>a aj
 |some (t,w)=>(match hG aj t with
  |some (some v)=>bJ v ((match w with|true=>a|false=>b) ((t,some (.bool true))::aj)) ((match w with|true=>b|false=>a) ((t,some (.bool false))::aj))
  |some none=>b aj
  |none=>False)
section
variable (P:Program) (s:ak)
def nB(e:wx)(aj:b8)(h:ad)(U:Nat)(k:X->ad->Nat->Prop):Prop:=match e with
 | .st n a x=>ag (dR aj a) λa=>ag (dR aj x) λx=>ag (a7 h n a x) λh=>k km h U
 | .zC dU m key x=>ag (dR aj m) λm=>ag (dR aj key) λkey=>ag (dR aj x) λx=>ag (pq P dU h m key x) λh=>k km h U
 | .jW x=>ag (dR aj x) λx=>dB (s2 h U x) k
 | .fW x=>ag (dR aj x) λx=>wb s h U x k
 | .call f args=>ag (nW aj args) λl=>aD P s f l h U k
 | .Bb f args=>ag (dR aj f) λf=>ag (nW aj args) λl=>gB P s (jc h U l f) k
 | .app z x y=>ag (dR aj x) λx=>ag (dR aj y) λy=>dB (dS (dv z h U x y)) k
 | .bi b af args=>ag (nW aj args) λl=>dB (dS (sV P b af h U l)) k
 | .inv r m args=>ag (nW aj args) λl=>ag (dR aj r) λv=>gB P s (p0 P h U l m v) k
def mh(d:av Nat)(i:nz)(aj:b8)(h:ad)(U:Nat)(k:b8->ad->Nat->Prop):Prop:=match i with
 | .fB (.io x)=>Ci (dR aj x) λv=>k (et aj d (some v)) h U
 | .fB (.pick c a b)=>ag (dR aj c) λc=>ag (dR aj a) λa=>ag (dR aj b) λb=>bJ c (k (et aj d (some a)) h U) (k (et aj d (some b)) h U)
 | .fB e=>ag (nX P aj e) λv=>k (et aj d (some v)) h U
 | .iK e=>ey (xx aj e) h U λv h U=>k (et aj d (some v)) h U
 | .red e=>ag (pred P aj e h) λv=>k (et aj d (some v)) h U
 | .fC e=>nB P s e aj h U λv h U=>k (et aj d (some v)) h U
def nC(l:aa lD):b8->ad->Nat->(b8->ad->Nat->Prop)->Prop :=
 List.rec (motive:=λ_=>b8->ad->Nat->(b8->ad->Nat->Prop)->Prop) (λaj h U K=>K aj h U)
  (λi _ ev aj h U K=>lE i.g aj (λaj=>mh P s i.d i.k aj h U λaj h U=>ev aj h U K) (λaj=>ev (et aj i.d none) h U K)) l
def lQ(d:av Nat)(c:Nat)(i:nz)(aj:b8)(h:ad)(U:Nat)(b:ad)(ar:aa ad)(k:b8->ad->Nat->ad->aa ad->Prop):Prop:=match i with
 | .fB (.io x)=>Ci (dR aj x) λv=>k (et aj d (some v)) h U b ar
 | .fB (.pick c x y)=>ag (dR aj c) λc=>ag (dR aj x) λx=>ag (dR aj y) λy=>bJ c (k (et aj d (some x)) h U b ar) (k (et aj d (some y)) h U b ar)
 | .fB e=>ag (nX P aj e) λv=>k (et aj d (some v)) h U b ar
 | .iK e=>ey (xx aj e) h U λv h U=>k (et aj d (some v)) h U b ar
 | .red e=>ag (pred P aj e b) λv=>Nat.rec (k (et aj d (some v)) h U b ar) (λ_ _=>py (pred P aj e) v (k (et aj d (some v)) h U b ar) c ar) c
 | .fC (.st n a x)=>ag (dR aj a) λa=>ag (dR aj x) λx=>ag (a7 h n a x) λh=>k (et aj d (some km)) h U h (b::ar)
 | .fC (.zC dU m key x)=>ag (dR aj m) λm=>ag (dR aj key) λkey=>ag (dR aj x) λx=>ag (pq P dU h m key x) λh=>k (et aj d (some km)) h U h (b::ar)
 | .fC e=>nB P true e aj h U λv ac Y=>U<=Y/\k (et aj d (some v)) ac Y ac (b::ar)
def hX(l:aa lD):b8->ad->Nat->ad->aa ad->(b8->ad->Nat->Prop)->Prop :=
 List.rec (motive:=λ_=>b8->ad->Nat->ad->aa ad->(b8->ad->Nat->Prop)->Prop) (λaj h U _ _ K=>K aj h U)
  (λi _ ev aj h U b ar K=>lE i.g aj (λaj=>lQ P i.d i.c i.k aj h U b ar λaj h U b ar=>ev aj h U b ar K)
   (λaj=>Bool.rec (ev (et aj i.d none) h U b ar K) (ev (et aj i.d none) h U h (b::ar) K) (iS i.k))) l
abbrev ig:=b8->ad->Nat->Prop
abbrev aH:=aa X->ad->Nat->Prop
def aQ:aa X->Nat->X
 | [],_=>km
 |x::l,i=>match i with|0=>x|i+1=>aQ l i
def nY:aa Nat->aa X->Nat->b8
 | [],_,_=>[]
 |n::L,aE,i=>(n,some (aQ aE i))::nY L aE (i+1)
def lZ:aa Nat->b8->(aa X->Prop)->Prop
 | [],_,k=>k []
 |n::L,aj,k=>match hG aj n with
  |some (some v)=>lZ L aj λaE=>k (v::aE)
  |some none=>lZ L aj λaE=>k (km::aE)
  |none=>False
def jx{aA:Type}:aa (Nat × (aA->ad->Nat->Prop))->Nat->aA->ad->Nat->Prop
 | [],_=>λ_ _ _=>False
 |p::l,i=>bif Nat.beq p.1 i then p.2 else jx l i
abbrev ob:=aa X->ad->Nat->aH->aa (Nat × aH)->aH->Prop
def bq(B:ob)(aE:aa X)(h:ad)(U:Nat)(E:aa (Nat × aH))(R:aH):Prop :=
 ∃(eI:Nat->aa X->ad->Nat->Prop) (m:Nat),eI m aE h U/\∀m aE h U,eI m aE h U->B aE h U (λaE h U=>∃bG,bG<m/\eI bG aE h U) E R
def hh:iE->Nat
 | .seq a b=>hh a+hh b
 | .cond _ a b=>hh a+hh b
 | .block _ c=>hh c
 | .scope c=>hh c
 | .loop c=>hh c+1
 |_=>0
def ij(l:aa (aa Nat))(i:Nat):aa Nat:=match g7 l i with|some x=>x|none=>[]
def pr(i:Nat):iE->ak
 | .seq a b=>pr i a||pr i b
 | .cond _ a b=>pr i a||pr i b
 | .block _ c=>pr i c
 | .scope c=>pr i c
 | .loop c=>pr i c
 | .exit j=>Nat.beq i j
 |_=>false
def r2:iE->ak
 | .seq a b=>r2 a||r2 b
 | .cond _ a b=>r2 a||r2 b
 | .block _ c=>r2 c
 | .scope c=>r2 c
 | .loop c=>r2 c
 | .ret=>true
 |_=>false
def rb(L:aa Nat)(k:aH):ig:=λaj h U=>lZ L aj λaE=>k aE h U
def Et(L:aa Nat)(k:ig):aH:=λaE h U=>k (nY L aE 0) h U
def r3(L:aa Nat):aa (Nat × aH)->aa (Nat × ig)
 | []=>[]
 |p::l=>(p.1,rb L p.2)::r3 L l
def rk(L:aa Nat)(c:iE):aa (Nat × ig)->aa (Nat × aH)
 | []=>[]
 |p::l=>bif pr p.1 c then(p.1,Et L p.2)::rk L c l else rk L c l
def xN(L:aa Nat)(c:iE)(k:ig):aH:=bif r2 c then Et L k else λ_ _ _=>False
def zu(l:Nat)(N R:ad->Nat->Prop):bD:=λ_ h U=>∃st p BF bW a b,u h l=some (.loop st p BF bW a b)/\st≠1/\((p=none/\N (F h l (.loop 3 p BF bW a b)) U)\/(p=some .ret/\R (F h l (.loop 3 p BF bW a b)) U))
def uB(P:Program)(s:ak)(v:X)(h:ad)(U:Nat)(o:fM)(K:bD):Prop:=match v with
 | .func (.func g) a b=>aD P s g (a.toList++(.func (.yield U) #[] #[]::b.toList)) (F h U o) (U+1) K
 |_=>False
def fP(eW:aa (aa Nat)):iE->Nat->b8->ad->Nat->ig->aa (Nat × ig)->ig->Prop
 | .skip,_,aj,h,U,N,_,_=>N aj h U
 | .exit id,_,aj,h,U,_,E,_=>jx E id aj h U
 | .ret,_,aj,h,U,_,_,R=>R aj h U
 | .scope c,i,aj,h,U,N,E,R=>fP eW c i aj h U N E R
 | .ta l,_,aj,h,U,N,_,_=>nC P s l aj h U N
 | .Bl l,_,aj,h,U,N,_,_=>hX P l aj h U h [] N
 | .yl f bW a b,_,aj,h,U,N,_,R=>ag (dR aj f) λv=>uB P s v h U (.loop 0 none aj bW a b) (zu U (N aj) (R aj))
 | .seq a b,i,aj,h,U,N,E,R=>fP eW a i aj h U (λaj h U=>fP eW b (i+hh a) aj h U N E R) E R
 | .block id c,i,aj,h,U,N,E,R=>fP eW c i aj h U N ((id,N)::E) R
 | .cond x a b,i,aj,h,U,N,E,R=>(match x with
  | .v v=>bJ v (fP eW a i aj h U N E R) (fP eW b (i+hh a) aj h U N E R)
  | .t n=>(match hG aj n with
   |some (some v)=>bJ v (fP eW a i ((n,some (.bool true))::aj) h U N E R) (fP eW b (i+hh a) ((n,some (.bool false))::aj) h U N E R)
   |_=>False))
 | .loop c,i,aj,h,U,_,E,R=>lZ (ij eW i) aj λaE=>bq (λaE h U N E R=>fP eW c (i+1) (nY (ij eW i) aE 0) h U (rb (ij eW i) N) (r3 (ij eW i) E) (rb (ij eW i) R)) aE h U
   (rk (ij eW i) c E) (xN (ij eW i) c R)
 | .no,_,_,_,_,_,_,_=>False
end
def ul(P:Program)(aj:b8)(h:ad):aa ResultVar->(aa X->Prop)->Prop
 | [],k=>k []
 | .tmp t::bz,k=>ag (dR aj (.t t)) λv=>ul P aj h bz λaE=>k (v::aE)
 | .cell a t::bz,k=>ag (dR aj (.t a)) λv=>ag (R.of "type" (nb P t) λbU=>im bU h v) λv=>ul P aj h bz λaE=>k (v::aE)
def r4(l:aa X):X:=match l with | [v]=>v|l=>.tuple ⟨l⟩
def tb(P:Program)(bz:aa ResultVar)(K:bD):ig:=λaj h U=>ul P aj h bz λl=>K (r4 l) h U
def s4:aa X->Nat->b8
 | [],_=>[]
 |v::aE,i=>(i,some v)::s4 aE (i+1)
def nD(P:Program)(s:ak)(eW:aa (aa Nat))(f:FuncId)(args:aa X)(h:ad)(U:Nat)(K:bD):Prop:=match vJ P f with
 |some nE=>fP P s eW nE.body 0 (s4 args 0) h U (tb P nE.res K) [] (tb P nE.res K)
 |none=>False
def zd:iE->Nat->av iE
 | .seq a b,i=>(bif Nat.blt i (hh a)then zd a i else zd b (i-hh a))
 | .cond _ a b,i=>(bif Nat.blt i (hh a)then zd a i else zd b (i-hh a))
 | .block _ c,i=>zd c i
 | .scope c,i=>zd c i
 | .loop c,i=>(match i with|0=>some c|i+1=>zd c i)
 |_,_=>none
def bA(P:Program)(s:ak)(eW:aa (aa Nat))(f:FuncId)(i:Nat):ob:=match vJ P f with
 |some nE=>(match zd nE.body i with
  |some c=>λaE h U N E R=>fP P s eW c (i+1) (nY (ij eW i) aE 0) h U (rb (ij eW i) N) (r3 (ij eW i) E) (rb (ij eW i) R)
  |none=>λ_ _ _ _ _ _=>False)
 |none=>λ_ _ _ _ _ _=>False
end
theorem pY(g o n:Nat):(⟨g,o,none⟩:Addr).add n=⟨g,o+n,none⟩:=by unfold Addr.add;grind
theorem Zh(h:hv v=true):v.oneCell'=true:=by cases v <;> simp_all[hv,Value.oneCell']
theorem ee.cells{B:Nat}{ah:cd}{H:fs}{w:World}(M:ee B ah H w){b:Nat}{p:Place}{cs:aa X}{bC:ak}(N:ah b=some p)(V:H b=some (.cells cs bC)):
  ∃c e A,w.heap[p.ct]? = some (.cells c e A)/\ph ah cs c p.off:=by
 have:=M.obj b p _ N V;cases bC with
 |true=>obtain⟨_,c,e,A,E,D⟩:=this;exact⟨c,e,A,E,D⟩
 |false=>obtain⟨_,I,c,e,ao,ai,E,_,D,_⟩:=this;exact⟨c,e,(ao,ai),E,by rw[I];exact D⟩
theorem ph.cut{ah:cd}{c:Array X}{o n:Nat}(h:ph ah cs c off)(N:o+n<=cs.length):
  ∃cc:aa X,cc.length=n/\dm ah ((cs.drop o).take n) cc/\∀j v,cc[j]? = some v->c[off+o+j]? = some v:=by
 have A:∀j,j<n->off+o+j<c.size:=λj M=>by
  obtain⟨E,e,_⟩:=h (o+j) (cs[o+j]'J) ab
  grind
 refine⟨(c.toList.drop (off+o)).take n,?_,?_,?_⟩
 ·simp only[ox,FH,FD];rcases As n with D|D
  ·omega
  ·have:=A (n-1) J;omega
 ·refine dm.aeu ?_ ?_
  ·simp only[ox,FH,FD];rcases As n with D|D
   ·omega
   ·have:=A (n-1) J;omega
  ·intro j v e;simp only[vi,vh]at e ⊢
   split at e
   ·rename_i M
    obtain⟨E,V,I⟩:=h (o+j) v e;exact⟨E,ab,I⟩
   ·cases e
 grind
theorem Yq{P:Program}(h:nb P t=some bU):
  ∃i d,P.info? t=some i/\P.underlying t=some d /\
   ((∃n,bU=some n/\i.size=n/\∀w,(isAgg t).run P w = .ok true w)\/(bU=none/\∀w,(isAgg t).run P w = .ok false w)):=by
 unfold nb j8 at h;cases A:P.underlying t with
 |none=>grind
 |some d =>
  cases ai:P.info? t with
  |none=>rw[A,ai]at h;grind
  |some i =>
   refine⟨i,d,rfl,rfl,?_⟩;rw[A,ai]at h;have D:∀w,(underlying t).run P w = .ok d w:=run_underlying A;cases d <;> simp at h <;> first
    |(right;refine⟨h.symm,λw=>?_⟩;simp[isAgg,D];done)
    |(left;refine⟨_,h.symm,rfl,λw=>?_⟩;simp[isAgg,D];done)
theorem FY{P:Program}{i:TypeInfo}(h:P.info? t=some i)(w:World):(sizeOf t).run P w = .ok i.size w:=by simp[sizeOf,typeInfo,h]
theorem akq{P:Program}{n:Nat}(h:j8 P t=some n):∃i,P.info? t=some i/\i.size=n:=by
 unfold j8 at h;cases ai:P.info? t with
 |none=>rw[ai]at h;cases h
 |some i=>rw[ai]at h;grind
theorem kF{P:Program}{n:Nat}(h:j8 P t=some n)(w:World):(sizeOf t).run P w = .ok n w:=by obtain⟨i,ai,rfl⟩:=akq h;exact FY ai w
theorem QY{w:World}{g:Nat}{c:Array X}{D:Nat × Nat}(h:w.heap[g]? = some (.cells c e D))(A:c[i]? = some v):w.cell? ⟨g,i,none⟩=some v:=by simp[World.cell?,h,A]
theorem aay{r:av (aa X)}(h:LP r = .ok v):∃l,r=some l/\v = .agg ⟨l⟩:=by
 cases r with
 |none=>cases h
 |some l=>cases h;grind
theorem aaz{r:av X}(h:DO r = .ok v):r=some v:=by
 cases r with
 |none=>cases h
 |some l=>cases h;rfl
theorem R.ls{aA:Type}{s:String}{r:av aA}{f:aA->R eV}{x:eV}(h:R.of s r f = .ok x):∃a,r=some a/\f a = .ok x:=by
 cases r with
 |none=>cases h
 |some a=>exact⟨a,rfl,h⟩
theorem R.fd{aA eV:Type}{r:R aA}{f:aA->R eV}{x:eV}(h:R.bind r f = .ok x):∃a,r = .ok a/\f a = .ok x:=by
 cases r with
 |no w=>cases h
 |ok a=>exact⟨a,rfl,h⟩
theorem F3{h:ad}{k:aa X->ak->R eV}{x:eV}(e:cellsOf h b k = .ok x):∃cs bC,u h b=some (.cells cs bC)/\k cs bC = .ok x:=by
 unfold cellsOf at e;cases A:u h b with
 |none=>rw[A]at e;cases e
 |some o =>
  rw[A]at e;cases o with
  |cells cs bC=>grind
  |_=>cases e
theorem KH{k:Addr->R eV}{x:eV}(e:Ba v k = .ok x):∃a,v = .pointer (some a)/\k a = .ok x:=by
 unfold Ba at e
 grind
theorem bE.P8{ah:cd}{a:Addr}(h:bE ah (.pointer (some a)) c):∃p,a.spot=none/\ah a.block=some p/\c = .pointer (some ⟨p.ct,p.off+a.off,none⟩):=by
 cases h with
 |ptr h=>grind
theorem QZ{P:Program}{B:Nat}{ah:cd}{h:ad}{w:World}(ba:ee B ah (u h) w)(xO:nb P t=some bU)(V:im bU h x = .ok v)(aR:bE ah x dF):
  ∃eo,dF = .pointer (some eo)/\∃c,(loadVar t eo).run P w = .ok c w/\bE ah v c:=by
 obtain⟨⟨b,o,aO⟩,rfl,V⟩:=KH V;obtain⟨p,rl,aG,rfl⟩:=aR.P8;refine⟨_,rfl,?_⟩;simp only at rl aG V;obtain⟨cs,bC,aU,V⟩:=F3 V;obtain⟨c,e,e5,bN,E⟩:=ba.cells aG aU;obtain⟨i,d,ai,eb,h|h⟩:=Yq xO
 ·obtain⟨n,rfl,rfl,D⟩:=h;obtain⟨l,A,rfl⟩:=aay V;rw[qT,rP]at A
  split at A
  ·rename_i dr
   cases A;have I:o+i.size<=cs.length\/i.size=0:=ab
   rcases I with I | ap
   ·obtain⟨cc,Z,wc,u⟩:=E.cut   I;refine⟨.agg ⟨cc⟩,?_,.agg wc⟩;have M:=run_loadCells_list (P:=P) w ⟨p.ct,p.off+o,none⟩ cc (λj v aI=>by rw[pY];exact QY bN ab)
    rw[Z]at M;simp[loadVar,D,FY ai,M]
   ·refine⟨.agg #[],?_,.agg (by rw[ap];simpa using dm.nil)⟩;simp[loadVar,D,FY ai,ap,loadCells,loadCellsFrom]
  ·cases A
 ·obtain⟨rfl,D⟩:=h;have a5:=aaz V;rw[jr]at a5;obtain⟨dG,ep,aI⟩:=E o v a5;refine⟨dG,?_,aI⟩;have N:=QY bN ep;simp[loadVar,D,N]
structure afV (w bj:World) (g:Nat) (c:Array X) (e:TypeId) (e5:Nat × Nat):Prop where
 heap:bj.heap[g]? = some (.cells c e e5)
 size:bj.heap.size=w.heap.size
 frame:∀k,k≠g->bj.heap[k]? = w.heap[k]?
 os:bj.os=w.os
 tape:rz w bj
 output:bj.output=w.output
theorem ajb(w:World)(g i:Nat)(A:Array X)(e:TypeId)(D:Nat × Nat)(v:X)(E:w.heap[g]? = some (.cells A e D)):
  afV w (w.setCell ⟨g,i,none⟩ v) g (A.setIfInBounds i v) e D:=by
 refine⟨?_,by simp[World.setCell],λk I=>?_,rfl,.here,rfl⟩
 ·simp[World.setCell,JV,E]
 ·simp[World.setCell,JV,kE I]
theorem XY{aA:Type}(l:aa aA)(k:Nat)(v:aA)(A:aa aA)(h:k+A.length+1<=l.length):
  (l.set k v).take (k+1)++A++(l.set k v).drop (k+1+A.length)=l.take k++(v::A)++l.drop (k+(A.length+1)):=by
 have D:(l.set k v).take (k+1)=l.take k++[v]:=by
  apply nL;intro j;simp only[vi,yG,ox,qP]
  grind
 have E:(l.set k v).drop (k+1+A.length)=l.drop (k+(A.length+1)):=by
  apply nL
  grind
 grind
theorem O2(P:Program)(g o:Nat)(e:TypeId)(ao ai:Nat):∀(aE:aa X) (i:Nat) (A:Array X) (w:World),w.heap[g]? = some (.cells A e (ao,ai))->(ao<ai->A.size<=ao) ->
  o+i+aE.length<=A.size->(∀v∈aE,v.oneCell'=true) ->
  ∃bj,(storeCells ⟨g,o,none⟩ aE i).run P w = .ok () bj/\afV w bj g (A.toList.take (o+i)++aE++A.toList.drop (o+i+aE.length)).toArray e (ao,ai)
 | [],i,A,w,N,_,_,_=>by refine⟨w,rfl,⟨?_,rfl,ab,rfl,.here,rfl⟩⟩;simp[N]
 |v::I,i,A,w,N,k6,bg,h1=>by
  have ci:o+i<A.size:=ab
  have M:w.cell? ⟨g,o+i,none⟩=some A[o+i]:=by simp[World.cell?,N,ci]
  have Z:w.frozen? ⟨g,o+i,none⟩=false:=by
   simp only[World.frozen?,N]
   grind
  have D:=ajb w g (o+i) A e (ao,ai) v N;obtain⟨bj,V,E⟩:=O2 P g o e ao ai I (i+1) (A.setIfInBounds (o+i) v) (w.setCell ⟨g,o+i,none⟩ v) D.heap ab ab ab;refine⟨bj,?_,?_⟩
  ·simp only[storeCells,Sem.run_bind];rw[pY,run_store P w _ v _ ab,M];simp[Z,V]
  ·refine⟨?_,E.size.trans D.size,λk hk=>(E.frame k hk).trans (D.frame k hk),E.os.trans D.os,D.tape.trans E.tape,E.output.trans D.output⟩;rw[E.heap]
   congr 3
   have:=XY A.toList (o+i) v I J;simpa[Array.toList_setIfInBounds,wK]using this
theorem Kp{P:Program}{B:Nat}{ah:cd}{h:ad}{w:World}(ba:ee B ah (u h) w){o:Nat}(U:Nat)(aG:ah b=some p)(I:qX h b o l = .ok ac)(bg:dm ah l cc):
  ∃bj,(storeCells ⟨p.ct,p.off+o,none⟩ cc).run P w = .ok () bj/\cE B ah (u h) w U U ah (u ac) bj:=by
 obtain⟨cs,bC,aU,I⟩:=F3 I;cases bC with
 |true=>cases I
 |false =>
  have I:(bif ec l then R.of "write - out of block" (ng l cs o) (λcs=>.ok (F h b (.cells cs false)))else .no "write - cells")=R.ok ac:=I;rcases M:ec l with _|_
  ·rw[M]at I;cases I
  rw[M]at I;have Z:∀v∈cc,v.oneCell'=true:=λv N=>Zh (Pf bg M v N);obtain⟨qg,A,I⟩:=R.ls I;cases I;have HQ:=ba.obj b p _ aG aU;obtain⟨dZ,ap,c,e,ao,ai,h1,al,aM,bc⟩:=HQ;rw[t7]at A
  split at A
  ·rename_i dr
   cases A;have gA:=bg.length;obtain⟨bj,um,D⟩:=O2 P p.ct (p.off+o) e ao ai cc 0 c w h1 J J Z;refine⟨bj,um,?_⟩;rw[vy];refine cE.change U ba aG aU dZ D.size D.frame D.os D.tape D.output ?_;refine⟨dZ,ap,_,e,ao,ai,D.heap,?_,?_,?_⟩
   ·grind
   ·intro i v N;simp only[ix,ap,m9]at *
    have M:cs.length<=c.size:=J
    simp only[yG,ox,vh,vi,List.getElem?_toArray,FD,Array.getElem?_toList,jb]at N ⊢;rcases jH i o with hio|hio
    ·simp only[show i<min o cs.length by omega,if_true,hio]at N;obtain⟨dG,V,E⟩:=aM i v N;rw[ix]at V;exact⟨dG,ab,E⟩
    ·rcases jH i (o+l.length)with tp|tp
     ·simp only[show ¬i<min o cs.length by omega,fc,show i-min o cs.length<l.length by omega,if_true]at N;obtain⟨dG,V,E⟩:=bg.get N;refine⟨dG,?_,E⟩
      grind
     ·simp only[show ¬i<min o cs.length by omega,fc,show ¬i-min o cs.length<l.length by omega]at N;obtain⟨dG,V,E⟩:=aM i v ab;refine⟨dG,?_,E⟩
      grind
   grind
  ·cases A
theorem GM{a b:IntKind}:mI a b=true↔a=b:=by cases a <;> cases b <;> decide
theorem wT(a:IntKind):mI a a=true:=GM.2 rfl
theorem pd(a b:Nat):Nat.blt a b=decide (a<b):=by rw[Aw];simp[wM]
theorem AP{a b:Int}:fN a b=true↔a=b:=by
 cases a <;> cases b <;> simp[fN]
 all_goals omega
theorem lo(a b:Int):fN a b=(a == b):=by rw[Aw,AP];simp
theorem amE{a b:Int}:lK a b=true↔a<b:=by
 cases a with
 |ofNat m=>cases b with
  |ofNat n=>show Nat.blt m n=true↔_;rw[pd];simp
  |negSucc n=>show false=true↔_;grind
 |negSucc m=>cases b with
  |ofNat n=>show true=true↔_;grind
  |negSucc n=>show Nat.blt n m=true↔_;rw[pd];grind
theorem rS(a b:Int):lK a b=decide (a<b):=by rw[Aw,amE];simp
theorem K9{k:IntKind}{n:Int}(A:k.min<=n)(D:n<=k.max):k.wrap n=n:=by
 cases k <;> simp[IntKind.min,IntKind.max,IntKind.signed,IntKind.bits]at A D <;> simp[IntKind.wrap,IntKind.signed,IntKind.bits] <;> omega <;> omega
theorem oA(k:IntKind)(n:Int):uf k n=k.wrap n:=by
 cases n with
 |ofNat a =>
  show(bif Nat.blt a (zt k)then Int.ofNat a else k.wrap (.ofNat a))=_;cases h:Nat.blt a (zt k)with
  |false=>rfl
  |true =>
   have ac:a<zt k:=by simpa[pd]using h
   refine(K9 ?_ ?_).symm
   ·cases k <;> simp[IntKind.min,IntKind.signed,IntKind.bits] <;> omega
   ·cases k <;> simp[zt]at ac <;> simp[IntKind.max,IntKind.signed,IntKind.bits] <;> omega
 |negSucc a =>
  show(bif Nat.blt a (HJ k)then Int.negSucc a else k.wrap (.negSucc a))=_;cases h:Nat.blt a (HJ k)with
  |false=>rfl
  |true =>
   have ac:a<HJ k:=by simpa[pd]using h
   refine(K9 ?_ ?_).symm
   ·cases k <;> simp[HJ]at ac <;> simp[IntKind.min,IntKind.signed,IntKind.bits] <;> omega
   ·cases k <;> simp[IntKind.max,IntKind.signed,IntKind.bits] <;> omega
theorem Dg{k:Nat->R eV}{x:eV}(h:r1 v k = .ok x):∃q n,v = .int q (.ofNat n)/\k n = .ok x:=by
 unfold r1 at h
 split at h
 ·rename_i q n
  cases n with
  |ofNat n=>grind
  |negSucc n=>cases h
 grind
theorem bE.t8{ah:cd}{k:IntKind}{n:Int}(h:bE ah (.int k n) c):c = .int k n:=by cases h;rfl
theorem bE.Gn{ah:cd}{b:ak}(h:bE ah (.bool b) c):c = .bool b:=by cases h;rfl
theorem Zi{ah:cd}:∀{l cc:aa X},ii l=true->dm ah l cc->cc=l
 |_,_,_,.nil=>rfl
 |x::xs,_,h,.cons D A=>by simp[ii]at h;rw[CZ h.1 D,Zi h.2 A]
theorem vo{ah:cd}(h:ii (c5 v)=true)(D:bE ah v c):c=v:=by
 cases D with
 |agg A=>rw[Zi (by simpa[c5]using h) A]
 |_=>exact CZ (ah:=ah) (by simpa[c5,ii]using h) (by constructor <;> omega)
theorem akr{a b:Lit}:S8 a b=true↔a=b:=by
 cases a <;> cases b <;> simp[S8,GM,AP]
theorem Yr:∀{a b:aa Lit},za a b=true↔a=b
 | [],[]=>by simp[za]
 | [],_::_=>by simp[za]
 |_::_,[]=>by simp[za]
 |x::xs,y::A=>by simp[za,akr,Yr]
theorem wU{P:Program}{r:ak}(h:rj P t x y=some r):
  P.keyTypeAt 8 t=true/\x.formed P t=true/\y.formed P t=true/\ii (c5 x)=true/\ii (c5 y)=true /\
   ∃D A,P.keyLits 8 t (c5 x)=some D/\P.keyLits 8 t (c5 y)=some A/\(r=true↔D=A):=by
 unfold rj at h;cases I:(P.keyTypeAt 8 t&&(x.formed P t&&y.formed P t&&ii (c5 x)&&ii (c5 y)))with
 |false=>grind
 |true =>
  rw[I]at h;simp only[eD]at I;obtain⟨h1,⟨⟨V,Z⟩,bc⟩,N⟩:=I;refine⟨h1,V,Z,bc,N,?_⟩;simp only[oy]at h;cases E:P.keyLits 8 t (c5 x)with
  |none=>rw[E]at h;cases h
  |some D =>
   cases M:P.keyLits 8 t (c5 y)with
   |none=>rw[E,M]at h;cases h
   |some A =>
    rw[E,M]at h;cases h;exact⟨D,A,rfl,rfl,Yr⟩
theorem Kg(v:X):c5 v=v.cells.toList:=by cases v <;> rfl
theorem acq{P:Program}{r:ak}(h:rj P t x y=some r)(d:Nat)(w:World):(Op.equalIn (d+8) t x y).run P w = .ok r w:=by
 obtain⟨M,D,E,_,_,I,A,V,Z,ai⟩:=wU h;obtain⟨N,ba,da⟩:=run_equalIn_deep d 8 t M w 8 8 x y I A D E (by rw[<-Kg];omega) (by rw[<-Kg];omega)
 grind
theorem yQ{P:Program}{r:ak}(h:lq P t x y=some r):ii (c5 x)=true/\ii (c5 y)=true:=by
 unfold lq at h
 split at h
 ·unfold Lx at h
  split at h
  ·exact⟨rfl,rfl⟩
  grind
 ·obtain⟨_,_,_,D,A,_⟩:=wU h;grind
theorem air{P:Program}(h:KG P t=true):P.underlying t=some .bool:=by unfold KG at h;grind
theorem aiz{P:Program}(h:w0 P t=true):∃e,P.underlying t=some (.pointer e):=by unfold w0 at h;grind
theorem O5{P:Program}(h:nQ P t=true):∃e,P.underlying t=some (.slice e):=by unfold nQ at h;grind
theorem Pd{P:Program}(h:rV P t=true):∃k e,P.underlying t=some (.map k e):=by unfold rV at h;grind
theorem X1{P:Program}(h:wZ P t=true):∃k,P.underlying t=some (.int k):=by unfold wZ at h;grind
theorem t4{aA:Type}{b:ak}{x:av aA}{r:aA}(h:(bif b then x else none)=some r):b=true/\x=some r:=ab
theorem j5{aA:Type}{b:ak}{x:R aA}{s:String}{r:aA}(h:(bif b then x else .no s) = .ok r):b=true/\x = .ok r:=ab
theorem Gp{aA:Type}{b:ak}{x:R aA}{s:String}{r:aA}(h:(bif b then .no s else x) = .ok r):b=false/\x = .ok r:=ab
theorem apW{P:Program}(A:P.underlying t=some (.pointer e))(d:Nat)(b:av Addr)(w:World):(Op.equalIn (d+1) t (.pointer none) (.pointer b)).run P w = .ok b.isNone w:=by
 cases b <;> simp[Op.equalIn,run_underlying A]
theorem apX{P:Program}(A:P.underlying t=some (.pointer e))(d:Nat)(a:Addr)(w:World):(Op.equalIn (d+1) t (.pointer (some a)) (.pointer none)).run P w = .ok false w:=by simp[Op.equalIn,run_underlying A]
theorem ati{P:Program}(A:P.underlying t=some (.slice e))(d:Nat)(l c:Nat)(b:av Addr)(cc D:Nat)(w:World):(Op.equalIn (d+1) t (.slice none l c) (.slice b cc D)).run P w = .ok b.isNone w:=by
 cases b <;> simp[Op.equalIn,run_underlying A]
theorem atj{P:Program}(A:P.underlying t=some (.slice e))(d:Nat)(a:Addr)(l c:Nat)(cc D:Nat)(w:World):(Op.equalIn (d+1) t (.slice (some a) l c) (.slice none cc D)).run P w = .ok false w:=by simp[Op.equalIn,run_underlying A]
theorem apY{P:Program}{k:TypeId}(A:P.underlying t=some (.map k e))(d:Nat)(b:av Nat)(w:World):(Op.equalIn (d+1) t (.map none) (.map b)).run P w = .ok b.isNone w:=by
 cases b <;> simp[Op.equalIn,run_underlying A]
theorem apZ{P:Program}{k:TypeId}(A:P.underlying t=some (.map k e))(d:Nat)(a:Nat)(w:World):(Op.equalIn (d+1) t (.map (some a)) (.map none)).run P w = .ok false w:=by simp[Op.equalIn,run_underlying A]
theorem aaA{P:Program}{ah:cd}{r:ak}(h:nV P t x y=some r)(E:bE ah x dF)(D:bE ah y iD)(w:World):
  (Op.equal t dF iD).run P w = .ok r w:=by
 unfold nV at h
 split at h
 ·obtain⟨I,h⟩:=t4 h;have A:=air I;unfold ag0 at h
  split at h
  ·cases h;rw[E.Gn,D.Gn];exact run_equal_bool w t _ _ A
  grind
 ·obtain⟨I,h⟩:=t4 h;obtain⟨e,A⟩:=aiz I;unfold HK at h
  split at h
  ·split at h
   ·cases h;cases E;cases D <;> exact apW A 9999 _ w
   ·cases h;cases E;cases D;exact apX A 9999 _ w
   grind
  grind
 ·obtain⟨I,h⟩:=t4 h;obtain⟨e,A⟩:=O5 I;unfold TC at h
  split at h
  ·split at h
   ·cases h;cases E;cases D <;> exact ati A 9999 _ _ _ _ _ w
   ·cases h;cases E <;> cases D <;> exact atj A 9999 _ _ _ _ _ w
   grind
  grind
 ·obtain⟨I,h⟩:=t4 h;obtain⟨k,e,A⟩:=Pd I;unfold ag1 at h
  split at h
  ·split at h
   ·cases h;cases E;cases D <;> exact apY A 9999 _ w
   ·cases h;cases E;cases D;exact apZ A 9999 _ w
   grind
  grind
 ·obtain⟨_,h⟩:=t4 h;obtain⟨_,_,_,N,M,_⟩:=wU h;rw[vo N E,vo M D];exact acq h 9992 w
 grind
theorem AI{b:ak}(h:nc b = .ok v):v = .bool b:=by cases h;rfl
theorem rW{k:IntKind}{n:Int}(h:jt k n = .ok v):v = .int k n:=by cases h;rfl
theorem amF(a b:Int):(!lK b a)=decide (a<=b):=by rw[rS,Aw];simp
theorem ap0(a b:Int):(!fN a b)=(a != b):=by rw[lo];rfl
theorem ap1{P:Program}{op:BinOp}{k:IntKind}{a b:Int}(t:TypeId)(D:y4 op=false)(h:Ep op k a b = .ok v)(w:World):
  (binOp op t (.int k a) (.int k b)).run P w = .ok v w:=by
 cases op <;> simp only[Ep,y4]at h D
 all_goals first
  |(cases D;done)
  |(rw[rW h,oA];simp[binOp,Op.intArith];done)
  |(rw[rW h,oA];simp[binOp,Op.intArith];rfl)
  |(rw[AI h];simp[binOp,Op.intCmp,rS,lo];done)
  |(rw[AI h,amF];simp[binOp,Op.intCmp];done)
  |(rw[AI h,ap0];simp[binOp,Op.intCmp];done)
  |skip
 all_goals first
  |(simp only[D4]at h;obtain⟨E,I⟩:=Gp h;have A:¬b=0:=(by rw[lo]at E;grind);rw[rW I];simp[binOp,Op.intDiv,A,oA];done)
  |(simp only[Hs]at h;rw[rW h];simp[binOp,Op.intBits];done)
  |(simp only[Hs]at h;cases h;done)
theorem amG{P:Program}{op:BinOp}{k:IntKind}{a b:Int}(t:TypeId)(h:Bi op k a dp b = .ok v)(w:World):
  (binOp op t (.int k a) (.int dp b)).run P w = .ok v w:=by
 unfold Bi at h;cases A:y4 op with
 |true =>
  rw[A]at h;simp only[oy,w4]at h;obtain⟨M,D⟩:=Gp h;have E:¬b<0:=by rw[rS]at M;grind
  cases op <;> simp only[y4]at A
  all_goals first
   |(cases A;done)
   |(rw[rW D];simp[binOp,Op.shift,E,oA];done)
 |false =>
  rw[A]at h;simp only[lH]at h;obtain⟨N,D⟩:=j5 h;have I:=GM.1 N;rw[<-I];exact ap1 t A D w
def nn(P:Program)(ah:cd)(v:X)(s:Sem X):Prop:=∃c,bE ah v c/\∀w,s.run P w = .ok c w
def Hf:X->ak
 | .bool _=>true | .pointer _=>true | .slice _ _ _=>true | .map _=>true | .agg _=>true|_=>false
theorem binOp_eql{a b:X}(h:Hf a=true):binOp .eql t a b=(do pure (.bool (<-Op.equal t a b))):=by
 cases a <;> first|(cases h;done)|(cases b <;> rfl)
theorem binOp_neq{a b:X}(h:Hf a=true):binOp .neq t a b=(do pure (.bool (!(<-Op.equal t a b)))):=by
 cases a <;> first|(cases h;done)|(cases b <;> rfl)
def Sk:X->ak
 | .nilIface=>false | .agg _=>false|_=>true
theorem FU{P:Program}{op:BinOp}{x y:Operand}{a b:X}(h:Sk a=true)(w:World):(eqGuard op t x y a b).run P w = .ok () w:=by
 cases a <;> first|(cases h;done)|(cases op <;> simp[eqGuard])
theorem aiJ{P:Program}{op:BinOp}{x y:Operand}{a:Array X}{b:X}(h:Df P t=true)(w:World):(eqGuard op t x y (.agg a) b).run P w = .ok () w:=by
 have ac:P.eqGuardType P.depth t=false:=by simpa[Df]using h
 cases b <;> cases op <;> simp[eqGuard,ac]
theorem bE.other{ah:cd}(h:bE ah x c):Hf c=Hf x:=by cases h <;> rfl
theorem bE.LR{ah:cd}(h:bE ah x c):Sk c=Sk x:=by cases h <;> rfl
section
variable {P:Program} {ah:cd}
theorem ap2{op:BinOp}{k:IntKind}{a b:Int}(h:Bi op k a dp b = .ok v):bE ah v v:=by
 have D:∀{k n},jt k n = .ok v->bE ah v v:=λh=>by rw[rW h];exact .int _ _
 have M:∀{b},nc b = .ok v->bE ah v v:=λh=>by rw[AI h];exact .bool _
 unfold Bi at h;cases E:y4 op with
 |true =>
  rw[E]at h;simp only[oy,w4]at h;obtain⟨_,A⟩:=Gp h;cases op <;> simp only[]at A <;> first|exact D A|(cases A;done)
 |false =>
  rw[E]at h;simp only[lH]at h;obtain⟨_,A⟩:=j5 h;cases op <;> simp only[Ep,D4,Hs]at A
  all_goals first
   |exact D A
   |exact M A
   |(cases A;done)
   |(obtain⟨_,I⟩:=Gp A;exact D I)
theorem Ys{b:ak}(h:nV P t x y=some b):Hf x=true:=by
 unfold nV at h
 split at h <;> first|rfl|(cases h;done)
theorem Yt{b:ak}(h:nV P t x y=some b)(A:bE ah x dF)(op:BinOp)(I D:Operand)(iD:X)(w:World):(eqGuard op t I D dF iD).run P w = .ok () w:=by
 unfold nV at h
 split at h
 ·exact FU A.LR w
 ·exact FU A.LR w
 ·exact FU A.LR w
 ·exact FU A.LR w
 ·obtain⟨E,_⟩:=t4 h;cases A with
  |agg M=>exact aiJ E w
 grind
theorem ap3{op:BinOp}(M I:Operand)(h:bin P op t x y = .ok v)(D:bE ah x dF)(E:bE ah y iD):
  nn P ah v (do eqGuard op t M I dF iD;binOp op t dF iD):=by
 unfold bin at h
 split at h
 ·unfold ag2 at h
  split at h
  ·rw[D.t8,E.t8];refine⟨v,ap2 h,λw=>?_⟩;rw[Sem.run_bind,FU rfl];exact amG t h w
  ·cases h
 ·unfold Mc at h
  split at h
  ·obtain⟨b,A,h⟩:=R.ls h;rw[AI h];refine⟨_,.bool _,λw=>?_⟩;rw[Sem.run_bind,Yt A D,binOp_eql (by rw[D.other];exact Ys A)];simp[aaA A D E]
  ·obtain⟨b,A,h⟩:=R.ls h;rw[AI h];refine⟨_,.bool _,λw=>?_⟩;rw[Sem.run_bind,Yt A D,binOp_neq (by rw[D.other];exact Ys A)];simp[aaA A D E]
  ·cases h
theorem ap4{op:UnOp}(h:d2 op x = .ok v)(A:bE ah x dF):nn P ah v (Op.unary op dF):=by
 unfold d2 at h
 split at h
 ·rw[A.Gn]
  split at h
  ·rw[AI h];exact⟨_,.bool _,λw=>rfl⟩
  ·cases h
 ·rw[A.t8]
  split at h
  ·rw[rW h,oA];exact⟨_,.int _ _,λw=>rfl⟩
  ·rw[rW h];exact⟨_,.int _ _,λw=>rfl⟩
  ·cases h
 ·cases h
theorem aks{s d:TypeId}{jQ A:TypeDesc}(E:P.underlying s=some jQ)(D:P.underlying d=some A)(h:xe A x = .ok v)(I:bE ah x dF):nn P ah v (convert s d dF):=by
 unfold xe at h
 split at h
 ·rw[I.t8]
  split at h
  ·rw[rW h,oA];exact⟨_,.int _ _,λw=>by simp[convert,run_underlying E,run_underlying D,Conv.intToInt]⟩
  ·cases h
 ·cases h
theorem ajc(h:cr x = .ok v):v=x/\((∃a,x = .pointer (some a))\/(∃f a b,x = .func (.func f) a b)\/(∃f a b,x = .func (.yield f) a b)\/∃t y,x = .iface t y):=by
 unfold cr at h
 grind
theorem ap5(h:AC P t=true)(A:bE ah x dF):nn P ah (.iface t x) (Instr.makeInterface t dF):=by
 unfold AC at h
 split at h
 ·cases h
 ·rename_i d E D
  refine⟨_,.iface t A,λw=>?_⟩;cases d <;> first|(exact(E _ rfl).elim)|simp[Instr.makeInterface,run_underlying D]
 ·cases h
theorem aiK{N:TypeId}(h:K8 P t ok x = .ok v)(Z:bE ah x dF):nn P ah v (Instr.typeAssert dF N t ok):=by
 unfold K8 at h
 split at h
 ·obtain⟨M,h⟩:=j5 h;cases h;simp only[eD]at M;obtain⟨A,D⟩:=M;cases g4 D;cases Z with
  | @iface _ _ E I =>
   refine⟨if ok then .tuple #[E,.bool true]else E,?_,λw=>?_⟩
   ·cases ok with
    |true=>exact .tuple (.cons I (.cons (.bool _) .nil))
    |false=>exact I
   unfold AC at A
   split at A
   ·grind
   ·rename_i d bm V
    cases d <;> first|(exact(bm _ rfl).elim)|simp[Instr.typeAssert,run_underlying V]
   grind
 ·cases h
theorem aiA(h:dz x i = .ok v)(M:bE ah x dF):nn P ah v (Instr.extract dF i):=by
 unfold dz at h
 split at h
 ·obtain⟨y,A,h⟩:=R.ls h;cases h;cases M with
  |tuple D =>
   rw[jr]at A;obtain⟨c,I,E⟩:=D.get A;refine⟨c,E,λw=>?_⟩;simp[Instr.extract,I]
 ·cases h
theorem aaB{b:ak}(h:min2 b x y = .ok v)(D:bE ah x dF)(A:bE ah y iD):nn P ah v (bif b then Builtin.min2 dF iD else Builtin.max2 dF iD):=by
 unfold min2 at h
 split at h
 ·split at h
  ·obtain⟨E,h⟩:=j5 h;rw[D.t8,A.t8];cases b with
   |true =>
    simp only[oy]at h;rw[rW h,rS];refine⟨_,.int _ _,λw=>?_⟩;simp only[oy,Builtin.min2]
    congr 2
    simp
   |false =>
    simp only[lH]at h;rw[rW h,rS];refine⟨_,.int _ _,λw=>?_⟩;simp only[lH,Builtin.max2]
    congr 2
    simp
  ·cases h
 ·cases h
end
section
variable {P:Program} {ah:cd}
theorem Sl{a:Nat}(h:Nat.blt a b=true):a<b:=by rw[pd]at h;grind
theorem Yb{s:Nat}(h:Dz P t=some s):∃e,P.underlying t=some (.slice e)/\j8 P e=some s:=by
 unfold Dz at h
 grind
theorem FZ(k:IntKind)(n:Int)(w:World):(asIntOf (.int k n)).run P w = .ok (k,n) w:=rfl
theorem wN(k:IntKind)(n y:Nat)(code:BoundsCode)(h:n<=y)(w:World):(Instr.sliceBound (.int k (.ofNat n)) y code).run P w = .ok n w:=by simp[Instr.sliceBound,FZ,h]
theorem La{x:av X}{n:Nat}(h:Bj x d = .ok n):(x=none/\n=d)\/∃k,x=some (.int k (.ofNat n)):=by
 cases x with
 |none=>cases h;grind
 |some v =>
  obtain⟨q,m,rfl,A⟩:=Dg h
  grind
def u2(ah:cd)(x c:av X):Prop:=match x,c with
 |none,none=>True
 |some v,some c=>bE ah v c
 |_,_=>False
theorem u2.none{c:av X}(h:u2 ah none c):c=none:=by cases c with|none=>rfl|some c=>exact h.elim
theorem u2.int{c:av X}{k:IntKind}{n:Int}(h:u2 ah (some (.int k n)) c):c=some (.int k n):=by cases c with|none=>exact h.elim|some c=>rw[bE.t8 h]
theorem ajd{ao ai:av X}(sB:u2 ah ao ed)(E:u2 ah ai da)(D:u2 ah jh MJ){up A l:Nat}(h1:Bj jh cap = .ok m)(al:Bj ai len = .ok A)(aM:Bj ao 0 = .ok l)(Z:jh.isSome=true->ai.isSome=true)(hm:m<=cap)(I:A<=m)(N:l<=A)(w:World):
  (Instr.sliceBounds true len (cap+up) ed da MJ).run P w = .ok (l,A,if jh.isSome then m else cap+up) w:=by
 rcases La h1 with⟨rfl,rfl⟩|⟨mk,rfl⟩ <;> rcases La al with⟨rfl,rfl⟩|⟨M,rfl⟩ <;> rcases La aM with⟨rfl,rfl⟩|⟨V,rfl⟩
 ·rw[sB.none,E.none,D.none];simp only[Instr.sliceBounds,Sem.run_bind,Sem.run_pure,Result.andThen_ok,CO,nK,fc]
 ·rw[sB.int,E.none,D.none];simp only[Instr.sliceBounds,Sem.run_bind,Sem.run_pure,Result.andThen_ok,CO,nK,fc,wN V l A _ N w]
 ·rw[sB.none,E.int,D.none];simp only[Instr.sliceBounds,Sem.run_bind,Sem.run_pure,Result.andThen_ok,CO,nK,fc,if_true,wN M A (m+up) _ J w]
 ·rw[sB.int,E.int,D.none];simp only[Instr.sliceBounds,Sem.run_bind,Sem.run_pure,Result.andThen_ok,CO,nK,fc,if_true,wN M A (m+up) _ J w,wN V l A _ N w]
 ·grind
 ·grind
 ·rw[sB.none,E.int,D.int];simp only[Instr.sliceBounds,Sem.run_bind,Sem.run_pure,Result.andThen_ok,OR,if_true,wN mk m (cap+up) _ J w,wN M A m _ I w]
 ·rw[sB.int,E.int,D.int];simp only[Instr.sliceBounds,Sem.run_bind,Sem.run_pure,Result.andThen_ok,OR,if_true,wN mk m (cap+up) _ J w,wN M A m _ I w,wN V l A _ N w]
theorem vq(I:P.underlying t=some (.slice e)){s:Nat}(D:j8 P e=some s)(A:av Addr)(len cap:Nat)(ao ai jh:av X){l h:Nat}{w:World}(E:(Instr.sliceBounds true len cap ao ai jh).run P w = .ok (l,h,m) w):
  (Instr.sliceAt t (.slice A len cap) ao ai jh).run P w = .ok (.slice (if m=l then A else A.map (·.add (l*s))) (h-l) (m-l)) w:=by simp[Instr.sliceAt,Instr.slice,run_underlying I,E,kF D]
theorem ap6{ao ai:av X}(sB:u2 ah ao ed)(aBm:u2 ah ai da)(W2:u2 ah jh MJ){s:Nat}(ar:Dz P t=some s)(h:iY s x ao ai jh = .ok v)(aR:bE ah x dF):nn P ah v (Instr.sliceAt t dF ed da MJ):=by
 obtain⟨e,N,A⟩:=Yb ar;unfold iY at h
 split at h
 ·rename_i bp len cap
  obtain⟨hmh,h⟩:=j5 h;obtain⟨m,h1,h⟩:=R.fd h;obtain⟨M,al,h⟩:=R.fd h;obtain⟨l,aM,h⟩:=R.fd h;obtain⟨aU,h⟩:=j5 h;simp only[eD]at aU;obtain⟨hm,Uy,bg⟩:=aU;have hm:=l6 hm;have Uy:=l6 Uy;have bg:=l6 bg;have axd:jh.isSome=true->ai.isSome=true:=ab
  have B:∀up w,_:=λup w=>ajd (P:=P) (up:=up) sB aBm W2 h1 al aM axd hm Uy bg w;have Uz:jh.isSome=false->m=cap:=λaR=>by
   rcases La h1 with⟨rfl,rfl⟩|⟨k,rfl⟩
   all_goals grind
  unfold vI at h;cases Z:Nat.beq m l with
  |true =>
   have E:=g4 Z;subst E;have hhm:M=m:=J
   subst hhm;rw[Z]at h;simp only[oy]at h;unfold lp at h;cases D:(AO bp&&!jh.isSome)with
   |true =>
    rw[D]at h;cases h;simp only[eD,OT]at D;have uo:=Uz D.2;subst uo;cases aR with
    | @pf b o lY p V bk _ _ =>
     by_cases rl:p.spare=0
     ·refine⟨_,.pg b o p.ct (p.off+o) 0,λw=>?_⟩;rw[vq N A _ _ _ _ _ _ (B p.spare w)]
      grind
     ·refine⟨_,.pg b o p.ct (p.off+o+M*s) p.spare,λw=>?_⟩;rw[vq N A _ _ _ _ _ _ (B p.spare w)];simp[D.2,rl,pY]
    |pg b o g aW c =>
     refine⟨_,.pg b o g aW c,λw=>?_⟩;have:=vq N A (some ⟨g,aW,none⟩) _ _ _ _ _ (B c w);simp only[ix]at this;rw[this];simp[D.2,pY]
    |rR=>cases D.1
    |lp=>cases D.1
   |false =>
    rw[D]at h;simp only[lH]at h;obtain⟨cX,h⟩:=Gp h;cases h;cases aR with
    |rR =>
     refine⟨_,.rR _ _,λw=>?_⟩;have:=vq N A none _ _ _ _ _ (B 0 w)
     grind
    | @lp b o p V _ _ =>
     refine⟨.slice (some ⟨p.ct,p.off+(o+0),none⟩) (Nat.sub M M) (Nat.sub M M),?_,λw=>?_⟩
     ·cases I:jh.isSome <;> exact .lp V _ _
     ·have:=vq N A (some ⟨p.ct,p.off+o,none⟩) _ _ _ _ _ (B 0 w)
      grind
    | @pf b o lY p V bk _ _ =>
     have avi:jh.isSome=true:=by simpa[AO]using D
     refine⟨.slice (some ⟨p.ct,p.off+(o+0),none⟩) (Nat.sub M M) (Nat.sub M M),?_,λw=>?_⟩
     ·simp only[avi];exact .lp V _ _
     ·rw[vq N A _ _ _ _ _ _ (B p.spare w)]
      grind
    |pg=>cases cX
  |false =>
   have E:=Nat.ne_of_beq_eq_false Z;rw[Z]at h;simp only[lH]at h;cases h;cases aR with
   |rR =>
    refine⟨_,.rR _ _,λw=>?_⟩;have:=vq N A none _ _ _ _ _ (B 0 w)
    grind
   | @lp b o p V _ _ =>
    refine⟨.slice (some ⟨p.ct,p.off+(o+l*s),none⟩) (M-l) (m-l),?_,λw=>?_⟩
    ·cases I:jh.isSome <;> exact .lp V _ _
    ·have:=vq N A (some ⟨p.ct,p.off+o,none⟩) _ _ _ _ _ (B 0 w);simp only[m9]at this;rw[this];cases I:jh.isSome with
     |true=>simp[E,pY,wK]
     |false=>have:=Uz I;subst this;simp[E,pY,wK]
   | @pf b o lY p V bk _ _ =>
    cases I:jh.isSome with
    |true =>
     refine⟨.slice (some ⟨p.ct,p.off+(o+l*s),none⟩) (M-l) (m-l),?_,λw=>?_⟩
     ·exact .lp V _ _
     ·rw[vq N A _ _ _ _ _ _ (B p.spare w)];simp[I,E,pY,wK]
    |false =>
     have axe:=Uz I;subst axe;refine⟨.slice (some ⟨p.ct,p.off+(o+l*s),none⟩) (M-l) (m-l+p.spare),?_,λw=>?_⟩
     ·exact .pf V bk _ _
     ·rw[vq N A _ _ _ _ _ _ (B p.spare w)];have:¬m+p.spare=l:=J
      simp[I,this,pY,wK];omega
   |pg=>omega
 ·cases h
theorem bE.acr{o:Nat}(h:bE ah (.pointer (some ⟨b,o,aO⟩)) c):∃p,ah b=some p/\aO=none/\c = .pointer (some ⟨p.ct,p.off+o,none⟩):=by
 cases h with
 |ptr h=>grind
theorem KI{o n:Nat}(h:ah b=some p):bE ah (DP ⟨b,o,aO⟩ n) (.pointer (some ⟨p.ct,p.off+o+n,none⟩)):=by rw[show p.off+o+n=p.off+(o+n) by omega];exact .ptr h
theorem X2{f:Nat × TypeId}(h:De P t i=some f):
  ∃A v9 n,P.underlying t=some (.struct A)/\A[i]? = some v9/\f=(v9.offset,v9.type)/\j8 P v9.type=some (n+1):=by
 unfold De at h
 split at h
 ·rename_i A I
  split at h
  ·rename_i v9 D
   split at h
   ·rename_i n E
    cases h;rw[jr]at D
    grind
   grind
  grind
 grind
theorem aiL{f:Nat × TypeId}{a:Addr}(h:De P t i=some f)(I:bE ah (.pointer (some a)) dF):nn P ah (DP a f.1) (Instr.fieldAt t dF i):=by obtain⟨N,v9,n,E,D,rfl,M⟩:=X2 h;obtain⟨b,o,aO⟩:=a;obtain⟨p,A,rfl,rfl⟩:=I.acr;refine⟨_,KI A,λw=>?_⟩;simp[Instr.fieldAt,run_underlying E,D,Instr.sureAddr,fieldPlace,kF M,pY]
theorem aaC(E:nb P e=some bU)(h:hF bU off l = .ok v)(M:dm ah l cc):nn P ah v (part e ⟨cc⟩ off):=by
 obtain⟨i,d,ai,Z,ac | ac⟩:=Yq E
 ·obtain⟨n,rfl,rfl,D⟩:=ac;obtain⟨k,A,rfl⟩:=aay h;rw[qT,rP]at A
  split at A
  ·cases A;refine⟨.agg ⟨(cc.drop off).take i.size⟩,.agg ((M.drop _).take _),λw=>?_⟩;simp[part,D,FY ai]
  ·cases A
 ·obtain⟨rfl,D⟩:=ac;have I:=aaz h;rw[jr]at I;obtain⟨c,V,N⟩:=M.get I;refine⟨c,N,λw=>?_⟩;simp[part,D,V]
theorem amH{f:Nat × TypeId}(N:De P t i=some f)(A:nb P f.2=some bU)(h:Bk f.1 bU x = .ok v)(Z:bE ah x dF):nn P ah v (Instr.field t dF i):=by
 obtain⟨ds,v9,n,V,D,rfl,bm⟩:=X2 N;unfold Bk at h
 split at h
 ·cases Z with
  |agg E =>
   obtain⟨c,I,M⟩:=aaC A h E;refine⟨c,I,λw=>?_⟩;simp[Instr.field,run_underlying V,D,asAgg,M w]
 ·cases h
theorem Zj{k:xJ}(h:Mb P t=some k):(∃e s,P.underlying t=some (.slice e)/\j8 P e=some s/\k = .slice s)\/∃n e s,P.underlying t=some (.array n e)/\j8 P e=some s/\k = .array n s:=by
 unfold Mb at h
 grind
theorem aim{k:xJ}(V:Mb P t=some k)(h:yS k x i = .ok v)(Z:bE ah x dF):
  nn P ah v (Instr.indexAt t dF (.int q (.ofNat i))):=by
 unfold yS at h
 split at h
 ·split at h
  ·rename_i s
   obtain⟨A,h⟩:=j5 h;have A:=Sl A;cases h;rcases Zj V with⟨e,N,I,E,D⟩|⟨n,e,N,I,E,D⟩
   ·cases D;cases Z with
    |lp M =>
     refine⟨_,KI M,λw=>?_⟩;simp[Instr.indexAt,FZ,run_underlying I,A,kF E,pY]
    |pf M D =>
     refine⟨_,KI M,λw=>?_⟩;simp[Instr.indexAt,FZ,run_underlying I,A,kF E,pY]
    |pg=>omega
   ·cases D
  ·cases h
 ·split at h
  ·obtain⟨A,h1⟩:=j5 h;have A:=Sl A;cases h1;rcases Zj V with⟨e,N,I,E,D⟩|⟨kx,e,N,I,E,D⟩
   ·cases D
   ·cases D;cases Z with
    |ptr M =>
     refine⟨_,KI M,λw=>?_⟩;simp[Instr.indexAt,FZ,run_underlying I,A,kF E,pY,Instr.sureAddr]
  ·cases h
 ·cases h
theorem aje(h:Sh P t x i = .ok v)(aR:bE ah x dF):nn P ah v (Instr.index t dF (.int q (.ofNat i))):=by
 cases x <;> simp only[Sh]at h
 case agg cs =>
  cases E:P.underlying t with
  |none=>rw[E]at h;cases h
  |some d =>
   rw[E]at h;cases d <;> try(cases h;done)
   case array n e =>
    obtain⟨A,h1⟩:=j5 h;have A:=Sl A;obtain⟨bU,D,N⟩:=R.ls h1;obtain⟨s,ar,V⟩:=R.ls N;cases aR with
    |agg Z =>
     obtain⟨c,aI,ba⟩:=aaC D V Z;refine⟨c,aI,λw=>?_⟩;have I:=ba w;have M:Nat.mul i s=i*s:=rfl;rw[M]at I;simp[Instr.index,FZ,run_underlying E,A,kF ar,I]
 all_goals (cases h;done)
theorem amI{I:TypeId}(A:af[0]? = some t)(h:HM P t x = .ok v)(E:bE ah x dF):nn P ah v (Builtin.cap_ af I #[dF]):=by
 obtain⟨M,h⟩:=j5 h;obtain⟨e,D⟩:=O5 M;unfold ag3 at h
 split at h
 ·rw[rW h];cases E;exact⟨_,.int _ _,λw=>by simp[Builtin.cap_,A,run_underlying D,goInt]⟩
 ·rw[rW h];cases E;exact⟨_,.int _ _,λw=>by simp[Builtin.cap_,A,run_underlying D,goInt]⟩
 ·cases h
theorem AB(h:oC P t=some l):∃i z,P.info? t=some i/\i.zero=some z/\vH z=true/\l=z.cells.toList:=by
 unfold oC at h
 grind
theorem aiB(h:K7 P t=some z):∃i,P.info? t=some i/\i.zero=some z/\vH z=true:=by
 unfold K7 at h
 grind
theorem y0{i:TypeInfo}(ai:P.info? t=some i)(A:i.zero=some z)(w:World):(zeroValue t).run P w = .ok z w:=by simp[zeroValue,typeInfo,ai,A]
theorem yP(h:vH z=true)(ah:cd):dm ah z.cells.toList z.cells.toList:=by have:=(FX h ah).cells;rwa[Kg]at this
theorem acs(off:Nat):∀(l:aa X) (k:Nat) (cells:Array X),off+k+l.length<=cells.size ->
  ((l.zipIdx k).foldl (λcs (x:X × Nat)=>cs.setIfInBounds (off+x.2) x.1) cells).toList=cells.toList.take (off+k)++l++cells.toList.drop (off+k+l.length)
 | [],k,cells,_=>by simp
 |v::A,k,cells,h=>by simp only[List.zipIdx_cons,FK];rw[acs off A (k+1) (cells.setIfInBounds (off+k) v) ab];have:=XY cells.toList (off+k) v A J;simpa[Array.toList_setIfInBounds,wK]using this
theorem dm.put{c A:aa X}(E:dm ah l cc)(D:dm ah c A)(o n:Nat):dm ah (c.take o++(l++c.drop n)) (A.take o++(cc++A.drop n)):=
 (D.take o).append (E.append (D.drop n))
def Loc(ah:cd)(aj:b8)(t:Array X)(l:Array Operand):Prop:=∀d v,Operand.tmp d∈l->hG aj d=some v->bE ah (r0 v) (t.getD d undef)
theorem jP.loc{t:Array X}(h:jP ah aj t)(l:Array Operand):Loc ah aj t l:=λd v _=>h d v
theorem Loc.ej{a:Act}{l:Array Operand}(I:Loc ah aj a.tmps l){x:Operand}(N:x∈l){y:e2}(A:co x=some y)(h:dR aj y = .ok v):bE ah v (a.eval x):=by
 cases x with
 |tmp t =>
  cases A;unfold dR at h;cases D:hG aj t with
  |none=>simp only[D]at h;cases h
  |some o =>
   have:=I t o N D;cases o <;> simp only[D]at h <;> cases h <;> exact this
 |const c =>
  obtain⟨M,E⟩:=t4 A;cases E;cases h;exact FX M ah
 |global g=>cases A
 |func f=>cases A;cases h;exact .func f .nil .nil
theorem Loc.wd{aj:b8}{a:Act}{l:Array Operand}(I:Loc ah aj a.tmps l):∀{xs:aa Operand} {D:aa e2} {aE:aa X},(∀x∈xs,x∈l)->cos xs=some D->nW aj D = .ok aE->dm ah aE (xs.map a.eval)
 | [],D,aE,_,A,h=>by cases A;cases h;exact .nil
 |x::xs,D,aE,E,A,h=>by
  unfold cos at A
  split at A
  ·rename_i y Z h1 M
   cases A;obtain⟨v,N,h⟩:=R.fd (show R.bind (dR aj y) _=_ from h);obtain⟨V,bc,h⟩:=R.fd h;cases h;exact .cons (I.ej (E x (by simp)) h1 N) (I.wd (λz cX=>E z ab) M bc)
  ·cases A
theorem Loc.UA{a:Act}{l:Array Operand}(I:Loc ah aj a.tmps l){x:av Operand}(M:∀y,x=some y->y∈l){y:av e2}(A:H4 x=some y){v:av X}(h:Bo aj y = .ok v):u2 ah v (x.map a.eval):=by
 cases x with
 |none=>cases A;cases h;trivial
 |some x =>
  unfold H4 at A;cases D:co x with
  |none=>simp only[D]at A;cases A
  |some z =>
   simp only[D]at A;cases A;obtain⟨E,N,h⟩:=R.fd (show R.bind (dR aj z) _=_ from h);cases h;exact I.ej (M _ rfl) D N
theorem KJ{aj:b8}{a:Act}{a8:Array Operand}(eJ:Loc ah aj a.tmps a8)(D:Nat->av (Nat × Nat)):∀(E:aa (Nat × Operand)) (cs:aa (Nat × Nat × e2)) (aE:aa (Nat × Nat × X)) (cells A l:aa X),(∀x∈E,x.2∈a8) ->
  DA D E=some cs->zc aj cs = .ok aE->dm ah cells A->pk aE cells = .ok l ->
  ∃cc,Instr.fill D ⟨A⟩ (E.map λx=>(x.1,a.eval x.2))=some ⟨cc⟩/\dm ah l cc
 | [],cs,aE,cells,A,l,_,aU,N,ba,h=>by cases aU;cases N;cases h;exact⟨A,rfl,ba⟩
 |(i,x)::xs,cs,aE,cells,A,l,hm,aU,N,ba,h=>by
  unfold DA at aU
  split at aU
  ·rename_i p y r Z UB M
   cases aU;obtain⟨v,aI,N⟩:=R.fd (show R.bind (dR aj y) _=_ from N);obtain⟨vs',H6,N⟩:=R.fd N;cases N;obtain⟨gA,aM⟩:=j5 (show(bif Nat.beq (jJ (c5 v)) p.2 then R.of "fill" (ng (c5 v) cells p.1) (pk vs')else .no "fill - size") = .ok l from h);obtain⟨azI,I,bc⟩:=R.ls aM;have xP:=(eJ.ej (hm (i,x) (by simp)) UB aI).cells;have bm:p.2=(c5 v).length:=(g4 gA).symm;rw[t7]at I
   split at I
   ·rename_i dr
    cases I;have pz:=xP.length;have uC:=ba.length;obtain⟨cc,V,TG⟩:=KJ eJ D xs r vs' _ _ l (λz cX=>hm z ab) M H6 (xP.put ba p.1 (p.1+(c5 v).length)) bc;refine⟨cc,?_,TG⟩;obtain⟨off,tI⟩:=p;simp only at bm dr V;have Z:D i=some (off,tI):=Z;simp only[qQ,Instr.fill,Z];have:((a.eval x).cells.zipIdx.foldl (λcs (x:X × Nat)=>cs.setIfInBounds (off+x.2) x.1) (⟨A⟩:Array X))=⟨A.take off++((a.eval x).cells.toList++A.drop (off+(c5 v).length))⟩:=by
     apply Array.ext';rw[<-Ar,Array.toList_zipIdx,acs off _ 0 _ ab]
     grind
    grind
   ·cases I
  ·cases aU
theorem X3:∀{D:aa Field} {A:aa (Nat × Nat)},KF P D=some A->∀w,(D.mapM λf=>(do pure (f.offset,<-sizeOf f.type):Sem (Nat × Nat))).run P w = .ok A w
 | [],A,h,w=>by cases h;rfl
 |f::D,A,h,w=>by
  unfold KF at h
  split at h
  ·rename_i s r E I
   cases h;have:=X3 I w;simp only[Ay,Sem.run_bind,kF E,Result.andThen_ok,Sem.run_pure,this]
  grind
theorem amJ{a:Act}(eJ:Loc ah aj a.tmps a8){A:Array (Nat × Operand)}(hm:∀x∈A.toList,x.2∈a8){ym:aa X}{pl:Nat->av (Nat × Nat)}{cs:aa (Nat × Nat × e2)}{aE:aa (Nat × Nat × X)}(cX:oC P t=some ym)(D:QW P t=some pl)(aU:DA pl A.toList=some cs)(V:zc aj cs = .ok aE)(h:c8 ym aE = .ok v):nn P ah v (Instr.build t (A.map λ(i,x)=>(i,a.eval x))):=by
 obtain⟨l,bx,aM⟩:=R.fd h;cases aM;obtain⟨i,z,ai,n0,N,rfl⟩:=AB cX;have Z:(A.map λ(i,x)=>(i,a.eval x)).toList=A.toList.map λx=>(x.1,a.eval x.2):=by simp
 unfold QW at D
 split at D
 ·rename_i ds eb
  split at D
  ·rename_i bW H7
   cases D;obtain⟨cc,M,I⟩:=KJ eJ (g7 bW) A.toList cs aE _ _ l hm aU V (yP N ah) bx;refine⟨_,.agg I,λw=>?_⟩;have UC:=X3  H7 w;have D:(λi=>g7 bW i)=(λi=>bW.toArray[i]?):=funext λi=>by rw[jr];simp
   have E:Instr.fill (λi=>bW.toArray[i]?) z.cells (A.map λ(i,x)=>(i,a.eval x)).toList=some ⟨cc⟩:=by rw[Z,<-D];omega
   simp only[Instr.build,Sem.run_bind,y0 ai n0,Result.andThen_ok,run_underlying eb];rw[Array.mapM_eq_mapM_toList];simp only[Sem.run_map,UC,Result.andThen_ok,E,Sem.run_pure]
  ·cases D
 ·rename_i n e eb
  split at D
  ·rename_i s ar
   cases D;obtain⟨cc,M,I⟩:=KJ eJ (λi=>some (Nat.mul i s,s)) A.toList cs aE _ _ l hm aU V (yP N ah) bx;refine⟨_,.agg I,λw=>?_⟩;have E:Instr.fill (λi=>some (i*s,s)) z.cells (A.map λ(i,x)=>(i,a.eval x)).toList=some ⟨cc⟩:=by rw[Z];omega
   simp only[Instr.build,Sem.run_bind,y0 ai n0,Result.andThen_ok,run_underlying eb,kF ar,E,Sem.run_pure]
  ·cases D
 ·cases D
theorem F0(n:Nat)(z:aa X):(hg n z).length=n*z.length:=by
 induction n with
 |zero=>simp[hg]
 |succ n A=>simp[hg,kk,A,FR];omega
theorem aaD(z:aa X):∀(n i:Nat),i<n*z.length->(hg n z)[i]? = z[i % z.length]?
 |0,i,h=>J
 |n+1,i,h=>by
  simp only[hg,kk,yG]
  split
  ·rename_i ai;rw[J4 ai]
  ·rename_i ai
   rw[aaD z n (i-z.length) ab]
   congr 1
   rw[Nat.mod_eq_sub_mod (by omega:i≥z.length)]
theorem PA(z:Array X)(n:Nat):((Array.range (n*z.size)).map λi=>z[i % z.size]!)=⟨hg n z.toList⟩:=by
 apply Array.ext';apply nL;intro i
 by_cases h:i<n*z.size
 ·rw[aaD _ _ _ J];have A:0<z.size:=ab
  have D:=Az i A
  grind
 ·rw[sQ ab,sQ (by rw[F0];grind)]
theorem Dh{z A:aa X}(h:dm ah z A):∀n,dm ah (hg n z) (hg n A)
 |0=>.nil
 |n+1=>by simp only[hg,kk];exact h.append (Dh h n)
theorem AA(z:Array X)(n:Nat):Builtin.zeroCells z n=⟨hg n z.toList⟩:=PA z n
end
section
variable {P:Program} {ah:cd}
def D9(P:Program)(ah:cd)(v:X)(s:Sem Next):Prop:=∃c,bE ah v c/\∀w,s.run P w = .ok (.value c) w
theorem nn.op{s:Sem X}(h:nn P ah v s):D9 P ah v (do pure (.value (<-s))):=by obtain⟨c,A,D⟩:=h;exact⟨c,A,λw=>by simp[D w]⟩
theorem D9.pure{v c:X}(h:bE ah v c):D9 P ah v (Pure.pure (.value c)):=⟨c,h,λ_=>rfl⟩
theorem aiC(A:bE ah v c)(h:(∃a,v = .pointer (some a))\/(∃f a b,v = .func (.func f) a b)\/(∃f a b,v = .func (.yield f) a b)\/∃t y,v = .iface t y){o:Oper}{x:Operand}{bw:Operand->X}(D:o.op = .nilCheck x)(E:bw x=c):∀w,(execOp bw o).run P w = .ok (.value c) w:=by
 intro w;unfold execOp;rw[D];simp only[E];rcases h with⟨a,rfl⟩|⟨f,a,b,rfl⟩|⟨f,a,b,rfl⟩|⟨t,y,rfl⟩
 ·cases A;rfl
 ·cases A;rfl
 ·cases A;rfl
 ·cases A;rfl
theorem O3{bw:Operand->X}{c:Call}{b:Builtin}(D:c.callee = .builtin b)(A:TypeId):
  ∃cs,resolve bw c A=pure { target:=.builtin b c.argTypes A cs,args:=c.args.map bw }:=by unfold resolve;rw[D];grind
theorem y1{aA:Type}{b:ak}{x:av aA}{r:aA}:(bif b then x else none)=some r↔b=true/\x=some r:=by cases b <;> simp
theorem Loc.Ea{a:Act}{l:Array Operand}(E:Loc ah aj a.tmps l){y:e2}(D:∀x∈xs,x∈l)(A:cos xs=some [y])(h:dR aj y = .ok v):
  ∃c,bE ah v c/\(⟨xs.map a.eval⟩:Array X)=#[c]:=by
 have:=E.wd D A (show nW aj [y] = .ok [v] by simp[nW,h,R.bind]);generalize xs.map a.eval=mV at *
 cases this with
 |cons h t=>cases t;exact⟨_,h,rfl⟩
theorem Loc.Bp{a:Act}{l:Array Operand}(I:Loc ah aj a.tmps l){y E:e2}{D:X}(N:∀x∈xs,x∈l)(M:cos xs=some [y,E])(h:dR aj y = .ok v)(A:dR aj E = .ok D):
  ∃c c2,bE ah v c/\bE ah D c2/\(⟨xs.map a.eval⟩:Array X)=#[c,c2]:=by
 have:=I.wd N M (show nW aj [y,E] = .ok [v,D] by simp[nW,h,A,R.bind]);generalize xs.map a.eval=mV at *
 cases this with
 |cons h t=>cases t with
  |cons A t=>cases t;exact⟨_,_,h,A,rfl⟩
theorem act{a:Act}(o:Oper)(M:Loc ah aj a.tmps o.op.operands){e:Ji}(A:pw P o.op=some (.fB e))(h:nX P aj e = .ok v):D9 P ah v (execOp a.eval o):=by
 have ex:∀{op:Op},o.op=op->execOp a.eval o=execOp a.eval { o with op:=op }:=λh=>by rw[<-h]
 cases uD:o.op <;> rw[uD]at A M <;> rw[ex uD] <;> (try simp only[pw,j4,mw,y1,Av,reduceCtorEq,and_false,Ke]at A)
 case move x =>
  obtain⟨dF,I,D⟩:=A;cases D;exact D9.pure (M.ej (by simp[Op.operands]) I h)
 case assign x =>
  obtain⟨dF,I,D⟩:=A;cases D;exact D9.pure (M.ej (by simp[Op.operands]) I h)
 case pick c x y =>
  obtain⟨ge,I,dF,Z,iD,aM,D⟩:=A;cases D;obtain⟨eG,E,h⟩:=R.fd h;obtain⟨N,V,h⟩:=R.fd h;obtain⟨sC,c3,h⟩:=R.fd h;have dJ:=M.ej (by simp[Op.operands]) I E;cases eG with
  |bool b =>
   have aF:=dJ.Gn;cases b with
   |true=>cases h;exact⟨_,M.ej (by simp[Op.operands]) Z V,λw=>by simp[execOp,aF,asBool]⟩
   |false=>cases h;exact⟨_,M.ej (by simp[Op.operands]) aM c3,λw=>by simp[execOp,aF,asBool]⟩
  |_=>cases h
 case build t nd =>
  obtain⟨z,cX,pl,pA,bW,H7,D⟩:=A;cases D;obtain⟨aE,E,h⟩:=R.fd h;exact(amJ M (λx aR=>by simp only[Op.operands];grind) cX pA H7 E h).op
 case nilCheck x =>
  obtain⟨dF,I,D⟩:=A;cases D;obtain⟨N,E,h⟩:=R.fd h;obtain⟨rfl,aM⟩:=ajc h;have aI:=M.ej (by simp[Op.operands]) I E;exact⟨_,aI,aiC aI aM rfl rfl⟩
 case binOp op t x y aCU =>
  obtain⟨dF,I,iD,Z,D⟩:=A;cases D;obtain⟨N,E,h⟩:=R.fd h;obtain⟨sC,V,h⟩:=R.fd h;exact(ap3 x y h (M.ej (by simp[Op.operands]) I E) (M.ej (by simp[Op.operands]) Z V)).op
 case unOp op t x =>
  obtain⟨dF,I,D⟩:=A;cases D;obtain⟨N,E,h⟩:=R.fd h;exact(ap4 h (M.ej (by simp[Op.operands]) I E)).op
 case convert s d x =>
  obtain⟨jQ,ar,W3,bu,dF,I,D⟩:=A;cases D;obtain⟨N,E,h⟩:=R.fd h;exact(aks ar bu h (M.ej (by simp[Op.operands]) I E)).op
 case makeInterface t x =>
  obtain⟨cy,dF,I,D⟩:=A;cases D;obtain⟨N,E,h⟩:=R.fd h;cases h;exact(ap5 cy (M.ej (by simp[Op.operands]) I E)).op
 case makeFunc fn x y =>
  split at A
  ·simp only[j4,mw]at A;obtain⟨dF,I,iD,Z,D⟩:=A;cases D;obtain⟨N,E,h⟩:=R.fd h;obtain⟨sC,V,h⟩:=R.fd h;cases h;have aR:=M.wd (λz cX=>by simp only[Op.operands];grind) I E;have ca:=M.wd (λz cX=>by simp only[Op.operands];grind) Z V;refine⟨.func (.func _) ⟨x.toList.map a.eval⟩ ⟨y.toList.map a.eval⟩,.func _ aR ca,λw=>?_⟩;have D:x.map a.eval=⟨x.toList.map a.eval⟩:=ab
   have aJ:y.map a.eval=⟨y.toList.map a.eval⟩:=ab
   simp[execOp,Instr.makeFunc,D,aJ]
  ·cases A
 case slice t x ao ai jh =>
  obtain⟨s,ar,dF,I,cl,Z,kW,aM,nx,bc,D⟩:=A;cases D;obtain⟨N,E,h⟩:=R.fd h;obtain⟨gf,V,h⟩:=R.fd h;obtain⟨aCV,c3,h⟩:=R.fd h;obtain⟨Jj,dK,h⟩:=R.fd h;exact(ap6 (M.UA (λy ca=>by subst ca;simp[Op.operands]) Z V) (M.UA (λy ca=>by subst ca;simp[Op.operands]) aM c3) (M.UA (λy ca=>by subst ca;simp[Op.operands]) bc dK) ar h (M.ej (by simp[Op.operands]) I E)).op
 case fieldAddr s x f =>
  obtain⟨aAz,bx,dF,I,D⟩:=A;cases D;obtain⟨N,E,h⟩:=R.fd h;obtain⟨bp,rfl,h⟩:=KH h;cases h;exact(aiL bx (M.ej (by simp[Op.operands]) I E)).op
 case field s x f =>
  obtain⟨aAz,bx,bU,xO,dF,I,D⟩:=A;cases D;obtain⟨N,E,h⟩:=R.fd h;exact(amH bx xO h (M.ej (by simp[Op.operands]) I E)).op
 case indexAddr t x u0 =>
  obtain⟨k,hk,dF,I,ke,Z,D⟩:=A;cases D;obtain⟨N,E,h⟩:=R.fd h;obtain⟨gW,V,h⟩:=R.fd h;obtain⟨q,i,rfl,h⟩:=Dg h;have:=(aim (q:=q) hk h (M.ej (by simp[Op.operands]) I E)).op;rwa[<-(M.ej (by simp[Op.operands]) Z V).t8]at this
 case index t x u0 =>
  obtain⟨dF,I,ke,Z,D⟩:=A;cases D;obtain⟨N,E,h⟩:=R.fd h;obtain⟨gW,V,h⟩:=R.fd h;obtain⟨q,i,rfl,h⟩:=Dg h;have:=(aje (q:=q) h (M.ej (by simp[Op.operands]) I E)).op;rwa[<-(M.ej (by simp[Op.operands]) Z V).t8]at this
 case extract x i =>
  obtain⟨dF,I,D⟩:=A;cases D;obtain⟨N,E,h⟩:=R.fd h;exact(aiA h (M.ej (by simp[Op.operands]) I E)).op
 case typeAssert x aCW t ok =>
  obtain⟨dF,I,D⟩:=A;cases D;obtain⟨N,E,h⟩:=R.fd h;exact(aiK h (M.ej (by simp[Op.operands]) I E)).op
 case call c =>
  obtain⟨jw,I,A⟩:=A;have aR:∀x∈c.args.toList,x∈(Op.call c).operands:=λx aR=>by simp only[Op.operands,Call.operands];grind
  have xy:c.args.map a.eval=⟨c.args.toList.map a.eval⟩:=ab
  split at A
  ·simp at A
  ·simp at A
  ·rename_i b aG
   obtain⟨cs,lA⟩:=O3 (bw:=a.eval) aG o.type;unfold execOp;simp only[lA,xy];unfold Es at A
   split at A
   ·split at A
    ·obtain⟨t,_,A⟩:=j4.1 A
     split at A <;> cases A
    ·cases A
   ·split at A
    ·cases A;obtain⟨N,E,h⟩:=R.fd h;obtain⟨sC,V,h⟩:=R.fd h;obtain⟨ih,jC,dJ,gg,aJ⟩:=M.Bp aR I E V;obtain⟨bL,aI,ba⟩:=aaB (P:=P) h dJ gg;rw[aJ];exact nn.op ⟨bL,aI,λw=>by have:=ba w;simp only[oy]at this;simp[Builtin.min_,this]⟩
    ·cases A
   ·split at A
    ·cases A;obtain⟨N,E,h⟩:=R.fd h;obtain⟨sC,V,h⟩:=R.fd h;obtain⟨ih,jC,dJ,gg,aJ⟩:=M.Bp aR I E V;obtain⟨bL,aI,ba⟩:=aaB (P:=P) h dJ gg;rw[aJ];exact nn.op ⟨bL,aI,λw=>by have:=ba w;simp only[lH]at this;simp[Builtin.max_,this]⟩
    ·cases A
   ·split at A
    ·obtain⟨t,cy,D⟩:=mw.1 A;cases D;obtain⟨N,E,h⟩:=R.fd h;obtain⟨ih,dJ,aJ⟩:=M.Ea aR I E;rw[aJ];exact(amI (by rw[jr]at cy;grind) h dJ).op
    ·cases A
   ·cases Bq:rY P (g7 c.argTypes.toList 1) <;> rw[Bq]at A
    ·simp only[lH,j4,y1]at A;obtain⟨_,_,_,_,_,_,_,_,_,A⟩:=A
     split at A <;> cases A
    ·cases A
   ·cases A
 case makeMap t r=>cases r <;> cases A
 case next it b=>cases b <;> simp at A
 all_goals (split at A <;> simp[j4]at A)
end
section
variable {P:Program} {ah:cd} {B:Nat}
structure Made (w bj:World) (o:Obj):Prop where
 size:bj.heap.size=w.heap.size+1
 new:bj.heap[w.heap.size]? = some o
 d8:∀k,k<w.heap.size->bj.heap[k]? = w.heap[k]?
 os:bj.os=w.os
 tape:rz w bj
 output:bj.output=w.output
theorem Made.push(w:World)(o:Obj):Made w { w with heap:=w.heap.push o } o :=
 ⟨by simp,by simp,ab,rfl,.here,rfl⟩
def xz(ah:cd)(cW:kT)(o:Obj)(p:Place):Prop:=match cW with
 | .ptr (.cells cs false)=>p.off=0/\p.spare=0/\∃c e,o = .cells c e (0,0)/\dm ah cs c.toList
 | .slice (.cells cs false) _ _=>p.off=0/\p.spare=0/\∃c e,o = .cells c e (0,0)/\dm ah cs c.toList
 | .map=>p.off=0/\o = .map #[] 0
 |_=>False
def UD(cW:kT)(ct:Nat)(spare:Nat):X:=match cW with
 | .ptr _=>.pointer (some ⟨ct,0,none⟩)
 | .slice _ len cap=>.slice (some ⟨ct,0,none⟩) len cap
 | .map=>.map (some ct)
def ML(P:Program)(ah:cd)(cW:kT)(s:Sem Next):Prop:=∀w,∃o p bj,p.ct=w.heap.size/\xz ah cW o p/\Made w bj o/\s.run P w = .ok (.value (UD cW w.heap.size p.spare)) bj
theorem xz.mono{bw:cd}(M:Sub ah bw){cW:kT}{o:Obj}{p:Place}(h:xz ah cW o p):xz bw cW o p:=by
 unfold xz at *
 split at h
 ·obtain⟨I,A,c,e,D,E⟩:=h;exact⟨I,A,c,e,D,E.mono M⟩
 ·obtain⟨I,A,c,e,D,E⟩:=h;exact⟨I,A,c,e,D,E.mono M⟩
 ·exact h
 omega
theorem Kv{c:Array X}(h:dm ah cs (c.toList.take cs.length)):ph ah cs c 0:=by
 intro i v E;obtain⟨D,I,A⟩:=h.get E;refine⟨D,?_,A⟩
 grind
theorem ML.step{w:World}{o:Obj}{U:Nat}(ba:ee B ah H w)(bm:ah U=none)(N:p.ct=w.heap.size)(E:xz ah cW o p)(M:Made w bj o):
  cE B ah H w U (U+1) (λk=>if k=U then some p else ah k) (H.put U (tn cW)) bj/\bE (λk=>if k=U then some p else ah k) (xK U cW) (UD cW w.heap.size p.spare):=by
 have V:Sub ah (λk=>if k=U then some p else ah k):=λb q aG=>ab
 have dZ:B<=p.ct:=by rw[N];exact ba.base
 have D:(λk=>if k=U then some p else ah k) U=some p:=by simp
 have A:=E.mono V;have bN:bj.heap[p.ct]? = some o:=by rw[N];exact M.new
 constructor
 ·refine cE.make ba bm M.size M.d8 M.os M.tape M.output N ?_;unfold xz at A
  split at A
  ·obtain⟨I,al,c,e,rfl,Z⟩:=A;have bg:=Z.length;refine⟨dZ,I,c,e,0,0,bN,J,Kv (by rw[bg,ht];exact Z),ab⟩
  ·obtain⟨I,al,c,e,rfl,Z⟩:=A;have bg:=Z.length;refine⟨dZ,I,c,e,0,0,bN,J,Kv (by rw[bg,ht];exact Z),ab⟩
  ·obtain⟨I,rfl⟩:=A;exact⟨dZ,[],bN,.nil⟩
  ·exact A.elim
 ·unfold xz at E
  split at E
  ·obtain⟨I,_⟩:=E;have:=bE.ptr (ah:=λk=>if k=U then some p else ah k) (o:=0) D;rw[N,I]at this;exact this
  ·obtain⟨I,_⟩:=E;have:=λl c=>bE.lp (ah:=λk=>if k=U then some p else ah k) (o:=0) D l c;rw[N,I]at this;exact this _ _
  ·have:=bE.map (ah:=λk=>if k=U then some p else ah k) D;rw[N]at this;exact this
  ·exact E.elim
theorem ajf(h:GI l = .ok cW):ec l=true/\cW = .ptr (.cells l false):=by obtain⟨A,D⟩:=j5 h;grind
theorem Yu{n c:Nat}(h:wY l n c = .ok cW):ec l=true/\cW = .slice (.cells l false) n c:=by obtain⟨A,D⟩:=j5 h;grind
theorem FV(h:rU P t=some e):P.underlying t=some (.slice e):=by
 unfold rU at h
 grind
theorem Yv(e:TypeId)(v:X)(w:World):(newVar e v).run P w = .ok ⟨w.heap.size,0,none⟩ { w with heap:=w.heap.push (.cells v.cells e) }:=rfl
theorem Kq(e:TypeId)(c:Array X)(w:World):(newRow e c).run P w = .ok ⟨w.heap.size,0,none⟩ { w with heap:=w.heap.push (.cells c e) }:=rfl
theorem ap7{b:Builtin}{af:aa TypeId}{jw:aa e2}{e:Fl}(h:Es P b af jw=some (.iK e)):False:=by
 unfold Es at h
 split at h
 ·split at h
  ·obtain⟨t,_,h⟩:=j4.1 h
   split at h <;> cases h
  ·cases h
 ·split at h <;> cases h
 ·split at h <;> cases h
 ·split at h
  ·simp at h
  ·cases h
 ·cases A:rY P (g7 af 1) <;> rw[A]at h
  ·simp only[lH,j4,y1]at h;obtain⟨_,_,_,_,_,_,_,_,_,h⟩:=h
   split at h <;> cases h
  ·cases h
 ·cases h
theorem acu{a:Act}(o:Oper)(eJ:Loc ah aj a.tmps o.op.operands){e:Fl}(D:pw P o.op=some (.iK e))(h:xx aj e = .ok cW):ML P ah cW (execOp a.eval o):=by
 have ex:∀{op:Op},o.op=op->execOp a.eval o=execOp a.eval { o with op:=op }:=λh=>by rw[<-h]
 cases uD:o.op <;> rw[uD]at D eJ <;> rw[ex uD] <;> (try simp only[pw,j4,mw,y1,Av,reduceCtorEq,and_false,Ke]at D)
 case alloc e =>
  obtain⟨l,cX,je,aY⟩:=D;cases aY;cases h;obtain⟨i,z,ai,n0,Z,rfl⟩:=AB cX;intro w;refine⟨.cells z.cells e (0,0),⟨w.heap.size,0,0,0⟩,{ w with heap:=w.heap.push (.cells z.cells e) },rfl,⟨rfl,rfl,_,e,rfl,yP Z ah⟩,Made.push w _,?_⟩;unfold execOp;simp only[Instr.alloc,Sem.run_bind,y0 ai n0,Result.andThen_ok,Yv,Sem.run_pure];rfl
 case box e x =>
  obtain⟨dF,br,aY⟩:=D;cases aY;obtain⟨v,aI,h1⟩:=R.fd h;obtain⟨D,rfl⟩:=ajf h1;have xP:=(eJ.ej (by simp[Op.operands]) br aI).cells;intro w;refine⟨.cells (a.eval x).cells e (0,0),⟨w.heap.size,0,0,0⟩,{ w with heap:=w.heap.push (.cells (a.eval x).cells e) },rfl,⟨rfl,rfl,_,e,rfl,xP⟩,Made.push w _,?_⟩;unfold execOp;simp only[Instr.box,Sem.run_bind,Result.andThen_ok,Yv,Sem.run_pure];rfl
 case buildSlice t len nd =>
  obtain⟨e,bk,s,ar,ym,cX,MM,bW,H7,aY⟩:=D;cases aY;simp only[eD]at MM;obtain⟨H8,dr⟩:=MM;obtain⟨aE,H6,h⟩:=R.fd h;obtain⟨l,bx,b9⟩:=R.fd h;obtain⟨i,z,ai,n0,Z,rfl⟩:=AB cX;obtain⟨D,rfl⟩:=Yu b9;have eb:=FV bk;have TH:z.cells.size=s:=by have:=g4 H8;rw[oB]at this;omega
  have xA:=l6 dr;have xA:len*s<=1000000:=xA;obtain⟨cc,azK,TG⟩:=KJ eJ (λi=>some (Nat.mul i s,s)) nd.toList bW aE _ _ l (λx aR=>by simp only[Op.operands];grind) H7 H6 (Dh (yP Z ah) len) bx;have r8:(nd.map λ(i,x)=>(i,a.eval x)).toList=nd.toList.map λx=>(x.1,a.eval x.2):=by simp
  intro w;refine⟨.cells ⟨cc⟩ e (0,0),⟨w.heap.size,0,0,0⟩,{ w with heap:=w.heap.push (.cells ⟨cc⟩ e) },rfl,⟨rfl,rfl,_,e,rfl,TG⟩,Made.push w _,?_⟩;unfold execOp;have M:Instr.fill (λi=>some (i*s,s)) ⟨hg len z.cells.toList⟩ (nd.map λ(i,x)=>(i,a.eval x)).toList=some ⟨cc⟩:=by rw[r8];omega
  have a5:¬(len*s>2 ^ 24):=J
  by_cases ap:len*s=0
  ·have xB:hg len z.cells.toList=[]:=by
    apply Ak;rw[F0]
    grind
   have A:((Array.range (len*s)).map (λx=>(#[]:Array X)[x % (#[]:Array X).size]!))=⟨hg len z.cells.toList⟩:=ab
   simp only[Instr.buildSlice,Sem.run_bind,run_underlying eb,kF ar,Result.andThen_ok,Sem.run_ite,if_neg a5,Sem.run_pure,if_pos ap,A,M,Kq];rfl
  ·have A:((Array.range (len*s)).map (λx=>z.cells[x % z.cells.size]!))=⟨hg len z.cells.toList⟩:=by rw[<-TH];exact PA z.cells len
   simp only[Instr.buildSlice,Sem.run_bind,run_underlying eb,kF ar,Result.andThen_ok,Sem.run_ite,if_neg a5,Sem.run_pure,if_neg ap,y0 ai n0,A,M,Kq];rfl
 case makeMap t r =>
  cases r with
  |some r=>cases D
  |none =>
   cases D;cases h;intro w;refine⟨.map #[] 0,⟨w.heap.size,0,0,0⟩,{ w with heap:=w.heap.push (.map #[] 0) },rfl,⟨rfl,rfl⟩,Made.push w _,?_⟩;unfold execOp;rfl
 case makeSlice t l c =>
  obtain⟨e,bk,ym,cX,N,cl,c1,ge,c2,aY⟩:=D;cases aY;obtain⟨gf,h1,al⟩:=R.fd h;obtain⟨eG,bc,bP⟩:=R.fd al;obtain⟨aCX,N7,rfl,aM⟩:=Dg bP;obtain⟨aCY,E,rfl,b9⟩:=Dg aM;obtain⟨I,UE⟩:=j5 b9;simp only[eD]at I;have r9:=l6 I.1;have MN:=l6 I.2;obtain⟨i,z,ai,n0,Z,rfl⟩:=AB cX;obtain⟨D,rfl⟩:=Yu UE;have eb:=FV bk;simp only[eD]at N;obtain⟨H8,N⟩:=N;rw[ai]at H8 N;simp only[FL,J6]at H8 N;have TH:z.cells.size=i.size:=by have:=g4 H8;rw[oB]at this;omega
  have axf:i.bytes<=1000000:=l6 N;intro w;refine⟨.cells ⟨hg E z.cells.toList⟩ e (0,0),⟨w.heap.size,0,0,0⟩,{ w with heap:=w.heap.push (.cells ⟨hg E z.cells.toList⟩ e) },rfl,⟨rfl,rfl,_,e,rfl,Dh (yP Z ah) E⟩,Made.push w _,?_⟩;unfold execOp;simp only[(eJ.ej (by simp[Op.operands]) c1 h1).t8,(eJ.ej (by simp[Op.operands]) c2 bc).t8];have uE:IntKind.i64.wrap (Int.ofNat N7)=(N7:Int):=K9 (by simp[IntKind.min,IntKind.signed,IntKind.bits] <;> omega) (by simp[IntKind.max,IntKind.signed,IntKind.bits] <;> omega);have hwc:IntKind.i64.wrap (Int.ofNat E)=(E:Int):=K9 (by simp[IntKind.min,IntKind.signed,IntKind.bits] <;> omega) (by simp[IntKind.max,IntKind.signed,IntKind.bits] <;> omega);have afW:∀w,(typeInfo e).run P w = .ok i w:=λw=>by simp[typeInfo,ai]
  have h3:∀w,(sizeOf e).run P w = .ok i.size w:=λw=>FY ai w;have ag9:(i.bytes:Int)*(E:Int)<=1000000*100000:=by have:i.bytes*E<=1000000*100000:=sT axf MN;omega
  have hai:∀(k:IntKind) (n:Nat) w,(asInt (.int k (Int.ofNat n))).run P w = .ok (Int.ofNat n) w:=λ_ _ _=>rfl;have V:(decide ((E:Int)<0)||decide ((i.bytes:Int)*(E:Int)>2 ^ 48)||decide ((N7:Int)<0)||decide ((N7:Int)>(E:Int)))=false:=ab
  by_cases ap:E*i.size=0
  ·have xB:hg E z.cells.toList=[]:=by
    apply Ak;rw[F0]
    grind
   have A:((Array.range (E*i.size)).map (λx=>(#[]:Array X)[x % (#[]:Array X).size]!))=⟨hg E z.cells.toList⟩:=ab
   simp only[Instr.makeSlice,Sem.run_bind,run_underlying eb,hai,afW,h3,Result.andThen_ok,uE,hwc,Sem.run_ite,V,nK,fc,Sem.run_pure,run_askRoom,yI,if_pos ap,A,Kq];rfl
  ·have A:((Array.range (E*i.size)).map (λx=>z.cells[x % z.cells.size]!))=⟨hg E z.cells.toList⟩:=by rw[<-TH];exact PA z.cells E
   simp only[Instr.makeSlice,Sem.run_bind,run_underlying eb,hai,afW,h3,Result.andThen_ok,uE,hwc,Sem.run_ite,V,nK,fc,Sem.run_pure,run_askRoom,yI,if_neg ap,y0 ai n0,A,Kq];rfl
 case call c =>
  obtain⟨_,_,D⟩:=D
  split at D
  ·simp at D
  ·simp at D
  ·exact(ap7 D).elim
 case next it b=>cases b <;> simp at D
 all_goals (split at D <;> simp[j4]at D)
end
section
variable {P:Program} {ah:cd} {B:Nat}
theorem aiD(A:P.underlying t=some (.int q))(D:ak)(d:Nat)(k:X)(w:World):(Instr.checkKey D (d+1) t k).run P w = .ok () w:=by
 cases k <;> simp only[Instr.checkKey,Sem.run_bind,run_underlying A,Result.andThen_ok] <;> rfl
theorem Kf{r:ak}(h:lq P t k k=some r)(A:ak)(w:World):(Instr.checkKey A 10000 t k).run P w = .ok () w:=by
 unfold lq at h
 split at h
 ·obtain⟨D,_⟩:=t4 h;simp only[eD]at D;obtain⟨q,M⟩:=X1 D.2;exact aiD M A 9999 _ w
 ·obtain⟨N,E,_,_,_,I,V,Z,_,_⟩:=wU h;exact run_checkKey_deep A 9992 8 t N w 8 _ I E (by rw[<-Kg];omega)
theorem Po(h:zj P t k=true):∃r,lq P t k k=some r:=nJ.1 h
def aha(P:Program)(t:TypeId)(k:X):Prop:=∀(y:X) (r:ak),lq P t k y=some r->∀w,(Op.equal t k y).run P w = .ok r w
def TI(P:Program)(d:TypeDesc)(t:TypeId)(k:X):Prop:=∀(y:X) (r:ak),lq P t k y=some r->Instr.sameNow d k y=some r
theorem hU.get:∀{es df:aa MapEntry} {i:Nat} {e:MapEntry},hU ah es df->es[i]? = some e->∃A,df[i]? = some A/\bE ah e.key A.key/\bE ah e.val A.val/\A.born=e.born
 |_,_,0,_,.cons I E D _,h=>by simp at h;subst h;exact⟨_,rfl,I,E,D⟩
 |_,_,i+1,_,.cons _ _ _ t,h=>by simpa using hU.get  t ab
theorem hU.length:∀{es df:aa MapEntry},hU ah es df->es.length=df.length
 |_,_,.nil=>rfl
 |_,_,.cons _ _ _ t=>by simp[hU.length t]
theorem F4{t:TypeId}{k:X}:∀{es:aa MapEntry} {i:Nat} {r:av (Nat × MapEntry)},k2 P t k es i=some r ->
  (∀j e,r=some (j,e)->i<=j/\es[j-i]? = some e/\lq P t k e.key=some true)
 | [],i,r,h=>by cases h;grind
 |x::xs,i,r,h=>by
  unfold k2 at h
  split at h
  ·grind
  ·intro j e A;obtain⟨E,I,D⟩:=F4 h j e A
   grind
  grind
def ze(df:aa MapEntry)(i:Nat)(r:av (Nat × MapEntry))(c:av (Nat × X)):Prop:=match r with
 |none=>c=none
 |some (j,_)=>∃ep,df[j-i]? = some ep/\c=some (j,ep.val)
theorem ze.shift{x:MapEntry}{r:av (Nat × MapEntry)}{c:av (Nat × X)}(h:ze df (i+1) r c)(E:∀j e,r=some (j,e)->i+1<=j):ze (x::df) i r c:=by
 cases r with
 |none=>exact h
 |some q =>
  obtain⟨j,e⟩:=q;obtain⟨A,I,D⟩:=h;refine⟨A,?_,D⟩
  grind
theorem Pg{d:TypeDesc}{t:TypeId}{k:X}(I:TI P d t k):∀{es df:aa MapEntry} {i:Nat} {r:av (Nat × MapEntry)},hU ah es df->k2 P t k es i=some r ->
  ∃c,Instr.findNow d k df i=some c/\ze df i r c
 |_,_,i,r,.nil,h=>by cases h;exact⟨none,rfl,rfl⟩
 |x::xs,y::Z,i,r,.cons M aI aG N,h=>by
  have E:=F4  h;unfold k2 at h
  split at h
  ·rename_i A
   cases h;have D:y.key=x.key:=vo (yQ A).2 M;refine⟨some (i,y.val),?_,y,by simp,rfl⟩;simp[Instr.findNow,D,I _ _ A]
  ·rename_i A
   have D:y.key=x.key:=vo (yQ A).2 M;obtain⟨c,h1,V⟩:=Pg I N h;refine⟨c,?_,V.shift λj e ba=>?_⟩
   ·simp only[Instr.findNow,D,I _ _ A];omega
   grind
  ·cases h
theorem XR{t:TypeId}{k:X}(E:aha P t k)(w:World):∀{es df:aa MapEntry} {i:Nat} {r:av (Nat × MapEntry)},hU ah es df->k2 P t k es i=some r ->
  ∃c,(Instr.findAsking t k df i).run P w = .ok c w/\ze df i r c
 |_,_,i,r,.nil,h=>by cases h;exact⟨none,rfl,rfl⟩
 |x::xs,y::Z,i,r,.cons I aI aG M,h=>by
  unfold k2 at h
  split at h
  ·rename_i A
   cases h;have D:y.key=x.key:=vo (yQ A).2 I;refine⟨some (i,y.val),?_,y,by simp,rfl⟩;simp[Instr.findAsking,D,E _ _ A w]
  ·rename_i A
   have D:y.key=x.key:=vo (yQ A).2 I;obtain⟨c,h1,N⟩:=XR E w M h;refine⟨c,?_,N.shift λj e V=>?_⟩
   ·simp only[Instr.findAsking,D,Sem.run_bind,E _ _ A w,Result.andThen_ok,nK,fc];omega
   ·exact(F4 h j e V).1
  ·cases h
theorem F1{fu:ak}(hk:lq P t k k=some fu){r:av (Nat × MapEntry)}(bk:hU ah es df)(h:k2 P t k es 0=some r)(w:World):
  ∃c,(Instr.findKey t k df).run P w = .ok c w/\ze df 0 r c:=by
 have N:(∃q n,k = .int q n)\/((∀q n,k≠.int q n)/\∀y r,lq P t k y=some r->rj P t k y=some r):=by
  cases k <;> first|exact .inl ⟨_,_,rfl⟩|exact .inr ⟨ab,λy r E=>E⟩
 rcases N with⟨q,n,rfl⟩|⟨hni,A⟩
 ·have tq:=hk;simp only[lq,Lx]at tq;obtain⟨aU,_⟩:=t4 tq;simp only[eD]at aU;obtain⟨kU,M⟩:=X1 aU.2;have cU:TI P (.int kU) t (.int q n):=by
   intro y r E;simp only[lq,Lx]at E
   split at E
   ·obtain⟨aU,E⟩:=t4 E;cases E;simp only[eD]at aU;rw[GM.1 aU.1];simp[Instr.sameNow,lo]
   grind
  obtain⟨c,Z,al⟩:=Pg cU bk h;exact⟨c,by simp[Instr.findKey,run_underlying M,Z],al⟩
 ·obtain⟨Z,azL,_,_,_,z8,_,UF,_,_⟩:=wU (A _ _ hk);have hY:aha P t k:=λy r E w=>acq ab 9992 w;unfold Program.keyTypeAt at Z;cases M:P.underlying t with
  |none=>rw[M]at Z;simp at Z
  |some d =>
   rw[M]at Z;have D:(∀x y,Instr.sameNow d x y=none)->∃c,(Instr.findKey t k df).run P w = .ok c w/\ze df 0 r c:=by
    intro bu;obtain⟨c,aM,bc⟩:=XR hY w bk h;refine⟨c,?_,bc⟩;cases df with
    |nil =>
     simp[Instr.findAsking]at aM;simp[Instr.findKey,run_underlying M,Instr.findNow,aM]
    |cons ep df=>simp[Instr.findKey,run_underlying M,Instr.findNow,bu,aM]
   have I:TI P d t k->∃c,(Instr.findKey t k df).run P w = .ok c w/\ze df 0 r c:=by intro cU;obtain⟨c,aM,bc⟩:=Pg cU bk h;exact⟨c,by simp[Instr.findKey,run_underlying M,aM],bc⟩
   cases d <;> simp at Z
   case bool =>
    refine I λy r E=>?_;obtain⟨_,_,_,_,_,Cj,aBn,aR,V,ai⟩:=wU (A _ _ E);obtain⟨b,aY,aJ⟩:=keyLits_bool' M aR;obtain⟨ck,ce,eC⟩:=keyLits_bool' M V;have b0:k = .bool b:=by
     cases k <;> simp_all[c5,Value.formed]
    have Jk:y = .bool ck:=by
     obtain⟨_,_,hfy,_⟩:=wU (A _ _ E);cases y <;> simp_all[c5,Value.formed]
    rw[b0,Jk];simp only[Instr.sameNow]
    congr 1
    grind
   case string =>
    refine I λy r E=>?_;obtain⟨_,_,_,_,_,Cj,aBn,aR,V,ai⟩:=wU (A _ _ E);obtain⟨b,aY,aJ⟩:=keyLits_string' M aR;obtain⟨ck,ce,eC⟩:=keyLits_string' M V;have b0:k = .string b:=by
     cases k <;> simp_all[c5,Value.formed]
    have Jk:y = .string ck:=by
     obtain⟨_,_,hfy,_⟩:=wU (A _ _ E);cases y <;> simp_all[c5,Value.formed]
    rw[b0,Jk];simp only[Instr.sameNow]
    congr 1
    have wg:(b == ck)=(b.data == ck.data):=rfl;rw[Aw,ai,aJ,eC,wg];simp[Array.ext_iff]
   case int q =>
    exfalso;obtain⟨n,aY,_⟩:=keyLits_int' M UF;cases k <;> simp_all[c5,Value.formed]
   case array n e=>exact D λ_ _=>rfl
   case struct ds=>exact D λ_ _=>rfl
theorem C9{h:ad}{r:Nat}{k:aa MapEntry->Nat->R eV}{x:eV}(e:lr h r k = .ok x):∃es c,u h r=some (.map es c)/\k es c = .ok x:=by
 unfold lr at e
 grind
theorem ee.map{H:fs}{w:World}(I:ee B ah H w){b:Nat}{p:Place}{es:aa MapEntry}{cL:Nat}(E:ah b=some p)(M:H b=some (.map es cL)):
  ∃df:aa MapEntry,w.heap[p.ct]? = some (.map df.toArray cL)/\hU ah es df/\B<=p.ct:=by obtain⟨N,df,A,D⟩:=I.obj b p _ E M;exact⟨df,A,D,N⟩
theorem rL{w:World}{r:Nat}{o:Obj}(h:w.heap[r]? = some o)(A:∀c e f,o≠.cells c e f):(getObj r).run P w = .ok o w:=by
 cases o <;> first
  |(exact ab)
  |simp[getObj,Sem.run,h]
theorem amK{h:ad}{w:World}(ba:ee B ah (u h) w){m:X}(eb:P.underlying t=some (.map dU e))(cX:K7 P e=some z)(bg:lL P h dU z ok m k = .ok v)(hm:bE ah m nx)(hk:bE ah k cL):
  ∃c,bE ah v c/\(Instr.lookup t nx cL ok).run P w = .ok c w:=by
 obtain⟨jf,D⟩:=j5 bg;obtain⟨fu,M⟩:=Po jf;have A:cL=k:=vo (yQ M).1 hk;subst A;have N:∀(es df:aa MapEntry),hU ah es df->(match k2 P dU cL es 0 with
   |some (some (_,x))=>R.ok (pe ok x.val true)
   |some none=>.ok (pe ok z false)
   |none=>R.no "lookup - key")=R.ok v ->
   (∃j x,(Instr.findKey dU cL df).run P w = .ok (some (j,x)) w/\bE ah v (pe ok x true)) \/
   ((Instr.findKey dU cL df).run P w = .ok none w/\(zeroValue e).run P w = .ok z w/\bE ah v (pe ok z false)):=by
  intro es df bk bx;cases V:k2 P dU cL es 0 with
  |none=>grind
  |some r =>
   obtain⟨c,I,E⟩:=F1 M bk V w;rw[V]at bx;cases r with
   |none =>
    cases bx;obtain⟨i,ai,n0,Z⟩:=aiB cX;cases E;refine .inr ⟨I,y0 ai n0 w,?_⟩;cases ok <;> first|exact FX Z ah|exact .tuple (.cons (FX Z ah) (.cons (.bool _) .nil))
   |some q =>
    obtain⟨j,x⟩:=q;cases bx;obtain⟨ep,aM,rfl⟩:=E;obtain⟨_,aR,_⟩:=F4  V j x rfl;obtain⟨e'',bc,_,aI,_⟩:=bk.get aR;rw[aM]at bc;cases bc;refine .inl ⟨j,ep.val,I,?_⟩;cases ok <;> first|exact aI|exact .tuple (.cons aI (.cons (.bool _) .nil))
 unfold Si at D
 split at D
 ·cases hm;have A:=Kf M true w;rcases N [] [] .nil D with⟨j,x,I,E⟩|⟨I,aM,E⟩
  ·refine⟨_,E,?_⟩;cases ok <;> simp[Instr.lookup,run_underlying eb,A,I,pe]
  ·refine⟨_,E,?_⟩;cases ok <;> simp[Instr.lookup,run_underlying eb,A,I,aM,pe]
 ·obtain⟨es,UG,a5,uC⟩:=C9 D;cases hm with
  |map aG =>
   obtain⟨df,bN,bk,_⟩:=ba.map aG a5;have A:=Kf M df.isEmpty w;have MO:=rL (P:=P) bN ab;rcases N es df bk uC with⟨j,x,I,E⟩|⟨I,aM,E⟩
   ·refine⟨_,E,?_⟩;cases ok <;> simp[Instr.lookup,run_underlying eb,MO,A,I,pe]
   ·refine⟨_,E,?_⟩;cases ok <;> simp[Instr.lookup,run_underlying eb,MO,A,I,aM,pe]
 ·cases D
theorem Yw:∀(l:aa Nat),Hu l=l.getLast?
 | []=>rfl
 | [_]=>rfl
 |_::y::xs=>by simp[Hu,Yw (y::xs),List.getLast?_cons_cons]
theorem Yx{b:Nat}:∀{es df:aa MapEntry} {e:MapEntry},hU ah es df->DQ b es=some e->∃A,df.find? (·.born == b)=some A/\bE ah e.key A.key/\bE ah e.val A.val
 |_,_,_,.nil,h=>by cases h
 |x::xs,y::Z,e,.cons N M D E,h=>by
  unfold DQ at h;rcases aR:Nat.beq x.born b with _|_
  ·rw[aR]at h;obtain⟨A,h1,I⟩:=Yx E h;have V:¬(y.born=b):=by rw[D];intro h;exact Nat.ne_of_beq_eq_false aR h
   exact⟨A,ab,I⟩
  ·rw[aR]at h;cases h;have:y.born=b:=by rw[D];exact g4 aR
   exact⟨y,ab,N,M⟩
theorem ee.iter{w:World}(N:ee B ah H w){m:av Nat}{A st:Nat}{D:aa Nat}(V:ah b=some p)(Z:H b=some (.iter m A D st)):
  ∃bG,w.heap[p.ct]? = some (.mapIter bG A D.toArray st)/\p9 ah m bG/\p.off=0/\B<=p.ct:=by obtain⟨h1,E,bG,I,M⟩:=N.obj b p _ V Z;exact⟨bG,I,M,E,h1⟩
theorem ajg{h:ad}{w:World}(ba:ee B ah (u h) w)(bk:w5 h v = .ok x)(aI:bE ah v c):
  ∃bL,bE ah x bL/\(Instr.entry c).run P w = .ok bL w:=by
 obtain⟨a,rfl,I⟩:=KH bk;obtain⟨ap,I⟩:=j5 I
 split at I
 ·rename_i r V D st a5
  obtain⟨es,Z,hm,E⟩:=C9 I;obtain⟨xQ,E⟩:=j5 E
  split at E
  ·rename_i b aG
   obtain⟨e,aM,bc⟩:=R.ls E;cases bc;obtain⟨p,bv,_,rfl⟩:=aI.acr;obtain⟨bG,bN,fj,ic,_⟩:=ba.iter bv a5;cases bG with
   |none=>exact fj.elim
   |some bG =>
    obtain⟨q,cz,rfl⟩:=fj;obtain⟨df,oP,M,_⟩:=ba.map cz hm;obtain⟨ep,bP,b9,dL⟩:=Yx M aM;refine⟨.tuple #[ep.key,ep.val],.tuple (.cons b9 (.cons dL .nil)),?_⟩;have UH:a.off=0:=g4 ap;have N:Z=st:=g4 xQ;rw[Yw]at aG;have A:D.toArray.back? = some b:=ab
    have br:=rL (P:=P) bN ab;have g2:=rL (P:=P) oP ab;simp[Instr.entry,UH,ic,br,g2,A,N,bP]
  ·cases E
 ·cases I
theorem amL(N:P.underlying t=some (.slice e))(D:af[0]? = some t)(A:xu v = .ok x)(M:bE ah v c)(I:TypeId)(w:World):
  ∃E,bE ah x E/\(Builtin.len_ af I #[c]).run P w = .ok E w:=by
 unfold xu at A
 split at A
 ·cases A;cases M <;> exact⟨_,.int _ _,by simp[Builtin.len_,D,run_underlying N,goInt]⟩
 ·cases A
theorem amM{h:ad}{w:World}(Z:ee B ah (u h) w)(I:P.underlying t=some (.map dU e))(D:af[0]? = some t)(A:xv h v = .ok x)(E:bE ah v c)(V:TypeId):
  ∃M,bE ah x M/\(Builtin.len_ af V #[c]).run P w = .ok M w:=by
 unfold xv at A
 split at A
 ·cases A;cases E;exact⟨_,.int _ _,by simp[Builtin.len_,D,run_underlying I,goInt]⟩
 ·obtain⟨es,cL,N,h1⟩:=C9 A;cases h1;cases E with
  |map aG =>
   obtain⟨df,bN,bk,_⟩:=Z.map aG N;have br:=rL (P:=P) bN ab;refine⟨_,.int _ _,?_⟩;simp[Builtin.len_,D,run_underlying I,goInt,br,oB,bk.length]
 ·cases A
theorem bE.yU{a:av Addr}{l c:Nat}(h:bE ah (.slice a l c) v):∃A D,v = .slice A l D /\
  ((a=none/\A=none/\D=c) \/
   (∃b o aO p,a=some ⟨b,o,aO⟩/\ah b=some p/\A=some ⟨p.ct,p.off+o,none⟩/\((aO=none/\D=c)\/(∃s,aO=some (s+1)/\p.es=s+1/\D=c+p.spare))) \/
   (∃b o g aW,a=some ⟨b,o,some 0⟩/\l=0/\c=0/\A=some ⟨g,aW,none⟩)):=by
 cases h with
 |rR=>grind
 |lp h=>grind
 |pf h E=>grind
 |pg b o g aW c=>grind
theorem acv{w:World}(V:ee B ah H w){o n:Nat}(Z:ah b=some p)(aU:H b=some (.cells cs bC))(E:nh n (na cs o)=some l):
  ∃cc,dm ah l cc/\(loadCells ⟨p.ct,p.off+o,none⟩ n).run P w = .ok cc.toArray w:=by
 obtain⟨c,e,e5,bN,D⟩:=V.cells Z aU;rw[qT,rP]at E
 split at E
 ·rename_i dr
  cases E;have A:o+n<=cs.length\/n=0:=ab
  rcases A with A | ap
  ·obtain⟨cc,M,I,u⟩:=D.cut   A;refine⟨cc,I,?_⟩;have N:=run_loadCells_list (P:=P) w ⟨p.ct,p.off+o,none⟩ cc (λj v aI=>by rw[pY];exact QY bN ab)
   grind
  ·subst ap;exact⟨[],by simpa using dm.nil,rfl⟩
 ·cases E
theorem acw{a:Act}{h:ad}{w:World}(ba:ee B ah (u h) w)(o:Oper)(V:Loc ah aj a.tmps o.op.operands){e:H5}(A:pw P o.op=some (.red e))(D:pred P aj e h = .ok v):
  ∃c,bE ah v c/\(execOp a.eval o).run P w = .ok (.value c) w:=by
 have ex:∀{op:Op},o.op=op->execOp a.eval o=execOp a.eval { o with op:=op }:=λh=>by rw[<-h]
 cases uD:o.op <;> rw[uD]at A V <;> rw[ex uD] <;> (try simp only[pw,j4,mw,y1,Av,reduceCtorEq,and_false,Ke]at A)
 case load t x =>
  obtain⟨bU,xO,dF,N,Z⟩:=A;cases Z;obtain⟨cY,I,D⟩:=R.fd D;obtain⟨eo,g9,c,bc,E⟩:=QZ ba xO D (V.ej (by simp[Op.operands]) N I);exact⟨c,E,by simp[execOp,Instr.loadAt,g9,Instr.sureAddr,bc]⟩
 case lookup t x u0 ok =>
  split at A
  ·rename_i dU e eb
   simp only[j4,mw]at A;obtain⟨z,cX,nx,N,cL,al,Z⟩:=A;cases Z;obtain⟨Jj,I,D⟩:=R.fd D;obtain⟨aBo,g2,D⟩:=R.fd D;obtain⟨c,E,b9⟩:=amK ba eb cX D (V.ej (by simp[Op.operands]) N I) (V.ej (by simp[Op.operands]) al g2);exact⟨c,E,by simp[execOp,b9]⟩
  ·cases A
 case entry it =>
  obtain⟨dF,N,Z⟩:=A;cases Z;obtain⟨cY,I,D⟩:=R.fd D;obtain⟨c,E,b9⟩:=ajg (P:=P) ba D (V.ej (by simp[Op.operands]) N I);exact⟨c,E,by simp[execOp,b9]⟩
 case makeMap t r=>cases r <;> cases A
 case next it b=>cases b <;> simp at A
 case call c =>
  obtain⟨jw,N,A⟩:=A;have aR:∀x∈c.args.toList,x∈(Op.call c).operands:=λx aR=>by simp only[Op.operands,Call.operands];grind
  have xy:c.args.map a.eval=⟨c.args.toList.map a.eval⟩:=ab
  split at A
  ·simp at A
  ·simp at A
  ·rename_i b aG
   obtain⟨cs,lA⟩:=O3 (bw:=a.eval) aG o.type;unfold execOp;simp only[lA,xy];have M:∀x,(invoke (.builtin .len c.argTypes o.type cs) #[x])=(do pure (.value (<-Builtin.len_ c.argTypes o.type #[x])):Sem Next):=λ_=>rfl;unfold Es at A
   split at A
   ·split at A
    ·obtain⟨t,cy,A⟩:=j4.1 A;rw[jr]at cy
     split at A
     ·rename_i ep eb
      cases A;obtain⟨Ck,I,D⟩:=R.fd D;obtain⟨ih,dJ,aJ⟩:=V.Ea aR N I;obtain⟨bL,bc,E⟩:=amL eb (af:=c.argTypes) ab D dJ o.type w;rw[aJ];exact⟨bL,bc,by simp only[M,Sem.run_bind,Sem.run_pure,Result.andThen_ok,E]⟩
     ·rename_i dU ep eb
      cases A;obtain⟨Ck,I,D⟩:=R.fd D;obtain⟨ih,dJ,aJ⟩:=V.Ea aR N I;obtain⟨bL,bc,E⟩:=amM ba eb (af:=c.argTypes) ab D dJ o.type;rw[aJ];exact⟨bL,bc,by simp only[M,Sem.run_bind,Sem.run_pure,Result.andThen_ok,E]⟩
     ·cases A
    ·cases A
   ·split at A <;> cases A
   ·split at A <;> cases A
   ·split at A
    ·simp at A
    ·cases A
   ·cases Bq:rY P (g7 c.argTypes.toList 1) <;> rw[Bq]at A
    ·simp only[lH,j4,y1]at A;obtain⟨_,_,_,_,_,_,_,_,_,A⟩:=A
     split at A <;> cases A
    ·cases A
   ·cases A
 all_goals (split at A <;> simp[j4]at A)
end
section
variable {P:Program} {ah:cd} {B:Nat}
def iZ(P:Program)(B:Nat)(ah:cd)(H:fs)(w:World)(U:Nat)(r:ff)(s:Sem Next):Prop :=
 ∃v ac Y bw c bj,r = .val v ac Y/\bE bw v c/\cE B ah H w U Y bw (u ac) bj/\(s.run P w = .ok (.value c) bj\/(s.run P w = .ok .skip bj/\c=undef))
theorem t5:bE ah km undef:=.tuple .nil
theorem ap8{h:ad}{w:World}(ba:ee B ah (u h) w)(U:Nat){n:Nat}(bm:j8 P t=some n)(bk:a7 h n x y = .ok ac)(aR:bE ah x dF)(ca:bE ah y iD):
  ∃bj,(Instr.storeAt t dF iD).run P w = .ok () bj/\cE B ah (u h) w U U ah (u ac) bj:=by
 obtain⟨Z,rfl,aM⟩:=KH bk;obtain⟨h7,N⟩:=j5 aM;obtain⟨p,A,V,rfl⟩:=aR.P8;obtain⟨nF,of,aO⟩:=Z;simp only at A V N;subst A;have M:=ca.cells;obtain⟨bj,D,I⟩:=Kp (P:=P) ba U V N M;refine⟨bj,?_,I⟩;have E:iD.cells.size=n:=by rw[<-FD,<-M.length,<-oB];exact g4 h7
 simp only[Instr.storeAt,Instr.sureAddr,storeVar,Sem.run_bind,Sem.run_pure,Result.andThen_ok,kF bm,E,ne_eq,not_true,fc,D]
theorem vs{w:World}{r:Nat}{o aW:Obj}(h:w.heap[r]? = some aW)(A:∀c e f,aW≠.cells c e f):(setObj r o).run P w = .ok () { w with heap:=w.heap.setIfInBounds r o }:=by
 cases aW <;> first
  |(exact ab)
  |simp[setObj,Sem.run,h]
theorem cE.set{h:ad}{w:World}(I:ee B ah (u h) w)(U:Nat){o:fM}{c:Obj}(E:ah b=some p)(D:u h b=some o)(M:B<=p.ct)(N:(w.heap[p.ct]?).isSome)(A:∀bj:World,bj.heap[p.ct]? = some c->mC B ah bj p aW):cE B ah (u h) w U U ah (u (F h b aW)) { w with heap:=w.heap.setIfInBounds p.ct c }:=by
 rw[vy];refine cE.change U I E D M (by simp) ?_ rfl .here rfl (A _ ?_)
 all_goals grind
theorem hU.app{es df:aa MapEntry}{e A:MapEntry}(h:hU ah es df)(I:bE ah e.key A.key)(E:bE ah e.val A.val)(D:A.born=e.born):hU ah (es++[e]) (df++[A]):=by
 match h with
 | .nil=>exact .cons I E D .nil
 | .cons a b c t=>exact .cons a b c (hU.app t I E D)
theorem Zk{k v dp E:X}:∀{es df:aa MapEntry} {i:Nat},hU ah es df->bE ah k dp->bE ah v E->hU ah (HL es i k v) (df.modify i λe=>{ e with key:=dp,val:=E })
 |_,_,i,.nil,_,_=>by cases i <;> exact .nil
 |_,_,0,.cons a b c t,D,A=>.cons D A c t
 |_,_,i+1,.cons a b c t,D,A=>.cons a b c (Zk  t D A)
theorem Zl:∀{es df:aa MapEntry} {i:Nat},hU ah es df->hU ah (Md es i) (df.eraseIdx i)
 |_,_,i,.nil=>by cases i <;> exact .nil
 |_,_,0,.cons a b c t=>t
 |_,_,i+1,.cons a b c t=>.cons a b c (Zl  t)
end
theorem Zm{a b:Addr}(h:AY a b=true):a=b:=by
 obtain⟨x,y,z⟩:=a;obtain⟨Z,V,N⟩:=b;unfold AY at h;rw[eD,eD]at h;obtain⟨⟨M,E⟩,I⟩:=h;have A:=g4 M;have D:=g4 E;simp only at A D;subst A D;cases z <;> cases N <;> simp at I
 all_goals grind
theorem atk{a b:Int}(h:fN a b=true):a=b:=by rw[lo]at h;grind
theorem aaE(h:q3 x y=true):x=y:=by
 unfold q3 at h
 split at h <;> (try(split at h)) <;> (try(cases h;done)) <;> (try rfl)
 ·grind
 ·simp only[eD]at h;rw[GM.1 h.1,atk h.2]
 ·rw[Zm h]
 ·simp only[eD]at h;rw[g4 h.1,g4 h.2]
 ·simp only[eD]at h;rw[Zm h.1.1,g4 h.1.2,g4 h.2]
 ·rw[g4 h]
 ·rw[g4 h]
theorem Da:∀{x y:aa X},q4 x y=true->x=y
 | [],[],_=>rfl
 |a::x,b::y,h=>by simp only[q4,eD]at h;rw[aaE h.1,Da h.2]
 | [],_::_,h=>by simp[q4]at h
 |_::_,[],h=>by simp[q4]at h
theorem aaF(h:mz x y=true):x=y:=by
 unfold mz at h
 split at h
 ·split at h
  ·rw[Da h]
  grind
 ·split at h
  ·rw[Da h]
  grind
 ·split at h
  ·simp only[eD]at h;rw[g4 h.1.1,Da h.1.2,Da h.2]
  grind
 ·exact aaE h
section
variable {P:Program} {ah:cd} {B:Nat}
theorem ajh(q:Question)(w:World):∃n d,(choose q).run P w = .ok n { w with drawn:=d }/\w.drawn<=d:=by
 simp only[choose,Sem.run]
 split
 all_goals grind
theorem aiM{q:Question}{f:Nat->Sem X}{w:World}(D:∀n d,(f n).run P { w with drawn:=d } = .ok v { w with drawn:=d }):∃d,(choose q >>= f).run P w = .ok v { w with drawn:=d }/\w.drawn<=d:=by
 obtain⟨n,d,h,A⟩:=ajh  q w;refine⟨d,?_,A⟩;rw[Sem.run_bind,h,Result.andThen_ok]
 grind
theorem ee.drawn{H:fs}{w:World}(A:ee B ah H w)(d:Nat):ee B ah H { w with drawn:=d }:=A.world ab ab
theorem cE.from{w:World}(A:w.drawn<=d)(h:cE B ah H { w with drawn:=d } ao ai bw h6 bj):cE B ah H w ao ai bw h6 bj :=
 ⟨h.rel,h.agree,h.size,h.os,⟨h.tape.1,hu A h.tape.2⟩,h.output,h.frame,h.own,h.le⟩
theorem aid(k:X)(w:World):∃d,(Instr.keyThatStays k k).run P w = .ok k { w with drawn:=d }/\w.drawn<=d:=by
 unfold Instr.keyThatStays
 split
 ·exact⟨w.drawn,rfl,J⟩
 ·refine aiM λn d=>?_;simp only[ite_self,Sem.run_pure]
theorem amN{h:ad}{w:World}(ba:ee B ah (u h) w)(U:Nat){m:X}(eb:P.underlying t=some (.map dU e))(Eu:pq P dU h m k x = .ok ac)(hm:bE ah m nx)(hk:bE ah k cL)(aR:bE ah x dF):
  ∃bj,(Instr.mapUpdate t nx cL dF).run P w = .ok () bj/\cE B ah (u h) w U U ah (u ac) bj:=by
 obtain⟨jf,h1⟩:=j5 Eu;obtain⟨fu,E⟩:=Po jf;have xQ:cL=k:=vo (yQ E).1 hk;subst xQ
 split at h1
 ·rename_i r
  obtain⟨es,A,a5,Z⟩:=C9 h1;cases hm with
  |map aG =>
   rename_i p
   obtain⟨df,bN,V,dZ⟩:=ba.map aG a5;have D:=Kf E false w;have I:=rL (P:=P) bN ab
   split at Z
   ·rename_i i e bx
    obtain⟨ar,aM⟩:=j5 Z;cases aM;obtain⟨c,bc,bP⟩:=F1 E V bx w;obtain⟨ep,b9,rfl⟩:=bP;obtain⟨_,uF,N⟩:=F4  bx i e rfl;obtain⟨e'',dL,hkv,_,_⟩:=V.get uF;rw[b9]at dL;cases dL;have M:ep.key=cL:=(vo (yQ N).2 hkv).trans (aaF ar);obtain⟨d,i0,UI⟩:=aid (P:=P) cL w;have hei:df.toArray[i]? = some ep:=ab
    have F:=vs (P:=P) (w:={ w with drawn:=d }) (o:=.map (df.toArray.modify i λe=>{ e with key:=cL,val:=dF }) A) bN ab;refine⟨{ w with drawn:=d,heap:=w.heap.setIfInBounds p.ct (.map (df.toArray.modify i λe=>{ e with key:=cL,val:=dF }) A) },?_,?_⟩
    ·simp only[Instr.mapUpdate,Sem.run_bind,run_underlying eb,Result.andThen_ok,I,D,bc,hei,FL,J6,M,i0,F]
    ·refine cE.from  UI (cE.set (ba.drawn d) U aG a5 dZ ab λbj oP=>⟨dZ,_,?_,Zk  V hk aR⟩)
     grind
   ·rename_i bx
    cases Z;obtain⟨c,bc,bP⟩:=F1 E V bx w;cases bP;have F:=vs (P:=P)  (o:=.map (df.toArray.push { key:=cL,val:=dF,born:=A }) (A+1)) bN ab;refine⟨{ w with heap:=w.heap.setIfInBounds p.ct (.map (df.toArray.push { key:=cL,val:=dF,born:=A }) (A+1)) },?_,?_⟩
    ·simp only[Instr.mapUpdate,Sem.run_bind,run_underlying eb,Result.andThen_ok,I,D,bc,F]
    ·refine cE.set ba U aG a5 dZ ab λbj oP=>⟨dZ,df++[{ key:=cL,val:=dF,born:=A }],?_,?_⟩
     ·grind
     ·rw[kk];exact V.app hk aR rfl
   ·cases Z
 ·cases h1
theorem AD(o:Obj)(w:World):(newObj o).run P w = .ok w.heap.size { w with heap:=w.heap.push o }:=rfl
theorem Yc{h:ad}{w:World}(M:ee B ah (u h) w){U:Nat}(Z:ah U=none){m:av Nat}(N:p9 ah m bG)(c:Nat):
  ∃bw,bE bw (.pointer (some ⟨U,0,none⟩)) (.pointer (some ⟨w.heap.size,0,none⟩)) /\
   cE B ah (u h) w U (U+1) bw (u (F h U (.iter m c [] c))) { w with heap:=w.heap.push (.mapIter bG c #[] c) }:=by
 have V:(⟨w.heap.size,0,0,0⟩:Place).ct=w.heap.size:=rfl;have I:Sub ah (λk=>if k=U then some ⟨w.heap.size,0,0,0⟩else ah k):=λb q aG=>ab
 have D:(λk=>if k=U then some (⟨w.heap.size,0,0,0⟩:Place)else ah k) U=some ⟨w.heap.size,0,0,0⟩:=by simp
 have E:=bE.ptr (ah:=λk=>if k=U then some (⟨w.heap.size,0,0,0⟩:Place)else ah k) (o:=0) D;refine⟨_,E,?_⟩;rw[vy];have A:=Made.push w (.mapIter bG c #[] c);exact cE.make M Z A.size A.d8 A.os A.tape A.output V ⟨M.base,rfl,bG,A.new,N.mono I⟩
theorem aji{h:ad}{w:World}(I:ee B ah (u h) w){U:Nat}(Z:ah U=none)(cy:rV P t=true)(N:bE ah v c){K:bD}(A:dB (s2 h U v) K):
  iZ P B ah (u h) w U (s2 h U v) (do pure (.value (<-Instr.range t c))):=by
 obtain⟨dU,Fo,eb⟩:=Pd cy;unfold s2 at *
 split at A
 ·cases N;obtain⟨bw,M,D⟩:=Yc I Z (m:=none) (bG:=none) trivial 0;refine⟨_,_,_,bw,_,_,rfl,M,D,.inl ?_⟩;simp[Instr.range,run_underlying eb,AD]
 ·split at A
  ·rename_i a5
   cases N with
   |map V =>
    obtain⟨df,bN,bk,dZ⟩:=I.map V a5;obtain⟨bw,M,D⟩:=Yc I Z (m:=some _) (bG:=some _) ⟨_,V,rfl⟩ _;refine⟨_,_,_,bw,_,_,rfl,M,D,.inl ?_⟩;have E:=rL (P:=P) bN ab;simp[Instr.range,run_underlying eb,AD,E]
  ·exact A.elim
 ·exact A.elim
theorem Ph(A:aa Nat):∀{es df:aa MapEntry},hU ah es df->hU ah (leftOf A es) (df.filter λe=>!A.contains e.born)
 |_,_,.nil=>.nil
 |x::xs,y::V,.cons N M I E=>by
  have D:(A.any (Nat.beq x.born))=A.contains y.born:=by
   rw[I,Aw];simp only[vl,List.contains_iff_exists_mem_beq,Nat.beq_eq]
   grind
  unfold leftOf;rw[D,rK];cases Z:A.contains y.born
  ·simp only[lH,Bool.not_false,if_true];exact .cons N M I (Ph A E)
  ·simp only[oy,Bool.not_true,nK,fc];exact Ph A E
theorem hU.mem:∀{es df:aa MapEntry} {A:MapEntry},hU ah es df->A∈df->∃e∈es,bE ah e.key A.key/\bE ah e.val A.val/\A.born=e.born
 |_,_,A,.cons (e:=x) N M I D,h=>by
  rcases hf.1 h with rfl|h
  ·exact⟨x,by simp,N,M,I⟩
  ·obtain⟨e,V,E⟩:=hU.mem D h;exact⟨e,by simp[V],E⟩
theorem aiN{n:Nat}(A:0<n)(w:World):∃i d,(choose (.mapNext n)).run P w = .ok i { w with drawn:=d }/\w.drawn<=d/\i<n:=by
 simp only[choose,Sem.run,Question.forced,Question.cut]
 by_cases h:n<=1
 ·exact⟨0,w.drawn,by simp[h],J,A⟩
 ·exact⟨w.tape w.drawn (.mapNext n) % n,w.drawn+1,ab,J,Az _ A⟩
theorem ap9{h:ad}{w:World}(ba:ee B ah (u h) w)(U:Nat)(aI:bE ah v c){s:ak}{K:bD}(jf:wb s h U v K)(tJ:TypeId):
  ∃dG ac bw bL bj,K dG ac U/\bE bw dG bL/\cE B ah (u h) w U U bw (u ac) bj/\(Instr.next c false tJ).run P w = .ok bL bj:=by
 obtain⟨it,r,D,st,UG,A,es,rfl,rfl,a5,hm,wh,ap,Z⟩:=jf;obtain⟨p,_,bv,rfl⟩:=aI.P8;obtain⟨bG,bN,fj,ic,hBi⟩:=ba.iter bv a5;cases bG with
 |none=>exact fj.elim
 |some bG =>
  obtain⟨q,cz,rfl⟩:=fj;have br:=rL (P:=P) bN ab;obtain⟨df,oP,bk,dZ⟩:=ba.map cz hm;have g2:=rL (P:=P) oP ab;have N:(!A.toArray.isEmpty&&!df.toArray.isEmpty&&df.toArray.all (λe=>decide (e.born≥st)))=false:=by
   unfold Ly at wh;simp only[Bool.or_eq_true]at wh;rcases wh with(Z|Z)|Z
   ·grind
   ·simp[List.isEmpty_iff]at Z;subst Z;cases bk;simp
   ·obtain⟨e,al,aM⟩:=vl.1 Z;obtain⟨k,hk⟩:=tS al;obtain⟨I,bc,_,_,bP⟩:=bk.get hk;have ci:e.born<st:=by simpa[wM]using aM
    grind
  have E:=Ph A bk;have M:(df.toArray.filter λe=>!A.toArray.contains e.born)=(df.filter λe=>!A.contains e.born).toArray:=by simp
  generalize bx:(df.filter λe=>!A.contains e.born)=er at E M;cases bg:leftOf A es with
  |nil =>
   rw[bg]at E;cases E;refine⟨_,_,ah,_,w,ap bg,.tuple (.cons (.bool _) .nil),cE.refl U ba,?_⟩;simp only[Instr.next,ic,m9,Sem.run_bind,br,g2,Result.andThen_ok,N,M,nK,fc];simp[choose,Sem.run,Question.forced]
  |cons aF l =>
   have V:∀I∈er,∃e∈leftOf A es,bE ah e.key I.key/\bE ah e.val I.val/\I.born=e.born:=λI h=>E.mem h;have bP:∀I∈er,I.born<D:=λI h=>by obtain⟨e,al,_,_,aM⟩:=V I h;rw[aM];exact(Z e al).1
   have eg:er≠[]:=by
    intro h;subst h;have:=E.length
    grind
   have aq:(er.toArray.filter λe=>decide (e.born<D))=er.toArray:=by apply Array.ext';rw[Array.toList_filter];exact Aq.2 ab
   have aN:(er.toArray.filter λe=>decide (e.born≥D))=#[]:=by apply Array.ext';rw[Array.toList_filter];exact An.2 ab
   have axg:er.toArray.isEmpty=false:=ab
   obtain⟨i,d,BG,UI,ai⟩:=aiN (P:=P) (n:=er.length) ab w;obtain⟨I,he'⟩:∃I,er[i]? = some I:=⟨er[i],ab⟩
   obtain⟨e,HR,hk,wi,aG⟩:=V I ab;have F:=vs (P:=P) (w:={ w with drawn:=d }) (o:=.mapIter (some q.ct) D (A.toArray.push I.born) UG) bN ab;rw[List.push_toArray]at F;refine⟨_,_,ah,.tuple #[.bool true,I.key,I.val],{ w with drawn:=d,heap:=w.heap.setIfInBounds p.ct (.mapIter (some q.ct) D (A++[I.born]).toArray UG) },(Z e HR).2,.tuple (.cons (.bool _) (.cons hk (.cons wi .nil))),?_,?_⟩
   ·refine cE.from  UI (cE.set (ba.drawn d) U bv a5 hBi ab λbj oP=>⟨hBi,ic,some q.ct,?_,⟨q,cz,rfl⟩⟩)
    grind
   ·simp only[Instr.next,ic,m9,Sem.run_bind,br,g2,Result.andThen_ok,N,M,nK,fc,aq,aN,axg];simp[BG,he',F]
theorem XS{h:ad}{w:World}(ba:ee B ah (u h) w){a:av Addr}{c s:Nat}{k:aa X->R ff}{r:ff}(aI:bE ah (.slice a len c) me)(hm:m<=len)(N:jV h a (Nat.mul m s) k = .ok r):∃l,k l = .ok r/\l.length=m*s/\∀d,∃cc,dm ah l cc/\(Builtin.firstCells s m me).run P { w with drawn:=d } = .ok cc.toArray { w with drawn:=d }:=by
 obtain⟨eo,bL,rfl,D⟩:=aI.yU;unfold jV at N;rcases As (Nat.mul m s)with ap|ahb
 ·rw[ap]at N;have Z:m*s=0:=ap;refine⟨[],N,ab,λd=>⟨[],.nil,?_⟩⟩;cases eo with
  |none=>rfl
  |some x=>simp only[Builtin.firstCells,Z];rfl
 ·obtain⟨q,cz⟩:∃q,Nat.mul m s=q+1:=⟨Nat.mul m s-1,J⟩
  have I:Option.casesOn (motive:=λ_=>R ff) a (.no "read - nil") (λa=>cellsOf h a.block (λcs _=>R.of "read - out of block" (nh (Nat.mul m s) (na cs a.off)) k)) = .ok r:=by rw[cz]at N ⊢;omega
  have azM:0<m:=ab
  rcases D with⟨rfl,_,_⟩|⟨b,o,aO,p,rfl,aG,rfl,_⟩|⟨b,o,g,aW,rfl,qh,_,rfl⟩
  ·cases I
  ·obtain⟨cs,bC,aU,dE⟩:=F3 I;obtain⟨l,A,ek⟩:=R.ls dE;have M:l.length=m*s:=by
    rw[qT]at A
    grind
   refine⟨l,ek,M,λd=>?_⟩;obtain⟨cc,V,E⟩:=acv  (ba.drawn d) aG aU A;exact⟨cc,V,E⟩
  ·omega
theorem akt{h:ad}{w:World}(ba:ee B ah (u h) w)(U:Nat){s:Nat}(M:af[0]? = some t)(ar:Dz P t=some s){r:ff}(E:Ta s h U x y = .ok r)(aR:bE ah x dF)(ca:bE ah y iD)(tJ:TypeId):
  iZ P B ah (u h) w U r (do pure (.value (<-Builtin.copy_ af tJ #[dF,iD]))):=by
 obtain⟨e,eb,Z⟩:=Yb ar;unfold Ta at E
 split at E
 ·rename_i a len cap
  split at E
  ·rename_i b n oJ
   obtain⟨eo,bL,rfl,hcx⟩:=aR.yU;have UJ:=ca;obtain⟨ck,c'',rfl,hcy⟩:=ca.yU;obtain⟨l,A,N,V⟩:=XS (P:=P) ba UJ (Nat.min_le_left n len) E;obtain⟨cc,I,D⟩:=V w.drawn;have hru:∀w,(Builtin.lenOf (.slice ck n c'')).run P w = .ok n w:=λ_=>rfl
   split at A
   ·cases A;cases I;refine⟨_,_,_,ah,_,w,rfl,.int _ _,cE.refl U ba,.inl ?_⟩;simp[Builtin.copy_,M,run_underlying eb,hru,kF Z,D,goInt];cases eo <;> simp[storeCells]
   ·split at A
    ·rename_i eg _ a
     obtain⟨ac,oP,A⟩:=R.fd A;cases A;rcases hcx with⟨h1,_⟩|⟨z9,Jl,aO,p,h1,aG,rfl,_⟩|⟨_,_,g,aW,h1,qh,_,rfl⟩
     ·cases h1
     ·cases h1;obtain⟨bj,i0,kN⟩:=Kp (P:=P) ba U aG oP I;refine⟨_,_,_,ah,_,bj,rfl,.int _ _,kN,.inl ?_⟩;simp[Builtin.copy_,M,run_underlying eb,hru,kF Z,D,goInt,i0]
     ·exfalso;rw[qh,Nat.min_zero,mx]at N
      grind
    ·cases A
  ·cases E
 ·cases E
theorem ajj{h:ad}{w:World}(V:ee B ah (u h) w)(U:Nat)(A:af[0]? = some t)(hty:rV P t=true\/nQ P t=true){r:ff}(D:Ha P t h U x = .ok r)(aR:bE ah x dF)(tJ:TypeId):
  iZ P B ah (u h) w U r (do pure (.value (<-Builtin.clear_ af tJ #[dF]))):=by
 have N:∃d,P.underlying t=some d:=by
  rcases hty with h|h
  ·obtain⟨k,e,h⟩:=Pd h;grind
  ·obtain⟨e,h⟩:=O5 h;grind
 obtain⟨d,N⟩:=N;unfold Ha at D
 split at D
 ·cases D;cases aR;exact⟨_,_,_,ah,_,w,rfl,t5,cE.refl U V,.inl (by simp[Builtin.clear_,A,run_underlying N];rfl)⟩
 ·obtain⟨es,Z,a5,E⟩:=C9 D;cases E;cases aR with
  |map aG =>
   rename_i p
   obtain⟨df,bN,bk,dZ⟩:=V.map aG a5;have MO:=rL (P:=P) bN ab;have F:=vs (P:=P)  (o:=.map #[] Z) bN ab;refine⟨_,_,_,ah,_,{ w with heap:=w.heap.setIfInBounds p.ct (.map #[] Z) },rfl,t5,cE.set V U aG a5 dZ ab λbj I=>⟨dZ,[],I,.nil⟩,.inl ?_⟩;simp[Builtin.clear_,A,run_underlying N,MO,F];rfl
 ·cases D;obtain⟨eo,bL,rfl,M⟩:=aR.yU;rcases M with⟨_,rfl,_⟩|⟨_,_,_,_,h,_⟩|⟨_,_,_,_,h,_⟩
  ·exact⟨_,_,_,ah,_,w,rfl,t5,cE.refl U V,.inl (by simp[Builtin.clear_,A,run_underlying N];rfl)⟩
  ·cases h
  ·cases h
 ·rename_i a n cap
  obtain⟨eo,bL,rfl,M⟩:=aR.yU;cases n with
  |zero =>
   cases D;refine⟨_,_,_,ah,_,w,rfl,t5,cE.refl U V,.inl ?_⟩;cases eo <;> simp[Builtin.clear_,A,run_underlying N] <;> rfl
  |succ m =>
   have D:Lz P t h U a (Nat.succ m) = .ok r:=D;obtain⟨e,bk,E⟩:=R.ls D;obtain⟨ym,cX,al⟩:=R.ls E;obtain⟨ac,I,aM⟩:=R.fd al;cases aM;obtain⟨i,z,ai,n0,Ev,rfl⟩:=AB cX;have Eu:=FV bk;rcases M with⟨E,_⟩|⟨z9,Jl,aO,p,E,aG,rfl,_⟩|⟨_,_,g,aW,E,qh,_,rfl⟩
   ·cases E
   ·cases E;obtain⟨bj,i0,kN⟩:=Kp (P:=P) V U aG I (Dh (yP Ev ah) (Nat.succ m));refine⟨_,_,_,ah,_,bj,rfl,t5,kN,.inl ?_⟩;simp[Builtin.clear_,A,run_underlying Eu,y0 ai n0,AA,i0];rfl
   ·cases qh
 ·cases D
theorem aiO{h:ad}{w:World}(ba:ee B ah (u h) w)(U:Nat)(N:af[0]? = some t){m:X}{r:ff}(V:GL P t h U m k = .ok r)(hm:bE ah m nx)(hk:bE ah k cL)(tJ:TypeId):
  iZ P B ah (u h) w U r (do pure (.value (<-Builtin.delete_ af tJ #[nx,cL]))):=by
 unfold GL at V
 split at V
 ·rename_i dU e eb
  obtain⟨jf,h1⟩:=j5 V;obtain⟨fu,D⟩:=Po jf;have xQ:cL=k:=vo (yQ D).1 hk;subst xQ;unfold QX at h1
  split at h1
  ·rename_i b
   obtain⟨es,E,a5,Z⟩:=C9 h1;cases hm with
   |map aG =>
    rename_i p
    obtain⟨df,bN,bk,dZ⟩:=ba.map aG a5;have A:=Kf D df.isEmpty w;have M:=rL (P:=P) bN ab
    split at Z
    ·rename_i i e bx
     cases Z;obtain⟨c,bc,bP⟩:=F1 D bk bx w;obtain⟨ep,b9,rfl⟩:=bP;have F:=vs (P:=P)  (o:=.map (df.eraseIdx i).toArray E) bN ab;have ci:i<df.length:=ab
     refine⟨_,_,_,ah,_,{ w with heap:=w.heap.setIfInBounds p.ct (.map (df.eraseIdx i).toArray E) },rfl,t5,cE.set ba U aG a5 dZ ab λbj oP=>⟨dZ,df.eraseIdx i,?_,Zl bk⟩,.inl ?_⟩
     ·omega
     ·simp[Builtin.delete_,N,run_underlying eb,M,A,bc,F,Array.eraseIdxIfInBounds,ci];rfl
    ·rename_i bx
     cases Z;obtain⟨c,bc,bP⟩:=F1 D bk bx w;cases bP;have F:=vs (P:=P)  (o:=.map df.toArray E) bN ab;have I:(w.heap.setIfInBounds p.ct (.map df.toArray E))=w.heap:=ab
     rw[I]at F;refine⟨_,_,_,ah,_,w,rfl,t5,cE.refl U ba,.inl ?_⟩;simp[Builtin.delete_,N,run_underlying eb,M,A,bc,F];rfl
    ·cases Z
  ·cases h1
 ·cases V
end
section
variable {P:Program} {ah:cd} {B:Nat}
theorem cE.less{H h6:fs}{w:World}(U:Nat)(E:ee B ah H w)(I:∀b o,h6 b=some o->H b=some o):cE B ah H w U U ah h6 w where
 rel:=E.less I
 agree:=ab
 size:=J
 os:=rfl
 tape:=.here
 output:=rfl
 frame:=ab
 own:=λk ⟨b,p,N,A,D,M⟩=>by obtain⟨o,V⟩:=nJ.1 A;exact .inl ⟨b,p,N,ab,D,M⟩
 le:=J
theorem cE.atl{w:World}{U:Nat}{eF:Place}{o:fM}(V:ee B ah H w)(bm:ah U=none)(aG:ah b=some p)(fj:H b=some o)(dZ:B<=p.ct)(hH':∀x,h6 x=if x=b then none else H x)(bv:eF.ct=p.ct)(h3:bj.heap.size=w.heap.size)(k6:∀k,k≠p.ct->bj.heap[k]? = w.heap[k]?)(xM:bj.os=w.os)(Uw:rz w bj)(Ux:bj.output=w.output)(qi:mC B (λk=>if k=U then some eF else ah k) bj eF aW):
  cE B ah H w U (U+1) (λk=>if k=U then some eF else ah k) (h6.put U aW) bj:=by
 have oK:Sub ah (λk=>if k=U then some eF else ah k):=λx q D=>ab
 have A:∀x,x≠U->((h6.put U aW) x).isSome->(H x).isSome/\x≠b:=λx e h=>by
  simp only[fs.put,e,fc,hH']at h
  grind
 refine⟨⟨by have:=V.base;omega,?_,?_,?_⟩,λx D=>?_,J,xM,Uw,Ux,?_,?_,J⟩
 ·intro x q y D E
  by_cases e:x=U
  ·subst e;simp[fs.put]at D E;subst D;subst E;exact qi
  ·obtain⟨Z,M⟩:=A x e ab;simp only[e,fc]at D;simp only[fs.put,e,fc,hH',M]at E;refine(V.obj x q y D E).mono oK (k6 _ λN=>M ?_);exact V.inj x b q p D aG Z ab J N
 ·intro x y q kU D E ar lP I N
  by_cases e:x=U <;> by_cases ep:y=U
  ·omega
  ·subst e;simp at D;subst D;obtain⟨Z,M⟩:=A y ep lP;simp only[ep,fc]at E;exact absurd (V.inj y b kU p E aG Z ab J J) M
  ·subst ep;simp at E;subst E;obtain⟨Z,M⟩:=A x e ar;simp only[e,fc]at D;exact absurd (V.inj x b q p D aG Z ab J J) M
  ·obtain⟨Z,_⟩:=A x e ar;obtain⟨M,_⟩:=A y ep lP;simp only[e,fc]at D;simp only[ep,fc]at E;exact V.inj x y q kU D E Z M I N
 ·intro x ar
  by_cases e:x=U
  ·grind
  ·simp only[e,fc];exact V.nm x ab
 ·grind
 ·intro k hk wh;exact k6 k λe=>wh ⟨b,p,aG,ab,e.symm,J⟩
 ·rintro k ⟨x,q,D,ar,rfl,I⟩
  by_cases e:x=U
  ·subst e;simp at D;subst D;exact .inl ⟨b,p,aG,ab,bv.symm,I⟩
  ·simp only[e,fc]at D;exact .inl ⟨x,q,D,ab,rfl,I⟩
theorem Zn{n:Nat}(A:n<=1000000):∀(r c:Nat),c<=1250192->Builtin.growBy n r c<=1250192
 |0,c,h=>h
 |r+1,c,h=>by
  unfold Builtin.growBy
  split
  ·exact h
  ·exact Zn A r _ J
theorem nextslicecap_le{c:Nat}(A:j7<=1000000)(D:c<j7):Builtin.nextslicecap j7 c<=2000000:=by
 unfold Builtin.nextslicecap
 split
 ·omega
 ·split
  ·omega
  ·exact hu (Zn A 4 c J) J
theorem run_typeInfo{i:TypeInfo}(h:P.info? t=some i)(w:World):(typeInfo t).run P w = .ok i w:=by simp[typeInfo,h]
theorem aaG{h:ad}{U s:Nat}{r:ff}(D:p4 h U s l j7 = .ok r):
  ∃A,s=A+1/\r = .val (.slice (some ⟨U,0,some (A+1)⟩) j7 j7) (F h U (.cells l false)) (U+1):=by
 unfold p4 at D;cases s with
 |zero=>cases D
 |succ A=>grind
theorem Yy{h N:ad}{w:World}(ba:ee B ah (u h) w){U s:Nat}(bm:ah U=none)(dr:∀b o,u N b=some o->u h b=some o){r:ff}(hk:p4 N U s l j7 = .ok r)(Z:dm ah l cc){z:aa X}(cX:z.length=s){A:Nat}(aU:j7<=A)(d:Nat)(bu:w.drawn<=d)(e:TypeId):
  ∃v ac Y bw,r = .val v ac Y/\bE bw v (.slice (some ⟨w.heap.size,0,none⟩) j7 A) /\
   cE B ah (u h) w U Y bw (u ac) { w with drawn:=d,heap:=w.heap.push (.cells (cc++hg (A-j7) z).toArray e) }:=by
 obtain⟨kf,rfl,rfl⟩:=aaG hk
 let p:Place:=⟨w.heap.size,0,A-j7,kf+1⟩
 have D:(λk=>if k=U then some p else ah k) U=some p:=by simp
 have M:Sub ah (λk=>if k=U then some p else ah k):=λb q aG=>ab
 have aI:=bE.pf (ah:=λk=>if k=U then some p else ah k) (o:=0)  D rfl j7 j7;have I:j7+p.spare=A:=ab
 rw[I]at aI;refine⟨_,_,_,_,rfl,aI,?_⟩;rw[vy];have N:=cE.less  U ba dr;refine N.trans ?_;have V:mC B (λk=>if k=U then some p else ah k) { w with drawn:=d,heap:=w.heap.push (.cells (cc++hg (A-j7) z).toArray e) } p (.cells l false):=?_
 ·exact cE.make N.rel bm (by simp) ab rfl ⟨rfl,bu⟩ rfl rfl V
 refine⟨ba.base,rfl,(cc++hg (A-j7) z).toArray,e,0,0,ab,J,Kv ?_,?_⟩
 ·have E:=Z.length;rw[JS J];rw[E,ht];exact Z.mono M
 ·have E:=Z.length;simp only[List.size_toArray,jb,F0,cX]
  grind
theorem amO{I:aa X}{c:Array X}{s:Nat}(D:ph ah cs c 0)(N:cs.length=len*s)(A:nh (len*s) (na cs 0)=some I):
  ∃E,dm ah I E/\E=c.toList.take (len*s):=by
 rw[qT,rP,nO]at A
 split at A
 ·cases A;refine⟨_,?_,rfl⟩;obtain⟨cc,Z,M,V⟩:=D.cut (o:=0) (n:=len*s) J;have:cc=c.toList.take (len*s):=by
   apply nL
   grind
  rw[<-this];simpa using M
 ·cases A
theorem ajk{h:ad}{w:World}(ba:ee B ah (u h) w){U:Nat}(bm:ah U=none){s n:Nat}{a:av Addr}(aR:bE ah (.slice a len cap) dF)(gA:new.length=n*s){z:aa X}(cX:z.length=s)(e:TypeId){r:ff}(I:gt s h U a len cap n new = .ok r):
  ∃eo bL,dF = .slice eo len bL /\
   ((len+n<=bL/\∀A,dm ah new A->∃v ac Y bw bj,r = .val v ac Y/\bE bw v (.slice eo (len+n) bL)/\cE B ah (u h) w U Y bw (u ac) bj /\
     (match eo with|some x=>(storeCells (x.add (len*s)) A).run P w = .ok () bj | none=>bj=w)) \/
    (bL<len+n/\len+n<=1000000/\∀d D,w.drawn<=d->len+n<=D->∃E:aa X,(Builtin.firstCells s len dF).run P { w with drawn:=d } = .ok E.toArray { w with drawn:=d } /\
     ∀A,dm ah new A->∃v ac Y bw,r = .val v ac Y/\bE bw v (.slice (some ⟨w.heap.size,0,none⟩) (len+n) D) /\
      cE B ah (u h) w U Y bw (u ac) { w with drawn:=d,heap:=w.heap.push (.cells (E++A++hg (D-(len+n)) z).toArray e) })):=by
 obtain⟨eo,bL,rfl,q5⟩:=aR.yU;refine⟨eo,bL,rfl,?_⟩;unfold gt at I;cases uo:Nat.ble (Nat.add len n) cap with
 |true =>
  rw[uo]at I;have dr:len+n<=cap:=l6 uo;have I:S9 h U s a len cap (Nat.add len n) new = .ok r:=I;unfold S9 at I
  left
  rcases q5 with⟨rfl,rfl,rfl⟩|⟨b,o,aO,p,rfl,aG,rfl,rl⟩|⟨b,o,g,aW,rfl,qh,hc0,rfl⟩
  ·cases I;exact⟨dr,λA _=>⟨_,_,_,ah,w,rfl,.rR _ _,cE.refl U ba,rfl⟩⟩
  ·have xP:bE ah (.slice (some ⟨b,o,aO⟩) (len+n) cap) (.slice (some ⟨p.ct,p.off+o,none⟩) (len+n) bL):=by
    rcases rl with⟨rfl,rfl⟩|⟨kf,rfl,MP,rfl⟩
    ·exact .lp aG _ _
    ·exact .pf aG MP _ _
   have MQ:len+n<=bL:=J
   refine⟨MQ,λA aN=>?_⟩;dsimp only at I
   split at I
   ·cases I;cases aN;exact⟨_,_,_,ah,w,rfl,xP,cE.refl U ba,rfl⟩
   ·obtain⟨ac,oP,I⟩:=R.fd I;cases I;obtain⟨bj,i0,kN⟩:=Kp (P:=P) ba U aG oP aN;refine⟨_,_,_,ah,bj,rfl,xP,kN,?_⟩;have:(⟨p.ct,p.off+o,none⟩:Addr).add (len*s)=⟨p.ct,p.off+(o.add (len.mul s)),none⟩:=by rw[pY,wK];rfl
    dsimp only
    grind
  ·subst qh hc0;have mJ:n=0:=J
   subst mJ;have xB:new=[]:=ab
   subst xB;cases I;refine⟨J,λA aN=>?_⟩;cases aN;exact⟨_,_,_,ah,w,rfl,.pg _ _ _ _ _,cE.refl U ba,rfl⟩
 |false =>
  rw[uo]at I;obtain⟨fa,I⟩:=j5  I;simp only[eD]at fa;have Tb:len+n<=1000000:=l6 fa.2;have wj:cap<len+n:=by
   rcases jH cap (len+n)with h|h
   ·exact h
   ·have:=Ao h
    grind
  rcases q5 with⟨rfl,rfl,rfl⟩|⟨b,o,aO,p,rfl,aG,rfl,rl⟩|⟨b,o,g,aW,rfl,qh,hc0,rfl⟩
  ·right
   refine⟨wj,Tb,λd D bu zD=>⟨[],rfl,λA aN=>?_⟩⟩;exact Yy ba bm ab I aN cX zD d bu e
  ·obtain⟨cs,bC,aU,I⟩:=F3 I;obtain⟨V,N,I⟩:=R.ls I;dsimp only at N I;have avj:∀d,∃E,dm ah V E/\(Builtin.firstCells s len (.slice (some ⟨p.ct,p.off+o,none⟩) len bL)).run P { w with drawn:=d } = .ok E.toArray { w with drawn:=d }:=λd =>
    acv  (ba.drawn d) aG aU N
   have grow:bL<len+n->∀h1:ad,(∀b o,u h1 b=some o->u h b=some o)->p4 h1 U s (k3 V new) (Nat.add len n) = .ok r ->
     ∀d D,w.drawn<=d->len+n<=D->∃E:aa X,(Builtin.firstCells s len (.slice (some ⟨p.ct,p.off+o,none⟩) len bL)).run P { w with drawn:=d } = .ok E.toArray { w with drawn:=d } /\
     ∀A,dm ah new A->∃v ac Y bw,r = .val v ac Y/\bE bw v (.slice (some ⟨w.heap.size,0,none⟩) (len+n) D) /\
      cE B ah (u h) w U Y bw (u ac) { w with drawn:=d,heap:=w.heap.push (.cells (E++A++hg (D-(len+n)) z).toArray e) }:=by intro _ h1 dr a5 d D bu zD;obtain⟨E,Ew,um⟩:=avj d;refine⟨E,um,λA aN=>?_⟩;rw[kk]at a5;exact Yy ba bm dr a5 (Ew.append aN) cX zD d bu e
   rcases rl with⟨rfl,rfl⟩|⟨kf,rfl,MP,rfl⟩
   ·grind
   ·dsimp only at I;obtain⟨M,hkg⟩:=j5 I;simp only[eD]at M;obtain⟨⟨⟨⟨⟨hro,UK⟩,je⟩,H9⟩,r9⟩,axh⟩:=M;have axi:bC=false:=ab
    subst axi;have UK:o=0:=g4 UK;have je:cs.length=len*s:=by rw[<-oB];exact g4 je
    have H9:kf+1=s:=g4 H9;have r9:len=cap:=g4 r9;subst r9 UK;have dr:∀x y,u (xq h b) x=some y->u h x=some y:=λx y UL=>by
     rw[Pz]at UL
     grind
    rcases jH (len+p.spare) (len+n)with ci|eh
    ·grind
    ·left
     refine⟨eh,λA aN=>?_⟩;obtain⟨lb,hs1,rfl⟩:=aaG hkg;have axj:kf=lb:=J
     subst axj;obtain⟨dZ,axk,c,ep,ao,ai,bN,k6,atm,ahc⟩:=ba.obj b p _ aG aU;have Ex:=aN.length;rw[H9]at MP;rw[je,MP]at ahc;have azU:n*s<=p.spare*s:=pU s J;have azV:(⟨p.ct,p.off+0,none⟩:Addr).add (len*s)=⟨p.ct,len*s,none⟩:=by rw[pY,axk];simp
     obtain⟨bj,i0,Z⟩:=O2 P p.ct (len*s) ep ao ai A 0 c w bN J J (λv aI=>Zh (Pf aN axh v aI))
     ·let eF:Place:=⟨p.ct,0,p.spare-n,s⟩
      have LS:(λk=>if k=U then some eF else ah k) U=some eF:=by simp
      have oK:Sub ah (λk=>if k=U then some eF else ah k):=λb q aG=>ab
      have aI:=bE.pf (ah:=λk=>if k=U then some eF else ah k) (o:=0)  LS J (len+n) (len+n);have avk:len+n+eF.spare=len+p.spare:=ab
      rw[avk]at aI;have hpz:(⟨eF.ct,eF.off+0,none⟩:Addr)=⟨p.ct,p.off+0,none⟩:=ab
      rw[hpz]at aI;refine⟨_,_,_,_,bj,rfl,aI,?_,by dsimp only;grind⟩;rw[vy];refine cE.atl ba bm aG aU dZ (λx=>Pz h b x) rfl Z.size Z.frame Z.os Z.tape Z.output ?_;refine⟨dZ,rfl,_,ep,ao,ai,Z.heap,?_,Kv ?_,?_⟩
      ·grind
      ·obtain⟨E,Ew,qj⟩:=amO atm je N;simp only[m9];rw[kk];have hol:V.length=len*s:=by
        rw[Ew.length,qj]
        grind
       have pB:(c.toList.take (len*s)++A++c.toList.drop (len*s+A.length)).take (V++new).length=E++A:=by
        rw[qj];apply List.take_left'
        grind
       rw[pB];exact(Ew.append aN).mono oK
      ·simp only[kk,List.size_toArray,jb,ox,FH,FD,m9];have hol:V.length=len*s:=by
        rw[qT,rP]at N
        grind
       show min (len*s) c.size+A.length+(c.size-(len*s+A.length))=V.length+new.length+(p.spare-n)*s;rw[Nat.sub_mul];omega
  ·obtain⟨cs,bC,aU,I⟩:=F3 I;obtain⟨V,N,I⟩:=R.ls I;dsimp only at I;obtain⟨M,I⟩:=j5 I;simp only[eD]at M;have H9:0=s:=g4 ab;subst H9;cases I
theorem Yd{i:TypeInfo}(ai:P.info? e=some i)(h:zb P e=true):i.bytes<=1000000:=by unfold zb at h;rw[ai]at h;exact l6 h
theorem wrap_small{n:Nat}(h:n<=1000000):IntKind.i64.wrap (n:Int)=(n:Int):=by
 rw[<-oA];show AX .i64 n=(n:Int)
 unfold AX zt;have:Nat.blt n 9223372036854775808=true:=by rw[wM];omega
 grind
theorem Yz{h:ad}{w:World}(ba:ee B ah (u h) w){U:Nat}(bm:ah U=none){s n:Nat}{a:av Addr}(aR:bE ah (.slice a len cap) dF)(gA:new.length=n*s){i:TypeInfo}(ai:P.info? e=some i)(n0:i.zero=some z)(MM:z.cells.toList.length=s)(h3:j8 P e=some s)(oQ:i.bytes<=1000000)(Ev:vH z=true){r:ff}(hk:gt s h U a len cap n new = .ok r)(V:af[0]? = some t)(eb:P.underlying t=some (.slice e))(tJ:TypeId) (q5:(∃t1 q k,af[1]? = some t1/\P.underlying t1=some (.int q)/\iD = .int k (.ofNat n)/\n<=1000000/\new=hg n z.cells.toList) \/
   ((af[1]? = none\/∃t1 d,af[1]? = some t1/\P.underlying t1=some d/\∀q,d≠.int q)/\(∀w,(Builtin.lenOf iD).run P w = .ok n w) /\
    ∀d,∃Br,dm ah new Br/\(Builtin.firstCells s n iD).run P { w with drawn:=d } = .ok Br.toArray { w with drawn:=d })):
  iZ P B ah (u h) w U r (do pure (.value (<-Builtin.append_ af tJ #[dF,iD]))):=by
 obtain⟨eo,bL,rfl,avl⟩:=ajk (P:=P) ba bm aR gA MM e hk;have hbz:¬((n:Int)*(i.bytes:Int)>2 ^ 48)\/1000000<n:=by
  rcases jH 1000000 n with h|h
  ·omega
  ·left
   have:n*i.bytes<=1000000*1000000:=sT h oQ;omega
 have Bs:¬((n:Int)<0):=J
 have I:∀(k:IntKind) (w:World),(asInt (Value.int k (n:Int))).run P w = .ok (n:Int) w:=λ_ _=>rfl;have afX:w.drew={ w with drawn:=w.drawn+1 }:=rfl;have M:=λw=>y0 ai n0 w;rcases avl with⟨dr,sa⟩|⟨ci,Tb,UM⟩
 ·rcases q5 with⟨t1,q,k,Z,N,rfl,uG,rfl⟩|⟨zE,sb,ps⟩
  ·obtain⟨v,ac,Y,bw,bj,D,aI,kN,E⟩:=sa _ (Dh (yP Ev ah) n);refine⟨v,ac,Y,bw,_,bj,D,aI,kN,.inl ?_⟩;have Bt:¬(281474976710656<(n:Int)*(i.bytes:Int)):=J
   have xR:IntKind.i64.wrap (n:Int)=(n:Int):=wrap_small J
   by_cases BH:n*s=0
   ·have xB:hg n z.cells.toList=[]:=ab
    rw[xB]at E;cases eo with
    |none=>simp[Builtin.append_,V,run_underlying eb,kF h3,Z,run_underlying N,dr,I,Bs,xR,run_typeInfo ai,Bt,BH]at E ⊢;grind
    |some x=>simp[Builtin.append_,V,run_underlying eb,kF h3,Z,run_underlying N,dr,I,Bs,xR,run_typeInfo ai,Bt,BH]at E ⊢;simp[E]
   ·cases eo with
    |none=>simp[Builtin.append_,V,run_underlying eb,kF h3,Z,run_underlying N,dr,I,Bs,xR,run_typeInfo ai,Bt,BH,M,AA]at E ⊢;grind
    |some x=>simp[Builtin.append_,V,run_underlying eb,kF h3,Z,run_underlying N,dr,I,Bs,xR,run_typeInfo ai,Bt,BH,M,AA]at E ⊢;simp[E]
  ·obtain⟨Br,aN,A⟩:=ps w.drawn;have A:(Builtin.firstCells s n iD).run P w = .ok Br.toArray w:=A;obtain⟨v,ac,Y,bw,bj,D,aI,kN,E⟩:=sa Br aN;refine⟨v,ac,Y,bw,_,bj,D,aI,kN,.inl ?_⟩;rcases zE with zE|⟨t1,d,Z,N,bu⟩
   ·cases eo with
    |none=>simp[Builtin.append_,V,run_underlying eb,kF h3,zE,sb,dr,A]at E ⊢;grind
    |some x=>simp[Builtin.append_,V,run_underlying eb,kF h3,zE,sb,dr,A]at E ⊢;simp[E]
   ·cases eo with
    |none=>simp[Builtin.append_,V,run_underlying eb,kF h3,Z,run_underlying N,sb,dr,A]at E ⊢;grind
    |some x=>simp[Builtin.append_,V,run_underlying eb,kF h3,Z,run_underlying N,sb,dr,A]at E ⊢;simp[E]
 ·have MR:¬(len+n<=bL):=J
  have Mi:¬(9223372036854775807<(len:Int)+(n:Int)):=J
  have Mj:¬(281474976710656<Builtin.nextslicecap (len+n) bL*i.bytes):=by have:=sT (nextslicecap_le Tb ci) oQ;omega
  have Mk:(Question.appendCap (len+n) bL e).forced=false:=rfl;generalize uo:(Question.appendCap (len+n) bL e).cut (w.tape w.drawn (Question.appendCap (len+n) bL e))=aev;have zD:len+n<=aev:=by rw[<-uo];exact OZ _ _
  obtain⟨azW,aq,afY⟩:=UM (w.drawn+1) aev J zD;rw[<-afX]at aq;rcases q5 with⟨t1,q,k,Z,N,rfl,uG,rfl⟩|⟨zE,sb,ps⟩
  ·obtain⟨v,ac,Y,bw,D,aI,kN⟩:=afY _ (Dh (yP Ev ah) n);refine⟨v,ac,Y,bw,_,_,D,aI,kN,.inl ?_⟩;have Bt:¬(281474976710656<(n:Int)*(i.bytes:Int)):=J
   have xR:IntKind.i64.wrap (n:Int)=(n:Int):=wrap_small J
   by_cases BH:n*s=0
   ·have xB:hg n z.cells.toList=[]:=ab
    simp[Builtin.append_,V,run_underlying eb,kF h3,Z,run_underlying N,MR,Mi,I,Bs,xR,run_typeInfo ai,Bt,BH,Mj,Mk,uo,aq,M,newRow,AD,AA,xB];rfl
   ·simp[Builtin.append_,V,run_underlying eb,kF h3,Z,run_underlying N,MR,Mi,I,Bs,xR,run_typeInfo ai,Bt,BH,Mj,Mk,uo,aq,M,newRow,AD,AA];rfl
  ·obtain⟨Br,aN,A⟩:=ps (w.drawn+1);rw[<-afX]at A;obtain⟨v,ac,Y,bw,D,aI,kN⟩:=afY Br aN;refine⟨v,ac,Y,bw,_,_,D,aI,kN,.inl ?_⟩;rcases zE with zE|⟨t1,d,Z,N,bu⟩
   ·simp[Builtin.append_,V,run_underlying eb,kF h3,zE,sb,MR,Mi,run_typeInfo ai,Mj,Mk,uo,aq,A,M,newRow,AD,AA];rfl
   ·simp[Builtin.append_,V,run_underlying eb,kF h3,Z,run_underlying N,sb,MR,Mi,run_typeInfo ai,Mj,Mk,uo,aq,A,M,newRow,AD,AA];rfl
end
section
variable {P:Program} {ah:cd} {B:Nat}
def zf(B:Nat)(ah:cd)(h:ad)(w:World)(U:Nat)(K:bD)(dst:av Tmp)(a:Act)(next:Act->World->Prop):Prop :=
 ∀v ac Y bw c bj,K v ac Y->bE bw v c->cE B ah (u h) w U Y bw (u ac) bj->next (a.put dst c) bj
theorem zf.fin{h:ad}{w:World}{U:Nat}{K:bD}{a:Act}{next:Act->World->Prop}(M:zf B ah h w U K dst a next){e:Ending}(I:Fin B ah h w U K e bj):∃c,e = .returned c/\next (a.put dst c) bj:=by obtain⟨v,ac,Y,bw,c,rfl,E,A,D⟩:=I;exact⟨c,rfl,M v ac Y bw c bj E A D⟩
theorem TJ{r:R ff}{K:bD}(h:dB (dS r) K):∃x,r = .ok x/\dB x K:=by
 cases r with
 |ok x=>exact⟨x,rfl,h⟩
 |no w=>exact h.elim
theorem gu{aA:Type}{r:R aA}{k:aA->Prop}(h:ag r k):∃v,r = .ok v/\k v:=by
 cases r with
 |ok x=>exact⟨x,rfl,h⟩
 |no w=>exact h.elim
section
variable {h:ad} {w:World} {U:Nat} {K:bD} {o:Oper} {a:Act} {n:Nat} {r:av Nat} {next:Act->World->Prop} {Q:Exit->Act->World->Prop}
theorem iZ.upon{x:ff}{s:Sem Next}(D:iZ P B ah (u h) w U x s)(M:dB x K)(N:zf B ah h w U K o.dst a next):o.uponIn (nA r) n P a next Q (s.run P w):=by
 obtain⟨v,ac,Y,bw,c,bj,rfl,I,E,A|⟨A,rfl⟩⟩:=D
 ·rw[A];exact N v ac Y bw c bj M I E
 ·rw[A];exact N v ac Y bw undef bj M I E
theorem Zo(D:ee B ah (u h) w)(E:kw ah U)(M:lz P f aE h U K)(A:dm ah aE cs)(N:zf B ah h w U K o.dst a next):o.uponIn (nA r) n P a next Q (.ok (.enter f ⟨cs⟩) w):=by refine⟨λh=>by simp[nA,Fence.wide]at h,?_⟩;rw[aax];exact(M.2 B ah w _ D E A (n-1)).mono λe bj I=>by obtain⟨c,rfl,h⟩:=N.fin I;exact h
theorem X4(h:C8 P f)(cs:Array X)(w:World):(callFunc f cs).run P w = .ok (.enter f cs) w:=by
 obtain⟨D,I,M,N⟩:=h;have E:D.body≠none:=ab
 have A:D.name ≠ "runtime.NumGoroutine" := by grind
 simp[callFunc,I,A,E]
theorem YA(ba:ee B ah (u h) w)(bx:kw ah U){f nE:X}(A:gB P false (jc h U aE f) K)(E:dm ah aE cs)(aI:bE ah f nE)(bm:zf B ah h w U K o.dst a next):
  o.uponIn (nA r) n P a next Q ((do let d <-Deferred.ofValue nE ⟨cs⟩;invoke d.target d.args:Sem Next).run P w):=by
 unfold jc at A
 split at A
 ·rename_i fn x y
  split at A
  ·cases aI with
   |func f aR ca =>
    rename_i Z fY qC qD M
    have A:lz P Z _ h U K:=A;have D:((do let d <-Deferred.ofValue (.func (.func Z) ⟨qC⟩ ⟨M⟩) ⟨cs⟩;invoke d.target d.args:Sem Next)).run P w = .ok (.enter Z ⟨qC++(cs++M)⟩) w:=by simp[Deferred.ofValue,invoke,X4 A.1]
    rw[D];exact Zo ba bx A (aR.append (E.append ca)) bm
  ·cases aI with
   |yield bg =>
    rename_i l p
    have A:uA P l _ h U K:=A;obtain⟨N,h1,al,aM⟩:=A B ah w cs p ba bx (by simpa[k3]using E) bg;have V:=rL (P:=P) h1 ab;have D:((do let d <-Deferred.ofValue (.func (.yield p.ct) #[] #[]) ⟨cs⟩;invoke d.target d.args:Sem Next)).run P w = .ok (.round p.ct N.fn ((N.params.zip ⟨cs⟩).foldl (λI (t,a)=>I.setIfInBounds t a) N.tmps) N.assign N.body) w:=by simp[Deferred.ofValue,invoke,Instr.yield,Instr.getLoop,V,al]
    rw[D];refine⟨λh=>by simp[nA,Fence.wide]at h,?_⟩;rw[amD];exact(aM (n-1)).mono λe bj bk=>by obtain⟨c,rfl,h⟩:=bm.fin bk;exact h
  ·exact A.elim
 ·exact A.elim
theorem ais{m:String}{A:FuncId × ak}(h:rQ P t m=some A):∃i x,P.info? t=some i/\i.methods.find? (λx=>x.name == m)=some x/\x.path=#[]/\x.func=some A:=by
 unfold rQ at h
 grind
theorem aqa(af:Array TypeId)(t:TypeId)(a:Addr)(x y:String):Builtin.ssaWrapNilChk_ af t #[.pointer (some a),strVal x,strVal y]=pure (.pointer (some a)):=rfl
theorem aku(ba:ee B ah (u h) w){I:ak}{D:X}(A:xg P h t I y = .ok v)(N:bE ah y D):
  ∃c,(∀E:String,(receiverAt t (.val D) I (some E)).run P w = .ok c w)/\bE ah v c:=by
 unfold xg at A
 split at A
 ·rename_i e M
  cases I with
  |true=>cases A;exact⟨D,λE=>by simp[receiverAt,run_underlying M,Place.get],N⟩
  |false =>
   obtain⟨bU,V,A⟩:=R.ls (show R.of "type" (nb P e) (λbU=>im bU h y) = .ok v from A);obtain⟨eo,rfl,c,bc,Z⟩:=QZ ba V A N;refine⟨c,λE=>?_,Z⟩;simp[receiverAt,run_underlying M,Place.get,aqa,asAddr,bc]
 ·rename_i d bm M
  cases I with
  |true=>cases A
  |false =>
   cases A;refine⟨D,λE=>?_,N⟩;cases d <;> first|(exact(bm _ rfl).elim)|simp[receiverAt,run_underlying M,Place.get]
 ·cases A
theorem aiP(ba:ee B ah (u h) w)(bx:kw ah U){m:String}(A:gB P false (p0 P h U aE m v) K)(H6:dm ah aE cs)(aI:bE ah v me)(bm:zf B ah h w U K o.dst a next):
  o.uponIn (nA r) n P a next Q ((do let d <-(pure { target:=.fn (.method m) #[],args:=#[me]++⟨cs⟩ }:Sem Deferred);invoke d.target d.args:Sem Next).run P w):=by
 unfold p0 at A
 split at A
 ·rename_i t y
  cases Z:rQ P t m with
  |none=>rw[Z]at A;exact A.elim
  |some I =>
   rw[Z]at A;obtain⟨i,x,ai,aR,hpa,hfu⟩:=ais Z;have A:gB P false (Er (xg P h t I.2 y) (λy=>.call I.1 (y::aE) h U)) K:=A;cases D:xg P h t I.2 y with
   |no s=>rw[D]at A;exact A.elim
   |ok aBp =>
    rw[D]at A;have A:lz P I.1 (aBp::aE) h U K:=A;cases aI with
    |iface _ ca =>
     rename_i qC
     obtain⟨c,N,V⟩:=aku ba D ca;have M:((do let d <-(pure { target:=.fn (.method m) #[],args:=#[Value.iface t qC]++⟨cs⟩ }:Sem Deferred);invoke d.target d.args:Sem Next)).run P w = .ok (.enter I.1 ⟨c::cs⟩) w:=by
      have E:∀k,(method (k+1) t qC m).run P w = .ok (I.1,c) w:=λk=>by unfold method;obtain⟨f,yk⟩:=I;simp[run_typeInfo ai,aR,hpa,hfu,follow,N]
      have bu:P.types.size+Made.depth=(P.types.size+99)+1:=rfl;simp[invoke,callMethod,X4 A.1,bu,E]
     rw[M];exact Zo ba bx A (.cons V H6) bm
 ·exact A.elim
theorem Q0{k:X->X->R ff}{r:ff}(h:HN l k = .ok r):∃x y,l=[x,y]/\k x y = .ok r:=by
 unfold HN at h
 grind
theorem dm.two(h:dm ah [x,y] cs):∃dF iD,cs=[dF,iD]/\bE ah x dF/\bE ah y iD:=by
 cases h with
 |cons h t=>cases t with
  |cons A t=>cases t;exact⟨_,_,rfl,h,A⟩
theorem Ye(ba:ee B ah (u h) w)(bx:kw ah U){b:Builtin}{r:ff}(A:sV P b af.toList h U aE = .ok r)(aI:dm ah aE cs)(Z:TypeId)(I:Array ak):
  iZ P B ah (u h) w U r (invoke (.builtin b af Z I) ⟨cs⟩):=by
 unfold sV at A
 split at A
 ·obtain⟨t,E,A⟩:=R.ls A;obtain⟨e,bk,A⟩:=R.ls A;obtain⟨s,ar,A⟩:=R.ls A;obtain⟨ym,cX,A⟩:=R.ls A;obtain⟨aU,A⟩:=j5 A;simp only[eD]at aU;obtain⟨⟨BI,qk⟩,D⟩:=aU;rw[jr]at E;have E:af[0]? = some t:=ab
  obtain⟨i,z,ai,n0,Ev,rfl⟩:=AB cX;have N:z.cells.toList.length=s:=g4 BI;obtain⟨x,y,rfl,hQ⟩:=Q0 A;clear A;obtain⟨dF,iD,rfl,M,V⟩:=aI.two;have A:GK z.cells.toList s h U x y = .ok r:=hQ;unfold GK at A
  split at A
  ·obtain⟨q,n,rfl,A⟩:=Dg A;obtain⟨bm,A⟩:=j5 A;cases V;unfold rY at D
   split at D
   ·rename_i t1 UN
    split at D
    ·rename_i c4 hu1
     rw[jr]at UN;exact Yz ba bx.here M (by rw[F0,N]) ai n0 N ar (Yd ai qk) Ev A E (FV bk) Z (.inl ⟨t1,c4,q,ab,hu1,rfl,l6 bm,rfl⟩)
    ·cases D
   ·cases D
  ·cases A
 ·obtain⟨t,E,A⟩:=R.ls A;rw[jr]at E;obtain⟨x,y,rfl,A⟩:=Q0 A;obtain⟨dF,iD,rfl,M,V⟩:=aI.two;exact aiO ba U ab A M V Z
 ·obtain⟨t,E,A⟩:=R.ls A;obtain⟨hty,A⟩:=j5 A;rw[jr]at E;unfold ag4 at A
  split at A
  ·match aI with
   | .cons  M .nil=>exact ajj ba U ab ab A M Z
  ·cases A
 ·obtain⟨t,E,A⟩:=R.ls A;obtain⟨s,ar,A⟩:=R.ls A;rw[jr]at E;obtain⟨x,y,rfl,A⟩:=Q0 A;obtain⟨dF,iD,rfl,M,V⟩:=aI.two;exact akt ba U ab ar A M V Z
 ·cases A
theorem aqb(ba:ee B ah (u h) w)(bx:kw ah U){s:Nat}{z:aa X}(cy:af[0]? = some t)(bk:rU P t=some e)(ar:j8 P e=some s)(cX:oC P e=some z)(aU:(Nat.beq (jJ z) s&&zb P e&&(!rY P (g7 af.toList 1)&&aet P (g7 af.toList 1)))=true){r:ff}(M:dv s h U x y = .ok r)(aR:bE ah x dF)(ca:bE ah y iD)(tJ:TypeId):
  iZ P B ah (u h) w U r (do pure (.value (<-Builtin.append_ af tJ #[dF,iD]))):=by
 simp only[eD,OT]at aU;obtain⟨⟨E,I⟩,A,D⟩:=aU;have eb:=FV bk;obtain⟨i,z,ai,n0,Z,rfl⟩:=AB cX;have E:z.cells.toList.length=s:=g4 E;have I:=Yd ai I;unfold dv at M
 split at M
 ·split at M
  ·obtain⟨new,hk,N,V⟩:=XS  ba ca J M;obtain⟨ck,c'',rfl,_⟩:=ca.yU;refine Yz ba bx.here aR N ai n0 E ar I Z hk cy eb tJ (.inr ⟨?_,λ_=>rfl,V⟩);unfold rY at A;rw[jr]at A D;have a5:af.toList[1]? = af[1]?:=by simp
   rw[a5]at A D;cases UN:af[1]? with
   |none=>grind
   |some t1 =>
    rw[UN]at A D;obtain⟨d,bu⟩:=nJ.1 D
    grind
  ·cases M
 ·cases M
theorem AJ{o:Oper}{k:nz}(A:pw P o.op=some k):∀c,o.op≠.defer c:=λc h=>by rw[h]at A;cases A
theorem aaH{a0:Act}(ba:ee B ah (u h) w)(bx:kw ah U)(o:Oper)(N:Loc ah aj a.tmps o.op.operands){e:wx}(D:pw P o.op=some (.fC e))(A:nB P false e aj h U K)(bm:zf B ah h w U K o.dst a0 next):
  o.uponIn (nA r) n P a0 next Q ((o.semAt r a.eval).run P w):=by
 rw[Oper.semAt_eq r a.eval o (AJ D)];have ex:∀{op:Op},o.op=op->execOp a.eval o=execOp a.eval { o with op:=op }:=λh=>by rw[<-h]
 cases uD:o.op <;> rw[uD]at D N <;> rw[ex uD] <;> (try simp only[pw,j4,mw,y1,Av,reduceCtorEq,and_false,Ke]at D)
 case store t x y =>
  obtain⟨m,hm,dF,Z,iD,al,aY⟩:=D;cases aY;obtain⟨Ck,I,A⟩:=gu A;obtain⟨sC,g2,A⟩:=gu A;obtain⟨ac,c3,A⟩:=gu A;obtain⟨bj,M,kN⟩:=ap8 (P:=P) ba U hm c3 (N.ej (by simp[Op.operands]) Z I) (N.ej (by simp[Op.operands]) al g2);simp only[execOp,Sem.run_bind,M,Result.andThen_ok,Sem.run_pure];exact bm km ac U ah undef bj A t5 kN
 case mapUpdate t m k x =>
  split at D
  ·rename_i dU Fo eb
   simp only[j4,mw]at D;obtain⟨nx,Z,cL,al,dF,aM,aY⟩:=D;cases aY;obtain⟨Jj,I,A⟩:=gu A;obtain⟨aBo,g2,A⟩:=gu A;obtain⟨Ck,c3,A⟩:=gu A;obtain⟨ac,dK,A⟩:=gu A;obtain⟨bj,M,hm⟩:=amN ba U eb dK (N.ej (by simp[Op.operands]) Z I) (N.ej (by simp[Op.operands]) al g2) (N.ej (by simp[Op.operands]) aM c3);simp only[execOp,Sem.run_bind,M,Result.andThen_ok,Sem.run_pure];exact bm km ac U ah undef bj A t5 hm
  ·cases D
 case range t x =>
  obtain⟨cy,dF,Z,aY⟩:=D;cases aY;obtain⟨Ck,I,A⟩:=gu A;exact(aji ba bx.here cy (N.ej (by simp[Op.operands]) Z I) A).upon A bm
 case next it isS =>
  cases isS with
  |true=>cases D
  |false =>
   obtain⟨dF,Z,aY⟩:=mw.1 D;cases aY;obtain⟨Ck,I,A⟩:=gu A;obtain⟨dG,ac,bw,bL,bj,ha,aI,hm,M⟩:=ap9 (P:=P) ba U (N.ej (by simp[Op.operands]) Z I) A o.type;simp only[execOp,Sem.run_bind,M,Result.andThen_ok,Sem.run_pure];exact bm dG ac U bw bL bj ha aI hm
 case makeMap t r=>cases r <;> cases D
 case call c =>
  obtain⟨jw,Z,D⟩:=D;have aR:∀x∈c.args.toList,x∈(Op.call c).operands:=λx aR=>by simp only[Op.operands,Call.operands];grind
  have xy:c.args.map a.eval=⟨c.args.toList.map a.eval⟩:=ab
  unfold execOp
  split at D
  ·rename_i f E
   obtain⟨nE,al,aY⟩:=mw.1 D;simp only[Av,nz.fC.injEq]at aY;subst aY;have BJ:f∈(Op.call c).operands:=by simp only[Op.operands,Call.operands,E];simp
   simp only[resolve,E,xy];unfold acp at A
   split at A
   ·obtain⟨aE,I,A⟩:=gu A;refine YA ba bx (f:=.func (.func _) ⟨[]⟩ ⟨[]⟩) ?_ (N.wd aR Z I) (N.ej BJ al rfl) bm;have A:lz P _ aE h U K:=A;show lz P _ (k3 [] (k3 aE [])) h U K;simpa[k3]using A
   ·obtain⟨hb,g2,A⟩:=gu A;obtain⟨aE,I,A⟩:=gu A;exact YA ba bx A (N.wd aR Z I) (N.ej BJ al g2) bm
  ·rename_i f m E
   obtain⟨nE,al,aY⟩:=mw.1 D;simp only[Av,nz.fC.injEq]at aY;subst aY;have BJ:f∈(Op.call c).operands:=by simp only[Op.operands,Call.operands,E];simp
   obtain⟨aE,I,A⟩:=gu A;obtain⟨hb,g2,A⟩:=gu A;simp only[resolve,E,xy];exact aiP ba bx A (N.wd aR Z I) (N.ej BJ al g2) bm
  ·rename_i b E
   obtain⟨V,lA⟩:=O3 (bw:=a.eval) E o.type;simp only[lA,xy];unfold Es at D
   split at D
   ·split at D
    ·obtain⟨t,_,D⟩:=j4.1 D
     split at D <;> cases D
    ·cases D
   ·split at D <;> cases D
   ·split at D <;> cases D
   ·split at D
    ·simp at D
    ·cases D
   ·cases Bq:rY P (g7 c.argTypes.toList 1)with
    |true =>
     rw[Bq]at D;cases D;obtain⟨aE,I,A⟩:=gu A;obtain⟨x,aG,A⟩:=TJ A;exact(Ye ba bx aG (N.wd aR Z I) o.type V).upon A bm
    |false =>
    rw[Bq]at D;simp only[lH,j4,y1]at D;obtain⟨t,cy,Fo,bk,s,h3,z,cX,avm,D⟩:=D
    split at D
    ·cases D;obtain⟨Ck,I,A⟩:=gu A;obtain⟨sC,g2,A⟩:=gu A;obtain⟨x,aG,A⟩:=TJ A;obtain⟨ih,jC,dJ,gg,aJ⟩:=N.Bp aR Z I g2;rw[aJ];rw[jr]at cy;exact(aqb ba bx (af:=c.argTypes) ab bk h3 cX (by rw[Bq];exact avm) aG dJ gg o.type).upon A bm
    ·cases D
   ·cases D;obtain⟨aE,I,A⟩:=gu A;obtain⟨x,aG,A⟩:=TJ A;exact(Ye ba bx aG (N.wd aR Z I) o.type V).upon A bm
 all_goals (split at D <;> simp[j4]at D)
end
end
def atn(Q:Exit->Act->World->Prop):Exit->Act->World->Prop
 | .goto _,_,_=>False
 |e,a,w=>Q e a w
theorem ajl{n:Nat}{P:Program}{Q:Exit->Act->World->Prop}{a:Act}{w:World}{c:Code}(h:c.wpIn d7 n P (atn Q) a w):(Code.scope c).wpIn d7 n P Q a w:=by
 intro b k cs hro V Z;have D:step P (lone (b.atR a (.code (.scope c)::k)) cs w) = .next (lone (b.atR a (.code c::.inScope c::k)) cs w):=step_lone_go (by simp[stepG,stepG.exec,Frame.atR]);have ky:∀a w,step P (lone (b.atR a (.inScope c::k)) cs w) = .next (lone (b.atR a k) cs w):=λa w=>step_lone_go (by simp[stepG,stepG.exec,Frame.atR]);have E:(lone (b.atR a (.code (.scope c)::k)) cs w).fenced P d7:=fenced_calm V Z rfl;obtain⟨e,M,oI,I,A⟩:=h b (.inScope c::k) cs hro V Z;cases e with
 |normal=>exact⟨.normal,M,oI,I,.head E D (StepsIn.trans A (.one (fenced_calm V Z rfl) ab))⟩
 |exit id =>
  have aR:exitTo id (.inScope c::k)=exitTo id k:=by simp[exitTo]
  exact⟨.exit id,M,oI,I,λdp hk=>.head E D (A.1 dp ab),
   λN hk=>let ⟨axl,h1,al⟩:=A.2 N ab;⟨axl,h1,.head E D al⟩⟩
 |goto l=>exact I.elim
 |ret=>exact⟨_,M,oI,I,.of_steps (.one E D) A⟩
 |panic kW=>exact⟨_,M,oI,I,.of_steps (.one E D) A⟩
 |outgrown=>exact⟨_,M,oI,I,.of_steps (.one E D) A⟩
theorem ajm{n:Nat}{P:Program}{Q:Exit->Act->World->Prop}{c:Code}(eI:Nat->Act->World->Prop)(round:∀m a w,eI m a w->c.wpIn d7 n P (Exit.then (λM bj=>∃bG,bG<m/\eI bG M bj) Q) a w){a:Act}{w:World}(axm:eI m a w):(Code.loop c).wpIn d7 n P Q a w:=by
 intro b k cs N aG ba;have key:∀j a w,eI j a w ->
   ∃e M bj,Q e M bj/\ArrivesIn (Machine.fenced P d7) P (lone (b.atR a (.code c::.inLoop c::k)) cs w) b k cs e M bj:=by
  intro j
  induction j using Nat.strongRecOn with
  |_ j ev =>
   intro a w mW;obtain⟨e,I,oI,D,A⟩:=round j a w mW b (.inLoop c::k) cs N aG ba;cases e with
   |normal =>
    obtain⟨bG,V,avn⟩:=D;obtain⟨axn,axo,axp,Z,E⟩:=ev bG V I oI avn;exact⟨axn,axo,axp,Z,.of_steps (StepsIn.trans A (.one (fenced_calm aG ba rfl) stepR_inLoop)) E⟩
   |exit id=>exact⟨_,I,oI,D,.pass  rfl ab A⟩
   |goto l=>exact⟨_,I,oI,D,.pass  rfl ab A⟩
   |ret=>exact⟨_,I,oI,D,.pass  rfl ab A⟩
   |panic kW=>exact⟨_,I,oI,D,.pass  rfl ab A⟩
   |outgrown=>exact⟨_,I,oI,D,.pass  rfl ab A⟩
 obtain⟨e,M,bj,D,A⟩:=key _ a w axm;exact⟨e,M,bj,D,.of_steps (.one (fenced_calm aG ba rfl) stepR_loop) A⟩
section
variable {P:Program} {ah:cd} {B:Nat}
theorem Act.P9(a:Act)(dst:av Tmp)(v:X):(a.put dst v).tmps.size=a.tmps.size:=by
 cases dst <;> simp[Act.put]
theorem Act.Yf(a:Act)(dst:av Tmp)(v:X):(a.put dst v).defers=a.defers:=by
 cases dst <;> rfl
theorem yV(a:Nat)(o:av X)(aj:b8)(n:Nat):hG ((a,o)::aj) n=if a=n then some o else hG aj n:=by
 show(bif Nat.beq a n then some o else hG aj n)=_
 by_cases e:a=n
 ·subst e;simp
 ·have:Nat.beq a n=false:=by
   cases A:Nat.beq a n with
   |false=>rfl
   |true=>exact absurd (g4 A) e
  simp[this,e]
theorem jP.put{aj:b8}{a:Act}(h:jP ah aj a.tmps){dst:av Tmp}{v:av X}{c:X}(M:bE ah (r0 v) c)(N:∀d,dst=some d->d<a.tmps.size):jP ah (et aj dst v) (a.put dst c).tmps:=by
 cases dst with
 |none=>exact h
 |some t =>
  intro d A D;have E:=N t rfl;show bE ah (r0 A) ((a.tmps.setIfInBounds t c).getD d undef);have D:hG ((t,v)::aj) d=some A:=D;rw[yV]at D
  by_cases e:t=d
  ·subst e;simp at D;subst D;simp[E];exact M
  ·rw[if_neg e]at D;have I:(a.tmps.setIfInBounds t c).getD d undef=a.tmps.getD d undef:=by simp[qN,Al,e]
   rw[I];exact h d A D
def uq(aj pC:b8):Prop:=∀d,hG pC d=hG aj d
theorem jP.same{A:b8}{t:Array X}(h:jP ah aj t)(s:uq aj A):jP ah A t:=λd v e=>h d v (by rw[<-s d];exact e)
theorem uq.lit(h:hG aj d=some (some v)):uq aj ((d,some v)::aj):=λk=>by
 rw[yV]
 by_cases e:d=k
 ·subst e;rw[if_pos rfl,h]
 ·rw[if_neg e]
theorem ug{a b:Prop}(h:bJ v a b):(v = .bool true/\a)\/(v = .bool false/\b):=by
 unfold bJ at h
 split at h
 ·split at h
  ·exact .inl ⟨rfl,h⟩
  ·exact .inr ⟨rfl,h⟩
 ·exact h.elim
noncomputable def vP (g:av (Nat × ak)) (aj:b8):ak:=match g with
 |none=>true
 |some (d,w)=>match hG aj d with
  |some (some (.bool b))=>b == w
  |_=>false
def MS(g:av (Nat × ak))(aj:b8):Prop:=∀d w,g=some (d,w)->hG aj d≠none
theorem afZ{I D:b8->Prop}(h:lE g aj I D):MS g aj/\∃M,uq aj M/\((vP g aj=true/\I M)\/(vP g aj=false/\D M)):=by
 cases g with
 |none=>exact⟨λd w e=>(by cases e),aj,λ_=>rfl,.inl ⟨rfl,h⟩⟩
 |some g =>
  obtain⟨d,A⟩:=g;have h:(match hG aj d with
   |some (some v)=>bJ v ((match A with|true=>I|false=>D) ((d,some (.bool true))::aj)) ((match A with|true=>D|false=>I) ((d,some (.bool false))::aj))
   |some none=>D aj
   |none=>False):=h
  unfold vP;cases E:hG aj d with
  |none=>rw[E]at h;exact h.elim
  |some v =>
   refine⟨λN w e=>by cases e;simp[E],?_⟩;rw[E]at h;cases v with
   |none=>exact⟨aj,λ_=>rfl,.inr ⟨by simp[E],h⟩⟩
   |some v =>
    rcases ug h with⟨rfl,h⟩|⟨rfl,h⟩
    ·refine⟨_,uq.lit E,?_⟩;cases A with
     |true=>exact .inl ⟨by simp[E],h⟩
     |false=>exact .inr ⟨by simp[E],h⟩
    ·refine⟨_,uq.lit E,?_⟩;cases A with
     |true=>exact .inr ⟨by simp[E],h⟩
     |false=>exact .inl ⟨by simp[E],h⟩
theorem Zp{a8:Array Oper}{tmps:Array X}{o:Oper}(E:z6 a8.toList o.guard=some g)(hk:MS g aj)(eH:∀d w v,g=some (d,w)->hG aj d=some v->bE ah (r0 v) (tmps.getD d undef)):
  Region.wanted o (yielded a8 tmps)=vP g aj:=by
 unfold z6 at E
 split at E
 ·rename_i N
  cases E;unfold Region.wanted;rw[N];rfl
 ·rename_i j A N
  simp only[j4,mw]at E;obtain⟨aBq,V,d,bu,e⟩:=E;cases e;rw[jr]at V;have bN:Region.wanted o (yielded a8 tmps)=(yielded a8 tmps j == some A):=by unfold Region.wanted;rw[N]
  have Z:yielded a8 tmps j=(match tmps.getD d undef with | .bool b=>some b|_=>none):=by
   unfold yielded;have M:a8[j]? = some aBq:=by simpa using V
   simp only[M,Option.bind_some,bu];cases aR:tmps[d]? with
   |none =>
    have:tmps.getD d undef=undef:=ab
    rw[this];rfl
   |some x =>
    have:tmps.getD d undef=x:=by simp[qN,aR]
    rw[this];cases x <;> rfl
  rw[bN,Z];unfold vP;cases I:hG aj d with
  |none=>exact absurd I (hk d A rfl)
  |some v =>
   have D:=eH d A v rfl I;cases v with
   |none =>
    generalize tmps.getD d undef=c at D;have D:bE ah km c:=D;cases D with|tuple h=>cases h;simp only[I];rfl
   |some v =>
    simp only[I];generalize tmps.getD d undef=c at D;have D:bE ah v c:=D;cases D <;> first|rfl|(rename_i b;cases b <;> cases A <;> rfl)
def p6(L B:Nat)(ah:cd)(H:fs)(w:World):aa Deferred->Prop
 | []=>True
 |d::bt=>(∃r,L<=r/\d.target = .collected r/\w.heap[r]? = some (.deferred (some []))/\¬xw B ah H r/\∀Jm∈bt,Jm.target≠.collected r)/\p6 L B ah H w bt
theorem p6.io{L:Nat}{H h6:fs}{w bj:World}{ao ai:Nat}{bw:cd}(s:cE B ah H w ao ai bw h6 bj):∀{D:aa Deferred},p6 L B ah H w D->p6 L B bw h6 bj D
 | [],_=>trivial
 |d::D,⟨⟨r,N,Z,al,E,V⟩,M⟩=>by
  have A:r<w.heap.size:=ab
  exact⟨⟨r,N,Z,by rw[s.frame r A E];omega,λI=>(s.own r I).elim E J,V⟩,p6.io s M⟩
inductive aAA where
 |normal
 |exit (id:Nat)
 |ret
def axq:aAA->Exit
 | .normal=>.normal
 | .exit i=>.exit i
 | .ret=>.ret
structure o2 (L B:Nat) (ah:cd) (aj:b8) (h:ad) (U:Nat) (a:Act) (w:World):Prop where
 rel:ee B ah (u h) w
 e5:kw ah U
 iP:jP ah aj a.tmps
 marks:p6 L B ah (u h) w a.defers
 low:L<=w.heap.size
abbrev MT:=aAA->b8->ad->Nat->Prop
def vK(L B:Nat)(ah:cd)(h:ad)(w:World)(U tI:Nat)(K:MT)(Q:Exit->Act->World->Prop):Prop :=
 ∀x pC ac Y bw eo bj,K x pC ac Y->cE B ah (u h) w U Y bw (u ac) bj->o2 L B bw pC ac Y eo bj->eo.tmps.size=tI->Q (axq x) eo bj
theorem o2.put{L:Nat}{aj:b8}{h ac:ad}{U Y:Nat}{a:Act}{w bj:World}{bw:cd}(s:o2 L B ah aj h U a w)(A:cE B ah (u h) w U Y bw (u ac) bj){dst:av Tmp}{v:av X}{c:X}(E:bE bw (r0 v) c)(D:∀d,dst=some d->d<a.tmps.size):
  o2 L B bw (et aj dst v) ac Y (a.put dst c) bj :=
 ⟨A.rel,s.e5.after A,jP.put (s.iP.mono (s.e5.sub A)) E D,by rw[Act.Yf];exact s.marks.io A,hu s.low A.size⟩
theorem vK.after{h:ad}{U:Nat}{w:World}{K:MT}{Q:Exit->Act->World->Prop}(bv:vK L B ah h w U tI K Q)(hm:cE B ah (u h) w U Y bw (u ac) bj):vK L B bw ac bj Y tI K Q :=
 λx A I D V N Z hk M ar E=>bv x A I D V N Z hk (hm.trans M) ar E
theorem vK.mono{h:ad}{U:Nat}{w:World}{K kV:MT}{Q:Exit->Act->World->Prop}(A:vK L B ah h w U tI K Q)(E:∀x aj h U,kV x aj h U->K x aj h U):vK L B ah h w U tI kV Q :=
 λx aj h U ah a w D=>A x aj h U ah a w (E _ _ _ _ D)
theorem ato{s:ak}{d:av Nat}{e:Ji}{h:ad}{U:Nat}{k:b8->ad->Nat->Prop}(A:mh P s d (.fB e) aj h U k):∃v,nX P aj e = .ok v/\k (et aj d (some v)) h U:=by
 have g:ag (nX P aj e) (λv=>k (et aj d (some v)) h U):=by
  cases e <;> first|exact A|skip
  obtain⟨c,E,A⟩:=gu A;obtain⟨a,I,A⟩:=gu A;obtain⟨b,D,A⟩:=gu A;simp only[nX,E,I,D,R.bind];rcases ug A with⟨rfl,A⟩|⟨rfl,A⟩ <;> exact A
 exact gu g
theorem aqc{n:Nat}{r:av Nat}{Q:Exit->Act->World->Prop}{h:ad}{U:Nat}{a:Act}{w:World}(A:o2 L B ah aj h U a w){o:Oper}{k:nz}(I:pw P o.op=some k){K:b8->ad->Nat->Prop}(E:mh P false o.dst k aj h U K){next:Act->World->Prop}(V:zf B ah h w U (λv h U=>K (et aj o.dst (some v)) h U) o.dst a next):o.uponIn (nA r) n P a next Q ((o.semAt r a.eval).run P w):=by
 have N:=A.iP.loc o.op.operands;cases k with
 |fC e =>
  have E:nB P false e aj h U λv h U=>K (et aj o.dst (some v)) h U:=E;exact aaH A.rel A.e5 o N I E V
 |fB e =>
  obtain⟨v,M,E⟩:=ato E;rw[Oper.semAt_eq r a.eval o (AJ I)];obtain⟨c,aI,D⟩:=act o N I M;rw[D w];exact V v h U ah c w E aI (cE.refl U A.rel)
 |red e =>
  obtain⟨v,M,E⟩:=gu E;rw[Oper.semAt_eq r a.eval o (AJ I)];obtain⟨c,aI,D⟩:=acw A.rel o N I M;rw[D];exact V v h U ah c w E aI (cE.refl U A.rel)
 |iK e =>
  obtain⟨cW,M,E⟩:=gu E;rw[Oper.semAt_eq r a.eval o (AJ I)];obtain⟨cV,p,bj,Ia,Z,hm,D⟩:=acu o N I M w;obtain⟨h1,al⟩:=ML.step A.rel A.e5.here Ia Z hm;rw[D];rw[<-vy]at h1;exact V _ _ _ _ _ bj E al h1
theorem acx{n:Nat}{o:Oper}{A:aa Oper}(h:w6 n A=true)(D:o∈A):∀d,o.dst=some d->d<n:=λd E=>by have:=CP.1 h o D;rw[E]at this;simpa[wM]using this
theorem aew{L:Nat}{a8:Array Oper}{n:Nat}{r:av Nat}{Q:Exit->Act->World->Prop}{K:b8->ad->Nat->Prop}:
  ∀(E:aa Oper) (is:aa lD) (k:Nat),a8.toList.drop k=E->Me P a8.toList E=some is->∀{ah:cd} {aj:b8} {h:ad} {U:Nat} {a:Act} {w:World},nC P false is aj h U K->o2 L B ah aj h U a w ->
   w6 a.tmps.size E=true->vK L B ah h w U a.tmps.size (λx aj h U=>x = .normal/\K aj h U) Q->wpOpsIn (nA r) n P a8 Q (List.range' k E.length) a w
 | [],is,k,hk,aU,ah,aj,h,U,a,w,N,A,_,bv=>by cases aU;exact bv .normal aj h U ah a w ⟨rfl,N⟩ (cE.refl U A.rel) A rfl
 |o::E,is,k,hk,aU,ah,aj,h,U,a,w,N,A,D,bv=>by
  have hko:a8[k]? = some o:=by
   have:(a8.toList.drop k)[0]? = some o:=ab
   grind
  have tq:a8.toList.drop (k+1)=E:=by have:=congrArg (List.drop 1) hk;simpa[yK]using this
  simp only[Me,ag8,j4,mw]at aU;obtain⟨_,⟨g,a5,gF,tr,rfl⟩,M,Ib,rfl⟩:=aU;have bu:=acx D (o:=o) (by simp);have Z:w6 a.tmps.size E=true:=by simp only[w6,List.all_cons,eD]at D ⊢;exact D.2
  have step:∀{bw:cd} {V:b8} {v:av X} {c:X} {ac:ad} {Y:Nat} {bj:World},uq aj V->nC P false M (et V o.dst v) ac Y K->bE bw (r0 v) c->cE B ah (u h) w U Y bw (u ac) bj ->
    wpOpsIn (nA r) n P a8 Q (List.range' (k+1) E.length) (a.put o.dst c) bj:=λI lP aI hm=>by
   refine aew E M (k+1) tq Ib lP (o2.put ⟨A.rel,A.e5,A.iP.same I,A.marks,A.low⟩ hm aI bu) ?_ ?_
   ·rw[Act.P9];exact Z
   ·rw[Act.P9];exact bv.after hm
  rw[show(o::E).length=E.length+1 from rfl,List.range'_succ];simp only[wpOpsIn,hko];have N:lE g aj (λaj=>mh P false o.dst gF aj h U λaj h U=>nC P false M aj h U K) (λaj=>nC P false M (et aj o.dst none) h U K):=N;obtain⟨Ic,V,I,q5⟩:=afZ N;have UO:=Zp (ah:=ah) (tmps:=a.tmps) a5 Ic (λd w v _ aI=>A.iP d v aI);rcases q5 with⟨bN,N⟩|⟨bN,N⟩ <;> rw[bN]at UO
  ·simp only[UO,if_true];refine⟨λ_ _=>trivial,?_⟩;exact aqc ⟨A.rel,A.e5,A.iP.same I,A.marks,A.low⟩ tr N λv ac Y bw c bj hk aI hm=>step (v:=some v) I hk aI hm
  ·simp only[UO,nK,fc];exact⟨λ_ _=>trivial,step I N t5 (cE.refl U A.rel)⟩
end
end Go.Ax
