/- Parts of the proof: Wc1: each statement zDz its own conditions. -/
import Derived.ChangeArms
import Derived.Below
import Derived.OpenShut
import Derived.WideShapes
import Derived.Shelf.SlSortCmp.NoneTotal
import Derived.Test.YtcjochjiegiliaaGreatCm3
namespace Go.Ax
open Go
set_option linter.unusedSimpArgs false
set_option linter.unusedVariables false
section
variable {P:Program} {orc:Orc} {s:Bool}
theorem zNa {n:Int} (h0:0≤n) (h1:n<9223372036854775808):IntKind.wrap .i64 n=n:=by
 rw [← zAN];obtain ⟨m,rfl⟩:=Int.eq_ofNat_of_zero_le h0;show zGc .i64 m=_;unfold zGc limU;rw [zBJ];have:m<9223372036854775808:=by omega
 simp [this]
theorem zQz {seen:List Nat} {es:List MapEntry} {ck:Nat} (h:∀ e∈es,e.born<ck):zGV seen es ck=true:=by
 unfold zGV;cases es with
 | nil=>simp
 | cons e es =>
  have:=h e (by simp);simp [zBJ,this]
end
def zKY (P:Program) (f:FuncId) (g:List Value→Hp→Nat→CR):Prop:=∀ (args:List Value) (h:Hp) (nx:Nat) (K:Value→Hp→Nat→Prop),crSat (g args h nx) K →
 zAs P f∧∀ (B:Nat) (ρ:Rho) (w:World) (args':List Value),Rel B ρ (hget h) w→Fr ρ nx→VRL ρ args args'→∀ n,CallsIn Fence.wide n P f ⟨args'⟩ w (Fin B ρ h w nx K)
theorem zQl {P:Program}:zF8 P orc0:=fun f g h=>by cases h
section
variable {P:Program}
end
section
variable {α:Type}
def flat (enc:α→List Value):List α→List Value
 | []=>[]
 | x::l=>enc x++flat enc l
theorem zo {enc:α→List Value} {k:Nat} (hk:∀ x,(enc x).length=k):∀ l:List α,(flat enc l).length=l.length*k
 | []=>by simp [flat]
 | x::l=>by simp [flat,hk,zo hk l,Nat.succ_mul]; omega
theorem zE2 {enc:α→List Value} {k:Nat} (hk:∀ x,(enc x).length=k):∀ {l:List α} {i:Nat} {x:α},l[i]? = some x→((flat enc l).drop (i*k)).take k=enc x
 | [],i,x,h=>by simp at h
 | y::l,0,x,h=>by
  simp at h; subst h;simp [flat,← hk y]
 | y::l,i+1,x,h=>by
  have h:l[i]? = some x:=by simpa using h
  have e:(i+1)*k=(enc y).length+i*k:=by rw [hk,Nat.succ_mul]; omega
  rw [e,flat,List.drop_append,List.drop_of_length_le (by omega),List.nil_append];have:(enc y).length+i*k-(enc y).length=i*k:=by omega
  rw [this];exact zE2 hk h
theorem zNC {enc:α→List Value} {k:Nat} (hk:∀ x,(enc x).length=k) (z:α):∀ {l:List α} {i:Nat},i<l.length→lput (enc z) (flat enc l) (i*k)=some (flat enc (l.set i z)):=by
 intro l i hi;rw [zAy,if_pos (by rw [zo hk,hk]; have:=Nat.mul_le_mul_right k hi; rw [Nat.succ_mul] at this; omega)]
 congr 1
 have key:∀ (l:List α) (i:Nat),i<l.length→(flat enc l).take (i*k)++(enc z++(flat enc l).drop (i*k+k))=flat enc (l.set i z):=by
  intro l
  induction l with
  | nil=>intro i h; simp at h
  | cons y l ih =>
   intro i hi;cases i with
   | zero=>simp [flat,← hk y,List.drop_append]
   | succ i =>
    have e:(i+1)*k=(enc y).length+i*k:=by rw [hk,Nat.succ_mul]; omega
    have e2:(i+1)*k+k=(enc y).length+(i*k+k):=by rw [e]; omega
    rw [List.set_cons_succ,flat,flat,e2,e,List.take_append,List.drop_append];rw [List.take_of_length_le (by omega),List.drop_of_length_le (by omega)];have h1:(enc y).length+i*k-(enc y).length=i*k:=by omega
    have h2:(enc y).length+(i*k+k)-(enc y).length=i*k+k:=by omega
    rw [h1,h2,List.nil_append,List.append_assoc,ih i (by simpa using hi)]
 rw [hk];exact key l i hi
end
section
variable {P:Program} {orc:Orc} {α:Type}
theorem zBh (m:Nat) (h:m<1000000000):IntKind.wrap .i64 (m:Int)=(m:Int):=zNa (by omega) (by omega)
def zSr (P:Program) (orc:Orc) (fc:FuncId) (enc:α→List Value) (c:α→α→Int):Prop:=∀ (x y:α) (h:Hp) (nx:Nat),
 Cv P orc true fc [.agg ⟨enc x⟩,.agg ⟨enc y⟩] h nx (fun v h' nx'=>v = .int .i64 (c x y)∧nx≤nx'∧∀ b,b<nx→hget h' b=hget h b)
end
section
variable {P:Program} {orc:Orc} {α:Type} {s:Bool}
theorem zJK {R:α→α→Prop} (anti:∀ x y,R x y→R y x→x=y):∀ {l l':List α},l.Perm l'→l.Pairwise R→l'.Pairwise R→l=l'
 | [],l',hp,_,_=>by rw [List.nil_perm.1 hp]
 | x::l,[],hp,_,_=>by have:=hp.length_eq; simp at this
 | x::l,y::l',hp,h1,h2=>by
  have hx:∀ z∈l,R x z:=fun z hz=>List.rel_of_pairwise_cons h1 hz;have hy:∀ z∈l',R y z:=fun z hz=>List.rel_of_pairwise_cons h2 hz;have exy:x=y:=by
   have m1:x∈y::l':=hp.subset (by simp);have m2:y∈x::l:=hp.symm.subset (by simp);rcases List.mem_cons.1 m1 with e | m1
   ·exact e
   rcases List.mem_cons.1 m2 with e | m2
   ·exact e.symm
   exact anti _ _ (hx y m2) (hy x m1)
  subst exy;rw [zJK anti (List.Perm.cons_inv hp) (List.Pairwise.of_cons h1) (List.Pairwise.of_cons h2)]
end
def zO6 (ty:Nat):CF:={ res:=[.tmp 2],body:=(.seq (.regO [mC 2 (.bool false)]) (.seq (.regO [mV 3 0,mV 4 0,bT 5 .neq ty 3 4,mV 2 5]) .ret)) }
def zST (ty fn:Nat):CF:={ res:=[.tmp 4],body:=(.seq (.regO [mC 4 (.int .i64 0)]) (.seq (.regO [mV 7 0,eU 8 (.call fn [(.t 7)]),mV 5 8]) (.seq (.regO [mV 9 1,eU 10 (.call fn [(.t 9)]),mV 6 10]) (.seq (.seq (.regO [mV 11 5]) (.cond (.t 11) (.seq (.seq (.regO [mV 12 6]) (.cond (.t 12) (.seq (.regO [mC 4 (.int .i64 0)]) .ret) .skip)) (.seq (.regO [mC 4 (.int .i64 (-1))]) .ret)) .skip)) (.seq (.seq (.regO [mV 13 6]) (.cond (.t 13) (.seq (.regO [mC 4 (.int .i64 1)]) .ret) .skip)) (.seq (.seq (.regO [mV 14 0,mV 15 1,bT 16 .lss ty 14 15]) (.cond (.t 16) (.seq (.regO [mC 4 (.int .i64 (-1))]) .ret) .skip)) (.seq (.seq (.regO [mV 17 0,mV 18 1,bT 19 .gtr ty 17 18]) (.cond (.t 19) (.seq (.regO [mC 4 (.int .i64 1)]) .ret) .skip)) (.seq (.regO [mC 4 (.int .i64 0)]) .ret)))))))) }
def cfOr:CF:={ res:=[.tmp 2],body:=(.seq (.regO [mC 2 (.int .i64 0)]) (.seq (.regO [mC 3 (.int .i64 0)]) (.seq (.seq (.regO [mV 6 0,rU 7 0 (.lens (.t 6)),mC 8 (.int .i64 0)]) (.block 0 (.loop (.seq (.regO [bT 9 .lss 3 8 7]) (.seq (.cond (.t 9) .skip (.exit 0)) (.seq (.block 1 (.seq (.regO [pU 10 (.ixA (.slice 1) (.t 6) (.t 8)),lD 11 0 10,mV 5 11]) (.seq (.regO [mV 12 5,mV 13 3,bT 14 .neq 3 12 13]) (.cond (.t 14) (.seq (.regO [mV 15 5,mV 2 15]) .ret) .skip)))) (.regO [bC 16 .add 3 8 (.int .i64 1),mV 8 16]))))))) (.seq (.regO [mV 17 3,mV 2 17]) .ret)))) }
def cmpI (a b:Int):Int:=if a<b then -1 else if b<a then 1 else 0
def orI:List Int→Int
 | []=>0
 | x::l=>if x=0 then orI l else x
section
variable {P:Program} {orc:Orc} {s:Bool}
theorem nan_cv {fn ty:Nat} (hn:zK P fn=some (zO6 ty)) (hon:orc fn=none) {q:IntKind} (a:Int) {h:Hp} {nx:Nat}:Cv P orc s fn [.int q a] h nx (fun v h' nx'=>v = .bool false∧h'=h∧nx'=nx):=by
 refine Cv.enter hon hn ?_;unfold zO6 bT mC mV;refine Ev.seq (Ev.regO ?_);simp [zM,Ov_nil];refine Ev.seq (Ev.regO ?_);simp [zM,Ov_nil];exact Ev.ret (by simp)
theorem zNR {f fn ty:Nat} (hcf:zK P f=some (zST ty fn)) (ho:orc f=none) (hn:zK P fn=some (zO6 ty)) (hon:orc fn=none) {q:IntKind} (a b:Int) {h:Hp} {nx:Nat} :
  Cv P orc s f [.int q a,.int q b] h nx (fun v h' nx'=>v = .int .i64 (cmpI a b)∧h'=h∧nx'=nx):=by
 refine Cv.enter ho hcf ?_;unfold zST bT eU mC mV;refine Ev.seq (Ev.regO ?_);simp [zM,Ov_nil];refine Ev.seq (Ev.regO ?_);simp [zM];refine zBL ?_;simp;refine (nan_cv hn hon a).mono ?_;rintro v h' nx' ⟨rfl,rfl,rfl⟩;simp [zM,Ov_nil];refine Ev.seq (Ev.regO ?_);simp [zM];refine zBL ?_;simp;refine (nan_cv hn hon b).mono ?_;rintro v h2 nx2 ⟨rfl,rfl,rfl⟩;simp [zM,Ov_nil];refine Ev.seq (Ev.seq (Ev.regO ?_));simp [zM,Ov_nil];refine Ev.cond false (by simp) (by simp) fun _=>Ev.skip ?_;simp;refine Ev.seq (Ev.seq (Ev.regO ?_));simp [zM,Ov_nil];refine Ev.cond false (by simp) (by simp) fun _=>Ev.skip ?_;simp;refine Ev.seq (Ev.seq (Ev.regO ?_));simp [zM,Ov_nil];refine Ev.cond (decide (a<b)) (by simp) (fun hlt=>?_) fun hge=>Ev.skip ?_
 ·refine Ev.seq (Ev.regO ?_);simp [zM,Ov_nil];simp at hlt;exact Ev.ret (by simp [cmpI,hlt])
 ·simp at hge;simp;refine Ev.seq (Ev.seq (Ev.regO ?_));simp [zM,Ov_nil];refine Ev.cond (decide (b<a)) (by simp) (fun hlt=>?_) fun hge2=>Ev.skip ?_
  ·refine Ev.seq (Ev.regO ?_);simp [zM,Ov_nil];simp at hlt;exact Ev.ret (by simp [cmpI,hlt,show ¬ a<b by omega])
  ·simp at hge2;simp;refine Ev.seq (Ev.regO ?_);simp [zM,Ov_nil];exact Ev.ret (by simp [cmpI,show ¬ a<b by omega,show ¬ b<a by omega])
theorem or_cv {f:Nat} (hcf:zK P f=some cfOr) (ho:orc f=none) {h:Hp} {nx b cap:Nat} {sp:Option Nat} {ro:Bool} (xs:List Int) (hl:xs.length≤1000) (hh:hget h b=some (.cells (xs.map (.int .i64)) ro)) :
  Cv P orc s f [.slice (some ⟨b,0,sp⟩) xs.length cap] h nx (fun v h' nx'=>v = .int .i64 (orI xs)∧h'=h∧nx'=nx):=by
 refine Cv.enter ho hcf ?_;unfold cfOr bC bT lD mC mV pU rU;refine Ev.seq (Ev.regO ?_);simp [zM,Ov_nil];refine Ev.seq (Ev.regO ?_);simp [zM,Ov_nil];refine Ev.seq (Ev.seq (Ev.regO ?_));simp [zM,zAi,Ov_nil];refine Ev.block (Ev.loop (fun m tm h1 nx1=>∃ i:Nat,m=xs.length-i∧h1=h∧nx1=nx∧orI (xs.drop i)=orI xs∧tget tm 3 = .int .i64 0∧tget tm 6 = .slice (some ⟨b,0,sp⟩) xs.length cap∧tget tm 7 = .int .i64 (xs.length:Int)∧tget tm 8 = .int .i64 (i:Int)) ?_ xs.length _ _ _ ⟨0,rfl,rfl,rfl,rfl,by simp,by simp,by simp,by simp⟩);rintro m tm h1 nx1 ⟨i,rfl,rfl,rfl,hor,t3,t6,t7,t8⟩;refine Ev.seq (Ev.regO ?_);simp only [zM,zKN,zb,t8,t7,zHA,zc,zF,Ov_nil,zA];refine Ev.seq (Ev.cond (decide ((i:Int)<(xs.length:Int))) (by simp) (fun hlt=>Ev.skip ?_) fun hge=>Ev.exit ?_)
 ·simp only [decide_eq_true_eq,Int.ofNat_lt] at hlt;simp only [zA];have hx:xs[i]? = some xs[i]:=List.getElem?_eq_getElem hlt;have hdrop:xs.drop i=xs[i]::xs.drop (i+1):=by simp
  generalize xs[i]=x at hx hdrop;refine Ev.seq (Ev.block (Ev.seq (Ev.regO ?_)));simp only [zM,zAi,c_ixA,c_mv,c_ld,zb,tgs,t6,t8,zIV,zCq,if_pos hlt,zc,zF,zN,zB hh,zB6,Nat.zero_add,Nat.mul_one,List.getElem?_map,hx,Option.map_some,zAx,Ov_nil,zA,seval];refine Ev.seq (Ev.regO ?_);simp only [zM,c_mv,zKN,zb,tgs,t3,zIw,zc,zF,Ov_nil,zA,seval];refine Ev.cond (!(x == 0)) (by simp) (fun hne=>?_) fun he=>Ev.skip ?_
  ·refine Ev.seq (Ev.regO ?_);simp only [zM,c_mv,zb,tgs,zc,zF,Ov_nil,zA,seval];refine Ev.ret ?_;simp at hne;rw [hdrop] at hor;simp [← hor,orI,hne]
  ·simp at he;simp only [zC3,zA];refine Ev.regO ?_;simp only [zM,c_mv,zKN,zb,zFB,tgs,t8,zDy,zc,zF,Ov_nil,zA,seval];refine ⟨xs.length-(i+1),by omega,i+1,rfl,trivial,trivial,?_,by simp [t3],by simp [t6],by simp [t7],by simp; exact zBh (i+1) (by omega)⟩;rw [← hor,hdrop];simp [orI,he]
 ·simp only [decide_eq_false_iff_not,Int.ofNat_lt] at hge;simp only [zDM,zEc,↓reduceIte,zA];refine Ev.seq (Ev.regO ?_);simp only [zM,c_mv,zb,tgs,t3,zc,zF,Ov_nil,zA,seval];refine Ev.ret ?_;rw [List.drop_of_length_le (by omega)] at hor;simp [← hor,orI]
def encL (x:Int × Int):List Value:=[.int .i64 x.1,.int .i64 x.2]
def cmpL (x y:Int × Int):Int:=orI [cmpI x.1 y.1,cmpI x.2 y.2]
theorem zIq {tm:Tm} {e:CRd} {q:IntKind} {n:Int} {h:Hp} {hs:List Hp} (he:cred P tm h e = .ok (.int q n)):zAA P tm e (.int q n) 1 (h::hs)=true:=by
 unfold zAA;rw [he];show (bif zA7 (.int q n) (.ok (.int q n)) then true else false)=true;have:zA7 (.int q n) (.ok (.int q n))=true:=by
  show zEH (.int q n) (.int q n)=true;show (keq q q&&ieq n n)=true;rw [zBp,ieq_iff.2 rfl]; rfl
 rw [this]; rfl
end
section
variable {P:Program} {α:Type}
def SlAt (h:Hp) (v:Value) (enc:α→List Value) (k:Nat) (l:List α) (lo hi:Nat):Prop :=
 (l=[]∧v = .slice none 0 0)∨∃ b,lo≤b∧b<hi∧v = .slice (some ⟨b,0,some k⟩) l.length l.length∧hget h b=some (.cells (flat enc l) false)
theorem zDT {enc:α→List Value}:∀ (l:List α) (x:α),flat enc (l++[x])=flat enc l++enc x
 | [],x=>by simp [flat]
 | y::l,x=>by simp [flat,zDT l x]
theorem hgd (h:Hp) (b k:Nat):hget (hdel h b) k=if k=b then none else hget h k:=zGb h b k
theorem zBD {h:Hp} {nx s:Nat} {l:List Value} {need:Nat} (hs:0<s):zE1 h nx s l need = .ok (.val (.slice (some ⟨nx,0,some s⟩) need need) (hset h nx (.cells l false)) (nx+1)):=by
 unfold zE1;cases s with
 | zero=>omega
 | succ s=>rfl
theorem zBR {h:Hp} {b off:Nat} {sp:Option Nat} {n:Nat} {cs:List Value} {ro:Bool} {k:List Value→R OR} (hh:hget h b=some (.cells cs ro)) (hn:0<n) (hl:n≤cs.length-off):zCb h (some ⟨b,off,sp⟩) n k=k ((cs.drop off).take n):=by
 cases n with
 | zero=>omega
 | succ n =>
  show cellsOf h b (fun cs _=>R.of "read - out of block" (lcut (n+1) (zBy cs off)) k)=_;rw [zB hh,zA5,zAn,if_pos (by rw [List.length_drop]; exact hl)];rfl
theorem app_cv {enc:α→List Value} {k:Nat} (hk:∀ x,(enc x).length=k) (hcell:∀ x,zV (enc x)=true) (hk0:0<k) {h:Hp} {nx lo:Nat} {v:Value} {l:List α} (hv:SlAt h v enc k l lo nx) (hlo:lo≤nx)
  {b2 o2 cap2:Nat} {sp2:Option Nat} {cs:List Value} {ro:Bool} {x:α} (h2:hget h b2=some (.cells cs ro)) (hx:(cs.drop o2).take k=enc x) (hsz:(l.length+1)*k≤1000000) :
  ∃ v' h',zH k h nx v (.slice (some ⟨b2,o2,sp2⟩) 1 cap2) = .ok (.val v' h' (nx+1))∧SlAt h' v' enc k (l++[x]) lo (nx+1)∧(∀ b,b<lo→hget h' b=hget h b):=by
 have hlen:k≤cs.length-o2:=by
  have:=congrArg List.length hx;rw [List.length_take,List.length_drop,hk] at this;omega
 have h1:l.length+1≤1000000:=Nat.le_trans (by have:=Nat.le_mul_of_pos_right (l.length+1) hk0; omega) hsz;rcases hv with ⟨rfl,rfl⟩ | ⟨b,hb1,hb2,rfl,hb⟩
 ·refine ⟨.slice (some ⟨nx,0,some k⟩) 1 1,hset h nx (.cells (enc x) false),?_,.inr ⟨nx,hlo,by omega,rfl,by simp [flat]⟩,fun b hb=>by simp [show b≠nx by omega]⟩;unfold zH;simp only;rw [Nat.mul_eq,Nat.one_mul,zBR h2 hk0 hlen,hx];unfold zAa;have e1:Nat.ble (Nat.add 0 1) 0=false:=rfl;have e2:(Nat.ble (Nat.mul (Nat.add 0 1) k) 1000000&&Nat.ble (Nat.add 0 1) 1000000)=true:=by
   simp only [Bool.and_eq_true,Nat.ble_eq];simp at hsz;exact ⟨by show (0+1)*k≤1000000; omega,by show 0+1≤1000000; omega⟩
  rw [e1,e2];exact zBD hk0
 ·refine ⟨.slice (some ⟨nx,0,some k⟩) (l.length+1) (l.length+1),hset (hdel h b) nx (.cells (flat enc l++enc x) false),?_,.inr ⟨nx,hlo,by omega,by simp,by simp [zDT]⟩,fun c hc=>by
   rw [hgs,if_neg (by omega),hgd,if_neg (by omega)]⟩
  unfold zH;simp only;rw [Nat.mul_eq,Nat.one_mul,zBR h2 hk0 hlen,hx];unfold zAa;have e1:Nat.ble (Nat.add l.length 1) l.length=false:=by
   cases hbl:Nat.ble (Nat.add l.length 1) l.length with
   | false=>rfl
   | true=>have:=Nat.le_of_ble_eq_true hbl; have:l.length+1≤l.length:=this; omega
  have e2:(Nat.ble (Nat.mul (Nat.add l.length 1) k) 1000000&&Nat.ble (Nat.add l.length 1) 1000000)=true:=by
   simp only [Bool.and_eq_true,Nat.ble_eq];exact ⟨hsz,h1⟩
  rw [e1,e2];show zEB h nx k (some ⟨b,0,some k⟩) l.length l.length (l.length+1) (enc x)=_;unfold zEB;simp only [zB hb];have hcut:lcut (Nat.mul l.length k) (zBy (flat enc l) 0)=some (flat enc l):=by
   rw [zA5,List.drop_zero,zAn,if_pos (by rw [zo hk]; exact Nat.le_refl _)];rw [List.take_of_length_le (by rw [zo hk]; exact Nat.le_refl _)]
  rw [hcut];have e3:(!false&&Nat.beq 0 0&&Nat.beq (llen (flat enc l)) (Nat.mul l.length k)&&Nat.beq k k&&Nat.beq l.length l.length&&zV (enc x))=true:=by
   rw [zy,zo hk,hcell];simp
  show (bif _ then _ else _)=_;rw [e3,zm];exact zBD hk0
end
section
variable {P:Program} {orc:Orc} {s:Bool}
def pick (key:MapEntry→Int × Int) (len:MapEntry→Nat) (l:List MapEntry):List (Int × Int):=(l.filter (fun e=>decide (0<len e))).map key
end
theorem zL6 {a b:Int}:cmpI a b<0↔a<b:=by
 unfold cmpI
 by_cases h:a<b
 ·simp [h]
 ·by_cases h2:b<a <;> simp [h,h2]
theorem cmpI_zero {a b:Int}:cmpI a b=0↔a=b:=by
 unfold cmpI
 by_cases h:a<b
 ·simp [h]; omega
 ·by_cases h2:b<a
  ·simp [h,h2]; omega
  ·simp [h,h2]; omega
theorem cmpL_lt {x y:Int × Int}:cmpL x y<0↔x.1<y.1∨(x.1=y.1∧x.2<y.2):=by
 unfold cmpL orI orI orI
 by_cases h:cmpI x.1 y.1=0
 ·rw [if_pos h];rw [cmpI_zero] at h
  by_cases h2:cmpI x.2 y.2=0
  ·rw [if_pos h2];rw [cmpI_zero] at h2;omega
  ·rw [if_neg h2,zL6]; omega
 ·rw [if_neg h,zL6];have:¬ x.1=y.1:=fun e=>h (cmpI_zero.2 e);omega
section
variable {α:Type}
def insB (lt:α→α→Bool) (x:α):List α→List α
 | []=>[x]
 | y::l=>bif lt x y then x::y::l else y::insB lt x l
def zCY (lt:α→α→Bool):List α→List α
 | []=>[]
 | x::l=>insB lt x (zCY lt l)
def zHM (lt:α→α→Bool) (x:α):List α→Bool
 | []=>true
 | y::l=>bif lt y x then false else zHM lt x l
def zBH (lt:α→α→Bool):List α→Bool
 | []=>true
 | x::l=>bif zHM lt x l then zBH lt l else false
theorem zJk {lt:α→α→Bool} {x:α}:∀ (l:List α),(insB lt x l).Perm (x::l)
 | []=>List.Perm.refl _
 | y::l=>by
  unfold insB;cases lt x y with
  | true=>exact List.Perm.refl _
  | false=>exact ((zJk l).cons y).trans (List.Perm.swap ..)
theorem zCF {lt:α→α→Bool}:∀ (l:List α),(zCY lt l).Perm l
 | []=>List.Perm.refl _
 | x::l=>(zJk _).trans ((zCF l).cons x)
theorem noneB_ok {lt:α→α→Bool} {x:α}:∀ {l:List α},zHM lt x l=true→∀ y∈l,lt y x=false
 | [],_,y,h=>by cases h
 | z::l,h,y,hy=>by
  unfold zHM at h;cases hz:lt z x with
  | true=>rw [hz] at h; cases h
  | false =>
   rw [hz] at h;rcases List.mem_cons.1 hy with rfl | hy
   ·exact hz
   ·exact noneB_ok h y hy
theorem zHT {lt:α→α→Bool}:∀ {l:List α},zBH lt l=true→l.Pairwise (fun x y=>lt y x=false)
 | [],_=>List.Pairwise.nil
 | x::l,h=>by
  unfold zBH at h;cases hn:zHM lt x l with
  | false=>rw [hn] at h; cases h
  | true =>
   rw [hn] at h;exact List.Pairwise.cons (noneB_ok hn) (zHT h)
end
def lenOf (h:Hp) (e:MapEntry):Option Nat:=match e.val with
 | .pointer (some a)=>(match hget h a.block with
  | some (.cells cs _)=>(match lget cs (a.off+1) with
   | some (.slice _ n _)=>some n
   | _=>none)
  | _=>none)
 | _=>none
theorem zDI {α:Type} {enc:α→List Value} (he:∀ x,plainL (enc x)=true):∀ l:List α,plainL (flat enc l)=true
 | []=>rfl
 | x::l=>by
  have app:∀ a b:List Value,plainL a=true→plainL b=true→plainL (a++b)=true:=by
   intro a
   induction a with
   | nil=>intro b _ h; exact h
   | cons y a ih =>
    intro b h k;have h:(zBF y&&plainL a)=true:=h;simp only [Bool.and_eq_true] at h;show (zBF y&&plainL (a++b))=true;rw [h.1,ih b h.2 k]; rfl
  exact app _ _ (he x) (zDI he l)
section
variable {P:Program}
theorem zJL (n k:Nat) (ρ ρ':Rho) (nx b:Nat) (p:Place) (c:Value) (hp:ρ' b=some p) (hq:ρ nx=some p) (h:VR ρ' (.slice (some ⟨b,0,some k⟩) n n) c):VR ρ (.slice (some ⟨nx,0,some k⟩) n n) c:=by
 cases h with
 | sliceG h' hs _ _=>rw [hp] at h'; cases h'; exact .sliceG hq hs _ _
 | sliceZ _ _ g o' c'=>exact .sliceZ _ _ _ _ _
end
abbrev Edg:=Int × Int × Int
def encE (x:Edg):List Value:=[.int .i64 x.1,.int .i64 x.2.1,.int .i64 x.2.2]
def zA6 (e:Edg):List Edg→List Edg
 | []=>[e]
 | x::l=>bif ieq x.1 e.1&&ieq x.2.1 e.2.1 then (x.1,x.2.1,bif iblt e.2.2 x.2.2 then e.2.2 else x.2.2)::l else x::zA6 e l
def zq (acc:List Edg):List Edg→List Edg
 | []=>acc
 | e::l=>zq (zA6 e acc) l
def ltE (x y:Edg):Bool:=iblt x.1 y.1||(ieq x.1 y.1&&(iblt x.2.1 y.2.1||(ieq x.2.1 y.2.1&&iblt x.2.2 y.2.2)))
def zO5 (f1 f2 fo:Nat):CF:={ res:=[.tmp 4],body:=(.seq (.regO [aU 2 (.box (.t 0)),aU 3 (.box (.t 1)),mC 4 (.int .i64 0)]) (.seq (.regD [pU 5 (.fldA 0 (.t 2)),lD 6 0 5,pU 7 (.fldA 0 (.t 3)),lD 8 0 7,eU 9 (.call f1 [(.t 6),(.t 8)]),⟨none,(some 10),1,.pur (.fldA 1 (.t 2))⟩,lD 11 1 10,⟨none,(some 12),1,.pur (.fldA 1 (.t 3))⟩,lD 13 1 12,eU 14 (.call f2 [(.t 11),(.t 13)]),aU 15 (.bsl 2 [(.int .i64 0),(.int .i64 0)] [(0,1,(.t 9)),(1,1,(.t 14))]),eU 16 (.call fo [(.t 15)]),mV 4 16]) .ret)) }
def zLb (fe fc fo:Nat):CF:={ res:=[.tmp 4],body:=(.seq (.regO [aU 2 (.box (.t 0)),aU 3 (.box (.t 1)),mC 4 (.int .i64 0)]) (.seq (.regD [rU 5 0 (.ld (some 3) (.t 2)),rU 6 0 (.ld (some 3) (.t 3)),eU 7 (.call fe [(.t 5),(.t 6)]),⟨none,(some 8),1,.pur (.fldA 2 (.t 2))⟩,lD 9 1 8,⟨none,(some 10),1,.pur (.fldA 2 (.t 3))⟩,lD 11 1 10,eU 12 (.call fc [(.t 9),(.t 11)]),aU 13 (.bsl 2 [(.int .i64 0),(.int .i64 0)] [(0,1,(.t 7)),(1,1,(.t 12))]),eU 14 (.call fo [(.t 13)]),mV 4 14]) .ret)) }
section
variable {P:Program} {orc:Orc}
def zF0 (P:Program) (orc:Orc) (q:IntKind) (f:FuncId):Prop:=∀ (s:Bool) (a b:Int) (h:Hp) (nx:Nat),Cv P orc s f [.int q a,.int q b] h nx (fun v h' nx'=>v = .int .i64 (cmpI a b)∧h'=h∧nx'=nx)
theorem zPW {s:Bool} {f f1 f2 fo:Nat} (hcf:zK P f=some (zO5 f1 f2 fo)) (ho:orc f=none) {q1 q2:IntKind} (h1:zF0 P orc q1 f1) (h2:zF0 P orc q2 f2) (hor:zK P fo=some cfOr) (hoo:orc fo=none)
  {l m:List Value} {a b c d:Int} (hl:zV l=true) (hm:zV m=true) (l0:l[0]? = some (.int q1 a)) (m0:m[0]? = some (.int q1 b)) (l1:l[1]? = some (.int q2 c)) (m1:m[1]? = some (.int q2 d)) {h:Hp} {nx:Nat} :
  Cv P orc s f [.agg ⟨l⟩,.agg ⟨m⟩] h nx (fun v h' nx'=>v = .int .i64 (orI [cmpI a b,cmpI c d])∧nx≤nx'∧∀ b,b<nx→hget h' b=hget h b):=by
 refine Cv.enter ho hcf ?_;unfold zO5 aU eU lD mC mV pU;refine Ev.seq (Ev.regO ?_);simp [zM,zBQ,Ov_nil,calq,zC,zA3,hl,hm,nbV,nbO];refine Ev.seq (Ev.regD ?_);have g1:∀ hp:Hp,hget (hset (hset hp nx (.cells l false)) (nx+1) (.cells m false)) nx=some (.cells l false):=fun hp=>by simp
 have g2:∀ hp:Hp,hget (hset hp (nx+1) (.cells m false)) (nx+1)=some (.cells m false):=fun hp=>by simp
 simp [zCx,zHI,Dv_nil,zB (g1 _),zB (g2 _),zAA,l0,m0];refine zCy ?_;simp;refine (h1 true a b _ _).mono ?_;rintro v h' nx' ⟨rfl,rfl,rfl⟩;refine ⟨Nat.le_refl _,?_⟩;simp [zCx,zHI,Dv_nil,zB (g1 _),zB (g2 _),l1,m1];refine ⟨zIq (by simp [zB (g1 _),l1]),zIq (by simp [zB (g2 _),m1]),?_⟩;refine zCy ?_;simp;refine (h2 true c d _ _).mono ?_;rintro v h2 nx2 ⟨rfl,rfl,rfl⟩;refine ⟨Nat.le_refl _,?_⟩;simp [zCx,zN8,Dv_nil,calq,zAG,zAH,zC,lput,zI0,zD0,zD3,zDj,zEs,llen,zI1,zAK,zV,zA9,nbV,nbO];refine zCy ?_;simp;refine (or_cv hor hoo (sp:=none) (ro:=false) [cmpI a b,cmpI c d] (by simp) (by simp)).mono ?_;rintro v h3 nx3 ⟨rfl,rfl,rfl⟩;refine ⟨Nat.le_refl _,?_⟩;simp [zCx,Dv_nil];refine Ev.ret ?_;simp;refine ⟨by omega,fun b hb=>?_⟩;simp [show b≠nx by omega,show b≠nx+1 by omega,show b≠nx+2 by omega]
def cmpE (x y:Edg):Int:=orI [orI [cmpI x.1 y.1,cmpI x.2.1 y.2.1],cmpI x.2.2 y.2.2]
theorem order_ok {f fe fc1 fc2 fo:Nat} (hcf:zK P f=some (zLb fe fc2 fo)) (ho:orc f=none) (hce:zK P fe=some (zO5 fc1 fc1 fo)) (hoe:orc fe=none) (h1:zF0 P orc .i64 fc1) (h2:zF0 P orc .i64 fc2)
  (hor:zK P fo=some cfOr) (hoo:orc fo=none):zSr P orc f encE cmpE:=by
 intro x y h nx;refine Cv.enter ho hcf ?_;unfold zLb aU eU lD mC mV rU;have hx:zV (encE x)=true:=rfl;have hy:zV (encE y)=true:=rfl;refine Ev.seq (Ev.regO ?_);simp [zM,zBQ,Ov_nil,calq,zC,zA3,hx,hy,nbV,nbO];refine Ev.seq (Ev.regD ?_);have g1:∀ hp:Hp,hget (hset (hset hp nx (.cells (encE x) false)) (nx+1) (.cells (encE y) false)) nx=some (.cells (encE x) false):=fun hp=>by simp
 have g2:∀ hp:Hp,hget (hset hp (nx+1) (.cells (encE y) false)) (nx+1)=some (.cells (encE y) false):=fun hp=>by simp
 have ld:∀ z:Edg,zAL (some 3) 0 (encE z) = .ok (.agg ⟨encE z⟩):=fun z=>by simp [encE]
 simp only [zHI,c_ld,zb,tgs,zN,zB (g1 _),zB (g2 _),ld,zc,zAA,true_and,zF,seval];refine zCy ?_;simp only [zA2,zAr,zb,tgs,seval];refine (zPW (s:=true) hce hoe h1 h1 hor hoo (l:=encE x) (m:=encE y) (a:=x.1) (b:=y.1) (c:=x.2.1) (d:=y.2.1) rfl rfl rfl rfl rfl rfl).mono ?_;rintro v h' nx' ⟨rfl,hnx',hfr⟩;refine ⟨hnx',?_⟩;have k1:hget h' nx=some (.cells (encE x) false):=by rw [hfr _ (by omega)]; exact g1 h
 have k2:hget h' (nx+1)=some (.cells (encE y) false):=by rw [hfr _ (by omega)]; exact g2 _
 have w:∀ z:Edg,(encE z)[2]? = some (.int .i64 z.2.2):=fun z=>rfl;simp [zCx,zHI,Dv_nil,zB k1,zB k2,w];refine ⟨zIq (by simp [zB (g1 _),w]),zIq (by simp [zB (g2 _),w]),?_⟩;refine zCy ?_;simp;refine (h2 true x.2.2 y.2.2 _ _).mono ?_;rintro v h2 nx2 ⟨rfl,rfl,rfl⟩;refine ⟨Nat.le_refl _,?_⟩;simp [zCx,zN8,Dv_nil,calq,zAG,zAH,zC,lput,zI0,zD0,zD3,zDj,zEs,llen,zI1,zAK,zV,zA9,nbV,nbO];refine zCy ?_;simp;refine (or_cv hor hoo (sp:=none) (ro:=false) [orI [cmpI x.1 y.1,cmpI x.2.1 y.2.1],cmpI x.2.2 y.2.2] (by simp) (by simp)).mono ?_;rintro v h3 nx3 ⟨rfl,rfl,rfl⟩;refine ⟨by omega,?_⟩;simp [zCx,Dv_nil];refine Ev.ret ?_;simp [cmpE];refine ⟨by omega,fun b hb=>?_⟩;rw [if_neg (by omega),hfr b (by omega)];simp [show b≠nx by omega,show b≠nx+1 by omega]
theorem zGs {x y:Edg}:cmpE x y<0↔x.1<y.1∨(x.1=y.1∧(x.2.1<y.2.1∨(x.2.1=y.2.1∧x.2.2<y.2.2))):=by
 have h0:cmpL (x.1,x.2.1) (y.1,y.2.1)=orI [cmpI x.1 y.1,cmpI x.2.1 y.2.1]:=rfl;have hz:orI [cmpI x.1 y.1,cmpI x.2.1 y.2.1]=0↔x.1=y.1∧x.2.1=y.2.1:=by
  unfold orI orI orI
  by_cases h:cmpI x.1 y.1=0
  ·rw [if_pos h];rw [cmpI_zero] at h
   by_cases h2:cmpI x.2.1 y.2.1=0
   ·rw [if_pos h2]; rw [cmpI_zero] at h2; simp [h,h2]
   ·rw [if_neg h2,cmpI_zero]; simp [h]
  ·rw [if_neg h,cmpI_zero];have:¬ x.1=y.1:=fun e=>h (cmpI_zero.2 e);simp [this]
 have hlt:=@cmpL_lt (x.1,x.2.1) (y.1,y.2.1);rw [h0] at hlt;simp only at hlt;show orI (orI [cmpI x.1 y.1,cmpI x.2.1 y.2.1]::[cmpI x.2.2 y.2.2])<0↔_;generalize orI [cmpI x.1 y.1,cmpI x.2.1 y.2.1]=z at *
 unfold orI orI orI
 by_cases h:z=0
 ·rw [if_pos h];have hh:=hz.1 h
  by_cases h2:cmpI x.2.2 y.2.2=0
  ·rw [if_pos h2];rw [cmpI_zero] at h2;omega
  ·rw [if_neg h2,zL6]; omega
 ·rw [if_neg h,hlt];have:¬ (x.1=y.1∧x.2.1=y.2.1):=fun e=>h (hz.2 e);omega
theorem zSJ (x y z:Edg) (h1:¬ cmpE y x<0) (h2:¬ cmpE z y<0):¬ cmpE z x<0:=by
 rw [zGs] at *; omega
theorem zSK (x y:Edg) (h:cmpE x y<0):¬ cmpE y x<0:=by
 rw [zGs] at *; omega
theorem zSL (x y:Edg) (h1:¬ cmpE y x<0) (h2:¬ cmpE x y<0):x=y:=by
 rw [zGs] at *
 obtain ⟨a,b,c⟩:=x;obtain ⟨d,e,f⟩:=y;simp only at h1 h2;have e1:a=d:=by omega
 have e2:b=e:=by omega
 have e3:c=f:=by omega
 rw [e1,e2,e3]
theorem ltE_eq {x y:Edg}:ltE x y=false↔¬ cmpE x y<0:=by
 rw [zGs];unfold ltE;rw [zAD,zAD,zAD,zAB,zAB];simp
end
def zD (n:Nat):List Value:=[.int .i64 0,.int .u64 (n:Int)]
def cfOf (tw:Nat):CF:={ res:=[.cell 2 tw],body:=(.seq (.regO [aU 2 (.new [(.int .i64 0),(.int .u64 0)])]) (.seq (.regO [mV 3 0,bC 4 .shr 2 3 (.int .u64 63),mV 5 0,pU 6 (.conv (.int .u64) (.t 5)),pU 7 (.build [(.int .i64 0),(.int .u64 0)] [(0,1,(.t 4)),(1,1,(.t 6))]),eN (.st 2 (.t 2) (.t 7))]) .ret)) }
def zDV (fw tw:Nat):CF:={ res:=[.cell 4 tw],body:=(.seq (.regO [aU 2 (.box (.t 0)),aU 3 (.box (.t 1)),aU 4 (.new [(.int .i64 0),(.int .u64 0)])]) (.seq (.seq (.regO [rU 5 0 (.ld (some 2) (.t 2)),rU 6 0 (.ld (some 2) (.t 3)),eU 7 (.call fw [(.t 5),(.t 6)]),bC 8 .leq 3 7 (.int .i64 0)]) (.cond (.t 8) (.seq (.regO [rU 9 0 (.ld (some 2) (.t 2)),eN (.st 2 (.t 4) (.t 9))]) .ret) .skip)) (.seq (.regO [rU 10 0 (.ld (some 2) (.t 3)),eN (.st 2 (.t 4) (.t 10))]) .ret))) }
section
variable {P:Program} {orc:Orc} {s:Bool}
def zD7 (P:Program) (tw:Nat):Prop:=zHC P tw=some (some 2)
@[simp] theorem zEg (tm:Tm) (h:Hp) (a t:Nat) (rs:List ResultVar):zAj P tm h (.cell a t::rs)=R.bind (zAd (tget tm a) (fun a=>zEu P h t a)) (fun v=>R.bind (zAj P tm h rs) (fun vs=>.ok (v::vs))):=rfl
theorem zDP {tw:Nat} (hw:zD7 P tw) {h:Hp} {b:Nat} {n:Nat} (hh:hget h b=some (.cells (zD n) false)):zEu P h tw ⟨b,0,none⟩ = .ok (.agg ⟨zD n⟩):=by
 unfold zEu;rw [hw];simp only [zBx,zB hh];simp [zD]
theorem zCf {h:Hp} {b n m:Nat} (hh:hget h b=some (.cells (zD m) false)):cSt h 2 (zC (.agg ⟨zD n⟩)) ⟨b,0,none⟩ = .ok (hset h b (.cells (zD n) false)):=by
 unfold cSt zBO;simp only [zB hh,zAy,zy];simp [zD,zC,zV,zA9]
theorem wrapNB (m:Nat) (h:m<4294967296):IntKind.wrap .i64 (m:Int)=(m:Int):=zNa (by omega) (by omega)
theorem wrapUN (n:Nat) (h:n<4294967296):IntKind.wrap .u64 (n:Int)=(n:Int):=by
 rw [← zAN];show zGc .u64 n=_;unfold zGc limU;rw [zBJ];simp [show n<18446744073709551616 by omega]
theorem shr63 (t n:Nat) (h:n<4294967296):bin P .shr t (.int .i64 (n:Int)) (.int .u64 63) = .ok (.int .i64 0):=by
 show zCN .shr .i64 (n:Int) 63=_;unfold zCN;show (bif iblt 63 0 then _ else _)=_;rw [show iblt 63 0=false from rfl];show rInt .i64 ((n:Int).fdiv (2 ^ (min (63:Int).toNat IntKind.i64.bits)))=_;have:(2:Int) ^ (min (63:Int).toNat IntKind.i64.bits)=9223372036854775808:=by decide
 rw [this];have:(n:Int).fdiv 9223372036854775808=0:=by
  rw [Int.fdiv_eq_ediv_of_nonneg _ (by omega)];omega
 rw [this]; rfl
theorem of_cv {f tw:Nat} (hcf:zK P f=some (cfOf tw)) (ho:orc f=none) (hw:zD7 P tw) {n:Nat} (hn:n<4294967296) {h:Hp} {nx:Nat} :
  Cv P orc s f [.int .i64 (n:Int)] h nx (fun v h' nx'=>v = .agg ⟨zD n⟩∧nx≤nx'∧∀ b,b<nx→hget h' b=hget h b):=by
 refine Cv.enter ho hcf ?_;unfold cfOf aU bC eN mV pU;refine Ev.seq (Ev.regO ?_);simp [zBQ,Ov_nil,calq,nbV,nbO];refine Ev.seq (Ev.regO ?_);have hb:∀ tm,cpur P (tset (tset tm 4 (.int .i64 0)) 6 (.int .u64 (n:Int))) (.build [(.int .i64 0),(.int .u64 0)] [(0,1,(.t 4)),(1,1,(.t 6))]) = .ok (.agg ⟨zD n⟩):=fun tm=>by
  simp [cpur,zAG,zAH,zC,lput,zI0,zD0,zD3,zDj,zEs,llen,zI1,zD]
 have hb2:∀ tm x,cpur P (tset (tset (tset tm 4 (.int .i64 0)) 5 x) 6 (.int .u64 (n:Int))) (.build [(.int .i64 0),(.int .u64 0)] [(0,1,(.t 4)),(1,1,(.t 6))]) = .ok (.agg ⟨zD n⟩):=fun tm x=>by
  simp [cpur,zAG,zAH,zC,lput,zI0,zD0,zD3,zDj,zEs,llen,zI1,zD]
 simp [zM,Ov_nil,shr63 _ _ hn,wrapUN n hn,hb2];rw [zFH];simp only [zb,tgs,zN,seval];rw [zCf (m:=0) (by simp [zD])];simp [Ov_nil];refine Ev.ret ?_;simp;rw [zDP hw (n:=n) (by simp)];simp;exact fun b hb=>by simp [show b≠nx by omega]
def zFG (P:Program) (orc:Orc) (f:FuncId):Prop:=∀ (s:Bool) (m n:Nat) (h:Hp) (nx:Nat),Cv P orc s f [.agg ⟨zD m⟩,.agg ⟨zD n⟩] h nx (fun v h' nx'=>v = .int .i64 (cmpI m n)∧nx≤nx'∧∀ b,b<nx→hget h' b=hget h b)
theorem zNe {f f1 f2 fo:Nat} (hcf:zK P f=some (zO5 f1 f2 fo)) (ho:orc f=none) (h1:zF0 P orc .i64 f1) (h2:zF0 P orc .u64 f2) (hor:zK P fo=some cfOr) (hoo:orc fo=none):zFG P orc f:=by
 intro s m n h nx;refine (zPW hcf ho h1 h2 hor hoo (l:=zD m) (m:=zD n) (a:=0) (b:=0) (c:=m) (d:=n) rfl rfl rfl rfl rfl rfl).mono ?_;rintro v h' nx' ⟨rfl,hr⟩;refine ⟨?_,hr⟩;have:cmpI 0 0=0:=rfl;simp only [orI,this,↓reduceIte]
 by_cases hz:cmpI (m:Int) (n:Int)=0 <;> simp [hz]
theorem zRJ {f fw tw:Nat} (hcf:zK P f=some (zDV fw tw)) (ho:orc f=none) (hw:zD7 P tw) (hc:zFG P orc fw) {m n:Nat} {h:Hp} {nx:Nat} :
  Cv P orc s f [.agg ⟨zD m⟩,.agg ⟨zD n⟩] h nx (fun v h' nx'=>v = .agg ⟨zD (if n<m then n else m)⟩∧nx≤nx'∧∀ b,b<nx→hget h' b=hget h b):=by
 refine Cv.enter ho hcf ?_;unfold zDV aU bC eN eU rU;have hm:zV (zD m)=true:=rfl;have hn:zV (zD n)=true:=rfl;have ld:∀ z:Nat,zAL (some 2) 0 (zD z) = .ok (.agg ⟨zD z⟩):=fun z=>by simp [zD]
 refine Ev.seq (Ev.regO ?_);simp [zM,zBQ,Ov_nil,calq,zC,zA3,hm,hn,nbV,nbO];have g1:hget (hset (hset (hset h nx (.cells (zD m) false)) (nx+1) (.cells (zD n) false)) (nx+1+1) (.cells [(.int .i64 0),(.int .u64 0)] false)) nx=some (.cells (zD m) false):=by simp [show ¬ nx=nx+1+1 by omega]
 have g2:hget (hset (hset (hset h nx (.cells (zD m) false)) (nx+1) (.cells (zD n) false)) (nx+1+1) (.cells [(.int .i64 0),(.int .u64 0)] false)) (nx+1)=some (.cells (zD n) false):=by simp
 have g3:hget (hset (hset (hset h nx (.cells (zD m) false)) (nx+1) (.cells (zD n) false)) (nx+1+1) (.cells [(.int .i64 0),(.int .u64 0)] false)) (nx+1+1)=some (.cells (zD 0) false):=by simp [zD]
 have g4:∀ b,b<nx→hget (hset (hset (hset h nx (.cells (zD m) false)) (nx+1) (.cells (zD n) false)) (nx+1+1) (.cells [(.int .i64 0),(.int .u64 0)] false)) b=hget h b:=fun b hb=>by simp [show b≠nx by omega,show b≠nx+1 by omega,show b≠nx+1+1 by omega]
 generalize hset (hset (hset h nx (.cells (zD m) false)) (nx+1) (.cells (zD n) false)) (nx+1+1) (.cells [(.int .i64 0),(.int .u64 0)] false)=h1 at *
 refine Ev.seq (Ev.seq (Ev.regO ?_));simp only [zAi,c_ld,zb,tgs,zN,zB g1,zB g2,ld,zc,zF,seval];refine zBL ?_;simp only [zA2,zAr,zb,tgs,seval];refine (hc s m n _ _).mono ?_;rintro v h' nx' ⟨rfl,hnx',hfr⟩;have k1:hget h' nx=some (.cells (zD m) false):=by rw [hfr _ (by omega)]; exact g1
 have k2:hget h' (nx+1)=some (.cells (zD n) false):=by rw [hfr _ (by omega)]; exact g2
 have k3:hget h' (nx+1+1)=some (.cells (zD 0) false):=by rw [hfr _ (by omega)]; exact g3
 have k4:∀ b,b<nx→hget h' b=hget h b:=fun b hb=>by rw [hfr b (by omega)]; exact g4 b hb
 simp only [zM,zKN,zb,zFB,tgs,zIx,zc,zF,Ov_nil,zA,seval];have hcmp:(!decide ((0:Int)<cmpI (m:Int) (n:Int)))=decide (m≤n):=by
  unfold cmpI
  by_cases h1:(m:Int)<n
  ·simp [h1]; omega
  ·by_cases h2:(n:Int)<m
   ·simp [h1,h2]; omega
   ·simp [h1,h2]; omega
 rw [hcmp];refine Ev.cond (decide (m≤n)) (by simp) (fun hle=>?_) fun hgt=>Ev.skip ?_
 ·simp only [decide_eq_true_eq] at hle;refine Ev.seq (Ev.regO ?_);simp only [zAi,c_ld,zb,tgs,zN,zB k1,ld,zc,zF,zFH,zCf k3,zAR,Ov_nil,zA,seval];refine Ev.ret ?_;show RK (zAj P _ _ [.cell 4 tw]) _;simp only [zEg,zBE,tgs,zN,zDP hw (n:=m) (b:=nx+1+1) (h:=hset h' (nx+1+1) (.cells (zD m) false)) (by simp),bind_ok,zc,zFd,seval];refine ⟨by rw [if_neg (by omega)],by omega,fun b hb=>?_⟩;simp [show b≠nx+1+1 by omega,k4 b hb]
 ·simp only [decide_eq_false_iff_not] at hgt
  try simp only [zA]
  refine Ev.seq (Ev.regO ?_);simp only [zAi,c_ld,zb,tgs,zN,zB k2,ld,zc,zF,zFH,zCf k3,zAR,Ov_nil,zA,seval];refine Ev.ret ?_;show RK (zAj P _ _ [.cell 4 tw]) _;simp only [zEg,zBE,tgs,zN,zDP hw (n:=n) (b:=nx+1+1) (h:=hset h' (nx+1+1) (.cells (zD n) false)) (by simp),bind_ok,zc,zFd,seval];refine ⟨by rw [if_pos (by omega)],by omega,fun b hb=>?_⟩;simp [show b≠nx+1+1 by omega,k4 b hb]
end
def cfIs (tr:Nat):CF:={ res:=[.tmp 2],body:=(.seq (.regO [mC 2 (.bool false)]) (.seq (.regO [mV 3 0,bC 4 .gtr tr 3 (.int .i64 0),mV 5 4,⟨(some (5,true)),(some 6),0,.pur (.mv (.t 0))⟩,⟨(some (5,true)),(some 7),0,.pur (.bin .lss 3 (.t 6) (.v (.int .i64 6)))⟩,pU 8 (.pick (.t 5) (.t 7) (.v (.bool false))),mV 2 8]) .ret)) }
def zSU (fl tr tw:Nat) (R1 R2 R3:CC):CF:={ res:=[.cell 6 tw],body:=(.seq (.regO [aU 4 (.box (.t 1)),aU 5 (.box (.t 2)),aU 6 (.new [(.int .i64 0),(.int .u64 0)])]) (.seq (.seq (.regO [mV 7 0]) (.block 0 (.seq (.seq (.regO [bC 9 .eql tr 7 (.int .i64 1),mV 8 9]) (.cond (.t 8) .skip R1)) (.cond (.t 8) (.seq (.regO [rU 12 0 (.ld (some 2) (.t 4)),rU 13 0 (.ld (some 2) (.t 5)),eU 14 (.call fl [(.t 12),(.t 13)]),eN (.st 2 (.t 6) (.t 14))]) .ret) R2)))) R3)) }
def zE8 (fn:Nat):CF:={ res:=[.tmp 4,.tmp 5],body:=(.seq (.regO [aU 3 (.box (.t 1)),mC 4 (.int .i64 0),mC 5 (.bool false)]) (.seq (.regO [rU 6 0 (.ld (some 2) (.t 3)),eU 7 (.call fn [(.t 6)]),pU 8 (.ext (.t 7) 0),pU 9 (.ext (.t 7) 1),mV 4 8,mV 5 9]) .ret)) }
def zCT (fo tw:Nat):CF:={ res:=[.tmp 2,.tmp 3],body:=(.seq (.regO [aU 1 (.box (.t 0)),mC 2 (.int .i64 0),mC 3 (.bool false)]) (.seq (.regO [pU 5 (.fldA 1 (.t 1)),lD 6 0 5,pU 7 (.conv (.int .i64) (.t 6)),mV 4 7]) (.seq (.seq (.regD [mV 8 4,eU 9 (.call fo [(.t 8)]),rU 10 1 (.ld (some 2) (.t 1)),bT 11 .neq tw 9 10]) (.cond (.t 11) (.seq (.regO [mC 2 (.int .i64 0),mC 3 (.bool false)]) .ret) .skip)) (.seq (.regO [mV 12 4,mV 2 12,mC 3 (.bool true)]) .ret)))) }
section
variable {P:Program} {orc:Orc} {s:Bool}
theorem is_cv {f tr:Nat} (hcf:zK P f=some (cfIs tr)) (ho:orc f=none) {h:Hp} {nx:Nat}:Cv P orc s f [.int .i64 1] h nx (fun v h' nx'=>v = .bool true∧h'=h∧nx'=nx):=by
 refine Cv.enter ho hcf ?_;unfold cfIs bC mC mV pU;refine Ev.seq (Ev.regO ?_);simp [zM,Ov_nil];refine Ev.seq (Ev.regO ?_);simp [zM,Ov_g,Ov_nil,zp];exact Ev.ret (by simp)
theorem zDn (z:Nat):zAL (some 2) 0 (zD z) = .ok (.agg ⟨zD z⟩):=by simp [zD]
theorem add_cv {f fl fw tr tw:Nat} {R1 R2 R3:CC} (hcf:zK P f=some (zSU fl tr tw R1 R2 R3)) (ho:orc f=none) (hl:zK P fl=some (zDV fw tw)) (hol:orc fl=none) (hw:zD7 P tw) (hc:zFG P orc fw) {m n:Nat} {h:Hp} {nx:Nat} :
  Cv P orc s f [.int .i64 1,.agg ⟨zD m⟩,.agg ⟨zD n⟩] h nx (fun v h' nx'=>v = .agg ⟨zD (if n<m then n else m)⟩∧nx≤nx'∧∀ b,b<nx→hget h' b=hget h b):=by
 refine Cv.enter ho hcf ?_;unfold zSU aU bC eN eU mV rU;have hm:zV (zD m)=true:=rfl;have hn:zV (zD n)=true:=rfl;refine Ev.seq (Ev.regO ?_);simp [zM,zBQ,Ov_nil,calq,zC,zA3,hm,hn,nbV,nbO];have g1:hget (hset (hset (hset h nx (.cells (zD m) false)) (nx+1) (.cells (zD n) false)) (nx+1+1) (.cells [(.int .i64 0),(.int .u64 0)] false)) nx=some (.cells (zD m) false):=by simp [show ¬ nx=nx+1+1 by omega]
 have g2:hget (hset (hset (hset h nx (.cells (zD m) false)) (nx+1) (.cells (zD n) false)) (nx+1+1) (.cells [(.int .i64 0),(.int .u64 0)] false)) (nx+1)=some (.cells (zD n) false):=by simp
 have g3:hget (hset (hset (hset h nx (.cells (zD m) false)) (nx+1) (.cells (zD n) false)) (nx+1+1) (.cells [(.int .i64 0),(.int .u64 0)] false)) (nx+1+1)=some (.cells (zD 0) false):=by simp [zD]
 have g4:∀ b,b<nx→hget (hset (hset (hset h nx (.cells (zD m) false)) (nx+1) (.cells (zD n) false)) (nx+1+1) (.cells [(.int .i64 0),(.int .u64 0)] false)) b=hget h b:=fun b hb=>by simp [show b≠nx by omega,show b≠nx+1 by omega,show b≠nx+1+1 by omega]
 generalize hset (hset (hset h nx (.cells (zD m) false)) (nx+1) (.cells (zD n) false)) (nx+1+1) (.cells [(.int .i64 0),(.int .u64 0)] false)=h1 at *
 refine Ev.seq (Ev.seq (Ev.regO ?_));simp [zM,Ov_nil];refine Ev.block (Ev.seq (Ev.seq (Ev.regO ?_)));simp [zM,Ov_nil];refine Ev.cond true (by simp) (fun _=>Ev.skip ?_) (by simp);simp;refine Ev.cond true (by simp) (fun _=>?_) (by simp);refine Ev.seq (Ev.regO ?_);simp only [zAi,c_ld,zb,tgs,zN,zB g1,zB g2,zDn,zc,zF,seval];refine zBL ?_;simp only [zA2,zAr,zb,tgs,seval];refine (zRJ (s:=s) hl hol hw hc).mono ?_;rintro v h' nx' ⟨rfl,hnx',hfr⟩;have k3:hget h' (nx+1+1)=some (.cells (zD 0) false):=by rw [hfr _ (by omega)]; exact g3
 have k4:∀ b,b<nx→hget h' b=hget h b:=fun b hb=>by rw [hfr b (by omega)]; exact g4 b hb
 generalize (if n<m then n else m)=r;simp only [zFH,zb,zF,tgs,zN,zCf k3,zc,zAR,Ov_nil,zA,seval];refine Ev.ret ?_;show RK (zAj P _ _ [.cell 6 tw]) _;simp only [zEg,zBE,tgs,zN,zDP hw (n:=r) (b:=nx+1+1) (h:=hset h' (nx+1+1) (.cells (zD r) false)) (by simp),bind_ok,zc,zFd,seval];refine ⟨trivial,by omega,fun b hb=>?_⟩;simp [show b≠nx+1+1 by omega,k4 b hb]
theorem cagreeW {tm:Tm} {e:CRd} {n:Nat} {h:Hp} {hs:List Hp} (he:cred P tm h e = .ok (.agg ⟨zD n⟩)):zAA P tm e (.agg ⟨zD n⟩) 1 (h::hs)=true:=by
 unfold zAA;rw [he];show (bif zA7 (.agg ⟨zD n⟩) (.ok (.agg ⟨zD n⟩)) then true else false)=true;have:zA7 (.agg ⟨zD n⟩) (.ok (.agg ⟨zD n⟩))=true:=by
  show zEH (.agg ⟨zD n⟩) (.agg ⟨zD n⟩)=true;show (zCi (.int .i64 0) (.int .i64 0)&&(zCi (.int .u64 (n:Int)) (.int .u64 (n:Int))&&true))=true;have h2:zCi (.int .u64 (n:Int)) (.int .u64 (n:Int))=true:=by
   show (keq .u64 .u64&&ieq (n:Int) (n:Int))=true;rw [ieq_iff.2 rfl]; rfl
  rw [h2]; rfl
 rw [this]; rfl
theorem zNd {f fo tw:Nat} (hcf:zK P f=some (zCT fo tw)) (ho:orc f=none) (hof:zK P fo=some (cfOf tw)) (hoo:orc fo=none) (hw:zD7 P tw) {n:Nat} (hn:n<4294967296)
  (heq:bin P .neq tw (.agg ⟨zD n⟩) (.agg ⟨zD n⟩) = .ok (.bool false)) {h:Hp} {nx:Nat} :
  Cv P orc s f [.agg ⟨zD n⟩] h nx (fun v h' nx'=>v = .tuple ⟨[.int .i64 (n:Int),.bool true]⟩∧nx≤nx'∧∀ b,b<nx→hget h' b=hget h b):=by
 refine Cv.enter ho hcf ?_;unfold zCT aU bT eU lD mC mV pU rU;have hc:zV (zD n)=true:=rfl;refine Ev.seq (Ev.regO ?_);simp [zM,zBQ,Ov_nil,calq,zC,zA3,hc,nbV,nbO];have g1:hget (hset h nx (.cells (zD n) false)) nx=some (.cells (zD n) false):=by simp
 have g4:∀ b,b<nx→hget (hset h nx (.cells (zD n) false)) b=hget h b:=fun b hb=>by simp [show b≠nx by omega]
 generalize hset h nx (.cells (zD n) false)=h1 at *
 have w1:(zD n)[1]? = some (.int .u64 (n:Int)):=rfl;refine Ev.seq (Ev.regO ?_);simp [zM,zAi,Ov_nil,zB g1,w1,wrapNB n hn];refine Ev.seq (Ev.seq (Ev.regD ?_));simp [zCx];refine zCy ?_;simp;refine (of_cv (s:=true) hof hoo hw hn).mono ?_;rintro v h' nx' ⟨rfl,hnx',hfr⟩;refine ⟨by omega,?_⟩;have k1:hget h' nx=some (.cells (zD n) false):=by rw [hfr _ (by omega)]; exact g1
 simp only [zHI,c_ld,zb,tgs,zF,zN,zB k1,zDn,zc,seval];refine ⟨cagreeW (by simp only [c_ld,zb,tgs,zN,zB g1,zDn,seval]),?_⟩;simp only [zCx,zKN,zb,tgs,heq,zc,zF,Dv_nil,zA,seval];refine Ev.cond false (by simp) (by simp) fun _=>Ev.skip ?_;show Ev P orc s _ _ _ _ _;refine Ev.seq (Ev.regO ?_);simp only [zM,c_mv,zb,zFB,tgs,zc,zF,Ov_nil,zA,seval];refine Ev.ret ?_;simp only [zEL,zCk,zBE,tgs,bind_ok,zc,zEK,seval];exact ⟨trivial,by omega,fun b hb=>by rw [hfr b (by omega)]; exact g4 b hb⟩
theorem zRB {f fn fo tw:Nat} (hcf:zK P f=some (zE8 fn)) (ho:orc f=none) (hnf:zK P fn=some (zCT fo tw)) (hon:orc fn=none) (hof:zK P fo=some (cfOf tw)) (hoo:orc fo=none) (hw:zD7 P tw) {n:Nat} (hn:n<4294967296)
  (heq:bin P .neq tw (.agg ⟨zD n⟩) (.agg ⟨zD n⟩) = .ok (.bool false)) {r:Value} {h:Hp} {nx:Nat} :
  Cv P orc s f [r,.agg ⟨zD n⟩] h nx (fun v h' nx'=>v = .tuple ⟨[.int .i64 (n:Int),.bool true]⟩∧nx≤nx'∧∀ b,b<nx→hget h' b=hget h b):=by
 refine Cv.enter ho hcf ?_;unfold zE8 aU eU mC mV pU rU;have hc:zV (zD n)=true:=rfl;refine Ev.seq (Ev.regO ?_);simp [zM,zBQ,Ov_nil,calq,zC,zA3,hc,nbV,nbO];have g1:hget (hset h nx (.cells (zD n) false)) nx=some (.cells (zD n) false):=by simp
 have g4:∀ b,b<nx→hget (hset h nx (.cells (zD n) false)) b=hget h b:=fun b hb=>by simp [show b≠nx by omega]
 generalize hset h nx (.cells (zD n) false)=h1 at *
 refine Ev.seq (Ev.regO ?_);simp only [zAi,c_ld,zb,tgs,zF,zN,zB g1,zDn,zc,seval];refine zBL ?_;simp only [zA2,zAr,zb,tgs,↓reduceIte];refine (zNd (s:=s) hnf hon hof hoo hw hn heq).mono ?_;rintro v h' nx' ⟨rfl,hnx',hfr⟩;simp [zM,Ov_nil];refine Ev.ret ?_;simp only [zEL,zCk,zBE,tgs,bind_ok,zc,zEK,seval];exact ⟨trivial,by omega,fun b hb=>by rw [hfr b (by omega)]; exact g4 b hb⟩
end
def keyV (x:Edg):Value:=.agg ⟨encL (x.1,x.2.1)⟩
def zx:Nat→List Edg→List MapEntry
 | _,[]=>[]
 | i,x::l=>{ key:=keyV x,val:=.agg ⟨zD x.2.2.toNat⟩,born:=i }::zx (i+1) l
def zIF (x e:Edg):Bool:=ieq x.1 e.1&&ieq x.2.1 e.2.1
def zAk (n:Int):Bool:=match n with
 | .ofNat m=>Nat.blt m 2147483648
 | .negSucc _=>false
def zBU (x:Edg):Prop:=zAk x.1=true∧zAk x.2.1=true∧zAk x.2.2=true
def fnd (e:Edg):List Edg→Option (Nat × Edg)
 | []=>none
 | x::l=>bif zIF x e then some (0,x) else (fnd e l).map (fun p=>(p.1+1,p.2))
theorem zFq (e:Edg):∀ (l:List Edg),zA6 e l=match fnd e l with
  | none=>l++[e]
  | some (p,x)=>l.set p (x.1,x.2.1,bif iblt e.2.2 x.2.2 then e.2.2 else x.2.2)
 | []=>rfl
 | x::l=>by
  unfold zA6 fnd;show (bif zIF x e then _ else _)=_;cases zIF x e with
  | true=>rfl
  | false =>
   simp only [cond_false];rw [zFq e l];cases fnd e l with
   | none=>rfl
   | some p=>rfl
theorem zI6 {e:Edg}:∀ {l:List Edg} {p:Nat} {x:Edg},fnd e l=some (p,x)→l[p]? = some x∧zIF x e=true
 | [],p,x,h=>by cases h
 | y::l,p,x,h=>by
  unfold fnd at h;cases hs:zIF y e with
  | true=>rw [hs] at h; cases h; exact ⟨rfl,hs⟩
  | false =>
   rw [hs] at h;simp only [cond_false] at h;cases hf:fnd e l with
   | none=>rw [hf] at h; cases h
   | some q =>
    rw [hf] at h;cases h;obtain ⟨h1,h2⟩:=zI6 (l:=l) (p:=q.1) (x:=q.2) hf;exact ⟨by simpa using h1,h2⟩
theorem zOL (i:Nat) (l:List Edg) (e:Edg):zx i (l++[e])=zx i l++[{ key:=keyV e,val:=.agg ⟨zD e.2.2.toNat⟩,born:=i+l.length }]:=by
 induction l generalizing i with
 | nil=>rfl
 | cons x l ih =>
  show _::zx (i+1) (l++[e])=_::(zx (i+1) l++_)
  rw [ih,List.length_cons];have:i+1+l.length=i+(l.length+1):=by omega
  rw [this]
theorem zH9 (e:Edg):∀ (i p:Nat) (l:List Edg),p<l.length→mset (zx i l) p (keyV e) (.agg ⟨zD e.2.2.toNat⟩)=zx i (l.set p e)
 | _,_,[],h=>by simp at h
 | i,0,x::l,h=>rfl
 | i,p+1,x::l,h=>by
  show _::mset (zx (i+1) l) p _ _=_::zx (i+1) (l.set p e);rw [zH9 e (i+1) p l (by simpa using h)]
section
variable {P:Program} {orc:Orc} {s:Bool}
def zOi (P:Program) (kt:Nat):Prop:=∀ x y:Edg,zBU x→zBU y→zDo P kt (keyV x) (keyV y)=some (zIF y x)
theorem zIb {kt:Nat} (hk:zOi P kt) {e:Edg} (he:zBU e):∀ (i j:Nat) (l:List Edg),(∀ x∈l,zBU x)→zCs P kt (keyV e) (zx i l) j=some ((fnd e l).map fun p=>(j+p.1,{ key:=keyV p.2,val:=.agg ⟨zD p.2.2.2.toNat⟩,born:=i+p.1 }))
 | i,j,[],_=>rfl
 | i,j,x::l,h=>by
  have ih:=zIb hk he (i+1) (j+1) l fun y hy=>h y (List.mem_cons_of_mem _ hy);unfold zx zCs fnd;simp only [hk e x he (h x (List.mem_cons_self ..))];cases zIF x e with
  | true=>rfl
  | false =>
   simp only [cond_false];rw [show Nat.succ j=j+1 from rfl,ih];cases fnd e l with
   | none=>rfl
   | some q =>
    simp only [Option.map_some];have e1:j+1+q.1=j+(q.1+1):=by omega
    have e2:i+1+q.1=i+(q.1+1):=by omega
    rw [e1,e2]
theorem zPd {x e:Edg} (h:zIF x e=true):keyV x=keyV e∧x.1=e.1∧x.2.1=e.2.1:=by
 unfold zIF at h;simp only [Bool.and_eq_true,ieq_iff] at h;refine ⟨?_,h⟩;unfold keyV;rw [h.1,h.2]
theorem lkp_mk {kt:Nat} (hk:zOi P kt) {e:Edg} (he:zBU e) {h:Hp} {r ck:Nat} {l:List Edg} (hl:∀ x∈l,zBU x) (hm:hget h r=some (.map (zx 0 l) ck)) (z:Value) :
  cLkp P h kt z true (.map (some r)) (keyV e) = .ok (match fnd e l with
   | none=>.tuple #[z,.bool false]
   | some p=>.tuple #[.agg ⟨zD p.2.2.2.toNat⟩,.bool true]):=by
 unfold cLkp zJg;rw [hk e e he he];show zJw h (.map (some r)) _=_;unfold zJw zEr;simp only [hm,zIb hk he 0 0 l hl];cases fnd e l <;> rfl
theorem zPb (e:Edg):zEH (keyV e) (keyV e)=true:=by
 show (zCi (.int .i64 e.1) (.int .i64 e.1)&&(zCi (.int .i64 e.2.1) (.int .i64 e.2.1)&&true))=true;have:∀ n:Int,zCi (.int .i64 n) (.int .i64 n)=true:=fun n=>by
  show (keq .i64 .i64&&ieq n n)=true;rw [ieq_iff.2 rfl]; rfl
 rw [this,this]; rfl
theorem mup_mk {kt:Nat} (hk:zOi P kt) {e:Edg} (he:zBU e) {h:Hp} {r:Nat} {l:List Edg} (hl:∀ x∈l,zBU x) (hm:hget h r=some (.map (zx 0 l) l.length)) {w:Nat}
  (hw:w=match fnd e l with | none=>e.2.2.toNat | some p=>(bif iblt e.2.2 p.2.2.2 then e.2.2 else p.2.2.2).toNat) :
  cMup P kt h (.map (some r)) (keyV e) (.agg ⟨zD w⟩) = .ok (hset h r (.map (zx 0 (zA6 e l)) (zA6 e l).length)):=by
 unfold cMup zJg;rw [hk e e he he];show zEr h r _=_;unfold zEr;simp only [hm,zIb hk he 0 0 l hl];rw [zFq];cases hf:fnd e l with
 | none =>
  rw [hf] at hw;simp only at hw;subst hw;simp only [Option.map_none,zm,zOL,List.length_append,List.length_cons,List.length_nil,Nat.zero_add]
 | some p =>
  obtain ⟨q,x⟩:=p;rw [hf] at hw;simp only at hw;obtain ⟨h1,h2⟩:=zI6 hf;obtain ⟨k1,k2,k3⟩:=zPd h2;have hq:q<l.length:=(List.getElem?_eq_some_iff.1 h1).1;simp only [Option.map_some,k1,zPb,cond_true,Nat.zero_add,List.length_set];have:=zH9 (x.1,x.2.1,bif iblt e.2.2 x.2.2 then e.2.2 else x.2.2) 0 q l hq;have hkx:keyV (x.1,x.2.1,bif iblt e.2.2 x.2.2 then e.2.2 else x.2.2)=keyV e:=by rw [← k1]; rfl
  rw [hkx] at this;rw [hw,this]
end
def zL8 (fof fad kt:Nat):CC:=(.block 1
  (.seq (.regO [⟨none,(some 26),0,.pur (.ixA (.slice 3) (.t 22) (.t 24))⟩,
   ⟨none,(some 27),0,.red (.ld (some 3) (.t 26))⟩,
   ⟨none,(some 8),0,.alc (.new [(.int .i64 0),(.int .i64 0),(.int .i64 0)])⟩,
   ⟨none,none,0,.eff (.st 3 (.t 8) (.t 27))⟩])
  (.seq (.regO [⟨none,(some 28),0,.pur (.fldA 0 (.t 8))⟩,
   ⟨none,(some 29),0,.red (.ld none (.t 28))⟩,
   ⟨none,(some 30),0,.pur (.fldA 1 (.t 8))⟩,
   ⟨none,(some 31),0,.red (.ld none (.t 30))⟩,
   ⟨none,(some 32),0,.pur (.build [(.int .i64 0),(.int .i64 0)] [(0,1,(.t 29)),(1,1,(.t 31))])⟩,
   ⟨none,(some 9),0,.alc (.new [(.int .i64 0),(.int .i64 0)])⟩,
   ⟨none,none,0,.eff (.st 2 (.t 9) (.t 32))⟩])
  (.seq (.regO [⟨none,(some 33),0,.pur (.fldA 2 (.t 8))⟩,
   ⟨none,(some 34),0,.red (.ld none (.t 33))⟩,
   ⟨none,(some 35),0,.eff (.call fof [(.t 34)])⟩,
   ⟨none,(some 10),0,.alc (.new [(.int .i64 0),(.int .u64 0)])⟩,
   ⟨none,none,0,.eff (.st 2 (.t 10) (.t 35))⟩])
  (.seq (.seq (.regO [⟨none,(some 37),0,.pur (.mv (.t 6))⟩,
   ⟨none,(some 38),0,.red (.ld (some 2) (.t 9))⟩,
   ⟨none,(some 39),0,.red (.lkp kt (.agg #[(.int .i64 0),(.int .u64 0)]) (.t 37) (.t 38) true)⟩,
   ⟨none,(some 36),0,.pur (.mv (.t 39))⟩,
   ⟨none,(some 40),0,.pur (.ext (.t 36) 0)⟩,
   ⟨none,(some 41),0,.pur (.ext (.t 36) 1)⟩,
   ⟨none,(some 11),0,.alc (.new [(.int .i64 0),(.int .u64 0)])⟩,
   ⟨none,none,0,.eff (.st 2 (.t 11) (.t 40))⟩,
   ⟨none,(some 12),0,.pur (.mv (.t 41))⟩])
  (.seq (.regO [⟨none,(some 42),0,.pur (.mv (.t 12))⟩])
  (.cond (.t 42)
   (.regO [⟨none,(some 43),0,.pur (.mv (.t 0))⟩,
    ⟨none,(some 44),0,.red (.ld (some 2) (.t 11))⟩,
    ⟨none,(some 45),0,.red (.ld (some 2) (.t 10))⟩,
    ⟨none,(some 46),0,.eff (.call fad [(.t 43),(.t 44),(.t 45)])⟩,
    ⟨none,none,0,.eff (.st 2 (.t 10) (.t 46))⟩])
   .skip)))
  (.regO [⟨none,(some 47),0,.pur (.mv (.t 6))⟩,
   ⟨none,(some 48),0,.red (.ld (some 2) (.t 9))⟩,
   ⟨none,(some 49),0,.red (.ld (some 2) (.t 10))⟩,
   ⟨none,none,0,.eff (.mup kt (.t 47) (.t 48) (.t 49))⟩]))))))
theorem zAS {n:Int} (h:zAk n=true):∃ m:Nat,n=(m:Int)∧m<2147483648:=by
 cases n with
 | ofNat m=>exact ⟨m,rfl,by simpa [zAk,zBJ] using h⟩
 | negSucc m=>cases h
section
variable {P:Program} {orc:Orc} {s:Bool}
theorem zK4 {h:Hp} {b:Nat} {k:Nat} {l l0:List Value} (hh:hget h b=some (.cells l0 false)) (hl:l.length=k) (h0:l0.length=k) (hc:zV l=true):cSt h k (zC (.agg ⟨l⟩)) ⟨b,0,none⟩ = .ok (hset h b (.cells l false)):=by
 unfold cSt zBO;show (bif Nat.beq (llen l) k then _ else _)=_;rw [zy,hl,Nat.beq_refl];simp only [cond_true,zB hh];show (bif zV l then R.of _ (lput l l0 0) _ else _)=_;rw [hc,zAy,if_pos (by omega)];rw [List.drop_of_length_le (by omega)];simp
theorem zO1 {fof fad fl fw tr tw kt:Nat} {R1 R2 R3:CC} (hof:zK P fof=some (cfOf tw)) (oof:orc fof=none) (had:zK P fad=some (zSU fl tr tw R1 R2 R3)) (oad:orc fad=none) (hfl:zK P fl=some (zDV fw tw)) (ofl:orc fl=none)
  (hw:zD7 P tw) (hc:zFG P orc fw) (hk:zOi P kt)
  {h:Hp} {nx r bs os n cap i:Nat} {sp:Option Nat} {cs:List Value} {ro:Bool} {acc:List Edg} {e:Edg} (he:zBU e) (hacc:∀ x∈acc,zBU x) (hr:r<nx) (hm:hget h r=some (.map (zx 0 acc) acc.length))
  (hbs:hget h bs=some (.cells cs ro)) (hbr:bs<nx) (hin:i<n) (hld:zAL (some 3) (os+i*3) cs = .ok (.agg ⟨encE e⟩)) {tm:Tm} (t0:tget tm 0 = .int .i64 1) (t6:tget tm 6 = .map (some r)) (t22:tget tm 22 = .slice (some ⟨bs,os,sp⟩) n cap) (t24:tget tm 24 = .int .i64 (i:Int)) {K:KO'}
  (hK:∀ tm' h' nx',(∀ t,(t<8∨(13≤t∧t<26))→tget tm' t=tget tm t)→nx≤nx'→hget h' r=some (.map (zx 0 (zA6 e acc)) (zA6 e acc).length)→(∀ b,b<nx→b≠r→hget h' b=hget h b)→K .normal tm' h' nx') :
  Ev P orc s (zL8 fof fad kt) tm h nx K:=by
 obtain ⟨he1,he2,he3⟩:=he;obtain ⟨w,hw1,hw2⟩:=zAS he3;unfold zL8;refine Ev.block (Ev.seq (Ev.regO ?_));simp only [zM,zAi,zBQ,c_ixA,c_ld,zb,t22,t24,zIV,zCq,if_pos hin,zc,zF,tgs,zN,zB hbs,hld,calq,nbV,nbO,seval];simp only [zFH,zb,tgs,zN,seval];rw [zK4 (k:=3) (l:=encE e) (l0:=[(.int .i64 0),(.int .i64 0),(.int .i64 0)]) (by simp) rfl rfl rfl];simp only [zc,zAR,Ov_nil,zA];have a1:hget (hset (hset h nx (.cells [(.int .i64 0),(.int .i64 0),(.int .i64 0)] false)) nx (.cells (encE e) false)) nx=some (.cells (encE e) false):=by simp
 have a2:∀ b,b<nx→hget (hset (hset h nx (.cells [(.int .i64 0),(.int .i64 0),(.int .i64 0)] false)) nx (.cells (encE e) false)) b=hget h b:=fun b hb=>by simp [show b≠nx by omega]
 generalize hset (hset h nx (.cells [(.int .i64 0),(.int .i64 0),(.int .i64 0)] false)) nx (.cells (encE e) false)=h1 at *
 have e0:(encE e)[0]? = some (.int .i64 e.1):=rfl;have e1:(encE e)[1]? = some (.int .i64 e.2.1):=rfl;have e2:(encE e)[2]? = some (.int .i64 (w:Int)):=by rw [← hw1]; rfl
 refine Ev.seq (Ev.regO ?_);have hbld:∀ tm x,cpur P (tset (tset (tset tm 29 (.int .i64 e.1)) 30 x) 31 (.int .i64 e.2.1)) (.build [(.int .i64 0),(.int .i64 0)] [(0,1,(.t 29)),(1,1,(.t 31))]) = .ok (keyV e):=fun tm x=>by
  simp [cpur,zAG,zAH,zC,lput,zI0,zD0,zD3,zDj,zEs,llen,zI1,keyV,encL]
 simp only [zM,zAi,zBQ,zS6,c_ld,zb,zc,zF,tgs,zN,zEV,Nat.zero_add,zB a1,zB6,e0,e1,zAx,hbld,calq,nbV,nbO,seval];simp only [zFH,zb,tgs,zN,seval];unfold keyV;rw [zK4 (k:=2) (l:=encL (e.1,e.2.1)) (l0:=[(.int .i64 0),(.int .i64 0)]) (by simp) rfl rfl rfl];simp only [zc,zAR,Ov_nil,zA];have b0:hget (hset (hset h1 (nx+1) (.cells [(.int .i64 0),(.int .i64 0)] false)) (nx+1) (.cells (encL (e.1,e.2.1)) false)) (nx+1)=some (.cells (encL (e.1,e.2.1)) false):=by simp
 have b1:hget (hset (hset h1 (nx+1) (.cells [(.int .i64 0),(.int .i64 0)] false)) (nx+1) (.cells (encL (e.1,e.2.1)) false)) nx=some (.cells (encE e) false):=by simp; exact a1
 have b2:∀ b,b<nx→hget (hset (hset h1 (nx+1) (.cells [(.int .i64 0),(.int .i64 0)] false)) (nx+1) (.cells (encL (e.1,e.2.1)) false)) b=hget h b:=fun b hb=>by simp [show b≠nx+1 by omega]; exact a2 b hb
 generalize hset (hset h1 (nx+1) (.cells [(.int .i64 0),(.int .i64 0)] false)) (nx+1) (.cells (encL (e.1,e.2.1)) false)=h2 at *
 clear a1 a2;refine Ev.seq (Ev.regO ?_);simp only [zM,zAi,zS6,c_ld,zb,zc,zF,tgs,zN,zEV,Nat.zero_add,zB b1,zB6,e2,zAx,seval];refine zBL ?_;simp only [zA2,zAr,zb,tgs,↓reduceIte];refine (of_cv (s:=s) hof oof hw (n:=w) (by omega)).mono ?_;rintro v h3 nx3 ⟨rfl,hnx3,hfr3⟩;have c0:hget h3 (nx+1)=some (.cells (encL (e.1,e.2.1)) false):=by rw [hfr3 _ (by omega)]; exact b0
 have c2:∀ b,b<nx→hget h3 b=hget h b:=fun b hb=>by rw [hfr3 b (by omega)]; exact b2 b hb
 clear b0 b1 b2 hfr3;simp only [zBQ,calq,zc,zF,nbV,nbO];simp only [zFH,zb,tgs,zN,seval];rw [zCf (m:=0) (by simp [zD])];simp only [zc,zAR,Ov_nil,zA];have d0:hget (hset (hset h3 nx3 (.cells [(.int .i64 0),(.int .u64 0)] false)) nx3 (.cells (zD w) false)) (nx+1)=some (.cells (encL (e.1,e.2.1)) false):=by simp [show ¬ nx+1=nx3 by omega]; exact c0
 have d1:hget (hset (hset h3 nx3 (.cells [(.int .i64 0),(.int .u64 0)] false)) nx3 (.cells (zD w) false)) nx3=some (.cells (zD w) false):=by simp
 have d2:∀ b,b<nx→hget (hset (hset h3 nx3 (.cells [(.int .i64 0),(.int .u64 0)] false)) nx3 (.cells (zD w) false)) b=hget h b:=fun b hb=>by simp [show b≠nx3 by omega]; exact c2 b hb
 generalize hset (hset h3 nx3 (.cells [(.int .i64 0),(.int .u64 0)] false)) nx3 (.cells (zD w) false)=h4 at *
 clear c0 c2;have hm4:hget h4 r=some (.map (zx 0 acc) acc.length):=by rw [d2 r hr]; exact hm
 have ldk:zAL (some 2) 0 (encL (e.1,e.2.1)) = .ok (keyV e):=by simp [encL,keyV]
 have hlk:=lkp_mk hk ⟨he1,he2,he3⟩ hacc hm4 (.agg #[(.int .i64 0),(.int .u64 0)]);obtain ⟨q,fb,hlk2,hqn,hqs⟩:∃ (q:Nat) (fb:Bool),cLkp P h4 kt (.agg #[(.int .i64 0),(.int .u64 0)]) true (.map (some r)) (keyV e) = .ok (.tuple ⟨[.agg ⟨zD q⟩,.bool fb]⟩)∧(fb=false→fnd e acc=none)∧(fb=true→∃ p x,fnd e acc=some (p,x)∧x.2.2=(q:Int)):=by
  cases hf:fnd e acc with
  | none =>
   rw [hf] at hlk;exact ⟨0,false,hlk,fun _=>rfl,fun e=>(by cases e)⟩
  | some px =>
   obtain ⟨p,x⟩:=px;rw [hf] at hlk;obtain ⟨h1,_⟩:=zI6 hf;obtain ⟨m,hm1,_⟩:=zAS (hacc x (List.mem_of_getElem? h1)).2.2;refine ⟨x.2.2.toNat,true,hlk,fun e=>(by cases e),fun _=>⟨p,x,rfl,?_⟩⟩;rw [hm1]; rfl
 clear hlk;have clk:∀ (tm:Tm) (z:Value) (m k:Co),cred P tm h4 (.lkp kt z m k true)=cLkp P h4 kt z true (cev tm m) (cev tm k):=fun _ _ _ _=>rfl;refine Ev.seq (Ev.seq (Ev.regO ?_));simp only [zM,zAi,zBQ,c_mv,c_ld,zOa,clk,zb,t6,zc,zF,tgs,zN,zB d0,ldk,hlk2,zu,List.getElem?_cons_zero,List.getElem?_cons_succ,zBx,calq,nbV,nbO,seval];simp only [zFH,zb,tgs,zN,seval];rw [zCf (m:=0) (by simp [zD])];simp only [zc,zAR,zM,c_mv,zb,tgs,zF,Ov_nil,zA,seval];have f0:hget (hset (hset h4 (nx3+1) (.cells [(.int .i64 0),(.int .u64 0)] false)) (nx3+1) (.cells (zD q) false)) (nx+1)=some (.cells (encL (e.1,e.2.1)) false):=by simp [show ¬ nx=nx3 by omega]; exact d0
 have f1:hget (hset (hset h4 (nx3+1) (.cells [(.int .i64 0),(.int .u64 0)] false)) (nx3+1) (.cells (zD q) false)) nx3=some (.cells (zD w) false):=by simp; exact d1
 have f3:hget (hset (hset h4 (nx3+1) (.cells [(.int .i64 0),(.int .u64 0)] false)) (nx3+1) (.cells (zD q) false)) (nx3+1)=some (.cells (zD q) false):=by simp
 have f2:∀ b,b<nx→hget (hset (hset h4 (nx3+1) (.cells [(.int .i64 0),(.int .u64 0)] false)) (nx3+1) (.cells (zD q) false)) b=hget h b:=fun b hb=>by simp [show b≠nx3+1 by omega]; exact d2 b hb
 generalize hset (hset h4 (nx3+1) (.cells [(.int .i64 0),(.int .u64 0)] false)) (nx3+1) (.cells (zD q) false)=h5 at *
 clear d0 d1 d2 hm4 hlk2 clk;refine Ev.seq (Ev.regO ?_);simp only [zM,c_mv,zb,tgs,zc,zF,Ov_nil,zA,seval];have last:∀ (tm6:Tm) (h6:Hp) (nx6 m:Nat),nx≤nx6→tget tm6 6 = .map (some r)→tget tm6 9 = .pointer (some ⟨nx+1,0,none⟩)→tget tm6 10 = .pointer (some ⟨nx3,0,none⟩)→(∀ t,(t<8∨(13≤t∧t<26))→tget tm6 t=tget tm t) →
   hget h6 (nx+1)=some (.cells (encL (e.1,e.2.1)) false)→hget h6 nx3=some (.cells (zD m) false)→(∀ b,b<nx→hget h6 b=hget h b)→(m=match fnd e acc with | none=>e.2.2.toNat | some p=>(bif iblt e.2.2 p.2.2.2 then e.2.2 else p.2.2.2).toNat) →
   Ev P orc s (.regO [⟨none,(some 47),0,.pur (.mv (.t 6))⟩,⟨none,(some 48),0,.red (.ld (some 2) (.t 9))⟩,⟨none,(some 49),0,.red (.ld (some 2) (.t 10))⟩,⟨none,none,0,.eff (.mup kt (.t 47) (.t 48) (.t 49))⟩]) tm6 h6 nx6 (blkK 1 K):=by
  intro tm6 h6 nx6 m hle u6 u9 u10 hlow k0 k1 k2 hmw;refine Ev.regO ?_;simp only [zM,zAi,c_mv,c_ld,zb,u6,u9,u10,zc,zF,tgs,zN,zB k0,zB k1,ldk,zDn,seval];have hm6:hget h6 r=some (.map (zx 0 acc) acc.length):=by rw [k2 r hr]; exact hm
  have hup:=mup_mk hk ⟨he1,he2,he3⟩ hacc hm6 hmw;rw [zFZ (v:=zL) (h':=hset h6 r (.map (zx 0 (zA6 e acc)) (zA6 e acc).length)) (nx':=nx6) (by
   show uOf nx6 (cMup P kt h6 (cev _ (.t 47)) (cev _ (.t 48)) (cev _ (.t 49)))=_;simp only [zb,tgs,seval];rw [hup]; rfl)]
  simp only [zAR,Ov_nil,zC3];refine hK _ _ _ (fun t ht=>?_) hle (by simp) (fun b hb hbr=>by simp [hbr]; exact k2 b hb);simp only [tgs];rw [if_neg (by omega),if_neg (by omega),if_neg (by omega)];exact hlow t ht
 cases fb with
 | false =>
  have hfn:=hqn rfl;refine Ev.cond false (by simp) (by simp) fun _=>Ev.skip ?_;show Ev P orc s _ _ _ _ _;refine last _ _ _ w (by omega) (by simp [t6]) (by simp) (by simp) (fun t ht=>?_) f0 f1 f2 (by rw [hfn,hw1]; rfl);simp only [tgs]
  repeat rw [if_neg (by omega)]
 | true =>
  obtain ⟨p,x,hfs,hxq⟩:=hqs rfl;refine Ev.cond true (by simp) (fun _=>?_) (by simp);refine Ev.regO ?_;simp only [zM,zAi,c_mv,c_ld,zb,t0,zc,zF,tgs,zN,zB f1,zB f3,zDn,seval];refine zBL ?_;simp only [zA2,zAr,zb,tgs,seval];refine (add_cv (s:=s) had oad hfl ofl hw hc (m:=q) (n:=w)).mono ?_;rintro v h6 nx6 ⟨rfl,hnx6,hfr6⟩;have k0:hget h6 (nx+1)=some (.cells (encL (e.1,e.2.1)) false):=by rw [hfr6 _ (by omega)]; exact f0
  have k1:hget h6 nx3=some (.cells (zD w) false):=by rw [hfr6 _ (by omega)]; exact f1
  have k2:∀ b,b<nx→hget h6 b=hget h b:=fun b hb=>by rw [hfr6 b (by omega)]; exact f2 b hb
  generalize hmin:(if w<q then w else q)=m;simp only [zFH,zb,zF,tgs,zN,seval];rw [zCf k1];simp only [zc,zAR,Ov_nil,zA];refine last _ _ _ m (by omega) (by simp [t6]) (by simp) (by simp) (fun t ht=>?_) (by simp [show ¬ nx+1=nx3 by omega]; exact k0) (by simp) (fun b hb=>by simp [show b≠nx3 by omega]; exact k2 b hb) ?_
  ·simp only [tgs]
   repeat rw [if_neg (by omega)]
  ·rw [hfs];show m=(bif iblt e.2.2 x.2.2 then e.2.2 else x.2.2).toNat
   rw [hxq,hw1,zAD,← hmin]
   by_cases hlt:w<q
   ·simp [hlt]
   ·simp [hlt]
end
def zL7 (fna:Nat):CC:=(.seq (.regO [⟨none,(some 55),0,.red (.entry (.t 52))⟩,
   ⟨none,(some 56),0,.pur (.ext (.t 55) 0)⟩,
   ⟨none,(some 57),0,.pur (.ext (.t 55) 1)⟩,
   ⟨none,(some 14),0,.alc (.new [(.int .i64 0),(.int .i64 0)])⟩,
   ⟨none,(some 15),0,.alc (.new [(.int .i64 0),(.int .u64 0)])⟩,
   ⟨none,none,0,.eff (.st 2 (.t 14) (.t 56))⟩,
   ⟨none,none,0,.eff (.st 2 (.t 15) (.t 57))⟩])
  (.seq (.regO [⟨none,(some 59),0,.pur (.mv (.t 0))⟩,
   ⟨none,(some 60),0,.red (.ld (some 2) (.t 15))⟩,
   ⟨none,(some 61),0,.eff (.call fna [(.t 59),(.t 60)])⟩,
   ⟨none,(some 58),0,.pur (.mv (.t 61))⟩,
   ⟨none,(some 62),0,.pur (.ext (.t 58) 0)⟩,
   ⟨none,(some 63),0,.pur (.ext (.t 58) 1)⟩,
   ⟨none,(some 16),0,.pur (.mv (.t 62))⟩,
   ⟨none,(some 17),0,.pur (.mv (.t 63))⟩])
  (.seq (.seq (.regO [⟨none,(some 64),0,.pur (.mv (.t 17))⟩,
   ⟨none,(some 65),0,.pur (.un .not (.t 64))⟩])
  (.cond (.t 65)
   (.seq (.regO [⟨none,(some 4),0,.pur (.mv (.v (.slice none 0 0)))⟩,
    ⟨none,(some 5),0,.pur (.mv (.v (.int .i64 12)))⟩])
   .ret)
   .skip))
  (.regO [⟨none,(some 66),0,.pur (.mv (.t 13))⟩,
   ⟨none,(some 67),0,.pur (.ixA (.array 2 1) (.t 14) (.v (.int .i64 0)))⟩,
   ⟨none,(some 68),0,.red (.ld none (.t 67))⟩,
   ⟨none,(some 69),0,.pur (.ixA (.array 2 1) (.t 14) (.v (.int .i64 1)))⟩,
   ⟨none,(some 70),0,.red (.ld none (.t 69))⟩,
   ⟨none,(some 71),0,.pur (.mv (.t 16))⟩,
   ⟨none,(some 72),0,.pur (.build [(.int .i64 0),(.int .i64 0),(.int .i64 0)] [(0,1,(.t 68)),(1,1,(.t 70)),(2,1,(.t 71))])⟩,
   ⟨none,(some 73),0,.alc (.bsl 1 [(.int .i64 0),(.int .i64 0),(.int .i64 0)] [(0,3,(.t 72))])⟩,
   ⟨none,(some 74),0,.eff (.app 3 (.t 66) (.t 73))⟩,
   ⟨none,(some 13),0,.pur (.mv (.t 74))⟩]))))
section
variable {P:Program} {orc:Orc} {s:Bool}
theorem zO0 {fna fwn fof tw:Nat} (hna:zK P fna=some (zE8 fwn)) (ona:orc fna=none) (hwn:zK P fwn=some (zCT fof tw)) (own:orc fwn=none) (hof:zK P fof=some (cfOf tw)) (oof:orc fof=none) (hw:zD7 P tw)
  (heq:∀ n:Nat,n<4294967296→bin P .neq tw (.agg ⟨zD n⟩) (.agg ⟨zD n⟩) = .ok (.bool false))
  {h:Hp} {nx it lo:Nat} {x:Edg} {acc:List Edg} {w:Nat} (hx3:x.2.2=(w:Int)) (hwl:w<2147483648) {tm:Tm} (t52:tget tm 52 = .pointer (some ⟨it,0,none⟩)) (hent:zEU h (.pointer (some ⟨it,0,none⟩)) = .ok (.tuple ⟨[keyV x,.agg ⟨zD w⟩]⟩))
  (hsl:SlAt h (tget tm 13) encE 3 acc lo nx) (hlo:lo≤nx) (hsz:acc.length≤1000) {K:KO'}
  (hK:∀ tm' h' nx',(∀ t,t<13→tget tm' t=tget tm t)→tget tm' 52=tget tm 52→nx≤nx'→SlAt h' (tget tm' 13) encE 3 (acc++[x]) lo nx'→(∀ b,b<lo→hget h' b=hget h b)→K .normal tm' h' nx') :
  Ev P orc s (zL7 fna) tm h nx K:=by
 unfold zL7;refine Ev.seq (Ev.regO ?_);simp only [zM,zAi,zBQ,c_entry,zOa,zb,t52,hent,zu,List.getElem?_cons_zero,List.getElem?_cons_succ,zBx,zc,zF,tgs,calq,nbV,nbO,seval];simp only [zFH,zb,tgs,zN,seval];unfold keyV;rw [zK4 (k:=2) (l:=encL (x.1,x.2.1)) (l0:=[(.int .i64 0),(.int .i64 0)]) (by simp) rfl rfl rfl];simp only [zc,zAR];simp only [zFH,zb,tgs,zN,seval];rw [zCf (m:=0) (by simp [zD])];simp only [zc,zAR,Ov_nil,zA];generalize hh1:hset (hset (hset (hset h nx (.cells [(.int .i64 0),(.int .i64 0)] false)) (nx+1) (.cells [(.int .i64 0),(.int .u64 0)] false)) nx (.cells (encL (x.1,x.2.1)) false)) (nx+1) (.cells (zD w) false)=h1;have a0:hget h1 nx=some (.cells (encL (x.1,x.2.1)) false):=by rw [← hh1]; simp
 have a1:hget h1 (nx+1)=some (.cells (zD w) false):=by rw [← hh1]; simp
 have a2:∀ b,b<nx→hget h1 b=hget h b:=fun b hb=>by rw [← hh1]; simp [show b≠nx by omega,show b≠nx+1 by omega]
 clear hh1;refine Ev.seq (Ev.regO ?_);simp only [zM,zAi,c_mv,c_ld,zb,zc,zF,tgs,zN,zB a1,zDn,seval];refine zBL ?_;simp only [zA2,zAr,zb,tgs,seval];refine (zRB (s:=s) hna ona hwn own hof oof hw (n:=w) (by omega) (heq w (by omega))).mono ?_;rintro v h2 nx2 ⟨rfl,hnx2,hfr2⟩;have b0:hget h2 nx=some (.cells (encL (x.1,x.2.1)) false):=by rw [hfr2 _ (by omega)]; exact a0
 have b2:∀ b,b<nx→hget h2 b=hget h b:=fun b hb=>by rw [hfr2 b (by omega)]; exact a2 b hb
 clear a0 a1 a2 hfr2;simp only [zM,c_mv,zOa,zb,zc,zF,tgs,zu,List.getElem?_cons_zero,List.getElem?_cons_succ,zBx,Ov_nil,zA,seval];refine Ev.seq (Ev.seq (Ev.regO ?_));simp only [zM,c_mv,c_un,zb,zc,zF,tgs,zJI,Ov_nil,zA,seval];refine Ev.cond false (by simp) (by simp) fun _=>Ev.skip ?_;show Ev P orc s _ _ _ _ _;refine Ev.regO ?_;have c0:(encL (x.1,x.2.1))[0]? = some (.int .i64 x.1):=rfl;have c1:(encL (x.1,x.2.1))[1]? = some (.int .i64 x.2.1):=rfl;have hbld:∀ tm y,cpur P (tset (tset (tset (tset tm 68 (.int .i64 x.1)) 69 y) 70 (.int .i64 x.2.1)) 71 (.int .i64 (w:Int))) (.build [(.int .i64 0),(.int .i64 0),(.int .i64 0)] [(0,1,(.t 68)),(1,1,(.t 70)),(2,1,(.t 71))]) = .ok (.agg ⟨encE x⟩):=fun tm y=>by
  simp [cpur,zAG,zAH,zC,lput,zI0,zD0,zD3,zDj,zEs,llen,zI1,encE,hx3]
 have hbsl:∀ tm,calq P (tset tm 72 (.agg ⟨encE x⟩)) (.bsl 1 [(.int .i64 0),(.int .i64 0),(.int .i64 0)] [(0,3,(.t 72))]) = .ok (.slice (.cells (encE x) false) 1 1):=fun tm=>by
  simp [calq,zAG,zAH,zC,encE,llen,zI1,lput,zI0,zD0,zD3,zEs,zAK,zV,zA9]
 simp only [zM,zAi,c_mv,c_ixA,c_ld,zb,zFB,zJc,zMl,zET,show (0:Nat)<2 from by omega,show (1:Nat)<2 from by omega,Nat.zero_mul,Nat.one_mul,Nat.zero_add,zc,zF,tgs,zN,zB b0,zB6,c0,c1,zAx,hbld,seval];simp only [zBQ,hbsl,zc,zF,nbV,nbO];have hsl2:SlAt (hset h2 nx2 (.cells (encE x) false)) (tget tm 13) encE 3 acc lo (nx2+1):=by
  rcases hsl with ⟨e1,e2⟩ | ⟨bk,g1,g2,g3,g4⟩
  ·exact .inl ⟨e1,e2⟩
  ·exact .inr ⟨bk,g1,by omega,g3,by simp [show bk≠nx2 by omega]; rw [b2 bk g2]; exact g4⟩
 obtain ⟨v',h4,hap,hsl4,hf4⟩:=app_cv (enc:=encE) (k:=3) (fun _=>rfl) (fun _=>rfl) (by omega) hsl2 (by omega) (b2:=nx2) (o2:=0) (cap2:=1) (sp2:=none) (cs:=encE x) (ro:=false) (x:=x) (by simp) (by simp [encE]) (by omega);rw [zFZ (v:=v') (h':=h4) (nx':=nx2+1+1) (by
  show orR (zH 3 _ _ (cev _ (.t 66)) (cev _ (.t 73)))=_;simp only [zb,tgs,seval];rw [hap]; rfl)]
 simp only [zM,c_mv,zb,tgs,zc,zF,Ov_nil,seval];refine hK _ _ _ (fun t ht=>?_) (by simp) (by omega) (by simpa using hsl4) (fun b hb=>?_)
 ·simp only [tgs]
  repeat rw [if_neg (by omega)]
 ·rw [hf4 b hb];simp [show b≠nx2 by omega];exact b2 b (by omega)
end
def zGt (fis fof fad fna fs fo kt:Nat):CF:={ res:=[.tmp 4,.tmp 5],body:=(.seq (.regO [mC 4 (.slice none 0 0),mC 5 (.int .i64 0)]) (.seq (.seq (.regO [mV 18 0,eU 19 (.call fis [(.t 18)]),pU 20 (.un .not (.t 19))]) (.cond (.t 20) (.seq (.regO [mC 4 (.slice none 0 0),mC 5 (.int .i64 8)]) .ret) .skip)) (.seq (.regO [aU 21 .mkm,mV 6 21]) (.seq (.seq (.regO [mV 22 1,rU 23 0 (.lens (.t 22)),mC 24 (.int .i64 0)]) (.block 0 (.loop (.seq (.regO [bT 25 .lss 3 24 23]) (.seq (.cond (.t 25) .skip (.exit 0)) (.seq (zL8 fof fad kt) (.regO [bC 50 .add 3 24 (.int .i64 1),mV 24 50]))))))) (.seq (.regO [mC 13 (.slice none 0 0)]) (.seq (.seq (.regO [mV 51 6,eU 52 (.rng (.t 51))]) (.block 2 (.loop (.seq (.regO [eU 53 (.nxt (.t 52)),pU 54 (.ext (.t 53) 0)]) (.seq (.cond (.t 54) .skip (.exit 2)) (.block 3 (zL7 fna))))))) (.seq (.regO [mV 75 13,eU 76 (.call fs [(.t 75),(.v (.func (.func fo) #[] #[]))])]) (.seq (.regO [mV 77 13,mV 4 77,mC 5 (.int .i64 0)]) .ret)))))))) }
theorem zHm (e:Edg):∀ (l acc:List Edg),zq acc (l++[e])=zA6 e (zq acc l)
 | [],acc=>rfl
 | x::l,acc=>zHm e l (zA6 x acc)
theorem zL3 {e:Edg} (he:zBU e) {l:List Edg} (hl:∀ x∈l,zBU x):∀ x∈zA6 e l,zBU x:=by
 intro x hx;rw [zFq] at hx;cases hf:fnd e l with
 | none =>
  rw [hf] at hx;rcases List.mem_append.1 hx with h | h
  ·exact hl x h
  ·simp at h; subst h; exact he
 | some p =>
  rw [hf] at hx;obtain ⟨h1,h2⟩:=zI6 hf;have hm:=hl _ (List.mem_of_getElem? h1);rcases List.mem_or_eq_of_mem_set hx with h | h
  ·exact hl x h
  ·subst h;refine ⟨hm.1,hm.2.1,?_⟩;show zAk (bif iblt e.2.2 p.2.2.2 then e.2.2 else p.2.2.2)=true;cases iblt e.2.2 p.2.2.2 with
   | true=>exact he.2.2
   | false=>exact hm.2.2
theorem zDs:∀ {l acc:List Edg},(∀ x∈l,zBU x)→(∀ x∈acc,zBU x)→∀ x∈zq acc l,zBU x
 | [],acc,_,ha=>ha
 | e::l,acc,hl,ha=>zDs (l:=l) (acc:=zA6 e acc) (fun x hx=>hl x (List.mem_cons_of_mem _ hx)) (zL3 (hl e (List.mem_cons_self ..)) ha)
theorem zSE (e:Edg) (l:List Edg):(zA6 e l).length≤l.length+1:=by
 rw [zFq];cases fnd e l with
 | none=>simp
 | some p=>simp
theorem zGr:∀ (l acc:List Edg),(zq acc l).length≤acc.length+l.length
 | [],acc=>by simp [zq]
 | e::l,acc=>by
  have h1:=zGr l (zA6 e acc);have h2:=zSE e acc;show (zq (zA6 e acc) l).length≤_;rw [List.length_cons];omega
theorem zEW:∀ (i:Nat) (l:List Edg),zKX (zx i l)∧∀ e∈zx i l,i≤e.born∧e.born<i+l.length
 | i,[]=>⟨List.Pairwise.nil,fun e h=>by cases h⟩
 | i,x::l=>by
  obtain ⟨h1,h2⟩:=zEW (i+1) l;refine ⟨List.Pairwise.cons (fun e he=>by have:=(h2 e he).1; show i<e.born; omega) h1,fun e he=>?_⟩;rcases List.mem_cons.1 he with rfl | he
  ·exact ⟨Nat.le_refl _,by simp⟩
  ·have:=h2 e he;simp only [List.length_cons]; omega
def zGj (e:MapEntry):Edg:=match e.key,e.val with
 | .agg ⟨[.int _ a,.int _ b]⟩,.agg ⟨[_,.int _ c]⟩=>(a,b,c)
 | _,_=>(0,0,0)
theorem zG0:∀ (i:Nat) (l:List Edg),(∀ x∈l,zBU x)→(zx i l).map zGj=l∧∀ e∈zx i l,∃ w:Nat,w<2147483648∧(zGj e).2.2=(w:Int)∧e.key=keyV (zGj e)∧e.val = .agg ⟨zD w⟩
 | i,[],_=>⟨rfl,fun e h=>by cases h⟩
 | i,x::l,h=>by
  obtain ⟨h1,h2⟩:=zG0 (i+1) l fun y hy=>h y (List.mem_cons_of_mem _ hy);obtain ⟨w,hw,hwl⟩:=zAS (h x (List.mem_cons_self ..)).2.2;obtain ⟨a,b,c⟩:=x;simp only at hw;subst hw;have he:zGj { key:=keyV (a,b,(w:Int)),val:=.agg ⟨zD ((w:Int)).toNat⟩,born:=i }=(a,b,(w:Int)):=rfl;refine ⟨?_,fun e hm=>?_⟩
  ·show zGj _::(zx (i+1) l).map zGj=_;rw [h1]; rfl
  ·rcases List.mem_cons.1 hm with rfl | hm
   ·exact ⟨w,hwl,rfl,rfl,rfl⟩
   ·exact h2 e hm
def Cmb1 (h:Hp) (nx r n:Nat) (es:List Edg) (sl:Value) (m:Nat) (tm:Tm) (h':Hp) (nx':Nat):Prop :=
 ∃ i,m=n-i∧i≤n∧tget tm 0 = .int .i64 1∧tget tm 6 = .map (some r)∧tget tm 22=sl∧tget tm 23 = .int .i64 (n:Int)∧tget tm 24 = .int .i64 (i:Int)∧nx≤r∧r<nx' ∧
  hget h' r=some (.map (zx 0 (zq [] (es.take i))) (zq [] (es.take i)).length)∧∀ b,b<nx→hget h' b=hget h b
section
variable {P:Program} {orc:Orc}
end
section
variable {P:Program}
theorem zKr (n k:Nat) (m:Int) (ρ ρ':Rho) (nx b:Nat) (p:Place) (c:Value) (hp:ρ' b=some p) (hq:ρ nx=some p) (h:VR ρ' (.tuple ⟨[.slice (some ⟨b,0,some k⟩) n n,.int .i64 m]⟩) c):VR ρ (.tuple ⟨[.slice (some ⟨nx,0,some k⟩) n n,.int .i64 m]⟩) c:=by
 cases h with
 | tuple hl =>
  cases hl with
  | cons h1 h2 =>
   cases h2 with
   | cons h3 h4 =>
    cases h4 with
    | nil =>
     refine .tuple (.cons (zJL n k ρ ρ' nx b p _ hp hq h1) (.cons ?_ .nil));cases h3 with
     | int=>exact .int _ _
end
def zRT:List Value→Hp→Nat→CR:=fun args h nx=>match args with
 | []=>.ok (.bool true) h nx
 | _=>.no "live"
section
variable {P:Program} {orc:Orc}
theorem Mv.still {B:Nat} {ρ:Rho} {H:AH} {w w':World} {nx:Nat} (hr:Rel B ρ H w) (hsz:w.heap.size≤w'.heap.size) (hos:w'.os=w.os) (htp:Tp w w') (hout:w'.output=w.output)
  (hfr:∀ k,k<w.heap.size→w'.heap[k]? = w.heap[k]?):Mv B ρ H w nx nx ρ H w' where
 rel:=hr.world hsz fun b p hb hs=>by
  obtain ⟨o,ho⟩:=Option.isSome_iff_exists.1 hs;exact hfr _ (hr.obj b p o hb ho).blk_lt
 agree:=fun _ _=>rfl
 size:=hsz
 os:=hos
 tape:=htp
 output:=hout
 frame:=fun k hk _=>hfr k hk
 own:=fun k h=>.inl h
 le:=Nat.le_refl _
theorem live_ok (hP:POk P) (horc:zF8 P orc) {N:Nat} {f:FuncId} (hw:wTrue P orc N f):zKY P f zRT:=by
 intro args h nx K hs;cases args with
 | cons _ _=>exact hs.elim
 | nil =>
  have hs:K (.bool true) h nx:=hs;obtain ⟨h',nx',he⟩:=wTrue_ok hw;have hsat:crSat (zCC P orc (exA P orc N) f [] hp0 0) (fun v _ _=>v = .bool true):=by rw [he]; rfl
  obtain ⟨hcal,hgo⟩:=zEa hP horc N f [] hp0 0 _ hsat
  refine ⟨hcal,fun B ρ w args' hr hf ha n=>?_⟩;have hr0:Rel w.heap.size (fun _=>none) (hget hp0) w:=⟨Nat.le_refl _,fun b p o hb _=>(by cases hb),fun b b' p p' hb _ _ _ _ _=>(by cases hb),fun b hs=>by rw [zI5] at hs; cases hs⟩
  cases ha;refine (hgo w.heap.size (fun _=>none) w [] hr0 (fun _ _=>rfl) .nil n).mono fun e w' he=>?_;obtain ⟨v',h2,nx2,ρ',c,rfl,rfl,hvr,hm⟩:=he;cases hvr;exact ⟨.bool true,h,nx,ρ,.bool true,rfl,hs,.bool true,Mv.still hr hm.size hm.os hm.tape hm.output fun k hk=>hm.frame k hk (by rintro ⟨b,p,hb,_⟩; cases hb)⟩
theorem live_eq {f m:Nat} (hP:POk P) (horc:zF8 P orc) (h:wTrue P orc m f=True):zKY P f zRT:=live_ok hP horc (of_eq_true h)
end
section
variable {α:Type}
def Keep (nx:Nat) (h h':Hp):Prop:=∀ b,b<nx→hget h' b=hget h b
theorem Keep.refl (nx:Nat) (h:Hp):Keep nx h h:=fun _ _=>rfl
theorem Keep.trans {nx nx':Nat} {h h' h2:Hp} (a:Keep nx h h') (b:Keep nx' h' h2) (hle:nx≤nx'):Keep nx h h2:=fun k hk=>(b k (Nat.lt_of_lt_of_le hk hle)).trans (a k hk)
theorem Keep.set {nx b:Nat} {h h':Hp} {o:AObj} (a:Keep nx h h') (hb:nx≤b):Keep nx h (hset h' b o):=fun k hk=>by
 rw [hgs,if_neg (by omega)]; exact a k hk
theorem Keep.mono {nx nx':Nat} {h h':Hp} (a:Keep nx' h h') (hle:nx≤nx'):Keep nx h h':=fun k hk=>a k (Nat.lt_of_lt_of_le hk hle)
def SlRd (h:Hp) (nx:Nat) (v:Value) (enc:α→List Value) (l:List α):Prop :=
 ∃ a cap,v = .slice a l.length cap∧(l≠[]→∃ b sp ro,b<nx∧a=some ⟨b,0,sp⟩∧hget h b=some (.cells (flat enc l) ro))
theorem SlRd.keep {h h':Hp} {nx nx':Nat} {v:Value} {enc:α→List Value} {l:List α} (hs:SlRd h nx v enc l) (hk:Keep nx h h') (hle:nx≤nx'):SlRd h' nx' v enc l:=by
 obtain ⟨a,cap,hv,hc⟩:=hs;refine ⟨a,cap,hv,fun hl=>?_⟩;obtain ⟨b,sp,ro,hb,ha,hg⟩:=hc hl;exact ⟨b,sp,ro,by omega,ha,by rw [hk b hb]; exact hg⟩
theorem SlAt.rd {h:Hp} {lo hi k:Nat} {v:Value} {enc:α→List Value} {l:List α} (hs:SlAt h v enc k l lo hi):SlRd h hi v enc l:=by
 rcases hs with ⟨rfl,rfl⟩ | ⟨b,h1,h2,rfl,hg⟩
 ·exact ⟨none,0,rfl,fun h=>absurd rfl h⟩
 ·exact ⟨_,_,rfl,fun _=>⟨b,some k,false,h2,rfl,hg⟩⟩
theorem SlRd.at {h:Hp} {nx:Nat} {v:Value} {enc:α→List Value} {l:List α} (hs:SlRd h nx v enc l) {i:Nat} {x:α} (hx:l[i]? = some x) :
  i<l.length∧∃ b sp ro cap,b<nx∧v = .slice (some ⟨b,0,sp⟩) l.length cap∧hget h b=some (.cells (flat enc l) ro):=by
 have hi:i<l.length:=by
  rcases Nat.lt_or_ge i l.length with h | h
  ·exact h
  ·rw [List.getElem?_eq_none h] at hx; cases hx
 obtain ⟨a,cap,hv,hc⟩:=hs;obtain ⟨b,sp,ro,hb,rfl,hg⟩:=hc (fun e=>by rw [e] at hi; exact absurd hi (Nat.not_lt_zero _));exact ⟨hi,b,sp,ro,cap,hb,hv,hg⟩
theorem zJs {enc:α→List Value} {k:Nat} (hk:∀ x,(enc x).length=k) {l:List α} {i j:Nat} {x:α} (hx:l[i]? = some x) (hj:j<k):(flat enc l)[i*k+j]? = (enc x)[j]?:=by
 have hg:=zE2 hk hx;have:((flat enc l).drop (i*k))[j]? = (enc x)[j]?:=by
  rw [← hg,List.getElem?_take,if_pos hj]
 rw [List.getElem?_drop] at this;exact this
end
section
variable {H:Type} {enc:TypeId × Value→H} {P:Program} {w:World} {base:Nat} {sp:Nat→Bool} {held:Bool}
structure Tri (P:Program) (t:TypeId):Prop where
 ex:∃ fs f0 f1 f2,P.underlying t=some (.struct fs)∧fs[0]? = some f0∧fs[1]? = some f1∧fs[2]? = some f2∧f0.offset=0∧f1.offset=1∧f2.offset=2 ∧
  P.underlying f0.type=some (.int .i64)∧P.underlying f1.type=some (.int .i64)∧P.underlying f2.type=some (.int .i64)∧P.cellsOf f0.type=1∧P.cellsOf f1.type=1∧P.cellsOf f2.type=1
 size:P.cellsOf t=3
abbrev Edg3:=Int × Int × Int
def enc3 (x:Edg3):List Value:=[.int .i64 x.1,.int .i64 x.2.1,.int .i64 x.2.2]
def Wf64 (n:Int):Prop:=(Lit.int .i64 n).wf=true
theorem trod_tri {t:TypeId} {fuel:Nat} {cs:List Value} {x:DataW H × List MemPlace} (T:Tri P t) (h:DataW.trod enc P w base sp held fuel t cs=some x):∃ e:Edg3,cs=enc3 e∧Wf64 e.1∧Wf64 e.2.1∧Wf64 e.2.2:=by
 obtain ⟨fs,f0,f1,f2,ht,h0,h1,h2,o0,o1,o2,u0,u1,u2,c0,c1,c2⟩:=T.ex;obtain ⟨xs,n,rfl,_,hlen,hxl,hall⟩:=DataW.trod_struct ht h;rw [T.size] at hlen;have one:∀ (i:Nat) (f:Field),fs[i]? = some f→f.offset=i→P.underlying f.type=some (.int .i64)→P.cellsOf f.type=1→∃ n:Int,(cs.drop i).take 1=[.int .i64 n]∧Wf64 n:=fun i f hf ho hu hc=>by
  have he:=hall i f hf;have hi:i<xs.length:=by rw [hxl]; exact (Array.getElem?_eq_some_iff.1 hf).1
  rw [ho,hc,List.getElem?_eq_getElem hi] at he;obtain ⟨n,h1,_,h2⟩:=DataW.trod_int hu he;exact ⟨n,h1,h2⟩
 obtain ⟨a,ha,wa⟩:=one 0 f0 h0 o0 u0 c0;obtain ⟨b,hb,wb⟩:=one 1 f1 h1 o1 u1 c1;obtain ⟨c,hc,wc⟩:=one 2 f2 h2 o2 u2 c2
 match cs,hlen with
 | [x,y,z],_ =>
  simp at ha hb hc;exact ⟨(a,b,c),by simp [enc3,ha,hb,hc],wa,wb,wc⟩
theorem zSX {a:Addr} {n:Nat} {cs:List Value} (h:w.cells? base a n=some cs):cs.length=n∧∀ i v,cs[i]? = some v→w.cell? (a.add i)=some v:=by
 unfold World.cells? at h
 split at h
 ·have hl:cs.length=n:=by simpa using mapM_some_length h
  refine ⟨hl,fun i v hv=>?_⟩;have hi:i<n:=by
   rcases Nat.lt_or_ge i cs.length with h1 | h1
   ·omega
   ·rw [List.getElem?_eq_none h1] at hv; cases hv
  have:=mapM_some_get h i i (by simp [hi]);rw [this,hv]
 ·cases h
theorem add_add (a:Addr) (i j:Nat):(a.add i).add j=a.add (i+j):=by
 unfold Addr.add
 by_cases h1:i=0
 ·subst h1; simp
 ·by_cases h2:j=0
  ·subst h2; simp
  ·simp [h1,h2,Nat.add_assoc]
theorem zQn {α:Type} {e3:α→List Value} {k:Nat} {t e:TypeId} {fuel:Nat} {cs:List Value} {x:DataW H × List MemPlace} (ht:P.underlying t=some (.slice e)) (hc:P.cellsOf e=k) (R:α→Prop)
  (hone:∀ (n:Nat) (c:List Value) y,DataW.trod enc P w base sp held n e c=some y→∃ z:α,c=e3 z∧R z)
  (h:DataW.trod enc P w base sp held fuel t cs=some x) :
  cs=[.slice none 0 0]∨∃ (a:Addr) (zs:List α) (cap:Nat),cs=[.slice (some a) zs.length cap]∧zs.length≤cap∧cap≤maxLen∧(∀ z∈zs,R z)∧∀ i v,(flat e3 zs)[i]? = some v→w.cell? (a.add i)=some v:=by
 rcases DataW.trod_slice ht h with ⟨hcs,_⟩ | ⟨a,len,cap,elems,rest,n,rfl,hcs,_,hb,hl,hm,hlen,hel,_⟩
 ·exact .inl hcs
 ·have key:∀ m,m≤len→∃ zs:List α,zs.length=m∧(∀ z∈zs,R z)∧(flat e3 zs).length=m*k∧∀ i v,(flat e3 zs)[i]? = some v→w.cell? (a.add i)=some v:=by
   intro m
   induction m with
   | zero=>intro _; exact ⟨[],rfl,by simp,by simp [flat],fun i v hv=>by simp [flat] at hv⟩
   | succ m ih =>
    intro hm';obtain ⟨zs,h1,h2,h3,h4⟩:=ih (by omega);have hE:=hel m (by omega);rw [hc,List.getElem?_eq_getElem (by omega:m<elems.length)] at hE;simp only [Option.bind_eq_some_iff] at hE;obtain ⟨c,hcc,htr⟩:=hE;obtain ⟨z,rfl,hz⟩:=hone _ _ _ htr;obtain ⟨hcl,hcg⟩:=zSX hcc;refine ⟨zs++[z],by simp [h1],fun y hy=>?_,by rw [zDT,List.length_append,h3,hcl,Nat.succ_mul],fun i v hv=>?_⟩
    ·rcases List.mem_append.1 hy with hy | hy
     ·exact h2 y hy
     ·rw [List.mem_singleton.1 hy]; exact hz
    ·rw [zDT,List.getElem?_append] at hv
     split at hv
     ·exact h4 i v hv
     ·rename_i hge
      have:=hcg _ v hv;rw [add_add,h3] at this;rw [h3] at hge;rw [show m*k+(i-m*k)=i by omega] at this;exact this
  obtain ⟨zs,h1,h2,_,h4⟩:=key len (Nat.le_refl _);exact .inr ⟨a,zs,cap,by rw [h1]; exact hcs,by omega,hm,h2,h4⟩
end
def rhoL (ps:List (Place × List Value)):Rho:=fun b=>(ps[b]?).map (·.1)
def hpL:Nat→List (Place × List Value)→Hp→Hp
 | _,[],h=>h
 | i,p::ps,h=>hpL (i+1) ps (hset h i (.cells p.2 true))
theorem zI4:∀ (ps:List (Place × List Value)) (i:Nat) (h:Hp) (b:Nat),hget (hpL i ps h) b=if b<i then hget h b else match ps[b-i]? with
  | some p=>some (.cells p.2 true)
  | none=>hget h b
 | [],i,h,b=>by by_cases hb:b<i <;> simp [hpL,hb]
 | p::ps,i,h,b=>by
  show hget (hpL (i+1) ps (hset h i (.cells p.2 true))) b=_;rw [zI4 ps (i+1) _ b,hgs]
  by_cases h1:b<i
  ·rw [if_pos (by omega),if_neg (by omega),if_pos h1]
  ·by_cases h2:b=i
   ·subst h2;simp
   ·rw [if_neg (by omega),if_neg h1,if_neg h2];obtain ⟨j,hj⟩:∃ j,b-i=j+1:=⟨b-i-1,by omega⟩
    rw [hj,show b-(i+1)=j by omega];rfl
theorem zMw {ps:List (Place × List Value)} {b:Nat} {o:AObj} (h:hget (hpL 0 ps hp0) b=some o):∃ p,ps[b]? = some p∧o = .cells p.2 true:=by
 rw [zI4,if_neg (Nat.not_lt_zero _),Nat.sub_zero,zI5] at h;cases hp:ps[b]? with
 | none=>rw [hp] at h; cases h
 | some p=>rw [hp] at h; cases h; exact ⟨p,rfl,rfl⟩
theorem hpL_at {ps:List (Place × List Value)} {b:Nat} {p:Place × List Value} (h:ps[b]? = some p):hget (hpL 0 ps hp0) b=some (.cells p.2 true):=by
 rw [zI4,if_neg (Nat.not_lt_zero _),Nat.sub_zero,h]
def InW (w:World) (ps:List (Place × List Value)):Prop:=∀ p∈ps,∃ c e fr,w.heap[p.1.blk]? = some (.cells c e fr)∧CellsR (rhoL ps) p.2 c p.1.off
theorem zRR {w:World} {b:Nat} {x:Obj} (h:w.heap[b]? = some x):b<w.heap.size:=(Array.getElem?_eq_some_iff.1 h).1
theorem in_rel {w:World} {ps:List (Place × List Value)} (hin:InW w ps):Rel w.heap.size (rhoL ps) (hget (hpL 0 ps hp0)) w where
 base:=Nat.le_refl _
 obj:=fun b p o hb ho=>by
  obtain ⟨q,hq,rfl⟩:=zMw ho;unfold rhoL at hb;rw [hq] at hb; cases hb;obtain ⟨c,e,fr,hw,hc⟩:=hin q (List.mem_of_getElem? hq);exact ⟨zRR hw,c,e,fr,hw,hc⟩
 inj:=fun b b' p p' hb hb' hs _ hB _=>by
  exfalso;unfold rhoL at hb;cases hq:ps[b]? with
  | none=>rw [hq] at hb; cases hb
  | some q =>
   rw [hq] at hb;have hb:q.1=p:=by simpa using hb
   subst hb;obtain ⟨c,e,fr,hw,_⟩:=hin q (List.mem_of_getElem? hq);have:=zRR hw;omega
 dom:=fun b hs=>by
  obtain ⟨o,ho⟩:=Option.isSome_iff_exists.1 hs;obtain ⟨q,hq,_⟩:=zMw ho;unfold rhoL;rw [hq]; rfl
theorem in_fr (ps:List (Place × List Value)):Fr (rhoL ps) ps.length:=fun b hb=>by
 unfold rhoL;rw [List.getElem?_eq_none hb]; rfl
theorem below_of {B nx nx':Nat} {ρ ρ':Rho} {H H':AH} {w w':World} (hB:B=w.heap.size) (hm:Mv B ρ H w nx nx' ρ' H' w'):RowKit.Below w.heap.size w w' :=
 ⟨hm.os,hm.tape.1,hm.output,hm.size,fun k hk=>hm.frame k hk (by rintro ⟨b,p,_,_,_,h⟩; omega)⟩
section
variable {P:Program} {orc:Orc}
theorem run_ok (hP:POk P) (horc:zF8 P orc) {f:FuncId} {args:List Value} {h:Hp} {nx:Nat} (hc:Cv P orc false f args h nx (fun v _ _=>v = .bool true))
  {ρ:Rho} {w:World} {args':List Value} (hr:Rel w.heap.size ρ (hget h) w) (hf:Fr ρ nx) (ha:VRL ρ args args') (n:Nat) :
  CallsIn Fence.wide n P f ⟨args'⟩ w (fun e w'=>e = .returned (.bool true)∧RowKit.Below w.heap.size w w'):=by
 obtain ⟨N,hN⟩:=hc;have hs:=(zDW (P:=P) (orc:=orc) N f args h nx).sat hN.1;obtain ⟨_,h2⟩:=zEa hP horc N f args h nx _ hs;refine (h2 w.heap.size ρ w args' hr hf ha n).mono fun e w' he=>?_;obtain ⟨v',h',nx',ρ',c,rfl,rfl,hvc,hm⟩:=he;cases hvc;exact ⟨rfl,below_of rfl hm⟩
end
section
variable {H:Type} {enc:TypeId × Value→H} {P:Program} {w:World} {sp:Nat→Bool} {held:Bool} {α:Type}
def zN6 (w:World) (b off:Nat) (l:List Value):Prop:=∃ c e fr,w.heap[b]? = some (.cells c e fr)∧∀ i x,l[i]? = some x→c[off+i]? = some x
theorem zK8 {w:World} {b:Nat} {x:TypeId × Nat} (h:w.shape? b=some x):∃ c e fr,w.heap[b]? = some (.cells c e fr):=by
 unfold World.shape? at h
 split at h
 ·rename_i c e fr hc; exact ⟨_,_,_,hc⟩
 all_goals cases h
theorem zKv {e3:α→List Value} {k:Nat} {t e:TypeId} {r:Reach} {base b0 fuel:Nat} {v:Value} {x:DataW H × List MemPlace} (ht:P.underlying t=some (.slice e)) (hc:P.cellsOf e=k) (R:α→Prop)
  (hone:∀ (n:Nat) (c:List Value) y,DataW.trod enc P w base sp held n e c=some y→∃ z:α,c=e3 z∧R z)
  (h:DataW.trod enc P w base sp held fuel t [v]=some x) (hval:Cell.okWide P w r b0 t v) :
  ∃ zs:List α,(∀ z∈zs,R z)∧((zs=[]∧v = .slice none 0 0)∨∃ b off cap,v = .slice (some ⟨b,off,none⟩) zs.length cap∧zN6 w b off (flat e3 zs)):=by
 rcases zQn ht hc R hone h with hcs | ⟨a,zs,cap,hcs,hl,hm,hR,hcell⟩
 ·injection hcs with hcs _
  exact ⟨[],by simp,.inl ⟨rfl,hcs⟩⟩
 ·injection hcs with hcs _
  subst hcs;refine ⟨zs,hR,.inr ?_⟩;unfold Cell.okWide at hval;rw [ht] at hval;simp only at hval;unfold Cell.ok at hval;rw [ht] at hval;obtain ⟨_,_,hhas⟩:=hval;obtain ⟨_,hspot,row,cells,hsh,_⟩:=hhas;obtain ⟨b,off,spot⟩:=a;simp only at hspot hsh;subst hspot;obtain ⟨c,e',fr,hw⟩:=zK8 hsh;refine ⟨b,off,cap,rfl,c,e',fr,hw,fun i y hy=>?_⟩;have h1:=hcell i y hy;have e1:(Addr.add ⟨b,off,none⟩ i)=⟨b,off+i,none⟩:=by
   unfold Addr.add
   by_cases hi:i=0
   ·subst hi; simp
   ·simp [hi]
  rw [e1] at h1;unfold World.cell? at h1;simpa [hw] using h1
theorem zAq {t:TypeId} {k:IntKind} {fuel:Nat} {c:Value} {x:DataW H × List MemPlace} (ht:P.underlying t=some (.int k)) (h:DataW.trod enc P w 0 sp held fuel t [c]=some x):∃ n:Int,c = .int k n:=by
 obtain ⟨n,h1,_⟩:=DataW.trod_int ht h;injection h1 with h1 _
 exact ⟨n,h1⟩
end
def inPs (v:Value) (l:List Value):List (Place × List Value):=match v with
 | .slice (some a) _ _=>[(⟨a.block,a.off,0,0⟩,l)]
 | _=>[]
section
variable {α:Type}
def SlNw (h:Hp) (lo hi:Nat) (v:Value) (enc:α→List Value) (l:List α):Prop :=
 ∃ a cap,v = .slice a l.length cap∧(l≠[]→∃ b sp ro,lo≤b∧b<hi∧a=some ⟨b,0,sp⟩∧hget h b=some (.cells (flat enc l) ro))
theorem SlNw.rd {h:Hp} {lo hi:Nat} {v:Value} {enc:α→List Value} {l:List α} (hs:SlNw h lo hi v enc l):SlRd h hi v enc l:=by
 obtain ⟨a,cap,hv,hc⟩:=hs;refine ⟨a,cap,hv,fun hl=>?_⟩;obtain ⟨b,sp,ro,_,hb,ha,hg⟩:=hc hl;exact ⟨b,sp,ro,hb,ha,hg⟩
theorem SlNw.keep {h h':Hp} {lo hi lo' hi':Nat} {v:Value} {enc:α→List Value} {l:List α} (hs:SlNw h lo hi v enc l) (hk:∀ b,lo≤b→b<hi→hget h' b=hget h b) (h1:lo'≤lo) (h2:hi≤hi'):SlNw h' lo' hi' v enc l:=by
 obtain ⟨a,cap,hv,hc⟩:=hs;refine ⟨a,cap,hv,fun hl=>?_⟩;obtain ⟨b,sp,ro,hb1,hb,ha,hg⟩:=hc hl;exact ⟨b,sp,ro,by omega,by omega,ha,by rw [hk b hb1 hb]; exact hg⟩
theorem SlAt.nw {h:Hp} {lo hi k:Nat} {v:Value} {enc:α→List Value} {l:List α} (hs:SlAt h v enc k l lo hi):SlNw h lo hi v enc l:=by
 rcases hs with ⟨rfl,rfl⟩ | ⟨b,h1,h2,rfl,hg⟩
 ·exact ⟨none,0,rfl,fun h=>absurd rfl h⟩
 ·exact ⟨_,_,rfl,fun _=>⟨b,some k,false,h1,h2,rfl,hg⟩⟩
end
section
variable {P:Program} {orc:Orc} {s:Bool}
@[congr] theorem RK_congr {α:Type} {r r':R α} {k:α→Prop} (h:r=r'):RK r k=RK r' k:=by rw [h]
theorem Ev.cut {a b:CC} {tm:Tm} {h:Hp} {nx:Nat} {K:KO'} (Q:KS') (h1:Ev P orc s a tm h nx (zLB Q K)) (h2:∀ tm h nx,Q tm h nx→Ev P orc s b tm h nx K):Ev P orc s (.seq a b) tm h nx K :=
 Ev.seq (h1.mono fun x tm h nx hx=>by
  cases x with
  | normal=>exact h2 tm h nx hx
  | ret=>exact hx
  | exit i=>exact hx)
@[simp] theorem alc_new (tm:Tm) (l:List Value):calq P tm (.new l) = .ok (.ptr (.cells l false)):=rfl
@[simp] theorem zLE (nx:Nat) (o:AObj):nbV nx (.ptr o) = .pointer (some ⟨nx,0,none⟩):=rfl
@[simp] theorem zLF (o:AObj):nbO (.ptr o)=o:=rfl
@[simp] theorem zGX (nx:Nat) (o:AObj) (n c:Nat):nbV nx (.slice o n c) = .slice (some ⟨nx,0,none⟩) n c:=rfl
@[simp] theorem zGY (o:AObj) (n c:Nat):nbO (.slice o n c)=o:=rfl
@[simp] theorem zPM (k:IntKind) (n:Int):zC (.int k n)=[.int k n]:=rfl
@[simp] theorem zID (a:Option Addr) (n c:Nat):zC (.slice a n c)=[.slice a n c]:=rfl
@[simp] theorem zPN (l:List Value):zC (.agg ⟨l⟩)=l:=rfl
@[simp] theorem zK2 (b:Bool):zC (.bool b)=[.bool b]:=rfl
@[simp] theorem zPL (a:Option Addr):zC (.pointer a)=[.pointer a]:=rfl
@[simp] theorem zGw (k:IntKind) (n:Int):zA9 (.int k n)=true:=rfl
@[simp] theorem zFD (b:Bool):zA9 (.bool b)=true:=rfl
@[simp] theorem zDt (a:Option Addr) (n c:Nat):zA9 (.slice a n c)=true:=rfl
@[simp] theorem zGv (a:Option Addr):zA9 (.pointer a)=true:=rfl
@[simp] theorem zGx:zV []=true:=rfl
@[simp] theorem zCU (x:Value) (l:List Value):zV (x::l)=(zA9 x&&zV l):=by
 show (bif zA9 x then zV l else false)=_;cases zA9 x <;> rfl
@[simp] theorem zOZ (tm:Tm) (z:List Value) (ps:List (Nat × Nat × Co)):cpur P tm (.build z ps)=R.bind (zAG tm ps z) (fun l=>.ok (.agg ⟨l⟩)):=rfl
@[simp] theorem alc_bsl (tm:Tm) (n:Nat) (z:List Value) (ps:List (Nat × Nat × Co)):calq P tm (.bsl n z ps)=R.bind (zAG tm ps z) (fun l=>zAK l n n):=rfl
@[simp] theorem zNj (l:List Value) (a b:Nat):zAK l a b=if zV l=true then .ok (.slice (.cells l false) a b) else .no "cells" := by
 show (bif zV l then _ else _)=_;cases zV l <;> rfl
@[simp] theorem zSR (tm:Tm) (z:List Value):zAG tm [] z = .ok z:=rfl
@[simp] theorem zO4 (tm:Tm) (off sz:Nat) (x:Co) (ps:List (Nat × Nat × Co)) (z:List Value) :
  zAG tm ((off,sz,x)::ps) z=if (zC (cev tm x)).length=sz then (if off+sz≤z.length then zAG tm ps (z.take off++(zC (cev tm x)++z.drop (off+sz))) else .no "fill") else .no "fill - size" := by
 show zAH (zAG tm ps) off sz (zC (cev tm x)) z=_;unfold zAH;rw [zy,zAy]
 by_cases h1:(zC (cev tm x)).length=sz
 ·have e1:Nat.beq (zC (cev tm x)).length sz=true:=by rw [h1]; exact Nat.beq_refl sz
  rw [e1,h1]
  by_cases h2:off+sz≤z.length <;> simp [h2]
 ·have e1:Nat.beq (zC (cev tm x)).length sz=false:=by
   cases hb:Nat.beq (zC (cev tm x)).length sz with
   | false=>rfl
   | true=>exact absurd (Nat.eq_of_beq_eq_true hb) h1
  rw [e1];simp [h1]
@[simp] theorem ne2 (n:Nat):(n=n+1+1)↔False:=⟨fun h=>(by omega),False.elim⟩
@[simp] theorem ne3 (n:Nat):(n=n+1+1+1)↔False:=⟨fun h=>(by omega),False.elim⟩
@[simp] theorem ne4 (n:Nat):(n=n+1+1+1+1)↔False:=⟨fun h=>(by omega),False.elim⟩
@[simp] theorem ne2' (n:Nat):(n+1+1=n)↔False:=⟨fun h=>(by omega),False.elim⟩
@[simp] theorem ne3' (n:Nat):(n+1+1+1=n)↔False:=⟨fun h=>(by omega),False.elim⟩
@[simp] theorem ne4' (n:Nat):(n+1+1+1+1=n)↔False:=⟨fun h=>(by omega),False.elim⟩
@[simp] theorem boolIs_t (b:Bool):zp true (.bool b)=b:=rfl
@[simp] theorem boolIs_f (b:Bool):zp false (.bool b)=!b:=rfl
@[simp] theorem boolIs_u (b:Bool):zp b zL=false:=rfl
theorem zOQ (e:CP):zAW (.pur e)=false:=rfl
theorem zOS (e:CA):zAW (.alc e)=false:=rfl
theorem zOP (e:CRd):zAW (.red e)=false:=rfl
theorem zOR (e:CE):zAW (.eff e)=true:=rfl
theorem zHD (a:Addr):zHE a a=true:=by
 obtain ⟨b,o,sp⟩:=a;unfold zHE;cases sp <;> simp
@[simp] theorem zCh (k:IntKind) (n:Int):zEH (.int k n) (.int k n)=true:=by
 show (keq k k&&ieq n n)=true;rw [zBp,zAB]; simp
@[simp] theorem zDA (b:Bool):zEH (.bool b) (.bool b)=true:=by
 show (b == b)=true;simp
@[simp] theorem zAw (a:Option Addr) (l c:Nat):zEH (.slice a l c) (.slice a l c)=true:=by
 cases a with
 | none=>show (Nat.beq l l&&Nat.beq c c)=true; simp
 | some a=>show (zHE a a&&Nat.beq l l&&Nat.beq c c)=true; simp [zHD]
@[simp] theorem sameV_agg (l:List Value):zEH (.agg ⟨l⟩) (.agg ⟨l⟩)=zEJ l l:=rfl
@[simp] theorem zPc:zEJ [] []=true:=rfl
@[simp] theorem zNl (x y:Value) (l m:List Value):zEJ (x::l) (y::m)=(zCi x y&&zEJ l m):=rfl
@[simp] theorem same1_int (k:IntKind) (n:Int):zCi (.int k n) (.int k n)=true:=zCh k n
@[simp] theorem same1_slice (a:Option Addr) (l c:Nat):zCi (.slice a l c) (.slice a l c)=true:=zAw a l c
@[simp] theorem sameR_ok (v w:Value):zA7 v (.ok w)=zEH v w:=rfl
@[simp] theorem cagree_0 (tm:Tm) (e:CRd) (v:Value) (hs:List Hp):zAA P tm e v 0 hs=true:=by cases hs <;> rfl
@[simp] theorem zNV (tm:Tm) (e:CRd) (v:Value) (n:Nat) (h:Hp) (hs:List Hp):zAA P tm e v (n+1) (h::hs)=(zA7 v (cred P tm h e)&&zAA P tm e v n hs):=by
 show (bif zA7 v (cred P tm h e) then zAA P tm e v n hs else false)=_;cases zA7 v (cred P tm h e) <;> rfl
@[simp] theorem zNW (tm:Tm) (e:CRd) (v:Value) (h:Hp) (hs:List Hp):zAA P tm e v 1 (h::hs)=zA7 v (cred P tm h e):=by
 rw [show (1:Nat)=0+1 from rfl,zNV]; simp
@[simp] theorem cagree_2 (tm:Tm) (e:CRd) (v:Value) (h h2:Hp) (hs:List Hp):zAA P tm e v 2 (h::h2::hs)=(zA7 v (cred P tm h e)&&zA7 v (cred P tm h2 e)):=by
 rw [show (2:Nat)=1+1 from rfl,zNV,zNW]
theorem cell_get {α:Type} {enc:α→List Value} {k:Nat} (hk:∀ x,(enc x).length=k) {l:List α} {i j:Nat} {x:α} {v:Value} (hx:l[i]? = some x) (hj:(enc x)[j]? = some v):(flat enc l)[i*k+j]? = some v:=by
 rw [zJs hk hx (by have:=(List.getElem?_eq_some_iff.1 hj).1; rw [hk] at this; exact this),hj]
end
open Go Go.Proofs Go.Sort Go.Shelf
set_option linter.unusedSectionVars false
section
variable {P:Program}
@[simp] theorem zFF (t:TypeId) (k:IntKind) (a b:Int):bin P .mul t (.int k a) (.int k b) = .ok (.int k (k.wrap (a*b))):=by rw [zHB _ _ _ _ _ rfl,← zAN]; rfl
theorem zIv {t:TypeId} {k:IntKind} {a b:Int} (hb:b≠0):bin P .quo t (.int k a) (.int k b) = .ok (.int k (k.wrap (a.tdiv b))):=by
 rw [zHB _ _ _ _ _ rfl];show iDiv .quo k a b=_;unfold iDiv;rw [zAB,show (b == 0)=false by simp [hb],← zAN];rfl
end
section
variable {P:Program} {α:Type} [Inhabited α] {enc:α→List Value} {k:Nat}
def ltC (c:α→α→Int) (x y:α):Bool:=decide (c x y<0)
def zSm (enc:α→List Value) (c:α→α→Int) (l:List α) (b nx:Nat) (h:Hp):KC':=fun _ h' nx'=>nx≤nx'∧(∃ l':List α,l'.Perm l∧l'.Pairwise (fun x y=>¬ c y x<0)∧hget h' b=some (.cells (flat enc l') false))∧∀ c,c<nx→c≠b→hget h' c=hget h c
theorem grown_of {w w':World} (hs:w.heap.size≤w'.heap.size) (ho:w'.os=w.os) (ht:Tp w w') (hu:w'.output=w.output) (hf:∀ k,k<w.heap.size→w'.heap[k]? = w.heap[k]?):∃ q os,w'=grow (w.drewN q) os:=by
 refine ⟨w'.drawn-w.drawn,w'.heap.extract w.heap.size w'.heap.size,?_⟩;obtain ⟨hp,tp,dr,os,ou⟩:=w';have h1:hp=w.heap++hp.extract w.heap.size hp.size:=by
  apply Array.ext_getElem?;intro i;rw [Array.getElem?_append]
  split
  ·rename_i hi
   exact hf i hi
  ·rename_i hi
   rw [Array.getElem?_extract]
   split
   ·rw [show w.heap.size+(i-w.heap.size)=i by omega]
   ·rename_i h2
    have:hp.size≤i:=by omega
    rw [Array.getElem?_eq_none this]
 have h2:dr=w.drawn+(dr-w.drawn):=by have:=ht.2; simp only at this; omega
 have h3:tp=w.tape:=ht.1;simp only at ho hu h1 h2;unfold grow World.drewN;rw [← h1,← h2,h3,ho,hu]
theorem zEk:∀ {l:List Value},plainL l=true→∀ {x},x∈l→zBF x=true
 | y::l,h,x,hx=>by
  have h:(zBF y&&plainL l)=true:=h;simp only [Bool.and_eq_true] at h;rcases List.mem_cons.1 hx with rfl | hx
  ·exact h.1
  ·exact zEk h.2 hx
theorem lays_of (hP:POk P) {fc:FuncId} {c:α→α→Int} (hp:∀ x,plainL (enc x)=true) (hc:zSr P orc0 fc enc c) (blk off size:Nat) (w:World):CmpLays P fc #[] enc k c blk off size w:=by
 intro m os dk _ x y;generalize sortWorldK enc k w blk off m dk os=W;obtain ⟨N,hN⟩:=hc x y hp0 0;have hs:=(zDW (P:=P) (orc:=orc0) N fc _ hp0 0).sat hN.1;obtain ⟨_,h2⟩:=zEa hP zQl N fc _ hp0 0 _ hs;have hrel:Rel W.heap.size (fun _=>none) (hget hp0) W:=⟨Nat.le_refl _,fun b p o h=>(by cases h),fun b b' p p' h=>(by cases h),fun b h=>by rw [zI5] at h; cases h⟩
 have hv:VRL (fun _=>none) [.agg ⟨enc x⟩,.agg ⟨enc y⟩] [.agg ⟨enc x⟩,.agg ⟨enc y⟩]:=.cons (.agg (zC1 (hp x) _)) (.cons (.agg (zC1 (hp y) _)) .nil);have:=callsIn_wide.1 (h2 W.heap.size _ W _ hrel (fun b _=>rfl) hv 0);refine Calls.mono this ?_;rintro e w' ⟨v,h',nx',ρ',cv,rfl,⟨rfl,_⟩,hvc,hm⟩;have:cv = .int .i64 (c x y):=zCJ rfl hvc;subst this;exact ⟨rfl,grown_of hm.size hm.os hm.tape hm.output fun k hk=>hm.frame k hk (by rintro ⟨b,p,hb,_⟩; cases hb)⟩
def zC7 (c:α→α→Int) (l:List α):List α:=(pdq (ltOf c) l.toArray 0 l.length (Lib.bitLen l.length) true true).toList
open Classical in
noncomputable def zHN (enc:α→List Value) (c:α→α→Int) (fc:FuncId) (args:List Value) (h:Hp) (nx:Nat):CR:=match args with
 | [.slice (some ⟨b,0,_⟩) n _,.func (.func g) ⟨[]⟩ ⟨[]⟩]=>if H:g=fc∧n<1000000∧∃ l:List α,l.length=n∧hget h b=some (.cells (flat enc l) false) then .ok (.tuple #[]) (hset h b (.cells (flat enc (zC7 c H.2.2.choose)) false)) nx else .no "sort"
 | [.slice none 0 0,.func (.func g) ⟨[]⟩ ⟨[]⟩]=>.ok (.tuple #[]) h nx
 | _=>.no "sort"
theorem zJJ {c:α→α→Int} (hO:SWO (ltOf c)) (l:List α):(zC7 c l).length=l.length∧(zC7 c l).Perm l∧(zC7 c l).Pairwise (fun x y=>¬ c y x<0):=by
 have h:=pdq_sorts (ltOf c) hO l.toArray 0 l.length (Lib.bitLen l.length) true true (Nat.zero_le _) (by simp) (Or.inl rfl);unfold zC7;generalize pdq (ltOf c) l.toArray 0 l.length (Lib.bitLen l.length) true true=R at *
 obtain ⟨hp,hso⟩:=h;have hRn:R.size=l.length:=by rw [hp.1]; simp
 refine ⟨by simpa using hRn,?_,?_⟩
 ·have h3:=hp.2.2;have e1:R.extract 0 l.length=R:=by rw [← hRn]; simp
  have e2:l.toArray.extract 0 l.length=l.toArray:=by simp
  rw [e1,e2] at h3;simpa using h3
 ·rw [List.pairwise_iff_getElem];intro i j hi hj hij;have hj':j<R.size:=by simpa using hj
  have hi':i<R.size:=by simpa using hi
  have h4:=hso i j (Nat.zero_le _) hij (by omega);rw [getElem!_pos R i hi',getElem!_pos R j hj'] at h4;have h5:=of_decide_eq_false h4;simpa using h5
theorem zI8 (hk:∀ x,(enc x).length=k) (l:List α) {t:Nat} (ht:t<l.length*k):(flat enc l)[t]? = some (flatK enc k l.toArray)[t]!:=by
 have k0:0<k:=Nat.pos_of_ne_zero (fun h=>by subst h; simp at ht);have hq:t / k<l.length:=(Nat.div_lt_iff_lt_mul k0).2 ht;have hm:=Nat.mod_lt t k0;rw [get_flatK _ _ _ _ (by simpa using ht)];have e:t=t / k*k+t % k:=by rw [Nat.mul_comm]; exact (Nat.div_add_mod t k).symm
 conv=>lhs; rw [e]
 have h1:(l.toArray)[t / k]! = l[t / k]:=by simp [hq]
 have hm':t % k<(enc l[t / k]).length:=by rw [hk]; exact hm
 rw [cell_get hk (List.getElem?_eq_getElem hq) (List.getElem?_eq_getElem hm'),h1];simp [hm']
theorem zMy (hP:POk P) {rn:Ren} {f fc:FuncId} {c:α→α→Int} (L:SlLaysF0.n6 P rn) (hf:rn.f 6=f) (hcal:zAs P f) (hcc:zAs P fc) (hO:SWO (ltOf c)) (aE:∀ w,(isAgg (rn.t 24)).run P w = .ok true w) (zE:∀ w,(Go.sizeOf (rn.t 24)).run P w = .ok k w)
  (hk:∀ x,(enc x).length=k) (hp:∀ x,plainL (enc x)=true) (h1:∀ x,∀ v∈enc x,v.oneCell'=true) (hc:zSr P orc0 fc enc c):zKY P f (zHN enc c fc):=by
 subst hf;intro args h nx K hs;refine ⟨hcal,fun B ρ w args' hr hfr ha n0=>callsIn_wide.2 ?_⟩;unfold zHN at hs
 split at hs
 ·rename_i b sp n cap g
  split at hs
  ·rename_i H
   obtain ⟨rfl,hn,H⟩:=H;have hl:=H.choose_spec;have hs:K (.tuple #[]) (hset h b (.cells (flat enc (zC7 c H.choose)) false)) nx:=hs;generalize H.choose=l at *
   obtain ⟨hln,hh⟩:=hl;obtain ⟨s1,s2,s3⟩:=zJJ hO l;obtain ⟨_,_,hx,hy,rfl⟩:∃ x y,VR ρ _ x∧VR ρ _ y∧args'=[x,y]:=by
    cases ha with | cons hx ha=>cases ha with | cons hy ha=>cases ha; exact ⟨_,_,hx,hy,rfl⟩
   cases zCJ (ρ:=ρ) rfl hy;obtain ⟨a',c',rfl,hcase⟩:=hx.slice_inv;have hmid:∀ w',(Mv B ρ (hget h) w nx nx ρ (hget (hset h b (.cells (flat enc (zC7 c l)) false))) w')→Fin B ρ h w nx K (.returned (.tuple #[])) w':=fun w' hm=>⟨_,_,_,ρ,_,rfl,hs,.tuple .nil,hm⟩
   rcases Nat.eq_zero_or_pos n with h0 | hpos
   ·subst h0;have hl0:l=[]:=List.eq_nil_of_length_eq_zero hln;have hs0:zC7 c l=[]:=List.eq_nil_of_length_eq_zero (by rw [s1]; exact hln);refine (AnyF.slices_SortFunc_none L a' c' _ w).mono ?_;rintro e w' ⟨rfl,rfl⟩;refine hmid _ ?_;have:hget (hset h b (.cells (flat enc (zC7 c l)) false))=hget h:=funext fun x=>by
     rw [zB8]
     split
     ·rename_i e; rw [e,hh,hs0,hl0]
     ·rfl
    rw [this];exact Mv.refl nx hr
   ·obtain ⟨p,hb,rfl⟩:∃ p,ρ b=some p∧a'=some ⟨p.blk,p.off+0,none⟩:=by
     rcases hcase with ⟨h,_⟩ | ⟨b0,o0,sp0,p,h,hb,rfl,_⟩ | ⟨b0,o0,g,o',h,hl0,_⟩
     ·cases h
     ·cases h; exact ⟨p,hb,rfl⟩
     ·omega
    have hobj:=hr.obj b p _ hb hh;obtain ⟨hB,hoff,cc,e',lo,hi,hw,hfz,hcells,hcsz⟩:=hobj;have hfl:=zo (enc:=enc) hk l;have hcc':l.length*k≤cc.size:=by omega
    have hgt:∀ t,t<l.length*k→cc[t]? = some (flatK enc k l.toArray)[t]!:=fun t ht=>by
     obtain ⟨v',e1,e2⟩:=hcells t _ (zI8 hk l ht);rw [Nat.zero_add] at e1;have hpl:zBF (flatK enc k l.toArray)[t]! = true:=zEk (zDI hp l) (List.mem_of_getElem? (zI8 hk l ht));rw [e1,zCJ hpl e2]
    have hH:HoldsK enc k w p.blk 0 l.toArray:=fun t ht=>by
     have ht:t<l.length*k:=by simpa using ht
     refine ⟨?_,?_⟩
     ·simp only [World.cell?,hw,Nat.zero_add,Option.isSome_none,Bool.false_eq_true,if_false];exact hgt t ht
     ·simp only [World.frozen?,hw];rcases hfz with h | h
      ·simp; omega
      ·simp; omega
    have hcon:=AnyQ.slices_SortFunc_eq L k aE zE enc hk h1 c hO g #[] p.blk 0 c' l.toArray w (by
     obtain ⟨fn,q1,q2,q3⟩:=hcc;obtain ⟨cd,q4⟩:=Option.isSome_iff_exists.1 q2;exact enters_of q1 q3 q4) (lays_of hP hp hc _ _ _ _) hH (hr.obj b p _ hb hh).blk_lt (by simp; omega)
    rw [show l.toArray.size=n by simpa using hln] at hcon;rw [hoff];refine Calls.mono hcon ?_;rintro e w' ⟨rfl,m,os,rfl⟩;refine hmid _ ?_;have hd:(pdq (ltOf c) l.toArray 0 n (Lib.bitLen n) true true)=(zC7 c l).toArray:=by unfold zC7; rw [hln]
    rw [hd];unfold sortWorldK;generalize zC7 c l=d at *
    have hdl:d.length*k=l.length*k:=by rw [s1]
    have hwh:(putRowK enc k (Sort.ahead w m) p.blk 0 d.toArray).heap[p.blk]? = some (.cells (putCells id 0 (flatK enc k d.toArray) cc) e' (lo,hi)):=by
     simp [putRowK,putRow,mapBlock,Sort.ahead,Array.getElem?_modify,hw,onCells]
    have hsz:(putCells id 0 (flatK enc k d.toArray) cc).size=cc.size:=by simp [putCells]
    have hfd:=zo (enc:=enc) hk d;have hm1:Mv B ρ (hget h) w nx nx ρ (AH.put (hget h) b (.cells (flat enc d) false)) (putRowK enc k (Sort.ahead w m) p.blk 0 d.toArray):=by
     refine Mv.change nx hr hb hh hB (by simp [putRowK,Sort.ahead]) (fun x hx=>?_) rfl ⟨rfl,Nat.le_add_right _ _⟩ rfl ⟨hB,hoff,_,e',lo,hi,hwh,by rw [hsz]; exact hfz,fun i v hv=>?_,by rw [hsz,hfd,hdl,← hfl]; exact hcsz⟩
     ·simp [putRowK,putRow,mapBlock,Sort.ahead,Array.getElem?_modify,Ne.symm hx]
     ·have hi':i<d.length*k:=by rw [← hfd]; exact (List.getElem?_eq_some_iff.1 hv).1
      have e1:=zI8 hk d hi';rw [hv] at e1;refine ⟨v,?_,zB3 (zEk (zDI hp d) (List.mem_of_getElem? hv)) ρ⟩;have hic:i<cc.size:=by omega
      simp [putCells,Array.getElem?_mapIdx,hic,hi'];rw [getElem!_pos _ _ (by simpa using hi')] at e1;exact (Option.some.inj e1).symm
    rw [zBC];exact hm1.trans (Mv.still hm1.rel (by simp) rfl ⟨rfl,Nat.le_refl _⟩ rfl fun k hk=>heap_grow_old _ _ hk)
  ·exact hs.elim
 ·rename_i g
  obtain ⟨_,_,hx,hy,rfl⟩:∃ x y,VR ρ _ x∧VR ρ _ y∧args'=[x,y]:=by
   cases ha with | cons hx ha=>cases ha with | cons hy ha=>cases ha; exact ⟨_,_,hx,hy,rfl⟩
  cases hx;refine (AnyF.slices_SortFunc_none L none 0 _ w).mono ?_;rintro e w' ⟨rfl,rfl⟩;exact ⟨_,h,nx,ρ,_,rfl,hs,.tuple .nil,Mv.refl nx hr⟩
 ·exact hs.elim
theorem zND (hk:∀ x,(enc x).length=k) (hk0:0<k) (hi:∀ x y,enc x=enc y→x=y):∀ {l m:List α},flat enc l=flat enc m→l=m
 | [],[],_=>rfl
 | [],y::m,h=>by have:=congrArg List.length h; simp [flat,hk] at this; omega
 | x::l,[],h=>by have:=congrArg List.length h; simp [flat,hk] at this; omega
 | x::l,y::m,h=>by
  have h:enc x++flat enc l=enc y++flat enc m:=h;obtain ⟨h1,h2⟩:=List.append_inj h (by rw [hk,hk]);rw [hi _ _ h1,zND hk hk0 hi h2]
theorem zMz {orc:Orc} {s:Bool} {f fc:FuncId} {c:α→α→Int} (ho:orc f=some (zHN enc c fc)) (hO:SWO (ltOf c)) (hk:∀ x,(enc x).length=k) (hk0:0<k) (hi:∀ x y,enc x=enc y→x=y)
  {h:Hp} {nx b n cap:Nat} {sp:Option Nat} {l:List α} (hln:l.length=n) (hn:n<1000000) (hb:b<nx) (hh:hget h b=some (.cells (flat enc l) false)) :
  Cv P orc s f [.slice (some ⟨b,0,sp⟩) n cap,.func (.func fc) #[] #[]] h nx (zSm enc c l b nx h):=by
 have H:fc=fc∧n<1000000∧∃ l:List α,l.length=n∧hget h b=some (.cells (flat enc l) false):=⟨rfl,hn,l,hln,hh⟩
 refine Cv.byOrc ho (by unfold zHN; exact dif_pos H) ?_;have e:H.2.2.choose=l:=by
  exact zND hk hk0 hi (AObj.cells.inj (Option.some.inj (H.2.2.choose_spec.2.symm.trans hh))).1
 rw [e];obtain ⟨s1,s2,s3⟩:=zJJ hO l;exact ⟨Nat.le_refl _,⟨_,s2,s3,by rw [zB8,if_pos rfl]⟩,fun c hc hne=>by rw [zB8,if_neg hne]⟩
theorem zJo {orc:Orc} {s:Bool} {f fc:FuncId} {c:α→α→Int} (ho:orc f=some (zHN enc c fc)) {h:Hp} {nx:Nat} {K:KC'} (hk:K (.tuple #[]) h nx):Cv P orc s f [.slice none 0 0,.func (.func fc) #[] #[]] h nx K :=
 Cv.byOrc ho (by unfold zHN; rfl) hk
end
def za (x:Int):List Value:=[.int .i64 x]
def ints (l:List Int):List Value:=l.map (fun x=>Value.int .i64 x)
theorem zS:∀ l:List Int,flat za l=ints l
 | []=>rfl
 | x::l=>by show za x++flat za l=_; rw [zS l]; rfl
theorem zO {l:List Int} {i:Nat} {x:Int} (h:l[i]? = some x):(ints l)[i]? = some (.int .i64 x):=by simp [ints,h]
theorem zDR (l:List Int):(ints l).length=l.length:=by simp [ints]
theorem ints_set (l:List Int) (i:Nat) (x:Int):(ints l).set i (.int .i64 x)=ints (l.set i x):=by simp [ints,List.map_set]
section
variable {P:Program} {orc:Orc} {s:Bool}
end
set_option linter.defProp false
def SG:=And.intro @zM (And.intro @zAi (And.intro @zBQ (And.intro @zFH (And.intro @Ov_nil (And.intro @zCx (And.intro @zHI (And.intro @zN8 (And.intro @Dv_st (And.intro @Dv_nil (And.intro @c_mv (And.intro @zKN (And.intro @c_un (And.intro @c_conv (And.intro @c_pick (And.intro @zOb (And.intro @c_fld (And.intro @zIr (And.intro @zS6 (And.intro @c_nilc (And.intro @zEo (And.intro @zOa (And.intro @zu (And.intro @c_ixA (And.intro @zIV (And.intro @zOK (And.intro @natR_lit (And.intro @zJc (And.intro @zMl (And.intro @zCq (And.intro @zET (And.intro @c_ld (And.intro @c_lens (And.intro @zDQ (And.intro @zb (And.intro @zFB (And.intro @zAr (And.intro @zA2 (And.intro @zF (And.intro @zAR (And.intro @zN (And.intro @zEV (And.intro @tgs (And.intro @zc (And.intro @zBx (And.intro @bind_ok (And.intro @zAx (And.intro @zB6 (And.intro @zDy (And.intro @zLk (And.intro @zHA (And.intro @zIx (And.intro @zLm (And.intro @zLn (And.intro @zLo (And.intro @zIw (And.intro @zJI (And.intro @zIl (And.intro @zA (And.intro @zDM (And.intro @zRA (And.intro @zC3 (And.intro @blkK_ret (And.intro @zEc (And.intro @boolIs_t (And.intro @boolIs_f (And.intro @boolIs_u (And.intro @zOZ (And.intro @alc_new (And.intro @alc_bsl (And.intro @zNj (And.intro @zSR (And.intro @zO4 (And.intro @zPM (And.intro @zID (And.intro @zPN (And.intro @zK2 (And.intro @zPL (And.intro @zGw (And.intro @zFD (And.intro @zDt (And.intro @zGv (And.intro @zGx (And.intro @zCU (And.intro @zLE (And.intro @zLF (And.intro @zGX (And.intro @zGY (And.intro (@List.getElem?_cons_zero Value) (And.intro (@List.getElem?_cons_succ Value) (And.intro (@List.length_cons Value) (And.intro (@List.length_nil Value) (And.intro (@List.take_zero Value) (And.intro (@List.take_succ_cons Value) (And.intro (@List.drop_zero Value) (And.intro (@List.drop_succ_cons Value) (And.intro (@List.drop_nil Value) (And.intro (@List.nil_append Value) (And.intro (@List.cons_append Value) (And.intro (@List.append_nil Value) (And.intro @Nat.zero_add (And.intro @Nat.add_zero (And.intro @Nat.mul_one (And.intro @Bool.and_self (And.intro @Bool.and_true (And.intro @Bool.true_and (And.intro @true_and (And.intro @and_true (And.intro @cagree_0 (And.intro @zNW (And.intro @cagree_2 (And.intro @sameR_ok (And.intro @zCh (And.intro @zDA (And.intro @zAw (And.intro @Bool.false_eq_true (And.intro @zGC (And.intro @zCg (And.intro @Bool.not_true (And.intro @Bool.not_false (And.intro @zOQ (And.intro @zOS (And.intro @zOP (And.intro @zOR (And.intro @zEL (And.intro @zKh (And.intro @zCk (And.intro @zBE (And.intro @zFd (@zEK)))))))))))))))))))))))))))))))))))))))))))))))))))))))))))))))))))))))))))))))))))))))))))))))))))))))))))))))))))))))))))))))))
def SB:=And.intro @Ov_g (And.intro @Dv_g SG)
structure GE where
 f:Nat
 t:Nat
 w:Int
def encG (e:GE):List Value:=[.int .i64 (e.f:Int),.int .i64 (e.t:Int),.int .i64 e.w]
def GOk (n:Nat) (g:GE):Prop:=g.f<n∧g.t<n∧0≤g.w∧g.w≤2147483647
theorem bin_rem {P:Program} {t:TypeId} {k:IntKind} {a b:Int} (hb:b≠0):bin P .rem t (.int k a) (.int k b) = .ok (.int k (a.tmod b)):=by
 rw [zHB _ _ _ _ _ rfl];show (bif ieq b 0 then _ else _)=_;rw [zAB,show (b == 0)=false by simpa using hb];rfl
theorem SlAt.form {α:Type} {h:Hp} {v:Value} {enc:α→List Value} {k:Nat} {l:List α} {lo hi:Nat} (hs:SlAt h v enc k l lo hi):∃ a n c,v = .slice a n c:=by
 rcases hs with ⟨_,rfl⟩ | ⟨_,_,_,rfl,_⟩ <;> exact ⟨_,_,_,rfl⟩
theorem SlAt.keep {α:Type} {h h':Hp} {v:Value} {enc:α→List Value} {k:Nat} {l:List α} {lo hi hi':Nat} (hs:SlAt h v enc k l lo hi) (hk:∀ b,lo≤b→b<hi→hget h' b=hget h b) (hh:hi≤hi'):SlAt h' v enc k l lo hi':=by
 rcases hs with hs | ⟨b,h1,h2,e,hb⟩
 ·exact .inl hs
 ·exact .inr ⟨b,h1,by omega,e,by rw [hk b h1 h2]; exact hb⟩
end Go.Ax
