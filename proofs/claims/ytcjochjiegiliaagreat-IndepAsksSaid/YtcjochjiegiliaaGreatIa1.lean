/- Parts of the proof: Ia1: each statement bears its own conditions. -/
import Derived.ChangeArms
import Derived.Below
import Derived.OpenShut
import Derived.WideShapes
import Derived.Sort.Defs
import Derived.Test.YtcjochjiegiliaaGreatCm3
namespace Go.Ax
open Go
set_option linter.unusedSimpArgs false
set_option linter.unusedVariables false
def zDV (tb:Nat):CF:={ res:=[.tmp 2],body:=(.seq (.regO [mC 2 (.int .i64 0)]) (.seq (.seq (.regO [mV 3 0,bC 4 .eql tb 3 (.pointer none)]) (.cond (.t 4) (.seq (.regO [mC 2 (.int .i64 0)]) .ret) .skip)) (.seq (.regO [mV 5 0,pU 6 (.nilc (.t 5)),pU 7 (.fldA 4 (.t 6)),lD 8 0 7,mV 2 8]) .ret))) }
section
variable {P:Program} {orc:Orc} {s:Bool}
theorem zOv {fb tb:Nat} (hcf:zD P fb=some (zDV tb)) (ho:orc fb=none) (ht:zBA P tb=true) {h:Hp} {nx b o:Nat} {sp:Option Nat} {cs:List Value} {ro:Bool} {v:Value}
  (hh:hget h b=some (.cells cs ro)) (hv:cs[o+4]? = some v):Cv P orc s fb [.pointer (some ⟨b,o,sp⟩)] h nx (fun v' h' nx'=>v'=v∧h'=h∧nx'=nx):=by
 refine Cv.enter ho hcf ?_;unfold zDV bC lD mC mV pU;refine Ev.seq (Ev.regO ?_);simp [zE,Ov_nil];refine Ev.seq (Ev.seq (Ev.regO ?_));simp [zE,Ov_nil,zHN ht];refine Ev.cond false (by simp) (by simp) fun _=>Ev.skip ?_;simp;refine Ev.seq (Ev.regO ?_);simp [zE,zAI,Ov_nil,zA hh,hv];refine Ev.ret ?_;simp
def zNb (tg fb:Nat):CF:={ res:=[.tmp 2],body:=(.seq (.regO [mC 2 (.int .i64 0)]) (.seq (.regO [mC 3 (.int .i64 0)]) (.seq (.seq (.regO [mV 6 0,bC 7 .neq tg 6 (.pointer none)]) (.cond (.t 7) (.seq (.regO [mV 8 0,pU 9 (.nilc (.t 8)),pU 10 (.fldA 13 (.t 9)),lD 11 0 10,eU 12 (.rng (.t 11))]) (.block 0 (.loop (.seq (.regO [eU 13 (.nxt (.t 12)),pU 14 (.ext (.t 13) 0)]) (.seq (.cond (.t 14) .skip (.exit 0)) (.block 1 (.seq (.regO [rU 15 0 (.entry (.t 12)),pU 16 (.ext (.t 15) 1),mV 5 16]) (.regO [mV 17 3,mV 18 5,eU 19 (.call fb [(.t 18)]),bT 20 .add 3 17 19,mV 3 20])))))))) .skip)) (.seq (.regO [mV 21 3,mV 2 21]) .ret)))) }
def sumL (f:MapEntry→Nat):List MapEntry→Nat
 | []=>0
 | e::es=>f e+sumL f es
theorem zPb {f:MapEntry→Nat} {l l':List MapEntry} (h:l.Perm l'):sumL f l=sumL f l':=by
 induction h with
 | nil=>rfl
 | cons x _ ih=>simp [sumL,ih]
 | swap x y l=>simp [sumL]; omega
 | trans _ _ ih1 ih2=>rw [ih1,ih2]
theorem zB8 {n:Int} (h0:0≤n) (h1:n<9223372036854775808):IntKind.wrap .i64 n=n:=by
 rw [← zAT];obtain ⟨m,rfl⟩:=Int.eq_ofNat_of_zero_le h0;show zEf .i64 m=_;unfold zEf limU;rw [zA8];have:m<9223372036854775808:=by omega
 simp [this]
theorem zDO {seen:List Nat} {es:List MapEntry} {ck:Nat} (h:∀ e∈es,e.born<ck):zGg seen es ck=true:=by
 unfold zGg;cases es with
 | nil=>simp
 | cons e es =>
  have:=h e (by simp);simp [zA8,this]
def SentJ (h:Hp) (es:List MapEntry) (r ck nx n:Nat) (sent:MapEntry→Nat) (m:Nat) (tm:Tm) (h':Hp):Prop :=
 ∃ seen acc,m=(zAA seen es).length∧tget tm 12 = .pointer (some ⟨nx,0,none⟩)∧tget tm 3 = .int .i64 (acc:Nat)∧acc+sumL sent (zAA seen es)=n ∧
  hget h' nx=some (.iter (some r) ck seen ck)∧∀ b o,hget h b=some o→hget h' b=some o
theorem sent_cv {f tg fb tb:Nat} (hcf:zD P f=some (zNb tg fb)) (ho:orc f=none) (htg:zBA P tg=true) (hcb:zD P fb=some (zDV tb)) (hob:orc fb=none) (htb:zBA P tb=true)
  {h:Hp} {nx b o r ck n:Nat} {sp:Option Nat} {cs:List Value} {ro:Bool} {es:List MapEntry} (sent:MapEntry→Nat)
  (hh:hget h b=some (.cells cs ro)) (hv:cs[o+13]? = some (.map (some r))) (hm:hget h r=some (.map es ck)) (hr:zEr es) (hck:∀ e∈es,e.born<ck)
  (hse:∀ e∈es,∃ b' o' sp' cs' ro',e.val = .pointer (some ⟨b',o',sp'⟩)∧hget h b'=some (.cells cs' ro')∧cs'[o'+4]? = some (.int .i64 (sent e:Int)))
  (hn:sumL sent es=n) (hlt:n<1000000000) (hfr:∀ b,nx≤b→hget h b=none) :
  Cv P orc false f [.pointer (some ⟨b,o,sp⟩)] h nx (fun v' h' _=>v' = .int .i64 (n:Int)∧∀ b o,hget h b=some o→hget h' b=some o):=by
 have hrn:r≠nx:=fun e=>by rw [e,hfr nx (Nat.le_refl _)] at hm; cases hm
 refine Cv.enter ho hcf ?_;unfold zNb bC bT eU lD mC mV pU rU;refine Ev.seq (Ev.regO ?_);simp [zE,Ov_nil];refine Ev.seq (Ev.regO ?_);simp [zE,Ov_nil];refine Ev.seq (Ev.seq (Ev.regO ?_));simp [zE,Ov_nil,zME htg];refine Ev.cond true (by simp) (fun _=>?_) (by simp);refine Ev.seq (Ev.regO ?_);have hrng:∀ tm,ceff P (tset tm 11 (.map (some r))) h nx (.rng (.t 11)) = .val (.pointer (some ⟨nx,0,none⟩)) (hset h nx (.iter (some r) ck [] ck)) (nx+1):=fun tm=>by
  show zB6 h nx (tget (tset tm 11 (.map (some r))) 11)=_;simp [zB6,hm,zEB]
 simp [zE,zAI,Ov_nil,zA hh,hv,zCm (hrng _)];refine Ev.block (Ev.loop (fun m tm h' _=>SentJ h es r ck nx n sent m tm h') ?_ es.length _ _ _ ⟨[],0,by rw [zi],by simp,by simp,by rw [zi]; omega,by simp,fun b' o' hb'=>?_⟩)
 ·rintro m tm h' nx' ⟨seen,acc,rfl,h12,h3,hsum,hit,hold⟩;have hm':=hold r _ hm;refine Ev.seq (Ev.regO (zIK rfl (by simpa using h12) hit hm' (zDO hck) (fun hend=>?_) fun e he=>⟨hck e (zAN he).1,?_⟩))
  ·simp [zE,Ov_nil];refine Ev.seq (Ev.cond false (by simp) (by simp) fun _=>Ev.exit ?_);simp;refine Ev.seq (Ev.regO ?_);simp [zE,Ov_nil];refine Ev.ret ?_;rw [hend] at hsum;simp [h3];refine ⟨?_,hold⟩;have:acc=n:=by simpa [sumL] using hsum
   rw [this]
  ·obtain ⟨hmem,hnot⟩:=zAN he;obtain ⟨b',o',sp',cs',ro',hval,hb',hs'⟩:=hse e hmem;have hne:b'≠nx:=fun e=>by rw [e,hfr nx (Nat.le_refl _)] at hb'; cases hb'
   have hperm:=zAy hr he;have hps:=zPb (f:=sent) hperm;have hlen:=hperm.length_eq;simp only [sumL,List.length_cons] at hps hlen;simp [zE,Ov_nil];refine Ev.seq (Ev.cond true (by simp) (fun _=>Ev.skip ?_) (by simp));simp;refine Ev.block (Ev.seq (Ev.regO ?_));have hent:zCd (hset h' nx (.iter (some r) ck (seen++[e.born]) ck)) (.pointer (some ⟨nx,0,none⟩)) = .ok (.tuple #[e.key,e.val]) :=
    zDN (r:=r) (since:=ck) (ck:=ck) (seen:=seen) (by simp) (by simp [hrn]; exact hm') hr hmem
   simp [zAI,zE,Ov_nil,h12,hent];refine Ev.regO ?_;simp [zE,h3];refine ze ?_;simp [hval];refine (zOv hcb hob htb (cs:=cs') (ro:=ro') (v:=.int .i64 (sent e:Int)) (by simp [hne]; exact hold _ _ hb') hs').mono ?_;rintro v h2 nx2 ⟨rfl,rfl,rfl⟩;simp [zE,Ov_nil];refine ⟨(zAA (seen++[e.born]) es).length,by omega,seen++[e.born],acc+sent e,rfl,by simpa using h12,?_,by omega,by simp,fun b2 o2 hb2=>?_⟩
   ·rw [zB8 (by omega) (by omega)];simp
   ·have:b2≠nx:=fun e=>by rw [e,hfr nx (Nat.le_refl _)] at hb2; cases hb2
    simp [this]; exact hold _ _ hb2
 ·have:b'≠nx:=fun e=>by rw [e,hfr nx (Nat.le_refl _)] at hb'; cases hb'
  simp [this,hb']
end
def zF2 (P:Program) (f:FuncId) (g:List Value→Hp→Nat→CR):Prop:=∀ (args:List Value) (h:Hp) (nx:Nat) (K:Value→Hp→Nat→Prop),crSat (g args h nx) K →
 zCX P f∧∀ (B:Nat) (ρ:Rho) (w:World) (args':List Value),Rel B ρ (hget h) w→Fr ρ nx→VRL ρ args args'→∀ n,CallsIn Fence.wide n P f ⟨args'⟩ w (Fin B ρ h w nx K)
theorem zDx {P:Program}:zHT P orc0:=fun f g h=>by cases h
def zC1 (ck:Nat):List MapEntry→Bool
 | []=>true
 | e::es=>(match es with
  | []=>Nat.blt e.born ck
  | f::_=>Nat.blt e.born f.born)&&zC1 ck es
theorem zD6 {ck:Nat}:∀ {es:List MapEntry},zC1 ck es=true→zEr es∧∀ e∈es,e.born<ck
 | [],_=>⟨List.Pairwise.nil,fun e h=>by cases h⟩
 | [e],h=>by
  unfold zC1 at h;simp only [Bool.and_eq_true,zA8,decide_eq_true_eq] at h;exact ⟨List.pairwise_singleton ..,fun x hx=>by simp at hx; subst hx; exact h.1⟩
 | e::f::es,h=>by
  unfold zC1 at h;simp only [Bool.and_eq_true,zA8,decide_eq_true_eq] at h;obtain ⟨h1,h2⟩:=zD6 h.2;have hall:∀ x∈f::es,e.born<x.born:=fun x hx=>by
   rcases List.mem_cons.1 hx with rfl | hx
   ·exact h.1
   ·have:=List.rel_of_pairwise_cons h1 hx; omega
  refine ⟨List.Pairwise.cons hall h1,fun x hx=>?_⟩;rcases List.mem_cons.1 hx with rfl | hx
  ·have:=h2 f (by simp); have:=h.1; omega
  ·exact h2 x hx
def natAt (l:List Value) (i:Nat):Option Nat:=match lget l i with
 | some (.int .i64 (.ofNat n))=>some n
 | _=>none
theorem natAt_ok {l:List Value} {i n:Nat} (h:natAt l i=some n):l[i]? = some (.int .i64 (n:Int)):=by
 unfold natAt at h;rw [zm] at h
 split at h
 ·rename_i e; cases h; exact e
 ·cases h
def zHd (h:Hp) (e:MapEntry):Option Nat:=match e.val with
 | .pointer (some a)=>(match hget h a.block with
  | some (.cells cs _)=>natAt cs (a.off+4)
  | _=>none)
 | _=>none
def zIT (h:Hp):List MapEntry→Option Nat
 | []=>some 0
 | e::es=>(match zHd h e,zIT h es with
  | some a,some b=>some (a+b)
  | _,_=>none)
theorem zH6 {h:Hp}:∀ {es:List MapEntry} {n:Nat},zIT h es=some n→(∀ e∈es,∃ k,zHd h e=some k)∧sumL (fun e=>(zHd h e).getD 0) es=n
 | [],n,hs=>by cases hs; exact ⟨fun e h=>(by cases h),rfl⟩
 | e::es,n,hs=>by
  unfold zIT at hs
  split at hs
  ·rename_i a b h1 h2
   cases hs;obtain ⟨h3,h4⟩:=zH6 h2;refine ⟨fun x hx=>?_,by simp [sumL,h1,h4]⟩;rcases List.mem_cons.1 hx with rfl | hx
   ·exact ⟨a,h1⟩
   ·exact h3 x hx
  ·cases hs
theorem zPg {h:Hp} {e:MapEntry} {k:Nat} (hs:zHd h e=some k):∃ b' o' sp' cs' ro',e.val = .pointer (some ⟨b',o',sp'⟩)∧hget h b'=some (.cells cs' ro')∧cs'[o'+4]? = some (.int .i64 (k:Int)):=by
 unfold zHd at hs
 split at hs
 ·rename_i a ha
  split at hs
  ·rename_i cs ro hc
   obtain ⟨b,o,sp⟩:=a;exact ⟨b,o,sp,cs,ro,ha,hc,natAt_ok hs⟩
  ·cases hs
 ·cases hs
def gSent (args:List Value) (h:Hp) (nx:Nat):CR:=match args with
 | [.pointer (some a)]=>(match hget h a.block with
  | some (.cells cs _)=>(match lget cs (a.off+13) with
   | some (.map (some r))=>(match hget h r with
    | some (.map es ck)=>bif zC1 ck es then (match zIT h es with
     | some n=>bif Nat.blt n 1000000000 then .ok (.int .i64 (.ofNat n)) h nx else .no "Sent"
     | none=>.no "Sent") else .no "Sent"
    | _=>.no "Sent")
   | _=>.no "Sent")
  | _=>.no "Sent")
 | _=>.no "Sent"
section
variable {P:Program}
theorem gSent_ok (hP:POk P) {f tg fb tb:Nat} (hcf:zD P f=some (zNb tg fb)) (htg:zBA P tg=true) (hcb:zD P fb=some (zDV tb)) (htb:zBA P tb=true):zF2 P f gSent:=by
 intro args h nx K hs;unfold gSent at hs
 split at hs <;> first | exact hs.elim | skip
 rename_i a
 split at hs <;> first | exact hs.elim | skip
 rename_i cs ro hc
 split at hs <;> first | exact hs.elim | skip
 rename_i r hr
 split at hs <;> first | exact hs.elim | skip
 rename_i es ck hm
 cases hri:zC1 ck es with
 | false=>rw [hri] at hs; exact hs.elim
 | true =>
  rw [hri] at hs;simp only [cond_true] at hs
  split at hs <;> first | exact hs.elim | skip
  rename_i n hn
  cases hlt:Nat.blt n 1000000000 with
  | false=>rw [hlt] at hs; exact hs.elim
  | true =>
   rw [hlt] at hs;obtain ⟨h1,h2⟩:=zD6 hri;obtain ⟨h3,h4⟩:=zH6 hn;obtain ⟨b,o,sp⟩:=a;rw [zm] at hr;rw [zA8,decide_eq_true_eq] at hlt;refine zE5 hP zDx (zBC hP hcf) (v:=.int .i64 (.ofNat n)) rfl (fun hfr=>?_) hs;refine sent_cv hcf rfl htg hcb rfl htb (fun e=>(zHd h e).getD 0) hc hr hm h1 h2 (fun e he=>?_) h4 hlt hfr;obtain ⟨k,hk⟩:=h3 e he;simp only [hk,Option.getD_some];exact zPg hk
def zEl:CF:={ res:=[.tmp 2],body:=(.seq (.regO [mC 2 (.int .i64 0)]) (.seq (.regO [mC 3 (.bool false),mC 4 (.bool false)]) (.seq (.seq (.regO [mV 7 0,pU 8 (.nilc (.t 7)),pU 9 (.fldA 43 (.t 8)),lD 10 0 9,eU 11 (.rng (.t 10))]) (.block 0 (.loop (.seq (.regO [eU 12 (.nxt (.t 11)),pU 13 (.ext (.t 12) 0)]) (.seq (.cond (.t 13) .skip (.exit 0)) (.block 1 (.seq (.regO [rU 14 0 (.entry (.t 11)),pU 15 (.ext (.t 14) 1),aU 6 (.new [(.int .i64 0),(.int .i64 0),(.int .i64 0),(.int .i64 0),(.int .i64 0),(.int .i64 0),(.slice none 0 0),(.slice none 0 0),(.slice none 0 0),(.int .i64 0),(.bool false)]),eN (.st 11 (.t 6) (.t 15))]) (.seq (.regO [mV 16 3,mV 17 16,⟨(some (17,false)),(some 18),0,.pur (.fldA 10 (.t 6))⟩,⟨(some (17,false)),(some 19),0,.red (.ld none (.t 18))⟩,pU 20 (.pick (.t 17) (.v (.bool true)) (.t 19)),mV 3 20]) (.regO [mV 21 4,mV 22 21,⟨(some (22,false)),(some 23),0,.pur (.fldA 9 (.t 6))⟩,⟨(some (22,false)),(some 24),0,.red (.ld none (.t 23))⟩,⟨(some (22,false)),(some 25),0,.pur (.bin .neq 2 (.t 24) (.v (.int .i64 0)))⟩,pU 26 (.pick (.t 22) (.v (.bool true)) (.t 25)),mV 4 26]))))))))) (.seq (.block 2 (.seq (.regO [mV 28 3,mV 27 28]) (.cond (.t 27) (.seq (.regO [mC 2 (.int .i64 3)]) .ret) (.seq (.regO [mV 30 4,pU 31 (.un .not (.t 30)),mV 29 31]) (.cond (.t 29) (.seq (.regO [mC 2 (.int .i64 1)]) .ret) (.seq (.regD [mV 33 0,pU 34 (.nilc (.t 33)),pU 35 (.fldA 42 (.t 34)),lD 36 0 35,mV 37 0,pU 38 (.nilc (.t 37)),pU 39 (.fldA 9 (.t 38)),lD 40 0 39,bT 41 .eql 3 36 40,mV 32 41]) (.cond (.t 32) (.seq (.regO [mC 2 (.int .i64 2)]) .ret) .skip))))))) (.seq (.regO [mC 2 (.int .i64 0)]) .ret))))) }
def anyL (f:MapEntry→Bool):List MapEntry→Bool
 | []=>false
 | e::es=>f e||anyL f es
theorem zKe {f:MapEntry→Bool} {l l':List MapEntry} (h:l.Perm l'):anyL f l=anyL f l':=by
 induction h with
 | nil=>rfl
 | cons x _ ih=>simp [anyL,ih]
 | swap x y l=>simp only [anyL]; cases f x <;> cases f y <;> simp
 | trans _ _ ih1 ih2=>rw [ih1,ih2]
def CountJ (h:Hp) (es:List MapEntry) (r ck nx:Nat) (p0:Value) (ov lv:MapEntry→Bool) (m:Nat) (tm:Tm) (h':Hp) (nx':Nat):Prop :=
 ∃ seen a b,m=(zAA seen es).length∧nx<nx'∧tget tm 0=p0∧tget tm 11 = .pointer (some ⟨nx,0,none⟩)∧tget tm 3 = .bool a∧tget tm 4 = .bool b∧(a||anyL ov (zAA seen es))=anyL ov es∧(b||anyL lv (zAA seen es))=anyL lv es ∧
  hget h' nx=some (.iter (some r) ck seen ck)∧∀ b o,hget h b=some o→hget h' b=some o
def zCo (ov lv:Bool) (vote limit:Int):Int:=if ov then 3 else if lv then (if vote == limit then 2 else 0) else 1
theorem zOh {orc:Orc} {f:Nat} (hcf:zD P f=some zEl) (ho:orc f=none) {h:Hp} {nx b o r ck:Nat} {sp:Option Nat} {cs:List Value} {ro:Bool} {es:List MapEntry} {vote limit:Int} (ov lv:MapEntry→Bool)
  (hh:hget h b=some (.cells cs ro)) (hv:cs[o+43]? = some (.map (some r))) (hvo:cs[o+42]? = some (.int .i64 vote)) (hli:cs[o+9]? = some (.int .i64 limit)) (hm:hget h r=some (.map es ck)) (hr:zEr es) (hck:∀ e∈es,e.born<ck)
  (hse:∀ e∈es,∃ l n,e.val = .agg ⟨l⟩∧l.length=11∧zf l=true∧l[9]? = some (.int .i64 n)∧l[10]? = some (.bool (ov e))∧lv e=!(n == 0))
  (hfr:∀ b,nx≤b→hget h b=none) :
  Cv P orc false f [.pointer (some ⟨b,o,sp⟩)] h nx (fun v' h' _=>v' = .int .i64 (zCo (anyL ov es) (anyL lv es) vote limit)∧∀ b o,hget h b=some o→hget h' b=some o):=by
 have hrn:r<nx:=by
  rcases Nat.lt_or_ge r nx with h1 | h1
  ·exact h1
  ·rw [hfr r h1] at hm; cases hm
 have hbn:∀ b o,hget h b=some o→b<nx:=fun b o hb=>by
  rcases Nat.lt_or_ge b nx with h1 | h1
  ·exact h1
  ·rw [hfr b h1] at hb; cases hb
 refine Cv.enter ho hcf ?_;unfold zEl aU bT eN eU lD mC mV pU rU;refine Ev.seq (Ev.regO ?_);simp [zE,Ov_nil];refine Ev.seq (Ev.regO ?_);simp [zE,Ov_nil];refine Ev.seq (Ev.seq (Ev.regO ?_));have hrng:∀ tm,ceff P (tset tm 10 (.map (some r))) h nx (.rng (.t 10)) = .val (.pointer (some ⟨nx,0,none⟩)) (hset h nx (.iter (some r) ck [] ck)) (nx+1):=fun tm=>by
  show zB6 h nx (tget (tset tm 10 (.map (some r))) 10)=_;simp [zB6,hm,zEB]
 simp [zE,zAI,Ov_nil,zA hh,hv,zCm (hrng _)];refine Ev.block (Ev.loop (fun m tm h' nx'=>CountJ h es r ck nx (.pointer (some ⟨b,o,sp⟩)) ov lv m tm h' nx') ?_ es.length _ _ _ ⟨[],false,false,by rw [zi],by omega,by simp,by simp,by simp,by simp,by rw [zi]; rfl,by rw [zi]; rfl,by simp,fun b' o' hb'=>?_⟩)
 ·rintro m tm h' nx' ⟨seen,ca,cb,rfl,hnx,h0,h11,h3,h4,hov,hlv,hit,hold⟩;have hm':=hold r _ hm;refine Ev.seq (Ev.regO (zIK rfl (by simpa using h11) hit hm' (zDO hck) (fun hend=>?_) fun e he=>⟨hck e (zAN he).1,?_⟩))
  ·simp [zE,Ov_nil];refine Ev.seq (Ev.cond false (by simp) (by simp) fun _=>Ev.exit ?_);simp;rw [hend] at hov hlv;simp only [anyL,Bool.or_false] at hov hlv;subst hov hlv;refine Ev.seq (Ev.block (Ev.seq (Ev.regO ?_)));simp [zE,Ov_nil,h3];refine Ev.cond (anyL ov es) (by simp) (fun ht=>?_) fun hf=>?_
   ·refine Ev.seq (Ev.regO ?_);simp [zE,Ov_nil];refine Ev.ret ?_;simp [zCo,ht];exact hold
   ·refine Ev.seq (Ev.regO ?_);simp [zE,Ov_nil,h4];refine Ev.cond (!anyL lv es) (by simp) (fun ht=>?_) fun hf2=>?_
    ·refine Ev.seq (Ev.regO ?_);simp [zE,Ov_nil];refine Ev.ret ?_;simp at ht;simp [zCo,ht,hf];exact hold
    ·refine Ev.seq (Ev.regD ?_);simp [zA1,zCW,Dv_nil,h0,zA (hold _ _ hh),hvo,hli,zAD];refine Ev.cond (vote == limit) (by simp) (fun ht=>?_) fun hf3=>?_
     ·refine Ev.seq (Ev.regO ?_);simp [zE,Ov_nil];refine Ev.ret ?_;simp at hf2 ht;simp [zCo,hf,hf2,ht];exact hold
     ·refine Ev.skip ?_;simp;refine Ev.seq (Ev.regO ?_);simp [zE,Ov_nil];refine Ev.ret ?_;simp at hf2 hf3;simp [zCo,hf,hf2,hf3];exact hold
  ·obtain ⟨hmem,hnot⟩:=zAN he;obtain ⟨l,n,hval,hlen,hcl,hl9,hl10,hlve⟩:=hse e hmem;have hperm:=zAy hr he;have hp1:=zKe (f:=ov) hperm;have hp2:=zKe (f:=lv) hperm;have hplen:=hperm.length_eq;simp only [anyL,List.length_cons] at hp1 hp2 hplen;simp [zE,Ov_nil];refine Ev.seq (Ev.cond true (by simp) (fun _=>Ev.skip ?_) (by simp));simp;refine Ev.block (Ev.seq (Ev.regO ?_));have hent:zCd (hset h' nx (.iter (some r) ck (seen++[e.born]) ck)) (.pointer (some ⟨nx,0,none⟩)) = .ok (.tuple #[e.key,e.val]) :=
    zDN (r:=r) (since:=ck) (ck:=ck) (seen:=seen) (by simp) (by simp [show r≠nx by omega]; exact hm') hr hmem
   have hcst:∀ hp:Hp,hget hp nx'=some (.cells [(.int .i64 0),(.int .i64 0),(.int .i64 0),(.int .i64 0),(.int .i64 0),(.int .i64 0),(.slice none 0 0),(.slice none 0 0),(.slice none 0 0),(.int .i64 0),(.bool false)] false) →
     cSt hp 11 l ⟨nx',0,none⟩ = .ok (hset hp nx' (.cells l false)):=fun hp hhp=>by
    unfold cSt zAr;rw [zz,hlen];simp only [Nat.beq_refl,cond_true,zA hhp,hcl];rw [zAl];simp [hlen]
   simp [zAI,zE,zAw,zER,Ov_nil,h11,hent,calq,nbV,nbO,hval,zI];rw [hcst _ (by simp)];simp;have hget6:∀ hp:Hp,hget (hset hp nx' (.cells l false)) nx'=some (.cells l false):=fun hp=>by simp
   refine Ev.seq (Ev.regO ?_);have step1:(ca||anyL ov (e::zAA (seen++[e.born]) es))=((if ca=true then true else ov e)||anyL ov (zAA (seen++[e.born]) es)):=by simp only [anyL]; cases ca <;> cases ov e <;> simp
   have step2:(cb||anyL lv (e::zAA (seen++[e.born]) es))=((if cb=true then true else lv e)||anyL lv (zAA (seen++[e.born]) es)):=by simp only [anyL]; cases cb <;> cases lv e <;> simp
   have fin:∀ tm2 h2,tget tm2 0 = .pointer (some ⟨b,o,sp⟩)→tget tm2 11 = .pointer (some ⟨nx,0,none⟩)→tget tm2 3 = .bool (if ca=true then true else ov e)→tget tm2 4 = .bool (if cb=true then true else lv e) →
     h2=hset (hset (hset h' nx (.iter (some r) ck (seen++[e.born]) ck)) nx' (.cells [(.int .i64 0),(.int .i64 0),(.int .i64 0),(.int .i64 0),(.int .i64 0),(.int .i64 0),(.slice none 0 0),(.slice none 0 0),(.slice none 0 0),(.int .i64 0),(.bool false)] false)) nx' (.cells l false) →
     CountJ h es r ck nx (.pointer (some ⟨b,o,sp⟩)) ov lv (zAA (seen++[e.born]) es).length tm2 h2 (nx'+1):=by
    rintro tm2 h2 g0 g11 g3 g4 rfl;refine ⟨seen++[e.born],_,_,rfl,by omega,g0,g11,g3,g4,?_,?_,?_,fun b2 o2 hb2=>?_⟩
    ·rw [← step1,← hov]; simp only [anyL]; rw [hp1]
    ·rw [← step2,← hlv]; simp only [anyL]; rw [hp2]
    ·simp [show nx≠nx' by omega]
    ·have:=hbn _ _ hb2;simp [show b2≠nx' by omega,show b2≠nx by omega]; exact hold _ _ hb2
   cases ca <;> cases cb <;> simp [zE,zAI,Ov_g,Ov_nil,zt,h3,h4,zA (hget6 _),hl10] <;> refine Ev.regO ?_ <;> simp [zE,zAI,Ov_g,Ov_nil,zt,h3,h4,zA (hget6 _),hl9] <;>
    refine ⟨_,?_,fin _ _ (by simp [h0]) (by simp [h11]) (by simp [h3]) (by simp [h4,hlve]) rfl⟩ <;> omega
 ·have:=hbn _ _ hb';simp [show b'≠nx by omega,hb']
def zFO (e:MapEntry):Option (Bool × Bool):=match e.val with
 | .agg ⟨l⟩=>bif Nat.beq (llen l) 11&&zf l then (match lget l 9,lget l 10 with
  | some (.int .i64 n),some (.bool o)=>some (o,!ieq n 0)
  | _,_=>none) else none
 | _=>none
theorem zOb {e:MapEntry} {a b:Bool} (h:zFO e=some (a,b)):∃ l n,e.val = .agg ⟨l⟩∧l.length=11∧zf l=true∧l[9]? = some (.int .i64 n)∧l[10]? = some (.bool a)∧b=!(n == 0):=by
 unfold zFO at h
 split at h
 ·rename_i l hl
  cases hc:(Nat.beq (llen l) 11&&zf l) with
  | false=>rw [hc] at h; cases h
  | true =>
   rw [hc] at h;simp only [cond_true] at h;simp only [Bool.and_eq_true] at hc
   split at h
   ·rename_i n o h1 h2
    cases h;rw [zm] at h1 h2;exact ⟨l,n,hl,by have:=Nat.eq_of_beq_eq_true hc.1; rwa [zz] at this,hc.2,h1,h2,by rw [zAJ]⟩
   ·cases h
 ·cases h
def zDX:List MapEntry→Bool
 | []=>true
 | e::es=>(zFO e).isSome&&zDX es
theorem zFk:∀ {es:List MapEntry},zDX es=true→∀ e∈es,(zFO e).isSome=true
 | [],_,e,h=>by cases h
 | x::es,hs,e,h=>by
  unfold zDX at hs;simp only [Bool.and_eq_true] at hs;rcases List.mem_cons.1 h with rfl | h
  ·exact hs.1
  ·exact zFk hs.2 e h
def ovOf (e:MapEntry):Bool:=((zFO e).map (·.1)).getD false
def lvOf (e:MapEntry):Bool:=((zFO e).map (·.2)).getD false
def zFz (args:List Value) (h:Hp) (nx:Nat):CR:=match args with
 | [.pointer (some a)]=>(match hget h a.block with
  | some (.cells cs _)=>(match lget cs (a.off+43),lget cs (a.off+42),lget cs (a.off+9) with
   | some (.map (some r)),some (.int .i64 vote),some (.int .i64 limit)=>(match hget h r with
    | some (.map es ck)=>bif zC1 ck es&&zDX es then .ok (.int .i64 (zCo (anyL ovOf es) (anyL lvOf es) vote limit)) h nx else .no "counted"
    | _=>.no "counted")
   | _,_,_=>.no "counted")
  | _=>.no "counted")
 | _=>.no "counted"
theorem zL5 (hP:POk P) {f:Nat} (hcf:zD P f=some zEl):zF2 P f zFz:=by
 intro args h nx K hs;unfold zFz at hs
 split at hs <;> first | exact hs.elim | skip
 rename_i a
 split at hs <;> first | exact hs.elim | skip
 rename_i cs ro hc
 split at hs <;> first | exact hs.elim | skip
 rename_i r vote limit hr hvo hli
 split at hs <;> first | exact hs.elim | skip
 rename_i es ck hm
 cases hri:(zC1 ck es&&zDX es) with
 | false=>rw [hri] at hs; exact hs.elim
 | true =>
  rw [hri] at hs;simp only [cond_true] at hs;simp only [Bool.and_eq_true] at hri;obtain ⟨h1,h2⟩:=zD6 hri.1;have h3:=zFk hri.2;obtain ⟨b,o,sp⟩:=a;rw [zm] at hr hvo hli;refine zE5 hP zDx (zBC hP hcf) (v:=.int .i64 (zCo (anyL ovOf es) (anyL lvOf es) vote limit)) rfl (fun hfr=>?_) hs;refine zOh hcf rfl ovOf lvOf hc hr hvo hli hm h1 h2 (fun e he=>?_) hfr;obtain ⟨⟨x,y⟩,hxy⟩:=Option.isSome_iff_exists.1 (h3 e he);obtain ⟨l,n,g1,g2,g3,g4,g5,g6⟩:=zOb hxy;exact ⟨l,n,g1,g2,g3,g4,by simp [ovOf,hxy,g5],by simp [lvOf,hxy,g6]⟩
end
def zSR (k:Nat):CF:={ res:=[],body:=(.seq (.regO [mV 10 1,bC 11 .add 3 10 (.int .i64 1),mV 8 11]) (.block 0 (.loop (.seq (.seq (.regO [mV 12 8,mV 13 2,bT 14 .lss 3 12 13]) (.cond (.t 14) .skip (.exit 0))) (.seq (.block 1 (.seq (.regO [mV 17 8,mV 9 17]) (.block 2 (.loop (.seq (.seq (.regD [mV 18 9,mV 19 1,bT 20 .gtr 3 18 19,mV 21 20,⟨(some (21,true)),(some 22),0,.pur (.mv (.t 3))⟩,⟨(some (21,true)),(some 23),0,.pur (.mv (.t 0))⟩,⟨(some (21,true)),(some 24),0,.pur (.mv (.t 9))⟩,⟨(some (21,true)),(some 25),0,.pur (.ixA (.slice k) (.t 23) (.t 24))⟩,⟨(some (21,true)),(some 26),0,.red (.ld (some k) (.t 25))⟩,⟨(some (21,true)),(some 27),0,.pur (.mv (.t 0))⟩,⟨(some (21,true)),(some 28),0,.pur (.mv (.t 9))⟩,⟨(some (21,true)),(some 29),0,.pur (.bin .sub 3 (.t 28) (.v (.int .i64 1)))⟩,⟨(some (21,true)),(some 30),0,.pur (.ixA (.slice k) (.t 27) (.t 29))⟩,⟨(some (21,true)),(some 31),0,.red (.ld (some k) (.t 30))⟩,⟨(some (21,true)),(some 32),0,.eff (.callv (.t 22) [(.t 26),(.t 31)])⟩,⟨(some (21,true)),(some 33),0,.pur (.bin .lss 3 (.t 32) (.v (.int .i64 0)))⟩,pU 34 (.pick (.t 21) (.t 33) (.v (.bool false)))]) (.cond (.t 34) .skip (.exit 2))) (.seq (.block 3 (.regD [mV 37 0,mV 38 9,mV 42 0,mV 43 9,bC 44 .sub 3 43 (.int .i64 1),pU 45 (.ixA (.slice k) (.t 42) (.t 44)),rU 46 0 (.ld (some k) (.t 45)),mV 47 0,mV 48 9,pU 49 (.ixA (.slice k) (.t 47) (.t 48)),rU 50 0 (.ld (some k) (.t 49)),pU 51 (.ixA (.slice k) (.t 37) (.t 38)),eN (.st k (.t 51) (.t 46)),⟨none,(some 39),1,.pur (.mv (.t 0))⟩,⟨none,(some 40),1,.pur (.mv (.t 9))⟩,⟨none,(some 41),1,.pur (.bin .sub 3 (.t 40) (.v (.int .i64 1)))⟩,pU 52 (.ixA (.slice k) (.t 39) (.t 41)),eN (.st k (.t 52) (.t 50))])) (.regO [mV 35 9,bC 36 .sub 3 35 (.int .i64 1),mV 9 36]))))))) (.regO [mV 15 8,bC 16 .add 3 15 (.int .i64 1),mV 8 16])))))) }
section
variable {α:Type}
def flat (enc:α→List Value):List α→List Value
 | []=>[]
 | x::l=>enc x++flat enc l
theorem zAF {enc:α→List Value} {k:Nat} (hk:∀ x,(enc x).length=k):∀ l:List α,(flat enc l).length=l.length*k
 | []=>by simp [flat]
 | x::l=>by simp [flat,hk,zAF hk l,Nat.succ_mul]; omega
theorem zCv {enc:α→List Value} {k:Nat} (hk:∀ x,(enc x).length=k):∀ {l:List α} {i:Nat} {x:α},l[i]? = some x→((flat enc l).drop (i*k)).take k=enc x
 | [],i,x,h=>by simp at h
 | y::l,0,x,h=>by
  simp at h; subst h;simp [flat,← hk y]
 | y::l,i+1,x,h=>by
  have h:l[i]? = some x:=by simpa using h
  have e:(i+1)*k=(enc y).length+i*k:=by rw [hk,Nat.succ_mul]; omega
  rw [e,flat,List.drop_append,List.drop_of_length_le (by omega),List.nil_append];have:(enc y).length+i*k-(enc y).length=i*k:=by omega
  rw [this];exact zCv hk h
theorem zGB {enc:α→List Value} {k:Nat} (hk:∀ x,(enc x).length=k) (z:α):∀ {l:List α} {i:Nat},i<l.length→lput (enc z) (flat enc l) (i*k)=some (flat enc (l.set i z)):=by
 intro l i hi;rw [zAl,if_pos (by rw [zAF hk,hk]; have:=Nat.mul_le_mul_right k hi; rw [Nat.succ_mul] at this; omega)]
 congr 1
 have key:∀ (l:List α) (i:Nat),i<l.length→(flat enc l).take (i*k)++(enc z++(flat enc l).drop (i*k+k))=flat enc (l.set i z):=by
  intro l
  induction l with
  | nil=>intro i h; simp at h
  | cons y l ih =>
   intro i hi;cases i with
   | zero=>simp [flat,← hk y,List.drop_append]
   | succ i =>
    have e:(i+1)*k=(enc y).length+i*k:=by rw [hk,Nat.succ_mul]; omega
    have e2:(i+1)*k+k=(enc y).length+(i*k+k):=by rw [e]; omega
    rw [List.set_cons_succ,flat,flat,e2,e,List.take_append,List.drop_append];rw [List.take_of_length_le (by omega),List.drop_of_length_le (by omega)];have h1:(enc y).length+i*k-(enc y).length=i*k:=by omega
    have h2:(enc y).length+(i*k+k)-(enc y).length=i*k+k:=by omega
    rw [h1,h2,List.nil_append,List.append_assoc,ih i (by simpa using hi)]
 rw [hk];exact key l i hi
end
section
variable {P:Program} {orc:Orc} {α:Type}
theorem zFl (m:Nat) (h:m<1000000000):IntKind.wrap .i64 (m:Int)=(m:Int):=zB8 (by omega) (by omega)
def zKj (P:Program) (orc:Orc) (fc:FuncId) (enc:α→List Value) (c:α→α→Int):Prop:=∀ (x y:α) (h:Hp) (nx:Nat),
 Cv P orc true fc [.agg ⟨enc x⟩,.agg ⟨enc y⟩] h nx (fun v h' nx'=>v = .int .i64 (c x y)∧nx≤nx'∧∀ b,b<nx→hget h' b=hget h b)
def InsI (h:Hp) (nx bD n:Nat) (l:List α) (enc:α→List Value) (c:α→α→Int) (data:Value) (fc:FuncId) (i j:Nat) (tm:Tm) (h':Hp) (nx':Nat):Prop :=
 tget tm 0=data∧tget tm 1 = .int .i64 0∧tget tm 2 = .int .i64 (n:Int)∧tget tm 3 = .func (.func fc) #[] #[]∧tget tm 8 = .int .i64 (i:Int)∧tget tm 9 = .int .i64 (j:Int)∧nx≤nx'∧i<n∧j≤i ∧
 ∃ M:List α,M.Perm l∧(∀ p q x y,p<q→q≤i→q≠j→M[p]? = some x→M[q]? = some y→¬ c y x<0)∧hget h' bD=some (.cells (flat enc M) false)∧∀ b,b<nx→b≠bD→hget h' b=hget h b
def InsO (h:Hp) (nx bD n:Nat) (l:List α) (enc:α→List Value) (c:α→α→Int) (data:Value) (fc:FuncId) (i:Nat) (tm:Tm) (h':Hp) (nx':Nat):Prop :=
 tget tm 0=data∧tget tm 1 = .int .i64 0∧tget tm 2 = .int .i64 (n:Int)∧tget tm 3 = .func (.func fc) #[] #[]∧tget tm 8 = .int .i64 (i:Int)∧nx≤nx'∧1≤i ∧
 ∃ M:List α,M.Perm l∧(∀ p q x y,p<q→q<i→M[p]? = some x→M[q]? = some y→¬ c y x<0)∧hget h' bD=some (.cells (flat enc M) false)∧∀ b,b<nx→b≠bD→hget h' b=hget h b
def zIe (k:Nat):List CI:=[⟨none,(some 18),0,.pur (.mv (.t 9))⟩,
    ⟨none,(some 19),0,.pur (.mv (.t 1))⟩,
    ⟨none,(some 20),0,.pur (.bin .gtr 3 (.t 18) (.t 19))⟩,
    ⟨none,(some 21),0,.pur (.mv (.t 20))⟩,
    ⟨(some (21,true)),(some 22),0,.pur (.mv (.t 3))⟩,
    ⟨(some (21,true)),(some 23),0,.pur (.mv (.t 0))⟩,
    ⟨(some (21,true)),(some 24),0,.pur (.mv (.t 9))⟩,
    ⟨(some (21,true)),(some 25),0,.pur (.ixA (.slice k) (.t 23) (.t 24))⟩,
    ⟨(some (21,true)),(some 26),0,.red (.ld (some k) (.t 25))⟩,
    ⟨(some (21,true)),(some 27),0,.pur (.mv (.t 0))⟩,
    ⟨(some (21,true)),(some 28),0,.pur (.mv (.t 9))⟩,
    ⟨(some (21,true)),(some 29),0,.pur (.bin .sub 3 (.t 28) (.v (.int .i64 1)))⟩,
    ⟨(some (21,true)),(some 30),0,.pur (.ixA (.slice k) (.t 27) (.t 29))⟩,
    ⟨(some (21,true)),(some 31),0,.red (.ld (some k) (.t 30))⟩,
    ⟨(some (21,true)),(some 32),0,.eff (.callv (.t 22) [(.t 26),(.t 31)])⟩,
    ⟨(some (21,true)),(some 33),0,.pur (.bin .lss 3 (.t 32) (.v (.int .i64 0)))⟩,
    ⟨none,(some 34),0,.pur (.pick (.t 21) (.t 33) (.v (.bool false)))⟩]
def zRP (k:Nat):List CI:=[⟨none,(some 37),0,.pur (.mv (.t 0))⟩,
     ⟨none,(some 38),0,.pur (.mv (.t 9))⟩,
     ⟨none,(some 42),0,.pur (.mv (.t 0))⟩,
     ⟨none,(some 43),0,.pur (.mv (.t 9))⟩,
     ⟨none,(some 44),0,.pur (.bin .sub 3 (.t 43) (.v (.int .i64 1)))⟩,
     ⟨none,(some 45),0,.pur (.ixA (.slice k) (.t 42) (.t 44))⟩,
     ⟨none,(some 46),0,.red (.ld (some k) (.t 45))⟩,
     ⟨none,(some 47),0,.pur (.mv (.t 0))⟩,
     ⟨none,(some 48),0,.pur (.mv (.t 9))⟩,
     ⟨none,(some 49),0,.pur (.ixA (.slice k) (.t 47) (.t 48))⟩,
     ⟨none,(some 50),0,.red (.ld (some k) (.t 49))⟩,
     ⟨none,(some 51),0,.pur (.ixA (.slice k) (.t 37) (.t 38))⟩,
     ⟨none,none,0,.eff (.st k (.t 51) (.t 46))⟩,
     ⟨none,(some 39),1,.pur (.mv (.t 0))⟩,
     ⟨none,(some 40),1,.pur (.mv (.t 9))⟩,
     ⟨none,(some 41),1,.pur (.bin .sub 3 (.t 40) (.v (.int .i64 1)))⟩,
     ⟨none,(some 52),0,.pur (.ixA (.slice k) (.t 39) (.t 41))⟩,
     ⟨none,none,0,.eff (.st k (.t 52) (.t 50))⟩]
theorem zDP {enc:α→List Value} {k:Nat} (hk:∀ x,(enc x).length=k) {M:List α} {j:Nat} {x:α} (hx:M[j]? = some x):zA2 (some k) (0+j*k) (flat enc M) = .ok (.agg ⟨enc x⟩):=by
 have hj:j<M.length:=by
  rcases Nat.lt_or_ge j M.length with h | h
  ·exact h
  ·rw [List.getElem?_eq_none h] at hx; cases hx
 rw [zBh,Nat.zero_add,if_pos (by rw [zAF hk]; have:=Nat.mul_le_mul_right k (show j+1≤M.length by omega); rw [Nat.succ_mul] at this; omega),zCv hk hx]
theorem zH7 {enc:α→List Value} {k:Nat} (hk:∀ x,(enc x).length=k) (hcell:∀ x,zf (enc x)=true) {h:Hp} {b:Nat} {M:List α} (hM:hget h b=some (.cells (flat enc M) false)) {j:Nat} (hj:j<M.length) (x:α) :
  cSt h k (zI (.agg ⟨enc x⟩)) ⟨b,0+j*k,none⟩ = .ok (hset h b (.cells (flat enc (M.set j x)) false)):=by
 unfold cSt zAr;show (bif Nat.beq (llen (enc x)) k then _ else _)=_;rw [zz,hk,Nat.beq_refl];simp only [cond_true,zA hM];show (bif zf (enc x) then R.of _ (lput (enc x) (flat enc M) (0+j*k)) _ else _)=_;rw [hcell,Nat.zero_add,zGB hk x hj];rfl
theorem zOZ {k fc:Nat} {s:Bool} {enc:α→List Value} (hk:∀ x,(enc x).length=k) {c:α→α→Int} (hcmp:zKj P orc fc enc c)
  {h:Hp} {nx bD n cap:Nat} {sp:Option Nat} {M:List α} {J j:Nat} {x1 x0:α} (hJ:J=j+1) (hJn:J<n) (hn:n≤1000) (hx1:M[J]? = some x1) (hx0:M[j]? = some x0) (hM:hget h bD=some (.cells (flat enc M) false)) {tm:Tm}
  (t0:tget tm 0 = .slice (some ⟨bD,0,sp⟩) n cap) (t1:tget tm 1 = .int .i64 0) (t3:tget tm 3 = .func (.func fc) #[] #[]) (t9:tget tm 9 = .int .i64 (J:Int)) {K:KS'}
  (hK:∀ tm' h' nx',nx≤nx'→(∀ b,b<nx→hget h' b=hget h b)→(∀ t,t<18→tget tm' t=tget tm t)→tget tm' 34 = .bool (decide (c x1 x0<0))→K tm' h' nx') :
  Dv P orc s (zIe k) tm h nx h [] K:=by
 have hw:IntKind.wrap .i64 ((J:Int)-1)=(j:Int):=by rw [show (J:Int)-1=(j:Int) by omega]; exact zFl j (by omega)
 have hpos:decide ((0:Int)<(J:Int))=true:=by simp; omega
 unfold zIe;simp only [zA1,c_mv,zCG,zO,zn,zX,zB,tgs,t9,t1,zHP,hpos,seval];simp only [Dv_g,tgs,zt,cond_true,zA1,c_mv,zO,zX,zB,t0,t3,t9,zH2,zBa,zAk,if_pos hJn,seval];simp only [zCW,c_ld,zO,tgs,zR,zA hM,zDP hk hx1,zX,zAD,true_and,zB,Dv_g,zt,cond_true,zA1,c_mv,t0,t9,seval];simp only [Dv_g,tgs,zt,cond_true,zA1,zCG,zH2,zO,zn,zEN,hw,zX,zB,zBa,zAk,if_pos (show j<n by omega),seval];simp only [zCW,Dv_g,zt,cond_true,c_ld,zO,tgs,zR,zA hM,zDP hk hx0,zX,zAD,true_and,zB,seval];refine zGL (f:=fc) (args:=[.agg ⟨enc x1⟩,.agg ⟨enc x0⟩]) (h1:=h) (nx1:=nx) ?_ ?_
 ·simp [ceff,zBZ,t3,zAB]
 refine (hcmp x1 x0 h nx).mono ?_;rintro v h2 nx2 ⟨rfl,hnx2,hfr2⟩;refine ⟨hnx2,?_⟩;simp only [Dv_g,tgs,zt,cond_true,zA1,zCG,zS2,zO,zn,zFZ,zX,zB,zFY,Dv_nil,seval];refine hK _ _ _ hnx2 hfr2 (fun t ht=>?_) (by simp);simp only [tgs];simp [show t≠18 by omega,show t≠19 by omega,show t≠20 by omega,show t≠21 by omega,show t≠22 by omega,show t≠23 by omega,show t≠24 by omega,show t≠25 by omega,show t≠26 by omega,show t≠27 by omega,show t≠28 by omega,show t≠29 by omega,show t≠30 by omega,show t≠31 by omega,show t≠32 by omega,show t≠33 by omega,show t≠34 by omega]
theorem Dv_skp {s:Bool} {t d c:Nat} {e:CP} {is:List CI} {tm:Tm} {h:Hp} {nx:Nat} {b:Hp} {hs:List Hp} {K:KS'} (ht:tget tm t = .bool false):Dv P orc s (⟨some (t,true),some d,c,.pur e⟩::is) tm h nx b hs K↔Dv P orc s is (tset tm d zY) h nx b hs K:=by
 rw [Dv_g,ht]; simp [zt,zAZ]
theorem Dv_skr {s:Bool} {t d c:Nat} {e:CRd} {is:List CI} {tm:Tm} {h:Hp} {nx:Nat} {b:Hp} {hs:List Hp} {K:KS'} (ht:tget tm t = .bool false):Dv P orc s (⟨some (t,true),some d,c,.red e⟩::is) tm h nx b hs K↔Dv P orc s is (tset tm d zY) h nx b hs K:=by
 rw [Dv_g,ht]; simp [zt,zAZ]
theorem Dv_ske {s:Bool} {t d c:Nat} {e:CE} {is:List CI} {tm:Tm} {h:Hp} {nx:Nat} {b:Hp} {hs:List Hp} {K:KS'} (ht:tget tm t = .bool false):Dv P orc s (⟨some (t,true),some d,c,.eff e⟩::is) tm h nx b hs K↔Dv P orc s is (tset tm d zY) h nx h (b::hs) K:=by
 rw [Dv_g,ht]; simp [zt,zAZ]
theorem zLV {k:Nat} {s:Bool} {h:Hp} {nx:Nat} {tm:Tm} (t1:tget tm 1 = .int .i64 0) (t9:tget tm 9 = .int .i64 ((0:Nat):Int)) {K:KS'}
  (hK:∀ tm',(∀ t,t<18→tget tm' t=tget tm t)→tget tm' 34 = .bool false→K tm' h nx):Dv P orc s (zIe k) tm h nx h [] K:=by
 unfold zIe;simp only [zA1,c_mv,zCG,zO,zn,zX,zB,tgs,t9,t1,zHP,show decide ((0:Int)<((0:Nat):Int))=false from rfl,seval]
 repeat (first | rw [Dv_skp (by simp)] | rw [Dv_skr (by simp)] | rw [Dv_ske (by simp)])
 simp only [zA1,zS2,zO,zn,tgs,zFY,Bool.false_eq_true,zX,zB,Dv_nil,seval];refine hK _ (fun t ht=>?_) (by simp);simp only [tgs];simp [show t≠18 by omega,show t≠19 by omega,show t≠20 by omega,show t≠21 by omega,show t≠22 by omega,show t≠23 by omega,show t≠24 by omega,show t≠25 by omega,show t≠26 by omega,show t≠27 by omega,show t≠28 by omega,show t≠29 by omega,show t≠30 by omega,show t≠31 by omega,show t≠32 by omega,show t≠33 by omega,show t≠34 by omega]
theorem zO0 {k:Nat} {s:Bool} {enc:α→List Value} (hk:∀ x,(enc x).length=k) (hcell:∀ x,zf (enc x)=true)
  {h:Hp} {nx bD n cap:Nat} {sp:Option Nat} {M:List α} (hMl:M.length=n) {J j:Nat} {x1 x0:α} (hJ:J=j+1) (hJn:J<n) (hn:n≤1000) (hx1:M[J]? = some x1) (hx0:M[j]? = some x0) (hM:hget h bD=some (.cells (flat enc M) false)) {tm:Tm}
  (t0:tget tm 0 = .slice (some ⟨bD,0,sp⟩) n cap) (t9:tget tm 9 = .int .i64 (J:Int)) {K:KS'}
  (hK:∀ tm' h',(∀ t,t<35→tget tm' t=tget tm t)→hget h' bD=some (.cells (flat enc ((M.set J x0).set j x1)) false)→(∀ b,b≠bD→hget h' b=hget h b)→K tm' h' nx) :
  Dv P orc s (zRP k) tm h nx h [] K:=by
 have hw:IntKind.wrap .i64 ((J:Int)-1)=(j:Int):=by rw [show (J:Int)-1=(j:Int) by omega]; exact zFl j (by omega)
 have hst1:=zH7 hk hcell hM (j:=J) (by omega) x0;have hM2:hget (hset h bD (.cells (flat enc (M.set J x0)) false)) bD=some (.cells (flat enc (M.set J x0)) false):=by simp
 have hst2:=zH7 hk hcell hM2 (j:=j) (by rw [List.length_set]; omega) x1;unfold zRP;simp only [zA1,c_mv,zCG,zH2,zO,zn,zX,zB,tgs,t9,t0,zEN,hw,zBa,zAk,if_pos (show j<n by omega),seval];simp only [zCW,c_ld,zO,tgs,zR,zA hM,zDP hk hx0,zX,zAD,true_and,zB,seval];simp only [zA1,c_mv,zH2,zO,zX,zB,tgs,t9,t0,zBa,zAk,if_pos hJn,seval];simp only [zCW,c_ld,zO,tgs,zR,zA hM,zDP hk hx1,zX,zAD,true_and,zB,seval];simp only [zA1,c_mv,zH2,zO,zX,zB,tgs,t9,t0,zBa,zAk,if_pos hJn,seval];simp only [Dv_st,zO,tgs,zR,hst1,zX,zH,seval];simp only [zA1,c_mv,zCG,zH2,zO,zn,zX,zB,tgs,t9,t0,zEN,hw,zBa,zAk,if_pos (show j<n by omega),seval];simp only [Dv_st,zO,tgs,zR,hst2,zX,zH,Dv_nil,seval];refine hK _ _ (fun t ht=>?_) (by simp) (fun b hb=>by simp [hb]);simp only [tgs];simp [show t≠37 by omega,show t≠38 by omega,show t≠39 by omega,show t≠40 by omega,show t≠41 by omega,show t≠42 by omega,show t≠43 by omega,show t≠44 by omega,show t≠45 by omega,show t≠46 by omega,show t≠47 by omega,show t≠48 by omega,show t≠49 by omega,show t≠50 by omega,show t≠51 by omega,show t≠52 by omega]
theorem zPa {M:List α} {j:Nat} {x0 x1:α} (h0:M[j]? = some x0) (h1:M[j+1]? = some x1):((M.set (j+1) x0).set j x1).Perm M:=by
 induction M generalizing j with
 | nil=>simp at h0
 | cons y M ih =>
  cases j with
  | zero =>
   cases M with
   | nil=>simp at h1
   | cons z M =>
    simp at h0 h1;subst h0 h1;simpa using List.Perm.swap ..
  | succ j=>simpa using (ih (j:=j) (by simpa using h0) (by simpa using h1)).cons y
theorem ins_cv {fi k fc:Nat} {s:Bool} (hcf:zD P fi=some (zSR k)) (ho:orc fi=none) {enc:α→List Value} (hk:∀ x,(enc x).length=k) (hcell:∀ x,zf (enc x)=true) {c:α→α→Int} (hcmp:zKj P orc fc enc c)
  (htr:∀ x y z,¬ c y x<0→¬ c z y<0→¬ c z x<0) (has:∀ x y,c x y<0→¬ c y x<0)
  {h:Hp} {nx bD n cap:Nat} {sp:Option Nat} {l:List α} (hl:l.length=n) (hn:n≤1000) (hb:bD<nx) (hh:hget h bD=some (.cells (flat enc l) false)) :
  Cv P orc s fi [.slice (some ⟨bD,0,sp⟩) n cap,.int .i64 0,.int .i64 (n:Int),.func (.func fc) #[] #[]] h nx
   (fun _ h' nx'=>nx≤nx'∧(∃ l':List α,l'.Perm l∧l'.Pairwise (fun x y=>¬ c y x<0)∧hget h' bD=some (.cells (flat enc l') false))∧∀ b,b<nx→b≠bD→hget h' b=hget h b):=by
 refine Cv.enter ho hcf ?_;unfold zSR bC bT eN mV pU rU;refine Ev.seq (Ev.regO ?_);simp [zE,Ov_nil,show IntKind.wrap .i64 1=1 from zFl 1 (by omega)];refine Ev.block (Ev.loop (fun m tm h' nx'=>∃ i,m=n-i∧InsO h nx bD n l enc c (.slice (some ⟨bD,0,sp⟩) n cap) fc i tm h' nx') ?_ (n-1) _ _ _ ⟨1,rfl,by simp,by simp,by simp,by simp,by simp,Nat.le_refl _,Nat.le_refl _,l,List.Perm.refl _,fun p q x y h1 h2=>by omega,hh,fun _ _ _=>rfl⟩);rintro m tm h1 nx1 ⟨i,rfl,t0,t1,t2,t3,t8,hnx1,hi1,M,hperm,hsort,hM,hfr⟩;have hMl:M.length=n:=hperm.length_eq.trans hl;refine Ev.seq (Ev.seq (Ev.regO ?_));simp [zE,Ov_nil,t8,t2];refine Ev.cond (decide (i<n)) (by simp) (fun hin=>Ev.skip ?_) fun hin=>Ev.exit ?_
 ·simp at hin ⊢;refine Ev.seq (Ev.block (Ev.seq (Ev.regO ?_)));simp [zE,Ov_nil,t8];refine Ev.block (Ev.loop (fun m tm h' nx'=>InsI h nx bD n l enc c (.slice (some ⟨bD,0,sp⟩) n cap) fc i m tm h' nx') ?_ i _ _ _ ⟨by simp [t0],by simp [t1],by simp [t2],by simp [t3],by simp [t8],by simp,hnx1,hin,Nat.le_refl _,M,hperm,fun p q x y a b d=>hsort p q x y a (by omega),hM,hfr⟩);clear hsort hM hfr hperm hMl t0 t1 t2 t3 t8 hnx1;clear M;rintro j tm h1 nx1 ⟨t0,t1,t2,t3,t8,t9,hnx1,_,hji,M,hperm,hsort,hM,hfr⟩;have hMl:M.length=n:=hperm.length_eq.trans hl;have outer:∀ (tm:Tm) (h1:Hp) (nx1:Nat),tget tm 0 = .slice (some ⟨bD,0,sp⟩) n cap→tget tm 1 = .int .i64 0→tget tm 2 = .int .i64 (n:Int)→tget tm 3 = .func (.func fc) #[] #[]→tget tm 8 = .int .i64 (i:Int)→nx≤nx1 →
    (∀ p q x y,p<q→q≤i→M[p]? = some x→M[q]? = some y→¬ c y x<0)→hget h1 bD=some (.cells (flat enc M) false)→(∀ b,b<nx→b≠bD→hget h1 b=hget h b) →
    ∃ m',m'<n-i∧∃ i',m'=n-i'∧InsO h nx bD n l enc c (.slice (some ⟨bD,0,sp⟩) n cap) fc i' (tset (tset (tset tm 15 (.int .i64 (i:Int))) 16 (.int .i64 (IntKind.wrap .i64 ((i:Int)+1)))) 8 (.int .i64 (IntKind.wrap .i64 ((i:Int)+1)))) h1 nx1:=by
   intro tm h1 nx1 t0 t1 t2 t3 t8 hnx1 hs hM hfr;refine ⟨n-(i+1),by omega,i+1,rfl,by simp [t0],by simp [t1],by simp [t2],by simp [t3],by simp; exact zFl (i+1) (by omega),hnx1,by omega,M,hperm,fun p q x y a b=>hs p q x y a (by omega),hM,hfr⟩
  cases j with
  | zero =>
   refine Ev.seq (Ev.seq (Ev.regD ?_));refine zLV (k:=k) t1 t9 ?_;intro tm2 hlow t34;have u0:=(hlow 0 (by omega)).trans t0;have u1:=(hlow 1 (by omega)).trans t1;have u2:=(hlow 2 (by omega)).trans t2;have u3:=(hlow 3 (by omega)).trans t3;have u8:=(hlow 8 (by omega)).trans t8;refine Ev.cond false t34 (by simp) fun _=>Ev.exit ?_;simp only [zAc,zAv,↓reduceIte,zAX,zC];refine Ev.regO ?_;simp only [zE,c_mv,zCG,zO,zn,zX,zB,tgs,u8,zEO,Ov_nil,zC,seval];exact outer _ _ _ u0 u1 u2 u3 u8 hnx1 (fun p q x y a b=>hsort p q x y a b (by omega)) hM hfr
  | succ j =>
   have hjn:j+1<M.length:=by omega
   obtain ⟨x1,hx1⟩:∃ x,M[j+1]? = some x:=⟨_,List.getElem?_eq_getElem hjn⟩
   obtain ⟨x0,hx0⟩:∃ x,M[j]? = some x:=⟨_,List.getElem?_eq_getElem (by omega)⟩
   refine Ev.seq (Ev.seq (Ev.regD ?_));refine zOZ (J:=j+1) (j:=j) hk hcmp rfl (by omega) hn hx1 hx0 hM t0 t1 t3 t9 ?_;intro tm2 h2 nx2 hnx2 hfr2 hlow t34;have u0:=(hlow 0 (by omega)).trans t0;have u1:=(hlow 1 (by omega)).trans t1;have u2:=(hlow 2 (by omega)).trans t2;have u3:=(hlow 3 (by omega)).trans t3;have u8:=(hlow 8 (by omega)).trans t8;have u9:=(hlow 9 (by omega)).trans t9;have hM2:hget h2 bD=some (.cells (flat enc M) false):=by rw [hfr2 _ (by omega)]; exact hM
   have hf2:∀ b,b<nx→b≠bD→hget h2 b=hget h b:=fun b a d=>by rw [hfr2 _ (by omega)]; exact hfr b a d
   refine Ev.cond (decide (c x1 x0<0)) t34 (fun hlt=>Ev.skip ?_) fun hge=>Ev.exit ?_
   ·simp only [decide_eq_true_eq] at hlt;simp only [zC];refine Ev.seq (Ev.block (Ev.regD ?_));refine zO0 (J:=j+1) (j:=j) hk hcell hMl rfl (by omega) hn hx1 hx0 hM2 u0 u9 ?_;intro tm3 h3 hlow3 hM3 hf3;simp only [zAX,zC];refine Ev.regO ?_;have v9:=(hlow3 9 (by omega)).trans u9;have hw:IntKind.wrap .i64 (((j+1:Nat):Int)-1)=(j:Int):=by rw [show ((j+1:Nat):Int)-1=(j:Int) by omega]; exact zFl j (by omega)
    simp only [zE,c_mv,zCG,zO,zn,zX,zB,tgs,v9,zEN,hw,Ov_nil,zC,seval];refine ⟨j,by omega,by simp [hlow3 0 (by omega),u0],by simp [hlow3 1 (by omega),u1],by simp [hlow3 2 (by omega),u2],by simp [hlow3 3 (by omega),u3],by simp [hlow3 8 (by omega),u8],by simp,by omega,hin,by omega,_,(zPa hx0 hx1).trans hperm,?_,hM3,fun b a d=>by rw [hf3 b d]; exact hf2 b a d⟩;intro p q x y hpq hqi hqj hp hq;have hg:∀ t,((M.set (j+1) x0).set j x1)[t]? = if t=j then some x1 else if t=j+1 then some x0 else M[t]?:=fun t=>by
     rw [List.getElem?_set,List.getElem?_set];simp only [List.length_set]
     by_cases e:t=j
     ·subst e; simp; omega
     ·by_cases e':t=j+1
      ·subst e'; simp; omega
      ·simp [e,e',Ne.symm e,Ne.symm e',show ¬ j=t by omega,show ¬ j+1=t by omega]
    rw [hg] at hp hq;have hle:¬ c x0 x1<0:=has _ _ hlt
    by_cases q1:q=j+1
    ·subst q1;rw [if_neg (by omega),if_pos rfl] at hq;cases hq
     by_cases p1:p=j
     ·subst p1; rw [if_pos rfl] at hp; cases hp; exact hle
     ·rw [if_neg p1,if_neg (by omega)] at hp;exact hsort p j x _ (by omega) (by omega) (by omega) hp hx0
    ·rw [if_neg hqj,if_neg q1] at hq
     by_cases p1:p=j
     ·subst p1; rw [if_pos rfl] at hp; cases hp;exact hsort (p+1) q _ y (by omega) hqi q1 hx1 hq
     ·by_cases p2:p=j+1
      ·subst p2; rw [if_neg (by omega),if_pos rfl] at hp; cases hp;exact hsort j q _ y (by omega) hqi q1 hx0 hq
      ·rw [if_neg p1,if_neg p2] at hp;exact hsort p q x y hpq hqi q1 hp hq
   ·simp only [decide_eq_false_iff_not] at hge;simp only [zAc,zAv,↓reduceIte,zAX,zC];refine Ev.regO ?_;simp only [zE,c_mv,zCG,zO,zn,zX,zB,tgs,u8,zEO,Ov_nil,zC,seval];refine outer _ _ _ u0 u1 u2 u3 u8 (by omega) ?_ hM2 hf2;intro p q x y hpq hqi hp hq
    by_cases q1:q=j+1
    ·subst q1;rw [hx1] at hq; cases hq
     by_cases p1:p=j
     ·subst p1; rw [hx0] at hp; cases hp; exact hge
     ·exact htr _ _ _ (hsort p j x x0 (by omega) (by omega) (by omega) hp hx0) hge
    ·exact hsort p q x y hpq hqi q1 hp hq
 ·simp at hin ⊢;refine ⟨hnx1,⟨M,hperm,?_,hM⟩,hfr⟩;rw [List.pairwise_iff_getElem];intro p q hp hq hpq;exact Int.not_lt.1 (hsort p q _ _ hpq (by omega) (List.getElem?_eq_getElem hp) (List.getElem?_eq_getElem hq))
end
def cfPdq (fi:Nat) (rest:CC):CF:={ res:=[],body:=(.seq (.regO [mC 10 (.bool true)]) (.seq (.regO [mC 11 (.bool true)]) (.block 0 (.loop (.block 1 (.seq (.regO [mV 21 2,mV 22 1,bT 23 .sub 3 21 22,mV 12 23]) (.seq (.seq (.regO [mV 24 12,bC 25 .leq 3 24 (.int .i64 12)]) (.cond (.t 25) (.seq (.regO [mV 26 0,mV 27 1,mV 28 2,mV 29 4,eU 30 (.call fi [(.t 26),(.t 27),(.t 28),(.t 29)])]) .ret) .skip)) rest))))))) }
def zQe (c:Option CF):CC:=match c with
 | some { body:=.seq _ (.seq _ (.block _ (.loop (.block _ (.seq _ (.seq _ r)))))),res:=_ }=>r
 | _=>.skip
def zHy (fl fp:Nat):CF:={ res:=[],body:=(.seq (.regO [mV 5 0,rU 6 0 (.lens (.t 5)),mV 4 6]) (.regO [mV 7 0,mV 8 4,mV 9 4,pU 10 (.conv (.int .u64) (.t 9)),eU 11 (.call fl [(.t 10)]),mV 12 1,eU 13 (.call fp [(.t 7),(.v (.int .i64 0)),(.t 8),(.t 11),(.t 12)])])) }
section
variable {P:Program} {orc:Orc} {α:Type} {s:Bool}
structure SortAt (P:Program) (orc:Orc) (f fl fp fi k fc:Nat) (enc:α→List Value) (c:α→α→Int):Prop where
 cf:zD P f=some (zHy fl fp)
 no:orc f=none
 len:∀ (s:Bool) (n:Nat),n≤12→∀ h nx,Cv P orc s fl [.int .u64 (n:Int)] h nx (fun _ h' nx'=>h'=h∧nx'=nx)
 pdq:∃ rest,zD P fp=some (cfPdq fi rest)
 noP:orc fp=none
 ins:zD P fi=some (zSR k)
 noI:orc fi=none
 hk:∀ x,(enc x).length=k
 cell:∀ x,zf (enc x)=true
 cmp:zKj P orc fc enc c
 tr:∀ x y z,¬ c y x<0→¬ c z y<0→¬ c z x<0
 as:∀ x y,c x y<0→¬ c y x<0
theorem wrapU (n:Nat) (h:n≤12):IntKind.wrap .u64 (n:Int)=(n:Int):=by
 rw [← zAT];show zEf .u64 n=_;unfold zEf limU;rw [zA8];simp [show n<18446744073709551616 by omega]
theorem zPc {f fl fp fi k fc:Nat} {enc:α→List Value} {c:α→α→Int} (S:SortAt P orc f fl fp fi k fc enc c)
  {h:Hp} {nx bD n cap:Nat} {sp:Option Nat} {l:List α} (hl:l.length=n) (hn:n≤12) (hb:bD<nx) (hh:hget h bD=some (.cells (flat enc l) false)) :
  Cv P orc s f [.slice (some ⟨bD,0,sp⟩) n cap,.func (.func fc) #[] #[]] h nx
   (fun _ h' nx'=>nx≤nx'∧(∃ l':List α,l'.Perm l∧l'.Pairwise (fun x y=>¬ c y x<0)∧hget h' bD=some (.cells (flat enc l') false))∧∀ b,b<nx→b≠bD→hget h' b=hget h b):=by
 refine Cv.enter S.no S.cf ?_;unfold zHy eU mV pU rU;refine Ev.seq (Ev.regO ?_);simp [zE,zAI,Ov_nil];refine Ev.regO ?_;simp [zE,wrapU n hn];refine ze ?_;simp;refine (S.len s n hn h nx).mono ?_;rintro v h' nx' ⟨rfl,rfl⟩;simp [zE];refine ze ?_;simp;obtain ⟨rest,hp⟩:=S.pdq;refine (?_:Cv P orc s fp _ h' nx' _);refine Cv.enter S.noP hp ?_;unfold cfPdq bC bT eU mC mV;refine Ev.seq (Ev.regO ?_);simp [zE,Ov_nil];refine Ev.seq (Ev.regO ?_);simp [zE,Ov_nil];refine Ev.block (Ev.loop (fun m tm h1 nx1=>h1=h'∧nx1=nx'∧tget tm 0 = .slice (some ⟨bD,0,sp⟩) n cap∧tget tm 1 = .int .i64 0∧tget tm 2 = .int .i64 (n:Int)∧tget tm 4 = .func (.func fc) #[] #[]) ?_ 0 _ _ _ ⟨rfl,rfl,by simp,by simp,by simp,by simp⟩);rintro m tm h1 nx1 ⟨rfl,rfl,t0,t1,t2,t4⟩;have hle:decide ((12:Int)<(n:Int))=false:=by simp; omega
 refine Ev.block (Ev.seq (Ev.regO ?_));simp only [zE,c_mv,zCG,zO,zn,zX,zB,tgs,t1,t2,zEN,zHO,Ov_nil,zC,show IntKind.wrap .i64 ((n:Int)-0)=(n:Int) by rw [show (n:Int)-0=(n:Int) by omega]; exact zFl n (by omega),seval];refine Ev.seq (Ev.seq (Ev.regO ?_));simp only [zE,c_mv,zCG,zO,zn,zX,zB,tgs,zHO,Ov_nil,zC,hle,seval];refine Ev.cond true (by simp) (fun _=>?_) (by simp);refine Ev.seq (Ev.regO ?_);simp only [zE,c_mv,zO,zX,zB,tgs,t0,t1,t2,t4,seval];refine ze ?_;simp only [zJ,zP,zO,tgs,seval];refine (ins_cv (s:=s) S.ins S.noI S.hk S.cell S.cmp S.tr S.as hl (by omega) hb hh).mono ?_;intro v h2 nx2 hk;simp only [Ov_nil,zC];refine Ev.ret ?_;simpa [Ov_nil] using hk
theorem zEW {R:α→α→Prop} (anti:∀ x y,R x y→R y x→x=y):∀ {l l':List α},l.Perm l'→l.Pairwise R→l'.Pairwise R→l=l'
 | [],l',hp,_,_=>by rw [List.nil_perm.1 hp]
 | x::l,[],hp,_,_=>by have:=hp.length_eq; simp at this
 | x::l,y::l',hp,h1,h2=>by
  have hx:∀ z∈l,R x z:=fun z hz=>List.rel_of_pairwise_cons h1 hz;have hy:∀ z∈l',R y z:=fun z hz=>List.rel_of_pairwise_cons h2 hz;have exy:x=y:=by
   have m1:x∈y::l':=hp.subset (by simp);have m2:y∈x::l:=hp.symm.subset (by simp);rcases List.mem_cons.1 m1 with e | m1
   ·exact e
   rcases List.mem_cons.1 m2 with e | m2
   ·exact e.symm
   exact anti _ _ (hx y m2) (hy x m1)
  subst exy;rw [zEW anti (List.Perm.cons_inv hp) (List.Pairwise.of_cons h1) (List.Pairwise.of_cons h2)]
end
def zLx (ty:Nat):CF:={ res:=[.tmp 2],body:=(.seq (.regO [mC 2 (.bool false)]) (.seq (.regO [mV 3 0,mV 4 0,bT 5 .neq ty 3 4,mV 2 5]) .ret)) }
def zOo (ty fn:Nat):CF:={ res:=[.tmp 4],body:=(.seq (.regO [mC 4 (.int .i64 0)]) (.seq (.regO [mV 7 0,eU 8 (.call fn [(.t 7)]),mV 5 8]) (.seq (.regO [mV 9 1,eU 10 (.call fn [(.t 9)]),mV 6 10]) (.seq (.seq (.regO [mV 11 5]) (.cond (.t 11) (.seq (.seq (.regO [mV 12 6]) (.cond (.t 12) (.seq (.regO [mC 4 (.int .i64 0)]) .ret) .skip)) (.seq (.regO [mC 4 (.int .i64 (-1))]) .ret)) .skip)) (.seq (.seq (.regO [mV 13 6]) (.cond (.t 13) (.seq (.regO [mC 4 (.int .i64 1)]) .ret) .skip)) (.seq (.seq (.regO [mV 14 0,mV 15 1,bT 16 .lss ty 14 15]) (.cond (.t 16) (.seq (.regO [mC 4 (.int .i64 (-1))]) .ret) .skip)) (.seq (.seq (.regO [mV 17 0,mV 18 1,bT 19 .gtr ty 17 18]) (.cond (.t 19) (.seq (.regO [mC 4 (.int .i64 1)]) .ret) .skip)) (.seq (.regO [mC 4 (.int .i64 0)]) .ret)))))))) }
def cfOr:CF:={ res:=[.tmp 2],body:=(.seq (.regO [mC 2 (.int .i64 0)]) (.seq (.regO [mC 3 (.int .i64 0)]) (.seq (.seq (.regO [mV 6 0,rU 7 0 (.lens (.t 6)),mC 8 (.int .i64 0)]) (.block 0 (.loop (.seq (.regO [bT 9 .lss 3 8 7]) (.seq (.cond (.t 9) .skip (.exit 0)) (.seq (.block 1 (.seq (.regO [pU 10 (.ixA (.slice 1) (.t 6) (.t 8)),lD 11 0 10,mV 5 11]) (.seq (.regO [mV 12 5,mV 13 3,bT 14 .neq 3 12 13]) (.cond (.t 14) (.seq (.regO [mV 15 5,mV 2 15]) .ret) .skip)))) (.regO [bC 16 .add 3 8 (.int .i64 1),mV 8 16]))))))) (.seq (.regO [mV 17 3,mV 2 17]) .ret)))) }
def cmpI (a b:Int):Int:=if a<b then -1 else if b<a then 1 else 0
def orI:List Int→Int
 | []=>0
 | x::l=>if x=0 then orI l else x
section
variable {P:Program} {orc:Orc} {s:Bool}
theorem nan_cv {fn ty:Nat} (hn:zD P fn=some (zLx ty)) (hon:orc fn=none) {q:IntKind} (a:Int) {h:Hp} {nx:Nat}:Cv P orc s fn [.int q a] h nx (fun v h' nx'=>v = .bool false∧h'=h∧nx'=nx):=by
 refine Cv.enter hon hn ?_;unfold zLx bT mC mV;refine Ev.seq (Ev.regO ?_);simp [zE,Ov_nil];refine Ev.seq (Ev.regO ?_);simp [zE,Ov_nil];exact Ev.ret (by simp)
theorem zKV {f fn ty:Nat} (hcf:zD P f=some (zOo ty fn)) (ho:orc f=none) (hn:zD P fn=some (zLx ty)) (hon:orc fn=none) {q:IntKind} (a b:Int) {h:Hp} {nx:Nat} :
  Cv P orc s f [.int q a,.int q b] h nx (fun v h' nx'=>v = .int .i64 (cmpI a b)∧h'=h∧nx'=nx):=by
 refine Cv.enter ho hcf ?_;unfold zOo bT eU mC mV;refine Ev.seq (Ev.regO ?_);simp [zE,Ov_nil];refine Ev.seq (Ev.regO ?_);simp [zE];refine ze ?_;simp;refine (nan_cv hn hon a).mono ?_;rintro v h' nx' ⟨rfl,rfl,rfl⟩;simp [zE,Ov_nil];refine Ev.seq (Ev.regO ?_);simp [zE];refine ze ?_;simp;refine (nan_cv hn hon b).mono ?_;rintro v h2 nx2 ⟨rfl,rfl,rfl⟩;simp [zE,Ov_nil];refine Ev.seq (Ev.seq (Ev.regO ?_));simp [zE,Ov_nil];refine Ev.cond false (by simp) (by simp) fun _=>Ev.skip ?_;simp;refine Ev.seq (Ev.seq (Ev.regO ?_));simp [zE,Ov_nil];refine Ev.cond false (by simp) (by simp) fun _=>Ev.skip ?_;simp;refine Ev.seq (Ev.seq (Ev.regO ?_));simp [zE,Ov_nil];refine Ev.cond (decide (a<b)) (by simp) (fun hlt=>?_) fun hge=>Ev.skip ?_
 ·refine Ev.seq (Ev.regO ?_);simp [zE,Ov_nil];simp at hlt;exact Ev.ret (by simp [cmpI,hlt])
 ·simp at hge;simp;refine Ev.seq (Ev.seq (Ev.regO ?_));simp [zE,Ov_nil];refine Ev.cond (decide (b<a)) (by simp) (fun hlt=>?_) fun hge2=>Ev.skip ?_
  ·refine Ev.seq (Ev.regO ?_);simp [zE,Ov_nil];simp at hlt;exact Ev.ret (by simp [cmpI,hlt,show ¬ a<b by omega])
  ·simp at hge2;simp;refine Ev.seq (Ev.regO ?_);simp [zE,Ov_nil];exact Ev.ret (by simp [cmpI,show ¬ a<b by omega,show ¬ b<a by omega])
theorem or_cv {f:Nat} (hcf:zD P f=some cfOr) (ho:orc f=none) {h:Hp} {nx b cap:Nat} {sp:Option Nat} {ro:Bool} (xs:List Int) (hl:xs.length≤1000) (hh:hget h b=some (.cells (xs.map (.int .i64)) ro)) :
  Cv P orc s f [.slice (some ⟨b,0,sp⟩) xs.length cap] h nx (fun v h' nx'=>v = .int .i64 (orI xs)∧h'=h∧nx'=nx):=by
 refine Cv.enter ho hcf ?_;unfold cfOr bC bT lD mC mV pU rU;refine Ev.seq (Ev.regO ?_);simp [zE,Ov_nil];refine Ev.seq (Ev.regO ?_);simp [zE,Ov_nil];refine Ev.seq (Ev.seq (Ev.regO ?_));simp [zE,zAI,Ov_nil];refine Ev.block (Ev.loop (fun m tm h1 nx1=>∃ i:Nat,m=xs.length-i∧h1=h∧nx1=nx∧orI (xs.drop i)=orI xs∧tget tm 3 = .int .i64 0∧tget tm 6 = .slice (some ⟨b,0,sp⟩) xs.length cap∧tget tm 7 = .int .i64 (xs.length:Int)∧tget tm 8 = .int .i64 (i:Int)) ?_ xs.length _ _ _ ⟨0,rfl,rfl,rfl,rfl,by simp,by simp,by simp,by simp⟩);rintro m tm h1 nx1 ⟨i,rfl,rfl,rfl,hor,t3,t6,t7,t8⟩;refine Ev.seq (Ev.regO ?_);simp only [zE,zCG,zO,t8,t7,zFZ,zX,zB,Ov_nil,zC];refine Ev.seq (Ev.cond (decide ((i:Int)<(xs.length:Int))) (by simp) (fun hlt=>Ev.skip ?_) fun hge=>Ev.exit ?_)
 ·simp only [decide_eq_true_eq,Int.ofNat_lt] at hlt;simp only [zC];have hx:xs[i]? = some xs[i]:=List.getElem?_eq_getElem hlt;have hdrop:xs.drop i=xs[i]::xs.drop (i+1):=by simp
  generalize xs[i]=x at hx hdrop;refine Ev.seq (Ev.block (Ev.seq (Ev.regO ?_)));simp only [zE,zAI,zH2,c_mv,c_ld,zO,tgs,t6,t8,zBa,zAk,if_pos hlt,zX,zB,zR,zA hh,zBr,Nat.zero_add,Nat.mul_one,List.getElem?_map,hx,Option.map_some,zBS,Ov_nil,zC,seval];refine Ev.seq (Ev.regO ?_);simp only [zE,c_mv,zCG,zO,tgs,t3,zMG,zX,zB,Ov_nil,zC,seval];refine Ev.cond (!(x == 0)) (by simp) (fun hne=>?_) fun he=>Ev.skip ?_
  ·refine Ev.seq (Ev.regO ?_);simp only [zE,c_mv,zO,tgs,zX,zB,Ov_nil,zC,seval];refine Ev.ret ?_;simp at hne;rw [hdrop] at hor;simp [← hor,orI,hne]
  ·simp at he;simp only [zAX,zC];refine Ev.regO ?_;simp only [zE,c_mv,zCG,zO,zn,tgs,t8,zEO,zX,zB,Ov_nil,zC,seval];refine ⟨xs.length-(i+1),by omega,i+1,rfl,trivial,trivial,?_,by simp [t3],by simp [t6],by simp [t7],by simp; exact zFl (i+1) (by omega)⟩;rw [← hor,hdrop];simp [orI,he]
 ·simp only [decide_eq_false_iff_not,Int.ofNat_lt] at hge;simp only [zAc,zAv,↓reduceIte,zC];refine Ev.seq (Ev.regO ?_);simp only [zE,c_mv,zO,tgs,t3,zX,zB,Ov_nil,zC,seval];refine Ev.ret ?_;rw [List.drop_of_length_le (by omega)] at hor;simp [← hor,orI]
def encL (x:Int × Int):List Value:=[.int .i64 x.1,.int .i64 x.2]
def cmpL (x y:Int × Int):Int:=orI [cmpI x.1 y.1,cmpI x.2 y.2]
def zHJ (fc fo:Nat):CF:={ res:=[.tmp 4],body:=(.seq (.regO [aU 2 (.box (.t 0)),aU 3 (.box (.t 1)),mC 4 (.int .i64 0)]) (.seq (.regD [pU 5 (.ixA (.array 2 1) (.t 2) (.v (.int .i64 0))),lD 6 0 5,pU 7 (.ixA (.array 2 1) (.t 3) (.v (.int .i64 0))),lD 8 0 7,eU 9 (.call fc [(.t 6),(.t 8)]),⟨none,(some 10),1,.pur (.ixA (.array 2 1) (.t 2) (.v (.int .i64 1)))⟩,lD 11 1 10,⟨none,(some 12),1,.pur (.ixA (.array 2 1) (.t 3) (.v (.int .i64 1)))⟩,lD 13 1 12,eU 14 (.call fc [(.t 11),(.t 13)]),aU 15 (.bsl 2 [(.int .i64 0),(.int .i64 0)] [(0,1,(.t 9)),(1,1,(.t 14))]),eU 16 (.call fo [(.t 15)]),mV 4 16]) .ret)) }
theorem zFX {tm:Tm} {e:CRd} {q:IntKind} {n:Int} {h:Hp} {hs:List Hp} (he:cred P tm h e = .ok (.int q n)):zAD P tm e (.int q n) 1 (h::hs)=true:=by
 unfold zAD;rw [he];show (bif zAs (.int q n) (.ok (.int q n)) then true else false)=true;have:zAs (.int q n) (.ok (.int q n))=true:=by
  show zEY (.int q n) (.int q n)=true;show (keq q q&&ieq n n)=true;rw [zCQ,ieq_iff.2 rfl]; rfl
 rw [this]; rfl
theorem zOX {f fc fn fo:Nat} (hcf:zD P f=some (zHJ fc fo)) (ho:orc f=none) (hc:zD P fc=some (zOo 3 fn)) (hoc:orc fc=none) (hn:zD P fn=some (zLx 3)) (hon:orc fn=none) (hor:zD P fo=some cfOr) (hoo:orc fo=none) :
  zKj P orc f encL cmpL:=by
 intro x y h nx;obtain ⟨x1,x2⟩:=x;obtain ⟨y1,y2⟩:=y;refine Cv.enter ho hcf ?_;unfold zHJ aU eU lD mC mV pU;refine Ev.seq (Ev.regO ?_);simp [zE,zAw,Ov_nil,calq,encL,zI,zAd,zf,zA7,nbV,nbO];refine Ev.seq (Ev.regD ?_);have g1:∀ hp:Hp,hget (hset (hset hp nx (.cells [.int .i64 x1,.int .i64 x2] false)) (nx+1) (.cells [.int .i64 y1,.int .i64 y2] false)) nx=some (.cells [.int .i64 x1,.int .i64 x2] false):=fun hp=>by simp
 have g2:∀ hp:Hp,hget (hset hp (nx+1) (.cells [.int .i64 y1,.int .i64 y2] false)) (nx+1)=some (.cells [.int .i64 y1,.int .i64 y2] false):=fun hp=>by simp
 simp [zA1,zCW,Dv_nil,zA (g1 _),zA (g2 _),zAD];refine zCB ?_;simp;refine (zKV hc hoc hn hon x1 y1).mono ?_;rintro v h' nx' ⟨rfl,rfl,rfl⟩;refine ⟨Nat.le_refl _,?_⟩;simp [zA1,zCW,Dv_nil,zA (g1 _),zA (g2 _)];refine ⟨zFX (by simp [zA (g1 _)]),zFX (by simp [zA (g2 _)]),?_⟩;refine zCB ?_;simp;refine (zKV hc hoc hn hon x2 y2).mono ?_;rintro v h2 nx2 ⟨rfl,rfl,rfl⟩;refine ⟨Nat.le_refl _,?_⟩;simp [zA1,zKi,Dv_nil,calq,zAO,zA0,zI,lput,zGk,zDF,zDB,zDn,zED,llen,zGp,zAU,zf,zA7,nbV,nbO];refine zCB ?_;simp;refine (or_cv hor hoo (sp:=none) (ro:=false) [cmpI x1 y1,cmpI x2 y2] (by simp) (by simp)).mono ?_;rintro v h3 nx3 ⟨rfl,rfl,rfl⟩;refine ⟨Nat.le_refl _,?_⟩;simp [zA1,Dv_nil];refine Ev.ret ?_;simp [cmpL];refine ⟨by omega,fun b hb=>?_⟩;simp [show b≠nx by omega,show b≠nx+1 by omega,show b≠nx+2 by omega]
end
section
variable {P:Program} {α:Type}
def SlAt (h:Hp) (v:Value) (enc:α→List Value) (k:Nat) (l:List α) (lo hi:Nat):Prop :=
 (l=[]∧v = .slice none 0 0)∨∃ b,lo≤b∧b<hi∧v = .slice (some ⟨b,0,some k⟩) l.length l.length∧hget h b=some (.cells (flat enc l) false)
theorem zDf {enc:α→List Value}:∀ (l:List α) (x:α),flat enc (l++[x])=flat enc l++enc x
 | [],x=>by simp [flat]
 | y::l,x=>by simp [flat,zDf l x]
theorem hgd (h:Hp) (b k:Nat):hget (hdel h b) k=if k=b then none else hget h k:=zGw h b k
theorem zBf {h:Hp} {nx s:Nat} {l:List Value} {need:Nat} (hs:0<s):zFL h nx s l need = .ok (.val (.slice (some ⟨nx,0,some s⟩) need need) (hset h nx (.cells l false)) (nx+1)):=by
 unfold zFL;cases s with
 | zero=>omega
 | succ s=>rfl
theorem zCL {h:Hp} {b off:Nat} {sp:Option Nat} {n:Nat} {cs:List Value} {ro:Bool} {k:List Value→R OR} (hh:hget h b=some (.cells cs ro)) (hn:0<n) (hl:n≤cs.length-off):zDm h (some ⟨b,off,sp⟩) n k=k ((cs.drop off).take n):=by
 cases n with
 | zero=>omega
 | succ n =>
  show cellsOf h b (fun cs _=>R.of "read - out of block" (lcut (n+1) (zC3 cs off)) k)=_;rw [zA hh,zAe,zAz,if_pos (by rw [List.length_drop]; exact hl)];rfl
theorem zSi {enc:α→List Value} {k:Nat} (hk:∀ x,(enc x).length=k) (hcell:∀ x,zf (enc x)=true) (hk0:0<k) {h:Hp} {nx lo:Nat} {v:Value} {l:List α} (hv:SlAt h v enc k l lo nx) (hlo:lo≤nx)
  {b2 o2 cap2:Nat} {sp2:Option Nat} {cs:List Value} {ro:Bool} {x:α} (h2:hget h b2=some (.cells cs ro)) (hx:(cs.drop o2).take k=enc x) (hsz:(l.length+1)*k≤1000000) :
  ∃ v' h',zS k h nx v (.slice (some ⟨b2,o2,sp2⟩) 1 cap2) = .ok (.val v' h' (nx+1))∧SlAt h' v' enc k (l++[x]) lo (nx+1)∧(∀ b,b<lo→hget h' b=hget h b):=by
 have hlen:k≤cs.length-o2:=by
  have:=congrArg List.length hx;rw [List.length_take,List.length_drop,hk] at this;omega
 have h1:l.length+1≤1000000:=Nat.le_trans (by have:=Nat.le_mul_of_pos_right (l.length+1) hk0; omega) hsz;rcases hv with ⟨rfl,rfl⟩ | ⟨b,hb1,hb2,rfl,hb⟩
 ·refine ⟨.slice (some ⟨nx,0,some k⟩) 1 1,hset h nx (.cells (enc x) false),?_,.inr ⟨nx,hlo,by omega,rfl,by simp [flat]⟩,fun b hb=>by simp [show b≠nx by omega]⟩;unfold zS;simp only;rw [Nat.mul_eq,Nat.one_mul,zCL h2 hk0 hlen,hx];unfold zBL;have e1:Nat.ble (Nat.add 0 1) 0=false:=rfl;have e2:(Nat.ble (Nat.mul (Nat.add 0 1) k) 1000000&&Nat.ble (Nat.add 0 1) 1000000)=true:=by
   simp only [Bool.and_eq_true,Nat.ble_eq];simp at hsz;exact ⟨by show (0+1)*k≤1000000; omega,by show 0+1≤1000000; omega⟩
  rw [e1,e2];exact zBf hk0
 ·refine ⟨.slice (some ⟨nx,0,some k⟩) (l.length+1) (l.length+1),hset (hdel h b) nx (.cells (flat enc l++enc x) false),?_,.inr ⟨nx,hlo,by omega,by simp,by simp [zDf]⟩,fun c hc=>by
   rw [hgs,if_neg (by omega),hgd,if_neg (by omega)]⟩
  unfold zS;simp only;rw [Nat.mul_eq,Nat.one_mul,zCL h2 hk0 hlen,hx];unfold zBL;have e1:Nat.ble (Nat.add l.length 1) l.length=false:=by
   cases hbl:Nat.ble (Nat.add l.length 1) l.length with
   | false=>rfl
   | true=>have:=Nat.le_of_ble_eq_true hbl; have:l.length+1≤l.length:=this; omega
  have e2:(Nat.ble (Nat.mul (Nat.add l.length 1) k) 1000000&&Nat.ble (Nat.add l.length 1) 1000000)=true:=by
   simp only [Bool.and_eq_true,Nat.ble_eq];exact ⟨hsz,h1⟩
  rw [e1,e2];show zF1 h nx k (some ⟨b,0,some k⟩) l.length l.length (l.length+1) (enc x)=_;unfold zF1;simp only [zA hb];have hcut:lcut (Nat.mul l.length k) (zC3 (flat enc l) 0)=some (flat enc l):=by
   rw [zAe,List.drop_zero,zAz,if_pos (by rw [zAF hk]; exact Nat.le_refl _)];rw [List.take_of_length_le (by rw [zAF hk]; exact Nat.le_refl _)]
  rw [hcut];have e3:(!false&&Nat.beq 0 0&&Nat.beq (llen (flat enc l)) (Nat.mul l.length k)&&Nat.beq k k&&Nat.beq l.length l.length&&zf (enc x))=true:=by
   rw [zz,zAF hk,hcell];simp
  show (bif _ then _ else _)=_;rw [e3,zAB];exact zBf hk0
end
def zEm (tb:Nat):CF:={ res:=[.tmp 2],body:=(.seq (.regO [mC 2 (.int .i64 0)]) (.seq (.seq (.regO [mV 3 0,bC 4 .eql tb 3 (.pointer none)]) (.cond (.t 4) (.seq (.regO [mC 2 (.int .i64 0)]) .ret) .skip)) (.seq (.regO [mV 5 0,pU 6 (.nilc (.t 5)),pU 7 (.fldA 1 (.t 6)),lD 8 0 7,rU 9 0 (.lens (.t 8)),mV 2 9]) .ret))) }
def zIy (fb fs fc:Nat):CF:={ res:=[.tmp 2],body:=(.seq (.regO [mC 2 (.slice none 0 0)]) (.seq (.regO [mC 3 (.slice none 0 0)]) (.seq (.seq (.regO [mV 6 0,pU 7 (.nilc (.t 6)),pU 8 (.fldA 13 (.t 7)),lD 9 0 8,eU 10 (.rng (.t 9))]) (.block 0 (.loop (.seq (.regO [eU 11 (.nxt (.t 10)),pU 12 (.ext (.t 11) 0)]) (.seq (.cond (.t 12) .skip (.exit 0)) (.block 1 (.seq (.regO [rU 13 0 (.entry (.t 10)),pU 14 (.ext (.t 13) 0),pU 15 (.ext (.t 13) 1),aU 4 (.new [(.int .i64 0),(.int .i64 0)]),eN (.st 2 (.t 4) (.t 14)),mV 5 15]) (.seq (.regO [mV 16 5,eU 17 (.call fb [(.t 16)]),bC 18 .gtr 3 17 (.int .i64 0)]) (.cond (.t 18) (.regO [mV 19 3,rU 20 0 (.ld (some 2) (.t 4)),aU 21 (.bsl 1 [(.int .i64 0),(.int .i64 0)] [(0,2,(.t 20))]),eU 22 (.app 2 (.t 19) (.t 21)),mV 3 22]) .skip))))))))) (.seq (.regO [mV 23 3,eU 24 (.call fs [(.t 23),(.v (.func (.func fc) #[] #[]))])]) (.seq (.regO [mV 25 3,mV 2 25]) .ret))))) }
section
variable {P:Program} {orc:Orc} {s:Bool}
theorem zS9 {fb tb:Nat} (hcf:zD P fb=some (zEm tb)) (ho:orc fb=none) (ht:zBA P tb=true) {h:Hp} {nx b o n c:Nat} {sp:Option Nat} {a:Option Addr} {cs:List Value} {ro:Bool}
  (hh:hget h b=some (.cells cs ro)) (hv:cs[o+1]? = some (.slice a n c)):Cv P orc s fb [.pointer (some ⟨b,o,sp⟩)] h nx (fun v' h' nx'=>v' = .int .i64 (n:Int)∧h'=h∧nx'=nx):=by
 refine Cv.enter ho hcf ?_;unfold zEm bC lD mC mV pU rU;refine Ev.seq (Ev.regO ?_);simp [zE,Ov_nil];refine Ev.seq (Ev.seq (Ev.regO ?_));simp [zE,Ov_nil,zHN ht];refine Ev.cond false (by simp) (by simp) fun _=>Ev.skip ?_;simp;refine Ev.seq (Ev.regO ?_);simp [zE,zAI,Ov_nil,zA hh,hv];refine Ev.ret ?_;simp
def pick (key:MapEntry→Int × Int) (len:MapEntry→Nat) (l:List MapEntry):List (Int × Int):=(l.filter (fun e=>decide (0<len e))).map key
theorem zQa {key:MapEntry→Int × Int} {len:MapEntry→Nat} {l l':List MapEntry} (h:l.Perm l'):(pick key len l).Perm (pick key len l'):=(h.filter _).map _
def LinksJ (h:Hp) (es:List MapEntry) (r ck nx:Nat) (key:MapEntry→Int × Int) (len:MapEntry→Nat) (m:Nat) (tm:Tm) (h':Hp) (nx':Nat):Prop :=
 ∃ seen acc,m=(zAA seen es).length∧nx<nx'∧tget tm 10 = .pointer (some ⟨nx,0,none⟩)∧SlAt h' (tget tm 3) encL 2 acc (nx+1) nx'∧(acc++pick key len (zAA seen es)).Perm (pick key len es) ∧
  hget h' nx=some (.iter (some r) ck seen ck)∧∀ b o,hget h b=some o→hget h' b=some o
theorem links_cv {f fb tb fs fl fp fi fc:Nat} (hcf:zD P f=some (zIy fb fs fc)) (ho:orc f=none) (hcb:zD P fb=some (zEm tb)) (hob:orc fb=none) (htb:zBA P tb=true)
  (S:SortAt P orc fs fl fp fi 2 fc encL cmpL)
  {h:Hp} {nx b o r ck:Nat} {sp:Option Nat} {cs:List Value} {ro:Bool} {es:List MapEntry} (key:MapEntry→Int × Int) (len:MapEntry→Nat)
  (hh:hget h b=some (.cells cs ro)) (hv:cs[o+13]? = some (.map (some r))) (hm:hget h r=some (.map es ck)) (hr:zEr es) (hck:∀ e∈es,e.born<ck)
  (hse:∀ e∈es,e.key = .agg ⟨encL (key e)⟩∧∃ b' o' sp' cs' ro' a c,e.val = .pointer (some ⟨b',o',sp'⟩)∧hget h b'=some (.cells cs' ro')∧cs'[o'+1]? = some (.slice a (len e) c))
  (hlen:es.length≤12) (h1:pick key len es≠[]) (hfr:∀ b,nx≤b→hget h b=none) :
  Cv P orc false f [.pointer (some ⟨b,o,sp⟩)] h nx (fun v' h' _=>∃ bk l,v' = .slice (some ⟨bk,0,some 2⟩) l.length l.length∧nx≤bk∧hget h' bk=some (.cells (flat encL l) false)∧l.Perm (pick key len es)∧l.Pairwise (fun x y=>¬ cmpL y x<0) ∧
   ∀ b o,hget h b=some o→hget h' b=some o):=by
 have hrn:r<nx:=by
  rcases Nat.lt_or_ge r nx with h1 | h1
  ·exact h1
  ·rw [hfr r h1] at hm; cases hm
 have hbn:∀ b o,hget h b=some o→b<nx:=fun b o hb=>by
  rcases Nat.lt_or_ge b nx with h1 | h1
  ·exact h1
  ·rw [hfr b h1] at hb; cases hb
 refine Cv.enter ho hcf ?_;unfold zIy aU bC eN eU lD mC mV pU rU;refine Ev.seq (Ev.regO ?_);simp [zE,Ov_nil];refine Ev.seq (Ev.regO ?_);simp [zE,Ov_nil];refine Ev.seq (Ev.seq (Ev.regO ?_));have hrng:∀ tm,ceff P (tset tm 9 (.map (some r))) h nx (.rng (.t 9)) = .val (.pointer (some ⟨nx,0,none⟩)) (hset h nx (.iter (some r) ck [] ck)) (nx+1):=fun tm=>by
  show zB6 h nx (tget (tset tm 9 (.map (some r))) 9)=_;simp [zB6,hm,zEB]
 simp [zE,zAI,Ov_nil,zA hh,hv,zCm (hrng _)];refine Ev.block (Ev.loop (fun m tm h' nx'=>LinksJ h es r ck nx key len m tm h' nx') ?_ es.length _ _ _ ⟨[],[],by rw [zi],by omega,by simp,.inl ⟨rfl,by simp⟩,by rw [zi]; exact List.Perm.refl _,by simp,fun b' o' hb'=>?_⟩)
 ·rintro m tm h' nx' ⟨seen,acc,rfl,hnx,t10,hsl,hperm,hit,hold⟩;have hm':=hold r _ hm;refine Ev.seq (Ev.regO (zIK rfl (by simpa using t10) hit hm' (zDO hck) (fun hend=>?_) fun e he=>⟨hck e (zAN he).1,?_⟩))
  ·simp [zE,Ov_nil];refine Ev.seq (Ev.cond false (by simp) (by simp) fun _=>Ev.exit ?_);simp only [zAc,zAv,↓reduceIte,zC];rw [hend] at hperm;simp only [pick,List.filter_nil,List.map_nil,List.append_nil] at hperm;have hne:acc≠[]:=fun e=>by rw [e] at hperm; exact h1 (List.nil_perm.1 hperm)
   rcases hsl with ⟨e,_⟩ | ⟨bk,hb1,hb2,t3,hbk⟩
   ·exact absurd e hne
   have hal:acc.length≤12:=by
    rw [hperm.length_eq,List.length_map];exact Nat.le_trans (List.length_filter_le _ _) hlen
   refine Ev.seq (Ev.regO ?_);simp only [zE,c_mv,zO,tgs,t3,zX,zB,seval];refine ze ?_;simp only [zJ,zP,zO,zn,tgs,seval];refine (zPc (s:=false) S (l:=acc) rfl hal hb2 hbk).mono ?_;rintro v h2 nx2 ⟨hnx2,⟨l',hp',hs',hb'⟩,hf2⟩;simp only [Ov_nil,zC];refine Ev.seq (Ev.regO ?_);simp only [zE,Ov_nil,zB,c_mv,zO,tgs,t3,zX,zC,seval];refine Ev.ret ?_;simp only [zCq,zBn,zAt,bind_ok,zX,zE4,tgs,↓reduceIte];refine ⟨bk,l',by rw [hp'.length_eq],by omega,hb',hp'.trans hperm,(by simpa using hs'),fun b2 o2 hb2'=>?_⟩;have:=hbn _ _ hb2';rw [hf2 b2 (by omega) (by omega)];exact hold _ _ hb2'
  ·obtain ⟨hmem,hnot⟩:=zAN he;obtain ⟨hkey,b',o',sp',cs',ro',a',c',hval,hb',hs'⟩:=hse e hmem;have hb'n:=hbn _ _ hb';have hpe:=zAy hr he;have hplen:=hpe.length_eq;simp only [List.length_cons] at hplen;have hpp:=zQa (key:=key) (len:=len) hpe;simp [zE,Ov_nil];refine Ev.seq (Ev.cond true (by simp) (fun _=>Ev.skip ?_) (by simp));simp only [zC];refine Ev.block (Ev.seq (Ev.regO ?_));have hent:zCd (hset h' nx (.iter (some r) ck (seen++[e.born]) ck)) (.pointer (some ⟨nx,0,none⟩)) = .ok (.tuple #[e.key,e.val]) :=
    zDN (r:=r) (since:=ck) (ck:=ck) (seen:=seen) (by simp) (by simp [show r≠nx by omega]; exact hm') hr hmem
   have hcst:∀ hp:Hp,hget hp nx'=some (.cells [(.int .i64 0),(.int .i64 0)] false)→cSt hp 2 (encL (key e)) ⟨nx',0,none⟩ = .ok (hset hp nx' (.cells (encL (key e)) false)):=fun hp hhp=>by
    unfold cSt zAr;rw [zz];simp only [zA hhp,zAl];simp [encL,zf,zA7]
   simp [zAI,zE,zAw,zER,Ov_nil,t10,hent,calq,nbV,nbO,hkey,zI];rw [hcst _ (by simp)];simp only [zX];refine Ev.seq (Ev.regO ?_);simp [zE];refine ze ?_;simp [hval];refine (zS9 hcb hob htb (cs:=cs') (ro:=ro') (by simp [show b'≠nx by omega,show b'≠nx' by omega]; exact hold _ _ hb') hs').mono ?_;rintro v h2 nx2 ⟨rfl,rfl,rfl⟩;simp only [zE,zCG,zO,zn,tgs,zHP,zX,zB,Ov_nil,zC,seval];have hsl2:SlAt (hset (hset (hset h' nx (.iter (some r) ck (seen++[e.born]) ck)) nx' (.cells [(.int .i64 0),(.int .i64 0)] false)) nx' (.cells (encL (key e)) false)) (tget tm 3) encL 2 acc (nx+1) (nx'+1):=by
    rcases hsl with ⟨e1,e2⟩ | ⟨bk,g1,g2,g3,g4⟩
    ·exact .inl ⟨e1,e2⟩
    ·exact .inr ⟨bk,g1,by omega,g3,by simp [show bk≠nx' by omega,show bk≠nx by omega]; exact g4⟩
   have holdn:∀ b2 o2,hget h b2=some o2→hget (hset (hset (hset h' nx (.iter (some r) ck (seen++[e.born]) ck)) nx' (.cells [(.int .i64 0),(.int .i64 0)] false)) nx' (.cells (encL (key e)) false)) b2=some o2:=fun b2 o2 hb2=>by
    have:=hbn _ _ hb2;simp [show b2≠nx' by omega,show b2≠nx by omega]; exact hold _ _ hb2
   have hitn:hget (hset (hset (hset h' nx (.iter (some r) ck (seen++[e.born]) ck)) nx' (.cells [(.int .i64 0),(.int .i64 0)] false)) nx' (.cells (encL (key e)) false)) nx=some (.iter (some r) ck (seen++[e.born]) ck):=by
    simp [show nx≠nx' by omega]
   have hk4:hget (hset (hset (hset h' nx (.iter (some r) ck (seen++[e.born]) ck)) nx' (.cells [(.int .i64 0),(.int .i64 0)] false)) nx' (.cells (encL (key e)) false)) nx'=some (.cells (encL (key e)) false):=by simp
   generalize hset (hset (hset h' nx (.iter (some r) ck (seen++[e.born]) ck)) nx' (.cells [(.int .i64 0),(.int .i64 0)] false)) nx' (.cells (encL (key e)) false)=h3 at hsl2 holdn hitn hk4;refine Ev.cond (decide ((0:Int)<(len e:Int))) (by simp) (fun hlt=>?_) fun hge=>Ev.skip ?_
   ·have hlt:0<len e:=by simpa using hlt
    refine Ev.regO ?_;have hld:zA2 (some 2) 0 (encL (key e)) = .ok (.agg ⟨encL (key e)⟩):=by simp [encL]
    simp only [zE,zAI,c_mv,c_ld,zO,tgs,zX,zB,zR,zA hk4,hld,seval];have hbsl:∀ tm,calq P (tset tm 20 (.agg ⟨encL (key e)⟩)) (.bsl 1 [(.int .i64 0),(.int .i64 0)] [(0,2,(.t 20))]) = .ok (.slice (.cells (encL (key e)) false) 1 1):=fun tm=>by
     simp [calq,zAO,zA0,zI,encL,llen,zGp,lput,zGk,zDF,zDB,zED,zAU,zf,zA7]
    simp only [zAw,hbsl,zX,zB,nbV,nbO];have hacc:acc.length≤12:=by
     have:=hperm.length_eq;rw [List.length_append] at this;have h3:(pick key len es).length≤es.length:=by unfold pick; rw [List.length_map]; exact List.length_filter_le _ _
     omega
    have hsl3:SlAt (hset h3 (nx'+1) (.cells (encL (key e)) false)) (tget tm 3) encL 2 acc (nx+1) (nx'+1+1):=by
     rcases hsl2 with ⟨e1,e2⟩ | ⟨bk,g1,g2,g3,g4⟩
     ·exact .inl ⟨e1,e2⟩
     ·exact .inr ⟨bk,g1,by omega,g3,by simp [show bk≠nx'+1 by omega]; exact g4⟩
    obtain ⟨v',h4,hap,hsl4,hf4⟩:=zSi (enc:=encL) (k:=2) (fun _=>rfl) (fun _=>rfl) (by omega) hsl3 (by omega) (b2:=nx'+1) (o2:=0) (cap2:=1) (sp2:=none) (cs:=encL (key e)) (ro:=false) (x:=key e) (by simp) (by simp [encL]) (by omega);rw [zCm (v:=v') (h':=h4) (nx':=nx'+1+1+1) (by
     show orR (zS 2 _ _ (cev _ (.t 19)) (cev _ (.t 21)))=_;simp only [zO,tgs,seval];rw [hap]; rfl)]
    simp only [zE,c_mv,zO,tgs,zX,zB,Ov_nil,zAX,zC,seval];refine ⟨_,?_,seen++[e.born],acc++[key e],rfl,by omega,by simpa using t10,by simpa using hsl4,?_,by rw [hf4 _ (by omega)]; simp [show nx≠nx'+1 by omega]; exact hitn,fun b2 o2 hb2=>?_⟩
    ·omega
    ·refine List.Perm.trans ?_ hperm;rw [List.append_assoc];refine List.Perm.append_left acc ?_;refine List.Perm.symm (hpp.trans ?_);simp [pick,hlt]
    ·have:=hbn _ _ hb2;rw [hf4 _ (by omega)];simp [show b2≠nx'+1 by omega]; exact holdn _ _ hb2
   ·have hge:len e=0:=by simpa using hge
    simp only [zAX,zC];refine ⟨_,?_,seen++[e.born],acc,rfl,by omega,by simpa using t10,by simpa using hsl2,?_,hitn,holdn⟩
    ·omega
    ·refine List.Perm.trans ?_ hperm;refine List.Perm.append_left acc ?_;refine List.Perm.symm (hpp.trans ?_);simp [pick,hge]
 ·have:=hbn _ _ hb';simp [show b'≠nx by omega,hb']
end
theorem zLp {a b:Int}:cmpI a b<0↔a<b:=by
 unfold cmpI
 by_cases h:a<b
 ·simp [h]
 ·by_cases h2:b<a <;> simp [h,h2]
theorem cmpI_zero {a b:Int}:cmpI a b=0↔a=b:=by
 unfold cmpI
 by_cases h:a<b
 ·simp [h]; omega
 ·by_cases h2:b<a
  ·simp [h,h2]; omega
  ·simp [h,h2]; omega
theorem zHF {x y:Int × Int}:cmpL x y<0↔x.1<y.1∨(x.1=y.1∧x.2<y.2):=by
 unfold cmpL orI orI orI
 by_cases h:cmpI x.1 y.1=0
 ·rw [if_pos h];rw [cmpI_zero] at h
  by_cases h2:cmpI x.2 y.2=0
  ·rw [if_pos h2];rw [cmpI_zero] at h2;omega
  ·rw [if_neg h2,zLp]; omega
 ·rw [if_neg h,zLp];have:¬ x.1=y.1:=fun e=>h (cmpI_zero.2 e);omega
theorem cmpL_tr (x y z:Int × Int) (h1:¬ cmpL y x<0) (h2:¬ cmpL z y<0):¬ cmpL z x<0:=by
 rw [zHF] at *; omega
theorem cmpL_as (x y:Int × Int) (h:cmpL x y<0):¬ cmpL y x<0:=by
 rw [zHF] at *; omega
theorem zSI (x y:Int × Int) (h1:¬ cmpL y x<0) (h2:¬ cmpL x y<0):x=y:=by
 rw [zHF] at *
 obtain ⟨a,b⟩:=x;obtain ⟨c,d⟩:=y;simp only at h1 h2;have e1:a=c:=by omega
 have e2:b=d:=by omega
 rw [e1,e2]
section
variable {α:Type}
def insB (lt:α→α→Bool) (x:α):List α→List α
 | []=>[x]
 | y::l=>bif lt x y then x::y::l else y::insB lt x l
def zAq (lt:α→α→Bool):List α→List α
 | []=>[]
 | x::l=>insB lt x (zAq lt l)
def zH0 (lt:α→α→Bool) (x:α):List α→Bool
 | []=>true
 | y::l=>bif lt y x then false else zH0 lt x l
def zAp (lt:α→α→Bool):List α→Bool
 | []=>true
 | x::l=>bif zH0 lt x l then zAp lt l else false
theorem zJu {lt:α→α→Bool} {x:α}:∀ (l:List α),(insB lt x l).Perm (x::l)
 | []=>List.Perm.refl _
 | y::l=>by
  unfold insB;cases lt x y with
  | true=>exact List.Perm.refl _
  | false=>exact ((zJu l).cons y).trans (List.Perm.swap ..)
theorem zBO {lt:α→α→Bool}:∀ (l:List α),(zAq lt l).Perm l
 | []=>List.Perm.refl _
 | x::l=>(zJu _).trans ((zBO l).cons x)
theorem noneB_ok {lt:α→α→Bool} {x:α}:∀ {l:List α},zH0 lt x l=true→∀ y∈l,lt y x=false
 | [],_,y,h=>by cases h
 | z::l,h,y,hy=>by
  unfold zH0 at h;cases hz:lt z x with
  | true=>rw [hz] at h; cases h
  | false =>
   rw [hz] at h;rcases List.mem_cons.1 hy with rfl | hy
   ·exact hz
   ·exact noneB_ok h y hy
theorem zD2 {lt:α→α→Bool}:∀ {l:List α},zAp lt l=true→l.Pairwise (fun x y=>lt y x=false)
 | [],_=>List.Pairwise.nil
 | x::l,h=>by
  unfold zAp at h;cases hn:zH0 lt x l with
  | false=>rw [hn] at h; cases h
  | true =>
   rw [hn] at h;exact List.Pairwise.cons (noneB_ok hn) (zD2 h)
end
def ltL (x y:Int × Int):Bool:=iblt x.1 y.1||(ieq x.1 y.1&&iblt x.2 y.2)
theorem ltL_eq {x y:Int × Int}:ltL x y=false↔¬ cmpL x y<0:=by
 rw [zHF];unfold ltL;rw [zAK,zAK,zAJ];simp
def zFI (e:MapEntry):Int × Int:=match e.key with
 | .agg ⟨[.int .i64 a,.int .i64 b]⟩=>(a,b)
 | _=>(0,0)
def keyIs (e:MapEntry):Bool:=match e.key with
 | .agg ⟨[.int .i64 a,.int .i64 b]⟩=>true
 | _=>false
def lenOf (h:Hp) (e:MapEntry):Option Nat:=match e.val with
 | .pointer (some a)=>(match hget h a.block with
  | some (.cells cs _)=>(match lget cs (a.off+1) with
   | some (.slice _ n _)=>some n
   | _=>none)
  | _=>none)
 | _=>none
theorem lenOf_ok {h:Hp} {e:MapEntry} {k:Nat} (hs:lenOf h e=some k):∃ b' o' sp' cs' ro' a c,e.val = .pointer (some ⟨b',o',sp'⟩)∧hget h b'=some (.cells cs' ro')∧cs'[o'+1]? = some (.slice a k c):=by
 unfold lenOf at hs
 split at hs <;> first | (cases hs; done) | skip
 rename_i a ha
 split at hs <;> first | (cases hs; done) | skip
 rename_i cs ro hc
 split at hs <;> first | (cases hs; done) | skip
 rename_i a' n c hl
 cases hs;obtain ⟨b,o,sp⟩:=a;rw [zm] at hl;exact ⟨b,o,sp,cs,ro,a',c,ha,hc,hl⟩
def lenN (h:Hp) (e:MapEntry):Nat:=(lenOf h e).getD 0
def zGq (h:Hp):List MapEntry→Bool
 | []=>true
 | e::es=>keyIs e&&(lenOf h e).isSome&&zGq h es
theorem zHl {h:Hp}:∀ {es:List MapEntry},zGq h es=true→∀ e∈es,keyIs e=true∧(lenOf h e).isSome=true
 | [],_,e,h=>by cases h
 | x::es,hs,e,h=>by
  unfold zGq at hs;simp only [Bool.and_eq_true] at hs;rcases List.mem_cons.1 h with rfl | h
  ·exact hs.1
  ·exact zHl hs.2 e h
theorem keyOf_ok {e:MapEntry} (h:keyIs e=true):e.key = .agg ⟨encL (zFI e)⟩:=by
 unfold keyIs at h
 split at h
 ·rename_i a b hk
  unfold zFI;rw [hk]; rfl
 ·cases h
def zQc (h:Hp):List MapEntry→List (Int × Int)
 | []=>[]
 | e::es=>bif Nat.blt 0 (lenN h e) then zFI e::zQc h es else zQc h es
theorem zMs {h:Hp}:∀ (es:List MapEntry),zQc h es=pick zFI (lenN h) es
 | []=>rfl
 | e::es=>by
  unfold zQc;rw [zMs es,zA8];unfold pick
  by_cases hl:0<lenN h e <;> simp [hl]
def zNE (h:Hp) (nx:Nat) (l:List (Int × Int)):CR:=match l with
 | []=>.no "links"
 | l=>bif zAp ltL l then .ok (.slice (some ⟨nx,0,some 2⟩) l.length l.length) (hset h nx (.cells (flat encL l) false)) (nx+1) else .no "links"
def zNU (args:List Value) (h:Hp) (nx:Nat):CR:=match args with
 | [.pointer (some a)]=>(match hget h a.block with
  | some (.cells cs _)=>(match lget cs (a.off+13) with
   | some (.map (some r))=>(match hget h r with
    | some (.map es ck)=>bif zC1 ck es&&(zGq h es&&Nat.ble es.length 12) then zNE h nx (zAq ltL (zQc h es)) else .no "links"
    | _=>.no "links")
   | _=>.no "links")
  | _=>.no "links")
 | _=>.no "links"
theorem zD8 {α:Type} {enc:α→List Value} (he:∀ x,plainL (enc x)=true):∀ l:List α,plainL (flat enc l)=true
 | []=>rfl
 | x::l=>by
  have app:∀ a b:List Value,plainL a=true→plainL b=true→plainL (a++b)=true:=by
   intro a
   induction a with
   | nil=>intro b _ h; exact h
   | cons y a ih =>
    intro b h k;have h:(zCM y&&plainL a)=true:=h;simp only [Bool.and_eq_true] at h;show (zCM y&&plainL (a++b))=true;rw [h.1,ih b h.2 k]; rfl
  exact app _ _ (he x) (zD8 he l)
section
variable {P:Program}
theorem zF6 (n k:Nat) (ρ ρ':Rho) (nx b:Nat) (p:Place) (c:Value) (hp:ρ' b=some p) (hq:ρ nx=some p) (h:VR ρ' (.slice (some ⟨b,0,some k⟩) n n) c):VR ρ (.slice (some ⟨nx,0,some k⟩) n n) c:=by
 cases h with
 | sliceG h' hs _ _=>rw [hp] at h'; cases h'; exact .sliceG hq hs _ _
 | sliceZ _ _ g o' c'=>exact .sliceZ _ _ _ _ _
theorem zRa (hP:POk P) {f fb tb fs fl fp fi fc:Nat} (hcf:zD P f=some (zIy fb fs fc)) (hcb:zD P fb=some (zEm tb)) (htb:zBA P tb=true) (S:SortAt P orc0 fs fl fp fi 2 fc encL cmpL):zF2 P f zNU:=by
 intro args h nx K hs;unfold zNU at hs
 split at hs <;> first | exact hs.elim | skip
 rename_i a
 split at hs <;> first | exact hs.elim | skip
 rename_i cs ro hc
 split at hs <;> first | exact hs.elim | skip
 rename_i r hr
 split at hs <;> first | exact hs.elim | skip
 rename_i es ck hm
 cases hri:(zC1 ck es&&(zGq h es&&Nat.ble es.length 12)) with
 | false=>rw [hri] at hs; exact hs.elim
 | true =>
  rw [hri] at hs;simp only [cond_true] at hs;simp only [Bool.and_eq_true] at hri;obtain ⟨h1,h2⟩:=zD6 hri.1;have h3:=zHl hri.2.1;have h4:=Nat.le_of_ble_eq_true hri.2.2;obtain ⟨b,o,sp⟩:=a;rw [zm] at hr;rw [zMs] at hs;unfold zNE at hs
  split at hs
  ·exact hs.elim
  ·rename_i l hne
   cases hso:zAp ltL (zAq ltL (pick zFI (lenN h) es)) with
   | false=>rw [hso] at hs; exact hs.elim
   | true =>
    rw [hso] at hs;have hs:K (.slice (some ⟨nx,0,some 2⟩) (zAq ltL (pick zFI (lenN h) es)).length (zAq ltL (pick zFI (lenN h) es)).length) (hset h nx (.cells (flat encL (zAq ltL (pick zFI (lenN h) es))) false)) (nx+1):=hs;have hperm:=zBO (lt:=ltL) (pick zFI (lenN h) es);have hsrt:(zAq ltL (pick zFI (lenN h) es)).Pairwise (fun x y=>¬ cmpL y x<0):=(zD2 hso).imp fun h=>ltL_eq.1 h;have hpne:pick zFI (lenN h) es≠[]:=fun e=>by
     exact hne (by rw [e]; rfl)
    generalize zAq ltL (pick zFI (lenN h) es)=L at *
    refine zGb hP zDx (val:=fun b=>.slice (some ⟨b,0,some 2⟩) L.length L.length) (cs:=flat encL L) (zD8 (fun _=>rfl) L) (zBC hP hcf) (fun ρ ρ' b p c hp hq hv=>zF6 _ _ ρ ρ' nx b p c hp hq hv) (fun hfr=>?_) hs;refine (links_cv hcf rfl hcb rfl htb S zFI (lenN h) hc hr hm h1 h2 (fun e he=>⟨keyOf_ok (h3 e he).1,?_⟩) h4 hpne hfr).mono ?_
    ·obtain ⟨k,hk⟩:=Option.isSome_iff_exists.1 (h3 e he).2;simp only [lenN,hk,Option.getD_some];exact lenOf_ok hk
    ·rintro v h' nx' ⟨bk,l',rfl,hbk,hcs,hp',hs',hold⟩;have:l'=L:=zEW (R:=fun x y=>¬ cmpL y x<0) (fun x y=>zSI x y) (hp'.trans hperm.symm) hs' hsrt;subst this;exact ⟨bk,rfl,hbk,hcs,hold⟩
end
abbrev Edg:=Int × Int × Int
def encE (x:Edg):List Value:=[.int .i64 x.1,.int .i64 x.2.1,.int .i64 x.2.2]
def zGS (n:Int):Bool:=match n with
 | .ofNat m=>Nat.blt m 1000000
 | .negSucc _=>false
def zIt:List Value→Option (List Edg)
 | []=>some []
 | .int .i64 a::.int .i64 b::.int .i64 c::l=>(match zIt l with
  | some r=>bif zGS a&&(zGS b&&zGS c) then some ((a,b,c)::r) else none
  | none=>none)
 | _=>none
def zAn (e:Edg):List Edg→List Edg
 | []=>[e]
 | x::l=>bif ieq x.1 e.1&&ieq x.2.1 e.2.1 then (x.1,x.2.1,bif iblt e.2.2 x.2.2 then e.2.2 else x.2.2)::l else x::zAn e l
def zq (acc:List Edg):List Edg→List Edg
 | []=>acc
 | e::l=>zq (zAn e acc) l
def ltE (x y:Edg):Bool:=iblt x.1 y.1||(ieq x.1 y.1&&(iblt x.2.1 y.2.1||(ieq x.2.1 y.2.1&&iblt x.2.2 y.2.2)))
def zSD (h:Hp) (nx:Nat) (l:List Edg):CR:=match l with
 | []=>.no "Combine"
 | l=>bif zAp ltE l then .ok (.tuple ⟨[.slice (some ⟨nx,0,some 3⟩) l.length l.length,.int .i64 0]⟩) (hset h nx (.cells (flat encE l) false)) (nx+1) else .no "Combine"
def zGA (args:List Value) (h:Hp) (nx:Nat):CR:=match args with
 | [.int .i64 (.ofNat 1),.slice (some a) n _]=>(match hget h a.block with
  | some (.cells cs _)=>(match lcut (n*3) (zC3 cs a.off) with
   | some l=>(match zIt l with
    | some es=>bif Nat.ble es.length 12 then zSD h nx (zAq ltE (zq [] es)) else .no "Combine"
    | none=>.no "Combine")
   | none=>.no "Combine")
  | _=>.no "Combine")
 | _=>.no "Combine"
def zOm (f1 f2 fo:Nat):CF:={ res:=[.tmp 4],body:=(.seq (.regO [aU 2 (.box (.t 0)),aU 3 (.box (.t 1)),mC 4 (.int .i64 0)]) (.seq (.regD [pU 5 (.fldA 0 (.t 2)),lD 6 0 5,pU 7 (.fldA 0 (.t 3)),lD 8 0 7,eU 9 (.call f1 [(.t 6),(.t 8)]),⟨none,(some 10),1,.pur (.fldA 1 (.t 2))⟩,lD 11 1 10,⟨none,(some 12),1,.pur (.fldA 1 (.t 3))⟩,lD 13 1 12,eU 14 (.call f2 [(.t 11),(.t 13)]),aU 15 (.bsl 2 [(.int .i64 0),(.int .i64 0)] [(0,1,(.t 9)),(1,1,(.t 14))]),eU 16 (.call fo [(.t 15)]),mV 4 16]) .ret)) }
def zLw (fe fc fo:Nat):CF:={ res:=[.tmp 4],body:=(.seq (.regO [aU 2 (.box (.t 0)),aU 3 (.box (.t 1)),mC 4 (.int .i64 0)]) (.seq (.regD [rU 5 0 (.ld (some 3) (.t 2)),rU 6 0 (.ld (some 3) (.t 3)),eU 7 (.call fe [(.t 5),(.t 6)]),⟨none,(some 8),1,.pur (.fldA 2 (.t 2))⟩,lD 9 1 8,⟨none,(some 10),1,.pur (.fldA 2 (.t 3))⟩,lD 11 1 10,eU 12 (.call fc [(.t 9),(.t 11)]),aU 13 (.bsl 2 [(.int .i64 0),(.int .i64 0)] [(0,1,(.t 7)),(1,1,(.t 12))]),eU 14 (.call fo [(.t 13)]),mV 4 14]) .ret)) }
section
variable {P:Program} {orc:Orc}
def zEs (P:Program) (orc:Orc) (q:IntKind) (f:FuncId):Prop:=∀ (s:Bool) (a b:Int) (h:Hp) (nx:Nat),Cv P orc s f [.int q a,.int q b] h nx (fun v h' nx'=>v = .int .i64 (cmpI a b)∧h'=h∧nx'=nx)
theorem two_cv {s:Bool} {f f1 f2 fo:Nat} (hcf:zD P f=some (zOm f1 f2 fo)) (ho:orc f=none) {q1 q2:IntKind} (h1:zEs P orc q1 f1) (h2:zEs P orc q2 f2) (hor:zD P fo=some cfOr) (hoo:orc fo=none)
  {l m:List Value} {a b c d:Int} (hl:zf l=true) (hm:zf m=true) (l0:l[0]? = some (.int q1 a)) (m0:m[0]? = some (.int q1 b)) (l1:l[1]? = some (.int q2 c)) (m1:m[1]? = some (.int q2 d)) {h:Hp} {nx:Nat} :
  Cv P orc s f [.agg ⟨l⟩,.agg ⟨m⟩] h nx (fun v h' nx'=>v = .int .i64 (orI [cmpI a b,cmpI c d])∧nx≤nx'∧∀ b,b<nx→hget h' b=hget h b):=by
 refine Cv.enter ho hcf ?_;unfold zOm aU eU lD mC mV pU;refine Ev.seq (Ev.regO ?_);simp [zE,zAw,Ov_nil,calq,zI,zAd,hl,hm,nbV,nbO];refine Ev.seq (Ev.regD ?_);have g1:∀ hp:Hp,hget (hset (hset hp nx (.cells l false)) (nx+1) (.cells m false)) nx=some (.cells l false):=fun hp=>by simp
 have g2:∀ hp:Hp,hget (hset hp (nx+1) (.cells m false)) (nx+1)=some (.cells m false):=fun hp=>by simp
 simp [zA1,zCW,Dv_nil,zA (g1 _),zA (g2 _),zAD,l0,m0];refine zCB ?_;simp;refine (h1 true a b _ _).mono ?_;rintro v h' nx' ⟨rfl,rfl,rfl⟩;refine ⟨Nat.le_refl _,?_⟩;simp [zA1,zCW,Dv_nil,zA (g1 _),zA (g2 _),l1,m1];refine ⟨zFX (by simp [zA (g1 _),l1]),zFX (by simp [zA (g2 _),m1]),?_⟩;refine zCB ?_;simp;refine (h2 true c d _ _).mono ?_;rintro v h2 nx2 ⟨rfl,rfl,rfl⟩;refine ⟨Nat.le_refl _,?_⟩;simp [zA1,zKi,Dv_nil,calq,zAO,zA0,zI,lput,zGk,zDF,zDB,zDn,zED,llen,zGp,zAU,zf,zA7,nbV,nbO];refine zCB ?_;simp;refine (or_cv hor hoo (sp:=none) (ro:=false) [cmpI a b,cmpI c d] (by simp) (by simp)).mono ?_;rintro v h3 nx3 ⟨rfl,rfl,rfl⟩;refine ⟨Nat.le_refl _,?_⟩;simp [zA1,Dv_nil];refine Ev.ret ?_;simp;refine ⟨by omega,fun b hb=>?_⟩;simp [show b≠nx by omega,show b≠nx+1 by omega,show b≠nx+2 by omega]
def cmpE (x y:Edg):Int:=orI [orI [cmpI x.1 y.1,cmpI x.2.1 y.2.1],cmpI x.2.2 y.2.2]
theorem order_ok {f fe fc1 fc2 fo:Nat} (hcf:zD P f=some (zLw fe fc2 fo)) (ho:orc f=none) (hce:zD P fe=some (zOm fc1 fc1 fo)) (hoe:orc fe=none) (h1:zEs P orc .i64 fc1) (h2:zEs P orc .i64 fc2)
  (hor:zD P fo=some cfOr) (hoo:orc fo=none):zKj P orc f encE cmpE:=by
 intro x y h nx;refine Cv.enter ho hcf ?_;unfold zLw aU eU lD mC mV rU;have hx:zf (encE x)=true:=rfl;have hy:zf (encE y)=true:=rfl;refine Ev.seq (Ev.regO ?_);simp [zE,zAw,Ov_nil,calq,zI,zAd,hx,hy,nbV,nbO];refine Ev.seq (Ev.regD ?_);have g1:∀ hp:Hp,hget (hset (hset hp nx (.cells (encE x) false)) (nx+1) (.cells (encE y) false)) nx=some (.cells (encE x) false):=fun hp=>by simp
 have g2:∀ hp:Hp,hget (hset hp (nx+1) (.cells (encE y) false)) (nx+1)=some (.cells (encE y) false):=fun hp=>by simp
 have ld:∀ z:Edg,zA2 (some 3) 0 (encE z) = .ok (.agg ⟨encE z⟩):=fun z=>by simp [encE]
 simp only [zCW,c_ld,zO,tgs,zR,zA (g1 _),zA (g2 _),ld,zX,zAD,true_and,zB,seval];refine zCB ?_;simp only [zJ,zP,zO,tgs,seval];refine (two_cv (s:=true) hce hoe h1 h1 hor hoo (l:=encE x) (m:=encE y) (a:=x.1) (b:=y.1) (c:=x.2.1) (d:=y.2.1) rfl rfl rfl rfl rfl rfl).mono ?_;rintro v h' nx' ⟨rfl,hnx',hfr⟩;refine ⟨hnx',?_⟩;have k1:hget h' nx=some (.cells (encE x) false):=by rw [hfr _ (by omega)]; exact g1 h
 have k2:hget h' (nx+1)=some (.cells (encE y) false):=by rw [hfr _ (by omega)]; exact g2 _
 have w:∀ z:Edg,(encE z)[2]? = some (.int .i64 z.2.2):=fun z=>rfl;simp [zA1,zCW,Dv_nil,zA k1,zA k2,w];refine ⟨zFX (by simp [zA (g1 _),w]),zFX (by simp [zA (g2 _),w]),?_⟩;refine zCB ?_;simp;refine (h2 true x.2.2 y.2.2 _ _).mono ?_;rintro v h2 nx2 ⟨rfl,rfl,rfl⟩;refine ⟨Nat.le_refl _,?_⟩;simp [zA1,zKi,Dv_nil,calq,zAO,zA0,zI,lput,zGk,zDF,zDB,zDn,zED,llen,zGp,zAU,zf,zA7,nbV,nbO];refine zCB ?_;simp;refine (or_cv hor hoo (sp:=none) (ro:=false) [orI [cmpI x.1 y.1,cmpI x.2.1 y.2.1],cmpI x.2.2 y.2.2] (by simp) (by simp)).mono ?_;rintro v h3 nx3 ⟨rfl,rfl,rfl⟩;refine ⟨by omega,?_⟩;simp [zA1,Dv_nil];refine Ev.ret ?_;simp [cmpE];refine ⟨by omega,fun b hb=>?_⟩;rw [if_neg (by omega),hfr b (by omega)];simp [show b≠nx by omega,show b≠nx+1 by omega]
theorem zHG {x y:Edg}:cmpE x y<0↔x.1<y.1∨(x.1=y.1∧(x.2.1<y.2.1∨(x.2.1=y.2.1∧x.2.2<y.2.2))):=by
 have h0:cmpL (x.1,x.2.1) (y.1,y.2.1)=orI [cmpI x.1 y.1,cmpI x.2.1 y.2.1]:=rfl;have hz:orI [cmpI x.1 y.1,cmpI x.2.1 y.2.1]=0↔x.1=y.1∧x.2.1=y.2.1:=by
  unfold orI orI orI
  by_cases h:cmpI x.1 y.1=0
  ·rw [if_pos h];rw [cmpI_zero] at h
   by_cases h2:cmpI x.2.1 y.2.1=0
   ·rw [if_pos h2]; rw [cmpI_zero] at h2; simp [h,h2]
   ·rw [if_neg h2,cmpI_zero]; simp [h]
  ·rw [if_neg h,cmpI_zero];have:¬ x.1=y.1:=fun e=>h (cmpI_zero.2 e);simp [this]
 have hlt:=@zHF (x.1,x.2.1) (y.1,y.2.1);rw [h0] at hlt;simp only at hlt;show orI (orI [cmpI x.1 y.1,cmpI x.2.1 y.2.1]::[cmpI x.2.2 y.2.2])<0↔_;generalize orI [cmpI x.1 y.1,cmpI x.2.1 y.2.1]=z at *
 unfold orI orI orI
 by_cases h:z=0
 ·rw [if_pos h];have hh:=hz.1 h
  by_cases h2:cmpI x.2.2 y.2.2=0
  ·rw [if_pos h2];rw [cmpI_zero] at h2;omega
  ·rw [if_neg h2,zLp]; omega
 ·rw [if_neg h,hlt];have:¬ (x.1=y.1∧x.2.1=y.2.1):=fun e=>h (hz.2 e);omega
theorem zLq (x y z:Edg) (h1:¬ cmpE y x<0) (h2:¬ cmpE z y<0):¬ cmpE z x<0:=by
 rw [zHG] at *; omega
theorem zLr (x y:Edg) (h:cmpE x y<0):¬ cmpE y x<0:=by
 rw [zHG] at *; omega
theorem zKW (x y:Edg) (h1:¬ cmpE y x<0) (h2:¬ cmpE x y<0):x=y:=by
 rw [zHG] at *
 obtain ⟨a,b,c⟩:=x;obtain ⟨d,e,f⟩:=y;simp only at h1 h2;have e1:a=d:=by omega
 have e2:b=e:=by omega
 have e3:c=f:=by omega
 rw [e1,e2,e3]
theorem ltE_eq {x y:Edg}:ltE x y=false↔¬ cmpE x y<0:=by
 rw [zHG];unfold ltE;rw [zAK,zAK,zAK,zAJ,zAJ];simp
end
def zF (n:Nat):List Value:=[.int .i64 0,.int .u64 (n:Int)]
def cfOf (tw:Nat):CF:={ res:=[.cell 2 tw],body:=(.seq (.regO [aU 2 (.new [(.int .i64 0),(.int .u64 0)])]) (.seq (.regO [mV 3 0,bC 4 .shr 2 3 (.int .u64 63),mV 5 0,pU 6 (.conv (.int .u64) (.t 5)),pU 7 (.build [(.int .i64 0),(.int .u64 0)] [(0,1,(.t 4)),(1,1,(.t 6))]),eN (.st 2 (.t 2) (.t 7))]) .ret)) }
def zCx (fw tw:Nat):CF:={ res:=[.cell 4 tw],body:=(.seq (.regO [aU 2 (.box (.t 0)),aU 3 (.box (.t 1)),aU 4 (.new [(.int .i64 0),(.int .u64 0)])]) (.seq (.seq (.regO [rU 5 0 (.ld (some 2) (.t 2)),rU 6 0 (.ld (some 2) (.t 3)),eU 7 (.call fw [(.t 5),(.t 6)]),bC 8 .leq 3 7 (.int .i64 0)]) (.cond (.t 8) (.seq (.regO [rU 9 0 (.ld (some 2) (.t 2)),eN (.st 2 (.t 4) (.t 9))]) .ret) .skip)) (.seq (.regO [rU 10 0 (.ld (some 2) (.t 3)),eN (.st 2 (.t 4) (.t 10))]) .ret))) }
section
variable {P:Program} {orc:Orc} {s:Bool}
def zDY (P:Program) (tw:Nat):Prop:=zH3 P tw=some (some 2)
@[simp] theorem zEv (tm:Tm) (h:Hp) (a t:Nat) (rs:List ResultVar):zBQ P tm h (.cell a t::rs)=R.bind (zBD (tget tm a) (fun a=>zGo P h t a)) (fun v=>R.bind (zBQ P tm h rs) (fun vs=>.ok (v::vs))):=rfl
theorem zDc {tw:Nat} (hw:zDY P tw) {h:Hp} {b:Nat} {n:Nat} (hh:hget h b=some (.cells (zF n) false)):zGo P h tw ⟨b,0,none⟩ = .ok (.agg ⟨zF n⟩):=by
 unfold zGo;rw [hw];simp only [zBR,zA hh];simp [zF]
theorem zDG {h:Hp} {b n m:Nat} (hh:hget h b=some (.cells (zF m) false)):cSt h 2 (zI (.agg ⟨zF n⟩)) ⟨b,0,none⟩ = .ok (hset h b (.cells (zF n) false)):=by
 unfold cSt zAr;simp only [zA hh,zAl,zz];simp [zF,zI,zf,zA7]
theorem zPD (m:Nat) (h:m<4294967296):IntKind.wrap .i64 (m:Int)=(m:Int):=zB8 (by omega) (by omega)
theorem wrapUN (n:Nat) (h:n<4294967296):IntKind.wrap .u64 (n:Int)=(n:Int):=by
 rw [← zAT];show zEf .u64 n=_;unfold zEf limU;rw [zA8];simp [show n<18446744073709551616 by omega]
theorem shr63 (t n:Nat) (h:n<4294967296):bin P .shr t (.int .i64 (n:Int)) (.int .u64 63) = .ok (.int .i64 0):=by
 show zCi .shr .i64 (n:Int) 63=_;unfold zCi;show (bif iblt 63 0 then _ else _)=_;rw [show iblt 63 0=false from rfl];show rInt .i64 ((n:Int).fdiv (2 ^ (min (63:Int).toNat IntKind.i64.bits)))=_;have:(2:Int) ^ (min (63:Int).toNat IntKind.i64.bits)=9223372036854775808:=by decide
 rw [this];have:(n:Int).fdiv 9223372036854775808=0:=by
  rw [Int.fdiv_eq_ediv_of_nonneg _ (by omega)];omega
 rw [this]; rfl
theorem of_cv {f tw:Nat} (hcf:zD P f=some (cfOf tw)) (ho:orc f=none) (hw:zDY P tw) {n:Nat} (hn:n<4294967296) {h:Hp} {nx:Nat} :
  Cv P orc s f [.int .i64 (n:Int)] h nx (fun v h' nx'=>v = .agg ⟨zF n⟩∧nx≤nx'∧∀ b,b<nx→hget h' b=hget h b):=by
 refine Cv.enter ho hcf ?_;unfold cfOf aU bC eN mV pU;refine Ev.seq (Ev.regO ?_);simp [zAw,Ov_nil,calq,nbV,nbO];refine Ev.seq (Ev.regO ?_);have hb:∀ tm,cpur P (tset (tset tm 4 (.int .i64 0)) 6 (.int .u64 (n:Int))) (.build [(.int .i64 0),(.int .u64 0)] [(0,1,(.t 4)),(1,1,(.t 6))]) = .ok (.agg ⟨zF n⟩):=fun tm=>by
  simp [cpur,zAO,zA0,zI,lput,zGk,zDF,zDB,zDn,zED,llen,zGp,zF]
 have hb2:∀ tm x,cpur P (tset (tset (tset tm 4 (.int .i64 0)) 5 x) 6 (.int .u64 (n:Int))) (.build [(.int .i64 0),(.int .u64 0)] [(0,1,(.t 4)),(1,1,(.t 6))]) = .ok (.agg ⟨zF n⟩):=fun tm x=>by
  simp [cpur,zAO,zA0,zI,lput,zGk,zDF,zDB,zDn,zED,llen,zGp,zF]
 simp [zE,Ov_nil,shr63 _ _ hn,wrapUN n hn,hb2];rw [zER];simp only [zO,tgs,zR,seval];rw [zDG (m:=0) (by simp [zF])];simp [Ov_nil];refine Ev.ret ?_;simp;rw [zDc hw (n:=n) (by simp)];simp;exact fun b hb=>by simp [show b≠nx by omega]
def zEQ (P:Program) (orc:Orc) (f:FuncId):Prop:=∀ (s:Bool) (m n:Nat) (h:Hp) (nx:Nat),Cv P orc s f [.agg ⟨zF m⟩,.agg ⟨zF n⟩] h nx (fun v h' nx'=>v = .int .i64 (cmpI m n)∧nx≤nx'∧∀ b,b<nx→hget h' b=hget h b)
theorem zNw {f f1 f2 fo:Nat} (hcf:zD P f=some (zOm f1 f2 fo)) (ho:orc f=none) (h1:zEs P orc .i64 f1) (h2:zEs P orc .u64 f2) (hor:zD P fo=some cfOr) (hoo:orc fo=none):zEQ P orc f:=by
 intro s m n h nx;refine (two_cv hcf ho h1 h2 hor hoo (l:=zF m) (m:=zF n) (a:=0) (b:=0) (c:=m) (d:=n) rfl rfl rfl rfl rfl rfl).mono ?_;rintro v h' nx' ⟨rfl,hr⟩;refine ⟨?_,hr⟩;have:cmpI 0 0=0:=rfl;simp only [orI,this,↓reduceIte]
 by_cases hz:cmpI (m:Int) (n:Int)=0 <;> simp [hz]
theorem zRI {f fw tw:Nat} (hcf:zD P f=some (zCx fw tw)) (ho:orc f=none) (hw:zDY P tw) (hc:zEQ P orc fw) {m n:Nat} {h:Hp} {nx:Nat} :
  Cv P orc s f [.agg ⟨zF m⟩,.agg ⟨zF n⟩] h nx (fun v h' nx'=>v = .agg ⟨zF (if n<m then n else m)⟩∧nx≤nx'∧∀ b,b<nx→hget h' b=hget h b):=by
 refine Cv.enter ho hcf ?_;unfold zCx aU bC eN eU rU;have hm:zf (zF m)=true:=rfl;have hn:zf (zF n)=true:=rfl;have ld:∀ z:Nat,zA2 (some 2) 0 (zF z) = .ok (.agg ⟨zF z⟩):=fun z=>by simp [zF]
 refine Ev.seq (Ev.regO ?_);simp [zE,zAw,Ov_nil,calq,zI,zAd,hm,hn,nbV,nbO];have g1:hget (hset (hset (hset h nx (.cells (zF m) false)) (nx+1) (.cells (zF n) false)) (nx+1+1) (.cells [(.int .i64 0),(.int .u64 0)] false)) nx=some (.cells (zF m) false):=by simp [show ¬ nx=nx+1+1 by omega]
 have g2:hget (hset (hset (hset h nx (.cells (zF m) false)) (nx+1) (.cells (zF n) false)) (nx+1+1) (.cells [(.int .i64 0),(.int .u64 0)] false)) (nx+1)=some (.cells (zF n) false):=by simp
 have g3:hget (hset (hset (hset h nx (.cells (zF m) false)) (nx+1) (.cells (zF n) false)) (nx+1+1) (.cells [(.int .i64 0),(.int .u64 0)] false)) (nx+1+1)=some (.cells (zF 0) false):=by simp [zF]
 have g4:∀ b,b<nx→hget (hset (hset (hset h nx (.cells (zF m) false)) (nx+1) (.cells (zF n) false)) (nx+1+1) (.cells [(.int .i64 0),(.int .u64 0)] false)) b=hget h b:=fun b hb=>by simp [show b≠nx by omega,show b≠nx+1 by omega,show b≠nx+1+1 by omega]
 generalize hset (hset (hset h nx (.cells (zF m) false)) (nx+1) (.cells (zF n) false)) (nx+1+1) (.cells [(.int .i64 0),(.int .u64 0)] false)=h1 at *
 refine Ev.seq (Ev.seq (Ev.regO ?_));simp only [zAI,c_ld,zO,tgs,zR,zA g1,zA g2,ld,zX,zB,seval];refine ze ?_;simp only [zJ,zP,zO,tgs,seval];refine (hc s m n _ _).mono ?_;rintro v h' nx' ⟨rfl,hnx',hfr⟩;have k1:hget h' nx=some (.cells (zF m) false):=by rw [hfr _ (by omega)]; exact g1
 have k2:hget h' (nx+1)=some (.cells (zF n) false):=by rw [hfr _ (by omega)]; exact g2
 have k3:hget h' (nx+1+1)=some (.cells (zF 0) false):=by rw [hfr _ (by omega)]; exact g3
 have k4:∀ b,b<nx→hget h' b=hget h b:=fun b hb=>by rw [hfr b (by omega)]; exact g4 b hb
 simp only [zE,zCG,zO,zn,tgs,zHO,zX,zB,Ov_nil,zC,seval];have hcmp:(!decide ((0:Int)<cmpI (m:Int) (n:Int)))=decide (m≤n):=by
  unfold cmpI
  by_cases h1:(m:Int)<n
  ·simp [h1]; omega
  ·by_cases h2:(n:Int)<m
   ·simp [h1,h2]; omega
   ·simp [h1,h2]; omega
 rw [hcmp];refine Ev.cond (decide (m≤n)) (by simp) (fun hle=>?_) fun hgt=>Ev.skip ?_
 ·simp only [decide_eq_true_eq] at hle;refine Ev.seq (Ev.regO ?_);simp only [zAI,c_ld,zO,tgs,zR,zA k1,ld,zX,zB,zER,zDG k3,zH,Ov_nil,zC,seval];refine Ev.ret ?_;show RK (zBQ P _ _ [.cell 4 tw]) _;simp only [zEv,zAt,tgs,zR,zDc hw (n:=m) (b:=nx+1+1) (h:=hset h' (nx+1+1) (.cells (zF m) false)) (by simp),bind_ok,zX,zE4,seval];refine ⟨by rw [if_neg (by omega)],by omega,fun b hb=>?_⟩;simp [show b≠nx+1+1 by omega,k4 b hb]
 ·simp only [decide_eq_false_iff_not] at hgt
  try simp only [zC]
  refine Ev.seq (Ev.regO ?_);simp only [zAI,c_ld,zO,tgs,zR,zA k2,ld,zX,zB,zER,zDG k3,zH,Ov_nil,zC,seval];refine Ev.ret ?_;show RK (zBQ P _ _ [.cell 4 tw]) _;simp only [zEv,zAt,tgs,zR,zDc hw (n:=n) (b:=nx+1+1) (h:=hset h' (nx+1+1) (.cells (zF n) false)) (by simp),bind_ok,zX,zE4,seval];refine ⟨by rw [if_pos (by omega)],by omega,fun b hb=>?_⟩;simp [show b≠nx+1+1 by omega,k4 b hb]
end
def cfIs (tr:Nat):CF:={ res:=[.tmp 2],body:=(.seq (.regO [mC 2 (.bool false)]) (.seq (.regO [mV 3 0,bC 4 .gtr tr 3 (.int .i64 0),mV 5 4,⟨(some (5,true)),(some 6),0,.pur (.mv (.t 0))⟩,⟨(some (5,true)),(some 7),0,.pur (.bin .lss 3 (.t 6) (.v (.int .i64 6)))⟩,pU 8 (.pick (.t 5) (.t 7) (.v (.bool false))),mV 2 8]) .ret)) }
def zOp (fl tr tw:Nat) (R1 R2 R3:CC):CF:={ res:=[.cell 6 tw],body:=(.seq (.regO [aU 4 (.box (.t 1)),aU 5 (.box (.t 2)),aU 6 (.new [(.int .i64 0),(.int .u64 0)])]) (.seq (.seq (.regO [mV 7 0]) (.block 0 (.seq (.seq (.regO [bC 9 .eql tr 7 (.int .i64 1),mV 8 9]) (.cond (.t 8) .skip R1)) (.cond (.t 8) (.seq (.regO [rU 12 0 (.ld (some 2) (.t 4)),rU 13 0 (.ld (some 2) (.t 5)),eU 14 (.call fl [(.t 12),(.t 13)]),eN (.st 2 (.t 6) (.t 14))]) .ret) R2)))) R3)) }
def zDi (fn:Nat):CF:={ res:=[.tmp 4,.tmp 5],body:=(.seq (.regO [aU 3 (.box (.t 1)),mC 4 (.int .i64 0),mC 5 (.bool false)]) (.seq (.regO [rU 6 0 (.ld (some 2) (.t 3)),eU 7 (.call fn [(.t 6)]),pU 8 (.ext (.t 7) 0),pU 9 (.ext (.t 7) 1),mV 4 8,mV 5 9]) .ret)) }
def zBz (fo tw:Nat):CF:={ res:=[.tmp 2,.tmp 3],body:=(.seq (.regO [aU 1 (.box (.t 0)),mC 2 (.int .i64 0),mC 3 (.bool false)]) (.seq (.regO [pU 5 (.fldA 1 (.t 1)),lD 6 0 5,pU 7 (.conv (.int .i64) (.t 6)),mV 4 7]) (.seq (.seq (.regD [mV 8 4,eU 9 (.call fo [(.t 8)]),rU 10 1 (.ld (some 2) (.t 1)),bT 11 .neq tw 9 10]) (.cond (.t 11) (.seq (.regO [mC 2 (.int .i64 0),mC 3 (.bool false)]) .ret) .skip)) (.seq (.regO [mV 12 4,mV 2 12,mC 3 (.bool true)]) .ret)))) }
section
variable {P:Program} {orc:Orc} {s:Bool}
theorem is_cv {f tr:Nat} (hcf:zD P f=some (cfIs tr)) (ho:orc f=none) {h:Hp} {nx:Nat}:Cv P orc s f [.int .i64 1] h nx (fun v h' nx'=>v = .bool true∧h'=h∧nx'=nx):=by
 refine Cv.enter ho hcf ?_;unfold cfIs bC mC mV pU;refine Ev.seq (Ev.regO ?_);simp [zE,Ov_nil];refine Ev.seq (Ev.regO ?_);simp [zE,Ov_g,Ov_nil,zt];exact Ev.ret (by simp)
theorem zEF (z:Nat):zA2 (some 2) 0 (zF z) = .ok (.agg ⟨zF z⟩):=by simp [zF]
theorem add_cv {f fl fw tr tw:Nat} {R1 R2 R3:CC} (hcf:zD P f=some (zOp fl tr tw R1 R2 R3)) (ho:orc f=none) (hl:zD P fl=some (zCx fw tw)) (hol:orc fl=none) (hw:zDY P tw) (hc:zEQ P orc fw) {m n:Nat} {h:Hp} {nx:Nat} :
  Cv P orc s f [.int .i64 1,.agg ⟨zF m⟩,.agg ⟨zF n⟩] h nx (fun v h' nx'=>v = .agg ⟨zF (if n<m then n else m)⟩∧nx≤nx'∧∀ b,b<nx→hget h' b=hget h b):=by
 refine Cv.enter ho hcf ?_;unfold zOp aU bC eN eU mV rU;have hm:zf (zF m)=true:=rfl;have hn:zf (zF n)=true:=rfl;refine Ev.seq (Ev.regO ?_);simp [zE,zAw,Ov_nil,calq,zI,zAd,hm,hn,nbV,nbO];have g1:hget (hset (hset (hset h nx (.cells (zF m) false)) (nx+1) (.cells (zF n) false)) (nx+1+1) (.cells [(.int .i64 0),(.int .u64 0)] false)) nx=some (.cells (zF m) false):=by simp [show ¬ nx=nx+1+1 by omega]
 have g2:hget (hset (hset (hset h nx (.cells (zF m) false)) (nx+1) (.cells (zF n) false)) (nx+1+1) (.cells [(.int .i64 0),(.int .u64 0)] false)) (nx+1)=some (.cells (zF n) false):=by simp
 have g3:hget (hset (hset (hset h nx (.cells (zF m) false)) (nx+1) (.cells (zF n) false)) (nx+1+1) (.cells [(.int .i64 0),(.int .u64 0)] false)) (nx+1+1)=some (.cells (zF 0) false):=by simp [zF]
 have g4:∀ b,b<nx→hget (hset (hset (hset h nx (.cells (zF m) false)) (nx+1) (.cells (zF n) false)) (nx+1+1) (.cells [(.int .i64 0),(.int .u64 0)] false)) b=hget h b:=fun b hb=>by simp [show b≠nx by omega,show b≠nx+1 by omega,show b≠nx+1+1 by omega]
 generalize hset (hset (hset h nx (.cells (zF m) false)) (nx+1) (.cells (zF n) false)) (nx+1+1) (.cells [(.int .i64 0),(.int .u64 0)] false)=h1 at *
 refine Ev.seq (Ev.seq (Ev.regO ?_));simp [zE,Ov_nil];refine Ev.block (Ev.seq (Ev.seq (Ev.regO ?_)));simp [zE,Ov_nil];refine Ev.cond true (by simp) (fun _=>Ev.skip ?_) (by simp);simp;refine Ev.cond true (by simp) (fun _=>?_) (by simp);refine Ev.seq (Ev.regO ?_);simp only [zAI,c_ld,zO,tgs,zR,zA g1,zA g2,zEF,zX,zB,seval];refine ze ?_;simp only [zJ,zP,zO,tgs,seval];refine (zRI (s:=s) hl hol hw hc).mono ?_;rintro v h' nx' ⟨rfl,hnx',hfr⟩;have k3:hget h' (nx+1+1)=some (.cells (zF 0) false):=by rw [hfr _ (by omega)]; exact g3
 have k4:∀ b,b<nx→hget h' b=hget h b:=fun b hb=>by rw [hfr b (by omega)]; exact g4 b hb
 generalize (if n<m then n else m)=r;simp only [zER,zO,zB,tgs,zR,zDG k3,zX,zH,Ov_nil,zC,seval];refine Ev.ret ?_;show RK (zBQ P _ _ [.cell 6 tw]) _;simp only [zEv,zAt,tgs,zR,zDc hw (n:=r) (b:=nx+1+1) (h:=hset h' (nx+1+1) (.cells (zF r) false)) (by simp),bind_ok,zX,zE4,seval];refine ⟨trivial,by omega,fun b hb=>?_⟩;simp [show b≠nx+1+1 by omega,k4 b hb]
theorem cagreeW {tm:Tm} {e:CRd} {n:Nat} {h:Hp} {hs:List Hp} (he:cred P tm h e = .ok (.agg ⟨zF n⟩)):zAD P tm e (.agg ⟨zF n⟩) 1 (h::hs)=true:=by
 unfold zAD;rw [he];show (bif zAs (.agg ⟨zF n⟩) (.ok (.agg ⟨zF n⟩)) then true else false)=true;have:zAs (.agg ⟨zF n⟩) (.ok (.agg ⟨zF n⟩))=true:=by
  show zEY (.agg ⟨zF n⟩) (.agg ⟨zF n⟩)=true;show (zDI (.int .i64 0) (.int .i64 0)&&(zDI (.int .u64 (n:Int)) (.int .u64 (n:Int))&&true))=true;have h2:zDI (.int .u64 (n:Int)) (.int .u64 (n:Int))=true:=by
   show (keq .u64 .u64&&ieq (n:Int) (n:Int))=true;rw [ieq_iff.2 rfl]; rfl
  rw [h2]; rfl
 rw [this]; rfl
theorem zNv {f fo tw:Nat} (hcf:zD P f=some (zBz fo tw)) (ho:orc f=none) (hof:zD P fo=some (cfOf tw)) (hoo:orc fo=none) (hw:zDY P tw) {n:Nat} (hn:n<4294967296)
  (heq:bin P .neq tw (.agg ⟨zF n⟩) (.agg ⟨zF n⟩) = .ok (.bool false)) {h:Hp} {nx:Nat} :
  Cv P orc s f [.agg ⟨zF n⟩] h nx (fun v h' nx'=>v = .tuple ⟨[.int .i64 (n:Int),.bool true]⟩∧nx≤nx'∧∀ b,b<nx→hget h' b=hget h b):=by
 refine Cv.enter ho hcf ?_;unfold zBz aU bT eU lD mC mV pU rU;have hc:zf (zF n)=true:=rfl;refine Ev.seq (Ev.regO ?_);simp [zE,zAw,Ov_nil,calq,zI,zAd,hc,nbV,nbO];have g1:hget (hset h nx (.cells (zF n) false)) nx=some (.cells (zF n) false):=by simp
 have g4:∀ b,b<nx→hget (hset h nx (.cells (zF n) false)) b=hget h b:=fun b hb=>by simp [show b≠nx by omega]
 generalize hset h nx (.cells (zF n) false)=h1 at *
 have w1:(zF n)[1]? = some (.int .u64 (n:Int)):=rfl;refine Ev.seq (Ev.regO ?_);simp [zE,zAI,Ov_nil,zA g1,w1,zPD n hn];refine Ev.seq (Ev.seq (Ev.regD ?_));simp [zA1];refine zCB ?_;simp;refine (of_cv (s:=true) hof hoo hw hn).mono ?_;rintro v h' nx' ⟨rfl,hnx',hfr⟩;refine ⟨by omega,?_⟩;have k1:hget h' nx=some (.cells (zF n) false):=by rw [hfr _ (by omega)]; exact g1
 simp only [zCW,c_ld,zO,tgs,zB,zR,zA k1,zEF,zX,seval];refine ⟨cagreeW (by simp only [c_ld,zO,tgs,zR,zA g1,zEF,seval]),?_⟩;simp only [zA1,zCG,zO,tgs,heq,zX,zB,Dv_nil,zC,seval];refine Ev.cond false (by simp) (by simp) fun _=>Ev.skip ?_;show Ev P orc s _ _ _ _ _;refine Ev.seq (Ev.regO ?_);simp only [zE,c_mv,zO,zn,tgs,zX,zB,Ov_nil,zC,seval];refine Ev.ret ?_;simp only [zCq,zBn,zAt,tgs,bind_ok,zX,zD7,seval];exact ⟨trivial,by omega,fun b hb=>by rw [hfr b (by omega)]; exact g4 b hb⟩
theorem zRC {f fn fo tw:Nat} (hcf:zD P f=some (zDi fn)) (ho:orc f=none) (hnf:zD P fn=some (zBz fo tw)) (hon:orc fn=none) (hof:zD P fo=some (cfOf tw)) (hoo:orc fo=none) (hw:zDY P tw) {n:Nat} (hn:n<4294967296)
  (heq:bin P .neq tw (.agg ⟨zF n⟩) (.agg ⟨zF n⟩) = .ok (.bool false)) {r:Value} {h:Hp} {nx:Nat} :
  Cv P orc s f [r,.agg ⟨zF n⟩] h nx (fun v h' nx'=>v = .tuple ⟨[.int .i64 (n:Int),.bool true]⟩∧nx≤nx'∧∀ b,b<nx→hget h' b=hget h b):=by
 refine Cv.enter ho hcf ?_;unfold zDi aU eU mC mV pU rU;have hc:zf (zF n)=true:=rfl;refine Ev.seq (Ev.regO ?_);simp [zE,zAw,Ov_nil,calq,zI,zAd,hc,nbV,nbO];have g1:hget (hset h nx (.cells (zF n) false)) nx=some (.cells (zF n) false):=by simp
 have g4:∀ b,b<nx→hget (hset h nx (.cells (zF n) false)) b=hget h b:=fun b hb=>by simp [show b≠nx by omega]
 generalize hset h nx (.cells (zF n) false)=h1 at *
 refine Ev.seq (Ev.regO ?_);simp only [zAI,c_ld,zO,tgs,zB,zR,zA g1,zEF,zX,seval];refine ze ?_;simp only [zJ,zP,zO,tgs,↓reduceIte];refine (zNv (s:=s) hnf hon hof hoo hw hn heq).mono ?_;rintro v h' nx' ⟨rfl,hnx',hfr⟩;simp [zE,Ov_nil];refine Ev.ret ?_;simp only [zCq,zBn,zAt,tgs,bind_ok,zX,zD7,seval];exact ⟨trivial,by omega,fun b hb=>by rw [hfr b (by omega)]; exact g4 b hb⟩
end
def keyV (x:Edg):Value:=.agg ⟨encL (x.1,x.2.1)⟩
def zAC:Nat→List Edg→List MapEntry
 | _,[]=>[]
 | i,x::l=>{ key:=keyV x,val:=.agg ⟨zF x.2.2.toNat⟩,born:=i }::zAC (i+1) l
def zIU (x e:Edg):Bool:=ieq x.1 e.1&&ieq x.2.1 e.2.1
def zBF (n:Int):Bool:=match n with
 | .ofNat m=>Nat.blt m 2147483648
 | .negSucc _=>false
def zBU (x:Edg):Prop:=zBF x.1=true∧zBF x.2.1=true∧zBF x.2.2=true
def fnd (e:Edg):List Edg→Option (Nat × Edg)
 | []=>none
 | x::l=>bif zIU x e then some (0,x) else (fnd e l).map (fun p=>(p.1+1,p.2))
theorem zGF (e:Edg):∀ (l:List Edg),zAn e l=match fnd e l with
  | none=>l++[e]
  | some (p,x)=>l.set p (x.1,x.2.1,bif iblt e.2.2 x.2.2 then e.2.2 else x.2.2)
 | []=>rfl
 | x::l=>by
  unfold zAn fnd;show (bif zIU x e then _ else _)=_;cases zIU x e with
  | true=>rfl
  | false =>
   simp only [cond_false];rw [zGF e l];cases fnd e l with
   | none=>rfl
   | some p=>rfl
theorem zIj {e:Edg}:∀ {l:List Edg} {p:Nat} {x:Edg},fnd e l=some (p,x)→l[p]? = some x∧zIU x e=true
 | [],p,x,h=>by cases h
 | y::l,p,x,h=>by
  unfold fnd at h;cases hs:zIU y e with
  | true=>rw [hs] at h; cases h; exact ⟨rfl,hs⟩
  | false =>
   rw [hs] at h;simp only [cond_false] at h;cases hf:fnd e l with
   | none=>rw [hf] at h; cases h
   | some q =>
    rw [hf] at h;cases h;obtain ⟨h1,h2⟩:=zIj (l:=l) (p:=q.1) (x:=q.2) hf;exact ⟨by simpa using h1,h2⟩
theorem zOU (i:Nat) (l:List Edg) (e:Edg):zAC i (l++[e])=zAC i l++[{ key:=keyV e,val:=.agg ⟨zF e.2.2.toNat⟩,born:=i+l.length }]:=by
 induction l generalizing i with
 | nil=>rfl
 | cons x l ih =>
  show _::zAC (i+1) (l++[e])=_::(zAC (i+1) l++_)
  rw [ih,List.length_cons];have:i+1+l.length=i+(l.length+1):=by omega
  rw [this]
theorem zHj (e:Edg):∀ (i p:Nat) (l:List Edg),p<l.length→mset (zAC i l) p (keyV e) (.agg ⟨zF e.2.2.toNat⟩)=zAC i (l.set p e)
 | _,_,[],h=>by simp at h
 | i,0,x::l,h=>rfl
 | i,p+1,x::l,h=>by
  show _::mset (zAC (i+1) l) p _ _=_::zAC (i+1) (l.set p e);rw [zHj e (i+1) p l (by simpa using h)]
section
variable {P:Program} {orc:Orc} {s:Bool}
def zMK (P:Program) (kt:Nat):Prop:=∀ x y:Edg,zBU x→zBU y→zEG P kt (keyV x) (keyV y)=some (zIU y x)
theorem zIn {kt:Nat} (hk:zMK P kt) {e:Edg} (he:zBU e):∀ (i j:Nat) (l:List Edg),(∀ x∈l,zBU x)→zDR P kt (keyV e) (zAC i l) j=some ((fnd e l).map fun p=>(j+p.1,{ key:=keyV p.2,val:=.agg ⟨zF p.2.2.2.toNat⟩,born:=i+p.1 }))
 | i,j,[],_=>rfl
 | i,j,x::l,h=>by
  have ih:=zIn hk he (i+1) (j+1) l fun y hy=>h y (List.mem_cons_of_mem _ hy);unfold zAC zDR fnd;simp only [hk e x he (h x (List.mem_cons_self ..))];cases zIU x e with
  | true=>rfl
  | false =>
   simp only [cond_false];rw [show Nat.succ j=j+1 from rfl,ih];cases fnd e l with
   | none=>rfl
   | some q =>
    simp only [Option.map_some];have e1:j+1+q.1=j+(q.1+1):=by omega
    have e2:i+1+q.1=i+(q.1+1):=by omega
    rw [e1,e2]
theorem zPn {x e:Edg} (h:zIU x e=true):keyV x=keyV e∧x.1=e.1∧x.2.1=e.2.1:=by
 unfold zIU at h;simp only [Bool.and_eq_true,ieq_iff] at h;refine ⟨?_,h⟩;unfold keyV;rw [h.1,h.2]
theorem lkp_mk {kt:Nat} (hk:zMK P kt) {e:Edg} (he:zBU e) {h:Hp} {r ck:Nat} {l:List Edg} (hl:∀ x∈l,zBU x) (hm:hget h r=some (.map (zAC 0 l) ck)) (z:Value) :
  cLkp P h kt z true (.map (some r)) (keyV e) = .ok (match fnd e l with
   | none=>.tuple #[z,.bool false]
   | some p=>.tuple #[.agg ⟨zF p.2.2.2.toNat⟩,.bool true]):=by
 unfold cLkp zJq;rw [hk e e he he];show zKK h (.map (some r)) _=_;unfold zKK zFF;simp only [hm,zIn hk he 0 0 l hl];cases fnd e l <;> rfl
theorem zPl (e:Edg):zEY (keyV e) (keyV e)=true:=by
 show (zDI (.int .i64 e.1) (.int .i64 e.1)&&(zDI (.int .i64 e.2.1) (.int .i64 e.2.1)&&true))=true;have:∀ n:Int,zDI (.int .i64 n) (.int .i64 n)=true:=fun n=>by
  show (keq .i64 .i64&&ieq n n)=true;rw [ieq_iff.2 rfl]; rfl
 rw [this,this]; rfl
theorem mup_mk {kt:Nat} (hk:zMK P kt) {e:Edg} (he:zBU e) {h:Hp} {r:Nat} {l:List Edg} (hl:∀ x∈l,zBU x) (hm:hget h r=some (.map (zAC 0 l) l.length)) {w:Nat}
  (hw:w=match fnd e l with | none=>e.2.2.toNat | some p=>(bif iblt e.2.2 p.2.2.2 then e.2.2 else p.2.2.2).toNat) :
  cMup P kt h (.map (some r)) (keyV e) (.agg ⟨zF w⟩) = .ok (hset h r (.map (zAC 0 (zAn e l)) (zAn e l).length)):=by
 unfold cMup zJq;rw [hk e e he he];show zFF h r _=_;unfold zFF;simp only [hm,zIn hk he 0 0 l hl];rw [zGF];cases hf:fnd e l with
 | none =>
  rw [hf] at hw;simp only at hw;subst hw;simp only [Option.map_none,zAB,zOU,List.length_append,List.length_cons,List.length_nil,Nat.zero_add]
 | some p =>
  obtain ⟨q,x⟩:=p;rw [hf] at hw;simp only at hw;obtain ⟨h1,h2⟩:=zIj hf;obtain ⟨k1,k2,k3⟩:=zPn h2;have hq:q<l.length:=(List.getElem?_eq_some_iff.1 h1).1;simp only [Option.map_some,k1,zPl,cond_true,Nat.zero_add,List.length_set];have:=zHj (x.1,x.2.1,bif iblt e.2.2 x.2.2 then e.2.2 else x.2.2) 0 q l hq;have hkx:keyV (x.1,x.2.1,bif iblt e.2.2 x.2.2 then e.2.2 else x.2.2)=keyV e:=by rw [← k1]; rfl
  rw [hkx] at this;rw [hw,this]
end
def zLt (fof fad kt:Nat):CC:=(.block 1
  (.seq (.regO [⟨none,(some 26),0,.pur (.ixA (.slice 3) (.t 22) (.t 24))⟩,
   ⟨none,(some 27),0,.red (.ld (some 3) (.t 26))⟩,
   ⟨none,(some 8),0,.alc (.new [(.int .i64 0),(.int .i64 0),(.int .i64 0)])⟩,
   ⟨none,none,0,.eff (.st 3 (.t 8) (.t 27))⟩])
  (.seq (.regO [⟨none,(some 28),0,.pur (.fldA 0 (.t 8))⟩,
   ⟨none,(some 29),0,.red (.ld none (.t 28))⟩,
   ⟨none,(some 30),0,.pur (.fldA 1 (.t 8))⟩,
   ⟨none,(some 31),0,.red (.ld none (.t 30))⟩,
   ⟨none,(some 32),0,.pur (.build [(.int .i64 0),(.int .i64 0)] [(0,1,(.t 29)),(1,1,(.t 31))])⟩,
   ⟨none,(some 9),0,.alc (.new [(.int .i64 0),(.int .i64 0)])⟩,
   ⟨none,none,0,.eff (.st 2 (.t 9) (.t 32))⟩])
  (.seq (.regO [⟨none,(some 33),0,.pur (.fldA 2 (.t 8))⟩,
   ⟨none,(some 34),0,.red (.ld none (.t 33))⟩,
   ⟨none,(some 35),0,.eff (.call fof [(.t 34)])⟩,
   ⟨none,(some 10),0,.alc (.new [(.int .i64 0),(.int .u64 0)])⟩,
   ⟨none,none,0,.eff (.st 2 (.t 10) (.t 35))⟩])
  (.seq (.seq (.regO [⟨none,(some 37),0,.pur (.mv (.t 6))⟩,
   ⟨none,(some 38),0,.red (.ld (some 2) (.t 9))⟩,
   ⟨none,(some 39),0,.red (.lkp kt (.agg #[(.int .i64 0),(.int .u64 0)]) (.t 37) (.t 38) true)⟩,
   ⟨none,(some 36),0,.pur (.mv (.t 39))⟩,
   ⟨none,(some 40),0,.pur (.ext (.t 36) 0)⟩,
   ⟨none,(some 41),0,.pur (.ext (.t 36) 1)⟩,
   ⟨none,(some 11),0,.alc (.new [(.int .i64 0),(.int .u64 0)])⟩,
   ⟨none,none,0,.eff (.st 2 (.t 11) (.t 40))⟩,
   ⟨none,(some 12),0,.pur (.mv (.t 41))⟩])
  (.seq (.regO [⟨none,(some 42),0,.pur (.mv (.t 12))⟩])
  (.cond (.t 42)
   (.regO [⟨none,(some 43),0,.pur (.mv (.t 0))⟩,
    ⟨none,(some 44),0,.red (.ld (some 2) (.t 11))⟩,
    ⟨none,(some 45),0,.red (.ld (some 2) (.t 10))⟩,
    ⟨none,(some 46),0,.eff (.call fad [(.t 43),(.t 44),(.t 45)])⟩,
    ⟨none,none,0,.eff (.st 2 (.t 10) (.t 46))⟩])
   .skip)))
  (.regO [⟨none,(some 47),0,.pur (.mv (.t 6))⟩,
   ⟨none,(some 48),0,.red (.ld (some 2) (.t 9))⟩,
   ⟨none,(some 49),0,.red (.ld (some 2) (.t 10))⟩,
   ⟨none,none,0,.eff (.mup kt (.t 47) (.t 48) (.t 49))⟩]))))))
theorem zAa {n:Int} (h:zBF n=true):∃ m:Nat,n=(m:Int)∧m<2147483648:=by
 cases n with
 | ofNat m=>exact ⟨m,rfl,by simpa [zBF,zA8] using h⟩
 | negSucc m=>cases h
section
variable {P:Program} {orc:Orc} {s:Bool}
theorem zKn {h:Hp} {b:Nat} {k:Nat} {l l0:List Value} (hh:hget h b=some (.cells l0 false)) (hl:l.length=k) (h0:l0.length=k) (hc:zf l=true):cSt h k (zI (.agg ⟨l⟩)) ⟨b,0,none⟩ = .ok (hset h b (.cells l false)):=by
 unfold cSt zAr;show (bif Nat.beq (llen l) k then _ else _)=_;rw [zz,hl,Nat.beq_refl];simp only [cond_true,zA hh];show (bif zf l then R.of _ (lput l l0 0) _ else _)=_;rw [hc,zAl,if_pos (by omega)];rw [List.drop_of_length_le (by omega)];simp
theorem zHx {fof fad fl fw tr tw kt:Nat} {R1 R2 R3:CC} (hof:zD P fof=some (cfOf tw)) (oof:orc fof=none) (had:zD P fad=some (zOp fl tr tw R1 R2 R3)) (oad:orc fad=none) (hfl:zD P fl=some (zCx fw tw)) (ofl:orc fl=none)
  (hw:zDY P tw) (hc:zEQ P orc fw) (hk:zMK P kt)
  {h:Hp} {nx r bs os n cap i:Nat} {sp:Option Nat} {cs:List Value} {ro:Bool} {acc:List Edg} {e:Edg} (he:zBU e) (hacc:∀ x∈acc,zBU x) (hr:r<nx) (hm:hget h r=some (.map (zAC 0 acc) acc.length))
  (hbs:hget h bs=some (.cells cs ro)) (hbr:bs<nx) (hin:i<n) (hld:zA2 (some 3) (os+i*3) cs = .ok (.agg ⟨encE e⟩)) {tm:Tm} (t0:tget tm 0 = .int .i64 1) (t6:tget tm 6 = .map (some r)) (t22:tget tm 22 = .slice (some ⟨bs,os,sp⟩) n cap) (t24:tget tm 24 = .int .i64 (i:Int)) {K:KO'}
  (hK:∀ tm' h' nx',(∀ t,(t<8∨(13≤t∧t<26))→tget tm' t=tget tm t)→nx≤nx'→hget h' r=some (.map (zAC 0 (zAn e acc)) (zAn e acc).length)→(∀ b,b<nx→b≠r→hget h' b=hget h b)→K .normal tm' h' nx') :
  Ev P orc s (zLt fof fad kt) tm h nx K:=by
 obtain ⟨he1,he2,he3⟩:=he;obtain ⟨w,hw1,hw2⟩:=zAa he3;unfold zLt;refine Ev.block (Ev.seq (Ev.regO ?_));simp only [zE,zAI,zAw,zH2,c_ld,zO,t22,t24,zBa,zAk,if_pos hin,zX,zB,tgs,zR,zA hbs,hld,calq,nbV,nbO,seval];simp only [zER,zO,tgs,zR,seval];rw [zKn (k:=3) (l:=encE e) (l0:=[(.int .i64 0),(.int .i64 0),(.int .i64 0)]) (by simp) rfl rfl rfl];simp only [zX,zH,Ov_nil,zC];have a1:hget (hset (hset h nx (.cells [(.int .i64 0),(.int .i64 0),(.int .i64 0)] false)) nx (.cells (encE e) false)) nx=some (.cells (encE e) false):=by simp
 have a2:∀ b,b<nx→hget (hset (hset h nx (.cells [(.int .i64 0),(.int .i64 0),(.int .i64 0)] false)) nx (.cells (encE e) false)) b=hget h b:=fun b hb=>by simp [show b≠nx by omega]
 generalize hset (hset h nx (.cells [(.int .i64 0),(.int .i64 0),(.int .i64 0)] false)) nx (.cells (encE e) false)=h1 at *
 have e0:(encE e)[0]? = some (.int .i64 e.1):=rfl;have e1:(encE e)[1]? = some (.int .i64 e.2.1):=rfl;have e2:(encE e)[2]? = some (.int .i64 (w:Int)):=by rw [← hw1]; rfl
 refine Ev.seq (Ev.regO ?_);have hbld:∀ tm x,cpur P (tset (tset (tset tm 29 (.int .i64 e.1)) 30 x) 31 (.int .i64 e.2.1)) (.build [(.int .i64 0),(.int .i64 0)] [(0,1,(.t 29)),(1,1,(.t 31))]) = .ok (keyV e):=fun tm x=>by
  simp [cpur,zAO,zA0,zI,lput,zGk,zDF,zDB,zDn,zED,llen,zGp,keyV,encL]
 simp only [zE,zAI,zAw,zS4,c_ld,zO,zX,zB,tgs,zR,zE9,Nat.zero_add,zA a1,zBr,e0,e1,zBS,hbld,calq,nbV,nbO,seval];simp only [zER,zO,tgs,zR,seval];unfold keyV;rw [zKn (k:=2) (l:=encL (e.1,e.2.1)) (l0:=[(.int .i64 0),(.int .i64 0)]) (by simp) rfl rfl rfl];simp only [zX,zH,Ov_nil,zC];have b0:hget (hset (hset h1 (nx+1) (.cells [(.int .i64 0),(.int .i64 0)] false)) (nx+1) (.cells (encL (e.1,e.2.1)) false)) (nx+1)=some (.cells (encL (e.1,e.2.1)) false):=by simp
 have b1:hget (hset (hset h1 (nx+1) (.cells [(.int .i64 0),(.int .i64 0)] false)) (nx+1) (.cells (encL (e.1,e.2.1)) false)) nx=some (.cells (encE e) false):=by simp; exact a1
 have b2:∀ b,b<nx→hget (hset (hset h1 (nx+1) (.cells [(.int .i64 0),(.int .i64 0)] false)) (nx+1) (.cells (encL (e.1,e.2.1)) false)) b=hget h b:=fun b hb=>by simp [show b≠nx+1 by omega]; exact a2 b hb
 generalize hset (hset h1 (nx+1) (.cells [(.int .i64 0),(.int .i64 0)] false)) (nx+1) (.cells (encL (e.1,e.2.1)) false)=h2 at *
 clear a1 a2;refine Ev.seq (Ev.regO ?_);simp only [zE,zAI,zS4,c_ld,zO,zX,zB,tgs,zR,zE9,Nat.zero_add,zA b1,zBr,e2,zBS,seval];refine ze ?_;simp only [zJ,zP,zO,tgs,↓reduceIte];refine (of_cv (s:=s) hof oof hw (n:=w) (by omega)).mono ?_;rintro v h3 nx3 ⟨rfl,hnx3,hfr3⟩;have c0:hget h3 (nx+1)=some (.cells (encL (e.1,e.2.1)) false):=by rw [hfr3 _ (by omega)]; exact b0
 have c2:∀ b,b<nx→hget h3 b=hget h b:=fun b hb=>by rw [hfr3 b (by omega)]; exact b2 b hb
 clear b0 b1 b2 hfr3;simp only [zAw,calq,zX,zB,nbV,nbO];simp only [zER,zO,tgs,zR,seval];rw [zDG (m:=0) (by simp [zF])];simp only [zX,zH,Ov_nil,zC];have d0:hget (hset (hset h3 nx3 (.cells [(.int .i64 0),(.int .u64 0)] false)) nx3 (.cells (zF w) false)) (nx+1)=some (.cells (encL (e.1,e.2.1)) false):=by simp [show ¬ nx+1=nx3 by omega]; exact c0
 have d1:hget (hset (hset h3 nx3 (.cells [(.int .i64 0),(.int .u64 0)] false)) nx3 (.cells (zF w) false)) nx3=some (.cells (zF w) false):=by simp
 have d2:∀ b,b<nx→hget (hset (hset h3 nx3 (.cells [(.int .i64 0),(.int .u64 0)] false)) nx3 (.cells (zF w) false)) b=hget h b:=fun b hb=>by simp [show b≠nx3 by omega]; exact c2 b hb
 generalize hset (hset h3 nx3 (.cells [(.int .i64 0),(.int .u64 0)] false)) nx3 (.cells (zF w) false)=h4 at *
 clear c0 c2;have hm4:hget h4 r=some (.map (zAC 0 acc) acc.length):=by rw [d2 r hr]; exact hm
 have ldk:zA2 (some 2) 0 (encL (e.1,e.2.1)) = .ok (keyV e):=by simp [encL,keyV]
 have hlk:=lkp_mk hk ⟨he1,he2,he3⟩ hacc hm4 (.agg #[(.int .i64 0),(.int .u64 0)]);obtain ⟨q,fb,hlk2,hqn,hqs⟩:∃ (q:Nat) (fb:Bool),cLkp P h4 kt (.agg #[(.int .i64 0),(.int .u64 0)]) true (.map (some r)) (keyV e) = .ok (.tuple ⟨[.agg ⟨zF q⟩,.bool fb]⟩)∧(fb=false→fnd e acc=none)∧(fb=true→∃ p x,fnd e acc=some (p,x)∧x.2.2=(q:Int)):=by
  cases hf:fnd e acc with
  | none =>
   rw [hf] at hlk;exact ⟨0,false,hlk,fun _=>rfl,fun e=>(by cases e)⟩
  | some px =>
   obtain ⟨p,x⟩:=px;rw [hf] at hlk;obtain ⟨h1,_⟩:=zIj hf;obtain ⟨m,hm1,_⟩:=zAa (hacc x (List.mem_of_getElem? h1)).2.2;refine ⟨x.2.2.toNat,true,hlk,fun e=>(by cases e),fun _=>⟨p,x,rfl,?_⟩⟩;rw [hm1]; rfl
 clear hlk;have clk:∀ (tm:Tm) (z:Value) (m k:Co),cred P tm h4 (.lkp kt z m k true)=cLkp P h4 kt z true (cev tm m) (cev tm k):=fun _ _ _ _=>rfl;refine Ev.seq (Ev.seq (Ev.regO ?_));simp only [zE,zAI,zAw,c_mv,c_ld,zK5,clk,zO,t6,zX,zB,tgs,zR,zA d0,ldk,hlk2,zy,List.getElem?_cons_zero,List.getElem?_cons_succ,zBR,calq,nbV,nbO,seval];simp only [zER,zO,tgs,zR,seval];rw [zDG (m:=0) (by simp [zF])];simp only [zX,zH,zE,c_mv,zO,tgs,zB,Ov_nil,zC,seval];have f0:hget (hset (hset h4 (nx3+1) (.cells [(.int .i64 0),(.int .u64 0)] false)) (nx3+1) (.cells (zF q) false)) (nx+1)=some (.cells (encL (e.1,e.2.1)) false):=by simp [show ¬ nx=nx3 by omega]; exact d0
 have f1:hget (hset (hset h4 (nx3+1) (.cells [(.int .i64 0),(.int .u64 0)] false)) (nx3+1) (.cells (zF q) false)) nx3=some (.cells (zF w) false):=by simp; exact d1
 have f3:hget (hset (hset h4 (nx3+1) (.cells [(.int .i64 0),(.int .u64 0)] false)) (nx3+1) (.cells (zF q) false)) (nx3+1)=some (.cells (zF q) false):=by simp
 have f2:∀ b,b<nx→hget (hset (hset h4 (nx3+1) (.cells [(.int .i64 0),(.int .u64 0)] false)) (nx3+1) (.cells (zF q) false)) b=hget h b:=fun b hb=>by simp [show b≠nx3+1 by omega]; exact d2 b hb
 generalize hset (hset h4 (nx3+1) (.cells [(.int .i64 0),(.int .u64 0)] false)) (nx3+1) (.cells (zF q) false)=h5 at *
 clear d0 d1 d2 hm4 hlk2 clk;refine Ev.seq (Ev.regO ?_);simp only [zE,c_mv,zO,tgs,zX,zB,Ov_nil,zC,seval];have last:∀ (tm6:Tm) (h6:Hp) (nx6 m:Nat),nx≤nx6→tget tm6 6 = .map (some r)→tget tm6 9 = .pointer (some ⟨nx+1,0,none⟩)→tget tm6 10 = .pointer (some ⟨nx3,0,none⟩)→(∀ t,(t<8∨(13≤t∧t<26))→tget tm6 t=tget tm t) →
   hget h6 (nx+1)=some (.cells (encL (e.1,e.2.1)) false)→hget h6 nx3=some (.cells (zF m) false)→(∀ b,b<nx→hget h6 b=hget h b)→(m=match fnd e acc with | none=>e.2.2.toNat | some p=>(bif iblt e.2.2 p.2.2.2 then e.2.2 else p.2.2.2).toNat) →
   Ev P orc s (.regO [⟨none,(some 47),0,.pur (.mv (.t 6))⟩,⟨none,(some 48),0,.red (.ld (some 2) (.t 9))⟩,⟨none,(some 49),0,.red (.ld (some 2) (.t 10))⟩,⟨none,none,0,.eff (.mup kt (.t 47) (.t 48) (.t 49))⟩]) tm6 h6 nx6 (blkK 1 K):=by
  intro tm6 h6 nx6 m hle u6 u9 u10 hlow k0 k1 k2 hmw;refine Ev.regO ?_;simp only [zE,zAI,c_mv,c_ld,zO,u6,u9,u10,zX,zB,tgs,zR,zA k0,zA k1,ldk,zEF,seval];have hm6:hget h6 r=some (.map (zAC 0 acc) acc.length):=by rw [k2 r hr]; exact hm
  have hup:=mup_mk hk ⟨he1,he2,he3⟩ hacc hm6 hmw;rw [zCm (v:=zY) (h':=hset h6 r (.map (zAC 0 (zAn e acc)) (zAn e acc).length)) (nx':=nx6) (by
   show uOf nx6 (cMup P kt h6 (cev _ (.t 47)) (cev _ (.t 48)) (cev _ (.t 49)))=_;simp only [zO,tgs,seval];rw [hup]; rfl)]
  simp only [zH,Ov_nil,zAX];refine hK _ _ _ (fun t ht=>?_) hle (by simp) (fun b hb hbr=>by simp [hbr]; exact k2 b hb);simp only [tgs];rw [if_neg (by omega),if_neg (by omega),if_neg (by omega)];exact hlow t ht
 cases fb with
 | false =>
  have hfn:=hqn rfl;refine Ev.cond false (by simp) (by simp) fun _=>Ev.skip ?_;show Ev P orc s _ _ _ _ _;refine last _ _ _ w (by omega) (by simp [t6]) (by simp) (by simp) (fun t ht=>?_) f0 f1 f2 (by rw [hfn,hw1]; rfl);simp only [tgs]
  repeat rw [if_neg (by omega)]
 | true =>
  obtain ⟨p,x,hfs,hxq⟩:=hqs rfl;refine Ev.cond true (by simp) (fun _=>?_) (by simp);refine Ev.regO ?_;simp only [zE,zAI,c_mv,c_ld,zO,t0,zX,zB,tgs,zR,zA f1,zA f3,zEF,seval];refine ze ?_;simp only [zJ,zP,zO,tgs,seval];refine (add_cv (s:=s) had oad hfl ofl hw hc (m:=q) (n:=w)).mono ?_;rintro v h6 nx6 ⟨rfl,hnx6,hfr6⟩;have k0:hget h6 (nx+1)=some (.cells (encL (e.1,e.2.1)) false):=by rw [hfr6 _ (by omega)]; exact f0
  have k1:hget h6 nx3=some (.cells (zF w) false):=by rw [hfr6 _ (by omega)]; exact f1
  have k2:∀ b,b<nx→hget h6 b=hget h b:=fun b hb=>by rw [hfr6 b (by omega)]; exact f2 b hb
  generalize hmin:(if w<q then w else q)=m;simp only [zER,zO,zB,tgs,zR,seval];rw [zDG k1];simp only [zX,zH,Ov_nil,zC];refine last _ _ _ m (by omega) (by simp [t6]) (by simp) (by simp) (fun t ht=>?_) (by simp [show ¬ nx+1=nx3 by omega]; exact k0) (by simp) (fun b hb=>by simp [show b≠nx3 by omega]; exact k2 b hb) ?_
  ·simp only [tgs]
   repeat rw [if_neg (by omega)]
  ·rw [hfs];show m=(bif iblt e.2.2 x.2.2 then e.2.2 else x.2.2).toNat
   rw [hxq,hw1,zAK,← hmin]
   by_cases hlt:w<q
   ·simp [hlt]
   ·simp [hlt]
end
def zLs (fna:Nat):CC:=(.seq (.regO [⟨none,(some 55),0,.red (.entry (.t 52))⟩,
   ⟨none,(some 56),0,.pur (.ext (.t 55) 0)⟩,
   ⟨none,(some 57),0,.pur (.ext (.t 55) 1)⟩,
   ⟨none,(some 14),0,.alc (.new [(.int .i64 0),(.int .i64 0)])⟩,
   ⟨none,(some 15),0,.alc (.new [(.int .i64 0),(.int .u64 0)])⟩,
   ⟨none,none,0,.eff (.st 2 (.t 14) (.t 56))⟩,
   ⟨none,none,0,.eff (.st 2 (.t 15) (.t 57))⟩])
  (.seq (.regO [⟨none,(some 59),0,.pur (.mv (.t 0))⟩,
   ⟨none,(some 60),0,.red (.ld (some 2) (.t 15))⟩,
   ⟨none,(some 61),0,.eff (.call fna [(.t 59),(.t 60)])⟩,
   ⟨none,(some 58),0,.pur (.mv (.t 61))⟩,
   ⟨none,(some 62),0,.pur (.ext (.t 58) 0)⟩,
   ⟨none,(some 63),0,.pur (.ext (.t 58) 1)⟩,
   ⟨none,(some 16),0,.pur (.mv (.t 62))⟩,
   ⟨none,(some 17),0,.pur (.mv (.t 63))⟩])
  (.seq (.seq (.regO [⟨none,(some 64),0,.pur (.mv (.t 17))⟩,
   ⟨none,(some 65),0,.pur (.un .not (.t 64))⟩])
  (.cond (.t 65)
   (.seq (.regO [⟨none,(some 4),0,.pur (.mv (.v (.slice none 0 0)))⟩,
    ⟨none,(some 5),0,.pur (.mv (.v (.int .i64 12)))⟩])
   .ret)
   .skip))
  (.regO [⟨none,(some 66),0,.pur (.mv (.t 13))⟩,
   ⟨none,(some 67),0,.pur (.ixA (.array 2 1) (.t 14) (.v (.int .i64 0)))⟩,
   ⟨none,(some 68),0,.red (.ld none (.t 67))⟩,
   ⟨none,(some 69),0,.pur (.ixA (.array 2 1) (.t 14) (.v (.int .i64 1)))⟩,
   ⟨none,(some 70),0,.red (.ld none (.t 69))⟩,
   ⟨none,(some 71),0,.pur (.mv (.t 16))⟩,
   ⟨none,(some 72),0,.pur (.build [(.int .i64 0),(.int .i64 0),(.int .i64 0)] [(0,1,(.t 68)),(1,1,(.t 70)),(2,1,(.t 71))])⟩,
   ⟨none,(some 73),0,.alc (.bsl 1 [(.int .i64 0),(.int .i64 0),(.int .i64 0)] [(0,3,(.t 72))])⟩,
   ⟨none,(some 74),0,.eff (.app 3 (.t 66) (.t 73))⟩,
   ⟨none,(some 13),0,.pur (.mv (.t 74))⟩]))))
section
variable {P:Program} {orc:Orc} {s:Bool}
theorem zHw {fna fwn fof tw:Nat} (hna:zD P fna=some (zDi fwn)) (ona:orc fna=none) (hwn:zD P fwn=some (zBz fof tw)) (own:orc fwn=none) (hof:zD P fof=some (cfOf tw)) (oof:orc fof=none) (hw:zDY P tw)
  (heq:∀ n:Nat,n<4294967296→bin P .neq tw (.agg ⟨zF n⟩) (.agg ⟨zF n⟩) = .ok (.bool false))
  {h:Hp} {nx it lo:Nat} {x:Edg} {acc:List Edg} {w:Nat} (hx3:x.2.2=(w:Int)) (hwl:w<2147483648) {tm:Tm} (t52:tget tm 52 = .pointer (some ⟨it,0,none⟩)) (hent:zCd h (.pointer (some ⟨it,0,none⟩)) = .ok (.tuple ⟨[keyV x,.agg ⟨zF w⟩]⟩))
  (hsl:SlAt h (tget tm 13) encE 3 acc lo nx) (hlo:lo≤nx) (hsz:acc.length≤1000) {K:KO'}
  (hK:∀ tm' h' nx',(∀ t,t<13→tget tm' t=tget tm t)→tget tm' 52=tget tm 52→nx≤nx'→SlAt h' (tget tm' 13) encE 3 (acc++[x]) lo nx'→(∀ b,b<lo→hget h' b=hget h b)→K .normal tm' h' nx') :
  Ev P orc s (zLs fna) tm h nx K:=by
 unfold zLs;refine Ev.seq (Ev.regO ?_);simp only [zE,zAI,zAw,c_entry,zK5,zO,t52,hent,zy,List.getElem?_cons_zero,List.getElem?_cons_succ,zBR,zX,zB,tgs,calq,nbV,nbO,seval];simp only [zER,zO,tgs,zR,seval];unfold keyV;rw [zKn (k:=2) (l:=encL (x.1,x.2.1)) (l0:=[(.int .i64 0),(.int .i64 0)]) (by simp) rfl rfl rfl];simp only [zX,zH];simp only [zER,zO,tgs,zR,seval];rw [zDG (m:=0) (by simp [zF])];simp only [zX,zH,Ov_nil,zC];generalize hh1:hset (hset (hset (hset h nx (.cells [(.int .i64 0),(.int .i64 0)] false)) (nx+1) (.cells [(.int .i64 0),(.int .u64 0)] false)) nx (.cells (encL (x.1,x.2.1)) false)) (nx+1) (.cells (zF w) false)=h1;have a0:hget h1 nx=some (.cells (encL (x.1,x.2.1)) false):=by rw [← hh1]; simp
 have a1:hget h1 (nx+1)=some (.cells (zF w) false):=by rw [← hh1]; simp
 have a2:∀ b,b<nx→hget h1 b=hget h b:=fun b hb=>by rw [← hh1]; simp [show b≠nx by omega,show b≠nx+1 by omega]
 clear hh1;refine Ev.seq (Ev.regO ?_);simp only [zE,zAI,c_mv,c_ld,zO,zX,zB,tgs,zR,zA a1,zEF,seval];refine ze ?_;simp only [zJ,zP,zO,tgs,seval];refine (zRC (s:=s) hna ona hwn own hof oof hw (n:=w) (by omega) (heq w (by omega))).mono ?_;rintro v h2 nx2 ⟨rfl,hnx2,hfr2⟩;have b0:hget h2 nx=some (.cells (encL (x.1,x.2.1)) false):=by rw [hfr2 _ (by omega)]; exact a0
 have b2:∀ b,b<nx→hget h2 b=hget h b:=fun b hb=>by rw [hfr2 b (by omega)]; exact a2 b hb
 clear a0 a1 a2 hfr2;simp only [zE,c_mv,zK5,zO,zX,zB,tgs,zy,List.getElem?_cons_zero,List.getElem?_cons_succ,zBR,Ov_nil,zC,seval];refine Ev.seq (Ev.seq (Ev.regO ?_));simp only [zE,c_mv,c_un,zO,zX,zB,tgs,zJR,Ov_nil,zC,seval];refine Ev.cond false (by simp) (by simp) fun _=>Ev.skip ?_;show Ev P orc s _ _ _ _ _;refine Ev.regO ?_;have c0:(encL (x.1,x.2.1))[0]? = some (.int .i64 x.1):=rfl;have c1:(encL (x.1,x.2.1))[1]? = some (.int .i64 x.2.1):=rfl;have hbld:∀ tm y,cpur P (tset (tset (tset (tset tm 68 (.int .i64 x.1)) 69 y) 70 (.int .i64 x.2.1)) 71 (.int .i64 (w:Int))) (.build [(.int .i64 0),(.int .i64 0),(.int .i64 0)] [(0,1,(.t 68)),(1,1,(.t 70)),(2,1,(.t 71))]) = .ok (.agg ⟨encE x⟩):=fun tm y=>by
  simp [cpur,zAO,zA0,zI,lput,zGk,zDF,zDB,zDn,zED,llen,zGp,encE,hx3]
 have hbsl:∀ tm,calq P (tset tm 72 (.agg ⟨encE x⟩)) (.bsl 1 [(.int .i64 0),(.int .i64 0),(.int .i64 0)] [(0,3,(.t 72))]) = .ok (.slice (.cells (encE x) false) 1 1):=fun tm=>by
  simp [calq,zAO,zA0,zI,encE,llen,zGp,lput,zGk,zDF,zDB,zED,zAU,zf,zA7]
 simp only [zE,zAI,c_mv,zH2,c_ld,zO,zn,zJm,zNA,zE8,show (0:Nat)<2 from by omega,show (1:Nat)<2 from by omega,Nat.zero_mul,Nat.one_mul,Nat.zero_add,zX,zB,tgs,zR,zA b0,zBr,c0,c1,zBS,hbld,seval];simp only [zAw,hbsl,zX,zB,nbV,nbO];have hsl2:SlAt (hset h2 nx2 (.cells (encE x) false)) (tget tm 13) encE 3 acc lo (nx2+1):=by
  rcases hsl with ⟨e1,e2⟩ | ⟨bk,g1,g2,g3,g4⟩
  ·exact .inl ⟨e1,e2⟩
  ·exact .inr ⟨bk,g1,by omega,g3,by simp [show bk≠nx2 by omega]; rw [b2 bk g2]; exact g4⟩
 obtain ⟨v',h4,hap,hsl4,hf4⟩:=zSi (enc:=encE) (k:=3) (fun _=>rfl) (fun _=>rfl) (by omega) hsl2 (by omega) (b2:=nx2) (o2:=0) (cap2:=1) (sp2:=none) (cs:=encE x) (ro:=false) (x:=x) (by simp) (by simp [encE]) (by omega);rw [zCm (v:=v') (h':=h4) (nx':=nx2+1+1) (by
  show orR (zS 3 _ _ (cev _ (.t 66)) (cev _ (.t 73)))=_;simp only [zO,tgs,seval];rw [hap]; rfl)]
 simp only [zE,c_mv,zO,tgs,zX,zB,Ov_nil,seval];refine hK _ _ _ (fun t ht=>?_) (by simp) (by omega) (by simpa using hsl4) (fun b hb=>?_)
 ·simp only [tgs]
  repeat rw [if_neg (by omega)]
 ·rw [hf4 b hb];simp [show b≠nx2 by omega];exact b2 b (by omega)
end
def zDU (fis fof fad fna fs fo kt:Nat):CF:={ res:=[.tmp 4,.tmp 5],body:=(.seq (.regO [mC 4 (.slice none 0 0),mC 5 (.int .i64 0)]) (.seq (.seq (.regO [mV 18 0,eU 19 (.call fis [(.t 18)]),pU 20 (.un .not (.t 19))]) (.cond (.t 20) (.seq (.regO [mC 4 (.slice none 0 0),mC 5 (.int .i64 8)]) .ret) .skip)) (.seq (.regO [aU 21 .mkm,mV 6 21]) (.seq (.seq (.regO [mV 22 1,rU 23 0 (.lens (.t 22)),mC 24 (.int .i64 0)]) (.block 0 (.loop (.seq (.regO [bT 25 .lss 3 24 23]) (.seq (.cond (.t 25) .skip (.exit 0)) (.seq (zLt fof fad kt) (.regO [bC 50 .add 3 24 (.int .i64 1),mV 24 50]))))))) (.seq (.regO [mC 13 (.slice none 0 0)]) (.seq (.seq (.regO [mV 51 6,eU 52 (.rng (.t 51))]) (.block 2 (.loop (.seq (.regO [eU 53 (.nxt (.t 52)),pU 54 (.ext (.t 53) 0)]) (.seq (.cond (.t 54) .skip (.exit 2)) (.block 3 (zLs fna))))))) (.seq (.regO [mV 75 13,eU 76 (.call fs [(.t 75),(.v (.func (.func fo) #[] #[]))])]) (.seq (.regO [mV 77 13,mV 4 77,mC 5 (.int .i64 0)]) .ret)))))))) }
theorem zFT (e:Edg):∀ (l acc:List Edg),zq acc (l++[e])=zAn e (zq acc l)
 | [],acc=>rfl
 | x::l,acc=>zFT e l (zAn x acc)
theorem zLn {e:Edg} (he:zBU e) {l:List Edg} (hl:∀ x∈l,zBU x):∀ x∈zAn e l,zBU x:=by
 intro x hx;rw [zGF] at hx;cases hf:fnd e l with
 | none =>
  rw [hf] at hx;rcases List.mem_append.1 hx with h | h
  ·exact hl x h
  ·simp at h; subst h; exact he
 | some p =>
  rw [hf] at hx;obtain ⟨h1,h2⟩:=zIj hf;have hm:=hl _ (List.mem_of_getElem? h1);rcases List.mem_or_eq_of_mem_set hx with h | h
  ·exact hl x h
  ·subst h;refine ⟨hm.1,hm.2.1,?_⟩;show zBF (bif iblt e.2.2 p.2.2.2 then e.2.2 else p.2.2.2)=true;cases iblt e.2.2 p.2.2.2 with
   | true=>exact he.2.2
   | false=>exact hm.2.2
theorem zCw:∀ {l acc:List Edg},(∀ x∈l,zBU x)→(∀ x∈acc,zBU x)→∀ x∈zq acc l,zBU x
 | [],acc,_,ha=>ha
 | e::l,acc,hl,ha=>zCw (l:=l) (acc:=zAn e acc) (fun x hx=>hl x (List.mem_cons_of_mem _ hx)) (zLn (hl e (List.mem_cons_self ..)) ha)
theorem zSC (e:Edg) (l:List Edg):(zAn e l).length≤l.length+1:=by
 rw [zGF];cases fnd e l with
 | none=>simp
 | some p=>simp
theorem zEk:∀ (l acc:List Edg),(zq acc l).length≤acc.length+l.length
 | [],acc=>by simp [zq]
 | e::l,acc=>by
  have h1:=zEk l (zAn e acc);have h2:=zSC e acc;show (zq (zAn e acc) l).length≤_;rw [List.length_cons];omega
theorem zCs:∀ (i:Nat) (l:List Edg),zEr (zAC i l)∧∀ e∈zAC i l,i≤e.born∧e.born<i+l.length
 | i,[]=>⟨List.Pairwise.nil,fun e h=>by cases h⟩
 | i,x::l=>by
  obtain ⟨h1,h2⟩:=zCs (i+1) l;refine ⟨List.Pairwise.cons (fun e he=>by have:=(h2 e he).1; show i<e.born; omega) h1,fun e he=>?_⟩;rcases List.mem_cons.1 he with rfl | he
  ·exact ⟨Nat.le_refl _,by simp⟩
  ·have:=h2 e he;simp only [List.length_cons]; omega
def zDo (e:MapEntry):Edg:=match e.key,e.val with
 | .agg ⟨[.int _ a,.int _ b]⟩,.agg ⟨[_,.int _ c]⟩=>(a,b,c)
 | _,_=>(0,0,0)
theorem zEC:∀ (i:Nat) (l:List Edg),(∀ x∈l,zBU x)→(zAC i l).map zDo=l∧∀ e∈zAC i l,∃ w:Nat,w<2147483648∧(zDo e).2.2=(w:Int)∧e.key=keyV (zDo e)∧e.val = .agg ⟨zF w⟩
 | i,[],_=>⟨rfl,fun e h=>by cases h⟩
 | i,x::l,h=>by
  obtain ⟨h1,h2⟩:=zEC (i+1) l fun y hy=>h y (List.mem_cons_of_mem _ hy);obtain ⟨w,hw,hwl⟩:=zAa (h x (List.mem_cons_self ..)).2.2;obtain ⟨a,b,c⟩:=x;simp only at hw;subst hw;have he:zDo { key:=keyV (a,b,(w:Int)),val:=.agg ⟨zF ((w:Int)).toNat⟩,born:=i }=(a,b,(w:Int)):=rfl;refine ⟨?_,fun e hm=>?_⟩
  ·show zDo _::(zAC (i+1) l).map zDo=_;rw [h1]; rfl
  ·rcases List.mem_cons.1 hm with rfl | hm
   ·exact ⟨w,hwl,rfl,rfl,rfl⟩
   ·exact h2 e hm
def Cmb1 (h:Hp) (nx r n:Nat) (es:List Edg) (sl:Value) (m:Nat) (tm:Tm) (h':Hp) (nx':Nat):Prop :=
 ∃ i,m=n-i∧i≤n∧tget tm 0 = .int .i64 1∧tget tm 6 = .map (some r)∧tget tm 22=sl∧tget tm 23 = .int .i64 (n:Int)∧tget tm 24 = .int .i64 (i:Int)∧nx≤r∧r<nx' ∧
  hget h' r=some (.map (zAC 0 (zq [] (es.take i))) (zq [] (es.take i)).length)∧∀ b,b<nx→hget h' b=hget h b
def Cmb2 (h:Hp) (it r ck:Nat) (es:List MapEntry) (m:Nat) (tm:Tm) (h':Hp) (nx':Nat):Prop :=
 ∃ seen acc,m=(zAA seen es).length∧it<nx'∧tget tm 0 = .int .i64 1∧tget tm 52 = .pointer (some ⟨it,0,none⟩)∧SlAt h' (tget tm 13) encE 3 acc (it+1) nx'∧(acc++(zAA seen es).map zDo).Perm (es.map zDo) ∧
  hget h' it=some (.iter (some r) ck seen ck)∧∀ b,b<it→hget h' b=hget h b
section
variable {P:Program} {orc:Orc}
structure CombAt (P:Program) (orc:Orc) (f fis fof fad fna fs fo fl fw fwn tr tw kt fls fps fins:Nat) (R1 R2 R3:CC):Prop where
 cf:zD P f=some (zDU fis fof fad fna fs fo kt)
 no:orc f=none
 is:zD P fis=some (cfIs tr)
 nis:orc fis=none
 of:zD P fof=some (cfOf tw)
 nof:orc fof=none
 ad:zD P fad=some (zOp fl tr tw R1 R2 R3)
 nad:orc fad=none
 le:zD P fl=some (zCx fw tw)
 nle:orc fl=none
 na:zD P fna=some (zDi fwn)
 nna:orc fna=none
 wn:zD P fwn=some (zBz fof tw)
 nwn:orc fwn=none
 w:zDY P tw
 c:zEQ P orc fw
 k:zMK P kt
 eq:∀ n:Nat,n<4294967296→bin P .neq tw (.agg ⟨zF n⟩) (.agg ⟨zF n⟩) = .ok (.bool false)
 S:SortAt P orc fs fls fps fins 3 fo encE cmpE
theorem zOi {f fis fof fad fna fs fo fl fw fwn tr tw kt fls fps fins:Nat} {R1 R2 R3:CC} (A:CombAt P orc f fis fof fad fna fs fo fl fw fwn tr tw kt fls fps fins R1 R2 R3)
  {h:Hp} {nx bs os n cap:Nat} {sp:Option Nat} {cs:List Value} {ro:Bool} {es:List Edg} (hbs:hget h bs=some (.cells cs ro)) (hbn:bs<nx) (hn:es.length=n) (hn1:n≤12) (hsm:∀ x∈es,zBU x)
  (hld:∀ i x,es[i]? = some x→zA2 (some 3) (os+i*3) cs = .ok (.agg ⟨encE x⟩)) (hne:zq [] es≠[]) :
  Cv P orc false f [.int .i64 1,.slice (some ⟨bs,os,sp⟩) n cap] h nx (fun v h' _=>∃ bk l,v = .tuple ⟨[.slice (some ⟨bk,0,some 3⟩) l.length l.length,.int .i64 0]⟩∧nx≤bk∧hget h' bk=some (.cells (flat encE l) false)∧l.Perm (zq [] es)∧l.Pairwise (fun x y=>¬ cmpE y x<0) ∧
   ∀ b,b<nx→hget h' b=hget h b):=by
 refine Cv.enter A.no A.cf ?_;unfold zDU aU bC bT eU mC mV pU rU;refine Ev.seq (Ev.regO ?_);simp only [zE,c_mv,zn,zX,zB,Ov_nil,zC];refine Ev.seq (Ev.seq (Ev.regO ?_));simp only [zE,c_mv,zO,zCK,zDt,tgs,zX,zB,seval];refine ze ?_;simp only [zJ,zP,zO,tgs,seval];refine (is_cv A.is A.nis).mono ?_;rintro v h' nx' ⟨rfl,rfl,rfl⟩;simp only [zE,c_un,zO,zB,tgs,↓reduceIte,zJR,zX,Ov_nil,zC];refine Ev.cond false (by simp) (by simp) fun _=>Ev.skip ?_;show Ev P orc false _ _ _ _ _;refine Ev.seq (Ev.regO ?_);simp only [zAw,calq,zX,nbV,nbO,zB,zE,c_mv,zO,tgs,↓reduceIte,Ov_nil,zC];refine Ev.seq (Ev.seq (Ev.regO ?_));simp only [zE,zAI,c_mv,zS3,zCg,zO,zn,zB,tgs,zX,Ov_nil,zC,seval];refine Ev.block (Ev.loop (fun m tm h1 nx1=>Cmb1 h' nx' nx' n es (.slice (some ⟨bs,os,sp⟩) n cap) m tm h1 nx1) ?_ n _ _ _ ⟨0,rfl,by omega,by simp,by simp,by simp,by simp,by simp,Nat.le_refl _,by omega,by simp [zq,zAC],fun b hb=>by simp [show b≠nx' by omega]⟩);rintro m tm h1 nx1 ⟨i,rfl,hin,t0,t6,t22,t23,t24,hrn,hr1,hm,hfr⟩;have hsmt:∀ x∈zq [] (es.take i),zBU x:=zCw (fun x hx=>hsm x (List.mem_of_mem_take hx)) (fun x hx=>by cases hx);refine Ev.seq (Ev.regO ?_);simp only [zE,zCG,zO,t24,t23,zFZ,zX,zB,Ov_nil,zC];refine Ev.seq (Ev.cond (decide ((i:Int)<(n:Int))) (by simp) (fun hlt=>Ev.skip ?_) fun hge=>Ev.exit ?_)
 ·simp only [decide_eq_true_eq,Int.ofNat_lt] at hlt;show Ev P orc false _ _ _ _ _;obtain ⟨e,he⟩:∃ e,es[i]? = some e:=⟨_,List.getElem?_eq_getElem (by omega)⟩
  have hsme:=hsm e (List.mem_of_getElem? he);refine Ev.seq (zHx (s:=false) A.of A.nof A.ad A.nad A.le A.nle A.w A.c A.k (r:=nx') (bs:=bs) (os:=os) (n:=n) (cap:=cap) (sp:=sp) (i:=i) (cs:=cs) (ro:=ro) (acc:=zq [] (es.take i)) (e:=e) hsme hsmt hr1 hm (by rw [hfr _ hbn]; exact hbs) (by omega) hlt (hld i e he) (by simp [t0]) (by simp [t6]) (by simp [t22]) (by simp [t24]) ?_);intro tm2 h2 nx2 hlow hnx2 hm2 hfr2;have u0:=hlow 0 (by omega);have u6:=hlow 6 (by omega);have u22:=hlow 22 (by omega);have u23:=hlow 23 (by omega);have u24:=hlow 24 (by omega);simp only [tgs,t0,t6,t22,t23,t24,seval] at u0 u6 u22 u23 u24;simp only [zC];refine Ev.regO ?_;simp only [zE,c_mv,zCG,zO,zn,u24,zEO,tgs,zX,zB,Ov_nil,zC,seval];have htake:zq [] (es.take (i+1))=zAn e (zq [] (es.take i)):=by
   rw [← zFT,List.take_add_one,he]; rfl
  refine ⟨n-(i+1),by omega,i+1,rfl,by omega,by simp [u0],by simp [u6],by simp [u22],by simp [u23],by simp; exact zPD (i+1) (by omega),hrn,by omega,by rw [htake]; exact hm2,fun b hb=>by rw [hfr2 b (by omega) (by omega)]; exact hfr b hb⟩
 ·simp only [decide_eq_false_iff_not,Int.ofNat_lt] at hge;have hi:i=n:=by omega
  subst hi;rw [List.take_of_length_le (by omega)] at hm hsmt;generalize hcomb:zq [] es=L at *
  have hLl:L.length≤12:=by rw [← hcomb]; have:=zEk es []; simp at this; omega
  simp only [zAc,zAv,↓reduceIte,zC];refine Ev.seq (Ev.regO ?_);simp only [zE,c_mv,zn,zX,zB,Ov_nil,zC];refine Ev.seq (Ev.seq (Ev.regO ?_));simp only [zE,c_mv,zO,tgs,t6,zX,zB,seval];have hrng:∀ tm,ceff P (tset tm 51 (.map (some nx'))) h1 nx1 (.rng (.t 51)) = .val (.pointer (some ⟨nx1,0,none⟩)) (hset h1 nx1 (.iter (some nx') L.length [] L.length)) (nx1+1):=fun tm=>by
   show zB6 h1 nx1 (tget (tset tm 51 (.map (some nx'))) 51)=_;simp [zB6,hm,zEB]
  rw [zCm (hrng _)];simp only [zB,Ov_nil,zC];obtain ⟨hris,hborn⟩:=zCs 0 L;obtain ⟨hmap,hent⟩:=zEC 0 L hsmt;have hck:∀ e∈zAC 0 L,e.born<L.length:=fun e he=>by have:=(hborn e he).2; omega
  refine Ev.block (Ev.loop (fun m tm h2 nx2=>Cmb2 h1 nx1 nx' L.length (zAC 0 L) m tm h2 nx2) ?_ (zAC 0 L).length _ _ _ ⟨[],[],by rw [zi],by omega,by simp [t0],by simp,.inl ⟨rfl,by simp⟩,by rw [zi]; exact List.Perm.refl _,by simp,fun b hb=>by simp [show b≠nx1 by omega]⟩);rintro m tm2 h2 nx2 ⟨seen,acc,rfl,hnx2,u0,u52,hsl,hperm,hit,hfr2⟩;have hm2:hget h2 nx'=some (.map (zAC 0 L) L.length):=by rw [hfr2 _ hr1]; exact hm
  have hal:acc.length≤12:=by
   have:=hperm.length_eq;rw [List.length_append,hmap] at this;omega
  refine Ev.seq (Ev.regO (zIK rfl (by simpa using u52) hit hm2 (zDO hck) (fun hend=>?_) fun e he=>⟨hck e (zAN he).1,?_⟩))
  ·simp only [zE,zK5,zO,zB,tgs,↓reduceIte,zy,List.getElem?_cons_zero,zBR,zX,Ov_nil,zC];refine Ev.seq (Ev.cond false (by simp) (by simp) fun _=>Ev.exit ?_);simp only [zAc,zAv,↓reduceIte,zC];rw [hend,hmap] at hperm;simp only [List.map_nil,List.append_nil] at hperm;have hane:acc≠[]:=fun e=>by rw [e] at hperm; exact hne (List.nil_perm.1 hperm)
   rcases hsl with ⟨e,_⟩ | ⟨bk,hb1,hb2,t13,hbk⟩
   ·exact absurd e hane
   refine Ev.seq (Ev.regO ?_);simp only [zE,c_mv,zO,tgs,t13,zX,zB,seval];refine ze ?_;simp only [zJ,zP,zO,zn,tgs,seval];refine (zPc (s:=false) A.S (l:=acc) rfl hal hb2 hbk).mono ?_;rintro v h3 nx3 ⟨hnx3,⟨l',hp',hs',hb'⟩,hf3⟩;simp only [Ov_nil,zC];refine Ev.seq (Ev.regO ?_);simp only [zE,Ov_nil,zB,c_mv,zO,zn,tgs,t13,zX,zC,seval];refine Ev.ret ?_;simp only [zCq,zBn,zAt,bind_ok,zX,zD7,tgs,seval];refine ⟨bk,l',by rw [hp'.length_eq],by omega,hb',hp'.trans hperm,hs',fun b2 hb2'=>?_⟩;rw [hf3 b2 (by omega) (by omega),hfr2 b2 (by omega)];exact hfr b2 hb2'
  ·obtain ⟨hmem,hnot⟩:=zAN he;obtain ⟨w,hwl,hx3,hkey,hval⟩:=hent e hmem;have hpe:=zAy hris he;have hplen:=hpe.length_eq;simp only [List.length_cons] at hplen;have hpp:=hpe.map zDo;simp only [zE,zK5,zO,zB,tgs,↓reduceIte,zy,List.getElem?_cons_zero,zBR,zX,Ov_nil,zC];refine Ev.seq (Ev.cond true (by simp) (fun _=>Ev.skip ?_) (by simp));show Ev P orc false _ _ _ _ _;have hoe:zCd (hset h2 nx1 (.iter (some nx') L.length (seen++[e.born]) L.length)) (.pointer (some ⟨nx1,0,none⟩)) = .ok (.tuple ⟨[keyV (zDo e),.agg ⟨zF w⟩]⟩):=by
    rw [zDN (r:=nx') (since:=L.length) (ck:=L.length) (seen:=seen) (es:=zAC 0 L) (e:=e) (by simp) (by simp [show nx'≠nx1 by omega]; exact hm2) hris hmem,hkey,hval]
   have hsl2:SlAt (hset h2 nx1 (.iter (some nx') L.length (seen++[e.born]) L.length)) (tget tm2 13) encE 3 acc (nx1+1) nx2:=by
    rcases hsl with ⟨e1,e2⟩ | ⟨bk,g1,g2,g3,g4⟩
    ·exact .inl ⟨e1,e2⟩
    ·exact .inr ⟨bk,g1,g2,g3,by simp [show bk≠nx1 by omega]; exact g4⟩
   refine Ev.block (zHw (s:=false) A.na A.nna A.wn A.nwn A.of A.nof A.w A.eq hx3 hwl (it:=nx1) (lo:=nx1+1) (by simp [u52]) hoe (by simpa using hsl2) (by omega) (by omega) ?_);intro tm3 h3 nx3 hlow t52 hnx3 hsl3 hf3;simp only [zAX,zC];have v0:=hlow 0 (by omega);simp only [tgs,u0,u52,seval] at v0 t52;refine ⟨_,?_,seen++[e.born],acc++[zDo e],rfl,by omega,v0,t52,hsl3,?_,by rw [hf3 _ (by omega)]; simp,fun b hb=>by rw [hf3 b (by omega)]; simp [show b≠nx1 by omega]; exact hfr2 b hb⟩
   ·omega
   ·refine List.Perm.trans ?_ hperm;rw [List.append_assoc];exact List.Perm.append_left acc (List.Perm.symm hpp)
end
theorem zKp {n:Int} (h:zGS n=true):zBF n=true:=by
 cases n with
 | ofNat m =>
  have h1:Nat.blt m 1000000=true:=h;have h2:m<1000000:=by rw [zA8] at h1; exact of_decide_eq_true h1
  show Nat.blt m 2147483648=true;rw [zA8];exact decide_eq_true (by omega)
 | negSucc m=>exact h
theorem zOe:∀ (N:Nat) {l:List Value} {es:List Edg},l.length≤N→zIt l=some es→l=flat encE es∧∀ x∈es,zBU x:=by
 intro N
 induction N with
 | zero =>
  intro l es hl h;cases l with
  | nil=>cases h; exact ⟨rfl,fun x hx=>by cases hx⟩
  | cons x l=>simp at hl
 | succ N ih =>
  intro l es hl h;unfold zIt at h
  split at h
  ·cases h; exact ⟨rfl,fun x hx=>by cases hx⟩
  ·rename_i a b c l
   split at h
   ·rename_i r hr
    obtain ⟨h1,h2⟩:=ih (by simp at hl; omega) hr;cases hs:(zGS a&&(zGS b&&zGS c)) with
    | false=>rw [hs] at h; cases h
    | true =>
     rw [hs] at h;cases h;simp only [Bool.and_eq_true] at hs;refine ⟨by rw [h1]; rfl,fun x hx=>?_⟩;rcases List.mem_cons.1 hx with rfl | hx
     ·exact ⟨zKp hs.1,zKp hs.2.1,zKp hs.2.2⟩
     ·exact h2 x hx
   ·cases h
  ·cases h
section
variable {P:Program}
theorem zG6 (n k:Nat) (m:Int) (ρ ρ':Rho) (nx b:Nat) (p:Place) (c:Value) (hp:ρ' b=some p) (hq:ρ nx=some p) (h:VR ρ' (.tuple ⟨[.slice (some ⟨b,0,some k⟩) n n,.int .i64 m]⟩) c):VR ρ (.tuple ⟨[.slice (some ⟨nx,0,some k⟩) n n,.int .i64 m]⟩) c:=by
 cases h with
 | tuple hl =>
  cases hl with
  | cons h1 h2 =>
   cases h2 with
   | cons h3 h4 =>
    cases h4 with
    | nil =>
     refine .tuple (.cons (zF6 n k ρ ρ' nx b p _ hp hq h1) (.cons ?_ .nil));cases h3 with
     | int=>exact .int _ _
theorem zL6 (hP:POk P) {f fis fof fad fna fs fo fl fw fwn tr tw kt fls fps fins:Nat} {R1 R2 R3:CC} (A:CombAt P orc0 f fis fof fad fna fs fo fl fw fwn tr tw kt fls fps fins R1 R2 R3):zF2 P f zGA:=by
 intro args h nx K hs;unfold zGA at hs
 split at hs <;> first | exact hs.elim | skip
 rename_i a n cap
 split at hs <;> first | exact hs.elim | skip
 rename_i cs ro hc
 split at hs <;> first | exact hs.elim | skip
 rename_i l hcut
 split at hs <;> first | exact hs.elim | skip
 rename_i es hes
 cases hle:Nat.ble es.length 12 with
 | false=>rw [hle] at hs; exact hs.elim
 | true =>
  rw [hle] at hs;simp only [cond_true] at hs;have h12:=Nat.le_of_ble_eq_true hle;obtain ⟨hl,hsm⟩:=zOe _ (Nat.le_refl _) hes;obtain ⟨b,o,sp⟩:=a;rw [zAz,zAe] at hcut;simp only at hcut hc
  split at hcut
  ·rename_i hlen
   injection hcut with hcut
   have hll:es.length=n:=by
    have e1:l.length=n*3:=by rw [← hcut,List.length_take]; omega
    rw [hl,zAF (k:=3) (fun _=>rfl)] at e1;omega
   unfold zSD at hs
   split at hs
   ·exact hs.elim
   ·rename_i l2 hne
    cases hso:zAp ltE (zAq ltE (zq [] es)) with
    | false=>rw [hso] at hs; exact hs.elim
    | true =>
     rw [hso] at hs;have hs:K (.tuple ⟨[.slice (some ⟨nx,0,some 3⟩) (zAq ltE (zq [] es)).length (zAq ltE (zq [] es)).length,.int .i64 0]⟩) (hset h nx (.cells (flat encE (zAq ltE (zq [] es))) false)) (nx+1):=hs;have hperm:=zBO (lt:=ltE) (zq [] es);have hsrt:(zAq ltE (zq [] es)).Pairwise (fun x y=>¬ cmpE y x<0):=(zD2 hso).imp fun h=>ltE_eq.1 h;have hcne:zq [] es≠[]:=fun e=>by
      exact hne (by rw [e]; rfl)
     have hld:∀ i x,es[i]? = some x→zA2 (some 3) (o+i*3) cs = .ok (.agg ⟨encE x⟩):=fun i x hx=>by
      have hi:i<es.length:=by
       rcases Nat.lt_or_ge i es.length with h | h
       ·exact h
       ·rw [List.getElem?_eq_none h] at hx; cases hx
      have hg:=zCv (enc:=encE) (k:=3) (fun _=>rfl) hx;rw [← hl,← hcut] at hg;rw [List.length_drop] at hlen;rw [zBh,if_pos (by omega)];rw [List.drop_take,List.take_take,List.drop_drop,Nat.min_eq_left (by omega)] at hg;rw [hg]
     generalize hL:zAq ltE (zq [] es)=L at *
     refine zGb hP zDx (val:=fun b=>.tuple ⟨[.slice (some ⟨b,0,some 3⟩) L.length L.length,.int .i64 0]⟩) (cs:=flat encE L) (zD8 (fun _=>rfl) L) (zBC hP A.cf) (fun ρ ρ' b p c hp hq hv=>zG6 _ _ _ ρ ρ' nx b p c hp hq hv) (fun hfr=>?_) hs;have hbn:b<nx:=by
      rcases Nat.lt_or_ge b nx with h | h
      ·exact h
      ·rw [hfr b h] at hc; cases hc
     refine (zOi A hc hbn hll (hll ▸ h12) hsm hld hcne).mono ?_;rintro v h' nx' ⟨bk,l',rfl,hbk,hcs,hp',hs',hold⟩;have:l'=L:=zEW (R:=fun x y=>¬ cmpE y x<0) (fun x y=>zKW x y) (hp'.trans hperm.symm) hs' hsrt;subst this;refine ⟨bk,rfl,hbk,hcs,fun b2 o2 ho2=>?_⟩;rw [hold b2 ?_]
     ·exact ho2
     ·rcases Nat.lt_or_ge b2 nx with h | h
      ·exact h
      ·rw [hfr b2 h] at ho2; cases ho2
  ·cases hcut
end
def zR9:List Value→Hp→Nat→CR:=fun args h nx=>match args with
 | []=>.ok (.bool true) h nx
 | _=>.no "live"
section
variable {P:Program} {orc:Orc}
theorem Mv.still {B:Nat} {ρ:Rho} {H:AH} {w w':World} {nx:Nat} (hr:Rel B ρ H w) (hsz:w.heap.size≤w'.heap.size) (hos:w'.os=w.os) (htp:w'.tape=w.tape) (hout:w'.output=w.output)
  (hfr:∀ k,k<w.heap.size→w'.heap[k]? = w.heap[k]?):Mv B ρ H w nx nx ρ H w' where
 rel:=hr.world hsz fun b p hb hs=>by
  obtain ⟨o,ho⟩:=Option.isSome_iff_exists.1 hs;exact hfr _ (hr.obj b p o hb ho).blk_lt
 agree:=fun _ _=>rfl
 size:=hsz
 os:=hos
 tape:=htp
 output:=hout
 frame:=fun k hk _=>hfr k hk
 own:=fun k h=>.inl h
 le:=Nat.le_refl _
theorem live_ok (hP:POk P) (horc:zHT P orc) {N:Nat} {f:FuncId} (hw:wTrue P orc N f):zF2 P f zR9:=by
 intro args h nx K hs;cases args with
 | cons _ _=>exact hs.elim
 | nil =>
  have hs:K (.bool true) h nx:=hs;obtain ⟨h',nx',he⟩:=wTrue_ok hw;have hsat:crSat (zC7 P orc (exA P orc N) f [] hp0 0) (fun v _ _=>v = .bool true):=by rw [he]; rfl
  obtain ⟨hcal,hgo⟩:=zGJ hP horc N f [] hp0 0 _ hsat
  refine ⟨hcal,fun B ρ w args' hr hf ha n=>?_⟩;have hr0:Rel w.heap.size (fun _=>none) (hget hp0) w:=⟨Nat.le_refl _,fun b p o hb _=>(by cases hb),fun b b' p p' hb _ _ _ _ _=>(by cases hb),fun b hs=>by rw [zNS] at hs; cases hs⟩
  cases ha;refine (hgo w.heap.size (fun _=>none) w [] hr0 (fun _ _=>rfl) .nil n).mono fun e w' he=>?_;obtain ⟨v',h2,nx2,ρ',c,rfl,rfl,hvr,hm⟩:=he;cases hvr;exact ⟨.bool true,h,nx,ρ,.bool true,rfl,hs,.bool true,Mv.still hr hm.size hm.os hm.tape hm.output fun k hk=>hm.frame k hk (by rintro ⟨b,p,hb,_⟩; cases hb)⟩
theorem live_eq {f m:Nat} (hP:POk P) (horc:zHT P orc) (h:wTrue P orc m f=True):zF2 P f zR9:=live_ok hP horc (of_eq_true h)
end
section
variable {α:Type}
def Keep (nx:Nat) (h h':Hp):Prop:=∀ b,b<nx→hget h' b=hget h b
theorem Keep.refl (nx:Nat) (h:Hp):Keep nx h h:=fun _ _=>rfl
theorem Keep.trans {nx nx':Nat} {h h' h2:Hp} (a:Keep nx h h') (b:Keep nx' h' h2) (hle:nx≤nx'):Keep nx h h2:=fun k hk=>(b k (Nat.lt_of_lt_of_le hk hle)).trans (a k hk)
theorem Keep.set {nx b:Nat} {h h':Hp} {o:AObj} (a:Keep nx h h') (hb:nx≤b):Keep nx h (hset h' b o):=fun k hk=>by
 rw [hgs,if_neg (by omega)]; exact a k hk
theorem Keep.mono {nx nx':Nat} {h h':Hp} (a:Keep nx' h h') (hle:nx≤nx'):Keep nx h h':=fun k hk=>a k (Nat.lt_of_lt_of_le hk hle)
def SlRd (h:Hp) (nx:Nat) (v:Value) (enc:α→List Value) (l:List α):Prop :=
 ∃ a cap,v = .slice a l.length cap∧(l≠[]→∃ b sp ro,b<nx∧a=some ⟨b,0,sp⟩∧hget h b=some (.cells (flat enc l) ro))
theorem SlRd.keep {h h':Hp} {nx nx':Nat} {v:Value} {enc:α→List Value} {l:List α} (hs:SlRd h nx v enc l) (hk:Keep nx h h') (hle:nx≤nx'):SlRd h' nx' v enc l:=by
 obtain ⟨a,cap,hv,hc⟩:=hs;refine ⟨a,cap,hv,fun hl=>?_⟩;obtain ⟨b,sp,ro,hb,ha,hg⟩:=hc hl;exact ⟨b,sp,ro,by omega,ha,by rw [hk b hb]; exact hg⟩
theorem SlAt.rd {h:Hp} {lo hi k:Nat} {v:Value} {enc:α→List Value} {l:List α} (hs:SlAt h v enc k l lo hi):SlRd h hi v enc l:=by
 rcases hs with ⟨rfl,rfl⟩ | ⟨b,h1,h2,rfl,hg⟩
 ·exact ⟨none,0,rfl,fun h=>absurd rfl h⟩
 ·exact ⟨_,_,rfl,fun _=>⟨b,some k,false,h2,rfl,hg⟩⟩
theorem SlRd.at {h:Hp} {nx:Nat} {v:Value} {enc:α→List Value} {l:List α} (hs:SlRd h nx v enc l) {i:Nat} {x:α} (hx:l[i]? = some x) :
  i<l.length∧∃ b sp ro cap,b<nx∧v = .slice (some ⟨b,0,sp⟩) l.length cap∧hget h b=some (.cells (flat enc l) ro):=by
 have hi:i<l.length:=by
  rcases Nat.lt_or_ge i l.length with h | h
  ·exact h
  ·rw [List.getElem?_eq_none h] at hx; cases hx
 obtain ⟨a,cap,hv,hc⟩:=hs;obtain ⟨b,sp,ro,hb,rfl,hg⟩:=hc (fun e=>by rw [e] at hi; exact absurd hi (Nat.not_lt_zero _));exact ⟨hi,b,sp,ro,cap,hb,hv,hg⟩
theorem zGy {enc:α→List Value} {k:Nat} (hk:∀ x,(enc x).length=k) {l:List α} {i j:Nat} {x:α} (hx:l[i]? = some x) (hj:j<k):(flat enc l)[i*k+j]? = (enc x)[j]?:=by
 have hg:=zCv hk hx;have:((flat enc l).drop (i*k))[j]? = (enc x)[j]?:=by
  rw [← hg,List.getElem?_take,if_pos hj]
 rw [List.getElem?_drop] at this;exact this
end
section
variable {H:Type} {enc:TypeId × Value→H} {P:Program} {w:World} {base:Nat} {sp:Nat→Bool} {held:Bool}
structure Tri (P:Program) (t:TypeId):Prop where
 ex:∃ fs f0 f1 f2,P.underlying t=some (.struct fs)∧fs[0]? = some f0∧fs[1]? = some f1∧fs[2]? = some f2∧f0.offset=0∧f1.offset=1∧f2.offset=2 ∧
  P.underlying f0.type=some (.int .i64)∧P.underlying f1.type=some (.int .i64)∧P.underlying f2.type=some (.int .i64)∧P.cellsOf f0.type=1∧P.cellsOf f1.type=1∧P.cellsOf f2.type=1
 size:P.cellsOf t=3
abbrev Edg3:=Int × Int × Int
def enc3 (x:Edg3):List Value:=[.int .i64 x.1,.int .i64 x.2.1,.int .i64 x.2.2]
def Wf64 (n:Int):Prop:=(Lit.int .i64 n).wf=true
theorem trod_tri {t:TypeId} {fuel:Nat} {cs:List Value} {x:DataW H × List MemPlace} (T:Tri P t) (h:DataW.trod enc P w base sp held fuel t cs=some x):∃ e:Edg3,cs=enc3 e∧Wf64 e.1∧Wf64 e.2.1∧Wf64 e.2.2:=by
 obtain ⟨fs,f0,f1,f2,ht,h0,h1,h2,o0,o1,o2,u0,u1,u2,c0,c1,c2⟩:=T.ex;obtain ⟨xs,n,rfl,_,hlen,hxl,hall⟩:=DataW.trod_struct ht h;rw [T.size] at hlen;have one:∀ (i:Nat) (f:Field),fs[i]? = some f→f.offset=i→P.underlying f.type=some (.int .i64)→P.cellsOf f.type=1→∃ n:Int,(cs.drop i).take 1=[.int .i64 n]∧Wf64 n:=fun i f hf ho hu hc=>by
  have he:=hall i f hf;have hi:i<xs.length:=by rw [hxl]; exact (Array.getElem?_eq_some_iff.1 hf).1
  rw [ho,hc,List.getElem?_eq_getElem hi] at he;obtain ⟨n,h1,_,h2⟩:=DataW.trod_int hu he;exact ⟨n,h1,h2⟩
 obtain ⟨a,ha,wa⟩:=one 0 f0 h0 o0 u0 c0;obtain ⟨b,hb,wb⟩:=one 1 f1 h1 o1 u1 c1;obtain ⟨c,hc,wc⟩:=one 2 f2 h2 o2 u2 c2
 match cs,hlen with
 | [x,y,z],_ =>
  simp at ha hb hc;exact ⟨(a,b,c),by simp [enc3,ha,hb,hc],wa,wb,wc⟩
theorem zSU {a:Addr} {n:Nat} {cs:List Value} (h:w.cells? base a n=some cs):cs.length=n∧∀ i v,cs[i]? = some v→w.cell? (a.add i)=some v:=by
 unfold World.cells? at h
 split at h
 ·have hl:cs.length=n:=by simpa using mapM_some_length h
  refine ⟨hl,fun i v hv=>?_⟩;have hi:i<n:=by
   rcases Nat.lt_or_ge i cs.length with h1 | h1
   ·omega
   ·rw [List.getElem?_eq_none h1] at hv; cases hv
  have:=mapM_some_get h i i (by simp [hi]);rw [this,hv]
 ·cases h
theorem add_add (a:Addr) (i j:Nat):(a.add i).add j=a.add (i+j):=by
 unfold Addr.add
 by_cases h1:i=0
 ·subst h1; simp
 ·by_cases h2:j=0
  ·subst h2; simp
  ·simp [h1,h2,Nat.add_assoc]
theorem zQi {α:Type} {e3:α→List Value} {k:Nat} {t e:TypeId} {fuel:Nat} {cs:List Value} {x:DataW H × List MemPlace} (ht:P.underlying t=some (.slice e)) (hc:P.cellsOf e=k) (R:α→Prop)
  (hone:∀ (n:Nat) (c:List Value) y,DataW.trod enc P w base sp held n e c=some y→∃ z:α,c=e3 z∧R z)
  (h:DataW.trod enc P w base sp held fuel t cs=some x) :
  cs=[.slice none 0 0]∨∃ (a:Addr) (zs:List α) (cap:Nat),cs=[.slice (some a) zs.length cap]∧zs.length≤cap∧cap≤maxLen∧(∀ z∈zs,R z)∧∀ i v,(flat e3 zs)[i]? = some v→w.cell? (a.add i)=some v:=by
 rcases DataW.trod_slice ht h with ⟨hcs,_⟩ | ⟨a,len,cap,elems,rest,n,rfl,hcs,_,hb,hl,hm,hlen,hel,_⟩
 ·exact .inl hcs
 ·have key:∀ m,m≤len→∃ zs:List α,zs.length=m∧(∀ z∈zs,R z)∧(flat e3 zs).length=m*k∧∀ i v,(flat e3 zs)[i]? = some v→w.cell? (a.add i)=some v:=by
   intro m
   induction m with
   | zero=>intro _; exact ⟨[],rfl,by simp,by simp [flat],fun i v hv=>by simp [flat] at hv⟩
   | succ m ih =>
    intro hm';obtain ⟨zs,h1,h2,h3,h4⟩:=ih (by omega);have hE:=hel m (by omega);rw [hc,List.getElem?_eq_getElem (by omega:m<elems.length)] at hE;simp only [Option.bind_eq_some_iff] at hE;obtain ⟨c,hcc,htr⟩:=hE;obtain ⟨z,rfl,hz⟩:=hone _ _ _ htr;obtain ⟨hcl,hcg⟩:=zSU hcc;refine ⟨zs++[z],by simp [h1],fun y hy=>?_,by rw [zDf,List.length_append,h3,hcl,Nat.succ_mul],fun i v hv=>?_⟩
    ·rcases List.mem_append.1 hy with hy | hy
     ·exact h2 y hy
     ·rw [List.mem_singleton.1 hy]; exact hz
    ·rw [zDf,List.getElem?_append] at hv
     split at hv
     ·exact h4 i v hv
     ·rename_i hge
      have:=hcg _ v hv;rw [add_add,h3] at this;rw [h3] at hge;rw [show m*k+(i-m*k)=i by omega] at this;exact this
  obtain ⟨zs,h1,h2,_,h4⟩:=key len (Nat.le_refl _);exact .inr ⟨a,zs,cap,by rw [h1]; exact hcs,by omega,hm,h2,h4⟩
end
def rhoL (ps:List (Place × List Value)):Rho:=fun b=>(ps[b]?).map (·.1)
def hpL:Nat→List (Place × List Value)→Hp→Hp
 | _,[],h=>h
 | i,p::ps,h=>hpL (i+1) ps (hset h i (.cells p.2 true))
theorem zIi:∀ (ps:List (Place × List Value)) (i:Nat) (h:Hp) (b:Nat),hget (hpL i ps h) b=if b<i then hget h b else match ps[b-i]? with
  | some p=>some (.cells p.2 true)
  | none=>hget h b
 | [],i,h,b=>by by_cases hb:b<i <;> simp [hpL,hb]
 | p::ps,i,h,b=>by
  show hget (hpL (i+1) ps (hset h i (.cells p.2 true))) b=_;rw [zIi ps (i+1) _ b,hgs]
  by_cases h1:b<i
  ·rw [if_pos (by omega),if_neg (by omega),if_pos h1]
  ·by_cases h2:b=i
   ·subst h2;simp
   ·rw [if_neg (by omega),if_neg h1,if_neg h2];obtain ⟨j,hj⟩:∃ j,b-i=j+1:=⟨b-i-1,by omega⟩
    rw [hj,show b-(i+1)=j by omega];rfl
theorem zNR {ps:List (Place × List Value)} {b:Nat} {o:AObj} (h:hget (hpL 0 ps hp0) b=some o):∃ p,ps[b]? = some p∧o = .cells p.2 true:=by
 rw [zIi,if_neg (Nat.not_lt_zero _),Nat.sub_zero,zNS] at h;cases hp:ps[b]? with
 | none=>rw [hp] at h; cases h
 | some p=>rw [hp] at h; cases h; exact ⟨p,rfl,rfl⟩
theorem hpL_at {ps:List (Place × List Value)} {b:Nat} {p:Place × List Value} (h:ps[b]? = some p):hget (hpL 0 ps hp0) b=some (.cells p.2 true):=by
 rw [zIi,if_neg (Nat.not_lt_zero _),Nat.sub_zero,h]
def InW (w:World) (ps:List (Place × List Value)):Prop:=∀ p∈ps,∃ c e fr,w.heap[p.1.blk]? = some (.cells c e fr)∧CellsR (rhoL ps) p.2 c p.1.off
theorem zR5 {w:World} {b:Nat} {x:Obj} (h:w.heap[b]? = some x):b<w.heap.size:=(Array.getElem?_eq_some_iff.1 h).1
theorem in_rel {w:World} {ps:List (Place × List Value)} (hin:InW w ps):Rel w.heap.size (rhoL ps) (hget (hpL 0 ps hp0)) w where
 base:=Nat.le_refl _
 obj:=fun b p o hb ho=>by
  obtain ⟨q,hq,rfl⟩:=zNR ho;unfold rhoL at hb;rw [hq] at hb; cases hb;obtain ⟨c,e,fr,hw,hc⟩:=hin q (List.mem_of_getElem? hq);exact ⟨zR5 hw,c,e,fr,hw,hc⟩
 inj:=fun b b' p p' hb hb' hs _ hB _=>by
  exfalso;unfold rhoL at hb;cases hq:ps[b]? with
  | none=>rw [hq] at hb; cases hb
  | some q =>
   rw [hq] at hb;have hb:q.1=p:=by simpa using hb
   subst hb;obtain ⟨c,e,fr,hw,_⟩:=hin q (List.mem_of_getElem? hq);have:=zR5 hw;omega
 dom:=fun b hs=>by
  obtain ⟨o,ho⟩:=Option.isSome_iff_exists.1 hs;obtain ⟨q,hq,_⟩:=zNR ho;unfold rhoL;rw [hq]; rfl
theorem in_fr (ps:List (Place × List Value)):Fr (rhoL ps) ps.length:=fun b hb=>by
 unfold rhoL;rw [List.getElem?_eq_none hb]; rfl
theorem below_of {B nx nx':Nat} {ρ ρ':Rho} {H H':AH} {w w':World} (hB:B=w.heap.size) (hm:Mv B ρ H w nx nx' ρ' H' w'):RowKit.Below w.heap.size w w' :=
 ⟨hm.os,hm.tape,hm.output,hm.size,fun k hk=>hm.frame k hk (by rintro ⟨b,p,_,_,_,h⟩; omega)⟩
section
variable {P:Program} {orc:Orc}
theorem run_ok (hP:POk P) (horc:zHT P orc) {f:FuncId} {args:List Value} {h:Hp} {nx:Nat} (hc:Cv P orc false f args h nx (fun v _ _=>v = .bool true))
  {ρ:Rho} {w:World} {args':List Value} (hr:Rel w.heap.size ρ (hget h) w) (hf:Fr ρ nx) (ha:VRL ρ args args') (n:Nat) :
  CallsIn Fence.wide n P f ⟨args'⟩ w (fun e w'=>e = .returned (.bool true)∧RowKit.Below w.heap.size w w'):=by
 obtain ⟨N,hN⟩:=hc;have hs:=(zEo (P:=P) (orc:=orc) N f args h nx).sat hN.1;obtain ⟨_,h2⟩:=zGJ hP horc N f args h nx _ hs;refine (h2 w.heap.size ρ w args' hr hf ha n).mono fun e w' he=>?_;obtain ⟨v',h',nx',ρ',c,rfl,rfl,hvc,hm⟩:=he;cases hvc;exact ⟨rfl,below_of rfl hm⟩
end
section
variable {H:Type} {enc:TypeId × Value→H} {P:Program} {w:World} {sp:Nat→Bool} {held:Bool} {α:Type}
def zDE (w:World) (b off:Nat) (l:List Value):Prop:=∃ c e fr,w.heap[b]? = some (.cells c e fr)∧∀ i x,l[i]? = some x→c[off+i]? = some x
theorem zKq {w:World} {b:Nat} {x:TypeId × Nat} (h:w.shape? b=some x):∃ c e fr,w.heap[b]? = some (.cells c e fr):=by
 unfold World.shape? at h
 split at h
 ·rename_i c e fr hc; exact ⟨_,_,_,hc⟩
 all_goals cases h
theorem zLF {e3:α→List Value} {k:Nat} {t e:TypeId} {r:Reach} {base b0 fuel:Nat} {v:Value} {x:DataW H × List MemPlace} (ht:P.underlying t=some (.slice e)) (hc:P.cellsOf e=k) (R:α→Prop)
  (hone:∀ (n:Nat) (c:List Value) y,DataW.trod enc P w base sp held n e c=some y→∃ z:α,c=e3 z∧R z)
  (h:DataW.trod enc P w base sp held fuel t [v]=some x) (hval:Cell.okWide P w r b0 t v) :
  ∃ zs:List α,(∀ z∈zs,R z)∧((zs=[]∧v = .slice none 0 0)∨∃ b off cap,v = .slice (some ⟨b,off,none⟩) zs.length cap∧zDE w b off (flat e3 zs)):=by
 rcases zQi ht hc R hone h with hcs | ⟨a,zs,cap,hcs,hl,hm,hR,hcell⟩
 ·injection hcs with hcs _
  exact ⟨[],by simp,.inl ⟨rfl,hcs⟩⟩
 ·injection hcs with hcs _
  subst hcs;refine ⟨zs,hR,.inr ?_⟩;unfold Cell.okWide at hval;rw [ht] at hval;simp only at hval;unfold Cell.ok at hval;rw [ht] at hval;obtain ⟨_,_,hhas⟩:=hval;obtain ⟨_,hspot,row,cells,hsh,_⟩:=hhas;obtain ⟨b,off,spot⟩:=a;simp only at hspot hsh;subst hspot;obtain ⟨c,e',fr,hw⟩:=zKq hsh;refine ⟨b,off,cap,rfl,c,e',fr,hw,fun i y hy=>?_⟩;have h1:=hcell i y hy;have e1:(Addr.add ⟨b,off,none⟩ i)=⟨b,off+i,none⟩:=by
   unfold Addr.add
   by_cases hi:i=0
   ·subst hi; simp
   ·simp [hi]
  rw [e1] at h1;unfold World.cell? at h1;simpa [hw] using h1
theorem zEg {t:TypeId} {k:IntKind} {fuel:Nat} {c:Value} {x:DataW H × List MemPlace} (ht:P.underlying t=some (.int k)) (h:DataW.trod enc P w 0 sp held fuel t [c]=some x):∃ n:Int,c = .int k n:=by
 obtain ⟨n,h1,_⟩:=DataW.trod_int ht h;injection h1 with h1 _
 exact ⟨n,h1⟩
end
def inPs (v:Value) (l:List Value):List (Place × List Value):=match v with
 | .slice (some a) _ _=>[(⟨a.block,a.off,0,0⟩,l)]
 | _=>[]
section
variable {α:Type}
def SlNw (h:Hp) (lo hi:Nat) (v:Value) (enc:α→List Value) (l:List α):Prop :=
 ∃ a cap,v = .slice a l.length cap∧(l≠[]→∃ b sp ro,lo≤b∧b<hi∧a=some ⟨b,0,sp⟩∧hget h b=some (.cells (flat enc l) ro))
theorem SlNw.rd {h:Hp} {lo hi:Nat} {v:Value} {enc:α→List Value} {l:List α} (hs:SlNw h lo hi v enc l):SlRd h hi v enc l:=by
 obtain ⟨a,cap,hv,hc⟩:=hs;refine ⟨a,cap,hv,fun hl=>?_⟩;obtain ⟨b,sp,ro,_,hb,ha,hg⟩:=hc hl;exact ⟨b,sp,ro,hb,ha,hg⟩
theorem SlNw.keep {h h':Hp} {lo hi lo' hi':Nat} {v:Value} {enc:α→List Value} {l:List α} (hs:SlNw h lo hi v enc l) (hk:∀ b,lo≤b→b<hi→hget h' b=hget h b) (h1:lo'≤lo) (h2:hi≤hi'):SlNw h' lo' hi' v enc l:=by
 obtain ⟨a,cap,hv,hc⟩:=hs;refine ⟨a,cap,hv,fun hl=>?_⟩;obtain ⟨b,sp,ro,hb1,hb,ha,hg⟩:=hc hl;exact ⟨b,sp,ro,by omega,by omega,ha,by rw [hk b hb1 hb]; exact hg⟩
theorem SlAt.nw {h:Hp} {lo hi k:Nat} {v:Value} {enc:α→List Value} {l:List α} (hs:SlAt h v enc k l lo hi):SlNw h lo hi v enc l:=by
 rcases hs with ⟨rfl,rfl⟩ | ⟨b,h1,h2,rfl,hg⟩
 ·exact ⟨none,0,rfl,fun h=>absurd rfl h⟩
 ·exact ⟨_,_,rfl,fun _=>⟨b,some k,false,h1,h2,rfl,hg⟩⟩
end
section
variable {P:Program} {orc:Orc} {s:Bool}
@[congr] theorem RK_congr {α:Type} {r r':R α} {k:α→Prop} (h:r=r'):RK r k=RK r' k:=by rw [h]
theorem Ev.cut {a b:CC} {tm:Tm} {h:Hp} {nx:Nat} {K:KO'} (Q:KS') (h1:Ev P orc s a tm h nx (zGh Q K)) (h2:∀ tm h nx,Q tm h nx→Ev P orc s b tm h nx K):Ev P orc s (.seq a b) tm h nx K :=
 Ev.seq (h1.mono fun x tm h nx hx=>by
  cases x with
  | normal=>exact h2 tm h nx hx
  | ret=>exact hx
  | exit i=>exact hx)
@[simp] theorem alc_new (tm:Tm) (l:List Value):calq P tm (.new l) = .ok (.ptr (.cells l false)):=rfl
@[simp] theorem zRA (nx:Nat) (o:AObj):nbV nx (.ptr o) = .pointer (some ⟨nx,0,none⟩):=rfl
@[simp] theorem zRB (o:AObj):nbO (.ptr o)=o:=rfl
@[simp] theorem zJk (nx:Nat) (o:AObj) (n c:Nat):nbV nx (.slice o n c) = .slice (some ⟨nx,0,none⟩) n c:=rfl
@[simp] theorem zJl (o:AObj) (n c:Nat):nbO (.slice o n c)=o:=rfl
theorem st_at {h:Hp} {b off:Nat} {sp:Option Nat} {cs l:List Value} {n:Nat} (hb:hget h b=some (.cells cs false)) (hl:zf l=true) (hn:l.length=n) (ho:off+n≤cs.length) :
  cSt h n l ⟨b,off,sp⟩ = .ok (hset h b (.cells (cs.take off++(l++cs.drop (off+n))) false)):=by
 unfold cSt zAr;rw [zz,hn];have e1:Nat.beq n n=true:=Nat.beq_refl n;simp only [e1,cond_true,zA hb,zAl,hl,hn,ho,if_true,zBR]
theorem st_one {h:Hp} {b off:Nat} {sp:Option Nat} {cs:List Value} {v:Value} (hb:hget h b=some (.cells cs false)) (hv:zA7 v=true) (ho:off<cs.length) :
  cSt h 1 [v] ⟨b,off,sp⟩ = .ok (hset h b (.cells (cs.set off v) false)):=by
 rw [st_at (n:=1) (l:=[v]) hb (by simp [zf,hv]) rfl (by omega)]
 congr 4
 rw [List.set_eq_take_append_cons_drop,if_pos ho];rfl
@[simp] theorem vc_int (k:IntKind) (n:Int):zI (.int k n)=[.int k n]:=rfl
@[simp] theorem zMU (a:Option Addr) (n c:Nat):zI (.slice a n c)=[.slice a n c]:=rfl
@[simp] theorem vc_agg (l:List Value):zI (.agg ⟨l⟩)=l:=rfl
@[simp] theorem zPT (b:Bool):zI (.bool b)=[.bool b]:=rfl
@[simp] theorem vc_ptr (a:Option Addr):zI (.pointer a)=[.pointer a]:=rfl
@[simp] theorem zK2 (k:IntKind) (n:Int):zA7 (.int k n)=true:=rfl
@[simp] theorem zIC (b:Bool):zA7 (.bool b)=true:=rfl
@[simp] theorem zHK (a:Option Addr) (n c:Nat):zA7 (.slice a n c)=true:=rfl
@[simp] theorem zK0 (a:Option Addr):zA7 (.pointer a)=true:=rfl
@[simp] theorem zK3:zf []=true:=rfl
@[simp] theorem zDj (x:Value) (l:List Value):zf (x::l)=(zA7 x&&zf l):=by
 show (bif zA7 x then zf l else false)=_;cases zA7 x <;> rfl
@[simp] theorem zOf (tm:Tm) (z:List Value) (ps:List (Nat × Nat × Co)):cpur P tm (.build z ps)=R.bind (zAO tm ps z) (fun l=>.ok (.agg ⟨l⟩)):=rfl
@[simp] theorem alc_bsl (tm:Tm) (n:Nat) (z:List Value) (ps:List (Nat × Nat × Co)):calq P tm (.bsl n z ps)=R.bind (zAO tm ps z) (fun l=>zAU l n n):=rfl
@[simp] theorem zNz (l:List Value) (a b:Nat):zAU l a b=if zf l=true then .ok (.slice (.cells l false) a b) else .no "cells" := by
 show (bif zf l then _ else _)=_;cases zf l <;> rfl
@[simp] theorem zSO (tm:Tm) (z:List Value):zAO tm [] z = .ok z:=rfl
@[simp] theorem zOl (tm:Tm) (off sz:Nat) (x:Co) (ps:List (Nat × Nat × Co)) (z:List Value) :
  zAO tm ((off,sz,x)::ps) z=if (zI (cev tm x)).length=sz then (if off+sz≤z.length then zAO tm ps (z.take off++(zI (cev tm x)++z.drop (off+sz))) else .no "fill") else .no "fill - size" := by
 show zA0 (zAO tm ps) off sz (zI (cev tm x)) z=_;unfold zA0;rw [zz,zAl]
 by_cases h1:(zI (cev tm x)).length=sz
 ·have e1:Nat.beq (zI (cev tm x)).length sz=true:=by rw [h1]; exact Nat.beq_refl sz
  rw [e1,h1]
  by_cases h2:off+sz≤z.length <;> simp [h2]
 ·have e1:Nat.beq (zI (cev tm x)).length sz=false:=by
   cases hb:Nat.beq (zI (cev tm x)).length sz with
   | false=>rfl
   | true=>exact absurd (Nat.eq_of_beq_eq_true hb) h1
  rw [e1];simp [h1]
@[simp] theorem ne2 (n:Nat):(n=n+1+1)↔False:=⟨fun h=>(by omega),False.elim⟩
@[simp] theorem ne3 (n:Nat):(n=n+1+1+1)↔False:=⟨fun h=>(by omega),False.elim⟩
@[simp] theorem ne4 (n:Nat):(n=n+1+1+1+1)↔False:=⟨fun h=>(by omega),False.elim⟩
@[simp] theorem ne2' (n:Nat):(n+1+1=n)↔False:=⟨fun h=>(by omega),False.elim⟩
@[simp] theorem ne3' (n:Nat):(n+1+1+1=n)↔False:=⟨fun h=>(by omega),False.elim⟩
@[simp] theorem ne4' (n:Nat):(n+1+1+1+1=n)↔False:=⟨fun h=>(by omega),False.elim⟩
@[simp] theorem zV (b:Bool):zt true (.bool b)=b:=rfl
@[simp] theorem zW (b:Bool):zt false (.bool b)=!b:=rfl
@[simp] theorem zU (b:Bool):zt b zY=false:=rfl
theorem zKg {h:Hp} {b off:Nat} {sp:Option Nat} {cs:List Value} {v:Value} {k:Hp→Prop} (hb:hget h b=some (.cells cs false)) (hv:zA7 v=true) (ho:off<cs.length) :
  RK (cSt h 1 [v] ⟨b,off,sp⟩) k↔k (hset h b (.cells (cs.set off v) false)):=by rw [st_one hb hv ho]; exact Iff.rfl
theorem zL (e:CP):zAZ (.pur e)=false:=rfl
theorem zN (e:CA):zAZ (.alc e)=false:=rfl
theorem zK (e:CRd):zAZ (.red e)=false:=rfl
theorem zM (e:CE):zAZ (.eff e)=true:=rfl
theorem zHQ (a:Addr):zHR a a=true:=by
 obtain ⟨b,o,sp⟩:=a;unfold zHR;cases sp <;> simp
@[simp] theorem zDH (k:IntKind) (n:Int):zEY (.int k n) (.int k n)=true:=by
 show (keq k k&&ieq n n)=true;rw [zCQ,zAJ]; simp
@[simp] theorem zD3 (b:Bool):zEY (.bool b) (.bool b)=true:=by
 show (b == b)=true;simp
@[simp] theorem zBP (a:Option Addr) (l c:Nat):zEY (.slice a l c) (.slice a l c)=true:=by
 cases a with
 | none=>show (Nat.beq l l&&Nat.beq c c)=true; simp
 | some a=>show (zHR a a&&Nat.beq l l&&Nat.beq c c)=true; simp [zHQ]
@[simp] theorem sameV_agg (l:List Value):zEY (.agg ⟨l⟩) (.agg ⟨l⟩)=zE0 l l:=rfl
@[simp] theorem zPm:zE0 [] []=true:=rfl
@[simp] theorem zOB (x y:Value) (l m:List Value):zE0 (x::l) (y::m)=(zDI x y&&zE0 l m):=rfl
@[simp] theorem same1_int (k:IntKind) (n:Int):zDI (.int k n) (.int k n)=true:=zDH k n
@[simp] theorem same1_slice (a:Option Addr) (l c:Nat):zDI (.slice a l c) (.slice a l c)=true:=zBP a l c
@[simp] theorem sameR_ok (v w:Value):zAs v (.ok w)=zEY v w:=rfl
@[simp] theorem cagree_0 (tm:Tm) (e:CRd) (v:Value) (hs:List Hp):zAD P tm e v 0 hs=true:=by cases hs <;> rfl
@[simp] theorem zNi (tm:Tm) (e:CRd) (v:Value) (n:Nat) (h:Hp) (hs:List Hp):zAD P tm e v (n+1) (h::hs)=(zAs v (cred P tm h e)&&zAD P tm e v n hs):=by
 show (bif zAs v (cred P tm h e) then zAD P tm e v n hs else false)=_;cases zAs v (cred P tm h e) <;> rfl
@[simp] theorem zNj (tm:Tm) (e:CRd) (v:Value) (h:Hp) (hs:List Hp):zAD P tm e v 1 (h::hs)=zAs v (cred P tm h e):=by
 rw [show (1:Nat)=0+1 from rfl,zNi]; simp
@[simp] theorem cagree_2 (tm:Tm) (e:CRd) (v:Value) (h h2:Hp) (hs:List Hp):zAD P tm e v 2 (h::h2::hs)=(zAs v (cred P tm h e)&&zAs v (cred P tm h2 e)):=by
 rw [show (2:Nat)=1+1 from rfl,zNi,zNj]
theorem zOV {α:Type} {enc:α→List Value} {k:Nat} (hk:∀ x,(enc x).length=k) {M:List α} {j:Nat} {x:α} (hx:M[j]? = some x):zA2 (some k) (j*k) (flat enc M) = .ok (.agg ⟨enc x⟩):=by
 have:=zDP hk hx;rwa [Nat.zero_add] at this
theorem Ev.genT {c:CC} {tm:Tm} {h:Hp} {nx:Nat} {K:KO'} (p:Tm→Prop) (hp:p tm) (hall:∀ tm,p tm→Ev P orc s c tm h nx K):Ev P orc s c tm h nx K:=hall tm hp
theorem Ev.genH {c:CC} {tm:Tm} {h:Hp} {nx:Nat} {K:KO'} (p:Tm→Hp→Prop) (hp:p tm h) (hall:∀ tm h,p tm h→Ev P orc s c tm h nx K):Ev P orc s c tm h nx K:=hall tm h hp
theorem Ov.genT {l:List CI} {tm:Tm} {h:Hp} {nx:Nat} {K:KS'} (p:Tm→Prop) (hp:p tm) (hall:∀ tm,p tm→Ov P orc s l tm h nx K):Ov P orc s l tm h nx K:=hall tm hp
theorem Ov.genH {l:List CI} {tm:Tm} {h:Hp} {nx:Nat} {K:KS'} (p:Tm→Hp→Prop) (hp:p tm h) (hall:∀ tm h,p tm h→Ov P orc s l tm h nx K):Ov P orc s l tm h nx K:=hall tm h hp
theorem Dv.genT {l:List CI} {tm:Tm} {h:Hp} {nx:Nat} {b:Hp} {hs:List Hp} {K:KS'} (p:Tm→Prop) (hp:p tm) (hall:∀ tm,p tm→Dv P orc s l tm h nx b hs K):Dv P orc s l tm h nx b hs K:=hall tm hp
end
def encI (x:Int):List Value:=[.int .i64 x]
def ints (l:List Int):List Value:=l.map (fun x=>Value.int .i64 x)
theorem zT:∀ l:List Int,flat encI l=ints l
 | []=>rfl
 | x::l=>by show encI x++flat encI l=_; rw [zT l]; rfl
theorem zg {l:List Int} {i:Nat} {x:Int} (h:l[i]? = some x):(ints l)[i]? = some (.int .i64 x):=by simp [ints,h]
theorem zCS (l:List Int):(ints l).length=l.length:=by simp [ints]
theorem ints_set (l:List Int) (i:Nat) (x:Int):(ints l).set i (.int .i64 x)=ints (l.set i x):=by simp [ints,List.map_set]
def TrueK:KC':=fun v _ _=>v = .bool true
section
variable {P:Program} {orc:Orc} {s:Bool}
theorem zRE {f:Nat} (hl:orc f=some zR9) {h:Hp} {nx:Nat} {K:KC'} (hk:K (.bool true) h nx):Cv P orc s f [] h nx K:=Cv.byOrc hl (v:=.bool true) (h':=h) (nx':=nx) rfl hk
end
set_option linter.defProp false
def SG:=And.intro @zE (And.intro @zAI (And.intro @zAw (And.intro @zER (And.intro @Ov_nil (And.intro @zA1 (And.intro @zCW (And.intro @zKi (And.intro @Dv_st (And.intro @Dv_nil (And.intro @c_mv (And.intro @zCG (And.intro @c_un (And.intro @c_conv (And.intro @zS2 (And.intro @zFY (And.intro @c_fld (And.intro @zJC (And.intro @zS4 (And.intro @c_nilc (And.intro @zFC (And.intro @zK5 (And.intro @zy (And.intro @zH2 (And.intro @zBa (And.intro @zOT (And.intro @natR_lit (And.intro @zJm (And.intro @zNA (And.intro @zAk (And.intro @zE8 (And.intro @c_ld (And.intro @zS3 (And.intro @zCg (And.intro @zO (And.intro @zn (And.intro @zP (And.intro @zJ (And.intro @zB (And.intro @zH (And.intro @zR (And.intro @zE9 (And.intro @tgs (And.intro @zX (And.intro @zBR (And.intro @bind_ok (And.intro @zBS (And.intro @zBr (And.intro @zEO (And.intro @zEN (And.intro @zFZ (And.intro @zHO (And.intro @zHP (And.intro @zSd (And.intro @zSe (And.intro @zMG (And.intro @zJR (And.intro @zN5 (And.intro @zC (And.intro @zAc (And.intro @zQv (And.intro @zAX (And.intro @blkK_ret (And.intro @zAv (And.intro @zV (And.intro @zW (And.intro @zU (And.intro @zOf (And.intro @alc_new (And.intro @alc_bsl (And.intro @zNz (And.intro @zSO (And.intro @zOl (And.intro @vc_int (And.intro @zMU (And.intro @vc_agg (And.intro @zPT (And.intro @vc_ptr (And.intro @zK2 (And.intro @zIC (And.intro @zHK (And.intro @zK0 (And.intro @zK3 (And.intro @zDj (And.intro @zRA (And.intro @zRB (And.intro @zJk (And.intro @zJl (And.intro (@List.getElem?_cons_zero Value) (And.intro (@List.getElem?_cons_succ Value) (And.intro (@List.length_cons Value) (And.intro (@List.length_nil Value) (And.intro (@List.take_zero Value) (And.intro (@List.take_succ_cons Value) (And.intro (@List.drop_zero Value) (And.intro (@List.drop_succ_cons Value) (And.intro (@List.drop_nil Value) (And.intro (@List.nil_append Value) (And.intro (@List.cons_append Value) (And.intro (@List.append_nil Value) (And.intro @Nat.zero_add (And.intro @Nat.add_zero (And.intro @Nat.mul_one (And.intro @Bool.and_self (And.intro @Bool.and_true (And.intro @Bool.true_and (And.intro @true_and (And.intro @and_true (And.intro @cagree_0 (And.intro @zNj (And.intro @cagree_2 (And.intro @sameR_ok (And.intro @zDH (And.intro @zD3 (And.intro @zBP (And.intro @Bool.false_eq_true (And.intro @zDt (And.intro @zCK (And.intro @Bool.not_true (And.intro @Bool.not_false (And.intro @zL (And.intro @zN (And.intro @zK (And.intro @zM (And.intro @zCq (And.intro @zKu (And.intro @zBn (And.intro @zAt (And.intro @zE4 (@zD7)))))))))))))))))))))))))))))))))))))))))))))))))))))))))))))))))))))))))))))))))))))))))))))))))))))))))))))))))))))))))))))))))
def SB:=And.intro @Ov_g (And.intro @Dv_g SG)
structure GE where
 f:Nat
 t:Nat
 w:Int
def encG (e:GE):List Value:=[.int .i64 (e.f:Int),.int .i64 (e.t:Int),.int .i64 e.w]
def GOk (n:Nat) (g:GE):Prop:=g.f<n∧g.t<n∧0≤g.w∧g.w≤2147483647
def wnF (k n:Int):Int:=if n<1∨k<0 then 0 else k.tmod n
theorem zIO {k n:Int}:∃ m:Nat,wnF k n=(m:Int)∧(0<n→(m:Int)<n):=by
 unfold wnF
 split
 ·exact ⟨0,rfl,fun h=>by omega⟩
 ·rename_i h
  have h1:0≤k:=by omega
  have h2:0<n:=by omega
  refine ⟨(k.tmod n).toNat,?_,fun _=>?_⟩
  ·rw [Int.toNat_of_nonneg (Int.tmod_nonneg n h1)]
  ·rw [Int.toNat_of_nonneg (Int.tmod_nonneg n h1)]; exact Int.tmod_lt_of_pos k h2
theorem zJE {P:Program} {t:TypeId} {k:IntKind} {a b:Int} (hb:b≠0):bin P .rem t (.int k a) (.int k b) = .ok (.int k (a.tmod b)):=by
 rw [zF0 _ _ _ _ _ rfl];show (bif ieq b 0 then _ else _)=_;rw [zAJ,show (b == 0)=false by simpa using hb];rfl
theorem bin_and {P:Program} {t:TypeId} {a b:Int}:bin P .and t (.int .i64 a) (.int .i64 b) = .ok (.int .i64 (IntKind.wrap .i64 ((BitVec.ofInt 64 a &&& BitVec.ofInt 64 b).toNat))):=by
 rw [zF0 _ _ _ _ _ rfl]; rfl
theorem and_low (a:Int):∃ w:Int,IntKind.wrap .i64 ((BitVec.ofInt 64 a &&& BitVec.ofInt 64 2147483647).toNat:Int)=w∧0≤w∧w≤2147483647:=by
 have h1:(BitVec.ofInt 64 a &&& BitVec.ofInt 64 2147483647).toNat≤2147483647:=by
  rw [BitVec.toNat_and];exact Nat.and_le_right
 refine ⟨_,rfl,?_⟩;rw [zB8 (by omega) (by omega)];omega
theorem SlAt.form {α:Type} {h:Hp} {v:Value} {enc:α→List Value} {k:Nat} {l:List α} {lo hi:Nat} (hs:SlAt h v enc k l lo hi):∃ a n c,v = .slice a n c:=by
 rcases hs with ⟨_,rfl⟩ | ⟨_,_,_,rfl,_⟩ <;> exact ⟨_,_,_,rfl⟩
theorem SlAt.keep {α:Type} {h h':Hp} {v:Value} {enc:α→List Value} {k:Nat} {l:List α} {lo hi hi':Nat} (hs:SlAt h v enc k l lo hi) (hk:∀ b,lo≤b→b<hi→hget h' b=hget h b) (hh:hi≤hi'):SlAt h' v enc k l lo hi':=by
 rcases hs with hs | ⟨b,h1,h2,e,hb⟩
 ·exact .inl hs
 ·exact .inr ⟨b,h1,by omega,e,by rw [hk b h1 h2]; exact hb⟩
set_option linter.unusedSectionVars false
section
variable {α:Type} [Inhabited α] {enc:α→List Value} {k:Nat}
def arr (enc:α→List Value) (d:Array α):List Value:=flat enc d.toList
theorem arr_at {d:Array α} {i:Nat} (hi:i<d.size):d.toList[i]? = some d[i]!:=by
 rw [Array.getElem?_toList,Array.getElem?_eq_getElem hi,getElem!_pos d i hi]
theorem zk (hk:∀ x,(enc x).length=k) {d:Array α} {i:Nat} (hi:i<d.size):zA2 (some k) (i*k) (arr enc d) = .ok (.agg ⟨enc d[i]!⟩):=zOV hk (arr_at hi)
theorem zAP (hk:∀ x,(enc x).length=k) (hcell:∀ x,zf (enc x)=true) {h:Hp} {b:Nat} {sp:Option Nat} {d:Array α} {x:α} {K:Hp→Prop} (hM:hget h b=some (.cells (arr enc d) false)) {i:Nat} (hi:i<d.size) :
  RK (cSt h k (enc x) ⟨b,i*k,sp⟩) K↔K (hset h b (.cells (arr enc (d.setIfInBounds i x)) false)):=by
 have e:cSt h k (enc x) ⟨b,i*k,sp⟩ = .ok (hset h b (.cells (arr enc (d.setIfInBounds i x)) false)):=by
  unfold cSt zAr;show (bif Nat.beq (llen (enc x)) k then _ else _)=_;rw [zz,hk,Nat.beq_refl];simp only [cond_true,zA hM];show (bif zf (enc x) then R.of _ (lput (enc x) (arr enc d) (i*k)) _ else _)=_;unfold arr;rw [hcell,zGB hk x (by simpa using hi)];simp
 rw [e];exact Iff.rfl
end
theorem wN {a b:Nat} (h:a+b<1000000000):IntKind.wrap .i64 ((a:Int)+(b:Int))=((a+b:Nat):Int):=by
 rw [zB8 (by omega) (by omega)]; omega
theorem wN1 {a:Nat} (h:a+1<1000000000):IntKind.wrap .i64 ((a:Int)+1)=((a+1:Nat):Int):=by
 rw [zB8 (by omega) (by omega)]; omega
theorem wS1 {a:Nat} (h:a<1000000000) (h1:1≤a):IntKind.wrap .i64 ((a:Int)-1)=((a-1:Nat):Int):=by
 rw [zB8 (by omega) (by omega)]; omega
theorem wSub {a b:Nat} (h:a<1000000000) (h1:b≤a):IntKind.wrap .i64 ((a:Int)-(b:Int))=((a-b:Nat):Int):=by
 rw [zB8 (by omega) (by omega)]; omega
def ArrK {α:Type} (enc:α→List Value) (b:Nat) (d:Array α) (nx:Nat) (h:Hp):KC':=fun _ h' nx'=>hget h' b=some (.cells (arr enc d) false)∧(∀ c,c<nx→c≠b→hget h' c=hget h c)∧nx≤nx'
def ltC {α:Type} (c:α→α→Int) (x y:α):Bool:=decide (c x y<0)
section
variable {P:Program} {orc:Orc} {s:Bool}
@[simp] theorem zCA (t:TypeId) (k:IntKind) (a b:Int):bin P .mul t (.int k a) (.int k b) = .ok (.int k (k.wrap (a*b))):=by rw [zF0 _ _ _ _ _ rfl,← zAT]; rfl
theorem zAf {d:Option Nat} {c:Nat} {x:Co} {args:List Co} {is:List CI} {tm:Tm} {h:Hp} {nx:Nat} {b:Hp} {hs:List Hp} {K:KS'} {f:FuncId} {a a2:List Value} (hf:cev tm x = .func (.func f) ⟨a⟩ ⟨a2⟩)
  (hc:Cv P orc true f (a++(cevs tm args++a2)) h nx (fun v h nx'=>nx≤nx'∧Dv P orc s is (putT tm d v) h nx' h (b::hs) K)):Dv P orc s (⟨none,d,c,.eff (.callv x args)⟩::is) tm h nx b hs K:=by
 refine zGL (f:=f) (args:=a++(cevs tm args++a2)) (h1:=h) (nx1:=nx) ?_ hc;show zBZ h nx (cevs tm args) (cev tm x)=_;rw [hf];show OR.call f (lapp a (lapp (cevs tm args) a2)) h nx=_;rw [zAB,zAB]
variable {α:Type} [Inhabited α] {enc:α→List Value} {k:Nat}
structure SoAt (P:Program) (orc:Orc) (fc k:Nat) (enc:α→List Value) (c:α→α→Int):Prop where
 hk:∀ x,(enc x).length=k
 cell:∀ x,zf (enc x)=true
 cmp:zKj P orc fc enc c
def zKY (k:Nat):CF:={ res:=[],body:=(.seq (.regO [mV 12 1,mV 10 12]) (.block 0 (.loop (.block 1 (.seq (.regO [mV 13 10,pU 14 (.bin .mul 3 (.v (.int .i64 2)) (.t 13)),bC 15 .add 3 14 (.int .i64 1),mV 11 15]) (.seq (.seq (.regO [mV 16 11,mV 17 2,bT 18 .geq 3 16 17]) (.cond (.t 18) (.exit 0) .skip)) (.seq (.seq (.regD [mV 19 11,bC 20 .add 3 19 (.int .i64 1),mV 21 2,bT 22 .lss 3 20 21,mV 23 22,⟨(some (23,true)),(some 24),0,.pur (.mv (.t 4))⟩,⟨(some (23,true)),(some 25),0,.pur (.mv (.t 0))⟩,⟨(some (23,true)),(some 26),0,.pur (.mv (.t 3))⟩,⟨(some (23,true)),(some 27),0,.pur (.mv (.t 11))⟩,⟨(some (23,true)),(some 28),0,.pur (.bin .add 3 (.t 26) (.t 27))⟩,⟨(some (23,true)),(some 29),0,.pur (.ixA (.slice k) (.t 25) (.t 28))⟩,⟨(some (23,true)),(some 30),0,.red (.ld (some k) (.t 29))⟩,⟨(some (23,true)),(some 31),0,.pur (.mv (.t 0))⟩,⟨(some (23,true)),(some 32),0,.pur (.mv (.t 3))⟩,⟨(some (23,true)),(some 33),0,.pur (.mv (.t 11))⟩,⟨(some (23,true)),(some 34),0,.pur (.bin .add 3 (.t 32) (.t 33))⟩,⟨(some (23,true)),(some 35),0,.pur (.bin .add 3 (.t 34) (.v (.int .i64 1)))⟩,⟨(some (23,true)),(some 36),0,.pur (.ixA (.slice k) (.t 31) (.t 35))⟩,⟨(some (23,true)),(some 37),0,.red (.ld (some k) (.t 36))⟩,⟨(some (23,true)),(some 38),0,.eff (.callv (.t 24) [(.t 30),(.t 37)])⟩,⟨(some (23,true)),(some 39),0,.pur (.bin .lss 3 (.t 38) (.v (.int .i64 0)))⟩,pU 40 (.pick (.t 23) (.t 39) (.v (.bool false)))]) (.cond (.t 40) (.regO [mV 41 11,bC 42 .add 3 41 (.int .i64 1),mV 11 42]) .skip)) (.seq (.seq (.regD [mV 43 4,mV 44 0,mV 45 3,mV 46 10,bT 47 .add 3 45 46,pU 48 (.ixA (.slice k) (.t 44) (.t 47)),rU 49 0 (.ld (some k) (.t 48)),mV 50 0,mV 51 3,mV 52 11,bT 53 .add 3 51 52,pU 54 (.ixA (.slice k) (.t 50) (.t 53)),rU 55 0 (.ld (some k) (.t 54)),eU 56 (.callv (.t 43) [(.t 49),(.t 55)]),bC 57 .lss 3 56 (.int .i64 0),pU 58 (.un .not (.t 57))]) (.cond (.t 58) .ret .skip)) (.seq (.regD [mV 59 0,mV 60 3,mV 61 10,bT 62 .add 3 60 61,mV 67 0,mV 68 3,mV 69 11,bT 70 .add 3 68 69,pU 71 (.ixA (.slice k) (.t 67) (.t 70)),rU 72 0 (.ld (some k) (.t 71)),mV 73 0,mV 74 3,mV 75 10,bT 76 .add 3 74 75,pU 77 (.ixA (.slice k) (.t 73) (.t 76)),rU 78 0 (.ld (some k) (.t 77)),pU 79 (.ixA (.slice k) (.t 59) (.t 62)),eN (.st k (.t 79) (.t 72)),⟨none,(some 63),1,.pur (.mv (.t 0))⟩,⟨none,(some 64),1,.pur (.mv (.t 3))⟩,⟨none,(some 65),1,.pur (.mv (.t 11))⟩,⟨none,(some 66),1,.pur (.bin .add 3 (.t 64) (.t 65))⟩,pU 80 (.ixA (.slice k) (.t 63) (.t 66)),eN (.st k (.t 80) (.t 78))]) (.regO [mV 81 11,mV 10 81])))))))))) }
def SfJ {α:Type} [Inhabited α] (enc:α→List Value) (c:α→α→Int) (b n cap:Nat) (sp:Option Nat) (fc hi first:Nat) (dE:Array α) (nx:Nat) (h:Hp) (m:Nat) (tm:Tm) (h':Hp) (nx':Nat):Prop :=
 ∃ (root:Nat) (d:Array α),m=hi-root∧tget tm 0 = .slice (some ⟨b,0,sp⟩) n cap∧tget tm 2 = .int .i64 (hi:Int)∧tget tm 3 = .int .i64 (first:Int)∧tget tm 4 = .func (.func fc) #[] #[]∧tget tm 10 = .int .i64 (root:Int) ∧
  d.size=n∧Sort.siftDown (ltC c) hi first root d=dE∧hget h' b=some (.cells (arr enc d) false)∧root<1000000∧(∀ c,c<nx→c≠b→hget h' c=hget h c)∧nx≤nx'
def SfQ {α:Type} [Inhabited α] (enc:α→List Value) (c:α→α→Int) (b n cap:Nat) (sp:Option Nat) (fc hi first root:Nat) (d dE:Array α) (nx:Nat) (h:Hp) (tm:Tm) (h':Hp) (nx':Nat):Prop :=
 ∃ ch:Nat,tget tm 0 = .slice (some ⟨b,0,sp⟩) n cap∧tget tm 2 = .int .i64 (hi:Int)∧tget tm 3 = .int .i64 (first:Int)∧tget tm 4 = .func (.func fc) #[] #[]∧tget tm 10 = .int .i64 (root:Int)∧tget tm 11 = .int .i64 (ch:Int)∧ch<hi∧root<ch ∧
  (if !ltC c d[first+root]! d[first+ch]! then d else Sort.siftDown (ltC c) hi first ch (Sort.swp d (first+root) (first+ch)))=dE∧hget h' b=some (.cells (arr enc d) false)∧(∀ c,c<nx→c≠b→hget h' c=hget h c)∧nx≤nx'
theorem zPf {f fc:Nat} {c:α→α→Int} (S:SoAt P orc fc k enc c) (hcf:zD P f=some (zKY k)) (ho:orc f=none) {b n cap lo hi first:Nat} {sp:Option Nat} {d:Array α} {h:Hp} {nx:Nat}
  (hb:b<nx) (hd:d.size=n) (hn:n<100000) (hlo:lo<1000000) (hhi:first+hi≤n) (hh:hget h b=some (.cells (arr enc d) false)) :
  Cv P orc s f [.slice (some ⟨b,0,sp⟩) n cap,.int .i64 (lo:Int),.int .i64 (hi:Int),.int .i64 (first:Int),.func (.func fc) #[] #[]] h nx (ArrK enc b (Sort.siftDown (ltC c) hi first lo d) nx h):=by
 generalize hdE:Sort.siftDown (ltC c) hi first lo d=dE
 refine Cv.enter ho hcf ?_;unfold zKY bC bT eN eU mV pU rU;refine Ev.seq (Ev.regO ?_);simp only [SB,seval];refine Ev.block (Ev.loop (SfJ enc c b n cap sp fc hi first dE nx h) ?_ (hi-lo) _ _ _ ⟨lo,d,rfl,by simp,by simp,by simp,by simp,by simp,hd,hdE,hh,hlo,fun _ _ _=>rfl,Nat.le_refl _⟩);rintro m tm h' nx' ⟨root,d,rfl,t0,t2,t3,t4,t10,hd,hE,hh,hr,hfr,hnx⟩;refine Ev.block ?_;refine Ev.seq (Ev.regO ?_);have w1:IntKind.wrap .i64 (2*(root:Int))=((2*root:Nat):Int):=by rw [zB8 (by omega) (by omega)]; omega
 have w2:IntKind.wrap .i64 (((2*root:Nat):Int)+1)=((2*root+1:Nat):Int):=wN1 (by omega);simp only [SB,t10,zCA,w1,w2,seval];refine Ev.genT (fun tm2=>tget tm2 0=tget tm 0∧tget tm2 2=tget tm 2∧tget tm2 3=tget tm 3∧tget tm2 4=tget tm 4∧tget tm2 10=tget tm 10∧tget tm2 11 = .int .i64 ((2*root+1:Nat):Int)) (by simp) ?_;rintro tm2 ⟨u0,u2,u3,u4,u10,u11⟩;rw [t0] at u0; rw [t2] at u2; rw [t3] at u3; rw [t4] at u4; rw [t10] at u10;refine Ev.seq (Ev.seq (Ev.regO ?_));simp only [SB,u11,u2,seval];rw [Sort.siftDown] at hE
 by_cases hc:2*root+1≥hi
 ·rw [dif_pos hc] at hE;subst hE;refine Ev.cond true (by simp; omega) (fun _=>Ev.exit ?_) (by simp);simp only [SB,seval];exact ⟨hh,hfr,hnx⟩
 ·rw [dif_neg hc] at hE;refine Ev.cond false (by simp; omega) (by simp) (fun _=>Ev.skip ?_)
  (try simp only [SB,seval])
  refine Ev.cut (SfQ enc c b n cap sp fc hi first root d dE nx h) ?_ ?_
  ·have w3:IntKind.wrap .i64 (((2*root+1:Nat):Int)+1)=((2*root+1+1:Nat):Int):=wN1 (by omega);refine Ev.seq (Ev.regD ?_)
   by_cases h2:2*root+1+1<hi
   ·have d1:decide (((2*root+1+1:Nat):Int)<(hi:Int))=true:=decide_eq_true (by omega);have w4:IntKind.wrap .i64 ((first:Int)+((2*root+1:Nat):Int))=((first+(2*root+1):Nat):Int):=wN (by omega);have w5:IntKind.wrap .i64 (((first+(2*root+1):Nat):Int)+1)=((first+(2*root+1)+1:Nat):Int):=wN1 (by omega);have i1:first+(2*root+1)<n:=by omega
    have i2:first+(2*root+1)+1<n:=by omega
    have r1:=zk S.hk (hd.symm ▸ i1);have r2:=zk S.hk (hd.symm ▸ i2)
    repeat (first | simp only [Dv_g,Ov_g,zB,zH,tgs,zV,zW,zU,Bool.not_true,Bool.not_false,Bool.false_eq_true,zL,zN,zK,zM,seval] | simp only [SG,u0,u2,u3,u4,u11,w3,w4,w5,d1,i1,i2,zA hh,r1,r2,seval])
    refine zAf (f:=fc) (a:=[]) (a2:=[]) (by simp [u4]) ?_;simp only [zP,zJ,zO,zn,tgs,List.nil_append,List.append_nil,seval];refine (S.cmp _ _ _ _).mono ?_;rintro r h1 nx1 ⟨rfl,hnh1,hfh1⟩;refine ⟨hnh1,?_⟩;have hh1:=(hfh1 b (by omega)).trans hh
    by_cases hl:c d[first+(2*root+1)]! d[first+(2*root+1)+1]!<0
    ·have e1:decide (c d[first+(2*root+1)]! d[first+(2*root+1)+1]!<0)=true:=decide_eq_true hl
     repeat (first | simp only [Dv_g,Ov_g,zB,zH,tgs,zV,zW,zU,Bool.not_true,Bool.not_false,Bool.false_eq_true,zL,zN,zK,zM,seval] | simp only [SG,e1,seval])
     refine Ev.cond true (by simp) (fun _=>?_) (by simp);refine Ev.regO ?_;simp only [SB,u11,w3,seval];refine ⟨2*root+1+1,by simp [u0],by simp [u2],by simp [u3],by simp [u4],by simp [u10],by simp,by omega,by omega,?_,hh1,fun c hc hcb=>(hfh1 c (by omega)).trans (hfr c hc hcb),by omega⟩;rw [if_pos (by rw [Bool.and_eq_true]; exact ⟨decide_eq_true h2,decide_eq_true hl⟩)] at hE;rw [dif_pos (show 2*root+2<hi from h2)] at hE;exact hE
    ·have e1:decide (c d[first+(2*root+1)]! d[first+(2*root+1)+1]!<0)=false:=decide_eq_false hl
     repeat (first | simp only [Dv_g,Ov_g,zB,zH,tgs,zV,zW,zU,Bool.not_true,Bool.not_false,Bool.false_eq_true,zL,zN,zK,zM,seval] | simp only [SG,e1,seval])
     refine Ev.cond false (by simp) (by simp) (fun _=>Ev.skip ?_)
     (try simp only [SB,seval])
     refine ⟨2*root+1,by simp [u0],by simp [u2],by simp [u3],by simp [u4],by simp [u10],by simp [u11],by omega,by omega,?_,hh1,fun c hc hcb=>(hfh1 c (by omega)).trans (hfr c hc hcb),by omega⟩;rw [if_neg (by rw [Bool.and_eq_true]; exact fun e=>hl (of_decide_eq_true e.2))] at hE;exact hE
   ·have d1:decide (((2*root+1+1:Nat):Int)<(hi:Int))=false:=decide_eq_false (by omega)
    repeat (first | simp only [Dv_g,Ov_g,zB,zH,tgs,zV,zW,zU,Bool.not_true,Bool.not_false,Bool.false_eq_true,zL,zN,zK,zM,seval] | simp only [SG,u0,u2,u3,u4,u11,w3,d1,seval])
    refine Ev.cond false (by simp) (by simp) (fun _=>Ev.skip ?_)
    (try simp only [SB,seval])
    refine ⟨2*root+1,by simp [u0],by simp [u2],by simp [u3],by simp [u4],by simp [u10],by simp [u11],by omega,by omega,?_,hh,hfr,hnx⟩;rw [if_neg (by rw [Bool.and_eq_true]; exact fun e=>h2 (of_decide_eq_true e.1))] at hE;exact hE
  ·rintro tm2 h2 nx2 ⟨ch,u0,u2,u3,u4,u10,u11,hch,hrc,hE,hh,hfr,hnx⟩;have w4:IntKind.wrap .i64 ((first:Int)+(root:Int))=((first+root:Nat):Int):=wN (by omega);have w5:IntKind.wrap .i64 ((first:Int)+(ch:Int))=((first+ch:Nat):Int):=wN (by omega);have i1:first+root<n:=by omega
   have i2:first+ch<n:=by omega
   have r1:=zk S.hk (hd.symm ▸ i1);have r2:=zk S.hk (hd.symm ▸ i2);refine Ev.seq (Ev.seq (Ev.regD ?_));simp only [SB,u0,u2,u3,u4,u10,u11,w4,w5,i1,i2,zA hh,r1,r2,seval];refine zAf (f:=fc) (a:=[]) (a2:=[]) (by simp [u4]) ?_;simp only [zP,zJ,zO,zn,tgs,List.nil_append,List.append_nil,seval];refine (S.cmp _ _ _ _).mono ?_;rintro r h1 nx1 ⟨rfl,hnh1,hfh1⟩;refine ⟨hnh1,?_⟩;have hh1:=(hfh1 b (by omega)).trans hh
   by_cases hl:c d[first+root]! d[first+ch]!<0
   ·have e1:decide (c d[first+root]! d[first+ch]!<0)=true:=decide_eq_true hl;simp only [SB,e1,seval];refine Ev.cond false (by simp) (by simp) (fun _=>Ev.skip ?_)
    (try simp only [SB,seval])
    rw [if_neg (by rw [show ltC c d[first+root]! d[first+ch]! = true from e1]; simp)] at hE;refine Ev.seq (Ev.regD ?_);simp only [SB,u0,u2,u3,u4,u10,u11,w4,w5,i1,i2,zA hh1,r1,r2,seval];rw [zAP S.hk S.cell hh1 (hd.symm ▸ i1)];rw [zAP (d:=d.setIfInBounds (first+root) d[first+ch]!) S.hk S.cell (by simp) (by simp; omega)]
    (try simp only [SB,seval])
    refine Ev.regO ?_;simp only [SB,u11,seval];refine ⟨hi-ch,by omega,ch,Sort.swp d (first+root) (first+ch),rfl,by simp [u0],by simp [u2],by simp [u3],by simp [u4],by simp,by simp [Sort.swp,hd],hE,by simp [Sort.swp],by omega,fun c hc hcb=>?_,by omega⟩;rw [hgs,if_neg hcb,hgs,if_neg hcb,hfh1 c (by omega)];exact hfr c hc hcb
   ·have e1:decide (c d[first+root]! d[first+ch]!<0)=false:=decide_eq_false hl;simp only [SB,e1,seval];rw [if_pos (by rw [show ltC c d[first+root]! d[first+ch]! = false from e1]; rfl)] at hE;subst hE;refine Ev.cond true (by simp) (fun _=>?_) (by simp);refine Ev.ret ?_;simp only [SB,seval];exact ⟨hh1,fun c hc hcb=>(hfh1 c (by omega)).trans (hfr c hc hcb),by omega⟩
end
end Go.Ax
