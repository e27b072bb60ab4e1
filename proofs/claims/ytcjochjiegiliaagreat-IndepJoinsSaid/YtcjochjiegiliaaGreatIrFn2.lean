/- Parts of the proof: IrFn2: each statement bears its own conditions. -/
import Derived.Test.YtcjochjiegiliaaGreatIrFn1
namespace Go.Proofs.YtcjochjiegiliaaGreat
open Go Go.Ax
set_option linter.unusedVariables false
set_option linter.unusedSimpArgs false
set_option maxRecDepth 1000000
theorem Lp.cut {B:LB} {vs:List Value} {h:Hp} {nx i:Nat} {R C:KVl} (Pre:KVl) (h1:∀ vs h nx,Pre vs h nx→C vs h nx) (h2:∀ C',(∀ vs h nx,Pre vs h nx→C' vs h nx)→Lp B vs h nx [(i,C')] R):Lp B vs h nx [(i,C)] R:=h2 C h1
def EqK (v:Value) (nx:Nat) (h:Hp):KC':=fun r h' nx'=>r=v∧Keep nx h h'∧nx≤nx'
def inB (n m:Int):Bool:=decide (0≤n∧n≤m)
theorem inB_t {n m:Int} (h:0≤n∧n≤m):inB n m=true:=decide_eq_true h
theorem inB_f {n m:Int} (h:¬ (0≤n∧n≤m)):inB n m=false:=decide_eq_false h
theorem pwithin_c {s:Bool} {n m:Int} {h:Hp} {nx:Nat}:Cv Q O s 222 [.int .i64 n,.int .i64 m] h nx (fun r h' nx'=>r = .bool (inB n m)∧h'=h∧nx'=nx):=by
 refine pwithinv ?_
 unfold pwithin
 simp (disch:=omega) only [SS,seval]
 refine ⟨fun h0=>?_,fun h0=>by rw [inB_f (by omega)]⟩
 by_cases h1:m<n
 ·rw [decide_eq_true h1,inB_f (by omega)]; rfl
 ·rw [decide_eq_false h1,inB_t (by omega)]; rfl
def badD (d:Int):Bool:=decide (d<0∨2147483647<d)
theorem pright1_c {s:Bool} {d:Int} {h:Hp} {nx:Nat}:Cv Q O s 224 [.int .i64 d] h nx (EqK (.bool (badD d)) nx h):=by
 refine pright1v ?_
 unfold pright1
 simp (disch:=omega) only [SS,seval]
 refine ⟨fun h0=>⟨by unfold badD; simp [h0],Keep.refl _ _,Nat.le_refl _⟩,fun h0=>⟨?_,Keep.refl _ _,Nat.le_refl _⟩⟩
 unfold badD; simp [h0]
def IxJ {α:Type} (p:α→Bool) (l:List α) (v fv:Value) (nx:Nat) (h:Hp) (m:Nat) (vs:List Value) (h':Hp) (nx':Nat):Prop:=∃ i,m=l.length-i∧i≤l.length∧vs=[v,fv,.int .i64 0,.int .i64 (l.length:Int),.int .i64 (i:Int)]∧Keep nx h h'∧nx≤nx'∧∀ x∈l.take i,p x=false
theorem take_s {α:Type} {p:α→Bool} {l:List α} {i:Nat} {x:α} (hx:l[i]? = some x) (h:∀ y∈l.take i,p y=false) (hp:p x=false):∀ y∈l.take (i+1),p y=false:=fun y hy=>by
 rw [List.take_add_one,hx] at hy
 rcases List.mem_append.1 hy with hy | hy
 ·exact h y hy
 ·have:y=x:=by simpa using hy
  rw [this]; exact hp
theorem any_f {α:Type} {p:α→Bool} {l:List α} (h:∀ x∈l,p x=false):l.any p=false:=List.any_eq_false.2 fun x hx=>by rw [h x hx]; simp
theorem contsI_c {s:Bool} {f:Nat} {p:Int→Bool} {v:Value} {l:List Int} {h:Hp} {nx:Nat} (hv:SlRd h nx v encI l) (hl:l.length<1000000) (hf:∀ (x:Int) (h:Hp) (nx:Nat),Cv Q O s f [.int .i64 x] h nx (EqK (.bool (p x)) nx h)) :
  Cv Q O s 223 [v,.func (.func f) ⟨[]⟩ ⟨[]⟩] h nx (EqK (.bool (l.any p)) nx h):=by
 refine contsIv ?_
 obtain ⟨a,cap,rfl,hc⟩:=id hv
 unfold contsI
 refine (indexIv (K:=fun r h' nx'=>Keep nx h h'∧nx≤nx'∧∃ i:Int,r = .int .i64 i∧(i<0↔l.any p=false)) ?_).mono ?_
 ·unfold indexI
  simp (disch:=omega) only [SS,seval]
  refine Lp.mk (IxJ p l (.slice a l.length cap) (.func (.func f) ⟨[]⟩ ⟨[]⟩) nx h) l.length ⟨0,rfl,by omega,rfl,Keep.refl _ _,Nat.le_refl _,fun x hx=>by simp at hx⟩ ?_
  rintro m _ h' nx' ⟨i,rfl,hi,rfl,hk,hle,hno⟩
  rw [indexIb0]
  unfold indexIl0
  simp (disch:=omega) only [SS,seval]
  refine ⟨fun hlt=>?_,fun hge=>?_⟩
  ·obtain ⟨x,hx⟩:=get_ex hlt
   obtain ⟨_,b,sp,ro,c1,hb,e1,hg⟩:=hv.at hx
   cases e1
   rw [flat_ints] at hg
   simp (disch:=omega) only [SS,(hk b hb).trans hg,ints_get hx,seval]
   refine (hf x h' nx').mono ?_
   rintro r h2 nx2 ⟨rfl,hk2,hle2⟩
   rw [IF_b]
   refine ⟨fun hp=>?_,fun hp=>?_⟩
   ·refine ⟨hk.trans hk2 hle,by omega,_,rfl,⟨fun h=>absurd h (by omega),fun h=>?_⟩⟩
    rw [List.any_eq_false] at h
    exact absurd hp (h x (List.mem_of_getElem? hx))
   ·simp (disch:=omega) only [SS,wrap_s (show i<1000000000000 by omega),seval]
    exact ⟨l.length-(i+1),by omega,i+1,rfl,by omega,rfl,hk.trans hk2 hle,by omega,take_s hx hno hp⟩
  ·have:i=l.length:=by omega
   subst this
   rw [List.take_length] at hno
   exact ⟨hk,hle,_,rfl,⟨fun _=>any_f hno,fun _=>by omega⟩⟩
 ·rintro r h' nx' ⟨hk,hle,i,rfl,hi⟩
  simp (disch:=omega) only [SS,seval]
  refine ⟨?_,hk,hle⟩
  cases ha:l.any p with
  | false=>rw [decide_eq_true (hi.2 ha)]; rfl
  | true =>
   have:¬ i<0:=fun h=>by rw [hi.1 h] at ha; cases ha
   rw [decide_eq_false this]; rfl
abbrev Mv:=Int × Int × Int × Int
def planE (k n src len:Int) (ds:List Int):Int :=
 if k≤0∨5<k then 8 else if ¬ (0≤n∧n≤4096) then 3 else if k=4∧¬ (0≤len∧len≤8192) then 3 else if (k=4∨k=1∨k=2)∧¬ (0≤src∧src≤n-1) then 3
 else if 65536<ds.length then 5 else if ds.any badD=true then 7 else 0
theorem wrapI0 {n:Int}:IntKind.wrap .i64 n=(if n % 18446744073709551616≥9223372036854775808 then n % 18446744073709551616-18446744073709551616 else n % 18446744073709551616):=by
 simp only [IntKind.wrap,IntKind.signed,IntKind.bits]
 simp
theorem wrapD0 {n:Int} (h0 : -9223372036854775808≤n) (h1:n≤9223372036854775807):IntKind.wrap .i64 n=n:=by
 rw [wrapI0]; split <;> omega
theorem pright0_c {s:Bool} {k n src len:Int} {ds:List Int} {v:Value} {h:Hp} {nx:Nat} (hv:SlRd h nx v encI ds):Cv Q O s 128 [.agg ⟨[.int .i64 k,.int .i64 n,.int .i64 src,.int .i64 len,v]⟩] h nx (EqK (.int .i64 (planE k n src len ds)) nx h):=by
 refine pright0v ?_
 obtain ⟨a,cap,rfl,hc⟩:=id hv
 unfold pright0
 have K1:∀ {o},Keep nx h (hset h nx o):=(Keep.refl _ _).set (Nat.le_refl _)
 have fin:∀ {e:Int},planE k n src len ds=e→∀ {o},EqK (.int .i64 (planE k n src len ds)) nx h (.int .i64 e) (hset h nx o) (nx+1):=fun {e} he {o}=>⟨by rw [he],K1,by omega⟩
 have last:¬ (k≤0∨5<k)→(0≤n∧n≤4096)→¬ (k=4∧¬ (0≤len∧len≤8192))→¬ ((k=4∨k=1∨k=2)∧¬ (0≤src∧src≤n-1))→pright0k0 s (EqK (.int .i64 (planE k n src len ds)) nx h) (.pointer (some ⟨nx,0,none⟩)) (hset h nx (.cells [.int .i64 k,.int .i64 n,.int .i64 src,.int .i64 len,.slice a ds.length cap] false)) (nx+1):=fun h1 h2 h3 h4=>by
  have e:planE k n src len ds=if 65536<ds.length then 5 else if ds.any badD=true then 7 else 0:=by
   unfold planE; rw [if_neg h1,if_neg (fun h=>h h2),if_neg h3,if_neg h4]
  unfold pright0k0
  simp (disch:=omega) only [SS,seval]
  refine ⟨fun h5=>fin (by rw [e,if_pos (by omega)]),fun h5=>?_⟩
  refine (contsI_c (hv.keep K1 (Nat.le_succ _)) (by omega) (fun x h nx=>pright1_c)).mono ?_
  rintro r h1 n1 ⟨rfl,hk,hle⟩
  simp (disch:=omega) only [SS,seval]
  refine ⟨fun h6=>⟨by rw [e,if_neg (by omega),if_pos h6],K1.trans hk (by omega),by omega⟩,fun h6=>⟨?_,K1.trans hk (by omega),by omega⟩⟩
  rw [e,if_neg (by omega),if_neg (by rw [h6]; simp)]
 have k1:(k≤0∨5<k)→∀ {o},pright0k1 s (EqK (.int .i64 (planE k n src len ds)) nx h) (.pointer (some ⟨nx,0,none⟩)) (.bool true) (hset h nx o) (nx+1):=fun hk {o}=>by
  unfold pright0k1
  simp (disch:=omega) only [SS,seval]
  exact fin (by unfold planE; rw [if_pos hk])
 simp (disch:=omega) only [SS,seval]
 refine ⟨fun h0=>k1 (.inl (by omega)),fun h0=>?_⟩
 by_cases h5:5<k
 ·rw [decide_eq_true h5]; exact k1 (.inr h5)
 rw [decide_eq_false h5]
 have hk:¬ (k≤0∨5<k):=by omega
 unfold pright0k1
 simp (disch:=omega) only [SS,seval]
 refine pwithin_c.mono ?_
 rintro r h1 n1 ⟨rfl,e1,e2⟩
 rw [e1,e2]
 by_cases hn:0≤n∧n≤4096
 case neg =>
  rw [inB_f hn]
  simp (disch:=omega) only [SS,seval]
  exact fin (by unfold planE; rw [if_neg hk,if_pos hn])
 rw [inB_t hn]
 have hw:IntKind.wrap .i64 (n-1)=n-1:=wrapD0 (by omega) (by omega)
 have hsrc:(k=4∨k=1∨k=2)→¬ (k=4∧¬ (0≤len∧len≤8192))→Cv Q O s 222 [.int .i64 src,.int .i64 (n-1)] (hset h nx (.cells [.int .i64 k,.int .i64 n,.int .i64 src,.int .i64 len,.slice a ds.length cap] false)) (nx+1) fun x41 h42 n43=>RK (oUn .not x41) fun x44=>IF x44 (EqK (.int .i64 (planE k n src len ds)) nx h (.int .i64 3) h42 n43) (pright0k0 s (EqK (.int .i64 (planE k n src len ds)) nx h) (.pointer (some ⟨nx,0,none⟩)) h42 n43):=fun hk3 h4=>by
  refine pwithin_c.mono ?_
  rintro r h1 n1 ⟨rfl,e1,e2⟩
  rw [e1,e2]
  by_cases hs:0≤src∧src≤n-1
  ·rw [inB_t hs]
   simp (disch:=omega) only [SS,seval]
   exact last hk hn h4 (fun h=>h.2 hs)
  ·rw [inB_f hs]
   simp (disch:=omega) only [SS,seval]
   exact fin (by unfold planE; rw [if_neg hk,if_neg (fun h=>h hn),if_neg h4,if_pos ⟨hk3,hs⟩])
 simp (disch:=omega) only [SS,hw,seval]
 refine ⟨fun h4=>?_,fun h4=>?_⟩
 ·have h4:k=4:=by simpa using h4
  refine pwithin_c.mono ?_
  rintro r h1 n1 ⟨rfl,e1,e2⟩
  rw [e1,e2]
  by_cases hl:0≤len∧len≤8192
  ·rw [inB_t hl]
   simp (disch:=omega) only [SS,hw,seval]
   exact hsrc (.inl h4) (fun h=>h.2 hl)
  ·rw [inB_f hl]
   simp (disch:=omega) only [SS,seval]
   exact fin (by unfold planE; rw [if_neg hk,if_neg (fun h=>h hn),if_pos ⟨h4,hl⟩])
 ·have h4:k≠4:=by simpa using h4
  refine ⟨fun h1=>?_,fun h1=>⟨fun h2=>?_,fun h2=>?_⟩⟩
  ·have h1:k=1:=by simpa using h1
   exact hsrc (.inr (.inl h1)) (fun h=>h4 h.1)
  ·have h2:k=2:=by simpa using h2
   exact hsrc (.inr (.inr h2)) (fun h=>h4 h.1)
  ·have h1:k≠1:=by simpa using h1
   have h2:k≠2:=by simpa using h2
   exact last hk hn (fun h=>h4 h.1) (fun h=>by rcases h.1 with h | h | h <;> contradiction)
def rightE (n:Int) (es:List Edg3):Int:=if n<0 then 3 else if 4096<n∨65536<es.length then 5 else if es.any (badE n)=true then 3 else if es.any badW=true then 7 else 0
theorem rightE_V {n:Int} {es:List Edg3}:rightE n es=0↔RightV n es:=by
 unfold rightE RightV
 constructor
 ·intro h
  split at h
  ·cases h
  ·split at h
   ·cases h
   ·split at h
    ·cases h
    ·split at h
     ·cases h
     ·rename_i h1 h2 h3 h4
      refine ⟨by omega,by omega,by omega,fun e he hb=>h3 (List.any_eq_true.2 ⟨e,he,badE_iff.2 hb⟩),fun e he hb=>h4 (List.any_eq_true.2 ⟨e,he,badW_iff.2 hb⟩)⟩
 ·rintro ⟨h1,h2,h3,h4,h5⟩
  rw [if_neg (by omega),if_neg (by omega),if_neg,if_neg]
  ·intro h
   obtain ⟨e,he,hb⟩:=List.any_eq_true.1 h
   exact h5 e he (badW_iff.1 hb)
  ·intro h
   obtain ⟨e,he,hb⟩:=List.any_eq_true.1 h
   exact h4 e he (badE_iff.1 hb)
theorem right_x {s:Bool} {n:Int} {v:Value} {es:List Edg3} {h:Hp} {nx:Nat} (hv:SlPx h nx v enc3 es) :
  Cv Q O s 107 [.agg ⟨[.int .i64 n,v]⟩] h nx (EqK (.int .i64 (rightE n es)) nx h):=by
 refine rightv ?_
 obtain ⟨a,cap,rfl,hc⟩:=id hv
 unfold right
 simp (disch:=omega) only [SS,seval]
 have K1:Keep nx h (hset (hset (hset h nx (.cells [.int .i64 n,.slice a es.length cap] false)) (nx+1) (.cells [.nilFunc] false)) (nx+1) (.cells [.func (.func 192) ⟨[]⟩ ⟨[.pointer (some ⟨nx,0,none⟩)]⟩] false)):=fun b hb=>by rw [hold (by omega),hold (by omega),hold (by omega)]
 have no:∀ {e:Int},rightE n es=e→∀ {h':Hp} {nx':Nat},Keep nx h h'→nx≤nx'→EqK (.int .i64 (rightE n es)) nx h (.int .i64 e) h' nx':=fun {e} he {h' nx'} hk hle=>⟨by rw [he],hk,hle⟩
 refine ⟨fun h1=>no (by unfold rightE; rw [if_pos h1]) K1 (by omega),fun h1=>⟨fun h2=>no (by unfold rightE; rw [if_neg h1,if_pos (.inl h2)]) K1 (by omega),fun h2=>⟨fun h3=>no (by unfold rightE; rw [if_neg h1,if_pos (.inr (by omega))]) K1 (by omega),fun h3=>?_⟩⟩⟩
 have h23:¬ (4096<n∨65536<es.length):=by omega
 refine (conts_c (badE n) (hv.keep K1 (by omega)) (by omega) (fun g hg h' nx' K hk hle hK=>?_)).mono ?_
 ·have g0:=hk nx (by omega)
  have g1:=hk (nx+1) (by omega)
  rw [hold (by omega),hold (by omega),hnew] at g0
  rw [hnew] at g1
  have kk:∀ {o},Keep nx' h' (hset h' nx' o):=(Keep.refl _ _).set (Nat.le_refl _)
  simp (disch:=omega) only [SS,seval]
  refine right2v ?_
  unfold right2 enc3
  simp (disch:=omega) only [SS,g1,seval]
  refine right1v ?_
  unfold right1
  simp (disch:=omega) only [SS,g0,seval]
  refine ⟨fun h1=>hK _ _ _ (by unfold badE; simp [h1]) kk (Nat.le_succ _),fun h1=>⟨fun h2=>hK _ _ _ (by unfold badE; simp [h1]; omega) kk (Nat.le_succ _),fun h2=>?_⟩⟩
  simp (disch:=omega) only [SS,g1,seval]
  refine right1v ?_
  unfold right1
  simp (disch:=omega) only [SS,g0,seval]
  refine ⟨fun h3=>hK _ _ _ (by unfold badE; simp [h3]) kk (Nat.le_succ _),fun h3=>?_⟩
  refine hK _ _ _ ?_ kk (Nat.le_succ _)
  unfold badE
  rw [decide_eq_false h1,decide_eq_true h2,decide_eq_false h3]
  rfl
 ·rintro r h4 nx4 ⟨rfl,hk4,hle4⟩
  have g0:=hk4 nx (by omega)
  rw [hold (by omega),hold (by omega),hnew] at g0
  have K4:=K1.trans hk4 (by omega)
  simp (disch:=omega) only [SS,g0,seval]
  refine ⟨fun h5=>no (by unfold rightE; rw [if_neg h1,if_neg h23,if_pos h5]) K4 (by omega),fun h5=>?_⟩
  have h5':¬ es.any (badE n)=true:=by rw [h5]; simp
  refine (conts_c badW ((hv.keep K1 (by omega)).keep hk4 hle4) (by omega) (fun g hg h' nx' K hk hle hK=>?_)).mono ?_
  ·have kk:∀ {o},Keep nx' h' (hset h' nx' o):=(Keep.refl _ _).set (Nat.le_refl _)
   simp (disch:=omega) only [SS,seval]
   refine right3v ?_
   unfold right3 enc3
   simp (disch:=omega) only [SS,seval]
   refine ⟨fun h1=>hK _ _ _ (by unfold badW; simp [h1]) kk (Nat.le_succ _),fun h1=>hK _ _ _ (by unfold badW; simp [h1]) kk (Nat.le_succ _)⟩
  ·rintro r h6 nx6 ⟨rfl,hk6,hle6⟩
   have K6:=K4.trans hk6 (by omega)
   simp (disch:=omega) only [SS,seval]
   refine ⟨fun h7=>no (by unfold rightE; rw [if_neg h1,if_neg h23,if_neg h5',if_pos h7]) K6 (by omega),fun h7=>no ?_ K6 (by omega)⟩
   unfold rightE; rw [if_neg h1,if_neg h23,if_neg h5',if_neg (by rw [h7]; simp)]
def turnG (e:GE):GE:=⟨e.t,e.f,e.w⟩
def oneG (e:GE):GE:=⟨e.f,e.t,1⟩
def PassK (e:GE) (b:Bool) (nx:Nat) (h:Hp):KC':=EqK (.tuple ⟨[.agg ⟨[.int .i64 (e.f:Int),.int .i64 (e.t:Int),.int .i64 e.w]⟩,.bool b]⟩) nx h
theorem turned_c {s:Bool} {e:GE} {h:Hp} {nx:Nat}:Cv Q O s 309 [.agg ⟨[.int .i64 (e.f:Int),.int .i64 (e.t:Int),.int .i64 e.w]⟩] h nx (PassK (turnG e) true nx h):=by
 refine turnedv ?_
 unfold turned
 simp (disch:=omega) only [SS,seval]
 exact ⟨rfl,(((Keep.refl _ _).set (Nat.le_refl _)).set (Nat.le_succ _)).set (Nat.le_succ _),by omega⟩
theorem plain1_c {s:Bool} {e:GE} {h:Hp} {nx:Nat}:Cv Q O s 230 [.agg ⟨[.int .i64 (e.f:Int),.int .i64 (e.t:Int),.int .i64 e.w]⟩] h nx (PassK (oneG e) true nx h):=by
 refine plain1v ?_
 unfold plain1
 simp (disch:=omega) only [SS,seval]
 exact ⟨rfl,((((Keep.refl _ _).set (Nat.le_refl _)).set (Nat.le_succ _)).set (Nat.le_refl _)).set (Nat.le_succ _),by omega⟩
def noLoop (e:GE):Bool:=decide (e.f≠e.t)
theorem simple1_c {s:Bool} {e:GE} {h:Hp} {nx:Nat}:Cv Q O s 226 [.agg ⟨[.int .i64 (e.f:Int),.int .i64 (e.t:Int),.int .i64 e.w]⟩] h nx (PassK e (noLoop e) nx h):=by
 refine simple1v ?_
 unfold simple1
 simp (disch:=omega) only [SS,seval]
 refine ⟨?_,(((Keep.refl _ _).set (Nat.le_refl _)).set (Nat.le_succ _)).set (Nat.le_succ _),by omega⟩
 have:(!((e.f:Int) == (e.t:Int)))=noLoop e:=by
  unfold noLoop
  by_cases h:e.f=e.t
  ·rw [h]; simp
  ·rw [decide_eq_true h,beq_eq_false_iff_ne.2 (by omega)]; rfl
 rw [this]
def MaJ (N p1 p4 f:Nat) (v0:Value) (p:GE→Bool) (m:GE→GE) (gs:List GE) (nx:Nat) (h:Hp) (q:Nat) (vs:List Value) (h':Hp) (nx':Nat):Prop :=
 ∃ (i:Nat) (o:Value),q=gs.length-i∧i≤gs.length∧vs=[.func (.func f) ⟨[]⟩ ⟨[]⟩,.pointer (some ⟨p1,0,none⟩),.pointer (some ⟨p4,0,none⟩),o,v0,.int .i64 (gs.length:Int),.int .i64 (i:Int)] ∧
  hget h' p1=some (.cells [.int .i64 (N:Int),v0] false)∧hget h' p4=some (.cells [.int .i64 0,.slice none 0 0] false)∧SlAt h' o encG 3 (((gs.take i).filter p).map m) (nx+1+1) nx'∧Keep nx h h'∧nx+1+1≤nx'
theorem made_c {s:Bool} {N f:Nat} {p:GE→Bool} {m:GE→GE} {gs:List GE} {v:Value} {h:Hp} {nx:Nat} (hv:SlPx h nx v encG gs) (hN:N≤2147483648) (hl:gs.length≤120) (hok:∀ g∈(gs.filter p).map m,GOk N g)
  (hf:∀ (e:GE) (h:Hp) (nx:Nat),Cv Q O s f [.agg ⟨[.int .i64 (e.f:Int),.int .i64 (e.t:Int),.int .i64 e.w]⟩] h nx (PassK (m e) (p e) nx h)) :
  Cv Q O s 225 [.agg ⟨[.int .i64 (N:Int),v]⟩,.func (.func f) ⟨[]⟩ ⟨[]⟩] h nx (CanK N ((gs.filter p).map m) nx h):=by
 refine madev ?_
 obtain ⟨a,cap,rfl,hc⟩:=id hv
 unfold made
 simp (disch:=omega) only [SS,seval]
 have hml:((gs.filter p).map m).length≤gs.length:=by rw [List.length_map]; exact List.length_filter_le _ _
 have K0:∀ {o o'},Keep nx h (hset (hset h nx o) (nx+1) o'):=((Keep.refl _ _).set (Nat.le_refl _)).set (Nat.le_succ _)
 refine Lp.mk (MaJ N nx (nx+1) f (.slice a gs.length cap) p m gs nx h) gs.length ⟨0,_,rfl,by omega,rfl,by rw [hold (by omega),hnew],hnew _ _ _,.inl ⟨rfl,rfl⟩,K0,Nat.le_refl _⟩ ?_
 rintro q _ h1 nx1 ⟨i,o,rfl,hi,rfl,g1,g4,S,hk,hle⟩
 rw [madeb0]
 unfold madel0
 simp (disch:=omega) only [SS,seval]
 refine ⟨fun hlt=>?_,fun hge=>?_⟩
 ·obtain ⟨e,he⟩:=get_ex hlt
  obtain ⟨_,b,sp,ro,c1,cs,hb,e1,hg⟩:=hv.at he
  cases e1
  have hrd:loadC (some 3) (i*3) (flat encG gs++cs) = .ok (.agg ⟨[.int .i64 (e.f:Int),.int .i64 (e.t:Int),.int .i64 e.w]⟩):=rdP (enc:=encG) (k:=3) (fun _=>rfl) he (cs:=cs)
  simp (disch:=omega) only [SS,(hk b hb).trans hg,hrd,seval]
  refine (hf e _ _).mono ?_
  rintro r h2 nx2 ⟨rfl,hk2,hle2⟩
  have kk:Keep nx1 h1 h2:=(((Keep.refl nx1 h1).set (Nat.le_refl _)).set (Nat.le_refl _)).trans hk2 (Nat.le_succ _)
  have ht:((gs.take (i+1)).filter p).map m=((gs.take i).filter p).map m++(if p e then [m e] else []):=by
   rw [List.take_add_one,he,List.filter_append,List.map_append]
   cases hp:p e <;> simp [hp]
  simp (disch:=omega) only [SS,seval]
  refine ⟨fun hp=>?_,fun hp=>?_⟩
  ·refine EK_appS (enc:=encG) (k:=3) (lo:=nx+1+1) (fun _=>rfl) (fun _=>rfl) (by omega) (S.keep (fun c h1 h2=>by rw [hold (by omega),hold (by omega),hold (by omega),kk c h2]) (by omega)) (by omega) (m e) (hnew _ _ _) rfl ?_ fun v5 h5 hs5 hk5=>?_
   ·have h1:=List.length_filter_le p (gs.take i)
    have h2:=List.length_take_le i gs
    rw [List.length_map]
    omega
   ·refine ⟨gs.length-(i+1),by omega,i+1,v5,rfl,by omega,by rw [wrap_s (by omega)],?_,?_,by rw [ht,hp]; exact hs5,fun c hc=>?_,by omega⟩
    ·rw [hk5 _ (by omega),hold (by omega),hold (by omega),hold (by omega),kk _ (by omega)]; exact g1
    ·rw [hk5 _ (by omega),hold (by omega),hold (by omega),hold (by omega),kk _ (by omega)]; exact g4
    ·rw [hk5 _ (by omega),hold (by omega),hold (by omega),hold (by omega),kk _ (by omega)]; exact hk c hc
  ·refine ⟨gs.length-(i+1),by omega,i+1,o,rfl,by omega,by rw [wrap_s (by omega)],?_,?_,?_,fun c hc=>?_,by omega⟩
   ·rw [hold (by omega),hold (by omega),kk _ (by omega)]; exact g1
   ·rw [hold (by omega),hold (by omega),kk _ (by omega)]; exact g4
   ·rw [ht,hp]
    simp only [Bool.false_eq_true,if_false,List.append_nil]
    exact S.keep (fun c h1 h2=>by rw [hold (by omega),hold (by omega),kk c h2]) (by omega)
   ·rw [hold (by omega),hold (by omega),kk _ (by omega)]; exact hk c hc
 ·have hie:i=gs.length:=by omega
  subst hie
  rw [List.take_length] at S
  obtain ⟨a2,n2,c2,rfl⟩:=S.form
  simp (disch:=omega) only [SS,g1,seval]
  refine (canon_c (SlPx.of S.rd) hN hok (by omega)).mono ?_
  rintro r h2 nx2 ⟨v2,cs,rfl,hcs,hcan,hcok,hcl,hk2,hle2⟩
  obtain ⟨a3,n3,c3,rfl⟩:=hcs.form
  have g4':=(hk2 (nx+1) (by omega)).trans g4
  simp (disch:=omega) only [SS,g4',seval]
  refine ⟨_,cs,rfl,?_,hcan,hcok,hcl,fun c hc=>by rw [hold (by omega),hk2 c (by omega)]; exact hk c hc,by omega⟩
  rcases hcs with hcs | ⟨b,h1,h2,e,hb⟩
  ·exact .inl hcs
  ·exact .inr ⟨b,by omega,h2,e,by rw [hold (by omega)]; exact hb⟩
def turnM (gs:List GE):List GE:=(gs.filter fun _=>true).map turnG
def simpleM (gs:List GE):List GE:=(gs.filter noLoop).map id
def plainM (gs:List GE):List GE:=(gs.filter fun _=>true).map oneG
theorem turnM_ok {N:Nat} {gs:List GE} (h:∀ g∈gs,GOk N g):∀ g∈turnM gs,GOk N g:=fun g hg=>by
 obtain ⟨e,he,rfl⟩:=List.mem_map.1 hg
 have:=h e (List.mem_filter.1 he).1
 exact ⟨this.2.1,this.1,this.2.2⟩
theorem simpleM_ok {N:Nat} {gs:List GE} (h:∀ g∈gs,GOk N g):∀ g∈simpleM gs,GOk N g:=fun g hg=>by
 obtain ⟨e,he,rfl⟩:=List.mem_map.1 hg
 exact h e (List.mem_filter.1 he).1
theorem plainM_ok {N:Nat} {gs:List GE} (h:∀ g∈gs,GOk N g):∀ g∈plainM gs,GOk N g:=fun g hg=>by
 obtain ⟨e,he,rfl⟩:=List.mem_map.1 hg
 have:=h e (List.mem_filter.1 he).1
 exact ⟨this.1,this.2.1,by show (0:Int)≤1; omega,by show (1:Int)≤2147483647; omega⟩
theorem mapf_len {p:GE→Bool} {m:GE→GE} (gs:List GE):((gs.filter p).map m).length≤gs.length:=by rw [List.length_map]; exact List.length_filter_le _ _
theorem turn_c {s:Bool} {N:Nat} {gs:List GE} {v:Value} {h:Hp} {nx:Nat} (hv:SlPx h nx v encG gs) (hN:N≤2147483648) (hl:gs.length≤120) (hok:∀ g∈gs,GOk N g) :
  Cv Q O s 229 [.agg ⟨[.int .i64 (N:Int),v]⟩] h nx (CanK N (turnM gs) nx h):=by
 refine turnv ?_
 obtain ⟨a,cap,rfl,hc⟩:=id hv
 unfold turn
 simp (disch:=omega) only [SS,seval]
 have K0:∀ {o o'},Keep nx h (hset (hset h nx o) (nx+1) o'):=((Keep.refl _ _).set (Nat.le_refl _)).set (Nat.le_succ _)
 refine (made_c (p:=fun _=>true) (m:=turnG) (hv.keep K0 (by omega)) hN hl (turnM_ok hok) fun e h nx=>turned_c).mono ?_
 rintro r h2 nx2 ⟨v2,cs,rfl,hcs,hcan,hcok,hcl,hk2,hle2⟩
 obtain ⟨a3,n3,c3,rfl⟩:=hcs.form
 have g4':=hk2 (nx+1) (by omega)
 rw [hnew] at g4'
 simp (disch:=omega) only [SS,g4',seval]
 refine ⟨_,cs,rfl,?_,hcan,hcok,Nat.le_trans hcl (Nat.le_refl _),fun c hc=>by rw [hold (by omega),hk2 c (by omega)]; exact K0 c hc,by omega⟩
 rcases hcs with hcs | ⟨b,h1,h2,e,hb⟩
 ·exact .inl hcs
 ·exact .inr ⟨b,by omega,h2,e,by rw [hold (by omega)]; exact hb⟩
theorem simple_c {s:Bool} {N:Nat} {gs:List GE} {v:Value} {h:Hp} {nx:Nat} (hv:SlPx h nx v encG gs) (hN:N≤2147483648) (hl:gs.length≤120) (hok:∀ g∈gs,GOk N g) :
  Cv Q O s 129 [.agg ⟨[.int .i64 (N:Int),v]⟩] h nx (CanK N (simpleM gs) nx h):=by
 refine simplev ?_
 obtain ⟨a,cap,rfl,hc⟩:=id hv
 unfold simple
 simp (disch:=omega) only [SS,seval]
 have K0:∀ {o o'},Keep nx h (hset (hset h nx o) (nx+1) o'):=((Keep.refl _ _).set (Nat.le_refl _)).set (Nat.le_succ _)
 refine (made_c (p:=noLoop) (m:=id) (hv.keep K0 (by omega)) hN hl (simpleM_ok hok) fun e h nx=>simple1_c).mono ?_
 rintro r h2 nx2 ⟨v2,cs,rfl,hcs,hcan,hcok,hcl,hk2,hle2⟩
 obtain ⟨a3,n3,c3,rfl⟩:=hcs.form
 have g4':=hk2 (nx+1) (by omega)
 rw [hnew] at g4'
 simp (disch:=omega) only [SS,g4',seval]
 refine ⟨_,cs,rfl,?_,hcan,hcok,Nat.le_trans hcl (Nat.le_refl _),fun c hc=>by rw [hold (by omega),hk2 c (by omega)]; exact K0 c hc,by omega⟩
 rcases hcs with hcs | ⟨b,h1,h2,e,hb⟩
 ·exact .inl hcs
 ·exact .inr ⟨b,by omega,h2,e,by rw [hold (by omega)]; exact hb⟩
theorem plain_c {s:Bool} {N:Nat} {gs:List GE} {v:Value} {h:Hp} {nx:Nat} (hv:SlPx h nx v encG gs) (hN:N≤2147483648) (hl:gs.length≤120) (hok:∀ g∈gs,GOk N g) :
  Cv Q O s 131 [.agg ⟨[.int .i64 (N:Int),v]⟩] h nx (CanK N (plainM gs) nx h):=by
 refine plainv ?_
 obtain ⟨a,cap,rfl,hc⟩:=id hv
 unfold plain
 simp (disch:=omega) only [SS,seval]
 have K0:∀ {o o'},Keep nx h (hset (hset h nx o) (nx+1) o'):=((Keep.refl _ _).set (Nat.le_refl _)).set (Nat.le_succ _)
 refine (made_c (p:=fun _=>true) (m:=oneG) (hv.keep K0 (by omega)) hN hl (plainM_ok hok) fun e h nx=>plain1_c).mono ?_
 rintro r h2 nx2 ⟨v2,cs,rfl,hcs,hcan,hcok,hcl,hk2,hle2⟩
 obtain ⟨a3,n3,c3,rfl⟩:=hcs.form
 have g4':=hk2 (nx+1) (by omega)
 rw [hnew] at g4'
 simp (disch:=omega) only [SS,g4',seval]
 refine ⟨_,cs,rfl,?_,hcan,hcok,Nat.le_trans hcl (Nat.le_refl _),fun c hc=>by rw [hold (by omega),hk2 c (by omega)]; exact K0 c hc,by omega⟩
 rcases hcs with hcs | ⟨b,h1,h2,e,hb⟩
 ·exact .inl hcs
 ·exact .inr ⟨b,by omega,h2,e,by rw [hold (by omega)]; exact hb⟩
theorem flat_cat {α:Type} {enc:α→List Value}:∀ (l m:List α),flat enc (l++m)=flat enc l++flat enc m
 | [],m=>rfl
 | x::l,m=>by show enc x++flat enc (l++m)=enc x++flat enc l++flat enc m; rw [flat_cat l m,List.append_assoc]
theorem cellL_flat:∀ l:List GE,cellL (flat encG l)=true
 | []=>rfl
 | x::l=>by
  show cellL (encG x++flat encG l)=true
  have ih:=cellL_flat l
  show (cellV (.int .i64 (x.f:Int))&&(cellV (.int .i64 (x.t:Int))&&(cellV (.int .i64 x.w)&&cellL (flat encG l))))=true
  rw [ih]; rfl
theorem app_many {h:Hp} {nx b k n:Nat} {acc y:List GE} {cs:List Value} {v2:Value} (hb:hget h b=some (.cells (flat encG acc++cs) false)) (hk:acc.length=k) (hn:k+y.length≤n) (hcs:cs.length=(n-k)*3) (hv:SlPx h nx v2 encG y) :
  ∃ h',appendA 3 h nx (.slice (some ⟨b,0,some 3⟩) k n) v2 = .ok (.val (.slice (some ⟨b,0,some 3⟩) (k+y.length) n) h' nx)∧hget h' b=some (.cells (flat encG (acc++y)++cs.drop (y.length*3)) false)∧∀ c,c≠b→hget h' c=hget h c:=by
 obtain ⟨a2,c2,rfl,hc⟩:=hv
 by_cases h0:y=[]
 ·subst h0
  refine ⟨h,?_,by rw [List.append_nil,List.length_nil,Nat.zero_mul,List.drop_zero]; exact hb,fun c _=>rfl⟩
  have hr:∀ (K:List Value→R OR),readA h a2 (Nat.mul 0 3) K=K []:=fun K=>by
   cases a2 <;> rfl
  show readA h a2 (Nat.mul 0 3) (fun new=>appGo 3 h nx (some ⟨b,0,some 3⟩) k n 0 new)=_
  rw [hr]
  unfold appGo
  rw [show Nat.ble (Nat.add k 0) n=true from Nat.ble_eq_true_of_le (by simpa using hn)]
  rfl
 ·obtain ⟨b2,sp,ro,cs2,hb2,rfl,hg⟩:=hc h0
  have hyl:0<y.length:=List.length_pos_iff.2 h0
  have hfl:=flat_len (enc:=encG) (k:=3) (fun _=>rfl) (l:=y)
  have hfa:=flat_len (enc:=encG) (k:=3) (fun _=>rfl) (l:=acc)
  show ∃ h',readA h (some ⟨b2,0,sp⟩) (Nat.mul y.length 3) (fun new=>appGo 3 h nx (some ⟨b,0,some 3⟩) k n y.length new)=_∧_
  rw [show Nat.mul y.length 3=y.length*3 from rfl,readA_eq hg (by omega) (by rw [List.length_append,hfl]; omega),List.drop_zero,← hfl,List.take_left]
  unfold appGo
  rw [show Nat.ble (Nat.add k y.length) n=true from Nat.ble_eq_true_of_le hn]
  obtain ⟨x,r,hxr⟩:∃ x r,flat encG y=x::r:=by
   cases hf:flat encG y with
   | nil=>rw [hf] at hfl; simp at hfl; omega
   | cons x r=>exact ⟨x,r,rfl⟩
  have hw:writeA h b (Nat.add 0 (Nat.mul k 3)) (flat encG y) = .ok (hset h b (.cells (flat encG (acc++y)++cs.drop (y.length*3)) false)):=by
   rw [show Nat.add 0 (Nat.mul k 3)=k*3 from Nat.zero_add _,writeA_cells hb (cellL_flat y) (by rw [List.length_append,hfa,hfl,hcs,hk]; omega)]
   have e1:(flat encG acc++cs).take (k*3)=flat encG acc:=by rw [← hk,← hfa,List.take_left]
   have e2:(flat encG acc++cs).drop (k*3+(flat encG y).length)=cs.drop (y.length*3):=by rw [← hk,← hfa,hfl,List.drop_length_add_append]
   rw [e1,e2,flat_cat]
  refine ⟨hset h b (.cells (flat encG (acc++y)++cs.drop (y.length*3)) false),?_,by rw [hgs,if_pos rfl,hfl],fun c hc=>by rw [hgs,if_neg hc]⟩
  rw [hxr] at hw ⊢
  show R.bind (writeA h b (Nat.add 0 (Nat.mul k 3)) (x::r)) _=_
  rw [hw]; rfl
theorem cap22 {P:Program} {x:Value} {n:Nat}:vCap Tryz.prog (.builtin .cap) [26] [.slice none 0 0] = .ok (.int .i64 0):=by kernel_rfl
theorem ze1:elemOfS Tryz.prog 26=some 84:=by kernel_rfl
theorem ze2:szOf Tryz.prog 84=some 3:=by kernel_rfl
theorem ze3:zeroOf Tryz.prog 84=some [.int .i64 0,.int .i64 0,.int .i64 0]:=by kernel_rfl
theorem ze4:smallT Tryz.prog 84=true:=by kernel_rfl
theorem ze5:isIntT Tryz.prog (some 3)=true:=by kernel_rfl
theorem repL_len (n:Nat) (z:List Value):(repL n z).length=n*z.length:=by
 induction n with
 | zero=>simp [repL]
 | succ n ih=>simp [repL,ih,Nat.add_mul,lapp_eq]; omega
theorem apz {n:Nat} {h:Hp} {nx:Nat} (h0:0<n) (h1:n≤1000):builtinA Tryz.prog .append [26,3] h nx [.slice none 0 0,.int .i64 (n:Int)] = .ok (.val (.slice (some ⟨nx,0,some 3⟩) n n) (hset h nx (.cells (repL n [.int .i64 0,.int .i64 0,.int .i64 0]) false)) (nx+1)):=by
 show R.of "append" (elemOfS Tryz.prog 26) (fun e=>R.of "append" (szOf Tryz.prog e) (fun s=>R.of "append" (zeroOf Tryz.prog e) (fun z=>bif Nat.beq (llen z) s&&smallT Tryz.prog e then append2 Tryz.prog [26,3] z s h nx (.slice none 0 0) (.int .i64 (n:Int)) else .no "append - element")))=_
 rw [ze1]
 show R.of "append" (szOf Tryz.prog 84) (fun s=>R.of "append" (zeroOf Tryz.prog 84) (fun z=>bif Nat.beq (llen z) s&&smallT Tryz.prog 84 then append2 Tryz.prog [26,3] z s h nx (.slice none 0 0) (.int .i64 (n:Int)) else .no "append - element"))=_
 rw [ze2,ze3,ze4]
 show append2 Tryz.prog [26,3] [.int .i64 0,.int .i64 0,.int .i64 0] 3 h nx (.slice none 0 0) (.int .i64 (n:Int))=_
 unfold append2
 rw [show lget [26,3] 1=some 3 from rfl,ze5]
 show (bif Nat.ble n 1000000 then appGo 3 h nx none 0 0 n (repL n [.int .i64 0,.int .i64 0,.int .i64 0]) else .no "append")=_
 rw [show Nat.ble n 1000000=true from Nat.ble_eq_true_of_le (by omega)]
 show appGo 3 h nx none 0 0 n _=_
 unfold appGo
 rw [show Nat.ble (Nat.add 0 n) 0=false from by
  cases hb:Nat.ble (Nat.add 0 n) 0 with
  | false=>rfl
  | true=>have:=Nat.le_of_ble_eq_true hb; have e:Nat.add 0 n=n:=Nat.zero_add n; omega]
 rw [show (Nat.ble (Nat.mul (Nat.add 0 n) 3) 1000000&&Nat.ble (Nat.add 0 n) 1000000)=true from by
  rw [show Nat.add 0 n=n from Nat.zero_add n]
  simp only [Bool.and_eq_true,Nat.ble_eq]
  constructor
  ·show n*3≤_; omega
  ·omega]
 show growN h nx 3 _ (Nat.add 0 n)=_
 rw [show Nat.add 0 n=n from Nat.zero_add n]
 exact growN_eq (by omega)
theorem grow_c {s:Bool} {n:Nat} {h:Hp} {nx:Nat} (hn:n≤1000):Cv Q O s 308 [.slice none 0 0,.int .i64 (n:Int)] h nx (fun r h' nx'=>(n=0∧r = .slice none 0 0∧h'=h∧nx'=nx)∨(0<n∧r = .slice (some ⟨nx,0,some 3⟩) 0 n∧(∃ cs,hget h' nx=some (.cells cs false)∧cs.length=n*3)∧Keep nx h h'∧nx'=nx+1)):=by
 refine growv ?_
 unfold grow
 rw [cap22 (P:=Tryz.prog) (x:=.nilFunc) (n:=0)]
 have w0:IntKind.wrap .i64 (0-((0:Nat):Int))=0:=by rfl
 have w1:IntKind.wrap .i64 ((n:Int)-0)=(n:Int):=by rw [Int.sub_zero]; exact wrapN n (by omega)
 simp (disch:=omega) only [SS,↓reduceIte,Nat.reduceAdd,Nat.reduceSub,Nat.reduceMul,Nat.reduceLT,Nat.reduceLeDiff,Nat.reduceEqDiff,Int.reduceBEq,Int.reduceLT,Int.reduceNeg,w0,w1]
 refine ⟨fun h=>absurd h (by omega),fun _=>⟨fun h0=>?_,fun h0=>.inl (by omega)⟩⟩
 rw [show vSl 3 (.slice none 0 0) none (some (.int .i64 0)) none = .ok (.slice none 0 0) from rfl,RK_ok,show Q=Tryz.prog from rfl,apz (by omega) hn]
 show RK (vSl 3 (.slice (some ⟨nx,0,some 3⟩) n n) none (some (.int .i64 ((0:Nat):Int))) none) _
 have hsl:vSl 3 (.slice (some ⟨nx,0,some 3⟩) n n) none (some (.int .i64 ((0:Nat):Int))) none = .ok (.slice (some ⟨nx,0,some 3⟩) 0 n):=by
  obtain ⟨m,rfl⟩:∃ m,n=m+1:=⟨n-1,by omega⟩
  show sliceV 3 (some ⟨nx,0,some 3⟩) (m+1) false (m+1) 0 0=_
  unfold sliceV
  rw [show (Nat.ble (m+1) (m+1)&&(Nat.ble 0 (m+1)&&Nat.ble 0 0))=true by simp only [Bool.and_eq_true,Nat.ble_eq]; omega]
  rfl
 rw [hsl,RK_ok]
 exact .inr ⟨by omega,rfl,⟨_,hnew _ _ _,by rw [repL_len]; rfl⟩,fun c hc=>hold (by omega),rfl⟩
def ac2 (l1 l2:List GE):Nat→List GE
 | 0=>[]
 | 1=>l1
 | _=>l1++l2
def CcJ0 (l1 l2:List GE) (p:Nat) (h:Hp) (nx:Nat) (m:Nat) (vs:List Value) (h':Hp) (nx':Nat):Prop :=
 ∃ i,m=2-i∧i≤2∧vs=[.slice (some ⟨p,0,none⟩) 2 2,.int .i64 ((ac2 l1 l2 i).length:Int),.slice (some ⟨p,0,none⟩) 2 2,.int .i64 2,.int .i64 (i:Int)]∧h'=h∧nx'=nx
def CcO (h:Hp) (lo hi n:Nat) (acc:List GE) (o:Value):Prop:=(n=0∧acc=[]∧o = .slice none 0 0)∨∃ b cs,lo≤b∧b<hi∧o = .slice (some ⟨b,0,some 3⟩) acc.length n∧hget h b=some (.cells (flat encG acc++cs) false)∧cs.length=(n-acc.length)*3
def CcJ1 (l1 l2:List GE) (n p:Nat) (h:Hp) (nx:Nat) (m:Nat) (vs:List Value) (h':Hp) (nx':Nat):Prop :=
 ∃ (i:Nat) (o:Value),m=2-i∧i≤2∧vs=[o,.slice (some ⟨p,0,none⟩) 2 2,.int .i64 2,.int .i64 (i:Int)]∧CcO h' nx nx' n (ac2 l1 l2 i) o∧Keep nx h h'∧nx≤nx'
theorem concat_c {s:Bool} {p c:Nat} {l1 l2:List GE} {v1 v2:Value} {ro:Bool} {h:Hp} {nx:Nat} (hp:hget h p=some (.cells [v1,v2] ro)) (hpn:p<nx) (h1:SlPx h nx v1 encG l1) (h2:SlPx h nx v2 encG l2) (hl:l1.length+l2.length≤1000) :
  Cv Q O s 228 [.slice (some ⟨p,0,none⟩) 2 2] h nx (fun r h' nx'=>SlPx h' nx' r encG (l1++l2)∧Keep nx h h'∧nx≤nx'):=by
 refine concatv ?_
 obtain ⟨a1,c1,rfl,hc1⟩:=id h1
 obtain ⟨a2,c2,rfl,hc2⟩:=id h2
 unfold concat
 simp (disch:=omega) only [SS,↓reduceIte,Nat.reduceAdd,Nat.reduceSub,Nat.reduceMul,Nat.reduceLT,Nat.reduceLeDiff,Nat.reduceEqDiff,Int.reduceBEq,Int.reduceLT,Int.reduceNeg]
 refine Lp.mk (CcJ0 l1 l2 p h nx) 2 ⟨0,rfl,by omega,rfl,rfl,rfl⟩ ?_
 rintro m _ h3 nx3 ⟨i,rfl,hi,rfl,e1,e2⟩
 rw [e1,e2,concatb0]
 unfold concatl0
 match i,hi with
 | 0,_ =>
  have w:IntKind.wrap .i64 (((ac2 l1 l2 0).length:Int)+(l1.length:Int))=((ac2 l1 l2 1).length:Int):=by
   rw [show ((ac2 l1 l2 0).length:Int)+(l1.length:Int)=(l1.length:Int) by simp [ac2]]
   exact wrapN _ (by omega)
  simp (disch:=omega) only [SS,↓reduceIte,Nat.reduceAdd,Nat.reduceSub,Nat.reduceMul,Nat.reduceLT,Nat.reduceLeDiff,Nat.reduceEqDiff,Int.reduceBEq,Int.reduceLT,Int.reduceNeg,hp,w]
  exact ⟨fun _=>⟨fun h=>absurd h (by omega),fun _=>⟨1,by omega,1,rfl,by omega,rfl,rfl,rfl⟩⟩,fun h=>absurd (show ((0:Nat):Int)<2 by omega) h⟩
 | 1,_ =>
  have w:IntKind.wrap .i64 (((ac2 l1 l2 1).length:Int)+(l2.length:Int))=((ac2 l1 l2 2).length:Int):=by
   rw [show ((ac2 l1 l2 1).length:Int)+(l2.length:Int)=((l1.length+l2.length:Nat):Int) by simp [ac2]]
   rw [wrapN _ (by omega)]; simp [ac2]
  simp (disch:=omega) only [SS,↓reduceIte,Nat.reduceAdd,Nat.reduceSub,Nat.reduceMul,Nat.reduceLT,Nat.reduceLeDiff,Nat.reduceEqDiff,Int.reduceBEq,Int.reduceLT,Int.reduceNeg,hp,w]
  exact ⟨fun _=>⟨fun h=>absurd h (by omega),fun _=>⟨0,by omega,2,rfl,by omega,rfl,rfl,rfl⟩⟩,fun h=>absurd (show ((1:Nat):Int)<2 by omega) h⟩
 | 2,_ =>
  simp (disch:=omega) only [SS,↓reduceIte,Nat.reduceAdd,Nat.reduceSub,Nat.reduceMul,Nat.reduceLT,Nat.reduceLeDiff,Nat.reduceEqDiff,Int.reduceBEq,Int.reduceLT,Int.reduceNeg]
  refine ⟨fun h=>absurd h (by omega),fun _=>?_⟩
  have htot:(ac2 l1 l2 2).length=l1.length+l2.length:=by simp [ac2]
  refine (grow_c (by omega)).mono ?_
  intro r h4 nx4 hg
  generalize hn:(ac2 l1 l2 2).length=n at hg htot
  have st:CcO h4 nx nx4 n [] r∧Keep nx h h4∧nx≤nx4:=by
   rcases hg with ⟨h0,rfl,rfl,rfl⟩ | ⟨h0,rfl,⟨cs,hb,hcs⟩,hk,rfl⟩
   ·exact ⟨.inl ⟨h0,rfl,rfl⟩,Keep.refl _ _,Nat.le_refl _⟩
   ·exact ⟨.inr ⟨nx,cs,Nat.le_refl _,by omega,rfl,hb,by rw [hcs]; rfl⟩,hk,by omega⟩
  obtain ⟨st,hk4,hle4⟩:=st
  refine Lp.mk (CcJ1 l1 l2 n p h nx) 2 ⟨0,r,rfl,by omega,rfl,st,hk4,hle4⟩ ?_
  clear st hk4 hle4 hg
  rintro m _ h5 nx5 ⟨i,o,rfl,hi,rfl,st,hk5,hle5⟩
  rw [concatb1]
  unfold concatl1
  have hp5:=(hk5 p hpn).trans hp
  have step:∀ (j:Nat) (y:List GE) (vy:Value),SlPx h nx vy encG y→ac2 l1 l2 (j+1)=ac2 l1 l2 j++y→(ac2 l1 l2 (j+1)).length≤n→CcO h5 nx nx5 n (ac2 l1 l2 j) o→j+1≤2 →
    EK (orR (appendA 3 h5 nx5 o vy)) fun x23 h24 n25=>RK (bin Q .add 3 (.int .i64 (j:Int)) (.int .i64 1)) fun x26=>∃ m',m'<2-j∧CcJ1 l1 l2 n p h nx m' [x23,.slice (some ⟨p,0,none⟩) 2 2,.int .i64 2,x26] h24 n25:=by
   intro j y vy hy he hlen st hj
   rcases st with ⟨hn0,hac,rfl⟩ | ⟨b,cs,hb1,hb2,rfl,hb,hcs⟩
   ·have hy0:y=[]:=by
     rw [he,hac,hn0] at hlen
     exact List.eq_nil_of_length_eq_zero (by simpa using hlen)
    subst hy0
    obtain ⟨a3,c3,rfl,_⟩:=hy
    have ea:appendA 3 h5 nx5 (.slice none 0 0) (.slice a3 ([]:List GE).length c3) = .ok (.val (.slice none 0 0) h5 nx5):=by cases a3 <;> rfl
    rw [ea]
    simp (disch:=omega) only [SS,↓reduceIte,Nat.reduceAdd,Nat.reduceSub,Nat.reduceMul,Nat.reduceLT,Nat.reduceLeDiff,Nat.reduceEqDiff,Int.reduceBEq,Int.reduceLT,Int.reduceNeg,orR,EK_v,wrap_s (show j<1000000000000 by omega)]
    exact ⟨2-(j+1),by omega,j+1,_,rfl,hj,rfl,.inl ⟨hn0,by rw [he,hac]; rfl,rfl⟩,hk5,hle5⟩
   ·rw [he,List.length_append] at hlen
    obtain ⟨h6,e6,hb6,hf6⟩:=app_many (nx:=nx5) hb rfl (by omega) hcs (hy.keep hk5 hle5)
    rw [e6]
    simp (disch:=omega) only [SS,↓reduceIte,Nat.reduceAdd,Nat.reduceSub,Nat.reduceMul,Nat.reduceLT,Nat.reduceLeDiff,Nat.reduceEqDiff,Int.reduceBEq,Int.reduceLT,Int.reduceNeg,orR,EK_v,wrap_s (show j<1000000000000 by omega)]
    refine ⟨2-(j+1),by omega,j+1,_,rfl,hj,rfl,.inr ⟨b,cs.drop (y.length*3),hb1,hb2,?_,?_,?_⟩,fun c hc=>by rw [hf6 c (by omega)]; exact hk5 c hc,hle5⟩
    ·rw [he,List.length_append]
    ·rw [he]; exact hb6
    ·rw [he,List.length_append,List.length_drop,hcs]; omega
  match i,hi with
  | 0,_ =>
   simp (disch:=omega) only [SS,↓reduceIte,Nat.reduceAdd,Nat.reduceSub,Nat.reduceMul,Nat.reduceLT,Nat.reduceLeDiff,Nat.reduceEqDiff,Int.reduceBEq,Int.reduceLT,Int.reduceNeg,hp5]
   exact ⟨fun _=>step 0 l1 _ h1 rfl (by rw [htot]; simp [ac2]) st (by omega),fun h=>absurd (show ((0:Nat):Int)<2 by omega) h⟩
  | 1,_ =>
   simp (disch:=omega) only [SS,↓reduceIte,Nat.reduceAdd,Nat.reduceSub,Nat.reduceMul,Nat.reduceLT,Nat.reduceLeDiff,Nat.reduceEqDiff,Int.reduceBEq,Int.reduceLT,Int.reduceNeg,hp5]
   exact ⟨fun _=>step 1 l2 _ h2 rfl (by rw [hn]; exact Nat.le_refl _) st (by omega),fun h=>absurd (show ((1:Nat):Int)<2 by omega) h⟩
  | 2,_ =>
   simp (disch:=omega) only [SS,↓reduceIte,Nat.reduceAdd,Nat.reduceSub,Nat.reduceMul,Nat.reduceLT,Nat.reduceLeDiff,Nat.reduceEqDiff,Int.reduceBEq,Int.reduceLT,Int.reduceNeg]
   refine ⟨fun h=>absurd h (by omega),fun _=>⟨?_,hk5,hle5⟩⟩
   rcases st with ⟨hn0,hac,rfl⟩ | ⟨b,cs,hb1,hb2,rfl,hb,hcs⟩
   ·have hac:l1++l2=[]:=hac
    rw [hac]
    exact ⟨none,0,rfl,fun h=>absurd rfl h⟩
   ·exact ⟨some ⟨b,0,some 3⟩,n,rfl,fun _=>⟨b,some 3,false,cs,hb2,rfl,hb⟩⟩
theorem both_c {s:Bool} {N:Nat} {gs:List GE} {v:Value} {h:Hp} {nx:Nat} (hv:SlPx h nx v encG gs) (hN:N≤2147483648) (hl:gs.length≤60) (hok:∀ g∈gs,GOk N g) :
  Cv Q O s 130 [.agg ⟨[.int .i64 (N:Int),v]⟩] h nx (fun r h' nx'=>∃ ts,IsCan ((turnM gs).map gE) (ts.map gE)∧ts.length≤gs.length∧(∀ g∈ts,GOk N g)∧CanK N (gs++ts) nx h r h' nx'):=by
 refine bothv ?_
 obtain ⟨a,cap,rfl,hc⟩:=id hv
 unfold both
 simp (disch:=omega) only [SS,seval]
 have K0:∀ {o o'},Keep nx h (hset (hset h nx o) (nx+1) o'):=((Keep.refl _ _).set (Nat.le_refl _)).set (Nat.le_succ _)
 refine (turn_c (hv.keep K0 (by omega)) hN (by omega) hok).mono ?_
 rintro r h1 nx1 ⟨v1,ts,rfl,hts,htc,htok,htl,hk1,hle1⟩
 have htl2:ts.length≤gs.length:=Nat.le_trans htl (mapf_len gs)
 have g0:=hk1 nx (by omega)
 rw [hold (by omega),hnew] at g0
 have g4:=hk1 (nx+1) (by omega)
 rw [hnew] at g4
 obtain ⟨a3,n3,c3,rfl⟩:=hts.form
 refine ⟨hle1,?_⟩
 have K1:Keep nx h h1:=K0.trans hk1 (by omega)
 simp (disch:=omega) only [SS,g0,cfillS_1,seval]
 have k2:∀ {o},Keep nx1 h1 (hset h1 nx1 o):=(Keep.refl _ _).set (Nat.le_refl _)
 refine (concat_c (c:=2) (hnew _ _ _) (Nat.lt_succ_self _) ((hv.keep K1 (by omega)).keep k2 (Nat.le_succ _)) ((SlPx.of hts.rd).keep k2 (Nat.le_succ _)) (by omega)).mono ?_
 rintro r h3 nx3 ⟨h5,hk3,hle3⟩
 obtain ⟨a5,c5,rfl,hc5⟩:=id h5
 have g0':=(hk3 nx (by omega)).trans ((hold (by omega)).trans g0)
 have g4':=(hk3 (nx+1) (by omega)).trans ((hold (by omega)).trans g4)
 have K3:Keep nx h h3:=fun c hc=>by rw [hk3 c (by omega),hold (by omega)]; exact K1 c hc
 refine ⟨hle3,?_⟩
 simp (disch:=omega) only [SS,g0',cfillS_1,seval]
 have hok2:∀ g∈gs++ts,GOk N g:=fun g hg=>by
  rcases List.mem_append.1 hg with hg | hg
  ·exact hok g hg
  ·exact htok g hg
 refine (canon_c h5 hN hok2 (by rw [List.length_append]; omega)).mono ?_
 rintro r h6 nx6 ⟨v6,cs,rfl,hcs,hcan,hcok,hcl,hk6,hle6⟩
 obtain ⟨a7,n7,c7,rfl⟩:=hcs.form
 have g4'':=(hk6 (nx+1) (by omega)).trans g4'
 refine ⟨hle6,?_⟩
 simp (disch:=omega) only [SS,g4'',seval]
 refine ⟨ts,htc,htl2,htok,_,cs,rfl,?_,hcan,hcok,hcl,fun c hc=>by rw [hold (by omega),hk6 c (by omega)]; exact K3 c hc,by omega⟩
 rcases hcs with hcs | ⟨b,h1,h2,e,hb⟩
 ·exact .inl hcs
 ·exact .inr ⟨b,by omega,h2,e,by rw [hold (by omega)]; exact hb⟩
def RowsV (r c:Int) (a1 a2 a3:Option Addr) (n1 n2 n3 c1 c2 c3:Nat):Value:=.agg ⟨[.int .i64 r,.int .i64 c,.slice a1 n1 c1,.slice a2 n2 c2,.slice a3 n3 c3]⟩
def SomeM (r:Value):Prop:=∃ (x y:Int) (a1 a2 a3:Option Addr) (n1 n2 n3 c1 c2 c3:Nat),r=RowsV x y a1 a2 a3 n1 n2 n3 c1 c2 c3
theorem empty_c {s:Bool} {N:Nat} {h:Hp} {nx:Nat} (hN:N≤4096):Cv Q O s 310 [.int .i64 (N:Int),.int .i64 (N:Int)] h nx (fun r h' nx'=>r = .agg ⟨[.int .i64 (N:Int),.int .i64 (N:Int),.slice (some ⟨nx+1,0,none⟩) (N+1) (N+1),.slice none 0 0,.slice none 0 0]⟩∧hget h' (nx+1)=some (.cells (ints (List.replicate (N+1) 0)) false)∧Keep nx h h'∧nx'=nx+1+1):=by
 refine emptyv ?_
 unfold empty
 have r0:List.replicate (N+1) (Value.int .i64 0)=ints (List.replicate (N+1) 0):=by simp [ints]
 simp (disch:=omega) only [SS,wrap_s (show N<1000000000000 by omega),r0,seval]
 exact ((Keep.refl _ _).set (Nat.le_refl _)).set (Nat.le_succ _) |>.set (Nat.le_refl _)
def TwoI (h:Hp) (v1 v2:Value) (l1 l2:List Int) (lo hi:Nat):Prop :=
 (l1=[]∧l2=[]∧v1 = .slice none 0 0∧v2 = .slice none 0 0)∨∃ b1 b2,b1≠b2∧lo≤b1∧b1<hi∧lo≤b2∧b2<hi∧v1 = .slice (some ⟨b1,0,some 1⟩) l1.length l1.length∧v2 = .slice (some ⟨b2,0,some 1⟩) l2.length l2.length ∧
  hget h b1=some (.cells (ints l1) false)∧hget h b2=some (.cells (ints l2) false)
theorem TwoI.gr {h:Hp} {v1 v2:Value} {l1 l2:List Int} {lo hi:Nat} (T:TwoI h v1 v2 l1 l2 lo hi):∃ o1 o2,Gr h encI 1 v1 l1 o1∧Gr h encI 1 v2 l2 o2∧(∀ b,o1=some b→lo≤b∧b<hi∧o2≠some b)∧∀ b,o2=some b→lo≤b∧b<hi:=by
 rcases T with ⟨rfl,rfl,rfl,rfl⟩ | ⟨b1,b2,hne,h1,h2,h3,h4,rfl,rfl,g1,g2⟩
 ·exact ⟨none,none,Gr.nil,Gr.nil,⟨fun b e=>(by cases e),fun b e=>(by cases e)⟩⟩
 ·rw [← flat_ints] at g1 g2
  exact ⟨some b1,some b2,.own g1,.own g2,fun b e=>by cases e; exact ⟨h1,h2,fun e=>hne (by cases e; rfl)⟩,fun b e=>by cases e; exact ⟨h3,h4⟩⟩
theorem TwoI.form {h:Hp} {v1 v2:Value} {l1 l2:List Int} {lo hi:Nat} (T:TwoI h v1 v2 l1 l2 lo hi):∃ a1 n1 c1 a2 n2 c2,v1 = .slice a1 n1 c1∧v2 = .slice a2 n2 c2:=by
 rcases T with ⟨_,_,rfl,rfl⟩ | ⟨b1,b2,_,_,_,_,_,rfl,rfl,_⟩
 ·exact ⟨_,_,_,_,_,_,rfl,rfl⟩
 ·exact ⟨_,_,_,_,_,_,rfl,rfl⟩
def BuJ0 (N p1 p7 p5 lo:Nat) (vt:Value) (ts:List GE) (h0:Hp) (nx:Nat) (m:Nat) (vs:List Value) (h':Hp) (nx':Nat):Prop :=
 ∃ (i:Nat) (S:List Int) (vc vv:Value),m=ts.length-i∧i≤ts.length∧vs=[.int .i64 (N:Int),.pointer (some ⟨p1,0,none⟩),.pointer (some ⟨p7,0,none⟩),vt,.int .i64 (ts.length:Int),.int .i64 (i:Int)] ∧
  hget h' p7=some (.cells [.int .i64 (N:Int),.int .i64 (N:Int),.slice (some ⟨p5,0,none⟩) (N+1) (N+1),vc,vv] false)∧hget h' p5=some (.cells (ints S) false)∧S.length=N+1∧(∀ x∈S,0≤x∧x≤(i:Int)) ∧
  TwoI h' vc vv ((ts.take i).map fun e=>(e.t:Int)) ((ts.take i).map GE.w) lo nx'∧(∀ c,c<lo→c≠p7→c≠p5→hget h' c=hget h0 c)∧lo≤nx'
def BuJ1 (N p1 p7 p5 lo:Nat) (vc vv:Value) (h0:Hp) (nx:Nat) (m:Nat) (vs:List Value) (h':Hp) (nx':Nat):Prop :=
 ∃ (i:Nat) (S:List Int),m=N-i∧i≤N∧vs=[.pointer (some ⟨p1,0,none⟩),.pointer (some ⟨p7,0,none⟩),.int .i64 (N:Int),.int .i64 (i:Int)] ∧
  hget h' p7=some (.cells [.int .i64 (N:Int),.int .i64 (N:Int),.slice (some ⟨p5,0,none⟩) (N+1) (N+1),vc,vv] false)∧hget h' p5=some (.cells (ints S) false)∧S.length=N+1∧(∀ (k:Nat) (x:Int),S[k]? = some x→0≤x∧(x≤120∨(k≤i∧x≤120*((k:Int)+1)))) ∧
  (∀ c,c≠p5→hget h' c=hget h0 c)∧nx'=nx
def RowsR (h:Hp) (lo hi:Nat) (r:Value):Prop:=∃ (x y:Int) (v1 v2 v3:Value) (st cl vl:List Int),r = .agg ⟨[.int .i64 x,.int .i64 y,v1,v2,v3]⟩∧SlNw h lo hi v1 encI st∧SlNw h lo hi v2 encI cl∧SlNw h lo hi v3 encI vl∧st.length≤4097∧cl.length≤120∧vl.length≤120
theorem RowsR.form {h:Hp} {lo hi:Nat} {r:Value} (H:RowsR h lo hi r):SomeM r:=by
 obtain ⟨x,y,v1,v2,v3,st,cl,vl,rfl,⟨a1,c1,rfl,_⟩,⟨a2,c2,rfl,_⟩,⟨a3,c3,rfl,_⟩,_⟩:=H
 exact ⟨_,_,_,_,_,_,_,_,_,_,_,rfl⟩
theorem RowsR.keep {h h':Hp} {lo hi lo' hi':Nat} {r:Value} (H:RowsR h lo hi r) (hk:∀ b,lo≤b→b<hi→hget h' b=hget h b) (h1:lo'≤lo) (h2:hi≤hi'):RowsR h' lo' hi' r:=by
 obtain ⟨x,y,v1,v2,v3,st,cl,vl,rfl,s1,s2,s3,l⟩:=H
 exact ⟨x,y,v1,v2,v3,st,cl,vl,rfl,s1.keep hk h1 h2,s2.keep hk h1 h2,s3.keep hk h1 h2,l⟩
theorem nw_nil {h:Hp} {lo hi:Nat}:SlNw h lo hi (.slice none 0 0) encI []:=⟨none,0,rfl,fun e=>absurd rfl e⟩
theorem RowsR.zero {h:Hp} {lo hi:Nat}:RowsR h lo hi (.agg ⟨[.int .i64 0,.int .i64 0,.slice none 0 0,.slice none 0 0,.slice none 0 0]⟩):=⟨0,0,_,_,_,[],[],[],rfl,nw_nil,nw_nil,nw_nil,by simp,by simp,by simp⟩
theorem TwoI.nw {h:Hp} {v1 v2:Value} {l1 l2:List Int} {lo hi:Nat} (T:TwoI h v1 v2 l1 l2 lo hi):SlNw h lo hi v1 encI l1∧SlNw h lo hi v2 encI l2:=by
 rcases T with ⟨rfl,rfl,rfl,rfl⟩ | ⟨b1,b2,hne,h1,h2,h3,h4,rfl,rfl,g1,g2⟩
 ·exact ⟨nw_nil,nw_nil⟩
 ·rw [← flat_ints] at g1 g2
  exact ⟨⟨_,_,rfl,fun _=>⟨b1,_,_,h1,h2,rfl,g1⟩⟩,⟨_,_,rfl,fun _=>⟨b2,_,_,h3,h4,rfl,g2⟩⟩⟩
def BuiltK (nx:Nat) (h:Hp):KC':=fun r h' nx'=>RowsR h' nx nx' r∧Keep nx h h'∧nx≤nx'
theorem built_c {s:Bool} {N:Nat} {ts:List GE} {v:Value} {h:Hp} {nx:Nat} (hv:SlPx h nx v encG ts) (hN:N≤4096) (hl:ts.length≤120) (hok:∀ g∈ts,GOk N g) :
  Cv Q O s 231 [.int .i64 (N:Int),.int .i64 (N:Int),v] h nx (BuiltK nx h):=by
 refine builtv ?_
 obtain ⟨a,cap,rfl,hc⟩:=id hv
 unfold built
 simp (disch:=omega) only [SS,seval]
 refine (empty_c hN).mono ?_
 rintro r h1 _ ⟨rfl,hb1,hk1,rfl⟩
 have g0:=hk1 nx (by omega)
 rw [hnew] at g0
 simp (disch:=omega) only [SS,seval]
 refine Lp.mk (BuJ0 N nx (nx+1+1+1) (nx+1+1) (nx+1+1+1+1) (.slice a ts.length cap) ts h1 nx) ts.length ⟨0,List.replicate (N+1) 0,_,_,rfl,by omega,rfl,hnew _ _ _,by rw [hold (by omega),hold (by omega)]; exact hb1,by simp,fun x hx=>by rw [List.eq_of_mem_replicate hx]; omega,.inl ⟨rfl,rfl,rfl,rfl⟩,fun c h1 h2 h3=>by rw [hold h2,hold h2],Nat.le_refl _⟩ ?_
 rintro m _ h2 nx2 ⟨i,S,vc,vv,rfl,hi,rfl,g7,g5,hSl,hSb,T,hf,hle⟩
 obtain ⟨o1,o2,G1,G2,B1,B2⟩:=T.gr
 obtain ⟨a1,n1,c1,a2,n2,c2,rfl,rfl⟩:=T.form
 rw [builtb0]
 unfold builtl0
 simp (disch:=omega) only [SS,seval]
 refine ⟨fun hlt=>?_,fun hge=>?_⟩
 ·obtain ⟨e,he⟩:=get_ex hlt
  have hem:=hok e (List.mem_of_getElem? he)
  have hef:e.f<N:=hem.1
  obtain ⟨_,b,sp,ro,cx,cs,hb,e1,hg⟩:=hv.at he
  cases e1
  have hg2:=(hf b (by omega) (by omega) (by omega)).trans ((hk1 b (by omega)).trans ((hold (by omega)).trans hg))
  have hrd:loadC (some 3) (i*3) (flat encG ts++cs) = .ok (.agg ⟨[.int .i64 (e.f:Int),.int .i64 (e.t:Int),.int .i64 e.w]⟩):=rdP (enc:=encG) (k:=3) (fun _=>rfl) he (cs:=cs)
  obtain ⟨x,hx⟩:=get_ex (l:=S) (i:=e.f+1) (by omega)
  have hxb:=hSb x (List.mem_of_getElem? hx)
  have hwx:IntKind.wrap .i64 (x+1)=x+1:=wrapD0 (by omega) (by omega)
  simp (disch:=omega) only [SS,hg2,hrd,g7,g5,wrap_s (show e.f<1000000000000 by omega),ints_get hx,hwx,seval]
  refine ⟨by omega,?_⟩
  have hcl:((ts.take i).map fun e=>(e.t:Int)).length=i:=by rw [List.length_map,List.length_take]; omega
  have hvl:((ts.take i).map GE.w).length=i:=by rw [List.length_map,List.length_take]; omega
  refine EK_appI (G1.keep fun c hc=>by have:=B1 c hc; rw [hold (by omega),hold (by omega),hold (by omega),hold (by omega)]) (hnew _ _ _) (by omega) fun h3 hn3 hf3=>?_
  have g73:hget h3 (nx+1+1+1)=some (.cells [.int .i64 (N:Int),.int .i64 (N:Int),.slice (some ⟨nx+1+1,0,none⟩) (N+1) (N+1),.slice a1 n1 c1,.slice a2 n2 c2] false):=by
   rw [hf3 _ (by omega) (fun e=>by have:=B1 _ e; omega),hold (by omega),hold (by omega),hold (by omega),hold (by omega)]; exact g7
  have ge3:hget h3 nx2=some (.cells [.int .i64 (e.f:Int),.int .i64 (e.t:Int),.int .i64 e.w] false):=by
   rw [hf3 _ (by omega) (fun e=>by have:=B1 _ e; omega),hold (by omega),hold (by omega),hnew]
  simp (disch:=omega) only [SS,g73,ge3,seval]
  refine EK_appI (G2.keep fun c hc=>?_) (hnew _ _ _) (by omega) fun h4 hn4 hf4=>?_
  ·have:=B2 c hc
   rw [hold (by omega),hold (by omega),hf3 c (by omega) (fun e=>(B1 c e).2.2 hc),hold (by omega),hold (by omega),hold (by omega),hold (by omega)]
  have g74:hget h4 (nx+1+1+1)=some (.cells [.int .i64 (N:Int),.int .i64 (N:Int),.slice (some ⟨nx+1+1,0,none⟩) (N+1) (N+1),.slice (some ⟨nx2+1+1,0,some 1⟩) (((ts.take i).map fun e=>(e.t:Int)).length+1) (((ts.take i).map fun e=>(e.t:Int)).length+1),.slice a2 n2 c2] false):=by
   rw [hf4 _ (by omega) (fun e=>by have:=B2 _ e; omega),hold (by omega),hnew]
  simp (disch:=omega) only [SS,g74,seval]
  have htk:ts.take (i+1)=ts.take i++[e]:=by rw [List.take_add_one,he]; rfl
  have hfr:∀ c,c<nx+1+1+1+1→c≠nx+1+1+1→c≠nx+1+1→hget h4 c=hget h2 c:=fun c h1 h2 h3=>by
   rw [hf4 c (by omega) (fun e=>by have:=B2 _ e; omega),hold (by omega),hold (by omega),hf3 c (by omega) (fun e=>by have:=B1 _ e; omega),hold (by omega),hold (by omega),hold (by omega),hold (by omega)]
  refine ⟨ts.length-(i+1),by omega,i+1,S.set (e.f+1) (x+1),_,_,rfl,by omega,by rw [wrap_s (by omega)],hnew _ _ _,?_,by rw [List.length_set]; exact hSl,fun z hz=>?_,.inr ⟨nx2+1+1,nx2+1+1+1+1,by omega,by omega,by omega,by omega,by omega,?_,?_,?_,?_⟩,fun c h1 h2 h3=>?_,by omega⟩
  ·rw [hold (by omega),hf4 _ (by omega) (fun e=>by have:=B2 _ e; omega),hold (by omega),hold (by omega),hf3 _ (by omega) (fun e=>by have:=B1 _ e; omega),hold (by omega),hnew]
  ·rcases List.mem_or_eq_of_mem_set hz with hz | rfl
   ·have:=hSb z hz; omega
   ·omega
  ·rw [htk,List.map_append,List.length_append]; rfl
  ·rw [htk,List.map_append,List.length_append]; rfl
  ·rw [hold (by omega),hf4 _ (by omega) (fun e=>by have:=B2 _ e; omega),hold (by omega),hold (by omega),hn3,htk,List.map_append]; rfl
  ·rw [hold (by omega),hn4,htk,List.map_append]; rfl
  ·rw [hold h2,hfr c h1 h2 h3]; exact hf c h1 h2 h3
 ·obtain ⟨T1,T2⟩:=T.nw
  have hie:i=ts.length:=by omega
  subst hie
  rw [List.take_length] at T1 T2
  have hlo:=hle
  refine Lp.mk (BuJ1 N nx (nx+1+1+1) (nx+1+1) (nx+1+1+1+1) (.slice a1 n1 c1) (.slice a2 n2 c2) h2 nx2) N ⟨0,S,rfl,by omega,rfl,g7,g5,hSl,fun k x hx=>?_,fun _ _=>rfl,rfl⟩ ?_
  ·have:=hSb x (List.mem_of_getElem? hx)
   omega
  clear T G1 G2 B1 B2 g5 hSb hSl
  rintro m _ h3 _ ⟨k,S,rfl,hk,rfl,_,g5,hSl,hSb,hf3,rfl⟩
  have g7:=(hf3 (nx+1+1+1) (by omega)).trans g7
  rw [builtb1]
  unfold builtl1
  by_cases hkN:k<N
  ·obtain ⟨x,hx⟩:=get_ex (l:=S) (i:=k+1) (by omega)
   obtain ⟨y,hy⟩:=get_ex (l:=S) (i:=k) (by omega)
   have hxb:=hSb _ x hx
   have hyb:=hSb _ y hy
   have hxy:0≤x+y∧x+y≤120*((k:Int)+1+1):=by omega
   have hwx:IntKind.wrap .i64 (x+y)=x+y:=wrapD0 (by omega) (by omega)
   simp (disch:=omega) only [SS,show (k:Int)<(N:Int) by omega,hkN,g7,g5,wrap_s (show k<1000000000000 by omega),ints_get hx,ints_get hy,hwx,seval]
   refine ⟨⟨by omega,?_⟩,fun h=>absurd trivial h⟩
   refine ⟨N-(k+1),by omega,k+1,S.set (k+1) (x+y),rfl,by omega,rfl,?_,hnew _ _ _,by rw [List.length_set]; exact hSl,fun j z hz=>?_,fun c h3=>by rw [hold h3]; exact hf3 c h3,rfl⟩
   ·rw [hold (by omega)]; exact g7
   ·rw [List.getElem?_set] at hz
    split at hz
    ·rename_i hj
     subst hj
     split at hz
     ·cases hz; omega
     ·cases hz
    ·have:=hSb j z hz; omega
  ·have:k=N:=by omega
   subst this
   have gp:=(hf3 nx (by omega)).trans ((hf nx (by omega) (by omega) (by omega)).trans g0)
   simp (disch:=omega) only [SS,g7,gp,seval]
   refine ⟨fun h=>absurd h (by omega),fun _=>⟨⟨_,_,_,_,_,S,_,_,rfl,⟨_,_,by rw [hSl],fun _=>⟨nx+1+1,none,false,by omega,by omega,rfl,?_⟩⟩,T1.keep ?_ (by omega) (Nat.le_refl _),T2.keep ?_ (by omega) (Nat.le_refl _),by omega,by rw [List.length_map]; exact hl,by rw [List.length_map]; exact hl⟩,fun c hc=>?_,by omega⟩⟩
   ·rw [hold (by omega),flat_ints]; exact g5
   ·intro c h4 h5
    rw [hold (by omega),hf3 c (by omega)]
   ·intro c h4 h5
    rw [hold (by omega),hf3 c (by omega)]
   ·rw [hold (by omega),hf3 c (by omega),hf c (by omega) (by omega) (by omega),hk1 c (by omega),hold (by omega)]
def frG0 (g:GE):Edg3:=((g.f:Int),(g.t:Int),g.w)
theorem flat_frG0:∀ l:List GE,flat encG l=flat enc3 (l.map frG0)
 | []=>rfl
 | x::l=>by show encG x++flat encG l=enc3 (frG0 x)++flat enc3 (l.map frG0); rw [flat_frG0 l]; rfl
theorem px_fr0 {h:Hp} {nx:Nat} {v:Value} {gs:List GE} (hv:SlPx h nx v encG gs):SlPx h nx v enc3 (gs.map frG0):=by
 obtain ⟨a,cap,rfl,hc⟩:=hv
 refine ⟨a,cap,by rw [List.length_map],fun hl=>?_⟩
 obtain ⟨b,sp,ro,cs,h1,h2,h3⟩:=hc (fun e=>hl (by rw [e]; rfl))
 exact ⟨b,sp,ro,cs,h1,h2,by rw [← flat_frG0]; exact h3⟩
theorem right_ok {s:Bool} {gs:List GE} {N:Nat} {h:Hp} {nx:Nat} {v:Value} (hv:SlPx h nx v encG gs) (hN:N≤4096) (hok:∀ g∈gs,GOk N g) (hl:gs.length≤120):Cv Q O s 107 [.agg ⟨[.int .i64 (N:Int),v]⟩] h nx (EqK (.int .i64 0) nx h):=by
 have hV:RightV (N:Int) (gs.map frG0):=by
  refine ⟨by omega,by omega,by rw [List.length_map]; omega,fun e he hb=>?_,fun e he hb=>?_⟩
  ·obtain ⟨g,hg,rfl⟩:=List.mem_map.1 he
   obtain ⟨h1,h2,_⟩:=hok g hg
   have hb:(g.f:Int)<0∨(N:Int)≤g.f∨(g.t:Int)<0∨(N:Int)≤g.t:=hb
   omega
  ·obtain ⟨g,hg,rfl⟩:=List.mem_map.1 he
   obtain ⟨_,_,h1,h2⟩:=hok g hg
   have hb:g.w<0∨2147483647<g.w:=hb
   omega
 have:=right_x (s:=s) (n:=(N:Int)) (px_fr0 hv)
 rw [rightE_V.2 hV] at this
 exact this
theorem rd_e0 {i:Nat} {cs:List GE} {e:GE} (he:cs[i]? = some e):loadC (some 3) (i*3) (flat encG cs) = .ok (.agg ⟨[.int .i64 (e.f:Int),.int .i64 (e.t:Int),.int .i64 e.w]⟩):=rdF (enc:=encG) (k:=3) (fun _=>rfl) he
def CgJ (p1 p4 N:Nat) (ve vg:Value) (ts:List GE) (lo:Nat) (h:Hp) (m:Nat) (vs:List Value) (h':Hp) (nx':Nat):Prop :=
 ∃ (i:Nat) (o:Value),m=ts.length-i∧i≤ts.length∧vs=[.pointer (some ⟨p1,0,none⟩),.pointer (some ⟨p4,0,none⟩),o,ve,.int .i64 (ts.length:Int),.int .i64 (i:Int)]∧SlAt h' o encG 3 (ts.take i) lo nx'∧Keep lo h h'∧lo≤nx'
def MatK (e:Int) (nx:Nat) (h:Hp):KC':=fun r h' nx'=>∃ m,r = .tuple ⟨[m,.int .i64 e]⟩∧RowsR h' nx nx' m∧Keep nx h h'∧nx≤nx'
theorem csrg_c {s:Bool} {gs:List GE} {N:Nat} {h:Hp} {nx:Nat} {v:Value} (hv:SlPx h nx v encG gs) (hN:N≤4096) (hok:∀ g∈gs,GOk N g) (hl:gs.length≤120):Cv Q O s 132 [.agg ⟨[.int .i64 (N:Int),v]⟩] h nx (MatK 0 nx h):=by
 refine csrgv ?_
 obtain ⟨a,cap,rfl,hc⟩:=id hv
 unfold csrg
 simp (disch:=omega) only [SS,seval]
 have K0:∀ {o o'},Keep nx h (hset (hset h nx o) (nx+1) o'):=((Keep.refl _ _).set (Nat.le_refl _)).set (Nat.le_succ _)
 refine (right_ok (hv.keep K0 (by omega)) hN hok hl).mono ?_
 rintro r h1 nx1 ⟨rfl,hk1,hle1⟩
 have g0:=hk1 nx (by omega)
 rw [hold (by omega),hnew] at g0
 have g4:=hk1 (nx+1) (by omega)
 rw [hnew] at g4
 have K1:Keep nx h h1:=K0.trans hk1 (by omega)
 simp (disch:=omega) only [SS,g0,seval]
 refine (turn_c (hv.keep K1 (by omega)) (by omega) hl hok).mono ?_
 rintro r h2 nx2 ⟨v2,ts,rfl,hts,htc,htok,htl,hk2,hle2⟩
 have htl2:ts.length≤gs.length:=Nat.le_trans htl (mapf_len gs)
 obtain ⟨a3,c3,rfl,hc3⟩:=id hts.nw
 simp (disch:=omega) only [SS,seval]
 refine Lp.mk (CgJ nx (nx+1) N (.slice a3 ts.length c3) .nilFunc ts nx2 h2) ts.length ⟨0,_,rfl,by omega,rfl,.inl ⟨rfl,rfl⟩,Keep.refl _ _,Nat.le_refl _⟩ ?_
 rintro m _ h3 nx3 ⟨i,o,rfl,hi,rfl,S,hk3,hle3⟩
 rw [csrgb0]
 unfold csrgl0
 simp (disch:=omega) only [SS,seval]
 refine ⟨fun hlt=>?_,fun hge=>?_⟩
 ·obtain ⟨e,he⟩:=get_ex hlt
  obtain ⟨b,sp,ro,hb1,hb2,rfl,hb⟩:=hc3 (fun e0=>by rw [e0] at hlt; exact absurd hlt (Nat.not_lt_zero _))
  have hb3:=(hk3 b hb2).trans hb
  simp (disch:=omega) only [SS,hb3,rd_e0 he,seval]
  refine EK_appS (enc:=encG) (k:=3) (lo:=nx2) (fun _=>rfl) (fun _=>rfl) (by omega) (S.keep (fun c h1 h2=>by rw [hold (by omega),hold (by omega),hold (by omega)]) (by omega)) (by omega) e (hnew _ _ _) rfl (by rw [List.length_take]; omega) fun v5 h5 hs5 hk5=>?_
  have htk:ts.take (i+1)=ts.take i++[e]:=by rw [List.take_add_one,he]; rfl
  exact ⟨ts.length-(i+1),by omega,i+1,v5,rfl,by omega,by rw [wrap_s (by omega)],by rw [htk]; exact hs5,fun c hc=>by rw [hk5 c hc,hold (by omega),hold (by omega),hold (by omega)]; exact hk3 c hc,by omega⟩
 ·have hie:i=ts.length:=by omega
  subst hie
  rw [List.take_length] at S
  have g03:=(hk3 nx (by omega)).trans ((hk2 nx (by omega)).trans g0)
  have g43:=(hk3 (nx+1) (by omega)).trans ((hk2 (nx+1) (by omega)).trans g4)
  have K3:Keep nx h h3:=(K1.trans hk2 (by omega)).trans hk3 (by omega)
  simp (disch:=omega) only [SS,g03,seval]
  refine (built_c (SlPx.of S.rd) hN (by omega) htok).mono ?_
  rintro r h6 nx6 ⟨hR,hk6,hle6⟩
  obtain ⟨x,y,b1,b2,b3,n1,n2,n3,c1,c2,c4,rfl⟩:=hR.form
  have g46:=(hk6 (nx+1) (by omega)).trans g43
  unfold RowsV
  simp (disch:=omega) only [SS,g46,seval]
  exact ⟨_,rfl,hR.keep (fun c h1 h2=>hold (by omega)) (by omega) (Nat.le_refl _),fun c hc=>by rw [hold (by omega),hk6 c (by omega)]; exact K3 c hc,by omega⟩
structure Sg (N q nx:Nat) (h h':Hp) (nx':Nat) (gs:List GE) (v:Value):Prop where
 g:hget h' q=some (.cells [.int .i64 (N:Int),v] false)
 m:hget h' (q+1)=some (.cells [.int .i64 0,.int .i64 0,.slice none 0 0,.slice none 0 0,.slice none 0 0] false)
 p:SlPx h' nx' v encG gs
 ok:∀ g∈gs,GOk N g
 k:Keep nx h h'
 lt:q+1<nx'
theorem Sg.put {N q nx:Nat} {h h' h2:Hp} {nx' nx2:Nat} {gs ms:List GE} {v r:Value} (S:Sg N q nx h h' nx' gs v) (hq:nx≤q) (hr:CanK N ms nx' h' r h2 nx2):∃ (cs:List GE) (a:Option Addr) (n c:Nat),r = .agg ⟨[.int .i64 (N:Int),.slice a n c]⟩∧cs.length≤ms.length∧hget h2 q=some (.cells [.int .i64 (N:Int),v] false)∧nx'≤nx2∧Sg N q nx h (hset h2 q (.cells [.int .i64 (N:Int),.slice a n c] false)) nx2 cs (.slice a n c):=by
 obtain ⟨v2,cs,rfl,hcs,hcan,hcok,hcl,hk2,hle2⟩:=hr
 have hlt:=S.lt
 obtain ⟨a,n,c,rfl⟩:=hcs.form
 refine ⟨cs,a,n,c,rfl,hcl,(hk2 q (by omega)).trans S.g,hle2,hnew _ _ _,?_,?_,hcok,?_,by omega⟩
 ·rw [hold (by omega),hk2 _ hlt]; exact S.m
 ·refine SlPx.of ?_
  have:SlAt (hset h2 q (.cells [.int .i64 (N:Int),.slice a n c] false)) (.slice a n c) encG 3 cs nx' nx2:=by
   rcases hcs with hcs | ⟨b,h1,h2,e,hb⟩
   ·exact .inl hcs
   ·exact .inr ⟨b,h1,h2,e,by rw [hold (by omega)]; exact hb⟩
  exact this.rd
 ·intro b hb
  rw [hold (by omega),hk2 b (by omega)]; exact S.k b hb
def matE (k n src len:Int) (ds:List Int) (gn:Int) (es:List Edg3):Int:=if planE k n src len ds≠0 then planE k n src len ds else if gn≠n then 4 else rightE gn es
theorem matrix_c {s:Bool} {k n src len gn:Int} {ds:List Int} {es:List Edg3} {vd ve:Value} {h:Hp} {nx:Nat} (hd:SlRd h nx vd encI ds) (he:SlPx h nx ve enc3 es) (hel:es.length≤60) :
  Cv Q O s 49 [.agg ⟨[.int .i64 k,.int .i64 n,.int .i64 src,.int .i64 len,vd]⟩,.agg ⟨[.int .i64 gn,ve]⟩] h nx (MatK (matE k n src len ds gn es) nx h):=by
 refine matrixv ?_
 obtain ⟨a,cap,rfl,hc⟩:=id hd
 obtain ⟨a2,cap2,rfl,hc2⟩:=id he
 unfold matrix
 simp (disch:=omega) only [SS,seval]
 have K0:∀ {o o' o''},Keep nx h (hset (hset (hset h nx o) (nx+1) o') (nx+1+1) o''):=(((Keep.refl _ _).set (Nat.le_refl _)).set (Nat.le_succ _)).set (by omega)
 refine (pright0_c (hd.keep K0 (by omega))).mono ?_
 rintro r h1 nx1 ⟨rfl,hk1,hle1⟩
 have gp:=hk1 nx (by omega)
 rw [hold (by omega),hold (by omega),hnew] at gp
 have gg:=hk1 (nx+1) (by omega)
 rw [hold (by omega),hnew] at gg
 have gm:=hk1 (nx+1+1) (by omega)
 rw [hnew] at gm
 have K1:Keep nx h h1:=K0.trans hk1 (by omega)
 have zero:∀ {h':Hp} {nx':Nat} {o:AObj} {e:Int},matE k n src len ds gn es=e→Keep nx h h'→nx≤nx'→MatK (matE k n src len ds gn es) nx h (.tuple ⟨[.agg ⟨[.int .i64 0,.int .i64 0,.slice none 0 0,.slice none 0 0,.slice none 0 0]⟩,.int .i64 e]⟩) (hset h' (nx+1+1) o) nx':=fun {h' nx' o e} he hk hle=>by
  rw [he]
  exact ⟨_,rfl,RowsR.zero,hk.set (by omega),hle⟩
 generalize hpe:planE k n src len ds=pe at *
 by_cases hp0:pe=0
 case neg =>
  have hb:(pe == 0)=false:=beq_eq_false_iff_ne.2 hp0
  simp (disch:=omega) only [SS,hb,gm,seval]
  exact zero (by unfold matE; rw [hpe,if_pos hp0]) K1 (by omega)
 subst hp0
 simp (disch:=omega) only [SS,gg,gp,seval]
 refine ⟨fun hne=>?_,fun heq=>?_⟩
 ·simp (disch:=omega) only [SS,gm,seval]
  have hne:gn≠n:=by simpa using hne
  exact zero (by unfold matE; rw [hpe,if_neg (by simp),if_pos hne]) K1 (by omega)
 have heq:gn=n:=by simpa using heq
 have hmE:matE k n src len ds gn es=rightE gn es:=by unfold matE; rw [hpe,if_neg (by simp),if_neg (by simp [heq])]
 refine (right_x (he.keep K1 (by omega))).mono ?_
 rintro r h2 nx2 ⟨rfl,hk2,hle2⟩
 have K2:=K1.trans hk2 (by omega)
 have gp2:=(hk2 nx (by omega)).trans gp
 have gg2:=(hk2 (nx+1) (by omega)).trans gg
 have gm2:=(hk2 (nx+1+1) (by omega)).trans gm
 by_cases hr0:rightE gn es=0
 case neg =>
  have hb:(rightE gn es == 0)=false:=beq_eq_false_iff_ne.2 hr0
  simp (disch:=omega) only [SS,hb,gm2,seval]
  exact zero hmE K2 (by omega)
 rw [hr0] at hmE ⊢
 obtain ⟨N,rfl,hN,hfl,hG⟩:=(rightE_V.1 hr0).ges
 have hpx:=((he.keep K1 (by omega)).keep hk2 hle2).map hfl
 rw [← List.length_map (f:=toG)] at hel
 generalize hgs:es.map toG=gs at hel hG hpx
 have hcl:es.length=gs.length:=by rw [← hgs,List.length_map]
 rw [hcl] at gg2 hpx
 have S0:Sg N (nx+1) nx h h2 nx2 gs (.slice a2 gs.length cap2):=⟨gg2,gm2,hpx,hG,K2,by omega⟩
 rw [hmE]
 have tail:∀ {h':Hp} {nx':Nat} {gs:List GE} {a:Option Addr} {n c:Nat},Sg N (nx+1) nx h h' nx' gs (.slice a n c)→nx≤nx'→gs.length≤120→matrixk0 s (MatK 0 nx h) (.pointer (some ⟨nx+1,0,none⟩)) (.pointer (some ⟨nx+1+1,0,none⟩)) h' nx':=fun {h' nx' gs a n c} S hx hl=>by
  have hlt:=S.lt
  unfold matrixk0
  simp (disch:=omega) only [SS,S.g,seval]
  refine (csrg_c S.p hN S.ok hl).mono ?_
  rintro r h6 nx6 ⟨m,rfl,hR,hk6,hle6⟩
  obtain ⟨x,y,b1,b2,b3,n1,n2,n3,c1,c2,c4,rfl⟩:=hR.form
  have g6:=(hk6 _ S.lt).trans S.m
  unfold RowsV
  simp (disch:=omega) only [SS,g6,seval]
  exact ⟨_,rfl,hR.keep (fun c h1 h2=>hold (by omega)) (by omega) (Nat.le_refl _),fun b hb=>by rw [hold (by omega),hk6 b (by omega)]; exact S.k b hb,by omega⟩
 have plain:∀ {h':Hp} {nx':Nat} {gs:List GE} {a:Option Addr} {n c:Nat},Sg N (nx+1) nx h h' nx' gs (.slice a n c)→nx≤nx'→gs.length≤120→Cv Q O s 131 [.agg ⟨[.int .i64 (N:Int),.slice a n c]⟩] h' nx' fun x65 h66 n67=>(vcells x65).length=2∧RK (wrO (hget h66 (nx+1)) h66 (nx+1) 0 (vcells x65)) fun h68=>matrixk0 s (MatK 0 nx h) (.pointer (some ⟨nx+1,0,none⟩)) (.pointer (some ⟨nx+1+1,0,none⟩)) h68 n67:=fun {h' nx' gs a n c} S hx hl=>by
  refine (plain_c S.p (by omega) hl S.ok).mono ?_
  intro r h6 nx6 hr
  obtain ⟨cs,a6,n6,c6,rfl,hcl,hq,hle,S6⟩:=S.put (by omega) hr
  simp (disch:=omega) only [SS,hq,seval]
  exact tail S6 (by omega) (by have:=mapf_len (p:=fun _=>true) (m:=oneG) gs; unfold plainM at hcl; omega)
 have both:∀ {h':Hp} {nx':Nat} {gs:List GE} {a:Option Addr} {n c:Nat},Sg N (nx+1) nx h h' nx' gs (.slice a n c)→nx≤nx'→gs.length≤60→Cv Q O s 130 [.agg ⟨[.int .i64 (N:Int),.slice a n c]⟩] h' nx' fun x45 h46 n47=>(vcells x45).length=2∧RK (wrO (hget h46 (nx+1)) h46 (nx+1) 0 (vcells x45)) fun h48=>RK (cellsO (hget h48 (nx+1)) fun cs x=>loadC (some 2) 0 cs) fun x64=>Cv Q O s 131 [x64] h48 n47 fun x65 h66 n67=>(vcells x65).length=2∧RK (wrO (hget h66 (nx+1)) h66 (nx+1) 0 (vcells x65)) fun h68=>matrixk0 s (MatK 0 nx h) (.pointer (some ⟨nx+1,0,none⟩)) (.pointer (some ⟨nx+1+1,0,none⟩)) h68 n67:=fun {h' nx' gs a n c} S hx hl=>by
  refine (both_c S.p (by omega) hl S.ok).mono ?_
  rintro r h6 nx6 ⟨ts,_,htl,_,hr⟩
  obtain ⟨cs,a6,n6,c6,rfl,hcl,hq,hle,S6⟩:=S.put (by omega) hr
  rw [List.length_append] at hcl
  simp (disch:=omega) only [SS,hq,seval]
  exact plain S6 (by omega) (by omega)
 simp (disch:=omega) only [SS,gg2,gp2,seval]
 refine ⟨fun _=>?_,fun _=>⟨fun _=>both S0 (by omega) hel,fun _=>⟨fun _=>plain S0 (by omega) (by omega),fun _=>tail S0 (by omega) (by omega)⟩⟩⟩
 refine (simple_c S0.p (by omega) (by omega) hG).mono ?_
 intro r h6 nx6 hr
 obtain ⟨cs,a6,n6,c6,rfl,hcl,hq,hle,S6⟩:=S0.put (by omega) hr
 have hml:=mapf_len (p:=noLoop) (m:=id) gs
 unfold simpleM at hcl
 simp (disch:=omega) only [SS,hq,seval]
 exact both S6 (by omega) (by omega)
def sd (n m:Int):Bool:=decide (1≤n∧n≤m)
structure Stp where
 k:Int
 n:Int
 src:Int
 len:Int
 ds:List Int
 gn:Int
 es:List Edg3
 R:Int
 C:Int
 M:Int
 lim:Int
 nch:Nat
def encU (x:Nat):List Value:=[.int .u64 (x:Int)]
def SetK (w:Nat) (nx:Nat) (h:Hp):KC':=fun r h' nx'=>∃ b c sp,r = .slice (some ⟨b,0,sp⟩) 1 c∧nx≤b∧b<nx'∧hget h' b=some (.cells [.int .u64 (w:Int)] false)∧Keep nx h h'∧nx≤nx'
theorem SetK.rd {w nx:Nat} {h:Hp} {r:Value} {h':Hp} {nx':Nat} (H:SetK w nx h r h' nx'):SlRd h' nx' r encU [w]:=by
 obtain ⟨b,c,sp,rfl,h1,h2,h3,_⟩:=H
 exact ⟨_,_,rfl,fun _=>⟨b,sp,false,h2,rfl,h3⟩⟩
theorem fwords_c {s:Bool} {n:Nat} {h:Hp} {nx:Nat} (h0:1≤n) (h1:n≤64):Cv Q O s 202 [.int .i64 (n:Int)] h nx (fun r h' nx'=>r = .int .i64 1∧h'=h∧nx'=nx):=by
 refine fwordsv ?_
 unfold fwords
 have e:IntKind.wrap .i64 ((n:Int)+63)=((n+63:Nat):Int):=wrap_s (by omega)
 simp (disch:=omega) only [SS,show max (n:Int) 0=n by omega,show min (n:Int) 4096=n by omega,e,bin_shr6,seval]
 rw [show (n+63) / 64=1 by omega]
 rfl
theorem fnew_c {s:Bool} {n:Nat} {h:Hp} {nx:Nat} (h0:1≤n) (h1:n≤64):Cv Q O s 115 [.int .i64 (n:Int)] h nx (SetK 0 nx h):=by
 refine fnewv ?_
 unfold fnew
 refine (fwords_c h0 h1).mono ?_
 rintro r h2 n2 ⟨rfl,e1,e2⟩
 rw [e1,e2]
 show AR (vMks [.int .u64 0] (.int .i64 ((1:Nat):Int)) (.int .i64 ((1:Nat):Int))) h nx _
 simp (disch:=omega) only [SS,seval]
 exact ⟨nx,1,none,rfl,Nat.le_refl _,Nat.lt_succ_self _,hnew _ _ _,(Keep.refl _ _).set (Nat.le_refl _),Nat.le_succ _⟩
theorem fwithin_c {s:Bool} {k c:Nat} {a:Option Addr} {h:Hp} {nx:Nat} (hk:k<64):Cv Q O s 196 [.slice a 1 c,.int .i64 (k:Int)] h nx (fun r h' nx'=>r = .bool true∧h'=h∧nx'=nx):=by
 refine fwithinv ?_
 unfold fwithin
 simp (disch:=omega) only [SS,bin_shr6,seval]
 rw [show k / 64=0 by omega]
 exact ⟨fun _=>rfl,fun h=>absurd h (by omega)⟩
theorem fbit_c {s:Bool} {k:Nat} {h:Hp} {nx:Nat} (hk:k<64):Cv Q O s 197 [.int .i64 (k:Int)] h nx (fun r h' nx'=>r = .int .u64 ((2 ^ k:Nat):Int)∧h'=h∧nx'=nx):=by
 refine fbitv ?_
 unfold fbit
 have e:IntKind.wrap .u64 (k:Int)=(k:Int):=wrapUw (by omega)
 have e2:∀ {t},bin Q .and t (.int .u64 (k:Int)) (.int .u64 63) = .ok (.int .u64 (k:Int)):=fun {t}=>by
  rw [show (63:Int)=((63:Nat):Int) from rfl,bin_andU (by omega) (by omega),show (63:Nat)=2 ^ 6-1 from rfl,Nat.and_two_pow_sub_one_eq_mod,Nat.mod_eq_of_lt (by omega)]
 simp (disch:=omega) only [SS,e,e2,bin_shlU k hk,seval]
def natI (l:List Nat):List Int:=l.map fun x:Nat=>(x:Int)
def inL (l:List Nat) (i:Nat):Bool:=decide (i∈l)
def OfJ (n b c:Nat) (sp:Option Nat) (v:Value) (l:List Nat) (nx:Nat) (h:Hp) (m:Nat) (vs:List Value) (h':Hp) (nx':Nat):Prop :=
 ∃ i,m=l.length-i∧i≤l.length∧vs=[.int .i64 (n:Int),.slice (some ⟨b,0,sp⟩) 1 c,v,.int .i64 (l.length:Int),.int .i64 (i:Int)]∧hget h' b=some (.cells [.int .u64 (mk n (inL (l.take i)):Int)] false)∧nx≤b∧b<nx'∧Keep nx h h'∧nx≤nx'
theorem mk64 {n:Nat} {p:Nat→Bool} (h:n≤64):mk n p<18446744073709551616:=Nat.lt_of_lt_of_le (mk_lt n p) (Nat.pow_le_pow_right (i:=n) (j:=64) (by omega) h)
theorem inL_step {l:List Nat} {i x:Nat} (hx:l[i]? = some x) (j:Nat):inL (l.take (i+1)) j=(inL (l.take i) j||decide (j=x)):=by
 unfold inL
 rw [List.take_add_one,hx,← Bool.decide_or]
 congr 1
 simp
theorem fof_c {s:Bool} {n:Nat} {l:List Nat} {v:Value} {h:Hp} {nx:Nat} (h0:1≤n) (h1:n≤64) (hv:SlRd h nx v encI (natI l)) (hl:∀ x∈l,x<n) (hlen:l.length<1000000):Cv Q O s 108 [.int .i64 (n:Int),v] h nx (SetK (mk n (inL l)) nx h):=by
 refine fofv ?_
 obtain ⟨a,cap,rfl,hc⟩:=id hv
 unfold fof
 refine (fnew_c h0 h1).mono ?_
 rintro r h2 n2 ⟨b,c,sp,rfl,hb1,hb2,hg,hk,hle⟩
 simp (disch:=omega) only [SS,seval]
 refine Lp.mk (OfJ n b c sp (.slice a (natI l).length cap) l nx h) l.length ⟨0,by omega,by omega,by unfold natI; rw [List.length_map]; rfl,by rw [List.take_zero,show mk n (inL [])=0 from (by rw [← mk_none n]; exact mk_ext fun i _=>by simp [inL])]; exact hg,hb1,hb2,hk,hle⟩ ?_
 rintro _ _ h' nx' ⟨i,rfl,hi,rfl,hgb,hb1,hb2,hk,hle⟩
 rw [fofb0]
 unfold fofl0
 simp (disch:=omega) only [SS,seval]
 refine ⟨fun hlt=>?_,fun hge=>?_⟩
 ·obtain ⟨x,hx⟩:=get_ex hlt
  have hxI:(natI l)[i]? = some (x:Int):=by unfold natI; rw [List.getElem?_map,hx]; rfl
  obtain ⟨_,b2,sp2,ro,c1,hb3,e1,hg2⟩:=hv.at hxI
  cases e1
  rw [flat_ints] at hg2
  have hxn:=hl x (List.mem_of_getElem? hx)
  simp (disch:=omega) only [SS,(hk b2 hb3).trans hg2,ints_get hxI,show (x:Int)<(n:Int) by omega,seval]
  refine ⟨?_,fun h=>absurd trivial h⟩
  refine (fwithin_c (by omega)).mono ?_
  rintro r h3 n3 ⟨rfl,e1,e2⟩
  rw [e1,e2]
  simp (disch:=omega) only [SS,seval]
  refine (fbit_c (by omega)).mono ?_
  rintro r h3 n3 ⟨rfl,e1,e2⟩
  rw [e1,e2]
  refine ⟨Nat.le_refl _,?_⟩
  have ho:bin Q .or 221 (.int .u64 (mk n (inL (l.take i)):Int)) (.int .u64 ((2 ^ x:Nat):Int)) = .ok (.int .u64 (mk n (inL (l.take (i+1))):Int)):=by
   rw [mk_one hxn,bin_orU (mk64 h1) (mk64 h1),mk_or]
   congr 3
   exact mk_ext fun j _=>(inL_step hx j).symm
  simp (disch:=omega) only [SS,bin_shr6,show x / 64=0 by omega,hgb,ho,wrap_s (show i<1000000000000 by omega),seval]
  unfold fofk0
  simp (disch:=omega) only [SS,wrap_s (show i<1000000000000 by omega),seval]
  exact ⟨_,by omega,i+1,rfl,by omega,rfl,hnew _ _ _,hb1,hb2,hk.set hb1,hle⟩
 ·have:i=l.length:=by omega
  subst this
  rw [List.take_length] at hgb
  exact ⟨b,c,sp,rfl,hb1,hb2,hgb,hk,hle⟩
def OnJ (n:Nat) (p:Nat→Bool) (h:Hp) (nx:Nat) (m:Nat) (vs:List Value) (h':Hp) (nx':Nat):Prop :=
 ∃ (q:Nat→Bool) (k:Nat),m=(fl n q).length∧k+(fl n q).length=(fl n p).length∧vs=[.int .u64 (mk n q:Int),.int .i64 (k:Int)]∧h'=h∧nx'=nx
theorem fl_len (n:Nat) (p:Nat→Bool):(fl n p).length≤n:=by
 unfold fl
 have:=List.length_filter_le p (List.range n)
 rwa [List.length_range] at this
theorem fones_c {s:Bool} {n:Nat} {p:Nat→Bool} {h:Hp} {nx:Nat} (h1:n≤63):Cv Q O s 198 [.int .u64 (mk n p:Int)] h nx (fun r h' nx'=>r = .int .i64 ((fl n p).length:Int)∧h'=h∧nx'=nx):=by
 refine fonesv ?_
 unfold fones
 refine Lp.mk (OnJ n p h nx) (fl n p).length ⟨p,0,rfl,by omega,rfl,rfl,rfl⟩ ?_
 rintro _ _ _ _ ⟨q,k,rfl,hk,rfl,rfl,rfl⟩
 rw [fonesb0]
 unfold fonesl0
 have hn:=fl_len n p
 by_cases h0:mk n q=0
 ·rw [h0]
  simp (disch:=omega) only [SS,↓reduceIte,Nat.reduceAdd,Nat.reduceSub,Nat.reduceMul,Nat.reduceLT,Nat.reduceLeDiff,Nat.reduceEqDiff,Int.reduceBEq,Int.reduceLT,Int.reduceNeg]
  have:fl n q=[]:=fl_nil (mk_zero.1 h0)
  rw [this] at hk
  have:(k:Int)=((fl n p).length:Int):=by simp at hk; omega
  rw [this]
  exact ⟨fun _=>rfl,fun h=>absurd h (by simp)⟩
 ·obtain ⟨q2,e1,e2⟩:=and_pred n q h0
  have e3:(((mk n q:Nat):Int) == 0)=false:=by
   rw [beq_eq_false_iff_ne]; omega
  have e4:IntKind.wrap .u64 ((mk n q:Int)-1)=((mk n q-1:Nat):Int):=by
   rw [show ((mk n q:Nat):Int)-1=((mk n q-1:Nat):Int) by omega]
   exact wrapUw (by have:=mk64 (p:=q) (show n≤64 by omega); omega)
  have e5:bin Q .and 221 (.int .u64 ((mk n q:Nat):Int)) (.int .u64 ((mk n q-1:Nat):Int)) = .ok (.int .u64 ((mk n q2:Nat):Int)):=by
   rw [bin_andU (mk64 (by omega)) (by have:=mk64 (p:=q) (show n≤64 by omega); omega),e1]
  simp (disch:=omega) only [SS,↓reduceIte,Nat.reduceAdd,Nat.reduceSub,Nat.reduceMul,Nat.reduceLT,Nat.reduceLeDiff,Nat.reduceEqDiff,Int.reduceBEq,Int.reduceLT,Int.reduceNeg,e3,e4,e5,wrap_s (show k<1000000000000 by omega)]
  exact ⟨_,by omega,q2,k+1,rfl,by omega,rfl,rfl,rfl⟩
theorem fcount_c {s:Bool} {n:Nat} {p:Nat→Bool} {v:Value} {h:Hp} {nx:Nat} (h1:n≤63) (hv:SlRd h nx v encU [mk n p]):Cv Q O s 111 [v] h nx (fun r h' nx'=>r = .int .i64 ((fl n p).length:Int)∧h'=h∧nx'=nx):=by
 refine fcountv ?_
 obtain ⟨a,cap,rfl,hc⟩:=id hv
 obtain ⟨b,sp,ro,hb,rfl,hg⟩:=hc (by simp)
 have hn:=fl_len n p
 unfold fcount
 simp (disch:=omega) only [SS,seval]
 refine Lp.mk (fun m vs h' nx'=>h'=h∧nx'=nx∧((m=1∧vs=[.int .i64 0,.slice (some ⟨b,0,sp⟩) 1 cap,.int .i64 1,.int .i64 0])∨(m=0∧vs=[.int .i64 ((fl n p).length:Int),.slice (some ⟨b,0,sp⟩) 1 cap,.int .i64 1,.int .i64 1]))) 1 ⟨rfl,rfl,.inl ⟨rfl,rfl⟩⟩ ?_
 rintro _ _ h' nx' ⟨eh,en,h2⟩
 rw [eh,en]
 rcases h2 with ⟨rfl,rfl⟩ | ⟨rfl,rfl⟩
 ·rw [fcountb0]
  unfold fcountl0
  have hg:hget h b=some (.cells [.int .u64 (mk n p:Int)] ro):=hg
  simp (disch:=omega) only [SS,hg,seval]
  refine ⟨?_,fun h=>absurd trivial h⟩
  refine (fones_c h1).mono ?_
  rintro r h3 n3 ⟨rfl,e1,e2⟩
  rw [e1,e2]
  simp (disch:=omega) only [SS,seval]
  exact ⟨0,by omega,.inr ⟨rfl,by rw [show IntKind.wrap .i64 (0+((fl n p).length:Int))=((fl n p).length:Int) by rw [Int.zero_add]; exact wrapN _ (by omega)]; rfl⟩⟩
 ·rw [fcountb0]
  unfold fcountl0
  simp (disch:=omega) only [SS,seval]
  exact fun _=>trivial
def hd0 (l:List Nat):Nat:=match l with | []=>0 | x::_=>x
def BwJ (w:Nat) (v1 v2 vf:Value) (nx:Nat) (h:Hp) (m:Nat) (vs:List Value) (h':Hp) (nx':Nat):Prop:=nx'=nx+1∧Keep nx h h'∧((m=1∧hget h' nx=some (.cells [.int .u64 0] false)∧vs=[v1,v2,vf,.slice (some ⟨nx,0,none⟩) 1 1,.int .i64 1,.int .i64 0])∨(m=0∧hget h' nx=some (.cells [.int .u64 (w:Int)] false)∧vs=[v1,v2,vf,.slice (some ⟨nx,0,none⟩) 1 1,.int .i64 1,.int .i64 1]))
theorem fbothw_c {s:Bool} {f w:Nat} {la lb:List Nat} {va vb:Value} {h:Hp} {nx:Nat} (ha:SlRd h nx va encU la) (hb:SlRd h nx vb encU lb) (hla:la.length≤1) (hlb:lb.length≤1)
  (hf:∀ (h:Hp) (nx:Nat),Cv Q O s f [.int .u64 (hd0 la:Int),.int .u64 (hd0 lb:Int)] h nx (fun r h' nx'=>r = .int .u64 (w:Int)∧h'=h∧nx'=nx)) :
  Cv Q O s 199 [.int .i64 1,va,vb,.func (.func f) ⟨[]⟩ ⟨[]⟩] h nx (SetK w nx h):=by
 refine fbothwv ?_
 obtain ⟨a1,c1,rfl,hc1⟩:=id ha
 obtain ⟨a2,c2,rfl,hc2⟩:=id hb
 unfold fbothw
 show AR (vMks [.int .u64 0] (.int .i64 ((1:Nat):Int)) (.int .i64 ((1:Nat):Int))) h nx _
 simp (disch:=omega) only [SS,seval]
 have K1:∀ {o},Keep nx h (hset h nx o):=(Keep.refl _ _).set (Nat.le_refl _)
 refine Lp.mk (BwJ w (.slice a1 la.length c1) (.slice a2 lb.length c2) (.func (.func f) ⟨[]⟩ ⟨[]⟩) nx h) 1 ⟨rfl,K1,.inl ⟨rfl,hnew _ _ _,rfl⟩⟩ ?_
 rintro m vs h' nx' ⟨en,hk,h2⟩
 rw [en]
 have stop:∀ {N e0 R:KVl} {h5:Hp},h5=hset h' nx (.cells [.int .u64 (w:Int)] false)→(∀ vs h nx',BwJ w (.slice a1 la.length c1) (.slice a2 lb.length c2) (.func (.func f) ⟨[]⟩ ⟨[]⟩) nx h 0 vs h nx'→True)→(N [.slice a1 la.length c1,.slice a2 lb.length c2,.func (.func f) ⟨[]⟩ ⟨[]⟩,.slice (some ⟨nx,0,none⟩) 1 1,.int .i64 1,.int .i64 1] h5 (nx+1))→fbothwk0 s N e0 R (.slice a1 la.length c1) (.slice a2 lb.length c2) (.func (.func f) ⟨[]⟩ ⟨[]⟩) (.slice (some ⟨nx,0,none⟩) 1 1) (.int .i64 1) (.int .i64 0) h5 (nx+1):=fun {N e0 R h5} e _ hN=>by
  unfold fbothwk0
  simp (disch:=omega) only [SS,seval]
  exact hN
 have fin:∃ m',m'<1∧BwJ w (.slice a1 la.length c1) (.slice a2 lb.length c2) (.func (.func f) ⟨[]⟩ ⟨[]⟩) nx h m' [.slice a1 la.length c1,.slice a2 lb.length c2,.func (.func f) ⟨[]⟩ ⟨[]⟩,.slice (some ⟨nx,0,none⟩) 1 1,.int .i64 1,.int .i64 1] (hset h' nx (.cells [.int .u64 (w:Int)] false)) (nx+1) :=
  ⟨0,by omega,rfl,hk.set (Nat.le_refl _),.inr ⟨rfl,hnew _ _ _,rfl⟩⟩
 rcases h2 with ⟨rfl,hg,rfl⟩ | ⟨rfl,hg,rfl⟩
 ·rw [fbothwb0]
  unfold fbothwl0
  have call:∀ {k:Value→Hp→Nat→Prop},k (.int .u64 (w:Int)) h' (nx+1)→Cv Q O s f [.int .u64 (hd0 la:Int),.int .u64 (hd0 lb:Int)] h' (nx+1) k:=fun {k} hk=>(hf h' (nx+1)).mono fun r h3 n3 ⟨e1,e2,e3⟩=>by rw [e1,e2,e3]; exact hk
  have nil1:∀ (x:Nat) (l:List Nat),(x::l).length≤1→l=[]:=fun x l h=>List.length_eq_zero_iff.1 (by simpa using h)
  cases la with
  | nil =>
   cases lb with
   | nil =>
    simp (disch:=omega) only [SS,@List.length_cons Nat,@List.length_nil Nat,show ((0:Nat):Int)=0 from rfl,show ((1:Nat):Int)=1 from rfl,not_false_eq_true,not_true_eq_false,forall_const,seval]
    refine call ?_
    simp (disch:=omega) only [SS,hg,seval]
    exact stop rfl (fun _ _ _ _=>trivial) fin
   | cons y lb =>
    obtain rfl:=nil1 _ _ hlb
    obtain ⟨b2,sp2,ro2,hb2,rfl,hg2⟩:=hc2 (by simp)
    have hg2:hget h' b2=some (.cells [.int .u64 (y:Int)] ro2):=(hk b2 hb2).trans hg2
    simp (disch:=omega) only [SS,hg2,@List.length_cons Nat,@List.length_nil Nat,show ((0:Nat):Int)=0 from rfl,show ((1:Nat):Int)=1 from rfl,not_false_eq_true,not_true_eq_false,forall_const,seval]
    refine call ?_
    simp (disch:=omega) only [SS,hg,seval]
    exact stop rfl (fun _ _ _ _=>trivial) fin
  | cons x la =>
   obtain rfl:=nil1 _ _ hla
   obtain ⟨b1,sp1,ro1,hb1,rfl,hg1⟩:=hc1 (by simp)
   have hg1:hget h' b1=some (.cells [.int .u64 (x:Int)] ro1):=(hk b1 hb1).trans hg1
   cases lb with
   | nil =>
    simp (disch:=omega) only [SS,hg1,@List.length_cons Nat,@List.length_nil Nat,show ((0:Nat):Int)=0 from rfl,show ((1:Nat):Int)=1 from rfl,not_false_eq_true,not_true_eq_false,forall_const,seval]
    refine call ?_
    simp (disch:=omega) only [SS,hg,seval]
    exact stop rfl (fun _ _ _ _=>trivial) fin
   | cons y lb =>
    obtain rfl:=nil1 _ _ hlb
    obtain ⟨b2,sp2,ro2,hb2,rfl,hg2⟩:=hc2 (by simp)
    have hg2:hget h' b2=some (.cells [.int .u64 (y:Int)] ro2):=(hk b2 hb2).trans hg2
    simp (disch:=omega) only [SS,hg1,hg2,@List.length_cons Nat,@List.length_nil Nat,show ((0:Nat):Int)=0 from rfl,show ((1:Nat):Int)=1 from rfl,not_false_eq_true,not_true_eq_false,forall_const,seval]
    refine call ?_
    simp (disch:=omega) only [SS,hg,seval]
    exact stop rfl (fun _ _ _ _=>trivial) fin
 ·rw [fbothwb0]
  unfold fbothwl0
  simp (disch:=omega) only [SS,seval]
  exact fun _=>⟨nx,1,none,rfl,Nat.le_refl _,Nat.lt_succ_self _,hg,hk,Nat.le_succ _⟩
theorem fboth_c {s:Bool} {n:Nat} {p q:Nat→Bool} {va vb:Value} {h:Hp} {nx:Nat} (hn:n≤64) (ha:SlRd h nx va encU [mk n p]) (hb:SlRd h nx vb encU [mk n q]):Cv Q O s 112 [va,vb] h nx (SetK (mk n (fun i=>p i&&q i)) nx h):=by
 refine fbothv ?_
 obtain ⟨a1,c1,rfl,_⟩:=id ha
 unfold fboth
 simp (disch:=omega) only [SS,seval]
 refine (fbothw_c ha hb (by simp) (by simp) fun h nx=>?_).mono fun _ _ _ hr=>hr
 refine fboth1v ?_
 unfold fboth1
 show RK (bin Q .and 221 (.int .u64 (mk n p:Int)) (.int .u64 (mk n q:Int))) _
 rw [bin_andU (mk64 hn) (mk64 hn),mk_and,RK_ok]
 exact ⟨rfl,rfl,rfl⟩
theorem fminus_c {s:Bool} {n:Nat} {p q:Nat→Bool} {va vb:Value} {h:Hp} {nx:Nat} (hn:n≤64) (ha:SlRd h nx va encU [mk n p]) (hb:SlRd h nx vb encU [mk n q]):Cv Q O s 191 [va,vb] h nx (SetK (mk n (fun i=>p i&&!q i)) nx h):=by
 refine fminusv ?_
 obtain ⟨a1,c1,rfl,_⟩:=id ha
 unfold fminus
 simp (disch:=omega) only [SS,seval]
 refine (fbothw_c ha hb (by simp) (by simp) fun h nx=>?_).mono fun _ _ _ hr=>hr
 refine fminus1v ?_
 unfold fminus1
 show RK (bin Q .andNot 221 (.int .u64 (mk n p:Int)) (.int .u64 (mk n q:Int))) _
 rw [bin_anU hn,RK_ok]
 exact ⟨rfl,rfl,rfl⟩
theorem funion_c {s:Bool} {n:Nat} {p q:Nat→Bool} {va vb:Value} {h:Hp} {nx:Nat} (hn:n≤64) (ha:SlRd h nx va encU [mk n p]) (hb:SlRd h nx vb encU [mk n q]):Cv Q O s 113 [va,vb] h nx (SetK (mk n (fun i=>p i||q i)) nx h):=by
 refine funionv ?_
 obtain ⟨a1,c1,rfl,_⟩:=id ha
 obtain ⟨a2,c2,rfl,_⟩:=id hb
 unfold funion
 simp (disch:=omega) only [SS,@List.length_cons Nat,@List.length_nil Nat,seval]
 refine (fbothw_c ha hb (by simp) (by simp) fun h nx=>?_).mono fun _ _ _ hr=>hr
 refine funion1v ?_
 unfold funion1
 show RK (bin Q .or 221 (.int .u64 (mk n p:Int)) (.int .u64 (mk n q:Int))) _
 rw [bin_orU (mk64 hn) (mk64 hn),mk_or,RK_ok]
 exact ⟨rfl,rfl,rfl⟩
theorem bin_andI {t:TypeId} {n:Nat} (hn:n<64):bin Q .and t (.int .i64 (n:Int)) (.int .i64 63) = .ok (.int .i64 (n:Int)):=by
 show R.ok (Value.int .i64 (IntKind.wrap .i64 ((BitVec.ofInt 64 (n:Int) &&& BitVec.ofInt 64 63).toNat:Int)))=_
 rw [BitVec.toNat_and,ofU (n:=n) (by omega),show (BitVec.ofInt 64 63).toNat=2 ^ 6-1 from rfl,Nat.and_two_pow_sub_one_eq_mod,Nat.mod_eq_of_lt (by omega),wrapN n (by omega)]
theorem fflip_c {s:Bool} {n:Nat} {h:Hp} {nx:Nat} (h0:1≤n) (h1:n<64):Cv Q O s 189 [.slice none 0 0,.int .i64 (n:Int)] h nx (SetK (mk n (fun _=>true)) nx h):=by
 refine fflipv ?_
 unfold fflip
 refine (fwords_c h0 (by omega)).mono ?_
 rintro r h2 n2 ⟨rfl,e1,e2⟩
 rw [e1,e2]
 have hnil:∀ {h:Hp} {nx:Nat},SlRd h nx (.slice none 0 0) encU []:=⟨none,0,rfl,fun e=>absurd rfl e⟩
 refine (fbothw_c (w:=18446744073709551615) hnil hnil (by simp) (by simp) fun h nx=>?_).mono ?_
 ·refine fflip1v ?_
  unfold fflip1
  show RK (.ok (Value.int .u64 18446744073709551615)) _
  exact ⟨rfl,rfl,rfl⟩
 rintro r h2 n2 ⟨b,c,sp,rfl,hb1,hb2,hg,hk,hle⟩
 have hnn:((n:Int) == 0)=false:=by rw [beq_eq_false_iff_ne]; omega
 simp (disch:=omega) only [SS,↓reduceIte,Nat.reduceAdd,Nat.reduceSub,Nat.reduceMul,Nat.reduceLT,Nat.reduceLeDiff,Nat.reduceEqDiff,Int.reduceBEq,Int.reduceLT,Int.reduceNeg,bin_andI h1,hnn,show (0:Int)<(n:Int) by omega,show ¬ ((4096:Int)≤(n:Int)) by omega,show (n:Int)<4096 by omega]
 refine ⟨?_,fun h=>absurd trivial h⟩
 have hp:0<2 ^ n∧2 ^ n<18446744073709551616:=⟨Nat.pow_pos (by omega),Nat.pow_lt_pow_right (a:=2) (by omega) h1⟩
 have e1:IntKind.wrap .u64 (n:Int)=(n:Int):=wrapUw (by omega)
 have e2:IntKind.wrap .u64 (((2 ^ n:Nat):Int)-1)=((2 ^ n-1:Nat):Int):=by
  rw [show ((2 ^ n:Nat):Int)-1=((2 ^ n-1:Nat):Int) by omega]
  exact wrapUw (by omega)
 have e3:bin Q .and 221 (.int .u64 18446744073709551615) (.int .u64 ((2 ^ n-1:Nat):Int)) = .ok (.int .u64 (mk n (fun _=>true):Int)):=by
  rw [mk_all,show (18446744073709551615:Int)=((2 ^ 64-1:Nat):Int) from rfl,bin_andU (by omega) (by omega),Nat.and_comm,Nat.and_two_pow_sub_one_eq_mod,Nat.mod_eq_of_lt (by omega)]
 have hg:hget h2 b=some (.cells [.int .u64 18446744073709551615] false):=hg
 have e0:IntKind.wrap .i64 ((1:Int)-1)=0:=rfl
 unfold fflipk0
 rw [show decide True=true from rfl]
 simp (disch:=omega) only [SS,↓reduceIte,Nat.reduceAdd,Nat.reduceSub,Nat.reduceMul,Nat.reduceLT,Nat.reduceLeDiff,Nat.reduceEqDiff,Int.reduceBEq,Int.reduceLT,Int.reduceNeg,e0,show ((1:Nat):Int)=1 from rfl,hg,e1,bin_shlU n h1,e2,e3]
 exact ⟨b,c,sp,rfl,hb1,hb2,hnew _ _ _,hk.set hb1,hle⟩
theorem appA_g {h:Hp} {nx b b2 n c2:Nat} {sp2:Option Nat} {ro rd:Bool} {l cs:List Value} (hn:l.length=n) (hd:hget h b=some (.cells cs rd)) (hb:hget h b2=some (.cells l ro)) (h0:0<n) (h1:n<1000000) :
  appendA 1 h nx (.slice (some ⟨b,0,none⟩) 0 0) (.slice (some ⟨b2,0,sp2⟩) n c2) = .ok (.val (.slice (some ⟨nx,0,some 1⟩) n n) (hset h nx (.cells l false)) (nx+1)):=by
 subst hn
 have hr:readA h (some ⟨b2,0,sp2⟩) (l.length.mul 1) (fun new=>appGo 1 h nx (some ⟨b,0,none⟩) 0 0 l.length new)=appGo 1 h nx (some ⟨b,0,none⟩) 0 0 l.length l:=by
  rw [show l.length.mul 1=l.length from Nat.mul_one _,readA_eq hb h0 (by omega)]
  rw [List.drop_zero,List.take_of_length_le (by omega)]
 show readA h (some ⟨b2,0,sp2⟩) (l.length.mul 1) (fun new=>appGo 1 h nx (some ⟨b,0,none⟩) 0 0 l.length new)=_
 rw [hr]
 unfold appGo
 rw [show Nat.ble (Nat.add 0 l.length) 0=false by
  cases hb:Nat.ble (Nat.add 0 l.length) 0 with
  | false=>rfl
  | true=>have:=Nat.le_of_ble_eq_true hb; have:0+l.length≤0:=this; omega]
 rw [show (Nat.ble (Nat.mul (Nat.add 0 l.length) 1) 1000000&&Nat.ble (Nat.add 0 l.length) 1000000)=true by
  simp only [Bool.and_eq_true,Nat.ble_eq]
  exact ⟨by show (0+l.length)*1≤_; omega,by show 0+l.length≤_; omega⟩]
 show appUp h nx 1 (some ⟨b,0,none⟩) 0 0 (0+l.length) l=_
 unfold appUp
 simp only [cellsOf_some hd]
 rw [show lcut (Nat.mul 0 1) (ldrop cs 0)=some [] by rw [Nat.mul_eq,Nat.zero_mul]; rfl]
 show growN h nx 1 (lapp [] l) (0+l.length)=_
 rw [lapp_eq,List.nil_append,Nat.zero_add]
 exact growN_eq (by omega)
theorem bin_snil {P:Program} {t:TypeId} (ht:isSliceTy P t=true) (a:Option Addr) (n c:Nat):bin P .eql t (.slice a n c) (.slice none 0 0) = .ok (.bool a.isNone):=by
 show R.of "compared" (eqlV P t (.slice a n c) (.slice none 0 0)) _=_
 unfold eqlV
 cases a <;> simp [ht,eqlS,rBool]
theorem ty23:isSliceTy Tryz.prog 23=true:=by kernel_rfl
theorem clone64_c {s:Bool} {h:Hp} {nx:Nat} {v:Value} {l:List Int} (hv:SlRd h nx v encI l) (hl:l.length<1000000) :
  Cv Q O s 51 [v] h nx (fun r h' nx'=>SlNw h' nx nx' r encI l∧Keep nx h h'∧nx≤nx'):=by
 refine clone64v ?_
 obtain ⟨a,cap,rfl,hc⟩:=id hv
 unfold clone64
 simp (disch:=omega) only [SS,bin_snil ty23,seval]
 refine ⟨fun h0=>⟨?_,Keep.refl _ _⟩,fun h0=>?_⟩
 ·have:l=[]:=by
   rcases Classical.em (l=[]) with e | e
   ·exact e
   ·obtain ⟨b,sp,ro,_,rfl,_⟩:=hc e
    cases h0
  subst this
  exact ⟨none,0,rfl,fun h=>absurd rfl h⟩
 have K1:Keep nx h (hset h nx (.cells [] false)):=(Keep.refl _ _).set (Nat.le_refl _)
 rcases Classical.em (l=[]) with e | e
 ·subst e
  show SlNw _ _ _ (.slice (some ⟨nx,0,none⟩) 0 0) _ _∧_∧_
  exact ⟨⟨some ⟨nx,0,none⟩,0,rfl,fun h=>absurd rfl h⟩,K1,by omega⟩
 ·obtain ⟨b,sp,ro,hb,rfl,hg⟩:=hc e
  rw [flat_ints] at hg
  rw [appA_g (l:=ints l) (ints_len _) (hnew _ _ _) ((K1 b hb).trans hg) (List.length_pos_iff.2 e) hl]
  refine ⟨⟨some ⟨nx+1,0,some 1⟩,l.length,rfl,fun _=>⟨nx+1,some 1,false,by omega,by omega,rfl,?_⟩⟩,K1.set (by omega),by omega⟩
  rw [flat_ints]; exact hnew _ _ _
noncomputable def rfa:Code:=(rfAt Tryz.prog 276).1
noncomputable def rfb:Code:=(rfAt Tryz.prog 276).2
theorem app276:AppAt Q (.int .i64 0) 276 rfa rfb:=⟨by kernel_rfl,by kernel_rfl,by kernel_rfl⟩
theorem fl_up (k:Nat) (p:Nat→Bool):fl (k+1) p=fl k p++(if p k then [k] else []):=by
 unfold fl
 rw [List.range_succ,List.filter_append]
 cases h:p k <;> simp [h]
theorem fl_end {n k:Nat} {p:Nat→Bool} (hk:k≤n) (h:∀ i,k≤i→i<n→p i=false):fl n p=fl k p:=by
 induction n with
 | zero =>
  have:k=0:=by omega
  rw [this]
 | succ n ih =>
  by_cases e:k=n+1
  ·rw [e]
  ·rw [fl_up,h n (by omega) (by omega),ih (by omega) (fun i h1 h2=>h i h1 (by omega))]
   simp
structure CoI (l p:Nat) (a b:Code) (h:Hp) (nx:Nat) (vals:List Int) (o:Value) (bo:Option Nat):Prop where
 c:Col l p a b h o
 g:Ow h encI o vals bo
 b:∀ c,bo=some c→c≠l∧c≠p∧c<nx
def EaJ (l p n lo pc:Nat) (q:Nat→Bool) (vf:Value) (h:Hp) (m:Nat) (vs:List Value) (h':Hp) (nx':Nat):Prop :=
 ∃ (k:Nat) (o:Value) (bo:Option Nat),m=n-k∧k≤n∧vs=[.func (.yield l) ⟨[]⟩ ⟨[]⟩,.int .u64 (mk (n-k) (fun i=>q (i+k)):Int),.int .i64 (k:Int),vf,.int .i64 1,.int .i64 0]∧CoI l p rfa rfb h' nx' (natI (fl k q)) o bo∧(∀ c,bo=some c→lo≤c)∧(∀ c,c<lo→c≠l→c≠p→hget h' c=hget h c)∧lo≤nx'
theorem each1_c {s:Bool} {n l p pc:Nat} {q:Nat→Bool} {vf:Value} {h:Hp} {nx:Nat} (hn:n≤63) (hv:SlRd h nx vf encU [mk n q]) (hpc:hget h pc=some (.cells [vf] false)) (C:CoI l p rfa rfb h nx [] (.slice none 0 0) none) (hlp:l≠p) (hl:l<nx) (hp:p<nx) (hne:∀ b,b<nx→hget h b=hget h b) :
  Cv Q O s 277 [.func (.yield l) ⟨[]⟩ ⟨[]⟩,.pointer (some ⟨pc,0,none⟩)] h nx (fun _ h' nx'=>∃ o bo,CoI l p rfa rfb h' nx' (natI (fl n q)) o bo∧(∀ c,bo=some c→nx≤c)∧(∀ c,c<nx→c≠l→c≠p→hget h' c=hget h c)∧nx≤nx'):=by
 refine each1v ?_
 obtain ⟨a,cap,rfl,hc⟩:=id hv
 obtain ⟨b,sp,ro,hb,rfl,hg⟩:=hc (by simp)
 have hg:hget h b=some (.cells [.int .u64 (mk n q:Int)] ro):=hg
 unfold each1
 simp (disch:=omega) only [SS,hpc,@List.length_cons Nat,@List.length_nil Nat,seval]
 refine Lp.mk (fun m vs h' nx'=>(m=1∧vs=[.func (.yield l) ⟨[]⟩ ⟨[]⟩,.slice (some ⟨b,0,sp⟩) 1 cap,.int .i64 1,.int .i64 0]∧h'=h∧nx'=nx)∨(m=0∧vs=[.func (.yield l) ⟨[]⟩ ⟨[]⟩,.slice (some ⟨b,0,sp⟩) 1 cap,.int .i64 1,.int .i64 1]∧∃ o bo,CoI l p rfa rfb h' nx' (natI (fl n q)) o bo∧(∀ c,bo=some c→nx≤c)∧(∀ c,c<nx→c≠l→c≠p→hget h' c=hget h c)∧nx≤nx')) 1 (.inl ⟨rfl,rfl,rfl,rfl⟩) ?_
 rintro m vs h' nx' (⟨rfl,rfl,eh,en⟩ | ⟨rfl,rfl,hR⟩)
 ·rw [each1b0,eh,en]
  unfold each1l0
  have esh:bin Q .shl 3 (.int .i64 0) (.int .u64 6) = .ok (.int .i64 0):=rfl
  simp (disch:=omega) only [SS,hg,esh,seval]
  refine ⟨?_,fun h=>absurd trivial h⟩
  refine Lp.mk (EaJ l p n nx pc q (.slice (some ⟨b,0,sp⟩) 1 cap) h) n ⟨0,.slice none 0 0,none,by omega,by omega,rfl,C,fun c e=>(by cases e),fun c _ _ _=>rfl,Nat.le_refl _⟩ ?_
  rintro _ _ h3 nx3 ⟨k,o,bo,rfl,hk,rfl,C3,hbl,hf3,hle3⟩
  rw [each1b1]
  unfold each1l1
  by_cases h0:mk (n-k) (fun i=>q (i+k))=0
  ·have hend:fl n q=fl k q:=fl_end hk fun i h1 h2=>by
    have:=mk_zero.1 h0 (i-k) (by omega)
    rwa [show i-k+k=i by omega] at this
   have e0:((mk (n-k) (fun i=>q (i+k)):Nat):Int)=0:=by rw [h0]; rfl
   simp (disch:=omega) only [SS,e0,seval]
   exact ⟨0,by omega,.inr ⟨rfl,rfl,o,bo,by rw [hend]; exact C3,hbl,hf3,hle3⟩⟩
  ·have hkn:k<n:=by
    rcases Nat.lt_or_ge k n with h | h
    ·exact h
    ·exact absurd (by rw [show n-k=0 by omega]; rfl) h0
   obtain ⟨r,hr⟩:∃ r,n-k=r+1:=⟨n-k-1,by omega⟩
   have e1:(((mk (n-k) (fun i=>q (i+k)):Nat):Int) == 0)=false:=by rw [beq_eq_false_iff_ne]; omega
   have e2:bin Q .and 221 (.int .u64 ((mk (n-k) (fun i=>q (i+k)):Nat):Int)) (.int .u64 1) = .ok (.int .u64 (if q k then 1 else 0)):=by
    rw [show (1:Int)=((1:Nat):Int) from rfl,bin_andU (mk64 (by omega)) (by omega),Nat.and_one_is_mod,hr,mk_odd,Nat.zero_add]
    cases q k <;> rfl
   have e3:mk (n-k) (fun i=>q (i+k)) / 2=mk (n-(k+1)) (fun i=>q (i+(k+1))):=by
    rw [hr,mk_shr,show n-(k+1)=r by omega]
    exact mk_ext fun i _=>by rw [show i+1+k=i+(k+1) by omega]
   have e4:bin Q .shr 221 (.int .u64 ((mk (n-k) (fun i=>q (i+k)):Nat):Int)) (.int .u64 1) = .ok (.int .u64 ((mk (n-(k+1)) (fun i=>q (i+(k+1))):Nat):Int)):=by rw [bin_shrU,e3]
   cases hq:q k with
   | true =>
    rw [hq] at e2
    simp (disch:=omega) only [SS,e1,e2,seval]
    show Yv Q O s l [.int .i64 (k:Int)] h3 nx3 _
    refine Yv_app app276 (enc:=encI) (fun _=>rfl) (fun _=>rfl) (x:=(k:Int)) rfl rfl C3.c C3.g hlp (by omega) (by omega) C3.b (by unfold natI; rw [List.length_map]; have:=fl_len k q; omega) fun h4 o4 hC4 hG4 hf4=>?_
    simp (disch:=omega) only [SS,seval]
    unfold each1k0
    simp (disch:=omega) only [SS,e4,wrap_s (show k<1000000000000 by omega),seval]
    refine ⟨n-(k+1),by omega,k+1,o4,some (nx3+1),rfl,by omega,rfl,⟨hC4,?_,fun c e=>?_⟩,fun c e=>?_,fun c h1 h2 h3'=>?_,by omega⟩
    ·rw [fl_up,hq]
     show Ow h4 encI o4 (natI (fl k q++[k])) _
     rw [show natI (fl k q++[k])=natI (fl k q)++[(k:Int)] by unfold natI; rw [List.map_append]; rfl]
     exact hG4
    ·cases e; exact ⟨by omega,by omega,by omega⟩
    ·cases e; omega
    ·rw [hf4 c (by omega) h2 h3' (fun e=>by have:=hbl c e; omega)]; exact hf3 c h1 h2 h3'
   | false =>
    rw [hq] at e2
    have e2':bin Q .and 221 (.int .u64 ((mk (n-k) (fun i=>q (i+k)):Nat):Int)) (.int .u64 1) = .ok (.int .u64 0):=e2
    simp (disch:=omega) only [SS,e1,e2',seval]
    unfold each1k0
    simp (disch:=omega) only [SS,e4,wrap_s (show k<1000000000000 by omega),seval]
    refine ⟨n-(k+1),by omega,k+1,o,bo,rfl,by omega,rfl,⟨C3.c,?_,C3.b⟩,hbl,hf3,hle3⟩
    rw [fl_up,hq]
    simp only [Bool.false_eq_true,if_false,List.append_nil]
    exact C3.g
 ·rw [each1b0]
  unfold each1l0
  simp (disch:=omega) only [SS,seval]
  exact fun _=>hR
def ListK (l:List Int) (nx:Nat) (h:Hp):KC':=fun r h' nx'=>∃ bo,Ow h' encI r l bo∧(∀ c,bo=some c→nx≤c∧c<nx')∧Keep nx h h'∧nx≤nx'
theorem flist_c {s:Bool} {n:Nat} {q:Nat→Bool} {v:Value} {h:Hp} {nx:Nat} (hn:n≤63) (hv:SlRd h nx v encU [mk n q]):Cv Q O s 117 [v] h nx (ListK (natI (fl n q)) nx h):=by
 refine flistv ?_
 obtain ⟨a,cap,rfl,hc⟩:=id hv
 unfold flist
 refine eachv ?_
 unfold each
 simp (disch:=omega) only [SS,seval]
 refine collectv ?_
 unfold collect
 refine appSeq_cv app276 rfl fun h1 hC hf=>?_
 have hK:Keep (nx+1) (hset h nx (.cells [.slice a [mk n q].length cap] false)) h1:=fun c hc=>hf c hc
 have hv1:SlRd h1 (nx+1+1+1) (.slice a [mk n q].length cap) encU [mk n q]:=by
  refine (hv.keep (nx':=nx) (h':=h1) (fun c hc=>?_) (Nat.le_refl _)).keep (Keep.refl _ _) (by omega)
  rw [hf c (by omega),hold (by omega)]
 refine (each1_c hn hv1 (by rw [hf nx (by omega),hnew]) ⟨hC,.nil,fun c e=>by cases e⟩ (by omega) (by omega) (by omega) (fun _ _=>rfl)).mono ?_
 rintro _ h2 nx2 ⟨o,bo,C2,hb2,hf2,hle2⟩
 refine ⟨o,C2.c,fun x=>⟨bo,C2.g.keep fun c e=>?_,fun c e=>⟨by have:=hb2 c e; omega,(C2.b c e).2.2⟩,fun c hc=>?_,by omega⟩⟩
 ·have:=C2.b c e
  rw [hold (by omega)]
 ·rw [hold (by omega),hf2 c (by omega) (by omega) (by omega),hf c (by omega),hold (by omega)]
theorem simple_has (gs:List GE) (a b:Nat):hasB (simpleM gs) a b=(decide (a≠b)&&hasB gs a b):=by
 apply Bool.eq_iff_iff.2
 rw [hasB_iff,Bool.and_eq_true,hasB_iff,decide_eq_true_iff]
 unfold simpleM noLoop
 rw [List.map_id]
 constructor
 ·rintro ⟨g,hg,rfl,rfl⟩
  have:=List.mem_filter.1 hg
  exact ⟨of_decide_eq_true this.2,g,this.1,rfl,rfl⟩
 ·rintro ⟨hne,g,hg,rfl,rfl⟩
  exact ⟨g,List.mem_filter.2 ⟨hg,decide_eq_true hne⟩,rfl,rfl⟩
theorem turn_has (gs:List GE) (a b:Nat):hasB (turnM gs) a b=hasB gs b a:=by
 apply Bool.eq_iff_iff.2
 rw [hasB_iff,hasB_iff]
 unfold turnM turnG
 constructor
 ·rintro ⟨g,hg,rfl,rfl⟩
  obtain ⟨e,he,rfl⟩:=List.mem_map.1 hg
  exact ⟨e,(List.mem_filter.1 he).1,rfl,rfl⟩
 ·rintro ⟨g,hg,rfl,rfl⟩
  exact ⟨⟨g.t,g.f,g.w⟩,List.mem_map.2 ⟨g,List.mem_filter.2 ⟨hg,rfl⟩,rfl⟩,rfl,rfl⟩
theorem both_has {gs c1 ts c2:List GE} (h1:IsCan ((simpleM gs).map gE) (c1.map gE)) (h2:IsCan ((turnM c1).map gE) (ts.map gE)) (h3:IsCan ((c1++ts).map gE) (c2.map gE)) (a b:Nat):hasB c2 a b=nb gs a b:=by
 rw [can_has h3,hasB_app,can_has h2,turn_has,can_has h1,can_has h1,simple_has,simple_has]
 unfold nb
 rw [show decide (b≠a)=decide (a≠b) by simp [eq_comm],← Bool.and_or_distrib_left]
structure Sv where
 a:Option Addr
 n:Nat
 c:Nat
def encS (x:Sv):List Value:=[.slice x.a x.n x.c]
def SvIs (h:Hp) (lo hi:Nat) (bo:Option Nat) (x:Sv) (cs:List Value):Prop:=(cs=[]∧x=⟨none,0,0⟩)∨∃ b sp,x.a=some ⟨b,0,sp⟩∧x.n=cs.length∧lo≤b∧b<hi∧bo≠some b∧hget h b=some (.cells cs false)
structure Vs (h:Hp) (lo hi:Nat) (svs:List Sv) (css:List (List Value)) (o:Value) (bo:Option Nat):Prop where
 g:Ow h encS o svs bo
 b:∀ c,bo=some c→lo≤c∧c<hi
 len:svs.length=css.length
 s:∀ (i:Nat) x cs,svs[i]? = some x→css[i]? = some cs→SvIs h lo hi bo x cs
theorem Vs.nil {h:Hp} {lo hi:Nat}:Vs h lo hi [] [] (.slice none 0 0) none:=⟨.nil,fun c e=>(by cases e),rfl,fun i x cs h1 h2=>(by cases h1)⟩
theorem Vs.keep {h h':Hp} {lo hi hi':Nat} {svs:List Sv} {css:List (List Value)} {o:Value} {bo:Option Nat} (V:Vs h lo hi svs css o bo) (hk:∀ b,lo≤b→b<hi→hget h' b=hget h b) (hle:hi≤hi'):Vs h' lo hi' svs css o bo:=by
 refine ⟨V.g.keep fun c e=>hk c (V.b c e).1 (V.b c e).2,fun c e=>⟨(V.b c e).1,by have:=(V.b c e).2; omega⟩,V.len,fun i x cs h1 h2=>?_⟩
 rcases V.s i x cs h1 h2 with e | ⟨b,sp,e1,e2,e3,e4,e5,e6⟩
 ·exact .inl e
 ·exact .inr ⟨b,sp,e1,e2,e3,by omega,e5,by rw [hk b e3 e4]; exact e6⟩
theorem Vs.add {h h':Hp} {lo hi nb hi':Nat} {svs:List Sv} {css:List (List Value)} {o o':Value} {bo:Option Nat} {x:Sv} {cs:List Value} (V:Vs h lo hi svs css o bo) (hx:SvIs h lo hi bo x cs) (hnb:hi≤nb) (hlo:lo≤hi) (hhi:nb<hi') (hg:Ow h' encS o' (svs++[x]) (some nb)) (hf:∀ c,c<hi→bo≠some c→lo≤c→hget h' c=hget h c) :
  Vs h' lo hi' (svs++[x]) (css++[cs]) o' (some nb):=by
 have up:∀ {x cs},SvIs h lo hi bo x cs→SvIs h' lo hi' (some nb) x cs:=fun {x cs} hs=>by
  rcases hs with e | ⟨b,sp,e1,e2,e3,e4,e5,e6⟩
  ·exact .inl e
  ·exact .inr ⟨b,sp,e1,e2,e3,by omega,fun e=>by cases e; omega,by rw [hf b e4 e5 e3]; exact e6⟩
 refine ⟨hg,fun c e=>by cases e; exact ⟨by omega,hhi⟩,by rw [List.length_append,List.length_append,V.len]; rfl,fun i y ds h1 h2=>?_⟩
 rw [List.getElem?_append] at h1 h2
 rw [← V.len] at h2
 split at h1
 ·rename_i hi
  rw [if_pos hi] at h2
  exact up (V.s i y ds h1 h2)
 ·rename_i hi
  rw [if_neg hi] at h2
  have h0:i-svs.length=0:=by
   rcases Nat.eq_zero_or_pos (i-svs.length) with h | h
   ·exact h
   ·rw [List.getElem?_eq_none (by show 1≤_; omega)] at h1; cases h1
  rw [h0] at h1 h2
  cases h1; cases h2
  exact up hx
def ByIs (h:Hp) (lo nx:Nat) (v:Value) (N:Nat) (f:Nat→Nat→Bool):Prop:=∃ b sp c ro os,v = .slice (some ⟨b,0,sp⟩) N c∧lo≤b∧b<nx∧hget h b=some (.cells os ro)∧os.length=N∧∀ i,i<N→∃ o,os[i]? = some o∧SlNw h lo nx o encU [mk N (f i)]
theorem ByIs.keep {h h':Hp} {lo lo' nx nx' N:Nat} {v:Value} {f:Nat→Nat→Bool} (B:ByIs h lo nx v N f) (hk:∀ b,lo≤b→b<nx→hget h' b=hget h b) (hl:lo'≤lo) (hle:nx≤nx'):ByIs h' lo' nx' v N f:=by
 obtain ⟨b,sp,c,ro,os,rfl,h0,h1,h2,h3,h4⟩:=B
 refine ⟨b,sp,c,ro,os,rfl,by omega,by omega,by rw [hk b h0 h1]; exact h2,h3,fun i hi=>?_⟩
 obtain ⟨o,e,hs⟩:=h4 i hi
 exact ⟨o,e,hs.keep hk hl hle⟩
def anyN (f:Nat→Nat→Bool) (l:List Nat) (i:Nat):Bool:=l.any fun v=>f v i
def TcJ (N:Nat) (f:Nat→Nat→Bool) (vb vl:Value) (l:List Nat) (nx:Nat) (h:Hp) (m:Nat) (vs:List Value) (h':Hp) (nx':Nat):Prop :=
 ∃ (i:Nat) (o:Value),m=l.length-i∧i≤l.length∧vs=[vb,o,vl,.int .i64 (l.length:Int),.int .i64 (i:Int)]∧SetK (mk N (anyN f (l.take i))) nx h o h' nx'
theorem SetK.up {w nx nx1:Nat} {h h1:Hp} {r:Value} {h':Hp} {nx':Nat} (H:SetK w nx1 h1 r h' nx') (hk:Keep nx h h1) (hle:nx≤nx1):SetK w nx h r h' nx':=by
 obtain ⟨b,c,sp,rfl,e1,e2,e3,e4,e5⟩:=H
 exact ⟨b,c,sp,rfl,by omega,e2,e3,hk.trans e4 hle,by omega⟩
theorem touched_c {s:Bool} {N lo:Nat} {f:Nat→Nat→Bool} {vb vl:Value} {l:List Nat} {h:Hp} {nx:Nat} (h0:1≤N) (h1:N≤63) (hB:ByIs h lo nx vb N f) (hl:SlRd h nx vl encI (natI l)) (hln:∀ x∈l,x<N) (hlen:l.length<1000000):Cv Q O s 109 [.int .i64 (N:Int),vb,vl] h nx (SetK (mk N (anyN f l)) nx h):=by
 refine touchedv ?_
 obtain ⟨a,cap,rfl,hc⟩:=id hl
 obtain ⟨b,sp,c,ro,os,rfl,hb0,hb1,hb2,hb3,hb4⟩:=id hB
 unfold touched
 refine (fnew_c h0 (by omega)).mono ?_
 rintro r h2 n2 hr
 have hll:(natI l).length=l.length:=by unfold natI; rw [List.length_map]
 obtain ⟨b',c',sp',rfl,_⟩:=id hr
 simp (disch:=omega) only [SS,seval]
 refine Lp.mk (TcJ N f (.slice (some ⟨b,0,sp⟩) N c) (.slice a (natI l).length cap) l nx h) l.length ⟨0,_,by omega,by omega,by rw [hll]; rfl,by rw [List.take_zero,show mk N (anyN f [])=0 from mk_none N]; exact hr⟩ ?_
 rintro _ _ h3 nx3 ⟨i,o,rfl,hi,rfl,hS⟩
 have hk3:Keep nx h h3:=by obtain ⟨_,_,_,_,_,_,_,e,_⟩:=hS; exact e
 have hle3:nx≤nx3:=by obtain ⟨_,_,_,_,_,_,_,_,e⟩:=hS; exact e
 rw [touchedb0]
 unfold touchedl0
 simp (disch:=omega) only [SS,seval]
 refine ⟨fun hlt=>?_,fun hge=>?_⟩
 ·obtain ⟨x,hx⟩:=get_ex hlt
  have hxI:(natI l)[i]? = some (x:Int):=by unfold natI; rw [List.getElem?_map,hx]; rfl
  obtain ⟨_,b2,sp2,ro2,c1,hb5,e1,hg2⟩:=hl.at hxI
  cases e1
  rw [flat_ints] at hg2
  have hxn:=hln x (List.mem_of_getElem? hx)
  obtain ⟨ox,hox,hsx⟩:=hb4 x hxn
  simp (disch:=omega) only [SS,(hk3 b2 hb5).trans hg2,ints_get hxI,(hk3 b hb1).trans hb2,hox,seval]
  refine (funion_c (p:=anyN f (l.take i)) (q:=f x) (by omega) hS.rd (hsx.rd.keep hk3 hle3)).mono ?_
  intro r h4 n4 hr4
  obtain ⟨b',c',sp',rfl,_⟩:=id hr4
  simp (disch:=omega) only [SS,wrap_s (show i<1000000000000 by omega),seval]
  refine ⟨_,by omega,i+1,_,rfl,by omega,by rw [hll],?_⟩
  have:(fun j=>anyN f (l.take i) j||f x j)=anyN f (l.take (i+1)):=by
   funext j
   unfold anyN
   rw [List.take_add_one,hx,List.any_append]
   simp
  rw [← this]
  exact hr4.up hk3 hle3
 ·have:i=l.length:=by omega
  subst this
  rw [List.take_length] at hS
  exact hS
end Go.Proofs.YtcjochjiegiliaaGreat
