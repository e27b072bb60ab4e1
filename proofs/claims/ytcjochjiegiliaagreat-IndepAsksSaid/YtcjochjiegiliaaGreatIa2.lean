/- Parts of the proof: Ia2: each statement bears its own conditions. -/
import Derived.Sort.LotC
import Derived.Sort.Lot0
import Derived.Sort.AssemblyPlain
import Derived.Test.YtcjochjiegiliaaGreatIa1
namespace Go.Ax
open Go
set_option linter.unusedSimpArgs false
set_option linter.unusedVariables false
set_option linter.unusedSectionVars false
section
variable {P:Program} {orc:Orc} {s:Bool}
theorem zJF {t:TypeId} {k:IntKind} {a b:Int} (hb:b≠0):bin P .quo t (.int k a) (.int k b) = .ok (.int k (k.wrap (a.tdiv b))):=by
 rw [zF0 _ _ _ _ _ rfl];show iDiv .quo k a b=_;unfold iDiv;rw [zAJ,show (b == 0)=false by simp [hb],← zAT];rfl
theorem wrapP {q:Nat} (h:q<1000000000):IntKind.wrap .i64 ((q:Int)-1)=(q:Int)-1:=by
 cases q with
 | zero=>rfl
 | succ q =>
  rw [show ((q+1:Nat):Int)-1=(q:Int) by omega];exact zB8 (by omega) (by omega)
theorem Ev.loopG {B c:Nat} {cnd tail:CC} {K:KO'} (J:Nat→KS')
  (hJ:∀ m tm h nx,J m tm h nx→Ev P orc s cnd tm h nx (zGh (fun tm h nx=>∃ t:Bool,tget tm c = .bool t∧(t=false→K .normal tm h nx) ∧
   (t=true→Ev P orc s tail tm h nx (zGh (fun tm h nx=>∃ m',m'<m∧J m' tm h nx) (blkK B K)))) (fun _ _ _ _=>False))) :
  ∀ m tm h nx,J m tm h nx→Ev P orc s (.block B (.loop (.seq (.seq cnd (.cond (.t c) .skip (.exit B))) tail))) tm h nx K:=by
 intro m tm h nx hj;refine Ev.block (Ev.loop J ?_ m tm h nx hj);intro m tm h nx hj;refine Ev.seq (Ev.seq ((hJ m tm h nx hj).mono ?_));intro x tm h nx hx;cases x with
 | normal =>
  simp only [zC] at hx ⊢;obtain ⟨t,ht,hf,hg⟩:=hx;refine Ev.cond t (by simpa using ht) (fun e=>Ev.skip ?_) (fun e=>Ev.exit ?_)
  ·simp only [zC];exact hg e
  ·simp only [zAc,zAv,↓reduceIte];exact hf e
 | ret=>exact hx.elim
 | exit i=>exact hx.elim
variable {α:Type} [Inhabited α] {enc:α→List Value} {k:Nat}
def zNf (fs k:Nat):CF:={ res:=[],body:=(.seq (.regO [mV 13 1,mV 8 13]) (.seq (.regO [mC 9 (.int .i64 0)]) (.seq (.regO [mV 14 2,mV 15 1,bT 16 .sub 3 14 15,mV 10 16]) (.seq (.seq (.regO [mV 17 10,bC 18 .sub 3 17 (.int .i64 1),bC 19 .quo 3 18 (.int .i64 2),mV 11 19]) (.block 0 (.loop (.seq (.seq (.regO [mV 20 11,bC 21 .geq 3 20 (.int .i64 0)]) (.cond (.t 21) .skip (.exit 0))) (.seq (.block 1 (.regO [mV 24 0,mV 25 11,mV 26 10,mV 27 8,mV 28 3,eU 29 (.call fs [(.t 24),(.t 25),(.t 26),(.t 27),(.t 28)])])) (.regO [mV 22 11,bC 23 .sub 3 22 (.int .i64 1),mV 11 23])))))) (.seq (.regO [mV 30 10,bC 31 .sub 3 30 (.int .i64 1),mV 12 31]) (.block 2 (.loop (.seq (.seq (.regO [mV 32 12,bC 33 .geq 3 32 (.int .i64 0)]) (.cond (.t 33) .skip (.exit 2))) (.seq (.block 3 (.seq (.regD [mV 36 0,mV 37 8,mV 42 0,mV 43 8,mV 44 12,bT 45 .add 3 43 44,pU 46 (.ixA (.slice k) (.t 42) (.t 45)),rU 47 0 (.ld (some k) (.t 46)),mV 48 0,mV 49 8,pU 50 (.ixA (.slice k) (.t 48) (.t 49)),rU 51 0 (.ld (some k) (.t 50)),pU 52 (.ixA (.slice k) (.t 36) (.t 37)),eN (.st k (.t 52) (.t 47)),⟨none,(some 38),1,.pur (.mv (.t 0))⟩,⟨none,(some 39),1,.pur (.mv (.t 8))⟩,⟨none,(some 40),1,.pur (.mv (.t 12))⟩,⟨none,(some 41),1,.pur (.bin .add 3 (.t 39) (.t 40))⟩,pU 53 (.ixA (.slice k) (.t 38) (.t 41)),eN (.st k (.t 53) (.t 51))]) (.regO [mV 54 0,mV 55 9,mV 56 12,mV 57 8,mV 58 3,eU 59 (.call fs [(.t 54),(.t 55),(.t 56),(.t 57),(.t 58)])]))) (.regO [mV 34 12,bC 35 .sub 3 34 (.int .i64 1),mV 12 35])))))))))) }
def HpJ0 {α:Type} [Inhabited α] (enc:α→List Value) (c:α→α→Int) (b n cap:Nat) (sp:Option Nat) (fc hi first:Nat) (dE:Array α) (nx:Nat) (h:Hp) (m:Nat) (tm:Tm) (h':Hp) (nx':Nat):Prop :=
 ∃ (q:Nat) (d:Array α),m=q∧tget tm 0 = .slice (some ⟨b,0,sp⟩) n cap∧tget tm 3 = .func (.func fc) #[] #[]∧tget tm 8 = .int .i64 (first:Int)∧tget tm 9 = .int .i64 0∧tget tm 10 = .int .i64 (hi:Int)∧tget tm 11 = .int .i64 ((q:Int)-1) ∧
  d.size=n∧q≤100000∧Sort.heapBuild (ltC c) hi first q d=dE∧hget h' b=some (.cells (arr enc d) false)∧(∀ c,c<nx→c≠b→hget h' c=hget h c)∧nx≤nx'
def HpJ2 {α:Type} [Inhabited α] (enc:α→List Value) (c:α→α→Int) (b n cap:Nat) (sp:Option Nat) (fc hi first:Nat) (dE:Array α) (nx:Nat) (h:Hp) (m:Nat) (tm:Tm) (h':Hp) (nx':Nat):Prop :=
 ∃ (q:Nat) (d:Array α),m=q∧tget tm 0 = .slice (some ⟨b,0,sp⟩) n cap∧tget tm 3 = .func (.func fc) #[] #[]∧tget tm 8 = .int .i64 (first:Int)∧tget tm 9 = .int .i64 0∧tget tm 12 = .int .i64 ((q:Int)-1) ∧
  d.size=n∧q≤hi∧Sort.heapPop (ltC c) first q d=dE∧hget h' b=some (.cells (arr enc d) false)∧(∀ c,c<nx→c≠b→hget h' c=hget h c)∧nx≤nx'
theorem zEX (lt:α→α→Bool) (hi first:Nat):∀ (m root:Nat) (d:Array α),hi-root≤m→(Sort.siftDown lt hi first root d).size=d.size
 | 0,root,d,hm=>by rw [Sort.siftDown,dif_pos (by omega)]
 | m+1,root,d,hm=>by
  rw [Sort.siftDown]
  split
  ·rfl
  ·split
   ·split
    ·rfl
    ·split
     ·rw [zEX lt hi first m _ _ (by omega)]; simp [Sort.swp]
     ·rfl
   ·split
    ·rfl
    ·rw [zEX lt hi first m _ _ (by omega)]; simp [Sort.swp]
theorem heap_cv {f fs fc:Nat} {c:α→α→Int} (S:SoAt P orc fc k enc c) (hcf:zD P f=some (zNf fs k)) (ho:orc f=none) (hcs:zD P fs=some (zKY k)) (hos:orc fs=none) {b n cap a e:Nat} {sp:Option Nat} {d:Array α} {h:Hp} {nx:Nat}
  (hb:b<nx) (hd:d.size=n) (hn:n<100000) (hae:a<e) (hen:e≤n) (hh:hget h b=some (.cells (arr enc d) false)) :
  Cv P orc s f [.slice (some ⟨b,0,sp⟩) n cap,.int .i64 (a:Int),.int .i64 (e:Int),.func (.func fc) #[] #[]] h nx (ArrK enc b (Sort.heapSort (ltC c) d a e) nx h):=by
 unfold Sort.heapSort;generalize hd1:Sort.heapBuild (ltC c) (e-a) a ((e-a-1) / 2+1) d=d1;refine Cv.enter ho hcf ?_;unfold zNf bC bT eN eU mC mV pU rU;refine Ev.seq (Ev.regO ?_);simp only [SB,seval];refine Ev.seq (Ev.regO ?_);simp only [SB,seval];refine Ev.seq (Ev.regO ?_);have w1:IntKind.wrap .i64 ((e:Int)-(a:Int))=((e-a:Nat):Int):=wSub (by omega) (by omega);simp only [SB,w1,seval];refine Ev.genT (fun tm2=>tget tm2 0 = .slice (some ⟨b,0,sp⟩) n cap∧tget tm2 3 = .func (.func fc) #[] #[]∧tget tm2 8 = .int .i64 (a:Int)∧tget tm2 9 = .int .i64 0∧tget tm2 10 = .int .i64 ((e-a:Nat):Int)) (by simp) ?_;rintro tm2 ⟨u0,u3,u8,u9,u10⟩;refine Ev.cut (fun tm h' nx'=>HpJ0 enc c b n cap sp fc (e-a) a d1 nx h 0 tm h' nx') ?_ ?_
 ·refine Ev.seq (Ev.regO ?_);have w2:IntKind.wrap .i64 (((e-a:Nat):Int)-1)=((e-a-1:Nat):Int):=wS1 (by omega) (by omega);have w3:IntKind.wrap .i64 (Int.tdiv ((e-a-1:Nat):Int) 2)=(((e-a-1) / 2:Nat):Int):=by
   rw [show Int.tdiv ((e-a-1:Nat):Int) 2=(((e-a-1) / 2:Nat):Int) from by rw [Int.tdiv_eq_ediv_of_nonneg (by omega)]; omega];exact zB8 (by omega) (by omega)
  simp only [SB,u10,w2,zJF (show (2:Int)≠0 by decide),w3,seval];refine Ev.loopG (HpJ0 enc c b n cap sp fc (e-a) a d1 nx h) ?_ ((e-a-1) / 2+1) _ _ _ ⟨_,d,rfl,by simp [u0],by simp [u3],by simp [u8],by simp [u9],by simp [u10],by simp,hd,by omega,hd1,hh,fun _ _ _=>rfl,Nat.le_refl _⟩;rintro m tm h' nx' ⟨q,d,rfl,t0,t3,t8,t9,t10,t11,hd,hq,hE,hh,hfr,hnx⟩;refine Ev.regO ?_;simp only [SB,t11,seval];cases m with
  | zero =>
   refine ⟨false,by simp,fun _=>?_,fun e=>Bool.noConfusion e⟩;exact ⟨0,d,rfl,by simp [t0],by simp [t3],by simp [t8],by simp [t9],by simp [t10],by simp [t11],hd,by omega,hE,hh,hfr,hnx⟩
  | succ q =>
   refine ⟨true,by simp <;> omega,fun e=>Bool.noConfusion e,fun _=>?_⟩;have e1:((q+1:Nat):Int)-1=(q:Int):=by omega
   rw [e1] at t11;have w4:IntKind.wrap .i64 ((q:Int)-1)=(q:Int)-1:=wrapP (by omega);refine Ev.seq (Ev.block (Ev.regO ?_));simp only [SB,t0,t3,t8,t10,t11,seval];refine ze ?_;simp only [zP,zJ,zO,zn,tgs,seval];refine (zPf S hcs hos (by omega) hd hn (by omega) (by omega) hh).mono ?_;rintro r h1 nx1 ⟨hh1,hf1,hn1⟩;simp only [SB,t11,w4,seval];refine Ev.regO ?_;simp only [SB,t11,w4,seval];exact ⟨q,by omega,q,_,rfl,by simp [t0],by simp [t3],by simp [t8],by simp [t9],by simp [t10],by simp,by rw [zEX _ _ _ _ _ _ (Nat.le_refl _),hd],by omega,hE,hh1,fun c hc hcb=>(hf1 c (by omega) hcb).trans (hfr c hc hcb),by omega⟩
 ·rintro tm h' nx' ⟨q,d,hq0,t0,t3,t8,t9,t10,t11,hd,hq,hE,hh,hfr,hnx⟩;subst hq0;have hE:d=d1:=hE;subst hE;generalize hdE:Sort.heapPop (ltC c) a (e-a) d=dE;refine Ev.seq (Ev.regO ?_);have w2:IntKind.wrap .i64 (((e-a:Nat):Int)-1)=((e-a:Nat):Int)-1:=zB8 (by omega) (by omega);simp only [SB,t10,w2,seval];refine Ev.loopG (HpJ2 enc c b n cap sp fc (e-a) a dE nx h) ?_ (e-a) _ _ _ ⟨_,d,rfl,by simp [t0],by simp [t3],by simp [t8],by simp [t9],by simp,hd,by omega,hdE,hh,hfr,hnx⟩;rintro m tm h' nx' ⟨q,d,rfl,t0,t3,t8,t9,t12,hd,hq,hE,hh,hfr,hnx⟩;refine Ev.regO ?_;simp only [SB,t12,seval];cases m with
  | zero =>
   refine ⟨false,by simp,fun _=>?_,fun e=>Bool.noConfusion e⟩;have hE:d=dE:=hE;subst hE;exact ⟨hh,hfr,hnx⟩
  | succ q =>
   refine ⟨true,by simp <;> omega,fun e=>Bool.noConfusion e,fun _=>?_⟩;have e1:((q+1:Nat):Int)-1=(q:Int):=by omega
   rw [e1] at t12;have w4:IntKind.wrap .i64 ((q:Int)-1)=(q:Int)-1:=wrapP (by omega);have w5:IntKind.wrap .i64 ((a:Int)+(q:Int))=((a+q:Nat):Int):=wN (by omega);have i1:a<n:=by omega
   have i2:a+q<n:=by omega
   have r1:=zk S.hk (hd.symm ▸ i1);have r2:=zk S.hk (hd.symm ▸ i2);have hE:Sort.heapPop (ltC c) a q (Sort.siftDown (ltC c) q a 0 (Sort.swp d a (a+q)))=dE:=hE;refine Ev.seq (Ev.block (Ev.seq (Ev.regD ?_)));simp only [SB,t0,t8,t12,w5,i1,i2,zA hh,r1,r2,seval];rw [zAP S.hk S.cell hh (hd.symm ▸ i1)];rw [zAP (d:=d.setIfInBounds (a) d[a+q]!) S.hk S.cell (by simp) (by simp; omega)]
   (try simp only [SB,seval])
   refine Ev.regO ?_;simp only [SB,t0,t3,t8,t9,t12,seval];refine ze ?_;simp only [zP,zJ,zO,zn,tgs,seval];refine (zPf (lo:=0) (hi:=q) (d:=Sort.swp d a (a+q)) S hcs hos (by omega) (by simp [Sort.swp,hd]) hn (by omega) (by omega) (by simp [Sort.swp])).mono ?_;rintro r h1 nx1 ⟨hh1,hf1,hn1⟩;simp only [SB,t12,w4,seval];refine Ev.regO ?_;simp only [SB,t12,w4,seval];refine ⟨q,by omega,q,_,rfl,by simp [t0],by simp [t3],by simp [t8],by simp [t9],by simp,by rw [zEX _ _ _ _ _ _ (Nat.le_refl _)]; simp [Sort.swp,hd],by omega,hE,hh1,fun c hc hcb=>?_,by omega⟩;rw [hf1 c (by omega) hcb,hgs,if_neg hcb,hgs,if_neg hcb];exact hfr c hc hcb
def cfRev (k:Nat):CF:={ res:=[],body:=(.seq (.regO [mV 10 1,mV 8 10]) (.seq (.regO [mV 11 2,bC 12 .sub 3 11 (.int .i64 1),mV 9 12]) (.block 0 (.loop (.seq (.seq (.regO [mV 13 8,mV 14 9,bT 15 .lss 3 13 14]) (.cond (.t 15) .skip (.exit 0))) (.block 1 (.seq (.regD [mV 16 0,mV 17 8,mV 20 0,mV 21 9,pU 22 (.ixA (.slice k) (.t 20) (.t 21)),rU 23 0 (.ld (some k) (.t 22)),mV 24 0,mV 25 8,pU 26 (.ixA (.slice k) (.t 24) (.t 25)),rU 27 0 (.ld (some k) (.t 26)),pU 28 (.ixA (.slice k) (.t 16) (.t 17)),eN (.st k (.t 28) (.t 23)),⟨none,(some 18),1,.pur (.mv (.t 0))⟩,⟨none,(some 19),1,.pur (.mv (.t 9))⟩,pU 29 (.ixA (.slice k) (.t 18) (.t 19)),eN (.st k (.t 29) (.t 27))]) (.seq (.regO [mV 30 8,bC 31 .add 3 30 (.int .i64 1),mV 8 31]) (.regO [mV 32 9,bC 33 .sub 3 32 (.int .i64 1),mV 9 33]))))))))) }
def RvJ {α:Type} [Inhabited α] (enc:α→List Value) (b n cap:Nat) (sp:Option Nat) (dE:Array α) (nx:Nat) (h:Hp) (m:Nat) (tm:Tm) (h':Hp) (nx':Nat):Prop :=
 ∃ (i j:Nat) (d:Array α),m=j-i∧tget tm 0 = .slice (some ⟨b,0,sp⟩) n cap∧tget tm 8 = .int .i64 (i:Int)∧tget tm 9 = .int .i64 (j:Int)∧i≤n∧j<n ∧
  d.size=n∧Sort.reverseLoop i j d=dE∧hget h' b=some (.cells (arr enc d) false)∧(∀ c,c<nx→c≠b→hget h' c=hget h c)∧nx≤nx'
theorem rev_cv {f fc:Nat} {c:α→α→Int} (S:SoAt P orc fc k enc c) (hcf:zD P f=some (cfRev k)) (ho:orc f=none) {b n cap a e:Nat} {sp:Option Nat} {d:Array α} {h:Hp} {nx:Nat} {v:Value}
  (hb:b<nx) (hd:d.size=n) (hn:n<100000) (hae:a<e) (hen:e≤n) (hh:hget h b=some (.cells (arr enc d) false)) :
  Cv P orc s f [.slice (some ⟨b,0,sp⟩) n cap,.int .i64 (a:Int),.int .i64 (e:Int),v] h nx (ArrK enc b (Sort.reverseRange d a e) nx h):=by
 unfold Sort.reverseRange;generalize hdE:Sort.reverseLoop a (e-1) d=dE;refine Cv.enter ho hcf ?_;unfold cfRev bC bT eN mV pU rU;refine Ev.seq (Ev.regO ?_);simp only [SB,seval];refine Ev.seq (Ev.regO ?_);have w1:IntKind.wrap .i64 ((e:Int)-1)=((e-1:Nat):Int):=wS1 (by omega) (by omega);simp only [SB,w1,seval];refine Ev.loopG (RvJ enc b n cap sp dE nx h) ?_ (e-1-a) _ _ _ ⟨a,e-1,d,rfl,by simp,by simp,by simp,by omega,by omega,hd,hdE,hh,fun _ _ _=>rfl,Nat.le_refl _⟩;rintro m tm h' nx' ⟨i,j,d,rfl,t0,t8,t9,hi,hj,hd,hE,hh,hfr,hnx⟩;refine Ev.regO ?_;simp only [SB,t8,t9,seval];rw [Sort.reverseLoop] at hE
 by_cases hij:i<j
 ·rw [if_pos hij] at hE;refine ⟨true,by simp <;> omega,fun e=>Bool.noConfusion e,fun _=>?_⟩;have w2:IntKind.wrap .i64 ((i:Int)+1)=((i+1:Nat):Int):=wN1 (by omega);have w3:IntKind.wrap .i64 ((j:Int)-1)=((j-1:Nat):Int):=wS1 (by omega) (by omega);have i1:i<n:=by omega
  have i2:j<n:=by omega
  have r1:=zk S.hk (hd.symm ▸ i1);have r2:=zk S.hk (hd.symm ▸ i2);refine Ev.block (Ev.seq (Ev.regD ?_));simp only [SB,t0,t8,t9,i1,i2,zA hh,r1,r2,seval];rw [zAP S.hk S.cell hh (hd.symm ▸ i1)];rw [zAP (d:=d.setIfInBounds (i) d[j]!) S.hk S.cell (by simp) (by simp; omega)]
  (try simp only [SB,seval])
  refine Ev.seq (Ev.regO ?_);simp only [SB,t8,w2,seval];refine Ev.regO ?_;simp only [SB,t9,w3,seval];refine ⟨j-1-(i+1),by omega,i+1,j-1,Sort.swp d i j,rfl,by simp [t0],by simp,by simp,by omega,by omega,by simp [Sort.swp,hd],hE,by simp [Sort.swp],fun c hc hcb=>?_,by omega⟩;rw [hgs,if_neg hcb,hgs,if_neg hcb];exact hfr c hc hcb
 ·rw [if_neg hij] at hE;subst hE;refine ⟨false,by simp <;> omega,fun _=>?_,fun e=>Bool.noConfusion e⟩;exact ⟨hh,hfr,hnx⟩
end
section
variable {P:Program} {orc:Orc} {s:Bool}
variable {α:Type} [Inhabited α] {enc:α→List Value} {k:Nat}
def zNe (k:Nat):CF:={ res:=[],body:=(.seq (.regO [mV 10 1,bC 11 .add 3 10 (.int .i64 1),mV 8 11]) (.block 0 (.loop (.seq (.seq (.regO [mV 12 8,mV 13 2,bT 14 .lss 3 12 13]) (.cond (.t 14) .skip (.exit 0))) (.seq (.block 1 (.seq (.regO [mV 17 8,mV 9 17]) (.block 2 (.loop (.seq (.seq (.regD [mV 18 9,mV 19 1,bT 20 .gtr 3 18 19,mV 21 20,⟨(some (21,true)),(some 22),0,.pur (.mv (.t 3))⟩,⟨(some (21,true)),(some 23),0,.pur (.mv (.t 0))⟩,⟨(some (21,true)),(some 24),0,.pur (.mv (.t 9))⟩,⟨(some (21,true)),(some 25),0,.pur (.ixA (.slice k) (.t 23) (.t 24))⟩,⟨(some (21,true)),(some 26),0,.red (.ld (some k) (.t 25))⟩,⟨(some (21,true)),(some 27),0,.pur (.mv (.t 0))⟩,⟨(some (21,true)),(some 28),0,.pur (.mv (.t 9))⟩,⟨(some (21,true)),(some 29),0,.pur (.bin .sub 3 (.t 28) (.v (.int .i64 1)))⟩,⟨(some (21,true)),(some 30),0,.pur (.ixA (.slice k) (.t 27) (.t 29))⟩,⟨(some (21,true)),(some 31),0,.red (.ld (some k) (.t 30))⟩,⟨(some (21,true)),(some 32),0,.eff (.callv (.t 22) [(.t 26),(.t 31)])⟩,⟨(some (21,true)),(some 33),0,.pur (.bin .lss 3 (.t 32) (.v (.int .i64 0)))⟩,pU 34 (.pick (.t 21) (.t 33) (.v (.bool false)))]) (.cond (.t 34) .skip (.exit 2))) (.seq (.block 3 (.regD [mV 37 0,mV 38 9,mV 42 0,mV 43 9,bC 44 .sub 3 43 (.int .i64 1),pU 45 (.ixA (.slice k) (.t 42) (.t 44)),rU 46 0 (.ld (some k) (.t 45)),mV 47 0,mV 48 9,pU 49 (.ixA (.slice k) (.t 47) (.t 48)),rU 50 0 (.ld (some k) (.t 49)),pU 51 (.ixA (.slice k) (.t 37) (.t 38)),eN (.st k (.t 51) (.t 46)),⟨none,(some 39),1,.pur (.mv (.t 0))⟩,⟨none,(some 40),1,.pur (.mv (.t 9))⟩,⟨none,(some 41),1,.pur (.bin .sub 3 (.t 40) (.v (.int .i64 1)))⟩,pU 52 (.ixA (.slice k) (.t 39) (.t 41)),eN (.st k (.t 52) (.t 50))])) (.regO [mV 35 9,bC 36 .sub 3 35 (.int .i64 1),mV 9 36]))))))) (.regO [mV 15 8,bC 16 .add 3 15 (.int .i64 1),mV 8 16])))))) }
def IsJ0 {α:Type} [Inhabited α] (enc:α→List Value) (c:α→α→Int) (b n cap:Nat) (sp:Option Nat) (fc a e:Nat) (dE:Array α) (nx:Nat) (h:Hp) (m:Nat) (tm:Tm) (h':Hp) (nx':Nat):Prop :=
 ∃ (i:Nat) (d:Array α),m=e-i∧tget tm 0 = .slice (some ⟨b,0,sp⟩) n cap∧tget tm 1 = .int .i64 (a:Int)∧tget tm 2 = .int .i64 (e:Int)∧tget tm 3 = .func (.func fc) #[] #[]∧tget tm 8 = .int .i64 (i:Int)∧a<i∧i<200000 ∧
  d.size=n∧Sort.insOuter (ltC c) a e i d=dE∧hget h' b=some (.cells (arr enc d) false)∧(∀ c,c<nx→c≠b→hget h' c=hget h c)∧nx≤nx'
def IsQ {α:Type} [Inhabited α] (enc:α→List Value) (c:α→α→Int) (b n cap:Nat) (sp:Option Nat) (fc a e:Nat) (i:Nat) (dI:Array α) (nx:Nat) (h:Hp) (tm:Tm) (h':Hp) (nx':Nat):Prop :=
 tget tm 0 = .slice (some ⟨b,0,sp⟩) n cap∧tget tm 1 = .int .i64 (a:Int)∧tget tm 2 = .int .i64 (e:Int)∧tget tm 3 = .func (.func fc) #[] #[]∧tget tm 8 = .int .i64 (i:Int)∧hget h' b=some (.cells (arr enc dI) false)∧(∀ c,c<nx→c≠b→hget h' c=hget h c)∧nx≤nx'
def IsJ2 {α:Type} [Inhabited α] (enc:α→List Value) (c:α→α→Int) (b n cap:Nat) (sp:Option Nat) (fc a e:Nat) (i:Nat) (dI:Array α) (nx:Nat) (h:Hp) (m:Nat) (tm:Tm) (h':Hp) (nx':Nat):Prop :=
 ∃ (j:Nat) (d:Array α),m=j∧tget tm 0 = .slice (some ⟨b,0,sp⟩) n cap∧tget tm 1 = .int .i64 (a:Int)∧tget tm 2 = .int .i64 (e:Int)∧tget tm 3 = .func (.func fc) #[] #[]∧tget tm 8 = .int .i64 (i:Int)∧tget tm 9 = .int .i64 (j:Int)∧j≤i ∧
  d.size=n∧Sort.insInner (ltC c) a j d=dI∧hget h' b=some (.cells (arr enc d) false)∧(∀ c,c<nx→c≠b→hget h' c=hget h c)∧nx≤nx'
theorem zEb (lt:α→α→Bool) (a:Nat):∀ (j:Nat) (d:Array α),(Sort.insInner lt a j d).size=d.size
 | 0,d=>rfl
 | j+1,d=>by
  unfold Sort.insInner
  split
  ·rw [zEb lt a j]; simp [Sort.swp]
  ·rfl
theorem insF_cv {f fc:Nat} {c:α→α→Int} (S:SoAt P orc fc k enc c) (hcf:zD P f=some (zNe k)) (ho:orc f=none) {b n cap a e:Nat} {sp:Option Nat} {d:Array α} {h:Hp} {nx:Nat}
  (hb:b<nx) (hd:d.size=n) (hn:n<100000) (ha:a≤n) (hen:e≤n) (hh:hget h b=some (.cells (arr enc d) false)) :
  Cv P orc s f [.slice (some ⟨b,0,sp⟩) n cap,.int .i64 (a:Int),.int .i64 (e:Int),.func (.func fc) #[] #[]] h nx (ArrK enc b (Sort.insertionSort (ltC c) d a e) nx h):=by
 unfold Sort.insertionSort;generalize hdE:Sort.insOuter (ltC c) a e (a+1) d=dE;refine Cv.enter ho hcf ?_;unfold zNe bC bT eN mV pU rU;refine Ev.seq (Ev.regO ?_);have w1:IntKind.wrap .i64 ((a:Int)+1)=((a+1:Nat):Int):=wN1 (by omega);simp only [SB,w1,seval];refine Ev.loopG (IsJ0 enc c b n cap sp fc a e dE nx h) ?_ (e-(a+1)) _ _ _ ⟨a+1,d,rfl,by simp,by simp,by simp,by simp,by simp,by omega,by omega,hd,hdE,hh,fun _ _ _=>rfl,Nat.le_refl _⟩;rintro m tm h' nx' ⟨i,d,rfl,t0,t1,t2,t3,t8,hai,hi2,hd,hE,hh,hfr,hnx⟩;refine Ev.regO ?_;simp only [SB,t2,t8,seval];rw [Sort.insOuter] at hE
 by_cases hie:i<e
 ·rw [if_pos hie] at hE;refine ⟨true,by simp <;> omega,fun e=>Bool.noConfusion e,fun _=>?_⟩;have w2:IntKind.wrap .i64 ((i:Int)+1)=((i+1:Nat):Int):=wN1 (by omega);generalize hdI:Sort.insInner (ltC c) a i d=dI at hE;have hdIs:dI.size=n:=by rw [← hdI,zEb,hd]
  refine Ev.cut (IsQ enc c b n cap sp fc a e i dI nx h) ?_ ?_
  ·refine Ev.block (Ev.seq (Ev.regO ?_));simp only [SB,t8,seval];refine Ev.loopG (IsJ2 enc c b n cap sp fc a e i dI nx h) ?_ i _ _ _ ⟨i,d,rfl,by simp [t0],by simp [t1],by simp [t2],by simp [t3],by simp [t8],by simp,Nat.le_refl _,hd,hdI,hh,hfr,hnx⟩;rintro m tm h' nx' ⟨j,d,hm,t0,t1,t2,t3,t8,t9,hj,hd,hI,hh,hfr,hnx⟩;subst hm;refine Ev.regD ?_
   by_cases haj:a<m
   ·obtain ⟨j,rfl⟩:∃ j,m=j+1:=⟨m-1,by omega⟩
    have d1:decide ((a:Int)<((j+1:Nat):Int))=true:=decide_eq_true (by omega);have w3:IntKind.wrap .i64 (((j+1:Nat):Int)-1)=(j:Int):=by rw [wS1 (by omega) (by omega)]; rfl
    have i1:j+1<n:=by omega
    have i2:j<n:=by omega
    have r1:=zk S.hk (hd.symm ▸ i1);have r2:=zk S.hk (hd.symm ▸ i2)
    repeat (first | simp only [Dv_g,Ov_g,zB,zH,tgs,zV,zW,zU,Bool.not_true,Bool.not_false,Bool.false_eq_true,zL,zN,zK,zM,seval] | simp only [SG,t0,t1,t3,t9,d1,w3,i1,i2,zA hh,r1,r2,seval])
    refine zAf (f:=fc) (a:=[]) (a2:=[]) (by simp [t3]) ?_;simp only [zP,zJ,zO,zn,tgs,List.nil_append,List.append_nil,seval];refine (S.cmp _ _ _ _).mono ?_;rintro r h1 nx1 ⟨rfl,hn1,hf1⟩;refine ⟨hn1,?_⟩;have hh1:=(hf1 b (by omega)).trans hh;rw [Sort.insInner] at hI
    by_cases hl:c d[j+1]! d[j]!<0
    ·have e1:decide (c d[j+1]! d[j]!<0)=true:=decide_eq_true hl
     repeat (first | simp only [Dv_g,Ov_g,zB,zH,tgs,zV,zW,zU,Bool.not_true,Bool.not_false,Bool.false_eq_true,zL,zN,zK,zM,seval] | simp only [SG,e1,seval])
     rw [if_pos (by rw [Bool.and_eq_true]; exact ⟨decide_eq_true haj,e1⟩)] at hI;refine ⟨true,by simp,fun e=>Bool.noConfusion e,fun _=>?_⟩;refine Ev.seq (Ev.block (Ev.regD ?_));simp only [SB,t0,t9,w3,i1,i2,zA hh1,r1,r2,seval];rw [zAP S.hk S.cell hh1 (hd.symm ▸ i1)];rw [zAP (d:=d.setIfInBounds (j+1) d[j]!) S.hk S.cell (by simp) (by simp; omega)]
     (try simp only [SB,seval])
     refine Ev.regO ?_;simp only [SB,t9,w3,seval];refine ⟨j,by omega,j,Sort.swp d (j+1) j,rfl,by simp [t0],by simp [t1],by simp [t2],by simp [t3],by simp [t8],by simp,by omega,by simp [Sort.swp,hd],hI,by simp [Sort.swp],fun c hc hcb=>?_,by omega⟩;rw [hgs,if_neg hcb,hgs,if_neg hcb,hf1 c (by omega)];exact hfr c hc hcb
    ·have e1:decide (c d[j+1]! d[j]!<0)=false:=decide_eq_false hl
     repeat (first | simp only [Dv_g,Ov_g,zB,zH,tgs,zV,zW,zU,Bool.not_true,Bool.not_false,Bool.false_eq_true,zL,zN,zK,zM,seval] | simp only [SG,e1,seval])
     rw [if_neg (by rw [Bool.and_eq_true]; exact fun e=>hl (of_decide_eq_true e.2))] at hI;subst hI;refine ⟨false,by simp,fun _=>?_,fun e=>Bool.noConfusion e⟩
     (try simp only [SB,seval])
     exact ⟨by simp [t0],by simp [t1],by simp [t2],by simp [t3],by simp [t8],hh1,fun c hc hcb=>(hf1 c (by omega)).trans (hfr c hc hcb),by omega⟩
   ·have d1:decide ((a:Int)<(m:Int))=false:=decide_eq_false (by omega)
    repeat (first | simp only [Dv_g,Ov_g,zB,zH,tgs,zV,zW,zU,Bool.not_true,Bool.not_false,Bool.false_eq_true,zL,zN,zK,zM,seval] | simp only [SG,t1,t9,d1,seval])
    have hI:d=dI:=by
     rw [← hI];cases m with
     | zero=>rfl
     | succ j=>rw [Sort.insInner,if_neg (by rw [Bool.and_eq_true]; exact fun e=>haj (of_decide_eq_true e.1))]
    subst hI;refine ⟨false,by simp,fun _=>?_,fun e=>Bool.noConfusion e⟩
    (try simp only [SB,seval])
    exact ⟨by simp [t0],by simp [t1],by simp [t2],by simp [t3],by simp [t8],hh,hfr,hnx⟩
  ·rintro tm h' nx' ⟨t0,t1,t2,t3,t8,hh,hfr,hnx⟩;refine Ev.regO ?_;simp only [SB,t8,w2,seval];exact ⟨e-(i+1),by omega,i+1,dI,rfl,by simp [t0],by simp [t1],by simp [t2],by simp [t3],by simp,by omega,by omega,hdIs,hE,hh,hfr,hnx⟩
 ·rw [if_neg hie] at hE;subst hE;refine ⟨false,by simp <;> omega,fun _=>?_,fun e=>Bool.noConfusion e⟩;exact ⟨hh,hfr,hnx⟩
end
section
variable {P:Program} {orc:Orc} {s:Bool}
variable {α:Type} [Inhabited α] {enc:α→List Value} {k:Nat}
theorem zPo (p:α→Bool) (d:Array α) (j i:Nat) (h:i≤j) (hp:p d[i]! = true):Sort.scanUp p d j i=Sort.scanUp p d j (i+1):=by
 rw [Sort.scanUp,if_pos (by rw [hp,decide_eq_true h]; rfl)]
theorem zEt (p:α→Bool) (d:Array α) (j i:Nat) (h:¬ i≤j∨p d[i]! = false):Sort.scanUp p d j i=i:=by
 rw [Sort.scanUp,if_neg];rcases h with h | h
 ·rw [decide_eq_false h]; simp
 ·rw [h]; simp
theorem zIV (p:α→Bool) (d:Array α) (i j:Nat) (h:i≤j) (h0:0<j) (hp:p d[j]! = true):Sort.scanDown p d i j=Sort.scanDown p d i (j-1):=by
 obtain ⟨q,rfl⟩:∃ q,j=q+1:=⟨j-1,by omega⟩
 rw [Sort.scanDown,if_pos (by rw [hp,decide_eq_true h]; rfl)];rfl
theorem zCa (p:α→Bool) (d:Array α) (i j:Nat) (h:¬ i≤j∨p d[j]! = false):Sort.scanDown p d i j=j:=by
 cases j with
 | zero=>rfl
 | succ q =>
  rw [Sort.scanDown,if_neg];rcases h with h | h
  ·rw [decide_eq_false h]; simp
  ·rw [h]; simp
def PtS {α:Type} [Inhabited α] (enc:α→List Value) (ti tj b n cap:Nat) (sp:Option Nat) (fc a:Nat) (i j:Nat) (d:Array α) (nx:Nat) (h:Hp) (tm:Tm) (h':Hp) (nx':Nat):Prop :=
 tget tm 0 = .slice (some ⟨b,0,sp⟩) n cap∧tget tm 1 = .int .i64 (a:Int)∧tget tm 4 = .func (.func fc) #[] #[]∧tget tm ti = .int .i64 (i:Int)∧tget tm tj = .int .i64 (j:Int)∧hget h' b=some (.cells (arr enc d) false)∧(∀ c,c<nx→c≠b→hget h' c=hget h c)∧nx≤nx'
def PuJ {α:Type} [Inhabited α] (enc:α→List Value) (ti tj b n cap:Nat) (sp:Option Nat) (fc a:Nat) (p:α→Bool) (j i2:Nat) (d:Array α) (nx:Nat) (h:Hp) (m:Nat) (tm:Tm) (h':Hp) (nx':Nat):Prop :=
 ∃ i,m=j+1-i∧a<i∧i≤j+1∧Sort.scanUp p d j i=i2∧PtS enc ti tj b n cap sp fc a i j d nx h tm h' nx'
def PdJ {α:Type} [Inhabited α] (enc:α→List Value) (ti tj b n cap:Nat) (sp:Option Nat) (fc a:Nat) (p:α→Bool) (i j2:Nat) (d:Array α) (nx:Nat) (h:Hp) (m:Nat) (tm:Tm) (h':Hp) (nx':Nat):Prop :=
 ∃ j,m=j∧i≤j+1∧j<n∧Sort.scanDown p d i j=j2∧PtS enc ti tj b n cap sp fc a i j d nx h tm h' nx'
def zNd (k:Nat):CF:={ res:=[.tmp 10,.tmp 11],body:=(.seq (.regO [mC 10 (.int .i64 0),mC 11 (.bool false)]) (.seq (.regD [mV 14 0,mV 15 1,mV 18 0,mV 19 3,pU 20 (.ixA (.slice k) (.t 18) (.t 19)),rU 21 0 (.ld (some k) (.t 20)),mV 22 0,mV 23 1,pU 24 (.ixA (.slice k) (.t 22) (.t 23)),rU 25 0 (.ld (some k) (.t 24)),pU 26 (.ixA (.slice k) (.t 14) (.t 15)),eN (.st k (.t 26) (.t 21)),⟨none,(some 16),1,.pur (.mv (.t 0))⟩,⟨none,(some 17),1,.pur (.mv (.t 3))⟩,pU 27 (.ixA (.slice k) (.t 16) (.t 17)),eN (.st k (.t 27) (.t 25))]) (.seq (.regO [mV 28 1,bC 29 .add 3 28 (.int .i64 1),mV 30 2,bC 31 .sub 3 30 (.int .i64 1),mV 12 29,mV 13 31]) (.seq (.block 0 (.loop (.seq (.seq (.regD [mV 32 12,mV 33 13,bT 34 .leq 3 32 33,mV 35 34,⟨(some (35,true)),(some 36),0,.pur (.mv (.t 4))⟩,⟨(some (35,true)),(some 37),0,.pur (.mv (.t 0))⟩,⟨(some (35,true)),(some 38),0,.pur (.mv (.t 12))⟩,⟨(some (35,true)),(some 39),0,.pur (.ixA (.slice k) (.t 37) (.t 38))⟩,⟨(some (35,true)),(some 40),0,.red (.ld (some k) (.t 39))⟩,⟨(some (35,true)),(some 41),0,.pur (.mv (.t 0))⟩,⟨(some (35,true)),(some 42),0,.pur (.mv (.t 1))⟩,⟨(some (35,true)),(some 43),0,.pur (.ixA (.slice k) (.t 41) (.t 42))⟩,⟨(some (35,true)),(some 44),0,.red (.ld (some k) (.t 43))⟩,⟨(some (35,true)),(some 45),0,.eff (.callv (.t 36) [(.t 40),(.t 44)])⟩,⟨(some (35,true)),(some 46),0,.pur (.bin .lss 3 (.t 45) (.v (.int .i64 0)))⟩,pU 47 (.pick (.t 35) (.t 46) (.v (.bool false)))]) (.cond (.t 47) .skip (.exit 0))) (.block 1 (.regO [mV 48 12,bC 49 .add 3 48 (.int .i64 1),mV 12 49]))))) (.seq (.block 2 (.loop (.seq (.seq (.regD [mV 50 12,mV 51 13,bT 52 .leq 3 50 51,mV 53 52,⟨(some (53,true)),(some 54),0,.pur (.mv (.t 4))⟩,⟨(some (53,true)),(some 55),0,.pur (.mv (.t 0))⟩,⟨(some (53,true)),(some 56),0,.pur (.mv (.t 13))⟩,⟨(some (53,true)),(some 57),0,.pur (.ixA (.slice k) (.t 55) (.t 56))⟩,⟨(some (53,true)),(some 58),0,.red (.ld (some k) (.t 57))⟩,⟨(some (53,true)),(some 59),0,.pur (.mv (.t 0))⟩,⟨(some (53,true)),(some 60),0,.pur (.mv (.t 1))⟩,⟨(some (53,true)),(some 61),0,.pur (.ixA (.slice k) (.t 59) (.t 60))⟩,⟨(some (53,true)),(some 62),0,.red (.ld (some k) (.t 61))⟩,⟨(some (53,true)),(some 63),0,.eff (.callv (.t 54) [(.t 58),(.t 62)])⟩,⟨(some (53,true)),(some 64),0,.pur (.bin .lss 3 (.t 63) (.v (.int .i64 0)))⟩,⟨(some (53,true)),(some 65),0,.pur (.un .not (.t 64))⟩,pU 66 (.pick (.t 53) (.t 65) (.v (.bool false)))]) (.cond (.t 66) .skip (.exit 2))) (.block 3 (.regO [mV 67 13,bC 68 .sub 3 67 (.int .i64 1),mV 13 68]))))) (.seq (.seq (.regO [mV 69 12,mV 70 13,bT 71 .gtr 3 69 70]) (.cond (.t 71) (.seq (.regD [mV 72 0,mV 73 13,mV 76 0,mV 77 1,pU 78 (.ixA (.slice k) (.t 76) (.t 77)),rU 79 0 (.ld (some k) (.t 78)),mV 80 0,mV 81 13,pU 82 (.ixA (.slice k) (.t 80) (.t 81)),rU 83 0 (.ld (some k) (.t 82)),pU 84 (.ixA (.slice k) (.t 72) (.t 73)),eN (.st k (.t 84) (.t 79)),⟨none,(some 74),1,.pur (.mv (.t 0))⟩,⟨none,(some 75),1,.pur (.mv (.t 1))⟩,pU 85 (.ixA (.slice k) (.t 74) (.t 75)),eN (.st k (.t 85) (.t 83))]) (.seq (.regO [mV 86 13,mV 10 86,mC 11 (.bool true)]) .ret)) .skip)) (.seq (.regD [mV 87 0,mV 88 12,mV 91 0,mV 92 13,pU 93 (.ixA (.slice k) (.t 91) (.t 92)),rU 94 0 (.ld (some k) (.t 93)),mV 95 0,mV 96 12,pU 97 (.ixA (.slice k) (.t 95) (.t 96)),rU 98 0 (.ld (some k) (.t 97)),pU 99 (.ixA (.slice k) (.t 87) (.t 88)),eN (.st k (.t 99) (.t 94)),⟨none,(some 89),1,.pur (.mv (.t 0))⟩,⟨none,(some 90),1,.pur (.mv (.t 13))⟩,pU 100 (.ixA (.slice k) (.t 89) (.t 90)),eN (.st k (.t 100) (.t 98))]) (.seq (.regO [mV 101 12,bC 102 .add 3 101 (.int .i64 1),mV 12 102]) (.seq (.regO [mV 103 13,bC 104 .sub 3 103 (.int .i64 1),mV 13 104]) (.seq (.block 4 (.loop (.block 5 (.seq (.block 6 (.loop (.seq (.seq (.regD [mV 105 12,mV 106 13,bT 107 .leq 3 105 106,mV 108 107,⟨(some (108,true)),(some 109),0,.pur (.mv (.t 4))⟩,⟨(some (108,true)),(some 110),0,.pur (.mv (.t 0))⟩,⟨(some (108,true)),(some 111),0,.pur (.mv (.t 12))⟩,⟨(some (108,true)),(some 112),0,.pur (.ixA (.slice k) (.t 110) (.t 111))⟩,⟨(some (108,true)),(some 113),0,.red (.ld (some k) (.t 112))⟩,⟨(some (108,true)),(some 114),0,.pur (.mv (.t 0))⟩,⟨(some (108,true)),(some 115),0,.pur (.mv (.t 1))⟩,⟨(some (108,true)),(some 116),0,.pur (.ixA (.slice k) (.t 114) (.t 115))⟩,⟨(some (108,true)),(some 117),0,.red (.ld (some k) (.t 116))⟩,⟨(some (108,true)),(some 118),0,.eff (.callv (.t 109) [(.t 113),(.t 117)])⟩,⟨(some (108,true)),(some 119),0,.pur (.bin .lss 3 (.t 118) (.v (.int .i64 0)))⟩,pU 120 (.pick (.t 108) (.t 119) (.v (.bool false)))]) (.cond (.t 120) .skip (.exit 6))) (.block 7 (.regO [mV 121 12,bC 122 .add 3 121 (.int .i64 1),mV 12 122]))))) (.seq (.block 8 (.loop (.seq (.seq (.regD [mV 123 12,mV 124 13,bT 125 .leq 3 123 124,mV 126 125,⟨(some (126,true)),(some 127),0,.pur (.mv (.t 4))⟩,⟨(some (126,true)),(some 128),0,.pur (.mv (.t 0))⟩,⟨(some (126,true)),(some 129),0,.pur (.mv (.t 13))⟩,⟨(some (126,true)),(some 130),0,.pur (.ixA (.slice k) (.t 128) (.t 129))⟩,⟨(some (126,true)),(some 131),0,.red (.ld (some k) (.t 130))⟩,⟨(some (126,true)),(some 132),0,.pur (.mv (.t 0))⟩,⟨(some (126,true)),(some 133),0,.pur (.mv (.t 1))⟩,⟨(some (126,true)),(some 134),0,.pur (.ixA (.slice k) (.t 132) (.t 133))⟩,⟨(some (126,true)),(some 135),0,.red (.ld (some k) (.t 134))⟩,⟨(some (126,true)),(some 136),0,.eff (.callv (.t 127) [(.t 131),(.t 135)])⟩,⟨(some (126,true)),(some 137),0,.pur (.bin .lss 3 (.t 136) (.v (.int .i64 0)))⟩,⟨(some (126,true)),(some 138),0,.pur (.un .not (.t 137))⟩,pU 139 (.pick (.t 126) (.t 138) (.v (.bool false)))]) (.cond (.t 139) .skip (.exit 8))) (.block 9 (.regO [mV 140 13,bC 141 .sub 3 140 (.int .i64 1),mV 13 141]))))) (.seq (.seq (.regO [mV 142 12,mV 143 13,bT 144 .gtr 3 142 143]) (.cond (.t 144) (.exit 4) .skip)) (.seq (.regD [mV 145 0,mV 146 12,mV 149 0,mV 150 13,pU 151 (.ixA (.slice k) (.t 149) (.t 150)),rU 152 0 (.ld (some k) (.t 151)),mV 153 0,mV 154 12,pU 155 (.ixA (.slice k) (.t 153) (.t 154)),rU 156 0 (.ld (some k) (.t 155)),pU 157 (.ixA (.slice k) (.t 145) (.t 146)),eN (.st k (.t 157) (.t 152)),⟨none,(some 147),1,.pur (.mv (.t 0))⟩,⟨none,(some 148),1,.pur (.mv (.t 13))⟩,pU 158 (.ixA (.slice k) (.t 147) (.t 148)),eN (.st k (.t 158) (.t 156))]) (.seq (.regO [mV 159 12,bC 160 .add 3 159 (.int .i64 1),mV 12 160]) (.regO [mV 161 13,bC 162 .sub 3 161 (.int .i64 1),mV 13 162]))))))))) (.seq (.regD [mV 163 0,mV 164 13,mV 167 0,mV 168 1,pU 169 (.ixA (.slice k) (.t 167) (.t 168)),rU 170 0 (.ld (some k) (.t 169)),mV 171 0,mV 172 13,pU 173 (.ixA (.slice k) (.t 171) (.t 172)),rU 174 0 (.ld (some k) (.t 173)),pU 175 (.ixA (.slice k) (.t 163) (.t 164)),eN (.st k (.t 175) (.t 170)),⟨none,(some 165),1,.pur (.mv (.t 0))⟩,⟨none,(some 166),1,.pur (.mv (.t 1))⟩,pU 176 (.ixA (.slice k) (.t 165) (.t 166)),eN (.st k (.t 176) (.t 174))]) (.seq (.regO [mV 177 13,mV 10 177,mC 11 (.bool false)]) .ret)))))))))))) }
def PartK (enc:α→List Value) (b:Nat) (res:Nat × Bool × Array α) (nx:Nat) (h:Hp):KC':=fun r h' nx'=>r = .tuple ⟨[.int .i64 (res.1:Int),.bool res.2.1]⟩∧hget h' b=some (.cells (arr enc res.2.2) false)∧(∀ c,c<nx→c≠b→hget h' c=hget h c)∧nx≤nx'
def PlJ {α:Type} [Inhabited α] (enc:α→List Value) (ti tj b n cap:Nat) (sp:Option Nat) (fc a:Nat) (lt:α→α→Bool) (res:Nat × Array α) (nx:Nat) (h:Hp) (m:Nat) (tm:Tm) (h':Hp) (nx':Nat):Prop :=
 ∃ (i j:Nat) (d:Array α),m=j+1-i∧a<i∧i≤j+1∧j<n∧d.size=n∧Sort.partLoop lt a i j d=res∧PtS enc ti tj b n cap sp fc a i j d nx h tm h' nx'
def PlQ {α:Type} [Inhabited α] (enc:α→List Value) (ti tj b n cap:Nat) (sp:Option Nat) (fc a:Nat) (res:Nat × Array α) (nx:Nat) (h:Hp) (tm:Tm) (h':Hp) (nx':Nat):Prop :=
 ∃ i,a≤res.1∧res.1<n∧res.2.size=n∧PtS enc ti tj b n cap sp fc a i res.1 res.2 nx h tm h' nx'
theorem part_cv {f fc:Nat} {c:α→α→Int} (S:SoAt P orc fc k enc c) (hcf:zD P f=some (zNd k)) (ho:orc f=none) {b n cap a e pv:Nat} {sp:Option Nat} {d:Array α} {h:Hp} {nx:Nat}
  (hb:b<nx) (hd:d.size=n) (hn:n<100000) (hap:a≤pv) (hpe:pv<e) (hen:e≤n) (hh:hget h b=some (.cells (arr enc d) false)) :
  Cv P orc s f [.slice (some ⟨b,0,sp⟩) n cap,.int .i64 (a:Int),.int .i64 (e:Int),.int .i64 (pv:Int),.func (.func fc) #[] #[]] h nx (PartK enc b (Sort.partition (ltC c) d a e pv) nx h):=by
 generalize hres:Sort.partition (ltC c) d a e pv=res;unfold Sort.partition at hres;refine Cv.enter ho hcf ?_;unfold zNd bC bT eN mC mV pU rU;refine Ev.seq (Ev.regO ?_);simp only [SB,seval];refine Ev.seq (Ev.regD ?_);have b1:a<n:=by omega
 have b2:pv<n:=by omega
 have r1:=zk S.hk (hd.symm ▸ b1);have r2:=zk S.hk (hd.symm ▸ b2);simp only [SB,b1,b2,zA hh,r1,r2,seval];rw [zAP S.hk S.cell hh (hd.symm ▸ b1)];rw [zAP (d:=d.setIfInBounds (a) d[pv]!) S.hk S.cell (by simp) (by simp; omega)]
 (try simp only [SB,seval])
 have w1:IntKind.wrap .i64 ((a:Int)+1)=((a+1:Nat):Int):=wN1 (by omega);have w2:IntKind.wrap .i64 ((e:Int)-1)=((e-1:Nat):Int):=wS1 (by omega) (by omega);refine Ev.seq (Ev.regO ?_);simp only [SB,w1,w2,seval];refine Ev.genH (fun tm1 h1=>PtS enc 12 13 b n cap sp fc a (a+1) (e-1) (Sort.swp d a pv) nx h tm1 h1 nx) ⟨by simp,by simp,by simp,by simp,by simp,by simp [Sort.swp],fun c hc hcb=>by rw [hgs,if_neg hcb,hgs,if_neg hcb],Nat.le_refl _⟩ ?_;intro tm1 h1 hP;have hd1:(Sort.swp d a pv).size=n:=by simp [Sort.swp,hd]
 generalize Sort.swp d a pv=d1 at hres hP hd1;clear hh hd r1 r2 b1 b2;obtain ⟨d,hdd⟩:∃ x:Array α,x=d1:=⟨d1,rfl⟩
 subst hdd;have hd:=hd1;clear hd1;obtain ⟨p,hp⟩:∃ p:α→Bool,∀ x,p x=ltC c x d[a]!:=⟨fun x=>ltC c x d[a]!,fun _=>rfl⟩
 obtain ⟨p',hp'⟩:∃ p:α→Bool,∀ x,p x=!ltC c x d[a]!:=⟨fun x=>!ltC c x d[a]!,fun _=>rfl⟩
 have ep:(fun x=>ltC c x d[a]!)=p:=funext fun x=>(hp x).symm;have ep':(fun x=>!ltC c x d[a]!)=p':=funext fun x=>(hp' x).symm;obtain ⟨i,hi⟩:∃ x,x=a+1:=⟨_,rfl⟩
 obtain ⟨j,hj⟩:∃ x,x=e-1:=⟨_,rfl⟩
 rw [← hi,← hj] at hP;have hai:a<i:=by omega
 have hij:i≤j+1:=by omega
 have hjn:j<n:=by omega
 obtain ⟨i2,hi2⟩:∃ x,x=Sort.scanUp p d j i:=⟨_,rfl⟩
 have hi3:i≤i2∧i2≤j+1:=hi2 ▸ ⟨(Sort.scanUp_spec p d j _ i rfl).1,(Sort.scanUp_spec p d j _ i rfl).2.1 hij⟩
 refine Ev.cut (PtS enc 12 13 b n cap sp fc a i2 j d nx h) ?_ ?_
 ·skip
  refine Ev.loopG (PuJ enc 12 13 b n cap sp fc a p j i2 d nx h) ?_ (j+1-i) _ _ _ ⟨i,rfl,hai,hij,hi2.symm,hP⟩;rintro m tm h' nx' ⟨w,rfl,hai,hij,hI,t0,t1,t4,ti,tj,hh,hfr,hnx⟩;refine Ev.regD ?_
  by_cases hle:w≤j
  ·have d1:decide ((j:Int)<(w:Int))=false:=decide_eq_false (by omega);have b1:w<n:=by omega
   have b2:a<n:=by omega
   have r1:=zk S.hk (hd.symm ▸ b1);have r2:=zk S.hk (hd.symm ▸ b2)
   repeat (first | simp only [Dv_g,Ov_g,zB,zH,tgs,zV,zW,zU,Bool.not_true,Bool.not_false,Bool.false_eq_true,zL,zN,zK,zM,seval] | simp only [SG,t0,t1,t4,ti,tj,d1,b1,b2,zA hh,r1,r2,seval])
   refine zAf (f:=fc) (a:=[]) (a2:=[]) (by simp [t4]) ?_;simp only [zP,zJ,zO,zn,tgs,List.nil_append,List.append_nil,seval];refine (S.cmp _ _ _ _).mono ?_;rintro r h1 nx1 ⟨rfl,hn1,hf1⟩;refine ⟨hn1,?_⟩;have hh1:=(hf1 b (by omega)).trans hh
   by_cases hl:c d[w]! d[a]!<0
   ·have e1:decide (c d[w]! d[a]!<0)=true:=decide_eq_true hl
    repeat (first | simp only [Dv_g,Ov_g,zB,zH,tgs,zV,zW,zU,Bool.not_true,Bool.not_false,Bool.false_eq_true,zL,zN,zK,zM,seval] | simp only [SG,e1,seval])
    rw [zPo p d j w hle (by simp [hp,ltC,hl])] at hI;refine ⟨true,by simp,fun e=>Bool.noConfusion e,fun _=>?_⟩;have w2:IntKind.wrap .i64 ((w:Int)+1)=((w+1:Nat):Int):=wN1 (by omega);refine Ev.block (Ev.regO ?_);simp only [SB,ti,w2,seval];exact ⟨j+1-(w+1),by omega,w+1,rfl,by omega,by omega,hI,by simp [t0],by simp [t1],by simp [t4],by simp,by simp [tj],hh1,fun c hc hcb=>(hf1 c (by omega)).trans (hfr c hc hcb),by omega⟩
   ·have e1:decide (c d[w]! d[a]!<0)=false:=decide_eq_false hl
    repeat (first | simp only [Dv_g,Ov_g,zB,zH,tgs,zV,zW,zU,Bool.not_true,Bool.not_false,Bool.false_eq_true,zL,zN,zK,zM,seval] | simp only [SG,e1,seval])
    rw [zEt p d j w (.inr (by simp [hp,ltC,hl]))] at hI;subst hI;refine ⟨false,by simp,fun _=>?_,fun e=>Bool.noConfusion e⟩
    (try simp only [SB,seval])
    exact ⟨by simp [t0],by simp [t1],by simp [t4],by simp [ti],by simp [tj],hh1,fun c hc hcb=>(hf1 c (by omega)).trans (hfr c hc hcb),by omega⟩
  ·have d1:decide ((j:Int)<(w:Int))=true:=decide_eq_true (by omega)
   repeat (first | simp only [Dv_g,Ov_g,zB,zH,tgs,zV,zW,zU,Bool.not_true,Bool.not_false,Bool.false_eq_true,zL,zN,zK,zM,seval] | simp only [SG,ti,tj,d1,seval])
   rw [zEt p d j w (.inl hle)] at hI;subst hI;refine ⟨false,by simp,fun _=>?_,fun e=>Bool.noConfusion e⟩
   (try simp only [SB,seval])
   exact ⟨by simp [t0],by simp [t1],by simp [t4],by simp [ti],by simp [tj],hh,hfr,hnx⟩
 clear hP;intro tm0 h0 nx0 hP;obtain ⟨j2,hj2⟩:∃ x,x=Sort.scanDown p' d i2 j:=⟨_,rfl⟩
 have hj3:j2≤j∧i2≤j2+1:=hj2 ▸ ⟨(Sort.scanDown_spec p' d i2 j).1,(Sort.scanDown_spec p' d i2 j).2.1 hi3.2⟩
 have hne:i2≤j2→i2<j2:=fun hle=>by
  rcases Nat.lt_or_eq_of_le hle with h | h
  ·exact h
  ·have s1:=(Sort.scanUp_spec p d j _ i rfl).2.2.2;have s2:=(Sort.scanDown_spec p' d i2 j).2.2.2;rw [← hi2] at s1;rw [← hj2] at s2;have s1:=s1 (by omega);have s2:=s2 hle (by omega);rw [hp] at s1;rw [← h,hp'] at s2;cases hq:ltC c d[i2]! d[a]! <;> rw [hq] at s1 s2 <;> first | (cases s1; done) | (cases s2; done)
 refine Ev.cut (PtS enc 12 13 b n cap sp fc a i2 j2 d nx h) ?_ ?_
 ·have hij:=hi3.2;refine Ev.loopG (PdJ enc 12 13 b n cap sp fc a p' i2 j2 d nx h) ?_ j _ _ _ ⟨j,rfl,hij,hjn,hj2.symm,hP⟩;rintro m tm h' nx' ⟨w,hm,hij,hjn,hI,t0,t1,t4,ti,tj,hh,hfr,hnx⟩;subst hm;refine Ev.regD ?_
  by_cases hle:i2≤m
  ·have d1:decide ((m:Int)<(i2:Int))=false:=decide_eq_false (by omega);have b1:m<n:=by omega
   have b2:a<n:=by omega
   have r1:=zk S.hk (hd.symm ▸ b1);have r2:=zk S.hk (hd.symm ▸ b2)
   repeat (first | simp only [Dv_g,Ov_g,zB,zH,tgs,zV,zW,zU,Bool.not_true,Bool.not_false,Bool.false_eq_true,zL,zN,zK,zM,seval] | simp only [SG,t0,t1,t4,ti,tj,d1,b1,b2,zA hh,r1,r2,seval])
   refine zAf (f:=fc) (a:=[]) (a2:=[]) (by simp [t4]) ?_;simp only [zP,zJ,zO,zn,tgs,List.nil_append,List.append_nil,seval];refine (S.cmp _ _ _ _).mono ?_;rintro r h1 nx1 ⟨rfl,hn1,hf1⟩;refine ⟨hn1,?_⟩;have hh1:=(hf1 b (by omega)).trans hh
   by_cases hl:c d[m]! d[a]!<0
   ·have e1:decide (c d[m]! d[a]!<0)=true:=decide_eq_true hl
    repeat (first | simp only [Dv_g,Ov_g,zB,zH,tgs,zV,zW,zU,Bool.not_true,Bool.not_false,Bool.false_eq_true,zL,zN,zK,zM,seval] | simp only [SG,e1,seval])
    rw [zCa p' d i2 m (.inr (by simp [hp',ltC,hl]))] at hI;subst hI;refine ⟨false,by simp,fun _=>?_,fun e=>Bool.noConfusion e⟩
    (try simp only [SB,seval])
    exact ⟨by simp [t0],by simp [t1],by simp [t4],by simp [ti],by simp [tj],hh1,fun c hc hcb=>(hf1 c (by omega)).trans (hfr c hc hcb),by omega⟩
   ·have e1:decide (c d[m]! d[a]!<0)=false:=decide_eq_false hl
    repeat (first | simp only [Dv_g,Ov_g,zB,zH,tgs,zV,zW,zU,Bool.not_true,Bool.not_false,Bool.false_eq_true,zL,zN,zK,zM,seval] | simp only [SG,e1,seval])
    rw [zIV p' d i2 m hle (by omega) (by simp [hp',ltC,hl])] at hI;refine ⟨true,by simp,fun e=>Bool.noConfusion e,fun _=>?_⟩;have w2:IntKind.wrap .i64 ((m:Int)-1)=((m-1:Nat):Int):=wS1 (by omega) (by omega);refine Ev.block (Ev.regO ?_);simp only [SB,tj,w2,seval];exact ⟨m-1,by omega,m-1,rfl,by omega,by omega,hI,by simp [t0],by simp [t1],by simp [t4],by simp [ti],by simp,hh1,fun c hc hcb=>(hf1 c (by omega)).trans (hfr c hc hcb),by omega⟩
  ·have d1:decide ((m:Int)<(i2:Int))=true:=decide_eq_true (by omega)
   repeat (first | simp only [Dv_g,Ov_g,zB,zH,tgs,zV,zW,zU,Bool.not_true,Bool.not_false,Bool.false_eq_true,zL,zN,zK,zM,seval] | simp only [SG,ti,tj,d1,seval])
   rw [zCa p' d i2 m (.inl hle)] at hI;subst hI;refine ⟨false,by simp,fun _=>?_,fun e=>Bool.noConfusion e⟩
   (try simp only [SB,seval])
   exact ⟨by simp [t0],by simp [t1],by simp [t4],by simp [ti],by simp [tj],hh,hfr,hnx⟩
 rintro tm0 h0 nx0 ⟨t0,t1,t4,ti,tj,hh,hfr,hnx⟩;have hres:(if i2>j2 then (j2,true,Sort.swp d j2 a) else ((Sort.partLoop (ltC c) a (i2+1) (j2-1) (Sort.swp d i2 j2)).1,false,Sort.swp (Sort.partLoop (ltC c) a (i2+1) (j2-1) (Sort.swp d i2 j2)).2 (Sort.partLoop (ltC c) a (i2+1) (j2-1) (Sort.swp d i2 j2)).1 a))=res:=by
  rw [← hres];simp only [ep,ep',← hi,← hj,← hi2,← hj2]
 refine Ev.seq (Ev.seq (Ev.regO ?_));simp only [SB,ti,tj,seval]
 by_cases hgt:i2>j2
 ·rw [if_pos hgt] at hres;subst hres;refine Ev.cond true (by simp <;> omega) (fun _=>?_) (by simp <;> omega);refine Ev.seq (Ev.regD ?_);have b1:j2<n:=by omega
  have b2:a<n:=by omega
  have r1:=zk S.hk (hd.symm ▸ b1);have r2:=zk S.hk (hd.symm ▸ b2);simp only [SB,t0,t1,tj,b1,b2,zA hh,r1,r2,seval];rw [zAP S.hk S.cell hh (hd.symm ▸ b1)];rw [zAP (d:=d.setIfInBounds (j2) d[a]!) S.hk S.cell (by simp) (by simp; omega)]
  (try simp only [SB,seval])
  refine Ev.seq (Ev.regO ?_);simp only [SB,tj,seval];refine Ev.ret ?_;simp only [SB,seval];refine ⟨rfl,by simp [Sort.swp],fun c hc hcb=>?_,hnx⟩;rw [hgs,if_neg hcb,hgs,if_neg hcb];exact hfr c hc hcb
 ·rw [if_neg hgt] at hres;refine Ev.cond false (by simp <;> omega) (by simp <;> omega) (fun _=>Ev.skip ?_)
  (try simp only [SB,seval])
  refine Ev.seq (Ev.regD ?_);have b1:i2<n:=by omega
  have b2:j2<n:=by omega
  have r1:=zk S.hk (hd.symm ▸ b1);have r2:=zk S.hk (hd.symm ▸ b2);simp only [SB,t0,ti,tj,b1,b2,zA hh,r1,r2,seval];rw [zAP S.hk S.cell hh (hd.symm ▸ b1)];rw [zAP (d:=d.setIfInBounds (i2) d[j2]!) S.hk S.cell (by simp) (by simp; omega)]
  (try simp only [SB,seval])
  have w3:IntKind.wrap .i64 ((i2:Int)+1)=((i2+1:Nat):Int):=wN1 (by omega);have w4:IntKind.wrap .i64 ((j2:Int)-1)=((j2-1:Nat):Int):=wS1 (by omega) (by omega);refine Ev.seq (Ev.regO ?_);simp only [SB,ti,w3,seval];refine Ev.seq (Ev.regO ?_);simp only [SB,tj,w4,seval];obtain ⟨res2,hres2⟩:∃ x,x=Sort.partLoop (ltC c) a (i2+1) (j2-1) (Sort.swp d i2 j2):=⟨_,rfl⟩
  rw [← hres2] at hres;refine Ev.cut (PlQ enc 12 13 b n cap sp fc a res2 nx h) ?_ ?_
  ·refine Ev.block (Ev.loop (PlJ enc 12 13 b n cap sp fc a (ltC c) res2 nx h) ?_ (j2-1+1-(i2+1)) _ _ _ ⟨i2+1,j2-1,Sort.swp d i2 j2,rfl,by omega,by omega,by omega,by simp [Sort.swp,hd],hres2.symm,by simp [t0],by simp [t1],by simp [t4],by simp,by simp,by simp [Sort.swp],fun c hc hcb=>?_,hnx⟩)
   ·clear hres hres2 hp hp' ep ep' p p' hi2 hj2 hi3 hj3 hne hP hh hfr hnx t0 t1 t4 ti tj hd hai hij hjn w3 w4 r1 r2 b1 b2;rintro m tm h' nx' ⟨i,j,d,rfl,hai,hij,hjn,hd,hE,hP⟩;rw [Sort.partLoop_eq] at hE;refine Ev.block ?_;obtain ⟨p,hp⟩:∃ p:α→Bool,∀ x,p x=ltC c x d[a]!:=⟨fun x=>ltC c x d[a]!,fun _=>rfl⟩
    obtain ⟨p',hp'⟩:∃ p:α→Bool,∀ x,p x=!ltC c x d[a]!:=⟨fun x=>!ltC c x d[a]!,fun _=>rfl⟩
    have ep:(fun x=>ltC c x d[a]!)=p:=funext fun x=>(hp x).symm;have ep':(fun x=>!ltC c x d[a]!)=p':=funext fun x=>(hp' x).symm;obtain ⟨i2,hi2⟩:∃ x,x=Sort.scanUp p d j i:=⟨_,rfl⟩
    have hi3:i≤i2∧i2≤j+1:=hi2 ▸ ⟨(Sort.scanUp_spec p d j _ i rfl).1,(Sort.scanUp_spec p d j _ i rfl).2.1 hij⟩
    refine Ev.cut (PtS enc 12 13 b n cap sp fc a i2 j d nx h) ?_ ?_
    ·skip
     refine Ev.loopG (PuJ enc 12 13 b n cap sp fc a p j i2 d nx h) ?_ (j+1-i) _ _ _ ⟨i,rfl,hai,hij,hi2.symm,hP⟩;rintro m tm h' nx' ⟨w,rfl,hai,hij,hI,t0,t1,t4,ti,tj,hh,hfr,hnx⟩;refine Ev.regD ?_
     by_cases hle:w≤j
     ·have d1:decide ((j:Int)<(w:Int))=false:=decide_eq_false (by omega);have b1:w<n:=by omega
      have b2:a<n:=by omega
      have r1:=zk S.hk (hd.symm ▸ b1);have r2:=zk S.hk (hd.symm ▸ b2)
      repeat (first | simp only [Dv_g,Ov_g,zB,zH,tgs,zV,zW,zU,Bool.not_true,Bool.not_false,Bool.false_eq_true,zL,zN,zK,zM,seval] | simp only [SG,t0,t1,t4,ti,tj,d1,b1,b2,zA hh,r1,r2,seval])
      refine zAf (f:=fc) (a:=[]) (a2:=[]) (by simp [t4]) ?_;simp only [zP,zJ,zO,zn,tgs,List.nil_append,List.append_nil,seval];refine (S.cmp _ _ _ _).mono ?_;rintro r h1 nx1 ⟨rfl,hn1,hf1⟩;refine ⟨hn1,?_⟩;have hh1:=(hf1 b (by omega)).trans hh
      by_cases hl:c d[w]! d[a]!<0
      ·have e1:decide (c d[w]! d[a]!<0)=true:=decide_eq_true hl
       repeat (first | simp only [Dv_g,Ov_g,zB,zH,tgs,zV,zW,zU,Bool.not_true,Bool.not_false,Bool.false_eq_true,zL,zN,zK,zM,seval] | simp only [SG,e1,seval])
       rw [zPo p d j w hle (by simp [hp,ltC,hl])] at hI;refine ⟨true,by simp,fun e=>Bool.noConfusion e,fun _=>?_⟩;have w2:IntKind.wrap .i64 ((w:Int)+1)=((w+1:Nat):Int):=wN1 (by omega);refine Ev.block (Ev.regO ?_);simp only [SB,ti,w2,seval];exact ⟨j+1-(w+1),by omega,w+1,rfl,by omega,by omega,hI,by simp [t0],by simp [t1],by simp [t4],by simp,by simp [tj],hh1,fun c hc hcb=>(hf1 c (by omega)).trans (hfr c hc hcb),by omega⟩
      ·have e1:decide (c d[w]! d[a]!<0)=false:=decide_eq_false hl
       repeat (first | simp only [Dv_g,Ov_g,zB,zH,tgs,zV,zW,zU,Bool.not_true,Bool.not_false,Bool.false_eq_true,zL,zN,zK,zM,seval] | simp only [SG,e1,seval])
       rw [zEt p d j w (.inr (by simp [hp,ltC,hl]))] at hI;subst hI;refine ⟨false,by simp,fun _=>?_,fun e=>Bool.noConfusion e⟩
       (try simp only [SB,seval])
       exact ⟨by simp [t0],by simp [t1],by simp [t4],by simp [ti],by simp [tj],hh1,fun c hc hcb=>(hf1 c (by omega)).trans (hfr c hc hcb),by omega⟩
     ·have d1:decide ((j:Int)<(w:Int))=true:=decide_eq_true (by omega)
      repeat (first | simp only [Dv_g,Ov_g,zB,zH,tgs,zV,zW,zU,Bool.not_true,Bool.not_false,Bool.false_eq_true,zL,zN,zK,zM,seval] | simp only [SG,ti,tj,d1,seval])
      rw [zEt p d j w (.inl hle)] at hI;subst hI;refine ⟨false,by simp,fun _=>?_,fun e=>Bool.noConfusion e⟩
      (try simp only [SB,seval])
      exact ⟨by simp [t0],by simp [t1],by simp [t4],by simp [ti],by simp [tj],hh,hfr,hnx⟩
    clear hP;intro tm0 h0 nx0 hP;obtain ⟨j2,hj2⟩:∃ x,x=Sort.scanDown p' d i2 j:=⟨_,rfl⟩
    have hj3:j2≤j∧i2≤j2+1:=hj2 ▸ ⟨(Sort.scanDown_spec p' d i2 j).1,(Sort.scanDown_spec p' d i2 j).2.1 hi3.2⟩
    have hne:i2≤j2→i2<j2:=fun hle=>by
     rcases Nat.lt_or_eq_of_le hle with h | h
     ·exact h
     ·have s1:=(Sort.scanUp_spec p d j _ i rfl).2.2.2;have s2:=(Sort.scanDown_spec p' d i2 j).2.2.2;rw [← hi2] at s1;rw [← hj2] at s2;have s1:=s1 (by omega);have s2:=s2 hle (by omega);rw [hp] at s1;rw [← h,hp'] at s2;cases hq:ltC c d[i2]! d[a]! <;> rw [hq] at s1 s2 <;> first | (cases s1; done) | (cases s2; done)
    refine Ev.cut (PtS enc 12 13 b n cap sp fc a i2 j2 d nx h) ?_ ?_
    ·have hij:=hi3.2;refine Ev.loopG (PdJ enc 12 13 b n cap sp fc a p' i2 j2 d nx h) ?_ j _ _ _ ⟨j,rfl,hij,hjn,hj2.symm,hP⟩;rintro m tm h' nx' ⟨w,hm,hij,hjn,hI,t0,t1,t4,ti,tj,hh,hfr,hnx⟩;subst hm;refine Ev.regD ?_
     by_cases hle:i2≤m
     ·have d1:decide ((m:Int)<(i2:Int))=false:=decide_eq_false (by omega);have b1:m<n:=by omega
      have b2:a<n:=by omega
      have r1:=zk S.hk (hd.symm ▸ b1);have r2:=zk S.hk (hd.symm ▸ b2)
      repeat (first | simp only [Dv_g,Ov_g,zB,zH,tgs,zV,zW,zU,Bool.not_true,Bool.not_false,Bool.false_eq_true,zL,zN,zK,zM,seval] | simp only [SG,t0,t1,t4,ti,tj,d1,b1,b2,zA hh,r1,r2,seval])
      refine zAf (f:=fc) (a:=[]) (a2:=[]) (by simp [t4]) ?_;simp only [zP,zJ,zO,zn,tgs,List.nil_append,List.append_nil,seval];refine (S.cmp _ _ _ _).mono ?_;rintro r h1 nx1 ⟨rfl,hn1,hf1⟩;refine ⟨hn1,?_⟩;have hh1:=(hf1 b (by omega)).trans hh
      by_cases hl:c d[m]! d[a]!<0
      ·have e1:decide (c d[m]! d[a]!<0)=true:=decide_eq_true hl
       repeat (first | simp only [Dv_g,Ov_g,zB,zH,tgs,zV,zW,zU,Bool.not_true,Bool.not_false,Bool.false_eq_true,zL,zN,zK,zM,seval] | simp only [SG,e1,seval])
       rw [zCa p' d i2 m (.inr (by simp [hp',ltC,hl]))] at hI;subst hI;refine ⟨false,by simp,fun _=>?_,fun e=>Bool.noConfusion e⟩
       (try simp only [SB,seval])
       exact ⟨by simp [t0],by simp [t1],by simp [t4],by simp [ti],by simp [tj],hh1,fun c hc hcb=>(hf1 c (by omega)).trans (hfr c hc hcb),by omega⟩
      ·have e1:decide (c d[m]! d[a]!<0)=false:=decide_eq_false hl
       repeat (first | simp only [Dv_g,Ov_g,zB,zH,tgs,zV,zW,zU,Bool.not_true,Bool.not_false,Bool.false_eq_true,zL,zN,zK,zM,seval] | simp only [SG,e1,seval])
       rw [zIV p' d i2 m hle (by omega) (by simp [hp',ltC,hl])] at hI;refine ⟨true,by simp,fun e=>Bool.noConfusion e,fun _=>?_⟩;have w2:IntKind.wrap .i64 ((m:Int)-1)=((m-1:Nat):Int):=wS1 (by omega) (by omega);refine Ev.block (Ev.regO ?_);simp only [SB,tj,w2,seval];exact ⟨m-1,by omega,m-1,rfl,by omega,by omega,hI,by simp [t0],by simp [t1],by simp [t4],by simp [ti],by simp,hh1,fun c hc hcb=>(hf1 c (by omega)).trans (hfr c hc hcb),by omega⟩
     ·have d1:decide ((m:Int)<(i2:Int))=true:=decide_eq_true (by omega)
      repeat (first | simp only [Dv_g,Ov_g,zB,zH,tgs,zV,zW,zU,Bool.not_true,Bool.not_false,Bool.false_eq_true,zL,zN,zK,zM,seval] | simp only [SG,ti,tj,d1,seval])
      rw [zCa p' d i2 m (.inl hle)] at hI;subst hI;refine ⟨false,by simp,fun _=>?_,fun e=>Bool.noConfusion e⟩
      (try simp only [SB,seval])
      exact ⟨by simp [t0],by simp [t1],by simp [t4],by simp [ti],by simp [tj],hh,hfr,hnx⟩
    rintro tm0 h0 nx0 ⟨t0,t1,t4,ti,tj,hh,hfr,hnx⟩;rw [ep,ep',← hi2,← hj2] at hE;refine Ev.seq (Ev.seq (Ev.regO ?_));simp only [SB,ti,tj,seval]
    by_cases hgt:i2>j2
    ·rw [if_pos hgt] at hE;subst hE;refine Ev.cond true (by simp <;> omega) (fun _=>Ev.exit ?_) (by simp <;> omega);simp only [SB,seval];exact ⟨i2,by show a≤j2; omega,by show j2<n; omega,hd,by simp [t0],by simp [t1],by simp [t4],by simp [ti],by simp [tj],hh,hfr,hnx⟩
    ·rw [if_neg hgt] at hE;refine Ev.cond false (by simp <;> omega) (by simp <;> omega) (fun _=>Ev.skip ?_)
     (try simp only [SB,seval])
     refine Ev.seq (Ev.regD ?_);have b1:i2<n:=by omega
     have b2:j2<n:=by omega
     have r1:=zk S.hk (hd.symm ▸ b1);have r2:=zk S.hk (hd.symm ▸ b2);simp only [SB,t0,ti,tj,b1,b2,zA hh,r1,r2,seval];rw [zAP S.hk S.cell hh (hd.symm ▸ b1)];rw [zAP (d:=d.setIfInBounds (i2) d[j2]!) S.hk S.cell (by simp) (by simp; omega)]
     (try simp only [SB,seval])
     have w3:IntKind.wrap .i64 ((i2:Int)+1)=((i2+1:Nat):Int):=wN1 (by omega);have w4:IntKind.wrap .i64 ((j2:Int)-1)=((j2-1:Nat):Int):=wS1 (by omega) (by omega);refine Ev.seq (Ev.regO ?_);simp only [SB,ti,w3,seval];refine Ev.regO ?_;simp only [SB,tj,w4,seval];refine ⟨j2-1+1-(i2+1),by omega,i2+1,j2-1,Sort.swp d i2 j2,rfl,by omega,by omega,by omega,by simp [Sort.swp,hd],hE,by simp [t0],by simp [t1],by simp [t4],by simp,by simp,by simp [Sort.swp],fun c hc hcb=>?_,hnx⟩;rw [hgs,if_neg hcb,hgs,if_neg hcb];exact hfr c hc hcb
   ·rw [hgs,if_neg hcb,hgs,if_neg hcb];exact hfr c hc hcb
  ·rintro tm h' nx' ⟨w,hq1,hq2,hq3,t0,t1,t4,ti,tj,hh,hfr,hnx⟩;subst hres;refine Ev.seq (Ev.regD ?_);have b1:res2.1<n:=by omega
   have b2:a<n:=by omega
   have r1:=zk S.hk (hq3.symm ▸ b1);have r2:=zk S.hk (hq3.symm ▸ b2);simp only [SB,t0,t1,tj,b1,b2,zA hh,r1,r2,seval];rw [zAP S.hk S.cell hh (hq3.symm ▸ b1)];rw [zAP (d:=res2.2.setIfInBounds (res2.1) res2.2[a]!) S.hk S.cell (by simp) (by simp; omega)]
   (try simp only [SB,seval])
   refine Ev.seq (Ev.regO ?_);simp only [SB,tj,seval];refine Ev.ret ?_;simp only [SB,seval];refine ⟨rfl,by simp [Sort.swp],fun c hc hcb=>?_,hnx⟩;rw [hgs,if_neg hcb,hgs,if_neg hcb];exact hfr c hc hcb
end
section
variable {P:Program} {orc:Orc} {s:Bool}
variable {α:Type} [Inhabited α] {enc:α→List Value} {k:Nat}
def zIx (k:Nat):CF:={ res:=[.tmp 10],body:=(.seq (.regO [mC 10 (.int .i64 0)]) (.seq (.regD [mV 13 0,mV 14 1,mV 17 0,mV 18 3,pU 19 (.ixA (.slice k) (.t 17) (.t 18)),rU 20 0 (.ld (some k) (.t 19)),mV 21 0,mV 22 1,pU 23 (.ixA (.slice k) (.t 21) (.t 22)),rU 24 0 (.ld (some k) (.t 23)),pU 25 (.ixA (.slice k) (.t 13) (.t 14)),eN (.st k (.t 25) (.t 20)),⟨none,(some 15),1,.pur (.mv (.t 0))⟩,⟨none,(some 16),1,.pur (.mv (.t 3))⟩,pU 26 (.ixA (.slice k) (.t 15) (.t 16)),eN (.st k (.t 26) (.t 24))]) (.seq (.regO [mV 27 1,bC 28 .add 3 27 (.int .i64 1),mV 29 2,bC 30 .sub 3 29 (.int .i64 1),mV 11 28,mV 12 30]) (.seq (.block 0 (.loop (.block 1 (.seq (.block 2 (.loop (.seq (.seq (.regD [mV 31 11,mV 32 12,bT 33 .leq 3 31 32,mV 34 33,⟨(some (34,true)),(some 35),0,.pur (.mv (.t 4))⟩,⟨(some (34,true)),(some 36),0,.pur (.mv (.t 0))⟩,⟨(some (34,true)),(some 37),0,.pur (.mv (.t 1))⟩,⟨(some (34,true)),(some 38),0,.pur (.ixA (.slice k) (.t 36) (.t 37))⟩,⟨(some (34,true)),(some 39),0,.red (.ld (some k) (.t 38))⟩,⟨(some (34,true)),(some 40),0,.pur (.mv (.t 0))⟩,⟨(some (34,true)),(some 41),0,.pur (.mv (.t 11))⟩,⟨(some (34,true)),(some 42),0,.pur (.ixA (.slice k) (.t 40) (.t 41))⟩,⟨(some (34,true)),(some 43),0,.red (.ld (some k) (.t 42))⟩,⟨(some (34,true)),(some 44),0,.eff (.callv (.t 35) [(.t 39),(.t 43)])⟩,⟨(some (34,true)),(some 45),0,.pur (.bin .lss 3 (.t 44) (.v (.int .i64 0)))⟩,⟨(some (34,true)),(some 46),0,.pur (.un .not (.t 45))⟩,pU 47 (.pick (.t 34) (.t 46) (.v (.bool false)))]) (.cond (.t 47) .skip (.exit 2))) (.block 3 (.regO [mV 48 11,bC 49 .add 3 48 (.int .i64 1),mV 11 49]))))) (.seq (.block 4 (.loop (.seq (.seq (.regD [mV 50 11,mV 51 12,bT 52 .leq 3 50 51,mV 53 52,⟨(some (53,true)),(some 54),0,.pur (.mv (.t 4))⟩,⟨(some (53,true)),(some 55),0,.pur (.mv (.t 0))⟩,⟨(some (53,true)),(some 56),0,.pur (.mv (.t 1))⟩,⟨(some (53,true)),(some 57),0,.pur (.ixA (.slice k) (.t 55) (.t 56))⟩,⟨(some (53,true)),(some 58),0,.red (.ld (some k) (.t 57))⟩,⟨(some (53,true)),(some 59),0,.pur (.mv (.t 0))⟩,⟨(some (53,true)),(some 60),0,.pur (.mv (.t 12))⟩,⟨(some (53,true)),(some 61),0,.pur (.ixA (.slice k) (.t 59) (.t 60))⟩,⟨(some (53,true)),(some 62),0,.red (.ld (some k) (.t 61))⟩,⟨(some (53,true)),(some 63),0,.eff (.callv (.t 54) [(.t 58),(.t 62)])⟩,⟨(some (53,true)),(some 64),0,.pur (.bin .lss 3 (.t 63) (.v (.int .i64 0)))⟩,pU 65 (.pick (.t 53) (.t 64) (.v (.bool false)))]) (.cond (.t 65) .skip (.exit 4))) (.block 5 (.regO [mV 66 12,bC 67 .sub 3 66 (.int .i64 1),mV 12 67]))))) (.seq (.seq (.regO [mV 68 11,mV 69 12,bT 70 .gtr 3 68 69]) (.cond (.t 70) (.exit 0) .skip)) (.seq (.regD [mV 71 0,mV 72 11,mV 75 0,mV 76 12,pU 77 (.ixA (.slice k) (.t 75) (.t 76)),rU 78 0 (.ld (some k) (.t 77)),mV 79 0,mV 80 11,pU 81 (.ixA (.slice k) (.t 79) (.t 80)),rU 82 0 (.ld (some k) (.t 81)),pU 83 (.ixA (.slice k) (.t 71) (.t 72)),eN (.st k (.t 83) (.t 78)),⟨none,(some 73),1,.pur (.mv (.t 0))⟩,⟨none,(some 74),1,.pur (.mv (.t 12))⟩,pU 84 (.ixA (.slice k) (.t 73) (.t 74)),eN (.st k (.t 84) (.t 82))]) (.seq (.regO [mV 85 11,bC 86 .add 3 85 (.int .i64 1),mV 11 86]) (.regO [mV 87 12,bC 88 .sub 3 87 (.int .i64 1),mV 12 88]))))))))) (.seq (.regO [mV 89 11,mV 10 89]) .ret))))) }
def PartEK (enc:α→List Value) (b:Nat) (res:Nat × Array α) (nx:Nat) (h:Hp):KC':=fun r h' nx'=>r = .int .i64 (res.1:Int)∧hget h' b=some (.cells (arr enc res.2) false)∧(∀ c,c<nx→c≠b→hget h' c=hget h c)∧nx≤nx'
def PeJ {α:Type} [Inhabited α] (enc:α→List Value) (ti tj b n cap:Nat) (sp:Option Nat) (fc a:Nat) (lt:α→α→Bool) (res:Nat × Array α) (nx:Nat) (h:Hp) (m:Nat) (tm:Tm) (h':Hp) (nx':Nat):Prop :=
 ∃ (i j:Nat) (d:Array α),m=j+1-i∧a<i∧i≤j+1∧j<n∧d.size=n∧Sort.partEqLoop lt a i j d=res∧PtS enc ti tj b n cap sp fc a i j d nx h tm h' nx'
def PeQ {α:Type} [Inhabited α] (enc:α→List Value) (ti tj b n cap:Nat) (sp:Option Nat) (fc a:Nat) (res:Nat × Array α) (nx:Nat) (h:Hp) (tm:Tm) (h':Hp) (nx':Nat):Prop :=
 ∃ j,PtS enc ti tj b n cap sp fc a res.1 j res.2 nx h tm h' nx'
theorem partE_cv {f fc:Nat} {c:α→α→Int} (S:SoAt P orc fc k enc c) (hcf:zD P f=some (zIx k)) (ho:orc f=none) {b n cap a e pv:Nat} {sp:Option Nat} {d:Array α} {h:Hp} {nx:Nat}
  (hb:b<nx) (hd:d.size=n) (hn:n<100000) (hap:a≤pv) (hpe:pv<e) (hen:e≤n) (hh:hget h b=some (.cells (arr enc d) false)) :
  Cv P orc s f [.slice (some ⟨b,0,sp⟩) n cap,.int .i64 (a:Int),.int .i64 (e:Int),.int .i64 (pv:Int),.func (.func fc) #[] #[]] h nx (PartEK enc b (Sort.partitionEqual (ltC c) d a e pv) nx h):=by
 unfold Sort.partitionEqual;generalize hres:Sort.partEqLoop (ltC c) a (a+1) (e-1) (Sort.swp d a pv)=res;refine Cv.enter ho hcf ?_;unfold zIx bC bT eN mC mV pU rU;refine Ev.seq (Ev.regO ?_);simp only [SB,seval];refine Ev.seq (Ev.regD ?_);have b1:a<n:=by omega
 have b2:pv<n:=by omega
 have r1:=zk S.hk (hd.symm ▸ b1);have r2:=zk S.hk (hd.symm ▸ b2);simp only [SB,b1,b2,zA hh,r1,r2,seval];rw [zAP S.hk S.cell hh (hd.symm ▸ b1)];rw [zAP (d:=d.setIfInBounds (a) d[pv]!) S.hk S.cell (by simp) (by simp; omega)]
 (try simp only [SB,seval])
 have w1:IntKind.wrap .i64 ((a:Int)+1)=((a+1:Nat):Int):=wN1 (by omega);have w2:IntKind.wrap .i64 ((e:Int)-1)=((e-1:Nat):Int):=wS1 (by omega) (by omega);refine Ev.seq (Ev.regO ?_);simp only [SB,w1,w2,seval];refine Ev.cut (PeQ enc 11 12 b n cap sp fc a res nx h) ?_ ?_
 ·refine Ev.block (Ev.loop (PeJ enc 11 12 b n cap sp fc a (ltC c) res nx h) ?_ (e-1+1-(a+1)) _ _ _ ⟨a+1,e-1,Sort.swp d a pv,rfl,by omega,by omega,by omega,by simp [Sort.swp,hd],hres,by simp,by simp,by simp,by simp,by simp,by simp [Sort.swp],fun c hc hcb=>by rw [hgs,if_neg hcb,hgs,if_neg hcb],Nat.le_refl _⟩);clear hres hh hd w1 w2 r1 r2 b1 b2;rintro m tm h' nx' ⟨i,j,d,rfl,hai,hij,hjn,hd,hE,hP⟩;rw [Sort.partEqLoop_eq] at hE;refine Ev.block ?_;obtain ⟨p,hp⟩:∃ p:α→Bool,∀ x,p x=!ltC c d[a]! x:=⟨fun x=>!ltC c d[a]! x,fun _=>rfl⟩
  obtain ⟨p',hp'⟩:∃ p:α→Bool,∀ x,p x=ltC c d[a]! x:=⟨fun x=>ltC c d[a]! x,fun _=>rfl⟩
  have ep:(fun x=>!ltC c d[a]! x)=p:=funext fun x=>(hp x).symm;have ep':(fun x=>ltC c d[a]! x)=p':=funext fun x=>(hp' x).symm;obtain ⟨i2,hi2⟩:∃ x,x=Sort.scanUp p d j i:=⟨_,rfl⟩
  have hi3:i≤i2∧i2≤j+1:=hi2 ▸ ⟨(Sort.scanUp_spec p d j _ i rfl).1,(Sort.scanUp_spec p d j _ i rfl).2.1 hij⟩
  refine Ev.cut (PtS enc 11 12 b n cap sp fc a i2 j d nx h) ?_ ?_
  ·skip
   refine Ev.loopG (PuJ enc 11 12 b n cap sp fc a p j i2 d nx h) ?_ (j+1-i) _ _ _ ⟨i,rfl,hai,hij,hi2.symm,hP⟩;rintro m tm h' nx' ⟨w,rfl,hai,hij,hI,t0,t1,t4,ti,tj,hh,hfr,hnx⟩;refine Ev.regD ?_
   by_cases hle:w≤j
   ·have d1:decide ((j:Int)<(w:Int))=false:=decide_eq_false (by omega);have b1:w<n:=by omega
    have b2:a<n:=by omega
    have r1:=zk S.hk (hd.symm ▸ b1);have r2:=zk S.hk (hd.symm ▸ b2)
    repeat (first | simp only [Dv_g,Ov_g,zB,zH,tgs,zV,zW,zU,Bool.not_true,Bool.not_false,Bool.false_eq_true,zL,zN,zK,zM,seval] | simp only [SG,t0,t1,t4,ti,tj,d1,b1,b2,zA hh,r1,r2,seval])
    refine zAf (f:=fc) (a:=[]) (a2:=[]) (by simp [t4]) ?_;simp only [zP,zJ,zO,zn,tgs,List.nil_append,List.append_nil,seval];refine (S.cmp _ _ _ _).mono ?_;rintro r h1 nx1 ⟨rfl,hn1,hf1⟩;refine ⟨hn1,?_⟩;have hh1:=(hf1 b (by omega)).trans hh
    by_cases hl:c d[a]! d[w]!<0
    ·have e1:decide (c d[a]! d[w]!<0)=true:=decide_eq_true hl
     repeat (first | simp only [Dv_g,Ov_g,zB,zH,tgs,zV,zW,zU,Bool.not_true,Bool.not_false,Bool.false_eq_true,zL,zN,zK,zM,seval] | simp only [SG,e1,seval])
     rw [zEt p d j w (.inr (by simp [hp,ltC,hl]))] at hI;subst hI;refine ⟨false,by simp,fun _=>?_,fun e=>Bool.noConfusion e⟩
     (try simp only [SB,seval])
     exact ⟨by simp [t0],by simp [t1],by simp [t4],by simp [ti],by simp [tj],hh1,fun c hc hcb=>(hf1 c (by omega)).trans (hfr c hc hcb),by omega⟩
    ·have e1:decide (c d[a]! d[w]!<0)=false:=decide_eq_false hl
     repeat (first | simp only [Dv_g,Ov_g,zB,zH,tgs,zV,zW,zU,Bool.not_true,Bool.not_false,Bool.false_eq_true,zL,zN,zK,zM,seval] | simp only [SG,e1,seval])
     rw [zPo p d j w hle (by simp [hp,ltC,hl])] at hI;refine ⟨true,by simp,fun e=>Bool.noConfusion e,fun _=>?_⟩;have w2:IntKind.wrap .i64 ((w:Int)+1)=((w+1:Nat):Int):=wN1 (by omega);refine Ev.block (Ev.regO ?_);simp only [SB,ti,w2,seval];exact ⟨j+1-(w+1),by omega,w+1,rfl,by omega,by omega,hI,by simp [t0],by simp [t1],by simp [t4],by simp,by simp [tj],hh1,fun c hc hcb=>(hf1 c (by omega)).trans (hfr c hc hcb),by omega⟩
   ·have d1:decide ((j:Int)<(w:Int))=true:=decide_eq_true (by omega)
    repeat (first | simp only [Dv_g,Ov_g,zB,zH,tgs,zV,zW,zU,Bool.not_true,Bool.not_false,Bool.false_eq_true,zL,zN,zK,zM,seval] | simp only [SG,ti,tj,d1,seval])
    rw [zEt p d j w (.inl hle)] at hI;subst hI;refine ⟨false,by simp,fun _=>?_,fun e=>Bool.noConfusion e⟩
    (try simp only [SB,seval])
    exact ⟨by simp [t0],by simp [t1],by simp [t4],by simp [ti],by simp [tj],hh,hfr,hnx⟩
  clear hP;intro tm0 h0 nx0 hP;obtain ⟨j2,hj2⟩:∃ x,x=Sort.scanDown p' d i2 j:=⟨_,rfl⟩
  have hj3:j2≤j∧i2≤j2+1:=hj2 ▸ ⟨(Sort.scanDown_spec p' d i2 j).1,(Sort.scanDown_spec p' d i2 j).2.1 hi3.2⟩
  have hne:i2≤j2→i2<j2:=fun hle=>by
   rcases Nat.lt_or_eq_of_le hle with h | h
   ·exact h
   ·have s1:=(Sort.scanUp_spec p d j _ i rfl).2.2.2;have s2:=(Sort.scanDown_spec p' d i2 j).2.2.2;rw [← hi2] at s1;rw [← hj2] at s2;have s1:=s1 (by omega);have s2:=s2 hle (by omega);rw [hp] at s1;rw [← h,hp'] at s2;cases hq:ltC c d[a]! d[i2]! <;> rw [hq] at s1 s2 <;> first | (cases s1; done) | (cases s2; done)
  refine Ev.cut (PtS enc 11 12 b n cap sp fc a i2 j2 d nx h) ?_ ?_
  ·have hij:=hi3.2;refine Ev.loopG (PdJ enc 11 12 b n cap sp fc a p' i2 j2 d nx h) ?_ j _ _ _ ⟨j,rfl,hij,hjn,hj2.symm,hP⟩;rintro m tm h' nx' ⟨w,hm,hij,hjn,hI,t0,t1,t4,ti,tj,hh,hfr,hnx⟩;subst hm;refine Ev.regD ?_
   by_cases hle:i2≤m
   ·have d1:decide ((m:Int)<(i2:Int))=false:=decide_eq_false (by omega);have b1:m<n:=by omega
    have b2:a<n:=by omega
    have r1:=zk S.hk (hd.symm ▸ b1);have r2:=zk S.hk (hd.symm ▸ b2)
    repeat (first | simp only [Dv_g,Ov_g,zB,zH,tgs,zV,zW,zU,Bool.not_true,Bool.not_false,Bool.false_eq_true,zL,zN,zK,zM,seval] | simp only [SG,t0,t1,t4,ti,tj,d1,b1,b2,zA hh,r1,r2,seval])
    refine zAf (f:=fc) (a:=[]) (a2:=[]) (by simp [t4]) ?_;simp only [zP,zJ,zO,zn,tgs,List.nil_append,List.append_nil,seval];refine (S.cmp _ _ _ _).mono ?_;rintro r h1 nx1 ⟨rfl,hn1,hf1⟩;refine ⟨hn1,?_⟩;have hh1:=(hf1 b (by omega)).trans hh
    by_cases hl:c d[a]! d[m]!<0
    ·have e1:decide (c d[a]! d[m]!<0)=true:=decide_eq_true hl
     repeat (first | simp only [Dv_g,Ov_g,zB,zH,tgs,zV,zW,zU,Bool.not_true,Bool.not_false,Bool.false_eq_true,zL,zN,zK,zM,seval] | simp only [SG,e1,seval])
     rw [zIV p' d i2 m hle (by omega) (by simp [hp',ltC,hl])] at hI;refine ⟨true,by simp,fun e=>Bool.noConfusion e,fun _=>?_⟩;have w2:IntKind.wrap .i64 ((m:Int)-1)=((m-1:Nat):Int):=wS1 (by omega) (by omega);refine Ev.block (Ev.regO ?_);simp only [SB,tj,w2,seval];exact ⟨m-1,by omega,m-1,rfl,by omega,by omega,hI,by simp [t0],by simp [t1],by simp [t4],by simp [ti],by simp,hh1,fun c hc hcb=>(hf1 c (by omega)).trans (hfr c hc hcb),by omega⟩
    ·have e1:decide (c d[a]! d[m]!<0)=false:=decide_eq_false hl
     repeat (first | simp only [Dv_g,Ov_g,zB,zH,tgs,zV,zW,zU,Bool.not_true,Bool.not_false,Bool.false_eq_true,zL,zN,zK,zM,seval] | simp only [SG,e1,seval])
     rw [zCa p' d i2 m (.inr (by simp [hp',ltC,hl]))] at hI;subst hI;refine ⟨false,by simp,fun _=>?_,fun e=>Bool.noConfusion e⟩
     (try simp only [SB,seval])
     exact ⟨by simp [t0],by simp [t1],by simp [t4],by simp [ti],by simp [tj],hh1,fun c hc hcb=>(hf1 c (by omega)).trans (hfr c hc hcb),by omega⟩
   ·have d1:decide ((m:Int)<(i2:Int))=true:=decide_eq_true (by omega)
    repeat (first | simp only [Dv_g,Ov_g,zB,zH,tgs,zV,zW,zU,Bool.not_true,Bool.not_false,Bool.false_eq_true,zL,zN,zK,zM,seval] | simp only [SG,ti,tj,d1,seval])
    rw [zCa p' d i2 m (.inl hle)] at hI;subst hI;refine ⟨false,by simp,fun _=>?_,fun e=>Bool.noConfusion e⟩
    (try simp only [SB,seval])
    exact ⟨by simp [t0],by simp [t1],by simp [t4],by simp [ti],by simp [tj],hh,hfr,hnx⟩
  rintro tm0 h0 nx0 ⟨t0,t1,t4,ti,tj,hh,hfr,hnx⟩;rw [ep,ep',← hi2,← hj2] at hE;refine Ev.seq (Ev.seq (Ev.regO ?_));simp only [SB,ti,tj,seval]
  by_cases hgt:i2>j2
  ·rw [if_pos hgt] at hE;subst hE;refine Ev.cond true (by simp <;> omega) (fun _=>Ev.exit ?_) (by simp <;> omega);simp only [SB,seval];exact ⟨j2,by simp [t0],by simp [t1],by simp [t4],by simp [ti],by simp [tj],hh,hfr,hnx⟩
  ·rw [if_neg hgt] at hE;refine Ev.cond false (by simp <;> omega) (by simp <;> omega) (fun _=>Ev.skip ?_)
   (try simp only [SB,seval])
   refine Ev.seq (Ev.regD ?_);have b1:i2<n:=by omega
   have b2:j2<n:=by omega
   have r1:=zk S.hk (hd.symm ▸ b1);have r2:=zk S.hk (hd.symm ▸ b2);simp only [SB,t0,ti,tj,b1,b2,zA hh,r1,r2,seval];rw [zAP S.hk S.cell hh (hd.symm ▸ b1)];rw [zAP (d:=d.setIfInBounds (i2) d[j2]!) S.hk S.cell (by simp) (by simp; omega)]
   (try simp only [SB,seval])
   have w3:IntKind.wrap .i64 ((i2:Int)+1)=((i2+1:Nat):Int):=wN1 (by omega);have w4:IntKind.wrap .i64 ((j2:Int)-1)=((j2-1:Nat):Int):=wS1 (by omega) (by omega);refine Ev.seq (Ev.regO ?_);simp only [SB,ti,w3,seval];refine Ev.regO ?_;simp only [SB,tj,w4,seval];refine ⟨j2-1+1-(i2+1),by omega,i2+1,j2-1,Sort.swp d i2 j2,rfl,by omega,by omega,by omega,by simp [Sort.swp,hd],hE,by simp [t0],by simp [t1],by simp [t4],by simp,by simp,by simp [Sort.swp],fun c hc hcb=>?_,hnx⟩;rw [hgs,if_neg hcb,hgs,if_neg hcb];exact hfr c hc hcb
 ·rintro tm h' nx' ⟨w,t0,t1,t4,ti,tj,hh,hfr,hnx⟩;refine Ev.seq (Ev.regO ?_);simp only [SB,ti,seval];refine Ev.ret ?_;simp only [SB,seval];exact ⟨rfl,hh,hfr,hnx⟩
end
section
variable {P:Program} {orc:Orc} {s:Bool}
variable {α:Type} [Inhabited α] {enc:α→List Value} {k:Nat}
def zNc (k:Nat):CF:={ res:=[.tmp 8],body:=(.seq (.regO [mC 8 (.bool false)]) (.seq (.regO [mV 13 1,bC 14 .add 3 13 (.int .i64 1),mV 9 14]) (.seq (.seq (.regO [mC 10 (.int .i64 0)]) (.block 0 (.loop (.seq (.seq (.regO [mV 15 10,bC 16 .lss 3 15 (.int .i64 5)]) (.cond (.t 16) .skip (.exit 0))) (.seq (.block 1 (.seq (.block 2 (.loop (.seq (.seq (.regD [mV 19 9,mV 20 2,bT 21 .lss 3 19 20,mV 22 21,⟨(some (22,true)),(some 23),0,.pur (.mv (.t 3))⟩,⟨(some (22,true)),(some 24),0,.pur (.mv (.t 0))⟩,⟨(some (22,true)),(some 25),0,.pur (.mv (.t 9))⟩,⟨(some (22,true)),(some 26),0,.pur (.ixA (.slice k) (.t 24) (.t 25))⟩,⟨(some (22,true)),(some 27),0,.red (.ld (some k) (.t 26))⟩,⟨(some (22,true)),(some 28),0,.pur (.mv (.t 0))⟩,⟨(some (22,true)),(some 29),0,.pur (.mv (.t 9))⟩,⟨(some (22,true)),(some 30),0,.pur (.bin .sub 3 (.t 29) (.v (.int .i64 1)))⟩,⟨(some (22,true)),(some 31),0,.pur (.ixA (.slice k) (.t 28) (.t 30))⟩,⟨(some (22,true)),(some 32),0,.red (.ld (some k) (.t 31))⟩,⟨(some (22,true)),(some 33),0,.eff (.callv (.t 23) [(.t 27),(.t 32)])⟩,⟨(some (22,true)),(some 34),0,.pur (.bin .lss 3 (.t 33) (.v (.int .i64 0)))⟩,⟨(some (22,true)),(some 35),0,.pur (.un .not (.t 34))⟩,pU 36 (.pick (.t 22) (.t 35) (.v (.bool false)))]) (.cond (.t 36) .skip (.exit 2))) (.block 3 (.regO [mV 37 9,bC 38 .add 3 37 (.int .i64 1),mV 9 38]))))) (.seq (.seq (.regO [mV 39 9,mV 40 2,bT 41 .eql 3 39 40]) (.cond (.t 41) (.seq (.regO [mC 8 (.bool true)]) .ret) .skip)) (.seq (.seq (.regO [mV 42 2,mV 43 1,bT 44 .sub 3 42 43,bC 45 .lss 3 44 (.int .i64 50)]) (.cond (.t 45) (.seq (.regO [mC 8 (.bool false)]) .ret) .skip)) (.seq (.regD [mV 46 0,mV 47 9,mV 51 0,mV 52 9,bC 53 .sub 3 52 (.int .i64 1),pU 54 (.ixA (.slice k) (.t 51) (.t 53)),rU 55 0 (.ld (some k) (.t 54)),mV 56 0,mV 57 9,pU 58 (.ixA (.slice k) (.t 56) (.t 57)),rU 59 0 (.ld (some k) (.t 58)),pU 60 (.ixA (.slice k) (.t 46) (.t 47)),eN (.st k (.t 60) (.t 55)),⟨none,(some 48),1,.pur (.mv (.t 0))⟩,⟨none,(some 49),1,.pur (.mv (.t 9))⟩,⟨none,(some 50),1,.pur (.bin .sub 3 (.t 49) (.v (.int .i64 1)))⟩,pU 61 (.ixA (.slice k) (.t 48) (.t 50)),eN (.st k (.t 61) (.t 59))]) (.seq (.seq (.regO [mV 62 9,mV 63 1,bT 64 .sub 3 62 63,bC 65 .geq 3 64 (.int .i64 2)]) (.cond (.t 65) (.seq (.regO [mV 66 9,bC 67 .sub 3 66 (.int .i64 1),mV 11 67]) (.block 4 (.loop (.seq (.seq (.regO [mV 68 11,bC 69 .geq 3 68 (.int .i64 1)]) (.cond (.t 69) .skip (.exit 4))) (.seq (.block 5 (.seq (.seq (.regD [mV 72 3,mV 73 0,mV 74 11,pU 75 (.ixA (.slice k) (.t 73) (.t 74)),rU 76 0 (.ld (some k) (.t 75)),mV 77 0,mV 78 11,bC 79 .sub 3 78 (.int .i64 1),pU 80 (.ixA (.slice k) (.t 77) (.t 79)),rU 81 0 (.ld (some k) (.t 80)),eU 82 (.callv (.t 72) [(.t 76),(.t 81)]),bC 83 .lss 3 82 (.int .i64 0),pU 84 (.un .not (.t 83))]) (.cond (.t 84) (.exit 4) .skip)) (.regD [mV 85 0,mV 86 11,mV 90 0,mV 91 11,bC 92 .sub 3 91 (.int .i64 1),pU 93 (.ixA (.slice k) (.t 90) (.t 92)),rU 94 0 (.ld (some k) (.t 93)),mV 95 0,mV 96 11,pU 97 (.ixA (.slice k) (.t 95) (.t 96)),rU 98 0 (.ld (some k) (.t 97)),pU 99 (.ixA (.slice k) (.t 85) (.t 86)),eN (.st k (.t 99) (.t 94)),⟨none,(some 87),1,.pur (.mv (.t 0))⟩,⟨none,(some 88),1,.pur (.mv (.t 11))⟩,⟨none,(some 89),1,.pur (.bin .sub 3 (.t 88) (.v (.int .i64 1)))⟩,pU 100 (.ixA (.slice k) (.t 87) (.t 89)),eN (.st k (.t 100) (.t 98))]))) (.regO [mV 70 11,bC 71 .sub 3 70 (.int .i64 1),mV 11 71])))))) .skip)) (.seq (.regO [mV 101 2,mV 102 9,bT 103 .sub 3 101 102,bC 104 .geq 3 103 (.int .i64 2)]) (.cond (.t 104) (.seq (.regO [mV 105 9,bC 106 .add 3 105 (.int .i64 1),mV 12 106]) (.block 6 (.loop (.seq (.seq (.regO [mV 107 12,mV 108 2,bT 109 .lss 3 107 108]) (.cond (.t 109) .skip (.exit 6))) (.seq (.block 7 (.seq (.seq (.regD [mV 112 3,mV 113 0,mV 114 12,pU 115 (.ixA (.slice k) (.t 113) (.t 114)),rU 116 0 (.ld (some k) (.t 115)),mV 117 0,mV 118 12,bC 119 .sub 3 118 (.int .i64 1),pU 120 (.ixA (.slice k) (.t 117) (.t 119)),rU 121 0 (.ld (some k) (.t 120)),eU 122 (.callv (.t 112) [(.t 116),(.t 121)]),bC 123 .lss 3 122 (.int .i64 0),pU 124 (.un .not (.t 123))]) (.cond (.t 124) (.exit 6) .skip)) (.regD [mV 125 0,mV 126 12,mV 130 0,mV 131 12,bC 132 .sub 3 131 (.int .i64 1),pU 133 (.ixA (.slice k) (.t 130) (.t 132)),rU 134 0 (.ld (some k) (.t 133)),mV 135 0,mV 136 12,pU 137 (.ixA (.slice k) (.t 135) (.t 136)),rU 138 0 (.ld (some k) (.t 137)),pU 139 (.ixA (.slice k) (.t 125) (.t 126)),eN (.st k (.t 139) (.t 134)),⟨none,(some 127),1,.pur (.mv (.t 0))⟩,⟨none,(some 128),1,.pur (.mv (.t 12))⟩,⟨none,(some 129),1,.pur (.bin .sub 3 (.t 128) (.v (.int .i64 1)))⟩,pU 140 (.ixA (.slice k) (.t 127) (.t 129)),eN (.st k (.t 140) (.t 138))]))) (.regO [mV 110 12,bC 111 .add 3 110 (.int .i64 1),mV 12 111])))))) .skip)))))))) (.regO [mV 17 10,bC 18 .add 3 17 (.int .i64 1),mV 10 18])))))) (.seq (.regO [mC 8 (.bool false)]) .ret)))) }
def PinsK (enc:α→List Value) (b:Nat) (res:Array α × Bool) (nx:Nat) (h:Hp):KC':=fun r h' nx'=>r = .bool res.2∧hget h' b=some (.cells (arr enc res.1) false)∧(∀ c,c<nx→c≠b→hget h' c=hget h c)∧nx≤nx'
def PiS {α:Type} [Inhabited α] (enc:α→List Value) (b n cap:Nat) (sp:Option Nat) (fc a e:Nat) (i stp:Nat) (d:Array α) (nx:Nat) (h:Hp) (tm:Tm) (h':Hp) (nx':Nat):Prop :=
 tget tm 0 = .slice (some ⟨b,0,sp⟩) n cap∧tget tm 1 = .int .i64 (a:Int)∧tget tm 2 = .int .i64 (e:Int)∧tget tm 3 = .func (.func fc) #[] #[]∧tget tm 9 = .int .i64 (i:Int)∧tget tm 10 = .int .i64 (stp:Int)∧hget h' b=some (.cells (arr enc d) false)∧(∀ c,c<nx→c≠b→hget h' c=hget h c)∧nx≤nx'
def PxJd {α:Type} [Inhabited α] (enc:α→List Value) (b n cap:Nat) (sp:Option Nat) (fc a e:Nat) (lt:α→α→Bool) (i stp:Nat) (dD:Array α) (nx:Nat) (h:Hp) (m:Nat) (tm:Tm) (h':Hp) (nx':Nat):Prop :=
 ∃ (j:Nat) (d:Array α),m=j∧tget tm 11 = .int .i64 (j:Int)∧j<n∧d.size=n∧Sort.shiftDown lt j d=dD∧PiS enc b n cap sp fc a e i stp d nx h tm h' nx'
def PxJu {α:Type} [Inhabited α] (enc:α→List Value) (b n cap:Nat) (sp:Option Nat) (fc a e:Nat) (lt:α→α→Bool) (i stp:Nat) (dU:Array α) (nx:Nat) (h:Hp) (m:Nat) (tm:Tm) (h':Hp) (nx':Nat):Prop :=
 ∃ (j:Nat) (d:Array α),m=e-j∧tget tm 12 = .int .i64 (j:Int)∧0<j∧d.size=n∧Sort.shiftUp lt e j d=dU∧PiS enc b n cap sp fc a e i stp d nx h tm h' nx'
def PsJ {α:Type} [Inhabited α] (enc:α→List Value) (b n cap:Nat) (sp:Option Nat) (fc a e:Nat) (lt:α→α→Bool) (stp i2:Nat) (d:Array α) (nx:Nat) (h:Hp) (m:Nat) (tm:Tm) (h':Hp) (nx':Nat):Prop :=
 ∃ w,m=e-w∧a<w∧w≤e∧Sort.scanSorted lt d e w=i2∧PiS enc b n cap sp fc a e w stp d nx h tm h' nx'
def PiJ {α:Type} [Inhabited α] (enc:α→List Value) (b n cap:Nat) (sp:Option Nat) (fc a e:Nat) (lt:α→α→Bool) (res:Array α × Bool) (nx:Nat) (h:Hp) (m:Nat) (tm:Tm) (h':Hp) (nx':Nat):Prop :=
 ∃ (q i:Nat) (d:Array α),m=q∧q≤5∧a<i∧i≤e∧d.size=n∧Sort.partialIns lt a e q i d=res∧PiS enc b n cap sp fc a e i (5-q) d nx h tm h' nx'
def PiQ {α:Type} [Inhabited α] (enc:α→List Value) (b n cap:Nat) (sp:Option Nat) (fc a e:Nat) (res:Array α × Bool) (nx:Nat) (h:Hp) (tm:Tm) (h':Hp) (nx':Nat):Prop:=res.2=false∧hget h' b=some (.cells (arr enc res.1) false)∧(∀ c,c<nx→c≠b→hget h' c=hget h c)∧nx≤nx'
theorem zDp (lt:α→α→Bool):∀ (j:Nat) (d:Array α),(Sort.shiftDown lt j d).size=d.size
 | 0,d=>rfl
 | j+1,d=>by
  rw [Sort.shiftDown]
  split
  ·rfl
  ·rw [zDp lt j]; simp [Sort.swp]
theorem zF8 (lt:α→α→Bool) (e:Nat):∀ (m j:Nat) (d:Array α),e-j≤m→(Sort.shiftUp lt e j d).size=d.size
 | 0,j,d,hm=>by rw [Sort.shiftUp,if_neg (by omega)]
 | m+1,j,d,hm=>by
  rw [Sort.shiftUp]
  split
  ·split
   ·rfl
   ·rw [zF8 lt e m _ _ (by omega)]; simp [Sort.swp]
  ·rfl
theorem zCZ (lt:α→α→Bool) (d:Array α) (e:Nat):∀ (m i:Nat),e-i≤m→i≤Sort.scanSorted lt d e i∧(i≤e→Sort.scanSorted lt d e i≤e)
 | 0,i,hm=>by
  rw [Sort.scanSorted,if_neg (by simp; omega)];exact ⟨Nat.le_refl _,fun h=>h⟩
 | m+1,i,hm=>by
  rw [Sort.scanSorted]
  split
  ·rename_i hc
   have hie:i<e:=by simp at hc; exact hc.1
   have ih:=zCZ lt d e m (i+1) (by omega);exact ⟨by omega,fun _=>ih.2 (by omega)⟩
  ·exact ⟨Nat.le_refl _,fun h=>h⟩
theorem pins_cv {f fc:Nat} {c:α→α→Int} (S:SoAt P orc fc k enc c) (hcf:zD P f=some (zNc k)) (ho:orc f=none) {b n cap a e:Nat} {sp:Option Nat} {d:Array α} {h:Hp} {nx:Nat}
  (hb:b<nx) (hd:d.size=n) (hn:n<100000) (hae:a<e) (hen:e≤n) (hh:hget h b=some (.cells (arr enc d) false)) :
  Cv P orc s f [.slice (some ⟨b,0,sp⟩) n cap,.int .i64 (a:Int),.int .i64 (e:Int),.func (.func fc) #[] #[]] h nx (PinsK enc b (Sort.partialInsertionSort (ltC c) d a e) nx h):=by
 unfold Sort.partialInsertionSort;generalize hres:Sort.partialIns (ltC c) a e 5 (a+1) d=res;refine Cv.enter ho hcf ?_;unfold zNc bC bT eN eU mC mV pU rU;refine Ev.seq (Ev.regO ?_);simp only [SB,seval];refine Ev.seq (Ev.regO ?_);have w1:IntKind.wrap .i64 ((a:Int)+1)=((a+1:Nat):Int):=wN1 (by omega);simp only [SB,w1,seval];refine Ev.cut (PiQ enc b n cap sp fc a e res nx h) ?_ ?_
 ·refine Ev.seq (Ev.regO ?_);simp only [SB,seval];refine Ev.loopG (PiJ enc b n cap sp fc a e (ltC c) res nx h) ?_ 5 _ _ _ ⟨5,a+1,d,rfl,Nat.le_refl _,by omega,by omega,hd,hres,by simp,by simp,by simp,by simp,by simp,by simp,hh,fun _ _ _=>rfl,Nat.le_refl _⟩;clear hres hh hd;rintro m tm h' nx' ⟨q,i,d,hm,hq,hai,hie,hd,hE,t0,t1,t2,t3,t9,t10,hh,hfr,hnx⟩;subst hm;refine Ev.regO ?_;simp only [SB,t10,seval];cases m with
  | zero =>
   have hE:(d,false)=res:=hE;subst hE;refine ⟨false,by simp,fun _=>?_,fun e=>Bool.noConfusion e⟩
   (try simp only [SB,seval])
   exact ⟨rfl,hh,hfr,hnx⟩
  | succ q =>
   refine ⟨true,by simp <;> omega,fun e=>Bool.noConfusion e,fun _=>?_⟩;generalize hstp:5-(q+1)=stp at t10;refine Ev.cut (fun tm h' nx'=>∃ (i:Nat) (d:Array α),a<i∧i≤e∧d.size=n∧Sort.partialIns (ltC c) a e q i d=res∧PiS enc b n cap sp fc a e i stp d nx h tm h' nx') ?_ ?_
   ·refine Ev.block ?_;obtain ⟨i2,hi2⟩:∃ x,x=Sort.scanSorted (ltC c) d e i:=⟨_,rfl⟩
    have hi3:i≤i2∧i2≤e:=hi2 ▸ ⟨(zCZ (ltC c) d e _ i (Nat.le_refl _)).1,(zCZ (ltC c) d e _ i (Nat.le_refl _)).2 hie⟩
    refine Ev.cut (PiS enc b n cap sp fc a e i2 stp d nx h) ?_ ?_
    ·refine Ev.loopG (PsJ enc b n cap sp fc a e (ltC c) stp i2 d nx h) ?_ (e-i) _ _ _ ⟨i,rfl,hai,hie,hi2.symm,by simp [t0],by simp [t1],by simp [t2],by simp [t3],by simp [t9],by simp [t10],hh,hfr,hnx⟩;rintro m tm h' nx' ⟨w,rfl,haw,hwe,hI,t0,t1,t2,t3,t9,t10,hh,hfr,hnx⟩;rw [Sort.scanSorted] at hI;refine Ev.regD ?_
     by_cases hlt:w<e
     ·have d1:decide ((w:Int)<(e:Int))=true:=decide_eq_true (by omega);have w3:IntKind.wrap .i64 ((w:Int)-1)=((w-1:Nat):Int):=wS1 (by omega) (by omega);have w4:IntKind.wrap .i64 ((w:Int)+1)=((w+1:Nat):Int):=wN1 (by omega);have b1:w<n:=by omega
      have b2:w-1<n:=by omega
      have r1:=zk S.hk (hd.symm ▸ b1);have r2:=zk S.hk (hd.symm ▸ b2)
      repeat (first | simp only [Dv_g,Ov_g,zB,zH,tgs,zV,zW,zU,Bool.not_true,Bool.not_false,Bool.false_eq_true,zL,zN,zK,zM,seval] | simp only [SG,t0,t2,t3,t9,d1,w3,b1,b2,zA hh,r1,r2,seval])
      refine zAf (f:=fc) (a:=[]) (a2:=[]) (by simp [t3]) ?_;simp only [zP,zJ,zO,zn,tgs,List.nil_append,List.append_nil,seval];refine (S.cmp _ _ _ _).mono ?_;rintro r h1 nx1 ⟨rfl,hn1,hf1⟩;refine ⟨hn1,?_⟩;have hh1:=(hf1 b (by omega)).trans hh
      by_cases hl:c d[w]! d[w-1]!<0
      ·have e1:decide (c d[w]! d[w-1]!<0)=true:=decide_eq_true hl
       repeat (first | simp only [Dv_g,Ov_g,zB,zH,tgs,zV,zW,zU,Bool.not_true,Bool.not_false,Bool.false_eq_true,zL,zN,zK,zM,seval] | simp only [SG,e1,seval])
       rw [if_neg (by rw [show ltC c d[w]! d[w-1]! = true from e1]; simp)] at hI;subst hI;refine ⟨false,by simp,fun _=>?_,fun e=>Bool.noConfusion e⟩
       (try simp only [SB,seval])
       exact ⟨by simp [t0],by simp [t1],by simp [t2],by simp [t3],by simp [t9],by simp [t10],hh1,fun c hc hcb=>(hf1 c (by omega)).trans (hfr c hc hcb),by omega⟩
      ·have e1:decide (c d[w]! d[w-1]!<0)=false:=decide_eq_false hl
       repeat (first | simp only [Dv_g,Ov_g,zB,zH,tgs,zV,zW,zU,Bool.not_true,Bool.not_false,Bool.false_eq_true,zL,zN,zK,zM,seval] | simp only [SG,e1,seval])
       rw [if_pos (by rw [show ltC c d[w]! d[w-1]! = false from e1,decide_eq_true hlt]; rfl)] at hI;refine ⟨true,by simp,fun e=>Bool.noConfusion e,fun _=>?_⟩;refine Ev.block (Ev.regO ?_);simp only [SB,t9,w4,seval];exact ⟨e-(w+1),by omega,w+1,rfl,by omega,by omega,hI,by simp [t0],by simp [t1],by simp [t2],by simp [t3],by simp,by simp [t10],hh1,fun c hc hcb=>(hf1 c (by omega)).trans (hfr c hc hcb),by omega⟩
     ·have d1:decide ((w:Int)<(e:Int))=false:=decide_eq_false (by omega)
      repeat (first | simp only [Dv_g,Ov_g,zB,zH,tgs,zV,zW,zU,Bool.not_true,Bool.not_false,Bool.false_eq_true,zL,zN,zK,zM,seval] | simp only [SG,t2,t9,d1,seval])
      rw [if_neg (by rw [decide_eq_false hlt]; simp)] at hI;subst hI;refine ⟨false,by simp,fun _=>?_,fun e=>Bool.noConfusion e⟩
      (try simp only [SB,seval])
      exact ⟨by simp [t0],by simp [t1],by simp [t2],by simp [t3],by simp [t9],by simp [t10],hh,hfr,hnx⟩
    ·clear hh hfr hnx t0 t1 t2 t3 t9 t10;rintro tm h' nx' ⟨t0,t1,t2,t3,t9,t10,hh,hfr,hnx⟩;rw [Sort.partialIns,← hi2] at hE;simp only at hE;refine Ev.seq (Ev.seq (Ev.regO ?_));simp only [SB,t2,t9,seval]
     by_cases hfull:i2=e
     ·rw [if_pos hfull] at hE;subst hE;refine Ev.cond true (by simp [hfull]) (fun _=>?_) (by simp [hfull]);refine Ev.seq (Ev.regO ?_);simp only [SB,seval];refine Ev.ret ?_;simp only [SB,seval];exact ⟨rfl,hh,hfr,hnx⟩
     rw [if_neg hfull] at hE;refine Ev.cond false (by simp <;> omega) (by simp <;> omega) (fun _=>Ev.skip ?_)
     (try simp only [SB,seval])
     have w5:IntKind.wrap .i64 ((e:Int)-(a:Int))=((e-a:Nat):Int):=wSub (by omega) (by omega);refine Ev.seq (Ev.seq (Ev.regO ?_));simp only [SB,t1,t2,w5,seval]
     by_cases hshort:e-a<50
     ·rw [if_pos hshort] at hE;subst hE;refine Ev.cond true (by simp <;> omega) (fun _=>?_) (by simp <;> omega);refine Ev.seq (Ev.regO ?_);simp only [SB,seval];refine Ev.ret ?_;simp only [SB,seval];exact ⟨rfl,hh,hfr,hnx⟩
     rw [if_neg hshort] at hE;refine Ev.cond false (by simp <;> omega) (by simp <;> omega) (fun _=>Ev.skip ?_)
     (try simp only [SB,seval])
     have w3:IntKind.wrap .i64 ((i2:Int)-1)=((i2-1:Nat):Int):=wS1 (by omega) (by omega);have w4:IntKind.wrap .i64 ((i2:Int)+1)=((i2+1:Nat):Int):=wN1 (by omega);have w6:IntKind.wrap .i64 ((i2:Int)-(a:Int))=((i2-a:Nat):Int):=wSub (by omega) (by omega);have w7:IntKind.wrap .i64 ((e:Int)-(i2:Int))=((e-i2:Nat):Int):=wSub (by omega) (by omega);have b1:i2<n:=by omega
     have b2:i2-1<n:=by omega
     have r1:=zk S.hk (hd.symm ▸ b1);have r2:=zk S.hk (hd.symm ▸ b2);refine Ev.seq (Ev.regD ?_);simp only [SB,t0,t9,w3,b1,b2,zA hh,r1,r2,seval];rw [zAP S.hk S.cell hh (hd.symm ▸ b1)];rw [zAP (d:=d.setIfInBounds (i2) d[i2-1]!) S.hk S.cell (by simp) (by simp; omega)]
     (try simp only [SB,seval])
     refine Ev.genH (fun tm1 h1=>PiS enc b n cap sp fc a e i2 stp (Sort.swp d i2 (i2-1)) nx h tm1 h1 nx') ⟨by simp [t0],by simp [t1],by simp [t2],by simp [t3],by simp [t9],by simp [t10],by simp [Sort.swp],fun c hc hcb=>by rw [hgs,if_neg hcb,hgs,if_neg hcb]; exact hfr c hc hcb,hnx⟩ ?_;intro tm1 h1 hP;have hd1:(Sort.swp d i2 (i2-1)).size=n:=by simp [Sort.swp,hd]
     generalize Sort.swp d i2 (i2-1)=d1 at hE hP hd1;obtain ⟨d,hdd⟩:∃ x:Array α,x=d1:=⟨d1,rfl⟩
     subst hdd;have hd:=hd1;clear hh hfr t0 t1 t2 t3 t9 t10 r1 r2 hd1;obtain ⟨i,hi⟩:∃ x,x=i2:=⟨_,rfl⟩
     subst hi;have hdDs:(if i-a≥2 then Sort.shiftDown (ltC c) (i-1) d else d).size=n:=by
      split
      ·rw [zDp,hd]
      ·exact hd
     generalize hD:(if i-a≥2 then Sort.shiftDown (ltC c) (i-1) d else d)=dD at hE hdDs;obtain ⟨t0,t1,t2,t3,t9,t10,hh,hfr,hnx⟩:=hP;refine Ev.cut (PiS enc b n cap sp fc a e i stp dD nx h) ?_ ?_
     ·refine Ev.seq (Ev.regO ?_);simp only [SB,t1,t9,w6,seval]
      by_cases h2:i-a≥2
      ·rw [if_pos h2] at hD;refine Ev.cond true (by simp <;> omega) (fun _=>?_) (by simp <;> omega);refine Ev.seq (Ev.regO ?_);simp only [SB,t9,w3,seval];refine Ev.loopG (PxJd enc b n cap sp fc a e (ltC c) i stp dD nx h) ?_ (i-1) _ _ _ ⟨i-1,d,rfl,by simp,by omega,hd,hD,by simp [t0],by simp [t1],by simp [t2],by simp [t3],by simp [t9],by simp [t10],hh,hfr,hnx⟩;rintro m tm h' nx' ⟨j,d,hm,t11,hj,hd,hD,t0,t1,t2,t3,t9,t10,hh,hfr,hnx⟩;subst hm;refine Ev.regO ?_;simp only [SB,t11,seval]
       by_cases hj0:m=0
       ·subst hj0;have hD:d=dD:=hD;subst hD;refine ⟨false,by simp,fun _=>?_,fun e=>Bool.noConfusion e⟩
        (try simp only [SB,seval])
        exact ⟨by simp [t0],by simp [t1],by simp [t2],by simp [t3],by simp [t9],by simp [t10],hh,hfr,hnx⟩
       ·obtain ⟨j,rfl⟩:∃ j,m=j+1:=⟨m-1,by omega⟩
        have w3:IntKind.wrap .i64 (((j+1:Nat):Int)-1)=(j:Int):=by rw [wS1 (by omega) (by omega)]; rfl
        have b1:j+1<n:=by omega
        have b2:j<n:=by omega
        have r1:=zk S.hk (hd.symm ▸ b1);have r2:=zk S.hk (hd.symm ▸ b2);refine ⟨true,by simp <;> omega,fun e=>Bool.noConfusion e,fun _=>?_⟩;refine Ev.seq (Ev.block (Ev.seq (Ev.seq (Ev.regD ?_))));simp only [SB,t0,t3,t11,w3,b1,b2,zA hh,r1,r2,seval];refine zAf (f:=fc) (a:=[]) (a2:=[]) (by simp [t3]) ?_;simp only [zP,zJ,zO,zn,tgs,List.nil_append,List.append_nil,seval];refine (S.cmp _ _ _ _).mono ?_;rintro r h1 nx1 ⟨rfl,hn1,hf1⟩;refine ⟨hn1,?_⟩;have hh1:=(hf1 b (by omega)).trans hh
        by_cases hl:c d[j+1]! d[j]!<0
        ·have e1:decide (c d[j+1]! d[j]!<0)=true:=decide_eq_true hl;simp only [SB,e1,seval];refine Ev.cond false (by simp) (by simp) (fun _=>Ev.skip ?_)
         (try simp only [SB,seval])
         have hD:Sort.shiftDown (ltC c) j (Sort.swp d (j+1) j)=dD:=by
          rw [← hD,Sort.shiftDown,if_neg (by rw [show ltC c d[j+1]! d[j]! = true from e1]; simp)]
         refine Ev.regD ?_;simp only [SB,t0,t11,w3,b1,b2,zA hh1,r1,r2,seval];rw [zAP S.hk S.cell hh1 (hd.symm ▸ b1)];rw [zAP (d:=d.setIfInBounds (j+1) d[j]!) S.hk S.cell (by simp) (by simp; omega)]
         (try simp only [SB,seval])
         refine Ev.regO ?_;simp only [SB,t11,w3,seval];refine ⟨j,by omega,j,Sort.swp d (j+1) j,rfl,by simp,by omega,by simp [Sort.swp,hd],hD,by simp [t0],by simp [t1],by simp [t2],by simp [t3],by simp [t9],by simp [t10],by simp [Sort.swp],fun c hc hcb=>?_,by omega⟩;rw [hgs,if_neg hcb,hgs,if_neg hcb,hf1 c (by omega)];exact hfr c hc hcb
        ·have e1:decide (c d[j+1]! d[j]!<0)=false:=decide_eq_false hl;simp only [SB,e1,seval];have hD:d=dD:=by
          rw [← hD,Sort.shiftDown,if_pos (by rw [show ltC c d[j+1]! d[j]! = false from e1]; rfl)]
         subst hD;refine Ev.cond true (by simp) (fun _=>Ev.exit ?_) (by simp);simp only [SB,seval];exact ⟨by simp [t0],by simp [t1],by simp [t2],by simp [t3],by simp [t9],by simp [t10],hh1,fun c hc hcb=>(hf1 c (by omega)).trans (hfr c hc hcb),by omega⟩
      ·rw [if_neg h2] at hD;subst hD;refine Ev.cond false (by simp <;> omega) (by simp <;> omega) (fun _=>Ev.skip ?_)
       (try simp only [SB,seval])
       exact ⟨by simp [t0],by simp [t1],by simp [t2],by simp [t3],by simp [t9],by simp [t10],hh,hfr,hnx⟩
     ·clear hh hfr hnx t0 t1 t2 t3 t9 t10 hD hd;rintro tm h' nx' ⟨t0,t1,t2,t3,t9,t10,hh,hfr,hnx⟩;obtain ⟨d,hdd⟩:∃ x:Array α,x=dD:=⟨dD,rfl⟩
      subst hdd;have hd:=hdDs;have hdUs:(if e-i≥2 then Sort.shiftUp (ltC c) e (i+1) d else d).size=n:=by
       split
       ·rw [zF8 _ _ _ _ _ (Nat.le_refl _),hd]
       ·exact hd
      generalize hU:(if e-i≥2 then Sort.shiftUp (ltC c) e (i+1) d else d)=dU at hE hdUs;refine Ev.seq (Ev.regO ?_);simp only [SB,t2,t9,w7,seval]
      by_cases h2:e-i≥2
      ·rw [if_pos h2] at hU;refine Ev.cond true (by simp <;> omega) (fun _=>?_) (by simp <;> omega);refine Ev.seq (Ev.regO ?_);simp only [SB,t9,w4,seval];refine Ev.mono (K:=fun x tm h' nx'=>zGh (PiS enc b n cap sp fc a e i stp dU nx h) (fun _ _ _ _=>False) x tm h' nx') ?_ ?_
       ·show Ev P orc s _ _ _ _ (zGh (PiS enc b n cap sp fc a e i stp dU nx h) (fun _ _ _ _=>False));refine Ev.loopG (PxJu enc b n cap sp fc a e (ltC c) i stp dU nx h) ?_ (e-(i+1)) _ _ _ ⟨i+1,d,rfl,by simp,by omega,hd,hU,by simp [t0],by simp [t1],by simp [t2],by simp [t3],by simp [t9],by simp [t10],hh,hfr,hnx⟩;rintro m tm h' nx' ⟨j,d,rfl,t12,hj,hd,hU,t0,t1,t2,t3,t9,t10,hh,hfr,hnx⟩;refine Ev.regO ?_;simp only [SB,t2,t12,seval];rw [Sort.shiftUp] at hU
        by_cases hje:j<e
        ·rw [if_pos hje] at hU;have w3:IntKind.wrap .i64 ((j:Int)-1)=((j-1:Nat):Int):=wS1 (by omega) (by omega);have w4:IntKind.wrap .i64 ((j:Int)+1)=((j+1:Nat):Int):=wN1 (by omega);have b1:j<n:=by omega
         have b2:j-1<n:=by omega
         have r1:=zk S.hk (hd.symm ▸ b1);have r2:=zk S.hk (hd.symm ▸ b2);refine ⟨true,by simp <;> omega,fun e=>Bool.noConfusion e,fun _=>?_⟩;refine Ev.seq (Ev.block (Ev.seq (Ev.seq (Ev.regD ?_))));simp only [SB,t0,t3,t12,w3,b1,b2,zA hh,r1,r2,seval];refine zAf (f:=fc) (a:=[]) (a2:=[]) (by simp [t3]) ?_;simp only [zP,zJ,zO,zn,tgs,List.nil_append,List.append_nil,seval];refine (S.cmp _ _ _ _).mono ?_;rintro r h1 nx1 ⟨rfl,hn1,hf1⟩;refine ⟨hn1,?_⟩;have hh1:=(hf1 b (by omega)).trans hh
         by_cases hl:c d[j]! d[j-1]!<0
         ·have e1:decide (c d[j]! d[j-1]!<0)=true:=decide_eq_true hl;simp only [SB,e1,seval];refine Ev.cond false (by simp) (by simp) (fun _=>Ev.skip ?_)
          (try simp only [SB,seval])
          rw [if_neg (by rw [show ltC c d[j]! d[j-1]! = true from e1]; simp)] at hU;refine Ev.regD ?_;simp only [SB,t0,t12,w3,b1,b2,zA hh1,r1,r2,seval];rw [zAP S.hk S.cell hh1 (hd.symm ▸ b1)];rw [zAP (d:=d.setIfInBounds (j) d[j-1]!) S.hk S.cell (by simp) (by simp; omega)]
          (try simp only [SB,seval])
          refine Ev.regO ?_;simp only [SB,t12,w4,seval];refine ⟨e-(j+1),by omega,j+1,Sort.swp d j (j-1),rfl,by simp,by omega,by simp [Sort.swp,hd],hU,by simp [t0],by simp [t1],by simp [t2],by simp [t3],by simp [t9],by simp [t10],by simp [Sort.swp],fun c hc hcb=>?_,by omega⟩;rw [hgs,if_neg hcb,hgs,if_neg hcb,hf1 c (by omega)];exact hfr c hc hcb
         ·have e1:decide (c d[j]! d[j-1]!<0)=false:=decide_eq_false hl;simp only [SB,e1,seval];rw [if_pos (by rw [show ltC c d[j]! d[j-1]! = false from e1]; rfl)] at hU;subst hU;refine Ev.cond true (by simp) (fun _=>Ev.exit ?_) (by simp);simp only [SB,seval];exact ⟨by simp [t0],by simp [t1],by simp [t2],by simp [t3],by simp [t9],by simp [t10],hh1,fun c hc hcb=>(hf1 c (by omega)).trans (hfr c hc hcb),by omega⟩
        ·rw [if_neg hje] at hU;subst hU;refine ⟨false,by simp <;> omega,fun _=>?_,fun e=>Bool.noConfusion e⟩
         (try simp only [SB,seval])
         exact ⟨by simp [t0],by simp [t1],by simp [t2],by simp [t3],by simp [t9],by simp [t10],hh,hfr,hnx⟩
       ·intro x tm h' nx' hx;cases x with
        | normal =>
         simp only [zC] at hx
         (try simp only [SB,seval])
         exact ⟨i,dU,by omega,by omega,hdUs,hE,hx⟩
        | ret=>exact hx.elim
        | exit y=>exact hx.elim
      ·rw [if_neg h2] at hU;subst hU;refine Ev.cond false (by simp <;> omega) (by simp <;> omega) (fun _=>Ev.skip ?_)
       (try simp only [SB,seval])
       exact ⟨i,d,by omega,by omega,hd,hE,by simp [t0],by simp [t1],by simp [t2],by simp [t3],by simp [t9],by simp [t10],hh,hfr,hnx⟩
   ·clear hh hfr hnx t0 t1 t2 t3 t9 t10 hE hd hai hie;rintro tm h' nx' ⟨i,d,hai,hie,hd,hE,t0,t1,t2,t3,t9,t10,hh,hfr,hnx⟩;have w8:IntKind.wrap .i64 ((stp:Int)+1)=((stp+1:Nat):Int):=wN1 (by omega);refine Ev.regO ?_;simp only [SB,t10,w8,seval];exact ⟨q,by omega,q,i,d,rfl,by omega,hai,hie,hd,hE,by simp [t0],by simp [t1],by simp [t2],by simp [t3],by simp [t9],by simp; omega,hh,hfr,hnx⟩
 ·rintro tm h' nx' ⟨hq,hh,hfr,hnx⟩;refine Ev.seq (Ev.regO ?_);simp only [SB,seval];refine Ev.ret ?_;simp only [SB,seval];exact ⟨by rw [hq],hh,hfr,hnx⟩
end
section
variable {P:Program} {orc:Orc} {s:Bool}
variable {α:Type} [Inhabited α] {enc:α→List Value} {k:Nat}
def zHH (k:Nat):CF:={ res:=[.tmp 10,.tmp 11],body:=(.seq (.regO [mC 10 (.int .i64 0),mC 11 (.int .i64 0)]) (.seq (.seq (.regD [mV 12 4,mV 13 0,mV 14 2,pU 15 (.ixA (.slice k) (.t 13) (.t 14)),rU 16 0 (.ld (some k) (.t 15)),mV 17 0,mV 18 1,pU 19 (.ixA (.slice k) (.t 17) (.t 18)),rU 20 0 (.ld (some k) (.t 19)),eU 21 (.callv (.t 12) [(.t 16),(.t 20)]),bC 22 .lss 3 21 (.int .i64 0)]) (.cond (.t 22) (.seq (.regO [mV 23 3,pU 24 (.nilc (.t 23)),lD 25 0 24,bC 26 .add 3 25 (.int .i64 1),pU 27 (.nilc (.t 23)),eN (.st 1 (.t 27) (.t 26))]) (.seq (.regO [mV 28 2,mV 29 1,mV 10 28,mV 11 29]) .ret)) .skip)) (.seq (.regO [mV 30 1,mV 31 2,mV 10 30,mV 11 31]) .ret))) }
def zOn (fo:Nat):CF:={ res:=[.tmp 12],body:=(.seq (.regO [mC 12 (.int .i64 0)]) (.seq (.regO [mV 14 0,mV 15 1,mV 16 2,mV 17 4,mV 18 5,eU 19 (.call fo [(.t 14),(.t 15),(.t 16),(.t 17),(.t 18)]),mV 13 19,pU 20 (.ext (.t 13) 0),pU 21 (.ext (.t 13) 1),mV 1 20,mV 2 21]) (.seq (.regO [mV 23 0,mV 24 2,mV 25 3,mV 26 4,mV 27 5,eU 28 (.call fo [(.t 23),(.t 24),(.t 25),(.t 26),(.t 27)]),mV 22 28,pU 29 (.ext (.t 22) 0),pU 30 (.ext (.t 22) 1),mV 2 29,mV 3 30]) (.seq (.regO [mV 32 0,mV 33 1,mV 34 2,mV 35 4,mV 36 5,eU 37 (.call fo [(.t 32),(.t 33),(.t 34),(.t 35),(.t 36)]),mV 31 37,pU 38 (.ext (.t 31) 0),pU 39 (.ext (.t 31) 1),mV 1 38,mV 2 39]) (.seq (.regO [mV 40 2,mV 12 40]) .ret))))) }
def zKZ (fm:Nat):CF:={ res:=[.tmp 8],body:=(.seq (.regO [mC 8 (.int .i64 0)]) (.seq (.regO [mV 9 0,mV 10 1,bC 11 .sub 3 10 (.int .i64 1),mV 12 1,mV 13 1,bC 14 .add 3 13 (.int .i64 1),mV 15 2,mV 16 3,eU 17 (.call fm [(.t 9),(.t 11),(.t 12),(.t 14),(.t 15),(.t 16)]),mV 8 17]) .ret)) }
def zGH (fa fm:Nat):CF:={ res:=[.tmp 8,.tmp 9],body:=(.seq (.regO [mC 8 (.int .i64 0),mC 9 (.int .i64 0)]) (.seq (.regO [mV 15 2,mV 16 1,bT 17 .sub 3 15 16,mV 10 17]) (.seq (.regO [aU 11 (.new [(.int .i64 0)])]) (.seq (.regO [mV 18 1,mV 19 10,bC 20 .quo 3 19 (.int .i64 4),bC 21 .mul 3 20 (.int .i64 1),bT 22 .add 3 18 21,mV 12 22]) (.seq (.regO [mV 23 1,mV 24 10,bC 25 .quo 3 24 (.int .i64 4),bC 26 .mul 3 25 (.int .i64 2),bT 27 .add 3 23 26,mV 13 27]) (.seq (.regO [mV 28 1,mV 29 10,bC 30 .quo 3 29 (.int .i64 4),bC 31 .mul 3 30 (.int .i64 3),bT 32 .add 3 28 31,mV 14 32]) (.seq (.seq (.regO [mV 33 10,bC 34 .geq 3 33 (.int .i64 8)]) (.cond (.t 34) (.seq (.seq (.regO [mV 35 10,bC 36 .geq 3 35 (.int .i64 50)]) (.cond (.t 36) (.seq (.regO [mV 37 0,mV 38 12,mV 39 3,eU 40 (.call fa [(.t 37),(.t 38),(.t 11),(.t 39)]),mV 12 40]) (.seq (.regO [mV 41 0,mV 42 13,mV 43 3,eU 44 (.call fa [(.t 41),(.t 42),(.t 11),(.t 43)]),mV 13 44]) (.regO [mV 45 0,mV 46 14,mV 47 3,eU 48 (.call fa [(.t 45),(.t 46),(.t 11),(.t 47)]),mV 14 48]))) .skip)) (.regO [mV 49 0,mV 50 12,mV 51 13,mV 52 14,mV 53 3,eU 54 (.call fm [(.t 49),(.t 50),(.t 51),(.t 52),(.t 11),(.t 53)]),mV 13 54])) .skip)) (.seq (.regO [lD 55 0 11]) (.block 0 (.seq (.regO [bC 58 .eql 3 55 (.int .i64 0),mV 57 58]) (.cond (.t 57) (.seq (.regO [mV 59 13,mV 8 59,mC 9 (.int .i64 1)]) .ret) (.seq (.regO [bC 61 .eql 3 55 (.int .i64 12),mV 60 61]) (.cond (.t 60) (.seq (.regO [mV 62 13,mV 8 62,mC 9 (.int .i64 2)]) .ret) (.seq (.regO [mV 56 13,mV 8 56,mC 9 (.int .i64 0)]) .ret)))))))))))))) }
def Ord2K (bs x y sw nx:Nat) (h:Hp):KC':=fun r h' nx'=>∃ p q s':Nat,r = .tuple ⟨[.int .i64 (p:Int),.int .i64 (q:Int)]⟩∧((p=x∧q=y)∨(p=y∧q=x))∧s'≤sw+1∧hget h' bs=some (.cells [.int .i64 (s':Int)] false)∧(∀ c,c<nx→c≠bs→hget h' c=hget h c)∧nx≤nx'
def MedK (bs lo hi sw nx:Nat) (h:Hp):KC':=fun r h' nx'=>∃ p s':Nat,r = .int .i64 (p:Int)∧lo≤p∧p<hi∧s'≤sw+3∧hget h' bs=some (.cells [.int .i64 (s':Int)] false)∧(∀ c,c<nx→c≠bs→hget h' c=hget h c)∧nx≤nx'
theorem zGa {f fc:Nat} {c:α→α→Int} (S:SoAt P orc fc k enc c) (hcf:zD P f=some (zHH k)) (ho:orc f=none) {x y:Nat} {b bs n cap sw:Nat} {sp:Option Nat} {d:Array α} {h:Hp} {nx:Nat}
  (hb:b<nx) (hbs:bs<nx) (hne:bs≠b) (hd:d.size=n) (hn:n<100000) (hh:hget h b=some (.cells (arr enc d) false)) (hs:hget h bs=some (.cells [.int .i64 (sw:Int)] false)) (hsw:sw<2000) (hx:x<n) (hy:y<n) :
  Cv P orc s f [.slice (some ⟨b,0,sp⟩) n cap,.int .i64 (x:Int),.int .i64 (y:Int),.pointer (some ⟨bs,0,none⟩),.func (.func fc) #[] #[]] h nx (Ord2K bs x y sw nx h):=by
 refine Cv.enter ho hcf ?_;unfold zHH bC eN eU lD mC mV pU rU;have r1:=zk S.hk (hd.symm ▸ hx);have r2:=zk S.hk (hd.symm ▸ hy);refine Ev.seq (Ev.regO ?_);simp only [SB,seval];refine Ev.seq (Ev.seq (Ev.regD ?_));simp only [SB,hx,hy,zA hh,r1,r2,seval];refine zAf (f:=fc) (a:=[]) (a2:=[]) (by simp) ?_;simp only [zP,zJ,zO,zn,tgs,List.nil_append,List.append_nil,seval];refine (S.cmp _ _ _ _).mono ?_;rintro r h1 nx1 ⟨rfl,hn1,hf1⟩;refine ⟨hn1,?_⟩;have hs1:=(hf1 bs (by omega)).trans hs
 by_cases hl:c d[y]! d[x]!<0
 ·have e1:decide (c d[y]! d[x]!<0)=true:=decide_eq_true hl;simp only [SB,e1,seval];have w1:IntKind.wrap .i64 ((sw:Int)+1)=((sw+1:Nat):Int):=wN1 (by omega);refine Ev.cond true (by simp) (fun _=>?_) (by simp);refine Ev.seq (Ev.regO ?_);simp only [SB,zA hs1,w1,seval];rw [zKg hs1 rfl (by simp)]
  (try simp only [SB,seval])
  refine Ev.seq (Ev.regO ?_);simp only [SB,seval];refine Ev.ret ?_;simp only [SB,seval];exact ⟨y,x,sw+1,rfl,.inr ⟨rfl,rfl⟩,Nat.le_refl _,by simp,fun c hc hcb=>by rw [hgs,if_neg hcb]; exact hf1 c hc,hn1⟩
 ·have e1:decide (c d[y]! d[x]!<0)=false:=decide_eq_false hl;simp only [SB,e1,seval];refine Ev.cond false (by simp) (by simp) (fun _=>Ev.skip ?_)
  (try simp only [SB,seval])
  refine Ev.seq (Ev.regO ?_);simp only [SB,seval];refine Ev.ret ?_;simp only [SB,seval];exact ⟨x,y,sw,rfl,.inl ⟨rfl,rfl⟩,by omega,hs1,fun c hc _=>hf1 c hc,hn1⟩
theorem med_cv {f fo fc:Nat} {c:α→α→Int} (S:SoAt P orc fc k enc c) (hcf:zD P f=some (zOn fo)) (ho:orc f=none) (hco:zD P fo=some (zHH k)) (hoo:orc fo=none) {x y z lo hi:Nat} {b bs n cap sw:Nat} {sp:Option Nat} {d:Array α} {h:Hp} {nx:Nat}
  (hb:b<nx) (hbs:bs<nx) (hne:bs≠b) (hd:d.size=n) (hn:n<100000) (hh:hget h b=some (.cells (arr enc d) false)) (hs:hget h bs=some (.cells [.int .i64 (sw:Int)] false)) (hsw:sw<1000) (hx:lo≤x∧x<hi) (hy:lo≤y∧y<hi) (hz:lo≤z∧z<hi) (hhi:hi≤n) :
  Cv P orc s f [.slice (some ⟨b,0,sp⟩) n cap,.int .i64 (x:Int),.int .i64 (y:Int),.int .i64 (z:Int),.pointer (some ⟨bs,0,none⟩),.func (.func fc) #[] #[]] h nx (MedK bs lo hi sw nx h):=by
 refine Cv.enter ho hcf ?_;unfold zOn eU mC mV pU;refine Ev.seq (Ev.regO ?_);simp only [SB,seval];refine Ev.seq (Ev.regO ?_);simp only [SB,seval];refine ze ?_;simp only [zP,zJ,zO,zn,tgs,seval];refine (zGa S hco hoo hb hbs hne hd hn hh hs (by omega) (by omega) (by omega)).mono ?_;rintro r h1 nx1 ⟨p1,q1,s1,rfl,hpq1,hle1,hs1,hf1,hn1⟩;have hh1:=(hf1 b hb (fun e=>hne e.symm)).trans hh;simp only [SB,seval];refine Ev.seq (Ev.regO ?_);simp only [SB,seval];refine ze ?_;simp only [zP,zJ,zO,zn,tgs,seval];refine (zGa S hco hoo (by omega) (by omega) hne hd hn hh1 hs1 (by omega) (by omega) (by omega)).mono ?_;rintro r h2 nx2 ⟨p2,q2,s2,rfl,hpq2,hle2,hs2,hf2,hn2⟩;have hh2:=(hf2 b (by omega) (fun e=>hne e.symm)).trans hh1;simp only [SB,seval];refine Ev.seq (Ev.regO ?_);simp only [SB,seval];refine ze ?_;simp only [zP,zJ,zO,zn,tgs,seval];refine (zGa S hco hoo (by omega) (by omega) hne hd hn hh2 hs2 (by omega) (by omega) (by omega)).mono ?_;rintro r h3 nx3 ⟨p3,q3,s3,rfl,hpq3,hle3,hs3,hf3,hn3⟩;simp only [SB,seval];refine Ev.seq (Ev.regO ?_);simp only [SB,seval];refine Ev.ret ?_;simp only [SB,seval];exact ⟨q3,s3,rfl,by omega,by omega,by omega,hs3,fun c hc hcb=>by rw [hf3 c (by omega) hcb,hf2 c (by omega) hcb]; exact hf1 c hc hcb,by omega⟩
theorem zLO {f fm fo fc:Nat} {c:α→α→Int} (S:SoAt P orc fc k enc c) (hcf:zD P f=some (zKZ fm)) (ho:orc f=none) (hcm:zD P fm=some (zOn fo)) (hom:orc fm=none) (hco:zD P fo=some (zHH k)) (hoo:orc fo=none) {x lo hi:Nat} {b bs n cap sw:Nat} {sp:Option Nat} {d:Array α} {h:Hp} {nx:Nat}
  (hb:b<nx) (hbs:bs<nx) (hne:bs≠b) (hd:d.size=n) (hn:n<100000) (hh:hget h b=some (.cells (arr enc d) false)) (hs:hget h bs=some (.cells [.int .i64 (sw:Int)] false)) (hsw:sw<1000) (hx:lo<x∧x+1<hi) (hhi:hi≤n) :
  Cv P orc s f [.slice (some ⟨b,0,sp⟩) n cap,.int .i64 (x:Int),.pointer (some ⟨bs,0,none⟩),.func (.func fc) #[] #[]] h nx (MedK bs lo hi sw nx h):=by
 refine Cv.enter ho hcf ?_;unfold zKZ bC eU mC mV;have w1:IntKind.wrap .i64 ((x:Int)+1)=((x+1:Nat):Int):=wN1 (by omega);have w2:IntKind.wrap .i64 ((x:Int)-1)=((x-1:Nat):Int):=wS1 (by omega) (by omega);refine Ev.seq (Ev.regO ?_);simp only [SB,seval];refine Ev.seq (Ev.regO ?_);simp only [SB,w1,w2,seval];refine ze ?_;simp only [zP,zJ,zO,zn,tgs,seval];refine (med_cv S hcm hom hco hoo hb hbs hne hd hn hh hs hsw (lo:=lo) (hi:=hi) (by omega) (by omega) (by omega) hhi).mono ?_;rintro r h1 nx1 ⟨p,s1,rfl,hp1,hp2,hle1,hs1,hf1,hn1⟩;simp only [SB,seval];refine Ev.ret ?_;simp only [SB,seval];exact ⟨p,s1,rfl,hp1,hp2,hle1,hs1,hf1,hn1⟩
end
section
variable {P:Program} {orc:Orc} {s:Bool}
variable {α:Type} [Inhabited α] {enc:α→List Value} {k:Nat}
def ChK (a e nx:Nat) (h:Hp):KC':=fun r h' nx'=>∃ p g:Nat,r = .tuple ⟨[.int .i64 (p:Int),.int .i64 (g:Int)]⟩∧a≤p∧p<e∧g≤2∧Keep nx h h'∧nx≤nx'
def ChQ1 (b n cap:Nat) (sp:Option Nat) (fc a e l nx:Nat) (h:Hp) (tm:Tm) (h':Hp) (nx':Nat):Prop :=
 ∃ x y z w:Nat,tget tm 0 = .slice (some ⟨b,0,sp⟩) n cap∧tget tm 3 = .func (.func fc) #[] #[]∧tget tm 11 = .pointer (some ⟨nx,0,none⟩)∧tget tm 12 = .int .i64 (x:Int)∧tget tm 13 = .int .i64 (y:Int)∧tget tm 14 = .int .i64 (z:Int)∧(a≤x∧x<e)∧(a≤y∧y<e)∧(a≤z∧z<e)∧w≤9 ∧
  hget h' nx=some (.cells [.int .i64 (w:Int)] false)∧Keep nx h h'∧nx+1≤nx'
def ChQ2 (a e nx:Nat) (h:Hp) (tm:Tm) (h':Hp) (nx':Nat):Prop :=
 ∃ y w:Nat,tget tm 11 = .pointer (some ⟨nx,0,none⟩)∧tget tm 13 = .int .i64 (y:Int)∧(a≤y∧y<e)∧w≤12∧hget h' nx=some (.cells [.int .i64 (w:Int)] false)∧Keep nx h h'∧nx+1≤nx'
theorem zSN {f fa fm fo fc:Nat} {c:α→α→Int} (S:SoAt P orc fc k enc c) (hcf:zD P f=some (zGH fa fm)) (ho:orc f=none) (hca:zD P fa=some (zKZ fm)) (hoa:orc fa=none) (hcm:zD P fm=some (zOn fo)) (hom:orc fm=none) (hco:zD P fo=some (zHH k)) (hoo:orc fo=none)
  {b n cap a e:Nat} {sp:Option Nat} {d:Array α} {h:Hp} {nx:Nat} (hb:b<nx) (hd:d.size=n) (hn:n<100000) (hae:a<e) (hen:e≤n) (hh:hget h b=some (.cells (arr enc d) false)) :
  Cv P orc s f [.slice (some ⟨b,0,sp⟩) n cap,.int .i64 (a:Int),.int .i64 (e:Int),.func (.func fc) #[] #[]] h nx (ChK a e nx h):=by
 refine Cv.enter ho hcf ?_;unfold zGH aU bC bT eU lD mC mV;refine Ev.seq (Ev.regO ?_);simp only [SB,seval];have w1:IntKind.wrap .i64 ((e:Int)-(a:Int))=((e-a:Nat):Int):=wSub (by omega) (by omega);refine Ev.seq (Ev.regO ?_);simp only [SB,w1,seval];refine Ev.seq (Ev.regO ?_);simp only [SB,seval];obtain ⟨l,hl⟩:∃ l,l=e-a:=⟨_,rfl⟩
 rw [← hl];have w2:IntKind.wrap .i64 (Int.tdiv (l:Int) 4)=((l / 4:Nat):Int):=by
  rw [show Int.tdiv (l:Int) 4=((l / 4:Nat):Int) from by rw [Int.tdiv_eq_ediv_of_nonneg (by omega)]; omega];exact zB8 (by omega) (by omega)
 have m1:IntKind.wrap .i64 (((l / 4:Nat):Int)*1)=((l / 4:Nat):Int):=by rw [zB8 (by omega) (by omega)]; omega
 have m2:IntKind.wrap .i64 (((l / 4:Nat):Int)*2)=((l / 4*2:Nat):Int):=by rw [zB8 (by omega) (by omega)]; omega
 have m3:IntKind.wrap .i64 (((l / 4:Nat):Int)*3)=((l / 4*3:Nat):Int):=by rw [zB8 (by omega) (by omega)]; omega
 have n1:IntKind.wrap .i64 ((a:Int)+((l / 4:Nat):Int))=((a+l / 4:Nat):Int):=wN (by omega);have n2:IntKind.wrap .i64 ((a:Int)+((l / 4*2:Nat):Int))=((a+l / 4*2:Nat):Int):=wN (by omega);have n3:IntKind.wrap .i64 ((a:Int)+((l / 4*3:Nat):Int))=((a+l / 4*3:Nat):Int):=wN (by omega);have hq4:=zJF (P:=P) (t:=3) (k:=.i64) (a:=(l:Int)) (show (4:Int)≠0 by decide);rw [w2] at hq4;refine Ev.seq (Ev.regO ?_);simp only [SB,hq4,zCA,m1,n1,seval];refine Ev.seq (Ev.regO ?_);simp only [SB,hq4,zCA,m2,n2,seval];refine Ev.seq (Ev.regO ?_);simp only [SB,hq4,zCA,m3,n3,seval];refine Ev.genH (fun tm1 h1=>tget tm1 0 = .slice (some ⟨b,0,sp⟩) n cap∧tget tm1 3 = .func (.func fc) #[] #[]∧tget tm1 10 = .int .i64 (l:Int)∧tget tm1 11 = .pointer (some ⟨nx,0,none⟩)∧tget tm1 12 = .int .i64 ((a+l / 4:Nat):Int)∧tget tm1 13 = .int .i64 ((a+l / 4*2:Nat):Int)∧tget tm1 14 = .int .i64 ((a+l / 4*3:Nat):Int) ∧
   hget h1 nx=some (.cells [.int .i64 ((0:Nat):Int)] false)∧Keep nx h h1) ⟨by simp,by simp,by simp,by simp,by simp,by simp,by simp,by simp,fun c hc=>by rw [hgs,if_neg (by omega)]⟩ ?_
 rintro tm1 h1 ⟨t0,t3,t10,t11,t12,t13,t14,hs,hk⟩;refine Ev.cut (ChQ2 a e nx h) ?_ ?_
 ·refine Ev.seq (Ev.regO ?_);simp only [SB,t10,seval]
  by_cases h8:8≤l
  ·refine Ev.cond true (by simp <;> omega) (fun _=>?_) (by simp <;> omega);refine Ev.cut (ChQ1 b n cap sp fc a e l nx h) ?_ ?_
   ·refine Ev.seq (Ev.regO ?_);simp only [SB,t10,seval]
    by_cases h50:50≤l
    ·refine Ev.cond true (by simp <;> omega) (fun _=>?_) (by simp <;> omega);have hh1:=(hk b hb).trans hh;refine Ev.seq (Ev.regO ?_);simp only [SB,t0,t3,t12,seval];refine ze ?_;simp only [zP,zJ,zO,zn,tgs,t11,seval];refine (zLO S hca hoa hcm hom hco hoo (lo:=a) (hi:=e) (by omega) (by omega) (by omega) hd hn hh1 hs (by omega) (by omega) hen).mono ?_;rintro r h2 nx2 ⟨p2,s2,rfl,hp2,hq2,hle2,hs2,hf2,hn2⟩;have hh2:=(hf2 b (by omega) (by omega)).trans hh1;simp only [SB,seval];refine Ev.seq (Ev.regO ?_);simp only [SB,t0,t3,t13,seval];refine ze ?_;simp only [zP,zJ,zO,zn,tgs,t11,seval];refine (zLO S hca hoa hcm hom hco hoo (lo:=a) (hi:=e) (by omega) (by omega) (by omega) hd hn hh2 hs2 (by omega) (by omega) hen).mono ?_;rintro r h3 nx3 ⟨p3,s3,rfl,hp3,hq3,hle3,hs3,hf3,hn3⟩;have hh3:=(hf3 b (by omega) (by omega)).trans hh2;simp only [SB,seval];refine Ev.regO ?_;simp only [SB,t0,t3,t14,seval];refine ze ?_;simp only [zP,zJ,zO,zn,tgs,t11,seval];refine (zLO S hca hoa hcm hom hco hoo (lo:=a) (hi:=e) (by omega) (by omega) (by omega) hd hn hh3 hs3 (by omega) (by omega) hen).mono ?_;rintro r h4 nx4 ⟨p4,s4,rfl,hp4,hq4,hle4,hs4,hf4,hn4⟩;simp only [SB,seval];exact ⟨p2,p3,p4,s4,by simp [t0],by simp [t3],by simp [t11],by simp,by simp,by simp,⟨hp2,hq2⟩,⟨hp3,hq3⟩,⟨hp4,hq4⟩,by omega,hs4,fun c hc=>by rw [hf4 c (by omega) (by omega),hf3 c (by omega) (by omega),hf2 c (by omega) (by omega)]; exact hk c hc,by omega⟩
    ·refine Ev.cond false (by simp <;> omega) (by simp <;> omega) (fun _=>Ev.skip ?_)
     (try simp only [SB,seval])
     exact ⟨a+l / 4,a+l / 4*2,a+l / 4*3,0,by simp [t0],by simp [t3],by simp [t11],by simp only [tgs,t12,seval],by simp only [tgs,t13,seval],by simp only [tgs,t14,seval],by omega,by omega,by omega,by omega,hs,hk,by omega⟩
   ·rintro tm2 h2 nx2 ⟨x,y,z,w,t0,t3,t11,t12,t13,t14,hx,hy,hz,hw,hs,hk,hnx⟩;refine Ev.regO ?_;simp only [SB,t0,t3,t12,t13,t14,seval];refine ze ?_;simp only [zP,zJ,zO,zn,tgs,t11,seval];refine (med_cv S hcm hom hco hoo (lo:=a) (hi:=e) (by omega) (by omega) (by omega) hd hn ((hk b hb).trans hh) hs (by omega) hx hy hz hen).mono ?_;rintro r h3 nx3 ⟨p3,s3,rfl,hp3,hq3,hle3,hs3,hf3,hn3⟩;simp only [SB,seval];exact ⟨p3,s3,by simp [t11],by simp,⟨hp3,hq3⟩,by omega,hs3,fun c hc=>by rw [hf3 c (by omega) (by omega)]; exact hk c hc,by omega⟩
  ·refine Ev.cond false (by simp <;> omega) (by simp <;> omega) (fun _=>Ev.skip ?_)
   (try simp only [SB,seval])
   exact ⟨a+l / 4*2,0,by simp [t11],by simp only [tgs,t13,seval],by omega,by omega,hs,hk,by omega⟩
 ·rintro tm2 h2 nx2 ⟨y,w,t11,t13,hy,hw,hs,hk,hnx⟩;refine Ev.seq (Ev.regO ?_);simp only [SB,t11,zA hs,seval];refine Ev.block (Ev.seq (Ev.regO ?_));simp only [SB,seval]
  by_cases w0:w=0
  ·subst w0;refine Ev.cond true (by simp) (fun _=>?_) (by simp);refine Ev.seq (Ev.regO ?_);simp only [SB,t13,seval];refine Ev.ret ?_;simp only [SB,seval];exact ⟨y,1,rfl,hy.1,hy.2,by omega,hk,by omega⟩
  ·refine Ev.cond false (by simp <;> omega) (by simp <;> omega) (fun _=>?_);refine Ev.seq (Ev.regO ?_);simp only [SB,seval]
   by_cases w12:w=12
   ·subst w12;refine Ev.cond true (by simp) (fun _=>?_) (by simp);refine Ev.seq (Ev.regO ?_);simp only [SB,t13,seval];refine Ev.ret ?_;simp only [SB,seval];exact ⟨y,2,rfl,hy.1,hy.2,by omega,hk,by omega⟩
   ·refine Ev.cond false (by simp <;> omega) (by simp <;> omega) (fun _=>?_);refine Ev.seq (Ev.regO ?_);simp only [SB,t13,seval];refine Ev.ret ?_;simp only [SB,seval];exact ⟨y,0,rfl,hy.1,hy.2,by omega,hk,by omega⟩
end
section
variable {P:Program} {orc:Orc} {s:Bool}
theorem zJK {n:Nat} (h:n<1000000):IntKind.wrap .u64 (n:Int)=(n:Int):=by
 show IntKind.wrap .u64 (n:Int)=_;unfold IntKind.wrap;simp [IntKind.bits,IntKind.signed];omega
theorem bin_shl1 {t:TypeId}:∀ (L:Nat),L≤7→bin P .shl t (.int .u64 1) (.int .i64 (L:Int)) = .ok (.int .u64 ((2 ^ L:Nat):Int))
 | 0,_=>rfl | 1,_=>rfl | 2,_=>rfl | 3,_=>rfl | 4,_=>rfl | 5,_=>rfl | 6,_=>rfl | 7,_=>rfl
 | n+8,h=>absurd h (by omega)
theorem zIL (t:TypeId) (a b:Int):∃ r,bin P .xor t (.int .u64 a) (.int .u64 b) = .ok (.int .u64 r):=⟨_,rfl⟩
theorem zSj (t:TypeId) (a:Int) (M:Nat) (hM:M<1000000):∃ r:Nat,bin P .and t (.int .u64 a) (.int .u64 (M:Int)) = .ok (.int .u64 (r:Int))∧r≤M:=by
 have h1:(BitVec.ofInt 64 a &&& BitVec.ofInt 64 (M:Int)).toNat≤M:=by
  rw [BitVec.toNat_and];refine Nat.le_trans Nat.and_le_right ?_;rw [BitVec.toNat_ofInt];omega
 refine ⟨(BitVec.ofInt 64 a &&& BitVec.ofInt 64 (M:Int)).toNat,?_,h1⟩;rw [zF0 _ _ _ _ _ rfl];show R.ok (Value.int .u64 (IntKind.wrap .u64 ((BitVec.ofInt 64 a &&& BitVec.ofInt 64 (M:Int)).toNat:Int)))=_;rw [zJK (by omega)]
def LenOk (P:Program) (orc:Orc) (fl:FuncId):Prop:=∀ (s:Bool) (n:Nat),8≤n→n≤120→∀ h nx,Cv P orc s fl [.int .u64 (n:Int)] h nx (fun v h' nx'=>∃ L:Nat,v = .int .i64 (L:Int)∧L≤7∧2 ^ L≤2*n∧h'=h∧nx'=nx)
def zHI (fl:Nat):CF:={ res:=[.tmp 2],body:=(.seq (.regO [mC 2 (.int .u64 0)]) (.seq (.regO [mV 3 0,pU 4 (.conv (.int .u64) (.t 3)),eU 5 (.call fl [(.t 4)]),pU 6 (.bin .shl 236 (.v (.int .u64 1)) (.t 5)),mV 2 6]) .ret)) }
def zSP:CF:={ res:=[.tmp 2],body:=(.seq (.regO [mC 2 (.int .u64 0)]) (.seq (.regD [mV 3 0,pU 4 (.nilc (.t 3)),lD 5 0 4,mV 6 0,pU 7 (.nilc (.t 6)),lD 8 0 7,bC 9 .shl 439 8 (.int .u64 13),bT 10 .xor 439 5 9,pU 11 (.nilc (.t 3)),eN (.st 1 (.t 11) (.t 10))]) (.seq (.regD [mV 12 0,pU 13 (.nilc (.t 12)),lD 14 0 13,mV 15 0,pU 16 (.nilc (.t 15)),lD 17 0 16,bC 18 .shr 439 17 (.int .u64 7),bT 19 .xor 439 14 18,pU 20 (.nilc (.t 12)),eN (.st 1 (.t 20) (.t 19))]) (.seq (.regD [mV 21 0,pU 22 (.nilc (.t 21)),lD 23 0 22,mV 24 0,pU 25 (.nilc (.t 24)),lD 26 0 25,bC 27 .shl 439 26 (.int .u64 17),bT 28 .xor 439 23 27,pU 29 (.nilc (.t 21)),eN (.st 1 (.t 29) (.t 28))]) (.seq (.regO [mV 30 0,pU 31 (.nilc (.t 30)),lD 32 0 31,mV 2 32]) .ret))))) }
def Next2K (n nx:Nat) (h:Hp):KC':=fun v h' nx'=>∃ M:Nat,v = .int .u64 (M:Int)∧0<M∧M≤2*n∧h'=h∧nx'=nx
def XorK (b nx:Nat) (h:Hp):KC':=fun v h' nx'=>∃ y:Int,v = .int .u64 y∧hget h' b=some (.cells [.int .u64 y] false)∧(∀ c,c≠b→hget h' c=hget h c)∧nx'=nx
theorem next2_cv {f fl:Nat} (hcf:zD P f=some (zHI fl)) (ho:orc f=none) (hl:LenOk P orc fl) {n:Nat} (h8:8≤n) (hn:n≤120) {h:Hp} {nx:Nat} :
  Cv P orc s f [.int .i64 (n:Int)] h nx (Next2K n nx h):=by
 refine Cv.enter ho hcf ?_;unfold zHI eU mC mV pU;have w1:IntKind.wrap .u64 (n:Int)=(n:Int):=zJK (by omega);refine Ev.seq (Ev.regO ?_);simp only [SB,seval];refine Ev.seq (Ev.regO ?_);simp only [SB,w1,seval];refine ze ?_;simp only [zP,zJ,zO,zn,tgs,seval];refine (hl _ n h8 hn _ _).mono ?_;rintro r h1 nx1 ⟨L,rfl,hL,hLn,rfl,rfl⟩;simp only [SB,bin_shl1 L hL,seval];refine Ev.ret ?_;simp only [SB,seval];exact ⟨2 ^ L,rfl,Nat.pos_of_ne_zero (by simp),hLn,rfl,rfl⟩
theorem xor_cv {f:Nat} (hcf:zD P f=some zSP) (ho:orc f=none) {b:Nat} {x:Int} {h:Hp} {nx:Nat} (hb:b<nx) (hh:hget h b=some (.cells [.int .u64 x] false)) :
  Cv P orc s f [.pointer (some ⟨b,0,none⟩)] h nx (XorK b nx h):=by
 refine Cv.enter ho hcf ?_;unfold zSP bC bT eN lD mC mV pU;refine Ev.seq (Ev.regO ?_);simp only [SB,seval];obtain ⟨y1,e1⟩:∃ r,bin P .shl 439 (.int .u64 x) (.int .u64 13) = .ok (.int .u64 r):=⟨_,rfl⟩
 obtain ⟨z1,f1⟩:=zIL (P:=P) 439 x y1;refine Ev.seq (Ev.regD ?_);simp only [SB,zA hh,e1,f1,seval];rw [zKg hh rfl (by simp)]
 (try simp only [SB,seval])
 refine Ev.genH (fun tm1 h1=>tget tm1 0 = .pointer (some ⟨b,0,none⟩)∧hget h1 b=some (.cells [.int .u64 z1] false)∧∀ c,c≠b→hget h1 c=hget h c) ⟨by simp,by simp,fun c hc=>by rw [hgs,if_neg hc]⟩ ?_;rintro tm1 h1 ⟨t0,hh1,hf1⟩;obtain ⟨y2,e2⟩:∃ r,bin P .shr 439 (.int .u64 z1) (.int .u64 7) = .ok (.int .u64 r):=⟨_,rfl⟩
 obtain ⟨z2,f2⟩:=zIL (P:=P) 439 z1 y2;refine Ev.seq (Ev.regD ?_);simp only [SB,t0,zA hh1,e2,f2,seval];rw [zKg hh1 rfl (by simp)]
 (try simp only [SB,seval])
 refine Ev.genH (fun tm2 h2=>tget tm2 0 = .pointer (some ⟨b,0,none⟩)∧hget h2 b=some (.cells [.int .u64 z2] false)∧∀ c,c≠b→hget h2 c=hget h c) ⟨by simp [t0],by simp,fun c hc=>by rw [hgs,if_neg hc]; exact hf1 c hc⟩ ?_;rintro tm2 h2 ⟨t0,hh2,hf2⟩;obtain ⟨y3,e3⟩:∃ r,bin P .shl 439 (.int .u64 z2) (.int .u64 17) = .ok (.int .u64 r):=⟨_,rfl⟩
 obtain ⟨z3,f3⟩:=zIL (P:=P) 439 z2 y3;refine Ev.seq (Ev.regD ?_);simp only [SB,t0,zA hh2,e3,f3,seval];rw [zKg hh2 rfl (by simp)]
 (try simp only [SB,seval])
 refine Ev.genH (fun tm3 h3=>tget tm3 0 = .pointer (some ⟨b,0,none⟩)∧hget h3 b=some (.cells [.int .u64 z3] false)∧∀ c,c≠b→hget h3 c=hget h c) ⟨by simp [t0],by simp,fun c hc=>by rw [hgs,if_neg hc]; exact hf2 c hc⟩ ?_;rintro tm3 h3 ⟨t0,hh3,hf3⟩;refine Ev.seq (Ev.regO ?_);simp only [SB,t0,zA hh3,seval];refine Ev.ret ?_;simp only [SB,seval];exact ⟨z3,rfl,hh3,hf3,rfl⟩
variable {α:Type} [Inhabited α] {enc:α→List Value} {k:Nat}
def zIz (fp fx k:Nat):CF:={ res:=[],body:=(.seq (.regO [mV 13 2,mV 14 1,bT 15 .sub 3 13 14,mV 8 15]) (.seq (.regO [mV 16 8,bC 17 .geq 3 16 (.int .i64 8)]) (.cond (.t 17) (.seq (.regO [mV 18 8,pU 19 (.conv (.int .u64) (.t 18)),aU 9 (.new [(.int .u64 0)]),eN (.st 1 (.t 9) (.t 19))]) (.seq (.regO [mV 20 8,eU 21 (.call fp [(.t 20)]),mV 10 21]) (.seq (.regO [mV 22 1,mV 23 8,bC 24 .quo 3 23 (.int .i64 4),bC 25 .mul 3 24 (.int .i64 2),bT 26 .add 3 22 25,bC 27 .sub 3 26 (.int .i64 1),mV 11 27]) (.block 0 (.loop (.seq (.seq (.regO [mV 28 11,mV 29 1,mV 30 8,bC 31 .quo 3 30 (.int .i64 4),bC 32 .mul 3 31 (.int .i64 2),bT 33 .add 3 29 32,bC 34 .add 3 33 (.int .i64 1),bT 35 .leq 3 28 34]) (.cond (.t 35) .skip (.exit 0))) (.seq (.block 1 (.seq (.regO [eU 38 (.call fx [(.t 9)]),mV 39 10,bC 40 .sub 236 39 (.int .u64 1),bT 41 .and 236 38 40,pU 42 (.conv (.int .i64) (.t 41)),mV 12 42]) (.seq (.seq (.regO [mV 43 12,mV 44 8,bT 45 .geq 3 43 44]) (.cond (.t 45) (.regO [mV 46 12,mV 47 8,bT 48 .sub 3 46 47,mV 12 48]) .skip)) (.regD [mV 49 0,mV 50 11,mV 55 0,mV 56 1,mV 57 12,bT 58 .add 3 56 57,pU 59 (.ixA (.slice k) (.t 55) (.t 58)),rU 60 0 (.ld (some k) (.t 59)),mV 61 0,mV 62 11,pU 63 (.ixA (.slice k) (.t 61) (.t 62)),rU 64 0 (.ld (some k) (.t 63)),pU 65 (.ixA (.slice k) (.t 49) (.t 50)),eN (.st k (.t 65) (.t 60)),⟨none,(some 51),1,.pur (.mv (.t 0))⟩,⟨none,(some 52),1,.pur (.mv (.t 1))⟩,⟨none,(some 53),1,.pur (.mv (.t 12))⟩,⟨none,(some 54),1,.pur (.bin .add 3 (.t 52) (.t 53))⟩,pU 66 (.ixA (.slice k) (.t 51) (.t 54)),eN (.st k (.t 66) (.t 64))])))) (.regO [mV 36 11,bC 37 .add 3 36 (.int .i64 1),mV 11 37])))))))) .skip))) }
def BpS {α:Type} [Inhabited α] (enc:α→List Value) (b n cap:Nat) (sp:Option Nat) (a e l M idx:Nat) (d0:Array α) (nx:Nat) (h:Hp) (tm:Tm) (h':Hp) (nx':Nat):Prop :=
 ∃ (d:Array α) (y:Int),tget tm 0 = .slice (some ⟨b,0,sp⟩) n cap∧tget tm 1 = .int .i64 (a:Int)∧tget tm 8 = .int .i64 (l:Int)∧tget tm 9 = .pointer (some ⟨nx,0,none⟩)∧tget tm 10 = .int .u64 (M:Int)∧tget tm 11 = .int .i64 (idx:Int) ∧
  d.size=n∧Sort.PermIn a e d0 d∧hget h' b=some (.cells (arr enc d) false)∧hget h' nx=some (.cells [.int .u64 y] false)∧(∀ c,c<nx→c≠b→hget h' c=hget h c)∧nx+1≤nx'
def BpJ {α:Type} [Inhabited α] (enc:α→List Value) (b n cap:Nat) (sp:Option Nat) (a e l M:Nat) (d0:Array α) (nx:Nat) (h:Hp) (m:Nat) (tm:Tm) (h':Hp) (nx':Nat):Prop :=
 ∃ idx,m=a+l / 4*2+2-idx∧a≤idx∧idx≤a+l / 4*2+2∧BpS enc b n cap sp a e l M idx d0 nx h tm h' nx'
def BpQ {α:Type} [Inhabited α] (enc:α→List Value) (b n cap:Nat) (sp:Option Nat) (a e l M idx:Nat) (d0:Array α) (nx:Nat) (h:Hp) (tm:Tm) (h':Hp) (nx':Nat):Prop :=
 ∃ o:Nat,o<l∧tget tm 12 = .int .i64 (o:Int)∧BpS enc b n cap sp a e l M idx d0 nx h tm h' nx'
def BreakK {α:Type} [Inhabited α] (enc:α→List Value) (b n a e:Nat) (d0:Array α) (nx:Nat) (h:Hp):KC':=fun _ h' nx'=>∃ d:Array α,d.size=n∧Sort.PermIn a e d0 d∧hget h' b=some (.cells (arr enc d) false)∧(∀ c,c<nx→c≠b→hget h' c=hget h c)∧nx≤nx'
theorem bp_cv {f fp fx fl fc:Nat} {c:α→α→Int} (S:SoAt P orc fc k enc c) (hcf:zD P f=some (zIz fp fx k)) (ho:orc f=none) (hcp:zD P fp=some (zHI fl)) (hop:orc fp=none) (hl:LenOk P orc fl) (hcx:zD P fx=some zSP) (hox:orc fx=none)
  {b n cap a e:Nat} {sp:Option Nat} {d:Array α} {h:Hp} {nx:Nat} {v:Value} (hb:b<nx) (hd:d.size=n) (hn:n≤120) (h8:a+8≤e) (hen:e≤n) (hh:hget h b=some (.cells (arr enc d) false)) :
  Cv P orc s f [.slice (some ⟨b,0,sp⟩) n cap,.int .i64 (a:Int),.int .i64 (e:Int),v] h nx (BreakK enc b n a e d nx h):=by
 refine Cv.enter ho hcf ?_;unfold zIz aU bC bT eN eU mV pU rU;have w1:IntKind.wrap .i64 ((e:Int)-(a:Int))=((e-a:Nat):Int):=wSub (by omega) (by omega);obtain ⟨l,hle⟩:∃ l,l=e-a:=⟨_,rfl⟩
 rw [← hle] at w1;have w0:IntKind.wrap .u64 (l:Int)=(l:Int):=zJK (by omega);refine Ev.seq (Ev.regO ?_);simp only [SB,w1,seval];refine Ev.seq (Ev.regO ?_);simp only [SB,seval];refine Ev.cond true (by simp <;> omega) (fun _=>?_) (by simp <;> omega);refine Ev.seq (Ev.regO ?_);simp only [SB,w0,seval];rw [zKg (cs:=[.int .u64 0]) (by simp) rfl (by simp)]
 (try simp only [SB,seval])
 refine Ev.genH (fun tm1 h1=>tget tm1 0 = .slice (some ⟨b,0,sp⟩) n cap∧tget tm1 1 = .int .i64 (a:Int)∧tget tm1 8 = .int .i64 (l:Int)∧tget tm1 9 = .pointer (some ⟨nx,0,none⟩)∧hget h1 nx=some (.cells [.int .u64 (l:Int)] false)∧Keep nx h h1) ⟨by simp,by simp,by simp,by simp,by simp,fun c hc=>by rw [hgs,if_neg (by omega),hgs,if_neg (by omega)]⟩ ?_;rintro tm1 h1 ⟨t0,t1,t8,t9,hs,hk⟩;refine Ev.seq (Ev.regO ?_);simp only [SB,t8,seval];refine ze ?_;simp only [zP,zJ,zO,zn,tgs,seval];refine (next2_cv hcp hop hl (n:=l) (by omega) (by omega)).mono ?_;rintro r h2 nx2 ⟨M,rfl,hM0,hM,rfl,rfl⟩;simp only [SB,seval];have w2:IntKind.wrap .i64 (Int.tdiv (l:Int) 4)=((l / 4:Nat):Int):=by
  rw [show Int.tdiv (l:Int) 4=((l / 4:Nat):Int) from by rw [Int.tdiv_eq_ediv_of_nonneg (by omega)]; omega];exact zB8 (by omega) (by omega)
 have hq4:=zJF (P:=P) (t:=3) (k:=.i64) (a:=(l:Int)) (show (4:Int)≠0 by decide);rw [w2] at hq4;have m2:IntKind.wrap .i64 (((l / 4:Nat):Int)*2)=((l / 4*2:Nat):Int):=by rw [zB8 (by omega) (by omega)]; omega
 have n2:IntKind.wrap .i64 ((a:Int)+((l / 4*2:Nat):Int))=((a+l / 4*2:Nat):Int):=wN (by omega);have n3:IntKind.wrap .i64 (((a+l / 4*2:Nat):Int)-1)=((a+l / 4*2-1:Nat):Int):=wS1 (by omega) (by omega);have n4:IntKind.wrap .i64 (((a+l / 4*2:Nat):Int)+1)=((a+l / 4*2+1:Nat):Int):=wN1 (by omega);refine Ev.seq (Ev.regO ?_);simp only [SB,t1,t8,hq4,zCA,m2,n2,n3,seval];refine Ev.loopG (BpJ enc b n cap sp a e l M d nx h) ?_ (a+l / 4*2+2-(a+l / 4*2-1)) _ _ _ ⟨a+l / 4*2-1,rfl,by omega,by omega,d,_,by simp [t0],by simp [t1],by simp [t8],by simp [t9],by simp,by simp only [tgs,seval],hd,Sort.permIn_refl _ _ _,(hk b hb).trans hh,hs,fun c hc _=>hk c hc,Nat.le_refl _⟩;rintro m tm h' nx' ⟨idx,rfl,hi1,hi2,d',y,t0,t1,t8,t9,t10,t11,hd',hp,hh',hs,hfr,hnx⟩;refine Ev.regO ?_;simp only [SB,t1,t8,t11,hq4,zCA,m2,n2,n4,seval]
 by_cases hin:idx≤a+l / 4*2+1
 ·refine ⟨true,by simp <;> omega,fun e=>Bool.noConfusion e,fun _=>?_⟩;have w5:IntKind.wrap .i64 ((idx:Int)+1)=((idx+1:Nat):Int):=wN1 (by omega);have wM:IntKind.wrap .u64 ((M:Int)-1)=((M-1:Nat):Int):=by
   rw [show (M:Int)-1=((M-1:Nat):Int) by omega];exact zJK (by omega)
  refine Ev.cut (BpS enc b n cap sp a e l M idx d nx h) ?_ ?_
  ·refine Ev.block (Ev.seq (Ev.regO ?_));refine ze ?_;simp only [zP,zJ,zO,zn,tgs,t9,seval];refine (xor_cv hcx hox (by omega) hs).mono ?_;rintro r h3 nx3 ⟨y3,rfl,hs3,hf3,rfl⟩;obtain ⟨ra,hra,hrM⟩:=zSj (P:=P) 236 y3 (M-1) (by omega);have w6:IntKind.wrap .i64 (ra:Int)=(ra:Int):=zB8 (by omega) (by omega);simp only [SB,t10,wM,hra,w6,seval];have hh3:=(hf3 b (by omega)).trans hh';refine Ev.cut (BpQ enc b n cap sp a e l M idx d nx h) ?_ ?_
   ·refine Ev.seq (Ev.regO ?_);simp only [SB,t8,seval]
    by_cases hge:l≤ra
    ·have w7:IntKind.wrap .i64 ((ra:Int)-(l:Int))=((ra-l:Nat):Int):=wSub (by omega) (by omega);refine Ev.cond true (by simp <;> omega) (fun _=>?_) (by simp <;> omega);refine Ev.regO ?_;simp only [SB,t8,w7,seval];exact ⟨ra-l,by omega,by simp only [tgs,seval],d',y3,by simp [t0],by simp [t1],by simp [t8],by simp [t9],by simp [t10],by simp [t11],hd',hp,hh3,hs3,fun c hc hcb=>(hf3 c (by omega)).trans (hfr c hc hcb),by omega⟩
    ·refine Ev.cond false (by simp <;> omega) (by simp <;> omega) (fun _=>Ev.skip ?_)
     (try simp only [SB,seval])
     exact ⟨ra,by omega,by simp only [tgs,seval],d',y3,by simp [t0],by simp [t1],by simp [t8],by simp [t9],by simp [t10],by simp [t11],hd',hp,hh3,hs3,fun c hc hcb=>(hf3 c (by omega)).trans (hfr c hc hcb),by omega⟩
   ·clear hra hs hh' hp hd' t0 t1 t8 t9 t10 t11 hfr hnx hh3 hs3 hf3;rintro tm4 h4 nx4 ⟨o,hol,t12,d',y4,t0,t1,t8,t9,t10,t11,hd',hp,hh4,hs,hfr,hnx⟩;have w8:IntKind.wrap .i64 ((a:Int)+(o:Int))=((a+o:Nat):Int):=wN (by omega);have b1:idx<n:=by omega
    have b2:a+o<n:=by omega
    have r1:=zk S.hk (hd'.symm ▸ b1);have r2:=zk S.hk (hd'.symm ▸ b2);refine Ev.regD ?_;simp only [SB,t0,t1,t11,t12,w8,b1,b2,zA hh4,r1,r2,seval];rw [zAP S.hk S.cell hh4 (hd'.symm ▸ b1)];rw [zAP (d:=d'.setIfInBounds idx d'[a+o]!) S.hk S.cell (by simp) (by simp; omega)]
    (try simp only [SB,seval])
    refine ⟨Sort.swp d' idx (a+o),y4,by simp [t0],by simp [t1],by simp [t8],by simp [t9],by simp [t10],by simp [t11],by simp [Sort.swp,hd'],Sort.permIn_trans _ _ _ _ _ hp (Sort.swp_permIn _ _ _ _ _ (by omega) (by omega) (by omega) (by omega) (by omega)),by simp [Sort.swp],by rw [hgs,if_neg (by omega),hgs,if_neg (by omega)]; exact hs,fun c hc hcb=>?_,hnx⟩;rw [hgs,if_neg hcb,hgs,if_neg hcb];exact hfr c hc hcb
  ·rintro tm5 h5 nx5 ⟨d',y5,t0,t1,t8,t9,t10,t11,hd',hp,hh5,hs,hfr,hnx⟩;refine Ev.regO ?_;simp only [SB,t11,w5,seval];exact ⟨a+l / 4*2+2-(idx+1),by omega,idx+1,rfl,by omega,by omega,d',y5,by simp [t0],by simp [t1],by simp [t8],by simp [t9],by simp [t10],by simp,hd',hp,hh5,hs,hfr,hnx⟩
 ·refine ⟨false,by simp <;> omega,fun _=>?_,fun e=>Bool.noConfusion e⟩;exact ⟨d',hd',hp,hh',hfr,by omega⟩
end
section
variable {P:Program} {orc:Orc} {s:Bool}
variable {α:Type} [Inhabited α] {enc:α→List Value} {k:Nat}
def zSQ (fq fi fh fb fc0 fr fp fe ft k:Nat):CF:={ res:=[],body:=(.seq (.regO [mC 10 (.bool true)]) (.seq (.regO [mC 11 (.bool true)]) (.block 0 (.loop (.block 1 (.seq (.regO [mV 21 2,mV 22 1,bT 23 .sub 3 21 22,mV 12 23]) (.seq (.seq (.regO [mV 24 12,bC 25 .leq 3 24 (.int .i64 12)]) (.cond (.t 25) (.seq (.regO [mV 26 0,mV 27 1,mV 28 2,mV 29 4,eU 30 (.call fi [(.t 26),(.t 27),(.t 28),(.t 29)])]) .ret) .skip)) (.seq (.seq (.regO [mV 31 3,bC 32 .eql 3 31 (.int .i64 0)]) (.cond (.t 32) (.seq (.regO [mV 33 0,mV 34 1,mV 35 2,mV 36 4,eU 37 (.call fh [(.t 33),(.t 34),(.t 35),(.t 36)])]) .ret) .skip)) (.seq (.seq (.regO [mV 38 10,pU 39 (.un .not (.t 38))]) (.cond (.t 39) (.seq (.regO [mV 40 0,mV 41 1,mV 42 2,mV 43 4,eU 44 (.call fb [(.t 40),(.t 41),(.t 42),(.t 43)])]) (.regO [mV 45 3,bC 46 .sub 3 45 (.int .i64 1),mV 3 46])) .skip)) (.seq (.regO [mV 48 0,mV 49 1,mV 50 2,mV 51 4,eU 52 (.call fc0 [(.t 48),(.t 49),(.t 50),(.t 51)]),mV 47 52,pU 53 (.ext (.t 47) 0),pU 54 (.ext (.t 47) 1),mV 13 53,mV 14 54]) (.seq (.seq (.regO [mV 55 14,bC 56 .eql 393 55 (.int .i64 2)]) (.cond (.t 56) (.seq (.regO [mV 57 0,mV 58 1,mV 59 2,mV 60 4,eU 61 (.call fr [(.t 57),(.t 58),(.t 59),(.t 60)])]) (.seq (.regO [mV 62 2,bC 63 .sub 3 62 (.int .i64 1),mV 64 13,mV 65 1,bT 66 .sub 3 64 65,bT 67 .sub 3 63 66,mV 13 67]) (.regO [mC 14 (.int .i64 1)]))) .skip)) (.seq (.seq (.regO [mV 68 10,mV 69 68,⟨(some (69,true)),(some 70),0,.pur (.mv (.t 11))⟩,pU 71 (.pick (.t 69) (.t 70) (.v (.bool false))),mV 72 71,⟨(some (72,true)),(some 73),0,.pur (.mv (.t 14))⟩,⟨(some (72,true)),(some 74),0,.pur (.bin .eql 393 (.t 73) (.v (.int .i64 1)))⟩,pU 75 (.pick (.t 72) (.t 74) (.v (.bool false)))]) (.cond (.t 75) (.seq (.regO [mV 76 0,mV 77 1,mV 78 2,mV 79 4,eU 80 (.call fp [(.t 76),(.t 77),(.t 78),(.t 79)])]) (.cond (.t 80) .ret .skip)) .skip)) (.seq (.seq (.regD [mV 81 1,bC 82 .gtr 3 81 (.int .i64 0),mV 83 82,⟨(some (83,true)),(some 84),0,.pur (.mv (.t 4))⟩,⟨(some (83,true)),(some 85),0,.pur (.mv (.t 0))⟩,⟨(some (83,true)),(some 86),0,.pur (.mv (.t 1))⟩,⟨(some (83,true)),(some 87),0,.pur (.bin .sub 3 (.t 86) (.v (.int .i64 1)))⟩,⟨(some (83,true)),(some 88),0,.pur (.ixA (.slice k) (.t 85) (.t 87))⟩,⟨(some (83,true)),(some 89),0,.red (.ld (some k) (.t 88))⟩,⟨(some (83,true)),(some 90),0,.pur (.mv (.t 0))⟩,⟨(some (83,true)),(some 91),0,.pur (.mv (.t 13))⟩,⟨(some (83,true)),(some 92),0,.pur (.ixA (.slice k) (.t 90) (.t 91))⟩,⟨(some (83,true)),(some 93),0,.red (.ld (some k) (.t 92))⟩,⟨(some (83,true)),(some 94),0,.eff (.callv (.t 84) [(.t 89),(.t 93)])⟩,⟨(some (83,true)),(some 95),0,.pur (.bin .lss 3 (.t 94) (.v (.int .i64 0)))⟩,⟨(some (83,true)),(some 96),0,.pur (.un .not (.t 95))⟩,pU 97 (.pick (.t 83) (.t 96) (.v (.bool false)))]) (.cond (.t 97) (.seq (.regO [mV 98 0,mV 99 1,mV 100 2,mV 101 13,mV 102 4,eU 103 (.call fe [(.t 98),(.t 99),(.t 100),(.t 101),(.t 102)]),mV 15 103]) (.seq (.regO [mV 104 15,mV 1 104]) (.exit 1))) .skip)) (.seq (.regO [mV 106 0,mV 107 1,mV 108 2,mV 109 13,mV 110 4,eU 111 (.call ft [(.t 106),(.t 107),(.t 108),(.t 109),(.t 110)]),mV 105 111,pU 112 (.ext (.t 105) 0),pU 113 (.ext (.t 105) 1),mV 16 112,mV 17 113]) (.seq (.regO [mV 114 17,mV 11 114]) (.seq (.regO [mV 115 16,mV 116 1,bT 117 .sub 3 115 116,mV 118 2,mV 119 16,bT 120 .sub 3 118 119,mV 18 117,mV 19 120]) (.seq (.regO [mV 121 12,bC 122 .quo 3 121 (.int .i64 8),mV 20 122]) (.seq (.regO [mV 123 18,mV 124 19,bT 125 .lss 3 123 124]) (.cond (.t 125) (.seq (.regO [mV 126 18,mV 127 20,bT 128 .geq 3 126 127,mV 10 128]) (.seq (.regO [mV 129 0,mV 130 1,mV 131 16,mV 132 3,mV 133 4,eU 134 (.call fq [(.t 129),(.t 130),(.t 131),(.t 132),(.t 133)])]) (.regO [mV 135 16,bC 136 .add 3 135 (.int .i64 1),mV 1 136]))) (.seq (.regO [mV 137 19,mV 138 20,bT 139 .geq 3 137 138,mV 10 139]) (.seq (.regO [mV 140 0,mV 141 16,bC 142 .add 3 141 (.int .i64 1),mV 143 2,mV 144 3,mV 145 4,eU 146 (.call fq [(.t 140),(.t 142),(.t 143),(.t 144),(.t 145)])]) (.regO [mV 147 16,mV 2 147])))))))))))))))))))))) }
structure PdqAt (P:Program) (orc:Orc) (fq fi fh fb fc0 fr fp fe ft k fs fm fo fa fn fx fl fc:Nat) (enc:α→List Value) (c:α→α→Int):Prop where
 S:SoAt P orc fc k enc c
 swo:Sort.SWO (ltC c)
 cq:zD P fq=some (zSQ fq fi fh fb fc0 fr fp fe ft k)
 nq:orc fq=none
 ci:zD P fi=some (zNe k)
 ni:orc fi=none
 ch:zD P fh=some (zNf fs k)
 nh:orc fh=none
 cs:zD P fs=some (zKY k)
 ns:orc fs=none
 cb:zD P fb=some (zIz fn fx k)
 nb:orc fb=none
 cn:zD P fn=some (zHI fl)
 nn:orc fn=none
 len:LenOk P orc fl
 cx:zD P fx=some zSP
 nx:orc fx=none
 cc:zD P fc0=some (zGH fa fm)
 nc:orc fc0=none
 ca:zD P fa=some (zKZ fm)
 na:orc fa=none
 cm:zD P fm=some (zOn fo)
 nm:orc fm=none
 co:zD P fo=some (zHH k)
 no:orc fo=none
 cr:zD P fr=some (cfRev k)
 nr:orc fr=none
 cp:zD P fp=some (zNc k)
 np:orc fp=none
 ce:zD P fe=some (zIx k)
 ne:orc fe=none
 ct:zD P ft=some (zNd k)
 nt:orc ft=none
structure Leads (lt:α→α→Bool) (a e:Nat) (d:Array α) (G:Array α→Prop):Prop where
 bel:Sort.Below lt a e d
 fin:∀ R,Sort.PermIn a e d R→Sort.SortedIn lt a e R→G R
theorem Leads.perm {lt:α→α→Bool} {a e:Nat} {d d1:Array α} {G:Array α→Prop} (g:Leads lt a e d G) (he:e≤d.size) (hp:Sort.PermIn a e d d1):Leads lt a e d1 G :=
 ⟨g.bel.perm he hp,fun R h1 h2=>g.fin R (Sort.permIn_trans _ _ _ _ _ hp h1) h2⟩
def PqK (enc:α→List Value) (b:Nat) (G:Array α→Prop) (nx:Nat) (h:Hp):KC':=fun _ h' nx'=>∃ R:Array α,G R∧hget h' b=some (.cells (arr enc R) false)∧(∀ c,c<nx→c≠b→hget h' c=hget h c)∧nx≤nx'
def PqS (enc:α→List Value) (b n cap:Nat) (sp:Option Nat) (fc a e lim:Nat) (wb wp:Bool) (d:Array α) (nx:Nat) (h:Hp) (tm:Tm) (h':Hp) (nx':Nat):Prop :=
 tget tm 0 = .slice (some ⟨b,0,sp⟩) n cap∧tget tm 1 = .int .i64 (a:Int)∧tget tm 2 = .int .i64 (e:Int)∧tget tm 3 = .int .i64 (lim:Int)∧tget tm 4 = .func (.func fc) #[] #[]∧tget tm 10 = .bool wb∧tget tm 11 = .bool wp ∧
  d.size=n∧hget h' b=some (.cells (arr enc d) false)∧(∀ c,c<nx→c≠b→hget h' c=hget h c)∧nx≤nx'
def PqJ (lt:α→α→Bool) (enc:α→List Value) (b n cap:Nat) (sp:Option Nat) (fc mx:Nat) (G:Array α→Prop) (nx:Nat) (h:Hp) (m:Nat) (tm:Tm) (h':Hp) (nx':Nat):Prop :=
 ∃ (a e lim:Nat) (wb wp:Bool) (d:Array α),m=e-a∧m≤mx∧a≤e∧e≤n∧lim<1000∧Leads lt a e d G∧PqS enc b n cap sp fc a e lim wb wp d nx h tm h' nx'
def PqA (lt:α→α→Bool) (enc:α→List Value) (b n cap:Nat) (sp:Option Nat) (fc a e:Nat) (wb wp:Bool) (G:Array α→Prop) (nx:Nat) (h:Hp) (tm:Tm) (h':Hp) (nx':Nat):Prop :=
 ∃ (lim:Nat) (d:Array α),lim<1000∧Leads lt a e d G∧tget tm 12 = .int .i64 ((e-a:Nat):Int)∧PqS enc b n cap sp fc a e lim wb wp d nx h tm h' nx'
def PqB (lt:α→α→Bool) (enc:α→List Value) (b n cap:Nat) (sp:Option Nat) (fc a e:Nat) (wb wp:Bool) (G:Array α→Prop) (nx:Nat) (h:Hp) (tm:Tm) (h':Hp) (nx':Nat):Prop :=
 ∃ (lim p g:Nat) (d:Array α),lim<1000∧a≤p∧p<e∧Leads lt a e d G∧tget tm 12 = .int .i64 ((e-a:Nat):Int)∧tget tm 13 = .int .i64 (p:Int)∧tget tm 14 = .int .i64 (g:Int)∧PqS enc b n cap sp fc a e lim wb wp d nx h tm h' nx'
theorem pdq_cv {fq fi fh fb fc0 fr fp fe ft fs fm fo fa fn fx fl fc:Nat} {c:α→α→Int} (A:PdqAt P orc fq fi fh fb fc0 fr fp fe ft k fs fm fo fa fn fx fl fc enc c) {b n cap:Nat} {sp:Option Nat} (hn:n≤120):∀ (mx:Nat) (s:Bool) (a e lim:Nat) (d:Array α) (h:Hp) (nx:Nat) (G:Array α→Prop),
  e-a≤mx→a≤e→e≤n→lim<1000→b<nx→d.size=n→Leads (ltC c) a e d G→hget h b=some (.cells (arr enc d) false) →
  Cv P orc s fq [.slice (some ⟨b,0,sp⟩) n cap,.int .i64 (a:Int),.int .i64 (e:Int),.int .i64 (lim:Int),.func (.func fc) #[] #[]] h nx (PqK enc b G nx h):=by
 intro mx
 induction mx using Nat.strongRecOn with
 | _ mx ih =>
 intro s a e lim d h nx G hmx hae hen hlim hb hd hG hh;have S:=A.S;refine Cv.enter A.nq A.cq ?_;unfold zSQ bC bT eU mC mV pU;refine Ev.seq (Ev.regO ?_);simp only [SB,seval];refine Ev.seq (Ev.regO ?_);simp only [SB,seval];refine Ev.block (Ev.loop (PqJ (ltC c) enc b n cap sp fc mx G nx h) ?_ (e-a) _ _ _ ⟨a,e,lim,true,true,d,rfl,hmx,hae,hen,hlim,hG,by simp,by simp,by simp,by simp,by simp,by simp,by simp,hd,hh,fun _ _ _=>rfl,Nat.le_refl _⟩);clear hmx hae hen hlim hd hG hh;rintro m tm h' nx' ⟨a,e,lim,wb,wp,d,rfl,hmx,hae,hen,hlim,hG,t0,t1,t2,t3,t4,t10,t11,hd,hh,hfr,hnx⟩;refine Ev.block ?_;have w1:IntKind.wrap .i64 ((e:Int)-(a:Int))=((e-a:Nat):Int):=wSub (by omega) (by omega);refine Ev.seq (Ev.regO ?_);simp only [SB,t1,t2,w1,seval];refine Ev.genT (fun tm2=>tget tm2 0=tget tm 0∧tget tm2 1=tget tm 1∧tget tm2 2=tget tm 2∧tget tm2 3=tget tm 3∧tget tm2 4=tget tm 4∧tget tm2 10=tget tm 10∧tget tm2 11=tget tm 11∧tget tm2 12 = .int .i64 ((e-a:Nat):Int)) (by simp only [tgs,and_self,seval]) ?_;rintro tm2 ⟨u0,u1,u2,u3,u4,u10,u11,t12⟩;rw [t0] at u0; rw [t1] at u1; rw [t2] at u2; rw [t3] at u3; rw [t4] at u4; rw [t10] at u10; rw [t11] at u11;clear t0 t1 t2 t3 t4 t10 t11;refine Ev.seq (Ev.seq (Ev.regO ?_));simp only [SB,t12,seval]
 by_cases h12:e-a≤12
 ·refine Ev.cond true (by simp <;> omega) (fun _=>?_) (by simp <;> omega);refine Ev.seq (Ev.regO ?_);simp only [SB,u0,u1,u2,u4,seval];refine ze ?_;simp only [zP,zJ,zO,zn,tgs,seval];refine (insF_cv S A.ci A.ni (by omega) hd (by omega) (by omega) hen hh).mono ?_;rintro r h1 nx1 ⟨hh1,hf1,hn1⟩
  (try simp only [SB,seval])
  refine Ev.ret ?_;simp only [SB,seval];have hi:=Sort.insertionSort_holds A.swo d a e hae (by omega);exact ⟨_,hG.fin _ hi.1 hi.2,hh1,fun c hc hcb=>(hf1 c (by omega) hcb).trans (hfr c hc hcb),by omega⟩
 refine Ev.cond false (by simp <;> omega) (by simp <;> omega) (fun _=>Ev.skip ?_)
 (try simp only [SB,seval])
 refine Ev.seq (Ev.seq (Ev.regO ?_));simp only [SB,u3,seval]
 by_cases hl0:lim=0
 ·refine Ev.cond true (by simp [hl0]) (fun _=>?_) (by simp [hl0]);refine Ev.seq (Ev.regO ?_);simp only [SB,u0,u1,u2,u4,seval];refine ze ?_;simp only [zP,zJ,zO,zn,tgs,seval];refine (heap_cv S A.ch A.nh A.cs A.ns (by omega) hd (by omega) (by omega) hen hh).mono ?_;rintro r h1 nx1 ⟨hh1,hf1,hn1⟩
  (try simp only [SB,seval])
  refine Ev.ret ?_;simp only [SB,seval];have hi:=Sort.heapSort_holds A.swo d a e hae (by omega);exact ⟨_,hG.fin _ hi.1 hi.2,hh1,fun c hc hcb=>(hf1 c (by omega) hcb).trans (hfr c hc hcb),by omega⟩
 refine Ev.cond false (by simp [hl0]) (by simp [hl0]) (fun _=>Ev.skip ?_)
 (try simp only [SB,seval])
 refine Ev.cut (PqA (ltC c) enc b n cap sp fc a e wb wp G nx h) ?_ ?_
 ·refine Ev.seq (Ev.regO ?_);simp only [SB,u10,seval];cases wb with
  | false =>
   refine Ev.cond true (by simp) (fun _=>?_) (by simp);refine Ev.seq (Ev.regO ?_);simp only [SB,u0,u1,u2,u4,seval];refine ze ?_;simp only [zP,zJ,zO,zn,tgs,seval];refine (bp_cv S A.cb A.nb A.cn A.nn A.len A.cx A.nx (by omega) hd hn (by omega) hen hh).mono ?_;rintro r h1 nx1 ⟨d1,hd1,hp1,hh1,hf1,hn1⟩;have w2:IntKind.wrap .i64 ((lim:Int)-1)=((lim-1:Nat):Int):=wS1 (by omega) (by omega)
   (try simp only [SB,seval])
   refine Ev.regO ?_;simp only [SB,u3,w2,seval];exact ⟨lim-1,d1,by omega,hG.perm (by omega) hp1,by simp only [tgs,t12,seval],by simp [u0],by simp [u1],by simp [u2],by simp,by simp [u4],by simp [u10],by simp [u11],hd1,hh1,fun c hc hcb=>(hf1 c (by omega) hcb).trans (hfr c hc hcb),by omega⟩
  | true =>
   refine Ev.cond false (by simp) (by simp) (fun _=>Ev.skip ?_)
   (try simp only [SB,seval])
   exact ⟨lim,d,hlim,hG,by simp only [tgs,t12,seval],by simp [u0],by simp [u1],by simp [u2],by simp [u3],by simp [u4],by simp [u10],by simp [u11],hd,hh,hfr,hnx⟩
 clear u0 u1 u2 u3 u4 u10 u11 t12 hG hd hh hfr hnx hl0 hlim;rintro tm3 h3 nx3 ⟨lim,d,hlim,hG,t12,t0,t1,t2,t3,t4,t10,t11,hd,hh,hfr,hnx⟩;have hae':a<e:=by omega
 have hsz:e≤d.size:=by omega
 refine Ev.seq (Ev.regO ?_);simp only [SB,t0,t1,t2,t4,seval];refine ze ?_;simp only [zP,zJ,zO,zn,tgs,seval];refine (zSN S A.cc A.nc A.ca A.na A.cm A.nm A.co A.no (by omega) hd (by omega) hae' hen hh).mono ?_;rintro r h4 nx4 ⟨p,g,rfl,hp1,hp2,hg,hk4,hn4⟩;simp only [SB,seval];have hh4:=(hk4 b (by omega)).trans hh;have w5:IntKind.wrap .i64 ((e:Int)-1)=((e-1:Nat):Int):=wS1 (by omega) (by omega);have w6:IntKind.wrap .i64 ((p:Int)-(a:Int))=((p-a:Nat):Int):=wSub (by omega) (by omega);have w7:IntKind.wrap .i64 (((e-1:Nat):Int)-((p-a:Nat):Int))=((e-1-(p-a):Nat):Int):=wSub (by omega) (by omega);refine Ev.cut (PqB (ltC c) enc b n cap sp fc a e wb wp G nx h) ?_ ?_
 ·refine Ev.seq (Ev.regO ?_);simp only [SB,seval]
  by_cases hg2:g=2
  ·refine Ev.cond true (by simp [hg2]) (fun _=>?_) (by simp [hg2]);refine Ev.seq (Ev.regO ?_);simp only [SB,t0,t1,t2,t4,seval];refine ze ?_;simp only [zP,zJ,zO,zn,tgs,seval];refine (rev_cv S A.cr A.nr (by omega) hd (by omega) hae' hen hh4).mono ?_;rintro r h5 nx5 ⟨hh5,hf5,hn5⟩;have hr:=Sort.reverseRange_holds d a e hae hsz
   (try simp only [SB,seval])
   refine Ev.seq (Ev.regO ?_);simp only [SB,t1,t2,w5,w6,w7,seval];refine Ev.regO ?_;simp only [SB,seval];exact ⟨lim,e-1-(p-a),1,_,hlim,by omega,by omega,hG.perm hsz hr,by simp only [tgs,t12,seval],by simp only [tgs,seval],by simp,by simp [t0],by simp [t1],by simp [t2],by simp [t3],by simp [t4],by simp [t10],by simp [t11],by rw [hr.1]; exact hd,hh5,fun c hc hcb=>by rw [hf5 c (by omega) hcb,hk4 c (by omega)]; exact hfr c hc hcb,by omega⟩
  ·refine Ev.cond false (by simp <;> omega) (by simp <;> omega) (fun _=>Ev.skip ?_)
   (try simp only [SB,seval])
   exact ⟨lim,p,g,d,hlim,hp1,hp2,hG,by simp only [tgs,t12,seval],by simp,by simp,by simp [t0],by simp [t1],by simp [t2],by simp [t3],by simp [t4],by simp [t10],by simp [t11],hd,hh4,fun c hc hcb=>by rw [hk4 c (by omega)]; exact hfr c hc hcb,by omega⟩
 clear t0 t1 t2 t3 t4 t10 t11 t12 hG hd hh hh4 hfr hnx hlim hp1 hp2 hg w6 w7 hsz;rintro tm6 h6 nx6 ⟨lim,p,g,d,hlim,hp1,hp2,hG,t12,t13,t14,t0,t1,t2,t3,t4,t10,t11,hd,hh,hfr,hnx⟩;have hsz:e≤d.size:=by omega
 refine Ev.cut (PqB (ltC c) enc b n cap sp fc a e wb wp G nx h) ?_ ?_
 ·refine Ev.seq (Ev.regO ?_)
  by_cases hall:wb=true∧wp=true∧g=1
  ·obtain ⟨rfl,rfl,rfl⟩:=hall
   repeat (first | simp only [Dv_g,Ov_g,zB,zH,tgs,zV,zW,zU,Bool.not_true,Bool.not_false,Bool.false_eq_true,zL,zN,zK,zM,seval] | simp only [SG,t10,t11,t14,seval])
   refine Ev.cond true (by simp) (fun _=>?_) (by simp);refine Ev.seq (Ev.regO ?_);simp only [SB,t0,t1,t2,t4,seval];refine ze ?_;simp only [zP,zJ,zO,zn,tgs,seval];refine (pins_cv S A.cp A.np (by omega) hd (by omega) hae' hen hh).mono ?_;rintro r h7 nx7 ⟨rfl,hh7,hf7,hn7⟩;have hpi:=Sort.partialInsertionSort_holds A.swo d a e hae' hsz hG.bel
   (try simp only [SB,seval])
   cases hres:(Sort.partialInsertionSort (ltC c) d a e).2 with
   | true =>
    refine Ev.cond true (by simp [hres]) (fun _=>?_) (by simp [hres]);refine Ev.ret ?_;simp only [SB,seval];exact ⟨_,hG.fin _ hpi.1 (hpi.2 hres),hh7,fun c hc hcb=>(hf7 c (by omega) hcb).trans (hfr c hc hcb),by omega⟩
   | false =>
    refine Ev.cond false (by simp [hres]) (by simp [hres]) (fun _=>Ev.skip ?_)
    (try simp only [SB,seval])
    exact ⟨lim,p,1,_,hlim,hp1,hp2,hG.perm hsz hpi.1,by simp only [tgs,t12,seval],by simp [t13],by simp [t14],by simp [t0],by simp [t1],by simp [t2],by simp [t3],by simp [t4],by simp [t10],by simp [t11],by rw [hpi.1.1]; exact hd,hh7,fun c hc hcb=>(hf7 c (by omega) hcb).trans (hfr c hc hcb),by omega⟩
  ·have fin:PqB (ltC c) enc b n cap sp fc a e wb wp G nx h tm6 h6 nx6:=⟨lim,p,g,d,hlim,hp1,hp2,hG,t12,t13,t14,t0,t1,t2,t3,t4,t10,t11,hd,hh,hfr,hnx⟩
   cases wb with
   | false =>
    repeat (first | simp only [Dv_g,Ov_g,zB,zH,tgs,zV,zW,zU,Bool.not_true,Bool.not_false,Bool.false_eq_true,zL,zN,zK,zM,seval] | simp only [SG,t10,t11,t14,seval])
    refine Ev.cond false (by simp) (by simp) (fun _=>Ev.skip ?_)
    (try simp only [SB,seval])
    exact ⟨lim,p,g,d,hlim,hp1,hp2,hG,by simp only [tgs,t12,seval],by simp [t13],by simp [t14],by simp [t0],by simp [t1],by simp [t2],by simp [t3],by simp [t4],by simp [t10],by simp [t11],hd,hh,hfr,hnx⟩
   | true =>
    cases wp with
    | false =>
     repeat (first | simp only [Dv_g,Ov_g,zB,zH,tgs,zV,zW,zU,Bool.not_true,Bool.not_false,Bool.false_eq_true,zL,zN,zK,zM,seval] | simp only [SG,t10,t11,t14,seval])
     refine Ev.cond false (by simp) (by simp) (fun _=>Ev.skip ?_)
     (try simp only [SB,seval])
     exact ⟨lim,p,g,d,hlim,hp1,hp2,hG,by simp only [tgs,t12,seval],by simp [t13],by simp [t14],by simp [t0],by simp [t1],by simp [t2],by simp [t3],by simp [t4],by simp [t10],by simp [t11],hd,hh,hfr,hnx⟩
    | true =>
     have hg1:((g:Int) == 1)=false:=by simp; intro e; exact hall ⟨rfl,rfl,by omega⟩
     repeat (first | simp only [Dv_g,Ov_g,zB,zH,tgs,zV,zW,zU,Bool.not_true,Bool.not_false,Bool.false_eq_true,zL,zN,zK,zM,seval] | simp only [SG,t10,t11,t14,hg1,seval])
     refine Ev.cond false (by simp) (by simp) (fun _=>Ev.skip ?_)
     (try simp only [SB,seval])
     exact ⟨lim,p,g,d,hlim,hp1,hp2,hG,by simp only [tgs,t12,seval],by simp [t13],by simp [t14],by simp [t0],by simp [t1],by simp [t2],by simp [t3],by simp [t4],by simp [t10],by simp [t11],hd,hh,hfr,hnx⟩
 clear t0 t1 t2 t3 t4 t10 t11 t12 t13 t14 hG hd hh hfr hnx hlim hp1 hp2 hsz;rintro tm8 h8 nx8 ⟨lim,p,g,d,hlim,hp1,hp2,hG,t12,t13,t14,t0,t1,t2,t3,t4,t10,t11,hd,hh,hfr,hnx⟩;have hsz:e≤d.size:=by omega
 refine Ev.cut (PqB (ltC c) enc b n cap sp fc a e wb wp G nx h) ?_ ?_
 ·refine Ev.seq (Ev.regD ?_)
  by_cases ha0:0<a
  ·have d1:decide ((0:Int)<(a:Int))=true:=decide_eq_true (by omega);have w8:IntKind.wrap .i64 ((a:Int)-1)=((a-1:Nat):Int):=wS1 (by omega) (by omega);have b1:a-1<n:=by omega
   have b2:p<n:=by omega
   have r1:=zk S.hk (hd.symm ▸ b1);have r2:=zk S.hk (hd.symm ▸ b2)
   repeat (first | simp only [Dv_g,Ov_g,zB,zH,tgs,zV,zW,zU,Bool.not_true,Bool.not_false,Bool.false_eq_true,zL,zN,zK,zM,seval] | simp only [SG,t0,t1,t4,t13,d1,w8,b1,b2,zA hh,r1,r2,seval])
   refine zAf (f:=fc) (a:=[]) (a2:=[]) (by simp [t4]) ?_;simp only [zP,zJ,zO,zn,tgs,List.nil_append,List.append_nil,seval];refine (S.cmp _ _ _ _).mono ?_;rintro r h9 nx9 ⟨rfl,hn9,hf9⟩;refine ⟨hn9,?_⟩;have hh9:=(hf9 b (by omega)).trans hh
   by_cases hl:c d[a-1]! d[p]!<0
   ·have e1:decide (c d[a-1]! d[p]!<0)=true:=decide_eq_true hl
    repeat (first | simp only [Dv_g,Ov_g,zB,zH,tgs,zV,zW,zU,Bool.not_true,Bool.not_false,Bool.false_eq_true,zL,zN,zK,zM,seval] | simp only [SG,e1,seval])
    refine Ev.cond false (by simp) (by simp) (fun _=>Ev.skip ?_)
    (try simp only [SB,seval])
    exact ⟨lim,p,g,d,hlim,hp1,hp2,hG,by simp only [tgs,t12,seval],by simp [t13],by simp [t14],by simp [t0],by simp [t1],by simp [t2],by simp [t3],by simp [t4],by simp [t10],by simp [t11],hd,hh9,fun c hc hcb=>(hf9 c (by omega)).trans (hfr c hc hcb),by omega⟩
   ·have e1:decide (c d[a-1]! d[p]!<0)=false:=decide_eq_false hl
    repeat (first | simp only [Dv_g,Ov_g,zB,zH,tgs,zV,zW,zU,Bool.not_true,Bool.not_false,Bool.false_eq_true,zL,zN,zK,zM,seval] | simp only [SG,e1,seval])
    refine Ev.cond true (by simp) (fun _=>?_) (by simp);refine Ev.seq (Ev.regO ?_);simp only [SB,t0,t1,t2,t4,t13,seval];refine ze ?_;simp only [zP,zJ,zO,zn,tgs,seval];refine (partE_cv S A.ce A.ne (by omega) hd (by omega) hp1 hp2 hen hh9).mono ?_;rintro r hA nxA ⟨rfl,hhA,hfA,hnA⟩;generalize hres:Sort.partitionEqual (ltC c) d a e p=res at hhA ⊢;obtain ⟨mid,d4⟩:=res;obtain ⟨g1,g2,g3,g4,g5⟩:=Sort.round_eq A.swo (Sort.partitionEqual_holds (ltC c)) ha0 hp1 hp2 hsz hG.bel e1 hres;simp only [SB,seval];refine Ev.seq (Ev.regO ?_);simp only [SB,seval];refine Ev.exit ?_;simp only [SB,seval];exact ⟨e-mid,by omega,mid,e,lim,wb,wp,d4,rfl,by omega,g2,hen,hlim,⟨g4,fun R k1 k2=>hG.fin R (g5 R k1 k2).1 (g5 R k1 k2).2⟩,by simp [t0],by simp,by simp [t2],by simp [t3],by simp [t4],by simp [t10],by simp [t11],by rw [g3]; exact hd,hhA,fun c hc hcb=>by rw [hfA c (by omega) hcb,hf9 c (by omega)]; exact hfr c hc hcb,by omega⟩
  ·have d1:decide ((0:Int)<(a:Int))=false:=decide_eq_false (by omega)
   repeat (first | simp only [Dv_g,Ov_g,zB,zH,tgs,zV,zW,zU,Bool.not_true,Bool.not_false,Bool.false_eq_true,zL,zN,zK,zM,seval] | simp only [SG,t1,d1,seval])
   refine Ev.cond false (by simp) (by simp) (fun _=>Ev.skip ?_)
   (try simp only [SB,seval])
   exact ⟨lim,p,g,d,hlim,hp1,hp2,hG,by simp only [tgs,t12,seval],by simp [t13],by simp [t14],by simp [t0],by simp [t1],by simp [t2],by simp [t3],by simp [t4],by simp [t10],by simp [t11],hd,hh,hfr,hnx⟩
 clear t0 t1 t2 t3 t4 t10 t11 t12 t13 t14 hG hd hh hfr hnx hlim hp1 hp2 hsz;rintro tm9 h9 nx9 ⟨lim,p,g,d,hlim,hp1,hp2,hG,t12,t13,t14,t0,t1,t2,t3,t4,t10,t11,hd,hh,hfr,hnx⟩;have hsz:e≤d.size:=by omega
 refine Ev.seq (Ev.regO ?_);simp only [SB,t0,t1,t2,t4,t13,seval];refine ze ?_;simp only [zP,zJ,zO,zn,tgs,seval];refine (part_cv S A.ct A.nt (by omega) hd (by omega) hp1 hp2 hen hh).mono ?_;rintro r hA nxA ⟨rfl,hhA,hfA,hnA⟩;generalize hres:Sort.partition (ltC c) d a e p=res at hhA ⊢;obtain ⟨mid,ap,d4⟩:=res;obtain ⟨g1,g2,g3,g4,g5,g6,g7⟩:=Sort.round_part A.swo (Sort.partition_holds (ltC c)) hp1 hp2 hsz hG.bel hres;have hhA:hget hA b=some (.cells (arr enc d4) false):=hhA;have hdn:d4.size=n:=by rw [g3]; exact hd
 have w2:IntKind.wrap .i64 ((mid:Int)-(a:Int))=((mid-a:Nat):Int):=wSub (by omega) (by omega);have w3:IntKind.wrap .i64 ((e:Int)-(mid:Int))=((e-mid:Nat):Int):=wSub (by omega) (by omega);have w4:IntKind.wrap .i64 ((mid:Int)+1)=((mid+1:Nat):Int):=wN1 (by omega);have hq8:=zJF (P:=P) (t:=3) (k:=.i64) (a:=((e-a:Nat):Int)) (show (8:Int)≠0 by decide);have w6:IntKind.wrap .i64 (Int.tdiv ((e-a:Nat):Int) 8)=(((e-a) / 8:Nat):Int):=by
  rw [show Int.tdiv ((e-a:Nat):Int) 8=(((e-a) / 8:Nat):Int) from by rw [Int.tdiv_eq_ediv_of_nonneg (by omega)]; omega];exact zB8 (by omega) (by omega)
 rw [w6] at hq8;have hfrA:∀ c,c<nx→c≠b→hget hA c=hget h c:=fun c hc hcb=>(hfA c (by omega) hcb).trans (hfr c hc hcb);simp only [SB,seval];refine Ev.seq (Ev.regO ?_);simp only [SB,seval];refine Ev.seq (Ev.regO ?_);simp only [SB,t1,t2,w2,w3,seval];refine Ev.seq (Ev.regO ?_);simp only [SB,t12,hq8,seval];refine Ev.genT (fun tmB=>tget tmB 0 = .slice (some ⟨b,0,sp⟩) n cap∧tget tmB 1 = .int .i64 (a:Int)∧tget tmB 2 = .int .i64 (e:Int)∧tget tmB 3 = .int .i64 (lim:Int)∧tget tmB 4 = .func (.func fc) #[] #[]∧tget tmB 11 = .bool ap∧tget tmB 16 = .int .i64 (mid:Int)∧tget tmB 18 = .int .i64 ((mid-a:Nat):Int)∧tget tmB 19 = .int .i64 ((e-mid:Nat):Int)∧tget tmB 20 = .int .i64 (((e-a) / 8:Nat):Int))
  (by simp only [tgs,t0,t1,t2,t3,t4,and_self,seval]) ?_
 rintro tmB ⟨v0,v1,v2,v3,v4,v11,v16,v18,v19,v20⟩;refine Ev.seq (Ev.regO ?_);simp only [SB,v18,v19,seval]
 by_cases hside:mid-a<e-mid
 ·refine Ev.cond true (by simp <;> omega) (fun _=>?_) (by simp <;> omega);refine Ev.seq (Ev.regO ?_);simp only [SB,v18,v20,seval];refine Ev.seq (Ev.regO ?_);simp only [SB,v0,v1,v3,v4,v16,seval];refine ze ?_;simp only [zP,zJ,zO,zn,tgs,seval];refine (ih (mid-a) (by omega) _ a mid lim d4 hA nxA (fun L=>Sort.PermIn a mid d4 L∧Sort.SortedIn (ltC c) a mid L) (Nat.le_refl _) g1 (by omega) hlim (by omega) hdn ⟨g4,fun R k1 k2=>⟨k1,k2⟩⟩ hhA).mono ?_;rintro r hB nxB ⟨L,⟨l1,l2⟩,hhB,hfB,hnB⟩;obtain ⟨q1,q2⟩:=g6 L l1 l2
  (try simp only [SB,seval])
  refine Ev.regO ?_;simp only [SB,v16,w4,seval];exact ⟨e-(mid+1),by omega,mid+1,e,lim,_,ap,L,rfl,by omega,by omega,hen,hlim,⟨q1,fun R k1 k2=>hG.fin R (q2 R k1 k2).1 (q2 R k1 k2).2⟩,by simp [v0],by simp,by simp [v2],by simp [v3],by simp [v4],by simp only [tgs,seval]; rfl,by simp [v11],by rw [l1.1]; exact hdn,hhB,fun c hc hcb=>(hfB c (by omega) hcb).trans (hfrA c hc hcb),by omega⟩
 ·refine Ev.cond false (by simp <;> omega) (by simp <;> omega) (fun _=>?_);refine Ev.seq (Ev.regO ?_);simp only [SB,v19,v20,seval];refine Ev.seq (Ev.regO ?_);simp only [SB,v0,v2,v3,v4,v16,w4,seval];refine ze ?_;simp only [zP,zJ,zO,zn,tgs,seval];refine (ih (e-(mid+1)) (by omega) _ (mid+1) e lim d4 hA nxA (fun L=>Sort.PermIn (mid+1) e d4 L∧Sort.SortedIn (ltC c) (mid+1) e L) (Nat.le_refl _) (by omega) hen hlim (by omega) hdn ⟨g5,fun R k1 k2=>⟨k1,k2⟩⟩ hhA).mono ?_;rintro r hB nxB ⟨L,⟨l1,l2⟩,hhB,hfB,hnB⟩;obtain ⟨q1,q2⟩:=g7 L l1 l2
  (try simp only [SB,seval])
  refine Ev.regO ?_;simp only [SB,v16,seval];exact ⟨mid-a,by omega,a,mid,lim,_,ap,L,rfl,by omega,g1,by omega,hlim,⟨q1,fun R k1 k2=>hG.fin R (q2 R k1 k2).1 (q2 R k1 k2).2⟩,by simp [v0],by simp [v1],by simp,by simp [v3],by simp [v4],by simp only [tgs,seval]; rfl,by simp [v11],by rw [l1.1]; exact hdn,hhB,fun c hc hcb=>(hfB c (by omega) hcb).trans (hfrA c hc hcb),by omega⟩
end
section
variable {P:Program} {orc:Orc} {s:Bool}
variable {α:Type} [Inhabited α] {enc:α→List Value} {k:Nat}
def LenAll (P:Program) (orc:Orc) (fl:FuncId):Prop:=∀ (s:Bool) (n:Nat),n≤120→∀ h nx,Cv P orc s fl [.int .u64 (n:Int)] h nx (fun v h' nx'=>∃ L:Nat,v = .int .i64 (L:Int)∧L≤7∧(8≤n→2 ^ L≤2*n)∧h'=h∧nx'=nx)
theorem LenAll.some {fl:FuncId} (h:LenAll P orc fl):LenOk P orc fl:=fun s n h8 hn hp nx=>(h s n hn hp nx).mono fun v h' nx' ⟨L,e1,e2,e3,e4,e5⟩=>⟨L,e1,e2,e3 h8,e4,e5⟩
def SortFK (enc:α→List Value) (c:α→α→Int) (l:List α) (b nx:Nat) (h:Hp):KC':=fun _ h' nx'=>nx≤nx'∧(∃ l':List α,l'.Perm l∧l'.Pairwise (fun x y=>¬ c y x<0)∧hget h' b=some (.cells (flat enc l') false))∧∀ c,c<nx→c≠b→hget h' c=hget h c
theorem sortF_cv {f fq fi fh fb fc0 fr fp fe ft fs fm fo fa fn fx fl fc:Nat} {c:α→α→Int} (A:PdqAt P orc fq fi fh fb fc0 fr fp fe ft k fs fm fo fa fn fx fl fc enc c) (hcf:zD P f=some (zHy fl fq)) (ho:orc f=none) (hl:LenAll P orc fl)
  {h:Hp} {nx b n cap:Nat} {sp:Option Nat} {l:List α} (hln:l.length=n) (hn:n≤120) (hb:b<nx) (hh:hget h b=some (.cells (flat enc l) false)) :
  Cv P orc s f [.slice (some ⟨b,0,sp⟩) n cap,.func (.func fc) #[] #[]] h nx (SortFK enc c l b nx h):=by
 refine Cv.enter ho hcf ?_;unfold zHy eU mV pU rU;have w1:IntKind.wrap .u64 (n:Int)=(n:Int):=zJK (by omega);refine Ev.seq (Ev.regO ?_);simp only [SB,seval];refine Ev.regO ?_;simp only [SB,w1,seval];refine ze ?_;simp only [zP,zJ,zO,zn,tgs,seval];refine (hl _ n hn _ _).mono ?_;rintro r h1 nx1 ⟨L,rfl,hL,_,rfl,rfl⟩;simp only [SB,seval];refine ze ?_;simp only [zP,zJ,zO,zn,tgs,seval];have hda:hget h1 b=some (.cells (arr enc l.toArray) false):=by unfold arr; simpa using hh
 have hds:l.toArray.size=n:=by simpa using hln
 refine (pdq_cv A hn n _ 0 n L l.toArray h1 nx1 (fun R=>Sort.PermIn 0 n l.toArray R∧Sort.SortedIn (ltC c) 0 n R) (by omega) (by omega) (Nat.le_refl _) (by omega) hb hds ⟨.inl rfl,fun R k1 k2=>⟨k1,k2⟩⟩ hda).mono ?_;rintro r h2 nx2 ⟨R,⟨hp,hso⟩,hh2,hf2,hn2⟩
 (try simp only [SB,seval])
 have hRn:R.size=n:=by rw [hp.1]; exact hds
 refine ⟨hn2,⟨R.toList,?_,?_,hh2⟩,hf2⟩
 ·have h3:=hp.2.2;have e1:R.extract 0 n=R:=by rw [← hRn]; simp
  have e2:l.toArray.extract 0 n=l.toArray:=by rw [← hds]; simp
  rw [e1,e2] at h3;simpa using h3
 ·rw [List.pairwise_iff_getElem];intro i j hi hj hij;have hj':j<R.size:=by simpa using hj
  have hi':i<R.size:=by simpa using hi
  have h4:=hso i j (Nat.zero_le _) hij (by omega);rw [getElem!_pos R i hi',getElem!_pos R j hj'] at h4;have h5:=of_decide_eq_false h4;simpa using h5
end
section
variable {P:Program} {orc:Orc}
structure CombF (P:Program) (orc:Orc) (f fis fof fad fna fs fo fl fw fwn tr tw kt:Nat) (R1 R2 R3:CC):Prop where
 cf:zD P f=some (zDU fis fof fad fna fs fo kt)
 no:orc f=none
 is:zD P fis=some (cfIs tr)
 nis:orc fis=none
 of:zD P fof=some (cfOf tw)
 nof:orc fof=none
 ad:zD P fad=some (zOp fl tr tw R1 R2 R3)
 nad:orc fad=none
 le:zD P fl=some (zCx fw tw)
 nle:orc fl=none
 na:zD P fna=some (zDi fwn)
 nna:orc fna=none
 wn:zD P fwn=some (zBz fof tw)
 nwn:orc fwn=none
 w:zDY P tw
 c:zEQ P orc fw
 k:zMK P kt
 eq:∀ n:Nat,n<4294967296→bin P .neq tw (.agg ⟨zF n⟩) (.agg ⟨zF n⟩) = .ok (.bool false)
 S:∀ (l:List Edg) (h:Hp) (nx b n cap:Nat) (sp:Option Nat),l.length=n→n≤120→b<nx→hget h b=some (.cells (flat encE l) false)→Cv P orc false fs [.slice (some ⟨b,0,sp⟩) n cap,.func (.func fo) #[] #[]] h nx (SortFK encE cmpE l b nx h)
 S0:∀ (h:Hp) (nx:Nat),Cv P orc false fs [.slice none 0 0,.func (.func fo) #[] #[]] h nx (fun _ h' nx'=>h'=h∧nx'=nx)
def Cmb2F (h:Hp) (it r ck:Nat) (es:List MapEntry) (m:Nat) (tm:Tm) (h':Hp) (nx':Nat):Prop :=
 ∃ seen acc,m=(zAA seen es).length∧it<nx'∧tget tm 0 = .int .i64 1∧tget tm 52 = .pointer (some ⟨it,0,none⟩)∧SlAt h' (tget tm 13) encE 3 acc (it+1) nx'∧(acc=[]→tget tm 13 = .slice none 0 0)∧(acc++(zAA seen es).map zDo).Perm (es.map zDo) ∧
  hget h' it=some (.iter (some r) ck seen ck)∧∀ b,b<it→hget h' b=hget h b
theorem zEJ {f fis fof fad fna fs fo fl fw fwn tr tw kt:Nat} {R1 R2 R3:CC} (A:CombF P orc f fis fof fad fna fs fo fl fw fwn tr tw kt R1 R2 R3)
  {h:Hp} {nx bs os n cap:Nat} {sp:Option Nat} {cs:List Value} {ro:Bool} {es:List Edg} {a:Option Addr} (ha:0<n→a=some ⟨bs,os,sp⟩) (hbs:0<n→hget h bs=some (.cells cs ro)) (hbn:0<n→bs<nx) (hn:es.length=n) (hn1:n≤120) (hsm:∀ x∈es,zBU x)
  (hld:∀ i x,es[i]? = some x→zA2 (some 3) (os+i*3) cs = .ok (.agg ⟨encE x⟩)) :
  Cv P orc false f [.int .i64 1,.slice a n cap] h nx (fun v h' _=>(zq [] es=[]∧v = .tuple ⟨[.slice none 0 0,.int .i64 0]⟩∧∀ b,b<nx→hget h' b=hget h b)∨∃ bk l,zq [] es≠[]∧v = .tuple ⟨[.slice (some ⟨bk,0,some 3⟩) l.length l.length,.int .i64 0]⟩∧nx≤bk∧hget h' bk=some (.cells (flat encE l) false)∧l.Perm (zq [] es)∧l.Pairwise (fun x y=>¬ cmpE y x<0) ∧
   ∀ b,b<nx→hget h' b=hget h b):=by
 refine Cv.enter A.no A.cf ?_;unfold zDU aU bC bT eU mC mV pU rU;refine Ev.seq (Ev.regO ?_);simp only [zE,c_mv,zn,zX,zB,Ov_nil,zC];refine Ev.seq (Ev.seq (Ev.regO ?_));simp only [zE,c_mv,zO,zCK,zDt,tgs,zX,zB,seval];refine ze ?_;simp only [zJ,zP,zO,tgs,seval];refine (is_cv A.is A.nis).mono ?_;rintro v h' nx' ⟨rfl,rfl,rfl⟩;simp only [zE,c_un,zO,zB,tgs,↓reduceIte,zJR,zX,Ov_nil,zC];refine Ev.cond false (by simp) (by simp) fun _=>Ev.skip ?_;show Ev P orc false _ _ _ _ _;refine Ev.seq (Ev.regO ?_);simp only [zAw,calq,zX,nbV,nbO,zB,zE,c_mv,zO,tgs,↓reduceIte,Ov_nil,zC];refine Ev.seq (Ev.seq (Ev.regO ?_));simp only [zE,zAI,c_mv,zS3,zCg,zO,zn,zB,tgs,zX,Ov_nil,zC,seval];refine Ev.block (Ev.loop (fun m tm h1 nx1=>Cmb1 h' nx' nx' n es (.slice a n cap) m tm h1 nx1) ?_ n _ _ _ ⟨0,rfl,by omega,by simp,by simp,by simp,by simp,by simp,Nat.le_refl _,by omega,by simp [zq,zAC],fun b hb=>by simp [show b≠nx' by omega]⟩);rintro m tm h1 nx1 ⟨i,rfl,hin,t0,t6,t22,t23,t24,hrn,hr1,hm,hfr⟩;have hsmt:∀ x∈zq [] (es.take i),zBU x:=zCw (fun x hx=>hsm x (List.mem_of_mem_take hx)) (fun x hx=>by cases hx);refine Ev.seq (Ev.regO ?_);simp only [zE,zCG,zO,t24,t23,zFZ,zX,zB,Ov_nil,zC];refine Ev.seq (Ev.cond (decide ((i:Int)<(n:Int))) (by simp) (fun hlt=>Ev.skip ?_) fun hge=>Ev.exit ?_)
 ·simp only [decide_eq_true_eq,Int.ofNat_lt] at hlt;show Ev P orc false _ _ _ _ _;have ha:=ha (by omega);have hbs:=hbs (by omega);have hbn:=hbn (by omega);subst ha;obtain ⟨e,he⟩:∃ e,es[i]? = some e:=⟨_,List.getElem?_eq_getElem (by omega)⟩
  have hsme:=hsm e (List.mem_of_getElem? he);refine Ev.seq (zHx (s:=false) A.of A.nof A.ad A.nad A.le A.nle A.w A.c A.k (r:=nx') (bs:=bs) (os:=os) (n:=n) (cap:=cap) (sp:=sp) (i:=i) (cs:=cs) (ro:=ro) (acc:=zq [] (es.take i)) (e:=e) hsme hsmt hr1 hm (by rw [hfr _ hbn]; exact hbs) (by omega) hlt (hld i e he) (by simp [t0]) (by simp [t6]) (by simp [t22]) (by simp [t24]) ?_);intro tm2 h2 nx2 hlow hnx2 hm2 hfr2;have u0:=hlow 0 (by omega);have u6:=hlow 6 (by omega);have u22:=hlow 22 (by omega);have u23:=hlow 23 (by omega);have u24:=hlow 24 (by omega);simp only [tgs,t0,t6,t22,t23,t24,seval] at u0 u6 u22 u23 u24;simp only [zC];refine Ev.regO ?_;simp only [zE,c_mv,zCG,zO,zn,u24,zEO,tgs,zX,zB,Ov_nil,zC,seval];have htake:zq [] (es.take (i+1))=zAn e (zq [] (es.take i)):=by
   rw [← zFT,List.take_add_one,he]; rfl
  refine ⟨n-(i+1),by omega,i+1,rfl,by omega,by simp [u0],by simp [u6],by simp [u22],by simp [u23],by simp; exact zPD (i+1) (by omega),hrn,by omega,by rw [htake]; exact hm2,fun b hb=>by rw [hfr2 b (by omega) (by omega)]; exact hfr b hb⟩
 ·simp only [decide_eq_false_iff_not,Int.ofNat_lt] at hge;have hi:i=n:=by omega
  subst hi;rw [List.take_of_length_le (by omega)] at hm hsmt;generalize hcomb:zq [] es=L at *
  have hLl:L.length≤120:=by rw [← hcomb]; have:=zEk es []; simp at this; omega
  simp only [zAc,zAv,↓reduceIte,zC];refine Ev.seq (Ev.regO ?_);simp only [zE,c_mv,zn,zX,zB,Ov_nil,zC];refine Ev.seq (Ev.seq (Ev.regO ?_));simp only [zE,c_mv,zO,tgs,t6,zX,zB,seval];have hrng:∀ tm,ceff P (tset tm 51 (.map (some nx'))) h1 nx1 (.rng (.t 51)) = .val (.pointer (some ⟨nx1,0,none⟩)) (hset h1 nx1 (.iter (some nx') L.length [] L.length)) (nx1+1):=fun tm=>by
   show zB6 h1 nx1 (tget (tset tm 51 (.map (some nx'))) 51)=_;simp [zB6,hm,zEB]
  rw [zCm (hrng _)];simp only [zB,Ov_nil,zC];obtain ⟨hris,hborn⟩:=zCs 0 L;obtain ⟨hmap,hent⟩:=zEC 0 L hsmt;have hck:∀ e∈zAC 0 L,e.born<L.length:=fun e he=>by have:=(hborn e he).2; omega
  refine Ev.block (Ev.loop (fun m tm h2 nx2=>Cmb2F h1 nx1 nx' L.length (zAC 0 L) m tm h2 nx2) ?_ (zAC 0 L).length _ _ _ ⟨[],[],by rw [zi],by omega,by simp [t0],by simp,.inl ⟨rfl,by simp⟩,fun _=>by simp,by rw [zi]; exact List.Perm.refl _,by simp,fun b hb=>by simp [show b≠nx1 by omega]⟩);rintro m tm2 h2 nx2 ⟨seen,acc,rfl,hnx2,u0,u52,hsl,hz,hperm,hit,hfr2⟩;have hm2:hget h2 nx'=some (.map (zAC 0 L) L.length):=by rw [hfr2 _ hr1]; exact hm
  have hal:acc.length≤120:=by
   have:=hperm.length_eq;rw [List.length_append,hmap] at this;omega
  refine Ev.seq (Ev.regO (zIK rfl (by simpa using u52) hit hm2 (zDO hck) (fun hend=>?_) fun e he=>⟨hck e (zAN he).1,?_⟩))
  ·simp only [zE,zK5,zO,zB,tgs,↓reduceIte,zy,List.getElem?_cons_zero,zBR,zX,Ov_nil,zC];refine Ev.seq (Ev.cond false (by simp) (by simp) fun _=>Ev.exit ?_);simp only [zAc,zAv,↓reduceIte,zC];rw [hend,hmap] at hperm;simp only [List.map_nil,List.append_nil] at hperm;rcases hsl with ⟨e,_⟩ | ⟨bk,hb1,hb2,t13,hbk⟩
   ·rename_i t13
    refine Ev.seq (Ev.regO ?_);simp only [zE,c_mv,zO,tgs,t13,zX,zB,seval];refine ze ?_;simp only [zJ,zP,zO,zn,tgs,seval];refine (A.S0 _ _).mono ?_;rintro v h3 nx3 ⟨rfl,rfl⟩;simp only [Ov_nil,zC];refine Ev.seq (Ev.regO ?_);simp only [zE,Ov_nil,zB,c_mv,zO,zn,tgs,t13,zX,zC,seval];refine Ev.ret ?_;simp only [zCq,zBn,zAt,bind_ok,zX,zD7,tgs,seval];refine .inl ⟨by rw [e] at hperm; exact List.nil_perm.1 hperm,trivial,fun b2 hb2'=>?_⟩;rw [hfr2 b2 (by omega)];exact hfr b2 hb2'
   have hane:acc≠[]:=fun e=>by have:=hz e; rw [t13] at this; cases this
   refine Ev.seq (Ev.regO ?_);simp only [zE,c_mv,zO,tgs,t13,zX,zB,seval];refine ze ?_;simp only [zJ,zP,zO,zn,tgs,seval];refine (A.S acc _ _ _ _ _ _ rfl hal hb2 hbk).mono ?_;rintro v h3 nx3 ⟨hnx3,⟨l',hp',hs',hb'⟩,hf3⟩;simp only [Ov_nil,zC];refine Ev.seq (Ev.regO ?_);simp only [zE,Ov_nil,zB,c_mv,zO,zn,tgs,t13,zX,zC,seval];refine Ev.ret ?_;simp only [zCq,zBn,zAt,bind_ok,zX,zD7,tgs,seval];refine .inr ⟨bk,l',fun e=>hane (by rw [e] at hperm; exact List.perm_nil.1 hperm),by rw [hp'.length_eq],by omega,hb',hp'.trans hperm,hs',fun b2 hb2'=>?_⟩;rw [hf3 b2 (by omega) (by omega),hfr2 b2 (by omega)];exact hfr b2 hb2'
  ·obtain ⟨hmem,hnot⟩:=zAN he;obtain ⟨w,hwl,hx3,hkey,hval⟩:=hent e hmem;have hpe:=zAy hris he;have hplen:=hpe.length_eq;simp only [List.length_cons] at hplen;have hpp:=hpe.map zDo;simp only [zE,zK5,zO,zB,tgs,↓reduceIte,zy,List.getElem?_cons_zero,zBR,zX,Ov_nil,zC];refine Ev.seq (Ev.cond true (by simp) (fun _=>Ev.skip ?_) (by simp));show Ev P orc false _ _ _ _ _;have hoe:zCd (hset h2 nx1 (.iter (some nx') L.length (seen++[e.born]) L.length)) (.pointer (some ⟨nx1,0,none⟩)) = .ok (.tuple ⟨[keyV (zDo e),.agg ⟨zF w⟩]⟩):=by
    rw [zDN (r:=nx') (since:=L.length) (ck:=L.length) (seen:=seen) (es:=zAC 0 L) (e:=e) (by simp) (by simp [show nx'≠nx1 by omega]; exact hm2) hris hmem,hkey,hval]
   have hsl2:SlAt (hset h2 nx1 (.iter (some nx') L.length (seen++[e.born]) L.length)) (tget tm2 13) encE 3 acc (nx1+1) nx2:=by
    rcases hsl with ⟨e1,e2⟩ | ⟨bk,g1,g2,g3,g4⟩
    ·exact .inl ⟨e1,e2⟩
    ·exact .inr ⟨bk,g1,g2,g3,by simp [show bk≠nx1 by omega]; exact g4⟩
   refine Ev.block (zHw (s:=false) A.na A.nna A.wn A.nwn A.of A.nof A.w A.eq hx3 hwl (it:=nx1) (lo:=nx1+1) (by simp [u52]) hoe (by simpa using hsl2) (by omega) (by omega) ?_);intro tm3 h3 nx3 hlow t52 hnx3 hsl3 hf3;simp only [zAX,zC];have v0:=hlow 0 (by omega);simp only [tgs,u0,u52,seval] at v0 t52;refine ⟨_,?_,seen++[e.born],acc++[zDo e],rfl,by omega,v0,t52,hsl3,fun h=>by simp at h,?_,by rw [hf3 _ (by omega)]; simp,fun b hb=>by rw [hf3 b (by omega)]; simp [show b≠nx1 by omega]; exact hfr2 b hb⟩
   ·omega
   ·refine List.Perm.trans ?_ hperm;rw [List.append_assoc];exact List.Perm.append_left acc (List.Perm.symm hpp)
end
def zHC:List Value→Option (List Edg)
 | []=>some []
 | .int .i64 a::.int .i64 b::.int .i64 c::l=>(match zHC l with
  | some r=>bif zBF a&&(zBF b&&zBF c) then some ((a,b,c)::r) else none
  | none=>none)
 | _=>none
def zEj (h:Hp) (nx:Nat) (l:List Edg):CR:=match l with
 | []=>.ok (.tuple ⟨[.slice none 0 0,.int .i64 0]⟩) h nx
 | l=>bif zAp ltE l then .ok (.tuple ⟨[.slice (some ⟨nx,0,some 3⟩) l.length l.length,.int .i64 0]⟩) (hset h nx (.cells (flat encE l) false)) (nx+1) else .no "Combine"
def zFh (args:List Value) (h:Hp) (nx:Nat):CR:=match args with
 | [.int .i64 (.ofNat 1),.slice _ 0 _]=>.ok (.tuple ⟨[.slice none 0 0,.int .i64 0]⟩) h nx
 | [.int .i64 (.ofNat 1),.slice (some a) n _]=>(match hget h a.block with
  | some (.cells cs _)=>(match lcut (n*3) (zC3 cs a.off) with
   | some l=>(match zHC l with
    | some es=>bif Nat.ble es.length 120 then zEj h nx (zAq ltE (zq [] es)) else .no "Combine"
    | none=>.no "Combine")
   | none=>.no "Combine")
  | _=>.no "Combine")
 | _=>.no "Combine"
theorem zRp:∀ (N:Nat) {l:List Value} {es:List Edg},l.length≤N→zHC l=some es→l=flat encE es∧∀ x∈es,zBU x:=by
 intro N
 induction N with
 | zero =>
  intro l es hl h;cases l with
  | nil=>cases h; exact ⟨rfl,fun x hx=>by cases hx⟩
  | cons x l=>simp at hl
 | succ N ih =>
  intro l es hl h;unfold zHC at h
  split at h
  ·cases h; exact ⟨rfl,fun x hx=>by cases hx⟩
  ·rename_i a b c l
   split at h
   ·rename_i r hr
    obtain ⟨h1,h2⟩:=ih (by simp at hl; omega) hr;cases hs:(zBF a&&(zBF b&&zBF c)) with
    | false=>rw [hs] at h; cases h
    | true =>
     rw [hs] at h;cases h;simp only [Bool.and_eq_true] at hs;refine ⟨by rw [h1]; rfl,fun x hx=>?_⟩;rcases List.mem_cons.1 hx with rfl | hx
     ·exact ⟨hs.1,hs.2.1,hs.2.2⟩
     ·exact h2 x hx
   ·cases h
  ·cases h
section
variable {P:Program}
theorem zRb (hP:POk P) {f fis fof fad fna fs fo fl fw fwn tr tw kt:Nat} {R1 R2 R3:CC} (A:CombF P orc0 f fis fof fad fna fs fo fl fw fwn tr tw kt R1 R2 R3):zF2 P f zFh:=by
 intro args h nx K hs;unfold zFh at hs
 split at hs <;> first | exact hs.elim | skip
 ·rename_i a cap
  have hs:K (.tuple ⟨[.slice none 0 0,.int .i64 0]⟩) h nx:=hs;refine zE5 hP zDx (zBC hP A.cf) (v:=.tuple ⟨[.slice none 0 0,.int .i64 0]⟩) rfl (fun hfr=>?_) hs;refine (zEJ A (n:=0) (bs:=0) (os:=0) (sp:=none) (cs:=[]) (ro:=false) (es:=[]) (fun h=>absurd h (by omega)) (fun h=>absurd h (by omega)) (fun h=>absurd h (by omega)) rfl (by omega) (fun x hx=>by cases hx) (fun i x hx=>by simp at hx)).mono ?_;have old:∀ {h':Hp},(∀ b,b<nx→hget h' b=hget h b)→∀ b o,hget h b=some o→hget h' b=some o:=fun {h'} hold b o ho=>by
   rw [hold b ?_]
   ·exact ho
   ·rcases Nat.lt_or_ge b nx with h | h
    ·exact h
    ·rw [hfr b h] at ho; cases ho
  rintro v h' nx' (⟨_,rfl,hold⟩ | ⟨bk,l,hn,_⟩)
  ·exact ⟨rfl,old hold⟩
  ·exact absurd rfl hn
 ·rename_i a n cap hn0
  split at hs <;> first | exact hs.elim | skip
  rename_i cs ro hc
  split at hs <;> first | exact hs.elim | skip
  rename_i l hcut
  split at hs <;> first | exact hs.elim | skip
  rename_i es hes
  cases hle:Nat.ble es.length 120 with
  | false=>rw [hle] at hs; exact hs.elim
  | true =>
   rw [hle] at hs;simp only [cond_true] at hs;have h60:=Nat.le_of_ble_eq_true hle;obtain ⟨hl,hsm⟩:=zRp _ (Nat.le_refl _) hes;obtain ⟨b,o,sp⟩:=a;rw [zAz,zAe] at hcut;simp only at hcut hc
   split at hcut
   ·rename_i hlen
    injection hcut with hcut
    have hll:es.length=n:=by
     have e1:l.length=n*3:=by rw [← hcut,List.length_take]; omega
     rw [hl,zAF (k:=3) (fun _=>rfl)] at e1;omega
    have hld:∀ i x,es[i]? = some x→zA2 (some 3) (o+i*3) cs = .ok (.agg ⟨encE x⟩):=fun i x hx=>by
     have hi:i<es.length:=by
      rcases Nat.lt_or_ge i es.length with h | h
      ·exact h
      ·rw [List.getElem?_eq_none h] at hx; cases hx
     have hg:=zCv (enc:=encE) (k:=3) (fun _=>rfl) hx;rw [← hl,← hcut] at hg;rw [List.length_drop] at hlen;rw [zBh,if_pos (by omega)];rw [List.drop_take,List.take_take,List.drop_drop,Nat.min_eq_left (by omega)] at hg;rw [hg]
    have hbn:(∀ b,nx≤b→hget h b=none)→b<nx:=fun hfr=>by
     rcases Nat.lt_or_ge b nx with h | h
     ·exact h
     ·rw [hfr b h] at hc; cases hc
    have hperm:=zBO (lt:=ltE) (zq [] es);have old:(∀ b,nx≤b→hget h b=none)→∀ {h':Hp},(∀ b,b<nx→hget h' b=hget h b)→∀ b o,hget h b=some o→hget h' b=some o:=fun hfr {h'} hold b o ho=>by
     rw [hold b ?_]
     ·exact ho
     ·rcases Nat.lt_or_ge b nx with h | h
      ·exact h
      ·rw [hfr b h] at ho; cases ho
    unfold zEj at hs
    split at hs
    ·rename_i l2 hne
     have hcn:zq [] es=[]:=by rw [hne] at hperm; exact List.nil_perm.1 hperm
     have hs:K (.tuple ⟨[.slice none 0 0,.int .i64 0]⟩) h nx:=hs;refine zE5 hP zDx (zBC hP A.cf) (v:=.tuple ⟨[.slice none 0 0,.int .i64 0]⟩) rfl (fun hfr=>?_) hs;refine (zEJ A (fun _=>rfl) (fun _=>hc) (fun _=>hbn hfr) hll (hll ▸ h60) hsm hld).mono ?_;rintro v h' nx' (⟨_,rfl,hold⟩ | ⟨bk,l,hn,_⟩)
     ·exact ⟨rfl,old hfr hold⟩
     ·exact absurd hcn hn
    ·rename_i l2 hne
     cases hso:zAp ltE (zAq ltE (zq [] es)) with
     | false=>rw [hso] at hs; exact hs.elim
     | true =>
      rw [hso] at hs;have hs:K (.tuple ⟨[.slice (some ⟨nx,0,some 3⟩) (zAq ltE (zq [] es)).length (zAq ltE (zq [] es)).length,.int .i64 0]⟩) (hset h nx (.cells (flat encE (zAq ltE (zq [] es))) false)) (nx+1):=hs;have hsrt:(zAq ltE (zq [] es)).Pairwise (fun x y=>¬ cmpE y x<0):=(zD2 hso).imp fun h=>ltE_eq.1 h;have hcne:zq [] es≠[]:=fun e=>hne (by rw [e]; rfl);generalize hL:zAq ltE (zq [] es)=L at *
      refine zGb hP zDx (val:=fun b=>.tuple ⟨[.slice (some ⟨b,0,some 3⟩) L.length L.length,.int .i64 0]⟩) (cs:=flat encE L) (zD8 (fun _=>rfl) L) (zBC hP A.cf) (fun ρ ρ' b p c hp hq hv=>zG6 _ _ _ ρ ρ' nx b p c hp hq hv) (fun hfr=>?_) hs;refine (zEJ A (fun _=>rfl) (fun _=>hc) (fun _=>hbn hfr) hll (hll ▸ h60) hsm hld).mono ?_;rintro v h' nx' (⟨hn,_⟩ | ⟨bk,l',_,rfl,hbk,hcs,hp',hs',hold⟩)
      ·exact absurd hn hcne
      ·have:l'=L:=zEW (R:=fun x y=>¬ cmpE y x<0) (fun x y=>zKW x y) (hp'.trans hperm.symm) hs' hsrt;subst this;exact ⟨bk,rfl,hbk,hcs,old hfr hold⟩
   ·cases hcut
end
end Go.Ax
