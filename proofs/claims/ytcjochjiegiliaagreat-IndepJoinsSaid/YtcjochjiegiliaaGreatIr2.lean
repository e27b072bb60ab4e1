/- Parts of the proof: Ir2: each statement bears its own conditions. -/
import Derived.Sort.LotC
import Derived.Sort.Lot0
import Derived.Sort.AssemblyPlain
import Derived.Test.YtcjochjiegiliaaGreatIr1
namespace Go.Ax
open Go
set_option linter.unusedSimpArgs false
set_option linter.unusedVariables false
set_option linter.unusedSectionVars false
section
variable {P:Program} {orc:Orc} {s:Bool}
theorem bin_quo {t:TypeId} {k:IntKind} {a b:Int} (hb:b≠0):bin P .quo t (.int k a) (.int k b) = .ok (.int k (k.wrap (a.tdiv b))):=by
 rw [bin_i _ _ _ _ _ rfl]
 show iDiv .quo k a b=_
 unfold iDiv
 rw [ieq_beq,show (b == 0)=false by simp [hb],← fwrap_eq]
 rfl
theorem wrapP {q:Nat} (h:q<1000000000):IntKind.wrap .i64 ((q:Int)-1)=(q:Int)-1:=by
 cases q with
 | zero=>rfl
 | succ q =>
  rw [show ((q+1:Nat):Int)-1=(q:Int) by omega]
  exact wrapS (by omega) (by omega)
theorem Ev.loopG {B c:Nat} {cnd tail:CC} {K:KO'} (J:Nat→KS')
  (hJ:∀ m tm h nx,J m tm h nx→Ev P orc s cnd tm h nx (nextK (fun tm h nx=>∃ t:Bool,tget tm c = .bool t∧(t=false→K .normal tm h nx) ∧
   (t=true→Ev P orc s tail tm h nx (nextK (fun tm h nx=>∃ m',m'<m∧J m' tm h nx) (blkK B K)))) (fun _ _ _ _=>False))) :
  ∀ m tm h nx,J m tm h nx→Ev P orc s (.block B (.loop (.seq (.seq cnd (.cond (.t c) .skip (.exit B))) tail))) tm h nx K:=by
 intro m tm h nx hj
 refine Ev.block (Ev.loop J ?_ m tm h nx hj)
 intro m tm h nx hj
 refine Ev.seq (Ev.seq ((hJ m tm h nx hj).mono ?_))
 intro x tm h nx hx
 cases x with
 | normal =>
  simp only [nextK_normal] at hx ⊢
  obtain ⟨t,ht,hf,hg⟩:=hx
  refine Ev.cond t (by simpa using ht) (fun e=>Ev.skip ?_) (fun e=>Ev.exit ?_)
  ·simp only [nextK_normal]
   exact hg e
  ·simp only [nextK_exit,blkK_exit,↓reduceIte]
   exact hf e
 | ret=>exact hx.elim
 | exit i=>exact hx.elim
variable {α:Type} [Inhabited α] {enc:α→List Value} {k:Nat}
def cfHeap (fs k:Nat):CF:={ res:=[],body :=
 (.seq (.regO [⟨none,(some 13),0,.pur (.mv (.t 1))⟩,
  ⟨none,(some 8),0,.pur (.mv (.t 13))⟩])
 (.seq (.regO [⟨none,(some 9),0,.pur (.mv (.v (.int .i64 0)))⟩])
 (.seq (.regO [⟨none,(some 14),0,.pur (.mv (.t 2))⟩,
  ⟨none,(some 15),0,.pur (.mv (.t 1))⟩,
  ⟨none,(some 16),0,.pur (.bin .sub 3 (.t 14) (.t 15))⟩,
  ⟨none,(some 10),0,.pur (.mv (.t 16))⟩])
 (.seq (.seq (.regO [⟨none,(some 17),0,.pur (.mv (.t 10))⟩,
  ⟨none,(some 18),0,.pur (.bin .sub 3 (.t 17) (.v (.int .i64 1)))⟩,
  ⟨none,(some 19),0,.pur (.bin .quo 3 (.t 18) (.v (.int .i64 2)))⟩,
  ⟨none,(some 11),0,.pur (.mv (.t 19))⟩])
 (.block 0
 (.loop
  (.seq (.seq (.regO [⟨none,(some 20),0,.pur (.mv (.t 11))⟩,
   ⟨none,(some 21),0,.pur (.bin .geq 3 (.t 20) (.v (.int .i64 0)))⟩])
  (.cond (.t 21)
  .skip
  (.exit 0)))
  (.seq (.block 1
  (.regO [⟨none,(some 24),0,.pur (.mv (.t 0))⟩,
   ⟨none,(some 25),0,.pur (.mv (.t 11))⟩,
   ⟨none,(some 26),0,.pur (.mv (.t 10))⟩,
   ⟨none,(some 27),0,.pur (.mv (.t 8))⟩,
   ⟨none,(some 28),0,.pur (.mv (.t 3))⟩,
   ⟨none,(some 29),0,.eff (.call fs [(.t 24),(.t 25),(.t 26),(.t 27),(.t 28)])⟩]))
  (.regO [⟨none,(some 22),0,.pur (.mv (.t 11))⟩,
   ⟨none,(some 23),0,.pur (.bin .sub 3 (.t 22) (.v (.int .i64 1)))⟩,
   ⟨none,(some 11),0,.pur (.mv (.t 23))⟩]))))))
 (.seq (.regO [⟨none,(some 30),0,.pur (.mv (.t 10))⟩,
  ⟨none,(some 31),0,.pur (.bin .sub 3 (.t 30) (.v (.int .i64 1)))⟩,
  ⟨none,(some 12),0,.pur (.mv (.t 31))⟩])
 (.block 2
 (.loop
  (.seq (.seq (.regO [⟨none,(some 32),0,.pur (.mv (.t 12))⟩,
   ⟨none,(some 33),0,.pur (.bin .geq 3 (.t 32) (.v (.int .i64 0)))⟩])
  (.cond (.t 33)
  .skip
  (.exit 2)))
  (.seq (.block 3
  (.seq (.regD [⟨none,(some 36),0,.pur (.mv (.t 0))⟩,
   ⟨none,(some 37),0,.pur (.mv (.t 8))⟩,
   ⟨none,(some 42),0,.pur (.mv (.t 0))⟩,
   ⟨none,(some 43),0,.pur (.mv (.t 8))⟩,
   ⟨none,(some 44),0,.pur (.mv (.t 12))⟩,
   ⟨none,(some 45),0,.pur (.bin .add 3 (.t 43) (.t 44))⟩,
   ⟨none,(some 46),0,.pur (.ixA (.slice k) (.t 42) (.t 45))⟩,
   ⟨none,(some 47),0,.red (.ld (some k) (.t 46))⟩,
   ⟨none,(some 48),0,.pur (.mv (.t 0))⟩,
   ⟨none,(some 49),0,.pur (.mv (.t 8))⟩,
   ⟨none,(some 50),0,.pur (.ixA (.slice k) (.t 48) (.t 49))⟩,
   ⟨none,(some 51),0,.red (.ld (some k) (.t 50))⟩,
   ⟨none,(some 52),0,.pur (.ixA (.slice k) (.t 36) (.t 37))⟩,
   ⟨none,none,0,.eff (.st k (.t 52) (.t 47))⟩,
   ⟨none,(some 38),1,.pur (.mv (.t 0))⟩,
   ⟨none,(some 39),1,.pur (.mv (.t 8))⟩,
   ⟨none,(some 40),1,.pur (.mv (.t 12))⟩,
   ⟨none,(some 41),1,.pur (.bin .add 3 (.t 39) (.t 40))⟩,
   ⟨none,(some 53),0,.pur (.ixA (.slice k) (.t 38) (.t 41))⟩,
   ⟨none,none,0,.eff (.st k (.t 53) (.t 51))⟩])
  (.regO [⟨none,(some 54),0,.pur (.mv (.t 0))⟩,
   ⟨none,(some 55),0,.pur (.mv (.t 9))⟩,
   ⟨none,(some 56),0,.pur (.mv (.t 12))⟩,
   ⟨none,(some 57),0,.pur (.mv (.t 8))⟩,
   ⟨none,(some 58),0,.pur (.mv (.t 3))⟩,
   ⟨none,(some 59),0,.eff (.call fs [(.t 54),(.t 55),(.t 56),(.t 57),(.t 58)])⟩])))
  (.regO [⟨none,(some 34),0,.pur (.mv (.t 12))⟩,
   ⟨none,(some 35),0,.pur (.bin .sub 3 (.t 34) (.v (.int .i64 1)))⟩,
   ⟨none,(some 12),0,.pur (.mv (.t 35))⟩])))))))))) }
def HpJ0 {α:Type} [Inhabited α] (enc:α→List Value) (c:α→α→Int) (b n cap:Nat) (sp:Option Nat) (fc hi first:Nat) (dE:Array α) (nx:Nat) (h:Hp) (m:Nat) (tm:Tm) (h':Hp) (nx':Nat):Prop :=
 ∃ (q:Nat) (d:Array α),m=q∧tget tm 0 = .slice (some ⟨b,0,sp⟩) n cap∧tget tm 3 = .func (.func fc) #[] #[]∧tget tm 8 = .int .i64 (first:Int)∧tget tm 9 = .int .i64 0∧tget tm 10 = .int .i64 (hi:Int)∧tget tm 11 = .int .i64 ((q:Int)-1) ∧
  d.size=n∧q≤100000∧Sort.heapBuild (ltC c) hi first q d=dE∧hget h' b=some (.cells (arr enc d) false)∧(∀ c,c<nx→c≠b→hget h' c=hget h c)∧nx≤nx'
def HpJ2 {α:Type} [Inhabited α] (enc:α→List Value) (c:α→α→Int) (b n cap:Nat) (sp:Option Nat) (fc hi first:Nat) (dE:Array α) (nx:Nat) (h:Hp) (m:Nat) (tm:Tm) (h':Hp) (nx':Nat):Prop :=
 ∃ (q:Nat) (d:Array α),m=q∧tget tm 0 = .slice (some ⟨b,0,sp⟩) n cap∧tget tm 3 = .func (.func fc) #[] #[]∧tget tm 8 = .int .i64 (first:Int)∧tget tm 9 = .int .i64 0∧tget tm 12 = .int .i64 ((q:Int)-1) ∧
  d.size=n∧q≤hi∧Sort.heapPop (ltC c) first q d=dE∧hget h' b=some (.cells (arr enc d) false)∧(∀ c,c<nx→c≠b→hget h' c=hget h c)∧nx≤nx'
theorem sift_size (lt:α→α→Bool) (hi first:Nat):∀ (m root:Nat) (d:Array α),hi-root≤m→(Sort.siftDown lt hi first root d).size=d.size
 | 0,root,d,hm=>by rw [Sort.siftDown,dif_pos (by omega)]
 | m+1,root,d,hm=>by
  rw [Sort.siftDown]
  split
  ·rfl
  ·split
   ·split
    ·rfl
    ·split
     ·rw [sift_size lt hi first m _ _ (by omega)]; simp [Sort.swp]
     ·rfl
   ·split
    ·rfl
    ·rw [sift_size lt hi first m _ _ (by omega)]; simp [Sort.swp]
theorem heap_cv {f fs fc:Nat} {c:α→α→Int} (S:SoAt P orc fc k enc c) (hcf:compAt P f=some (cfHeap fs k)) (ho:orc f=none) (hcs:compAt P fs=some (cfSift k)) (hos:orc fs=none) {b n cap a e:Nat} {sp:Option Nat} {d:Array α} {h:Hp} {nx:Nat}
  (hb:b<nx) (hd:d.size=n) (hn:n<100000) (hae:a<e) (hen:e≤n) (hh:hget h b=some (.cells (arr enc d) false)) :
  Cv P orc s f [.slice (some ⟨b,0,sp⟩) n cap,.int .i64 (a:Int),.int .i64 (e:Int),.func (.func fc) #[] #[]] h nx (ArrK enc b (Sort.heapSort (ltC c) d a e) nx h):=by
 unfold Sort.heapSort
 generalize hd1:Sort.heapBuild (ltC c) (e-a) a ((e-a-1) / 2+1) d=d1
 refine Cv.enter ho hcf ?_
 unfold cfHeap
 refine Ev.seq (Ev.regO ?_)
 simp only [SB,seval]
 refine Ev.seq (Ev.regO ?_)
 simp only [SB,seval]
 refine Ev.seq (Ev.regO ?_)
 have w1:IntKind.wrap .i64 ((e:Int)-(a:Int))=((e-a:Nat):Int):=wSub (by omega) (by omega)
 simp only [SB,w1,seval]
 refine Ev.genT (fun tm2=>tget tm2 0 = .slice (some ⟨b,0,sp⟩) n cap∧tget tm2 3 = .func (.func fc) #[] #[]∧tget tm2 8 = .int .i64 (a:Int)∧tget tm2 9 = .int .i64 0∧tget tm2 10 = .int .i64 ((e-a:Nat):Int)) (by simp) ?_
 rintro tm2 ⟨u0,u3,u8,u9,u10⟩
 refine Ev.cut (fun tm h' nx'=>HpJ0 enc c b n cap sp fc (e-a) a d1 nx h 0 tm h' nx') ?_ ?_
 ·refine Ev.seq (Ev.regO ?_)
  have w2:IntKind.wrap .i64 (((e-a:Nat):Int)-1)=((e-a-1:Nat):Int):=wS1 (by omega) (by omega)
  have w3:IntKind.wrap .i64 (Int.tdiv ((e-a-1:Nat):Int) 2)=(((e-a-1) / 2:Nat):Int):=by
   rw [show Int.tdiv ((e-a-1:Nat):Int) 2=(((e-a-1) / 2:Nat):Int) from by rw [Int.tdiv_eq_ediv_of_nonneg (by omega)]; omega]
   exact wrapS (by omega) (by omega)
  simp only [SB,u10,w2,bin_quo (show (2:Int)≠0 by decide),w3,seval]
  refine Ev.loopG (HpJ0 enc c b n cap sp fc (e-a) a d1 nx h) ?_ ((e-a-1) / 2+1) _ _ _ ⟨_,d,rfl,by simp [u0],by simp [u3],by simp [u8],by simp [u9],by simp [u10],by simp,hd,by omega,hd1,hh,fun _ _ _=>rfl,Nat.le_refl _⟩
  rintro m tm h' nx' ⟨q,d,rfl,t0,t3,t8,t9,t10,t11,hd,hq,hE,hh,hfr,hnx⟩
  refine Ev.regO ?_
  simp only [SB,t11,seval]
  cases m with
  | zero =>
   refine ⟨false,by simp,fun _=>?_,fun e=>Bool.noConfusion e⟩
   exact ⟨0,d,rfl,by simp [t0],by simp [t3],by simp [t8],by simp [t9],by simp [t10],by simp [t11],hd,by omega,hE,hh,hfr,hnx⟩
  | succ q =>
   refine ⟨true,by simp <;> omega,fun e=>Bool.noConfusion e,fun _=>?_⟩
   have e1:((q+1:Nat):Int)-1=(q:Int):=by omega
   rw [e1] at t11
   have w4:IntKind.wrap .i64 ((q:Int)-1)=(q:Int)-1:=wrapP (by omega)
   refine Ev.seq (Ev.block (Ev.regO ?_))
   simp only [SB,t0,t3,t8,t10,t11,seval]
   refine Ov_call ?_
   simp only [cevs_nil,cevs_cons,cev_t,cev_v,tgs,seval]
   refine (sift_cv S hcs hos (by omega) hd hn (by omega) (by omega) hh).mono ?_
   rintro r h1 nx1 ⟨hh1,hf1,hn1⟩
   simp only [SB,t11,w4,seval]
   refine Ev.regO ?_
   simp only [SB,t11,w4,seval]
   exact ⟨q,by omega,q,_,rfl,by simp [t0],by simp [t3],by simp [t8],by simp [t9],by simp [t10],by simp,by rw [sift_size _ _ _ _ _ _ (Nat.le_refl _),hd],by omega,hE,hh1,fun c hc hcb=>(hf1 c (by omega) hcb).trans (hfr c hc hcb),by omega⟩
 ·rintro tm h' nx' ⟨q,d,hq0,t0,t3,t8,t9,t10,t11,hd,hq,hE,hh,hfr,hnx⟩
  subst hq0
  have hE:d=d1:=hE
  subst hE
  generalize hdE:Sort.heapPop (ltC c) a (e-a) d=dE
  refine Ev.seq (Ev.regO ?_)
  have w2:IntKind.wrap .i64 (((e-a:Nat):Int)-1)=((e-a:Nat):Int)-1:=wrapS (by omega) (by omega)
  simp only [SB,t10,w2,seval]
  refine Ev.loopG (HpJ2 enc c b n cap sp fc (e-a) a dE nx h) ?_ (e-a) _ _ _ ⟨_,d,rfl,by simp [t0],by simp [t3],by simp [t8],by simp [t9],by simp,hd,by omega,hdE,hh,hfr,hnx⟩
  rintro m tm h' nx' ⟨q,d,rfl,t0,t3,t8,t9,t12,hd,hq,hE,hh,hfr,hnx⟩
  refine Ev.regO ?_
  simp only [SB,t12,seval]
  cases m with
  | zero =>
   refine ⟨false,by simp,fun _=>?_,fun e=>Bool.noConfusion e⟩
   have hE:d=dE:=hE
   subst hE
   exact ⟨hh,hfr,hnx⟩
  | succ q =>
   refine ⟨true,by simp <;> omega,fun e=>Bool.noConfusion e,fun _=>?_⟩
   have e1:((q+1:Nat):Int)-1=(q:Int):=by omega
   rw [e1] at t12
   have w4:IntKind.wrap .i64 ((q:Int)-1)=(q:Int)-1:=wrapP (by omega)
   have w5:IntKind.wrap .i64 ((a:Int)+(q:Int))=((a+q:Nat):Int):=wN (by omega)
   have i1:a<n:=by omega
   have i2:a+q<n:=by omega
   have r1:=arr_ld S.hk (hd.symm ▸ i1)
   have r2:=arr_ld S.hk (hd.symm ▸ i2)
   have hE:Sort.heapPop (ltC c) a q (Sort.siftDown (ltC c) q a 0 (Sort.swp d a (a+q)))=dE:=hE
   refine Ev.seq (Ev.block (Ev.seq (Ev.regD ?_)))
   simp only [SB,t0,t8,t12,w5,i1,i2,cellsOf_some hh,r1,r2,seval]
   rw [arr_st S.hk S.cell hh (hd.symm ▸ i1)]
   rw [arr_st (d:=d.setIfInBounds (a) d[a+q]!) S.hk S.cell (by simp) (by simp; omega)]
   (try simp only [SB,seval])
   refine Ev.regO ?_
   simp only [SB,t0,t3,t8,t9,t12,seval]
   refine Ov_call ?_
   simp only [cevs_nil,cevs_cons,cev_t,cev_v,tgs,seval]
   refine (sift_cv (lo:=0) (hi:=q) (d:=Sort.swp d a (a+q)) S hcs hos (by omega) (by simp [Sort.swp,hd]) hn (by omega) (by omega) (by simp [Sort.swp])).mono ?_
   rintro r h1 nx1 ⟨hh1,hf1,hn1⟩
   simp only [SB,t12,w4,seval]
   refine Ev.regO ?_
   simp only [SB,t12,w4,seval]
   refine ⟨q,by omega,q,_,rfl,by simp [t0],by simp [t3],by simp [t8],by simp [t9],by simp,by rw [sift_size _ _ _ _ _ _ (Nat.le_refl _)]; simp [Sort.swp,hd],by omega,hE,hh1,fun c hc hcb=>?_,by omega⟩
   rw [hf1 c (by omega) hcb,hgs,if_neg hcb,hgs,if_neg hcb]
   exact hfr c hc hcb
def cfRev (k:Nat):CF:={ res:=[],body :=
 (.seq (.regO [⟨none,(some 10),0,.pur (.mv (.t 1))⟩,
  ⟨none,(some 8),0,.pur (.mv (.t 10))⟩])
 (.seq (.regO [⟨none,(some 11),0,.pur (.mv (.t 2))⟩,
  ⟨none,(some 12),0,.pur (.bin .sub 3 (.t 11) (.v (.int .i64 1)))⟩,
  ⟨none,(some 9),0,.pur (.mv (.t 12))⟩])
 (.block 0
 (.loop
  (.seq (.seq (.regO [⟨none,(some 13),0,.pur (.mv (.t 8))⟩,
   ⟨none,(some 14),0,.pur (.mv (.t 9))⟩,
   ⟨none,(some 15),0,.pur (.bin .lss 3 (.t 13) (.t 14))⟩])
  (.cond (.t 15)
  .skip
  (.exit 0)))
  (.block 1
  (.seq (.regD [⟨none,(some 16),0,.pur (.mv (.t 0))⟩,
   ⟨none,(some 17),0,.pur (.mv (.t 8))⟩,
   ⟨none,(some 20),0,.pur (.mv (.t 0))⟩,
   ⟨none,(some 21),0,.pur (.mv (.t 9))⟩,
   ⟨none,(some 22),0,.pur (.ixA (.slice k) (.t 20) (.t 21))⟩,
   ⟨none,(some 23),0,.red (.ld (some k) (.t 22))⟩,
   ⟨none,(some 24),0,.pur (.mv (.t 0))⟩,
   ⟨none,(some 25),0,.pur (.mv (.t 8))⟩,
   ⟨none,(some 26),0,.pur (.ixA (.slice k) (.t 24) (.t 25))⟩,
   ⟨none,(some 27),0,.red (.ld (some k) (.t 26))⟩,
   ⟨none,(some 28),0,.pur (.ixA (.slice k) (.t 16) (.t 17))⟩,
   ⟨none,none,0,.eff (.st k (.t 28) (.t 23))⟩,
   ⟨none,(some 18),1,.pur (.mv (.t 0))⟩,
   ⟨none,(some 19),1,.pur (.mv (.t 9))⟩,
   ⟨none,(some 29),0,.pur (.ixA (.slice k) (.t 18) (.t 19))⟩,
   ⟨none,none,0,.eff (.st k (.t 29) (.t 27))⟩])
  (.seq (.regO [⟨none,(some 30),0,.pur (.mv (.t 8))⟩,
   ⟨none,(some 31),0,.pur (.bin .add 3 (.t 30) (.v (.int .i64 1)))⟩,
   ⟨none,(some 8),0,.pur (.mv (.t 31))⟩])
  (.regO [⟨none,(some 32),0,.pur (.mv (.t 9))⟩,
   ⟨none,(some 33),0,.pur (.bin .sub 3 (.t 32) (.v (.int .i64 1)))⟩,
   ⟨none,(some 9),0,.pur (.mv (.t 33))⟩]))))))))) }
def RvJ {α:Type} [Inhabited α] (enc:α→List Value) (b n cap:Nat) (sp:Option Nat) (dE:Array α) (nx:Nat) (h:Hp) (m:Nat) (tm:Tm) (h':Hp) (nx':Nat):Prop :=
 ∃ (i j:Nat) (d:Array α),m=j-i∧tget tm 0 = .slice (some ⟨b,0,sp⟩) n cap∧tget tm 8 = .int .i64 (i:Int)∧tget tm 9 = .int .i64 (j:Int)∧i≤n∧j<n ∧
  d.size=n∧Sort.reverseLoop i j d=dE∧hget h' b=some (.cells (arr enc d) false)∧(∀ c,c<nx→c≠b→hget h' c=hget h c)∧nx≤nx'
theorem rev_cv {f fc:Nat} {c:α→α→Int} (S:SoAt P orc fc k enc c) (hcf:compAt P f=some (cfRev k)) (ho:orc f=none) {b n cap a e:Nat} {sp:Option Nat} {d:Array α} {h:Hp} {nx:Nat} {v:Value}
  (hb:b<nx) (hd:d.size=n) (hn:n<100000) (hae:a<e) (hen:e≤n) (hh:hget h b=some (.cells (arr enc d) false)) :
  Cv P orc s f [.slice (some ⟨b,0,sp⟩) n cap,.int .i64 (a:Int),.int .i64 (e:Int),v] h nx (ArrK enc b (Sort.reverseRange d a e) nx h):=by
 unfold Sort.reverseRange
 generalize hdE:Sort.reverseLoop a (e-1) d=dE
 refine Cv.enter ho hcf ?_
 unfold cfRev
 refine Ev.seq (Ev.regO ?_)
 simp only [SB,seval]
 refine Ev.seq (Ev.regO ?_)
 have w1:IntKind.wrap .i64 ((e:Int)-1)=((e-1:Nat):Int):=wS1 (by omega) (by omega)
 simp only [SB,w1,seval]
 refine Ev.loopG (RvJ enc b n cap sp dE nx h) ?_ (e-1-a) _ _ _ ⟨a,e-1,d,rfl,by simp,by simp,by simp,by omega,by omega,hd,hdE,hh,fun _ _ _=>rfl,Nat.le_refl _⟩
 rintro m tm h' nx' ⟨i,j,d,rfl,t0,t8,t9,hi,hj,hd,hE,hh,hfr,hnx⟩
 refine Ev.regO ?_
 simp only [SB,t8,t9,seval]
 rw [Sort.reverseLoop] at hE
 by_cases hij:i<j
 ·rw [if_pos hij] at hE
  refine ⟨true,by simp <;> omega,fun e=>Bool.noConfusion e,fun _=>?_⟩
  have w2:IntKind.wrap .i64 ((i:Int)+1)=((i+1:Nat):Int):=wN1 (by omega)
  have w3:IntKind.wrap .i64 ((j:Int)-1)=((j-1:Nat):Int):=wS1 (by omega) (by omega)
  have i1:i<n:=by omega
  have i2:j<n:=by omega
  have r1:=arr_ld S.hk (hd.symm ▸ i1)
  have r2:=arr_ld S.hk (hd.symm ▸ i2)
  refine Ev.block (Ev.seq (Ev.regD ?_))
  simp only [SB,t0,t8,t9,i1,i2,cellsOf_some hh,r1,r2,seval]
  rw [arr_st S.hk S.cell hh (hd.symm ▸ i1)]
  rw [arr_st (d:=d.setIfInBounds (i) d[j]!) S.hk S.cell (by simp) (by simp; omega)]
  (try simp only [SB,seval])
  refine Ev.seq (Ev.regO ?_)
  simp only [SB,t8,w2,seval]
  refine Ev.regO ?_
  simp only [SB,t9,w3,seval]
  refine ⟨j-1-(i+1),by omega,i+1,j-1,Sort.swp d i j,rfl,by simp [t0],by simp,by simp,by omega,by omega,by simp [Sort.swp,hd],hE,by simp [Sort.swp],fun c hc hcb=>?_,by omega⟩
  rw [hgs,if_neg hcb,hgs,if_neg hcb]
  exact hfr c hc hcb
 ·rw [if_neg hij] at hE
  subst hE
  refine ⟨false,by simp <;> omega,fun _=>?_,fun e=>Bool.noConfusion e⟩
  exact ⟨hh,hfr,hnx⟩
end
section
variable {P:Program} {orc:Orc} {s:Bool}
variable {α:Type} [Inhabited α] {enc:α→List Value} {k:Nat}
def cfInsF (k:Nat):CF:={ res:=[],body :=
 (.seq (.regO [⟨none,(some 10),0,.pur (.mv (.t 1))⟩,
  ⟨none,(some 11),0,.pur (.bin .add 3 (.t 10) (.v (.int .i64 1)))⟩,
  ⟨none,(some 8),0,.pur (.mv (.t 11))⟩])
 (.block 0
 (.loop
  (.seq (.seq (.regO [⟨none,(some 12),0,.pur (.mv (.t 8))⟩,
   ⟨none,(some 13),0,.pur (.mv (.t 2))⟩,
   ⟨none,(some 14),0,.pur (.bin .lss 3 (.t 12) (.t 13))⟩])
  (.cond (.t 14)
  .skip
  (.exit 0)))
  (.seq (.block 1
  (.seq (.regO [⟨none,(some 17),0,.pur (.mv (.t 8))⟩,
   ⟨none,(some 9),0,.pur (.mv (.t 17))⟩])
  (.block 2
   (.loop
   (.seq (.seq (.regD [⟨none,(some 18),0,.pur (.mv (.t 9))⟩,
    ⟨none,(some 19),0,.pur (.mv (.t 1))⟩,
    ⟨none,(some 20),0,.pur (.bin .gtr 3 (.t 18) (.t 19))⟩,
    ⟨none,(some 21),0,.pur (.mv (.t 20))⟩,
    ⟨(some (21,true)),(some 22),0,.pur (.mv (.t 3))⟩,
    ⟨(some (21,true)),(some 23),0,.pur (.mv (.t 0))⟩,
    ⟨(some (21,true)),(some 24),0,.pur (.mv (.t 9))⟩,
    ⟨(some (21,true)),(some 25),0,.pur (.ixA (.slice k) (.t 23) (.t 24))⟩,
    ⟨(some (21,true)),(some 26),0,.red (.ld (some k) (.t 25))⟩,
    ⟨(some (21,true)),(some 27),0,.pur (.mv (.t 0))⟩,
    ⟨(some (21,true)),(some 28),0,.pur (.mv (.t 9))⟩,
    ⟨(some (21,true)),(some 29),0,.pur (.bin .sub 3 (.t 28) (.v (.int .i64 1)))⟩,
    ⟨(some (21,true)),(some 30),0,.pur (.ixA (.slice k) (.t 27) (.t 29))⟩,
    ⟨(some (21,true)),(some 31),0,.red (.ld (some k) (.t 30))⟩,
    ⟨(some (21,true)),(some 32),0,.eff (.callv (.t 22) [(.t 26),(.t 31)])⟩,
    ⟨(some (21,true)),(some 33),0,.pur (.bin .lss 3 (.t 32) (.v (.int .i64 0)))⟩,
    ⟨none,(some 34),0,.pur (.pick (.t 21) (.t 33) (.v (.bool false)))⟩])
   (.cond (.t 34)
    .skip
    (.exit 2)))
   (.seq (.block 3
    (.regD [⟨none,(some 37),0,.pur (.mv (.t 0))⟩,
     ⟨none,(some 38),0,.pur (.mv (.t 9))⟩,
     ⟨none,(some 42),0,.pur (.mv (.t 0))⟩,
     ⟨none,(some 43),0,.pur (.mv (.t 9))⟩,
     ⟨none,(some 44),0,.pur (.bin .sub 3 (.t 43) (.v (.int .i64 1)))⟩,
     ⟨none,(some 45),0,.pur (.ixA (.slice k) (.t 42) (.t 44))⟩,
     ⟨none,(some 46),0,.red (.ld (some k) (.t 45))⟩,
     ⟨none,(some 47),0,.pur (.mv (.t 0))⟩,
     ⟨none,(some 48),0,.pur (.mv (.t 9))⟩,
     ⟨none,(some 49),0,.pur (.ixA (.slice k) (.t 47) (.t 48))⟩,
     ⟨none,(some 50),0,.red (.ld (some k) (.t 49))⟩,
     ⟨none,(some 51),0,.pur (.ixA (.slice k) (.t 37) (.t 38))⟩,
     ⟨none,none,0,.eff (.st k (.t 51) (.t 46))⟩,
     ⟨none,(some 39),1,.pur (.mv (.t 0))⟩,
     ⟨none,(some 40),1,.pur (.mv (.t 9))⟩,
     ⟨none,(some 41),1,.pur (.bin .sub 3 (.t 40) (.v (.int .i64 1)))⟩,
     ⟨none,(some 52),0,.pur (.ixA (.slice k) (.t 39) (.t 41))⟩,
     ⟨none,none,0,.eff (.st k (.t 52) (.t 50))⟩]))
   (.regO [⟨none,(some 35),0,.pur (.mv (.t 9))⟩,
    ⟨none,(some 36),0,.pur (.bin .sub 3 (.t 35) (.v (.int .i64 1)))⟩,
    ⟨none,(some 9),0,.pur (.mv (.t 36))⟩])))))))
  (.regO [⟨none,(some 15),0,.pur (.mv (.t 8))⟩,
   ⟨none,(some 16),0,.pur (.bin .add 3 (.t 15) (.v (.int .i64 1)))⟩,
   ⟨none,(some 8),0,.pur (.mv (.t 16))⟩])))))) }
def IsJ0 {α:Type} [Inhabited α] (enc:α→List Value) (c:α→α→Int) (b n cap:Nat) (sp:Option Nat) (fc a e:Nat) (dE:Array α) (nx:Nat) (h:Hp) (m:Nat) (tm:Tm) (h':Hp) (nx':Nat):Prop :=
 ∃ (i:Nat) (d:Array α),m=e-i∧tget tm 0 = .slice (some ⟨b,0,sp⟩) n cap∧tget tm 1 = .int .i64 (a:Int)∧tget tm 2 = .int .i64 (e:Int)∧tget tm 3 = .func (.func fc) #[] #[]∧tget tm 8 = .int .i64 (i:Int)∧a<i∧i<200000 ∧
  d.size=n∧Sort.insOuter (ltC c) a e i d=dE∧hget h' b=some (.cells (arr enc d) false)∧(∀ c,c<nx→c≠b→hget h' c=hget h c)∧nx≤nx'
def IsQ {α:Type} [Inhabited α] (enc:α→List Value) (c:α→α→Int) (b n cap:Nat) (sp:Option Nat) (fc a e:Nat) (i:Nat) (dI:Array α) (nx:Nat) (h:Hp) (tm:Tm) (h':Hp) (nx':Nat):Prop :=
 tget tm 0 = .slice (some ⟨b,0,sp⟩) n cap∧tget tm 1 = .int .i64 (a:Int)∧tget tm 2 = .int .i64 (e:Int)∧tget tm 3 = .func (.func fc) #[] #[]∧tget tm 8 = .int .i64 (i:Int)∧hget h' b=some (.cells (arr enc dI) false)∧(∀ c,c<nx→c≠b→hget h' c=hget h c)∧nx≤nx'
def IsJ2 {α:Type} [Inhabited α] (enc:α→List Value) (c:α→α→Int) (b n cap:Nat) (sp:Option Nat) (fc a e:Nat) (i:Nat) (dI:Array α) (nx:Nat) (h:Hp) (m:Nat) (tm:Tm) (h':Hp) (nx':Nat):Prop :=
 ∃ (j:Nat) (d:Array α),m=j∧tget tm 0 = .slice (some ⟨b,0,sp⟩) n cap∧tget tm 1 = .int .i64 (a:Int)∧tget tm 2 = .int .i64 (e:Int)∧tget tm 3 = .func (.func fc) #[] #[]∧tget tm 8 = .int .i64 (i:Int)∧tget tm 9 = .int .i64 (j:Int)∧j≤i ∧
  d.size=n∧Sort.insInner (ltC c) a j d=dI∧hget h' b=some (.cells (arr enc d) false)∧(∀ c,c<nx→c≠b→hget h' c=hget h c)∧nx≤nx'
theorem insInner_size (lt:α→α→Bool) (a:Nat):∀ (j:Nat) (d:Array α),(Sort.insInner lt a j d).size=d.size
 | 0,d=>rfl
 | j+1,d=>by
  unfold Sort.insInner
  split
  ·rw [insInner_size lt a j]; simp [Sort.swp]
  ·rfl
theorem insF_cv {f fc:Nat} {c:α→α→Int} (S:SoAt P orc fc k enc c) (hcf:compAt P f=some (cfInsF k)) (ho:orc f=none) {b n cap a e:Nat} {sp:Option Nat} {d:Array α} {h:Hp} {nx:Nat}
  (hb:b<nx) (hd:d.size=n) (hn:n<100000) (ha:a≤n) (hen:e≤n) (hh:hget h b=some (.cells (arr enc d) false)) :
  Cv P orc s f [.slice (some ⟨b,0,sp⟩) n cap,.int .i64 (a:Int),.int .i64 (e:Int),.func (.func fc) #[] #[]] h nx (ArrK enc b (Sort.insertionSort (ltC c) d a e) nx h):=by
 unfold Sort.insertionSort
 generalize hdE:Sort.insOuter (ltC c) a e (a+1) d=dE
 refine Cv.enter ho hcf ?_
 unfold cfInsF
 refine Ev.seq (Ev.regO ?_)
 have w1:IntKind.wrap .i64 ((a:Int)+1)=((a+1:Nat):Int):=wN1 (by omega)
 simp only [SB,w1,seval]
 refine Ev.loopG (IsJ0 enc c b n cap sp fc a e dE nx h) ?_ (e-(a+1)) _ _ _ ⟨a+1,d,rfl,by simp,by simp,by simp,by simp,by simp,by omega,by omega,hd,hdE,hh,fun _ _ _=>rfl,Nat.le_refl _⟩
 rintro m tm h' nx' ⟨i,d,rfl,t0,t1,t2,t3,t8,hai,hi2,hd,hE,hh,hfr,hnx⟩
 refine Ev.regO ?_
 simp only [SB,t2,t8,seval]
 rw [Sort.insOuter] at hE
 by_cases hie:i<e
 ·rw [if_pos hie] at hE
  refine ⟨true,by simp <;> omega,fun e=>Bool.noConfusion e,fun _=>?_⟩
  have w2:IntKind.wrap .i64 ((i:Int)+1)=((i+1:Nat):Int):=wN1 (by omega)
  generalize hdI:Sort.insInner (ltC c) a i d=dI at hE
  have hdIs:dI.size=n:=by rw [← hdI,insInner_size,hd]
  refine Ev.cut (IsQ enc c b n cap sp fc a e i dI nx h) ?_ ?_
  ·refine Ev.block (Ev.seq (Ev.regO ?_))
   simp only [SB,t8,seval]
   refine Ev.loopG (IsJ2 enc c b n cap sp fc a e i dI nx h) ?_ i _ _ _ ⟨i,d,rfl,by simp [t0],by simp [t1],by simp [t2],by simp [t3],by simp [t8],by simp,Nat.le_refl _,hd,hdI,hh,hfr,hnx⟩
   rintro m tm h' nx' ⟨j,d,hm,t0,t1,t2,t3,t8,t9,hj,hd,hI,hh,hfr,hnx⟩
   subst hm
   refine Ev.regD ?_
   by_cases haj:a<m
   ·obtain ⟨j,rfl⟩:∃ j,m=j+1:=⟨m-1,by omega⟩
    have d1:decide ((a:Int)<((j+1:Nat):Int))=true:=decide_eq_true (by omega)
    have w3:IntKind.wrap .i64 (((j+1:Nat):Int)-1)=(j:Int):=by rw [wS1 (by omega) (by omega)]; rfl
    have i1:j+1<n:=by omega
    have i2:j<n:=by omega
    have r1:=arr_ld S.hk (hd.symm ▸ i1)
    have r2:=arr_ld S.hk (hd.symm ▸ i2)
    repeat (first | simp only [Dv_g,Ov_g,putT_some,putT_none,tgs,boolIs_t,boolIs_f,boolIs_u,Bool.not_true,Bool.not_false,Bool.false_eq_true,isEffC_pur,isEffC_alc,isEffC_red,isEffC_eff,seval] | simp only [SG,t0,t1,t3,t9,d1,w3,i1,i2,cellsOf_some hh,r1,r2,seval])
    refine Dv_callv (f:=fc) (a:=[]) (a2:=[]) (by simp [t3]) ?_
    simp only [cevs_nil,cevs_cons,cev_t,cev_v,tgs,List.nil_append,List.append_nil,seval]
    refine (S.cmp _ _ _ _).mono ?_
    rintro r h1 nx1 ⟨rfl,hn1,hf1⟩
    refine ⟨hn1,?_⟩
    have hh1:=(hf1 b (by omega)).trans hh
    rw [Sort.insInner] at hI
    by_cases hl:c d[j+1]! d[j]!<0
    ·have e1:decide (c d[j+1]! d[j]!<0)=true:=decide_eq_true hl
     repeat (first | simp only [Dv_g,Ov_g,putT_some,putT_none,tgs,boolIs_t,boolIs_f,boolIs_u,Bool.not_true,Bool.not_false,Bool.false_eq_true,isEffC_pur,isEffC_alc,isEffC_red,isEffC_eff,seval] | simp only [SG,e1,seval])
     rw [if_pos (by rw [Bool.and_eq_true]; exact ⟨decide_eq_true haj,e1⟩)] at hI
     refine ⟨true,by simp,fun e=>Bool.noConfusion e,fun _=>?_⟩
     refine Ev.seq (Ev.block (Ev.regD ?_))
     simp only [SB,t0,t9,w3,i1,i2,cellsOf_some hh1,r1,r2,seval]
     rw [arr_st S.hk S.cell hh1 (hd.symm ▸ i1)]
     rw [arr_st (d:=d.setIfInBounds (j+1) d[j]!) S.hk S.cell (by simp) (by simp; omega)]
     (try simp only [SB,seval])
     refine Ev.regO ?_
     simp only [SB,t9,w3,seval]
     refine ⟨j,by omega,j,Sort.swp d (j+1) j,rfl,by simp [t0],by simp [t1],by simp [t2],by simp [t3],by simp [t8],by simp,by omega,by simp [Sort.swp,hd],hI,by simp [Sort.swp],fun c hc hcb=>?_,by omega⟩
     rw [hgs,if_neg hcb,hgs,if_neg hcb,hf1 c (by omega)]
     exact hfr c hc hcb
    ·have e1:decide (c d[j+1]! d[j]!<0)=false:=decide_eq_false hl
     repeat (first | simp only [Dv_g,Ov_g,putT_some,putT_none,tgs,boolIs_t,boolIs_f,boolIs_u,Bool.not_true,Bool.not_false,Bool.false_eq_true,isEffC_pur,isEffC_alc,isEffC_red,isEffC_eff,seval] | simp only [SG,e1,seval])
     rw [if_neg (by rw [Bool.and_eq_true]; exact fun e=>hl (of_decide_eq_true e.2))] at hI
     subst hI
     refine ⟨false,by simp,fun _=>?_,fun e=>Bool.noConfusion e⟩
     (try simp only [SB,seval])
     exact ⟨by simp [t0],by simp [t1],by simp [t2],by simp [t3],by simp [t8],hh1,fun c hc hcb=>(hf1 c (by omega)).trans (hfr c hc hcb),by omega⟩
   ·have d1:decide ((a:Int)<(m:Int))=false:=decide_eq_false (by omega)
    repeat (first | simp only [Dv_g,Ov_g,putT_some,putT_none,tgs,boolIs_t,boolIs_f,boolIs_u,Bool.not_true,Bool.not_false,Bool.false_eq_true,isEffC_pur,isEffC_alc,isEffC_red,isEffC_eff,seval] | simp only [SG,t1,t9,d1,seval])
    have hI:d=dI:=by
     rw [← hI]
     cases m with
     | zero=>rfl
     | succ j=>rw [Sort.insInner,if_neg (by rw [Bool.and_eq_true]; exact fun e=>haj (of_decide_eq_true e.1))]
    subst hI
    refine ⟨false,by simp,fun _=>?_,fun e=>Bool.noConfusion e⟩
    (try simp only [SB,seval])
    exact ⟨by simp [t0],by simp [t1],by simp [t2],by simp [t3],by simp [t8],hh,hfr,hnx⟩
  ·rintro tm h' nx' ⟨t0,t1,t2,t3,t8,hh,hfr,hnx⟩
   refine Ev.regO ?_
   simp only [SB,t8,w2,seval]
   exact ⟨e-(i+1),by omega,i+1,dI,rfl,by simp [t0],by simp [t1],by simp [t2],by simp [t3],by simp,by omega,by omega,hdIs,hE,hh,hfr,hnx⟩
 ·rw [if_neg hie] at hE
  subst hE
  refine ⟨false,by simp <;> omega,fun _=>?_,fun e=>Bool.noConfusion e⟩
  exact ⟨hh,hfr,hnx⟩
end
section
variable {P:Program} {orc:Orc} {s:Bool}
variable {α:Type} [Inhabited α] {enc:α→List Value} {k:Nat}
theorem sUp_go (p:α→Bool) (d:Array α) (j i:Nat) (h:i≤j) (hp:p d[i]! = true):Sort.scanUp p d j i=Sort.scanUp p d j (i+1):=by
 rw [Sort.scanUp,if_pos (by rw [hp,decide_eq_true h]; rfl)]
theorem sUp_end (p:α→Bool) (d:Array α) (j i:Nat) (h:¬ i≤j∨p d[i]! = false):Sort.scanUp p d j i=i:=by
 rw [Sort.scanUp,if_neg]
 rcases h with h | h
 ·rw [decide_eq_false h]; simp
 ·rw [h]; simp
theorem sDown_go (p:α→Bool) (d:Array α) (i j:Nat) (h:i≤j) (h0:0<j) (hp:p d[j]! = true):Sort.scanDown p d i j=Sort.scanDown p d i (j-1):=by
 obtain ⟨q,rfl⟩:∃ q,j=q+1:=⟨j-1,by omega⟩
 rw [Sort.scanDown,if_pos (by rw [hp,decide_eq_true h]; rfl)]
 rfl
theorem sDown_end (p:α→Bool) (d:Array α) (i j:Nat) (h:¬ i≤j∨p d[j]! = false):Sort.scanDown p d i j=j:=by
 cases j with
 | zero=>rfl
 | succ q =>
  rw [Sort.scanDown,if_neg]
  rcases h with h | h
  ·rw [decide_eq_false h]; simp
  ·rw [h]; simp
def PtS {α:Type} [Inhabited α] (enc:α→List Value) (ti tj b n cap:Nat) (sp:Option Nat) (fc a:Nat) (i j:Nat) (d:Array α) (nx:Nat) (h:Hp) (tm:Tm) (h':Hp) (nx':Nat):Prop :=
 tget tm 0 = .slice (some ⟨b,0,sp⟩) n cap∧tget tm 1 = .int .i64 (a:Int)∧tget tm 4 = .func (.func fc) #[] #[]∧tget tm ti = .int .i64 (i:Int)∧tget tm tj = .int .i64 (j:Int)∧hget h' b=some (.cells (arr enc d) false)∧(∀ c,c<nx→c≠b→hget h' c=hget h c)∧nx≤nx'
def PuJ {α:Type} [Inhabited α] (enc:α→List Value) (ti tj b n cap:Nat) (sp:Option Nat) (fc a:Nat) (p:α→Bool) (j i2:Nat) (d:Array α) (nx:Nat) (h:Hp) (m:Nat) (tm:Tm) (h':Hp) (nx':Nat):Prop :=
 ∃ i,m=j+1-i∧a<i∧i≤j+1∧Sort.scanUp p d j i=i2∧PtS enc ti tj b n cap sp fc a i j d nx h tm h' nx'
def PdJ {α:Type} [Inhabited α] (enc:α→List Value) (ti tj b n cap:Nat) (sp:Option Nat) (fc a:Nat) (p:α→Bool) (i j2:Nat) (d:Array α) (nx:Nat) (h:Hp) (m:Nat) (tm:Tm) (h':Hp) (nx':Nat):Prop :=
 ∃ j,m=j∧i≤j+1∧j<n∧Sort.scanDown p d i j=j2∧PtS enc ti tj b n cap sp fc a i j d nx h tm h' nx'
def cfPart (k:Nat):CF:={ res:=[.tmp 10,.tmp 11],body :=
 (.seq (.regO [⟨none,(some 10),0,.pur (.mv (.v (.int .i64 0)))⟩,
  ⟨none,(some 11),0,.pur (.mv (.v (.bool false)))⟩])
 (.seq (.regD [⟨none,(some 14),0,.pur (.mv (.t 0))⟩,
  ⟨none,(some 15),0,.pur (.mv (.t 1))⟩,
  ⟨none,(some 18),0,.pur (.mv (.t 0))⟩,
  ⟨none,(some 19),0,.pur (.mv (.t 3))⟩,
  ⟨none,(some 20),0,.pur (.ixA (.slice k) (.t 18) (.t 19))⟩,
  ⟨none,(some 21),0,.red (.ld (some k) (.t 20))⟩,
  ⟨none,(some 22),0,.pur (.mv (.t 0))⟩,
  ⟨none,(some 23),0,.pur (.mv (.t 1))⟩,
  ⟨none,(some 24),0,.pur (.ixA (.slice k) (.t 22) (.t 23))⟩,
  ⟨none,(some 25),0,.red (.ld (some k) (.t 24))⟩,
  ⟨none,(some 26),0,.pur (.ixA (.slice k) (.t 14) (.t 15))⟩,
  ⟨none,none,0,.eff (.st k (.t 26) (.t 21))⟩,
  ⟨none,(some 16),1,.pur (.mv (.t 0))⟩,
  ⟨none,(some 17),1,.pur (.mv (.t 3))⟩,
  ⟨none,(some 27),0,.pur (.ixA (.slice k) (.t 16) (.t 17))⟩,
  ⟨none,none,0,.eff (.st k (.t 27) (.t 25))⟩])
 (.seq (.regO [⟨none,(some 28),0,.pur (.mv (.t 1))⟩,
  ⟨none,(some 29),0,.pur (.bin .add 3 (.t 28) (.v (.int .i64 1)))⟩,
  ⟨none,(some 30),0,.pur (.mv (.t 2))⟩,
  ⟨none,(some 31),0,.pur (.bin .sub 3 (.t 30) (.v (.int .i64 1)))⟩,
  ⟨none,(some 12),0,.pur (.mv (.t 29))⟩,
  ⟨none,(some 13),0,.pur (.mv (.t 31))⟩])
 (.seq (.block 0
 (.loop
  (.seq (.seq (.regD [⟨none,(some 32),0,.pur (.mv (.t 12))⟩,
   ⟨none,(some 33),0,.pur (.mv (.t 13))⟩,
   ⟨none,(some 34),0,.pur (.bin .leq 3 (.t 32) (.t 33))⟩,
   ⟨none,(some 35),0,.pur (.mv (.t 34))⟩,
   ⟨(some (35,true)),(some 36),0,.pur (.mv (.t 4))⟩,
   ⟨(some (35,true)),(some 37),0,.pur (.mv (.t 0))⟩,
   ⟨(some (35,true)),(some 38),0,.pur (.mv (.t 12))⟩,
   ⟨(some (35,true)),(some 39),0,.pur (.ixA (.slice k) (.t 37) (.t 38))⟩,
   ⟨(some (35,true)),(some 40),0,.red (.ld (some k) (.t 39))⟩,
   ⟨(some (35,true)),(some 41),0,.pur (.mv (.t 0))⟩,
   ⟨(some (35,true)),(some 42),0,.pur (.mv (.t 1))⟩,
   ⟨(some (35,true)),(some 43),0,.pur (.ixA (.slice k) (.t 41) (.t 42))⟩,
   ⟨(some (35,true)),(some 44),0,.red (.ld (some k) (.t 43))⟩,
   ⟨(some (35,true)),(some 45),0,.eff (.callv (.t 36) [(.t 40),(.t 44)])⟩,
   ⟨(some (35,true)),(some 46),0,.pur (.bin .lss 3 (.t 45) (.v (.int .i64 0)))⟩,
   ⟨none,(some 47),0,.pur (.pick (.t 35) (.t 46) (.v (.bool false)))⟩])
  (.cond (.t 47)
  .skip
  (.exit 0)))
  (.block 1
  (.regO [⟨none,(some 48),0,.pur (.mv (.t 12))⟩,
   ⟨none,(some 49),0,.pur (.bin .add 3 (.t 48) (.v (.int .i64 1)))⟩,
   ⟨none,(some 12),0,.pur (.mv (.t 49))⟩])))))
 (.seq (.block 2
 (.loop
  (.seq (.seq (.regD [⟨none,(some 50),0,.pur (.mv (.t 12))⟩,
   ⟨none,(some 51),0,.pur (.mv (.t 13))⟩,
   ⟨none,(some 52),0,.pur (.bin .leq 3 (.t 50) (.t 51))⟩,
   ⟨none,(some 53),0,.pur (.mv (.t 52))⟩,
   ⟨(some (53,true)),(some 54),0,.pur (.mv (.t 4))⟩,
   ⟨(some (53,true)),(some 55),0,.pur (.mv (.t 0))⟩,
   ⟨(some (53,true)),(some 56),0,.pur (.mv (.t 13))⟩,
   ⟨(some (53,true)),(some 57),0,.pur (.ixA (.slice k) (.t 55) (.t 56))⟩,
   ⟨(some (53,true)),(some 58),0,.red (.ld (some k) (.t 57))⟩,
   ⟨(some (53,true)),(some 59),0,.pur (.mv (.t 0))⟩,
   ⟨(some (53,true)),(some 60),0,.pur (.mv (.t 1))⟩,
   ⟨(some (53,true)),(some 61),0,.pur (.ixA (.slice k) (.t 59) (.t 60))⟩,
   ⟨(some (53,true)),(some 62),0,.red (.ld (some k) (.t 61))⟩,
   ⟨(some (53,true)),(some 63),0,.eff (.callv (.t 54) [(.t 58),(.t 62)])⟩,
   ⟨(some (53,true)),(some 64),0,.pur (.bin .lss 3 (.t 63) (.v (.int .i64 0)))⟩,
   ⟨(some (53,true)),(some 65),0,.pur (.un .not (.t 64))⟩,
   ⟨none,(some 66),0,.pur (.pick (.t 53) (.t 65) (.v (.bool false)))⟩])
  (.cond (.t 66)
  .skip
  (.exit 2)))
  (.block 3
  (.regO [⟨none,(some 67),0,.pur (.mv (.t 13))⟩,
   ⟨none,(some 68),0,.pur (.bin .sub 3 (.t 67) (.v (.int .i64 1)))⟩,
   ⟨none,(some 13),0,.pur (.mv (.t 68))⟩])))))
 (.seq (.seq (.regO [⟨none,(some 69),0,.pur (.mv (.t 12))⟩,
  ⟨none,(some 70),0,.pur (.mv (.t 13))⟩,
  ⟨none,(some 71),0,.pur (.bin .gtr 3 (.t 69) (.t 70))⟩])
 (.cond (.t 71)
 (.seq (.regD [⟨none,(some 72),0,.pur (.mv (.t 0))⟩,
  ⟨none,(some 73),0,.pur (.mv (.t 13))⟩,
  ⟨none,(some 76),0,.pur (.mv (.t 0))⟩,
  ⟨none,(some 77),0,.pur (.mv (.t 1))⟩,
  ⟨none,(some 78),0,.pur (.ixA (.slice k) (.t 76) (.t 77))⟩,
  ⟨none,(some 79),0,.red (.ld (some k) (.t 78))⟩,
  ⟨none,(some 80),0,.pur (.mv (.t 0))⟩,
  ⟨none,(some 81),0,.pur (.mv (.t 13))⟩,
  ⟨none,(some 82),0,.pur (.ixA (.slice k) (.t 80) (.t 81))⟩,
  ⟨none,(some 83),0,.red (.ld (some k) (.t 82))⟩,
  ⟨none,(some 84),0,.pur (.ixA (.slice k) (.t 72) (.t 73))⟩,
  ⟨none,none,0,.eff (.st k (.t 84) (.t 79))⟩,
  ⟨none,(some 74),1,.pur (.mv (.t 0))⟩,
  ⟨none,(some 75),1,.pur (.mv (.t 1))⟩,
  ⟨none,(some 85),0,.pur (.ixA (.slice k) (.t 74) (.t 75))⟩,
  ⟨none,none,0,.eff (.st k (.t 85) (.t 83))⟩])
 (.seq (.regO [⟨none,(some 86),0,.pur (.mv (.t 13))⟩,
  ⟨none,(some 10),0,.pur (.mv (.t 86))⟩,
  ⟨none,(some 11),0,.pur (.mv (.v (.bool true)))⟩])
 .ret))
 .skip))
 (.seq (.regD [⟨none,(some 87),0,.pur (.mv (.t 0))⟩,
  ⟨none,(some 88),0,.pur (.mv (.t 12))⟩,
  ⟨none,(some 91),0,.pur (.mv (.t 0))⟩,
  ⟨none,(some 92),0,.pur (.mv (.t 13))⟩,
  ⟨none,(some 93),0,.pur (.ixA (.slice k) (.t 91) (.t 92))⟩,
  ⟨none,(some 94),0,.red (.ld (some k) (.t 93))⟩,
  ⟨none,(some 95),0,.pur (.mv (.t 0))⟩,
  ⟨none,(some 96),0,.pur (.mv (.t 12))⟩,
  ⟨none,(some 97),0,.pur (.ixA (.slice k) (.t 95) (.t 96))⟩,
  ⟨none,(some 98),0,.red (.ld (some k) (.t 97))⟩,
  ⟨none,(some 99),0,.pur (.ixA (.slice k) (.t 87) (.t 88))⟩,
  ⟨none,none,0,.eff (.st k (.t 99) (.t 94))⟩,
  ⟨none,(some 89),1,.pur (.mv (.t 0))⟩,
  ⟨none,(some 90),1,.pur (.mv (.t 13))⟩,
  ⟨none,(some 100),0,.pur (.ixA (.slice k) (.t 89) (.t 90))⟩,
  ⟨none,none,0,.eff (.st k (.t 100) (.t 98))⟩])
 (.seq (.regO [⟨none,(some 101),0,.pur (.mv (.t 12))⟩,
  ⟨none,(some 102),0,.pur (.bin .add 3 (.t 101) (.v (.int .i64 1)))⟩,
  ⟨none,(some 12),0,.pur (.mv (.t 102))⟩])
 (.seq (.regO [⟨none,(some 103),0,.pur (.mv (.t 13))⟩,
  ⟨none,(some 104),0,.pur (.bin .sub 3 (.t 103) (.v (.int .i64 1)))⟩,
  ⟨none,(some 13),0,.pur (.mv (.t 104))⟩])
 (.seq (.block 4
 (.loop
  (.block 5
  (.seq (.block 6
   (.loop
   (.seq (.seq (.regD [⟨none,(some 105),0,.pur (.mv (.t 12))⟩,
    ⟨none,(some 106),0,.pur (.mv (.t 13))⟩,
    ⟨none,(some 107),0,.pur (.bin .leq 3 (.t 105) (.t 106))⟩,
    ⟨none,(some 108),0,.pur (.mv (.t 107))⟩,
    ⟨(some (108,true)),(some 109),0,.pur (.mv (.t 4))⟩,
    ⟨(some (108,true)),(some 110),0,.pur (.mv (.t 0))⟩,
    ⟨(some (108,true)),(some 111),0,.pur (.mv (.t 12))⟩,
    ⟨(some (108,true)),(some 112),0,.pur (.ixA (.slice k) (.t 110) (.t 111))⟩,
    ⟨(some (108,true)),(some 113),0,.red (.ld (some k) (.t 112))⟩,
    ⟨(some (108,true)),(some 114),0,.pur (.mv (.t 0))⟩,
    ⟨(some (108,true)),(some 115),0,.pur (.mv (.t 1))⟩,
    ⟨(some (108,true)),(some 116),0,.pur (.ixA (.slice k) (.t 114) (.t 115))⟩,
    ⟨(some (108,true)),(some 117),0,.red (.ld (some k) (.t 116))⟩,
    ⟨(some (108,true)),(some 118),0,.eff (.callv (.t 109) [(.t 113),(.t 117)])⟩,
    ⟨(some (108,true)),(some 119),0,.pur (.bin .lss 3 (.t 118) (.v (.int .i64 0)))⟩,
    ⟨none,(some 120),0,.pur (.pick (.t 108) (.t 119) (.v (.bool false)))⟩])
   (.cond (.t 120)
    .skip
    (.exit 6)))
   (.block 7
    (.regO [⟨none,(some 121),0,.pur (.mv (.t 12))⟩,
     ⟨none,(some 122),0,.pur (.bin .add 3 (.t 121) (.v (.int .i64 1)))⟩,
     ⟨none,(some 12),0,.pur (.mv (.t 122))⟩])))))
  (.seq (.block 8
   (.loop
   (.seq (.seq (.regD [⟨none,(some 123),0,.pur (.mv (.t 12))⟩,
    ⟨none,(some 124),0,.pur (.mv (.t 13))⟩,
    ⟨none,(some 125),0,.pur (.bin .leq 3 (.t 123) (.t 124))⟩,
    ⟨none,(some 126),0,.pur (.mv (.t 125))⟩,
    ⟨(some (126,true)),(some 127),0,.pur (.mv (.t 4))⟩,
    ⟨(some (126,true)),(some 128),0,.pur (.mv (.t 0))⟩,
    ⟨(some (126,true)),(some 129),0,.pur (.mv (.t 13))⟩,
    ⟨(some (126,true)),(some 130),0,.pur (.ixA (.slice k) (.t 128) (.t 129))⟩,
    ⟨(some (126,true)),(some 131),0,.red (.ld (some k) (.t 130))⟩,
    ⟨(some (126,true)),(some 132),0,.pur (.mv (.t 0))⟩,
    ⟨(some (126,true)),(some 133),0,.pur (.mv (.t 1))⟩,
    ⟨(some (126,true)),(some 134),0,.pur (.ixA (.slice k) (.t 132) (.t 133))⟩,
    ⟨(some (126,true)),(some 135),0,.red (.ld (some k) (.t 134))⟩,
    ⟨(some (126,true)),(some 136),0,.eff (.callv (.t 127) [(.t 131),(.t 135)])⟩,
    ⟨(some (126,true)),(some 137),0,.pur (.bin .lss 3 (.t 136) (.v (.int .i64 0)))⟩,
    ⟨(some (126,true)),(some 138),0,.pur (.un .not (.t 137))⟩,
    ⟨none,(some 139),0,.pur (.pick (.t 126) (.t 138) (.v (.bool false)))⟩])
   (.cond (.t 139)
    .skip
    (.exit 8)))
   (.block 9
    (.regO [⟨none,(some 140),0,.pur (.mv (.t 13))⟩,
     ⟨none,(some 141),0,.pur (.bin .sub 3 (.t 140) (.v (.int .i64 1)))⟩,
     ⟨none,(some 13),0,.pur (.mv (.t 141))⟩])))))
  (.seq (.seq (.regO [⟨none,(some 142),0,.pur (.mv (.t 12))⟩,
   ⟨none,(some 143),0,.pur (.mv (.t 13))⟩,
   ⟨none,(some 144),0,.pur (.bin .gtr 3 (.t 142) (.t 143))⟩])
  (.cond (.t 144)
   (.exit 4)
   .skip))
  (.seq (.regD [⟨none,(some 145),0,.pur (.mv (.t 0))⟩,
   ⟨none,(some 146),0,.pur (.mv (.t 12))⟩,
   ⟨none,(some 149),0,.pur (.mv (.t 0))⟩,
   ⟨none,(some 150),0,.pur (.mv (.t 13))⟩,
   ⟨none,(some 151),0,.pur (.ixA (.slice k) (.t 149) (.t 150))⟩,
   ⟨none,(some 152),0,.red (.ld (some k) (.t 151))⟩,
   ⟨none,(some 153),0,.pur (.mv (.t 0))⟩,
   ⟨none,(some 154),0,.pur (.mv (.t 12))⟩,
   ⟨none,(some 155),0,.pur (.ixA (.slice k) (.t 153) (.t 154))⟩,
   ⟨none,(some 156),0,.red (.ld (some k) (.t 155))⟩,
   ⟨none,(some 157),0,.pur (.ixA (.slice k) (.t 145) (.t 146))⟩,
   ⟨none,none,0,.eff (.st k (.t 157) (.t 152))⟩,
   ⟨none,(some 147),1,.pur (.mv (.t 0))⟩,
   ⟨none,(some 148),1,.pur (.mv (.t 13))⟩,
   ⟨none,(some 158),0,.pur (.ixA (.slice k) (.t 147) (.t 148))⟩,
   ⟨none,none,0,.eff (.st k (.t 158) (.t 156))⟩])
  (.seq (.regO [⟨none,(some 159),0,.pur (.mv (.t 12))⟩,
   ⟨none,(some 160),0,.pur (.bin .add 3 (.t 159) (.v (.int .i64 1)))⟩,
   ⟨none,(some 12),0,.pur (.mv (.t 160))⟩])
  (.regO [⟨none,(some 161),0,.pur (.mv (.t 13))⟩,
   ⟨none,(some 162),0,.pur (.bin .sub 3 (.t 161) (.v (.int .i64 1)))⟩,
   ⟨none,(some 13),0,.pur (.mv (.t 162))⟩])))))))))
 (.seq (.regD [⟨none,(some 163),0,.pur (.mv (.t 0))⟩,
  ⟨none,(some 164),0,.pur (.mv (.t 13))⟩,
  ⟨none,(some 167),0,.pur (.mv (.t 0))⟩,
  ⟨none,(some 168),0,.pur (.mv (.t 1))⟩,
  ⟨none,(some 169),0,.pur (.ixA (.slice k) (.t 167) (.t 168))⟩,
  ⟨none,(some 170),0,.red (.ld (some k) (.t 169))⟩,
  ⟨none,(some 171),0,.pur (.mv (.t 0))⟩,
  ⟨none,(some 172),0,.pur (.mv (.t 13))⟩,
  ⟨none,(some 173),0,.pur (.ixA (.slice k) (.t 171) (.t 172))⟩,
  ⟨none,(some 174),0,.red (.ld (some k) (.t 173))⟩,
  ⟨none,(some 175),0,.pur (.ixA (.slice k) (.t 163) (.t 164))⟩,
  ⟨none,none,0,.eff (.st k (.t 175) (.t 170))⟩,
  ⟨none,(some 165),1,.pur (.mv (.t 0))⟩,
  ⟨none,(some 166),1,.pur (.mv (.t 1))⟩,
  ⟨none,(some 176),0,.pur (.ixA (.slice k) (.t 165) (.t 166))⟩,
  ⟨none,none,0,.eff (.st k (.t 176) (.t 174))⟩])
 (.seq (.regO [⟨none,(some 177),0,.pur (.mv (.t 13))⟩,
  ⟨none,(some 10),0,.pur (.mv (.t 177))⟩,
  ⟨none,(some 11),0,.pur (.mv (.v (.bool false)))⟩])
 .ret)))))))))))) }
def PartK (enc:α→List Value) (b:Nat) (res:Nat × Bool × Array α) (nx:Nat) (h:Hp):KC':=fun r h' nx'=>r = .tuple ⟨[.int .i64 (res.1:Int),.bool res.2.1]⟩∧hget h' b=some (.cells (arr enc res.2.2) false)∧(∀ c,c<nx→c≠b→hget h' c=hget h c)∧nx≤nx'
def PlJ {α:Type} [Inhabited α] (enc:α→List Value) (ti tj b n cap:Nat) (sp:Option Nat) (fc a:Nat) (lt:α→α→Bool) (res:Nat × Array α) (nx:Nat) (h:Hp) (m:Nat) (tm:Tm) (h':Hp) (nx':Nat):Prop :=
 ∃ (i j:Nat) (d:Array α),m=j+1-i∧a<i∧i≤j+1∧j<n∧d.size=n∧Sort.partLoop lt a i j d=res∧PtS enc ti tj b n cap sp fc a i j d nx h tm h' nx'
def PlQ {α:Type} [Inhabited α] (enc:α→List Value) (ti tj b n cap:Nat) (sp:Option Nat) (fc a:Nat) (res:Nat × Array α) (nx:Nat) (h:Hp) (tm:Tm) (h':Hp) (nx':Nat):Prop :=
 ∃ i,a≤res.1∧res.1<n∧res.2.size=n∧PtS enc ti tj b n cap sp fc a i res.1 res.2 nx h tm h' nx'
theorem part_cv {f fc:Nat} {c:α→α→Int} (S:SoAt P orc fc k enc c) (hcf:compAt P f=some (cfPart k)) (ho:orc f=none) {b n cap a e pv:Nat} {sp:Option Nat} {d:Array α} {h:Hp} {nx:Nat}
  (hb:b<nx) (hd:d.size=n) (hn:n<100000) (hap:a≤pv) (hpe:pv<e) (hen:e≤n) (hh:hget h b=some (.cells (arr enc d) false)) :
  Cv P orc s f [.slice (some ⟨b,0,sp⟩) n cap,.int .i64 (a:Int),.int .i64 (e:Int),.int .i64 (pv:Int),.func (.func fc) #[] #[]] h nx (PartK enc b (Sort.partition (ltC c) d a e pv) nx h):=by
 generalize hres:Sort.partition (ltC c) d a e pv=res
 unfold Sort.partition at hres
 refine Cv.enter ho hcf ?_
 unfold cfPart
 refine Ev.seq (Ev.regO ?_)
 simp only [SB,seval]
 refine Ev.seq (Ev.regD ?_)
 have b1:a<n:=by omega
 have b2:pv<n:=by omega
 have r1:=arr_ld S.hk (hd.symm ▸ b1)
 have r2:=arr_ld S.hk (hd.symm ▸ b2)
 simp only [SB,b1,b2,cellsOf_some hh,r1,r2,seval]
 rw [arr_st S.hk S.cell hh (hd.symm ▸ b1)]
 rw [arr_st (d:=d.setIfInBounds (a) d[pv]!) S.hk S.cell (by simp) (by simp; omega)]
 (try simp only [SB,seval])
 have w1:IntKind.wrap .i64 ((a:Int)+1)=((a+1:Nat):Int):=wN1 (by omega)
 have w2:IntKind.wrap .i64 ((e:Int)-1)=((e-1:Nat):Int):=wS1 (by omega) (by omega)
 refine Ev.seq (Ev.regO ?_)
 simp only [SB,w1,w2,seval]
 refine Ev.genH (fun tm1 h1=>PtS enc 12 13 b n cap sp fc a (a+1) (e-1) (Sort.swp d a pv) nx h tm1 h1 nx) ⟨by simp,by simp,by simp,by simp,by simp,by simp [Sort.swp],fun c hc hcb=>by rw [hgs,if_neg hcb,hgs,if_neg hcb],Nat.le_refl _⟩ ?_
 intro tm1 h1 hP
 have hd1:(Sort.swp d a pv).size=n:=by simp [Sort.swp,hd]
 generalize Sort.swp d a pv=d1 at hres hP hd1
 clear hh hd r1 r2 b1 b2
 obtain ⟨d,hdd⟩:∃ x:Array α,x=d1:=⟨d1,rfl⟩
 subst hdd
 have hd:=hd1
 clear hd1
 obtain ⟨p,hp⟩:∃ p:α→Bool,∀ x,p x=ltC c x d[a]!:=⟨fun x=>ltC c x d[a]!,fun _=>rfl⟩
 obtain ⟨p',hp'⟩:∃ p:α→Bool,∀ x,p x=!ltC c x d[a]!:=⟨fun x=>!ltC c x d[a]!,fun _=>rfl⟩
 have ep:(fun x=>ltC c x d[a]!)=p:=funext fun x=>(hp x).symm
 have ep':(fun x=>!ltC c x d[a]!)=p':=funext fun x=>(hp' x).symm
 obtain ⟨i,hi⟩:∃ x,x=a+1:=⟨_,rfl⟩
 obtain ⟨j,hj⟩:∃ x,x=e-1:=⟨_,rfl⟩
 rw [← hi,← hj] at hP
 have hai:a<i:=by omega
 have hij:i≤j+1:=by omega
 have hjn:j<n:=by omega
 obtain ⟨i2,hi2⟩:∃ x,x=Sort.scanUp p d j i:=⟨_,rfl⟩
 have hi3:i≤i2∧i2≤j+1:=hi2 ▸ ⟨(Sort.scanUp_spec p d j _ i rfl).1,(Sort.scanUp_spec p d j _ i rfl).2.1 hij⟩
 refine Ev.cut (PtS enc 12 13 b n cap sp fc a i2 j d nx h) ?_ ?_
 ·skip
  refine Ev.loopG (PuJ enc 12 13 b n cap sp fc a p j i2 d nx h) ?_ (j+1-i) _ _ _ ⟨i,rfl,hai,hij,hi2.symm,hP⟩
  rintro m tm h' nx' ⟨w,rfl,hai,hij,hI,t0,t1,t4,ti,tj,hh,hfr,hnx⟩
  refine Ev.regD ?_
  by_cases hle:w≤j
  ·have d1:decide ((j:Int)<(w:Int))=false:=decide_eq_false (by omega)
   have b1:w<n:=by omega
   have b2:a<n:=by omega
   have r1:=arr_ld S.hk (hd.symm ▸ b1)
   have r2:=arr_ld S.hk (hd.symm ▸ b2)
   repeat (first | simp only [Dv_g,Ov_g,putT_some,putT_none,tgs,boolIs_t,boolIs_f,boolIs_u,Bool.not_true,Bool.not_false,Bool.false_eq_true,isEffC_pur,isEffC_alc,isEffC_red,isEffC_eff,seval] | simp only [SG,t0,t1,t4,ti,tj,d1,b1,b2,cellsOf_some hh,r1,r2,seval])
   refine Dv_callv (f:=fc) (a:=[]) (a2:=[]) (by simp [t4]) ?_
   simp only [cevs_nil,cevs_cons,cev_t,cev_v,tgs,List.nil_append,List.append_nil,seval]
   refine (S.cmp _ _ _ _).mono ?_
   rintro r h1 nx1 ⟨rfl,hn1,hf1⟩
   refine ⟨hn1,?_⟩
   have hh1:=(hf1 b (by omega)).trans hh
   by_cases hl:c d[w]! d[a]!<0
   ·have e1:decide (c d[w]! d[a]!<0)=true:=decide_eq_true hl
    repeat (first | simp only [Dv_g,Ov_g,putT_some,putT_none,tgs,boolIs_t,boolIs_f,boolIs_u,Bool.not_true,Bool.not_false,Bool.false_eq_true,isEffC_pur,isEffC_alc,isEffC_red,isEffC_eff,seval] | simp only [SG,e1,seval])
    rw [sUp_go p d j w hle (by simp [hp,ltC,hl])] at hI
    refine ⟨true,by simp,fun e=>Bool.noConfusion e,fun _=>?_⟩
    have w2:IntKind.wrap .i64 ((w:Int)+1)=((w+1:Nat):Int):=wN1 (by omega)
    refine Ev.block (Ev.regO ?_)
    simp only [SB,ti,w2,seval]
    exact ⟨j+1-(w+1),by omega,w+1,rfl,by omega,by omega,hI,by simp [t0],by simp [t1],by simp [t4],by simp,by simp [tj],hh1,fun c hc hcb=>(hf1 c (by omega)).trans (hfr c hc hcb),by omega⟩
   ·have e1:decide (c d[w]! d[a]!<0)=false:=decide_eq_false hl
    repeat (first | simp only [Dv_g,Ov_g,putT_some,putT_none,tgs,boolIs_t,boolIs_f,boolIs_u,Bool.not_true,Bool.not_false,Bool.false_eq_true,isEffC_pur,isEffC_alc,isEffC_red,isEffC_eff,seval] | simp only [SG,e1,seval])
    rw [sUp_end p d j w (.inr (by simp [hp,ltC,hl]))] at hI
    subst hI
    refine ⟨false,by simp,fun _=>?_,fun e=>Bool.noConfusion e⟩
    (try simp only [SB,seval])
    exact ⟨by simp [t0],by simp [t1],by simp [t4],by simp [ti],by simp [tj],hh1,fun c hc hcb=>(hf1 c (by omega)).trans (hfr c hc hcb),by omega⟩
  ·have d1:decide ((j:Int)<(w:Int))=true:=decide_eq_true (by omega)
   repeat (first | simp only [Dv_g,Ov_g,putT_some,putT_none,tgs,boolIs_t,boolIs_f,boolIs_u,Bool.not_true,Bool.not_false,Bool.false_eq_true,isEffC_pur,isEffC_alc,isEffC_red,isEffC_eff,seval] | simp only [SG,ti,tj,d1,seval])
   rw [sUp_end p d j w (.inl hle)] at hI
   subst hI
   refine ⟨false,by simp,fun _=>?_,fun e=>Bool.noConfusion e⟩
   (try simp only [SB,seval])
   exact ⟨by simp [t0],by simp [t1],by simp [t4],by simp [ti],by simp [tj],hh,hfr,hnx⟩
 clear hP
 intro tm0 h0 nx0 hP
 obtain ⟨j2,hj2⟩:∃ x,x=Sort.scanDown p' d i2 j:=⟨_,rfl⟩
 have hj3:j2≤j∧i2≤j2+1:=hj2 ▸ ⟨(Sort.scanDown_spec p' d i2 j).1,(Sort.scanDown_spec p' d i2 j).2.1 hi3.2⟩
 have hne:i2≤j2→i2<j2:=fun hle=>by
  rcases Nat.lt_or_eq_of_le hle with h | h
  ·exact h
  ·have s1:=(Sort.scanUp_spec p d j _ i rfl).2.2.2
   have s2:=(Sort.scanDown_spec p' d i2 j).2.2.2
   rw [← hi2] at s1
   rw [← hj2] at s2
   have s1:=s1 (by omega)
   have s2:=s2 hle (by omega)
   rw [hp] at s1
   rw [← h,hp'] at s2
   cases hq:ltC c d[i2]! d[a]! <;> rw [hq] at s1 s2 <;> first | (cases s1; done) | (cases s2; done)
 refine Ev.cut (PtS enc 12 13 b n cap sp fc a i2 j2 d nx h) ?_ ?_
 ·have hij:=hi3.2
  refine Ev.loopG (PdJ enc 12 13 b n cap sp fc a p' i2 j2 d nx h) ?_ j _ _ _ ⟨j,rfl,hij,hjn,hj2.symm,hP⟩
  rintro m tm h' nx' ⟨w,hm,hij,hjn,hI,t0,t1,t4,ti,tj,hh,hfr,hnx⟩
  subst hm
  refine Ev.regD ?_
  by_cases hle:i2≤m
  ·have d1:decide ((m:Int)<(i2:Int))=false:=decide_eq_false (by omega)
   have b1:m<n:=by omega
   have b2:a<n:=by omega
   have r1:=arr_ld S.hk (hd.symm ▸ b1)
   have r2:=arr_ld S.hk (hd.symm ▸ b2)
   repeat (first | simp only [Dv_g,Ov_g,putT_some,putT_none,tgs,boolIs_t,boolIs_f,boolIs_u,Bool.not_true,Bool.not_false,Bool.false_eq_true,isEffC_pur,isEffC_alc,isEffC_red,isEffC_eff,seval] | simp only [SG,t0,t1,t4,ti,tj,d1,b1,b2,cellsOf_some hh,r1,r2,seval])
   refine Dv_callv (f:=fc) (a:=[]) (a2:=[]) (by simp [t4]) ?_
   simp only [cevs_nil,cevs_cons,cev_t,cev_v,tgs,List.nil_append,List.append_nil,seval]
   refine (S.cmp _ _ _ _).mono ?_
   rintro r h1 nx1 ⟨rfl,hn1,hf1⟩
   refine ⟨hn1,?_⟩
   have hh1:=(hf1 b (by omega)).trans hh
   by_cases hl:c d[m]! d[a]!<0
   ·have e1:decide (c d[m]! d[a]!<0)=true:=decide_eq_true hl
    repeat (first | simp only [Dv_g,Ov_g,putT_some,putT_none,tgs,boolIs_t,boolIs_f,boolIs_u,Bool.not_true,Bool.not_false,Bool.false_eq_true,isEffC_pur,isEffC_alc,isEffC_red,isEffC_eff,seval] | simp only [SG,e1,seval])
    rw [sDown_end p' d i2 m (.inr (by simp [hp',ltC,hl]))] at hI
    subst hI
    refine ⟨false,by simp,fun _=>?_,fun e=>Bool.noConfusion e⟩
    (try simp only [SB,seval])
    exact ⟨by simp [t0],by simp [t1],by simp [t4],by simp [ti],by simp [tj],hh1,fun c hc hcb=>(hf1 c (by omega)).trans (hfr c hc hcb),by omega⟩
   ·have e1:decide (c d[m]! d[a]!<0)=false:=decide_eq_false hl
    repeat (first | simp only [Dv_g,Ov_g,putT_some,putT_none,tgs,boolIs_t,boolIs_f,boolIs_u,Bool.not_true,Bool.not_false,Bool.false_eq_true,isEffC_pur,isEffC_alc,isEffC_red,isEffC_eff,seval] | simp only [SG,e1,seval])
    rw [sDown_go p' d i2 m hle (by omega) (by simp [hp',ltC,hl])] at hI
    refine ⟨true,by simp,fun e=>Bool.noConfusion e,fun _=>?_⟩
    have w2:IntKind.wrap .i64 ((m:Int)-1)=((m-1:Nat):Int):=wS1 (by omega) (by omega)
    refine Ev.block (Ev.regO ?_)
    simp only [SB,tj,w2,seval]
    exact ⟨m-1,by omega,m-1,rfl,by omega,by omega,hI,by simp [t0],by simp [t1],by simp [t4],by simp [ti],by simp,hh1,fun c hc hcb=>(hf1 c (by omega)).trans (hfr c hc hcb),by omega⟩
  ·have d1:decide ((m:Int)<(i2:Int))=true:=decide_eq_true (by omega)
   repeat (first | simp only [Dv_g,Ov_g,putT_some,putT_none,tgs,boolIs_t,boolIs_f,boolIs_u,Bool.not_true,Bool.not_false,Bool.false_eq_true,isEffC_pur,isEffC_alc,isEffC_red,isEffC_eff,seval] | simp only [SG,ti,tj,d1,seval])
   rw [sDown_end p' d i2 m (.inl hle)] at hI
   subst hI
   refine ⟨false,by simp,fun _=>?_,fun e=>Bool.noConfusion e⟩
   (try simp only [SB,seval])
   exact ⟨by simp [t0],by simp [t1],by simp [t4],by simp [ti],by simp [tj],hh,hfr,hnx⟩
 rintro tm0 h0 nx0 ⟨t0,t1,t4,ti,tj,hh,hfr,hnx⟩
 have hres:(if i2>j2 then (j2,true,Sort.swp d j2 a) else ((Sort.partLoop (ltC c) a (i2+1) (j2-1) (Sort.swp d i2 j2)).1,false,Sort.swp (Sort.partLoop (ltC c) a (i2+1) (j2-1) (Sort.swp d i2 j2)).2 (Sort.partLoop (ltC c) a (i2+1) (j2-1) (Sort.swp d i2 j2)).1 a))=res:=by
  rw [← hres]
  simp only [ep,ep',← hi,← hj,← hi2,← hj2]
 refine Ev.seq (Ev.seq (Ev.regO ?_))
 simp only [SB,ti,tj,seval]
 by_cases hgt:i2>j2
 ·rw [if_pos hgt] at hres
  subst hres
  refine Ev.cond true (by simp <;> omega) (fun _=>?_) (by simp <;> omega)
  refine Ev.seq (Ev.regD ?_)
  have b1:j2<n:=by omega
  have b2:a<n:=by omega
  have r1:=arr_ld S.hk (hd.symm ▸ b1)
  have r2:=arr_ld S.hk (hd.symm ▸ b2)
  simp only [SB,t0,t1,tj,b1,b2,cellsOf_some hh,r1,r2,seval]
  rw [arr_st S.hk S.cell hh (hd.symm ▸ b1)]
  rw [arr_st (d:=d.setIfInBounds (j2) d[a]!) S.hk S.cell (by simp) (by simp; omega)]
  (try simp only [SB,seval])
  refine Ev.seq (Ev.regO ?_)
  simp only [SB,tj,seval]
  refine Ev.ret ?_
  simp only [SB,seval]
  refine ⟨rfl,by simp [Sort.swp],fun c hc hcb=>?_,hnx⟩
  rw [hgs,if_neg hcb,hgs,if_neg hcb]
  exact hfr c hc hcb
 ·rw [if_neg hgt] at hres
  refine Ev.cond false (by simp <;> omega) (by simp <;> omega) (fun _=>Ev.skip ?_)
  (try simp only [SB,seval])
  refine Ev.seq (Ev.regD ?_)
  have b1:i2<n:=by omega
  have b2:j2<n:=by omega
  have r1:=arr_ld S.hk (hd.symm ▸ b1)
  have r2:=arr_ld S.hk (hd.symm ▸ b2)
  simp only [SB,t0,ti,tj,b1,b2,cellsOf_some hh,r1,r2,seval]
  rw [arr_st S.hk S.cell hh (hd.symm ▸ b1)]
  rw [arr_st (d:=d.setIfInBounds (i2) d[j2]!) S.hk S.cell (by simp) (by simp; omega)]
  (try simp only [SB,seval])
  have w3:IntKind.wrap .i64 ((i2:Int)+1)=((i2+1:Nat):Int):=wN1 (by omega)
  have w4:IntKind.wrap .i64 ((j2:Int)-1)=((j2-1:Nat):Int):=wS1 (by omega) (by omega)
  refine Ev.seq (Ev.regO ?_)
  simp only [SB,ti,w3,seval]
  refine Ev.seq (Ev.regO ?_)
  simp only [SB,tj,w4,seval]
  obtain ⟨res2,hres2⟩:∃ x,x=Sort.partLoop (ltC c) a (i2+1) (j2-1) (Sort.swp d i2 j2):=⟨_,rfl⟩
  rw [← hres2] at hres
  refine Ev.cut (PlQ enc 12 13 b n cap sp fc a res2 nx h) ?_ ?_
  ·refine Ev.block (Ev.loop (PlJ enc 12 13 b n cap sp fc a (ltC c) res2 nx h) ?_ (j2-1+1-(i2+1)) _ _ _ ⟨i2+1,j2-1,Sort.swp d i2 j2,rfl,by omega,by omega,by omega,by simp [Sort.swp,hd],hres2.symm,by simp [t0],by simp [t1],by simp [t4],by simp,by simp,by simp [Sort.swp],fun c hc hcb=>?_,hnx⟩)
   ·clear hres hres2 hp hp' ep ep' p p' hi2 hj2 hi3 hj3 hne hP hh hfr hnx t0 t1 t4 ti tj hd hai hij hjn w3 w4 r1 r2 b1 b2
    rintro m tm h' nx' ⟨i,j,d,rfl,hai,hij,hjn,hd,hE,hP⟩
    rw [Sort.partLoop_eq] at hE
    refine Ev.block ?_
    obtain ⟨p,hp⟩:∃ p:α→Bool,∀ x,p x=ltC c x d[a]!:=⟨fun x=>ltC c x d[a]!,fun _=>rfl⟩
    obtain ⟨p',hp'⟩:∃ p:α→Bool,∀ x,p x=!ltC c x d[a]!:=⟨fun x=>!ltC c x d[a]!,fun _=>rfl⟩
    have ep:(fun x=>ltC c x d[a]!)=p:=funext fun x=>(hp x).symm
    have ep':(fun x=>!ltC c x d[a]!)=p':=funext fun x=>(hp' x).symm
    obtain ⟨i2,hi2⟩:∃ x,x=Sort.scanUp p d j i:=⟨_,rfl⟩
    have hi3:i≤i2∧i2≤j+1:=hi2 ▸ ⟨(Sort.scanUp_spec p d j _ i rfl).1,(Sort.scanUp_spec p d j _ i rfl).2.1 hij⟩
    refine Ev.cut (PtS enc 12 13 b n cap sp fc a i2 j d nx h) ?_ ?_
    ·skip
     refine Ev.loopG (PuJ enc 12 13 b n cap sp fc a p j i2 d nx h) ?_ (j+1-i) _ _ _ ⟨i,rfl,hai,hij,hi2.symm,hP⟩
     rintro m tm h' nx' ⟨w,rfl,hai,hij,hI,t0,t1,t4,ti,tj,hh,hfr,hnx⟩
     refine Ev.regD ?_
     by_cases hle:w≤j
     ·have d1:decide ((j:Int)<(w:Int))=false:=decide_eq_false (by omega)
      have b1:w<n:=by omega
      have b2:a<n:=by omega
      have r1:=arr_ld S.hk (hd.symm ▸ b1)
      have r2:=arr_ld S.hk (hd.symm ▸ b2)
      repeat (first | simp only [Dv_g,Ov_g,putT_some,putT_none,tgs,boolIs_t,boolIs_f,boolIs_u,Bool.not_true,Bool.not_false,Bool.false_eq_true,isEffC_pur,isEffC_alc,isEffC_red,isEffC_eff,seval] | simp only [SG,t0,t1,t4,ti,tj,d1,b1,b2,cellsOf_some hh,r1,r2,seval])
      refine Dv_callv (f:=fc) (a:=[]) (a2:=[]) (by simp [t4]) ?_
      simp only [cevs_nil,cevs_cons,cev_t,cev_v,tgs,List.nil_append,List.append_nil,seval]
      refine (S.cmp _ _ _ _).mono ?_
      rintro r h1 nx1 ⟨rfl,hn1,hf1⟩
      refine ⟨hn1,?_⟩
      have hh1:=(hf1 b (by omega)).trans hh
      by_cases hl:c d[w]! d[a]!<0
      ·have e1:decide (c d[w]! d[a]!<0)=true:=decide_eq_true hl
       repeat (first | simp only [Dv_g,Ov_g,putT_some,putT_none,tgs,boolIs_t,boolIs_f,boolIs_u,Bool.not_true,Bool.not_false,Bool.false_eq_true,isEffC_pur,isEffC_alc,isEffC_red,isEffC_eff,seval] | simp only [SG,e1,seval])
       rw [sUp_go p d j w hle (by simp [hp,ltC,hl])] at hI
       refine ⟨true,by simp,fun e=>Bool.noConfusion e,fun _=>?_⟩
       have w2:IntKind.wrap .i64 ((w:Int)+1)=((w+1:Nat):Int):=wN1 (by omega)
       refine Ev.block (Ev.regO ?_)
       simp only [SB,ti,w2,seval]
       exact ⟨j+1-(w+1),by omega,w+1,rfl,by omega,by omega,hI,by simp [t0],by simp [t1],by simp [t4],by simp,by simp [tj],hh1,fun c hc hcb=>(hf1 c (by omega)).trans (hfr c hc hcb),by omega⟩
      ·have e1:decide (c d[w]! d[a]!<0)=false:=decide_eq_false hl
       repeat (first | simp only [Dv_g,Ov_g,putT_some,putT_none,tgs,boolIs_t,boolIs_f,boolIs_u,Bool.not_true,Bool.not_false,Bool.false_eq_true,isEffC_pur,isEffC_alc,isEffC_red,isEffC_eff,seval] | simp only [SG,e1,seval])
       rw [sUp_end p d j w (.inr (by simp [hp,ltC,hl]))] at hI
       subst hI
       refine ⟨false,by simp,fun _=>?_,fun e=>Bool.noConfusion e⟩
       (try simp only [SB,seval])
       exact ⟨by simp [t0],by simp [t1],by simp [t4],by simp [ti],by simp [tj],hh1,fun c hc hcb=>(hf1 c (by omega)).trans (hfr c hc hcb),by omega⟩
     ·have d1:decide ((j:Int)<(w:Int))=true:=decide_eq_true (by omega)
      repeat (first | simp only [Dv_g,Ov_g,putT_some,putT_none,tgs,boolIs_t,boolIs_f,boolIs_u,Bool.not_true,Bool.not_false,Bool.false_eq_true,isEffC_pur,isEffC_alc,isEffC_red,isEffC_eff,seval] | simp only [SG,ti,tj,d1,seval])
      rw [sUp_end p d j w (.inl hle)] at hI
      subst hI
      refine ⟨false,by simp,fun _=>?_,fun e=>Bool.noConfusion e⟩
      (try simp only [SB,seval])
      exact ⟨by simp [t0],by simp [t1],by simp [t4],by simp [ti],by simp [tj],hh,hfr,hnx⟩
    clear hP
    intro tm0 h0 nx0 hP
    obtain ⟨j2,hj2⟩:∃ x,x=Sort.scanDown p' d i2 j:=⟨_,rfl⟩
    have hj3:j2≤j∧i2≤j2+1:=hj2 ▸ ⟨(Sort.scanDown_spec p' d i2 j).1,(Sort.scanDown_spec p' d i2 j).2.1 hi3.2⟩
    have hne:i2≤j2→i2<j2:=fun hle=>by
     rcases Nat.lt_or_eq_of_le hle with h | h
     ·exact h
     ·have s1:=(Sort.scanUp_spec p d j _ i rfl).2.2.2
      have s2:=(Sort.scanDown_spec p' d i2 j).2.2.2
      rw [← hi2] at s1
      rw [← hj2] at s2
      have s1:=s1 (by omega)
      have s2:=s2 hle (by omega)
      rw [hp] at s1
      rw [← h,hp'] at s2
      cases hq:ltC c d[i2]! d[a]! <;> rw [hq] at s1 s2 <;> first | (cases s1; done) | (cases s2; done)
    refine Ev.cut (PtS enc 12 13 b n cap sp fc a i2 j2 d nx h) ?_ ?_
    ·have hij:=hi3.2
     refine Ev.loopG (PdJ enc 12 13 b n cap sp fc a p' i2 j2 d nx h) ?_ j _ _ _ ⟨j,rfl,hij,hjn,hj2.symm,hP⟩
     rintro m tm h' nx' ⟨w,hm,hij,hjn,hI,t0,t1,t4,ti,tj,hh,hfr,hnx⟩
     subst hm
     refine Ev.regD ?_
     by_cases hle:i2≤m
     ·have d1:decide ((m:Int)<(i2:Int))=false:=decide_eq_false (by omega)
      have b1:m<n:=by omega
      have b2:a<n:=by omega
      have r1:=arr_ld S.hk (hd.symm ▸ b1)
      have r2:=arr_ld S.hk (hd.symm ▸ b2)
      repeat (first | simp only [Dv_g,Ov_g,putT_some,putT_none,tgs,boolIs_t,boolIs_f,boolIs_u,Bool.not_true,Bool.not_false,Bool.false_eq_true,isEffC_pur,isEffC_alc,isEffC_red,isEffC_eff,seval] | simp only [SG,t0,t1,t4,ti,tj,d1,b1,b2,cellsOf_some hh,r1,r2,seval])
      refine Dv_callv (f:=fc) (a:=[]) (a2:=[]) (by simp [t4]) ?_
      simp only [cevs_nil,cevs_cons,cev_t,cev_v,tgs,List.nil_append,List.append_nil,seval]
      refine (S.cmp _ _ _ _).mono ?_
      rintro r h1 nx1 ⟨rfl,hn1,hf1⟩
      refine ⟨hn1,?_⟩
      have hh1:=(hf1 b (by omega)).trans hh
      by_cases hl:c d[m]! d[a]!<0
      ·have e1:decide (c d[m]! d[a]!<0)=true:=decide_eq_true hl
       repeat (first | simp only [Dv_g,Ov_g,putT_some,putT_none,tgs,boolIs_t,boolIs_f,boolIs_u,Bool.not_true,Bool.not_false,Bool.false_eq_true,isEffC_pur,isEffC_alc,isEffC_red,isEffC_eff,seval] | simp only [SG,e1,seval])
       rw [sDown_end p' d i2 m (.inr (by simp [hp',ltC,hl]))] at hI
       subst hI
       refine ⟨false,by simp,fun _=>?_,fun e=>Bool.noConfusion e⟩
       (try simp only [SB,seval])
       exact ⟨by simp [t0],by simp [t1],by simp [t4],by simp [ti],by simp [tj],hh1,fun c hc hcb=>(hf1 c (by omega)).trans (hfr c hc hcb),by omega⟩
      ·have e1:decide (c d[m]! d[a]!<0)=false:=decide_eq_false hl
       repeat (first | simp only [Dv_g,Ov_g,putT_some,putT_none,tgs,boolIs_t,boolIs_f,boolIs_u,Bool.not_true,Bool.not_false,Bool.false_eq_true,isEffC_pur,isEffC_alc,isEffC_red,isEffC_eff,seval] | simp only [SG,e1,seval])
       rw [sDown_go p' d i2 m hle (by omega) (by simp [hp',ltC,hl])] at hI
       refine ⟨true,by simp,fun e=>Bool.noConfusion e,fun _=>?_⟩
       have w2:IntKind.wrap .i64 ((m:Int)-1)=((m-1:Nat):Int):=wS1 (by omega) (by omega)
       refine Ev.block (Ev.regO ?_)
       simp only [SB,tj,w2,seval]
       exact ⟨m-1,by omega,m-1,rfl,by omega,by omega,hI,by simp [t0],by simp [t1],by simp [t4],by simp [ti],by simp,hh1,fun c hc hcb=>(hf1 c (by omega)).trans (hfr c hc hcb),by omega⟩
     ·have d1:decide ((m:Int)<(i2:Int))=true:=decide_eq_true (by omega)
      repeat (first | simp only [Dv_g,Ov_g,putT_some,putT_none,tgs,boolIs_t,boolIs_f,boolIs_u,Bool.not_true,Bool.not_false,Bool.false_eq_true,isEffC_pur,isEffC_alc,isEffC_red,isEffC_eff,seval] | simp only [SG,ti,tj,d1,seval])
      rw [sDown_end p' d i2 m (.inl hle)] at hI
      subst hI
      refine ⟨false,by simp,fun _=>?_,fun e=>Bool.noConfusion e⟩
      (try simp only [SB,seval])
      exact ⟨by simp [t0],by simp [t1],by simp [t4],by simp [ti],by simp [tj],hh,hfr,hnx⟩
    rintro tm0 h0 nx0 ⟨t0,t1,t4,ti,tj,hh,hfr,hnx⟩
    rw [ep,ep',← hi2,← hj2] at hE
    refine Ev.seq (Ev.seq (Ev.regO ?_))
    simp only [SB,ti,tj,seval]
    by_cases hgt:i2>j2
    ·rw [if_pos hgt] at hE
     subst hE
     refine Ev.cond true (by simp <;> omega) (fun _=>Ev.exit ?_) (by simp <;> omega)
     simp only [SB,seval]
     exact ⟨i2,by show a≤j2; omega,by show j2<n; omega,hd,by simp [t0],by simp [t1],by simp [t4],by simp [ti],by simp [tj],hh,hfr,hnx⟩
    ·rw [if_neg hgt] at hE
     refine Ev.cond false (by simp <;> omega) (by simp <;> omega) (fun _=>Ev.skip ?_)
     (try simp only [SB,seval])
     refine Ev.seq (Ev.regD ?_)
     have b1:i2<n:=by omega
     have b2:j2<n:=by omega
     have r1:=arr_ld S.hk (hd.symm ▸ b1)
     have r2:=arr_ld S.hk (hd.symm ▸ b2)
     simp only [SB,t0,ti,tj,b1,b2,cellsOf_some hh,r1,r2,seval]
     rw [arr_st S.hk S.cell hh (hd.symm ▸ b1)]
     rw [arr_st (d:=d.setIfInBounds (i2) d[j2]!) S.hk S.cell (by simp) (by simp; omega)]
     (try simp only [SB,seval])
     have w3:IntKind.wrap .i64 ((i2:Int)+1)=((i2+1:Nat):Int):=wN1 (by omega)
     have w4:IntKind.wrap .i64 ((j2:Int)-1)=((j2-1:Nat):Int):=wS1 (by omega) (by omega)
     refine Ev.seq (Ev.regO ?_)
     simp only [SB,ti,w3,seval]
     refine Ev.regO ?_
     simp only [SB,tj,w4,seval]
     refine ⟨j2-1+1-(i2+1),by omega,i2+1,j2-1,Sort.swp d i2 j2,rfl,by omega,by omega,by omega,by simp [Sort.swp,hd],hE,by simp [t0],by simp [t1],by simp [t4],by simp,by simp,by simp [Sort.swp],fun c hc hcb=>?_,hnx⟩
     rw [hgs,if_neg hcb,hgs,if_neg hcb]
     exact hfr c hc hcb
   ·rw [hgs,if_neg hcb,hgs,if_neg hcb]
    exact hfr c hc hcb
  ·rintro tm h' nx' ⟨w,hq1,hq2,hq3,t0,t1,t4,ti,tj,hh,hfr,hnx⟩
   subst hres
   refine Ev.seq (Ev.regD ?_)
   have b1:res2.1<n:=by omega
   have b2:a<n:=by omega
   have r1:=arr_ld S.hk (hq3.symm ▸ b1)
   have r2:=arr_ld S.hk (hq3.symm ▸ b2)
   simp only [SB,t0,t1,tj,b1,b2,cellsOf_some hh,r1,r2,seval]
   rw [arr_st S.hk S.cell hh (hq3.symm ▸ b1)]
   rw [arr_st (d:=res2.2.setIfInBounds (res2.1) res2.2[a]!) S.hk S.cell (by simp) (by simp; omega)]
   (try simp only [SB,seval])
   refine Ev.seq (Ev.regO ?_)
   simp only [SB,tj,seval]
   refine Ev.ret ?_
   simp only [SB,seval]
   refine ⟨rfl,by simp [Sort.swp],fun c hc hcb=>?_,hnx⟩
   rw [hgs,if_neg hcb,hgs,if_neg hcb]
   exact hfr c hc hcb
end
section
variable {P:Program} {orc:Orc} {s:Bool}
variable {α:Type} [Inhabited α] {enc:α→List Value} {k:Nat}
def cfPartE (k:Nat):CF:={ res:=[.tmp 10],body :=
 (.seq (.regO [⟨none,(some 10),0,.pur (.mv (.v (.int .i64 0)))⟩])
 (.seq (.regD [⟨none,(some 13),0,.pur (.mv (.t 0))⟩,
  ⟨none,(some 14),0,.pur (.mv (.t 1))⟩,
  ⟨none,(some 17),0,.pur (.mv (.t 0))⟩,
  ⟨none,(some 18),0,.pur (.mv (.t 3))⟩,
  ⟨none,(some 19),0,.pur (.ixA (.slice k) (.t 17) (.t 18))⟩,
  ⟨none,(some 20),0,.red (.ld (some k) (.t 19))⟩,
  ⟨none,(some 21),0,.pur (.mv (.t 0))⟩,
  ⟨none,(some 22),0,.pur (.mv (.t 1))⟩,
  ⟨none,(some 23),0,.pur (.ixA (.slice k) (.t 21) (.t 22))⟩,
  ⟨none,(some 24),0,.red (.ld (some k) (.t 23))⟩,
  ⟨none,(some 25),0,.pur (.ixA (.slice k) (.t 13) (.t 14))⟩,
  ⟨none,none,0,.eff (.st k (.t 25) (.t 20))⟩,
  ⟨none,(some 15),1,.pur (.mv (.t 0))⟩,
  ⟨none,(some 16),1,.pur (.mv (.t 3))⟩,
  ⟨none,(some 26),0,.pur (.ixA (.slice k) (.t 15) (.t 16))⟩,
  ⟨none,none,0,.eff (.st k (.t 26) (.t 24))⟩])
 (.seq (.regO [⟨none,(some 27),0,.pur (.mv (.t 1))⟩,
  ⟨none,(some 28),0,.pur (.bin .add 3 (.t 27) (.v (.int .i64 1)))⟩,
  ⟨none,(some 29),0,.pur (.mv (.t 2))⟩,
  ⟨none,(some 30),0,.pur (.bin .sub 3 (.t 29) (.v (.int .i64 1)))⟩,
  ⟨none,(some 11),0,.pur (.mv (.t 28))⟩,
  ⟨none,(some 12),0,.pur (.mv (.t 30))⟩])
 (.seq (.block 0
 (.loop
  (.block 1
  (.seq (.block 2
   (.loop
   (.seq (.seq (.regD [⟨none,(some 31),0,.pur (.mv (.t 11))⟩,
    ⟨none,(some 32),0,.pur (.mv (.t 12))⟩,
    ⟨none,(some 33),0,.pur (.bin .leq 3 (.t 31) (.t 32))⟩,
    ⟨none,(some 34),0,.pur (.mv (.t 33))⟩,
    ⟨(some (34,true)),(some 35),0,.pur (.mv (.t 4))⟩,
    ⟨(some (34,true)),(some 36),0,.pur (.mv (.t 0))⟩,
    ⟨(some (34,true)),(some 37),0,.pur (.mv (.t 1))⟩,
    ⟨(some (34,true)),(some 38),0,.pur (.ixA (.slice k) (.t 36) (.t 37))⟩,
    ⟨(some (34,true)),(some 39),0,.red (.ld (some k) (.t 38))⟩,
    ⟨(some (34,true)),(some 40),0,.pur (.mv (.t 0))⟩,
    ⟨(some (34,true)),(some 41),0,.pur (.mv (.t 11))⟩,
    ⟨(some (34,true)),(some 42),0,.pur (.ixA (.slice k) (.t 40) (.t 41))⟩,
    ⟨(some (34,true)),(some 43),0,.red (.ld (some k) (.t 42))⟩,
    ⟨(some (34,true)),(some 44),0,.eff (.callv (.t 35) [(.t 39),(.t 43)])⟩,
    ⟨(some (34,true)),(some 45),0,.pur (.bin .lss 3 (.t 44) (.v (.int .i64 0)))⟩,
    ⟨(some (34,true)),(some 46),0,.pur (.un .not (.t 45))⟩,
    ⟨none,(some 47),0,.pur (.pick (.t 34) (.t 46) (.v (.bool false)))⟩])
   (.cond (.t 47)
    .skip
    (.exit 2)))
   (.block 3
    (.regO [⟨none,(some 48),0,.pur (.mv (.t 11))⟩,
     ⟨none,(some 49),0,.pur (.bin .add 3 (.t 48) (.v (.int .i64 1)))⟩,
     ⟨none,(some 11),0,.pur (.mv (.t 49))⟩])))))
  (.seq (.block 4
   (.loop
   (.seq (.seq (.regD [⟨none,(some 50),0,.pur (.mv (.t 11))⟩,
    ⟨none,(some 51),0,.pur (.mv (.t 12))⟩,
    ⟨none,(some 52),0,.pur (.bin .leq 3 (.t 50) (.t 51))⟩,
    ⟨none,(some 53),0,.pur (.mv (.t 52))⟩,
    ⟨(some (53,true)),(some 54),0,.pur (.mv (.t 4))⟩,
    ⟨(some (53,true)),(some 55),0,.pur (.mv (.t 0))⟩,
    ⟨(some (53,true)),(some 56),0,.pur (.mv (.t 1))⟩,
    ⟨(some (53,true)),(some 57),0,.pur (.ixA (.slice k) (.t 55) (.t 56))⟩,
    ⟨(some (53,true)),(some 58),0,.red (.ld (some k) (.t 57))⟩,
    ⟨(some (53,true)),(some 59),0,.pur (.mv (.t 0))⟩,
    ⟨(some (53,true)),(some 60),0,.pur (.mv (.t 12))⟩,
    ⟨(some (53,true)),(some 61),0,.pur (.ixA (.slice k) (.t 59) (.t 60))⟩,
    ⟨(some (53,true)),(some 62),0,.red (.ld (some k) (.t 61))⟩,
    ⟨(some (53,true)),(some 63),0,.eff (.callv (.t 54) [(.t 58),(.t 62)])⟩,
    ⟨(some (53,true)),(some 64),0,.pur (.bin .lss 3 (.t 63) (.v (.int .i64 0)))⟩,
    ⟨none,(some 65),0,.pur (.pick (.t 53) (.t 64) (.v (.bool false)))⟩])
   (.cond (.t 65)
    .skip
    (.exit 4)))
   (.block 5
    (.regO [⟨none,(some 66),0,.pur (.mv (.t 12))⟩,
     ⟨none,(some 67),0,.pur (.bin .sub 3 (.t 66) (.v (.int .i64 1)))⟩,
     ⟨none,(some 12),0,.pur (.mv (.t 67))⟩])))))
  (.seq (.seq (.regO [⟨none,(some 68),0,.pur (.mv (.t 11))⟩,
   ⟨none,(some 69),0,.pur (.mv (.t 12))⟩,
   ⟨none,(some 70),0,.pur (.bin .gtr 3 (.t 68) (.t 69))⟩])
  (.cond (.t 70)
   (.exit 0)
   .skip))
  (.seq (.regD [⟨none,(some 71),0,.pur (.mv (.t 0))⟩,
   ⟨none,(some 72),0,.pur (.mv (.t 11))⟩,
   ⟨none,(some 75),0,.pur (.mv (.t 0))⟩,
   ⟨none,(some 76),0,.pur (.mv (.t 12))⟩,
   ⟨none,(some 77),0,.pur (.ixA (.slice k) (.t 75) (.t 76))⟩,
   ⟨none,(some 78),0,.red (.ld (some k) (.t 77))⟩,
   ⟨none,(some 79),0,.pur (.mv (.t 0))⟩,
   ⟨none,(some 80),0,.pur (.mv (.t 11))⟩,
   ⟨none,(some 81),0,.pur (.ixA (.slice k) (.t 79) (.t 80))⟩,
   ⟨none,(some 82),0,.red (.ld (some k) (.t 81))⟩,
   ⟨none,(some 83),0,.pur (.ixA (.slice k) (.t 71) (.t 72))⟩,
   ⟨none,none,0,.eff (.st k (.t 83) (.t 78))⟩,
   ⟨none,(some 73),1,.pur (.mv (.t 0))⟩,
   ⟨none,(some 74),1,.pur (.mv (.t 12))⟩,
   ⟨none,(some 84),0,.pur (.ixA (.slice k) (.t 73) (.t 74))⟩,
   ⟨none,none,0,.eff (.st k (.t 84) (.t 82))⟩])
  (.seq (.regO [⟨none,(some 85),0,.pur (.mv (.t 11))⟩,
   ⟨none,(some 86),0,.pur (.bin .add 3 (.t 85) (.v (.int .i64 1)))⟩,
   ⟨none,(some 11),0,.pur (.mv (.t 86))⟩])
  (.regO [⟨none,(some 87),0,.pur (.mv (.t 12))⟩,
   ⟨none,(some 88),0,.pur (.bin .sub 3 (.t 87) (.v (.int .i64 1)))⟩,
   ⟨none,(some 12),0,.pur (.mv (.t 88))⟩])))))))))
 (.seq (.regO [⟨none,(some 89),0,.pur (.mv (.t 11))⟩,
  ⟨none,(some 10),0,.pur (.mv (.t 89))⟩])
 .ret))))) }
def PartEK (enc:α→List Value) (b:Nat) (res:Nat × Array α) (nx:Nat) (h:Hp):KC':=fun r h' nx'=>r = .int .i64 (res.1:Int)∧hget h' b=some (.cells (arr enc res.2) false)∧(∀ c,c<nx→c≠b→hget h' c=hget h c)∧nx≤nx'
def PeJ {α:Type} [Inhabited α] (enc:α→List Value) (ti tj b n cap:Nat) (sp:Option Nat) (fc a:Nat) (lt:α→α→Bool) (res:Nat × Array α) (nx:Nat) (h:Hp) (m:Nat) (tm:Tm) (h':Hp) (nx':Nat):Prop :=
 ∃ (i j:Nat) (d:Array α),m=j+1-i∧a<i∧i≤j+1∧j<n∧d.size=n∧Sort.partEqLoop lt a i j d=res∧PtS enc ti tj b n cap sp fc a i j d nx h tm h' nx'
def PeQ {α:Type} [Inhabited α] (enc:α→List Value) (ti tj b n cap:Nat) (sp:Option Nat) (fc a:Nat) (res:Nat × Array α) (nx:Nat) (h:Hp) (tm:Tm) (h':Hp) (nx':Nat):Prop :=
 ∃ j,PtS enc ti tj b n cap sp fc a res.1 j res.2 nx h tm h' nx'
theorem partE_cv {f fc:Nat} {c:α→α→Int} (S:SoAt P orc fc k enc c) (hcf:compAt P f=some (cfPartE k)) (ho:orc f=none) {b n cap a e pv:Nat} {sp:Option Nat} {d:Array α} {h:Hp} {nx:Nat}
  (hb:b<nx) (hd:d.size=n) (hn:n<100000) (hap:a≤pv) (hpe:pv<e) (hen:e≤n) (hh:hget h b=some (.cells (arr enc d) false)) :
  Cv P orc s f [.slice (some ⟨b,0,sp⟩) n cap,.int .i64 (a:Int),.int .i64 (e:Int),.int .i64 (pv:Int),.func (.func fc) #[] #[]] h nx (PartEK enc b (Sort.partitionEqual (ltC c) d a e pv) nx h):=by
 unfold Sort.partitionEqual
 generalize hres:Sort.partEqLoop (ltC c) a (a+1) (e-1) (Sort.swp d a pv)=res
 refine Cv.enter ho hcf ?_
 unfold cfPartE
 refine Ev.seq (Ev.regO ?_)
 simp only [SB,seval]
 refine Ev.seq (Ev.regD ?_)
 have b1:a<n:=by omega
 have b2:pv<n:=by omega
 have r1:=arr_ld S.hk (hd.symm ▸ b1)
 have r2:=arr_ld S.hk (hd.symm ▸ b2)
 simp only [SB,b1,b2,cellsOf_some hh,r1,r2,seval]
 rw [arr_st S.hk S.cell hh (hd.symm ▸ b1)]
 rw [arr_st (d:=d.setIfInBounds (a) d[pv]!) S.hk S.cell (by simp) (by simp; omega)]
 (try simp only [SB,seval])
 have w1:IntKind.wrap .i64 ((a:Int)+1)=((a+1:Nat):Int):=wN1 (by omega)
 have w2:IntKind.wrap .i64 ((e:Int)-1)=((e-1:Nat):Int):=wS1 (by omega) (by omega)
 refine Ev.seq (Ev.regO ?_)
 simp only [SB,w1,w2,seval]
 refine Ev.cut (PeQ enc 11 12 b n cap sp fc a res nx h) ?_ ?_
 ·refine Ev.block (Ev.loop (PeJ enc 11 12 b n cap sp fc a (ltC c) res nx h) ?_ (e-1+1-(a+1)) _ _ _ ⟨a+1,e-1,Sort.swp d a pv,rfl,by omega,by omega,by omega,by simp [Sort.swp,hd],hres,by simp,by simp,by simp,by simp,by simp,by simp [Sort.swp],fun c hc hcb=>by rw [hgs,if_neg hcb,hgs,if_neg hcb],Nat.le_refl _⟩)
  clear hres hh hd w1 w2 r1 r2 b1 b2
  rintro m tm h' nx' ⟨i,j,d,rfl,hai,hij,hjn,hd,hE,hP⟩
  rw [Sort.partEqLoop_eq] at hE
  refine Ev.block ?_
  obtain ⟨p,hp⟩:∃ p:α→Bool,∀ x,p x=!ltC c d[a]! x:=⟨fun x=>!ltC c d[a]! x,fun _=>rfl⟩
  obtain ⟨p',hp'⟩:∃ p:α→Bool,∀ x,p x=ltC c d[a]! x:=⟨fun x=>ltC c d[a]! x,fun _=>rfl⟩
  have ep:(fun x=>!ltC c d[a]! x)=p:=funext fun x=>(hp x).symm
  have ep':(fun x=>ltC c d[a]! x)=p':=funext fun x=>(hp' x).symm
  obtain ⟨i2,hi2⟩:∃ x,x=Sort.scanUp p d j i:=⟨_,rfl⟩
  have hi3:i≤i2∧i2≤j+1:=hi2 ▸ ⟨(Sort.scanUp_spec p d j _ i rfl).1,(Sort.scanUp_spec p d j _ i rfl).2.1 hij⟩
  refine Ev.cut (PtS enc 11 12 b n cap sp fc a i2 j d nx h) ?_ ?_
  ·skip
   refine Ev.loopG (PuJ enc 11 12 b n cap sp fc a p j i2 d nx h) ?_ (j+1-i) _ _ _ ⟨i,rfl,hai,hij,hi2.symm,hP⟩
   rintro m tm h' nx' ⟨w,rfl,hai,hij,hI,t0,t1,t4,ti,tj,hh,hfr,hnx⟩
   refine Ev.regD ?_
   by_cases hle:w≤j
   ·have d1:decide ((j:Int)<(w:Int))=false:=decide_eq_false (by omega)
    have b1:w<n:=by omega
    have b2:a<n:=by omega
    have r1:=arr_ld S.hk (hd.symm ▸ b1)
    have r2:=arr_ld S.hk (hd.symm ▸ b2)
    repeat (first | simp only [Dv_g,Ov_g,putT_some,putT_none,tgs,boolIs_t,boolIs_f,boolIs_u,Bool.not_true,Bool.not_false,Bool.false_eq_true,isEffC_pur,isEffC_alc,isEffC_red,isEffC_eff,seval] | simp only [SG,t0,t1,t4,ti,tj,d1,b1,b2,cellsOf_some hh,r1,r2,seval])
    refine Dv_callv (f:=fc) (a:=[]) (a2:=[]) (by simp [t4]) ?_
    simp only [cevs_nil,cevs_cons,cev_t,cev_v,tgs,List.nil_append,List.append_nil,seval]
    refine (S.cmp _ _ _ _).mono ?_
    rintro r h1 nx1 ⟨rfl,hn1,hf1⟩
    refine ⟨hn1,?_⟩
    have hh1:=(hf1 b (by omega)).trans hh
    by_cases hl:c d[a]! d[w]!<0
    ·have e1:decide (c d[a]! d[w]!<0)=true:=decide_eq_true hl
     repeat (first | simp only [Dv_g,Ov_g,putT_some,putT_none,tgs,boolIs_t,boolIs_f,boolIs_u,Bool.not_true,Bool.not_false,Bool.false_eq_true,isEffC_pur,isEffC_alc,isEffC_red,isEffC_eff,seval] | simp only [SG,e1,seval])
     rw [sUp_end p d j w (.inr (by simp [hp,ltC,hl]))] at hI
     subst hI
     refine ⟨false,by simp,fun _=>?_,fun e=>Bool.noConfusion e⟩
     (try simp only [SB,seval])
     exact ⟨by simp [t0],by simp [t1],by simp [t4],by simp [ti],by simp [tj],hh1,fun c hc hcb=>(hf1 c (by omega)).trans (hfr c hc hcb),by omega⟩
    ·have e1:decide (c d[a]! d[w]!<0)=false:=decide_eq_false hl
     repeat (first | simp only [Dv_g,Ov_g,putT_some,putT_none,tgs,boolIs_t,boolIs_f,boolIs_u,Bool.not_true,Bool.not_false,Bool.false_eq_true,isEffC_pur,isEffC_alc,isEffC_red,isEffC_eff,seval] | simp only [SG,e1,seval])
     rw [sUp_go p d j w hle (by simp [hp,ltC,hl])] at hI
     refine ⟨true,by simp,fun e=>Bool.noConfusion e,fun _=>?_⟩
     have w2:IntKind.wrap .i64 ((w:Int)+1)=((w+1:Nat):Int):=wN1 (by omega)
     refine Ev.block (Ev.regO ?_)
     simp only [SB,ti,w2,seval]
     exact ⟨j+1-(w+1),by omega,w+1,rfl,by omega,by omega,hI,by simp [t0],by simp [t1],by simp [t4],by simp,by simp [tj],hh1,fun c hc hcb=>(hf1 c (by omega)).trans (hfr c hc hcb),by omega⟩
   ·have d1:decide ((j:Int)<(w:Int))=true:=decide_eq_true (by omega)
    repeat (first | simp only [Dv_g,Ov_g,putT_some,putT_none,tgs,boolIs_t,boolIs_f,boolIs_u,Bool.not_true,Bool.not_false,Bool.false_eq_true,isEffC_pur,isEffC_alc,isEffC_red,isEffC_eff,seval] | simp only [SG,ti,tj,d1,seval])
    rw [sUp_end p d j w (.inl hle)] at hI
    subst hI
    refine ⟨false,by simp,fun _=>?_,fun e=>Bool.noConfusion e⟩
    (try simp only [SB,seval])
    exact ⟨by simp [t0],by simp [t1],by simp [t4],by simp [ti],by simp [tj],hh,hfr,hnx⟩
  clear hP
  intro tm0 h0 nx0 hP
  obtain ⟨j2,hj2⟩:∃ x,x=Sort.scanDown p' d i2 j:=⟨_,rfl⟩
  have hj3:j2≤j∧i2≤j2+1:=hj2 ▸ ⟨(Sort.scanDown_spec p' d i2 j).1,(Sort.scanDown_spec p' d i2 j).2.1 hi3.2⟩
  have hne:i2≤j2→i2<j2:=fun hle=>by
   rcases Nat.lt_or_eq_of_le hle with h | h
   ·exact h
   ·have s1:=(Sort.scanUp_spec p d j _ i rfl).2.2.2
    have s2:=(Sort.scanDown_spec p' d i2 j).2.2.2
    rw [← hi2] at s1
    rw [← hj2] at s2
    have s1:=s1 (by omega)
    have s2:=s2 hle (by omega)
    rw [hp] at s1
    rw [← h,hp'] at s2
    cases hq:ltC c d[a]! d[i2]! <;> rw [hq] at s1 s2 <;> first | (cases s1; done) | (cases s2; done)
  refine Ev.cut (PtS enc 11 12 b n cap sp fc a i2 j2 d nx h) ?_ ?_
  ·have hij:=hi3.2
   refine Ev.loopG (PdJ enc 11 12 b n cap sp fc a p' i2 j2 d nx h) ?_ j _ _ _ ⟨j,rfl,hij,hjn,hj2.symm,hP⟩
   rintro m tm h' nx' ⟨w,hm,hij,hjn,hI,t0,t1,t4,ti,tj,hh,hfr,hnx⟩
   subst hm
   refine Ev.regD ?_
   by_cases hle:i2≤m
   ·have d1:decide ((m:Int)<(i2:Int))=false:=decide_eq_false (by omega)
    have b1:m<n:=by omega
    have b2:a<n:=by omega
    have r1:=arr_ld S.hk (hd.symm ▸ b1)
    have r2:=arr_ld S.hk (hd.symm ▸ b2)
    repeat (first | simp only [Dv_g,Ov_g,putT_some,putT_none,tgs,boolIs_t,boolIs_f,boolIs_u,Bool.not_true,Bool.not_false,Bool.false_eq_true,isEffC_pur,isEffC_alc,isEffC_red,isEffC_eff,seval] | simp only [SG,t0,t1,t4,ti,tj,d1,b1,b2,cellsOf_some hh,r1,r2,seval])
    refine Dv_callv (f:=fc) (a:=[]) (a2:=[]) (by simp [t4]) ?_
    simp only [cevs_nil,cevs_cons,cev_t,cev_v,tgs,List.nil_append,List.append_nil,seval]
    refine (S.cmp _ _ _ _).mono ?_
    rintro r h1 nx1 ⟨rfl,hn1,hf1⟩
    refine ⟨hn1,?_⟩
    have hh1:=(hf1 b (by omega)).trans hh
    by_cases hl:c d[a]! d[m]!<0
    ·have e1:decide (c d[a]! d[m]!<0)=true:=decide_eq_true hl
     repeat (first | simp only [Dv_g,Ov_g,putT_some,putT_none,tgs,boolIs_t,boolIs_f,boolIs_u,Bool.not_true,Bool.not_false,Bool.false_eq_true,isEffC_pur,isEffC_alc,isEffC_red,isEffC_eff,seval] | simp only [SG,e1,seval])
     rw [sDown_go p' d i2 m hle (by omega) (by simp [hp',ltC,hl])] at hI
     refine ⟨true,by simp,fun e=>Bool.noConfusion e,fun _=>?_⟩
     have w2:IntKind.wrap .i64 ((m:Int)-1)=((m-1:Nat):Int):=wS1 (by omega) (by omega)
     refine Ev.block (Ev.regO ?_)
     simp only [SB,tj,w2,seval]
     exact ⟨m-1,by omega,m-1,rfl,by omega,by omega,hI,by simp [t0],by simp [t1],by simp [t4],by simp [ti],by simp,hh1,fun c hc hcb=>(hf1 c (by omega)).trans (hfr c hc hcb),by omega⟩
    ·have e1:decide (c d[a]! d[m]!<0)=false:=decide_eq_false hl
     repeat (first | simp only [Dv_g,Ov_g,putT_some,putT_none,tgs,boolIs_t,boolIs_f,boolIs_u,Bool.not_true,Bool.not_false,Bool.false_eq_true,isEffC_pur,isEffC_alc,isEffC_red,isEffC_eff,seval] | simp only [SG,e1,seval])
     rw [sDown_end p' d i2 m (.inr (by simp [hp',ltC,hl]))] at hI
     subst hI
     refine ⟨false,by simp,fun _=>?_,fun e=>Bool.noConfusion e⟩
     (try simp only [SB,seval])
     exact ⟨by simp [t0],by simp [t1],by simp [t4],by simp [ti],by simp [tj],hh1,fun c hc hcb=>(hf1 c (by omega)).trans (hfr c hc hcb),by omega⟩
   ·have d1:decide ((m:Int)<(i2:Int))=true:=decide_eq_true (by omega)
    repeat (first | simp only [Dv_g,Ov_g,putT_some,putT_none,tgs,boolIs_t,boolIs_f,boolIs_u,Bool.not_true,Bool.not_false,Bool.false_eq_true,isEffC_pur,isEffC_alc,isEffC_red,isEffC_eff,seval] | simp only [SG,ti,tj,d1,seval])
    rw [sDown_end p' d i2 m (.inl hle)] at hI
    subst hI
    refine ⟨false,by simp,fun _=>?_,fun e=>Bool.noConfusion e⟩
    (try simp only [SB,seval])
    exact ⟨by simp [t0],by simp [t1],by simp [t4],by simp [ti],by simp [tj],hh,hfr,hnx⟩
  rintro tm0 h0 nx0 ⟨t0,t1,t4,ti,tj,hh,hfr,hnx⟩
  rw [ep,ep',← hi2,← hj2] at hE
  refine Ev.seq (Ev.seq (Ev.regO ?_))
  simp only [SB,ti,tj,seval]
  by_cases hgt:i2>j2
  ·rw [if_pos hgt] at hE
   subst hE
   refine Ev.cond true (by simp <;> omega) (fun _=>Ev.exit ?_) (by simp <;> omega)
   simp only [SB,seval]
   exact ⟨j2,by simp [t0],by simp [t1],by simp [t4],by simp [ti],by simp [tj],hh,hfr,hnx⟩
  ·rw [if_neg hgt] at hE
   refine Ev.cond false (by simp <;> omega) (by simp <;> omega) (fun _=>Ev.skip ?_)
   (try simp only [SB,seval])
   refine Ev.seq (Ev.regD ?_)
   have b1:i2<n:=by omega
   have b2:j2<n:=by omega
   have r1:=arr_ld S.hk (hd.symm ▸ b1)
   have r2:=arr_ld S.hk (hd.symm ▸ b2)
   simp only [SB,t0,ti,tj,b1,b2,cellsOf_some hh,r1,r2,seval]
   rw [arr_st S.hk S.cell hh (hd.symm ▸ b1)]
   rw [arr_st (d:=d.setIfInBounds (i2) d[j2]!) S.hk S.cell (by simp) (by simp; omega)]
   (try simp only [SB,seval])
   have w3:IntKind.wrap .i64 ((i2:Int)+1)=((i2+1:Nat):Int):=wN1 (by omega)
   have w4:IntKind.wrap .i64 ((j2:Int)-1)=((j2-1:Nat):Int):=wS1 (by omega) (by omega)
   refine Ev.seq (Ev.regO ?_)
   simp only [SB,ti,w3,seval]
   refine Ev.regO ?_
   simp only [SB,tj,w4,seval]
   refine ⟨j2-1+1-(i2+1),by omega,i2+1,j2-1,Sort.swp d i2 j2,rfl,by omega,by omega,by omega,by simp [Sort.swp,hd],hE,by simp [t0],by simp [t1],by simp [t4],by simp,by simp,by simp [Sort.swp],fun c hc hcb=>?_,hnx⟩
   rw [hgs,if_neg hcb,hgs,if_neg hcb]
   exact hfr c hc hcb
 ·rintro tm h' nx' ⟨w,t0,t1,t4,ti,tj,hh,hfr,hnx⟩
  refine Ev.seq (Ev.regO ?_)
  simp only [SB,ti,seval]
  refine Ev.ret ?_
  simp only [SB,seval]
  exact ⟨rfl,hh,hfr,hnx⟩
end
section
variable {P:Program} {orc:Orc} {s:Bool}
variable {α:Type} [Inhabited α] {enc:α→List Value} {k:Nat}
def cfPins (k:Nat):CF:={ res:=[.tmp 8],body :=
 (.seq (.regO [⟨none,(some 8),0,.pur (.mv (.v (.bool false)))⟩])
 (.seq (.regO [⟨none,(some 13),0,.pur (.mv (.t 1))⟩,
  ⟨none,(some 14),0,.pur (.bin .add 3 (.t 13) (.v (.int .i64 1)))⟩,
  ⟨none,(some 9),0,.pur (.mv (.t 14))⟩])
 (.seq (.seq (.regO [⟨none,(some 10),0,.pur (.mv (.v (.int .i64 0)))⟩])
 (.block 0
 (.loop
  (.seq (.seq (.regO [⟨none,(some 15),0,.pur (.mv (.t 10))⟩,
   ⟨none,(some 16),0,.pur (.bin .lss 3 (.t 15) (.v (.int .i64 5)))⟩])
  (.cond (.t 16)
  .skip
  (.exit 0)))
  (.seq (.block 1
  (.seq (.block 2
   (.loop
   (.seq (.seq (.regD [⟨none,(some 19),0,.pur (.mv (.t 9))⟩,
    ⟨none,(some 20),0,.pur (.mv (.t 2))⟩,
    ⟨none,(some 21),0,.pur (.bin .lss 3 (.t 19) (.t 20))⟩,
    ⟨none,(some 22),0,.pur (.mv (.t 21))⟩,
    ⟨(some (22,true)),(some 23),0,.pur (.mv (.t 3))⟩,
    ⟨(some (22,true)),(some 24),0,.pur (.mv (.t 0))⟩,
    ⟨(some (22,true)),(some 25),0,.pur (.mv (.t 9))⟩,
    ⟨(some (22,true)),(some 26),0,.pur (.ixA (.slice k) (.t 24) (.t 25))⟩,
    ⟨(some (22,true)),(some 27),0,.red (.ld (some k) (.t 26))⟩,
    ⟨(some (22,true)),(some 28),0,.pur (.mv (.t 0))⟩,
    ⟨(some (22,true)),(some 29),0,.pur (.mv (.t 9))⟩,
    ⟨(some (22,true)),(some 30),0,.pur (.bin .sub 3 (.t 29) (.v (.int .i64 1)))⟩,
    ⟨(some (22,true)),(some 31),0,.pur (.ixA (.slice k) (.t 28) (.t 30))⟩,
    ⟨(some (22,true)),(some 32),0,.red (.ld (some k) (.t 31))⟩,
    ⟨(some (22,true)),(some 33),0,.eff (.callv (.t 23) [(.t 27),(.t 32)])⟩,
    ⟨(some (22,true)),(some 34),0,.pur (.bin .lss 3 (.t 33) (.v (.int .i64 0)))⟩,
    ⟨(some (22,true)),(some 35),0,.pur (.un .not (.t 34))⟩,
    ⟨none,(some 36),0,.pur (.pick (.t 22) (.t 35) (.v (.bool false)))⟩])
   (.cond (.t 36)
    .skip
    (.exit 2)))
   (.block 3
    (.regO [⟨none,(some 37),0,.pur (.mv (.t 9))⟩,
     ⟨none,(some 38),0,.pur (.bin .add 3 (.t 37) (.v (.int .i64 1)))⟩,
     ⟨none,(some 9),0,.pur (.mv (.t 38))⟩])))))
  (.seq (.seq (.regO [⟨none,(some 39),0,.pur (.mv (.t 9))⟩,
   ⟨none,(some 40),0,.pur (.mv (.t 2))⟩,
   ⟨none,(some 41),0,.pur (.bin .eql 3 (.t 39) (.t 40))⟩])
  (.cond (.t 41)
   (.seq (.regO [⟨none,(some 8),0,.pur (.mv (.v (.bool true)))⟩])
   .ret)
   .skip))
  (.seq (.seq (.regO [⟨none,(some 42),0,.pur (.mv (.t 2))⟩,
   ⟨none,(some 43),0,.pur (.mv (.t 1))⟩,
   ⟨none,(some 44),0,.pur (.bin .sub 3 (.t 42) (.t 43))⟩,
   ⟨none,(some 45),0,.pur (.bin .lss 3 (.t 44) (.v (.int .i64 50)))⟩])
  (.cond (.t 45)
   (.seq (.regO [⟨none,(some 8),0,.pur (.mv (.v (.bool false)))⟩])
   .ret)
   .skip))
  (.seq (.regD [⟨none,(some 46),0,.pur (.mv (.t 0))⟩,
   ⟨none,(some 47),0,.pur (.mv (.t 9))⟩,
   ⟨none,(some 51),0,.pur (.mv (.t 0))⟩,
   ⟨none,(some 52),0,.pur (.mv (.t 9))⟩,
   ⟨none,(some 53),0,.pur (.bin .sub 3 (.t 52) (.v (.int .i64 1)))⟩,
   ⟨none,(some 54),0,.pur (.ixA (.slice k) (.t 51) (.t 53))⟩,
   ⟨none,(some 55),0,.red (.ld (some k) (.t 54))⟩,
   ⟨none,(some 56),0,.pur (.mv (.t 0))⟩,
   ⟨none,(some 57),0,.pur (.mv (.t 9))⟩,
   ⟨none,(some 58),0,.pur (.ixA (.slice k) (.t 56) (.t 57))⟩,
   ⟨none,(some 59),0,.red (.ld (some k) (.t 58))⟩,
   ⟨none,(some 60),0,.pur (.ixA (.slice k) (.t 46) (.t 47))⟩,
   ⟨none,none,0,.eff (.st k (.t 60) (.t 55))⟩,
   ⟨none,(some 48),1,.pur (.mv (.t 0))⟩,
   ⟨none,(some 49),1,.pur (.mv (.t 9))⟩,
   ⟨none,(some 50),1,.pur (.bin .sub 3 (.t 49) (.v (.int .i64 1)))⟩,
   ⟨none,(some 61),0,.pur (.ixA (.slice k) (.t 48) (.t 50))⟩,
   ⟨none,none,0,.eff (.st k (.t 61) (.t 59))⟩])
  (.seq (.seq (.regO [⟨none,(some 62),0,.pur (.mv (.t 9))⟩,
   ⟨none,(some 63),0,.pur (.mv (.t 1))⟩,
   ⟨none,(some 64),0,.pur (.bin .sub 3 (.t 62) (.t 63))⟩,
   ⟨none,(some 65),0,.pur (.bin .geq 3 (.t 64) (.v (.int .i64 2)))⟩])
  (.cond (.t 65)
   (.seq (.regO [⟨none,(some 66),0,.pur (.mv (.t 9))⟩,
    ⟨none,(some 67),0,.pur (.bin .sub 3 (.t 66) (.v (.int .i64 1)))⟩,
    ⟨none,(some 11),0,.pur (.mv (.t 67))⟩])
   (.block 4
   (.loop
    (.seq (.seq (.regO [⟨none,(some 68),0,.pur (.mv (.t 11))⟩,
     ⟨none,(some 69),0,.pur (.bin .geq 3 (.t 68) (.v (.int .i64 1)))⟩])
    (.cond (.t 69)
    .skip
    (.exit 4)))
    (.seq (.block 5
    (.seq (.seq (.regD [⟨none,(some 72),0,.pur (.mv (.t 3))⟩,
     ⟨none,(some 73),0,.pur (.mv (.t 0))⟩,
     ⟨none,(some 74),0,.pur (.mv (.t 11))⟩,
     ⟨none,(some 75),0,.pur (.ixA (.slice k) (.t 73) (.t 74))⟩,
     ⟨none,(some 76),0,.red (.ld (some k) (.t 75))⟩,
     ⟨none,(some 77),0,.pur (.mv (.t 0))⟩,
     ⟨none,(some 78),0,.pur (.mv (.t 11))⟩,
     ⟨none,(some 79),0,.pur (.bin .sub 3 (.t 78) (.v (.int .i64 1)))⟩,
     ⟨none,(some 80),0,.pur (.ixA (.slice k) (.t 77) (.t 79))⟩,
     ⟨none,(some 81),0,.red (.ld (some k) (.t 80))⟩,
     ⟨none,(some 82),0,.eff (.callv (.t 72) [(.t 76),(.t 81)])⟩,
     ⟨none,(some 83),0,.pur (.bin .lss 3 (.t 82) (.v (.int .i64 0)))⟩,
     ⟨none,(some 84),0,.pur (.un .not (.t 83))⟩])
    (.cond (.t 84)
     (.exit 4)
     .skip))
    (.regD [⟨none,(some 85),0,.pur (.mv (.t 0))⟩,
     ⟨none,(some 86),0,.pur (.mv (.t 11))⟩,
     ⟨none,(some 90),0,.pur (.mv (.t 0))⟩,
     ⟨none,(some 91),0,.pur (.mv (.t 11))⟩,
     ⟨none,(some 92),0,.pur (.bin .sub 3 (.t 91) (.v (.int .i64 1)))⟩,
     ⟨none,(some 93),0,.pur (.ixA (.slice k) (.t 90) (.t 92))⟩,
     ⟨none,(some 94),0,.red (.ld (some k) (.t 93))⟩,
     ⟨none,(some 95),0,.pur (.mv (.t 0))⟩,
     ⟨none,(some 96),0,.pur (.mv (.t 11))⟩,
     ⟨none,(some 97),0,.pur (.ixA (.slice k) (.t 95) (.t 96))⟩,
     ⟨none,(some 98),0,.red (.ld (some k) (.t 97))⟩,
     ⟨none,(some 99),0,.pur (.ixA (.slice k) (.t 85) (.t 86))⟩,
     ⟨none,none,0,.eff (.st k (.t 99) (.t 94))⟩,
     ⟨none,(some 87),1,.pur (.mv (.t 0))⟩,
     ⟨none,(some 88),1,.pur (.mv (.t 11))⟩,
     ⟨none,(some 89),1,.pur (.bin .sub 3 (.t 88) (.v (.int .i64 1)))⟩,
     ⟨none,(some 100),0,.pur (.ixA (.slice k) (.t 87) (.t 89))⟩,
     ⟨none,none,0,.eff (.st k (.t 100) (.t 98))⟩])))
    (.regO [⟨none,(some 70),0,.pur (.mv (.t 11))⟩,
     ⟨none,(some 71),0,.pur (.bin .sub 3 (.t 70) (.v (.int .i64 1)))⟩,
     ⟨none,(some 11),0,.pur (.mv (.t 71))⟩]))))))
   .skip))
  (.seq (.regO [⟨none,(some 101),0,.pur (.mv (.t 2))⟩,
   ⟨none,(some 102),0,.pur (.mv (.t 9))⟩,
   ⟨none,(some 103),0,.pur (.bin .sub 3 (.t 101) (.t 102))⟩,
   ⟨none,(some 104),0,.pur (.bin .geq 3 (.t 103) (.v (.int .i64 2)))⟩])
  (.cond (.t 104)
   (.seq (.regO [⟨none,(some 105),0,.pur (.mv (.t 9))⟩,
    ⟨none,(some 106),0,.pur (.bin .add 3 (.t 105) (.v (.int .i64 1)))⟩,
    ⟨none,(some 12),0,.pur (.mv (.t 106))⟩])
   (.block 6
   (.loop
    (.seq (.seq (.regO [⟨none,(some 107),0,.pur (.mv (.t 12))⟩,
     ⟨none,(some 108),0,.pur (.mv (.t 2))⟩,
     ⟨none,(some 109),0,.pur (.bin .lss 3 (.t 107) (.t 108))⟩])
    (.cond (.t 109)
    .skip
    (.exit 6)))
    (.seq (.block 7
    (.seq (.seq (.regD [⟨none,(some 112),0,.pur (.mv (.t 3))⟩,
     ⟨none,(some 113),0,.pur (.mv (.t 0))⟩,
     ⟨none,(some 114),0,.pur (.mv (.t 12))⟩,
     ⟨none,(some 115),0,.pur (.ixA (.slice k) (.t 113) (.t 114))⟩,
     ⟨none,(some 116),0,.red (.ld (some k) (.t 115))⟩,
     ⟨none,(some 117),0,.pur (.mv (.t 0))⟩,
     ⟨none,(some 118),0,.pur (.mv (.t 12))⟩,
     ⟨none,(some 119),0,.pur (.bin .sub 3 (.t 118) (.v (.int .i64 1)))⟩,
     ⟨none,(some 120),0,.pur (.ixA (.slice k) (.t 117) (.t 119))⟩,
     ⟨none,(some 121),0,.red (.ld (some k) (.t 120))⟩,
     ⟨none,(some 122),0,.eff (.callv (.t 112) [(.t 116),(.t 121)])⟩,
     ⟨none,(some 123),0,.pur (.bin .lss 3 (.t 122) (.v (.int .i64 0)))⟩,
     ⟨none,(some 124),0,.pur (.un .not (.t 123))⟩])
    (.cond (.t 124)
     (.exit 6)
     .skip))
    (.regD [⟨none,(some 125),0,.pur (.mv (.t 0))⟩,
     ⟨none,(some 126),0,.pur (.mv (.t 12))⟩,
     ⟨none,(some 130),0,.pur (.mv (.t 0))⟩,
     ⟨none,(some 131),0,.pur (.mv (.t 12))⟩,
     ⟨none,(some 132),0,.pur (.bin .sub 3 (.t 131) (.v (.int .i64 1)))⟩,
     ⟨none,(some 133),0,.pur (.ixA (.slice k) (.t 130) (.t 132))⟩,
     ⟨none,(some 134),0,.red (.ld (some k) (.t 133))⟩,
     ⟨none,(some 135),0,.pur (.mv (.t 0))⟩,
     ⟨none,(some 136),0,.pur (.mv (.t 12))⟩,
     ⟨none,(some 137),0,.pur (.ixA (.slice k) (.t 135) (.t 136))⟩,
     ⟨none,(some 138),0,.red (.ld (some k) (.t 137))⟩,
     ⟨none,(some 139),0,.pur (.ixA (.slice k) (.t 125) (.t 126))⟩,
     ⟨none,none,0,.eff (.st k (.t 139) (.t 134))⟩,
     ⟨none,(some 127),1,.pur (.mv (.t 0))⟩,
     ⟨none,(some 128),1,.pur (.mv (.t 12))⟩,
     ⟨none,(some 129),1,.pur (.bin .sub 3 (.t 128) (.v (.int .i64 1)))⟩,
     ⟨none,(some 140),0,.pur (.ixA (.slice k) (.t 127) (.t 129))⟩,
     ⟨none,none,0,.eff (.st k (.t 140) (.t 138))⟩])))
    (.regO [⟨none,(some 110),0,.pur (.mv (.t 12))⟩,
     ⟨none,(some 111),0,.pur (.bin .add 3 (.t 110) (.v (.int .i64 1)))⟩,
     ⟨none,(some 12),0,.pur (.mv (.t 111))⟩]))))))
   .skip))))))))
  (.regO [⟨none,(some 17),0,.pur (.mv (.t 10))⟩,
   ⟨none,(some 18),0,.pur (.bin .add 3 (.t 17) (.v (.int .i64 1)))⟩,
   ⟨none,(some 10),0,.pur (.mv (.t 18))⟩]))))))
 (.seq (.regO [⟨none,(some 8),0,.pur (.mv (.v (.bool false)))⟩])
 .ret)))) }
def PinsK (enc:α→List Value) (b:Nat) (res:Array α × Bool) (nx:Nat) (h:Hp):KC':=fun r h' nx'=>r = .bool res.2∧hget h' b=some (.cells (arr enc res.1) false)∧(∀ c,c<nx→c≠b→hget h' c=hget h c)∧nx≤nx'
def PiS {α:Type} [Inhabited α] (enc:α→List Value) (b n cap:Nat) (sp:Option Nat) (fc a e:Nat) (i stp:Nat) (d:Array α) (nx:Nat) (h:Hp) (tm:Tm) (h':Hp) (nx':Nat):Prop :=
 tget tm 0 = .slice (some ⟨b,0,sp⟩) n cap∧tget tm 1 = .int .i64 (a:Int)∧tget tm 2 = .int .i64 (e:Int)∧tget tm 3 = .func (.func fc) #[] #[]∧tget tm 9 = .int .i64 (i:Int)∧tget tm 10 = .int .i64 (stp:Int)∧hget h' b=some (.cells (arr enc d) false)∧(∀ c,c<nx→c≠b→hget h' c=hget h c)∧nx≤nx'
def PxJd {α:Type} [Inhabited α] (enc:α→List Value) (b n cap:Nat) (sp:Option Nat) (fc a e:Nat) (lt:α→α→Bool) (i stp:Nat) (dD:Array α) (nx:Nat) (h:Hp) (m:Nat) (tm:Tm) (h':Hp) (nx':Nat):Prop :=
 ∃ (j:Nat) (d:Array α),m=j∧tget tm 11 = .int .i64 (j:Int)∧j<n∧d.size=n∧Sort.shiftDown lt j d=dD∧PiS enc b n cap sp fc a e i stp d nx h tm h' nx'
def PxJu {α:Type} [Inhabited α] (enc:α→List Value) (b n cap:Nat) (sp:Option Nat) (fc a e:Nat) (lt:α→α→Bool) (i stp:Nat) (dU:Array α) (nx:Nat) (h:Hp) (m:Nat) (tm:Tm) (h':Hp) (nx':Nat):Prop :=
 ∃ (j:Nat) (d:Array α),m=e-j∧tget tm 12 = .int .i64 (j:Int)∧0<j∧d.size=n∧Sort.shiftUp lt e j d=dU∧PiS enc b n cap sp fc a e i stp d nx h tm h' nx'
def PsJ {α:Type} [Inhabited α] (enc:α→List Value) (b n cap:Nat) (sp:Option Nat) (fc a e:Nat) (lt:α→α→Bool) (stp i2:Nat) (d:Array α) (nx:Nat) (h:Hp) (m:Nat) (tm:Tm) (h':Hp) (nx':Nat):Prop :=
 ∃ w,m=e-w∧a<w∧w≤e∧Sort.scanSorted lt d e w=i2∧PiS enc b n cap sp fc a e w stp d nx h tm h' nx'
def PiJ {α:Type} [Inhabited α] (enc:α→List Value) (b n cap:Nat) (sp:Option Nat) (fc a e:Nat) (lt:α→α→Bool) (res:Array α × Bool) (nx:Nat) (h:Hp) (m:Nat) (tm:Tm) (h':Hp) (nx':Nat):Prop :=
 ∃ (q i:Nat) (d:Array α),m=q∧q≤5∧a<i∧i≤e∧d.size=n∧Sort.partialIns lt a e q i d=res∧PiS enc b n cap sp fc a e i (5-q) d nx h tm h' nx'
def PiQ {α:Type} [Inhabited α] (enc:α→List Value) (b n cap:Nat) (sp:Option Nat) (fc a e:Nat) (res:Array α × Bool) (nx:Nat) (h:Hp) (tm:Tm) (h':Hp) (nx':Nat):Prop:=res.2=false∧hget h' b=some (.cells (arr enc res.1) false)∧(∀ c,c<nx→c≠b→hget h' c=hget h c)∧nx≤nx'
theorem shiftDown_size (lt:α→α→Bool):∀ (j:Nat) (d:Array α),(Sort.shiftDown lt j d).size=d.size
 | 0,d=>rfl
 | j+1,d=>by
  rw [Sort.shiftDown]
  split
  ·rfl
  ·rw [shiftDown_size lt j]; simp [Sort.swp]
theorem shiftUp_size (lt:α→α→Bool) (e:Nat):∀ (m j:Nat) (d:Array α),e-j≤m→(Sort.shiftUp lt e j d).size=d.size
 | 0,j,d,hm=>by rw [Sort.shiftUp,if_neg (by omega)]
 | m+1,j,d,hm=>by
  rw [Sort.shiftUp]
  split
  ·split
   ·rfl
   ·rw [shiftUp_size lt e m _ _ (by omega)]; simp [Sort.swp]
  ·rfl
theorem scanSorted_rng (lt:α→α→Bool) (d:Array α) (e:Nat):∀ (m i:Nat),e-i≤m→i≤Sort.scanSorted lt d e i∧(i≤e→Sort.scanSorted lt d e i≤e)
 | 0,i,hm=>by
  rw [Sort.scanSorted,if_neg (by simp; omega)]
  exact ⟨Nat.le_refl _,fun h=>h⟩
 | m+1,i,hm=>by
  rw [Sort.scanSorted]
  split
  ·rename_i hc
   have hie:i<e:=by simp at hc; exact hc.1
   have ih:=scanSorted_rng lt d e m (i+1) (by omega)
   exact ⟨by omega,fun _=>ih.2 (by omega)⟩
  ·exact ⟨Nat.le_refl _,fun h=>h⟩
theorem pins_cv {f fc:Nat} {c:α→α→Int} (S:SoAt P orc fc k enc c) (hcf:compAt P f=some (cfPins k)) (ho:orc f=none) {b n cap a e:Nat} {sp:Option Nat} {d:Array α} {h:Hp} {nx:Nat}
  (hb:b<nx) (hd:d.size=n) (hn:n<100000) (hae:a<e) (hen:e≤n) (hh:hget h b=some (.cells (arr enc d) false)) :
  Cv P orc s f [.slice (some ⟨b,0,sp⟩) n cap,.int .i64 (a:Int),.int .i64 (e:Int),.func (.func fc) #[] #[]] h nx (PinsK enc b (Sort.partialInsertionSort (ltC c) d a e) nx h):=by
 unfold Sort.partialInsertionSort
 generalize hres:Sort.partialIns (ltC c) a e 5 (a+1) d=res
 refine Cv.enter ho hcf ?_
 unfold cfPins
 refine Ev.seq (Ev.regO ?_)
 simp only [SB,seval]
 refine Ev.seq (Ev.regO ?_)
 have w1:IntKind.wrap .i64 ((a:Int)+1)=((a+1:Nat):Int):=wN1 (by omega)
 simp only [SB,w1,seval]
 refine Ev.cut (PiQ enc b n cap sp fc a e res nx h) ?_ ?_
 ·refine Ev.seq (Ev.regO ?_)
  simp only [SB,seval]
  refine Ev.loopG (PiJ enc b n cap sp fc a e (ltC c) res nx h) ?_ 5 _ _ _ ⟨5,a+1,d,rfl,Nat.le_refl _,by omega,by omega,hd,hres,by simp,by simp,by simp,by simp,by simp,by simp,hh,fun _ _ _=>rfl,Nat.le_refl _⟩
  clear hres hh hd
  rintro m tm h' nx' ⟨q,i,d,hm,hq,hai,hie,hd,hE,t0,t1,t2,t3,t9,t10,hh,hfr,hnx⟩
  subst hm
  refine Ev.regO ?_
  simp only [SB,t10,seval]
  cases m with
  | zero =>
   have hE:(d,false)=res:=hE
   subst hE
   refine ⟨false,by simp,fun _=>?_,fun e=>Bool.noConfusion e⟩
   (try simp only [SB,seval])
   exact ⟨rfl,hh,hfr,hnx⟩
  | succ q =>
   refine ⟨true,by simp <;> omega,fun e=>Bool.noConfusion e,fun _=>?_⟩
   generalize hstp:5-(q+1)=stp at t10
   refine Ev.cut (fun tm h' nx'=>∃ (i:Nat) (d:Array α),a<i∧i≤e∧d.size=n∧Sort.partialIns (ltC c) a e q i d=res∧PiS enc b n cap sp fc a e i stp d nx h tm h' nx') ?_ ?_
   ·refine Ev.block ?_
    obtain ⟨i2,hi2⟩:∃ x,x=Sort.scanSorted (ltC c) d e i:=⟨_,rfl⟩
    have hi3:i≤i2∧i2≤e:=hi2 ▸ ⟨(scanSorted_rng (ltC c) d e _ i (Nat.le_refl _)).1,(scanSorted_rng (ltC c) d e _ i (Nat.le_refl _)).2 hie⟩
    refine Ev.cut (PiS enc b n cap sp fc a e i2 stp d nx h) ?_ ?_
    ·refine Ev.loopG (PsJ enc b n cap sp fc a e (ltC c) stp i2 d nx h) ?_ (e-i) _ _ _ ⟨i,rfl,hai,hie,hi2.symm,by simp [t0],by simp [t1],by simp [t2],by simp [t3],by simp [t9],by simp [t10],hh,hfr,hnx⟩
     rintro m tm h' nx' ⟨w,rfl,haw,hwe,hI,t0,t1,t2,t3,t9,t10,hh,hfr,hnx⟩
     rw [Sort.scanSorted] at hI
     refine Ev.regD ?_
     by_cases hlt:w<e
     ·have d1:decide ((w:Int)<(e:Int))=true:=decide_eq_true (by omega)
      have w3:IntKind.wrap .i64 ((w:Int)-1)=((w-1:Nat):Int):=wS1 (by omega) (by omega)
      have w4:IntKind.wrap .i64 ((w:Int)+1)=((w+1:Nat):Int):=wN1 (by omega)
      have b1:w<n:=by omega
      have b2:w-1<n:=by omega
      have r1:=arr_ld S.hk (hd.symm ▸ b1)
      have r2:=arr_ld S.hk (hd.symm ▸ b2)
      repeat (first | simp only [Dv_g,Ov_g,putT_some,putT_none,tgs,boolIs_t,boolIs_f,boolIs_u,Bool.not_true,Bool.not_false,Bool.false_eq_true,isEffC_pur,isEffC_alc,isEffC_red,isEffC_eff,seval] | simp only [SG,t0,t2,t3,t9,d1,w3,b1,b2,cellsOf_some hh,r1,r2,seval])
      refine Dv_callv (f:=fc) (a:=[]) (a2:=[]) (by simp [t3]) ?_
      simp only [cevs_nil,cevs_cons,cev_t,cev_v,tgs,List.nil_append,List.append_nil,seval]
      refine (S.cmp _ _ _ _).mono ?_
      rintro r h1 nx1 ⟨rfl,hn1,hf1⟩
      refine ⟨hn1,?_⟩
      have hh1:=(hf1 b (by omega)).trans hh
      by_cases hl:c d[w]! d[w-1]!<0
      ·have e1:decide (c d[w]! d[w-1]!<0)=true:=decide_eq_true hl
       repeat (first | simp only [Dv_g,Ov_g,putT_some,putT_none,tgs,boolIs_t,boolIs_f,boolIs_u,Bool.not_true,Bool.not_false,Bool.false_eq_true,isEffC_pur,isEffC_alc,isEffC_red,isEffC_eff,seval] | simp only [SG,e1,seval])
       rw [if_neg (by rw [show ltC c d[w]! d[w-1]! = true from e1]; simp)] at hI
       subst hI
       refine ⟨false,by simp,fun _=>?_,fun e=>Bool.noConfusion e⟩
       (try simp only [SB,seval])
       exact ⟨by simp [t0],by simp [t1],by simp [t2],by simp [t3],by simp [t9],by simp [t10],hh1,fun c hc hcb=>(hf1 c (by omega)).trans (hfr c hc hcb),by omega⟩
      ·have e1:decide (c d[w]! d[w-1]!<0)=false:=decide_eq_false hl
       repeat (first | simp only [Dv_g,Ov_g,putT_some,putT_none,tgs,boolIs_t,boolIs_f,boolIs_u,Bool.not_true,Bool.not_false,Bool.false_eq_true,isEffC_pur,isEffC_alc,isEffC_red,isEffC_eff,seval] | simp only [SG,e1,seval])
       rw [if_pos (by rw [show ltC c d[w]! d[w-1]! = false from e1,decide_eq_true hlt]; rfl)] at hI
       refine ⟨true,by simp,fun e=>Bool.noConfusion e,fun _=>?_⟩
       refine Ev.block (Ev.regO ?_)
       simp only [SB,t9,w4,seval]
       exact ⟨e-(w+1),by omega,w+1,rfl,by omega,by omega,hI,by simp [t0],by simp [t1],by simp [t2],by simp [t3],by simp,by simp [t10],hh1,fun c hc hcb=>(hf1 c (by omega)).trans (hfr c hc hcb),by omega⟩
     ·have d1:decide ((w:Int)<(e:Int))=false:=decide_eq_false (by omega)
      repeat (first | simp only [Dv_g,Ov_g,putT_some,putT_none,tgs,boolIs_t,boolIs_f,boolIs_u,Bool.not_true,Bool.not_false,Bool.false_eq_true,isEffC_pur,isEffC_alc,isEffC_red,isEffC_eff,seval] | simp only [SG,t2,t9,d1,seval])
      rw [if_neg (by rw [decide_eq_false hlt]; simp)] at hI
      subst hI
      refine ⟨false,by simp,fun _=>?_,fun e=>Bool.noConfusion e⟩
      (try simp only [SB,seval])
      exact ⟨by simp [t0],by simp [t1],by simp [t2],by simp [t3],by simp [t9],by simp [t10],hh,hfr,hnx⟩
    ·clear hh hfr hnx t0 t1 t2 t3 t9 t10
     rintro tm h' nx' ⟨t0,t1,t2,t3,t9,t10,hh,hfr,hnx⟩
     rw [Sort.partialIns,← hi2] at hE
     simp only at hE
     refine Ev.seq (Ev.seq (Ev.regO ?_))
     simp only [SB,t2,t9,seval]
     by_cases hfull:i2=e
     ·rw [if_pos hfull] at hE
      subst hE
      refine Ev.cond true (by simp [hfull]) (fun _=>?_) (by simp [hfull])
      refine Ev.seq (Ev.regO ?_)
      simp only [SB,seval]
      refine Ev.ret ?_
      simp only [SB,seval]
      exact ⟨rfl,hh,hfr,hnx⟩
     rw [if_neg hfull] at hE
     refine Ev.cond false (by simp <;> omega) (by simp <;> omega) (fun _=>Ev.skip ?_)
     (try simp only [SB,seval])
     have w5:IntKind.wrap .i64 ((e:Int)-(a:Int))=((e-a:Nat):Int):=wSub (by omega) (by omega)
     refine Ev.seq (Ev.seq (Ev.regO ?_))
     simp only [SB,t1,t2,w5,seval]
     by_cases hshort:e-a<50
     ·rw [if_pos hshort] at hE
      subst hE
      refine Ev.cond true (by simp <;> omega) (fun _=>?_) (by simp <;> omega)
      refine Ev.seq (Ev.regO ?_)
      simp only [SB,seval]
      refine Ev.ret ?_
      simp only [SB,seval]
      exact ⟨rfl,hh,hfr,hnx⟩
     rw [if_neg hshort] at hE
     refine Ev.cond false (by simp <;> omega) (by simp <;> omega) (fun _=>Ev.skip ?_)
     (try simp only [SB,seval])
     have w3:IntKind.wrap .i64 ((i2:Int)-1)=((i2-1:Nat):Int):=wS1 (by omega) (by omega)
     have w4:IntKind.wrap .i64 ((i2:Int)+1)=((i2+1:Nat):Int):=wN1 (by omega)
     have w6:IntKind.wrap .i64 ((i2:Int)-(a:Int))=((i2-a:Nat):Int):=wSub (by omega) (by omega)
     have w7:IntKind.wrap .i64 ((e:Int)-(i2:Int))=((e-i2:Nat):Int):=wSub (by omega) (by omega)
     have b1:i2<n:=by omega
     have b2:i2-1<n:=by omega
     have r1:=arr_ld S.hk (hd.symm ▸ b1)
     have r2:=arr_ld S.hk (hd.symm ▸ b2)
     refine Ev.seq (Ev.regD ?_)
     simp only [SB,t0,t9,w3,b1,b2,cellsOf_some hh,r1,r2,seval]
     rw [arr_st S.hk S.cell hh (hd.symm ▸ b1)]
     rw [arr_st (d:=d.setIfInBounds (i2) d[i2-1]!) S.hk S.cell (by simp) (by simp; omega)]
     (try simp only [SB,seval])
     refine Ev.genH (fun tm1 h1=>PiS enc b n cap sp fc a e i2 stp (Sort.swp d i2 (i2-1)) nx h tm1 h1 nx') ⟨by simp [t0],by simp [t1],by simp [t2],by simp [t3],by simp [t9],by simp [t10],by simp [Sort.swp],fun c hc hcb=>by rw [hgs,if_neg hcb,hgs,if_neg hcb]; exact hfr c hc hcb,hnx⟩ ?_
     intro tm1 h1 hP
     have hd1:(Sort.swp d i2 (i2-1)).size=n:=by simp [Sort.swp,hd]
     generalize Sort.swp d i2 (i2-1)=d1 at hE hP hd1
     obtain ⟨d,hdd⟩:∃ x:Array α,x=d1:=⟨d1,rfl⟩
     subst hdd
     have hd:=hd1
     clear hh hfr t0 t1 t2 t3 t9 t10 r1 r2 hd1
     obtain ⟨i,hi⟩:∃ x,x=i2:=⟨_,rfl⟩
     subst hi
     have hdDs:(if i-a≥2 then Sort.shiftDown (ltC c) (i-1) d else d).size=n:=by
      split
      ·rw [shiftDown_size,hd]
      ·exact hd
     generalize hD:(if i-a≥2 then Sort.shiftDown (ltC c) (i-1) d else d)=dD at hE hdDs
     obtain ⟨t0,t1,t2,t3,t9,t10,hh,hfr,hnx⟩:=hP
     refine Ev.cut (PiS enc b n cap sp fc a e i stp dD nx h) ?_ ?_
     ·refine Ev.seq (Ev.regO ?_)
      simp only [SB,t1,t9,w6,seval]
      by_cases h2:i-a≥2
      ·rw [if_pos h2] at hD
       refine Ev.cond true (by simp <;> omega) (fun _=>?_) (by simp <;> omega)
       refine Ev.seq (Ev.regO ?_)
       simp only [SB,t9,w3,seval]
       refine Ev.loopG (PxJd enc b n cap sp fc a e (ltC c) i stp dD nx h) ?_ (i-1) _ _ _ ⟨i-1,d,rfl,by simp,by omega,hd,hD,by simp [t0],by simp [t1],by simp [t2],by simp [t3],by simp [t9],by simp [t10],hh,hfr,hnx⟩
       rintro m tm h' nx' ⟨j,d,hm,t11,hj,hd,hD,t0,t1,t2,t3,t9,t10,hh,hfr,hnx⟩
       subst hm
       refine Ev.regO ?_
       simp only [SB,t11,seval]
       by_cases hj0:m=0
       ·subst hj0
        have hD:d=dD:=hD
        subst hD
        refine ⟨false,by simp,fun _=>?_,fun e=>Bool.noConfusion e⟩
        (try simp only [SB,seval])
        exact ⟨by simp [t0],by simp [t1],by simp [t2],by simp [t3],by simp [t9],by simp [t10],hh,hfr,hnx⟩
       ·obtain ⟨j,rfl⟩:∃ j,m=j+1:=⟨m-1,by omega⟩
        have w3:IntKind.wrap .i64 (((j+1:Nat):Int)-1)=(j:Int):=by rw [wS1 (by omega) (by omega)]; rfl
        have b1:j+1<n:=by omega
        have b2:j<n:=by omega
        have r1:=arr_ld S.hk (hd.symm ▸ b1)
        have r2:=arr_ld S.hk (hd.symm ▸ b2)
        refine ⟨true,by simp <;> omega,fun e=>Bool.noConfusion e,fun _=>?_⟩
        refine Ev.seq (Ev.block (Ev.seq (Ev.seq (Ev.regD ?_))))
        simp only [SB,t0,t3,t11,w3,b1,b2,cellsOf_some hh,r1,r2,seval]
        refine Dv_callv (f:=fc) (a:=[]) (a2:=[]) (by simp [t3]) ?_
        simp only [cevs_nil,cevs_cons,cev_t,cev_v,tgs,List.nil_append,List.append_nil,seval]
        refine (S.cmp _ _ _ _).mono ?_
        rintro r h1 nx1 ⟨rfl,hn1,hf1⟩
        refine ⟨hn1,?_⟩
        have hh1:=(hf1 b (by omega)).trans hh
        by_cases hl:c d[j+1]! d[j]!<0
        ·have e1:decide (c d[j+1]! d[j]!<0)=true:=decide_eq_true hl
         simp only [SB,e1,seval]
         refine Ev.cond false (by simp) (by simp) (fun _=>Ev.skip ?_)
         (try simp only [SB,seval])
         have hD:Sort.shiftDown (ltC c) j (Sort.swp d (j+1) j)=dD:=by
          rw [← hD,Sort.shiftDown,if_neg (by rw [show ltC c d[j+1]! d[j]! = true from e1]; simp)]
         refine Ev.regD ?_
         simp only [SB,t0,t11,w3,b1,b2,cellsOf_some hh1,r1,r2,seval]
         rw [arr_st S.hk S.cell hh1 (hd.symm ▸ b1)]
         rw [arr_st (d:=d.setIfInBounds (j+1) d[j]!) S.hk S.cell (by simp) (by simp; omega)]
         (try simp only [SB,seval])
         refine Ev.regO ?_
         simp only [SB,t11,w3,seval]
         refine ⟨j,by omega,j,Sort.swp d (j+1) j,rfl,by simp,by omega,by simp [Sort.swp,hd],hD,by simp [t0],by simp [t1],by simp [t2],by simp [t3],by simp [t9],by simp [t10],by simp [Sort.swp],fun c hc hcb=>?_,by omega⟩
         rw [hgs,if_neg hcb,hgs,if_neg hcb,hf1 c (by omega)]
         exact hfr c hc hcb
        ·have e1:decide (c d[j+1]! d[j]!<0)=false:=decide_eq_false hl
         simp only [SB,e1,seval]
         have hD:d=dD:=by
          rw [← hD,Sort.shiftDown,if_pos (by rw [show ltC c d[j+1]! d[j]! = false from e1]; rfl)]
         subst hD
         refine Ev.cond true (by simp) (fun _=>Ev.exit ?_) (by simp)
         simp only [SB,seval]
         exact ⟨by simp [t0],by simp [t1],by simp [t2],by simp [t3],by simp [t9],by simp [t10],hh1,fun c hc hcb=>(hf1 c (by omega)).trans (hfr c hc hcb),by omega⟩
      ·rw [if_neg h2] at hD
       subst hD
       refine Ev.cond false (by simp <;> omega) (by simp <;> omega) (fun _=>Ev.skip ?_)
       (try simp only [SB,seval])
       exact ⟨by simp [t0],by simp [t1],by simp [t2],by simp [t3],by simp [t9],by simp [t10],hh,hfr,hnx⟩
     ·clear hh hfr hnx t0 t1 t2 t3 t9 t10 hD hd
      rintro tm h' nx' ⟨t0,t1,t2,t3,t9,t10,hh,hfr,hnx⟩
      obtain ⟨d,hdd⟩:∃ x:Array α,x=dD:=⟨dD,rfl⟩
      subst hdd
      have hd:=hdDs
      have hdUs:(if e-i≥2 then Sort.shiftUp (ltC c) e (i+1) d else d).size=n:=by
       split
       ·rw [shiftUp_size _ _ _ _ _ (Nat.le_refl _),hd]
       ·exact hd
      generalize hU:(if e-i≥2 then Sort.shiftUp (ltC c) e (i+1) d else d)=dU at hE hdUs
      refine Ev.seq (Ev.regO ?_)
      simp only [SB,t2,t9,w7,seval]
      by_cases h2:e-i≥2
      ·rw [if_pos h2] at hU
       refine Ev.cond true (by simp <;> omega) (fun _=>?_) (by simp <;> omega)
       refine Ev.seq (Ev.regO ?_)
       simp only [SB,t9,w4,seval]
       refine Ev.mono (K:=fun x tm h' nx'=>nextK (PiS enc b n cap sp fc a e i stp dU nx h) (fun _ _ _ _=>False) x tm h' nx') ?_ ?_
       ·show Ev P orc s _ _ _ _ (nextK (PiS enc b n cap sp fc a e i stp dU nx h) (fun _ _ _ _=>False))
        refine Ev.loopG (PxJu enc b n cap sp fc a e (ltC c) i stp dU nx h) ?_ (e-(i+1)) _ _ _ ⟨i+1,d,rfl,by simp,by omega,hd,hU,by simp [t0],by simp [t1],by simp [t2],by simp [t3],by simp [t9],by simp [t10],hh,hfr,hnx⟩
        rintro m tm h' nx' ⟨j,d,rfl,t12,hj,hd,hU,t0,t1,t2,t3,t9,t10,hh,hfr,hnx⟩
        refine Ev.regO ?_
        simp only [SB,t2,t12,seval]
        rw [Sort.shiftUp] at hU
        by_cases hje:j<e
        ·rw [if_pos hje] at hU
         have w3:IntKind.wrap .i64 ((j:Int)-1)=((j-1:Nat):Int):=wS1 (by omega) (by omega)
         have w4:IntKind.wrap .i64 ((j:Int)+1)=((j+1:Nat):Int):=wN1 (by omega)
         have b1:j<n:=by omega
         have b2:j-1<n:=by omega
         have r1:=arr_ld S.hk (hd.symm ▸ b1)
         have r2:=arr_ld S.hk (hd.symm ▸ b2)
         refine ⟨true,by simp <;> omega,fun e=>Bool.noConfusion e,fun _=>?_⟩
         refine Ev.seq (Ev.block (Ev.seq (Ev.seq (Ev.regD ?_))))
         simp only [SB,t0,t3,t12,w3,b1,b2,cellsOf_some hh,r1,r2,seval]
         refine Dv_callv (f:=fc) (a:=[]) (a2:=[]) (by simp [t3]) ?_
         simp only [cevs_nil,cevs_cons,cev_t,cev_v,tgs,List.nil_append,List.append_nil,seval]
         refine (S.cmp _ _ _ _).mono ?_
         rintro r h1 nx1 ⟨rfl,hn1,hf1⟩
         refine ⟨hn1,?_⟩
         have hh1:=(hf1 b (by omega)).trans hh
         by_cases hl:c d[j]! d[j-1]!<0
         ·have e1:decide (c d[j]! d[j-1]!<0)=true:=decide_eq_true hl
          simp only [SB,e1,seval]
          refine Ev.cond false (by simp) (by simp) (fun _=>Ev.skip ?_)
          (try simp only [SB,seval])
          rw [if_neg (by rw [show ltC c d[j]! d[j-1]! = true from e1]; simp)] at hU
          refine Ev.regD ?_
          simp only [SB,t0,t12,w3,b1,b2,cellsOf_some hh1,r1,r2,seval]
          rw [arr_st S.hk S.cell hh1 (hd.symm ▸ b1)]
          rw [arr_st (d:=d.setIfInBounds (j) d[j-1]!) S.hk S.cell (by simp) (by simp; omega)]
          (try simp only [SB,seval])
          refine Ev.regO ?_
          simp only [SB,t12,w4,seval]
          refine ⟨e-(j+1),by omega,j+1,Sort.swp d j (j-1),rfl,by simp,by omega,by simp [Sort.swp,hd],hU,by simp [t0],by simp [t1],by simp [t2],by simp [t3],by simp [t9],by simp [t10],by simp [Sort.swp],fun c hc hcb=>?_,by omega⟩
          rw [hgs,if_neg hcb,hgs,if_neg hcb,hf1 c (by omega)]
          exact hfr c hc hcb
         ·have e1:decide (c d[j]! d[j-1]!<0)=false:=decide_eq_false hl
          simp only [SB,e1,seval]
          rw [if_pos (by rw [show ltC c d[j]! d[j-1]! = false from e1]; rfl)] at hU
          subst hU
          refine Ev.cond true (by simp) (fun _=>Ev.exit ?_) (by simp)
          simp only [SB,seval]
          exact ⟨by simp [t0],by simp [t1],by simp [t2],by simp [t3],by simp [t9],by simp [t10],hh1,fun c hc hcb=>(hf1 c (by omega)).trans (hfr c hc hcb),by omega⟩
        ·rw [if_neg hje] at hU
         subst hU
         refine ⟨false,by simp <;> omega,fun _=>?_,fun e=>Bool.noConfusion e⟩
         (try simp only [SB,seval])
         exact ⟨by simp [t0],by simp [t1],by simp [t2],by simp [t3],by simp [t9],by simp [t10],hh,hfr,hnx⟩
       ·intro x tm h' nx' hx
        cases x with
        | normal =>
         simp only [nextK_normal] at hx
         (try simp only [SB,seval])
         exact ⟨i,dU,by omega,by omega,hdUs,hE,hx⟩
        | ret=>exact hx.elim
        | exit y=>exact hx.elim
      ·rw [if_neg h2] at hU
       subst hU
       refine Ev.cond false (by simp <;> omega) (by simp <;> omega) (fun _=>Ev.skip ?_)
       (try simp only [SB,seval])
       exact ⟨i,d,by omega,by omega,hd,hE,by simp [t0],by simp [t1],by simp [t2],by simp [t3],by simp [t9],by simp [t10],hh,hfr,hnx⟩
   ·clear hh hfr hnx t0 t1 t2 t3 t9 t10 hE hd hai hie
    rintro tm h' nx' ⟨i,d,hai,hie,hd,hE,t0,t1,t2,t3,t9,t10,hh,hfr,hnx⟩
    have w8:IntKind.wrap .i64 ((stp:Int)+1)=((stp+1:Nat):Int):=wN1 (by omega)
    refine Ev.regO ?_
    simp only [SB,t10,w8,seval]
    exact ⟨q,by omega,q,i,d,rfl,by omega,hai,hie,hd,hE,by simp [t0],by simp [t1],by simp [t2],by simp [t3],by simp [t9],by simp; omega,hh,hfr,hnx⟩
 ·rintro tm h' nx' ⟨hq,hh,hfr,hnx⟩
  refine Ev.seq (Ev.regO ?_)
  simp only [SB,seval]
  refine Ev.ret ?_
  simp only [SB,seval]
  exact ⟨by rw [hq],hh,hfr,hnx⟩
end
section
variable {P:Program} {orc:Orc} {s:Bool}
variable {α:Type} [Inhabited α] {enc:α→List Value} {k:Nat}
def cfOrd2 (k:Nat):CF:={ res:=[.tmp 10,.tmp 11],body :=
 (.seq (.regO [⟨none,(some 10),0,.pur (.mv (.v (.int .i64 0)))⟩,
  ⟨none,(some 11),0,.pur (.mv (.v (.int .i64 0)))⟩])
 (.seq (.seq (.regD [⟨none,(some 12),0,.pur (.mv (.t 4))⟩,
  ⟨none,(some 13),0,.pur (.mv (.t 0))⟩,
  ⟨none,(some 14),0,.pur (.mv (.t 2))⟩,
  ⟨none,(some 15),0,.pur (.ixA (.slice k) (.t 13) (.t 14))⟩,
  ⟨none,(some 16),0,.red (.ld (some k) (.t 15))⟩,
  ⟨none,(some 17),0,.pur (.mv (.t 0))⟩,
  ⟨none,(some 18),0,.pur (.mv (.t 1))⟩,
  ⟨none,(some 19),0,.pur (.ixA (.slice k) (.t 17) (.t 18))⟩,
  ⟨none,(some 20),0,.red (.ld (some k) (.t 19))⟩,
  ⟨none,(some 21),0,.eff (.callv (.t 12) [(.t 16),(.t 20)])⟩,
  ⟨none,(some 22),0,.pur (.bin .lss 3 (.t 21) (.v (.int .i64 0)))⟩])
 (.cond (.t 22)
 (.seq (.regO [⟨none,(some 23),0,.pur (.mv (.t 3))⟩,
  ⟨none,(some 24),0,.pur (.nilc (.t 23))⟩,
  ⟨none,(some 25),0,.red (.ld none (.t 24))⟩,
  ⟨none,(some 26),0,.pur (.bin .add 3 (.t 25) (.v (.int .i64 1)))⟩,
  ⟨none,(some 27),0,.pur (.nilc (.t 23))⟩,
  ⟨none,none,0,.eff (.st 1 (.t 27) (.t 26))⟩])
 (.seq (.regO [⟨none,(some 28),0,.pur (.mv (.t 2))⟩,
  ⟨none,(some 29),0,.pur (.mv (.t 1))⟩,
  ⟨none,(some 10),0,.pur (.mv (.t 28))⟩,
  ⟨none,(some 11),0,.pur (.mv (.t 29))⟩])
 .ret))
 .skip))
 (.seq (.regO [⟨none,(some 30),0,.pur (.mv (.t 1))⟩,
  ⟨none,(some 31),0,.pur (.mv (.t 2))⟩,
  ⟨none,(some 10),0,.pur (.mv (.t 30))⟩,
  ⟨none,(some 11),0,.pur (.mv (.t 31))⟩])
 .ret))) }
def cfMed (fo:Nat):CF:={ res:=[.tmp 12],body :=
 (.seq (.regO [⟨none,(some 12),0,.pur (.mv (.v (.int .i64 0)))⟩])
 (.seq (.regO [⟨none,(some 14),0,.pur (.mv (.t 0))⟩,
  ⟨none,(some 15),0,.pur (.mv (.t 1))⟩,
  ⟨none,(some 16),0,.pur (.mv (.t 2))⟩,
  ⟨none,(some 17),0,.pur (.mv (.t 4))⟩,
  ⟨none,(some 18),0,.pur (.mv (.t 5))⟩,
  ⟨none,(some 19),0,.eff (.call fo [(.t 14),(.t 15),(.t 16),(.t 17),(.t 18)])⟩,
  ⟨none,(some 13),0,.pur (.mv (.t 19))⟩,
  ⟨none,(some 20),0,.pur (.ext (.t 13) 0)⟩,
  ⟨none,(some 21),0,.pur (.ext (.t 13) 1)⟩,
  ⟨none,(some 1),0,.pur (.mv (.t 20))⟩,
  ⟨none,(some 2),0,.pur (.mv (.t 21))⟩])
 (.seq (.regO [⟨none,(some 23),0,.pur (.mv (.t 0))⟩,
  ⟨none,(some 24),0,.pur (.mv (.t 2))⟩,
  ⟨none,(some 25),0,.pur (.mv (.t 3))⟩,
  ⟨none,(some 26),0,.pur (.mv (.t 4))⟩,
  ⟨none,(some 27),0,.pur (.mv (.t 5))⟩,
  ⟨none,(some 28),0,.eff (.call fo [(.t 23),(.t 24),(.t 25),(.t 26),(.t 27)])⟩,
  ⟨none,(some 22),0,.pur (.mv (.t 28))⟩,
  ⟨none,(some 29),0,.pur (.ext (.t 22) 0)⟩,
  ⟨none,(some 30),0,.pur (.ext (.t 22) 1)⟩,
  ⟨none,(some 2),0,.pur (.mv (.t 29))⟩,
  ⟨none,(some 3),0,.pur (.mv (.t 30))⟩])
 (.seq (.regO [⟨none,(some 32),0,.pur (.mv (.t 0))⟩,
  ⟨none,(some 33),0,.pur (.mv (.t 1))⟩,
  ⟨none,(some 34),0,.pur (.mv (.t 2))⟩,
  ⟨none,(some 35),0,.pur (.mv (.t 4))⟩,
  ⟨none,(some 36),0,.pur (.mv (.t 5))⟩,
  ⟨none,(some 37),0,.eff (.call fo [(.t 32),(.t 33),(.t 34),(.t 35),(.t 36)])⟩,
  ⟨none,(some 31),0,.pur (.mv (.t 37))⟩,
  ⟨none,(some 38),0,.pur (.ext (.t 31) 0)⟩,
  ⟨none,(some 39),0,.pur (.ext (.t 31) 1)⟩,
  ⟨none,(some 1),0,.pur (.mv (.t 38))⟩,
  ⟨none,(some 2),0,.pur (.mv (.t 39))⟩])
 (.seq (.regO [⟨none,(some 40),0,.pur (.mv (.t 2))⟩,
  ⟨none,(some 12),0,.pur (.mv (.t 40))⟩])
 .ret))))) }
def cfMedA (fm:Nat):CF:={ res:=[.tmp 8],body :=
 (.seq (.regO [⟨none,(some 8),0,.pur (.mv (.v (.int .i64 0)))⟩])
 (.seq (.regO [⟨none,(some 9),0,.pur (.mv (.t 0))⟩,
  ⟨none,(some 10),0,.pur (.mv (.t 1))⟩,
  ⟨none,(some 11),0,.pur (.bin .sub 3 (.t 10) (.v (.int .i64 1)))⟩,
  ⟨none,(some 12),0,.pur (.mv (.t 1))⟩,
  ⟨none,(some 13),0,.pur (.mv (.t 1))⟩,
  ⟨none,(some 14),0,.pur (.bin .add 3 (.t 13) (.v (.int .i64 1)))⟩,
  ⟨none,(some 15),0,.pur (.mv (.t 2))⟩,
  ⟨none,(some 16),0,.pur (.mv (.t 3))⟩,
  ⟨none,(some 17),0,.eff (.call fm [(.t 9),(.t 11),(.t 12),(.t 14),(.t 15),(.t 16)])⟩,
  ⟨none,(some 8),0,.pur (.mv (.t 17))⟩])
 .ret)) }
def cfChoose (fa fm:Nat):CF:={ res:=[.tmp 8,.tmp 9],body :=
 (.seq (.regO [⟨none,(some 8),0,.pur (.mv (.v (.int .i64 0)))⟩,
  ⟨none,(some 9),0,.pur (.mv (.v (.int .i64 0)))⟩])
 (.seq (.regO [⟨none,(some 15),0,.pur (.mv (.t 2))⟩,
  ⟨none,(some 16),0,.pur (.mv (.t 1))⟩,
  ⟨none,(some 17),0,.pur (.bin .sub 3 (.t 15) (.t 16))⟩,
  ⟨none,(some 10),0,.pur (.mv (.t 17))⟩])
 (.seq (.regO [⟨none,(some 11),0,.alc (.new [(.int .i64 0)])⟩])
 (.seq (.regO [⟨none,(some 18),0,.pur (.mv (.t 1))⟩,
  ⟨none,(some 19),0,.pur (.mv (.t 10))⟩,
  ⟨none,(some 20),0,.pur (.bin .quo 3 (.t 19) (.v (.int .i64 4)))⟩,
  ⟨none,(some 21),0,.pur (.bin .mul 3 (.t 20) (.v (.int .i64 1)))⟩,
  ⟨none,(some 22),0,.pur (.bin .add 3 (.t 18) (.t 21))⟩,
  ⟨none,(some 12),0,.pur (.mv (.t 22))⟩])
 (.seq (.regO [⟨none,(some 23),0,.pur (.mv (.t 1))⟩,
  ⟨none,(some 24),0,.pur (.mv (.t 10))⟩,
  ⟨none,(some 25),0,.pur (.bin .quo 3 (.t 24) (.v (.int .i64 4)))⟩,
  ⟨none,(some 26),0,.pur (.bin .mul 3 (.t 25) (.v (.int .i64 2)))⟩,
  ⟨none,(some 27),0,.pur (.bin .add 3 (.t 23) (.t 26))⟩,
  ⟨none,(some 13),0,.pur (.mv (.t 27))⟩])
 (.seq (.regO [⟨none,(some 28),0,.pur (.mv (.t 1))⟩,
  ⟨none,(some 29),0,.pur (.mv (.t 10))⟩,
  ⟨none,(some 30),0,.pur (.bin .quo 3 (.t 29) (.v (.int .i64 4)))⟩,
  ⟨none,(some 31),0,.pur (.bin .mul 3 (.t 30) (.v (.int .i64 3)))⟩,
  ⟨none,(some 32),0,.pur (.bin .add 3 (.t 28) (.t 31))⟩,
  ⟨none,(some 14),0,.pur (.mv (.t 32))⟩])
 (.seq (.seq (.regO [⟨none,(some 33),0,.pur (.mv (.t 10))⟩,
  ⟨none,(some 34),0,.pur (.bin .geq 3 (.t 33) (.v (.int .i64 8)))⟩])
 (.cond (.t 34)
 (.seq (.seq (.regO [⟨none,(some 35),0,.pur (.mv (.t 10))⟩,
  ⟨none,(some 36),0,.pur (.bin .geq 3 (.t 35) (.v (.int .i64 50)))⟩])
 (.cond (.t 36)
  (.seq (.regO [⟨none,(some 37),0,.pur (.mv (.t 0))⟩,
   ⟨none,(some 38),0,.pur (.mv (.t 12))⟩,
   ⟨none,(some 39),0,.pur (.mv (.t 3))⟩,
   ⟨none,(some 40),0,.eff (.call fa [(.t 37),(.t 38),(.t 11),(.t 39)])⟩,
   ⟨none,(some 12),0,.pur (.mv (.t 40))⟩])
  (.seq (.regO [⟨none,(some 41),0,.pur (.mv (.t 0))⟩,
   ⟨none,(some 42),0,.pur (.mv (.t 13))⟩,
   ⟨none,(some 43),0,.pur (.mv (.t 3))⟩,
   ⟨none,(some 44),0,.eff (.call fa [(.t 41),(.t 42),(.t 11),(.t 43)])⟩,
   ⟨none,(some 13),0,.pur (.mv (.t 44))⟩])
  (.regO [⟨none,(some 45),0,.pur (.mv (.t 0))⟩,
   ⟨none,(some 46),0,.pur (.mv (.t 14))⟩,
   ⟨none,(some 47),0,.pur (.mv (.t 3))⟩,
   ⟨none,(some 48),0,.eff (.call fa [(.t 45),(.t 46),(.t 11),(.t 47)])⟩,
   ⟨none,(some 14),0,.pur (.mv (.t 48))⟩])))
  .skip))
 (.regO [⟨none,(some 49),0,.pur (.mv (.t 0))⟩,
  ⟨none,(some 50),0,.pur (.mv (.t 12))⟩,
  ⟨none,(some 51),0,.pur (.mv (.t 13))⟩,
  ⟨none,(some 52),0,.pur (.mv (.t 14))⟩,
  ⟨none,(some 53),0,.pur (.mv (.t 3))⟩,
  ⟨none,(some 54),0,.eff (.call fm [(.t 49),(.t 50),(.t 51),(.t 52),(.t 11),(.t 53)])⟩,
  ⟨none,(some 13),0,.pur (.mv (.t 54))⟩]))
 .skip))
 (.seq (.regO [⟨none,(some 55),0,.red (.ld none (.t 11))⟩])
 (.block 0
 (.seq (.regO [⟨none,(some 58),0,.pur (.bin .eql 3 (.t 55) (.v (.int .i64 0)))⟩,
  ⟨none,(some 57),0,.pur (.mv (.t 58))⟩])
 (.cond (.t 57)
  (.seq (.regO [⟨none,(some 59),0,.pur (.mv (.t 13))⟩,
   ⟨none,(some 8),0,.pur (.mv (.t 59))⟩,
   ⟨none,(some 9),0,.pur (.mv (.v (.int .i64 1)))⟩])
  .ret)
  (.seq (.regO [⟨none,(some 61),0,.pur (.bin .eql 3 (.t 55) (.v (.int .i64 12)))⟩,
   ⟨none,(some 60),0,.pur (.mv (.t 61))⟩])
  (.cond (.t 60)
  (.seq (.regO [⟨none,(some 62),0,.pur (.mv (.t 13))⟩,
   ⟨none,(some 8),0,.pur (.mv (.t 62))⟩,
   ⟨none,(some 9),0,.pur (.mv (.v (.int .i64 2)))⟩])
  .ret)
  (.seq (.regO [⟨none,(some 56),0,.pur (.mv (.t 13))⟩,
   ⟨none,(some 8),0,.pur (.mv (.t 56))⟩,
   ⟨none,(some 9),0,.pur (.mv (.v (.int .i64 0)))⟩])
  .ret)))))))))))))) }
def Ord2K (bs x y sw nx:Nat) (h:Hp):KC':=fun r h' nx'=>∃ p q s':Nat,r = .tuple ⟨[.int .i64 (p:Int),.int .i64 (q:Int)]⟩∧((p=x∧q=y)∨(p=y∧q=x))∧s'≤sw+1∧hget h' bs=some (.cells [.int .i64 (s':Int)] false)∧(∀ c,c<nx→c≠bs→hget h' c=hget h c)∧nx≤nx'
def MedK (bs lo hi sw nx:Nat) (h:Hp):KC':=fun r h' nx'=>∃ p s':Nat,r = .int .i64 (p:Int)∧lo≤p∧p<hi∧s'≤sw+3∧hget h' bs=some (.cells [.int .i64 (s':Int)] false)∧(∀ c,c<nx→c≠bs→hget h' c=hget h c)∧nx≤nx'
theorem order2_cv {f fc:Nat} {c:α→α→Int} (S:SoAt P orc fc k enc c) (hcf:compAt P f=some (cfOrd2 k)) (ho:orc f=none) {x y:Nat} {b bs n cap sw:Nat} {sp:Option Nat} {d:Array α} {h:Hp} {nx:Nat}
  (hb:b<nx) (hbs:bs<nx) (hne:bs≠b) (hd:d.size=n) (hn:n<100000) (hh:hget h b=some (.cells (arr enc d) false)) (hs:hget h bs=some (.cells [.int .i64 (sw:Int)] false)) (hsw:sw<2000) (hx:x<n) (hy:y<n) :
  Cv P orc s f [.slice (some ⟨b,0,sp⟩) n cap,.int .i64 (x:Int),.int .i64 (y:Int),.pointer (some ⟨bs,0,none⟩),.func (.func fc) #[] #[]] h nx (Ord2K bs x y sw nx h):=by
 refine Cv.enter ho hcf ?_
 unfold cfOrd2
 have r1:=arr_ld S.hk (hd.symm ▸ hx)
 have r2:=arr_ld S.hk (hd.symm ▸ hy)
 refine Ev.seq (Ev.regO ?_)
 simp only [SB,seval]
 refine Ev.seq (Ev.seq (Ev.regD ?_))
 simp only [SB,hx,hy,cellsOf_some hh,r1,r2,seval]
 refine Dv_callv (f:=fc) (a:=[]) (a2:=[]) (by simp) ?_
 simp only [cevs_nil,cevs_cons,cev_t,cev_v,tgs,List.nil_append,List.append_nil,seval]
 refine (S.cmp _ _ _ _).mono ?_
 rintro r h1 nx1 ⟨rfl,hn1,hf1⟩
 refine ⟨hn1,?_⟩
 have hs1:=(hf1 bs (by omega)).trans hs
 by_cases hl:c d[y]! d[x]!<0
 ·have e1:decide (c d[y]! d[x]!<0)=true:=decide_eq_true hl
  simp only [SB,e1,seval]
  have w1:IntKind.wrap .i64 ((sw:Int)+1)=((sw+1:Nat):Int):=wN1 (by omega)
  refine Ev.cond true (by simp) (fun _=>?_) (by simp)
  refine Ev.seq (Ev.regO ?_)
  simp only [SB,cellsOf_some hs1,w1,seval]
  rw [RK_st1 hs1 rfl (by simp)]
  (try simp only [SB,seval])
  refine Ev.seq (Ev.regO ?_)
  simp only [SB,seval]
  refine Ev.ret ?_
  simp only [SB,seval]
  exact ⟨y,x,sw+1,rfl,.inr ⟨rfl,rfl⟩,Nat.le_refl _,by simp,fun c hc hcb=>by rw [hgs,if_neg hcb]; exact hf1 c hc,hn1⟩
 ·have e1:decide (c d[y]! d[x]!<0)=false:=decide_eq_false hl
  simp only [SB,e1,seval]
  refine Ev.cond false (by simp) (by simp) (fun _=>Ev.skip ?_)
  (try simp only [SB,seval])
  refine Ev.seq (Ev.regO ?_)
  simp only [SB,seval]
  refine Ev.ret ?_
  simp only [SB,seval]
  exact ⟨x,y,sw,rfl,.inl ⟨rfl,rfl⟩,by omega,hs1,fun c hc _=>hf1 c hc,hn1⟩
theorem med_cv {f fo fc:Nat} {c:α→α→Int} (S:SoAt P orc fc k enc c) (hcf:compAt P f=some (cfMed fo)) (ho:orc f=none) (hco:compAt P fo=some (cfOrd2 k)) (hoo:orc fo=none) {x y z lo hi:Nat} {b bs n cap sw:Nat} {sp:Option Nat} {d:Array α} {h:Hp} {nx:Nat}
  (hb:b<nx) (hbs:bs<nx) (hne:bs≠b) (hd:d.size=n) (hn:n<100000) (hh:hget h b=some (.cells (arr enc d) false)) (hs:hget h bs=some (.cells [.int .i64 (sw:Int)] false)) (hsw:sw<1000) (hx:lo≤x∧x<hi) (hy:lo≤y∧y<hi) (hz:lo≤z∧z<hi) (hhi:hi≤n) :
  Cv P orc s f [.slice (some ⟨b,0,sp⟩) n cap,.int .i64 (x:Int),.int .i64 (y:Int),.int .i64 (z:Int),.pointer (some ⟨bs,0,none⟩),.func (.func fc) #[] #[]] h nx (MedK bs lo hi sw nx h):=by
 refine Cv.enter ho hcf ?_
 unfold cfMed
 refine Ev.seq (Ev.regO ?_)
 simp only [SB,seval]
 refine Ev.seq (Ev.regO ?_)
 simp only [SB,seval]
 refine Ov_call ?_
 simp only [cevs_nil,cevs_cons,cev_t,cev_v,tgs,seval]
 refine (order2_cv S hco hoo hb hbs hne hd hn hh hs (by omega) (by omega) (by omega)).mono ?_
 rintro r h1 nx1 ⟨p1,q1,s1,rfl,hpq1,hle1,hs1,hf1,hn1⟩
 have hh1:=(hf1 b hb (fun e=>hne e.symm)).trans hh
 simp only [SB,seval]
 refine Ev.seq (Ev.regO ?_)
 simp only [SB,seval]
 refine Ov_call ?_
 simp only [cevs_nil,cevs_cons,cev_t,cev_v,tgs,seval]
 refine (order2_cv S hco hoo (by omega) (by omega) hne hd hn hh1 hs1 (by omega) (by omega) (by omega)).mono ?_
 rintro r h2 nx2 ⟨p2,q2,s2,rfl,hpq2,hle2,hs2,hf2,hn2⟩
 have hh2:=(hf2 b (by omega) (fun e=>hne e.symm)).trans hh1
 simp only [SB,seval]
 refine Ev.seq (Ev.regO ?_)
 simp only [SB,seval]
 refine Ov_call ?_
 simp only [cevs_nil,cevs_cons,cev_t,cev_v,tgs,seval]
 refine (order2_cv S hco hoo (by omega) (by omega) hne hd hn hh2 hs2 (by omega) (by omega) (by omega)).mono ?_
 rintro r h3 nx3 ⟨p3,q3,s3,rfl,hpq3,hle3,hs3,hf3,hn3⟩
 simp only [SB,seval]
 refine Ev.seq (Ev.regO ?_)
 simp only [SB,seval]
 refine Ev.ret ?_
 simp only [SB,seval]
 exact ⟨q3,s3,rfl,by omega,by omega,by omega,hs3,fun c hc hcb=>by rw [hf3 c (by omega) hcb,hf2 c (by omega) hcb]; exact hf1 c hc hcb,by omega⟩
theorem medA_cv {f fm fo fc:Nat} {c:α→α→Int} (S:SoAt P orc fc k enc c) (hcf:compAt P f=some (cfMedA fm)) (ho:orc f=none) (hcm:compAt P fm=some (cfMed fo)) (hom:orc fm=none) (hco:compAt P fo=some (cfOrd2 k)) (hoo:orc fo=none) {x lo hi:Nat} {b bs n cap sw:Nat} {sp:Option Nat} {d:Array α} {h:Hp} {nx:Nat}
  (hb:b<nx) (hbs:bs<nx) (hne:bs≠b) (hd:d.size=n) (hn:n<100000) (hh:hget h b=some (.cells (arr enc d) false)) (hs:hget h bs=some (.cells [.int .i64 (sw:Int)] false)) (hsw:sw<1000) (hx:lo<x∧x+1<hi) (hhi:hi≤n) :
  Cv P orc s f [.slice (some ⟨b,0,sp⟩) n cap,.int .i64 (x:Int),.pointer (some ⟨bs,0,none⟩),.func (.func fc) #[] #[]] h nx (MedK bs lo hi sw nx h):=by
 refine Cv.enter ho hcf ?_
 unfold cfMedA
 have w1:IntKind.wrap .i64 ((x:Int)+1)=((x+1:Nat):Int):=wN1 (by omega)
 have w2:IntKind.wrap .i64 ((x:Int)-1)=((x-1:Nat):Int):=wS1 (by omega) (by omega)
 refine Ev.seq (Ev.regO ?_)
 simp only [SB,seval]
 refine Ev.seq (Ev.regO ?_)
 simp only [SB,w1,w2,seval]
 refine Ov_call ?_
 simp only [cevs_nil,cevs_cons,cev_t,cev_v,tgs,seval]
 refine (med_cv S hcm hom hco hoo hb hbs hne hd hn hh hs hsw (lo:=lo) (hi:=hi) (by omega) (by omega) (by omega) hhi).mono ?_
 rintro r h1 nx1 ⟨p,s1,rfl,hp1,hp2,hle1,hs1,hf1,hn1⟩
 simp only [SB,seval]
 refine Ev.ret ?_
 simp only [SB,seval]
 exact ⟨p,s1,rfl,hp1,hp2,hle1,hs1,hf1,hn1⟩
end
section
variable {P:Program} {orc:Orc} {s:Bool}
variable {α:Type} [Inhabited α] {enc:α→List Value} {k:Nat}
def ChK (a e nx:Nat) (h:Hp):KC':=fun r h' nx'=>∃ p g:Nat,r = .tuple ⟨[.int .i64 (p:Int),.int .i64 (g:Int)]⟩∧a≤p∧p<e∧g≤2∧Keep nx h h'∧nx≤nx'
def ChQ1 (b n cap:Nat) (sp:Option Nat) (fc a e l nx:Nat) (h:Hp) (tm:Tm) (h':Hp) (nx':Nat):Prop :=
 ∃ x y z w:Nat,tget tm 0 = .slice (some ⟨b,0,sp⟩) n cap∧tget tm 3 = .func (.func fc) #[] #[]∧tget tm 11 = .pointer (some ⟨nx,0,none⟩)∧tget tm 12 = .int .i64 (x:Int)∧tget tm 13 = .int .i64 (y:Int)∧tget tm 14 = .int .i64 (z:Int)∧(a≤x∧x<e)∧(a≤y∧y<e)∧(a≤z∧z<e)∧w≤9 ∧
  hget h' nx=some (.cells [.int .i64 (w:Int)] false)∧Keep nx h h'∧nx+1≤nx'
def ChQ2 (a e nx:Nat) (h:Hp) (tm:Tm) (h':Hp) (nx':Nat):Prop :=
 ∃ y w:Nat,tget tm 11 = .pointer (some ⟨nx,0,none⟩)∧tget tm 13 = .int .i64 (y:Int)∧(a≤y∧y<e)∧w≤12∧hget h' nx=some (.cells [.int .i64 (w:Int)] false)∧Keep nx h h'∧nx+1≤nx'
theorem choose_cv {f fa fm fo fc:Nat} {c:α→α→Int} (S:SoAt P orc fc k enc c) (hcf:compAt P f=some (cfChoose fa fm)) (ho:orc f=none) (hca:compAt P fa=some (cfMedA fm)) (hoa:orc fa=none) (hcm:compAt P fm=some (cfMed fo)) (hom:orc fm=none) (hco:compAt P fo=some (cfOrd2 k)) (hoo:orc fo=none)
  {b n cap a e:Nat} {sp:Option Nat} {d:Array α} {h:Hp} {nx:Nat} (hb:b<nx) (hd:d.size=n) (hn:n<100000) (hae:a<e) (hen:e≤n) (hh:hget h b=some (.cells (arr enc d) false)) :
  Cv P orc s f [.slice (some ⟨b,0,sp⟩) n cap,.int .i64 (a:Int),.int .i64 (e:Int),.func (.func fc) #[] #[]] h nx (ChK a e nx h):=by
 refine Cv.enter ho hcf ?_
 unfold cfChoose
 refine Ev.seq (Ev.regO ?_)
 simp only [SB,seval]
 have w1:IntKind.wrap .i64 ((e:Int)-(a:Int))=((e-a:Nat):Int):=wSub (by omega) (by omega)
 refine Ev.seq (Ev.regO ?_)
 simp only [SB,w1,seval]
 refine Ev.seq (Ev.regO ?_)
 simp only [SB,seval]
 obtain ⟨l,hl⟩:∃ l,l=e-a:=⟨_,rfl⟩
 rw [← hl]
 have w2:IntKind.wrap .i64 (Int.tdiv (l:Int) 4)=((l / 4:Nat):Int):=by
  rw [show Int.tdiv (l:Int) 4=((l / 4:Nat):Int) from by rw [Int.tdiv_eq_ediv_of_nonneg (by omega)]; omega]
  exact wrapS (by omega) (by omega)
 have m1:IntKind.wrap .i64 (((l / 4:Nat):Int)*1)=((l / 4:Nat):Int):=by rw [wrapS (by omega) (by omega)]; omega
 have m2:IntKind.wrap .i64 (((l / 4:Nat):Int)*2)=((l / 4*2:Nat):Int):=by rw [wrapS (by omega) (by omega)]; omega
 have m3:IntKind.wrap .i64 (((l / 4:Nat):Int)*3)=((l / 4*3:Nat):Int):=by rw [wrapS (by omega) (by omega)]; omega
 have n1:IntKind.wrap .i64 ((a:Int)+((l / 4:Nat):Int))=((a+l / 4:Nat):Int):=wN (by omega)
 have n2:IntKind.wrap .i64 ((a:Int)+((l / 4*2:Nat):Int))=((a+l / 4*2:Nat):Int):=wN (by omega)
 have n3:IntKind.wrap .i64 ((a:Int)+((l / 4*3:Nat):Int))=((a+l / 4*3:Nat):Int):=wN (by omega)
 have hq4:=bin_quo (P:=P) (t:=3) (k:=.i64) (a:=(l:Int)) (show (4:Int)≠0 by decide)
 rw [w2] at hq4
 refine Ev.seq (Ev.regO ?_)
 simp only [SB,hq4,bin_mul,m1,n1,seval]
 refine Ev.seq (Ev.regO ?_)
 simp only [SB,hq4,bin_mul,m2,n2,seval]
 refine Ev.seq (Ev.regO ?_)
 simp only [SB,hq4,bin_mul,m3,n3,seval]
 refine Ev.genH (fun tm1 h1=>tget tm1 0 = .slice (some ⟨b,0,sp⟩) n cap∧tget tm1 3 = .func (.func fc) #[] #[]∧tget tm1 10 = .int .i64 (l:Int)∧tget tm1 11 = .pointer (some ⟨nx,0,none⟩)∧tget tm1 12 = .int .i64 ((a+l / 4:Nat):Int)∧tget tm1 13 = .int .i64 ((a+l / 4*2:Nat):Int)∧tget tm1 14 = .int .i64 ((a+l / 4*3:Nat):Int) ∧
   hget h1 nx=some (.cells [.int .i64 ((0:Nat):Int)] false)∧Keep nx h h1) ⟨by simp,by simp,by simp,by simp,by simp,by simp,by simp,by simp,fun c hc=>by rw [hgs,if_neg (by omega)]⟩ ?_
 rintro tm1 h1 ⟨t0,t3,t10,t11,t12,t13,t14,hs,hk⟩
 refine Ev.cut (ChQ2 a e nx h) ?_ ?_
 ·refine Ev.seq (Ev.regO ?_)
  simp only [SB,t10,seval]
  by_cases h8:8≤l
  ·refine Ev.cond true (by simp <;> omega) (fun _=>?_) (by simp <;> omega)
   refine Ev.cut (ChQ1 b n cap sp fc a e l nx h) ?_ ?_
   ·refine Ev.seq (Ev.regO ?_)
    simp only [SB,t10,seval]
    by_cases h50:50≤l
    ·refine Ev.cond true (by simp <;> omega) (fun _=>?_) (by simp <;> omega)
     have hh1:=(hk b hb).trans hh
     refine Ev.seq (Ev.regO ?_)
     simp only [SB,t0,t3,t12,seval]
     refine Ov_call ?_
     simp only [cevs_nil,cevs_cons,cev_t,cev_v,tgs,t11,seval]
     refine (medA_cv S hca hoa hcm hom hco hoo (lo:=a) (hi:=e) (by omega) (by omega) (by omega) hd hn hh1 hs (by omega) (by omega) hen).mono ?_
     rintro r h2 nx2 ⟨p2,s2,rfl,hp2,hq2,hle2,hs2,hf2,hn2⟩
     have hh2:=(hf2 b (by omega) (by omega)).trans hh1
     simp only [SB,seval]
     refine Ev.seq (Ev.regO ?_)
     simp only [SB,t0,t3,t13,seval]
     refine Ov_call ?_
     simp only [cevs_nil,cevs_cons,cev_t,cev_v,tgs,t11,seval]
     refine (medA_cv S hca hoa hcm hom hco hoo (lo:=a) (hi:=e) (by omega) (by omega) (by omega) hd hn hh2 hs2 (by omega) (by omega) hen).mono ?_
     rintro r h3 nx3 ⟨p3,s3,rfl,hp3,hq3,hle3,hs3,hf3,hn3⟩
     have hh3:=(hf3 b (by omega) (by omega)).trans hh2
     simp only [SB,seval]
     refine Ev.regO ?_
     simp only [SB,t0,t3,t14,seval]
     refine Ov_call ?_
     simp only [cevs_nil,cevs_cons,cev_t,cev_v,tgs,t11,seval]
     refine (medA_cv S hca hoa hcm hom hco hoo (lo:=a) (hi:=e) (by omega) (by omega) (by omega) hd hn hh3 hs3 (by omega) (by omega) hen).mono ?_
     rintro r h4 nx4 ⟨p4,s4,rfl,hp4,hq4,hle4,hs4,hf4,hn4⟩
     simp only [SB,seval]
     exact ⟨p2,p3,p4,s4,by simp [t0],by simp [t3],by simp [t11],by simp,by simp,by simp,⟨hp2,hq2⟩,⟨hp3,hq3⟩,⟨hp4,hq4⟩,by omega,hs4,fun c hc=>by rw [hf4 c (by omega) (by omega),hf3 c (by omega) (by omega),hf2 c (by omega) (by omega)]; exact hk c hc,by omega⟩
    ·refine Ev.cond false (by simp <;> omega) (by simp <;> omega) (fun _=>Ev.skip ?_)
     (try simp only [SB,seval])
     exact ⟨a+l / 4,a+l / 4*2,a+l / 4*3,0,by simp [t0],by simp [t3],by simp [t11],by simp only [tgs,t12,seval],by simp only [tgs,t13,seval],by simp only [tgs,t14,seval],by omega,by omega,by omega,by omega,hs,hk,by omega⟩
   ·rintro tm2 h2 nx2 ⟨x,y,z,w,t0,t3,t11,t12,t13,t14,hx,hy,hz,hw,hs,hk,hnx⟩
    refine Ev.regO ?_
    simp only [SB,t0,t3,t12,t13,t14,seval]
    refine Ov_call ?_
    simp only [cevs_nil,cevs_cons,cev_t,cev_v,tgs,t11,seval]
    refine (med_cv S hcm hom hco hoo (lo:=a) (hi:=e) (by omega) (by omega) (by omega) hd hn ((hk b hb).trans hh) hs (by omega) hx hy hz hen).mono ?_
    rintro r h3 nx3 ⟨p3,s3,rfl,hp3,hq3,hle3,hs3,hf3,hn3⟩
    simp only [SB,seval]
    exact ⟨p3,s3,by simp [t11],by simp,⟨hp3,hq3⟩,by omega,hs3,fun c hc=>by rw [hf3 c (by omega) (by omega)]; exact hk c hc,by omega⟩
  ·refine Ev.cond false (by simp <;> omega) (by simp <;> omega) (fun _=>Ev.skip ?_)
   (try simp only [SB,seval])
   exact ⟨a+l / 4*2,0,by simp [t11],by simp only [tgs,t13,seval],by omega,by omega,hs,hk,by omega⟩
 ·rintro tm2 h2 nx2 ⟨y,w,t11,t13,hy,hw,hs,hk,hnx⟩
  refine Ev.seq (Ev.regO ?_)
  simp only [SB,t11,cellsOf_some hs,seval]
  refine Ev.block (Ev.seq (Ev.regO ?_))
  simp only [SB,seval]
  by_cases w0:w=0
  ·subst w0
   refine Ev.cond true (by simp) (fun _=>?_) (by simp)
   refine Ev.seq (Ev.regO ?_)
   simp only [SB,t13,seval]
   refine Ev.ret ?_
   simp only [SB,seval]
   exact ⟨y,1,rfl,hy.1,hy.2,by omega,hk,by omega⟩
  ·refine Ev.cond false (by simp <;> omega) (by simp <;> omega) (fun _=>?_)
   refine Ev.seq (Ev.regO ?_)
   simp only [SB,seval]
   by_cases w12:w=12
   ·subst w12
    refine Ev.cond true (by simp) (fun _=>?_) (by simp)
    refine Ev.seq (Ev.regO ?_)
    simp only [SB,t13,seval]
    refine Ev.ret ?_
    simp only [SB,seval]
    exact ⟨y,2,rfl,hy.1,hy.2,by omega,hk,by omega⟩
   ·refine Ev.cond false (by simp <;> omega) (by simp <;> omega) (fun _=>?_)
    refine Ev.seq (Ev.regO ?_)
    simp only [SB,t13,seval]
    refine Ev.ret ?_
    simp only [SB,seval]
    exact ⟨y,0,rfl,hy.1,hy.2,by omega,hk,by omega⟩
end
section
variable {P:Program} {orc:Orc} {s:Bool}
theorem wrapU6 {n:Nat} (h:n<1000000):IntKind.wrap .u64 (n:Int)=(n:Int):=by
 show IntKind.wrap .u64 (n:Int)=_
 unfold IntKind.wrap
 simp [IntKind.bits,IntKind.signed]
 omega
theorem bin_shl1 {t:TypeId}:∀ (L:Nat),L≤7→bin P .shl t (.int .u64 1) (.int .i64 (L:Int)) = .ok (.int .u64 ((2 ^ L:Nat):Int))
 | 0,_=>rfl | 1,_=>rfl | 2,_=>rfl | 3,_=>rfl | 4,_=>rfl | 5,_=>rfl | 6,_=>rfl | 7,_=>rfl
 | n+8,h=>absurd h (by omega)
theorem xor_some (t:TypeId) (a b:Int):∃ r,bin P .xor t (.int .u64 a) (.int .u64 b) = .ok (.int .u64 r):=⟨_,rfl⟩
theorem and_small (t:TypeId) (a:Int) (M:Nat) (hM:M<1000000):∃ r:Nat,bin P .and t (.int .u64 a) (.int .u64 (M:Int)) = .ok (.int .u64 (r:Int))∧r≤M:=by
 have h1:(BitVec.ofInt 64 a &&& BitVec.ofInt 64 (M:Int)).toNat≤M:=by
  rw [BitVec.toNat_and]
  refine Nat.le_trans Nat.and_le_right ?_
  rw [BitVec.toNat_ofInt]
  omega
 refine ⟨(BitVec.ofInt 64 a &&& BitVec.ofInt 64 (M:Int)).toNat,?_,h1⟩
 rw [bin_i _ _ _ _ _ rfl]
 show R.ok (Value.int .u64 (IntKind.wrap .u64 ((BitVec.ofInt 64 a &&& BitVec.ofInt 64 (M:Int)).toNat:Int)))=_
 rw [wrapU6 (by omega)]
def LenOk (P:Program) (orc:Orc) (fl:FuncId):Prop:=∀ (s:Bool) (n:Nat),8≤n→n≤120→∀ h nx,Cv P orc s fl [.int .u64 (n:Int)] h nx (fun v h' nx'=>∃ L:Nat,v = .int .i64 (L:Int)∧L≤7∧2 ^ L≤2*n∧h'=h∧nx'=nx)
def cfNext2 (fl:Nat):CF:={ res:=[.tmp 2],body :=
 (.seq (.regO [⟨none,(some 2),0,.pur (.mv (.v (.int .u64 0)))⟩])
 (.seq (.regO [⟨none,(some 3),0,.pur (.mv (.t 0))⟩,
  ⟨none,(some 4),0,.pur (.conv (.int .u64) (.t 3))⟩,
  ⟨none,(some 5),0,.eff (.call fl [(.t 4)])⟩,
  ⟨none,(some 6),0,.pur (.bin .shl 236 (.v (.int .u64 1)) (.t 5))⟩,
  ⟨none,(some 2),0,.pur (.mv (.t 6))⟩])
 .ret)) }
def cfXor:CF:={ res:=[.tmp 2],body :=
 (.seq (.regO [⟨none,(some 2),0,.pur (.mv (.v (.int .u64 0)))⟩])
 (.seq (.regD [⟨none,(some 3),0,.pur (.mv (.t 0))⟩,
  ⟨none,(some 4),0,.pur (.nilc (.t 3))⟩,
  ⟨none,(some 5),0,.red (.ld none (.t 4))⟩,
  ⟨none,(some 6),0,.pur (.mv (.t 0))⟩,
  ⟨none,(some 7),0,.pur (.nilc (.t 6))⟩,
  ⟨none,(some 8),0,.red (.ld none (.t 7))⟩,
  ⟨none,(some 9),0,.pur (.bin .shl 439 (.t 8) (.v (.int .u64 13)))⟩,
  ⟨none,(some 10),0,.pur (.bin .xor 439 (.t 5) (.t 9))⟩,
  ⟨none,(some 11),0,.pur (.nilc (.t 3))⟩,
  ⟨none,none,0,.eff (.st 1 (.t 11) (.t 10))⟩])
 (.seq (.regD [⟨none,(some 12),0,.pur (.mv (.t 0))⟩,
  ⟨none,(some 13),0,.pur (.nilc (.t 12))⟩,
  ⟨none,(some 14),0,.red (.ld none (.t 13))⟩,
  ⟨none,(some 15),0,.pur (.mv (.t 0))⟩,
  ⟨none,(some 16),0,.pur (.nilc (.t 15))⟩,
  ⟨none,(some 17),0,.red (.ld none (.t 16))⟩,
  ⟨none,(some 18),0,.pur (.bin .shr 439 (.t 17) (.v (.int .u64 7)))⟩,
  ⟨none,(some 19),0,.pur (.bin .xor 439 (.t 14) (.t 18))⟩,
  ⟨none,(some 20),0,.pur (.nilc (.t 12))⟩,
  ⟨none,none,0,.eff (.st 1 (.t 20) (.t 19))⟩])
 (.seq (.regD [⟨none,(some 21),0,.pur (.mv (.t 0))⟩,
  ⟨none,(some 22),0,.pur (.nilc (.t 21))⟩,
  ⟨none,(some 23),0,.red (.ld none (.t 22))⟩,
  ⟨none,(some 24),0,.pur (.mv (.t 0))⟩,
  ⟨none,(some 25),0,.pur (.nilc (.t 24))⟩,
  ⟨none,(some 26),0,.red (.ld none (.t 25))⟩,
  ⟨none,(some 27),0,.pur (.bin .shl 439 (.t 26) (.v (.int .u64 17)))⟩,
  ⟨none,(some 28),0,.pur (.bin .xor 439 (.t 23) (.t 27))⟩,
  ⟨none,(some 29),0,.pur (.nilc (.t 21))⟩,
  ⟨none,none,0,.eff (.st 1 (.t 29) (.t 28))⟩])
 (.seq (.regO [⟨none,(some 30),0,.pur (.mv (.t 0))⟩,
  ⟨none,(some 31),0,.pur (.nilc (.t 30))⟩,
  ⟨none,(some 32),0,.red (.ld none (.t 31))⟩,
  ⟨none,(some 2),0,.pur (.mv (.t 32))⟩])
 .ret))))) }
def Next2K (n nx:Nat) (h:Hp):KC':=fun v h' nx'=>∃ M:Nat,v = .int .u64 (M:Int)∧0<M∧M≤2*n∧h'=h∧nx'=nx
def XorK (b nx:Nat) (h:Hp):KC':=fun v h' nx'=>∃ y:Int,v = .int .u64 y∧hget h' b=some (.cells [.int .u64 y] false)∧(∀ c,c≠b→hget h' c=hget h c)∧nx'=nx
theorem next2_cv {f fl:Nat} (hcf:compAt P f=some (cfNext2 fl)) (ho:orc f=none) (hl:LenOk P orc fl) {n:Nat} (h8:8≤n) (hn:n≤120) {h:Hp} {nx:Nat} :
  Cv P orc s f [.int .i64 (n:Int)] h nx (Next2K n nx h):=by
 refine Cv.enter ho hcf ?_
 unfold cfNext2
 have w1:IntKind.wrap .u64 (n:Int)=(n:Int):=wrapU6 (by omega)
 refine Ev.seq (Ev.regO ?_)
 simp only [SB,seval]
 refine Ev.seq (Ev.regO ?_)
 simp only [SB,w1,seval]
 refine Ov_call ?_
 simp only [cevs_nil,cevs_cons,cev_t,cev_v,tgs,seval]
 refine (hl _ n h8 hn _ _).mono ?_
 rintro r h1 nx1 ⟨L,rfl,hL,hLn,rfl,rfl⟩
 simp only [SB,bin_shl1 L hL,seval]
 refine Ev.ret ?_
 simp only [SB,seval]
 exact ⟨2 ^ L,rfl,Nat.pos_of_ne_zero (by simp),hLn,rfl,rfl⟩
theorem xor_cv {f:Nat} (hcf:compAt P f=some cfXor) (ho:orc f=none) {b:Nat} {x:Int} {h:Hp} {nx:Nat} (hb:b<nx) (hh:hget h b=some (.cells [.int .u64 x] false)) :
  Cv P orc s f [.pointer (some ⟨b,0,none⟩)] h nx (XorK b nx h):=by
 refine Cv.enter ho hcf ?_
 unfold cfXor
 refine Ev.seq (Ev.regO ?_)
 simp only [SB,seval]
 obtain ⟨y1,e1⟩:∃ r,bin P .shl 439 (.int .u64 x) (.int .u64 13) = .ok (.int .u64 r):=⟨_,rfl⟩
 obtain ⟨z1,f1⟩:=xor_some (P:=P) 439 x y1
 refine Ev.seq (Ev.regD ?_)
 simp only [SB,cellsOf_some hh,e1,f1,seval]
 rw [RK_st1 hh rfl (by simp)]
 (try simp only [SB,seval])
 refine Ev.genH (fun tm1 h1=>tget tm1 0 = .pointer (some ⟨b,0,none⟩)∧hget h1 b=some (.cells [.int .u64 z1] false)∧∀ c,c≠b→hget h1 c=hget h c) ⟨by simp,by simp,fun c hc=>by rw [hgs,if_neg hc]⟩ ?_
 rintro tm1 h1 ⟨t0,hh1,hf1⟩
 obtain ⟨y2,e2⟩:∃ r,bin P .shr 439 (.int .u64 z1) (.int .u64 7) = .ok (.int .u64 r):=⟨_,rfl⟩
 obtain ⟨z2,f2⟩:=xor_some (P:=P) 439 z1 y2
 refine Ev.seq (Ev.regD ?_)
 simp only [SB,t0,cellsOf_some hh1,e2,f2,seval]
 rw [RK_st1 hh1 rfl (by simp)]
 (try simp only [SB,seval])
 refine Ev.genH (fun tm2 h2=>tget tm2 0 = .pointer (some ⟨b,0,none⟩)∧hget h2 b=some (.cells [.int .u64 z2] false)∧∀ c,c≠b→hget h2 c=hget h c) ⟨by simp [t0],by simp,fun c hc=>by rw [hgs,if_neg hc]; exact hf1 c hc⟩ ?_
 rintro tm2 h2 ⟨t0,hh2,hf2⟩
 obtain ⟨y3,e3⟩:∃ r,bin P .shl 439 (.int .u64 z2) (.int .u64 17) = .ok (.int .u64 r):=⟨_,rfl⟩
 obtain ⟨z3,f3⟩:=xor_some (P:=P) 439 z2 y3
 refine Ev.seq (Ev.regD ?_)
 simp only [SB,t0,cellsOf_some hh2,e3,f3,seval]
 rw [RK_st1 hh2 rfl (by simp)]
 (try simp only [SB,seval])
 refine Ev.genH (fun tm3 h3=>tget tm3 0 = .pointer (some ⟨b,0,none⟩)∧hget h3 b=some (.cells [.int .u64 z3] false)∧∀ c,c≠b→hget h3 c=hget h c) ⟨by simp [t0],by simp,fun c hc=>by rw [hgs,if_neg hc]; exact hf2 c hc⟩ ?_
 rintro tm3 h3 ⟨t0,hh3,hf3⟩
 refine Ev.seq (Ev.regO ?_)
 simp only [SB,t0,cellsOf_some hh3,seval]
 refine Ev.ret ?_
 simp only [SB,seval]
 exact ⟨z3,rfl,hh3,hf3,rfl⟩
variable {α:Type} [Inhabited α] {enc:α→List Value} {k:Nat}
def cfBreak (fp fx k:Nat):CF:={ res:=[],body :=
 (.seq (.regO [⟨none,(some 13),0,.pur (.mv (.t 2))⟩,
  ⟨none,(some 14),0,.pur (.mv (.t 1))⟩,
  ⟨none,(some 15),0,.pur (.bin .sub 3 (.t 13) (.t 14))⟩,
  ⟨none,(some 8),0,.pur (.mv (.t 15))⟩])
 (.seq (.regO [⟨none,(some 16),0,.pur (.mv (.t 8))⟩,
  ⟨none,(some 17),0,.pur (.bin .geq 3 (.t 16) (.v (.int .i64 8)))⟩])
 (.cond (.t 17)
 (.seq (.regO [⟨none,(some 18),0,.pur (.mv (.t 8))⟩,
  ⟨none,(some 19),0,.pur (.conv (.int .u64) (.t 18))⟩,
  ⟨none,(some 9),0,.alc (.new [(.int .u64 0)])⟩,
  ⟨none,none,0,.eff (.st 1 (.t 9) (.t 19))⟩])
 (.seq (.regO [⟨none,(some 20),0,.pur (.mv (.t 8))⟩,
  ⟨none,(some 21),0,.eff (.call fp [(.t 20)])⟩,
  ⟨none,(some 10),0,.pur (.mv (.t 21))⟩])
 (.seq (.regO [⟨none,(some 22),0,.pur (.mv (.t 1))⟩,
  ⟨none,(some 23),0,.pur (.mv (.t 8))⟩,
  ⟨none,(some 24),0,.pur (.bin .quo 3 (.t 23) (.v (.int .i64 4)))⟩,
  ⟨none,(some 25),0,.pur (.bin .mul 3 (.t 24) (.v (.int .i64 2)))⟩,
  ⟨none,(some 26),0,.pur (.bin .add 3 (.t 22) (.t 25))⟩,
  ⟨none,(some 27),0,.pur (.bin .sub 3 (.t 26) (.v (.int .i64 1)))⟩,
  ⟨none,(some 11),0,.pur (.mv (.t 27))⟩])
 (.block 0
  (.loop
  (.seq (.seq (.regO [⟨none,(some 28),0,.pur (.mv (.t 11))⟩,
   ⟨none,(some 29),0,.pur (.mv (.t 1))⟩,
   ⟨none,(some 30),0,.pur (.mv (.t 8))⟩,
   ⟨none,(some 31),0,.pur (.bin .quo 3 (.t 30) (.v (.int .i64 4)))⟩,
   ⟨none,(some 32),0,.pur (.bin .mul 3 (.t 31) (.v (.int .i64 2)))⟩,
   ⟨none,(some 33),0,.pur (.bin .add 3 (.t 29) (.t 32))⟩,
   ⟨none,(some 34),0,.pur (.bin .add 3 (.t 33) (.v (.int .i64 1)))⟩,
   ⟨none,(some 35),0,.pur (.bin .leq 3 (.t 28) (.t 34))⟩])
  (.cond (.t 35)
   .skip
   (.exit 0)))
  (.seq (.block 1
   (.seq (.regO [⟨none,(some 38),0,.eff (.call fx [(.t 9)])⟩,
    ⟨none,(some 39),0,.pur (.mv (.t 10))⟩,
    ⟨none,(some 40),0,.pur (.bin .sub 236 (.t 39) (.v (.int .u64 1)))⟩,
    ⟨none,(some 41),0,.pur (.bin .and 236 (.t 38) (.t 40))⟩,
    ⟨none,(some 42),0,.pur (.conv (.int .i64) (.t 41))⟩,
    ⟨none,(some 12),0,.pur (.mv (.t 42))⟩])
   (.seq (.seq (.regO [⟨none,(some 43),0,.pur (.mv (.t 12))⟩,
    ⟨none,(some 44),0,.pur (.mv (.t 8))⟩,
    ⟨none,(some 45),0,.pur (.bin .geq 3 (.t 43) (.t 44))⟩])
   (.cond (.t 45)
   (.regO [⟨none,(some 46),0,.pur (.mv (.t 12))⟩,
    ⟨none,(some 47),0,.pur (.mv (.t 8))⟩,
    ⟨none,(some 48),0,.pur (.bin .sub 3 (.t 46) (.t 47))⟩,
    ⟨none,(some 12),0,.pur (.mv (.t 48))⟩])
   .skip))
   (.regD [⟨none,(some 49),0,.pur (.mv (.t 0))⟩,
    ⟨none,(some 50),0,.pur (.mv (.t 11))⟩,
    ⟨none,(some 55),0,.pur (.mv (.t 0))⟩,
    ⟨none,(some 56),0,.pur (.mv (.t 1))⟩,
    ⟨none,(some 57),0,.pur (.mv (.t 12))⟩,
    ⟨none,(some 58),0,.pur (.bin .add 3 (.t 56) (.t 57))⟩,
    ⟨none,(some 59),0,.pur (.ixA (.slice k) (.t 55) (.t 58))⟩,
    ⟨none,(some 60),0,.red (.ld (some k) (.t 59))⟩,
    ⟨none,(some 61),0,.pur (.mv (.t 0))⟩,
    ⟨none,(some 62),0,.pur (.mv (.t 11))⟩,
    ⟨none,(some 63),0,.pur (.ixA (.slice k) (.t 61) (.t 62))⟩,
    ⟨none,(some 64),0,.red (.ld (some k) (.t 63))⟩,
    ⟨none,(some 65),0,.pur (.ixA (.slice k) (.t 49) (.t 50))⟩,
    ⟨none,none,0,.eff (.st k (.t 65) (.t 60))⟩,
    ⟨none,(some 51),1,.pur (.mv (.t 0))⟩,
    ⟨none,(some 52),1,.pur (.mv (.t 1))⟩,
    ⟨none,(some 53),1,.pur (.mv (.t 12))⟩,
    ⟨none,(some 54),1,.pur (.bin .add 3 (.t 52) (.t 53))⟩,
    ⟨none,(some 66),0,.pur (.ixA (.slice k) (.t 51) (.t 54))⟩,
    ⟨none,none,0,.eff (.st k (.t 66) (.t 64))⟩]))))
  (.regO [⟨none,(some 36),0,.pur (.mv (.t 11))⟩,
   ⟨none,(some 37),0,.pur (.bin .add 3 (.t 36) (.v (.int .i64 1)))⟩,
   ⟨none,(some 11),0,.pur (.mv (.t 37))⟩]))))))))
 .skip))) }
def BpS {α:Type} [Inhabited α] (enc:α→List Value) (b n cap:Nat) (sp:Option Nat) (a e l M idx:Nat) (d0:Array α) (nx:Nat) (h:Hp) (tm:Tm) (h':Hp) (nx':Nat):Prop :=
 ∃ (d:Array α) (y:Int),tget tm 0 = .slice (some ⟨b,0,sp⟩) n cap∧tget tm 1 = .int .i64 (a:Int)∧tget tm 8 = .int .i64 (l:Int)∧tget tm 9 = .pointer (some ⟨nx,0,none⟩)∧tget tm 10 = .int .u64 (M:Int)∧tget tm 11 = .int .i64 (idx:Int) ∧
  d.size=n∧Sort.PermIn a e d0 d∧hget h' b=some (.cells (arr enc d) false)∧hget h' nx=some (.cells [.int .u64 y] false)∧(∀ c,c<nx→c≠b→hget h' c=hget h c)∧nx+1≤nx'
def BpJ {α:Type} [Inhabited α] (enc:α→List Value) (b n cap:Nat) (sp:Option Nat) (a e l M:Nat) (d0:Array α) (nx:Nat) (h:Hp) (m:Nat) (tm:Tm) (h':Hp) (nx':Nat):Prop :=
 ∃ idx,m=a+l / 4*2+2-idx∧a≤idx∧idx≤a+l / 4*2+2∧BpS enc b n cap sp a e l M idx d0 nx h tm h' nx'
def BpQ {α:Type} [Inhabited α] (enc:α→List Value) (b n cap:Nat) (sp:Option Nat) (a e l M idx:Nat) (d0:Array α) (nx:Nat) (h:Hp) (tm:Tm) (h':Hp) (nx':Nat):Prop :=
 ∃ o:Nat,o<l∧tget tm 12 = .int .i64 (o:Int)∧BpS enc b n cap sp a e l M idx d0 nx h tm h' nx'
def BreakK {α:Type} [Inhabited α] (enc:α→List Value) (b n a e:Nat) (d0:Array α) (nx:Nat) (h:Hp):KC':=fun _ h' nx'=>∃ d:Array α,d.size=n∧Sort.PermIn a e d0 d∧hget h' b=some (.cells (arr enc d) false)∧(∀ c,c<nx→c≠b→hget h' c=hget h c)∧nx≤nx'
theorem bp_cv {f fp fx fl fc:Nat} {c:α→α→Int} (S:SoAt P orc fc k enc c) (hcf:compAt P f=some (cfBreak fp fx k)) (ho:orc f=none) (hcp:compAt P fp=some (cfNext2 fl)) (hop:orc fp=none) (hl:LenOk P orc fl) (hcx:compAt P fx=some cfXor) (hox:orc fx=none)
  {b n cap a e:Nat} {sp:Option Nat} {d:Array α} {h:Hp} {nx:Nat} {v:Value} (hb:b<nx) (hd:d.size=n) (hn:n≤120) (h8:a+8≤e) (hen:e≤n) (hh:hget h b=some (.cells (arr enc d) false)) :
  Cv P orc s f [.slice (some ⟨b,0,sp⟩) n cap,.int .i64 (a:Int),.int .i64 (e:Int),v] h nx (BreakK enc b n a e d nx h):=by
 refine Cv.enter ho hcf ?_
 unfold cfBreak
 have w1:IntKind.wrap .i64 ((e:Int)-(a:Int))=((e-a:Nat):Int):=wSub (by omega) (by omega)
 obtain ⟨l,hle⟩:∃ l,l=e-a:=⟨_,rfl⟩
 rw [← hle] at w1
 have w0:IntKind.wrap .u64 (l:Int)=(l:Int):=wrapU6 (by omega)
 refine Ev.seq (Ev.regO ?_)
 simp only [SB,w1,seval]
 refine Ev.seq (Ev.regO ?_)
 simp only [SB,seval]
 refine Ev.cond true (by simp <;> omega) (fun _=>?_) (by simp <;> omega)
 refine Ev.seq (Ev.regO ?_)
 simp only [SB,w0,seval]
 rw [RK_st1 (cs:=[.int .u64 0]) (by simp) rfl (by simp)]
 (try simp only [SB,seval])
 refine Ev.genH (fun tm1 h1=>tget tm1 0 = .slice (some ⟨b,0,sp⟩) n cap∧tget tm1 1 = .int .i64 (a:Int)∧tget tm1 8 = .int .i64 (l:Int)∧tget tm1 9 = .pointer (some ⟨nx,0,none⟩)∧hget h1 nx=some (.cells [.int .u64 (l:Int)] false)∧Keep nx h h1) ⟨by simp,by simp,by simp,by simp,by simp,fun c hc=>by rw [hgs,if_neg (by omega),hgs,if_neg (by omega)]⟩ ?_
 rintro tm1 h1 ⟨t0,t1,t8,t9,hs,hk⟩
 refine Ev.seq (Ev.regO ?_)
 simp only [SB,t8,seval]
 refine Ov_call ?_
 simp only [cevs_nil,cevs_cons,cev_t,cev_v,tgs,seval]
 refine (next2_cv hcp hop hl (n:=l) (by omega) (by omega)).mono ?_
 rintro r h2 nx2 ⟨M,rfl,hM0,hM,rfl,rfl⟩
 simp only [SB,seval]
 have w2:IntKind.wrap .i64 (Int.tdiv (l:Int) 4)=((l / 4:Nat):Int):=by
  rw [show Int.tdiv (l:Int) 4=((l / 4:Nat):Int) from by rw [Int.tdiv_eq_ediv_of_nonneg (by omega)]; omega]
  exact wrapS (by omega) (by omega)
 have hq4:=bin_quo (P:=P) (t:=3) (k:=.i64) (a:=(l:Int)) (show (4:Int)≠0 by decide)
 rw [w2] at hq4
 have m2:IntKind.wrap .i64 (((l / 4:Nat):Int)*2)=((l / 4*2:Nat):Int):=by rw [wrapS (by omega) (by omega)]; omega
 have n2:IntKind.wrap .i64 ((a:Int)+((l / 4*2:Nat):Int))=((a+l / 4*2:Nat):Int):=wN (by omega)
 have n3:IntKind.wrap .i64 (((a+l / 4*2:Nat):Int)-1)=((a+l / 4*2-1:Nat):Int):=wS1 (by omega) (by omega)
 have n4:IntKind.wrap .i64 (((a+l / 4*2:Nat):Int)+1)=((a+l / 4*2+1:Nat):Int):=wN1 (by omega)
 refine Ev.seq (Ev.regO ?_)
 simp only [SB,t1,t8,hq4,bin_mul,m2,n2,n3,seval]
 refine Ev.loopG (BpJ enc b n cap sp a e l M d nx h) ?_ (a+l / 4*2+2-(a+l / 4*2-1)) _ _ _ ⟨a+l / 4*2-1,rfl,by omega,by omega,d,_,by simp [t0],by simp [t1],by simp [t8],by simp [t9],by simp,by simp only [tgs,seval],hd,Sort.permIn_refl _ _ _,(hk b hb).trans hh,hs,fun c hc _=>hk c hc,Nat.le_refl _⟩
 rintro m tm h' nx' ⟨idx,rfl,hi1,hi2,d',y,t0,t1,t8,t9,t10,t11,hd',hp,hh',hs,hfr,hnx⟩
 refine Ev.regO ?_
 simp only [SB,t1,t8,t11,hq4,bin_mul,m2,n2,n4,seval]
 by_cases hin:idx≤a+l / 4*2+1
 ·refine ⟨true,by simp <;> omega,fun e=>Bool.noConfusion e,fun _=>?_⟩
  have w5:IntKind.wrap .i64 ((idx:Int)+1)=((idx+1:Nat):Int):=wN1 (by omega)
  have wM:IntKind.wrap .u64 ((M:Int)-1)=((M-1:Nat):Int):=by
   rw [show (M:Int)-1=((M-1:Nat):Int) by omega]
   exact wrapU6 (by omega)
  refine Ev.cut (BpS enc b n cap sp a e l M idx d nx h) ?_ ?_
  ·refine Ev.block (Ev.seq (Ev.regO ?_))
   refine Ov_call ?_
   simp only [cevs_nil,cevs_cons,cev_t,cev_v,tgs,t9,seval]
   refine (xor_cv hcx hox (by omega) hs).mono ?_
   rintro r h3 nx3 ⟨y3,rfl,hs3,hf3,rfl⟩
   obtain ⟨ra,hra,hrM⟩:=and_small (P:=P) 236 y3 (M-1) (by omega)
   have w6:IntKind.wrap .i64 (ra:Int)=(ra:Int):=wrapS (by omega) (by omega)
   simp only [SB,t10,wM,hra,w6,seval]
   have hh3:=(hf3 b (by omega)).trans hh'
   refine Ev.cut (BpQ enc b n cap sp a e l M idx d nx h) ?_ ?_
   ·refine Ev.seq (Ev.regO ?_)
    simp only [SB,t8,seval]
    by_cases hge:l≤ra
    ·have w7:IntKind.wrap .i64 ((ra:Int)-(l:Int))=((ra-l:Nat):Int):=wSub (by omega) (by omega)
     refine Ev.cond true (by simp <;> omega) (fun _=>?_) (by simp <;> omega)
     refine Ev.regO ?_
     simp only [SB,t8,w7,seval]
     exact ⟨ra-l,by omega,by simp only [tgs,seval],d',y3,by simp [t0],by simp [t1],by simp [t8],by simp [t9],by simp [t10],by simp [t11],hd',hp,hh3,hs3,fun c hc hcb=>(hf3 c (by omega)).trans (hfr c hc hcb),by omega⟩
    ·refine Ev.cond false (by simp <;> omega) (by simp <;> omega) (fun _=>Ev.skip ?_)
     (try simp only [SB,seval])
     exact ⟨ra,by omega,by simp only [tgs,seval],d',y3,by simp [t0],by simp [t1],by simp [t8],by simp [t9],by simp [t10],by simp [t11],hd',hp,hh3,hs3,fun c hc hcb=>(hf3 c (by omega)).trans (hfr c hc hcb),by omega⟩
   ·clear hra hs hh' hp hd' t0 t1 t8 t9 t10 t11 hfr hnx hh3 hs3 hf3
    rintro tm4 h4 nx4 ⟨o,hol,t12,d',y4,t0,t1,t8,t9,t10,t11,hd',hp,hh4,hs,hfr,hnx⟩
    have w8:IntKind.wrap .i64 ((a:Int)+(o:Int))=((a+o:Nat):Int):=wN (by omega)
    have b1:idx<n:=by omega
    have b2:a+o<n:=by omega
    have r1:=arr_ld S.hk (hd'.symm ▸ b1)
    have r2:=arr_ld S.hk (hd'.symm ▸ b2)
    refine Ev.regD ?_
    simp only [SB,t0,t1,t11,t12,w8,b1,b2,cellsOf_some hh4,r1,r2,seval]
    rw [arr_st S.hk S.cell hh4 (hd'.symm ▸ b1)]
    rw [arr_st (d:=d'.setIfInBounds idx d'[a+o]!) S.hk S.cell (by simp) (by simp; omega)]
    (try simp only [SB,seval])
    refine ⟨Sort.swp d' idx (a+o),y4,by simp [t0],by simp [t1],by simp [t8],by simp [t9],by simp [t10],by simp [t11],by simp [Sort.swp,hd'],Sort.permIn_trans _ _ _ _ _ hp (Sort.swp_permIn _ _ _ _ _ (by omega) (by omega) (by omega) (by omega) (by omega)),by simp [Sort.swp],by rw [hgs,if_neg (by omega),hgs,if_neg (by omega)]; exact hs,fun c hc hcb=>?_,hnx⟩
    rw [hgs,if_neg hcb,hgs,if_neg hcb]
    exact hfr c hc hcb
  ·rintro tm5 h5 nx5 ⟨d',y5,t0,t1,t8,t9,t10,t11,hd',hp,hh5,hs,hfr,hnx⟩
   refine Ev.regO ?_
   simp only [SB,t11,w5,seval]
   exact ⟨a+l / 4*2+2-(idx+1),by omega,idx+1,rfl,by omega,by omega,d',y5,by simp [t0],by simp [t1],by simp [t8],by simp [t9],by simp [t10],by simp,hd',hp,hh5,hs,hfr,hnx⟩
 ·refine ⟨false,by simp <;> omega,fun _=>?_,fun e=>Bool.noConfusion e⟩
  exact ⟨d',hd',hp,hh',hfr,by omega⟩
end
section
variable {P:Program} {orc:Orc} {s:Bool}
variable {α:Type} [Inhabited α] {enc:α→List Value} {k:Nat}
def cfPdqF (fq fi fh fb fc0 fr fp fe ft k:Nat):CF:={ res:=[],body :=
 (.seq (.regO [⟨none,(some 10),0,.pur (.mv (.v (.bool true)))⟩])
 (.seq (.regO [⟨none,(some 11),0,.pur (.mv (.v (.bool true)))⟩])
 (.block 0
 (.loop
  (.block 1
  (.seq (.regO [⟨none,(some 21),0,.pur (.mv (.t 2))⟩,
   ⟨none,(some 22),0,.pur (.mv (.t 1))⟩,
   ⟨none,(some 23),0,.pur (.bin .sub 3 (.t 21) (.t 22))⟩,
   ⟨none,(some 12),0,.pur (.mv (.t 23))⟩])
  (.seq (.seq (.regO [⟨none,(some 24),0,.pur (.mv (.t 12))⟩,
   ⟨none,(some 25),0,.pur (.bin .leq 3 (.t 24) (.v (.int .i64 12)))⟩])
  (.cond (.t 25)
   (.seq (.regO [⟨none,(some 26),0,.pur (.mv (.t 0))⟩,
    ⟨none,(some 27),0,.pur (.mv (.t 1))⟩,
    ⟨none,(some 28),0,.pur (.mv (.t 2))⟩,
    ⟨none,(some 29),0,.pur (.mv (.t 4))⟩,
    ⟨none,(some 30),0,.eff (.call fi [(.t 26),(.t 27),(.t 28),(.t 29)])⟩])
   .ret)
   .skip))
  (.seq (.seq (.regO [⟨none,(some 31),0,.pur (.mv (.t 3))⟩,
   ⟨none,(some 32),0,.pur (.bin .eql 3 (.t 31) (.v (.int .i64 0)))⟩])
  (.cond (.t 32)
   (.seq (.regO [⟨none,(some 33),0,.pur (.mv (.t 0))⟩,
    ⟨none,(some 34),0,.pur (.mv (.t 1))⟩,
    ⟨none,(some 35),0,.pur (.mv (.t 2))⟩,
    ⟨none,(some 36),0,.pur (.mv (.t 4))⟩,
    ⟨none,(some 37),0,.eff (.call fh [(.t 33),(.t 34),(.t 35),(.t 36)])⟩])
   .ret)
   .skip))
  (.seq (.seq (.regO [⟨none,(some 38),0,.pur (.mv (.t 10))⟩,
   ⟨none,(some 39),0,.pur (.un .not (.t 38))⟩])
  (.cond (.t 39)
   (.seq (.regO [⟨none,(some 40),0,.pur (.mv (.t 0))⟩,
    ⟨none,(some 41),0,.pur (.mv (.t 1))⟩,
    ⟨none,(some 42),0,.pur (.mv (.t 2))⟩,
    ⟨none,(some 43),0,.pur (.mv (.t 4))⟩,
    ⟨none,(some 44),0,.eff (.call fb [(.t 40),(.t 41),(.t 42),(.t 43)])⟩])
   (.regO [⟨none,(some 45),0,.pur (.mv (.t 3))⟩,
    ⟨none,(some 46),0,.pur (.bin .sub 3 (.t 45) (.v (.int .i64 1)))⟩,
    ⟨none,(some 3),0,.pur (.mv (.t 46))⟩]))
   .skip))
  (.seq (.regO [⟨none,(some 48),0,.pur (.mv (.t 0))⟩,
   ⟨none,(some 49),0,.pur (.mv (.t 1))⟩,
   ⟨none,(some 50),0,.pur (.mv (.t 2))⟩,
   ⟨none,(some 51),0,.pur (.mv (.t 4))⟩,
   ⟨none,(some 52),0,.eff (.call fc0 [(.t 48),(.t 49),(.t 50),(.t 51)])⟩,
   ⟨none,(some 47),0,.pur (.mv (.t 52))⟩,
   ⟨none,(some 53),0,.pur (.ext (.t 47) 0)⟩,
   ⟨none,(some 54),0,.pur (.ext (.t 47) 1)⟩,
   ⟨none,(some 13),0,.pur (.mv (.t 53))⟩,
   ⟨none,(some 14),0,.pur (.mv (.t 54))⟩])
  (.seq (.seq (.regO [⟨none,(some 55),0,.pur (.mv (.t 14))⟩,
   ⟨none,(some 56),0,.pur (.bin .eql 393 (.t 55) (.v (.int .i64 2)))⟩])
  (.cond (.t 56)
   (.seq (.regO [⟨none,(some 57),0,.pur (.mv (.t 0))⟩,
    ⟨none,(some 58),0,.pur (.mv (.t 1))⟩,
    ⟨none,(some 59),0,.pur (.mv (.t 2))⟩,
    ⟨none,(some 60),0,.pur (.mv (.t 4))⟩,
    ⟨none,(some 61),0,.eff (.call fr [(.t 57),(.t 58),(.t 59),(.t 60)])⟩])
   (.seq (.regO [⟨none,(some 62),0,.pur (.mv (.t 2))⟩,
    ⟨none,(some 63),0,.pur (.bin .sub 3 (.t 62) (.v (.int .i64 1)))⟩,
    ⟨none,(some 64),0,.pur (.mv (.t 13))⟩,
    ⟨none,(some 65),0,.pur (.mv (.t 1))⟩,
    ⟨none,(some 66),0,.pur (.bin .sub 3 (.t 64) (.t 65))⟩,
    ⟨none,(some 67),0,.pur (.bin .sub 3 (.t 63) (.t 66))⟩,
    ⟨none,(some 13),0,.pur (.mv (.t 67))⟩])
   (.regO [⟨none,(some 14),0,.pur (.mv (.v (.int .i64 1)))⟩])))
   .skip))
  (.seq (.seq (.regO [⟨none,(some 68),0,.pur (.mv (.t 10))⟩,
   ⟨none,(some 69),0,.pur (.mv (.t 68))⟩,
   ⟨(some (69,true)),(some 70),0,.pur (.mv (.t 11))⟩,
   ⟨none,(some 71),0,.pur (.pick (.t 69) (.t 70) (.v (.bool false)))⟩,
   ⟨none,(some 72),0,.pur (.mv (.t 71))⟩,
   ⟨(some (72,true)),(some 73),0,.pur (.mv (.t 14))⟩,
   ⟨(some (72,true)),(some 74),0,.pur (.bin .eql 393 (.t 73) (.v (.int .i64 1)))⟩,
   ⟨none,(some 75),0,.pur (.pick (.t 72) (.t 74) (.v (.bool false)))⟩])
  (.cond (.t 75)
   (.seq (.regO [⟨none,(some 76),0,.pur (.mv (.t 0))⟩,
    ⟨none,(some 77),0,.pur (.mv (.t 1))⟩,
    ⟨none,(some 78),0,.pur (.mv (.t 2))⟩,
    ⟨none,(some 79),0,.pur (.mv (.t 4))⟩,
    ⟨none,(some 80),0,.eff (.call fp [(.t 76),(.t 77),(.t 78),(.t 79)])⟩])
   (.cond (.t 80)
   .ret
   .skip))
   .skip))
  (.seq (.seq (.regD [⟨none,(some 81),0,.pur (.mv (.t 1))⟩,
   ⟨none,(some 82),0,.pur (.bin .gtr 3 (.t 81) (.v (.int .i64 0)))⟩,
   ⟨none,(some 83),0,.pur (.mv (.t 82))⟩,
   ⟨(some (83,true)),(some 84),0,.pur (.mv (.t 4))⟩,
   ⟨(some (83,true)),(some 85),0,.pur (.mv (.t 0))⟩,
   ⟨(some (83,true)),(some 86),0,.pur (.mv (.t 1))⟩,
   ⟨(some (83,true)),(some 87),0,.pur (.bin .sub 3 (.t 86) (.v (.int .i64 1)))⟩,
   ⟨(some (83,true)),(some 88),0,.pur (.ixA (.slice k) (.t 85) (.t 87))⟩,
   ⟨(some (83,true)),(some 89),0,.red (.ld (some k) (.t 88))⟩,
   ⟨(some (83,true)),(some 90),0,.pur (.mv (.t 0))⟩,
   ⟨(some (83,true)),(some 91),0,.pur (.mv (.t 13))⟩,
   ⟨(some (83,true)),(some 92),0,.pur (.ixA (.slice k) (.t 90) (.t 91))⟩,
   ⟨(some (83,true)),(some 93),0,.red (.ld (some k) (.t 92))⟩,
   ⟨(some (83,true)),(some 94),0,.eff (.callv (.t 84) [(.t 89),(.t 93)])⟩,
   ⟨(some (83,true)),(some 95),0,.pur (.bin .lss 3 (.t 94) (.v (.int .i64 0)))⟩,
   ⟨(some (83,true)),(some 96),0,.pur (.un .not (.t 95))⟩,
   ⟨none,(some 97),0,.pur (.pick (.t 83) (.t 96) (.v (.bool false)))⟩])
  (.cond (.t 97)
   (.seq (.regO [⟨none,(some 98),0,.pur (.mv (.t 0))⟩,
    ⟨none,(some 99),0,.pur (.mv (.t 1))⟩,
    ⟨none,(some 100),0,.pur (.mv (.t 2))⟩,
    ⟨none,(some 101),0,.pur (.mv (.t 13))⟩,
    ⟨none,(some 102),0,.pur (.mv (.t 4))⟩,
    ⟨none,(some 103),0,.eff (.call fe [(.t 98),(.t 99),(.t 100),(.t 101),(.t 102)])⟩,
    ⟨none,(some 15),0,.pur (.mv (.t 103))⟩])
   (.seq (.regO [⟨none,(some 104),0,.pur (.mv (.t 15))⟩,
    ⟨none,(some 1),0,.pur (.mv (.t 104))⟩])
   (.exit 1)))
   .skip))
  (.seq (.regO [⟨none,(some 106),0,.pur (.mv (.t 0))⟩,
   ⟨none,(some 107),0,.pur (.mv (.t 1))⟩,
   ⟨none,(some 108),0,.pur (.mv (.t 2))⟩,
   ⟨none,(some 109),0,.pur (.mv (.t 13))⟩,
   ⟨none,(some 110),0,.pur (.mv (.t 4))⟩,
   ⟨none,(some 111),0,.eff (.call ft [(.t 106),(.t 107),(.t 108),(.t 109),(.t 110)])⟩,
   ⟨none,(some 105),0,.pur (.mv (.t 111))⟩,
   ⟨none,(some 112),0,.pur (.ext (.t 105) 0)⟩,
   ⟨none,(some 113),0,.pur (.ext (.t 105) 1)⟩,
   ⟨none,(some 16),0,.pur (.mv (.t 112))⟩,
   ⟨none,(some 17),0,.pur (.mv (.t 113))⟩])
  (.seq (.regO [⟨none,(some 114),0,.pur (.mv (.t 17))⟩,
   ⟨none,(some 11),0,.pur (.mv (.t 114))⟩])
  (.seq (.regO [⟨none,(some 115),0,.pur (.mv (.t 16))⟩,
   ⟨none,(some 116),0,.pur (.mv (.t 1))⟩,
   ⟨none,(some 117),0,.pur (.bin .sub 3 (.t 115) (.t 116))⟩,
   ⟨none,(some 118),0,.pur (.mv (.t 2))⟩,
   ⟨none,(some 119),0,.pur (.mv (.t 16))⟩,
   ⟨none,(some 120),0,.pur (.bin .sub 3 (.t 118) (.t 119))⟩,
   ⟨none,(some 18),0,.pur (.mv (.t 117))⟩,
   ⟨none,(some 19),0,.pur (.mv (.t 120))⟩])
  (.seq (.regO [⟨none,(some 121),0,.pur (.mv (.t 12))⟩,
   ⟨none,(some 122),0,.pur (.bin .quo 3 (.t 121) (.v (.int .i64 8)))⟩,
   ⟨none,(some 20),0,.pur (.mv (.t 122))⟩])
  (.seq (.regO [⟨none,(some 123),0,.pur (.mv (.t 18))⟩,
   ⟨none,(some 124),0,.pur (.mv (.t 19))⟩,
   ⟨none,(some 125),0,.pur (.bin .lss 3 (.t 123) (.t 124))⟩])
  (.cond (.t 125)
   (.seq (.regO [⟨none,(some 126),0,.pur (.mv (.t 18))⟩,
    ⟨none,(some 127),0,.pur (.mv (.t 20))⟩,
    ⟨none,(some 128),0,.pur (.bin .geq 3 (.t 126) (.t 127))⟩,
    ⟨none,(some 10),0,.pur (.mv (.t 128))⟩])
   (.seq (.regO [⟨none,(some 129),0,.pur (.mv (.t 0))⟩,
    ⟨none,(some 130),0,.pur (.mv (.t 1))⟩,
    ⟨none,(some 131),0,.pur (.mv (.t 16))⟩,
    ⟨none,(some 132),0,.pur (.mv (.t 3))⟩,
    ⟨none,(some 133),0,.pur (.mv (.t 4))⟩,
    ⟨none,(some 134),0,.eff (.call fq [(.t 129),(.t 130),(.t 131),(.t 132),(.t 133)])⟩])
   (.regO [⟨none,(some 135),0,.pur (.mv (.t 16))⟩,
    ⟨none,(some 136),0,.pur (.bin .add 3 (.t 135) (.v (.int .i64 1)))⟩,
    ⟨none,(some 1),0,.pur (.mv (.t 136))⟩])))
   (.seq (.regO [⟨none,(some 137),0,.pur (.mv (.t 19))⟩,
    ⟨none,(some 138),0,.pur (.mv (.t 20))⟩,
    ⟨none,(some 139),0,.pur (.bin .geq 3 (.t 137) (.t 138))⟩,
    ⟨none,(some 10),0,.pur (.mv (.t 139))⟩])
   (.seq (.regO [⟨none,(some 140),0,.pur (.mv (.t 0))⟩,
    ⟨none,(some 141),0,.pur (.mv (.t 16))⟩,
    ⟨none,(some 142),0,.pur (.bin .add 3 (.t 141) (.v (.int .i64 1)))⟩,
    ⟨none,(some 143),0,.pur (.mv (.t 2))⟩,
    ⟨none,(some 144),0,.pur (.mv (.t 3))⟩,
    ⟨none,(some 145),0,.pur (.mv (.t 4))⟩,
    ⟨none,(some 146),0,.eff (.call fq [(.t 140),(.t 142),(.t 143),(.t 144),(.t 145)])⟩])
   (.regO [⟨none,(some 147),0,.pur (.mv (.t 16))⟩,
    ⟨none,(some 2),0,.pur (.mv (.t 147))⟩])))))))))))))))))))))) }
structure PdqAt (P:Program) (orc:Orc) (fq fi fh fb fc0 fr fp fe ft k fs fm fo fa fn fx fl fc:Nat) (enc:α→List Value) (c:α→α→Int):Prop where
 S:SoAt P orc fc k enc c
 swo:Sort.SWO (ltC c)
 cq:compAt P fq=some (cfPdqF fq fi fh fb fc0 fr fp fe ft k)
 nq:orc fq=none
 ci:compAt P fi=some (cfInsF k)
 ni:orc fi=none
 ch:compAt P fh=some (cfHeap fs k)
 nh:orc fh=none
 cs:compAt P fs=some (cfSift k)
 ns:orc fs=none
 cb:compAt P fb=some (cfBreak fn fx k)
 nb:orc fb=none
 cn:compAt P fn=some (cfNext2 fl)
 nn:orc fn=none
 len:LenOk P orc fl
 cx:compAt P fx=some cfXor
 nx:orc fx=none
 cc:compAt P fc0=some (cfChoose fa fm)
 nc:orc fc0=none
 ca:compAt P fa=some (cfMedA fm)
 na:orc fa=none
 cm:compAt P fm=some (cfMed fo)
 nm:orc fm=none
 co:compAt P fo=some (cfOrd2 k)
 no:orc fo=none
 cr:compAt P fr=some (cfRev k)
 nr:orc fr=none
 cp:compAt P fp=some (cfPins k)
 np:orc fp=none
 ce:compAt P fe=some (cfPartE k)
 ne:orc fe=none
 ct:compAt P ft=some (cfPart k)
 nt:orc ft=none
structure Leads (lt:α→α→Bool) (a e:Nat) (d:Array α) (G:Array α→Prop):Prop where
 bel:Sort.Below lt a e d
 fin:∀ R,Sort.PermIn a e d R→Sort.SortedIn lt a e R→G R
theorem Leads.perm {lt:α→α→Bool} {a e:Nat} {d d1:Array α} {G:Array α→Prop} (g:Leads lt a e d G) (he:e≤d.size) (hp:Sort.PermIn a e d d1):Leads lt a e d1 G :=
 ⟨g.bel.perm he hp,fun R h1 h2=>g.fin R (Sort.permIn_trans _ _ _ _ _ hp h1) h2⟩
def PqK (enc:α→List Value) (b:Nat) (G:Array α→Prop) (nx:Nat) (h:Hp):KC':=fun _ h' nx'=>∃ R:Array α,G R∧hget h' b=some (.cells (arr enc R) false)∧(∀ c,c<nx→c≠b→hget h' c=hget h c)∧nx≤nx'
def PqS (enc:α→List Value) (b n cap:Nat) (sp:Option Nat) (fc a e lim:Nat) (wb wp:Bool) (d:Array α) (nx:Nat) (h:Hp) (tm:Tm) (h':Hp) (nx':Nat):Prop :=
 tget tm 0 = .slice (some ⟨b,0,sp⟩) n cap∧tget tm 1 = .int .i64 (a:Int)∧tget tm 2 = .int .i64 (e:Int)∧tget tm 3 = .int .i64 (lim:Int)∧tget tm 4 = .func (.func fc) #[] #[]∧tget tm 10 = .bool wb∧tget tm 11 = .bool wp ∧
  d.size=n∧hget h' b=some (.cells (arr enc d) false)∧(∀ c,c<nx→c≠b→hget h' c=hget h c)∧nx≤nx'
def PqJ (lt:α→α→Bool) (enc:α→List Value) (b n cap:Nat) (sp:Option Nat) (fc mx:Nat) (G:Array α→Prop) (nx:Nat) (h:Hp) (m:Nat) (tm:Tm) (h':Hp) (nx':Nat):Prop :=
 ∃ (a e lim:Nat) (wb wp:Bool) (d:Array α),m=e-a∧m≤mx∧a≤e∧e≤n∧lim<1000∧Leads lt a e d G∧PqS enc b n cap sp fc a e lim wb wp d nx h tm h' nx'
def PqA (lt:α→α→Bool) (enc:α→List Value) (b n cap:Nat) (sp:Option Nat) (fc a e:Nat) (wb wp:Bool) (G:Array α→Prop) (nx:Nat) (h:Hp) (tm:Tm) (h':Hp) (nx':Nat):Prop :=
 ∃ (lim:Nat) (d:Array α),lim<1000∧Leads lt a e d G∧tget tm 12 = .int .i64 ((e-a:Nat):Int)∧PqS enc b n cap sp fc a e lim wb wp d nx h tm h' nx'
def PqB (lt:α→α→Bool) (enc:α→List Value) (b n cap:Nat) (sp:Option Nat) (fc a e:Nat) (wb wp:Bool) (G:Array α→Prop) (nx:Nat) (h:Hp) (tm:Tm) (h':Hp) (nx':Nat):Prop :=
 ∃ (lim p g:Nat) (d:Array α),lim<1000∧a≤p∧p<e∧Leads lt a e d G∧tget tm 12 = .int .i64 ((e-a:Nat):Int)∧tget tm 13 = .int .i64 (p:Int)∧tget tm 14 = .int .i64 (g:Int)∧PqS enc b n cap sp fc a e lim wb wp d nx h tm h' nx'
theorem pdq_cv {fq fi fh fb fc0 fr fp fe ft fs fm fo fa fn fx fl fc:Nat} {c:α→α→Int} (A:PdqAt P orc fq fi fh fb fc0 fr fp fe ft k fs fm fo fa fn fx fl fc enc c) {b n cap:Nat} {sp:Option Nat} (hn:n≤120):∀ (mx:Nat) (s:Bool) (a e lim:Nat) (d:Array α) (h:Hp) (nx:Nat) (G:Array α→Prop),
  e-a≤mx→a≤e→e≤n→lim<1000→b<nx→d.size=n→Leads (ltC c) a e d G→hget h b=some (.cells (arr enc d) false) →
  Cv P orc s fq [.slice (some ⟨b,0,sp⟩) n cap,.int .i64 (a:Int),.int .i64 (e:Int),.int .i64 (lim:Int),.func (.func fc) #[] #[]] h nx (PqK enc b G nx h):=by
 intro mx
 induction mx using Nat.strongRecOn with
 | _ mx ih =>
 intro s a e lim d h nx G hmx hae hen hlim hb hd hG hh
 have S:=A.S
 refine Cv.enter A.nq A.cq ?_
 unfold cfPdqF
 refine Ev.seq (Ev.regO ?_)
 simp only [SB,seval]
 refine Ev.seq (Ev.regO ?_)
 simp only [SB,seval]
 refine Ev.block (Ev.loop (PqJ (ltC c) enc b n cap sp fc mx G nx h) ?_ (e-a) _ _ _ ⟨a,e,lim,true,true,d,rfl,hmx,hae,hen,hlim,hG,by simp,by simp,by simp,by simp,by simp,by simp,by simp,hd,hh,fun _ _ _=>rfl,Nat.le_refl _⟩)
 clear hmx hae hen hlim hd hG hh
 rintro m tm h' nx' ⟨a,e,lim,wb,wp,d,rfl,hmx,hae,hen,hlim,hG,t0,t1,t2,t3,t4,t10,t11,hd,hh,hfr,hnx⟩
 refine Ev.block ?_
 have w1:IntKind.wrap .i64 ((e:Int)-(a:Int))=((e-a:Nat):Int):=wSub (by omega) (by omega)
 refine Ev.seq (Ev.regO ?_)
 simp only [SB,t1,t2,w1,seval]
 refine Ev.genT (fun tm2=>tget tm2 0=tget tm 0∧tget tm2 1=tget tm 1∧tget tm2 2=tget tm 2∧tget tm2 3=tget tm 3∧tget tm2 4=tget tm 4∧tget tm2 10=tget tm 10∧tget tm2 11=tget tm 11∧tget tm2 12 = .int .i64 ((e-a:Nat):Int)) (by simp only [tgs,and_self,seval]) ?_
 rintro tm2 ⟨u0,u1,u2,u3,u4,u10,u11,t12⟩
 rw [t0] at u0; rw [t1] at u1; rw [t2] at u2; rw [t3] at u3; rw [t4] at u4; rw [t10] at u10; rw [t11] at u11
 clear t0 t1 t2 t3 t4 t10 t11
 refine Ev.seq (Ev.seq (Ev.regO ?_))
 simp only [SB,t12,seval]
 by_cases h12:e-a≤12
 ·refine Ev.cond true (by simp <;> omega) (fun _=>?_) (by simp <;> omega)
  refine Ev.seq (Ev.regO ?_)
  simp only [SB,u0,u1,u2,u4,seval]
  refine Ov_call ?_
  simp only [cevs_nil,cevs_cons,cev_t,cev_v,tgs,seval]
  refine (insF_cv S A.ci A.ni (by omega) hd (by omega) (by omega) hen hh).mono ?_
  rintro r h1 nx1 ⟨hh1,hf1,hn1⟩
  (try simp only [SB,seval])
  refine Ev.ret ?_
  simp only [SB,seval]
  have hi:=Sort.insertionSort_holds A.swo d a e hae (by omega)
  exact ⟨_,hG.fin _ hi.1 hi.2,hh1,fun c hc hcb=>(hf1 c (by omega) hcb).trans (hfr c hc hcb),by omega⟩
 refine Ev.cond false (by simp <;> omega) (by simp <;> omega) (fun _=>Ev.skip ?_)
 (try simp only [SB,seval])
 refine Ev.seq (Ev.seq (Ev.regO ?_))
 simp only [SB,u3,seval]
 by_cases hl0:lim=0
 ·refine Ev.cond true (by simp [hl0]) (fun _=>?_) (by simp [hl0])
  refine Ev.seq (Ev.regO ?_)
  simp only [SB,u0,u1,u2,u4,seval]
  refine Ov_call ?_
  simp only [cevs_nil,cevs_cons,cev_t,cev_v,tgs,seval]
  refine (heap_cv S A.ch A.nh A.cs A.ns (by omega) hd (by omega) (by omega) hen hh).mono ?_
  rintro r h1 nx1 ⟨hh1,hf1,hn1⟩
  (try simp only [SB,seval])
  refine Ev.ret ?_
  simp only [SB,seval]
  have hi:=Sort.heapSort_holds A.swo d a e hae (by omega)
  exact ⟨_,hG.fin _ hi.1 hi.2,hh1,fun c hc hcb=>(hf1 c (by omega) hcb).trans (hfr c hc hcb),by omega⟩
 refine Ev.cond false (by simp [hl0]) (by simp [hl0]) (fun _=>Ev.skip ?_)
 (try simp only [SB,seval])
 refine Ev.cut (PqA (ltC c) enc b n cap sp fc a e wb wp G nx h) ?_ ?_
 ·refine Ev.seq (Ev.regO ?_)
  simp only [SB,u10,seval]
  cases wb with
  | false =>
   refine Ev.cond true (by simp) (fun _=>?_) (by simp)
   refine Ev.seq (Ev.regO ?_)
   simp only [SB,u0,u1,u2,u4,seval]
   refine Ov_call ?_
   simp only [cevs_nil,cevs_cons,cev_t,cev_v,tgs,seval]
   refine (bp_cv S A.cb A.nb A.cn A.nn A.len A.cx A.nx (by omega) hd hn (by omega) hen hh).mono ?_
   rintro r h1 nx1 ⟨d1,hd1,hp1,hh1,hf1,hn1⟩
   have w2:IntKind.wrap .i64 ((lim:Int)-1)=((lim-1:Nat):Int):=wS1 (by omega) (by omega)
   (try simp only [SB,seval])
   refine Ev.regO ?_
   simp only [SB,u3,w2,seval]
   exact ⟨lim-1,d1,by omega,hG.perm (by omega) hp1,by simp only [tgs,t12,seval],by simp [u0],by simp [u1],by simp [u2],by simp,by simp [u4],by simp [u10],by simp [u11],hd1,hh1,fun c hc hcb=>(hf1 c (by omega) hcb).trans (hfr c hc hcb),by omega⟩
  | true =>
   refine Ev.cond false (by simp) (by simp) (fun _=>Ev.skip ?_)
   (try simp only [SB,seval])
   exact ⟨lim,d,hlim,hG,by simp only [tgs,t12,seval],by simp [u0],by simp [u1],by simp [u2],by simp [u3],by simp [u4],by simp [u10],by simp [u11],hd,hh,hfr,hnx⟩
 clear u0 u1 u2 u3 u4 u10 u11 t12 hG hd hh hfr hnx hl0 hlim
 rintro tm3 h3 nx3 ⟨lim,d,hlim,hG,t12,t0,t1,t2,t3,t4,t10,t11,hd,hh,hfr,hnx⟩
 have hae':a<e:=by omega
 have hsz:e≤d.size:=by omega
 refine Ev.seq (Ev.regO ?_)
 simp only [SB,t0,t1,t2,t4,seval]
 refine Ov_call ?_
 simp only [cevs_nil,cevs_cons,cev_t,cev_v,tgs,seval]
 refine (choose_cv S A.cc A.nc A.ca A.na A.cm A.nm A.co A.no (by omega) hd (by omega) hae' hen hh).mono ?_
 rintro r h4 nx4 ⟨p,g,rfl,hp1,hp2,hg,hk4,hn4⟩
 simp only [SB,seval]
 have hh4:=(hk4 b (by omega)).trans hh
 have w5:IntKind.wrap .i64 ((e:Int)-1)=((e-1:Nat):Int):=wS1 (by omega) (by omega)
 have w6:IntKind.wrap .i64 ((p:Int)-(a:Int))=((p-a:Nat):Int):=wSub (by omega) (by omega)
 have w7:IntKind.wrap .i64 (((e-1:Nat):Int)-((p-a:Nat):Int))=((e-1-(p-a):Nat):Int):=wSub (by omega) (by omega)
 refine Ev.cut (PqB (ltC c) enc b n cap sp fc a e wb wp G nx h) ?_ ?_
 ·refine Ev.seq (Ev.regO ?_)
  simp only [SB,seval]
  by_cases hg2:g=2
  ·refine Ev.cond true (by simp [hg2]) (fun _=>?_) (by simp [hg2])
   refine Ev.seq (Ev.regO ?_)
   simp only [SB,t0,t1,t2,t4,seval]
   refine Ov_call ?_
   simp only [cevs_nil,cevs_cons,cev_t,cev_v,tgs,seval]
   refine (rev_cv S A.cr A.nr (by omega) hd (by omega) hae' hen hh4).mono ?_
   rintro r h5 nx5 ⟨hh5,hf5,hn5⟩
   have hr:=Sort.reverseRange_holds d a e hae hsz
   (try simp only [SB,seval])
   refine Ev.seq (Ev.regO ?_)
   simp only [SB,t1,t2,w5,w6,w7,seval]
   refine Ev.regO ?_
   simp only [SB,seval]
   exact ⟨lim,e-1-(p-a),1,_,hlim,by omega,by omega,hG.perm hsz hr,by simp only [tgs,t12,seval],by simp only [tgs,seval],by simp,by simp [t0],by simp [t1],by simp [t2],by simp [t3],by simp [t4],by simp [t10],by simp [t11],by rw [hr.1]; exact hd,hh5,fun c hc hcb=>by rw [hf5 c (by omega) hcb,hk4 c (by omega)]; exact hfr c hc hcb,by omega⟩
  ·refine Ev.cond false (by simp <;> omega) (by simp <;> omega) (fun _=>Ev.skip ?_)
   (try simp only [SB,seval])
   exact ⟨lim,p,g,d,hlim,hp1,hp2,hG,by simp only [tgs,t12,seval],by simp,by simp,by simp [t0],by simp [t1],by simp [t2],by simp [t3],by simp [t4],by simp [t10],by simp [t11],hd,hh4,fun c hc hcb=>by rw [hk4 c (by omega)]; exact hfr c hc hcb,by omega⟩
 clear t0 t1 t2 t3 t4 t10 t11 t12 hG hd hh hh4 hfr hnx hlim hp1 hp2 hg w6 w7 hsz
 rintro tm6 h6 nx6 ⟨lim,p,g,d,hlim,hp1,hp2,hG,t12,t13,t14,t0,t1,t2,t3,t4,t10,t11,hd,hh,hfr,hnx⟩
 have hsz:e≤d.size:=by omega
 refine Ev.cut (PqB (ltC c) enc b n cap sp fc a e wb wp G nx h) ?_ ?_
 ·refine Ev.seq (Ev.regO ?_)
  by_cases hall:wb=true∧wp=true∧g=1
  ·obtain ⟨rfl,rfl,rfl⟩:=hall
   repeat (first | simp only [Dv_g,Ov_g,putT_some,putT_none,tgs,boolIs_t,boolIs_f,boolIs_u,Bool.not_true,Bool.not_false,Bool.false_eq_true,isEffC_pur,isEffC_alc,isEffC_red,isEffC_eff,seval] | simp only [SG,t10,t11,t14,seval])
   refine Ev.cond true (by simp) (fun _=>?_) (by simp)
   refine Ev.seq (Ev.regO ?_)
   simp only [SB,t0,t1,t2,t4,seval]
   refine Ov_call ?_
   simp only [cevs_nil,cevs_cons,cev_t,cev_v,tgs,seval]
   refine (pins_cv S A.cp A.np (by omega) hd (by omega) hae' hen hh).mono ?_
   rintro r h7 nx7 ⟨rfl,hh7,hf7,hn7⟩
   have hpi:=Sort.partialInsertionSort_holds A.swo d a e hae' hsz hG.bel
   (try simp only [SB,seval])
   cases hres:(Sort.partialInsertionSort (ltC c) d a e).2 with
   | true =>
    refine Ev.cond true (by simp [hres]) (fun _=>?_) (by simp [hres])
    refine Ev.ret ?_
    simp only [SB,seval]
    exact ⟨_,hG.fin _ hpi.1 (hpi.2 hres),hh7,fun c hc hcb=>(hf7 c (by omega) hcb).trans (hfr c hc hcb),by omega⟩
   | false =>
    refine Ev.cond false (by simp [hres]) (by simp [hres]) (fun _=>Ev.skip ?_)
    (try simp only [SB,seval])
    exact ⟨lim,p,1,_,hlim,hp1,hp2,hG.perm hsz hpi.1,by simp only [tgs,t12,seval],by simp [t13],by simp [t14],by simp [t0],by simp [t1],by simp [t2],by simp [t3],by simp [t4],by simp [t10],by simp [t11],by rw [hpi.1.1]; exact hd,hh7,fun c hc hcb=>(hf7 c (by omega) hcb).trans (hfr c hc hcb),by omega⟩
  ·have fin:PqB (ltC c) enc b n cap sp fc a e wb wp G nx h tm6 h6 nx6:=⟨lim,p,g,d,hlim,hp1,hp2,hG,t12,t13,t14,t0,t1,t2,t3,t4,t10,t11,hd,hh,hfr,hnx⟩
   cases wb with
   | false =>
    repeat (first | simp only [Dv_g,Ov_g,putT_some,putT_none,tgs,boolIs_t,boolIs_f,boolIs_u,Bool.not_true,Bool.not_false,Bool.false_eq_true,isEffC_pur,isEffC_alc,isEffC_red,isEffC_eff,seval] | simp only [SG,t10,t11,t14,seval])
    refine Ev.cond false (by simp) (by simp) (fun _=>Ev.skip ?_)
    (try simp only [SB,seval])
    exact ⟨lim,p,g,d,hlim,hp1,hp2,hG,by simp only [tgs,t12,seval],by simp [t13],by simp [t14],by simp [t0],by simp [t1],by simp [t2],by simp [t3],by simp [t4],by simp [t10],by simp [t11],hd,hh,hfr,hnx⟩
   | true =>
    cases wp with
    | false =>
     repeat (first | simp only [Dv_g,Ov_g,putT_some,putT_none,tgs,boolIs_t,boolIs_f,boolIs_u,Bool.not_true,Bool.not_false,Bool.false_eq_true,isEffC_pur,isEffC_alc,isEffC_red,isEffC_eff,seval] | simp only [SG,t10,t11,t14,seval])
     refine Ev.cond false (by simp) (by simp) (fun _=>Ev.skip ?_)
     (try simp only [SB,seval])
     exact ⟨lim,p,g,d,hlim,hp1,hp2,hG,by simp only [tgs,t12,seval],by simp [t13],by simp [t14],by simp [t0],by simp [t1],by simp [t2],by simp [t3],by simp [t4],by simp [t10],by simp [t11],hd,hh,hfr,hnx⟩
    | true =>
     have hg1:((g:Int) == 1)=false:=by simp; intro e; exact hall ⟨rfl,rfl,by omega⟩
     repeat (first | simp only [Dv_g,Ov_g,putT_some,putT_none,tgs,boolIs_t,boolIs_f,boolIs_u,Bool.not_true,Bool.not_false,Bool.false_eq_true,isEffC_pur,isEffC_alc,isEffC_red,isEffC_eff,seval] | simp only [SG,t10,t11,t14,hg1,seval])
     refine Ev.cond false (by simp) (by simp) (fun _=>Ev.skip ?_)
     (try simp only [SB,seval])
     exact ⟨lim,p,g,d,hlim,hp1,hp2,hG,by simp only [tgs,t12,seval],by simp [t13],by simp [t14],by simp [t0],by simp [t1],by simp [t2],by simp [t3],by simp [t4],by simp [t10],by simp [t11],hd,hh,hfr,hnx⟩
 clear t0 t1 t2 t3 t4 t10 t11 t12 t13 t14 hG hd hh hfr hnx hlim hp1 hp2 hsz
 rintro tm8 h8 nx8 ⟨lim,p,g,d,hlim,hp1,hp2,hG,t12,t13,t14,t0,t1,t2,t3,t4,t10,t11,hd,hh,hfr,hnx⟩
 have hsz:e≤d.size:=by omega
 refine Ev.cut (PqB (ltC c) enc b n cap sp fc a e wb wp G nx h) ?_ ?_
 ·refine Ev.seq (Ev.regD ?_)
  by_cases ha0:0<a
  ·have d1:decide ((0:Int)<(a:Int))=true:=decide_eq_true (by omega)
   have w8:IntKind.wrap .i64 ((a:Int)-1)=((a-1:Nat):Int):=wS1 (by omega) (by omega)
   have b1:a-1<n:=by omega
   have b2:p<n:=by omega
   have r1:=arr_ld S.hk (hd.symm ▸ b1)
   have r2:=arr_ld S.hk (hd.symm ▸ b2)
   repeat (first | simp only [Dv_g,Ov_g,putT_some,putT_none,tgs,boolIs_t,boolIs_f,boolIs_u,Bool.not_true,Bool.not_false,Bool.false_eq_true,isEffC_pur,isEffC_alc,isEffC_red,isEffC_eff,seval] | simp only [SG,t0,t1,t4,t13,d1,w8,b1,b2,cellsOf_some hh,r1,r2,seval])
   refine Dv_callv (f:=fc) (a:=[]) (a2:=[]) (by simp [t4]) ?_
   simp only [cevs_nil,cevs_cons,cev_t,cev_v,tgs,List.nil_append,List.append_nil,seval]
   refine (S.cmp _ _ _ _).mono ?_
   rintro r h9 nx9 ⟨rfl,hn9,hf9⟩
   refine ⟨hn9,?_⟩
   have hh9:=(hf9 b (by omega)).trans hh
   by_cases hl:c d[a-1]! d[p]!<0
   ·have e1:decide (c d[a-1]! d[p]!<0)=true:=decide_eq_true hl
    repeat (first | simp only [Dv_g,Ov_g,putT_some,putT_none,tgs,boolIs_t,boolIs_f,boolIs_u,Bool.not_true,Bool.not_false,Bool.false_eq_true,isEffC_pur,isEffC_alc,isEffC_red,isEffC_eff,seval] | simp only [SG,e1,seval])
    refine Ev.cond false (by simp) (by simp) (fun _=>Ev.skip ?_)
    (try simp only [SB,seval])
    exact ⟨lim,p,g,d,hlim,hp1,hp2,hG,by simp only [tgs,t12,seval],by simp [t13],by simp [t14],by simp [t0],by simp [t1],by simp [t2],by simp [t3],by simp [t4],by simp [t10],by simp [t11],hd,hh9,fun c hc hcb=>(hf9 c (by omega)).trans (hfr c hc hcb),by omega⟩
   ·have e1:decide (c d[a-1]! d[p]!<0)=false:=decide_eq_false hl
    repeat (first | simp only [Dv_g,Ov_g,putT_some,putT_none,tgs,boolIs_t,boolIs_f,boolIs_u,Bool.not_true,Bool.not_false,Bool.false_eq_true,isEffC_pur,isEffC_alc,isEffC_red,isEffC_eff,seval] | simp only [SG,e1,seval])
    refine Ev.cond true (by simp) (fun _=>?_) (by simp)
    refine Ev.seq (Ev.regO ?_)
    simp only [SB,t0,t1,t2,t4,t13,seval]
    refine Ov_call ?_
    simp only [cevs_nil,cevs_cons,cev_t,cev_v,tgs,seval]
    refine (partE_cv S A.ce A.ne (by omega) hd (by omega) hp1 hp2 hen hh9).mono ?_
    rintro r hA nxA ⟨rfl,hhA,hfA,hnA⟩
    generalize hres:Sort.partitionEqual (ltC c) d a e p=res at hhA ⊢
    obtain ⟨mid,d4⟩:=res
    obtain ⟨g1,g2,g3,g4,g5⟩:=Sort.round_eq A.swo (Sort.partitionEqual_holds (ltC c)) ha0 hp1 hp2 hsz hG.bel e1 hres
    simp only [SB,seval]
    refine Ev.seq (Ev.regO ?_)
    simp only [SB,seval]
    refine Ev.exit ?_
    simp only [SB,seval]
    exact ⟨e-mid,by omega,mid,e,lim,wb,wp,d4,rfl,by omega,g2,hen,hlim,⟨g4,fun R k1 k2=>hG.fin R (g5 R k1 k2).1 (g5 R k1 k2).2⟩,by simp [t0],by simp,by simp [t2],by simp [t3],by simp [t4],by simp [t10],by simp [t11],by rw [g3]; exact hd,hhA,fun c hc hcb=>by rw [hfA c (by omega) hcb,hf9 c (by omega)]; exact hfr c hc hcb,by omega⟩
  ·have d1:decide ((0:Int)<(a:Int))=false:=decide_eq_false (by omega)
   repeat (first | simp only [Dv_g,Ov_g,putT_some,putT_none,tgs,boolIs_t,boolIs_f,boolIs_u,Bool.not_true,Bool.not_false,Bool.false_eq_true,isEffC_pur,isEffC_alc,isEffC_red,isEffC_eff,seval] | simp only [SG,t1,d1,seval])
   refine Ev.cond false (by simp) (by simp) (fun _=>Ev.skip ?_)
   (try simp only [SB,seval])
   exact ⟨lim,p,g,d,hlim,hp1,hp2,hG,by simp only [tgs,t12,seval],by simp [t13],by simp [t14],by simp [t0],by simp [t1],by simp [t2],by simp [t3],by simp [t4],by simp [t10],by simp [t11],hd,hh,hfr,hnx⟩
 clear t0 t1 t2 t3 t4 t10 t11 t12 t13 t14 hG hd hh hfr hnx hlim hp1 hp2 hsz
 rintro tm9 h9 nx9 ⟨lim,p,g,d,hlim,hp1,hp2,hG,t12,t13,t14,t0,t1,t2,t3,t4,t10,t11,hd,hh,hfr,hnx⟩
 have hsz:e≤d.size:=by omega
 refine Ev.seq (Ev.regO ?_)
 simp only [SB,t0,t1,t2,t4,t13,seval]
 refine Ov_call ?_
 simp only [cevs_nil,cevs_cons,cev_t,cev_v,tgs,seval]
 refine (part_cv S A.ct A.nt (by omega) hd (by omega) hp1 hp2 hen hh).mono ?_
 rintro r hA nxA ⟨rfl,hhA,hfA,hnA⟩
 generalize hres:Sort.partition (ltC c) d a e p=res at hhA ⊢
 obtain ⟨mid,ap,d4⟩:=res
 obtain ⟨g1,g2,g3,g4,g5,g6,g7⟩:=Sort.round_part A.swo (Sort.partition_holds (ltC c)) hp1 hp2 hsz hG.bel hres
 have hhA:hget hA b=some (.cells (arr enc d4) false):=hhA
 have hdn:d4.size=n:=by rw [g3]; exact hd
 have w2:IntKind.wrap .i64 ((mid:Int)-(a:Int))=((mid-a:Nat):Int):=wSub (by omega) (by omega)
 have w3:IntKind.wrap .i64 ((e:Int)-(mid:Int))=((e-mid:Nat):Int):=wSub (by omega) (by omega)
 have w4:IntKind.wrap .i64 ((mid:Int)+1)=((mid+1:Nat):Int):=wN1 (by omega)
 have hq8:=bin_quo (P:=P) (t:=3) (k:=.i64) (a:=((e-a:Nat):Int)) (show (8:Int)≠0 by decide)
 have w6:IntKind.wrap .i64 (Int.tdiv ((e-a:Nat):Int) 8)=(((e-a) / 8:Nat):Int):=by
  rw [show Int.tdiv ((e-a:Nat):Int) 8=(((e-a) / 8:Nat):Int) from by rw [Int.tdiv_eq_ediv_of_nonneg (by omega)]; omega]
  exact wrapS (by omega) (by omega)
 rw [w6] at hq8
 have hfrA:∀ c,c<nx→c≠b→hget hA c=hget h c:=fun c hc hcb=>(hfA c (by omega) hcb).trans (hfr c hc hcb)
 simp only [SB,seval]
 refine Ev.seq (Ev.regO ?_)
 simp only [SB,seval]
 refine Ev.seq (Ev.regO ?_)
 simp only [SB,t1,t2,w2,w3,seval]
 refine Ev.seq (Ev.regO ?_)
 simp only [SB,t12,hq8,seval]
 refine Ev.genT (fun tmB=>tget tmB 0 = .slice (some ⟨b,0,sp⟩) n cap∧tget tmB 1 = .int .i64 (a:Int)∧tget tmB 2 = .int .i64 (e:Int)∧tget tmB 3 = .int .i64 (lim:Int)∧tget tmB 4 = .func (.func fc) #[] #[]∧tget tmB 11 = .bool ap∧tget tmB 16 = .int .i64 (mid:Int)∧tget tmB 18 = .int .i64 ((mid-a:Nat):Int)∧tget tmB 19 = .int .i64 ((e-mid:Nat):Int)∧tget tmB 20 = .int .i64 (((e-a) / 8:Nat):Int))
  (by simp only [tgs,t0,t1,t2,t3,t4,and_self,seval]) ?_
 rintro tmB ⟨v0,v1,v2,v3,v4,v11,v16,v18,v19,v20⟩
 refine Ev.seq (Ev.regO ?_)
 simp only [SB,v18,v19,seval]
 by_cases hside:mid-a<e-mid
 ·refine Ev.cond true (by simp <;> omega) (fun _=>?_) (by simp <;> omega)
  refine Ev.seq (Ev.regO ?_)
  simp only [SB,v18,v20,seval]
  refine Ev.seq (Ev.regO ?_)
  simp only [SB,v0,v1,v3,v4,v16,seval]
  refine Ov_call ?_
  simp only [cevs_nil,cevs_cons,cev_t,cev_v,tgs,seval]
  refine (ih (mid-a) (by omega) _ a mid lim d4 hA nxA (fun L=>Sort.PermIn a mid d4 L∧Sort.SortedIn (ltC c) a mid L) (Nat.le_refl _) g1 (by omega) hlim (by omega) hdn ⟨g4,fun R k1 k2=>⟨k1,k2⟩⟩ hhA).mono ?_
  rintro r hB nxB ⟨L,⟨l1,l2⟩,hhB,hfB,hnB⟩
  obtain ⟨q1,q2⟩:=g6 L l1 l2
  (try simp only [SB,seval])
  refine Ev.regO ?_
  simp only [SB,v16,w4,seval]
  exact ⟨e-(mid+1),by omega,mid+1,e,lim,_,ap,L,rfl,by omega,by omega,hen,hlim,⟨q1,fun R k1 k2=>hG.fin R (q2 R k1 k2).1 (q2 R k1 k2).2⟩,by simp [v0],by simp,by simp [v2],by simp [v3],by simp [v4],by simp only [tgs,seval]; rfl,by simp [v11],by rw [l1.1]; exact hdn,hhB,fun c hc hcb=>(hfB c (by omega) hcb).trans (hfrA c hc hcb),by omega⟩
 ·refine Ev.cond false (by simp <;> omega) (by simp <;> omega) (fun _=>?_)
  refine Ev.seq (Ev.regO ?_)
  simp only [SB,v19,v20,seval]
  refine Ev.seq (Ev.regO ?_)
  simp only [SB,v0,v2,v3,v4,v16,w4,seval]
  refine Ov_call ?_
  simp only [cevs_nil,cevs_cons,cev_t,cev_v,tgs,seval]
  refine (ih (e-(mid+1)) (by omega) _ (mid+1) e lim d4 hA nxA (fun L=>Sort.PermIn (mid+1) e d4 L∧Sort.SortedIn (ltC c) (mid+1) e L) (Nat.le_refl _) (by omega) hen hlim (by omega) hdn ⟨g5,fun R k1 k2=>⟨k1,k2⟩⟩ hhA).mono ?_
  rintro r hB nxB ⟨L,⟨l1,l2⟩,hhB,hfB,hnB⟩
  obtain ⟨q1,q2⟩:=g7 L l1 l2
  (try simp only [SB,seval])
  refine Ev.regO ?_
  simp only [SB,v16,seval]
  exact ⟨mid-a,by omega,a,mid,lim,_,ap,L,rfl,by omega,g1,by omega,hlim,⟨q1,fun R k1 k2=>hG.fin R (q2 R k1 k2).1 (q2 R k1 k2).2⟩,by simp [v0],by simp [v1],by simp,by simp [v3],by simp [v4],by simp only [tgs,seval]; rfl,by simp [v11],by rw [l1.1]; exact hdn,hhB,fun c hc hcb=>(hfB c (by omega) hcb).trans (hfrA c hc hcb),by omega⟩
end
section
variable {P:Program} {orc:Orc} {s:Bool}
variable {α:Type} [Inhabited α] {enc:α→List Value} {k:Nat}
def LenAll (P:Program) (orc:Orc) (fl:FuncId):Prop:=∀ (s:Bool) (n:Nat),n≤120→∀ h nx,Cv P orc s fl [.int .u64 (n:Int)] h nx (fun v h' nx'=>∃ L:Nat,v = .int .i64 (L:Int)∧L≤7∧(8≤n→2 ^ L≤2*n)∧h'=h∧nx'=nx)
theorem LenAll.some {fl:FuncId} (h:LenAll P orc fl):LenOk P orc fl:=fun s n h8 hn hp nx=>(h s n hn hp nx).mono fun v h' nx' ⟨L,e1,e2,e3,e4,e5⟩=>⟨L,e1,e2,e3 h8,e4,e5⟩
def SortFK (enc:α→List Value) (c:α→α→Int) (l:List α) (b nx:Nat) (h:Hp):KC':=fun _ h' nx'=>nx≤nx'∧(∃ l':List α,l'.Perm l∧l'.Pairwise (fun x y=>¬ c y x<0)∧hget h' b=some (.cells (flat enc l') false))∧∀ c,c<nx→c≠b→hget h' c=hget h c
theorem sortF_cv {f fq fi fh fb fc0 fr fp fe ft fs fm fo fa fn fx fl fc:Nat} {c:α→α→Int} (A:PdqAt P orc fq fi fh fb fc0 fr fp fe ft k fs fm fo fa fn fx fl fc enc c) (hcf:compAt P f=some (cfSort fl fq)) (ho:orc f=none) (hl:LenAll P orc fl)
  {h:Hp} {nx b n cap:Nat} {sp:Option Nat} {l:List α} (hln:l.length=n) (hn:n≤120) (hb:b<nx) (hh:hget h b=some (.cells (flat enc l) false)) :
  Cv P orc s f [.slice (some ⟨b,0,sp⟩) n cap,.func (.func fc) #[] #[]] h nx (SortFK enc c l b nx h):=by
 refine Cv.enter ho hcf ?_
 unfold cfSort
 have w1:IntKind.wrap .u64 (n:Int)=(n:Int):=wrapU6 (by omega)
 refine Ev.seq (Ev.regO ?_)
 simp only [SB,seval]
 refine Ev.regO ?_
 simp only [SB,w1,seval]
 refine Ov_call ?_
 simp only [cevs_nil,cevs_cons,cev_t,cev_v,tgs,seval]
 refine (hl _ n hn _ _).mono ?_
 rintro r h1 nx1 ⟨L,rfl,hL,_,rfl,rfl⟩
 simp only [SB,seval]
 refine Ov_call ?_
 simp only [cevs_nil,cevs_cons,cev_t,cev_v,tgs,seval]
 have hda:hget h1 b=some (.cells (arr enc l.toArray) false):=by unfold arr; simpa using hh
 have hds:l.toArray.size=n:=by simpa using hln
 refine (pdq_cv A hn n _ 0 n L l.toArray h1 nx1 (fun R=>Sort.PermIn 0 n l.toArray R∧Sort.SortedIn (ltC c) 0 n R) (by omega) (by omega) (Nat.le_refl _) (by omega) hb hds ⟨.inl rfl,fun R k1 k2=>⟨k1,k2⟩⟩ hda).mono ?_
 rintro r h2 nx2 ⟨R,⟨hp,hso⟩,hh2,hf2,hn2⟩
 (try simp only [SB,seval])
 have hRn:R.size=n:=by rw [hp.1]; exact hds
 refine ⟨hn2,⟨R.toList,?_,?_,hh2⟩,hf2⟩
 ·have h3:=hp.2.2
  have e1:R.extract 0 n=R:=by rw [← hRn]; simp
  have e2:l.toArray.extract 0 n=l.toArray:=by rw [← hds]; simp
  rw [e1,e2] at h3
  simpa using h3
 ·rw [List.pairwise_iff_getElem]
  intro i j hi hj hij
  have hj':j<R.size:=by simpa using hj
  have hi':i<R.size:=by simpa using hi
  have h4:=hso i j (Nat.zero_le _) hij (by omega)
  rw [getElem!_pos R i hi',getElem!_pos R j hj'] at h4
  have h5:=of_decide_eq_false h4
  simpa using h5
end
section
variable {P:Program} {orc:Orc}
structure CombF (P:Program) (orc:Orc) (f fis fof fad fna fs fo fl fw fwn tr tw kt:Nat) (R1 R2 R3:CC):Prop where
 cf:compAt P f=some (cfCombine fis fof fad fna fs fo kt)
 no:orc f=none
 is:compAt P fis=some (cfIs tr)
 nis:orc fis=none
 of:compAt P fof=some (cfOf tw)
 nof:orc fof=none
 ad:compAt P fad=some (cfAdd fl tr tw R1 R2 R3)
 nad:orc fad=none
 le:compAt P fl=some (cfLesser fw tw)
 nle:orc fl=none
 na:compAt P fna=some (cfNarrow fwn)
 nna:orc fna=none
 wn:compAt P fwn=some (cfWNarrow fof tw)
 nwn:orc fwn=none
 w:WideAt P tw
 c:WideCmp P orc fw
 k:KeyAt P kt
 eq:∀ n:Nat,n<4294967296→bin P .neq tw (.agg ⟨wideL n⟩) (.agg ⟨wideL n⟩) = .ok (.bool false)
 S:∀ (l:List Edg) (h:Hp) (nx b n cap:Nat) (sp:Option Nat),l.length=n→n≤120→b<nx→hget h b=some (.cells (flat encE l) false)→Cv P orc false fs [.slice (some ⟨b,0,sp⟩) n cap,.func (.func fo) #[] #[]] h nx (SortFK encE cmpE l b nx h)
 S0:∀ (h:Hp) (nx:Nat),Cv P orc false fs [.slice none 0 0,.func (.func fo) #[] #[]] h nx (fun _ h' nx'=>h'=h∧nx'=nx)
def Cmb2F (h:Hp) (it r ck:Nat) (es:List MapEntry) (m:Nat) (tm:Tm) (h':Hp) (nx':Nat):Prop :=
 ∃ seen acc,m=(leftOf seen es).length∧it<nx'∧tget tm 0 = .int .i64 1∧tget tm 52 = .pointer (some ⟨it,0,none⟩)∧SlAt h' (tget tm 13) encE 3 acc (it+1) nx'∧(acc=[]→tget tm 13 = .slice none 0 0)∧(acc++(leftOf seen es).map edgeE).Perm (es.map edgeE) ∧
  hget h' it=some (.iter (some r) ck seen ck)∧∀ b,b<it→hget h' b=hget h b
theorem combineF_cv {f fis fof fad fna fs fo fl fw fwn tr tw kt:Nat} {R1 R2 R3:CC} (A:CombF P orc f fis fof fad fna fs fo fl fw fwn tr tw kt R1 R2 R3)
  {h:Hp} {nx bs os n cap:Nat} {sp:Option Nat} {cs:List Value} {ro:Bool} {es:List Edg} {a:Option Addr} (ha:0<n→a=some ⟨bs,os,sp⟩) (hbs:0<n→hget h bs=some (.cells cs ro)) (hbn:0<n→bs<nx) (hn:es.length=n) (hn1:n≤120) (hsm:∀ x∈es,Small x)
  (hld:∀ i x,es[i]? = some x→loadC (some 3) (os+i*3) cs = .ok (.agg ⟨encE x⟩)) :
  Cv P orc false f [.int .i64 1,.slice a n cap] h nx (fun v h' _=>(combG [] es=[]∧v = .tuple ⟨[.slice none 0 0,.int .i64 0]⟩∧∀ b,b<nx→hget h' b=hget h b)∨∃ bk l,combG [] es≠[]∧v = .tuple ⟨[.slice (some ⟨bk,0,some 3⟩) l.length l.length,.int .i64 0]⟩∧nx≤bk∧hget h' bk=some (.cells (flat encE l) false)∧l.Perm (combG [] es)∧l.Pairwise (fun x y=>¬ cmpE y x<0) ∧
   ∀ b,b<nx→hget h' b=hget h b):=by
 refine Cv.enter A.no A.cf ?_
 unfold cfCombine
 refine Ev.seq (Ev.regO ?_)
 simp only [Ov_pur,c_mv,cev_v,RK_ok,putT_some,Ov_nil,nextK_normal]
 refine Ev.seq (Ev.seq (Ev.regO ?_))
 simp only [Ov_pur,c_mv,cev_t,setArgs_cons,setArgs_nil,tgs,RK_ok,putT_some,seval]
 refine Ov_call ?_
 simp only [cevs_cons,cevs_nil,cev_t,tgs,seval]
 refine (is_cv A.is A.nis).mono ?_
 rintro v h' nx' ⟨rfl,rfl,rfl⟩
 simp only [Ov_pur,c_un,cev_t,putT_some,tgs,↓reduceIte,un_not,RK_ok,Ov_nil,nextK_normal]
 refine Ev.cond false (by simp) (by simp) fun _=>Ev.skip ?_
 show Ev P orc false _ _ _ _ _
 refine Ev.seq (Ev.regO ?_)
 simp only [Ov_alc,calq,RK_ok,nbV,nbO,putT_some,Ov_pur,c_mv,cev_t,tgs,↓reduceIte,Ov_nil,nextK_normal]
 refine Ev.seq (Ev.seq (Ev.regO ?_))
 simp only [Ov_pur,Ov_red,c_mv,c_lens,lenS_slice,cev_t,cev_v,putT_some,tgs,RK_ok,Ov_nil,nextK_normal,seval]
 refine Ev.block (Ev.loop (fun m tm h1 nx1=>Cmb1 h' nx' nx' n es (.slice a n cap) m tm h1 nx1) ?_ n _ _ _ ⟨0,rfl,by omega,by simp,by simp,by simp,by simp,by simp,Nat.le_refl _,by omega,by simp [combG,mkEnts],fun b hb=>by simp [show b≠nx' by omega]⟩)
 rintro m tm h1 nx1 ⟨i,rfl,hin,t0,t6,t22,t23,t24,hrn,hr1,hm,hfr⟩
 have hsmt:∀ x∈combG [] (es.take i),Small x:=combG_small (fun x hx=>hsm x (List.mem_of_mem_take hx)) (fun x hx=>by cases hx)
 refine Ev.seq (Ev.regO ?_)
 simp only [Ov_pur,c_bin,cev_t,t24,t23,bin_lss,RK_ok,putT_some,Ov_nil,nextK_normal]
 refine Ev.seq (Ev.cond (decide ((i:Int)<(n:Int))) (by simp) (fun hlt=>Ev.skip ?_) fun hge=>Ev.exit ?_)
 ·simp only [decide_eq_true_eq,Int.ofNat_lt] at hlt
  show Ev P orc false _ _ _ _ _
  have ha:=ha (by omega)
  have hbs:=hbs (by omega)
  have hbn:=hbn (by omega)
  subst ha
  obtain ⟨e,he⟩:∃ e,es[i]? = some e:=⟨_,List.getElem?_eq_getElem (by omega)⟩
  have hsme:=hsm e (List.mem_of_getElem? he)
  refine Ev.seq (cmbBody_cv (s:=false) A.of A.nof A.ad A.nad A.le A.nle A.w A.c A.k (r:=nx') (bs:=bs) (os:=os) (n:=n) (cap:=cap) (sp:=sp) (i:=i) (cs:=cs) (ro:=ro) (acc:=combG [] (es.take i)) (e:=e) hsme hsmt hr1 hm (by rw [hfr _ hbn]; exact hbs) (by omega) hlt (hld i e he) (by simp [t0]) (by simp [t6]) (by simp [t22]) (by simp [t24]) ?_)
  intro tm2 h2 nx2 hlow hnx2 hm2 hfr2
  have u0:=hlow 0 (by omega)
  have u6:=hlow 6 (by omega)
  have u22:=hlow 22 (by omega)
  have u23:=hlow 23 (by omega)
  have u24:=hlow 24 (by omega)
  simp only [tgs,t0,t6,t22,t23,t24,seval] at u0 u6 u22 u23 u24
  simp only [nextK_normal]
  refine Ev.regO ?_
  simp only [Ov_pur,c_mv,c_bin,cev_t,cev_v,u24,bin_add,tgs,RK_ok,putT_some,Ov_nil,nextK_normal,seval]
  have htake:combG [] (es.take (i+1))=combS e (combG [] (es.take i)):=by
   rw [← combG_snoc,List.take_add_one,he]; rfl
  refine ⟨n-(i+1),by omega,i+1,rfl,by omega,by simp [u0],by simp [u6],by simp [u22],by simp [u23],by simp; exact wrapNB (i+1) (by omega),hrn,by omega,by rw [htake]; exact hm2,fun b hb=>by rw [hfr2 b (by omega) (by omega)]; exact hfr b hb⟩
 ·simp only [decide_eq_false_iff_not,Int.ofNat_lt] at hge
  have hi:i=n:=by omega
  subst hi
  rw [List.take_of_length_le (by omega)] at hm hsmt
  generalize hcomb:combG [] es=L at *
  have hLl:L.length≤120:=by rw [← hcomb]; have:=combG_len es []; simp at this; omega
  simp only [nextK_exit,blkK_exit,↓reduceIte,nextK_normal]
  refine Ev.seq (Ev.regO ?_)
  simp only [Ov_pur,c_mv,cev_v,RK_ok,putT_some,Ov_nil,nextK_normal]
  refine Ev.seq (Ev.seq (Ev.regO ?_))
  simp only [Ov_pur,c_mv,cev_t,tgs,t6,RK_ok,putT_some,seval]
  have hrng:∀ tm,ceff P (tset tm 51 (.map (some nx'))) h1 nx1 (.rng (.t 51)) = .val (.pointer (some ⟨nx1,0,none⟩)) (hset h1 nx1 (.iter (some nx') L.length [] L.length)) (nx1+1):=fun tm=>by
   show oRange h1 nx1 (tget (tset tm 51 (.map (some nx'))) 51)=_
   simp [oRange,hm,newIter]
  rw [Ov_eff (hrng _)]
  simp only [putT_some,Ov_nil,nextK_normal]
  obtain ⟨hris,hborn⟩:=mkEnts_rising 0 L
  obtain ⟨hmap,hent⟩:=mkEnts_edge 0 L hsmt
  have hck:∀ e∈mkEnts 0 L,e.born<L.length:=fun e he=>by have:=(hborn e he).2; omega
  refine Ev.block (Ev.loop (fun m tm h2 nx2=>Cmb2F h1 nx1 nx' L.length (mkEnts 0 L) m tm h2 nx2) ?_ (mkEnts 0 L).length _ _ _ ⟨[],[],by rw [leftOf_nil_seen],by omega,by simp [t0],by simp,.inl ⟨rfl,by simp⟩,fun _=>by simp,by rw [leftOf_nil_seen]; exact List.Perm.refl _,by simp,fun b hb=>by simp [show b≠nx1 by omega]⟩)
  rintro m tm2 h2 nx2 ⟨seen,acc,rfl,hnx2,u0,u52,hsl,hz,hperm,hit,hfr2⟩
  have hm2:hget h2 nx'=some (.map (mkEnts 0 L) L.length):=by rw [hfr2 _ hr1]; exact hm
  have hal:acc.length≤120:=by
   have:=hperm.length_eq
   rw [List.length_append,hmap] at this
   omega
  refine Ev.seq (Ev.regO (Ov_nxt rfl (by simpa using u52) hit hm2 (nextOk_of hck) (fun hend=>?_) fun e he=>⟨hck e (leftOf_mem he).1,?_⟩))
  ·simp only [Ov_pur,c_ext,cev_t,putT_some,tgs,↓reduceIte,oExtract_tuple,List.getElem?_cons_zero,of_some,RK_ok,Ov_nil,nextK_normal]
   refine Ev.seq (Ev.cond false (by simp) (by simp) fun _=>Ev.exit ?_)
   simp only [nextK_exit,blkK_exit,↓reduceIte,nextK_normal]
   rw [hend,hmap] at hperm
   simp only [List.map_nil,List.append_nil] at hperm
   rcases hsl with ⟨e,_⟩ | ⟨bk,hb1,hb2,t13,hbk⟩
   ·rename_i t13
    refine Ev.seq (Ev.regO ?_)
    simp only [Ov_pur,c_mv,cev_t,tgs,t13,RK_ok,putT_some,seval]
    refine Ov_call ?_
    simp only [cevs_cons,cevs_nil,cev_t,cev_v,tgs,seval]
    refine (A.S0 _ _).mono ?_
    rintro v h3 nx3 ⟨rfl,rfl⟩
    simp only [Ov_nil,nextK_normal]
    refine Ev.seq (Ev.regO ?_)
    simp only [Ov_pur,Ov_nil,putT_some,c_mv,cev_t,cev_v,tgs,t13,RK_ok,nextK_normal,seval]
    refine Ev.ret ?_
    simp only [retK_ret,resVs_tmp,resVs_nil,bind_ok,RK_ok,retV_two,tgs,seval]
    refine .inl ⟨by rw [e] at hperm; exact List.nil_perm.1 hperm,trivial,fun b2 hb2'=>?_⟩
    rw [hfr2 b2 (by omega)]
    exact hfr b2 hb2'
   have hane:acc≠[]:=fun e=>by have:=hz e; rw [t13] at this; cases this
   refine Ev.seq (Ev.regO ?_)
   simp only [Ov_pur,c_mv,cev_t,tgs,t13,RK_ok,putT_some,seval]
   refine Ov_call ?_
   simp only [cevs_cons,cevs_nil,cev_t,cev_v,tgs,seval]
   refine (A.S acc _ _ _ _ _ _ rfl hal hb2 hbk).mono ?_
   rintro v h3 nx3 ⟨hnx3,⟨l',hp',hs',hb'⟩,hf3⟩
   simp only [Ov_nil,nextK_normal]
   refine Ev.seq (Ev.regO ?_)
   simp only [Ov_pur,Ov_nil,putT_some,c_mv,cev_t,cev_v,tgs,t13,RK_ok,nextK_normal,seval]
   refine Ev.ret ?_
   simp only [retK_ret,resVs_tmp,resVs_nil,bind_ok,RK_ok,retV_two,tgs,seval]
   refine .inr ⟨bk,l',fun e=>hane (by rw [e] at hperm; exact List.perm_nil.1 hperm),by rw [hp'.length_eq],by omega,hb',hp'.trans hperm,hs',fun b2 hb2'=>?_⟩
   rw [hf3 b2 (by omega) (by omega),hfr2 b2 (by omega)]
   exact hfr b2 hb2'
  ·obtain ⟨hmem,hnot⟩:=leftOf_mem he
   obtain ⟨w,hwl,hx3,hkey,hval⟩:=hent e hmem
   have hpe:=leftOf_perm hris he
   have hplen:=hpe.length_eq
   simp only [List.length_cons] at hplen
   have hpp:=hpe.map edgeE
   simp only [Ov_pur,c_ext,cev_t,putT_some,tgs,↓reduceIte,oExtract_tuple,List.getElem?_cons_zero,of_some,RK_ok,Ov_nil,nextK_normal]
   refine Ev.seq (Ev.cond true (by simp) (fun _=>Ev.skip ?_) (by simp))
   show Ev P orc false _ _ _ _ _
   have hoe:oEntry (hset h2 nx1 (.iter (some nx') L.length (seen++[e.born]) L.length)) (.pointer (some ⟨nx1,0,none⟩)) = .ok (.tuple ⟨[keyV (edgeE e),.agg ⟨wideL w⟩]⟩):=by
    rw [oEntry_eq (r:=nx') (since:=L.length) (ck:=L.length) (seen:=seen) (es:=mkEnts 0 L) (e:=e) (by simp) (by simp [show nx'≠nx1 by omega]; exact hm2) hris hmem,hkey,hval]
   have hsl2:SlAt (hset h2 nx1 (.iter (some nx') L.length (seen++[e.born]) L.length)) (tget tm2 13) encE 3 acc (nx1+1) nx2:=by
    rcases hsl with ⟨e1,e2⟩ | ⟨bk,g1,g2,g3,g4⟩
    ·exact .inl ⟨e1,e2⟩
    ·exact .inr ⟨bk,g1,g2,g3,by simp [show bk≠nx1 by omega]; exact g4⟩
   refine Ev.block (cmbList_cv (s:=false) A.na A.nna A.wn A.nwn A.of A.nof A.w A.eq hx3 hwl (it:=nx1) (lo:=nx1+1) (by simp [u52]) hoe (by simpa using hsl2) (by omega) (by omega) ?_)
   intro tm3 h3 nx3 hlow t52 hnx3 hsl3 hf3
   simp only [blkK_normal,nextK_normal]
   have v0:=hlow 0 (by omega)
   simp only [tgs,u0,u52,seval] at v0 t52
   refine ⟨_,?_,seen++[e.born],acc++[edgeE e],rfl,by omega,v0,t52,hsl3,fun h=>by simp at h,?_,by rw [hf3 _ (by omega)]; simp,fun b hb=>by rw [hf3 b (by omega)]; simp [show b≠nx1 by omega]; exact hfr2 b hb⟩
   ·omega
   ·refine List.Perm.trans ?_ hperm
    rw [List.append_assoc]
    exact List.Perm.append_left acc (List.Perm.symm hpp)
end
def edgesB:List Value→Option (List Edg)
 | []=>some []
 | .int .i64 a::.int .i64 b::.int .i64 c::l=>(match edgesB l with
  | some r=>bif smallB a&&(smallB b&&smallB c) then some ((a,b,c)::r) else none
  | none=>none)
 | _=>none
def combResF (h:Hp) (nx:Nat) (l:List Edg):CR:=match l with
 | []=>.ok (.tuple ⟨[.slice none 0 0,.int .i64 0]⟩) h nx
 | l=>bif sortedB ltE l then .ok (.tuple ⟨[.slice (some ⟨nx,0,some 3⟩) l.length l.length,.int .i64 0]⟩) (hset h nx (.cells (flat encE l) false)) (nx+1) else .no "Combine"
def gCombF (args:List Value) (h:Hp) (nx:Nat):CR:=match args with
 | [.int .i64 (.ofNat 1),.slice _ 0 _]=>.ok (.tuple ⟨[.slice none 0 0,.int .i64 0]⟩) h nx
 | [.int .i64 (.ofNat 1),.slice (some a) n _]=>(match hget h a.block with
  | some (.cells cs _)=>(match lcut (n*3) (ldrop cs a.off) with
   | some l=>(match edgesB l with
    | some es=>bif Nat.ble es.length 120 then combResF h nx (sortB ltE (combG [] es)) else .no "Combine"
    | none=>.no "Combine")
   | none=>.no "Combine")
  | _=>.no "Combine")
 | _=>.no "Combine"
theorem edgesB_ok:∀ (N:Nat) {l:List Value} {es:List Edg},l.length≤N→edgesB l=some es→l=flat encE es∧∀ x∈es,Small x:=by
 intro N
 induction N with
 | zero =>
  intro l es hl h
  cases l with
  | nil=>cases h; exact ⟨rfl,fun x hx=>by cases hx⟩
  | cons x l=>simp at hl
 | succ N ih =>
  intro l es hl h
  unfold edgesB at h
  split at h
  ·cases h; exact ⟨rfl,fun x hx=>by cases hx⟩
  ·rename_i a b c l
   split at h
   ·rename_i r hr
    obtain ⟨h1,h2⟩:=ih (by simp at hl; omega) hr
    cases hs:(smallB a&&(smallB b&&smallB c)) with
    | false=>rw [hs] at h; cases h
    | true =>
     rw [hs] at h
     cases h
     simp only [Bool.and_eq_true] at hs
     refine ⟨by rw [h1]; rfl,fun x hx=>?_⟩
     rcases List.mem_cons.1 hx with rfl | hx
     ·exact ⟨hs.1,hs.2.1,hs.2.2⟩
     ·exact h2 x hx
   ·cases h
  ·cases h
section
variable {P:Program}
theorem gCombF_ok (hP:POk P) {f fis fof fad fna fs fo fl fw fwn tr tw kt:Nat} {R1 R2 R3:CC} (A:CombF P orc0 f fis fof fad fna fs fo fl fw fwn tr tw kt R1 R2 R3):OrcAt P f gCombF:=by
 intro args h nx K hs
 unfold gCombF at hs
 split at hs <;> first | exact hs.elim | skip
 ·rename_i a cap
  have hs:K (.tuple ⟨[.slice none 0 0,.int .i64 0]⟩) h nx:=hs
  refine orc_plain hP orc0_ok (callable_of hP A.cf) (v:=.tuple ⟨[.slice none 0 0,.int .i64 0]⟩) rfl (fun hfr=>?_) hs
  refine (combineF_cv A (n:=0) (bs:=0) (os:=0) (sp:=none) (cs:=[]) (ro:=false) (es:=[]) (fun h=>absurd h (by omega)) (fun h=>absurd h (by omega)) (fun h=>absurd h (by omega)) rfl (by omega) (fun x hx=>by cases hx) (fun i x hx=>by simp at hx)).mono ?_
  have old:∀ {h':Hp},(∀ b,b<nx→hget h' b=hget h b)→∀ b o,hget h b=some o→hget h' b=some o:=fun {h'} hold b o ho=>by
   rw [hold b ?_]
   ·exact ho
   ·rcases Nat.lt_or_ge b nx with h | h
    ·exact h
    ·rw [hfr b h] at ho; cases ho
  rintro v h' nx' (⟨_,rfl,hold⟩ | ⟨bk,l,hn,_⟩)
  ·exact ⟨rfl,old hold⟩
  ·exact absurd rfl hn
 ·rename_i a n cap hn0
  split at hs <;> first | exact hs.elim | skip
  rename_i cs ro hc
  split at hs <;> first | exact hs.elim | skip
  rename_i l hcut
  split at hs <;> first | exact hs.elim | skip
  rename_i es hes
  cases hle:Nat.ble es.length 120 with
  | false=>rw [hle] at hs; exact hs.elim
  | true =>
   rw [hle] at hs
   simp only [cond_true] at hs
   have h60:=Nat.le_of_ble_eq_true hle
   obtain ⟨hl,hsm⟩:=edgesB_ok _ (Nat.le_refl _) hes
   obtain ⟨b,o,sp⟩:=a
   rw [lcut_eq,ldrop_eq] at hcut
   simp only at hcut hc
   split at hcut
   ·rename_i hlen
    injection hcut with hcut
    have hll:es.length=n:=by
     have e1:l.length=n*3:=by rw [← hcut,List.length_take]; omega
     rw [hl,flat_len (k:=3) (fun _=>rfl)] at e1
     omega
    have hld:∀ i x,es[i]? = some x→loadC (some 3) (o+i*3) cs = .ok (.agg ⟨encE x⟩):=fun i x hx=>by
     have hi:i<es.length:=by
      rcases Nat.lt_or_ge i es.length with h | h
      ·exact h
      ·rw [List.getElem?_eq_none h] at hx; cases hx
     have hg:=flat_get (enc:=encE) (k:=3) (fun _=>rfl) hx
     rw [← hl,← hcut] at hg
     rw [List.length_drop] at hlen
     rw [loadC_many,if_pos (by omega)]
     rw [List.drop_take,List.take_take,List.drop_drop,Nat.min_eq_left (by omega)] at hg
     rw [hg]
    have hbn:(∀ b,nx≤b→hget h b=none)→b<nx:=fun hfr=>by
     rcases Nat.lt_or_ge b nx with h | h
     ·exact h
     ·rw [hfr b h] at hc; cases hc
    have hperm:=sortB_perm (lt:=ltE) (combG [] es)
    have old:(∀ b,nx≤b→hget h b=none)→∀ {h':Hp},(∀ b,b<nx→hget h' b=hget h b)→∀ b o,hget h b=some o→hget h' b=some o:=fun hfr {h'} hold b o ho=>by
     rw [hold b ?_]
     ·exact ho
     ·rcases Nat.lt_or_ge b nx with h | h
      ·exact h
      ·rw [hfr b h] at ho; cases ho
    unfold combResF at hs
    split at hs
    ·rename_i l2 hne
     have hcn:combG [] es=[]:=by rw [hne] at hperm; exact List.nil_perm.1 hperm
     have hs:K (.tuple ⟨[.slice none 0 0,.int .i64 0]⟩) h nx:=hs
     refine orc_plain hP orc0_ok (callable_of hP A.cf) (v:=.tuple ⟨[.slice none 0 0,.int .i64 0]⟩) rfl (fun hfr=>?_) hs
     refine (combineF_cv A (fun _=>rfl) (fun _=>hc) (fun _=>hbn hfr) hll (hll ▸ h60) hsm hld).mono ?_
     rintro v h' nx' (⟨_,rfl,hold⟩ | ⟨bk,l,hn,_⟩)
     ·exact ⟨rfl,old hfr hold⟩
     ·exact absurd hcn hn
    ·rename_i l2 hne
     cases hso:sortedB ltE (sortB ltE (combG [] es)) with
     | false=>rw [hso] at hs; exact hs.elim
     | true =>
      rw [hso] at hs
      have hs:K (.tuple ⟨[.slice (some ⟨nx,0,some 3⟩) (sortB ltE (combG [] es)).length (sortB ltE (combG [] es)).length,.int .i64 0]⟩) (hset h nx (.cells (flat encE (sortB ltE (combG [] es))) false)) (nx+1):=hs
      have hsrt:(sortB ltE (combG [] es)).Pairwise (fun x y=>¬ cmpE y x<0):=(sortedB_ok hso).imp fun h=>ltE_eq.1 h
      have hcne:combG [] es≠[]:=fun e=>hne (by rw [e]; rfl)
      generalize hL:sortB ltE (combG [] es)=L at *
      refine orc_slice hP orc0_ok (val:=fun b=>.tuple ⟨[.slice (some ⟨b,0,some 3⟩) L.length L.length,.int .i64 0]⟩) (cs:=flat encE L) (plain_flat (fun _=>rfl) L) (callable_of hP A.cf) (fun ρ ρ' b p c hp hq hv=>pair_rename _ _ _ ρ ρ' nx b p c hp hq hv) (fun hfr=>?_) hs
      refine (combineF_cv A (fun _=>rfl) (fun _=>hc) (fun _=>hbn hfr) hll (hll ▸ h60) hsm hld).mono ?_
      rintro v h' nx' (⟨hn,_⟩ | ⟨bk,l',_,rfl,hbk,hcs,hp',hs',hold⟩)
      ·exact absurd hn hcne
      ·have:l'=L:=sorted_eq (R:=fun x y=>¬ cmpE y x<0) (fun x y=>cmpE_anti x y) (hp'.trans hperm.symm) hs' hsrt
       subst this
       exact ⟨bk,rfl,hbk,hcs,old hfr hold⟩
   ·cases hcut
end
end Go.Ax
