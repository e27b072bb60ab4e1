/- Parts of the proof: WcFn5: each statement zDz its own conditions. -/
import Derived.Test.YtcjochjiegiliaaGreatWcFn4
namespace Go.Proofs.YtcjochjiegiliaaGreat
open Go Go.Ax
set_option linter.unusedVariables false
set_option linter.unusedSimpArgs false
set_option maxRecDepth 1000000
def rwk0 (I J k n src len gn R C M lim br bc:Int) (ad ae ac b1 b2 b3:Option Addr) (nd cd ne ce nc cc m1 d1 m2 d2 m3 d3:Nat):Nat→Value
 | 0=>.int .i64 k
 | 1=>.int .i64 n
 | 2=>.int .i64 src
 | 3=>.int .i64 len
 | 4=>.slice ad nd cd
 | 5=>.int .i64 gn
 | 6=>.slice ae ne ce
 | 7=>.int .i64 R
 | 8=>.int .i64 C
 | 9=>.int .i64 M
 | 10=>.int .i64 lim
 | 11=>.slice ac nc cc
 | 12=>.int .i64 I
 | 13=>.int .i64 J
 | 14=>.int .i64 br
 | 15=>.int .i64 bc
 | 16=>.slice b1 m1 d1
 | 17=>.slice b2 m2 d2
 | 18=>.slice b3 m3 d3
 | 19=>.slice none 0 0
 | 20=>.int .i64 1
 | 21=>.slice none 0 0
 | 22=>.slice none 0 0
 | 23=>.int .i64 1
 | 24=>.int .i64 0
 | 25=>.int .i64 0
 | 26=>.int .i64 0
 | 27=>.slice none 0 0
 | 28=>.slice none 0 0
 | 29=>.slice none 0 0
 | 30=>.int .i64 0
 | 31=>.int .i64 0
 | 32=>.slice none 0 0
 | 33=>.slice none 0 0
 | 34=>.slice none 0 0
 | 35=>.int .i64 0
 | 36=>.bool false
 | 37=>.bool false
 | 38=>.slice none 0 0
 | 39=>.slice none 0 0
 | 40=>.int .i64 0
 | 41=>.bool false
 | 42=>.slice none 0 0
 | 43=>.int .i64 0
 | 44=>.bool false
 | _=>.bool false
theorem zPg {I J k n src len gn R C M lim br bc:Int} {ad ae ac b1 b2 b3:Option Addr} {nd cd ne ce nc cc m1 d1 m2 d2 m3 d3:Nat}:((zAH (zD8 [(12,1,.int .i64 I),(13,1,.int .i64 J),(14,5,Value.agg ⟨[.int .i64 br,.int .i64 bc,.slice b1 m1 d1,.slice b2 m2 d2,.slice b3 m3 d3]⟩),(20,1,.int .i64 1),(23,1,.int .i64 1)]) 0 12 [.int .i64 k,.int .i64 n,.int .i64 src,.int .i64 len,.slice ad nd cd,.int .i64 gn,.slice ae ne ce,.int .i64 R,.int .i64 C,.int .i64 M,.int .i64 lim,.slice ac nc cc] [.int .i64 0,.int .i64 0,.int .i64 0,.int .i64 0,.slice none 0 0,.int .i64 0,.slice none 0 0,.int .i64 0,.int .i64 0,.int .i64 0,.int .i64 0,.slice none 0 0,.int .i64 0,.int .i64 0,.int .i64 0,.int .i64 0,.slice none 0 0,.slice none 0 0,.slice none 0 0,.slice none 0 0,.int .i64 0,.slice none 0 0,.slice none 0 0,.int .i64 0,.int .i64 0,.int .i64 0,.int .i64 0,.slice none 0 0,.slice none 0 0,.slice none 0 0,.int .i64 0,.int .i64 0,.slice none 0 0,.slice none 0 0,.slice none 0 0,.int .i64 0,.bool false,.bool false,.slice none 0 0,.slice none 0 0,.int .i64 0,.bool false,.slice none 0 0,.int .i64 0,.bool false]).bind fun l=>.ok (Value.agg ⟨l⟩)) = .ok (Value.agg ⟨wk (rwk0 I J k n src len gn R C M lim br bc ad ae ac b1 b2 b3 nd cd ne ce nc cc m1 d1 m2 d2 m3 d3)⟩):=rfl
theorem rwk0_v {I J k n src len gn R C M lim br bc:Int} {ad ae ac b1 b2 b3:Option Addr} {nd cd ne ce nc cc m1 d1 m2 d2 m3 d3:Nat}:zC (.agg ⟨wk (rwk0 I J k n src len gn R C M lim br bc ad ae ac b1 b2 b3 nd cd ne ce nc cc m1 d1 m2 d2 m3 d3)⟩)=wk (rwk0 I J k n src len gn R C M lim br bc ad ae ac b1 b2 b3 nd cd ne ce nc cc m1 d1 m2 d2 m3 d3):=rfl
theorem rwk0_c {I J k n src len gn R C M lim br bc:Int} {ad ae ac b1 b2 b3:Option Addr} {nd cd ne ce nc cc m1 d1 m2 d2 m3 d3:Nat}:zV (wk (rwk0 I J k n src len gn R C M lim br bc ad ae ac b1 b2 b3 nd cd ne ce nc cc m1 d1 m2 d2 m3 d3))=true:=rfl
theorem wk_set21 {c:Nat→Value} {v:Value}:(wk c).set 21 v=wk (upd c 21 v):=rfl
theorem wk_set42 {c:Nat→Value} {v:Value}:(wk c).set 42 v=wk (upd c 42 v):=rfl
theorem mks_v {R:Nat} (h:R≤8):∃ l,vMks [.int .i64 0,.slice none 0 0] (.int .i64 (R:Int)) (.int .i64 (R:Int)) = .ok (.slice (.cells l false) R R):=by
 have:R=0∨R=1∨R=2∨R=3∨R=4∨R=5∨R=6∨R=7∨R=8:=by omega
 rcases this with rfl | rfl | rfl | rfl | rfl | rfl | rfl | rfl | rfl <;> exact ⟨_,rfl⟩
theorem wk_wr25 {c:Nat→Value} {h:Hp} {b:Nat} {v0 v1 v2 v3 v4:Value} {k:Hp→Prop}:RK (wrO (some (.cells (wk c) false)) h b 25 [v0,v1,v2,v3,v4]) k↔zV [v0,v1,v2,v3,v4]=true∧k (hset h b (.cells (wk (updL c 25 [v0,v1,v2,v3,v4])) false)):=wrO_nk.trans ⟨fun x=>⟨x.1,x.2.2⟩,fun x=>⟨x.1,by show 30≤45; omega,x.2⟩⟩
theorem wk_wr30 {c:Nat→Value} {h:Hp} {b:Nat} {v0 v1 v2 v3 v4:Value} {k:Hp→Prop}:RK (wrO (some (.cells (wk c) false)) h b 30 [v0,v1,v2,v3,v4]) k↔zV [v0,v1,v2,v3,v4]=true∧k (hset h b (.cells (wk (updL c 30 [v0,v1,v2,v3,v4])) false)):=wrO_nk.trans ⟨fun x=>⟨x.1,x.2.2⟩,fun x=>⟨x.1,by show 35≤45; omega,x.2⟩⟩
theorem wk_ld25 {c:Nat→Value} {v0 v1 v2 v3 v4:Value}:zAL (some 5) 25 (wk (updL c 25 [v0,v1,v2,v3,v4])) = .ok (.agg ⟨[v0,v1,v2,v3,v4]⟩):=rfl
theorem rwnew_c {s:Bool} {x:Stp} {i j:Int} {vd ve vc:Value} {h:Hp} {nx:Nat} (H:StpIs h nx x vd ve vc) (hn:x.n≤60∨4096<x.n) :
  Cv Q O s 11 [.agg ⟨stpV x vd ve vc⟩,.int .i64 i,.int .i64 j] h nx (NewK (newE x i j) nx h):=by
 refine rwnewv ?_;obtain ⟨ad,cd,rfl,_⟩:=id H.d;obtain ⟨ae,ce,rfl,_⟩:=id H.e;obtain ⟨ac,cc,rfl⟩:=H.c;have K0:∀ {o},Keep nx h (hset h nx o):=(Keep.refl _ _).set (Nat.le_refl _);have H1:∀ {o},StpIs (hset h nx o) (nx+1) x _ _ _:=fun {o}=>H.keep (K0 (o:=o)) (by omega);unfold stpV at *
 unfold rwnew aF bF cF iV lA lF pC;simp (disch:=omega) only [SS,seval];refine (zJN H1).mono ?_;rintro _ h1 n1 ⟨rfl,hk1,hle1⟩;have g0:=hk1 nx (by omega);rw [hnew] at g0;have K1:Keep nx h h1:=K0.trans hk1 (by omega)
 by_cases h0:stpE x=0
 case neg =>
  have hb:((stpE x == 0):Bool)=false:=beq_eq_false_iff_ne.2 h0;simp (disch:=omega) only [SS,hb,seval];have e:newE x i j=stpE x:=by unfold newE; rw [if_pos h0]
  rw [e];exact ⟨⟨none,rfl,by simp [h0]⟩,K1,by omega⟩
 have hE:newE x i j=if i<0∨x.R≤i∨j<0∨x.C≤j then 3 else 0:=by unfold newE; rw [if_neg (by simp [h0])]
 rw [h0,hE];have bad:i<0∨x.R≤i∨j<0∨x.C≤j→∀ y1 y2 y3,zDb s (NewK (if i<0∨x.R≤i∨j<0∨x.C≤j then 3 else 0) nx h) y1 y2 y3 (.bool true) h1 n1:=fun hb y1 y2 y3=>by
  unfold zDb aF bF cF dF gA gL iV lA lF nC nS pC;rw [if_pos hb];exact ⟨⟨none,rfl,by simp⟩,K1,by omega⟩
 simp (disch:=omega) only [SS,g0,seval];refine ⟨fun hb=>bad (by omega) _ _ _,fun hi0=>⟨fun hb=>bad (by omega) _ _ _,fun hi1=>⟨fun hb=>bad (by omega) _ _ _,fun hj0=>?_⟩⟩⟩
 by_cases h4:x.C≤j
 ·rw [show (!decide (j<x.C))=true by rw [decide_eq_false (by omega)]; rfl];exact bad (by omega) _ _ _
 rw [show (!decide (j<x.C))=false by rw [decide_eq_true (by omega)]; rfl,if_neg (by omega)];obtain ⟨q1,q2,q3,q4,q5,q6,q7,q8,q9,q10⟩:=zP7 h0;obtain ⟨I,rfl⟩:∃ I:Nat,i=I:=⟨i.toNat,by omega⟩
 obtain ⟨J,rfl⟩:∃ J:Nat,j=J:=⟨j.toNat,by omega⟩
 obtain ⟨N,hN⟩:∃ N:Nat,x.n=N:=⟨x.n.toNat,by omega⟩
 obtain ⟨R,hR⟩:∃ R:Nat,x.R=R:=⟨x.R.toNat,by omega⟩
 obtain ⟨C,hC⟩:∃ C:Nat,x.C=C:=⟨x.C.toNat,by omega⟩
 have hGN:x.gn.toNat=N:=by omega
 unfold zDb aF bF cF dF gA gL iV lA lF nC nS pC;simp (disch:=omega) only [SS,g0,seval];refine (zNo (H.d.keep K1 (by omega)) (H.e.keep K1 (by omega)) H.l q1).mono ?_;rw [hGN];rintro _ h2 n2 ⟨m,ts,rfl,hM,hRm,hk2,hle2⟩;have hRm0:=hRm;obtain ⟨b1,sp1,nn1,a2',n2',c2',a4',n4',c4',rfl⟩:=hRm.is.form;have g2:=(hk2 nx (by omega)).trans g0;have K2:Keep nx h h2:=K1.trans hk2 (by omega);simp (disch:=omega) only [SS,g2,hR,hC,seval];have K2':∀ {o o'},Keep nx h (hset (hset h2 n2 o) n2 o'):=(K2.set (by omega)).set (by omega);refine (r18cut_c (s:=true) hM (hRm0.keep (lo':=0) (hi':=n2+1) (fun d h1 h2=>by rw [hold (by omega),hold (by omega)]) (by omega) (by omega)).is (by omega) (by omega) (by omega) (by omega) (by omega) (by omega)).mono ?_;rintro vb h5 n5 ⟨hB,hk5,hle5⟩;obtain ⟨b5,sp5,nn5,a25,n25,c25,a45,n45,c45,rfl⟩:=hB.is.form;have g5:=hk5 nx (by omega);rw [hold (by omega),hold (by omega),g2] at g5;have K5:Keep nx h h5:=K2'.trans hk5 (by omega);simp (disch:=omega) only [SS,g5,g2,hR,hC,seval];refine ⟨by omega,?_⟩;rw [zPg];simp (disch:=omega) only [SS,rwk0_v,rwk0_c,g5,hR,hC,seval];generalize hc1:rwk0 _ _ _ _ _ _ _ _ _ _ _ _ _ _ _ _ _ _ _ _ _ _ _ _ _ _ _ _ _ _ _=c1;have f0:c1 0 = .int .i64 x.k:=by rw [← hc1]; rfl
 have f1:c1 1 = .int .i64 x.n:=by rw [← hc1]; rfl
 have f2:c1 2 = .int .i64 x.src:=by rw [← hc1]; rfl
 have f3:c1 3 = .int .i64 x.len:=by rw [← hc1]; rfl
 have f4:c1 4 = .slice ad x.ds.length cd:=by rw [← hc1]; rfl
 have f8:c1 8 = .int .i64 (C:Int):=by rw [← hc1]; rfl
 have f12:c1 12 = .int .i64 (I:Int):=by rw [← hc1]; rfl
 have f13:c1 13 = .int .i64 (J:Int):=by rw [← hc1]; rfl
 have f19:c1 19 = .slice none 0 0:=by rw [← hc1]; rfl
 clear hc1;obtain ⟨l0,hmk⟩:=mks_v (R:=R) (by omega);rw [hmk];simp (disch:=omega) only [SS,g5,hR,hC,wk_len,wk_set21,zLv,zLu,wk_set42,hN,seval];generalize hH7:hset (hset (hset (hset (hset (hset (hset (hset (hset h5 n5 _) (n5+1) _) n5 _) (n5+1+1) _) n5 _) (n5+1+1+1) _) n5 _) (n5+1+1+1+1) _) n5 _=H7;have hl1:=zB5 (n:=N) (k:=R) (show I≤I+1 by omega);have hl3:=zDk (n:=N) (k:=R) (by omega) (I+1);have e7:∀ d,d≠n5→d<n5→hget H7 d=hget h5 d:=fun d h1 h2=>by rw [← hH7,hold (by omega),hold (by omega),hold (by omega),hold (by omega),hold (by omega),hold (by omega),hold (by omega),hold (by omega),hold (by omega)]
 have gw7:∃ c7,hget H7 n5=some (.cells (wk c7) false)∧c7 0 = .int .i64 x.k∧c7 1 = .int .i64 x.n∧c7 2 = .int .i64 x.src∧c7 3 = .int .i64 x.len∧c7 4 = .slice ad x.ds.length cd∧c7 8 = .int .i64 (C:Int)∧c7 12 = .int .i64 (I:Int)∧c7 13 = .int .i64 (J:Int)∧c7 19 = .slice none 0 0:=by
  rw [← hH7,hnew];exact ⟨_,rfl,f0,f1,f2,f3,f4,f8,f12,f13,f19⟩
 have g7:=(e7 nx (by omega) (by omega)).trans g5;have K7:Keep nx h H7:=fun d hd=>by rw [e7 d (by omega) (by omega)]; exact K5 d hd
 clear hH7;obtain ⟨c7,gw7,x0,x1,x2,x3,x4,x8,x12,x13,x19⟩:=gw7;refine ⟨fun hJ=>?_,fun hJ=>⟨⟨_,rfl,by simp⟩,K7,by omega⟩⟩;have hNs:N≤60:=by omega
 refine (zDF (n:=N) (k:=R) (i:=I) (by omega) (by omega) (by omega) (by omega)).mono ?_;rintro _ _ _ ⟨rfl,eh,en⟩;rw [eh,en];simp (disch:=omega) only [SS,g7,hR,hN,zI (show I<1000000000000 by omega),seval];refine (zDF (n:=N) (k:=R) (i:=I+1) (by omega) (by omega) (by omega) (by omega)).mono ?_;rintro _ _ _ ⟨rfl,eh,en⟩;rw [eh,en];obtain ⟨m,hm⟩:∃ m,lowN N R (I+1)=lowN N R I+m:=⟨lowN N R (I+1)-lowN N R I,by omega⟩
 generalize lowN N R I=L at hm hl1 hl3 ⊢;rw [hm];simp (disch:=omega) only [SS,g7,hN,seval];have hdS:SlRd H7 (n5+1+1+1+1+1) (.slice ad x.ds.length cd) za x.ds:=H.d.keep K7 (by omega);rw [hN] at q2;refine (rbegin_c (m:=m) (low:=L) hdS q2 (by omega) (by omega) (by omega)).mono ?_;rintro vs h8 n8 ⟨hS,hk8,hle8⟩;have hS0:=hS;obtain ⟨va,vb,vo,rfl,S1,S2,S3⟩:=hS;obtain ⟨sa1,sc1,rfl,_⟩:=id S1;obtain ⟨sa2,sc2,rfl,_⟩:=id S2;obtain ⟨sa3,sc3,rfl,_⟩:=id S3;have gw8:=(hk8 n5 (by omega)).trans gw7;simp (disch:=omega) only [SS,gw8,wk_wr25,wk_wr30,wk_ld25,seval];refine ⟨by omega,?_⟩;generalize hcc:updL (updL c7 25 _) 30 _=c9;have y0:c9 0 = .int .i64 x.k:=by rw [← hcc]; exact x0
 have y1:c9 1 = .int .i64 (N:Int):=by rw [← hcc,← hN]; exact x1
 have y2:c9 2 = .int .i64 x.src:=by rw [← hcc]; exact x2
 have y3:c9 3 = .int .i64 x.len:=by rw [← hcc]; exact x3
 have y4:c9 4 = .slice ad x.ds.length cd:=by rw [← hcc]; exact x4
 have y8:c9 8 = .int .i64 (C:Int):=by rw [← hcc]; exact x8
 have y12:c9 12 = .int .i64 (I:Int):=by rw [← hcc]; exact x12
 have y13:c9 13 = .int .i64 (J:Int):=by rw [← hcc]; exact x13
 have y19:c9 19 = .slice none 0 0:=by rw [← hcc]; exact x19
 have y33:Value.agg ⟨[c9 30,c9 31,c9 32,c9 33,c9 34]⟩ = .agg ⟨[.int .i64 (L:Int),.int .i64 ((L+m:Nat):Int),.slice sa1 (rmap m fun i=>rA x.k x.src ((L+i:Nat):Int)).length sc1,.slice sa2 (rmap m fun _=>-1).length sc2,.slice sa3 (wds m fun i=>rQ x.k x.src ((L+i:Nat):Int)).length sc3]⟩:=by rw [← hcc]; rfl
 refine (rwvote_c (A:=rmap m fun i=>rA x.k x.src ((L+i:Nat):Int)) (B:=rmap m fun _=>-1) (q:=fun i=>rQ x.k x.src ((L+i:Nat):Int)) (pw:=n5) (nx:=n8) (C:=C) (i:=I) (j:=J) (n:=(N:Int)) (l:=[]) (P:=fun _=>False) (ds:=x.ds) (low:=L) (m:=m) (hnew _ _ _) (by omega) (by omega) (by omega) (by omega) (by omega) y12 y13 y8 (.inl ⟨rfl,y19⟩) (fun _ h=>h.elim) (by show 0≤1000; omega) y0 y1 y2 y3 ?_ q2 (by omega) (by omega) (by omega) ?_ (zBn _ _) (zBn _ _)).mono ?_
 ·rw [y4];exact H.d.keep (nx':=n8) (fun d hd=>by rw [hold (by omega),hold (by omega),hk8 d (by omega)]; exact K7 d hd) (by omega)
 ·rw [y33];exact (hS0.wid (lo':=n5+1) (hi':=n8) (fun d h1 h2=>by rw [hold (by omega),hold (by omega)]) (by omega) (by omega)).rd
 rintro _ h9 n9 ⟨rfl,⟨v',P',hw9,S9,hP9⟩,hf9,hle9⟩;refine ⟨⟨_,rfl,by simp⟩,fun d hd=>?_,by omega⟩;rw [hf9 d (by omega) (by omega) (fun h=>h),hold (by omega),hold (by omega),hk8 d (by omega)];exact K7 d hd
theorem ptr_n:bin Q .neq 33 (.pointer none) (.pointer none) = .ok (.bool false):=by kernel_rfl
theorem ptr_s {a:Addr}:bin Q .neq 33 (.pointer (some a)) (.pointer none) = .ok (.bool true):=by kernel_rfl
theorem eq_b {b:Bool}:bin Q .eql 4 (.bool b) (.bool b) = .ok (.bool true):=by cases b <;> kernel_rfl
theorem wc_c {s:Bool} {x:Stp} {i j:Int} {chs:List (Int × Int)} {vd ve vc:Value} {h:Hp} {nx:Nat} (hlive:∀ (s:Bool) (h:Hp) (nx:Nat),Cv Q O s 9 [] h nx (zCd (.bool true) nx h)) (hd:SlRd h nx vd za x.ds) (he:SlPx h nx ve enc3 x.es) (hch:SlRd h nx vc encC chs) (hnc:chs.length=x.nch) :
  Cv Q O s 3 [.agg ⟨stpV x vd ve vc⟩,.int .i64 i,.int .i64 j] h nx (EqK (.bool true) nx h):=by
 refine zHz ?_;obtain ⟨ad,cd,rfl,_⟩:=id hd;obtain ⟨ae,ce,rfl,_⟩:=id he;obtain ⟨ac,cc,rfl,_⟩:=id hch;have K0:∀ {o},Keep nx h (hset h nx o):=(Keep.refl _ _).set (Nat.le_refl _);unfold stpV;unfold zFI aF bF iV lF nF pC;simp (disch:=omega) only [SS,seval];generalize hH:hset h nx _=H1;have g0:hget H1 nx=some (.cells (stpV x (.slice ad x.ds.length cd) (.slice ae x.es.length ce) (.slice ac chs.length cc)) false):=by rw [← hH,hnew]; rfl
 have K1:Keep nx h H1:=fun d hd=>by rw [← hH,hold (by omega)]
 clear hH;have k0t:∀ y1 y2 y3,zX s (EqK (.bool true) nx h) y1 y2 y3 (.bool true) H1 (nx+1):=fun y1 y2 y3=>by
  unfold zX bF cF dF gA iV lA;show Cv Q O s 9 _ _ _ _;refine (hlive s H1 (nx+1)).mono ?_;rintro _ _ _ ⟨rfl,rfl,rfl⟩;exact ⟨rfl,K1,by omega⟩
 have k0f:x.es.length≤60→x.ds.length≤60→(x.n≤60∨4096<x.n)→zX s (EqK (.bool true) nx h) (.int .i64 i) (.int .i64 j) (.pointer (some ⟨nx,0,none⟩)) (.bool false) H1 (nx+1):=fun h1 h2 h3=>by
  have HS:StpIs h nx x (.slice ad x.ds.length cd) (.slice ae x.es.length ce) (.slice ac chs.length cc):=⟨hd,he,⟨ac,cc,by rw [hnc]⟩,h1⟩
  unfold zX bF cF dF gA iV lA;unfold stpV at g0;simp (disch:=omega) only [SS,g0,seval];refine (wnew_c (x:=x) (chs:=chs) (HS.keep (nx':=nx+1) K1 (by omega)) (hch.keep K1 (by omega)) hnc (by omega) h3).mono ?_;rintro _ h4 n4 ⟨⟨p,rfl,hp⟩,hk4,hle4⟩;have g4:=(hk4 nx (by omega)).trans g0;have K4:Keep nx h h4:=K1.trans hk4 (by omega);simp (disch:=omega) only [SS,g4,seval];refine (rwnew_c (x:=x) (HS.keep (nx':=n4) K4 (by omega)) h3).mono ?_;rintro _ h5 n5 ⟨⟨p',rfl,hp'⟩,hk5,hle5⟩;have g5:=(hk5 nx (by omega)).trans g4;have K5:Keep nx h h5:=K4.trans hk5 (by omega);simp (disch:=omega) only [SS,seval];refine (hlive true h5 n5).mono ?_;rintro _ _ _ ⟨rfl,eh,en⟩;rw [eh,en];refine ⟨Nat.le_refl _,?_⟩;simp (disch:=omega) only [SS,g5,seval];refine (zLx (s:=true) (HS.keep (nx':=n5) K5 (by omega))).mono ?_;rintro _ h6 n6 ⟨rfl,hk6,hle6⟩;have g6:=(hk6 nx (by omega)).trans g5;have K6:Keep nx h h6:=K5.trans hk6 (by omega);refine ⟨hle6,?_⟩;simp (disch:=omega) only [SS,g6,g5,seval];refine (zJN (s:=true) (HS.keep (nx':=n6) K6 (by omega))).mono ?_;rintro _ h7 n7 ⟨rfl,hk7,hle7⟩;refine ⟨hle7,?_⟩;have K7:Keep nx h h7:=K6.trans hk7 (by omega);have b1:((stpE x == stpE x):Bool)=true:=beq_self_eq_true _;have b2:((newE x i j == newE x i j):Bool)=true:=beq_self_eq_true _;simp (disch:=omega) only [SS,b1,b2,seval];cases p with
  | none =>
   have hz:((newE x i j == 0):Bool)=false:=beq_eq_false_iff_ne.2 (hp.1 rfl);rw [ptr_n,hz];simp only [RK,eq_b];exact ⟨rfl,K7,by omega⟩
  | some a =>
   have hz:newE x i j=0:=Classical.byContradiction fun h=>by have:=hp.2 h; cases this
   have hz:((newE x i j == 0):Bool)=true:=by rw [hz]; rfl
   rw [ptr_s,hz];simp only [RK,eq_b];exact ⟨rfl,K7,by omega⟩
 refine ⟨fun _=>k0t _ _ _,fun h1=>⟨fun _=>k0t _ _ _,fun h2=>?_⟩⟩;have kf:=k0f (by omega) (by omega);have kc:(x.n≤60∨4096<x.n)→∀ b:Bool,zX s (EqK (.bool true) nx h) (.int .i64 i) (.int .i64 j) (.pointer (some ⟨nx,0,none⟩)) (.bool b) H1 (nx+1):=fun hn b=>by
  cases b with
  | true=>exact k0t _ _ _
  | false=>exact kf hn
 exact ⟨fun h3=>⟨fun h4=>k0t _ _ _,fun h4=>⟨fun _=>kc (.inr h4) _,fun _=>kf (.inr h4)⟩⟩,fun h3=>⟨fun _=>kc (.inl (by omega)) _,fun _=>kf (.inl (by omega))⟩⟩
open Go.ChangeShapes Go.WideShapes Go.ChangeAt Go.RowKit
def fld (n:String) (t:TypeId) (o b:Nat):Field:={ name:=n,type:=t,offset:=o,embedded:=false,tag := "",pkgPath := "",byteOffset:=b }
theorem w31:Tryz.prog.underlying 31=some (.struct #[fld "Plan" 25 0 0,fld "Graph" 28 5 56,fld "R" 3 7 88,fld "C" 3 8 96,fld "Room" 3 9 104,fld "Limit" 3 10 112,fld "Choices" 29 11 120]):=by kernel_rfl
theorem w25:Tryz.prog.underlying 25=some (.struct #[fld "Kind" 22 0 0,fld "N" 3 1 8,fld "Source" 3 2 16,fld "Length" 3 3 24,fld "Draws" 23 4 32]):=by kernel_rfl
theorem w109:Tryz.prog.underlying 109=some (.struct #[fld "Way" 106 0 0,fld "Form" 107 1 8]):=by kernel_rfl
theorem w29:Tryz.prog.underlying 29=some (.slice 109):=by kernel_rfl
theorem w23:Tryz.prog.underlying 23=some (.slice 2):=by kernel_rfl
theorem w22:Tryz.prog.underlying 22=some (.int .i64):=by kernel_rfl
theorem w110:Tryz.prog.underlying 106=some (.int .i64):=by kernel_rfl
theorem w111:Tryz.prog.underlying 107=some (.int .i64):=by kernel_rfl
theorem m31:Tryz.prog.cellsOf 31=12:=by kernel_rfl
theorem m25:Tryz.prog.cellsOf 25=5:=by kernel_rfl
theorem m109:Tryz.prog.cellsOf 109=2:=by kernel_rfl
theorem m29:Tryz.prog.cellsOf 29=1:=by kernel_rfl
theorem m23:Tryz.prog.cellsOf 23=1:=by kernel_rfl
theorem m22:Tryz.prog.cellsOf 22=1:=by kernel_rfl
theorem m110:Tryz.prog.cellsOf 106=1:=by kernel_rfl
theorem m111:Tryz.prog.cellsOf 107=1:=by kernel_rfl
theorem ct31:Tryz.prog.cellTypes Tryz.prog.depth 31=some [22,3,3,3,23,3,26,3,3,3,3,29]:=by kernel_rfl
theorem all109:AllI Tryz.prog 109 2:=⟨⟨_,w109,rfl,fun i f h=>by
 have hi:i<2:=(Array.getElem?_eq_some_iff.1 h).1
 match i,hi with
 | 0,_=>cases h; exact ⟨rfl,w110,m110⟩
 | 1,_=>cases h; exact ⟨rfl,w111,m111⟩⟩,m109⟩
section
variable {H:Type} {enc:TypeId × Value→H} {w:World} {sp:Nat→Bool}
theorem zR5 {t:TypeId} {fs:Array Field} {n:Nat} {cs:List Value} {d:DataW H} {ps:List MemPlace} (ht:Tryz.prog.underlying t=some (.struct fs)) (h:DataW.trod enc Tryz.prog w 0 sp true n t cs=some (d,ps)) :
  ∃ n',∀ (i:Nat) (fd:Field),fs[i]? = some fd→∃ y,DataW.trod enc Tryz.prog w 0 sp true n' fd.type ((cs.drop fd.offset).take (Tryz.prog.cellsOf fd.type))=some y:=by
 obtain ⟨xs,n',rfl,_,hlen,hxl,hall⟩:=DataW.trod_struct ht h;refine ⟨n',fun i fd hfd=>?_⟩;have hi:i<xs.length:=by rw [hxl]; exact (Array.getElem?_eq_some_iff.1 hfd).1
 exact ⟨xs[i],by rw [hall i fd hfd,List.getElem?_eq_getElem]⟩
theorem zNz {r:Reach} {b0:Nat} {v:Value} {d:DataW H} {ps:List MemPlace} (hval:Value.okWide Tryz.prog w r b0 31 v) (h:DataW.Trod enc Tryz.prog w 0 sp true 31 v d ps) :
  ∃ (x:Stp) (vd ve vc:Value) (cs:List (Int × Int)),v = .agg ⟨stpV x vd ve vc⟩∧zHP w vd za x.ds∧zHP w ve enc3 x.es∧zHP w vc enc2 cs∧x.nch=cs.length:=by
 unfold Value.okWide at hval;rw [w31] at hval;obtain ⟨cs,rfl,hsz,ts,hts,_,hcell⟩:=hval;rw [ct31] at hts;cases hts;rw [m31] at hsz;obtain ⟨l⟩:=cs
 match l,hsz with
 | [a0,a1,a2,a3,a4,a5,a6,a7,a8,a9,a10,a11],_ =>
  obtain ⟨fuel,hf⟩:=h;have hf:DataW.trod enc Tryz.prog w 0 sp true fuel 31 [a0,a1,a2,a3,a4,a5,a6,a7,a8,a9,a10,a11]=some (d,ps):=hf;obtain ⟨n,get⟩:=zR5 w31 hf;obtain ⟨⟨_,_⟩,h0⟩:=get 0 (fld "Plan" 25 0 0) rfl;obtain ⟨⟨_,_⟩,h1⟩:=get 1 (fld "Graph" 28 5 56) rfl;obtain ⟨y2,h2⟩:=get 2 (fld "R" 3 7 88) rfl;obtain ⟨y3,h3⟩:=get 3 (fld "C" 3 8 96) rfl;obtain ⟨y4,h4⟩:=get 4 (fld "Room" 3 9 104) rfl;obtain ⟨y5,h5⟩:=get 5 (fld "Limit" 3 10 112) rfl;obtain ⟨y6,h6⟩:=get 6 (fld "Choices" 29 11 120) rfl;simp only [fld] at h0 h1 h2 h3 h4 h5 h6;rw [m25] at h0;rw [n24] at h1;rw [c3] at h2 h3 h4 h5;rw [m29] at h6;obtain ⟨R,rfl⟩:=zAq u3 h2;obtain ⟨C,rfl⟩:=zAq u3 h3;obtain ⟨M,rfl⟩:=zAq u3 h4;obtain ⟨lim,rfl⟩:=zAq u3 h5;obtain ⟨n0,get0⟩:=zR5 w25 h0;obtain ⟨z0,e0⟩:=get0 0 (fld "Kind" 22 0 0) rfl;obtain ⟨z1,e1⟩:=get0 1 (fld "N" 3 1 8) rfl;obtain ⟨z2,e2⟩:=get0 2 (fld "Source" 3 2 16) rfl;obtain ⟨z3,e3⟩:=get0 3 (fld "Length" 3 3 24) rfl;obtain ⟨z4,e4⟩:=get0 4 (fld "Draws" 23 4 32) rfl;simp only [fld] at e0 e1 e2 e3 e4;rw [m22] at e0;rw [c3] at e1 e2 e3;rw [m23] at e4;obtain ⟨k,rfl⟩:=zAq w22 e0;obtain ⟨N,rfl⟩:=zAq u3 e1;obtain ⟨src,rfl⟩:=zAq u3 e2;obtain ⟨len,rfl⟩:=zAq u3 e3;obtain ⟨n1,get1⟩:=zR5 u24 h1;obtain ⟨q0,f0⟩:=get1 0 (fN) rfl;obtain ⟨q1,f1⟩:=get1 1 (fEdges) rfl;rw [show fN.type=3 from rfl,show fN.offset=0 from rfl,c3] at f0;rw [show fEdges.type=26 from rfl,show fEdges.offset=1 from rfl,n22] at f1;obtain ⟨gn,rfl⟩:=zAq u3 f0;obtain ⟨u,hu,hok⟩:=hcell 4 a4 rfl;cases hu;obtain ⟨ds,_,hd⟩:=zKv (e3:=za) (k:=1) w23 c2 (fun _=>True) (fun n c y hy=>by obtain ⟨m,hm,_⟩:=DataW.trod_int u2 hy; exact ⟨m,hm,trivial⟩) e4 hok;obtain ⟨u,hu,hok⟩:=hcell 6 a6 rfl;cases hu;obtain ⟨es,_,he⟩:=zKv (e3:=enc3) (k:=3) u22 n52 (fun _=>True) (fun n c y hy=>by obtain ⟨e,he,_⟩:=trod_tri tri52 hy; exact ⟨e,he,trivial⟩) f1 hok;obtain ⟨u,hu,hok⟩:=hcell 11 a11 rfl;cases hu;obtain ⟨cs,_,hc⟩:=zKv (e3:=enc2) (k:=2) w29 m109 (fun _=>True) (fun n c y hy=>by obtain ⟨e,he⟩:=zP1 all109 hy; exact ⟨e,he,trivial⟩) h6 hok;exact ⟨⟨k,N,src,len,ds,gn,es,R,C,M,lim,cs.length⟩,a4,a6,a11,cs,rfl,hd,he,hc,rfl⟩
end
theorem zRG:zKY Tryz.prog 9 zRT:=live_eq pok zQl live23
theorem O_ok:zF8 Tryz.prog O:=fun f g h=>by
 unfold O at h;cases h1:Nat.beq f 9 with
 | true =>
  have e:=Nat.eq_of_beq_eq_true h1;subst e;rw [h1] at h;cases h;exact zRG
 | false =>
  rw [h1] at h;cases h2:Nat.beq f 307 with
  | true =>
   have e:=Nat.eq_of_beq_eq_true h2;subst e;rw [h2] at h;cases h;exact combF_ok
  | false =>
   rw [h2] at h;cases h3:Nat.beq f 240 with
   | true =>
    have e:=Nat.eq_of_beq_eq_true h3;subst e;rw [h3] at h;cases h;exact sortT_ok
   | false=>rw [h3] at h; cases h
theorem hlive (s:Bool) (h:Hp) (nx:Nat):Cv Q O s 9 [] h nx (zCd (.bool true) nx h):=Cv.byOrc (g:=zRT) rfl (v:=.bool true) (h':=h) (nx':=nx) rfl ⟨rfl,rfl,rfl⟩
theorem walkWc {x:Stp} {vd ve vc:Value} {cs:List (Int × Int)} {i j:Int} {W:World} (hd:zHP W vd za x.ds) (he:zHP W ve enc3 x.es) (hc:zHP W vc enc2 cs) (hn:x.nch=cs.length) :
  Calls Tryz.prog 3 #[.agg ⟨stpV x vd ve vc⟩,.int .i64 i,.int .i64 j] W fun e w'=>e = .returned (.bool true)∧Below W.heap.size W w':=by
 obtain ⟨ps,v',u',t',r',h1,h2,h3,h4,h5,h6,h7,h8,h9⟩:=in_four (e3:=za) (e1:=enc3) (e2:=enc2) (e4:=za) (r:=.slice none 0 0) (rs:=[]) (fun _=>rfl) (fun _=>rfl) (fun _=>rfl) (fun _=>rfl) hd he hc (.inl ⟨rfl,rfl⟩);exact callsIn_wide.1 (run_ok (n:=0) pok O_ok ((wc_c (x:=x) (i:=i) (j:=j) hlive h6 (SlPx.of h7) h8 hn.symm).mono fun _ _ _ h=>h.1) (in_rel h1) (in_fr _) (.cons (.agg (.cons (.int _ _) (.cons (.int _ _) (.cons (.int _ _) (.cons (.int _ _) (.cons h2 (.cons (.int _ _) (.cons h3 (.cons (.int _ _) (.cons (.int _ _) (.cons (.int _ _) (.cons (.int _ _) (.cons h4 .nil))))))))))))) (.cons (.int _ _) (.cons (.int _ _) .nil))))
end Go.Proofs.YtcjochjiegiliaaGreat
