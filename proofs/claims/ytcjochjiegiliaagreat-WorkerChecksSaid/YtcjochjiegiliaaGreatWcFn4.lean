/- Parts of the proof: WcFn4: each statement zDz its own conditions. -/
import Derived.Test.YtcjochjiegiliaaGreatWcFn3
namespace Go.Proofs.YtcjochjiegiliaaGreat
open Go Go.Ax
set_option linter.unusedVariables false
set_option linter.unusedSimpArgs false
set_option maxRecDepth 1000000
theorem dcnone_c {s:Bool} {h:Hp} {nx:Nat}:Cv Q O s 137 [] h nx (fun v h' nx'=>v = .agg ⟨[.int .i64 0,.int .i64 0,.slice none 0 0,.slice (some ⟨nx+1,0,none⟩) 1 1,.slice none 0 0,.slice none 0 0]⟩∧hget h' (nx+1)=some (.cells (ints [0]) false)∧Keep nx h h'∧nx'=nx+1+1):=by
 refine dcnonev ?_;unfold dcnone iV lA nC nS;simp (disch:=omega) only [SS,seval];exact ⟨rfl,((Keep.refl _ _).set (Nat.le_refl _)).set (Nat.le_succ _) |>.set (Nat.le_refl _)⟩
structure DcL (h:Hp) (Z:Nat→Prop) (p:Nat) (x y:Int) (l1 l2 l3 l4:List Int) (v1 v2 v3 v4:Value) (b1 b3 b4:Option Nat) (b2:Nat):Prop where
 g:hget h p=some (.cells [.int .i64 x,.int .i64 y,v1,v2,v3,v4] false)
 w1:Ow h za v1 l1 b1
 g2:hget h b2=some (.cells (ints l2) false)
 e2:∃ sp,v2 = .slice (some ⟨b2,0,sp⟩) l2.length l2.length∧(sp=none∨sp=some 1)
 w3:Ow h za v3 l3 b3
 w4:Ow h za v4 l4 b4
 z1:∀ d,b1=some d→Z d
 z2:Z b2
 z3:∀ d,b3=some d→Z d
 z4:∀ d,b4=some d→Z d
 d12:b1≠some b2
 d23:b3≠some b2
 d24:b4≠some b2
 d13:∀ d,b1=some d→b3≠some d
 d14:∀ d,b1=some d→b4≠some d
 d34:∀ d,b3=some d→b4≠some d
theorem Gr.two {h:Hp} {b:Nat} {l:List Int} {sp:Option Nat} (hg:hget h b=some (.cells (ints l) false)) (hs:sp=none∨sp=some 1):Gr h za 1 (.slice (some ⟨b,0,sp⟩) l.length l.length) l (some b):=by
 rcases hs with rfl | rfl
 ·refine .part hg (by rw [zDR]; omega) ?_;rw [List.drop_zero,List.take_of_length_le (by rw [zDR]; omega),zS]
 ·exact .own (by rw [zS]; exact hg)
def zone (nx hi t0 t1 d:Nat):Prop:=nx+3≤d∧d≠nx+4∧d<hi∧¬ (t0≤d∧d<t1)
theorem dcofk0_c {s:Bool} {N:KVl} {E R:KVl} {nx hi t0 t1 q k:Nat} {x y:Int} {g:GE} {l1 l2 l3 l4:List Int} {v1 v2 v3 v4 a2 a20 a21:Value} {b1 b3 b4:Option Nat} {b2:Nat} {h:Hp} (D:DcL h (zone nx hi t0 t1) (nx+4) x y l1 l2 l3 l4 v1 v2 v3 v4 b1 b3 b4 b2)
  (hq:hget h q=some (.cells [.int .i64 (g.f:Int),.int .i64 (g.t:Int),.int .i64 g.w] false)) (hq3:b3≠some q) (hqp:q≠nx+4) (hqh:q<hi) (ht:t1≤hi) (hx:nx+4<hi) (hl:l1.length<l2.length) (hl3:l3.length≤1000) (hl4:l4.length≤1000) (hk:k≤1000)
  (hN:∀ h' hi' v3' v4' b3' b4',hi≤hi'→DcL h' (zone nx hi' t0 t1) (nx+4) x y l1 (l2.set l1.length ((l3.length+1:Nat):Int)) (l3++[(g.t:Int)]) (l4++[g.w]) v1 v2 v3' v4' b1 b3' b4' b2→(∀ d,d<hi→d≠nx+4→¬ zone nx hi t0 t1 d→hget h' d=hget h d) →
   N [a2,.pointer (some ⟨nx+4,0,none⟩),a20,a21,.int .i64 ((k+1:Nat):Int)] h' hi') :
  zHj s N E R a2 (.pointer (some ⟨nx+4,0,none⟩)) (.pointer (some ⟨q,0,none⟩)) a20 a21 (.int .i64 (k:Int)) h hi:=by
 obtain ⟨a3,c3,rfl⟩:=D.w3.form;obtain ⟨a4,c4,rfl⟩:=D.w4.form;obtain ⟨a1,c1,rfl⟩:=D.w1.form;obtain ⟨sp,rfl,hsp⟩:=D.e2;have gp:=D.g;unfold zHj aF bF iV lF nF xF;simp (disch:=omega) only [SS,gp,hq,seval];refine zBM (D.w3.gr.keep fun d hd=>by have:=(D.z3 d hd).2.2.1; rw [hold (by omega)]) (hnew _ _ _) (by omega) fun h1 hn1 hf1=>?_;have f1:∀ d,d<hi→b3≠some d→hget h1 d=hget h d:=fun d hd hb=>by rw [hf1 d (by omega) hb,hold (by omega)]
 have np:∀ {b:Option Nat},(∀ d,b=some d→zone nx hi t0 t1 d)→b≠some (nx+4):=fun hz e=>absurd rfl (hz _ e).2.1;have gp1:=(f1 (nx+4) hx (np D.z3)).trans gp;have gq1:=(f1 q hqh hq3).trans hq;simp (disch:=omega) only [SS,gp1,gq1,seval];refine zBM ((D.w4.gr.keep (h':=hset (hset h1 (nx+4) _) (hi+1+1) _) fun d hd=>by
  have hz:=D.z4 d hd;rw [hold (by have:=hz.2.2.1; omega),hold hz.2.1];exact f1 d hz.2.2.1 fun e=>D.d34 d e hd)) (hnew _ _ _) (by omega) fun h2 hn2 hf2=>?_
 have f2:∀ d,d<hi+1+1→d≠nx+4→b4≠some d→hget h2 d=hget h1 d:=fun d hd hne hb=>by rw [hf2 d (by omega) hb,hold (by omega),hold hne]
 have gp2:hget h2 (nx+4)=some (.cells [.int .i64 x,.int .i64 y,.slice a1 l1.length c1,.slice (some ⟨b2,0,sp⟩) l2.length l2.length,.slice (some ⟨hi+1,0,some 1⟩) (l3.length+1) (l3.length+1),.slice a4 l4.length c4] false):=by
  rw [hf2 _ (by omega) (np D.z4),hold (by omega),hnew]
 have gs2:hget h2 b2=some (.cells (ints l2) false):=by
  have hz:=D.z2;rw [f2 b2 (by have:=hz.2.2.1; omega) hz.2.1 D.d24,f1 b2 hz.2.2.1 D.d23];exact D.g2
 have gn2:hget h2 (hi+1)=some (.cells (ints (l3++[(g.t:Int)])) false):=by
  rw [f2 (hi+1) (by omega) (by omega) (fun e=>by have:=(D.z4 _ e).2.2.1; omega)];exact hn1
 have hb2:=D.z2;have hbn:b2≠nx+4:=hb2.2.1;have hbh:b2<hi:=hb2.2.2.1;simp (disch:=omega) only [SS,gp2,gs2,zI (show k<1000000000000 by omega),seval];refine ⟨hl,hN _ _ (.slice (some ⟨hi+1,0,some 1⟩) (l3.length+1) (l3.length+1)) (.slice (some ⟨hi+1+1+1,0,some 1⟩) (l4.length+1) (l4.length+1)) (some (hi+1)) (some (hi+1+1+1)) (by omega) ?_ fun d h3 h4 h5=>?_⟩
 ·have zz:∀ d,zone nx hi t0 t1 d→zone nx (hi+1+1+1+1) t0 t1 d:=fun d hz=>⟨hz.1,hz.2.1,by have:=hz.2.2.1; omega,hz.2.2.2⟩
  exact {
   g:=by rw [hold (by omega),hnew]
   w1:=D.w1.keep fun d hd=>by
    have hz:=D.z1 d hd;have:=hz.2.2.1;have hne:d≠b2:=fun e=>D.d12 (by rw [← e]; exact hd);rw [hold hne,hold hz.2.1,f2 d (by omega) hz.2.1 (D.d14 d hd),f1 d (by omega) (D.d13 d hd)]
   g2:=by rw [hnew]
   e2:=⟨sp,by rw [List.length_set],hsp⟩
   w3:=.inr ⟨hi+1,rfl,by rw [List.length_append]; rfl,by rw [hold (by omega),hold (by omega),zS]; exact gn2⟩
   w4:=.inr ⟨hi+1+1+1,rfl,by rw [List.length_append]; rfl,by rw [hold (by omega),hold (by omega),zS]; exact hn2⟩
   z1:=fun d hd=>zz d (D.z1 d hd)
   z2:=zz _ hb2
   z3:=fun d hd=>by cases hd; exact ⟨by omega,by omega,by omega,by omega⟩
   z4:=fun d hd=>by cases hd; exact ⟨by omega,by omega,by omega,by omega⟩
   d12:=D.d12
   d23:=fun e=>by cases e; omega
   d24:=fun e=>by cases e; omega
   d13:=fun d hd e=>by cases e; have:=(D.z1 _ hd).2.2.1; omega
   d14:=fun d hd e=>by cases e; have:=(D.z1 _ hd).2.2.1; omega
   d34:=fun d hd e=>by cases hd; cases e }
 ·have hne:d≠b2:=fun e=>h5 (by rw [e]; exact hb2);rw [hold hne,hold h4,f2 d (by omega) h4 (fun e=>h5 (D.z4 d e)),f1 d h3 (fun e=>h5 (D.z3 d e))]
theorem dcofk1_c {s:Bool} {N:KVl} {E R:KVl} {nx hi t0 t1 q k:Nat} {x y:Int} {g:GE} {l1 l2 l3 l4:List Int} {v1 v2 v3 v4 a2 a20 a21:Value} {b1 b3 b4:Option Nat} {b2:Nat} {h:Hp} (D:DcL h (zone nx hi t0 t1) (nx+4) x y l1 l2 l3 l4 v1 v2 v3 v4 b1 b3 b4 b2)
  (hq:hget h q=some (.cells [.int .i64 (g.f:Int),.int .i64 (g.t:Int),.int .i64 g.w] false)) (hq1:b1≠some q) (hq2:b2≠q) (hqp:q≠nx+4) (hqh:q<hi) (ht:t1≤hi) (hx:nx+4<hi) (hl1:l1.length≤1000) (hl2:l2.length≤1001)
  (hN:∀ h' hi' v1' v2' b1' b2',hi≤hi'→DcL h' (zone nx hi' t0 t1) (nx+4) x y (l1++[(g.f:Int)]) (l2++[0]) l3 l4 v1' v2' v3 v4 b1' b3 b4 b2'→hget h' q=some (.cells [.int .i64 (g.f:Int),.int .i64 (g.t:Int),.int .i64 g.w] false)→(∀ d,d<hi→d≠nx+4→¬ zone nx hi t0 t1 d→hget h' d=hget h d) →
   zHj s N E R a2 (.pointer (some ⟨nx+4,0,none⟩)) (.pointer (some ⟨q,0,none⟩)) a20 a21 (.int .i64 (k:Int)) h' hi') :
  zGk s N E R a2 (.pointer (some ⟨nx+4,0,none⟩)) (.pointer (some ⟨q,0,none⟩)) a20 a21 (.int .i64 (k:Int)) (.bool true) h hi:=by
 obtain ⟨a3,c3,rfl⟩:=D.w3.form;obtain ⟨a4,c4,rfl⟩:=D.w4.form;obtain ⟨a1,c1,rfl⟩:=D.w1.form;obtain ⟨sp,rfl,hsp⟩:=D.e2;have gp:=D.g;unfold zGk aF iV lF;simp (disch:=omega) only [SS,gp,hq,seval];refine zBM (D.w1.gr.keep fun d hd=>by have:=(D.z1 d hd).2.2.1; rw [hold (by omega)]) (hnew _ _ _) (by omega) fun h1 hn1 hf1=>?_;have f1:∀ d,d<hi→b1≠some d→hget h1 d=hget h d:=fun d hd hb=>by rw [hf1 d (by omega) hb,hold (by omega)]
 have np:∀ {b:Option Nat},(∀ d,b=some d→zone nx hi t0 t1 d)→b≠some (nx+4):=fun hz e=>absurd rfl (hz _ e).2.1;have gp1:=(f1 (nx+4) hx (np D.z1)).trans gp;have hbn:b2≠nx+4:=D.z2.2.1;have hbh:b2<hi:=D.z2.2.2.1;simp (disch:=omega) only [SS,gp1,seval];have gr2:∀ {o o':AObj},Gr (hset (hset h1 (nx+4) o) (hi+1+1) o') za 1 (.slice (some ⟨b2,0,sp⟩) l2.length l2.length) l2 (some b2):=fun {o o'}=>Gr.two (by rw [hold (by omega),hold hbn,f1 b2 hbh D.d12]; exact D.g2) hsp;refine zBM gr2 (hnew _ _ _) (by omega) fun h2 hn2 hf2=>?_;have f2:∀ d,d<hi+1+1→d≠nx+4→d≠b2→hget h2 d=hget h1 d:=fun d hd hne hb=>by rw [hf2 d (by omega) (fun e=>hb (by cases e; rfl)),hold (by omega),hold hne]
 have gp2:hget h2 (nx+4)=some (.cells [.int .i64 x,.int .i64 y,.slice (some ⟨hi+1,0,some 1⟩) (l1.length+1) (l1.length+1),.slice (some ⟨b2,0,sp⟩) l2.length l2.length,.slice a3 l3.length c3,.slice a4 l4.length c4] false):=by
  rw [hf2 _ (by omega) (fun e=>hbn (by cases e; rfl)),hold (by omega),hnew]
 simp (disch:=omega) only [SS,gp2,seval];have zz:∀ d,zone nx hi t0 t1 d→zone nx (hi+1+1+1+1) t0 t1 d:=fun d hz=>⟨hz.1,hz.2.1,by have:=hz.2.2.1; omega,hz.2.2.2⟩
 have old:∀ d,zone nx hi t0 t1 d→b1≠some d→d≠b2→∀ {o:AObj},hget (hset h2 (nx+4) o) d=hget h d:=fun d hz h1' h2' {o}=>by
  have:=hz.2.2.1;rw [hold hz.2.1,f2 d (by omega) hz.2.1 h2',f1 d hz.2.2.1 h1']
 refine hN _ _ (.slice (some ⟨hi+1,0,some 1⟩) (l1.length+1) (l1.length+1)) (.slice (some ⟨hi+1+1+1,0,some 1⟩) (l2.length+1) (l2.length+1)) (some (hi+1)) (hi+1+1+1) (by omega) ?_ ?_ fun d h3 h4 h5=>?_
 ·exact {
   g:=by rw [hnew]
   w1:=.inr ⟨hi+1,rfl,by rw [List.length_append]; rfl,by rw [hold (by omega),f2 (hi+1) (by omega) (by omega) (by omega),zS]; exact hn1⟩
   g2:=by rw [hold (by omega)]; exact hn2
   e2:=⟨some 1,by rw [List.length_append]; rfl,.inr rfl⟩
   w3:=D.w3.keep fun d hd=>old d (D.z3 d hd) (fun e=>D.d13 d e hd) (fun e=>D.d23 (by rw [← e]; exact hd))
   w4:=D.w4.keep fun d hd=>old d (D.z4 d hd) (fun e=>D.d14 d e hd) (fun e=>D.d24 (by rw [← e]; exact hd))
   z1:=fun d hd=>by cases hd; exact ⟨by omega,by omega,by omega,by omega⟩
   z2:=⟨by omega,by omega,by omega,by omega⟩
   z3:=fun d hd=>zz d (D.z3 d hd)
   z4:=fun d hd=>zz d (D.z4 d hd)
   d12:=fun e=>by cases e
   d23:=fun e=>by have:=(D.z3 _ e).2.2.1; omega
   d24:=fun e=>by have:=(D.z4 _ e).2.2.1; omega
   d13:=fun d hd e=>by cases hd; have:=(D.z3 _ e).2.2.1; omega
   d14:=fun d hd e=>by cases hd; have:=(D.z4 _ e).2.2.1; omega
   d34:=D.d34 }
 ·rw [hold hqp,f2 q (by omega) hqp (Ne.symm hq2),f1 q hqh hq1]; exact hq
 ·rw [hold h4,f2 d (by omega) h4 (fun e=>h5 (by rw [e]; exact D.z2)),f1 d h3 (fun e=>h5 (D.z1 d e))]
def ColsIs (h:Hp) (lo hi:Nat) (v:Value) (r c:Nat) (ts:List GE):Prop :=
 ∃ v1 v2 v3 v4,v = .agg ⟨[.int .i64 (r:Int),.int .i64 (c:Int),v1,v2,v3,v4]⟩∧ColN h lo hi v1 (dcA ts)∧(∃ b sp,v2 = .slice (some ⟨b,0,sp⟩) (dcS ts).length (dcS ts).length∧lo≤b∧b<hi∧hget h b=some (.cells (ints (dcS ts)) false))∧ColN h lo hi v3 (tsT ts)∧ColN h lo hi v4 (tsW ts)
def DcJ (nx t0 t1:Nat) (x y:Int) (w:Value) (ts:List GE) (h0:Hp) (m:Nat) (vs:List Value) (h':Hp) (hi:Nat):Prop :=
 ∃ (k:Nat) (v1 v2 v3 v4:Value) (b1 b3 b4:Option Nat) (b2:Nat),m=ts.length-k∧k≤ts.length∧vs=[.pointer (some ⟨nx+1,0,none⟩),.pointer (some ⟨nx+4,0,none⟩),w,.int .i64 (ts.length:Int),.int .i64 (k:Int)] ∧
  DcL h' (zone nx hi t0 t1) (nx+4) x y (dcA (ts.take k)) (dcS (ts.take k)) (tsT (ts.take k)) (tsW (ts.take k)) v1 v2 v3 v4 b1 b3 b4 b2∧(∀ d,d<t1→d≠nx+4→¬ zone nx t1 t0 t1 d→hget h' d=hget h0 d)∧t1≤hi
theorem dcA_last {p:List GE} {x:Int} {n:Nat} (hn:(dcA p).length=n+1) (hx:(dcA p)[n]? = some x):∃ a:Nat,(ats p).getLast? = some a∧x=(a:Int):=by
 unfold dcA at hx hn;rw [List.length_map] at hn;rw [List.getElem?_map] at hx;obtain ⟨a,h1,h2⟩:=Option.map_eq_some_iff.1 hx;refine ⟨a,?_,h2.symm⟩;rw [List.getLast?_eq_getElem?,hn]; exact h1
theorem dcof_c {s:Bool} {r c:Nat} {ts:List GE} {v:Value} {h:Hp} {nx:Nat} (M:MOk r c ts) (hv:RowsIs h nx v r c ts) :
  Cv Q O s 53 [v] h nx (fun v' h' nx'=>∃ ts',zSl ts ts'∧MOk c r ts'∧ColsIs h' nx nx' v' r c ts'∧Keep nx h h'∧nx≤nx'):=by
 refine dcofv ?_;have hv0:=hv;obtain ⟨vb,vsp,vn,a2,m2,c2,a3,m3,c3,rfl⟩:=hv.form;have hr:=M.hr;have hc:=M.hc;have hl:=M.len;unfold dcof aF cF gL iV lA lF nC nF nS pC;simp (disch:=omega) only [SS,seval];have K0:∀ {o o'},Keep nx h (hset (hset h nx o) (nx+1) o'):=((Keep.refl _ _).set (Nat.le_refl _)).set (Nat.le_succ _);refine dcnone_c.mono ?_;rintro _ h1 _ ⟨rfl,gs1,hk1,rfl⟩;have g0:=hk1 nx (by omega);rw [hold (by omega),hnew] at g0;have g1:=hk1 (nx+1) (by omega);rw [hnew] at g1;have K1:Keep nx h h1:=K0.trans hk1 (by omega);simp (disch:=omega) only [SS,g0,seval];have K2:∀ {o o'},Keep nx h (hset (hset h1 (nx+1+1+1+1) o) (nx+1+1+1+1) o'):=(K1.set (by omega)).set (by omega);refine (zGp M ((hv0.keep K2 (Nat.le_refl _)).keep (Keep.refl _ _) (by omega))).mono ?_;rintro _ h2 n2 ⟨rfl,hk2,hle2⟩;have f0:=hk2 nx (by omega);rw [hold (by omega),hold (by omega),g0] at f0;have f1:=hk2 (nx+1) (by omega);rw [hold (by omega),hold (by omega),g1] at f1;have fs:=hk2 (nx+1+1+1) (by omega);rw [hold (by omega),hold (by omega),gs1] at fs;have fp:=hk2 (nx+1+1+1+1) (by omega);rw [hnew] at fp;have K3:Keep nx h h2:=K2.trans hk2 (by omega);simp (disch:=omega) only [SS,f0,fp,seval];have K4:∀ {o o'},Keep nx h (hset (hset h2 (nx+1+1+1+1) o) (nx+1+1+1+1) o'):=(K3.set (by omega)).set (by omega);refine (csturn_c M ((hv0.keep K4 (Nat.le_refl _)).keep (Keep.refl _ _) (by omega))).mono ?_;rintro v3 h3 n3 ⟨ts',hT,M',hR,hk3,hle3⟩;refine (zGo M' hR.is).mono ?_;rintro w h4 n4 ⟨hS,hk4,hle4⟩;have hk34:Keep n2 _ h4:=hk3.trans hk4 hle3;have e0:=hk34 nx (by omega);rw [hold (by omega),hold (by omega),f0] at e0;have e1:=hk34 (nx+1) (by omega);rw [hold (by omega),hold (by omega),f1] at e1;have es:=hk34 (nx+1+1+1) (by omega);rw [hold (by omega),hold (by omega),fs] at es;have ep:=hk34 (nx+1+1+1+1) (by omega);rw [hnew] at ep;have K5:Keep nx h h4:=K4.trans (hk34.mono (by omega)) (by omega);have hl':=M'.len;obtain ⟨wa,wc,rfl⟩:=(SlX.of hS).form;simp (disch:=omega) only [SS,seval];have D0:DcL h4 (zone nx n4 n3 n4) (nx+4) (r:Int) (c:Int) (dcA (ts'.take 0)) (dcS (ts'.take 0)) (tsT (ts'.take 0)) (tsW (ts'.take 0)) (.slice none 0 0) (.slice (some ⟨nx+1+1+1,0,none⟩) 1 1) (.slice none 0 0) (.slice none 0 0) none none none (nx+1+1+1):={
  g:=ep
  w1:=.inl ⟨rfl,rfl,rfl⟩
  g2:=es
  e2:=⟨none,rfl,.inl rfl⟩
  w3:=.inl ⟨rfl,rfl,rfl⟩
  w4:=.inl ⟨rfl,rfl,rfl⟩
  z1:=fun d e=>by cases e
  z2:=⟨by omega,by omega,by omega,by omega⟩
  z3:=fun d e=>by cases e
  z4:=fun d e=>by cases e
  d12:=fun e=>by cases e
  d23:=fun e=>by cases e
  d24:=fun e=>by cases e
  d13:=fun d e=>by cases e
  d14:=fun d e=>by cases e
  d34:=fun d e=>by cases e }
 refine Lp.mk (DcJ nx n3 n4 (r:Int) (c:Int) (.slice wa ts'.length wc) ts' h4) ts'.length ⟨0,_,_,_,_,_,_,_,_,by omega,by omega,rfl,D0,fun d _ _ _=>rfl,Nat.le_refl _⟩ ?_;rintro _ _ h5 hi ⟨k,v1,v2,v3,v4,b1,b3,b4,b2,rfl,hk,rfl,D,hf5,hle5⟩;rw [dcofb0];unfold dcofl0 aF bF iV lA lF nC nF xF;simp (disch:=omega) only [SS,seval];refine ⟨fun hlt=>?_,fun hge=>?_⟩
 ·obtain ⟨g,hg⟩:=zY (show k<ts'.length by omega);rcases hS with ⟨e,_⟩ | ⟨tb,x1,x2,e,hgb⟩
  ·rw [e] at hg; cases hg
  cases e;have hgt:hget h5 tb=some (.cells (flat encG ts') false):=(hf5 tb x2 (by omega) (fun z=>z.2.2.2 ⟨x1,x2⟩)).trans hgb;obtain ⟨a1,c1,rfl⟩:=D.w1.form;have gp:=D.g;have gp4:∀ {o o'},hget (hset (hset h5 hi o) hi o') (nx+4)=some (.cells [.int .i64 (r:Int),.int .i64 (c:Int),.slice a1 (dcA (ts'.take k)).length c1,v2,v3,v4] false):=fun {o o'}=>by rw [hold (by omega),hold (by omega)]; exact gp
  simp (disch:=omega) only [SS,hgt,rdF (enc:=encG) (k:=3) (fun _=>rfl) hg,encG,gp,seval];have hkk:k<ts'.length:=by omega
  have htl:(ts'.take k).length=k:=by rw [List.length_take]; omega
  have htk:ts'.take (k+1)=ts'.take k++[g]:=by rw [List.take_add_one,hg]; rfl
  have hup:Up (ts'.take k++[g]):=by rw [← htk]; exact List.Pairwise.sublist (List.take_sublist _ _) M'.up
  have hal:=ats_len (ts'.take k);have lA:=zIh (ts'.take k);have lS:=dcS_len (ts'.take k);have lT:=zCe (ts'.take k);have lW:=zD9 (ts'.take k);have eT:tsT (ts'.take k)++[(g.t:Int)]=tsT (ts'.take (k+1)):=by rw [htk]; unfold tsT; rw [List.map_append]; rfl
  have eW:tsW (ts'.take k)++[g.w]=tsW (ts'.take (k+1)):=by rw [htk]; unfold tsW; rw [List.map_append]; rfl
  have fin:∀ {h6:Hp} {hi6:Nat} {l2:List Int} {v1 v2 v3 v4:Value} {b1 b3 b4:Option Nat} {b2:Nat} {E R:KVl},DcL h6 (zone nx hi6 n3 n4) (nx+4) (r:Int) (c:Int) (dcA (ts'.take (k+1))) l2 (tsT (ts'.take k)) (tsW (ts'.take k)) v1 v2 v3 v4 b1 b3 b4 b2 →
    l2.set (dcA (ts'.take (k+1))).length (((ts'.take k).length:Int)+1)=dcS (ts'.take (k+1))→(dcA (ts'.take (k+1))).length<l2.length→hget h6 hi=some (.cells [.int .i64 (g.f:Int),.int .i64 (g.t:Int),.int .i64 g.w] false)→b3≠some hi→hi+1≤hi6→(∀ d,d<n4→d≠nx+4→¬ zone nx n4 n3 n4 d→hget h6 d=hget h4 d) →
    zHj s (fun vs h' nx'=>∃ m',m'<ts'.length-k∧DcJ nx n3 n4 (r:Int) (c:Int) (.slice (some ⟨tb,0,some 3⟩) ts'.length ts'.length) ts' h4 m' vs h' nx') E R (.pointer (some ⟨nx+1,0,none⟩)) (.pointer (some ⟨nx+4,0,none⟩)) (.pointer (some ⟨hi,0,none⟩)) (.slice (some ⟨tb,0,some 3⟩) ts'.length ts'.length) (.int .i64 (ts'.length:Int)) (.int .i64 (k:Int)) h6 hi6:=by
   intro h6 hi6 l2 v1 v2 v3 v4 b1 b3 b4 b2 E R D6 hset hlt6 hq6 hb3 hle6 hf6;refine dcofk0_c D6 hq6 hb3 (by omega) (by omega) (by omega) (by omega) hlt6 (by omega) (by omega) (by omega) fun h7 hi7 v3' v4' b3' b4' hle7 D7 hf7=>?_;rw [eT,eW,lT,show (((ts'.take k).length+1:Nat):Int)=((ts'.take k).length:Int)+1 by omega,hset] at D7;exact ⟨ts'.length-(k+1),by omega,k+1,_,_,_,_,_,_,_,_,rfl,by omega,rfl,D7,fun d y1 y2 y3=>by
    rw [hf7 d (by omega) y2 (fun z=>y3 ⟨z.1,z.2.1,y1,z.2.2.2⟩)]; exact hf6 d y1 y2 y3,by omega⟩
  have D2:∀ {o o':AObj},DcL (hset (hset h5 hi o) hi o') (zone nx (hi+1) n3 n4) (nx+4) (r:Int) (c:Int) (dcA (ts'.take k)) (dcS (ts'.take k)) (tsT (ts'.take k)) (tsW (ts'.take k)) (.slice a1 (dcA (ts'.take k)).length c1) v2 v3 v4 b1 b3 b4 b2:=fun {o o'}=>by
   have kk:∀ d,zone nx hi n3 n4 d→hget (hset (hset h5 hi o) hi o') d=hget h5 d:=fun d hz=>by have:=hz.2.2.1; rw [hold (by omega),hold (by omega)]
   have zz:∀ d,zone nx hi n3 n4 d→zone nx (hi+1) n3 n4 d:=fun d hz=>⟨hz.1,hz.2.1,by have:=hz.2.2.1; omega,hz.2.2.2⟩
   exact ⟨by rw [hold (by omega),hold (by omega)]; exact D.g,D.w1.keep fun d hd=>kk d (D.z1 d hd),(kk b2 D.z2).trans D.g2,D.e2,D.w3.keep fun d hd=>kk d (D.z3 d hd),D.w4.keep fun d hd=>kk d (D.z4 d hd),fun d hd=>zz d (D.z1 d hd),zz b2 D.z2,fun d hd=>zz d (D.z3 d hd),fun d hd=>zz d (D.z4 d hd),D.d12,D.d23,D.d24,D.d13,D.d14,D.d34⟩
  have fr2:∀ {o o':AObj} (d:Nat),d<n4→d≠nx+4→¬ zone nx n4 n3 n4 d→hget (hset (hset h5 hi o) hi o') d=hget h4 d:=fun d y1 y2 y3=>by rw [hold (by omega),hold (by omega)]; exact hf5 d y1 y2 y3
  have nb:∀ {b:Option Nat},(∀ d,b=some d→zone nx hi n3 n4 d)→b≠some hi:=fun hz e=>by have:=(hz _ e).2.2.1; omega
  have hb2:=D.z2.2.2.1;have new:(ats (ts'.take k)).getLast?≠some g.f→∀ {E R:KVl},zGk s (fun vs h' nx'=>∃ m',m'<ts'.length-k∧DcJ nx n3 n4 (r:Int) (c:Int) (.slice (some ⟨tb,0,some 3⟩) ts'.length ts'.length) ts' h4 m' vs h' nx') E R (.pointer (some ⟨nx+1,0,none⟩)) (.pointer (some ⟨nx+4,0,none⟩)) (.pointer (some ⟨hi,0,none⟩)) (.slice (some ⟨tb,0,some 3⟩) ts'.length ts'.length) (.int .i64 (ts'.length:Int)) (.int .i64 (k:Int)) (.bool true)
    (hset (hset h5 hi (.cells [.int .i64 0,.int .i64 0,.int .i64 0] false)) hi (.cells [.int .i64 (g.f:Int),.int .i64 (g.t:Int),.int .i64 g.w] false)) (hi+1):=fun hne {E R}=>by
   have hA:ats (ts'.take (k+1))=ats (ts'.take k)++[g.f]:=by rw [htk,zC4]; unfold zEd; rw [if_neg hne]
   have hAA:dcA (ts'.take k)++[(g.f:Int)]=dcA (ts'.take (k+1)):=by unfold dcA; rw [hA,List.map_append]; rfl
   refine dcofk1_c D2 (hnew _ _ _) (nb D.z1) (by omega) (by omega) (by omega) (by omega) (by omega) (by omega) (by omega) fun h6 hi6 v1' v2' b1' b2' hle6 D6 hq6 hf6=>?_;rw [hAA] at D6;refine fin D6 ?_ ?_ hq6 (nb D.z3) (by omega) fun d y1 y2 y3=>by
    rw [hf6 d (by omega) y2 (fun z=>y3 ⟨z.1,z.2.1,y1,z.2.2.2⟩)]; exact fr2 d y1 y2 y3
   ·rw [zIh,hA,List.length_append,htk];exact dcS_new hup hne
   ·rw [zIh,hA,List.length_append,List.length_append,lS];simp
  have same:(ats (ts'.take k)).getLast? = some g.f→∀ {E R:KVl},zGk s (fun vs h' nx'=>∃ m',m'<ts'.length-k∧DcJ nx n3 n4 (r:Int) (c:Int) (.slice (some ⟨tb,0,some 3⟩) ts'.length ts'.length) ts' h4 m' vs h' nx') E R (.pointer (some ⟨nx+1,0,none⟩)) (.pointer (some ⟨nx+4,0,none⟩)) (.pointer (some ⟨hi,0,none⟩)) (.slice (some ⟨tb,0,some 3⟩) ts'.length ts'.length) (.int .i64 (ts'.length:Int)) (.int .i64 (k:Int)) (.bool false)
    (hset (hset h5 hi (.cells [.int .i64 0,.int .i64 0,.int .i64 0] false)) hi (.cells [.int .i64 (g.f:Int),.int .i64 (g.t:Int),.int .i64 g.w] false)) (hi+1):=fun he {E R}=>by
   have hA:ats (ts'.take (k+1))=ats (ts'.take k):=by rw [htk,zC4]; unfold zEd; rw [if_pos he]
   have hAA:dcA (ts'.take (k+1))=dcA (ts'.take k):=by unfold dcA; rw [hA]
   unfold zGk aF iV lF;simp (disch:=omega) only [SS,seval];refine fin (by rw [hAA]; exact D2) ?_ ?_ (hnew _ _ _) (nb D.z3) (Nat.le_refl _) fr2
   ·rw [hAA,zIh,htk];exact dcS_same hup he
   ·rw [hAA,lA,lS]; omega
  refine ⟨fun h0=>?_,fun h0=>?_⟩
  ·have h0:(dcA (ts'.take k)).length=0:=by simpa using h0
   rw [lA] at h0;exact new (by rw [List.length_eq_zero_iff.1 h0]; simp)
  ·have h0:(dcA (ts'.take k)).length≠0:=by simpa using h0
   obtain ⟨n,hn⟩:∃ n,(dcA (ts'.take k)).length=n+1:=⟨(dcA (ts'.take k)).length-1,by omega⟩
   obtain ⟨x,hx⟩:=zY (l:=dcA (ts'.take k)) (i:=n) (by omega);obtain ⟨a,ha,rfl⟩:=dcA_last hn hx;have w1:IntKind.wrap .i64 (((dcA (ts'.take k)).length:Int)-1)=(n:Int):=by
    rw [hn,show (((n+1:Nat):Int))-1=(n:Int) by omega]; exact zAf (by omega) (by omega)
   rcases D.w1 with ⟨e1,_⟩ | ⟨d1,e1,e2,g1⟩
   ·rw [e1] at h0; exact absurd rfl h0
   ·cases e2;have hz:=(D.z1 d1 e1).2.2.1;rw [zS] at g1;simp (disch:=omega) only [SS,w1,g1,zO hx,seval]
    by_cases hag:a=g.f
    ·subst hag;rw [beq_self_eq_true];exact same ha
    ·rw [show (((a:Int)) == (g.f:Int))=false from beq_eq_false_iff_ne.2 (by omega)];exact new (by rw [ha]; simpa using hag)
 ·have:k=ts'.length:=by omega
  subst this;have gp:=D.g;have q1:hget h5 (nx+1)=hget h4 (nx+1):=hf5 (nx+1) (by omega) (by omega) (fun z=>by have:=z.1; omega);rw [List.take_length] at D;obtain ⟨a1,c1,rfl⟩:=D.w1.form;obtain ⟨a4,c4,rfl⟩:=D.w3.form;obtain ⟨a5,c5,rfl⟩:=D.w4.form;obtain ⟨sp,rfl,hsp⟩:=D.e2;simp (disch:=omega) only [SS,gp,q1,e1,seval];have kz:∀ d,zone nx hi n3 n4 d→∀ {o:AObj},hget (hset h5 (nx+1) o) d=hget h5 d:=fun d hz {o}=>hold (by have:=hz.1; omega);refine ⟨ts',hT,M',⟨_,_,_,_,rfl,⟨b1,D.w1.keep fun d hd=>kz d (D.z1 d hd),fun d hd=>⟨by have:=(D.z1 d hd).1; omega,(D.z1 d hd).2.2.1⟩⟩,⟨b2,sp,rfl,by have:=D.z2.1; omega,D.z2.2.2.1,(kz b2 D.z2).trans D.g2⟩,⟨b3,D.w3.keep fun d hd=>kz d (D.z3 d hd),fun d hd=>⟨by have:=(D.z3 d hd).1; omega,(D.z3 d hd).2.2.1⟩⟩,⟨b4,D.w4.keep fun d hd=>kz d (D.z4 d hd),fun d hd=>⟨by have:=(D.z4 d hd).1; omega,(D.z4 d hd).2.2.1⟩⟩⟩,fun d hd=>?_,by omega⟩;rw [hold (by omega),hf5 d (by omega) (by omega) (fun z=>by have:=z.1; omega)];exact K5 d hd
section
variable {I:Nat→Hp→Nat→Prop} {D:Hp→Nat→Prop} {q:Nat→Bool}
theorem zR4 {k h nx} (hs:∀ k h nx,q k=false→I k h nx→I (k+1) h nx):∀ (d:Nat),(∀ i,k≤i→i<k+d→q i=false)→I k h nx→I (k+d) h nx
 | 0,_,hi=>hi
 | d+1,h0,hi=>hs _ _ _ (h0 (k+d) (by omega) (by omega)) (zR4 hs d (fun i h1 h2=>h0 i h1 (by omega)) hi)
def EgJ (I:Nat→Hp→Nat→Prop) (l n:Nat) (q:Nat→Bool) (vf:Value) (m:Nat) (vs:List Value) (h':Hp) (nx':Nat):Prop :=
 ∃ k:Nat,m=n-k∧k≤n∧vs=[.func (.yield l) ⟨[]⟩ ⟨[]⟩,.int .u64 (mk (n-k) (fun i=>q (i+k)):Int),.int .i64 (k:Int),vf,.int .i64 1,.int .i64 0]∧I k h' nx'
def EgO (I:Nat→Hp→Nat→Prop) (l n:Nat) (vf:Value) (h:Hp) (nx:Nat) (m:Nat) (vs:List Value) (h':Hp) (nx':Nat):Prop :=
 (m=1∧vs=[.func (.yield l) ⟨[]⟩ ⟨[]⟩,vf,.int .i64 1,.int .i64 0]∧h'=h∧nx'=nx)∨(m=0∧vs=[.func (.yield l) ⟨[]⟩ ⟨[]⟩,vf,.int .i64 1,.int .i64 1]∧I n h' nx')
theorem each1_g {s:Bool} {n l pc:Nat} {vf:Value} {h:Hp} {nx:Nat} (hn:n≤63) (hv:SlRd h nx vf encU [mk n q]) (hpc:hget h pc=some (.cells [vf] false)) (h0:I 0 h nx)
  (hs:∀ k h nx,q k=false→I k h nx→I (k+1) h nx)
  (hy:∀ k h nx,k<n→q k=true→I k h nx→Yv Q O s l [.int .i64 (k:Int)] h nx (fun r h' nx'=>(r = .bool true∧I (k+1) h' nx')∨(r = .bool false∧D h' nx'))) :
  Cv Q O s 277 [.func (.yield l) ⟨[]⟩ ⟨[]⟩,.pointer (some ⟨pc,0,none⟩)] h nx (fun _ h' nx'=>I n h' nx'∨D h' nx'):=by
 refine each1v ?_;obtain ⟨a,cap,rfl,hc⟩:=id hv;obtain ⟨b,sp,ro,hb,rfl,hg⟩:=hc (by simp);have hg:hget h b=some (.cells [.int .u64 (mk n q:Int)] ro):=hg;unfold each1 iV lF nF;simp (disch:=omega) only [SS,hpc,@List.length_cons Nat,@List.length_nil Nat,seval];refine Lp.mk (EgO I l n (.slice (some ⟨b,0,sp⟩) 1 cap) h nx) 1 (.inl ⟨rfl,rfl,rfl,rfl⟩) ?_;rintro m vs h' nx' (⟨rfl,rfl,eh,en⟩ | ⟨rfl,rfl,hR⟩)
 ·rw [zLS,eh,en];unfold zIf bF iV lF xF;have esh:bin Q .shl 3 (.int .i64 0) (.int .u64 6) = .ok (.int .i64 0):=rfl;simp (disch:=omega) only [SS,hg,esh,seval];refine ⟨?_,fun h=>absurd trivial h⟩;refine Lp.mk (EgJ I l n q (.slice (some ⟨b,0,sp⟩) 1 cap)) n ⟨0,by omega,by omega,rfl,h0⟩ ?_;rintro _ _ h3 nx3 ⟨k,rfl,hk,rfl,hI⟩;rw [each1b1];unfold zRg bF
  by_cases hz:mk (n-k) (fun i=>q (i+k))=0
  ·have e0:((mk (n-k) (fun i=>q (i+k)):Nat):Int)=0:=by rw [hz]; rfl
   have hI':I (k+(n-k)) h3 nx3:=zR4 hs (n-k) (fun i h1 h2=>by
    have:=mk_zero.1 hz (i-k) (by omega);rwa [show i-k+k=i by omega] at this) hI
   rw [show k+(n-k)=n by omega] at hI';simp (disch:=omega) only [SS,e0,seval];exact ⟨0,by omega,.inr ⟨rfl,rfl,hI'⟩⟩
  ·have hkn:k<n:=by
    rcases Nat.lt_or_ge k n with h | h
    ·exact h
    ·exact absurd (by rw [show n-k=0 by omega]; rfl) hz
   obtain ⟨r,hr⟩:∃ r,n-k=r+1:=⟨n-k-1,by omega⟩
   have e1:(((mk (n-k) (fun i=>q (i+k)):Nat):Int) == 0)=false:=by rw [beq_eq_false_iff_ne]; omega
   have e2:bin Q .and 221 (.int .u64 ((mk (n-k) (fun i=>q (i+k)):Nat):Int)) (.int .u64 1) = .ok (.int .u64 (if q k then 1 else 0)):=by
    rw [show (1:Int)=((1:Nat):Int) from rfl,zFs (mk64 (by omega)) (by omega),Nat.and_one_is_mod,hr,mk_odd,Nat.zero_add];cases q k <;> rfl
   have e3:mk (n-k) (fun i=>q (i+k)) / 2=mk (n-(k+1)) (fun i=>q (i+(k+1))):=by
    rw [hr,mk_shr,show n-(k+1)=r by omega];exact zGZ fun i _=>by rw [show i+1+k=i+(k+1) by omega]
   have e4:bin Q .shr 221 (.int .u64 ((mk (n-k) (fun i=>q (i+k)):Nat):Int)) (.int .u64 1) = .ok (.int .u64 ((mk (n-(k+1)) (fun i=>q (i+(k+1))):Nat):Int)):=by rw [bin_shrU,e3]
   cases hq:q k with
   | true =>
    rw [hq] at e2;simp (disch:=omega) only [SS,e1,e2,seval];show Yv Q O s l [.int .i64 (k:Int)] h3 nx3 _;refine (hy k h3 nx3 hkn hq hI).mono ?_;rintro _ h4 nx4 (⟨rfl,hI⟩ | ⟨rfl,hD⟩)
    ·simp (disch:=omega) only [SS,seval];unfold zIg bF iV;simp (disch:=omega) only [SS,e4,zI (show k<1000000000000 by omega),seval];exact ⟨n-(k+1),by omega,k+1,rfl,by omega,rfl,hI⟩
    ·simp (disch:=omega) only [SS,seval];exact .inr hD
   | false =>
    rw [hq] at e2;have e2':bin Q .and 221 (.int .u64 ((mk (n-k) (fun i=>q (i+k)):Nat):Int)) (.int .u64 1) = .ok (.int .u64 0):=e2;simp (disch:=omega) only [SS,e1,e2',seval];unfold zIg bF iV;simp (disch:=omega) only [SS,e4,zI (show k<1000000000000 by omega),seval];exact ⟨n-(k+1),by omega,k+1,rfl,by omega,rfl,hs k h3 nx3 hq hI⟩
 ·rw [zLS];unfold zIf bF iV lF xF;simp (disch:=omega) only [SS,seval];exact fun _=>.inl hR
end
def wds (n:Nat) (q:Nat→Bool):List Nat:=if n=0 then [] else [mk n q]
theorem each1_z {s:Bool} {l pc:Nat} {vf:Value} {h:Hp} {nx:Nat} (hv:SlRd h nx vf encU ([]:List Nat)) (hpc:hget h pc=some (.cells [vf] false)) :
  Cv Q O s 277 [.func (.yield l) ⟨[]⟩ ⟨[]⟩,.pointer (some ⟨pc,0,none⟩)] h nx (fun _ h' nx'=>h'=h∧nx'=nx):=by
 refine each1v ?_;obtain ⟨a,cap,rfl,hc⟩:=id hv;unfold each1 iV lF nF;simp (disch:=omega) only [SS,hpc,@List.length_nil Nat,seval];refine Lp.mk (fun m vs h' nx'=>vs=[.func (.yield l) ⟨[]⟩ ⟨[]⟩,.slice a 0 cap,.int .i64 0,.int .i64 0]∧h'=h∧nx'=nx) 0 ⟨rfl,rfl,rfl⟩ ?_;rintro m vs h' nx' ⟨rfl,eh,en⟩;rw [zLS];unfold zIf bF iV lF xF;simp (disch:=omega) only [SS,seval];exact fun _=>⟨eh,en⟩
noncomputable def nxa:Code:=(rfAt Tryz.prog 426).1
noncomputable def nxb:Code:=(rfAt Tryz.prog 426).2
def ccNa:CC:=.regO [⟨none,some 5,0,.pur (.mv (.t 8))⟩]
def ccNb:CC:=.block 1 (.seq (.regO [⟨none,some 9,0,.pur (.mv (.t 5))⟩,⟨none,some 10,0,.red (.ld none (.t 3))⟩,⟨none,some 11,0,.pur (.bin .geq 3 (.t 9) (.t 10))⟩]) (.cond (.t 11) (.seq (.regO [⟨none,some 12,0,.pur (.mv (.t 5))⟩,⟨none,none,0,.eff (.st 1 (.t 4) (.t 12))⟩]) .ret) .skip))
def cfNx (a b:Code):CF:={ res:=[.cell 4 3],body:=(.seq (.regO [aU 3 (.box (.t 1)),aU 4 (.new [.int .i64 0])]) (.seq (.seq (.regO [mV 6 0,eU 7 (.call 205 [.t 6])]) (.block 0 (.gen (.rangeFunc (.tmp 7) #[8] a b)))) (.seq (.regO [eN (.st 1 (.t 4) (.v (.int .i64 (-1))))]) .ret))) }
theorem nx_c:zK Tryz.prog 426=some (cfNx nxa nxb):=by kernel_rfl
theorem nx_a:comp Tryz.prog nxa=ccNa:=by kernel_rfl
theorem nx_b:comp Tryz.prog nxb=ccNb:=by kernel_rfl
def nxt (q:Nat→Bool) (a:Int):Nat→Int
 | 0=>-1
 | n+1=>if nxt q a n = -1 then (if q n=true∧a≤(n:Int) then (n:Int) else -1) else nxt q a n
theorem nxt_ge {q:Nat→Bool} {a:Int} {k:Nat} (h:nxt q a k≠-1):∀ d,nxt q a (k+d)=nxt q a k
 | 0=>rfl
 | d+1=>by
  have:=nxt_ge h d;show (if nxt q a (k+d) = -1 then _ else nxt q a (k+d))=_;rw [this,if_neg h]
theorem nxt_b {q:Nat→Bool} {a:Int}:∀ n,-1≤nxt q a n∧nxt q a n<n∧(nxt q a n = -1∨a≤nxt q a n)
 | 0=>⟨by unfold nxt; omega,by unfold nxt; omega,.inl rfl⟩
 | n+1=>by
  have:=nxt_b (q:=q) (a:=a) n;unfold nxt
  split
  ·split
   ·omega
   ·omega
  ·omega
def NxL (l pa pr:Nat) (tm:Tm) (a:Int) (lo:Nat) (h0 h:Hp) (nx:Nat):Prop:=hget h l=some (.loop 0 none tm [8] nxa nxb)∧hget h pa=some (.cells [.int .i64 a] false)∧hget h pr=some (.cells [.int .i64 0] false)∧(∀ c,c<lo→hget h c=hget h0 c)
def NxI (l pa pr:Nat) (tm:Tm) (a:Int) (q:Nat→Bool) (lo n1:Nat) (h0:Hp) (k:Nat) (h:Hp) (nx:Nat):Prop:=nxt q a k = -1∧NxL l pa pr tm a lo h0 h nx∧nx=n1
def NxD (l pr:Nat) (tm:Tm) (a:Int) (q:Nat→Bool) (lo n1 n:Nat) (h0:Hp) (h:Hp) (nx:Nat):Prop:=hget h l=some (.loop 2 (some .ret) tm [8] nxa nxb)∧hget h pr=some (.cells [.int .i64 (nxt q a n)] false)∧(∀ c,c<lo→hget h c=hget h0 c)∧nx=n1
theorem nx_f {s:Bool} {v5 v4 v3 v8:Value} {h:Hp} {nx:Nat} {N R:Hp→Nat→Prop}:Ax.fC Q O s [] ccNb 0 [(5,some v5),(4,some v4),(3,some v3),(8,some v8)] h nx (fun _=>N) [] (fun _=>R) =
  RK (.ok v5) fun v9=>RK (vLd none h v3) fun v10=>RK (bin Q .geq 3 v9 v10) fun v11=>IF v11 (RK (.ok v5) fun v12=>RK (vSt h 1 v4 v12) fun h5=>R h5 nx) (N h nx):=by kernel_rfl
theorem nx_y {s:Bool} {l pa pr lo n1 n:Nat} {tm:Tm} {a:Int} {q:Nat→Bool} {h0:Hp} (t3:tget tm 3 = .pointer (some ⟨pa,0,none⟩)) (t4:tget tm 4 = .pointer (some ⟨pr,0,none⟩)) (hl:l≠pa∧l≠pr∧pa≠pr∧lo≤l∧lo≤pa∧lo≤pr)
  {k:Nat} {h:Hp} {nx:Nat} (hk:k<n) (hq:q k=true) (hI:NxI l pa pr tm a q lo n1 h0 k h nx):Yv Q O s l [.int .i64 (k:Int)] h nx (fun r h' nx'=>(r = .bool true∧NxI l pa pr tm a q lo n1 h0 (k+1) h' nx')∨(r = .bool false∧NxD l pr tm a q lo n1 n h0 h' nx')):=by
 obtain ⟨h1,h2,h3,h4⟩:=hl;obtain ⟨en,⟨el,epa,epr,elo⟩,rfl⟩:=hI;refine Yv.mk el rfl (by rw [show comp Q nxa=ccNa from nx_a]; rfl) (by rw [show comp Q nxb=ccNb from nx_b]; rfl) ?_;rw [show comp Q nxa=ccNa from nx_a,show comp Q nxb=ccNb from nx_b];have F1:Fits [(4,some (.pointer (some ⟨pr,0,none⟩))),(3,some (.pointer (some ⟨pa,0,none⟩))),(8,some (.int .i64 (k:Int)))] (tset tm 8 (.int .i64 (k:Int))):=by
  have F0:Fits [] tm:=fun n y hn=>by cases hn
  have Fa:=(F0.put (some 8) (some (.int .i64 (k:Int)))).lit (t:=3) (v:=.pointer (some ⟨pa,0,none⟩)) (by show tget (tset tm 8 _) 3=_; rw [tgs,if_neg (by omega)]; exact t3);exact Fa.lit (by show tget (tset tm 8 _) 4=_; rw [tgs,if_neg (by omega)]; exact t4)
 refine Ev.regO ((zGe (k:=fun pe h1 n1=>pe=(5,some (.int .i64 (k:Int)))::[(4,some (.pointer (some ⟨pr,0,none⟩))),(3,some (.pointer (some ⟨pa,0,none⟩))),(8,some (.int .i64 (k:Int)))]∧h1=h∧n1=nx) F1 ?_).mono ?_)
 ·exact And.intro rfl (And.intro rfl rfl)
 rintro tm1 hh nn ⟨pe,F,rfl,rfl,rfl⟩;refine ⟨rfl,none,el,?_⟩;refine (fC_ok (LF:=[]) ccNb 0 _ tm1 _ _ (fun _=>fun h2 n2=>∃ st p',hget h2 l=some (.loop st p' tm [8] nxa nxb)∧NxI l pa pr tm a q lo nn h0 (k+1) (hset h2 l (.loop 0 none tm [8] nxa nxb)) n2) [] (fun _=>fun h2 n2=>∃ st p',hget h2 l=some (.loop st p' tm [8] nxa nxb)∧NxD l pr tm a q lo nn n h0 (hset h2 l (.loop 2 (some .ret) tm [8] nxa nxb)) n2) F ?_).mono ?_
 ·rw [nx_f];have g1:hget (hset hh l (.loop 1 none tm [8] nxa nxb)) pa=some (.cells [.int .i64 a] false):=by rw [hold (by omega)]; exact epa
  have g2:hget (hset hh l (.loop 1 none tm [8] nxa nxb)) pr=some (.cells [.int .i64 0] false):=by rw [hold (by omega)]; exact epr
  simp (disch:=omega) only [SS,g1,g2,seval];refine ⟨fun hg=>⟨1,none,rfl,hnew _ _ _,?_,fun c hc=>?_,rfl⟩,fun hg=>⟨1,none,rfl,?_,⟨hnew _ _ _,?_,?_,fun c hc=>?_⟩,rfl⟩⟩
  ·have e1:nxt q a (k+1)=(k:Int):=by
    show (if nxt q a k = -1 then (if q k=true∧a≤(k:Int) then (k:Int) else -1) else nxt q a k)=_;rw [if_pos en,if_pos ⟨hq,by omega⟩]
   have e2:nxt q a n=nxt q a (k+1):=by
    have:=nxt_ge (q:=q) (a:=a) (k:=k+1) (by omega) (n-(k+1));rwa [show k+1+(n-(k+1))=n by omega] at this
   rw [hold (by omega),hnew,e2,e1]
  ·rw [hold (by omega),hold (by omega),hold (by omega)]; exact elo c hc
  ·show (if nxt q a k = -1 then (if q k=true∧a≤(k:Int) then (k:Int) else -1) else nxt q a k)=_;rw [if_pos en,if_neg (by omega)]
  ·rw [hold (by omega),hold (by omega)]; exact epa
  ·rw [hold (by omega),hold (by omega)]; exact epr
  ·rw [hold (by omega),hold (by omega)]; exact elo c hc
 ·rintro x tm2 h2 n2 ⟨⟨pe2,F2,hx⟩,_⟩;cases x with
  | normal=>obtain ⟨st,p',e1,e2⟩:=hx; exact ⟨st,p',e1,.inl ⟨rfl,e2⟩⟩
  | exit i=>exact hx.elim
  | ret=>obtain ⟨st,p',e1,e2⟩:=hx; exact ⟨st,p',e1,.inr ⟨rfl,e2⟩⟩
theorem nxt_no {q:Nat→Bool} {a:Int} {k:Nat} (h:q k=false):nxt q a (k+1)=nxt q a k:=by
 show (if nxt q a k = -1 then (if q k=true∧a≤(k:Int) then (k:Int) else -1) else nxt q a k)=_
 split
 ·rename_i e; rw [if_neg (by rw [h]; simp),e]
 ·rfl
theorem ld3 {h:Hp} {p:Nat}:zEu Q h 3 ⟨p,0,none⟩=vLd none h (.pointer (some ⟨p,0,none⟩)):=by kernel_rfl
theorem resV_p {tm:Tm} {h:Hp} {p:Nat} {v:Int} (ht:tget tm 4 = .pointer (some ⟨p,0,none⟩)) (hg:hget h p=some (.cells [.int .i64 v] false)):zAj Q tm h [.cell 4 3] = .ok [.int .i64 v]:=by
 unfold zAj resV;simp only [ht];show R.bind (zEu Q h 3 ⟨p,0,none⟩) _=_;rw [ld3,vLd_p,hg];rfl
theorem nx_g {s:Bool} {v4 v3 v1 v0:Value} {h:Hp} {nx:Nat} {K:PE→Hp→Nat→Prop}:fO Q O s [⟨none,some 6,0,.pur (.mv (.t 0))⟩,⟨none,some 7,0,.eff (.call 205 [.t 6])⟩] [(4,some v4),(3,some v3),(1,some v1),(0,some v0)] h nx K =
  RK (.ok v0) fun v6=>Cv Q O s 205 [v6] h nx fun v7 h2 n2=>K [(7,some v7),(6,some v6),(4,some v4),(3,some v3),(1,some v1),(0,some v0)] h2 n2:=by kernel_rfl
theorem nx_h {s:Bool} {v4:Value} {l:PE} {h:Hp} {nx:Nat} {K:PE→Hp→Nat→Prop}:fO Q O s [⟨none,none,0,.eff (.st 1 (.t 4) (.v (.int .i64 (-1))))⟩] ((4,some v4)::l) h nx K =
  RK (vSt h 1 v4 (.int .i64 (-1))) fun h2=>K ((4,some v4)::l) h2 nx:=by kernel_rfl
theorem fnext_c {s:Bool} {n:Nat} {a:Int} {q:Nat→Bool} {v:Value} {h:Hp} {nx:Nat} (hn:n≤63) (hv:SlRd h nx v encU (wds n q)) :
  Cv Q O s 426 [v,.int .i64 a] h nx (fun r h' nx'=>r = .int .i64 (nxt q a n)∧Keep nx h h'∧nx≤nx'):=by
 refine Cv.enter rfl nx_c ?_;have F0:Fits [(1,some (.int .i64 a)),(0,some v)] (zAY [v,.int .i64 a] 0 tm0):=by
  have F:Fits [] tm0:=fun n y hn=>by cases hn
  exact (F.put (some 0) (some v)).put (some 1) (some (.int .i64 a))
 refine Ev.seq (Ev.regO ((zGe (k:=fun pe h1 n1=>pe=[(4,some (.pointer (some ⟨nx+1,0,none⟩))),(3,some (.pointer (some ⟨nx,0,none⟩))),(1,some (.int .i64 a)),(0,some v)]∧h1=hset (hset h nx (.cells [.int .i64 a] false)) (nx+1) (.cells [.int .i64 0] false)∧n1=nx+1+1) F0 ?_).mono ?_))
 ·exact And.intro rfl (And.intro rfl rfl)
 rintro tm1 h1 n1 ⟨pe,F1,rfl,rfl,rfl⟩;refine Ev.seq (Ev.seq (Ev.regO ((zGe (k:=fun pe h1 n1=>pe=[(7,some (.func (.func 277) ⟨[]⟩ ⟨[.pointer (some ⟨nx+1+1,0,none⟩)]⟩)),(6,some v),(4,some (.pointer (some ⟨nx+1,0,none⟩))),(3,some (.pointer (some ⟨nx,0,none⟩))),(1,some (.int .i64 a)),(0,some v)]∧h1=hset (hset (hset h nx (.cells [.int .i64 a] false)) (nx+1) (.cells [.int .i64 0] false)) (nx+1+1) (.cells [v] false)∧n1=nx+1+1+1) F1 ?_).mono ?_)))
 ·obtain ⟨sa,cap,rfl,hc⟩:=id hv;rw [nx_g];show Cv Q O s 205 _ _ _ _;refine eachv ?_;unfold each pC;simp (disch:=omega) only [SS,seval]
 rintro tm2 h2 n2 ⟨pe,F2,rfl,rfl,rfl⟩;refine Ev.block (Ev.rf (g:=277) (a:=⟨[]⟩) (b:=⟨[.pointer (some ⟨nx+1+1,0,none⟩)]⟩) ?_ ?_)
 ·show R.ok (tget tm2 7)=_;rw [F2 7 _ rfl]; rfl
 obtain ⟨sa,cap,rfl,hc⟩:=id hv;have t3:tget tm2 3 = .pointer (some ⟨nx,0,none⟩):=F2 3 _ rfl;have t4:tget tm2 4 = .pointer (some ⟨nx+1,0,none⟩):=F2 4 _ rfl;have hv1:SlRd (hset (hset (hset (hset h nx (.cells [.int .i64 a] false)) (nx+1) (.cells [.int .i64 0] false)) (nx+1+1) (.cells [.slice sa (wds n q).length cap] false)) (nx+1+1+1) (.loop 0 none tm2 [8] nxa nxb)) (nx+1+1+1+1) (.slice sa (wds n q).length cap) encU (wds n q):=hv.keep (fun c hc=>by rw [hold (by omega),hold (by omega),hold (by omega),hold (by omega)]) (by omega);have hp1:hget (hset (hset (hset (hset h nx (.cells [.int .i64 a] false)) (nx+1) (.cells [.int .i64 0] false)) (nx+1+1) (.cells [.slice sa (wds n q).length cap] false)) (nx+1+1+1) (.loop 0 none tm2 [8] nxa nxb)) (nx+1+1)=some (.cells [.slice sa (wds n q).length cap] false):=by rw [hold (by omega),hnew]
 have hi:NxI (nx+1+1+1) nx (nx+1) tm2 a q nx (nx+1+1+1+1) h 0 (hset (hset (hset (hset h nx (.cells [.int .i64 a] false)) (nx+1) (.cells [.int .i64 0] false)) (nx+1+1) (.cells [.slice sa (wds n q).length cap] false)) (nx+1+1+1) (.loop 0 none tm2 [8] nxa nxb)) (nx+1+1+1+1) :=
  ⟨rfl,⟨hnew _ _ _,by rw [hold (by omega),hold (by omega),hold (by omega),hnew],by rw [hold (by omega),hold (by omega),hnew],fun c hc=>by rw [hold (by omega),hold (by omega),hold (by omega),hold (by omega)]⟩,rfl⟩
 have hE:Cv Q O s 277 [.func (.yield (nx+1+1+1)) ⟨[]⟩ ⟨[]⟩,.pointer (some ⟨nx+1+1,0,none⟩)] (hset (hset (hset (hset h nx (.cells [.int .i64 a] false)) (nx+1) (.cells [.int .i64 0] false)) (nx+1+1) (.cells [.slice sa (wds n q).length cap] false)) (nx+1+1+1) (.loop 0 none tm2 [8] nxa nxb)) (nx+1+1+1+1) (fun _ h' nx'=>NxI (nx+1+1+1) nx (nx+1) tm2 a q nx (nx+1+1+1+1) h n h' nx'∨NxD (nx+1+1+1) (nx+1) tm2 a q nx (nx+1+1+1+1) n h h' nx'):=by
  by_cases hz:n=0
  ·subst hz;refine (each1_z (l:=nx+1+1+1) hv1 hp1).mono ?_;rintro _ h' nx' ⟨rfl,rfl⟩;exact .inl hi
  ·have ew:wds n q=[mk n q]:=if_neg hz;rw [ew] at hv1 hp1 hi ⊢;refine each1_g hn hv1 hp1 hi (fun k h' nx' hk hI=>?_) fun k h' nx' hk hq hI=>nx_y t3 t4 (by omega) hk hq hI;exact ⟨by rw [nxt_no hk]; exact hI.1,hI.2.1,hI.2.2⟩
 refine hE.mono ?_;rintro _ h' nx' (⟨en,⟨el,epa,epr,elo⟩,rfl⟩ | ⟨el,epr,elo,rfl⟩)
 ·refine ⟨0,none,tm2,[8],nxa,nxb,el,by omega,.inl ⟨rfl,?_⟩⟩;refine Ev.seq (Ev.regO ((zGe (k:=fun pe h1 n1=>h1=hset (hset h' (nx+1+1+1) (.loop 3 none tm2 [8] nxa nxb)) (nx+1) (.cells [.int .i64 (-1)] false)∧n1=nx+1+1+1+1∧pget pe 4=some (some (.pointer (some ⟨nx+1,0,none⟩)))) (F2.lit t4) ?_).mono ?_))
  ·rw [nx_h];have g1:hget (hset h' (nx+1+1+1) (.loop 3 none tm2 [8] nxa nxb)) (nx+1)=some (.cells [.int .i64 0] false):=by rw [hold (by omega)]; exact epr
   simp (disch:=omega) only [SS,g1,seval];rfl
  rintro tm3 h3 n3 ⟨pe,F3,rfl,rfl,e4⟩;refine Ev.ret ?_;show RK (zAj Q tm3 _ [.cell 4 3]) _;rw [resV_p (F3 4 _ e4) (hnew _ _ _)];refine ⟨by rw [en]; rfl,fun c hc=>?_,by omega⟩;rw [hold (by omega),hold (by omega)]; exact elo c hc
 ·refine ⟨2,some .ret,tm2,[8],nxa,nxb,el,by omega,.inr ⟨rfl,?_⟩⟩;show RK (zAj Q tm2 _ [.cell 4 3]) _;rw [resV_p (v:=nxt q a n) t4 (by rw [hold (by omega)]; exact epr)];refine ⟨rfl,fun c hc=>?_,by omega⟩;rw [hold (by omega)]; exact elo c hc
def SetW (n:Nat) (q:Nat→Bool) (nx:Nat) (h:Hp):KC':=fun r h' nx'=>SlNw h' nx nx' r encU (wds n q)∧Keep nx h h'∧nx≤nx'
theorem SetK.w {n nx:Nat} {q:Nat→Bool} {h:Hp} {r:Value} {h':Hp} {nx':Nat} (h0:n≠0) (H:SetK (mk n q) nx h r h' nx'):SetW n q nx h r h' nx':=by
 obtain ⟨b,c,sp,rfl,h1,h2,h3,h4,h5⟩:=H;unfold SetW wds;rw [if_neg h0];exact ⟨⟨_,_,rfl,fun _=>⟨b,sp,false,h1,h2,rfl,h3⟩⟩,h4,h5⟩
theorem zJp {s:Bool} {n:Nat} {h:Hp} {nx:Nat} (hn:n≤64):Cv Q O s 202 [.int .i64 (n:Int)] h nx (fun r h' nx'=>r = .int .i64 (if n=0 then 0 else 1)∧h'=h∧nx'=nx):=by
 by_cases h0:n=0
 ·subst h0;refine zRV ?_;unfold zRW bF iV;have e:bin Q .shr 3 (.int .i64 (IntKind.wrap .i64 (0+63))) (.int .u64 6) = .ok (.int .i64 0):=rfl;simp (disch:=omega) only [SS,↓reduceIte,Nat.reduceAdd,Nat.reduceSub,Nat.reduceMul,Nat.reduceLT,Nat.reduceLeDiff,Nat.reduceEqDiff,Int.reduceBEq,Int.reduceLT,Int.reduceNeg,show max ((0:Nat):Int) 0=0 from rfl,show min (0:Int) 4096=0 from rfl,e]
 ·rw [if_neg h0];exact zNA (by omega) hn
theorem fnew0_c {s:Bool} {n:Nat} {h:Hp} {nx:Nat} (hn:n≤63):Cv Q O s 115 [.int .i64 (n:Int)] h nx (SetW n (fun _=>false) nx h):=by
 by_cases h0:n=0
 ·subst h0;refine fnewv ?_;unfold fnew cF;refine (zJp (by omega)).mono ?_;rintro r h2 n2 ⟨rfl,e1,e2⟩;rw [e1,e2,if_pos rfl];show AR (vMks [.int .u64 0] (.int .i64 ((0:Nat):Int)) (.int .i64 ((0:Nat):Int))) h nx _;simp (disch:=omega) only [SS,seval];exact ⟨⟨_,_,rfl,fun h=>absurd rfl h⟩,(Keep.refl _ _).set (Nat.le_refl _),Nat.le_succ _⟩
 ·refine (fnew_c (by omega) (by omega)).mono ?_;intro r h' n' H;refine SetK.w h0 ?_;rw [zIX];exact H
theorem fof0_c {s:Bool} {n:Nat} {l:List Nat} {v:Value} {h:Hp} {nx:Nat} (hn:n≤63) (hv:SlRd h nx v za (natI l)) (hl:∀ x∈l,x<n) (hlen:l.length<1000000):Cv Q O s 108 [.int .i64 (n:Int),v] h nx (SetW n (inL l) nx h):=by
 by_cases h0:n=0
 ·subst h0;have:l=[]:=by
   cases l with
   | nil=>rfl
   | cons x l=>exact absurd (hl x (List.mem_cons_self ..)) (by omega)
  subst this;refine fofv ?_;obtain ⟨a,cap,rfl,hc⟩:=id hv;unfold fof cF iV nF;refine (fnew0_c (by omega)).mono ?_;rintro r h2 n2 ⟨hr,hk,hle⟩;obtain ⟨ra,rc,rfl,_⟩:=hr;simp (disch:=omega) only [SS,seval];refine Lp.mk (fun m vs h' nx'=>vs=[.int .i64 ((0:Nat):Int),.slice ra 0 rc,.slice a 0 cap,.int .i64 0,.int .i64 0]∧h'=h2∧nx'=n2) 0 ⟨rfl,rfl,rfl⟩ ?_;rintro _ _ h' nx' ⟨rfl,e1,e2⟩;rw [fofb0,e1,e2];unfold fofl0 bF cF dF gL lF xF;simp (disch:=omega) only [SS,seval];exact fun _=>⟨⟨ra,rc,rfl,fun h=>absurd rfl h⟩,hk,hle⟩
 ·refine (fof_c (by omega) (by omega) hv hl hlen).mono ?_;intro r h' n' H;exact SetK.w h0 H
theorem zR7 {s:Bool} {n:Nat} {p:Nat→Bool} {v:Value} {h:Hp} {nx:Nat} (h1:n≤63) (hv:SlRd h nx v encU (wds n p)):Cv Q O s 111 [v] h nx (fun r h' nx'=>r = .int .i64 ((fl n p).length:Int)∧h'=h∧nx'=nx):=by
 by_cases h0:n=0
 ·subst h0;refine zR6 ?_;obtain ⟨a,cap,rfl,hc⟩:=id hv;unfold zR8 iV nF;simp (disch:=omega) only [SS,show (wds 0 p).length=0 from rfl,seval];refine Lp.mk (fun m vs h' nx'=>vs=[.int .i64 0,.slice a 0 cap,.int .i64 0,.int .i64 0]∧h'=h∧nx'=nx) 0 ⟨rfl,rfl,rfl⟩ ?_;rintro _ _ h' nx' ⟨rfl,e1,e2⟩;rw [zIc,e1,e2];unfold zFo bF cF iV lF xF;simp (disch:=omega) only [SS,seval];exact fun _=>rfl
 ·rw [show wds n p=[mk n p] from if_neg h0] at hv;exact fcount_c h1 hv
theorem zR2 {s:Bool} {n:Nat} {q:Nat→Bool} {v:Value} {h:Hp} {nx:Nat} (hn:n≤63) (hv:SlRd h nx v encU (wds n q)):Cv Q O s 378 [v,.int .i64 (n:Int)] h nx (fun r h' nx'=>r = .bool true∧Keep nx h h'∧nx≤nx'):=by
 refine flrightv ?_;obtain ⟨a,cap,rfl,hc⟩:=id hv;have ew:(((wds n q).length:Nat):Int)=if n=0 then 0 else 1:=by
  unfold wds; split <;> rfl
 have en:nxt q (n:Int) n = -1:=by
  have:=nxt_b (q:=q) (a:=(n:Int)) n;omega
 unfold zR3 bF cF iV nF;simp (disch:=omega) only [SS,seval];refine ⟨fun _=>⟨fun _=>?_,fun h=>absurd h (by omega)⟩,fun h=>absurd h (by omega)⟩;refine (zJp (by omega)).mono ?_;rintro r h2 n2 ⟨rfl,e1,e2⟩;rw [e1,e2,ew];simp (disch:=omega) only [SS,seval];refine ⟨fun _=>?_,fun h=>absurd h (by simp)⟩;refine (fnext_c hn hv).mono ?_;rintro r h3 n3 ⟨rfl,hk,hle⟩;rw [en];simp (disch:=omega) only [SS,seval];exact ⟨rfl,hk,hle⟩
theorem inL_fl {n i:Nat} {q:Nat→Bool} (h:i<n):inL (fl n q) i=q i:=by
 unfold inL fl;simp [h]
theorem wds_fl {n:Nat} {q:Nat→Bool}:wds n (inL (fl n q))=wds n q:=by
 unfold wds;rw [zGZ fun i hi=>inL_fl (q:=q) hi]
theorem SlX.nw {α:Type} {h:Hp} {v:Value} {enc:α→List Value} {k:Nat} {l:List α} {P:Nat→Prop} {lo hi:Nat} (H:SlX h v enc k l P) (hP:∀ d,P d→lo≤d∧d<hi):SlNw h lo hi v enc l:=by
 rcases H with ⟨rfl,rfl⟩ | ⟨d,hd,rfl,hg⟩
 ·exact ⟨_,_,rfl,fun h=>absurd rfl h⟩
 ·exact ⟨_,_,rfl,fun _=>⟨d,some k,false,(hP d hd).1,(hP d hd).2,rfl,hg⟩⟩
def StNw (h:Hp) (lo hi:Nat) (v:Value) (low high:Int) (n:Nat) (A B:List Int) (q:Nat→Bool):Prop :=
 ∃ va vb vo,v = .agg ⟨[.int .i64 low,.int .i64 high,va,vb,vo]⟩∧SlNw h lo hi va za A∧SlNw h lo hi vb za B∧SlNw h lo hi vo encU (wds n q)
def rmap (n:Nat) (f:Nat→Int):List Int:=(List.range n).map f
theorem zHZ (n:Nat) (f:Nat→Int):rmap (n+1) f=rmap n f++[f n]:=by unfold rmap; rw [List.range_succ,List.map_append]; rfl
theorem zBn (n:Nat) (f:Nat→Int):(rmap n f).length=n:=by unfold rmap; rw [List.length_map,List.length_range]
theorem zIW (n:Nat) (q:Nat→Bool):natI (fl (n+1) q)=natI (fl n q)++(if q n then [(n:Int)] else []):=by
 rw [fl_up]; unfold natI; rw [List.map_append]; cases q n <;> rfl
def ChS (lo:Nat) (h':Hp) (nx':Nat) (va vb o:Value) (A B L:List Int):Prop :=
 ∃ Pa Pb Pc:Nat→Prop,SlX h' va za 1 A Pa∧SlX h' vb za 1 B Pb∧SlX h' o za 1 L Pc∧(∀ d,Pa d→lo≤d∧d<nx'∧¬ Pb d∧¬ Pc d)∧(∀ d,Pb d→lo≤d∧d<nx'∧¬ Pc d)∧(∀ d,Pc d→lo≤d∧d<nx')
def ChJ (n p4 p12:Nat) (vf:Value) (fa fb:Nat→Int) (q:Nat→Bool) (low high:Int) (nx:Nat) (h0:Hp) (m:Nat) (vs:List Value) (h':Hp) (nx':Nat):Prop :=
 ∃ (i:Nat) (va vb o:Value),m=n-i∧i≤n∧vs=[.int .i64 (n:Int),vf,.pointer (some ⟨p4,0,none⟩),.pointer (some ⟨p12,0,none⟩),o,.int .i64 (n:Int),.int .i64 (i:Int)] ∧
  hget h' p12=some (.cells [.int .i64 low,.int .i64 high,va,vb,.slice none 0 0] false)∧ChS (nx+3) h' nx' va vb o (rmap i fa) (rmap i fb) (natI (fl i q))∧hget h' (nx+1)=some (.cells [.int .i64 0,.int .i64 0,.slice none 0 0,.slice none 0 0,.slice none 0 0] false)∧Keep nx h0 h'∧nx+3≤nx'
theorem zSQ {s:Bool} {n F:Nat} {low high:Int} {fa fb:Nat→Int} {q:Nat→Bool} {cs:List Value} {a1 a2 a3:Option Addr} {n1 n2 n3 c1 c2 c3:Nat} {h:Hp} {nx:Nat} (hn:n≤63)
  (hf:∀ (i:Nat) (h':Hp) (nx':Nat),i<n→Keep nx h h'→nx≤nx'→Cv Q O s F (.int .i64 (i:Int)::cs) h' nx' (fun r h2 n2=>r = .tuple ⟨[.int .i64 (fa i),.int .i64 (fb i),.bool (q i)]⟩∧Keep nx' h' h2∧nx'≤n2)) :
  Cv Q O s 140 [.agg ⟨[.int .i64 low,.int .i64 high,.slice a1 n1 c1,.slice a2 n2 c2,.slice a3 n3 c3]⟩,.int .i64 (n:Int),.func (.func F) ⟨[]⟩ ⟨cs⟩] h nx (fun r h' nx'=>StNw h' nx nx' r low high n (rmap n fa) (rmap n fb) q∧Keep nx h h'∧nx≤nx'):=by
 refine zQf ?_;unfold zMd aF cF iV lA lF nC nS pC;simp (disch:=omega) only [SS,seval];have K0:∀ {o o' o'' o3},Keep nx h (hset (hset (hset (hset h nx o) (nx+1) o') (nx+2) o'') (nx+2) o3):=((((Keep.refl _ _).set (Nat.le_refl _)).set (Nat.le_succ _)).set (by omega)).set (by omega);refine Lp.mk (ChJ n (nx+1) (nx+2) (.func (.func F) ⟨[]⟩ ⟨cs⟩) fa fb q low high nx h) n ⟨0,_,_,_,by omega,by omega,rfl,hnew _ _ _,⟨fun _=>False,fun _=>False,fun _=>False,.inl ⟨rfl,rfl⟩,.inl ⟨rfl,rfl⟩,.inl ⟨rfl,rfl⟩,fun _ h=>h.elim,fun _ h=>h.elim,fun _ h=>h.elim⟩,by rw [hold (by omega),hold (by omega),hnew],K0,by omega⟩ ?_;rintro _ _ h1 m1 ⟨i,va,vb,o,rfl,hi,rfl,g12,⟨Pa,Pb,Pc,SA,SB,SC,ha,hb,hc⟩,g11,hk,hle⟩;obtain ⟨aa,ca,rfl⟩:=SA.form;obtain ⟨ab,cb,rfl⟩:=SB.form;obtain ⟨ao,co,rfl⟩:=SC.form;rw [zNw];unfold zH5 aF bF gL iV lF;simp (disch:=omega) only [SS,seval];refine ⟨fun hlt=>?_,fun hge=>?_⟩
 ·show Cv Q O s F (.int .i64 (i:Int)::cs) h1 m1 _;refine (hf i h1 m1 (by omega) hk (by omega)).mono ?_;rintro r h2 m2 ⟨rfl,hk2,hle2⟩;have g2:hget h2 (nx+2)=_:=(hk2 (nx+2) (by omega)).trans g12;have SA2:=SA.keep (h':=h2) (P':=Pa) fun d hd=>⟨hk2 d (by have:=ha d hd; omega),hd⟩
  have SB2:=SB.keep (h':=h2) (P':=Pb) fun d hd=>⟨hk2 d (by have:=hb d hd; omega),hd⟩
  have SC2:=SC.keep (h':=h2) (P':=Pc) fun d hd=>⟨hk2 d (by have:=hc d hd; omega),hd⟩
  simp (disch:=omega) only [SS,g2,seval];have nA:¬ Pa (nx+2):=fun hp=>by have:=ha _ hp; omega
  have nB:¬ Pb (nx+2):=fun hp=>by have:=hb _ hp; omega
  have nC:¬ Pc (nx+2):=fun hp=>by have:=hc _ hp; omega
  refine zC5 (k:=1) (fun _=>rfl) (fun _=>rfl) (by omega) (P':=fun d=>d=m2+1) (SA2.keep (P':=Pa) fun d hd=>⟨hold (by have:=ha d hd; omega),hd⟩) rfl (fa i) (hnew _ _ _) rfl (by rw [zBn]; omega) fun va' h3 SA3 hf3=>?_;obtain ⟨a3',c3',rfl⟩:=SA3.form;have g3:=(show hget h3 (nx+2)=hget h2 (nx+2) by rw [hf3 _ (by omega) nA,hold (by omega)]).trans g2;simp (disch:=omega) only [SS,g3,seval];have SB3:=SB2.keep (h':=hset h3 (m2+2) (.cells [.int .i64 (fb i)] false)) (P':=Pb) fun d hd=>by
   have:=hb d hd;exact ⟨by rw [hold (by omega),hf3 d (by omega) (fun hp=>(ha d hp).2.2.1 hd),hold (by omega)],hd⟩
  refine ⟨by omega,zC5 (k:=1) (fun _=>rfl) (fun _=>rfl) (by omega) (nx:=m2+3) (P':=fun d=>d=m2+3) SB3 rfl (fb i) (hnew _ _ _) rfl (by rw [zBn]; omega) fun vb' h4 SB4 hf4=>?_⟩;obtain ⟨a4',c4',rfl⟩:=SB4.form;have g4:=(show hget h4 (nx+2)=hget h3 (nx+2) by rw [hf4 _ (by omega) nB,hold (by omega)]).trans g3;simp (disch:=omega) only [SS,g4,seval];refine ⟨by omega,?_⟩;obtain ⟨H5,hH⟩:∃ H5,H5=hset (hset h4 (nx+2) (.cells [.int .i64 low,.int .i64 high,.slice a3' (rmap i fa++[fa i]).length c3',.slice ab (rmap i fb).length cb,.slice none 0 0] false)) (nx+2) (.cells [.int .i64 low,.int .i64 high,.slice a3' (rmap i fa++[fa i]).length c3',.slice a4' (rmap i fb++[fb i]).length c4',.slice none 0 0] false):=⟨_,rfl⟩
  rw [← hH];have g5:hget H5 (nx+2)=some (.cells [.int .i64 low,.int .i64 high,.slice a3' (rmap i fa++[fa i]).length c3',.slice a4' (rmap i fb++[fb i]).length c4',.slice none 0 0] false):=by rw [hH,hnew]
  have e5:∀ d,d≠nx+2→hget H5 d=hget h4 d:=fun d hd=>by rw [hH,hold (by omega),hold (by omega)]
  have e2:∀ d,d≠nx+2→d<m2→¬ Pa d→¬ Pb d→hget H5 d=hget h2 d:=fun d h1 h2 h3 h4=>by
   rw [e5 d h1,hf4 d (by omega) h4,hold (by omega),hf3 d (by omega) h3,hold (by omega)]
  have kA:∀ d,d<nx∨m1≤d→¬ Pa d:=fun d h1 h2=>by have:=ha d h2; omega
  have kB:∀ d,d<nx∨m1≤d→¬ Pb d:=fun d h1 h2=>by have:=hb d h2; omega
  have k5:Keep nx h H5:=fun d hd=>by rw [e2 d (by omega) (by omega) (kA d (.inl hd)) (kB d (.inl hd)),hk2 d (by omega),hk d hd]
  have g51:hget H5 (nx+1)=some (.cells [.int .i64 0,.int .i64 0,.slice none 0 0,.slice none 0 0,.slice none 0 0] false):=by rw [e2 (nx+1) (by omega) (by omega) (fun hp=>by have:=ha _ hp; omega) (fun hp=>by have:=hb _ hp; omega),hk2 _ (by omega)]; exact g11
  have SA5:=SA3.keep (h':=H5) (P':=fun d=>d=m2+1) fun d hd=>by
   have hd:d=m2+1:=hd;exact ⟨by rw [e5 d (by omega),hf4 d (by omega) (kB d (.inr (by omega))),hold (by omega)],hd⟩
  have SB5:=SB4.keep (h':=H5) (P':=fun d=>d=m2+3) fun d hd=>by
   have hd:d=m2+3:=hd;exact ⟨e5 d (by omega),hd⟩
  have SC5:=SC2.keep (h':=H5) (P':=Pc) fun d hd=>by
   have:=hc d hd;exact ⟨e2 d (by omega) (by omega) (fun hp=>(ha d hp).2.2.2 hd) (fun hp=>(hb d hp).2.2 hd),hd⟩
  have ew:IntKind.wrap .i64 ((i:Int)+1)=((i+1:Nat):Int):=zI (by omega);refine ⟨fun hq=>?_,fun hq=>?_⟩
  ·refine zC5 (k:=1) (fun _=>rfl) (fun _=>rfl) (by omega) (nx:=m2+5) (P':=fun d=>d=m2+5) (SC5.keep (h':=hset H5 (m2+4) (.cells [.int .i64 (i:Int)] false)) (P':=Pc) fun d hd=>⟨hold (by have:=hc d hd; omega),hd⟩) rfl (i:Int) (hnew _ _ _) rfl (by unfold natI; rw [List.length_map]; have:=zE3 i q; omega) fun vo' h6 SC6 hf6=>?_;have e6:∀ d,d≠m2+4→d≠m2+5→¬ Pc d→hget h6 d=hget H5 d:=fun d h1 h2 h3=>by rw [hf6 d h2 h3,hold h1]
   refine ⟨n-(i+1),by omega,i+1,.slice a3' (rmap i fa++[fa i]).length c3',.slice a4' (rmap i fb++[fb i]).length c4',vo',rfl,by omega,by rw [ew],?_,⟨fun d=>d=m2+1,fun d=>d=m2+3,fun d=>d=m2+5,?_,?_,?_,?_,?_,?_⟩,?_,?_,by omega⟩
   ·rw [e6 _ (by omega) (by omega) nC]; exact g5
   ·rw [zHZ];exact SA5.keep fun d hd=>⟨e6 d (by omega) (by omega) (fun hp=>by have:=hc d hp; omega),hd⟩
   ·rw [zHZ];exact SB5.keep fun d hd=>⟨e6 d (by omega) (by omega) (fun hp=>by have:=hc d hp; omega),hd⟩
   ·rw [zIW,if_pos hq]; exact SC6
   ·intro d hd; omega
   ·intro d hd; omega
   ·intro d hd; omega
   ·rw [e6 _ (by omega) (by omega) (fun hp=>by have:=hc _ hp; omega)]; exact g51
   ·intro d hd;rw [e6 d (by omega) (by omega) (fun hp=>by have:=hc d hp; omega)]; exact k5 d hd
  ·refine ⟨n-(i+1),by omega,i+1,.slice a3' (rmap i fa++[fa i]).length c3',.slice a4' (rmap i fb++[fb i]).length c4',.slice ao (natI (fl i q)).length co,rfl,by omega,by rw [ew],g5,⟨fun d=>d=m2+1,fun d=>d=m2+3,Pc,?_,?_,?_,?_,?_,?_⟩,g51,k5,by omega⟩
   ·rw [zHZ]; exact SA5
   ·rw [zHZ]; exact SB5
   ·rw [zIW,if_neg (by rw [hq]; simp),List.append_nil]; exact SC5
   ·intro d hd; exact ⟨by omega,by omega,by omega,fun hp=>by have:=hc d hp; omega⟩
   ·intro d hd; exact ⟨by omega,by omega,fun hp=>by have:=hc d hp; omega⟩
   ·intro d hd; have:=hc d hd; omega
 ·have:i=n:=by omega
  subst this;refine (fof0_c hn ((SC.nw (lo:=0) (hi:=m1) fun d hd=>by have:=hc d hd; omega).rd) (fun x hx=>by unfold fl at hx; simp at hx; exact hx.1) (by have:=zE3 i q; omega)).mono ?_;rintro r h2 m2 ⟨hr,hk2,hle2⟩;rw [wds_fl] at hr;obtain ⟨ra,rc,rfl,hrc⟩:=id hr;have g2:=(hk2 (nx+2) (by omega)).trans g12;simp (disch:=omega) only [SS,g2,seval];have g3:=(hk2 (nx+1) (by omega)).trans g11;simp (disch:=omega) only [SS,g3,seval];have e7:∀ {o o'} d,d≠nx+1→d≠nx+2→hget (hset (hset h2 (nx+2) o) (nx+1) o') d=hget h2 d:=fun d h1 h2=>by rw [hold (by omega),hold (by omega)]
  refine ⟨⟨_,_,_,rfl,(SA.keep (P':=Pa) fun d hd=>⟨?_,hd⟩).nw fun d hd=>by have:=ha d hd; omega,(SB.keep (P':=Pb) fun d hd=>⟨?_,hd⟩).nw fun d hd=>by have:=hb d hd; omega,⟨ra,rc,rfl,fun hne=>?_⟩⟩,fun d hd=>?_,by omega⟩
  ·have:=ha d hd;rw [e7 d (by omega) (by omega),hk2 d (by omega)]
  ·have:=hb d hd;rw [e7 d (by omega) (by omega),hk2 d (by omega)]
  ·obtain ⟨b,sp,ro,b1,b2,b3,b4⟩:=hrc hne;exact ⟨b,sp,ro,by omega,b2,b3,by rw [e7 b (by omega) (by omega)]; exact b4⟩
  ·rw [e7 d (by omega) (by omega),hk2 d (by omega)]; exact hk d hd
def fstA (k src v:Int):Int:=if k=3 then v else if k=5 then 0 else if k=4∧v=src then 1 else if v=src∨k=4 then 0 else if k=1 then -1 else 4611686018427387904
def fstQ (k src v:Int):Bool:=if k=3 then true else if k=5 then false else decide (v=src)
theorem pfirst_c {s:Bool} {k n src len v:Int} {a:Option Addr} {nd c:Nat} {h:Hp} {nx:Nat}:Cv Q O s 142 [.agg ⟨[.int .i64 k,.int .i64 n,.int .i64 src,.int .i64 len,.slice a nd c]⟩,.int .i64 v] h nx (EqK (.tuple ⟨[.int .i64 (fstA k src v),.bool (fstQ k src v)]⟩) nx h):=by
 refine pfirstv ?_;have K0:∀ {o},Keep nx h (hset h nx o):=(Keep.refl _ _).set (Nat.le_refl _);have KE:∀ {w o},EqK w nx h w (hset h nx o) (nx+1):=⟨rfl,K0,by omega⟩
 have hb:((v == src):Bool)=decide (v=src):=rfl;unfold pfirst fstA fstQ aF bF iV lF pC
 by_cases h3:k=3
 ·simp (disch:=omega) only [SS,h3,seval];exact ⟨rfl,K0,by omega⟩
 by_cases h5:k=5
 ·simp (disch:=omega) only [SS,h3,h5,seval];exact ⟨rfl,K0,by omega⟩
 have g3:((k == 3):Bool)=false:=beq_false_of_ne h3;have g5:((k == 5):Bool)=false:=beq_false_of_ne h5
 by_cases hs:v=src <;> by_cases h4:k=4
 ·simp (disch:=omega) only [SS,h3,h5,h4,hs,hb,seval];unfold zDJ aF bF iV lF;simp (disch:=omega) only [SS,seval];simp [KE]
 ·have g4:((k == 4):Bool)=false:=beq_false_of_ne h4;simp (disch:=omega) only [SS,h3,h5,h4,hs,hb,g3,g4,g5,seval];unfold zDJ aF bF iV lF;simp (disch:=omega) only [SS,seval];simp [KE]
 ·simp (disch:=omega) only [SS,h3,h5,h4,hs,hb,seval];unfold zDJ aF bF iV lF;simp (disch:=omega) only [SS,seval];simp [KE]
 ·have g4:((k == 4):Bool)=false:=beq_false_of_ne h4;simp (disch:=omega) only [SS,h3,h5,h4,hs,hb,g3,g4,g5,seval];unfold zDJ zMc aF bF iV lF
  by_cases h1:k=1
  ·simp (disch:=omega) only [SS,h1,seval];simp [KE]
  ·have g1:((k == 1):Bool)=false:=beq_false_of_ne h1;simp (disch:=omega) only [SS,h1,g1,g4,seval];simp [KE]
theorem zQg {s:Bool} {k n src len low:Int} {i:Nat} {a:Option Addr} {nd c pb pl:Nat} {r1 r2:Bool} {h:Hp} {nx:Nat} (h1:hget h pb=some (.cells [.int .i64 k,.int .i64 n,.int .i64 src,.int .i64 len,.slice a nd c] r1)) (h2:hget h pl=some (.cells [.int .i64 low] r2)) (hi:i<10000) (hl:0≤low∧low<10000) :
  Cv Q O s 141 [.int .i64 (i:Int),.pointer (some ⟨pb,0,none⟩),.pointer (some ⟨pl,0,none⟩)] h nx (fun r h' nx'=>r = .tuple ⟨[.int .i64 (fstA k src (low+i)),.int .i64 (-1),.bool (fstQ k src (low+i))]⟩∧Keep nx h h'∧nx≤nx'):=by
 refine pbegin1v ?_;unfold zQh bF cF iV lA lF;have ew:IntKind.wrap .i64 (low+(i:Int))=low+i:=by
  obtain ⟨m,rfl⟩:∃ m:Nat,low=m:=⟨low.toNat,by omega⟩
  exact zBh (m+i) (by omega)
 simp (disch:=omega) only [SS,h1,h2,ew,seval];refine pfirst_c.mono ?_;rintro r h3 n3 ⟨rfl,hk,hle⟩;simp (disch:=omega) only [SS,seval];exact ⟨hk,hle⟩
theorem StNw.wid {h h':Hp} {lo hi lo' hi':Nat} {v:Value} {low high:Int} {n:Nat} {A B:List Int} {q:Nat→Bool} (hs:StNw h lo hi v low high n A B q) (hk:∀ d,lo≤d→d<hi→hget h' d=hget h d) (h1:lo'≤lo) (h2:hi≤hi'):StNw h' lo' hi' v low high n A B q:=by
 obtain ⟨va,vb,vo,e,a,b,c⟩:=hs;exact ⟨va,vb,vo,e,SlNw.keep a hk h1 h2,SlNw.keep b hk h1 h2,SlNw.keep c hk h1 h2⟩
theorem pbegin_c {s:Bool} {k n src len:Int} {ds:List Int} {low m:Nat} {v:Value} {h:Hp} {nx:Nat} (hv:SlRd h nx v za ds) (hp:zw k n src len ds=0) (hm:m≤63) (hh:((low+m:Nat):Int)≤n) (hn:n≤4096) :
  Cv Q O s 54 [.agg ⟨[.int .i64 k,.int .i64 n,.int .i64 src,.int .i64 len,v]⟩,.int .i64 (low:Int),.int .i64 ((low+m:Nat):Int)] h nx (fun r h' nx'=>StNw h' nx nx' r low ((low+m:Nat):Int) m (rmap m fun i=>fstA k src (low+i)) (rmap m fun _=>-1) (fun i=>fstQ k src (low+i))∧Keep nx h h'∧nx≤nx'):=by
 refine pbeginv ?_;obtain ⟨a,cap,rfl,hc⟩:=id hv;have K0:∀ {o o' o''},Keep nx h (hset (hset (hset h nx o) (nx+1) o') (nx+2) o''):=(((Keep.refl _ _).set (Nat.le_refl _)).set (Nat.le_succ _)).set (by omega);unfold pbegin aF bF cF iV lA lF nC nS pC;simp (disch:=omega) only [SS,seval];refine (zEP (hv.keep K0 (by omega))).mono ?_;rintro _ h1 n1 ⟨rfl,hk1,hle1⟩;have g1:=hk1 (nx+1) (by omega);rw [hold (by omega),hnew] at g1;have g0:=hk1 nx (by omega);rw [hold (by omega),hold (by omega),hnew] at g0;have g2:=hk1 (nx+2) (by omega);rw [hnew] at g2;simp (disch:=omega) only [SS,hp,g0,g1,g2,seval];refine ⟨fun h=>absurd h (by omega),fun _=>⟨fun h=>absurd h (by omega),fun _=>?_⟩⟩;rw [show decide (n<((low+m:Nat):Int))=false from decide_eq_false (by omega)];unfold zEQ bF cF iV lA lF nC nS;have ew:IntKind.wrap .i64 (((low+m:Nat):Int)-(low:Int))=(m:Int):=by rw [show ((low+m:Nat):Int)-(low:Int)=(m:Int) by omega]; exact zBh m (by omega)
 simp (disch:=omega) only [SS,g0,g1,g2,ew,seval];have K2:∀ {o o'},Keep nx h (hset (hset h1 n1 o) n1 o'):=fun {o o'} d hd=>by rw [hold (by omega),hold (by omega),hk1 d (by omega),hold (by omega),hold (by omega),hold (by omega)]
 refine (zSQ (fa:=fun i=>fstA k src (low+i)) (fb:=fun _=>-1) (q:=fun i=>fstQ k src (low+i)) hm fun i h' nx' hi hk' hle'=>?_).mono ?_
 ·exact zQg (r1:=false) (r2:=false) ((hk' nx (by omega)).trans (by rw [hold (by omega),hold (by omega)]; exact g0)) ((hk' (nx+1) (by omega)).trans (by rw [hold (by omega),hold (by omega)]; exact g1)) (by omega) (by omega)
 rintro r h3 n3 ⟨hS,hk3,hle3⟩;have hS0:=hS;obtain ⟨va,vb,vo,rfl,S1,S2,S3⟩:=hS;obtain ⟨a1,c1,rfl,_⟩:=id S1;obtain ⟨a2,c2,rfl,_⟩:=id S2;obtain ⟨a3,c3,rfl,_⟩:=id S3;have g3:=hk3 (nx+2) (by omega);rw [hold (by omega),hold (by omega),g2] at g3;simp (disch:=omega) only [SS,g3,seval];exact ⟨hS0.wid (fun d h1 h2=>by rw [hold (by omega)]) (by omega) (by omega),fun d hd=>by rw [hold (by omega),hk3 d (by omega)]; exact K2 d hd,by omega⟩
def StRd (h:Hp) (nx:Nat) (v:Value) (low high:Int) (n:Nat) (A B:List Int) (q:Nat→Bool):Prop :=
 ∃ va vb vo,v = .agg ⟨[.int .i64 low,.int .i64 high,va,vb,vo]⟩∧SlRd h nx va za A∧SlRd h nx vb za B∧SlRd h nx vo encU (wds n q)
theorem StNw.rd {h:Hp} {lo hi:Nat} {v:Value} {low high:Int} {n:Nat} {A B:List Int} {q:Nat→Bool} (hs:StNw h lo hi v low high n A B q):StRd h hi v low high n A B q:=by
 obtain ⟨va,vb,vo,e,a,b,c⟩:=hs;exact ⟨va,vb,vo,e,a.rd,b.rd,c.rd⟩
theorem StRd.keep {h h':Hp} {nx nx':Nat} {v:Value} {low high:Int} {n:Nat} {A B:List Int} {q:Nat→Bool} (hs:StRd h nx v low high n A B q) (hk:Keep nx h h') (hle:nx≤nx'):StRd h' nx' v low high n A B q:=by
 obtain ⟨va,vb,vo,e,a,b,c⟩:=hs;exact ⟨va,vb,vo,e,a.keep hk hle,b.keep hk hle,c.keep hk hle⟩
theorem pcan_c {s:Bool} {k n src len:Int} {ds:List Int} {low m:Nat} {A B:List Int} {q:Nat→Bool} {v vs:Value} {h:Hp} {nx:Nat} (hv:SlRd h nx v za ds) (hp:zw k n src len ds=0) (hm:m≤63) (hh:((low+m:Nat):Int)≤n) (hn:n≤4096) (hs:StRd h nx vs low ((low+m:Nat):Int) m A B q) (hA:A.length=m) (hB:B.length=m) :
  Cv Q O s 316 [.agg ⟨[.int .i64 k,.int .i64 n,.int .i64 src,.int .i64 len,v]⟩,vs] h nx (EqK (.bool true) nx h):=by
 refine pcanv ?_;obtain ⟨a,cap,rfl,hc⟩:=id hv;obtain ⟨va,vb,vo,rfl,S1,S2,S3⟩:=hs;obtain ⟨a1,c1,rfl,_⟩:=id S1;obtain ⟨a2,c2,rfl,_⟩:=id S2;obtain ⟨a3,c3,rfl,_⟩:=id S3;have K0:∀ {o o'},Keep nx h (hset (hset h nx o) (nx+1) o'):=((Keep.refl _ _).set (Nat.le_refl _)).set (Nat.le_succ _);unfold pcan aF bF cF iV lA lF pC;simp (disch:=omega) only [SS,seval];refine (zEP (hv.keep K0 (by omega))).mono ?_;rintro _ h1 n1 ⟨rfl,hk1,hle1⟩;have g1:=hk1 (nx+1) (by omega);rw [hnew] at g1;have g0:=hk1 nx (by omega);rw [hold (by omega),hnew] at g0;simp (disch:=omega) only [SS,hp,g0,g1,seval];refine ⟨fun h=>absurd h (by omega),fun _=>⟨fun h=>absurd h (by omega),fun _=>?_⟩⟩;rw [show decide (n<((low+m:Nat):Int))=false from decide_eq_false (by omega)];unfold zJ0 aF bF cF lF nF;have ew:IntKind.wrap .i64 (((low+m:Nat):Int)-(low:Int))=(m:Int):=by rw [show ((low+m:Nat):Int)-(low:Int)=(m:Int) by omega]; exact zBh m (by omega)
 simp (disch:=omega) only [SS,g0,g1,ew,hA,hB,seval];have K1:Keep nx h h1:=K0.trans hk1 (by omega);refine ⟨fun _=>⟨fun _=>?_,fun h=>absurd h (by simp)⟩,fun h=>absurd h (by simp)⟩;refine (zR2 hm (S3.keep (nx':=n1) K1 (by omega))).mono ?_;rintro r h2 n2 ⟨rfl,hk2,hle2⟩;exact ⟨rfl,K1.trans hk2 (by omega),by omega⟩
theorem psure_c {s:Bool} {k n src len:Int} {ds:List Int} {low m:Nat} {A B:List Int} {q:Nat→Bool} {v vs:Value} {h:Hp} {nx:Nat} (hv:SlRd h nx v za ds) (hp:zw k n src len ds=0) (hm:m≤63) (hh:((low+m:Nat):Int)≤n) (hn:n≤4096) (hs:StRd h nx vs low ((low+m:Nat):Int) m A B q) (hA:A.length=m) (hB:B.length=m) :
  Cv Q O s 242 [.agg ⟨[.int .i64 k,.int .i64 n,.int .i64 src,.int .i64 len,v]⟩,vs] h nx (EqK vs nx h):=by
 refine psurev ?_;obtain ⟨a,cap,rfl,hc⟩:=id hv;have hs0:=hs;obtain ⟨va,vb,vo,rfl,S1,S2,S3⟩:=hs;obtain ⟨a1,c1,rfl,_⟩:=id S1;obtain ⟨a2,c2,rfl,_⟩:=id S2;obtain ⟨a3,c3,rfl,_⟩:=id S3;have K0:∀ {o o' o''},Keep nx h (hset (hset (hset h nx o) (nx+1) o') (nx+2) o''):=(((Keep.refl _ _).set (Nat.le_refl _)).set (Nat.le_succ _)).set (by omega);unfold psure cF iV lA nC nS pC;simp (disch:=omega) only [SS,seval];refine (pcan_c (hv.keep K0 (by omega)) hp hm hh hn (hs0.keep K0 (by omega)) hA hB).mono ?_;rintro _ h1 n1 ⟨rfl,hk1,hle1⟩;have g1:=hk1 (nx+1) (by omega);rw [hold (by omega),hnew] at g1;have g2:=hk1 (nx+2) (by omega);rw [hnew] at g2;have K1:Keep nx h h1:=K0.trans hk1 (by omega);simp (disch:=omega) only [SS,g1,g2,seval];exact ⟨rfl,K1.set (by omega),by omega⟩
def liveN (k len round:Int) (m:Nat) (A:List Int) (q:Nat→Bool):Nat:=if k=4∧len≤round then 0 else if k=5 then (A.filter fun a=>a == 0).length else (fl m q).length
def LvJ (va:Value) (A:List Int) (h:Hp) (nx:Nat) (m:Nat) (vs:List Value) (h':Hp) (nx':Nat):Prop :=
 ∃ i,m=A.length-i∧i≤A.length∧vs=[.int .i64 (((A.take i).filter fun a=>a == 0).length:Int),va,.int .i64 (A.length:Int),.int .i64 (i:Int)]∧h'=h∧nx'=nx
theorem plive_c {s:Bool} {k n src len round:Int} {ds:List Int} {low m:Nat} {A B:List Int} {q:Nat→Bool} {v vs:Value} {h:Hp} {nx:Nat} (hv:SlRd h nx v za ds) (hp:zw k n src len ds=0) (hm:m≤63) (hh:((low+m:Nat):Int)≤n) (hn:n≤4096) (hs:StRd h nx vs low ((low+m:Nat):Int) m A B q) (hA:A.length=m) (hB:B.length=m) :
  Cv Q O s 144 [.agg ⟨[.int .i64 k,.int .i64 n,.int .i64 src,.int .i64 len,v]⟩,vs,.int .i64 round] h nx (EqK (.int .i64 (liveN k len round m A q:Int)) nx h):=by
 refine plivev ?_;obtain ⟨a,cap,rfl,hc⟩:=id hv;have hs0:=hs;obtain ⟨va,vb,vo,rfl,S1,S2,S3⟩:=hs;obtain ⟨a1,c1,rfl,hg1⟩:=id S1;obtain ⟨a2,c2,rfl,_⟩:=id S2;obtain ⟨a3,c3,rfl,_⟩:=id S3;have K0:∀ {o o'},Keep nx h (hset (hset h nx o) (nx+1) o'):=((Keep.refl _ _).set (Nat.le_refl _)).set (Nat.le_succ _);unfold plive aF bF cF iV lA lF nF pC;simp (disch:=omega) only [SS,↓reduceIte,Nat.reduceAdd,Nat.reduceSub,Nat.reduceMul,Nat.reduceLT,Nat.reduceLeDiff,Nat.reduceEqDiff,Int.reduceBEq,Int.reduceLT,Int.reduceNeg];refine (psure_c (hv.keep K0 (by omega)) hp hm hh hn (hs0.keep K0 (by omega)) hA hB).mono ?_;rintro _ h1 n1 ⟨rfl,hk1,hle1⟩;have g0:=hk1 nx (by omega);rw [hold (by omega),hnew] at g0;have g1:=hk1 (nx+1) (by omega);rw [hnew] at g1;simp (disch:=omega) only [SS,↓reduceIte,Nat.reduceAdd,Nat.reduceSub,Nat.reduceMul,Nat.reduceLT,Nat.reduceLeDiff,Nat.reduceEqDiff,Int.reduceBEq,Int.reduceLT,Int.reduceNeg,g0,g1];have K1:∀ {o},Keep nx h (hset h1 (nx+1) o):=(K0.trans hk1 (by omega)).set (by omega);have hF:∀ {o},Cv Q O s 111 [.slice a3 (wds m q).length c3] (hset h1 (nx+1) o) n1 (EqK (.int .i64 ((fl m q).length:Int)) nx h):=fun {o}=>by
  refine (zR7 hm (S3.keep (nx':=n1) K1 (by omega))).mono ?_;rintro r h2 n2 ⟨rfl,rfl,rfl⟩;exact ⟨rfl,K1,by omega⟩
 unfold liveN
 by_cases h4:k=4
 ·simp (disch:=omega) only [SS,↓reduceIte,Nat.reduceAdd,Nat.reduceSub,Nat.reduceMul,Nat.reduceLT,Nat.reduceLeDiff,Nat.reduceEqDiff,Int.reduceBEq,Int.reduceLT,Int.reduceNeg,h4];refine ⟨fun hr=>?_,fun hr=>?_⟩
  ·rw [if_pos (show len≤round by omega)];exact ⟨rfl,K1,by omega⟩
  ·rw [if_neg (show ¬ len≤round by omega),if_neg (show ¬ (4:Int)=5 by omega)];exact hF
 ·have g4:((k == 4):Bool)=false:=beq_false_of_ne h4
  by_cases h5:k=5
  ·simp (disch:=omega) only [SS,↓reduceIte,Nat.reduceAdd,Nat.reduceSub,Nat.reduceMul,Nat.reduceLT,Nat.reduceLeDiff,Nat.reduceEqDiff,Int.reduceBEq,Int.reduceLT,Int.reduceNeg,h4,g4,h5];refine Lp.mk (LvJ (.slice a1 A.length c1) A (hset h1 (nx+1) (.cells [.int .i64 (low:Int),.int .i64 ((low+m:Nat):Int),.slice a1 A.length c1,.slice a2 B.length c2,.slice a3 (wds m q).length c3] false)) n1) A.length ⟨0,by omega,by omega,rfl,rfl,rfl⟩ ?_;rintro _ _ h' nx' ⟨i,rfl,hi,rfl,e1,e2⟩;rw [pliveb0,e1,e2];unfold zQa bF iV lF xF;simp (disch:=omega) only [SS,↓reduceIte,Nat.reduceAdd,Nat.reduceSub,Nat.reduceMul,Nat.reduceLT,Nat.reduceLeDiff,Nat.reduceEqDiff,Int.reduceBEq,Int.reduceLT,Int.reduceNeg];refine ⟨fun hlt=>?_,fun hge=>?_⟩
   ·obtain ⟨x,hx⟩:=zY hlt;obtain ⟨_,b2,sp2,ro,_,hb2,e3,hg2⟩:=S1.at hx;cases e3;rw [zS] at hg2;have hgx:=(K1 (o:=.cells [.int .i64 (low:Int),.int .i64 ((low+m:Nat):Int),.slice (some ⟨b2,0,sp2⟩) A.length c1,.slice a2 B.length c2,.slice a3 (wds m q).length c3] false) b2 hb2).trans hg2;have es:((A.take (i+1)).filter fun a=>a == 0).length=((A.take i).filter fun a=>a == 0).length+(if x == 0 then 1 else 0):=by
     rw [List.take_add_one,hx,List.filter_append,List.length_append]
     congr 1
     cases hx0:x == 0 <;> simp [hx0]
    have ew1:IntKind.wrap .i64 ((i:Int)+1)=((i+1:Nat):Int):=zI (by omega);have hfl:=List.length_filter_le (fun a=>a == (0:Int)) (A.take i);have hft:(A.take i).length=i:=List.length_take_of_le (by omega);have ew2:IntKind.wrap .i64 ((((A.take i).filter fun a=>a == 0).length:Int)+1)=((((A.take i).filter fun a=>a == 0).length+1:Nat):Int):=zI (by omega);simp (disch:=omega) only [SS,↓reduceIte,Nat.reduceAdd,Nat.reduceSub,Nat.reduceMul,Nat.reduceLT,Nat.reduceLeDiff,Nat.reduceEqDiff,Int.reduceBEq,Int.reduceLT,Int.reduceNeg,hgx,zO hx,ew1,ew2];refine ⟨fun h0=>?_,fun h0=>?_⟩
    ·refine ⟨A.length-(i+1),by omega,i+1,rfl,by omega,?_,rfl,rfl⟩;rw [es,if_pos h0]
    ·refine ⟨A.length-(i+1),by omega,i+1,rfl,by omega,?_,rfl,rfl⟩;rw [es,if_neg (by rw [h0]; simp)]; rfl
   ·have:i=A.length:=by omega
    subst this;rw [List.take_length,if_neg (by omega)];exact ⟨rfl,K1,by omega⟩
  ·have g5:((k == 5):Bool)=false:=beq_false_of_ne h5;simp (disch:=omega) only [SS,↓reduceIte,Nat.reduceAdd,Nat.reduceSub,Nat.reduceMul,Nat.reduceLT,Nat.reduceLeDiff,Nat.reduceEqDiff,Int.reduceBEq,Int.reduceLT,Int.reduceNeg,h4,g4,h5,g5];rw [if_neg (fun h=>h.1)];exact hF
theorem zQ2 {s:Bool} {n:Nat} {h:Hp} {nx:Nat} (h1:1≤n) (h8:n≤8):Cv Q O s 208 [.int .i64 (n:Int)] h nx (zCd (.bool true) nx h):=by
 refine zQ1 ?_;unfold zQ3 bF iV;simp (disch:=omega) only [SS,seval];refine ⟨fun _=>⟨?_,rfl,rfl⟩,fun h=>absurd h (by omega)⟩;rw [decide_eq_false (show ¬ (8:Int)<n by omega)]; rfl
theorem zQ4 {s:Bool} {C i j:Nat} {h:Hp} {nx:Nat} (h1:1≤C) (h8:C≤8) (hi:i<8) (hj:j<C):Cv Q O s 221 [.int .i64 (C:Int),.int .i64 (i:Int),.int .i64 (j:Int)] h nx (zCd (.int .i64 ((i*C+j:Nat):Int)) nx h):=by
 refine ptplacev ?_;unfold zQ5 bF cF iV;refine (zQ2 h1 h8).mono ?_;rintro _ _ _ ⟨rfl,rfl,rfl⟩;have hb:i*C<64:=by
  have:i*C≤7*8:=Nat.mul_le_mul (by omega) h8;omega
 have em:IntKind.wrap .i64 ((i:Int)*(C:Int))=((i*C:Nat):Int):=by rw [← Int.natCast_mul]; exact zBh _ (by omega)
 have ea:IntKind.wrap .i64 (((i*C:Nat):Int)+(j:Int))=((i*C+j:Nat):Int):=by rw [← Int.natCast_add]; exact zBh _ (by omega)
 simp (disch:=omega) only [SS,seval];unfold zCI bF iV;simp (disch:=omega) only [SS,em,ea,seval];refine ⟨fun h=>absurd h (by omega),fun _=>⟨fun h=>absurd h (by omega),fun _=>⟨fun h=>absurd h (by omega),fun _=>⟨fun h=>absurd h (by omega),fun _=>?_⟩⟩⟩⟩;rw [zFF,em];simp only [RK,zDy,ea];exact ⟨rfl,rfl,rfl⟩
def wk (c:Nat→Value):List Value:=[c 0,c 1,c 2,c 3,c 4,c 5,c 6,c 7,c 8,c 9,c 10,c 11,c 12,c 13,c 14,c 15,c 16,c 17,c 18,c 19,c 20,c 21,c 22,c 23,c 24,c 25,c 26,c 27,c 28,c 29,c 30,c 31,c 32,c 33,c 34,c 35,c 36,c 37,c 38,c 39,c 40,c 41,c 42,c 43,c 44]
def upd (c:Nat→Value) (k:Nat) (v:Value):Nat→Value:=fun n=>if n=k then v else c n
theorem zLv {c:Nat→Value} {v:Value}:(wk c).set 22 v=wk (upd c 22 v):=rfl
theorem zLu {c:Nat→Value} {v:Value}:(wk c).set 38 v=wk (upd c 38 v):=rfl
structure FrV where
 kind:Int
 fr:Int
 to_:Int
 x3:Int
 round:Int
 vn:Int
 a6:Option Addr
 n6:Nat
 c6:Nat
 a7:Option Addr
 n7:Nat
 c7:Nat
 a8:Option Addr
 n8:Nat
 c8:Nat
 n:Int
 over:Bool
def encF (f:FrV):List Value:=[.int .i64 f.kind,.int .i64 f.fr,.int .i64 f.to_,.int .i64 f.x3,.int .i64 f.round,.int .i64 f.vn,.slice f.a6 f.n6 f.c6,.slice f.a7 f.n7 f.c7,.slice f.a8 f.n8 f.c8,.int .i64 f.n,.bool f.over]
theorem zOn {s:Bool} {c:Nat→Value} {C i j pw:Nat} {ro:Bool} {h:Hp} {nx:Nat} (hw:hget h pw=some (.cells (wk c) ro)) (h1:1≤C) (h8:C≤8) (hi:i<8) (hj:j<C) (hc:c 8 = .int .i64 (C:Int)):Cv Q O s 127 [.pointer (some ⟨pw,0,none⟩),.int .i64 (i:Int),.int .i64 (j:Int)] h nx (zCd (.int .i64 ((i*C+j:Nat):Int)) nx h):=by
 refine wnumberv ?_;unfold zOo aF cF lF;unfold wk at hw;simp (disch:=omega) only [SS,hw,hc,seval];exact zQ4 h1 h8 hi hj
theorem zSS {a0 a1 a2 a3 a4 a5 a6 a7 a8 a9 a10 z0 z1 z2 z3 z4 z5 z6 z7 z8 z9 z10:Value}:zAH (zD8 []) 0 11 [a0,a1,a2,a3,a4,a5,a6,a7,a8,a9,a10] [z0,z1,z2,z3,z4,z5,z6,z7,z8,z9,z10] = .ok [a0,a1,a2,a3,a4,a5,a6,a7,a8,a9,a10]:=rfl
theorem wsend_c {s:Bool} {c:Nat→Value} {f:FrV} {l:List FrV} {C i j pw:Nat} {P:Nat→Prop} {h:Hp} {nx:Nat} (hw:hget h pw=some (.cells (wk c) false)) (hpw:pw<nx) (h1:1≤C) (h8:C≤8) (hi:i<8) (hj:j<C) (hc0:c 0 = .int .i64 (i:Int)) (hc1:c 1 = .int .i64 (j:Int)) (hc:c 8 = .int .i64 (C:Int)) (ho:SlX h (c 22) encF 11 l P) (hP:∀ d,P d→d≠pw∧d<nx) (hl:l.length≤1000) :
  Cv Q O s 145 [.pointer (some ⟨pw,0,none⟩),.agg ⟨encF f⟩] h nx (fun r h' nx'=>r = .tuple ⟨[]⟩∧(∃ v' P',hget h' pw=some (.cells (wk (upd c 22 v')) false)∧SlX h' v' encF 11 (l++[{ f with fr:=((i*C+j:Nat):Int) }]) P'∧(∀ d,P' d→nx≤d∧d<nx'))∧(∀ d,d<nx→d≠pw→¬ P d→hget h' d=hget h d)∧nx≤nx'):=by
 refine wsendv ?_;obtain ⟨ao,co,eo⟩:=ho.form;have hw0:=hw;have K0:∀ {o},Keep nx h (hset h nx o):=(Keep.refl _ _).set (Nat.le_refl _);have hwN:∀ {o},hget (hset h nx o) pw=some (.cells (wk c) false):=fun {o}=>by rw [hold (by omega)]; exact hw0
 have hw':=@hwN;unfold wk at hw';unfold wsend aF dF iV lA lF nS pC;rw [show encF f=[.int .i64 f.kind,.int .i64 f.fr,.int .i64 f.to_,.int .i64 f.x3,.int .i64 f.round,.int .i64 f.vn,.slice f.a6 f.n6 f.c6,.slice f.a7 f.n7 f.c7,.slice f.a8 f.n8 f.c8,.int .i64 f.n,.bool f.over] from rfl];simp (disch:=omega) only [SS,hw',hc0,hc1,seval];refine (zOn hwN h1 h8 hi hj hc).mono ?_;rintro _ _ _ ⟨rfl,rfl,rfl⟩;simp (disch:=omega) only [SS,hw',hw,seval];rw [zSS];simp (disch:=omega) only [SS,seval];refine zC5 (k:=11) (fun _=>rfl) (fun _=>rfl) (by omega) (nx:=nx+2) (P':=fun d=>d=nx+2) (ho.keep (P':=P) fun d hd=>?_) rfl ({ f with fr:=((i*C+j:Nat):Int) }) (hnew _ _ _) rfl (by omega) fun v' h3 S3 hf3=>?_
 ·have:=hP d hd;exact ⟨by rw [hold (by omega),hold (by omega),hold (by omega)],hd⟩
 obtain ⟨a3,c3,rfl⟩:=S3.form;have g3:=(show hget h3 pw=_ by rw [hf3 pw (by omega) (fun hp=>(hP pw hp).1 rfl),hold (by omega),hold (by omega),hold (by omega)]).trans hw;simp (disch:=omega) only [SS,g3,seval];refine ⟨by omega,(by show 22<45; omega),⟨.slice a3 (l++[{ f with fr:=((i*C+j:Nat):Int) }]).length c3,fun d=>d=nx+2,?_,S3.keep fun d hd=>?_,fun d hd=>by omega⟩,fun d h1 h2 h3=>?_,by omega⟩
 ·rw [zLv]
 ·have hd:d=nx+2:=hd;exact ⟨hold (by omega),hd⟩
 ·rw [hold (by omega),hf3 d (by omega) h3,hold (by omega),hold (by omega),hold (by omega)]
def zNB (num:Int) (round n:Int) (over:Bool):FrV:=⟨4,num,0,0,round,0,none,0,0,none,0,0,none,0,0,n,over⟩
theorem votes0_c {s:Bool} {c:Nat→Value} {l:List FrV} {C i j pw:Nat} {P:Nat→Prop} {k n src len round:Int} {ds:List Int} {low m:Nat} {A B:List Int} {q:Nat→Bool} {h:Hp} {nx:Nat} (hw:hget h pw=some (.cells (wk c) false)) (hpw:pw<nx) (h1:1≤C) (h8:C≤8) (hi:i<8) (hj:j<C) (hc0:c 0 = .int .i64 (i:Int)) (hc1:c 1 = .int .i64 (j:Int)) (hc:c 8 = .int .i64 (C:Int)) (ho:SlX h (c 22) encF 11 l P) (hP:∀ d,P d→d≠pw∧d<nx) (hl:l.length≤1000)
  (e2:c 2 = .int .i64 k) (e3:c 3 = .int .i64 n) (e4:c 4 = .int .i64 src) (e5:c 5 = .int .i64 len) (hv:SlRd h nx (c 6) za ds) (hp:zw k n src len ds=0) (hm:m≤63) (hh:((low+m:Nat):Int)≤n) (hn:n≤4096) (hs:StRd h nx (.agg ⟨[c 33,c 34,c 35,c 36,c 37]⟩) low ((low+m:Nat):Int) m A B q) (hA:A.length=m) (hB:B.length=m) :
  Cv Q O s 56 [.pointer (some ⟨pw,0,none⟩),.int .i64 round,.bool false] h nx (fun r h' nx'=>r = .tuple ⟨[]⟩∧(∃ v' P',hget h' pw=some (.cells (wk (upd (upd c 38 (.bool true)) 22 v')) false)∧SlX h' v' encF 11 (l++[zNB ((i*C+j:Nat):Int) round (liveN k len round m A q:Int) false]) P'∧(∀ d,P' d→nx≤d∧d<nx'))∧(∀ d,d<nx→d≠pw→¬ P d→hget h' d=hget h d)∧nx≤nx'):=by
 refine votes0v ?_;obtain ⟨a6,c6,ed,_⟩:=id hv;have hs0:=hs;obtain ⟨va,vb,vo,ea,S1,S2,S3⟩:=hs;obtain ⟨f1,d1,rfl,_⟩:=id S1;obtain ⟨f2,d2,rfl,_⟩:=id S2;obtain ⟨f3,d3,rfl,_⟩:=id S3;injection ea with ea
 injection ea with ea
 injection ea with ea33 ea
 injection ea with ea34 ea
 injection ea with ea35 ea
 injection ea with ea36 ea
 injection ea with ea37 ea
 have K0:∀ {o o'},Keep nx h (hset (hset h nx o) nx o'):=((Keep.refl _ _).set (Nat.le_refl _)).set (Nat.le_refl _);have hwN:∀ {o o'},hget (hset (hset h nx o) nx o') pw=some (.cells (wk c) false):=fun {o o'}=>by rw [hold (by omega),hold (by omega)]; exact hw
 have hw':=@hwN;unfold wk at hw';unfold votes0 aF cF dF iV lA nC nS;simp (disch:=omega) only [SS,hw',e2,e3,e4,e5,ed,ea33,ea34,ea35,ea36,ea37,seval];rw [ed] at hv;rw [ea33,ea34,ea35,ea36,ea37] at hs0;refine (plive_c (hv.keep (nx':=nx+1) K0 (by omega)) hp hm hh hn (hs0.keep (nx':=nx+1) K0 (by omega)) hA hB).mono ?_;rintro _ h1' n1 ⟨rfl,hk1,hle1⟩;have g0:=hk1 nx (by omega);rw [hnew] at g0;have gw:=(hk1 pw (by omega)).trans hwN;have eX:∀ {o o'} d,d<nx→d≠pw→hget (hset (hset h1' nx o) pw o') d=hget h d:=fun d hd hd2=>by rw [hold (by omega),hold (by omega),hk1 d (by omega),hold (by omega),hold (by omega)]
 simp (disch:=omega) only [SS,g0,gw,seval];rw [zLu];refine ⟨by omega,by show 38<45; omega,?_⟩;refine (wsend_c (c:=upd c 38 (.bool true)) (f:=zNB 0 round (liveN k len round m A q:Int) false) (P:=P) (hnew _ _ _) (by omega) h1 h8 hi hj hc0 hc1 hc (ho.keep fun d hd=>?_) (fun d hd=>?_) hl).mono ?_
 ·have:=hP d hd;exact ⟨eX d (by omega) (by omega),hd⟩
 ·have:=hP d hd;exact ⟨this.1,by omega⟩
 rintro _ h3 n3 ⟨rfl,⟨v',P',hw3,S3,hP3⟩,hf3,hle3⟩;refine ⟨⟨v',P',hw3,S3,fun d hd=>?_⟩,fun d h1 h2 h3=>?_,by omega⟩
 ·have:=hP3 d hd;omega
 ·rw [hf3 d (by omega) h2 h3]; exact eX d h1 h2
def MatP (N nx:Nat) (h:Hp):KC':=fun r h' nx'=>∃ m ts,r = .tuple ⟨[m,.int .i64 0]⟩∧MOk N N ts∧RowsNw h' nx nx' m N N ts∧Keep nx h h'∧nx≤nx'
theorem ltp2 {x y:GE} (h:Ltp (gE x) (gE y)):Lt2 x y:=by
 rcases h with h | ⟨h1,h2⟩
 ·exact .inl (by have:(x.f:Int)<y.f:=h; omega)
 ·exact .inr ⟨by have:(x.f:Int)=y.f:=h1; omega,by have:(x.t:Int)<y.t:=h2; omega⟩
theorem zS3 {gs ts:List GE} {N:Nat} (h:IsCan (gs.map gE) (ts.map gE)) (hok:∀ g∈ts,GOk N g) (hN:N≤4096) (hl:ts.length≤120):MOk N N ts :=
 ⟨(List.pairwise_map.1 h.up).imp ltp2,fun g hg=>(hok g hg).1,fun g hg=>(hok g hg).2.1,hN,hN,hl⟩
theorem csrg2_c {s:Bool} {gs:List GE} {N:Nat} {h:Hp} {nx:Nat} {v:Value} (hv:SlPx h nx v encG gs) (hN:N≤4096) (hok:∀ g∈gs,GOk N g) (hl:gs.length≤120):Cv Q O s 132 [.agg ⟨[.int .i64 (N:Int),v]⟩] h nx (MatP N nx h):=by
 refine csrgv ?_;obtain ⟨a,cap,rfl,hc⟩:=id hv;unfold csrg aF bF cF iV lA lF nC nF nS pC;simp (disch:=omega) only [SS,seval];have K0:∀ {o o'},Keep nx h (hset (hset h nx o) (nx+1) o'):=((Keep.refl _ _).set (Nat.le_refl _)).set (Nat.le_succ _);refine (zMU (hv.keep K0 (by omega)) hN hok hl).mono ?_;rintro r h1 nx1 ⟨rfl,hk1,hle1⟩;have g0:=hk1 nx (by omega);rw [hold (by omega),hnew] at g0;have g4:=hk1 (nx+1) (by omega);rw [hnew] at g4;have K1:Keep nx h h1:=K0.trans hk1 (by omega);simp (disch:=omega) only [SS,g0,seval];refine (zPY (hv.keep K1 (by omega)) (by omega) hl hok).mono ?_;rintro r h2 nx2 ⟨v2,ts,rfl,hts,htc,htok,htl,hk2,hle2⟩;have htl2:ts.length≤gs.length:=Nat.le_trans htl (zAU gs);have hM:MOk N N ts:=zS3 htc htok hN (by omega);obtain ⟨a3,c3,rfl,hc3⟩:=id hts.nw;simp (disch:=omega) only [SS,seval];refine Lp.mk (CgJ nx (nx+1) N (.slice a3 ts.length c3) .nilFunc ts nx2 h2) ts.length ⟨0,_,rfl,by omega,rfl,.inl ⟨rfl,rfl⟩,Keep.refl _ _,Nat.le_refl _⟩ ?_;rintro m _ h3 nx3 ⟨i,o,rfl,hi,rfl,S,hk3,hle3⟩;rw [csrgb0];unfold zRs aF bF iV lA lF nC xF;simp (disch:=omega) only [SS,seval];refine ⟨fun hlt=>?_,fun hge=>?_⟩
 ·obtain ⟨e,he⟩:=zY hlt;obtain ⟨b,sp,ro,hb1,hb2,rfl,hb⟩:=hc3 (fun e0=>by rw [e0] at hlt; exact absurd hlt (Nat.not_lt_zero _));have hb3:=(hk3 b hb2).trans hb;simp (disch:=omega) only [SS,hb3,rd_e0 he,seval];refine zBe (enc:=encG) (k:=3) (lo:=nx2) (fun _=>rfl) (fun _=>rfl) (by omega) (S.keep (fun c h1 h2=>by rw [hold (by omega),hold (by omega),hold (by omega)]) (by omega)) (by omega) e (hnew _ _ _) rfl (by rw [List.length_take]; omega) fun v5 h5 hs5 hk5=>?_;have htk:ts.take (i+1)=ts.take i++[e]:=by rw [List.take_add_one,he]; rfl
  exact ⟨ts.length-(i+1),by omega,i+1,v5,rfl,by omega,by rw [zI (by omega)],by rw [htk]; exact hs5,fun c hc=>by rw [hk5 c hc,hold (by omega),hold (by omega),hold (by omega)]; exact hk3 c hc,by omega⟩
 ·have hie:i=ts.length:=by omega
  subst hie;rw [List.take_length] at S;have g03:=(hk3 nx (by omega)).trans ((hk2 nx (by omega)).trans g0);have g43:=(hk3 (nx+1) (by omega)).trans ((hk2 (nx+1) (by omega)).trans g4);have K3:Keep nx h h3:=(K1.trans hk2 (by omega)).trans hk3 (by omega);simp (disch:=omega) only [SS,g03,seval];refine (zIt (SlPx.of S.rd) hM).mono ?_;rintro r h6 nx6 ⟨hR,hk6,hle6⟩;obtain ⟨b1,sp,nn,a2,n2,c2,a4,n4,c4,rfl⟩:=hR.is.form;have g46:=(hk6 (nx+1) (by omega)).trans g43;simp (disch:=omega) only [SS,g46,seval];exact ⟨_,_,rfl,hM,hR.keep (fun c h1 h2=>hold (by omega)) (by omega) (Nat.le_refl _),fun c hc=>by rw [hold (by omega),hk6 c (by omega)]; exact K3 c hc,by omega⟩
theorem zRD {s:Bool} {k n src len gn:Int} {ds:List Int} {es:List Edg3} {vd ve:Value} {h:Hp} {nx:Nat} (hd:SlRd h nx vd za ds) (he:SlPx h nx ve enc3 es) (hel:es.length≤60) (hm0:matE k n src len ds gn es=0) :
  Cv Q O s 49 [.agg ⟨[.int .i64 k,.int .i64 n,.int .i64 src,.int .i64 len,vd]⟩,.agg ⟨[.int .i64 gn,ve]⟩] h nx (MatP gn.toNat nx h):=by
 refine zRC ?_;obtain ⟨a,cap,rfl,hc⟩:=id hd;obtain ⟨a2,cap2,rfl,hc2⟩:=id he;unfold zRE aF bF cF iV lA lF nC nS pC;simp (disch:=omega) only [SS,seval];have K0:∀ {o o' o''},Keep nx h (hset (hset (hset h nx o) (nx+1) o') (nx+1+1) o''):=(((Keep.refl _ _).set (Nat.le_refl _)).set (Nat.le_succ _)).set (by omega);refine (zEP (hd.keep K0 (by omega))).mono ?_;rintro r h1 nx1 ⟨rfl,hk1,hle1⟩;have gp:=hk1 nx (by omega);rw [hold (by omega),hold (by omega),hnew] at gp;have gg:=hk1 (nx+1) (by omega);rw [hold (by omega),hnew] at gg;have gm:=hk1 (nx+1+1) (by omega);rw [hnew] at gm;have K1:Keep nx h h1:=K0.trans hk1 (by omega);generalize hpe:zw k n src len ds=pe at *
 by_cases hp0:pe=0
 case neg =>
  exact absurd hm0 (by unfold matE; rw [hpe,if_pos hp0]; exact hp0)
 subst hp0;simp (disch:=omega) only [SS,gg,gp,seval];refine ⟨fun hne=>?_,fun heq=>?_⟩
 ·have hne:gn≠n:=by simpa using hne
  exact absurd hm0 (by unfold matE; rw [hpe,if_neg (by simp),if_pos hne]; decide)
 have heq:gn=n:=by simpa using heq
 have hmE:matE k n src len ds gn es=zr gn es:=by unfold matE; rw [hpe,if_neg (by simp),if_neg (by simp [heq])]
 refine (zKf (he.keep K1 (by omega))).mono ?_;rintro r h2 nx2 ⟨rfl,hk2,hle2⟩;have K2:=K1.trans hk2 (by omega);have gp2:=(hk2 nx (by omega)).trans gp;have gg2:=(hk2 (nx+1) (by omega)).trans gg;have gm2:=(hk2 (nx+1+1) (by omega)).trans gm
 by_cases hr0:zr gn es=0
 case neg =>
  exact absurd (hmE.symm.trans hm0) hr0
 rw [hr0] at hmE ⊢;obtain ⟨N,rfl,hN,hfl,hG⟩:=(rightE_V.1 hr0).ges;have hpx:=((he.keep K1 (by omega)).keep hk2 hle2).map hfl;rw [← List.length_map (f:=toG)] at hel;generalize hgs:es.map toG=gs at hel hG hpx;have hcl:es.length=gs.length:=by rw [← hgs,List.length_map]
 rw [hcl] at gg2 hpx;have S0:Sg N (nx+1) nx h h2 nx2 gs (.slice a2 gs.length cap2):=⟨gg2,gm2,hpx,hG,K2,by omega⟩
 rw [Int.toNat_natCast];have tail:∀ {h':Hp} {nx':Nat} {gs:List GE} {a:Option Addr} {n c:Nat},Sg N (nx+1) nx h h' nx' gs (.slice a n c)→nx≤nx'→gs.length≤120→zAb s (MatP N nx h) (.pointer (some ⟨nx+1,0,none⟩)) (.pointer (some ⟨nx+1+1,0,none⟩)) h' nx':=fun {h' nx' gs a n c} S hx hl=>by
  have hlt:=S.lt;unfold zAb cF lA;simp (disch:=omega) only [SS,S.g,seval];refine (csrg2_c S.p hN S.ok hl).mono ?_;rintro r h6 nx6 ⟨m,ts,rfl,hM,hR,hk6,hle6⟩;obtain ⟨b1,sp,nn,a2,n2,c2,a4,n4,c4,rfl⟩:=hR.is.form;have g6:=(hk6 _ S.lt).trans S.m;simp (disch:=omega) only [SS,g6,seval];exact ⟨_,_,rfl,hM,hR.keep (fun c h1 h2=>hold (by omega)) (by omega) (Nat.le_refl _),fun b hb=>by rw [hold (by omega),hk6 b (by omega)]; exact S.k b hb,by omega⟩
 have plain:∀ {h':Hp} {nx':Nat} {gs:List GE} {a:Option Addr} {n c:Nat},Sg N (nx+1) nx h h' nx' gs (.slice a n c)→nx≤nx'→gs.length≤120→Cv Q O s 131 [.agg ⟨[.int .i64 (N:Int),.slice a n c]⟩] h' nx' fun x65 h66 n67=>(zC x65).length=2∧RK (wrO (hget h66 (nx+1)) h66 (nx+1) 0 (zC x65)) fun h68=>zAb s (MatP N nx h) (.pointer (some ⟨nx+1,0,none⟩)) (.pointer (some ⟨nx+1+1,0,none⟩)) h68 n67:=fun {h' nx' gs a n c} S hx hl=>by
  refine (zQd S.p (by omega) hl S.ok).mono ?_;intro r h6 nx6 hr;obtain ⟨cs,a6,n6,c6,rfl,hcl,hq,hle,S6⟩:=S.put (by omega) hr;simp (disch:=omega) only [SS,hq,seval];exact tail S6 (by omega) (by have:=zAU (p:=fun _=>true) (m:=oneG) gs; unfold zGM at hcl; omega)
 have both:∀ {h':Hp} {nx':Nat} {gs:List GE} {a:Option Addr} {n c:Nat},Sg N (nx+1) nx h h' nx' gs (.slice a n c)→nx≤nx'→gs.length≤60→Cv Q O s 130 [.agg ⟨[.int .i64 (N:Int),.slice a n c]⟩] h' nx' fun x45 h46 n47=>(zC x45).length=2∧RK (wrO (hget h46 (nx+1)) h46 (nx+1) 0 (zC x45)) fun h48=>RK (zGu (hget h48 (nx+1)) fun cs x=>zAL (some 2) 0 cs) fun x64=>Cv Q O s 131 [x64] h48 n47 fun x65 h66 n67=>(zC x65).length=2∧RK (wrO (hget h66 (nx+1)) h66 (nx+1) 0 (zC x65)) fun h68=>zAb s (MatP N nx h) (.pointer (some ⟨nx+1,0,none⟩)) (.pointer (some ⟨nx+1+1,0,none⟩)) h68 n67:=fun {h' nx' gs a n c} S hx hl=>by
  refine (both_c S.p (by omega) hl S.ok).mono ?_;rintro r h6 nx6 ⟨ts,_,htl,_,hr⟩;obtain ⟨cs,a6,n6,c6,rfl,hcl,hq,hle,S6⟩:=S.put (by omega) hr;rw [List.length_append] at hcl;simp (disch:=omega) only [SS,hq,seval];exact plain S6 (by omega) (by omega)
 simp (disch:=omega) only [SS,gg2,gp2,seval];refine ⟨fun _=>?_,fun _=>⟨fun _=>both S0 (by omega) hel,fun _=>⟨fun _=>plain S0 (by omega) (by omega),fun _=>tail S0 (by omega) (by omega)⟩⟩⟩;refine (zMI S0.p (by omega) (by omega) hG).mono ?_;intro r h6 nx6 hr;obtain ⟨cs,a6,n6,c6,rfl,hcl,hq,hle,S6⟩:=S0.put (by omega) hr;have hml:=zAU (p:=zBo) (m:=id) gs;unfold zDa at hcl;simp (disch:=omega) only [SS,hq,seval];exact both S6 (by omega) (by omega)
def bmf (ts:List GE) (f k j:Nat):Int:=(stf ts j:Int)+(if f<j∧j<k then 1 else 0)
def bmL (ts:List GE) (f k r:Nat):List Int:=(List.range (r+1)).map fun j=>bmf ts f k j
theorem rm_ext {r:Nat} {g g':Nat→Int} (h:∀ j,j≤r→g j=g' j):(List.range (r+1)).map g=(List.range (r+1)).map g':=List.map_congr_left fun j hj=>h j (by have:=List.mem_range.1 hj; omega)
theorem zNZ {ts:List GE} {f k j r:Nat} (h:j≤r):(bmL ts f k r)[j]? = some (bmf ts f k j):=by
 unfold bmL;rw [List.getElem?_map,List.getElem?_range (by omega)]; rfl
theorem zNY {ts:List GE} {f k r:Nat}:(bmL ts f k r).length=r+1:=by unfold bmL; rw [List.length_map,List.length_range]
theorem bm_le {ts:List GE} {f k j:Nat}:0≤bmf ts f k j∧bmf ts f k j≤ts.length+1:=by
 have:stf ts j≤ts.length:=List.length_filter_le _ _;unfold bmf
 split <;> omega
theorem st_nil {r:Nat}:stL [] r=List.replicate (r+1) 0:=by
 unfold stL;exact List.eq_replicate_iff.2 ⟨by simp,fun b hb=>by obtain ⟨j,_,rfl⟩:=List.mem_map.1 hb; rfl⟩
theorem bm_begin {ts:List GE} {f r:Nat}:bmL ts f (f+1) r=stL ts r:=by
 unfold bmL stL;refine rm_ext fun j _=>?_;unfold bmf;rw [if_neg (by omega)]; omega
theorem bm_set {ts:List GE} {f k r:Nat} (hk:k≤r) (hf:f<k):(bmL ts f k r).set k (bmf ts f k k+1)=bmL ts f (k+1) r:=by
 apply List.ext_getElem?;intro j;rw [List.getElem?_set]
 by_cases hj:k=j
 ·subst hj;rw [if_pos rfl,zNY,if_pos (by omega),zNZ hk];unfold bmf;rw [if_neg (by omega),if_pos (by omega)]; rfl
 ·rw [if_neg hj]
  by_cases hjr:j≤r
  ·rw [zNZ hjr,zNZ hjr];unfold bmf
   congr 2
   by_cases h1:f<j∧j<k
   ·rw [if_pos h1,if_pos (by omega)]
   ·rw [if_neg h1,if_neg (by omega)]
  ·rw [List.getElem?_eq_none (by rw [zNY]; omega),List.getElem?_eq_none (by rw [zNY]; omega)]
theorem bm_end {ts:List GE} {i r:Nat} {e:GE} (he:ts[i]? = some e):bmL (ts.take i) e.f (r+1) r=stL (ts.take (i+1)) r:=by
 unfold bmL stL;refine rm_ext fun j hj=>?_;unfold bmf stf;rw [List.take_add_one,he,List.filter_append,List.length_append]
 by_cases h:e.f<j
 ·rw [if_pos ⟨h,by omega⟩];simp [h]
 ·rw [if_neg (by omega)];simp [h]
theorem zQE {s:Bool} {r c:Nat} {h:Hp} {nx:Nat} (hr:r≤4096):Cv Q O s 153 [.int .i64 (r:Int),.int .i64 (c:Int)] h nx (fun rr h' nx'=>rr = .agg ⟨[.int .i64 (r:Int),.int .i64 (c:Int),.slice (some ⟨nx+1,0,none⟩) (r+1) (r+1),.slice none 0 0,.slice none 0 0]⟩∧hget h' (nx+1)=some (.cells (ints (List.replicate (r+1) 0)) false)∧Keep nx h h'∧nx'=nx+1+1):=by
 refine zQD ?_;unfold zQF bF iV lA nC nS;have r0:List.replicate (r+1) (Value.int .i64 0)=ints (List.replicate (r+1) 0):=by simp [ints]
 simp (disch:=omega) only [SS,zI (show r<1000000000000 by omega),r0,seval];exact ((Keep.refl _ _).set (Nat.le_refl _)).set (Nat.le_succ _) |>.set (Nat.le_refl _)
def RvJ0 (N c p1 p7 p5 lo:Nat) (vt:Value) (ts:List GE) (h0:Hp) (m:Nat) (vs:List Value) (h':Hp) (nx':Nat):Prop :=
 ∃ (i:Nat) (vc vv:Value),m=ts.length-i∧i≤ts.length∧vs=[.int .i64 (N:Int),vt,.pointer (some ⟨p1,0,none⟩),.pointer (some ⟨p7,0,none⟩),.int .i64 (i:Int)] ∧
  hget h' p7=some (.cells [.int .i64 (N:Int),.int .i64 (c:Int),.slice (some ⟨p5,0,none⟩) (N+1) (N+1),vc,vv] false)∧hget h' p5=some (.cells (ints (stL (ts.take i) N)) false) ∧
  TwoI h' vc vv ((ts.take i).map fun e=>(e.t:Int)) ((ts.take i).map GE.w) lo nx'∧(∀ d,d<lo→d≠p7→d≠p5→hget h' d=hget h0 d)∧lo≤nx'
def RvJ1 (N p1 p7 p5 i f:Nat) (ts:List GE) (vt:Value) (h0:Hp) (nx:Nat) (m:Nat) (vs:List Value) (h':Hp) (nx':Nat):Prop :=
 ∃ (k:Nat),m=N+1-k∧f+1≤k∧k≤N+1∧vs=[.int .i64 (N:Int),vt,.pointer (some ⟨p1,0,none⟩),.pointer (some ⟨p7,0,none⟩),.int .i64 (i:Int),.int .i64 (k:Int)] ∧
  hget h' p5=some (.cells (ints (bmL (ts.take i) f k N)) false)∧(∀ d,d≠p5→hget h' d=hget h0 d)∧nx'=nx
theorem zJS {s:Bool} {N c:Nat} {ts:List GE} {v:Value} {h:Hp} {nx:Nat} (hv:SlPx h nx v encG ts) (M:MOk N c ts) :
  Cv Q O s 245 [.int .i64 (N:Int),.int .i64 (c:Int),v] h nx (zEe N c ts nx h):=by
 refine zQM ?_;have hN:=M.hr;have hcc:=M.hc;have hl:=M.len;obtain ⟨a,cap,rfl,hc⟩:=id hv;unfold zQN cF iV lA nC nS;simp (disch:=omega) only [SS,seval];refine (zQE hN).mono ?_;rintro r h1 _ ⟨rfl,hb1,hk1,rfl⟩;have g0:=hk1 nx (by omega);rw [hnew] at g0;simp (disch:=omega) only [SS,seval];refine Lp.mk (RvJ0 N c nx (nx+1+1+1) (nx+1+1) (nx+1+1+1+1) (.slice a ts.length cap) ts h1) ts.length ⟨0,_,_,rfl,by omega,rfl,hnew _ _ _,by rw [hold (by omega),hold (by omega),List.take_zero,st_nil]; exact hb1,.inl ⟨rfl,rfl,rfl,rfl⟩,fun d h1 h2 h3=>by rw [hold h2,hold h2],Nat.le_refl _⟩ ?_;rintro m _ h2 nx2 ⟨i,vc,vv,rfl,hi,rfl,g7,g5,T,hf,hle⟩;obtain ⟨o1,o2,G1,G2,B1,B2⟩:=T.gr;obtain ⟨a1,n1,c1,a2,n2,c2,rfl,rfl⟩:=T.form;rw [zM1];unfold zIN aF bF iV lF nF xF;simp (disch:=omega) only [SS,seval];refine ⟨fun hlt=>?_,fun hge=>?_⟩
 ·obtain ⟨e,he⟩:=zY hlt;have hef:e.f<N:=M.rows e (List.mem_of_getElem? he);obtain ⟨_,b,sp,ro,cx,cs,hb,e1,hg⟩:=hv.at he;cases e1;have hg2:=(hf b (by omega) (by omega) (by omega)).trans ((hk1 b (by omega)).trans ((hold (by omega)).trans hg));obtain ⟨r0,r1,r2⟩:=rd_f (cs:=cs) he;have hcl:((ts.take i).map fun e=>(e.t:Int)).length=i:=by rw [List.length_map,List.length_take]; omega
  have hvl:((ts.take i).map GE.w).length=i:=by rw [List.length_map,List.length_take]; omega
  simp (disch:=omega) only [SS,hg2,r1,g7,seval];refine zBM (G1.keep fun c hc=>by have:=B1 c hc; rw [hold (by omega)]) (hnew _ _ _) (by omega) fun h3 hn3 hf3=>?_;have g73:hget h3 (nx+1+1+1)=some (.cells [.int .i64 (N:Int),.int .i64 (c:Int),.slice (some ⟨nx+1+1,0,none⟩) (N+1) (N+1),.slice a1 n1 c1,.slice a2 n2 c2] false):=by
   rw [hf3 _ (by omega) (fun e=>by have:=B1 _ e; omega),hold (by omega)]; exact g7
  have ge3:hget h3 b=some (.cells (flat encG ts++cs) ro):=by
   rw [hf3 _ (by omega) (fun e=>by have:=B1 _ e; omega),hold (by omega)]; exact hg2
  refine ⟨by omega,?_⟩;simp (disch:=omega) only [SS,g73,ge3,r2,seval];refine zBM (G2.keep fun c hc=>?_) (hnew _ _ _) (by omega) fun h4 hn4 hf4=>?_
  ·have:=B2 c hc;rw [hold (by omega),hold (by omega),hf3 c (by omega) (fun e=>(B1 c e).2.2 hc),hold (by omega)]
  have g74:hget h4 (nx+1+1+1)=some (.cells [.int .i64 (N:Int),.int .i64 (c:Int),.slice (some ⟨nx+1+1,0,none⟩) (N+1) (N+1),.slice (some ⟨nx2+1,0,some 1⟩) (((ts.take i).map fun e=>(e.t:Int)).length+1) (((ts.take i).map fun e=>(e.t:Int)).length+1),.slice a2 n2 c2] false):=by
   rw [hf4 _ (by omega) (fun e=>by have:=B2 _ e; omega),hold (by omega),hnew]
  have ge4:hget h4 b=some (.cells (flat encG ts++cs) ro):=by
   rw [hf4 _ (by omega) (fun e=>by have:=B2 _ e; omega),hold (by omega),hold (by omega)]; exact ge3
  refine ⟨by omega,?_⟩;simp (disch:=omega) only [SS,g74,ge4,r0,seval];have htk:ts.take (i+1)=ts.take i++[e]:=by rw [List.take_add_one,he]; rfl
  have hfr:∀ c,c<nx+1+1+1+1→c≠nx+1+1+1→hget h4 c=hget h2 c:=fun c h1 h2=>by
   rw [hf4 c (by omega) (fun e=>by have:=B2 _ e; omega),hold (by omega),hold (by omega),hf3 c (by omega) (fun e=>by have:=B1 _ e; omega),hold (by omega)]
  have hw1:IntKind.wrap .i64 ((e.f:Int)+1)=((e.f+1:Nat):Int):=zI (by omega);rw [hw1];generalize hH:hset h4 (nx+1+1+1) _=H;have H7:hget H (nx+1+1+1)=some (.cells [.int .i64 (N:Int),.int .i64 (c:Int),.slice (some ⟨nx+1+1,0,none⟩) (N+1) (N+1),.slice (some ⟨nx2+1,0,some 1⟩) (((ts.take i).map fun e=>(e.t:Int)).length+1) (((ts.take i).map fun e=>(e.t:Int)).length+1),.slice (some ⟨nx2+1+1+1,0,some 1⟩) (((ts.take i).map GE.w).length+1) (((ts.take i).map GE.w).length+1)] false):=by rw [← hH]; exact hnew _ _ _
  have Hf:∀ c,c≠nx+1+1+1→hget H c=hget h4 c:=fun c hc=>by rw [← hH]; exact hold hc
  refine Lp.mk (RvJ1 N nx (nx+1+1+1) (nx+1+1) i e.f ts (.slice (some ⟨b,0,sp⟩) ts.length cap) H (nx2+1+1+1+1)) (N+1-(e.f+1)) ⟨e.f+1,rfl,by omega,by omega,rfl,by rw [Hf _ (by omega),hfr _ (by omega) (by omega),bm_begin]; exact g5,fun _ _=>rfl,rfl⟩ ?_;rintro m _ h5 _ ⟨k,rfl,hk1',hk2,rfl,g55,hf5,rfl⟩;rw [zM0];unfold zIM aF bF iV lF xF;have g75:=(hf5 (nx+1+1+1) (by omega)).trans H7
  by_cases hkN:k≤N
  ·have hx:=zNZ (ts:=ts.take i) (f:=e.f) (k:=k) (show k≤N by omega);have hxb:=bm_le (ts:=ts.take i) (f:=e.f) (k:=k) (j:=k);have htl:(ts.take i).length≤120:=by rw [List.length_take]; omega
   generalize hgx:bmf (ts.take i) e.f k k=x at hx hxb;have hwx:IntKind.wrap .i64 (x+1)=x+1:=zAf (by omega) (by omega);have hll:(bmL (ts.take i) e.f k N).length=N+1:=zNY;simp (disch:=omega) only [SS,show (k:Int)≤(N:Int) by omega,hkN,g75,g55,zI (show k<1000000000000 by omega),zO hx,hwx,seval];refine ⟨fun _=>⟨by omega,?_⟩,fun h=>absurd h (by omega)⟩;exact ⟨N+1-(k+1),by omega,k+1,rfl,by omega,by omega,rfl,by rw [hnew,← hgx,bm_set hkN (by omega)],fun d h3=>by rw [hold h3]; exact hf5 d h3,rfl⟩
  ·have hkk:k=N+1:=by omega
   subst hkk;simp (disch:=omega) only [SS,show ¬ ((N+1:Nat):Int)≤(N:Int) by omega,hkN,seval];refine ⟨fun h=>absurd h (by omega),fun _=>?_⟩;refine ⟨ts.length-(i+1),by omega,i+1,_,_,rfl,by omega,by rw [zI (by omega)],g75,by rw [← bm_end he]; exact g55,.inr ⟨nx2+1,nx2+1+1+1,by omega,by omega,by omega,by omega,by omega,?_,?_,?_,?_⟩,fun c h1 h2 h3=>?_,by omega⟩
   ·rw [htk,List.map_append,List.length_append]; rfl
   ·rw [htk,List.map_append,List.length_append]; rfl
   ·rw [hf5 _ (by omega),Hf _ (by omega),hf4 _ (by omega) (fun e=>by have:=B2 _ e; omega),hold (by omega),hold (by omega),hn3,htk,List.map_append]; rfl
   ·rw [hf5 _ (by omega),Hf _ (by omega),hn4,htk,List.map_append]; rfl
   ·rw [hf5 c h3,Hf c h2,hfr c h1 h2]; exact hf c h1 h2 h3
 ·have hie:i=ts.length:=by omega
  subst hie;rw [List.take_length] at T g5;have gp:=(hf nx (by omega) (by omega) (by omega)).trans g0;simp (disch:=omega) only [SS,g7,gp,seval];have C2:ColN (hset h2 nx (.cells [.int .i64 (N:Int),.int .i64 (c:Int),.slice (some ⟨nx+1+1,0,none⟩) (N+1) (N+1),.slice a1 n1 c1,.slice a2 n2 c2] false)) nx nx2 (.slice a1 n1 c1) (tsT ts)∧ColN (hset h2 nx (.cells [.int .i64 (N:Int),.int .i64 (c:Int),.slice (some ⟨nx+1+1,0,none⟩) (N+1) (N+1),.slice a1 n1 c1,.slice a2 n2 c2] false)) nx nx2 (.slice a2 n2 c2) (tsW ts):=by
   rcases T with ⟨e1,e2,e3,e4⟩ | ⟨b1,b2,hne,x1,x2,x3,x4,e3,e4,y1,y2⟩
   ·exact ⟨⟨none,.inl ⟨e1,e3,rfl⟩,fun c e=>by cases e⟩,⟨none,.inl ⟨e2,e4,rfl⟩,fun c e=>by cases e⟩⟩
   ·refine ⟨⟨some b1,.inr ⟨b1,rfl,e3,?_⟩,fun c e=>by cases e; omega⟩,⟨some b2,.inr ⟨b2,rfl,e4,?_⟩,fun c e=>by cases e; omega⟩⟩
    ·rw [hold (by omega),zS]; exact y1
    ·rw [hold (by omega),zS]; exact y2
  refine ⟨⟨nx+1+1,none,N+1,_,_,rfl,by omega,by omega,?_,C2.1,C2.2⟩,fun d hd=>?_,by omega⟩
  ·rw [hold (by omega)]; exact g5
  ·rw [hold (by omega),hf d (by omega) (by omega) (by omega),hk1 d (by omega),hold (by omega)]
theorem zPz {s:Bool} {gs:List GE} {N:Nat} {h:Hp} {nx:Nat} {v:Value} (hv:SlPx h nx v encG gs) (hN:N≤4096) (hok:∀ g∈gs,GOk N g) (hl:gs.length≤120):Cv Q O s 150 [.agg ⟨[.int .i64 (N:Int),v]⟩] h nx (MatP N nx h):=by
 refine zPy ?_;obtain ⟨a,cap,rfl,hc⟩:=id hv;unfold zQA aF bF cF iV lA lF nC nS pC;simp (disch:=omega) only [SS,seval];have K0:∀ {o o'},Keep nx h (hset (hset h nx o) (nx+1) o'):=((Keep.refl _ _).set (Nat.le_refl _)).set (Nat.le_succ _);refine (zJQ (hv.keep K0 (by omega)) hN hok hl).mono ?_;rintro r h1 nx1 ⟨rfl,hk1,hle1⟩;have g0:=hk1 nx (by omega);rw [hold (by omega),hnew] at g0;have g4:=hk1 (nx+1) (by omega);rw [hnew] at g4;have K1:Keep nx h h1:=K0.trans hk1 (by omega);simp (disch:=omega) only [SS,g0,seval];refine (zKa (hv.keep K1 (by omega)) hN hl hok).mono ?_;rintro r h2 nx2 ⟨v2,ts,rfl,hts,htc,htok,htl,hk2,hle2⟩;have htl2:ts.length≤gs.length:=Nat.le_trans htl (zAU gs);have hM:MOk N N ts:=zS3 htc htok hN (by omega);obtain ⟨a3,c3,rfl,hc3⟩:=id hts.nw;simp (disch:=omega) only [SS,seval];refine Lp.mk (RgJ nx (nx+1) nx2 N ts (nx2+1) (hset (hset h2 nx2 (.cells [.int .i64 0,.slice none 0 0] false)) nx2 (.cells [.int .i64 (N:Int),.slice a3 ts.length c3] false))) ts.length ⟨0,_,rfl,by omega,rfl,.inl ⟨rfl,rfl⟩,Keep.refl _ _,Nat.le_refl _⟩ ?_;rintro m _ h3 nx3 ⟨i,o,rfl,hi,rfl,S,hk3,hle3⟩;obtain ⟨a5,n5,c5,rfl⟩:=S.form;have gt:=hk3 nx2 (by omega);rw [hnew] at gt;rw [zMV];unfold zIL aF bF iV lF nF xF;simp (disch:=omega) only [SS,gt,seval];refine ⟨fun hlt=>?_,fun hge=>?_⟩
 ·obtain ⟨e,he⟩:=zY hlt;obtain ⟨b,sp,ro,hb1,hb2,rfl,hb⟩:=hc3 (fun e0=>by rw [e0] at hlt; exact absurd hlt (Nat.not_lt_zero _));have hb3:=(hk3 b (by omega)).trans ((hold (by omega)).trans ((hold (by omega)).trans hb));obtain ⟨r0,r1,r2⟩:=rd_f (cs:=[]) he;rw [List.append_nil] at r0 r1 r2;simp (disch:=omega) only [SS,hb3,r0,r1,r2,seval];refine zBe (enc:=encG) (k:=3) (lo:=nx2+1) (fun _=>rfl) (fun _=>rfl) (by omega) (S.keep (fun c h1 h2=>by rw [hold (by omega)]) (by omega)) (by omega) e (hnew _ _ _) rfl (by rw [List.length_take]; omega) fun v5 h5 hs5 hk5=>?_;have htk:ts.take (i+1)=ts.take i++[e]:=by rw [List.take_add_one,he]; rfl
  simp (disch:=omega) only [SS,zI (show i<1000000000000 by omega),seval];exact ⟨by omega,ts.length-(i+1),by omega,i+1,v5,rfl,by omega,rfl,by rw [htk]; exact hs5,fun c hc=>by rw [hk5 c hc,hold (by omega)]; exact hk3 c hc,by omega⟩
 ·have hie:i=ts.length:=by omega
  subst hie;rw [List.take_length] at S;have g03:=hk3 nx (by omega);rw [hold (by omega),hold (by omega),hk2 nx (by omega),g0] at g03;have g43:=hk3 (nx+1) (by omega);rw [hold (by omega),hold (by omega),hk2 (nx+1) (by omega),g4] at g43;have K3:Keep nx h h3:=fun c hc=>by rw [hk3 c (by omega),hold (by omega),hold (by omega),hk2 c (by omega)]; exact K1 c hc
  simp (disch:=omega) only [SS,g03,seval];refine (zJS (SlPx.of S.rd) hM).mono ?_;rintro r h6 nx6 ⟨hR,hk6,hle6⟩;obtain ⟨b1,sp,nn,a2,n2,c2,a4,n4,c4,rfl⟩:=hR.is.form;have g46:=(hk6 (nx+1) (by omega)).trans g43;simp (disch:=omega) only [SS,g46,seval];exact ⟨_,_,rfl,hM,hR.keep (fun c h1 h2=>hold (by omega)) (by omega) (Nat.le_refl _),fun c hc=>by rw [hold (by omega),hk6 c (by omega)]; exact K3 c hc,by omega⟩
theorem zNo {s:Bool} {k n src len gn:Int} {ds:List Int} {es:List Edg3} {vd ve:Value} {h:Hp} {nx:Nat} (hd:SlRd h nx vd za ds) (he:SlPx h nx ve enc3 es) (hel:es.length≤60) (hm0:matE k n src len ds gn es=0) :
  Cv Q O s 57 [.agg ⟨[.int .i64 k,.int .i64 n,.int .i64 src,.int .i64 len,vd]⟩,.agg ⟨[.int .i64 gn,ve]⟩] h nx (MatP gn.toNat nx h):=by
 refine zMS ?_;obtain ⟨a,cap,rfl,hc⟩:=id hd;obtain ⟨a2,cap2,rfl,hc2⟩:=id he;unfold zKd aF bF cF iV lA lF nC nS pC;simp (disch:=omega) only [SS,seval];have K0:∀ {o o' o''},Keep nx h (hset (hset (hset h nx o) (nx+1) o') (nx+1+1) o''):=(((Keep.refl _ _).set (Nat.le_refl _)).set (Nat.le_succ _)).set (by omega);refine (zDB (hd.keep K0 (by omega))).mono ?_;rintro r h1 nx1 ⟨rfl,hk1,hle1⟩;have gp:=hk1 nx (by omega);rw [hold (by omega),hold (by omega),hnew] at gp;have gg:=hk1 (nx+1) (by omega);rw [hold (by omega),hnew] at gg;have gm:=hk1 (nx+1+1) (by omega);rw [hnew] at gm;have K1:Keep nx h h1:=K0.trans hk1 (by omega);generalize hpe:zw k n src len ds=pe at *
 by_cases hp0:pe=0
 case neg =>
  exact absurd hm0 (by unfold matE; rw [hpe,if_pos hp0]; exact hp0)
 subst hp0;simp (disch:=omega) only [SS,gg,gp,seval];refine ⟨fun hne=>?_,fun heq=>?_⟩
 ·have hne:gn≠n:=by simpa using hne
  exact absurd hm0 (by unfold matE; rw [hpe,if_neg (by simp),if_pos hne]; decide)
 have heq:gn=n:=by simpa using heq
 have hmE:matE k n src len ds gn es=zr gn es:=by unfold matE; rw [hpe,if_neg (by simp),if_neg (by simp [heq])]
 refine (zII (he.keep K1 (by omega))).mono ?_;rintro r h2 nx2 ⟨rfl,hk2,hle2⟩;have K2:=K1.trans hk2 (by omega);have gp2:=(hk2 nx (by omega)).trans gp;have gg2:=(hk2 (nx+1) (by omega)).trans gg;have gm2:=(hk2 (nx+1+1) (by omega)).trans gm
 by_cases hr0:zr gn es=0
 case neg =>
  exact absurd (hmE.symm.trans hm0) hr0
 rw [hr0] at hmE ⊢;obtain ⟨N,rfl,hN,hfl,hG⟩:=(rightE_V.1 hr0).ges;have hpx:=((he.keep K1 (by omega)).keep hk2 hle2).map hfl;rw [← List.length_map (f:=toG)] at hel;generalize hgs:es.map toG=gs at hel hG hpx;have hcl:es.length=gs.length:=by rw [← hgs,List.length_map]
 rw [hcl] at gg2 hpx;have S0:Sg N (nx+1) nx h h2 nx2 gs (.slice a2 gs.length cap2):=⟨gg2,gm2,hpx,hG,K2,by omega⟩
 rw [Int.toNat_natCast];have tail:∀ {h':Hp} {nx':Nat} {gs:List GE} {a:Option Addr} {n c:Nat},Sg N (nx+1) nx h h' nx' gs (.slice a n c)→nx≤nx'→gs.length≤120→zAQ s (MatP N nx h) (.pointer (some ⟨nx+1,0,none⟩)) (.pointer (some ⟨nx+1+1,0,none⟩)) h' nx':=fun {h' nx' gs a n c} S hx hl=>by
  have hlt:=S.lt;unfold zAQ cF lA;simp (disch:=omega) only [SS,S.g,seval];refine (zPz S.p hN S.ok hl).mono ?_;rintro r h6 nx6 ⟨m,ts,rfl,hM,hR,hk6,hle6⟩;obtain ⟨b1,sp,nn,a2,n2,c2,a4,n4,c4,rfl⟩:=hR.is.form;have g6:=(hk6 _ S.lt).trans S.m;simp (disch:=omega) only [SS,g6,seval];exact ⟨_,_,rfl,hM,hR.keep (fun c h1 h2=>hold (by omega)) (by omega) (Nat.le_refl _),fun b hb=>by rw [hold (by omega),hk6 b (by omega)]; exact S.k b hb,by omega⟩
 have plain:∀ {h':Hp} {nx':Nat} {ms:List GE} {v:Value} {hx:Hp} {nxx:Nat} {gs:List GE} {va:Value},SlPx h' nx' v encG ms→(∀ g∈ms,GOk N g)→ms.length≤120→Sg N (nx+1) nx h h' nx' gs va→nx≤nx'→Cv Q O s 147 [.agg ⟨[.int .i64 (N:Int),v]⟩] h' nx' fun x65 h66 n67=>(zC x65).length=2∧RK (wrO (hget h66 (nx+1)) h66 (nx+1) 0 (zC x65)) fun h68=>zAQ s (MatP N nx h) (.pointer (some ⟨nx+1,0,none⟩)) (.pointer (some ⟨nx+1+1,0,none⟩)) h68 n67:=fun {h' nx' ms v hx nxx gs va} hv hok hl S hx=>by
  refine (zMR hv hN hl hok).mono ?_;intro r h6 nx6 hr;obtain ⟨cs,a6,n6,c6,rfl,hcl,hq,hle,S6⟩:=S.put (by omega) hr;simp (disch:=omega) only [SS,hq,seval];exact tail S6 (by omega) (by have:=zAU (p:=fun _=>true) (m:=oneG) ms; unfold zGM at hcl; omega)
 have next:∀ {h' h6:Hp} {nx' nx6:Nat} {gs:List GE} {va:Value},Sg N (nx+1) nx h h' nx' gs va→Keep nx' h' h6→nx'≤nx6→Sg N (nx+1) nx h h6 nx6 gs va:=fun {h' h6 nx' nx6 gs va} S hk hle=>by
  have:=S.lt;exact ⟨by rw [hk _ (by omega)]; exact S.g,by rw [hk _ (by omega)]; exact S.m,S.p.keep hk hle,S.ok,fun b hb=>by rw [hk b (by omega)]; exact S.k b hb,by omega⟩
 have both:∀ {h':Hp} {nx':Nat} {ms:List GE} {v:Value} {gs:List GE} {va:Value},SlPx h' nx' v encG ms→(∀ g∈ms,GOk N g)→ms.length≤60→Sg N (nx+1) nx h h' nx' gs va→nx≤nx'→Cv Q O s 148 [.agg ⟨[.int .i64 (N:Int),v]⟩] h' nx' fun x44 h45 n46=>Cv Q O s 147 [x44] h45 n46 fun x47 h48 n49=>(zC x47).length=2∧RK (wrO (hget h48 (nx+1)) h48 (nx+1) 0 (zC x47)) fun h50=>zAQ s (MatP N nx h) (.pointer (some ⟨nx+1,0,none⟩)) (.pointer (some ⟨nx+1+1,0,none⟩)) h50 n49:=fun {h' nx' ms v gs va} hv hok hl S hx=>by
  refine (zQO hv hN hl hok).mono ?_;rintro r h6 nx6 ⟨ts,_,htl,_,v6,cs,rfl,hcs,_,hcok,hcl,hk6,hle6⟩;rw [List.length_append] at hcl;exact plain (hx:=h) (nxx:=0) (SlPx.of hcs.rd) hcok (by omega) (next S hk6 hle6) (by omega)
 simp (disch:=omega) only [SS,gg2,gp2,seval];refine ⟨fun _=>plain (hx:=h) (nxx:=0) S0.p hG (by omega) S0 (by omega),fun _=>⟨fun _=>both S0.p hG hel S0 (by omega),fun _=>⟨fun _=>?_,fun _=>tail S0 (by omega) (by omega)⟩⟩⟩;refine (zJP S0.p hN (by omega) hG).mono ?_;rintro r h6 nx6 ⟨v6,cs,rfl,hcs,_,hcok,hcl,hk6,hle6⟩;have hml:=zAU (p:=zBo) (m:=id) gs;unfold zDa at hcl;exact both (SlPx.of hcs.rd) hcok (by omega) (next S0 hk6 hle6) (by omega)
theorem appA_k {h:Hp} {nx b b2 n c2 k:Nat} {sp2:Option Nat} {ro rd:Bool} {l cs:List Value} (hk:0<k) (hn:l.length=n*k) (hd:hget h b=some (.cells cs rd)) (hb:hget h b2=some (.cells l ro)) (h0:0<n) (h1:n*k<1000000) :
  zH k h nx (.slice (some ⟨b,0,none⟩) 0 0) (.slice (some ⟨b2,0,sp2⟩) n c2) = .ok (.val (.slice (some ⟨nx,0,some k⟩) n n) (hset h nx (.cells l false)) (nx+1)):=by
 have hnk:n≤n*k:=Nat.le_mul_of_pos_right n hk;have hr:zCb h (some ⟨b2,0,sp2⟩) (n.mul k) (fun new=>zAa k h nx (some ⟨b,0,none⟩) 0 0 n new)=zAa k h nx (some ⟨b,0,none⟩) 0 0 n l:=by
  rw [show n.mul k=l.length from hn.symm,zBR hb (by omega) (by omega)];rw [List.drop_zero,List.take_of_length_le (by omega)]
 show zCb h (some ⟨b2,0,sp2⟩) (n.mul k) (fun new=>zAa k h nx (some ⟨b,0,none⟩) 0 0 n new)=_;rw [hr];unfold zAa;rw [show Nat.ble (Nat.add 0 n) 0=false by
  cases hb:Nat.ble (Nat.add 0 n) 0 with
  | false=>rfl
  | true=>have:=Nat.le_of_ble_eq_true hb; have:0+n≤0:=this; omega]
 rw [show (Nat.ble (Nat.mul (Nat.add 0 n) k) 1000000&&Nat.ble (Nat.add 0 n) 1000000)=true by
  simp only [Bool.and_eq_true,Nat.ble_eq];exact ⟨by show (0+n)*k≤_; rw [Nat.zero_add]; omega,by show 0+n≤_; omega⟩]
 show zEB h nx k (some ⟨b,0,none⟩) 0 0 (0+n) l=_;unfold zEB;simp only [zB hd];rw [show lcut (Nat.mul 0 k) (zBy cs 0)=some [] by rw [Nat.mul_eq,Nat.zero_mul]; rfl];show zE1 h nx k (lapp [] l) (0+n)=_;rw [zm,List.nil_append,Nat.zero_add];exact zBD hk
def encC (c:Int × Int):List Value:=[.int .i64 c.1,.int .i64 c.2]
theorem encC_len (l:List (Int × Int)):(flat encC l).length=l.length*2:=by
 induction l with
 | nil=>rfl
 | cons x l ih=>show (encC x++flat encC l).length=_; rw [List.length_append,ih,List.length_cons]; show 2+_=_; omega
theorem ty29:zAp Tryz.prog 29=true:=by kernel_rfl
theorem clonec_c {s:Bool} {h:Hp} {nx:Nat} {v:Value} {l:List (Int × Int)} (hv:SlRd h nx v encC l) (hl:l.length<100000) :
  Cv Q O s 50 [v] h nx (fun r h' nx'=>SlNw h' nx nx' r encC l∧Keep nx h h'∧nx≤nx'):=by
 refine clonecv ?_;obtain ⟨a,cap,rfl,hc⟩:=id hv;unfold clonec bF nS;simp (disch:=omega) only [SS,zN0 ty29,seval];refine ⟨fun h0=>⟨?_,Keep.refl _ _⟩,fun h0=>?_⟩
 ·have:l=[]:=by
   rcases Classical.em (l=[]) with e | e
   ·exact e
   ·obtain ⟨b,sp,ro,_,rfl,_⟩:=hc e;cases h0
  subst this;exact ⟨none,0,rfl,fun h=>absurd rfl h⟩
 have K1:Keep nx h (hset h nx (.cells [] false)):=(Keep.refl _ _).set (Nat.le_refl _);rcases Classical.em (l=[]) with e | e
 ·subst e;show SlNw _ _ _ (.slice (some ⟨nx,0,none⟩) 0 0) _ _∧_∧_;exact ⟨⟨some ⟨nx,0,none⟩,0,rfl,fun h=>absurd rfl h⟩,K1,by omega⟩
 ·obtain ⟨b,sp,ro,hb,rfl,hg⟩:=hc e;rw [appA_k (l:=flat encC l) (by omega) (encC_len _) (hnew _ _ _) ((K1 b hb).trans hg) (List.length_pos_iff.2 e) (by omega)];exact ⟨⟨some ⟨nx+1,0,some 2⟩,l.length,rfl,fun _=>⟨nx+1,some 2,false,by omega,by omega,rfl,hnew _ _ _⟩⟩,K1.set (by omega),by omega⟩
def newE (x:Stp) (i j:Int):Int:=if stpE x≠0 then stpE x else if i<0∨x.R≤i∨j<0∨x.C≤j then 3 else 0
def NewK (e:Int) (nx:Nat) (h:Hp):KC':=fun r h' nx'=>(∃ p,r = .tuple ⟨[.pointer p,.int .i64 e]⟩∧(p=none↔e≠0))∧Keep nx h h'∧nx≤nx'
theorem zP7 {x:Stp} (h:stpE x=0):matE x.k x.n x.src x.len x.ds x.gn x.es=0∧zw x.k x.n x.src x.len x.ds=0∧x.gn=x.n∧0≤x.n∧x.n≤4096∧1≤x.R∧x.R≤8∧1≤x.C∧x.C≤8∧x.nch≤8192:=by
 unfold stpE at h
 by_cases h0:mchE x.k x.n x.src x.len x.ds x.gn x.es x.lim=0
 case neg=>rw [if_pos h0] at h; exact absurd h h0
 rw [if_neg (by simp [h0])] at h;have hR:sd x.R 8=true:=by
  cases e:sd x.R 8 with
  | true=>rfl
  | false=>rw [e] at h; simp at h
 have hC:sd x.C 8=true:=by
  cases e:sd x.C 8 with
  | true=>rfl
  | false=>rw [hR,e] at h; simp at h
 have hM:sd x.M 64=true:=by
  cases e:sd x.M 64 with
  | true=>rfl
  | false=>rw [hR,hC,e] at h; simp at h
 rw [hR,hC,hM,if_neg (by simp),if_neg (by simp),if_neg (by simp)] at h;have hn:x.nch≤8192:=by
  by_cases e:8192<x.nch
  ·rw [if_pos e] at h; cases h
  ·omega
 unfold sd at hR hC;have hR:=of_decide_eq_true hR;have hC:=of_decide_eq_true hC;have hm:matE x.k x.n x.src x.len x.ds x.gn x.es=0:=by
  unfold mchE at h0
  by_cases e:matE x.k x.n x.src x.len x.ds x.gn x.es=0
  ·exact e
  ·rw [if_pos e] at h0; exact absurd h0 e
 have hp:zw x.k x.n x.src x.len x.ds=0:=by
  unfold matE at hm
  by_cases e:zw x.k x.n x.src x.len x.ds=0
  ·exact e
  ·rw [if_pos e] at hm; exact absurd hm e
 unfold matE at hm ⊢;rw [if_neg (by simp [hp])] at hm ⊢
 by_cases e:x.gn=x.n
 case neg=>rw [if_pos e] at hm; cases hm
 rw [if_neg (by simp [e])] at hm ⊢;have hr:=hm;unfold zr at hr
 by_cases e1:x.gn<0
 ·rw [if_pos e1] at hr; cases hr
 rw [if_neg e1] at hr
 by_cases e2:4096<x.gn∨65536<x.es.length
 ·rw [if_pos e2] at hr; cases hr
 exact ⟨hm,hp,e,by omega,by omega,hR.1,hR.2,hC.1,hC.2,hn⟩
def wk0 (I J k n src len:Int) (ad:Option Addr) (nd cd:Nat) (R C lim:Int) (ac:Option Addr) (nc cc:Nat):Nat→Value
 | 0=>.int .i64 I
 | 1=>.int .i64 J
 | 2=>.int .i64 k
 | 3=>.int .i64 n
 | 4=>.int .i64 src
 | 5=>.int .i64 len
 | 6=>.slice ad nd cd
 | 7=>.int .i64 R
 | 8=>.int .i64 C
 | 9=>.int .i64 lim
 | 10=>.slice ac nc cc
 | 11=>.int .i64 0
 | 12=>.int .i64 0
 | 13=>.slice none 0 0
 | 14=>.slice none 0 0
 | 15=>.slice none 0 0
 | 16=>.int .i64 0
 | 17=>.int .i64 0
 | 18=>.slice none 0 0
 | 19=>.slice none 0 0
 | 20=>.slice none 0 0
 | 21=>.slice none 0 0
 | 22=>.slice none 0 0
 | 23=>.int .i64 1
 | 24=>.map none
 | 25=>.int .i64 1
 | 26=>.int .i64 0
 | 27=>.int .i64 0
 | 28=>.int .i64 0
 | 29=>.int .i64 0
 | 30=>.slice none 0 0
 | 31=>.slice none 0 0
 | 32=>.slice none 0 0
 | 33=>.int .i64 0
 | 34=>.int .i64 0
 | 35=>.slice none 0 0
 | 36=>.slice none 0 0
 | 37=>.slice none 0 0
 | 38=>.bool false
 | 39=>.bool false
 | 40=>.slice none 0 0
 | 41=>.map none
 | 42=>.int .i64 0
 | 43=>.map none
 | 44=>.bool false
 | _=>.bool false
theorem wk0_fill {I J k n src len R C lim:Int} {ad ac:Option Addr} {nd cd nc cc:Nat}:((zAH (zD8 [(7,2,Value.agg ⟨[.int .i64 R,.int .i64 C]⟩),(9,1,.int .i64 lim),(10,1,.slice ac nc cc),(23,1,.int .i64 1),(25,1,.int .i64 1)]) 2 5 [.int .i64 k,.int .i64 n,.int .i64 src,.int .i64 len,.slice ad nd cd] [.int .i64 I,.int .i64 J,.int .i64 0,.int .i64 0,.int .i64 0,.int .i64 0,.slice none 0 0,.int .i64 0,.int .i64 0,.int .i64 0,.slice none 0 0,.int .i64 0,.int .i64 0,.slice none 0 0,.slice none 0 0,.slice none 0 0,.int .i64 0,.int .i64 0,.slice none 0 0,.slice none 0 0,.slice none 0 0,.slice none 0 0,.slice none 0 0,.int .i64 0,.map none,.int .i64 0,.int .i64 0,.int .i64 0,.int .i64 0,.int .i64 0,.slice none 0 0,.slice none 0 0,.slice none 0 0,.int .i64 0,.int .i64 0,.slice none 0 0,.slice none 0 0,.slice none 0 0,.bool false,.bool false,.slice none 0 0,.map none,.int .i64 0,.map none,.bool false]).bind fun l=>.ok (Value.agg ⟨l⟩)) = .ok (Value.agg ⟨wk (wk0 I J k n src len ad nd cd R C lim ac nc cc)⟩):=rfl
theorem wk0_v {I J k n src len R C lim:Int} {ad ac:Option Addr} {nd cd nc cc:Nat}:zC (.agg ⟨wk (wk0 I J k n src len ad nd cd R C lim ac nc cc)⟩)=wk (wk0 I J k n src len ad nd cd R C lim ac nc cc):=rfl
theorem wk0_c {I J k n src len R C lim:Int} {ad ac:Option Addr} {nd cd nc cc:Nat}:zV (wk (wk0 I J k n src len ad nd cd R C lim ac nc cc))=true:=rfl
def updL (c:Nat→Value) (k:Nat) (l:List Value):Nat→Value:=fun n=>if k≤n∧n<k+l.length then (l[n-k]?).getD (.bool false) else c n
theorem wk_wr11 {c:Nat→Value} {h:Hp} {b:Nat} {v0 v1 v2 v3 v4:Value} {k:Hp→Prop}:RK (wrO (some (.cells (wk c) false)) h b 11 [v0,v1,v2,v3,v4]) k↔zV [v0,v1,v2,v3,v4]=true∧k (hset h b (.cells (wk (updL c 11 [v0,v1,v2,v3,v4])) false)):=wrO_nk.trans ⟨fun x=>⟨x.1,x.2.2⟩,fun x=>⟨x.1,by show 16≤45; omega,x.2⟩⟩
theorem wk_wr16 {c:Nat→Value} {h:Hp} {b:Nat} {v0 v1 v2 v3 v4 v5:Value} {k:Hp→Prop}:RK (wrO (some (.cells (wk c) false)) h b 16 [v0,v1,v2,v3,v4,v5]) k↔zV [v0,v1,v2,v3,v4,v5]=true∧k (hset h b (.cells (wk (updL c 16 [v0,v1,v2,v3,v4,v5])) false)):=wrO_nk.trans ⟨fun x=>⟨x.1,x.2.2⟩,fun x=>⟨x.1,by show 22≤45; omega,x.2⟩⟩
theorem wk_wr28 {c:Nat→Value} {h:Hp} {b:Nat} {v0 v1 v2 v3 v4:Value} {k:Hp→Prop}:RK (wrO (some (.cells (wk c) false)) h b 28 [v0,v1,v2,v3,v4]) k↔zV [v0,v1,v2,v3,v4]=true∧k (hset h b (.cells (wk (updL c 28 [v0,v1,v2,v3,v4])) false)):=wrO_nk.trans ⟨fun x=>⟨x.1,x.2.2⟩,fun x=>⟨x.1,by show 33≤45; omega,x.2⟩⟩
theorem wk_wr33 {c:Nat→Value} {h:Hp} {b:Nat} {v0 v1 v2 v3 v4:Value} {k:Hp→Prop}:RK (wrO (some (.cells (wk c) false)) h b 33 [v0,v1,v2,v3,v4]) k↔zV [v0,v1,v2,v3,v4]=true∧k (hset h b (.cells (wk (updL c 33 [v0,v1,v2,v3,v4])) false)):=wrO_nk.trans ⟨fun x=>⟨x.1,x.2.2⟩,fun x=>⟨x.1,by show 38≤45; omega,x.2⟩⟩
theorem wk_ld11 {c:Nat→Value} {v0 v1 v2 v3 v4:Value}:zAL (some 5) 11 (wk (updL c 11 [v0,v1,v2,v3,v4])) = .ok (.agg ⟨[v0,v1,v2,v3,v4]⟩):=rfl
theorem wk_ld28 {c:Nat→Value} {v0 v1 v2 v3 v4:Value}:zAL (some 5) 28 (wk (updL c 28 [v0,v1,v2,v3,v4])) = .ok (.agg ⟨[v0,v1,v2,v3,v4]⟩):=rfl
theorem wk_len {c:Nat→Value}:(wk c).length=45:=rfl
theorem wk_set6 {c:Nat→Value} {v:Value}:(wk c).set 6 v=wk (upd c 6 v):=rfl
theorem wk_set24 {c:Nat→Value} {v:Value}:(wk c).set 24 v=wk (upd c 24 v):=rfl
theorem wk_set41 {c:Nat→Value} {v:Value}:(wk c).set 41 v=wk (upd c 41 v):=rfl
theorem wk_set43 {c:Nat→Value} {v:Value}:(wk c).set 43 v=wk (upd c 43 v):=rfl
theorem wnew_c {s:Bool} {x:Stp} {i j:Int} {chs:List (Int × Int)} {vd ve vc:Value} {h:Hp} {nx:Nat} (H:StpIs h nx x vd ve vc) (hch:SlRd h nx vc encC chs) (hnc:chs.length=x.nch) (hds:x.ds.length<1000000) (hn:x.n≤60∨4096<x.n) :
  Cv Q O s 10 [.agg ⟨stpV x vd ve vc⟩,.int .i64 i,.int .i64 j] h nx (NewK (newE x i j) nx h):=by
 refine wnewv ?_;obtain ⟨ad,cd,rfl,_⟩:=id H.d;obtain ⟨ae,ce,rfl,_⟩:=id H.e;obtain ⟨ac,cc,rfl,_⟩:=id hch;have K0:∀ {o},Keep nx h (hset h nx o):=(Keep.refl _ _).set (Nat.le_refl _);have H1:∀ {o},StpIs (hset h nx o) (nx+1) x _ _ _:=fun {o}=>H.keep (K0 (o:=o)) (by omega);unfold stpV at *
 unfold wnew aF bF cF iV lA lF pC;simp (disch:=omega) only [SS,seval];refine (zLx H1).mono ?_;rintro _ h1 n1 ⟨rfl,hk1,hle1⟩;have g0:=hk1 nx (by omega);rw [hnew] at g0;have K1:Keep nx h h1:=K0.trans hk1 (by omega)
 by_cases h0:stpE x=0
 case neg =>
  have hb:((stpE x == 0):Bool)=false:=beq_eq_false_iff_ne.2 h0;simp (disch:=omega) only [SS,hb,seval];have e:newE x i j=stpE x:=by unfold newE; rw [if_pos h0]
  rw [e];exact ⟨⟨none,rfl,by simp [h0]⟩,K1,by omega⟩
 have hE:newE x i j=if i<0∨x.R≤i∨j<0∨x.C≤j then 3 else 0:=by unfold newE; rw [if_neg (by simp [h0])]
 rw [h0,hE];have bad:i<0∨x.R≤i∨j<0∨x.C≤j→∀ y1 y2 y3,zFv s (NewK (if i<0∨x.R≤i∨j<0∨x.C≤j then 3 else 0) nx h) y1 y2 y3 (.bool true) h1 n1:=fun hb y1 y2 y3=>by
  unfold zFv aF bF cF dF gA gL iV lA lF nC nS pC;rw [if_pos hb];exact ⟨⟨none,rfl,by simp⟩,K1,by omega⟩
 simp (disch:=omega) only [SS,g0,seval];refine ⟨fun hb=>bad (by omega) _ _ _,fun hi0=>⟨fun hb=>bad (by omega) _ _ _,fun hi1=>⟨fun hb=>bad (by omega) _ _ _,fun hj0=>?_⟩⟩⟩
 by_cases h4:x.C≤j
 ·rw [show (!decide (j<x.C))=true by rw [decide_eq_false (by omega)]; rfl];exact bad (by omega) _ _ _
 rw [show (!decide (j<x.C))=false by rw [decide_eq_true (by omega)]; rfl,if_neg (by omega)];obtain ⟨q1,q2,q3,q4,q5,q6,q7,q8,q9,q10⟩:=zP7 h0;obtain ⟨I,rfl⟩:∃ I:Nat,i=I:=⟨i.toNat,by omega⟩
 obtain ⟨J,rfl⟩:∃ J:Nat,j=J:=⟨j.toNat,by omega⟩
 obtain ⟨N,hN⟩:∃ N:Nat,x.n=N:=⟨x.n.toNat,by omega⟩
 obtain ⟨R,hR⟩:∃ R:Nat,x.R=R:=⟨x.R.toNat,by omega⟩
 obtain ⟨C,hC⟩:∃ C:Nat,x.C=C:=⟨x.C.toNat,by omega⟩
 have hGN:x.gn.toNat=N:=by omega
 unfold zFv aF bF cF dF gA gL iV lA lF nC nS pC;simp (disch:=omega) only [SS,g0,seval];refine (zRD (H.d.keep K1 (by omega)) (H.e.keep K1 (by omega)) H.l q1).mono ?_;rw [hGN];rintro _ h2 n2 ⟨m,ts,rfl,hM,hRm,hk2,hle2⟩;have hRm0:=hRm;obtain ⟨b1,sp1,nn1,a2',n2',c2',a4',n4',c4',rfl⟩:=hRm.is.form;have g2:=(hk2 nx (by omega)).trans g0;have K2:Keep nx h h2:=K1.trans hk2 (by omega);simp (disch:=omega) only [SS,g2,seval];have K2':∀ {o o'},Keep nx h (hset (hset h2 n2 o) n2 o'):=(K2.set (by omega)).set (by omega);refine (clonec_c (hch.keep (nx':=n2+1) K2' (by omega)) (by omega)).mono ?_;rintro vch h3 n3 ⟨hvc,hk3,hle3⟩;have hvc0:=hvc;obtain ⟨ac3,cc3,rfl,_⟩:=id hvc;have g3:=hk3 nx (by omega);rw [hold (by omega),hold (by omega),g2] at g3;simp (disch:=omega) only [SS,g3,seval];refine ⟨by omega,?_⟩;have K3:Keep nx h h3:=K2'.trans hk3 (by omega);rw [wk0_fill];have gm3:=hk3 n2 (by omega);rw [hnew] at gm3;simp (disch:=omega) only [SS,wk0_v,wk0_c,g3,seval];generalize hc1:wk0 (I:Int) (J:Int) x.k x.n x.src x.len ad x.ds.length cd x.R x.C x.lim ac3 chs.length cc3=c1;have f0:c1 0 = .int .i64 (I:Int):=by rw [← hc1]; rfl
 have f1:c1 1 = .int .i64 (J:Int):=by rw [← hc1]; rfl
 have f2:c1 2 = .int .i64 x.k:=by rw [← hc1]; rfl
 have f3:c1 3 = .int .i64 x.n:=by rw [← hc1]; rfl
 have f4:c1 4 = .int .i64 x.src:=by rw [← hc1]; rfl
 have f5:c1 5 = .int .i64 x.len:=by rw [← hc1]; rfl
 have f8:c1 8 = .int .i64 x.C:=by rw [← hc1]; rfl
 have f22:c1 22 = .slice none 0 0:=by rw [← hc1]; rfl
 clear hc1;have K3':∀ {o},Keep nx h (hset h3 n3 o):=K3.set (by omega);refine (zSM (H.d.keep (nx':=n3+1) K3' (by omega)) hds).mono ?_;rintro vds h4 n4 ⟨hvd,hk4,hle4⟩;have hvd0:=hvd;obtain ⟨ad4,cd4,rfl,_⟩:=id hvd;have gw4:=hk4 n3 (by omega);rw [hnew] at gw4;have g4:=hk4 nx (by omega);rw [hold (by omega),g3] at g4;have gm4:=hk4 n2 (by omega);rw [hold (by omega),gm3] at gm4;simp (disch:=omega) only [SS,gw4,g4,gm4,hR,hC,seval];rw [wk_set6];refine ⟨by show 6<45; omega,?_⟩;have K4:∀ {o},Keep nx h (hset h4 n3 o):=fun {o} d hd=>by rw [hold (by omega),hk4 d (by omega),hold (by omega),K3 d hd]
 have hRi:RowsIs (hset h4 n3 (.cells (wk (upd c1 6 (.slice ad4 x.ds.length cd4))) false)) n4 _ N N ts:=(hRm0.keep (lo':=0) (hi':=n4) (h':=hset h4 n3 (.cells (wk (upd c1 6 (.slice ad4 x.ds.length cd4))) false)) (fun d h1 h2=>by rw [hold (by omega),hk4 d (by omega),hold (by omega),hk3 d (by omega),hold (by omega),hold (by omega)]) (by omega) (by omega)).is;refine (bcut_c hM hRi (by omega) (by omega) (by omega) (by omega) (by omega) (by omega)).mono ?_;rintro vb h5 n5 ⟨hB,hk5,hle5⟩;have hB0:=hB;obtain ⟨b5,sp5,nn5,a25,n25,c25,a45,n45,c45,rfl⟩:=hB.is.form;have gw5:=hk5 n3 (by omega);rw [hnew] at gw5;have g5:=hk5 nx (by omega);rw [hold (by omega),g4] at g5;have K5:Keep nx h h5:=K4.trans hk5 (by omega);simp (disch:=omega) only [SS,gw5,wk_wr11,wk_ld11,seval];have hl1:=zB5 (n:=N) (k:=R) (show I≤I+1 by omega);have hl2:=zB5 (n:=N) (k:=C) (show J≤J+1 by omega);have hl3:=zDk (n:=N) (k:=R) (by omega) (I+1);have hl4:=zDk (n:=N) (k:=C) (by omega) (J+1);refine (dcof_c (zIi hM (by omega) (by omega)) (hB0.keep (lo':=0) (hi':=n5) (fun d h1 h2=>hold (by omega)) (by omega) (by omega)).is).mono ?_;rintro vco h6 n6 ⟨ts',hT,hM',⟨w1,w2,w3,w4,rfl,C1,⟨bb2,spp2,rfl,cb1,cb2,cb3⟩,C3,C4⟩,hk6,hle6⟩;obtain ⟨aw1,cw1,rfl⟩:=C1.col.form;obtain ⟨aw3,cw3,rfl⟩:=C3.col.form;obtain ⟨aw4,cw4,rfl⟩:=C4.col.form;have gw6:=hk6 n3 (by omega);rw [hnew] at gw6;have g6:=hk6 nx (by omega);rw [hold (by omega),g5] at g6;have K6:Keep nx h h6:=fun d hd=>by rw [hk6 d (by omega),hold (by omega)]; exact K5 d hd
 simp (disch:=omega) only [SS,gw6,wk_wr16,wk_len,wk_set24,wk_set41,wk_set43,g6,hN,hR,seval];generalize hH7:hset (hset (hset (hset (hset (hset (hset h6 n3 _) n6 _) (n6+1) _) (n6+1+1) _) n3 _) n3 _) n3 _=H7;have e7:∀ d,d≠n3→d<n6→hget H7 d=hget h6 d:=fun d h1 h2=>by rw [← hH7,hold (by omega),hold (by omega),hold (by omega),hold (by omega),hold (by omega),hold (by omega),hold (by omega)]
 have gw7:∃ c7,hget H7 n3=some (.cells (wk c7) false)∧c7 0 = .int .i64 (I:Int)∧c7 1 = .int .i64 (J:Int)∧c7 2 = .int .i64 x.k∧c7 3 = .int .i64 x.n∧c7 4 = .int .i64 x.src∧c7 5 = .int .i64 x.len∧c7 6 = .slice ad4 x.ds.length cd4∧c7 8 = .int .i64 x.C∧c7 22 = .slice none 0 0:=by
  rw [← hH7,hnew];exact ⟨_,rfl,f0,f1,f2,f3,f4,f5,rfl,f8,f22⟩
 have g7:=(e7 nx (by omega) (by omega)).trans g6;have K7:Keep nx h H7:=fun d hd=>by rw [e7 d (by omega) (by omega)]; exact K6 d hd
 clear hH7;obtain ⟨c7,gw7,x0,x1,x2,x3,x4,x5,x6,x8,x22⟩:=gw7;refine ⟨fun hJ=>?_,fun hJ=>⟨⟨_,rfl,by simp⟩,K7,by omega⟩⟩;have hNs:N≤60:=by omega
 refine (zIQ (n:=N) (k:=R) (i:=I) (by omega) (by omega) (by omega) (by omega)).mono ?_;rintro _ _ _ ⟨rfl,eh,en⟩;rw [eh,en];simp (disch:=omega) only [SS,g7,hR,hN,zI (show I<1000000000000 by omega),seval];refine (zIQ (n:=N) (k:=R) (i:=I+1) (by omega) (by omega) (by omega) (by omega)).mono ?_;rintro _ _ _ ⟨rfl,eh,en⟩;rw [eh,en];obtain ⟨m,hm⟩:∃ m,lowN N R (I+1)=lowN N R I+m:=⟨lowN N R (I+1)-lowN N R I,by omega⟩
 generalize lowN N R I=L at hm hl1 hl3 ⊢;rw [hm];simp (disch:=omega) only [SS,g7,hN,seval];have hdS:SlRd H7 (n6+1+1+1) (.slice ad x.ds.length cd) za x.ds:=H.d.keep K7 (by omega);rw [hN] at q2;refine (pbegin_c (m:=m) (low:=L) hdS q2 (by omega) (by omega) (by omega)).mono ?_;rintro vs h8 n8 ⟨hS,hk8,hle8⟩;have hS0:=hS;obtain ⟨va,vb,vo,rfl,S1,S2,S3⟩:=hS;obtain ⟨sa1,sc1,rfl,_⟩:=id S1;obtain ⟨sa2,sc2,rfl,_⟩:=id S2;obtain ⟨sa3,sc3,rfl,_⟩:=id S3;have gw8:=(hk8 n3 (by omega)).trans gw7;simp (disch:=omega) only [SS,gw8,wk_wr28,wk_wr33,wk_ld28,seval];refine ⟨by omega,?_⟩;have hv9:=(SlNw.keep hvd0 (lo':=n3+1) (hi':=n8) (h':=h8) (fun d h1 h2=>by rw [hk8 d (by omega),e7 d (by omega) (by omega),hk6 d (by omega),hold (by omega),hk5 d (by omega),hold (by omega)]) (by omega) (by omega))
 generalize hcc:updL (updL c7 28 _) 33 _=c9;have y0:c9 0 = .int .i64 (I:Int):=by rw [← hcc]; exact x0
 have y1:c9 1 = .int .i64 (J:Int):=by rw [← hcc]; exact x1
 have y2:c9 2 = .int .i64 x.k:=by rw [← hcc]; exact x2
 have y3:c9 3 = .int .i64 (N:Int):=by rw [← hcc,← hN]; exact x3
 have y4:c9 4 = .int .i64 x.src:=by rw [← hcc]; exact x4
 have y5:c9 5 = .int .i64 x.len:=by rw [← hcc]; exact x5
 have y6:c9 6 = .slice ad4 x.ds.length cd4:=by rw [← hcc]; exact x6
 have y8:c9 8 = .int .i64 (C:Int):=by rw [← hcc,← hC]; exact x8
 have y22:c9 22 = .slice none 0 0:=by rw [← hcc]; exact x22
 have y33:Value.agg ⟨[c9 33,c9 34,c9 35,c9 36,c9 37]⟩ = .agg ⟨[.int .i64 (L:Int),.int .i64 ((L+m:Nat):Int),.slice sa1 (rmap m fun i=>fstA x.k x.src ((L:Int)+(i:Int))).length sc1,.slice sa2 (rmap m fun _=>-1).length sc2,.slice sa3 (wds m fun i=>fstQ x.k x.src ((L:Int)+(i:Int))).length sc3]⟩:=by rw [← hcc]; rfl
 refine (votes0_c (A:=rmap m fun i=>fstA x.k x.src ((L:Int)+(i:Int))) (B:=rmap m fun _=>-1) (q:=fun i=>fstQ x.k x.src ((L:Int)+(i:Int))) (pw:=n3) (nx:=n8) (C:=C) (i:=I) (j:=J) (n:=(N:Int)) (l:=[]) (P:=fun _=>False) (ds:=x.ds) (low:=L) (m:=m) (hnew _ _ _) (by omega) (by omega) (by omega) (by omega) (by omega) y0 y1 y8 (.inl ⟨rfl,y22⟩) (fun _ h=>h.elim) (by show 0≤1000; omega) y2 y3 y4 y5 ?_ q2 (by omega) (by omega) (by omega) ?_ (zBn _ _) (zBn _ _)).mono ?_
 ·rw [y6];exact (SlNw.keep hv9 (lo':=n3+1) (hi':=n8) (fun d h1 h2=>by rw [hold (by omega),hold (by omega)]) (by omega) (by omega)).rd
 ·rw [y33];exact (hS0.wid (lo':=n3+1) (hi':=n8) (fun d h1 h2=>by rw [hold (by omega),hold (by omega)]) (by omega) (by omega)).rd
 rintro _ h9 n9 ⟨rfl,⟨v',P',hw9,S9,hP9⟩,hf9,hle9⟩;refine ⟨⟨_,rfl,by simp⟩,fun d hd=>?_,by omega⟩;rw [hf9 d (by omega) (by omega) (fun h=>h),hold (by omega),hold (by omega),hk8 d (by omega)];exact K7 d hd
theorem Col.at_ {h:Hp} {nx:Nat} {v:Value} {l:List Int} (C:Col h nx v l) {k:Nat} {x:Int} (hx:l[k]? = some x):∃ b sp n,v = .slice (some ⟨b,0,sp⟩) l.length n∧b<nx∧hget h b=some (.cells (ints l) false):=by
 obtain ⟨bo,hW,hb⟩:=C;rcases hW with ⟨rfl,_,_⟩ | ⟨b,rfl,e,hg⟩
 ·cases hx
 ·exact ⟨b,_,_,e,hb b rfl,by rw [← zS]; exact hg⟩
theorem ts_row {r c:Nat} {ts:List GE} (M:MOk r c ts) {i k:Nat} (h1:stf ts i<k) (h2:k<stf ts (i+1)):∃ g g',ts[k-1]? = some g∧ts[k]? = some g'∧g.t<g'.t:=by
 have hl:=zFb M.up i;have e1:=zFc M.up (i:=i) (k:=k-1-stf ts i) (by omega);have e2:=zFc M.up (i:=i) (k:=k-stf ts i) (by omega);rw [show stf ts i+(k-1-stf ts i)=k-1 by omega] at e1;rw [show stf ts i+(k-stf ts i)=k by omega] at e2;have p:=List.pairwise_iff_getElem.1 (zPn M.up i) (k-1-stf ts i) (k-stf ts i) (by omega) (by omega) (by omega);exact ⟨_,_,by rw [← e1]; exact List.getElem?_eq_getElem (by omega),by rw [← e2]; exact List.getElem?_eq_getElem (by omega),p⟩
theorem ts_f {r c:Nat} {ts:List GE} (M:MOk r c ts) {i k:Nat} {g:GE} (h1:stf ts i≤k) (h2:k<stf ts (i+1)) (hg:ts[k]? = some g):g.f=i:=by
 have hl:=zFb M.up i;have e2:=zFc M.up (i:=i) (k:=k-stf ts i) (by omega);rw [show stf ts i+(k-stf ts i)=k by omega,hg] at e2;exact (zFa (List.mem_of_getElem? e2)).2
def RrJ0 (p r:Nat) (h0:Hp) (n0:Nat) (m:Nat) (vs:List Value) (h':Hp) (nx':Nat):Prop:=∃ i,m=r-i∧i≤r∧vs=[.pointer (some ⟨p,0,none⟩),.bool false,.int .i64 (i:Int)]∧h'=h0∧nx'=n0
def RrJ1 (p i e:Nat) (lo:Nat) (h0:Hp) (n0:Nat) (m:Nat) (vs:List Value) (h':Hp) (nx':Nat):Prop:=∃ k,m=e-k∧lo≤k∧k≤e∧vs=[.pointer (some ⟨p,0,none⟩),.bool false,.int .i64 (i:Int),.int .i64 (k:Int)]∧h'=h0∧nx'=n0
theorem zH3 {s:Bool} {r c:Nat} {ts:List GE} {v:Value} {h:Hp} {nx:Nat} (M:MOk r c ts) (hv:RowsIs h nx v r c ts):Cv Q O s 151 [v] h nx (EqK (.bool true) nx h):=by
 refine zQS ?_;obtain ⟨b,sp,cap,v2,v3,rfl,hb,hg,C2,C3⟩:=id hv;obtain ⟨a2,c2,rfl⟩:=C2.form;obtain ⟨a3,c3,rfl⟩:=C3.form;have hr:=M.hr;have hc:=M.hc;have hl:=M.len;have eT:=zCe ts;have eW:=zD9 ts;have K0:∀ {o},Keep nx h (hset h nx o):=(Keep.refl _ _).set (Nat.le_refl _);have s0:(stL ts r)[0]? = some 0:=by rw [zAv (Nat.zero_le _),zP8]; rfl
 have sr:(stL ts r)[r]? = some ((tsT ts).length:Int):=by rw [zAv (Nat.le_refl _),stf_r M,eT]
 have i1:(((tsT ts).length:Int) == ((tsW ts).length:Int))=true:=by rw [eT,eW]; exact beq_self_eq_true _
 unfold zM5 aF bF iV lF nF pC;simp (disch:=omega) only [SS,zI (show r<1000000000000 by omega),i1,show (((r+1:Nat):Int) == ((r+1:Nat):Int))=true from beq_self_eq_true _,seval];refine ⟨fun h=>absurd h (by omega),fun _=>⟨fun h=>absurd h (by omega),fun _=>⟨fun h=>absurd h (by omega),fun _=>⟨fun h=>absurd h (by omega),fun _=>?_⟩⟩⟩⟩;rw [show decide ((65536:Int)<((tsT ts).length:Int))=false from decide_eq_false (by omega)];generalize hH0:hset h nx _=H0;have gp:hget H0 nx=some (.cells [.int .i64 (r:Int),.int .i64 (c:Int),.slice (some ⟨b,0,sp⟩) (r+1) cap,.slice a2 (tsT ts).length c2,.slice a3 (tsW ts).length c3] false):=by rw [← hH0,hnew]
 have e0:∀ d,d<nx→hget H0 d=hget h d:=fun d hd=>by rw [← hH0,hold (by omega)]
 have gb:=(e0 b hb).trans hg;have KH:Keep nx h H0:=e0;clear hH0;unfold zAg aF bF iV lF nF xF;simp (disch:=omega) only [SS,gp,gb,zO s0,zO sr,show (((tsT ts).length:Int) == ((tsT ts).length:Int))=true from beq_self_eq_true _,seval];unfold zEj iV;simp (disch:=omega) only [SS,seval];refine Lp.mk (RrJ0 nx r H0 (nx+1)) r ⟨0,rfl,by omega,rfl,rfl,rfl⟩ ?_;rintro _ _ _ _ ⟨i,rfl,hi,rfl,eh,en⟩;rw [zNt,eh,en];unfold zH2 aF bF iV lF nF xF;simp (disch:=omega) only [SS,gp,seval];refine ⟨fun hlt=>?_,fun hge=>⟨rfl,KH,by omega⟩⟩;have hlt:i<r:=by omega
 have si:(stL ts r)[i]? = some (stf ts i:Int):=zAv (by omega);have si1:(stL ts r)[i+1]? = some (stf ts (i+1):Int):=zAv (by omega);have hm:=zCX ts (show i≤i+1 by omega);have hle:=zFJ ts (i+1);simp (disch:=omega) only [SS,gp,gb,zO si,zO si1,zI (show i<1000000000000 by omega),seval];refine ⟨fun h=>absurd h (by omega),fun _=>⟨fun h=>absurd h (by omega),fun _=>?_⟩⟩;rw [show decide ((tsT ts).length<stf ts (i+1))=false from decide_eq_false (by omega)];unfold zDG aF bF iV lF xF;simp (disch:=omega) only [SS,gp,gb,zO si,seval];refine Lp.mk (RrJ1 nx i (stf ts (i+1)) (stf ts i) H0 (nx+1)) (stf ts (i+1)-stf ts i) ⟨stf ts i,rfl,by omega,by omega,rfl,rfl,rfl⟩ ?_;rintro _ _ _ _ ⟨k,rfl,hk1,hk2,rfl,eh,en⟩;rw [zNs,eh,en];unfold zH1 aF bF iV lF xF;simp (disch:=omega) only [SS,gp,gb,zO si1,zI (show i<1000000000000 by omega),seval];refine ⟨fun hlt2=>?_,fun hge=>?_⟩
 ·have hk3:k<stf ts (i+1):=by omega
  obtain ⟨g,hgk⟩:=zY (l:=ts) (i:=k) (by omega);obtain ⟨bt,spt,nt,et,hbt,hgt⟩:=C2.at_ (zCW hgk);cases et;have gt0:=(e0 bt hbt).trans hgt;have hgc:=M.cols g (List.mem_of_getElem? hgk);simp (disch:=omega) only [SS,gp,gb,zO si,gt0,zO (zCW hgk),seval];have ew:IntKind.wrap .i64 ((k:Int)+1)=((k+1:Nat):Int):=zI (by omega);refine ⟨fun h=>absurd h (by omega),fun _=>⟨fun h=>absurd hgc h,fun _=>⟨fun hks=>?_,fun hks=>?_⟩⟩⟩
  ·obtain ⟨g1,g2,q1,q2,q3⟩:=ts_row M hks hk3;rw [hgk] at q2;cases q2;have ew1:IntKind.wrap .i64 ((k:Int)-1)=((k-1:Nat):Int):=by rw [show (k:Int)-1=((k-1:Nat):Int) by omega]; exact zBh _ (by omega)
   simp (disch:=omega) only [SS,ew1,gt0,zO (zCW q1),ew,seval];refine ⟨fun h=>absurd h (by omega),fun _=>?_⟩;exact ⟨stf ts (i+1)-(k+1),by omega,k+1,rfl,by omega,by omega,rfl,rfl,rfl⟩
  ·rw [ew];exact ⟨stf ts (i+1)-(k+1),by omega,k+1,rfl,by omega,by omega,rfl,rfl,rfl⟩
 ·exact ⟨r-(i+1),by omega,i+1,rfl,by omega,rfl,rfl,rfl⟩
theorem zJW {s:Bool} {r c:Nat} {ts:List GE} {v:Value} {h:Hp} {nx:Nat} (M:MOk r c ts) (hv:RowsIs h nx v r c ts):Cv Q O s 246 [v] h nx (EqK v nx h):=by
 refine r07surev ?_;have hv0:=hv;obtain ⟨b,sp,n,a2,n2,c2,a3,n3,c3,rfl⟩:=hv.form;have K0:∀ {o o'},Keep nx h (hset (hset h nx o) (nx+1) o'):=((Keep.refl _ _).set (Nat.le_refl _)).set (Nat.le_succ _);unfold zQR cF iV lA nC nS pC;simp (disch:=omega) only [SS,seval];refine (zH3 M (hv0.keep K0 (by omega))).mono ?_;rintro _ h1 n1 ⟨rfl,hk1,hle1⟩;have g0:=hk1 nx (by omega);rw [hold (by omega),hnew] at g0;have g1:=hk1 (nx+1) (by omega);rw [hnew] at g1;simp (disch:=omega) only [SS,g0,g1,seval];exact ⟨rfl,(K0.trans hk1 (by omega)).set (by omega),by omega⟩
def RtJ0 (p r:Nat) (ts:List GE) (lo:Nat) (h0:Hp) (m:Nat) (vs:List Value) (h':Hp) (nx':Nat):Prop:=∃ (i:Nat) (o:Value),m=r-i∧i≤r∧vs=[.pointer (some ⟨p,0,none⟩),o,.int .i64 (i:Int)]∧SlAt h' o encG 3 (ts.take (stf ts i)) lo nx'∧Keep lo h0 h'∧lo≤nx'
def RtJ1 (p i e:Nat) (ts:List GE) (lo:Nat) (h0:Hp) (m:Nat) (vs:List Value) (h':Hp) (nx':Nat):Prop:=∃ (k:Nat) (o:Value),m=e-k∧stf ts i≤k∧k≤e∧vs=[.pointer (some ⟨p,0,none⟩),o,.int .i64 (i:Int),.int .i64 (k:Int)]∧SlAt h' o encG 3 (ts.take k) lo nx'∧Keep lo h0 h'∧lo≤nx'
theorem zJV {s:Bool} {r c:Nat} {ts:List GE} {v:Value} {h:Hp} {nx:Nat} (M:MOk r c ts) (hv:RowsIs h nx v r c ts):Cv Q O s 247 [v] h nx (fun r h' nx'=>SlNw h' nx nx' r encG ts∧Keep nx h h'∧nx≤nx'):=by
 refine zKl ?_;have hv0:=hv;obtain ⟨b,sp,cap,v2,v3,rfl,hb,hg,C2,C3⟩:=id hv;obtain ⟨a2,c2,rfl⟩:=C2.form;obtain ⟨a3,c3,rfl⟩:=C3.form;have hr:=M.hr;have hc:=M.hc;have hl:=M.len;have K0:∀ {o},Keep nx h (hset h nx o):=(Keep.refl _ _).set (Nat.le_refl _);unfold zH0 cF iV lA nS pC;simp (disch:=omega) only [SS,seval];refine (zJW M (hv0.keep (nx':=nx+1) K0 (by omega))).mono ?_;rintro _ h1 n1 ⟨rfl,hk1,hle1⟩;have g0:=hk1 nx (by omega);rw [hnew] at g0;simp (disch:=omega) only [SS,g0,seval];generalize hH0:hset h1 nx _=H0;have gp:hget H0 nx=some (.cells [.int .i64 (r:Int),.int .i64 (c:Int),.slice (some ⟨b,0,sp⟩) (r+1) cap,.slice a2 (tsT ts).length c2,.slice a3 (tsW ts).length c3] false):=by rw [← hH0,hnew]
 have e0:∀ d,d<nx→hget H0 d=hget h d:=fun d hd=>by rw [← hH0,hold (by omega),hk1 d (by omega),hold (by omega)]
 have gb:=(e0 b hb).trans hg;have KH:Keep nx h H0:=e0;clear hH0;refine Lp.mk (RtJ0 nx r ts n1 H0) r ⟨0,_,rfl,by omega,rfl,by rw [zP8]; exact .inl ⟨rfl,rfl⟩,Keep.refl _ _,Nat.le_refl _⟩ ?_;rintro _ _ h2 n2 ⟨i,o,rfl,hi,rfl,S,hk2,hle2⟩;obtain ⟨ao,no,co,rfl⟩:=S.form;have gp2:=(hk2 nx (by omega)).trans gp;have gb2:=(hk2 b (by omega)).trans gb;rw [zJU];unfold zFN aF bF iV lF xF;simp (disch:=omega) only [SS,gp2,seval];refine ⟨fun hlt=>?_,fun hge=>?_⟩
 ·have si:(stL ts r)[i]? = some (stf ts i:Int):=zAv (by omega);have si1:(stL ts r)[i+1]? = some (stf ts (i+1):Int):=zAv (by omega);have hm:=zCX ts (show i≤i+1 by omega);have hle:=zFJ ts (i+1);simp (disch:=omega) only [SS,gp2,gb2,zO si,seval];refine Lp.mk (RtJ1 nx i (stf ts (i+1)) ts n1 H0) (stf ts (i+1)-stf ts i) ⟨stf ts i,_,rfl,by omega,by omega,rfl,S,hk2,hle2⟩ ?_;rintro _ _ h3 n3 ⟨k,o3,rfl,hk1',hk2',rfl,S3,hk3,hle3⟩;obtain ⟨ao3,no3,co3,rfl⟩:=S3.form;have gp3:=(hk3 nx (by omega)).trans gp;have gb3:=(hk3 b (by omega)).trans gb;rw [zJT];unfold zFM aF bF iV lF xF;simp (disch:=omega) only [SS,gp3,gb3,zO si1,zI (show i<1000000000000 by omega),seval];refine ⟨fun hlt2=>?_,fun hge2=>?_⟩
  ·obtain ⟨g,hgk⟩:=zY (l:=ts) (i:=k) (by omega);obtain ⟨bt,spt,nt,et,hbt,hgt⟩:=C2.at_ (zCW hgk);cases et;obtain ⟨bw,spw,nw,ew,hbw,hgw⟩:=C3.at_ (zEf hgk);cases ew;have gt3:=(hk3 bt (by omega)).trans ((e0 bt hbt).trans hgt);have gw3:=(hk3 bw (by omega)).trans ((e0 bw hbw).trans hgw);have eT:=zCe ts;have eW:=zD9 ts;simp (disch:=omega) only [SS,gp3,gt3,gw3,zO (zCW hgk),zO (zEf hgk),zI (show k<1000000000000 by omega),seval];refine zBe (enc:=encG) (k:=3) (lo:=n1) (fun _=>rfl) (fun _=>rfl) (by omega) (S3.keep (fun c h1 h2=>by rw [hold (by omega)]) (by omega)) (by omega) g (hnew _ _ _) (by rw [← ts_f M hk1' (by omega) hgk]; rfl) (by rw [List.length_take]; omega) fun v5 h5 hs5 hk5=>?_;have htk:ts.take (k+1)=ts.take k++[g]:=by rw [List.take_add_one,hgk]; rfl
   exact ⟨by omega,stf ts (i+1)-(k+1),by omega,k+1,v5,rfl,by omega,by omega,rfl,by rw [htk]; exact hs5,fun c hc=>by rw [hk5 c hc,hold (by omega)]; exact hk3 c hc,by omega⟩
  ·have:k=stf ts (i+1):=by omega
   subst this;exact ⟨r-(i+1),by omega,i+1,_,rfl,by omega,rfl,S3,hk3,hle3⟩
 ·have:i=r:=by omega
  subst this;rw [stf_r M,List.take_length] at S;refine ⟨SlNw.keep S.nw (fun _ _ _=>rfl) (by omega) (Nat.le_refl _),fun d hd=>by rw [hk2 d (by omega)]; exact KH d hd,by omega⟩
theorem cutT_w0 (ts:List GE) (a H b:Nat):cutT ts a H b 0=[]:=by
 unfold cutT;rw [List.filter_eq_nil_iff.2 fun g _=>by unfold inBk; exact fun h=>by have:=of_decide_eq_true h; omega];rfl
theorem cutT_len (ts:List GE) (a H b W:Nat):(cutT ts a H b W).length≤ts.length:=by unfold cutT; rw [List.length_map]; exact List.length_filter_le _ _
theorem zRk {ts:List GE} {i a H b W:Nat} {g:GE} (h:ts[i]? = some g):cutT (ts.take (i+1)) a H b W=cutT (ts.take i) a H b W++(if inBk a H b W g=true then [⟨g.f-a,g.t-b,g.w⟩] else []):=by
 unfold cutT;rw [List.take_add_one,h,List.filter_append,List.map_append];cases hp:inBk a H b W g <;> simp [hp]
def RcJ (p a a' b b':Nat) (vl:Value) (ts:List GE) (lo:Nat) (h0:Hp) (m:Nat) (vs:List Value) (h':Hp) (nx':Nat):Prop :=
 ∃ (i:Nat) (o:Value),m=ts.length-i∧i≤ts.length∧vs=[.pointer (some ⟨p,0,none⟩),.int .i64 (a:Int),.int .i64 (b:Int),.int .i64 (a':Int),.int .i64 (b':Int),vl,o,.int .i64 (i:Int)]∧SlAt h' o encG 3 (cutT (ts.take i) a (a'-a) b (b'-b)) lo nx'∧Keep lo h0 h'∧lo≤nx'
theorem r07cut_c {s:Bool} {r c a b a' b':Nat} {ts:List GE} {v:Value} {h:Hp} {nx:Nat} (M:MOk r c ts) (hv:RowsIs h nx v r c ts) (haa:a≤a') (har:a'≤r) (hbb:b≤b') (hbc:b'≤c) :
  Cv Q O s 154 [v,.agg ⟨[.int .i64 (a:Int),.int .i64 (a':Int)]⟩,.agg ⟨[.int .i64 (b:Int),.int .i64 (b':Int)]⟩] h nx (zEe (a'-a) (b'-b) (cutT ts a (a'-a) b (b'-b)) nx h):=by
 refine r07cutv ?_;have hv0:=hv;obtain ⟨vb,sp,cap,a2,n2,c2,a3,n3,c3,rfl⟩:=hv.form;have hr:=M.hr;have hc:=M.hc;have hl:=M.len;have K0:∀ {o o' o'' o3},Keep nx h (hset (hset (hset (hset h nx o) (nx+1) o') (nx+2) o'') (nx+3) o3):=(((((Keep.refl _ _).set (Nat.le_refl _)).set (Nat.le_succ _)).set (by omega)).set (by omega))
 unfold r07cut aF bF cF iV lA lF nC nS pC;simp (disch:=omega) only [SS,seval];refine (zJW M (hv0.keep (nx':=nx+4) K0 (by omega))).mono ?_;rintro _ h1 n1 ⟨rfl,hk1,hle1⟩;have K1:Keep nx h h1:=K0.trans hk1 (by omega);have g0:=hk1 nx (by omega);rw [hold (by omega),hold (by omega),hold (by omega),hnew] at g0;have g1:=hk1 (nx+1) (by omega);rw [hold (by omega),hold (by omega),hnew] at g1;have g2:=hk1 (nx+2) (by omega);rw [hold (by omega),hnew] at g2;have g3:=hk1 (nx+3) (by omega);rw [hnew] at g3;simp (disch:=omega) only [SS,g0,g1,g2,show max (a:Int) 0=(a:Int) by omega,show max (b:Int) 0=(b:Int) by omega,show min (a':Int) (r:Int)=(a':Int) by omega,show min (b':Int) (c:Int)=(b':Int) by omega,seval];have K1':∀ {o},Keep nx h (hset h1 nx o):=fun {o}=>K1.set (by omega);refine (zJV M (hv0.keep (nx':=n1) K1' (by omega))).mono ?_;rintro vl h2 n2 ⟨hL,hk2,hle2⟩;have hL0:=hL;obtain ⟨al,cl,rfl,hlb⟩:=id hL;have K2:Keep nx h h2:=K1'.trans hk2 (by omega);have g32:=hk2 (nx+3) (by omega);rw [hold (by omega),g3] at g32;refine Lp.mk (RcJ (nx+3) a a' b b' (.slice al ts.length cl) ts n2 h2) ts.length ⟨0,_,rfl,by omega,rfl,.inl ⟨rfl,rfl⟩,Keep.refl _ _,Nat.le_refl _⟩ ?_;rintro _ _ h3 n3' ⟨i,o,rfl,hi,rfl,S,hk3,hle3⟩;obtain ⟨ao,no,co,rfl⟩:=S.form;rw [r07cutb0];unfold zM6 aF bF lF nF xF;simp (disch:=omega) only [SS,seval];refine ⟨fun hlt=>?_,fun hge=>?_⟩
 ·obtain ⟨g,hgk⟩:=zY hlt;obtain ⟨bl,spl,ro,hb1,hb2,rfl,hbg⟩:=hlb (fun e0=>by rw [e0] at hlt; exact absurd hlt (Nat.not_lt_zero _));have hb3:=(hk3 bl hb2).trans hbg;obtain ⟨r0,r1,r2⟩:=rd_f (cs:=[]) hgk;rw [List.append_nil] at r0 r1 r2;have hgr:=M.rows g (List.mem_of_getElem? hgk);have hgc:=M.cols g (List.mem_of_getElem? hgk);have ew:IntKind.wrap .i64 ((i:Int)+1)=((i+1:Nat):Int):=zI (by omega);have hcs:=zRk (a:=a) (H:=a'-a) (b:=b) (W:=b'-b) hgk;have no_:∀ {e0 R},inBk a (a'-a) b (b'-b) g=false→zC0 s (fun vs h nx_1=>∃ m',m'<ts.length-i∧RcJ (nx+3) a a' b b' (.slice (some ⟨bl,0,spl⟩) ts.length cl) ts n2 h2 m' vs h nx_1) e0 R (.pointer (some ⟨nx+3,0,none⟩)) (.int .i64 (a:Int)) (.int .i64 (b:Int)) (.int .i64 (a':Int)) (.int .i64 (b':Int)) (.slice (some ⟨bl,0,spl⟩) ts.length cl) (.slice ao no co) (.int .i64 (i:Int)) (.bool false) h3 n3':=fun {e0 R} hf=>by
   unfold zC0 aF bF iV lF xF;simp (disch:=omega) only [SS,ew,seval];exact ⟨ts.length-(i+1),by omega,i+1,_,rfl,by omega,rfl,by rw [hcs,hf]; simpa using S,hk3,hle3⟩
  have inB:∀ {p:Prop},(a≤g.f∧g.f<a+(a'-a)∧b≤g.t∧g.t<b+(b'-b)↔p)→(p→inBk a (a'-a) b (b'-b) g=true)∧(¬ p→inBk a (a'-a) b (b'-b) g=false):=fun hp=>⟨fun h=>decide_eq_true (hp.2 h),fun h=>decide_eq_false fun h'=>h (hp.1 h')⟩
  simp (disch:=omega) only [SS,hb3,r0,r1,seval];refine ⟨fun q1=>⟨fun q2=>⟨fun q3=>?_,fun q3=>no_ ((inB Iff.rfl).2 (by omega))⟩,fun q2=>no_ ((inB Iff.rfl).2 (by omega))⟩,fun q1=>no_ ((inB Iff.rfl).2 (by omega))⟩
  by_cases q4:g.t<b'
  case neg =>
   rw [decide_eq_false q4];exact no_ ((inB Iff.rfl).2 (by omega))
  rw [decide_eq_true q4];unfold zC0 aF bF iV lF xF;have ef:IntKind.wrap .i64 ((g.f:Int)-(a:Int))=((g.f-a:Nat):Int):=by rw [show (g.f:Int)-(a:Int)=((g.f-a:Nat):Int) by omega]; exact zBh _ (by omega)
  have et:IntKind.wrap .i64 ((g.t:Int)-(b:Int))=((g.t-b:Nat):Int):=by rw [show (g.t:Int)-(b:Int)=((g.t-b:Nat):Int) by omega]; exact zBh _ (by omega)
  simp (disch:=omega) only [SS,hb3,r0,r1,r2,ef,et,seval];have hcl:=cutT_len (ts.take i) a (a'-a) b (b'-b);rw [List.length_take] at hcl;refine zBe (enc:=encG) (k:=3) (lo:=n2) (fun _=>rfl) (fun _=>rfl) (by omega) (S.keep (fun c h1 h2=>by rw [hold (by omega)]) (by omega)) (by omega) (⟨g.f-a,g.t-b,g.w⟩:GE) (hnew _ _ _) rfl (by omega) fun v5 h5 hs5 hk5=>?_;simp (disch:=omega) only [SS,ew,seval];exact ⟨by omega,ts.length-(i+1),by omega,i+1,v5,rfl,by omega,rfl,by rw [hcs,if_pos ((inB Iff.rfl).1 (by omega))]; exact hs5,fun c hc=>by rw [hk5 c hc,hold (by omega)]; exact hk3 c hc,by omega⟩
 ·have:i=ts.length:=by omega
  subst this;rw [List.take_length] at S;have g33:=(hk3 (nx+3) (by omega)).trans g32;have K3:Keep nx h h3:=fun d hd=>by rw [hk3 d (by omega)]; exact K2 d hd
  have MC:MOk (a'-a) (b'-b) (cutT ts a (a'-a) b (b'-b)):=zIi M (by omega) (by omega);have fin:∀ {H W:Nat} {o:Value} {cs:List GE},H=a'-a→W=b'-b→cs=cutT ts a (a'-a) b (b'-b)→SlPx h3 n3' o encG cs→Cv Q O s 245 [.int .i64 (H:Int),.int .i64 (W:Int),o] h3 n3' fun x92 h93 n94=>RK (vSt h93 5 (.pointer (some ⟨nx+3,0,none⟩)) x92) fun h95=>RK (vLd (some 5) h95 (.pointer (some ⟨nx+3,0,none⟩))) fun x96=>zEe (a'-a) (b'-b) (cutT ts a (a'-a) b (b'-b)) nx h x96 h95 n94:=fun {H W o cs} eH eW ec hS=>by
   subst eH eW ec;refine (zJS hS MC).mono ?_;rintro r h6 nx6 ⟨hR,hk6,hle6⟩;obtain ⟨b1,sp1,nn,a21,n21,c21,a41,n41,c41,rfl⟩:=hR.is.form;have g46:=(hk6 (nx+3) (by omega)).trans g33;simp (disch:=omega) only [SS,g46,seval];exact ⟨hR.keep (fun c h1 h2=>hold (by omega)) (by omega) (Nat.le_refl _),fun c hc=>by rw [hold (by omega),hk6 c (by omega)]; exact K3 c hc,by omega⟩
  have hSx:SlPx h3 n3' (.slice ao no co) encG (cutT ts a (a'-a) b (b'-b)):=SlPx.of S.rd;have hS0:SlPx h3 n3' (.slice none 0 0) encG []:=⟨none,0,rfl,fun h=>absurd rfl h⟩
  have ea:IntKind.wrap .i64 ((a':Int)-(a:Int))=((a'-a:Nat):Int):=by rw [show (a':Int)-(a:Int)=((a'-a:Nat):Int) by omega]; exact zBh _ (by omega)
  have eb:IntKind.wrap .i64 ((b':Int)-(b:Int))=((b'-b:Nat):Int):=by rw [show (b':Int)-(b:Int)=((b'-b:Nat):Int) by omega]; exact zBh _ (by omega)
  have k2:∀ {H W:Nat},H=a'-a→W=b'-b→zFh s (zEe (a'-a) (b'-b) (cutT ts a (a'-a) b (b'-b)) nx h) (.pointer (some ⟨nx+3,0,none⟩)) (.slice ao no co) (.int .i64 (H:Int)) (.int .i64 (W:Int)) h3 n3':=fun {H W} eH eW=>by
   unfold zFh bF iV
   by_cases q:H=0
   ·have hb:(((H:Nat):Int) == 0)=true:=by rw [q]; rfl
    simp (disch:=omega) only [SS,hb,seval];unfold zEO cF lA nS;show Cv Q O s 245 _ _ _ _;exact fin eH eW (by rw [← eH,q,cutT_0]) hS0
   ·have hb:(((H:Nat):Int) == 0)=false:=beq_eq_false_iff_ne.2 (by omega)
    by_cases w:W=0
    ·have hw:(((W:Nat):Int) == 0)=true:=by rw [w]; rfl
     simp (disch:=omega) only [SS,hb,hw,seval];unfold zEO cF lA nS;show Cv Q O s 245 _ _ _ _;exact fin eH eW (by rw [← eW,w,cutT_w0]) hS0
    ·have hw:(((W:Nat):Int) == 0)=false:=beq_eq_false_iff_ne.2 (by omega);simp (disch:=omega) only [SS,hb,hw,seval];unfold zEO cF lA nS;show Cv Q O s 245 _ _ _ _;exact fin eH eW rfl hSx
  have k3:∀ {H:Nat},H=a'-a→zFg s (zEe (a'-a) (b'-b) (cutT ts a (a'-a) b (b'-b)) nx h) (.pointer (some ⟨nx+3,0,none⟩)) (.int .i64 (b:Int)) (.int .i64 (b':Int)) (.slice ao no co) (.int .i64 (H:Int)) h3 n3':=fun {H} eH=>by
   unfold zFg bF iV;simp (disch:=omega) only [SS,eb,seval];exact ⟨fun _=>k2 eH rfl,fun q2=>k2 (W:=0) eH (by omega)⟩
  refine ⟨fun q1=>?_,fun q1=>k3 (H:=0) (by omega)⟩;rw [ea];exact k3 rfl
theorem zDF {s:Bool} {n k i:Nat} {h:Hp} {nx:Nat} (hn:n≤4096) (hk:0<k) (hk8:k≤8) (hi:i≤100000):Cv Q O s 60 [.int .i64 (n:Int),.int .i64 (k:Int),.int .i64 (i:Int)] h nx (zCd (.int .i64 (lowN n k i:Int)) nx h):=by
 refine r17lowv ?_;unfold r17low bF cF iV;refine r17mayv ?_;unfold r17may bF iV;simp (disch:=omega) only [SS,seval];refine ⟨fun _=>⟨fun _=>⟨fun _=>⟨fun h=>absurd h (by omega),fun _=>⟨fun h=>absurd h (by omega),fun _=>⟨fun hki=>?_,fun hik=>?_⟩⟩⟩,fun h=>absurd h (by omega)⟩,fun h=>absurd h (by omega)⟩,fun h=>absurd h (by omega)⟩
 ·have:lowN n k i=n:=by unfold lowN; rw [Nat.min_eq_right (by omega)]; exact Nat.mul_div_cancel_left n hk
  rw [this];exact ⟨rfl,rfl,rfl⟩
 ·have hm:i*n≤8*4096:=Nat.mul_le_mul (by omega) hn;have e2:IntKind.wrap .i64 ((i:Int)*(n:Int))=((i*n:Nat):Int):=by
   rw [show (i:Int)*(n:Int)=((i*n:Nat):Int) by rw [Int.natCast_mul]]; exact zAf (by omega) (by omega)
  have hd:i*n / k≤i*n:=Nat.div_le_self _ _;have e3:bin Q .quo 3 (.int .i64 ((i*n:Nat):Int)) (.int .i64 (k:Int)) = .ok (.int .i64 (lowN n k i:Int)):=by
   rw [zIv (by omega),show ((i*n:Nat):Int).tdiv (k:Int)=((i*n / k:Nat):Int) from rfl];unfold lowN;rw [Nat.min_eq_left (by omega)];generalize i*n / k=q at hd ⊢;rw [zAf (by omega) (by omega)]
  simp only [RK,zFF,e2,e3];exact ⟨rfl,rfl,rfl⟩
theorem zNr {s:Bool} {R C:Nat} {h:Hp} {nx:Nat} (hR:0<R) (hR8:R≤8) (hC:0<C) (hC8:C≤8):Cv Q O s 152 [.int .i64 (R:Int),.int .i64 (C:Int)] h nx (zCd (.bool true) nx h):=by
 refine zQP ?_;unfold zM4 bF iV;simp (disch:=omega) only [SS,seval];refine ⟨fun _=>⟨fun _=>⟨fun _=>⟨?_,rfl,rfl⟩,fun h=>absurd h (by omega)⟩,fun h=>absurd h (by omega)⟩,fun h=>absurd h (by omega)⟩;rw [decide_eq_false (show ¬ (8:Int)<C by omega)]; rfl
theorem r18cut_c {s:Bool} {n R C i j:Nat} {ts:List GE} {v:Value} {h:Hp} {nx:Nat} (M:MOk n n ts) (hv:RowsIs h nx v n n ts) (hR:0<R) (hR8:R≤8) (hC:0<C) (hC8:C≤8) (hi:i<R) (hj:j<C) :
  Cv Q O s 58 [v,.int .i64 (R:Int),.int .i64 (C:Int),.int .i64 (i:Int),.int .i64 (j:Int)] h nx (zEe (lowN n R (i+1)-lowN n R i) (lowN n C (j+1)-lowN n C j) (cutT ts (lowN n R i) (lowN n R (i+1)-lowN n R i) (lowN n C j) (lowN n C (j+1)-lowN n C j)) nx h):=by
 refine r18cutv ?_;have hv0:=hv;obtain ⟨vb,sp,cap,a2,n2,c2,a3,n3,c3,rfl⟩:=hv.form;have hr:=M.hr;have K0:∀ {o o'},Keep nx h (hset (hset h nx o) (nx+1) o'):=((Keep.refl _ _).set (Nat.le_refl _)).set (Nat.le_succ _);unfold r18cut bF cF iV lA nC nS pC;simp (disch:=omega) only [SS,seval];refine (zH3 M (hv0.keep (nx':=nx+2) K0 (by omega))).mono ?_;rintro _ h1 n1 ⟨rfl,hk1,hle1⟩;have K1:Keep nx h h1:=K0.trans hk1 (by omega);have g0:=hk1 nx (by omega);rw [hold (by omega),hnew] at g0;have g1:=hk1 (nx+1) (by omega);rw [hnew] at g1;simp (disch:=omega) only [SS,seval];refine (zNr hR hR8 hC hC8).mono ?_;rintro _ _ _ ⟨rfl,eh,en⟩;rw [eh,en];simp (disch:=omega) only [SS,seval];refine ⟨fun h=>absurd h (by omega),fun _=>⟨fun h=>absurd hi h,fun _=>⟨fun h=>absurd h (by omega),fun _=>?_⟩⟩⟩;rw [show (!decide (j<C))=false by rw [decide_eq_true hj]; rfl];unfold zCZ aF bF cF dF gL iV lA lF nC;have ei:IntKind.wrap .i64 ((i:Int)+1)=((i+1:Nat):Int):=zI (by omega);have ej:IntKind.wrap .i64 ((j:Int)+1)=((j+1:Nat):Int):=zI (by omega);simp (disch:=omega) only [SS,g0,ei,seval];refine (zDF (n:=n) (k:=R) (i:=i) hr hR hR8 (by omega)).mono ?_;rintro _ _ _ ⟨rfl,eh,en⟩;rw [eh,en];simp (disch:=omega) only [SS,g0,ei,seval];refine (zDF (n:=n) (k:=R) (i:=i+1) hr hR hR8 (by omega)).mono ?_;rintro _ _ _ ⟨rfl,eh,en⟩;rw [eh,en];simp (disch:=omega) only [SS,g0,ej,seval];refine (zDF (n:=n) (k:=C) (i:=j) hr hC hC8 (by omega)).mono ?_;rintro _ _ _ ⟨rfl,eh,en⟩;rw [eh,en];simp (disch:=omega) only [SS,g0,ej,seval];refine (zDF (n:=n) (k:=C) (i:=j+1) hr hC hC8 (by omega)).mono ?_;rintro _ _ _ ⟨rfl,eh,en⟩;rw [eh,en];simp (disch:=omega) only [SS,g0,seval];have K3:∀ {o o' o'' o3},Keep nx h (hset (hset (hset (hset h1 n1 o) n1 o') (n1+1) o'') (n1+1) o3):=(((K1.set (by omega)).set (by omega)).set (by omega)).set (by omega);refine (r07cut_c M (hv0.keep (nx':=n1+1+1) K3 (by omega)) (zB5 (Nat.le_succ i)) (zDk hR _) (zB5 (Nat.le_succ j)) (zDk hC _)).mono ?_;rintro vr h4 n4 ⟨hRr,hk4,hle4⟩;obtain ⟨rb,rsp,rcap,y1,y2,y3,y4,y5,y6,rfl⟩:=hRr.is.form;have d1:=hk4 (nx+1) (by omega);rw [hold (by omega),hold (by omega),hold (by omega),hold (by omega),g1] at d1;simp (disch:=omega) only [SS,d1,seval];exact ⟨hRr.keep (fun d h1 h2=>hold (by omega)) (by omega) (Nat.le_refl _),(K3.trans hk4 (by omega)).set (by omega),by omega⟩
theorem zH4 {s:Bool} {n:Nat} {h:Hp} {nx:Nat} (hn:n≤64):Cv Q O s 318 [.int .i64 (n:Int)] h nx (zCd (.int .i64 (if n=0 then 0 else 1)) nx h):=by
 refine zQT ?_;unfold zM7 bF iV;have e:IntKind.wrap .i64 ((n:Int)+63)=((n+63:Nat):Int):=zI (by omega);have e2:1≤n→bin Q .quo 3 (.int .i64 ((n+63:Nat):Int)) (.int .i64 64) = .ok (.int .i64 1):=fun h=>by
  rw [zIv (by omega),show ((n+63:Nat):Int).tdiv 64=(((n+63) / 64:Nat):Int) from rfl,show (n+63) / 64=1 by omega]; rfl
 simp (disch:=omega) only [SS,e,seval];refine ⟨fun h=>absurd h (by omega),fun _=>⟨fun h=>?_,fun h=>?_⟩⟩
 ·rw [if_pos (show n=0 by omega)]; exact ⟨rfl,rfl,rfl⟩
 ·rw [if_neg (show ¬ n=0 by omega),e2 (by omega)]; exact ⟨rfl,rfl,rfl⟩
theorem quo64 {k:Nat} (hk:k<64):bin Q .quo 3 (.int .i64 (k:Int)) (.int .i64 64) = .ok (.int .i64 0):=by
 rw [zIv (by omega),show (k:Int).tdiv 64=((k / 64:Nat):Int) from rfl,show k / 64=0 by omega]; rfl
theorem rem64 {k:Nat} (hk:k<64):bin Q .rem 3 (.int .i64 (k:Int)) (.int .i64 64) = .ok (.int .i64 (k:Int)):=by
 rw [bin_rem (by omega),show (k:Int).tmod 64=((k % 64:Nat):Int) from rfl,show k % 64=k by omega]
theorem r03new_c {s:Bool} {n:Nat} {h:Hp} {nx:Nat} (hn:n≤63):Cv Q O s 248 [.int .i64 (n:Int)] h nx (SetW n (fun _=>false) nx h):=by
 refine r03newv ?_;unfold r03new cF;refine (zH4 (by omega)).mono ?_;rintro r h2 n2 ⟨rfl,e1,e2⟩;rw [e1,e2]
 by_cases h0:n=0
 ·subst h0;rw [if_pos rfl];show AR (vMks [.int .u64 0] (.int .i64 ((0:Nat):Int)) (.int .i64 ((0:Nat):Int))) h nx _;simp (disch:=omega) only [SS,seval];exact ⟨⟨_,_,rfl,fun h=>absurd rfl h⟩,(Keep.refl _ _).set (Nat.le_refl _),Nat.le_succ _⟩
 ·rw [if_neg h0];show AR (vMks [.int .u64 0] (.int .i64 ((1:Nat):Int)) (.int .i64 ((1:Nat):Int))) h nx _;simp (disch:=omega) only [SS,seval];refine SetK.w h0 ?_;rw [zIX];exact ⟨nx,1,none,rfl,Nat.le_refl _,Nat.lt_succ_self _,hnew _ _ _,(Keep.refl _ _).set (Nat.le_refl _),Nat.le_succ _⟩
theorem r03put_c {s:Bool} {n k:Nat} {p:Nat→Bool} {v:Value} {h:Hp} {nx:Nat} (hn:n≤63) (hk:k<n) (hv:SlRd h nx v encU (wds n p)):Cv Q O s 249 [v,.int .i64 (k:Int)] h nx (SetW n (fun i=>p i||decide (i=k)) nx h):=by
 refine r03putv ?_;unfold r03put cF;refine r03setv ?_;have ew:wds n p=[mk n p]:=if_neg (by omega);rw [ew] at hv;obtain ⟨a,cap,rfl,hc⟩:=id hv;obtain ⟨b,sp,ro,hb,rfl,hg⟩:=hc (by simp);have hg:hget h b=some (.cells [.int .u64 (mk n p:Int)] ro):=hg;unfold r03set bF iV nF nS;refine zSo (k:=1) (enc:=encU) (l:=[]) (fun _=>rfl) (fun _=>rfl) (by omega) .nil (mk n p) hg rfl (by show 1*1≤1000000; omega) fun h2 hn2 hf2=>?_;have hl1:(([mk n p].length:Nat):Int)=1:=rfl;simp (disch:=omega) only [SS,quo64 (show k<64 by omega),hl1,seval];refine ⟨fun h=>absurd h (by omega),fun _=>?_⟩;have hg2:hget h2 nx=some (.cells [.int .u64 (mk n p:Int)] false):=hn2;have e1:IntKind.wrap .u64 (k:Int)=(k:Int):=zFu (by omega);have ho:bin Q .or 221 (.int .u64 (mk n p:Int)) (.int .u64 ((2 ^ k:Nat):Int)) = .ok (.int .u64 (mk n (fun i=>p i||decide (i=k)):Int)):=by
  rw [mk_one hk,zSc (mk64 (by omega)) (mk64 (by omega)),mk_or]
 have hl2:((([]:List Nat).length+1:Nat):Int)=1:=rfl;rw [show (!decide True)=false from rfl];unfold zIO bF iV lF xF;simp (disch:=omega) only [SS,quo64 (show k<64 by omega),rem64 (show k<64 by omega),e1,zN1 k (show k<64 by omega),@List.length_nil Nat,hg2,ho,seval];exact SetK.w (by omega) ⟨nx,1,some 1,rfl,Nat.le_refl _,by omega,hnew _ _ _,fun d hd=>by rw [hold (by omega),hf2 d (by omega) (fun e=>by cases e)],by omega⟩
def RoJ (n:Nat) (v:Value) (l:List Nat) (nx:Nat) (h:Hp) (m:Nat) (vs:List Value) (h':Hp) (nx':Nat):Prop :=
 ∃ (i:Nat) (o:Value),m=l.length-i∧i≤l.length∧vs=[.int .i64 (n:Int),v,o,.int .i64 (i:Int)]∧SlNw h' nx nx' o encU (wds n (inL (l.take i)))∧Keep nx h h'∧nx≤nx'
theorem r03of_c {s:Bool} {n:Nat} {l:List Nat} {v:Value} {h:Hp} {nx:Nat} (hn:n≤63) (hv:SlRd h nx v za (natI l)) (hl:∀ x∈l,x<n) (hlen:l.length<1000000):Cv Q O s 157 [.int .i64 (n:Int),v] h nx (SetW n (inL l) nx h):=by
 refine r03ofv ?_;obtain ⟨a,cap,rfl,hc⟩:=id hv;unfold r03of cF iV;refine (r03new_c hn).mono ?_;rintro r h2 n2 ⟨hr,hk2,hle2⟩;have e0:wds n (inL ([]:List Nat))=wds n (fun _=>false):=by unfold wds; rw [zGZ (q:=fun _=>false) fun i _=>by simp [inL]]
 refine Lp.mk (RoJ n (.slice a (natI l).length cap) l nx h) l.length ⟨0,r,by omega,by omega,rfl,by rw [List.take_zero,e0]; exact hr,hk2,hle2⟩ ?_;rintro _ _ h3 n3 ⟨i,o,rfl,hi,rfl,hS,hk3,hle3⟩;have hnl:(natI l).length=l.length:=by unfold natI; rw [List.length_map]
 rw [r03ofb0];unfold zQX bF iV lF nF xF;simp (disch:=omega) only [SS,seval];refine ⟨fun hlt=>?_,fun hge=>?_⟩
 ·rw [hnl] at hlt;obtain ⟨x,hx⟩:=zY hlt;have hxI:(natI l)[i]? = some (x:Int):=by unfold natI; rw [List.getElem?_map,hx]; rfl
  obtain ⟨_,b2,sp2,ro,c1,hb3,e1,hg2⟩:=hv.at hxI;cases e1;rw [zS] at hg2;have hxn:=hl x (List.mem_of_getElem? hx);have hg3:=(hk3 b2 hb3).trans hg2;simp (disch:=omega) only [SS,hg3,zO hxI,seval];refine ⟨fun _=>⟨fun _=>?_,fun h=>absurd hxn h⟩,fun h=>absurd h (by omega)⟩;rw [decide_eq_true (show (x:Int)<4096 by omega)];unfold zIP bF cF iV lF xF;simp (disch:=omega) only [SS,hg3,zO hxI,seval];refine (r03put_c hn hxn hS.rd).mono ?_;rintro o4 h4 n4 ⟨hS4,hk4,hle4⟩;simp (disch:=omega) only [SS,zI (show i<1000000000000 by omega),seval];refine ⟨l.length-(i+1),by omega,i+1,o4,rfl,by omega,rfl,?_,fun d hd=>by rw [hk4 d (by omega)]; exact hk3 d hd,by omega⟩;have e2:wds n (inL (l.take (i+1)))=wds n (fun j=>inL (l.take i) j||decide (j=x)):=by unfold wds; rw [zGZ fun j _=>zMv hx j]
  rw [e2];exact SlNw.keep hS4 (fun _ _ _=>rfl) (by omega) (Nat.le_refl _)
 ·have:i=l.length:=by omega
  subst this;rw [List.take_length] at hS;exact ⟨hS,hk3,hle3⟩
theorem bin_shrN {P:Program} {t:TypeId} {a k:Nat} {kk:IntKind} (hk:k<64):bin P .shr t (.int .u64 (a:Int)) (.int kk (k:Int)) = .ok (.int .u64 ((a / 2 ^ k:Nat):Int)):=by
 show zCN .shr .u64 (a:Int) (k:Int)=_;unfold zCN;rw [show iblt (k:Int) 0=false from rfl];show R.ok (Value.int .u64 ((a:Int).fdiv (2 ^ (min (k:Int).toNat 64))))=_;rw [show min (k:Int).toNat 64=k by simp; omega];have:(a:Int).fdiv (2 ^ k)=((a / 2 ^ k:Nat):Int):=by
  have h2:((2:Int) ^ k)=((2 ^ k:Nat):Int):=by norm_cast
  rw [h2,Int.fdiv_eq_ediv_of_nonneg _ (Int.natCast_nonneg _)];rfl
 rw [this]
theorem zM9 {s:Bool} {n k:Nat} {p:Nat→Bool} {v:Value} {h:Hp} {nx:Nat} (hn:n≤63) (hk:k<64) (h0:n≠0) (hv:SlRd h nx v encU (wds n p)):Cv Q O s 251 [v,.int .i64 (k:Int)] h nx (zCd (.bool (decide (k<n)&&p k)) nx h):=by
 refine r03hasv ?_;have ew:wds n p=[mk n p]:=if_neg h0;rw [ew] at hv;obtain ⟨a,cap,rfl,hc⟩:=id hv;obtain ⟨b,sp,ro,hb,rfl,hg⟩:=hc (by simp);have hg:hget h b=some (.cells [.int .u64 (mk n p:Int)] ro):=hg;have hl1:(([mk n p].length:Nat):Int)=1:=rfl;have e1:IntKind.wrap .u64 (k:Int)=(k:Int):=zFu (by omega);have ht:=zD2 n p k;rw [Nat.testBit_eq_decide_div_mod_eq] at ht;have hlt:mk n p / 2 ^ k<18446744073709551616:=Nat.lt_of_le_of_lt (Nat.div_le_self _ _) (mk64 (by omega));have e2:bin Q .and 221 (.int .u64 ((mk n p / 2 ^ k:Nat):Int)) (.int .u64 1) = .ok (.int .u64 ((mk n p / 2 ^ k % 2:Nat):Int)):=by
  rw [show (1:Int)=((1:Nat):Int) from rfl,zFs hlt (by omega),Nat.and_one_is_mod]
 unfold r03has bF iV lF nF xF;simp (disch:=omega) only [SS,quo64 (show k<64 by omega),rem64 (show k<64 by omega),hl1,hg,e1,bin_shrN (show k<64 by omega),e2,seval];refine ⟨fun _=>⟨⟨?_,rfl,rfl⟩,fun h=>absurd trivial h⟩,fun h=>absurd h (by omega)⟩;rw [← ht];generalize mk n p / 2 ^ k % 2=z
 by_cases hz:z=1
 ·subst hz; rfl
 ·rw [decide_eq_false hz,show (((z:Nat):Int) == 1)=false from beq_eq_false_iff_ne.2 (by omega)]
theorem fl_mem {m:Nat} {p:Nat→Bool} {x:Nat} (h:x∈fl m p):x<m∧p x=true:=by
 unfold fl at h;simpa using h
def RliJ (n:Nat) (p:Nat→Bool) (v:Value) (nx:Nat) (h:Hp) (m:Nat) (vs:List Value) (h':Hp) (nx':Nat):Prop :=
 ∃ (k:Nat) (o:Value),m=64-k∧k≤64∧vs=[v,o,.int .i64 (k:Int)]∧SlAt h' o za 1 (natI (fl k fun i=>decide (i<n)&&p i)) nx nx'∧Keep nx h h'∧nx≤nx'
theorem zQZ {s:Bool} {n:Nat} {p:Nat→Bool} {v:Value} {h:Hp} {nx:Nat} (hn:n≤63) (hv:SlRd h nx v encU (wds n p)):Cv Q O s 384 [v] h nx (fun r h' nx'=>∃ l:List Nat,(∀ x∈l,x<n)∧l.length≤64∧SlNw h' nx nx' r za (natI l)∧Keep nx h h'∧nx≤nx'):=by
 refine rlist3v ?_;obtain ⟨a,cap,rfl,hc⟩:=id hv;unfold rlist3 iV nS
 by_cases h0:n=0
 ·subst h0;refine Lp.mk (fun m vs h' nx'=>vs=[.slice a 0 cap,.slice none 0 0,.int .i64 0]∧h'=h∧nx'=nx) 0 ⟨rfl,rfl,rfl⟩ ?_;rintro _ _ h' nx' ⟨rfl,e1,e2⟩;rw [zMT,e1,e2];unfold zIK bF cF iV nF;have e0:IntKind.wrap .i64 (64*((0:Nat):Int))=0:=rfl;simp (disch:=omega) only [SS,↓reduceIte,Nat.reduceAdd,Nat.reduceSub,Nat.reduceMul,Nat.reduceLT,Nat.reduceLeDiff,Nat.reduceEqDiff,Int.reduceBEq,Int.reduceLT,Int.reduceNeg,e0,zFF];exact fun _=>⟨[],fun x h=>absurd h (by simp),by simp,⟨none,0,rfl,fun h=>absurd rfl h⟩,Keep.refl _ _⟩
 ·have ewd:(wds n p).length=1:=by unfold wds; rw [if_neg h0]; rfl
  rw [ewd] at hv ⊢;refine Lp.mk (RliJ n p (.slice a 1 cap) nx h) 64 ⟨0,_,rfl,by omega,rfl,.inl ⟨rfl,rfl⟩,Keep.refl _ _,Nat.le_refl _⟩ ?_;rintro _ _ h1 n1 ⟨k,o,rfl,hk,rfl,S,hk1,hle1⟩;rw [zMT];unfold zIK bF cF iV nF;have e0:IntKind.wrap .i64 (64*((1:Nat):Int))=64:=rfl;simp (disch:=omega) only [SS,↓reduceIte,Nat.reduceAdd,Nat.reduceSub,Nat.reduceMul,Nat.reduceLT,Nat.reduceLeDiff,Nat.reduceEqDiff,Int.reduceBEq,Int.reduceLT,Int.reduceNeg,e0,zFF];refine ⟨fun hlt=>?_,fun hge=>?_⟩
  ·refine (zM9 hn (show k<64 by omega) h0 (hv.keep hk1 hle1)).mono ?_;rintro _ _ _ ⟨rfl,eh,en⟩;rw [eh,en];have ew:IntKind.wrap .i64 ((k:Int)+1)=((k+1:Nat):Int):=zI (by omega);have hnf:=zIW k fun i=>decide (i<n)&&p i;cases hq:(decide (k<n)&&p k) with
   | true =>
    simp (disch:=omega) only [SS,↓reduceIte,Nat.reduceAdd,Nat.reduceSub,Nat.reduceMul,Nat.reduceLT,Nat.reduceLeDiff,Nat.reduceEqDiff,Int.reduceBEq,Int.reduceLT,Int.reduceNeg,ew];refine zBe (enc:=za) (k:=1) (lo:=nx) (fun _=>rfl) (fun _=>rfl) (by omega) (S.keep (fun c h1 h2=>by rw [hold (by omega)]) (by omega)) (by omega) ((k:Nat):Int) (hnew _ _ _) rfl (by unfold natI; rw [List.length_map]; have:=zE3 k fun i=>decide (i<n)&&p i; omega) fun v5 h5 hs5 hk5=>?_;exact ⟨64-(k+1),by omega,k+1,v5,rfl,by omega,rfl,by rw [hnf,if_pos hq]; exact hs5,fun d hd=>by rw [hk5 d hd,hold (by omega)]; exact hk1 d hd,by omega⟩
   | false =>
    simp (disch:=omega) only [SS,↓reduceIte,Nat.reduceAdd,Nat.reduceSub,Nat.reduceMul,Nat.reduceLT,Nat.reduceLeDiff,Nat.reduceEqDiff,Int.reduceBEq,Int.reduceLT,Int.reduceNeg,ew];exact ⟨64-(k+1),by omega,k+1,o,rfl,by omega,rfl,by rw [hnf,if_neg (by rw [hq]; simp),List.append_nil]; exact S,hk1,hle1⟩
  ·refine ⟨_,fun x hx=>?_,Nat.le_trans (zE3 _ _) hk,S.nw,hk1,hle1⟩;have:=(fl_mem hx).2;simp at this;exact this.1
theorem zNu {s:Bool} {n:Nat} {q:Nat→Bool} {v:Value} {h:Hp} {nx:Nat} (hn:n≤63) (hv:SlRd h nx v encU (wds n q)):Cv Q O s 320 [v,.int .i64 (n:Int)] h nx (EqK (.bool true) nx h):=by
 refine zQV ?_;obtain ⟨a,cap,rfl,hc⟩:=id hv;have ew:(((wds n q).length:Nat):Int)=if n=0 then 0 else 1:=by
  unfold wds; split <;> rfl
 unfold zM8 bF cF iV nF;simp (disch:=omega) only [SS,seval];refine ⟨fun h=>absurd h (by omega),fun _=>⟨fun h=>absurd h (by omega),fun _=>?_⟩⟩;refine (zH4 (by omega)).mono ?_;rintro r h2 n2 ⟨rfl,e1,e2⟩;rw [e1,e2,ew];have eb:((if n=0 then (0:Int) else 1) == if n=0 then 0 else 1)=true:=beq_self_eq_true _;unfold zDH bF cF iV lF nF xF;simp (disch:=omega) only [SS,eb,seval];refine (zQZ hn hv).mono ?_;rintro r h3 n3 ⟨l,hl,hll,hL,hk3,hle3⟩;obtain ⟨al,cl,rfl,hlb⟩:=id hL;have hnl:(natI l).length=l.length:=by unfold natI; rw [List.length_map]
 by_cases h0:l=[]
 ·subst h0;have hz:(((natI []).length:Nat):Int)=0:=rfl;simp (disch:=omega) only [SS,hz,seval];exact ⟨rfl,hk3,hle3⟩
 ·have hpos:0<l.length:=List.length_pos_iff.2 h0;obtain ⟨x,hx⟩:=zY (l:=l) (i:=l.length-1) (by omega);have hxI:(natI l)[l.length-1]? = some (x:Int):=by unfold natI; rw [List.getElem?_map,hx]; rfl
  obtain ⟨_,b2,sp2,ro,c1,hb3,e1,hg2⟩:=hL.rd.at hxI;cases e1;rw [zS] at hg2;have hb:((((natI l).length:Nat):Int) == 0)=false:=beq_eq_false_iff_ne.2 (by omega);have ew1:IntKind.wrap .i64 ((((natI l).length:Nat):Int)-1)=((l.length-1:Nat):Int):=by rw [hnl,show ((l.length:Nat):Int)-1=((l.length-1:Nat):Int) by omega]; exact zBh _ (by omega)
  have hxn:=hl x (List.mem_of_getElem? hx);simp (disch:=omega) only [SS,hb,ew1,hg2,zO hxI,seval];exact ⟨by rw [decide_eq_true hxn],hk3,hle3⟩
theorem rsure_c {s:Bool} {k n src len:Int} {ds:List Int} {low m:Nat} {A B:List Int} {q:Nat→Bool} {v vs:Value} {h:Hp} {nx:Nat} (hv:SlRd h nx v za ds) (hp:zw k n src len ds=0) (hm:m≤63) (hh:((low+m:Nat):Int)≤n) (hn:n≤4096) (hs:StRd h nx vs low ((low+m:Nat):Int) m A B q) (hA:A.length=m) (hB:B.length=m) :
  Cv Q O s 250 [.agg ⟨[.int .i64 k,.int .i64 n,.int .i64 src,.int .i64 len,v]⟩,vs] h nx (EqK vs nx h):=by
 refine rsurev ?_;obtain ⟨a,cap,rfl,hc⟩:=id hv;have hs0:=hs;obtain ⟨va,vb,vo,rfl,S1,S2,S3⟩:=hs;obtain ⟨a1,c1,rfl,_⟩:=id S1;obtain ⟨a2,c2,rfl,_⟩:=id S2;obtain ⟨a3,c3,rfl,_⟩:=id S3;have K0:∀ {o o' o''},Keep nx h (hset (hset (hset h nx o) (nx+1) o') (nx+2) o''):=(((Keep.refl _ _).set (Nat.le_refl _)).set (Nat.le_succ _)).set (by omega);unfold rsure aF bF cF iV lA lF nC nF nS pC;simp (disch:=omega) only [SS,seval];refine (zDB (hv.keep K0 (by omega))).mono ?_;rintro _ h1 n1 ⟨rfl,hk1,hle1⟩;have g0:=hk1 nx (by omega);rw [hold (by omega),hold (by omega),hnew] at g0;have g1:=hk1 (nx+1) (by omega);rw [hold (by omega),hnew] at g1;have g2:=hk1 (nx+2) (by omega);rw [hnew] at g2;have K1:Keep nx h h1:=K0.trans hk1 (by omega);have ew:IntKind.wrap .i64 (((low+m:Nat):Int)-(low:Int))=(m:Int):=by rw [show ((low+m:Nat):Int)-(low:Int)=(m:Int) by omega]; exact zBh m (by omega)
 have eb:(((m:Nat):Int) == (m:Int))=true:=beq_self_eq_true _;simp (disch:=omega) only [SS,hp,g0,g1,ew,hA,hB,eb,seval];refine ⟨fun h=>absurd h (by omega),fun _=>⟨fun h=>absurd h (by omega),fun _=>⟨fun h=>absurd h (by omega),fun _=>?_⟩⟩⟩;refine (zNu hm (S3.keep (nx':=n1) K1 (by omega))).mono ?_;rintro _ h2 n2 ⟨rfl,hk2,hle2⟩;have f1:=(hk2 (nx+1) (by omega)).trans g1;have f2:=(hk2 (nx+2) (by omega)).trans g2;unfold zCj cF lA;simp (disch:=omega) only [SS,f1,f2,hA,hB,seval];exact ⟨rfl,(K1.trans hk2 (by omega)).set (by omega),by omega⟩
def rlN (k:Int) (A:List Int) (q:Nat→Bool) (i:Nat):Bool:=if k=5 then A[i]? == some 0 else q i
def RlvJ (p1 p4 m:Nat) (k:Int) (A:List Int) (q:Nat→Bool) (h:Hp) (nx:Nat) (mm:Nat) (vs:List Value) (h':Hp) (nx':Nat):Prop :=
 ∃ i,mm=m-i∧i≤m∧vs=[.pointer (some ⟨p1,0,none⟩),.pointer (some ⟨p4,0,none⟩),.int .i64 ((fl i (rlN k A q)).length:Int),.int .i64 (i:Int)]∧h'=h∧nx'=nx
theorem rlive_c {s:Bool} {k n src len round:Int} {ds:List Int} {low m:Nat} {A B:List Int} {q:Nat→Bool} {v vs:Value} {h:Hp} {nx:Nat} (hv:SlRd h nx v za ds) (hp:zw k n src len ds=0) (hm:m≤63) (hh:((low+m:Nat):Int)≤n) (hn:n≤4096) (hs:StRd h nx vs low ((low+m:Nat):Int) m A B q) (hA:A.length=m) (hB:B.length=m) :
  Cv Q O s 159 [.agg ⟨[.int .i64 k,.int .i64 n,.int .i64 src,.int .i64 len,v]⟩,vs,.int .i64 round] h nx (EqK (.int .i64 (if k=4∧len≤round then 0 else ((fl m (rlN k A q)).length:Int))) nx h):=by
 refine rlivev ?_;obtain ⟨a,cap,rfl,hc⟩:=id hv;have hs0:=hs;obtain ⟨va,vb,vo,rfl,S1,S2,S3⟩:=hs;obtain ⟨a1,c1,rfl,hg1⟩:=id S1;obtain ⟨a2,c2,rfl,_⟩:=id S2;obtain ⟨a3,c3,rfl,_⟩:=id S3;have K0:∀ {o o'},Keep nx h (hset (hset h nx o) (nx+1) o'):=((Keep.refl _ _).set (Nat.le_refl _)).set (Nat.le_succ _);unfold rlive aF bF cF iV lA lF pC;simp (disch:=omega) only [SS,seval];refine (rsure_c (hv.keep K0 (by omega)) hp hm hh hn (hs0.keep K0 (by omega)) hA hB).mono ?_;rintro _ h1 n1 ⟨rfl,hk1,hle1⟩;have g0:=hk1 nx (by omega);rw [hold (by omega),hnew] at g0;have g1:=hk1 (nx+1) (by omega);rw [hnew] at g1;simp (disch:=omega) only [SS,g0,g1,seval];generalize hH:hset h1 (nx+1) _=H;have f0:hget H nx=_:=(show hget H nx=hget h1 nx by rw [← hH,hold (by omega)]).trans g0;have f1:hget H (nx+1)=some (.cells [.int .i64 (low:Int),.int .i64 ((low+m:Nat):Int),.slice a1 A.length c1,.slice a2 B.length c2,.slice a3 (wds m q).length c3] false):=by rw [← hH,hnew]
 have KH:Keep nx h H:=fun d hd=>by rw [← hH,hold (by omega),hk1 d (by omega),hold (by omega),hold (by omega)]
 clear hH;have ew:IntKind.wrap .i64 (((low+m:Nat):Int)-(low:Int))=(m:Int):=by rw [show ((low+m:Nat):Int)-(low:Int)=(m:Int) by omega]; exact zBh m (by omega)
 have loop:¬ (k=4∧len≤round)→zGH s (EqK (.int .i64 (if k=4∧len≤round then 0 else ((fl m (rlN k A q)).length:Int))) nx h) (.pointer (some ⟨nx,0,none⟩)) (.pointer (some ⟨nx+1,0,none⟩)) (.bool false) H n1:=fun hno=>by
  rw [if_neg hno];unfold zGH iV;refine Lp.mk (RlvJ nx (nx+1) m k A q H n1) m ⟨0,by omega,by omega,rfl,rfl,rfl⟩ ?_;rintro _ _ _ _ ⟨i,rfl,hi,rfl,eh,en⟩;rw [rliveb0,eh,en];unfold zPu aF bF cF iV lF xF;simp (disch:=omega) only [SS,f0,f1,ew,seval];refine ⟨fun hlt=>?_,fun hge=>?_⟩
  ·have ei:IntKind.wrap .i64 ((i:Int)+1)=((i+1:Nat):Int):=zI (by omega);have hfl:=zE3 i (rlN k A q);have ec:IntKind.wrap .i64 (((fl i (rlN k A q)).length:Int)+1)=(((fl i (rlN k A q)).length+1:Nat):Int):=zI (by omega);have key:∀ {e0 R},zDe s (fun vs h_1 nx_1=>∃ m',m'<m-i∧RlvJ nx (nx+1) m k A q H n1 m' vs h_1 nx_1) e0 R (.pointer (some ⟨nx,0,none⟩)) (.pointer (some ⟨nx+1,0,none⟩)) (.int .i64 ((fl i (rlN k A q)).length:Int)) (.int .i64 (i:Int)) (.bool (rlN k A q i)) H n1:=fun {e0 R}=>by
    unfold zDe bF iV;have hu:=fl_up i (rlN k A q);cases hq:rlN k A q i with
    | true =>
     rw [hq] at hu;simp (disch:=omega) only [SS,ei,ec,seval];exact ⟨m-(i+1),by omega,i+1,rfl,by omega,by rw [hu]; simp,rfl,rfl⟩
    | false =>
     rw [hq] at hu;simp (disch:=omega) only [SS,ei,seval];exact ⟨m-(i+1),by omega,i+1,rfl,by omega,by rw [hu]; simp,rfl,rfl⟩
   refine ⟨fun h5=>?_,fun h5=>⟨fun _=>?_,fun h=>absurd (h.symm.trans h5) (by simp)⟩⟩
   ·have h5':k=5:=by simpa using h5
    obtain ⟨x,hx⟩:=zY (l:=A) (i:=i) (by omega);obtain ⟨_,b2,sp2,ro,_,hb2,e3,hg2⟩:=S1.at hx;cases e3;rw [zS] at hg2;have hgx:=(KH b2 hb2).trans hg2;have hq:rlN k A q i=(x == 0):=by unfold rlN; rw [if_pos h5',hx]; rfl
    rw [hq] at key;simp (disch:=omega) only [SS,hgx,zO hx,seval];refine ⟨fun h0=>?_,fun h0=>⟨fun h=>absurd (h.symm.trans h5) (by simp),fun _=>?_⟩⟩
    ·rw [h0] at key;exact key
    ·rw [h0] at key;exact key
   ·have h5':¬ k=5:=by simpa using h5
    refine (zM9 (k:=i) hm (by omega) (by omega) (S3.keep (nx':=n1) KH (by omega))).mono ?_;rintro _ _ _ ⟨rfl,eh,en⟩;rw [eh,en];have hq:rlN k A q i=(decide (i<m)&&q i):=by unfold rlN; rw [if_neg h5',decide_eq_true (show i<m by omega),Bool.true_and]
    rw [hq] at key;exact key
  ·have:i=m:=by omega
   subst this;exact ⟨rfl,KH,by omega⟩
 refine ⟨fun h4=>?_,fun h4=>loop fun h=>by rw [h.1] at h4; cases h4⟩;have h4':k=4:=by simpa using h4
 by_cases hr:round<len
 ·rw [decide_eq_true hr];exact loop fun h=>absurd h.2 (by omega)
 ·rw [decide_eq_false hr,if_pos ⟨h4',by omega⟩];unfold zGH iV;exact ⟨rfl,KH,by omega⟩
theorem rbg0 {s:Bool} {N e0 R:KVl} {low hi:Int} {p v:Nat} {a:Int} {A B L:List Int} {va vb o y1 y2 y3 y6:Value} {h2:Hp} {n2:Nat} (g:hget h2 p=some (.cells [.int .i64 low,.int .i64 hi,va,vb,.slice none 0 0] false)) (S:ChS (p+1) h2 n2 va vb o A B L) (hp:p+1≤n2) (hA:A.length≤1000) (hB:B.length≤1000) (hv:v<1000000)
  (hN:∀ va' vb' h3 n3,hget h3 p=some (.cells [.int .i64 low,.int .i64 hi,va',vb',.slice none 0 0] false)→ChS (p+1) h3 n3 va' vb' o (A++[a]) (B++[-1]) L→(∀ d,d<p→hget h3 d=hget h2 d)→n2≤n3→N [y1,y2,y3,y6,.pointer (some ⟨p,0,none⟩),o,.int .i64 ((v+1:Nat):Int)] h3 n3) :
  zFf s N e0 R y1 y2 y3 y6 (.pointer (some ⟨p,0,none⟩)) o (.int .i64 (v:Int)) (.int .i64 a) h2 n2:=by
 obtain ⟨Pa,Pb,Pc,SA,SB,SC,ha,hb,hc⟩:=S;obtain ⟨aa,ca,rfl⟩:=SA.form;obtain ⟨ab,cb,rfl⟩:=SB.form;have ew:IntKind.wrap .i64 ((v:Int)+1)=((v+1:Nat):Int):=zI (by omega);have nA:¬ Pa p:=fun hp=>by have:=ha _ hp; omega
 have nB:¬ Pb p:=fun hp=>by have:=hb _ hp; omega
 unfold zFf aF bF iV lF;simp (disch:=omega) only [SS,g,seval];refine zC5 (k:=1) (fun _=>rfl) (fun _=>rfl) (by omega) (nx:=n2+1) (P':=fun d=>d=n2+1) (SA.keep (P':=Pa) fun d hd=>⟨hold (by have:=ha d hd; omega),hd⟩) rfl a (hnew _ _ _) rfl (by omega) fun va' h3 SA3 hf3=>?_;obtain ⟨a3',c3',rfl⟩:=SA3.form;have g3:=(show hget h3 p=hget h2 p by rw [hf3 _ (by omega) nA,hold (by omega)]).trans g;simp (disch:=omega) only [SS,g3,seval];refine zC5 (k:=1) (fun _=>rfl) (fun _=>rfl) (by omega) (nx:=n2+3) (P':=fun d=>d=n2+3) (SB.keep (P':=Pb) fun d hd=>?_) rfl (-1:Int) (hnew _ _ _) rfl (by omega) fun vb' h4 SB4 hf4=>?_
 ·have:=hb d hd;exact ⟨by rw [hold (by omega),hold (by omega),hf3 d (by omega) (fun hp=>(ha d hp).2.2.1 hd),hold (by omega)],hd⟩
 obtain ⟨a4',c4',rfl⟩:=SB4.form;have g4:hget h4 p=some (.cells [.int .i64 low,.int .i64 hi,.slice a3' (A++[a]).length c3',.slice ab B.length cb,.slice none 0 0] false):=by rw [hf4 _ (by omega) nB,hold (by omega),hnew]
 simp (disch:=omega) only [SS,g4,ew,seval];have e5:∀ {o} d,d≠p→d<n2→¬ Pa d→¬ Pb d→hget (hset h4 p o) d=hget h2 d:=fun d h1 h2 h3 h4=>by
  rw [hold h1,hf4 d (by omega) h4,hold (by omega),hold h1,hf3 d (by omega) h3,hold (by omega)]
 refine hN _ _ _ _ (hnew _ _ _) ⟨fun d=>d=n2+1,fun d=>d=n2+3,Pc,SA3.keep fun d hd=>?_,SB4.keep fun d hd=>?_,SC.keep fun d hd=>?_,fun d hd=>?_,fun d hd=>?_,fun d hd=>?_⟩ (fun d hd=>?_) (by omega)
 ·have hd:d=n2+1:=hd;exact ⟨by rw [hold (by omega),hf4 d (by omega) (fun hp=>by have:=hb d hp; omega),hold (by omega),hold (by omega)],hd⟩
 ·have hd:d=n2+3:=hd;exact ⟨hold (by omega),hd⟩
 ·have:=hc d hd;exact ⟨e5 d (by omega) (by omega) (fun hp=>(ha d hp).2.2.2 hd) (fun hp=>(hb d hp).2.2 hd),hd⟩
 ·exact ⟨by omega,by omega,by omega,fun hp=>by have:=hc d hp; omega⟩
 ·exact ⟨by omega,by omega,fun hp=>by have:=hc d hp; omega⟩
 ·have:=hc d hd;omega
 ·exact e5 d (by omega) (by omega) (fun hp=>by have:=ha d hp; omega) (fun hp=>by have:=hb d hp; omega)
theorem rbg1 {s:Bool} {N e0 R:KVl} {lo i p:Nat} {hi:Int} {a:Int} {is:Bool} {A B L:List Int} {va vb o y2 y3 y6:Value} {h2:Hp} {n2:Nat} (g:hget h2 p=some (.cells [.int .i64 (lo:Int),.int .i64 hi,va,vb,.slice none 0 0] false)) (S:ChS (p+1) h2 n2 va vb o A B L) (hp:p+1≤n2) (hA:A.length≤1000) (hB:B.length≤1000) (hL:L.length≤1000) (hv:lo+i<1000000)
  (hN:∀ va' vb' o' h3 n3,hget h3 p=some (.cells [.int .i64 (lo:Int),.int .i64 hi,va',vb',.slice none 0 0] false)→ChS (p+1) h3 n3 va' vb' o' (A++[a]) (B++[-1]) (L++if is then [(i:Int)] else [])→(∀ d,d<p→hget h3 d=hget h2 d)→n2≤n3→N [.int .i64 (lo:Int),y2,y3,y6,.pointer (some ⟨p,0,none⟩),o',.int .i64 ((lo+i+1:Nat):Int)] h3 n3) :
  zEN s N e0 R (.int .i64 (lo:Int)) y2 y3 y6 (.pointer (some ⟨p,0,none⟩)) o (.int .i64 ((lo+i:Nat):Int)) (.int .i64 a) (.bool is) h2 n2:=by
 unfold zEN bF iV;cases is with
 | false =>
  simp (disch:=omega) only [SS,seval];refine rbg0 g S hp hA hB hv fun va' vb' h3 n3 x1 x2 x3 x4=>hN va' vb' o h3 n3 x1 (by simpa using x2) x3 x4
 | true =>
  have ew:IntKind.wrap .i64 (((lo+i:Nat):Int)-(lo:Int))=(i:Int):=by rw [show ((lo+i:Nat):Int)-(lo:Int)=(i:Int) by omega]; exact zBh i (by omega)
  obtain ⟨Pa,Pb,Pc,SA,SB,SC,ha,hb,hc⟩:=S;simp (disch:=omega) only [SS,ew,seval];refine zC5 (k:=1) (fun _=>rfl) (fun _=>rfl) (by omega) (nx:=n2+1) (P':=fun d=>d=n2+1) (SC.keep (P':=Pc) fun d hd=>⟨hold (by have:=hc d hd; omega),hd⟩) rfl (i:Int) (hnew _ _ _) rfl (by omega) fun o' h3 SC3 hf3=>?_;have e3:∀ d,d<n2→¬ Pc d→hget h3 d=hget h2 d:=fun d h1 h2=>by rw [hf3 d (by omega) h2,hold (by omega)]
  refine rbg0 ((e3 p (by omega) (fun hp=>by have:=hc _ hp; omega)).trans g) ⟨Pa,Pb,fun d=>d=n2+1,SA.keep fun d hd=>?_,SB.keep fun d hd=>?_,SC3,fun d hd=>?_,fun d hd=>?_,fun d hd=>?_⟩ (by omega) hA hB hv fun va' vb' h4 n4 x1 x2 x3 x4=>hN va' vb' o' h4 n4 x1 (by simpa using x2) (fun d hd=>by rw [x3 d hd,e3 d (by omega) (fun hp=>by have:=hc _ hp; omega)]) (by omega)
  ·exact ⟨e3 d (by have:=ha d hd; omega) (ha d hd).2.2.2,hd⟩
  ·exact ⟨e3 d (by have:=hb d hd; omega) (hb d hd).2.2,hd⟩
  ·have:=ha d hd;exact ⟨this.1,by omega,this.2.2.1,by omega⟩
  ·have:=hb d hd;exact ⟨this.1,by omega,by omega⟩
  ·omega
def frB (k src v:Int):Bool:=decide (k=4∨k=1∨k=2)&&decide (v=src)
def rA (k src v:Int):Int:=if frB k src v then (if k=4 then 1 else 0) else if k=1 then -1 else if k=2 then 4611686018427387904 else if k=3 then v else 0
def rQ (k src v:Int):Bool:=frB k src v||decide (k=3)
theorem rbg4 {s:Bool} {N e0 R:KVl} {lo i p pl:Nat} {hi k n src len:Int} {ad:Option Addr} {nd cd:Nat} {A B L:List Int} {va vb o y2 y6:Value} {h2:Hp} {n2:Nat} (gpl:hget h2 pl=some (.cells [.int .i64 k,.int .i64 n,.int .i64 src,.int .i64 len,.slice ad nd cd] false)) (g:hget h2 p=some (.cells [.int .i64 (lo:Int),.int .i64 hi,va,vb,.slice none 0 0] false)) (S:ChS (p+1) h2 n2 va vb o A B L) (hp:p+1≤n2) (hA:A.length≤1000) (hB:B.length≤1000) (hL:L.length≤1000) (hv:lo+i<1000000)
  (hN:∀ va' vb' o' h3 n3,hget h3 p=some (.cells [.int .i64 (lo:Int),.int .i64 hi,va',vb',.slice none 0 0] false)→ChS (p+1) h3 n3 va' vb' o' (A++[rA k src ((lo+i:Nat):Int)]) (B++[-1]) (L++if rQ k src ((lo+i:Nat):Int) then [(i:Int)] else [])→(∀ d,d<p→hget h3 d=hget h2 d)→n2≤n3→N [.int .i64 (lo:Int),y2,.pointer (some ⟨pl,0,none⟩),y6,.pointer (some ⟨p,0,none⟩),o',.int .i64 ((lo+i+1:Nat):Int)] h3 n3) :
  zDD s N e0 R (.int .i64 (lo:Int)) y2 (.pointer (some ⟨pl,0,none⟩)) y6 (.pointer (some ⟨p,0,none⟩)) o (.int .i64 ((lo+i:Nat):Int)) (.bool (rQ k src ((lo+i:Nat):Int))) h2 n2:=by
 have k3:∀ a0:Int,a0=(if k=1 then -1 else if k=2 then 4611686018427387904 else if k=3 then ((lo+i:Nat):Int) else 0)→zDE s N e0 R (.int .i64 (lo:Int)) y2 (.pointer (some ⟨pl,0,none⟩)) y6 (.pointer (some ⟨p,0,none⟩)) o (.int .i64 ((lo+i:Nat):Int)) (.int .i64 a0) (.bool (rQ k src ((lo+i:Nat):Int))) h2 n2:=fun a0 ha0=>by
  have k2:zFe s N e0 R (.int .i64 (lo:Int)) y2 (.pointer (some ⟨pl,0,none⟩)) y6 (.pointer (some ⟨p,0,none⟩)) o (.int .i64 ((lo+i:Nat):Int)) (.int .i64 a0) (.bool (rQ k src ((lo+i:Nat):Int))) (.bool (frB k src ((lo+i:Nat):Int))) h2 n2:=by
   unfold zFe aF bF iV lF
   by_cases hf:frB k src ((lo+i:Nat):Int)=true
   ·rw [hf];simp (disch:=omega) only [SS,gpl,seval];refine ⟨fun h4=>rbg1 g S hp hA hB hL hv ?_,fun h4=>rbg1 g S hp hA hB hL hv ?_⟩
    ·have:rA k src ((lo+i:Nat):Int)=1:=by unfold rA; rw [if_pos hf,if_pos (by simpa using h4)]
     rw [this] at hN; exact hN
    ·have:rA k src ((lo+i:Nat):Int)=0:=by unfold rA; rw [if_pos hf,if_neg (by simpa using h4)]
     rw [this] at hN; exact hN
   ·have hf':frB k src ((lo+i:Nat):Int)=false:=by simpa using hf
    rw [hf'];have:rA k src ((lo+i:Nat):Int)=a0:=by unfold rA; rw [if_neg hf,ha0]
    rw [this] at hN;exact rbg1 g S hp hA hB hL hv hN
  unfold zDE aF bF cF lF;simp (disch:=omega) only [SS,gpl,seval];refine rfrom_c.mono ?_;rintro _ _ _ ⟨rfl,eh,en⟩;rw [eh,en];have hb:((((lo+i:Nat):Int) == src):Bool)=decide (((lo+i:Nat):Int)=src):=rfl
  by_cases hk:k=4∨k=1∨k=2
  ·have e:frB k src ((lo+i:Nat):Int)=decide (((lo+i:Nat):Int)=src):=by unfold frB; rw [decide_eq_true hk,Bool.true_and]
   rw [e] at k2;rw [decide_eq_true hk];simp (disch:=omega) only [SS,gpl,hb,seval];exact k2
  ·have e:frB k src ((lo+i:Nat):Int)=false:=by unfold frB; rw [decide_eq_false hk,Bool.false_and]
   rw [e] at k2;rw [decide_eq_false hk];exact k2
 unfold zDD aF bF iV lF;simp (disch:=omega) only [SS,gpl,seval];have B:∀ {x y:Int},((x == y):Bool)=true→x=y:=fun h=>by simpa using h
 have B':∀ {x y:Int},((x == y):Bool)=false→¬ x=y:=fun h=>by simpa using h
 refine ⟨fun h1=>k3 _ ?_,fun h1=>⟨fun h2=>k3 _ ?_,fun h2=>⟨fun h3=>k3 _ ?_,fun h3=>k3 _ ?_⟩⟩⟩
 ·rw [if_pos (B h1)]
 ·rw [if_neg (B' h1),if_pos (B h2)]
 ·rw [if_neg (B' h1),if_neg (B' h2),if_pos (B h3)]
 ·rw [if_neg (B' h1),if_neg (B' h2),if_neg (B' h3)]
def RbgJ (lo m p pl pr:Nat) (k src:Int) (w:Value) (plan zero:AObj) (h0:Hp) (nx:Nat) (mm:Nat) (vs:List Value) (h':Hp) (nx':Nat):Prop :=
 ∃ (i:Nat) (va vb o:Value),mm=m-i∧i≤m∧vs=[.int .i64 (lo:Int),w,.pointer (some ⟨pl,0,none⟩),.pointer (some ⟨pr,0,none⟩),.pointer (some ⟨p,0,none⟩),o,.int .i64 ((lo+i:Nat):Int)] ∧
  hget h' p=some (.cells [.int .i64 (lo:Int),.int .i64 ((lo+m:Nat):Int),va,vb,.slice none 0 0] false)∧ChS (p+1) h' nx' va vb o (rmap i fun j=>rA k src ((lo+j:Nat):Int)) (rmap i fun _=>-1) (natI (fl i fun j=>rQ k src ((lo+j:Nat):Int)))∧hget h' pl=some plan∧hget h' pr=some zero∧Keep nx h0 h'∧p+1≤nx'
theorem rbegin_c {s:Bool} {k n src len:Int} {ds:List Int} {low m:Nat} {v:Value} {h:Hp} {nx:Nat} (hv:SlRd h nx v za ds) (hp:zw k n src len ds=0) (hm:m≤63) (hh:((low+m:Nat):Int)≤n) (hn:n≤4096) :
  Cv Q O s 59 [.agg ⟨[.int .i64 k,.int .i64 n,.int .i64 src,.int .i64 len,v]⟩,.int .i64 (low:Int),.int .i64 ((low+m:Nat):Int)] h nx (fun r h' nx'=>StNw h' nx nx' r low ((low+m:Nat):Int) m (rmap m fun i=>rA k src ((low+i:Nat):Int)) (rmap m fun _=>-1) (fun i=>rQ k src ((low+i:Nat):Int))∧Keep nx h h'∧nx≤nx'):=by
 refine rbeginv ?_;obtain ⟨a,cap,rfl,hc⟩:=id hv;have K0:∀ {o o'},Keep nx h (hset (hset h nx o) (nx+1) o'):=((Keep.refl _ _).set (Nat.le_refl _)).set (Nat.le_succ _);unfold rbegin aF bF cF iV lA lF nC nS pC;simp (disch:=omega) only [SS,seval];refine (zDB (hv.keep K0 (by omega))).mono ?_;rintro _ h1 n1 ⟨rfl,hk1,hle1⟩;have g0:=hk1 nx (by omega);rw [hold (by omega),hnew] at g0;have g1:=hk1 (nx+1) (by omega);rw [hnew] at g1;have K1:Keep nx h h1:=K0.trans hk1 (by omega);simp (disch:=omega) only [SS,hp,g0,g1,seval];refine ⟨fun h=>absurd h (by omega),fun _=>⟨fun h=>absurd h (by omega),fun _=>?_⟩⟩;rw [show decide (n<((low+m:Nat):Int))=false from decide_eq_false (by omega)];unfold zEM aF bF cF iV lA nC nS;simp (disch:=omega) only [SS,g0,g1,seval];have K2:∀ {o o'},Keep nx h (hset (hset h1 n1 o) n1 o'):=(K1.set (by omega)).set (by omega);refine Lp.mk (RbgJ low m n1 nx (nx+1) k src (.int .i64 ((low+m:Nat):Int)) (.cells [.int .i64 k,.int .i64 n,.int .i64 src,.int .i64 len,.slice a ds.length cap] false) (.cells [.int .i64 0,.int .i64 0,.slice none 0 0,.slice none 0 0,.slice none 0 0] false) h nx) m ⟨0,_,_,_,by omega,by omega,rfl,hnew _ _ _,⟨fun _=>False,fun _=>False,fun _=>False,.inl ⟨rfl,rfl⟩,.inl ⟨rfl,rfl⟩,.inl ⟨rfl,rfl⟩,fun _ h=>h.elim,fun _ h=>h.elim,fun _ h=>h.elim⟩,by rw [hold (by omega),hold (by omega)]; exact g0,by rw [hold (by omega),hold (by omega)]; exact g1,K2,by omega⟩ ?_;rintro _ _ h2 n2 ⟨i,va,vb,o,rfl,hi,rfl,gp,S,gpl,gpr,hk2,hle2⟩;rw [rbeginb0];unfold zM2 aF bF cF iV lF;simp (disch:=omega) only [SS,gpl,seval];refine ⟨fun hlt=>?_,fun hge=>?_⟩
 ·have key:=fun (N:KVl) (e0 R:KVl) hN=>rbg4 (s:=s) (lo:=low) (i:=i) (N:=N) (e0:=e0) (R:=R) (y2:=.int .i64 ((low+m:Nat):Int)) (y6:=.pointer (some ⟨nx+1,0,none⟩)) gpl gp S hle2 (by rw [zBn]; omega) (by rw [zBn]; omega) (by unfold natI; rw [List.length_map]; have:=zE3 i fun j=>rQ k src ((low+j:Nat):Int); omega) (by omega) hN;refine rfrom_c.mono ?_;rintro _ _ _ ⟨rfl,eh,en⟩;rw [eh,en];have hb:((((low+i:Nat):Int) == src):Bool)=decide (((low+i:Nat):Int)=src):=rfl;have h3b:((k == 3):Bool)=decide (k=3):=rfl;have fin:∀ {b:Bool} {R:KVl} {e0:KVl},rQ k src ((low+i:Nat):Int)=b→zDD s (fun vs h_1 nx_1=>∃ m',m'<m-i∧RbgJ low m n1 nx (nx+1) k src (.int .i64 ((low+m:Nat):Int)) (.cells [.int .i64 k,.int .i64 n,.int .i64 src,.int .i64 len,.slice a ds.length cap] false) (.cells [.int .i64 0,.int .i64 0,.slice none 0 0,.slice none 0 0,.slice none 0 0] false) h nx m' vs h_1 nx_1) e0 R (.int .i64 (low:Int)) (.int .i64 ((low+m:Nat):Int)) (.pointer (some ⟨nx,0,none⟩)) (.pointer (some ⟨nx+1,0,none⟩)) (.pointer (some ⟨n1,0,none⟩)) o (.int .i64 ((low+i:Nat):Int)) (.bool b) h2 n2:=fun {b R e0} hq=>by
   rw [← hq];refine key _ e0 R fun va' vb' o' h3 n3 x1 x2 x3 x4=>⟨m-(i+1),by omega,i+1,va',vb',o',rfl,by omega,rfl,x1,by rw [zHZ,zHZ,zIW]; exact x2,(x3 nx (by omega)).trans gpl,(x3 (nx+1) (by omega)).trans gpr,fun d hd=>by rw [x3 d (by omega)]; exact hk2 d hd,by omega⟩
  by_cases hk:k=4∨k=1∨k=2
  ·rw [decide_eq_true hk];simp (disch:=omega) only [SS,gpl,hb,seval];refine ⟨fun hs=>fin ?_,fun hs=>fin ?_⟩
   ·simp [rQ,frB,hk,hs]
   ·have hs':¬ ((low+i:Nat):Int)=src:=by simpa using hs
    unfold rQ frB;rw [decide_eq_false hs',Bool.and_false,Bool.false_or,← h3b]
  ·rw [decide_eq_false hk];simp (disch:=omega) only [SS,gpl,seval];refine fin ?_;unfold rQ frB;rw [decide_eq_false hk,Bool.false_and,Bool.false_or,← h3b]
 ·have:i=m:=by omega
  subst this;have ew:IntKind.wrap .i64 (((low+i:Nat):Int)-(low:Int))=(i:Int):=by rw [show ((low+i:Nat):Int)-(low:Int)=(i:Int) by omega]; exact zBh i (by omega)
  obtain ⟨Pa,Pb,Pc,SA,SB,SC,ha,hb,hc⟩:=S;obtain ⟨aa,ca,rfl⟩:=SA.form;obtain ⟨ab,cb,rfl⟩:=SB.form;rw [ew];refine (r03of_c (by omega) ((SC.nw (lo:=0) (hi:=n2) fun d hd=>by have:=hc d hd; omega).rd) (fun x hx=>(fl_mem hx).1) (by have:=zE3 i fun j=>rQ k src ((low+j:Nat):Int); omega)).mono ?_;rintro r h3 n3 ⟨hr,hk3,hle3⟩;rw [wds_fl] at hr;obtain ⟨ra,rc,rfl,hrc⟩:=id hr;have gp3:=(hk3 n1 (by omega)).trans gp;have gr3:=(hk3 (nx+1) (by omega)).trans gpr;simp (disch:=omega) only [SS,gp3,gr3,seval];have e7:∀ {o o'} d,d≠n1→d≠nx+1→hget (hset (hset h3 n1 o) (nx+1) o') d=hget h3 d:=fun d h1 h2=>by rw [hold (by omega),hold (by omega)]
  refine ⟨⟨_,_,_,rfl,(SA.keep (P':=Pa) fun d hd=>⟨?_,hd⟩).nw fun d hd=>by have:=ha d hd; omega,(SB.keep (P':=Pb) fun d hd=>⟨?_,hd⟩).nw fun d hd=>by have:=hb d hd; omega,⟨ra,rc,rfl,fun hne=>?_⟩⟩,fun d hd=>?_,by omega⟩
  ·have:=ha d hd;rw [e7 d (by omega) (by omega),hk3 d (by omega)]
  ·have:=hb d hd;rw [e7 d (by omega) (by omega),hk3 d (by omega)]
  ·obtain ⟨b,sp,ro,b1,b2,b3,b4⟩:=hrc hne;exact ⟨b,sp,ro,by omega,b2,b3,by rw [e7 b (by omega) (by omega)]; exact b4⟩
  ·rw [e7 d (by omega) (by omega),hk3 d (by omega)]; exact hk2 d hd
theorem wk_set19 {c:Nat→Value} {v:Value}:(wk c).set 19 v=wk (upd c 19 v):=rfl
theorem wk_set36 {c:Nat→Value} {v:Value}:(wk c).set 36 v=wk (upd c 36 v):=rfl
theorem zNm {s:Bool} {c:Nat→Value} {C i j pw:Nat} {ro:Bool} {h:Hp} {nx:Nat} (hw:hget h pw=some (.cells (wk c) ro)) (h1:1≤C) (h8:C≤8) (hi:i<8) (hj:j<C) (hc:c 8 = .int .i64 (C:Int)):Cv Q O s 252 [.pointer (some ⟨pw,0,none⟩),.int .i64 (i:Int),.int .i64 (j:Int)] h nx (zCd (.int .i64 ((i*C+j:Nat):Int)) nx h):=by
 refine zPe ?_;unfold zMM aF bF lF;unfold wk at hw;simp (disch:=omega) only [SS,hw,hc,seval];have hb:i*C<64:=by
  have:i*C≤7*8:=Nat.mul_le_mul (by omega) h8;omega
 have em:IntKind.wrap .i64 ((i:Int)*(C:Int))=((i*C:Nat):Int):=by rw [← Int.natCast_mul]; exact zBh _ (by omega)
 have ea:IntKind.wrap .i64 (((i*C:Nat):Int)+(j:Int))=((i*C+j:Nat):Int):=by rw [← Int.natCast_add]; exact zBh _ (by omega)
 simp only [RK,zFF,zDy,em,ea];exact ⟨rfl,rfl,rfl⟩
theorem rwsend_c {s:Bool} {c:Nat→Value} {f:FrV} {l:List FrV} {C i j pw:Nat} {P:Nat→Prop} {h:Hp} {nx:Nat} (hw:hget h pw=some (.cells (wk c) false)) (hpw:pw<nx) (h1:1≤C) (h8:C≤8) (hi:i<8) (hj:j<C) (hc0:c 12 = .int .i64 (i:Int)) (hc1:c 13 = .int .i64 (j:Int)) (hc:c 8 = .int .i64 (C:Int)) (ho:SlX h (c 19) encF 11 l P) (hP:∀ d,P d→d≠pw∧d<nx) (hl:l.length≤1000) :
  Cv Q O s 160 [.pointer (some ⟨pw,0,none⟩),.agg ⟨encF f⟩] h nx (fun r h' nx'=>r = .tuple ⟨[]⟩∧(∃ v' P',hget h' pw=some (.cells (wk (upd c 19 v')) false)∧SlX h' v' encF 11 (l++[{ f with fr:=((i*C+j:Nat):Int) }]) P'∧(∀ d,P' d→nx≤d∧d<nx'))∧(∀ d,d<nx→d≠pw→¬ P d→hget h' d=hget h d)∧nx≤nx'):=by
 refine rwsendv ?_;obtain ⟨ao,co,eo⟩:=ho.form;have hw0:=hw;have K0:∀ {o},Keep nx h (hset h nx o):=(Keep.refl _ _).set (Nat.le_refl _);have hwN:∀ {o},hget (hset h nx o) pw=some (.cells (wk c) false):=fun {o}=>by rw [hold (by omega)]; exact hw0
 have hw':=@hwN;unfold wk at hw';unfold rwsend aF dF iV lA lF nS pC;rw [show encF f=[.int .i64 f.kind,.int .i64 f.fr,.int .i64 f.to_,.int .i64 f.x3,.int .i64 f.round,.int .i64 f.vn,.slice f.a6 f.n6 f.c6,.slice f.a7 f.n7 f.c7,.slice f.a8 f.n8 f.c8,.int .i64 f.n,.bool f.over] from rfl];simp (disch:=omega) only [SS,hw',hc0,hc1,seval];refine (zNm hwN h1 h8 hi hj hc).mono ?_;rintro _ _ _ ⟨rfl,rfl,rfl⟩;simp (disch:=omega) only [SS,hw',hw,seval];rw [zSS];simp (disch:=omega) only [SS,seval];refine zC5 (k:=11) (fun _=>rfl) (fun _=>rfl) (by omega) (nx:=nx+2) (P':=fun d=>d=nx+2) (ho.keep (P':=P) fun d hd=>?_) rfl ({ f with fr:=((i*C+j:Nat):Int) }) (hnew _ _ _) rfl (by omega) fun v' h3 S3 hf3=>?_
 ·have:=hP d hd;exact ⟨by rw [hold (by omega),hold (by omega),hold (by omega)],hd⟩
 obtain ⟨a3,c3,rfl⟩:=S3.form;have g3:=(show hget h3 pw=_ by rw [hf3 pw (by omega) (fun hp=>(hP pw hp).1 rfl),hold (by omega),hold (by omega),hold (by omega)]).trans hw;simp (disch:=omega) only [SS,g3,seval];refine ⟨by omega,(by show 19<45; omega),⟨.slice a3 (l++[{ f with fr:=((i*C+j:Nat):Int) }]).length c3,fun d=>d=nx+2,?_,S3.keep fun d hd=>?_,fun d hd=>by omega⟩,fun d h1 h2 h3=>?_,by omega⟩
 ·rw [wk_set19]
 ·have hd:d=nx+2:=hd;exact ⟨hold (by omega),hd⟩
 ·rw [hold (by omega),hf3 d (by omega) h3,hold (by omega),hold (by omega),hold (by omega)]
theorem rwvote_c {s:Bool} {c:Nat→Value} {l:List FrV} {C i j pw:Nat} {P:Nat→Prop} {k n src len round:Int} {ds:List Int} {low m:Nat} {A B:List Int} {q:Nat→Bool} {h:Hp} {nx:Nat} (hw:hget h pw=some (.cells (wk c) false)) (hpw:pw<nx) (h1:1≤C) (h8:C≤8) (hi:i<8) (hj:j<C) (hc0:c 12 = .int .i64 (i:Int)) (hc1:c 13 = .int .i64 (j:Int)) (hc:c 8 = .int .i64 (C:Int)) (ho:SlX h (c 19) encF 11 l P) (hP:∀ d,P d→d≠pw∧d<nx) (hl:l.length≤1000)
  (e2:c 0 = .int .i64 k) (e3:c 1 = .int .i64 n) (e4:c 2 = .int .i64 src) (e5:c 3 = .int .i64 len) (hv:SlRd h nx (c 4) za ds) (hp:zw k n src len ds=0) (hm:m≤63) (hh:((low+m:Nat):Int)≤n) (hn:n≤4096) (hs:StRd h nx (.agg ⟨[c 30,c 31,c 32,c 33,c 34]⟩) low ((low+m:Nat):Int) m A B q) (hA:A.length=m) (hB:B.length=m) :
  Cv Q O s 61 [.pointer (some ⟨pw,0,none⟩),.int .i64 round,.bool false] h nx (fun r h' nx'=>r = .tuple ⟨[]⟩∧(∃ v' P',hget h' pw=some (.cells (wk (upd (upd c 36 (.bool true)) 19 v')) false)∧SlX h' v' encF 11 (l++[zNB ((i*C+j:Nat):Int) round (if k=4∧len≤round then 0 else ((fl m (rlN k A q)).length:Int)) false]) P'∧(∀ d,P' d→nx≤d∧d<nx'))∧(∀ d,d<nx→d≠pw→¬ P d→hget h' d=hget h d)∧nx≤nx'):=by
 refine rvotev ?_;obtain ⟨a6,c6,ed,_⟩:=id hv;have hs0:=hs;obtain ⟨va,vb,vo,ea,S1,S2,S3⟩:=hs;obtain ⟨f1,d1,rfl,_⟩:=id S1;obtain ⟨f2,d2,rfl,_⟩:=id S2;obtain ⟨f3,d3,rfl,_⟩:=id S3;injection ea with ea
 injection ea with ea
 injection ea with ea33 ea
 injection ea with ea34 ea
 injection ea with ea35 ea
 injection ea with ea36 ea
 injection ea with ea37 ea
 have hw':=hw;unfold wk at hw';unfold rvote aF dF iV lA;simp (disch:=omega) only [SS,hw',e2,e3,e4,e5,ed,ea33,ea34,ea35,ea36,ea37,seval];rw [ed] at hv;rw [ea33,ea34,ea35,ea36,ea37] at hs0;refine (rlive_c hv hp hm hh hn hs0 hA hB).mono ?_;rintro _ h1' n1 ⟨rfl,hk1,hle1⟩;have gw:=(hk1 pw (by omega)).trans hw;have eX:∀ {o'} d,d<nx→d≠pw→hget (hset h1' pw o') d=hget h d:=fun d hd hd2=>by rw [hold (by omega),hk1 d (by omega)]
 unfold zK9 aF cF iV nS;simp (disch:=omega) only [SS,gw,seval];rw [wk_set36];refine ⟨by omega,by show 36<45; omega,?_⟩;refine (rwsend_c (c:=upd c 36 (.bool true)) (f:=zNB 0 round (if k=4∧len≤round then 0 else ((fl m (rlN k A q)).length:Int)) false) (P:=P) (hnew _ _ _) (by omega) h1 h8 hi hj hc0 hc1 hc (ho.keep fun d hd=>?_) (fun d hd=>?_) hl).mono ?_
 ·have:=hP d hd;exact ⟨eX d (by omega) (by omega),hd⟩
 ·have:=hP d hd;exact ⟨this.1,by omega⟩
 rintro _ h3 n3 ⟨rfl,⟨v',P',hw3,S3,hP3⟩,hf3,hle3⟩;refine ⟨⟨v',P',hw3,S3,fun d hd=>?_⟩,fun d h1 h2 h3=>?_,by omega⟩
 ·have:=hP3 d hd;omega
 ·rw [hf3 d (by omega) h2 h3]; exact eX d h1 h2
end Go.Proofs.YtcjochjiegiliaaGreat
