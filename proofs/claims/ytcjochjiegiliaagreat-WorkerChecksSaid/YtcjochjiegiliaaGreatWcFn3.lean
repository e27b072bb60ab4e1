/- Parts of the proof: WcFn3: each statement zDz its own conditions. -/
import Derived.Test.YtcjochjiegiliaaGreatWcFn2
namespace Go.Proofs.YtcjochjiegiliaaGreat
open Go Go.Ax
set_option linter.unusedVariables false
set_option linter.unusedSimpArgs false
set_option maxRecDepth 1000000
theorem both_c {s:Bool} {N:Nat} {gs:List GE} {v:Value} {h:Hp} {nx:Nat} (hv:SlPx h nx v encG gs) (hN:N≤2147483648) (hl:gs.length≤60) (hok:∀ g∈gs,GOk N g) :
  Cv Q O s 130 [.agg ⟨[.int .i64 (N:Int),v]⟩] h nx (fun r h' nx'=>∃ ts,IsCan ((zPZ gs).map gE) (ts.map gE)∧ts.length≤gs.length∧(∀ g∈ts,GOk N g)∧CanK N (gs++ts) nx h r h' nx'):=by
 refine bothv ?_;obtain ⟨a,cap,rfl,hc⟩:=id hv;unfold both aF dF gL iV lA lF nC nS pC;simp (disch:=omega) only [SS,seval];have K0:∀ {o o'},Keep nx h (hset (hset h nx o) (nx+1) o'):=((Keep.refl _ _).set (Nat.le_refl _)).set (Nat.le_succ _);refine (zPY (hv.keep K0 (by omega)) hN (by omega) hok).mono ?_;rintro r h1 nx1 ⟨v1,ts,rfl,hts,htc,htok,htl,hk1,hle1⟩;have htl2:ts.length≤gs.length:=Nat.le_trans htl (zAU gs);have g0:=hk1 nx (by omega);rw [hold (by omega),hnew] at g0;have g4:=hk1 (nx+1) (by omega);rw [hnew] at g4;obtain ⟨a3,n3,c3,rfl⟩:=hts.form;refine ⟨hle1,?_⟩;have K1:Keep nx h h1:=K0.trans hk1 (by omega);simp (disch:=omega) only [SS,g0,zIo,seval];have k2:∀ {o},Keep nx1 h1 (hset h1 nx1 o):=(Keep.refl _ _).set (Nat.le_refl _);refine (concat_c (c:=2) (hnew _ _ _) (Nat.lt_succ_self _) ((hv.keep K1 (by omega)).keep k2 (Nat.le_succ _)) ((SlPx.of hts.rd).keep k2 (Nat.le_succ _)) (by omega)).mono ?_;rintro r h3 nx3 ⟨h5,hk3,hle3⟩;obtain ⟨a5,c5,rfl,hc5⟩:=id h5;have g0':=(hk3 nx (by omega)).trans ((hold (by omega)).trans g0);have g4':=(hk3 (nx+1) (by omega)).trans ((hold (by omega)).trans g4);have K3:Keep nx h h3:=fun c hc=>by rw [hk3 c (by omega),hold (by omega)]; exact K1 c hc
 refine ⟨hle3,?_⟩;simp (disch:=omega) only [SS,g0',zIo,seval];have hok2:∀ g∈gs++ts,GOk N g:=fun g hg=>by
  rcases List.mem_append.1 hg with hg | hg
  ·exact hok g hg
  ·exact htok g hg
 refine (zS2 h5 hN hok2 (by rw [List.length_append]; omega)).mono ?_;rintro r h6 nx6 ⟨v6,cs,rfl,hcs,hcan,hcok,hcl,hk6,hle6⟩;obtain ⟨a7,n7,c7,rfl⟩:=hcs.form;have g4'':=(hk6 (nx+1) (by omega)).trans g4';refine ⟨hle6,?_⟩;simp (disch:=omega) only [SS,g4'',seval];refine ⟨ts,htc,htl2,htok,_,cs,rfl,?_,hcan,hcok,hcl,fun c hc=>by rw [hold (by omega),hk6 c (by omega)]; exact K3 c hc,by omega⟩;rcases hcs with hcs | ⟨b,h1,h2,e,hb⟩
 ·exact .inl hcs
 ·exact .inr ⟨b,by omega,h2,e,by rw [hold (by omega)]; exact hb⟩
def zLq (r c:Int) (a1 a2 a3:Option Addr) (n1 n2 n3 c1 c2 c3:Nat):Value:=.agg ⟨[.int .i64 r,.int .i64 c,.slice a1 n1 c1,.slice a2 n2 c2,.slice a3 n3 c3]⟩
def SomeM (r:Value):Prop:=∃ (x y:Int) (a1 a2 a3:Option Addr) (n1 n2 n3 c1 c2 c3:Nat),r=zLq x y a1 a2 a3 n1 n2 n3 c1 c2 c3
theorem empty_c {s:Bool} {N:Nat} {h:Hp} {nx:Nat} (hN:N≤4096):Cv Q O s 310 [.int .i64 (N:Int),.int .i64 (N:Int)] h nx (fun r h' nx'=>r = .agg ⟨[.int .i64 (N:Int),.int .i64 (N:Int),.slice (some ⟨nx+1,0,none⟩) (N+1) (N+1),.slice none 0 0,.slice none 0 0]⟩∧hget h' (nx+1)=some (.cells (ints (List.replicate (N+1) 0)) false)∧Keep nx h h'∧nx'=nx+1+1):=by
 refine emptyv ?_;unfold empty bF iV lA nC nS;have r0:List.replicate (N+1) (Value.int .i64 0)=ints (List.replicate (N+1) 0):=by simp [ints]
 simp (disch:=omega) only [SS,zI (show N<1000000000000 by omega),r0,seval];exact ((Keep.refl _ _).set (Nat.le_refl _)).set (Nat.le_succ _) |>.set (Nat.le_refl _)
def TwoI (h:Hp) (v1 v2:Value) (l1 l2:List Int) (lo hi:Nat):Prop :=
 (l1=[]∧l2=[]∧v1 = .slice none 0 0∧v2 = .slice none 0 0)∨∃ b1 b2,b1≠b2∧lo≤b1∧b1<hi∧lo≤b2∧b2<hi∧v1 = .slice (some ⟨b1,0,some 1⟩) l1.length l1.length∧v2 = .slice (some ⟨b2,0,some 1⟩) l2.length l2.length ∧
  hget h b1=some (.cells (ints l1) false)∧hget h b2=some (.cells (ints l2) false)
theorem TwoI.gr {h:Hp} {v1 v2:Value} {l1 l2:List Int} {lo hi:Nat} (T:TwoI h v1 v2 l1 l2 lo hi):∃ o1 o2,Gr h za 1 v1 l1 o1∧Gr h za 1 v2 l2 o2∧(∀ b,o1=some b→lo≤b∧b<hi∧o2≠some b)∧∀ b,o2=some b→lo≤b∧b<hi:=by
 rcases T with ⟨rfl,rfl,rfl,rfl⟩ | ⟨b1,b2,hne,h1,h2,h3,h4,rfl,rfl,g1,g2⟩
 ·exact ⟨none,none,Gr.nil,Gr.nil,⟨fun b e=>(by cases e),fun b e=>(by cases e)⟩⟩
 ·rw [← zS] at g1 g2;exact ⟨some b1,some b2,.own g1,.own g2,fun b e=>by cases e; exact ⟨h1,h2,fun e=>hne (by cases e; rfl)⟩,fun b e=>by cases e; exact ⟨h3,h4⟩⟩
theorem TwoI.form {h:Hp} {v1 v2:Value} {l1 l2:List Int} {lo hi:Nat} (T:TwoI h v1 v2 l1 l2 lo hi):∃ a1 n1 c1 a2 n2 c2,v1 = .slice a1 n1 c1∧v2 = .slice a2 n2 c2:=by
 rcases T with ⟨_,_,rfl,rfl⟩ | ⟨b1,b2,_,_,_,_,_,rfl,rfl,_⟩
 ·exact ⟨_,_,_,_,_,_,rfl,rfl⟩
 ·exact ⟨_,_,_,_,_,_,rfl,rfl⟩
def BuJ0 (N p1 p7 p5 lo:Nat) (vt:Value) (ts:List GE) (h0:Hp) (nx:Nat) (m:Nat) (vs:List Value) (h':Hp) (nx':Nat):Prop :=
 ∃ (i:Nat) (S:List Int) (vc vv:Value),m=ts.length-i∧i≤ts.length∧vs=[.int .i64 (N:Int),.pointer (some ⟨p1,0,none⟩),.pointer (some ⟨p7,0,none⟩),vt,.int .i64 (ts.length:Int),.int .i64 (i:Int)] ∧
  hget h' p7=some (.cells [.int .i64 (N:Int),.int .i64 (N:Int),.slice (some ⟨p5,0,none⟩) (N+1) (N+1),vc,vv] false)∧hget h' p5=some (.cells (ints S) false)∧S.length=N+1∧(∀ x∈S,0≤x∧x≤(i:Int)) ∧
  TwoI h' vc vv ((ts.take i).map fun e=>(e.t:Int)) ((ts.take i).map GE.w) lo nx'∧(∀ c,c<lo→c≠p7→c≠p5→hget h' c=hget h0 c)∧lo≤nx'
def BuJ1 (N p1 p7 p5 lo:Nat) (vc vv:Value) (h0:Hp) (nx:Nat) (m:Nat) (vs:List Value) (h':Hp) (nx':Nat):Prop :=
 ∃ (i:Nat) (S:List Int),m=N-i∧i≤N∧vs=[.pointer (some ⟨p1,0,none⟩),.pointer (some ⟨p7,0,none⟩),.int .i64 (N:Int),.int .i64 (i:Int)] ∧
  hget h' p7=some (.cells [.int .i64 (N:Int),.int .i64 (N:Int),.slice (some ⟨p5,0,none⟩) (N+1) (N+1),vc,vv] false)∧hget h' p5=some (.cells (ints S) false)∧S.length=N+1∧(∀ (k:Nat) (x:Int),S[k]? = some x→0≤x∧(x≤120∨(k≤i∧x≤120*((k:Int)+1)))) ∧
  (∀ c,c≠p5→hget h' c=hget h0 c)∧nx'=nx
def RowsR (h:Hp) (lo hi:Nat) (r:Value):Prop:=∃ (x y:Int) (v1 v2 v3:Value) (st cl vl:List Int),r = .agg ⟨[.int .i64 x,.int .i64 y,v1,v2,v3]⟩∧SlNw h lo hi v1 za st∧SlNw h lo hi v2 za cl∧SlNw h lo hi v3 za vl∧st.length≤4097∧cl.length≤120∧vl.length≤120
theorem RowsR.form {h:Hp} {lo hi:Nat} {r:Value} (H:RowsR h lo hi r):SomeM r:=by
 obtain ⟨x,y,v1,v2,v3,st,cl,vl,rfl,⟨a1,c1,rfl,_⟩,⟨a2,c2,rfl,_⟩,⟨a3,c3,rfl,_⟩,_⟩:=H;exact ⟨_,_,_,_,_,_,_,_,_,_,_,rfl⟩
theorem RowsR.keep {h h':Hp} {lo hi lo' hi':Nat} {r:Value} (H:RowsR h lo hi r) (hk:∀ b,lo≤b→b<hi→hget h' b=hget h b) (h1:lo'≤lo) (h2:hi≤hi'):RowsR h' lo' hi' r:=by
 obtain ⟨x,y,v1,v2,v3,st,cl,vl,rfl,s1,s2,s3,l⟩:=H;exact ⟨x,y,v1,v2,v3,st,cl,vl,rfl,s1.keep hk h1 h2,s2.keep hk h1 h2,s3.keep hk h1 h2,l⟩
theorem zJ9 {h:Hp} {lo hi:Nat}:SlNw h lo hi (.slice none 0 0) za []:=⟨none,0,rfl,fun e=>absurd rfl e⟩
theorem RowsR.zero {h:Hp} {lo hi:Nat}:RowsR h lo hi (.agg ⟨[.int .i64 0,.int .i64 0,.slice none 0 0,.slice none 0 0,.slice none 0 0]⟩):=⟨0,0,_,_,_,[],[],[],rfl,zJ9,zJ9,zJ9,by simp,by simp,by simp⟩
theorem TwoI.nw {h:Hp} {v1 v2:Value} {l1 l2:List Int} {lo hi:Nat} (T:TwoI h v1 v2 l1 l2 lo hi):SlNw h lo hi v1 za l1∧SlNw h lo hi v2 za l2:=by
 rcases T with ⟨rfl,rfl,rfl,rfl⟩ | ⟨b1,b2,hne,h1,h2,h3,h4,rfl,rfl,g1,g2⟩
 ·exact ⟨zJ9,zJ9⟩
 ·rw [← zS] at g1 g2;exact ⟨⟨_,_,rfl,fun _=>⟨b1,_,_,h1,h2,rfl,g1⟩⟩,⟨_,_,rfl,fun _=>⟨b2,_,_,h3,h4,rfl,g2⟩⟩⟩
def BuiltK (nx:Nat) (h:Hp):KC':=fun r h' nx'=>RowsR h' nx nx' r∧Keep nx h h'∧nx≤nx'
theorem built_c {s:Bool} {N:Nat} {ts:List GE} {v:Value} {h:Hp} {nx:Nat} (hv:SlPx h nx v encG ts) (hN:N≤4096) (hl:ts.length≤120) (hok:∀ g∈ts,GOk N g) :
  Cv Q O s 231 [.int .i64 (N:Int),.int .i64 (N:Int),v] h nx (BuiltK nx h):=by
 refine builtv ?_;obtain ⟨a,cap,rfl,hc⟩:=id hv;unfold built cF iV lA nC nF nS;simp (disch:=omega) only [SS,seval];refine (empty_c hN).mono ?_;rintro r h1 _ ⟨rfl,hb1,hk1,rfl⟩;have g0:=hk1 nx (by omega);rw [hnew] at g0;simp (disch:=omega) only [SS,seval];refine Lp.mk (BuJ0 N nx (nx+1+1+1) (nx+1+1) (nx+1+1+1+1) (.slice a ts.length cap) ts h1 nx) ts.length ⟨0,List.replicate (N+1) 0,_,_,rfl,by omega,rfl,hnew _ _ _,by rw [hold (by omega),hold (by omega)]; exact hb1,by simp,fun x hx=>by rw [List.eq_of_mem_replicate hx]; omega,.inl ⟨rfl,rfl,rfl,rfl⟩,fun c h1 h2 h3=>by rw [hold h2,hold h2],Nat.le_refl _⟩ ?_;rintro m _ h2 nx2 ⟨i,S,vc,vv,rfl,hi,rfl,g7,g5,hSl,hSb,T,hf,hle⟩;obtain ⟨o1,o2,G1,G2,B1,B2⟩:=T.gr;obtain ⟨a1,n1,c1,a2,n2,c2,rfl,rfl⟩:=T.form;rw [zSa];unfold zLi aF bF iV lA lF nC xF;simp (disch:=omega) only [SS,seval];refine ⟨fun hlt=>?_,fun hge=>?_⟩
 ·obtain ⟨e,he⟩:=zY hlt;have hem:=hok e (List.mem_of_getElem? he);have hef:e.f<N:=hem.1;obtain ⟨_,b,sp,ro,cx,cs,hb,e1,hg⟩:=hv.at he;cases e1;have hg2:=(hf b (by omega) (by omega) (by omega)).trans ((hk1 b (by omega)).trans ((hold (by omega)).trans hg));have hrd:zAL (some 3) (i*3) (flat encG ts++cs) = .ok (.agg ⟨[.int .i64 (e.f:Int),.int .i64 (e.t:Int),.int .i64 e.w]⟩):=rdP (enc:=encG) (k:=3) (fun _=>rfl) he (cs:=cs);obtain ⟨x,hx⟩:=zY (l:=S) (i:=e.f+1) (by omega);have hxb:=hSb x (List.mem_of_getElem? hx);have hwx:IntKind.wrap .i64 (x+1)=x+1:=zAf (by omega) (by omega);simp (disch:=omega) only [SS,hg2,hrd,g7,g5,zI (show e.f<1000000000000 by omega),zO hx,hwx,seval];refine ⟨by omega,?_⟩;have hcl:((ts.take i).map fun e=>(e.t:Int)).length=i:=by rw [List.length_map,List.length_take]; omega
  have hvl:((ts.take i).map GE.w).length=i:=by rw [List.length_map,List.length_take]; omega
  refine zBM (G1.keep fun c hc=>by have:=B1 c hc; rw [hold (by omega),hold (by omega),hold (by omega),hold (by omega)]) (hnew _ _ _) (by omega) fun h3 hn3 hf3=>?_;have g73:hget h3 (nx+1+1+1)=some (.cells [.int .i64 (N:Int),.int .i64 (N:Int),.slice (some ⟨nx+1+1,0,none⟩) (N+1) (N+1),.slice a1 n1 c1,.slice a2 n2 c2] false):=by
   rw [hf3 _ (by omega) (fun e=>by have:=B1 _ e; omega),hold (by omega),hold (by omega),hold (by omega),hold (by omega)]; exact g7
  have ge3:hget h3 nx2=some (.cells [.int .i64 (e.f:Int),.int .i64 (e.t:Int),.int .i64 e.w] false):=by
   rw [hf3 _ (by omega) (fun e=>by have:=B1 _ e; omega),hold (by omega),hold (by omega),hnew]
  simp (disch:=omega) only [SS,g73,ge3,seval];refine zBM (G2.keep fun c hc=>?_) (hnew _ _ _) (by omega) fun h4 hn4 hf4=>?_
  ·have:=B2 c hc;rw [hold (by omega),hold (by omega),hf3 c (by omega) (fun e=>(B1 c e).2.2 hc),hold (by omega),hold (by omega),hold (by omega),hold (by omega)]
  have g74:hget h4 (nx+1+1+1)=some (.cells [.int .i64 (N:Int),.int .i64 (N:Int),.slice (some ⟨nx+1+1,0,none⟩) (N+1) (N+1),.slice (some ⟨nx2+1+1,0,some 1⟩) (((ts.take i).map fun e=>(e.t:Int)).length+1) (((ts.take i).map fun e=>(e.t:Int)).length+1),.slice a2 n2 c2] false):=by
   rw [hf4 _ (by omega) (fun e=>by have:=B2 _ e; omega),hold (by omega),hnew]
  simp (disch:=omega) only [SS,g74,seval];have htk:ts.take (i+1)=ts.take i++[e]:=by rw [List.take_add_one,he]; rfl
  have hfr:∀ c,c<nx+1+1+1+1→c≠nx+1+1+1→c≠nx+1+1→hget h4 c=hget h2 c:=fun c h1 h2 h3=>by
   rw [hf4 c (by omega) (fun e=>by have:=B2 _ e; omega),hold (by omega),hold (by omega),hf3 c (by omega) (fun e=>by have:=B1 _ e; omega),hold (by omega),hold (by omega),hold (by omega),hold (by omega)]
  refine ⟨ts.length-(i+1),by omega,i+1,S.set (e.f+1) (x+1),_,_,rfl,by omega,by rw [zI (by omega)],hnew _ _ _,?_,by rw [List.length_set]; exact hSl,fun z hz=>?_,.inr ⟨nx2+1+1,nx2+1+1+1+1,by omega,by omega,by omega,by omega,by omega,?_,?_,?_,?_⟩,fun c h1 h2 h3=>?_,by omega⟩
  ·rw [hold (by omega),hf4 _ (by omega) (fun e=>by have:=B2 _ e; omega),hold (by omega),hold (by omega),hf3 _ (by omega) (fun e=>by have:=B1 _ e; omega),hold (by omega),hnew]
  ·rcases List.mem_or_eq_of_mem_set hz with hz | rfl
   ·have:=hSb z hz; omega
   ·omega
  ·rw [htk,List.map_append,List.length_append]; rfl
  ·rw [htk,List.map_append,List.length_append]; rfl
  ·rw [hold (by omega),hf4 _ (by omega) (fun e=>by have:=B2 _ e; omega),hold (by omega),hold (by omega),hn3,htk,List.map_append]; rfl
  ·rw [hold (by omega),hn4,htk,List.map_append]; rfl
  ·rw [hold h2,hfr c h1 h2 h3]; exact hf c h1 h2 h3
 ·obtain ⟨T1,T2⟩:=T.nw;have hie:i=ts.length:=by omega
  subst hie;rw [List.take_length] at T1 T2;have hlo:=hle;refine Lp.mk (BuJ1 N nx (nx+1+1+1) (nx+1+1) (nx+1+1+1+1) (.slice a1 n1 c1) (.slice a2 n2 c2) h2 nx2) N ⟨0,S,rfl,by omega,rfl,g7,g5,hSl,fun k x hx=>?_,fun _ _=>rfl,rfl⟩ ?_
  ·have:=hSb x (List.mem_of_getElem? hx);omega
  clear T G1 G2 B1 B2 g5 hSb hSl;rintro m _ h3 _ ⟨k,S,rfl,hk,rfl,_,g5,hSl,hSb,hf3,rfl⟩;have g7:=(hf3 (nx+1+1+1) (by omega)).trans g7;rw [zS9];unfold zLh aF bF iV lF xF
  by_cases hkN:k<N
  ·obtain ⟨x,hx⟩:=zY (l:=S) (i:=k+1) (by omega);obtain ⟨y,hy⟩:=zY (l:=S) (i:=k) (by omega);have hxb:=hSb _ x hx;have hyb:=hSb _ y hy;have hxy:0≤x+y∧x+y≤120*((k:Int)+1+1):=by omega
   have hwx:IntKind.wrap .i64 (x+y)=x+y:=zAf (by omega) (by omega);simp (disch:=omega) only [SS,show (k:Int)<(N:Int) by omega,hkN,g7,g5,zI (show k<1000000000000 by omega),zO hx,zO hy,hwx,seval];refine ⟨⟨by omega,?_⟩,fun h=>absurd trivial h⟩;refine ⟨N-(k+1),by omega,k+1,S.set (k+1) (x+y),rfl,by omega,rfl,?_,hnew _ _ _,by rw [List.length_set]; exact hSl,fun j z hz=>?_,fun c h3=>by rw [hold h3]; exact hf3 c h3,rfl⟩
   ·rw [hold (by omega)]; exact g7
   ·rw [List.getElem?_set] at hz
    split at hz
    ·rename_i hj
     subst hj
     split at hz
     ·cases hz; omega
     ·cases hz
    ·have:=hSb j z hz; omega
  ·have:k=N:=by omega
   subst this;have gp:=(hf3 nx (by omega)).trans ((hf nx (by omega) (by omega) (by omega)).trans g0);simp (disch:=omega) only [SS,g7,gp,seval];refine ⟨fun h=>absurd h (by omega),fun _=>⟨⟨_,_,_,_,_,S,_,_,rfl,⟨_,_,by rw [hSl],fun _=>⟨nx+1+1,none,false,by omega,by omega,rfl,?_⟩⟩,T1.keep ?_ (by omega) (Nat.le_refl _),T2.keep ?_ (by omega) (Nat.le_refl _),by omega,by rw [List.length_map]; exact hl,by rw [List.length_map]; exact hl⟩,fun c hc=>?_,by omega⟩⟩
   ·rw [hold (by omega),zS]; exact g5
   ·intro c h4 h5;rw [hold (by omega),hf3 c (by omega)]
   ·intro c h4 h5;rw [hold (by omega),hf3 c (by omega)]
   ·rw [hold (by omega),hf3 c (by omega),hf c (by omega) (by omega) (by omega),hk1 c (by omega),hold (by omega)]
def frG0 (g:GE):Edg3:=((g.f:Int),(g.t:Int),g.w)
theorem zJr:∀ l:List GE,flat encG l=flat enc3 (l.map frG0)
 | []=>rfl
 | x::l=>by show encG x++flat encG l=enc3 (frG0 x)++flat enc3 (l.map frG0); rw [zJr l]; rfl
theorem px_fr0 {h:Hp} {nx:Nat} {v:Value} {gs:List GE} (hv:SlPx h nx v encG gs):SlPx h nx v enc3 (gs.map frG0):=by
 obtain ⟨a,cap,rfl,hc⟩:=hv;refine ⟨a,cap,by rw [List.length_map],fun hl=>?_⟩;obtain ⟨b,sp,ro,cs,h1,h2,h3⟩:=hc (fun e=>hl (by rw [e]; rfl));exact ⟨b,sp,ro,cs,h1,h2,by rw [← zJr]; exact h3⟩
theorem zMU {s:Bool} {gs:List GE} {N:Nat} {h:Hp} {nx:Nat} {v:Value} (hv:SlPx h nx v encG gs) (hN:N≤4096) (hok:∀ g∈gs,GOk N g) (hl:gs.length≤120):Cv Q O s 107 [.agg ⟨[.int .i64 (N:Int),v]⟩] h nx (EqK (.int .i64 0) nx h):=by
 have hV:RightV (N:Int) (gs.map frG0):=by
  refine ⟨by omega,by omega,by rw [List.length_map]; omega,fun e he hb=>?_,fun e he hb=>?_⟩
  ·obtain ⟨g,hg,rfl⟩:=List.mem_map.1 he;obtain ⟨h1,h2,_⟩:=hok g hg;have hb:(g.f:Int)<0∨(N:Int)≤g.f∨(g.t:Int)<0∨(N:Int)≤g.t:=hb;omega
  ·obtain ⟨g,hg,rfl⟩:=List.mem_map.1 he;obtain ⟨_,_,h1,h2⟩:=hok g hg;have hb:g.w<0∨2147483647<g.w:=hb;omega
 have:=zKf (s:=s) (n:=(N:Int)) (px_fr0 hv);rw [rightE_V.2 hV] at this;exact this
theorem rd_e0 {i:Nat} {cs:List GE} {e:GE} (he:cs[i]? = some e):zAL (some 3) (i*3) (flat encG cs) = .ok (.agg ⟨[.int .i64 (e.f:Int),.int .i64 (e.t:Int),.int .i64 e.w]⟩):=rdF (enc:=encG) (k:=3) (fun _=>rfl) he
def CgJ (p1 p4 N:Nat) (ve vg:Value) (ts:List GE) (lo:Nat) (h:Hp) (m:Nat) (vs:List Value) (h':Hp) (nx':Nat):Prop :=
 ∃ (i:Nat) (o:Value),m=ts.length-i∧i≤ts.length∧vs=[.pointer (some ⟨p1,0,none⟩),.pointer (some ⟨p4,0,none⟩),o,ve,.int .i64 (ts.length:Int),.int .i64 (i:Int)]∧SlAt h' o encG 3 (ts.take i) lo nx'∧Keep lo h h'∧lo≤nx'
def MatK (e:Int) (nx:Nat) (h:Hp):KC':=fun r h' nx'=>∃ m,r = .tuple ⟨[m,.int .i64 e]⟩∧RowsR h' nx nx' m∧Keep nx h h'∧nx≤nx'
theorem csrg_c {s:Bool} {gs:List GE} {N:Nat} {h:Hp} {nx:Nat} {v:Value} (hv:SlPx h nx v encG gs) (hN:N≤4096) (hok:∀ g∈gs,GOk N g) (hl:gs.length≤120):Cv Q O s 132 [.agg ⟨[.int .i64 (N:Int),v]⟩] h nx (MatK 0 nx h):=by
 refine csrgv ?_;obtain ⟨a,cap,rfl,hc⟩:=id hv;unfold csrg aF bF cF iV lA lF nC nF nS pC;simp (disch:=omega) only [SS,seval];have K0:∀ {o o'},Keep nx h (hset (hset h nx o) (nx+1) o'):=((Keep.refl _ _).set (Nat.le_refl _)).set (Nat.le_succ _);refine (zMU (hv.keep K0 (by omega)) hN hok hl).mono ?_;rintro r h1 nx1 ⟨rfl,hk1,hle1⟩;have g0:=hk1 nx (by omega);rw [hold (by omega),hnew] at g0;have g4:=hk1 (nx+1) (by omega);rw [hnew] at g4;have K1:Keep nx h h1:=K0.trans hk1 (by omega);simp (disch:=omega) only [SS,g0,seval];refine (zPY (hv.keep K1 (by omega)) (by omega) hl hok).mono ?_;rintro r h2 nx2 ⟨v2,ts,rfl,hts,htc,htok,htl,hk2,hle2⟩;have htl2:ts.length≤gs.length:=Nat.le_trans htl (zAU gs);obtain ⟨a3,c3,rfl,hc3⟩:=id hts.nw;simp (disch:=omega) only [SS,seval];refine Lp.mk (CgJ nx (nx+1) N (.slice a3 ts.length c3) .nilFunc ts nx2 h2) ts.length ⟨0,_,rfl,by omega,rfl,.inl ⟨rfl,rfl⟩,Keep.refl _ _,Nat.le_refl _⟩ ?_;rintro m _ h3 nx3 ⟨i,o,rfl,hi,rfl,S,hk3,hle3⟩;rw [csrgb0];unfold zRs aF bF iV lA lF nC xF;simp (disch:=omega) only [SS,seval];refine ⟨fun hlt=>?_,fun hge=>?_⟩
 ·obtain ⟨e,he⟩:=zY hlt;obtain ⟨b,sp,ro,hb1,hb2,rfl,hb⟩:=hc3 (fun e0=>by rw [e0] at hlt; exact absurd hlt (Nat.not_lt_zero _));have hb3:=(hk3 b hb2).trans hb;simp (disch:=omega) only [SS,hb3,rd_e0 he,seval];refine zBe (enc:=encG) (k:=3) (lo:=nx2) (fun _=>rfl) (fun _=>rfl) (by omega) (S.keep (fun c h1 h2=>by rw [hold (by omega),hold (by omega),hold (by omega)]) (by omega)) (by omega) e (hnew _ _ _) rfl (by rw [List.length_take]; omega) fun v5 h5 hs5 hk5=>?_;have htk:ts.take (i+1)=ts.take i++[e]:=by rw [List.take_add_one,he]; rfl
  exact ⟨ts.length-(i+1),by omega,i+1,v5,rfl,by omega,by rw [zI (by omega)],by rw [htk]; exact hs5,fun c hc=>by rw [hk5 c hc,hold (by omega),hold (by omega),hold (by omega)]; exact hk3 c hc,by omega⟩
 ·have hie:i=ts.length:=by omega
  subst hie;rw [List.take_length] at S;have g03:=(hk3 nx (by omega)).trans ((hk2 nx (by omega)).trans g0);have g43:=(hk3 (nx+1) (by omega)).trans ((hk2 (nx+1) (by omega)).trans g4);have K3:Keep nx h h3:=(K1.trans hk2 (by omega)).trans hk3 (by omega);simp (disch:=omega) only [SS,g03,seval];refine (built_c (SlPx.of S.rd) hN (by omega) htok).mono ?_;rintro r h6 nx6 ⟨hR,hk6,hle6⟩;obtain ⟨x,y,b1,b2,b3,n1,n2,n3,c1,c2,c4,rfl⟩:=hR.form;have g46:=(hk6 (nx+1) (by omega)).trans g43;unfold zLq;simp (disch:=omega) only [SS,g46,seval];exact ⟨_,rfl,hR.keep (fun c h1 h2=>hold (by omega)) (by omega) (Nat.le_refl _),fun c hc=>by rw [hold (by omega),hk6 c (by omega)]; exact K3 c hc,by omega⟩
structure Sg (N q nx:Nat) (h h':Hp) (nx':Nat) (gs:List GE) (v:Value):Prop where
 g:hget h' q=some (.cells [.int .i64 (N:Int),v] false)
 m:hget h' (q+1)=some (.cells [.int .i64 0,.int .i64 0,.slice none 0 0,.slice none 0 0,.slice none 0 0] false)
 p:SlPx h' nx' v encG gs
 ok:∀ g∈gs,GOk N g
 k:Keep nx h h'
 lt:q+1<nx'
theorem Sg.put {N q nx:Nat} {h h' h2:Hp} {nx' nx2:Nat} {gs ms:List GE} {v r:Value} (S:Sg N q nx h h' nx' gs v) (hq:nx≤q) (hr:CanK N ms nx' h' r h2 nx2):∃ (cs:List GE) (a:Option Addr) (n c:Nat),r = .agg ⟨[.int .i64 (N:Int),.slice a n c]⟩∧cs.length≤ms.length∧hget h2 q=some (.cells [.int .i64 (N:Int),v] false)∧nx'≤nx2∧Sg N q nx h (hset h2 q (.cells [.int .i64 (N:Int),.slice a n c] false)) nx2 cs (.slice a n c):=by
 obtain ⟨v2,cs,rfl,hcs,hcan,hcok,hcl,hk2,hle2⟩:=hr;have hlt:=S.lt;obtain ⟨a,n,c,rfl⟩:=hcs.form;refine ⟨cs,a,n,c,rfl,hcl,(hk2 q (by omega)).trans S.g,hle2,hnew _ _ _,?_,?_,hcok,?_,by omega⟩
 ·rw [hold (by omega),hk2 _ hlt]; exact S.m
 ·refine SlPx.of ?_;have:SlAt (hset h2 q (.cells [.int .i64 (N:Int),.slice a n c] false)) (.slice a n c) encG 3 cs nx' nx2:=by
   rcases hcs with hcs | ⟨b,h1,h2,e,hb⟩
   ·exact .inl hcs
   ·exact .inr ⟨b,h1,h2,e,by rw [hold (by omega)]; exact hb⟩
  exact this.rd
 ·intro b hb;rw [hold (by omega),hk2 b (by omega)]; exact S.k b hb
def matE (k n src len:Int) (ds:List Int) (gn:Int) (es:List Edg3):Int:=if zw k n src len ds≠0 then zw k n src len ds else if gn≠n then 4 else zr gn es
theorem matrix_c {s:Bool} {k n src len gn:Int} {ds:List Int} {es:List Edg3} {vd ve:Value} {h:Hp} {nx:Nat} (hd:SlRd h nx vd za ds) (he:SlPx h nx ve enc3 es) (hel:es.length≤60) :
  Cv Q O s 49 [.agg ⟨[.int .i64 k,.int .i64 n,.int .i64 src,.int .i64 len,vd]⟩,.agg ⟨[.int .i64 gn,ve]⟩] h nx (MatK (matE k n src len ds gn es) nx h):=by
 refine zRC ?_;obtain ⟨a,cap,rfl,hc⟩:=id hd;obtain ⟨a2,cap2,rfl,hc2⟩:=id he;unfold zRE aF bF cF iV lA lF nC nS pC;simp (disch:=omega) only [SS,seval];have K0:∀ {o o' o''},Keep nx h (hset (hset (hset h nx o) (nx+1) o') (nx+1+1) o''):=(((Keep.refl _ _).set (Nat.le_refl _)).set (Nat.le_succ _)).set (by omega);refine (zEP (hd.keep K0 (by omega))).mono ?_;rintro r h1 nx1 ⟨rfl,hk1,hle1⟩;have gp:=hk1 nx (by omega);rw [hold (by omega),hold (by omega),hnew] at gp;have gg:=hk1 (nx+1) (by omega);rw [hold (by omega),hnew] at gg;have gm:=hk1 (nx+1+1) (by omega);rw [hnew] at gm;have K1:Keep nx h h1:=K0.trans hk1 (by omega);have zero:∀ {h':Hp} {nx':Nat} {o:AObj} {e:Int},matE k n src len ds gn es=e→Keep nx h h'→nx≤nx'→MatK (matE k n src len ds gn es) nx h (.tuple ⟨[.agg ⟨[.int .i64 0,.int .i64 0,.slice none 0 0,.slice none 0 0,.slice none 0 0]⟩,.int .i64 e]⟩) (hset h' (nx+1+1) o) nx':=fun {h' nx' o e} he hk hle=>by
  rw [he];exact ⟨_,rfl,RowsR.zero,hk.set (by omega),hle⟩
 generalize hpe:zw k n src len ds=pe at *
 by_cases hp0:pe=0
 case neg =>
  have hb:(pe == 0)=false:=beq_eq_false_iff_ne.2 hp0;simp (disch:=omega) only [SS,hb,gm,seval];exact zero (by unfold matE; rw [hpe,if_pos hp0]) K1 (by omega)
 subst hp0;simp (disch:=omega) only [SS,gg,gp,seval];refine ⟨fun hne=>?_,fun heq=>?_⟩
 ·simp (disch:=omega) only [SS,gm,seval];have hne:gn≠n:=by simpa using hne
  exact zero (by unfold matE; rw [hpe,if_neg (by simp),if_pos hne]) K1 (by omega)
 have heq:gn=n:=by simpa using heq
 have hmE:matE k n src len ds gn es=zr gn es:=by unfold matE; rw [hpe,if_neg (by simp),if_neg (by simp [heq])]
 refine (zKf (he.keep K1 (by omega))).mono ?_;rintro r h2 nx2 ⟨rfl,hk2,hle2⟩;have K2:=K1.trans hk2 (by omega);have gp2:=(hk2 nx (by omega)).trans gp;have gg2:=(hk2 (nx+1) (by omega)).trans gg;have gm2:=(hk2 (nx+1+1) (by omega)).trans gm
 by_cases hr0:zr gn es=0
 case neg =>
  have hb:(zr gn es == 0)=false:=beq_eq_false_iff_ne.2 hr0;simp (disch:=omega) only [SS,hb,gm2,seval];exact zero hmE K2 (by omega)
 rw [hr0] at hmE ⊢;obtain ⟨N,rfl,hN,hfl,hG⟩:=(rightE_V.1 hr0).ges;have hpx:=((he.keep K1 (by omega)).keep hk2 hle2).map hfl;rw [← List.length_map (f:=toG)] at hel;generalize hgs:es.map toG=gs at hel hG hpx;have hcl:es.length=gs.length:=by rw [← hgs,List.length_map]
 rw [hcl] at gg2 hpx;have S0:Sg N (nx+1) nx h h2 nx2 gs (.slice a2 gs.length cap2):=⟨gg2,gm2,hpx,hG,K2,by omega⟩
 rw [hmE];have tail:∀ {h':Hp} {nx':Nat} {gs:List GE} {a:Option Addr} {n c:Nat},Sg N (nx+1) nx h h' nx' gs (.slice a n c)→nx≤nx'→gs.length≤120→zAb s (MatK 0 nx h) (.pointer (some ⟨nx+1,0,none⟩)) (.pointer (some ⟨nx+1+1,0,none⟩)) h' nx':=fun {h' nx' gs a n c} S hx hl=>by
  have hlt:=S.lt;unfold zAb cF lA;simp (disch:=omega) only [SS,S.g,seval];refine (csrg_c S.p hN S.ok hl).mono ?_;rintro r h6 nx6 ⟨m,rfl,hR,hk6,hle6⟩;obtain ⟨x,y,b1,b2,b3,n1,n2,n3,c1,c2,c4,rfl⟩:=hR.form;have g6:=(hk6 _ S.lt).trans S.m;unfold zLq;simp (disch:=omega) only [SS,g6,seval];exact ⟨_,rfl,hR.keep (fun c h1 h2=>hold (by omega)) (by omega) (Nat.le_refl _),fun b hb=>by rw [hold (by omega),hk6 b (by omega)]; exact S.k b hb,by omega⟩
 have plain:∀ {h':Hp} {nx':Nat} {gs:List GE} {a:Option Addr} {n c:Nat},Sg N (nx+1) nx h h' nx' gs (.slice a n c)→nx≤nx'→gs.length≤120→Cv Q O s 131 [.agg ⟨[.int .i64 (N:Int),.slice a n c]⟩] h' nx' fun x65 h66 n67=>(zC x65).length=2∧RK (wrO (hget h66 (nx+1)) h66 (nx+1) 0 (zC x65)) fun h68=>zAb s (MatK 0 nx h) (.pointer (some ⟨nx+1,0,none⟩)) (.pointer (some ⟨nx+1+1,0,none⟩)) h68 n67:=fun {h' nx' gs a n c} S hx hl=>by
  refine (zQd S.p (by omega) hl S.ok).mono ?_;intro r h6 nx6 hr;obtain ⟨cs,a6,n6,c6,rfl,hcl,hq,hle,S6⟩:=S.put (by omega) hr;simp (disch:=omega) only [SS,hq,seval];exact tail S6 (by omega) (by have:=zAU (p:=fun _=>true) (m:=oneG) gs; unfold zGM at hcl; omega)
 have both:∀ {h':Hp} {nx':Nat} {gs:List GE} {a:Option Addr} {n c:Nat},Sg N (nx+1) nx h h' nx' gs (.slice a n c)→nx≤nx'→gs.length≤60→Cv Q O s 130 [.agg ⟨[.int .i64 (N:Int),.slice a n c]⟩] h' nx' fun x45 h46 n47=>(zC x45).length=2∧RK (wrO (hget h46 (nx+1)) h46 (nx+1) 0 (zC x45)) fun h48=>RK (zGu (hget h48 (nx+1)) fun cs x=>zAL (some 2) 0 cs) fun x64=>Cv Q O s 131 [x64] h48 n47 fun x65 h66 n67=>(zC x65).length=2∧RK (wrO (hget h66 (nx+1)) h66 (nx+1) 0 (zC x65)) fun h68=>zAb s (MatK 0 nx h) (.pointer (some ⟨nx+1,0,none⟩)) (.pointer (some ⟨nx+1+1,0,none⟩)) h68 n67:=fun {h' nx' gs a n c} S hx hl=>by
  refine (both_c S.p (by omega) hl S.ok).mono ?_;rintro r h6 nx6 ⟨ts,_,htl,_,hr⟩;obtain ⟨cs,a6,n6,c6,rfl,hcl,hq,hle,S6⟩:=S.put (by omega) hr;rw [List.length_append] at hcl;simp (disch:=omega) only [SS,hq,seval];exact plain S6 (by omega) (by omega)
 simp (disch:=omega) only [SS,gg2,gp2,seval];refine ⟨fun _=>?_,fun _=>⟨fun _=>both S0 (by omega) hel,fun _=>⟨fun _=>plain S0 (by omega) (by omega),fun _=>tail S0 (by omega) (by omega)⟩⟩⟩;refine (zMI S0.p (by omega) (by omega) hG).mono ?_;intro r h6 nx6 hr;obtain ⟨cs,a6,n6,c6,rfl,hcl,hq,hle,S6⟩:=S0.put (by omega) hr;have hml:=zAU (p:=zBo) (m:=id) gs;unfold zDa at hcl;simp (disch:=omega) only [SS,hq,seval];exact both S6 (by omega) (by omega)
def mchE (k n src len:Int) (ds:List Int) (gn:Int) (es:List Edg3) (lim:Int):Int:=if matE k n src len ds gn es≠0 then matE k n src len ds gn es else if lim<0∨8192<lim then 3 else 0
theorem mcheck_c {s:Bool} {k n src len gn lim:Int} {ds:List Int} {es:List Edg3} {vd ve:Value} {h:Hp} {nx:Nat} (hd:SlRd h nx vd za ds) (he:SlPx h nx ve enc3 es) (hel:es.length≤60) :
  Cv Q O s 63 [.agg ⟨[.int .i64 k,.int .i64 n,.int .i64 src,.int .i64 len,vd]⟩,.agg ⟨[.int .i64 gn,ve]⟩,.int .i64 lim] h nx (EqK (.int .i64 (mchE k n src len ds gn es lim)) nx h):=by
 refine mcheckv ?_;obtain ⟨a,cap,rfl,hc⟩:=id hd;obtain ⟨a2,cap2,rfl,hc2⟩:=id he;unfold mcheck bF cF iV lA nC nS pC;simp (disch:=omega) only [SS,seval];have K0:∀ {o o'},Keep nx h (hset (hset h nx o) (nx+1) o'):=((Keep.refl _ _).set (Nat.le_refl _)).set (Nat.le_succ _);refine (matrix_c (hd.keep K0 (by omega)) (he.keep K0 (by omega)) hel).mono ?_;rintro r h1 nx1 ⟨m,rfl,hR,hk1,hle1⟩;obtain ⟨x,y,b1,b2,b3,n1,n2,n3,c1,c2,c4,rfl⟩:=hR.form;have K1:∀ {o o'},Keep nx h (hset (hset h1 nx1 o) nx1 o'):=((K0.trans hk1 (by omega)).set (by omega)).set (by omega);unfold zLq
 by_cases h0:matE k n src len ds gn es=0
 case neg =>
  have hb:(matE k n src len ds gn es == 0)=false:=beq_eq_false_iff_ne.2 h0;simp (disch:=omega) only [SS,hb,seval];exact ⟨by unfold mchE; rw [if_pos h0],K1,by omega⟩
 rw [h0];have e:mchE k n src len ds gn es lim=if lim<0∨8192<lim then 3 else 0:=by unfold mchE; rw [h0,if_neg (by simp)]
 simp (disch:=omega) only [SS,seval];rw [e];refine ⟨fun h2=>⟨by rw [if_pos (.inl h2)],K1,by omega⟩,fun h2=>⟨fun h3=>⟨by rw [if_pos (.inr (by omega))],K1,by omega⟩,fun h3=>⟨by rw [if_neg (by omega)],K1,by omega⟩⟩⟩
def sd (n m:Int):Bool:=decide (1≤n∧n≤m)
structure Stp where
 k:Int
 n:Int
 src:Int
 len:Int
 ds:List Int
 gn:Int
 es:List Edg3
 R:Int
 C:Int
 M:Int
 lim:Int
 nch:Nat
def stpE (x:Stp):Int:=if mchE x.k x.n x.src x.len x.ds x.gn x.es x.lim≠0 then mchE x.k x.n x.src x.len x.ds x.gn x.es x.lim
 else if sd x.R 8=false then 3 else if sd x.C 8=false then 3 else if sd x.M 64=false then 3 else if 8192<x.nch then 5 else 0
def stpV (x:Stp) (vd ve vc:Value):List Value:=[.int .i64 x.k,.int .i64 x.n,.int .i64 x.src,.int .i64 x.len,vd,.int .i64 x.gn,ve,.int .i64 x.R,.int .i64 x.C,.int .i64 x.M,.int .i64 x.lim,vc]
structure StpIs (h:Hp) (nx:Nat) (x:Stp) (vd ve vc:Value):Prop where
 d:SlRd h nx vd za x.ds
 e:SlPx h nx ve enc3 x.es
 c:∃ a n,vc = .slice a x.nch n
 l:x.es.length≤60
theorem StpIs.keep {h h':Hp} {nx nx':Nat} {x:Stp} {vd ve vc:Value} (H:StpIs h nx x vd ve vc) (hk:Keep nx h h') (hle:nx≤nx'):StpIs h' nx' x vd ve vc:=⟨H.d.keep hk hle,H.e.keep hk hle,H.c,H.l⟩
theorem zLx {s:Bool} {x:Stp} {vd ve vc:Value} {h:Hp} {nx:Nat} (H:StpIs h nx x vd ve vc):Cv Q O s 12 [.agg ⟨stpV x vd ve vc⟩] h nx (EqK (.int .i64 (stpE x)) nx h):=by
 refine wcheckv ?_;obtain ⟨a,cap,rfl,hc⟩:=id H.d;obtain ⟨a2,cap2,rfl,hc2⟩:=id H.e;obtain ⟨a3,cap3,rfl⟩:=H.c;unfold wcheck stpV aF bF cF iV lA lF nF pC;have K0:∀ {o},Keep nx h (hset h nx o):=(Keep.refl _ _).set (Nat.le_refl _);simp (disch:=omega) only [SS,seval];refine (mcheck_c (H.d.keep K0 (by omega)) (H.e.keep K0 (by omega)) H.l).mono ?_;rintro r h1 nx1 ⟨rfl,hk1,hle1⟩;have g:=hk1 nx (by omega);rw [hnew] at g;have K1:Keep nx h h1:=K0.trans hk1 (by omega);generalize hm:mchE x.k x.n x.src x.len x.ds x.gn x.es x.lim=me
 by_cases h0:me=0
 case neg =>
  have hb:(me == 0)=false:=beq_eq_false_iff_ne.2 h0;simp (disch:=omega) only [SS,hb,seval];exact ⟨by unfold stpE; rw [hm,if_pos h0],K1,by omega⟩
 subst h0;have e:stpE x=if sd x.R 8=false then 3 else if sd x.C 8=false then 3 else if sd x.M 64=false then 3 else if 8192<x.nch then 5 else 0:=by unfold stpE; rw [hm,if_neg (by simp)]
 rw [e];simp (disch:=omega) only [SS,g,seval];refine wcheck1_c.mono ?_;rintro r h2 n2 ⟨rfl,e1,e2⟩;rw [e1,e2];change RK (oUn .not (.bool (sd x.R 8))) _;cases hR:sd x.R 8 with
 | false =>
  simp (disch:=omega) only [SS,g,seval];exact ⟨rfl,K1,by omega⟩
 | true =>
 simp (disch:=omega) only [SS,g,seval];refine wcheck1_c.mono ?_;rintro r h2 n2 ⟨rfl,e1,e2⟩;rw [e1,e2];change RK (oUn .not (.bool (sd x.C 8))) _;cases hC:sd x.C 8 with
 | false =>
  simp (disch:=omega) only [SS,g,seval];exact ⟨rfl,K1,by omega⟩
 | true =>
 simp (disch:=omega) only [SS,g,seval];refine wcheck1_c.mono ?_;rintro r h2 n2 ⟨rfl,e1,e2⟩;rw [e1,e2];change RK (oUn .not (.bool (sd x.M 64))) _;cases hM:sd x.M 64 with
 | false =>
  simp (disch:=omega) only [SS,g,seval];exact ⟨rfl,K1,by omega⟩
 | true =>
 simp (disch:=omega) only [SS,g,seval];exact ⟨fun h6=>⟨by rw [if_pos (by omega)],K1,by omega⟩,fun h6=>⟨by rw [if_neg (by omega)],K1,by omega⟩⟩
theorem any_no {p:Edg3→Bool} {q:Edg3→Prop} (hpq:∀ e,p e=true↔q e) {l:List Edg3} (h:∀ x∈l,¬ q x):¬ l.any p=true:=fun e=>by
 obtain ⟨x,hx,hb⟩:=List.any_eq_true.1 e;exact h x hx ((hpq x).1 hb)
theorem zII {s:Bool} {n:Int} {v:Value} {es:List Edg3} {h:Hp} {nx:Nat} (hv:SlPx h nx v enc3 es) :
  Cv Q O s 114 [.agg ⟨[.int .i64 n,v]⟩] h nx (EqK (.int .i64 (zr n es)) nx h):=by
 refine rrightv ?_;obtain ⟨a,cap,rfl,hc⟩:=id hv;have K1:∀ {o},Keep nx h (hset h nx o):=(Keep.refl _ _).set (Nat.le_refl _);have no:∀ {e:Int},zr n es=e→∀ {h' nx'},Keep nx h h'→nx≤nx'→EqK (.int .i64 (zr n es)) nx h (.int .i64 e) h' nx':=fun he _ _ hk hle=>⟨by rw [he],hk,hle⟩
 unfold rright zIH aF bF iV lF nF pC;simp (disch:=omega) only [SS,seval];refine ⟨fun h1=>no (by unfold zr; rw [if_pos h1]) K1 (by omega),fun h1=>⟨fun h2=>no (by unfold zr; rw [if_neg h1,if_pos (.inl h2)]) K1 (by omega),fun h2=>⟨fun h3=>no (by unfold zr; rw [if_neg h1,if_pos (.inr (by omega))]) K1 (by omega),fun h3=>?_⟩⟩⟩;have h23:¬ (4096<n∨65536<es.length):=by omega
 have eE:zr n es=if es.any (badE n)=true then 3 else if es.any badW=true then 7 else 0:=by unfold zr; rw [if_neg h1,if_neg h23]
 refine Lp.mk (RriJ (BadE n) n es (.slice a es.length cap) (.int .i64 0) nx h) es.length ⟨0,by omega,by omega,rfl,hnew _ _ _,K1,Nat.le_refl _,by simp⟩ ?_;rintro _ _ h' nx' ⟨i,rfl,hi,rfl,hg,hk,hle,hno⟩;rw [rrightb0];unfold zMO aF bF iV lA lF nC nF xF;simp (disch:=omega) only [SS,hg,seval];refine ⟨fun hlt=>?_,fun hge=>?_⟩
 ·obtain ⟨x,hx⟩:=zY hlt;obtain ⟨_,b,sp,ro,c1,cs,hb,e1,hgb⟩:=hv.at hx;cases e1;have hxm:=List.mem_of_getElem? hx;have kk:∀ {o o'},Keep nx h (hset (hset h' nx' o) nx' o'):=(hk.set (by omega)).set (by omega);have bad:BadE n x→∀ {o o'},EqK (.int .i64 (zr n es)) nx h (.int .i64 3) (hset (hset h' nx' o) nx' o') (nx'+1):=fun hb _ _=>no (by rw [eE,if_pos (List.any_eq_true.2 ⟨x,hxm,badE_iff.2 hb⟩)]) kk (by omega);simp (disch:=omega) only [SS,(hk b hb).trans hgb,rdP (enc:=enc3) (k:=3) (fun _=>rfl) hx,enc3,hg,zI (show i<1000000000000 by omega),seval];refine ⟨fun h1=>bad (by unfold BadE; omega),fun h1=>⟨fun h2=>bad (by unfold BadE; omega),fun h2=>⟨fun h3=>bad (by unfold BadE; omega),fun h3=>⟨fun h4=>bad (by unfold BadE; omega),fun h4=>?_⟩⟩⟩⟩;exact ⟨_,by omega,i+1,rfl,hlt,rfl,by rw [hold (by omega),hold (by omega)]; exact hg,kk,by omega,zP4 hx hno (by unfold BadE; omega)⟩
 ·have:i=es.length:=by omega
  subst this;rw [List.take_length] at hno;rw [if_neg (any_no (fun _=>badE_iff) hno)] at eE;refine Lp.mk (RriJ BadW n es (.slice a es.length cap) (.int .i64 0) nx h) es.length ⟨0,by omega,by omega,rfl,hg,hk,hle,by simp⟩ ?_;rintro _ _ h' nx' ⟨i,rfl,hi,rfl,hg,hk,hle,hno2⟩;rw [rrightb1];unfold zMN aF bF iV lF nF xF;simp (disch:=omega) only [SS,hg,seval];refine ⟨fun hlt=>?_,fun hge=>?_⟩
  ·obtain ⟨x,hx⟩:=zY hlt;obtain ⟨_,b,sp,ro,c1,cs,hb,e1,hgb⟩:=hv.at hx;cases e1;have hxm:=List.mem_of_getElem? hx;have bad:BadW x→EqK (.int .i64 (zr n es)) nx h (.int .i64 7) h' nx':=fun hb=>no (by rw [eE,if_pos (List.any_eq_true.2 ⟨x,hxm,badW_iff.2 hb⟩)]) hk (by omega);have hw:=zIp (enc:=enc3) (k:=3) (fun _=>rfl) hx (j:=2) (by omega) (cs:=cs);rw [show (enc3 x)[2]? = some (.int .i64 x.2.2) from rfl] at hw;simp (disch:=omega) only [SS,(hk b hb).trans hgb,hw,hg,zI (show i<1000000000000 by omega),seval];refine ⟨fun h1=>bad (by unfold BadW; omega),fun h1=>⟨fun h2=>bad (by unfold BadW; omega),fun h2=>?_⟩⟩;exact ⟨_,by omega,i+1,rfl,hlt,rfl,hg,hk,by omega,zP4 hx hno2 (by unfold BadW; omega)⟩
  ·have:i=es.length:=by omega
   subst this;rw [List.take_length] at hno2;exact no (by rw [eE,if_neg (any_no (fun _=>badW_iff) hno2)]) hk (by omega)
theorem rfrom_c {s:Bool} {k:Int} {h:Hp} {nx:Nat}:Cv Q O s 156 [.int .i64 k] h nx (fun r h' nx'=>r = .bool (decide (k=4∨k=1∨k=2))∧h'=h∧nx'=nx):=by
 refine rfromv ?_;unfold rfrom bF iV;simp (disch:=omega) only [SS,seval];refine ⟨fun h1=>?_,fun h1=>⟨fun h2=>?_,fun h2=>?_⟩⟩
 ·have h1:k=1:=by simpa using h1
  rw [decide_eq_true (by omega)]
 ·have h2:k=2:=by simpa using h2
  rw [decide_eq_true (by omega)]
 have h1:k≠1:=by simpa using h1
 have h2:k≠2:=by simpa using h2
 by_cases h4:k=4
 ·rw [decide_eq_true (Or.inl h4),h4]; rfl
 ·rw [decide_eq_false (by omega),beq_eq_false_iff_ne.2 h4]
def RpJ (p1:Nat) (k n src len:Int) (ds:List Int) (v:Value) (nx:Nat) (h:Hp) (m:Nat) (vs:List Value) (h':Hp) (nx':Nat):Prop :=
 ∃ i:Nat,m=ds.length-i∧i≤ds.length∧vs=[.pointer (some ⟨p1,0,none⟩),.int .i64 0,.int .i64 (i:Int)]∧hget h' p1=some (.cells [.int .i64 k,.int .i64 n,.int .i64 src,.int .i64 len,v] false)∧Keep nx h h'∧nx+1≤nx'∧∀ x∈ds.take i,badD x=false
theorem zDB {s:Bool} {k n src len:Int} {ds:List Int} {v:Value} {h:Hp} {nx:Nat} (hv:SlRd h nx v za ds):Cv Q O s 146 [.agg ⟨[.int .i64 k,.int .i64 n,.int .i64 src,.int .i64 len,v]⟩] h nx (EqK (.int .i64 (zw k n src len ds)) nx h):=by
 refine zPm ?_;obtain ⟨a,cap,rfl,hc⟩:=id hv;unfold zMP aF bF iV lF pC;have K1:∀ {o},Keep nx h (hset h nx o):=(Keep.refl _ _).set (Nat.le_refl _);have no:∀ {e:Int},zw k n src len ds=e→∀ {h' nx'},Keep nx h h'→nx≤nx'→EqK (.int .i64 (zw k n src len ds)) nx h (.int .i64 e) h' nx':=fun he _ _ hk hle=>⟨by rw [he],hk,hle⟩
 have r0:(zw k n src len ds=3)→zh s (EqK (.int .i64 (zw k n src len ds)) nx h) (.pointer (some ⟨nx,0,none⟩)) (.bool true) (hset h nx (.cells [.int .i64 k,.int .i64 n,.int .i64 src,.int .i64 len,.slice a ds.length cap] false)) (nx+1):=fun e=>by
  unfold zh aF bF iV lF nF;simp (disch:=omega) only [SS,seval];exact no e K1 (by omega)
 have r1:(zw k n src len ds=if 65536<ds.length then 5 else if ds.any badD=true then 7 else 0)→zh s (EqK (.int .i64 (zw k n src len ds)) nx h) (.pointer (some ⟨nx,0,none⟩)) (.bool false) (hset h nx (.cells [.int .i64 k,.int .i64 n,.int .i64 src,.int .i64 len,.slice a ds.length cap] false)) (nx+1):=fun e=>by
  unfold zh aF bF iV lF nF;simp (disch:=omega) only [SS,seval];refine ⟨fun h5=>no (by rw [e,if_pos (by omega)]) K1 (by omega),fun h5=>?_⟩;rw [if_neg (show ¬ 65536<ds.length by omega)] at e;refine Lp.mk (RpJ nx k n src len ds (.slice a ds.length cap) nx h) ds.length ⟨0,by omega,by omega,rfl,hnew _ _ _,K1,Nat.le_refl _,by simp⟩ ?_;rintro _ _ h' nx' ⟨i,rfl,hi,rfl,hg,hk,hle,hno⟩;rw [zNn];unfold zHY aF bF iV lF nF xF;simp (disch:=omega) only [SS,hg,seval];refine ⟨fun hlt=>?_,fun hge=>?_⟩
  ·obtain ⟨x,hx⟩:=zY hlt;obtain ⟨_,b,sp,ro,c1,hb,e1,hgb⟩:=hv.at hx;cases e1;rw [zS] at hgb;have hxm:=List.mem_of_getElem? hx;have bad:badD x=true→EqK (.int .i64 (zw k n src len ds)) nx h (.int .i64 7) h' nx':=fun hb=>no (by rw [e,if_pos (List.any_eq_true.2 ⟨x,hxm,hb⟩)]) hk (by omega);simp (disch:=omega) only [SS,(hk b hb).trans hgb,zO hx,hg,zI (show i<1000000000000 by omega),seval];refine ⟨fun h1=>bad (by unfold badD; simp [h1]),fun h1=>⟨fun h2=>bad (by unfold badD; simp [h2]),fun h2=>?_⟩⟩;exact ⟨_,by omega,i+1,rfl,hlt,rfl,hg,hk,by omega,take_s hx hno (by unfold badD; exact decide_eq_false (by omega))⟩
  ·have:i=ds.length:=by omega
   subst this;rw [List.take_length] at hno;exact no (by rw [e,any_f hno,if_neg (by simp)]) hk (by omega)
 have k1:(k≤0∨5<k)→zCG s (EqK (.int .i64 (zw k n src len ds)) nx h) (.pointer (some ⟨nx,0,none⟩)) (.bool true) (hset h nx (.cells [.int .i64 k,.int .i64 n,.int .i64 src,.int .i64 len,.slice a ds.length cap] false)) (nx+1):=fun hk=>by
  unfold zCG aF bF cF iV lF;simp (disch:=omega) only [SS,seval];exact no (by unfold zw; rw [if_pos hk]) K1 (by omega)
 simp (disch:=omega) only [SS,seval];refine ⟨fun h0=>k1 (.inl (by omega)),fun h0=>?_⟩
 by_cases h5:5<k
 ·rw [decide_eq_true h5]; exact k1 (.inr h5)
 rw [decide_eq_false h5];have hk:¬ (k≤0∨5<k):=by omega
 have e0:zw k n src len ds=if ¬ (0≤n∧n≤4096) then 3 else if k=4∧¬ (0≤len∧len≤8192) then 3 else if (k=4∨k=1∨k=2)∧¬ (0≤src∧src≤n-1) then 3 else if 65536<ds.length then 5 else if ds.any badD=true then 7 else 0:=by unfold zw; rw [if_neg hk]
 unfold zCG aF bF cF iV lF;simp (disch:=omega) only [SS,seval];refine ⟨fun h1=>r0 (by rw [e0,if_pos (by omega)]),fun h1=>⟨fun h2=>r0 (by rw [e0,if_pos (by omega)]),fun h2=>?_⟩⟩;have hn:¬ ¬ (0≤n∧n≤4096):=by omega
 rw [if_neg hn] at e0;refine rfrom_c.mono ?_;rintro r h3 n3 ⟨rfl,e1,e2⟩;rw [e1,e2];have len4:k=4→(0≤src∧src≤n-1)→Bool→True:=fun _ _ _=>trivial;have walks:(((k=4∨k=1∨k=2)∧¬ (0≤src∧src≤n-1))→False)→IF (.bool (k == 4)) (IF (.bool (decide (len<0))) (zh s (EqK (.int .i64 (zw k n src len ds)) nx h) (.pointer (some ⟨nx,0,none⟩)) (.bool true) (hset h nx (.cells [.int .i64 k,.int .i64 n,.int .i64 src,.int .i64 len,.slice a ds.length cap] false)) (nx+1)) (zh s (EqK (.int .i64 (zw k n src len ds)) nx h) (.pointer (some ⟨nx,0,none⟩)) (.bool (decide (8192<len))) (hset h nx (.cells [.int .i64 k,.int .i64 n,.int .i64 src,.int .i64 len,.slice a ds.length cap] false)) (nx+1))) (zh s (EqK (.int .i64 (zw k n src len ds)) nx h) (.pointer (some ⟨nx,0,none⟩)) (.bool false) (hset h nx (.cells [.int .i64 k,.int .i64 n,.int .i64 src,.int .i64 len,.slice a ds.length cap] false)) (nx+1)):=fun hs=>by
  rw [IF_b];refine ⟨fun h4=>?_,fun h4=>?_⟩
  ·have h4:k=4:=by simpa using h4
   rw [IF_b];refine ⟨fun h6=>r0 (by rw [e0,if_pos ⟨h4,by simp at h6; omega⟩]),fun h6=>?_⟩;have h6:¬ len<0:=by simpa using h6
   by_cases h7:8192<len
   ·rw [decide_eq_true h7]; exact r0 (by rw [e0,if_pos ⟨h4,by omega⟩])
   ·rw [decide_eq_false h7]; exact r1 (by rw [e0,if_neg (by omega),if_neg hs])
  ·have h4:k≠4:=by simpa using h4
   exact r1 (by rw [e0,if_neg (fun h=>h4 h.1),if_neg hs])
 by_cases hf:k=4∨k=1∨k=2
 ·rw [decide_eq_true hf];have bad:¬ (0≤src∧src≤n-1)→zw k n src len ds=3:=fun hs=>by
   rw [e0]
   split
   ·rfl
   ·rw [if_pos ⟨hf,hs⟩]
  simp (disch:=omega) only [SS,seval];refine ⟨fun h6=>r0 (bad (by omega)),fun h6=>⟨fun h7=>r0 (bad (by omega)),fun h7=>?_⟩⟩;have:=walks (fun h=>h.2 (by omega));rw [IF_b,IF_b] at this;simpa using this
 ·rw [decide_eq_false hf];simp (disch:=omega) only [SS,seval];have:=walks (fun h=>hf h.1);rw [IF_b,IF_b] at this;simpa using this
theorem EK_appY {h:Hp} {nx lo hi:Nat} {v v2:Value} {l y:List GE} (hv:SlAt h v encG 3 l lo hi) (hlo:lo≤hi) (hhi:hi≤nx) (hy:SlPx h nx v2 encG y) (hsz:(l.length+y.length)*3≤1000000) {K:Value→Hp→Nat→Prop}
  (hK:∀ v' h' nx',(∀ h2,(∀ b,(lo≤b∧b<hi∨nx≤b∧b<nx')→hget h2 b=hget h' b)→SlAt h2 v' encG 3 (l++y) lo nx')→(∀ b,(b<lo∨hi≤b∧b<nx)→hget h' b=hget h b)→nx≤nx'→K v' h' nx'):EK (orR (zH 3 h nx v v2)) K:=by
 obtain ⟨a2,c2,rfl,hc⟩:=hy
 by_cases h0:y=[]
 ·subst h0;have hr:∀ (K:List Value→R OR),zCb h a2 (Nat.mul 0 3) K=K []:=fun K=>by
   cases a2 <;> rfl
  have key:zH 3 h nx v (.slice a2 ([]:List GE).length c2) = .ok (.val v h nx):=by
   rcases hv with ⟨rfl,rfl⟩ | ⟨b,h1,h2,rfl,hb⟩
   ·show zCb h a2 (Nat.mul 0 3) (fun new=>zAa 3 h nx none 0 0 0 new)=_;rw [hr]; rfl
   ·show zCb h a2 (Nat.mul 0 3) (fun new=>zAa 3 h nx (some ⟨b,0,some 3⟩) l.length l.length 0 new)=_;rw [hr];unfold zAa;rw [show Nat.ble (Nat.add l.length 0) l.length=true from Nat.ble_eq_true_of_le (Nat.le_refl _)];rfl
  rw [key];exact hK v h nx (fun h2 k=>by rw [List.append_nil]; exact hv.keep (fun b h1 h2=>k b (by omega)) hhi) (fun _ _=>rfl) (Nat.le_refl _)
 ·obtain ⟨b2,sp,ro,cs2,hb2,rfl,hg⟩:=hc h0;have hyl:0<y.length:=List.length_pos_iff.2 h0;have hfl:=zo (enc:=encG) (k:=3) (fun _=>rfl) (l:=y);have hfa:=zo (enc:=encG) (k:=3) (fun _=>rfl) (l:=l);have hread:∀ (K:List Value→R OR),zCb h (some ⟨b2,0,sp⟩) (Nat.mul y.length 3) K=K (flat encG y):=fun K=>by
   rw [show Nat.mul y.length 3=y.length*3 from rfl,zBR hg (by omega) (by rw [List.length_append,hfl]; omega),List.drop_zero,← hfl,List.take_left]
  have e2:(Nat.ble (Nat.mul (Nat.add l.length y.length) 3) 1000000&&Nat.ble (Nat.add l.length y.length) 1000000)=true:=by
   simp only [Bool.and_eq_true,Nat.ble_eq];exact ⟨hsz,by show l.length+y.length≤1000000; omega⟩
  have e1:Nat.ble (Nat.add l.length y.length) l.length=false:=by
   cases hb:Nat.ble (Nat.add l.length y.length) l.length with
   | false=>rfl
   | true=>have:=Nat.le_of_ble_eq_true hb; have:l.length+y.length≤l.length:=this; omega
  rcases hv with ⟨rfl,rfl⟩ | ⟨b,h1,h2,rfl,hb⟩
  ·have key:zH 3 h nx (.slice none 0 0) (.slice (some ⟨b2,0,sp⟩) y.length c2) = .ok (.val (.slice (some ⟨nx,0,some 3⟩) y.length y.length) (hset h nx (.cells (flat encG y) false)) (nx+1)):=by
    show zCb h (some ⟨b2,0,sp⟩) (Nat.mul y.length 3) (fun new=>zAa 3 h nx none 0 0 y.length new)=_;rw [hread];unfold zAa;rw [show Nat.ble (Nat.add 0 y.length) 0=false from e1,show (Nat.ble (Nat.mul (Nat.add 0 y.length) 3) 1000000&&Nat.ble (Nat.add 0 y.length) 1000000)=true from e2];show zE1 h nx 3 (flat encG y) (Nat.add 0 y.length)=_;rw [show Nat.add 0 y.length=y.length from Nat.zero_add _];exact zBD (s:=3) (by omega)
   rw [key];exact hK _ _ _ (fun h2 k=>.inr ⟨nx,by omega,Nat.lt_succ_self _,rfl,by rw [k nx (by omega)]; exact hnew _ _ _⟩) (fun c hc=>hold (by omega)) (Nat.le_succ _)
  ·have key:zH 3 h nx (.slice (some ⟨b,0,some 3⟩) l.length l.length) (.slice (some ⟨b2,0,sp⟩) y.length c2) = .ok (.val (.slice (some ⟨nx,0,some 3⟩) (l.length+y.length) (l.length+y.length)) (hset (hdel h b) nx (.cells (flat encG (l++y)) false)) (nx+1)):=by
    show zCb h (some ⟨b2,0,sp⟩) (Nat.mul y.length 3) (fun new=>zAa 3 h nx (some ⟨b,0,some 3⟩) l.length l.length y.length new)=_;rw [hread];unfold zAa;rw [e1,e2];show zEB h nx 3 (some ⟨b,0,some 3⟩) l.length l.length (l.length+y.length) (flat encG y)=_;unfold zEB;simp only [zB hb];have hcut:lcut (Nat.mul l.length 3) (zBy (flat encG l) 0)=some (flat encG l):=by
     rw [zA5,List.drop_zero,zAn,if_pos (by rw [hfa]; exact Nat.le_refl _)];rw [List.take_of_length_le (by rw [hfa]; exact Nat.le_refl _)]
    rw [hcut];have e3:(!false&&Nat.beq 0 0&&Nat.beq (llen (flat encG l)) (Nat.mul l.length 3)&&Nat.beq 3 3&&Nat.beq l.length l.length&&zV (flat encG y))=true:=by
     rw [zy,hfa,zFE];simp
    show (bif _ then _ else _)=_;rw [e3,zm,zI7];exact zBD (s:=3) (by omega)
   rw [key];exact hK _ _ _ (fun h2 k=>.inr ⟨nx,by omega,Nat.lt_succ_self _,by rw [List.length_append],by rw [k nx (by omega)]; exact hnew _ _ _⟩) (fun c hc=>by rw [hold (by omega),hgd,if_neg (by omega)]) (Nat.le_succ _)
def MkJ (p:GE→Bool) (m:GE→GE) (gs:List GE) (N:Nat) (v:Value) (nx:Nat) (h:Hp) (q:Nat) (vs:List Value) (h':Hp) (nx':Nat):Prop :=
 ∃ (i:Nat) (o:Value),q=gs.length-i∧i≤gs.length∧vs=[.pointer (some ⟨nx,0,none⟩),.pointer (some ⟨nx+1,0,none⟩),.pointer (some ⟨nx+1+1,0,none⟩),.int .i64 (i:Int)]∧hget h' nx=some (.cells [.int .i64 (N:Int),v] false)∧hget h' (nx+1)=some (.cells [.int .i64 0,.slice none 0 0] false) ∧
  hget h' (nx+1+1)=some (.cells [.int .i64 (N:Int),o] false)∧SlAt h' o encG 3 (((gs.take i).filter p).map m) (nx+1+1+1) nx'∧Keep nx h h'∧nx+1+1+1≤nx'
theorem MkJ.tk {p:GE→Bool} {m:GE→GE} {gs:List GE} {i:Nat} {e:GE} (he:gs[i]? = some e):((gs.take (i+1)).filter p).map m=((gs.take i).filter p).map m++(if p e then [m e] else []):=by
 rw [List.take_add_one,he,List.filter_append,List.map_append];cases hp:p e <;> simp [hp]
theorem MkJ.ln {p:GE→Bool} {m:GE→GE} {gs:List GE} {i:Nat} (hl:gs.length≤120):((((gs.take i).filter p).map m).length+1)*3≤1000000:=by
 have h1:=List.length_filter_le p (gs.take i);have h2:(gs.take i).length≤gs.length:=by rw [List.length_take]; omega
 rw [List.length_map];omega
theorem MkJ.put {p:GE→Bool} {m:GE→GE} {gs:List GE} {N:Nat} {v:Value} {nx:Nat} {h h1:Hp} {i:Nat} {e:GE} {o:Value} {nx1:Nat} {K:Value→Hp→Nat→Prop} (he:gs[i]? = some e) (hp:p e=true) (hl:gs.length≤120)
  (g0:hget h1 nx=some (.cells [.int .i64 (N:Int),v] false)) (g1:hget h1 (nx+1)=some (.cells [.int .i64 0,.slice none 0 0] false)) (g2:hget h1 (nx+1+1)=some (.cells [.int .i64 (N:Int),o] false)) (S:SlAt h1 o encG 3 (((gs.take i).filter p).map m) (nx+1+1+1) nx1) (hk:Keep nx h h1) (hle:nx+1+1+1≤nx1)
  {b2:Nat} (h2:Hp) (hb2:hget h2 b2=some (.cells (encG (m e)) false)) (hkk:∀ b,b<nx1→hget h2 b=hget h1 b) {nx2:Nat} (hle2:nx1≤nx2)
  (hK:∀ v5 h5,(∀ b,b<nx+1+1+1→hget h5 b=hget h1 b)→(∀ h6,h6=hset h5 (nx+1+1) (.cells [.int .i64 (N:Int),v5] false)→MkJ p m gs N v nx h (gs.length-(i+1)) [.pointer (some ⟨nx,0,none⟩),.pointer (some ⟨nx+1,0,none⟩),.pointer (some ⟨nx+1+1,0,none⟩),.int .i64 ((i+1:Nat):Int)] h6 (nx2+1))→(∃ a n c,v5 = .slice a n c)→K v5 h5 (nx2+1)) :
  EK (orR (zH 3 h2 nx2 o (.slice (some ⟨b2,0,some 3⟩) 1 1))) K:=by
 have hlt:=(List.getElem?_eq_some_iff.1 he).1;refine zBe (enc:=encG) (k:=3) (lo:=nx+1+1+1) (fun _=>rfl) (fun _=>rfl) (by omega) (S.keep (fun c h1 h2=>hkk c h2) hle2) (by omega) (m e) hb2 rfl (MkJ.ln hl) fun v5 h5 hs5 hk5=>?_;refine hK v5 h5 (fun b hb=>by rw [hk5 b hb,hkk b (by omega)]) (fun h6 e6=>?_) hs5.form;subst e6;refine ⟨i+1,v5,rfl,hlt,rfl,?_,?_,hnew _ _ _,?_,fun c hc=>?_,by omega⟩
 ·rw [hold (by omega),hk5 _ (by omega),hkk _ (by omega)]; exact g0
 ·rw [hold (by omega),hk5 _ (by omega),hkk _ (by omega)]; exact g1
 ·rw [MkJ.tk he,hp];exact hs5.keep (fun c h1 h2=>hold (by omega)) (Nat.le_refl _)
 ·rw [hold (by omega),hk5 _ (by omega),hkk _ (by omega)]; exact hk c hc
theorem MkJ.fin {s:Bool} {p:GE→Bool} {m:GE→GE} {gs:List GE} {N:Nat} {nx:Nat} {h h1:Hp} {o:Value} {nx1:Nat} (hN:N≤4096) (hl:gs.length≤120) (hok:∀ g∈(gs.filter p).map m,GOk N g)
  (g1:hget h1 (nx+1)=some (.cells [.int .i64 0,.slice none 0 0] false)) (S:SlAt h1 o encG 3 ((gs.filter p).map m) (nx+1+1+1) nx1) (hk:Keep nx h h1) (hle:nx+1+1+1≤nx1) :
  Cv Q O s 243 [.agg ⟨[.int .i64 (N:Int),o]⟩] h1 nx1 fun x48 h49 n50=>(zC x48).length=2∧RK (wrO (hget h49 (nx+1)) h49 (nx+1) 0 (zC x48)) fun h51=>RK (zGu (hget h51 (nx+1)) fun cs x=>zAL (some 2) 0 cs) fun x52=>CanK N ((gs.filter p).map m) nx h x52 h51 n50:=by
 have hml:((gs.filter p).map m).length≤gs.length:=by rw [List.length_map]; exact List.length_filter_le _ _
 refine (zMZ (SlPx.of S.rd) hN hok (by omega)).mono ?_;rintro r h2 nx2 ⟨v2,cs,rfl,hcs,hcan,hcok,hcl,hk2,hle2⟩;obtain ⟨a3,n3,c3,rfl⟩:=hcs.form;have g4':=(hk2 (nx+1) (by omega)).trans g1;simp (disch:=omega) only [SS,g4',seval];refine ⟨_,cs,rfl,?_,hcan,hcok,hcl,fun c hc=>by rw [hold (by omega),hk2 c (by omega)]; exact hk c hc,by omega⟩;rcases hcs with hcs | ⟨b,h1,h2,e,hb⟩
 ·exact .inl hcs
 ·exact .inr ⟨b,by omega,h2,e,by rw [hold (by omega)]; exact hb⟩
theorem rd_f {i:Nat} {gs:List GE} {e:GE} {cs:List Value} (he:gs[i]? = some e):(flat encG gs++cs)[i*3]? = some (.int .i64 (e.f:Int))∧(flat encG gs++cs)[i*3+1]? = some (.int .i64 (e.t:Int))∧(flat encG gs++cs)[i*3+2]? = some (.int .i64 e.w) :=
 ⟨zIp (enc:=encG) (k:=3) (fun _=>rfl) he (j:=0) (by omega),zIp (enc:=encG) (k:=3) (fun _=>rfl) he (j:=1) (by omega),zIp (enc:=encG) (k:=3) (fun _=>rfl) he (j:=2) (by omega)⟩
theorem zKa {s:Bool} {N:Nat} {gs:List GE} {v:Value} {h:Hp} {nx:Nat} (hv:SlPx h nx v encG gs) (hN:N≤4096) (hl:gs.length≤120) (hok:∀ g∈gs,GOk N g) :
  Cv Q O s 244 [.agg ⟨[.int .i64 (N:Int),v]⟩] h nx (CanK N (zPZ gs) nx h):=by
 refine rturnv ?_;obtain ⟨a,cap,rfl,hc⟩:=id hv;unfold rturn aF cF iV lA lF nC nS pC;have K0:∀ {o o' o''},Keep nx h (hset (hset (hset h nx o) (nx+1) o') (nx+1+1) o''):=(((Keep.refl _ _).set (Nat.le_refl _)).set (Nat.le_succ _)).set (by omega);simp (disch:=omega) only [SS,seval];refine Lp.mk (MkJ (fun _=>true) zED gs N (.slice a gs.length cap) nx h) gs.length ⟨0,_,rfl,by omega,rfl,by rw [hold (by omega),hold (by omega),hold (by omega),hnew],by rw [hold (by omega),hold (by omega),hnew],by rw [hnew],.inl ⟨rfl,rfl⟩,fun c hc=>by rw [hold (by omega),hold (by omega),hold (by omega),hold (by omega)],Nat.le_refl _⟩ ?_;rintro q _ h1 nx1 ⟨i,o,rfl,hi,rfl,g0,g1,g2,S,hk,hle⟩;obtain ⟨a5,n5,c5,rfl⟩:=S.form;rw [rturnb0];unfold zPi aF bF iV lA lF nC nF xF;simp (disch:=omega) only [SS,g0,seval];refine ⟨fun hlt=>?_,fun hge=>?_⟩
 ·obtain ⟨e,he⟩:=zY hlt;obtain ⟨_,b,sp,ro,c1,cs,hb,e1,hg⟩:=hv.at he;cases e1;have hrd:zAL (some 3) (i*3) (flat encG gs++cs) = .ok (.agg ⟨[.int .i64 (e.f:Int),.int .i64 (e.t:Int),.int .i64 e.w]⟩):=rdP (enc:=encG) (k:=3) (fun _=>rfl) he (cs:=cs);simp (disch:=omega) only [SS,(hk b hb).trans hg,hrd,g2,seval];refine MkJ.put he rfl hl g0 g1 g2 S hk hle _ (hnew _ _ _) (fun b hb=>by rw [hold (by omega),hold (by omega),hold (by omega)]) (by omega) fun v5 h5 hk5 hJ hf=>?_;obtain ⟨a6,n6,c6,rfl⟩:=hf;have g25:=(hk5 (nx+1+1) (by omega)).trans g2;simp (disch:=omega) only [SS,g25,zI (show i<1000000000000 by omega),seval];exact ⟨_,by omega,hJ _ rfl⟩
 ·have hie:i=gs.length:=by omega
  subst hie;rw [List.take_length] at S;simp (disch:=omega) only [SS,g2,seval];exact MkJ.fin hN hl (zMB hok) g1 S hk hle
theorem zJP {s:Bool} {N:Nat} {gs:List GE} {v:Value} {h:Hp} {nx:Nat} (hv:SlPx h nx v encG gs) (hN:N≤4096) (hl:gs.length≤120) (hok:∀ g∈gs,GOk N g) :
  Cv Q O s 149 [.agg ⟨[.int .i64 (N:Int),v]⟩] h nx (CanK N (zDa gs) nx h):=by
 refine rsimplev ?_;obtain ⟨a,cap,rfl,hc⟩:=id hv;unfold zPl aF cF iV lA lF nC nS pC;simp (disch:=omega) only [SS,seval];refine Lp.mk (MkJ zBo id gs N (.slice a gs.length cap) nx h) gs.length ⟨0,_,rfl,by omega,rfl,by rw [hold (by omega),hold (by omega),hold (by omega),hnew],by rw [hold (by omega),hold (by omega),hnew],by rw [hnew],.inl ⟨rfl,rfl⟩,fun c hc=>by rw [hold (by omega),hold (by omega),hold (by omega),hold (by omega)],Nat.le_refl _⟩ ?_;rintro q _ h1 nx1 ⟨i,o,rfl,hi,rfl,g0,g1,g2,S,hk,hle⟩;obtain ⟨a5,n5,c5,rfl⟩:=S.form;rw [zPk];unfold zJO aF bF iV lA lF nF xF;simp (disch:=omega) only [SS,g0,seval];refine ⟨fun hlt=>?_,fun hge=>?_⟩
 ·obtain ⟨e,he⟩:=zY hlt;obtain ⟨_,b,sp,ro,c1,cs,hb,e1,hg⟩:=hv.at he;cases e1;have hrd:zAL (some 3) (i*3) (flat encG gs++cs) = .ok (.agg ⟨[.int .i64 (e.f:Int),.int .i64 (e.t:Int),.int .i64 e.w]⟩):=rdP (enc:=encG) (k:=3) (fun _=>rfl) he (cs:=cs);obtain ⟨r0,r1,r2⟩:=rd_f (cs:=cs) he;simp (disch:=omega) only [SS,(hk b hb).trans hg,hrd,r0,r1,g2,seval];refine ⟨fun hne=>?_,fun heq=>?_⟩
  ·have hne:¬ (e.f:Int)=e.t:=by simpa using hne
   have hp:zBo e=true:=by unfold zBo; exact decide_eq_true (by omega)
   refine MkJ.put he hp hl g0 g1 g2 S hk hle _ (hnew _ _ _) (fun b hb=>by rw [hold (by omega)]) (by omega) fun v5 h5 hk5 hJ hf=>?_;obtain ⟨a6,n6,c6,rfl⟩:=hf;have g25:=(hk5 (nx+1+1) (by omega)).trans g2;simp (disch:=omega) only [SS,g25,zI (show i<1000000000000 by omega),seval];exact ⟨by omega,_,by omega,hJ _ rfl⟩
  ·have heq:(e.f:Int)=e.t:=by simpa using heq
   have hp:zBo e=false:=by unfold zBo; exact decide_eq_false (by omega)
   refine ⟨gs.length-(i+1),by omega,i+1,_,rfl,by omega,by rw [zI (by omega)],g0,g1,g2,?_,hk,hle⟩;rw [MkJ.tk he,hp];simp only [Bool.false_eq_true,if_false,List.append_nil];exact S
 ·have hie:i=gs.length:=by omega
  subst hie;rw [List.take_length] at S;simp (disch:=omega) only [SS,g2,seval];exact MkJ.fin hN hl (zHX hok) g1 S hk hle
theorem zMR {s:Bool} {N:Nat} {gs:List GE} {v:Value} {h:Hp} {nx:Nat} (hv:SlPx h nx v encG gs) (hN:N≤4096) (hl:gs.length≤120) (hok:∀ g∈gs,GOk N g) :
  Cv Q O s 147 [.agg ⟨[.int .i64 (N:Int),v]⟩] h nx (CanK N (zGM gs) nx h):=by
 refine rplainv ?_;obtain ⟨a,cap,rfl,hc⟩:=id hv;unfold rplain aF cF iV lA lF nC nS pC;simp (disch:=omega) only [SS,seval];refine Lp.mk (MkJ (fun _=>true) oneG gs N (.slice a gs.length cap) nx h) gs.length ⟨0,_,rfl,by omega,rfl,by rw [hold (by omega),hold (by omega),hold (by omega),hnew],by rw [hold (by omega),hold (by omega),hnew],by rw [hnew],.inl ⟨rfl,rfl⟩,fun c hc=>by rw [hold (by omega),hold (by omega),hold (by omega),hold (by omega)],Nat.le_refl _⟩ ?_;rintro q _ h1 nx1 ⟨i,o,rfl,hi,rfl,g0,g1,g2,S,hk,hle⟩;obtain ⟨a5,n5,c5,rfl⟩:=S.form;rw [rplainb0];unfold zMQ aF bF iV lF nF xF;simp (disch:=omega) only [SS,g0,seval];refine ⟨fun hlt=>?_,fun hge=>?_⟩
 ·obtain ⟨e,he⟩:=zY hlt;obtain ⟨_,b,sp,ro,c1,cs,hb,e1,hg⟩:=hv.at he;cases e1;obtain ⟨r0,r1,r2⟩:=rd_f (cs:=cs) he;simp (disch:=omega) only [SS,(hk b hb).trans hg,r0,r1,g2,seval];refine MkJ.put he rfl hl g0 g1 g2 S hk hle _ (hnew _ _ _) (fun b hb=>by rw [hold (by omega)]) (by omega) fun v5 h5 hk5 hJ hf=>?_;obtain ⟨a6,n6,c6,rfl⟩:=hf;have g25:=(hk5 (nx+1+1) (by omega)).trans g2;simp (disch:=omega) only [SS,g25,zI (show i<1000000000000 by omega),seval];exact ⟨by omega,_,by omega,hJ _ rfl⟩
 ·have hie:i=gs.length:=by omega
  subst hie;rw [List.take_length] at S;simp (disch:=omega) only [SS,g2,seval];exact MkJ.fin hN hl (zJX hok) g1 S hk hle
theorem zQO {s:Bool} {N:Nat} {gs:List GE} {v:Value} {h:Hp} {nx:Nat} (hv:SlPx h nx v encG gs) (hN:N≤4096) (hl:gs.length≤60) (hok:∀ g∈gs,GOk N g) :
  Cv Q O s 148 [.agg ⟨[.int .i64 (N:Int),v]⟩] h nx (fun r h' nx'=>∃ ts,IsCan ((zPZ gs).map gE) (ts.map gE)∧ts.length≤gs.length∧(∀ g∈ts,GOk N g)∧CanK N (ts++gs) nx h r h' nx'):=by
 refine rbothv ?_;obtain ⟨a,cap,rfl,hc⟩:=id hv;unfold rboth aF cF iV lA lF nC nS pC;have K0:∀ {o o'},Keep nx h (hset (hset h nx o) (nx+1) o'):=((Keep.refl _ _).set (Nat.le_refl _)).set (Nat.le_succ _);simp (disch:=omega) only [SS,seval];refine (zKa (hv.keep K0 (by omega)) hN (by omega) hok).mono ?_;rintro r h1 nx1 ⟨v1,ts,rfl,hts,htc,htok,htl,hk1,hle1⟩;have htl2:ts.length≤gs.length:=Nat.le_trans htl (zAU gs);have g0:=hk1 nx (by omega);rw [hold (by omega),hnew] at g0;have g4:=hk1 (nx+1) (by omega);rw [hnew] at g4;obtain ⟨a3,n3,c3,rfl⟩:=hts.form;have K1:Keep nx h h1:=K0.trans hk1 (by omega);have hok2:∀ g∈ts++gs,GOk N g:=fun g hg=>by
  rcases List.mem_append.1 hg with hg | hg
  ·exact htok g hg
  ·exact hok g hg
 simp (disch:=omega) only [SS,g0,seval];have k3:∀ {o o'},Keep nx1 h1 (hset (hset h1 nx1 o) nx1 o'):=((Keep.refl _ _).set (Nat.le_refl _)).set (Nat.le_refl _);refine EK_appY (lo:=nx+1+1) (hts.keep (fun c h1 h2=>k3 c h2) (Nat.le_refl _)) (by omega) (Nat.le_succ _) ((hv.keep K1 (by omega)).keep k3 (Nat.le_succ _)) (by omega) fun v5 h5 nx5 S5 hk5 hle5=>?_;obtain ⟨a5,n5,c5,rfl⟩:=(S5 h5 (fun _ _=>rfl)).form;have g6:=hk5 nx1 (by omega);rw [hnew] at g6;have g45:=hk5 (nx+1) (by omega);rw [hold (by omega),hold (by omega),g4] at g45;simp (disch:=omega) only [SS,g6,seval];refine (zMZ (SlPx.of (S5 _ fun b hb=>hold (by omega)).rd) hN hok2 (by rw [List.length_append]; omega)).mono ?_;rintro r h6 nx6 ⟨v6,cs,rfl,hcs,hcan,hcok,hcl,hk6,hle6⟩;obtain ⟨a7,n7,c7,rfl⟩:=hcs.form;have g47:=hk6 (nx+1) (by omega);rw [hold (by omega),g45] at g47;simp (disch:=omega) only [SS,g47,seval];refine ⟨ts,htc,htl2,htok,_,cs,rfl,?_,hcan,hcok,hcl,fun c hc=>by rw [hold (by omega),hk6 c (by omega),hold (by omega),hk5 c (by omega),hold (by omega),hold (by omega)]; exact K1 c hc,by omega⟩;rcases hcs with hcs | ⟨b,h1,h2,e,hb⟩
 ·exact .inl hcs
 ·exact .inr ⟨b,by omega,h2,e,by rw [hold (by omega)]; exact hb⟩
theorem rempty_c {s:Bool} {N:Nat} {h:Hp} {nx:Nat} (hN:N≤4096):Cv Q O s 153 [.int .i64 (N:Int),.int .i64 (N:Int)] h nx (fun r h' nx'=>r = .agg ⟨[.int .i64 (N:Int),.int .i64 (N:Int),.slice (some ⟨nx+1,0,none⟩) (N+1) (N+1),.slice none 0 0,.slice none 0 0]⟩∧hget h' (nx+1)=some (.cells (ints (List.replicate (N+1) 0)) false)∧Keep nx h h'∧nx'=nx+1+1):=by
 refine zQD ?_;unfold zQF bF iV lA nC nS;have r0:List.replicate (N+1) (Value.int .i64 0)=ints (List.replicate (N+1) 0):=by simp [ints]
 simp (disch:=omega) only [SS,zI (show N<1000000000000 by omega),r0,seval];exact ((Keep.refl _ _).set (Nat.le_refl _)).set (Nat.le_succ _) |>.set (Nat.le_refl _)
def RbJ0 (N p1 p7 p5 lo:Nat) (vt:Value) (ts:List GE) (h0:Hp) (m:Nat) (vs:List Value) (h':Hp) (nx':Nat):Prop :=
 ∃ (i:Nat) (S:List Int) (vc vv:Value),m=ts.length-i∧i≤ts.length∧vs=[.int .i64 (N:Int),vt,.pointer (some ⟨p1,0,none⟩),.pointer (some ⟨p7,0,none⟩),.int .i64 (i:Int)] ∧
  hget h' p7=some (.cells [.int .i64 (N:Int),.int .i64 (N:Int),.slice (some ⟨p5,0,none⟩) (N+1) (N+1),vc,vv] false)∧hget h' p5=some (.cells (ints S) false)∧S.length=N+1∧(∀ x∈S,0≤x∧x≤(i:Int)) ∧
  TwoI h' vc vv ((ts.take i).map fun e=>(e.t:Int)) ((ts.take i).map GE.w) lo nx'∧(∀ c,c<lo→c≠p7→c≠p5→hget h' c=hget h0 c)∧lo≤nx'
def RbJ1 (N p1 p7 p5 i f:Nat) (vt:Value) (h0:Hp) (nx:Nat) (m:Nat) (vs:List Value) (h':Hp) (nx':Nat):Prop :=
 ∃ (k:Nat) (S:List Int),m=N+1-k∧f+1≤k∧k≤N+1∧vs=[.int .i64 (N:Int),vt,.pointer (some ⟨p1,0,none⟩),.pointer (some ⟨p7,0,none⟩),.int .i64 (i:Int),.int .i64 (k:Int)] ∧
  hget h' p5=some (.cells (ints S) false)∧S.length=N+1∧(∀ (j:Nat) (x:Int),S[j]? = some x→0≤x∧(x≤(i:Int)∨j<k∧x≤(i:Int)+1))∧(∀ c,c≠p5→hget h' c=hget h0 c)∧nx'=nx
theorem rbuilt_c {s:Bool} {N:Nat} {ts:List GE} {v:Value} {h:Hp} {nx:Nat} (hv:SlPx h nx v encG ts) (hN:N≤4096) (hl:ts.length≤120) (hok:∀ g∈ts,GOk N g) :
  Cv Q O s 245 [.int .i64 (N:Int),.int .i64 (N:Int),v] h nx (BuiltK nx h):=by
 refine zQM ?_;obtain ⟨a,cap,rfl,hc⟩:=id hv;unfold zQN cF iV lA nC nS;simp (disch:=omega) only [SS,seval];refine (rempty_c hN).mono ?_;rintro r h1 _ ⟨rfl,hb1,hk1,rfl⟩;have g0:=hk1 nx (by omega);rw [hnew] at g0;simp (disch:=omega) only [SS,seval];refine Lp.mk (RbJ0 N nx (nx+1+1+1) (nx+1+1) (nx+1+1+1+1) (.slice a ts.length cap) ts h1) ts.length ⟨0,List.replicate (N+1) 0,_,_,rfl,by omega,rfl,hnew _ _ _,by rw [hold (by omega),hold (by omega)]; exact hb1,by simp,fun x hx=>by rw [List.eq_of_mem_replicate hx]; omega,.inl ⟨rfl,rfl,rfl,rfl⟩,fun c h1 h2 h3=>by rw [hold h2,hold h2],Nat.le_refl _⟩ ?_;rintro m _ h2 nx2 ⟨i,S,vc,vv,rfl,hi,rfl,g7,g5,hSl,hSb,T,hf,hle⟩;obtain ⟨o1,o2,G1,G2,B1,B2⟩:=T.gr;obtain ⟨a1,n1,c1,a2,n2,c2,rfl,rfl⟩:=T.form;rw [zM1];unfold zIN aF bF iV lF nF xF;simp (disch:=omega) only [SS,seval];refine ⟨fun hlt=>?_,fun hge=>?_⟩
 ·obtain ⟨e,he⟩:=zY hlt;have hem:=hok e (List.mem_of_getElem? he);have hef:e.f<N:=hem.1;obtain ⟨_,b,sp,ro,cx,cs,hb,e1,hg⟩:=hv.at he;cases e1;have hg2:=(hf b (by omega) (by omega) (by omega)).trans ((hk1 b (by omega)).trans ((hold (by omega)).trans hg));obtain ⟨r0,r1,r2⟩:=rd_f (cs:=cs) he;have hcl:((ts.take i).map fun e=>(e.t:Int)).length=i:=by rw [List.length_map,List.length_take]; omega
  have hvl:((ts.take i).map GE.w).length=i:=by rw [List.length_map,List.length_take]; omega
  simp (disch:=omega) only [SS,hg2,r1,g7,seval];refine zBM (G1.keep fun c hc=>by have:=B1 c hc; rw [hold (by omega)]) (hnew _ _ _) (by omega) fun h3 hn3 hf3=>?_;have g73:hget h3 (nx+1+1+1)=some (.cells [.int .i64 (N:Int),.int .i64 (N:Int),.slice (some ⟨nx+1+1,0,none⟩) (N+1) (N+1),.slice a1 n1 c1,.slice a2 n2 c2] false):=by
   rw [hf3 _ (by omega) (fun e=>by have:=B1 _ e; omega),hold (by omega)]; exact g7
  have ge3:hget h3 b=some (.cells (flat encG ts++cs) ro):=by
   rw [hf3 _ (by omega) (fun e=>by have:=B1 _ e; omega),hold (by omega)]; exact hg2
  refine ⟨by omega,?_⟩;simp (disch:=omega) only [SS,g73,ge3,r2,seval];refine zBM (G2.keep fun c hc=>?_) (hnew _ _ _) (by omega) fun h4 hn4 hf4=>?_
  ·have:=B2 c hc;rw [hold (by omega),hold (by omega),hf3 c (by omega) (fun e=>(B1 c e).2.2 hc),hold (by omega)]
  have g74:hget h4 (nx+1+1+1)=some (.cells [.int .i64 (N:Int),.int .i64 (N:Int),.slice (some ⟨nx+1+1,0,none⟩) (N+1) (N+1),.slice (some ⟨nx2+1,0,some 1⟩) (((ts.take i).map fun e=>(e.t:Int)).length+1) (((ts.take i).map fun e=>(e.t:Int)).length+1),.slice a2 n2 c2] false):=by
   rw [hf4 _ (by omega) (fun e=>by have:=B2 _ e; omega),hold (by omega),hnew]
  have ge4:hget h4 b=some (.cells (flat encG ts++cs) ro):=by
   rw [hf4 _ (by omega) (fun e=>by have:=B2 _ e; omega),hold (by omega),hold (by omega)]; exact ge3
  refine ⟨by omega,?_⟩;simp (disch:=omega) only [SS,g74,ge4,r0,seval];have htk:ts.take (i+1)=ts.take i++[e]:=by rw [List.take_add_one,he]; rfl
  have hfr:∀ c,c<nx+1+1+1+1→c≠nx+1+1+1→hget h4 c=hget h2 c:=fun c h1 h2=>by
   rw [hf4 c (by omega) (fun e=>by have:=B2 _ e; omega),hold (by omega),hold (by omega),hf3 c (by omega) (fun e=>by have:=B1 _ e; omega),hold (by omega)]
  have hw1:IntKind.wrap .i64 ((e.f:Int)+1)=((e.f+1:Nat):Int):=zI (by omega);rw [hw1];generalize hH:hset h4 (nx+1+1+1) _=H;have H7:hget H (nx+1+1+1)=some (.cells [.int .i64 (N:Int),.int .i64 (N:Int),.slice (some ⟨nx+1+1,0,none⟩) (N+1) (N+1),.slice (some ⟨nx2+1,0,some 1⟩) (((ts.take i).map fun e=>(e.t:Int)).length+1) (((ts.take i).map fun e=>(e.t:Int)).length+1),.slice (some ⟨nx2+1+1+1,0,some 1⟩) (((ts.take i).map GE.w).length+1) (((ts.take i).map GE.w).length+1)] false):=by rw [← hH]; exact hnew _ _ _
  have Hf:∀ c,c≠nx+1+1+1→hget H c=hget h4 c:=fun c hc=>by rw [← hH]; exact hold hc
  refine Lp.mk (RbJ1 N nx (nx+1+1+1) (nx+1+1) i e.f (.slice (some ⟨b,0,sp⟩) ts.length cap) H (nx2+1+1+1+1)) (N+1-(e.f+1)) ⟨e.f+1,S,rfl,by omega,by omega,rfl,by rw [Hf _ (by omega),hfr _ (by omega) (by omega)]; exact g5,hSl,fun j x hx=>by have:=hSb x (List.mem_of_getElem? hx); omega,fun _ _=>rfl,rfl⟩ ?_;rintro m _ h5 _ ⟨k,S2,rfl,hk1',hk2,rfl,g55,hSl2,hSb2,hf5,rfl⟩;rw [zM0];unfold zIM aF bF iV lF xF;have g75:=(hf5 (nx+1+1+1) (by omega)).trans H7
  by_cases hkN:k≤N
  ·obtain ⟨x,hx⟩:=zY (l:=S2) (i:=k) (by omega);have hxb:=hSb2 _ x hx;have hwx:IntKind.wrap .i64 (x+1)=x+1:=zAf (by omega) (by omega);simp (disch:=omega) only [SS,show (k:Int)≤(N:Int) by omega,hkN,g75,g55,zI (show k<1000000000000 by omega),zO hx,hwx,seval];refine ⟨fun _=>⟨by omega,?_⟩,fun h=>absurd h (by omega)⟩;refine ⟨N+1-(k+1),by omega,k+1,S2.set k (x+1),rfl,by omega,by omega,rfl,hnew _ _ _,by rw [List.length_set]; exact hSl2,fun j z hz=>?_,fun c h3=>by rw [hold h3]; exact hf5 c h3,rfl⟩;rw [List.getElem?_set] at hz
   split at hz
   ·rename_i hj
    subst hj
    split at hz
    ·cases hz; omega
    ·cases hz
   ·have:=hSb2 j z hz; omega
  ·have hkk:k=N+1:=by omega
   subst hkk;simp (disch:=omega) only [SS,show ¬ ((N+1:Nat):Int)≤(N:Int) by omega,hkN,seval];refine ⟨fun h=>absurd h (by omega),fun _=>?_⟩;refine ⟨ts.length-(i+1),by omega,i+1,S2,_,_,rfl,by omega,by rw [zI (by omega)],g75,g55,hSl2,fun z hz=>?_,.inr ⟨nx2+1,nx2+1+1+1,by omega,by omega,by omega,by omega,by omega,?_,?_,?_,?_⟩,fun c h1 h2 h3=>?_,by omega⟩
   ·obtain ⟨j,hj⟩:=List.getElem?_of_mem hz;have:=hSb2 j z hj;omega
   ·rw [htk,List.map_append,List.length_append]; rfl
   ·rw [htk,List.map_append,List.length_append]; rfl
   ·rw [hf5 _ (by omega),Hf _ (by omega),hf4 _ (by omega) (fun e=>by have:=B2 _ e; omega),hold (by omega),hold (by omega),hn3,htk,List.map_append]; rfl
   ·rw [hf5 _ (by omega),Hf _ (by omega),hn4,htk,List.map_append]; rfl
   ·rw [hf5 c h3,Hf c h2,hfr c h1 h2]; exact hf c h1 h2 h3
 ·obtain ⟨T1,T2⟩:=T.nw;have hie:i=ts.length:=by omega
  subst hie;rw [List.take_length] at T1 T2;have gp:=(hf nx (by omega) (by omega) (by omega)).trans g0;simp (disch:=omega) only [SS,g7,gp,seval];refine ⟨⟨_,_,_,_,_,S,_,_,rfl,⟨_,_,by rw [hSl],fun _=>⟨nx+1+1,none,false,by omega,by omega,rfl,?_⟩⟩,T1.keep ?_ (by omega) (Nat.le_refl _),T2.keep ?_ (by omega) (Nat.le_refl _),by omega,by rw [List.length_map]; exact hl,by rw [List.length_map]; exact hl⟩,fun c hc=>?_,by omega⟩
  ·rw [hold (by omega),zS]; exact g5
  ·intro c h4 h5;rw [hold (by omega)]
  ·intro c h4 h5;rw [hold (by omega)]
  ·rw [hold (by omega),hf c (by omega) (by omega) (by omega),hk1 c (by omega),hold (by omega)]
def RgJ (p1 p4 p19 N:Nat) (ts:List GE) (lo:Nat) (h:Hp) (m:Nat) (vs:List Value) (h':Hp) (nx':Nat):Prop :=
 ∃ (i:Nat) (o:Value),m=ts.length-i∧i≤ts.length∧vs=[.pointer (some ⟨p1,0,none⟩),.pointer (some ⟨p4,0,none⟩),.pointer (some ⟨p19,0,none⟩),o,.int .i64 (i:Int)]∧SlAt h' o encG 3 (ts.take i) lo nx'∧Keep lo h h'∧lo≤nx'
theorem zJQ {s:Bool} {gs:List GE} {N:Nat} {h:Hp} {nx:Nat} {v:Value} (hv:SlPx h nx v encG gs) (hN:N≤4096) (hok:∀ g∈gs,GOk N g) (hl:gs.length≤120):Cv Q O s 114 [.agg ⟨[.int .i64 (N:Int),v]⟩] h nx (EqK (.int .i64 0) nx h):=by
 have hV:RightV (N:Int) (gs.map frG0):=by
  refine ⟨by omega,by omega,by rw [List.length_map]; omega,fun e he hb=>?_,fun e he hb=>?_⟩
  ·obtain ⟨g,hg,rfl⟩:=List.mem_map.1 he;obtain ⟨h1,h2,_⟩:=hok g hg;have hb:(g.f:Int)<0∨(N:Int)≤g.f∨(g.t:Int)<0∨(N:Int)≤g.t:=hb;omega
  ·obtain ⟨g,hg,rfl⟩:=List.mem_map.1 he;obtain ⟨_,_,h1,h2⟩:=hok g hg;have hb:g.w<0∨2147483647<g.w:=hb;omega
 have:=zII (s:=s) (n:=(N:Int)) (px_fr0 hv);rw [rightE_V.2 hV] at this;exact this
theorem rgraph_c {s:Bool} {gs:List GE} {N:Nat} {h:Hp} {nx:Nat} {v:Value} (hv:SlPx h nx v encG gs) (hN:N≤4096) (hok:∀ g∈gs,GOk N g) (hl:gs.length≤120):Cv Q O s 150 [.agg ⟨[.int .i64 (N:Int),v]⟩] h nx (MatK 0 nx h):=by
 refine zPy ?_;obtain ⟨a,cap,rfl,hc⟩:=id hv;unfold zQA aF bF cF iV lA lF nC nS pC;simp (disch:=omega) only [SS,seval];have K0:∀ {o o'},Keep nx h (hset (hset h nx o) (nx+1) o'):=((Keep.refl _ _).set (Nat.le_refl _)).set (Nat.le_succ _);refine (zJQ (hv.keep K0 (by omega)) hN hok hl).mono ?_;rintro r h1 nx1 ⟨rfl,hk1,hle1⟩;have g0:=hk1 nx (by omega);rw [hold (by omega),hnew] at g0;have g4:=hk1 (nx+1) (by omega);rw [hnew] at g4;have K1:Keep nx h h1:=K0.trans hk1 (by omega);simp (disch:=omega) only [SS,g0,seval];refine (zKa (hv.keep K1 (by omega)) hN hl hok).mono ?_;rintro r h2 nx2 ⟨v2,ts,rfl,hts,htc,htok,htl,hk2,hle2⟩;have htl2:ts.length≤gs.length:=Nat.le_trans htl (zAU gs);obtain ⟨a3,c3,rfl,hc3⟩:=id hts.nw;simp (disch:=omega) only [SS,seval];refine Lp.mk (RgJ nx (nx+1) nx2 N ts (nx2+1) (hset (hset h2 nx2 (.cells [.int .i64 0,.slice none 0 0] false)) nx2 (.cells [.int .i64 (N:Int),.slice a3 ts.length c3] false))) ts.length ⟨0,_,rfl,by omega,rfl,.inl ⟨rfl,rfl⟩,Keep.refl _ _,Nat.le_refl _⟩ ?_;rintro m _ h3 nx3 ⟨i,o,rfl,hi,rfl,S,hk3,hle3⟩;obtain ⟨a5,n5,c5,rfl⟩:=S.form;have gt:=hk3 nx2 (by omega);rw [hnew] at gt;rw [zMV];unfold zIL aF bF iV lF nF xF;simp (disch:=omega) only [SS,gt,seval];refine ⟨fun hlt=>?_,fun hge=>?_⟩
 ·obtain ⟨e,he⟩:=zY hlt;obtain ⟨b,sp,ro,hb1,hb2,rfl,hb⟩:=hc3 (fun e0=>by rw [e0] at hlt; exact absurd hlt (Nat.not_lt_zero _));have hb3:=(hk3 b (by omega)).trans ((hold (by omega)).trans ((hold (by omega)).trans hb));obtain ⟨r0,r1,r2⟩:=rd_f (cs:=[]) he;rw [List.append_nil] at r0 r1 r2;simp (disch:=omega) only [SS,hb3,r0,r1,r2,seval];refine zBe (enc:=encG) (k:=3) (lo:=nx2+1) (fun _=>rfl) (fun _=>rfl) (by omega) (S.keep (fun c h1 h2=>by rw [hold (by omega)]) (by omega)) (by omega) e (hnew _ _ _) rfl (by rw [List.length_take]; omega) fun v5 h5 hs5 hk5=>?_;have htk:ts.take (i+1)=ts.take i++[e]:=by rw [List.take_add_one,he]; rfl
  simp (disch:=omega) only [SS,zI (show i<1000000000000 by omega),seval];exact ⟨by omega,ts.length-(i+1),by omega,i+1,v5,rfl,by omega,rfl,by rw [htk]; exact hs5,fun c hc=>by rw [hk5 c hc,hold (by omega)]; exact hk3 c hc,by omega⟩
 ·have hie:i=ts.length:=by omega
  subst hie;rw [List.take_length] at S;have g03:=hk3 nx (by omega);rw [hold (by omega),hold (by omega),hk2 nx (by omega),g0] at g03;have g43:=hk3 (nx+1) (by omega);rw [hold (by omega),hold (by omega),hk2 (nx+1) (by omega),g4] at g43;have K3:Keep nx h h3:=fun c hc=>by rw [hk3 c (by omega),hold (by omega),hold (by omega),hk2 c (by omega)]; exact K1 c hc
  simp (disch:=omega) only [SS,g03,seval];refine (rbuilt_c (SlPx.of S.rd) hN (by omega) htok).mono ?_;rintro r h6 nx6 ⟨hR,hk6,hle6⟩;obtain ⟨x,y,b1,b2,b3,n1,n2,n3,c1,c2,c4,rfl⟩:=hR.form;have g46:=(hk6 (nx+1) (by omega)).trans g43;unfold zLq;simp (disch:=omega) only [SS,g46,seval];exact ⟨_,rfl,hR.keep (fun c h1 h2=>hold (by omega)) (by omega) (Nat.le_refl _),fun c hc=>by rw [hold (by omega),hk6 c (by omega)]; exact K3 c hc,by omega⟩
theorem zPt {s:Bool} {k n src len gn:Int} {ds:List Int} {es:List Edg3} {vd ve:Value} {h:Hp} {nx:Nat} (hd:SlRd h nx vd za ds) (he:SlPx h nx ve enc3 es) (hel:es.length≤60) :
  Cv Q O s 57 [.agg ⟨[.int .i64 k,.int .i64 n,.int .i64 src,.int .i64 len,vd]⟩,.agg ⟨[.int .i64 gn,ve]⟩] h nx (MatK (matE k n src len ds gn es) nx h):=by
 refine zMS ?_;obtain ⟨a,cap,rfl,hc⟩:=id hd;obtain ⟨a2,cap2,rfl,hc2⟩:=id he;unfold zKd aF bF cF iV lA lF nC nS pC;simp (disch:=omega) only [SS,seval];have K0:∀ {o o' o''},Keep nx h (hset (hset (hset h nx o) (nx+1) o') (nx+1+1) o''):=(((Keep.refl _ _).set (Nat.le_refl _)).set (Nat.le_succ _)).set (by omega);refine (zDB (hd.keep K0 (by omega))).mono ?_;rintro r h1 nx1 ⟨rfl,hk1,hle1⟩;have gp:=hk1 nx (by omega);rw [hold (by omega),hold (by omega),hnew] at gp;have gg:=hk1 (nx+1) (by omega);rw [hold (by omega),hnew] at gg;have gm:=hk1 (nx+1+1) (by omega);rw [hnew] at gm;have K1:Keep nx h h1:=K0.trans hk1 (by omega);have zero:∀ {h':Hp} {nx':Nat} {o:AObj} {e:Int},matE k n src len ds gn es=e→Keep nx h h'→nx≤nx'→MatK (matE k n src len ds gn es) nx h (.tuple ⟨[.agg ⟨[.int .i64 0,.int .i64 0,.slice none 0 0,.slice none 0 0,.slice none 0 0]⟩,.int .i64 e]⟩) (hset h' (nx+1+1) o) nx':=fun {h' nx' o e} he hk hle=>by
  rw [he];exact ⟨_,rfl,RowsR.zero,hk.set (by omega),hle⟩
 generalize hpe:zw k n src len ds=pe at *
 by_cases hp0:pe=0
 case neg =>
  have hb:(pe == 0)=false:=beq_eq_false_iff_ne.2 hp0;simp (disch:=omega) only [SS,hb,gm,seval];exact zero (by unfold matE; rw [hpe,if_pos hp0]) K1 (by omega)
 subst hp0;simp (disch:=omega) only [SS,gg,gp,seval];refine ⟨fun hne=>?_,fun heq=>?_⟩
 ·simp (disch:=omega) only [SS,gm,seval];have hne:gn≠n:=by simpa using hne
  exact zero (by unfold matE; rw [hpe,if_neg (by simp),if_pos hne]) K1 (by omega)
 have heq:gn=n:=by simpa using heq
 have hmE:matE k n src len ds gn es=zr gn es:=by unfold matE; rw [hpe,if_neg (by simp),if_neg (by simp [heq])]
 refine (zII (he.keep K1 (by omega))).mono ?_;rintro r h2 nx2 ⟨rfl,hk2,hle2⟩;have K2:=K1.trans hk2 (by omega);have gp2:=(hk2 nx (by omega)).trans gp;have gg2:=(hk2 (nx+1) (by omega)).trans gg;have gm2:=(hk2 (nx+1+1) (by omega)).trans gm
 by_cases hr0:zr gn es=0
 case neg =>
  have hb:(zr gn es == 0)=false:=beq_eq_false_iff_ne.2 hr0;simp (disch:=omega) only [SS,hb,gm2,seval];exact zero hmE K2 (by omega)
 rw [hr0] at hmE ⊢;obtain ⟨N,rfl,hN,hfl,hG⟩:=(rightE_V.1 hr0).ges;have hpx:=((he.keep K1 (by omega)).keep hk2 hle2).map hfl;rw [← List.length_map (f:=toG)] at hel;generalize hgs:es.map toG=gs at hel hG hpx;have hcl:es.length=gs.length:=by rw [← hgs,List.length_map]
 rw [hcl] at gg2 hpx;have S0:Sg N (nx+1) nx h h2 nx2 gs (.slice a2 gs.length cap2):=⟨gg2,gm2,hpx,hG,K2,by omega⟩
 rw [hmE];have tail:∀ {h':Hp} {nx':Nat} {gs:List GE} {a:Option Addr} {n c:Nat},Sg N (nx+1) nx h h' nx' gs (.slice a n c)→nx≤nx'→gs.length≤120→zAQ s (MatK 0 nx h) (.pointer (some ⟨nx+1,0,none⟩)) (.pointer (some ⟨nx+1+1,0,none⟩)) h' nx':=fun {h' nx' gs a n c} S hx hl=>by
  have hlt:=S.lt;unfold zAQ cF lA;simp (disch:=omega) only [SS,S.g,seval];refine (rgraph_c S.p hN S.ok hl).mono ?_;rintro r h6 nx6 ⟨m,rfl,hR,hk6,hle6⟩;obtain ⟨x,y,b1,b2,b3,n1,n2,n3,c1,c2,c4,rfl⟩:=hR.form;have g6:=(hk6 _ S.lt).trans S.m;unfold zLq;simp (disch:=omega) only [SS,g6,seval];exact ⟨_,rfl,hR.keep (fun c h1 h2=>hold (by omega)) (by omega) (Nat.le_refl _),fun b hb=>by rw [hold (by omega),hk6 b (by omega)]; exact S.k b hb,by omega⟩
 have plain:∀ {h':Hp} {nx':Nat} {ms:List GE} {v:Value} {hx:Hp} {nxx:Nat} {gs:List GE} {va:Value},SlPx h' nx' v encG ms→(∀ g∈ms,GOk N g)→ms.length≤120→Sg N (nx+1) nx h h' nx' gs va→nx≤nx'→Cv Q O s 147 [.agg ⟨[.int .i64 (N:Int),v]⟩] h' nx' fun x65 h66 n67=>(zC x65).length=2∧RK (wrO (hget h66 (nx+1)) h66 (nx+1) 0 (zC x65)) fun h68=>zAQ s (MatK 0 nx h) (.pointer (some ⟨nx+1,0,none⟩)) (.pointer (some ⟨nx+1+1,0,none⟩)) h68 n67:=fun {h' nx' ms v hx nxx gs va} hv hok hl S hx=>by
  refine (zMR hv hN hl hok).mono ?_;intro r h6 nx6 hr;obtain ⟨cs,a6,n6,c6,rfl,hcl,hq,hle,S6⟩:=S.put (by omega) hr;simp (disch:=omega) only [SS,hq,seval];exact tail S6 (by omega) (by have:=zAU (p:=fun _=>true) (m:=oneG) ms; unfold zGM at hcl; omega)
 have next:∀ {h' h6:Hp} {nx' nx6:Nat} {gs:List GE} {va:Value},Sg N (nx+1) nx h h' nx' gs va→Keep nx' h' h6→nx'≤nx6→Sg N (nx+1) nx h h6 nx6 gs va:=fun {h' h6 nx' nx6 gs va} S hk hle=>by
  have:=S.lt;exact ⟨by rw [hk _ (by omega)]; exact S.g,by rw [hk _ (by omega)]; exact S.m,S.p.keep hk hle,S.ok,fun b hb=>by rw [hk b (by omega)]; exact S.k b hb,by omega⟩
 have both:∀ {h':Hp} {nx':Nat} {ms:List GE} {v:Value} {gs:List GE} {va:Value},SlPx h' nx' v encG ms→(∀ g∈ms,GOk N g)→ms.length≤60→Sg N (nx+1) nx h h' nx' gs va→nx≤nx'→Cv Q O s 148 [.agg ⟨[.int .i64 (N:Int),v]⟩] h' nx' fun x44 h45 n46=>Cv Q O s 147 [x44] h45 n46 fun x47 h48 n49=>(zC x47).length=2∧RK (wrO (hget h48 (nx+1)) h48 (nx+1) 0 (zC x47)) fun h50=>zAQ s (MatK 0 nx h) (.pointer (some ⟨nx+1,0,none⟩)) (.pointer (some ⟨nx+1+1,0,none⟩)) h50 n49:=fun {h' nx' ms v gs va} hv hok hl S hx=>by
  refine (zQO hv hN hl hok).mono ?_;rintro r h6 nx6 ⟨ts,_,htl,_,v6,cs,rfl,hcs,_,hcok,hcl,hk6,hle6⟩;rw [List.length_append] at hcl;exact plain (hx:=h) (nxx:=0) (SlPx.of hcs.rd) hcok (by omega) (next S hk6 hle6) (by omega)
 simp (disch:=omega) only [SS,gg2,gp2,seval];refine ⟨fun _=>plain (hx:=h) (nxx:=0) S0.p hG (by omega) S0 (by omega),fun _=>⟨fun _=>both S0.p hG hel S0 (by omega),fun _=>⟨fun _=>?_,fun _=>tail S0 (by omega) (by omega)⟩⟩⟩;refine (zJP S0.p hN (by omega) hG).mono ?_;rintro r h6 nx6 ⟨v6,cs,rfl,hcs,_,hcok,hcl,hk6,hle6⟩;have hml:=zAU (p:=zBo) (m:=id) gs;unfold zDa at hcl;exact both (SlPx.of hcs.rd) hcok (by omega) (next S0 hk6 hle6) (by omega)
theorem zPr {s:Bool} {k n src len gn lim:Int} {ds:List Int} {es:List Edg3} {vd ve:Value} {h:Hp} {nx:Nat} (hd:SlRd h nx vd za ds) (he:SlPx h nx ve enc3 es) (hel:es.length≤60) :
  Cv Q O s 64 [.agg ⟨[.int .i64 k,.int .i64 n,.int .i64 src,.int .i64 len,vd]⟩,.agg ⟨[.int .i64 gn,ve]⟩,.int .i64 lim] h nx (EqK (.int .i64 (mchE k n src len ds gn es lim)) nx h):=by
 refine rmcheckv ?_;obtain ⟨a,cap,rfl,hc⟩:=id hd;obtain ⟨a2,cap2,rfl,hc2⟩:=id he;unfold zPs bF cF iV lA nC nS pC;simp (disch:=omega) only [SS,seval];have K0:∀ {o o'},Keep nx h (hset (hset h nx o) (nx+1) o'):=((Keep.refl _ _).set (Nat.le_refl _)).set (Nat.le_succ _);refine (zPt (hd.keep K0 (by omega)) (he.keep K0 (by omega)) hel).mono ?_;rintro r h1 nx1 ⟨m,rfl,hR,hk1,hle1⟩;obtain ⟨x,y,b1,b2,b3,n1,n2,n3,c1,c2,c4,rfl⟩:=hR.form;have K1:∀ {o o'},Keep nx h (hset (hset h1 nx1 o) nx1 o'):=((K0.trans hk1 (by omega)).set (by omega)).set (by omega);unfold zLq
 by_cases h0:matE k n src len ds gn es=0
 case neg =>
  have hb:(matE k n src len ds gn es == 0)=false:=beq_eq_false_iff_ne.2 h0;simp (disch:=omega) only [SS,hb,seval];exact ⟨by unfold mchE; rw [if_pos h0],K1,by omega⟩
 rw [h0];have e:mchE k n src len ds gn es lim=if lim<0∨8192<lim then 3 else 0:=by unfold mchE; rw [h0,if_neg (by simp)]
 simp (disch:=omega) only [SS,seval];rw [e];refine ⟨fun h2=>⟨by rw [if_pos (.inl h2)],K1,by omega⟩,fun h2=>⟨fun h3=>⟨by rw [if_pos (.inr (by omega))],K1,by omega⟩,fun h3=>⟨by rw [if_neg (by omega)],K1,by omega⟩⟩⟩
theorem sd_t {n m:Int} (h:¬ n<1) (h':¬ m<n):sd n m=true:=decide_eq_true (by omega)
theorem sd_f {n m:Int} (h:n<1∨m<n):sd n m=false:=decide_eq_false (by omega)
theorem zJN {s:Bool} {x:Stp} {vd ve vc:Value} {h:Hp} {nx:Nat} (H:StpIs h nx x vd ve vc):Cv Q O s 13 [.agg ⟨stpV x vd ve vc⟩] h nx (EqK (.int .i64 (stpE x)) nx h):=by
 refine rwcheckv ?_;obtain ⟨a,cap,rfl,hc⟩:=id H.d;obtain ⟨a2,cap2,rfl,hc2⟩:=id H.e;obtain ⟨a3,cap3,rfl⟩:=H.c;unfold zPh stpV aF bF cF iV lA lF pC;have K0:∀ {o},Keep nx h (hset h nx o):=(Keep.refl _ _).set (Nat.le_refl _);simp (disch:=omega) only [SS,seval];refine (zPr (H.d.keep K0 (by omega)) (H.e.keep K0 (by omega)) H.l).mono ?_;rintro r h1 nx1 ⟨rfl,hk1,hle1⟩;have g:=hk1 nx (by omega);rw [hnew] at g;have K1:Keep nx h h1:=K0.trans hk1 (by omega);generalize hm:mchE x.k x.n x.src x.len x.ds x.gn x.es x.lim=me
 by_cases h0:me=0
 case neg =>
  have hb:(me == 0)=false:=beq_eq_false_iff_ne.2 h0;simp (disch:=omega) only [SS,hb,seval];exact ⟨by unfold stpE; rw [hm,if_pos h0],K1,by omega⟩
 subst h0;have e:stpE x=if sd x.R 8=false then 3 else if sd x.C 8=false then 3 else if sd x.M 64=false then 3 else if 8192<x.nch then 5 else 0:=by unfold stpE; rw [hm,if_neg (by simp)]
 have bad:stpE x=3→zAl s (EqK (.int .i64 (stpE x)) nx h) (.pointer (some ⟨nx,0,none⟩)) (.bool true) h1 nx1:=fun e=>by
  unfold zAl aF bF iV lF nF;simp (disch:=omega) only [SS,seval];exact ⟨by rw [e],K1,by omega⟩
 simp (disch:=omega) only [SS,g,seval];refine ⟨fun a1=>bad (by rw [e,sd_f (.inl a1)]; rfl),fun a1=>⟨fun a2=>bad (by rw [e,sd_f (.inr a2)]; rfl),fun a2=>?_⟩⟩;rw [sd_t a1 a2] at e;refine ⟨fun b1=>bad (by rw [e,sd_f (.inl b1)]; rfl),fun b1=>⟨fun b2=>bad (by rw [e,sd_f (.inr b2)]; rfl),fun b2=>?_⟩⟩;rw [sd_t b1 b2] at e;refine ⟨fun c1=>bad (by rw [e,sd_f (.inl c1)]; rfl),fun c1=>?_⟩
 by_cases c2:64<x.M
 ·rw [decide_eq_true c2];exact bad (by rw [e,sd_f (.inr c2)]; rfl)
 rw [decide_eq_false c2];rw [sd_t c1 c2] at e;unfold zAl aF bF iV lF nF;simp (disch:=omega) only [SS,g,seval];refine ⟨fun h6=>⟨by rw [e]; simp; omega,K1,by omega⟩,fun h6=>⟨by rw [e]; simp; omega,K1,by omega⟩⟩
def encU (x:Nat):List Value:=[.int .u64 (x:Int)]
def SetK (w:Nat) (nx:Nat) (h:Hp):KC':=fun r h' nx'=>∃ b c sp,r = .slice (some ⟨b,0,sp⟩) 1 c∧nx≤b∧b<nx'∧hget h' b=some (.cells [.int .u64 (w:Int)] false)∧Keep nx h h'∧nx≤nx'
theorem SetK.rd {w nx:Nat} {h:Hp} {r:Value} {h':Hp} {nx':Nat} (H:SetK w nx h r h' nx'):SlRd h' nx' r encU [w]:=by
 obtain ⟨b,c,sp,rfl,h1,h2,h3,_⟩:=H;exact ⟨_,_,rfl,fun _=>⟨b,sp,false,h2,rfl,h3⟩⟩
theorem zNA {s:Bool} {n:Nat} {h:Hp} {nx:Nat} (h0:1≤n) (h1:n≤64):Cv Q O s 202 [.int .i64 (n:Int)] h nx (fun r h' nx'=>r = .int .i64 1∧h'=h∧nx'=nx):=by
 refine zRV ?_;unfold zRW bF iV;have e:IntKind.wrap .i64 ((n:Int)+63)=((n+63:Nat):Int):=zI (by omega);simp (disch:=omega) only [SS,show max (n:Int) 0=n by omega,show min (n:Int) 4096=n by omega,e,zIu,seval];rw [show (n+63) / 64=1 by omega];rfl
theorem fnew_c {s:Bool} {n:Nat} {h:Hp} {nx:Nat} (h0:1≤n) (h1:n≤64):Cv Q O s 115 [.int .i64 (n:Int)] h nx (SetK 0 nx h):=by
 refine fnewv ?_;unfold fnew cF;refine (zNA h0 h1).mono ?_;rintro r h2 n2 ⟨rfl,e1,e2⟩;rw [e1,e2];show AR (vMks [.int .u64 0] (.int .i64 ((1:Nat):Int)) (.int .i64 ((1:Nat):Int))) h nx _;simp (disch:=omega) only [SS,seval];exact ⟨nx,1,none,rfl,Nat.le_refl _,Nat.lt_succ_self _,hnew _ _ _,(Keep.refl _ _).set (Nat.le_refl _),Nat.le_succ _⟩
theorem zRX {s:Bool} {k c:Nat} {a:Option Addr} {h:Hp} {nx:Nat} (hk:k<64):Cv Q O s 196 [.slice a 1 c,.int .i64 (k:Int)] h nx (fun r h' nx'=>r = .bool true∧h'=h∧nx'=nx):=by
 refine fwithinv ?_;unfold zRY bF iV nF;simp (disch:=omega) only [SS,zIu,seval];rw [show k / 64=0 by omega];exact ⟨fun _=>rfl,fun h=>absurd h (by omega)⟩
theorem fbit_c {s:Bool} {k:Nat} {h:Hp} {nx:Nat} (hk:k<64):Cv Q O s 197 [.int .i64 (k:Int)] h nx (fun r h' nx'=>r = .int .u64 ((2 ^ k:Nat):Int)∧h'=h∧nx'=nx):=by
 refine fbitv ?_;unfold fbit bF;have e:IntKind.wrap .u64 (k:Int)=(k:Int):=zFu (by omega);have e2:∀ {t},bin Q .and t (.int .u64 (k:Int)) (.int .u64 63) = .ok (.int .u64 (k:Int)):=fun {t}=>by
  rw [show (63:Int)=((63:Nat):Int) from rfl,zFs (by omega) (by omega),show (63:Nat)=2 ^ 6-1 from rfl,Nat.and_two_pow_sub_one_eq_mod,Nat.mod_eq_of_lt (by omega)]
 simp (disch:=omega) only [SS,e,e2,zN1 k hk,seval]
def natI (l:List Nat):List Int:=l.map fun x:Nat=>(x:Int)
def inL (l:List Nat) (i:Nat):Bool:=decide (i∈l)
def OfJ (n b c:Nat) (sp:Option Nat) (v:Value) (l:List Nat) (nx:Nat) (h:Hp) (m:Nat) (vs:List Value) (h':Hp) (nx':Nat):Prop :=
 ∃ i,m=l.length-i∧i≤l.length∧vs=[.int .i64 (n:Int),.slice (some ⟨b,0,sp⟩) 1 c,v,.int .i64 (l.length:Int),.int .i64 (i:Int)]∧hget h' b=some (.cells [.int .u64 (mk n (inL (l.take i)):Int)] false)∧nx≤b∧b<nx'∧Keep nx h h'∧nx≤nx'
theorem mk64 {n:Nat} {p:Nat→Bool} (h:n≤64):mk n p<18446744073709551616:=Nat.lt_of_lt_of_le (mk_lt n p) (Nat.pow_le_pow_right (i:=n) (j:=64) (by omega) h)
theorem zMv {l:List Nat} {i x:Nat} (hx:l[i]? = some x) (j:Nat):inL (l.take (i+1)) j=(inL (l.take i) j||decide (j=x)):=by
 unfold inL;rw [List.take_add_one,hx,← Bool.decide_or]
 congr 1
 simp
theorem fof_c {s:Bool} {n:Nat} {l:List Nat} {v:Value} {h:Hp} {nx:Nat} (h0:1≤n) (h1:n≤64) (hv:SlRd h nx v za (natI l)) (hl:∀ x∈l,x<n) (hlen:l.length<1000000):Cv Q O s 108 [.int .i64 (n:Int),v] h nx (SetK (mk n (inL l)) nx h):=by
 refine fofv ?_;obtain ⟨a,cap,rfl,hc⟩:=id hv;unfold fof cF iV nF;refine (fnew_c h0 h1).mono ?_;rintro r h2 n2 ⟨b,c,sp,rfl,hb1,hb2,hg,hk,hle⟩;simp (disch:=omega) only [SS,seval];refine Lp.mk (OfJ n b c sp (.slice a (natI l).length cap) l nx h) l.length ⟨0,by omega,by omega,by unfold natI; rw [List.length_map]; rfl,by rw [List.take_zero,show mk n (inL [])=0 from (by rw [← zIX n]; exact zGZ fun i _=>by simp [inL])]; exact hg,hb1,hb2,hk,hle⟩ ?_;rintro _ _ h' nx' ⟨i,rfl,hi,rfl,hgb,hb1,hb2,hk,hle⟩;rw [fofb0];unfold fofl0 bF cF dF gL lF xF;simp (disch:=omega) only [SS,seval];refine ⟨fun hlt=>?_,fun hge=>?_⟩
 ·obtain ⟨x,hx⟩:=zY hlt;have hxI:(natI l)[i]? = some (x:Int):=by unfold natI; rw [List.getElem?_map,hx]; rfl
  obtain ⟨_,b2,sp2,ro,c1,hb3,e1,hg2⟩:=hv.at hxI;cases e1;rw [zS] at hg2;have hxn:=hl x (List.mem_of_getElem? hx);simp (disch:=omega) only [SS,(hk b2 hb3).trans hg2,zO hxI,show (x:Int)<(n:Int) by omega,seval];refine ⟨?_,fun h=>absurd trivial h⟩;refine (zRX (by omega)).mono ?_;rintro r h3 n3 ⟨rfl,e1,e2⟩;rw [e1,e2];simp (disch:=omega) only [SS,seval];refine (fbit_c (by omega)).mono ?_;rintro r h3 n3 ⟨rfl,e1,e2⟩;rw [e1,e2];refine ⟨Nat.le_refl _,?_⟩;have ho:bin Q .or 221 (.int .u64 (mk n (inL (l.take i)):Int)) (.int .u64 ((2 ^ x:Nat):Int)) = .ok (.int .u64 (mk n (inL (l.take (i+1))):Int)):=by
   rw [mk_one hxn,zSc (mk64 h1) (mk64 h1),mk_or]
   congr 3
   exact zGZ fun j _=>(zMv hx j).symm
  simp (disch:=omega) only [SS,zIu,show x / 64=0 by omega,hgb,ho,zI (show i<1000000000000 by omega),seval];unfold fofk0 bF iV;simp (disch:=omega) only [SS,zI (show i<1000000000000 by omega),seval];exact ⟨_,by omega,i+1,rfl,by omega,rfl,hnew _ _ _,hb1,hb2,hk.set hb1,hle⟩
 ·have:i=l.length:=by omega
  subst this;rw [List.take_length] at hgb;exact ⟨b,c,sp,rfl,hb1,hb2,hgb,hk,hle⟩
def OnJ (n:Nat) (p:Nat→Bool) (h:Hp) (nx:Nat) (m:Nat) (vs:List Value) (h':Hp) (nx':Nat):Prop :=
 ∃ (q:Nat→Bool) (k:Nat),m=(fl n q).length∧k+(fl n q).length=(fl n p).length∧vs=[.int .u64 (mk n q:Int),.int .i64 (k:Int)]∧h'=h∧nx'=nx
theorem zE3 (n:Nat) (p:Nat→Bool):(fl n p).length≤n:=by
 unfold fl;have:=List.length_filter_le p (List.range n);rwa [List.length_range] at this
theorem fones_c {s:Bool} {n:Nat} {p:Nat→Bool} {h:Hp} {nx:Nat} (h1:n≤63):Cv Q O s 198 [.int .u64 (mk n p:Int)] h nx (fun r h' nx'=>r = .int .i64 ((fl n p).length:Int)∧h'=h∧nx'=nx):=by
 refine fonesv ?_;unfold fones iV;refine Lp.mk (OnJ n p h nx) (fl n p).length ⟨p,0,rfl,by omega,rfl,rfl,rfl⟩ ?_;rintro _ _ _ _ ⟨q,k,rfl,hk,rfl,rfl,rfl⟩;rw [fonesb0];unfold zRZ bF iV;have hn:=zE3 n p
 by_cases h0:mk n q=0
 ·rw [h0];simp (disch:=omega) only [SS,↓reduceIte,Nat.reduceAdd,Nat.reduceSub,Nat.reduceMul,Nat.reduceLT,Nat.reduceLeDiff,Nat.reduceEqDiff,Int.reduceBEq,Int.reduceLT,Int.reduceNeg];have:fl n q=[]:=fl_nil (mk_zero.1 h0);rw [this] at hk;have:(k:Int)=((fl n p).length:Int):=by simp at hk; omega
  rw [this];exact ⟨fun _=>rfl,fun h=>absurd h (by simp)⟩
 ·obtain ⟨q2,e1,e2⟩:=zN2 n q h0;have e3:(((mk n q:Nat):Int) == 0)=false:=by
   rw [beq_eq_false_iff_ne]; omega
  have e4:IntKind.wrap .u64 ((mk n q:Int)-1)=((mk n q-1:Nat):Int):=by
   rw [show ((mk n q:Nat):Int)-1=((mk n q-1:Nat):Int) by omega];exact zFu (by have:=mk64 (p:=q) (show n≤64 by omega); omega)
  have e5:bin Q .and 221 (.int .u64 ((mk n q:Nat):Int)) (.int .u64 ((mk n q-1:Nat):Int)) = .ok (.int .u64 ((mk n q2:Nat):Int)):=by
   rw [zFs (mk64 (by omega)) (by have:=mk64 (p:=q) (show n≤64 by omega); omega),e1]
  simp (disch:=omega) only [SS,↓reduceIte,Nat.reduceAdd,Nat.reduceSub,Nat.reduceMul,Nat.reduceLT,Nat.reduceLeDiff,Nat.reduceEqDiff,Int.reduceBEq,Int.reduceLT,Int.reduceNeg,e3,e4,e5,zI (show k<1000000000000 by omega)];exact ⟨_,by omega,q2,k+1,rfl,by omega,rfl,rfl,rfl⟩
theorem fcount_c {s:Bool} {n:Nat} {p:Nat→Bool} {v:Value} {h:Hp} {nx:Nat} (h1:n≤63) (hv:SlRd h nx v encU [mk n p]):Cv Q O s 111 [v] h nx (fun r h' nx'=>r = .int .i64 ((fl n p).length:Int)∧h'=h∧nx'=nx):=by
 refine zR6 ?_;obtain ⟨a,cap,rfl,hc⟩:=id hv;obtain ⟨b,sp,ro,hb,rfl,hg⟩:=hc (by simp);have hn:=zE3 n p;unfold zR8 iV nF;simp (disch:=omega) only [SS,seval];refine Lp.mk (fun m vs h' nx'=>h'=h∧nx'=nx∧((m=1∧vs=[.int .i64 0,.slice (some ⟨b,0,sp⟩) 1 cap,.int .i64 1,.int .i64 0])∨(m=0∧vs=[.int .i64 ((fl n p).length:Int),.slice (some ⟨b,0,sp⟩) 1 cap,.int .i64 1,.int .i64 1]))) 1 ⟨rfl,rfl,.inl ⟨rfl,rfl⟩⟩ ?_;rintro _ _ h' nx' ⟨eh,en,h2⟩;rw [eh,en];rcases h2 with ⟨rfl,rfl⟩ | ⟨rfl,rfl⟩
 ·rw [zIc];unfold zFo bF cF iV lF xF;have hg:hget h b=some (.cells [.int .u64 (mk n p:Int)] ro):=hg;simp (disch:=omega) only [SS,hg,seval];refine ⟨?_,fun h=>absurd trivial h⟩;refine (fones_c h1).mono ?_;rintro r h3 n3 ⟨rfl,e1,e2⟩;rw [e1,e2];simp (disch:=omega) only [SS,seval];exact ⟨0,by omega,.inr ⟨rfl,by rw [show IntKind.wrap .i64 (0+((fl n p).length:Int))=((fl n p).length:Int) by rw [Int.zero_add]; exact zBh _ (by omega)]; rfl⟩⟩
 ·rw [zIc];unfold zFo bF cF iV lF xF;simp (disch:=omega) only [SS,seval];exact fun _=>trivial
theorem appA_g {h:Hp} {nx b b2 n c2:Nat} {sp2:Option Nat} {ro rd:Bool} {l cs:List Value} (hn:l.length=n) (hd:hget h b=some (.cells cs rd)) (hb:hget h b2=some (.cells l ro)) (h0:0<n) (h1:n<1000000) :
  zH 1 h nx (.slice (some ⟨b,0,none⟩) 0 0) (.slice (some ⟨b2,0,sp2⟩) n c2) = .ok (.val (.slice (some ⟨nx,0,some 1⟩) n n) (hset h nx (.cells l false)) (nx+1)):=by
 subst hn;have hr:zCb h (some ⟨b2,0,sp2⟩) (l.length.mul 1) (fun new=>zAa 1 h nx (some ⟨b,0,none⟩) 0 0 l.length new)=zAa 1 h nx (some ⟨b,0,none⟩) 0 0 l.length l:=by
  rw [show l.length.mul 1=l.length from Nat.mul_one _,zBR hb h0 (by omega)];rw [List.drop_zero,List.take_of_length_le (by omega)]
 show zCb h (some ⟨b2,0,sp2⟩) (l.length.mul 1) (fun new=>zAa 1 h nx (some ⟨b,0,none⟩) 0 0 l.length new)=_;rw [hr];unfold zAa;rw [show Nat.ble (Nat.add 0 l.length) 0=false by
  cases hb:Nat.ble (Nat.add 0 l.length) 0 with
  | false=>rfl
  | true=>have:=Nat.le_of_ble_eq_true hb; have:0+l.length≤0:=this; omega]
 rw [show (Nat.ble (Nat.mul (Nat.add 0 l.length) 1) 1000000&&Nat.ble (Nat.add 0 l.length) 1000000)=true by
  simp only [Bool.and_eq_true,Nat.ble_eq];exact ⟨by show (0+l.length)*1≤_; omega,by show 0+l.length≤_; omega⟩]
 show zEB h nx 1 (some ⟨b,0,none⟩) 0 0 (0+l.length) l=_;unfold zEB;simp only [zB hd];rw [show lcut (Nat.mul 0 1) (zBy cs 0)=some [] by rw [Nat.mul_eq,Nat.zero_mul]; rfl];show zE1 h nx 1 (lapp [] l) (0+l.length)=_;rw [zm,List.nil_append,Nat.zero_add];exact zBD (by omega)
theorem zN0 {P:Program} {t:TypeId} (ht:zAp P t=true) (a:Option Addr) (n c:Nat):bin P .eql t (.slice a n c) (.slice none 0 0) = .ok (.bool a.isNone):=by
 show R.of "compared" (eqlV P t (.slice a n c) (.slice none 0 0)) _=_;unfold eqlV;cases a <;> simp [ht,eqlS,zCc]
theorem ty23:zAp Tryz.prog 23=true:=by kernel_rfl
theorem zSM {s:Bool} {h:Hp} {nx:Nat} {v:Value} {l:List Int} (hv:SlRd h nx v za l) (hl:l.length<1000000) :
  Cv Q O s 51 [v] h nx (fun r h' nx'=>SlNw h' nx nx' r za l∧Keep nx h h'∧nx≤nx'):=by
 refine clone64v ?_;obtain ⟨a,cap,rfl,hc⟩:=id hv;unfold zSN bF nS;simp (disch:=omega) only [SS,zN0 ty23,seval];refine ⟨fun h0=>⟨?_,Keep.refl _ _⟩,fun h0=>?_⟩
 ·have:l=[]:=by
   rcases Classical.em (l=[]) with e | e
   ·exact e
   ·obtain ⟨b,sp,ro,_,rfl,_⟩:=hc e;cases h0
  subst this;exact ⟨none,0,rfl,fun h=>absurd rfl h⟩
 have K1:Keep nx h (hset h nx (.cells [] false)):=(Keep.refl _ _).set (Nat.le_refl _);rcases Classical.em (l=[]) with e | e
 ·subst e;show SlNw _ _ _ (.slice (some ⟨nx,0,none⟩) 0 0) _ _∧_∧_;exact ⟨⟨some ⟨nx,0,none⟩,0,rfl,fun h=>absurd rfl h⟩,K1,by omega⟩
 ·obtain ⟨b,sp,ro,hb,rfl,hg⟩:=hc e;rw [zS] at hg;rw [appA_g (l:=ints l) (zDR _) (hnew _ _ _) ((K1 b hb).trans hg) (List.length_pos_iff.2 e) hl];refine ⟨⟨some ⟨nx+1,0,some 1⟩,l.length,rfl,fun _=>⟨nx+1,some 1,false,by omega,by omega,rfl,?_⟩⟩,K1.set (by omega),by omega⟩;rw [zS]; exact hnew _ _ _
theorem fl_up (k:Nat) (p:Nat→Bool):fl (k+1) p=fl k p++(if p k then [k] else []):=by
 unfold fl;rw [List.range_succ,List.filter_append];cases h:p k <;> simp [h]
abbrev zCd (v:Value) (nx:Nat) (h:Hp):KC':=fun r h' nx'=>r=v∧h'=h∧nx'=nx
def Col (h:Hp) (nx:Nat) (v:Value) (l:List Int):Prop:=∃ bo,Ow h za v l bo∧∀ c,bo=some c→c<nx
theorem Col.keep {h h':Hp} {nx nx':Nat} {v:Value} {l:List Int} (C:Col h nx v l) (hk:Keep nx h h') (hle:nx≤nx'):Col h' nx' v l:=by
 obtain ⟨bo,hW,hb⟩:=C;exact ⟨bo,hW.keep fun c hc=>hk c (hb c hc),fun c hc=>by have:=hb c hc; omega⟩
theorem Col.form {h:Hp} {nx:Nat} {v:Value} {l:List Int} (C:Col h nx v l):∃ a c,v = .slice a l.length c:=by
 obtain ⟨bo,hW,_⟩:=C;exact hW.form
def tsT (ts:List GE):List Int:=ts.map fun g=>(g.t:Int)
def tsW (ts:List GE):List Int:=ts.map fun g=>g.w
theorem zCe (ts:List GE):(tsT ts).length=ts.length:=by unfold tsT; rw [List.length_map]
theorem zD9 (ts:List GE):(tsW ts).length=ts.length:=by unfold tsW; rw [List.length_map]
def RowsIs (h:Hp) (nx:Nat) (v:Value) (r c:Nat) (ts:List GE):Prop :=
 ∃ (b:Nat) (sp:Option Nat) (cap:Nat) (v2 v3:Value),v = .agg ⟨[.int .i64 (r:Int),.int .i64 (c:Int),.slice (some ⟨b,0,sp⟩) (r+1) cap,v2,v3]⟩∧b<nx∧hget h b=some (.cells (ints (stL ts r)) false)∧Col h nx v2 (tsT ts)∧Col h nx v3 (tsW ts)
theorem RowsIs.keep {h h':Hp} {nx nx':Nat} {v:Value} {r c:Nat} {ts:List GE} (H:RowsIs h nx v r c ts) (hk:Keep nx h h') (hle:nx≤nx'):RowsIs h' nx' v r c ts:=by
 obtain ⟨b,sp,cap,v2,v3,e,hb,hg,h2,h3⟩:=H;exact ⟨b,sp,cap,v2,v3,e,by omega,(hk b hb).trans hg,h2.keep hk hle,h3.keep hk hle⟩
def ColN (h:Hp) (lo hi:Nat) (v:Value) (l:List Int):Prop:=∃ bo,Ow h za v l bo∧∀ c,bo=some c→lo≤c∧c<hi
theorem ColN.col {h:Hp} {lo hi:Nat} {v:Value} {l:List Int} (C:ColN h lo hi v l):Col h hi v l:=by
 obtain ⟨bo,hW,hb⟩:=C;exact ⟨bo,hW,fun c e=>(hb c e).2⟩
theorem ColN.keep {h h':Hp} {lo hi lo' hi':Nat} {v:Value} {l:List Int} (C:ColN h lo hi v l) (hk:∀ d,lo≤d→d<hi→hget h' d=hget h d) (h1:lo'≤lo) (h2:hi≤hi'):ColN h' lo' hi' v l:=by
 obtain ⟨bo,hW,hb⟩:=C;exact ⟨bo,hW.keep fun c e=>hk c (hb c e).1 (hb c e).2,fun c e=>by have:=hb c e; omega⟩
def RowsNw (h:Hp) (lo hi:Nat) (v:Value) (r c:Nat) (ts:List GE):Prop :=
 ∃ (b:Nat) (sp:Option Nat) (cap:Nat) (v2 v3:Value),v = .agg ⟨[.int .i64 (r:Int),.int .i64 (c:Int),.slice (some ⟨b,0,sp⟩) (r+1) cap,v2,v3]⟩∧lo≤b∧b<hi∧hget h b=some (.cells (ints (stL ts r)) false)∧ColN h lo hi v2 (tsT ts)∧ColN h lo hi v3 (tsW ts)
theorem RowsNw.is {h:Hp} {lo hi:Nat} {v:Value} {r c:Nat} {ts:List GE} (H:RowsNw h lo hi v r c ts):RowsIs h hi v r c ts:=by
 obtain ⟨b,sp,cap,v2,v3,e,h1,h2,hg,c2,c3⟩:=H;exact ⟨b,sp,cap,v2,v3,e,h2,hg,c2.col,c3.col⟩
theorem RowsNw.keep {h h':Hp} {lo hi lo' hi':Nat} {v:Value} {r c:Nat} {ts:List GE} (H:RowsNw h lo hi v r c ts) (hk:∀ d,lo≤d→d<hi→hget h' d=hget h d) (x1:lo'≤lo) (x2:hi≤hi'):RowsNw h' lo' hi' v r c ts:=by
 obtain ⟨b,sp,cap,v2,v3,e,h1,h2,hg,c2,c3⟩:=H;exact ⟨b,sp,cap,v2,v3,e,by omega,by omega,(hk b h1 h2).trans hg,c2.keep hk x1 x2,c3.keep hk x1 x2⟩
theorem RowsIs.form {h:Hp} {nx:Nat} {v:Value} {r c:Nat} {ts:List GE} (H:RowsIs h nx v r c ts):∃ b sp n a2 n2 c2 a3 n3 c3,v = .agg ⟨[.int .i64 (r:Int),.int .i64 (c:Int),.slice (some ⟨b,0,sp⟩) (r+1) n,.slice a2 n2 c2,.slice a3 n3 c3]⟩:=by
 obtain ⟨b,sp,cap,v2,v3,rfl,hb,hg,C2,C3⟩:=H;obtain ⟨a2,c2,rfl⟩:=C2.form;obtain ⟨a3,c3,rfl⟩:=C3.form;exact ⟨_,_,_,_,_,_,_,_,_,rfl⟩
def SlI (h:Hp) (nx:Nat) (v:Value) (l:List Int):Prop:=∃ a cap,v = .slice a l.length cap∧(l≠[]→∃ b o sp ro cs,b<nx∧a=some ⟨b,o,sp⟩∧hget h b=some (.cells cs ro)∧∀ (i:Nat) (x:Int),l[i]? = some x→cs[o+i]? = some (.int .i64 x))
theorem SlI.keep {h h':Hp} {nx nx':Nat} {v:Value} {l:List Int} (H:SlI h nx v l) (hk:Keep nx h h') (hle:nx≤nx'):SlI h' nx' v l:=by
 obtain ⟨a,cap,e,H⟩:=H;exact ⟨a,cap,e,fun hne=>by
  obtain ⟨b,o,sp,ro,cs,hb,e2,hg,hx⟩:=H hne;exact ⟨b,o,sp,ro,cs,by omega,e2,(hk b hb).trans hg,hx⟩⟩
theorem SlI.at {h:Hp} {nx:Nat} {a:Option Addr} {n cap:Nat} {l:List Int} (H:SlI h nx (.slice a n cap) l) {i:Nat} {x:Int} (hx:l[i]? = some x):∃ b o sp ro cs,b<nx∧a=some ⟨b,o,sp⟩∧hget h b=some (.cells cs ro)∧∀ (i:Nat) (x:Int),l[i]? = some x→cs[o+i]? = some (.int .i64 x):=by
 obtain ⟨a',cap',e,H⟩:=H;cases e;exact H (fun e=>by rw [e] at hx; cases hx)
theorem sl_mx {b n i j:Nat} {sp:Option Nat} (h1:i≤j) (h2:j≤n) (hz:sp≠some 0) (full:Bool) {m:Nat} (hm:m=if full then j else n):∃ a' cc,zD1 1 (some ⟨b,0,sp⟩) n full m j i = .ok (.slice a' (j-i) cc)∧(i<j→a'=some ⟨b,i,bif full then none else sp⟩):=by
 have hjm:j≤m:=by subst hm; cases full <;> simp <;> omega
 have hmn:m≤n:=by subst hm; cases full <;> simp <;> omega
 unfold zD1;rw [show (Nat.ble m n&&(Nat.ble j m&&Nat.ble i j))=true by simp [hmn,hjm,h1]];show ∃ a' cc,zHV 1 (some ⟨b,0,sp⟩) full m j i=_∧_;unfold zHV
 by_cases e:m=i
 ·subst e;have hij:j=m:=by omega
  subst hij;rw [Nat.beq_refl];show ∃ a' cc,sliceE _ _ _ _=_∧_;unfold sliceE zG9 isZ toZ;cases sp with
  | none=>cases full <;> exact ⟨_,_,by simp; exact ⟨rfl,rfl⟩,fun h=>absurd h (by omega)⟩
  | some k =>
   cases k with
   | zero=>exact absurd rfl hz
   | succ k=>cases full <;> exact ⟨_,_,by simp; exact ⟨rfl,rfl⟩,fun h=>absurd h (by omega)⟩
 ·have hb:Nat.beq m i=false:=by
   cases hb:Nat.beq m i with
   | true=>exact absurd (Nat.eq_of_beq_eq_true hb) e
   | false=>rfl
  rw [hb];refine ⟨some ⟨b,i,bif full then none else sp⟩,m-i,?_,fun _=>rfl⟩;show R.ok (Value.slice (some ⟨b,Nat.add 0 (Nat.mul i 1),bif full then none else sp⟩) (Nat.sub j i) (Nat.sub m i))=_;have e1:Nat.add 0 (Nat.mul i 1)=i:=by show 0+i*1=i; omega
  rw [e1];rfl
theorem zL4 {h:Hp} {nx:Nat} {v:Value} {l:List Int} (C:Col h nx v l) {i j:Nat} (h1:i≤j) (h2:j≤l.length) {mx:Option Value} (hmx:mx=none∨mx=some (.int .i64 (j:Int))) :
  ∃ w,vSl 1 v (some (.int .i64 (i:Int))) (some (.int .i64 (j:Int))) mx = .ok w∧SlI h nx w ((l.drop i).take (j-i)):=by
 obtain ⟨bo,hW,hb⟩:=C;rcases hW with ⟨rfl,rfl,rfl⟩ | ⟨b,rfl,rfl,hg⟩
 ·have hj:j=0:=by simpa using h2
  subst hj;have hi:i=0:=by omega
  subst hi;refine ⟨.slice none 0 0,?_,⟨none,0,by simp,fun h=>absurd (by simp) h⟩⟩;rcases hmx with rfl | rfl <;> rfl
 ·have hlen:((l.drop i).take (j-i)).length=j-i:=by rw [List.length_take,List.length_drop]; omega
  have fin:∀ (full:Bool) (m:Nat) (a':Option Addr) (cc:Nat),(i<j→a'=some ⟨b,i,bif full then none else some 1⟩)→SlI h nx (.slice a' (j-i) cc) ((l.drop i).take (j-i)):=fun full m a' cc ha=>by
   refine ⟨a',cc,by rw [hlen],fun hne=>?_⟩;have hij:i<j:=by
    have:=List.length_pos_iff.2 hne;omega
   refine ⟨b,i,_,false,_,hb b rfl,ha hij,hg,fun k x hx=>?_⟩;have hk:=(List.getElem?_eq_some_iff.1 hx).1;rw [hlen] at hk;rw [List.getElem?_take,if_pos hk,List.getElem?_drop] at hx;rw [zS];exact zO hx
  rcases hmx with rfl | rfl
  ·obtain ⟨a',cc,e,ha⟩:=sl_mx (b:=b) (sp:=some 1) h1 h2 (by simp) false (m:=l.length) rfl;exact ⟨_,e,fin false l.length a' _ ha⟩
  ·obtain ⟨a',cc,e,ha⟩:=sl_mx (b:=b) (sp:=some 1) h1 h2 (by simp) true (m:=j) rfl;exact ⟨_,e,fin true j a' _ ha⟩
theorem cswithin_c {s:Bool} {n m:Int} {h:Hp} {nx:Nat}:Cv Q O s 232 [.int .i64 n,.int .i64 m] h nx (zCd (.bool (inB n m)) nx h):=by
 refine zRm ?_;unfold zNJ bF iV;simp (disch:=omega) only [SS,seval];refine ⟨fun h0=>?_,fun h0=>by rw [zGa (by omega)]; exact ⟨rfl,rfl,rfl⟩⟩
 by_cases h1:m<n
 ·rw [decide_eq_true h1,zGa (by omega)]; exact ⟨rfl,rfl,rfl⟩
 ·rw [decide_eq_false h1,zEY (by omega)]; exact ⟨rfl,rfl,rfl⟩
theorem zSH {s:Bool} {n m:Int} {h:Hp} {nx:Nat}:Cv Q O s 311 [.int .i64 n,.int .i64 m] h nx (zCd (.bool (decide (n<m))) nx h):=by
 have nan:∀ {n:Int} {K:KC'},K (.bool false) h nx→Cv Q O s 367 [.int .i64 n] h nx K:=fun {n K} hk=>by
  refine isnanv ?_;unfold isnan bF;simp (disch:=omega) only [SS,beq_self_eq_true,seval];exact hk
 refine cmplessv ?_;unfold zSI bF cF;refine nan ?_;simp (disch:=omega) only [SS,seval];exact ⟨rfl,rfl,rfl⟩
def CrJ (va:Value) (l:List Int) (c:Int) (h:Hp) (nx:Nat) (m:Nat) (vs:List Value) (h':Hp) (nx':Nat):Prop:=∃ i,m=l.length-i∧i≤l.length∧vs=[va,.int .i64 c,.bool false,va,.int .i64 (l.length:Int),.int .i64 (i:Int)]∧h'=h∧nx'=nx
def IsJ (va:Value) (l:List Int) (h:Hp) (nx:Nat) (m:Nat) (vs:List Value) (h':Hp) (nx':Nat):Prop:=∃ k:Int,m=(k+1).toNat∧-1≤k∧k<l.length∧vs=[va,.bool false,.int .i64 k]∧h'=h∧nx'=nx
theorem csrow_c {s:Bool} {c:Nat} {l:List Int} {v:Value} {h:Hp} {nx:Nat} (hv:SlI h nx v l) (hl:l.length≤1000) (hc:c≤4096) (hr:∀ x∈l,0≤x∧x<(c:Int)) (hu:∀ (i:Nat) (x y:Int),l[i]? = some x→l[i+1]? = some y→x<y) :
  Cv Q O s 234 [v,.int .i64 (c:Int)] h nx (zCd (.bool true) nx h):=by
 refine csrowv ?_;obtain ⟨a,cap,rfl,_⟩:=id hv;unfold csrow iV nF;simp (disch:=omega) only [SS,seval];refine Lp.mk (CrJ (.slice a l.length cap) l c h nx) l.length ⟨0,rfl,by omega,rfl,rfl,rfl⟩ ?_;rintro _ _ _ _ ⟨i,rfl,hi,rfl,rfl,rfl⟩;rw [csrowb0];unfold zRo bF cF iV lF xF;simp (disch:=omega) only [SS,seval];refine ⟨fun hlt=>?_,fun hge=>⟨rfl,rfl,rfl⟩⟩;obtain ⟨x,hx⟩:=zY hlt;obtain ⟨b,o,sp,ro,cs,hb,rfl,hg,hcs⟩:=hv.at hx;obtain ⟨hx0,hx1⟩:=hr x (List.mem_of_getElem? hx);have w0:IntKind.wrap .i64 ((c:Int)-1)=(c:Int)-1:=zAf (by omega) (by omega);simp (disch:=omega) only [SS,hg,hcs i x hx,w0,seval];refine cswithin_c.mono ?_;rintro r h1 n1 ⟨rfl,rfl,rfl⟩;rw [zEY ⟨hx0,by omega⟩];simp (disch:=omega) only [SS,seval];refine ⟨fun hpos=>?_,fun hz=>?_⟩
 ·obtain ⟨y,hy⟩:=zY (l:=l) (i:=i-1) (by omega);have w1:IntKind.wrap .i64 ((i:Int)-1)=((i-1:Nat):Int):=by
   rw [show (i:Int)-1=((i-1:Nat):Int) by omega]; exact zAf (by omega) (by omega)
  have hyx:=hu (i-1) y x hy (by rw [show i-1+1=i by omega]; exact hx);simp (disch:=omega) only [SS,w1,hg,hcs (i-1) y hy,zI (show i<1000000000000 by omega),seval];exact ⟨fun h=>absurd hyx h,fun _=>⟨l.length-(i+1),by omega,i+1,rfl,by omega,rfl,rfl,rfl⟩⟩
 ·simp (disch:=omega) only [SS,zI (show i<1000000000000 by omega),seval];exact ⟨l.length-(i+1),by omega,i+1,rfl,by omega,rfl,rfl,rfl⟩
theorem zOO {s:Bool} {l:List Int} {b n cap:Nat} {sp:Option Nat} {ro:Bool} {h:Hp} {nx:Nat} (hn:n=l.length) (hg:hget h b=some (.cells (ints l) ro)) (hl:l.length≤100000) (hu:∀ (i:Nat) (x y:Int),l[i]? = some x→l[i+1]? = some y→x≤y) :
  Cv Q O s 233 [.slice (some ⟨b,0,sp⟩) n cap] h nx (zCd (.bool true) nx h):=by
 subst hn;refine zRL ?_;unfold zMr bF iV nF;simp (disch:=omega) only [SS,seval];have w0:IntKind.wrap .i64 ((l.length:Int)-1)=(l.length:Int)-1:=zAf (by omega) (by omega);rw [w0];refine Lp.mk (IsJ (.slice (some ⟨b,0,sp⟩) l.length cap) l h nx) l.length ⟨(l.length:Int)-1,by omega,by omega,by omega,rfl,rfl,rfl⟩ ?_;rintro _ _ _ _ ⟨k,rfl,hk0,hk1,rfl,rfl,rfl⟩;rw [zON];unfold zHc bF dF iV lF xF;simp (disch:=omega) only [SS,seval];refine ⟨fun hpos=>?_,fun hz=>⟨rfl,rfl,rfl⟩⟩;obtain ⟨i,rfl⟩:∃ i:Nat,k=((i+1:Nat):Int):=⟨(k-1).toNat,by omega⟩
 obtain ⟨x,hx⟩:=zY (l:=l) (i:=i+1) (by omega);obtain ⟨y,hy⟩:=zY (l:=l) (i:=i) (by omega);have w1:IntKind.wrap .i64 (((i+1:Nat):Int)-1)=(i:Int):=by
  rw [show ((i+1:Nat):Int)-1=(i:Int) by omega]; exact zAf (by omega) (by omega)
 have hyx:=hu i y x hy hx;simp (disch:=omega) only [SS,w1,hg,zO hx,zO hy,seval];refine (zSH (s:=true)).mono ?_;rintro r h1 n1 ⟨rfl,rfl,rfl⟩;rw [decide_eq_false (show ¬ x<y by omega)];refine ⟨Nat.le_refl _,?_⟩;simp (disch:=omega) only [SS,w1,seval];exact ⟨_,by omega,(i:Int),rfl,by omega,by omega,rfl,rfl,rfl⟩
theorem zP0 (ts:List GE) (i j:Nat):((tsT ts).drop i).take j=tsT ((ts.drop i).take j):=by unfold tsT; rw [List.map_take,List.map_drop]
theorem tsW_cut (ts:List GE) (i j:Nat):((tsW ts).drop i).take j=tsW ((ts.drop i).take j):=by unfold tsW; rw [List.map_take,List.map_drop]
theorem zCW {ts:List GE} {i:Nat} {g:GE} (h:ts[i]? = some g):(tsT ts)[i]? = some (g.t:Int):=by unfold tsT; rw [List.getElem?_map,h]; rfl
theorem zEf {ts:List GE} {i:Nat} {g:GE} (h:ts[i]? = some g):(tsW ts)[i]? = some g.w:=by unfold tsW; rw [List.getElem?_map,h]; rfl
theorem tsT_of {ts:List GE} {i:Nat} {x:Int} (h:(tsT ts)[i]? = some x):∃ g,ts[i]? = some g∧x=(g.t:Int):=by
 unfold tsT at h;rw [List.getElem?_map] at h;obtain ⟨g,h1,h2⟩:=Option.map_eq_some_iff.1 h;exact ⟨g,h1,h2.symm⟩
theorem zFa {ts:List GE} {i:Nat} {g:GE} (h:g∈rowT ts i):g∈ts∧g.f=i:=by
 unfold rowT at h;exact ⟨(List.mem_filter.1 h).1,of_decide_eq_true (List.mem_filter.1 h).2⟩
theorem zKc (ts:List GE) (i:Nat):(rowT ts i).length≤ts.length:=List.length_filter_le _ _
def CtJ (p r:Nat) (h0:Hp) (n0:Nat) (m:Nat) (vs:List Value) (h':Hp) (nx':Nat):Prop:=∃ i,m=r-i∧i≤r∧vs=[.pointer (some ⟨p,0,none⟩),.bool false,.int .i64 (r:Int),.int .i64 (i:Int)]∧h'=h0∧nx'=n0
theorem zGp {s:Bool} {r c:Nat} {ts:List GE} {v:Value} {h:Hp} {nx:Nat} (M:MOk r c ts) (hv:RowsIs h nx v r c ts):Cv Q O s 133 [v] h nx (EqK (.bool true) nx h):=by
 refine csrightv ?_;obtain ⟨b,sp,cap,v2,v3,rfl,hb,hg,C2,C3⟩:=id hv;obtain ⟨a2,c2,rfl⟩:=C2.form;obtain ⟨a3,c3,rfl⟩:=C3.form;have hr:=M.hr;have hc:=M.hc;have hl:=M.len;have eT:=zCe ts;have eW:=zD9 ts;have K0:∀ {o},Keep nx h (hset h nx o):=(Keep.refl _ _).set (Nat.le_refl _);unfold zRr aF bF cF iV lF nF pC;simp (disch:=omega) only [SS,seval];refine cswithin_c.mono ?_;rintro _ _ _ ⟨rfl,rfl,rfl⟩;rw [zEY (show 0≤(r:Int)∧(r:Int)≤4096 by omega)];simp (disch:=omega) only [SS,seval];refine cswithin_c.mono ?_;rintro _ _ _ ⟨rfl,rfl,rfl⟩;rw [zEY (show 0≤(c:Int)∧(c:Int)≤4096 by omega)];simp (disch:=omega) only [SS,zI (show r<1000000000000 by omega),show (((r+1:Nat):Int) == ((r+1:Nat):Int))=true from beq_self_eq_true _,show (((tsW ts).length:Int) == ((tsT ts).length:Int))=true by rw [eT,eW]; exact beq_self_eq_true _,seval];rw [show decide ((65536:Int)<((tsT ts).length:Int))=false from decide_eq_false (by omega)];unfold zCR aF bF cF iV lF xF;have s0:(stL ts r)[0]? = some 0:=by rw [zAv (Nat.zero_le _),zP8]; rfl
 have sr:(stL ts r)[r]? = some ((tsT ts).length:Int):=by rw [zAv (Nat.le_refl _),stf_r M,eT]
 simp (disch:=omega) only [SS,hg,zO s0,zO sr,show (((tsT ts).length:Int) == ((tsT ts).length:Int))=true from beq_self_eq_true _,seval];refine (zOO (l:=stL ts r) (zK5 ts r).symm (by rw [hold (by omega)]; exact hg) (by rw [zK5]; omega) fun i x y hx hy=>?_).mono ?_
 ·have hi:=(List.getElem?_eq_some_iff.1 hy).1;rw [zK5] at hi;rw [zAv (by omega)] at hx hy;cases hx; cases hy;have:=zCX ts (show i≤i+1 by omega);omega
 rintro _ _ _ ⟨rfl,rfl,rfl⟩;simp (disch:=omega) only [SS,seval];unfold zE6 aF iV lF;simp (disch:=omega) only [SS,seval];refine Lp.mk (CtJ nx r (hset h nx (.cells [.int .i64 (r:Int),.int .i64 (c:Int),.slice (some ⟨b,0,sp⟩) (r+1) cap,.slice a2 (tsT ts).length c2,.slice a3 (tsW ts).length c3] false)) (nx+1)) r ⟨0,rfl,by omega,rfl,rfl,rfl⟩ ?_;rintro _ _ _ _ ⟨i,rfl,hi,rfl,rfl,rfl⟩;rw [zRq];unfold zKD aF bF dF iV lF xF;simp (disch:=omega) only [SS,seval];refine ⟨fun hlt=>?_,fun hge=>⟨rfl,K0,by omega⟩⟩;have hlt:i<r:=by omega
 have si:(stL ts r)[i]? = some (stf ts i:Int):=zAv (by omega);have si1:(stL ts r)[i+1]? = some (stf ts (i+1):Int):=zAv (by omega);obtain ⟨w,hw,hI⟩:=zL4 C2 (zCX ts (show i≤i+1 by omega)) (by rw [eT]; exact zFJ _ _) (.inl rfl);rw [zP0,zGG M.up] at hI;simp (disch:=omega) only [SS,hg,zO si,zO si1,zI (show i<1000000000000 by omega),hw,seval];have hrl:=zKc ts i;refine (csrow_c (s:=true) (c:=c) (hI.keep K0 (Nat.le_succ _)) (by rw [zCe]; omega) hc (fun x hx=>?_) fun k x y hx hy=>?_).mono ?_
 ·unfold tsT at hx;obtain ⟨g,hgm,rfl⟩:=List.mem_map.1 hx;have:=M.cols g (zFa hgm).1;omega
 ·obtain ⟨g,hg1,rfl⟩:=tsT_of hx;obtain ⟨g',hg2,rfl⟩:=tsT_of hy;have h1:=(List.getElem?_eq_some_iff.1 hg1)
  have h2:=(List.getElem?_eq_some_iff.1 hg2)
  have:=List.pairwise_iff_getElem.1 (zPn M.up i) k (k+1) h1.1 h2.1 (by omega);rw [h1.2,h2.2] at this;omega
 rintro _ _ _ ⟨rfl,rfl,rfl⟩;refine ⟨Nat.le_refl _,?_⟩;simp (disch:=omega) only [SS,zI (show i<1000000000000 by omega),seval];exact ⟨r-(i+1),by omega,i+1,rfl,by omega,rfl,rfl,rfl⟩
theorem zFp {s:Bool} {r c:Nat} {ts:List GE} {v:Value} {h:Hp} {nx:Nat} (M:MOk r c ts) (hv:RowsIs h nx v r c ts):Cv Q O s 236 [v] h nx (EqK v nx h):=by
 refine cssurev ?_;have hv0:=hv;obtain ⟨b,sp,cap,v2,v3,rfl,hb,hg,C2,C3⟩:=id hv;obtain ⟨a2,c2,rfl⟩:=C2.form;obtain ⟨a3,c3,rfl⟩:=C3.form;unfold cssure cF iV lA nC nS pC;have K0:∀ {o o'},Keep nx h (hset (hset h nx o) (nx+1) o'):=((Keep.refl _ _).set (Nat.le_refl _)).set (Nat.le_succ _);simp (disch:=omega) only [SS,seval];refine (zGp M (hv0.keep K0 (by omega))).mono ?_;rintro _ h1 n1 ⟨rfl,hk1,hle1⟩;have g0:=hk1 nx (by omega);rw [hold (by omega),hnew] at g0;have g1:=hk1 (nx+1) (by omega);rw [hnew] at g1;simp (disch:=omega) only [SS,g0,g1,seval];exact ⟨rfl,(K0.trans hk1 (by omega)).set (by omega),by omega⟩
def PartQ (ts:List GE) (i B:Nat) (nx:Nat) (h:Hp):KC':=fun res h' nx'=>∃ w2 w3,res = .tuple ⟨[w2,w3]⟩∧SlI h' B w2 (tsT (rowT ts i))∧SlI h' B w3 (tsW (rowT ts i))∧Keep nx h h'∧nx≤nx'
theorem zNL {s:Bool} {r c i B:Nat} {ts:List GE} {v:Value} {h:Hp} {nx:Nat} (M:MOk r c ts) (hv:RowsIs h B v r c ts) (hB:B≤nx) (hi:i<r):Cv Q O s 239 [v,.int .i64 (i:Int)] h nx (PartQ ts i B nx h):=by
 refine cspartv ?_;obtain ⟨b,sp,cap,v2,v3,rfl,hb,hg,C2,C3⟩:=id hv;obtain ⟨a2,c2,rfl⟩:=C2.form;obtain ⟨a3,c3,rfl⟩:=C3.form;have hr:=M.hr;have K0:∀ {o},Keep nx h (hset h nx o):=(Keep.refl _ _).set (Nat.le_refl _);have si:(stL ts r)[i]? = some (stf ts i:Int):=zAv (by omega);have si1:(stL ts r)[i+1]? = some (stf ts (i+1):Int):=zAv (by omega);obtain ⟨w2,hw2,hI2⟩:=zL4 C2 (zCX ts (show i≤i+1 by omega)) (by rw [zCe]; exact zFJ _ _) (.inr rfl);obtain ⟨w3,hw3,hI3⟩:=zL4 C3 (zCX ts (show i≤i+1 by omega)) (by rw [zD9]; exact zFJ _ _) (.inr rfl);rw [zP0,zGG M.up] at hI2;rw [tsW_cut,zGG M.up] at hI3;unfold cspart aF bF iV lF pC xF;simp (disch:=omega) only [SS,hg,zO si,zO si1,zI (show i<1000000000000 by omega),hw2,hw3,seval];exact ⟨w2,w3,rfl,hI2.keep (K0.mono hB) (Nat.le_refl _),hI3.keep (K0.mono hB) (Nat.le_refl _),K0,by omega⟩
def zRd (g:GE):List Value:=[.int .i64 (g.t:Int),.int .i64 g.w]
def RwJ (va vb:Value) (l:List GE) (h0:Hp) (n0:Nat) (m:Nat) (vs:List Value) (h':Hp) (nx':Nat):Prop :=
 ∃ (k:Nat) (o:Value),m=l.length-k∧k≤l.length∧vs=[o,vb,va,.int .i64 (l.length:Int),.int .i64 (k:Int)]∧SlAt h' o zRd 2 (l.take k) n0 nx'∧Keep n0 h0 h'∧n0≤nx'
def RowK (ts:List GE) (i:Nat) (nx:Nat) (h:Hp):KC':=fun res h' nx'=>SlAt h' res zRd 2 (rowT ts i) nx nx'∧Keep nx h h'∧nx≤nx'
theorem csRow_c {s:Bool} {r c i:Nat} {ts:List GE} {v:Value} {h:Hp} {nx:Nat} (M:MOk r c ts) (hv:RowsIs h nx v r c ts) (hi:i<r):Cv Q O s 238 [v,.int .i64 (i:Int)] h nx (RowK ts i nx h):=by
 refine csRowv ?_;have hv0:=hv;obtain ⟨b,sp,cap,v2,v3,rfl,hb,hg,C2,C3⟩:=id hv;obtain ⟨a2,c2,rfl⟩:=C2.form;obtain ⟨a3,c3,rfl⟩:=C3.form;have hr:=M.hr;have hl:=M.len;have hrl:=zKc ts i;unfold csRow aF bF cF iV lA lF nF nS pC;have K0:∀ {o},Keep nx h (hset h nx o):=(Keep.refl _ _).set (Nat.le_refl _);simp (disch:=omega) only [SS,seval];refine (zFp M (hv0.keep K0 (by omega))).mono ?_;rintro _ h1 n1 ⟨rfl,hk1,hle1⟩;have K1:Keep nx h h1:=K0.trans hk1 (by omega);have g1:=hk1 nx (by omega);rw [hnew] at g1;have w0:IntKind.wrap .i64 ((r:Int)-1)=(r:Int)-1:=zAf (by omega) (by omega);simp (disch:=omega) only [SS,g1,w0,seval];refine cswithin_c.mono ?_;rintro _ _ _ ⟨rfl,rfl,rfl⟩;rw [zEY (show 0≤(i:Int)∧(i:Int)≤(r:Int)-1 by omega)];simp (disch:=omega) only [SS,seval];have K2:∀ {o},Keep nx h (hset h1 nx o):=K1.set (Nat.le_refl _);refine (zNL M (hv0.keep K2 (Nat.le_refl _)) (by omega) hi).mono ?_;rintro _ h3 n3 ⟨w2,w3,rfl,I2,I3,hk3,hle3⟩;have K3:Keep nx h h3:=K2.trans hk3 (by omega);obtain ⟨x2,y2,rfl,_⟩:=id I2;obtain ⟨x3,y3,rfl,_⟩:=id I3;have eT:=zCe (rowT ts i);have eW:=zD9 (rowT ts i);rw [eT] at I2;rw [eW] at I3;rw [eT,eW];simp (disch:=omega) only [SS,seval];refine Lp.mk (RwJ (.slice x2 (rowT ts i).length y2) (.slice x3 (rowT ts i).length y3) (rowT ts i) h3 n3) (rowT ts i).length ⟨0,_,by omega,by omega,rfl,.inl ⟨rfl,rfl⟩,Keep.refl _ _,Nat.le_refl _⟩ ?_;rintro _ _ h4 n4 ⟨k,o,rfl,hk,rfl,hS,hk4,hle4⟩;rw [csRowb0];unfold zRx bF iV lF xF;simp (disch:=omega) only [SS,seval];refine ⟨fun hlt=>?_,fun hge=>?_⟩
 ·have hlt:k<(rowT ts i).length:=by omega
  obtain ⟨g,hgk⟩:=zY hlt;obtain ⟨b2,o2,s2,ro2,cs2,hb2,rfl,hg2,hcs2⟩:=I2.at (zCW hgk)
  obtain ⟨b3,o3,s3,ro3,cs3,hb3,rfl,hg3,hcs3⟩:=I3.at (zEf hgk)
  have e2:=(hk4 b2 (by omega)).trans hg2;have e3:=(hk4 b3 (by omega)).trans hg3;simp (disch:=omega) only [SS,e2,hcs2 k _ (zCW hgk),e3,hcs3 k _ (zEf hgk),seval];refine zBe (enc:=zRd) (lo:=n3) (fun _=>rfl) (fun _=>rfl) (by omega) (hS.keep (fun c h1 h2=>hold (by omega)) (by omega)) (by omega) g (hnew _ _ _) rfl (by rw [List.length_take]; omega) fun v' h5 hS5 hk5=>?_;simp (disch:=omega) only [SS,zI (show k<1000000000000 by omega),seval];refine ⟨(rowT ts i).length-(k+1),by omega,k+1,_,rfl,by omega,rfl,?_,fun c hc=>?_,by omega⟩
  ·rw [List.take_add_one,hgk]; exact hS5
  ·rw [hk5 c hc,hold (by omega)]; exact hk4 c hc
 ·have:k=(rowT ts i).length:=by omega
  subst this;rw [List.take_length] at hS;refine ⟨?_,K3.trans hk4 (by omega),by omega⟩;rcases hS with e | ⟨b,h1,h2,h3⟩
  ·exact .inl e
  ·exact .inr ⟨b,by omega,h2,h3⟩
theorem empty2_c {s:Bool} {r c:Nat} {h:Hp} {nx:Nat} (hr:r≤4096):Cv Q O s 310 [.int .i64 (r:Int),.int .i64 (c:Int)] h nx (fun rr h' nx'=>rr = .agg ⟨[.int .i64 (r:Int),.int .i64 (c:Int),.slice (some ⟨nx+1,0,none⟩) (r+1) (r+1),.slice none 0 0,.slice none 0 0]⟩∧hget h' (nx+1)=some (.cells (ints (List.replicate (r+1) 0)) false)∧Keep nx h h'∧nx'=nx+1+1):=by
 refine emptyv ?_;unfold empty bF iV lA nC nS;have r0:List.replicate (r+1) (Value.int .i64 0)=ints (List.replicate (r+1) 0):=by simp [ints]
 simp (disch:=omega) only [SS,zI (show r<1000000000000 by omega),r0,seval];exact ((Keep.refl _ _).set (Nat.le_refl _)).set (Nat.le_succ _) |>.set (Nat.le_refl _)
def BvJ0 (r c p1 p7 p5 lo:Nat) (vt:Value) (ts:List GE) (h0:Hp) (nx:Nat) (m:Nat) (vs:List Value) (h':Hp) (nx':Nat):Prop :=
 ∃ (i:Nat) (vc vv:Value),m=ts.length-i∧i≤ts.length∧vs=[.int .i64 (r:Int),.pointer (some ⟨p1,0,none⟩),.pointer (some ⟨p7,0,none⟩),vt,.int .i64 (ts.length:Int),.int .i64 (i:Int)] ∧
  hget h' p7=some (.cells [.int .i64 (r:Int),.int .i64 (c:Int),.slice (some ⟨p5,0,none⟩) (r+1) (r+1),vc,vv] false)∧hget h' p5=some (.cells (ints (cntL (ts.take i) r)) false) ∧
  TwoI h' vc vv ((ts.take i).map fun e=>(e.t:Int)) ((ts.take i).map GE.w) lo nx'∧(∀ d,d<lo→d≠p7→d≠p5→hget h' d=hget h0 d)∧lo≤nx'
def BvJ1 (r c p1 p7 p5 lo:Nat) (vc vv:Value) (ts:List GE) (h0:Hp) (nx:Nat) (m:Nat) (vs:List Value) (h':Hp) (nx':Nat):Prop :=
 ∃ (i:Nat),m=r-i∧i≤r∧vs=[.pointer (some ⟨p1,0,none⟩),.pointer (some ⟨p7,0,none⟩),.int .i64 (r:Int),.int .i64 (i:Int)] ∧
  hget h' p7=some (.cells [.int .i64 (r:Int),.int .i64 (c:Int),.slice (some ⟨p5,0,none⟩) (r+1) (r+1),vc,vv] false)∧hget h' p5=some (.cells (ints (psL ts r i)) false) ∧
  (∀ d,d≠p5→hget h' d=hget h0 d)∧nx'=nx
def zEe (r c:Nat) (ts:List GE) (nx:Nat) (h:Hp):KC':=fun v h' nx'=>RowsNw h' nx nx' v r c ts∧Keep nx h h'∧nx≤nx'
theorem zIt {s:Bool} {r c:Nat} {ts:List GE} {v:Value} {h:Hp} {nx:Nat} (hv:SlPx h nx v encG ts) (M:MOk r c ts) :
  Cv Q O s 231 [.int .i64 (r:Int),.int .i64 (c:Int),v] h nx (zEe r c ts nx h):=by
 refine builtv ?_;obtain ⟨a,cap,rfl,hcv⟩:=id hv;have hr:=M.hr;have hc:=M.hc;have hl:=M.len;unfold built cF iV lA nC nF nS;simp (disch:=omega) only [SS,seval];refine (empty2_c (r:=r) (c:=c) hr).mono ?_;rintro rr h1 _ ⟨rfl,hb1,hk1,rfl⟩;have g0:=hk1 nx (by omega);rw [hnew] at g0;simp (disch:=omega) only [SS,seval];refine Lp.mk (BvJ0 r c nx (nx+1+1+1) (nx+1+1) (nx+1+1+1+1) (.slice a ts.length cap) ts h1 nx) ts.length ⟨0,_,_,rfl,by omega,rfl,hnew _ _ _,by rw [hold (by omega),hold (by omega),List.take_zero,cntL_nil]; exact hb1,.inl ⟨rfl,rfl,rfl,rfl⟩,fun c h1 h2 h3=>by rw [hold h2,hold h2],Nat.le_refl _⟩ ?_;rintro m _ h2 nx2 ⟨i,vc,vv,rfl,hi,rfl,g7,g5,T,hf,hle⟩;obtain ⟨o1,o2,G1,G2,B1,B2⟩:=T.gr;obtain ⟨a1,n1,c1,a2,n2,c2,rfl,rfl⟩:=T.form;rw [zSa];unfold zLi aF bF iV lA lF nC xF;simp (disch:=omega) only [SS,seval];refine ⟨fun hlt=>?_,fun hge=>?_⟩
 ·obtain ⟨e,he⟩:=zY hlt;have hef:e.f<r:=M.rows e (List.mem_of_getElem? he);obtain ⟨_,b,sp,ro,cx,cs,hb,e1,hg⟩:=hv.at he;cases e1;have hg2:=(hf b (by omega) (by omega) (by omega)).trans ((hk1 b (by omega)).trans ((hold (by omega)).trans hg));have hrd:zAL (some 3) (i*3) (flat encG ts++cs) = .ok (.agg ⟨[.int .i64 (e.f:Int),.int .i64 (e.t:Int),.int .i64 e.w]⟩):=rdP (enc:=encG) (k:=3) (fun _=>rfl) he (cs:=cs);have hx:(cntL (ts.take i) r)[e.f+1]? = some (cnt (ts.take i) (e.f+1):Int):=zDd (by omega);have hxb:=cnt_le (ts.take i) (e.f+1);have htl:(ts.take i).length≤120:=by rw [List.length_take]; omega
  have hwx:IntKind.wrap .i64 ((cnt (ts.take i) (e.f+1):Int)+1)=(cnt (ts.take i) (e.f+1):Int)+1:=zAf (by omega) (by omega);simp (disch:=omega) only [SS,hg2,hrd,g7,g5,zI (show e.f<1000000000000 by omega),zO hx,hwx,seval];refine ⟨by unfold cntL; rw [List.length_map,List.length_range]; omega,?_⟩;have hcl:((ts.take i).map fun e=>(e.t:Int)).length=i:=by rw [List.length_map,List.length_take]; omega
  have hvl:((ts.take i).map GE.w).length=i:=by rw [List.length_map,List.length_take]; omega
  refine zBM (G1.keep fun c hc=>by have:=B1 c hc; rw [hold (by omega),hold (by omega),hold (by omega),hold (by omega)]) (hnew _ _ _) (by omega) fun h3 hn3 hf3=>?_;have g73:hget h3 (nx+1+1+1)=some (.cells [.int .i64 (r:Int),.int .i64 (c:Int),.slice (some ⟨nx+1+1,0,none⟩) (r+1) (r+1),.slice a1 n1 c1,.slice a2 n2 c2] false):=by
   rw [hf3 _ (by omega) (fun e=>by have:=B1 _ e; omega),hold (by omega),hold (by omega),hold (by omega),hold (by omega)]; exact g7
  have ge3:hget h3 nx2=some (.cells [.int .i64 (e.f:Int),.int .i64 (e.t:Int),.int .i64 e.w] false):=by
   rw [hf3 _ (by omega) (fun e=>by have:=B1 _ e; omega),hold (by omega),hold (by omega),hnew]
  simp (disch:=omega) only [SS,g73,ge3,seval];refine zBM (G2.keep fun c hc=>?_) (hnew _ _ _) (by omega) fun h4 hn4 hf4=>?_
  ·have:=B2 c hc;rw [hold (by omega),hold (by omega),hf3 c (by omega) (fun e=>(B1 c e).2.2 hc),hold (by omega),hold (by omega),hold (by omega),hold (by omega)]
  have g74:hget h4 (nx+1+1+1)=some (.cells [.int .i64 (r:Int),.int .i64 (c:Int),.slice (some ⟨nx+1+1,0,none⟩) (r+1) (r+1),.slice (some ⟨nx2+1+1,0,some 1⟩) (((ts.take i).map fun e=>(e.t:Int)).length+1) (((ts.take i).map fun e=>(e.t:Int)).length+1),.slice a2 n2 c2] false):=by
   rw [hf4 _ (by omega) (fun e=>by have:=B2 _ e; omega),hold (by omega),hnew]
  simp (disch:=omega) only [SS,g74,seval];have htk:ts.take (i+1)=ts.take i++[e]:=by rw [List.take_add_one,he]; rfl
  have hfr:∀ c,c<nx+1+1+1+1→c≠nx+1+1+1→c≠nx+1+1→hget h4 c=hget h2 c:=fun c h1 h2 h3=>by
   rw [hf4 c (by omega) (fun e=>by have:=B2 _ e; omega),hold (by omega),hold (by omega),hf3 c (by omega) (fun e=>by have:=B1 _ e; omega),hold (by omega),hold (by omega),hold (by omega),hold (by omega)]
  refine ⟨ts.length-(i+1),by omega,i+1,_,_,rfl,by omega,by rw [zI (by omega)],hnew _ _ _,?_,.inr ⟨nx2+1+1,nx2+1+1+1+1,by omega,by omega,by omega,by omega,by omega,?_,?_,?_,?_⟩,fun d h1 h2 h3=>?_,by omega⟩
  ·rw [hold (by omega),hf4 _ (by omega) (fun e=>by have:=B2 _ e; omega),hold (by omega),hold (by omega),hf3 _ (by omega) (fun e=>by have:=B1 _ e; omega),hold (by omega),hnew,cntL_set hef,htk]
  ·rw [htk,List.map_append,List.length_append]; rfl
  ·rw [htk,List.map_append,List.length_append]; rfl
  ·rw [hold (by omega),hf4 _ (by omega) (fun e=>by have:=B2 _ e; omega),hold (by omega),hold (by omega),hn3,htk,List.map_append]; rfl
  ·rw [hold (by omega),hn4,htk,List.map_append]; rfl
  ·rw [hold h2,hfr d h1 h2 h3]; exact hf d h1 h2 h3
 ·obtain ⟨T1,T2⟩:=T.nw;have hie:i=ts.length:=by omega
  subst hie;rw [List.take_length] at T1 T2 T g5;have hlo:=hle;refine Lp.mk (BvJ1 r c nx (nx+1+1+1) (nx+1+1) (nx+1+1+1+1) (.slice a1 n1 c1) (.slice a2 n2 c2) ts h2 nx2) r ⟨0,rfl,by omega,rfl,g7,by rw [psL_0]; exact g5,fun _ _=>rfl,rfl⟩ ?_;clear G1 G2 B1 B2 g5;rintro m _ h3 nx3 ⟨k,rfl,hk,rfl,_,g5,hf3,rfl⟩;have g7:=(hf3 (nx+1+1+1) (by omega)).trans g7;rw [zS9];unfold zLh aF bF iV lF xF
  by_cases hkN:k<r
  ·have hx:=psL_get1 (ts:=ts) hkN;have hy:=psL_get0 (ts:=ts) hkN;have hxb:=cnt_le ts (k+1);have hyb:=zFJ ts k;have hwx:IntKind.wrap .i64 ((cnt ts (k+1):Int)+(stf ts k:Int))=(cnt ts (k+1):Int)+(stf ts k:Int):=zAf (by omega) (by omega);simp (disch:=omega) only [SS,show (k:Int)<(r:Int) by omega,hkN,g7,g5,zI (show k<1000000000000 by omega),zO hx,zO hy,hwx,seval];refine ⟨⟨by rw [psL_len]; omega,?_⟩,fun h=>absurd trivial h⟩;refine ⟨r-(k+1),by omega,k+1,rfl,by omega,rfl,?_,?_,fun d h3=>by rw [hold h3]; exact hf3 d h3,rfl⟩
   ·rw [hold (by omega)]; exact g7
   ·rw [hnew,psL_set hkN]
  ·have:k=r:=by omega
   subst this;have gp:=(hf3 nx (by omega)).trans ((hf nx (by omega) (by omega) (by omega)).trans g0);simp (disch:=omega) only [SS,g7,gp,seval];rw [psL_r] at g5;have C2:ColN (hset h3 nx (.cells [.int .i64 (k:Int),.int .i64 (c:Int),.slice (some ⟨nx+1+1,0,none⟩) (k+1) (k+1),.slice a1 n1 c1,.slice a2 n2 c2] false)) nx nx3 (.slice a1 n1 c1) (tsT ts)∧ColN (hset h3 nx (.cells [.int .i64 (k:Int),.int .i64 (c:Int),.slice (some ⟨nx+1+1,0,none⟩) (k+1) (k+1),.slice a1 n1 c1,.slice a2 n2 c2] false)) nx nx3 (.slice a2 n2 c2) (tsW ts):=by
    rcases T with ⟨e1,e2,e3,e4⟩ | ⟨b1,b2,hne,x1,x2,x3,x4,e3,e4,y1,y2⟩
    ·exact ⟨⟨none,.inl ⟨e1,e3,rfl⟩,fun c e=>by cases e⟩,⟨none,.inl ⟨e2,e4,rfl⟩,fun c e=>by cases e⟩⟩
    ·refine ⟨⟨some b1,.inr ⟨b1,rfl,e3,?_⟩,fun c e=>by cases e; omega⟩,⟨some b2,.inr ⟨b2,rfl,e4,?_⟩,fun c e=>by cases e; omega⟩⟩
     ·rw [hold (by omega),hf3 b1 (by omega),zS]; exact y1
     ·rw [hold (by omega),hf3 b2 (by omega),zS]; exact y2
   refine ⟨fun h=>absurd h (by omega),fun _=>⟨⟨nx+1+1,none,k+1,_,_,rfl,by omega,by omega,?_,C2.1,C2.2⟩,fun d hd=>?_,by omega⟩⟩
   ·rw [hold (by omega)]; exact g5
   ·rw [hold (by omega),hf3 d (by omega),hf d (by omega) (by omega) (by omega),hk1 d (by omega),hold (by omega)]
theorem ptside_c {s:Bool} {k:Int} {h:Hp} {nx:Nat}:Cv Q O s 208 [.int .i64 k] h nx (zCd (.bool (inB (k-1) 7)) nx h):=by
 refine zQ1 ?_;unfold zQ3 bF iV;simp (disch:=omega) only [SS,seval];refine ⟨fun h0=>?_,fun h0=>by rw [zGa (by omega)]; exact ⟨rfl,rfl,rfl⟩⟩
 by_cases h1:8<k
 ·rw [decide_eq_true h1,zGa (by omega)]; exact ⟨rfl,rfl,rfl⟩
 ·rw [decide_eq_false h1,zEY (by omega)]; exact ⟨rfl,rfl,rfl⟩
theorem bside_c {s:Bool} {k:Int} {h:Hp} {nx:Nat}:Cv Q O s 235 [.int .i64 k] h nx (zCd (.bool (inB (k-1) 7)) nx h):=by
 refine bsidev ?_;unfold bside bF iV;simp (disch:=omega) only [SS,seval];refine ⟨fun h0=>?_,fun h0=>by rw [zGa (by omega)]; exact ⟨rfl,rfl,rfl⟩⟩
 by_cases h1:8<k
 ·rw [decide_eq_true h1,zGa (by omega)]; exact ⟨rfl,rfl,rfl⟩
 ·rw [decide_eq_false h1,zEY (by omega)]; exact ⟨rfl,rfl,rfl⟩
theorem zIQ {s:Bool} {n k i:Nat} {h:Hp} {nx:Nat} (hn:n≤4096) (hk:0<k) (hk8:k≤8) (hi:i≤100000):Cv Q O s 55 [.int .i64 (n:Int),.int .i64 (k:Int),.int .i64 (i:Int)] h nx (zCd (.int .i64 (lowN n k i:Int)) nx h):=by
 refine ptlowv ?_;unfold ptlow bF cF iV;refine ptmayv ?_;unfold ptmay bF cF iV;simp (disch:=omega) only [SS,seval];refine ⟨fun _=>⟨fun _=>?_,fun h=>absurd h (by omega)⟩,fun h=>absurd h (by omega)⟩;refine ptside_c.mono ?_;rintro _ _ _ ⟨rfl,rfl,rfl⟩;rw [zEY (show 0≤(k:Int)-1∧(k:Int)-1≤7 by omega)];have e1:min (max (i:Int) 0) (k:Int)=((min i k:Nat):Int):=by omega
 have hm:min i k*n≤8*4096:=Nat.mul_le_mul (by omega) hn;have e2:IntKind.wrap .i64 (((min i k:Nat):Int)*(n:Int))=((min i k*n:Nat):Int):=by
  rw [show ((min i k:Nat):Int)*(n:Int)=((min i k*n:Nat):Int) by rw [Int.natCast_mul]]; exact zAf (by omega) (by omega)
 have hd:min i k*n / k≤min i k*n:=Nat.div_le_self _ _;have e3:bin Q .quo 3 (.int .i64 ((min i k*n:Nat):Int)) (.int .i64 (k:Int)) = .ok (.int .i64 (lowN n k i:Int)):=by
  rw [zIv (by omega),show ((min i k*n:Nat):Int).tdiv (k:Int)=((min i k*n / k:Nat):Int) from rfl];unfold lowN;generalize min i k*n / k=q at hd ⊢;rw [zAf (by omega) (by omega)]
 simp (disch:=omega) only [SS,e1,zFF,e2,e3,seval];exact ⟨rfl,rfl,rfl⟩
theorem bgrid_c {s:Bool} {r c i j:Nat} {h:Hp} {nx:Nat} (hr:0<r) (hr8:r≤8) (hc:0<c) (hc8:c≤8) (hi:i<r) (hj:j<c):Cv Q O s 134 [.int .i64 (r:Int),.int .i64 (c:Int),.int .i64 (i:Int),.int .i64 (j:Int)] h nx (zCd (.bool true) nx h):=by
 refine bgridv ?_;unfold bgrid bF cF iV;refine bside_c.mono ?_;rintro _ _ _ ⟨rfl,rfl,rfl⟩;rw [zEY (show 0≤(r:Int)-1∧(r:Int)-1≤7 by omega)];simp (disch:=omega) only [SS,seval];refine bside_c.mono ?_;rintro _ _ _ ⟨rfl,rfl,rfl⟩;rw [zEY (show 0≤(c:Int)-1∧(c:Int)-1≤7 by omega)];simp (disch:=omega) only [SS,seval];exact ⟨fun _=>⟨fun _=>⟨fun _=>⟨by rw [decide_eq_true (by omega)],rfl,rfl⟩,fun h=>absurd h (by omega)⟩,fun h=>absurd h (by omega)⟩,fun h=>absurd h (by omega)⟩
theorem zKV {s:Bool} {n k i:Nat} {h:Hp} {nx:Nat} (hn:n≤4096) (hk:0<k) (hk8:k≤8) (hi:i≤10000):Cv Q O s 136 [.int .i64 (n:Int),.int .i64 (k:Int),.int .i64 (i:Int)] h nx (EqK (.agg ⟨[.int .i64 (lowN n k i:Int),.int .i64 (lowN n k (i+1):Int)]⟩) nx h):=by
 refine bboundsv ?_;unfold zSh bF cF iV lA nC;simp (disch:=omega) only [SS,seval];refine (zIQ hn hk hk8 (by omega)).mono ?_;rintro _ _ _ ⟨rfl,rfl,rfl⟩;simp (disch:=omega) only [SS,zI (show i<1000000000000 by omega),seval];refine (zIQ hn hk hk8 (by omega)).mono ?_;rintro _ _ _ ⟨rfl,rfl,rfl⟩;simp (disch:=omega) only [SS,seval];exact ⟨rfl,((Keep.refl _ _).set (Nat.le_refl _)).set (Nat.le_refl _),by omega⟩
theorem zHk {s:Bool} {a b n:Nat} {h:Hp} {nx:Nat} (hab:a≤b) (hbn:b≤n) (hn:n≤4096):Cv Q O s 237 [.agg ⟨[.int .i64 (a:Int),.int .i64 (b:Int)]⟩,.int .i64 (n:Int)] h nx (EqK (.tuple ⟨[.int .i64 (a:Int),.int .i64 ((b-a:Nat):Int)]⟩) nx h):=by
 refine zRv ?_;unfold zNM bF iV lF pC;have K0:∀ {o},Keep nx h (hset h nx o):=(Keep.refl _ _).set (Nat.le_refl _);simp (disch:=omega) only [SS,show max (a:Int) 0=(a:Int) by omega,show min (b:Int) (n:Int)=(b:Int) by omega,seval];refine ⟨fun h0=>?_,fun h0=>?_⟩
 ·have:b-a=0:=by omega
  rw [this];exact ⟨rfl,K0,by omega⟩
 ·rw [show IntKind.wrap .i64 ((b:Int)-(a:Int))=((b-a:Nat):Int) by rw [show (b:Int)-(a:Int)=((b-a:Nat):Int) by omega]; exact zAf (by omega) (by omega)];exact ⟨rfl,K0,by omega⟩
def SlX {α:Type} (h:Hp) (v:Value) (enc:α→List Value) (k:Nat) (l:List α) (P:Nat→Prop):Prop :=
 (l=[]∧v = .slice none 0 0)∨∃ d,P d∧v = .slice (some ⟨d,0,some k⟩) l.length l.length∧hget h d=some (.cells (flat enc l) false)
theorem SlX.gr {α:Type} {h:Hp} {v:Value} {enc:α→List Value} {k:Nat} {l:List α} {P:Nat→Prop} (H:SlX h v enc k l P):∃ bo,Gr h enc k v l bo∧∀ d,bo=some d→P d:=by
 rcases H with ⟨rfl,rfl⟩ | ⟨d,hP,rfl,hg⟩
 ·exact ⟨none,.nil,fun d e=>by cases e⟩
 ·exact ⟨some d,.own hg,fun d e=>by cases e; exact hP⟩
theorem SlX.keep {α:Type} {h h':Hp} {v:Value} {enc:α→List Value} {k:Nat} {l:List α} {P P':Nat→Prop} (H:SlX h v enc k l P) (hk:∀ d,P d→hget h' d=hget h d∧P' d):SlX h' v enc k l P':=by
 rcases H with e | ⟨d,hP,e,hg⟩
 ·exact .inl e
 ·exact .inr ⟨d,(hk d hP).2,e,(hk d hP).1.trans hg⟩
theorem SlX.of {α:Type} {h:Hp} {v:Value} {enc:α→List Value} {k lo hi:Nat} {l:List α} (H:SlAt h v enc k l lo hi):SlX h v enc k l fun d=>lo≤d∧d<hi:=by
 rcases H with e | ⟨d,h1,h2,e,hg⟩
 ·exact .inl e
 ·exact .inr ⟨d,⟨h1,h2⟩,e,hg⟩
theorem SlX.at_ {α:Type} {h:Hp} {v:Value} {enc:α→List Value} {k lo hi:Nat} {l:List α} {P:Nat→Prop} (H:SlX h v enc k l P) (hP:∀ d,P d→lo≤d∧d<hi):SlAt h v enc k l lo hi:=by
 rcases H with e | ⟨d,h1,e,hg⟩
 ·exact .inl e
 ·exact .inr ⟨d,(hP d h1).1,(hP d h1).2,e,hg⟩
theorem SlX.form {α:Type} {h:Hp} {v:Value} {enc:α→List Value} {k:Nat} {l:List α} {P:Nat→Prop} (H:SlX h v enc k l P):∃ a c,v = .slice a l.length c:=by
 rcases H with ⟨rfl,rfl⟩ | ⟨d,_,rfl,_⟩
 ·exact ⟨_,_,rfl⟩
 ·exact ⟨_,_,rfl⟩
theorem zC5 {α:Type} {enc:α→List Value} {k:Nat} (hk:∀ x,(enc x).length=k) (hcell:∀ x,zV (enc x)=true) (hk0:0<k) {h:Hp} {nx:Nat} {v:Value} {l:List α} {P P':Nat→Prop} (H:SlX h v enc k l P) (hP':P' nx)
  {b2 o2 cap2:Nat} {sp2:Option Nat} {cs:List Value} {ro:Bool} (x:α) (h2:hget h b2=some (.cells cs ro)) (hx:(cs.drop o2).take k=enc x) (hsz:(l.length+1)*k≤1000000) {K:Value→Hp→Nat→Prop}
  (hK:∀ v' h',SlX h' v' enc k (l++[x]) P'→(∀ c,c≠nx→¬ P c→hget h' c=hget h c)→K v' h' (nx+1)):EK (orR (zH k h nx v (.slice (some ⟨b2,o2,sp2⟩) 1 cap2))) K:=by
 obtain ⟨bo,hG,hb⟩:=H.gr;refine zSo hk hcell hk0 hG x h2 hx hsz fun h' hn hf=>hK _ _ (.inr ⟨nx,hP',by rw [List.length_append]; rfl,hn⟩) fun c h1 h2=>hf c h1 fun e=>h2 (hb c e)
def CuJ0 (p1 p10 a H b W:Nat) (ts:List GE) (lo:Nat) (h0:Hp) (m:Nat) (vs:List Value) (h':Hp) (nx':Nat):Prop :=
 ∃ (i:Nat) (o:Value),m=H-i∧i≤H∧vs=[.pointer (some ⟨p1,0,none⟩),.pointer (some ⟨p10,0,none⟩),.int .i64 (a:Int),.int .i64 (H:Int),.int .i64 (b:Int),.int .i64 (W:Int),o,.int .i64 (H:Int),.int .i64 (i:Int)]∧SlAt h' o encG 3 (cutT ts a i b W) lo nx'∧Keep lo h0 h'∧lo≤nx'
def cuR (l:List GE) (i b W:Nat):List GE:=(l.filter (inCk b W)).map fun g=>⟨i,g.t-b,g.w⟩
def CuJ1 (p1 p10 a H b W i:Nat) (va:Value) (pre l:List GE) (lo n4 n5:Nat) (h0 h5:Hp) (m:Nat) (vs:List Value) (h':Hp) (nx':Nat):Prop :=
 ∃ (k:Nat) (o:Value),m=l.length-k∧k≤l.length∧vs=[.pointer (some ⟨p1,0,none⟩),.pointer (some ⟨p10,0,none⟩),.int .i64 (a:Int),.int .i64 (H:Int),.int .i64 (b:Int),.int .i64 (W:Int),o,.int .i64 (i:Int),.int .i64 (H:Int),.int .i64 (i:Int),va,.int .i64 (l.length:Int),.int .i64 (k:Int)] ∧
  SlX h' o encG 3 (pre++cuR (l.take k) i b W) (fun d=>lo≤d∧d<nx'∧¬ (n4≤d∧d<n5))∧(∀ d,n4≤d→d<n5→hget h' d=hget h5 d)∧Keep lo h0 h'∧n5≤nx'
theorem cuR_len (l:List GE) (i b W:Nat):(cuR l i b W).length≤l.length:=by unfold cuR; rw [List.length_map]; exact List.length_filter_le _ _
theorem zNI {l:List GE} {k i b W:Nat} {g:GE} (h:l[k]? = some g):cuR (l.take (k+1)) i b W=cuR (l.take k) i b W++(if inCk b W g=true then [⟨i,g.t-b,g.w⟩] else []):=by
 unfold cuR;rw [List.take_add_one,h,List.filter_append,List.map_append];cases hp:inCk b W g <;> simp [hp]
theorem cscut_c {s:Bool} {r c a b a' b':Nat} {ts:List GE} {v:Value} {h:Hp} {nx:Nat} (M:MOk r c ts) (hv:RowsIs h nx v r c ts) (haa:a≤a') (har:a'≤r) (hbb:b≤b') (hbc:b'≤c) :
  Cv Q O s 135 [v,.agg ⟨[.int .i64 (a:Int),.int .i64 (a':Int)]⟩,.agg ⟨[.int .i64 (b:Int),.int .i64 (b':Int)]⟩] h nx (zEe (a'-a) (b'-b) (cutT ts a (a'-a) b (b'-b)) nx h):=by
 refine cscutv ?_;have hv0:=hv;obtain ⟨vb,sp,cap,v2,v3,rfl,hb,hg,C2,C3⟩:=id hv;obtain ⟨a2,c2,rfl⟩:=C2.form;obtain ⟨a3,c3,rfl⟩:=C3.form;have hr:=M.hr;have hc:=M.hc;have hl:=M.len;have K0:∀ {o o' o'' o3},Keep nx h (hset (hset (hset (hset h nx o) (nx+1) o') (nx+1+1) o'') (nx+1+1+1) o3):=(((((Keep.refl _ _).set (Nat.le_refl _)).set (Nat.le_succ _)).set (by omega)).set (by omega))
 unfold cscut aF cF iV lA lF nC nS pC;simp (disch:=omega) only [SS,seval];refine (zFp M (hv0.keep K0 (by omega))).mono ?_;rintro _ h1 n1 ⟨rfl,hk1,hle1⟩;have K1:Keep nx h h1:=K0.trans hk1 (by omega);have g0:=hk1 nx (by omega);rw [hold (by omega),hold (by omega),hold (by omega),hnew] at g0;have g1:=hk1 (nx+1) (by omega);rw [hold (by omega),hold (by omega),hnew] at g1;have g2:=hk1 (nx+1+1) (by omega);rw [hold (by omega),hnew] at g2;have g3:=hk1 (nx+1+1+1) (by omega);rw [hnew] at g3;simp (disch:=omega) only [SS,g0,g1,seval];refine (zHk haa har hr).mono ?_;rintro _ h2 n2 ⟨rfl,hk2,hle2⟩;have f0:=hk2 nx (by omega);rw [hnew] at f0;have f2:=hk2 (nx+1+1) (by omega);rw [hold (by omega),g2] at f2;have f3:=hk2 (nx+1+1+1) (by omega);rw [hold (by omega),g3] at f3;have K2:Keep nx h h2:=(K1.set (Nat.le_refl _)).trans hk2 (by omega);simp (disch:=omega) only [SS,f0,f2,seval];refine (zHk hbb hbc hc).mono ?_;rintro _ h3 n3 ⟨rfl,hk3,hle3⟩;have e0:=(hk3 nx (by omega)).trans f0;have e3:=(hk3 (nx+1+1+1) (by omega)).trans f3;have K3:Keep nx h h3:=K2.trans hk3 (by omega);simp (disch:=omega) only [SS,seval];generalize hH:a'-a=H;generalize hW:b'-b=W;have hHr:a+H≤r:=by omega
 have hWc:b+W≤c:=by omega
 have hlen:∀ i,i≤H→(cutT ts a i b W).length≤120:=fun i hi=>(zIi M (show a+i≤r by omega) hWc).len;refine Lp.mk (CuJ0 nx (nx+1+1+1) a H b W ts n3 h3) H ⟨0,_,rfl,by omega,rfl,by rw [cutT_0]; exact .inl ⟨rfl,rfl⟩,Keep.refl _ _,Nat.le_refl _⟩ ?_;rintro _ _ h4 n4 ⟨i,o,rfl,hi,rfl,hS,hk4,hle4⟩;rw [cscutb0];unfold zRu bF cF iV lA nF;have q0:=(hk4 nx (by omega)).trans e0;have q3:=(hk4 (nx+1+1+1) (by omega)).trans e3;have K4:Keep nx h h4:=K3.trans hk4 (by omega);simp (disch:=omega) only [SS,seval];refine ⟨fun hlt=>?_,fun hge=>?_⟩
 ·have hlt:i<H:=by omega
  have w1:IntKind.wrap .i64 ((a:Int)+(i:Int))=((a+i:Nat):Int):=by rw [show (a:Int)+(i:Int)=((a+i:Nat):Int) by omega]; exact zAf (by omega) (by omega)
  simp (disch:=omega) only [SS,q0,w1,seval];refine (csRow_c M (hv0.keep K4 (by omega)) (show a+i<r by omega)).mono ?_;rintro rw h5 n5 ⟨hR,hk5,hle5⟩;have hrl:=zKc ts (a+i);obtain ⟨ra,rc,rfl⟩:∃ ra rc,rw = .slice ra (rowT ts (a+i)).length rc:=by
   rcases hR with ⟨e1,e2⟩ | ⟨b,_,_,e,_⟩
   ·exact ⟨none,0,by rw [e1,e2]; rfl⟩
   ·exact ⟨_,_,e⟩
  have hS5:SlX h5 o encG 3 (cutT ts a i b W) (fun d=>n3≤d∧d<n5∧¬ (n4≤d∧d<n5)):=(SlX.of hS).keep fun d hd=>⟨hk5 d hd.2,hd.1,by omega,by omega⟩
  simp (disch:=omega) only [SS,seval];refine Lp.mk (CuJ1 nx (nx+1+1+1) a H b W i (.slice ra (rowT ts (a+i)).length rc) (cutT ts a i b W) (rowT ts (a+i)) n3 n4 n5 h3 h5) (rowT ts (a+i)).length ⟨0,_,by omega,by omega,rfl,by rw [List.take_zero]; unfold cuR; rw [List.filter_nil,List.map_nil,List.append_nil]; exact hS5,fun _ _ _=>rfl,hk4.trans hk5 hle4,Nat.le_refl _⟩ ?_;have hpre:=hlen i (by omega);generalize hl1:rowT ts (a+i)=l at *
  generalize hpr:cutT ts a i b W=pre at *
  rintro _ _ h6 n6 ⟨k,o6,rfl,hk,rfl,hS6,hr6,hk6,hle6⟩;rw [cscutb1];unfold zRt aF bF iV lA lF nC xF;simp (disch:=omega) only [SS,seval];refine ⟨fun hlt2=>?_,fun hge2=>?_⟩
  ·obtain ⟨g,hgk⟩:=zY (show k<l.length by omega);have hgt:g.t<c:=M.cols g (zFa (show g∈rowT ts (a+i) by rw [hl1]; exact List.mem_of_getElem? hgk)).1;have hcl:=cuR_len (l.take k) i b W;rw [List.length_take] at hcl;have fin:∀ {o':Value} {h7:Hp} {n7:Nat},SlX h7 o' encG 3 (pre++cuR (l.take (k+1)) i b W) (fun d=>n3≤d∧d<n7∧¬ (n4≤d∧d<n5))→(∀ d,d<n6→(n3≤d→n4≤d∧d<n5)→hget h7 d=hget h6 d)→n6≤n7 →
     ∃ m',m'<l.length-k∧CuJ1 nx (nx+1+1+1) a H b W i (.slice ra l.length rc) pre l n3 n4 n5 h3 h5 m' [.pointer (some ⟨nx,0,none⟩),.pointer (some ⟨nx+1+1+1,0,none⟩),.int .i64 (a:Int),.int .i64 (H:Int),.int .i64 (b:Int),.int .i64 (W:Int),o',.int .i64 (i:Int),.int .i64 (H:Int),.int .i64 (i:Int),.slice ra l.length rc,.int .i64 (l.length:Int),.int .i64 ((k+1:Nat):Int)] h7 n7:=fun {o' h7 n7} hX hf hle =>
    ⟨l.length-(k+1),by omega,k+1,o',rfl,by omega,rfl,hX,fun d h1 h2=>by rw [hf d (by omega) (fun _=>⟨h1,h2⟩)]; exact hr6 d h1 h2,fun d hd=>by rw [hf d (by omega) (fun h=>absurd h (by omega))]; exact hk6 d hd,by omega⟩
   have skip:inCk b W g=false→∀ {h7:Hp},(∀ d,d<n6→hget h7 d=hget h6 d)→∃ m',m'<l.length-k∧CuJ1 nx (nx+1+1+1) a H b W i (.slice ra l.length rc) pre l n3 n4 n5 h3 h5 m' [.pointer (some ⟨nx,0,none⟩),.pointer (some ⟨nx+1+1+1,0,none⟩),.int .i64 (a:Int),.int .i64 (H:Int),.int .i64 (b:Int),.int .i64 (W:Int),o6,.int .i64 (i:Int),.int .i64 (H:Int),.int .i64 (i:Int),.slice ra l.length rc,.int .i64 (l.length:Int),.int .i64 ((k+1:Nat):Int)] h7 (n6+1):=fun hi {h7} hf =>
    fin (by rw [zNI hgk,if_neg (by rw [hi]; simp),List.append_nil]; exact hS6.keep fun d hd=>⟨hf d hd.2.1,hd.1,by omega,hd.2.2⟩) (fun d hd _=>hf d hd) (by omega)
   rcases hR with ⟨e1,_⟩ | ⟨rb,hb1,hb2,e,hrb⟩
   ·rw [e1] at hgk; cases hgk
   cases e;have hrb6:=(hr6 rb hb1 hb2).trans hrb;simp (disch:=omega) only [SS,hrb6,rdF (enc:=zRd) (k:=2) (fun _=>rfl) hgk,zRd,seval];have f2:∀ {o o':AObj} {d:Nat},d<n6→hget (hset (hset h6 n6 o) n6 o') d=hget h6 d:=fun hd=>by rw [hold (by omega),hold (by omega)]
   unfold zLZ aF bF iV lF;refine ⟨fun h1=>?_,fun h1=>?_⟩
   ·have w2:IntKind.wrap .i64 ((g.t:Int)-(b:Int))=((g.t-b:Nat):Int):=by rw [show (g.t:Int)-(b:Int)=((g.t-b:Nat):Int) by omega]; exact zAf (by omega) (by omega)
    simp (disch:=omega) only [SS,w2,seval];refine ⟨fun h2=>?_,fun h2=>?_⟩
    ·refine zC5 (enc:=encG) (k:=3) (P':=fun d=>n3≤d∧d<n6+1+1+1∧¬ (n4≤d∧d<n5)) (fun _=>rfl) (fun _=>rfl) (by omega) (hS6.keep (P':=fun d=>n3≤d∧d<n6∧¬ (n4≤d∧d<n5)) fun d hd=>⟨by rw [hold (by omega)]; exact f2 hd.2.1,hd.1,hd.2.1,hd.2.2⟩) ⟨by omega,by omega,by omega⟩ (⟨i,g.t-b,g.w⟩:GE) (hnew _ _ _) rfl (by rw [List.length_append]; omega) fun v' h8 hX hf8=>?_;simp (disch:=omega) only [SS,zI (show k<1000000000000 by omega),seval];refine fin ?_ (fun d h3 h4=>?_) (by omega)
     ·rw [zNI hgk,if_pos (show inCk b W g=true from decide_eq_true (by omega)),← List.append_assoc]; exact hX
     ·rw [hf8 d (by omega) (fun hd=>hd.2.2 (h4 hd.1)),hold (by omega)]; exact f2 h3
    ·simp (disch:=omega) only [SS,zI (show k<1000000000000 by omega),seval];exact skip (decide_eq_false (by omega)) fun d hd=>f2 hd
   ·simp (disch:=omega) only [SS,zI (show k<1000000000000 by omega),seval];exact skip (decide_eq_false (by omega)) fun d hd=>f2 hd
  ·have:k=l.length:=by omega
   subst this;rw [List.take_length] at hS6;simp (disch:=omega) only [SS,zI (show i<1000000000000 by omega),seval];refine ⟨H-(i+1),by omega,i+1,_,rfl,by omega,rfl,?_,hk6,by omega⟩;rw [zRj M.up,hpr];unfold rowC;rw [hl1];exact hS6.at_ fun d hd=>⟨hd.1,hd.2.1⟩
 ·have:i=H:=by omega
  subst this;have hpx:SlPx h4 n4 o encG (cutT ts a i b W):=by
   rcases hS with ⟨e1,e2⟩ | ⟨d,h1,h2,e,hg⟩
   ·exact ⟨none,0,by rw [e1,e2]; rfl,fun hne=>absurd e1 hne⟩
   ·exact ⟨_,_,e,fun _=>⟨d,some 3,false,[],h2,rfl,by rw [List.append_nil]; exact hg⟩⟩
  refine (zIt hpx (zIi M hHr hWc)).mono ?_;rintro vr h5 n5 ⟨hR,hk5,hle5⟩;obtain ⟨rb,rsp,rcap,y1,y2,y3,y4,y5,y6,rfl⟩:=hR.is.form;have g5:=(hk5 (nx+1+1+1) (by omega)).trans q3;simp (disch:=omega) only [SS,g5,seval];have K5:Keep nx h h5:=K4.trans hk5 (by omega);exact ⟨hR.keep (fun d h1 h2=>hold (by omega)) (by omega) (Nat.le_refl _),K5.set (by omega),by omega⟩
theorem bcut_c {s:Bool} {n R C i j:Nat} {ts:List GE} {v:Value} {h:Hp} {nx:Nat} (M:MOk n n ts) (hv:RowsIs h nx v n n ts) (hR:0<R) (hR8:R≤8) (hC:0<C) (hC8:C≤8) (hi:i<R) (hj:j<C) :
  Cv Q O s 52 [v,.int .i64 (R:Int),.int .i64 (C:Int),.int .i64 (i:Int),.int .i64 (j:Int)] h nx (zEe (lowN n R (i+1)-lowN n R i) (lowN n C (j+1)-lowN n C j) (cutT ts (lowN n R i) (lowN n R (i+1)-lowN n R i) (lowN n C j) (lowN n C (j+1)-lowN n C j)) nx h):=by
 refine bcutv ?_;have hv0:=hv;obtain ⟨vb,sp,cap,v2,v3,rfl,hb,hg,C2,C3⟩:=id hv;obtain ⟨a2,c2,rfl⟩:=C2.form;obtain ⟨a3,c3,rfl⟩:=C3.form;have hr:=M.hr;have K0:∀ {o o'},Keep nx h (hset (hset h nx o) (nx+1) o'):=((Keep.refl _ _).set (Nat.le_refl _)).set (Nat.le_succ _);unfold bcut cF iV lA nC nS pC;simp (disch:=omega) only [SS,seval];refine (zGp M (hv0.keep K0 (by omega))).mono ?_;rintro _ h1 n1 ⟨rfl,hk1,hle1⟩;have K1:Keep nx h h1:=K0.trans hk1 (by omega);have g0:=hk1 nx (by omega);rw [hold (by omega),hnew] at g0;have g1:=hk1 (nx+1) (by omega);rw [hnew] at g1;simp (disch:=omega) only [SS,seval];refine (bgrid_c hR hR8 hC hC8 hi hj).mono ?_;rintro _ _ _ ⟨rfl,rfl,rfl⟩;simp (disch:=omega) only [SS,seval];unfold zSg aF cF dF gA gL iV lA lF nS;simp (disch:=omega) only [SS,g0,seval];refine (zKV (s:=true) (i:=i) hr hR hR8 (by omega)).mono ?_;rintro _ h2 n2 ⟨rfl,hk2,hle2⟩;have f0:=(hk2 nx (by omega)).trans g0;have f1:=(hk2 (nx+1) (by omega)).trans g1;refine ⟨hle2,?_⟩;simp (disch:=omega) only [SS,f0,g0,seval];refine (zKV (s:=true) (i:=j) hr hC hC8 (by omega)).mono ?_;rintro _ h3 n3 ⟨rfl,hk3,hle3⟩;have e0:=(hk3 nx (by omega)).trans f0;have e1:=(hk3 (nx+1) (by omega)).trans f1;refine ⟨hle3,?_⟩;have K3:Keep nx h h3:=(K1.trans hk2 (by omega)).trans hk3 (by omega);simp (disch:=omega) only [SS,e0,f0,g0,seval];refine (cscut_c (s:=true) M (hv0.keep K3 (by omega)) (zB5 (Nat.le_succ i)) (zDk hR _) (zB5 (Nat.le_succ j)) (zDk hC _)).mono ?_;rintro vr h4 n4 ⟨hRr,hk4,hle4⟩;refine ⟨hle4,?_⟩;obtain ⟨rb,rsp,rcap,y1,y2,y3,y4,y5,y6,rfl⟩:=hRr.is.form;have d1:=(hk4 (nx+1) (by omega)).trans e1;simp (disch:=omega) only [SS,d1,seval];exact ⟨hRr.keep (fun d h1 h2=>hold (by omega)) (by omega) (Nat.le_refl _),(K3.trans hk4 (by omega)).set (by omega),by omega⟩
theorem zIm {x y:GE}:cmp2 x y<0↔Lt2 x y:=by
 unfold cmp2 orI orI orI cmpI Lt2
 by_cases h1:(x.f:Int)<y.f
 ·rw [if_pos h1]; simp; omega
 ·by_cases h2:(y.f:Int)<x.f
  ·rw [if_neg h1,if_pos h2]; simp; omega
  ·rw [if_neg h1,if_neg h2]
   by_cases h3:(x.t:Int)<y.t
   ·rw [if_pos h3]; simp; omega
   ·by_cases h4:(y.t:Int)<x.t
    ·rw [if_neg h3,if_pos h4]; simp; omega
    ·rw [if_neg h3,if_neg h4]; simp; omega
theorem tri_cmp:zSr Q orc0 241 encG cmp2:=fun x y h nx =>
 zPW (f1:=315) (f2:=315) (fo:=314) (by kernel_rfl) rfl n139 n139 c107 rfl (l:=encG x) (m:=encG y) rfl rfl rfl rfl rfl rfl
theorem zP3:Sort.SWO (ltC cmp2) where
 irrefl:=fun x=>by
  have:¬ cmp2 x x<0:=fun h=>by rw [zIm] at h; unfold Lt2 at h; omega
  simpa [ltC] using this
 trans:=fun x y z h1 h2=>by
  have h1:cmp2 x y<0:=by simpa [ltC] using h1
  have h2:cmp2 y z<0:=by simpa [ltC] using h2
  have:cmp2 x z<0:=by rw [zIm] at *; unfold Lt2 at *; omega
  simpa [ltC] using this
 ntrans:=fun x y z h1 h2=>by
  have h1:¬ cmp2 x y<0:=by simpa [ltC] using h1
  have h2:¬ cmp2 y z<0:=by simpa [ltC] using h2
  have:¬ cmp2 x z<0:=by rw [zIm] at *; unfold Lt2 at *; omega
  simpa [ltC] using this
theorem sortT_ok:zKY Q 240 (zHN encG cmp2 241) :=
 zMy pok layT rfl (zNU (by kernel_rfl)) (zNU (by kernel_rfl)) zP3 (fun w=>by kernel_rfl) (fun w=>by kernel_rfl) (k:=3) (fun _=>rfl) (fun _=>rfl) (fun x v hv=>by simp [encG] at hv; rcases hv with rfl | rfl | rfl <;> rfl) tri_cmp
theorem sortT_c {s:Bool} {h:Hp} {nx b n cap:Nat} {sp:Option Nat} {l:List GE} (hln:l.length=n) (hn:n≤120) (hb:b<nx) (hh:hget h b=some (.cells (flat encG l) false)) :
  Cv Q O s 240 [.slice (some ⟨b,0,sp⟩) n cap,.func (.func 241) #[] #[]] h nx (zSm encG cmp2 l b nx h) :=
 zMz rfl zP3 (k:=3) (fun _=>rfl) (by decide) (fun x y h=>by
  obtain ⟨a,b,c⟩:=x;obtain ⟨d,e,f⟩:=y;simp [encG] at h;obtain ⟨h1,h2,h3⟩:=h;have h1:a=d:=by omega
  have h2:b=e:=by omega
  rw [h1,h2,h3]) hln (by omega) hb hh
theorem sortT0_c {s:Bool} {h:Hp} {nx:Nat} {K:KC'} (hk:K (.tuple #[]) h nx):Cv Q O s 240 [.slice none 0 0,.func (.func 241) #[] #[]] h nx K:=zJo rfl hk
def TrJ0 (p r:Nat) (ts:List GE) (lo:Nat) (h0:Hp) (m:Nat) (vs:List Value) (h':Hp) (nx':Nat):Prop :=
 ∃ (i:Nat) (o:Value),m=r-i∧i≤r∧vs=[.pointer (some ⟨p,0,none⟩),o,.int .i64 (r:Int),.int .i64 (i:Int)]∧SlAt h' o encG 3 (ts.take (stf ts i)) lo nx'∧Keep lo h0 h'∧lo≤nx'
def TrJ1 (p r i n:Nat) (va vb:Value) (ts:List GE) (lo:Nat) (h0:Hp) (m:Nat) (vs:List Value) (h':Hp) (nx':Nat):Prop :=
 ∃ (k:Nat) (o:Value),m=n-k∧k≤n∧vs=[.pointer (some ⟨p,0,none⟩),o,.int .i64 (i:Int),vb,.int .i64 (r:Int),.int .i64 (i:Int),va,.int .i64 (n:Int),.int .i64 (k:Int)]∧SlAt h' o encG 3 (ts.take (stf ts i+k)) lo nx'∧Keep lo h0 h'∧lo≤nx'
def TripK (ts:List GE) (nx:Nat) (h:Hp):KC':=fun res h' nx'=>SlAt h' res encG 3 ts nx nx'∧Keep nx h h'∧nx≤nx'
theorem zGo {s:Bool} {r c:Nat} {ts:List GE} {v:Value} {h:Hp} {nx:Nat} (M:MOk r c ts) (hv:RowsIs h nx v r c ts):Cv Q O s 138 [v] h nx (TripK ts nx h):=by
 refine zOY ?_;have hv0:=hv;obtain ⟨vb,vsp,vn,a2,m2,c2,a3,m3,c3,rfl⟩:=hv.form;have hr:=M.hr;have hl:=M.len;have K0:∀ {o},Keep nx h (hset h nx o):=(Keep.refl _ _).set (Nat.le_refl _);unfold zKC aF cF iV lA lF nS pC;simp (disch:=omega) only [SS,seval];refine (zFp M (hv0.keep K0 (by omega))).mono ?_;rintro _ h1 n1 ⟨rfl,hk1,hle1⟩;have K1:Keep nx h h1:=K0.trans hk1 (by omega);have g1:=hk1 nx (by omega);rw [hnew] at g1;simp (disch:=omega) only [SS,g1,seval];have K2:∀ {o},Keep nx h (hset h1 nx o):=K1.set (Nat.le_refl _);refine Lp.mk (TrJ0 nx r ts n1 _) r ⟨0,_,by omega,by omega,rfl,by rw [zP8,List.take_zero]; exact .inl ⟨rfl,rfl⟩,Keep.refl _ _,Nat.le_refl _⟩ ?_;rintro _ _ h3 n3 ⟨i,o,rfl,hi,rfl,hS,hk3,hle3⟩;have g3:=hk3 nx (by omega);rw [hnew] at g3;have K3:Keep nx h h3:=K2.trans hk3 (by omega);rw [zLY];unfold zGn bF cF iV lA nF;simp (disch:=omega) only [SS,seval];refine ⟨fun hlt=>?_,fun hge=>?_⟩
 ·have hlt:i<r:=by omega
  simp (disch:=omega) only [SS,g3,seval];refine (zNL M (hv0.keep K3 (Nat.le_refl _)) (by omega) hlt).mono ?_;rintro _ h4 n4 ⟨w2,w3,rfl,I2,I3,hk4,hle4⟩;obtain ⟨x2,y2,rfl,_⟩:=id I2;obtain ⟨x3,y3,rfl,_⟩:=id I3;have eT:=zCe (rowT ts i);have eW:=zD9 (rowT ts i);rw [eT] at I2;rw [eW] at I3;rw [eT,eW];have hrl:=zFb M.up i;have hst:=zCX ts (show i≤i+1 by omega);have hst2:=zFJ ts (i+1);simp (disch:=omega) only [SS,seval];refine Lp.mk (TrJ1 nx r i (rowT ts i).length (.slice x2 (rowT ts i).length y2) (.slice x3 (rowT ts i).length y3) ts n1 (hset h1 nx _)) (rowT ts i).length ⟨0,_,by omega,by omega,rfl,hS.keep (fun d x1 x2=>hk4 d x2) hle4,hk3.trans hk4 hle3,by omega⟩ ?_;rintro _ _ h5 n5 ⟨k,o,rfl,hk,rfl,hS5,hk5,hle5⟩;rw [zLX];unfold zGm bF iV lF xF;simp (disch:=omega) only [SS,seval];refine ⟨fun hlt2=>?_,fun hge2=>?_⟩
  ·obtain ⟨g,hgk⟩:=zY (show k<(rowT ts i).length by omega);obtain ⟨b2,o2,s2,ro2,cs2,hb2,rfl,hg2,hcs2⟩:=I2.at (zCW hgk)
   obtain ⟨b3,o3,s3,ro3,cs3,hb3,rfl,hg3,hcs3⟩:=I3.at (zEf hgk)
   have hgf:g.f=i:=(zFa (List.mem_of_getElem? hgk)).2;have hts:ts[stf ts i+k]? = some g:=by rw [← zFc M.up (by omega)]; exact hgk
   have e2:hget h5 b2=some (.cells cs2 ro2):=by rw [← hg2,hk5 b2 (by omega),hk4 b2 (by omega),hk3 b2 (by omega)]
   have e3:hget h5 b3=some (.cells cs3 ro3):=by rw [← hg3,hk5 b3 (by omega),hk4 b3 (by omega),hk3 b3 (by omega)]
   simp (disch:=omega) only [SS,e2,hcs2 k _ (zCW hgk),e3,hcs3 k _ (zEf hgk),seval];refine zBe (enc:=encG) (lo:=n1) (fun _=>rfl) (fun _=>rfl) (by omega) (hS5.keep (fun d x1 x2=>hold (by omega)) (by omega)) (by omega) (⟨i,g.t,g.w⟩:GE) (hnew _ _ _) rfl (by rw [List.length_take]; omega) fun v' h6 hS6 hk6=>?_;simp (disch:=omega) only [SS,zI (show k<1000000000000 by omega),seval];refine ⟨(rowT ts i).length-(k+1),by omega,k+1,_,rfl,by omega,rfl,?_,fun d hd=>?_,by omega⟩
   ·rw [show stf ts i+(k+1)=stf ts i+k+1 by omega,List.take_add_one,hts];have eg:(⟨i,g.t,g.w⟩:GE)=g:=by rw [← hgf]
    rw [eg] at hS6;exact hS6
   ·rw [hk6 d hd,hold (by omega)]; exact hk5 d hd
  ·have:k=(rowT ts i).length:=by omega
   subst this;rw [hrl,show stf ts i+(stf ts (i+1)-stf ts i)=stf ts (i+1) by omega] at hS5;simp (disch:=omega) only [SS,zI (show i<1000000000000 by omega),seval];exact ⟨r-(i+1),by omega,i+1,_,rfl,by omega,rfl,hS5,hk5,hle5⟩
 ·have:i=r:=by omega
  subst this;rw [stf_r M,List.take_length] at hS;refine ⟨?_,K3,by omega⟩;rcases hS with e | ⟨b,h1,h2,h3⟩
  ·exact .inl e
  ·exact .inr ⟨b,by omega,h2,h3⟩
def zSl (ts ts':List GE):Prop:=ts'.Perm (ts.map zED)
theorem zPX {r c:Nat} {ts:List GE} (M:MOk r c ts):(ts.map zED).Pairwise fun x y=>¬ (x.f=y.f∧x.t=y.t):=by
 rw [List.pairwise_map];refine List.Pairwise.imp (fun {x y} h=>?_) M.up;unfold Lt2 at h;show ¬ (x.t=y.t∧x.f=y.f);omega
theorem turn_ok {r c:Nat} {ts ts':List GE} (M:MOk r c ts) (hp:zSl ts ts') (hs:ts'.Pairwise fun x y=>¬ cmp2 y x<0):MOk c r ts' where
 up:=by
  have hd:ts'.Pairwise fun x y=>¬ (x.f=y.f∧x.t=y.t):=(List.Perm.pairwise_iff (fun {x y} h e=>h ⟨e.1.symm,e.2.symm⟩) hp).2 (zPX M);refine List.Pairwise.imp₂ (fun {x y} h1 h2=>?_) hs hd;rw [zIm] at h1;unfold Lt2 at h1 ⊢;omega
 rows:=fun g hg=>by
  obtain ⟨x,hx,rfl⟩:=List.mem_map.1 (hp.mem_iff.1 hg);exact M.cols x hx
 cols:=fun g hg=>by
  obtain ⟨x,hx,rfl⟩:=List.mem_map.1 (hp.mem_iff.1 hg);exact M.rows x hx
 hr:=M.hc
 hc:=M.hr
 len:=by rw [hp.length_eq,List.length_map]; exact M.len
def mixT (ts:List GE) (i:Nat):List GE:=(ts.take i).map zED++ts.drop i
theorem zMm {ts:List GE} {i:Nat}:(mixT ts i).length=ts.length:=by unfold mixT; rw [List.length_append,List.length_map,List.length_take,List.length_drop]; omega
theorem mixT_get {ts:List GE} {i:Nat} (h:i≤ts.length):(mixT ts i)[i]? = ts[i]?:=by
 have hl:((ts.take i).map zED).length=i:=by rw [List.length_map,List.length_take]; omega
 unfold mixT;rw [List.getElem?_append_right (by omega),hl,Nat.sub_self,List.getElem?_drop,Nat.add_zero]
theorem mixT_set {ts:List GE} {i:Nat} {g:GE} (h:ts[i]? = some g):(mixT ts i).set i (zED g)=mixT ts (i+1):=by
 have hi:=(List.getElem?_eq_some_iff.1 h).1;have hl:((ts.take i).map zED).length=i:=by rw [List.length_map,List.length_take]; omega
 unfold mixT;rw [List.set_append_right _ _ (by omega),hl,Nat.sub_self,List.take_add_one,h,List.map_append,List.append_assoc]
 congr 1
 rw [List.drop_eq_getElem_cons hi];rfl
def TuJ (p1 p4 lo hi:Nat) (w:Value) (ts:List GE) (h0:Hp) (n0:Nat) (m:Nat) (vs:List Value) (h':Hp) (nx':Nat):Prop :=
 ∃ i,m=ts.length-i∧i≤ts.length∧vs=[.pointer (some ⟨p1,0,none⟩),.pointer (some ⟨p4,0,none⟩),w,w,.int .i64 (ts.length:Int),.int .i64 (i:Int)]∧SlAt h' w encG 3 (mixT ts i) lo hi∧Keep lo h0 h'∧n0≤nx'
theorem sortA_c {s:Bool} {l:List GE} {w:Value} {h:Hp} {nx lo hi:Nat} (hS:SlAt h w encG 3 l lo hi) (hh:hi≤nx) (hl:l.length≤120) :
  Cv Q O s 240 [w,.func (.func 241) #[] #[]] h nx (fun _ h' nx'=>∃ l',l'.Perm l∧l'.Pairwise (fun x y=>¬ cmp2 y x<0)∧SlAt h' w encG 3 l' lo hi∧Keep lo h h'∧nx≤nx'):=by
 rcases hS with ⟨rfl,rfl⟩ | ⟨b,h1,h2,rfl,hg⟩
 ·exact sortT0_c ⟨[],List.Perm.refl _,List.Pairwise.nil,.inl ⟨rfl,rfl⟩,Keep.refl _ _,Nat.le_refl _⟩
 ·refine (sortT_c rfl hl (by omega) hg).mono ?_;rintro _ h' nx' ⟨hle,⟨l',hp,hs,hg'⟩,hf⟩;exact ⟨l',hp,hs,.inr ⟨b,h1,h2,by rw [hp.length_eq],hg'⟩,fun c hc=>hf c (by omega) (by omega),hle⟩
def TurnK (r c:Nat) (ts:List GE) (nx:Nat) (h:Hp):KC':=fun v h' nx'=>∃ ts',zSl ts ts'∧MOk c r ts'∧RowsNw h' nx nx' v c r ts'∧Keep nx h h'∧nx≤nx'
theorem csturn_c {s:Bool} {r c:Nat} {ts:List GE} {v:Value} {h:Hp} {nx:Nat} (M:MOk r c ts) (hv:RowsIs h nx v r c ts):Cv Q O s 139 [v] h nx (TurnK r c ts nx h):=by
 refine csturnv ?_;have hv0:=hv;obtain ⟨vb,vsp,vn,a2,m2,c2,a3,m3,c3,rfl⟩:=hv.form;have hr:=M.hr;have hc:=M.hc;have hl:=M.len;have K0:∀ {o o'},Keep nx h (hset (hset h nx o) (nx+1) o'):=((Keep.refl _ _).set (Nat.le_refl _)).set (Nat.le_succ _);unfold csturn aF cF iV lA lF nC nF nS pC;simp (disch:=omega) only [SS,seval];refine (zFp M (hv0.keep K0 (by omega))).mono ?_;rintro _ h1 n1 ⟨rfl,hk1,hle1⟩;have K1:Keep nx h h1:=K0.trans hk1 (by omega);have g0:=hk1 nx (by omega);rw [hold (by omega),hnew] at g0;have g1:=hk1 (nx+1) (by omega);rw [hnew] at g1;simp (disch:=omega) only [SS,g0,seval];have K2:∀ {o},Keep nx h (hset h1 nx o):=K1.set (Nat.le_refl _);refine (zGo M ((hv0.keep K2 (Nat.le_refl _)).keep (Keep.refl _ _) (by omega))).mono ?_;rintro w h2 n2 ⟨hS,hk2,hle2⟩;have f0:=hk2 nx (by omega);rw [hnew] at f0;have f1:=hk2 (nx+1) (by omega);rw [hold (by omega),g1] at f1;have K3:Keep nx h h2:=K2.trans hk2 (by omega);obtain ⟨wa,wc,rfl⟩:=(SlX.of hS).form;simp (disch:=omega) only [SS,seval];refine Lp.mk (TuJ nx (nx+1) n1 n2 (.slice wa ts.length wc) ts h2 n2) ts.length ⟨0,by omega,by omega,rfl,by unfold mixT; exact hS,Keep.refl _ _,Nat.le_refl _⟩ ?_;rintro _ _ h3 n3 ⟨i,rfl,hi,rfl,hS3,hk3,hle3⟩;rw [csturnb0];unfold zNK aF bF iV lA lF nC xF;simp (disch:=omega) only [SS,seval];refine ⟨fun hlt=>?_,fun hge=>?_⟩
 ·obtain ⟨g,hg⟩:=zY (show i<ts.length by omega);have hlen:(mixT ts i).length=ts.length:=zMm;have hgm:(mixT ts i)[i]? = some g:=by rw [mixT_get hi,hg]
  rcases hS3 with ⟨e,_⟩ | ⟨b,x1,x2,e,hgb⟩
  ·rw [e] at hgm; cases hgm
  ·rw [hlen] at e;cases e;have hw:∀ hp:Hp,wrO (some (.cells (flat encG (mixT ts i)) false)) hp b (i*3) [.int .i64 (g.t:Int),.int .i64 (g.f:Int),.int .i64 g.w] = .ok (hset hp b (.cells (flat encG ((mixT ts i).set i (zED g))) false)):=fun hp=>wrG (x:=zED g) (by omega);simp (disch:=omega) only [SS,hgb,rdF (enc:=encG) (k:=3) (fun _=>rfl) hgm,encG,hw,zI (show i<1000000000000 by omega),seval];refine ⟨ts.length-(i+1),by omega,i+1,rfl,by omega,rfl,.inr ⟨b,x1,x2,by rw [zMm],?_⟩,fun d hd=>?_,by omega⟩
   ·rw [hnew,mixT_set hg]
   ·rw [hold (by omega),hold (by omega),hold (by omega)]; exact hk3 d hd
 ·have:i=ts.length:=by omega
  subst this;have hS4:SlAt h3 (.slice wa ts.length wc) encG 3 (ts.map zED) n1 n2:=by
   have e:mixT ts ts.length=ts.map zED:=by unfold mixT; rw [List.take_length,List.drop_length,List.append_nil]
   rw [← e]; exact hS3
  refine (sortA_c hS4 hle3 (by rw [List.length_map]; exact hl)).mono ?_;rintro _ h5 n5 ⟨ts',hp,hs,hS5,hk5,hle5⟩;have M':=turn_ok M hp hs;have e0:hget h5 nx=some (.cells [.int .i64 (r:Int),.int .i64 (c:Int),.slice (some ⟨vb,0,vsp⟩) (r+1) vn,.slice a2 m2 c2,.slice a3 m3 c3] false):=by rw [hk5 nx (by omega),hk3 nx (by omega)]; exact f0
  have e1:=(hk5 (nx+1) (by omega)).trans ((hk3 (nx+1) (by omega)).trans f1);have K5:Keep nx h h5:=(K3.trans (hk3.mono hle1) (by omega)).trans (hk5.mono (by omega)) (by omega);simp (disch:=omega) only [SS,e0,seval];have hpx:SlPx h5 n5 (.slice wa ts.length wc) encG ts':=by
   have hln:ts'.length=ts.length:=by rw [hp.length_eq,List.length_map]
   rcases hS5 with ⟨x1,x2⟩ | ⟨d,x1,x2,x3,x4⟩
   ·exact ⟨wa,wc,by rw [hln],fun hne=>absurd x1 hne⟩
   ·rw [hln] at x3;cases x3;exact ⟨_,_,by rw [hln],fun _=>⟨d,some 3,false,[],by omega,rfl,by rw [List.append_nil]; exact x4⟩⟩
  refine (zIt hpx M').mono ?_;rintro vr h6 n6 ⟨hR,hk6,hle6⟩;obtain ⟨rb,rsp,rcap,y1,y2,y3,y4,y5,y6,rfl⟩:=hR.is.form;have d1:=(hk6 (nx+1) (by omega)).trans e1;simp (disch:=omega) only [SS,d1,seval];exact ⟨ts',hp,M',hR.keep (fun d x1 x2=>hold (by omega)) (by omega) (Nat.le_refl _),(K5.trans hk6 (by omega)).set (by omega),by omega⟩
end Go.Proofs.YtcjochjiegiliaaGreat
