/- Parts of the proof: PrFn2: each statement bears its own conditions. -/
import Derived.Test.YtcjochjiegiliaaGreatPrFn1
namespace Go.Proofs.YtcjochjiegiliaaGreat
open Go Go.Ax
set_option linter.unusedVariables false
set_option linter.unusedSimpArgs false
set_option maxRecDepth 1000000
theorem both_c {s:Bool} {N:Nat} {gs:List GE} {v:Value} {h:Hp} {nx:Nat} (hv:SlPx h nx v encG gs) (hN:N≤2147483648) (hl:gs.length≤60) (hok:∀ g∈gs,GOk N g) :
  Cv Q O s 130 [.agg ⟨[.int .i64 (N:Int),v]⟩] h nx (fun r h' nx'=>∃ ts,IsCan ((turnM gs).map gE) (ts.map gE)∧ts.length≤gs.length∧(∀ g∈ts,GOk N g)∧CanK N (gs++ts) nx h r h' nx'):=by
 refine bothv ?_
 obtain ⟨a,cap,rfl,hc⟩:=id hv
 unfold both
 simp (disch:=omega) only [SS,seval]
 have K0:∀ {o o'},Keep nx h (hset (hset h nx o) (nx+1) o'):=((Keep.refl _ _).set (Nat.le_refl _)).set (Nat.le_succ _)
 refine (turn_c (hv.keep K0 (by omega)) hN (by omega) hok).mono ?_
 rintro r h1 nx1 ⟨v1,ts,rfl,hts,htc,htok,htl,hk1,hle1⟩
 have htl2:ts.length≤gs.length:=Nat.le_trans htl (mapf_len gs)
 have g0:=hk1 nx (by omega)
 rw [hold (by omega),hnew] at g0
 have g4:=hk1 (nx+1) (by omega)
 rw [hnew] at g4
 obtain ⟨a3,n3,c3,rfl⟩:=hts.form
 refine ⟨hle1,?_⟩
 have K1:Keep nx h h1:=K0.trans hk1 (by omega)
 simp (disch:=omega) only [SS,g0,cfillS_1,seval]
 have k2:∀ {o},Keep nx1 h1 (hset h1 nx1 o):=(Keep.refl _ _).set (Nat.le_refl _)
 refine (concat_c (c:=2) (hnew _ _ _) (Nat.lt_succ_self _) ((hv.keep K1 (by omega)).keep k2 (Nat.le_succ _)) ((SlPx.of hts.rd).keep k2 (Nat.le_succ _)) (by omega)).mono ?_
 rintro r h3 nx3 ⟨h5,hk3,hle3⟩
 obtain ⟨a5,c5,rfl,hc5⟩:=id h5
 have g0':=(hk3 nx (by omega)).trans ((hold (by omega)).trans g0)
 have g4':=(hk3 (nx+1) (by omega)).trans ((hold (by omega)).trans g4)
 have K3:Keep nx h h3:=fun c hc=>by rw [hk3 c (by omega),hold (by omega)]; exact K1 c hc
 refine ⟨hle3,?_⟩
 simp (disch:=omega) only [SS,g0',cfillS_1,seval]
 have hok2:∀ g∈gs++ts,GOk N g:=fun g hg=>by
  rcases List.mem_append.1 hg with hg | hg
  ·exact hok g hg
  ·exact htok g hg
 refine (canon_c h5 hN hok2 (by rw [List.length_append]; omega)).mono ?_
 rintro r h6 nx6 ⟨v6,cs,rfl,hcs,hcan,hcok,hcl,hk6,hle6⟩
 obtain ⟨a7,n7,c7,rfl⟩:=hcs.form
 have g4'':=(hk6 (nx+1) (by omega)).trans g4'
 refine ⟨hle6,?_⟩
 simp (disch:=omega) only [SS,g4'',seval]
 refine ⟨ts,htc,htl2,htok,_,cs,rfl,?_,hcan,hcok,hcl,fun c hc=>by rw [hold (by omega),hk6 c (by omega)]; exact K3 c hc,by omega⟩
 rcases hcs with hcs | ⟨b,h1,h2,e,hb⟩
 ·exact .inl hcs
 ·exact .inr ⟨b,by omega,h2,e,by rw [hold (by omega)]; exact hb⟩
def RowsV (r c:Int) (a1 a2 a3:Option Addr) (n1 n2 n3 c1 c2 c3:Nat):Value:=.agg ⟨[.int .i64 r,.int .i64 c,.slice a1 n1 c1,.slice a2 n2 c2,.slice a3 n3 c3]⟩
def SomeM (r:Value):Prop:=∃ (x y:Int) (a1 a2 a3:Option Addr) (n1 n2 n3 c1 c2 c3:Nat),r=RowsV x y a1 a2 a3 n1 n2 n3 c1 c2 c3
theorem empty_c {s:Bool} {N:Nat} {h:Hp} {nx:Nat} (hN:N≤4096):Cv Q O s 310 [.int .i64 (N:Int),.int .i64 (N:Int)] h nx (fun r h' nx'=>r = .agg ⟨[.int .i64 (N:Int),.int .i64 (N:Int),.slice (some ⟨nx+1,0,none⟩) (N+1) (N+1),.slice none 0 0,.slice none 0 0]⟩∧hget h' (nx+1)=some (.cells (ints (List.replicate (N+1) 0)) false)∧Keep nx h h'∧nx'=nx+1+1):=by
 refine emptyv ?_
 unfold empty
 have r0:List.replicate (N+1) (Value.int .i64 0)=ints (List.replicate (N+1) 0):=by simp [ints]
 simp (disch:=omega) only [SS,wrap_s (show N<1000000000000 by omega),r0,seval]
 exact ((Keep.refl _ _).set (Nat.le_refl _)).set (Nat.le_succ _) |>.set (Nat.le_refl _)
def TwoI (h:Hp) (v1 v2:Value) (l1 l2:List Int) (lo hi:Nat):Prop :=
 (l1=[]∧l2=[]∧v1 = .slice none 0 0∧v2 = .slice none 0 0)∨∃ b1 b2,b1≠b2∧lo≤b1∧b1<hi∧lo≤b2∧b2<hi∧v1 = .slice (some ⟨b1,0,some 1⟩) l1.length l1.length∧v2 = .slice (some ⟨b2,0,some 1⟩) l2.length l2.length ∧
  hget h b1=some (.cells (ints l1) false)∧hget h b2=some (.cells (ints l2) false)
theorem TwoI.gr {h:Hp} {v1 v2:Value} {l1 l2:List Int} {lo hi:Nat} (T:TwoI h v1 v2 l1 l2 lo hi):∃ o1 o2,Gr h encI 1 v1 l1 o1∧Gr h encI 1 v2 l2 o2∧(∀ b,o1=some b→lo≤b∧b<hi∧o2≠some b)∧∀ b,o2=some b→lo≤b∧b<hi:=by
 rcases T with ⟨rfl,rfl,rfl,rfl⟩ | ⟨b1,b2,hne,h1,h2,h3,h4,rfl,rfl,g1,g2⟩
 ·exact ⟨none,none,Gr.nil,Gr.nil,⟨fun b e=>(by cases e),fun b e=>(by cases e)⟩⟩
 ·rw [← flat_ints] at g1 g2
  exact ⟨some b1,some b2,.own g1,.own g2,fun b e=>by cases e; exact ⟨h1,h2,fun e=>hne (by cases e; rfl)⟩,fun b e=>by cases e; exact ⟨h3,h4⟩⟩
theorem TwoI.form {h:Hp} {v1 v2:Value} {l1 l2:List Int} {lo hi:Nat} (T:TwoI h v1 v2 l1 l2 lo hi):∃ a1 n1 c1 a2 n2 c2,v1 = .slice a1 n1 c1∧v2 = .slice a2 n2 c2:=by
 rcases T with ⟨_,_,rfl,rfl⟩ | ⟨b1,b2,_,_,_,_,_,rfl,rfl,_⟩
 ·exact ⟨_,_,_,_,_,_,rfl,rfl⟩
 ·exact ⟨_,_,_,_,_,_,rfl,rfl⟩
def BuJ0 (N p1 p7 p5 lo:Nat) (vt:Value) (ts:List GE) (h0:Hp) (nx:Nat) (m:Nat) (vs:List Value) (h':Hp) (nx':Nat):Prop :=
 ∃ (i:Nat) (S:List Int) (vc vv:Value),m=ts.length-i∧i≤ts.length∧vs=[.int .i64 (N:Int),.pointer (some ⟨p1,0,none⟩),.pointer (some ⟨p7,0,none⟩),vt,.int .i64 (ts.length:Int),.int .i64 (i:Int)] ∧
  hget h' p7=some (.cells [.int .i64 (N:Int),.int .i64 (N:Int),.slice (some ⟨p5,0,none⟩) (N+1) (N+1),vc,vv] false)∧hget h' p5=some (.cells (ints S) false)∧S.length=N+1∧(∀ x∈S,0≤x∧x≤(i:Int)) ∧
  TwoI h' vc vv ((ts.take i).map fun e=>(e.t:Int)) ((ts.take i).map GE.w) lo nx'∧(∀ c,c<lo→c≠p7→c≠p5→hget h' c=hget h0 c)∧lo≤nx'
def BuJ1 (N p1 p7 p5 lo:Nat) (vc vv:Value) (h0:Hp) (nx:Nat) (m:Nat) (vs:List Value) (h':Hp) (nx':Nat):Prop :=
 ∃ (i:Nat) (S:List Int),m=N-i∧i≤N∧vs=[.pointer (some ⟨p1,0,none⟩),.pointer (some ⟨p7,0,none⟩),.int .i64 (N:Int),.int .i64 (i:Int)] ∧
  hget h' p7=some (.cells [.int .i64 (N:Int),.int .i64 (N:Int),.slice (some ⟨p5,0,none⟩) (N+1) (N+1),vc,vv] false)∧hget h' p5=some (.cells (ints S) false)∧S.length=N+1∧(∀ (k:Nat) (x:Int),S[k]? = some x→0≤x∧(x≤120∨(k≤i∧x≤120*((k:Int)+1)))) ∧
  (∀ c,c≠p5→hget h' c=hget h0 c)∧nx'=nx
def RowsR (h:Hp) (lo hi:Nat) (r:Value):Prop:=∃ (x y:Int) (v1 v2 v3:Value) (st cl vl:List Int),r = .agg ⟨[.int .i64 x,.int .i64 y,v1,v2,v3]⟩∧SlNw h lo hi v1 encI st∧SlNw h lo hi v2 encI cl∧SlNw h lo hi v3 encI vl∧st.length≤4097∧cl.length≤120∧vl.length≤120
theorem RowsR.form {h:Hp} {lo hi:Nat} {r:Value} (H:RowsR h lo hi r):SomeM r:=by
 obtain ⟨x,y,v1,v2,v3,st,cl,vl,rfl,⟨a1,c1,rfl,_⟩,⟨a2,c2,rfl,_⟩,⟨a3,c3,rfl,_⟩,_⟩:=H
 exact ⟨_,_,_,_,_,_,_,_,_,_,_,rfl⟩
theorem RowsR.keep {h h':Hp} {lo hi lo' hi':Nat} {r:Value} (H:RowsR h lo hi r) (hk:∀ b,lo≤b→b<hi→hget h' b=hget h b) (h1:lo'≤lo) (h2:hi≤hi'):RowsR h' lo' hi' r:=by
 obtain ⟨x,y,v1,v2,v3,st,cl,vl,rfl,s1,s2,s3,l⟩:=H
 exact ⟨x,y,v1,v2,v3,st,cl,vl,rfl,s1.keep hk h1 h2,s2.keep hk h1 h2,s3.keep hk h1 h2,l⟩
theorem nw_nil {h:Hp} {lo hi:Nat}:SlNw h lo hi (.slice none 0 0) encI []:=⟨none,0,rfl,fun e=>absurd rfl e⟩
theorem RowsR.zero {h:Hp} {lo hi:Nat}:RowsR h lo hi (.agg ⟨[.int .i64 0,.int .i64 0,.slice none 0 0,.slice none 0 0,.slice none 0 0]⟩):=⟨0,0,_,_,_,[],[],[],rfl,nw_nil,nw_nil,nw_nil,by simp,by simp,by simp⟩
theorem TwoI.nw {h:Hp} {v1 v2:Value} {l1 l2:List Int} {lo hi:Nat} (T:TwoI h v1 v2 l1 l2 lo hi):SlNw h lo hi v1 encI l1∧SlNw h lo hi v2 encI l2:=by
 rcases T with ⟨rfl,rfl,rfl,rfl⟩ | ⟨b1,b2,hne,h1,h2,h3,h4,rfl,rfl,g1,g2⟩
 ·exact ⟨nw_nil,nw_nil⟩
 ·rw [← flat_ints] at g1 g2
  exact ⟨⟨_,_,rfl,fun _=>⟨b1,_,_,h1,h2,rfl,g1⟩⟩,⟨_,_,rfl,fun _=>⟨b2,_,_,h3,h4,rfl,g2⟩⟩⟩
def BuiltK (nx:Nat) (h:Hp):KC':=fun r h' nx'=>RowsR h' nx nx' r∧Keep nx h h'∧nx≤nx'
theorem built_c {s:Bool} {N:Nat} {ts:List GE} {v:Value} {h:Hp} {nx:Nat} (hv:SlPx h nx v encG ts) (hN:N≤4096) (hl:ts.length≤120) (hok:∀ g∈ts,GOk N g) :
  Cv Q O s 231 [.int .i64 (N:Int),.int .i64 (N:Int),v] h nx (BuiltK nx h):=by
 refine builtv ?_
 obtain ⟨a,cap,rfl,hc⟩:=id hv
 unfold built
 simp (disch:=omega) only [SS,seval]
 refine (empty_c hN).mono ?_
 rintro r h1 _ ⟨rfl,hb1,hk1,rfl⟩
 have g0:=hk1 nx (by omega)
 rw [hnew] at g0
 simp (disch:=omega) only [SS,seval]
 refine Lp.mk (BuJ0 N nx (nx+1+1+1) (nx+1+1) (nx+1+1+1+1) (.slice a ts.length cap) ts h1 nx) ts.length ⟨0,List.replicate (N+1) 0,_,_,rfl,by omega,rfl,hnew _ _ _,by rw [hold (by omega),hold (by omega)]; exact hb1,by simp,fun x hx=>by rw [List.eq_of_mem_replicate hx]; omega,.inl ⟨rfl,rfl,rfl,rfl⟩,fun c h1 h2 h3=>by rw [hold h2,hold h2],Nat.le_refl _⟩ ?_
 rintro m _ h2 nx2 ⟨i,S,vc,vv,rfl,hi,rfl,g7,g5,hSl,hSb,T,hf,hle⟩
 obtain ⟨o1,o2,G1,G2,B1,B2⟩:=T.gr
 obtain ⟨a1,n1,c1,a2,n2,c2,rfl,rfl⟩:=T.form
 rw [builtb0]
 unfold builtl0
 simp (disch:=omega) only [SS,seval]
 refine ⟨fun hlt=>?_,fun hge=>?_⟩
 ·obtain ⟨e,he⟩:=get_ex hlt
  have hem:=hok e (List.mem_of_getElem? he)
  have hef:e.f<N:=hem.1
  obtain ⟨_,b,sp,ro,cx,cs,hb,e1,hg⟩:=hv.at he
  cases e1
  have hg2:=(hf b (by omega) (by omega) (by omega)).trans ((hk1 b (by omega)).trans ((hold (by omega)).trans hg))
  have hrd:loadC (some 3) (i*3) (flat encG ts++cs) = .ok (.agg ⟨[.int .i64 (e.f:Int),.int .i64 (e.t:Int),.int .i64 e.w]⟩):=rdP (enc:=encG) (k:=3) (fun _=>rfl) he (cs:=cs)
  obtain ⟨x,hx⟩:=get_ex (l:=S) (i:=e.f+1) (by omega)
  have hxb:=hSb x (List.mem_of_getElem? hx)
  have hwx:IntKind.wrap .i64 (x+1)=x+1:=wrapD0 (by omega) (by omega)
  simp (disch:=omega) only [SS,hg2,hrd,g7,g5,wrap_s (show e.f<1000000000000 by omega),ints_get hx,hwx,seval]
  refine ⟨by omega,?_⟩
  have hcl:((ts.take i).map fun e=>(e.t:Int)).length=i:=by rw [List.length_map,List.length_take]; omega
  have hvl:((ts.take i).map GE.w).length=i:=by rw [List.length_map,List.length_take]; omega
  refine EK_appI (G1.keep fun c hc=>by have:=B1 c hc; rw [hold (by omega),hold (by omega),hold (by omega),hold (by omega)]) (hnew _ _ _) (by omega) fun h3 hn3 hf3=>?_
  have g73:hget h3 (nx+1+1+1)=some (.cells [.int .i64 (N:Int),.int .i64 (N:Int),.slice (some ⟨nx+1+1,0,none⟩) (N+1) (N+1),.slice a1 n1 c1,.slice a2 n2 c2] false):=by
   rw [hf3 _ (by omega) (fun e=>by have:=B1 _ e; omega),hold (by omega),hold (by omega),hold (by omega),hold (by omega)]; exact g7
  have ge3:hget h3 nx2=some (.cells [.int .i64 (e.f:Int),.int .i64 (e.t:Int),.int .i64 e.w] false):=by
   rw [hf3 _ (by omega) (fun e=>by have:=B1 _ e; omega),hold (by omega),hold (by omega),hnew]
  simp (disch:=omega) only [SS,g73,ge3,seval]
  refine EK_appI (G2.keep fun c hc=>?_) (hnew _ _ _) (by omega) fun h4 hn4 hf4=>?_
  ·have:=B2 c hc
   rw [hold (by omega),hold (by omega),hf3 c (by omega) (fun e=>(B1 c e).2.2 hc),hold (by omega),hold (by omega),hold (by omega),hold (by omega)]
  have g74:hget h4 (nx+1+1+1)=some (.cells [.int .i64 (N:Int),.int .i64 (N:Int),.slice (some ⟨nx+1+1,0,none⟩) (N+1) (N+1),.slice (some ⟨nx2+1+1,0,some 1⟩) (((ts.take i).map fun e=>(e.t:Int)).length+1) (((ts.take i).map fun e=>(e.t:Int)).length+1),.slice a2 n2 c2] false):=by
   rw [hf4 _ (by omega) (fun e=>by have:=B2 _ e; omega),hold (by omega),hnew]
  simp (disch:=omega) only [SS,g74,seval]
  have htk:ts.take (i+1)=ts.take i++[e]:=by rw [List.take_add_one,he]; rfl
  have hfr:∀ c,c<nx+1+1+1+1→c≠nx+1+1+1→c≠nx+1+1→hget h4 c=hget h2 c:=fun c h1 h2 h3=>by
   rw [hf4 c (by omega) (fun e=>by have:=B2 _ e; omega),hold (by omega),hold (by omega),hf3 c (by omega) (fun e=>by have:=B1 _ e; omega),hold (by omega),hold (by omega),hold (by omega),hold (by omega)]
  refine ⟨ts.length-(i+1),by omega,i+1,S.set (e.f+1) (x+1),_,_,rfl,by omega,by rw [wrap_s (by omega)],hnew _ _ _,?_,by rw [List.length_set]; exact hSl,fun z hz=>?_,.inr ⟨nx2+1+1,nx2+1+1+1+1,by omega,by omega,by omega,by omega,by omega,?_,?_,?_,?_⟩,fun c h1 h2 h3=>?_,by omega⟩
  ·rw [hold (by omega),hf4 _ (by omega) (fun e=>by have:=B2 _ e; omega),hold (by omega),hold (by omega),hf3 _ (by omega) (fun e=>by have:=B1 _ e; omega),hold (by omega),hnew]
  ·rcases List.mem_or_eq_of_mem_set hz with hz | rfl
   ·have:=hSb z hz; omega
   ·omega
  ·rw [htk,List.map_append,List.length_append]; rfl
  ·rw [htk,List.map_append,List.length_append]; rfl
  ·rw [hold (by omega),hf4 _ (by omega) (fun e=>by have:=B2 _ e; omega),hold (by omega),hold (by omega),hn3,htk,List.map_append]; rfl
  ·rw [hold (by omega),hn4,htk,List.map_append]; rfl
  ·rw [hold h2,hfr c h1 h2 h3]; exact hf c h1 h2 h3
 ·obtain ⟨T1,T2⟩:=T.nw
  have hie:i=ts.length:=by omega
  subst hie
  rw [List.take_length] at T1 T2
  have hlo:=hle
  refine Lp.mk (BuJ1 N nx (nx+1+1+1) (nx+1+1) (nx+1+1+1+1) (.slice a1 n1 c1) (.slice a2 n2 c2) h2 nx2) N ⟨0,S,rfl,by omega,rfl,g7,g5,hSl,fun k x hx=>?_,fun _ _=>rfl,rfl⟩ ?_
  ·have:=hSb x (List.mem_of_getElem? hx)
   omega
  clear T G1 G2 B1 B2 g5 hSb hSl
  rintro m _ h3 _ ⟨k,S,rfl,hk,rfl,_,g5,hSl,hSb,hf3,rfl⟩
  have g7:=(hf3 (nx+1+1+1) (by omega)).trans g7
  rw [builtb1]
  unfold builtl1
  by_cases hkN:k<N
  ·obtain ⟨x,hx⟩:=get_ex (l:=S) (i:=k+1) (by omega)
   obtain ⟨y,hy⟩:=get_ex (l:=S) (i:=k) (by omega)
   have hxb:=hSb _ x hx
   have hyb:=hSb _ y hy
   have hxy:0≤x+y∧x+y≤120*((k:Int)+1+1):=by omega
   have hwx:IntKind.wrap .i64 (x+y)=x+y:=wrapD0 (by omega) (by omega)
   simp (disch:=omega) only [SS,show (k:Int)<(N:Int) by omega,hkN,g7,g5,wrap_s (show k<1000000000000 by omega),ints_get hx,ints_get hy,hwx,seval]
   refine ⟨⟨by omega,?_⟩,fun h=>absurd trivial h⟩
   refine ⟨N-(k+1),by omega,k+1,S.set (k+1) (x+y),rfl,by omega,rfl,?_,hnew _ _ _,by rw [List.length_set]; exact hSl,fun j z hz=>?_,fun c h3=>by rw [hold h3]; exact hf3 c h3,rfl⟩
   ·rw [hold (by omega)]; exact g7
   ·rw [List.getElem?_set] at hz
    split at hz
    ·rename_i hj
     subst hj
     split at hz
     ·cases hz; omega
     ·cases hz
    ·have:=hSb j z hz; omega
  ·have:k=N:=by omega
   subst this
   have gp:=(hf3 nx (by omega)).trans ((hf nx (by omega) (by omega) (by omega)).trans g0)
   simp (disch:=omega) only [SS,g7,gp,seval]
   refine ⟨fun h=>absurd h (by omega),fun _=>⟨⟨_,_,_,_,_,S,_,_,rfl,⟨_,_,by rw [hSl],fun _=>⟨nx+1+1,none,false,by omega,by omega,rfl,?_⟩⟩,T1.keep ?_ (by omega) (Nat.le_refl _),T2.keep ?_ (by omega) (Nat.le_refl _),by omega,by rw [List.length_map]; exact hl,by rw [List.length_map]; exact hl⟩,fun c hc=>?_,by omega⟩⟩
   ·rw [hold (by omega),flat_ints]; exact g5
   ·intro c h4 h5
    rw [hold (by omega),hf3 c (by omega)]
   ·intro c h4 h5
    rw [hold (by omega),hf3 c (by omega)]
   ·rw [hold (by omega),hf3 c (by omega),hf c (by omega) (by omega) (by omega),hk1 c (by omega),hold (by omega)]
def frG0 (g:GE):Edg3:=((g.f:Int),(g.t:Int),g.w)
theorem flat_frG0:∀ l:List GE,flat encG l=flat enc3 (l.map frG0)
 | []=>rfl
 | x::l=>by show encG x++flat encG l=enc3 (frG0 x)++flat enc3 (l.map frG0); rw [flat_frG0 l]; rfl
theorem px_fr0 {h:Hp} {nx:Nat} {v:Value} {gs:List GE} (hv:SlPx h nx v encG gs):SlPx h nx v enc3 (gs.map frG0):=by
 obtain ⟨a,cap,rfl,hc⟩:=hv
 refine ⟨a,cap,by rw [List.length_map],fun hl=>?_⟩
 obtain ⟨b,sp,ro,cs,h1,h2,h3⟩:=hc (fun e=>hl (by rw [e]; rfl))
 exact ⟨b,sp,ro,cs,h1,h2,by rw [← flat_frG0]; exact h3⟩
theorem right_ok {s:Bool} {gs:List GE} {N:Nat} {h:Hp} {nx:Nat} {v:Value} (hv:SlPx h nx v encG gs) (hN:N≤4096) (hok:∀ g∈gs,GOk N g) (hl:gs.length≤120):Cv Q O s 107 [.agg ⟨[.int .i64 (N:Int),v]⟩] h nx (EqK (.int .i64 0) nx h):=by
 have hV:RightV (N:Int) (gs.map frG0):=by
  refine ⟨by omega,by omega,by rw [List.length_map]; omega,fun e he hb=>?_,fun e he hb=>?_⟩
  ·obtain ⟨g,hg,rfl⟩:=List.mem_map.1 he
   obtain ⟨h1,h2,_⟩:=hok g hg
   have hb:(g.f:Int)<0∨(N:Int)≤g.f∨(g.t:Int)<0∨(N:Int)≤g.t:=hb
   omega
  ·obtain ⟨g,hg,rfl⟩:=List.mem_map.1 he
   obtain ⟨_,_,h1,h2⟩:=hok g hg
   have hb:g.w<0∨2147483647<g.w:=hb
   omega
 have:=right_x (s:=s) (n:=(N:Int)) (px_fr0 hv)
 rw [rightE_V.2 hV] at this
 exact this
theorem rd_e0 {i:Nat} {cs:List GE} {e:GE} (he:cs[i]? = some e):loadC (some 3) (i*3) (flat encG cs) = .ok (.agg ⟨[.int .i64 (e.f:Int),.int .i64 (e.t:Int),.int .i64 e.w]⟩):=rdF (enc:=encG) (k:=3) (fun _=>rfl) he
def CgJ (p1 p4 N:Nat) (ve vg:Value) (ts:List GE) (lo:Nat) (h:Hp) (m:Nat) (vs:List Value) (h':Hp) (nx':Nat):Prop :=
 ∃ (i:Nat) (o:Value),m=ts.length-i∧i≤ts.length∧vs=[.pointer (some ⟨p1,0,none⟩),.pointer (some ⟨p4,0,none⟩),o,ve,.int .i64 (ts.length:Int),.int .i64 (i:Int)]∧SlAt h' o encG 3 (ts.take i) lo nx'∧Keep lo h h'∧lo≤nx'
def MatK (e:Int) (nx:Nat) (h:Hp):KC':=fun r h' nx'=>∃ m,r = .tuple ⟨[m,.int .i64 e]⟩∧RowsR h' nx nx' m∧Keep nx h h'∧nx≤nx'
theorem csrg_c {s:Bool} {gs:List GE} {N:Nat} {h:Hp} {nx:Nat} {v:Value} (hv:SlPx h nx v encG gs) (hN:N≤4096) (hok:∀ g∈gs,GOk N g) (hl:gs.length≤120):Cv Q O s 132 [.agg ⟨[.int .i64 (N:Int),v]⟩] h nx (MatK 0 nx h):=by
 refine csrgv ?_
 obtain ⟨a,cap,rfl,hc⟩:=id hv
 unfold csrg
 simp (disch:=omega) only [SS,seval]
 have K0:∀ {o o'},Keep nx h (hset (hset h nx o) (nx+1) o'):=((Keep.refl _ _).set (Nat.le_refl _)).set (Nat.le_succ _)
 refine (right_ok (hv.keep K0 (by omega)) hN hok hl).mono ?_
 rintro r h1 nx1 ⟨rfl,hk1,hle1⟩
 have g0:=hk1 nx (by omega)
 rw [hold (by omega),hnew] at g0
 have g4:=hk1 (nx+1) (by omega)
 rw [hnew] at g4
 have K1:Keep nx h h1:=K0.trans hk1 (by omega)
 simp (disch:=omega) only [SS,g0,seval]
 refine (turn_c (hv.keep K1 (by omega)) (by omega) hl hok).mono ?_
 rintro r h2 nx2 ⟨v2,ts,rfl,hts,htc,htok,htl,hk2,hle2⟩
 have htl2:ts.length≤gs.length:=Nat.le_trans htl (mapf_len gs)
 obtain ⟨a3,c3,rfl,hc3⟩:=id hts.nw
 simp (disch:=omega) only [SS,seval]
 refine Lp.mk (CgJ nx (nx+1) N (.slice a3 ts.length c3) .nilFunc ts nx2 h2) ts.length ⟨0,_,rfl,by omega,rfl,.inl ⟨rfl,rfl⟩,Keep.refl _ _,Nat.le_refl _⟩ ?_
 rintro m _ h3 nx3 ⟨i,o,rfl,hi,rfl,S,hk3,hle3⟩
 rw [csrgb0]
 unfold csrgl0
 simp (disch:=omega) only [SS,seval]
 refine ⟨fun hlt=>?_,fun hge=>?_⟩
 ·obtain ⟨e,he⟩:=get_ex hlt
  obtain ⟨b,sp,ro,hb1,hb2,rfl,hb⟩:=hc3 (fun e0=>by rw [e0] at hlt; exact absurd hlt (Nat.not_lt_zero _))
  have hb3:=(hk3 b hb2).trans hb
  simp (disch:=omega) only [SS,hb3,rd_e0 he,seval]
  refine EK_appS (enc:=encG) (k:=3) (lo:=nx2) (fun _=>rfl) (fun _=>rfl) (by omega) (S.keep (fun c h1 h2=>by rw [hold (by omega),hold (by omega),hold (by omega)]) (by omega)) (by omega) e (hnew _ _ _) rfl (by rw [List.length_take]; omega) fun v5 h5 hs5 hk5=>?_
  have htk:ts.take (i+1)=ts.take i++[e]:=by rw [List.take_add_one,he]; rfl
  exact ⟨ts.length-(i+1),by omega,i+1,v5,rfl,by omega,by rw [wrap_s (by omega)],by rw [htk]; exact hs5,fun c hc=>by rw [hk5 c hc,hold (by omega),hold (by omega),hold (by omega)]; exact hk3 c hc,by omega⟩
 ·have hie:i=ts.length:=by omega
  subst hie
  rw [List.take_length] at S
  have g03:=(hk3 nx (by omega)).trans ((hk2 nx (by omega)).trans g0)
  have g43:=(hk3 (nx+1) (by omega)).trans ((hk2 (nx+1) (by omega)).trans g4)
  have K3:Keep nx h h3:=(K1.trans hk2 (by omega)).trans hk3 (by omega)
  simp (disch:=omega) only [SS,g03,seval]
  refine (built_c (SlPx.of S.rd) hN (by omega) htok).mono ?_
  rintro r h6 nx6 ⟨hR,hk6,hle6⟩
  obtain ⟨x,y,b1,b2,b3,n1,n2,n3,c1,c2,c4,rfl⟩:=hR.form
  have g46:=(hk6 (nx+1) (by omega)).trans g43
  unfold RowsV
  simp (disch:=omega) only [SS,g46,seval]
  exact ⟨_,rfl,hR.keep (fun c h1 h2=>hold (by omega)) (by omega) (Nat.le_refl _),fun c hc=>by rw [hold (by omega),hk6 c (by omega)]; exact K3 c hc,by omega⟩
structure Sg (N q nx:Nat) (h h':Hp) (nx':Nat) (gs:List GE) (v:Value):Prop where
 g:hget h' q=some (.cells [.int .i64 (N:Int),v] false)
 m:hget h' (q+1)=some (.cells [.int .i64 0,.int .i64 0,.slice none 0 0,.slice none 0 0,.slice none 0 0] false)
 p:SlPx h' nx' v encG gs
 ok:∀ g∈gs,GOk N g
 k:Keep nx h h'
 lt:q+1<nx'
theorem Sg.put {N q nx:Nat} {h h' h2:Hp} {nx' nx2:Nat} {gs ms:List GE} {v r:Value} (S:Sg N q nx h h' nx' gs v) (hq:nx≤q) (hr:CanK N ms nx' h' r h2 nx2):∃ (cs:List GE) (a:Option Addr) (n c:Nat),r = .agg ⟨[.int .i64 (N:Int),.slice a n c]⟩∧cs.length≤ms.length∧hget h2 q=some (.cells [.int .i64 (N:Int),v] false)∧nx'≤nx2∧Sg N q nx h (hset h2 q (.cells [.int .i64 (N:Int),.slice a n c] false)) nx2 cs (.slice a n c):=by
 obtain ⟨v2,cs,rfl,hcs,hcan,hcok,hcl,hk2,hle2⟩:=hr
 have hlt:=S.lt
 obtain ⟨a,n,c,rfl⟩:=hcs.form
 refine ⟨cs,a,n,c,rfl,hcl,(hk2 q (by omega)).trans S.g,hle2,hnew _ _ _,?_,?_,hcok,?_,by omega⟩
 ·rw [hold (by omega),hk2 _ hlt]; exact S.m
 ·refine SlPx.of ?_
  have:SlAt (hset h2 q (.cells [.int .i64 (N:Int),.slice a n c] false)) (.slice a n c) encG 3 cs nx' nx2:=by
   rcases hcs with hcs | ⟨b,h1,h2,e,hb⟩
   ·exact .inl hcs
   ·exact .inr ⟨b,h1,h2,e,by rw [hold (by omega)]; exact hb⟩
  exact this.rd
 ·intro b hb
  rw [hold (by omega),hk2 b (by omega)]; exact S.k b hb
def matE (k n src len:Int) (ds:List Int) (gn:Int) (es:List Edg3):Int:=if planE k n src len ds≠0 then planE k n src len ds else if gn≠n then 4 else rightE gn es
theorem matrix_c {s:Bool} {k n src len gn:Int} {ds:List Int} {es:List Edg3} {vd ve:Value} {h:Hp} {nx:Nat} (hd:SlRd h nx vd encI ds) (he:SlPx h nx ve enc3 es) (hel:es.length≤60) :
  Cv Q O s 49 [.agg ⟨[.int .i64 k,.int .i64 n,.int .i64 src,.int .i64 len,vd]⟩,.agg ⟨[.int .i64 gn,ve]⟩] h nx (MatK (matE k n src len ds gn es) nx h):=by
 refine matrixv ?_
 obtain ⟨a,cap,rfl,hc⟩:=id hd
 obtain ⟨a2,cap2,rfl,hc2⟩:=id he
 unfold matrix
 simp (disch:=omega) only [SS,seval]
 have K0:∀ {o o' o''},Keep nx h (hset (hset (hset h nx o) (nx+1) o') (nx+1+1) o''):=(((Keep.refl _ _).set (Nat.le_refl _)).set (Nat.le_succ _)).set (by omega)
 refine (pright0_c (hd.keep K0 (by omega))).mono ?_
 rintro r h1 nx1 ⟨rfl,hk1,hle1⟩
 have gp:=hk1 nx (by omega)
 rw [hold (by omega),hold (by omega),hnew] at gp
 have gg:=hk1 (nx+1) (by omega)
 rw [hold (by omega),hnew] at gg
 have gm:=hk1 (nx+1+1) (by omega)
 rw [hnew] at gm
 have K1:Keep nx h h1:=K0.trans hk1 (by omega)
 have zero:∀ {h':Hp} {nx':Nat} {o:AObj} {e:Int},matE k n src len ds gn es=e→Keep nx h h'→nx≤nx'→MatK (matE k n src len ds gn es) nx h (.tuple ⟨[.agg ⟨[.int .i64 0,.int .i64 0,.slice none 0 0,.slice none 0 0,.slice none 0 0]⟩,.int .i64 e]⟩) (hset h' (nx+1+1) o) nx':=fun {h' nx' o e} he hk hle=>by
  rw [he]
  exact ⟨_,rfl,RowsR.zero,hk.set (by omega),hle⟩
 generalize hpe:planE k n src len ds=pe at *
 by_cases hp0:pe=0
 case neg =>
  have hb:(pe == 0)=false:=beq_eq_false_iff_ne.2 hp0
  simp (disch:=omega) only [SS,hb,gm,seval]
  exact zero (by unfold matE; rw [hpe,if_pos hp0]) K1 (by omega)
 subst hp0
 simp (disch:=omega) only [SS,gg,gp,seval]
 refine ⟨fun hne=>?_,fun heq=>?_⟩
 ·simp (disch:=omega) only [SS,gm,seval]
  have hne:gn≠n:=by simpa using hne
  exact zero (by unfold matE; rw [hpe,if_neg (by simp),if_pos hne]) K1 (by omega)
 have heq:gn=n:=by simpa using heq
 have hmE:matE k n src len ds gn es=rightE gn es:=by unfold matE; rw [hpe,if_neg (by simp),if_neg (by simp [heq])]
 refine (right_x (he.keep K1 (by omega))).mono ?_
 rintro r h2 nx2 ⟨rfl,hk2,hle2⟩
 have K2:=K1.trans hk2 (by omega)
 have gp2:=(hk2 nx (by omega)).trans gp
 have gg2:=(hk2 (nx+1) (by omega)).trans gg
 have gm2:=(hk2 (nx+1+1) (by omega)).trans gm
 by_cases hr0:rightE gn es=0
 case neg =>
  have hb:(rightE gn es == 0)=false:=beq_eq_false_iff_ne.2 hr0
  simp (disch:=omega) only [SS,hb,gm2,seval]
  exact zero hmE K2 (by omega)
 rw [hr0] at hmE ⊢
 obtain ⟨N,rfl,hN,hfl,hG⟩:=(rightE_V.1 hr0).ges
 have hpx:=((he.keep K1 (by omega)).keep hk2 hle2).map hfl
 rw [← List.length_map (f:=toG)] at hel
 generalize hgs:es.map toG=gs at hel hG hpx
 have hcl:es.length=gs.length:=by rw [← hgs,List.length_map]
 rw [hcl] at gg2 hpx
 have S0:Sg N (nx+1) nx h h2 nx2 gs (.slice a2 gs.length cap2):=⟨gg2,gm2,hpx,hG,K2,by omega⟩
 rw [hmE]
 have tail:∀ {h':Hp} {nx':Nat} {gs:List GE} {a:Option Addr} {n c:Nat},Sg N (nx+1) nx h h' nx' gs (.slice a n c)→nx≤nx'→gs.length≤120→matrixk0 s (MatK 0 nx h) (.pointer (some ⟨nx+1,0,none⟩)) (.pointer (some ⟨nx+1+1,0,none⟩)) h' nx':=fun {h' nx' gs a n c} S hx hl=>by
  have hlt:=S.lt
  unfold matrixk0
  simp (disch:=omega) only [SS,S.g,seval]
  refine (csrg_c S.p hN S.ok hl).mono ?_
  rintro r h6 nx6 ⟨m,rfl,hR,hk6,hle6⟩
  obtain ⟨x,y,b1,b2,b3,n1,n2,n3,c1,c2,c4,rfl⟩:=hR.form
  have g6:=(hk6 _ S.lt).trans S.m
  unfold RowsV
  simp (disch:=omega) only [SS,g6,seval]
  exact ⟨_,rfl,hR.keep (fun c h1 h2=>hold (by omega)) (by omega) (Nat.le_refl _),fun b hb=>by rw [hold (by omega),hk6 b (by omega)]; exact S.k b hb,by omega⟩
 have plain:∀ {h':Hp} {nx':Nat} {gs:List GE} {a:Option Addr} {n c:Nat},Sg N (nx+1) nx h h' nx' gs (.slice a n c)→nx≤nx'→gs.length≤120→Cv Q O s 131 [.agg ⟨[.int .i64 (N:Int),.slice a n c]⟩] h' nx' fun x65 h66 n67=>(vcells x65).length=2∧RK (wrO (hget h66 (nx+1)) h66 (nx+1) 0 (vcells x65)) fun h68=>matrixk0 s (MatK 0 nx h) (.pointer (some ⟨nx+1,0,none⟩)) (.pointer (some ⟨nx+1+1,0,none⟩)) h68 n67:=fun {h' nx' gs a n c} S hx hl=>by
  refine (plain_c S.p (by omega) hl S.ok).mono ?_
  intro r h6 nx6 hr
  obtain ⟨cs,a6,n6,c6,rfl,hcl,hq,hle,S6⟩:=S.put (by omega) hr
  simp (disch:=omega) only [SS,hq,seval]
  exact tail S6 (by omega) (by have:=mapf_len (p:=fun _=>true) (m:=oneG) gs; unfold plainM at hcl; omega)
 have both:∀ {h':Hp} {nx':Nat} {gs:List GE} {a:Option Addr} {n c:Nat},Sg N (nx+1) nx h h' nx' gs (.slice a n c)→nx≤nx'→gs.length≤60→Cv Q O s 130 [.agg ⟨[.int .i64 (N:Int),.slice a n c]⟩] h' nx' fun x45 h46 n47=>(vcells x45).length=2∧RK (wrO (hget h46 (nx+1)) h46 (nx+1) 0 (vcells x45)) fun h48=>RK (cellsO (hget h48 (nx+1)) fun cs x=>loadC (some 2) 0 cs) fun x64=>Cv Q O s 131 [x64] h48 n47 fun x65 h66 n67=>(vcells x65).length=2∧RK (wrO (hget h66 (nx+1)) h66 (nx+1) 0 (vcells x65)) fun h68=>matrixk0 s (MatK 0 nx h) (.pointer (some ⟨nx+1,0,none⟩)) (.pointer (some ⟨nx+1+1,0,none⟩)) h68 n67:=fun {h' nx' gs a n c} S hx hl=>by
  refine (both_c S.p (by omega) hl S.ok).mono ?_
  rintro r h6 nx6 ⟨ts,_,htl,_,hr⟩
  obtain ⟨cs,a6,n6,c6,rfl,hcl,hq,hle,S6⟩:=S.put (by omega) hr
  rw [List.length_append] at hcl
  simp (disch:=omega) only [SS,hq,seval]
  exact plain S6 (by omega) (by omega)
 simp (disch:=omega) only [SS,gg2,gp2,seval]
 refine ⟨fun _=>?_,fun _=>⟨fun _=>both S0 (by omega) hel,fun _=>⟨fun _=>plain S0 (by omega) (by omega),fun _=>tail S0 (by omega) (by omega)⟩⟩⟩
 refine (simple_c S0.p (by omega) (by omega) hG).mono ?_
 intro r h6 nx6 hr
 obtain ⟨cs,a6,n6,c6,rfl,hcl,hq,hle,S6⟩:=S0.put (by omega) hr
 have hml:=mapf_len (p:=noLoop) (m:=id) gs
 unfold simpleM at hcl
 simp (disch:=omega) only [SS,hq,seval]
 exact both S6 (by omega) (by omega)
def mchE (k n src len:Int) (ds:List Int) (gn:Int) (es:List Edg3) (lim:Int):Int:=if matE k n src len ds gn es≠0 then matE k n src len ds gn es else if lim<0∨8192<lim then 3 else 0
theorem mcheck_c {s:Bool} {k n src len gn lim:Int} {ds:List Int} {es:List Edg3} {vd ve:Value} {h:Hp} {nx:Nat} (hd:SlRd h nx vd encI ds) (he:SlPx h nx ve enc3 es) (hel:es.length≤60) :
  Cv Q O s 63 [.agg ⟨[.int .i64 k,.int .i64 n,.int .i64 src,.int .i64 len,vd]⟩,.agg ⟨[.int .i64 gn,ve]⟩,.int .i64 lim] h nx (EqK (.int .i64 (mchE k n src len ds gn es lim)) nx h):=by
 refine mcheckv ?_
 obtain ⟨a,cap,rfl,hc⟩:=id hd
 obtain ⟨a2,cap2,rfl,hc2⟩:=id he
 unfold mcheck
 simp (disch:=omega) only [SS,seval]
 have K0:∀ {o o'},Keep nx h (hset (hset h nx o) (nx+1) o'):=((Keep.refl _ _).set (Nat.le_refl _)).set (Nat.le_succ _)
 refine (matrix_c (hd.keep K0 (by omega)) (he.keep K0 (by omega)) hel).mono ?_
 rintro r h1 nx1 ⟨m,rfl,hR,hk1,hle1⟩
 obtain ⟨x,y,b1,b2,b3,n1,n2,n3,c1,c2,c4,rfl⟩:=hR.form
 have K1:∀ {o o'},Keep nx h (hset (hset h1 nx1 o) nx1 o'):=((K0.trans hk1 (by omega)).set (by omega)).set (by omega)
 unfold RowsV
 by_cases h0:matE k n src len ds gn es=0
 case neg =>
  have hb:(matE k n src len ds gn es == 0)=false:=beq_eq_false_iff_ne.2 h0
  simp (disch:=omega) only [SS,hb,seval]
  exact ⟨by unfold mchE; rw [if_pos h0],K1,by omega⟩
 rw [h0]
 have e:mchE k n src len ds gn es lim=if lim<0∨8192<lim then 3 else 0:=by unfold mchE; rw [h0,if_neg (by simp)]
 simp (disch:=omega) only [SS,seval]
 rw [e]
 refine ⟨fun h2=>⟨by rw [if_pos (.inl h2)],K1,by omega⟩,fun h2=>⟨fun h3=>⟨by rw [if_pos (.inr (by omega))],K1,by omega⟩,fun h3=>⟨by rw [if_neg (by omega)],K1,by omega⟩⟩⟩
def sd (n m:Int):Bool:=decide (1≤n∧n≤m)
structure Stp where
 k:Int
 n:Int
 src:Int
 len:Int
 ds:List Int
 gn:Int
 es:List Edg3
 R:Int
 C:Int
 M:Int
 lim:Int
 nch:Nat
def stpE (x:Stp):Int:=if mchE x.k x.n x.src x.len x.ds x.gn x.es x.lim≠0 then mchE x.k x.n x.src x.len x.ds x.gn x.es x.lim
 else if sd x.R 8=false then 3 else if sd x.C 8=false then 3 else if sd x.M 64=false then 3 else if 8192<x.nch then 5 else 0
def stpV (x:Stp) (vd ve vc:Value):List Value:=[.int .i64 x.k,.int .i64 x.n,.int .i64 x.src,.int .i64 x.len,vd,.int .i64 x.gn,ve,.int .i64 x.R,.int .i64 x.C,.int .i64 x.M,.int .i64 x.lim,vc]
structure StpIs (h:Hp) (nx:Nat) (x:Stp) (vd ve vc:Value):Prop where
 d:SlRd h nx vd encI x.ds
 e:SlPx h nx ve enc3 x.es
 c:∃ a n,vc = .slice a x.nch n
 l:x.es.length≤60
theorem StpIs.keep {h h':Hp} {nx nx':Nat} {x:Stp} {vd ve vc:Value} (H:StpIs h nx x vd ve vc) (hk:Keep nx h h') (hle:nx≤nx'):StpIs h' nx' x vd ve vc:=⟨H.d.keep hk hle,H.e.keep hk hle,H.c,H.l⟩
theorem wcheck_c {s:Bool} {x:Stp} {vd ve vc:Value} {h:Hp} {nx:Nat} (H:StpIs h nx x vd ve vc):Cv Q O s 12 [.agg ⟨stpV x vd ve vc⟩] h nx (EqK (.int .i64 (stpE x)) nx h):=by
 refine wcheckv ?_
 obtain ⟨a,cap,rfl,hc⟩:=id H.d
 obtain ⟨a2,cap2,rfl,hc2⟩:=id H.e
 obtain ⟨a3,cap3,rfl⟩:=H.c
 unfold wcheck stpV
 have K0:∀ {o},Keep nx h (hset h nx o):=(Keep.refl _ _).set (Nat.le_refl _)
 simp (disch:=omega) only [SS,seval]
 refine (mcheck_c (H.d.keep K0 (by omega)) (H.e.keep K0 (by omega)) H.l).mono ?_
 rintro r h1 nx1 ⟨rfl,hk1,hle1⟩
 have g:=hk1 nx (by omega)
 rw [hnew] at g
 have K1:Keep nx h h1:=K0.trans hk1 (by omega)
 generalize hm:mchE x.k x.n x.src x.len x.ds x.gn x.es x.lim=me
 by_cases h0:me=0
 case neg =>
  have hb:(me == 0)=false:=beq_eq_false_iff_ne.2 h0
  simp (disch:=omega) only [SS,hb,seval]
  exact ⟨by unfold stpE; rw [hm,if_pos h0],K1,by omega⟩
 subst h0
 have e:stpE x=if sd x.R 8=false then 3 else if sd x.C 8=false then 3 else if sd x.M 64=false then 3 else if 8192<x.nch then 5 else 0:=by unfold stpE; rw [hm,if_neg (by simp)]
 rw [e]
 simp (disch:=omega) only [SS,g,seval]
 refine wcheck1_c.mono ?_
 rintro r h2 n2 ⟨rfl,e1,e2⟩
 rw [e1,e2]
 change RK (oUn .not (.bool (sd x.R 8))) _
 cases hR:sd x.R 8 with
 | false =>
  simp (disch:=omega) only [SS,g,seval]
  exact ⟨rfl,K1,by omega⟩
 | true =>
 simp (disch:=omega) only [SS,g,seval]
 refine wcheck1_c.mono ?_
 rintro r h2 n2 ⟨rfl,e1,e2⟩
 rw [e1,e2]
 change RK (oUn .not (.bool (sd x.C 8))) _
 cases hC:sd x.C 8 with
 | false =>
  simp (disch:=omega) only [SS,g,seval]
  exact ⟨rfl,K1,by omega⟩
 | true =>
 simp (disch:=omega) only [SS,g,seval]
 refine wcheck1_c.mono ?_
 rintro r h2 n2 ⟨rfl,e1,e2⟩
 rw [e1,e2]
 change RK (oUn .not (.bool (sd x.M 64))) _
 cases hM:sd x.M 64 with
 | false =>
  simp (disch:=omega) only [SS,g,seval]
  exact ⟨rfl,K1,by omega⟩
 | true =>
 simp (disch:=omega) only [SS,g,seval]
 exact ⟨fun h6=>⟨by rw [if_pos (by omega)],K1,by omega⟩,fun h6=>⟨by rw [if_neg (by omega)],K1,by omega⟩⟩
def plyE (x:Stp) (ms:List Mv) (w:Int):Int:=if stpE x≠0 then stpE x else if 1048576<ms.length then 5 else if ms.any (fun m=>!rightM m)=true then 8 else if inB w 1048576=false then 3 else 0
theorem plcheck_c {s:Bool} {x:Stp} {ms:List Mv} {w:Int} {vd ve vc vm:Value} {h:Hp} {nx:Nat} (H:StpIs h nx x vd ve vc) (hm:SlRd h nx vm encM ms) (hml:ms.length≤60∨1048576<ms.length) :
  Cv Q O s 15 [.agg ⟨stpV x vd ve vc⟩,vm,.int .i64 w] h nx (EqK (.int .i64 (plyE x ms w)) nx h):=by
 refine plcheckv ?_
 obtain ⟨a,cap,rfl,hc⟩:=id hm
 unfold plcheck
 have K0:∀ {o},Keep nx h (hset h nx o):=(Keep.refl _ _).set (Nat.le_refl _)
 have el:(stpV x vd ve vc).length=12:=rfl
 obtain ⟨a3,cap3,rfl⟩:=id H.c
 obtain ⟨a1,cap1,rfl,_⟩:=id H.d
 obtain ⟨a2,cap2,rfl,_⟩:=id H.e
 generalize hw:stpV x (.slice a1 x.ds.length cap1) (.slice a2 x.es.length cap2) (.slice a3 x.nch cap3)=sv at *
 have hw2:=hw
 unfold stpV at hw2
 rw [← hw2]
 simp (disch:=omega) only [SS,seval]
 rw [hw2,← hw]
 refine (wcheck_c (H.keep K0 (by omega))).mono ?_
 rintro r h1 nx1 ⟨rfl,hk1,hle1⟩
 have K1:Keep nx h h1:=K0.trans hk1 (by omega)
 by_cases h0:stpE x=0
 case neg =>
  have hb:(stpE x == 0)=false:=beq_eq_false_iff_ne.2 h0
  simp (disch:=omega) only [SS,hb,seval]
  exact ⟨by unfold plyE; rw [if_pos h0],K1,by omega⟩
 have e:plyE x ms w=if 1048576<ms.length then 5 else if ms.any (fun m=>!rightM m)=true then 8 else if inB w 1048576=false then 3 else 0:=by unfold plyE; rw [h0,if_neg (by simp)]
 rw [e,h0]
 simp (disch:=omega) only [SS,seval]
 refine ⟨fun h6=>⟨by rw [if_pos (by omega)],K1,by omega⟩,fun h6=>?_⟩
 rw [if_neg (by omega)]
 refine (contsM_c (hm.keep K1 (by omega)) (by omega) (fun x h nx=>plcheck1_c)).mono ?_
 rintro r h2 nx2 ⟨rfl,hk2,hle2⟩
 have K2:=K1.trans hk2 (by omega)
 cases ha:ms.any (fun m=>!rightM m) with
 | true =>
  simp (disch:=omega) only [SS,seval]
  exact ⟨rfl,K2,by omega⟩
 | false =>
 simp (disch:=omega) only [SS,seval]
 refine plwithin_c.mono ?_
 rintro r h3 n3 ⟨rfl,e1,e2⟩
 rw [e1,e2]
 cases hb:inB w 1048576 with
 | false =>
  simp (disch:=omega) only [SS,seval]
  exact ⟨rfl,K2,by omega⟩
 | true =>
  simp (disch:=omega) only [SS,seval]
  exact ⟨rfl,K2,by omega⟩
def bndV (x:Stp) (r:Int):Int:=if inB r 8192=false then 0 else if stpE x≠0 then 0 else 4*(x.R+x.C+4)*(r+2)
theorem plbound_c {s:Bool} {x:Stp} {w:Int} {vd ve vc:Value} {h:Hp} {nx:Nat} (H:StpIs h nx x vd ve vc) :
  Cv Q O s 17 [.agg ⟨stpV x vd ve vc⟩,.int .i64 w] h nx (EqK (.int .i64 (bndV x w)) nx h):=by
 refine plboundv ?_
 have K0:∀ {o},Keep nx h (hset h nx o):=(Keep.refl _ _).set (Nat.le_refl _)
 obtain ⟨a3,cap3,rfl⟩:=id H.c
 obtain ⟨a1,cap1,rfl,_⟩:=id H.d
 obtain ⟨a2,cap2,rfl,_⟩:=id H.e
 unfold plbound
 have hw2:stpV x (.slice a1 x.ds.length cap1) (.slice a2 x.es.length cap2) (.slice a3 x.nch cap3)=_:=rfl
 unfold stpV at hw2 ⊢
 simp (disch:=omega) only [SS,seval]
 refine plwithin_c.mono ?_
 rintro r h3 n3 ⟨rfl,e1,e2⟩
 rw [e1,e2]
 unfold plboundk0
 cases hb:inB w 8192 with
 | false =>
  simp (disch:=omega) only [SS,seval]
  exact ⟨by unfold bndV; rw [hb]; rfl,K0,by omega⟩
 | true =>
 have e:bndV x w=if stpE x≠0 then 0 else 4*(x.R+x.C+4)*(w+2):=by unfold bndV; rw [hb]; rfl
 rw [e]
 simp (disch:=omega) only [SS,seval]
 refine (wcheck_c (H.keep K0 (by omega))).mono ?_
 rintro r h1 nx1 ⟨rfl,hk1,hle1⟩
 have g:=hk1 nx (by omega)
 rw [hnew] at g
 have K1:Keep nx h h1:=K0.trans hk1 (by omega)
 by_cases h0:stpE x=0
 case neg =>
  have hb:(stpE x == 0)=false:=beq_eq_false_iff_ne.2 h0
  simp (disch:=omega) only [SS,hb,seval]
  exact ⟨by rw [if_pos h0],K1,by omega⟩
 have hok:(1≤x.R∧x.R≤8)∧1≤x.C∧x.C≤8:=by
  unfold stpE at h0
  split at h0
  ·contradiction
  ·split at h0
   ·cases h0
   ·split at h0
    ·cases h0
    ·rename_i h1 h2 h3
     exact ⟨of_decide_eq_true (by unfold sd at h2; simpa using h2),of_decide_eq_true (by unfold sd at h3; simpa using h3)⟩
 have hw:0≤w∧w≤8192:=of_decide_eq_true hb
 obtain ⟨⟨hR1,hR2⟩,hC1,hC2⟩:=hok
 have m1:0≤(4*(x.R+x.C+4))*(w+2):=Int.mul_nonneg (by omega) (by omega)
 have m2:(4*(x.R+x.C+4))*(w+2)≤80*8194:=Int.mul_le_mul (by omega) (by omega) (by omega) (by omega)
 have wI:∀ n:Int,-9223372036854775808≤n→n≤9223372036854775807→fwrap .i64 n=n:=fun n h0 h1=>by rw [fwrap_eq]; exact wrapD0 h0 h1
 rw [h0,if_neg (by simp)]
 simp (disch:=omega) only [SS,g,seval]
 refine ⟨?_,K1,by omega⟩
 rw [wrapD0 (n:=x.R+x.C) (by omega) (by omega),wrapD0 (n:=x.R+x.C+4) (by omega) (by omega),wI (Int.mul 4 (x.R+x.C+4)) (by show _≤4*(x.R+x.C+4); omega) (by show 4*(x.R+x.C+4)≤_; omega),wrapD0 (n:=w+2) (by omega) (by omega)]
 show Value.int .i64 (fwrap .i64 (4*(x.R+x.C+4)*(w+2)))=_
 rw [wI _ (by omega) (by omega)]
theorem any_no {p:Edg3→Bool} {q:Edg3→Prop} (hpq:∀ e,p e=true↔q e) {l:List Edg3} (h:∀ x∈l,¬ q x):¬ l.any p=true:=fun e=>by
 obtain ⟨x,hx,hb⟩:=List.any_eq_true.1 e
 exact h x hx ((hpq x).1 hb)
theorem rright_x {s:Bool} {n:Int} {v:Value} {es:List Edg3} {h:Hp} {nx:Nat} (hv:SlPx h nx v enc3 es) :
  Cv Q O s 114 [.agg ⟨[.int .i64 n,v]⟩] h nx (EqK (.int .i64 (rightE n es)) nx h):=by
 refine rrightv ?_
 obtain ⟨a,cap,rfl,hc⟩:=id hv
 have K1:∀ {o},Keep nx h (hset h nx o):=(Keep.refl _ _).set (Nat.le_refl _)
 have no:∀ {e:Int},rightE n es=e→∀ {h' nx'},Keep nx h h'→nx≤nx'→EqK (.int .i64 (rightE n es)) nx h (.int .i64 e) h' nx':=fun he _ _ hk hle=>⟨by rw [he],hk,hle⟩
 unfold rright rrightk0
 simp (disch:=omega) only [SS,seval]
 refine ⟨fun h1=>no (by unfold rightE; rw [if_pos h1]) K1 (by omega),fun h1=>⟨fun h2=>no (by unfold rightE; rw [if_neg h1,if_pos (.inl h2)]) K1 (by omega),fun h2=>⟨fun h3=>no (by unfold rightE; rw [if_neg h1,if_pos (.inr (by omega))]) K1 (by omega),fun h3=>?_⟩⟩⟩
 have h23:¬ (4096<n∨65536<es.length):=by omega
 have eE:rightE n es=if es.any (badE n)=true then 3 else if es.any badW=true then 7 else 0:=by unfold rightE; rw [if_neg h1,if_neg h23]
 refine Lp.mk (RriJ (BadE n) n es (.slice a es.length cap) (.int .i64 0) nx h) es.length ⟨0,by omega,by omega,rfl,hnew _ _ _,K1,Nat.le_refl _,by simp⟩ ?_
 rintro _ _ h' nx' ⟨i,rfl,hi,rfl,hg,hk,hle,hno⟩
 rw [rrightb0]
 unfold rrightl0
 simp (disch:=omega) only [SS,hg,seval]
 refine ⟨fun hlt=>?_,fun hge=>?_⟩
 ·obtain ⟨x,hx⟩:=get_ex hlt
  obtain ⟨_,b,sp,ro,c1,cs,hb,e1,hgb⟩:=hv.at hx
  cases e1
  have hxm:=List.mem_of_getElem? hx
  have kk:∀ {o o'},Keep nx h (hset (hset h' nx' o) nx' o'):=(hk.set (by omega)).set (by omega)
  have bad:BadE n x→∀ {o o'},EqK (.int .i64 (rightE n es)) nx h (.int .i64 3) (hset (hset h' nx' o) nx' o') (nx'+1):=fun hb _ _=>no (by rw [eE,if_pos (List.any_eq_true.2 ⟨x,hxm,badE_iff.2 hb⟩)]) kk (by omega)
  simp (disch:=omega) only [SS,(hk b hb).trans hgb,rdP (enc:=enc3) (k:=3) (fun _=>rfl) hx,enc3,hg,wrap_s (show i<1000000000000 by omega),seval]
  refine ⟨fun h1=>bad (by unfold BadE; omega),fun h1=>⟨fun h2=>bad (by unfold BadE; omega),fun h2=>⟨fun h3=>bad (by unfold BadE; omega),fun h3=>⟨fun h4=>bad (by unfold BadE; omega),fun h4=>?_⟩⟩⟩⟩
  exact ⟨_,by omega,i+1,rfl,hlt,rfl,by rw [hold (by omega),hold (by omega)]; exact hg,kk,by omega,take_no hx hno (by unfold BadE; omega)⟩
 ·have:i=es.length:=by omega
  subst this
  rw [List.take_length] at hno
  rw [if_neg (any_no (fun _=>badE_iff) hno)] at eE
  refine Lp.mk (RriJ BadW n es (.slice a es.length cap) (.int .i64 0) nx h) es.length ⟨0,by omega,by omega,rfl,hg,hk,hle,by simp⟩ ?_
  rintro _ _ h' nx' ⟨i,rfl,hi,rfl,hg,hk,hle,hno2⟩
  rw [rrightb1]
  unfold rrightl1
  simp (disch:=omega) only [SS,hg,seval]
  refine ⟨fun hlt=>?_,fun hge=>?_⟩
  ·obtain ⟨x,hx⟩:=get_ex hlt
   obtain ⟨_,b,sp,ro,c1,cs,hb,e1,hgb⟩:=hv.at hx
   cases e1
   have hxm:=List.mem_of_getElem? hx
   have bad:BadW x→EqK (.int .i64 (rightE n es)) nx h (.int .i64 7) h' nx':=fun hb=>no (by rw [eE,if_pos (List.any_eq_true.2 ⟨x,hxm,badW_iff.2 hb⟩)]) hk (by omega)
   have hw:=cellP (enc:=enc3) (k:=3) (fun _=>rfl) hx (j:=2) (by omega) (cs:=cs)
   rw [show (enc3 x)[2]? = some (.int .i64 x.2.2) from rfl] at hw
   simp (disch:=omega) only [SS,(hk b hb).trans hgb,hw,hg,wrap_s (show i<1000000000000 by omega),seval]
   refine ⟨fun h1=>bad (by unfold BadW; omega),fun h1=>⟨fun h2=>bad (by unfold BadW; omega),fun h2=>?_⟩⟩
   exact ⟨_,by omega,i+1,rfl,hlt,rfl,hg,hk,by omega,take_no hx hno2 (by unfold BadW; omega)⟩
  ·have:i=es.length:=by omega
   subst this
   rw [List.take_length] at hno2
   exact no (by rw [eE,if_neg (any_no (fun _=>badW_iff) hno2)]) hk (by omega)
theorem rfrom_c {s:Bool} {k:Int} {h:Hp} {nx:Nat}:Cv Q O s 156 [.int .i64 k] h nx (fun r h' nx'=>r = .bool (decide (k=4∨k=1∨k=2))∧h'=h∧nx'=nx):=by
 refine rfromv ?_
 unfold rfrom
 simp (disch:=omega) only [SS,seval]
 refine ⟨fun h1=>?_,fun h1=>⟨fun h2=>?_,fun h2=>?_⟩⟩
 ·have h1:k=1:=by simpa using h1
  rw [decide_eq_true (by omega)]
 ·have h2:k=2:=by simpa using h2
  rw [decide_eq_true (by omega)]
 have h1:k≠1:=by simpa using h1
 have h2:k≠2:=by simpa using h2
 by_cases h4:k=4
 ·rw [decide_eq_true (Or.inl h4),h4]; rfl
 ·rw [decide_eq_false (by omega),beq_eq_false_iff_ne.2 h4]
def RpJ (p1:Nat) (k n src len:Int) (ds:List Int) (v:Value) (nx:Nat) (h:Hp) (m:Nat) (vs:List Value) (h':Hp) (nx':Nat):Prop :=
 ∃ i:Nat,m=ds.length-i∧i≤ds.length∧vs=[.pointer (some ⟨p1,0,none⟩),.int .i64 0,.int .i64 (i:Int)]∧hget h' p1=some (.cells [.int .i64 k,.int .i64 n,.int .i64 src,.int .i64 len,v] false)∧Keep nx h h'∧nx+1≤nx'∧∀ x∈ds.take i,badD x=false
theorem rpright0_c {s:Bool} {k n src len:Int} {ds:List Int} {v:Value} {h:Hp} {nx:Nat} (hv:SlRd h nx v encI ds):Cv Q O s 146 [.agg ⟨[.int .i64 k,.int .i64 n,.int .i64 src,.int .i64 len,v]⟩] h nx (EqK (.int .i64 (planE k n src len ds)) nx h):=by
 refine rpright0v ?_
 obtain ⟨a,cap,rfl,hc⟩:=id hv
 unfold rpright0
 have K1:∀ {o},Keep nx h (hset h nx o):=(Keep.refl _ _).set (Nat.le_refl _)
 have no:∀ {e:Int},planE k n src len ds=e→∀ {h' nx'},Keep nx h h'→nx≤nx'→EqK (.int .i64 (planE k n src len ds)) nx h (.int .i64 e) h' nx':=fun he _ _ hk hle=>⟨by rw [he],hk,hle⟩
 have r0:(planE k n src len ds=3)→rpright0k0 s (EqK (.int .i64 (planE k n src len ds)) nx h) (.pointer (some ⟨nx,0,none⟩)) (.bool true) (hset h nx (.cells [.int .i64 k,.int .i64 n,.int .i64 src,.int .i64 len,.slice a ds.length cap] false)) (nx+1):=fun e=>by
  unfold rpright0k0
  simp (disch:=omega) only [SS,seval]
  exact no e K1 (by omega)
 have r1:(planE k n src len ds=if 65536<ds.length then 5 else if ds.any badD=true then 7 else 0)→rpright0k0 s (EqK (.int .i64 (planE k n src len ds)) nx h) (.pointer (some ⟨nx,0,none⟩)) (.bool false) (hset h nx (.cells [.int .i64 k,.int .i64 n,.int .i64 src,.int .i64 len,.slice a ds.length cap] false)) (nx+1):=fun e=>by
  unfold rpright0k0
  simp (disch:=omega) only [SS,seval]
  refine ⟨fun h5=>no (by rw [e,if_pos (by omega)]) K1 (by omega),fun h5=>?_⟩
  rw [if_neg (show ¬ 65536<ds.length by omega)] at e
  refine Lp.mk (RpJ nx k n src len ds (.slice a ds.length cap) nx h) ds.length ⟨0,by omega,by omega,rfl,hnew _ _ _,K1,Nat.le_refl _,by simp⟩ ?_
  rintro _ _ h' nx' ⟨i,rfl,hi,rfl,hg,hk,hle,hno⟩
  rw [rpright0b0]
  unfold rpright0l0
  simp (disch:=omega) only [SS,hg,seval]
  refine ⟨fun hlt=>?_,fun hge=>?_⟩
  ·obtain ⟨x,hx⟩:=get_ex hlt
   obtain ⟨_,b,sp,ro,c1,hb,e1,hgb⟩:=hv.at hx
   cases e1
   rw [flat_ints] at hgb
   have hxm:=List.mem_of_getElem? hx
   have bad:badD x=true→EqK (.int .i64 (planE k n src len ds)) nx h (.int .i64 7) h' nx':=fun hb=>no (by rw [e,if_pos (List.any_eq_true.2 ⟨x,hxm,hb⟩)]) hk (by omega)
   simp (disch:=omega) only [SS,(hk b hb).trans hgb,ints_get hx,hg,wrap_s (show i<1000000000000 by omega),seval]
   refine ⟨fun h1=>bad (by unfold badD; simp [h1]),fun h1=>⟨fun h2=>bad (by unfold badD; simp [h2]),fun h2=>?_⟩⟩
   exact ⟨_,by omega,i+1,rfl,hlt,rfl,hg,hk,by omega,take_s hx hno (by unfold badD; exact decide_eq_false (by omega))⟩
  ·have:i=ds.length:=by omega
   subst this
   rw [List.take_length] at hno
   exact no (by rw [e,any_f hno,if_neg (by simp)]) hk (by omega)
 have k1:(k≤0∨5<k)→rpright0k1 s (EqK (.int .i64 (planE k n src len ds)) nx h) (.pointer (some ⟨nx,0,none⟩)) (.bool true) (hset h nx (.cells [.int .i64 k,.int .i64 n,.int .i64 src,.int .i64 len,.slice a ds.length cap] false)) (nx+1):=fun hk=>by
  unfold rpright0k1
  simp (disch:=omega) only [SS,seval]
  exact no (by unfold planE; rw [if_pos hk]) K1 (by omega)
 simp (disch:=omega) only [SS,seval]
 refine ⟨fun h0=>k1 (.inl (by omega)),fun h0=>?_⟩
 by_cases h5:5<k
 ·rw [decide_eq_true h5]; exact k1 (.inr h5)
 rw [decide_eq_false h5]
 have hk:¬ (k≤0∨5<k):=by omega
 have e0:planE k n src len ds=if ¬ (0≤n∧n≤4096) then 3 else if k=4∧¬ (0≤len∧len≤8192) then 3 else if (k=4∨k=1∨k=2)∧¬ (0≤src∧src≤n-1) then 3 else if 65536<ds.length then 5 else if ds.any badD=true then 7 else 0:=by unfold planE; rw [if_neg hk]
 unfold rpright0k1
 simp (disch:=omega) only [SS,seval]
 refine ⟨fun h1=>r0 (by rw [e0,if_pos (by omega)]),fun h1=>⟨fun h2=>r0 (by rw [e0,if_pos (by omega)]),fun h2=>?_⟩⟩
 have hn:¬ ¬ (0≤n∧n≤4096):=by omega
 rw [if_neg hn] at e0
 refine rfrom_c.mono ?_
 rintro r h3 n3 ⟨rfl,e1,e2⟩
 rw [e1,e2]
 have len4:k=4→(0≤src∧src≤n-1)→Bool→True:=fun _ _ _=>trivial
 have walks:(((k=4∨k=1∨k=2)∧¬ (0≤src∧src≤n-1))→False)→IF (.bool (k == 4)) (IF (.bool (decide (len<0))) (rpright0k0 s (EqK (.int .i64 (planE k n src len ds)) nx h) (.pointer (some ⟨nx,0,none⟩)) (.bool true) (hset h nx (.cells [.int .i64 k,.int .i64 n,.int .i64 src,.int .i64 len,.slice a ds.length cap] false)) (nx+1)) (rpright0k0 s (EqK (.int .i64 (planE k n src len ds)) nx h) (.pointer (some ⟨nx,0,none⟩)) (.bool (decide (8192<len))) (hset h nx (.cells [.int .i64 k,.int .i64 n,.int .i64 src,.int .i64 len,.slice a ds.length cap] false)) (nx+1))) (rpright0k0 s (EqK (.int .i64 (planE k n src len ds)) nx h) (.pointer (some ⟨nx,0,none⟩)) (.bool false) (hset h nx (.cells [.int .i64 k,.int .i64 n,.int .i64 src,.int .i64 len,.slice a ds.length cap] false)) (nx+1)):=fun hs=>by
  rw [IF_b]
  refine ⟨fun h4=>?_,fun h4=>?_⟩
  ·have h4:k=4:=by simpa using h4
   rw [IF_b]
   refine ⟨fun h6=>r0 (by rw [e0,if_pos ⟨h4,by simp at h6; omega⟩]),fun h6=>?_⟩
   have h6:¬ len<0:=by simpa using h6
   by_cases h7:8192<len
   ·rw [decide_eq_true h7]; exact r0 (by rw [e0,if_pos ⟨h4,by omega⟩])
   ·rw [decide_eq_false h7]; exact r1 (by rw [e0,if_neg (by omega),if_neg hs])
  ·have h4:k≠4:=by simpa using h4
   exact r1 (by rw [e0,if_neg (fun h=>h4 h.1),if_neg hs])
 by_cases hf:k=4∨k=1∨k=2
 ·rw [decide_eq_true hf]
  have bad:¬ (0≤src∧src≤n-1)→planE k n src len ds=3:=fun hs=>by
   rw [e0]
   split
   ·rfl
   ·rw [if_pos ⟨hf,hs⟩]
  simp (disch:=omega) only [SS,seval]
  refine ⟨fun h6=>r0 (bad (by omega)),fun h6=>⟨fun h7=>r0 (bad (by omega)),fun h7=>?_⟩⟩
  have:=walks (fun h=>h.2 (by omega))
  rw [IF_b,IF_b] at this
  simpa using this
 ·rw [decide_eq_false hf]
  simp (disch:=omega) only [SS,seval]
  have:=walks (fun h=>hf h.1)
  rw [IF_b,IF_b] at this
  simpa using this
theorem EK_appY {h:Hp} {nx lo hi:Nat} {v v2:Value} {l y:List GE} (hv:SlAt h v encG 3 l lo hi) (hlo:lo≤hi) (hhi:hi≤nx) (hy:SlPx h nx v2 encG y) (hsz:(l.length+y.length)*3≤1000000) {K:Value→Hp→Nat→Prop}
  (hK:∀ v' h' nx',(∀ h2,(∀ b,(lo≤b∧b<hi∨nx≤b∧b<nx')→hget h2 b=hget h' b)→SlAt h2 v' encG 3 (l++y) lo nx')→(∀ b,(b<lo∨hi≤b∧b<nx)→hget h' b=hget h b)→nx≤nx'→K v' h' nx'):EK (orR (appendA 3 h nx v v2)) K:=by
 obtain ⟨a2,c2,rfl,hc⟩:=hy
 by_cases h0:y=[]
 ·subst h0
  have hr:∀ (K:List Value→R OR),readA h a2 (Nat.mul 0 3) K=K []:=fun K=>by
   cases a2 <;> rfl
  have key:appendA 3 h nx v (.slice a2 ([]:List GE).length c2) = .ok (.val v h nx):=by
   rcases hv with ⟨rfl,rfl⟩ | ⟨b,h1,h2,rfl,hb⟩
   ·show readA h a2 (Nat.mul 0 3) (fun new=>appGo 3 h nx none 0 0 0 new)=_
    rw [hr]; rfl
   ·show readA h a2 (Nat.mul 0 3) (fun new=>appGo 3 h nx (some ⟨b,0,some 3⟩) l.length l.length 0 new)=_
    rw [hr]
    unfold appGo
    rw [show Nat.ble (Nat.add l.length 0) l.length=true from Nat.ble_eq_true_of_le (Nat.le_refl _)]
    rfl
  rw [key]
  exact hK v h nx (fun h2 k=>by rw [List.append_nil]; exact hv.keep (fun b h1 h2=>k b (by omega)) hhi) (fun _ _=>rfl) (Nat.le_refl _)
 ·obtain ⟨b2,sp,ro,cs2,hb2,rfl,hg⟩:=hc h0
  have hyl:0<y.length:=List.length_pos_iff.2 h0
  have hfl:=flat_len (enc:=encG) (k:=3) (fun _=>rfl) (l:=y)
  have hfa:=flat_len (enc:=encG) (k:=3) (fun _=>rfl) (l:=l)
  have hread:∀ (K:List Value→R OR),readA h (some ⟨b2,0,sp⟩) (Nat.mul y.length 3) K=K (flat encG y):=fun K=>by
   rw [show Nat.mul y.length 3=y.length*3 from rfl,readA_eq hg (by omega) (by rw [List.length_append,hfl]; omega),List.drop_zero,← hfl,List.take_left]
  have e2:(Nat.ble (Nat.mul (Nat.add l.length y.length) 3) 1000000&&Nat.ble (Nat.add l.length y.length) 1000000)=true:=by
   simp only [Bool.and_eq_true,Nat.ble_eq]
   exact ⟨hsz,by show l.length+y.length≤1000000; omega⟩
  have e1:Nat.ble (Nat.add l.length y.length) l.length=false:=by
   cases hb:Nat.ble (Nat.add l.length y.length) l.length with
   | false=>rfl
   | true=>have:=Nat.le_of_ble_eq_true hb; have:l.length+y.length≤l.length:=this; omega
  rcases hv with ⟨rfl,rfl⟩ | ⟨b,h1,h2,rfl,hb⟩
  ·have key:appendA 3 h nx (.slice none 0 0) (.slice (some ⟨b2,0,sp⟩) y.length c2) = .ok (.val (.slice (some ⟨nx,0,some 3⟩) y.length y.length) (hset h nx (.cells (flat encG y) false)) (nx+1)):=by
    show readA h (some ⟨b2,0,sp⟩) (Nat.mul y.length 3) (fun new=>appGo 3 h nx none 0 0 y.length new)=_
    rw [hread]
    unfold appGo
    rw [show Nat.ble (Nat.add 0 y.length) 0=false from e1,show (Nat.ble (Nat.mul (Nat.add 0 y.length) 3) 1000000&&Nat.ble (Nat.add 0 y.length) 1000000)=true from e2]
    show growN h nx 3 (flat encG y) (Nat.add 0 y.length)=_
    rw [show Nat.add 0 y.length=y.length from Nat.zero_add _]
    exact growN_eq (s:=3) (by omega)
   rw [key]
   exact hK _ _ _ (fun h2 k=>.inr ⟨nx,by omega,Nat.lt_succ_self _,rfl,by rw [k nx (by omega)]; exact hnew _ _ _⟩) (fun c hc=>hold (by omega)) (Nat.le_succ _)
  ·have key:appendA 3 h nx (.slice (some ⟨b,0,some 3⟩) l.length l.length) (.slice (some ⟨b2,0,sp⟩) y.length c2) = .ok (.val (.slice (some ⟨nx,0,some 3⟩) (l.length+y.length) (l.length+y.length)) (hset (hdel h b) nx (.cells (flat encG (l++y)) false)) (nx+1)):=by
    show readA h (some ⟨b2,0,sp⟩) (Nat.mul y.length 3) (fun new=>appGo 3 h nx (some ⟨b,0,some 3⟩) l.length l.length y.length new)=_
    rw [hread]
    unfold appGo
    rw [e1,e2]
    show appUp h nx 3 (some ⟨b,0,some 3⟩) l.length l.length (l.length+y.length) (flat encG y)=_
    unfold appUp
    simp only [cellsOf_some hb]
    have hcut:lcut (Nat.mul l.length 3) (ldrop (flat encG l) 0)=some (flat encG l):=by
     rw [ldrop_eq,List.drop_zero,lcut_eq,if_pos (by rw [hfa]; exact Nat.le_refl _)]
     rw [List.take_of_length_le (by rw [hfa]; exact Nat.le_refl _)]
    rw [hcut]
    have e3:(!false&&Nat.beq 0 0&&Nat.beq (llen (flat encG l)) (Nat.mul l.length 3)&&Nat.beq 3 3&&Nat.beq l.length l.length&&cellL (flat encG y))=true:=by
     rw [llen_eq,hfa,cellL_flat]
     simp
    show (bif _ then _ else _)=_
    rw [e3,lapp_eq,flat_cat]
    exact growN_eq (s:=3) (by omega)
   rw [key]
   exact hK _ _ _ (fun h2 k=>.inr ⟨nx,by omega,Nat.lt_succ_self _,by rw [List.length_append],by rw [k nx (by omega)]; exact hnew _ _ _⟩) (fun c hc=>by rw [hold (by omega),hgd,if_neg (by omega)]) (Nat.le_succ _)
def MkJ (p:GE→Bool) (m:GE→GE) (gs:List GE) (N:Nat) (v:Value) (nx:Nat) (h:Hp) (q:Nat) (vs:List Value) (h':Hp) (nx':Nat):Prop :=
 ∃ (i:Nat) (o:Value),q=gs.length-i∧i≤gs.length∧vs=[.pointer (some ⟨nx,0,none⟩),.pointer (some ⟨nx+1,0,none⟩),.pointer (some ⟨nx+1+1,0,none⟩),.int .i64 (i:Int)]∧hget h' nx=some (.cells [.int .i64 (N:Int),v] false)∧hget h' (nx+1)=some (.cells [.int .i64 0,.slice none 0 0] false) ∧
  hget h' (nx+1+1)=some (.cells [.int .i64 (N:Int),o] false)∧SlAt h' o encG 3 (((gs.take i).filter p).map m) (nx+1+1+1) nx'∧Keep nx h h'∧nx+1+1+1≤nx'
theorem MkJ.tk {p:GE→Bool} {m:GE→GE} {gs:List GE} {i:Nat} {e:GE} (he:gs[i]? = some e):((gs.take (i+1)).filter p).map m=((gs.take i).filter p).map m++(if p e then [m e] else []):=by
 rw [List.take_add_one,he,List.filter_append,List.map_append]
 cases hp:p e <;> simp [hp]
theorem MkJ.ln {p:GE→Bool} {m:GE→GE} {gs:List GE} {i:Nat} (hl:gs.length≤120):((((gs.take i).filter p).map m).length+1)*3≤1000000:=by
 have h1:=List.length_filter_le p (gs.take i)
 have h2:(gs.take i).length≤gs.length:=by rw [List.length_take]; omega
 rw [List.length_map]
 omega
theorem MkJ.put {p:GE→Bool} {m:GE→GE} {gs:List GE} {N:Nat} {v:Value} {nx:Nat} {h h1:Hp} {i:Nat} {e:GE} {o:Value} {nx1:Nat} {K:Value→Hp→Nat→Prop} (he:gs[i]? = some e) (hp:p e=true) (hl:gs.length≤120)
  (g0:hget h1 nx=some (.cells [.int .i64 (N:Int),v] false)) (g1:hget h1 (nx+1)=some (.cells [.int .i64 0,.slice none 0 0] false)) (g2:hget h1 (nx+1+1)=some (.cells [.int .i64 (N:Int),o] false)) (S:SlAt h1 o encG 3 (((gs.take i).filter p).map m) (nx+1+1+1) nx1) (hk:Keep nx h h1) (hle:nx+1+1+1≤nx1)
  {b2:Nat} (h2:Hp) (hb2:hget h2 b2=some (.cells (encG (m e)) false)) (hkk:∀ b,b<nx1→hget h2 b=hget h1 b) {nx2:Nat} (hle2:nx1≤nx2)
  (hK:∀ v5 h5,(∀ b,b<nx+1+1+1→hget h5 b=hget h1 b)→(∀ h6,h6=hset h5 (nx+1+1) (.cells [.int .i64 (N:Int),v5] false)→MkJ p m gs N v nx h (gs.length-(i+1)) [.pointer (some ⟨nx,0,none⟩),.pointer (some ⟨nx+1,0,none⟩),.pointer (some ⟨nx+1+1,0,none⟩),.int .i64 ((i+1:Nat):Int)] h6 (nx2+1))→(∃ a n c,v5 = .slice a n c)→K v5 h5 (nx2+1)) :
  EK (orR (appendA 3 h2 nx2 o (.slice (some ⟨b2,0,some 3⟩) 1 1))) K:=by
 have hlt:=(List.getElem?_eq_some_iff.1 he).1
 refine EK_appS (enc:=encG) (k:=3) (lo:=nx+1+1+1) (fun _=>rfl) (fun _=>rfl) (by omega) (S.keep (fun c h1 h2=>hkk c h2) hle2) (by omega) (m e) hb2 rfl (MkJ.ln hl) fun v5 h5 hs5 hk5=>?_
 refine hK v5 h5 (fun b hb=>by rw [hk5 b hb,hkk b (by omega)]) (fun h6 e6=>?_) hs5.form
 subst e6
 refine ⟨i+1,v5,rfl,hlt,rfl,?_,?_,hnew _ _ _,?_,fun c hc=>?_,by omega⟩
 ·rw [hold (by omega),hk5 _ (by omega),hkk _ (by omega)]; exact g0
 ·rw [hold (by omega),hk5 _ (by omega),hkk _ (by omega)]; exact g1
 ·rw [MkJ.tk he,hp]
  exact hs5.keep (fun c h1 h2=>hold (by omega)) (Nat.le_refl _)
 ·rw [hold (by omega),hk5 _ (by omega),hkk _ (by omega)]; exact hk c hc
theorem MkJ.fin {s:Bool} {p:GE→Bool} {m:GE→GE} {gs:List GE} {N:Nat} {nx:Nat} {h h1:Hp} {o:Value} {nx1:Nat} (hN:N≤4096) (hl:gs.length≤120) (hok:∀ g∈(gs.filter p).map m,GOk N g)
  (g1:hget h1 (nx+1)=some (.cells [.int .i64 0,.slice none 0 0] false)) (S:SlAt h1 o encG 3 ((gs.filter p).map m) (nx+1+1+1) nx1) (hk:Keep nx h h1) (hle:nx+1+1+1≤nx1) :
  Cv Q O s 243 [.agg ⟨[.int .i64 (N:Int),o]⟩] h1 nx1 fun x48 h49 n50=>(vcells x48).length=2∧RK (wrO (hget h49 (nx+1)) h49 (nx+1) 0 (vcells x48)) fun h51=>RK (cellsO (hget h51 (nx+1)) fun cs x=>loadC (some 2) 0 cs) fun x52=>CanK N ((gs.filter p).map m) nx h x52 h51 n50:=by
 have hml:((gs.filter p).map m).length≤gs.length:=by rw [List.length_map]; exact List.length_filter_le _ _
 refine (rcanon_c (SlPx.of S.rd) hN hok (by omega)).mono ?_
 rintro r h2 nx2 ⟨v2,cs,rfl,hcs,hcan,hcok,hcl,hk2,hle2⟩
 obtain ⟨a3,n3,c3,rfl⟩:=hcs.form
 have g4':=(hk2 (nx+1) (by omega)).trans g1
 simp (disch:=omega) only [SS,g4',seval]
 refine ⟨_,cs,rfl,?_,hcan,hcok,hcl,fun c hc=>by rw [hold (by omega),hk2 c (by omega)]; exact hk c hc,by omega⟩
 rcases hcs with hcs | ⟨b,h1,h2,e,hb⟩
 ·exact .inl hcs
 ·exact .inr ⟨b,by omega,h2,e,by rw [hold (by omega)]; exact hb⟩
theorem rd_f {i:Nat} {gs:List GE} {e:GE} {cs:List Value} (he:gs[i]? = some e):(flat encG gs++cs)[i*3]? = some (.int .i64 (e.f:Int))∧(flat encG gs++cs)[i*3+1]? = some (.int .i64 (e.t:Int))∧(flat encG gs++cs)[i*3+2]? = some (.int .i64 e.w) :=
 ⟨cellP (enc:=encG) (k:=3) (fun _=>rfl) he (j:=0) (by omega),cellP (enc:=encG) (k:=3) (fun _=>rfl) he (j:=1) (by omega),cellP (enc:=encG) (k:=3) (fun _=>rfl) he (j:=2) (by omega)⟩
theorem rturn_c {s:Bool} {N:Nat} {gs:List GE} {v:Value} {h:Hp} {nx:Nat} (hv:SlPx h nx v encG gs) (hN:N≤4096) (hl:gs.length≤120) (hok:∀ g∈gs,GOk N g) :
  Cv Q O s 244 [.agg ⟨[.int .i64 (N:Int),v]⟩] h nx (CanK N (turnM gs) nx h):=by
 refine rturnv ?_
 obtain ⟨a,cap,rfl,hc⟩:=id hv
 unfold rturn
 have K0:∀ {o o' o''},Keep nx h (hset (hset (hset h nx o) (nx+1) o') (nx+1+1) o''):=(((Keep.refl _ _).set (Nat.le_refl _)).set (Nat.le_succ _)).set (by omega)
 simp (disch:=omega) only [SS,seval]
 refine Lp.mk (MkJ (fun _=>true) turnG gs N (.slice a gs.length cap) nx h) gs.length ⟨0,_,rfl,by omega,rfl,by rw [hold (by omega),hold (by omega),hold (by omega),hnew],by rw [hold (by omega),hold (by omega),hnew],by rw [hnew],.inl ⟨rfl,rfl⟩,fun c hc=>by rw [hold (by omega),hold (by omega),hold (by omega),hold (by omega)],Nat.le_refl _⟩ ?_
 rintro q _ h1 nx1 ⟨i,o,rfl,hi,rfl,g0,g1,g2,S,hk,hle⟩
 obtain ⟨a5,n5,c5,rfl⟩:=S.form
 rw [rturnb0]
 unfold rturnl0
 simp (disch:=omega) only [SS,g0,seval]
 refine ⟨fun hlt=>?_,fun hge=>?_⟩
 ·obtain ⟨e,he⟩:=get_ex hlt
  obtain ⟨_,b,sp,ro,c1,cs,hb,e1,hg⟩:=hv.at he
  cases e1
  have hrd:loadC (some 3) (i*3) (flat encG gs++cs) = .ok (.agg ⟨[.int .i64 (e.f:Int),.int .i64 (e.t:Int),.int .i64 e.w]⟩):=rdP (enc:=encG) (k:=3) (fun _=>rfl) he (cs:=cs)
  simp (disch:=omega) only [SS,(hk b hb).trans hg,hrd,g2,seval]
  refine MkJ.put he rfl hl g0 g1 g2 S hk hle _ (hnew _ _ _) (fun b hb=>by rw [hold (by omega),hold (by omega),hold (by omega)]) (by omega) fun v5 h5 hk5 hJ hf=>?_
  obtain ⟨a6,n6,c6,rfl⟩:=hf
  have g25:=(hk5 (nx+1+1) (by omega)).trans g2
  simp (disch:=omega) only [SS,g25,wrap_s (show i<1000000000000 by omega),seval]
  exact ⟨_,by omega,hJ _ rfl⟩
 ·have hie:i=gs.length:=by omega
  subst hie
  rw [List.take_length] at S
  simp (disch:=omega) only [SS,g2,seval]
  exact MkJ.fin hN hl (turnM_ok hok) g1 S hk hle
theorem rsimple_c {s:Bool} {N:Nat} {gs:List GE} {v:Value} {h:Hp} {nx:Nat} (hv:SlPx h nx v encG gs) (hN:N≤4096) (hl:gs.length≤120) (hok:∀ g∈gs,GOk N g) :
  Cv Q O s 149 [.agg ⟨[.int .i64 (N:Int),v]⟩] h nx (CanK N (simpleM gs) nx h):=by
 refine rsimplev ?_
 obtain ⟨a,cap,rfl,hc⟩:=id hv
 unfold rsimple
 simp (disch:=omega) only [SS,seval]
 refine Lp.mk (MkJ noLoop id gs N (.slice a gs.length cap) nx h) gs.length ⟨0,_,rfl,by omega,rfl,by rw [hold (by omega),hold (by omega),hold (by omega),hnew],by rw [hold (by omega),hold (by omega),hnew],by rw [hnew],.inl ⟨rfl,rfl⟩,fun c hc=>by rw [hold (by omega),hold (by omega),hold (by omega),hold (by omega)],Nat.le_refl _⟩ ?_
 rintro q _ h1 nx1 ⟨i,o,rfl,hi,rfl,g0,g1,g2,S,hk,hle⟩
 obtain ⟨a5,n5,c5,rfl⟩:=S.form
 rw [rsimpleb0]
 unfold rsimplel0
 simp (disch:=omega) only [SS,g0,seval]
 refine ⟨fun hlt=>?_,fun hge=>?_⟩
 ·obtain ⟨e,he⟩:=get_ex hlt
  obtain ⟨_,b,sp,ro,c1,cs,hb,e1,hg⟩:=hv.at he
  cases e1
  have hrd:loadC (some 3) (i*3) (flat encG gs++cs) = .ok (.agg ⟨[.int .i64 (e.f:Int),.int .i64 (e.t:Int),.int .i64 e.w]⟩):=rdP (enc:=encG) (k:=3) (fun _=>rfl) he (cs:=cs)
  obtain ⟨r0,r1,r2⟩:=rd_f (cs:=cs) he
  simp (disch:=omega) only [SS,(hk b hb).trans hg,hrd,r0,r1,g2,seval]
  refine ⟨fun hne=>?_,fun heq=>?_⟩
  ·have hne:¬ (e.f:Int)=e.t:=by simpa using hne
   have hp:noLoop e=true:=by unfold noLoop; exact decide_eq_true (by omega)
   refine MkJ.put he hp hl g0 g1 g2 S hk hle _ (hnew _ _ _) (fun b hb=>by rw [hold (by omega)]) (by omega) fun v5 h5 hk5 hJ hf=>?_
   obtain ⟨a6,n6,c6,rfl⟩:=hf
   have g25:=(hk5 (nx+1+1) (by omega)).trans g2
   simp (disch:=omega) only [SS,g25,wrap_s (show i<1000000000000 by omega),seval]
   exact ⟨by omega,_,by omega,hJ _ rfl⟩
  ·have heq:(e.f:Int)=e.t:=by simpa using heq
   have hp:noLoop e=false:=by unfold noLoop; exact decide_eq_false (by omega)
   refine ⟨gs.length-(i+1),by omega,i+1,_,rfl,by omega,by rw [wrap_s (by omega)],g0,g1,g2,?_,hk,hle⟩
   rw [MkJ.tk he,hp]
   simp only [Bool.false_eq_true,if_false,List.append_nil]
   exact S
 ·have hie:i=gs.length:=by omega
  subst hie
  rw [List.take_length] at S
  simp (disch:=omega) only [SS,g2,seval]
  exact MkJ.fin hN hl (simpleM_ok hok) g1 S hk hle
theorem rplain_c {s:Bool} {N:Nat} {gs:List GE} {v:Value} {h:Hp} {nx:Nat} (hv:SlPx h nx v encG gs) (hN:N≤4096) (hl:gs.length≤120) (hok:∀ g∈gs,GOk N g) :
  Cv Q O s 147 [.agg ⟨[.int .i64 (N:Int),v]⟩] h nx (CanK N (plainM gs) nx h):=by
 refine rplainv ?_
 obtain ⟨a,cap,rfl,hc⟩:=id hv
 unfold rplain
 simp (disch:=omega) only [SS,seval]
 refine Lp.mk (MkJ (fun _=>true) oneG gs N (.slice a gs.length cap) nx h) gs.length ⟨0,_,rfl,by omega,rfl,by rw [hold (by omega),hold (by omega),hold (by omega),hnew],by rw [hold (by omega),hold (by omega),hnew],by rw [hnew],.inl ⟨rfl,rfl⟩,fun c hc=>by rw [hold (by omega),hold (by omega),hold (by omega),hold (by omega)],Nat.le_refl _⟩ ?_
 rintro q _ h1 nx1 ⟨i,o,rfl,hi,rfl,g0,g1,g2,S,hk,hle⟩
 obtain ⟨a5,n5,c5,rfl⟩:=S.form
 rw [rplainb0]
 unfold rplainl0
 simp (disch:=omega) only [SS,g0,seval]
 refine ⟨fun hlt=>?_,fun hge=>?_⟩
 ·obtain ⟨e,he⟩:=get_ex hlt
  obtain ⟨_,b,sp,ro,c1,cs,hb,e1,hg⟩:=hv.at he
  cases e1
  obtain ⟨r0,r1,r2⟩:=rd_f (cs:=cs) he
  simp (disch:=omega) only [SS,(hk b hb).trans hg,r0,r1,g2,seval]
  refine MkJ.put he rfl hl g0 g1 g2 S hk hle _ (hnew _ _ _) (fun b hb=>by rw [hold (by omega)]) (by omega) fun v5 h5 hk5 hJ hf=>?_
  obtain ⟨a6,n6,c6,rfl⟩:=hf
  have g25:=(hk5 (nx+1+1) (by omega)).trans g2
  simp (disch:=omega) only [SS,g25,wrap_s (show i<1000000000000 by omega),seval]
  exact ⟨by omega,_,by omega,hJ _ rfl⟩
 ·have hie:i=gs.length:=by omega
  subst hie
  rw [List.take_length] at S
  simp (disch:=omega) only [SS,g2,seval]
  exact MkJ.fin hN hl (plainM_ok hok) g1 S hk hle
theorem rboth_c {s:Bool} {N:Nat} {gs:List GE} {v:Value} {h:Hp} {nx:Nat} (hv:SlPx h nx v encG gs) (hN:N≤4096) (hl:gs.length≤60) (hok:∀ g∈gs,GOk N g) :
  Cv Q O s 148 [.agg ⟨[.int .i64 (N:Int),v]⟩] h nx (fun r h' nx'=>∃ ts,IsCan ((turnM gs).map gE) (ts.map gE)∧ts.length≤gs.length∧(∀ g∈ts,GOk N g)∧CanK N (ts++gs) nx h r h' nx'):=by
 refine rbothv ?_
 obtain ⟨a,cap,rfl,hc⟩:=id hv
 unfold rboth
 have K0:∀ {o o'},Keep nx h (hset (hset h nx o) (nx+1) o'):=((Keep.refl _ _).set (Nat.le_refl _)).set (Nat.le_succ _)
 simp (disch:=omega) only [SS,seval]
 refine (rturn_c (hv.keep K0 (by omega)) hN (by omega) hok).mono ?_
 rintro r h1 nx1 ⟨v1,ts,rfl,hts,htc,htok,htl,hk1,hle1⟩
 have htl2:ts.length≤gs.length:=Nat.le_trans htl (mapf_len gs)
 have g0:=hk1 nx (by omega)
 rw [hold (by omega),hnew] at g0
 have g4:=hk1 (nx+1) (by omega)
 rw [hnew] at g4
 obtain ⟨a3,n3,c3,rfl⟩:=hts.form
 have K1:Keep nx h h1:=K0.trans hk1 (by omega)
 have hok2:∀ g∈ts++gs,GOk N g:=fun g hg=>by
  rcases List.mem_append.1 hg with hg | hg
  ·exact htok g hg
  ·exact hok g hg
 simp (disch:=omega) only [SS,g0,seval]
 have k3:∀ {o o'},Keep nx1 h1 (hset (hset h1 nx1 o) nx1 o'):=((Keep.refl _ _).set (Nat.le_refl _)).set (Nat.le_refl _)
 refine EK_appY (lo:=nx+1+1) (hts.keep (fun c h1 h2=>k3 c h2) (Nat.le_refl _)) (by omega) (Nat.le_succ _) ((hv.keep K1 (by omega)).keep k3 (Nat.le_succ _)) (by omega) fun v5 h5 nx5 S5 hk5 hle5=>?_
 obtain ⟨a5,n5,c5,rfl⟩:=(S5 h5 (fun _ _=>rfl)).form
 have g6:=hk5 nx1 (by omega)
 rw [hnew] at g6
 have g45:=hk5 (nx+1) (by omega)
 rw [hold (by omega),hold (by omega),g4] at g45
 simp (disch:=omega) only [SS,g6,seval]
 refine (rcanon_c (SlPx.of (S5 _ fun b hb=>hold (by omega)).rd) hN hok2 (by rw [List.length_append]; omega)).mono ?_
 rintro r h6 nx6 ⟨v6,cs,rfl,hcs,hcan,hcok,hcl,hk6,hle6⟩
 obtain ⟨a7,n7,c7,rfl⟩:=hcs.form
 have g47:=hk6 (nx+1) (by omega)
 rw [hold (by omega),g45] at g47
 simp (disch:=omega) only [SS,g47,seval]
 refine ⟨ts,htc,htl2,htok,_,cs,rfl,?_,hcan,hcok,hcl,fun c hc=>by rw [hold (by omega),hk6 c (by omega),hold (by omega),hk5 c (by omega),hold (by omega),hold (by omega)]; exact K1 c hc,by omega⟩
 rcases hcs with hcs | ⟨b,h1,h2,e,hb⟩
 ·exact .inl hcs
 ·exact .inr ⟨b,by omega,h2,e,by rw [hold (by omega)]; exact hb⟩
theorem rempty_c {s:Bool} {N:Nat} {h:Hp} {nx:Nat} (hN:N≤4096):Cv Q O s 153 [.int .i64 (N:Int),.int .i64 (N:Int)] h nx (fun r h' nx'=>r = .agg ⟨[.int .i64 (N:Int),.int .i64 (N:Int),.slice (some ⟨nx+1,0,none⟩) (N+1) (N+1),.slice none 0 0,.slice none 0 0]⟩∧hget h' (nx+1)=some (.cells (ints (List.replicate (N+1) 0)) false)∧Keep nx h h'∧nx'=nx+1+1):=by
 refine remptyv ?_
 unfold rempty
 have r0:List.replicate (N+1) (Value.int .i64 0)=ints (List.replicate (N+1) 0):=by simp [ints]
 simp (disch:=omega) only [SS,wrap_s (show N<1000000000000 by omega),r0,seval]
 exact ((Keep.refl _ _).set (Nat.le_refl _)).set (Nat.le_succ _) |>.set (Nat.le_refl _)
def RbJ0 (N p1 p7 p5 lo:Nat) (vt:Value) (ts:List GE) (h0:Hp) (m:Nat) (vs:List Value) (h':Hp) (nx':Nat):Prop :=
 ∃ (i:Nat) (S:List Int) (vc vv:Value),m=ts.length-i∧i≤ts.length∧vs=[.int .i64 (N:Int),vt,.pointer (some ⟨p1,0,none⟩),.pointer (some ⟨p7,0,none⟩),.int .i64 (i:Int)] ∧
  hget h' p7=some (.cells [.int .i64 (N:Int),.int .i64 (N:Int),.slice (some ⟨p5,0,none⟩) (N+1) (N+1),vc,vv] false)∧hget h' p5=some (.cells (ints S) false)∧S.length=N+1∧(∀ x∈S,0≤x∧x≤(i:Int)) ∧
  TwoI h' vc vv ((ts.take i).map fun e=>(e.t:Int)) ((ts.take i).map GE.w) lo nx'∧(∀ c,c<lo→c≠p7→c≠p5→hget h' c=hget h0 c)∧lo≤nx'
def RbJ1 (N p1 p7 p5 i f:Nat) (vt:Value) (h0:Hp) (nx:Nat) (m:Nat) (vs:List Value) (h':Hp) (nx':Nat):Prop :=
 ∃ (k:Nat) (S:List Int),m=N+1-k∧f+1≤k∧k≤N+1∧vs=[.int .i64 (N:Int),vt,.pointer (some ⟨p1,0,none⟩),.pointer (some ⟨p7,0,none⟩),.int .i64 (i:Int),.int .i64 (k:Int)] ∧
  hget h' p5=some (.cells (ints S) false)∧S.length=N+1∧(∀ (j:Nat) (x:Int),S[j]? = some x→0≤x∧(x≤(i:Int)∨j<k∧x≤(i:Int)+1))∧(∀ c,c≠p5→hget h' c=hget h0 c)∧nx'=nx
theorem rbuilt_c {s:Bool} {N:Nat} {ts:List GE} {v:Value} {h:Hp} {nx:Nat} (hv:SlPx h nx v encG ts) (hN:N≤4096) (hl:ts.length≤120) (hok:∀ g∈ts,GOk N g) :
  Cv Q O s 245 [.int .i64 (N:Int),.int .i64 (N:Int),v] h nx (BuiltK nx h):=by
 refine rbuiltv ?_
 obtain ⟨a,cap,rfl,hc⟩:=id hv
 unfold rbuilt
 simp (disch:=omega) only [SS,seval]
 refine (rempty_c hN).mono ?_
 rintro r h1 _ ⟨rfl,hb1,hk1,rfl⟩
 have g0:=hk1 nx (by omega)
 rw [hnew] at g0
 simp (disch:=omega) only [SS,seval]
 refine Lp.mk (RbJ0 N nx (nx+1+1+1) (nx+1+1) (nx+1+1+1+1) (.slice a ts.length cap) ts h1) ts.length ⟨0,List.replicate (N+1) 0,_,_,rfl,by omega,rfl,hnew _ _ _,by rw [hold (by omega),hold (by omega)]; exact hb1,by simp,fun x hx=>by rw [List.eq_of_mem_replicate hx]; omega,.inl ⟨rfl,rfl,rfl,rfl⟩,fun c h1 h2 h3=>by rw [hold h2,hold h2],Nat.le_refl _⟩ ?_
 rintro m _ h2 nx2 ⟨i,S,vc,vv,rfl,hi,rfl,g7,g5,hSl,hSb,T,hf,hle⟩
 obtain ⟨o1,o2,G1,G2,B1,B2⟩:=T.gr
 obtain ⟨a1,n1,c1,a2,n2,c2,rfl,rfl⟩:=T.form
 rw [rbuiltb0]
 unfold rbuiltl0
 simp (disch:=omega) only [SS,seval]
 refine ⟨fun hlt=>?_,fun hge=>?_⟩
 ·obtain ⟨e,he⟩:=get_ex hlt
  have hem:=hok e (List.mem_of_getElem? he)
  have hef:e.f<N:=hem.1
  obtain ⟨_,b,sp,ro,cx,cs,hb,e1,hg⟩:=hv.at he
  cases e1
  have hg2:=(hf b (by omega) (by omega) (by omega)).trans ((hk1 b (by omega)).trans ((hold (by omega)).trans hg))
  obtain ⟨r0,r1,r2⟩:=rd_f (cs:=cs) he
  have hcl:((ts.take i).map fun e=>(e.t:Int)).length=i:=by rw [List.length_map,List.length_take]; omega
  have hvl:((ts.take i).map GE.w).length=i:=by rw [List.length_map,List.length_take]; omega
  simp (disch:=omega) only [SS,hg2,r1,g7,seval]
  refine EK_appI (G1.keep fun c hc=>by have:=B1 c hc; rw [hold (by omega)]) (hnew _ _ _) (by omega) fun h3 hn3 hf3=>?_
  have g73:hget h3 (nx+1+1+1)=some (.cells [.int .i64 (N:Int),.int .i64 (N:Int),.slice (some ⟨nx+1+1,0,none⟩) (N+1) (N+1),.slice a1 n1 c1,.slice a2 n2 c2] false):=by
   rw [hf3 _ (by omega) (fun e=>by have:=B1 _ e; omega),hold (by omega)]; exact g7
  have ge3:hget h3 b=some (.cells (flat encG ts++cs) ro):=by
   rw [hf3 _ (by omega) (fun e=>by have:=B1 _ e; omega),hold (by omega)]; exact hg2
  refine ⟨by omega,?_⟩
  simp (disch:=omega) only [SS,g73,ge3,r2,seval]
  refine EK_appI (G2.keep fun c hc=>?_) (hnew _ _ _) (by omega) fun h4 hn4 hf4=>?_
  ·have:=B2 c hc
   rw [hold (by omega),hold (by omega),hf3 c (by omega) (fun e=>(B1 c e).2.2 hc),hold (by omega)]
  have g74:hget h4 (nx+1+1+1)=some (.cells [.int .i64 (N:Int),.int .i64 (N:Int),.slice (some ⟨nx+1+1,0,none⟩) (N+1) (N+1),.slice (some ⟨nx2+1,0,some 1⟩) (((ts.take i).map fun e=>(e.t:Int)).length+1) (((ts.take i).map fun e=>(e.t:Int)).length+1),.slice a2 n2 c2] false):=by
   rw [hf4 _ (by omega) (fun e=>by have:=B2 _ e; omega),hold (by omega),hnew]
  have ge4:hget h4 b=some (.cells (flat encG ts++cs) ro):=by
   rw [hf4 _ (by omega) (fun e=>by have:=B2 _ e; omega),hold (by omega),hold (by omega)]; exact ge3
  refine ⟨by omega,?_⟩
  simp (disch:=omega) only [SS,g74,ge4,r0,seval]
  have htk:ts.take (i+1)=ts.take i++[e]:=by rw [List.take_add_one,he]; rfl
  have hfr:∀ c,c<nx+1+1+1+1→c≠nx+1+1+1→hget h4 c=hget h2 c:=fun c h1 h2=>by
   rw [hf4 c (by omega) (fun e=>by have:=B2 _ e; omega),hold (by omega),hold (by omega),hf3 c (by omega) (fun e=>by have:=B1 _ e; omega),hold (by omega)]
  have hw1:IntKind.wrap .i64 ((e.f:Int)+1)=((e.f+1:Nat):Int):=wrap_s (by omega)
  rw [hw1]
  generalize hH:hset h4 (nx+1+1+1) _=H
  have H7:hget H (nx+1+1+1)=some (.cells [.int .i64 (N:Int),.int .i64 (N:Int),.slice (some ⟨nx+1+1,0,none⟩) (N+1) (N+1),.slice (some ⟨nx2+1,0,some 1⟩) (((ts.take i).map fun e=>(e.t:Int)).length+1) (((ts.take i).map fun e=>(e.t:Int)).length+1),.slice (some ⟨nx2+1+1+1,0,some 1⟩) (((ts.take i).map GE.w).length+1) (((ts.take i).map GE.w).length+1)] false):=by rw [← hH]; exact hnew _ _ _
  have Hf:∀ c,c≠nx+1+1+1→hget H c=hget h4 c:=fun c hc=>by rw [← hH]; exact hold hc
  refine Lp.mk (RbJ1 N nx (nx+1+1+1) (nx+1+1) i e.f (.slice (some ⟨b,0,sp⟩) ts.length cap) H (nx2+1+1+1+1)) (N+1-(e.f+1)) ⟨e.f+1,S,rfl,by omega,by omega,rfl,by rw [Hf _ (by omega),hfr _ (by omega) (by omega)]; exact g5,hSl,fun j x hx=>by have:=hSb x (List.mem_of_getElem? hx); omega,fun _ _=>rfl,rfl⟩ ?_
  rintro m _ h5 _ ⟨k,S2,rfl,hk1',hk2,rfl,g55,hSl2,hSb2,hf5,rfl⟩
  rw [rbuiltb1]
  unfold rbuiltl1
  have g75:=(hf5 (nx+1+1+1) (by omega)).trans H7
  by_cases hkN:k≤N
  ·obtain ⟨x,hx⟩:=get_ex (l:=S2) (i:=k) (by omega)
   have hxb:=hSb2 _ x hx
   have hwx:IntKind.wrap .i64 (x+1)=x+1:=wrapD0 (by omega) (by omega)
   simp (disch:=omega) only [SS,show (k:Int)≤(N:Int) by omega,hkN,g75,g55,wrap_s (show k<1000000000000 by omega),ints_get hx,hwx,seval]
   refine ⟨fun _=>⟨by omega,?_⟩,fun h=>absurd h (by omega)⟩
   refine ⟨N+1-(k+1),by omega,k+1,S2.set k (x+1),rfl,by omega,by omega,rfl,hnew _ _ _,by rw [List.length_set]; exact hSl2,fun j z hz=>?_,fun c h3=>by rw [hold h3]; exact hf5 c h3,rfl⟩
   rw [List.getElem?_set] at hz
   split at hz
   ·rename_i hj
    subst hj
    split at hz
    ·cases hz; omega
    ·cases hz
   ·have:=hSb2 j z hz; omega
  ·have hkk:k=N+1:=by omega
   subst hkk
   simp (disch:=omega) only [SS,show ¬ ((N+1:Nat):Int)≤(N:Int) by omega,hkN,seval]
   refine ⟨fun h=>absurd h (by omega),fun _=>?_⟩
   refine ⟨ts.length-(i+1),by omega,i+1,S2,_,_,rfl,by omega,by rw [wrap_s (by omega)],g75,g55,hSl2,fun z hz=>?_,.inr ⟨nx2+1,nx2+1+1+1,by omega,by omega,by omega,by omega,by omega,?_,?_,?_,?_⟩,fun c h1 h2 h3=>?_,by omega⟩
   ·obtain ⟨j,hj⟩:=List.getElem?_of_mem hz
    have:=hSb2 j z hj
    omega
   ·rw [htk,List.map_append,List.length_append]; rfl
   ·rw [htk,List.map_append,List.length_append]; rfl
   ·rw [hf5 _ (by omega),Hf _ (by omega),hf4 _ (by omega) (fun e=>by have:=B2 _ e; omega),hold (by omega),hold (by omega),hn3,htk,List.map_append]; rfl
   ·rw [hf5 _ (by omega),Hf _ (by omega),hn4,htk,List.map_append]; rfl
   ·rw [hf5 c h3,Hf c h2,hfr c h1 h2]; exact hf c h1 h2 h3
 ·obtain ⟨T1,T2⟩:=T.nw
  have hie:i=ts.length:=by omega
  subst hie
  rw [List.take_length] at T1 T2
  have gp:=(hf nx (by omega) (by omega) (by omega)).trans g0
  simp (disch:=omega) only [SS,g7,gp,seval]
  refine ⟨⟨_,_,_,_,_,S,_,_,rfl,⟨_,_,by rw [hSl],fun _=>⟨nx+1+1,none,false,by omega,by omega,rfl,?_⟩⟩,T1.keep ?_ (by omega) (Nat.le_refl _),T2.keep ?_ (by omega) (Nat.le_refl _),by omega,by rw [List.length_map]; exact hl,by rw [List.length_map]; exact hl⟩,fun c hc=>?_,by omega⟩
  ·rw [hold (by omega),flat_ints]; exact g5
  ·intro c h4 h5
   rw [hold (by omega)]
  ·intro c h4 h5
   rw [hold (by omega)]
  ·rw [hold (by omega),hf c (by omega) (by omega) (by omega),hk1 c (by omega),hold (by omega)]
def RgJ (p1 p4 p19 N:Nat) (ts:List GE) (lo:Nat) (h:Hp) (m:Nat) (vs:List Value) (h':Hp) (nx':Nat):Prop :=
 ∃ (i:Nat) (o:Value),m=ts.length-i∧i≤ts.length∧vs=[.pointer (some ⟨p1,0,none⟩),.pointer (some ⟨p4,0,none⟩),.pointer (some ⟨p19,0,none⟩),o,.int .i64 (i:Int)]∧SlAt h' o encG 3 (ts.take i) lo nx'∧Keep lo h h'∧lo≤nx'
theorem rright_ok {s:Bool} {gs:List GE} {N:Nat} {h:Hp} {nx:Nat} {v:Value} (hv:SlPx h nx v encG gs) (hN:N≤4096) (hok:∀ g∈gs,GOk N g) (hl:gs.length≤120):Cv Q O s 114 [.agg ⟨[.int .i64 (N:Int),v]⟩] h nx (EqK (.int .i64 0) nx h):=by
 have hV:RightV (N:Int) (gs.map frG0):=by
  refine ⟨by omega,by omega,by rw [List.length_map]; omega,fun e he hb=>?_,fun e he hb=>?_⟩
  ·obtain ⟨g,hg,rfl⟩:=List.mem_map.1 he
   obtain ⟨h1,h2,_⟩:=hok g hg
   have hb:(g.f:Int)<0∨(N:Int)≤g.f∨(g.t:Int)<0∨(N:Int)≤g.t:=hb
   omega
  ·obtain ⟨g,hg,rfl⟩:=List.mem_map.1 he
   obtain ⟨_,_,h1,h2⟩:=hok g hg
   have hb:g.w<0∨2147483647<g.w:=hb
   omega
 have:=rright_x (s:=s) (n:=(N:Int)) (px_fr0 hv)
 rw [rightE_V.2 hV] at this
 exact this
theorem rgraph_c {s:Bool} {gs:List GE} {N:Nat} {h:Hp} {nx:Nat} {v:Value} (hv:SlPx h nx v encG gs) (hN:N≤4096) (hok:∀ g∈gs,GOk N g) (hl:gs.length≤120):Cv Q O s 150 [.agg ⟨[.int .i64 (N:Int),v]⟩] h nx (MatK 0 nx h):=by
 refine rgraphv ?_
 obtain ⟨a,cap,rfl,hc⟩:=id hv
 unfold rgraph
 simp (disch:=omega) only [SS,seval]
 have K0:∀ {o o'},Keep nx h (hset (hset h nx o) (nx+1) o'):=((Keep.refl _ _).set (Nat.le_refl _)).set (Nat.le_succ _)
 refine (rright_ok (hv.keep K0 (by omega)) hN hok hl).mono ?_
 rintro r h1 nx1 ⟨rfl,hk1,hle1⟩
 have g0:=hk1 nx (by omega)
 rw [hold (by omega),hnew] at g0
 have g4:=hk1 (nx+1) (by omega)
 rw [hnew] at g4
 have K1:Keep nx h h1:=K0.trans hk1 (by omega)
 simp (disch:=omega) only [SS,g0,seval]
 refine (rturn_c (hv.keep K1 (by omega)) hN hl hok).mono ?_
 rintro r h2 nx2 ⟨v2,ts,rfl,hts,htc,htok,htl,hk2,hle2⟩
 have htl2:ts.length≤gs.length:=Nat.le_trans htl (mapf_len gs)
 obtain ⟨a3,c3,rfl,hc3⟩:=id hts.nw
 simp (disch:=omega) only [SS,seval]
 refine Lp.mk (RgJ nx (nx+1) nx2 N ts (nx2+1) (hset (hset h2 nx2 (.cells [.int .i64 0,.slice none 0 0] false)) nx2 (.cells [.int .i64 (N:Int),.slice a3 ts.length c3] false))) ts.length ⟨0,_,rfl,by omega,rfl,.inl ⟨rfl,rfl⟩,Keep.refl _ _,Nat.le_refl _⟩ ?_
 rintro m _ h3 nx3 ⟨i,o,rfl,hi,rfl,S,hk3,hle3⟩
 obtain ⟨a5,n5,c5,rfl⟩:=S.form
 have gt:=hk3 nx2 (by omega)
 rw [hnew] at gt
 rw [rgraphb0]
 unfold rgraphl0
 simp (disch:=omega) only [SS,gt,seval]
 refine ⟨fun hlt=>?_,fun hge=>?_⟩
 ·obtain ⟨e,he⟩:=get_ex hlt
  obtain ⟨b,sp,ro,hb1,hb2,rfl,hb⟩:=hc3 (fun e0=>by rw [e0] at hlt; exact absurd hlt (Nat.not_lt_zero _))
  have hb3:=(hk3 b (by omega)).trans ((hold (by omega)).trans ((hold (by omega)).trans hb))
  obtain ⟨r0,r1,r2⟩:=rd_f (cs:=[]) he
  rw [List.append_nil] at r0 r1 r2
  simp (disch:=omega) only [SS,hb3,r0,r1,r2,seval]
  refine EK_appS (enc:=encG) (k:=3) (lo:=nx2+1) (fun _=>rfl) (fun _=>rfl) (by omega) (S.keep (fun c h1 h2=>by rw [hold (by omega)]) (by omega)) (by omega) e (hnew _ _ _) rfl (by rw [List.length_take]; omega) fun v5 h5 hs5 hk5=>?_
  have htk:ts.take (i+1)=ts.take i++[e]:=by rw [List.take_add_one,he]; rfl
  simp (disch:=omega) only [SS,wrap_s (show i<1000000000000 by omega),seval]
  exact ⟨by omega,ts.length-(i+1),by omega,i+1,v5,rfl,by omega,rfl,by rw [htk]; exact hs5,fun c hc=>by rw [hk5 c hc,hold (by omega)]; exact hk3 c hc,by omega⟩
 ·have hie:i=ts.length:=by omega
  subst hie
  rw [List.take_length] at S
  have g03:=hk3 nx (by omega)
  rw [hold (by omega),hold (by omega),hk2 nx (by omega),g0] at g03
  have g43:=hk3 (nx+1) (by omega)
  rw [hold (by omega),hold (by omega),hk2 (nx+1) (by omega),g4] at g43
  have K3:Keep nx h h3:=fun c hc=>by rw [hk3 c (by omega),hold (by omega),hold (by omega),hk2 c (by omega)]; exact K1 c hc
  simp (disch:=omega) only [SS,g03,seval]
  refine (rbuilt_c (SlPx.of S.rd) hN (by omega) htok).mono ?_
  rintro r h6 nx6 ⟨hR,hk6,hle6⟩
  obtain ⟨x,y,b1,b2,b3,n1,n2,n3,c1,c2,c4,rfl⟩:=hR.form
  have g46:=(hk6 (nx+1) (by omega)).trans g43
  unfold RowsV
  simp (disch:=omega) only [SS,g46,seval]
  exact ⟨_,rfl,hR.keep (fun c h1 h2=>hold (by omega)) (by omega) (Nat.le_refl _),fun c hc=>by rw [hold (by omega),hk6 c (by omega)]; exact K3 c hc,by omega⟩
theorem rmatrix_c {s:Bool} {k n src len gn:Int} {ds:List Int} {es:List Edg3} {vd ve:Value} {h:Hp} {nx:Nat} (hd:SlRd h nx vd encI ds) (he:SlPx h nx ve enc3 es) (hel:es.length≤60) :
  Cv Q O s 57 [.agg ⟨[.int .i64 k,.int .i64 n,.int .i64 src,.int .i64 len,vd]⟩,.agg ⟨[.int .i64 gn,ve]⟩] h nx (MatK (matE k n src len ds gn es) nx h):=by
 refine rmatrixv ?_
 obtain ⟨a,cap,rfl,hc⟩:=id hd
 obtain ⟨a2,cap2,rfl,hc2⟩:=id he
 unfold rmatrix
 simp (disch:=omega) only [SS,seval]
 have K0:∀ {o o' o''},Keep nx h (hset (hset (hset h nx o) (nx+1) o') (nx+1+1) o''):=(((Keep.refl _ _).set (Nat.le_refl _)).set (Nat.le_succ _)).set (by omega)
 refine (rpright0_c (hd.keep K0 (by omega))).mono ?_
 rintro r h1 nx1 ⟨rfl,hk1,hle1⟩
 have gp:=hk1 nx (by omega)
 rw [hold (by omega),hold (by omega),hnew] at gp
 have gg:=hk1 (nx+1) (by omega)
 rw [hold (by omega),hnew] at gg
 have gm:=hk1 (nx+1+1) (by omega)
 rw [hnew] at gm
 have K1:Keep nx h h1:=K0.trans hk1 (by omega)
 have zero:∀ {h':Hp} {nx':Nat} {o:AObj} {e:Int},matE k n src len ds gn es=e→Keep nx h h'→nx≤nx'→MatK (matE k n src len ds gn es) nx h (.tuple ⟨[.agg ⟨[.int .i64 0,.int .i64 0,.slice none 0 0,.slice none 0 0,.slice none 0 0]⟩,.int .i64 e]⟩) (hset h' (nx+1+1) o) nx':=fun {h' nx' o e} he hk hle=>by
  rw [he]
  exact ⟨_,rfl,RowsR.zero,hk.set (by omega),hle⟩
 generalize hpe:planE k n src len ds=pe at *
 by_cases hp0:pe=0
 case neg =>
  have hb:(pe == 0)=false:=beq_eq_false_iff_ne.2 hp0
  simp (disch:=omega) only [SS,hb,gm,seval]
  exact zero (by unfold matE; rw [hpe,if_pos hp0]) K1 (by omega)
 subst hp0
 simp (disch:=omega) only [SS,gg,gp,seval]
 refine ⟨fun hne=>?_,fun heq=>?_⟩
 ·simp (disch:=omega) only [SS,gm,seval]
  have hne:gn≠n:=by simpa using hne
  exact zero (by unfold matE; rw [hpe,if_neg (by simp),if_pos hne]) K1 (by omega)
 have heq:gn=n:=by simpa using heq
 have hmE:matE k n src len ds gn es=rightE gn es:=by unfold matE; rw [hpe,if_neg (by simp),if_neg (by simp [heq])]
 refine (rright_x (he.keep K1 (by omega))).mono ?_
 rintro r h2 nx2 ⟨rfl,hk2,hle2⟩
 have K2:=K1.trans hk2 (by omega)
 have gp2:=(hk2 nx (by omega)).trans gp
 have gg2:=(hk2 (nx+1) (by omega)).trans gg
 have gm2:=(hk2 (nx+1+1) (by omega)).trans gm
 by_cases hr0:rightE gn es=0
 case neg =>
  have hb:(rightE gn es == 0)=false:=beq_eq_false_iff_ne.2 hr0
  simp (disch:=omega) only [SS,hb,gm2,seval]
  exact zero hmE K2 (by omega)
 rw [hr0] at hmE ⊢
 obtain ⟨N,rfl,hN,hfl,hG⟩:=(rightE_V.1 hr0).ges
 have hpx:=((he.keep K1 (by omega)).keep hk2 hle2).map hfl
 rw [← List.length_map (f:=toG)] at hel
 generalize hgs:es.map toG=gs at hel hG hpx
 have hcl:es.length=gs.length:=by rw [← hgs,List.length_map]
 rw [hcl] at gg2 hpx
 have S0:Sg N (nx+1) nx h h2 nx2 gs (.slice a2 gs.length cap2):=⟨gg2,gm2,hpx,hG,K2,by omega⟩
 rw [hmE]
 have tail:∀ {h':Hp} {nx':Nat} {gs:List GE} {a:Option Addr} {n c:Nat},Sg N (nx+1) nx h h' nx' gs (.slice a n c)→nx≤nx'→gs.length≤120→rmatrixk0 s (MatK 0 nx h) (.pointer (some ⟨nx+1,0,none⟩)) (.pointer (some ⟨nx+1+1,0,none⟩)) h' nx':=fun {h' nx' gs a n c} S hx hl=>by
  have hlt:=S.lt
  unfold rmatrixk0
  simp (disch:=omega) only [SS,S.g,seval]
  refine (rgraph_c S.p hN S.ok hl).mono ?_
  rintro r h6 nx6 ⟨m,rfl,hR,hk6,hle6⟩
  obtain ⟨x,y,b1,b2,b3,n1,n2,n3,c1,c2,c4,rfl⟩:=hR.form
  have g6:=(hk6 _ S.lt).trans S.m
  unfold RowsV
  simp (disch:=omega) only [SS,g6,seval]
  exact ⟨_,rfl,hR.keep (fun c h1 h2=>hold (by omega)) (by omega) (Nat.le_refl _),fun b hb=>by rw [hold (by omega),hk6 b (by omega)]; exact S.k b hb,by omega⟩
 have plain:∀ {h':Hp} {nx':Nat} {ms:List GE} {v:Value} {hx:Hp} {nxx:Nat} {gs:List GE} {va:Value},SlPx h' nx' v encG ms→(∀ g∈ms,GOk N g)→ms.length≤120→Sg N (nx+1) nx h h' nx' gs va→nx≤nx'→Cv Q O s 147 [.agg ⟨[.int .i64 (N:Int),v]⟩] h' nx' fun x65 h66 n67=>(vcells x65).length=2∧RK (wrO (hget h66 (nx+1)) h66 (nx+1) 0 (vcells x65)) fun h68=>rmatrixk0 s (MatK 0 nx h) (.pointer (some ⟨nx+1,0,none⟩)) (.pointer (some ⟨nx+1+1,0,none⟩)) h68 n67:=fun {h' nx' ms v hx nxx gs va} hv hok hl S hx=>by
  refine (rplain_c hv hN hl hok).mono ?_
  intro r h6 nx6 hr
  obtain ⟨cs,a6,n6,c6,rfl,hcl,hq,hle,S6⟩:=S.put (by omega) hr
  simp (disch:=omega) only [SS,hq,seval]
  exact tail S6 (by omega) (by have:=mapf_len (p:=fun _=>true) (m:=oneG) ms; unfold plainM at hcl; omega)
 have next:∀ {h' h6:Hp} {nx' nx6:Nat} {gs:List GE} {va:Value},Sg N (nx+1) nx h h' nx' gs va→Keep nx' h' h6→nx'≤nx6→Sg N (nx+1) nx h h6 nx6 gs va:=fun {h' h6 nx' nx6 gs va} S hk hle=>by
  have:=S.lt
  exact ⟨by rw [hk _ (by omega)]; exact S.g,by rw [hk _ (by omega)]; exact S.m,S.p.keep hk hle,S.ok,fun b hb=>by rw [hk b (by omega)]; exact S.k b hb,by omega⟩
 have both:∀ {h':Hp} {nx':Nat} {ms:List GE} {v:Value} {gs:List GE} {va:Value},SlPx h' nx' v encG ms→(∀ g∈ms,GOk N g)→ms.length≤60→Sg N (nx+1) nx h h' nx' gs va→nx≤nx'→Cv Q O s 148 [.agg ⟨[.int .i64 (N:Int),v]⟩] h' nx' fun x44 h45 n46=>Cv Q O s 147 [x44] h45 n46 fun x47 h48 n49=>(vcells x47).length=2∧RK (wrO (hget h48 (nx+1)) h48 (nx+1) 0 (vcells x47)) fun h50=>rmatrixk0 s (MatK 0 nx h) (.pointer (some ⟨nx+1,0,none⟩)) (.pointer (some ⟨nx+1+1,0,none⟩)) h50 n49:=fun {h' nx' ms v gs va} hv hok hl S hx=>by
  refine (rboth_c hv hN hl hok).mono ?_
  rintro r h6 nx6 ⟨ts,_,htl,_,v6,cs,rfl,hcs,_,hcok,hcl,hk6,hle6⟩
  rw [List.length_append] at hcl
  exact plain (hx:=h) (nxx:=0) (SlPx.of hcs.rd) hcok (by omega) (next S hk6 hle6) (by omega)
 simp (disch:=omega) only [SS,gg2,gp2,seval]
 refine ⟨fun _=>plain (hx:=h) (nxx:=0) S0.p hG (by omega) S0 (by omega),fun _=>⟨fun _=>both S0.p hG hel S0 (by omega),fun _=>⟨fun _=>?_,fun _=>tail S0 (by omega) (by omega)⟩⟩⟩
 refine (rsimple_c S0.p hN (by omega) hG).mono ?_
 rintro r h6 nx6 ⟨v6,cs,rfl,hcs,_,hcok,hcl,hk6,hle6⟩
 have hml:=mapf_len (p:=noLoop) (m:=id) gs
 unfold simpleM at hcl
 exact both (SlPx.of hcs.rd) hcok (by omega) (next S0 hk6 hle6) (by omega)
theorem rmcheck_c {s:Bool} {k n src len gn lim:Int} {ds:List Int} {es:List Edg3} {vd ve:Value} {h:Hp} {nx:Nat} (hd:SlRd h nx vd encI ds) (he:SlPx h nx ve enc3 es) (hel:es.length≤60) :
  Cv Q O s 64 [.agg ⟨[.int .i64 k,.int .i64 n,.int .i64 src,.int .i64 len,vd]⟩,.agg ⟨[.int .i64 gn,ve]⟩,.int .i64 lim] h nx (EqK (.int .i64 (mchE k n src len ds gn es lim)) nx h):=by
 refine rmcheckv ?_
 obtain ⟨a,cap,rfl,hc⟩:=id hd
 obtain ⟨a2,cap2,rfl,hc2⟩:=id he
 unfold rmcheck
 simp (disch:=omega) only [SS,seval]
 have K0:∀ {o o'},Keep nx h (hset (hset h nx o) (nx+1) o'):=((Keep.refl _ _).set (Nat.le_refl _)).set (Nat.le_succ _)
 refine (rmatrix_c (hd.keep K0 (by omega)) (he.keep K0 (by omega)) hel).mono ?_
 rintro r h1 nx1 ⟨m,rfl,hR,hk1,hle1⟩
 obtain ⟨x,y,b1,b2,b3,n1,n2,n3,c1,c2,c4,rfl⟩:=hR.form
 have K1:∀ {o o'},Keep nx h (hset (hset h1 nx1 o) nx1 o'):=((K0.trans hk1 (by omega)).set (by omega)).set (by omega)
 unfold RowsV
 by_cases h0:matE k n src len ds gn es=0
 case neg =>
  have hb:(matE k n src len ds gn es == 0)=false:=beq_eq_false_iff_ne.2 h0
  simp (disch:=omega) only [SS,hb,seval]
  exact ⟨by unfold mchE; rw [if_pos h0],K1,by omega⟩
 rw [h0]
 have e:mchE k n src len ds gn es lim=if lim<0∨8192<lim then 3 else 0:=by unfold mchE; rw [h0,if_neg (by simp)]
 simp (disch:=omega) only [SS,seval]
 rw [e]
 refine ⟨fun h2=>⟨by rw [if_pos (.inl h2)],K1,by omega⟩,fun h2=>⟨fun h3=>⟨by rw [if_pos (.inr (by omega))],K1,by omega⟩,fun h3=>⟨by rw [if_neg (by omega)],K1,by omega⟩⟩⟩
theorem sd_t {n m:Int} (h:¬ n<1) (h':¬ m<n):sd n m=true:=decide_eq_true (by omega)
theorem sd_f {n m:Int} (h:n<1∨m<n):sd n m=false:=decide_eq_false (by omega)
theorem rwcheck_c {s:Bool} {x:Stp} {vd ve vc:Value} {h:Hp} {nx:Nat} (H:StpIs h nx x vd ve vc):Cv Q O s 13 [.agg ⟨stpV x vd ve vc⟩] h nx (EqK (.int .i64 (stpE x)) nx h):=by
 refine rwcheckv ?_
 obtain ⟨a,cap,rfl,hc⟩:=id H.d
 obtain ⟨a2,cap2,rfl,hc2⟩:=id H.e
 obtain ⟨a3,cap3,rfl⟩:=H.c
 unfold rwcheck stpV
 have K0:∀ {o},Keep nx h (hset h nx o):=(Keep.refl _ _).set (Nat.le_refl _)
 simp (disch:=omega) only [SS,seval]
 refine (rmcheck_c (H.d.keep K0 (by omega)) (H.e.keep K0 (by omega)) H.l).mono ?_
 rintro r h1 nx1 ⟨rfl,hk1,hle1⟩
 have g:=hk1 nx (by omega)
 rw [hnew] at g
 have K1:Keep nx h h1:=K0.trans hk1 (by omega)
 generalize hm:mchE x.k x.n x.src x.len x.ds x.gn x.es x.lim=me
 by_cases h0:me=0
 case neg =>
  have hb:(me == 0)=false:=beq_eq_false_iff_ne.2 h0
  simp (disch:=omega) only [SS,hb,seval]
  exact ⟨by unfold stpE; rw [hm,if_pos h0],K1,by omega⟩
 subst h0
 have e:stpE x=if sd x.R 8=false then 3 else if sd x.C 8=false then 3 else if sd x.M 64=false then 3 else if 8192<x.nch then 5 else 0:=by unfold stpE; rw [hm,if_neg (by simp)]
 have bad:stpE x=3→rwcheckk0 s (EqK (.int .i64 (stpE x)) nx h) (.pointer (some ⟨nx,0,none⟩)) (.bool true) h1 nx1:=fun e=>by
  unfold rwcheckk0
  simp (disch:=omega) only [SS,seval]
  exact ⟨by rw [e],K1,by omega⟩
 simp (disch:=omega) only [SS,g,seval]
 refine ⟨fun a1=>bad (by rw [e,sd_f (.inl a1)]; rfl),fun a1=>⟨fun a2=>bad (by rw [e,sd_f (.inr a2)]; rfl),fun a2=>?_⟩⟩
 rw [sd_t a1 a2] at e
 refine ⟨fun b1=>bad (by rw [e,sd_f (.inl b1)]; rfl),fun b1=>⟨fun b2=>bad (by rw [e,sd_f (.inr b2)]; rfl),fun b2=>?_⟩⟩
 rw [sd_t b1 b2] at e
 refine ⟨fun c1=>bad (by rw [e,sd_f (.inl c1)]; rfl),fun c1=>?_⟩
 by_cases c2:64<x.M
 ·rw [decide_eq_true c2]
  exact bad (by rw [e,sd_f (.inr c2)]; rfl)
 rw [decide_eq_false c2]
 rw [sd_t c1 c2] at e
 unfold rwcheckk0
 simp (disch:=omega) only [SS,g,seval]
 refine ⟨fun h6=>⟨by rw [e]; simp; omega,K1,by omega⟩,fun h6=>⟨by rw [e]; simp; omega,K1,by omega⟩⟩
theorem rplright_c {s:Bool} {m:Mv} {h:Hp} {nx:Nat}:Cv Q O s 20 [.agg ⟨encM m⟩] h nx (EqK (.bool (rightM m)) nx h):=by
 refine rplrightv ?_
 unfold rplright encM
 have K1:∀ {o},Keep nx h (hset h nx o):=(Keep.refl _ _).set (Nat.le_refl _)
 have fin:∀ {b:Bool} {o},rightM m=b→EqK (.bool (rightM m)) nx h (.bool b) (hset h nx o) (nx+1):=fun e=>⟨by rw [e],K1,by omega⟩
 have no:¬ ((0≤m.2.1∧m.2.1≤63)∧(0≤m.2.2.1∧m.2.2.1≤63)∧(0≤m.2.2.2∧m.2.2.2≤63)∧0<m.1∧m.1≤5)→rightM m=false:=fun hn=>by
  unfold rightM inB
  cases hr:(decide (0≤m.2.1∧m.2.1≤63)&&decide (0≤m.2.2.1∧m.2.2.1≤63)&&decide (0≤m.2.2.2∧m.2.2.2≤63))&&decide (0<m.1∧m.1≤5) with
  | false=>rfl
  | true =>
   simp only [Bool.and_eq_true,decide_eq_true_eq] at hr
   exact absurd ⟨hr.1.1.1,hr.1.1.2,hr.1.2,hr.2⟩ hn
 have yes:((0≤m.2.1∧m.2.1≤63)∧(0≤m.2.2.1∧m.2.2.1≤63)∧(0≤m.2.2.2∧m.2.2.2≤63)∧0<m.1∧m.1≤5)→rightM m=true:=fun hn=>by
  unfold rightM inB
  rw [decide_eq_true hn.1,decide_eq_true hn.2.1,decide_eq_true hn.2.2.1,decide_eq_true hn.2.2.2]; rfl
 simp (disch:=omega) only [SS,seval]
 refine ⟨fun a1=>⟨fun a2=>⟨fun a3=>⟨fun a4=>⟨fun a5=>⟨fun a6=>⟨fun a7=>?_,fun a=>fin (no (by omega))⟩,fun a=>fin (no (by omega))⟩,fun a=>fin (no (by omega))⟩,fun a=>fin (no (by omega))⟩,fun a=>fin (no (by omega))⟩,fun a=>fin (no (by omega))⟩,fun a=>fin (no (by omega))⟩
 by_cases a8:m.2.2.2<64
 ·rw [decide_eq_true a8]; exact fin (yes (by omega))
 ·rw [decide_eq_false a8]; exact fin (no (by omega))
def RqJ (p1:Nat) (v:Value) (w:Int) (ms:List Mv) (nx:Nat) (h:Hp) (m:Nat) (vs:List Value) (h':Hp) (nx':Nat):Prop :=
 ∃ i:Nat,m=ms.length-i∧i≤ms.length∧vs=[v,.int .i64 w,.int .i64 0,.int .i64 (i:Int)]∧Keep nx h h'∧nx≤nx'∧∀ x∈ms.take i,(!rightM x)=false
theorem rplcheck_c {s:Bool} {x:Stp} {ms:List Mv} {w:Int} {vd ve vc vm:Value} {h:Hp} {nx:Nat} (H:StpIs h nx x vd ve vc) (hm:SlRd h nx vm encM ms) (hml:ms.length≤60∨1048576<ms.length) :
  Cv Q O s 16 [.agg ⟨stpV x vd ve vc⟩,vm,.int .i64 w] h nx (EqK (.int .i64 (plyE x ms w)) nx h):=by
 refine rplcheckv ?_
 obtain ⟨a,cap,rfl,hc⟩:=id hm
 unfold rplcheck
 have K0:∀ {o},Keep nx h (hset h nx o):=(Keep.refl _ _).set (Nat.le_refl _)
 obtain ⟨a3,cap3,rfl⟩:=id H.c
 obtain ⟨a1,cap1,rfl,_⟩:=id H.d
 obtain ⟨a2,cap2,rfl,_⟩:=id H.e
 generalize hw:stpV x (.slice a1 x.ds.length cap1) (.slice a2 x.es.length cap2) (.slice a3 x.nch cap3)=sv at *
 have hw2:=hw
 unfold stpV at hw2
 rw [← hw2]
 simp (disch:=omega) only [SS,seval]
 rw [hw2,← hw]
 refine (rwcheck_c (H.keep K0 (by omega))).mono ?_
 rintro r h1 nx1 ⟨rfl,hk1,hle1⟩
 have K1:Keep nx h h1:=K0.trans hk1 (by omega)
 by_cases h0:stpE x=0
 case neg =>
  have hb:(stpE x == 0)=false:=beq_eq_false_iff_ne.2 h0
  simp (disch:=omega) only [SS,hb,seval]
  exact ⟨by unfold plyE; rw [if_pos h0],K1,by omega⟩
 have e:plyE x ms w=if 1048576<ms.length then 5 else if ms.any (fun m=>!rightM m)=true then 8 else if inB w 1048576=false then 3 else 0:=by unfold plyE; rw [h0,if_neg (by simp)]
 rw [e,h0]
 simp (disch:=omega) only [SS,seval]
 refine ⟨fun h6=>⟨by rw [if_pos (by omega)],K1,by omega⟩,fun h6=>?_⟩
 rw [if_neg (by omega)]
 refine Lp.mk (RqJ 0 (.slice a ms.length cap) w ms nx1 h1) ms.length ⟨0,by omega,by omega,rfl,Keep.refl _ _,Nat.le_refl _,by simp⟩ ?_
 rintro _ _ h' nx' ⟨i,rfl,hi,rfl,hk,hle,hno⟩
 rw [rplcheckb0]
 unfold rplcheckl0
 simp (disch:=omega) only [SS,seval]
 refine ⟨fun hlt=>?_,fun hge=>?_⟩
 ·obtain ⟨m,hx⟩:=get_ex hlt
  obtain ⟨_,b,sp,ro,c1,hb,e1,hgb⟩:=hm.at hx
  cases e1
  have hmm:=List.mem_of_getElem? hx
  simp (disch:=omega) only [SS,((K1.trans hk (by omega)) b hb).trans hgb,rdF (enc:=encM) (k:=4) (fun _=>rfl) hx,seval]
  refine (rplright_c (m:=m)).mono ?_
  rintro r h2 nx2 ⟨rfl,hk2,hle2⟩
  cases hr:rightM m with
  | false =>
   simp (disch:=omega) only [SS,seval]
   exact ⟨by rw [if_pos (List.any_eq_true.2 ⟨m,hmm,by rw [hr]; rfl⟩)],(K1.trans hk (by omega)).trans hk2 (by omega),by omega⟩
  | true =>
   simp (disch:=omega) only [SS,wrap_s (show i<1000000000000 by omega),seval]
   exact ⟨_,by omega,i+1,rfl,hlt,rfl,hk.trans hk2 hle,by omega,take_s hx hno (by rw [hr]; rfl)⟩
 ·have:i=ms.length:=by omega
  subst this
  rw [List.take_length] at hno
  have K2:=K1.trans hk (by omega)
  rw [any_f hno,if_neg (by simp)]
  refine ⟨fun h7=>⟨by rw [inB_f (by omega)]; rfl,K2,by omega⟩,fun h7=>⟨fun h8=>⟨by rw [inB_f (by omega)]; rfl,K2,by omega⟩,fun h8=>⟨by rw [inB_t (by omega)]; rfl,K2,by omega⟩⟩⟩
theorem rplbound_c {s:Bool} {x:Stp} {w:Int} {vd ve vc:Value} {h:Hp} {nx:Nat} (H:StpIs h nx x vd ve vc) :
  Cv Q O s 18 [.agg ⟨stpV x vd ve vc⟩,.int .i64 w] h nx (EqK (.int .i64 (bndV x w)) nx h):=by
 refine rplboundv ?_
 have K0:∀ {o},Keep nx h (hset h nx o):=(Keep.refl _ _).set (Nat.le_refl _)
 obtain ⟨a3,cap3,rfl⟩:=id H.c
 obtain ⟨a1,cap1,rfl,_⟩:=id H.d
 obtain ⟨a2,cap2,rfl,_⟩:=id H.e
 unfold rplbound
 have hw2:stpV x (.slice a1 x.ds.length cap1) (.slice a2 x.es.length cap2) (.slice a3 x.nch cap3)=_:=rfl
 unfold stpV at hw2 ⊢
 simp (disch:=omega) only [SS,seval]
 refine (rwcheck_c (H.keep K0 (by omega))).mono ?_
 rintro r h1 nx1 ⟨rfl,hk1,hle1⟩
 have g:=hk1 nx (by omega)
 rw [hnew] at g
 have K1:Keep nx h h1:=K0.trans hk1 (by omega)
 have zero:bndV x w=0→rplboundk0 s (EqK (.int .i64 (bndV x w)) nx h) (.int .i64 w) (.pointer (some ⟨nx,0,none⟩)) (.bool true) h1 nx1:=fun e=>by
  unfold rplboundk0
  simp (disch:=omega) only [SS,seval]
  exact ⟨by rw [e],K1,by omega⟩
 by_cases h0:stpE x=0
 case neg =>
  have hb:(stpE x == 0)=false:=beq_eq_false_iff_ne.2 h0
  simp (disch:=omega) only [SS,hb,seval]
  exact zero (by unfold bndV; rw [if_pos h0,ite_self])
 rw [h0]
 simp (disch:=omega) only [SS,seval]
 refine ⟨fun a1=>zero (by unfold bndV; rw [inB_f (by omega)]; rfl),fun a1=>?_⟩
 by_cases a2:8192<w
 ·rw [decide_eq_true a2]; exact zero (by unfold bndV; rw [inB_f (by omega)]; rfl)
 rw [decide_eq_false a2]
 have hok:(1≤x.R∧x.R≤8)∧1≤x.C∧x.C≤8:=by
  unfold stpE at h0
  split at h0
  ·contradiction
  ·split at h0
   ·cases h0
   ·split at h0
    ·cases h0
    ·rename_i h1 h2 h3
     exact ⟨of_decide_eq_true (by unfold sd at h2; simpa using h2),of_decide_eq_true (by unfold sd at h3; simpa using h3)⟩
 obtain ⟨⟨hR1,hR2⟩,hC1,hC2⟩:=hok
 have m1:0≤(4*(x.R+x.C+4))*(w+2):=Int.mul_nonneg (by omega) (by omega)
 have m2:(4*(x.R+x.C+4))*(w+2)≤80*8194:=Int.mul_le_mul (by omega) (by omega) (by omega) (by omega)
 have wI:∀ n:Int,-9223372036854775808≤n→n≤9223372036854775807→fwrap .i64 n=n:=fun n h0 h1=>by rw [fwrap_eq]; exact wrapD0 h0 h1
 have e:bndV x w=4*(x.R+x.C+4)*(w+2):=by unfold bndV; rw [inB_t (by omega),if_neg (by simp),if_neg (fun h=>h h0)]
 rw [e]
 unfold rplboundk0
 simp (disch:=omega) only [SS,g,seval]
 refine ⟨?_,K1,by omega⟩
 rw [wrapD0 (n:=x.R+x.C) (by omega) (by omega),wrapD0 (n:=x.R+x.C+4) (by omega) (by omega),wI (Int.mul 4 (x.R+x.C+4)) (by show _≤4*(x.R+x.C+4); omega) (by show 4*(x.R+x.C+4)≤_; omega),wrapD0 (n:=w+2) (by omega) (by omega)]
 show Value.int .i64 (fwrap .i64 (4*(x.R+x.C+4)*(w+2)))=_
 rw [wI _ (by omega) (by omega)]
theorem live_o {s:Bool} {h:Hp} {nx:Nat} {K:KC'} (hk:K (.bool true) h nx):Cv Q O s 14 [] h nx K:=live_cv rfl hk
theorem bin_beq4 {a b:Bool}:bin Tryz.prog .eql 4 (.bool a) (.bool b) = .ok (.bool (a == b)):=by
 have ht:isBoolTy Tryz.prog 4=true:=by kernel_rfl
 show R.of "compared" (bif isBoolTy Tryz.prog 4 then eqlB a (.bool b) else none) (fun b=>rBool b)=_
 rw [ht]; rfl
theorem pw_end {s:Bool} {x:Stp} {ms:List Mv} {n0 n1:Int} {m:Mv} {vd ve vc vm:Value} {h:Hp} {nx p:Nat} (H:StpIs h nx x vd ve vc) (hm:SlRd h nx vm encM ms) (hml:ms.length≤60∨1048576<ms.length)
  (g0:hget h p=some (.cells (stpV x vd ve vc) false)) (g1:hget h (p+1)=some (.cells [.int .i64 n0,.int .i64 n1] false)) (g2:hget h (p+1+1)=some (.cells (encM m) false)) (hp:p+1+1<nx) :
  playwrongk0 s TrueK vm (.pointer (some ⟨p,0,none⟩)) (.pointer (some ⟨p+1,0,none⟩)) (.pointer (some ⟨p+1+1,0,none⟩)) h nx:=by
 unfold playwrongk0
 refine live_o ⟨Nat.le_refl _,?_⟩
 obtain ⟨a3,cap3,rfl⟩:=id H.c
 obtain ⟨a1,cap1,rfl,_⟩:=id H.d
 obtain ⟨a2,cap2,rfl,_⟩:=id H.e
 unfold stpV at g0
 unfold encM at g2
 simp (disch:=omega) only [SS,g0,g1,seval]
 refine (plcheck_c (w:=n0) H hm hml).mono ?_
 rintro r h1 nx1 ⟨rfl,hk1,hle1⟩
 have g01:=(hk1 p (by omega)).trans g0
 have g11:=(hk1 (p+1) (by omega)).trans g1
 have g21:=(hk1 (p+1+1) (by omega)).trans g2
 refine ⟨hle1,?_⟩
 simp (disch:=omega) only [SS,g01,g11,g0,g1,seval]
 have K1:=hk1
 refine (rplcheck_c (w:=n0) (H.keep hk1 hle1) (hm.keep hk1 hle1) hml).mono ?_
 rintro r h2 nx2 ⟨rfl,hk2,hle2⟩
 have g02:=(hk2 p (by omega)).trans g01
 have g12:=(hk2 (p+1) (by omega)).trans g11
 have g22:=(hk2 (p+1+1) (by omega)).trans g21
 have H2:=(H.keep hk1 hle1).keep hk2 hle2
 refine ⟨hle2,?_⟩
 simp (disch:=omega) only [SS,g02,g12,seval]
 refine ⟨fun _=>?_,fun h=>absurd h (by simp)⟩
 refine (plbound_c (w:=n1) H2).mono ?_
 rintro r h3 nx3 ⟨rfl,hk3,hle3⟩
 have g03:=(hk3 p (by omega)).trans g02
 have g13:=(hk3 (p+1) (by omega)).trans g12
 have g23:=(hk3 (p+1+1) (by omega)).trans g22
 refine ⟨hle3,?_⟩
 simp (disch:=omega) only [SS,g03,g13,g02,g12,seval]
 refine (rplbound_c (w:=n1) (H2.keep hk3 hle3)).mono ?_
 rintro r h4 nx4 ⟨rfl,hk4,hle4⟩
 have g24:=(hk4 (p+1+1) (by omega)).trans g23
 refine ⟨hle4,?_⟩
 simp (disch:=omega) only [SS,g24,seval]
 refine ⟨fun _=>?_,fun h=>absurd h (by simp)⟩
 refine (plright_c (m:=m)).mono ?_
 rintro r h5 nx5 ⟨rfl,hk5,hle5⟩
 have g25:=(hk5 (p+1+1) (by omega)).trans g24
 refine ⟨hle5,?_⟩
 simp (disch:=omega) only [SS,g25,g24,seval]
 refine (rplright_c (m:=m)).mono ?_
 rintro r h6 nx6 ⟨rfl,hk6,hle6⟩
 refine ⟨hle6,?_⟩
 rw [show Q=Tryz.prog from rfl,bin_beq4,RK_ok]
 show _=_
 rw [beq_self_eq_true]
theorem playwrong_cv {s:Bool} {x:Stp} {ms:List Mv} {n0 n1:Int} {vd ve vc vm:Value} {h:Hp} {nx:Nat} (hd:SlRd h nx vd encI x.ds) (he:SlRd h nx ve enc3 x.es) (hc:∃ a n,vc = .slice a x.nch n) (hm:SlRd h nx vm encM ms) :
  Cv Q O s 4 [.agg ⟨stpV x vd ve vc⟩,vm,.agg ⟨[.int .i64 n0,.int .i64 n1]⟩] h nx TrueK:=by
 refine playwrongv ?_
 obtain ⟨a3,cap3,rfl⟩:=id hc
 obtain ⟨a1,cap1,rfl,_⟩:=id hd
 obtain ⟨a2,cap2,rfl,_⟩:=id he
 obtain ⟨a4,cap4,rfl,hc4⟩:=id hm
 have cut:∀ {t1 p1 p4:Value} {h':Hp} {nx':Nat},playwrongk1 s TrueK t1 p1 p4 (.bool true) h' nx':=fun {t1 p1 p4 h' nx'}=>by
  unfold playwrongk1
  rw [IF_b]
  exact ⟨fun _=>live_o rfl,fun h=>by cases h⟩
 unfold playwrong stpV
 simp (disch:=omega) only [SS,seval]
 refine ⟨fun _=>cut,fun e1=>⟨fun _=>cut,fun e2=>?_⟩⟩
 have go:ms.length≤60∨1048576<ms.length→playwrongk1 s TrueK (.slice a4 ms.length cap4) (.pointer (some ⟨nx,0,none⟩)) (.pointer (some ⟨nx+1,0,none⟩)) (.bool false) (hset (hset h nx (.cells (stpV x (.slice a1 x.ds.length cap1) (.slice a2 x.es.length cap2) (.slice a3 x.nch cap3)) false)) (nx+1) (.cells [.int .i64 n0,.int .i64 n1] false)) (nx+1+1):=fun hml=>by
  unfold playwrongk1
  have K0:∀ {o o' o'' o3},Keep nx h (hset (hset (hset (hset h nx o) (nx+1) o') (nx+1+1) o'') (nx+1+1) o3):=((((Keep.refl _ _).set (Nat.le_refl _)).set (Nat.le_succ _)).set (by omega)).set (by omega)
  have K4:∀ {o o' o'' o3 o4},Keep nx h (hset (hset (hset (hset (hset h nx o) (nx+1) o') (nx+1+1) o'') (nx+1+1) o3) (nx+1+1) o4):=K0.set (by omega)
  have hH:∀ {h' nx'},Keep nx h h'→nx≤nx'→StpIs h' nx' x (.slice a1 x.ds.length cap1) (.slice a2 x.es.length cap2) (.slice a3 x.nch cap3):=fun hk hle=>⟨hd.keep hk hle,SlPx.of (he.keep hk hle),⟨_,_,rfl⟩,by omega⟩
  simp (disch:=omega) only [SS,seval]
  refine ⟨fun h0=>?_,fun h0=>?_⟩
  ·obtain ⟨m,hx⟩:=get_ex (l:=ms) (i:=0) (by omega)
   obtain ⟨_,b,sp,ro,c1,hb,e1,hgb⟩:=hm.at hx
   cases e1
   have hr:=rdF (enc:=encM) (k:=4) (fun _=>rfl) hx
   rw [Nat.zero_mul] at hr
   simp (disch:=omega) only [SS,hgb,hr,encM,seval]
   exact pw_end (m:=m) (hH K4 (by omega)) (hm.keep K4 (by omega)) hml (by rw [hold (by omega),hold (by omega),hold (by omega),hold (by omega),hnew]) (by rw [hold (by omega),hold (by omega),hold (by omega),hnew]) (hnew _ _ _) (by omega)
  ·exact pw_end (m:=(0,0,0,0)) (hH K0 (by omega)) (hm.keep K0 (by omega)) hml (by rw [hold (by omega),hold (by omega),hold (by omega),hnew]) (by rw [hold (by omega),hold (by omega),hnew]) (hnew _ _ _) (by omega)
 have last:60<(ms.length:Int)→playwrongk1 s TrueK (.slice a4 ms.length cap4) (.pointer (some ⟨nx,0,none⟩)) (.pointer (some ⟨nx+1,0,none⟩)) (.bool (!decide (1048576<(ms.length:Int)))) (hset (hset h nx (.cells (stpV x (.slice a1 x.ds.length cap1) (.slice a2 x.es.length cap2) (.slice a3 x.nch cap3)) false)) (nx+1) (.cells [.int .i64 n0,.int .i64 n1] false)) (nx+1+1):=fun _=>by
  by_cases h7:1048576<(ms.length:Int)
  ·rw [decide_eq_true h7]; exact go (.inr (by omega))
  ·rw [decide_eq_false h7]; exact cut
 exact ⟨fun _=>⟨fun _=>cut,fun _=>⟨last,fun h=>go (.inl (by omega))⟩⟩,fun _=>⟨last,fun h=>go (.inl (by omega))⟩⟩
open Go.ChangeShapes Go.WideShapes Go.ChangeAt Go.RowKit
def fld (n:String) (t:TypeId) (o b:Nat):Field:={ name:=n,type:=t,offset:=o,embedded:=false,tag := "",pkgPath := "",byteOffset:=b }
theorem w31:Tryz.prog.underlying 31=some (.struct #[fld "Plan" 25 0 0,fld "Graph" 28 5 56,fld "R" 3 7 88,fld "C" 3 8 96,fld "Room" 3 9 104,fld "Limit" 3 10 112,fld "Choices" 29 11 120]):=by kernel_rfl
theorem w25:Tryz.prog.underlying 25=some (.struct #[fld "Kind" 22 0 0,fld "N" 3 1 8,fld "Source" 3 2 16,fld "Length" 3 3 24,fld "Draws" 23 4 32]):=by kernel_rfl
theorem w46:Tryz.prog.underlying 46=some (.struct #[fld "Kind" 44 0 0,fld "A" 3 1 8,fld "B" 3 2 16,fld "K" 3 3 24]):=by kernel_rfl
theorem w109:Tryz.prog.underlying 109=some (.struct #[fld "Way" 106 0 0,fld "Form" 107 1 8]):=by kernel_rfl
theorem w29:Tryz.prog.underlying 29=some (.slice 109):=by kernel_rfl
theorem w42:Tryz.prog.underlying 42=some (.slice 46):=by kernel_rfl
theorem w23:Tryz.prog.underlying 23=some (.slice 2):=by kernel_rfl
theorem w43:Tryz.prog.underlying 43=some (.array 2 3):=by kernel_rfl
theorem w22:Tryz.prog.underlying 22=some (.int .i64):=by kernel_rfl
theorem w44:Tryz.prog.underlying 44=some (.int .i64):=by kernel_rfl
theorem w110:Tryz.prog.underlying 106=some (.int .i64):=by kernel_rfl
theorem w111:Tryz.prog.underlying 107=some (.int .i64):=by kernel_rfl
theorem m31:Tryz.prog.cellsOf 31=12:=by kernel_rfl
theorem m25:Tryz.prog.cellsOf 25=5:=by kernel_rfl
theorem m46:Tryz.prog.cellsOf 46=4:=by kernel_rfl
theorem m109:Tryz.prog.cellsOf 109=2:=by kernel_rfl
theorem m29:Tryz.prog.cellsOf 29=1:=by kernel_rfl
theorem m23:Tryz.prog.cellsOf 23=1:=by kernel_rfl
theorem m22:Tryz.prog.cellsOf 22=1:=by kernel_rfl
theorem m44:Tryz.prog.cellsOf 44=1:=by kernel_rfl
theorem m43:Tryz.prog.cellsOf 43=2:=by kernel_rfl
theorem m110:Tryz.prog.cellsOf 106=1:=by kernel_rfl
theorem m111:Tryz.prog.cellsOf 107=1:=by kernel_rfl
theorem ct31:Tryz.prog.cellTypes Tryz.prog.depth 31=some [22,3,3,3,23,3,26,3,3,3,3,29]:=by kernel_rfl
theorem all46:AllI Tryz.prog 46 4:=⟨⟨_,w46,rfl,fun i f h=>by
 have hi:i<4:=(Array.getElem?_eq_some_iff.1 h).1
 match i,hi with
 | 0,_=>cases h; exact ⟨rfl,w44,m44⟩
 | 1,_=>cases h; exact ⟨rfl,u3,c3⟩
 | 2,_=>cases h; exact ⟨rfl,u3,c3⟩
 | 3,_=>cases h; exact ⟨rfl,u3,c3⟩⟩,m46⟩
theorem all109:AllI Tryz.prog 109 2:=⟨⟨_,w109,rfl,fun i f h=>by
 have hi:i<2:=(Array.getElem?_eq_some_iff.1 h).1
 match i,hi with
 | 0,_=>cases h; exact ⟨rfl,w110,m110⟩
 | 1,_=>cases h; exact ⟨rfl,w111,m111⟩⟩,m109⟩
section
variable {H:Type} {enc:TypeId × Value→H} {w:World} {sp:Nat→Bool}
theorem fields {t:TypeId} {fs:Array Field} {n:Nat} {cs:List Value} {d:DataW H} {ps:List MemPlace} (ht:Tryz.prog.underlying t=some (.struct fs)) (h:DataW.trod enc Tryz.prog w 0 sp true n t cs=some (d,ps)) :
  ∃ n',∀ (i:Nat) (fd:Field),fs[i]? = some fd→∃ y,DataW.trod enc Tryz.prog w 0 sp true n' fd.type ((cs.drop fd.offset).take (Tryz.prog.cellsOf fd.type))=some y:=by
 obtain ⟨xs,n',rfl,_,hlen,hxl,hall⟩:=DataW.trod_struct ht h
 refine ⟨n',fun i fd hfd=>?_⟩
 have hi:i<xs.length:=by rw [hxl]; exact (Array.getElem?_eq_some_iff.1 hfd).1
 exact ⟨xs[i],by rw [hall i fd hfd,List.getElem?_eq_getElem]⟩
theorem open_setup {r:Reach} {b0:Nat} {v:Value} {d:DataW H} {ps:List MemPlace} (hval:Value.okWide Tryz.prog w r b0 31 v) (h:DataW.Trod enc Tryz.prog w 0 sp true 31 v d ps) :
  ∃ (x:Stp) (vd ve vc:Value) (cs:List (Int × Int)),v = .agg ⟨stpV x vd ve vc⟩∧CameL w vd encI x.ds∧CameL w ve enc3 x.es∧CameL w vc enc2 cs∧x.nch=cs.length:=by
 unfold Value.okWide at hval
 rw [w31] at hval
 obtain ⟨cs,rfl,hsz,ts,hts,_,hcell⟩:=hval
 rw [ct31] at hts
 cases hts
 rw [m31] at hsz
 obtain ⟨l⟩:=cs
 match l,hsz with
 | [a0,a1,a2,a3,a4,a5,a6,a7,a8,a9,a10,a11],_ =>
  obtain ⟨fuel,hf⟩:=h
  have hf:DataW.trod enc Tryz.prog w 0 sp true fuel 31 [a0,a1,a2,a3,a4,a5,a6,a7,a8,a9,a10,a11]=some (d,ps):=hf
  obtain ⟨n,get⟩:=fields w31 hf
  obtain ⟨⟨_,_⟩,h0⟩:=get 0 (fld "Plan" 25 0 0) rfl
  obtain ⟨⟨_,_⟩,h1⟩:=get 1 (fld "Graph" 28 5 56) rfl
  obtain ⟨y2,h2⟩:=get 2 (fld "R" 3 7 88) rfl
  obtain ⟨y3,h3⟩:=get 3 (fld "C" 3 8 96) rfl
  obtain ⟨y4,h4⟩:=get 4 (fld "Room" 3 9 104) rfl
  obtain ⟨y5,h5⟩:=get 5 (fld "Limit" 3 10 112) rfl
  obtain ⟨y6,h6⟩:=get 6 (fld "Choices" 29 11 120) rfl
  simp only [fld] at h0 h1 h2 h3 h4 h5 h6
  rw [m25] at h0
  rw [n24] at h1
  rw [c3] at h2 h3 h4 h5
  rw [m29] at h6
  obtain ⟨R,rfl⟩:=field_int u3 h2
  obtain ⟨C,rfl⟩:=field_int u3 h3
  obtain ⟨M,rfl⟩:=field_int u3 h4
  obtain ⟨lim,rfl⟩:=field_int u3 h5
  obtain ⟨n0,get0⟩:=fields w25 h0
  obtain ⟨z0,e0⟩:=get0 0 (fld "Kind" 22 0 0) rfl
  obtain ⟨z1,e1⟩:=get0 1 (fld "N" 3 1 8) rfl
  obtain ⟨z2,e2⟩:=get0 2 (fld "Source" 3 2 16) rfl
  obtain ⟨z3,e3⟩:=get0 3 (fld "Length" 3 3 24) rfl
  obtain ⟨z4,e4⟩:=get0 4 (fld "Draws" 23 4 32) rfl
  simp only [fld] at e0 e1 e2 e3 e4
  rw [m22] at e0
  rw [c3] at e1 e2 e3
  rw [m23] at e4
  obtain ⟨k,rfl⟩:=field_int w22 e0
  obtain ⟨N,rfl⟩:=field_int u3 e1
  obtain ⟨src,rfl⟩:=field_int u3 e2
  obtain ⟨len,rfl⟩:=field_int u3 e3
  obtain ⟨n1,get1⟩:=fields u24 h1
  obtain ⟨q0,f0⟩:=get1 0 (fN) rfl
  obtain ⟨q1,f1⟩:=get1 1 (fEdges) rfl
  rw [show fN.type=3 from rfl,show fN.offset=0 from rfl,c3] at f0
  rw [show fEdges.type=26 from rfl,show fEdges.offset=1 from rfl,n22] at f1
  obtain ⟨gn,rfl⟩:=field_int u3 f0
  obtain ⟨u,hu,hok⟩:=hcell 4 a4 rfl
  cases hu
  obtain ⟨ds,_,hd⟩:=open_sl (e3:=encI) (k:=1) w23 c2 (fun _=>True) (fun n c y hy=>by obtain ⟨m,hm,_⟩:=DataW.trod_int u2 hy; exact ⟨m,hm,trivial⟩) e4 hok
  obtain ⟨u,hu,hok⟩:=hcell 6 a6 rfl
  cases hu
  obtain ⟨es,_,he⟩:=open_sl (e3:=enc3) (k:=3) u22 n52 (fun _=>True) (fun n c y hy=>by obtain ⟨e,he,_⟩:=trod_tri tri52 hy; exact ⟨e,he,trivial⟩) f1 hok
  obtain ⟨u,hu,hok⟩:=hcell 11 a11 rfl
  cases hu
  obtain ⟨cs,_,hc⟩:=open_sl (e3:=enc2) (k:=2) w29 m109 (fun _=>True) (fun n c y hy=>by obtain ⟨e,he⟩:=trod_pair all109 hy; exact ⟨e,he,trivial⟩) h6 hok
  exact ⟨⟨k,N,src,len,ds,gn,es,R,C,M,lim,cs.length⟩,a4,a6,a11,cs,rfl,hd,he,hc,rfl⟩
theorem open_moves {r:Reach} {b0:Nat} {v:Value} {d:DataW H} {ps:List MemPlace} (hval:Value.okWide Tryz.prog w r b0 42 v) (h:DataW.Trod enc Tryz.prog w 0 sp true 42 v d ps) :
  ∃ ms:List Mv,CameL w v enc4 ms:=by
 obtain ⟨a,len,cap,rfl⟩:=okWide_slice w42 hval
 unfold Value.okWide at hval
 rw [w42] at hval
 obtain ⟨fuel,hf⟩:=h
 have hf:DataW.trod enc Tryz.prog w 0 sp true fuel 42 [.slice a len cap]=some (d,ps):=hf
 obtain ⟨ys,_,hy⟩:=open_sl (e3:=enc4) (k:=4) w42 m46 (fun _=>True) (fun n c y hy=>by
  obtain ⟨m,hm⟩:=trod_four all46 hy
  exact ⟨m,hm,trivial⟩) hf hval
 exact ⟨ys,hy⟩
theorem open_pair {r:Reach} {b0:Nat} {v:Value} {d:DataW H} {ps:List MemPlace} (hval:Value.okWide Tryz.prog w r b0 43 v) (h:DataW.Trod enc Tryz.prog w 0 sp true 43 v d ps) :
  ∃ a b:Int,v = .agg ⟨[.int .i64 a,.int .i64 b]⟩:=by
 unfold Value.okWide at hval
 rw [w43] at hval
 obtain ⟨cs,rfl,hsz,_⟩:=hval
 rw [m43] at hsz
 obtain ⟨l⟩:=cs
 match l,hsz with
 | [a,b],_ =>
  obtain ⟨fuel,hf⟩:=h
  have hf:DataW.trod enc Tryz.prog w 0 sp true fuel 43 [a,b]=some (d,ps):=hf
  obtain ⟨xs,n,rfl,_,hlen,hxl,hall⟩:=DataW.trod_array w43 hf
  have get:∀ i,i<2→∃ y,DataW.trod enc Tryz.prog w 0 sp true n 3 (([a,b].drop (i*Tryz.prog.cellsOf 3)).take (Tryz.prog.cellsOf 3))=some y:=fun i hi=>by
   have hx:i<xs.length:=by rw [hxl]; exact hi
   exact ⟨xs[i],by rw [hall i hi,List.getElem?_eq_getElem hx]⟩
  obtain ⟨y0,h0⟩:=get 0 (by omega)
  obtain ⟨y1,h1⟩:=get 1 (by omega)
  rw [c3] at h0 h1
  obtain ⟨x,rfl⟩:=field_int u3 h0
  obtain ⟨y,rfl⟩:=field_int u3 h1
  exact ⟨x,y,rfl⟩
end
theorem O_ok:OrcOk Tryz.prog O:=fun f g h=>by
 unfold O at h
 cases h1:Nat.beq f 14 with
 | true =>
  have e:=Nat.eq_of_beq_eq_true h1
  subst e
  rw [h1] at h
  cases h
  exact live25_ok
 | false =>
  rw [h1] at h
  cases h2:Nat.beq f 307 with
  | true =>
   have e:=Nat.eq_of_beq_eq_true h2
   subst e
   rw [h2] at h
   cases h
   exact combF_ok
  | false=>rw [h2] at h; cases h
theorem walkPlw {x:Stp} {vd ve vc vm:Value} {cs:List (Int × Int)} {ms:List Mv} {a b:Int} {W:World} (hd:CameL W vd encI x.ds) (he:CameL W ve enc3 x.es) (hc:CameL W vc enc2 cs) (hn:x.nch=cs.length) (hm:CameL W vm enc4 ms) :
  Calls Tryz.prog 4 #[.agg ⟨stpV x vd ve vc⟩,vm,.agg ⟨[.int .i64 a,.int .i64 b]⟩] W fun e w'=>e = .returned (.bool true)∧Below W.heap.size W w':=by
 obtain ⟨ps,v',u',t',r',h1,h2,h3,h4,h5,h6,h7,h8,h9⟩:=in_four (e3:=encI) (e1:=enc3) (e2:=enc2) (e4:=enc4) (fun _=>rfl) (fun _=>rfl) (fun _=>rfl) (fun _=>rfl) hd he hc hm
 have hc':∃ a n,t' = .slice a x.nch n:=by
  obtain ⟨a,c,e,_⟩:=h8
  exact ⟨a,c,by rw [hn]; exact e⟩
 exact callsIn_wide.1 (run_ok (n:=0) pok O_ok (playwrong_cv (x:=x) (n0:=a) (n1:=b) h6 h7 hc' h9) (in_rel h1) (in_fr _) (.cons (.agg (.cons (.int _ _) (.cons (.int _ _) (.cons (.int _ _) (.cons (.int _ _) (.cons h2 (.cons (.int _ _) (.cons h3 (.cons (.int _ _) (.cons (.int _ _) (.cons (.int _ _) (.cons (.int _ _) (.cons h4 .nil))))))))))))) (.cons h5 (.cons (.agg (.cons (.int _ _) (.cons (.int _ _) .nil))) .nil))))
end Go.Proofs.YtcjochjiegiliaaGreat
