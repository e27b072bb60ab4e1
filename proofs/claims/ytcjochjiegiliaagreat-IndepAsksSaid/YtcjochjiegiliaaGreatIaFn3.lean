/- Parts of the proof: IaFn3: each statement bears its own conditions. -/
import Derived.Test.YtcjochjiegiliaaGreatIaFn2
namespace Go.Proofs.YtcjochjiegiliaaGreat
open Go Go.Ax
set_option linter.unusedVariables false
set_option linter.unusedSimpArgs false
set_option maxRecDepth 1000000
structure Ls (N:Nat) (h:Hp) (lo hi:Nat) (os:List Value) (ls:Nat→List Nat) (bs:Nat→Option Nat):Prop where
 len:os.length=N
 s:∀ i,i<N→∃ o,os[i]? = some o∧Ow h encI o (natI (ls i)) (bs i)
 b:∀ i c,bs i=some c→lo≤c∧c<hi
 d:∀ i j c,bs i=some c→bs j=some c→i=j
theorem Ls.keep {N:Nat} {h h':Hp} {lo hi hi':Nat} {os:List Value} {ls:Nat→List Nat} {bs:Nat→Option Nat} (L:Ls N h lo hi os ls bs) (hk:∀ c,lo≤c→c<hi→hget h' c=hget h c) (hle:hi≤hi'):Ls N h' lo hi' os ls bs :=
 ⟨L.len,fun i hi=>by
  obtain ⟨o,e,g⟩:=L.s i hi;exact ⟨o,e,g.keep fun c e=>hk c (L.b i c e).1 (L.b i c e).2⟩,fun i c e=>⟨(L.b i c e).1,by have:=(L.b i c e).2; omega⟩,L.d⟩
def NeJ0 (N p1 p6 lo:Nat) (v vc:Value) (cs:List GE) (h0:Hp) (m:Nat) (vs:List Value) (h':Hp) (nx':Nat):Prop :=
 ∃ (k:Nat) (os:List Value) (bs:Nat→Option Nat),m=cs.length-k∧k≤cs.length∧vs=[.pointer (some ⟨p1,0,none⟩),.slice (some ⟨p6,0,none⟩) N N,vc,.int .i64 (cs.length:Int),.int .i64 (k:Int)]∧hget h' p6=some (.cells os false)∧Ls N h' lo nx' os (outs (cs.take k)) bs∧(∀ c,c<lo→c≠p6→hget h' c=hget h0 c)∧lo≤nx'
def NeJ1 (N p1 p6 lo:Nat) (cs:List GE) (h0:Hp) (m:Nat) (vs:List Value) (h':Hp) (nx':Nat):Prop :=
 ∃ (k:Nat) (svs:List Sv) (o:Value) (bo:Option Nat),m=N-k∧k≤N∧vs=[.pointer (some ⟨p1,0,none⟩),o,.slice (some ⟨p6,0,none⟩) N N,.int .i64 (N:Int),.int .i64 (k:Int)]∧Vs h' lo nx' svs ((List.range k).map fun i=>[Value.int .u64 (mk N (hasB cs i):Int)]) o bo∧(∀ c,c<lo→hget h' c=hget h0 c)∧lo≤nx'
theorem zQw {s:Bool} {N:Nat} {gs:List GE} {v:Value} {h:Hp} {nx:Nat} (hv:SlPx h nx v encG gs) (h0:1≤N) (h1:N≤63) (hl:gs.length≤60) (hok:∀ g∈gs,GOk N g) :
  Cv Q O s 110 [.agg ⟨[.int .i64 (N:Int),v]⟩] h nx (fun r h' nx'=>ByIs h' nx nx' r N (nb gs)∧Keep nx h h'∧nx≤nx'):=by
 refine nearv ?_;obtain ⟨a,cap,rfl,hc⟩:=id hv;unfold near aF cF iV lA lF nF nS pC;simp (disch:=omega) only [SS,seval];have K0:∀ {o o'},Keep nx h (hset (hset h nx o) (nx+1) o'):=((Keep.refl _ _).set (Nat.le_refl _)).set (Nat.le_succ _);refine (zM2 (hv.keep K0 (by omega)) (by omega) (by omega) hok).mono ?_;rintro r h2 nx2 ⟨v2,c1,rfl,hc1,hcan1,hok1,hlen1,hk2,hle2⟩;have hml:=zBc (p:=zCN) (m:=id) gs;unfold zCp at hlen1;refine (both_c (SlPx.of hc1.rd) (by omega) (by omega) hok1).mono ?_;rintro r h3 nx3 ⟨ts,htc,htl,htok,v3,c2,rfl,hc2,hcan2,hok2,hlen2,hk3,hle3⟩;rw [List.length_append] at hlen2;obtain ⟨a3,cp3,rfl,hc3⟩:=id hc2.nw;have g0:=(hk3 nx (by omega)).trans (hk2 nx (by omega));rw [hold (by omega),hnew] at g0;have g1:=(hk3 (nx+1) (by omega)).trans (hk2 (nx+1) (by omega));rw [hnew] at g1;have K3:Keep nx h h3:=(K0.trans hk2 (by omega)).trans hk3 (by omega);simp (disch:=omega) only [SS,seval];refine Lp.mk (NeJ0 N nx (nx+1) nx3 (.slice a gs.length cap) (.slice a3 c2.length cp3) c2 h3) c2.length ⟨0,List.replicate N (.slice none 0 0),fun _=>none,by omega,by omega,rfl,g1,⟨by simp,fun i hi=>⟨.slice none 0 0,by simp [hi],by rw [List.take_zero]; exact .nil⟩,fun i c e=>(by cases e),fun i j c e=>(by cases e)⟩,fun c _ _=>rfl,Nat.le_refl _⟩ ?_;rintro _ _ h4 nx4 ⟨k,os,bs,rfl,hk4,rfl,gp,L,hf4,hle4⟩;rw [nearb0];unfold nearl0 aF bF gL iV lA lF nC xF;simp (disch:=omega) only [SS,seval];refine ⟨fun hlt=>?_,fun hge=>?_⟩
 ·obtain ⟨e,he⟩:=zj hlt;obtain ⟨b,sp,ro,hb1,hb2,rfl,hb⟩:=hc3 (fun e0=>by rw [e0] at hlt; exact absurd hlt (Nat.not_lt_zero _));have hb4:=(hf4 b (by omega) (by omega)).trans hb;have hem:=hok2 e (List.mem_of_getElem? he);have hef:e.f<N:=hem.1;have het:e.t<N:=hem.2.1;obtain ⟨o,ho,hG⟩:=L.s e.f hef;have hlo:=L.len;obtain ⟨ho1,ho2⟩:=hG.gr.cell;simp (disch:=omega) only [SS,hb4,rd_e0 he,gp,ho,seval];have hnb:∀ c,bs e.f=some c→nx3≤c∧c<nx4:=L.b e.f;have hol:(natI (outs (c2.take k) e.f)).length<1000000:=by
   have h1:=List.length_filter_le (fun x:GE=>decide (x.f=e.f)) (c2.take k);have h2:(c2.take k).length≤k:=by rw [List.length_take]; omega
   unfold natI outs;rw [List.length_map,List.length_map];omega
  refine zB2 (hG.gr.keep fun c hc=>by have:=hnb c hc; rw [hold (by omega),hold (by omega),hold (by omega)]) (hnew _ _ _) hol fun h5 hn5 hf5=>?_;have gp5:hget h5 (nx+1)=some (.cells os false):=by
   rw [hf5 _ (by omega) (fun e0=>by have:=hnb _ e0; omega),hold (by omega),hold (by omega),hold (by omega)]; exact gp
  have ge5:hget h5 nx4=some (.cells [.int .i64 (e.f:Int),.int .i64 (e.t:Int),.int .i64 e.w] false):=by
   rw [hf5 _ (by omega) (fun e0=>by have:=hnb _ e0; omega),hold (by omega),hnew]
  refine ⟨by omega,?_⟩;simp (disch:=omega) only [SS,ge5,gp5,hlo,seval];refine ⟨by omega,c2.length-(k+1),by omega,k+1,os.set e.f (.slice (some ⟨nx4+1+1,0,some 1⟩) ((natI (outs (c2.take k) e.f)).length+1) ((natI (outs (c2.take k) e.f)).length+1)),fun i=>if i=e.f then some (nx4+1+1) else bs i,rfl,by omega,by rw [zZ (by omega)],hnew _ _ _,⟨by rw [List.length_set]; exact hlo,fun i hi=>?_,fun i c hc=>?_,fun i j c hi hj=>?_⟩,fun c h1 h2=>?_,by omega⟩
  ·by_cases hie:i=e.f
   ·subst hie;refine ⟨_,by rw [List.getElem?_set,if_pos rfl,if_pos (by omega)],?_⟩;rw [zJa he,if_pos rfl,if_pos rfl];have hn:natI (outs (c2.take k) e.f++[e.t])=natI (outs (c2.take k) e.f)++[(e.t:Int)]:=by unfold natI; rw [List.map_append]; rfl
    rw [hn];exact .inr ⟨nx4+1+1,rfl,by rw [List.length_append]; rfl,by rw [hold (by omega),zT]; exact hn5⟩
   ·obtain ⟨oi,hoi,hgi⟩:=L.s i hi;refine ⟨oi,by rw [List.getElem?_set,if_neg (fun e0=>hie e0.symm)]; exact hoi,?_⟩;rw [zJa he,if_neg (fun e0=>hie e0.symm),List.append_nil,if_neg hie];refine hgi.keep fun c hc=>?_;have hb':=L.b i c hc;rw [hold (by omega),hf5 c (by omega) (fun e0=>hie (L.d i e.f c hc e0)),hold (by omega),hold (by omega),hold (by omega)]
  ·by_cases hie:i=e.f
   ·rw [if_pos hie] at hc; cases hc; omega
   ·rw [if_neg hie] at hc;have:=L.b i c hc; omega
  ·by_cases hie:i=e.f <;> by_cases hje:j=e.f
   ·omega
   ·rw [if_pos hie] at hi; rw [if_neg hje] at hj; cases hi;have:=L.b j _ hj; omega
   ·rw [if_neg hie] at hi; rw [if_pos hje] at hj; cases hj;have:=L.b i _ hi; omega
   ·rw [if_neg hie] at hi; rw [if_neg hje] at hj;exact L.d i j c hi hj
  ·rw [hold h2,hf5 c (by omega) (fun e0=>by have:=hnb _ e0; omega),hold (by omega),hold (by omega),hold (by omega)]; exact hf4 c h1 h2
 ·have hkc:k=c2.length:=by omega
  subst hkc;rw [List.take_length] at L;have hB:=both_has hcan1 htc hcan2;have g04:=(hf4 nx (by omega) (by omega)).trans g0;have K4:Keep nx h h4:=fun c hc=>by rw [hf4 c (by omega) (by omega)]; exact K3 c hc
  refine Lp.mk (NeJ1 N nx (nx+1) nx4 c2 h4) N ⟨0,[],.slice none 0 0,none,by omega,by omega,rfl,Vs.nil,fun _ _=>rfl,Nat.le_refl _⟩ ?_;rintro _ _ h5 nx5 ⟨k,svs,o,bo,rfl,hk5,rfl,V,hf5,hle5⟩;rw [nearb1];unfold nearl1 aF bF cF iV lF nS xF
  by_cases hkN:k<N
  ·obtain ⟨ok,hok',hW⟩:=L.s k hkN;have hgp:=(hf5 (nx+1) (by omega)).trans gp;have hg05:=(hf5 nx (by omega)).trans g04;simp (disch:=omega) only [SS,show (k:Int)<(N:Int) by omega,hgp,hok',hg05,seval];refine ⟨?_,fun h=>absurd trivial h⟩;have hrd:SlRd h5 nx5 ok encI (natI (outs c2 k)):=((hW.nw (fun c e=>L.b k c e)).rd.keep (nx':=nx4) (h':=h5) (fun c hc=>hf5 c hc) (Nat.le_refl _)).keep (Keep.refl _ _) hle5;refine (fof_c h0 (by omega) hrd (fun x hx=>?_) ?_).mono ?_
   ·unfold outs at hx;obtain ⟨e,he,rfl⟩:=List.mem_map.1 hx;exact (hok2 e (List.mem_filter.1 he).1).2.1
   ·have h1:=List.length_filter_le (fun x:GE=>decide (x.f=k)) c2;unfold outs;rw [List.length_map];omega
   rintro r h6 n6 ⟨b,c,sp,rfl,hb1,hb2,hg6,hk6,hle6⟩;have hw:mk N (inL (outs c2 k))=mk N (hasB c2 k):=zGj fun j _=>outs_in c2 k j;rw [hw] at hg6;have V6:=V.keep (h':=h6) (hi':=n6) (fun c h1 h2=>hk6 c h2) hle6;obtain ⟨ao,co,rfl⟩:=V.g.form;have hsz:(svs.length+1)*1≤1000000:=by rw [V.len,List.length_map,List.length_range]; omega
   simp (disch:=omega) only [SS,seval];refine zML (enc:=encS) (k:=1) (l:=svs) (o:=bo) (fun _=>rfl) (fun _=>rfl) (by omega) (V6.g.gr.keep fun c hc=>by have:=V6.b c hc; rw [hold (by omega)]) ⟨some ⟨b,0,sp⟩,1,c⟩ (hnew _ _ _) rfl hsz fun h7 hn7 hf7=>?_;simp (disch:=omega) only [SS,zZ (show k<1000000000000 by omega),seval];refine ⟨N-(k+1),by omega,k+1,svs++[⟨some ⟨b,0,sp⟩,1,c⟩],.slice (some ⟨n6+1,0,some 1⟩) (svs.length+1) (svs.length+1),some (n6+1),rfl,by omega,rfl,?_,fun c hc=>?_,by omega⟩
   ·rw [List.range_succ,List.map_append];have V6':Vs (hset h6 n6 (.cells [.slice (some ⟨b,0,sp⟩) 1 c] false)) nx4 (n6+1) svs ((List.range k).map fun i=>[Value.int .u64 (mk N (hasB c2 i):Int)]) _ bo:=V6.keep (fun c h1 h2=>hold (by omega)) (Nat.le_succ _);refine V6'.add (.inr ⟨b,sp,rfl,rfl,by omega,by omega,fun e=>?_,?_⟩) (Nat.le_refl _) (by omega) (Nat.lt_succ_self _) (.inr ⟨n6+1,rfl,by rw [List.length_append]; rfl,hn7⟩) (fun c h1 h2 _=>hf7 c (by omega) h2)
    ·have:=(V.b b e).2; omega
    ·rw [hold (by omega)]; exact hg6
   ·rw [hf7 c (by omega) (fun e=>by have:=V.b c e; omega),hold (by omega),hk6 c (by omega)]; exact hf5 c hc
  ·have:k=N:=by omega
   subst this;simp (disch:=omega) only [SS,show ¬ (k:Int)<(k:Int) by omega,seval];refine fun _=>⟨?_,fun c hc=>?_,by omega⟩
   ·have hsl:svs.length=k:=by rw [V.len,List.length_map,List.length_range]
    rcases V.g with ⟨e,_⟩ | ⟨b,rfl,rfl,hg⟩
    ·rw [e] at hsl; simp at hsl; omega
    refine ⟨b,some 1,svs.length,false,flat encS svs,by rw [hsl],by have:=(V.b b rfl).1; omega,(V.b b rfl).2,hg,by rw [zAF (k:=1) (fun _=>rfl),hsl]; omega,fun i hi=>?_⟩;obtain ⟨x,hx⟩:=zj (l:=svs) (i:=i) (by omega);have hfc:=zGy (enc:=encS) (k:=1) (fun _=>rfl) hx (j:=0) (by omega);rw [Nat.mul_one,Nat.add_zero] at hfc;refine ⟨_,hfc,?_⟩;rcases V.s i x [Value.int .u64 (mk k (hasB c2 i):Int)] hx (by rw [List.getElem?_map,List.getElem?_range hi]; rfl) with ⟨e,_⟩ | ⟨b2,sp2,e1,e2,e3,e4,e5,e6⟩
    ·cases e
    ·have hw:mk k (nb gs i)=mk k (hasB c2 i):=zGj fun j _=>(hB i j).symm;rw [hw];exact ⟨x.a,x.c,by rw [e2]; rfl,fun _=>⟨b2,sp2,false,by omega,e4,e1,e6⟩⟩
   ·rw [hf5 c (by omega)]; exact K4 c hc
theorem zKk {n:Nat} (h:n<9223372036854775808):IntKind.wrap .i64 (n:Int)=(n:Int):=zB4 (by omega) (by omega)
theorem zSc {t:TypeId} {a b:Nat} (ha:a<9223372036854775808) (hb:b<9223372036854775808):bin Q .or t (.int .i64 (a:Int)) (.int .i64 (b:Int)) = .ok (.int .i64 ((a ||| b:Nat):Int)):=by
 show R.ok (Value.int .i64 (IntKind.wrap .i64 ((BitVec.ofInt 64 (a:Int) ||| BitVec.ofInt 64 (b:Int)).toNat:Int)))=_;rw [BitVec.toNat_or,ofU (n:=a) (by omega),ofU (n:=b) (by omega),zKk (Nat.or_lt_two_pow (n:=63) ha hb)]
theorem zSb {t:TypeId} {a:Nat} (ha:a<2147483648):bin Q .shl t (.int .i64 (a:Int)) (.int .u64 12) = .ok (.int .i64 ((a*4096:Nat):Int)):=by
 show zCi .shl .i64 (a:Int) 12=_;unfold zCi;show R.ok (Value.int .i64 (zFN .i64 ((a:Int)*2 ^ (min (12:Int).toNat 64))))=_;rw [zAT,show ((a:Int)*2 ^ (min (12:Int).toNat 64))=((a*4096:Nat):Int) from (by show (a:Int)*4096=_; omega),zKk (by omega)]
theorem or_add {a b:Nat} (hb:b<4096):a*4096 ||| b=a*4096+b:=by
 rw [Nat.mul_comm];exact (Nat.two_pow_add_eq_or_of_lt (i:=12) hb a).symm
def DrOk (ds:List Int):Prop:=ds.length≤1000∧∀ x∈ds,0≤x∧x≤2147483647
theorem zQ6 {s:Bool} {k src len:Int} {N d v:Nat} {ds:List Int} {vd:Value} {h:Hp} {nx:Nat} (hd:SlRd h nx vd encI ds) (hok:DrOk ds) (hN:N≤4096) (hv:v<N) (hd2:d≤1000) :
  Cv Q O s 337 [.agg ⟨[.int .i64 k,.int .i64 (N:Int),.int .i64 src,.int .i64 len,vd]⟩,.int .i64 (d:Int),.int .i64 (v:Int)] h nx (EqK (.int .i64 (numD ds N d v)) nx h):=by
 refine pnumberv ?_;obtain ⟨a,cap,rfl,hc⟩:=id hd;unfold zQ7 aF bF cF iV lF pC;have K0:∀ {o},Keep nx h (hset h nx o):=(Keep.refl _ _).set (Nat.le_refl _);simp (disch:=omega) only [SS,seval];refine pwithin_c.mono ?_;rintro r h1 n1 ⟨rfl,e1,e2⟩;rw [e1,e2,zO2 (by omega)];have w1:IntKind.wrap .i64 ((N:Int)-1)=(N:Int)-1:=zB4 (by omega) (by omega);simp (disch:=omega) only [SS,w1,seval];refine pwithin_c.mono ?_;rintro r h1 n1 ⟨rfl,e1,e2⟩;rw [e1,e2,zO2 (by omega)];unfold zG3 aF bF iV lF nF xF;obtain ⟨hl,hb⟩:=hok
 by_cases h0:ds.length=0
 ·have e0:((ds.length:Nat):Int)=0:=by omega
  have es:bin Q .shl 2 (.int .i64 0) (.int .u64 12) = .ok (.int .i64 0):=rfl;have eo:bin Q .or 2 (.int .i64 0) (.int .i64 (v:Int)) = .ok (.int .i64 (v:Int)):=by
   rw [show (0:Int)=((0:Nat):Int) from rfl,zSc (by omega) (by omega),Nat.zero_or]
  simp (disch:=omega) only [SS,e0,es,eo,seval];refine fun _=>⟨?_,K0,by omega⟩
  unfold numD;rw [if_pos h0]; simp
 ·have hpos:0<ds.length:=by omega
  have hlt:(d*N+v) % ds.length<ds.length:=Nat.mod_lt _ hpos;obtain ⟨x,hx⟩:=zj (l:=ds) hlt;obtain ⟨hx0,hx1⟩:=hb x (List.mem_of_getElem? hx);obtain ⟨y,rfl⟩:∃ y:Nat,x=(y:Int):=⟨x.toNat,by omega⟩
  obtain ⟨b,sp,ro,hb1,rfl,hg⟩:=hc (fun e=>by rw [e] at hpos; simp at hpos);rw [zT] at hg;have hg':=(K0 (o:=.cells [.int .i64 k,.int .i64 (N:Int),.int .i64 src,.int .i64 len,.slice (some ⟨b,0,sp⟩) ds.length cap] false) b hb1).trans hg;have hdn:d*N≤4096000:=Nat.mul_le_mul (n₁:=d) (n₂:=1000) (m₁:=N) (m₂:=4096) (by omega) (by omega);have m1:IntKind.wrap .i64 ((d:Int)*(N:Int))=((d*N:Nat):Int):=by
   rw [show ((d:Int)*(N:Int))=((d*N:Nat):Int) by rw [Int.natCast_mul]]; exact zKk (by omega)
  have m2:IntKind.wrap .i64 (((d*N:Nat):Int)+(v:Int))=((d*N+v:Nat):Int):=by
   rw [show (((d*N:Nat):Int)+(v:Int))=((d*N+v:Nat):Int) by omega]; exact zKk (by omega)
  have m3:bin Q .rem 3 (.int .i64 ((d*N+v:Nat):Int)) (.int .i64 (ds.length:Int)) = .ok (.int .i64 (((d*N+v) % ds.length:Nat):Int)):=by
   rw [zJE (by omega)];rfl
  have eo:bin Q .or 2 (.int .i64 ((y*4096:Nat):Int)) (.int .i64 (v:Int)) = .ok (.int .i64 ((y*4096+v:Nat):Int)):=by
   rw [zSc (by omega) (by omega),or_add (by omega)]
  simp (disch:=omega) only [SS,show (0:Int)<(ds.length:Int) by omega,zCA,m1,m2,m3,hg',zg hx,zSb (show y<2147483648 by omega),eo,seval];refine ⟨⟨?_,K0,by omega⟩,fun h=>absurd trivial h⟩;unfold numD;rw [if_neg h0,hx];show Value.int .i64 ((y*4096+v:Nat):Int)=Value.int .i64 ((y:Int)*4096+(v:Int))
  congr 1
theorem zQd {s:Bool} {k src len:Int} {N d v:Nat} {ds:List Int} {vd:Value} {h:Hp} {nx:Nat} (hd:SlRd h nx vd encI ds) (hok:DrOk ds) (hp:zAS k N src len ds=0) (hN:N≤4096) (hv:v<N) (hd2:d≤1000) :
  Cv Q O s 271 [.agg ⟨[.int .i64 k,.int .i64 (N:Int),.int .i64 src,.int .i64 len,vd]⟩,.int .i64 (d:Int),.int .i64 (v:Int)] h nx (EqK (.int .i64 (numD ds N d v)) nx h):=by
 refine pdrawv ?_;obtain ⟨a,cap,rfl,hc⟩:=id hd;unfold pdraw bF cF iV lA pC;have K0:∀ {o},Keep nx h (hset h nx o):=(Keep.refl _ _).set (Nat.le_refl _);simp (disch:=omega) only [SS,seval];refine (zJ3 (hd.keep K0 (by omega))).mono ?_;rintro r h1 n1 ⟨rfl,hk1,hle1⟩;have g:=hk1 nx (by omega);rw [hnew] at g;rw [hp];simp (disch:=omega) only [SS,g,seval];refine (zQ6 ((hd.keep K0 (by omega)).keep hk1 (by omega)) hok hN hv hd2).mono ?_;rintro r h2 n2 ⟨rfl,hk2,hle2⟩;exact ⟨rfl,(K0.trans hk1 (by omega)).trans hk2 (by omega),by omega⟩
theorem conti_c {s:Bool} {f:Nat} {cl:List Value} {p:Int→Bool} {v:Value} {l:List Int} {h:Hp} {nx:Nat} (hv:SlRd h nx v encI l) (hl:l.length<1000000) (hf:∀ x∈l,∀ (h':Hp) (nx':Nat),Keep nx h h'→nx≤nx'→Cv Q O s f (.int .i64 x::cl) h' nx' (EqK (.bool (p x)) nx' h')) :
  Cv Q O s 272 [v,.func (.func f) ⟨[]⟩ ⟨cl⟩] h nx (EqK (.bool (l.any p)) nx h):=by
 refine contiv ?_;obtain ⟨a,cap,rfl,hc⟩:=id hv;unfold conti bF cF iV;refine (indexiv (K:=fun r h' nx'=>Keep nx h h'∧nx≤nx'∧∃ i:Int,r = .int .i64 i∧(i<0↔l.any p=false)) ?_).mono ?_
 ·unfold indexi iV nF;simp (disch:=omega) only [SS,seval];refine Lp.mk (IxJ p l (.slice a l.length cap) (.func (.func f) ⟨[]⟩ ⟨cl⟩) nx h) l.length ⟨0,rfl,by omega,rfl,Keep.refl _ _,Nat.le_refl _,fun x hx=>by simp at hx⟩ ?_;rintro m _ h' nx' ⟨i,rfl,hi,rfl,hk,hle,hno⟩;rw [indexib0];unfold zNN bF iV lF xF;simp (disch:=omega) only [SS,seval];refine ⟨fun hlt=>?_,fun hge=>?_⟩
  ·obtain ⟨x,hx⟩:=zj hlt;obtain ⟨_,b,sp,ro,c1,hb,e1,hg⟩:=hv.at hx;cases e1;rw [zT] at hg;simp (disch:=omega) only [SS,(hk b hb).trans hg,zg hx,seval];refine (hf x (List.mem_of_getElem? hx) h' nx' hk hle).mono ?_;rintro r h2 nx2 ⟨rfl,hk2,hle2⟩;rw [IF_b];refine ⟨fun hp=>?_,fun hp=>?_⟩
   ·refine ⟨hk.trans hk2 hle,by omega,_,rfl,⟨fun h=>absurd h (by omega),fun h=>?_⟩⟩;rw [List.any_eq_false] at h;exact absurd hp (h x (List.mem_of_getElem? hx))
   ·simp (disch:=omega) only [SS,zZ (show i<1000000000000 by omega),seval];exact ⟨l.length-(i+1),by omega,i+1,rfl,by omega,rfl,hk.trans hk2 hle,by omega,zP6 hx hno hp⟩
  ·have:i=l.length:=by omega
   subst this;rw [List.take_length] at hno;exact ⟨hk,hle,_,rfl,⟨fun _=>any_f hno,fun _=>by omega⟩⟩
 ·rintro r h' nx' ⟨hk,hle,i,rfl,hi⟩;simp (disch:=omega) only [SS,seval];refine ⟨?_,hk,hle⟩;cases ha:l.any p with
  | false=>rw [decide_eq_true (hi.2 ha)]; rfl
  | true =>
   have:¬ i<0:=fun h=>by rw [hi.1 h] at ha; cases ha
   rw [decide_eq_false this]; rfl
theorem least_c {s:Bool} {k src len:Int} {N d v:Nat} {ds:List Int} {vd vf:Value} {q:Nat→Bool} {h:Hp} {nx:Nat} (hd:SlRd h nx vd encI ds) (hok:DrOk ds) (hp:zAS k N src len ds=0) (hN:N≤63) (hv:v<N) (hd2:d≤1000) (hf:SlRd h nx vf encU [mk N q]) :
  Cv Q O s 190 [.agg ⟨[.int .i64 k,.int .i64 (N:Int),.int .i64 src,.int .i64 len,vd]⟩,.int .i64 (d:Int),.int .i64 (v:Int),vf] h nx (EqK (.bool ((fl N q).all fun u=>!decide (numD ds N d u≤numD ds N d v))) nx h):=by
 refine leastv ?_;obtain ⟨a,cap,rfl,hc⟩:=id hd;unfold least cF iV lA lF nC pC;have K0:∀ {o o'},Keep nx h (hset (hset h nx o) (nx+1) o'):=((Keep.refl _ _).set (Nat.le_refl _)).set (Nat.le_succ _);simp (disch:=omega) only [SS,seval];refine (zQd (hd.keep K0 (by omega)) hok hp (by omega) hv hd2).mono ?_;rintro r h1 n1 ⟨rfl,hk1,hle1⟩;simp (disch:=omega) only [SS,seval];have K1:Keep nx h h1:=K0.trans hk1 (by omega);have K2:∀ {o o'},Keep nx h (hset (hset h1 n1 o) n1 o'):=(K1.set (by omega)).set (by omega);refine (zL8 hN ((hf.keep K2 (nx':=nx) (Nat.le_refl _)).keep (Keep.refl _ _) (by omega))).mono ?_;rintro r h2 n2 ⟨bo,hW,hbo,hk2,hle2⟩;have hL:=(hW.nw hbo).rd;have g0:=hk2 nx (by omega);rw [hold (by omega),hold (by omega),hk1 nx (by omega),hold (by omega),hnew] at g0;have g1:=hk2 (nx+1) (by omega);rw [hold (by omega),hold (by omega),hk1 (nx+1) (by omega),hnew] at g1;have g2:=hk2 n1 (by omega);rw [hnew] at g2;obtain ⟨al,cl,rfl⟩:=hW.form;refine (conti_c (p:=fun x=>decide (numD ds N d x.toNat≤numD ds N d v)) hL (by unfold natI; rw [List.length_map]; have:=zDD N q; omega) fun x hx h3 n3 hk3 hle3=>?_).mono ?_
 ·obtain ⟨u,hu,rfl⟩:=List.mem_map.1 hx;have huN:=(mem_fl.1 hu).1;refine least1v ?_;unfold least1 bF dF gL lA lF;have g03:=(hk3 nx (by omega)).trans g0;have g13:=(hk3 (nx+1) (by omega)).trans g1;have g23:=(hk3 n1 (by omega)).trans g2;simp (disch:=omega) only [SS,g03,g13,seval];have hd3:SlRd h3 n3 (.slice a ds.length cap) encI ds:=(hd.keep (nx':=nx) (h':=h3) (fun c hc=>by rw [hk3 c (by omega),hk2 c (by omega)]; exact K2 c hc) (Nat.le_refl _)).keep (Keep.refl _ _) (by omega);refine (zQd hd3 hok hp (by omega) huN hd2).mono ?_;rintro r h4 n4 ⟨rfl,hk4,hle4⟩;have g24:=(hk4 n1 (by omega)).trans g23;refine ⟨hle4,?_⟩;simp (disch:=omega) only [SS,g24,g23,seval];refine ⟨?_,hk4,hle4⟩;rw [Int.toNat_natCast]
  by_cases hc2:numD ds N d v<numD ds N d u
  ·rw [decide_eq_true hc2,decide_eq_false (by omega)]; rfl
  ·rw [decide_eq_false hc2,decide_eq_true (by omega)]; rfl
 ·rintro r h3 n3 ⟨rfl,hk3,hle3⟩;simp (disch:=omega) only [SS,seval];refine ⟨?_,fun c hc=>by rw [hk3 c (by omega),hk2 c (by omega)]; exact K2 c hc,by omega⟩
  congr 1
  unfold natI;rw [List.any_map,List.all_eq_not_any_not]
  congr 2
  funext u
  simp
noncomputable def rfa2:Code:=(rfAt Tryz.prog 187).1
noncomputable def rfb2:Code:=(rfAt Tryz.prog 187).2
theorem app187:AppAt Q (.slice none 0 0) 187 rfa2 rfb2:=⟨by kernel_rfl,by kernel_rfl,by kernel_rfl⟩
def JiJ (pg pp l d N:Nat) (vb vf vl:Value) (F:List Nat) (P:Nat→Bool) (n0:Nat) (h0:Hp) (m:Nat) (vs:List Value) (h':Hp) (nx':Nat):Prop :=
 ∃ (i:Nat) (o:Value) (b:Option Nat),m=F.length-i∧i≤F.length∧vs=[.func (.yield l) ⟨[]⟩ ⟨[]⟩,.pointer (some ⟨pg,0,none⟩),.pointer (some ⟨pp,0,none⟩),vb,vf,.int .i64 (d:Int),o,vl,.int .i64 (F.length:Int),.int .i64 (i:Int)] ∧
  Ow h' encI o (natI ((F.take i).filter P)) b∧(∀ c,b=some c→n0≤c∧c<nx')∧Keep n0 h0 h'∧n0≤nx'
theorem jn_eq {gs:List GE} {num:Nat→Nat→Int} {N d:Nat} {q:Nat→Bool}:(fl N q).filter (lst gs num N d q)=jn gs num N d q:=by
 unfold jn fl;rw [List.filter_filter]
 congr 1
 funext v
 exact Bool.and_comm _ _
structure JoinIn (B N:Nat) (gs:List GE) (k src len:Int) (ds:List Int) (pg pp:Nat) (v vd:Value) (h:Hp):Prop where
 g:hget h pg=some (.cells [.int .i64 (N:Int),v] false)
 p:hget h pp=some (.cells [.int .i64 k,.int .i64 (N:Int),.int .i64 src,.int .i64 len,vd] false)
 v:SlPx h B v encG gs
 d:SlRd h B vd encI ds
 hpg:pg<B
 hpp:pp<B
theorem JoinIn.keep {B N:Nat} {gs:List GE} {k src len:Int} {ds:List Int} {pg pp:Nat} {v vd:Value} {h h':Hp} (J:JoinIn B N gs k src len ds pg pp v vd h) (hk:Keep B h h'):JoinIn B N gs k src len ds pg pp v vd h' :=
 ⟨by rw [hk _ J.hpg]; exact J.g,by rw [hk _ J.hpp]; exact J.p,J.v.keep hk (Nat.le_refl _),J.d.keep hk (Nat.le_refl _),J.hpg,J.hpp⟩
theorem inner_c {s:Bool} {B N l d lo fb fc:Nat} {fsp:Option Nat} {gs:List GE} {k src len:Int} {ds:List Int} {pg pp:Nat} {v vd vb:Value} {q:Nat→Bool} {h:Hp} {nx:Nat} {N0:KVl} (J:JoinIn B N gs k src len ds pg pp v vd h) (h0:1≤N) (h1:N≤63) (hds:DrOk ds) (hp:zAS k N src len ds=0) (hd2:d≤1000) (hB:B≤nx)
  (hby:ByIs h lo nx vb N (nb gs)) (hfb:fb<nx) (hf:hget h fb=some (.cells [.int .u64 (mk N q:Int)] false)) {vl:Value} (hL:SlRd h nx vl encI (natI (fl N q)))
  (hN:∀ o b h' nx',Ow h' encI o (natI (jn gs (numD ds N) N d q)) b→(∀ c,b=some c→nx≤c∧c<nx')→Keep nx h h'→nx≤nx'→N0 [.func (.yield l) ⟨[]⟩ ⟨[]⟩,.pointer (some ⟨pg,0,none⟩),.pointer (some ⟨pp,0,none⟩),vb,.slice (some ⟨fb,0,fsp⟩) 1 fc,.int .i64 (d:Int),o,vl,.int .i64 ((fl N q).length:Int),.int .i64 ((fl N q).length:Int)] h' nx') :
  Lp (fL Q O s zFJ 188 1) [.func (.yield l) ⟨[]⟩ ⟨[]⟩,.pointer (some ⟨pg,0,none⟩),.pointer (some ⟨pp,0,none⟩),vb,.slice (some ⟨fb,0,fsp⟩) 1 fc,.int .i64 (d:Int),.slice none 0 0,vl,.int .i64 ((fl N q).length:Int),.int .i64 0] h nx [(2,N0)] (fun _ _ _=>False):=by
 obtain ⟨al,cl,rfl,hcl⟩:=id hL;obtain ⟨bb,bsp,bc,bro,os,rfl,hb0,hb1,hb2,hb3,hb4⟩:=id hby;obtain ⟨ad,cd,rfl,hcd⟩:=id J.d;have hFl:(fl N q).length≤N:=zDD N q;have hnl:(natI (fl N q)).length=(fl N q).length:=by unfold natI; rw [List.length_map]
 refine Lp.mk (JiJ pg pp l d N _ _ _ (fl N q) (lst gs (numD ds N) N d q) nx h) (fl N q).length ⟨0,_,none,by omega,by omega,rfl,by rw [List.take_zero]; exact .nil,fun c e=>(by cases e),Keep.refl _ _,Nat.le_refl _⟩ ?_;rintro _ _ h' nx' ⟨i,o,b,rfl,hi,rfl,hW,hb,hk,hle⟩;rw [joins1b1];unfold zNH bF dF gA iV lA lF xF;simp (disch:=omega) only [SS,seval];refine ⟨fun hlt=>?_,fun hge=>?_⟩
 ·obtain ⟨x,hx⟩:=zj hlt;have hxI:(natI (fl N q))[i]? = some (x:Int):=by unfold natI; rw [List.getElem?_map,hx]; rfl
  obtain ⟨_,b2,sp2,ro2,c1,hb5,e1,hg2⟩:=hL.at hxI;cases e1;rw [zT] at hg2;have hxm:=List.mem_of_getElem? hx;obtain ⟨hxN,hxq⟩:=mem_fl.1 hxm;obtain ⟨ox,hox,hsx⟩:=hb4 x hxN;have hgp:=(hk pp (by have:=J.hpp; omega)).trans J.p;simp (disch:=omega) only [SS,(hk b2 hb5).trans hg2,zg hxI,(hk bb hb1).trans hb2,hox,seval];have hfr:SlRd h' nx' (.slice (some ⟨fb,0,fsp⟩) 1 fc) encU [mk N q]:=⟨_,_,rfl,fun _=>⟨fb,fsp,false,by omega,rfl,(hk fb hfb).trans hf⟩⟩
  refine (zLe (p:=nb gs x) (q:=q) (by omega) (hsx.rd.keep hk hle) hfr).mono ?_;intro r h2 n2 hr;have hk2:Keep nx' h' h2:=by obtain ⟨_,_,_,_,_,_,_,e,_⟩:=hr; exact e
  have hle2:nx'≤n2:=by obtain ⟨_,_,_,_,_,_,_,_,e⟩:=hr; exact e
  have hgp2:=(hk2 pp (by have:=J.hpp; omega)).trans hgp;refine ⟨hle2,?_⟩;simp (disch:=omega) only [SS,hgp2,hgp,seval];have hd2':SlRd h2 n2 (.slice ad ds.length cd) encI ds:=(J.d.keep (nx':=B) (h':=h2) (fun c hc=>by rw [hk2 c (by omega),hk c (by omega)]) (Nat.le_refl _)).keep (Keep.refl _ _) (by omega);refine (least_c hd2' hds hp (by omega) hxN hd2 hr.rd).mono ?_;rintro r h3 n3 ⟨rfl,hk3,hle3⟩;refine ⟨hle3,?_⟩;have hP:((fl N fun u=>nb gs x u&&q u).all fun u=>!decide (numD ds N d u≤numD ds N d x))=lst gs (numD ds N) N d q x:=rfl;rw [hP];have htk:((fl N q).take (i+1)).filter (lst gs (numD ds N) N d q)=((fl N q).take i).filter (lst gs (numD ds N) N d q)++(if lst gs (numD ds N) N d q x then [x] else []):=by
   rw [List.take_add_one,hx,List.filter_append];cases hl:lst gs (numD ds N) N d q x <;> simp [hl]
  have K3:Keep nx' h' h3:=hk2.trans hk3 hle2;have hlen:(natI (((fl N q).take i).filter (lst gs (numD ds N) N d q))).length<1000000:=by
   unfold natI;rw [List.length_map];have h1:=List.length_filter_le (lst gs (numD ds N) N d q) ((fl N q).take i);have h2:((fl N q).take i).length≤i:=by rw [List.length_take]; omega
   omega
  cases hl:lst gs (numD ds N) N d q x with
  | true =>
   simp (disch:=omega) only [SS,seval];refine zB2 (hW.gr.keep fun c hc=>by have:=hb c hc; rw [hold (by omega),K3 c (by omega)]) (hnew _ _ _) hlen fun h5 hn5 hf5=>?_;simp (disch:=omega) only [SS,zZ (show i<1000000000000 by omega),seval];refine ⟨(fl N q).length-(i+1),by omega,i+1,_,some (n3+1),rfl,by omega,rfl,.inr ⟨n3+1,rfl,?_,?_⟩,fun c e=>by cases e; omega,fun c hc=>?_,by omega⟩
   ·rw [htk,hl,if_pos rfl];unfold natI;rw [List.map_append,List.length_append];rfl
   ·rw [hn5,htk,hl,if_pos rfl,zT];unfold natI;rw [List.map_append];rfl
   ·rw [hf5 c (by omega) (fun e=>by have:=hb c e; omega),hold (by omega),K3 c (by omega)]; exact hk c hc
  | false =>
   simp (disch:=omega) only [SS,zZ (show i<1000000000000 by omega),seval];refine ⟨(fl N q).length-(i+1),by omega,i+1,o,b,rfl,by omega,rfl,?_,fun c e=>by have:=hb c e; omega,hk.trans K3 hle,by omega⟩;rw [htk,hl];simp only [Bool.false_eq_true,if_false,List.append_nil];exact hW.keep fun c hc=>K3 c (hb c hc).2
 ·have:i=(fl N q).length:=by omega
  subst this;rw [List.take_length,jn_eq] at hW;exact hN o b h' nx' hW hb hk hle
def asL (l:List (List Nat)):List (List Value):=l.map fun l=>ints (natI l)
structure JoJ (gs:List GE) (num:Nat→Nat→Int) (N l p pg pp lo:Nat) (vb:Value) (h0:Hp) (m:Nat) (vs:List Value) (h':Hp) (nx':Nat) (d r:Nat) (q:Nat→Bool) (done:List (List Nat)) (fb fc:Nat) (fsp:Option Nat) (svs:List Sv) (o:Value) (bo:Option Nat):Prop where
 hm:m=(fl N q).length
 hr:(fl N q).length≤r
 hdr:d+r=N
 hvs:vs=[.func (.yield l) ⟨[]⟩ ⟨[]⟩,.pointer (some ⟨pg,0,none⟩),.pointer (some ⟨pp,0,none⟩),vb,.slice (some ⟨fb,0,fsp⟩) 1 fc,.int .i64 (d:Int)]
 hf:hget h' fb=some (.cells [.int .u64 (mk N q:Int)] false)
 hfb:fb<nx'
 hfl:fb≠l∧fb≠p
 hfo:bo≠some fb
 hc:Col l p rfa2 rfb2 h' o
 hv:Vs h' lo nx' svs (asL done) o bo
 hdone:done++jsM gs num N r d q=jsM gs num N N 0 (fun _=>true)
 hk:∀ c,c<lo→c≠l→c≠p→hget h' c=hget h0 c
 hle:lo≤nx'
def JoI (gs:List GE) (num:Nat→Nat→Int) (N l p pg pp lo:Nat) (vb:Value) (h0:Hp) (m:Nat) (vs:List Value) (h':Hp) (nx':Nat):Prop :=
 ∃ d r q done fb fc fsp svs o bo,JoJ gs num N l p pg pp lo vb h0 m vs h' nx' d r q done fb fc fsp svs o bo
theorem zLS {gs:List GE} {num:Nat→Nat→Int} {N r d:Nat} {q:Nat→Bool} (h:fl N q=[]):jsM gs num N r d q=[]:=by
 cases r with
 | zero=>rfl
 | succ r=>rw [jsM,if_pos h]
theorem zIc {gs:List GE} {num:Nat→Nat→Int} {N r d:Nat} {q:Nat→Bool} (h:fl N q≠[]):jsM gs num N (r+1) d q=jn gs num N d q::jsM gs num N r (d+1) (nxt gs num N d q):=by
 rw [jsM,if_neg h]
theorem joins1_c {s:Bool} {B N l p:Nat} {gs:List GE} {k src len:Int} {ds:List Int} {pg pp:Nat} {v vd:Value} {h:Hp} {nx:Nat} (J:JoinIn B N gs k src len ds pg pp v vd h) (h0:1≤N) (h1:N≤63) (hds:DrOk ds) (hp:zAS k N src len ds=0) (hl60:gs.length≤60) (hok:∀ g∈gs,GOk N g)
  (hBl:B≤l) (hBp:B≤p) (hl:l<nx) (hpx:p<nx) (hlp:l≠p) (hBn:B≤nx) (C:Col l p rfa2 rfb2 h (.slice none 0 0)) :
  Cv Q O s 188 [.func (.yield l) ⟨[]⟩ ⟨[]⟩,.pointer (some ⟨pg,0,none⟩),.pointer (some ⟨pp,0,none⟩)] h nx (fun _ h' nx'=>∃ svs o bo,Col l p rfa2 rfb2 h' o∧Vs h' nx nx' svs (asL (jsM gs (numD ds N) N N 0 (fun _=>true))) o bo∧(∀ c,c<nx→c≠l→c≠p→hget h' c=hget h c)∧nx≤nx'):=by
 have hinj:∀ d u v,u<N→v<N→numD ds N d u=numD ds N d v→u=v:=fun d u v hu hv e=>zI7 (by omega) (by omega) e;refine joins1v ?_;obtain ⟨a,cap,rfl,hc⟩:=id J.v;unfold joins1 aF cF iV lA lF nS;simp (disch:=omega) only [SS,J.g,seval];refine (zQw (J.v.keep (Keep.refl _ _) hBn) h0 h1 hl60 hok).mono ?_;rintro vb h2 nx2 ⟨hby,hk2,hle2⟩;have J2:=J.keep (h':=h2) (fun c hc=>hk2 c (by omega));simp (disch:=omega) only [SS,J2.g,seval];refine (fflip_c h0 (by omega)).mono ?_;rintro r h3 nx3 ⟨fb,fc,fsp,rfl,hfb1,hfb2,hfb,hk3,hle3⟩;have hK3:Keep nx h h3:=hk2.trans hk3 hle2;have hby3:=hby.keep (h':=h3) (fun b h1 h2=>hk3 b h2) (Nat.le_refl _) hle3;have C3:Col l p rfa2 rfb2 h3 (.slice none 0 0):=C.keep (hK3 l hl) (hK3 p hpx);have hobv:=id hby3;obtain ⟨bb,bsp,bc,bro,os,rfl,_⟩:=hobv;refine Lp.mk (JoI gs (numD ds N) N l p pg pp nx3 (.slice (some ⟨bb,0,bsp⟩) N bc) h3) (fl N (fun _=>true)).length ⟨0,N,fun _=>true,[],fb,fc,fsp,[],_,none,⟨rfl,zDD _ _,by omega,rfl,hfb,hfb2,by omega,fun e=>(by cases e),C3,Vs.nil,rfl,fun _ _ _ _=>rfl,Nat.le_refl _⟩⟩ ?_;rintro m vs h4 nx4 ⟨d,r,q,done,fb,fc,fsp,svs,o,bo,I⟩;obtain rfl:=I.hm;obtain rfl:=I.hvs;rw [joins1b0];unfold zNI aF bF cF dF gL iV lF nF nS;have hk34:Keep B h3 h4:=fun c hc=>I.hk c (by omega) (by omega) (by omega);have J4:=(J2.keep (h':=h3) (fun c hc=>hk3 c (by omega))).keep hk34;have hfr:SlRd h4 nx4 (.slice (some ⟨fb,0,fsp⟩) 1 fc) encU [mk N q]:=⟨_,_,rfl,fun _=>⟨fb,fsp,false,I.hfb,rfl,I.hf⟩⟩
 refine (zL8 h1 hfr).mono ?_;rintro vl h5 nx5 ⟨lb,hW5,hlb,hk5,hle5⟩;have hL5:=(hW5.nw hlb).rd;obtain ⟨al,cl,rfl⟩:=hW5.form;have hnl:(natI (fl N q)).length=(fl N q).length:=by unfold natI; rw [List.length_map]
 rw [hnl];rw [hnl] at hL5;simp (disch:=omega) only [SS,seval];have J5:=J4.keep (h':=h5) (fun c hc=>hk5 c (by have:=I.hle; omega));have hby5:ByIs h5 nx nx5 (.slice (some ⟨bb,0,bsp⟩) N bc) N (nb gs):=hby3.keep (fun b h1 h2=>by rw [hk5 b (by have:=I.hle; omega)]; exact I.hk b h2 (by omega) (by omega)) (Nat.le_refl _) (by have:=I.hle; omega);have hf5:=(hk5 fb I.hfb).trans I.hf;have hdN:d≤1000:=by have:=I.hdr; omega
 refine inner_c (k:=k) (src:=src) (len:=len) (ds:=ds) J5 h0 h1 hds hp hdN (by have:=I.hle; omega) hby5 (by have:=I.hfb; omega) hf5 hL5 fun o6 b6 h6 nx6 hW6 hb6 hk6 hle6=>?_;have hle46:nx4≤nx6:=by omega
 have hf46:∀ c,c<nx4→hget h6 c=hget h4 c:=fun c hc=>by rw [hk6 c (by omega),hk5 c hc]
 have hf6:=(hf46 fb I.hfb).trans I.hf;have hlx:l<nx4:=by have:=I.hle; omega
 have hpx4:p<nx4:=by have:=I.hle; omega
 have C6:Col l p rfa2 rfb2 h6 o:=I.hc.keep (hf46 l hlx) (hf46 p hpx4);have V6:Vs h6 nx3 nx6 svs (asL done) o bo:=I.hv.keep (fun c h1 h2=>hf46 c h2) hle46;have hfr6:SlRd h6 nx6 (.slice (some ⟨fb,0,fsp⟩) 1 fc) encU [mk N q]:=⟨_,_,rfl,fun _=>⟨fb,fsp,false,by have:=I.hfb; omega,rfl,hf6⟩⟩
 refine (zGD h1 hfr6).mono ?_;rintro r' h6' n6' ⟨rfl,e1,e2⟩;rw [e1,e2]
 by_cases hq0:fl N q=[]
 ·rw [hq0];simp (disch:=omega) only [SS,@List.length_nil Nat,show ((0:Nat):Int)=0 from rfl,seval];refine ⟨svs,o,bo,C6,?_,fun c h1 h2 h3=>?_,by have:=I.hle; omega⟩
  ·have hd:=I.hdone;rw [zLS hq0,List.append_nil] at hd;rw [← hd];exact ⟨V6.g,fun c e=>⟨by have:=(V6.b c e).1; omega,(V6.b c e).2⟩,V6.len,fun i x cs h1 h2=>by
    rcases V6.s i x cs h1 h2 with e | ⟨b,sp,e1,e2,e3,e4,e5,e6⟩
    ·exact .inl e
    ·exact .inr ⟨b,sp,e1,e2,by omega,e4,e5,e6⟩⟩
  ·rw [hf46 c (by have:=I.hle; omega),I.hk c (by omega) h2 h3]; exact hK3 c h1
 ·have hpos:0<(fl N q).length:=List.length_pos_iff.2 hq0;have hne:(((fl N q).length:Int) == 0)=false:=by rw [beq_eq_false_iff_ne]; omega
  obtain ⟨r0,rfl⟩:∃ r0,r=r0+1:=⟨r-1,by have:=I.hr; omega⟩
  simp (disch:=omega) only [SS,hne,seval];obtain ⟨a6,c6,rfl⟩:=hW6.form;show Yv Q O s l [.slice a6 (natI (jn gs (numD ds N) N d q)).length c6] h6 nx6 _;have hdl:done.length≤N:=by
   have h1:∀ (r d:Nat) (q:Nat→Bool),(jsM gs (numD ds N) N r d q).length≤r:=by
    intro r
    induction r with
    | zero=>intro d q; exact Nat.le_refl _
    | succ r ih =>
     intro d q;rw [jsM]
     split
     ·simp
     ·have:=ih (d+1) (nxt gs (numD ds N) N d q);rw [List.length_cons]; omega
   have h2:=congrArg List.length I.hdone;rw [List.length_append] at h2;have:=h1 N 0 (fun _=>true);omega
  have hsvl:svs.length=done.length:=by rw [V6.len]; unfold asL; rw [List.length_map]
  refine Yv_app app187 (enc:=encS) (x:=⟨a6,(natI (jn gs (numD ds N) N d q)).length,c6⟩) (fun _=>rfl) (fun _=>rfl) rfl rfl C6 V6.g hlp (by omega) (by omega) (fun c e=>⟨by have:=(V6.b c e).1; omega,by have:=(V6.b c e).1; omega,(V6.b c e).2⟩) (by omega) fun h7 o7 hC7 hW7 hf7=>?_;have hjl:(jn gs (numD ds N) N d q).length<1000000:=by
   have:=zDD N (fun v=>q v&&lst gs (numD ds N) N d q v);unfold jn; omega
  have hf47:∀ c,c<nx4→c≠l→c≠p→bo≠some c→hget h7 c=hget h4 c:=fun c h1 h2 h3 h4=>by rw [hf7 c (by omega) h2 h3 h4]; exact hf46 c h1
  have hKB:Keep B h5 h7:=fun c hc=>by
   rw [hf7 c (by omega) (by omega) (by omega) (fun e=>by have:=(V6.b c e).1; omega),hk6 c (by have:=I.hle; omega)]
  have J7:=J5.keep hKB;have hx6:SvIs h6 nx3 nx6 bo ⟨a6,(natI (jn gs (numD ds N) N d q)).length,c6⟩ (ints (natI (jn gs (numD ds N) N d q))):=by
   rcases hW6 with ⟨e1,e2,e3⟩ | ⟨b,rfl,e2,hg⟩
   ·injection e2 with x1 x2 x3
    rw [e1,x1,x3];exact .inl ⟨rfl,rfl⟩
   ·cases e2;refine .inr ⟨b,some 1,rfl,by rw [zCS],by have:=(hb6 b rfl).1; have:=I.hle; omega,(hb6 b rfl).2,fun e=>?_,by rw [← zT]; exact hg⟩;have:=(V6.b b e).2;have:=(I.hv.b b e).2;have:=(hb6 b rfl).1;omega
  have hL7:SlRd h7 (nx6+1+1) (.slice a6 (natI (jn gs (numD ds N) N d q)).length c6) encI (natI (jn gs (numD ds N) N d q)):=by
   rcases hW6 with ⟨e1,e2,e3⟩ | ⟨b,rfl,e2,hg⟩
   ·injection e2 with x1 x2 x3
    rw [e1,x1,x3];exact ⟨none,0,rfl,fun h=>absurd rfl h⟩
   ·cases e2;refine ⟨_,_,rfl,fun _=>⟨b,some 1,false,by have:=(hb6 b rfl).2; omega,rfl,?_⟩⟩;have hb1:=(hb6 b rfl).1;have hb2:=(hb6 b rfl).2;rw [hf7 b hb2 (by omega) (by omega) (fun e=>by have:=(I.hv.b b e).2; omega)];exact hg
  have V7:Vs h7 nx3 (nx6+1+1) (svs++[⟨a6,(natI (jn gs (numD ds N) N d q)).length,c6⟩]) (asL (done++[jn gs (numD ds N) N d q])) o7 (some (nx6+1)):=by
   unfold asL;rw [List.map_append];exact V6.add hx6 (by omega) (by have:=I.hle; omega) (by omega) hW7 (fun c h1 h2 h3=>hf7 c h1 (by omega) (by omega) h2)
  simp (disch:=omega) only [SS,J7.g,seval];refine (fof_c h0 (by omega) hL7 (fun x hx=>(mem_fl.1 hx).1) hjl).mono ?_;intro r8 h8 n8 hr8;obtain ⟨b8,c8,sp8,rfl,hb81,hb82,hg8,hk8,hle8⟩:=id hr8;refine ⟨hle8,?_⟩;have hf7b:=(hf47 fb I.hfb I.hfl.1 I.hfl.2 I.hfo).trans I.hf;have hfr8:SlRd h8 n8 (.slice (some ⟨fb,0,fsp⟩) 1 fc) encU [mk N q]:=⟨_,_,rfl,fun _=>⟨fb,fsp,false,by have:=I.hfb; omega,rfl,(hk8 fb (by have:=I.hfb; omega)).trans hf7b⟩⟩
  refine (zNX (p:=q) (q:=inL (jn gs (numD ds N) N d q)) (by omega) hfr8 hr8.rd).mono ?_;intro r9 h9 n9 hr9;obtain ⟨b9,c9,sp9,rfl,hb91,hb92,hg9,hk9,hle9⟩:=id hr9;refine ⟨hle9,?_⟩;have J8:=J7.keep (h':=h8) (fun c hc=>hk8 c (by omega));have J9:=J8.keep (h':=h9) (fun c hc=>hk9 c (by omega));simp (disch:=omega) only [SS,J9.g,J8.g,J7.g,seval];have hby9:ByIs h9 nx n9 (.slice (some ⟨bb,0,bsp⟩) N bc) N (nb gs):=hby3.keep (fun b h1 h2=>by
   rw [hk9 b (by have:=I.hle; omega),hk8 b (by have:=I.hle; omega),hf47 b (by have:=I.hle; omega) (by omega) (by omega) (fun e=>by have:=(I.hv.b b e).1; omega)];exact I.hk b h2 (by omega) (by omega)) (Nat.le_refl _) (by have:=I.hle; omega)
  have hL9:=(hL7.keep hk8 hle8).keep hk9 hle9;refine (zJU h0 h1 hby9 hL9 (fun x hx=>(mem_fl.1 hx).1) hjl).mono ?_;intro r10 h10 n10 hr10;obtain ⟨b10,c10,sp10,rfl,hb101,hb102,hg10,hk10,hle10⟩:=id hr10;refine ⟨hle10,?_⟩;have hr9':=hr9.rd.keep hk10 hle10;refine (zNX (p:=fun i=>q i&&!inL (jn gs (numD ds N) N d q) i) (q:=anyN (nb gs) (jn gs (numD ds N) N d q)) (by omega) hr9' hr10.rd).mono ?_;rintro r11 h11 n11 ⟨b11,c11,sp11,rfl,hb111,hb112,hg11,hk11,hle11⟩;refine ⟨hle11,?_⟩;have hk711:∀ c,c<nx6+1+1→hget h11 c=hget h7 c:=fun c hc=>by rw [hk11 c (by omega),hk10 c (by omega),hk9 c (by omega),hk8 c hc]
  simp (disch:=omega) only [SS,zZ (show d<1000000000000 by omega),seval];refine ⟨_,zJg (gs:=gs) (num:=numD ds N) (d:=d) (hinj d) hq0,d+1,r0,nxt gs (numD ds N) N d q,done++[jn gs (numD ds N) N d q],b11,c11,sp11,svs++[⟨a6,(natI (jn gs (numD ds N) N d q)).length,c6⟩],o7,some (nx6+1),⟨rfl,?_,?_,rfl,hg11,hb112,⟨by omega,by omega⟩,fun e=>by cases e; omega,hC7.keep (hk711 l (by omega)) (hk711 p (by omega)),V7.keep (fun c h1 h2=>hk711 c h2) (by omega),?_,fun c h1 h2 h3=>?_,by have:=I.hle; omega⟩⟩
  ·have:=zJg (gs:=gs) (num:=numD ds N) (d:=d) (hinj d) hq0;have:=I.hr;omega
  ·have:=I.hdr; omega
  ·have hd:=I.hdone;rw [zIc hq0] at hd;rw [List.append_assoc];exact hd
  ·rw [hk711 c (by have:=I.hle; omega),hf47 c (by have:=I.hle; omega) h2 h3 (fun e=>by have:=(I.hv.b c e).1; omega)];exact I.hk c h1 h2 h3
def stpL (k n src len:Int) (vd:Value) (gn:Int) (ve:Value) (R C M lim:Int) (vc:Value):List Value:=[.int .i64 k,.int .i64 n,.int .i64 src,.int .i64 len,vd,.int .i64 gn,ve,.int .i64 R,.int .i64 C,.int .i64 M,.int .i64 lim,vc]
theorem zNa {ih:List Value→R (List Value)} {off:Nat} {x y z w u:Value} {c:List Value}:zA0 ih off 5 [x,y,z,w,u] c=if off+5≤c.length then ih (c.take off++x::y::z::w::u::c.drop (off+5)) else .no "fill" := by
 by_cases h:off+5≤c.length
 ·rw [if_pos h,zGG (n:=5) (l:=[x,y,z,w,u]) rfl h]; simp
 ·rw [if_neg h];show (bif Nat.beq (llen [x,y,z,w,u]) 5 then R.of "fill" (lput [x,y,z,w,u] c off) ih else .no "fill - size")=_;rw [zAl,if_neg (by simpa using h)]; rfl
theorem hsetup_c {s:Bool} {N:Nat} {v:Value} {src R C:Int} {h:Hp} {nx:Nat} (hN:N≤4096) (hv:∃ a n c,v = .slice a n c) :
  Cv Q O s 105 [.agg ⟨[.int .i64 (N:Int),v]⟩,.int .i64 src,.int .i64 R,.int .i64 C] h nx (EqK (.agg ⟨stpL 1 N src 0 (.slice none 0 0) N v R C 4 ((N:Int)+1) (.slice none 0 0)⟩) nx h):=by
 refine hsetupv ?_;obtain ⟨a,n,c,rfl⟩:=hv;unfold hsetup aF bF iV lF nC nS pC;have w1:IntKind.wrap .i64 ((N:Int)+1)=(N:Int)+1:=zB4 (by omega) (by omega);simp (disch:=omega) only [SS,show min (N:Int) 8191=N by omega,w1,show (0:Int)≤(N:Int) by omega,seval];refine ⟨fun _=>?_,fun h=>absurd h (by omega)⟩;unfold zIh aF iV lA lF nS;have K0:∀ {o o' o''},Keep nx h (hset (hset (hset h nx o) (nx+1) o') (nx+1) o''):=(((Keep.refl _ _).set (Nat.le_refl _)).set (Nat.le_succ _)).set (by omega);simp (disch:=omega) only [SS,zNa,seval];exact ⟨rfl,K0,by omega⟩
theorem zNK {s:Bool} {N:Nat} {v vd:Value} {ds:List Int} {R C:Int} {h:Hp} {nx:Nat} (hN:N≤4096) (hv:∃ a n c,v = .slice a n c) (hd:SlRd h nx vd encI ds) (hl:ds.length<1000000) :
  Cv Q O s 32 [.agg ⟨[.int .i64 (N:Int),v]⟩,vd,.int .i64 R,.int .i64 C] h nx (fun r h' nx'=>∃ vd',r = .agg ⟨stpL 5 N 0 0 vd' N v R C 4 (2*(N:Int)) (.slice none 0 0)⟩∧SlRd h' nx' vd' encI ds∧Keep nx h h'∧nx≤nx'):=by
 refine isetupv ?_;obtain ⟨a,n,c,rfl⟩:=id hv;unfold isetup aF bF cF iV lA lF nC nS pC;simp (disch:=omega) only [SS,seval];have K0:∀ {o o'},Keep nx h (hset (hset h nx o) (nx+1) o'):=((Keep.refl _ _).set (Nat.le_refl _)).set (Nat.le_succ _);refine (hsetup_c hN hv).mono ?_;rintro r h1 n1 ⟨rfl,hk1,hle1⟩;unfold stpL;simp (disch:=omega) only [SS,seval];have K1:Keep nx h h1:=K0.trans hk1 (by omega);have K2:∀ {o o'},Keep nx h (hset (hset h1 n1 o) n1 o'):=(K1.set (by omega)).set (by omega);refine (zSJ ((hd.keep K2 (nx':=nx) (Nat.le_refl _)).keep (nx':=n1+1) (Keep.refl _ _) (by omega)) hl).mono ?_;rintro vd' h2 n2 ⟨hd2,hk2,hle2⟩;obtain ⟨a2,c2,rfl,_⟩:=id hd2;have g1:=hk2 n1 (by omega);rw [hnew] at g1;have g0:=hk2 nx (by omega);rw [hold (by omega),hold (by omega),hk1 nx (by omega),hold (by omega),hnew] at g0;have g4:=hk2 (nx+1) (by omega);rw [hold (by omega),hold (by omega),hk1 (nx+1) (by omega),hnew] at g4;have w1:IntKind.wrap .i64 (2*(N:Int))=2*(N:Int):=zB4 (by omega) (by omega);simp (disch:=omega) only [SS,g1,g0,g4,show max (N:Int) 0=N by omega,show min (N:Int) 4096=N by omega,zCA,w1,seval];refine ⟨_,rfl,?_,?_,by omega⟩
 ·exact (hd2.keep (lo':=n1+1) (hi':=n2) (fun b h1 h2=>by rw [hold (by omega),hold (by omega),hold (by omega),hold (by omega)]) (Nat.le_refl _) (Nat.le_refl _)).rd
 ·intro c hc;rw [hold (by omega),hold (by omega),hold (by omega),hold (by omega),hk2 c (by omega)];exact K2 c hc
theorem zQ8 {N:Nat} {ds:List Int} (hN:N≤4096) (hd:DrOk ds):zAS 5 N 0 0 ds=0:=by
 unfold zAS;rw [if_neg (by omega),if_neg (by omega),if_neg (by omega),if_neg (by omega),if_neg (by have:=hd.1; omega),if_neg];rw [List.any_eq_true];rintro ⟨x,hx,hb⟩;have h1:=hd.2 x hx;unfold badD at hb;simp at hb;omega
theorem rightE0 {N:Nat} {gs:List GE} (hN:N≤4096) (hok:∀ g∈gs,GOk N g) (hl:gs.length≤60):zAR N (gs.map frG0)=0:=by
 refine rightE_V.2 ⟨by omega,by omega,by rw [List.length_map]; omega,fun e he hb=>?_,fun e he hb=>?_⟩
 ·obtain ⟨g,hg,rfl⟩:=List.mem_map.1 he;obtain ⟨h1,h2,_⟩:=hok g hg;have hb:(g.f:Int)<0∨(N:Int)≤g.f∨(g.t:Int)<0∨(N:Int)≤g.t:=hb;omega
 ·obtain ⟨g,hg,rfl⟩:=List.mem_map.1 he;obtain ⟨_,_,h1,h2⟩:=hok g hg;have hb:g.w<0∨2147483647<g.w:=hb;omega
theorem zRt {ds:List Int} (hl:ds.length≤1000) (hb:¬ ds.any badD=true):DrOk ds:=⟨hl,fun x hx=>by
 have h1:¬ badD x=true:=fun e=>hb (List.any_eq_true.2 ⟨x,hx,e⟩);unfold badD at h1;simp at h1;omega⟩
theorem planE5b {N:Nat} {ds:List Int} (hN:N≤4096) (hl:ds.length≤1000) (hb:ds.any badD=true):zAS 5 N 0 0 ds=7:=by
 unfold zAS;rw [if_neg (by omega),if_neg (by omega),if_neg (by omega),if_neg (by omega),if_neg (by omega),if_pos hb]
theorem matE5b {N:Nat} {es:List Edg3} {ds:List Int} (hN:N≤4096) (hl:ds.length≤1000) (hb:ds.any badD=true):matE 5 N 0 0 ds N es=7:=by
 unfold matE;rw [planE5b hN hl hb,if_pos (by omega)]
theorem matE5 {N:Nat} {gs:List GE} {ds:List Int} (hN:N≤4096) (hd:DrOk ds) (hok:∀ g∈gs,GOk N g) (hl:gs.length≤60):matE 5 N 0 0 ds N (gs.map frG0)=0:=by
 unfold matE;rw [zQ8 hN hd,if_neg (by omega),if_neg (by omega),rightE0 hN hok hl]
def JL (N:Nat) (gs:List GE) (ds:List Int):List (List Nat):=if ds.any badD=true then [] else jsM gs (numD ds N) N N 0 (fun _=>true)
def JoinsK (N:Nat) (gs:List GE) (ds:List Int) (nx:Nat) (h:Hp):KC':=fun r h' nx'=>∃ svs bo,Vs h' nx nx' svs (asL (JL N gs ds)) r bo∧Keep nx h h'∧nx≤nx'
theorem ijoins_c {s:Bool} {N:Nat} {gs:List GE} {ds:List Int} {v vd:Value} {h:Hp} {nx:Nat} (h0:1≤N) (h1:N≤63) (hdl:ds.length≤1000) (hl:gs.length≤60) (hok:∀ g∈gs,GOk N g) (hv:SlPx h nx v encG gs) (hd:SlRd h nx vd encI ds) :
  Cv Q O s 30 [.agg ⟨[.int .i64 (N:Int),v]⟩,vd] h nx (JoinsK N gs ds nx h):=by
 refine ijoinsv ?_;obtain ⟨a,cap,rfl,hc⟩:=id hv;unfold ijoins bF cF iV lA nC nS pC;simp (disch:=omega) only [SS,seval];have K0:∀ {o},Keep nx h (hset h nx o):=(Keep.refl _ _).set (Nat.le_refl _);refine (zNK (ds:=ds) (by omega) ⟨_,_,_,rfl⟩ (hd.keep K0 (by omega)) (by omega)).mono ?_;rintro r h2 n2 ⟨vd',rfl,hd2,hk2,hle2⟩;have K2:Keep nx h h2:=K0.trans hk2 (by omega);obtain ⟨ad,cd,rfl,_⟩:=id hd2;have g2:=hk2 nx (by omega);rw [hnew] at g2;unfold stpL;simp (disch:=omega) only [SS,g2,seval];have K3:∀ {o o'},Keep n2 h2 (hset (hset h2 n2 o) n2 o'):=((Keep.refl _ _).set (Nat.le_refl _)).set (Nat.le_refl _);have K3':∀ {o o'},Keep nx h (hset (hset h2 n2 o) n2 o'):=K2.trans K3 (by omega);have hv3:∀ {o o'},SlPx (hset (hset h2 n2 o) n2 o') (n2+1) (.slice a gs.length cap) enc3 (gs.map frG0):=fun {o o'}=>(zMp hv).keep K3' (by omega);refine (matrix_c (es:=gs.map frG0) (hd2.keep K3 (by omega)) hv3 (by rw [List.length_map]; omega)).mono ?_;rintro r h4 n4 ⟨m,rfl,hm,hk4,hle4⟩;obtain ⟨mx,my,ma1,ma2,ma3,mn1,mn2,mn3,mc1,mc2,mc3,rfl⟩:=hm.form;unfold zMJ;have gx4:=hk4 nx (by omega);rw [hold (by omega),hold (by omega),g2] at gx4;have gp4:=hk4 n2 (by omega);rw [hnew] at gp4;have K4:Keep nx h h4:=K3'.trans hk4 (by omega)
 by_cases hbad:ds.any badD=true
 ·rw [matE5b (by omega) hdl hbad];simp (disch:=omega) only [SS,gx4,gp4,seval];exact ⟨[],none,by unfold JL; rw [if_pos hbad]; exact Vs.nil,(K4.set (by omega)).set (by omega),by omega⟩
 have hds:=zRt hdl hbad;rw [matE5 (by omega) hds hok hl];have hJL:JL N gs ds=jsM gs (numD ds N) N N 0 (fun _=>true):=if_neg hbad;simp (disch:=omega) only [SS,gx4,gp4,seval];refine joins0v ?_;unfold joins0 pC;simp (disch:=omega) only [SS,seval];refine zSE ?_;unfold zN8 cF nS;have K5:∀ {o o' o'' o3},Keep nx h (hset (hset (hset (hset h4 n4 o) n4 o') (n4+1) o'') (n4+1+1) o3):=fun {o o' o'' o3}=>(((K4.set (by omega)).set (by omega)).set (by omega)).set (by omega);refine zKd app187 rfl fun h5 hC hf=>?_;have hk5:Keep nx h h5:=fun c hc=>by rw [hf c (by omega)]; exact K5 c hc
 have hd5:SlRd h5 (n4+1+1+1) (.slice ad ds.length cd) encI ds:=by
  refine (hd2.keep (nx':=n2) (fun c hc=>?_) (Nat.le_refl _)).keep (Keep.refl _ _) (by omega);rw [hf c (by omega),hold (by omega),hold (by omega),hold (by omega),hold (by omega),hk4 c (by omega),hold (by omega),hold (by omega)]
 have J:JoinIn (n4+1+1+1) N gs 5 0 0 ds (n4+1) (n4+1+1) (.slice a gs.length cap) (.slice ad ds.length cd) h5:={
  g:=by rw [hf _ (by omega),hold (by omega),hnew]
  p:=by rw [hf _ (by omega),hnew]
  v:=(hv.keep hk5 (Nat.le_refl _)).keep (Keep.refl _ _) (by omega)
  d:=hd5
  hpg:=by omega
  hpp:=by omega }
 refine (joins1_c J h0 h1 hds (zQ8 (by omega) hds) hl hok (by omega) (by omega) (by omega) (by omega) (by omega) (by omega) hC).mono ?_;rintro _ h6 n6 ⟨svs,o,bo,hC6,V,hf6,hle6⟩;refine ⟨o,hC6,fun x=>⟨svs,bo,?_,fun c hc=>?_,by omega⟩⟩
 ·rw [hJL];have V2:=V.keep (h':=hset h6 (n4+1+1+1+1) x) (fun c h1 h2=>hold (by omega)) (Nat.le_refl _);exact ⟨V2.g,fun c e=>⟨by have:=(V2.b c e).1; omega,(V2.b c e).2⟩,V2.len,fun i x cs h1 h2=>by
   rcases V2.s i x cs h1 h2 with e | ⟨b,sp,e1,e2,e3,e4,e5,e6⟩
   ·exact .inl e
   ·exact .inr ⟨b,sp,e1,e2,by omega,e4,e5,e6⟩⟩
 ·rw [hold (by omega),hf6 c (by omega) (by omega) (by omega)]; exact hk5 c hc
def LLs (h:Hp) (nx:Nat) (v:Value) (L:List (List Nat)):Prop:=∃ (svs:List Sv) (a:Option Addr) (cap:Nat),v = .slice a L.length cap∧svs.length=L.length∧(L≠[]→∃ b sp ro,b<nx∧a=some ⟨b,0,sp⟩∧hget h b=some (.cells (flat encS svs) ro)) ∧
 ∀ (i:Nat) (x:Sv) (l:List Nat),svs[i]? = some x→L[i]? = some l→x.n=l.length∧SlRd h nx (.slice x.a x.n x.c) encI (natI l)
theorem LLs.keep {h h':Hp} {nx nx':Nat} {v:Value} {L:List (List Nat)} (H:LLs h nx v L) (hk:Keep nx h h') (hle:nx≤nx'):LLs h' nx' v L:=by
 obtain ⟨svs,a,cap,rfl,h1,h2,h3⟩:=H;exact ⟨svs,a,cap,rfl,h1,fun hne=>by
  obtain ⟨b,sp,ro,e1,e2,e3⟩:=h2 hne;exact ⟨b,sp,ro,by omega,e2,(hk b e1).trans e3⟩,fun i x l e1 e2=>⟨(h3 i x l e1 e2).1,(h3 i x l e1 e2).2.keep hk hle⟩⟩
theorem zAY (l:List Nat):(natI l).length=l.length:=by unfold natI; rw [List.length_map]
theorem Vs.lls {h:Hp} {lo hi:Nat} {svs:List Sv} {L:List (List Nat)} {o:Value} {bo:Option Nat} (V:Vs h lo hi svs (asL L) o bo):LLs h hi o L:=by
 have hl:svs.length=L.length:=by rw [V.len]; unfold asL; rw [List.length_map]
 have hg:=V.g;obtain ⟨a,c,ho⟩:=hg.form;refine ⟨svs,a,c,by rw [ho,hl],hl,fun hne=>?_,fun i x l e1 e2=>?_⟩
 ·rcases hg with ⟨e,_⟩ | ⟨b,e1,e2,e3⟩
  ·rw [e] at hl;exact absurd (List.length_eq_zero_iff.1 hl.symm) hne
  ·rw [ho] at e2;cases e2;exact ⟨b,some 1,false,(V.b b e1).2,rfl,e3⟩
 ·rcases V.s i x (ints (natI l)) e1 (by unfold asL; rw [List.getElem?_map,e2]; rfl) with ⟨e3,rfl⟩ | ⟨b,sp,e3,e4,e5,e6,e7,e8⟩
  ·have:l=[]:=by
    have:=congrArg List.length e3;rw [zCS,zAY] at this;exact List.length_eq_zero_iff.1 this
   subst this;exact ⟨rfl,⟨none,0,rfl,fun h=>absurd rfl h⟩⟩
  ·rw [zCS,zAY] at e4;refine ⟨e4,⟨x.a,x.c,by rw [e4,zAY],fun _=>⟨b,sp,false,e6,e3,by rw [zT]; exact e8⟩⟩⟩
theorem LLs.at {h:Hp} {nx:Nat} {v:Value} {L:List (List Nat)} (H:LLs h nx v L) {i:Nat} {l:List Nat} (hl:L[i]? = some l):∃ b sp cap ro cs a c,b<nx∧v = .slice (some ⟨b,0,sp⟩) L.length cap∧hget h b=some (.cells cs ro)∧cs[i]? = some (.slice a l.length c)∧SlRd h nx (.slice a l.length c) encI (natI l):=by
 obtain ⟨svs,a,cap,rfl,h1,h2,h3⟩:=H;obtain ⟨b,sp,ro,e1,rfl,e3⟩:=h2 (fun e=>by rw [e] at hl; cases hl);have hi:i<svs.length:=by rw [h1]; exact (List.getElem?_eq_some_iff.1 hl).1
 obtain ⟨x,hx⟩:=zj hi;obtain ⟨e4,e5⟩:=h3 i x l hx hl;have hfc:=zGy (enc:=encS) (k:=1) (fun _=>rfl) hx (j:=0) (by omega);rw [Nat.mul_one,Nat.add_zero] at hfc;rw [e4] at e5;refine ⟨b,sp,cap,ro,_,x.a,x.c,e1,rfl,e3,?_,e5⟩;rw [hfc,← e4]; rfl
def jd (L:List (List Nat)) (v:Nat):List Nat:=L.flatMap fun l=>l.filter fun x=>decide (x=v)
def jdM (L:List (List Nat)) (N:Nat):List Nat:=(List.range N).flatMap (jd L)
def tot (L:List (List Nat)):Nat:=(L.map List.length).sum
theorem zP5:∀ {L:List (List Nat)} {i:Nat} {l:List Nat},L[i]? = some l→tot (L.take i)+l.length≤tot L
 | [],i,l,h=>by cases h
 | x::L,0,l,h=>by
  cases h;unfold tot;rw [List.take_zero,List.map_cons,List.sum_cons];simp
 | x::L,i+1,l,h=>by
  have:=zP5 (L:=L) (i:=i) (l:=l) h;unfold tot at this ⊢;rw [List.take_succ_cons,List.map_cons,List.map_cons,List.sum_cons,List.sum_cons];omega
theorem jdM_succ (L:List (List Nat)) (v:Nat):jdM L (v+1)=jdM L v++jd L v:=by
 unfold jdM; rw [List.range_succ,List.flatMap_append]; simp
def OkAt (N:Nat) (l:List Int) (j:Nat):Prop:=∀ x,l[j]? = some x→0≤x∧x<(N:Int)∧(0<j→∀ y,l[j-1]? = some y→y<x)
def Chk (N:Nat) (gs:List GE) (l:List Int):Prop:=(∀ j,OkAt N l j)∧∀ v,v<N→¬ (((v:Int)∈l)↔∃ x∈l,nb gs x.toNat v=true)
def ChkK (N:Nat) (gs:List GE) (l:List Int) (nx:Nat) (h:Hp):KC':=fun r h' nx'=>∃ b,r = .bool b∧(b=true↔Chk N gs l)∧Keep nx h h'∧nx≤nx'
theorem fl_none {N:Nat} {p:Nat→Bool}:(fl N p).length=0↔∀ v,v<N→p v=false:=by
 rw [List.length_eq_zero_iff];unfold fl;rw [List.filter_eq_nil_iff];exact ⟨fun h v hv=>by simpa using h v (List.mem_range.2 hv),fun h v hv=>by simpa using h v (List.mem_range.1 hv)⟩
theorem fl_full {N:Nat} {p:Nat→Bool}:(fl N p).length=N↔∀ v,v<N→p v=true:=by
 have h:(fl N p).length=(List.range N).length↔∀ v∈List.range N,p v=true:=by unfold fl; exact List.length_filter_eq_length_iff
 rw [List.length_range] at h;rw [h];exact ⟨fun h v hv=>h v (List.mem_range.2 hv),fun h v hv=>h v (List.mem_range.1 hv)⟩
def CkJ (N p:Nat) (v:Value) (l:List Int) (h6:Hp) (n7:Nat) (m:Nat) (vs:List Value) (h':Hp) (nx':Nat):Prop :=
 ∃ i,m=l.length-i∧i≤l.length∧vs=[v,.pointer (some ⟨p,0,none⟩),.bool false,v,.int .i64 (l.length:Int),.int .i64 (i:Int)]∧h'=h6∧nx'=n7∧∀ j,j<i→OkAt N l j
theorem icheck_c {s:Bool} {N:Nat} {gs:List GE} {l:List Int} {v vl:Value} {h:Hp} {nx:Nat} (h0:1≤N) (h1:N≤63) (hl:gs.length≤60) (hok:∀ g∈gs,GOk N g) (hv:SlPx h nx v encG gs) (hvl:SlRd h nx vl encI l) (hll:l.length≤1000) :
  Cv Q O s 34 [.agg ⟨[.int .i64 (N:Int),v]⟩,vl] h nx (ChkK N gs l nx h):=by
 refine icheckv ?_;obtain ⟨a,cap,rfl,hc⟩:=id hv;obtain ⟨al,cl,rfl,hcl⟩:=id hvl;unfold icheck aF bF cF dF gL iV lA lF nF pC;simp (disch:=omega) only [SS,seval];have K0:∀ {o},Keep nx h (hset h nx o):=(Keep.refl _ _).set (Nat.le_refl _);refine (zI0 (hv.keep K0 (by omega)) (by omega) hok (by omega)).mono ?_;rintro r h6 n7 ⟨rfl,hk6,hle6⟩;have K6:Keep nx h h6:=K0.trans hk6 (by omega);have g6:=hk6 nx (by omega);rw [hnew] at g6;simp (disch:=omega) only [SS,seval];refine Lp.mk (CkJ N nx (.slice al l.length cl) l h6 n7) l.length ⟨0,rfl,by omega,rfl,rfl,rfl,fun j hj=>absurd hj (by omega)⟩ ?_;rintro _ _ h' nx' ⟨i,rfl,hi,rfl,eh,en,hno⟩;rw [eh,en,icheckb0];unfold zNQ aF bF iV lF xF;have bad:¬ (∀ j,OkAt N l j)→ChkK N gs l nx h (.bool false) h6 n7:=fun hb=>⟨false,rfl,⟨fun h=>(by cases h),fun h=>absurd h.1 hb⟩,K6,by omega⟩
 simp (disch:=omega) only [SS,seval];refine ⟨fun hlt=>?_,fun hge=>?_⟩
 ·obtain ⟨x,hx⟩:=zj hlt;obtain ⟨_,b,sp,ro,c1,hbn,e1,hg⟩:=hvl.at hx;cases e1;rw [zT] at hg;have hgb:=(K6 b hbn).trans hg;simp (disch:=omega) only [SS,hgb,zg hx,g6,seval];refine ⟨fun hx0=>bad fun H=>by have:=(H i x hx).1; omega,fun hx0=>⟨fun hxN=>bad fun H=>by have:=(H i x hx).2.1; omega,fun hxN=>?_⟩⟩;have next:OkAt N l i→∃ m',m'<l.length-i∧CkJ N nx (.slice (some ⟨b,0,sp⟩) l.length cl) l h6 n7 m' [.slice (some ⟨b,0,sp⟩) l.length cl,.pointer (some ⟨nx,0,none⟩),.bool false,.slice (some ⟨b,0,sp⟩) l.length cl,.int .i64 (l.length:Int),.int .i64 ((i+1:Nat):Int)] h6 n7:=fun ho =>
   ⟨l.length-(i+1),by omega,i+1,rfl,by omega,rfl,rfl,rfl,fun j hj=>by
    by_cases e:j=i
    ·rw [e]; exact ho
    ·exact hno j (by omega)⟩
  by_cases hi0:i=0
  ·subst hi0;simp (disch:=omega) only [SS,show ((0:Nat):Int)=0 from rfl,seval];exact fun _=>next fun y hy=>by rw [hx] at hy; cases hy; exact ⟨by omega,by omega,fun h=>absurd h (by omega)⟩
  ·obtain ⟨y,hy⟩:=zj (l:=l) (i:=i-1) (by omega);have w1:IntKind.wrap .i64 ((i:Int)-1)=((i-1:Nat):Int):=by
    rw [show (i:Int)-1=((i-1:Nat):Int) by omega]; exact zB4 (by omega) (by omega)
   simp (disch:=omega) only [SS,show (0:Int)<(i:Int) by omega,w1,hgb,zg hy,zZ (show i<1000000000000 by omega),seval];refine ⟨⟨fun hyx=>bad fun H=>by have:=(H i x hx).2.2 (by omega) y hy; omega,fun hyx=>?_⟩,fun h=>absurd trivial h⟩;exact next fun z hz=>by rw [hx] at hz; cases hz; exact ⟨by omega,by omega,fun _ w hw=>by rw [hy] at hw; cases hw; omega⟩
 ·have hall:∀ j,OkAt N l j:=fun j x hx=>by
   have:=(List.getElem?_eq_some_iff.1 hx).1;exact hno j (by omega) x hx
  have hmem:∀ x∈l,0≤x∧x<(N:Int):=fun x hx=>by
   obtain ⟨j,hj⟩:=List.getElem?_of_mem hx;exact ⟨(hall j x hj).1,(hall j x hj).2.1⟩
  obtain ⟨l',hl'⟩:∃ l':List Nat,natI l'=l:=⟨l.map Int.toNat,by
   unfold natI;rw [List.map_map]
   conv=>rhs; rw [← List.map_id l]
   exact List.map_congr_left fun x hx=>by have:=hmem x hx; show ((x.toNat:Nat):Int)=x; omega⟩
  subst hl';have hm:∀ x:Nat,(x:Int)∈natI l'↔x∈l':=fun x=>by
   unfold natI;rw [List.mem_map];exact ⟨fun ⟨y,h1,h2⟩=>(show y=x by omega) ▸ h1,fun h=>⟨x,h,rfl⟩⟩
  have hlN:∀ x∈l',x<N:=fun x hx=>by have:=hmem _ ((hm x).2 hx); omega
  have hnl:=zAY l';simp (disch:=omega) only [SS,g6,seval];refine (fof_c h0 (by omega) ((hvl.keep K6 (Nat.le_refl _)).keep (Keep.refl _ _) (by omega)) hlN (by omega)).mono ?_;intro r7 h7 n8 hr7;obtain ⟨b7,c7,sp7,rfl,hb71,hb72,hg7,hk7,hle7⟩:=id hr7;have K7:=K6.trans hk7 (by omega);have g7:=(hk7 nx (by omega)).trans g6;simp (disch:=omega) only [SS,g7,seval];refine (zQw (hv.keep K7 (by omega)) h0 h1 hl hok).mono ?_;rintro vb h8 n9 ⟨hby,hk8,hle8⟩;have g8:=(hk8 nx (by omega)).trans g7;have K8:=K7.trans hk8 (by omega);refine ⟨hle8,?_⟩;obtain ⟨bb,bsp,bc,bro,os,rfl,_⟩:=id hby;simp (disch:=omega) only [SS,g8,g7,seval];refine (zJU h0 h1 hby ((hvl.keep K8 (Nat.le_refl _)).keep (Keep.refl _ _) (by omega)) hlN (by omega)).mono ?_;intro r9 h9 n10 hr9;obtain ⟨b9,c9,sp9,rfl,hb91,hb92,hg9,hk9,hle9⟩:=id hr9;refine ⟨hle9,?_⟩;have g9:=(hk9 nx (by omega)).trans g8;have K9:=K8.trans hk9 (by omega);have hs9:=(hr7.rd.keep hk8 hle8).keep hk9 hle9;refine (zLe (p:=inL l') (q:=anyN (nb gs) l') (by omega) hs9 hr9.rd).mono ?_;intro r10 h10 n11 hr10;obtain ⟨b10,c10,sp10,rfl,hb101,hb102,hg10,hk10,hle10⟩:=id hr10;refine ⟨hle10,?_⟩;have K10:=K9.trans hk10 (by omega);refine (zGD h1 hr10.rd).mono ?_;rintro r' h11 n12 ⟨rfl,e1,e2⟩;rw [e1,e2];refine ⟨Nat.le_refl _,?_⟩;have hany:∀ v,anyN (nb gs) l' v=true↔∃ x∈natI l',nb gs x.toNat v=true:=fun v=>by
   unfold anyN;rw [List.any_eq_true];constructor
   ·rintro ⟨x,h1,h2⟩; exact ⟨(x:Int),(hm x).2 h1,h2⟩
   ·rintro ⟨x,h1,h2⟩;obtain ⟨y,hy,rfl⟩:=List.mem_map.1 (show x∈l'.map (fun x:Nat=>(x:Int)) from h1);exact ⟨y,hy,h2⟩
  have hin:∀ v,inL l' v=true↔(v:Int)∈natI l':=fun v=>by unfold inL; rw [decide_eq_true_iff,hm]
  have end_:(Chk N gs (natI l')↔(fl N (fun i=>inL l' i&&anyN (nb gs) l' i)).length=0∧(fl N (fun i=>inL l' i||anyN (nb gs) l' i)).length=N):=by
   rw [fl_none,fl_full];unfold Chk;constructor
   ·rintro ⟨_,H⟩;refine ⟨fun v hv=>?_,fun v hv=>?_⟩ <;> have:=H v hv <;> rw [← hin,← hany] at this <;> cases h1:inL l' v <;> cases h2:anyN (nb gs) l' v <;> simp [h1,h2] at this ⊢
   ·rintro ⟨h1,h2⟩;refine ⟨hall,fun v hv=>?_⟩;have a1:=h1 v hv;have a2:=h2 v hv;rw [← hin,← hany];cases h3:inL l' v <;> cases h4:anyN (nb gs) l' v <;> simp [h3,h4] at a1 a2 ⊢
  by_cases hz:(fl N (fun i=>inL l' i&&anyN (nb gs) l' i)).length=0
  case neg =>
   have hz':(((fl N (fun i=>inL l' i&&anyN (nb gs) l' i)).length:Int) == 0)=false:=by rw [beq_eq_false_iff_ne]; omega
   simp (disch:=omega) only [SS,hz',seval];exact ⟨false,rfl,⟨fun h=>(by cases h),fun h=>absurd (end_.1 h).1 hz⟩,K10,by omega⟩
  rw [hz];simp (disch:=omega) only [SS,show ((0:Nat):Int)=0 from rfl,seval];refine (zNW (p:=inL l') (q:=anyN (nb gs) l') (by omega) (hs9.keep hk10 hle10) (hr9.rd.keep hk10 hle10)).mono ?_;intro r12 h12 n13 hr12;obtain ⟨b12,c12,sp12,rfl,hb121,hb122,hg12,hk12,hle12⟩:=id hr12;refine ⟨hle12,?_⟩;refine (zGD h1 hr12.rd).mono ?_;rintro r' h13 n14 ⟨rfl,e1,e2⟩;rw [e1,e2];refine ⟨Nat.le_refl _,?_⟩;have g10:=(hk10 nx (by omega)).trans g9;have g12:=(hk12 nx (by omega)).trans g10;simp (disch:=omega) only [SS,g12,g10,g9,seval];refine ⟨_,rfl,?_,K10.trans hk12 (by omega),by omega⟩;rw [end_,beq_iff_eq];omega
def zBt (L:List (List Nat)) (v:Nat):Bool:=L.any fun l=>decide (v∈l)
theorem fl_one (p:Nat→Bool) (v:Nat):∀ N,(fl N p).filter (fun x=>decide (x=v))=if v<N∧p v=true then [v] else []
 | 0=>by simp [fl]
 | N+1=>by
  rw [zLa,List.filter_append,fl_one p v N]
  by_cases hv:v=N
  ·subst hv;rw [if_neg (by omega)];cases h:p v <;> simp
  ·have e:(if p N=true then [N] else []).filter (fun x=>decide (x=v))=[]:=by
    cases p N <;> simp [Ne.symm hv]
   rw [e,List.append_nil]
   by_cases h1:v<N
   ·have:v<N+1:=by omega
    simp [h1,this]
   ·have:¬ v<N+1:=by omega
    simp [h1,this]
theorem zKG {p q:Nat→Bool}:∀ l:List Nat,(∀ x∈l,p x=true→q x=false)→(l.filter fun x=>p x||q x).length=(l.filter p).length+(l.filter q).length
 | [],_=>rfl
 | x::l,h=>by
  have ih:=zKG l fun y hy=>h y (List.mem_cons_of_mem _ hy);have hx:=h x (List.mem_cons_self ..);rw [List.filter_cons,List.filter_cons,List.filter_cons];cases hp:p x
  ·cases hq:q x <;> simp <;> omega
  ·have:=hx hp;rw [this]; simp; omega
theorem zQz (gs:List GE) (a b:Nat):nb gs a b=nb gs b a:=by
 unfold nb;rw [Bool.or_comm,show decide (a≠b)=decide (b≠a) by simp [eq_comm]]
theorem js_all {gs:List GE} {num:Nat→Nat→Int} {N:Nat} (hinj:∀ d u v,u<N→v<N→num d u=num d v→u=v):∀ (r d:Nat) (q:Nat→Bool),(fl N q).length≤r →
  (∀ l∈jsM gs num N r d q,l≠[])∧(∀ v,zBt (jsM gs num N r d q) v=true→v<N∧q v=true)∧(∀ v,v<N→q v=true→zBt (jsM gs num N r d q) v=true∨∃ u,zBt (jsM gs num N r d q) u=true∧nb gs u v=true) ∧
  (∀ u v,zBt (jsM gs num N r d q) u=true→zBt (jsM gs num N r d q) v=true→nb gs u v=false)∧(∀ v,jd (jsM gs num N r d q) v=if zBt (jsM gs num N r d q) v=true then [v] else []) ∧
  tot (jsM gs num N r d q)=(fl N (zBt (jsM gs num N r d q))).length∧(jsM gs num N r d q).length≤tot (jsM gs num N r d q):=by
 intro r
 induction r with
 | zero =>
  intro d q h;have hn:∀ v,v<N→q v=false:=fl_none.1 (by omega);refine ⟨fun l hl=>(by cases hl),fun v hv=>(by cases hv),fun v hv hq=>?_,fun u v hu=>(by cases hu),fun v=>rfl,?_,Nat.le_refl _⟩
  ·rw [hn v hv] at hq; cases hq
  ·show 0=_;exact (fl_none.2 fun v _=>rfl).symm
 | succ r ih =>
  intro d q h
  by_cases h0:fl N q=[]
  ·have hn:∀ v,v<N→q v=false:=fl_none.1 (by rw [h0]; rfl);rw [zLS h0];refine ⟨fun l hl=>(by cases hl),fun v hv=>(by cases hv),fun v hv hq=>?_,fun u v hu=>(by cases hu),fun v=>rfl,?_,Nat.le_refl _⟩
   ·rw [hn v hv] at hq; cases hq
   ·show 0=_;exact (fl_none.2 fun v _=>rfl).symm
  ·rw [zIc h0];have hlt:=zJg (gs:=gs) (num:=num) (d:=d) (hinj d) h0;obtain ⟨i1,i2,i3,i4,i5,i6,i7⟩:=ih (d+1) (nxt gs num N d q) (by omega);generalize hL:jsM gs num N r (d+1) (nxt gs num N d q)=L at i1 i2 i3 i4 i5 i6 i7 ⊢;have hjn:∀ v,v∈jn gs num N d q↔v<N∧q v=true∧lst gs num N d q v=true:=fun v=>by
    unfold jn; rw [mem_fl,Bool.and_eq_true]
   have hany:∀ v,zBt (jn gs num N d q::L) v=(decide (v∈jn gs num N d q)||zBt L v):=fun v=>rfl;have hnx:∀ v,nxt gs num N d q v=true↔q v=true∧¬ v∈jn gs num N d q∧∀ u∈jn gs num N d q,nb gs u v=false:=fun v=>by
    unfold nxt inB';rw [Bool.and_eq_true,Bool.and_eq_true,Bool.not_eq_true',Bool.not_eq_true',decide_eq_false_iff_not,List.any_eq_false];constructor
    ·rintro ⟨⟨a,b⟩,c⟩; exact ⟨a,b,fun u hu=>by simpa using c u hu⟩
    ·rintro ⟨a,b,c⟩; exact ⟨⟨a,b⟩,fun u hu=>by rw [c u hu]; simp⟩
   have hin:∀ v,zBt (jn gs num N d q::L) v=true↔v∈jn gs num N d q∨zBt L v=true:=fun v=>by rw [hany,Bool.or_eq_true,decide_eq_true_iff]
   have hdis:∀ v,v∈jn gs num N d q→zBt L v=false:=fun v hv=>by
    cases h:zBt L v with
    | false=>rfl
    | true=>exact absurd hv ((hnx v).1 (i2 v h).2).2.1
   refine ⟨fun l hl=>?_,fun v hv=>?_,fun v hv hq=>?_,fun u v hu hv=>?_,fun v=>?_,?_,?_⟩
   ·rcases List.mem_cons.1 hl with rfl | hl
    ·exact jn_ne (hinj d) h0
    ·exact i1 l hl
   ·rcases (hin v).1 hv with hv | hv
    ·exact ⟨((hjn v).1 hv).1,((hjn v).1 hv).2.1⟩
    ·exact ⟨(i2 v hv).1,((hnx v).1 (i2 v hv).2).1⟩
   ·by_cases hnv:nxt gs num N d q v=true
    ·rcases i3 v hv hnv with e | ⟨u,e1,e2⟩
     ·exact .inl ((hin v).2 (.inr e))
     ·exact .inr ⟨u,(hin u).2 (.inr e1),e2⟩
    ·rw [hnx] at hnv
     by_cases hj:v∈jn gs num N d q
     ·exact .inl ((hin v).2 (.inl hj))
     ·have:¬ ∀ u∈jn gs num N d q,nb gs u v=false:=fun h=>hnv ⟨hq,hj,h⟩;have:∃ u,u∈jn gs num N d q∧nb gs u v=true:=by
       apply Classical.byContradiction;intro hno;refine this fun u hu=>?_;cases hb:nb gs u v with
       | false=>rfl
       | true=>exact absurd ⟨u,hu,hb⟩ hno
      obtain ⟨u,hu,hb⟩:=this;exact .inr ⟨u,(hin u).2 (.inl hu),hb⟩
   ·have cross:∀ u v,u∈jn gs num N d q→zBt L v=true→nb gs u v=false:=fun u v hu hv=>((hnx v).1 (i2 v hv).2).2.2 u hu;rcases (hin u).1 hu with hu | hu <;> rcases (hin v).1 hv with hv | hv
    ·cases hb:nb gs u v with
     | false=>rfl
     | true =>
      obtain ⟨u1,u2,u3⟩:=(hjn u).1 hu;obtain ⟨v1,v2,v3⟩:=(hjn v).1 hv;unfold lst at u3 v3;rw [List.all_eq_true] at u3 v3;have a:=u3 v (mem_fl.2 ⟨v1,by rw [hb,v2]; rfl⟩);have b:=v3 u (mem_fl.2 ⟨u1,by rw [zQz,hb,u2]; rfl⟩);simp at a b;omega
    ·exact cross u v hu hv
    ·rw [zQz]; exact cross v u hv hu
    ·exact i4 u v hu hv
   ·show (jn gs num N d q).filter (fun x=>decide (x=v))++jd L v=_;rw [i5]
    by_cases hj:v∈jn gs num N d q
    ·have hd:=hdis v hj;rw [if_pos ((hin v).2 (.inl hj)),if_neg (by rw [hd]; simp),List.append_nil];unfold jn at hj ⊢;rw [fl_one,if_pos (mem_fl.1 hj)]
    ·have e:(jn gs num N d q).filter (fun x=>decide (x=v))=[]:=by
      rw [List.filter_eq_nil_iff];intro x hx he;have:x=v:=of_decide_eq_true he;rw [this] at hx;exact hj hx
     rw [e,List.nil_append]
     by_cases hv:zBt L v=true
     ·rw [if_pos hv,if_pos ((hin v).2 (.inr hv))]
     ·rw [if_neg hv,if_neg fun h=>((hin v).1 h).elim hj hv]
   ·have e1:tot (jn gs num N d q::L)=(jn gs num N d q).length+tot L:=by unfold tot; rw [List.map_cons,List.sum_cons]
    rw [e1,i6];have e2:fl N (zBt (jn gs num N d q::L))=(List.range N).filter fun v=>decide (v∈jn gs num N d q)||zBt L v:=rfl;rw [e2,zKG]
    ·congr 1
     have:(List.range N).filter (fun v=>decide (v∈jn gs num N d q))=jn gs num N d q:=by
      show _=(List.range N).filter _;apply List.filter_congr;intro v hv;apply Bool.eq_iff_iff.2;rw [decide_eq_true_iff,hjn,Bool.and_eq_true];exact ⟨fun h=>h.2,fun h=>⟨List.mem_range.1 hv,h⟩⟩
     rw [this]
    ·intro v _ hv;exact hdis v (of_decide_eq_true hv)
   ·have e1:tot (jn gs num N d q::L)=(jn gs num N d q).length+tot L:=by unfold tot; rw [List.map_cons,List.sum_cons]
    have:=List.length_pos_iff.2 (jn_ne (gs:=gs) (hinj d) h0);rw [e1,List.length_cons];omega
theorem zRN {L:List (List Nat)} (h:∀ v,jd L v=if zBt L v=true then [v] else []):∀ N,jdM L N=fl N (zBt L)
 | 0=>rfl
 | N+1=>by rw [jdM_succ,zRN h N,zLa,h]
theorem zKE (p:Nat→Bool):∀ N (j:Nat) (x y:Nat),(fl N p)[j+1]? = some x→(fl N p)[j]? = some y→y<x
 | 0,j,x,y,h,_=>by cases h
 | N+1,j,x,y,h1,h2=>by
  rw [zLa] at h1 h2;have hl:=List.getElem?_eq_some_iff.1 h1
  by_cases hj:j+1<(fl N p).length
  ·rw [List.getElem?_append_left hj] at h1;rw [List.getElem?_append_left (by omega)] at h2;exact zKE p N j x y h1 h2
  ·cases hp:p N with
   | false=>rw [hp] at h1; simp at h1; have:=(List.getElem?_eq_some_iff.1 h1).1; omega
   | true =>
    rw [hp] at h1 h2;have hjl:j+1<(fl N p).length+1:=by have:=hl.1; rw [hp] at this; simp at this; omega
    rw [List.getElem?_append_right (by omega),show j+1-(fl N p).length=0 by omega] at h1;rw [List.getElem?_append_left (by omega)] at h2;have:=(mem_fl.1 (List.mem_of_getElem? h2)).1;cases h1;exact this
theorem zRM {gs:List GE} {num:Nat→Nat→Int} {N:Nat} (hinj:∀ d u v,u<N→v<N→num d u=num d v→u=v) :
  (∀ l∈jsM gs num N N 0 (fun _=>true),l≠[])∧tot (jsM gs num N N 0 (fun _=>true))≤N∧(jsM gs num N N 0 (fun _=>true)).length≤N∧(jdM (jsM gs num N N 0 (fun _=>true)) N).length=tot (jsM gs num N N 0 (fun _=>true))∧Chk N gs (natI (jdM (jsM gs num N N 0 (fun _=>true)) N)):=by
 obtain ⟨i1,i2,i3,i4,i5,i6,i7⟩:=js_all (gs:=gs) hinj N 0 (fun _=>true) (zDD _ _);generalize jsM gs num N N 0 (fun _=>true)=L at *
 have hle:=zDD N (zBt L);have hm:∀ x:Int,x∈natI (fl N (zBt L))↔∃ v:Nat,x=v∧v<N∧zBt L v=true:=fun x=>by
  unfold natI;rw [List.mem_map];constructor
  ·rintro ⟨v,hv,rfl⟩; exact ⟨v,rfl,mem_fl.1 hv⟩
  ·rintro ⟨v,rfl,hv⟩; exact ⟨v,mem_fl.2 hv,rfl⟩
 refine ⟨i1,by omega,by omega,by rw [zRN i5,i6],?_⟩;rw [zRN i5];refine ⟨fun j x hx=>?_,fun v hv=>?_⟩
 ·obtain ⟨u,rfl,hu,_⟩:=(hm x).1 (List.mem_of_getElem? hx);refine ⟨by omega,by omega,fun hj y hy=>?_⟩;obtain ⟨j,rfl⟩:∃ k,j=k+1:=⟨j-1,by omega⟩
  rw [Nat.add_sub_cancel] at hy;unfold natI at hx hy;rw [List.getElem?_map] at hx hy;obtain ⟨x',hx',ex⟩:=Option.map_eq_some_iff.1 hx;obtain ⟨y',hy',ey⟩:=Option.map_eq_some_iff.1 hy;have:=zKE _ N j x' y' hx' hy';omega
 ·rw [hm];rintro ⟨h1,h2⟩
  by_cases hi:zBt L v=true
  ·obtain ⟨x,hx,hb⟩:=h1 ⟨v,rfl,hv,hi⟩;obtain ⟨u,rfl,hu,hu2⟩:=(hm x).1 hx;rw [Int.toNat_natCast,i4 u v hu2 hi] at hb;cases hb
  ·rcases i3 v hv rfl with e | ⟨u,hu,hb⟩
   ·exact hi e
   ·obtain ⟨w,hw,_,hw2⟩:=h2 ⟨(u:Int),(hm _).2 ⟨u,rfl,(i2 u hu).1,hu⟩,by rw [Int.toNat_natCast]; exact hb⟩;have:w=v:=by omega
    rw [this] at hw2;exact hi hw2
def SamIJ (l l':List Int) (v v':Value) (h:Hp) (nx:Nat) (m:Nat) (vs:List Value) (h':Hp) (nx':Nat):Prop:=∃ i,m=l.length-i∧i≤l.length∧vs=[v,v',.bool false,.int .i64 (i:Int)]∧h'=h∧nx'=nx∧l.take i=l'.take i
theorem zKr {s:Bool} {h:Hp} {nx:Nat} {v v':Value} {l l':List Int} (hv:SlRd h nx v encI l) (hv':SlRd h nx v' encI l') (hl:l.length<1000000) :
  Cv Q O s 37 [v,v'] h nx (fun r h' nx'=>r = .bool (decide (l=l'))∧h'=h∧nx'=nx):=by
 refine sameiv ?_;obtain ⟨a,cap,rfl,hc⟩:=id hv;obtain ⟨a',cap',rfl,hc'⟩:=id hv';unfold samei bF iV nF;simp (disch:=omega) only [SS,seval];refine ⟨fun hne=>?_,fun he=>?_⟩
 ·have:¬ l=l':=fun e=>by subst e; simp at hne
  simp [this]
 have he:l.length=l'.length:=by
  have h2:(l.length:Int)=(l'.length:Int):=by simpa using he
  omega
 refine Lp.mk (SamIJ l l' (.slice a l.length cap) (.slice a' l'.length cap') h nx) l.length ⟨0,rfl,by omega,rfl,rfl,rfl,rfl⟩ ?_;rintro m _ _ _ ⟨i,rfl,hi,rfl,rfl,rfl,ht⟩;rw [sameib0];unfold zPj bF iV lF nF xF;simp (disch:=omega) only [SS,seval];refine ⟨fun hlt=>?_,fun hge=>?_⟩
 ·obtain ⟨x,hx⟩:=zj hlt;obtain ⟨y,hy⟩:=zj (l:=l') (i:=i) (by omega);obtain ⟨_,b,sp,ro,c1,hb,e1,hg⟩:=hv.at hx;obtain ⟨_,b',sp',ro',c1',hb',e1',hg'⟩:=hv'.at hy;cases e1; cases e1';rw [zT] at hg hg';simp (disch:=omega) only [SS,hg,hg',zg hx,zg hy,seval];refine ⟨fun hne=>?_,fun he2=>?_⟩
  ·have:¬ l=l':=fun e=>by subst e; rw [hx] at hy; cases hy; simp at hne
   simp [this]
  ·have hxy:x=y:=by simpa using he2
   subst hxy;refine ⟨l.length-(i+1),by omega,i+1,rfl,by omega,by rw [zZ (by omega)],rfl,rfl,?_⟩;rw [List.take_add_one,List.take_add_one,hx,hy,ht]
 ·have:i=l.length:=by omega
  subst this;rw [List.take_length,he,List.take_length] at ht;simp [ht]
theorem samev_c {s:Bool} {h:Hp} {nx:Nat} {v v':Value} {l l':List Int} (hv:SlRd h nx v encI l) (hv':SlRd h nx v' encI l') (hl:l.length<1000000) :
  Cv Q O s 36 [v,v'] h nx (fun r h' nx'=>r = .bool (decide (l=l'))∧h'=h∧nx'=nx):=by
 refine samevv ?_;obtain ⟨a,cap,rfl,hc⟩:=id hv;obtain ⟨a',cap',rfl,hc'⟩:=id hv';unfold samev bF iV nF;simp (disch:=omega) only [SS,seval];refine ⟨fun hne=>?_,fun he=>?_⟩
 ·have:¬ l=l':=fun e=>by subst e; simp at hne
  simp [this]
 have he:l.length=l'.length:=by
  have h2:(l.length:Int)=(l'.length:Int):=by simpa using he
  omega
 refine Lp.mk (SamIJ l l' (.slice a l.length cap) (.slice a' l'.length cap') h nx) l.length ⟨0,rfl,by omega,rfl,rfl,rfl,rfl⟩ ?_;rintro m _ _ _ ⟨i,rfl,hi,rfl,rfl,rfl,ht⟩;rw [samevb0];unfold zPh bF iV lF nF xF;simp (disch:=omega) only [SS,seval];refine ⟨fun hlt=>?_,fun hge=>?_⟩
 ·obtain ⟨x,hx⟩:=zj hlt;obtain ⟨y,hy⟩:=zj (l:=l') (i:=i) (by omega);obtain ⟨_,b,sp,ro,c1,hb,e1,hg⟩:=hv.at hx;obtain ⟨_,b',sp',ro',c1',hb',e1',hg'⟩:=hv'.at hy;cases e1; cases e1';rw [zT] at hg hg';simp (disch:=omega) only [SS,hg,hg',zg hx,zg hy,seval];refine ⟨fun hne=>?_,fun he2=>?_⟩
  ·have:¬ l=l':=fun e=>by subst e; rw [hx] at hy; cases hy; simp at hne
   simp [this]
  ·have hxy:x=y:=by simpa using he2
   subst hxy;refine ⟨l.length-(i+1),by omega,i+1,rfl,by omega,by rw [zZ (by omega)],rfl,rfl,?_⟩;rw [List.take_add_one,List.take_add_one,hx,hy,ht]
 ·have:i=l.length:=by omega
  subst this;rw [List.take_length,he,List.take_length] at ht;simp [ht]
def nbE (a b:Nat) (e:GE):Bool:=decide (a≠b)&&(decide (e.f=a∧e.t=b)||decide (e.f=b∧e.t=a))
theorem nb_any (gs:List GE) (a b:Nat):nb gs a b=gs.any (nbE a b):=by
 apply Bool.eq_iff_iff.2;unfold nb;rw [Bool.and_eq_true,Bool.or_eq_true,zBe,zBe,List.any_eq_true];unfold nbE;constructor
 ·rintro ⟨h1,⟨g,hg,h2,h3⟩ | ⟨g,hg,h2,h3⟩⟩
  ·exact ⟨g,hg,by rw [h1]; simp [h2,h3]⟩
  ·exact ⟨g,hg,by rw [h1]; simp [h2,h3]⟩
 ·rintro ⟨g,hg,h⟩;rw [Bool.and_eq_true,Bool.or_eq_true,decide_eq_true_iff (p:=g.f=a∧g.t=b),decide_eq_true_iff (p:=g.f=b∧g.t=a)] at h;rcases h with ⟨h1,h2 | h2⟩
  ·exact ⟨h1,.inl ⟨g,hg,h2.1,h2.2⟩⟩
  ·exact ⟨h1,.inr ⟨g,hg,h2.1,h2.2⟩⟩
def RnJ (N a b:Nat) (v:Value) (gs:List GE) (nx:Nat) (h:Hp) (m:Nat) (vs:List Value) (h':Hp) (nx':Nat):Prop :=
 ∃ i,m=gs.length-i∧i≤gs.length∧vs=[.int .i64 (a:Int),.int .i64 (b:Int),.pointer (some ⟨nx,0,none⟩),.bool false,.int .i64 (i:Int)]∧hget h' nx=some (.cells [.int .i64 (N:Int),v] false)∧Keep nx h h'∧nx+1≤nx'∧∀ x∈gs.take i,nbE a b x=false
theorem zPx {s:Bool} {N a b:Nat} {gs:List GE} {v:Value} {h:Hp} {nx:Nat} (hv:SlPx h nx v encG gs) (hl:gs.length≤1000) :
  Cv Q O s 101 [.agg ⟨[.int .i64 (N:Int),v]⟩,.int .i64 (a:Int),.int .i64 (b:Int)] h nx (EqK (.bool (nb gs a b)) nx h):=by
 refine rnearv ?_;obtain ⟨aa,cap,rfl,hc⟩:=id hv;unfold rnear iV pC;simp (disch:=omega) only [SS,seval];have K0:∀ {o},Keep nx h (hset h nx o):=(Keep.refl _ _).set (Nat.le_refl _);refine Lp.mk (RnJ N a b (.slice aa gs.length cap) gs nx h) gs.length ⟨0,rfl,by omega,rfl,hnew _ _ _,K0,by omega,fun x hx=>by simp at hx⟩ ?_;rintro _ _ h' nx' ⟨i,rfl,hi,rfl,g0,hk,hle,hno⟩;rw [rnearb0];unfold zPw aF bF iV lA lF nC nF xF;simp (disch:=omega) only [SS,g0,seval];refine ⟨fun hlt=>?_,fun hge=>?_⟩
 ·obtain ⟨e,he⟩:=zj hlt;obtain ⟨_,b1,sp,ro,c1,cs,hb1,e1,hg⟩:=hv.at he;cases e1;have hg':=(hk b1 hb1).trans hg;simp (disch:=omega) only [SS,g0,hg',rdP (enc:=encG) (k:=3) (fun _=>rfl) he,encG,seval];have yes:nbE a b e=true→∀ {o o':AObj},EqK (.bool (nb gs a b)) nx h (.bool true) (hset (hset h' nx' o) nx' o') (nx'+1):=fun hb {o o'} =>
   ⟨by rw [nb_any,List.any_eq_true.2 ⟨e,List.mem_of_getElem? he,hb⟩],(hk.set (by omega)).set (by omega),by omega⟩
  have no:nbE a b e=false→∀ {o o':AObj} {y41:Value},y41 = .int .i64 ((i+1:Nat):Int)→∃ m',m'<gs.length-i∧RnJ N a b (.slice (some ⟨b1,0,sp⟩) gs.length cap) gs nx h m' [.int .i64 (a:Int),.int .i64 (b:Int),.pointer (some ⟨nx,0,none⟩),.bool false,y41] (hset (hset h' nx' o) nx' o') (nx'+1):=fun hb {o o' y} hy=>by
   subst hy;refine ⟨gs.length-(i+1),by omega,i+1,rfl,by omega,rfl,by rw [hold (by omega),hold (by omega)]; exact g0,(hk.set (by omega)).set (by omega),by omega,fun x hx=>?_⟩;rw [List.take_add_one,he] at hx;rcases List.mem_append.1 hx with hx | hx
   ·exact hno x hx
   ·rw [show x=e by simpa using hx]; exact hb
  unfold zEu bF iV;simp (disch:=omega) only [SS,zZ (show i<1000000000000 by omega),seval];have hE:nbE a b e=(decide (a≠b)&&(decide (e.f=a∧e.t=b)||decide (e.f=b∧e.t=a))):=rfl;have ib:∀ x y:Nat,(((x:Int)) == (y:Int))=decide (x=y):=fun x y=>by
   by_cases e:x=y
   ·subst e; simp
   ·rw [beq_eq_false_iff_ne.2 (by omega),decide_eq_false e]
  simp only [ib];generalize EqK (.bool (nb gs a b)) nx h=G at yes ⊢;clear hno hk hg hg' hc
  repeat' (first | (refine And.intro ?_ ?_) | intro)
  all_goals first
   | exact yes (by rw [hE]; simp_all)
   | exact no (by rw [hE]; simp_all) rfl
 ·have:i=gs.length:=by omega
  subst this;rw [List.take_length] at hno;refine ⟨by rw [nb_any,List.any_eq_false.2 fun x hx=>by rw [hno x hx]; simp],hk,by omega⟩
def RiJ (vl:Value) (x:Int) (l:List Int) (h:Hp) (nx:Nat) (m:Nat) (vs:List Value) (h':Hp) (nx':Nat):Prop :=
 ∃ i,m=l.length-i∧i≤l.length∧vs=[vl,.int .i64 x,.bool false,.int .i64 (i:Int)]∧h'=h∧nx'=nx∧¬ x∈l.take i
theorem rin_c {s:Bool} {vl:Value} {x:Int} {l:List Int} {h:Hp} {nx:Nat} (hv:SlRd h nx vl encI l) (hl:l.length<1000000) :
  Cv Q O s 103 [vl,.int .i64 x] h nx (fun r h' nx'=>r = .bool (decide (x∈l))∧h'=h∧nx'=nx):=by
 refine rinv ?_;obtain ⟨a,cap,rfl,hc⟩:=id hv;unfold rin iV;refine Lp.mk (RiJ (.slice a l.length cap) x l h nx) l.length ⟨0,rfl,by omega,rfl,rfl,rfl,by simp⟩ ?_;rintro _ _ h' nx' ⟨i,rfl,hi,rfl,eh,en,hno⟩;rw [eh,en,rinb0];unfold rinl0 bF iV lF nF xF;simp (disch:=omega) only [SS,seval];refine ⟨fun hlt=>?_,fun hge=>?_⟩
 ·obtain ⟨y,hy⟩:=zj hlt;obtain ⟨_,b,sp,ro,c1,hb,e1,hg⟩:=hv.at hy;cases e1;rw [zT] at hg;simp (disch:=omega) only [SS,hg,zg hy,zZ (show i<1000000000000 by omega),seval];refine ⟨fun he=>?_,fun he=>?_⟩
  ·have he:y=x:=by simpa using he
   subst he;rw [decide_eq_true (List.mem_of_getElem? hy)]
  ·have he:¬ y=x:=by simpa using he
   refine ⟨l.length-(i+1),by omega,i+1,rfl,by omega,rfl,rfl,rfl,?_⟩;rw [List.take_add_one,hy];simp only [Option.toList_some,List.mem_append,List.mem_singleton,not_or];exact ⟨hno,fun e=>he e.symm⟩
 ·have:i=l.length:=by omega
  subst this;rw [List.take_length] at hno;rw [decide_eq_false hno]
def RbJ (N x:Nat) (v vl:Value) (gs:List GE) (l:List Nat) (nx:Nat) (h:Hp) (m:Nat) (vs:List Value) (h':Hp) (nx':Nat):Prop :=
 ∃ i,m=l.length-i∧i≤l.length∧vs=[vl,.int .i64 (x:Int),.pointer (some ⟨nx,0,none⟩),.bool false,.int .i64 (i:Int)]∧hget h' nx=some (.cells [.int .i64 (N:Int),v] false)∧Keep nx h h'∧nx+1≤nx'∧anyN (nb gs) (l.take i) x=false
theorem zG0 {s:Bool} {N x:Nat} {gs:List GE} {l:List Nat} {v vl:Value} {h:Hp} {nx:Nat} (hv:SlPx h nx v encG gs) (hgl:gs.length≤1000) (hvl:SlRd h nx vl encI (natI l)) (hl:l.length<1000000) :
  Cv Q O s 104 [.agg ⟨[.int .i64 (N:Int),v]⟩,vl,.int .i64 (x:Int)] h nx (EqK (.bool (anyN (nb gs) l x)) nx h):=by
 refine rbesidev ?_;obtain ⟨aa,cap,rfl,hc⟩:=id hv;obtain ⟨al,cl,rfl,hcl⟩:=id hvl;unfold zQ0 iV pC;simp (disch:=omega) only [SS,seval];have hnl:=zAY l;have K0:∀ {o},Keep nx h (hset h nx o):=(Keep.refl _ _).set (Nat.le_refl _);refine Lp.mk (RbJ N x (.slice aa gs.length cap) (.slice al (natI l).length cl) gs l nx h) l.length ⟨0,rfl,by omega,rfl,hnew _ _ _,K0,by omega,rfl⟩ ?_;rintro _ _ h' nx' ⟨i,rfl,hi,rfl,g0,hk,hle,hno⟩;rw [zQZ];unfold zJ2 bF dF iV lA lF nF xF;rw [hnl];simp (disch:=omega) only [SS,seval];refine ⟨fun hlt=>?_,fun hge=>?_⟩
 ·obtain ⟨y,hy⟩:=zj hlt;have hyI:(natI l)[i]? = some (y:Int):=by unfold natI; rw [List.getElem?_map,hy]; rfl
  obtain ⟨_,b,sp,ro,c1,hb,e1,hg⟩:=hvl.at hyI;cases e1;rw [zT] at hg;simp (disch:=omega) only [SS,g0,(hk b hb).trans hg,zg hyI,seval];refine (zPx (s:=true) (hv.keep hk (by omega)) hgl).mono ?_;rintro r h2 n2 ⟨rfl,hk2,hle2⟩;refine ⟨hle2,?_⟩;have hst:anyN (nb gs) (l.take (i+1)) x=(anyN (nb gs) (l.take i) x||nb gs y x):=by
   unfold anyN;rw [List.take_add_one,hy,List.any_append];simp
  cases hnb:nb gs y x with
  | true =>
   simp (disch:=omega) only [SS,seval];refine ⟨?_,hk.trans hk2 (by omega),by omega⟩;have:anyN (nb gs) l x=true:=by
    unfold anyN;exact List.any_eq_true.2 ⟨y,List.mem_of_getElem? hy,hnb⟩
   rw [this]
  | false =>
   simp (disch:=omega) only [SS,zZ (show i<1000000000000 by omega),seval];exact ⟨l.length-(i+1),by omega,i+1,rfl,by omega,rfl,(hk2 nx (by omega)).trans g0,hk.trans hk2 (by omega),by omega,by rw [hst,hno,hnb]; rfl⟩
 ·have:i=l.length:=by omega
  subst this;rw [List.take_length] at hno;exact ⟨by rw [hno],hk,by omega⟩
theorem zQU {s:Bool} {k src len:Int} {N d v:Nat} {ds:List Int} {vd:Value} {h:Hp} {nx:Nat} (hd:SlRd h nx vd encI ds) (hok:DrOk ds) (hp:zAS k N src len ds=0) (hN:N≤4096) (hv:v<N) (hd2:d≤1000) :
  Cv Q O s 102 [.agg ⟨[.int .i64 k,.int .i64 (N:Int),.int .i64 src,.int .i64 len,vd]⟩,.int .i64 (d:Int),.int .i64 (v:Int)] h nx (EqK (.int .i64 (numD ds N d v)) nx h):=by
 refine rdrawv ?_;obtain ⟨a,cap,rfl,hc⟩:=id hd;unfold rdraw aF bF cF iV lA lF pC;have K0:∀ {o},Keep nx h (hset h nx o):=(Keep.refl _ _).set (Nat.le_refl _);simp (disch:=omega) only [SS,↓reduceIte,Nat.reduceAdd,Nat.reduceSub,Nat.reduceMul,Nat.reduceLT,Nat.reduceLeDiff,Nat.reduceEqDiff,Int.reduceBEq,Int.reduceLT,Int.reduceNeg];refine (zHf (hd.keep K0 (by omega))).mono ?_;rintro r h1 n1 ⟨rfl,hk1,hle1⟩;have g:=hk1 nx (by omega);rw [hnew] at g;have K1:Keep nx h h1:=K0.trans hk1 (by omega);rw [hp];simp (disch:=omega) only [SS,↓reduceIte,Nat.reduceAdd,Nat.reduceSub,Nat.reduceMul,Nat.reduceLT,Nat.reduceLeDiff,Nat.reduceEqDiff,Int.reduceBEq,Int.reduceLT,Int.reduceNeg,g,show ¬ (d:Int)<0 by omega,show ¬ (8192:Int)<(d:Int) by omega,show ¬ (v:Int)<0 by omega,show ¬ (N:Int)≤(v:Int) by omega,show (v:Int)<(N:Int) by omega];unfold zEx aF bF iV lF nF xF;obtain ⟨hl,hb⟩:=hok
 by_cases h0:ds.length=0
 ·have e0:((ds.length:Nat):Int)=0:=by omega
  have w1:IntKind.wrap .i64 (0+(v:Int))=(v:Int):=by rw [Int.zero_add]; exact zKk (by omega)
  simp (disch:=omega) only [SS,↓reduceIte,Nat.reduceAdd,Nat.reduceSub,Nat.reduceMul,Nat.reduceLT,Nat.reduceLeDiff,Nat.reduceEqDiff,Int.reduceBEq,Int.reduceLT,Int.reduceNeg,g,e0,zCA,w1,show IntKind.wrap .i64 (0*4096)=0 from rfl];refine fun _ _ _=>⟨fun h=>absurd trivial h,fun _=>⟨?_,K1,by omega⟩⟩
  unfold numD;rw [if_pos h0]; simp
 ·have hpos:0<ds.length:=by omega
  have hlt:(d*N+v) % ds.length<ds.length:=Nat.mod_lt _ hpos;obtain ⟨x,hx⟩:=zj (l:=ds) hlt;obtain ⟨hx0,hx1⟩:=hb x (List.mem_of_getElem? hx);obtain ⟨b,sp,ro,hb1,rfl,hg⟩:=hc (fun e=>by rw [e] at hpos; simp at hpos);rw [zT] at hg;have hg':=(K1 b hb1).trans hg;have hdn:d*N≤4096000:=Nat.mul_le_mul (n₁:=d) (n₂:=1000) (m₁:=N) (m₂:=4096) (by omega) (by omega);have m1:IntKind.wrap .i64 ((d:Int)*(N:Int))=((d*N:Nat):Int):=by
   rw [show ((d:Int)*(N:Int))=((d*N:Nat):Int) by rw [Int.natCast_mul]]; exact zKk (by omega)
  have m2:IntKind.wrap .i64 (((d*N:Nat):Int)+(v:Int))=((d*N+v:Nat):Int):=by
   rw [show (((d*N:Nat):Int)+(v:Int))=((d*N+v:Nat):Int) by omega]; exact zKk (by omega)
  have m3:bin Q .rem 3 (.int .i64 ((d*N+v:Nat):Int)) (.int .i64 (ds.length:Int)) = .ok (.int .i64 (((d*N+v) % ds.length:Nat):Int)):=by
   rw [zJE (by omega)];rfl
  have m4:IntKind.wrap .i64 (x*4096)=x*4096:=zB4 (by omega) (by omega);have m5:IntKind.wrap .i64 (x*4096+(v:Int))=x*4096+(v:Int):=zB4 (by omega) (by omega);simp (disch:=omega) only [SS,↓reduceIte,Nat.reduceAdd,Nat.reduceSub,Nat.reduceMul,Nat.reduceLT,Nat.reduceLeDiff,Nat.reduceEqDiff,Int.reduceBEq,Int.reduceLT,Int.reduceNeg,g,show (0:Int)<(ds.length:Int) by omega,zCA,m1,m2,m3,hg',zg hx,m4,m5];refine fun _ _ _=>⟨fun h=>absurd trivial h,⟨?_,K1,by omega⟩,fun h=>absurd trivial h⟩
  unfold numD;rw [if_neg h0,hx];rfl
theorem zBb {l:List Nat} {i x:Nat} (h:l[i]? = some x):(natI l)[i]? = some (x:Int):=by unfold natI; rw [List.getElem?_map,h]; rfl
theorem zCO (l:List Nat) (x:Nat):natI (l++[x])=natI l++[(x:Int)]:=by unfold natI; rw [List.map_append]; rfl
theorem zLN {h:Hp} {nx:Nat} {al:Option Addr} {cl:Nat} {l:List Nat} (hf:SlRd h nx (.slice al l.length cl) encI (natI l)) {i x:Nat} (hx:l[i]? = some x):∃ b sp ro,b<nx∧al=some ⟨b,0,sp⟩∧hget h b=some (.cells (ints (natI l)) ro):=by
 have hf':SlRd h nx (.slice al (natI l).length cl) encI (natI l):=by rw [zAY]; exact hf
 obtain ⟨_,b,sp,ro,c,hb,e,hg⟩:=hf'.at (zBb hx)
 cases e;rw [zT] at hg;exact ⟨b,sp,ro,hb,rfl,hg⟩
def lsR (gs:List GE) (num:Nat→Nat→Int) (d:Nat) (F:List Nat) (u:Nat):Bool:=F.all fun w=>!(nb gs u w&&decide (num d w≤num d u))
def R3J (pg pp d i u:Nat) (a6 vf a12:Value) (gs:List GE) (num:Nat→Nat→Int) (F:List Nat) (n0:Nat) (h0:Hp) (m:Nat) (vs:List Value) (h':Hp) (nx':Nat):Prop :=
 ∃ k,m=F.length-k∧k≤F.length∧vs=[.pointer (some ⟨pg,0,none⟩),.pointer (some ⟨pp,0,none⟩),a6,vf,.int .i64 (d:Int),a12,.int .i64 (i:Int),.bool (lsR gs num d (F.take k) u),.int .i64 (k:Int)]∧Keep n0 h0 h'∧n0≤nx'
theorem zIb {gs:List GE} {num:Nat→Nat→Int} {d u w k:Nat} {F:List Nat} (h:F[k]? = some w):lsR gs num d (F.take (k+1)) u=(lsR gs num d (F.take k) u&&!(nb gs u w&&decide (num d w≤num d u))):=by
 unfold lsR;rw [List.take_add_one,h,List.all_append];simp
theorem rj3_c {s:Bool} {B N i d:Nat} {gs:List GE} {k src len:Int} {ds:List Int} {pg pp:Nat} {v vd:Value} {h:Hp} {nx:Nat} (J:JoinIn B N gs k src len ds pg pp v vd h) (hgl:gs.length≤60) (hdr:DrOk ds) (hp:zAS k N src len ds=0) (h1:N≤63) (hd2:d≤1000) (hB:B≤nx)
  {F:List Nat} (hF:∀ x∈F,x<N) (hFl:F.length≤63) {al:Option Addr} {cl:Nat} (hf:SlRd h nx (.slice al F.length cl) encI (natI F)) {u:Nat} (hu:F[i]? = some u) {a6 a12:Value} {E:KVl}
  (hE:∀ h' nx',Keep nx h h'→nx≤nx'→E [.pointer (some ⟨pg,0,none⟩),.pointer (some ⟨pp,0,none⟩),a6,.slice al F.length cl,.int .i64 (d:Int),a12,.int .i64 (i:Int),.bool (lsR gs (numD ds N) d F u),.int .i64 (F.length:Int)] h' nx') :
  Lp (fL Q O s zBH 31 3) [.pointer (some ⟨pg,0,none⟩),.pointer (some ⟨pp,0,none⟩),a6,.slice al F.length cl,.int .i64 (d:Int),a12,.int .i64 (i:Int),.bool true,.int .i64 0] h nx [(6,E)] (fun _ _ _=>False):=by
 have hiF:=(List.getElem?_eq_some_iff.1 hu).1;obtain ⟨b,sp,ro,hb,rfl,hg⟩:=zLN hf hu;obtain ⟨av,cv,rfl,_⟩:=id J.v;obtain ⟨ad,cd,rfl,_⟩:=id J.d;refine Lp.mk (R3J pg pp d i u a6 (.slice (some ⟨b,0,sp⟩) F.length cl) a12 gs (numD ds N) F nx h) F.length ⟨0,rfl,by omega,rfl,Keep.refl _ _,Nat.le_refl _⟩ ?_;rintro _ _ h' nx' ⟨j,rfl,hj,rfl,hk,hle⟩;rw [rjoinsb3];unfold zMc bF dF gA gL lA lF nF xF;simp (disch:=omega) only [SS,seval];refine ⟨fun hlt=>?_,fun hge=>?_⟩
 ·obtain ⟨w,hw⟩:=zj hlt;have J1:=J.keep (hk.mono hB);have hg1:=(hk b hb).trans hg;have hwN:=hF w (List.mem_of_getElem? hw);have huN:=hF u (List.mem_of_getElem? hu);have next:∀ {t:Bool} {h2:Hp} {n2:Nat},t=lsR gs (numD ds N) d (F.take (j+1)) u→Keep nx' h' h2→nx'≤n2→∃ m',m'<F.length-j∧R3J pg pp d i u a6 (.slice (some ⟨b,0,sp⟩) F.length cl) a12 gs (numD ds N) F nx h m' [.pointer (some ⟨pg,0,none⟩),.pointer (some ⟨pp,0,none⟩),a6,.slice (some ⟨b,0,sp⟩) F.length cl,.int .i64 (d:Int),a12,.int .i64 (i:Int),.bool t,.int .i64 ((j+1:Nat):Int)] h2 n2:=fun {t h2 n2} ht hk2 hle2 =>
   ⟨F.length-(j+1),by omega,j+1,rfl,by omega,by rw [ht],hk.trans hk2 hle,by omega⟩
  simp (disch:=omega) only [SS,J1.g,hg1,zg (zBb hu),zg (zBb hw),seval];refine (zPx (s:=true) (J1.v.keep (Keep.refl _ _) (by omega)) (by omega)).mono ?_;rintro r h2 n2 ⟨rfl,hk2,hle2⟩;refine ⟨hle2,?_⟩;have J2:=J1.keep (hk2.mono (by omega));have hg2:=(hk2 b (by omega)).trans hg1;cases hnb:nb gs u w with
  | false =>
   unfold zE1 bF iV;simp (disch:=omega) only [SS,zZ (show j<1000000000000 by omega),seval];exact next (by rw [zIb hw,hnb]; simp) hk2 hle2
  | true =>
   simp (disch:=omega) only [SS,J2.p,J1.p,hg2,hg1,zg (zBb hw),seval];refine (zQU (s:=true) (J2.d.keep (Keep.refl _ _) (by omega)) hdr hp (by omega) hwN hd2).mono ?_;rintro r h3 n3 ⟨rfl,hk3,hle3⟩;refine ⟨hle3,?_⟩;have J3:=J2.keep (hk3.mono (by omega));have hg3:=(hk3 b (by omega)).trans hg2;simp (disch:=omega) only [SS,J3.p,J2.p,J1.p,hg3,hg2,hg1,zg (zBb hu),seval];refine (zQU (s:=true) (J3.d.keep (Keep.refl _ _) (by omega)) hdr hp (by omega) huN hd2).mono ?_;rintro r h4 n4 ⟨rfl,hk4,hle4⟩;refine ⟨hle4,?_⟩;have hk24:Keep nx' h' h4:=(hk2.trans hk3 hle2).trans hk4 (by omega);unfold zE1 bF iV;simp (disch:=omega) only [SS,zZ (show j<1000000000000 by omega),seval];refine ⟨fun hle=>next (by rw [zIb hw,hnb,decide_eq_true (by omega)]; simp) hk24 (by omega),fun hle=>next (by rw [zIb hw,hnb,decide_eq_false (by omega)]; simp) hk24 (by omega)⟩
 ·have:j=F.length:=by omega
  subst this;rw [List.take_length];exact hE _ _ hk hle
def R2J (pg pp d:Nat) (a6 vf:Value) (P:Nat→Bool) (F:List Nat) (n0:Nat) (h0:Hp) (m:Nat) (vs:List Value) (h':Hp) (nx':Nat):Prop :=
 ∃ (i:Nat) (o:Value) (bo:Option Nat),m=F.length-i∧i≤F.length∧vs=[.pointer (some ⟨pg,0,none⟩),.pointer (some ⟨pp,0,none⟩),a6,vf,.int .i64 (d:Int),o,.int .i64 (i:Int)]∧Ow h' encI o (natI ((F.take i).filter P)) bo∧(∀ c,bo=some c→n0≤c∧c<nx')∧Keep n0 h0 h'∧n0≤nx'
theorem zDe {P:Nat→Bool} {F:List Nat} {i u:Nat} (h:F[i]? = some u):(F.take (i+1)).filter P=(F.take i).filter P++(if P u=true then [u] else []):=by
 rw [List.take_add_one,h,List.filter_append];cases hp:P u <;> simp [hp]
theorem rj2_c {s:Bool} {B N d:Nat} {gs:List GE} {k src len:Int} {ds:List Int} {pg pp:Nat} {v vd:Value} {h:Hp} {nx:Nat} (J:JoinIn B N gs k src len ds pg pp v vd h) (hgl:gs.length≤60) (hdr:DrOk ds) (hp:zAS k N src len ds=0) (h1:N≤63) (hd2:d≤1000) (hB:B≤nx)
  {F:List Nat} (hF:∀ x∈F,x<N) (hFl:F.length≤63) {al:Option Addr} {cl:Nat} (hf:SlRd h nx (.slice al F.length cl) encI (natI F)) {a6:Value} {E:KVl}
  (hE:∀ o bo h' nx',Ow h' encI o (natI (F.filter (lsR gs (numD ds N) d F))) bo→(∀ c,bo=some c→nx≤c∧c<nx')→Keep nx h h'→nx≤nx'→E [.pointer (some ⟨pg,0,none⟩),.pointer (some ⟨pp,0,none⟩),a6,.slice al F.length cl,.int .i64 (d:Int),o,.int .i64 (F.length:Int)] h' nx') :
  Lp (fL Q O s zBH 31 2) [.pointer (some ⟨pg,0,none⟩),.pointer (some ⟨pp,0,none⟩),a6,.slice al F.length cl,.int .i64 (d:Int),.slice none 0 0,.int .i64 0] h nx [(4,E)] (fun _ _ _=>False):=by
 refine Lp.mk (R2J pg pp d a6 (.slice al F.length cl) (lsR gs (numD ds N) d F) F nx h) F.length ⟨0,_,none,rfl,by omega,rfl,.nil,fun c e=>(by cases e),Keep.refl _ _,Nat.le_refl _⟩ ?_;rintro _ _ h' nx' ⟨i,o,bo,rfl,hi,rfl,hW,hb,hk,hle⟩;rw [rjoinsb2];unfold zMd bF iV lF nF xF;simp (disch:=omega) only [SS,seval];refine ⟨fun hlt=>?_,fun hge=>?_⟩
 ·obtain ⟨u,hu⟩:=zj hlt;refine rj3_c (s:=s) (J.keep (hk.mono hB)) hgl hdr hp h1 hd2 (by omega) hF hFl (hf.keep hk hle) hu fun h2 n2 hk2 hle2=>?_;obtain ⟨b,sp,ro,hbx,rfl,hg⟩:=zLN hf hu;have hg2:=(hk2 b (by omega)).trans ((hk b hbx).trans hg);have hfl:=List.length_filter_le (lsR gs (numD ds N) d F) (F.take i);rw [List.length_take] at hfl;cases hls:lsR gs (numD ds N) d F u with
  | true =>
   simp (disch:=omega) only [SS,hg2,zg (zBb hu),seval];refine zB2 ((hW.keep fun c hc=>hk2 c (hb c hc).2).gr.keep fun c hc=>by have:=hb c hc; rw [hold (by omega)]) (hnew _ _ _) (by rw [zAY]; omega) fun h5 hn5 hf5=>?_;simp (disch:=omega) only [SS,zZ (show i<1000000000000 by omega),seval];refine ⟨F.length-(i+1),by omega,i+1,_,some (n2+1),rfl,by omega,rfl,.inr ⟨n2+1,rfl,?_,?_⟩,fun c e=>by cases e; omega,fun c hc=>?_,by omega⟩
   ·rw [zDe hu,if_pos hls,zCO,List.length_append]; rfl
   ·rw [zT,hn5,zDe hu,if_pos hls,zCO]
   ·rw [hf5 c (by omega) (fun e=>by have:=hb c e; omega),hold (by omega),hk2 c (by omega)]; exact hk c hc
  | false =>
   simp (disch:=omega) only [SS,zZ (show i<1000000000000 by omega),seval];refine ⟨F.length-(i+1),by omega,i+1,o,bo,rfl,by omega,rfl,?_,fun c e=>by have:=hb c e; omega,hk.trans hk2 hle,by omega⟩;rw [zDe hu,if_neg (by rw [hls]; simp),List.append_nil];exact hW.keep fun c hc=>hk2 c (hb c hc).2
 ·have:i=F.length:=by omega
  subst this;rw [List.take_length] at hW;exact hE _ _ _ _ hW hb hk hle
def stay (gs:List GE) (l:List Nat) (u:Nat):Bool:=!decide (u∈l)&&!anyN (nb gs) l u
def R4J (pg pp d:Nat) (a6 vf vl:Value) (P:Nat→Bool) (F:List Nat) (n0:Nat) (h0:Hp) (m:Nat) (vs:List Value) (h':Hp) (nx':Nat):Prop :=
 ∃ (i:Nat) (o:Value) (bo:Option Nat),m=F.length-i∧i≤F.length∧vs=[.pointer (some ⟨pg,0,none⟩),.pointer (some ⟨pp,0,none⟩),a6,vf,.int .i64 (d:Int),vl,o,.int .i64 (i:Int)]∧Ow h' encI o (natI ((F.take i).filter P)) bo∧(∀ c,bo=some c→n0≤c∧c<nx')∧Keep n0 h0 h'∧n0≤nx'
theorem rj4_c {s:Bool} {B N d:Nat} {gs:List GE} {k src len:Int} {ds:List Int} {pg pp:Nat} {v vd:Value} {h:Hp} {nx:Nat} (J:JoinIn B N gs k src len ds pg pp v vd h) (hgl:gs.length≤60) (hB:B≤nx)
  {F l:List Nat} (hFl:F.length≤63) (hll:l.length≤63) {al:Option Addr} {cl:Nat} (hf:SlRd h nx (.slice al F.length cl) encI (natI F)) {vl:Value} (hvl:SlRd h nx vl encI (natI l)) {a6:Value} {E:KVl}
  (hE:∀ o bo h' nx',Ow h' encI o (natI (F.filter (stay gs l))) bo→(∀ c,bo=some c→nx≤c∧c<nx')→Keep nx h h'→nx≤nx'→E [.pointer (some ⟨pg,0,none⟩),.pointer (some ⟨pp,0,none⟩),a6,.slice al F.length cl,.int .i64 (d:Int),vl,o,.int .i64 (F.length:Int)] h' nx') :
  Lp (fL Q O s zBH 31 4) [.pointer (some ⟨pg,0,none⟩),.pointer (some ⟨pp,0,none⟩),a6,.slice al F.length cl,.int .i64 (d:Int),vl,.slice none 0 0,.int .i64 0] h nx [(8,E)] (fun _ _ _=>False):=by
 obtain ⟨av,cv,rfl,_⟩:=id J.v;refine Lp.mk (R4J pg pp d a6 (.slice al F.length cl) vl (stay gs l) F nx h) F.length ⟨0,_,none,rfl,by omega,rfl,.nil,fun c e=>(by cases e),Keep.refl _ _,Nat.le_refl _⟩ ?_;rintro _ _ h' nx' ⟨i,o,bo,rfl,hi,rfl,hW,hb,hk,hle⟩;rw [rjoinsb4];unfold zMb bF dF iV lA lF nF xF;simp (disch:=omega) only [SS,seval];refine ⟨fun hlt=>?_,fun hge=>?_⟩
 ·obtain ⟨u,hu⟩:=zj hlt;obtain ⟨b,sp,ro,hbx,rfl,hg⟩:=zLN hf hu;have hg1:=(hk b hbx).trans hg;have J1:=J.keep (hk.mono hB);have hfl:=List.length_filter_le (stay gs l) (F.take i);rw [List.length_take] at hfl;have hdm:decide ((u:Int)∈natI l)=decide (u∈l):=by
   congr 1
   apply propext;unfold natI;rw [List.mem_map];exact ⟨fun ⟨y,h1,h2⟩=>(show y=u by omega) ▸ h1,fun h=>⟨u,h,rfl⟩⟩
  have skip:∀ {h2:Hp} {n2:Nat},stay gs l u=false→Keep nx' h' h2→nx'≤n2→∃ m',m'<F.length-i∧R4J pg pp d a6 (.slice (some ⟨b,0,sp⟩) F.length cl) vl (stay gs l) F nx h m' [.pointer (some ⟨pg,0,none⟩),.pointer (some ⟨pp,0,none⟩),a6,.slice (some ⟨b,0,sp⟩) F.length cl,.int .i64 (d:Int),vl,o,.int .i64 ((i+1:Nat):Int)] h2 n2:=fun {h2 n2} hs hk2 hle2 =>
   ⟨F.length-(i+1),by omega,i+1,o,bo,rfl,by omega,rfl,by
    rw [zDe hu,if_neg (by rw [hs]; simp),List.append_nil];exact hW.keep fun c hc=>hk2 c (hb c hc).2,fun c e=>by have:=hb c e; omega,hk.trans hk2 hle,by omega⟩
  simp (disch:=omega) only [SS,hg1,zg (zBb hu),seval];refine (rin_c (s:=true) (hvl.keep hk hle) (by rw [zAY]; omega)).mono ?_;rintro r h2 n2 ⟨rfl,e1,e2⟩;rw [e1,e2,hdm];refine ⟨Nat.le_refl _,?_⟩;cases hin:decide (u∈l) with
  | true =>
   unfold zD5 bF iV;simp (disch:=omega) only [SS,zZ (show i<1000000000000 by omega),seval];exact skip (by unfold stay; rw [hin]; rfl) (Keep.refl _ _) (Nat.le_refl _)
  | false =>
   simp (disch:=omega) only [SS,J1.g,hg1,zg (zBb hu),seval];refine (zG0 (s:=true) (J1.v.keep (Keep.refl _ _) (by omega)) (by omega) (hvl.keep hk hle) (by omega)).mono ?_;rintro r h3 n3 ⟨rfl,hk3,hle3⟩;refine ⟨hle3,?_⟩;cases hbs:anyN (nb gs) l u with
   | true =>
    unfold zD5 bF iV;simp (disch:=omega) only [SS,zZ (show i<1000000000000 by omega),seval];exact skip (by unfold stay; rw [hbs]; simp) hk3 hle3
   | false =>
    have hs:stay gs l u=true:=by unfold stay; rw [hin,hbs]; rfl
    have hg3:=(hk3 b (by omega)).trans hg1;simp (disch:=omega) only [SS,hg3,zg (zBb hu),seval];refine zB2 ((hW.keep fun c hc=>hk3 c (hb c hc).2).gr.keep fun c hc=>by have:=hb c hc; rw [hold (by omega)]) (hnew _ _ _) (by rw [zAY]; omega) fun h5 hn5 hf5=>?_;unfold zD5 bF iV;simp (disch:=omega) only [SS,zZ (show i<1000000000000 by omega),seval];refine ⟨F.length-(i+1),by omega,i+1,_,some (n3+1),rfl,by omega,rfl,.inr ⟨n3+1,rfl,?_,?_⟩,fun c e=>by cases e; omega,fun c hc=>?_,by omega⟩
    ·rw [zDe hu,if_pos hs,zCO,List.length_append]; rfl
    ·rw [zT,hn5,zDe hu,if_pos hs,zCO]
    ·rw [hf5 c (by omega) (fun e=>by have:=hb c e; omega),hold (by omega),hk3 c (by omega)]; exact hk c hc
 ·have:i=F.length:=by omega
  subst this;rw [List.take_length] at hW;exact hE _ _ _ _ hW hb hk hle
theorem zQO {s:Bool} {N:Nat} {v:Value} {src R C:Int} {h:Hp} {nx:Nat} (hN:N≤4096) (hv:∃ a n c,v = .slice a n c) :
  Cv Q O s 106 [.agg ⟨[.int .i64 (N:Int),v]⟩,.int .i64 src,.int .i64 R,.int .i64 C] h nx (EqK (.agg ⟨stpL 1 N src 0 (.slice none 0 0) N v R C 4 ((N:Int)+1) (.slice none 0 0)⟩) nx h):=by
 refine rhsetupv ?_;obtain ⟨a,n,c,rfl⟩:=hv;unfold zQP aF bF iV lA lF nC nS pC;have w1:IntKind.wrap .i64 ((N:Int)+1)=(N:Int)+1:=zB4 (by omega) (by omega);have K0:∀ {o o' o''},Keep nx h (hset (hset (hset h nx o) (nx+1) o') (nx+1) o''):=(((Keep.refl _ _).set (Nat.le_refl _)).set (Nat.le_succ _)).set (by omega);simp (disch:=omega) only [SS,show min (N:Int) 8191=N by omega,w1,show max (0:Int) ((N:Int)+1)=(N:Int)+1 by omega,zNa,seval];exact ⟨rfl,K0,by omega⟩
theorem zJX {s:Bool} {N:Nat} {v vd:Value} {R C:Int} {h:Hp} {nx:Nat} (h0:1≤N) (hN:N<4096) (hv:∃ a n c,v = .slice a n c) (hd:∃ a n c,vd = .slice a n c) :
  Cv Q O s 33 [.agg ⟨[.int .i64 (N:Int),v]⟩,vd,.int .i64 R,.int .i64 C] h nx (EqK (.agg ⟨stpL 5 N 0 0 vd N v R C 4 (2*(N:Int)) (.slice none 0 0)⟩) nx h):=by
 refine risetupv ?_;obtain ⟨a,n,c,rfl⟩:=id hv;obtain ⟨ad,nd,cd,rfl⟩:=id hd;unfold zQD aF bF cF iV lA lF nC nS pC;simp (disch:=omega) only [SS,seval];have K0:∀ {o o'},Keep nx h (hset (hset h nx o) (nx+1) o'):=((Keep.refl _ _).set (Nat.le_refl _)).set (Nat.le_succ _);refine (zQO (by omega) hv).mono ?_;rintro r h1 n1 ⟨rfl,hk1,hle1⟩;unfold stpL;have g0:=hk1 nx (by omega);rw [hold (by omega),hnew] at g0;have g1:=hk1 (nx+1) (by omega);rw [hnew] at g1;have K1:Keep nx h h1:=K0.trans hk1 (by omega);have w1:IntKind.wrap .i64 (2*(N:Int))=2*(N:Int):=zB4 (by omega) (by omega);simp (disch:=omega) only [SS,g0,g1,show (0:Int)<(N:Int) by omega,show (N:Int)<4096 by omega,zCA,w1,seval];unfold zE2 lA;simp (disch:=omega) only [SS,g0,g1,seval];refine ⟨⟨⟨rfl,fun c hc=>?_,by omega⟩,fun h=>absurd trivial h⟩,fun h=>absurd trivial h⟩;simp only [hold (show c≠n1 by omega),hold (show c≠nx+1 by omega)];exact K1 c hc
theorem lsR_lst {gs:List GE} {num:Nat→Nat→Int} {N d:Nat} {q:Nat→Bool} (v:Nat):lsR gs num d (fl N q) v=lst gs num N d q v:=by
 apply Bool.eq_iff_iff.2;unfold lsR lst;rw [List.all_eq_true,List.all_eq_true];constructor
 ·intro H u hu;obtain ⟨h1,h2⟩:=mem_fl.1 hu;rw [Bool.and_eq_true] at h2;have:=H u (mem_fl.2 ⟨h1,h2.2⟩);rw [h2.1,Bool.true_and] at this;exact this
 ·intro H u hu;obtain ⟨h1,h2⟩:=mem_fl.1 hu;cases hb:nb gs v u with
  | false=>rfl
  | true =>
   have:=H u (mem_fl.2 ⟨h1,by rw [hb,h2]; rfl⟩);rw [Bool.true_and]; exact this
theorem stay_nxt {gs:List GE} {num:Nat→Nat→Int} {N d:Nat} {q:Nat→Bool}:(fl N q).filter (stay gs (jn gs num N d q))=fl N (nxt gs num N d q):=by
 unfold fl;rw [List.filter_filter];apply List.filter_congr;intro v _;unfold stay nxt inB' anyN;cases q v <;> simp
def RJ0 (pg pp N:Nat) (n0:Nat) (h0:Hp) (m:Nat) (vs:List Value) (h':Hp) (nx':Nat):Prop :=
 ∃ (j:Nat) (o:Value) (bo:Option Nat),m=N-j∧j≤N∧vs=[.pointer (some ⟨pg,0,none⟩),.pointer (some ⟨pp,0,none⟩),.slice none 0 0,o,.int .i64 (j:Int)]∧Ow h' encI o (natI (List.range j)) bo∧(∀ c,bo=some c→n0≤c∧c<nx')∧Keep n0 h0 h'∧n0≤nx'
structure RJ1J (gs:List GE) (num:Nat→Nat→Int) (N pg pp lo:Nat) (h0:Hp) (m:Nat) (vs:List Value) (h':Hp) (nx':Nat) (d r:Nat) (q:Nat→Bool) (done:List (List Nat)) (fo:Value) (fb:Option Nat) (svs:List Sv) (o:Value) (bo:Option Nat):Prop where
 hm:m=(fl N q).length
 hr:(fl N q).length≤r
 hdr:d+r=N
 hvs:vs=[.pointer (some ⟨pg,0,none⟩),.pointer (some ⟨pp,0,none⟩),o,fo,.int .i64 (d:Int)]
 hf:Ow h' encI fo (natI (fl N q)) fb
 hfb:∀ c,fb=some c→lo≤c∧c<nx'
 hv:Vs h' lo nx' svs (asL done) o bo
 hdone:done++jsM gs num N r d q=jsM gs num N N 0 (fun _=>true)
 hk:Keep lo h0 h'
 hle:lo≤nx'
def RJ1 (gs:List GE) (num:Nat→Nat→Int) (N pg pp lo:Nat) (h0:Hp) (m:Nat) (vs:List Value) (h':Hp) (nx':Nat):Prop :=
 ∃ d r q done fo fb svs o bo,RJ1J gs num N pg pp lo h0 m vs h' nx' d r q done fo fb svs o bo
theorem zRL {gs:List GE} {num:Nat→Nat→Int} {N:Nat}:∀ (r d:Nat) (q:Nat→Bool),(jsM gs num N r d q).length≤r
 | 0,d,q=>Nat.le_refl _
 | r+1,d,q=>by
  rw [jsM]
  split
  ·simp
  ·have:=zRL (gs:=gs) (num:=num) (N:=N) r (d+1) (nxt gs num N d q);rw [List.length_cons]; omega
theorem fl_all (N:Nat):fl N (fun _=>true)=List.range N:=by unfold fl; rw [List.filter_eq_self]; exact fun _ _=>rfl
theorem rjoins_c {s:Bool} {N:Nat} {gs:List GE} {ds:List Int} {v vd:Value} {h:Hp} {nx:Nat} (h0:1≤N) (h1:N≤63) (hdl:ds.length≤1000) (hl:gs.length≤60) (hok:∀ g∈gs,GOk N g) (hv:SlPx h nx v encG gs) (hd:SlRd h nx vd encI ds) :
  Cv Q O s 31 [.agg ⟨[.int .i64 (N:Int),v]⟩,vd] h nx (fun r h' nx'=>LLs h' nx' r (JL N gs ds)∧Keep nx h h'∧nx≤nx'):=by
 refine rjoinsv ?_;obtain ⟨a,cap,rfl,hc⟩:=id hv;obtain ⟨ad,cd,rfl,_⟩:=id hd;unfold rjoins bF cF iV lA nC nS pC;simp (disch:=omega) only [SS,seval];have K0:∀ {o},Keep nx h (hset h nx o):=(Keep.refl _ _).set (Nat.le_refl _);refine (zJX h0 (by omega) ⟨_,_,_,rfl⟩ ⟨_,_,_,rfl⟩).mono ?_;rintro r h2 n2 ⟨rfl,hk2,hle2⟩;have K2:Keep nx h h2:=K0.trans hk2 (by omega);have g2:=hk2 nx (by omega);rw [hnew] at g2;unfold stpL;simp (disch:=omega) only [SS,g2,seval];have K3:∀ {o o'},Keep n2 h2 (hset (hset h2 n2 o) n2 o'):=((Keep.refl _ _).set (Nat.le_refl _)).set (Nat.le_refl _);have K3':∀ {o o'},Keep nx h (hset (hset h2 n2 o) n2 o'):=K2.trans K3 (by omega);have hv3:∀ {o o'},SlPx (hset (hset h2 n2 o) n2 o') (n2+1) (.slice a gs.length cap) enc3 (gs.map frG0):=fun {o o'}=>(zMp hv).keep K3' (by omega);refine (zQB (es:=gs.map frG0) (hd.keep K3' (by omega)) hv3 (by rw [List.length_map]; omega)).mono ?_;rintro r h4 n4 ⟨m,rfl,hm,hk4,hle4⟩;obtain ⟨mx,my,ma1,ma2,ma3,mn1,mn2,mn3,mc1,mc2,mc3,rfl⟩:=hm.form;unfold zMJ;have gx4:=hk4 nx (by omega);rw [hold (by omega),hold (by omega),g2] at gx4;have gp4:=hk4 n2 (by omega);rw [hnew] at gp4;have K4:Keep nx h h4:=K3'.trans hk4 (by omega)
 by_cases hbad:ds.any badD=true
 ·rw [matE5b (by omega) hdl hbad];simp (disch:=omega) only [SS,gx4,gp4,seval];refine ⟨?_,(K4.set (by omega)).set (by omega),by omega⟩;unfold JL;rw [if_pos hbad];exact ⟨[],none,0,rfl,rfl,fun h=>absurd rfl h,fun i x l h=>by cases h⟩
 have hds:=zRt hdl hbad;rw [matE5 (by omega) hds hok hl];have hJL:JL N gs ds=jsM gs (numD ds N) N N 0 (fun _=>true):=if_neg hbad;have hinj:∀ d u v,u<N→v<N→numD ds N d u=numD ds N d v→u=v:=fun d u v hu hv e=>zI7 (by omega) (by omega) e;simp (disch:=omega) only [SS,gx4,gp4,seval];have K5:∀ {o o'},Keep nx h (hset (hset h4 n4 o) n4 o'):=(K4.set (by omega)).set (by omega);have J:∀ {o o'},JoinIn (n4+1) N gs 5 0 0 ds nx n2 (.slice a gs.length cap) (.slice ad ds.length cd) (hset (hset h4 n4 o) n4 o'):=fun {o o'}=>{
  g:=by rw [hold (by omega),hold (by omega)]; exact gx4
  p:=by rw [hold (by omega),hold (by omega)]; exact gp4
  v:=(hv.keep K5 (Nat.le_refl _)).keep (Keep.refl _ _) (by omega)
  d:=(hd.keep K5 (Nat.le_refl _)).keep (Keep.refl _ _) (by omega)
  hpg:=by omega
  hpp:=by omega }
 refine Lp.mk (RJ0 nx n2 N (n4+1) _) N ⟨0,_,none,rfl,by omega,rfl,.nil,fun c e=>(by cases e),Keep.refl _ _,Nat.le_refl _⟩ ?_;rintro _ _ h5 n5 ⟨j,o,bo,rfl,hj,rfl,hW,hb,hk5,hle5⟩;have J5:=J.keep hk5;rw [rjoinsb0];unfold zMf aF bF iV lF;simp (disch:=omega) only [SS,J5.g,seval];refine ⟨fun hlt=>?_,fun hge=>?_⟩
 ·refine zB2 (hW.gr.keep fun c hc=>by have:=hb c hc; rw [hold (by omega)]) (hnew _ _ _) (by rw [zAY,List.length_range]; omega) fun h6 hn6 hf6=>?_;simp (disch:=omega) only [SS,zZ (show j<1000000000000 by omega),seval];refine ⟨N-(j+1),by omega,j+1,_,some (n5+1),rfl,by omega,rfl,.inr ⟨n5+1,rfl,?_,?_⟩,fun c e=>by cases e; omega,fun c hc=>?_,by omega⟩
  ·rw [List.range_succ,zCO,List.length_append]; rfl
  ·rw [zT,hn6,List.range_succ,zCO]
  ·rw [hf6 c (by omega) (fun e=>by have:=hb c e; omega),hold (by omega)]; exact hk5 c hc
 have hjN:j=N:=by omega
 subst hjN;refine Lp.mk (RJ1 gs (numD ds j) j nx n2 (n4+1) _) (fl j (fun _=>true)).length ⟨0,j,fun _=>true,[],o,bo,[],_,none,⟨rfl,zDD _ _,by omega,rfl,by rw [fl_all]; exact hW,hb,Vs.nil,rfl,hk5,hle5⟩⟩ ?_;rintro m vs h6 n6 ⟨d,r,q,done,fo,fb,svs,o,bo,I⟩;obtain rfl:=I.hm;obtain rfl:=I.hvs;have J6:=J.keep I.hk;rw [rjoinsb1];unfold zMe bF iV nF nS;have hnl:=zAY (fl j q);have hfl:=zDD j q;have hfr:=(I.hf.nw I.hfb).rd;obtain ⟨al,cl,rfl⟩:=I.hf.form;rw [hnl] at hfr;rw [hnl]
 by_cases hq0:fl j q=[]
 ·have hz:(fl j q).length=0:=by rw [hq0]; rfl
  rw [hz];simp (disch:=omega) only [SS,show ((0:Nat):Int)=0 from rfl,seval];refine fun _=>⟨?_,fun c hc=>by rw [I.hk c (by omega)]; exact K5 c hc,by have:=I.hle; omega⟩
  have hd:=I.hdone;rw [zLS hq0,List.append_nil] at hd;rw [hJL,← hd];exact I.hv.lls
 ·have hpos:0<(fl j q).length:=List.length_pos_iff.2 hq0;obtain ⟨r0,rfl⟩:∃ r0,r=r0+1:=⟨r-1,by have:=I.hr; omega⟩
  have hdN:d≤1000:=by have:=I.hdr; omega
  simp (disch:=omega) only [SS,show (0:Int)<((fl j q).length:Int) by omega,seval];refine ⟨rj2_c (s:=s) J6 hl hds (zQ8 (by omega) hds) h1 hdN I.hle (fun x hx=>(mem_fl.1 hx).1) (by omega) hfr fun o2 b2 h7 n7 hW7 hb7 hk7 hle7=>?_,fun h=>absurd trivial h⟩;have e2:(fl j q).filter (lsR gs (numD ds j) d (fl j q))=jn gs (numD ds j) j d q:=by
   rw [← jn_eq];exact List.filter_congr fun v _=>lsR_lst v
  rw [e2] at hW7;have hjl:(jn gs (numD ds j) j d q).length≤63:=by
   have:=zDD j (fun v=>q v&&lst gs (numD ds j) j d q v);unfold jn; omega
  simp (disch:=omega) only [SS,seval];refine rj4_c (s:=s) (J6.keep (hk7.mono I.hle)) hl (by have:=I.hle; omega) (by omega) hjl (hfr.keep hk7 hle7) (hW7.nw hb7).rd fun o3 b3 h8 n8 hW8 hb8 hk8 hle8=>?_;rw [stay_nxt] at hW8;have hW78:Ow h8 encI o2 (natI (jn gs (numD ds j) j d q)) b2:=hW7.keep fun c hc=>hk8 c (hb7 c hc).2;obtain ⟨a2,c2,rfl⟩:=hW78.form;have hf68:∀ c,c<n6→hget h8 c=hget h6 c:=fun c hc=>by rw [hk8 c (by omega),hk7 c hc]
  have V8:=I.hv.keep (h':=h8) (hi':=n8) (fun c h1 h2=>hf68 c h2) (by omega);have hdl2:done.length≤j:=by
   have h2:=congrArg List.length I.hdone;rw [List.length_append] at h2;have:=zRL (gs:=gs) (num:=numD ds j) (N:=j) j 0 (fun _=>true);omega
  have hsvl:svs.length=done.length:=by rw [I.hv.len]; unfold asL; rw [List.length_map]
  obtain ⟨a6,c6,rfl⟩:=I.hv.g.form;have hnj:=zAY (jn gs (numD ds j) j d q);simp (disch:=omega) only [SS,seval];refine zML (enc:=encS) (k:=1) (l:=svs) (o:=bo) (fun _=>rfl) (fun _=>rfl) (by omega) (V8.g.gr.keep fun c hc=>by have:=I.hv.b c hc; rw [hold (by omega)]) ⟨a2,(natI (jn gs (numD ds j) j d q)).length,c2⟩ (hnew _ _ _) rfl (by omega) fun h9 hn9 hf9=>?_;simp (disch:=omega) only [SS,zZ (show d<1000000000000 by omega),seval];refine ⟨_,zJg (gs:=gs) (num:=numD ds j) (d:=d) (hinj d) hq0,d+1,r0,nxt gs (numD ds j) j d q,done++[jn gs (numD ds j) j d q],o3,b3,svs++[⟨a2,(natI (jn gs (numD ds j) j d q)).length,c2⟩],_,some (n8+1),⟨rfl,?_,by have:=I.hdr; omega,rfl,?_,fun c e=>by have:=hb8 c e; have:=I.hle; omega,?_,?_,fun c hc=>?_,by have:=I.hle; omega⟩⟩
  ·have:=zJg (gs:=gs) (num:=numD ds j) (d:=d) (hinj d) hq0;have:=I.hr;omega
  ·refine hW8.keep fun c hc=>?_;have:=hb8 c hc;rw [hf9 c (by omega) (fun e=>by have:=(I.hv.b c e).2; omega),hold (by omega)]
  ·unfold asL;rw [List.map_append];have V8':Vs (hset h8 n8 (.cells [.slice a2 (natI (jn gs (numD ds j) j d q)).length c2] false)) (n4+1) (n8+1) svs (asL done) _ bo:=V8.keep (fun c h1 h2=>hold (by omega)) (Nat.le_succ _);refine V8'.add ?_ (Nat.le_refl _) (by have:=I.hle; omega) (Nat.lt_succ_self _) (.inr ⟨n8+1,rfl,by rw [List.length_append]; rfl,hn9⟩) (fun c h1 h2 _=>hf9 c (by omega) h2);show SvIs _ _ _ _ _ (ints (natI (jn gs (numD ds j) j d q)));rcases hW78 with ⟨e1,e2,e3⟩ | ⟨b,rfl,e2,hg⟩
   ·injection e2 with x1 x2 x3
    rw [e1,x1,x3];exact .inl ⟨rfl,rfl⟩
   ·cases e2;have hb1:=(hb7 b rfl).1;have hb2:=(hb7 b rfl).2;refine .inr ⟨b,some 1,rfl,by rw [zCS],by have:=I.hle; omega,by omega,fun e=>?_,by rw [← zT,hold (by omega)]; exact hg⟩;have:=(I.hv.b b e).2;omega
  ·have hd:=I.hdone;rw [zIc hq0] at hd;rw [List.append_assoc];exact hd
  ·rw [hf9 c (by have:=I.hle; omega) (fun e=>by have:=(I.hv.b c e).1; omega),hold (by have:=I.hle; omega),hf68 c (by have:=I.hle; omega)];exact I.hk c hc
def frs (gs:List GE):Nat→List Nat
 | 0=>[]
 | k+1=>frs gs k++(if anyN (nb gs) (frs gs k) k=true then [] else [k])
theorem zRe (gs:List GE):∀ k,∀ x∈frs gs k,x<k
 | 0,x,h=>by cases h
 | k+1,x,h=>by
  rw [frs] at h;rcases List.mem_append.1 h with h | h
  ·have:=zRe gs k x h; omega
  ·split at h
   ·cases h
   ·rw [List.mem_singleton.1 h]; omega
theorem zL7 (gs:List GE):∀ k,(frs gs k).length≤k
 | 0=>Nat.le_refl _
 | k+1=>by
  have:=zL7 gs k;rw [frs,List.length_append]
  split <;> simp <;> omega
theorem fl_frs (gs:List GE):∀ k,fl k (inL (frs gs k))=frs gs k
 | 0=>rfl
 | k+1=>by
  have ih:=fl_frs gs k;have hk:¬ k∈frs gs k:=fun h=>by have:=zRe gs k k h; omega
  rw [zLa,frs];have e:fl k (inL (frs gs k++if anyN (nb gs) (frs gs k) k=true then [] else [k]))=fl k (inL (frs gs k)):=by
   unfold fl;apply List.filter_congr;intro v hv;have hv:=List.mem_range.1 hv;unfold inL
   congr 1
   apply propext;rw [List.mem_append];refine ⟨fun h=>h.elim id fun h=>?_,.inl⟩
   split at h
   ·cases h
   ·rw [List.mem_singleton.1 h] at hv; omega
  rw [e,ih];unfold inL
  by_cases ha:anyN (nb gs) (frs gs k) k=true
  ·rw [if_pos ha,if_neg (by simpa using hk),List.append_nil]
  ·rw [if_neg ha,if_pos (by simp)]
theorem inL_app (l:List Nat) (k i:Nat):inL (l++[k]) i=(inL l i||decide (i=k)):=by
 unfold inL; rw [← Bool.decide_or]; congr 1; simp
def IfJ (N:Nat) (vb:Value) (gs:List GE) (n0:Nat) (h0:Hp) (m:Nat) (vs:List Value) (h':Hp) (nx':Nat):Prop :=
 ∃ (k:Nat) (o:Value),m=N-k∧k≤N∧vs=[vb,o,.int .i64 (N:Int),.int .i64 (k:Int)]∧SetK (mk N (inL (frs gs k))) n0 h0 o h' nx'
theorem ifirst_c {s:Bool} {N:Nat} {gs:List GE} {v:Value} {h:Hp} {nx:Nat} (h0:1≤N) (h1:N≤63) (hl:gs.length≤60) (hok:∀ g∈gs,GOk N g) (hv:SlPx h nx v encG gs) :
  Cv Q O s 38 [.agg ⟨[.int .i64 (N:Int),v]⟩] h nx (fun r h' nx'=>SlRd h' nx' r encI (natI (frs gs N))∧Keep nx h h'∧nx≤nx'):=by
 refine ifirstv ?_;obtain ⟨a,cap,rfl,hc⟩:=id hv;unfold ifirst aF bF cF iV lA lF nS pC;simp (disch:=omega) only [SS,seval];have K0:∀ {o},Keep nx h (hset h nx o):=(Keep.refl _ _).set (Nat.le_refl _);refine (zI0 (hv.keep K0 (by omega)) (by omega) hok (by omega)).mono ?_;rintro r h2 n2 ⟨rfl,hk2,hle2⟩;have K2:Keep nx h h2:=K0.trans hk2 (by omega);have g2:=hk2 nx (by omega);rw [hnew] at g2;simp (disch:=omega) only [SS,g2,seval];refine (zQw (hv.keep K2 (by omega)) h0 h1 hl hok).mono ?_;rintro vb h3 n3 ⟨hby,hk3,hle3⟩;have g3:=(hk3 nx (by omega)).trans g2;obtain ⟨bb,bsp,bc,bro,os,rfl,hb0,hb1,hb2,hb3,hb4⟩:=id hby;have K3:=K2.trans hk3 (by omega);simp (disch:=omega) only [SS,g3,seval];refine (zRi h0 (by omega)).mono ?_;intro r h4 n4 hr4;obtain ⟨b4,c4,sp4,rfl,_,_,_,hk4,hle4⟩:=id hr4;have g4:=(hk4 nx (by omega)).trans g3;have K4:=K3.trans hk4 (by omega);simp (disch:=omega) only [SS,g4,seval];refine Lp.mk (IfJ N (.slice (some ⟨bb,0,bsp⟩) N bc) gs n3 h3) N ⟨0,_,by omega,by omega,rfl,by rw [show mk N (inL (frs gs 0))=0 from zI8 N]; exact hr4⟩ ?_;rintro _ _ h5 n5 ⟨k,o,rfl,hk,rfl,hS⟩;have hk5:Keep n3 h3 h5:=by obtain ⟨_,_,_,_,_,_,_,e,_⟩:=hS; exact e
 have hle5:n3≤n5:=by obtain ⟨_,_,_,_,_,_,_,_,e⟩:=hS; exact e
 rw [ifirstb0];unfold zNP bF cF iV lF xF;have hSr:=hS.rd;obtain ⟨bS,cS,spS,rfl,_⟩:=id hS;simp (disch:=omega) only [SS,seval];refine ⟨fun hlt=>?_,fun hge=>?_⟩
 ·obtain ⟨ox,hox,hsx⟩:=hb4 k hlt;simp (disch:=omega) only [SS,(hk5 bb hb1).trans hb2,hox,seval];refine (zLe (p:=nb gs k) (q:=inL (frs gs k)) (by omega) (hsx.rd.keep hk5 hle5) hSr).mono ?_;intro r6 h6 n6 hr6;obtain ⟨b6,c6,sp6,rfl,hb61,hb62,hg6,hk6,hle6⟩:=id hr6;refine (zGD h1 hr6.rd).mono ?_;rintro r' h7 n7 ⟨rfl,e1,e2⟩;rw [e1,e2];have hcnt:(fl N (fun i=>nb gs k i&&inL (frs gs k) i)).length=0↔anyN (nb gs) (frs gs k) k=false:=by
   rw [fl_none];unfold anyN;rw [List.any_eq_false];constructor
   ·intro H x hx;have:=zRe gs k x hx;have:=H x (by omega);unfold inL at this;rw [decide_eq_true hx,Bool.and_true,zQy] at this;rw [this]; simp
   ·intro H v hv
    by_cases hm:v∈frs gs k
    ·have:=H v hm;rw [zQy] at this;simp only [Bool.not_eq_true] at this;rw [this]; rfl
    ·unfold inL;rw [decide_eq_false hm,Bool.and_false]
  by_cases ha:anyN (nb gs) (frs gs k) k=true
  ·have hz:¬ (fl N (fun i=>nb gs k i&&inL (frs gs k) i)).length=0:=fun h=>by rw [hcnt.1 h] at ha; cases ha
   have hz':(((fl N (fun i=>nb gs k i&&inL (frs gs k) i)).length:Int) == 0)=false:=by rw [beq_eq_false_iff_ne]; omega
   simp (disch:=omega) only [SS,hz',zZ (show k<1000000000000 by omega),seval];refine ⟨N-(k+1),by omega,k+1,_,rfl,by omega,rfl,?_⟩;rw [frs,if_pos ha,List.append_nil];obtain ⟨b',c',sp',e,x1,x2,x3,x4,x5⟩:=hS;cases e;exact ⟨_,_,_,rfl,x1,by omega,(hk6 _ x2).trans x3,x4.trans hk6 x5,by omega⟩
  ·have hz:=hcnt.2 (by simpa using ha);rw [hz];simp (disch:=omega) only [SS,show ((0:Nat):Int)=0 from rfl,seval];refine (fput_c (p:=inL (frs gs k)) (by omega) hlt (hSr.keep hk6 hle6)).mono ?_;intro r8 h8 n8 hr8;obtain ⟨b8,c8,sp8,rfl,x1,x2,x3,x4,x5⟩:=id hr8;simp (disch:=omega) only [SS,zZ (show k<1000000000000 by omega),seval];refine ⟨N-(k+1),by omega,k+1,_,rfl,by omega,rfl,?_⟩;rw [frs,if_neg ha];have:mk N (inL (frs gs k++[k]))=mk N (fun i=>inL (frs gs k) i||decide (i=k)):=zGj fun i _=>inL_app _ _ _;rw [this];exact ⟨_,_,_,rfl,by omega,x2,x3,(hk5.trans hk6 hle5).trans x4 (by omega),by omega⟩
 ·have:k=N:=by omega
  subst this;refine (zL8 h1 hSr).mono ?_;rintro r h6 n6 ⟨bo,hW,hb,hk6,hle6⟩;rw [fl_frs] at hW;exact ⟨(hW.nw hb).rd,(K3.trans hk5 (by omega)).trans hk6 (by omega),by omega⟩
def RfJ (N:Nat) (v:Value) (gs:List GE) (nx:Nat) (h:Hp) (m:Nat) (vs:List Value) (h':Hp) (nx':Nat):Prop :=
 ∃ (k:Nat) (o:Value) (bo:Option Nat),m=N-k∧k≤N∧vs=[.pointer (some ⟨nx,0,none⟩),o,.int .i64 (k:Int)]∧hget h' nx=some (.cells [.int .i64 (N:Int),v] false)∧Ow h' encI o (natI (frs gs k)) bo∧(∀ c,bo=some c→nx+1≤c∧c<nx')∧Keep nx h h'∧nx+1≤nx'
theorem zQI {s:Bool} {N:Nat} {gs:List GE} {v:Value} {h:Hp} {nx:Nat} (h1:N≤63) (hl:gs.length≤60) (hok:∀ g∈gs,GOk N g) (hv:SlPx h nx v encG gs) :
  Cv Q O s 39 [.agg ⟨[.int .i64 (N:Int),v]⟩] h nx (fun r h' nx'=>SlRd h' nx' r encI (natI (frs gs N))∧Keep nx h h'∧nx≤nx'):=by
 refine rifirstv ?_;obtain ⟨a,cap,rfl,hc⟩:=id hv;unfold zQJ bF cF iV lA nS pC;simp (disch:=omega) only [SS,seval];have K0:∀ {o},Keep nx h (hset h nx o):=(Keep.refl _ _).set (Nat.le_refl _);refine (zGV (hv.keep K0 (by omega)) (by omega) hok (by omega)).mono ?_;rintro r h2 n2 ⟨rfl,hk2,hle2⟩;have K2:Keep nx h h2:=K0.trans hk2 (by omega);have g2:=hk2 nx (by omega);rw [hnew] at g2;simp (disch:=omega) only [SS,seval];refine Lp.mk (RfJ N (.slice a gs.length cap) gs nx h) N ⟨0,_,none,by omega,by omega,rfl,g2,.nil,fun c e=>(by cases e),K2,by omega⟩ ?_;rintro _ _ h5 n5 ⟨k,o,bo,rfl,hk,rfl,g5,hW,hb,hk5,hle5⟩;rw [zQH];unfold zJY aF bF cF iV lA lF;have hfl:=zL7 gs k;obtain ⟨ao,co,rfl⟩:=hW.form;simp (disch:=omega) only [SS,g5,seval];refine ⟨fun hlt=>?_,fun hge=>?_⟩
 ·refine (zG0 (hv.keep hk5 (by omega)) (by omega) (hW.nw hb).rd (by omega)).mono ?_;rintro r h6 n6 ⟨rfl,hk6,hle6⟩;have g6:=(hk6 nx (by omega)).trans g5;have hW6:=hW.keep fun c hc=>hk6 c (hb c hc).2;cases ha:anyN (nb gs) (frs gs k) k with
  | true =>
   simp (disch:=omega) only [SS,zZ (show k<1000000000000 by omega),seval];exact ⟨N-(k+1),by omega,k+1,_,bo,rfl,by omega,rfl,g6,by rw [frs,if_pos ha,List.append_nil]; exact hW6,fun c e=>by have:=hb c e; omega,hk5.trans hk6 (by omega),by omega⟩
  | false =>
   simp (disch:=omega) only [SS,seval];refine zB2 (hW6.gr.keep fun c hc=>by have:=hb c hc; rw [hold (by omega)]) (hnew _ _ _) (by rw [zAY]; omega) fun h7 hn7 hf7=>?_;simp (disch:=omega) only [SS,zZ (show k<1000000000000 by omega),seval];have e:frs gs (k+1)=frs gs k++[k]:=by rw [frs,if_neg (by rw [ha]; simp)]
   refine ⟨N-(k+1),by omega,k+1,_,some (n6+1),rfl,by omega,rfl,?_,.inr ⟨n6+1,rfl,?_,?_⟩,fun c e=>by cases e; omega,fun c hc=>?_,by omega⟩
   ·rw [hf7 nx (by omega) (fun e=>by have:=hb _ e; omega),hold (by omega)]; exact g6
   ·rw [e,zCO,List.length_append]; rfl
   ·rw [zT,hn7,e,zCO]
   ·rw [hf7 c (by omega) (fun e=>by have:=hb c e; omega),hold (by omega),hk6 c (by omega)]; exact hk5 c hc
 ·have:k=N:=by omega
  subst this;exact ⟨(hW.nw hb).rd,hk5,by omega⟩
theorem zNn {a b:Bool}:bin Q .eql 4 (.bool a) (.bool b) = .ok (.bool (a == b)):=by
 have t4:zCt Tryz.prog 4=true:=by kernel_rfl
 show R.of "compared" (bif zCt Tryz.prog 4 then eqlB a (.bool b) else none) (fun b=>zCF b)=_;rw [t4]; cases a <;> cases b <;> rfl
theorem bin_bne4 {a b:Bool}:bin Q .neq 4 (.bool a) (.bool b) = .ok (.bool (!(a == b))):=by
 have t4:zCt Tryz.prog 4=true:=by kernel_rfl
 show R.of "compared" (bif zCt Tryz.prog 4 then eqlB a (.bool b) else none) (fun b=>zCF (!b))=_;rw [t4]; cases a <;> cases b <;> rfl
def RcJ0 (p:Nat) (v:Value) (N:Nat) (l:List Int) (h6:Hp) (n7:Nat) (m:Nat) (vs:List Value) (h':Hp) (nx':Nat):Prop :=
 ∃ i,m=l.length-i∧i≤l.length∧vs=[v,.pointer (some ⟨p,0,none⟩),.bool false,.int .i64 (i:Int)]∧h'=h6∧nx'=n7∧∀ j,j<i→OkAt N l j
def RcJ1 (N nx:Nat) (vg vl:Value) (gs:List GE) (l:List Nat) (h:Hp) (m:Nat) (vs:List Value) (h':Hp) (nx':Nat):Prop :=
 ∃ u,m=N-u∧u≤N∧vs=[vl,.pointer (some ⟨nx,0,none⟩),.bool false,.int .i64 (u:Int)]∧hget h' nx=some (.cells [.int .i64 (N:Int),vg] false)∧Keep nx h h'∧nx+1≤nx'∧∀ w,w<u→¬ decide ((w:Int)∈natI l)=anyN (nb gs) l w
theorem zQM {s:Bool} {N:Nat} {gs:List GE} {l:List Int} {v vl:Value} {h:Hp} {nx:Nat} (h1:N≤63) (hl:gs.length≤60) (hok:∀ g∈gs,GOk N g) (hv:SlPx h nx v encG gs) (hvl:SlRd h nx vl encI l) (hll:l.length≤1000) :
  Cv Q O s 35 [.agg ⟨[.int .i64 (N:Int),v]⟩,vl] h nx (ChkK N gs l nx h):=by
 refine richeckv ?_;obtain ⟨a,cap,rfl,hc⟩:=id hv;obtain ⟨al,cl,rfl,hcl⟩:=id hvl;unfold zQN bF cF iV lA pC;simp (disch:=omega) only [SS,seval];have K0:∀ {o},Keep nx h (hset h nx o):=(Keep.refl _ _).set (Nat.le_refl _);refine (zGV (hv.keep K0 (by omega)) (by omega) hok (by omega)).mono ?_;rintro r h6 n7 ⟨rfl,hk6,hle6⟩;have K6:Keep nx h h6:=K0.trans hk6 (by omega);have g6:=hk6 nx (by omega);rw [hnew] at g6;simp (disch:=omega) only [SS,seval];refine Lp.mk (RcJ0 nx (.slice al l.length cl) N l h6 n7) l.length ⟨0,rfl,by omega,rfl,rfl,rfl,fun j hj=>absurd hj (by omega)⟩ ?_;rintro _ _ h' nx' ⟨i,rfl,hi,rfl,eh,en,hno⟩;rw [eh,en,zQL];unfold zJ0 aF bF iV lF nF xF;have bad:¬ (∀ j,OkAt N l j)→ChkK N gs l nx h (.bool false) h6 n7:=fun hb=>⟨false,rfl,⟨fun h=>(by cases h),fun h=>absurd h.1 hb⟩,K6,by omega⟩
 simp (disch:=omega) only [SS,seval];refine ⟨fun hlt=>?_,fun hge=>?_⟩
 ·obtain ⟨x,hx⟩:=zj hlt;obtain ⟨_,b,sp,ro,c1,hbn,e1,hg⟩:=hvl.at hx;cases e1;rw [zT] at hg;have hgb:=(K6 b hbn).trans hg;simp (disch:=omega) only [SS,hgb,zg hx,g6,seval];refine ⟨fun hx0=>bad fun H=>by have:=(H i x hx).1; omega,fun hx0=>⟨fun hxN=>bad fun H=>by have:=(H i x hx).2.1; omega,fun hxN=>?_⟩⟩;have next:OkAt N l i→∃ m',m'<l.length-i∧RcJ0 nx (.slice (some ⟨b,0,sp⟩) l.length cl) N l h6 n7 m' [.slice (some ⟨b,0,sp⟩) l.length cl,.pointer (some ⟨nx,0,none⟩),.bool false,.int .i64 ((i+1:Nat):Int)] h6 n7:=fun ho =>
   ⟨l.length-(i+1),by omega,i+1,rfl,by omega,rfl,rfl,rfl,fun j hj=>by
    by_cases e:j=i
    ·rw [e]; exact ho
    ·exact hno j (by omega)⟩
  by_cases hi0:i=0
  ·subst hi0;simp (disch:=omega) only [SS,show ((0:Nat):Int)=0 from rfl,seval];exact fun _=>next fun y hy=>by rw [hx] at hy; cases hy; exact ⟨by omega,by omega,fun h=>absurd h (by omega)⟩
  ·obtain ⟨y,hy⟩:=zj (l:=l) (i:=i-1) (by omega);have w1:IntKind.wrap .i64 ((i:Int)-1)=((i-1:Nat):Int):=by
    rw [show (i:Int)-1=((i-1:Nat):Int) by omega]; exact zB4 (by omega) (by omega)
   simp (disch:=omega) only [SS,show (0:Int)<(i:Int) by omega,w1,hgb,zg hy,zZ (show i<1000000000000 by omega),seval];refine ⟨⟨fun hyx=>bad fun H=>by have:=(H i x hx).2.2 (by omega) y hy; omega,fun hyx=>?_⟩,fun h=>absurd trivial h⟩;exact next fun z hz=>by rw [hx] at hz; cases hz; exact ⟨by omega,by omega,fun _ w hw=>by rw [hy] at hw; cases hw; omega⟩
 have hall:∀ j,OkAt N l j:=fun j x hx=>by
  have:=(List.getElem?_eq_some_iff.1 hx).1;exact hno j (by omega) x hx
 have hmem:∀ x∈l,0≤x∧x<(N:Int):=fun x hx=>by
  obtain ⟨j,hj⟩:=List.getElem?_of_mem hx;exact ⟨(hall j x hj).1,(hall j x hj).2.1⟩
 obtain ⟨l',hl'⟩:∃ l':List Nat,natI l'=l:=⟨l.map Int.toNat,by
  unfold natI;rw [List.map_map]
  conv=>rhs; rw [← List.map_id l]
  exact List.map_congr_left fun x hx=>by have:=hmem x hx; show ((x.toNat:Nat):Int)=x; omega⟩
 subst hl';have hany:∀ v:Nat,anyN (nb gs) l' v=true↔∃ x∈natI l',nb gs x.toNat v=true:=fun v=>by
  unfold anyN;rw [List.any_eq_true];constructor
  ·rintro ⟨x,h1,h2⟩; exact ⟨(x:Int),List.mem_map_of_mem h1,h2⟩
  ·rintro ⟨x,h1,h2⟩;obtain ⟨y,hy,rfl⟩:=List.mem_map.1 (show x∈l'.map (fun x:Nat=>(x:Int)) from h1);exact ⟨y,hy,h2⟩
 have heq:∀ v:Nat,(decide ((v:Int)∈natI l')=anyN (nb gs) l' v)↔(((v:Int)∈natI l')↔∃ x∈natI l',nb gs x.toNat v=true):=fun v=>by
  rw [← hany,Bool.eq_iff_iff,decide_eq_true_iff]
 have hnl:=zAY l';refine Lp.mk (RcJ1 N nx (.slice a gs.length cap) (.slice al (natI l').length cl) gs l' h) N ⟨0,by omega,by omega,rfl,g6,K6,by omega,fun w hw=>absurd hw (by omega)⟩ ?_;rintro _ _ h2 n2 ⟨u,rfl,hu,rfl,g2,hk2,hle2,hno2⟩;rw [zQK];unfold zJZ aF bF dF gA iV lA lF;simp (disch:=omega) only [SS,g2,seval];refine ⟨fun hlt=>?_,fun hge=>?_⟩
 ·refine (rin_c (s:=true) (hvl.keep hk2 (by omega)) (by omega)).mono ?_;rintro r h3 n3 ⟨rfl,e1,e2⟩;rw [e1,e2];refine ⟨Nat.le_refl _,?_⟩;simp (disch:=omega) only [SS,g2,seval];refine (zG0 (s:=true) (hv.keep hk2 (by omega)) (by omega) (hvl.keep hk2 (by omega)) (by omega)).mono ?_;rintro r h4 n4 ⟨rfl,hk4,hle4⟩;refine ⟨hle4,?_⟩
  by_cases hq:decide ((u:Int)∈natI l')=anyN (nb gs) l' u
  ·rw [hq];simp (disch:=omega) only [SS,zNn,beq_self_eq_true,seval];exact ⟨false,rfl,⟨fun h=>(by cases h),fun h=>absurd ((heq u).1 hq) (h.2 u (by omega))⟩,hk2.trans hk4 (by omega),by omega⟩
  ·have hq':(decide ((u:Int)∈natI l') == anyN (nb gs) l' u)=false:=beq_eq_false_iff_ne.2 hq;simp (disch:=omega) only [SS,zNn,hq',zZ (show u<1000000000000 by omega),seval];refine ⟨N-(u+1),by omega,u+1,rfl,by omega,rfl,(hk4 nx (by omega)).trans g2,hk2.trans hk4 (by omega),by omega,fun w hw=>?_⟩
   by_cases e:w=u
   ·rw [e]; exact hq
   ·exact hno2 w (by omega)
 ·exact ⟨true,rfl,⟨fun _=>⟨hall,fun w hw h=>hno2 w (by omega) ((heq w).2 h)⟩,fun _=>rfl⟩,hk2,by omega⟩
def tld (low:Int) (A:List Int):Nat→List Int
 | 0=>[]
 | k+1=>tld low A k++(if A[k]? = some 1 then [low+(k:Int)] else [])
theorem zIS (low:Int) (A:List Int):∀ k,(tld low A k).length≤k
 | 0=>Nat.le_refl _
 | k+1=>by
  have:=zIS low A k;rw [tld,List.length_append]
  split <;> simp <;> omega
def ItJ (low:Int) (A:List Int) (va:Value) (tl:List Value) (p n0:Nat) (h0:Hp) (m:Nat) (vs:List Value) (h':Hp) (nx':Nat):Prop :=
 ∃ (i:Nat) (o:Value) (bo:Option Nat),m=A.length-i∧i≤A.length∧vs = .pointer (some ⟨p,0,none⟩)::o::tl++[.int .i64 (i:Int)]∧Ow h' encI o (tld low A i) bo∧(∀ c,bo=some c→n0≤c∧c<nx')∧Keep n0 h0 h'∧n0≤nx'
def ToldK (low:Int) (A:List Int) (nx:Nat) (h:Hp):KC':=fun r h' nx'=>SlRd h' nx' r encI (tld low A A.length)∧Keep nx h h'∧nx≤nx'
theorem zD1 {low:Int} {A:List Int} {i:Nat} {x:Int} (h:A[i]? = some x):tld low A (i+1)=tld low A i++(if x=1 then [low+(i:Int)] else []):=by
 rw [tld,h]; simp
theorem itold_c {s:Bool} {low:Nat} {A:List Int} {va:Value} {h:Hp} {nx:Nat} (hv:SlRd h nx va encI A) (hl:low≤1000000) (hA:A.length≤1000) :
  Cv Q O s 40 [.agg ⟨[.int .i64 (low:Int),.int .i64 0,va,.slice none 0 0,.slice none 0 0]⟩] h nx (ToldK low A nx h):=by
 refine itoldv ?_;obtain ⟨a,cap,rfl,hc⟩:=id hv;unfold itold aF iV lF nF nS pC;have K0:∀ {o},Keep nx h (hset h nx o):=(Keep.refl _ _).set (Nat.le_refl _);simp (disch:=omega) only [SS,seval];refine Lp.mk (ItJ low A (.slice a A.length cap) [.slice a A.length cap,.int .i64 (A.length:Int)] nx (nx+1) (hset h nx (.cells [.int .i64 (low:Int),.int .i64 0,.slice a A.length cap,.slice none 0 0,.slice none 0 0] false))) A.length ⟨0,_,none,rfl,by omega,rfl,.nil,fun c e=>(by cases e),Keep.refl _ _,Nat.le_refl _⟩ ?_;rintro _ _ h' nx' ⟨i,o,bo,rfl,hi,rfl,hW,hb,hk,hle⟩;have g0:=hk nx (by omega);rw [hnew] at g0;have hkk:Keep nx h h':=K0.trans hk (by omega);obtain ⟨ao,co,rfl⟩:=hW.form;show fL Q O s zNJ 40 0 [_,_,_,_,_] _ _ _ _ _;rw [itoldb0];unfold zRO aF bF iV lF xF;have hlen:=zIS low A i;simp (disch:=omega) only [SS,seval];refine ⟨fun hlt=>?_,fun hge=>?_⟩
 ·obtain ⟨x,hx⟩:=zj hlt;obtain ⟨_,b,sp,ro,c1,hbn,e1,hg⟩:=hv.at hx;cases e1;rw [zT] at hg;have hg':=(hkk b hbn).trans hg;have w1:IntKind.wrap .i64 ((low:Int)+(i:Int))=(low:Int)+(i:Int):=zB4 (by omega) (by omega);simp (disch:=omega) only [SS,hg',zg hx,g0,w1,seval];refine ⟨fun he=>?_,fun he=>?_⟩
  ·have he:x=1:=by simpa using he
   refine zB2 (hW.gr.keep fun c hc=>by have:=hb c hc; rw [hold (by omega)]) (hnew _ _ _) (by omega) fun h5 hn5 hf5=>?_;simp (disch:=omega) only [SS,zZ (show i<1000000000000 by omega),seval];refine ⟨A.length-(i+1),by omega,i+1,_,some (nx'+1),rfl,by omega,rfl,.inr ⟨nx'+1,rfl,?_,?_⟩,fun c e=>by cases e; omega,fun c hc=>?_,by omega⟩
   ·rw [zD1 hx,if_pos he,List.length_append]; rfl
   ·rw [zT,hn5,zD1 hx,if_pos he]
   ·rw [hf5 c (by omega) (fun e=>by have:=hb c e; omega),hold (by omega)]; exact hk c hc
  ·have he:¬ x=1:=by simpa using he
   simp (disch:=omega) only [SS,zZ (show i<1000000000000 by omega),seval];exact ⟨A.length-(i+1),by omega,i+1,_,bo,rfl,by omega,rfl,by rw [zD1 hx,if_neg he,List.append_nil]; exact hW,hb,hk,hle⟩
 ·have:i=A.length:=by omega
  subst this;exact ⟨(hW.nw hb).rd,hkk,by omega⟩
theorem ritold_c {s:Bool} {low:Nat} {A:List Int} {va:Value} {h:Hp} {nx:Nat} (hv:SlRd h nx va encI A) (hl:low≤1000000) (hA:A.length≤1000) :
  Cv Q O s 41 [.agg ⟨[.int .i64 (low:Int),.int .i64 0,va,.slice none 0 0,.slice none 0 0]⟩] h nx (ToldK low A nx h):=by
 refine ritoldv ?_;obtain ⟨a,cap,rfl,hc⟩:=id hv;unfold ritold iV nS pC;have K0:∀ {o},Keep nx h (hset h nx o):=(Keep.refl _ _).set (Nat.le_refl _);simp (disch:=omega) only [SS,seval];refine Lp.mk (ItJ low A (.slice a A.length cap) [] nx (nx+1) (hset h nx (.cells [.int .i64 (low:Int),.int .i64 0,.slice a A.length cap,.slice none 0 0,.slice none 0 0] false))) A.length ⟨0,_,none,rfl,by omega,rfl,.nil,fun c e=>(by cases e),Keep.refl _ _,Nat.le_refl _⟩ ?_;rintro _ _ h' nx' ⟨i,o,bo,rfl,hi,rfl,hW,hb,hk,hle⟩;have g0:=hk nx (by omega);rw [hnew] at g0;have hkk:Keep nx h h':=K0.trans hk (by omega);obtain ⟨ao,co,rfl⟩:=hW.form;show fL Q O s zIZ 41 0 [_,_,_] _ _ _ _ _;rw [ritoldb0];unfold zMg aF bF iV lF nF xF;have hlen:=zIS low A i;simp (disch:=omega) only [SS,g0,seval];refine ⟨fun hlt=>?_,fun hge=>?_⟩
 ·obtain ⟨x,hx⟩:=zj hlt;obtain ⟨_,b,sp,ro,c1,hbn,e1,hg⟩:=hv.at hx;cases e1;rw [zT] at hg;have hg':=(hkk b hbn).trans hg;have w1:IntKind.wrap .i64 ((low:Int)+(i:Int))=(low:Int)+(i:Int):=zB4 (by omega) (by omega);simp (disch:=omega) only [SS,hg',zg hx,g0,w1,seval];refine ⟨fun he=>?_,fun he=>?_⟩
  ·have he:x=1:=by simpa using he
   refine zB2 (hW.gr.keep fun c hc=>by have:=hb c hc; rw [hold (by omega)]) (hnew _ _ _) (by omega) fun h5 hn5 hf5=>?_;simp (disch:=omega) only [SS,zZ (show i<1000000000000 by omega),seval];refine ⟨A.length-(i+1),by omega,i+1,_,some (nx'+1),rfl,by omega,rfl,.inr ⟨nx'+1,rfl,?_,?_⟩,fun c e=>by cases e; omega,fun c hc=>?_,by omega⟩
   ·rw [zD1 hx,if_pos he,List.length_append]; rfl
   ·rw [zT,hn5,zD1 hx,if_pos he]
   ·rw [hf5 c (by omega) (fun e=>by have:=hb c e; omega),hold (by omega)]; exact hk c hc
  ·have he:¬ x=1:=by simpa using he
   simp (disch:=omega) only [SS,zZ (show i<1000000000000 by omega),seval];exact ⟨A.length-(i+1),by omega,i+1,_,bo,rfl,by omega,rfl,by rw [zD1 hx,if_neg he,List.append_nil]; exact hW,hb,hk,hle⟩
 ·have:i=A.length:=by omega
  subst this;exact ⟨(hW.nw hb).rd,hkk,by omega⟩
def IaJ (p sr:Nat) (va vb vd:Value) (L:List (List Nat)) (h0:Hp) (n0:Nat) (m:Nat) (vs:List Value) (h':Hp) (nx':Nat):Prop :=
 ∃ i,m=L.length-i∧i≤L.length∧vs=[vd,.bool false,.pointer (some ⟨p,0,none⟩),.int .i64 (sr:Int),va,vb,.int .i64 (i:Int)]∧h'=h0∧nx'=n0
theorem JL_tot {N:Nat} {gs:List GE} {ds:List Int} (hN:N≤4096):tot (JL N gs ds)≤N∧(JL N gs ds).length≤N:=by
 unfold JL
 by_cases hb:ds.any badD=true
 ·rw [if_pos hb]; exact ⟨Nat.zero_le _,Nat.zero_le _⟩
 ·rw [if_neg hb];obtain ⟨j1,j2,j3,j4,j5⟩:=zRM (gs:=gs) (num:=numD ds N) (N:=N) fun d u v hu hv e=>zI7 (by omega) (by omega) e;exact ⟨j2,j3⟩
theorem zJv {s:Bool} {n V R C:Int} {v vl vd:Value} {es:List Edg3} {l ds:List Int} {h:Hp} {nx:Nat} (hv:SlRd h nx v enc3 es) (hl:SlRd h nx vl encI l) (hd:SlRd h nx vd encI ds) :
  Cv Q O s 7 [.agg ⟨[.int .i64 n,v,.int .i64 V,.int .u8 R,.int .u8 C]⟩,vl,vd] h nx TrueK:=by
 refine zO1 ?_;obtain ⟨a,cap,rfl,hc⟩:=id hv;obtain ⟨al,cl,rfl,_⟩:=id hl;obtain ⟨ad,cd,rfl,_⟩:=id hd;unfold zJw bF iV nF pC;have big:∀ {t1 t2 t3:Value} {h2:Hp} {n2:Nat},zBs s TrueK t1 t2 t3 (.bool true) h2 n2:=fun {t1 t2 t3 h2 n2}=>by
  unfold zBs aF bF cF dF gA iV lA lF nC nF nS;simp (disch:=omega) only [SS,seval];exact zRE rfl rfl
 simp (disch:=omega) only [SS,seval];refine ⟨fun _=>big,fun h40=>?_⟩
 by_cases h60:60<(ds.length:Int)
 ·rw [decide_eq_true h60]; exact big
 rw [decide_eq_false h60];unfold zBs aF bF cF dF gA iV lA lF nC nF nS;have K0:∀ {o},Keep nx h (hset h nx o):=(Keep.refl _ _).set (Nat.le_refl _);simp (disch:=omega) only [SS,seval];refine (make_c (hv.keep K0 (by omega))).mono ?_;rintro r h2 n2 ⟨N,sr,ra,rb,v2,gs,rfl,hN0,hN,hsr,hgl,hok,hgs,hle2,hk2⟩;obtain ⟨a2,c2,rfl,_⟩:=id hgs;have K2:Keep nx h h2:=K0.trans hk2 (by omega);simp (disch:=omega) only [SS,seval];have K3:∀ {o o'},Keep n2 h2 (hset (hset h2 n2 o) n2 o'):=((Keep.refl _ _).set (Nat.le_refl _)).set (Nat.le_refl _);have gsK:∀ {h':Hp} {n':Nat},Keep n2 h2 h'→n2≤n'→SlPx h' n' (.slice a2 gs.length c2) encG gs:=fun hk hle=>(SlPx.of hgs.rd).keep hk hle;have dsK:∀ {h':Hp} {n':Nat},Keep n2 h2 h'→n2≤n'→SlRd h' n' (.slice ad ds.length cd) encI ds:=fun hk hle=>hd.keep (K2.trans hk (by omega)) (by omega);have lK:∀ {h':Hp} {n':Nat},Keep n2 h2 h'→n2≤n'→SlRd h' n' (.slice al l.length cl) encI l:=fun hk hle=>hl.keep (K2.trans hk (by omega)) (by omega);refine (ijoins_c (s:=true) (N:=N) (by omega) (by omega) (by omega) hgl hok (gsK K3 (by omega)) (dsK K3 (by omega))).mono ?_;rintro r h4 n4 ⟨svs,bo,hV,hk4,hle4⟩;have hLa:=hV.lls;have M4:Keep n2 h2 h4:=K3.trans hk4 (by omega);have g4:=hk4 n2 (by omega);rw [hnew] at g4;refine ⟨hle4,?_⟩;simp (disch:=omega) only [SS,g4,seval];refine (rjoins_c (s:=true) (N:=N) (by omega) (by omega) (by omega) hgl hok (gsK M4 (by omega)) (dsK M4 (by omega))).mono ?_;rintro r5 h5 n5 ⟨hLb,hk5,hle5⟩;have M5:Keep n2 h2 h5:=M4.trans hk5 (by omega);have g5:=(hk5 n2 (by omega)).trans g4;refine ⟨hle5,?_⟩;simp (disch:=omega) only [SS,g5,seval];refine (zNK (s:=true) (ds:=ds) (by omega) ⟨_,_,_,rfl⟩ (dsK M5 (by omega)) (by omega)).mono ?_;rintro r h6 n6 ⟨vd',rfl,hd6,hk6,hle6⟩;have M6:Keep n2 h2 h6:=M5.trans hk6 (by omega);have g6:=(hk6 n2 (by omega)).trans g5;obtain ⟨ad',cd',rfl,_⟩:=id hd6;refine ⟨hle6,?_⟩;simp (disch:=omega) only [SS,g6,g5,seval];refine (zJX (s:=true) (by omega) (by omega) ⟨_,_,_,rfl⟩ ⟨_,_,_,rfl⟩).mono ?_;rintro r h7 n7 ⟨rfl,hk7,hle7⟩;have M7:Keep n2 h2 h7:=M6.trans hk7 (by omega);have g7:=(hk7 n2 (by omega)).trans g6;refine ⟨hle7,?_⟩;unfold stpL;simp (disch:=omega) only [SS,seval];refine zRE rfl ⟨Nat.le_refl _,?_⟩;have K8:∀ {o o' o'' o3},Keep n7 h7 (hset (hset (hset (hset h7 n7 o) (n7+1) o') n7 o'') (n7+1) o3):=fun {o o' o'' o3}=>((((Keep.refl _ _).set (Nat.le_refl _)).set (by omega)).set (Nat.le_refl _)).set (by omega);have M8:∀ {o o' o'' o3},Keep n2 h2 (hset (hset (hset (hset h7 n7 o) (n7+1) o') n7 o'') (n7+1) o3):=fun {o o' o'' o3}=>M7.trans K8 (by omega);simp (disch:=omega) only [SS,g7,seval];refine (icheck_c (s:=true) (N:=N) (by omega) (by omega) hgl hok (gsK M8 (by omega)) (lK M8 (by omega)) (by omega)).mono ?_;rintro r h9 n9 ⟨b1,rfl,hb1,hk9,hle9⟩;have M9:Keep n2 h2 h9:=M8.trans hk9 (by omega);have g9:=hk9 n2 (by omega);rw [hold (by omega),hold (by omega),hold (by omega),hold (by omega),g7] at g9;have pa9:=hk9 n7 (by omega);rw [hold (by omega),hnew] at pa9;have pb9:=hk9 (n7+1) (by omega);rw [hnew] at pb9;refine ⟨hle9,?_⟩;simp (disch:=omega) only [SS,g9,g7,seval];refine (zQM (s:=true) (N:=N) (by omega) hgl hok (gsK M9 (by omega)) (lK M9 (by omega)) (by omega)).mono ?_;rintro r h10 n10 ⟨b2,rfl,hb2,hk10,hle10⟩;have M10:Keep n2 h2 h10:=M9.trans hk10 (by omega);have g10:=(hk10 n2 (by omega)).trans g9;have pa10:=(hk10 n7 (by omega)).trans pa9;have pb10:=(hk10 (n7+1) (by omega)).trans pb9;refine ⟨hle10,?_⟩;have hb12:b1=b2:=Bool.eq_iff_iff.2 (hb1.trans hb2.symm);subst hb12;obtain ⟨_,ax,cx,rfl,_⟩:=id hLa;obtain ⟨_,ay,cy,rfl,_⟩:=id hLb;have k7:Keep n5 h5 h10:=(((hk6.trans hk7 hle6).trans K8 (by omega)).trans hk9 (by omega)).trans hk10 (by omega);have hLa10:LLs h10 n10 (.slice ax (JL N gs ds).length cx) (JL N gs ds):=(hLa.keep hk5 hle5).keep k7 (by omega);have hLb10:LLs h10 n10 (.slice ay (JL N gs ds).length cy) (JL N gs ds):=hLb.keep k7 (by omega);have hd10:SlRd h10 n10 (.slice ad' ds.length cd') encI ds:=hd6.keep (((hk7.trans K8 (by omega)).trans hk9 (by omega)).trans hk10 (by omega)) (by omega);obtain ⟨ht1,ht2⟩:=JL_tot (N:=N) (gs:=gs) (ds:=ds) (by omega);generalize JL N gs ds=L at *
 simp (disch:=omega) only [SS,bin_bne4,beq_self_eq_true,pa10,pb10,seval];refine (samev_c (s:=true) hd10 (dsK M10 (by omega)) (by omega)).mono ?_;rintro r h11 n11 ⟨rfl,e1,e2⟩;rw [e1,e2,decide_eq_true rfl];refine ⟨Nat.le_refl _,?_⟩;simp (disch:=omega) only [SS,seval];unfold zBB dF gA iV lA nC nS;simp (disch:=omega) only [SS,seval];refine Lp.mk (IaJ n2 sr (.slice ax L.length cx) (.slice ay L.length cy) (.slice ad ds.length cd) L h10 n10) L.length ⟨0,rfl,by omega,rfl,rfl,rfl⟩ ?_;rintro _ _ h' nx' ⟨i,rfl,hi,rfl,eh,en⟩;rw [eh,en,zLY];unfold zGv bF dF iV lF nF xF;simp (disch:=omega) only [SS,seval];refine ⟨fun hlt=>?_,fun hge=>?_⟩
 ·obtain ⟨l1,hl1⟩:=zj hlt;obtain ⟨b,sp,cp,ro,cs,al1,cl1,hbn,e1,hg,hcs,hrd⟩:=hLa10.at hl1;cases e1;obtain ⟨b',sp',cp',ro',cs',al2,cl2,hbn',e1',hg',hcs',hrd'⟩:=hLb10.at hl1;cases e1';have htl:=zP5 hl1;simp (disch:=omega) only [SS,hg,hcs,hg',hcs',seval];have r1:SlRd h10 n10 (.slice al1 l1.length cl1) encI (natI l1):=hrd;refine (zKr (s:=true) r1 hrd' (by rw [zAY]; omega)).mono ?_;rintro r h12 n12 ⟨rfl,e1,e2⟩;rw [e1,e2,decide_eq_true rfl];refine ⟨Nat.le_refl _,?_⟩;simp (disch:=omega) only [SS,zZ (show i<1000000000000 by omega),seval];exact ⟨L.length-(i+1),by omega,i+1,rfl,by omega,rfl,rfl,rfl⟩
 ·have hg:=g10;have hvx:SlPx h10 n10 (.slice a2 gs.length c2) encG gs:=gsK M10 (by omega);have hdx:SlRd h10 n10 (.slice ad ds.length cd) encI ds:=dsK M10 (by omega);have Kx:∀ {o o'},Keep n10 h10 (hset (hset h10 n10 o) n10 o'):=((Keep.refl _ _).set (Nat.le_refl _)).set (Nat.le_refl _);simp (disch:=omega) only [SS,hg,seval];refine (ifirst_c (s:=true) (N:=N) (by omega) (by omega) hgl hok (hvx.keep Kx (by omega))).mono ?_;rintro r h4 n4 ⟨hF,hk4,hle4⟩;have Mx4:Keep n10 h10 h4:=Kx.trans hk4 (by omega);have g4:=(Mx4 n2 (by omega)).trans hg;have p4:=hk4 n10 (by omega);rw [hnew] at p4;refine ⟨hle4,?_⟩;simp (disch:=omega) only [SS,g4,hg,seval];refine (zQI (s:=true) (N:=N) (by omega) hgl hok (hvx.keep Mx4 (by omega))).mono ?_;rintro r' h5 n5 ⟨hF5,hk5,hle5⟩;have Mx5:Keep n10 h10 h5:=Mx4.trans hk5 (by omega);have p5:=(hk5 n10 (by omega)).trans p4;refine ⟨hle5,?_⟩;have hfl:=zL7 gs N;refine (zKr (s:=true) (hF.keep hk5 hle5) hF5 (by rw [zAY]; omega)).mono ?_;rintro r6 h6 n6 ⟨rfl,e1,e2⟩;rw [e1,e2,decide_eq_true rfl];refine ⟨Nat.le_refl _,?_⟩;simp (disch:=omega) only [SS,p5,seval];refine (itold_c (s:=true) (low:=sr) (hdx.keep Mx5 (by omega)) (by omega) (by omega)).mono ?_;rintro r7 h7 n7 ⟨hT,hk7,hle7⟩;have p7:=(hk7 n10 (by omega)).trans p5;refine ⟨hle7,?_⟩;simp (disch:=omega) only [SS,p7,p5,seval];refine (ritold_c (s:=true) (low:=sr) (hdx.keep (Mx5.trans hk7 (by omega)) (by omega)) (by omega) (by omega)).mono ?_;rintro r8 h8 n8 ⟨hT8,hk8,hle8⟩;refine ⟨hle8,?_⟩;have htl:=zIS (sr:Int) ds ds.length;refine (zKr (s:=true) (hT.keep hk8 hle8) hT8 (by omega)).mono ?_;rintro r9 h9 n9 ⟨rfl,e1,e2⟩;rw [e1,e2,decide_eq_true rfl];exact ⟨Nat.le_refl _,rfl⟩
open Go.ChangeShapes Go.WideShapes Go.ChangeAt Go.RowKit
theorem zRF:zF2 Tryz.prog 28 zR9:=live_eq pok zOH live31
theorem O_ok:zHT Tryz.prog O:=fun f g h=>by
 unfold O at h;cases h1:Nat.beq f 28 with
 | true =>
  have e:=Nat.eq_of_beq_eq_true h1;subst e;rw [h1] at h;cases h;exact zRF
 | false =>
  rw [h1] at h;cases h2:Nat.beq f 307 with
  | true =>
   have e:=Nat.eq_of_beq_eq_true h2;subst e;rw [h2] at h;cases h;exact combF_ok
  | false=>rw [h2] at h; cases h
theorem w23:Tryz.prog.underlying 23=some (.slice 2):=by kernel_rfl
theorem zQj {H:Type} {enc:TypeId × Value→H} {w:World} {sp:Nat→Bool} {r:Reach} {b0:Nat} {v:Value} {d:DataW H} {ps:List MemPlace} (hval:Value.okWide Tryz.prog w r b0 23 v) (h:DataW.Trod enc Tryz.prog w 0 sp true 23 v d ps) :
  ∃ ys:List Int,(ys=[]∧v = .slice none 0 0)∨∃ b off cap,v = .slice (some ⟨b,off,none⟩) ys.length cap∧zDE w b off (flat encI ys):=by
 obtain ⟨a,len,cap,rfl⟩:=okWide_slice w23 hval;unfold Value.okWide at hval;rw [w23] at hval;obtain ⟨fuel,hf⟩:=h;have hf:DataW.trod enc Tryz.prog w 0 sp true fuel 23 [.slice a len cap]=some (d,ps):=hf;obtain ⟨ys,_,hy⟩:=zLF (e3:=encI) (k:=1) w23 c2 (fun _=>True) (fun n c y hy=>by
  obtain ⟨m,hm,_⟩:=DataW.trod_int u2 hy;exact ⟨m,hm,trivial⟩) hf hval
 exact ⟨ys,hy⟩
theorem w65:Tryz.prog.underlying 65=some (.slice 3):=by kernel_rfl
theorem in_three {α β γ:Type} {e3:α→List Value} {e1:β→List Value} {e2:γ→List Value} {w:World} {v u t:Value} {zs:List α} {ys:List β} {xs:List γ} (hpl:∀ z,Go.Ax.plainL (e3 z)=true) (hpl1:∀ z,Go.Ax.plainL (e1 z)=true) (hpl2:∀ z,Go.Ax.plainL (e2 z)=true)
  (h:(zs=[]∧v = .slice none 0 0)∨∃ b off cap,v = .slice (some ⟨b,off,none⟩) zs.length cap∧zDE w b off (flat e3 zs))
  (g:(ys=[]∧u = .slice none 0 0)∨∃ b off cap,u = .slice (some ⟨b,off,none⟩) ys.length cap∧zDE w b off (flat e1 ys))
  (f:(xs=[]∧t = .slice none 0 0)∨∃ b off cap,t = .slice (some ⟨b,off,none⟩) xs.length cap∧zDE w b off (flat e2 xs)) :
  ∃ ps v' u' t',InW w ps∧VR (rhoL ps) v' v∧VR (rhoL ps) u' u∧VR (rhoL ps) t' t∧SlRd (hpL 0 ps hp0) ps.length v' e3 zs∧SlRd (hpL 0 ps hp0) ps.length u' e1 ys∧SlRd (hpL 0 ps hp0) ps.length t' e2 xs:=by
 obtain ⟨a1,a2⟩:=in_at (ps:=inPs v (flat e3 zs)++(inPs u (flat e1 ys)++inPs t (flat e2 xs))) (k:=0) h (fun p hp=>by rw [zIg hp]; rfl);obtain ⟨b1,b2⟩:=in_at (ps:=inPs v (flat e3 zs)++(inPs u (flat e1 ys)++inPs t (flat e2 xs))) (k:=(inPs v (flat e3 zs)).length) g (fun p hp=>by rw [zIg hp,List.getElem?_append_right (Nat.le_refl _),Nat.sub_self]; rfl);obtain ⟨c1,c2⟩:=in_at (ps:=inPs v (flat e3 zs)++(inPs u (flat e1 ys)++inPs t (flat e2 xs))) (k:=(inPs v (flat e3 zs)).length+(inPs u (flat e1 ys)).length) f (fun p hp=>by rw [zIg hp,List.getElem?_append_right (by omega),List.getElem?_append_right (by omega)]; simp);refine ⟨_,_,_,_,fun p hp=>?_,a1,b1,c1,a2,b2,c2⟩;rcases List.mem_append.1 hp with hp | hp
 ·exact in_w hpl h _ p hp
 ·rcases List.mem_append.1 hp with hp | hp
  ·exact in_w hpl1 g _ p hp
  ·exact in_w hpl2 f _ p hp
theorem zLG {H:Type} {enc:TypeId × Value→H} {w:World} {sp:Nat→Bool} {r:Reach} {b0:Nat} {v:Value} {d:DataW H} {ps:List MemPlace} (hval:Value.okWide Tryz.prog w r b0 65 v) (h:DataW.Trod enc Tryz.prog w 0 sp true 65 v d ps) :
  ∃ ys:List Int,(ys=[]∧v = .slice none 0 0)∨∃ b off cap,v = .slice (some ⟨b,off,none⟩) ys.length cap∧zDE w b off (flat encI ys):=by
 obtain ⟨a,len,cap,rfl⟩:=okWide_slice w65 hval;unfold Value.okWide at hval;rw [w65] at hval;obtain ⟨fuel,hf⟩:=h;have hf:DataW.trod enc Tryz.prog w 0 sp true fuel 65 [.slice a len cap]=some (d,ps):=hf;obtain ⟨ys,_,hy⟩:=zLF (e3:=encI) (k:=1) w65 c3 (fun _=>True) (fun n c y hy=>by
  obtain ⟨m,hm,_⟩:=DataW.trod_int u3 hy;exact ⟨m,hm,trivial⟩) hf hval
 exact ⟨ys,hy⟩
theorem walkIA {n V R C:Int} {sl vl vd:Value} {zs:List Edg3} {ys ds:List Int} {W:World} (hz:(zs=[]∧sl = .slice none 0 0)∨∃ b off cap,sl = .slice (some ⟨b,off,none⟩) zs.length cap∧zDE W b off (flat enc3 zs))
  (hy:(ys=[]∧vl = .slice none 0 0)∨∃ b off cap,vl = .slice (some ⟨b,off,none⟩) ys.length cap∧zDE W b off (flat encI ys))
  (hd:(ds=[]∧vd = .slice none 0 0)∨∃ b off cap,vd = .slice (some ⟨b,off,none⟩) ds.length cap∧zDE W b off (flat encI ds)) :
  Calls Tryz.prog 7 #[.agg ⟨[.int .i64 n,sl,.int .i64 V,.int .u8 R,.int .u8 C]⟩,vl,vd] W fun e w'=>e = .returned (.bool true)∧Below W.heap.size W w':=by
 obtain ⟨ps,v',u',t',h1,h2,h3,h4,h5,h6,h7⟩:=in_three (e3:=enc3) (e1:=encI) (e2:=encI) (fun _=>rfl) (fun _=>rfl) (fun _=>rfl) hz hy hd;exact callsIn_wide.1 (run_ok (n:=0) pok O_ok (zJv (n:=n) (V:=V) (R:=R) (C:=C) h5 h6 h7) (in_rel h1) (in_fr _) (.cons (.agg (.cons (.int _ _) (.cons h2 (.cons (.int _ _) (.cons (.int _ _) (.cons (.int _ _) .nil)))))) (.cons h3 (.cons h4 .nil))))
end Go.Proofs.YtcjochjiegiliaaGreat
