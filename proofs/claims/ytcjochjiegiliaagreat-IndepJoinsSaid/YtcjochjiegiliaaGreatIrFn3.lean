/- Parts of the proof: IrFn3: each statement bears its own conditions. -/
import Derived.Test.YtcjochjiegiliaaGreatIrFn2
namespace Go.Proofs.YtcjochjiegiliaaGreat
open Go Go.Ax
set_option linter.unusedVariables false
set_option linter.unusedSimpArgs false
set_option maxRecDepth 1000000
structure Ls (N:Nat) (h:Hp) (lo hi:Nat) (os:List Value) (ls:Nat→List Nat) (bs:Nat→Option Nat):Prop where
 len:os.length=N
 s:∀ i,i<N→∃ o,os[i]? = some o∧Ow h encI o (natI (ls i)) (bs i)
 b:∀ i c,bs i=some c→lo≤c∧c<hi
 d:∀ i j c,bs i=some c→bs j=some c→i=j
theorem Ls.keep {N:Nat} {h h':Hp} {lo hi hi':Nat} {os:List Value} {ls:Nat→List Nat} {bs:Nat→Option Nat} (L:Ls N h lo hi os ls bs) (hk:∀ c,lo≤c→c<hi→hget h' c=hget h c) (hle:hi≤hi'):Ls N h' lo hi' os ls bs :=
 ⟨L.len,fun i hi=>by
  obtain ⟨o,e,g⟩:=L.s i hi
  exact ⟨o,e,g.keep fun c e=>hk c (L.b i c e).1 (L.b i c e).2⟩,fun i c e=>⟨(L.b i c e).1,by have:=(L.b i c e).2; omega⟩,L.d⟩
def NeJ0 (N p1 p6 lo:Nat) (v vc:Value) (cs:List GE) (h0:Hp) (m:Nat) (vs:List Value) (h':Hp) (nx':Nat):Prop :=
 ∃ (k:Nat) (os:List Value) (bs:Nat→Option Nat),m=cs.length-k∧k≤cs.length∧vs=[.pointer (some ⟨p1,0,none⟩),.slice (some ⟨p6,0,none⟩) N N,vc,.int .i64 (cs.length:Int),.int .i64 (k:Int)]∧hget h' p6=some (.cells os false)∧Ls N h' lo nx' os (outs (cs.take k)) bs∧(∀ c,c<lo→c≠p6→hget h' c=hget h0 c)∧lo≤nx'
def NeJ1 (N p1 p6 lo:Nat) (cs:List GE) (h0:Hp) (m:Nat) (vs:List Value) (h':Hp) (nx':Nat):Prop :=
 ∃ (k:Nat) (svs:List Sv) (o:Value) (bo:Option Nat),m=N-k∧k≤N∧vs=[.pointer (some ⟨p1,0,none⟩),o,.slice (some ⟨p6,0,none⟩) N N,.int .i64 (N:Int),.int .i64 (k:Int)]∧Vs h' lo nx' svs ((List.range k).map fun i=>[Value.int .u64 (mk N (hasB cs i):Int)]) o bo∧(∀ c,c<lo→hget h' c=hget h0 c)∧lo≤nx'
theorem near_c {s:Bool} {N:Nat} {gs:List GE} {v:Value} {h:Hp} {nx:Nat} (hv:SlPx h nx v encG gs) (h0:1≤N) (h1:N≤63) (hl:gs.length≤60) (hok:∀ g∈gs,GOk N g) :
  Cv Q O s 110 [.agg ⟨[.int .i64 (N:Int),v]⟩] h nx (fun r h' nx'=>ByIs h' nx nx' r N (nb gs)∧Keep nx h h'∧nx≤nx'):=by
 refine nearv ?_
 obtain ⟨a,cap,rfl,hc⟩:=id hv
 unfold near
 simp (disch:=omega) only [SS,seval]
 have K0:∀ {o o'},Keep nx h (hset (hset h nx o) (nx+1) o'):=((Keep.refl _ _).set (Nat.le_refl _)).set (Nat.le_succ _)
 refine (simple_c (hv.keep K0 (by omega)) (by omega) (by omega) hok).mono ?_
 rintro r h2 nx2 ⟨v2,c1,rfl,hc1,hcan1,hok1,hlen1,hk2,hle2⟩
 have hml:=mapf_len (p:=noLoop) (m:=id) gs
 unfold simpleM at hlen1
 refine (both_c (SlPx.of hc1.rd) (by omega) (by omega) hok1).mono ?_
 rintro r h3 nx3 ⟨ts,htc,htl,htok,v3,c2,rfl,hc2,hcan2,hok2,hlen2,hk3,hle3⟩
 rw [List.length_append] at hlen2
 obtain ⟨a3,cp3,rfl,hc3⟩:=id hc2.nw
 have g0:=(hk3 nx (by omega)).trans (hk2 nx (by omega))
 rw [hold (by omega),hnew] at g0
 have g1:=(hk3 (nx+1) (by omega)).trans (hk2 (nx+1) (by omega))
 rw [hnew] at g1
 have K3:Keep nx h h3:=(K0.trans hk2 (by omega)).trans hk3 (by omega)
 simp (disch:=omega) only [SS,seval]
 refine Lp.mk (NeJ0 N nx (nx+1) nx3 (.slice a gs.length cap) (.slice a3 c2.length cp3) c2 h3) c2.length ⟨0,List.replicate N (.slice none 0 0),fun _=>none,by omega,by omega,rfl,g1,⟨by simp,fun i hi=>⟨.slice none 0 0,by simp [hi],by rw [List.take_zero]; exact .nil⟩,fun i c e=>(by cases e),fun i j c e=>(by cases e)⟩,fun c _ _=>rfl,Nat.le_refl _⟩ ?_
 rintro _ _ h4 nx4 ⟨k,os,bs,rfl,hk4,rfl,gp,L,hf4,hle4⟩
 rw [nearb0]
 unfold nearl0
 simp (disch:=omega) only [SS,seval]
 refine ⟨fun hlt=>?_,fun hge=>?_⟩
 ·obtain ⟨e,he⟩:=get_ex hlt
  obtain ⟨b,sp,ro,hb1,hb2,rfl,hb⟩:=hc3 (fun e0=>by rw [e0] at hlt; exact absurd hlt (Nat.not_lt_zero _))
  have hb4:=(hf4 b (by omega) (by omega)).trans hb
  have hem:=hok2 e (List.mem_of_getElem? he)
  have hef:e.f<N:=hem.1
  have het:e.t<N:=hem.2.1
  obtain ⟨o,ho,hG⟩:=L.s e.f hef
  have hlo:=L.len
  obtain ⟨ho1,ho2⟩:=hG.gr.cell
  simp (disch:=omega) only [SS,hb4,rd_e0 he,gp,ho,seval]
  have hnb:∀ c,bs e.f=some c→nx3≤c∧c<nx4:=L.b e.f
  have hol:(natI (outs (c2.take k) e.f)).length<1000000:=by
   have h1:=List.length_filter_le (fun x:GE=>decide (x.f=e.f)) (c2.take k)
   have h2:(c2.take k).length≤k:=by rw [List.length_take]; omega
   unfold natI outs
   rw [List.length_map,List.length_map]
   omega
  refine EK_appI (hG.gr.keep fun c hc=>by have:=hnb c hc; rw [hold (by omega),hold (by omega),hold (by omega)]) (hnew _ _ _) hol fun h5 hn5 hf5=>?_
  have gp5:hget h5 (nx+1)=some (.cells os false):=by
   rw [hf5 _ (by omega) (fun e0=>by have:=hnb _ e0; omega),hold (by omega),hold (by omega),hold (by omega)]; exact gp
  have ge5:hget h5 nx4=some (.cells [.int .i64 (e.f:Int),.int .i64 (e.t:Int),.int .i64 e.w] false):=by
   rw [hf5 _ (by omega) (fun e0=>by have:=hnb _ e0; omega),hold (by omega),hnew]
  refine ⟨by omega,?_⟩
  simp (disch:=omega) only [SS,ge5,gp5,hlo,seval]
  refine ⟨by omega,c2.length-(k+1),by omega,k+1,os.set e.f (.slice (some ⟨nx4+1+1,0,some 1⟩) ((natI (outs (c2.take k) e.f)).length+1) ((natI (outs (c2.take k) e.f)).length+1)),fun i=>if i=e.f then some (nx4+1+1) else bs i,rfl,by omega,by rw [wrap_s (by omega)],hnew _ _ _,⟨by rw [List.length_set]; exact hlo,fun i hi=>?_,fun i c hc=>?_,fun i j c hi hj=>?_⟩,fun c h1 h2=>?_,by omega⟩
  ·by_cases hie:i=e.f
   ·subst hie
    refine ⟨_,by rw [List.getElem?_set,if_pos rfl,if_pos (by omega)],?_⟩
    rw [outs_step he,if_pos rfl,if_pos rfl]
    have hn:natI (outs (c2.take k) e.f++[e.t])=natI (outs (c2.take k) e.f)++[(e.t:Int)]:=by unfold natI; rw [List.map_append]; rfl
    rw [hn]
    exact .inr ⟨nx4+1+1,rfl,by rw [List.length_append]; rfl,by rw [hold (by omega),flat_ints]; exact hn5⟩
   ·obtain ⟨oi,hoi,hgi⟩:=L.s i hi
    refine ⟨oi,by rw [List.getElem?_set,if_neg (fun e0=>hie e0.symm)]; exact hoi,?_⟩
    rw [outs_step he,if_neg (fun e0=>hie e0.symm),List.append_nil,if_neg hie]
    refine hgi.keep fun c hc=>?_
    have hb':=L.b i c hc
    rw [hold (by omega),hf5 c (by omega) (fun e0=>hie (L.d i e.f c hc e0)),hold (by omega),hold (by omega),hold (by omega)]
  ·by_cases hie:i=e.f
   ·rw [if_pos hie] at hc; cases hc; omega
   ·rw [if_neg hie] at hc
    have:=L.b i c hc; omega
  ·by_cases hie:i=e.f <;> by_cases hje:j=e.f
   ·omega
   ·rw [if_pos hie] at hi; rw [if_neg hje] at hj; cases hi
    have:=L.b j _ hj; omega
   ·rw [if_neg hie] at hi; rw [if_pos hje] at hj; cases hj
    have:=L.b i _ hi; omega
   ·rw [if_neg hie] at hi; rw [if_neg hje] at hj
    exact L.d i j c hi hj
  ·rw [hold h2,hf5 c (by omega) (fun e0=>by have:=hnb _ e0; omega),hold (by omega),hold (by omega),hold (by omega)]; exact hf4 c h1 h2
 ·have hkc:k=c2.length:=by omega
  subst hkc
  rw [List.take_length] at L
  have hB:=both_has hcan1 htc hcan2
  have g04:=(hf4 nx (by omega) (by omega)).trans g0
  have K4:Keep nx h h4:=fun c hc=>by rw [hf4 c (by omega) (by omega)]; exact K3 c hc
  refine Lp.mk (NeJ1 N nx (nx+1) nx4 c2 h4) N ⟨0,[],.slice none 0 0,none,by omega,by omega,rfl,Vs.nil,fun _ _=>rfl,Nat.le_refl _⟩ ?_
  rintro _ _ h5 nx5 ⟨k,svs,o,bo,rfl,hk5,rfl,V,hf5,hle5⟩
  rw [nearb1]
  unfold nearl1
  by_cases hkN:k<N
  ·obtain ⟨ok,hok',hW⟩:=L.s k hkN
   have hgp:=(hf5 (nx+1) (by omega)).trans gp
   have hg05:=(hf5 nx (by omega)).trans g04
   simp (disch:=omega) only [SS,show (k:Int)<(N:Int) by omega,hgp,hok',hg05,seval]
   refine ⟨?_,fun h=>absurd trivial h⟩
   have hrd:SlRd h5 nx5 ok encI (natI (outs c2 k)):=((hW.nw (fun c e=>L.b k c e)).rd.keep (nx':=nx4) (h':=h5) (fun c hc=>hf5 c hc) (Nat.le_refl _)).keep (Keep.refl _ _) hle5
   refine (fof_c h0 (by omega) hrd (fun x hx=>?_) ?_).mono ?_
   ·unfold outs at hx
    obtain ⟨e,he,rfl⟩:=List.mem_map.1 hx
    exact (hok2 e (List.mem_filter.1 he).1).2.1
   ·have h1:=List.length_filter_le (fun x:GE=>decide (x.f=k)) c2
    unfold outs
    rw [List.length_map]
    omega
   rintro r h6 n6 ⟨b,c,sp,rfl,hb1,hb2,hg6,hk6,hle6⟩
   have hw:mk N (inL (outs c2 k))=mk N (hasB c2 k):=mk_ext fun j _=>outs_in c2 k j
   rw [hw] at hg6
   have V6:=V.keep (h':=h6) (hi':=n6) (fun c h1 h2=>hk6 c h2) hle6
   obtain ⟨ao,co,rfl⟩:=V.g.form
   have hsz:(svs.length+1)*1≤1000000:=by rw [V.len,List.length_map,List.length_range]; omega
   simp (disch:=omega) only [SS,seval]
   refine EK_appg (enc:=encS) (k:=1) (l:=svs) (o:=bo) (fun _=>rfl) (fun _=>rfl) (by omega) (V6.g.gr.keep fun c hc=>by have:=V6.b c hc; rw [hold (by omega)]) ⟨some ⟨b,0,sp⟩,1,c⟩ (hnew _ _ _) rfl hsz fun h7 hn7 hf7=>?_
   simp (disch:=omega) only [SS,wrap_s (show k<1000000000000 by omega),seval]
   refine ⟨N-(k+1),by omega,k+1,svs++[⟨some ⟨b,0,sp⟩,1,c⟩],.slice (some ⟨n6+1,0,some 1⟩) (svs.length+1) (svs.length+1),some (n6+1),rfl,by omega,rfl,?_,fun c hc=>?_,by omega⟩
   ·rw [List.range_succ,List.map_append]
    have V6':Vs (hset h6 n6 (.cells [.slice (some ⟨b,0,sp⟩) 1 c] false)) nx4 (n6+1) svs ((List.range k).map fun i=>[Value.int .u64 (mk N (hasB c2 i):Int)]) _ bo:=V6.keep (fun c h1 h2=>hold (by omega)) (Nat.le_succ _)
    refine V6'.add (.inr ⟨b,sp,rfl,rfl,by omega,by omega,fun e=>?_,?_⟩) (Nat.le_refl _) (by omega) (Nat.lt_succ_self _) (.inr ⟨n6+1,rfl,by rw [List.length_append]; rfl,hn7⟩) (fun c h1 h2 _=>hf7 c (by omega) h2)
    ·have:=(V.b b e).2; omega
    ·rw [hold (by omega)]; exact hg6
   ·rw [hf7 c (by omega) (fun e=>by have:=V.b c e; omega),hold (by omega),hk6 c (by omega)]; exact hf5 c hc
  ·have:k=N:=by omega
   subst this
   simp (disch:=omega) only [SS,show ¬ (k:Int)<(k:Int) by omega,seval]
   refine fun _=>⟨?_,fun c hc=>?_,by omega⟩
   ·have hsl:svs.length=k:=by rw [V.len,List.length_map,List.length_range]
    rcases V.g with ⟨e,_⟩ | ⟨b,rfl,rfl,hg⟩
    ·rw [e] at hsl; simp at hsl; omega
    refine ⟨b,some 1,svs.length,false,flat encS svs,by rw [hsl],by have:=(V.b b rfl).1; omega,(V.b b rfl).2,hg,by rw [flat_len (k:=1) (fun _=>rfl),hsl]; omega,fun i hi=>?_⟩
    obtain ⟨x,hx⟩:=get_ex (l:=svs) (i:=i) (by omega)
    have hfc:=flat_cell (enc:=encS) (k:=1) (fun _=>rfl) hx (j:=0) (by omega)
    rw [Nat.mul_one,Nat.add_zero] at hfc
    refine ⟨_,hfc,?_⟩
    rcases V.s i x [Value.int .u64 (mk k (hasB c2 i):Int)] hx (by rw [List.getElem?_map,List.getElem?_range hi]; rfl) with ⟨e,_⟩ | ⟨b2,sp2,e1,e2,e3,e4,e5,e6⟩
    ·cases e
    ·have hw:mk k (nb gs i)=mk k (hasB c2 i):=mk_ext fun j _=>(hB i j).symm
     rw [hw]
     exact ⟨x.a,x.c,by rw [e2]; rfl,fun _=>⟨b2,sp2,false,by omega,e4,e1,e6⟩⟩
   ·rw [hf5 c (by omega)]; exact K4 c hc
theorem wrapM {n:Nat} (h:n<9223372036854775808):IntKind.wrap .i64 (n:Int)=(n:Int):=wrapD0 (by omega) (by omega)
theorem bin_orI {t:TypeId} {a b:Nat} (ha:a<9223372036854775808) (hb:b<9223372036854775808):bin Q .or t (.int .i64 (a:Int)) (.int .i64 (b:Int)) = .ok (.int .i64 ((a ||| b:Nat):Int)):=by
 show R.ok (Value.int .i64 (IntKind.wrap .i64 ((BitVec.ofInt 64 (a:Int) ||| BitVec.ofInt 64 (b:Int)).toNat:Int)))=_
 rw [BitVec.toNat_or,ofU (n:=a) (by omega),ofU (n:=b) (by omega),wrapM (Nat.or_lt_two_pow (n:=63) ha hb)]
theorem bin_shl12 {t:TypeId} {a:Nat} (ha:a<2147483648):bin Q .shl t (.int .i64 (a:Int)) (.int .u64 12) = .ok (.int .i64 ((a*4096:Nat):Int)):=by
 show iShift .shl .i64 (a:Int) 12=_
 unfold iShift
 show R.ok (Value.int .i64 (fwrap .i64 ((a:Int)*2 ^ (min (12:Int).toNat 64))))=_
 rw [fwrap_eq,show ((a:Int)*2 ^ (min (12:Int).toNat 64))=((a*4096:Nat):Int) from (by show (a:Int)*4096=_; omega),wrapM (by omega)]
theorem or_add {a b:Nat} (hb:b<4096):a*4096 ||| b=a*4096+b:=by
 rw [Nat.mul_comm]
 exact (Nat.two_pow_add_eq_or_of_lt (i:=12) hb a).symm
def DrOk (ds:List Int):Prop:=ds.length≤1000∧∀ x∈ds,0≤x∧x≤2147483647
theorem pnumber_c {s:Bool} {k src len:Int} {N d v:Nat} {ds:List Int} {vd:Value} {h:Hp} {nx:Nat} (hd:SlRd h nx vd encI ds) (hok:DrOk ds) (hN:N≤4096) (hv:v<N) (hd2:d≤1000) :
  Cv Q O s 337 [.agg ⟨[.int .i64 k,.int .i64 (N:Int),.int .i64 src,.int .i64 len,vd]⟩,.int .i64 (d:Int),.int .i64 (v:Int)] h nx (EqK (.int .i64 (numD ds N d v)) nx h):=by
 refine pnumberv ?_
 obtain ⟨a,cap,rfl,hc⟩:=id hd
 unfold pnumber
 have K0:∀ {o},Keep nx h (hset h nx o):=(Keep.refl _ _).set (Nat.le_refl _)
 simp (disch:=omega) only [SS,seval]
 refine pwithin_c.mono ?_
 rintro r h1 n1 ⟨rfl,e1,e2⟩
 rw [e1,e2,inB_t (by omega)]
 have w1:IntKind.wrap .i64 ((N:Int)-1)=(N:Int)-1:=wrapD0 (by omega) (by omega)
 simp (disch:=omega) only [SS,w1,seval]
 refine pwithin_c.mono ?_
 rintro r h1 n1 ⟨rfl,e1,e2⟩
 rw [e1,e2,inB_t (by omega)]
 unfold pnumberk0
 obtain ⟨hl,hb⟩:=hok
 by_cases h0:ds.length=0
 ·have e0:((ds.length:Nat):Int)=0:=by omega
  have es:bin Q .shl 2 (.int .i64 0) (.int .u64 12) = .ok (.int .i64 0):=rfl
  have eo:bin Q .or 2 (.int .i64 0) (.int .i64 (v:Int)) = .ok (.int .i64 (v:Int)):=by
   rw [show (0:Int)=((0:Nat):Int) from rfl,bin_orI (by omega) (by omega),Nat.zero_or]
  simp (disch:=omega) only [SS,e0,es,eo,seval]
  refine fun _=>⟨?_,K0,by omega⟩
  unfold numD
  rw [if_pos h0]; simp
 ·have hpos:0<ds.length:=by omega
  have hlt:(d*N+v) % ds.length<ds.length:=Nat.mod_lt _ hpos
  obtain ⟨x,hx⟩:=get_ex (l:=ds) hlt
  obtain ⟨hx0,hx1⟩:=hb x (List.mem_of_getElem? hx)
  obtain ⟨y,rfl⟩:∃ y:Nat,x=(y:Int):=⟨x.toNat,by omega⟩
  obtain ⟨b,sp,ro,hb1,rfl,hg⟩:=hc (fun e=>by rw [e] at hpos; simp at hpos)
  rw [flat_ints] at hg
  have hg':=(K0 (o:=.cells [.int .i64 k,.int .i64 (N:Int),.int .i64 src,.int .i64 len,.slice (some ⟨b,0,sp⟩) ds.length cap] false) b hb1).trans hg
  have hdn:d*N≤4096000:=Nat.mul_le_mul (n₁:=d) (n₂:=1000) (m₁:=N) (m₂:=4096) (by omega) (by omega)
  have m1:IntKind.wrap .i64 ((d:Int)*(N:Int))=((d*N:Nat):Int):=by
   rw [show ((d:Int)*(N:Int))=((d*N:Nat):Int) by rw [Int.natCast_mul]]; exact wrapM (by omega)
  have m2:IntKind.wrap .i64 (((d*N:Nat):Int)+(v:Int))=((d*N+v:Nat):Int):=by
   rw [show (((d*N:Nat):Int)+(v:Int))=((d*N+v:Nat):Int) by omega]; exact wrapM (by omega)
  have m3:bin Q .rem 3 (.int .i64 ((d*N+v:Nat):Int)) (.int .i64 (ds.length:Int)) = .ok (.int .i64 (((d*N+v) % ds.length:Nat):Int)):=by
   rw [bin_rem (by omega)]
   rfl
  have eo:bin Q .or 2 (.int .i64 ((y*4096:Nat):Int)) (.int .i64 (v:Int)) = .ok (.int .i64 ((y*4096+v:Nat):Int)):=by
   rw [bin_orI (by omega) (by omega),or_add (by omega)]
  simp (disch:=omega) only [SS,show (0:Int)<(ds.length:Int) by omega,bin_mul,m1,m2,m3,hg',ints_get hx,bin_shl12 (show y<2147483648 by omega),eo,seval]
  refine ⟨⟨?_,K0,by omega⟩,fun h=>absurd trivial h⟩
  unfold numD
  rw [if_neg h0,hx]
  show Value.int .i64 ((y*4096+v:Nat):Int)=Value.int .i64 ((y:Int)*4096+(v:Int))
  congr 1
theorem pdraw_c {s:Bool} {k src len:Int} {N d v:Nat} {ds:List Int} {vd:Value} {h:Hp} {nx:Nat} (hd:SlRd h nx vd encI ds) (hok:DrOk ds) (hp:planE k N src len ds=0) (hN:N≤4096) (hv:v<N) (hd2:d≤1000) :
  Cv Q O s 271 [.agg ⟨[.int .i64 k,.int .i64 (N:Int),.int .i64 src,.int .i64 len,vd]⟩,.int .i64 (d:Int),.int .i64 (v:Int)] h nx (EqK (.int .i64 (numD ds N d v)) nx h):=by
 refine pdrawv ?_
 obtain ⟨a,cap,rfl,hc⟩:=id hd
 unfold pdraw
 have K0:∀ {o},Keep nx h (hset h nx o):=(Keep.refl _ _).set (Nat.le_refl _)
 simp (disch:=omega) only [SS,seval]
 refine (pright0_c (hd.keep K0 (by omega))).mono ?_
 rintro r h1 n1 ⟨rfl,hk1,hle1⟩
 have g:=hk1 nx (by omega)
 rw [hnew] at g
 rw [hp]
 simp (disch:=omega) only [SS,g,seval]
 refine (pnumber_c ((hd.keep K0 (by omega)).keep hk1 (by omega)) hok hN hv hd2).mono ?_
 rintro r h2 n2 ⟨rfl,hk2,hle2⟩
 exact ⟨rfl,(K0.trans hk1 (by omega)).trans hk2 (by omega),by omega⟩
theorem conti_c {s:Bool} {f:Nat} {cl:List Value} {p:Int→Bool} {v:Value} {l:List Int} {h:Hp} {nx:Nat} (hv:SlRd h nx v encI l) (hl:l.length<1000000) (hf:∀ x∈l,∀ (h':Hp) (nx':Nat),Keep nx h h'→nx≤nx'→Cv Q O s f (.int .i64 x::cl) h' nx' (EqK (.bool (p x)) nx' h')) :
  Cv Q O s 272 [v,.func (.func f) ⟨[]⟩ ⟨cl⟩] h nx (EqK (.bool (l.any p)) nx h):=by
 refine contiv ?_
 obtain ⟨a,cap,rfl,hc⟩:=id hv
 unfold conti
 refine (indexiv (K:=fun r h' nx'=>Keep nx h h'∧nx≤nx'∧∃ i:Int,r = .int .i64 i∧(i<0↔l.any p=false)) ?_).mono ?_
 ·unfold indexi
  simp (disch:=omega) only [SS,seval]
  refine Lp.mk (IxJ p l (.slice a l.length cap) (.func (.func f) ⟨[]⟩ ⟨cl⟩) nx h) l.length ⟨0,rfl,by omega,rfl,Keep.refl _ _,Nat.le_refl _,fun x hx=>by simp at hx⟩ ?_
  rintro m _ h' nx' ⟨i,rfl,hi,rfl,hk,hle,hno⟩
  rw [indexib0]
  unfold indexil0
  simp (disch:=omega) only [SS,seval]
  refine ⟨fun hlt=>?_,fun hge=>?_⟩
  ·obtain ⟨x,hx⟩:=get_ex hlt
   obtain ⟨_,b,sp,ro,c1,hb,e1,hg⟩:=hv.at hx
   cases e1
   rw [flat_ints] at hg
   simp (disch:=omega) only [SS,(hk b hb).trans hg,ints_get hx,seval]
   refine (hf x (List.mem_of_getElem? hx) h' nx' hk hle).mono ?_
   rintro r h2 nx2 ⟨rfl,hk2,hle2⟩
   rw [IF_b]
   refine ⟨fun hp=>?_,fun hp=>?_⟩
   ·refine ⟨hk.trans hk2 hle,by omega,_,rfl,⟨fun h=>absurd h (by omega),fun h=>?_⟩⟩
    rw [List.any_eq_false] at h
    exact absurd hp (h x (List.mem_of_getElem? hx))
   ·simp (disch:=omega) only [SS,wrap_s (show i<1000000000000 by omega),seval]
    exact ⟨l.length-(i+1),by omega,i+1,rfl,by omega,rfl,hk.trans hk2 hle,by omega,take_s hx hno hp⟩
  ·have:i=l.length:=by omega
   subst this
   rw [List.take_length] at hno
   exact ⟨hk,hle,_,rfl,⟨fun _=>any_f hno,fun _=>by omega⟩⟩
 ·rintro r h' nx' ⟨hk,hle,i,rfl,hi⟩
  simp (disch:=omega) only [SS,seval]
  refine ⟨?_,hk,hle⟩
  cases ha:l.any p with
  | false=>rw [decide_eq_true (hi.2 ha)]; rfl
  | true =>
   have:¬ i<0:=fun h=>by rw [hi.1 h] at ha; cases ha
   rw [decide_eq_false this]; rfl
theorem least_c {s:Bool} {k src len:Int} {N d v:Nat} {ds:List Int} {vd vf:Value} {q:Nat→Bool} {h:Hp} {nx:Nat} (hd:SlRd h nx vd encI ds) (hok:DrOk ds) (hp:planE k N src len ds=0) (hN:N≤63) (hv:v<N) (hd2:d≤1000) (hf:SlRd h nx vf encU [mk N q]) :
  Cv Q O s 190 [.agg ⟨[.int .i64 k,.int .i64 (N:Int),.int .i64 src,.int .i64 len,vd]⟩,.int .i64 (d:Int),.int .i64 (v:Int),vf] h nx (EqK (.bool ((fl N q).all fun u=>!decide (numD ds N d u≤numD ds N d v))) nx h):=by
 refine leastv ?_
 obtain ⟨a,cap,rfl,hc⟩:=id hd
 unfold least
 have K0:∀ {o o'},Keep nx h (hset (hset h nx o) (nx+1) o'):=((Keep.refl _ _).set (Nat.le_refl _)).set (Nat.le_succ _)
 simp (disch:=omega) only [SS,seval]
 refine (pdraw_c (hd.keep K0 (by omega)) hok hp (by omega) hv hd2).mono ?_
 rintro r h1 n1 ⟨rfl,hk1,hle1⟩
 simp (disch:=omega) only [SS,seval]
 have K1:Keep nx h h1:=K0.trans hk1 (by omega)
 have K2:∀ {o o'},Keep nx h (hset (hset h1 n1 o) n1 o'):=(K1.set (by omega)).set (by omega)
 refine (flist_c hN ((hf.keep K2 (nx':=nx) (Nat.le_refl _)).keep (Keep.refl _ _) (by omega))).mono ?_
 rintro r h2 n2 ⟨bo,hW,hbo,hk2,hle2⟩
 have hL:=(hW.nw hbo).rd
 have g0:=hk2 nx (by omega)
 rw [hold (by omega),hold (by omega),hk1 nx (by omega),hold (by omega),hnew] at g0
 have g1:=hk2 (nx+1) (by omega)
 rw [hold (by omega),hold (by omega),hk1 (nx+1) (by omega),hnew] at g1
 have g2:=hk2 n1 (by omega)
 rw [hnew] at g2
 obtain ⟨al,cl,rfl⟩:=hW.form
 refine (conti_c (p:=fun x=>decide (numD ds N d x.toNat≤numD ds N d v)) hL (by unfold natI; rw [List.length_map]; have:=fl_len N q; omega) fun x hx h3 n3 hk3 hle3=>?_).mono ?_
 ·obtain ⟨u,hu,rfl⟩:=List.mem_map.1 hx
  have huN:=(mem_fl.1 hu).1
  refine least1v ?_
  unfold least1
  have g03:=(hk3 nx (by omega)).trans g0
  have g13:=(hk3 (nx+1) (by omega)).trans g1
  have g23:=(hk3 n1 (by omega)).trans g2
  simp (disch:=omega) only [SS,g03,g13,seval]
  have hd3:SlRd h3 n3 (.slice a ds.length cap) encI ds:=(hd.keep (nx':=nx) (h':=h3) (fun c hc=>by rw [hk3 c (by omega),hk2 c (by omega)]; exact K2 c hc) (Nat.le_refl _)).keep (Keep.refl _ _) (by omega)
  refine (pdraw_c hd3 hok hp (by omega) huN hd2).mono ?_
  rintro r h4 n4 ⟨rfl,hk4,hle4⟩
  have g24:=(hk4 n1 (by omega)).trans g23
  refine ⟨hle4,?_⟩
  simp (disch:=omega) only [SS,g24,g23,seval]
  refine ⟨?_,hk4,hle4⟩
  rw [Int.toNat_natCast]
  by_cases hc2:numD ds N d v<numD ds N d u
  ·rw [decide_eq_true hc2,decide_eq_false (by omega)]; rfl
  ·rw [decide_eq_false hc2,decide_eq_true (by omega)]; rfl
 ·rintro r h3 n3 ⟨rfl,hk3,hle3⟩
  simp (disch:=omega) only [SS,seval]
  refine ⟨?_,fun c hc=>by rw [hk3 c (by omega),hk2 c (by omega)]; exact K2 c hc,by omega⟩
  congr 1
  unfold natI
  rw [List.any_map,List.all_eq_not_any_not]
  congr 2
  funext u
  simp
noncomputable def rfa2:Code:=(rfAt Tryz.prog 187).1
noncomputable def rfb2:Code:=(rfAt Tryz.prog 187).2
theorem app187:AppAt Q (.slice none 0 0) 187 rfa2 rfb2:=⟨by kernel_rfl,by kernel_rfl,by kernel_rfl⟩
def JiJ (pg pp l d N:Nat) (vb vf vl:Value) (F:List Nat) (P:Nat→Bool) (n0:Nat) (h0:Hp) (m:Nat) (vs:List Value) (h':Hp) (nx':Nat):Prop :=
 ∃ (i:Nat) (o:Value) (b:Option Nat),m=F.length-i∧i≤F.length∧vs=[.func (.yield l) ⟨[]⟩ ⟨[]⟩,.pointer (some ⟨pg,0,none⟩),.pointer (some ⟨pp,0,none⟩),vb,vf,.int .i64 (d:Int),o,vl,.int .i64 (F.length:Int),.int .i64 (i:Int)] ∧
  Ow h' encI o (natI ((F.take i).filter P)) b∧(∀ c,b=some c→n0≤c∧c<nx')∧Keep n0 h0 h'∧n0≤nx'
theorem jn_eq {gs:List GE} {num:Nat→Nat→Int} {N d:Nat} {q:Nat→Bool}:(fl N q).filter (lst gs num N d q)=jn gs num N d q:=by
 unfold jn fl
 rw [List.filter_filter]
 congr 1
 funext v
 exact Bool.and_comm _ _
structure JoinIn (B N:Nat) (gs:List GE) (k src len:Int) (ds:List Int) (pg pp:Nat) (v vd:Value) (h:Hp):Prop where
 g:hget h pg=some (.cells [.int .i64 (N:Int),v] false)
 p:hget h pp=some (.cells [.int .i64 k,.int .i64 (N:Int),.int .i64 src,.int .i64 len,vd] false)
 v:SlPx h B v encG gs
 d:SlRd h B vd encI ds
 hpg:pg<B
 hpp:pp<B
theorem JoinIn.keep {B N:Nat} {gs:List GE} {k src len:Int} {ds:List Int} {pg pp:Nat} {v vd:Value} {h h':Hp} (J:JoinIn B N gs k src len ds pg pp v vd h) (hk:Keep B h h'):JoinIn B N gs k src len ds pg pp v vd h' :=
 ⟨by rw [hk _ J.hpg]; exact J.g,by rw [hk _ J.hpp]; exact J.p,J.v.keep hk (Nat.le_refl _),J.d.keep hk (Nat.le_refl _),J.hpg,J.hpp⟩
theorem inner_c {s:Bool} {B N l d lo fb fc:Nat} {fsp:Option Nat} {gs:List GE} {k src len:Int} {ds:List Int} {pg pp:Nat} {v vd vb:Value} {q:Nat→Bool} {h:Hp} {nx:Nat} {N0:KVl} (J:JoinIn B N gs k src len ds pg pp v vd h) (h0:1≤N) (h1:N≤63) (hds:DrOk ds) (hp:planE k N src len ds=0) (hd2:d≤1000) (hB:B≤nx)
  (hby:ByIs h lo nx vb N (nb gs)) (hfb:fb<nx) (hf:hget h fb=some (.cells [.int .u64 (mk N q:Int)] false)) {vl:Value} (hL:SlRd h nx vl encI (natI (fl N q)))
  (hN:∀ o b h' nx',Ow h' encI o (natI (jn gs (numD ds N) N d q)) b→(∀ c,b=some c→nx≤c∧c<nx')→Keep nx h h'→nx≤nx'→N0 [.func (.yield l) ⟨[]⟩ ⟨[]⟩,.pointer (some ⟨pg,0,none⟩),.pointer (some ⟨pp,0,none⟩),vb,.slice (some ⟨fb,0,fsp⟩) 1 fc,.int .i64 (d:Int),o,vl,.int .i64 ((fl N q).length:Int),.int .i64 ((fl N q).length:Int)] h' nx') :
  Lp (fL Q O s joins1L 188 1) [.func (.yield l) ⟨[]⟩ ⟨[]⟩,.pointer (some ⟨pg,0,none⟩),.pointer (some ⟨pp,0,none⟩),vb,.slice (some ⟨fb,0,fsp⟩) 1 fc,.int .i64 (d:Int),.slice none 0 0,vl,.int .i64 ((fl N q).length:Int),.int .i64 0] h nx [(2,N0)] (fun _ _ _=>False):=by
 obtain ⟨al,cl,rfl,hcl⟩:=id hL
 obtain ⟨bb,bsp,bc,bro,os,rfl,hb0,hb1,hb2,hb3,hb4⟩:=id hby
 obtain ⟨ad,cd,rfl,hcd⟩:=id J.d
 have hFl:(fl N q).length≤N:=fl_len N q
 have hnl:(natI (fl N q)).length=(fl N q).length:=by unfold natI; rw [List.length_map]
 refine Lp.mk (JiJ pg pp l d N _ _ _ (fl N q) (lst gs (numD ds N) N d q) nx h) (fl N q).length ⟨0,_,none,by omega,by omega,rfl,by rw [List.take_zero]; exact .nil,fun c e=>(by cases e),Keep.refl _ _,Nat.le_refl _⟩ ?_
 rintro _ _ h' nx' ⟨i,o,b,rfl,hi,rfl,hW,hb,hk,hle⟩
 rw [joins1b1]
 unfold joins1l1
 simp (disch:=omega) only [SS,seval]
 refine ⟨fun hlt=>?_,fun hge=>?_⟩
 ·obtain ⟨x,hx⟩:=get_ex hlt
  have hxI:(natI (fl N q))[i]? = some (x:Int):=by unfold natI; rw [List.getElem?_map,hx]; rfl
  obtain ⟨_,b2,sp2,ro2,c1,hb5,e1,hg2⟩:=hL.at hxI
  cases e1
  rw [flat_ints] at hg2
  have hxm:=List.mem_of_getElem? hx
  obtain ⟨hxN,hxq⟩:=mem_fl.1 hxm
  obtain ⟨ox,hox,hsx⟩:=hb4 x hxN
  have hgp:=(hk pp (by have:=J.hpp; omega)).trans J.p
  simp (disch:=omega) only [SS,(hk b2 hb5).trans hg2,ints_get hxI,(hk bb hb1).trans hb2,hox,seval]
  have hfr:SlRd h' nx' (.slice (some ⟨fb,0,fsp⟩) 1 fc) encU [mk N q]:=⟨_,_,rfl,fun _=>⟨fb,fsp,false,by omega,rfl,(hk fb hfb).trans hf⟩⟩
  refine (fboth_c (p:=nb gs x) (q:=q) (by omega) (hsx.rd.keep hk hle) hfr).mono ?_
  intro r h2 n2 hr
  have hk2:Keep nx' h' h2:=by obtain ⟨_,_,_,_,_,_,_,e,_⟩:=hr; exact e
  have hle2:nx'≤n2:=by obtain ⟨_,_,_,_,_,_,_,_,e⟩:=hr; exact e
  have hgp2:=(hk2 pp (by have:=J.hpp; omega)).trans hgp
  refine ⟨hle2,?_⟩
  simp (disch:=omega) only [SS,hgp2,hgp,seval]
  have hd2':SlRd h2 n2 (.slice ad ds.length cd) encI ds:=(J.d.keep (nx':=B) (h':=h2) (fun c hc=>by rw [hk2 c (by omega),hk c (by omega)]) (Nat.le_refl _)).keep (Keep.refl _ _) (by omega)
  refine (least_c hd2' hds hp (by omega) hxN hd2 hr.rd).mono ?_
  rintro r h3 n3 ⟨rfl,hk3,hle3⟩
  refine ⟨hle3,?_⟩
  have hP:((fl N fun u=>nb gs x u&&q u).all fun u=>!decide (numD ds N d u≤numD ds N d x))=lst gs (numD ds N) N d q x:=rfl
  rw [hP]
  have htk:((fl N q).take (i+1)).filter (lst gs (numD ds N) N d q)=((fl N q).take i).filter (lst gs (numD ds N) N d q)++(if lst gs (numD ds N) N d q x then [x] else []):=by
   rw [List.take_add_one,hx,List.filter_append]
   cases hl:lst gs (numD ds N) N d q x <;> simp [hl]
  have K3:Keep nx' h' h3:=hk2.trans hk3 hle2
  have hlen:(natI (((fl N q).take i).filter (lst gs (numD ds N) N d q))).length<1000000:=by
   unfold natI
   rw [List.length_map]
   have h1:=List.length_filter_le (lst gs (numD ds N) N d q) ((fl N q).take i)
   have h2:((fl N q).take i).length≤i:=by rw [List.length_take]; omega
   omega
  cases hl:lst gs (numD ds N) N d q x with
  | true =>
   simp (disch:=omega) only [SS,seval]
   refine EK_appI (hW.gr.keep fun c hc=>by have:=hb c hc; rw [hold (by omega),K3 c (by omega)]) (hnew _ _ _) hlen fun h5 hn5 hf5=>?_
   simp (disch:=omega) only [SS,wrap_s (show i<1000000000000 by omega),seval]
   refine ⟨(fl N q).length-(i+1),by omega,i+1,_,some (n3+1),rfl,by omega,rfl,.inr ⟨n3+1,rfl,?_,?_⟩,fun c e=>by cases e; omega,fun c hc=>?_,by omega⟩
   ·rw [htk,hl,if_pos rfl]
    unfold natI
    rw [List.map_append,List.length_append]
    rfl
   ·rw [hn5,htk,hl,if_pos rfl,flat_ints]
    unfold natI
    rw [List.map_append]
    rfl
   ·rw [hf5 c (by omega) (fun e=>by have:=hb c e; omega),hold (by omega),K3 c (by omega)]; exact hk c hc
  | false =>
   simp (disch:=omega) only [SS,wrap_s (show i<1000000000000 by omega),seval]
   refine ⟨(fl N q).length-(i+1),by omega,i+1,o,b,rfl,by omega,rfl,?_,fun c e=>by have:=hb c e; omega,hk.trans K3 hle,by omega⟩
   rw [htk,hl]
   simp only [Bool.false_eq_true,if_false,List.append_nil]
   exact hW.keep fun c hc=>K3 c (hb c hc).2
 ·have:i=(fl N q).length:=by omega
  subst this
  rw [List.take_length,jn_eq] at hW
  exact hN o b h' nx' hW hb hk hle
def asL (l:List (List Nat)):List (List Value):=l.map fun l=>ints (natI l)
structure JoJ (gs:List GE) (num:Nat→Nat→Int) (N l p pg pp lo:Nat) (vb:Value) (h0:Hp) (m:Nat) (vs:List Value) (h':Hp) (nx':Nat) (d r:Nat) (q:Nat→Bool) (done:List (List Nat)) (fb fc:Nat) (fsp:Option Nat) (svs:List Sv) (o:Value) (bo:Option Nat):Prop where
 hm:m=(fl N q).length
 hr:(fl N q).length≤r
 hdr:d+r=N
 hvs:vs=[.func (.yield l) ⟨[]⟩ ⟨[]⟩,.pointer (some ⟨pg,0,none⟩),.pointer (some ⟨pp,0,none⟩),vb,.slice (some ⟨fb,0,fsp⟩) 1 fc,.int .i64 (d:Int)]
 hf:hget h' fb=some (.cells [.int .u64 (mk N q:Int)] false)
 hfb:fb<nx'
 hfl:fb≠l∧fb≠p
 hfo:bo≠some fb
 hc:Col l p rfa2 rfb2 h' o
 hv:Vs h' lo nx' svs (asL done) o bo
 hdone:done++jsM gs num N r d q=jsM gs num N N 0 (fun _=>true)
 hk:∀ c,c<lo→c≠l→c≠p→hget h' c=hget h0 c
 hle:lo≤nx'
def JoI (gs:List GE) (num:Nat→Nat→Int) (N l p pg pp lo:Nat) (vb:Value) (h0:Hp) (m:Nat) (vs:List Value) (h':Hp) (nx':Nat):Prop :=
 ∃ d r q done fb fc fsp svs o bo,JoJ gs num N l p pg pp lo vb h0 m vs h' nx' d r q done fb fc fsp svs o bo
theorem jsM_nil {gs:List GE} {num:Nat→Nat→Int} {N r d:Nat} {q:Nat→Bool} (h:fl N q=[]):jsM gs num N r d q=[]:=by
 cases r with
 | zero=>rfl
 | succ r=>rw [jsM,if_pos h]
theorem jsM_cons {gs:List GE} {num:Nat→Nat→Int} {N r d:Nat} {q:Nat→Bool} (h:fl N q≠[]):jsM gs num N (r+1) d q=jn gs num N d q::jsM gs num N r (d+1) (nxt gs num N d q):=by
 rw [jsM,if_neg h]
theorem joins1_c {s:Bool} {B N l p:Nat} {gs:List GE} {k src len:Int} {ds:List Int} {pg pp:Nat} {v vd:Value} {h:Hp} {nx:Nat} (J:JoinIn B N gs k src len ds pg pp v vd h) (h0:1≤N) (h1:N≤63) (hds:DrOk ds) (hp:planE k N src len ds=0) (hl60:gs.length≤60) (hok:∀ g∈gs,GOk N g)
  (hBl:B≤l) (hBp:B≤p) (hl:l<nx) (hpx:p<nx) (hlp:l≠p) (hBn:B≤nx) (C:Col l p rfa2 rfb2 h (.slice none 0 0)) :
  Cv Q O s 188 [.func (.yield l) ⟨[]⟩ ⟨[]⟩,.pointer (some ⟨pg,0,none⟩),.pointer (some ⟨pp,0,none⟩)] h nx (fun _ h' nx'=>∃ svs o bo,Col l p rfa2 rfb2 h' o∧Vs h' nx nx' svs (asL (jsM gs (numD ds N) N N 0 (fun _=>true))) o bo∧(∀ c,c<nx→c≠l→c≠p→hget h' c=hget h c)∧nx≤nx'):=by
 have hinj:∀ d u v,u<N→v<N→numD ds N d u=numD ds N d v→u=v:=fun d u v hu hv e=>numD_inj (by omega) (by omega) e
 refine joins1v ?_
 obtain ⟨a,cap,rfl,hc⟩:=id J.v
 unfold joins1
 simp (disch:=omega) only [SS,J.g,seval]
 refine (near_c (J.v.keep (Keep.refl _ _) hBn) h0 h1 hl60 hok).mono ?_
 rintro vb h2 nx2 ⟨hby,hk2,hle2⟩
 have J2:=J.keep (h':=h2) (fun c hc=>hk2 c (by omega))
 simp (disch:=omega) only [SS,J2.g,seval]
 refine (fflip_c h0 (by omega)).mono ?_
 rintro r h3 nx3 ⟨fb,fc,fsp,rfl,hfb1,hfb2,hfb,hk3,hle3⟩
 have hK3:Keep nx h h3:=hk2.trans hk3 hle2
 have hby3:=hby.keep (h':=h3) (fun b h1 h2=>hk3 b h2) (Nat.le_refl _) hle3
 have C3:Col l p rfa2 rfb2 h3 (.slice none 0 0):=C.keep (hK3 l hl) (hK3 p hpx)
 have hobv:=id hby3
 obtain ⟨bb,bsp,bc,bro,os,rfl,_⟩:=hobv
 refine Lp.mk (JoI gs (numD ds N) N l p pg pp nx3 (.slice (some ⟨bb,0,bsp⟩) N bc) h3) (fl N (fun _=>true)).length ⟨0,N,fun _=>true,[],fb,fc,fsp,[],_,none,⟨rfl,fl_len _ _,by omega,rfl,hfb,hfb2,by omega,fun e=>(by cases e),C3,Vs.nil,rfl,fun _ _ _ _=>rfl,Nat.le_refl _⟩⟩ ?_
 rintro m vs h4 nx4 ⟨d,r,q,done,fb,fc,fsp,svs,o,bo,I⟩
 obtain rfl:=I.hm
 obtain rfl:=I.hvs
 rw [joins1b0]
 unfold joins1l0
 have hk34:Keep B h3 h4:=fun c hc=>I.hk c (by omega) (by omega) (by omega)
 have J4:=(J2.keep (h':=h3) (fun c hc=>hk3 c (by omega))).keep hk34
 have hfr:SlRd h4 nx4 (.slice (some ⟨fb,0,fsp⟩) 1 fc) encU [mk N q]:=⟨_,_,rfl,fun _=>⟨fb,fsp,false,I.hfb,rfl,I.hf⟩⟩
 refine (flist_c h1 hfr).mono ?_
 rintro vl h5 nx5 ⟨lb,hW5,hlb,hk5,hle5⟩
 have hL5:=(hW5.nw hlb).rd
 obtain ⟨al,cl,rfl⟩:=hW5.form
 have hnl:(natI (fl N q)).length=(fl N q).length:=by unfold natI; rw [List.length_map]
 rw [hnl]
 rw [hnl] at hL5
 simp (disch:=omega) only [SS,seval]
 have J5:=J4.keep (h':=h5) (fun c hc=>hk5 c (by have:=I.hle; omega))
 have hby5:ByIs h5 nx nx5 (.slice (some ⟨bb,0,bsp⟩) N bc) N (nb gs):=hby3.keep (fun b h1 h2=>by rw [hk5 b (by have:=I.hle; omega)]; exact I.hk b h2 (by omega) (by omega)) (Nat.le_refl _) (by have:=I.hle; omega)
 have hf5:=(hk5 fb I.hfb).trans I.hf
 have hdN:d≤1000:=by have:=I.hdr; omega
 refine inner_c (k:=k) (src:=src) (len:=len) (ds:=ds) J5 h0 h1 hds hp hdN (by have:=I.hle; omega) hby5 (by have:=I.hfb; omega) hf5 hL5 fun o6 b6 h6 nx6 hW6 hb6 hk6 hle6=>?_
 have hle46:nx4≤nx6:=by omega
 have hf46:∀ c,c<nx4→hget h6 c=hget h4 c:=fun c hc=>by rw [hk6 c (by omega),hk5 c hc]
 have hf6:=(hf46 fb I.hfb).trans I.hf
 have hlx:l<nx4:=by have:=I.hle; omega
 have hpx4:p<nx4:=by have:=I.hle; omega
 have C6:Col l p rfa2 rfb2 h6 o:=I.hc.keep (hf46 l hlx) (hf46 p hpx4)
 have V6:Vs h6 nx3 nx6 svs (asL done) o bo:=I.hv.keep (fun c h1 h2=>hf46 c h2) hle46
 have hfr6:SlRd h6 nx6 (.slice (some ⟨fb,0,fsp⟩) 1 fc) encU [mk N q]:=⟨_,_,rfl,fun _=>⟨fb,fsp,false,by have:=I.hfb; omega,rfl,hf6⟩⟩
 refine (fcount_c h1 hfr6).mono ?_
 rintro r' h6' n6' ⟨rfl,e1,e2⟩
 rw [e1,e2]
 by_cases hq0:fl N q=[]
 ·rw [hq0]
  simp (disch:=omega) only [SS,@List.length_nil Nat,show ((0:Nat):Int)=0 from rfl,seval]
  refine ⟨svs,o,bo,C6,?_,fun c h1 h2 h3=>?_,by have:=I.hle; omega⟩
  ·have hd:=I.hdone
   rw [jsM_nil hq0,List.append_nil] at hd
   rw [← hd]
   exact ⟨V6.g,fun c e=>⟨by have:=(V6.b c e).1; omega,(V6.b c e).2⟩,V6.len,fun i x cs h1 h2=>by
    rcases V6.s i x cs h1 h2 with e | ⟨b,sp,e1,e2,e3,e4,e5,e6⟩
    ·exact .inl e
    ·exact .inr ⟨b,sp,e1,e2,by omega,e4,e5,e6⟩⟩
  ·rw [hf46 c (by have:=I.hle; omega),I.hk c (by omega) h2 h3]; exact hK3 c h1
 ·have hpos:0<(fl N q).length:=List.length_pos_iff.2 hq0
  have hne:(((fl N q).length:Int) == 0)=false:=by rw [beq_eq_false_iff_ne]; omega
  obtain ⟨r0,rfl⟩:∃ r0,r=r0+1:=⟨r-1,by have:=I.hr; omega⟩
  simp (disch:=omega) only [SS,hne,seval]
  obtain ⟨a6,c6,rfl⟩:=hW6.form
  show Yv Q O s l [.slice a6 (natI (jn gs (numD ds N) N d q)).length c6] h6 nx6 _
  have hdl:done.length≤N:=by
   have h1:∀ (r d:Nat) (q:Nat→Bool),(jsM gs (numD ds N) N r d q).length≤r:=by
    intro r
    induction r with
    | zero=>intro d q; exact Nat.le_refl _
    | succ r ih =>
     intro d q
     rw [jsM]
     split
     ·simp
     ·have:=ih (d+1) (nxt gs (numD ds N) N d q)
      rw [List.length_cons]; omega
   have h2:=congrArg List.length I.hdone
   rw [List.length_append] at h2
   have:=h1 N 0 (fun _=>true)
   omega
  have hsvl:svs.length=done.length:=by rw [V6.len]; unfold asL; rw [List.length_map]
  refine Yv_app app187 (enc:=encS) (x:=⟨a6,(natI (jn gs (numD ds N) N d q)).length,c6⟩) (fun _=>rfl) (fun _=>rfl) rfl rfl C6 V6.g hlp (by omega) (by omega) (fun c e=>⟨by have:=(V6.b c e).1; omega,by have:=(V6.b c e).1; omega,(V6.b c e).2⟩) (by omega) fun h7 o7 hC7 hW7 hf7=>?_
  have hjl:(jn gs (numD ds N) N d q).length<1000000:=by
   have:=fl_len N (fun v=>q v&&lst gs (numD ds N) N d q v)
   unfold jn; omega
  have hf47:∀ c,c<nx4→c≠l→c≠p→bo≠some c→hget h7 c=hget h4 c:=fun c h1 h2 h3 h4=>by rw [hf7 c (by omega) h2 h3 h4]; exact hf46 c h1
  have hKB:Keep B h5 h7:=fun c hc=>by
   rw [hf7 c (by omega) (by omega) (by omega) (fun e=>by have:=(V6.b c e).1; omega),hk6 c (by have:=I.hle; omega)]
  have J7:=J5.keep hKB
  have hx6:SvIs h6 nx3 nx6 bo ⟨a6,(natI (jn gs (numD ds N) N d q)).length,c6⟩ (ints (natI (jn gs (numD ds N) N d q))):=by
   rcases hW6 with ⟨e1,e2,e3⟩ | ⟨b,rfl,e2,hg⟩
   ·injection e2 with x1 x2 x3
    rw [e1,x1,x3]
    exact .inl ⟨rfl,rfl⟩
   ·cases e2
    refine .inr ⟨b,some 1,rfl,by rw [ints_len],by have:=(hb6 b rfl).1; have:=I.hle; omega,(hb6 b rfl).2,fun e=>?_,by rw [← flat_ints]; exact hg⟩
    have:=(V6.b b e).2
    have:=(I.hv.b b e).2
    have:=(hb6 b rfl).1
    omega
  have hL7:SlRd h7 (nx6+1+1) (.slice a6 (natI (jn gs (numD ds N) N d q)).length c6) encI (natI (jn gs (numD ds N) N d q)):=by
   rcases hW6 with ⟨e1,e2,e3⟩ | ⟨b,rfl,e2,hg⟩
   ·injection e2 with x1 x2 x3
    rw [e1,x1,x3]
    exact ⟨none,0,rfl,fun h=>absurd rfl h⟩
   ·cases e2
    refine ⟨_,_,rfl,fun _=>⟨b,some 1,false,by have:=(hb6 b rfl).2; omega,rfl,?_⟩⟩
    have hb1:=(hb6 b rfl).1
    have hb2:=(hb6 b rfl).2
    rw [hf7 b hb2 (by omega) (by omega) (fun e=>by have:=(I.hv.b b e).2; omega)]
    exact hg
  have V7:Vs h7 nx3 (nx6+1+1) (svs++[⟨a6,(natI (jn gs (numD ds N) N d q)).length,c6⟩]) (asL (done++[jn gs (numD ds N) N d q])) o7 (some (nx6+1)):=by
   unfold asL
   rw [List.map_append]
   exact V6.add hx6 (by omega) (by have:=I.hle; omega) (by omega) hW7 (fun c h1 h2 h3=>hf7 c h1 (by omega) (by omega) h2)
  simp (disch:=omega) only [SS,J7.g,seval]
  refine (fof_c h0 (by omega) hL7 (fun x hx=>(mem_fl.1 hx).1) hjl).mono ?_
  intro r8 h8 n8 hr8
  obtain ⟨b8,c8,sp8,rfl,hb81,hb82,hg8,hk8,hle8⟩:=id hr8
  refine ⟨hle8,?_⟩
  have hf7b:=(hf47 fb I.hfb I.hfl.1 I.hfl.2 I.hfo).trans I.hf
  have hfr8:SlRd h8 n8 (.slice (some ⟨fb,0,fsp⟩) 1 fc) encU [mk N q]:=⟨_,_,rfl,fun _=>⟨fb,fsp,false,by have:=I.hfb; omega,rfl,(hk8 fb (by have:=I.hfb; omega)).trans hf7b⟩⟩
  refine (fminus_c (p:=q) (q:=inL (jn gs (numD ds N) N d q)) (by omega) hfr8 hr8.rd).mono ?_
  intro r9 h9 n9 hr9
  obtain ⟨b9,c9,sp9,rfl,hb91,hb92,hg9,hk9,hle9⟩:=id hr9
  refine ⟨hle9,?_⟩
  have J8:=J7.keep (h':=h8) (fun c hc=>hk8 c (by omega))
  have J9:=J8.keep (h':=h9) (fun c hc=>hk9 c (by omega))
  simp (disch:=omega) only [SS,J9.g,J8.g,J7.g,seval]
  have hby9:ByIs h9 nx n9 (.slice (some ⟨bb,0,bsp⟩) N bc) N (nb gs):=hby3.keep (fun b h1 h2=>by
   rw [hk9 b (by have:=I.hle; omega),hk8 b (by have:=I.hle; omega),hf47 b (by have:=I.hle; omega) (by omega) (by omega) (fun e=>by have:=(I.hv.b b e).1; omega)]
   exact I.hk b h2 (by omega) (by omega)) (Nat.le_refl _) (by have:=I.hle; omega)
  have hL9:=(hL7.keep hk8 hle8).keep hk9 hle9
  refine (touched_c h0 h1 hby9 hL9 (fun x hx=>(mem_fl.1 hx).1) hjl).mono ?_
  intro r10 h10 n10 hr10
  obtain ⟨b10,c10,sp10,rfl,hb101,hb102,hg10,hk10,hle10⟩:=id hr10
  refine ⟨hle10,?_⟩
  have hr9':=hr9.rd.keep hk10 hle10
  refine (fminus_c (p:=fun i=>q i&&!inL (jn gs (numD ds N) N d q) i) (q:=anyN (nb gs) (jn gs (numD ds N) N d q)) (by omega) hr9' hr10.rd).mono ?_
  rintro r11 h11 n11 ⟨b11,c11,sp11,rfl,hb111,hb112,hg11,hk11,hle11⟩
  refine ⟨hle11,?_⟩
  have hk711:∀ c,c<nx6+1+1→hget h11 c=hget h7 c:=fun c hc=>by rw [hk11 c (by omega),hk10 c (by omega),hk9 c (by omega),hk8 c hc]
  simp (disch:=omega) only [SS,wrap_s (show d<1000000000000 by omega),seval]
  refine ⟨_,nxt_lt (gs:=gs) (num:=numD ds N) (d:=d) (hinj d) hq0,d+1,r0,nxt gs (numD ds N) N d q,done++[jn gs (numD ds N) N d q],b11,c11,sp11,svs++[⟨a6,(natI (jn gs (numD ds N) N d q)).length,c6⟩],o7,some (nx6+1),⟨rfl,?_,?_,rfl,hg11,hb112,⟨by omega,by omega⟩,fun e=>by cases e; omega,hC7.keep (hk711 l (by omega)) (hk711 p (by omega)),V7.keep (fun c h1 h2=>hk711 c h2) (by omega),?_,fun c h1 h2 h3=>?_,by have:=I.hle; omega⟩⟩
  ·have:=nxt_lt (gs:=gs) (num:=numD ds N) (d:=d) (hinj d) hq0
   have:=I.hr
   omega
  ·have:=I.hdr; omega
  ·have hd:=I.hdone
   rw [jsM_cons hq0] at hd
   rw [List.append_assoc]
   exact hd
  ·rw [hk711 c (by have:=I.hle; omega),hf47 c (by have:=I.hle; omega) h2 h3 (fun e=>by have:=(I.hv.b c e).1; omega)]
   exact I.hk c h1 h2 h3
def stpL (k n src len:Int) (vd:Value) (gn:Int) (ve:Value) (R C M lim:Int) (vc:Value):List Value:=[.int .i64 k,.int .i64 n,.int .i64 src,.int .i64 len,vd,.int .i64 gn,ve,.int .i64 R,.int .i64 C,.int .i64 M,.int .i64 lim,vc]
theorem cfillS_5 {ih:List Value→R (List Value)} {off:Nat} {x y z w u:Value} {c:List Value}:cfillS ih off 5 [x,y,z,w,u] c=if off+5≤c.length then ih (c.take off++x::y::z::w::u::c.drop (off+5)) else .no "fill" := by
 by_cases h:off+5≤c.length
 ·rw [if_pos h,cfillS_n (n:=5) (l:=[x,y,z,w,u]) rfl h]; simp
 ·rw [if_neg h]
  show (bif Nat.beq (llen [x,y,z,w,u]) 5 then R.of "fill" (lput [x,y,z,w,u] c off) ih else .no "fill - size")=_
  rw [lput_eq,if_neg (by simpa using h)]; rfl
theorem hsetup_c {s:Bool} {N:Nat} {v:Value} {src R C:Int} {h:Hp} {nx:Nat} (hN:N≤4096) (hv:∃ a n c,v = .slice a n c) :
  Cv Q O s 105 [.agg ⟨[.int .i64 (N:Int),v]⟩,.int .i64 src,.int .i64 R,.int .i64 C] h nx (EqK (.agg ⟨stpL 1 N src 0 (.slice none 0 0) N v R C 4 ((N:Int)+1) (.slice none 0 0)⟩) nx h):=by
 refine hsetupv ?_
 obtain ⟨a,n,c,rfl⟩:=hv
 unfold hsetup
 have w1:IntKind.wrap .i64 ((N:Int)+1)=(N:Int)+1:=wrapD0 (by omega) (by omega)
 simp (disch:=omega) only [SS,show min (N:Int) 8191=N by omega,w1,show (0:Int)≤(N:Int) by omega,seval]
 refine ⟨fun _=>?_,fun h=>absurd h (by omega)⟩
 unfold hsetupk0
 have K0:∀ {o o' o''},Keep nx h (hset (hset (hset h nx o) (nx+1) o') (nx+1) o''):=(((Keep.refl _ _).set (Nat.le_refl _)).set (Nat.le_succ _)).set (by omega)
 simp (disch:=omega) only [SS,cfillS_5,seval]
 exact ⟨rfl,K0,by omega⟩
theorem isetup_c {s:Bool} {N:Nat} {v vd:Value} {ds:List Int} {R C:Int} {h:Hp} {nx:Nat} (hN:N≤4096) (hv:∃ a n c,v = .slice a n c) (hd:SlRd h nx vd encI ds) (hl:ds.length<1000000) :
  Cv Q O s 32 [.agg ⟨[.int .i64 (N:Int),v]⟩,vd,.int .i64 R,.int .i64 C] h nx (fun r h' nx'=>∃ vd',r = .agg ⟨stpL 5 N 0 0 vd' N v R C 4 (2*(N:Int)) (.slice none 0 0)⟩∧SlRd h' nx' vd' encI ds∧Keep nx h h'∧nx≤nx'):=by
 refine isetupv ?_
 obtain ⟨a,n,c,rfl⟩:=id hv
 unfold isetup
 simp (disch:=omega) only [SS,seval]
 have K0:∀ {o o'},Keep nx h (hset (hset h nx o) (nx+1) o'):=((Keep.refl _ _).set (Nat.le_refl _)).set (Nat.le_succ _)
 refine (hsetup_c hN hv).mono ?_
 rintro r h1 n1 ⟨rfl,hk1,hle1⟩
 unfold stpL
 simp (disch:=omega) only [SS,seval]
 have K1:Keep nx h h1:=K0.trans hk1 (by omega)
 have K2:∀ {o o'},Keep nx h (hset (hset h1 n1 o) n1 o'):=(K1.set (by omega)).set (by omega)
 refine (clone64_c ((hd.keep K2 (nx':=nx) (Nat.le_refl _)).keep (nx':=n1+1) (Keep.refl _ _) (by omega)) hl).mono ?_
 rintro vd' h2 n2 ⟨hd2,hk2,hle2⟩
 obtain ⟨a2,c2,rfl,_⟩:=id hd2
 have g1:=hk2 n1 (by omega)
 rw [hnew] at g1
 have g0:=hk2 nx (by omega)
 rw [hold (by omega),hold (by omega),hk1 nx (by omega),hold (by omega),hnew] at g0
 have g4:=hk2 (nx+1) (by omega)
 rw [hold (by omega),hold (by omega),hk1 (nx+1) (by omega),hnew] at g4
 have w1:IntKind.wrap .i64 (2*(N:Int))=2*(N:Int):=wrapD0 (by omega) (by omega)
 simp (disch:=omega) only [SS,g1,g0,g4,show max (N:Int) 0=N by omega,show min (N:Int) 4096=N by omega,bin_mul,w1,seval]
 refine ⟨_,rfl,?_,?_,by omega⟩
 ·exact (hd2.keep (lo':=n1+1) (hi':=n2) (fun b h1 h2=>by rw [hold (by omega),hold (by omega),hold (by omega),hold (by omega)]) (Nat.le_refl _) (Nat.le_refl _)).rd
 ·intro c hc
  rw [hold (by omega),hold (by omega),hold (by omega),hold (by omega),hk2 c (by omega)]
  exact K2 c hc
theorem planE5 {N:Nat} {ds:List Int} (hN:N≤4096) (hd:DrOk ds):planE 5 N 0 0 ds=0:=by
 unfold planE
 rw [if_neg (by omega),if_neg (by omega),if_neg (by omega),if_neg (by omega),if_neg (by have:=hd.1; omega),if_neg]
 rw [List.any_eq_true]
 rintro ⟨x,hx,hb⟩
 have h1:=hd.2 x hx
 unfold badD at hb
 simp at hb
 omega
theorem rightE0 {N:Nat} {gs:List GE} (hN:N≤4096) (hok:∀ g∈gs,GOk N g) (hl:gs.length≤60):rightE N (gs.map frG0)=0:=by
 refine rightE_V.2 ⟨by omega,by omega,by rw [List.length_map]; omega,fun e he hb=>?_,fun e he hb=>?_⟩
 ·obtain ⟨g,hg,rfl⟩:=List.mem_map.1 he
  obtain ⟨h1,h2,_⟩:=hok g hg
  have hb:(g.f:Int)<0∨(N:Int)≤g.f∨(g.t:Int)<0∨(N:Int)≤g.t:=hb
  omega
 ·obtain ⟨g,hg,rfl⟩:=List.mem_map.1 he
  obtain ⟨_,_,h1,h2⟩:=hok g hg
  have hb:g.w<0∨2147483647<g.w:=hb
  omega
theorem drok_of {ds:List Int} (hl:ds.length≤1000) (hb:¬ ds.any badD=true):DrOk ds:=⟨hl,fun x hx=>by
 have h1:¬ badD x=true:=fun e=>hb (List.any_eq_true.2 ⟨x,hx,e⟩)
 unfold badD at h1
 simp at h1
 omega⟩
theorem drok_not {ds:List Int} (h:DrOk ds):¬ ds.any badD=true:=by
 rw [List.any_eq_true]
 rintro ⟨x,hx,hb⟩
 have h1:=h.2 x hx
 unfold badD at hb
 simp at hb
 omega
theorem planE5b {N:Nat} {ds:List Int} (hN:N≤4096) (hl:ds.length≤1000) (hb:ds.any badD=true):planE 5 N 0 0 ds=7:=by
 unfold planE
 rw [if_neg (by omega),if_neg (by omega),if_neg (by omega),if_neg (by omega),if_neg (by omega),if_pos hb]
theorem matE5b {N:Nat} {es:List Edg3} {ds:List Int} (hN:N≤4096) (hl:ds.length≤1000) (hb:ds.any badD=true):matE 5 N 0 0 ds N es=7:=by
 unfold matE
 rw [planE5b hN hl hb,if_pos (by omega)]
theorem matE5 {N:Nat} {gs:List GE} {ds:List Int} (hN:N≤4096) (hd:DrOk ds) (hok:∀ g∈gs,GOk N g) (hl:gs.length≤60):matE 5 N 0 0 ds N (gs.map frG0)=0:=by
 unfold matE
 rw [planE5 hN hd,if_neg (by omega),if_neg (by omega),rightE0 hN hok hl]
def JL (N:Nat) (gs:List GE) (ds:List Int):List (List Nat):=if ds.any badD=true then [] else jsM gs (numD ds N) N N 0 (fun _=>true)
def JoinsK (N:Nat) (gs:List GE) (ds:List Int) (nx:Nat) (h:Hp):KC':=fun r h' nx'=>∃ svs bo,Vs h' nx nx' svs (asL (JL N gs ds)) r bo∧Keep nx h h'∧nx≤nx'
theorem ijoins_c {s:Bool} {N:Nat} {gs:List GE} {ds:List Int} {v vd:Value} {h:Hp} {nx:Nat} (h0:1≤N) (h1:N≤63) (hdl:ds.length≤1000) (hl:gs.length≤60) (hok:∀ g∈gs,GOk N g) (hv:SlPx h nx v encG gs) (hd:SlRd h nx vd encI ds) :
  Cv Q O s 30 [.agg ⟨[.int .i64 (N:Int),v]⟩,vd] h nx (JoinsK N gs ds nx h):=by
 refine ijoinsv ?_
 obtain ⟨a,cap,rfl,hc⟩:=id hv
 unfold ijoins
 simp (disch:=omega) only [SS,seval]
 have K0:∀ {o},Keep nx h (hset h nx o):=(Keep.refl _ _).set (Nat.le_refl _)
 refine (isetup_c (ds:=ds) (by omega) ⟨_,_,_,rfl⟩ (hd.keep K0 (by omega)) (by omega)).mono ?_
 rintro r h2 n2 ⟨vd',rfl,hd2,hk2,hle2⟩
 have K2:Keep nx h h2:=K0.trans hk2 (by omega)
 obtain ⟨ad,cd,rfl,_⟩:=id hd2
 have g2:=hk2 nx (by omega)
 rw [hnew] at g2
 unfold stpL
 simp (disch:=omega) only [SS,g2,seval]
 have K3:∀ {o o'},Keep n2 h2 (hset (hset h2 n2 o) n2 o'):=((Keep.refl _ _).set (Nat.le_refl _)).set (Nat.le_refl _)
 have K3':∀ {o o'},Keep nx h (hset (hset h2 n2 o) n2 o'):=K2.trans K3 (by omega)
 have hv3:∀ {o o'},SlPx (hset (hset h2 n2 o) n2 o') (n2+1) (.slice a gs.length cap) enc3 (gs.map frG0):=fun {o o'}=>(px_fr0 hv).keep K3' (by omega)
 refine (matrix_c (es:=gs.map frG0) (hd2.keep K3 (by omega)) hv3 (by rw [List.length_map]; omega)).mono ?_
 rintro r h4 n4 ⟨m,rfl,hm,hk4,hle4⟩
 obtain ⟨mx,my,ma1,ma2,ma3,mn1,mn2,mn3,mc1,mc2,mc3,rfl⟩:=hm.form
 unfold RowsV
 have gx4:=hk4 nx (by omega)
 rw [hold (by omega),hold (by omega),g2] at gx4
 have gp4:=hk4 n2 (by omega)
 rw [hnew] at gp4
 have K4:Keep nx h h4:=K3'.trans hk4 (by omega)
 by_cases hbad:ds.any badD=true
 ·rw [matE5b (by omega) hdl hbad]
  simp (disch:=omega) only [SS,gx4,gp4,seval]
  exact ⟨[],none,by unfold JL; rw [if_pos hbad]; exact Vs.nil,(K4.set (by omega)).set (by omega),by omega⟩
 have hds:=drok_of hdl hbad
 rw [matE5 (by omega) hds hok hl]
 have hJL:JL N gs ds=jsM gs (numD ds N) N N 0 (fun _=>true):=if_neg hbad
 simp (disch:=omega) only [SS,gx4,gp4,seval]
 refine joins0v ?_
 unfold joins0
 simp (disch:=omega) only [SS,seval]
 refine collectlv ?_
 unfold collectl
 have K5:∀ {o o' o'' o3},Keep nx h (hset (hset (hset (hset h4 n4 o) n4 o') (n4+1) o'') (n4+1+1) o3):=fun {o o' o'' o3}=>(((K4.set (by omega)).set (by omega)).set (by omega)).set (by omega)
 refine appSeq_cv app187 rfl fun h5 hC hf=>?_
 have hk5:Keep nx h h5:=fun c hc=>by rw [hf c (by omega)]; exact K5 c hc
 have hd5:SlRd h5 (n4+1+1+1) (.slice ad ds.length cd) encI ds:=by
  refine (hd2.keep (nx':=n2) (fun c hc=>?_) (Nat.le_refl _)).keep (Keep.refl _ _) (by omega)
  rw [hf c (by omega),hold (by omega),hold (by omega),hold (by omega),hold (by omega),hk4 c (by omega),hold (by omega),hold (by omega)]
 have J:JoinIn (n4+1+1+1) N gs 5 0 0 ds (n4+1) (n4+1+1) (.slice a gs.length cap) (.slice ad ds.length cd) h5:={
  g:=by rw [hf _ (by omega),hold (by omega),hnew]
  p:=by rw [hf _ (by omega),hnew]
  v:=(hv.keep hk5 (Nat.le_refl _)).keep (Keep.refl _ _) (by omega)
  d:=hd5
  hpg:=by omega
  hpp:=by omega }
 refine (joins1_c J h0 h1 hds (planE5 (by omega) hds) hl hok (by omega) (by omega) (by omega) (by omega) (by omega) (by omega) hC).mono ?_
 rintro _ h6 n6 ⟨svs,o,bo,hC6,V,hf6,hle6⟩
 refine ⟨o,hC6,fun x=>⟨svs,bo,?_,fun c hc=>?_,by omega⟩⟩
 ·rw [hJL]
  have V2:=V.keep (h':=hset h6 (n4+1+1+1+1) x) (fun c h1 h2=>hold (by omega)) (Nat.le_refl _)
  exact ⟨V2.g,fun c e=>⟨by have:=(V2.b c e).1; omega,(V2.b c e).2⟩,V2.len,fun i x cs h1 h2=>by
   rcases V2.s i x cs h1 h2 with e | ⟨b,sp,e1,e2,e3,e4,e5,e6⟩
   ·exact .inl e
   ·exact .inr ⟨b,sp,e1,e2,by omega,e4,e5,e6⟩⟩
 ·rw [hold (by omega),hf6 c (by omega) (by omega) (by omega)]; exact hk5 c hc
def DrJ (v:Value) (nx:Nat) (h:Hp) (m:Nat) (vs:List Value) (h':Hp) (nx':Nat):Prop :=
 ∃ (i:Nat) (o:Value) (ds:List Int) (bo:Option Nat),m=50-i∧i≤50∧vs=[v,o,.int .i64 (i:Int)]∧Ow h' encI o ds bo∧(∀ c,bo=some c→nx≤c∧c<nx')∧ds.length=i∧(∀ x∈ds,0≤x∧x≤2147483647)∧Keep nx h h'∧nx≤nx'
def DrawK (nx:Nat) (h:Hp):KC':=fun r h' nx'=>∃ ds,SlNw h' nx nx' r encI ds∧DrOk ds∧Keep nx h h'∧nx≤nx'
theorem idrawn_c {s:Bool} {v:Value} {l:List Int} {h:Hp} {nx:Nat} (hv:SlRd h nx v encI l):Cv Q O s 42 [v] h nx (DrawK nx h):=by
 refine idrawnv ?_
 obtain ⟨a,cap,rfl,hc⟩:=id hv
 unfold idrawn
 refine Lp.mk (DrJ (.slice a l.length cap) nx h) 50 ⟨0,_,[],none,rfl,by omega,rfl,.nil,fun c e=>(by cases e),rfl,fun x hx=>(by cases hx),Keep.refl _ _,Nat.le_refl _⟩ ?_
 rintro _ _ h' nx' ⟨i,o,ds,bo,rfl,hi,rfl,hW,hb,hdl,hdr,hk,hle⟩
 rw [idrawnb0]
 unfold idrawnl0
 obtain ⟨ao,co,rfl⟩:=hW.form
 have stop:∀ {N R:KVl},idrawnk0 s N (fun v3 h1 n2=>DrawK nx h (nv v3 1) h1 n2) R (.slice a l.length cap) (.slice ao ds.length co) (.int .i64 (i:Int)) (.bool false) h' nx':=fun {N R}=>by
  unfold idrawnk0
  simp (disch:=omega) only [SS,seval]
  exact ⟨ds,hW.nw hb,⟨by omega,hdr⟩,hk,hle⟩
 simp (disch:=omega) only [SS,seval]
 refine ⟨fun h1=>?_,fun h1=>stop⟩
 by_cases h2:(i:Int)<50
 case neg=>rw [decide_eq_false h2]; exact stop
 rw [decide_eq_true h2]
 unfold idrawnk0
 obtain ⟨x,hx⟩:=get_ex h1
 obtain ⟨_,b,sp,ro,c1,hbn,e1,hg⟩:=hv.at hx
 cases e1
 rw [flat_ints] at hg
 obtain ⟨w,hw,hw0,hw1⟩:=and_low x
 simp (disch:=omega) only [SS,↓reduceIte,Nat.reduceAdd,Nat.reduceSub,Nat.reduceMul,Nat.reduceLT,Nat.reduceLeDiff,Nat.reduceEqDiff,Int.reduceBEq,Int.reduceLT,Int.reduceNeg,(hk b hbn).trans hg,ints_get hx,bin_and,hw]
 refine EK_appI (hW.gr.keep fun c hc=>by have:=hb c hc; rw [hold (by omega)]) (hnew _ _ _) (by omega) fun h5 hn5 hf5=>?_
 simp (disch:=omega) only [SS,wrap_s (show i<1000000000000 by omega),seval]
 refine ⟨50-(i+1),by omega,i+1,.slice (some ⟨nx'+1,0,some 1⟩) (ds.length+1) (ds.length+1),ds++[w],some (nx'+1),rfl,by omega,rfl,.inr ⟨nx'+1,rfl,by rw [List.length_append]; rfl,by rw [flat_ints]; exact hn5⟩,fun c e=>by cases e; omega,by rw [List.length_append,hdl]; rfl,fun y hy=>?_,fun c hc=>?_,by omega⟩
 ·rcases List.mem_append.1 hy with hy | hy
  ·exact hdr y hy
  ·rw [List.mem_singleton.1 hy]; exact ⟨hw0,hw1⟩
 ·rw [hf5 c (by omega) (fun e=>by have:=hb c e; omega),hold (by omega)]; exact hk c hc
def LLs (h:Hp) (nx:Nat) (v:Value) (L:List (List Nat)):Prop:=∃ (svs:List Sv) (a:Option Addr) (cap:Nat),v = .slice a L.length cap∧svs.length=L.length∧(L≠[]→∃ b sp ro,b<nx∧a=some ⟨b,0,sp⟩∧hget h b=some (.cells (flat encS svs) ro)) ∧
 ∀ (i:Nat) (x:Sv) (l:List Nat),svs[i]? = some x→L[i]? = some l→x.n=l.length∧SlRd h nx (.slice x.a x.n x.c) encI (natI l)
theorem LLs.keep {h h':Hp} {nx nx':Nat} {v:Value} {L:List (List Nat)} (H:LLs h nx v L) (hk:Keep nx h h') (hle:nx≤nx'):LLs h' nx' v L:=by
 obtain ⟨svs,a,cap,rfl,h1,h2,h3⟩:=H
 exact ⟨svs,a,cap,rfl,h1,fun hne=>by
  obtain ⟨b,sp,ro,e1,e2,e3⟩:=h2 hne
  exact ⟨b,sp,ro,by omega,e2,(hk b e1).trans e3⟩,fun i x l e1 e2=>⟨(h3 i x l e1 e2).1,(h3 i x l e1 e2).2.keep hk hle⟩⟩
theorem natI_len (l:List Nat):(natI l).length=l.length:=by unfold natI; rw [List.length_map]
theorem Vs.lls {h:Hp} {lo hi:Nat} {svs:List Sv} {L:List (List Nat)} {o:Value} {bo:Option Nat} (V:Vs h lo hi svs (asL L) o bo):LLs h hi o L:=by
 have hl:svs.length=L.length:=by rw [V.len]; unfold asL; rw [List.length_map]
 have hg:=V.g
 obtain ⟨a,c,ho⟩:=hg.form
 refine ⟨svs,a,c,by rw [ho,hl],hl,fun hne=>?_,fun i x l e1 e2=>?_⟩
 ·rcases hg with ⟨e,_⟩ | ⟨b,e1,e2,e3⟩
  ·rw [e] at hl
   exact absurd (List.length_eq_zero_iff.1 hl.symm) hne
  ·rw [ho] at e2
   cases e2
   exact ⟨b,some 1,false,(V.b b e1).2,rfl,e3⟩
 ·rcases V.s i x (ints (natI l)) e1 (by unfold asL; rw [List.getElem?_map,e2]; rfl) with ⟨e3,rfl⟩ | ⟨b,sp,e3,e4,e5,e6,e7,e8⟩
  ·have:l=[]:=by
    have:=congrArg List.length e3
    rw [ints_len,natI_len] at this
    exact List.length_eq_zero_iff.1 this
   subst this
   exact ⟨rfl,⟨none,0,rfl,fun h=>absurd rfl h⟩⟩
  ·rw [ints_len,natI_len] at e4
   refine ⟨e4,⟨x.a,x.c,by rw [e4,natI_len],fun _=>⟨b,sp,false,e6,e3,by rw [flat_ints]; exact e8⟩⟩⟩
theorem LLs.at {h:Hp} {nx:Nat} {v:Value} {L:List (List Nat)} (H:LLs h nx v L) {i:Nat} {l:List Nat} (hl:L[i]? = some l):∃ b sp cap ro cs a c,b<nx∧v = .slice (some ⟨b,0,sp⟩) L.length cap∧hget h b=some (.cells cs ro)∧cs[i]? = some (.slice a l.length c)∧SlRd h nx (.slice a l.length c) encI (natI l):=by
 obtain ⟨svs,a,cap,rfl,h1,h2,h3⟩:=H
 obtain ⟨b,sp,ro,e1,rfl,e3⟩:=h2 (fun e=>by rw [e] at hl; cases hl)
 have hi:i<svs.length:=by rw [h1]; exact (List.getElem?_eq_some_iff.1 hl).1
 obtain ⟨x,hx⟩:=get_ex hi
 obtain ⟨e4,e5⟩:=h3 i x l hx hl
 have hfc:=flat_cell (enc:=encS) (k:=1) (fun _=>rfl) hx (j:=0) (by omega)
 rw [Nat.mul_one,Nat.add_zero] at hfc
 rw [e4] at e5
 refine ⟨b,sp,cap,ro,_,x.a,x.c,e1,rfl,e3,?_,e5⟩
 rw [hfc,← e4]; rfl
def jd (L:List (List Nat)) (v:Nat):List Nat:=L.flatMap fun l=>l.filter fun x=>decide (x=v)
def jdM (L:List (List Nat)) (N:Nat):List Nat:=(List.range N).flatMap (jd L)
def tot (L:List (List Nat)):Nat:=(L.map List.length).sum
def JdO (lo:Nat) (h0 h':Hp) (nx':Nat) (o:Value) (out:List Nat):Prop:=∃ bo,Ow h' encI o (natI out) bo∧(∀ c,bo=some c→lo≤c∧c<nx')∧Keep lo h0 h'∧lo≤nx'
def JdJ2 (vv:Value) (N v i:Nat) (acc l:List Nat) (lo:Nat) (h:Hp) (m:Nat) (vs:List Value) (h':Hp) (nx':Nat):Prop :=
 ∃ (k:Nat) (o:Value),m=l.length-k∧k≤l.length∧vs=[vv,.int .i64 (N:Int),o,.int .i64 (v:Int),.int .i64 (i:Int),.int .i64 (k:Int)]∧JdO lo h h' nx' o (acc++(l.take k).filter fun x=>decide (x=v))
def JdJ1 (vv:Value) (N v:Nat) (acc:List Nat) (L:List (List Nat)) (lo:Nat) (h:Hp) (m:Nat) (vs:List Value) (h':Hp) (nx':Nat):Prop :=
 ∃ (i:Nat) (o:Value),m=L.length-i∧i≤L.length∧vs=[vv,.int .i64 (N:Int),o,.int .i64 (v:Int),.int .i64 (i:Int)]∧JdO lo h h' nx' o (acc++jd (L.take i) v)
def JdJ0 (vv:Value) (N:Nat) (L:List (List Nat)) (lo:Nat) (h:Hp) (m:Nat) (vs:List Value) (h':Hp) (nx':Nat):Prop :=
 ∃ (v:Nat) (o:Value),m=N-v∧v≤N∧vs=[vv,.int .i64 (N:Int),o,.int .i64 (v:Int)]∧JdO lo h h' nx' o (jdM L v)
theorem jd_len:∀ (L:List (List Nat)) (v:Nat),(jd L v).length≤tot L
 | [],v=>Nat.le_refl _
 | l::L,v=>by
  have:=jd_len L v
  unfold jd tot at this ⊢
  rw [List.flatMap_cons,List.length_append,List.map_cons,List.sum_cons]
  have:=List.length_filter_le (fun x=>decide (x=v)) l
  omega
theorem tot_get:∀ {L:List (List Nat)} {i:Nat} {l:List Nat},L[i]? = some l→tot (L.take i)+l.length≤tot L
 | [],i,l,h=>by cases h
 | x::L,0,l,h=>by
  cases h
  unfold tot
  rw [List.take_zero,List.map_cons,List.sum_cons]
  simp
 | x::L,i+1,l,h=>by
  have:=tot_get (L:=L) (i:=i) (l:=l) h
  unfold tot at this ⊢
  rw [List.take_succ_cons,List.map_cons,List.map_cons,List.sum_cons,List.sum_cons]
  omega
theorem jdM_succ (L:List (List Nat)) (v:Nat):jdM L (v+1)=jdM L v++jd L v:=by
 unfold jdM; rw [List.range_succ,List.flatMap_append]; simp
theorem jd_take {L:List (List Nat)} {i:Nat} {l:List Nat} (h:L[i]? = some l) (v:Nat):jd (L.take (i+1)) v=jd (L.take i) v++l.filter fun x=>decide (x=v):=by
 unfold jd; rw [List.take_add_one,h,List.flatMap_append]; simp
theorem jdM_len (L:List (List Nat)):∀ v,(jdM L v).length≤v*tot L
 | 0=>by simp [jdM]
 | v+1=>by
  have:=jdM_len L v
  have h2:=jd_len L v
  rw [jdM_succ,List.length_append,Nat.succ_mul]; omega
theorem ijoined_c {s:Bool} {N:Nat} {L:List (List Nat)} {v:Value} {h:Hp} {nx:Nat} (hN:N≤63) (ht:tot L≤1000) (hLl:L.length≤1000) (hv:LLs h nx v L) :
  Cv Q O s 43 [v,.int .i64 (N:Int)] h nx (fun r h' nx'=>SlNw h' nx nx' r encI (natI (jdM L N))∧Keep nx h h'∧nx≤nx'):=by
 refine ijoinedv ?_
 obtain ⟨svs,a,cap,rfl,_⟩:=id hv
 unfold ijoined
 refine Lp.mk (JdJ0 (.slice a L.length cap) N L nx h) N ⟨0,_,by omega,by omega,rfl,none,.nil,fun c e=>(by cases e),Keep.refl _ _,Nat.le_refl _⟩ ?_
 rintro _ _ h' nx' ⟨u,o,rfl,hu,rfl,bo,hW,hb,hk,hle⟩
 rw [ijoinedb0]
 unfold ijoinedl0
 simp (disch:=omega) only [SS,seval]
 refine ⟨fun hlt=>?_,fun hge=>?_⟩
 ·have hul:(jdM L u).length≤63000:=Nat.le_trans (jdM_len L u) (Nat.mul_le_mul (show u≤63 by omega) ht)
  refine Lp.mk (JdJ1 (.slice a L.length cap) N u (jdM L u) L nx h) L.length ⟨0,_,by omega,by omega,rfl,bo,by rw [List.take_zero]; unfold jd; rw [List.flatMap_nil,List.append_nil]; exact hW,hb,hk,hle⟩ ?_
  rintro _ _ h2 nx2 ⟨i,o2,rfl,hi,rfl,bo2,hW2,hb2,hk2,hle2⟩
  rw [ijoinedb1]
  unfold ijoinedl1
  simp (disch:=omega) only [SS,seval]
  refine ⟨fun hil=>?_,fun hig=>?_⟩
  ·obtain ⟨l,hl⟩:=get_ex hil
   obtain ⟨b,sp,cp,ro,cs,al,cl,hbn,e1,hg,hcs,hrd⟩:=hv.at hl
   cases e1
   have hll:=tot_get hl
   have hjl:=jd_len (L.take i) u
   refine Lp.mk (JdJ2 (.slice (some ⟨b,0,sp⟩) L.length cap) N u i (jdM L u++jd (L.take i) u) l nx h) l.length ⟨0,_,by omega,by omega,rfl,bo2,by rw [List.take_zero,List.filter_nil,List.append_nil]; exact hW2,hb2,hk2,hle2⟩ ?_
   rintro _ _ h3 nx3 ⟨k,o3,rfl,hk',rfl,bo3,hW3,hb3,hk3,hle3⟩
   rw [ijoinedb2]
   unfold ijoinedl2
   have hg3:=(hk3 b hbn).trans hg
   have hfl:=List.length_filter_le (fun x=>decide (x=u)) (l.take k)
   rw [List.length_take] at hfl
   simp (disch:=omega) only [SS,hg3,hcs,seval]
   refine ⟨fun hkl=>?_,fun hkg=>?_⟩
   ·obtain ⟨x,hx⟩:=get_ex hkl
    have hxI:(natI l)[k]? = some (x:Int):=by unfold natI; rw [List.getElem?_map,hx]; rfl
    have hrd':SlRd h nx (.slice al (natI l).length cl) encI (natI l):=by rw [natI_len]; exact hrd
    obtain ⟨_,b4,sp4,ro4,c4,hb4,e4,hg4⟩:=hrd'.at hxI
    cases e4
    rw [flat_ints] at hg4
    have hst:∀ y:List Nat,(l.take (k+1)).filter (fun x=>decide (x=u))=(l.take k).filter (fun x=>decide (x=u))++(if x=u then [x] else []):=fun _=>by
     rw [List.take_add_one,hx,List.filter_append]
     by_cases e:x=u <;> simp [e]
    simp (disch:=omega) only [SS,(hk3 b4 hb4).trans hg4,ints_get hxI,seval]
    refine ⟨fun he=>?_,fun he=>?_⟩
    ·have he:x=u:=Int.natCast_inj.1 (by simpa using he)
     refine EK_appI (hW3.gr.keep fun c hc=>by have:=hb3 c hc; rw [hold (by omega)]) (hnew _ _ _) (by rw [natI_len,List.length_append,List.length_append]; omega) fun h5 hn5 hf5=>?_
     simp (disch:=omega) only [SS,wrap_s (show k<1000000000000 by omega),seval]
     refine ⟨l.length-(k+1),by omega,k+1,_,rfl,by omega,rfl,some (nx3+1),?_,fun c e=>by cases e; omega,fun c hc=>?_,by omega⟩
     ·refine .inr ⟨nx3+1,rfl,?_,?_⟩
      ·rw [hst l,if_pos he,natI_len,natI_len,← List.append_assoc,List.length_append (bs:=[x])]; rfl
      ·rw [flat_ints,hn5,hst l,if_pos he,he,← List.append_assoc]
       unfold natI
       rw [List.map_append (l₂:=[u])]
       rfl
     ·rw [hf5 c (by omega) (fun e=>by have:=hb3 c e; omega),hold (by omega)]; exact hk3 c hc
    ·have he:¬ x=u:=fun e=>by subst e; simp at he
     simp (disch:=omega) only [SS,wrap_s (show k<1000000000000 by omega),seval]
     exact ⟨l.length-(k+1),by omega,k+1,_,rfl,by omega,rfl,bo3,by rw [hst l,if_neg he,List.append_nil]; exact hW3,hb3,hk3,hle3⟩
   ·have:k=l.length:=by omega
    subst this
    rw [List.take_length] at hW3
    simp (disch:=omega) only [SS,wrap_s (show i<1000000000000 by omega),seval]
    exact ⟨L.length-(i+1),by omega,i+1,_,rfl,by omega,rfl,bo3,by rw [jd_take hl,← List.append_assoc]; exact hW3,hb3,hk3,hle3⟩
  ·have:i=L.length:=by omega
   subst this
   rw [List.take_length] at hW2
   simp (disch:=omega) only [SS,wrap_s (show u<1000000000000 by omega),seval]
   exact ⟨N-(u+1),by omega,u+1,_,rfl,by omega,rfl,bo2,by rw [jdM_succ]; exact hW2,hb2,hk2,hle2⟩
 ·have:u=N:=by omega
  subst this
  exact ⟨hW.nw hb,hk,hle⟩
def OkAt (N:Nat) (l:List Int) (j:Nat):Prop:=∀ x,l[j]? = some x→0≤x∧x<(N:Int)∧(0<j→∀ y,l[j-1]? = some y→y<x)
def Chk (N:Nat) (gs:List GE) (l:List Int):Prop:=(∀ j,OkAt N l j)∧∀ v,v<N→¬ (((v:Int)∈l)↔∃ x∈l,nb gs x.toNat v=true)
def ChkK (N:Nat) (gs:List GE) (l:List Int) (nx:Nat) (h:Hp):KC':=fun r h' nx'=>∃ b,r = .bool b∧(b=true↔Chk N gs l)∧Keep nx h h'∧nx≤nx'
theorem fl_none {N:Nat} {p:Nat→Bool}:(fl N p).length=0↔∀ v,v<N→p v=false:=by
 rw [List.length_eq_zero_iff]
 unfold fl
 rw [List.filter_eq_nil_iff]
 exact ⟨fun h v hv=>by simpa using h v (List.mem_range.2 hv),fun h v hv=>by simpa using h v (List.mem_range.1 hv)⟩
theorem fl_full {N:Nat} {p:Nat→Bool}:(fl N p).length=N↔∀ v,v<N→p v=true:=by
 have h:(fl N p).length=(List.range N).length↔∀ v∈List.range N,p v=true:=by unfold fl; exact List.length_filter_eq_length_iff
 rw [List.length_range] at h
 rw [h]
 exact ⟨fun h v hv=>h v (List.mem_range.2 hv),fun h v hv=>h v (List.mem_range.1 hv)⟩
def CkJ (N p:Nat) (v:Value) (l:List Int) (h6:Hp) (n7:Nat) (m:Nat) (vs:List Value) (h':Hp) (nx':Nat):Prop :=
 ∃ i,m=l.length-i∧i≤l.length∧vs=[v,.pointer (some ⟨p,0,none⟩),.bool false,v,.int .i64 (l.length:Int),.int .i64 (i:Int)]∧h'=h6∧nx'=n7∧∀ j,j<i→OkAt N l j
theorem icheck_c {s:Bool} {N:Nat} {gs:List GE} {l:List Int} {v vl:Value} {h:Hp} {nx:Nat} (h0:1≤N) (h1:N≤63) (hl:gs.length≤60) (hok:∀ g∈gs,GOk N g) (hv:SlPx h nx v encG gs) (hvl:SlRd h nx vl encI l) (hll:l.length≤1000) :
  Cv Q O s 34 [.agg ⟨[.int .i64 (N:Int),v]⟩,vl] h nx (ChkK N gs l nx h):=by
 refine icheckv ?_
 obtain ⟨a,cap,rfl,hc⟩:=id hv
 obtain ⟨al,cl,rfl,hcl⟩:=id hvl
 unfold icheck
 simp (disch:=omega) only [SS,seval]
 have K0:∀ {o},Keep nx h (hset h nx o):=(Keep.refl _ _).set (Nat.le_refl _)
 refine (right_ok (hv.keep K0 (by omega)) (by omega) hok (by omega)).mono ?_
 rintro r h6 n7 ⟨rfl,hk6,hle6⟩
 have K6:Keep nx h h6:=K0.trans hk6 (by omega)
 have g6:=hk6 nx (by omega)
 rw [hnew] at g6
 simp (disch:=omega) only [SS,seval]
 refine Lp.mk (CkJ N nx (.slice al l.length cl) l h6 n7) l.length ⟨0,rfl,by omega,rfl,rfl,rfl,fun j hj=>absurd hj (by omega)⟩ ?_
 rintro _ _ h' nx' ⟨i,rfl,hi,rfl,eh,en,hno⟩
 rw [eh,en,icheckb0]
 unfold icheckl0
 have bad:¬ (∀ j,OkAt N l j)→ChkK N gs l nx h (.bool false) h6 n7:=fun hb=>⟨false,rfl,⟨fun h=>(by cases h),fun h=>absurd h.1 hb⟩,K6,by omega⟩
 simp (disch:=omega) only [SS,seval]
 refine ⟨fun hlt=>?_,fun hge=>?_⟩
 ·obtain ⟨x,hx⟩:=get_ex hlt
  obtain ⟨_,b,sp,ro,c1,hbn,e1,hg⟩:=hvl.at hx
  cases e1
  rw [flat_ints] at hg
  have hgb:=(K6 b hbn).trans hg
  simp (disch:=omega) only [SS,hgb,ints_get hx,g6,seval]
  refine ⟨fun hx0=>bad fun H=>by have:=(H i x hx).1; omega,fun hx0=>⟨fun hxN=>bad fun H=>by have:=(H i x hx).2.1; omega,fun hxN=>?_⟩⟩
  have next:OkAt N l i→∃ m',m'<l.length-i∧CkJ N nx (.slice (some ⟨b,0,sp⟩) l.length cl) l h6 n7 m' [.slice (some ⟨b,0,sp⟩) l.length cl,.pointer (some ⟨nx,0,none⟩),.bool false,.slice (some ⟨b,0,sp⟩) l.length cl,.int .i64 (l.length:Int),.int .i64 ((i+1:Nat):Int)] h6 n7:=fun ho =>
   ⟨l.length-(i+1),by omega,i+1,rfl,by omega,rfl,rfl,rfl,fun j hj=>by
    by_cases e:j=i
    ·rw [e]; exact ho
    ·exact hno j (by omega)⟩
  by_cases hi0:i=0
  ·subst hi0
   simp (disch:=omega) only [SS,show ((0:Nat):Int)=0 from rfl,seval]
   exact fun _=>next fun y hy=>by rw [hx] at hy; cases hy; exact ⟨by omega,by omega,fun h=>absurd h (by omega)⟩
  ·obtain ⟨y,hy⟩:=get_ex (l:=l) (i:=i-1) (by omega)
   have w1:IntKind.wrap .i64 ((i:Int)-1)=((i-1:Nat):Int):=by
    rw [show (i:Int)-1=((i-1:Nat):Int) by omega]; exact wrapD0 (by omega) (by omega)
   simp (disch:=omega) only [SS,show (0:Int)<(i:Int) by omega,w1,hgb,ints_get hy,wrap_s (show i<1000000000000 by omega),seval]
   refine ⟨⟨fun hyx=>bad fun H=>by have:=(H i x hx).2.2 (by omega) y hy; omega,fun hyx=>?_⟩,fun h=>absurd trivial h⟩
   exact next fun z hz=>by rw [hx] at hz; cases hz; exact ⟨by omega,by omega,fun _ w hw=>by rw [hy] at hw; cases hw; omega⟩
 ·have hall:∀ j,OkAt N l j:=fun j x hx=>by
   have:=(List.getElem?_eq_some_iff.1 hx).1
   exact hno j (by omega) x hx
  have hmem:∀ x∈l,0≤x∧x<(N:Int):=fun x hx=>by
   obtain ⟨j,hj⟩:=List.getElem?_of_mem hx
   exact ⟨(hall j x hj).1,(hall j x hj).2.1⟩
  obtain ⟨l',hl'⟩:∃ l':List Nat,natI l'=l:=⟨l.map Int.toNat,by
   unfold natI
   rw [List.map_map]
   conv=>rhs; rw [← List.map_id l]
   exact List.map_congr_left fun x hx=>by have:=hmem x hx; show ((x.toNat:Nat):Int)=x; omega⟩
  subst hl'
  have hm:∀ x:Nat,(x:Int)∈natI l'↔x∈l':=fun x=>by
   unfold natI
   rw [List.mem_map]
   exact ⟨fun ⟨y,h1,h2⟩=>(show y=x by omega) ▸ h1,fun h=>⟨x,h,rfl⟩⟩
  have hlN:∀ x∈l',x<N:=fun x hx=>by have:=hmem _ ((hm x).2 hx); omega
  have hnl:=natI_len l'
  simp (disch:=omega) only [SS,g6,seval]
  refine (fof_c h0 (by omega) ((hvl.keep K6 (Nat.le_refl _)).keep (Keep.refl _ _) (by omega)) hlN (by omega)).mono ?_
  intro r7 h7 n8 hr7
  obtain ⟨b7,c7,sp7,rfl,hb71,hb72,hg7,hk7,hle7⟩:=id hr7
  have K7:=K6.trans hk7 (by omega)
  have g7:=(hk7 nx (by omega)).trans g6
  simp (disch:=omega) only [SS,g7,seval]
  refine (near_c (hv.keep K7 (by omega)) h0 h1 hl hok).mono ?_
  rintro vb h8 n9 ⟨hby,hk8,hle8⟩
  have g8:=(hk8 nx (by omega)).trans g7
  have K8:=K7.trans hk8 (by omega)
  refine ⟨hle8,?_⟩
  obtain ⟨bb,bsp,bc,bro,os,rfl,_⟩:=id hby
  simp (disch:=omega) only [SS,g8,g7,seval]
  refine (touched_c h0 h1 hby ((hvl.keep K8 (Nat.le_refl _)).keep (Keep.refl _ _) (by omega)) hlN (by omega)).mono ?_
  intro r9 h9 n10 hr9
  obtain ⟨b9,c9,sp9,rfl,hb91,hb92,hg9,hk9,hle9⟩:=id hr9
  refine ⟨hle9,?_⟩
  have g9:=(hk9 nx (by omega)).trans g8
  have K9:=K8.trans hk9 (by omega)
  have hs9:=(hr7.rd.keep hk8 hle8).keep hk9 hle9
  refine (fboth_c (p:=inL l') (q:=anyN (nb gs) l') (by omega) hs9 hr9.rd).mono ?_
  intro r10 h10 n11 hr10
  obtain ⟨b10,c10,sp10,rfl,hb101,hb102,hg10,hk10,hle10⟩:=id hr10
  refine ⟨hle10,?_⟩
  have K10:=K9.trans hk10 (by omega)
  refine (fcount_c h1 hr10.rd).mono ?_
  rintro r' h11 n12 ⟨rfl,e1,e2⟩
  rw [e1,e2]
  refine ⟨Nat.le_refl _,?_⟩
  have hany:∀ v,anyN (nb gs) l' v=true↔∃ x∈natI l',nb gs x.toNat v=true:=fun v=>by
   unfold anyN
   rw [List.any_eq_true]
   constructor
   ·rintro ⟨x,h1,h2⟩; exact ⟨(x:Int),(hm x).2 h1,h2⟩
   ·rintro ⟨x,h1,h2⟩
    obtain ⟨y,hy,rfl⟩:=List.mem_map.1 (show x∈l'.map (fun x:Nat=>(x:Int)) from h1)
    exact ⟨y,hy,h2⟩
  have hin:∀ v,inL l' v=true↔(v:Int)∈natI l':=fun v=>by unfold inL; rw [decide_eq_true_iff,hm]
  have end_:(Chk N gs (natI l')↔(fl N (fun i=>inL l' i&&anyN (nb gs) l' i)).length=0∧(fl N (fun i=>inL l' i||anyN (nb gs) l' i)).length=N):=by
   rw [fl_none,fl_full]
   unfold Chk
   constructor
   ·rintro ⟨_,H⟩
    refine ⟨fun v hv=>?_,fun v hv=>?_⟩ <;> have:=H v hv <;> rw [← hin,← hany] at this <;> cases h1:inL l' v <;> cases h2:anyN (nb gs) l' v <;> simp [h1,h2] at this ⊢
   ·rintro ⟨h1,h2⟩
    refine ⟨hall,fun v hv=>?_⟩
    have a1:=h1 v hv
    have a2:=h2 v hv
    rw [← hin,← hany]
    cases h3:inL l' v <;> cases h4:anyN (nb gs) l' v <;> simp [h3,h4] at a1 a2 ⊢
  by_cases hz:(fl N (fun i=>inL l' i&&anyN (nb gs) l' i)).length=0
  case neg =>
   have hz':(((fl N (fun i=>inL l' i&&anyN (nb gs) l' i)).length:Int) == 0)=false:=by rw [beq_eq_false_iff_ne]; omega
   simp (disch:=omega) only [SS,hz',seval]
   exact ⟨false,rfl,⟨fun h=>(by cases h),fun h=>absurd (end_.1 h).1 hz⟩,K10,by omega⟩
  rw [hz]
  simp (disch:=omega) only [SS,show ((0:Nat):Int)=0 from rfl,seval]
  refine (funion_c (p:=inL l') (q:=anyN (nb gs) l') (by omega) (hs9.keep hk10 hle10) (hr9.rd.keep hk10 hle10)).mono ?_
  intro r12 h12 n13 hr12
  obtain ⟨b12,c12,sp12,rfl,hb121,hb122,hg12,hk12,hle12⟩:=id hr12
  refine ⟨hle12,?_⟩
  refine (fcount_c h1 hr12.rd).mono ?_
  rintro r' h13 n14 ⟨rfl,e1,e2⟩
  rw [e1,e2]
  refine ⟨Nat.le_refl _,?_⟩
  have g10:=(hk10 nx (by omega)).trans g9
  have g12:=(hk12 nx (by omega)).trans g10
  simp (disch:=omega) only [SS,g12,g10,g9,seval]
  refine ⟨_,rfl,?_,K10.trans hk12 (by omega),by omega⟩
  rw [end_,beq_iff_eq]
  omega
def inAny (L:List (List Nat)) (v:Nat):Bool:=L.any fun l=>decide (v∈l)
theorem fl_one (p:Nat→Bool) (v:Nat):∀ N,(fl N p).filter (fun x=>decide (x=v))=if v<N∧p v=true then [v] else []
 | 0=>by simp [fl]
 | N+1=>by
  rw [fl_up,List.filter_append,fl_one p v N]
  by_cases hv:v=N
  ·subst hv
   rw [if_neg (by omega)]
   cases h:p v <;> simp
  ·have e:(if p N=true then [N] else []).filter (fun x=>decide (x=v))=[]:=by
    cases p N <;> simp [Ne.symm hv]
   rw [e,List.append_nil]
   by_cases h1:v<N
   ·have:v<N+1:=by omega
    simp [h1,this]
   ·have:¬ v<N+1:=by omega
    simp [h1,this]
theorem filter_or {p q:Nat→Bool}:∀ l:List Nat,(∀ x∈l,p x=true→q x=false)→(l.filter fun x=>p x||q x).length=(l.filter p).length+(l.filter q).length
 | [],_=>rfl
 | x::l,h=>by
  have ih:=filter_or l fun y hy=>h y (List.mem_cons_of_mem _ hy)
  have hx:=h x (List.mem_cons_self ..)
  rw [List.filter_cons,List.filter_cons,List.filter_cons]
  cases hp:p x
  ·cases hq:q x <;> simp <;> omega
  ·have:=hx hp
   rw [this]; simp; omega
theorem nb_comm (gs:List GE) (a b:Nat):nb gs a b=nb gs b a:=by
 unfold nb
 rw [Bool.or_comm,show decide (a≠b)=decide (b≠a) by simp [eq_comm]]
theorem js_all {gs:List GE} {num:Nat→Nat→Int} {N:Nat} (hinj:∀ d u v,u<N→v<N→num d u=num d v→u=v):∀ (r d:Nat) (q:Nat→Bool),(fl N q).length≤r →
  (∀ l∈jsM gs num N r d q,l≠[])∧(∀ v,inAny (jsM gs num N r d q) v=true→v<N∧q v=true)∧(∀ v,v<N→q v=true→inAny (jsM gs num N r d q) v=true∨∃ u,inAny (jsM gs num N r d q) u=true∧nb gs u v=true) ∧
  (∀ u v,inAny (jsM gs num N r d q) u=true→inAny (jsM gs num N r d q) v=true→nb gs u v=false)∧(∀ v,jd (jsM gs num N r d q) v=if inAny (jsM gs num N r d q) v=true then [v] else []) ∧
  tot (jsM gs num N r d q)=(fl N (inAny (jsM gs num N r d q))).length∧(jsM gs num N r d q).length≤tot (jsM gs num N r d q):=by
 intro r
 induction r with
 | zero =>
  intro d q h
  have hn:∀ v,v<N→q v=false:=fl_none.1 (by omega)
  refine ⟨fun l hl=>(by cases hl),fun v hv=>(by cases hv),fun v hv hq=>?_,fun u v hu=>(by cases hu),fun v=>rfl,?_,Nat.le_refl _⟩
  ·rw [hn v hv] at hq; cases hq
  ·show 0=_
   exact (fl_none.2 fun v _=>rfl).symm
 | succ r ih =>
  intro d q h
  by_cases h0:fl N q=[]
  ·have hn:∀ v,v<N→q v=false:=fl_none.1 (by rw [h0]; rfl)
   rw [jsM_nil h0]
   refine ⟨fun l hl=>(by cases hl),fun v hv=>(by cases hv),fun v hv hq=>?_,fun u v hu=>(by cases hu),fun v=>rfl,?_,Nat.le_refl _⟩
   ·rw [hn v hv] at hq; cases hq
   ·show 0=_
    exact (fl_none.2 fun v _=>rfl).symm
  ·rw [jsM_cons h0]
   have hlt:=nxt_lt (gs:=gs) (num:=num) (d:=d) (hinj d) h0
   obtain ⟨i1,i2,i3,i4,i5,i6,i7⟩:=ih (d+1) (nxt gs num N d q) (by omega)
   generalize hL:jsM gs num N r (d+1) (nxt gs num N d q)=L at i1 i2 i3 i4 i5 i6 i7 ⊢
   have hjn:∀ v,v∈jn gs num N d q↔v<N∧q v=true∧lst gs num N d q v=true:=fun v=>by
    unfold jn; rw [mem_fl,Bool.and_eq_true]
   have hany:∀ v,inAny (jn gs num N d q::L) v=(decide (v∈jn gs num N d q)||inAny L v):=fun v=>rfl
   have hnx:∀ v,nxt gs num N d q v=true↔q v=true∧¬ v∈jn gs num N d q∧∀ u∈jn gs num N d q,nb gs u v=false:=fun v=>by
    unfold nxt inB'
    rw [Bool.and_eq_true,Bool.and_eq_true,Bool.not_eq_true',Bool.not_eq_true',decide_eq_false_iff_not,List.any_eq_false]
    constructor
    ·rintro ⟨⟨a,b⟩,c⟩; exact ⟨a,b,fun u hu=>by simpa using c u hu⟩
    ·rintro ⟨a,b,c⟩; exact ⟨⟨a,b⟩,fun u hu=>by rw [c u hu]; simp⟩
   have hin:∀ v,inAny (jn gs num N d q::L) v=true↔v∈jn gs num N d q∨inAny L v=true:=fun v=>by rw [hany,Bool.or_eq_true,decide_eq_true_iff]
   have hdis:∀ v,v∈jn gs num N d q→inAny L v=false:=fun v hv=>by
    cases h:inAny L v with
    | false=>rfl
    | true=>exact absurd hv ((hnx v).1 (i2 v h).2).2.1
   refine ⟨fun l hl=>?_,fun v hv=>?_,fun v hv hq=>?_,fun u v hu hv=>?_,fun v=>?_,?_,?_⟩
   ·rcases List.mem_cons.1 hl with rfl | hl
    ·exact jn_ne (hinj d) h0
    ·exact i1 l hl
   ·rcases (hin v).1 hv with hv | hv
    ·exact ⟨((hjn v).1 hv).1,((hjn v).1 hv).2.1⟩
    ·exact ⟨(i2 v hv).1,((hnx v).1 (i2 v hv).2).1⟩
   ·by_cases hnv:nxt gs num N d q v=true
    ·rcases i3 v hv hnv with e | ⟨u,e1,e2⟩
     ·exact .inl ((hin v).2 (.inr e))
     ·exact .inr ⟨u,(hin u).2 (.inr e1),e2⟩
    ·rw [hnx] at hnv
     by_cases hj:v∈jn gs num N d q
     ·exact .inl ((hin v).2 (.inl hj))
     ·have:¬ ∀ u∈jn gs num N d q,nb gs u v=false:=fun h=>hnv ⟨hq,hj,h⟩
      have:∃ u,u∈jn gs num N d q∧nb gs u v=true:=by
       apply Classical.byContradiction
       intro hno
       refine this fun u hu=>?_
       cases hb:nb gs u v with
       | false=>rfl
       | true=>exact absurd ⟨u,hu,hb⟩ hno
      obtain ⟨u,hu,hb⟩:=this
      exact .inr ⟨u,(hin u).2 (.inl hu),hb⟩
   ·have cross:∀ u v,u∈jn gs num N d q→inAny L v=true→nb gs u v=false:=fun u v hu hv=>((hnx v).1 (i2 v hv).2).2.2 u hu
    rcases (hin u).1 hu with hu | hu <;> rcases (hin v).1 hv with hv | hv
    ·cases hb:nb gs u v with
     | false=>rfl
     | true =>
      obtain ⟨u1,u2,u3⟩:=(hjn u).1 hu
      obtain ⟨v1,v2,v3⟩:=(hjn v).1 hv
      unfold lst at u3 v3
      rw [List.all_eq_true] at u3 v3
      have a:=u3 v (mem_fl.2 ⟨v1,by rw [hb,v2]; rfl⟩)
      have b:=v3 u (mem_fl.2 ⟨u1,by rw [nb_comm,hb,u2]; rfl⟩)
      simp at a b
      omega
    ·exact cross u v hu hv
    ·rw [nb_comm]; exact cross v u hv hu
    ·exact i4 u v hu hv
   ·show (jn gs num N d q).filter (fun x=>decide (x=v))++jd L v=_
    rw [i5]
    by_cases hj:v∈jn gs num N d q
    ·have hd:=hdis v hj
     rw [if_pos ((hin v).2 (.inl hj)),if_neg (by rw [hd]; simp),List.append_nil]
     unfold jn at hj ⊢
     rw [fl_one,if_pos (mem_fl.1 hj)]
    ·have e:(jn gs num N d q).filter (fun x=>decide (x=v))=[]:=by
      rw [List.filter_eq_nil_iff]
      intro x hx he
      have:x=v:=of_decide_eq_true he
      rw [this] at hx
      exact hj hx
     rw [e,List.nil_append]
     by_cases hv:inAny L v=true
     ·rw [if_pos hv,if_pos ((hin v).2 (.inr hv))]
     ·rw [if_neg hv,if_neg fun h=>((hin v).1 h).elim hj hv]
   ·have e1:tot (jn gs num N d q::L)=(jn gs num N d q).length+tot L:=by unfold tot; rw [List.map_cons,List.sum_cons]
    rw [e1,i6]
    have e2:fl N (inAny (jn gs num N d q::L))=(List.range N).filter fun v=>decide (v∈jn gs num N d q)||inAny L v:=rfl
    rw [e2,filter_or]
    ·congr 1
     have:(List.range N).filter (fun v=>decide (v∈jn gs num N d q))=jn gs num N d q:=by
      show _=(List.range N).filter _
      apply List.filter_congr
      intro v hv
      apply Bool.eq_iff_iff.2
      rw [decide_eq_true_iff,hjn,Bool.and_eq_true]
      exact ⟨fun h=>h.2,fun h=>⟨List.mem_range.1 hv,h⟩⟩
     rw [this]
    ·intro v _ hv
     exact hdis v (of_decide_eq_true hv)
   ·have e1:tot (jn gs num N d q::L)=(jn gs num N d q).length+tot L:=by unfold tot; rw [List.map_cons,List.sum_cons]
    have:=List.length_pos_iff.2 (jn_ne (gs:=gs) (hinj d) h0)
    rw [e1,List.length_cons]
    omega
theorem jdM_fl {L:List (List Nat)} (h:∀ v,jd L v=if inAny L v=true then [v] else []):∀ N,jdM L N=fl N (inAny L)
 | 0=>rfl
 | N+1=>by rw [jdM_succ,jdM_fl h N,fl_up,h]
theorem fl_sorted (p:Nat→Bool):∀ N (j:Nat) (x y:Nat),(fl N p)[j+1]? = some x→(fl N p)[j]? = some y→y<x
 | 0,j,x,y,h,_=>by cases h
 | N+1,j,x,y,h1,h2=>by
  rw [fl_up] at h1 h2
  have hl:=List.getElem?_eq_some_iff.1 h1
  by_cases hj:j+1<(fl N p).length
  ·rw [List.getElem?_append_left hj] at h1
   rw [List.getElem?_append_left (by omega)] at h2
   exact fl_sorted p N j x y h1 h2
  ·cases hp:p N with
   | false=>rw [hp] at h1; simp at h1; have:=(List.getElem?_eq_some_iff.1 h1).1; omega
   | true =>
    rw [hp] at h1 h2
    have hjl:j+1<(fl N p).length+1:=by have:=hl.1; rw [hp] at this; simp at this; omega
    rw [List.getElem?_append_right (by omega),show j+1-(fl N p).length=0 by omega] at h1
    rw [List.getElem?_append_left (by omega)] at h2
    have:=(mem_fl.1 (List.mem_of_getElem? h2)).1
    cases h1
    exact this
theorem joins_chk {gs:List GE} {num:Nat→Nat→Int} {N:Nat} (hinj:∀ d u v,u<N→v<N→num d u=num d v→u=v) :
  (∀ l∈jsM gs num N N 0 (fun _=>true),l≠[])∧tot (jsM gs num N N 0 (fun _=>true))≤N∧(jsM gs num N N 0 (fun _=>true)).length≤N∧(jdM (jsM gs num N N 0 (fun _=>true)) N).length=tot (jsM gs num N N 0 (fun _=>true))∧Chk N gs (natI (jdM (jsM gs num N N 0 (fun _=>true)) N)):=by
 obtain ⟨i1,i2,i3,i4,i5,i6,i7⟩:=js_all (gs:=gs) hinj N 0 (fun _=>true) (fl_len _ _)
 generalize jsM gs num N N 0 (fun _=>true)=L at *
 have hle:=fl_len N (inAny L)
 have hm:∀ x:Int,x∈natI (fl N (inAny L))↔∃ v:Nat,x=v∧v<N∧inAny L v=true:=fun x=>by
  unfold natI
  rw [List.mem_map]
  constructor
  ·rintro ⟨v,hv,rfl⟩; exact ⟨v,rfl,mem_fl.1 hv⟩
  ·rintro ⟨v,rfl,hv⟩; exact ⟨v,mem_fl.2 hv,rfl⟩
 refine ⟨i1,by omega,by omega,by rw [jdM_fl i5,i6],?_⟩
 rw [jdM_fl i5]
 refine ⟨fun j x hx=>?_,fun v hv=>?_⟩
 ·obtain ⟨u,rfl,hu,_⟩:=(hm x).1 (List.mem_of_getElem? hx)
  refine ⟨by omega,by omega,fun hj y hy=>?_⟩
  obtain ⟨j,rfl⟩:∃ k,j=k+1:=⟨j-1,by omega⟩
  rw [Nat.add_sub_cancel] at hy
  unfold natI at hx hy
  rw [List.getElem?_map] at hx hy
  obtain ⟨x',hx',ex⟩:=Option.map_eq_some_iff.1 hx
  obtain ⟨y',hy',ey⟩:=Option.map_eq_some_iff.1 hy
  have:=fl_sorted _ N j x' y' hx' hy'
  omega
 ·rw [hm]
  rintro ⟨h1,h2⟩
  by_cases hi:inAny L v=true
  ·obtain ⟨x,hx,hb⟩:=h1 ⟨v,rfl,hv,hi⟩
   obtain ⟨u,rfl,hu,hu2⟩:=(hm x).1 hx
   rw [Int.toNat_natCast,i4 u v hu2 hi] at hb
   cases hb
  ·rcases i3 v hv rfl with e | ⟨u,hu,hb⟩
   ·exact hi e
   ·obtain ⟨w,hw,_,hw2⟩:=h2 ⟨(u:Int),(hm _).2 ⟨u,rfl,(i2 u hu).1,hu⟩,by rw [Int.toNat_natCast]; exact hb⟩
    have:w=v:=by omega
    rw [this] at hw2
    exact hi hw2
def IjJ (p:Nat) (vx:Value) (L:List (List Nat)) (h0:Hp) (n0:Nat) (m:Nat) (vs:List Value) (h':Hp) (nx':Nat):Prop :=
 ∃ i,m=L.length-i∧i≤L.length∧vs=[.bool false,.pointer (some ⟨p,0,none⟩),vx,.int .i64 (tot (L.take i):Int),.int .i64 (i:Int)]∧h'=h0∧nx'=n0
theorem tot_up {L:List (List Nat)} {i:Nat} {l:List Nat} (h:L[i]? = some l):tot (L.take (i+1))=tot (L.take i)+l.length:=by
 unfold tot
 rw [List.take_add_one,h,List.map_append,List.sum_append]
 simp
theorem indepjoins_cv {s:Bool} {n V R C:Int} {v vd:Value} {es:List Edg3} {dl:List Int} {h:Hp} {nx:Nat} (hv:SlRd h nx v enc3 es) (hd:SlRd h nx vd encI dl) :
  Cv Q O s 8 [.agg ⟨[.int .i64 n,v,.int .i64 V,.int .u8 R,.int .u8 C]⟩,vd] h nx TrueK:=by
 refine indepjoinsv ?_
 obtain ⟨a,cap,rfl,hc⟩:=id hv
 unfold indepjoins
 simp (disch:=omega) only [SS,seval]
 have K0:∀ {o},Keep nx h (hset h nx o):=(Keep.refl _ _).set (Nat.le_refl _)
 refine (make_c (hv.keep K0 (by omega))).mono ?_
 rintro r h2 n2 ⟨N,sr,ra,rb,v2,gs,rfl,hN0,hN,hsr,hgl,hok,hgs,hle2,hk2⟩
 obtain ⟨a2,c2,rfl,_⟩:=id hgs
 have K2:Keep nx h h2:=K0.trans hk2 (by omega)
 simp (disch:=omega) only [SS,seval]
 have K3:∀ {o o'},Keep n2 h2 (hset (hset h2 n2 o) n2 o'):=((Keep.refl _ _).set (Nat.le_refl _)).set (Nat.le_refl _)
 have hd3:∀ {o o'},SlRd (hset (hset h2 n2 o) n2 o') (n2+1) vd encI dl:=fun {o o'}=>(hd.keep (K2.trans K3 (by omega)) (Nat.le_refl _)).keep (Keep.refl _ _) (by omega)
 refine (idrawn_c hd3).mono ?_
 rintro r h4 n4 ⟨ds,hds,hdr,hk4,hle4⟩
 obtain ⟨a4,c4,rfl,_⟩:=id hds
 have g4:=hk4 n2 (by omega)
 rw [hnew] at g4
 refine ⟨hle4,?_⟩
 simp (disch:=omega) only [SS,g4,seval]
 have hg4:SlPx h4 n4 (.slice a2 gs.length c2) encG gs:=(SlPx.of hgs.rd).keep (K3.trans hk4 (by omega)) (by omega)
 refine (ijoins_c (s:=true) (N:=N) (by omega) (by omega) hdr.1 hgl hok hg4 hds.rd).mono ?_
 rintro r h5 n5 ⟨svs,bo,hV,hk5,hle5⟩
 unfold JL at hV
 rw [if_neg (drok_not hdr)] at hV
 have hL:=hV.lls
 have hinj:∀ d u v,u<N→v<N→numD ds N d u=numD ds N d v→u=v:=fun d u v hu hv e=>numD_inj (by omega) (by omega) e
 obtain ⟨j1,j2,j3,j4,j5⟩:=joins_chk (gs:=gs) hinj
 generalize jsM gs (numD ds N) N N 0 (fun _=>true)=L at *
 obtain ⟨_,ax,cx,rfl,_⟩:=id hL
 have g5:=(hk5 n2 (by omega)).trans g4
 refine ⟨hle5,?_⟩
 refine Lp.mk (IjJ n2 (.slice ax L.length cx) L h5 n5) L.length ⟨0,rfl,by omega,rfl,rfl,rfl⟩ ?_
 rintro _ _ h' nx' ⟨i,rfl,hi,rfl,eh,en⟩
 rw [eh,en,indepjoinsb0]
 unfold indepjoinsl0
 simp (disch:=omega) only [SS,seval]
 refine ⟨fun hlt=>?_,fun hge=>?_⟩
 ·obtain ⟨l,hl⟩:=get_ex hlt
  obtain ⟨b,sp,cp,ro,cs,al,cl,hbn,e1,hg,hcs,hrd⟩:=hL.at hl
  cases e1
  have hne:=List.length_pos_iff.2 (j1 l (List.mem_of_getElem? hl))
  have hlz:((l.length:Int) == 0)=false:=by rw [beq_eq_false_iff_ne]; omega
  have htl:=tot_get hl
  have w1:IntKind.wrap .i64 ((tot (L.take i):Int)+(l.length:Int))=((tot (L.take i)+l.length:Nat):Int):=by
   rw [show ((tot (L.take i):Int)+(l.length:Int))=((tot (L.take i)+l.length:Nat):Int) by omega]
   exact wrapD0 (by omega) (by omega)
  simp (disch:=omega) only [SS,hg,hcs,hlz,w1,wrap_s (show i<1000000000000 by omega),seval]
  exact ⟨L.length-(i+1),by omega,i+1,rfl,by omega,by rw [tot_up hl],rfl,rfl⟩
 ·have:i=L.length:=by omega
  subst this
  rw [List.take_length]
  refine live_cv rfl ⟨Nat.le_refl _,?_⟩
  simp (disch:=omega) only [SS,g5,seval]
  refine ⟨fun _=>⟨fun _=>?_,fun h=>by omega⟩,fun h=>by omega⟩
  refine (ijoined_c (s:=true) (N:=N) (by omega) (by omega) (by omega) hL).mono ?_
  rintro r h6 n6 ⟨hJ,hk6,hle6⟩
  obtain ⟨a6,c6,rfl,_⟩:=id hJ
  have g6:=(hk6 n2 (by omega)).trans g5
  refine ⟨hle6,?_⟩
  rw [natI_len,j4]
  simp (disch:=omega) only [SS,g6,beq_self_eq_true,seval]
  refine (ijoined_c (s:=true) (N:=N) (by omega) (by omega) (by omega) (hL.keep hk6 hle6)).mono ?_
  rintro r h7 n7 ⟨hJ7,hk7,hle7⟩
  have g7:=(hk7 n2 (by omega)).trans g6
  refine ⟨hle7,?_⟩
  simp (disch:=omega) only [SS,g7,g6,g5,seval]
  refine (icheck_c (s:=true) (N:=N) (by omega) (by omega) hgl hok ((hg4.keep hk5 hle5).keep (hk6.trans hk7 hle6) (by omega)) hJ7.rd (by rw [natI_len,j4]; omega)).mono ?_
  rintro r h8 n8 ⟨b,rfl,hb,hk8,hle8⟩
  exact ⟨hle8,by rw [hb.2 j5]; rfl⟩
open Go.ChangeShapes Go.WideShapes Go.ChangeAt Go.RowKit
theorem live31_ok:OrcAt Tryz.prog 28 gLive:=live_eq pok orcLive_ok live31
theorem O_ok:OrcOk Tryz.prog O:=fun f g h=>by
 unfold O at h
 cases h1:Nat.beq f 28 with
 | true =>
  have e:=Nat.eq_of_beq_eq_true h1
  subst e
  rw [h1] at h
  cases h
  exact live31_ok
 | false =>
  rw [h1] at h
  cases h2:Nat.beq f 307 with
  | true =>
   have e:=Nat.eq_of_beq_eq_true h2
   subst e
   rw [h2] at h
   cases h
   exact combF_ok
  | false=>rw [h2] at h; cases h
theorem w23:Tryz.prog.underlying 23=some (.slice 2):=by kernel_rfl
theorem open_ints {H:Type} {enc:TypeId × Value→H} {w:World} {sp:Nat→Bool} {r:Reach} {b0:Nat} {v:Value} {d:DataW H} {ps:List MemPlace} (hval:Value.okWide Tryz.prog w r b0 23 v) (h:DataW.Trod enc Tryz.prog w 0 sp true 23 v d ps) :
  ∃ ys:List Int,(ys=[]∧v = .slice none 0 0)∨∃ b off cap,v = .slice (some ⟨b,off,none⟩) ys.length cap∧LiesAt w b off (flat encI ys):=by
 obtain ⟨a,len,cap,rfl⟩:=okWide_slice w23 hval
 unfold Value.okWide at hval
 rw [w23] at hval
 obtain ⟨fuel,hf⟩:=h
 have hf:DataW.trod enc Tryz.prog w 0 sp true fuel 23 [.slice a len cap]=some (d,ps):=hf
 obtain ⟨ys,_,hy⟩:=open_sl (e3:=encI) (k:=1) w23 c2 (fun _=>True) (fun n c y hy=>by
  obtain ⟨m,hm,_⟩:=DataW.trod_int u2 hy
  exact ⟨m,hm,trivial⟩) hf hval
 exact ⟨ys,hy⟩
theorem walkIJ {n V R C:Int} {sl vl:Value} {zs:List Edg3} {ys:List Int} {W:World} (hz:(zs=[]∧sl = .slice none 0 0)∨∃ b off cap,sl = .slice (some ⟨b,off,none⟩) zs.length cap∧LiesAt W b off (flat enc3 zs))
  (hy:(ys=[]∧vl = .slice none 0 0)∨∃ b off cap,vl = .slice (some ⟨b,off,none⟩) ys.length cap∧LiesAt W b off (flat encI ys)) :
  Calls Tryz.prog 8 #[.agg ⟨[.int .i64 n,sl,.int .i64 V,.int .u8 R,.int .u8 C]⟩,vl] W fun e w'=>e = .returned (.bool true)∧Below W.heap.size W w':=by
 obtain ⟨ps,v',u',h1,h2,h3,h4,h5⟩:=in_two (e3:=enc3) (e1:=encI) (fun _=>rfl) (fun _=>rfl) hz hy
 exact callsIn_wide.1 (run_ok (n:=0) pok O_ok (indepjoins_cv (n:=n) (V:=V) (R:=R) (C:=C) h4 h5) (in_rel h1) (in_fr _) (.cons (.agg (.cons (.int _ _) (.cons h2 (.cons (.int _ _) (.cons (.int _ _) (.cons (.int _ _) .nil)))))) (.cons h3 .nil)))
end Go.Proofs.YtcjochjiegiliaaGreat
