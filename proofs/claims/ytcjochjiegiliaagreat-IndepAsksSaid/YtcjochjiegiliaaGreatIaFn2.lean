/- Parts of the proof: IaFn2: each statement bears its own conditions. -/
import Derived.Test.YtcjochjiegiliaaGreatIaFn1
namespace Go.Proofs.YtcjochjiegiliaaGreat
open Go Go.Ax
set_option linter.unusedVariables false
set_option linter.unusedSimpArgs false
set_option maxRecDepth 1000000
theorem zSo {α:Type} {enc:α→List Value} {k:Nat} (hk:∀ x,(enc x).length=k) (hcell:∀ x,zf (enc x)=true) (hk0:0<k) {h:Hp} {nx:Nat} {v:Value} {l:List α} {o:Option Nat} (g:Gr h enc k v l o)
  {b2 o2 cap2:Nat} {sp2:Option Nat} {cs:List Value} {ro:Bool} (x:α) (h2:hget h b2=some (.cells cs ro)) (hx:(cs.drop o2).take k=enc x) (hsz:(l.length+1)*k≤1000000) {K:Value→Hp→Nat→Prop}
  (hK:∀ h',hget h' nx=some (.cells (flat enc (l++[x])) false)→(∀ c,c≠nx→o≠some c→hget h' c=hget h c)→K (.slice (some ⟨nx,0,some k⟩) (l.length+1) (l.length+1)) h' (nx+1)):EK (orR (zS k h nx v (.slice (some ⟨b2,o2,sp2⟩) 1 cap2))) K:=by
 obtain ⟨h',e,a,b⟩:=g.app hk hcell hk0 h2 hx hsz;rw [e]; exact hK _ a b
def bare (g:GE):GE:=⟨g.f,g.t,0⟩
def sums (B:List GE):List Nat:=B.map fun g=>g.w.toNat
def CO (h:Hp) (lo nx:Nat) (B:List GE) (oe os:Value):Prop :=
 (B=[]∧oe = .slice none 0 0∧os = .slice none 0 0)∨∃ be bs,(0<B.length∧be≠bs)∧lo≤be∧be<nx∧lo≤bs∧bs<nx∧oe = .slice (some ⟨be,0,some 3⟩) B.length B.length∧os = .slice (some ⟨bs,0,some 2⟩) B.length B.length ∧
  hget h be=some (.cells (flat encG (B.map bare)) false)∧hget h bs=some (.cells (flat zF (sums B)) false)
theorem CO.keep {h h':Hp} {lo nx nx':Nat} {B:List GE} {oe os:Value} (c:CO h lo nx B oe os) (hk:∀ b,lo≤b→b<nx→hget h' b=hget h b) (hle:nx≤nx'):CO h' lo nx' B oe os:=by
 rcases c with c | ⟨be,bs,h1,h2,h3,h4,h5,h6,h7,h8,h9⟩
 ·exact .inl c
 ·exact .inr ⟨be,bs,h1,h2,by omega,h4,by omega,h6,h7,by rw [hk be h2 h3]; exact h8,by rw [hk bs h4 h5]; exact h9⟩
theorem CO.gr {h:Hp} {lo nx:Nat} {B:List GE} {oe os:Value} (c:CO h lo nx B oe os):∃ o1 o2,Gr h encG 3 oe (B.map bare) o1∧Gr h zF 2 os (sums B) o2∧(∀ b,o1=some b→lo≤b∧b<nx∧o2≠some b)∧(∀ b,o2=some b→lo≤b∧b<nx):=by
 rcases c with ⟨rfl,rfl,rfl⟩ | ⟨be,bs,h1,h2,h3,h4,h5,rfl,rfl,h8,h9⟩
 ·exact ⟨none,none,.nil,.nil,fun b h=>(by cases h),fun b h=>(by cases h)⟩
 ·refine ⟨some be,some bs,?_,?_,fun b h=>by cases Option.some.inj h; exact ⟨h2,h3,fun e=>h1.2 (Option.some.inj e).symm⟩,fun b h=>by cases Option.some.inj h; exact ⟨h4,h5⟩⟩
  ·have:=Gr.own (enc:=encG) (k:=3) h8;rwa [List.length_map] at this
  ·have:=Gr.own (enc:=zF) (k:=2) h9;unfold sums at this ⊢;rwa [List.length_map] at this
theorem CO.form {h:Hp} {lo nx:Nat} {B:List GE} {oe os:Value} (c:CO h lo nx B oe os):∃ ae as_,oe = .slice ae B.length B.length∧os = .slice as_ B.length B.length∧(B=[]→ae=none)∧(B≠[]→∃ be bs,be≠bs∧lo≤be∧be<nx∧lo≤bs∧bs<nx∧ae=some ⟨be,0,some 3⟩∧as_=some ⟨bs,0,some 2⟩∧hget h be=some (.cells (flat encG (B.map bare)) false)∧hget h bs=some (.cells (flat zF (sums B)) false)):=by
 rcases c with ⟨rfl,rfl,rfl⟩ | ⟨be,bs,h1,h2,h3,h4,h5,rfl,rfl,h8,h9⟩
 ·exact ⟨none,none,rfl,rfl,fun _=>rfl,fun h=>absurd rfl h⟩
 ·exact ⟨_,_,rfl,rfl,fun e=>(by rw [e] at h1; exact absurd h1.1 (Nat.lt_irrefl 0)),fun _=>⟨be,bs,h1.2,h2,h3,h4,h5,rfl,rfl,h8,h9⟩⟩
theorem wrW {h:Hp} {b i:Nat} {m:List Nat} {w:Nat} (hi:i<m.length):wrO (some (.cells (flat zF m) false)) h b (i*2) [.int .i64 0,.int .u64 (w:Int)] = .ok (hset h b (.cells (flat zF (m.set i w)) false)):=by
 show R.of _ (lput (zF w) (flat zF m) (i*2)) _=_;rw [zGB (k:=2) (fun _=>rfl) w hi];rfl
theorem rdW {m:List Nat} {i w:Nat} (hi:m[i]? = some w):zA2 (some 2) (i*2) (flat zF m) = .ok (.agg ⟨[.int .i64 0,.int .u64 (w:Int)]⟩):=rdF (enc:=zF) (k:=2) (fun _=>rfl) hi
theorem rdB {m:List GE} {i:Nat} {x:GE} (hi:m[i]? = some x):zA2 (some 3) (i*3) (flat encG m) = .ok (.agg ⟨[.int .i64 (x.f:Int),.int .i64 (x.t:Int),.int .i64 x.w]⟩):=rdF (enc:=encG) (k:=3) (fun _=>rfl) hi
structure CmI (gs:List GE) (N nx:Nat) (h:Hp) (i:Nat) (B:List GE) (oe os:Value) (h':Hp) (nx':Nat):Prop where
 le:i≤gs.length
 co:CO h' nx nx' B oe os
 can:IsCan ((gs.take i).map gE) (B.map gE)
 ok:∀ g∈B,GOk N g
 len:B.length≤i
 keep:Keep nx h h'
 nxle:nx≤nx'
theorem CmI.more {gs:List GE} {N nx:Nat} {h:Hp} {i:Nat} {B:List GE} {oe os:Value} {h' h2:Hp} {nx' nx2:Nat} (c:CmI gs N nx h i B oe os h' nx') (hk:Keep nx' h' h2) (hle:nx'≤nx2):CmI gs N nx h i B oe os h2 nx2 :=
 ⟨c.le,c.co.keep (fun b _ h2=>hk b h2) hle,c.can,c.ok,c.len,c.keep.trans hk c.nxle,Nat.le_trans c.nxle hle⟩
def CmJ (gs:List GE) (v:Value) (N nx:Nat) (h:Hp) (m:Nat) (vs:List Value) (h':Hp) (nx':Nat):Prop :=
 ∃ i B oe os,m=gs.length-i∧vs=[.int .i64 1,v,.slice none 0 0,.int .i64 0,oe,os,.int .i64 (i:Int)]∧CmI gs N nx h i B oe os h' nx'
def CmF (gs:List GE) (v:Value) (N nx:Nat) (h:Hp) (i:Nat) (B:List GE) (oe os:Value) (e:GE) (m:Nat) (vs:List Value) (h':Hp) (nx':Nat):Prop :=
 ∃ k,m=B.length-k∧At B e k∧vs=[.int .i64 1,v,.slice none 0 0,.int .i64 0,oe,os,.int .i64 (i:Int),.int .i64 (k:Int)]∧CmI gs N nx h i B oe os h' nx'
theorem setS {α:Type} {l:List α} {k:Nat} {x:α} (h:l[k]? = some x):l.set k x=l:=by
 apply List.ext_getElem?;intro i;rw [List.getElem?_set]
 by_cases e:k=i
 ·subst e; rw [if_pos rfl,h,if_pos (List.getElem?_eq_some_iff.1 h).1]
 ·rw [if_neg e]
theorem Lp.cut {B:LB} {vs:List Value} {h:Hp} {nx i:Nat} {R C:KVl} (Pre:KVl) (h1:∀ vs h nx,Pre vs h nx→C vs h nx) (h2:∀ C',(∀ vs h nx,Pre vs h nx→C' vs h nx)→Lp B vs h nx [(i,C')] R):Lp B vs h nx [(i,C)] R:=h2 C h1
def PutP (gs:List GE) (v:Value) (N nx:Nat) (h:Hp) (i:Nat) (B:List GE) (oe os:Value) (e:GE) (vs:List Value) (h':Hp) (nx':Nat):Prop :=
 ∃ k,At B e k∧(∀ x,B[k]? = some x→ltG x e=false)∧vs=[.int .i64 1,v,.slice none 0 0,.int .i64 0,oe,os,.int .i64 (i:Int),.int .i64 (k:Int)]∧CmI gs N nx h i B oe os h' nx'
def ShJ (v:Value) (B:List GE) (i k p be bs:Nat) (H:Hp) (NN:Nat) (m:Nat) (vs:List Value) (h':Hp) (nx':Nat):Prop :=
 ∃ (q:Nat) (X:List GE) (Y:List Nat),m=q∧k≤q∧q≤B.length∧Shf (B.map bare) X q∧Shf (sums B) Y q∧vs=[.int .i64 1,v,.slice none 0 0,.int .i64 0,.slice (some ⟨be,0,some 3⟩) (B.length+1) (B.length+1),.slice (some ⟨bs,0,some 2⟩) (B.length+1) (B.length+1),.int .i64 (i:Int),.int .i64 (k:Int),.pointer (some ⟨p,0,none⟩),.int .i64 (q:Int)] ∧
  hget h' be=some (.cells (flat encG X) false)∧hget h' bs=some (.cells (flat zF Y) false)∧(∀ c,c≠be→c≠bs→hget h' c=hget H c)∧nx'=NN
theorem ins_c {s:Bool} {gs:List GE} {N nx:Nat} {h:Hp} {i k w p:Nat} {B:List GE} {e:GE} {oe os:Value} {H:Hp} {NN bg cap:Nat} {spg:Option Nat} {csg:List Value} {rog:Bool} {Nn e0 R:KVl}
  (hl:gs.length≤120) (he:gs[i]? = some e) (hG:GOk N e) (hw:e.w=(w:Int)) (hI:CmI gs N nx h i B oe os H NN) (hat:At B e k) (hn:∀ x,B[k]? = some x→ltG e x=true) (hgb:hget H bg=some (.cells (flat encG gs++csg) rog)) (hbg:bg<nx) (hp:hget H p=some (.cells [.int .i64 0,.int .u64 (w:Int)] false)) (hpn:p<NN) (hpx:nx≤p) (hco:CO H nx p B oe os)
  (hN:∀ B' oe' os' h' nx',CmI gs N nx h (i+1) B' oe' os' h' nx'→Nn [.int .i64 1,.slice (some ⟨bg,0,spg⟩) gs.length cap,.slice none 0 0,.int .i64 0,oe',os',.int .i64 ((i+1:Nat):Int)] h' nx') :
  EK (orR (zS 3 (hset H NN (.cells [.int .i64 0,.int .i64 0,.int .i64 0] false)) (NN+1) oe (.slice (some ⟨NN,0,none⟩) 1 1))) fun x56 h57 n58 =>
  EK (orR (zS 2 (hset h57 n58 (.cells [.int .i64 0,.int .u64 0] false)) (n58+1) os (.slice (some ⟨n58,0,none⟩) 1 1))) fun x63 h64 n65 =>
  RK (lenS x56) fun x66=>RK (bin Q .sub 3 x66 (.int .i64 1)) fun x67 =>
  Lp (fL Q O s zDJ 317 2) [.int .i64 1,.slice (some ⟨bg,0,spg⟩) gs.length cap,.slice none 0 0,.int .i64 0,x56,x63,.int .i64 (i:Int),.int .i64 (k:Int),.pointer (some ⟨p,0,none⟩),x67] h64 n65 [(4,fun v70 h68 n69 =>
   RK (vIx (.slice 3) (nv v70 1) (nv v70 6)) fun x83=>RK (zPY 0 x83) fun x84=>RK (vLd none h68 x84) fun x85=>RK (vIx (.slice 3) (nv v70 1) (nv v70 6)) fun x86=>RK (zPY 1 x86) fun x87=>RK (vLd none h68 x87) fun x88 =>
   RK ((zA0 (zFm [(1,1,x88)]) 0 1 (zI x85) [.int .i64 0,.int .i64 0,.int .i64 0]).bind fun l=>.ok (.agg ⟨l⟩)) fun x89=>RK (vIx (.slice 3) (nv v70 4) (nv v70 7)) fun x90=>RK (vSt h68 3 x90 x89) fun h91=>RK (vLd (some 2) h91 (nv v70 8)) fun x92=>RK (vIx (.slice 2) (nv v70 5) (nv v70 7)) fun x93=>RK (vSt h91 2 x93 x92) fun h94 =>
   zEy s Nn e0 R (nv v70 0) (nv v70 1) (nv v70 2) (nv v70 3) (nv v70 4) (nv v70 5) (nv v70 6) h94 n69)] (fun _ _ _=>False):=by
 have hbl:B.length≤120:=by have:=hI.len; have:=hI.le; omega
 have hnx:=hI.nxle;obtain ⟨o1,o2,g1,g2,hb1,hb2⟩:=hco.gr;have hm:(B.map bare).length=B.length:=List.length_map ..;have hs:(sums B).length=B.length:=List.length_map ..;refine zSo (enc:=encG) (k:=3) (fun _=>rfl) (fun _=>rfl) (by omega) (g1.keep (fun b hb=>by have:=hb1 b hb; rw [hold (by omega)])) zG (hnew _ _ _) rfl (by omega) (fun h5 a1 a2=>?_);refine zSo (enc:=zF) (k:=2) (fun _=>rfl) (fun _=>rfl) (by omega) (g2.keep (fun b hb=>by have:=hb2 b hb; rw [hold (by omega),a2 b (by omega) (fun e=>(hb1 b e).2.2 hb),hold (by omega)])) 0 (hnew _ _ _) rfl (by omega) (fun h6 b1 b2=>?_);have fr:∀ c,c<nx∨c=p→hget h6 c=hget H c:=fun c hc=>by
  rw [b2 c (by omega) (fun e=>by have:=hb2 c e; omega),hold (by omega),a2 c (by omega) (fun e=>by have:=hb1 c e; omega),hold (by omega)]
 have e0:IntKind.wrap .i64 (((B.length+1:Nat):Int)-1)=(B.length:Int):=by rw [zB8 (by omega) (by omega)]; omega
 have x1:hget h6 (NN+1)=some (.cells (flat encG (B.map bare++[zG])) false):=by rw [b2 _ (by omega) (fun e=>by have:=hb2 _ e; omega),hold (by omega)]; exact a1
 rw [hm,hs];simp (disch:=omega) only [SS,e0,seval];have i0:=Shf.init (B.map bare) zG;have i1:=Shf.init (sums B) 0;rw [hm] at i0;rw [hs] at i1;refine Lp.mk (ShJ (.slice (some ⟨bg,0,spg⟩) gs.length cap) B i k p (NN+1) (NN+1+1+1) h6 (NN+1+1+1+1)) B.length ⟨B.length,_,_,rfl,hat.le,Nat.le_refl _,i0,i1,rfl,x1,b1,fun _ _ _=>rfl,rfl⟩ ?_;rintro q _ h7 _ ⟨_,X,Y,rfl,hkq,hqB,hX,hY,rfl,g3,g4,hf,rfl⟩;rw [rcombb2];unfold zQW bF iV lA xF;have hXl:=hX.len;have hYl:=hY.len;rw [hm] at hXl;rw [hs] at hYl;have fr7:∀ c,c<nx∨c=p→hget h7 c=hget H c:=fun c hc=>(hf c (by omega) (by omega)).trans (fr c hc);simp (disch:=omega) only [SS,seval];refine ⟨fun h1=>?_,fun h1=>?_⟩
 ·obtain ⟨q,rfl⟩:∃ q',q=q'+1:=⟨q-1,by omega⟩
  have e1:IntKind.wrap .i64 (((q+1:Nat):Int)-1)=(q:Int):=by rw [zB8 (by omega) (by omega)]; omega
  obtain ⟨x,hx⟩:=zj (l:=X) (i:=q) (by omega);obtain ⟨y,hy⟩:=zj (l:=Y) (i:=q) (by omega);simp (disch:=omega) only [SS,e1,g3,g4,rdB hx,rdW hy,wrG (m:=X) (x:=x) (i:=q+1) (by omega),wrW (m:=Y) (w:=y) (i:=q+1) (by omega),seval];refine ⟨q,by omega,q,_,_,rfl,by omega,by omega,hX.step (by omega) hx,hY.step (by omega) hy,rfl,by rw [hold (by omega),hnew],hnew _ _ _,fun c h1 h2=>by rw [hold h2,hold h1]; exact hf c h1 h2,rfl⟩
 ·have hkq:q=k:=by omega
  subst hkq;have hgg:=(fr7 bg (.inl hbg)).trans hgb;have hpp:=(fr7 p (.inr rfl)).trans hp;have c1:=zJA (enc:=encG) (k:=3) (fun _=>rfl) he (j:=1) (by omega) (cs:=csg);rw [show (encG e)[1]? = some (.int .i64 (e.t:Int)) from rfl] at c1;have c0:=zJA (enc:=encG) (k:=3) (fun _=>rfl) he (j:=0) (by omega) (cs:=csg);rw [show (encG e)[0]? = some (.int .i64 (e.f:Int)) from rfl,Nat.add_zero] at c0;have hil:=(List.getElem?_eq_some_iff.1 he).1;have ei:IntKind.wrap .i64 ((i:Int)+1)=((i+1:Nat):Int):=zZ (by omega);have wE:wrO (some (.cells (flat encG X) false)) h7 (NN+1) (q*3) [.int .i64 (e.f:Int),.int .i64 (e.t:Int),.int .i64 0] = .ok (hset h7 (NN+1) (.cells (flat encG (X.set q (bare e))) false)):=wrG (x:=bare e) (by omega);unfold zEy bF iV;simp (disch:=omega) only [SS,hgg,c0,c1,g3,wE,hpp,g4,wrW (m:=Y) (w:=w) (i:=q) (by omega),ei,seval];have hlen:(B.take q++e::B.drop q).length=B.length+1:=by rw [List.length_append,List.length_cons,List.length_take,List.length_drop]; omega
  rw [← hlen];refine hN _ _ _ _ _ ⟨by omega,.inr ⟨NN+1,NN+1+1+1,⟨by omega,by omega⟩,by omega,by omega,by omega,by omega,rfl,rfl,?_,?_⟩,?_,fun g hg=>?_,by rw [hlen]; have:=hI.len; omega,fun c hc=>?_,by omega⟩
  ·rw [hold (by omega),hnew,hX.fin (by omega),List.map_append,List.map_cons,List.map_take,List.map_drop]
  ·rw [hnew,hY.fin (by omega)];unfold sums;rw [List.map_append,List.map_cons,List.map_take,List.map_drop,hw]; rfl
  ·rw [List.take_add_one,he,List.map_append];exact ins_can hI.can hat hn
  ·rcases List.mem_append.1 hg with hg | hg
   ·exact hI.ok g (List.mem_of_mem_take hg)
   ·rcases List.mem_cons.1 hg with rfl | hg
    ·exact hG
    ·exact hI.ok g (List.mem_of_mem_drop hg)
  ·rw [hold (by omega),hold (by omega),fr7 c (.inl hc)]; exact hI.keep c hc
def NaJ (B:List GE) (ae as_:Option Addr) (nx:Nat) (h:Hp) (m:Nat) (vs:List Value) (h':Hp) (nx':Nat):Prop :=
 ∃ j,m=B.length-j∧j≤B.length∧vs=[.slice none 0 0,.int .i64 0,.slice ae B.length B.length,.slice as_ B.length B.length,.int .i64 (j:Int)]∧(B≠[]→∃ be bs,be≠bs∧nx≤be∧be<nx'∧nx≤bs∧bs<nx'∧ae=some ⟨be,0,some 3⟩∧as_=some ⟨bs,0,some 2⟩∧hget h' be=some (.cells (flat encG (B.take j++(B.drop j).map bare)) false)∧hget h' bs=some (.cells (flat zF (sums B)) false))∧Keep nx h h'∧nx≤nx'
theorem zKC:∀ {m:List GE} {j:Nat} {y:GE} {w:Int},m[j]? = some y→(flat encG m).set (j*3+2) (.int .i64 w)=flat encG (m.set j ⟨y.f,y.t,w⟩)
 | [],j,y,w,h=>by cases h
 | z::m,0,y,w,h=>by cases h; rfl
 | z::m,j+1,y,w,h=>by
  have ih:=zKC (m:=m) (j:=j) (y:=y) (w:=w) h;show (encG z++flat encG m).set ((j+1)*3+2) _=encG z++flat encG (m.set j _);rw [← ih,show (j+1)*3+2=(j*3+2)+1+1+1 by omega];rfl
theorem rcomb_c {s:Bool} {N:Nat} {v:Value} {gs:List GE} {h:Hp} {nx:Nat} (hv:SlPx h nx v encG gs) (hN:N≤4096) (hl:gs.length≤120) (hok:∀ g∈gs,GOk N g) :
  Cv Q O s 317 [.int .i64 1,v] h nx (fun r h' nx'=>∃ v2 B,r = .tuple ⟨[v2,.int .i64 0]⟩∧SlAt h' v2 encG 3 B nx nx'∧IsCan (gs.map gE) (B.map gE)∧(∀ g∈B,GOk N g)∧B.length≤gs.length∧Keep nx h h'∧nx≤nx'):=by
 refine rcombv ?_;obtain ⟨a,cap,rfl,hc⟩:=id hv;unfold rcomb cF iV nS;refine ris_c.mono ?_;rintro r h0 nx0 ⟨rfl,e1,e2⟩;rw [e1,e2];simp (disch:=omega) only [SS,seval];refine Lp.mk (CmJ gs (.slice a gs.length cap) N nx h) gs.length ⟨0,[],_,_,by omega,rfl,⟨by omega,.inl ⟨rfl,rfl,rfl⟩,⟨List.Pairwise.nil,Rep.nil⟩,by simp,by simp,Keep.refl _ _,Nat.le_refl _⟩⟩ ?_;rintro _ _ h' nx' ⟨i,B,oe,os,rfl,rfl,hI⟩;rw [rcombb0];unfold zQY aF bF cF dF iV lA lF nC nF xF;simp (disch:=omega) only [SS,seval];refine ⟨fun hlt=>?_,fun hge=>?_⟩
 ·obtain ⟨e,he⟩:=zj hlt;have ei:IntKind.wrap .i64 ((i:Int)+1)=((i+1:Nat):Int):=zZ (by omega);obtain ⟨_,bg,spg,rog,cg,csg,hbg,e1,hgg⟩:=hv.at he;cases e1;refine Lp.cut (PutP gs (.slice (some ⟨bg,0,spg⟩) gs.length cap) N nx h i B oe os e) ?_ (fun C' hC=>?_)
  ·rintro _ h2 nx2 ⟨k,hat,hnk,rfl,hI⟩;have hgg2:=(hI.keep bg hbg).trans hgg;have hGe:=hok e (List.mem_of_getElem? he);obtain ⟨w,hw⟩:∃ w:Nat,e.w=(w:Int):=⟨e.w.toNat,by have:=hGe.2.2.1; omega⟩
   have hwl:w<4294967296:=by have:=hGe.2.2.2; omega
   have c2:=zJA (enc:=encG) (k:=3) (fun _=>rfl) he (j:=2) (by omega) (cs:=csg);rw [show (encG e)[2]? = some (.int .i64 e.w) from rfl,hw] at c2;have c1:=zJA (enc:=encG) (k:=3) (fun _=>rfl) he (j:=1) (by omega) (cs:=csg);rw [show (encG e)[1]? = some (.int .i64 (e.t:Int)) from rfl] at c1;have c0:=zJA (enc:=encG) (k:=3) (fun _=>rfl) he (j:=0) (by omega) (cs:=csg);rw [show (encG e)[0]? = some (.int .i64 (e.f:Int)) from rfl,Nat.add_zero] at c0;have rd:=rdP (enc:=encG) (k:=3) (fun _=>rfl) he (cs:=csg);simp (disch:=omega) only [SS,hgg2,c2,seval];refine (rof_c (w:=w) hwl).mono ?_;rintro r h3 nx3 ⟨rfl,hk3,hle3⟩;have hbn:bg<nx2:=by have:=hI.nxle; omega
   have K3:∀ {o o'},Keep nx2 h2 (hset (hset h3 nx3 o) nx3 o'):=(hk3.set hle3).set hle3;have hI3:=hI.more (h2:=hset (hset h3 nx3 (.cells [.int .i64 0,.int .u64 0] false)) nx3 (.cells [.int .i64 0,.int .u64 (w:Int)] false)) (nx2:=nx3+1) K3 (by omega);have hgg3:hget (hset (hset h3 nx3 (.cells [.int .i64 0,.int .u64 0] false)) nx3 (.cells [.int .i64 0,.int .u64 (w:Int)] false)) bg=some (.cells (flat encG gs++csg) rog):=(K3 bg hbn).trans hgg2;obtain ⟨ae,as_,rfl,rfl,hae,hne⟩:=hI.co.form;have rd3:zA2 (some 3) (i*3) (flat encG gs++csg) = .ok (.agg ⟨[.int .i64 (e.f:Int),.int .i64 (e.t:Int),.int .i64 e.w]⟩):=rd;have hbl:B.length≤120:=by have:=hI.len; omega
   simp (disch:=omega) only [SS,zF,hgg3,rd3,seval];refine ⟨fun hk=>?_,fun hk=>?_⟩
   ·obtain ⟨be,bs,h1,h2',h3',h4,h5,rfl,rfl,h8,h9⟩:=hne (fun e=>by rw [e] at hk; simp at hk);obtain ⟨x,hx⟩:=zj hk;have hx':(B.map bare)[k]? = some (bare x):=by rw [List.getElem?_map,hx]; rfl
    have hs':(sums B)[k]? = some x.w.toNat:=by unfold sums; rw [List.getElem?_map,hx]; rfl
    have e8:=(hk3 be (by omega)).trans h8;have e9:=(hk3 bs (by omega)).trans h9;simp (disch:=omega) only [SS,e8,rdB hx',e9,seval];refine (zSh (x:=e) (y:=bare x)).mono ?_;rintro r h6 nx6 ⟨rfl,hk6,hle6⟩;have hI6:=hI3.more hk6 hle6;have p6:=hk6 nx3 (by omega);rw [hnew] at p6;have s6:=(hk6 bs (by omega)).trans ((hold (by omega)).trans ((hold (by omega)).trans e9));have hb:ltG e (bare x)=ltG e x:=rfl;rw [hb];simp (disch:=omega) only [SS,s6,rdW hs',p6,seval];refine ⟨hle6,fun hf=>?_,fun ht=>?_⟩
    ·have hGx:=hI.ok x (List.mem_of_getElem? hx);refine (radd_c (a:=x.w.toNat) (b:=w) (by have:=hGx.2.2.2; omega) hwl).mono ?_;rintro r h7 nx7 ⟨rfl,hk7,hle7⟩;have s7:=(hk7 bs (by omega)).trans s6;unfold zEy bF iV;simp (disch:=omega) only [SS,zF,s7,ei,wrW (m:=sums B) (i:=k) (w:=min x.w.toNat w) (by unfold sums; rw [List.length_map]; exact hk),seval];have hy:bare (⟨x.f,x.t,min x.w e.w⟩:GE)=bare x:=rfl;refine ⟨hle7,gs.length-(i+1),by omega,i+1,B.set k ⟨x.f,x.t,min x.w e.w⟩,_,_,rfl,rfl,⟨by omega,.inr ⟨be,bs,⟨by rw [List.length_set]; omega,h1⟩,h2',by omega,h4,by omega,by rw [List.length_set],by rw [List.length_set],?_,?_⟩,?_,fun g hg=>?_,by rw [List.length_set]; have:=hI.len; omega,(hI6.keep.trans hk7 hI6.nxle).set (by omega),by have:=hI6.nxle; omega⟩⟩
     ·rw [hold h1,hk7 be (by omega),hk6 be (by omega),hold (by omega),hold (by omega),e8,List.map_set,hy,setS hx']
     ·rw [hnew];unfold sums;rw [List.map_set];have:(min x.w e.w).toNat=min x.w.toNat w:=by have:=hGx.2.2.1; omega
      rw [this]
     ·rw [List.take_add_one,he,List.map_append];exact set_can hI.can hx (ends_of (hnk x hx) hf)
     ·rcases List.mem_or_eq_of_mem_set hg with hg | rfl
      ·exact hI.ok g hg
      ·have a1:=hGx.2.2; have a2:=hGe.2.2;exact ⟨hGx.1,hGx.2.1,by show 0≤min x.w e.w; omega,by show min x.w e.w≤_; omega⟩
    ·have hnk2:∀ x',B[k]? = some x'→ltG e x'=true:=fun x' hx'=>by rw [hx] at hx'; cases hx'; exact ht
     have gg6:=(hk6 bg (by omega)).trans hgg3;have hnn6:nx3<nx6:=by omega
     refine ins_c hl he hGe hw hI6 hat hnk2 gg6 hbg p6 hnn6 (by have:=hI.nxle; omega) (hI.co.keep (fun b _ hb=>by rw [hk6 b (by omega),hold (by omega),hold (by omega),hk3 b hb]) hle3) (fun B' oe' os' h' nx' hc=>⟨gs.length-(i+1),by omega,i+1,B',oe',os',rfl,rfl,hc⟩)
   ·refine ins_c hl he hGe hw hI3 hat (fun x hx=>absurd (List.getElem?_eq_some_iff.1 hx).1 hk) hgg3 hbg (hnew _ _ _) (Nat.lt_succ_self _) (by have:=hI.nxle; omega) (hI.co.keep (fun b _ hb=>by rw [hold (by omega),hold (by omega),hk3 b hb]) hle3) (fun B' oe' os' h' nx' hc=>⟨gs.length-(i+1),by omega,i+1,B',oe',os',rfl,rfl,hc⟩)
  ·refine Lp.mk (CmF gs (.slice (some ⟨bg,0,spg⟩) gs.length cap) N nx h i B oe os e) B.length ⟨0,by omega,⟨by omega,fun q x hq=>absurd hq (by omega)⟩,rfl,hI⟩ ?_;rintro _ _ h2 nx2 ⟨k,rfl,hat,rfl,hI⟩;obtain ⟨ae,as_,rfl,rfl,hae,hne⟩:=hI.co.form;rw [rcombb1];unfold zQX bF dF iV lA nF xF;simp (disch:=omega) only [SS,seval];refine ⟨fun hk=>?_,fun hk=>hC _ _ _ ⟨k,hat,fun x hx=>absurd (List.getElem?_eq_some_iff.1 hx).1 hk,rfl,hI⟩⟩;obtain ⟨be,bs,h1,h2',h3,h4,h5,rfl,rfl,h8,h9⟩:=hne (fun e=>by rw [e] at hk; simp at hk);obtain ⟨x,hx⟩:=zj hk;have hx':(B.map bare)[k]? = some (bare x):=by rw [List.getElem?_map,hx]; rfl
   simp (disch:=omega) only [SS,h8,(hI.keep bg hbg).trans hgg,rdF (enc:=encG) (k:=3) (fun _=>rfl) hx',rdP (enc:=encG) (k:=3) (fun _=>rfl) he,seval];refine (zSh (x:=bare x) (y:=e)).mono ?_;rintro r h6 nx6 ⟨rfl,hk6,hle6⟩;have hb:ltG (bare x) e=ltG x e:=rfl;rw [hb];have ek:IntKind.wrap .i64 ((k:Int)+1)=((k+1:Nat):Int):=zZ (by have:=hI.len; omega);simp (disch:=omega) only [SS,ek,seval];refine ⟨hle6,fun ht=>⟨B.length-(k+1),by omega,k+1,rfl,⟨hk,fun q y hq hy=>?_⟩,rfl,hI.more hk6 hle6⟩,fun hf=>hC _ _ _ ⟨k,hat,fun y hy=>by rw [hx] at hy; cases hy; exact hf,rfl,hI.more hk6 hle6⟩⟩
   by_cases e2:q=k
   ·subst e2; rw [hx] at hy; cases hy; exact ht
   ·exact hat.lo q y (by omega) hy
 ·have hig:i=gs.length:=by have:=hI.le; omega
  subst hig;have hcan:=hI.can;rw [List.take_length] at hcan;obtain ⟨ae,as_,rfl,rfl,hae,hne⟩:=hI.co.form;refine Lp.mk (NaJ B ae as_ nx h) B.length ⟨0,by omega,by omega,rfl,fun hb=>?_,hI.keep,hI.nxle⟩ ?_
  ·obtain ⟨be,bs,h1,h2,h3,h4,h5,e1,e2,h8,h9⟩:=hne hb;exact ⟨be,bs,h1,h2,h3,h4,h5,e1,e2,by simpa using h8,h9⟩
  rintro _ _ h2 nx2 ⟨j,rfl,hj,rfl,hne,hk2,hle2⟩;rw [rcombb3];unfold zQV aF bF cF iV lA nF nS xF;simp (disch:=omega) only [SS,seval];have hbl:B.length≤120:=by have:=hI.len; omega
  refine ⟨fun hlt=>?_,fun hge=>?_⟩
  ·obtain ⟨be,bs,h1,h2',h3,h4,h5,rfl,rfl,h8,h9⟩:=hne (fun e=>by rw [e] at hlt; simp at hlt);obtain ⟨x,hx⟩:=zj hlt;have hGx:=hI.ok x (List.mem_of_getElem? hx);obtain ⟨w,hw⟩:∃ w:Nat,x.w=(w:Int):=⟨x.w.toNat,by have:=hGx.2.2.1; omega⟩
   have hs':(sums B)[j]? = some w:=by unfold sums; rw [List.getElem?_map,hx,Option.map_some,hw]; rfl
   have hC:(B.take j++(B.drop j).map bare)[j]? = some (bare x):=by
    rw [List.getElem?_append_right (by rw [List.length_take]; omega),List.length_take,show j-min j B.length=0 by omega,List.getElem?_map,List.getElem?_drop,Nat.add_zero,hx]; rfl
   simp (disch:=omega) only [SS,h9,rdW hs',seval];refine (zPz (w:=w) (by have:=hGx.2.2.2; omega)).mono ?_;rintro r h6 nx6 ⟨rfl,hk6,hle6⟩;have g8:=(hk6 be h3).trans h8;have ej:IntKind.wrap .i64 ((j:Int)+1)=((j+1:Nat):Int):=zZ (by omega);have hCl:(B.take j++(B.drop j).map bare).length=B.length:=by rw [List.length_append,List.length_take,List.length_map,List.length_drop]; omega
   have hfl:(flat encG (B.take j++(B.drop j).map bare)).length=B.length*3:=by rw [zAF (k:=3) (fun _=>rfl),hCl]
   simp (disch:=omega) only [SS,g8,ej,hfl,zKC hC,seval];refine ⟨by omega,B.length-(j+1),by omega,j+1,rfl,hlt,rfl,fun _=>⟨be,bs,h1,h2',by omega,h4,by omega,rfl,rfl,?_,?_⟩,fun c hc=>?_,by omega⟩
   ·rw [hnew];have:(B.take j++(B.drop j).map bare).set j ⟨(bare x).f,(bare x).t,(w:Int)⟩=B.take (j+1)++(B.drop (j+1)).map bare:=by
     have e3:(⟨(bare x).f,(bare x).t,(w:Int)⟩:GE)=x:=by rw [← hw]; rfl
     rw [e3,List.set_append,if_neg (by rw [List.length_take]; omega),List.length_take,show j-min j B.length=0 by omega];rw [List.drop_eq_getElem_cons hlt,List.map_cons,List.set_cons_zero,List.take_add_one,hx,List.append_assoc];rfl
    rw [this]
   ·rw [hold (Ne.symm h1),hk6 bs h5]; exact h9
   ·rw [hold (by omega),hk6 c (by omega)]; exact hk2 c hc
  ·have hjb:j=B.length:=by omega
   subst hjb;refine ⟨_,B,rfl,?_,hcan,hI.ok,hI.len,hk2,hle2⟩
   by_cases hb:B=[]
   ·exact .inl ⟨hb,by rw [hae hb,hb]; rfl⟩
   obtain ⟨be,bs,h1,h2',h3,h4,h5,e1,e2,h8,h9⟩:=hne hb;rw [List.take_length,List.drop_length,List.map_nil,List.append_nil] at h8;exact .inr ⟨be,h2',h3,by rw [e1],h8⟩
theorem zMl {gs:List GE} {N:Nat} {s:Bool} {h:Hp} {nx:Nat} {v:Value} (hv:SlPx h nx v encG gs) (hN:N≤4096) (hok:∀ g∈gs,GOk N g) (hl:gs.length≤120) :
  Cv Q O s 243 [.agg ⟨[.int .i64 (N:Int),v]⟩] h nx (CanK N gs nx h):=by
 refine rcanonv ?_;obtain ⟨a,cap,rfl,hc⟩:=id hv;unfold rcanon aF cF iV lA lF nC nS pC;simp (disch:=omega) only [SS,seval];have k0:∀ {o1 o2:AObj},Keep nx h (hset (hset h nx o1) (nx+1) o2):=fun {o1 o2} b hb=>by rw [hold (by omega),hold (by omega)]
 refine (rcomb_c (hv.keep k0 (by omega)) hN hl hok).mono ?_;rintro r h1 nx1 ⟨v2,cs,rfl,hcs,hcan,hok',hlen,hk,hle⟩;have g1:=(hk nx (by omega)).trans (hold (by omega));have g2:=hk (nx+1) (by omega);rw [hnew] at g1 g2;obtain ⟨a2,n2,cap2,rfl⟩:=hcs.form;simp (disch:=omega) only [SS,g1,g2,seval];refine ⟨_,cs,rfl,?_,hcan,hok',hlen,(k0.trans hk (by omega)).set (by omega),by omega⟩;rcases hcs with hcs | ⟨b,h1,h2,e,hb⟩
 ·exact .inl hcs
 ·exact .inr ⟨b,by omega,h2,e,by rw [hold (by omega)]; exact hb⟩
def EqK (v:Value) (nx:Nat) (h:Hp):KC':=fun r h' nx'=>r=v∧Keep nx h h'∧nx≤nx'
def inB (n m:Int):Bool:=decide (0≤n∧n≤m)
theorem zO2 {n m:Int} (h:0≤n∧n≤m):inB n m=true:=decide_eq_true h
theorem zRU {n m:Int} (h:¬ (0≤n∧n≤m)):inB n m=false:=decide_eq_false h
theorem pwithin_c {s:Bool} {n m:Int} {h:Hp} {nx:Nat}:Cv Q O s 222 [.int .i64 n,.int .i64 m] h nx (fun r h' nx'=>r = .bool (inB n m)∧h'=h∧nx'=nx):=by
 refine pwithinv ?_;unfold zQ1 bF iV;simp (disch:=omega) only [SS,seval];refine ⟨fun h0=>?_,fun h0=>by rw [zRU (by omega)]⟩
 by_cases h1:m<n
 ·rw [decide_eq_true h1,zRU (by omega)]; rfl
 ·rw [decide_eq_false h1,zO2 (by omega)]; rfl
def badD (d:Int):Bool:=decide (d<0∨2147483647<d)
theorem zQ2 {s:Bool} {d:Int} {h:Hp} {nx:Nat}:Cv Q O s 224 [.int .i64 d] h nx (EqK (.bool (badD d)) nx h):=by
 refine pright1v ?_;unfold zQ3 bF iV;simp (disch:=omega) only [SS,seval];refine ⟨fun h0=>⟨by unfold badD; simp [h0],Keep.refl _ _,Nat.le_refl _⟩,fun h0=>⟨?_,Keep.refl _ _,Nat.le_refl _⟩⟩;unfold badD; simp [h0]
def IxJ {α:Type} (p:α→Bool) (l:List α) (v fv:Value) (nx:Nat) (h:Hp) (m:Nat) (vs:List Value) (h':Hp) (nx':Nat):Prop:=∃ i,m=l.length-i∧i≤l.length∧vs=[v,fv,.int .i64 0,.int .i64 (l.length:Int),.int .i64 (i:Int)]∧Keep nx h h'∧nx≤nx'∧∀ x∈l.take i,p x=false
theorem zP6 {α:Type} {p:α→Bool} {l:List α} {i:Nat} {x:α} (hx:l[i]? = some x) (h:∀ y∈l.take i,p y=false) (hp:p x=false):∀ y∈l.take (i+1),p y=false:=fun y hy=>by
 rw [List.take_add_one,hx] at hy;rcases List.mem_append.1 hy with hy | hy
 ·exact h y hy
 ·have:y=x:=by simpa using hy
  rw [this]; exact hp
theorem any_f {α:Type} {p:α→Bool} {l:List α} (h:∀ x∈l,p x=false):l.any p=false:=List.any_eq_false.2 fun x hx=>by rw [h x hx]; simp
theorem contsI_c {s:Bool} {f:Nat} {p:Int→Bool} {v:Value} {l:List Int} {h:Hp} {nx:Nat} (hv:SlRd h nx v encI l) (hl:l.length<1000000) (hf:∀ (x:Int) (h:Hp) (nx:Nat),Cv Q O s f [.int .i64 x] h nx (EqK (.bool (p x)) nx h)) :
  Cv Q O s 223 [v,.func (.func f) ⟨[]⟩ ⟨[]⟩] h nx (EqK (.bool (l.any p)) nx h):=by
 refine contsIv ?_;obtain ⟨a,cap,rfl,hc⟩:=id hv;unfold contsI bF cF iV;refine (indexIv (K:=fun r h' nx'=>Keep nx h h'∧nx≤nx'∧∃ i:Int,r = .int .i64 i∧(i<0↔l.any p=false)) ?_).mono ?_
 ·unfold indexI iV nF;simp (disch:=omega) only [SS,seval];refine Lp.mk (IxJ p l (.slice a l.length cap) (.func (.func f) ⟨[]⟩ ⟨[]⟩) nx h) l.length ⟨0,rfl,by omega,rfl,Keep.refl _ _,Nat.le_refl _,fun x hx=>by simp at hx⟩ ?_;rintro m _ h' nx' ⟨i,rfl,hi,rfl,hk,hle,hno⟩;rw [indexIb0];unfold zNO bF iV lF xF;simp (disch:=omega) only [SS,seval];refine ⟨fun hlt=>?_,fun hge=>?_⟩
  ·obtain ⟨x,hx⟩:=zj hlt;obtain ⟨_,b,sp,ro,c1,hb,e1,hg⟩:=hv.at hx;cases e1;rw [zT] at hg;simp (disch:=omega) only [SS,(hk b hb).trans hg,zg hx,seval];refine (hf x h' nx').mono ?_;rintro r h2 nx2 ⟨rfl,hk2,hle2⟩;rw [IF_b];refine ⟨fun hp=>?_,fun hp=>?_⟩
   ·refine ⟨hk.trans hk2 hle,by omega,_,rfl,⟨fun h=>absurd h (by omega),fun h=>?_⟩⟩;rw [List.any_eq_false] at h;exact absurd hp (h x (List.mem_of_getElem? hx))
   ·simp (disch:=omega) only [SS,zZ (show i<1000000000000 by omega),seval];exact ⟨l.length-(i+1),by omega,i+1,rfl,by omega,rfl,hk.trans hk2 hle,by omega,zP6 hx hno hp⟩
  ·have:i=l.length:=by omega
   subst this;rw [List.take_length] at hno;exact ⟨hk,hle,_,rfl,⟨fun _=>any_f hno,fun _=>by omega⟩⟩
 ·rintro r h' nx' ⟨hk,hle,i,rfl,hi⟩;simp (disch:=omega) only [SS,seval];refine ⟨?_,hk,hle⟩;cases ha:l.any p with
  | false=>rw [decide_eq_true (hi.2 ha)]; rfl
  | true =>
   have:¬ i<0:=fun h=>by rw [hi.1 h] at ha; cases ha
   rw [decide_eq_false this]; rfl
abbrev Mv:=Int × Int × Int × Int
def zAS (k n src len:Int) (ds:List Int):Int :=
 if k≤0∨5<k then 8 else if ¬ (0≤n∧n≤4096) then 3 else if k=4∧¬ (0≤len∧len≤8192) then 3 else if (k=4∨k=1∨k=2)∧¬ (0≤src∧src≤n-1) then 3
 else if 65536<ds.length then 5 else if ds.any badD=true then 7 else 0
theorem wrapI0 {n:Int}:IntKind.wrap .i64 n=(if n % 18446744073709551616≥9223372036854775808 then n % 18446744073709551616-18446744073709551616 else n % 18446744073709551616):=by
 simp only [IntKind.wrap,IntKind.signed,IntKind.bits];simp
theorem zB4 {n:Int} (h0 : -9223372036854775808≤n) (h1:n≤9223372036854775807):IntKind.wrap .i64 n=n:=by
 rw [wrapI0]; split <;> omega
theorem zJ3 {s:Bool} {k n src len:Int} {ds:List Int} {v:Value} {h:Hp} {nx:Nat} (hv:SlRd h nx v encI ds):Cv Q O s 128 [.agg ⟨[.int .i64 k,.int .i64 n,.int .i64 src,.int .i64 len,v]⟩] h nx (EqK (.int .i64 (zAS k n src len ds)) nx h):=by
 refine pright0v ?_;obtain ⟨a,cap,rfl,hc⟩:=id hv;unfold zQ4 aF bF iV lF pC;have K1:∀ {o},Keep nx h (hset h nx o):=(Keep.refl _ _).set (Nat.le_refl _);have fin:∀ {e:Int},zAS k n src len ds=e→∀ {o},EqK (.int .i64 (zAS k n src len ds)) nx h (.int .i64 e) (hset h nx o) (nx+1):=fun {e} he {o}=>⟨by rw [he],K1,by omega⟩
 have last:¬ (k≤0∨5<k)→(0≤n∧n≤4096)→¬ (k=4∧¬ (0≤len∧len≤8192))→¬ ((k=4∨k=1∨k=2)∧¬ (0≤src∧src≤n-1))→zBp s (EqK (.int .i64 (zAS k n src len ds)) nx h) (.pointer (some ⟨nx,0,none⟩)) (hset h nx (.cells [.int .i64 k,.int .i64 n,.int .i64 src,.int .i64 len,.slice a ds.length cap] false)) (nx+1):=fun h1 h2 h3 h4=>by
  have e:zAS k n src len ds=if 65536<ds.length then 5 else if ds.any badD=true then 7 else 0:=by
   unfold zAS; rw [if_neg h1,if_neg (fun h=>h h2),if_neg h3,if_neg h4]
  unfold zBp aF bF cF iV lF nF;simp (disch:=omega) only [SS,seval];refine ⟨fun h5=>fin (by rw [e,if_pos (by omega)]),fun h5=>?_⟩;refine (contsI_c (hv.keep K1 (Nat.le_succ _)) (by omega) (fun x h nx=>zQ2)).mono ?_;rintro r h1 n1 ⟨rfl,hk,hle⟩;simp (disch:=omega) only [SS,seval];refine ⟨fun h6=>⟨by rw [e,if_neg (by omega),if_pos h6],K1.trans hk (by omega),by omega⟩,fun h6=>⟨?_,K1.trans hk (by omega),by omega⟩⟩;rw [e,if_neg (by omega),if_neg (by rw [h6]; simp)]
 have k1:(k≤0∨5<k)→∀ {o},zDK s (EqK (.int .i64 (zAS k n src len ds)) nx h) (.pointer (some ⟨nx,0,none⟩)) (.bool true) (hset h nx o) (nx+1):=fun hk {o}=>by
  unfold zDK aF bF cF iV lF;simp (disch:=omega) only [SS,seval];exact fin (by unfold zAS; rw [if_pos hk])
 simp (disch:=omega) only [SS,seval];refine ⟨fun h0=>k1 (.inl (by omega)),fun h0=>?_⟩
 by_cases h5:5<k
 ·rw [decide_eq_true h5]; exact k1 (.inr h5)
 rw [decide_eq_false h5];have hk:¬ (k≤0∨5<k):=by omega
 unfold zDK aF bF cF iV lF;simp (disch:=omega) only [SS,seval];refine pwithin_c.mono ?_;rintro r h1 n1 ⟨rfl,e1,e2⟩;rw [e1,e2]
 by_cases hn:0≤n∧n≤4096
 case neg =>
  rw [zRU hn];simp (disch:=omega) only [SS,seval];exact fin (by unfold zAS; rw [if_neg hk,if_pos hn])
 rw [zO2 hn];have hw:IntKind.wrap .i64 (n-1)=n-1:=zB4 (by omega) (by omega);have hsrc:(k=4∨k=1∨k=2)→¬ (k=4∧¬ (0≤len∧len≤8192))→Cv Q O s 222 [.int .i64 src,.int .i64 (n-1)] (hset h nx (.cells [.int .i64 k,.int .i64 n,.int .i64 src,.int .i64 len,.slice a ds.length cap] false)) (nx+1) fun x41 h42 n43=>RK (oUn .not x41) fun x44=>IF x44 (EqK (.int .i64 (zAS k n src len ds)) nx h (.int .i64 3) h42 n43) (zBp s (EqK (.int .i64 (zAS k n src len ds)) nx h) (.pointer (some ⟨nx,0,none⟩)) h42 n43):=fun hk3 h4=>by
  refine pwithin_c.mono ?_;rintro r h1 n1 ⟨rfl,e1,e2⟩;rw [e1,e2]
  by_cases hs:0≤src∧src≤n-1
  ·rw [zO2 hs];simp (disch:=omega) only [SS,seval];exact last hk hn h4 (fun h=>h.2 hs)
  ·rw [zRU hs];simp (disch:=omega) only [SS,seval];exact fin (by unfold zAS; rw [if_neg hk,if_neg (fun h=>h hn),if_neg h4,if_pos ⟨hk3,hs⟩])
 simp (disch:=omega) only [SS,hw,seval];refine ⟨fun h4=>?_,fun h4=>?_⟩
 ·have h4:k=4:=by simpa using h4
  refine pwithin_c.mono ?_;rintro r h1 n1 ⟨rfl,e1,e2⟩;rw [e1,e2]
  by_cases hl:0≤len∧len≤8192
  ·rw [zO2 hl];simp (disch:=omega) only [SS,hw,seval];exact hsrc (.inl h4) (fun h=>h.2 hl)
  ·rw [zRU hl];simp (disch:=omega) only [SS,seval];exact fin (by unfold zAS; rw [if_neg hk,if_neg (fun h=>h hn),if_pos ⟨h4,hl⟩])
 ·have h4:k≠4:=by simpa using h4
  refine ⟨fun h1=>?_,fun h1=>⟨fun h2=>?_,fun h2=>?_⟩⟩
  ·have h1:k=1:=by simpa using h1
   exact hsrc (.inr (.inl h1)) (fun h=>h4 h.1)
  ·have h2:k=2:=by simpa using h2
   exact hsrc (.inr (.inr h2)) (fun h=>h4 h.1)
  ·have h1:k≠1:=by simpa using h1
   have h2:k≠2:=by simpa using h2
   exact last hk hn (fun h=>h4 h.1) (fun h=>by rcases h.1 with h | h | h <;> contradiction)
def zAR (n:Int) (es:List Edg3):Int:=if n<0 then 3 else if 4096<n∨65536<es.length then 5 else if es.any (badE n)=true then 3 else if es.any badW=true then 7 else 0
theorem rightE_V {n:Int} {es:List Edg3}:zAR n es=0↔RightV n es:=by
 unfold zAR RightV;constructor
 ·intro h
  split at h
  ·cases h
  ·split at h
   ·cases h
   ·split at h
    ·cases h
    ·split at h
     ·cases h
     ·rename_i h1 h2 h3 h4
      refine ⟨by omega,by omega,by omega,fun e he hb=>h3 (List.any_eq_true.2 ⟨e,he,badE_iff.2 hb⟩),fun e he hb=>h4 (List.any_eq_true.2 ⟨e,he,badW_iff.2 hb⟩)⟩
 ·rintro ⟨h1,h2,h3,h4,h5⟩;rw [if_neg (by omega),if_neg (by omega),if_neg,if_neg]
  ·intro h;obtain ⟨e,he,hb⟩:=List.any_eq_true.1 h;exact h5 e he (badW_iff.1 hb)
  ·intro h;obtain ⟨e,he,hb⟩:=List.any_eq_true.1 h;exact h4 e he (badE_iff.1 hb)
theorem zQE {s:Bool} {n:Int} {v:Value} {es:List Edg3} {h:Hp} {nx:Nat} (hv:SlPx h nx v enc3 es) :
  Cv Q O s 107 [.agg ⟨[.int .i64 n,v]⟩] h nx (EqK (.int .i64 (zAR n es)) nx h):=by
 refine rightv ?_;obtain ⟨a,cap,rfl,hc⟩:=id hv;unfold right aF bF cF iV lF nC nF pC;simp (disch:=omega) only [SS,seval];have K1:Keep nx h (hset (hset (hset h nx (.cells [.int .i64 n,.slice a es.length cap] false)) (nx+1) (.cells [.nilFunc] false)) (nx+1) (.cells [.func (.func 192) ⟨[]⟩ ⟨[.pointer (some ⟨nx,0,none⟩)]⟩] false)):=fun b hb=>by rw [hold (by omega),hold (by omega),hold (by omega)]
 have no:∀ {e:Int},zAR n es=e→∀ {h':Hp} {nx':Nat},Keep nx h h'→nx≤nx'→EqK (.int .i64 (zAR n es)) nx h (.int .i64 e) h' nx':=fun {e} he {h' nx'} hk hle=>⟨by rw [he],hk,hle⟩
 refine ⟨fun h1=>no (by unfold zAR; rw [if_pos h1]) K1 (by omega),fun h1=>⟨fun h2=>no (by unfold zAR; rw [if_neg h1,if_pos (.inl h2)]) K1 (by omega),fun h2=>⟨fun h3=>no (by unfold zAR; rw [if_neg h1,if_pos (.inr (by omega))]) K1 (by omega),fun h3=>?_⟩⟩⟩;have h23:¬ (4096<n∨65536<es.length):=by omega
 refine (zSA (badE n) (hv.keep K1 (by omega)) (by omega) (fun g hg h' nx' K hk hle hK=>?_)).mono ?_
 ·have g0:=hk nx (by omega);have g1:=hk (nx+1) (by omega);rw [hold (by omega),hold (by omega),hnew] at g0;rw [hnew] at g1;have kk:∀ {o},Keep nx' h' (hset h' nx' o):=(Keep.refl _ _).set (Nat.le_refl _);simp (disch:=omega) only [SS,seval];refine right2v ?_;unfold right2 enc3 aF lF pC;simp (disch:=omega) only [SS,g1,seval];refine zQF ?_;unfold zQG aF bF iV lF;simp (disch:=omega) only [SS,g0,seval];refine ⟨fun h1=>hK _ _ _ (by unfold badE; simp [h1]) kk (Nat.le_succ _),fun h1=>⟨fun h2=>hK _ _ _ (by unfold badE; simp [h1]; omega) kk (Nat.le_succ _),fun h2=>?_⟩⟩;simp (disch:=omega) only [SS,g1,seval];refine zQF ?_;unfold zQG aF bF iV lF;simp (disch:=omega) only [SS,g0,seval];refine ⟨fun h3=>hK _ _ _ (by unfold badE; simp [h3]) kk (Nat.le_succ _),fun h3=>?_⟩;refine hK _ _ _ ?_ kk (Nat.le_succ _);unfold badE;rw [decide_eq_false h1,decide_eq_true h2,decide_eq_false h3];rfl
 ·rintro r h4 nx4 ⟨rfl,hk4,hle4⟩;have g0:=hk4 nx (by omega);rw [hold (by omega),hold (by omega),hnew] at g0;have K4:=K1.trans hk4 (by omega);simp (disch:=omega) only [SS,g0,seval];refine ⟨fun h5=>no (by unfold zAR; rw [if_neg h1,if_neg h23,if_pos h5]) K4 (by omega),fun h5=>?_⟩;have h5':¬ es.any (badE n)=true:=by rw [h5]; simp
  refine (zSA badW ((hv.keep K1 (by omega)).keep hk4 hle4) (by omega) (fun g hg h' nx' K hk hle hK=>?_)).mono ?_
  ·have kk:∀ {o},Keep nx' h' (hset h' nx' o):=(Keep.refl _ _).set (Nat.le_refl _);simp (disch:=omega) only [SS,seval];refine right3v ?_;unfold right3 enc3 aF bF iV lF pC;simp (disch:=omega) only [SS,seval];refine ⟨fun h1=>hK _ _ _ (by unfold badW; simp [h1]) kk (Nat.le_succ _),fun h1=>hK _ _ _ (by unfold badW; simp [h1]) kk (Nat.le_succ _)⟩
  ·rintro r h6 nx6 ⟨rfl,hk6,hle6⟩;have K6:=K4.trans hk6 (by omega);simp (disch:=omega) only [SS,seval];refine ⟨fun h7=>no (by unfold zAR; rw [if_neg h1,if_neg h23,if_neg h5',if_pos h7]) K6 (by omega),fun h7=>no ?_ K6 (by omega)⟩;unfold zAR; rw [if_neg h1,if_neg h23,if_neg h5',if_neg (by rw [h7]; simp)]
def zP2 (e:GE):GE:=⟨e.t,e.f,e.w⟩
def oneG (e:GE):GE:=⟨e.f,e.t,1⟩
def PassK (e:GE) (b:Bool) (nx:Nat) (h:Hp):KC':=EqK (.tuple ⟨[.agg ⟨[.int .i64 (e.f:Int),.int .i64 (e.t:Int),.int .i64 e.w]⟩,.bool b]⟩) nx h
theorem turned_c {s:Bool} {e:GE} {h:Hp} {nx:Nat}:Cv Q O s 309 [.agg ⟨[.int .i64 (e.f:Int),.int .i64 (e.t:Int),.int .i64 e.w]⟩] h nx (PassK (zP2 e) true nx h):=by
 refine turnedv ?_;unfold turned aF iV lA lF nC pC;simp (disch:=omega) only [SS,seval];exact ⟨rfl,(((Keep.refl _ _).set (Nat.le_refl _)).set (Nat.le_succ _)).set (Nat.le_succ _),by omega⟩
theorem plain1_c {s:Bool} {e:GE} {h:Hp} {nx:Nat}:Cv Q O s 230 [.agg ⟨[.int .i64 (e.f:Int),.int .i64 (e.t:Int),.int .i64 e.w]⟩] h nx (PassK (oneG e) true nx h):=by
 refine plain1v ?_;unfold plain1 aF iV lA nC pC;simp (disch:=omega) only [SS,seval];exact ⟨rfl,((((Keep.refl _ _).set (Nat.le_refl _)).set (Nat.le_succ _)).set (Nat.le_refl _)).set (Nat.le_succ _),by omega⟩
def zCN (e:GE):Bool:=decide (e.f≠e.t)
theorem zPd {s:Bool} {e:GE} {h:Hp} {nx:Nat}:Cv Q O s 226 [.agg ⟨[.int .i64 (e.f:Int),.int .i64 (e.t:Int),.int .i64 e.w]⟩] h nx (PassK e (zCN e) nx h):=by
 refine simple1v ?_;unfold zPe aF bF gL iV lA lF nC pC;simp (disch:=omega) only [SS,seval];refine ⟨?_,(((Keep.refl _ _).set (Nat.le_refl _)).set (Nat.le_succ _)).set (Nat.le_succ _),by omega⟩;have:(!((e.f:Int) == (e.t:Int)))=zCN e:=by
  unfold zCN
  by_cases h:e.f=e.t
  ·rw [h]; simp
  ·rw [decide_eq_true h,beq_eq_false_iff_ne.2 (by omega)]; rfl
 rw [this]
def MaJ (N p1 p4 f:Nat) (v0:Value) (p:GE→Bool) (m:GE→GE) (gs:List GE) (nx:Nat) (h:Hp) (q:Nat) (vs:List Value) (h':Hp) (nx':Nat):Prop :=
 ∃ (i:Nat) (o:Value),q=gs.length-i∧i≤gs.length∧vs=[.func (.func f) ⟨[]⟩ ⟨[]⟩,.pointer (some ⟨p1,0,none⟩),.pointer (some ⟨p4,0,none⟩),o,v0,.int .i64 (gs.length:Int),.int .i64 (i:Int)] ∧
  hget h' p1=some (.cells [.int .i64 (N:Int),v0] false)∧hget h' p4=some (.cells [.int .i64 0,.slice none 0 0] false)∧SlAt h' o encG 3 (((gs.take i).filter p).map m) (nx+1+1) nx'∧Keep nx h h'∧nx+1+1≤nx'
theorem zRD {s:Bool} {N f:Nat} {p:GE→Bool} {m:GE→GE} {gs:List GE} {v:Value} {h:Hp} {nx:Nat} (hv:SlPx h nx v encG gs) (hN:N≤2147483648) (hl:gs.length≤120) (hok:∀ g∈(gs.filter p).map m,GOk N g)
  (hf:∀ (e:GE) (h:Hp) (nx:Nat),Cv Q O s f [.agg ⟨[.int .i64 (e.f:Int),.int .i64 (e.t:Int),.int .i64 e.w]⟩] h nx (PassK (m e) (p e) nx h)) :
  Cv Q O s 225 [.agg ⟨[.int .i64 (N:Int),v]⟩,.func (.func f) ⟨[]⟩ ⟨[]⟩] h nx (CanK N ((gs.filter p).map m) nx h):=by
 refine madev ?_;obtain ⟨a,cap,rfl,hc⟩:=id hv;unfold made aF cF iV lA lF nC nF nS pC;simp (disch:=omega) only [SS,seval];have hml:((gs.filter p).map m).length≤gs.length:=by rw [List.length_map]; exact List.length_filter_le _ _
 have K0:∀ {o o'},Keep nx h (hset (hset h nx o) (nx+1) o'):=((Keep.refl _ _).set (Nat.le_refl _)).set (Nat.le_succ _);refine Lp.mk (MaJ N nx (nx+1) f (.slice a gs.length cap) p m gs nx h) gs.length ⟨0,_,rfl,by omega,rfl,by rw [hold (by omega),hnew],hnew _ _ _,.inl ⟨rfl,rfl⟩,K0,Nat.le_refl _⟩ ?_;rintro q _ h1 nx1 ⟨i,o,rfl,hi,rfl,g1,g4,S,hk,hle⟩;rw [madeb0];unfold madel0 bF iV lA nC xF;simp (disch:=omega) only [SS,seval];refine ⟨fun hlt=>?_,fun hge=>?_⟩
 ·obtain ⟨e,he⟩:=zj hlt;obtain ⟨_,b,sp,ro,c1,cs,hb,e1,hg⟩:=hv.at he;cases e1;have hrd:zA2 (some 3) (i*3) (flat encG gs++cs) = .ok (.agg ⟨[.int .i64 (e.f:Int),.int .i64 (e.t:Int),.int .i64 e.w]⟩):=rdP (enc:=encG) (k:=3) (fun _=>rfl) he (cs:=cs);simp (disch:=omega) only [SS,(hk b hb).trans hg,hrd,seval];refine (hf e _ _).mono ?_;rintro r h2 nx2 ⟨rfl,hk2,hle2⟩;have kk:Keep nx1 h1 h2:=(((Keep.refl nx1 h1).set (Nat.le_refl _)).set (Nat.le_refl _)).trans hk2 (Nat.le_succ _);have ht:((gs.take (i+1)).filter p).map m=((gs.take i).filter p).map m++(if p e then [m e] else []):=by
   rw [List.take_add_one,he,List.filter_append,List.map_append];cases hp:p e <;> simp [hp]
  simp (disch:=omega) only [SS,seval];refine ⟨fun hp=>?_,fun hp=>?_⟩
  ·refine zHW (enc:=encG) (k:=3) (lo:=nx+1+1) (fun _=>rfl) (fun _=>rfl) (by omega) (S.keep (fun c h1 h2=>by rw [hold (by omega),hold (by omega),hold (by omega),kk c h2]) (by omega)) (by omega) (m e) (hnew _ _ _) rfl ?_ fun v5 h5 hs5 hk5=>?_
   ·have h1:=List.length_filter_le p (gs.take i);have h2:=List.length_take_le i gs;rw [List.length_map];omega
   ·refine ⟨gs.length-(i+1),by omega,i+1,v5,rfl,by omega,by rw [zZ (by omega)],?_,?_,by rw [ht,hp]; exact hs5,fun c hc=>?_,by omega⟩
    ·rw [hk5 _ (by omega),hold (by omega),hold (by omega),hold (by omega),kk _ (by omega)]; exact g1
    ·rw [hk5 _ (by omega),hold (by omega),hold (by omega),hold (by omega),kk _ (by omega)]; exact g4
    ·rw [hk5 _ (by omega),hold (by omega),hold (by omega),hold (by omega),kk _ (by omega)]; exact hk c hc
  ·refine ⟨gs.length-(i+1),by omega,i+1,o,rfl,by omega,by rw [zZ (by omega)],?_,?_,?_,fun c hc=>?_,by omega⟩
   ·rw [hold (by omega),hold (by omega),kk _ (by omega)]; exact g1
   ·rw [hold (by omega),hold (by omega),kk _ (by omega)]; exact g4
   ·rw [ht,hp];simp only [Bool.false_eq_true,if_false,List.append_nil];exact S.keep (fun c h1 h2=>by rw [hold (by omega),hold (by omega),kk c h2]) (by omega)
   ·rw [hold (by omega),hold (by omega),kk _ (by omega)]; exact hk c hc
 ·have hie:i=gs.length:=by omega
  subst hie;rw [List.take_length] at S;obtain ⟨a2,n2,c2,rfl⟩:=S.form;simp (disch:=omega) only [SS,g1,seval];refine (zSZ (SlPx.of S.rd) hN hok (by omega)).mono ?_;rintro r h2 nx2 ⟨v2,cs,rfl,hcs,hcan,hcok,hcl,hk2,hle2⟩;obtain ⟨a3,n3,c3,rfl⟩:=hcs.form;have g4':=(hk2 (nx+1) (by omega)).trans g4;simp (disch:=omega) only [SS,g4',seval];refine ⟨_,cs,rfl,?_,hcan,hcok,hcl,fun c hc=>by rw [hold (by omega),hk2 c (by omega)]; exact hk c hc,by omega⟩;rcases hcs with hcs | ⟨b,h1,h2,e,hb⟩
  ·exact .inl hcs
  ·exact .inr ⟨b,by omega,h2,e,by rw [hold (by omega)]; exact hb⟩
def zJS (gs:List GE):List GE:=(gs.filter fun _=>true).map zP2
def zCp (gs:List GE):List GE:=(gs.filter zCN).map id
def zJ5 (gs:List GE):List GE:=(gs.filter fun _=>true).map oneG
theorem zMW {N:Nat} {gs:List GE} (h:∀ g∈gs,GOk N g):∀ g∈zJS gs,GOk N g:=fun g hg=>by
 obtain ⟨e,he,rfl⟩:=List.mem_map.1 hg;have:=h e (List.mem_filter.1 he).1;exact ⟨this.2.1,this.1,this.2.2⟩
theorem zHc {N:Nat} {gs:List GE} (h:∀ g∈gs,GOk N g):∀ g∈zCp gs,GOk N g:=fun g hg=>by
 obtain ⟨e,he,rfl⟩:=List.mem_map.1 hg;exact h e (List.mem_filter.1 he).1
theorem zJ4 {N:Nat} {gs:List GE} (h:∀ g∈gs,GOk N g):∀ g∈zJ5 gs,GOk N g:=fun g hg=>by
 obtain ⟨e,he,rfl⟩:=List.mem_map.1 hg;have:=h e (List.mem_filter.1 he).1;exact ⟨this.1,this.2.1,by show (0:Int)≤1; omega,by show (1:Int)≤2147483647; omega⟩
theorem zBc {p:GE→Bool} {m:GE→GE} (gs:List GE):((gs.filter p).map m).length≤gs.length:=by rw [List.length_map]; exact List.length_filter_le _ _
theorem turn_c {s:Bool} {N:Nat} {gs:List GE} {v:Value} {h:Hp} {nx:Nat} (hv:SlPx h nx v encG gs) (hN:N≤2147483648) (hl:gs.length≤120) (hok:∀ g∈gs,GOk N g) :
  Cv Q O s 229 [.agg ⟨[.int .i64 (N:Int),v]⟩] h nx (CanK N (zJS gs) nx h):=by
 refine turnv ?_;obtain ⟨a,cap,rfl,hc⟩:=id hv;unfold turn cF iV lA nC nS pC;simp (disch:=omega) only [SS,seval];have K0:∀ {o o'},Keep nx h (hset (hset h nx o) (nx+1) o'):=((Keep.refl _ _).set (Nat.le_refl _)).set (Nat.le_succ _);refine (zRD (p:=fun _=>true) (m:=zP2) (hv.keep K0 (by omega)) hN hl (zMW hok) fun e h nx=>turned_c).mono ?_;rintro r h2 nx2 ⟨v2,cs,rfl,hcs,hcan,hcok,hcl,hk2,hle2⟩;obtain ⟨a3,n3,c3,rfl⟩:=hcs.form;have g4':=hk2 (nx+1) (by omega);rw [hnew] at g4';simp (disch:=omega) only [SS,g4',seval];refine ⟨_,cs,rfl,?_,hcan,hcok,Nat.le_trans hcl (Nat.le_refl _),fun c hc=>by rw [hold (by omega),hk2 c (by omega)]; exact K0 c hc,by omega⟩;rcases hcs with hcs | ⟨b,h1,h2,e,hb⟩
 ·exact .inl hcs
 ·exact .inr ⟨b,by omega,h2,e,by rw [hold (by omega)]; exact hb⟩
theorem zM2 {s:Bool} {N:Nat} {gs:List GE} {v:Value} {h:Hp} {nx:Nat} (hv:SlPx h nx v encG gs) (hN:N≤2147483648) (hl:gs.length≤120) (hok:∀ g∈gs,GOk N g) :
  Cv Q O s 129 [.agg ⟨[.int .i64 (N:Int),v]⟩] h nx (CanK N (zCp gs) nx h):=by
 refine simplev ?_;obtain ⟨a,cap,rfl,hc⟩:=id hv;unfold simple cF iV lA nC nS pC;simp (disch:=omega) only [SS,seval];have K0:∀ {o o'},Keep nx h (hset (hset h nx o) (nx+1) o'):=((Keep.refl _ _).set (Nat.le_refl _)).set (Nat.le_succ _);refine (zRD (p:=zCN) (m:=id) (hv.keep K0 (by omega)) hN hl (zHc hok) fun e h nx=>zPd).mono ?_;rintro r h2 nx2 ⟨v2,cs,rfl,hcs,hcan,hcok,hcl,hk2,hle2⟩;obtain ⟨a3,n3,c3,rfl⟩:=hcs.form;have g4':=hk2 (nx+1) (by omega);rw [hnew] at g4';simp (disch:=omega) only [SS,g4',seval];refine ⟨_,cs,rfl,?_,hcan,hcok,Nat.le_trans hcl (Nat.le_refl _),fun c hc=>by rw [hold (by omega),hk2 c (by omega)]; exact K0 c hc,by omega⟩;rcases hcs with hcs | ⟨b,h1,h2,e,hb⟩
 ·exact .inl hcs
 ·exact .inr ⟨b,by omega,h2,e,by rw [hold (by omega)]; exact hb⟩
theorem plain_c {s:Bool} {N:Nat} {gs:List GE} {v:Value} {h:Hp} {nx:Nat} (hv:SlPx h nx v encG gs) (hN:N≤2147483648) (hl:gs.length≤120) (hok:∀ g∈gs,GOk N g) :
  Cv Q O s 131 [.agg ⟨[.int .i64 (N:Int),v]⟩] h nx (CanK N (zJ5 gs) nx h):=by
 refine plainv ?_;obtain ⟨a,cap,rfl,hc⟩:=id hv;unfold plain cF iV lA nC nS pC;simp (disch:=omega) only [SS,seval];have K0:∀ {o o'},Keep nx h (hset (hset h nx o) (nx+1) o'):=((Keep.refl _ _).set (Nat.le_refl _)).set (Nat.le_succ _);refine (zRD (p:=fun _=>true) (m:=oneG) (hv.keep K0 (by omega)) hN hl (zJ4 hok) fun e h nx=>plain1_c).mono ?_;rintro r h2 nx2 ⟨v2,cs,rfl,hcs,hcan,hcok,hcl,hk2,hle2⟩;obtain ⟨a3,n3,c3,rfl⟩:=hcs.form;have g4':=hk2 (nx+1) (by omega);rw [hnew] at g4';simp (disch:=omega) only [SS,g4',seval];refine ⟨_,cs,rfl,?_,hcan,hcok,Nat.le_trans hcl (Nat.le_refl _),fun c hc=>by rw [hold (by omega),hk2 c (by omega)]; exact K0 c hc,by omega⟩;rcases hcs with hcs | ⟨b,h1,h2,e,hb⟩
 ·exact .inl hcs
 ·exact .inr ⟨b,by omega,h2,e,by rw [hold (by omega)]; exact hb⟩
theorem zIk {α:Type} {enc:α→List Value}:∀ (l m:List α),flat enc (l++m)=flat enc l++flat enc m
 | [],m=>rfl
 | x::l,m=>by show enc x++flat enc (l++m)=enc x++flat enc l++flat enc m; rw [zIk l m,List.append_assoc]
theorem zFW:∀ l:List GE,zf (flat encG l)=true
 | []=>rfl
 | x::l=>by
  show zf (encG x++flat encG l)=true;have ih:=zFW l;show (zA7 (.int .i64 (x.f:Int))&&(zA7 (.int .i64 (x.t:Int))&&(zA7 (.int .i64 x.w)&&zf (flat encG l))))=true;rw [ih]; rfl
theorem app_many {h:Hp} {nx b k n:Nat} {acc y:List GE} {cs:List Value} {v2:Value} (hb:hget h b=some (.cells (flat encG acc++cs) false)) (hk:acc.length=k) (hn:k+y.length≤n) (hcs:cs.length=(n-k)*3) (hv:SlPx h nx v2 encG y) :
  ∃ h',zS 3 h nx (.slice (some ⟨b,0,some 3⟩) k n) v2 = .ok (.val (.slice (some ⟨b,0,some 3⟩) (k+y.length) n) h' nx)∧hget h' b=some (.cells (flat encG (acc++y)++cs.drop (y.length*3)) false)∧∀ c,c≠b→hget h' c=hget h c:=by
 obtain ⟨a2,c2,rfl,hc⟩:=hv
 by_cases h0:y=[]
 ·subst h0;refine ⟨h,?_,by rw [List.append_nil,List.length_nil,Nat.zero_mul,List.drop_zero]; exact hb,fun c _=>rfl⟩;have hr:∀ (K:List Value→R OR),zDm h a2 (Nat.mul 0 3) K=K []:=fun K=>by
   cases a2 <;> rfl
  show zDm h a2 (Nat.mul 0 3) (fun new=>zBL 3 h nx (some ⟨b,0,some 3⟩) k n 0 new)=_;rw [hr];unfold zBL;rw [show Nat.ble (Nat.add k 0) n=true from Nat.ble_eq_true_of_le (by simpa using hn)];rfl
 ·obtain ⟨b2,sp,ro,cs2,hb2,rfl,hg⟩:=hc h0;have hyl:0<y.length:=List.length_pos_iff.2 h0;have hfl:=zAF (enc:=encG) (k:=3) (fun _=>rfl) (l:=y);have hfa:=zAF (enc:=encG) (k:=3) (fun _=>rfl) (l:=acc);show ∃ h',zDm h (some ⟨b2,0,sp⟩) (Nat.mul y.length 3) (fun new=>zBL 3 h nx (some ⟨b,0,some 3⟩) k n y.length new)=_∧_;rw [show Nat.mul y.length 3=y.length*3 from rfl,zCL hg (by omega) (by rw [List.length_append,hfl]; omega),List.drop_zero,← hfl,List.take_left];unfold zBL;rw [show Nat.ble (Nat.add k y.length) n=true from Nat.ble_eq_true_of_le hn];obtain ⟨x,r,hxr⟩:∃ x r,flat encG y=x::r:=by
   cases hf:flat encG y with
   | nil=>rw [hf] at hfl; simp at hfl; omega
   | cons x r=>exact ⟨x,r,rfl⟩
  have hw:zAr h b (Nat.add 0 (Nat.mul k 3)) (flat encG y) = .ok (hset h b (.cells (flat encG (acc++y)++cs.drop (y.length*3)) false)):=by
   rw [show Nat.add 0 (Nat.mul k 3)=k*3 from Nat.zero_add _,zJJ hb (zFW y) (by rw [List.length_append,hfa,hfl,hcs,hk]; omega)];have e1:(flat encG acc++cs).take (k*3)=flat encG acc:=by rw [← hk,← hfa,List.take_left]
   have e2:(flat encG acc++cs).drop (k*3+(flat encG y).length)=cs.drop (y.length*3):=by rw [← hk,← hfa,hfl,List.drop_length_add_append]
   rw [e1,e2,zIk]
  refine ⟨hset h b (.cells (flat encG (acc++y)++cs.drop (y.length*3)) false),?_,by rw [hgs,if_pos rfl,hfl],fun c hc=>by rw [hgs,if_neg hc]⟩;rw [hxr] at hw ⊢;show R.bind (zAr h b (Nat.add 0 (Nat.mul k 3)) (x::r)) _=_;rw [hw]; rfl
theorem cap22 {P:Program} {x:Value} {n:Nat}:vCap Tryz.prog (.builtin .cap) [26] [.slice none 0 0] = .ok (.int .i64 0):=by kernel_rfl
theorem ze1:zBv Tryz.prog 26=some 84:=by kernel_rfl
theorem ze2:szOf Tryz.prog 84=some 3:=by kernel_rfl
theorem ze3:zB3 Tryz.prog 84=some [.int .i64 0,.int .i64 0,.int .i64 0]:=by kernel_rfl
theorem ze4:zF5 Tryz.prog 84=true:=by kernel_rfl
theorem ze5:zGs Tryz.prog (some 3)=true:=by kernel_rfl
theorem repL_len (n:Nat) (z:List Value):(repL n z).length=n*z.length:=by
 induction n with
 | zero=>simp [repL]
 | succ n ih=>simp [repL,ih,Nat.add_mul,zAB]; omega
theorem apz {n:Nat} {h:Hp} {nx:Nat} (h0:0<n) (h1:n≤1000):zCV Tryz.prog .append [26,3] h nx [.slice none 0 0,.int .i64 (n:Int)] = .ok (.val (.slice (some ⟨nx,0,some 3⟩) n n) (hset h nx (.cells (repL n [.int .i64 0,.int .i64 0,.int .i64 0]) false)) (nx+1)):=by
 show R.of "append" (zBv Tryz.prog 26) (fun e=>R.of "append" (szOf Tryz.prog e) (fun s=>R.of "append" (zB3 Tryz.prog e) (fun z=>bif Nat.beq (llen z) s&&zF5 Tryz.prog e then zEP Tryz.prog [26,3] z s h nx (.slice none 0 0) (.int .i64 (n:Int)) else .no "append - element")))=_;rw [ze1];show R.of "append" (szOf Tryz.prog 84) (fun s=>R.of "append" (zB3 Tryz.prog 84) (fun z=>bif Nat.beq (llen z) s&&zF5 Tryz.prog 84 then zEP Tryz.prog [26,3] z s h nx (.slice none 0 0) (.int .i64 (n:Int)) else .no "append - element"))=_;rw [ze2,ze3,ze4];show zEP Tryz.prog [26,3] [.int .i64 0,.int .i64 0,.int .i64 0] 3 h nx (.slice none 0 0) (.int .i64 (n:Int))=_;unfold zEP;rw [show lget [26,3] 1=some 3 from rfl,ze5];show (bif Nat.ble n 1000000 then zBL 3 h nx none 0 0 n (repL n [.int .i64 0,.int .i64 0,.int .i64 0]) else .no "append")=_;rw [show Nat.ble n 1000000=true from Nat.ble_eq_true_of_le (by omega)];show zBL 3 h nx none 0 0 n _=_;unfold zBL;rw [show Nat.ble (Nat.add 0 n) 0=false from by
  cases hb:Nat.ble (Nat.add 0 n) 0 with
  | false=>rfl
  | true=>have:=Nat.le_of_ble_eq_true hb; have e:Nat.add 0 n=n:=Nat.zero_add n; omega]
 rw [show (Nat.ble (Nat.mul (Nat.add 0 n) 3) 1000000&&Nat.ble (Nat.add 0 n) 1000000)=true from by
  rw [show Nat.add 0 n=n from Nat.zero_add n];simp only [Bool.and_eq_true,Nat.ble_eq];constructor
  ·show n*3≤_; omega
  ·omega]
 show zFL h nx 3 _ (Nat.add 0 n)=_;rw [show Nat.add 0 n=n from Nat.zero_add n];exact zBf (by omega)
theorem grow_c {s:Bool} {n:Nat} {h:Hp} {nx:Nat} (hn:n≤1000):Cv Q O s 308 [.slice none 0 0,.int .i64 (n:Int)] h nx (fun r h' nx'=>(n=0∧r = .slice none 0 0∧h'=h∧nx'=nx)∨(0<n∧r = .slice (some ⟨nx,0,some 3⟩) 0 n∧(∃ cs,hget h' nx=some (.cells cs false)∧cs.length=n*3)∧Keep nx h h'∧nx'=nx+1)):=by
 refine growv ?_;unfold grow bF iV nF;rw [cap22 (P:=Tryz.prog) (x:=.nilFunc) (n:=0)];have w0:IntKind.wrap .i64 (0-((0:Nat):Int))=0:=by rfl
 have w1:IntKind.wrap .i64 ((n:Int)-0)=(n:Int):=by rw [Int.sub_zero]; exact zFl n (by omega)
 simp (disch:=omega) only [SS,↓reduceIte,Nat.reduceAdd,Nat.reduceSub,Nat.reduceMul,Nat.reduceLT,Nat.reduceLeDiff,Nat.reduceEqDiff,Int.reduceBEq,Int.reduceLT,Int.reduceNeg,w0,w1];refine ⟨fun h=>absurd h (by omega),fun _=>⟨fun h0=>?_,fun h0=>.inl (by omega)⟩⟩;rw [show vSl 3 (.slice none 0 0) none (some (.int .i64 0)) none = .ok (.slice none 0 0) from rfl,zX,show Q=Tryz.prog from rfl,apz (by omega) hn];show RK (vSl 3 (.slice (some ⟨nx,0,some 3⟩) n n) none (some (.int .i64 ((0:Nat):Int))) none) _;have hsl:vSl 3 (.slice (some ⟨nx,0,some 3⟩) n n) none (some (.int .i64 ((0:Nat):Int))) none = .ok (.slice (some ⟨nx,0,some 3⟩) 0 n):=by
  obtain ⟨m,rfl⟩:∃ m,n=m+1:=⟨n-1,by omega⟩
  show zF7 3 (some ⟨nx,0,some 3⟩) (m+1) false (m+1) 0 0=_;unfold zF7;rw [show (Nat.ble (m+1) (m+1)&&(Nat.ble 0 (m+1)&&Nat.ble 0 0))=true by simp only [Bool.and_eq_true,Nat.ble_eq]; omega];rfl
 rw [hsl,zX];exact .inr ⟨by omega,rfl,⟨_,hnew _ _ _,by rw [repL_len]; rfl⟩,fun c hc=>hold (by omega),rfl⟩
def ac2 (l1 l2:List GE):Nat→List GE
 | 0=>[]
 | 1=>l1
 | _=>l1++l2
def CcJ0 (l1 l2:List GE) (p:Nat) (h:Hp) (nx:Nat) (m:Nat) (vs:List Value) (h':Hp) (nx':Nat):Prop :=
 ∃ i,m=2-i∧i≤2∧vs=[.slice (some ⟨p,0,none⟩) 2 2,.int .i64 ((ac2 l1 l2 i).length:Int),.slice (some ⟨p,0,none⟩) 2 2,.int .i64 2,.int .i64 (i:Int)]∧h'=h∧nx'=nx
def CcO (h:Hp) (lo hi n:Nat) (acc:List GE) (o:Value):Prop:=(n=0∧acc=[]∧o = .slice none 0 0)∨∃ b cs,lo≤b∧b<hi∧o = .slice (some ⟨b,0,some 3⟩) acc.length n∧hget h b=some (.cells (flat encG acc++cs) false)∧cs.length=(n-acc.length)*3
def CcJ1 (l1 l2:List GE) (n p:Nat) (h:Hp) (nx:Nat) (m:Nat) (vs:List Value) (h':Hp) (nx':Nat):Prop :=
 ∃ (i:Nat) (o:Value),m=2-i∧i≤2∧vs=[o,.slice (some ⟨p,0,none⟩) 2 2,.int .i64 2,.int .i64 (i:Int)]∧CcO h' nx nx' n (ac2 l1 l2 i) o∧Keep nx h h'∧nx≤nx'
theorem concat_c {s:Bool} {p c:Nat} {l1 l2:List GE} {v1 v2:Value} {ro:Bool} {h:Hp} {nx:Nat} (hp:hget h p=some (.cells [v1,v2] ro)) (hpn:p<nx) (h1:SlPx h nx v1 encG l1) (h2:SlPx h nx v2 encG l2) (hl:l1.length+l2.length≤1000) :
  Cv Q O s 228 [.slice (some ⟨p,0,none⟩) 2 2] h nx (fun r h' nx'=>SlPx h' nx' r encG (l1++l2)∧Keep nx h h'∧nx≤nx'):=by
 refine concatv ?_;obtain ⟨a1,c1,rfl,hc1⟩:=id h1;obtain ⟨a2,c2,rfl,hc2⟩:=id h2;unfold concat cF iV nF nS;simp (disch:=omega) only [SS,↓reduceIte,Nat.reduceAdd,Nat.reduceSub,Nat.reduceMul,Nat.reduceLT,Nat.reduceLeDiff,Nat.reduceEqDiff,Int.reduceBEq,Int.reduceLT,Int.reduceNeg];refine Lp.mk (CcJ0 l1 l2 p h nx) 2 ⟨0,rfl,by omega,rfl,rfl,rfl⟩ ?_;rintro m _ h3 nx3 ⟨i,rfl,hi,rfl,e1,e2⟩;rw [e1,e2,concatb0];unfold zN7 bF iV lF nF xF
 match i,hi with
 | 0,_ =>
  have w:IntKind.wrap .i64 (((ac2 l1 l2 0).length:Int)+(l1.length:Int))=((ac2 l1 l2 1).length:Int):=by
   rw [show ((ac2 l1 l2 0).length:Int)+(l1.length:Int)=(l1.length:Int) by simp [ac2]];exact zFl _ (by omega)
  simp (disch:=omega) only [SS,↓reduceIte,Nat.reduceAdd,Nat.reduceSub,Nat.reduceMul,Nat.reduceLT,Nat.reduceLeDiff,Nat.reduceEqDiff,Int.reduceBEq,Int.reduceLT,Int.reduceNeg,hp,w];exact ⟨fun _=>⟨fun h=>absurd h (by omega),fun _=>⟨1,by omega,1,rfl,by omega,rfl,rfl,rfl⟩⟩,fun h=>absurd (show ((0:Nat):Int)<2 by omega) h⟩
 | 1,_ =>
  have w:IntKind.wrap .i64 (((ac2 l1 l2 1).length:Int)+(l2.length:Int))=((ac2 l1 l2 2).length:Int):=by
   rw [show ((ac2 l1 l2 1).length:Int)+(l2.length:Int)=((l1.length+l2.length:Nat):Int) by simp [ac2]];rw [zFl _ (by omega)]; simp [ac2]
  simp (disch:=omega) only [SS,↓reduceIte,Nat.reduceAdd,Nat.reduceSub,Nat.reduceMul,Nat.reduceLT,Nat.reduceLeDiff,Nat.reduceEqDiff,Int.reduceBEq,Int.reduceLT,Int.reduceNeg,hp,w];exact ⟨fun _=>⟨fun h=>absurd h (by omega),fun _=>⟨0,by omega,2,rfl,by omega,rfl,rfl,rfl⟩⟩,fun h=>absurd (show ((1:Nat):Int)<2 by omega) h⟩
 | 2,_ =>
  simp (disch:=omega) only [SS,↓reduceIte,Nat.reduceAdd,Nat.reduceSub,Nat.reduceMul,Nat.reduceLT,Nat.reduceLeDiff,Nat.reduceEqDiff,Int.reduceBEq,Int.reduceLT,Int.reduceNeg];refine ⟨fun h=>absurd h (by omega),fun _=>?_⟩;have htot:(ac2 l1 l2 2).length=l1.length+l2.length:=by simp [ac2]
  refine (grow_c (by omega)).mono ?_;intro r h4 nx4 hg;generalize hn:(ac2 l1 l2 2).length=n at hg htot;have st:CcO h4 nx nx4 n [] r∧Keep nx h h4∧nx≤nx4:=by
   rcases hg with ⟨h0,rfl,rfl,rfl⟩ | ⟨h0,rfl,⟨cs,hb,hcs⟩,hk,rfl⟩
   ·exact ⟨.inl ⟨h0,rfl,rfl⟩,Keep.refl _ _,Nat.le_refl _⟩
   ·exact ⟨.inr ⟨nx,cs,Nat.le_refl _,by omega,rfl,hb,by rw [hcs]; rfl⟩,hk,by omega⟩
  obtain ⟨st,hk4,hle4⟩:=st;refine Lp.mk (CcJ1 l1 l2 n p h nx) 2 ⟨0,r,rfl,by omega,rfl,st,hk4,hle4⟩ ?_;clear st hk4 hle4 hg;rintro m _ h5 nx5 ⟨i,o,rfl,hi,rfl,st,hk5,hle5⟩;rw [concatb1];unfold zN6 bF iV lF xF;have hp5:=(hk5 p hpn).trans hp;have step:∀ (j:Nat) (y:List GE) (vy:Value),SlPx h nx vy encG y→ac2 l1 l2 (j+1)=ac2 l1 l2 j++y→(ac2 l1 l2 (j+1)).length≤n→CcO h5 nx nx5 n (ac2 l1 l2 j) o→j+1≤2 →
    EK (orR (zS 3 h5 nx5 o vy)) fun x23 h24 n25=>RK (bin Q .add 3 (.int .i64 (j:Int)) (.int .i64 1)) fun x26=>∃ m',m'<2-j∧CcJ1 l1 l2 n p h nx m' [x23,.slice (some ⟨p,0,none⟩) 2 2,.int .i64 2,x26] h24 n25:=by
   intro j y vy hy he hlen st hj;rcases st with ⟨hn0,hac,rfl⟩ | ⟨b,cs,hb1,hb2,rfl,hb,hcs⟩
   ·have hy0:y=[]:=by
     rw [he,hac,hn0] at hlen;exact List.eq_nil_of_length_eq_zero (by simpa using hlen)
    subst hy0;obtain ⟨a3,c3,rfl,_⟩:=hy;have ea:zS 3 h5 nx5 (.slice none 0 0) (.slice a3 ([]:List GE).length c3) = .ok (.val (.slice none 0 0) h5 nx5):=by cases a3 <;> rfl
    rw [ea];simp (disch:=omega) only [SS,↓reduceIte,Nat.reduceAdd,Nat.reduceSub,Nat.reduceMul,Nat.reduceLT,Nat.reduceLeDiff,Nat.reduceEqDiff,Int.reduceBEq,Int.reduceLT,Int.reduceNeg,orR,EK_v,zZ (show j<1000000000000 by omega)];exact ⟨2-(j+1),by omega,j+1,_,rfl,hj,rfl,.inl ⟨hn0,by rw [he,hac]; rfl,rfl⟩,hk5,hle5⟩
   ·rw [he,List.length_append] at hlen;obtain ⟨h6,e6,hb6,hf6⟩:=app_many (nx:=nx5) hb rfl (by omega) hcs (hy.keep hk5 hle5);rw [e6];simp (disch:=omega) only [SS,↓reduceIte,Nat.reduceAdd,Nat.reduceSub,Nat.reduceMul,Nat.reduceLT,Nat.reduceLeDiff,Nat.reduceEqDiff,Int.reduceBEq,Int.reduceLT,Int.reduceNeg,orR,EK_v,zZ (show j<1000000000000 by omega)];refine ⟨2-(j+1),by omega,j+1,_,rfl,hj,rfl,.inr ⟨b,cs.drop (y.length*3),hb1,hb2,?_,?_,?_⟩,fun c hc=>by rw [hf6 c (by omega)]; exact hk5 c hc,hle5⟩
    ·rw [he,List.length_append]
    ·rw [he]; exact hb6
    ·rw [he,List.length_append,List.length_drop,hcs]; omega
  match i,hi with
  | 0,_ =>
   simp (disch:=omega) only [SS,↓reduceIte,Nat.reduceAdd,Nat.reduceSub,Nat.reduceMul,Nat.reduceLT,Nat.reduceLeDiff,Nat.reduceEqDiff,Int.reduceBEq,Int.reduceLT,Int.reduceNeg,hp5];exact ⟨fun _=>step 0 l1 _ h1 rfl (by rw [htot]; simp [ac2]) st (by omega),fun h=>absurd (show ((0:Nat):Int)<2 by omega) h⟩
  | 1,_ =>
   simp (disch:=omega) only [SS,↓reduceIte,Nat.reduceAdd,Nat.reduceSub,Nat.reduceMul,Nat.reduceLT,Nat.reduceLeDiff,Nat.reduceEqDiff,Int.reduceBEq,Int.reduceLT,Int.reduceNeg,hp5];exact ⟨fun _=>step 1 l2 _ h2 rfl (by rw [hn]; exact Nat.le_refl _) st (by omega),fun h=>absurd (show ((1:Nat):Int)<2 by omega) h⟩
  | 2,_ =>
   simp (disch:=omega) only [SS,↓reduceIte,Nat.reduceAdd,Nat.reduceSub,Nat.reduceMul,Nat.reduceLT,Nat.reduceLeDiff,Nat.reduceEqDiff,Int.reduceBEq,Int.reduceLT,Int.reduceNeg];refine ⟨fun h=>absurd h (by omega),fun _=>⟨?_,hk5,hle5⟩⟩;rcases st with ⟨hn0,hac,rfl⟩ | ⟨b,cs,hb1,hb2,rfl,hb,hcs⟩
   ·have hac:l1++l2=[]:=hac;rw [hac];exact ⟨none,0,rfl,fun h=>absurd rfl h⟩
   ·exact ⟨some ⟨b,0,some 3⟩,n,rfl,fun _=>⟨b,some 3,false,cs,hb2,rfl,hb⟩⟩
theorem both_c {s:Bool} {N:Nat} {gs:List GE} {v:Value} {h:Hp} {nx:Nat} (hv:SlPx h nx v encG gs) (hN:N≤2147483648) (hl:gs.length≤60) (hok:∀ g∈gs,GOk N g) :
  Cv Q O s 130 [.agg ⟨[.int .i64 (N:Int),v]⟩] h nx (fun r h' nx'=>∃ ts,IsCan ((zJS gs).map gE) (ts.map gE)∧ts.length≤gs.length∧(∀ g∈ts,GOk N g)∧CanK N (gs++ts) nx h r h' nx'):=by
 refine bothv ?_;obtain ⟨a,cap,rfl,hc⟩:=id hv;unfold both aF dF gL iV lA lF nC nS pC;simp (disch:=omega) only [SS,seval];have K0:∀ {o o'},Keep nx h (hset (hset h nx o) (nx+1) o'):=((Keep.refl _ _).set (Nat.le_refl _)).set (Nat.le_succ _);refine (turn_c (hv.keep K0 (by omega)) hN (by omega) hok).mono ?_;rintro r h1 nx1 ⟨v1,ts,rfl,hts,htc,htok,htl,hk1,hle1⟩;have htl2:ts.length≤gs.length:=Nat.le_trans htl (zBc gs);have g0:=hk1 nx (by omega);rw [hold (by omega),hnew] at g0;have g4:=hk1 (nx+1) (by omega);rw [hnew] at g4;obtain ⟨a3,n3,c3,rfl⟩:=hts.form;refine ⟨hle1,?_⟩;have K1:Keep nx h h1:=K0.trans hk1 (by omega);simp (disch:=omega) only [SS,g0,zIw,seval];have k2:∀ {o},Keep nx1 h1 (hset h1 nx1 o):=(Keep.refl _ _).set (Nat.le_refl _);refine (concat_c (c:=2) (hnew _ _ _) (Nat.lt_succ_self _) ((hv.keep K1 (by omega)).keep k2 (Nat.le_succ _)) ((SlPx.of hts.rd).keep k2 (Nat.le_succ _)) (by omega)).mono ?_;rintro r h3 nx3 ⟨h5,hk3,hle3⟩;obtain ⟨a5,c5,rfl,hc5⟩:=id h5;have g0':=(hk3 nx (by omega)).trans ((hold (by omega)).trans g0);have g4':=(hk3 (nx+1) (by omega)).trans ((hold (by omega)).trans g4);have K3:Keep nx h h3:=fun c hc=>by rw [hk3 c (by omega),hold (by omega)]; exact K1 c hc
 refine ⟨hle3,?_⟩;simp (disch:=omega) only [SS,g0',zIw,seval];have hok2:∀ g∈gs++ts,GOk N g:=fun g hg=>by
  rcases List.mem_append.1 hg with hg | hg
  ·exact hok g hg
  ·exact htok g hg
 refine (zSZ h5 hN hok2 (by rw [List.length_append]; omega)).mono ?_;rintro r h6 nx6 ⟨v6,cs,rfl,hcs,hcan,hcok,hcl,hk6,hle6⟩;obtain ⟨a7,n7,c7,rfl⟩:=hcs.form;have g4'':=(hk6 (nx+1) (by omega)).trans g4';refine ⟨hle6,?_⟩;simp (disch:=omega) only [SS,g4'',seval];refine ⟨ts,htc,htl2,htok,_,cs,rfl,?_,hcan,hcok,hcl,fun c hc=>by rw [hold (by omega),hk6 c (by omega)]; exact K3 c hc,by omega⟩;rcases hcs with hcs | ⟨b,h1,h2,e,hb⟩
 ·exact .inl hcs
 ·exact .inr ⟨b,by omega,h2,e,by rw [hold (by omega)]; exact hb⟩
def zMJ (r c:Int) (a1 a2 a3:Option Addr) (n1 n2 n3 c1 c2 c3:Nat):Value:=.agg ⟨[.int .i64 r,.int .i64 c,.slice a1 n1 c1,.slice a2 n2 c2,.slice a3 n3 c3]⟩
def SomeM (r:Value):Prop:=∃ (x y:Int) (a1 a2 a3:Option Addr) (n1 n2 n3 c1 c2 c3:Nat),r=zMJ x y a1 a2 a3 n1 n2 n3 c1 c2 c3
theorem empty_c {s:Bool} {N:Nat} {h:Hp} {nx:Nat} (hN:N≤4096):Cv Q O s 310 [.int .i64 (N:Int),.int .i64 (N:Int)] h nx (fun r h' nx'=>r = .agg ⟨[.int .i64 (N:Int),.int .i64 (N:Int),.slice (some ⟨nx+1,0,none⟩) (N+1) (N+1),.slice none 0 0,.slice none 0 0]⟩∧hget h' (nx+1)=some (.cells (ints (List.replicate (N+1) 0)) false)∧Keep nx h h'∧nx'=nx+1+1):=by
 refine emptyv ?_;unfold empty bF iV lA nC nS;have r0:List.replicate (N+1) (Value.int .i64 0)=ints (List.replicate (N+1) 0):=by simp [ints]
 simp (disch:=omega) only [SS,zZ (show N<1000000000000 by omega),r0,seval];exact ((Keep.refl _ _).set (Nat.le_refl _)).set (Nat.le_succ _) |>.set (Nat.le_refl _)
def TwoI (h:Hp) (v1 v2:Value) (l1 l2:List Int) (lo hi:Nat):Prop :=
 (l1=[]∧l2=[]∧v1 = .slice none 0 0∧v2 = .slice none 0 0)∨∃ b1 b2,b1≠b2∧lo≤b1∧b1<hi∧lo≤b2∧b2<hi∧v1 = .slice (some ⟨b1,0,some 1⟩) l1.length l1.length∧v2 = .slice (some ⟨b2,0,some 1⟩) l2.length l2.length ∧
  hget h b1=some (.cells (ints l1) false)∧hget h b2=some (.cells (ints l2) false)
theorem TwoI.gr {h:Hp} {v1 v2:Value} {l1 l2:List Int} {lo hi:Nat} (T:TwoI h v1 v2 l1 l2 lo hi):∃ o1 o2,Gr h encI 1 v1 l1 o1∧Gr h encI 1 v2 l2 o2∧(∀ b,o1=some b→lo≤b∧b<hi∧o2≠some b)∧∀ b,o2=some b→lo≤b∧b<hi:=by
 rcases T with ⟨rfl,rfl,rfl,rfl⟩ | ⟨b1,b2,hne,h1,h2,h3,h4,rfl,rfl,g1,g2⟩
 ·exact ⟨none,none,Gr.nil,Gr.nil,⟨fun b e=>(by cases e),fun b e=>(by cases e)⟩⟩
 ·rw [← zT] at g1 g2;exact ⟨some b1,some b2,.own g1,.own g2,fun b e=>by cases e; exact ⟨h1,h2,fun e=>hne (by cases e; rfl)⟩,fun b e=>by cases e; exact ⟨h3,h4⟩⟩
theorem TwoI.form {h:Hp} {v1 v2:Value} {l1 l2:List Int} {lo hi:Nat} (T:TwoI h v1 v2 l1 l2 lo hi):∃ a1 n1 c1 a2 n2 c2,v1 = .slice a1 n1 c1∧v2 = .slice a2 n2 c2:=by
 rcases T with ⟨_,_,rfl,rfl⟩ | ⟨b1,b2,_,_,_,_,_,rfl,rfl,_⟩
 ·exact ⟨_,_,_,_,_,_,rfl,rfl⟩
 ·exact ⟨_,_,_,_,_,_,rfl,rfl⟩
def BuJ0 (N p1 p7 p5 lo:Nat) (vt:Value) (ts:List GE) (h0:Hp) (nx:Nat) (m:Nat) (vs:List Value) (h':Hp) (nx':Nat):Prop :=
 ∃ (i:Nat) (S:List Int) (vc vv:Value),m=ts.length-i∧i≤ts.length∧vs=[.int .i64 (N:Int),.pointer (some ⟨p1,0,none⟩),.pointer (some ⟨p7,0,none⟩),vt,.int .i64 (ts.length:Int),.int .i64 (i:Int)] ∧
  hget h' p7=some (.cells [.int .i64 (N:Int),.int .i64 (N:Int),.slice (some ⟨p5,0,none⟩) (N+1) (N+1),vc,vv] false)∧hget h' p5=some (.cells (ints S) false)∧S.length=N+1∧(∀ x∈S,0≤x∧x≤(i:Int)) ∧
  TwoI h' vc vv ((ts.take i).map fun e=>(e.t:Int)) ((ts.take i).map GE.w) lo nx'∧(∀ c,c<lo→c≠p7→c≠p5→hget h' c=hget h0 c)∧lo≤nx'
def BuJ1 (N p1 p7 p5 lo:Nat) (vc vv:Value) (h0:Hp) (nx:Nat) (m:Nat) (vs:List Value) (h':Hp) (nx':Nat):Prop :=
 ∃ (i:Nat) (S:List Int),m=N-i∧i≤N∧vs=[.pointer (some ⟨p1,0,none⟩),.pointer (some ⟨p7,0,none⟩),.int .i64 (N:Int),.int .i64 (i:Int)] ∧
  hget h' p7=some (.cells [.int .i64 (N:Int),.int .i64 (N:Int),.slice (some ⟨p5,0,none⟩) (N+1) (N+1),vc,vv] false)∧hget h' p5=some (.cells (ints S) false)∧S.length=N+1∧(∀ (k:Nat) (x:Int),S[k]? = some x→0≤x∧(x≤120∨(k≤i∧x≤120*((k:Int)+1)))) ∧
  (∀ c,c≠p5→hget h' c=hget h0 c)∧nx'=nx
def RowsR (h:Hp) (lo hi:Nat) (r:Value):Prop:=∃ (x y:Int) (v1 v2 v3:Value) (st cl vl:List Int),r = .agg ⟨[.int .i64 x,.int .i64 y,v1,v2,v3]⟩∧SlNw h lo hi v1 encI st∧SlNw h lo hi v2 encI cl∧SlNw h lo hi v3 encI vl∧st.length≤4097∧cl.length≤120∧vl.length≤120
theorem RowsR.form {h:Hp} {lo hi:Nat} {r:Value} (H:RowsR h lo hi r):SomeM r:=by
 obtain ⟨x,y,v1,v2,v3,st,cl,vl,rfl,⟨a1,c1,rfl,_⟩,⟨a2,c2,rfl,_⟩,⟨a3,c3,rfl,_⟩,_⟩:=H;exact ⟨_,_,_,_,_,_,_,_,_,_,_,rfl⟩
theorem RowsR.keep {h h':Hp} {lo hi lo' hi':Nat} {r:Value} (H:RowsR h lo hi r) (hk:∀ b,lo≤b→b<hi→hget h' b=hget h b) (h1:lo'≤lo) (h2:hi≤hi'):RowsR h' lo' hi' r:=by
 obtain ⟨x,y,v1,v2,v3,st,cl,vl,rfl,s1,s2,s3,l⟩:=H;exact ⟨x,y,v1,v2,v3,st,cl,vl,rfl,s1.keep hk h1 h2,s2.keep hk h1 h2,s3.keep hk h1 h2,l⟩
theorem zJh {h:Hp} {lo hi:Nat}:SlNw h lo hi (.slice none 0 0) encI []:=⟨none,0,rfl,fun e=>absurd rfl e⟩
theorem RowsR.zero {h:Hp} {lo hi:Nat}:RowsR h lo hi (.agg ⟨[.int .i64 0,.int .i64 0,.slice none 0 0,.slice none 0 0,.slice none 0 0]⟩):=⟨0,0,_,_,_,[],[],[],rfl,zJh,zJh,zJh,by simp,by simp,by simp⟩
theorem TwoI.nw {h:Hp} {v1 v2:Value} {l1 l2:List Int} {lo hi:Nat} (T:TwoI h v1 v2 l1 l2 lo hi):SlNw h lo hi v1 encI l1∧SlNw h lo hi v2 encI l2:=by
 rcases T with ⟨rfl,rfl,rfl,rfl⟩ | ⟨b1,b2,hne,h1,h2,h3,h4,rfl,rfl,g1,g2⟩
 ·exact ⟨zJh,zJh⟩
 ·rw [← zT] at g1 g2;exact ⟨⟨_,_,rfl,fun _=>⟨b1,_,_,h1,h2,rfl,g1⟩⟩,⟨_,_,rfl,fun _=>⟨b2,_,_,h3,h4,rfl,g2⟩⟩⟩
def BuiltK (nx:Nat) (h:Hp):KC':=fun r h' nx'=>RowsR h' nx nx' r∧Keep nx h h'∧nx≤nx'
theorem built_c {s:Bool} {N:Nat} {ts:List GE} {v:Value} {h:Hp} {nx:Nat} (hv:SlPx h nx v encG ts) (hN:N≤4096) (hl:ts.length≤120) (hok:∀ g∈ts,GOk N g) :
  Cv Q O s 231 [.int .i64 (N:Int),.int .i64 (N:Int),v] h nx (BuiltK nx h):=by
 refine builtv ?_;obtain ⟨a,cap,rfl,hc⟩:=id hv;unfold built cF iV lA nC nF nS;simp (disch:=omega) only [SS,seval];refine (empty_c hN).mono ?_;rintro r h1 _ ⟨rfl,hb1,hk1,rfl⟩;have g0:=hk1 nx (by omega);rw [hnew] at g0;simp (disch:=omega) only [SS,seval];refine Lp.mk (BuJ0 N nx (nx+1+1+1) (nx+1+1) (nx+1+1+1+1) (.slice a ts.length cap) ts h1 nx) ts.length ⟨0,List.replicate (N+1) 0,_,_,rfl,by omega,rfl,hnew _ _ _,by rw [hold (by omega),hold (by omega)]; exact hb1,by simp,fun x hx=>by rw [List.eq_of_mem_replicate hx]; omega,.inl ⟨rfl,rfl,rfl,rfl⟩,fun c h1 h2 h3=>by rw [hold h2,hold h2],Nat.le_refl _⟩ ?_;rintro m _ h2 nx2 ⟨i,S,vc,vv,rfl,hi,rfl,g7,g5,hSl,hSb,T,hf,hle⟩;obtain ⟨o1,o2,G1,G2,B1,B2⟩:=T.gr;obtain ⟨a1,n1,c1,a2,n2,c2,rfl,rfl⟩:=T.form;rw [builtb0];unfold zS8 aF bF iV lA lF nC xF;simp (disch:=omega) only [SS,seval];refine ⟨fun hlt=>?_,fun hge=>?_⟩
 ·obtain ⟨e,he⟩:=zj hlt;have hem:=hok e (List.mem_of_getElem? he);have hef:e.f<N:=hem.1;obtain ⟨_,b,sp,ro,cx,cs,hb,e1,hg⟩:=hv.at he;cases e1;have hg2:=(hf b (by omega) (by omega) (by omega)).trans ((hk1 b (by omega)).trans ((hold (by omega)).trans hg));have hrd:zA2 (some 3) (i*3) (flat encG ts++cs) = .ok (.agg ⟨[.int .i64 (e.f:Int),.int .i64 (e.t:Int),.int .i64 e.w]⟩):=rdP (enc:=encG) (k:=3) (fun _=>rfl) he (cs:=cs);obtain ⟨x,hx⟩:=zj (l:=S) (i:=e.f+1) (by omega);have hxb:=hSb x (List.mem_of_getElem? hx);have hwx:IntKind.wrap .i64 (x+1)=x+1:=zB4 (by omega) (by omega);simp (disch:=omega) only [SS,hg2,hrd,g7,g5,zZ (show e.f<1000000000000 by omega),zg hx,hwx,seval];refine ⟨by omega,?_⟩;have hcl:((ts.take i).map fun e=>(e.t:Int)).length=i:=by rw [List.length_map,List.length_take]; omega
  have hvl:((ts.take i).map GE.w).length=i:=by rw [List.length_map,List.length_take]; omega
  refine zB2 (G1.keep fun c hc=>by have:=B1 c hc; rw [hold (by omega),hold (by omega),hold (by omega),hold (by omega)]) (hnew _ _ _) (by omega) fun h3 hn3 hf3=>?_;have g73:hget h3 (nx+1+1+1)=some (.cells [.int .i64 (N:Int),.int .i64 (N:Int),.slice (some ⟨nx+1+1,0,none⟩) (N+1) (N+1),.slice a1 n1 c1,.slice a2 n2 c2] false):=by
   rw [hf3 _ (by omega) (fun e=>by have:=B1 _ e; omega),hold (by omega),hold (by omega),hold (by omega),hold (by omega)]; exact g7
  have ge3:hget h3 nx2=some (.cells [.int .i64 (e.f:Int),.int .i64 (e.t:Int),.int .i64 e.w] false):=by
   rw [hf3 _ (by omega) (fun e=>by have:=B1 _ e; omega),hold (by omega),hold (by omega),hnew]
  simp (disch:=omega) only [SS,g73,ge3,seval];refine zB2 (G2.keep fun c hc=>?_) (hnew _ _ _) (by omega) fun h4 hn4 hf4=>?_
  ·have:=B2 c hc;rw [hold (by omega),hold (by omega),hf3 c (by omega) (fun e=>(B1 c e).2.2 hc),hold (by omega),hold (by omega),hold (by omega),hold (by omega)]
  have g74:hget h4 (nx+1+1+1)=some (.cells [.int .i64 (N:Int),.int .i64 (N:Int),.slice (some ⟨nx+1+1,0,none⟩) (N+1) (N+1),.slice (some ⟨nx2+1+1,0,some 1⟩) (((ts.take i).map fun e=>(e.t:Int)).length+1) (((ts.take i).map fun e=>(e.t:Int)).length+1),.slice a2 n2 c2] false):=by
   rw [hf4 _ (by omega) (fun e=>by have:=B2 _ e; omega),hold (by omega),hnew]
  simp (disch:=omega) only [SS,g74,seval];have htk:ts.take (i+1)=ts.take i++[e]:=by rw [List.take_add_one,he]; rfl
  have hfr:∀ c,c<nx+1+1+1+1→c≠nx+1+1+1→c≠nx+1+1→hget h4 c=hget h2 c:=fun c h1 h2 h3=>by
   rw [hf4 c (by omega) (fun e=>by have:=B2 _ e; omega),hold (by omega),hold (by omega),hf3 c (by omega) (fun e=>by have:=B1 _ e; omega),hold (by omega),hold (by omega),hold (by omega),hold (by omega)]
  refine ⟨ts.length-(i+1),by omega,i+1,S.set (e.f+1) (x+1),_,_,rfl,by omega,by rw [zZ (by omega)],hnew _ _ _,?_,by rw [List.length_set]; exact hSl,fun z hz=>?_,.inr ⟨nx2+1+1,nx2+1+1+1+1,by omega,by omega,by omega,by omega,by omega,?_,?_,?_,?_⟩,fun c h1 h2 h3=>?_,by omega⟩
  ·rw [hold (by omega),hf4 _ (by omega) (fun e=>by have:=B2 _ e; omega),hold (by omega),hold (by omega),hf3 _ (by omega) (fun e=>by have:=B1 _ e; omega),hold (by omega),hnew]
  ·rcases List.mem_or_eq_of_mem_set hz with hz | rfl
   ·have:=hSb z hz; omega
   ·omega
  ·rw [htk,List.map_append,List.length_append]; rfl
  ·rw [htk,List.map_append,List.length_append]; rfl
  ·rw [hold (by omega),hf4 _ (by omega) (fun e=>by have:=B2 _ e; omega),hold (by omega),hold (by omega),hn3,htk,List.map_append]; rfl
  ·rw [hold (by omega),hn4,htk,List.map_append]; rfl
  ·rw [hold h2,hfr c h1 h2 h3]; exact hf c h1 h2 h3
 ·obtain ⟨T1,T2⟩:=T.nw;have hie:i=ts.length:=by omega
  subst hie;rw [List.take_length] at T1 T2;have hlo:=hle;refine Lp.mk (BuJ1 N nx (nx+1+1+1) (nx+1+1) (nx+1+1+1+1) (.slice a1 n1 c1) (.slice a2 n2 c2) h2 nx2) N ⟨0,S,rfl,by omega,rfl,g7,g5,hSl,fun k x hx=>?_,fun _ _=>rfl,rfl⟩ ?_
  ·have:=hSb x (List.mem_of_getElem? hx);omega
  clear T G1 G2 B1 B2 g5 hSb hSl;rintro m _ h3 _ ⟨k,S,rfl,hk,rfl,_,g5,hSl,hSb,hf3,rfl⟩;have g7:=(hf3 (nx+1+1+1) (by omega)).trans g7;rw [builtb1];unfold zS7 aF bF iV lF xF
  by_cases hkN:k<N
  ·obtain ⟨x,hx⟩:=zj (l:=S) (i:=k+1) (by omega);obtain ⟨y,hy⟩:=zj (l:=S) (i:=k) (by omega);have hxb:=hSb _ x hx;have hyb:=hSb _ y hy;have hxy:0≤x+y∧x+y≤120*((k:Int)+1+1):=by omega
   have hwx:IntKind.wrap .i64 (x+y)=x+y:=zB4 (by omega) (by omega);simp (disch:=omega) only [SS,show (k:Int)<(N:Int) by omega,hkN,g7,g5,zZ (show k<1000000000000 by omega),zg hx,zg hy,hwx,seval];refine ⟨⟨by omega,?_⟩,fun h=>absurd trivial h⟩;refine ⟨N-(k+1),by omega,k+1,S.set (k+1) (x+y),rfl,by omega,rfl,?_,hnew _ _ _,by rw [List.length_set]; exact hSl,fun j z hz=>?_,fun c h3=>by rw [hold h3]; exact hf3 c h3,rfl⟩
   ·rw [hold (by omega)]; exact g7
   ·rw [List.getElem?_set] at hz
    split at hz
    ·rename_i hj
     subst hj
     split at hz
     ·cases hz; omega
     ·cases hz
    ·have:=hSb j z hz; omega
  ·have:k=N:=by omega
   subst this;have gp:=(hf3 nx (by omega)).trans ((hf nx (by omega) (by omega) (by omega)).trans g0);simp (disch:=omega) only [SS,g7,gp,seval];refine ⟨fun h=>absurd h (by omega),fun _=>⟨⟨_,_,_,_,_,S,_,_,rfl,⟨_,_,by rw [hSl],fun _=>⟨nx+1+1,none,false,by omega,by omega,rfl,?_⟩⟩,T1.keep ?_ (by omega) (Nat.le_refl _),T2.keep ?_ (by omega) (Nat.le_refl _),by omega,by rw [List.length_map]; exact hl,by rw [List.length_map]; exact hl⟩,fun c hc=>?_,by omega⟩⟩
   ·rw [hold (by omega),zT]; exact g5
   ·intro c h4 h5;rw [hold (by omega),hf3 c (by omega)]
   ·intro c h4 h5;rw [hold (by omega),hf3 c (by omega)]
   ·rw [hold (by omega),hf3 c (by omega),hf c (by omega) (by omega) (by omega),hk1 c (by omega),hold (by omega)]
def frG0 (g:GE):Edg3:=((g.f:Int),(g.t:Int),g.w)
theorem zKD:∀ l:List GE,flat encG l=flat enc3 (l.map frG0)
 | []=>rfl
 | x::l=>by show encG x++flat encG l=enc3 (frG0 x)++flat enc3 (l.map frG0); rw [zKD l]; rfl
theorem zMp {h:Hp} {nx:Nat} {v:Value} {gs:List GE} (hv:SlPx h nx v encG gs):SlPx h nx v enc3 (gs.map frG0):=by
 obtain ⟨a,cap,rfl,hc⟩:=hv;refine ⟨a,cap,by rw [List.length_map],fun hl=>?_⟩;obtain ⟨b,sp,ro,cs,h1,h2,h3⟩:=hc (fun e=>hl (by rw [e]; rfl));exact ⟨b,sp,ro,cs,h1,h2,by rw [← zKD]; exact h3⟩
theorem zI0 {s:Bool} {gs:List GE} {N:Nat} {h:Hp} {nx:Nat} {v:Value} (hv:SlPx h nx v encG gs) (hN:N≤4096) (hok:∀ g∈gs,GOk N g) (hl:gs.length≤120):Cv Q O s 107 [.agg ⟨[.int .i64 (N:Int),v]⟩] h nx (EqK (.int .i64 0) nx h):=by
 have hV:RightV (N:Int) (gs.map frG0):=by
  refine ⟨by omega,by omega,by rw [List.length_map]; omega,fun e he hb=>?_,fun e he hb=>?_⟩
  ·obtain ⟨g,hg,rfl⟩:=List.mem_map.1 he;obtain ⟨h1,h2,_⟩:=hok g hg;have hb:(g.f:Int)<0∨(N:Int)≤g.f∨(g.t:Int)<0∨(N:Int)≤g.t:=hb;omega
  ·obtain ⟨g,hg,rfl⟩:=List.mem_map.1 he;obtain ⟨_,_,h1,h2⟩:=hok g hg;have hb:g.w<0∨2147483647<g.w:=hb;omega
 have:=zQE (s:=s) (n:=(N:Int)) (zMp hv);rw [rightE_V.2 hV] at this;exact this
theorem rd_e0 {i:Nat} {cs:List GE} {e:GE} (he:cs[i]? = some e):zA2 (some 3) (i*3) (flat encG cs) = .ok (.agg ⟨[.int .i64 (e.f:Int),.int .i64 (e.t:Int),.int .i64 e.w]⟩):=rdF (enc:=encG) (k:=3) (fun _=>rfl) he
def CgJ (p1 p4 N:Nat) (ve vg:Value) (ts:List GE) (lo:Nat) (h:Hp) (m:Nat) (vs:List Value) (h':Hp) (nx':Nat):Prop :=
 ∃ (i:Nat) (o:Value),m=ts.length-i∧i≤ts.length∧vs=[.pointer (some ⟨p1,0,none⟩),.pointer (some ⟨p4,0,none⟩),o,ve,.int .i64 (ts.length:Int),.int .i64 (i:Int)]∧SlAt h' o encG 3 (ts.take i) lo nx'∧Keep lo h h'∧lo≤nx'
def MatK (e:Int) (nx:Nat) (h:Hp):KC':=fun r h' nx'=>∃ m,r = .tuple ⟨[m,.int .i64 e]⟩∧RowsR h' nx nx' m∧Keep nx h h'∧nx≤nx'
theorem csrg_c {s:Bool} {gs:List GE} {N:Nat} {h:Hp} {nx:Nat} {v:Value} (hv:SlPx h nx v encG gs) (hN:N≤4096) (hok:∀ g∈gs,GOk N g) (hl:gs.length≤120):Cv Q O s 132 [.agg ⟨[.int .i64 (N:Int),v]⟩] h nx (MatK 0 nx h):=by
 refine csrgv ?_;obtain ⟨a,cap,rfl,hc⟩:=id hv;unfold csrg aF bF cF iV lA lF nC nF nS pC;simp (disch:=omega) only [SS,seval];have K0:∀ {o o'},Keep nx h (hset (hset h nx o) (nx+1) o'):=((Keep.refl _ _).set (Nat.le_refl _)).set (Nat.le_succ _);refine (zI0 (hv.keep K0 (by omega)) hN hok hl).mono ?_;rintro r h1 nx1 ⟨rfl,hk1,hle1⟩;have g0:=hk1 nx (by omega);rw [hold (by omega),hnew] at g0;have g4:=hk1 (nx+1) (by omega);rw [hnew] at g4;have K1:Keep nx h h1:=K0.trans hk1 (by omega);simp (disch:=omega) only [SS,g0,seval];refine (turn_c (hv.keep K1 (by omega)) (by omega) hl hok).mono ?_;rintro r h2 nx2 ⟨v2,ts,rfl,hts,htc,htok,htl,hk2,hle2⟩;have htl2:ts.length≤gs.length:=Nat.le_trans htl (zBc gs);obtain ⟨a3,c3,rfl,hc3⟩:=id hts.nw;simp (disch:=omega) only [SS,seval];refine Lp.mk (CgJ nx (nx+1) N (.slice a3 ts.length c3) .nilFunc ts nx2 h2) ts.length ⟨0,_,rfl,by omega,rfl,.inl ⟨rfl,rfl⟩,Keep.refl _ _,Nat.le_refl _⟩ ?_;rintro m _ h3 nx3 ⟨i,o,rfl,hi,rfl,S,hk3,hle3⟩;rw [csrgb0];unfold csrgl0 aF bF iV lA lF nC xF;simp (disch:=omega) only [SS,seval];refine ⟨fun hlt=>?_,fun hge=>?_⟩
 ·obtain ⟨e,he⟩:=zj hlt;obtain ⟨b,sp,ro,hb1,hb2,rfl,hb⟩:=hc3 (fun e0=>by rw [e0] at hlt; exact absurd hlt (Nat.not_lt_zero _));have hb3:=(hk3 b hb2).trans hb;simp (disch:=omega) only [SS,hb3,rd_e0 he,seval];refine zHW (enc:=encG) (k:=3) (lo:=nx2) (fun _=>rfl) (fun _=>rfl) (by omega) (S.keep (fun c h1 h2=>by rw [hold (by omega),hold (by omega),hold (by omega)]) (by omega)) (by omega) e (hnew _ _ _) rfl (by rw [List.length_take]; omega) fun v5 h5 hs5 hk5=>?_;have htk:ts.take (i+1)=ts.take i++[e]:=by rw [List.take_add_one,he]; rfl
  exact ⟨ts.length-(i+1),by omega,i+1,v5,rfl,by omega,by rw [zZ (by omega)],by rw [htk]; exact hs5,fun c hc=>by rw [hk5 c hc,hold (by omega),hold (by omega),hold (by omega)]; exact hk3 c hc,by omega⟩
 ·have hie:i=ts.length:=by omega
  subst hie;rw [List.take_length] at S;have g03:=(hk3 nx (by omega)).trans ((hk2 nx (by omega)).trans g0);have g43:=(hk3 (nx+1) (by omega)).trans ((hk2 (nx+1) (by omega)).trans g4);have K3:Keep nx h h3:=(K1.trans hk2 (by omega)).trans hk3 (by omega);simp (disch:=omega) only [SS,g03,seval];refine (built_c (SlPx.of S.rd) hN (by omega) htok).mono ?_;rintro r h6 nx6 ⟨hR,hk6,hle6⟩;obtain ⟨x,y,b1,b2,b3,n1,n2,n3,c1,c2,c4,rfl⟩:=hR.form;have g46:=(hk6 (nx+1) (by omega)).trans g43;unfold zMJ;simp (disch:=omega) only [SS,g46,seval];exact ⟨_,rfl,hR.keep (fun c h1 h2=>hold (by omega)) (by omega) (Nat.le_refl _),fun c hc=>by rw [hold (by omega),hk6 c (by omega)]; exact K3 c hc,by omega⟩
structure Sg (N q nx:Nat) (h h':Hp) (nx':Nat) (gs:List GE) (v:Value):Prop where
 g:hget h' q=some (.cells [.int .i64 (N:Int),v] false)
 m:hget h' (q+1)=some (.cells [.int .i64 0,.int .i64 0,.slice none 0 0,.slice none 0 0,.slice none 0 0] false)
 p:SlPx h' nx' v encG gs
 ok:∀ g∈gs,GOk N g
 k:Keep nx h h'
 lt:q+1<nx'
theorem Sg.put {N q nx:Nat} {h h' h2:Hp} {nx' nx2:Nat} {gs ms:List GE} {v r:Value} (S:Sg N q nx h h' nx' gs v) (hq:nx≤q) (hr:CanK N ms nx' h' r h2 nx2):∃ (cs:List GE) (a:Option Addr) (n c:Nat),r = .agg ⟨[.int .i64 (N:Int),.slice a n c]⟩∧cs.length≤ms.length∧hget h2 q=some (.cells [.int .i64 (N:Int),v] false)∧nx'≤nx2∧Sg N q nx h (hset h2 q (.cells [.int .i64 (N:Int),.slice a n c] false)) nx2 cs (.slice a n c):=by
 obtain ⟨v2,cs,rfl,hcs,hcan,hcok,hcl,hk2,hle2⟩:=hr;have hlt:=S.lt;obtain ⟨a,n,c,rfl⟩:=hcs.form;refine ⟨cs,a,n,c,rfl,hcl,(hk2 q (by omega)).trans S.g,hle2,hnew _ _ _,?_,?_,hcok,?_,by omega⟩
 ·rw [hold (by omega),hk2 _ hlt]; exact S.m
 ·refine SlPx.of ?_;have:SlAt (hset h2 q (.cells [.int .i64 (N:Int),.slice a n c] false)) (.slice a n c) encG 3 cs nx' nx2:=by
   rcases hcs with hcs | ⟨b,h1,h2,e,hb⟩
   ·exact .inl hcs
   ·exact .inr ⟨b,h1,h2,e,by rw [hold (by omega)]; exact hb⟩
  exact this.rd
 ·intro b hb;rw [hold (by omega),hk2 b (by omega)]; exact S.k b hb
def matE (k n src len:Int) (ds:List Int) (gn:Int) (es:List Edg3):Int:=if zAS k n src len ds≠0 then zAS k n src len ds else if gn≠n then 4 else zAR gn es
theorem matrix_c {s:Bool} {k n src len gn:Int} {ds:List Int} {es:List Edg3} {vd ve:Value} {h:Hp} {nx:Nat} (hd:SlRd h nx vd encI ds) (he:SlPx h nx ve enc3 es) (hel:es.length≤60) :
  Cv Q O s 49 [.agg ⟨[.int .i64 k,.int .i64 n,.int .i64 src,.int .i64 len,vd]⟩,.agg ⟨[.int .i64 gn,ve]⟩] h nx (MatK (matE k n src len ds gn es) nx h):=by
 refine matrixv ?_;obtain ⟨a,cap,rfl,hc⟩:=id hd;obtain ⟨a2,cap2,rfl,hc2⟩:=id he;unfold matrix aF bF cF iV lA lF nC nS pC;simp (disch:=omega) only [SS,seval];have K0:∀ {o o' o''},Keep nx h (hset (hset (hset h nx o) (nx+1) o') (nx+1+1) o''):=(((Keep.refl _ _).set (Nat.le_refl _)).set (Nat.le_succ _)).set (by omega);refine (zJ3 (hd.keep K0 (by omega))).mono ?_;rintro r h1 nx1 ⟨rfl,hk1,hle1⟩;have gp:=hk1 nx (by omega);rw [hold (by omega),hold (by omega),hnew] at gp;have gg:=hk1 (nx+1) (by omega);rw [hold (by omega),hnew] at gg;have gm:=hk1 (nx+1+1) (by omega);rw [hnew] at gm;have K1:Keep nx h h1:=K0.trans hk1 (by omega);have zero:∀ {h':Hp} {nx':Nat} {o:AObj} {e:Int},matE k n src len ds gn es=e→Keep nx h h'→nx≤nx'→MatK (matE k n src len ds gn es) nx h (.tuple ⟨[.agg ⟨[.int .i64 0,.int .i64 0,.slice none 0 0,.slice none 0 0,.slice none 0 0]⟩,.int .i64 e]⟩) (hset h' (nx+1+1) o) nx':=fun {h' nx' o e} he hk hle=>by
  rw [he];exact ⟨_,rfl,RowsR.zero,hk.set (by omega),hle⟩
 generalize hpe:zAS k n src len ds=pe at *
 by_cases hp0:pe=0
 case neg =>
  have hb:(pe == 0)=false:=beq_eq_false_iff_ne.2 hp0;simp (disch:=omega) only [SS,hb,gm,seval];exact zero (by unfold matE; rw [hpe,if_pos hp0]) K1 (by omega)
 subst hp0;simp (disch:=omega) only [SS,gg,gp,seval];refine ⟨fun hne=>?_,fun heq=>?_⟩
 ·simp (disch:=omega) only [SS,gm,seval];have hne:gn≠n:=by simpa using hne
  exact zero (by unfold matE; rw [hpe,if_neg (by simp),if_pos hne]) K1 (by omega)
 have heq:gn=n:=by simpa using heq
 have hmE:matE k n src len ds gn es=zAR gn es:=by unfold matE; rw [hpe,if_neg (by simp),if_neg (by simp [heq])]
 refine (zQE (he.keep K1 (by omega))).mono ?_;rintro r h2 nx2 ⟨rfl,hk2,hle2⟩;have K2:=K1.trans hk2 (by omega);have gp2:=(hk2 nx (by omega)).trans gp;have gg2:=(hk2 (nx+1) (by omega)).trans gg;have gm2:=(hk2 (nx+1+1) (by omega)).trans gm
 by_cases hr0:zAR gn es=0
 case neg =>
  have hb:(zAR gn es == 0)=false:=beq_eq_false_iff_ne.2 hr0;simp (disch:=omega) only [SS,hb,gm2,seval];exact zero hmE K2 (by omega)
 rw [hr0] at hmE ⊢;obtain ⟨N,rfl,hN,hfl,hG⟩:=(rightE_V.1 hr0).ges;have hpx:=((he.keep K1 (by omega)).keep hk2 hle2).map hfl;rw [← List.length_map (f:=toG)] at hel;generalize hgs:es.map toG=gs at hel hG hpx;have hcl:es.length=gs.length:=by rw [← hgs,List.length_map]
 rw [hcl] at gg2 hpx;have S0:Sg N (nx+1) nx h h2 nx2 gs (.slice a2 gs.length cap2):=⟨gg2,gm2,hpx,hG,K2,by omega⟩
 rw [hmE];have tail:∀ {h':Hp} {nx':Nat} {gs:List GE} {a:Option Addr} {n c:Nat},Sg N (nx+1) nx h h' nx' gs (.slice a n c)→nx≤nx'→gs.length≤120→zCP s (MatK 0 nx h) (.pointer (some ⟨nx+1,0,none⟩)) (.pointer (some ⟨nx+1+1,0,none⟩)) h' nx':=fun {h' nx' gs a n c} S hx hl=>by
  have hlt:=S.lt;unfold zCP cF lA;simp (disch:=omega) only [SS,S.g,seval];refine (csrg_c S.p hN S.ok hl).mono ?_;rintro r h6 nx6 ⟨m,rfl,hR,hk6,hle6⟩;obtain ⟨x,y,b1,b2,b3,n1,n2,n3,c1,c2,c4,rfl⟩:=hR.form;have g6:=(hk6 _ S.lt).trans S.m;unfold zMJ;simp (disch:=omega) only [SS,g6,seval];exact ⟨_,rfl,hR.keep (fun c h1 h2=>hold (by omega)) (by omega) (Nat.le_refl _),fun b hb=>by rw [hold (by omega),hk6 b (by omega)]; exact S.k b hb,by omega⟩
 have plain:∀ {h':Hp} {nx':Nat} {gs:List GE} {a:Option Addr} {n c:Nat},Sg N (nx+1) nx h h' nx' gs (.slice a n c)→nx≤nx'→gs.length≤120→Cv Q O s 131 [.agg ⟨[.int .i64 (N:Int),.slice a n c]⟩] h' nx' fun x65 h66 n67=>(zI x65).length=2∧RK (wrO (hget h66 (nx+1)) h66 (nx+1) 0 (zI x65)) fun h68=>zCP s (MatK 0 nx h) (.pointer (some ⟨nx+1,0,none⟩)) (.pointer (some ⟨nx+1+1,0,none⟩)) h68 n67:=fun {h' nx' gs a n c} S hx hl=>by
  refine (plain_c S.p (by omega) hl S.ok).mono ?_;intro r h6 nx6 hr;obtain ⟨cs,a6,n6,c6,rfl,hcl,hq,hle,S6⟩:=S.put (by omega) hr;simp (disch:=omega) only [SS,hq,seval];exact tail S6 (by omega) (by have:=zBc (p:=fun _=>true) (m:=oneG) gs; unfold zJ5 at hcl; omega)
 have both:∀ {h':Hp} {nx':Nat} {gs:List GE} {a:Option Addr} {n c:Nat},Sg N (nx+1) nx h h' nx' gs (.slice a n c)→nx≤nx'→gs.length≤60→Cv Q O s 130 [.agg ⟨[.int .i64 (N:Int),.slice a n c]⟩] h' nx' fun x45 h46 n47=>(zI x45).length=2∧RK (wrO (hget h46 (nx+1)) h46 (nx+1) 0 (zI x45)) fun h48=>RK (zIA (hget h48 (nx+1)) fun cs x=>zA2 (some 2) 0 cs) fun x64=>Cv Q O s 131 [x64] h48 n47 fun x65 h66 n67=>(zI x65).length=2∧RK (wrO (hget h66 (nx+1)) h66 (nx+1) 0 (zI x65)) fun h68=>zCP s (MatK 0 nx h) (.pointer (some ⟨nx+1,0,none⟩)) (.pointer (some ⟨nx+1+1,0,none⟩)) h68 n67:=fun {h' nx' gs a n c} S hx hl=>by
  refine (both_c S.p (by omega) hl S.ok).mono ?_;rintro r h6 nx6 ⟨ts,_,htl,_,hr⟩;obtain ⟨cs,a6,n6,c6,rfl,hcl,hq,hle,S6⟩:=S.put (by omega) hr;rw [List.length_append] at hcl;simp (disch:=omega) only [SS,hq,seval];exact plain S6 (by omega) (by omega)
 simp (disch:=omega) only [SS,gg2,gp2,seval];refine ⟨fun _=>?_,fun _=>⟨fun _=>both S0 (by omega) hel,fun _=>⟨fun _=>plain S0 (by omega) (by omega),fun _=>tail S0 (by omega) (by omega)⟩⟩⟩;refine (zM2 S0.p (by omega) (by omega) hG).mono ?_;intro r h6 nx6 hr;obtain ⟨cs,a6,n6,c6,rfl,hcl,hq,hle,S6⟩:=S0.put (by omega) hr;have hml:=zBc (p:=zCN) (m:=id) gs;unfold zCp at hcl;simp (disch:=omega) only [SS,hq,seval];exact both S6 (by omega) (by omega)
def sd (n m:Int):Bool:=decide (1≤n∧n≤m)
structure Stp where
 k:Int
 n:Int
 src:Int
 len:Int
 ds:List Int
 gn:Int
 es:List Edg3
 R:Int
 C:Int
 M:Int
 lim:Int
 nch:Nat
theorem any_no {p:Edg3→Bool} {q:Edg3→Prop} (hpq:∀ e,p e=true↔q e) {l:List Edg3} (h:∀ x∈l,¬ q x):¬ l.any p=true:=fun e=>by
 obtain ⟨x,hx,hb⟩:=List.any_eq_true.1 e;exact h x hx ((hpq x).1 hb)
theorem zM8 {s:Bool} {n:Int} {v:Value} {es:List Edg3} {h:Hp} {nx:Nat} (hv:SlPx h nx v enc3 es) :
  Cv Q O s 114 [.agg ⟨[.int .i64 n,v]⟩] h nx (EqK (.int .i64 (zAR n es)) nx h):=by
 refine rrightv ?_;obtain ⟨a,cap,rfl,hc⟩:=id hv;have K1:∀ {o},Keep nx h (hset h nx o):=(Keep.refl _ _).set (Nat.le_refl _);have no:∀ {e:Int},zAR n es=e→∀ {h' nx'},Keep nx h h'→nx≤nx'→EqK (.int .i64 (zAR n es)) nx h (.int .i64 e) h' nx':=fun he _ _ hk hle=>⟨by rw [he],hk,hle⟩
 unfold rright zIX aF bF iV lF nF pC;simp (disch:=omega) only [SS,seval];refine ⟨fun h1=>no (by unfold zAR; rw [if_pos h1]) K1 (by omega),fun h1=>⟨fun h2=>no (by unfold zAR; rw [if_neg h1,if_pos (.inl h2)]) K1 (by omega),fun h2=>⟨fun h3=>no (by unfold zAR; rw [if_neg h1,if_pos (.inr (by omega))]) K1 (by omega),fun h3=>?_⟩⟩⟩;have h23:¬ (4096<n∨65536<es.length):=by omega
 have eE:zAR n es=if es.any (badE n)=true then 3 else if es.any badW=true then 7 else 0:=by unfold zAR; rw [if_neg h1,if_neg h23]
 refine Lp.mk (RriJ (BadE n) n es (.slice a es.length cap) (.int .i64 0) nx h) es.length ⟨0,by omega,by omega,rfl,hnew _ _ _,K1,Nat.le_refl _,by simp⟩ ?_;rintro _ _ h' nx' ⟨i,rfl,hi,rfl,hg,hk,hle,hno⟩;rw [rrightb0];unfold zM7 aF bF iV lA lF nC nF xF;simp (disch:=omega) only [SS,hg,seval];refine ⟨fun hlt=>?_,fun hge=>?_⟩
 ·obtain ⟨x,hx⟩:=zj hlt;obtain ⟨_,b,sp,ro,c1,cs,hb,e1,hgb⟩:=hv.at hx;cases e1;have hxm:=List.mem_of_getElem? hx;have kk:∀ {o o'},Keep nx h (hset (hset h' nx' o) nx' o'):=(hk.set (by omega)).set (by omega);have bad:BadE n x→∀ {o o'},EqK (.int .i64 (zAR n es)) nx h (.int .i64 3) (hset (hset h' nx' o) nx' o') (nx'+1):=fun hb _ _=>no (by rw [eE,if_pos (List.any_eq_true.2 ⟨x,hxm,badE_iff.2 hb⟩)]) kk (by omega);simp (disch:=omega) only [SS,(hk b hb).trans hgb,rdP (enc:=enc3) (k:=3) (fun _=>rfl) hx,enc3,hg,zZ (show i<1000000000000 by omega),seval];refine ⟨fun h1=>bad (by unfold BadE; omega),fun h1=>⟨fun h2=>bad (by unfold BadE; omega),fun h2=>⟨fun h3=>bad (by unfold BadE; omega),fun h3=>⟨fun h4=>bad (by unfold BadE; omega),fun h4=>?_⟩⟩⟩⟩;exact ⟨_,by omega,i+1,rfl,hlt,rfl,by rw [hold (by omega),hold (by omega)]; exact hg,kk,by omega,zP7 hx hno (by unfold BadE; omega)⟩
 ·have:i=es.length:=by omega
  subst this;rw [List.take_length] at hno;rw [if_neg (any_no (fun _=>badE_iff) hno)] at eE;refine Lp.mk (RriJ BadW n es (.slice a es.length cap) (.int .i64 0) nx h) es.length ⟨0,by omega,by omega,rfl,hg,hk,hle,by simp⟩ ?_;rintro _ _ h' nx' ⟨i,rfl,hi,rfl,hg,hk,hle,hno2⟩;rw [rrightb1];unfold zM6 aF bF iV lF nF xF;simp (disch:=omega) only [SS,hg,seval];refine ⟨fun hlt=>?_,fun hge=>?_⟩
  ·obtain ⟨x,hx⟩:=zj hlt;obtain ⟨_,b,sp,ro,c1,cs,hb,e1,hgb⟩:=hv.at hx;cases e1;have hxm:=List.mem_of_getElem? hx;have bad:BadW x→EqK (.int .i64 (zAR n es)) nx h (.int .i64 7) h' nx':=fun hb=>no (by rw [eE,if_pos (List.any_eq_true.2 ⟨x,hxm,badW_iff.2 hb⟩)]) hk (by omega);have hw:=zJA (enc:=enc3) (k:=3) (fun _=>rfl) hx (j:=2) (by omega) (cs:=cs);rw [show (enc3 x)[2]? = some (.int .i64 x.2.2) from rfl] at hw;simp (disch:=omega) only [SS,(hk b hb).trans hgb,hw,hg,zZ (show i<1000000000000 by omega),seval];refine ⟨fun h1=>bad (by unfold BadW; omega),fun h1=>⟨fun h2=>bad (by unfold BadW; omega),fun h2=>?_⟩⟩;exact ⟨_,by omega,i+1,rfl,hlt,rfl,hg,hk,by omega,zP7 hx hno2 (by unfold BadW; omega)⟩
  ·have:i=es.length:=by omega
   subst this;rw [List.take_length] at hno2;exact no (by rw [eE,if_neg (any_no (fun _=>badW_iff) hno2)]) hk (by omega)
theorem rfrom_c {s:Bool} {k:Int} {h:Hp} {nx:Nat}:Cv Q O s 156 [.int .i64 k] h nx (fun r h' nx'=>r = .bool (decide (k=4∨k=1∨k=2))∧h'=h∧nx'=nx):=by
 refine rfromv ?_;unfold rfrom bF iV;simp (disch:=omega) only [SS,seval];refine ⟨fun h1=>?_,fun h1=>⟨fun h2=>?_,fun h2=>?_⟩⟩
 ·have h1:k=1:=by simpa using h1
  rw [decide_eq_true (by omega)]
 ·have h2:k=2:=by simpa using h2
  rw [decide_eq_true (by omega)]
 have h1:k≠1:=by simpa using h1
 have h2:k≠2:=by simpa using h2
 by_cases h4:k=4
 ·rw [decide_eq_true (Or.inl h4),h4]; rfl
 ·rw [decide_eq_false (by omega),beq_eq_false_iff_ne.2 h4]
def RpJ (p1:Nat) (k n src len:Int) (ds:List Int) (v:Value) (nx:Nat) (h:Hp) (m:Nat) (vs:List Value) (h':Hp) (nx':Nat):Prop :=
 ∃ i:Nat,m=ds.length-i∧i≤ds.length∧vs=[.pointer (some ⟨p1,0,none⟩),.int .i64 0,.int .i64 (i:Int)]∧hget h' p1=some (.cells [.int .i64 k,.int .i64 n,.int .i64 src,.int .i64 len,v] false)∧Keep nx h h'∧nx+1≤nx'∧∀ x∈ds.take i,badD x=false
theorem zHf {s:Bool} {k n src len:Int} {ds:List Int} {v:Value} {h:Hp} {nx:Nat} (hv:SlRd h nx v encI ds):Cv Q O s 146 [.agg ⟨[.int .i64 k,.int .i64 n,.int .i64 src,.int .i64 len,v]⟩] h nx (EqK (.int .i64 (zAS k n src len ds)) nx h):=by
 refine zPv ?_;obtain ⟨a,cap,rfl,hc⟩:=id hv;unfold zM9 aF bF iV lF pC;have K1:∀ {o},Keep nx h (hset h nx o):=(Keep.refl _ _).set (Nat.le_refl _);have no:∀ {e:Int},zAS k n src len ds=e→∀ {h' nx'},Keep nx h h'→nx≤nx'→EqK (.int .i64 (zAS k n src len ds)) nx h (.int .i64 e) h' nx':=fun he _ _ hk hle=>⟨by rw [he],hk,hle⟩
 have r0:(zAS k n src len ds=3)→zw s (EqK (.int .i64 (zAS k n src len ds)) nx h) (.pointer (some ⟨nx,0,none⟩)) (.bool true) (hset h nx (.cells [.int .i64 k,.int .i64 n,.int .i64 src,.int .i64 len,.slice a ds.length cap] false)) (nx+1):=fun e=>by
  unfold zw aF bF iV lF nF;simp (disch:=omega) only [SS,seval];exact no e K1 (by omega)
 have r1:(zAS k n src len ds=if 65536<ds.length then 5 else if ds.any badD=true then 7 else 0)→zw s (EqK (.int .i64 (zAS k n src len ds)) nx h) (.pointer (some ⟨nx,0,none⟩)) (.bool false) (hset h nx (.cells [.int .i64 k,.int .i64 n,.int .i64 src,.int .i64 len,.slice a ds.length cap] false)) (nx+1):=fun e=>by
  unfold zw aF bF iV lF nF;simp (disch:=omega) only [SS,seval];refine ⟨fun h5=>no (by rw [e,if_pos (by omega)]) K1 (by omega),fun h5=>?_⟩;rw [if_neg (show ¬ 65536<ds.length by omega)] at e;refine Lp.mk (RpJ nx k n src len ds (.slice a ds.length cap) nx h) ds.length ⟨0,by omega,by omega,rfl,hnew _ _ _,K1,Nat.le_refl _,by simp⟩ ?_;rintro _ _ h' nx' ⟨i,rfl,hi,rfl,hg,hk,hle,hno⟩;rw [zOC];unfold zHe aF bF iV lF nF xF;simp (disch:=omega) only [SS,hg,seval];refine ⟨fun hlt=>?_,fun hge=>?_⟩
  ·obtain ⟨x,hx⟩:=zj hlt;obtain ⟨_,b,sp,ro,c1,hb,e1,hgb⟩:=hv.at hx;cases e1;rw [zT] at hgb;have hxm:=List.mem_of_getElem? hx;have bad:badD x=true→EqK (.int .i64 (zAS k n src len ds)) nx h (.int .i64 7) h' nx':=fun hb=>no (by rw [e,if_pos (List.any_eq_true.2 ⟨x,hxm,hb⟩)]) hk (by omega);simp (disch:=omega) only [SS,(hk b hb).trans hgb,zg hx,hg,zZ (show i<1000000000000 by omega),seval];refine ⟨fun h1=>bad (by unfold badD; simp [h1]),fun h1=>⟨fun h2=>bad (by unfold badD; simp [h2]),fun h2=>?_⟩⟩;exact ⟨_,by omega,i+1,rfl,hlt,rfl,hg,hk,by omega,zP6 hx hno (by unfold badD; exact decide_eq_false (by omega))⟩
  ·have:i=ds.length:=by omega
   subst this;rw [List.take_length] at hno;exact no (by rw [e,any_f hno,if_neg (by simp)]) hk (by omega)
 have k1:(k≤0∨5<k)→zCb s (EqK (.int .i64 (zAS k n src len ds)) nx h) (.pointer (some ⟨nx,0,none⟩)) (.bool true) (hset h nx (.cells [.int .i64 k,.int .i64 n,.int .i64 src,.int .i64 len,.slice a ds.length cap] false)) (nx+1):=fun hk=>by
  unfold zCb aF bF cF iV lF;simp (disch:=omega) only [SS,seval];exact no (by unfold zAS; rw [if_pos hk]) K1 (by omega)
 simp (disch:=omega) only [SS,seval];refine ⟨fun h0=>k1 (.inl (by omega)),fun h0=>?_⟩
 by_cases h5:5<k
 ·rw [decide_eq_true h5]; exact k1 (.inr h5)
 rw [decide_eq_false h5];have hk:¬ (k≤0∨5<k):=by omega
 have e0:zAS k n src len ds=if ¬ (0≤n∧n≤4096) then 3 else if k=4∧¬ (0≤len∧len≤8192) then 3 else if (k=4∨k=1∨k=2)∧¬ (0≤src∧src≤n-1) then 3 else if 65536<ds.length then 5 else if ds.any badD=true then 7 else 0:=by unfold zAS; rw [if_neg hk]
 unfold zCb aF bF cF iV lF;simp (disch:=omega) only [SS,seval];refine ⟨fun h1=>r0 (by rw [e0,if_pos (by omega)]),fun h1=>⟨fun h2=>r0 (by rw [e0,if_pos (by omega)]),fun h2=>?_⟩⟩;have hn:¬ ¬ (0≤n∧n≤4096):=by omega
 rw [if_neg hn] at e0;refine rfrom_c.mono ?_;rintro r h3 n3 ⟨rfl,e1,e2⟩;rw [e1,e2];have len4:k=4→(0≤src∧src≤n-1)→Bool→True:=fun _ _ _=>trivial;have walks:(((k=4∨k=1∨k=2)∧¬ (0≤src∧src≤n-1))→False)→IF (.bool (k == 4)) (IF (.bool (decide (len<0))) (zw s (EqK (.int .i64 (zAS k n src len ds)) nx h) (.pointer (some ⟨nx,0,none⟩)) (.bool true) (hset h nx (.cells [.int .i64 k,.int .i64 n,.int .i64 src,.int .i64 len,.slice a ds.length cap] false)) (nx+1)) (zw s (EqK (.int .i64 (zAS k n src len ds)) nx h) (.pointer (some ⟨nx,0,none⟩)) (.bool (decide (8192<len))) (hset h nx (.cells [.int .i64 k,.int .i64 n,.int .i64 src,.int .i64 len,.slice a ds.length cap] false)) (nx+1))) (zw s (EqK (.int .i64 (zAS k n src len ds)) nx h) (.pointer (some ⟨nx,0,none⟩)) (.bool false) (hset h nx (.cells [.int .i64 k,.int .i64 n,.int .i64 src,.int .i64 len,.slice a ds.length cap] false)) (nx+1)):=fun hs=>by
  rw [IF_b];refine ⟨fun h4=>?_,fun h4=>?_⟩
  ·have h4:k=4:=by simpa using h4
   rw [IF_b];refine ⟨fun h6=>r0 (by rw [e0,if_pos ⟨h4,by simp at h6; omega⟩]),fun h6=>?_⟩;have h6:¬ len<0:=by simpa using h6
   by_cases h7:8192<len
   ·rw [decide_eq_true h7]; exact r0 (by rw [e0,if_pos ⟨h4,by omega⟩])
   ·rw [decide_eq_false h7]; exact r1 (by rw [e0,if_neg (by omega),if_neg hs])
  ·have h4:k≠4:=by simpa using h4
   exact r1 (by rw [e0,if_neg (fun h=>h4 h.1),if_neg hs])
 by_cases hf:k=4∨k=1∨k=2
 ·rw [decide_eq_true hf];have bad:¬ (0≤src∧src≤n-1)→zAS k n src len ds=3:=fun hs=>by
   rw [e0]
   split
   ·rfl
   ·rw [if_pos ⟨hf,hs⟩]
  simp (disch:=omega) only [SS,seval];refine ⟨fun h6=>r0 (bad (by omega)),fun h6=>⟨fun h7=>r0 (bad (by omega)),fun h7=>?_⟩⟩;have:=walks (fun h=>h.2 (by omega));rw [IF_b,IF_b] at this;simpa using this
 ·rw [decide_eq_false hf];simp (disch:=omega) only [SS,seval];have:=walks (fun h=>hf h.1);rw [IF_b,IF_b] at this;simpa using this
theorem EK_appY {h:Hp} {nx lo hi:Nat} {v v2:Value} {l y:List GE} (hv:SlAt h v encG 3 l lo hi) (hlo:lo≤hi) (hhi:hi≤nx) (hy:SlPx h nx v2 encG y) (hsz:(l.length+y.length)*3≤1000000) {K:Value→Hp→Nat→Prop}
  (hK:∀ v' h' nx',(∀ h2,(∀ b,(lo≤b∧b<hi∨nx≤b∧b<nx')→hget h2 b=hget h' b)→SlAt h2 v' encG 3 (l++y) lo nx')→(∀ b,(b<lo∨hi≤b∧b<nx)→hget h' b=hget h b)→nx≤nx'→K v' h' nx'):EK (orR (zS 3 h nx v v2)) K:=by
 obtain ⟨a2,c2,rfl,hc⟩:=hy
 by_cases h0:y=[]
 ·subst h0;have hr:∀ (K:List Value→R OR),zDm h a2 (Nat.mul 0 3) K=K []:=fun K=>by
   cases a2 <;> rfl
  have key:zS 3 h nx v (.slice a2 ([]:List GE).length c2) = .ok (.val v h nx):=by
   rcases hv with ⟨rfl,rfl⟩ | ⟨b,h1,h2,rfl,hb⟩
   ·show zDm h a2 (Nat.mul 0 3) (fun new=>zBL 3 h nx none 0 0 0 new)=_;rw [hr]; rfl
   ·show zDm h a2 (Nat.mul 0 3) (fun new=>zBL 3 h nx (some ⟨b,0,some 3⟩) l.length l.length 0 new)=_;rw [hr];unfold zBL;rw [show Nat.ble (Nat.add l.length 0) l.length=true from Nat.ble_eq_true_of_le (Nat.le_refl _)];rfl
  rw [key];exact hK v h nx (fun h2 k=>by rw [List.append_nil]; exact hv.keep (fun b h1 h2=>k b (by omega)) hhi) (fun _ _=>rfl) (Nat.le_refl _)
 ·obtain ⟨b2,sp,ro,cs2,hb2,rfl,hg⟩:=hc h0;have hyl:0<y.length:=List.length_pos_iff.2 h0;have hfl:=zAF (enc:=encG) (k:=3) (fun _=>rfl) (l:=y);have hfa:=zAF (enc:=encG) (k:=3) (fun _=>rfl) (l:=l);have hread:∀ (K:List Value→R OR),zDm h (some ⟨b2,0,sp⟩) (Nat.mul y.length 3) K=K (flat encG y):=fun K=>by
   rw [show Nat.mul y.length 3=y.length*3 from rfl,zCL hg (by omega) (by rw [List.length_append,hfl]; omega),List.drop_zero,← hfl,List.take_left]
  have e2:(Nat.ble (Nat.mul (Nat.add l.length y.length) 3) 1000000&&Nat.ble (Nat.add l.length y.length) 1000000)=true:=by
   simp only [Bool.and_eq_true,Nat.ble_eq];exact ⟨hsz,by show l.length+y.length≤1000000; omega⟩
  have e1:Nat.ble (Nat.add l.length y.length) l.length=false:=by
   cases hb:Nat.ble (Nat.add l.length y.length) l.length with
   | false=>rfl
   | true=>have:=Nat.le_of_ble_eq_true hb; have:l.length+y.length≤l.length:=this; omega
  rcases hv with ⟨rfl,rfl⟩ | ⟨b,h1,h2,rfl,hb⟩
  ·have key:zS 3 h nx (.slice none 0 0) (.slice (some ⟨b2,0,sp⟩) y.length c2) = .ok (.val (.slice (some ⟨nx,0,some 3⟩) y.length y.length) (hset h nx (.cells (flat encG y) false)) (nx+1)):=by
    show zDm h (some ⟨b2,0,sp⟩) (Nat.mul y.length 3) (fun new=>zBL 3 h nx none 0 0 y.length new)=_;rw [hread];unfold zBL;rw [show Nat.ble (Nat.add 0 y.length) 0=false from e1,show (Nat.ble (Nat.mul (Nat.add 0 y.length) 3) 1000000&&Nat.ble (Nat.add 0 y.length) 1000000)=true from e2];show zFL h nx 3 (flat encG y) (Nat.add 0 y.length)=_;rw [show Nat.add 0 y.length=y.length from Nat.zero_add _];exact zBf (s:=3) (by omega)
   rw [key];exact hK _ _ _ (fun h2 k=>.inr ⟨nx,by omega,Nat.lt_succ_self _,rfl,by rw [k nx (by omega)]; exact hnew _ _ _⟩) (fun c hc=>hold (by omega)) (Nat.le_succ _)
  ·have key:zS 3 h nx (.slice (some ⟨b,0,some 3⟩) l.length l.length) (.slice (some ⟨b2,0,sp⟩) y.length c2) = .ok (.val (.slice (some ⟨nx,0,some 3⟩) (l.length+y.length) (l.length+y.length)) (hset (hdel h b) nx (.cells (flat encG (l++y)) false)) (nx+1)):=by
    show zDm h (some ⟨b2,0,sp⟩) (Nat.mul y.length 3) (fun new=>zBL 3 h nx (some ⟨b,0,some 3⟩) l.length l.length y.length new)=_;rw [hread];unfold zBL;rw [e1,e2];show zF1 h nx 3 (some ⟨b,0,some 3⟩) l.length l.length (l.length+y.length) (flat encG y)=_;unfold zF1;simp only [zA hb];have hcut:lcut (Nat.mul l.length 3) (zC3 (flat encG l) 0)=some (flat encG l):=by
     rw [zAe,List.drop_zero,zAz,if_pos (by rw [hfa]; exact Nat.le_refl _)];rw [List.take_of_length_le (by rw [hfa]; exact Nat.le_refl _)]
    rw [hcut];have e3:(!false&&Nat.beq 0 0&&Nat.beq (llen (flat encG l)) (Nat.mul l.length 3)&&Nat.beq 3 3&&Nat.beq l.length l.length&&zf (flat encG y))=true:=by
     rw [zz,hfa,zFW];simp
    show (bif _ then _ else _)=_;rw [e3,zAB,zIk];exact zBf (s:=3) (by omega)
   rw [key];exact hK _ _ _ (fun h2 k=>.inr ⟨nx,by omega,Nat.lt_succ_self _,by rw [List.length_append],by rw [k nx (by omega)]; exact hnew _ _ _⟩) (fun c hc=>by rw [hold (by omega),hgd,if_neg (by omega)]) (Nat.le_succ _)
def MkJ (p:GE→Bool) (m:GE→GE) (gs:List GE) (N:Nat) (v:Value) (nx:Nat) (h:Hp) (q:Nat) (vs:List Value) (h':Hp) (nx':Nat):Prop :=
 ∃ (i:Nat) (o:Value),q=gs.length-i∧i≤gs.length∧vs=[.pointer (some ⟨nx,0,none⟩),.pointer (some ⟨nx+1,0,none⟩),.pointer (some ⟨nx+1+1,0,none⟩),.int .i64 (i:Int)]∧hget h' nx=some (.cells [.int .i64 (N:Int),v] false)∧hget h' (nx+1)=some (.cells [.int .i64 0,.slice none 0 0] false) ∧
  hget h' (nx+1+1)=some (.cells [.int .i64 (N:Int),o] false)∧SlAt h' o encG 3 (((gs.take i).filter p).map m) (nx+1+1+1) nx'∧Keep nx h h'∧nx+1+1+1≤nx'
theorem MkJ.tk {p:GE→Bool} {m:GE→GE} {gs:List GE} {i:Nat} {e:GE} (he:gs[i]? = some e):((gs.take (i+1)).filter p).map m=((gs.take i).filter p).map m++(if p e then [m e] else []):=by
 rw [List.take_add_one,he,List.filter_append,List.map_append];cases hp:p e <;> simp [hp]
theorem MkJ.ln {p:GE→Bool} {m:GE→GE} {gs:List GE} {i:Nat} (hl:gs.length≤120):((((gs.take i).filter p).map m).length+1)*3≤1000000:=by
 have h1:=List.length_filter_le p (gs.take i);have h2:(gs.take i).length≤gs.length:=by rw [List.length_take]; omega
 rw [List.length_map];omega
theorem MkJ.put {p:GE→Bool} {m:GE→GE} {gs:List GE} {N:Nat} {v:Value} {nx:Nat} {h h1:Hp} {i:Nat} {e:GE} {o:Value} {nx1:Nat} {K:Value→Hp→Nat→Prop} (he:gs[i]? = some e) (hp:p e=true) (hl:gs.length≤120)
  (g0:hget h1 nx=some (.cells [.int .i64 (N:Int),v] false)) (g1:hget h1 (nx+1)=some (.cells [.int .i64 0,.slice none 0 0] false)) (g2:hget h1 (nx+1+1)=some (.cells [.int .i64 (N:Int),o] false)) (S:SlAt h1 o encG 3 (((gs.take i).filter p).map m) (nx+1+1+1) nx1) (hk:Keep nx h h1) (hle:nx+1+1+1≤nx1)
  {b2:Nat} (h2:Hp) (hb2:hget h2 b2=some (.cells (encG (m e)) false)) (hkk:∀ b,b<nx1→hget h2 b=hget h1 b) {nx2:Nat} (hle2:nx1≤nx2)
  (hK:∀ v5 h5,(∀ b,b<nx+1+1+1→hget h5 b=hget h1 b)→(∀ h6,h6=hset h5 (nx+1+1) (.cells [.int .i64 (N:Int),v5] false)→MkJ p m gs N v nx h (gs.length-(i+1)) [.pointer (some ⟨nx,0,none⟩),.pointer (some ⟨nx+1,0,none⟩),.pointer (some ⟨nx+1+1,0,none⟩),.int .i64 ((i+1:Nat):Int)] h6 (nx2+1))→(∃ a n c,v5 = .slice a n c)→K v5 h5 (nx2+1)) :
  EK (orR (zS 3 h2 nx2 o (.slice (some ⟨b2,0,some 3⟩) 1 1))) K:=by
 have hlt:=(List.getElem?_eq_some_iff.1 he).1;refine zHW (enc:=encG) (k:=3) (lo:=nx+1+1+1) (fun _=>rfl) (fun _=>rfl) (by omega) (S.keep (fun c h1 h2=>hkk c h2) hle2) (by omega) (m e) hb2 rfl (MkJ.ln hl) fun v5 h5 hs5 hk5=>?_;refine hK v5 h5 (fun b hb=>by rw [hk5 b hb,hkk b (by omega)]) (fun h6 e6=>?_) hs5.form;subst e6;refine ⟨i+1,v5,rfl,hlt,rfl,?_,?_,hnew _ _ _,?_,fun c hc=>?_,by omega⟩
 ·rw [hold (by omega),hk5 _ (by omega),hkk _ (by omega)]; exact g0
 ·rw [hold (by omega),hk5 _ (by omega),hkk _ (by omega)]; exact g1
 ·rw [MkJ.tk he,hp];exact hs5.keep (fun c h1 h2=>hold (by omega)) (Nat.le_refl _)
 ·rw [hold (by omega),hk5 _ (by omega),hkk _ (by omega)]; exact hk c hc
theorem MkJ.fin {s:Bool} {p:GE→Bool} {m:GE→GE} {gs:List GE} {N:Nat} {nx:Nat} {h h1:Hp} {o:Value} {nx1:Nat} (hN:N≤4096) (hl:gs.length≤120) (hok:∀ g∈(gs.filter p).map m,GOk N g)
  (g1:hget h1 (nx+1)=some (.cells [.int .i64 0,.slice none 0 0] false)) (S:SlAt h1 o encG 3 ((gs.filter p).map m) (nx+1+1+1) nx1) (hk:Keep nx h h1) (hle:nx+1+1+1≤nx1) :
  Cv Q O s 243 [.agg ⟨[.int .i64 (N:Int),o]⟩] h1 nx1 fun x48 h49 n50=>(zI x48).length=2∧RK (wrO (hget h49 (nx+1)) h49 (nx+1) 0 (zI x48)) fun h51=>RK (zIA (hget h51 (nx+1)) fun cs x=>zA2 (some 2) 0 cs) fun x52=>CanK N ((gs.filter p).map m) nx h x52 h51 n50:=by
 have hml:((gs.filter p).map m).length≤gs.length:=by rw [List.length_map]; exact List.length_filter_le _ _
 refine (zMl (SlPx.of S.rd) hN hok (by omega)).mono ?_;rintro r h2 nx2 ⟨v2,cs,rfl,hcs,hcan,hcok,hcl,hk2,hle2⟩;obtain ⟨a3,n3,c3,rfl⟩:=hcs.form;have g4':=(hk2 (nx+1) (by omega)).trans g1;simp (disch:=omega) only [SS,g4',seval];refine ⟨_,cs,rfl,?_,hcan,hcok,hcl,fun c hc=>by rw [hold (by omega),hk2 c (by omega)]; exact hk c hc,by omega⟩;rcases hcs with hcs | ⟨b,h1,h2,e,hb⟩
 ·exact .inl hcs
 ·exact .inr ⟨b,by omega,h2,e,by rw [hold (by omega)]; exact hb⟩
theorem rd_f {i:Nat} {gs:List GE} {e:GE} {cs:List Value} (he:gs[i]? = some e):(flat encG gs++cs)[i*3]? = some (.int .i64 (e.f:Int))∧(flat encG gs++cs)[i*3+1]? = some (.int .i64 (e.t:Int))∧(flat encG gs++cs)[i*3+2]? = some (.int .i64 e.w) :=
 ⟨zJA (enc:=encG) (k:=3) (fun _=>rfl) he (j:=0) (by omega),zJA (enc:=encG) (k:=3) (fun _=>rfl) he (j:=1) (by omega),zJA (enc:=encG) (k:=3) (fun _=>rfl) he (j:=2) (by omega)⟩
theorem zPq {s:Bool} {N:Nat} {gs:List GE} {v:Value} {h:Hp} {nx:Nat} (hv:SlPx h nx v encG gs) (hN:N≤4096) (hl:gs.length≤120) (hok:∀ g∈gs,GOk N g) :
  Cv Q O s 244 [.agg ⟨[.int .i64 (N:Int),v]⟩] h nx (CanK N (zJS gs) nx h):=by
 refine rturnv ?_;obtain ⟨a,cap,rfl,hc⟩:=id hv;unfold rturn aF cF iV lA lF nC nS pC;have K0:∀ {o o' o''},Keep nx h (hset (hset (hset h nx o) (nx+1) o') (nx+1+1) o''):=(((Keep.refl _ _).set (Nat.le_refl _)).set (Nat.le_succ _)).set (by omega);simp (disch:=omega) only [SS,seval];refine Lp.mk (MkJ (fun _=>true) zP2 gs N (.slice a gs.length cap) nx h) gs.length ⟨0,_,rfl,by omega,rfl,by rw [hold (by omega),hold (by omega),hold (by omega),hnew],by rw [hold (by omega),hold (by omega),hnew],by rw [hnew],.inl ⟨rfl,rfl⟩,fun c hc=>by rw [hold (by omega),hold (by omega),hold (by omega),hold (by omega)],Nat.le_refl _⟩ ?_;rintro q _ h1 nx1 ⟨i,o,rfl,hi,rfl,g0,g1,g2,S,hk,hle⟩;obtain ⟨a5,n5,c5,rfl⟩:=S.form;rw [rturnb0];unfold zPp aF bF iV lA lF nC nF xF;simp (disch:=omega) only [SS,g0,seval];refine ⟨fun hlt=>?_,fun hge=>?_⟩
 ·obtain ⟨e,he⟩:=zj hlt;obtain ⟨_,b,sp,ro,c1,cs,hb,e1,hg⟩:=hv.at he;cases e1;have hrd:zA2 (some 3) (i*3) (flat encG gs++cs) = .ok (.agg ⟨[.int .i64 (e.f:Int),.int .i64 (e.t:Int),.int .i64 e.w]⟩):=rdP (enc:=encG) (k:=3) (fun _=>rfl) he (cs:=cs);simp (disch:=omega) only [SS,(hk b hb).trans hg,hrd,g2,seval];refine MkJ.put he rfl hl g0 g1 g2 S hk hle _ (hnew _ _ _) (fun b hb=>by rw [hold (by omega),hold (by omega),hold (by omega)]) (by omega) fun v5 h5 hk5 hJ hf=>?_;obtain ⟨a6,n6,c6,rfl⟩:=hf;have g25:=(hk5 (nx+1+1) (by omega)).trans g2;simp (disch:=omega) only [SS,g25,zZ (show i<1000000000000 by omega),seval];exact ⟨_,by omega,hJ _ rfl⟩
 ·have hie:i=gs.length:=by omega
  subst hie;rw [List.take_length] at S;simp (disch:=omega) only [SS,g2,seval];exact MkJ.fin hN hl (zMW hok) g1 S hk hle
theorem zPt {s:Bool} {N:Nat} {gs:List GE} {v:Value} {h:Hp} {nx:Nat} (hv:SlPx h nx v encG gs) (hN:N≤4096) (hl:gs.length≤120) (hok:∀ g∈gs,GOk N g) :
  Cv Q O s 149 [.agg ⟨[.int .i64 (N:Int),v]⟩] h nx (CanK N (zCp gs) nx h):=by
 refine rsimplev ?_;obtain ⟨a,cap,rfl,hc⟩:=id hv;unfold zPu aF cF iV lA lF nC nS pC;simp (disch:=omega) only [SS,seval];refine Lp.mk (MkJ zCN id gs N (.slice a gs.length cap) nx h) gs.length ⟨0,_,rfl,by omega,rfl,by rw [hold (by omega),hold (by omega),hold (by omega),hnew],by rw [hold (by omega),hold (by omega),hnew],by rw [hnew],.inl ⟨rfl,rfl⟩,fun c hc=>by rw [hold (by omega),hold (by omega),hold (by omega),hold (by omega)],Nat.le_refl _⟩ ?_;rintro q _ h1 nx1 ⟨i,o,rfl,hi,rfl,g0,g1,g2,S,hk,hle⟩;obtain ⟨a5,n5,c5,rfl⟩:=S.form;rw [zPs];unfold zJW aF bF iV lA lF nF xF;simp (disch:=omega) only [SS,g0,seval];refine ⟨fun hlt=>?_,fun hge=>?_⟩
 ·obtain ⟨e,he⟩:=zj hlt;obtain ⟨_,b,sp,ro,c1,cs,hb,e1,hg⟩:=hv.at he;cases e1;have hrd:zA2 (some 3) (i*3) (flat encG gs++cs) = .ok (.agg ⟨[.int .i64 (e.f:Int),.int .i64 (e.t:Int),.int .i64 e.w]⟩):=rdP (enc:=encG) (k:=3) (fun _=>rfl) he (cs:=cs);obtain ⟨r0,r1,r2⟩:=rd_f (cs:=cs) he;simp (disch:=omega) only [SS,(hk b hb).trans hg,hrd,r0,r1,g2,seval];refine ⟨fun hne=>?_,fun heq=>?_⟩
  ·have hne:¬ (e.f:Int)=e.t:=by simpa using hne
   have hp:zCN e=true:=by unfold zCN; exact decide_eq_true (by omega)
   refine MkJ.put he hp hl g0 g1 g2 S hk hle _ (hnew _ _ _) (fun b hb=>by rw [hold (by omega)]) (by omega) fun v5 h5 hk5 hJ hf=>?_;obtain ⟨a6,n6,c6,rfl⟩:=hf;have g25:=(hk5 (nx+1+1) (by omega)).trans g2;simp (disch:=omega) only [SS,g25,zZ (show i<1000000000000 by omega),seval];exact ⟨by omega,_,by omega,hJ _ rfl⟩
  ·have heq:(e.f:Int)=e.t:=by simpa using heq
   have hp:zCN e=false:=by unfold zCN; exact decide_eq_false (by omega)
   refine ⟨gs.length-(i+1),by omega,i+1,_,rfl,by omega,by rw [zZ (by omega)],g0,g1,g2,?_,hk,hle⟩;rw [MkJ.tk he,hp];simp only [Bool.false_eq_true,if_false,List.append_nil];exact S
 ·have hie:i=gs.length:=by omega
  subst hie;rw [List.take_length] at S;simp (disch:=omega) only [SS,g2,seval];exact MkJ.fin hN hl (zHc hok) g1 S hk hle
theorem rplain_c {s:Bool} {N:Nat} {gs:List GE} {v:Value} {h:Hp} {nx:Nat} (hv:SlPx h nx v encG gs) (hN:N≤4096) (hl:gs.length≤120) (hok:∀ g∈gs,GOk N g) :
  Cv Q O s 147 [.agg ⟨[.int .i64 (N:Int),v]⟩] h nx (CanK N (zJ5 gs) nx h):=by
 refine rplainv ?_;obtain ⟨a,cap,rfl,hc⟩:=id hv;unfold rplain aF cF iV lA lF nC nS pC;simp (disch:=omega) only [SS,seval];refine Lp.mk (MkJ (fun _=>true) oneG gs N (.slice a gs.length cap) nx h) gs.length ⟨0,_,rfl,by omega,rfl,by rw [hold (by omega),hold (by omega),hold (by omega),hnew],by rw [hold (by omega),hold (by omega),hnew],by rw [hnew],.inl ⟨rfl,rfl⟩,fun c hc=>by rw [hold (by omega),hold (by omega),hold (by omega),hold (by omega)],Nat.le_refl _⟩ ?_;rintro q _ h1 nx1 ⟨i,o,rfl,hi,rfl,g0,g1,g2,S,hk,hle⟩;obtain ⟨a5,n5,c5,rfl⟩:=S.form;rw [rplainb0];unfold zMa aF bF iV lF nF xF;simp (disch:=omega) only [SS,g0,seval];refine ⟨fun hlt=>?_,fun hge=>?_⟩
 ·obtain ⟨e,he⟩:=zj hlt;obtain ⟨_,b,sp,ro,c1,cs,hb,e1,hg⟩:=hv.at he;cases e1;obtain ⟨r0,r1,r2⟩:=rd_f (cs:=cs) he;simp (disch:=omega) only [SS,(hk b hb).trans hg,r0,r1,g2,seval];refine MkJ.put he rfl hl g0 g1 g2 S hk hle _ (hnew _ _ _) (fun b hb=>by rw [hold (by omega)]) (by omega) fun v5 h5 hk5 hJ hf=>?_;obtain ⟨a6,n6,c6,rfl⟩:=hf;have g25:=(hk5 (nx+1+1) (by omega)).trans g2;simp (disch:=omega) only [SS,g25,zZ (show i<1000000000000 by omega),seval];exact ⟨by omega,_,by omega,hJ _ rfl⟩
 ·have hie:i=gs.length:=by omega
  subst hie;rw [List.take_length] at S;simp (disch:=omega) only [SS,g2,seval];exact MkJ.fin hN hl (zJ4 hok) g1 S hk hle
theorem rboth_c {s:Bool} {N:Nat} {gs:List GE} {v:Value} {h:Hp} {nx:Nat} (hv:SlPx h nx v encG gs) (hN:N≤4096) (hl:gs.length≤60) (hok:∀ g∈gs,GOk N g) :
  Cv Q O s 148 [.agg ⟨[.int .i64 (N:Int),v]⟩] h nx (fun r h' nx'=>∃ ts,IsCan ((zJS gs).map gE) (ts.map gE)∧ts.length≤gs.length∧(∀ g∈ts,GOk N g)∧CanK N (ts++gs) nx h r h' nx'):=by
 refine rbothv ?_;obtain ⟨a,cap,rfl,hc⟩:=id hv;unfold rboth aF cF iV lA lF nC nS pC;have K0:∀ {o o'},Keep nx h (hset (hset h nx o) (nx+1) o'):=((Keep.refl _ _).set (Nat.le_refl _)).set (Nat.le_succ _);simp (disch:=omega) only [SS,seval];refine (zPq (hv.keep K0 (by omega)) hN (by omega) hok).mono ?_;rintro r h1 nx1 ⟨v1,ts,rfl,hts,htc,htok,htl,hk1,hle1⟩;have htl2:ts.length≤gs.length:=Nat.le_trans htl (zBc gs);have g0:=hk1 nx (by omega);rw [hold (by omega),hnew] at g0;have g4:=hk1 (nx+1) (by omega);rw [hnew] at g4;obtain ⟨a3,n3,c3,rfl⟩:=hts.form;have K1:Keep nx h h1:=K0.trans hk1 (by omega);have hok2:∀ g∈ts++gs,GOk N g:=fun g hg=>by
  rcases List.mem_append.1 hg with hg | hg
  ·exact htok g hg
  ·exact hok g hg
 simp (disch:=omega) only [SS,g0,seval];have k3:∀ {o o'},Keep nx1 h1 (hset (hset h1 nx1 o) nx1 o'):=((Keep.refl _ _).set (Nat.le_refl _)).set (Nat.le_refl _);refine EK_appY (lo:=nx+1+1) (hts.keep (fun c h1 h2=>k3 c h2) (Nat.le_refl _)) (by omega) (Nat.le_succ _) ((hv.keep K1 (by omega)).keep k3 (Nat.le_succ _)) (by omega) fun v5 h5 nx5 S5 hk5 hle5=>?_;obtain ⟨a5,n5,c5,rfl⟩:=(S5 h5 (fun _ _=>rfl)).form;have g6:=hk5 nx1 (by omega);rw [hnew] at g6;have g45:=hk5 (nx+1) (by omega);rw [hold (by omega),hold (by omega),g4] at g45;simp (disch:=omega) only [SS,g6,seval];refine (zMl (SlPx.of (S5 _ fun b hb=>hold (by omega)).rd) hN hok2 (by rw [List.length_append]; omega)).mono ?_;rintro r h6 nx6 ⟨v6,cs,rfl,hcs,hcan,hcok,hcl,hk6,hle6⟩;obtain ⟨a7,n7,c7,rfl⟩:=hcs.form;have g47:=hk6 (nx+1) (by omega);rw [hold (by omega),g45] at g47;simp (disch:=omega) only [SS,g47,seval];refine ⟨ts,htc,htl2,htok,_,cs,rfl,?_,hcan,hcok,hcl,fun c hc=>by rw [hold (by omega),hk6 c (by omega),hold (by omega),hk5 c (by omega),hold (by omega),hold (by omega)]; exact K1 c hc,by omega⟩;rcases hcs with hcs | ⟨b,h1,h2,e,hb⟩
 ·exact .inl hcs
 ·exact .inr ⟨b,by omega,h2,e,by rw [hold (by omega)]; exact hb⟩
theorem rempty_c {s:Bool} {N:Nat} {h:Hp} {nx:Nat} (hN:N≤4096):Cv Q O s 153 [.int .i64 (N:Int),.int .i64 (N:Int)] h nx (fun r h' nx'=>r = .agg ⟨[.int .i64 (N:Int),.int .i64 (N:Int),.slice (some ⟨nx+1,0,none⟩) (N+1) (N+1),.slice none 0 0,.slice none 0 0]⟩∧hget h' (nx+1)=some (.cells (ints (List.replicate (N+1) 0)) false)∧Keep nx h h'∧nx'=nx+1+1):=by
 refine remptyv ?_;unfold rempty bF iV lA nC nS;have r0:List.replicate (N+1) (Value.int .i64 0)=ints (List.replicate (N+1) 0):=by simp [ints]
 simp (disch:=omega) only [SS,zZ (show N<1000000000000 by omega),r0,seval];exact ((Keep.refl _ _).set (Nat.le_refl _)).set (Nat.le_succ _) |>.set (Nat.le_refl _)
def RbJ0 (N p1 p7 p5 lo:Nat) (vt:Value) (ts:List GE) (h0:Hp) (m:Nat) (vs:List Value) (h':Hp) (nx':Nat):Prop :=
 ∃ (i:Nat) (S:List Int) (vc vv:Value),m=ts.length-i∧i≤ts.length∧vs=[.int .i64 (N:Int),vt,.pointer (some ⟨p1,0,none⟩),.pointer (some ⟨p7,0,none⟩),.int .i64 (i:Int)] ∧
  hget h' p7=some (.cells [.int .i64 (N:Int),.int .i64 (N:Int),.slice (some ⟨p5,0,none⟩) (N+1) (N+1),vc,vv] false)∧hget h' p5=some (.cells (ints S) false)∧S.length=N+1∧(∀ x∈S,0≤x∧x≤(i:Int)) ∧
  TwoI h' vc vv ((ts.take i).map fun e=>(e.t:Int)) ((ts.take i).map GE.w) lo nx'∧(∀ c,c<lo→c≠p7→c≠p5→hget h' c=hget h0 c)∧lo≤nx'
def RbJ1 (N p1 p7 p5 i f:Nat) (vt:Value) (h0:Hp) (nx:Nat) (m:Nat) (vs:List Value) (h':Hp) (nx':Nat):Prop :=
 ∃ (k:Nat) (S:List Int),m=N+1-k∧f+1≤k∧k≤N+1∧vs=[.int .i64 (N:Int),vt,.pointer (some ⟨p1,0,none⟩),.pointer (some ⟨p7,0,none⟩),.int .i64 (i:Int),.int .i64 (k:Int)] ∧
  hget h' p5=some (.cells (ints S) false)∧S.length=N+1∧(∀ (j:Nat) (x:Int),S[j]? = some x→0≤x∧(x≤(i:Int)∨j<k∧x≤(i:Int)+1))∧(∀ c,c≠p5→hget h' c=hget h0 c)∧nx'=nx
theorem rbuilt_c {s:Bool} {N:Nat} {ts:List GE} {v:Value} {h:Hp} {nx:Nat} (hv:SlPx h nx v encG ts) (hN:N≤4096) (hl:ts.length≤120) (hok:∀ g∈ts,GOk N g) :
  Cv Q O s 245 [.int .i64 (N:Int),.int .i64 (N:Int),v] h nx (BuiltK nx h):=by
 refine rbuiltv ?_;obtain ⟨a,cap,rfl,hc⟩:=id hv;unfold rbuilt cF iV lA nC nS;simp (disch:=omega) only [SS,seval];refine (rempty_c hN).mono ?_;rintro r h1 _ ⟨rfl,hb1,hk1,rfl⟩;have g0:=hk1 nx (by omega);rw [hnew] at g0;simp (disch:=omega) only [SS,seval];refine Lp.mk (RbJ0 N nx (nx+1+1+1) (nx+1+1) (nx+1+1+1+1) (.slice a ts.length cap) ts h1) ts.length ⟨0,List.replicate (N+1) 0,_,_,rfl,by omega,rfl,hnew _ _ _,by rw [hold (by omega),hold (by omega)]; exact hb1,by simp,fun x hx=>by rw [List.eq_of_mem_replicate hx]; omega,.inl ⟨rfl,rfl,rfl,rfl⟩,fun c h1 h2 h3=>by rw [hold h2,hold h2],Nat.le_refl _⟩ ?_;rintro m _ h2 nx2 ⟨i,S,vc,vv,rfl,hi,rfl,g7,g5,hSl,hSb,T,hf,hle⟩;obtain ⟨o1,o2,G1,G2,B1,B2⟩:=T.gr;obtain ⟨a1,n1,c1,a2,n2,c2,rfl,rfl⟩:=T.form;rw [rbuiltb0];unfold zMn aF bF iV lF nF xF;simp (disch:=omega) only [SS,seval];refine ⟨fun hlt=>?_,fun hge=>?_⟩
 ·obtain ⟨e,he⟩:=zj hlt;have hem:=hok e (List.mem_of_getElem? he);have hef:e.f<N:=hem.1;obtain ⟨_,b,sp,ro,cx,cs,hb,e1,hg⟩:=hv.at he;cases e1;have hg2:=(hf b (by omega) (by omega) (by omega)).trans ((hk1 b (by omega)).trans ((hold (by omega)).trans hg));obtain ⟨r0,r1,r2⟩:=rd_f (cs:=cs) he;have hcl:((ts.take i).map fun e=>(e.t:Int)).length=i:=by rw [List.length_map,List.length_take]; omega
  have hvl:((ts.take i).map GE.w).length=i:=by rw [List.length_map,List.length_take]; omega
  simp (disch:=omega) only [SS,hg2,r1,g7,seval];refine zB2 (G1.keep fun c hc=>by have:=B1 c hc; rw [hold (by omega)]) (hnew _ _ _) (by omega) fun h3 hn3 hf3=>?_;have g73:hget h3 (nx+1+1+1)=some (.cells [.int .i64 (N:Int),.int .i64 (N:Int),.slice (some ⟨nx+1+1,0,none⟩) (N+1) (N+1),.slice a1 n1 c1,.slice a2 n2 c2] false):=by
   rw [hf3 _ (by omega) (fun e=>by have:=B1 _ e; omega),hold (by omega)]; exact g7
  have ge3:hget h3 b=some (.cells (flat encG ts++cs) ro):=by
   rw [hf3 _ (by omega) (fun e=>by have:=B1 _ e; omega),hold (by omega)]; exact hg2
  refine ⟨by omega,?_⟩;simp (disch:=omega) only [SS,g73,ge3,r2,seval];refine zB2 (G2.keep fun c hc=>?_) (hnew _ _ _) (by omega) fun h4 hn4 hf4=>?_
  ·have:=B2 c hc;rw [hold (by omega),hold (by omega),hf3 c (by omega) (fun e=>(B1 c e).2.2 hc),hold (by omega)]
  have g74:hget h4 (nx+1+1+1)=some (.cells [.int .i64 (N:Int),.int .i64 (N:Int),.slice (some ⟨nx+1+1,0,none⟩) (N+1) (N+1),.slice (some ⟨nx2+1,0,some 1⟩) (((ts.take i).map fun e=>(e.t:Int)).length+1) (((ts.take i).map fun e=>(e.t:Int)).length+1),.slice a2 n2 c2] false):=by
   rw [hf4 _ (by omega) (fun e=>by have:=B2 _ e; omega),hold (by omega),hnew]
  have ge4:hget h4 b=some (.cells (flat encG ts++cs) ro):=by
   rw [hf4 _ (by omega) (fun e=>by have:=B2 _ e; omega),hold (by omega),hold (by omega)]; exact ge3
  refine ⟨by omega,?_⟩;simp (disch:=omega) only [SS,g74,ge4,r0,seval];have htk:ts.take (i+1)=ts.take i++[e]:=by rw [List.take_add_one,he]; rfl
  have hfr:∀ c,c<nx+1+1+1+1→c≠nx+1+1+1→hget h4 c=hget h2 c:=fun c h1 h2=>by
   rw [hf4 c (by omega) (fun e=>by have:=B2 _ e; omega),hold (by omega),hold (by omega),hf3 c (by omega) (fun e=>by have:=B1 _ e; omega),hold (by omega)]
  have hw1:IntKind.wrap .i64 ((e.f:Int)+1)=((e.f+1:Nat):Int):=zZ (by omega);rw [hw1];generalize hH:hset h4 (nx+1+1+1) _=H;have H7:hget H (nx+1+1+1)=some (.cells [.int .i64 (N:Int),.int .i64 (N:Int),.slice (some ⟨nx+1+1,0,none⟩) (N+1) (N+1),.slice (some ⟨nx2+1,0,some 1⟩) (((ts.take i).map fun e=>(e.t:Int)).length+1) (((ts.take i).map fun e=>(e.t:Int)).length+1),.slice (some ⟨nx2+1+1+1,0,some 1⟩) (((ts.take i).map GE.w).length+1) (((ts.take i).map GE.w).length+1)] false):=by rw [← hH]; exact hnew _ _ _
  have Hf:∀ c,c≠nx+1+1+1→hget H c=hget h4 c:=fun c hc=>by rw [← hH]; exact hold hc
  refine Lp.mk (RbJ1 N nx (nx+1+1+1) (nx+1+1) i e.f (.slice (some ⟨b,0,sp⟩) ts.length cap) H (nx2+1+1+1+1)) (N+1-(e.f+1)) ⟨e.f+1,S,rfl,by omega,by omega,rfl,by rw [Hf _ (by omega),hfr _ (by omega) (by omega)]; exact g5,hSl,fun j x hx=>by have:=hSb x (List.mem_of_getElem? hx); omega,fun _ _=>rfl,rfl⟩ ?_;rintro m _ h5 _ ⟨k,S2,rfl,hk1',hk2,rfl,g55,hSl2,hSb2,hf5,rfl⟩;rw [rbuiltb1];unfold zMm aF bF iV lF xF;have g75:=(hf5 (nx+1+1+1) (by omega)).trans H7
  by_cases hkN:k≤N
  ·obtain ⟨x,hx⟩:=zj (l:=S2) (i:=k) (by omega);have hxb:=hSb2 _ x hx;have hwx:IntKind.wrap .i64 (x+1)=x+1:=zB4 (by omega) (by omega);simp (disch:=omega) only [SS,show (k:Int)≤(N:Int) by omega,hkN,g75,g55,zZ (show k<1000000000000 by omega),zg hx,hwx,seval];refine ⟨fun _=>⟨by omega,?_⟩,fun h=>absurd h (by omega)⟩;refine ⟨N+1-(k+1),by omega,k+1,S2.set k (x+1),rfl,by omega,by omega,rfl,hnew _ _ _,by rw [List.length_set]; exact hSl2,fun j z hz=>?_,fun c h3=>by rw [hold h3]; exact hf5 c h3,rfl⟩;rw [List.getElem?_set] at hz
   split at hz
   ·rename_i hj
    subst hj
    split at hz
    ·cases hz; omega
    ·cases hz
   ·have:=hSb2 j z hz; omega
  ·have hkk:k=N+1:=by omega
   subst hkk;simp (disch:=omega) only [SS,show ¬ ((N+1:Nat):Int)≤(N:Int) by omega,hkN,seval];refine ⟨fun h=>absurd h (by omega),fun _=>?_⟩;refine ⟨ts.length-(i+1),by omega,i+1,S2,_,_,rfl,by omega,by rw [zZ (by omega)],g75,g55,hSl2,fun z hz=>?_,.inr ⟨nx2+1,nx2+1+1+1,by omega,by omega,by omega,by omega,by omega,?_,?_,?_,?_⟩,fun c h1 h2 h3=>?_,by omega⟩
   ·obtain ⟨j,hj⟩:=List.getElem?_of_mem hz;have:=hSb2 j z hj;omega
   ·rw [htk,List.map_append,List.length_append]; rfl
   ·rw [htk,List.map_append,List.length_append]; rfl
   ·rw [hf5 _ (by omega),Hf _ (by omega),hf4 _ (by omega) (fun e=>by have:=B2 _ e; omega),hold (by omega),hold (by omega),hn3,htk,List.map_append]; rfl
   ·rw [hf5 _ (by omega),Hf _ (by omega),hn4,htk,List.map_append]; rfl
   ·rw [hf5 c h3,Hf c h2,hfr c h1 h2]; exact hf c h1 h2 h3
 ·obtain ⟨T1,T2⟩:=T.nw;have hie:i=ts.length:=by omega
  subst hie;rw [List.take_length] at T1 T2;have gp:=(hf nx (by omega) (by omega) (by omega)).trans g0;simp (disch:=omega) only [SS,g7,gp,seval];refine ⟨⟨_,_,_,_,_,S,_,_,rfl,⟨_,_,by rw [hSl],fun _=>⟨nx+1+1,none,false,by omega,by omega,rfl,?_⟩⟩,T1.keep ?_ (by omega) (Nat.le_refl _),T2.keep ?_ (by omega) (Nat.le_refl _),by omega,by rw [List.length_map]; exact hl,by rw [List.length_map]; exact hl⟩,fun c hc=>?_,by omega⟩
  ·rw [hold (by omega),zT]; exact g5
  ·intro c h4 h5;rw [hold (by omega)]
  ·intro c h4 h5;rw [hold (by omega)]
  ·rw [hold (by omega),hf c (by omega) (by omega) (by omega),hk1 c (by omega),hold (by omega)]
def RgJ (p1 p4 p19 N:Nat) (ts:List GE) (lo:Nat) (h:Hp) (m:Nat) (vs:List Value) (h':Hp) (nx':Nat):Prop :=
 ∃ (i:Nat) (o:Value),m=ts.length-i∧i≤ts.length∧vs=[.pointer (some ⟨p1,0,none⟩),.pointer (some ⟨p4,0,none⟩),.pointer (some ⟨p19,0,none⟩),o,.int .i64 (i:Int)]∧SlAt h' o encG 3 (ts.take i) lo nx'∧Keep lo h h'∧lo≤nx'
theorem zGV {s:Bool} {gs:List GE} {N:Nat} {h:Hp} {nx:Nat} {v:Value} (hv:SlPx h nx v encG gs) (hN:N≤4096) (hok:∀ g∈gs,GOk N g) (hl:gs.length≤120):Cv Q O s 114 [.agg ⟨[.int .i64 (N:Int),v]⟩] h nx (EqK (.int .i64 0) nx h):=by
 have hV:RightV (N:Int) (gs.map frG0):=by
  refine ⟨by omega,by omega,by rw [List.length_map]; omega,fun e he hb=>?_,fun e he hb=>?_⟩
  ·obtain ⟨g,hg,rfl⟩:=List.mem_map.1 he;obtain ⟨h1,h2,_⟩:=hok g hg;have hb:(g.f:Int)<0∨(N:Int)≤g.f∨(g.t:Int)<0∨(N:Int)≤g.t:=hb;omega
  ·obtain ⟨g,hg,rfl⟩:=List.mem_map.1 he;obtain ⟨_,_,h1,h2⟩:=hok g hg;have hb:g.w<0∨2147483647<g.w:=hb;omega
 have:=zM8 (s:=s) (n:=(N:Int)) (zMp hv);rw [rightE_V.2 hV] at this;exact this
theorem rgraph_c {s:Bool} {gs:List GE} {N:Nat} {h:Hp} {nx:Nat} {v:Value} (hv:SlPx h nx v encG gs) (hN:N≤4096) (hok:∀ g∈gs,GOk N g) (hl:gs.length≤120):Cv Q O s 150 [.agg ⟨[.int .i64 (N:Int),v]⟩] h nx (MatK 0 nx h):=by
 refine rgraphv ?_;obtain ⟨a,cap,rfl,hc⟩:=id hv;unfold rgraph aF bF cF iV lA lF nC nS pC;simp (disch:=omega) only [SS,seval];have K0:∀ {o o'},Keep nx h (hset (hset h nx o) (nx+1) o'):=((Keep.refl _ _).set (Nat.le_refl _)).set (Nat.le_succ _);refine (zGV (hv.keep K0 (by omega)) hN hok hl).mono ?_;rintro r h1 nx1 ⟨rfl,hk1,hle1⟩;have g0:=hk1 nx (by omega);rw [hold (by omega),hnew] at g0;have g4:=hk1 (nx+1) (by omega);rw [hnew] at g4;have K1:Keep nx h h1:=K0.trans hk1 (by omega);simp (disch:=omega) only [SS,g0,seval];refine (zPq (hv.keep K1 (by omega)) hN hl hok).mono ?_;rintro r h2 nx2 ⟨v2,ts,rfl,hts,htc,htok,htl,hk2,hle2⟩;have htl2:ts.length≤gs.length:=Nat.le_trans htl (zBc gs);obtain ⟨a3,c3,rfl,hc3⟩:=id hts.nw;simp (disch:=omega) only [SS,seval];refine Lp.mk (RgJ nx (nx+1) nx2 N ts (nx2+1) (hset (hset h2 nx2 (.cells [.int .i64 0,.slice none 0 0] false)) nx2 (.cells [.int .i64 (N:Int),.slice a3 ts.length c3] false))) ts.length ⟨0,_,rfl,by omega,rfl,.inl ⟨rfl,rfl⟩,Keep.refl _ _,Nat.le_refl _⟩ ?_;rintro m _ h3 nx3 ⟨i,o,rfl,hi,rfl,S,hk3,hle3⟩;obtain ⟨a5,n5,c5,rfl⟩:=S.form;have gt:=hk3 nx2 (by omega);rw [hnew] at gt;rw [rgraphb0];unfold zMh aF bF iV lF nF xF;simp (disch:=omega) only [SS,gt,seval];refine ⟨fun hlt=>?_,fun hge=>?_⟩
 ·obtain ⟨e,he⟩:=zj hlt;obtain ⟨b,sp,ro,hb1,hb2,rfl,hb⟩:=hc3 (fun e0=>by rw [e0] at hlt; exact absurd hlt (Nat.not_lt_zero _));have hb3:=(hk3 b (by omega)).trans ((hold (by omega)).trans ((hold (by omega)).trans hb));obtain ⟨r0,r1,r2⟩:=rd_f (cs:=[]) he;rw [List.append_nil] at r0 r1 r2;simp (disch:=omega) only [SS,hb3,r0,r1,r2,seval];refine zHW (enc:=encG) (k:=3) (lo:=nx2+1) (fun _=>rfl) (fun _=>rfl) (by omega) (S.keep (fun c h1 h2=>by rw [hold (by omega)]) (by omega)) (by omega) e (hnew _ _ _) rfl (by rw [List.length_take]; omega) fun v5 h5 hs5 hk5=>?_;have htk:ts.take (i+1)=ts.take i++[e]:=by rw [List.take_add_one,he]; rfl
  simp (disch:=omega) only [SS,zZ (show i<1000000000000 by omega),seval];exact ⟨by omega,ts.length-(i+1),by omega,i+1,v5,rfl,by omega,rfl,by rw [htk]; exact hs5,fun c hc=>by rw [hk5 c hc,hold (by omega)]; exact hk3 c hc,by omega⟩
 ·have hie:i=ts.length:=by omega
  subst hie;rw [List.take_length] at S;have g03:=hk3 nx (by omega);rw [hold (by omega),hold (by omega),hk2 nx (by omega),g0] at g03;have g43:=hk3 (nx+1) (by omega);rw [hold (by omega),hold (by omega),hk2 (nx+1) (by omega),g4] at g43;have K3:Keep nx h h3:=fun c hc=>by rw [hk3 c (by omega),hold (by omega),hold (by omega),hk2 c (by omega)]; exact K1 c hc
  simp (disch:=omega) only [SS,g03,seval];refine (rbuilt_c (SlPx.of S.rd) hN (by omega) htok).mono ?_;rintro r h6 nx6 ⟨hR,hk6,hle6⟩;obtain ⟨x,y,b1,b2,b3,n1,n2,n3,c1,c2,c4,rfl⟩:=hR.form;have g46:=(hk6 (nx+1) (by omega)).trans g43;unfold zMJ;simp (disch:=omega) only [SS,g46,seval];exact ⟨_,rfl,hR.keep (fun c h1 h2=>hold (by omega)) (by omega) (Nat.le_refl _),fun c hc=>by rw [hold (by omega),hk6 c (by omega)]; exact K3 c hc,by omega⟩
theorem zQB {s:Bool} {k n src len gn:Int} {ds:List Int} {es:List Edg3} {vd ve:Value} {h:Hp} {nx:Nat} (hd:SlRd h nx vd encI ds) (he:SlPx h nx ve enc3 es) (hel:es.length≤60) :
  Cv Q O s 57 [.agg ⟨[.int .i64 k,.int .i64 n,.int .i64 src,.int .i64 len,vd]⟩,.agg ⟨[.int .i64 gn,ve]⟩] h nx (MatK (matE k n src len ds gn es) nx h):=by
 refine rmatrixv ?_;obtain ⟨a,cap,rfl,hc⟩:=id hd;obtain ⟨a2,cap2,rfl,hc2⟩:=id he;unfold zQC aF bF cF iV lA lF nC nS pC;simp (disch:=omega) only [SS,seval];have K0:∀ {o o' o''},Keep nx h (hset (hset (hset h nx o) (nx+1) o') (nx+1+1) o''):=(((Keep.refl _ _).set (Nat.le_refl _)).set (Nat.le_succ _)).set (by omega);refine (zHf (hd.keep K0 (by omega))).mono ?_;rintro r h1 nx1 ⟨rfl,hk1,hle1⟩;have gp:=hk1 nx (by omega);rw [hold (by omega),hold (by omega),hnew] at gp;have gg:=hk1 (nx+1) (by omega);rw [hold (by omega),hnew] at gg;have gm:=hk1 (nx+1+1) (by omega);rw [hnew] at gm;have K1:Keep nx h h1:=K0.trans hk1 (by omega);have zero:∀ {h':Hp} {nx':Nat} {o:AObj} {e:Int},matE k n src len ds gn es=e→Keep nx h h'→nx≤nx'→MatK (matE k n src len ds gn es) nx h (.tuple ⟨[.agg ⟨[.int .i64 0,.int .i64 0,.slice none 0 0,.slice none 0 0,.slice none 0 0]⟩,.int .i64 e]⟩) (hset h' (nx+1+1) o) nx':=fun {h' nx' o e} he hk hle=>by
  rw [he];exact ⟨_,rfl,RowsR.zero,hk.set (by omega),hle⟩
 generalize hpe:zAS k n src len ds=pe at *
 by_cases hp0:pe=0
 case neg =>
  have hb:(pe == 0)=false:=beq_eq_false_iff_ne.2 hp0;simp (disch:=omega) only [SS,hb,gm,seval];exact zero (by unfold matE; rw [hpe,if_pos hp0]) K1 (by omega)
 subst hp0;simp (disch:=omega) only [SS,gg,gp,seval];refine ⟨fun hne=>?_,fun heq=>?_⟩
 ·simp (disch:=omega) only [SS,gm,seval];have hne:gn≠n:=by simpa using hne
  exact zero (by unfold matE; rw [hpe,if_neg (by simp),if_pos hne]) K1 (by omega)
 have heq:gn=n:=by simpa using heq
 have hmE:matE k n src len ds gn es=zAR gn es:=by unfold matE; rw [hpe,if_neg (by simp),if_neg (by simp [heq])]
 refine (zM8 (he.keep K1 (by omega))).mono ?_;rintro r h2 nx2 ⟨rfl,hk2,hle2⟩;have K2:=K1.trans hk2 (by omega);have gp2:=(hk2 nx (by omega)).trans gp;have gg2:=(hk2 (nx+1) (by omega)).trans gg;have gm2:=(hk2 (nx+1+1) (by omega)).trans gm
 by_cases hr0:zAR gn es=0
 case neg =>
  have hb:(zAR gn es == 0)=false:=beq_eq_false_iff_ne.2 hr0;simp (disch:=omega) only [SS,hb,gm2,seval];exact zero hmE K2 (by omega)
 rw [hr0] at hmE ⊢;obtain ⟨N,rfl,hN,hfl,hG⟩:=(rightE_V.1 hr0).ges;have hpx:=((he.keep K1 (by omega)).keep hk2 hle2).map hfl;rw [← List.length_map (f:=toG)] at hel;generalize hgs:es.map toG=gs at hel hG hpx;have hcl:es.length=gs.length:=by rw [← hgs,List.length_map]
 rw [hcl] at gg2 hpx;have S0:Sg N (nx+1) nx h h2 nx2 gs (.slice a2 gs.length cap2):=⟨gg2,gm2,hpx,hG,K2,by omega⟩
 rw [hmE];have tail:∀ {h':Hp} {nx':Nat} {gs:List GE} {a:Option Addr} {n c:Nat},Sg N (nx+1) nx h h' nx' gs (.slice a n c)→nx≤nx'→gs.length≤120→zBX s (MatK 0 nx h) (.pointer (some ⟨nx+1,0,none⟩)) (.pointer (some ⟨nx+1+1,0,none⟩)) h' nx':=fun {h' nx' gs a n c} S hx hl=>by
  have hlt:=S.lt;unfold zBX cF lA;simp (disch:=omega) only [SS,S.g,seval];refine (rgraph_c S.p hN S.ok hl).mono ?_;rintro r h6 nx6 ⟨m,rfl,hR,hk6,hle6⟩;obtain ⟨x,y,b1,b2,b3,n1,n2,n3,c1,c2,c4,rfl⟩:=hR.form;have g6:=(hk6 _ S.lt).trans S.m;unfold zMJ;simp (disch:=omega) only [SS,g6,seval];exact ⟨_,rfl,hR.keep (fun c h1 h2=>hold (by omega)) (by omega) (Nat.le_refl _),fun b hb=>by rw [hold (by omega),hk6 b (by omega)]; exact S.k b hb,by omega⟩
 have plain:∀ {h':Hp} {nx':Nat} {ms:List GE} {v:Value} {hx:Hp} {nxx:Nat} {gs:List GE} {va:Value},SlPx h' nx' v encG ms→(∀ g∈ms,GOk N g)→ms.length≤120→Sg N (nx+1) nx h h' nx' gs va→nx≤nx'→Cv Q O s 147 [.agg ⟨[.int .i64 (N:Int),v]⟩] h' nx' fun x65 h66 n67=>(zI x65).length=2∧RK (wrO (hget h66 (nx+1)) h66 (nx+1) 0 (zI x65)) fun h68=>zBX s (MatK 0 nx h) (.pointer (some ⟨nx+1,0,none⟩)) (.pointer (some ⟨nx+1+1,0,none⟩)) h68 n67:=fun {h' nx' ms v hx nxx gs va} hv hok hl S hx=>by
  refine (rplain_c hv hN hl hok).mono ?_;intro r h6 nx6 hr;obtain ⟨cs,a6,n6,c6,rfl,hcl,hq,hle,S6⟩:=S.put (by omega) hr;simp (disch:=omega) only [SS,hq,seval];exact tail S6 (by omega) (by have:=zBc (p:=fun _=>true) (m:=oneG) ms; unfold zJ5 at hcl; omega)
 have next:∀ {h' h6:Hp} {nx' nx6:Nat} {gs:List GE} {va:Value},Sg N (nx+1) nx h h' nx' gs va→Keep nx' h' h6→nx'≤nx6→Sg N (nx+1) nx h h6 nx6 gs va:=fun {h' h6 nx' nx6 gs va} S hk hle=>by
  have:=S.lt;exact ⟨by rw [hk _ (by omega)]; exact S.g,by rw [hk _ (by omega)]; exact S.m,S.p.keep hk hle,S.ok,fun b hb=>by rw [hk b (by omega)]; exact S.k b hb,by omega⟩
 have both:∀ {h':Hp} {nx':Nat} {ms:List GE} {v:Value} {gs:List GE} {va:Value},SlPx h' nx' v encG ms→(∀ g∈ms,GOk N g)→ms.length≤60→Sg N (nx+1) nx h h' nx' gs va→nx≤nx'→Cv Q O s 148 [.agg ⟨[.int .i64 (N:Int),v]⟩] h' nx' fun x44 h45 n46=>Cv Q O s 147 [x44] h45 n46 fun x47 h48 n49=>(zI x47).length=2∧RK (wrO (hget h48 (nx+1)) h48 (nx+1) 0 (zI x47)) fun h50=>zBX s (MatK 0 nx h) (.pointer (some ⟨nx+1,0,none⟩)) (.pointer (some ⟨nx+1+1,0,none⟩)) h50 n49:=fun {h' nx' ms v gs va} hv hok hl S hx=>by
  refine (rboth_c hv hN hl hok).mono ?_;rintro r h6 nx6 ⟨ts,_,htl,_,v6,cs,rfl,hcs,_,hcok,hcl,hk6,hle6⟩;rw [List.length_append] at hcl;exact plain (hx:=h) (nxx:=0) (SlPx.of hcs.rd) hcok (by omega) (next S hk6 hle6) (by omega)
 simp (disch:=omega) only [SS,gg2,gp2,seval];refine ⟨fun _=>plain (hx:=h) (nxx:=0) S0.p hG (by omega) S0 (by omega),fun _=>⟨fun _=>both S0.p hG hel S0 (by omega),fun _=>⟨fun _=>?_,fun _=>tail S0 (by omega) (by omega)⟩⟩⟩;refine (zPt S0.p hN (by omega) hG).mono ?_;rintro r h6 nx6 ⟨v6,cs,rfl,hcs,_,hcok,hcl,hk6,hle6⟩;have hml:=zBc (p:=zCN) (m:=id) gs;unfold zCp at hcl;exact both (SlPx.of hcs.rd) hcok (by omega) (next S0 hk6 hle6) (by omega)
def encU (x:Nat):List Value:=[.int .u64 (x:Int)]
def SetK (w:Nat) (nx:Nat) (h:Hp):KC':=fun r h' nx'=>∃ b c sp,r = .slice (some ⟨b,0,sp⟩) 1 c∧nx≤b∧b<nx'∧hget h' b=some (.cells [.int .u64 (w:Int)] false)∧Keep nx h h'∧nx≤nx'
theorem SetK.rd {w nx:Nat} {h:Hp} {r:Value} {h':Hp} {nx':Nat} (H:SetK w nx h r h' nx'):SlRd h' nx' r encU [w]:=by
 obtain ⟨b,c,sp,rfl,h1,h2,h3,_⟩:=H;exact ⟨_,_,rfl,fun _=>⟨b,sp,false,h2,rfl,h3⟩⟩
theorem zNV {s:Bool} {n:Nat} {h:Hp} {nx:Nat} (h0:1≤n) (h1:n≤64):Cv Q O s 202 [.int .i64 (n:Int)] h nx (fun r h' nx'=>r = .int .i64 1∧h'=h∧nx'=nx):=by
 refine fwordsv ?_;unfold fwords bF iV;have e:IntKind.wrap .i64 ((n:Int)+63)=((n+63:Nat):Int):=zZ (by omega);simp (disch:=omega) only [SS,show max (n:Int) 0=n by omega,show min (n:Int) 4096=n by omega,e,zGK,seval];rw [show (n+63) / 64=1 by omega];rfl
theorem zRi {s:Bool} {n:Nat} {h:Hp} {nx:Nat} (h0:1≤n) (h1:n≤64):Cv Q O s 115 [.int .i64 (n:Int)] h nx (SetK 0 nx h):=by
 refine fnewv ?_;unfold fnew cF;refine (zNV h0 h1).mono ?_;rintro r h2 n2 ⟨rfl,e1,e2⟩;rw [e1,e2];show AR (vMks [.int .u64 0] (.int .i64 ((1:Nat):Int)) (.int .i64 ((1:Nat):Int))) h nx _;simp (disch:=omega) only [SS,seval];exact ⟨nx,1,none,rfl,Nat.le_refl _,Nat.lt_succ_self _,hnew _ _ _,(Keep.refl _ _).set (Nat.le_refl _),Nat.le_succ _⟩
theorem zKB {s:Bool} {k c:Nat} {a:Option Addr} {h:Hp} {nx:Nat} (hk:k<64):Cv Q O s 196 [.slice a 1 c,.int .i64 (k:Int)] h nx (fun r h' nx'=>r = .bool true∧h'=h∧nx'=nx):=by
 refine fwithinv ?_;unfold zRc bF iV nF;simp (disch:=omega) only [SS,zGK,seval];rw [show k / 64=0 by omega];exact ⟨fun _=>rfl,fun h=>absurd h (by omega)⟩
theorem fbit_c {s:Bool} {k:Nat} {h:Hp} {nx:Nat} (hk:k<64):Cv Q O s 197 [.int .i64 (k:Int)] h nx (fun r h' nx'=>r = .int .u64 ((2 ^ k:Nat):Int)∧h'=h∧nx'=nx):=by
 refine fbitv ?_;unfold fbit bF;have e:IntKind.wrap .u64 (k:Int)=(k:Int):=zF3 (by omega);have e2:∀ {t},bin Q .and t (.int .u64 (k:Int)) (.int .u64 63) = .ok (.int .u64 (k:Int)):=fun {t}=>by
  rw [show (63:Int)=((63:Nat):Int) from rfl,zEq (by omega) (by omega),show (63:Nat)=2 ^ 6-1 from rfl,Nat.and_two_pow_sub_one_eq_mod,Nat.mod_eq_of_lt (by omega)]
 simp (disch:=omega) only [SS,e,e2,zNm k hk,seval]
def natI (l:List Nat):List Int:=l.map fun x:Nat=>(x:Int)
def inL (l:List Nat) (i:Nat):Bool:=decide (i∈l)
def OfJ (n b c:Nat) (sp:Option Nat) (v:Value) (l:List Nat) (nx:Nat) (h:Hp) (m:Nat) (vs:List Value) (h':Hp) (nx':Nat):Prop :=
 ∃ i,m=l.length-i∧i≤l.length∧vs=[.int .i64 (n:Int),.slice (some ⟨b,0,sp⟩) 1 c,v,.int .i64 (l.length:Int),.int .i64 (i:Int)]∧hget h' b=some (.cells [.int .u64 (mk n (inL (l.take i)):Int)] false)∧nx≤b∧b<nx'∧Keep nx h h'∧nx≤nx'
theorem mk64 {n:Nat} {p:Nat→Bool} (h:n≤64):mk n p<18446744073709551616:=Nat.lt_of_lt_of_le (mk_lt n p) (Nat.pow_le_pow_right (i:=n) (j:=64) (by omega) h)
theorem inL_step {l:List Nat} {i x:Nat} (hx:l[i]? = some x) (j:Nat):inL (l.take (i+1)) j=(inL (l.take i) j||decide (j=x)):=by
 unfold inL;rw [List.take_add_one,hx,← Bool.decide_or]
 congr 1
 simp
theorem fof_c {s:Bool} {n:Nat} {l:List Nat} {v:Value} {h:Hp} {nx:Nat} (h0:1≤n) (h1:n≤64) (hv:SlRd h nx v encI (natI l)) (hl:∀ x∈l,x<n) (hlen:l.length<1000000):Cv Q O s 108 [.int .i64 (n:Int),v] h nx (SetK (mk n (inL l)) nx h):=by
 refine fofv ?_;obtain ⟨a,cap,rfl,hc⟩:=id hv;unfold fof cF iV nF;refine (zRi h0 h1).mono ?_;rintro r h2 n2 ⟨b,c,sp,rfl,hb1,hb2,hg,hk,hle⟩;simp (disch:=omega) only [SS,seval];refine Lp.mk (OfJ n b c sp (.slice a (natI l).length cap) l nx h) l.length ⟨0,by omega,by omega,by unfold natI; rw [List.length_map]; rfl,by rw [List.take_zero,show mk n (inL [])=0 from (by rw [← zI8 n]; exact zGj fun i _=>by simp [inL])]; exact hg,hb1,hb2,hk,hle⟩ ?_;rintro _ _ h' nx' ⟨i,rfl,hi,rfl,hgb,hb1,hb2,hk,hle⟩;rw [fofb0];unfold fofl0 bF cF dF gL lF xF;simp (disch:=omega) only [SS,seval];refine ⟨fun hlt=>?_,fun hge=>?_⟩
 ·obtain ⟨x,hx⟩:=zj hlt;have hxI:(natI l)[i]? = some (x:Int):=by unfold natI; rw [List.getElem?_map,hx]; rfl
  obtain ⟨_,b2,sp2,ro,c1,hb3,e1,hg2⟩:=hv.at hxI;cases e1;rw [zT] at hg2;have hxn:=hl x (List.mem_of_getElem? hx);simp (disch:=omega) only [SS,(hk b2 hb3).trans hg2,zg hxI,show (x:Int)<(n:Int) by omega,seval];refine ⟨?_,fun h=>absurd trivial h⟩;refine (zKB (by omega)).mono ?_;rintro r h3 n3 ⟨rfl,e1,e2⟩;rw [e1,e2];simp (disch:=omega) only [SS,seval];refine (fbit_c (by omega)).mono ?_;rintro r h3 n3 ⟨rfl,e1,e2⟩;rw [e1,e2];refine ⟨Nat.le_refl _,?_⟩;have ho:bin Q .or 221 (.int .u64 (mk n (inL (l.take i)):Int)) (.int .u64 ((2 ^ x:Nat):Int)) = .ok (.int .u64 (mk n (inL (l.take (i+1))):Int)):=by
   rw [mk_one hxn,zMF (mk64 h1) (mk64 h1),mk_or]
   congr 3
   exact zGj fun j _=>(inL_step hx j).symm
  simp (disch:=omega) only [SS,zGK,show x / 64=0 by omega,hgb,ho,zZ (show i<1000000000000 by omega),seval];unfold fofk0 bF iV;simp (disch:=omega) only [SS,zZ (show i<1000000000000 by omega),seval];exact ⟨_,by omega,i+1,rfl,by omega,rfl,hnew _ _ _,hb1,hb2,hk.set hb1,hle⟩
 ·have:i=l.length:=by omega
  subst this;rw [List.take_length] at hgb;exact ⟨b,c,sp,rfl,hb1,hb2,hgb,hk,hle⟩
def OnJ (n:Nat) (p:Nat→Bool) (h:Hp) (nx:Nat) (m:Nat) (vs:List Value) (h':Hp) (nx':Nat):Prop :=
 ∃ (q:Nat→Bool) (k:Nat),m=(fl n q).length∧k+(fl n q).length=(fl n p).length∧vs=[.int .u64 (mk n q:Int),.int .i64 (k:Int)]∧h'=h∧nx'=nx
theorem zDD (n:Nat) (p:Nat→Bool):(fl n p).length≤n:=by
 unfold fl;have:=List.length_filter_le p (List.range n);rwa [List.length_range] at this
theorem fones_c {s:Bool} {n:Nat} {p:Nat→Bool} {h:Hp} {nx:Nat} (h1:n≤63):Cv Q O s 198 [.int .u64 (mk n p:Int)] h nx (fun r h' nx'=>r = .int .i64 ((fl n p).length:Int)∧h'=h∧nx'=nx):=by
 refine fonesv ?_;unfold fones iV;refine Lp.mk (OnJ n p h nx) (fl n p).length ⟨p,0,rfl,by omega,rfl,rfl,rfl⟩ ?_;rintro _ _ _ _ ⟨q,k,rfl,hk,rfl,rfl,rfl⟩;rw [fonesb0];unfold zRf bF iV;have hn:=zDD n p
 by_cases h0:mk n q=0
 ·rw [h0];simp (disch:=omega) only [SS,↓reduceIte,Nat.reduceAdd,Nat.reduceSub,Nat.reduceMul,Nat.reduceLT,Nat.reduceLeDiff,Nat.reduceEqDiff,Int.reduceBEq,Int.reduceLT,Int.reduceNeg];have:fl n q=[]:=fl_nil (mk_zero.1 h0);rw [this] at hk;have:(k:Int)=((fl n p).length:Int):=by simp at hk; omega
  rw [this];exact ⟨fun _=>rfl,fun h=>absurd h (by simp)⟩
 ·obtain ⟨q2,e1,e2⟩:=zNo n q h0;have e3:(((mk n q:Nat):Int) == 0)=false:=by
   rw [beq_eq_false_iff_ne]; omega
  have e4:IntKind.wrap .u64 ((mk n q:Int)-1)=((mk n q-1:Nat):Int):=by
   rw [show ((mk n q:Nat):Int)-1=((mk n q-1:Nat):Int) by omega];exact zF3 (by have:=mk64 (p:=q) (show n≤64 by omega); omega)
  have e5:bin Q .and 221 (.int .u64 ((mk n q:Nat):Int)) (.int .u64 ((mk n q-1:Nat):Int)) = .ok (.int .u64 ((mk n q2:Nat):Int)):=by
   rw [zEq (mk64 (by omega)) (by have:=mk64 (p:=q) (show n≤64 by omega); omega),e1]
  simp (disch:=omega) only [SS,↓reduceIte,Nat.reduceAdd,Nat.reduceSub,Nat.reduceMul,Nat.reduceLT,Nat.reduceLeDiff,Nat.reduceEqDiff,Int.reduceBEq,Int.reduceLT,Int.reduceNeg,e3,e4,e5,zZ (show k<1000000000000 by omega)];exact ⟨_,by omega,q2,k+1,rfl,by omega,rfl,rfl,rfl⟩
theorem zGD {s:Bool} {n:Nat} {p:Nat→Bool} {v:Value} {h:Hp} {nx:Nat} (h1:n≤63) (hv:SlRd h nx v encU [mk n p]):Cv Q O s 111 [v] h nx (fun r h' nx'=>r = .int .i64 ((fl n p).length:Int)∧h'=h∧nx'=nx):=by
 refine fcountv ?_;obtain ⟨a,cap,rfl,hc⟩:=id hv;obtain ⟨b,sp,ro,hb,rfl,hg⟩:=hc (by simp);have hn:=zDD n p;unfold fcount iV nF;simp (disch:=omega) only [SS,seval];refine Lp.mk (fun m vs h' nx'=>h'=h∧nx'=nx∧((m=1∧vs=[.int .i64 0,.slice (some ⟨b,0,sp⟩) 1 cap,.int .i64 1,.int .i64 0])∨(m=0∧vs=[.int .i64 ((fl n p).length:Int),.slice (some ⟨b,0,sp⟩) 1 cap,.int .i64 1,.int .i64 1]))) 1 ⟨rfl,rfl,.inl ⟨rfl,rfl⟩⟩ ?_;rintro _ _ h' nx' ⟨eh,en,h2⟩;rw [eh,en];rcases h2 with ⟨rfl,rfl⟩ | ⟨rfl,rfl⟩
 ·rw [zNY];unfold zIp bF cF iV lF xF;have hg:hget h b=some (.cells [.int .u64 (mk n p:Int)] ro):=hg;simp (disch:=omega) only [SS,hg,seval];refine ⟨?_,fun h=>absurd trivial h⟩;refine (fones_c h1).mono ?_;rintro r h3 n3 ⟨rfl,e1,e2⟩;rw [e1,e2];simp (disch:=omega) only [SS,seval];exact ⟨0,by omega,.inr ⟨rfl,by rw [show IntKind.wrap .i64 (0+((fl n p).length:Int))=((fl n p).length:Int) by rw [Int.zero_add]; exact zFl _ (by omega)]; rfl⟩⟩
 ·rw [zNY];unfold zIp bF cF iV lF xF;simp (disch:=omega) only [SS,seval];exact fun _=>trivial
def hd0 (l:List Nat):Nat:=match l with | []=>0 | x::_=>x
def BwJ (w:Nat) (v1 v2 vf:Value) (nx:Nat) (h:Hp) (m:Nat) (vs:List Value) (h':Hp) (nx':Nat):Prop:=nx'=nx+1∧Keep nx h h'∧((m=1∧hget h' nx=some (.cells [.int .u64 0] false)∧vs=[v1,v2,vf,.slice (some ⟨nx,0,none⟩) 1 1,.int .i64 1,.int .i64 0])∨(m=0∧hget h' nx=some (.cells [.int .u64 (w:Int)] false)∧vs=[v1,v2,vf,.slice (some ⟨nx,0,none⟩) 1 1,.int .i64 1,.int .i64 1]))
theorem zGE {s:Bool} {f w:Nat} {la lb:List Nat} {va vb:Value} {h:Hp} {nx:Nat} (ha:SlRd h nx va encU la) (hb:SlRd h nx vb encU lb) (hla:la.length≤1) (hlb:lb.length≤1)
  (hf:∀ (h:Hp) (nx:Nat),Cv Q O s f [.int .u64 (hd0 la:Int),.int .u64 (hd0 lb:Int)] h nx (fun r h' nx'=>r = .int .u64 (w:Int)∧h'=h∧nx'=nx)) :
  Cv Q O s 199 [.int .i64 1,va,vb,.func (.func f) ⟨[]⟩ ⟨[]⟩] h nx (SetK w nx h):=by
 refine fbothwv ?_;obtain ⟨a1,c1,rfl,hc1⟩:=id ha;obtain ⟨a2,c2,rfl,hc2⟩:=id hb;unfold fbothw iV nF;show AR (vMks [.int .u64 0] (.int .i64 ((1:Nat):Int)) (.int .i64 ((1:Nat):Int))) h nx _;simp (disch:=omega) only [SS,seval];have K1:∀ {o},Keep nx h (hset h nx o):=(Keep.refl _ _).set (Nat.le_refl _);refine Lp.mk (BwJ w (.slice a1 la.length c1) (.slice a2 lb.length c2) (.func (.func f) ⟨[]⟩ ⟨[]⟩) nx h) 1 ⟨rfl,K1,.inl ⟨rfl,hnew _ _ _,rfl⟩⟩ ?_;rintro m vs h' nx' ⟨en,hk,h2⟩;rw [en];have stop:∀ {N e0 R:KVl} {h5:Hp},h5=hset h' nx (.cells [.int .u64 (w:Int)] false)→(∀ vs h nx',BwJ w (.slice a1 la.length c1) (.slice a2 lb.length c2) (.func (.func f) ⟨[]⟩ ⟨[]⟩) nx h 0 vs h nx'→True)→(N [.slice a1 la.length c1,.slice a2 lb.length c2,.func (.func f) ⟨[]⟩ ⟨[]⟩,.slice (some ⟨nx,0,none⟩) 1 1,.int .i64 1,.int .i64 1] h5 (nx+1))→zDg s N e0 R (.slice a1 la.length c1) (.slice a2 lb.length c2) (.func (.func f) ⟨[]⟩ ⟨[]⟩) (.slice (some ⟨nx,0,none⟩) 1 1) (.int .i64 1) (.int .i64 0) h5 (nx+1):=fun {N e0 R h5} e _ hN=>by
  unfold zDg bF iV;simp (disch:=omega) only [SS,seval];exact hN
 have fin:∃ m',m'<1∧BwJ w (.slice a1 la.length c1) (.slice a2 lb.length c2) (.func (.func f) ⟨[]⟩ ⟨[]⟩) nx h m' [.slice a1 la.length c1,.slice a2 lb.length c2,.func (.func f) ⟨[]⟩ ⟨[]⟩,.slice (some ⟨nx,0,none⟩) 1 1,.int .i64 1,.int .i64 1] (hset h' nx (.cells [.int .u64 (w:Int)] false)) (nx+1) :=
  ⟨0,by omega,rfl,hk.set (Nat.le_refl _),.inr ⟨rfl,hnew _ _ _,rfl⟩⟩
 rcases h2 with ⟨rfl,hg,rfl⟩ | ⟨rfl,hg,rfl⟩
 ·rw [zNZ];unfold zIq bF lF nF xF;have call:∀ {k:Value→Hp→Nat→Prop},k (.int .u64 (w:Int)) h' (nx+1)→Cv Q O s f [.int .u64 (hd0 la:Int),.int .u64 (hd0 lb:Int)] h' (nx+1) k:=fun {k} hk=>(hf h' (nx+1)).mono fun r h3 n3 ⟨e1,e2,e3⟩=>by rw [e1,e2,e3]; exact hk
  have nil1:∀ (x:Nat) (l:List Nat),(x::l).length≤1→l=[]:=fun x l h=>List.length_eq_zero_iff.1 (by simpa using h);cases la with
  | nil =>
   cases lb with
   | nil =>
    simp (disch:=omega) only [SS,@List.length_cons Nat,@List.length_nil Nat,show ((0:Nat):Int)=0 from rfl,show ((1:Nat):Int)=1 from rfl,not_false_eq_true,not_true_eq_false,forall_const,seval];refine call ?_;simp (disch:=omega) only [SS,hg,seval];exact stop rfl (fun _ _ _ _=>trivial) fin
   | cons y lb =>
    obtain rfl:=nil1 _ _ hlb;obtain ⟨b2,sp2,ro2,hb2,rfl,hg2⟩:=hc2 (by simp);have hg2:hget h' b2=some (.cells [.int .u64 (y:Int)] ro2):=(hk b2 hb2).trans hg2;simp (disch:=omega) only [SS,hg2,@List.length_cons Nat,@List.length_nil Nat,show ((0:Nat):Int)=0 from rfl,show ((1:Nat):Int)=1 from rfl,not_false_eq_true,not_true_eq_false,forall_const,seval];refine call ?_;simp (disch:=omega) only [SS,hg,seval];exact stop rfl (fun _ _ _ _=>trivial) fin
  | cons x la =>
   obtain rfl:=nil1 _ _ hla;obtain ⟨b1,sp1,ro1,hb1,rfl,hg1⟩:=hc1 (by simp);have hg1:hget h' b1=some (.cells [.int .u64 (x:Int)] ro1):=(hk b1 hb1).trans hg1;cases lb with
   | nil =>
    simp (disch:=omega) only [SS,hg1,@List.length_cons Nat,@List.length_nil Nat,show ((0:Nat):Int)=0 from rfl,show ((1:Nat):Int)=1 from rfl,not_false_eq_true,not_true_eq_false,forall_const,seval];refine call ?_;simp (disch:=omega) only [SS,hg,seval];exact stop rfl (fun _ _ _ _=>trivial) fin
   | cons y lb =>
    obtain rfl:=nil1 _ _ hlb;obtain ⟨b2,sp2,ro2,hb2,rfl,hg2⟩:=hc2 (by simp);have hg2:hget h' b2=some (.cells [.int .u64 (y:Int)] ro2):=(hk b2 hb2).trans hg2;simp (disch:=omega) only [SS,hg1,hg2,@List.length_cons Nat,@List.length_nil Nat,show ((0:Nat):Int)=0 from rfl,show ((1:Nat):Int)=1 from rfl,not_false_eq_true,not_true_eq_false,forall_const,seval];refine call ?_;simp (disch:=omega) only [SS,hg,seval];exact stop rfl (fun _ _ _ _=>trivial) fin
 ·rw [zNZ];unfold zIq bF lF nF xF;simp (disch:=omega) only [SS,seval];exact fun _=>⟨nx,1,none,rfl,Nat.le_refl _,Nat.lt_succ_self _,hg,hk,Nat.le_succ _⟩
theorem zLe {s:Bool} {n:Nat} {p q:Nat→Bool} {va vb:Value} {h:Hp} {nx:Nat} (hn:n≤64) (ha:SlRd h nx va encU [mk n p]) (hb:SlRd h nx vb encU [mk n q]):Cv Q O s 112 [va,vb] h nx (SetK (mk n (fun i=>p i&&q i)) nx h):=by
 refine fbothv ?_;obtain ⟨a1,c1,rfl,_⟩:=id ha;unfold fboth cF nF;simp (disch:=omega) only [SS,seval];refine (zGE ha hb (by simp) (by simp) fun h nx=>?_).mono fun _ _ _ hr=>hr;refine fboth1v ?_;unfold fboth1 bF;show RK (bin Q .and 221 (.int .u64 (mk n p:Int)) (.int .u64 (mk n q:Int))) _;rw [zEq (mk64 hn) (mk64 hn),mk_and,zX];exact ⟨rfl,rfl,rfl⟩
theorem zNX {s:Bool} {n:Nat} {p q:Nat→Bool} {va vb:Value} {h:Hp} {nx:Nat} (hn:n≤64) (ha:SlRd h nx va encU [mk n p]) (hb:SlRd h nx vb encU [mk n q]):Cv Q O s 191 [va,vb] h nx (SetK (mk n (fun i=>p i&&!q i)) nx h):=by
 refine fminusv ?_;obtain ⟨a1,c1,rfl,_⟩:=id ha;unfold fminus cF nF;simp (disch:=omega) only [SS,seval];refine (zGE ha hb (by simp) (by simp) fun h nx=>?_).mono fun _ _ _ hr=>hr;refine fminus1v ?_;unfold zRj bF;show RK (bin Q .andNot 221 (.int .u64 (mk n p:Int)) (.int .u64 (mk n q:Int))) _;rw [bin_anU hn,zX];exact ⟨rfl,rfl,rfl⟩
theorem zNW {s:Bool} {n:Nat} {p q:Nat→Bool} {va vb:Value} {h:Hp} {nx:Nat} (hn:n≤64) (ha:SlRd h nx va encU [mk n p]) (hb:SlRd h nx vb encU [mk n q]):Cv Q O s 113 [va,vb] h nx (SetK (mk n (fun i=>p i||q i)) nx h):=by
 refine funionv ?_;obtain ⟨a1,c1,rfl,_⟩:=id ha;obtain ⟨a2,c2,rfl,_⟩:=id hb;unfold funion cF nF;simp (disch:=omega) only [SS,@List.length_cons Nat,@List.length_nil Nat,seval];refine (zGE ha hb (by simp) (by simp) fun h nx=>?_).mono fun _ _ _ hr=>hr;refine funion1v ?_;unfold zRd bF;show RK (bin Q .or 221 (.int .u64 (mk n p:Int)) (.int .u64 (mk n q:Int))) _;rw [zMF (mk64 hn) (mk64 hn),mk_or,zX];exact ⟨rfl,rfl,rfl⟩
theorem bin_andI {t:TypeId} {n:Nat} (hn:n<64):bin Q .and t (.int .i64 (n:Int)) (.int .i64 63) = .ok (.int .i64 (n:Int)):=by
 show R.ok (Value.int .i64 (IntKind.wrap .i64 ((BitVec.ofInt 64 (n:Int) &&& BitVec.ofInt 64 63).toNat:Int)))=_;rw [BitVec.toNat_and,ofU (n:=n) (by omega),show (BitVec.ofInt 64 63).toNat=2 ^ 6-1 from rfl,Nat.and_two_pow_sub_one_eq_mod,Nat.mod_eq_of_lt (by omega),zFl n (by omega)]
theorem fflip_c {s:Bool} {n:Nat} {h:Hp} {nx:Nat} (h0:1≤n) (h1:n<64):Cv Q O s 189 [.slice none 0 0,.int .i64 (n:Int)] h nx (SetK (mk n (fun _=>true)) nx h):=by
 refine fflipv ?_;unfold fflip bF cF iV nS;refine (zNV h0 (by omega)).mono ?_;rintro r h2 n2 ⟨rfl,e1,e2⟩;rw [e1,e2];have hnil:∀ {h:Hp} {nx:Nat},SlRd h nx (.slice none 0 0) encU []:=⟨none,0,rfl,fun e=>absurd rfl e⟩
 refine (zGE (w:=18446744073709551615) hnil hnil (by simp) (by simp) fun h nx=>?_).mono ?_
 ·refine fflip1v ?_;unfold fflip1;show RK (.ok (Value.int .u64 18446744073709551615)) _;exact ⟨rfl,rfl,rfl⟩
 rintro r h2 n2 ⟨b,c,sp,rfl,hb1,hb2,hg,hk,hle⟩;have hnn:((n:Int) == 0)=false:=by rw [beq_eq_false_iff_ne]; omega
 simp (disch:=omega) only [SS,↓reduceIte,Nat.reduceAdd,Nat.reduceSub,Nat.reduceMul,Nat.reduceLT,Nat.reduceLeDiff,Nat.reduceEqDiff,Int.reduceBEq,Int.reduceLT,Int.reduceNeg,bin_andI h1,hnn,show (0:Int)<(n:Int) by omega,show ¬ ((4096:Int)≤(n:Int)) by omega,show (n:Int)<4096 by omega];refine ⟨?_,fun h=>absurd trivial h⟩;have hp:0<2 ^ n∧2 ^ n<18446744073709551616:=⟨Nat.pow_pos (by omega),Nat.pow_lt_pow_right (a:=2) (by omega) h1⟩
 have e1:IntKind.wrap .u64 (n:Int)=(n:Int):=zF3 (by omega);have e2:IntKind.wrap .u64 (((2 ^ n:Nat):Int)-1)=((2 ^ n-1:Nat):Int):=by
  rw [show ((2 ^ n:Nat):Int)-1=((2 ^ n-1:Nat):Int) by omega];exact zF3 (by omega)
 have e3:bin Q .and 221 (.int .u64 18446744073709551615) (.int .u64 ((2 ^ n-1:Nat):Int)) = .ok (.int .u64 (mk n (fun _=>true):Int)):=by
  rw [mk_all,show (18446744073709551615:Int)=((2 ^ 64-1:Nat):Int) from rfl,zEq (by omega) (by omega),Nat.and_comm,Nat.and_two_pow_sub_one_eq_mod,Nat.mod_eq_of_lt (by omega)]
 have hg:hget h2 b=some (.cells [.int .u64 18446744073709551615] false):=hg;have e0:IntKind.wrap .i64 ((1:Int)-1)=0:=rfl;unfold zIo bF iV lF nF xF;rw [show decide True=true from rfl];simp (disch:=omega) only [SS,↓reduceIte,Nat.reduceAdd,Nat.reduceSub,Nat.reduceMul,Nat.reduceLT,Nat.reduceLeDiff,Nat.reduceEqDiff,Int.reduceBEq,Int.reduceLT,Int.reduceNeg,e0,show ((1:Nat):Int)=1 from rfl,hg,e1,zNm n h1,e2,e3];exact ⟨b,c,sp,rfl,hb1,hb2,hnew _ _ _,hk.set hb1,hle⟩
theorem appA_g {h:Hp} {nx b b2 n c2:Nat} {sp2:Option Nat} {ro rd:Bool} {l cs:List Value} (hn:l.length=n) (hd:hget h b=some (.cells cs rd)) (hb:hget h b2=some (.cells l ro)) (h0:0<n) (h1:n<1000000) :
  zS 1 h nx (.slice (some ⟨b,0,none⟩) 0 0) (.slice (some ⟨b2,0,sp2⟩) n c2) = .ok (.val (.slice (some ⟨nx,0,some 1⟩) n n) (hset h nx (.cells l false)) (nx+1)):=by
 subst hn;have hr:zDm h (some ⟨b2,0,sp2⟩) (l.length.mul 1) (fun new=>zBL 1 h nx (some ⟨b,0,none⟩) 0 0 l.length new)=zBL 1 h nx (some ⟨b,0,none⟩) 0 0 l.length l:=by
  rw [show l.length.mul 1=l.length from Nat.mul_one _,zCL hb h0 (by omega)];rw [List.drop_zero,List.take_of_length_le (by omega)]
 show zDm h (some ⟨b2,0,sp2⟩) (l.length.mul 1) (fun new=>zBL 1 h nx (some ⟨b,0,none⟩) 0 0 l.length new)=_;rw [hr];unfold zBL;rw [show Nat.ble (Nat.add 0 l.length) 0=false by
  cases hb:Nat.ble (Nat.add 0 l.length) 0 with
  | false=>rfl
  | true=>have:=Nat.le_of_ble_eq_true hb; have:0+l.length≤0:=this; omega]
 rw [show (Nat.ble (Nat.mul (Nat.add 0 l.length) 1) 1000000&&Nat.ble (Nat.add 0 l.length) 1000000)=true by
  simp only [Bool.and_eq_true,Nat.ble_eq];exact ⟨by show (0+l.length)*1≤_; omega,by show 0+l.length≤_; omega⟩]
 show zF1 h nx 1 (some ⟨b,0,none⟩) 0 0 (0+l.length) l=_;unfold zF1;simp only [zA hd];rw [show lcut (Nat.mul 0 1) (zC3 cs 0)=some [] by rw [Nat.mul_eq,Nat.zero_mul]; rfl];show zFL h nx 1 (lapp [] l) (0+l.length)=_;rw [zAB,List.nil_append,Nat.zero_add];exact zBf (by omega)
theorem zNl {P:Program} {t:TypeId} (ht:zBK P t=true) (a:Option Addr) (n c:Nat):bin P .eql t (.slice a n c) (.slice none 0 0) = .ok (.bool a.isNone):=by
 show R.of "compared" (eqlV P t (.slice a n c) (.slice none 0 0)) _=_;unfold eqlV;cases a <;> simp [ht,eqlS,zCF]
theorem ty23:zBK Tryz.prog 23=true:=by kernel_rfl
theorem ty74:zBK Tryz.prog 74=true:=by kernel_rfl
theorem cloneu_c {s:Bool} {w:Nat} {v:Value} {h:Hp} {nx:Nat} (hv:SlRd h nx v encU [w]):Cv Q O s 203 [v] h nx (SetK w nx h):=by
 refine cloneuv ?_;obtain ⟨a,cap,rfl,hc⟩:=id hv;obtain ⟨b,sp,ro,hb,rfl,hg⟩:=hc (by simp);have hg:hget h b=some (.cells [.int .u64 (w:Int)] ro):=hg;unfold cloneu bF nS;have K1:Keep nx h (hset h nx (.cells [] false)):=(Keep.refl _ _).set (Nat.le_refl _);simp (disch:=omega) only [SS,zNl ty74,@List.length_cons Nat,@List.length_nil Nat,seval];refine ⟨fun h0=>(by cases h0),fun _=>?_⟩;rw [appA_g (n:=1) (l:=[.int .u64 (w:Int)]) rfl (hnew _ _ _) ((K1 b hb).trans hg) (by omega) (by omega)];exact ⟨nx+1,1,some 1,rfl,by omega,by omega,hnew _ _ _,K1.set (by omega),by omega⟩
theorem zSJ {s:Bool} {h:Hp} {nx:Nat} {v:Value} {l:List Int} (hv:SlRd h nx v encI l) (hl:l.length<1000000) :
  Cv Q O s 51 [v] h nx (fun r h' nx'=>SlNw h' nx nx' r encI l∧Keep nx h h'∧nx≤nx'):=by
 refine clone64v ?_;obtain ⟨a,cap,rfl,hc⟩:=id hv;unfold zSK bF nS;simp (disch:=omega) only [SS,zNl ty23,seval];refine ⟨fun h0=>⟨?_,Keep.refl _ _⟩,fun h0=>?_⟩
 ·have:l=[]:=by
   rcases Classical.em (l=[]) with e | e
   ·exact e
   ·obtain ⟨b,sp,ro,_,rfl,_⟩:=hc e;cases h0
  subst this;exact ⟨none,0,rfl,fun h=>absurd rfl h⟩
 have K1:Keep nx h (hset h nx (.cells [] false)):=(Keep.refl _ _).set (Nat.le_refl _);rcases Classical.em (l=[]) with e | e
 ·subst e;show SlNw _ _ _ (.slice (some ⟨nx,0,none⟩) 0 0) _ _∧_∧_;exact ⟨⟨some ⟨nx,0,none⟩,0,rfl,fun h=>absurd rfl h⟩,K1,by omega⟩
 ·obtain ⟨b,sp,ro,hb,rfl,hg⟩:=hc e;rw [zT] at hg;rw [appA_g (l:=ints l) (zCS _) (hnew _ _ _) ((K1 b hb).trans hg) (List.length_pos_iff.2 e) hl];refine ⟨⟨some ⟨nx+1,0,some 1⟩,l.length,rfl,fun _=>⟨nx+1,some 1,false,by omega,by omega,rfl,?_⟩⟩,K1.set (by omega),by omega⟩;rw [zT]; exact hnew _ _ _
theorem fput_c {s:Bool} {n k:Nat} {p:Nat→Bool} {v:Value} {h:Hp} {nx:Nat} (hn:n≤64) (hk:k<n) (hv:SlRd h nx v encU [mk n p]):Cv Q O s 116 [v,.int .i64 (k:Int)] h nx (SetK (mk n (fun i=>p i||decide (i=k))) nx h):=by
 refine fputv ?_;obtain ⟨a,cap,rfl,hc⟩:=id hv;unfold fput bF cF dF gL lF xF;refine (cloneu_c hv).mono ?_;rintro r h2 n2 ⟨b,c,sp,rfl,hb1,hb2,hg,hk2,hle⟩;refine (zKB (by omega)).mono ?_;rintro r h3 n3 ⟨rfl,e1,e2⟩;rw [e1,e2];simp (disch:=omega) only [SS,seval];refine (fbit_c (by omega)).mono ?_;rintro r h3 n3 ⟨rfl,e1,e2⟩;rw [e1,e2];refine ⟨Nat.le_refl _,?_⟩;have ho:bin Q .or 221 (.int .u64 (mk n p:Int)) (.int .u64 ((2 ^ k:Nat):Int)) = .ok (.int .u64 (mk n (fun i=>p i||decide (i=k)):Int)):=by
  rw [mk_one hk,zMF (mk64 hn) (mk64 hn),mk_or]
 simp (disch:=omega) only [SS,zGK,show k / 64=0 by omega,show ((0:Nat):Int)=0 from rfl,hg,ho,seval];exact ⟨b,c,sp,rfl,hb1,hb2,hnew _ _ _,hk2.set hb1,hle⟩
noncomputable def rfa:Code:=(rfAt Tryz.prog 276).1
noncomputable def rfb:Code:=(rfAt Tryz.prog 276).2
theorem app276:AppAt Q (.int .i64 0) 276 rfa rfb:=⟨by kernel_rfl,by kernel_rfl,by kernel_rfl⟩
theorem zLa (k:Nat) (p:Nat→Bool):fl (k+1) p=fl k p++(if p k then [k] else []):=by
 unfold fl;rw [List.range_succ,List.filter_append];cases h:p k <;> simp [h]
theorem fl_end {n k:Nat} {p:Nat→Bool} (hk:k≤n) (h:∀ i,k≤i→i<n→p i=false):fl n p=fl k p:=by
 induction n with
 | zero =>
  have:k=0:=by omega
  rw [this]
 | succ n ih =>
  by_cases e:k=n+1
  ·rw [e]
  ·rw [zLa,h n (by omega) (by omega),ih (by omega) (fun i h1 h2=>h i h1 (by omega))];simp
structure CoI (l p:Nat) (a b:Code) (h:Hp) (nx:Nat) (vals:List Int) (o:Value) (bo:Option Nat):Prop where
 c:Col l p a b h o
 g:Ow h encI o vals bo
 b:∀ c,bo=some c→c≠l∧c≠p∧c<nx
def EaJ (l p n lo pc:Nat) (q:Nat→Bool) (vf:Value) (h:Hp) (m:Nat) (vs:List Value) (h':Hp) (nx':Nat):Prop :=
 ∃ (k:Nat) (o:Value) (bo:Option Nat),m=n-k∧k≤n∧vs=[.func (.yield l) ⟨[]⟩ ⟨[]⟩,.int .u64 (mk (n-k) (fun i=>q (i+k)):Int),.int .i64 (k:Int),vf,.int .i64 1,.int .i64 0]∧CoI l p rfa rfb h' nx' (natI (fl k q)) o bo∧(∀ c,bo=some c→lo≤c)∧(∀ c,c<lo→c≠l→c≠p→hget h' c=hget h c)∧lo≤nx'
theorem each1_c {s:Bool} {n l p pc:Nat} {q:Nat→Bool} {vf:Value} {h:Hp} {nx:Nat} (hn:n≤63) (hv:SlRd h nx vf encU [mk n q]) (hpc:hget h pc=some (.cells [vf] false)) (C:CoI l p rfa rfb h nx [] (.slice none 0 0) none) (hlp:l≠p) (hl:l<nx) (hp:p<nx) (hne:∀ b,b<nx→hget h b=hget h b) :
  Cv Q O s 277 [.func (.yield l) ⟨[]⟩ ⟨[]⟩,.pointer (some ⟨pc,0,none⟩)] h nx (fun _ h' nx'=>∃ o bo,CoI l p rfa rfb h' nx' (natI (fl n q)) o bo∧(∀ c,bo=some c→nx≤c)∧(∀ c,c<nx→c≠l→c≠p→hget h' c=hget h c)∧nx≤nx'):=by
 refine each1v ?_;obtain ⟨a,cap,rfl,hc⟩:=id hv;obtain ⟨b,sp,ro,hb,rfl,hg⟩:=hc (by simp);have hg:hget h b=some (.cells [.int .u64 (mk n q:Int)] ro):=hg;unfold each1 iV lF nF;simp (disch:=omega) only [SS,hpc,@List.length_cons Nat,@List.length_nil Nat,seval];refine Lp.mk (fun m vs h' nx'=>(m=1∧vs=[.func (.yield l) ⟨[]⟩ ⟨[]⟩,.slice (some ⟨b,0,sp⟩) 1 cap,.int .i64 1,.int .i64 0]∧h'=h∧nx'=nx)∨(m=0∧vs=[.func (.yield l) ⟨[]⟩ ⟨[]⟩,.slice (some ⟨b,0,sp⟩) 1 cap,.int .i64 1,.int .i64 1]∧∃ o bo,CoI l p rfa rfb h' nx' (natI (fl n q)) o bo∧(∀ c,bo=some c→nx≤c)∧(∀ c,c<nx→c≠l→c≠p→hget h' c=hget h c)∧nx≤nx')) 1 (.inl ⟨rfl,rfl,rfl,rfl⟩) ?_;rintro m vs h' nx' (⟨rfl,rfl,eh,en⟩ | ⟨rfl,rfl,hR⟩)
 ·rw [zRs,eh,en];unfold zLg bF iV lF xF;have esh:bin Q .shl 3 (.int .i64 0) (.int .u64 6) = .ok (.int .i64 0):=rfl;simp (disch:=omega) only [SS,hg,esh,seval];refine ⟨?_,fun h=>absurd trivial h⟩;refine Lp.mk (EaJ l p n nx pc q (.slice (some ⟨b,0,sp⟩) 1 cap) h) n ⟨0,.slice none 0 0,none,by omega,by omega,rfl,C,fun c e=>(by cases e),fun c _ _ _=>rfl,Nat.le_refl _⟩ ?_;rintro _ _ h3 nx3 ⟨k,o,bo,rfl,hk,rfl,C3,hbl,hf3,hle3⟩;rw [each1b1];unfold zRr bF
  by_cases h0:mk (n-k) (fun i=>q (i+k))=0
  ·have hend:fl n q=fl k q:=fl_end hk fun i h1 h2=>by
    have:=mk_zero.1 h0 (i-k) (by omega);rwa [show i-k+k=i by omega] at this
   have e0:((mk (n-k) (fun i=>q (i+k)):Nat):Int)=0:=by rw [h0]; rfl
   simp (disch:=omega) only [SS,e0,seval];exact ⟨0,by omega,.inr ⟨rfl,rfl,o,bo,by rw [hend]; exact C3,hbl,hf3,hle3⟩⟩
  ·have hkn:k<n:=by
    rcases Nat.lt_or_ge k n with h | h
    ·exact h
    ·exact absurd (by rw [show n-k=0 by omega]; rfl) h0
   obtain ⟨r,hr⟩:∃ r,n-k=r+1:=⟨n-k-1,by omega⟩
   have e1:(((mk (n-k) (fun i=>q (i+k)):Nat):Int) == 0)=false:=by rw [beq_eq_false_iff_ne]; omega
   have e2:bin Q .and 221 (.int .u64 ((mk (n-k) (fun i=>q (i+k)):Nat):Int)) (.int .u64 1) = .ok (.int .u64 (if q k then 1 else 0)):=by
    rw [show (1:Int)=((1:Nat):Int) from rfl,zEq (mk64 (by omega)) (by omega),Nat.and_one_is_mod,hr,mk_odd,Nat.zero_add];cases q k <;> rfl
   have e3:mk (n-k) (fun i=>q (i+k)) / 2=mk (n-(k+1)) (fun i=>q (i+(k+1))):=by
    rw [hr,mk_shr,show n-(k+1)=r by omega];exact zGj fun i _=>by rw [show i+1+k=i+(k+1) by omega]
   have e4:bin Q .shr 221 (.int .u64 ((mk (n-k) (fun i=>q (i+k)):Nat):Int)) (.int .u64 1) = .ok (.int .u64 ((mk (n-(k+1)) (fun i=>q (i+(k+1))):Nat):Int)):=by rw [bin_shrU,e3]
   cases hq:q k with
   | true =>
    rw [hq] at e2;simp (disch:=omega) only [SS,e1,e2,seval];show Yv Q O s l [.int .i64 (k:Int)] h3 nx3 _;refine Yv_app app276 (enc:=encI) (fun _=>rfl) (fun _=>rfl) (x:=(k:Int)) rfl rfl C3.c C3.g hlp (by omega) (by omega) C3.b (by unfold natI; rw [List.length_map]; have:=zDD k q; omega) fun h4 o4 hC4 hG4 hf4=>?_;simp (disch:=omega) only [SS,seval];unfold zIu bF iV;simp (disch:=omega) only [SS,e4,zZ (show k<1000000000000 by omega),seval];refine ⟨n-(k+1),by omega,k+1,o4,some (nx3+1),rfl,by omega,rfl,⟨hC4,?_,fun c e=>?_⟩,fun c e=>?_,fun c h1 h2 h3'=>?_,by omega⟩
    ·rw [zLa,hq];show Ow h4 encI o4 (natI (fl k q++[k])) _;rw [show natI (fl k q++[k])=natI (fl k q)++[(k:Int)] by unfold natI; rw [List.map_append]; rfl];exact hG4
    ·cases e; exact ⟨by omega,by omega,by omega⟩
    ·cases e; omega
    ·rw [hf4 c (by omega) h2 h3' (fun e=>by have:=hbl c e; omega)]; exact hf3 c h1 h2 h3'
   | false =>
    rw [hq] at e2;have e2':bin Q .and 221 (.int .u64 ((mk (n-k) (fun i=>q (i+k)):Nat):Int)) (.int .u64 1) = .ok (.int .u64 0):=e2;simp (disch:=omega) only [SS,e1,e2',seval];unfold zIu bF iV;simp (disch:=omega) only [SS,e4,zZ (show k<1000000000000 by omega),seval];refine ⟨n-(k+1),by omega,k+1,o,bo,rfl,by omega,rfl,⟨C3.c,?_,C3.b⟩,hbl,hf3,hle3⟩;rw [zLa,hq];simp only [Bool.false_eq_true,if_false,List.append_nil];exact C3.g
 ·rw [zRs];unfold zLg bF iV lF xF;simp (disch:=omega) only [SS,seval];exact fun _=>hR
def ListK (l:List Int) (nx:Nat) (h:Hp):KC':=fun r h' nx'=>∃ bo,Ow h' encI r l bo∧(∀ c,bo=some c→nx≤c∧c<nx')∧Keep nx h h'∧nx≤nx'
theorem zL8 {s:Bool} {n:Nat} {q:Nat→Bool} {v:Value} {h:Hp} {nx:Nat} (hn:n≤63) (hv:SlRd h nx v encU [mk n q]):Cv Q O s 117 [v] h nx (ListK (natI (fl n q)) nx h):=by
 refine flistv ?_;obtain ⟨a,cap,rfl,hc⟩:=id hv;unfold flist cF;refine eachv ?_;unfold each pC;simp (disch:=omega) only [SS,seval];refine collectv ?_;unfold zSG cF nS;refine zKd app276 rfl fun h1 hC hf=>?_;have hK:Keep (nx+1) (hset h nx (.cells [.slice a [mk n q].length cap] false)) h1:=fun c hc=>hf c hc;have hv1:SlRd h1 (nx+1+1+1) (.slice a [mk n q].length cap) encU [mk n q]:=by
  refine (hv.keep (nx':=nx) (h':=h1) (fun c hc=>?_) (Nat.le_refl _)).keep (Keep.refl _ _) (by omega);rw [hf c (by omega),hold (by omega)]
 refine (each1_c hn hv1 (by rw [hf nx (by omega),hnew]) ⟨hC,.nil,fun c e=>by cases e⟩ (by omega) (by omega) (by omega) (fun _ _=>rfl)).mono ?_;rintro _ h2 nx2 ⟨o,bo,C2,hb2,hf2,hle2⟩;refine ⟨o,C2.c,fun x=>⟨bo,C2.g.keep fun c e=>?_,fun c e=>⟨by have:=hb2 c e; omega,(C2.b c e).2.2⟩,fun c hc=>?_,by omega⟩⟩
 ·have:=C2.b c e;rw [hold (by omega)]
 ·rw [hold (by omega),hf2 c (by omega) (by omega) (by omega),hf c (by omega),hold (by omega)]
theorem zHb (gs:List GE) (a b:Nat):hasB (zCp gs) a b=(decide (a≠b)&&hasB gs a b):=by
 apply Bool.eq_iff_iff.2;rw [zBe,Bool.and_eq_true,zBe,decide_eq_true_iff];unfold zCp zCN;rw [List.map_id];constructor
 ·rintro ⟨g,hg,rfl,rfl⟩;have:=List.mem_filter.1 hg;exact ⟨of_decide_eq_true this.2,g,this.1,rfl,rfl⟩
 ·rintro ⟨hne,g,hg,rfl,rfl⟩;exact ⟨g,List.mem_filter.2 ⟨hg,decide_eq_true hne⟩,rfl,rfl⟩
theorem turn_has (gs:List GE) (a b:Nat):hasB (zJS gs) a b=hasB gs b a:=by
 apply Bool.eq_iff_iff.2;rw [zBe,zBe];unfold zJS zP2;constructor
 ·rintro ⟨g,hg,rfl,rfl⟩;obtain ⟨e,he,rfl⟩:=List.mem_map.1 hg;exact ⟨e,(List.mem_filter.1 he).1,rfl,rfl⟩
 ·rintro ⟨g,hg,rfl,rfl⟩;exact ⟨⟨g.t,g.f,g.w⟩,List.mem_map.2 ⟨g,List.mem_filter.2 ⟨hg,rfl⟩,rfl⟩,rfl,rfl⟩
theorem both_has {gs c1 ts c2:List GE} (h1:IsCan ((zCp gs).map gE) (c1.map gE)) (h2:IsCan ((zJS c1).map gE) (ts.map gE)) (h3:IsCan ((c1++ts).map gE) (c2.map gE)) (a b:Nat):hasB c2 a b=nb gs a b:=by
 rw [zJB h3,hasB_app,zJB h2,turn_has,zJB h1,zJB h1,zHb,zHb];unfold nb;rw [show decide (b≠a)=decide (a≠b) by simp [eq_comm],← Bool.and_or_distrib_left]
structure Sv where
 a:Option Addr
 n:Nat
 c:Nat
def encS (x:Sv):List Value:=[.slice x.a x.n x.c]
def SvIs (h:Hp) (lo hi:Nat) (bo:Option Nat) (x:Sv) (cs:List Value):Prop:=(cs=[]∧x=⟨none,0,0⟩)∨∃ b sp,x.a=some ⟨b,0,sp⟩∧x.n=cs.length∧lo≤b∧b<hi∧bo≠some b∧hget h b=some (.cells cs false)
structure Vs (h:Hp) (lo hi:Nat) (svs:List Sv) (css:List (List Value)) (o:Value) (bo:Option Nat):Prop where
 g:Ow h encS o svs bo
 b:∀ c,bo=some c→lo≤c∧c<hi
 len:svs.length=css.length
 s:∀ (i:Nat) x cs,svs[i]? = some x→css[i]? = some cs→SvIs h lo hi bo x cs
theorem Vs.nil {h:Hp} {lo hi:Nat}:Vs h lo hi [] [] (.slice none 0 0) none:=⟨.nil,fun c e=>(by cases e),rfl,fun i x cs h1 h2=>(by cases h1)⟩
theorem Vs.keep {h h':Hp} {lo hi hi':Nat} {svs:List Sv} {css:List (List Value)} {o:Value} {bo:Option Nat} (V:Vs h lo hi svs css o bo) (hk:∀ b,lo≤b→b<hi→hget h' b=hget h b) (hle:hi≤hi'):Vs h' lo hi' svs css o bo:=by
 refine ⟨V.g.keep fun c e=>hk c (V.b c e).1 (V.b c e).2,fun c e=>⟨(V.b c e).1,by have:=(V.b c e).2; omega⟩,V.len,fun i x cs h1 h2=>?_⟩;rcases V.s i x cs h1 h2 with e | ⟨b,sp,e1,e2,e3,e4,e5,e6⟩
 ·exact .inl e
 ·exact .inr ⟨b,sp,e1,e2,e3,by omega,e5,by rw [hk b e3 e4]; exact e6⟩
theorem Vs.add {h h':Hp} {lo hi nb hi':Nat} {svs:List Sv} {css:List (List Value)} {o o':Value} {bo:Option Nat} {x:Sv} {cs:List Value} (V:Vs h lo hi svs css o bo) (hx:SvIs h lo hi bo x cs) (hnb:hi≤nb) (hlo:lo≤hi) (hhi:nb<hi') (hg:Ow h' encS o' (svs++[x]) (some nb)) (hf:∀ c,c<hi→bo≠some c→lo≤c→hget h' c=hget h c) :
  Vs h' lo hi' (svs++[x]) (css++[cs]) o' (some nb):=by
 have up:∀ {x cs},SvIs h lo hi bo x cs→SvIs h' lo hi' (some nb) x cs:=fun {x cs} hs=>by
  rcases hs with e | ⟨b,sp,e1,e2,e3,e4,e5,e6⟩
  ·exact .inl e
  ·exact .inr ⟨b,sp,e1,e2,e3,by omega,fun e=>by cases e; omega,by rw [hf b e4 e5 e3]; exact e6⟩
 refine ⟨hg,fun c e=>by cases e; exact ⟨by omega,hhi⟩,by rw [List.length_append,List.length_append,V.len]; rfl,fun i y ds h1 h2=>?_⟩;rw [List.getElem?_append] at h1 h2;rw [← V.len] at h2
 split at h1
 ·rename_i hi
  rw [if_pos hi] at h2;exact up (V.s i y ds h1 h2)
 ·rename_i hi
  rw [if_neg hi] at h2;have h0:i-svs.length=0:=by
   rcases Nat.eq_zero_or_pos (i-svs.length) with h | h
   ·exact h
   ·rw [List.getElem?_eq_none (by show 1≤_; omega)] at h1; cases h1
  rw [h0] at h1 h2;cases h1; cases h2;exact up hx
def ByIs (h:Hp) (lo nx:Nat) (v:Value) (N:Nat) (f:Nat→Nat→Bool):Prop:=∃ b sp c ro os,v = .slice (some ⟨b,0,sp⟩) N c∧lo≤b∧b<nx∧hget h b=some (.cells os ro)∧os.length=N∧∀ i,i<N→∃ o,os[i]? = some o∧SlNw h lo nx o encU [mk N (f i)]
theorem ByIs.keep {h h':Hp} {lo lo' nx nx' N:Nat} {v:Value} {f:Nat→Nat→Bool} (B:ByIs h lo nx v N f) (hk:∀ b,lo≤b→b<nx→hget h' b=hget h b) (hl:lo'≤lo) (hle:nx≤nx'):ByIs h' lo' nx' v N f:=by
 obtain ⟨b,sp,c,ro,os,rfl,h0,h1,h2,h3,h4⟩:=B;refine ⟨b,sp,c,ro,os,rfl,by omega,by omega,by rw [hk b h0 h1]; exact h2,h3,fun i hi=>?_⟩;obtain ⟨o,e,hs⟩:=h4 i hi;exact ⟨o,e,hs.keep hk hl hle⟩
def anyN (f:Nat→Nat→Bool) (l:List Nat) (i:Nat):Bool:=l.any fun v=>f v i
def TcJ (N:Nat) (f:Nat→Nat→Bool) (vb vl:Value) (l:List Nat) (nx:Nat) (h:Hp) (m:Nat) (vs:List Value) (h':Hp) (nx':Nat):Prop :=
 ∃ (i:Nat) (o:Value),m=l.length-i∧i≤l.length∧vs=[vb,o,vl,.int .i64 (l.length:Int),.int .i64 (i:Int)]∧SetK (mk N (anyN f (l.take i))) nx h o h' nx'
theorem SetK.up {w nx nx1:Nat} {h h1:Hp} {r:Value} {h':Hp} {nx':Nat} (H:SetK w nx1 h1 r h' nx') (hk:Keep nx h h1) (hle:nx≤nx1):SetK w nx h r h' nx':=by
 obtain ⟨b,c,sp,rfl,e1,e2,e3,e4,e5⟩:=H;exact ⟨b,c,sp,rfl,by omega,e2,e3,hk.trans e4 hle,by omega⟩
theorem zJU {s:Bool} {N lo:Nat} {f:Nat→Nat→Bool} {vb vl:Value} {l:List Nat} {h:Hp} {nx:Nat} (h0:1≤N) (h1:N≤63) (hB:ByIs h lo nx vb N f) (hl:SlRd h nx vl encI (natI l)) (hln:∀ x∈l,x<N) (hlen:l.length<1000000):Cv Q O s 109 [.int .i64 (N:Int),vb,vl] h nx (SetK (mk N (anyN f l)) nx h):=by
 refine touchedv ?_;obtain ⟨a,cap,rfl,hc⟩:=id hl;obtain ⟨b,sp,c,ro,os,rfl,hb0,hb1,hb2,hb3,hb4⟩:=id hB;unfold zP4 cF iV nF;refine (zRi h0 (by omega)).mono ?_;rintro r h2 n2 hr;have hll:(natI l).length=l.length:=by unfold natI; rw [List.length_map]
 obtain ⟨b',c',sp',rfl,_⟩:=id hr;simp (disch:=omega) only [SS,seval];refine Lp.mk (TcJ N f (.slice (some ⟨b,0,sp⟩) N c) (.slice a (natI l).length cap) l nx h) l.length ⟨0,_,by omega,by omega,by rw [hll]; rfl,by rw [List.take_zero,show mk N (anyN f [])=0 from zI8 N]; exact hr⟩ ?_;rintro _ _ h3 nx3 ⟨i,o,rfl,hi,rfl,hS⟩;have hk3:Keep nx h h3:=by obtain ⟨_,_,_,_,_,_,_,e,_⟩:=hS; exact e
 have hle3:nx≤nx3:=by obtain ⟨_,_,_,_,_,_,_,_,e⟩:=hS; exact e
 rw [zP3];unfold zJT bF cF iV lF xF;simp (disch:=omega) only [SS,seval];refine ⟨fun hlt=>?_,fun hge=>?_⟩
 ·obtain ⟨x,hx⟩:=zj hlt;have hxI:(natI l)[i]? = some (x:Int):=by unfold natI; rw [List.getElem?_map,hx]; rfl
  obtain ⟨_,b2,sp2,ro2,c1,hb5,e1,hg2⟩:=hl.at hxI;cases e1;rw [zT] at hg2;have hxn:=hln x (List.mem_of_getElem? hx);obtain ⟨ox,hox,hsx⟩:=hb4 x hxn;simp (disch:=omega) only [SS,(hk3 b2 hb5).trans hg2,zg hxI,(hk3 b hb1).trans hb2,hox,seval];refine (zNW (p:=anyN f (l.take i)) (q:=f x) (by omega) hS.rd (hsx.rd.keep hk3 hle3)).mono ?_;intro r h4 n4 hr4;obtain ⟨b',c',sp',rfl,_⟩:=id hr4;simp (disch:=omega) only [SS,zZ (show i<1000000000000 by omega),seval];refine ⟨_,by omega,i+1,_,rfl,by omega,by rw [hll],?_⟩;have:(fun j=>anyN f (l.take i) j||f x j)=anyN f (l.take (i+1)):=by
   funext j
   unfold anyN;rw [List.take_add_one,hx,List.any_append];simp
  rw [← this];exact hr4.up hk3 hle3
 ·have:i=l.length:=by omega
  subst this;rw [List.take_length] at hS;exact hS
end Go.Proofs.YtcjochjiegiliaaGreat
