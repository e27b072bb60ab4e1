/- Parts of the proof: PqFn2: each statement bears its own conditions. -/
import Derived.Test.YtfebipifehfjlaaGreatPqFn1
namespace Go.Proofs.YtfebipifehfjlaaGreat
open Go Go.Ax
set_option linter.unusedVariables false
set_option linter.unusedSimpArgs false
set_option maxRecDepth 1000000
theorem es27:zE6 Tryz.prog 27=some 1:=by kernel_rfl
theorem zJl:∀ l:List Int,zg (ints l)=true
 | []=>rfl
 | x::l=>by show (zAh (.int .i64 x)&&zg (ints l))=true; rw [zJl l]; rfl
theorem copy_i {h:Hp} {nx b o l1 c1 b2 o2 l2 c2 k:Nat} {sp:Option Nat} {ro:Bool} {l l':List Int} (h1:hget h b=some (.cells (ints l) false)) (h2:hget h b2=some (.cells (ints l') ro)) (hk:Nat.min l2 l1=k) (k0:0<k) (hl':o2+k≤l'.length) (hl:o+k≤l.length) :
  zBh Tryz.prog .copy [27,27] h nx [.slice (some ⟨b,o,none⟩) l1 c1,.slice (some ⟨b2,o2,sp⟩) l2 c2] = .ok (.val (.int .i64 (k:Int)) (hset h b (.cells (ints (l.take o++(l'.drop o2).take k++l.drop (o+k))) false)) nx):=by
 show R.of "copy" (zE6 Tryz.prog 27) (fun s=>zNk s h nx (.slice (some ⟨b,o,none⟩) l1 c1) (.slice (some ⟨b2,o2,sp⟩) l2 c2))=_
 rw [es27]
 show zNk 1 h nx (.slice (some ⟨b,o,none⟩) l1 c1) (.slice (some ⟨b2,o2,sp⟩) l2 c2)=_
 unfold zNk
 simp only
 rw [hk,show Nat.mul k 1=k from Nat.mul_one k,zB9 h2 k0 (by rw [zAf]; omega)]
 have e:((ints l').drop o2).take k=ints ((l'.drop o2).take k):=by simp [ints]
 have hlen:((l'.drop o2).take k).length=k:=by rw [List.length_take,List.length_drop]; omega
 rw [e]
 generalize hm:(l'.drop o2).take k=m at hlen ⊢
 have hw:zAs h b o (ints m) = .ok (hset h b (.cells (ints (l.take o++m++l.drop (o+k))) false)):=by
  rw [zFR h1 (zJl m) (by rw [zAf,zAf]; omega)]
  simp [ints,hlen]
 match m,hlen with
 | [],h0=>simp at h0; omega
 | x::m,_ =>
  show R.bind (zAs h b o (ints (x::m))) _=_
  rw [hw]
  rfl
theorem sl_from {b n N:Nat} (h:n<N):vSl 1 (.slice (some ⟨b,0,none⟩) N N) (some (.int .i64 (n:Int))) none none = .ok (.slice (some ⟨b,n,none⟩) (N-n) (N-n)):=by
 show zCn 1 (some ⟨b,0,none⟩) N false N N n=_
 unfold zCn
 rw [show (Nat.ble N N&&(Nat.ble N N&&Nat.ble n N))=true by simp only [Bool.and_eq_true,Nat.ble_eq]; omega]
 show zDa 1 (some ⟨b,0,none⟩) false N N n=_
 unfold zDa
 rw [show Nat.beq N n=false by
  cases hb:Nat.beq N n with
  | false=>rfl
  | true=>exact absurd (Nat.eq_of_beq_eq_true hb) (by omega)]
 show R.ok (Value.slice (some ⟨b,0+n*1,none⟩) (N-n) (N-n))=_
 rw [Nat.zero_add,Nat.mul_one]
theorem sl_to {b n N:Nat} (h0:0<N) (h:n≤N):vSl 1 (.slice (some ⟨b,0,none⟩) N N) none (some (.int .i64 (n:Int))) none = .ok (.slice (some ⟨b,0,none⟩) n N):=by
 show zCn 1 (some ⟨b,0,none⟩) N false N n 0=_
 unfold zCn
 rw [show (Nat.ble N N&&(Nat.ble n N&&Nat.ble 0 n))=true by simp only [Bool.and_eq_true,Nat.ble_eq]; omega]
 show zDa 1 (some ⟨b,0,none⟩) false N n 0=_
 unfold zDa
 rw [show Nat.beq N 0=false by
  cases N with
  | zero=>omega
  | succ N=>rfl]
 rfl
def RepJ (b N:Nat) (x:Int) (nx:Nat) (h:Hp) (m:Nat) (vs:List Value) (h':Hp) (nx':Nat):Prop :=
 ∃ n,m=N-n∧1≤n∧n≤N∧vs=[.slice (some ⟨b,0,none⟩) N N,.int .i64 (n:Int)]∧hget h' b=some (.cells (ints (List.replicate n x++List.replicate (N-n) 0)) false)∧Keep nx h h'∧nx'=b+1
def RepK (N:Nat) (x:Int) (nx:Nat) (h:Hp):KC':=fun r h' nx'=>r = .slice (some ⟨nx,0,none⟩) N N∧hget h' nx=some (.cells (ints (List.replicate N x)) false)∧nx'=nx+1∧Keep nx h h'
theorem repe_c {s:Bool} {h:Hp} {nx N b2 o2 c2:Nat} {sp:Option Nat} {ro:Bool} {x:Int} {l:List Int} (h2:hget h b2=some (.cells (ints l) ro)) (hb2:b2<nx) (hx:l[o2]? = some x) (hN:0<N) (hN2:N≤23) :
  Cv Q O s 35 [.slice (some ⟨b2,o2,sp⟩) 1 c2,.int .i64 (N:Int)] h nx (RepK N x nx h):=by
 refine repev ?_
 unfold repe
 have hxl:=(List.getElem?_eq_some_iff.1 hx).1
 simp (disch:=omega) only [SS,↓reduceIte,Nat.reduceAdd,Nat.reduceSub,Nat.reduceMul,Nat.reduceLT,Nat.reduceLeDiff,Nat.reduceEqDiff,Int.reduceBEq,Int.reduceLT,Int.reduceNeg,zFy (show 1<1000000 by omega),zFy (show N<1000000 by omega)]
 refine ⟨fun h=>absurd h (by omega),fun _=>mul_c hN2 |>.mono ?_⟩
 rintro r hh nn ⟨rfl,e1,e2⟩
 rw [e1,e2]
 unfold zPM
 have r0:List.replicate N (Value.int .i64 0)=ints (List.replicate N 0):=by simp [ints]
 simp (disch:=omega) only [SS,↓reduceIte,Nat.reduceAdd,Nat.reduceSub,Nat.reduceMul,Nat.reduceLT,Nat.reduceLeDiff,Nat.reduceEqDiff,Int.reduceBEq,Int.reduceLT,Int.reduceNeg,zEh N (by omega),r0]
 intro _
 refine ⟨fun h=>absurd h (by omega),fun _=>?_⟩
 have c1:=copy_i (h:=hset h nx (.cells (ints (List.replicate N 0)) false)) (nx:=nx+1) (b:=nx) (o:=0) (l1:=N) (c1:=N) (b2:=b2) (o2:=o2) (l2:=1) (c2:=c2) (k:=1) (sp:=sp) (l':=l) (hnew _ _ _) (by rw [hold (by omega)]; exact h2) (Nat.min_eq_left (by omega)) (by omega) (by omega) (by simp; omega)
 have e3:(List.replicate N (0:Int)).take 0++(l.drop o2).take 1++(List.replicate N 0).drop (0+1)=List.replicate 1 x++List.replicate (N-1) 0:=by
  rw [List.drop_eq_getElem_cons hxl,(List.getElem?_eq_some_iff.1 hx).2]; simp
 rw [e3] at c1
 rw [show Q=Tryz.prog from rfl,c1]
 simp (disch:=omega) only [SS,↓reduceIte,Nat.reduceAdd,Nat.reduceSub,Nat.reduceMul,Nat.reduceLT,Nat.reduceLeDiff,Nat.reduceEqDiff,Int.reduceBEq,Int.reduceLT,Int.reduceNeg,orR,EK_v]
 refine Lp.mk (RepJ nx N x nx h) (N-1) ⟨1,rfl,by omega,by omega,rfl,by rw [hnew],fun c hc=>by rw [hold (by omega),hold (by omega)],rfl⟩ ?_
 rintro m _ h' _ ⟨n,rfl,hn1,hn2,rfl,hb,hk,rfl⟩
 rw [repeb0]
 unfold repel0
 simp (disch:=omega) only [SS,↓reduceIte,Nat.reduceAdd,Nat.reduceSub,Nat.reduceMul,Nat.reduceLT,Nat.reduceLeDiff,Nat.reduceEqDiff,Int.reduceBEq,Int.reduceLT,Int.reduceNeg]
 refine ⟨fun hlt=>?_,fun hge=>?_⟩
 ·rw [sl_from hlt,zW,sl_to hN (by omega),zW]
  have hlr:(List.replicate n x++List.replicate (N-n) (0:Int)).length=N:=by simp; omega
  obtain ⟨k,hk1⟩:∃ k,Nat.min n (N-n)=k:=⟨_,rfl⟩
  have hk2:k≤n∧k≤N-n∧0<k:=by
   have:min n (N-n)=k:=hk1
   omega
  have c2:=copy_i (h:=h') (nx:=nx+1) (b:=nx) (o:=n) (l1:=N-n) (c1:=N-n) (b2:=nx) (o2:=0) (l2:=n) (c2:=N) (k:=k) (sp:=none) (l':=List.replicate n x++List.replicate (N-n) 0) hb hb hk1 hk2.2.2 (by omega) (by omega)
  have e4:(List.replicate n x++List.replicate (N-n) (0:Int)).take n++((List.replicate n x++List.replicate (N-n) 0).drop 0).take k++(List.replicate n x++List.replicate (N-n) 0).drop (n+k)=List.replicate (n+k) x++List.replicate (N-(n+k)) 0:=by
   rw [List.drop_zero,List.take_append_of_le_length (by simp),List.take_append_of_le_length (by simp; omega),List.take_of_length_le (by simp),List.take_replicate,Nat.min_eq_left hk2.1]
   have e5:(List.replicate n x++List.replicate (N-n) (0:Int)).drop (n+k)=List.replicate (N-(n+k)) 0:=by
    rw [List.drop_append,List.length_replicate,List.drop_eq_nil_of_le (by simp),List.nil_append,Nat.add_sub_cancel_left,List.drop_replicate]
    congr 1; omega
   rw [e5,← List.replicate_append_replicate]
  rw [e4] at c2
  rw [show Q=Tryz.prog from rfl,c2]
  simp (disch:=omega) only [SS,↓reduceIte,Nat.reduceAdd,Nat.reduceSub,Nat.reduceMul,Nat.reduceLT,Nat.reduceLeDiff,Nat.reduceEqDiff,Int.reduceBEq,Int.reduceLT,Int.reduceNeg,orR,EK_v]
  have e6:IntKind.wrap .i64 ((n:Int)+(k:Int))=((n+k:Nat):Int):=wN (by omega)
  rw [e6]
  exact ⟨N-(n+k),by omega,n+k,rfl,by omega,by omega,rfl,hnew _ _ _,hk.set (by omega),rfl⟩
 ·have:n=N:=by omega
  subst this
  rw [Nat.sub_self,List.replicate_zero,List.append_nil] at hb
  exact ⟨rfl,hb,rfl,hk⟩
theorem gE_inj {a b:GE} (h:gE a=gE b):a=b:=by
 obtain ⟨f,t,w⟩:=a
 obtain ⟨f',t',w'⟩:=b
 have h1:((f:Int),(t:Int),w)=((f':Int),(t':Int),w'):=h
 simp only [Prod.mk.injEq] at h1
 obtain ⟨h1,h2,h3⟩:=h1
 have:f=f':=by omega
 have:t=t':=by omega
 simp_all
structure Can (gs cs:List GE):Prop where
 lea:∀ e∈gs,∃ e'∈cs,e'.f=e.f∧e'.t=e.t∧e'.w≤e.w
 sub:∀ e∈cs,e∈gs
 one:∀ e∈cs,∀ e'∈cs,e.f=e'.f→e.t=e'.t→e.w=e'.w
 up:cs.Pairwise fun a c=>a.f≤c.f
theorem Can.of {gs cs:List GE} (h:IsCan (gs.map gE) (cs.map gE)):Can gs cs:=by
 have sub:∀ e∈cs,e∈gs:=fun e he=>by
  have:=((h.rep.mem (gE e)).1 (List.mem_map_of_mem he)).1
  obtain ⟨e',he',e1⟩:=List.mem_map.1 this
  rw [← gE_inj e1]; exact he'
 refine ⟨fun e he=>?_,sub,fun e he e' he' h1 h2=>?_,?_⟩
 ·obtain ⟨z,hz,hE⟩:=h.rep.cov (gE e) (List.mem_map_of_mem he)
  obtain ⟨e',he',rfl⟩:=List.mem_map.1 hz
  have hl:=((h.rep.mem (gE e')).1 hz).2 (gE e) (List.mem_map_of_mem he) hE
  have h1:(e'.f:Int)=(e.f:Int):=hE.1
  have h2:(e'.t:Int)=(e.t:Int):=hE.2
  exact ⟨e',he',by omega,by omega,hl⟩
 ·have hE:Ends (gE e) (gE e'):=⟨by show (e.f:Int)=(e'.f:Int); omega,by show (e.t:Int)=(e'.t:Int); omega⟩
  have a1:=((h.rep.mem (gE e)).1 (List.mem_map_of_mem he)).2 (gE e') (List.mem_map_of_mem (sub e' he')) hE
  have a2:=((h.rep.mem (gE e')).1 (List.mem_map_of_mem he')).2 (gE e) (List.mem_map_of_mem (sub e he)) hE.symm
  have a1:e.w≤e'.w:=a1
  have a2:e'.w≤e.w:=a2
  omega
 ·have:=h.up
  rw [List.pairwise_map] at this
  refine this.imp fun {a c} hac=>?_
  have hac:((a.f:Int)<(c.f:Int))∨((a.f:Int)=(c.f:Int)∧_):=hac
  omega
theorem zId {gs cs cs':List GE} (h:IsCan (gs.map gE) (cs.map gE)) (h':IsCan (gs.map gE) (cs'.map gE)):cs=cs':=by
 have:=h.unique h'
 have key:∀ (a b:List GE),a.map gE=b.map gE→a=b:=by
  intro a
  induction a with
  | nil=>intro b h; cases b with | nil=>rfl | cons x b=>cases h
  | cons x a ih =>
   intro b h
   cases b with
   | nil=>cases h
   | cons y b =>
    rw [List.map_cons,List.map_cons] at h
    injection h with h1 h2
    rw [gE_inj h1,ih b h2]
 exact key _ _ this
def und (cs:List GE) (dn:Nat→Bool):Nat:=(cs.filter fun e=>!dn e.f).length
theorem zLd {dn:Nat→Bool} {v:Nat} (hv:dn v=false):∀ cs:List GE,und cs (fun u=>dn u||u == v)+(cs.filter fun e=>e.f == v).length=und cs dn
 | []=>rfl
 | e::cs=>by
  have ih:=zLd hv cs
  unfold und at ih ⊢
  by_cases h1:e.f=v
  ·simp [List.filter_cons,h1,hv]
   simp only [Bool.not_or] at ih
   omega
  ·have h2:(e.f == v)=false:=by simpa using h1
   cases h3:dn e.f <;> simp [List.filter_cons,h1,h2,h3] <;> simp only [Bool.not_or] at ih <;> omega
theorem dj_perm {inf:Int} {N s v:Nat} {d:Int} {cs:List GE} {l:List Int} {W W':List Stop} {dn:Nat→Bool} {ex:GE→Prop} (h:DjP inf N cs s v d l W dn ex) (hp:W'.Perm W):DjP inf N cs s v d l W' dn ex :=
 ⟨h.base.perm hp,h.own,h.dnv,h.cur,fun p hm=>h.key p (hp.mem_iff.1 hm)⟩
theorem dj_ex {inf:Int} {N s v:Nat} {d:Int} {cs:List GE} {l:List Int} {W:List Stop} {dn:Nat→Bool} {g:List GE} {j u:Nat} {e:GE} (he:g[j]? = some e) (h:DjP inf N cs s v d l W dn (fun e'=>(e'.f=u∧e' ∉ g.take j)∧e'≠e)):DjP inf N cs s v d l W dn (fun e'=>e'.f=u∧e' ∉ g.take (j+1)):=by
 have:(fun e':GE=>(e'.f=u∧e' ∉ g.take j)∧e'≠e)=(fun e'=>e'.f=u∧e' ∉ g.take (j+1)):=by
  funext e'
  rw [List.take_add_one,he]
  simp only [Option.toList_some,List.mem_append,List.mem_singleton,not_or,and_assoc]
 rw [← this]; exact h
abbrev inf:Int:=4611686018427387904
theorem zEn {i:Nat} {cs:List GE} {e:GE} (he:cs[i]? = some e):zAa (some 3) (i*3) (flat encG cs) = .ok (.agg ⟨[.int .i64 (e.f:Int),.int .i64 (e.t:Int),.int .i64 e.w]⟩):=by
 have hg:=zBe (enc:=encG) (k:=3) (fun _=>rfl) he
 have hi:=(List.getElem?_eq_some_iff.1 he).1
 rw [zBH,if_pos (by rw [zAG (k:=3) (fun _=>rfl)]; omega),hg]
 rfl
def FoundK (N:Nat) (gs:List GE) (sr:Nat) (nx:Nat) (h:Hp):KC':=fun r h' nx'=>∃ (b:Nat) (l:List Int),r = .slice (some ⟨b,0,none⟩) N N∧nx≤b∧b<nx'∧hget h' b=some (.cells (ints l) false)∧IsFar inf N gs sr l∧Keep nx h h'∧nx≤nx'
def OuJ (N sr bf bo nL:Nat) (a:Option Addr) (cap:Nat) (cs:List GE) (hL:Hp) (m:Nat) (vs:List Value) (h':Hp) (nx':Nat):Prop :=
 ∃ (i:Nat) (sv:List SV),m=cs.length-i∧i≤cs.length∧vs=[.int .i64 (sr:Int),.slice (some ⟨bf,0,none⟩) N N,.slice (some ⟨bo,0,none⟩) N N,.slice a cs.length cap,.int .i64 (cs.length:Int),.int .i64 (i:Int)]∧Lle encG 3 h' bo nL nx' sv (outE N (cs.take i))∧(∀ c,c<nL→c≠bo→hget h' c=hget hL c)∧nL≤nx'
structure FQ (N nA nB bf bo bc:Nat) (cs:List GE) (sv:List SV) (nx:Nat) (h:Hp) (h':Hp) (nx':Nat) (l:List Int) (W:List Stop):Prop where
 far:hget h' bf=some (.cells (ints l) false)
 L:Lle encG 3 h' bo nA nB sv (outE N cs)
 hp:Heap W
 keep:Keep nx h h'
 le:bc<nx'
def FJ1 (N sr nA nB bf bo bc:Nat) (cs:List GE) (sv:List SV) (nx:Nat) (h:Hp) (m:Nat) (vs:List Value) (h':Hp) (nx':Nat):Prop :=
 ∃ (l:List Int) (W:List Stop) (dn:Nat→Bool) (b cap:Nat) (sp:Option Nat) (cx:List Value),m=W.length+und cs dn∧m≤61∧vs=[.slice (some ⟨bf,0,none⟩) N N,.slice (some ⟨bo,0,none⟩) N N,.pointer (some ⟨bc,0,none⟩)] ∧
  WtAt h' bc b sp cap W cx∧nB≤b∧b<nx'∧DjI inf N cs sr l W dn (fun _=>False)∧FQ N nA nB bf bo bc cs sv nx h h' nx' l W
def FJ2 (N sr nA nB bf bo bc pa u c0:Nat) (d:Int) (cs g:List GE) (sv:List SV) (vg:Value) (dn:Nat→Bool) (nx:Nat) (h:Hp) (m:Nat) (vs:List Value) (h':Hp) (nx':Nat):Prop :=
 ∃ (j:Nat) (l:List Int) (W:List Stop) (b cap:Nat) (sp:Option Nat) (cx:List Value),m=g.length-j∧j≤g.length∧W.length≤c0+j∧vs=[.slice (some ⟨bf,0,none⟩) N N,.slice (some ⟨bo,0,none⟩) N N,.pointer (some ⟨bc,0,none⟩),.pointer (some ⟨pa,0,none⟩),vg,.int .i64 (g.length:Int),.int .i64 (j:Int)] ∧
  WtAt h' bc b sp cap W cx∧nB≤b∧b<nx'∧b≠pa∧pa<nx'∧hget h' pa=some (.cells [.int .i64 (u:Int),.int .i64 d] false)∧DjP inf N cs sr u d l W dn (fun e=>e.f=u∧e ∉ g.take j)∧FQ N nA nB bf bo bc cs sv nx h h' nx' l W
theorem found_c {gs:List GE} {N sr:Nat} {s:Bool} {h:Hp} {nx:Nat} {v:Value} (hv:SlPx h nx v encG gs) (hN:N≤23) (hsr:sr<N) (hok:∀ g∈gs,GOk N g) (hl:gs.length≤60) :
  Cv Q O s 31 [.agg ⟨[.int .i64 (N:Int),v]⟩,.int .i64 (sr:Int)] h nx (FoundK N gs sr nx h):=by
 refine foundv ?_
 obtain ⟨a,cap,rfl,hc⟩:=id hv
 unfold found
 simp (disch:=omega) only [SS,seval]
 have hr:=repe_c (s:=s) (N:=N) (h:=hset (hset h nx (.cells [.int .i64 (N:Int),.slice a gs.length cap] false)) (nx+1) (.cells [.int .i64 4611686018427387904] false)) (nx:=nx+1+1) (b2:=nx+1) (o2:=0) (c2:=1) (sp:=none) (x:=inf) (l:=[inf]) (hnew _ _ _) (by omega) rfl (by omega) hN
 refine hr.mono ?_
 rintro r h1 _ ⟨rfl,hb1,rfl,hk1⟩
 have g1:=hk1 nx (by omega)
 rw [hold (by omega),hnew] at g1
 simp (disch:=omega) only [SS,g1,hb1,seval]
 refine ⟨by simpa using hsr,?_⟩
 have k1:∀ {o1 o2:AObj},Keep nx h (hset (hset h1 (nx+1+1) o1) (nx+1+1+1) o2):=fun {o1 o2} b hb=>by rw [hold (by omega),hold (by omega),hk1 b (by omega),hold (by omega),hold (by omega)]
 refine (zLP (hv.keep k1 (show nx≤nx+1+1+1+1 by omega)) (by omega) hok hl).mono ?_
 rintro r h2 nA ⟨v2,cs,rfl,hcs,hcan,hcok,hcl,hk2,hle2⟩
 have C:=Can.of hcan
 have f2:=hk2 (nx+1+1) (by omega)
 have o2:=hk2 (nx+1+1+1) (by omega)
 rw [hold (by omega),hnew] at f2
 rw [hnew] at o2
 obtain ⟨a2,cap2,rfl,hc2⟩:=id hcs.nw
 simp (disch:=omega) only [SS,seval]
 refine Lp.mk (OuJ N sr (nx+1+1) (nx+1+1+1) nA a2 cap2 cs h2) cs.length ⟨0,List.replicate N (none,0),rfl,by omega,rfl,⟨?_,by omega,by simp [zCd],fun j s g hs hg=>.inl ?_,fun j k b nj nk hj=>?_,fun j nj hj=>?_⟩,fun c _ _=>rfl,Nat.le_refl _⟩ ?_
 ·rw [o2]; simp [svks,svK]
 ·simp only [List.getElem?_replicate] at hs
  rw [List.take_zero,outE_nil,List.getElem?_replicate] at hg
  split at hs
  ·rw [if_pos ‹_›] at hg; cases hs; cases hg; exact ⟨rfl,rfl⟩
  ·cases hs
 ·rw [List.getElem?_replicate] at hj; split at hj <;> cases hj
 ·rw [List.getElem?_replicate] at hj; split at hj <;> cases hj
 rintro m _ h3 nB ⟨i,sv,rfl,hi,rfl,L,hfr,hnB⟩
 rw [foundb0]
 unfold zQ0
 simp (disch:=omega) only [SS,seval]
 refine ⟨fun hlt=>?_,fun hge=>?_⟩
 ·obtain ⟨e,he⟩:=za hlt
  have hef:=(hcok e (List.mem_of_getElem? he)).1
  obtain ⟨b,sp,ro,hb1,hb2,rfl,hb⟩:=hc2 (fun e0=>by rw [e0] at hlt; exact absurd hlt (Nat.not_lt_zero _))
  have hb3:=(hfr b hb2 (by omega)).trans hb
  obtain ⟨sq,hs⟩:=za (l:=sv) (i:=e.f) (by rw [L.len,zCd]; exact hef)
  have hbo:=L.bel
  simp (disch:=omega) only [SS,hb3,zEn he,L.at_,zLh hs,seval]
  have hg:(outE N (cs.take i))[e.f]? = some ((cs.take i).filter fun x=>x.f == e.f):=zFh hef
  generalize hgd:((cs.take i).filter fun x=>x.f == e.f)=g at hg
  have hgl:g.length≤60:=by
   rw [← hgd]
   have:=List.length_filter_le (fun x:GE=>x.f == e.f) (cs.take i)
   have:=List.length_take_le i cs
   omega
  have hsb:∀ c,sq.1=some c→c<nB:=fun c hc=>by
   obtain ⟨s1,s2⟩:=sq
   have hc:s1=some c:=hc
   subst hc
   exact (L.below hs).2
  refine zL2 (enc:=encG) (k:=3) (fun _=>rfl) (fun _=>rfl) (by omega) ((L.gr hs hg).keep (fun c hc=>?_)) e (hnew _ _ _) rfl (by omega) fun h4 hn4 hf4=>?_
  ·have:=hsb c hc
   rw [hold (by omega),hold (by omega),hold (by omega)]
  have hx4:hget h4 nB=some (.cells [.int .i64 (e.f:Int),.int .i64 (e.t:Int),.int .i64 e.w] false):=by
   rw [hf4 nB (by omega) (fun e=>by have:=hsb nB e; omega),hold (by omega),hnew]
  have hf5:∀ c,c<nB→sq.1≠some c→hget h4 c=hget h3 c:=fun c hc hne=>by
   rw [hf4 c (by omega) hne,hold (by omega),hold (by omega),hold (by omega)]
  have L2:=L.keep (h':=hset (hset (hset h3 nB (.cells [.int .i64 0,.int .i64 0,.int .i64 0] false)) nB (.cells [.int .i64 (e.f:Int),.int .i64 (e.t:Int),.int .i64 e.w] false)) (nB+1) (.cells [.int .i64 (e.f:Int),.int .i64 (e.t:Int),.int .i64 e.w] false)) (hi':=nB+1+1) ?_ ?_ (by omega)
  obtain ⟨ho4,L3⟩:=L2.add (h':=h4) (nx':=nB+1+1+1) (by omega) (by omega) hs hg (v:=e) hn4 (fun c hc hne=>hf4 c (by omega) hne)
  ·simp (disch:=omega) only [SS,hx4,ho4,seval]
   refine ⟨by omega,by rw [svks_len,L.len,zCd]; exact hef,cs.length-(i+1),by omega,i+1,sv.set e.f (some (nB+1+1),g.length+1),rfl,by omega,by rw [zAK (by omega)],?_,fun c h1 h2=>?_,by omega⟩
   ·have e1:outE N (cs.take (i+1))=(outE N (cs.take i)).set e.f (g++[e]):=by
     rw [List.take_add_one,he,← hgd]; exact zPh hef
    rw [e1]
    have:=svks_set 3 sv e.f (some (nB+1+1),g.length+1)
    rw [← this] at L3
    exact L3
   ·rw [hold h2,hf5 c (by omega) (fun e0=>?_)]
    ·exact hfr c h1 h2
    ·obtain ⟨s1,s2⟩:=sq
     have e0:s1=some c:=e0
     subst e0
     have:=(L.below hs).1
     omega
  ·rw [hold (by omega),hold (by omega),hold (by omega)]
  ·intro c h1 h2
   rw [hold (by omega),hold (by omega),hold (by omega)]
 have hie:i=cs.length:=by omega
 subst hie
 rw [List.take_length] at L
 have f3:=(hfr (nx+1+1) (by omega) (by omega)).trans f2
 have k3:Keep nx h h3:=fun c hc=>by
  rw [hfr c (by omega) (by omega),hk2 c (by omega)]
  exact k1 c hc
 have hbo:=L.bel
 clear hfr hk2 o2 f2 k1 hb1 hc2 hcs hcan
 have hG:∀ e∈cs,e.f<N∧e.t<N∧0≤e.w:=fun e he=>⟨(hcok e he).1,(hcok e he).2.1,(hcok e he).2.2.1⟩
 refine Lp.mk (FJ1 N sr nA nB (nx+1+1) (nx+1+1+1) (nB+1) cs sv nx h) (1+und cs fun _=>false) ⟨(List.replicate N inf).set sr 0,[(sr,0)],fun _=>false,nB,1,none,[],rfl,?_,rfl,⟨hnew _ _ _,?_,rfl,.inl rfl,by omega⟩,Nat.le_refl _,by omega,DjI.init (by decide) hsr,⟨?_,L.keep ?_ (fun b h1 h2=>?_) (Nat.le_refl _),⟨fun c x y h1 h2 h3=>?_⟩,?_,by omega⟩⟩ ?_
 ·have:und cs (fun _=>false)≤cs.length:=List.length_filter_le _ _
  omega
 ·rw [hold (by omega),hnew]; rfl
 ·rw [hold (by omega),hold (by omega)]; exact f3
 ·rw [hold (by omega),hold (by omega)]
 ·rw [hold (by omega),hold (by omega)]
 ·have:=(List.getElem?_eq_some_iff.1 h3).1
  simp at this; omega
 ·intro c hc; rw [hold (by omega),hold (by omega)]; exact k3 c hc
 rintro m _ h4 nx4 ⟨l,W,dn,b,cap4,sp4,cx,rfl,hm61,rfl,w,hb1,hb2,D,F⟩
 rw [foundb1]
 unfold zQZ
 simp (disch:=omega) only [SS,w.cell,seval]
 refine slen_c.mono ?_
 rintro r hh nn ⟨rfl,e1,e2⟩
 rw [e1,e2]
 have hC2:∀ {l:List Int},IsFar inf N cs sr l→IsFar inf N gs sr l:=fun h=>IsFar.of_least C.lea C.sub h
 by_cases hW0:W.length=0
 ·have hW:W=[]:=List.eq_nil_of_length_eq_zero hW0
  subst hW
  simp (disch:=omega) only [SS,seval]
  refine ⟨fun h=>absurd h (by simp),fun _=>?_⟩
  exact ⟨nx+1+1,l,rfl,by omega,by omega,F.far,hC2 (D.done hG),F.keep,by have:=F.le; omega⟩
 obtain ⟨p,hp⟩:=za (l:=W) (i:=0) (by omega)
 have r0:zAa (some 2) 0 (flat encW W++cx) = .ok (.agg ⟨[.int .i64 (p.1:Int),.int .i64 p.2]⟩):=by
  have:=wt_rd (cs:=cx) hp
  rwa [Nat.zero_mul] at this
 have hle4:=F.le
 have hpos:(0:Int)<(W.length:Int):=by omega
 simp (disch:=omega) only [SS,w.cell,w.blk,r0,hpos,show 0<W.length by omega,seval]
 have w1:WtAt (hset (hset h4 nx4 (.cells [.int .i64 0,.int .i64 0] false)) nx4 (.cells [.int .i64 (p.1:Int),.int .i64 p.2] false)) (nB+1) b sp4 cap4 W cx:=⟨by rw [hold (by omega),hold (by omega)]; exact w.cell,by rw [hold (by omega),hold (by omega)]; exact w.blk,w.len,w.spt,w.ne⟩
 refine ⟨?_,fun h=>absurd trivial h⟩
 refine (hpop_c w1 (by omega) (by omega) (by omega) F.hp hp).mono ?_
 rintro r h5 nx5 ⟨cx5,W5,w5,hH5,hP5,hle5,hf5⟩
 have gp:=hf5 nx4 (by omega) (by omega) (by omega)
 rw [hnew] at gp
 have far5:=(hf5 (nx+1+1) (by omega) (by omega) (by omega)).trans ((hold (by omega)).trans ((hold (by omega)).trans F.far))
 have hpN:=(D.itm p (List.mem_of_getElem? hp)).1
 obtain ⟨x,hx⟩:=za (l:=l) (i:=p.1) (by rw [D.len]; exact hpN)
 have D5:=D.perm hP5
 have F5:FQ N nA nB (nx+1+1) (nx+1+1+1) (nB+1) cs sv nx h h5 nx5 l W5:=⟨far5,F.L.keep (by rw [hf5 _ (by omega) (by omega) (by omega),hold (by omega),hold (by omega)]) (fun c h1 h2=>by rw [hf5 c (by omega) (by omega) (by omega),hold (by omega),hold (by omega)]) (Nat.le_refl _),hH5,fun c hc=>by rw [hf5 c (by omega) (by omega) (by omega),hold (by omega),hold (by omega)]; exact F.keep c hc,by omega⟩
 have hl5:=hP5.length_eq
 rw [List.length_cons] at hl5
 simp (disch:=omega) only [SS,gp,far5,zR hx,seval]
 refine ⟨fun hlt=>⟨W5.length+und cs dn,by omega,l,W5,dn,b,cap4,sp4,cx5,rfl,by omega,rfl,w5,hb1,by omega,D5.late hx hlt,F5⟩,fun hge=>?_⟩
 have hxp:x=p.2:=by have:=(D.itm p (List.mem_of_getElem? hp)).2.2.2 x hx; omega
 subst hxp
 obtain ⟨hdn,DB⟩:=D5.begin hx (fun q hq=>Heap.min F.hp hp q (hP5.mem_iff.1 (List.mem_cons_of_mem _ hq)))
 have hund:=zLd hdn cs
 obtain ⟨u,d⟩:=p
 obtain ⟨sq,hs⟩:=za (l:=sv) (i:=u) (by rw [L.len,zCd]; exact hpN)
 have hg:(outE N cs)[u]? = some (cs.filter fun e=>e.f == u):=zFh hpN
 have GL:=F5.L.gr hs hg
 simp only at hund gp hx DB
 simp (disch:=omega) only [SS,F5.L.at_,zLh hs,GL.lens,seval]
 generalize hgd:(cs.filter fun e=>e.f == u)=g at *
 have hgm:∀ e∈g,e∈cs∧e.f=u:=fun e he=>by
  rw [← hgd] at he
  obtain ⟨h1,h2⟩:=List.mem_filter.1 he
  exact ⟨h1,by simpa using h2⟩
 have hgl:g.length≤60:=by
  rw [← hgd]
  have:=List.length_filter_le (fun x:GE=>x.f == u) cs
  omega
 refine Lp.mk (FJ2 N sr nA nB (nx+1+1) (nx+1+1+1) (nB+1) nx4 u W5.length d cs g sv (svK 3 sq) (fun v=>dn v||v == u) nx h) g.length ⟨0,l,W5,b,cap4,sp4,cx5,rfl,by omega,by omega,rfl,w5,hb1,by omega,by omega,by omega,gp,by simpa using DB,F5⟩ ?_
 have hd:=(D.itm (u,d) (List.mem_of_getElem? hp))
 have hd1:d<inf:=hd.2.1
 have hd0:0≤d:=by obtain ⟨k,hw⟩:=hd.2.2.1; exact hw.nonneg fun e he=>(hG e he).2.2
 clear F5 w5 DB D5 F w D far5 gp GL hf5 w1 r0 hx hge hP5 hH5 hp
 rintro m _ h6 nx6 ⟨j,l,W,b,cap6,sp6,cx,rfl,hj,hWj,rfl,w,hb1,hb2,hbp,hpn,gp,D,F⟩
 rw [foundb2]
 unfold zQY
 simp (disch:=omega) only [SS,seval]
 refine ⟨fun hlt=>?_,fun hge=>?_⟩
 ·obtain ⟨e,he⟩:=za hlt
  obtain ⟨hec,hef⟩:=hgm e (List.mem_of_getElem? he)
  have heok:=hcok e hec
  rcases F.L.each u sq g hs hg with ⟨e0,_⟩ | ⟨bg,hbg1,hbg2,rfl,hbg⟩
  ·rw [e0] at hlt; simp at hlt
  have hle6:=F.le
  obtain ⟨y,hy⟩:=za (l:=l) (i:=e.t) (by rw [D.base.len]; exact heok.2.1)
  have hwr:IntKind.wrap .i64 (d+e.w)=d+e.w:=zAZ (by have:=heok.2.2.1; omega) (by have:=heok.2.2.2; unfold inf at hd1; omega)
  have hlN:=D.base.len
  have het:e.t<N:=heok.2.1
  simp only [svK]
  simp (disch:=omega) only [SS,hbg,zEn he,gp,F.far,zR hy,hwr,seval]
  have W1:∀ {l':List Int},WtAt (hset (hset (hset h6 nx6 (.cells [.int .i64 0,.int .i64 0,.int .i64 0] false)) nx6 (.cells [.int .i64 (e.f:Int),.int .i64 (e.t:Int),.int .i64 e.w] false)) (nx+1+1) (.cells (ints l') false)) (nB+1) b sp6 cap6 W cx:=fun {l'}=>⟨by rw [hold (by omega),hold (by omega),hold (by omega)]; exact w.cell,by rw [hold (by omega),hold (by omega),hold (by omega)]; exact w.blk,w.len,w.spt,w.ne⟩
  refine ⟨fun hlt2=>?_,fun hge2=>?_⟩
  ·refine ⟨by omega,?_⟩
   refine (hpush_c W1 (by omega) (by omega) (by omega) F.hp).mono ?_
   rintro r h7 nx7 ⟨b7,sp7,cap7,cx7,W7,w7,⟨hH7,hP7⟩,hb7,hb7',hle7,hf7⟩
   have fr:∀ c,c<nx6→c≠b→c≠nB+1→c≠nx+1+1→hget h7 c=hget h6 c:=fun c h1 h2 h3 h4=>by rw [hf7 c (by omega) h2 h3,hold h4,hold (by omega),hold (by omega)]
   have hl7:=hP7.length_eq
   rw [List.length_append,List.length_singleton] at hl7
   have D7:=dj_ex he (dj_perm (D.push hG hec hef hy hlt2) (W':=W7) (hP7.trans (List.perm_append_comm (l₁:=W) (l₂:=[(e.t,d+e.w)]))))
   refine ⟨g.length-(j+1),by omega,j+1,l.set e.t (d+e.w),W7,b7,cap7,sp7,cx7,rfl,by omega,by omega,by rw [zAK (by omega)],w7,by omega,hb7',by omega,by omega,by rw [fr nx4 (by omega) (by omega) (by omega) (by omega)]; exact gp,D7,?_,?_,hH7,?_,by omega⟩
   ·rw [hf7 _ (by omega) (by omega) (by omega),hnew]
   ·exact F.L.keep (fr _ (by omega) (by omega) (by omega) (by omega)) (fun c h1 h2=>fr c (by omega) (by omega) (by omega) (by omega)) (Nat.le_refl _)
   ·intro c hc; rw [fr c (by omega) (by omega) (by omega) (by omega)]; exact F.keep c hc
  ·have fr:∀ c,c<nx6→hget (hset (hset h6 nx6 (.cells [.int .i64 0,.int .i64 0,.int .i64 0] false)) nx6 (.cells [.int .i64 (e.f:Int),.int .i64 (e.t:Int),.int .i64 e.w] false)) c=hget h6 c:=fun c h1=>by rw [hold (by omega),hold (by omega)]
   have D7:=dj_ex he (D.skip hef hy (by omega))
   exact ⟨g.length-(j+1),by omega,j+1,l,W,b,cap6,sp6,cx,rfl,by omega,by omega,by rw [zAK (by omega)],⟨by rw [fr _ (by omega)]; exact w.cell,by rw [fr _ (by omega)]; exact w.blk,w.len,w.spt,w.ne⟩,by omega,by omega,by omega,by omega,by rw [fr _ (by omega)]; exact gp,D7,⟨by rw [fr _ (by omega)]; exact F.far,F.L.keep (fr _ (by omega)) (fun c h1 h2=>fr c (by omega)) (Nat.le_refl _),F.hp,fun c hc=>by rw [fr _ (by omega)]; exact F.keep c hc,by omega⟩⟩
 ·have:j=g.length:=by omega
  subst this
  rw [List.take_length] at D
  have DE:=D.end_ fun e he hh=>hh.2 (by rw [← hgd]; exact List.mem_filter.2 ⟨he,by simpa using hh.1⟩)
  exact ⟨W.length+und cs (fun v=>dn v||v == u),by omega,l,W,_,b,cap6,sp6,cx,rfl,by omega,rfl,w,hb1,hb2,DE,F⟩
def frG (g:GE):Edg3:=((g.f:Int),(g.t:Int),g.w)
theorem zM6:∀ l:List GE,flat encG l=flat enc3 (l.map frG)
 | []=>rfl
 | x::l=>by show encG x++flat encG l=enc3 (frG x)++flat enc3 (l.map frG); rw [zM6 l]; rfl
theorem px_fr {h:Hp} {nx:Nat} {v:Value} {gs:List GE} (hv:SlPx h nx v encG gs):SlPx h nx v enc3 (gs.map frG):=by
 obtain ⟨a,cap,rfl,hc⟩:=hv
 refine ⟨a,cap,by rw [List.length_map],fun hl=>?_⟩
 obtain ⟨b,sp,ro,cs,h1,h2,h3⟩:=hc (fun e=>hl (by rw [e]; rfl))
 exact ⟨b,sp,ro,cs,h1,h2,by rw [← zM6]; exact h3⟩
theorem zPD {gs:List GE} {N:Nat} (hN:N≤23) (hok:∀ g∈gs,GOk N g) (hl:gs.length≤60):zMv (N:Int) (gs.map frG):=by
 refine ⟨by omega,by omega,by rw [List.length_map]; omega,fun e he hb=>?_,fun e he hb=>?_⟩
 ·obtain ⟨g,hg,rfl⟩:=List.mem_map.1 he
  obtain ⟨h1,h2,_⟩:=hok g hg
  have hb:(g.f:Int)<0∨(N:Int)≤g.f∨(g.t:Int)<0∨(N:Int)≤g.t:=hb
  omega
 ·obtain ⟨g,hg,rfl⟩:=List.mem_map.1 he
  obtain ⟨_,_,h1,h2⟩:=hok g hg
  have hb:g.w<0∨2147483647<g.w:=hb
  omega
def ZeroK (nx:Nat) (h:Hp):KC':=fun r h' nx'=>r = .int .i64 0∧Keep nx h h'∧nx≤nx'
theorem zPC {s:Bool} {gs:List GE} {N:Nat} {h:Hp} {nx:Nat} {v:Value} (hv:SlPx h nx v encG gs) (hN:N≤23) (hok:∀ g∈gs,GOk N g) (hl:gs.length≤60):Cv Q O s 32 [.agg ⟨[.int .i64 (N:Int),v]⟩] h nx (ZeroK nx h) :=
 (right_g (px_fr hv)).mono fun r h' nx' ⟨e,h1,h2,h3,h4⟩=>⟨by rw [h1,h2.2 (zPD hN hok hl)],h3,h4⟩
theorem zIK {s:Bool} {gs:List GE} {N:Nat} {h:Hp} {nx:Nat} {v:Value} (hv:SlPx h nx v encG gs) (hN:N≤23) (hok:∀ g∈gs,GOk N g) (hl:gs.length≤60):Cv Q O s 27 [.agg ⟨[.int .i64 (N:Int),v]⟩] h nx (ZeroK nx h) :=
 (rright_g (px_fr hv)).mono fun r h' nx' ⟨e,h1,h2,h3,h4⟩=>⟨by rw [h1,h2.2 (zPD hN hok hl)],h3,h4⟩
def BoolK (b:Bool) (nx:Nat) (h:Hp):KC':=fun r h' nx'=>r = .bool b∧Keep nx h h'∧nx≤nx'
theorem zMD {s:Bool} {gs:List GE} {N:Nat} {x:Int} {h:Hp} {nx:Nat} {v:Value} (hv:SlPx h nx v encG gs) (hN:N≤23) (hok:∀ g∈gs,GOk N g) (hl:gs.length≤60) :
  Cv Q O s 25 [.agg ⟨[.int .i64 (N:Int),v]⟩,.int .i64 x] h nx (BoolK (decide (0≤x∧x<(N:Int))) nx h):=by
 refine prightv ?_
 obtain ⟨a,cap,rfl,hc⟩:=id hv
 unfold zPY
 simp (disch:=omega) only [SS,seval]
 refine (zPC (hv.keep (fun b hb=>hold (by omega)) (Nat.le_succ _)) hN hok hl).mono ?_
 rintro r h1 nx1 ⟨rfl,hk,hle⟩
 have g1:=hk nx (by omega)
 rw [hnew] at g1
 have K1:Keep nx h h1:=fun b hb=>by rw [hk b (by omega),hold (by omega)]
 simp (disch:=omega) only [SS,g1,seval]
 refine ⟨fun h0=>⟨?_,K1,by omega⟩,fun h0=>⟨?_,K1,by omega⟩⟩
 ·congr 1; simp only [decide_eq_decide]; omega
 ·have:¬ (0≤x∧x<(N:Int)):=by omega
  simp [this]
theorem zMH {s:Bool} {gs:List GE} {N sr:Nat} {D l:List Int} {h:Hp} {nx:Nat} {v vl:Value} (hv:SlPx h nx v encG gs) (hvl:SlRd h nx vl encI l) (hN:N≤23) (hsr:sr<N) (hok:∀ g∈gs,GOk N g) (hl:gs.length≤60) (hD:IsFar inf N gs sr D) :
  Cv Q O s 12 [.agg ⟨[.int .i64 (N:Int),v]⟩,.int .i64 (sr:Int),vl] h nx (BoolK (decide (D=l)) nx h):=by
 refine pcheckv ?_
 obtain ⟨a,cap,rfl,hc⟩:=id hv
 unfold zPf
 simp (disch:=omega) only [SS,seval]
 refine (zMD (hv.keep (fun b hb=>hold (by omega)) (Nat.le_succ _)) hN hok hl).mono ?_
 rintro r h1 nx1 ⟨rfl,hk,hle⟩
 have g1:=hk nx (by omega)
 rw [hnew] at g1
 have K1:Keep nx h h1:=fun b hb=>by rw [hk b (by omega),hold (by omega)]
 simp (disch:=omega) only [SS,g1,seval]
 refine ⟨fun _=>?_,fun h0=>absurd ⟨by omega,hsr⟩ h0⟩
 refine (found_c (hv.keep K1 (by omega)) hN hsr hok hl).mono ?_
 rintro r h2 nx2 ⟨b,l',rfl,hb1,hb2,hb,hF,hk2,hle2⟩
 have e:=hF.unique hD
 subst e
 have K2:=K1.trans hk2 (by omega)
 have hlen:=hF.len
 have hv':SlRd h2 nx2 (.slice (some ⟨b,0,none⟩) N N) encI l':=⟨some ⟨b,0,none⟩,N,by rw [hlen],fun _=>⟨b,none,false,hb2,rfl,by rw [zY]; exact hb⟩⟩
 refine (eq64_cv hv' (hvl.keep K2 (by omega)) (by omega)).mono ?_
 rintro r h3 nx3 ⟨rfl,rfl,rfl⟩
 exact ⟨rfl,K2,by omega⟩
def RfJ0 (N sr nx:Nat) (h2:Hp) (m:Nat) (vs:List Value) (h':Hp) (nx':Nat):Prop :=
 ∃ (i:Nat) (o:Value),m=N-i∧i≤N∧vs=[.int .i64 (sr:Int),.pointer (some ⟨nx,0,none⟩),o,.int .i64 (i:Int)]∧SlAt h' o encI 1 (List.replicate i inf) (nx+1) nx'∧Keep (nx+1) h2 h'∧nx+1≤nx'
def RfJ1 (N sr nx b:Nat) (gs:List GE) (D:List Int) (h2:Hp) (m:Nat) (vs:List Value) (h':Hp) (nx':Nat):Prop :=
 ∃ (k:Nat) (l:List Int),m=N-k∧k≤N∧vs=[.pointer (some ⟨nx,0,none⟩),.slice (some ⟨b,0,some 1⟩) N N,.int .i64 (k:Int)]∧hget h' b=some (.cells (ints l) false)∧BfR inf N gs sr D k l∧Keep (nx+1) h2 h'∧b<nx'
def RfJ2 (N sr nx b k:Nat) (gs:List GE) (l0:List Int) (h2:Hp) (m:Nat) (vs:List Value) (h':Hp) (nx':Nat):Prop :=
 ∃ (i:Nat) (l:List Int),m=gs.length-i∧i≤gs.length∧vs=[.pointer (some ⟨nx,0,none⟩),.slice (some ⟨b,0,some 1⟩) N N,.int .i64 (k:Int),.int .i64 (i:Int)]∧hget h' b=some (.cells (ints l) false)∧BfI inf N gs sr l0 i l∧Keep (nx+1) h2 h'∧b<nx'
def FarK (N:Nat) (D:List Int) (nx:Nat) (h:Hp):KC':=fun r h' nx'=>∃ b,r = .slice (some ⟨b,0,some 1⟩) N N∧nx≤b∧b<nx'∧hget h' b=some (.cells (ints D) false)∧Keep nx h h'∧nx≤nx'
theorem rfar_c {s:Bool} {gs:List GE} {N sr:Nat} {D:List Int} {h:Hp} {nx:Nat} {v:Value} (hv:SlPx h nx v encG gs) (hN:N≤23) (hsr:sr<N) (hok:∀ g∈gs,GOk N g) (hl:gs.length≤60) (hD:IsFar inf N gs sr D) :
  Cv Q O s 20 [.agg ⟨[.int .i64 (N:Int),v]⟩,.int .i64 (sr:Int)] h nx (FarK N D nx h):=by
 refine rfarv ?_
 obtain ⟨a,cap,rfl,hc⟩:=id hv
 have hG:∀ e∈gs,e.f<N∧e.t<N∧0≤e.w:=fun e he=>⟨(hok e he).1,(hok e he).2.1,(hok e he).2.2.1⟩
 unfold rfar
 simp (disch:=omega) only [SS,seval]
 refine Lp.mk (RfJ0 N sr nx (hset h nx (.cells [.int .i64 (N:Int),.slice a gs.length cap] false))) N ⟨0,_,rfl,by omega,rfl,.inl ⟨rfl,rfl⟩,Keep.refl _ _,Nat.le_refl _⟩ ?_
 rintro m _ h2 nx2 ⟨i,o,rfl,hi,rfl,S,hk,hle⟩
 have g1:=hk nx (by omega)
 rw [hnew] at g1
 rw [rfarb0]
 unfold rfarl0
 simp (disch:=omega) only [SS,g1,seval]
 refine ⟨fun hlt=>?_,fun hge=>?_⟩
 ·refine zIl (enc:=encI) (k:=1) (lo:=nx+1) (fun _=>rfl) (fun _=>rfl) (by omega) (S.keep (fun b h1 h2=>hold (by omega)) (by omega)) (by omega) inf (hnew _ _ _) rfl (by simp; omega) fun v3 h3 hs3 hk3=>?_
  rw [← List.replicate_succ'] at hs3
  show ∃ m',_∧_
  exact ⟨N-(i+1),by omega,i+1,_,rfl,by omega,by rw [zAK (by omega)],hs3,fun b hb=>by rw [hk3 b (by omega),hold (by omega)]; exact hk b hb,by omega⟩
 have hiN:i=N:=by omega
 subst hiN
 rcases S with ⟨e,_⟩ | ⟨b,hb1,hb2,rfl,hb⟩
 ·have:=congrArg List.length e; simp at this; omega
 rw [zY] at hb
 simp only [List.length_replicate]
 simp (disch:=omega) only [SS,hb,List.length_replicate,seval]
 refine ⟨hsr,?_⟩
 refine Lp.mk (RfJ1 i sr nx b gs D (hset h nx (.cells [.int .i64 (i:Int),.slice a gs.length cap] false))) i ⟨0,_,rfl,by omega,rfl,hnew _ _ _,BfR.init (by decide) hsr hG hD,hk.set (by omega),hb2⟩ ?_
 rintro m _ h3 nx3 ⟨k,l0,rfl,hk0,rfl,hb3,B,hk3,hle3⟩
 have g3:=hk3 nx (by omega)
 rw [hnew] at g3
 rw [rfarb1]
 unfold rfarl1
 simp (disch:=omega) only [SS,g3,seval]
 refine ⟨fun hlt=>?_,fun hge=>?_⟩
 ·refine Lp.mk (RfJ2 i sr nx b k gs l0 (hset h nx (.cells [.int .i64 (i:Int),.slice a gs.length cap] false))) gs.length ⟨0,l0,rfl,by omega,rfl,hb3,BfI.start B,hk3,hle3⟩ ?_
  have hl0:=(BfI.start B).len
  rintro m _ h4 nx4 ⟨j,l,rfl,hj,rfl,hb4,I,hk4,hle4⟩
  have g4:=hk4 nx (by omega)
  rw [hnew] at g4
  rw [rfarb2]
  unfold rfarl2
  simp (disch:=omega) only [SS,g4,seval]
  refine ⟨fun hlt2=>?_,fun hge2=>?_⟩
  ·obtain ⟨e,he⟩:=za hlt2
   have heok:=hok e (List.mem_of_getElem? he)
   have hef:e.f<i:=heok.1
   have het:e.t<i:=heok.2.1
   obtain ⟨_,be,sp,ro,cap',cs',hbe,hveq,hbh⟩:=hv.at he
   cases hveq
   have hbe4:=(hk4 be (by omega)).trans ((hold (by omega)).trans hbh)
   obtain ⟨x,hx⟩:=za (l:=l) (i:=e.f) (by rw [I.len]; exact hef)
   obtain ⟨y,hy⟩:=za (l:=l) (i:=e.t) (by rw [I.len]; exact het)
   have hll:=I.len
   have hrd:zAa (some 3) (j*3) (flat encG gs++cs') = .ok (.agg ⟨[.int .i64 (e.f:Int),.int .i64 (e.t:Int),.int .i64 e.w]⟩):=rdP (enc:=encG) (k:=3) (fun _=>rfl) he (cs:=cs')
   have hx0:0≤x:=by
    rcases I.wit _ _ hx with h | ⟨_,k,w⟩
    ·rw [h]; decide
    ·exact w.nonneg fun e he=>(hG e he).2.2
   simp (disch:=omega) only [SS,hbe4,hrd,hb4,zR hx,zR hy,seval]
   have fin:∀ {H2:Hp} (l':List Int) (h':Hp) (nx':Nat),hget h' b=some (.cells (ints l') false)→BfI inf i gs sr l0 (j+1) l'→Keep (nx+1) H2 h'→b<nx' →
     ∃ m',m'<gs.length-j∧RfJ2 i sr nx b k gs l0 H2 m' [.pointer (some ⟨nx,0,none⟩),.slice (some ⟨b,0,some 1⟩) i i,.int .i64 (k:Int),.int .i64 (IntKind.wrap .i64 ((j:Int)+1))] h' nx':=fun l' h' nx' a1 a2 a3 a4 =>
    ⟨gs.length-(j+1),by omega,j+1,l',rfl,by omega,by rw [zAK (by omega)],a1,a2,a3,a4⟩
   have hb5:∀ {o1 o2:AObj},hget (hset (hset h4 nx4 o1) nx4 o2) b=some (.cells (ints l) false):=fun {o1 o2}=>by rw [hold (by omega),hold (by omega)]; exact hb4
   refine ⟨fun hxi=>?_,fun hxi=>?_⟩
   ·have hwr:IntKind.wrap .i64 (x+e.w)=x+e.w:=zAZ (by have:=heok.2.2.1; omega) (by have:=heok.2.2.2; omega)
    simp (disch:=omega) only [SS,hwr,seval]
    refine ⟨fun hlt3=>⟨by omega,?_⟩,fun hge3=>?_⟩
    ·unfold zH1
     simp (disch:=omega) only [SS,seval]
     exact fin _ _ _ (hnew _ _ _) (I.set he hx hy hxi hlt3 heok.2.2.1 hl0 (fun e he=>(hG e he).2.2)) (((hk4.set (by omega)).set (by omega)).set (by omega)) (by omega)
    ·unfold zH1
     simp (disch:=omega) only [SS,seval]
     exact fin l _ _ hb5 (I.skip he (fun x' y' h1 h2 _=>by rw [hx] at h1; rw [hy] at h2; cases h1; cases h2; omega) hl0) ((hk4.set (by omega)).set (by omega)) (by omega)
   ·unfold zH1
    simp (disch:=omega) only [SS,seval]
    exact fin l _ _ hb5 (I.skip he (fun x' y' h1 h2 h3=>by rw [hx] at h1; cases h1; exact absurd h3 hxi) hl0) ((hk4.set (by omega)).set (by omega)) (by omega)
  ·have:j=gs.length:=by omega
   subst this
   exact ⟨i-(k+1),by omega,k+1,l,rfl,by omega,by rw [zAK (by omega)],hb4,BfR.step (by decide) hsr hG hD B I,hk4,hle4⟩
 ·have:k=i:=by omega
  subst this
  have e:=B.done
  subst e
  exact ⟨b,rfl,by omega,hle3,hb3,fun c hc=>by rw [hk3 c (by omega),hold (by omega)],by omega⟩
theorem zIy {s:Bool} {gs:List GE} {N sr:Nat} {D l:List Int} {h:Hp} {nx:Nat} {v vl:Value} (hv:SlPx h nx v encG gs) (hvl:SlRd h nx vl encI l) (hN:N≤23) (hsr:sr<N) (hok:∀ g∈gs,GOk N g) (hl:gs.length≤60) (hD:IsFar inf N gs sr D) :
  Cv Q O s 13 [.agg ⟨[.int .i64 (N:Int),v]⟩,.int .i64 (sr:Int),vl] h nx (BoolK (decide (D=l)) nx h):=by
 refine rpcheckv ?_
 obtain ⟨a,cap,rfl,hc⟩:=id hv
 obtain ⟨al,capl,rfl,hcl⟩:=id hvl
 unfold zKQ
 simp (disch:=omega) only [SS,seval]
 refine (zIK (hv.keep (fun b hb=>hold (by omega)) (Nat.le_succ _)) hN hok hl).mono ?_
 rintro r h1 nx1 ⟨rfl,hk,hle⟩
 have g1:=hk nx (by omega)
 rw [hnew] at g1
 have K1:Keep nx h h1:=fun b hb=>by rw [hk b (by omega),hold (by omega)]
 simp (disch:=omega) only [SS,g1,seval]
 refine ⟨fun h0=>absurd h0 (by omega),fun _=>⟨fun h0=>absurd hsr h0,fun _=>?_⟩⟩
 unfold zCx
 by_cases hlN:l.length=N
 ·have heq:((l.length:Int) == (N:Int))=true:=by simp [hlN]
  simp (disch:=omega) only [SS,heq,g1,seval]
  refine (rfar_c (hv.keep K1 (by omega)) hN hsr hok hl hD).mono ?_
  rintro r h2 nx2 ⟨b,rfl,hb1,hb2,hb,hk2,hle2⟩
  have K2:=K1.trans hk2 (by omega)
  have hlen:=hD.len
  have hv':SlRd h2 nx2 (.slice (some ⟨b,0,some 1⟩) N N) encI D:=⟨some ⟨b,0,some 1⟩,N,by rw [hlen],fun _=>⟨b,some 1,false,hb2,rfl,by rw [zY]; exact hb⟩⟩
  refine (samev_c hv' (hvl.keep K2 (by omega)) (by omega)).mono ?_
  rintro r h3 nx3 ⟨rfl,rfl,rfl⟩
  exact ⟨rfl,K2,by omega⟩
 ·have hne:((l.length:Int) == (N:Int))=false:=by simpa using fun e:(l.length:Int)=N=>hlN (by omega)
  simp (disch:=omega) only [SS,hne,seval]
  refine ⟨?_,K1,by omega⟩
  have:¬ D=l:=fun e=>hlN (by rw [← e]; exact hD.len)
  simp [this]
theorem tight1_c {s:Bool} {x:Int} {h:Hp} {nx:Nat}:Cv Q O s 33 [.int .i64 x] h nx (fun r h' nx'=>r = .bool (decide (0≤x∧x<inf))∧h'=h∧nx'=nx):=by
 refine tight1v ?_
 unfold zOg
 simp (disch:=omega) only [SS,seval]
 refine ⟨fun h0=>?_,fun h0=>?_⟩
 ·have:(0≤x∧x<inf)↔x<4611686018427387904:=by unfold inf; omega
  simp [this]
 ·have:¬ (0≤x∧x<inf):=by omega
  simp [this]
def tigL (N:Nat) (l:List Int) (cs:List GE):List GE:=if l.length=N then tig inf l cs else []
def zMu (N:Nat) (l:List Int) (cs:List GE) (nx:Nat) (h:Hp):KC':=fun r h' nx'=>SlAt h' r encG 3 (tigL N l cs) nx nx'∧Keep nx h h'∧nx≤nx'
def TiJ (l:List Int) (cs:List GE) (vl vc:Value) (lo:Nat) (h:Hp) (m:Nat) (vs:List Value) (h':Hp) (nx':Nat):Prop :=
 ∃ (i:Nat) (o:Value),m=cs.length-i∧i≤cs.length∧vs=[vl,.func (.func 33) ⟨[]⟩ ⟨[]⟩,o,vc,.int .i64 (cs.length:Int),.int .i64 (i:Int)]∧SlAt h' o encG 3 (tig inf l (cs.take i)) lo nx'∧Keep lo h h'∧lo≤nx'
theorem tig_s {l:List Int} {cs:List GE} {i:Nat} {e:GE} (he:cs[i]? = some e):tig inf l (cs.take (i+1))=tig inf l (cs.take i)++(if tgt inf l e then [e] else []):=by
 unfold tig
 rw [List.take_add_one,he,List.filter_append]
 cases h:tgt inf l e <;> simp [h]
theorem wrapI {n:Int}:IntKind.wrap .i64 n=(if n % 18446744073709551616≥9223372036854775808 then n % 18446744073709551616-18446744073709551616 else n % 18446744073709551616):=by
 simp only [IntKind.wrap,IntKind.signed,IntKind.bits]
 simp
theorem wrapD {n:Int} (h0 : -9223372036854775808≤n) (h1:n≤9223372036854775807):IntKind.wrap .i64 n=n:=by
 rw [wrapI]; split <;> omega
theorem zOe {s:Bool} {gs cs:List GE} {N:Nat} {l:List Int} {h:Hp} {nx:Nat} {v vl:Value} (hv:SlPx h nx v encG gs) (hvl:SlRd h nx vl encI l) (hl6:l.length≤60) (hN:N≤23) (hok:∀ g∈gs,GOk N g) (hl:gs.length≤60) (hcs:IsCan (gs.map gE) (cs.map gE)) :
  Cv Q O s 15 [.agg ⟨[.int .i64 (N:Int),v]⟩,vl] h nx (zMu N l cs nx h):=by
 refine tightv ?_
 obtain ⟨a,cap,rfl,hc⟩:=id hv
 obtain ⟨al,capl,rfl,hcl⟩:=id hvl
 unfold tight
 simp (disch:=omega) only [SS,seval]
 refine (zPC (hv.keep (fun b hb=>hold (by omega)) (Nat.le_succ _)) hN hok hl).mono ?_
 rintro r h1 nx1 ⟨rfl,hk,hle⟩
 have g1:=hk nx (by omega)
 rw [hnew] at g1
 have K1:Keep nx h h1:=fun b hb=>by rw [hk b (by omega),hold (by omega)]
 simp (disch:=omega) only [SS,g1,seval]
 unfold zKG
 by_cases hlN:l.length=N
 case neg =>
  have hne:((l.length:Int) == (N:Int))=false:=by simpa using fun e:(l.length:Int)=N=>hlN (by omega)
  simp (disch:=omega) only [SS,hne,seval]
  exact ⟨.inl ⟨by unfold tigL; rw [if_neg hlN],rfl⟩,K1,by omega⟩
 have heq:((l.length:Int) == (N:Int))=true:=by simp [hlN]
 simp (disch:=omega) only [SS,heq,g1,seval]
 refine (zLP (hv.keep K1 (by omega)) (by omega) hok hl).mono ?_
 rintro r h2 nA ⟨v2,cs',rfl,hcs',hcan,hcok,hcl,hk2,hle2⟩
 have:=zId hcan hcs
 subst this
 obtain ⟨a2,cap2,rfl,hc2⟩:=id hcs'.nw
 have K2:=K1.trans hk2 (by omega)
 have hfin:tigL N l cs'=tig inf l cs':=by unfold tigL; rw [if_pos hlN]
 simp (disch:=omega) only [SS,seval]
 refine Lp.mk (TiJ l cs' (.slice al l.length capl) (.slice a2 cs'.length cap2) nA h2) cs'.length ⟨0,_,rfl,by omega,rfl,.inl ⟨rfl,rfl⟩,Keep.refl _ _,Nat.le_refl _⟩ ?_
 rintro m _ h3 nx3 ⟨i,o,rfl,hi,rfl,S,hk3,hle3⟩
 rw [tightb0]
 unfold zOd
 simp (disch:=omega) only [SS,seval]
 refine ⟨fun hlt=>?_,fun hge=>?_⟩
 ·obtain ⟨e,he⟩:=za hlt
  have hem:=hcok e (List.mem_of_getElem? he)
  have hef:e.f<N:=hem.1
  have het:e.t<N:=hem.2.1
  have hw0:=hem.2.2.1
  have hw1:=hem.2.2.2
  obtain ⟨b,sp,ro,hb1,hb2,rfl,hb⟩:=hc2 (fun e0=>by rw [e0] at hlt; exact absurd hlt (Nat.not_lt_zero _))
  have hb3:=(hk3 b hb2).trans hb
  obtain ⟨x,hx⟩:=za (l:=l) (i:=e.f) (by omega)
  obtain ⟨y,hy⟩:=za (l:=l) (i:=e.t) (by omega)
  obtain ⟨_,bl,spl,rol,capl',hbl,hveq,hblh⟩:=hvl.at hx
  cases hveq
  have hbl3:hget h3 bl=some (.cells (ints l) rol):=(hk3 bl (by omega)).trans ((K2 bl hbl).trans (by rw [← zY]; exact hblh))
  simp (disch:=omega) only [SS,hb3,zEn he,hbl3,zR hx,zR hy,seval]
  have ti:=zOh (inf:=inf) hx hy
  have fin:∀ {vl vc:Value} (o':Value) (h':Hp) (nx':Nat),SlAt h' o' encG 3 (tig inf l (cs'.take i)++(if tgt inf l e then [e] else [])) nA nx'→Keep nA h2 h'→nA≤nx' →
    zEi s (fun vs h nx=>∃ m',m'<cs'.length-i∧TiJ l cs' vl vc nA h2 m' vs h nx) (fun v21 h19 n20=>zMu N l cs' nx h (nv v21 2) h19 n20) (fun x x_1 x_2=>False) vl (.func (.func 33) ⟨[]⟩ ⟨[]⟩) o' vc (.int .i64 (cs'.length:Int)) (.int .i64 (i:Int)) h' nx':=fun {vl vc} o' h' nx' a1 a2 a3=>by
   unfold zEi
   simp (disch:=omega) only [SS,seval]
   exact ⟨cs'.length-(i+1),by omega,i+1,o',rfl,by omega,by rw [zAK (by omega)],by rw [tig_s he]; exact a1,a2,a3⟩
  have S4:∀ {o1 o2:AObj},SlAt (hset (hset h3 nx3 o1) nx3 o2) o encG 3 (tig inf l (cs'.take i)) nA (nx3+1):=fun {o1 o2}=>S.keep (fun c h1 h2=>by rw [hold (by omega),hold (by omega)]) (by omega)
  have K4:∀ {o1 o2:AObj},Keep nA h2 (hset (hset h3 nx3 o1) nx3 o2):=fun {o1 o2}=>(hk3.set (by omega)).set (by omega)
  have no:∀ {o1 o2:AObj},tgt inf l e=false→SlAt (hset (hset h3 nx3 o1) nx3 o2) o encG 3 (tig inf l (cs'.take i)++(if tgt inf l e then [e] else [])) nA (nx3+1):=fun {o1 o2} h=>by rw [h]; simpa using S4
  refine tight1_c.mono ?_
  rintro r hh nn ⟨rfl,e1,e2⟩
  rw [e1,e2,IF_b]
  refine ⟨fun hnx=>?_,fun hnx=>fin _ _ _ (no ?_) K4 (by omega)⟩
  ·refine tight1_c.mono ?_
   rintro r hh nn ⟨rfl,e1,e2⟩
   rw [e1,e2,IF_b]
   have hnx:0≤x∧x<inf:=by simpa using hnx
   refine ⟨fun hny=>?_,fun hny=>fin _ _ _ (no ?_) K4 (by omega)⟩
   ·have hny:0≤y∧y<inf:=by simpa using hny
    have hwr:IntKind.wrap .i64 (y-x)=y-x:=wrapD (by unfold inf at hnx hny; omega) (by unfold inf at hnx hny; omega)
    simp (disch:=omega) only [SS,hwr,seval]
    refine ⟨fun heq2=>?_,fun hne=>fin _ _ _ (no ?_) K4 (by omega)⟩
    ·have htg:tgt inf l e=true:=ti.2 ⟨hnx.1,hnx.2,hny.1,hny.2,by simpa using heq2⟩
     refine zIl (enc:=encG) (k:=3) (lo:=nA) (fun _=>rfl) (fun _=>rfl) (by omega) (S.keep (fun c h1 h2=>by rw [hold (by omega),hold (by omega),hold (by omega)]) (by omega)) (by omega) e (hnew _ _ _) rfl ?_ fun v5 h5 hs5 hk5=>?_
     ·have h1:(tig inf l (cs'.take i)).length≤(cs'.take i).length:=List.length_filter_le _ _
      have h2:=List.length_take_le i cs'
      omega
     ·exact fin _ _ _ (by rw [htg]; exact hs5) (fun c hc=>by rw [hk5 c hc,hold (by omega),hold (by omega),hold (by omega)]; exact hk3 c hc) (by omega)
    ·rw [Bool.eq_false_iff]
     intro h
     have:=(ti.1 h).2.2.2.2
     simp [this] at hne
   ·have hny:¬ (0≤y∧y<inf):=by simpa using hny
    rw [Bool.eq_false_iff]
    exact fun h=>hny (by have:=ti.1 h; omega)
  ·have hnx:¬ (0≤x∧x<inf):=by simpa using hnx
   rw [Bool.eq_false_iff]
   exact fun h=>hnx (by have:=ti.1 h; omega)
 ·have:i=cs'.length:=by omega
  subst this
  rw [List.take_length] at S
  refine ⟨?_,fun c hc=>by rw [hk3 c (by omega)]; exact K2 c hc,by omega⟩
  rw [hfin]
  rcases S with S | ⟨b,h1,h2,h3,h4⟩
  ·exact .inl S
  ·exact .inr ⟨b,by omega,h2,h3,h4⟩
def RtJ (l:List Int) (cs:List GE) (vl vc:Value) (lo:Nat) (h:Hp) (m:Nat) (vs:List Value) (h':Hp) (nx':Nat):Prop :=
 ∃ (i:Nat) (o:Value),m=cs.length-i∧i≤cs.length∧vs=[vl,o,vc,.int .i64 (i:Int)]∧SlAt h' o encG 3 (tig inf l (cs.take i)) lo nx'∧Keep lo h h'∧lo≤nx'
theorem zQx {cs:List GE} {i j:Nat} {e:GE} (he:cs[i]? = some e) (hj:j<3):(flat encG cs)[i*3+j]? = (encG e)[j]?:=zE3 (k:=3) (fun _=>rfl) he hj
theorem zLq {s:Bool} {gs cs:List GE} {N:Nat} {l:List Int} {h:Hp} {nx:Nat} {v vl:Value} (hv:SlPx h nx v encG gs) (hvl:SlRd h nx vl encI l) (hl6:l.length≤60) (hN:N≤23) (hok:∀ g∈gs,GOk N g) (hl:gs.length≤60) (hcs:IsCan (gs.map gE) (cs.map gE)) :
  Cv Q O s 16 [.agg ⟨[.int .i64 (N:Int),v]⟩,vl] h nx (zMu N l cs nx h):=by
 refine rtightv ?_
 obtain ⟨a,cap,rfl,hc⟩:=id hv
 obtain ⟨al,capl,rfl,hcl⟩:=id hvl
 unfold zOx
 simp (disch:=omega) only [SS,seval]
 refine (zIK (hv.keep (fun b hb=>hold (by omega)) (Nat.le_succ _)) hN hok hl).mono ?_
 rintro r h1 nx1 ⟨rfl,hk,hle⟩
 have g1:=hk nx (by omega)
 rw [hnew] at g1
 have K1:Keep nx h h1:=fun b hb=>by rw [hk b (by omega),hold (by omega)]
 simp (disch:=omega) only [SS,g1,seval]
 unfold zIH
 by_cases hlN:l.length=N
 case neg =>
  have hne:((l.length:Int) == (N:Int))=false:=by simpa using fun e:(l.length:Int)=N=>hlN (by omega)
  simp (disch:=omega) only [SS,hne,seval]
  exact ⟨.inl ⟨by unfold tigL; rw [if_neg hlN],rfl⟩,K1,by omega⟩
 have heq:((l.length:Int) == (N:Int))=true:=by simp [hlN]
 simp (disch:=omega) only [SS,heq,g1,seval]
 refine (rcanon_c (hv.keep K1 (by omega)) (by omega) hok hl).mono ?_
 rintro r h2 nA ⟨v2,cs',rfl,hcs',hcan,hcok,hcl,hk2,hle2⟩
 have:=zId hcan hcs
 subst this
 obtain ⟨a2,cap2,rfl,hc2⟩:=id hcs'
 have K2:=K1.trans hk2 (by omega)
 have hfin:tigL N l cs'=tig inf l cs':=by unfold tigL; rw [if_pos hlN]
 simp (disch:=omega) only [SS,seval]
 refine Lp.mk (RtJ l cs' (.slice al l.length capl) (.slice a2 cs'.length cap2) nA h2) cs'.length ⟨0,_,rfl,by omega,rfl,.inl ⟨rfl,rfl⟩,Keep.refl _ _,Nat.le_refl _⟩ ?_
 rintro m _ h3 nx3 ⟨i,o,rfl,hi,rfl,S,hk3,hle3⟩
 rw [rtightb0]
 unfold zLp
 simp (disch:=omega) only [SS,seval]
 refine ⟨fun hlt=>?_,fun hge=>?_⟩
 ·obtain ⟨e,he⟩:=za hlt
  have hem:=hcok e (List.mem_of_getElem? he)
  have hef:e.f<N:=hem.1
  have het:e.t<N:=hem.2.1
  have hw0:=hem.2.2.1
  have hw1:=hem.2.2.2
  obtain ⟨b,sp,ro,hb1,hb2,rfl,hb⟩:=hc2 (fun e0=>by rw [e0] at hlt; exact absurd hlt (Nat.not_lt_zero _))
  have hb3:=(hk3 b hb2).trans hb
  obtain ⟨x,hx⟩:=za (l:=l) (i:=e.f) (by omega)
  obtain ⟨y,hy⟩:=za (l:=l) (i:=e.t) (by omega)
  obtain ⟨_,bl,spl,rol,capl',hbl,hveq,hblh⟩:=hvl.at hx
  cases hveq
  have hbl3:hget h3 bl=some (.cells (ints l) rol):=(hk3 bl (by omega)).trans ((K2 bl hbl).trans (by rw [← zY]; exact hblh))
  have ce0:(flat encG cs')[i*3]? = some (.int .i64 (e.f:Int)):=zQx he (j:=0) (by omega)
  have ce1:(flat encG cs')[i*3+1]? = some (.int .i64 (e.t:Int)):=zQx he (j:=1) (by omega)
  have ce2:(flat encG cs')[i*3+2]? = some (.int .i64 e.w):=zQx he (j:=2) (by omega)
  have ti:=zOh (inf:=inf) hx hy
  have fin:∀ {vl vc:Value} (o':Value) (h':Hp) (nx':Nat),SlAt h' o' encG 3 (tig inf l (cs'.take i)++(if tgt inf l e then [e] else [])) nA nx'→Keep nA h2 h'→nA≤nx' →
    zCI s (fun vs h nx=>∃ m',m'<cs'.length-i∧RtJ l cs' vl vc nA h2 m' vs h nx) (fun v21 h19 n20=>zMu N l cs' nx h (nv v21 1) h19 n20) (fun x x_1 x_2=>False) vl o' vc (.int .i64 (i:Int)) h' nx':=fun {vl vc} o' h' nx' a1 a2 a3=>by
   unfold zCI
   simp (disch:=omega) only [SS,seval]
   exact ⟨cs'.length-(i+1),by omega,i+1,o',rfl,by omega,by rw [zAK (by omega)],by rw [tig_s he]; exact a1,a2,a3⟩
  have no:tgt inf l e=false→SlAt h3 o encG 3 (tig inf l (cs'.take i)++(if tgt inf l e then [e] else [])) nA nx3:=fun h=>by rw [h]; simpa using S
  simp (disch:=omega) only [SS,hb3,ce0,ce1,ce2,zEn he,hbl3,zR hx,zR hy,seval]
  have non:¬ (0≤x∧x<inf∧0≤y∧y<inf∧y-x=e.w)→tgt inf l e=false:=fun h=>by
   rw [Bool.eq_false_iff]; exact fun h2=>h (ti.1 h2)
  refine ⟨fun h1=>⟨fun h2=>⟨fun h3=>⟨fun h4=>?_,fun h4=>fin _ _ _ (no (non fun h=>h4 h.2.2.2.1)) hk3 hle3⟩,fun h3=>fin _ _ _ (no (non fun h=>by omega)) hk3 hle3⟩,fun h2=>fin _ _ _ (no (non fun h=>h2 h.2.1)) hk3 hle3⟩,fun h1=>fin _ _ _ (no (non fun h=>by omega)) hk3 hle3⟩
  have hwr:IntKind.wrap .i64 (y-x)=y-x:=wrapD (by omega) (by omega)
  rw [hwr]
  refine ⟨fun heq2=>?_,fun hne=>fin _ _ _ (no (non fun h=>?_)) hk3 hle3⟩
  ·have htg:tgt inf l e=true:=ti.2 ⟨by omega,h2,by omega,h4,by simpa using heq2⟩
   refine zIl (enc:=encG) (k:=3) (lo:=nA) (fun _=>rfl) (fun _=>rfl) (by omega) (S.keep (fun c h1 h2=>by rw [hold (by omega)]) (by omega)) (by omega) e (hnew _ _ _) rfl ?_ fun v5 h5 hs5 hk5=>?_
   ·have h1:(tig inf l (cs'.take i)).length≤(cs'.take i).length:=List.length_filter_le _ _
    have h2:=List.length_take_le i cs'
    omega
   ·exact fin _ _ _ (by rw [htg]; exact hs5) (fun c hc=>by rw [hk5 c hc,hold (by omega)]; exact hk3 c hc) (by omega)
  ·have:=h.2.2.2.2
   simp [this] at hne
 ·have:i=cs'.length:=by omega
  subst this
  rw [List.take_length] at S
  refine ⟨?_,fun c hc=>by rw [hk3 c (by omega)]; exact K2 c hc,by omega⟩
  rw [hfin]
  rcases S with S | ⟨b,h1,h2,h3,h4⟩
  ·exact .inl S
  ·exact .inr ⟨b,by omega,h2,h3,h4⟩
theorem zQm {s:Bool} {h:Hp} {nx b c n:Nat} {sp:Option Nat} {ro:Bool} {l:List Int} (hb:hget h b=some (.cells (ints l) ro)) (hbn:b<nx) (hl0:0<l.length) (hl:l.length<1000000) (hn:l.length=n) :
  Cv Q O s 36 [.slice (some ⟨b,0,sp⟩) n c] h nx (fun r h' nx'=>r = .slice (some ⟨nx+1,0,some 1⟩) n n∧hget h' (nx+1)=some (.cells (ints l) false)∧Keep nx h h'∧nx'=nx+1+1):=by
 refine clone64v ?_
 unfold zLI
 simp (disch:=omega) only [SS,bin_snil ty27,seval]
 have K1:Keep nx h (hset h nx (.cells [] false)):=(Keep.refl _ _).set (Nat.le_refl _)
 have ha:=appA_0 (sp2:=sp) (c2:=c) (l:=l) hn (hnew h nx (.cells [] false)) ((K1 b hbn).trans hb) (by omega) (by omega) (nx:=nx+1)
 refine ⟨fun h=>(by cases h),fun _=>?_⟩
 rw [ha]
 exact ⟨rfl,hnew _ _ _,K1.set (by omega),rfl⟩
def zEc (D l:List Int) (N:Nat) (to:Int):Prop:=D=l∧0≤to∧to<(N:Int)∧∃ x,D[to.toNat]? = some x∧x<inf
def PwayK (D l:List Int) (cs:List GE) (N sr:Nat) (to:Int) (nx:Nat) (h:Hp):KC':=fun r h' nx'=>(¬ zEc D l N to→r = .slice none 0 0) ∧
 (zEc D l N to→∃ L P,Lev N (tig inf D cs) sr L∧Par (tig inf D cs) L N P∧SlRd h' nx' r encI (wayR L P to))∧Keep nx h h'∧nx≤nx'
def PwJ0 (N sr p bL bP lo:Nat) (es:List GE) (to:Int) (h:Hp) (m:Nat) (vs:List Value) (h':Hp) (nx':Nat):Prop :=
 ∃ (k:Nat) (L P:List Int),m=unre L∧vs=[.int .i64 to,.slice none 0 0,.pointer (some ⟨p,0,none⟩),.slice (some ⟨bL,0,none⟩) N N,.slice (some ⟨bP,0,some 1⟩) N N,.int .i64 (k:Int)]∧RndI N es sr k 0 L P false ∧
  hget h' bL=some (.cells (ints L) false)∧hget h' bP=some (.cells (ints P) false)∧(∀ c,c<lo→c≠bL→c≠bP→hget h' c=hget h c)∧lo≤nx'
def PwJ1 (N sr p bL bP lo k m0:Nat) (es:List GE) (ve:Value) (to:Int) (h:Hp) (m:Nat) (vs:List Value) (h':Hp) (nx':Nat):Prop :=
 ∃ (i:Nat) (b:Bool) (L P:List Int),m=es.length-i∧i≤es.length∧unre L+(if b then 1 else 0)≤m0∧vs=[.int .i64 to,.slice none 0 0,.pointer (some ⟨p,0,none⟩),.slice (some ⟨bL,0,none⟩) N N,.slice (some ⟨bP,0,some 1⟩) N N,.int .i64 (k:Int),.bool b,ve,.int .i64 (es.length:Int),.int .i64 (i:Int)]∧RndI N es sr k i L P b ∧
  hget h' bL=some (.cells (ints L) false)∧hget h' bP=some (.cells (ints P) false)∧(∀ c,c<lo→c≠bL→c≠bP→hget h' c=hget h c)∧lo≤nx'
theorem zKH {l:List Int} {cs:List GE}:(tig inf l cs).length≤cs.length:=List.length_filter_le _ _
theorem zGb {gs cs:List GE} (h:IsCan (gs.map gE) (cs.map gE)):cs.length≤gs.length:=by
 have hn:(cs.map gE).Nodup:=h.up.imp fun {a b} hab e=>by subst e; exact hab.ne ⟨rfl,rfl⟩
 have:=zCf (cs.map gE) (gs.map gE) hn fun x hx=>((h.rep.mem x).1 hx).1
 simpa using this
theorem pway_c {s:Bool} {gs cs:List GE} {N sr:Nat} {D l:List Int} {to:Int} {h:Hp} {nx:Nat} {v vl:Value} (hv:SlPx h nx v encG gs) (hvl:SlRd h nx vl encI l) (hl6:l.length≤60) (hN:N≤23) (hsr:sr<N) (hok:∀ g∈gs,GOk N g) (hl:gs.length≤60) (hcs:IsCan (gs.map gE) (cs.map gE)) (hD:IsFar inf N gs sr D) :
  Cv Q O s 18 [.agg ⟨[.int .i64 (N:Int),v]⟩,.int .i64 (sr:Int),vl,.int .i64 to] h nx (PwayK D l cs N sr to nx h):=by
 refine pwayv ?_
 obtain ⟨a,cap,rfl,hc⟩:=id hv
 obtain ⟨al,capl,rfl,hcl⟩:=id hvl
 unfold pway
 simp (disch:=omega) only [SS,seval]
 refine (zMH (hv.keep (fun b hb=>hold (by omega)) (Nat.le_succ _)) (hvl.keep (fun b hb=>hold (by omega)) (Nat.le_succ _)) hN hsr hok hl hD).mono ?_
 rintro r h1 nx1 ⟨rfl,hk,hle⟩
 have g1:=hk nx (by omega)
 rw [hnew] at g1
 have K1:Keep nx h h1:=fun b hb=>by rw [hk b (by omega),hold (by omega)]
 have no:¬ zEc D l N to→zGP s (PwayK D l cs N sr to nx h) (.int .i64 (sr:Int)) (.slice al l.length capl) (.int .i64 to) (.pointer (some ⟨nx,0,none⟩)) (.bool true) h1 nx1:=fun hn=>by
  unfold zGP
  simp (disch:=omega) only [SS,seval]
  exact ⟨fun _=>rfl,fun h=>absurd h hn,K1,by omega⟩
 simp (disch:=omega) only [SS,g1,seval]
 refine ⟨fun hne=>no (fun h=>hne h.1),fun heq=>⟨fun h0=>no (fun h=>by have:=h.2.1; omega),fun h0=>⟨fun h9=>no (fun h=>h9 h.2.2.1),fun huN=>?_⟩⟩⟩
 subst heq
 obtain ⟨u,rfl⟩:∃ u:Nat,to=(u:Int):=⟨to.toNat,by omega⟩
 have hlN:=hD.len
 obtain ⟨x,hx⟩:=za (l:=D) (i:=u) (by omega)
 obtain ⟨_,bl,spl,rol,capl',hbl,hveq,hblh⟩:=hvl.at hx
 cases hveq
 have hbl1:hget h1 bl=some (.cells (ints D) rol):=(K1 bl hbl).trans (by rw [← zY]; exact hblh)
 simp (disch:=omega) only [SS,hbl1,zR hx,seval]
 by_cases hxi:x<inf
 case neg =>
  have hxd:decide (x<4611686018427387904)=false:=decide_eq_false hxi
  rw [hxd]
  refine no (fun h=>?_)
  obtain ⟨_,_,_,y,hy,hyi⟩:=h
  rw [Int.toNat_natCast,hx] at hy; cases hy
  exact hxi hyi
 have hxd:decide (x<4611686018427387904)=true:=decide_eq_true hxi
 have hcond:zEc D D N (u:Int):=⟨rfl,by omega,huN,x,by rw [Int.toNat_natCast]; exact hx,hxi⟩
 rw [hxd]
 unfold zGP
 simp (disch:=omega) only [SS,g1,seval]
 refine (zOe (hv.keep K1 (by omega)) (hvl.keep K1 (by omega)) hl6 hN hok hl hcs).mono ?_
 rintro r h2 nx2 ⟨S,hk2,hle2⟩
 have hes:tigL N D cs=tig inf D cs:=by unfold tigL; rw [if_pos hlN]
 rw [hes] at S
 have K2:=K1.trans hk2 (by omega)
 have g2:=(hk2 nx (by omega)).trans g1
 obtain ⟨a2,cap2,rfl,hc2⟩:=id S.nw
 simp (disch:=omega) only [SS,g1,g2,seval]
 refine ⟨hle2,?_⟩
 have hesl:(tig inf D cs).length≤60:=by
  have h1:(tig inf D cs).length≤cs.length:=zKH
  have h2:=zGb hcs
  omega
 have heok:∀ e∈tig inf D cs,e.f<N∧e.t<N:=fun e he=>by
  have:=hok e ((Can.of hcs).sub e (List.mem_filter.1 he).1)
  exact ⟨this.1,this.2.1⟩
 have hup:(tig inf D cs).Pairwise fun a c=>a.f≤c.f:=(Can.of hcs).up.filter _
 generalize hE:tig inf D cs=es at *
 have hr:=repe_c (s:=s) (N:=N) (h:=hset (hset (hset h2 nx2 (.cells [.int .i64 0,.slice none 0 0] false)) nx2 (.cells [.int .i64 (N:Int),.slice a2 es.length cap2] false)) (nx2+1) (.cells [.int .i64 (-1)] false)) (nx:=nx2+1+1) (b2:=nx2+1) (o2:=0) (c2:=1) (sp:=none) (x:=-1) (l:=[-1]) (hnew _ _ _) (by omega) rfl (by omega) hN
 refine hr.mono ?_
 rintro r h3 _ ⟨rfl,hb3,rfl,hk3⟩
 refine (zQm hb3 (by omega) (by simp; omega) (by simp; omega) (by simp)).mono ?_
 rintro r h4 _ ⟨rfl,hb4,hk4,rfl⟩
 have gL:=(hk4 (nx2+1+1) (by omega)).trans hb3
 have gp:=(hk4 nx2 (by omega)).trans ((hk3 nx2 (by omega)).trans ((hold (by omega)).trans (hnew _ _ _)))
 have K4:Keep nx2 h2 h4:=fun c hc=>by rw [hk4 c (by omega),hk3 c (by omega),hold (by omega),hold (by omega),hold (by omega)]
 simp (disch:=omega) only [SS,gL,seval]
 refine ⟨by simpa using hsr,?_⟩
 refine Lp.mk (PwJ0 N sr nx2 (nx2+1+1) (nx2+1+1+1+1) (nx2+1+1+1+1+1) es (u:Int) h4) (unre ((List.replicate N (-1)).set sr 0)) ⟨0,_,_,rfl,rfl,RndI.init hsr,hnew _ _ _,by rw [hold (by omega)]; exact hb4,fun c h1 h2 h3=>hold h2,by omega⟩ ?_
 rintro m _ h5 nx5 ⟨k,L,P,rfl,rfl,R,gL5,gP5,hf5,hle5⟩
 have gp5:=(hf5 nx2 (by omega) (by omega) (by omega)).trans gp
 rw [pwayb0]
 unfold pwayl0
 simp (disch:=omega) only [SS,gp5,seval]
 refine Lp.mk (PwJ1 N sr nx2 (nx2+1+1) (nx2+1+1+1+1) (nx2+1+1+1+1+1) k (unre L) es (.slice a2 es.length cap2) (u:Int) h4) es.length ⟨0,false,L,P,rfl,by omega,Nat.le_refl _,rfl,R,gL5,gP5,hf5,hle5⟩ ?_
 have hkN:k≤N:=by have:=R.cnt; omega
 clear R gL5 gP5 hf5 hle5 gp5
 rintro m _ h6 nx6 ⟨i,b,L',P',rfl,hi,hm,rfl,R,gL6,gP6,hf6,hle6⟩
 rw [pwayb1]
 unfold pwayl1
 simp (disch:=omega) only [SS,seval]
 refine ⟨fun hlt=>?_,fun hge=>?_⟩
 ·obtain ⟨e,he⟩:=za hlt
  obtain ⟨hef,het⟩:=heok e (List.mem_of_getElem? he)
  obtain ⟨be,spe,roe,hbe1,hbe2,rfl,hbe⟩:=hc2 (fun e0=>by rw [e0] at hlt; exact absurd hlt (Nat.not_lt_zero _))
  have hbe6:=(hf6 be (by omega) (by omega) (by omega)).trans ((K4 be hbe2).trans hbe)
  have hLl:=R.lev.len
  have hPl:=R.plen
  obtain ⟨x1,hx1⟩:=za (l:=L') (i:=e.f) (by omega)
  obtain ⟨y1,hy1⟩:=za (l:=L') (i:=e.t) (by omega)
  have hwk:IntKind.wrap .i64 ((k:Int)+1)=((k+1:Nat):Int):=zAK (by omega)
  have ke:((k+1:Nat):Int)=(k:Int)+1:=by omega
  simp (disch:=omega) only [SS,hbe6,zEn he,gL6,gP6,zR hx1,zR hy1,hwk,seval]
  have fin:∀ {ve:Value} {e2:KVl} (b':Bool) (L2 P2:List Int) (h':Hp) (nx':Nat),unre L2+(if b' then 1 else 0)≤unre L→RndI N es sr k (i+1) L2 P2 b'→hget h' (nx2+1+1)=some (.cells (ints L2) false)→hget h' (nx2+1+1+1+1)=some (.cells (ints P2) false) →
    (∀ c,c<nx2+1+1+1+1+1→c≠nx2+1+1→c≠nx2+1+1+1+1→hget h' c=hget h4 c)→nx2+1+1+1+1+1≤nx' →
    zH2 s (fun vs h nx=>∃ m',m'<es.length-i∧PwJ1 N sr nx2 (nx2+1+1) (nx2+1+1+1+1) (nx2+1+1+1+1+1) k (unre L) es ve (u:Int) h4 m' vs h nx) e2 (fun x x_1 x_2=>False) (.int .i64 (u:Int)) (.slice none 0 0) (.pointer (some ⟨nx2,0,none⟩)) (.slice (some ⟨nx2+1+1,0,none⟩) N N) (.slice (some ⟨nx2+1+1+1+1,0,some 1⟩) N N) (.int .i64 (k:Int)) (.bool b') ve (.int .i64 (es.length:Int)) (.int .i64 (i:Int)) h' nx':=fun {ve e2} b' L2 P2 h' nx' a1 a2 a3 a4 a5 a6=>by
   unfold zH2
   simp (disch:=omega) only [SS,seval]
   exact ⟨es.length-(i+1),by omega,i+1,b',L2,P2,rfl,by omega,a1,by rw [zAK (by omega)],a2,a3,a4,a5,a6⟩
  have skip:∀ {ve:Value} {e2:KVl},¬ (L'[e.f]? = some (k:Int)∧L'[e.t]? = some (-1))→zH2 s (fun vs h nx=>∃ m',m'<es.length-i∧PwJ1 N sr nx2 (nx2+1+1) (nx2+1+1+1+1) (nx2+1+1+1+1+1) k (unre L) es ve (u:Int) h4 m' vs h nx) e2 (fun x x_1 x_2=>False) (.int .i64 (u:Int)) (.slice none 0 0) (.pointer (some ⟨nx2,0,none⟩)) (.slice (some ⟨nx2+1+1,0,none⟩) N N) (.slice (some ⟨nx2+1+1+1+1,0,some 1⟩) N N) (.int .i64 (k:Int)) (.bool b) ve (.int .i64 (es.length:Int)) (.int .i64 (i:Int)) (hset (hset h6 nx6 (.cells [.int .i64 0,.int .i64 0,.int .i64 0] false)) nx6 (.cells [.int .i64 (e.f:Int),.int .i64 (e.t:Int),.int .i64 e.w] false)) (nx6+1):=fun {ve e2} hn =>
   fin b L' P' _ _ hm (R.skip he het hn) (by rw [hold (by omega),hold (by omega)]; exact gL6) (by rw [hold (by omega),hold (by omega)]; exact gP6) (fun c h1 h2 h3=>by rw [hold (by omega),hold (by omega)]; exact hf6 c h1 h2 h3) (by omega)
  refine ⟨fun hxk=>?_,fun hxk=>skip fun h=>by rw [hx1] at h; have:=h.1; injection this with this; simp [this] at hxk⟩
  have hxk:x1=(k:Int):=by simpa using hxk
  subst hxk
  refine ⟨fun hy0=>?_,fun hy0=>skip fun h=>by rw [hy1] at h; have:=h.2; injection this with this; omega⟩
  have hy:y1 = -1:=by have:=(R.lev.rng _ _ hy1).1; omega
  subst hy
  have hun:=zID (x:=(k:Int)+1) hy1 (by omega)
  have R2:=R.step hup he hx1 hy1
  rw [← ke] at R2 hun
  refine ⟨by omega,by omega,fin true _ _ _ _ ?_ R2 (by rw [hold (by omega),hnew]) (hnew _ _ _) (fun c h1 h2 h3=>by rw [hold h3,hold h2,hold (by omega),hold (by omega)]; exact hf6 c h1 h2 h3) (by omega)⟩
  rw [if_pos rfl,hun]
  omega
 ·have:i=es.length:=by omega
  subst this
  refine ⟨fun hb=>?_,fun hb=>?_⟩
  ·subst hb
   obtain ⟨hL,hP⟩:=R.done
   have sL:SlRd h6 nx6 (.slice (some ⟨nx2+1+1,0,none⟩) N N) encI L':=⟨some ⟨nx2+1+1,0,none⟩,N,by rw [hL.len],fun _=>⟨nx2+1+1,none,false,by omega,rfl,by rw [zY]; exact gL6⟩⟩
   have sP:SlRd h6 nx6 (.slice (some ⟨nx2+1+1+1+1,0,some 1⟩) N N) encI P':=⟨some ⟨nx2+1+1+1+1,0,some 1⟩,N,by rw [hP.1],fun _=>⟨nx2+1+1+1+1,some 1,false,by omega,rfl,by rw [zY]; exact gP6⟩⟩
   refine (way_c sL sP (by rw [hL.len]; omega)).mono ?_
   rintro r h7 nx7 ⟨hw,hk7,hle7⟩
   refine ⟨fun h=>absurd hcond h,fun _=>⟨L',P',by rw [hE]; exact hL,by rw [hE]; exact hP,hw⟩,fun c hc=>?_,by omega⟩
   rw [hk7 c (by omega),hf6 c (by omega) (by omega) (by omega),K4 c (by omega)]
   exact K2 c hc
  ·subst hb
   refine ⟨unre L',by simp only [if_true] at hm; omega,k+1,L',P',rfl,by rw [zAK (by omega)],R.next,gL6,gP6,hf6,hle6⟩
theorem kL38:zD Tryz.prog 38=some zIb:=by kernel_rfl
theorem kP40:zD Tryz.prog 40=some zGo:=by kernel_rfl
theorem rpway_c {s:Bool} {gs cs:List GE} {N sr:Nat} {D l:List Int} {to:Int} {h:Hp} {nx:Nat} {v vl:Value} (hv:SlPx h nx v encG gs) (hvl:SlRd h nx vl encI l) (hl6:l.length≤60) (hN:N≤23) (hsr:sr<N) (hok:∀ g∈gs,GOk N g) (hl:gs.length≤60) (hcs:IsCan (gs.map gE) (cs.map gE)) (hD:IsFar inf N gs sr D) :
  Cv Q O s 19 [.agg ⟨[.int .i64 (N:Int),v]⟩,.int .i64 (sr:Int),vl,.int .i64 to] h nx (PwayK D l cs N sr to nx h):=by
 refine rpwayv ?_
 obtain ⟨a,cap,rfl,hc⟩:=id hv
 obtain ⟨al,capl,rfl,hcl⟩:=id hvl
 unfold rpway
 simp (disch:=omega) only [SS,seval]
 refine (zIy (hv.keep (fun b hb=>hold (by omega)) (Nat.le_succ _)) (hvl.keep (fun b hb=>hold (by omega)) (Nat.le_succ _)) hN hsr hok hl hD).mono ?_
 rintro r h1 nx1 ⟨rfl,hk,hle⟩
 have g1:=hk nx (by omega)
 rw [hnew] at g1
 have K1:Keep nx h h1:=fun b hb=>by rw [hk b (by omega),hold (by omega)]
 have no:¬ zEc D l N to→zDf s (PwayK D l cs N sr to nx h) (.int .i64 (sr:Int)) (.slice al l.length capl) (.int .i64 to) (.pointer (some ⟨nx,0,none⟩)) (.bool true) h1 nx1:=fun hn=>by
  unfold zDf
  simp (disch:=omega) only [SS,seval]
  exact ⟨fun _=>rfl,fun h=>absurd h hn,K1,by omega⟩
 simp (disch:=omega) only [SS,g1,seval]
 refine ⟨fun hne=>no (fun h=>hne h.1),fun heq=>⟨fun h0=>no (fun h=>by have:=h.2.1; omega),fun h0=>⟨fun h9=>no (fun h=>h9 h.2.2.1),fun huN=>?_⟩⟩⟩
 subst heq
 obtain ⟨u,rfl⟩:∃ u:Nat,to=(u:Int):=⟨to.toNat,by omega⟩
 have hlN:=hD.len
 obtain ⟨x,hx⟩:=za (l:=D) (i:=u) (by omega)
 obtain ⟨_,bl,spl,rol,capl',hbl,hveq,hblh⟩:=hvl.at hx
 cases hveq
 have hbl1:hget h1 bl=some (.cells (ints D) rol):=(K1 bl hbl).trans (by rw [← zY]; exact hblh)
 by_cases hxi:x<inf
 case neg =>
  have hxd:(x == 4611686018427387904)=true:=by
   rcases hD.wit u x hx with h | ⟨h,_⟩
   ·rw [h]; rfl
   ·exact absurd h hxi
  simp (disch:=omega) only [SS,hbl1,zR hx,hxd,seval]
  refine no (fun h=>?_)
  obtain ⟨_,_,_,y,hy,hyi⟩:=h
  rw [Int.toNat_natCast,hx] at hy; cases hy
  exact hxi hyi
 have hxd:(x == 4611686018427387904)=false:=by
  have:x≠4611686018427387904:=by unfold inf at hxi; omega
  simpa using this
 have hcond:zEc D D N (u:Int):=⟨rfl,by omega,huN,x,by rw [Int.toNat_natCast]; exact hx,hxi⟩
 simp (disch:=omega) only [SS,hbl1,zR hx,hxd,seval]
 unfold zDf
 simp (disch:=omega) only [SS,g1,seval]
 refine (zLq (hv.keep K1 (by omega)) (hvl.keep K1 (by omega)) hl6 hN hok hl hcs).mono ?_
 rintro r h2 nx2 ⟨S,hk2,hle2⟩
 have hes:tigL N D cs=tig inf D cs:=by unfold tigL; rw [if_pos hlN]
 rw [hes] at S
 have K2:=K1.trans hk2 (by omega)
 have g2:=(hk2 nx (by omega)).trans g1
 have hesl:(tig inf D cs).length≤60:=by
  have h1:(tig inf D cs).length≤cs.length:=zKH
  have h2:=zGb hcs
  omega
 have heok:∀ e∈tig inf D cs,GOk N e:=fun e he=>hok e ((Can.of hcs).sub e (List.mem_filter.1 he).1)
 generalize hE:tig inf D cs=es at *
 obtain ⟨a2,cap2,rfl,hc2⟩:=id S.nw
 simp (disch:=omega) only [SS,g1,g2,seval]
 refine ⟨hle2,?_⟩
 have S3:SlRd (hset (hset h2 nx2 (.cells [.int .i64 0,.slice none 0 0] false)) nx2 (.cells [.int .i64 (N:Int),.slice a2 es.length cap2] false)) (nx2+1) (.slice a2 es.length cap2) encG es:=S.rd.keep (fun b hb=>by rw [hold (by omega),hold (by omega)]) (Nat.le_succ _)
 refine (zQF kL38 rfl S3 (by omega) (by omega) hsr hesl heok).mono ?_
 rintro r h4 nx4 ⟨bL,L,rfl,hbL,hL,hbL1,hbL2,hk4⟩
 have g4:=(hk4 nx2 (by omega)).trans (hnew _ _ _)
 simp (disch:=omega) only [SS,g4,seval]
 have S4:=S3.keep hk4 (show nx2+1≤nx4 by omega)
 have hLr:∀ (v:Nat) (x:Int),L[v]? = some x→-1≤x∧x<1000000:=fun v x hx=>by have:=hL.rng v x hx; omega
 refine (zNS kP40 rfl S4 (by omega) (by omega) hesl heok hL.len hLr hbL hbL2).mono ?_
 rintro r h5 nx5 ⟨bP,P,rfl,hbP,hP,hbP1,hbP2,hk5⟩
 have sL:SlRd h5 nx5 (.slice (some ⟨bL,0,some 1⟩) N N) encI L:=⟨some ⟨bL,0,some 1⟩,N,by rw [hL.len],fun _=>⟨bL,some 1,false,by omega,rfl,by rw [zY,hk5 bL hbL2]; exact hbL⟩⟩
 have sP:SlRd h5 nx5 (.slice (some ⟨bP,0,some 1⟩) N N) encI P:=⟨some ⟨bP,0,some 1⟩,N,by rw [hP.1],fun _=>⟨bP,some 1,false,hbP2,rfl,by rw [zY]; exact hbP⟩⟩
 have hokI:∀ x∈L,okI x:=fun x hx=>by
  obtain ⟨v,hv⟩:=List.getElem?_of_mem hx
  have:=hL.rng v x hv
  unfold okI; omega
 refine (rway_c sL sP (by rw [hL.len]; omega) hokI).mono ?_
 rintro r h7 nx7 ⟨hw,hk7,hle7⟩
 refine ⟨fun h=>absurd hcond h,fun _=>⟨L,P,by rw [hE]; exact hL,by rw [hE]; exact hP,hw⟩,fun c hc=>?_,by omega⟩
 rw [hk7 c (by omega),hk5 c (by omega),hk4 c (by omega),hold (by omega),hold (by omega)]
 exact K2 c hc
abbrev kV (a b:Int):Value:=.agg ⟨[.int .i64 a,.int .i64 b]⟩
theorem wf_okI {n:Int} (h:okI n):(Lit.int .i64 n).wf=true:=by
 unfold okI at h
 simp [Lit.wf,IntKind.min,IntKind.max,IntKind.bits,IntKind.signed]; omega
theorem lits60 {a b:Int} (ha:okI a) (hb:okI b):Tryz.prog.keyLits 8 60 [.int .i64 a,.int .i64 b]=some [.int .i64 a,.int .i64 b]:=by
 have one:∀ m:Int,okI m→Tryz.prog.keyLits 7 3 [.int .i64 m]=some [.int .i64 m]:=fun m hm=>by
  unfold Program.keyLits
  simp only [u3,wf_okI hm,and_self,if_true]
 unfold Program.keyLits
 simp only [u28,c28,c3,List.length_cons,List.length_nil,Nat.reduceAdd,if_true]
 rw [show List.range 2=[0,1] from rfl]
 simp only [List.mapM_cons,List.mapM_nil,Nat.zero_mul,Nat.one_mul,List.drop_zero,List.drop_succ_cons,List.take_succ_cons,List.take_zero,one a ha,one b hb]
 rfl
theorem keq60 {a b c d:Int} (ha:okI a) (hb:okI b) (hc:okI c) (hd:okI d):zCt Tryz.prog 60 (kV a b) (kV c d)=some (a == c&&b == d):=by
 show eqK Tryz.prog 60 (kV a b) (kV c d)=_
 have f1:∀ a b:Int,(Value.agg ⟨[.int .i64 a,.int .i64 b]⟩).formed Tryz.prog 60=true:=fun a b=>by
  simp [Value.formed,u28,c28]
 unfold eqK
 rw [k28,f1,f1]
 show (bif true&&(true&&true&&true&&true) then eqL (Tryz.prog.keyLits 8 60 [.int .i64 a,.int .i64 b]) (Tryz.prog.keyLits 8 60 [.int .i64 c,.int .i64 d]) else none)=_
 rw [lits60 ha hb,lits60 hc hd]
 show some ((keq .i64 .i64&&ieq a c)&&((keq .i64 .i64&&ieq b d)&&true))=_
 rw [zBX,zAE,zAE]
 simp
def mE:Nat→List GE→List MapEntry
 | _,[]=>[]
 | i,e::es=>{ key:=kV (e.f:Int) (e.t:Int),val:=.int .i64 e.w,born:=i }::mE (i+1) es
theorem mE_app (e:GE):∀ (es:List GE) (i:Nat),mE i (es++[e])=mE i es++[{ key:=kV (e.f:Int) (e.t:Int),val:=.int .i64 e.w,born:=i+es.length }]
 | [],i=>rfl
 | x::es,i=>by
  show _::mE (i+1) (es++[e])=_
  rw [mE_app e es (i+1),List.length_cons,show i+(es.length+1)=i+1+es.length by omega]; rfl
def okE (es:List GE):Prop:=∀ e∈es,okI (e.f:Int)∧okI (e.t:Int)
theorem zKr {a b:Int} (ha:okI a) (hb:okI b):∀ (es:List GE) (i j:Nat),okE es→(∀ e∈es,¬ hasE a b e)→zBf Tryz.prog 60 (kV a b) (mE i es) j=some none
 | [],i,j,_,_=>rfl
 | e::es,i,j,ho,hn=>by
  have h0:=ho e (List.mem_cons_self ..)
  have h1:(a == (e.f:Int)&&b == (e.t:Int))=false:=by
   rw [Bool.eq_false_iff]
   intro h
   simp only [Bool.and_eq_true,beq_iff_eq] at h
   exact hn e (List.mem_cons_self ..) ⟨h.1.symm,h.2.symm⟩
  show (match zCt Tryz.prog 60 (kV a b) (kV (e.f:Int) (e.t:Int)) with | some true=>_ | some false=>zBf Tryz.prog 60 (kV a b) (mE (i+1) es) (Nat.succ j) | none=>none)=_
  rw [keq60 ha hb h0.1 h0.2,h1]
  exact zKr ha hb es (i+1) (j+1) (fun e he=>ho e (List.mem_cons_of_mem _ he)) (fun e he=>hn e (List.mem_cons_of_mem _ he))
theorem zM7 {a b w:Int} (ha:okI a) (hb:okI b):∀ (es:List GE) (i j:Nat),okE es→(∀ e∈es,hasE a b e→e.w=w)→(∃ e∈es,hasE a b e)→∃ p x,zBf Tryz.prog 60 (kV a b) (mE i es) j=some (some (p,x))∧x.val = .int .i64 w
 | [],i,j,_,_,h=>by obtain ⟨e,he,_⟩:=h; cases he
 | e::es,i,j,ho,hw,hx=>by
  have h0:=ho e (List.mem_cons_self ..)
  have key:zBf Tryz.prog 60 (kV a b) (mE i (e::es)) j=(match zCt Tryz.prog 60 (kV a b) (kV (e.f:Int) (e.t:Int)) with | some true=>some (some (j,{ key:=kV (e.f:Int) (e.t:Int),val:=.int .i64 e.w,born:=i })) | some false=>zBf Tryz.prog 60 (kV a b) (mE (i+1) es) (Nat.succ j) | none=>none):=rfl
  rw [key,keq60 ha hb h0.1 h0.2]
  by_cases h:hasE a b e
  ·have h1:(a == (e.f:Int)&&b == (e.t:Int))=true:=by simp [h.1,h.2]
   rw [h1]
   exact ⟨_,_,rfl,by rw [hw e (List.mem_cons_self ..) h]⟩
  ·have h1:(a == (e.f:Int)&&b == (e.t:Int))=false:=by
    rw [Bool.eq_false_iff]
    intro h2
    simp only [Bool.and_eq_true,beq_iff_eq] at h2
    exact h ⟨h2.1.symm,h2.2.symm⟩
   rw [h1]
   obtain ⟨e',he',hh⟩:=hx
   rcases List.mem_cons.1 he' with rfl | he'
   ·exact absurd hh h
   ·exact zM7 ha hb es (i+1) (j+1) (fun e he=>ho e (List.mem_cons_of_mem _ he)) (fun e he=>hw e (List.mem_cons_of_mem _ he)) ⟨e',he',hh⟩
theorem zQJ {a b:Int} (ha:okI a) (hb:okI b):zHN Tryz.prog 60 (kV a b)=true:=by
 unfold zHN
 rw [keq60 ha hb ha hb]; rfl
theorem mup_new {a b w:Int} {h:Hp} {r:Nat} {es:List GE} (ha:okI a) (hb:okI b) (ho:okE es) (hr:hget h r=some (.map (mE 0 es) es.length)) (hn:∀ e∈es,¬ hasE a b e) :
  cMup Tryz.prog 60 h (.map (some r)) (kV a b) (.int .i64 w) = .ok (hset h r (.map (mE 0 es++[{ key:=kV a b,val:=.int .i64 w,born:=es.length }]) (es.length+1))):=by
 unfold cMup
 rw [zQJ ha hb]
 show zDE h r _=_
 unfold zDE
 rw [hr]
 show (match zBf Tryz.prog 60 (kV a b) (mE 0 es) 0 with | some (some (i,e))=>_ | some none=>R.ok (hset h r (.map (lapp (mE 0 es) [{ key:=kV a b,val:=.int .i64 w,born:=es.length }]) (Nat.succ es.length))) | none=>_)=_
 rw [zKr ha hb es 0 0 ho hn,zAA]
theorem lkp60 {a b:Int} {h:Hp} {r:Nat} {es:List GE} (ha:okI a) (hb:okI b) (ho:okE es) (hr:hget h r=some (.map (mE 0 es) es.length)) (h1:∀ e∈es,∀ e'∈es,e.f=e'.f→e.t=e'.t→e.w=e'.w) :
  cLkp Tryz.prog h 60 (.int .i64 0) true (.map (some r)) (kV a b) = .ok (match lw es a b with | some w=>.tuple ⟨[.int .i64 w,.bool true]⟩ | none=>.tuple ⟨[.int .i64 0,.bool false]⟩):=by
 unfold cLkp
 rw [zQJ ha hb]
 show zDE h r (fun es _=>match zBf Tryz.prog 60 (kV a b) es 0 with | some (some (_,x))=>R.ok (zB5 true x.val true) | some none=>.ok (zB5 true (.int .i64 0) false) | none=>.no "lookup - key")=_
 unfold zDE
 rw [hr]
 simp only
 cases hl:lw es a b with
 | none =>
  rw [zKr ha hb es 0 0 ho ((zIS es a b).no hl)]; rfl
 | some w =>
  obtain ⟨⟨e,he,hh,rfl⟩,_⟩:=(zIS es a b).yes w hl
  obtain ⟨p,x,e1,e2⟩:=zM7 (w:=e.w) ha hb es 0 0 ho (fun e' he' hh'=>h1 e' he' e he (by have:=hh.1; have:=hh'.1; omega) (by have:=hh.2; have:=hh'.2; omega)) ⟨e,he,hh⟩
  rw [e1]
  simp only
  rw [e2]; rfl
def wres (gs:List GE) (N:Nat) (w:List Int):Int × Bool:=match w with
 | []=>(0,false)
 | a::r=>if 0≤a∧a<(N:Int) then (match wsum gs (a::r) with | some n=>(n,true) | none=>(0,false)) else (0,false)
def WgtK (gs:List GE) (N:Nat) (w:List Int) (nx:Nat) (h:Hp):KC':=fun r h' nx'=>r = .tuple ⟨[.int .i64 (wres gs N w).1,.bool (wres gs N w).2]⟩∧Keep nx h h'∧nx≤nx'
theorem zED (gs:List GE) (N:Nat) (a:Int) (r:List Int):wres gs N (a::r)=if 0≤a∧a<(N:Int) then (match wsum gs (a::r) with | some n=>(n,true) | none=>(0,false)) else (0,false):=rfl
theorem wres_c {gs cs:List GE} (h:Can gs cs) (N:Nat) (w:List Int):wres cs N w=wres gs N w:=by
 have:=zHQ (lw_least h.lea h.sub)
 cases w with
 | nil=>rfl
 | cons a r=>rw [zED,zED,this]
theorem zOH {gs:List GE} {N:Nat} {w:List Int} {a n:Int} (h0:w[0]? = some a) (ha:0≤a∧a<(N:Int)) (hs:wsum gs w=some n):wres gs N w=(n,true):=by
 cases w with
 | nil=>cases h0
 | cons b r =>
  have:b=a:=by simpa using h0
  subst this
  rw [zED,if_pos ha,hs]
theorem zFx {gs:List GE} {N:Nat} {w:List Int} {a:Int} (h0:w[0]? = some a) (hs:¬ (0≤a∧a<(N:Int))∨wsum gs w=none):wres gs N w=(0,false):=by
 cases w with
 | nil=>rfl
 | cons b r =>
  have:b=a:=by simpa using h0
  subst this
  rw [zED]
  by_cases h:0≤b∧b<(N:Int)
  ·rcases hs with hs | hs
   ·exact absurd h hs
   ·rw [if_pos h,hs]
  ·rw [if_neg h]
def WgJ0 (p:Nat) (cs:List GE) (vw vc:Value) (lo:Nat) (h:Hp) (m:Nat) (vs:List Value) (h':Hp) (nx':Nat):Prop :=
 ∃ i,m=cs.length-i∧i≤cs.length∧vs=[vw,.int .i64 0,.bool false,.map (some p),vc,.int .i64 (cs.length:Int),.int .i64 (i:Int)]∧hget h' p=some (.map (mE 0 (cs.take i)) (cs.take i).length)∧(∀ c,c<lo→c≠p→hget h' c=hget h c)∧lo≤nx'
def WgJ1 (p:Nat) (cs:List GE) (w:List Int) (vw:Value) (h:Hp) (nx:Nat) (m:Nat) (vs:List Value) (h':Hp) (nx':Nat):Prop :=
 ∃ (i:Nat) (S:Int),m=w.length-i∧1≤i∧i≤w.length∧vs=[vw,.int .i64 0,.bool false,.map (some p),.int .i64 S,.int .i64 (i:Int)]∧wsum cs w=(wsum cs (w.drop (i-1))).map (S+·)∧0≤S∧S≤(i:Int)*2147483647∧h'=h∧nx'=nx
theorem can_new {gs cs:List GE} (h:IsCan (gs.map gE) (cs.map gE)) {i:Nat} {e:GE} (he:cs[i]? = some e):∀ e'∈cs.take i,¬ hasE (e.f:Int) (e.t:Int) e':=fun e' he' hh=>by
 obtain ⟨j,hj⟩:=List.getElem?_of_mem he'
 rw [List.getElem?_take] at hj
 split at hj
 ·rename_i hji
  have hup:=h.up
  rw [List.pairwise_map] at hup
  obtain ⟨a1,a2⟩:=List.getElem?_eq_some_iff.1 hj
  obtain ⟨b1,b2⟩:=List.getElem?_eq_some_iff.1 he
  have:=List.pairwise_iff_getElem.1 hup j i a1 b1 hji
  rw [a2,b2] at this
  exact this.ne ⟨hh.1,hh.2⟩
 ·cases hj
theorem wgt_c {s:Bool} {gs cs:List GE} {N:Nat} {w:List Int} {h:Hp} {nx:Nat} {v vw:Value} (hv:SlPx h nx v encG gs) (hvw:SlRd h nx vw encI w) (hw6:w.length≤60) (hwo:∀ x∈w,okI x) (hN:N≤23) (hok:∀ g∈gs,GOk N g) (hl:gs.length≤60) (hcs:IsCan (gs.map gE) (cs.map gE)) :
  Cv Q O s 8 [.agg ⟨[.int .i64 (N:Int),v]⟩,vw] h nx (WgtK gs N w nx h):=by
 generalize hWK:WgtK gs N w nx h=KK
 subst hWK
 refine wgtv ?_
 obtain ⟨a,cap,rfl,hc⟩:=id hv
 obtain ⟨aw,capw,rfl,hcw⟩:=id hvw
 unfold wgt
 simp (disch:=omega) only [SS,seval]
 have no:∀ {h':Hp} {nx':Nat},wres gs N w=(0,false)→Keep nx h h'→nx≤nx'→zOO s (WgtK gs N w nx h) (.slice aw w.length capw) (.pointer (some ⟨nx,0,none⟩)) (.bool true) h' nx':=fun {h' nx'} e k l=>by
  unfold zOO
  simp (disch:=omega) only [SS,seval]
  exact ⟨by rw [e],k,l⟩
 have K0:∀ {o},Keep nx h (hset h nx o):=(Keep.refl _ _).set (Nat.le_refl _)
 by_cases hw0:w.length=0
 ·have:w=[]:=List.eq_nil_of_length_eq_zero hw0
  subst this
  refine ⟨fun _=>no rfl K0 (by omega),fun h=>absurd h (by simp)⟩
 obtain ⟨x0,hx0⟩:=za (l:=w) (i:=0) (by omega)
 obtain ⟨_,bw,spw,row,capw',hbw,hveq,hbwh⟩:=hvw.at hx0
 cases hveq
 have hbw0:hget h bw=some (.cells (ints w) row):=by rw [← zY]; exact hbwh
 have hne:((w.length:Int) == 0)=false:=beq_eq_false_iff_ne.2 (by omega)
 simp (disch:=omega) only [SS,hne,hbw0,zR hx0,seval]
 refine (zMD (hv.keep K0 (Nat.le_succ _)) hN hok hl).mono ?_
 rintro r h1 nx1 ⟨rfl,hk1,hle1⟩
 refine ⟨hle1,?_⟩
 have g1:=hk1 nx (by omega)
 rw [hnew] at g1
 have K1:Keep nx h h1:=K0.trans hk1 (by omega)
 by_cases hx:0≤x0∧x0<(N:Int)
 case neg =>
  rw [decide_eq_false hx]
  simp (disch:=omega) only [SS,seval]
  exact no (zFx hx0 (.inl hx)) K1 (by omega)
 rw [decide_eq_true hx]
 unfold zOO
 have k2:∀ {o:AObj},Keep nx1 h1 (hset h1 nx1 o):=(Keep.refl _ _).set (Nat.le_refl _)
 simp (disch:=omega) only [SS,g1,seval]
 refine (zLP ((hv.keep K1 (by omega)).keep k2 (show nx1≤nx1+1 by omega)) (by omega) hok hl).mono ?_
 rintro r h2 nA ⟨v2,cs',rfl,hcs',hcan,hcok,hcl,hk2,hle2⟩
 have:=zId hcan hcs
 subst this
 have C:=Can.of hcan
 have g2:=hk2 nx1 (by omega)
 rw [hnew] at g2
 obtain ⟨a2,cap2,rfl,hc2⟩:=id hcs'.nw
 have K2:Keep nx h h2:=fun c hc=>by rw [hk2 c (by omega),hold (by omega)]; exact K1 c hc
 have okc:okE cs':=fun e he=>by
  have:=hcok e he
  have h1:e.f<N:=this.1
  have h2:e.t<N:=this.2.1
  constructor <;> unfold okI <;> omega
 have hwc:=wres_c C N w
 have hbw2:hget h2 bw=some (.cells (ints w) row):=(K2 bw hbw).trans hbw0
 simp (disch:=omega) only [SS,seval]
 refine Lp.mk (WgJ0 nx1 cs' (.slice (some ⟨bw,0,spw⟩) w.length capw) (.slice a2 cs'.length cap2) nA h2) cs'.length ⟨0,rfl,by omega,rfl,by rw [g2]; rfl,fun c _ _=>rfl,Nat.le_refl _⟩ ?_
 rintro m _ h3 nx3 ⟨i,rfl,hi,rfl,hm3,hf3,hle3⟩
 rw [wgtb0]
 unfold wgtl0
 simp (disch:=omega) only [SS,seval]
 refine ⟨fun hlt=>?_,fun hge=>?_⟩
 ·obtain ⟨e,he⟩:=za hlt
  have hoe:=okc e (List.mem_of_getElem? he)
  obtain ⟨be,spe,roe,hbe1,hbe2,rfl,hbe⟩:=hc2 (fun e0=>by rw [e0] at hlt; exact absurd hlt (Nat.not_lt_zero _))
  have hbe3:=(hf3 be hbe2 (by omega)).trans hbe
  simp (disch:=omega) only [SS,hbe3,zEn he,seval]
  have hle:(cs'.take i).length=i:=by rw [List.length_take]; omega
  have hmu:=mup_new (h:=hset (hset h3 nx3 (AObj.cells [Value.int IntKind.i64 0,Value.int IntKind.i64 0,Value.int IntKind.i64 0] false)) nx3 (AObj.cells [Value.int IntKind.i64 (e.f:Int),Value.int IntKind.i64 (e.t:Int),Value.int IntKind.i64 e.w] false)) (r:=nx1) (w:=e.w) hoe.1 hoe.2 (fun x hx=>okc x (List.mem_of_mem_take hx)) (by rw [hold (by omega),hold (by omega)]; exact hm3) (can_new hcan he)
  rw [show Q=Tryz.prog from rfl,hmu,zW]
  refine ⟨cs'.length-(i+1),by omega,i+1,rfl,by omega,by rw [zAK (by omega)],?_,fun c h1 h2=>by rw [hold h2,hold (by omega),hold (by omega)]; exact hf3 c h1 h2,by omega⟩
  rw [hnew,List.take_add_one,he]
  show _=some (AObj.map (mE 0 (cs'.take i++[e])) (cs'.take i++[e]).length)
  rw [mE_app,List.length_append,Nat.zero_add]; rfl
 have hie:i=cs'.length:=by omega
 subst hie
 rw [List.take_length] at hm3
 have K3:Keep nx h h3:=fun c hc=>by rw [hf3 c (by omega) (by omega)]; exact K2 c hc
 have hbw3:hget h3 bw=some (.cells (ints w) row):=(K3 bw hbw).trans hbw0
 refine Lp.mk (WgJ1 nx1 cs' w (.slice (some ⟨bw,0,spw⟩) w.length capw) h3 nx3) (w.length-1) ⟨1,0,rfl,by omega,by omega,rfl,?_,by omega,by omega,rfl,rfl⟩ ?_
 ·rw [Nat.sub_self,List.drop_zero]
  cases wsum cs' w <;> simp
 rintro m _ h4 nx4 ⟨i,S,rfl,hi1,hi2,rfl,hS,hS0,hS1,rfl,rfl⟩
 rw [wgtb1]
 unfold wgtl1
 simp (disch:=omega) only [SS,seval]
 refine ⟨fun hlt=>?_,fun hge=>?_⟩
 ·have e1:IntKind.wrap .i64 ((i:Int)-1)=((i-1:Nat):Int):=wS1 (by omega) hi1
  obtain ⟨x1,hx1⟩:=za (l:=w) (i:=i-1) (by omega)
  obtain ⟨y1,hy1⟩:=za (l:=w) (i:=i) (by omega)
  have hy1':w[i-1+1]? = some y1:=by rw [show i-1+1=i by omega]; exact hy1
  obtain ⟨hd1,hd2⟩:=zIn hS hx1 hy1'
  have ox:=hwo x1 (List.mem_of_getElem? hx1)
  have oy:=hwo y1 (List.mem_of_getElem? hy1)
  have hlk:=lkp60 ox oy okc hm3 C.one
  simp (disch:=omega) only [SS,e1,hbw3,zR hx1,zR hy1,seval]
  rw [show Q=Tryz.prog from rfl,hlk,zW]
  cases hlw:lw cs' x1 y1 with
  | none =>
   simp (disch:=omega) only [SS,seval]
   exact ⟨by rw [← hwc,zFx hx0 (.inr (hd2 hlw))],K3,by omega⟩
  | some z =>
   obtain ⟨⟨ez,hez,_,hzw⟩,_⟩:=(zIS cs' x1 y1).yes z hlw
   have hz:=hcok ez hez
   have hz0:0≤ez.w:=hz.2.2.1
   have hz1:ez.w≤2147483647:=hz.2.2.2
   have hwr:IntKind.wrap .i64 (S+z)=S+z:=zAZ (by omega) (by omega)
   simp (disch:=omega) only [SS,hwr,seval]
   refine ⟨w.length-(i+1),by omega,i+1,S+z,rfl,by omega,by omega,by rw [zAK (by omega)],?_,by omega,by omega,rfl,rfl⟩
   have:=hd1 z hlw
   rw [show i-1+1=i+1-1 by omega] at this
   exact this
 ·have hiw:i=w.length:=by omega
  refine ⟨?_,K3,by omega⟩
  rw [← hwc,zOH hx0 hx (zL4 hS (by omega))]
def RwJ0 (p N:Nat) (w:List Int) (vw:Value) (h:Hp) (nx:Nat) (m:Nat) (vs:List Value) (h':Hp) (nx':Nat):Prop :=
 ∃ i,m=w.length-i∧i≤w.length∧vs=[vw,.pointer (some ⟨p,0,none⟩),.int .i64 0,.bool false,.int .i64 0,.int .i64 (i:Int)]∧(∀ x∈w.take i,0≤x∧x<(N:Int))∧h'=h∧nx'=nx
def RwJ1 (p:Nat) (gs:List GE) (w:List Int) (vw:Value) (lo:Nat) (h:Hp) (m:Nat) (vs:List Value) (h':Hp) (nx':Nat):Prop :=
 ∃ (i:Nat) (S:Int),m=w.length-i∧1≤i∧i≤w.length∧vs=[vw,.pointer (some ⟨p,0,none⟩),.int .i64 0,.bool false,.int .i64 S,.int .i64 (i:Int)]∧wsum gs w=(wsum gs (w.drop (i-1))).map (S+·)∧0≤S∧S≤(i:Int)*2147483647∧Keep lo h h'∧lo≤nx'
def RwJ2 (p i:Nat) (S x y:Int) (gs:List GE) (vw:Value) (lo:Nat) (h:Hp) (m:Nat) (vs:List Value) (h':Hp) (nx':Nat):Prop :=
 ∃ (k:Nat) (r:Option Int),m=gs.length-k∧k≤gs.length∧vs=[vw,.pointer (some ⟨p,0,none⟩),.int .i64 0,.bool false,.int .i64 S,.int .i64 (i:Int),.int .i64 (r.getD (-1)),.int .i64 (k:Int)]∧IsLw (gs.take k) x y r∧Keep lo h h'∧lo≤nx'
theorem rwgt_c {s:Bool} {gs:List GE} {N:Nat} {w:List Int} {h:Hp} {nx:Nat} {v vw:Value} (hv:SlPx h nx v encG gs) (hvw:SlRd h nx vw encI w) (hw6:w.length≤60) (hN:N≤23) (hok:∀ g∈gs,GOk N g) (hl:gs.length≤60) :
  Cv Q O s 9 [.agg ⟨[.int .i64 (N:Int),v]⟩,vw] h nx (WgtK gs N w nx h):=by
 refine rwgtv ?_
 obtain ⟨a,cap,rfl,hc⟩:=id hv
 obtain ⟨aw,capw,rfl,hcw⟩:=id hvw
 unfold rwgt
 have K0:∀ {o},Keep nx h (hset h nx o):=(Keep.refl _ _).set (Nat.le_refl _)
 simp (disch:=omega) only [SS,seval]
 refine (zIK (hv.keep K0 (Nat.le_succ _)) hN hok hl).mono ?_
 rintro r h1 nx1 ⟨rfl,hk,hle⟩
 have g1:=hk nx (by omega)
 rw [hnew] at g1
 have K1:Keep nx h h1:=K0.trans hk (by omega)
 simp (disch:=omega) only [SS,seval]
 unfold zOw
 by_cases hw0:w.length=0
 ·have:w=[]:=List.eq_nil_of_length_eq_zero hw0
  subst this
  exact ⟨rfl,K1,by omega⟩
 have hne:((w.length:Int) == 0)=false:=beq_eq_false_iff_ne.2 (by omega)
 obtain ⟨x0,hx0⟩:=za (l:=w) (i:=0) (by omega)
 obtain ⟨_,bw,spw,row,capw',hbw,hveq,hbwh⟩:=hvw.at hx0
 cases hveq
 have hbw1:hget h1 bw=some (.cells (ints w) row):=(K1 bw hbw).trans (by rw [← zY]; exact hbwh)
 simp (disch:=omega) only [SS,hne,seval]
 refine Lp.mk (RwJ0 nx N w (.slice (some ⟨bw,0,spw⟩) w.length capw) h1 nx1) w.length ⟨0,rfl,by omega,rfl,fun x hx=>by simp at hx,rfl,rfl⟩ ?_
 rintro m _ h2 nx2 ⟨i,rfl,hi,rfl,hin,e1,e2⟩
 rw [e1,e2]
 rw [rwgtb0]
 unfold rwgtl0
 have outside:∀ x∈w,¬ (0≤x∧x<(N:Int))→wres gs N w=(0,false):=fun x hx hn=>by
  by_cases h0:0≤x0∧x0<(N:Int)
  ·refine zFx hx0 (.inr ?_)
   cases hs:wsum gs w with
   | none=>rfl
   | some n =>
    obtain ⟨r,rfl⟩:∃ r,w=x0::r:=by
     cases w with
     | nil=>cases hx0
     | cons b r=>exact ⟨r,by rw [show b=x0 by simpa using hx0]⟩
    exact absurd (zOG (N:=N) (fun e he=>⟨(hok e he).1,(hok e he).2.1⟩) r x0 n h0.1 h0.2 hs x hx) hn
  ·exact zFx hx0 (.inl h0)
 by_cases hlt:i<w.length
 ·obtain ⟨x,hx⟩:=za hlt
  have hxm:=List.mem_of_getElem? hx
  simp (disch:=omega) only [SS,show (i:Int)<(w.length:Int) by omega,hlt,hbw1,zR hx,g1,seval]
  refine ⟨⟨fun h0=>⟨by rw [outside x hxm (by omega)],K1,by omega⟩,fun h0=>⟨fun h5=>⟨by rw [outside x hxm (by omega)],K1,by omega⟩,fun h5=>?_⟩⟩,fun h=>absurd trivial h⟩
  refine ⟨w.length-(i+1),by omega,i+1,rfl,by omega,by rw [zAK (by omega)],fun z hz=>?_,rfl,rfl⟩
  rw [List.take_add_one,hx] at hz
  rcases List.mem_append.1 hz with hz | hz
  ·exact hin z hz
  ·rw [show z=x by simpa using hz]; omega
 have hiw:i=w.length:=by omega
 subst hiw
 rw [List.take_length] at hin
 simp (disch:=omega) only [SS,hlt,seval]
 intro _
 have hx00:=hin x0 (List.mem_of_getElem? hx0)
 clear e1 e2
 refine Lp.mk (RwJ1 nx gs w (.slice (some ⟨bw,0,spw⟩) w.length capw) nx1 h1) (w.length-1) ⟨1,0,rfl,by omega,by omega,rfl,?_,by omega,by omega,Keep.refl _ _,Nat.le_refl _⟩ ?_
 ·rw [Nat.sub_self,List.drop_zero]
  cases wsum gs w <;> simp
 rintro m _ h3 nx3 ⟨i,S,rfl,hi1,hi2,rfl,hS,hS0,hS1,hk3,hle3⟩
 have K3:Keep nx h h3:=K1.trans hk3 (by omega)
 rw [rwgtb1]
 unfold rwgtl1
 by_cases hlt:i<w.length
 case neg =>
  simp (disch:=omega) only [SS,hlt,seval]
  intro _
  refine ⟨?_,K3,by omega⟩
  rw [zOH hx0 hx00 (zL4 hS (by omega))]
 obtain ⟨x1,hx1⟩:=za (l:=w) (i:=i-1) (by omega)
 obtain ⟨y1,hy1⟩:=za (l:=w) (i:=i) (by omega)
 have hy1':w[i-1+1]? = some y1:=by rw [show i-1+1=i by omega]; exact hy1
 obtain ⟨hd1,hd2⟩:=zIn hS hx1 hy1'
 simp (disch:=omega) only [SS,show (i:Int)<(w.length:Int) by omega,hlt,seval]
 refine ⟨?_,fun h=>absurd trivial h⟩
 refine Lp.mk (RwJ2 nx i S x1 y1 gs (.slice (some ⟨bw,0,spw⟩) w.length capw) nx1 h1) gs.length ⟨0,none,rfl,by omega,rfl,by rw [List.take_zero]; exact .nil,hk3,hle3⟩ ?_
 clear hk3 hle3 K3
 rintro m _ h4 nx4 ⟨k,r,rfl,hk0,rfl,hlw,hk4,hle4⟩
 have g4:=(hk4 nx (by omega)).trans g1
 have hbw4:=(hk4 bw (by omega)).trans hbw1
 have K4:Keep nx h h4:=K1.trans hk4 (by omega)
 rw [rwgtb2]
 unfold rwgtl2
 have e1:IntKind.wrap .i64 ((i:Int)-1)=((i-1:Nat):Int):=wS1 (by omega) hi1
 by_cases hkl:k<gs.length
 ·obtain ⟨e,he⟩:=za hkl
  have heok:=hok e (List.mem_of_getElem? he)
  obtain ⟨_,be,sp,ro,cap',cs',hbe,hveq,hbh⟩:=hv.at he
  cases hveq
  have hbe4:=(hk4 be (by omega)).trans ((K1 be hbe).trans hbh)
  have hrd:zAa (some 3) (k*3) (flat encG gs++cs') = .ok (.agg ⟨[.int .i64 (e.f:Int),.int .i64 (e.t:Int),.int .i64 e.w]⟩):=rdP (enc:=encG) (k:=3) (fun _=>rfl) he (cs:=cs')
  have htk:gs.take (k+1)=gs.take k++[e]:=by rw [List.take_add_one,he]; rfl
  simp (disch:=omega) only [SS,g4,hbe4,hrd,show (k:Int)<(gs.length:Int) by omega,hkl,e1,hbw4,zR hx1,zR hy1,seval]
  have fin:∀ {vw:Value} {e4:KVl} (r':Option Int),IsLw (gs.take k++[e]) x1 y1 r' →
    zGK s (fun vs h nx_1=>∃ m',m'<gs.length-k∧RwJ2 nx i S x1 y1 gs vw nx1 h1 m' vs h nx_1) e4 (fun x x_1 x_2=>False) vw (.pointer (some ⟨nx,0,none⟩)) (.int .i64 0) (.bool false) (.int .i64 S) (.int .i64 (i:Int)) (.int .i64 (r'.getD (-1))) (.int .i64 (k:Int)) (hset (hset h4 nx4 (.cells [.int .i64 0,.int .i64 0,.int .i64 0] false)) nx4 (.cells [.int .i64 (e.f:Int),.int .i64 (e.t:Int),.int .i64 e.w] false)) (nx4+1):=fun {vw e4} r' hr'=>by
   unfold zGK
   simp (disch:=omega) only [SS,seval]
   exact ⟨gs.length-(k+1),by omega,k+1,r',rfl,by omega,by rw [zAK (by omega)],by rw [htk]; exact hr',(hk4.set (by omega)).set (by omega),by omega⟩
  have hr0:∀ z,r=some z→0≤z:=fun z hz=>by
   obtain ⟨⟨e',he',_,rfl⟩,_⟩:=hlw.yes z hz
   exact (hok e' (List.mem_of_mem_take he')).2.2.1
  refine ⟨⟨fun hf=>⟨fun ht=>⟨fun hn=>?_,fun hn=>⟨fun hl2=>?_,fun hl2=>fin r (hlw.skip fun h=>?_)⟩⟩,fun ht=>fin r (hlw.skip fun h=>?_)⟩,fun hf=>fin r (hlw.skip fun h=>?_)⟩,fun h=>absurd trivial h⟩
  ·refine fin (some e.w) (hlw.step ⟨by simpa using hf,by simpa using ht⟩ fun z hz=>?_)
   have:=hr0 z hz
   rw [hz] at hn
   exact absurd hn (by simp; omega)
  ·refine fin (some e.w) (hlw.step ⟨by simpa using hf,by simpa using ht⟩ fun z hz=>?_)
   rw [hz] at hl2
   exact hl2
  ·cases hr:r with
   | none=>rw [hr] at hn; exact absurd hn (by simp)
   | some z =>
    have:=h.2 z hr
    rw [hr] at hl2
    exact hl2 this
  ·have:=h.1.2
   simp [this] at ht
  ·have:=h.1.1
   simp [this] at hf
 ·have hkg:k=gs.length:=by omega
  subst hkg
  rw [List.take_length] at hlw
  simp (disch:=omega) only [SS,g4,hkl,seval]
  have hru:=hlw.unique (zIS gs x1 y1)
  subst hru
  cases hlw2:lw gs x1 y1 with
  | none =>
   exact fun _=>⟨fun _=>⟨by rw [zFx hx0 (.inr (hd2 hlw2))],K4,by omega⟩,fun h=>absurd (show ((none:Option Int).getD (-1))<0 by decide) h⟩
  | some z =>
   obtain ⟨⟨ez,hez,_,hzw⟩,_⟩:=(zIS gs x1 y1).yes z hlw2
   have hz:=hok ez hez
   have hz0:0≤ez.w:=hz.2.2.1
   have hz1:ez.w≤2147483647:=hz.2.2.2
   have hwr:IntKind.wrap .i64 (S+z)=S+z:=zAZ (by omega) (by omega)
   refine fun _=>⟨fun h=>absurd h (by simp only [Option.getD_some]; omega),fun _=>⟨w.length-(i+1),by omega,i+1,S+z,rfl,by omega,by omega,?_,?_,by omega,by omega,hk4,hle4⟩⟩
   ·rw [zAK (by omega),Option.getD_some,hwr]
   ·have:=hd1 z hlw2
    rw [show i-1+1=i+1-1 by omega] at this
    exact this
def setV (k:Int) (N:Nat) (sr r c:Int) (a:Option Addr) (n cap:Nat):Value:=.agg ⟨[.int .i64 k,.int .i64 (N:Int),.int .i64 sr,.int .i64 0,.slice none 0 0,.int .i64 (N:Int),.slice a n cap,.int .i64 r,.int .i64 c,.int .i64 4,.int .i64 ((N+1:Nat):Int),.slice none 0 0]⟩
def SetK (v:Value) (nx:Nat) (h:Hp):KC':=fun r h' nx'=>r=v∧Keep nx h h'∧nx≤nx'
theorem zMf {ih:List Value→R (List Value)} {off:Nat} {x y z w u:Value} {c:List Value}:zA1 ih off 5 [x,y,z,w,u] c=if off+5≤c.length then ih (c.take off++x::y::z::w::u::c.drop (off+5)) else .no "fill" := by
 by_cases h:off+5≤c.length
 ·rw [if_pos h,zFq (n:=5) (l:=[x,y,z,w,u]) rfl h]; simp
 ·rw [if_neg h]
  show (bif Nat.beq (llen [x,y,z,w,u]) 5 then R.of "fill" (lput [x,y,z,w,u] c off) ih else .no "fill - size")=_
  rw [zAm,if_neg (by simpa using h)]; rfl
theorem hsetup_c {s:Bool} {N n cap:Nat} {a:Option Addr} {sr r c:Int} {h:Hp} {nx:Nat} (hN:N≤23) :
  Cv Q O s 28 [.agg ⟨[.int .i64 (N:Int),.slice a n cap]⟩,.int .i64 sr,.int .i64 r,.int .i64 c] h nx (SetK (setV 1 N sr r c a n cap) nx h):=by
 refine hsetupv ?_
 unfold zQQ
 have hm:min (N:Int) 8191=(N:Int):=by omega
 simp (disch:=omega) only [SS,hm,zAK (show N<1000000000000 by omega),seval]
 refine ⟨fun _=>?_,fun h=>absurd h (by omega)⟩
 unfold zIZ
 simp (disch:=omega) only [SS,zMf,seval]
 exact ⟨rfl,fun c hc=>by rw [hold (by omega),hold (by omega),hold (by omega)],by omega⟩
theorem zPK {s:Bool} {N n cap:Nat} {a:Option Addr} {sr r c:Int} {h:Hp} {nx:Nat} (hN:N≤23) :
  Cv Q O s 29 [.agg ⟨[.int .i64 (N:Int),.slice a n cap]⟩,.int .i64 sr,.int .i64 r,.int .i64 c] h nx (SetK (setV 1 N sr r c a n cap) nx h):=by
 refine rhsetupv ?_
 unfold zKS
 have hm:min (N:Int) 8191=(N:Int):=by omega
 have hx:max (0:Int) ((N+1:Nat):Int)=((N+1:Nat):Int):=by omega
 simp (disch:=omega) only [SS,hm,zAK (show N<1000000000000 by omega),hx,zMf,seval]
 exact ⟨rfl,fun c hc=>by rw [hold (by omega),hold (by omega),hold (by omega)],by omega⟩
theorem psetup_c {s:Bool} {N n cap:Nat} {a:Option Addr} {sr r c:Int} {h:Hp} {nx:Nat} (hN:N≤23) :
  Cv Q O s 10 [.agg ⟨[.int .i64 (N:Int),.slice a n cap]⟩,.int .i64 sr,.int .i64 r,.int .i64 c] h nx (SetK (setV 2 N sr r c a n cap) nx h):=by
 refine psetupv ?_
 unfold zPW
 simp (disch:=omega) only [SS,seval]
 refine (hsetup_c hN).mono ?_
 rintro r1 h1 nx1 ⟨rfl,hk,hle⟩
 have g2:=hk (nx+1) (by omega)
 rw [hnew] at g2
 unfold setV
 simp (disch:=omega) only [SS,g2,seval]
 exact ⟨rfl,fun c hc=>by rw [hold (by omega),hold (by omega),hold (by omega),hold (by omega),hk c (by omega),hold (by omega),hold (by omega)],by omega⟩
theorem rsetup_c {s:Bool} {N n cap:Nat} {a:Option Addr} {sr r c:Int} {h:Hp} {nx:Nat} (hN:N≤23) :
  Cv Q O s 11 [.agg ⟨[.int .i64 (N:Int),.slice a n cap]⟩,.int .i64 sr,.int .i64 r,.int .i64 c] h nx (SetK (setV 2 N sr r c a n cap) nx h):=by
 refine rsetupv ?_
 unfold zOz
 simp (disch:=omega) only [SS,seval]
 refine (zPK hN).mono ?_
 rintro r1 h1 nx1 ⟨rfl,hk,hle⟩
 have g2:=hk (nx+1) (by omega)
 rw [hnew] at g2
 unfold setV
 simp (disch:=omega) only [SS,g2,seval]
 exact ⟨rfl,fun c hc=>by rw [hold (by omega),hold (by omega),hold (by omega),hold (by omega),hk c (by omega),hold (by omega),hold (by omega)],by omega⟩
theorem live_o {s:Bool} {h:Hp} {nx:Nat} {K:KC'} (hk:K (.bool true) h nx):Cv Q O s 6 [] h nx K:=live_cv rfl hk
theorem zMr {a b:Bool}:bin Tryz.prog .eql 4 (.bool a) (.bool b) = .ok (.bool (a == b)):=by
 have ht:zEX Tryz.prog 4=true:=by kernel_rfl
 show R.of "compared" (bif zEX Tryz.prog 4 then eqlB a (.bool b) else none) (fun b=>zBp b)=_
 rw [ht]; rfl
theorem can_ex {gs:List GE} {N:Nat} (hN:N≤23) (hok:∀ g∈gs,GOk N g):∃ cs:List GE,IsCan (gs.map gE) (cs.map gE):=by
 have hcan:=canOf N gs (by omega) hok
 refine ⟨(zAr ltE (zq [] (gs.map gE))).map eG,?_⟩
 rw [hcan.eq]; exact zHb _
structure Bg (p N:Nat) (a2:Option Addr) (cap2:Nat) (gs:List GE) (vl vw:Value) (l w:List Int) (h:Hp) (nx:Nat):Prop where
 g:hget h p=some (.cells [.int .i64 (N:Int),.slice a2 gs.length cap2] false)
 lt:p<nx
 v:SlPx h nx (.slice a2 gs.length cap2) encG gs
 l:SlRd h nx vl encI l
 w:SlRd h nx vw encI w
theorem Bg.keep {p N:Nat} {a2:Option Addr} {cap2:Nat} {gs:List GE} {vl vw:Value} {l w:List Int} {h h':Hp} {nx nx':Nat} (b:Bg p N a2 cap2 gs vl vw l w h nx) (hk:Keep nx h h') (hle:nx≤nx'):Bg p N a2 cap2 gs vl vw l w h' nx' :=
 ⟨by rw [hk p b.lt]; exact b.g,by have:=b.lt; omega,b.v.keep hk hle,b.l.keep hk hle,b.w.keep hk hle⟩
theorem wres_b {gs:List GE} {N:Nat} {w:List Int}:∃ x b,wres gs N w=(x,b):=⟨_,_,rfl⟩
theorem wayR_len (l p:List Int) (t:Int):(wayR l p t).length≤l.length:=by
 unfold wayR
 split
 ·split
  ·cases hw:wg l p _ t with
   | none=>simp
   | some r =>
    have h1:=(zKD l p _ t r hw).1
    have h2:=wg_le hw
    simp only [Option.getD_some,List.length_reverse]
    omega
  ·simp
 ·simp
theorem PwayK.sl {D l:List Int} {cs:List GE} {N sr:Nat} {to:Int} {nx:Nat} {h:Hp} {r:Value} {h':Hp} {nx':Nat} (k:PwayK D l cs N sr to nx h r h' nx'):∃ z,SlRd h' nx' r encI z∧(¬ zEc D l N to→z=[])∧(zEc D l N to→∃ L P,Lev N (tig inf D cs) sr L∧Par (tig inf D cs) L N P∧z=wayR L P to):=by
 obtain ⟨h1,h2,_,_⟩:=k
 rcases Classical.em (zEc D l N to) with hc | hc
 ·obtain ⟨L,P,hL,hP,hs⟩:=h2 hc
  exact ⟨_,hs,fun h=>absurd hc h,fun _=>⟨L,P,hL,hP,rfl⟩⟩
 ·rw [h1 hc]
  exact ⟨[],zHZ _ _,fun _=>rfl,fun h=>absurd h hc⟩
theorem way_one {D l:List Int} {cs:List GE} {N sr:Nat} {to:Int} {z z':List Int} (h1:¬ zEc D l N to→z=[]) (h2:zEc D l N to→∃ L P,Lev N (tig inf D cs) sr L∧Par (tig inf D cs) L N P∧z=wayR L P to)
  (h1':¬ zEc D l N to→z'=[]) (h2':zEc D l N to→∃ L P,Lev N (tig inf D cs) sr L∧Par (tig inf D cs) L N P∧z'=wayR L P to):z=z'∧z.length≤N:=by
 rcases Classical.em (zEc D l N to) with hc | hc
 ·obtain ⟨L,P,hL,hP,rfl⟩:=h2 hc
  obtain ⟨L',P',hL',hP',rfl⟩:=h2' hc
  have:=hL.unique hL'
  subst this
  have:=hP.unique hP'
  subst this
  exact ⟨rfl,by have:=wayR_len L P to; rw [hL.len] at this; exact this⟩
 ·rw [h1 hc,h1' hc]; exact ⟨rfl,Nat.zero_le _⟩
theorem zNR {s:Bool} {n V R C:Int} {v vl vw:Value} {es:List Edg3} {l w:List Int} {h:Hp} {nx:Nat} (hes:SlRd h nx v enc3 es) (hvl:SlRd h nx vl encI l) (hvw:SlRd h nx vw encI w) (hwo:∀ x∈w,okI x) :
  Cv Q O s 3 [.agg ⟨[.int .i64 n,v,.int .i64 V,.int .u8 R,.int .u8 C]⟩,vl,vw] h nx TrueK:=by
 refine pchecksv ?_
 obtain ⟨a,cap,rfl,hc⟩:=id hes
 obtain ⟨al,capl,rfl,hcl⟩:=id hvl
 obtain ⟨aw,capw,rfl,hcw⟩:=id hvw
 unfold zK2
 have K0:∀ {o},Keep nx h (hset h nx o):=(Keep.refl _ _).set (Nat.le_refl _)
 have live:∀ {h':Hp} {nx':Nat} {y1 y2 y3:Value},zCz s TrueK y1 y2 y3 (.bool true) h' nx':=fun {h' nx' y1 y2 y3}=>by
  unfold zCz
  simp (disch:=omega) only [SS,seval]
  exact live_o rfl
 simp (disch:=omega) only [SS,seval]
 refine ⟨fun _=>live,fun hl6=>?_⟩
 by_cases hw6:30<w.length
 ·rw [decide_eq_true (show (30:Int)<(w.length:Int) by omega)]
  exact live
 rw [decide_eq_false (show ¬ (30:Int)<(w.length:Int) by omega)]
 unfold zCz
 simp (disch:=omega) only [SS,seval]
 refine (make_c (hes.keep K0 (Nat.le_succ nx))).mono ?_
 rintro r h1 nx1 ⟨N,sr,ra,rb,v2,gs,rfl,hN0,hN,hsr,hgl,hok,hgs,hle1,hk1⟩
 obtain ⟨a2,cap2,rfl,hc2⟩:=id hgs
 have hG:∀ e∈gs,e.f<N∧e.t<N∧0≤e.w:=fun e he=>⟨(hok e he).1,(hok e he).2.1,(hok e he).2.2.1⟩
 obtain ⟨D,hD⟩:=IsFar.ex (inf:=inf) hG (by decide) hsr
 obtain ⟨cs,hcs⟩:=can_ex (by omega) hok
 have main:∀ to:Int,zEO s TrueK (.slice al l.length capl) (.slice aw w.length capw) (.pointer (some ⟨nx1,0,none⟩)) (.int .i64 (sr:Int)) (.int .i64 ra) (.int .i64 rb) (.int .i64 to) (hset (hset h1 nx1 (.cells [.int .i64 0,.slice none 0 0] false)) nx1 (.cells [.int .i64 (N:Int),.slice a2 gs.length cap2] false)) (nx1+1):=by
  intro to
  have B0:Bg nx1 N a2 cap2 gs (.slice al l.length capl) (.slice aw w.length capw) l w (hset (hset h1 nx1 (.cells [.int .i64 0,.slice none 0 0] false)) nx1 (.cells [.int .i64 (N:Int),.slice a2 gs.length cap2] false)) (nx1+1):=by
   have k1:Keep nx h (hset (hset h1 nx1 (.cells [.int .i64 0,.slice none 0 0] false)) nx1 (.cells [.int .i64 (N:Int),.slice a2 gs.length cap2] false)):=fun c hc=>by rw [hold (by omega),hold (by omega),hk1 c (by omega),hold (by omega)]
   exact ⟨hnew _ _ _,Nat.lt_succ_self _,SlPx.of (hgs.rd.keep (((Keep.refl nx1 h1).set (Nat.le_refl _)).set (Nat.le_refl _)) (Nat.le_succ _)),hvl.keep k1 (by omega),hvw.keep k1 (by omega)⟩
  generalize hset (hset h1 nx1 (.cells [.int .i64 0,.slice none 0 0] false)) nx1 (.cells [.int .i64 (N:Int),.slice a2 gs.length cap2] false)=h2 at B0 ⊢
  generalize nx1+1=nx2 at B0 ⊢
  obtain ⟨wx,wb,hwr⟩:=wres_b (gs:=gs) (N:=N) (w:=w)
  unfold zEO
  simp (disch:=omega) only [SS,B0.g,seval]
  refine (wgt_c B0.v B0.w (by omega) hwo (by omega) hok hgl hcs).mono ?_
  rintro r h3 nx3 ⟨rfl,hk3,hle3⟩
  rw [hwr]
  have B3:=B0.keep hk3 hle3
  simp (disch:=omega) only [SS,B3.g,seval]
  refine (rwgt_c B3.v B3.w (by omega) (by omega) hok hgl).mono ?_
  rintro r h4 nx4 ⟨rfl,hk4,hle4⟩
  rw [hwr]
  have B4:=B3.keep hk4 hle4
  simp (disch:=omega) only [SS,B4.g,seval]
  refine (psetup_c (by omega)).mono ?_
  rintro r h5 nx5 ⟨rfl,hk5,hle5⟩
  have B5:=B4.keep hk5 hle5
  have p5:=B5.lt
  unfold setV
  simp (disch:=omega) only [SS,B5.g,seval]
  have B6:=B5.keep (((Keep.refl nx5 h5).set (o:=.cells [.int .i64 0,.int .i64 0,.int .i64 0,.int .i64 0,.slice none 0 0,.int .i64 0,.slice none 0 0,.int .i64 0,.int .i64 0,.int .i64 0,.int .i64 0,.slice none 0 0] false) (Nat.le_refl _)).set (o:=.cells [.int .i64 2,.int .i64 (N:Int),.int .i64 (sr:Int),.int .i64 0,.slice none 0 0,.int .i64 (N:Int),.slice a2 gs.length cap2,.int .i64 ra,.int .i64 rb,.int .i64 4,.int .i64 ((N+1:Nat):Int),.slice none 0 0] false) (Nat.le_refl _)) (Nat.le_succ _)
  refine (rsetup_c (by omega)).mono ?_
  rintro r h7 nx7 ⟨rfl,hk7,hle7⟩
  have B7:=B6.keep hk7 hle7
  have s7:=(hk7 nx5 (by omega)).trans (hnew _ _ _)
  have p7:=B7.lt
  unfold setV
  simp (disch:=omega) only [SS,seval]
  refine live_o ?_
  refine ⟨Nat.le_refl _,?_⟩
  have B8:=B7.keep (((Keep.refl nx7 h7).set (o:=.cells [.int .i64 0,.int .i64 0,.int .i64 0,.int .i64 0,.slice none 0 0,.int .i64 0,.slice none 0 0,.int .i64 0,.int .i64 0,.int .i64 0,.int .i64 0,.slice none 0 0] false) (Nat.le_refl _)).set (o:=.cells [.int .i64 2,.int .i64 (N:Int),.int .i64 (sr:Int),.int .i64 0,.slice none 0 0,.int .i64 (N:Int),.slice a2 gs.length cap2,.int .i64 ra,.int .i64 rb,.int .i64 4,.int .i64 ((N+1:Nat):Int),.slice none 0 0] false) (Nat.le_refl _)) (Nat.le_succ _)
  have s8:=((((Keep.refl nx7 h7).set (o:=.cells [.int .i64 0,.int .i64 0,.int .i64 0,.int .i64 0,.slice none 0 0,.int .i64 0,.slice none 0 0,.int .i64 0,.int .i64 0,.int .i64 0,.int .i64 0,.slice none 0 0] false) (Nat.le_refl _)).set (o:=.cells [.int .i64 2,.int .i64 (N:Int),.int .i64 (sr:Int),.int .i64 0,.slice none 0 0,.int .i64 (N:Int),.slice a2 gs.length cap2,.int .i64 ra,.int .i64 rb,.int .i64 4,.int .i64 ((N+1:Nat):Int),.slice none 0 0] false) (Nat.le_refl _)) nx5 (by omega)).trans s7
  have t8:=hnew (hset h7 nx7 (.cells [.int .i64 0,.int .i64 0,.int .i64 0,.int .i64 0,.slice none 0 0,.int .i64 0,.slice none 0 0,.int .i64 0,.int .i64 0,.int .i64 0,.int .i64 0,.slice none 0 0] false)) nx7 (.cells [.int .i64 2,.int .i64 (N:Int),.int .i64 (sr:Int),.int .i64 0,.slice none 0 0,.int .i64 (N:Int),.slice a2 gs.length cap2,.int .i64 ra,.int .i64 rb,.int .i64 4,.int .i64 ((N+1:Nat):Int),.slice none 0 0] false)
  generalize hset (hset h7 nx7 (.cells [.int .i64 0,.int .i64 0,.int .i64 0,.int .i64 0,.slice none 0 0,.int .i64 0,.slice none 0 0,.int .i64 0,.int .i64 0,.int .i64 0,.int .i64 0,.slice none 0 0] false)) nx7 (.cells [.int .i64 2,.int .i64 (N:Int),.int .i64 (sr:Int),.int .i64 0,.slice none 0 0,.int .i64 (N:Int),.slice a2 gs.length cap2,.int .i64 ra,.int .i64 rb,.int .i64 4,.int .i64 ((N+1:Nat):Int),.slice none 0 0] false)=h8 at B8 s8 t8 ⊢
  simp (disch:=omega) only [SS,B8.g,seval]
  refine (zMH B8.v B8.l (by omega) hsr hok hgl hD).mono ?_
  rintro r h9 nx9 ⟨rfl,hk9,hle9⟩
  have B9:=B8.keep hk9 hle9
  refine ⟨hle9,?_⟩
  simp (disch:=omega) only [SS,B9.g,B8.g,seval]
  refine (zIy B9.v B9.l (by omega) hsr hok hgl hD).mono ?_
  rintro r h10 nx10 ⟨rfl,hk10,hle10⟩
  have B10:=B9.keep hk10 hle10
  refine ⟨hle10,?_⟩
  rw [show Q=Tryz.prog from rfl,zMr,zW,beq_self_eq_true]
  simp (disch:=omega) only [SS,B10.g,seval]
  refine (zOe B10.v B10.l (by omega) (by omega) hok hgl hcs).mono ?_
  rintro r1 h11 nx11 ⟨S1,hk11,hle11⟩
  have B11:=B10.keep hk11 hle11
  refine ⟨hle11,?_⟩
  simp (disch:=omega) only [SS,B11.g,B10.g,seval]
  refine (zLq B11.v B11.l (by omega) (by omega) hok hgl hcs).mono ?_
  rintro r2 h12 nx12 ⟨S2,hk12,hle12⟩
  have B12:=B11.keep hk12 hle12
  refine ⟨hle12,?_⟩
  have htl:(tigL N l cs).length≤60:=by
   unfold tigL
   split
   ·have h1:(tig inf l cs).length≤cs.length:=zKH
    have h2:=zGb hcs
    omega
   ·simp
  have hto:∀ e∈tigL N l cs,GOk N e:=fun e he=>by
   unfold tigL at he
   split at he
   ·exact hok e ((Can.of hcs).sub e (List.mem_filter.1 he).1)
   ·cases he
  refine (sme_c (SlPx.of (S1.rd.keep hk12 hle12)) (SlPx.of S2.rd) (show N≤4096 by omega) hto (by omega)).mono ?_
  rintro r h13 nx13 ⟨rfl,e1,e2⟩
  rw [e1,e2]
  refine ⟨Nat.le_refl _,?_⟩
  simp (disch:=omega) only [SS,B12.g,seval]
  refine (pway_c B12.v B12.l (by omega) (by omega) hsr hok hgl hcs hD).mono ?_
  intro r3 h14 nx14 k14
  have hk14:=k14.2.2.1
  have hle14:=k14.2.2.2
  obtain ⟨z1,sz1,za1,zb1⟩:=k14.sl
  have B14:=B12.keep hk14 hle14
  refine ⟨hle14,?_⟩
  simp (disch:=omega) only [SS,B14.g,B12.g,seval]
  refine (rpway_c B14.v B14.l (by omega) (by omega) hsr hok hgl hcs hD).mono ?_
  intro r4 h15 nx15 k15
  have hk15:=k15.2.2.1
  have hle15:=k15.2.2.2
  obtain ⟨z2,sz2,za2,zb2⟩:=k15.sl
  have B15:=B14.keep hk15 hle15
  refine ⟨hle15,?_⟩
  obtain ⟨rfl,hzl⟩:=way_one za1 zb1 za2 zb2
  refine (samei_c (sz1.keep hk15 hle15) sz2 (by omega)).mono ?_
  rintro r h16 nx16 ⟨rfl,e1,e2⟩
  rw [e1,e2]
  have kk:Keep (nx7+1) h8 h15:=((((((hk9.trans hk10 (by omega)).trans hk11 (by omega)).trans hk12 (by omega))).trans hk14 (by omega))).trans hk15 (by omega)
  have s15:=(kk nx5 (by omega)).trans s8
  have t15:=(kk nx7 (by omega)).trans t8
  refine ⟨Nat.le_refl _,?_⟩
  simp (disch:=omega) only [SS,s15,t15,beq_self_eq_true,show Q=Tryz.prog from rfl,zMr,seval]
  exact ⟨rfl,fun h=>absurd trivial h⟩
 simp (disch:=omega) only [SS,seval]
 refine ⟨fun h0=>?_,fun _=>main 0⟩
 obtain ⟨x0,hx0⟩:=za (l:=w) (i:=0) (by omega)
 obtain ⟨_,bw,spw,row,capw',hbw,hveq,hbwh⟩:=hvw.at hx0
 cases hveq
 have hbw1:hget h1 bw=some (.cells (ints w) row):=(hk1 bw (by omega)).trans ((hold (by omega)).trans (by rw [← zY]; exact hbwh))
 simp (disch:=omega) only [SS,hbw1,zR hx0,seval]
 exact main x0
open Go.ChangeShapes Go.WideShapes Go.ChangeAt Go.RowKit
theorem O_ok:zHG Tryz.prog O:=fun f g h=>by
 unfold O at h
 cases h1:Nat.beq f 6 with
 | true =>
  have e:=Nat.eq_of_beq_eq_true h1
  subst e
  rw [h1] at h
  cases h
  exact zQC
 | false =>
  rw [h1] at h
  cases h2:Nat.beq f 43 with
  | true =>
   have e:=Nat.eq_of_beq_eq_true h2
   subst e
   rw [h2] at h
   cases h
   exact combF_ok
  | false=>rw [h2] at h; cases h
theorem w27:Tryz.prog.underlying 27=some (.slice 2):=by kernel_rfl
theorem w28:Tryz.prog.underlying 28=some (.slice 3):=by kernel_rfl
theorem okI_wf {n:Int} (h:(Lit.int .i64 n).wf=true):okI n:=by
 simp [Lit.wf,IntKind.min,IntKind.max,IntKind.signed,IntKind.bits] at h
 unfold okI
 omega
abbrev CameI (w:World) (v:Value) (ys:List Int):Prop:=(ys=[]∧v = .slice none 0 0)∨∃ b off cap,v = .slice (some ⟨b,off,none⟩) ys.length cap∧zEf w b off (flat encI ys)
theorem in_three {α β γ:Type} {e3:α→List Value} {e1:β→List Value} {e2:γ→List Value} {w:World} {v u t:Value} {zs:List α} {ys:List β} {xs:List γ} (hpl:∀ z,zAI (e3 z)=true) (hpl1:∀ z,zAI (e1 z)=true) (hpl2:∀ z,zAI (e2 z)=true)
  (h:(zs=[]∧v = .slice none 0 0)∨∃ b off cap,v = .slice (some ⟨b,off,none⟩) zs.length cap∧zEf w b off (flat e3 zs))
  (g:(ys=[]∧u = .slice none 0 0)∨∃ b off cap,u = .slice (some ⟨b,off,none⟩) ys.length cap∧zEf w b off (flat e1 ys))
  (f:(xs=[]∧t = .slice none 0 0)∨∃ b off cap,t = .slice (some ⟨b,off,none⟩) xs.length cap∧zEf w b off (flat e2 xs)) :
  ∃ ps v' u' t',InW w ps∧VR (rhoL ps) v' v∧VR (rhoL ps) u' u∧VR (rhoL ps) t' t∧SlRd (hpL 0 ps hp0) ps.length v' e3 zs∧SlRd (hpL 0 ps hp0) ps.length u' e1 ys∧SlRd (hpL 0 ps hp0) ps.length t' e2 xs:=by
 obtain ⟨a1,a2⟩:=in_at (ps:=inPs v (flat e3 zs)++(inPs u (flat e1 ys)++inPs t (flat e2 xs))) (k:=0) h (fun p hp=>by rw [zIY hp]; rfl)
 obtain ⟨b1,b2⟩:=in_at (ps:=inPs v (flat e3 zs)++(inPs u (flat e1 ys)++inPs t (flat e2 xs))) (k:=(inPs v (flat e3 zs)).length) g (fun p hp=>by rw [zIY hp,List.getElem?_append_right (Nat.le_refl _),Nat.sub_self]; rfl)
 obtain ⟨c1,c2⟩:=in_at (ps:=inPs v (flat e3 zs)++(inPs u (flat e1 ys)++inPs t (flat e2 xs))) (k:=(inPs v (flat e3 zs)).length+(inPs u (flat e1 ys)).length) f (fun p hp=>by rw [zIY hp,List.getElem?_append_right (by omega),List.getElem?_append_right (by omega)]; simp)
 refine ⟨_,_,_,_,fun p hp=>?_,a1,b1,c1,a2,b2,c2⟩
 rcases List.mem_append.1 hp with hp | hp
 ·exact in_w hpl h _ p hp
 ·rcases List.mem_append.1 hp with hp | hp
  ·exact in_w hpl1 g _ p hp
  ·exact in_w hpl2 f _ p hp
theorem open_i {H:Type} {enc:TypeId × Value→H} {w:World} {sp:Nat→Bool} {t e:TypeId} {r:Reach} {b0:Nat} {v:Value} {d:DataW H} {ps:List MemPlace} (ht:Tryz.prog.underlying t=some (.slice e)) (he:Tryz.prog.underlying e=some (.int .i64)) (hc:Tryz.prog.cellsOf e=1)
  (hval:Value.okWide Tryz.prog w r b0 t v) (h:DataW.Trod enc Tryz.prog w 0 sp true t v d ps) :
  ∃ ys:List Int,(∀ x∈ys,okI x)∧CameI w v ys:=by
 obtain ⟨a,len,cap,rfl⟩:=okWide_slice ht hval
 unfold Value.okWide at hval
 rw [ht] at hval
 obtain ⟨fuel,hf⟩:=h
 have hf:DataW.trod enc Tryz.prog w 0 sp true fuel t [.slice a len cap]=some (d,ps):=hf
 exact zPk (e3:=encI) (k:=1) ht hc okI (fun n c y hy=>by
  obtain ⟨m,hm,_,hw⟩:=DataW.trod_int he hy
  exact ⟨m,hm,okI_wf hw⟩) hf hval
abbrev CameC (W:World) (sl:Value) (zs:List Edg3):Prop:=(zs=[]∧sl = .slice none 0 0)∨∃ b off cap,sl = .slice (some ⟨b,off,none⟩) zs.length cap∧zEf W b off (flat enc3 zs)
theorem walkPC {n V R C:Int} {sl v1 v2:Value} {zs:List Edg3} {l p:List Int} {W:World} (hz:CameC W sl zs) (hl:CameI W v1 l) (hp:CameI W v2 p) (hpo:∀ x∈p,okI x) :
  Calls Tryz.prog 3 #[.agg ⟨[.int .i64 n,sl,.int .i64 V,.int .u8 R,.int .u8 C]⟩,v1,v2] W fun e w'=>e = .returned (.bool true)∧Below W.heap.size W w':=by
 obtain ⟨ps,v',u',t',h1,h2,h3,h4,h5,h6,h7⟩:=in_three (e3:=enc3) (e1:=encI) (e2:=encI) (fun _=>rfl) (fun _=>rfl) (fun _=>rfl) hz hl hp
 exact callsIn_wide.1 (run_ok (n:=0) pok O_ok (zNR (n:=n) (V:=V) (R:=R) (C:=C) h5 h6 h7 hpo) (in_rel h1) (in_fr _) (.cons (.agg (.cons (.int _ _) (.cons h2 (.cons (.int _ _) (.cons (.int _ _) (.cons (.int _ _) .nil)))))) (.cons h3 (.cons h4 .nil))))
end Go.Proofs.YtfebipifehfjlaaGreat
