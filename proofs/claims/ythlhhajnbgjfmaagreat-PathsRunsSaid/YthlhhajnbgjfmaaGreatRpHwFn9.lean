/- Parts of the proof: HwFn9: each statement bears its own conditions. -/
import Derived.Test.YthlhhajnbgjfmaaGreatRpHwFn8
namespace Go.Proofs.YthlhhajnbgjfmaaGreat
open Go Go.Ax Go.Ax.HdH Go.ChangeShapes Go.WideShapes Go.ChangeAt Go.RowKit
set_option linter.all false
set_option maxHeartbeats 1000000
set_option maxRecDepth 1000000
variable {aB:aw Nat} {W:aa Stop} {cs:aa X} {b:Nat} {gs:aa GE} {N:Nat} {bA:X} {args:aa X} {R:aP} {fS:Nat} {bp:X} {fB:Nat->al} {d:Int} {ba a2:X} {f:FuncId} {i k:Nat} {b9:aa Stop} {K:bN} {aL:aP} {x y:Stop} {D:aa Int} {j:Nat} {Z:b8} {bv aD cF:X} {m:String} {bG:al} {dE:Int} {d6 aK:aP} {b3 db c2:Nat} {ac:ae} {V C:Int}
def Sv:aa (aa Nat):=[[7,8]]
def afe(s:al)(ba bv:X)(h:ae)(U:Nat)(N:aP)(aL:aP)(R:aP):Prop:=cP ba λa=>cG bv a (af (gi 1 ba (some bv) none none) λc=>af (gi 1 ba none (some bv) none) λd=>dG (dO (nE Q .copy [29,29] h U [c,d])) λe f g=>U<=g/\ln bv e λi=>N [ba,i] f g) (aL [ba,bv] h U)
def RW(s:al)(K:bN)(co ev Ih:X)(au:ae)(a0:Nat):Prop:=br Ih (False) (af (ou (.int .i64) ev) λa=>dY (sP [(ad 0)] a a) au a0 λb c d=>dG (dO (nE Q .copy [29,29] c d [b,co])) λe f g=>bE (bU Q s Sv 168 0) [b,e] f g [(0,λi j k=>K (bb i 0) j k)] (λ_ _ _=>False))
def aia:cO:=λs ah t1 h U K=>cG t1 (ad 0) (False) (cP ah λb=>af (ou (.int .u64) b) λc=>af (ou (.int .u64) t1) λd=>aV s 256 [c,d] h U λe f g=>af (cp e 0) λi=>af (cp e 1) λj=>bz .gtr 238 i (.int .u64 0) (RW s K ah j (.bool true) f g) (bt .gtr 238 j (.int .u64 9223372036854775807) λl=>(RW s K ah j l f g)))
theorem awU{s:al}{h:ae}{U:Nat}{N:aP}:bU Q s Sv 168 0 [ba,bv] h U N [(0,aL)] R=afe s ba bv h U N aL R:=by kernel_rfl
theorem aze:cX 168 aia:=cZ Sv
def mul:cO:=λs ah t1 h U K=>aV s 352 [ah,t1] h U λa b c=>af (cp a 0) λd=>af (cp a 1) λe=>K (.tuple ⟨[d,e]⟩) b c
theorem aBr:cX 256 mul:=cZ []
def agQ:cO:=λs ah t1 h U K=>bt .and 188 ah (.int .u64 4294967295) λa=>bt .shr 188 ah (.int .u64 32) λb=>bt .and 188 t1 (.int .u64 4294967295) λc=>bt .shr 188 t1 (.int .u64 32) λd=>bt .mul 188 a c λe=>bt .mul 188 b c λf=>bt .shr 188 e (.int .u64 32) λg=>bt .add 188 f g λi=>bt .and 188 i (.int .u64 4294967295) λj=>bt .shr 188 i (.int .u64 32) λk=>bt .mul 188 a d λl=>bt .add 188 j l λm=>bt .mul 188 b d λn=>bt .add 188 n k λo=>bt .shr 188 m (.int .u64 32) λp=>bt .add 188 o p λq=>bt .mul 188 ah t1 λr=>K (.tuple ⟨[q,r]⟩) h U
theorem awV:cX 352 agQ:=cZ []
def aib:cU:=λs ah h U K=>cP ah λa=>K a h U
theorem azf:cW 169 aib:=cY []
def aic:cU:=λs ah h U K=>eQ Q s (jm Q h U [] "Len" ah) λa b c=>bt .sub 3 a (ad 1) λd=>eQ Q s (jm Q b c [(ad 0),d] "Swap" ah) λe f g=>aV s 257 [ah,(ad 0),d] f g λi j k=>eQ Q s (jm Q j k [] "Pop" ah) λl m n=>K l m n
theorem azg:cW 170 aic:=cY []
def agR:cO:=λs ah t1 h U K=>eQ Q s (jm Q h U [t1] "Push" ah) λa b c=>eQ Q s (jm Q b c [] "Len" ah) λd e f=>bt .sub 3 d (ad 1) λg=>aV s 258 [ah,g] e f λi j k=>K (.tuple ⟨[]⟩) j k
theorem awW:cX 171 agR:=cZ []
def aBs:aa (aa Nat):=[[0,1]]
def Es:cO:=λs ah t1 h U K=>bE (bU Q s aBs 258 0) [ah,t1] h U [(0,λa b c=>K (.tuple ⟨[]⟩) b c)] (λ_ _ _=>False)
def agS:ge:=λs ah t1 t2 h U K=>hx 2 ah t1 λa=>ax h 1 a λc=>hx 2 ah t2 λd=>ax h 1 d λf=>bt .lss 2 c f λg=>K g h U
theorem awX:gp 519 agS:=gu []
def aid:cU:=λs ah h U K=>af (bs ah) λa=>bS h a λb=>cP b λc=>bt .sub 3 c (ad 1) λd=>af (bs ah) λe=>bS h e λf=>gT 2 h 2 f d λi=>bX [(ad 0),(ad 0)] h U λj k l=>af (aS k 2 j i) λm=>af (bs ah) λn=>bS m n λo=>af (gi 2 o none (some d) none) λp=>af (bs ah) λq=>af (aS m 1 q p) λr=>aN 2 r j λt=>af (.ok (Value.iface 227 t)) λaO=>K aO r l
theorem azh:cW 520 aid:=cY []
def agT:cO:=λs ah t1 h U K=>af (Ao Q 227 true t1) λa=>af (cp a 0) λb=>af (cp a 1) λc=>bX [(ad 0),(ad 0)] h U λd e f=>af (aS e 2 d b) λg=>br c (af (bs ah) λi=>bS g i λj=>aN 2 g d λk=>dY (fc 1 [(ad 0),(ad 0)] [(0,2,k)]) g f λl m n=>dG (dO (dM 2 m n j l)) λo p q=>n<=q/\af (bs ah) λr=>af (aS p 1 r o) λt=>K (.tuple ⟨[]⟩) t q) (K (.tuple ⟨[]⟩) g f)
theorem awY:cX 521 agT:=cZ []
def agU:ge:=λs ah t1 t2 h U K=>gT 2 h 2 ah t2 λb=>gT 2 h 2 ah t1 λd=>hx 2 ah t1 λe=>af (aS h 2 e b) λf=>hx 2 ah t2 λg=>af (aS f 2 g d) λi=>K (.tuple ⟨[]⟩) i U
theorem awZ:gp 522 agU:=gu []
def Aw:aa (aa Nat):=[[1,5,6,26,27,28],[5,6,9],[5,6,9,10,74,75,76]]
def aaZ(s:al)(aD bA bp kS r3 nt:X)(h:ae)(U:Nat)(N:aP)(aL:aP)(R:aP):Prop:=cG nt r3 (gT 3 h 3 kS nt λc=>bX [(ad 0),(ad 0),(ad 0)] h U λd e f=>af (aS e 3 d c) λg=>ax g 0 d λj=>d2 g 1 bp j λl=>aN 3 g d λm=>dY (fc 1 [(ad 0),(ad 0),(ad 0)] [(0,3,m)]) g f λn o p=>dG (dO (dM 3 o p l n)) λq r t=>p<=t/\bn 0 d λaO=>bS r aO λv=>c7 aO v (hx 1 bp v λw=>af (aS r 1 w q) λx=>cj nt λy=>N [aD,bA,bp,kS,r3,y] x t) 1 [g]) (aL [aD,bA,bp,kS,r3,nt] h U)
def aa0(s:al)(bA bp cF dd qp xD IM:X)(h:ae)(U:Nat)(N:aP)(d6:aP)(R:aP):Prop:=cG IM xD (gT 3 h 3 qp IM λc=>bX [(ad 0),(ad 0),(ad 0)] h U λd e f=>af (aS e 3 d c) λg=>ax g 1 dd λj=>ax g 2 d λl=>bt .add 2 j l λm=>ax g 1 d λo=>d2 g 1 bA o λq=>bz .lss 2 m q (ax g 1 d λaO=>hx 1 bA aO λv=>af (aS g 1 v m) λw=>af (.ok (Value.iface 225 cF)) λx=>ax w 1 d λz=>af (cV [(ad 0),(ad 0)] [(0,1,z),(1,1,m)]) λbC=>af (.ok (Value.iface 227 bC)) λbV=>aV s 171 [x,bV] w f λbM bg bW=>cj IM λb7=>N [bA,bp,cF,dd,qp,xD,b7] bg bW) (cj IM λbI=>N [bA,bp,cF,dd,qp,xD,bI] g f)) (d6 [bA,bp,cF,dd,qp,xD,IM] h U)
def aa1(s:al)(bA bp cF:X)(h:ae)(U:Nat)(N:aP)(aK:aP)(R:aP):Prop:=af (bs cF) λa=>bS h a λb=>aV s 169 [b] h U λc d e=>jY c (ad 0) (af (bs cF) λg=>bS d g λi=>gT 2 d 2 i (ad 0) λk=>bX [(ad 0),(ad 0)] d e λl m n=>af (aS m 2 l k) λo=>af (.ok (Value.iface 225 cF)) λp=>aV s 170 [p] o n λq r t=>ax r 1 l λv=>ax r 0 l λx=>d2 r 1 bA x λz=>bz .gtr 2 v z (N [bA,bp,cF] r t) (ax r 0 l λbM=>d2 r 1 bp bM λbW=>cP bW λb7=>bE (bU Q s Aw 97 2) [bA,bp,cF,l,bW,b7,(ad 0)] r t [(4,λbI cJ cB=>N [(bb bI 0),(bb bI 1),(bb bI 2)] cJ cB)] (λ_ _ _=>False))) (aK [bA,bp,cF] d e)
def aff:cO:=λs ah t1 h U K=>bH ah h U λa b c=>dY (fc 1 [(ad 0)] [(0,1,(ad 4611686018427387904))]) b c λd e f=>ax e 0 a λi=>aV s 168 [d,i] e f λj k l=>hx 1 j t1 λm=>af (aS k 1 m (ad 0)) λn=>ax n 0 a λp=>dY (sP [ay] p p) n l λq r t=>aN 2 r a λaO=>aV s 98 [aO] r t λv w x=>af (w1 1 none v) λy=>cP y λz=>bE (bU Q s Aw 97 0) [t1,j,q,y,z,(ad 0)] w x [(0,λbC bV bM=>af (cV [(ad 0),(ad 0)] [(0,1,(bb bC 0)),(1,1,(ad 0))]) λbg=>dY (fc 1 [(ad 0),(ad 0)] [(0,2,bg)]) bV bM λbW b7 bI=>bH bW b7 bI λcJ cB ds=>bE (bU Q s Aw 97 1) [(bb bC 1),(bb bC 2),cJ] cB ds [(2,λde eN am=>K (bb de 0) eN am)] (λ_ _ _=>False))] (λ_ _ _=>False)
theorem aqt{s:al}{g A B:X}{h:ae}{U:Nat}{N:aP}:bU Q s Aw 97 0 [aD,bA,bp,g,A,B] h U N [(0,aL)] R=aaZ s aD bA bp g A B h U N aL R:=by kernel_rfl
theorem aqu{s:al}{g E B A:X}{h:ae}{U:Nat}{N:aP}:bU Q s Aw 97 2 [bA,bp,cF,g,E,B,A] h U N [(4,d6)] R=aa0 s bA bp cF g E B A h U N d6 R:=by kernel_rfl
theorem aqv{s:al}{h:ae}{U:Nat}{N:aP}:bU Q s Aw 97 1 [bA,bp,cF] h U N [(2,aK)] R=aa1 s bA bp cF h U N aK R:=by kernel_rfl
theorem aun:cX 97 aff:=cZ Aw
def afg:cO:=λs ah t1 h U K=>bH ah h U λa b c=>aN 2 b a λd=>aV s 83 [d] b c λe f g=>bz .eql 30 e (ad 0) (bz .geq 3 t1 (ad 0) (ax f 0 a λl=>bt .lss 3 t1 l λm=>K m f g) (K (.bool false) f g)) (K (.bool false) f g)
theorem auo:cX 96 afg:=cZ []
def afh:ge:=λs ah t1 t2 h U K=>bH ah h U λa b c=>aN 2 b a λd=>aV s 96 [d,t1] b c λe f g=>br e (aN 2 f a λi=>aV s 97 [i,t1] f g λj k l=>aV s 85 [j,t2] k l λm n o=>K m n o) (K (.bool false) f g)
theorem aup:gp 38 afh:=gu []
def AU:aa (aa Nat):=[[1,2,5,6],[2,5,7],[2,5,7,8]]
def afi(s:al)(aD a2 bA bp:X)(h:ae)(U:Nat)(N:aP)(aL:aP)(R:aP):Prop:=ax h 0 a2 λb=>cG bp b (dY (fc 1 [(ad 0)] [(0,1,(ad 4611686018427387904))]) h U λd e f=>dG (dO (dM 1 e f bA d)) λg i j=>cj bp λk=>N [aD,a2,g,k] i j) (aL [aD,a2,bA,bp] h U)
def Lc(s:al)(N:aP)(d6:aP)(R:aP)(cE ee fv hY oY IF:X)(au:ae)(a0:Nat):Prop:=br IF (ax au 1 oY λb=>ax au 0 oY λd=>d2 au 1 ee d λf=>ax au 2 oY λi=>bt .add 2 f i λj=>hx 1 ee b λk=>af (aS au 1 k j) λl=>cj hY λm=>N [cE,ee,fv,m] l a0) (cj hY λn=>N [cE,ee,fv,n] au a0)
def afj(s:al)(a2 bA ba bv:X)(h:ae)(U:Nat)(N:aP)(d6:aP)(R:aP):Prop:=ax h 1 a2 λb=>cP b λc=>cG bv c (ax h 1 a2 λf=>gT 3 h 3 f bv λi=>bX [(ad 0),(ad 0),(ad 0)] h U λj k l=>af (aS k 3 j i) λm=>ax m 0 j λo=>d2 m 1 bA o λq=>bz .lss 2 q (ad 4611686018427387904) (ax m 0 j λaO=>d2 m 1 bA aO λw=>ax m 2 j λy=>bt .add 2 w y λz=>ax m 1 j λbV=>d2 m 1 bA bV λbg=>bt .lss 2 z bg λbW=>(Lc s N d6 R a2 bA ba bv j bW m l)) (Lc s N d6 R a2 bA ba bv j (.bool false) m l)) (d6 [a2,bA,ba,bv] h U)
def afk(s:al)(a2 bA ba:X)(h:ae)(U:Nat)(N:aP)(aK:aP)(R:aP):Prop:=ax h 0 a2 λb=>cG ba b (bE (bU Q s AU 37 2) [a2,bA,ba,(ad 0)] h U [(4,λd e f=>cj (bb d 2) λg=>N [(bb d 0),(bb d 1),g] e f)] (λ_ _ _=>False)) (aK [a2,bA,ba] h U)
def aie:cO:=λs ah t1 h U K=>bH ah h U λa b c=>bE (bU Q s AU 37 0) [t1,a,ay,(ad 0)] b c [(0,λd e f=>hx 1 (bb d 2) (bb d 0) λg=>af (aS e 1 g (ad 0)) λi=>bE (bU Q s AU 37 1) [(bb d 1),(bb d 2),(ad 0)] i f [(2,λj k l=>K (bb j 1) k l)] (λ_ _ _=>False))] (λ_ _ _=>False)
theorem aw0{s:al}{h:ae}{U:Nat}{N:aP}:bU Q s AU 37 0 [aD,a2,bA,bp] h U N [(0,aL)] R=afi s aD a2 bA bp h U N aL R:=by kernel_rfl
theorem aw2{s:al}{h:ae}{U:Nat}{N:aP}:bU Q s AU 37 2 [a2,bA,ba,bv] h U N [(4,d6)] R=afj s a2 bA ba bv h U N d6 R:=by kernel_rfl
theorem aw5{s:al}{h:ae}{U:Nat}{N:aP}:bU Q s AU 37 1 [a2,bA,ba] h U N [(2,aK)] R=afk s a2 bA ba h U N aK R:=by kernel_rfl
theorem azi:cX 37 aie:=cZ AU
def agV:sr:=λs ah t1 t2 t3 h U K=>bH ah h U λa b c=>aN 2 b a λd=>aV s 94 [d,t1,t2,t3] b c λe f g=>bX [(ad 0),(ad 0),(ad 0),(ad 0),ay,(ad 0),ay,(ad 0),(ad 0),(ad 0),(ad 0),ay] f g λi j k=>af (aS j 12 i e) λl=>aN 12 l i λm=>ax l 10 i λo=>cg 75 [m,o] l k λp q r=>aN 12 q i λt=>jt 12 i t (cg 76 [t,ay,p] q r λaO v w=>af (cp aO 0) λx=>bX [(ad 0),(ad 0),(ad 0),(ad 0),ay,ay,ay,(ad 0),(ad 0)] v w λy z bC=>af (aS z 9 y x) λbV=>af (cp aO 1) λbM=>mi bM (K (.tuple ⟨[ay,bM]⟩) bV bC) (bn 0 y λbW=>bn 2 bW λb7=>ax bV 2 b7 λcJ=>aV s 88 [cJ] bV bC λcB ds de=>K (.tuple ⟨[cB,bM]⟩) ds de)) 1 [l]
theorem aw6:uC 35 agV:=vK []
def adi:sr:=λs ah t1 t2 t3 h U K=>bH ah h U λa b c=>bX [(ad 0),(ad 0),(ad 0),(ad 0),ay,(ad 0),ay,(ad 0),(ad 0),(ad 0),(ad 0),ay] b c λd e f=>aN 2 e a λg=>aV s 22 [g,t1,t2,t3] e f λi j k=>bX [(ad 0),(ad 0),(ad 0),(ad 0),ay,(ad 0),ay,(ad 0),(ad 0),(ad 0),(ad 0),ay] j k λl m n=>af (aS m 12 l i) λo=>bn 0 l λp=>bn 0 p λq=>af (aS o 1 q (ad 2)) λr=>aN 12 r l λt=>af (aS r 12 d t) λaO=>aN 12 aO d λv=>K v aO n
theorem aqw:uC 94 adi:=vK []
def adj:cU:=λs ah h U K=>bH ah h U λa b c=>aN 5 b a λd=>aV s 15 [d] b c λe f g=>af (cp e 0) λi=>af (cp e 1) λj=>af (cp e 2) λk=>af (cp e 3) λl=>bX [(ad 0),ay] f g λm n o=>af (aS n 2 m i) λp=>aN 2 p m λq=>aV s 35 [q,j,k,l] p o λr t aO=>af (cp r 0) λv=>af (cp r 1) λw=>aV s 36 [] t aO λx y z=>br x (bz .eql 30 w (ad 0) (aN 2 y m λbV=>aV s 37 [bV,j] y z λbM bg bW=>aV s 19 [v,bM] bg bW λb7 bI cJ=>br b7 (aN 2 bI m λcB=>aV s 38 [cB,j,v] bI cJ λds de eN=>K ds de eN) (K (.bool false) bI cJ)) (K (.bool false) y z)) (K (.bool false) y z)
theorem aqx:cW 7 adj:=cY []
theorem afl:lp Tryz.prog 225 "Len" = some (169,false):=by kernel_rfl
theorem Q1:lp Tryz.prog 225 "Less" = some (519,false):=by kernel_rfl
theorem Q2:lp Tryz.prog 225 "Swap" = some (522,false):=by kernel_rfl
theorem auq:lp Tryz.prog 225 "Push" = some (521,true):=by kernel_rfl
theorem aw7:lp Tryz.prog 225 "Pop" = some (520,true):=by kernel_rfl
theorem aif:Tryz.prog.underlying 225=some (.pointer 229):=by kernel_rfl
theorem aBt:oq Tryz.prog 229=some none:=by kernel_rfl
theorem aur:wv Tryz.prog 227=true:=by kernel_rfl
section
variable {h:ae} {U bm:Nat} {v:X} {l bx:aa X}
theorem yz(B:lp Tryz.prog 225 m=some (f,false))(A:u h bm=some (.cells [v] false)):jm Q h U l m (.iface 225 (bf bm)) = .call f (v::l) h U:=by show HG "invoke - method" (lp Tryz.prog 225 m) (λg=>vy (rK Tryz.prog h 225 g.2 (bf bm)) (λy=>.call g.1 (y::l) h U))=_;rw[B];unfold rK;rw[aif];show vy (R.of "type" (oq Tryz.prog 229) (λE=>iz E h (bf bm))) _=_;rw[aBt];show vy (iz none h (bf bm)) _=_;rw[Hc,A];rfl
theorem afm(A:lp Tryz.prog 225 m=some (f,true)):jm Q h U l m (.iface 225 (bf bm)) = .call f ((bf bm)::l) h U:=by show HG "invoke - method" (lp Tryz.prog 225 m) (λg=>vy (rK Tryz.prog h 225 g.2 (bf bm)) (λy=>.call g.1 (y::l) h U))=_;rw[A];unfold rK;rw[aif];rfl
end
theorem afn{h:ae}{v:Nat}(A:i<W.length):jQ (some (.cells (a7 gP W++cs) false)) h b (i*2) [(v:X),(d:X)] = .ok (T h b (.cells (a7 gP (W.set i (v,d))++cs) false)):=by have g:=fN (enc:=gP) u3 (l:=W);show R.of _ (m7 [(v:X),(d:X)] (a7 gP W++cs) (i*2)) _=_;rw[Kc (by rw[ib,g];simp;omega)];have:=Kf (enc:=gP) u3 cs (v,d) W i A;rw[<-this];rfl
theorem Q3{s:al}{h:ae}{U n cap:Nat}{a:aw Addr}:aE Q s 169 [.slice a n cap] h U (λr ac g=>r = (n:X)/\ac=h/\g=U):=by refine azf ?_;unfold aib;simp(disch:=omega)only[bk,seval]
theorem amR{s:al}{h:ae}{U cap n:Nat}(I:u h b=some (.cells (a7 gP W++cs) false))(L:W.length=n)(A:W[i]? = some x)(B:W[k]? = some y):
  aE Q s 519 [.slice (some ⟨b,0,aB⟩) n cap,(i:X),(k:X)] h U (λr ac g=>r = .bool (decide (x.2<y.2))/\ac=h/\g=U):=by refine awX ?_;unfold agS;have E:=(fb.1 A).1;have M:=(fb.1 B).1;rw[L]at E M;simp(disch:=omega)only[bk,I,(ahi A).2,(ahi B).2,seval]
theorem PP{s:al}{h:ae}{U cap n:Nat}(L:u h b=some (.cells (a7 gP W++cs) false))(P:W.length=n)(B:W[i]? = some x)(E:W[k]? = some y):
  aE Q s 522 [.slice (some ⟨b,0,aB⟩) n cap,(i:X),(k:X)] h U (λr ac g=>r = .tuple ⟨[]⟩/\u ac b=some (.cells (a7 gP (vZ W i k x y)++cs) false)/\(∀c,c≠b->u ac c=u h c)/\g=U):=by refine awZ ?_;unfold agU;have I:=(fb.1 B).1;have M:=(fb.1 E).1;simp(disch:=omega)only[bk,L,Ll B,Ll E,seval];rw[afn I,tK];rw[aR,afn (by rw[JB];exact M),tK];exact⟨aR _ _ _,λc A=>by rw[aq A,aq A]⟩
theorem PQ{s:al}{h:ae}{U cap n:Nat}(E:u h b=some (.cells (a7 gP W++cs) false))(g:W.length=n)(A:W[i]? = some x)(B:W[k]? = some y):
  aE Q s 519 [.slice (some ⟨b,0,aB⟩) n cap,(i:X),(k:X)] h U (dI (.bool (decide (x.2<y.2))) U h):=
 (amR E g A B).mono λ_ _ _ ⟨a,b,c⟩=>⟨a,by rw[b];exact aA.refl _ _,J⟩
abbrev tP(bm:Nat):X:=.iface 225 (bf bm)
theorem RX{h:ae}{bm:Nat}{cap:Nat}(w:ly h bm b aB cap W cs)(B:u ac b=some (.cells (a7 gP b9++cs) false))(g:b9.length=W.length)(A:u ac bm=u h bm):ly ac bm b aB cap b9 cs :=
 ⟨by rw[A,g];exact w.cell,B,by rw[g];exact w.len,w.r1,w.ne⟩
theorem RY{h:ae}{bm U:Nat}{cap:Nat}(w:ly h bm b aB cap W cs)(A:aA U h ac)(B:b<U)(g:bm<U):ly ac bm b aB cap W cs :=
 ⟨(A _ g).trans w.cell,(A _ B).trans w.ca,w.len,w.r1,w.ne⟩
def Bg(b U:Nat)(h ac:ae)(Y:Nat):Prop:=(∀c,c<U->c≠b->u ac c=u h c)/\U<=Y
theorem aBu{P:Program}{t:TypeId}(g:j<=100000):bin P .quo t (.int .i64 ((j:Int)-1)) (.int .i64 2) = .ok (((ew j:Nat):X)):=by
 rw[Ar (by decide)];have:((j:Int)-1).tdiv 2=((ew j:Nat):Int):=by
  cases j with
  |zero=>rfl
  |succ j =>
   have e:((j+1:Nat):Int)-1=(j:Int):=J
   rw[e];show(j:Int).tdiv ((2:Nat):Int)=(((j+1-1) / 2:Nat):Int)
   rfl
 rw[this,show IntKind.wrap .i64 ((ew j:Nat):Int)=((ew j:Nat):Int) by rw[nI];unfold ew;omega]
def aBv(bm b:Nat)(aB:aw Nat)(cap:Nat)(W:aa Stop)(cs:aa X)(h:ae)(U:Nat)(m:Nat)(aF:aa X)(ac:ae)(Y:Nat):Prop :=
 ∃(b9:aa Stop),aF=[tP bm,(m:X)]/\ly ac bm b aB cap b9 cs/\vJ b9 m/\m<b9.length/\b9.Perm W/\Bg b U h ac Y
def aw8(bm b:Nat)(aB:aw Nat)(cap:Nat)(W:aa Stop)(cs:aa X)(h:ae)(U:Nat):bN:=λr ac Y=>r = .tuple ⟨[]⟩/\∃b9,ly ac bm b aB cap b9 cs/\qW b9/\b9.Perm W/\Bg b U h ac Y
theorem aw9{s:al}{h:ae}{U bm cap:Nat}(w:ly h bm b aB cap W cs)(zM:vJ W j)(b5:j<W.length)(bo:W.length<=100000)(aW:b<U)(oN:bm<U):
  aE Q s 258 [tP bm,(j:X)] h U (aw8 bm b aB cap W cs h U):=by
 refine afT ?_;have eh:=w.ne;refine bE.mk (aBv bm b aB cap W cs h U) j ⟨W,rfl,w,zM,b5,x2 _,ab,J⟩ ?_;rintro m _ ac Y ⟨b9,rfl,I,g,hm,M,bK,dv⟩;rw[ad5];unfold Rt;have fO:=M.length_eq;obtain⟨y,L⟩:=dH hm;obtain⟨x,E⟩:=dH (l:=b9) (i:=ew m) (by unfold ew;omega);simp(disch:=omega)only[bk,agz (J:m<1000000000),aBu (J:m<=100000),yz Q1 I.cell,seval];refine⟨λau=>?_,λau=>?_⟩
 ·have B:m=0:=by
   have:((ew m:Nat):Int)=(m:Int):=ab
   unfold ew at this;omega
  exact⟨rfl,b9,I,g.done J,M,bK,dv⟩
 ·have B:0<m:=by
   rcases xZ m with e|e
   ·subst e;simp[ew]at au
   omega
  refine(PQ I.ca rfl L E).mono ?_;rintro r h1 a5 ⟨rfl,A,fi⟩;have P:=RY I A J J;simp(disch:=omega)only[bk,yz Q2 P.cell,seval];refine⟨λeG=>?_,λcb=>?_⟩
  ·refine⟨rfl,b9,P,g.done λfK nV _ Bl HM=>?_,M,λc ao aT=>(A c J).trans ab,J⟩
   grind
  ·refine(PP P.ca rfl E L).mono ?_;rintro r ao _ ⟨rfl,eR,nL,rfl⟩;have qb:ew m<m:=by unfold ew;omega
   exact⟨ew m,qb,_,rfl,RX P eR (AE _ _ _ _ _) ab,g.step B E L cb,by rw[AE];omega,(P7 E L).trans M,λc aT a9=>by rw[nL c a9,A c J];grind,J⟩
def aig(bm b n:Nat)(aB:aw Nat)(cap:Nat)(W:aa Stop)(cs:aa X)(h:ae)(U:Nat)(m:Nat)(aF:aa X)(ac:ae)(Y:Nat):Prop :=
 ∃(b9:aa Stop) (i:Nat),m=n-i/\i<=n/\aF=[tP bm,.int .i64 0,(n:X),(i:X)]/\ly ac bm b aB cap b9 cs/\vk b9 n i/\b9.Perm W/\b9[n]? = W[n]?/\Bg b U h ac Y
def afo(bm b n:Nat)(aB:aw Nat)(cap:Nat)(W:aa Stop)(cs:aa X)(h:ae)(U:Nat):bN:=λr ac Y=>∃b9,ly ac bm b aB cap b9 cs/\qW (b9.take n)/\b9.Perm W/\b9[n]? = W[n]?/\Bg b U h ac Y
theorem aqy{s:al}{h:ae}{U bm cap n:Nat}(w:ly h bm b aB cap W cs)(rn:vk W n 0)(bw:W.length=n+1)(bo:W.length<=100000)(aW:b<U)(oN:bm<U):
  aE Q s 257 [tP bm,.int .i64 0,(n:X)] h U (afo bm b n aB cap W cs h U):=by
 refine abQ ?_;have eh:=w.ne;refine bE.mk (aig bm b n aB cap W cs h U) n ⟨W,0,rfl,J,rfl,w,rn,x2 _,rfl,ab,J⟩ ?_;rintro m _ ac Y ⟨b9,i,rfl,ag,rfl,a8,L,a6,g,bK,dv⟩;rw[ZF];unfold Pl;have fO:=a6.length_eq;obtain⟨x,P⟩:=dH (l:=b9) (i:=i) J;have aU:(2:Int)*(i:Int)=((2*i:Nat):Int):=J
 have aK:IntKind.wrap .i64 ((2*i:Nat):Int)=((2*i:Nat):Int):=by rw[nI];omega
 refine tO @yk @aU @aK (cD (J:2*i<1000000000000)) (cD (J:2*i+1<1000000000000)) ?_;have tail:∀(I:ae) (a5 j:Nat) (y:Stop),ly I bm b aB cap b9 cs->Bg b U h I a5->ew j=i->0<j->j<n->b9[j]? = some y->(∀(c:Nat) (z:Stop),0<c->c<n->ew c=i->b9[c]? = some z->y.2<=z.2) ->
   eQ Q s (jm Q I a5 [(j:X),(i:X)] "Less" (tP bm)) λjf IA BO=>af (du .not jf) λlG=>br lG (af (bin Q .gtr 3 (bb [tP bm,.int .i64 0,(n:X),(i:X)] 3) (bb [tP bm,.int .i64 0,(n:X),(i:X)] 1)) λoK=>afo bm b n aB cap W cs h U oK IA BO) (eQ Q s (jm Q IA BO [(i:X),(j:X)] "Swap" (tP bm)) λoL UG Ie =>
    ∃bD,bD<n-i/\aig bm b n aB cap W cs h U bD [tP bm,.int .i64 0,(n:X),(j:X)] UG Ie):=by
  intro I a5 j y cT rZ Ef uh UH ck Hz;have Mr:i<j:=by unfold ew at Ef;omega
  have fi:=rZ.2;rw[yz Q1 cT.cell,qP];refine(PQ cT.ca rfl ck P).mono ?_;rintro r M bQ ⟨rfl,dD,f5⟩;have c8:=RY cT dD J J;have nL:Bg b U h M bQ:=⟨λc I M=>(dD c J).trans (rZ.1 c I M),J⟩
  simp(disch:=omega)only[bk,yz Q2 c8.cell,seval];refine⟨λeG=>?_,λA=>?_⟩
  ·refine⟨b9,c8,L.done λc fK nV a1 xm q6 Bl HM=>?_,a6,g,nL⟩
   grind
  ·refine(PP c8.ca rfl P ck).mono ?_;rintro r aT _ ⟨rfl,mK,B,rfl⟩;refine⟨n-j,J,_,j,rfl,J,rfl,RX c8 mK (AE _ _ _ _ _) ab,L.step uh UH Ef P ck A Hz,(P7 P ck).trans a6,?_,λc a9 bY=>(B c bY).trans (nL.1 c a9 bY),J⟩;rw[GR P ck J,if_neg J,if_neg J];omega
 have aAI:∀c,0<c->ew c=i->c=2*i+1\/c=2*i+2:=λc a1 h=>(ars a1).1 h;refine⟨λeG=>?_,λA=>?_⟩
 ·unfold CY;refine aG ?_;exact⟨b9,a8,L.done ab,a6,g,bK,dv⟩
 ·rw[hA (J:¬((2*i+1:Nat):Int)<0)];unfold CY;refine bl (cD (J:2*i+1<1000000000000)) ?_;obtain⟨cz,E⟩:=dH (l:=b9) (i:=2*i+1) J;refine⟨λM=>?_,λM=>?_⟩
  ·obtain⟨cE,zg⟩:=dH (l:=b9) (i:=2*i+1+1) J;rw[yz Q1 a8.cell,qP];refine(PQ a8.ca rfl zg E).mono ?_;rintro r aT bT ⟨rfl,eY,ga⟩;have iS:=RY a8 eY J J;have B:Bg b U h aT bT:=⟨λc I M=>(eY c J).trans ab,J⟩
   unfold CX;rw[yQ];refine⟨λa9=>tail aT bT _ cE iS B (by unfold ew;omega) J M zg ab,λa9=>tail aT bT _ cz iS B (by unfold ew;omega) J A E ab⟩
   all_goals grind
  ·unfold CX;rw[yQ];refine⟨λa9=>absurd a9 (by simp),λ_=>tail ac Y _ cz a8 ⟨bK,dv⟩ (by unfold ew;omega) J A E λc z a1 xm q6 c0=>?_⟩
   grind
theorem amS{y:X}:Ao Tryz.prog 227 true (.iface 227 y) = .ok (.tuple ⟨[y,.bool true]⟩):=by show(bif wv Tryz.prog 227&&Nat.beq 227 227 then R.ok (om true y true)else .no "typeAssert")=_;rw[aur];rfl
def afp(bm b:Nat)(W:aa Stop)(U:Nat)(h:ae)(p:aa Stop->Prop):bN:=λr ac Y=>∃b6 IB j4 l3 b9,ly ac bm b6 IB j4 b9 l3/\p b9/\(b6=b\/U<=b6)/\b6<Y/\U<=Y/\∀c,c<U->c≠b->c≠bm->u ac c=u h c
theorem aqz{s:al}{h:ae}{U bm cap v:Nat}(w:ly h bm b aB cap W cs)(aW:b<U)(oN:bm<U)(bo:W.length<1000):
  aE Q s 521 [bf bm,.iface 227 (.agg ⟨[(v:X),(d:X)]⟩)] h U (afp bm b W U h λb9=>b9=W++[(v,d)]):=by
 refine awY ?_;unfold agT;rw[amS];have L:=w.ne;have g:u (T (T h U (.cells [.int .i64 0,.int .i64 0] false)) U (.cells [(v:X),(d:X)] false)) bm=some (.cells [.slice (some ⟨b,0,aB⟩) W.length cap] false):=by rw[aq J,aq J];exact w.cell
 refine bl @g ?_;obtain⟨b6,E,A,I,ac,Y,aU,aK,cc,d6,hd,hy,gI,P⟩:=au6 (h:=T (T (T h U (fU.cells [Value.int IntKind.i64 0,Value.int IntKind.i64 0] false)) U (fU.cells [Value.int IntKind.i64 (v:Int),Value.int IntKind.i64 d] false)) (U+1) (fU.cells [Value.int IntKind.i64 (v:Int),Value.int IntKind.i64 d] false)) (U:=U+1+1) (b:=b) (W:=W) (cs:=cs) (cap:=cap) (aB:=aB) (n:=W.length) (pf:=1) (li:=none) (db:=0) (b3:=U+1) (by rw[aq J,aq J,aq J];exact w.ca) rfl w.len w.r1 J v d (aR _ _ _) rfl J;rw[aU];have M:u ac bm=some (.cells [.slice (some ⟨b,0,aB⟩) W.length cap] false):=(P bm (λe=>L e.symm) J).trans (by rw[aq J];exact g);have B:b6≠bm:=J
 simp(disch:=omega)only[bk,A7,dO,M,seval];refine⟨J,b6,E,A,I,_,⟨?_,?_,cc,d6,B⟩,rfl,J,J,J,λc h1 ao aT=>?_⟩
 ·rw[aR,ib];rfl
 ·rw[aq B];exact aK
 ·rw[aq aT,P c ao J,aq J,aq J,aq J]
theorem aus{s:al}{h:ae}{U bm cap n:Nat}(w:ly h bm b aB cap W cs)(aW:b<U)(oN:bm<U)(bw:W.length=n+1)(bo:W.length<100000):
  aE Q s 520 [bf bm] h U (λr ac I=>∃L,ly ac bm b aB cap (W.take n) L/\I=U+1/\∀c,c<U->c≠bm->u ac c=u h c):=by
 refine azh ?_;unfold aid;have E:=w.ne;have e:IntKind.wrap .i64 ((W.length:Int)-1)=(n:Int):=by
  have:(W.length:Int)-1=(n:Int):=J
  rw[this];exact ie _ J
 obtain⟨x,M⟩:=dH (l:=W) (i:=n) J;have xj:=w.len;have g:u (T (T h U (.cells [.int .i64 0,.int .i64 0] false)) U (.cells [(x.1:X),(x.2:X)] false)) bm=some (.cells [.slice (some ⟨b,0,aB⟩) W.length cap] false):=by rw[aq J,aq J];exact w.cell
 have A:=au7 (b:=b) (aB:=aB) (n:=n) (cap:=cap) J;rw[bw]at g e;have B:=w.cell;rw[bw]at B;simp(disch:=omega)only[bk,B,e,w.ca,Ll M,g,A,seval];have ip:W=W.take n++[x]:=by
  have P:W.take (n+1)=W.take n++[x]:=by rw[gW,M];rfl
  rw[<-P,o2 J]
 have cq:(W.take n).length=n:=by rw[oc];omega
 refine⟨gP x++cs,⟨by rw[aR,cq],?_,?_,w.r1,E⟩,λc P ao=>by rw[aq ao,aq J,aq J]⟩
 ·rw[aq E,aq J,aq J,w.ca]
  conv=>lhs;rw[ip]
  rw[o4,kl]
 ·rw[cq,ib,u3];omega
theorem aqA{s:al}{h:ae}{U bm cap v:Nat}(w:ly h bm b aB cap W cs)(aW:b<U)(M:bm<U)(bo:W.length<1000)(fu:qW W):
  aE Q s 171 [tP bm,.iface 227 (.agg ⟨[(v:X),(d:X)]⟩)] h U (afp bm b W U h λb9=>qW b9/\b9.Perm (W++[(v,d)])):=by
 refine awW ?_;unfold agR;rw[afm auq,qP];refine(aqz w aW M bo).mono ?_;rintro r h1 nj ⟨b6,E,g,L,b9,a8,rfl,aU,aK,cc,d6⟩;rw[yz afl a8.cell,qP];refine Q3.mono ?_;rintro r _ _ ⟨rfl,rfl,rfl⟩;have A:(W++[(v,d)]).length=W.length+1:=by simp
 rw[A];have e:IntKind.wrap .i64 (((W.length+1:Nat):Int)-1)=(W.length:Int):=by
  have:((W.length+1:Nat):Int)-1=(W.length:Int):=J
  rw[this];exact ie _ J
 refine bl @e ?_;refine(aw9 a8 (vJ.push (p:=(v,d)) fu) J J aK J).mono ?_;rintro r ao np ⟨rfl,b9,c8,P,B,I,f5⟩;exact⟨b6,E,g,L,b9,c8,⟨P,B⟩,aU,J,J,λc h1 ao aT=>(I c J J).trans (d6 c h1 ao aT)⟩
theorem aut{s:al}{h:ae}{U bm cap:Nat}{p:Stop}(w:ly h bm b aB cap W cs)(aW:b<U)(oN:bm<U)(bo:W.length<1000)(fu:qW W)(hs:W[0]? = some p):
  aE Q s 170 [tP bm] h U (λr ac Y=>∃l3 b9,ly ac bm b aB cap b9 l3/\qW b9/\(p::b9).Perm W/\U<=Y/\∀c,c<U->c≠b->c≠bm->u ac c=u h c):=by
 refine azg ?_;unfold aic;obtain⟨n,bw⟩:∃n,W.length=n+1:=⟨W.length-1,by have:=(fb.1 hs).1;omega⟩
 obtain⟨q,P⟩:=dH (l:=W) (i:=n) J;have g:=w.cell;rw[yz afl g,qP];refine Q3.mono ?_;rintro r eT gD ⟨rfl,aU,aK⟩;rw[aU,aK];have e:IntKind.wrap .i64 ((W.length:Int)-1)=(n:Int):=by
  have:(W.length:Int)-1=(n:Int):=J
  rw[this];exact ie _ J
 simp(disch:=omega)only[bk,e,yz Q2 g,seval];have qc:aE Q s 522 [.slice (some ⟨b,0,aB⟩) W.length cap,((0:Nat):X),(n:X)] h U _:=PP (k:=n) w.ca rfl hs P;refine qc.mono ?_;rintro r M _ ⟨rfl,g6,L,rfl⟩;have cT:=RX w g6 (AE _ _ _ _ _) (L bm λe=>w.ne e.symm);refine(aqy cT (vk.pop fu bw hs P) (by rw[AE];exact bw) (by rw[AE];omega) aW oN).mono ?_;rintro r ao np ⟨A,c8,l7,B,rT,nL,f5⟩;rw[afm aw7,qP];have E:=B.length_eq;rw[AE]at E;refine(aus (n:=n) c8 J J J J).mono ?_;rintro r aT _ ⟨xx,iS,rfl,vH⟩;refine⟨xx,A.take n,iS,l7,?_,J,λc M ao aT=>by rw[vH c J aT,nL c M ao,L c ao]⟩
 by_cases ky:n=0
 ·subst ky;rw[sz];have:W=[p]:=by
   match W,bw,hs with
   | [a],_,h=>cases h;rfl
  rw[this]
 have bd:A[n]? = some p:=by rw[rT,GR hs P J,if_pos rfl]
 have ip:A=A.take n++[p]:=by
  have M:A.take (n+1)=A.take n++[p]:=by rw[gW,bd];rfl
  rw[<-M,o2 J]
 have I:(p::A.take n).Perm (A.take n++[p]):=(Jn (l₁:=A.take n) (l₂:=[p])).symm;rw[<-ip]at I;exact(I.trans B).trans (P7 hs P)
theorem afq{n:Nat}(h:n<1000000):IntKind.wrap .u64 (n:Int)=(n:Int):=by show IntKind.wrap .u64 (n:Int)=_;unfold IntKind.wrap;simp[IntKind.bits,IntKind.signed];omega
theorem auu{s:al}{h:ae}{U:Nat}:∀{n:Nat},n<=23->agQ s (.int .u64 1) (.int .u64 (.ofNat n)) h U K=K (.tuple ⟨[.int .u64 0,.int .u64 (.ofNat n)]⟩) h U
 |0,_|1,_|2,_|3,_|4,_|5,_|6,_|7,_|8,_|9,_|10,_|11,_|12,_|13,_|14,_|15,_|16,_|17,_|18,_|19,_|20,_|21,_|22,_|23,_=>by kernel_rfl
 |n+24,g=>absurd g J
theorem azj{s:al}{n:Nat}{h:ae}{U:Nat}(A:n<=23):aE Q s 256 [.int .u64 1,.int .u64 (n:Int)] h U (λr ac g=>r = .tuple ⟨[.int .u64 0,.int .u64 (n:Int)]⟩/\ac=h/\g=U):=by refine aBr ?_;unfold mul;refine awV ?_;rw[show((n:Nat):Int)=Int.ofNat n from rfl,auu A];exact⟨rfl,rfl,rfl⟩
theorem aBw:yp Tryz.prog 29=some 1:=by kernel_rfl
theorem Y0:∀l:aa Int,d4 (fd l)=true
 | []=>rfl
 |x::l=>by show(gN (.int .i64 x)&&d4 (fd l))=true;rw[Y0 l];rfl
theorem afr{h:ae}{U o dK c1 dr:Nat}{l b1:aa Int}(A:u h b=some (.cells (fd l) false))(P:u h b3=some (.cells (fd b1) bG))(L:Nat.min dr dK=k)(M:0<k)(E:db+k<=b1.length)(bo:o+k<=l.length):
  nE Tryz.prog .copy [29,29] h U [.slice (some ⟨b,o,none⟩) dK c1,.slice (some ⟨b3,db,aB⟩) dr c2] = .ok (.val (k:X) (T h b (.cells (fd (l.take o++(b1.drop db).take k++l.drop (o+k))) false)) U):=by
 show R.of "copy" (yp Tryz.prog 29) (λs=>Dz s h U (.slice (some ⟨b,o,none⟩) dK c1) (.slice (some ⟨b3,db,aB⟩) dr c2))=_;rw[aBw];show Dz 1 h U (.slice (some ⟨b,o,none⟩) dK c1) (.slice (some ⟨b3,db,aB⟩) dr c2)=_;unfold Dz;simp only;rw[L,show Nat.mul k 1=k from z9 k,rD P M (by rw[u2];omega)];have e:((fd b1).drop db).take k=fd ((b1.drop db).take k):=by simp[fd]
 have g:((b1.drop db).take k).length=k:=by rw[oc,CD];omega
 rw[e];generalize hm:(b1.drop db).take k=m at g ⊢;have I:ol h b o (fd m) = .ok (T h b (.cells (fd (l.take o++m++l.drop (o+k))) false)):=by rw[CH A (Y0 m) (by rw[u2,u2];omega)];simp[fd,g]
 match m,g with
 | [],B=>simp at B;omega
 |x::m,_ =>
  show R.bind (ol h b o (fd (x::m))) _=_;rw[I];rfl
theorem auv{n:Nat}(h:n<N):gi 1 (.slice (some ⟨b,0,none⟩) N N) (some (n:X)) none none = .ok (.slice (some ⟨b,n,none⟩) (N-n) (N-n)):=by
 show k6 1 (some ⟨b,0,none⟩) N false N N n=_;unfold k6;rw[show(Nat.ble N N&&(Nat.ble N N&&Nat.ble n N))=true by simp only[eo,pK];omega];show o6 1 (some ⟨b,0,none⟩) false N N n=_;unfold o6;rw[show Nat.beq N n=false by
  cases g:Nat.beq N n with
  |false=>rfl
  |true=>exact absurd (gr g) J]
 show R.ok (Value.slice (some ⟨b,0+n*1,none⟩) (N-n) (N-n))=_;rw[iE,z9]
theorem azk{n:Nat}(g:0<N)(h:n<=N):gi 1 (.slice (some ⟨b,0,none⟩) N N) none (some (n:X)) none = .ok (.slice (some ⟨b,0,none⟩) n N):=by
 show k6 1 (some ⟨b,0,none⟩) N false N n 0=_;unfold k6;rw[show(Nat.ble N N&&(Nat.ble n N&&Nat.ble 0 n))=true by simp only[eo,pK];omega];show o6 1 (some ⟨b,0,none⟩) false N n 0=_;unfold o6;rw[show Nat.beq N 0=false by
  cases N with
  |zero=>omega
  |succ N=>rfl]
 rfl
def aBx(b N:Nat)(x:Int)(U:Nat)(h:ae)(m:Nat)(aF:aa X)(ac:ae)(Y:Nat):Prop :=
 ∃n,m=N-n/\1<=n/\n<=N/\aF=[.slice (some ⟨b,0,none⟩) N N,(n:X)]/\u ac b=some (.cells (fd (List.replicate n x++List.replicate (N-n) 0)) false)/\aA U h ac/\Y=b+1
def aBy(N:Nat)(x:Int)(U:Nat)(h:ae):bN:=λr ac Y=>r = .slice (some ⟨U,0,none⟩) N N/\u ac U=some (.cells (fd (List.replicate N x)) false)/\Y=U+1/\aA U h ac
theorem axa{s:al}{h:ae}{U:Nat}{x:Int}{l:aa Int}(ao:u h b3=some (.cells (fd l) bG))(eR:b3<U)(M:l[db]? = some x)(d7:0<N)(E:N<=23):
  aE Q s 168 [.slice (some ⟨b3,db,aB⟩) 1 c2,(N:X)] h U (aBy N x U h):=by
 refine aze ?_;unfold aia;have L:=(fb.1 M).1;simp(disch:=omega)only[bk,↓reduceIte,Nat.reduceAdd,Nat.reduceSub,Nat.reduceMul,Nat.reduceLT,Nat.reduceLeDiff,Nat.reduceEqDiff,Int.reduceBEq,Int.reduceLT,Int.reduceNeg,afq (J:1<1000000),afq (J:N<1000000)];refine⟨λh=>absurd h J,λ_=>azj E |>.mono ?_⟩;rintro r eT gD ⟨rfl,aU,aK⟩;rw[aU,aK];unfold RW;have fX:List.replicate N (Value.int .i64 0)=fd (List.replicate N 0):=by simp[fd]
 simp(disch:=omega)only[bk,↓reduceIte,Nat.reduceAdd,Nat.reduceSub,Nat.reduceMul,Nat.reduceLT,Nat.reduceLeDiff,Nat.reduceEqDiff,Int.reduceBEq,Int.reduceLT,Int.reduceNeg,ie N J,fX];intro _;refine⟨λh=>absurd h J,λ_=>?_⟩;have c1:=afr (h:=T h U (.cells (fd (List.replicate N 0)) false)) (U:=U+1) (b:=U) (o:=0) (dK:=N) (c1:=N) (b3:=b3) (db:=db) (dr:=1) (c2:=c2) (k:=1) (aB:=aB) (b1:=l) (aR _ _ _) (by rw[aq J];exact ao) (z6 J) J J (by simp;omega);have cc:(List.replicate N (0:Int)).take 0++(l.drop db).take 1++(List.replicate N 0).drop (0+1)=List.replicate 1 x++List.replicate (N-1) 0:=by rw[zT L,(fb.1 M).2];simp
 rw[cc]at c1;rw[show Q=Tryz.prog from rfl,c1];simp(disch:=omega)only[bk,↓reduceIte,Nat.reduceAdd,Nat.reduceSub,Nat.reduceMul,Nat.reduceLT,Nat.reduceLeDiff,Nat.reduceEqDiff,Int.reduceBEq,Int.reduceLT,Int.reduceNeg,dO,A7];refine bE.mk (aBx U N x U h) (N-1) ⟨1,rfl,J,J,rfl,by rw[aR],λc a1=>by rw[aq J,aq J],rfl⟩ ?_;rintro m _ ac _ ⟨n,rfl,qo,In,rfl,B,P,rfl⟩;rw[awU];unfold afe;refine m6 ?_;refine⟨λI=>?_,λeG=>?_⟩
 ·rw[auv I,tK,azk d7 J,tK];have hlr:(List.replicate n x++List.replicate (N-n) (0:Int)).length=N:=by simp;omega
  obtain⟨k,g⟩:∃k,Nat.min n (N-n)=k:=⟨_,rfl⟩
  have A:k<=n/\k<=N-n/\0<k:=by have:min n (N-n)=k:=g;omega
  have c2:=afr (h:=ac) (U:=U+1) (b:=U) (o:=n) (dK:=N-n) (c1:=N-n) (b3:=U) (db:=0) (dr:=n) (c2:=N) (k:=k) (aB:=none) (b1:=List.replicate n x++List.replicate (N-n) 0) B B g A.2.2 J J;have d6:(List.replicate n x++List.replicate (N-n) (0:Int)).take n++((List.replicate n x++List.replicate (N-n) 0).drop 0).take k++(List.replicate n x++List.replicate (N-n) 0).drop (n+k)=List.replicate (n+k) x++List.replicate (N-(n+k)) 0:=by
   rw[oe,zR (by simp),zR (by simp;omega),o2 (by simp),List.take_replicate,z6 A.1];have hd:(List.replicate n x++List.replicate (N-n) (0:Int)).drop (n+k)=List.replicate (N-(n+k)) 0:=by
    rw[Jw,Jm,Jk (by simp),sy,Jj,List.drop_replicate]
    congr 1;omega
   rw[hd,<-List.replicate_append_replicate]
  rw[d6]at c2;rw[show Q=Tryz.prog from rfl,c2];simp(disch:=omega)only[bk,↓reduceIte,Nat.reduceAdd,Nat.reduceSub,Nat.reduceMul,Nat.reduceLT,Nat.reduceLeDiff,Nat.reduceEqDiff,Int.reduceBEq,Int.reduceLT,Int.reduceNeg,dO,A7];have hy:IntKind.wrap .i64 ((n:Int)+(k:Int))=((n+k:Nat):Int):=by rw[wV J J];omega
  rw[hy];exact⟨N-(n+k),J,n+k,rfl,J,J,rfl,aR _ _ _,P.set J,rfl⟩
 ·have:n=N:=J
  subst this;rw[CG,List.replicate_zero,hz]at B;exact⟨rfl,B,rfl,P⟩
structure Can (gs cs:aa GE):Prop where
 lea:∀e∈gs,∃dS∈cs,dS.f=e.f/\dS.t=e.t/\dS.w<=e.w
 sub:∀e∈cs,e∈gs
 one:∀e∈cs,∀dS∈cs,e.f=dS.f->e.t=dS.t->e.w=dS.w
 up:cs.Pairwise λa c=>a.f<=c.f
theorem Can.of{cs:aa GE}(h:kL (gs.map dJ) (cs.map dJ)):Can gs cs:=by
 have sub:∀e∈cs,e∈gs:=λe B=>by have:=((h.vL.mem (dJ e)).1 (zZ B)).1;obtain⟨g,A,P⟩:=f3.1 this;rw[<-RT P];exact A
 refine⟨λe B=>?_,sub,λe B g A M ao=>?_,?_⟩
 ·obtain⟨z,L,E⟩:=h.vL.Ex (dJ e) (zZ B);obtain⟨g,A,rfl⟩:=f3.1 L;have bo:=((h.vL.mem (dJ g)).1 L).2 (dJ e) (zZ B) E;have M:(g.f:Int)=(e.f:Int):=E.1;have ao:(g.t:Int)=(e.t:Int):=E.2;exact⟨g,A,J,J,bo⟩
 ·have E:Ends (dJ e) (dJ g):=⟨by show(e.f:Int)=(g.f:Int);omega,by show(e.t:Int)=(g.t:Int);omega⟩
  have aD:=((h.vL.mem (dJ e)).1 (zZ B)).2 (dJ g) (zZ (sub g A)) E;have a2:=((h.vL.mem (dJ g)).1 (zZ A)).2 (dJ e) (zZ (sub e B)) E.symm;have aD:e.w<=g.w:=aD;have a2:g.w<=e.w:=a2;omega
 ·have:=h.up;rw[wl]at this;refine this.imp λ{a c} I=>?_;have I:((a.f:Int)<(c.f:Int))\/((a.f:Int)=(c.f:Int)/\_):=I;omega
def t5(cs:aa GE)(fB:Nat->al):Nat:=(cs.filter λe=>!fB e.f).length
theorem aa2{fB:Nat->al}{v:Nat}(E:fB v=false):∀cs:aa GE,t5 cs (λg=>fB g||g == v)+(cs.filter λe=>e.f == v).length=t5 cs fB
 | []=>rfl
 |e::cs=>by
  have B:=aa2 E cs;unfold t5 at B ⊢
  by_cases A:e.f=v
  ·simp[mW,A,E];simp only[Bool.not_or]at B;omega
  ·have L:(e.f == v)=false:=by simpa using A
   cases I:fB e.f <;> simp[mW,A,L,I] <;> simp only[Bool.not_or]at B <;> omega
theorem auw{s v:Nat}{cs:aa GE}{l:aa Int}{g:GE->Prop}(h:q9 dE N cs s v d l W fB g)(A:b9.Perm W):q9 dE N cs s v d l b9 fB g :=
 ⟨h.base.perm A,h.own,h.dnv,h.cur,λp B=>h.key p (A.mem_iff.1 B)⟩
theorem agW{s v:Nat}{cs:aa GE}{l:aa Int}{g:aa GE}{B:Nat}{e:GE}(E:g[j]? = some e)(h:q9 dE N cs s v d l W fB (λA=>(A.f=B/\A ∉ g.take j)/\A≠e)):q9 dE N cs s v d l W fB (λA=>A.f=B/\A ∉ g.take (j+1)):=by
 have:(λA:GE=>(A.f=B/\A ∉ g.take j)/\A≠e)=(λA=>A.f=B/\A ∉ g.take (j+1)):=by
  funext A
  rw[gW,E];simp only[Option.toList_some,he,iu,not_or,and_assoc]
 rw[<-this];exact h
def aux(N:Nat)(gs:aa GE)(fS:Nat)(U:Nat)(h:ae):bN:=λr ac Y=>∃(b:Nat) (l:aa Int),r = .slice (some ⟨b,0,none⟩) N N/\U<=b/\b<Y/\u ac b=some (.cells (fd l) false)/\kK dg N gs fS l/\aA U h ac/\U<=Y
def aBz(N fS i1 aQ Wl:Nat)(a:aw Addr)(cap:Nat)(cs:aa GE)(fJ:ae)(m:Nat)(aF:aa X)(ac:ae)(Y:Nat):Prop :=
 ∃(i:Nat) (hO:aa Go.Ax.gc),m=cs.length-i/\i<=cs.length/\aF=[(fS:X),.slice (some ⟨i1,0,none⟩) N N,.slice (some ⟨aQ,0,none⟩) N N,.slice a cs.length cap,(cs.length:X),(i:X)]/\s3 cR 3 ac aQ Wl Y hO (qX N (cs.take i))/\(∀c,c<Wl->c≠aQ->u ac c=u fJ c)/\Wl<=Y
structure Vx (N wi Ct i1 aQ bm:Nat) (cs:aa GE) (hO:aa Go.Ax.gc) (U:Nat) (h:ae) (ac:ae) (Y:Nat) (l:aa Int) (W:aa Stop):Prop where
 Ep:u ac i1=some (.cells (fd l) false)
 L:s3 cR 3 ac aQ wi Ct hO (qX N cs)
 a6:qW W
 F:aA U h ac
 le:bm<Y
def aBA(N fS wi Ct i1 aQ bm:Nat)(cs:aa GE)(hO:aa Go.Ax.gc)(U:Nat)(h:ae)(m:Nat)(aF:aa X)(ac:ae)(Y:Nat):Prop :=
 ∃(l:aa Int) (W:aa Stop) (fB:Nat->al) (b cap:Nat) (aB:aw Nat) (dh:aa X),m=W.length+t5 cs fB/\m<=61/\aF=[.slice (some ⟨i1,0,none⟩) N N,.slice (some ⟨aQ,0,none⟩) N N,bf bm] /\
  ly ac bm b aB cap W dh/\Ct<=b/\b<Y/\nk dg N cs fS l W fB (λ_=>False)/\Vx N wi Ct i1 aQ bm cs hO U h ac Y l W
def aBB(N fS wi Ct i1 aQ bm mn aO pG:Nat)(d:Int)(cs g:aa GE)(hO:aa Go.Ax.gc)(aCX:X)(fB:Nat->al)(U:Nat)(h:ae)(m:Nat)(aF:aa X)(ac:ae)(Y:Nat):Prop :=
 ∃(j:Nat) (l:aa Int) (W:aa Stop) (b cap:Nat) (aB:aw Nat) (dh:aa X),m=g.length-j/\j<=g.length/\W.length<=pG+j/\aF=[.slice (some ⟨i1,0,none⟩) N N,.slice (some ⟨aQ,0,none⟩) N N,bf bm,bf mn,aCX,(g.length:X),(j:X)] /\
  ly ac bm b aB cap W dh/\Ct<=b/\b<Y/\b≠mn/\mn<Y/\u ac mn=some (.cells [(aO:X),(d:X)] false)/\q9 dg N cs fS aO d l W fB (λe=>e.f=aO/\e ∉ g.take j)/\Vx N wi Ct i1 aQ bm cs hO U h ac Y l W
theorem aqB{s:al}{h:ae}{U:Nat}{v:X}(aI:fj h U v cR gs)(d7:N<=23)(pq:fS<N)(jb:∀g∈gs,g7 N g)(bo:gs.length<=60):
  aE Q s 97 [.agg ⟨[(N:X),v]⟩,(fS:X)] h U (aux N gs fS U h):=by
 refine aun ?_;obtain⟨a,cap,rfl,P⟩:=id aI;unfold aff;refine aG ?_;have bc:=axa (s:=s) (N:=N) (h:=T (T h U (.cells [(N:X),.slice a gs.length cap] false)) (U+1) (.cells [.int .i64 4611686018427387904] false)) (U:=U+1+1) (b3:=U+1) (db:=0) (c2:=1) (aB:=none) (x:=dg) (l:=[dg]) (aR _ _ _) J rfl J d7;refine bc.mono ?_;rintro r h1 _ ⟨rfl,g6,rfl,e5⟩;have bP:=e5 U J;rw[aq J,aR]at bP;refine cN @bP @g6 ?_;refine⟨by simpa using pq,?_⟩;have gx:∀{e7 db:fU},aA U h (T (T h1 (U+1+1) e7) (U+1+1+1) db):=λ{e7 db} b aW=>by rw[aq J,aq J,e5 b J,aq J,aq J]
 refine(Qn (aI.F gx (J:U<=U+1+1+1+1)) J jb J).mono ?_;rintro r ao wi ⟨v2,cs,rfl,nh,aih,Ba,lh,dD,f5⟩;have C:=Can.of aih;have fY:=dD (U+1+1) J;have db:=dD (U+1+1+1) J;rw[aq J,aR]at fY;rw[aR]at db;obtain⟨a2,pf,rfl,oG⟩:=id nh.gv;refine aG ?_;refine bE.mk (aBz N fS (U+1+1) (U+1+1+1) wi a2 pf cs ao) cs.length ⟨0,List.replicate N (none,0),rfl,J,rfl,⟨?_,J,by simp[Aj],λj s g ar aY=>.inl ?_,λj k b v0 EY b5=>?_,λj v0 b5=>?_⟩,λc _ _=>rfl,cC _⟩ ?_
 ·rw[db];simp[tX,BE]
 ·simp only[Fe]at ar;rw[sz,anx,Fe]at aY
  split at ar
  ·rw[if_pos ‹_›]at aY;cases ar;cases aY;exact⟨rfl,rfl⟩
  ·cases ar
 ·rw[Fe]at b5;split at b5 <;> cases b5
 ·rw[Fe]at b5;split at b5 <;> cases b5
 rintro m _ aT E ⟨i,hO,rfl,ag,rfl,L,ja,hnB⟩;rw[aqt];unfold aaZ;refine aG ?_;refine⟨λI=>?_,λeG=>?_⟩
 ·obtain⟨e,M⟩:=dH I;have s8:=(Ba e (kk M)).1;obtain⟨b,aB,bG,g6,eR,rfl,aW⟩:=oG (λaL=>by rw[aL]at I;exact absurd I (Nat.not_lt_zero _));have mK:=(ja b eR J).trans aW;obtain⟨Cu,ar⟩:=dH (l:=hO) (i:=e.f) (by rw[L.len,Aj];exact s8);have nM:=L.HY;simp(disch:=omega)only[bk,mK,adh M,L.at_,Zv ar,seval];have aY:(qX N (cs.take i))[e.f]? = some ((cs.take i).filter λx=>x.f == e.f):=Kg s8;generalize mG:((cs.take i).filter λx=>x.f == e.f)=g at aY;have s1:g.length<=60:=by rw[<-mG];have:=uL (λx:GE=>x.f == e.f) (cs.take i);have:=List.length_take_le i cs;omega
  have hsb:∀c,Cu.1=some c->c<E:=λc P=>by obtain⟨mP,kX⟩:=Cu;have P:mP=some c:=P;subst P;exact(L.below ar).2
  refine asu (enc:=cR) (k:=3) (λ_=>rfl) (λ_=>rfl) J ((L.hE ar aY).F (λc P=>?_)) e (aR _ _ _) rfl J λa9 Mv ul=>?_
  ·have:=hsb c P;rw[aq J,aq J,aq J]
  have hx4:u a9 E=some (.cells [(e.f:X),(e.t:X),.int .i64 e.w] false):=by rw[ul E J (λe=>by have:=hsb E e;omega),aq J,aR]
  have mH:∀c,c<E->Cu.1≠some c->u a9 c=u aT c:=λc P eh=>by rw[ul c J eh,aq J,aq J,aq J]
  have aEZ:=L.F (ac:=T (T (T aT E (.cells [.int .i64 0,.int .i64 0,.int .i64 0] false)) E (.cells [(e.f:X),(e.t:X),(e.w:X)] false)) (E+1) (.cells [(e.f:X),(e.t:X),(e.w:X)] false)) (dk:=E+1+1) ?_ ?_ J;obtain⟨ho4,zQ⟩:=aEZ.add (ac:=a9) (Y:=E+1+1+1) J J ar aY (v:=e) Mv (λc P eh=>ul c J eh)
  ·refine cN @hx4 @ho4 ?_;refine⟨J,by rw[anv,L.len,Aj];exact s8,cs.length-(i+1),J,i+1,hO.set e.f (some (E+1+1),g.length+1),rfl,J,by rw[cD J],?_,λc h1 ao=>?_,J⟩
   ·have aU:qX N (cs.take (i+1))=(qX N (cs.take i)).set e.f (g++[e]):=by rw[gW,M,<-mG];exact ak0 s8
    rw[aU];have:=anw 3 hO e.f (some (E+1+1),g.length+1);rw[<-this]at zQ;exact zQ
   ·rw[aq ao,mH c J (λaL=>?_)]
    ·exact ja c h1 ao
    ·obtain⟨mP,kX⟩:=Cu;have aL:mP=some c:=aL;subst aL;have:=(L.below ar).1;omega
  ·rw[aq J,aq J,aq J]
  ·intro c h1 ao;rw[aq J,aq J,aq J]
 have uk:i=cs.length:=J
 subst uk;rw[ic]at L;have lP:=(ja (U+1+1) J J).trans fY;have lN:aA U h aT:=λc P=>by rw[ja c J J,dD c J];exact gx c P
 have nM:=L.HY;clear ja dD db fY gx g6 oG nh aih;have gS:∀e∈cs,e.f<N/\e.t<N/\0<=e.w:=λe M=>⟨(Ba e M).1,(Ba e M).2.1,(Ba e M).2.2.1⟩
 refine bE.mk (aBA N fS wi E (U+1+1) (U+1+1+1) (E+1) cs hO U h) (1+t5 cs λ_=>false) ⟨(List.replicate N dg).set fS 0,[(fS,0)],λ_=>false,E,1,none,[],rfl,?_,rfl,⟨aR _ _ _,?_,rfl,.inl rfl,J⟩,cC _,J,nk.init (by decide) pq,⟨?_,L.F ?_ (λb h1 ao=>?_) (cC _),⟨λc x y h1 ao aT=>?_⟩,?_,J⟩⟩ ?_
 ·have:t5 cs (λ_=>false)<=cs.length:=uL _ _;omega
 ·rw[aq J,aR];rfl
 ·rw[aq J,aq J];exact lP
 ·rw[aq J,aq J]
 ·rw[aq J,aq J]
 ·have:=(fb.1 aT).1;simp at this;omega
 ·intro c P;rw[aq J,aq J];exact lN c P
 rintro m _ a9 vM ⟨l,W,fB,b,Tp,Iy,dh,rfl,aCJ,rfl,w,g6,eR,D,A⟩;rw[aqv];unfold aa1;refine bl w.cell ?_;refine Q3.mono ?_;rintro r eT gD ⟨rfl,aU,aK⟩;rw[aU,aK];have hC2:∀{l:aa Int},kK dg N cs fS l->kK dg N gs fS l:=λh=>kK.anu C.lea C.sub h
 by_cases UP:W.length=0
 ·have ip:W=[]:=xW UP;subst ip;refine aG ?_;refine⟨λh=>absurd h (by simp),λ_=>?_⟩;exact⟨U+1+1,l,rfl,J,J,A.Ep,hC2 (D.done gS),A.F,by have:=A.le;omega⟩
 obtain⟨p,a6⟩:=dH (l:=W) (i:=0) J;have fX:hB (some 2) 0 (a7 gP W++dh) = .ok (.agg ⟨[(p.1:X),(p.2:X)]⟩):=by have:=Ll (cs:=dh) a6;rwa[lY]at this
 have g5:=A.le;have SD:(0:Int)<(W.length:Int):=J
 simp(disch:=omega)only[bk,w.cell,w.ca,fX,SD,show 0<W.length by omega,seval];have cT:ly (T (T a9 vM (.cells [.int .i64 0,.int .i64 0] false)) vM (.cells [(p.1:X),(p.2:X)] false)) (E+1) b Iy Tp W dh:=⟨by rw[aq J,aq J];exact w.cell,by rw[aq J,aq J];exact w.ca,w.len,w.r1,w.ne⟩
 refine⟨?_,λh=>absurd trivial h⟩;refine(aut cT J J J A.a6 a6).mono ?_;rintro r bY nx5 ⟨cx5,zO,Ja,BV,Ni,oB,mH⟩;have i2:=mH vM J J J;rw[aR]at i2;have Tq:=(mH (U+1+1) J J J).trans ((aq J).trans ((aq J).trans A.Ep));have Vy:=(D.bj p (kk a6)).1;obtain⟨x,bd⟩:=dH (l:=l) (i:=p.1) (by rw[D.len];exact Vy);have Wm:=D.perm Ni;have Cp:Vx N wi E (U+1+1) (U+1+1+1) (E+1) cs hO U h bY nx5 l zO:=⟨Tq,A.L.F (by rw[mH _ J J J,aq J,aq J]) (λc h1 ao=>by rw[mH c J J J,aq J,aq J]) (cC _),BV,λc P=>by rw[mH c J J J,aq J,aq J];exact A.F c P,J⟩
 have hl5:=Ni.length_eq;rw[nC]at hl5;simp(disch:=omega)only[bk,i2,Tq,ix bd,seval];refine⟨λI=>⟨zO.length+t5 cs fB,J,l,zO,fB,b,Tp,Iy,cx5,rfl,J,rfl,Ja,g6,J,Wm.late bd I,Cp⟩,λeG=>?_⟩;have hxp:x=p.2:=by have:=(D.bj p (kk a6)).2.2.2 x bd;omega
 subst hxp;obtain⟨Mo,Wn⟩:=Wm.begin bd (λq c3=>qW.min A.a6 a6 q (Ni.mem_iff.1 (jZ _ c3)));have aBC:=aa2 Mo cs;obtain⟨B,d⟩:=p;obtain⟨Cu,ar⟩:=dH (l:=hO) (i:=B) (by rw[L.len,Aj];exact Vy);have aY:(qX N cs)[B]? = some (cs.filter λe=>e.f == B):=Kg Vy;have aDx:=Cp.L.hE ar aY;simp only at aBC i2 bd Wn;simp(disch:=omega)only[bk,Cp.L.at_,Zv ar,aDx.lens,seval];generalize mG:(cs.filter λe=>e.f == B)=g at *
 have MN:∀e∈g,e∈cs/\e.f=B:=λe M=>by rw[<-mG]at M;obtain⟨h1,ao⟩:=od.1 M;exact⟨h1,by simpa using ao⟩
 have s1:g.length<=60:=by rw[<-mG];have:=uL (λx:GE=>x.f == B) cs;omega
 refine bE.mk (aBB N fS wi E (U+1+1) (U+1+1+1) (E+1) vM B zO.length d cs g hO (BE 3 Cu) (λv=>fB v||v == B) U h) g.length ⟨0,l,zO,b,Tp,Iy,cx5,rfl,J,J,rfl,Ja,g6,J,J,J,i2,by simpa using Wn,Cp⟩ ?_;have bh:=(D.bj (B,d) (kk a6))
 have hd1:d<dg:=bh.2.1;have HW:0<=d:=by obtain⟨k,bO⟩:=bh.2.2.1;exact bO.GQ λe M=>(gS e M).2.2
 clear Cp Ja Wn Wm A w D Tq i2 aDx mH cT fX bd eG Ni BV a6;rintro m _ cy rc ⟨j,l,W,b,LX,MR,dh,rfl,b5,hWj,rfl,w,g6,eR,hbp,H9,i2,D,A⟩;rw[aqu];unfold aa0;refine aG ?_;refine⟨λI=>?_,λeG=>?_⟩
 ·obtain⟨e,M⟩:=dH I;obtain⟨hec,s8⟩:=MN e (kk M);have L3:=Ba e hec;rcases A.L.each B Cu g ar aY with⟨aL,_⟩|⟨pC,aCK,aCL,rfl,hbg⟩
  ·rw[aL]at I;simp at I
  have kN:=A.le;obtain⟨y,ck⟩:=dH (l:=l) (i:=e.t) (by rw[D.base.len];exact L3.2.1);have q3:IntKind.wrap .i64 (d+e.w)=d+e.w:=wV (by have:=L3.2.2.1;omega) (by have:=L3.2.2.2;unfold dg at hd1;omega);have hlN:=D.base.len;have het:e.t<N:=L3.2.1;simp only[BE];simp(disch:=omega)only[bk,hbg,adh M,i2,A.Ep,ix ck,q3,seval];have mU:∀{b1:aa Int},ly (T (T (T cy rc (.cells [.int .i64 0,.int .i64 0,.int .i64 0] false)) rc (.cells [(e.f:X),(e.t:X),(e.w:X)] false)) (U+1+1) (.cells (fd b1) false)) (E+1) b MR LX W dh:=λ{b1}=>⟨by rw[aq J,aq J,aq J];exact w.cell,by rw[aq J,aq J,aq J];exact w.ca,w.len,w.r1,w.ne⟩
  refine⟨λvt=>?_,λS5=>?_⟩
  ·refine⟨J,?_⟩;refine(aqA mU J J J A.a6).mono ?_;rintro r eD nx7 ⟨Cg,sp7,aBD,cx7,zN,V5,⟨zv,hP7⟩,M1,aBE,tY,sa⟩;have eu:∀c,c<rc->c≠b->c≠E+1->c≠U+1+1->u eD c=u cy c:=λc h1 ao aT a9=>by rw[sa c J ao aT,aq a9,aq J,aq J]
   have Iv:=hP7.length_eq;rw[ib,Ff]at Iv;have E1:=agW M (auw (D.push gS hec s8 ck vt) (b9:=zN) (hP7.trans (Jn (l₁:=W) (l₂:=[(e.t,d+e.w)]))));refine⟨g.length-(j+1),J,j+1,l.set e.t (d+e.w),zN,Cg,aBD,sp7,cx7,rfl,J,J,by rw[cD J],V5,J,aBE,J,J,by rw[eu vM J J J J];exact i2,E1,?_,?_,zv,?_,J⟩
   ·rw[sa _ J J J,aR]
   ·exact A.L.F (eu _ J J J J) (λc h1 ao=>eu c J J J J) (cC _)
   ·intro c P;rw[eu c J J J J];exact A.F c P
  ·have eu:∀c,c<rc->u (T (T cy rc (.cells [.int .i64 0,.int .i64 0,.int .i64 0] false)) rc (.cells [(e.f:X),(e.t:X),(e.w:X)] false)) c=u cy c:=λc h1=>by rw[aq J,aq J]
   have E1:=agW M (D.skip s8 ck J);exact⟨g.length-(j+1),J,j+1,l,W,b,LX,MR,dh,rfl,J,J,by rw[cD J],⟨by rw[eu _ J];exact w.cell,by rw[eu _ J];exact w.ca,w.len,w.r1,w.ne⟩,J,J,J,J,by rw[eu _ J];exact i2,E1,⟨by rw[eu _ J];exact A.Ep,A.L.F (eu _ J) (λc h1 ao=>eu c J) (cC _),A.a6,λc P=>by rw[eu _ J];exact A.F c P,J⟩⟩
 ·have:j=g.length:=J
  subst this;rw[ic]at D;have aE0:=D.end_ λe M eT=>eT.2 (by rw[<-mG];exact od.2 ⟨M,by simpa using eT.1⟩);exact⟨W.length+t5 cs (λv=>fB v||v == B),J,l,W,_,b,LX,MR,dh,rfl,J,rfl,w,g6,eR,aE0,A⟩
theorem auy{s:al}{h:ae}{U:Nat}{v:X}(B:fj h U v cR gs)(I:N<=23)(A:∀g∈gs,g7 N g)(E:gs.length<=60):aE Q s 83 [.agg ⟨[(N:X),v]⟩] h U (dI (.int .i64 0) U h):=Pt B J A J
def agX(b:al)(U:Nat)(h:ae):bN:=λr ac Y=>r = .bool b/\aA U h ac/\U<=Y
theorem aqC{s:al}{x:Int}{h:ae}{U:Nat}{v:X}(I:fj h U v cR gs)(d7:N<=23)(A:∀g∈gs,g7 N g)(bo:gs.length<=60):
  aE Q s 96 [.agg ⟨[(N:X),v]⟩,(x:X)] h U (agX (decide (0<=x/\x<(N:Int))) U h):=by
 refine auo ?_;obtain⟨a,cap,rfl,a1⟩:=id I;unfold afg;refine aG ?_;refine(auy (I.F (λb P=>aq J) (uQ _)) d7 A bo).mono ?_;rintro r M nj ⟨rfl,L,dv⟩;have E:=L U J;rw[aR]at E;have B:aA U h M:=λb P=>by rw[L b J,aq J]
 refine bl @E ?_;refine⟨λau=>⟨?_,B,J⟩,λau=>⟨?_,B,J⟩⟩
 ·congr 1;simp only[decide_eq_decide];omega
 ·have:¬(0<=x/\x<(N:Int)):=J
  simp[this]
theorem aqD{s:al}{l:aa Int}{h:ae}{U:Nat}{v B1:X}(aI:fj h U v cR gs)(P:cL h U B1 c4 l)(d7:N<=23)(A:fS<N)(B:∀g∈gs,g7 N g)(bo:gs.length<=60)(rn:kK dg N gs fS D):
  aE Q s 38 [.agg ⟨[(N:X),v]⟩,(fS:X),B1] h U (agX (decide (D=l)) U h):=by
 refine aup ?_;obtain⟨a,cap,rfl,a1⟩:=id aI;unfold afh;refine aG ?_;refine(aqC (aI.F (λb I=>aq J) (uQ _)) d7 B bo).mono ?_;rintro r h1 nj ⟨rfl,hk,dv⟩;have bP:=hk U J;rw[aR]at bP;have cM:aA U h h1:=λb I=>by rw[hk b J,aq J]
 refine bl @bP ?_;refine⟨λ_=>?_,λau=>absurd ⟨J,A⟩ au⟩;refine(aqB (aI.F cM J) d7 A B bo).mono ?_;rintro r ao M ⟨b,b1,rfl,g6,eR,I,hn,dD,f5⟩;have e:=hn.unique rn;subst e;have er:=cM.trans dD J;have E:=hn.len;have L:cL ao M (.slice (some ⟨b,0,none⟩) N N) c4 b1:=⟨some ⟨b,0,none⟩,N,by rw[E],λ_=>⟨b,none,false,eR,rfl,by rw[iF];exact I⟩⟩
 refine(aum L (P.F er J) J).mono ?_;rintro r aT vN ⟨rfl,rfl,rfl⟩;exact⟨rfl,er,J⟩
def aBF(N fS U:Nat)(ao:ae)(m:Nat)(aF:aa X)(ac:ae)(Y:Nat):Prop :=
 ∃(i:Nat) (o:X),m=N-i/\i<=N/\aF=[(fS:X),bf U,o,(i:X)]/\eb ac o c4 1 (List.replicate i dg) (U+1) Y/\aA (U+1) ao ac/\U+1<=Y
def aBG(N fS U b:Nat)(gs:aa GE)(D:aa Int)(ao:ae)(m:Nat)(aF:aa X)(ac:ae)(Y:Nat):Prop :=
 ∃(k:Nat) (l:aa Int),m=N-k/\k<=N/\aF=[bf U,.slice (some ⟨b,0,some 1⟩) N N,(k:X)]/\u ac b=some (.cells (fd l) false)/\uf dg N gs fS D k l/\aA (U+1) ao ac/\b<Y
def aii(N fS U b k:Nat)(gs:aa GE)(gR:aa Int)(ao:ae)(m:Nat)(aF:aa X)(ac:ae)(Y:Nat):Prop :=
 ∃(i:Nat) (l:aa Int),m=gs.length-i/\i<=gs.length/\aF=[bf U,.slice (some ⟨b,0,some 1⟩) N N,(k:X),(i:X)]/\u ac b=some (.cells (fd l) false)/\ps dg N gs fS gR i l/\aA (U+1) ao ac/\b<Y
def aBH(N:Nat)(D:aa Int)(U:Nat)(h:ae):bN:=λr ac Y=>∃b,r = .slice (some ⟨b,0,some 1⟩) N N/\U<=b/\b<Y/\u ac b=some (.cells (fd D) false)/\aA U h ac/\U<=Y
theorem axb{s:al}{h:ae}{U:Nat}{v:X}(aI:fj h U v cR gs)(d7:N<=23)(pq:fS<N)(jb:∀g∈gs,g7 N g)(bo:gs.length<=60)(rn:kK dg N gs fS D):
  aE Q s 37 [.agg ⟨[(N:X),v]⟩,(fS:X)] h U (aBH N D U h):=by
 refine azi ?_;obtain⟨a,cap,rfl,a1⟩:=id aI;have gS:∀e∈gs,e.f<N/\e.t<N/\0<=e.w:=λe E=>⟨(jb e E).1,(jb e E).2.1,(jb e E).2.2.1⟩
 unfold aie;refine aG ?_;refine bE.mk (aBF N fS U (T h U (.cells [(N:X),.slice a gs.length cap] false))) N ⟨0,_,rfl,J,rfl,.inl ⟨rfl,rfl⟩,aA.refl _ _,cC _⟩ ?_;rintro m _ ao np ⟨i,o,rfl,ag,rfl,S,hk,dv⟩;have bP:=hk U J;rw[aR]at bP;rw[aw0];unfold afi;refine bl @bP ?_;refine⟨λcb=>?_,λeG=>?_⟩
 ·refine mu (enc:=c4) (k:=1) (ap:=U+1) (λ_=>rfl) (λ_=>rfl) J (S.F (λb h1 ao=>aq J) J) J dg (aR _ _ _) rfl (by simp;omega) λv3 aT hs3 M=>?_;rw[<-List.replicate_succ']at hs3;show ∃bD,_/\_;exact⟨N-(i+1),J,i+1,_,rfl,J,by rw[cD J],hs3,λb aW=>by rw[M b J,aq J];exact hk b aW,J⟩
 have hiN:i=N:=J
 subst hiN;rcases S with⟨e,_⟩|⟨b,g6,eR,rfl,aW⟩
 ·have:=congrArg List.length e;simp at this;omega
 rw[iF]at aW;simp only[Jm];simp(disch:=omega)only[bk,aW,Jm,seval];refine⟨pq,?_⟩;refine bE.mk (aBG i fS U b gs D (T h U (.cells [(i:X),.slice a gs.length cap] false))) i ⟨0,_,rfl,J,rfl,aR _ _ _,uf.init (by decide) pq gS rn,hk.set J,eR⟩ ?_;rintro m _ aT vN ⟨k,gR,rfl,xo,rfl,mK,B,M,ga⟩;have dp:=M U J;rw[aR]at dp;rw[aw5];unfold afk;refine bl @dp ?_;refine⟨λcb=>?_,λeG=>?_⟩
 ·refine bE.mk (aii i fS U b k gs gR (T h U (.cells [(i:X),.slice a gs.length cap] false))) gs.length ⟨0,gR,rfl,J,rfl,mK,ps.start B,M,ga⟩ ?_;have ni:=(ps.start B).len;rintro m _ a9 vM ⟨j,l,rfl,b5,rfl,P,I,L,g5⟩;have dZ:=L U J;rw[aR]at dZ;rw[aw2];unfold afj;refine bl @dZ ?_;refine⟨λvt=>?_,λS5=>?_⟩
  ·obtain⟨e,E⟩:=dH vt;have A:=jb e (kk E);have s8:e.f<i:=A.1;have het:e.t<i:=A.2.1;obtain⟨_,be,aB,bG,j4,l3,hbe,S0,zj⟩:=aI.at E;cases S0;have aBI:=(L be J).trans ((aq J).trans zj);obtain⟨x,bd⟩:=dH (l:=l) (i:=e.f) (by rw[I.len];exact s8);obtain⟨y,ck⟩:=dH (l:=l) (i:=e.t) (by rw[I.len];exact het);have zf:=I.len;have qd:hB (some 3) (j*3) (a7 cR gs++l3) = .ok (.agg ⟨[(e.f:X),(e.t:X),(e.w:X)]⟩):=BI (enc:=cR) (k:=3) (λ_=>rfl) E (cs:=l3);have uq:0<=x:=by
    rcases I.h2 _ _ bd with h|⟨_,k,w⟩
    ·rw[h];decide
    ·exact w.GQ λe E=>(gS e E).2.2
   simp(disch:=omega)only[bk,aBI,qd,P,ix bd,ix ck,seval];have fin:∀{gM:ae} (b1:aa Int) (ac:ae) (Y:Nat),u ac b=some (.cells (fd b1) false)->ps dg i gs fS gR (j+1) b1->aA (U+1) gM ac->b<Y ->
     ∃bD,bD<gs.length-j/\aii i fS U b k gs gR gM bD [bf U,.slice (some ⟨b,0,some 1⟩) i i,(k:X),.int .i64 (IntKind.wrap .i64 ((j:Int)+1))] ac Y:=λb1 ac Y aD a2 a3 aZ =>
    ⟨gs.length-(j+1),J,j+1,b1,rfl,J,by rw[cD J],aD,a2,a3,aZ⟩
   have xB:∀{e7 db:fU},u (T (T a9 vM e7) vM db) b=some (.cells (fd l) false):=λ{e7 db}=>by rw[aq J,aq J];exact P
   refine⟨λHV=>?_,λHV=>?_⟩
   ·have q3:IntKind.wrap .i64 (x+e.w)=x+e.w:=wV (by have:=A.2.2.1;omega) (by have:=A.2.2.2;omega);refine bl @q3 ?_;unfold Lc;simp(disch:=omega)only[bk,P,ix bd,q3,seval];refine⟨λBe=>⟨J,?_⟩,λaAX=>?_⟩
    ·exact fin _ _ _ (aR _ _ _) (I.set E bd ck HV Be A.2.2.1 ni (λe E=>(gS e E).2.2)) (((L.set J).set J).set J) J
    ·exact fin l _ _ xB (I.skip E (λfK nV h1 ao _=>by rw[bd]at h1;rw[ck]at ao;cases h1;cases ao;omega) ni) ((L.set J).set J) J
   ·unfold Lc;refine aG ?_;exact fin l _ _ xB (I.skip E (λfK nV h1 ao aT=>by rw[bd]at h1;cases h1;exact absurd aT HV) ni) ((L.set J).set J) J
  ·have:j=gs.length:=J
   subst this;exact⟨i-(k+1),J,k+1,l,rfl,J,by rw[cD J],P,uf.step (by decide) pq gS rn B I,L,g5⟩
 ·have:k=i:=J
  subst this;have e:=B.done;subst e;exact⟨b,rfl,J,ga,mK,λc a1=>by rw[M c J,aq J],J⟩
section
variable {s:al} {h:ae} {U:Nat} {c9 src r c:Int} {a:aw Addr} {n cap:Nat} {es:aa hZ}
theorem aqE(B : -9223372036854775808<=c9)(L:c9<=9223372036854775807):
  aE Q s 94 [.agg ⟨[(c9:X),.slice a n cap]⟩,(src:X),(r:X),(c:X)] h U (dI (.agg ⟨gJ (l8 2 c9 src r c es) (.slice none 0 0) (.slice a n cap) (.slice none 0 0)⟩) U h):=by refine aqw ?_;unfold adi;refine aG ?_;refine(aqr (es:=es) B L).cu λI M A g=>?_;unfold gJ;have E:u I (U+1)=_:=(A (U+1) J).trans (aR _ _ _);refine bl @E ?_;exact⟨rfl,aM,J⟩
def azl(c9 src r c:Int)(es:aa hZ)(v:X)(U:Nat)(ac:ae)(Y:Nat):Prop :=
 (hq (l8 2 c9 src r c es)≠0/\v = .slice none 0 0) \/
 (hq (l8 2 c9 src r c es)=0/\∃(Z:b8) (av:Nat),ER 2 c9 src r c es Z av/\eb ac v c4 1 (cA Z.N (Z.e3.st av).A) U Y)
theorem afs(ey:∀(Z:b8) (g:Nat),ER 2 c9 src r c es Z g->(∃v:Nat,Z.src=(v:Int)/\v<Z.N)->zx Z g)(H:pY h U (l8 2 c9 src r c es) (.slice none 0 0) (.slice a es.length cap) (.slice none 0 0))(au:0<c9)(ao:c9<=9223372036854775807)(bw:c9<=30\/4096<c9):
  aE Q s 35 [.agg ⟨[(c9:X),.slice a es.length cap]⟩,(src:X),(r:X),(c:X)] h U (λn2 ac Y=>∃v,n2 = .tuple ⟨[v,.int .i64 (hq (l8 2 c9 src r c es))]⟩/\aA U h ac/\U<=Y/\azl c9 src r c es v U ac Y):=by
 refine aw6 ?_;unfold agV;refine aG ?_;refine(aqE (es:=es) J ao).cu λbP L cM fi=>?_;unfold gJ;refine aG ?_;generalize gS:T (T bP L _) L _=g2;have kY:u g2 L=some (.cells (gJ (l8 2 c9 src r c es) (.slice none 0 0) (.slice a es.length cap) (.slice none 0 0)) false):=by rw[<-gS,aR];rfl
 have Kh2:aA U h g2:=aM
 have gM:=H.F (Y:=L+1) Kh2 J;refine(alv  gM).cu λdp bT fC M=>?_;have lM:=(fC L J).trans kY;have Kh3:aA U h dp:=aM
 have E9:ov (.agg ⟨gJ (l8 2 c9 src r c es) (.slice none 0 0) (.slice a es.length cap) (.slice none 0 0)⟩) (.agg ⟨gJ (l8 2 c9 src r c es) (.slice none 0 0) (.slice a es.length cap) (.slice none 0 0)⟩)=true:=by unfold gJ;simp(disch:=omega)only[bk,gc,seval]
 unfold gJ at kY lM E9;refine⟨M,?_⟩;refine ls @kY @lM @sE @E9 ?_;have jj:=H.F (Y:=bT) Kh3 J
 by_cases B:hq (l8 2 c9 src r c es)=0
 ·have I:c9<=30:=bw.elim id λh=>absurd B λau=>by
   unfold hq l8 q0 kv i5 at au
   grind
  obtain⟨Z,g,NG,E,S,eI,W,v9,ip,EH⟩:=awR J jj B I;have hN0:0<Z.N:=by have:=NG.eM;omega
  rw[show(l8 2 c9 src r c es).lim=p9 c9 from rfl,v9];refine(aui  S eI NG.f8 (ey Z g NG (E J)) ip EH).mono ?_;rintro _ dZ P ⟨lK,mP,kX,kZ,tq,gD,hL,rfl,⟨dq,fw,fD,hv,fP,hl,gm⟩,g1,A⟩;simp only[Value.agg.injEq,x1,wn,iw]at hv;obtain⟨rfl,rfl,rfl,rfl,rfl⟩:=hv;obtain⟨iD,cz,rfl,_⟩:=id fP;obtain⟨h7,cE,rfl,_⟩:=id hl;obtain⟨hM,cm,rfl,_⟩:=id gm;refine⟨A,?_⟩;refine aG ?_;have nz:∀{o aX},aA P dZ (T (T dZ P o) P aX):=aM
  have eh:cA Z.N (Z.e3.st g).A≠[]:=λe=>by have:=jl Z.N (Z.e3.st g).A;rw[e]at this;simp at this;omega
  refine(amP (fP.rd.F nz J) (by rw[jl];have:=S.K.n60;omega) eh).mono ?_;rintro v oZ n6 ⟨uJ,zH,kN⟩
  (try simp(disch:=omega)only[bk,seval])
  exact⟨v,by rw[B],aM,J,.inr ⟨B,Z,g,NG,azc uJ J⟩⟩
 ·refine(aqs  jj B).cu λdZ P g1 A=>⟨A,?_⟩
  have aW:(hq (l8 2 c9 src r c es) == 0)=false:=ab
  unfold zR9;refine bl @aW ?_;exact⟨_,rfl,aM,J,.inl ⟨B,rfl⟩⟩
end
theorem agY(hk:Z.k=2)(ar:Z.src=(fS:Int))(pq:fS<Z.N)(M:xc gs Z.ai)(I:∀g∈gs,g7 Z.N g):tW Z.e3 gs fS:=by
 have h:kL ((yC gs).map dJ) (Z.ai.map dJ):=M;have back:∀g∈Z.ai,∃e∈gs,g=pX e:=λg A=>PO.1 (h.sub g A);refine⟨hk,ar,pq,λg A=>?_,λg A=>?_,λg A=>?_,λg A=>?_⟩
 ·obtain⟨e,P,rfl⟩:=back g A;obtain⟨B,E,L,a9⟩:=I e P;exact⟨L,a9,E,B⟩
 ·obtain⟨e,P,rfl⟩:=back g A;exact⟨e,P,rfl,rfl,rfl⟩
 ·obtain⟨z,c0,B,E⟩:=h.vL.Ex (dJ (pX g)) (f3.2 ⟨_,PO.2 ⟨g,A,rfl⟩,rfl⟩);obtain⟨c,a1,rfl⟩:=f3.1 c0;have bo:=((h.vL.mem (dJ c)).1 c0).2 _ (f3.2 ⟨_,PO.2 ⟨g,A,rfl⟩,rfl⟩) ⟨B,E⟩;have B:(c.f:Int)=(g.t:Int):=B;have E:(c.t:Int)=(g.f:Int):=E;exact⟨c,a1,J,J,bo⟩
 ·obtain⟨B,E,L,a9⟩:=I g A;exact⟨B,E,L⟩
theorem aft(K:f4 Z)(E:tW Z.e3 gs fS)(A:Nat):zx Z A:=λt _=>by
 have I:Z.k=2:=E.k;have B:∀v,wh (Z.e3.x t v):=λv y g=>by
  have g:qV Z.k (Z.e3.bb t) t (Z.e3.st (t-1)) v=some y:=g;unfold qV at g;rw[if_neg J,if_neg J]at g
  split at g
  ·cases g;exact(vq.all E (t-1)).gD v
  ·cases g
 exact⟨aza K λv _=>B v,λv y _=>B v y⟩
theorem adk{av:Nat}(E:tW Z.e3 gs fS)(B:1<=Z.R)(I:Z.N<Z.lim)(g:Z.f8 av≠0):kK dg Z.N gs fS (cA Z.N (Z.e3.st av).A):=by
 have L:Z.k=2:=E.k;refine E.Ep λv A=>?_;rcases amQ J J B g with h|h
 ·exact E.quiet (by show Z.N<=av;omega) v A
 ·exact h v A
theorem auz{s:al}(azm:∀(s:al) (h:ae) (U:Nat),aE Q s 36 [] h U (fs (.bool true) U h)){n R:Int}{v:X}{es:aa hZ}{h:ae}{U:Nat}(aI:cL h U v iI es)(ef:0<=R/\R<=255)(d0:0<=C/\C<=255):
  aE Q s 7 [.agg ⟨[(n:X),v,(V:X),.int .u8 R,.int .u8 C]⟩] h U (aBp U h):=by
 refine aqx ?_;obtain⟨a,cap,rfl,a1⟩:=id aI;unfold adj;refine aG ?_;refine(avL (aI.F aM J)).mono ?_;rintro r h1 g ⟨N,fS,lT,tn,v2,gs,rfl,hN0,d7,I,P,M,jP,dv,hk,Wo,Wp⟩;have Wo:=Wo ef.1 ef.2;have Wp:=Wp d0.1 d0.2;have qd:cL h1 g v2 cR gs:=jP.rd;obtain⟨a2,c2,rfl,oG⟩:=id jP;refine aG ?_;generalize fu:T (T h1 g _) g _=ao;have kY:u ao g=some (.cells [(N:X),.slice a2 gs.length c2] false):=by rw[<-fu,aR]
 have er:aA U h ao:=aM
 have rd2:cL ao (g+1) (.slice a2 gs.length c2) cR gs:=qd.F aM J;have S:pY ao (g+1) (l8 2 N fS lT tn (gs.map dJ)) (.slice none 0 0) (.slice a2 gs.length c2) (.slice none 0 0):=⟨⟨none,0,rfl,λh=>absurd rfl h⟩,fj.of (azd rd2),⟨none,0,rfl⟩,.inl (by show(gs.map dJ).length<=60;rw[gX];exact P)⟩
 have kF:hq (l8 2 N fS lT tn (gs.map dJ))=0:=awT (k:=2) hN0 d7 I P M Wo Wp J;have aDy:gs.length=(gs.map dJ).length:=by rw[gX]
 have jH:=S;rw[aDy]at jH;have B:∀(Z:b8) (av:Nat),ER 2 N fS lT tn (gs.map dJ) Z av->N=Z.N/\tW Z.e3 gs fS:=λZ av A=>by
  have e:=A.eM;obtain rfl:N=Z.N:=J
  have l5:xc ((gs.map dJ).map nP) Z.ai:=A.ai;rw[awS]at l5;exact⟨rfl,agY A.cu A.zE I l5 M⟩
 have run:=afs (s:=s) (λZ av A _=>aft A.K (B Z av A).2 av) jH J J J;rw[<-aDy]at run;refine run.mono ?_;rintro _ aT bT ⟨v,rfl,fC,ga,aE1⟩;rw[kF];rcases aE1 with⟨au,_⟩|⟨_,Z,av,A,uJ⟩
 ·exact absurd kF au
 obtain⟨rfl,LE⟩:=B Z av A;have aBJ:Z.N<Z.lim:=by have:=A.el;unfold p9 at this;omega
 have Cv:=adk (av:=av) LE A.K.lW aBJ (λh=>by have:=(A.f8 av J).1 h;omega);generalize cA Z.N (Z.e3.st av).A=L at *
 have zQ:cL aT bT v c4 L:=uJ.rd;have lM:=(fC g J).trans kY;have dp:cL aT bT (.slice a2 gs.length c2) cR gs:=rd2.F fC J;refine(azm s aT bT).fZ ?_;refine bl @lM ?_;refine(axb (fj.of dp) J I M P Cv).mono ?_;rintro n5 a9 dP ⟨b,rfl,g6,eR,Cr,g1,E⟩;have aE2:cL a9 dP (.slice (some ⟨b,0,some 1⟩) Z.N Z.N) c4 L:=⟨some ⟨b,0,some 1⟩,Z.N,by rw[Cv.len],λ_=>⟨b,some 1,false,eR,rfl,by rw[iF];exact Cr⟩⟩
 refine(aul (zQ.F g1 E) aE2 (by rw[Cv.len];omega)).fZ ?_;have cQ:=(g1 g J).trans lM;have dZ:cL a9 dP (.slice a2 gs.length c2) cR gs:=dp.F g1 E;simp(disch:=omega)only[bk,cQ,decide_true,seval];refine(aqD (fj.of dZ) (zQ.F g1 E) J I M P Cv).mono ?_;rintro _ cy n6 ⟨rfl,zH,kN⟩;exact⟨by simp,aM,J⟩
def IN:aa X:=[.int .i64 0,.int .i64 1,.int .i64 5,.int .i64 0,.int .i64 2,.int .i64 1,.int .i64 2,.int .i64 1,.int .i64 2]
def lpA:aa X:=[.int .i64 0,.int .i64 3,.int .i64 1,.int .i64 4611686018427387904]
def L4(h:ae)(b U:Nat):al:=Nat.blt b U&&(match u h b with|some (.cells cs false)=>ov (.agg ⟨cs⟩) (.agg ⟨IN⟩)|_=>false)
def Vz(args:aa X)(h:ae)(U:Nat)(K:bN):Prop:=match args with
 | [.agg ⟨[.int .i64 n,.slice (some ⟨b,0,aB⟩) l cap]⟩,.int .i64 src,.int .i64 r,.int .i64 c]=>v6 (fk n 4&&Nat.beq l 3&&L4 h b U)
  (Bool.rec (v6 (fk src (-1)&&fk r 1&&fk c 1) (K (.tuple ⟨[.slice none 0 0,.int .i64 3]⟩) h U))
   (K (.tuple ⟨[.slice (some ⟨U,0,some 1⟩) 4 4,.int .i64 0]⟩) (T h U (.cells lpA false)) (U+1)) (fk src 0&&fk r 2&&fk c 2))
 |_=>False
def Tr(args:aa X)(h:ae)(U:Nat)(K:bN):Prop:=match args with
 | [.int .i64 r,.slice (some ⟨b,0,aB⟩) l cap]=>v6 (fk r 1&&Nat.beq l 3&&L4 h b U) (K (.tuple ⟨[.slice (some ⟨U,0,some 3⟩) 3 3,.int .i64 0]⟩) (T h U (.cells IN false)) (U+1))
 |_=>False
def VA(f:FuncId):aw (aa X->ae->Nat->bN->Prop):=bif Nat.beq f 35 then some Vz else bif Nat.beq f 172 then some Tr else none
def lpT(f:FuncId):aa (aa Nat):=match([(19,[[0,1,4,5]]),(39,[[1,4,5,6,27,28,29],[1,4,5,6,9,10]]),(44,[[1,5,6,23,24,25]]),(51,[[0,1,4,5]]),(81,[[0,1,6,7,8,9]]),(85,[[0,1,4,12,13]]),(95,[[3,8,9,10,11,12],[3,8,9,10,11,12,13,56,57,58]]),(97,[[1,5,6,26,27,28],[5,6,9],[5,6,9,10,74,75,76]]),(162,[[0,2,3]]),(168,[[7,8]]),(255,[[0,1,4,7,8]]),(257,[[0,1,2,7]]),(258,[[0,1]])]:aa (Nat × aa (aa Nat))).find? λp=>Nat.beq p.1 f with
 |some p=>p.2
 |none=>[]
@[irreducible] def VB(n m:Nat):Prop:=H0 Q lpT VA n m 36 [] hs 0 (λv _ _=>Wk v)
theorem amT:VB 30 20=True:=by kernel_rfl
theorem adl{h:ae}{U:Nat}(e:L4 h b U=true):b<U/\u h b=some (.cells IN false):=by
 unfold L4 at e;simp only[eo]at e;refine⟨Jt (by simpa[wq]using e.1) (cC _),?_⟩;have aK:=e.2
 split at aK
 ·rename_i cs g
  rw[g,CW (x:=cs) (y:=IN) aK]
 ·cases aK
def Bh:aa hZ:=[(0,1,5),(0,2,1),(2,1,2)]
def oP:aa GE:=[⟨0,1,5⟩,⟨0,2,1⟩,⟨2,1,2⟩]
theorem axc:∀g∈oP,g7 4 g:=by
 intro g A;unfold oP at A;simp at A;rcases A with rfl|rfl|rfl <;> exact⟨by decide,by decide,by decide,by decide⟩
theorem aBK:∀(k v:Nat) (x:Int),hH oP 0 k v x->v<=2/\([0,3,1].getD v 0:Int)<=x:=by
 intro k v x w
 induction w with
 |nil=>exact⟨by decide,by decide⟩
 |snoc A w g =>
  unfold oP at A;simp at A;rcases A with rfl|rfl|rfl
  ·simp at g ⊢;omega
  ·simp at g ⊢;omega
  ·simp at g ⊢;omega
theorem axd:kK dg 4 oP 0 [0,3,1,dg]:=by
 have B:hH oP 0 0 0 0:=.nil;have A:hH oP 0 1 2 1:=.snoc (e:=⟨0,2,1⟩) (by simp[oP]) B;have E:hH oP 0 2 1 3:=.snoc (e:=⟨2,1,2⟩) (by simp[oP]) A;refine⟨rfl,λk v n x w g=>?_,λv x g=>?_⟩
 ·have:=aBK k v n w
  match v,g with
  |0,g|1,g|2,g=>cases g;exact this.2
  |3,g=>omega
 ·match v,g with
  |0,g=>cases g;exact .inr ⟨by decide,_,B⟩
  |1,g=>cases g;exact .inr ⟨by decide,_,E⟩
  |2,g=>cases g;exact .inr ⟨by decide,_,A⟩
  |3,g=>cases g;exact .inl rfl
theorem auA{h:ae}{U:Nat}(g:Tr args h U K)(s:al):aE Q s 172 args h U K:=by
 unfold Tr at g
 split at g
 ·rename_i r b aB l cap
  obtain⟨e,L⟩:=AO g;simp only[eo]at e;obtain⟨⟨P,aK⟩,M⟩:=e;obtain⟨A,aY⟩:=adl M;rw[yi.1 P,gr aK];have aI:fj h U (.slice (some ⟨b,0,aB⟩) 3 cap) j6 (oP.map dJ):=⟨_,_,rfl,λ_=>⟨b,aB,false,[],A,rfl,aY⟩⟩
  have ar:(oP.map dJ).Pairwise kT:=by simp[oP,dJ,kT]
  refine aE.mN (val:=λb=>.tuple ⟨[.slice (some ⟨b,0,some 3⟩) 3 3,.int .i64 0]⟩) (cs:=IN) rfl Oo ((aeo aI (λx g=>?_) (by decide)).mono ?_) L
  ·simp[oP,dJ]at g;rcases g with rfl|rfl|rfl <;> exact⟨rfl,rfl,rfl⟩
  ·rintro _ ac Y ⟨v2,l,rfl,E,c0,a6,B,L⟩;have e:l=oP.map dJ:=(ZX a6 B).unique (kL.self ar);subst e;rcases E with⟨e,_⟩|⟨b,I,eR,rfl,A⟩
   ·cases e
   ·exact⟨b,rfl,I,A,L⟩
 ·exact g.elim
theorem axe{h:ae}{U:Nat}(M:Vz args h U K)(s:al):aE Q s 35 args h U K:=by
 unfold Vz at M
 split at M
 ·rename_i n b aB l cap src r c
  obtain⟨e,I⟩:=AO M;simp only[eo]at e;obtain⟨⟨aU,aK⟩,cc⟩:=e;obtain⟨aW,aY⟩:=adl cc;cases yi.1 aU;cases gr aK;have aI:fj h U (.slice (some ⟨b,0,aB⟩) 3 cap) iI Bh:=⟨_,_,rfl,λ_=>⟨b,aB,false,[],aW,rfl,aY⟩⟩
  have A:∀(src r c:Int) (Z:b8) (av:Nat),ER 2 4 src r c Bh Z av->0<=src->src<4->Z.N=4/\tW Z.e3 oP src.toNat:=λsrc r c Z av g au a9=>by
   have e:=g.eM;have P:Z.N=4:=J
   have l5:xc (Bh.map nP) Z.ai:=g.ai;exact⟨P,agY (gs:=oP) g.cu (by rw[g.zE];omega) J l5 (by rw[P];exact axc)⟩
  have qz:∀(Z:b8) (av:Nat),ER 2 4 src r c Bh Z av->(∃v:Nat,Z.src=(v:Int)/\v<Z.N)->zx Z av:=λZ av g ⟨v,h1,ao⟩=>by have e:=g.eM;have aK:=g.zE;exact aft g.K (A src r c Z av g J J).2 av
  have L:∀lJ,aE Q lJ 35 [.agg ⟨[.int .i64 4,.slice (some ⟨b,0,aB⟩) 3 cap]⟩,(src:X),(r:X),(c:X)] h U _:=λlJ=>afs (es:=Bh) (s:=lJ) qz ⟨⟨none,0,rfl,λh=>absurd rfl h⟩,aI,⟨none,0,rfl⟩,.inl (J:3<=60)⟩ J J (.inl J);cases c3:(fk src 0&&fk r 2&&fk c 2)with
  |true =>
   rw[c3]at I;simp only[eo,yi]at c3;obtain⟨⟨rfl,rfl⟩,rfl⟩:=c3;refine aE.mN (val:=λb=>.tuple ⟨[.slice (some ⟨b,0,some 1⟩) 4 4,.int .i64 0]⟩) (cs:=lpA) rfl Oo ((L false).mono ?_) I;rintro _ ac Y ⟨v,rfl,B,dv,⟨E,_⟩|⟨E,Z,av,g,uJ⟩⟩
   ·exact absurd (by kernel_rfl) E
   obtain⟨P,LE⟩:=A 0 2 2 Z av g J J;have Cv:=adk (av:=av) LE g.K.lW (by have:=g.el;unfold p9 at this;omega) (λh=>by have:=(g.f8 av J).1 h;omega);rw[P]at Cv uJ;have hy:=Cv.unique axd;rw[hy]at uJ;rw[E];rcases uJ with⟨e,_⟩|⟨dL,dK,dr,rfl,dl⟩
   ·cases e
   exact⟨dL,rfl,dK,dl,B⟩
  |false =>
   rw[c3]at I;obtain⟨d6,I⟩:=AO I;simp only[eo,yi]at d6;obtain⟨⟨rfl,rfl⟩,rfl⟩:=d6;refine aE.plain (v:=.tuple ⟨[.slice none 0 0,.int .i64 3]⟩) rfl ((L false).mono ?_) I;rintro _ ac Y ⟨v,rfl,B,dv,⟨E,rfl⟩|⟨E,_⟩⟩
   ·exact⟨by rw[show hq (l8 2 4 (-1) 1 1 Bh)=3 by kernel_rfl],B⟩
   ·rw[show hq (l8 2 4 (-1) 1 1 Bh)=3 by kernel_rfl]at E;cases E
 ·exact M.elim
theorem axf{g:aa X->ae->Nat->bN->Prop}(A:VA f=some g){h:ae}{U:Nat}(I:g args h U K)(s:al):aE Q s f args h U K:=by
 unfold VA at A;cases B:Nat.beq f 35 with
 |true =>
  rw[B]at A;cases A;rw[gr B];exact axe I s
 |false =>
  rw[B]at A;cases E:Nat.beq f 172 with
  |true =>
   rw[E]at A;cases A;rw[gr E];exact auA I s
  |false=>rw[E]at A;cases A
theorem amU{n m:Nat}(e:VB n m):aE Q false 36 [] hs 0 (λv _ _=>v = .bool true):=
 (adI mh (λf g B args h U K E s=>axf B E s) m false 36 [] hs 0 _ (by unfold VB at e;exact e)).mono λv _ _ A=>by
  unfold Wk at A
  split at A
  ·rfl
  ·exact A.elim
theorem axg{s:al}{h:ae}{U:Nat}:aE Q s 36 [] h U (fs (.bool true) U h):=aE.home (b:=true) (amU (of_eq_true amT)) ⟨rfl,rfl,rfl⟩
theorem auB{n R:Int}{mN:X}{A:aa hZ}{W:World}(L:(A=[]/\mN = .slice none 0 0)\/∃b g cap,mN = .slice (some ⟨b,g,none⟩) A.length cap/\K0 W b g (a7 iI A))(M:0<=R/\R<=255)(d0:0<=C/\C<=255):
  Calls Tryz.prog 7 #[.agg ⟨[(n:X),mN,(V:X),.int .u8 R,.int .u8 C]⟩] W λe I=>e = .returned (.bool true)/\Below W.heap.size W I:=by obtain⟨E,P,B⟩:=au1 (λ_=>rfl) L;exact callsIn_wide.1 (au2 (n:=0) ((auz (s:=false) (λ_ _ _=>axg) (n:=n) (V:=V) B M d0).mono λ_ _ _ h=>h.1) (auU E) (axG _) (.cons (.agg (.cons (.int _ _) (.cons P (.cons (.int _ _) (.cons (.int _ _) (.cons (.int _ _) .nil)))))) .nil))
theorem amV(os:Os)(g:os.Started)(H:Type)(enc:TypeId × X->H):
  ReturnsInHanded {} Tryz.checked os 7 .any (Rows.pathsRunsSpec.pre6 enc Tryz.prog Tryz.f7 Rows.pathsRunsRow.domain false) (Rows.pathsRunsSpec.post enc Tryz.prog Tryz.f7 false true false false):=by
 refine returnsInHanded_of_change (C:=Tryz.checked) own g (by kernel_rfl) Tryz.func7
  (ChangeSpec.witness6 (enc:=enc) (C:=Tryz.checked) false ⟨#[],#[.agg #[.int .i64 0,.slice none 0 0,.int .i64 0,.int .u8 0,.int .u8 0]],[]⟩ 8 (by kernel_rfl) (by kernel_rfl) (by kernel_rfl) (by kernel_rfl)) ?_
 intro W base args bR gs before A ip aCM _;have B:∀(j:Nat) t v,Tryz.f7.params[j]? = some t->args[j]? = some v->Value.okWide Tryz.prog W .any base t v:=A;have P:=ip;obtain⟨p,q,I,lV,rfl,hfz,Mq⟩:=ip;have ik:DataW.TrodAll enc Tryz.prog W 0 (λ_=>true) true Tryz.f7.params.toList args.toList bR p:=I;rw[Tryz.params7]at ik B;obtain⟨k1,vs0,aEM,ds0,aE3,hR,M,rfl,rfl,au,fX⟩:=trodAll_cons ik;obtain⟨rfl,rfl,rfl⟩:=trodAll_nil fX;obtain rfl:args=#[k1]:=ab
 obtain⟨rfl,rfl⟩:=trodVars_none lV;have jX:=au;have L:∀x∈aE3,x.block<W.heap.size:=by obtain⟨m,hm⟩:=jX;exact DataW.trod_lt m _ _ _ hm
 obtain⟨n,V,R,C,mN,uH,rfl,c0,ef,d0⟩:=alw (B 0 26 k1 rfl rfl) au;clear I A;refine(auB (n:=n) (V:=V) c0 ef d0).mono λe b9 ⟨b0,E⟩=>?_;subst b0;exact⟨_,rfl,_,_,_,[],_,[],P,trodAll_mk1 (shut_bool aDU _),(trodAll_cons_mk (Below.trod ast (by kernel_rfl) (of_decide_eq_true (by kernel_rfl)) jX E L) trodAll_mk0),rfl,E.frame _,λh=>by cases h⟩
theorem auC:Tryz.prog.funcNamed Rows.pathsRunsRow.func=some 7:=by kernel_rfl
end Go.Proofs.YthlhhajnbgjfmaaGreat
