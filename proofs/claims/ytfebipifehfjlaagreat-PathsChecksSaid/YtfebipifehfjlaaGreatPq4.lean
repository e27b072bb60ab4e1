/- Parts of the proof: Pq4: each statement bears its own conditions. -/
import Derived.Test.YtfebipifehfjlaaGreatPq3
namespace Go.Ax
open Go
set_option linter.unusedSimpArgs false
set_option linter.unusedVariables false
def zGo:CF:={ res:=[.tmp 4],body :=
 (.seq (.regO [⟨none,(some 2),0,.alc (.box (.t 0))⟩,
  ⟨none,(some 4),0,.pur (.mv (.v (.slice none 0 0)))⟩])
 (.seq (.regO [⟨none,(some 5),0,.pur (.mv (.v (.slice none 0 0)))⟩])
 (.seq (.seq (.regO [⟨none,(some 6),0,.pur (.mv (.v (.int .i64 0)))⟩])
 (.block 0
 (.loop
  (.seq (.seq (.regO [⟨none,(some 10),0,.pur (.mv (.t 6))⟩,
   ⟨none,(some 11),0,.pur (.fldA 0 (.t 2))⟩,
   ⟨none,(some 12),0,.red (.ld none (.t 11))⟩,
   ⟨none,(some 13),0,.pur (.bin .lss 3 (.t 10) (.t 12))⟩])
  (.cond (.t 13)
  .skip
  (.exit 0)))
  (.seq (.block 1
  (.seq (.regO [⟨none,(some 7),0,.pur (.mv (.v (.int .i64 (-1))))⟩])
  (.seq (.seq (.regO [⟨none,(some 8),0,.pur (.mv (.v (.int .i64 0)))⟩])
  (.block 2
   (.loop
   (.seq (.seq (.regO [⟨none,(some 16),0,.pur (.mv (.t 8))⟩,
    ⟨none,(some 17),0,.pur (.fldA 1 (.t 2))⟩,
    ⟨none,(some 18),0,.red (.ld none (.t 17))⟩,
    ⟨none,(some 19),0,.red (.lens (.t 18))⟩,
    ⟨none,(some 20),0,.pur (.bin .lss 3 (.t 16) (.t 19))⟩])
   (.cond (.t 20)
    .skip
    (.exit 2)))
   (.seq (.block 3
    (.seq (.regO [⟨none,(some 23),0,.pur (.fldA 1 (.t 2))⟩,
     ⟨none,(some 24),0,.red (.ld none (.t 23))⟩,
     ⟨none,(some 25),0,.pur (.mv (.t 8))⟩,
     ⟨none,(some 26),0,.pur (.ixA (.slice 3) (.t 24) (.t 25))⟩,
     ⟨none,(some 27),0,.red (.ld (some 3) (.t 26))⟩,
     ⟨none,(some 9),0,.alc (.new [(.int .i64 0),(.int .i64 0),(.int .i64 0)])⟩,
     ⟨none,none,0,.eff (.st 3 (.t 9) (.t 27))⟩])
    (.seq (.regD [⟨none,(some 28),0,.pur (.fldA 1 (.t 9))⟩,
     ⟨none,(some 29),0,.red (.ld none (.t 28))⟩,
     ⟨none,(some 30),0,.pur (.mv (.t 6))⟩,
     ⟨none,(some 31),0,.pur (.bin .eql 3 (.t 29) (.t 30))⟩,
     ⟨none,(some 32),0,.pur (.mv (.t 31))⟩,
     ⟨(some (32,true)),(some 33),0,.pur (.mv (.t 1))⟩,
     ⟨(some (32,true)),(some 34),0,.pur (.mv (.t 6))⟩,
     ⟨(some (32,true)),(some 35),0,.pur (.ixA (.slice 1) (.t 33) (.t 34))⟩,
     ⟨(some (32,true)),(some 36),0,.red (.ld none (.t 35))⟩,
     ⟨(some (32,true)),(some 37),0,.pur (.bin .gtr 2 (.t 36) (.v (.int .i64 0)))⟩,
     ⟨none,(some 38),0,.pur (.pick (.t 32) (.t 37) (.v (.bool false)))⟩,
     ⟨none,(some 39),0,.pur (.mv (.t 38))⟩,
     ⟨(some (39,true)),(some 40),0,.pur (.mv (.t 1))⟩,
     ⟨(some (39,true)),(some 41),0,.pur (.fldA 0 (.t 9))⟩,
     ⟨(some (39,true)),(some 42),0,.red (.ld none (.t 41))⟩,
     ⟨(some (39,true)),(some 43),0,.pur (.ixA (.slice 1) (.t 40) (.t 42))⟩,
     ⟨(some (39,true)),(some 44),0,.red (.ld none (.t 43))⟩,
     ⟨(some (39,true)),(some 45),0,.pur (.mv (.t 1))⟩,
     ⟨(some (39,true)),(some 46),0,.pur (.mv (.t 6))⟩,
     ⟨(some (39,true)),(some 47),0,.pur (.ixA (.slice 1) (.t 45) (.t 46))⟩,
     ⟨(some (39,true)),(some 48),0,.red (.ld none (.t 47))⟩,
     ⟨(some (39,true)),(some 49),0,.pur (.bin .sub 2 (.t 48) (.v (.int .i64 1)))⟩,
     ⟨(some (39,true)),(some 50),0,.pur (.bin .eql 2 (.t 44) (.t 49))⟩,
     ⟨none,(some 51),0,.pur (.pick (.t 39) (.t 50) (.v (.bool false)))⟩,
     ⟨none,(some 52),0,.pur (.mv (.t 51))⟩,
     ⟨(some (52,true)),(some 53),0,.pur (.mv (.t 7))⟩,
     ⟨(some (52,true)),(some 54),0,.pur (.bin .eql 2 (.t 53) (.v (.int .i64 (-1))))⟩,
     ⟨(some (52,true)),(some 55),0,.pur (.mv (.t 54))⟩,
     ⟨(some (55,false)),(some 56),0,.pur (.fldA 0 (.t 9))⟩,
     ⟨(some (55,false)),(some 57),0,.red (.ld none (.t 56))⟩,
     ⟨(some (55,false)),(some 58),0,.pur (.mv (.t 7))⟩,
     ⟨(some (55,false)),(some 59),0,.pur (.bin .lss 2 (.t 57) (.t 58))⟩,
     ⟨(some (52,true)),(some 60),0,.pur (.pick (.t 55) (.v (.bool true)) (.t 59))⟩,
     ⟨none,(some 61),0,.pur (.pick (.t 52) (.t 60) (.v (.bool false)))⟩])
    (.cond (.t 61)
    (.regO [⟨none,(some 62),0,.pur (.fldA 0 (.t 9))⟩,
     ⟨none,(some 63),0,.red (.ld none (.t 62))⟩,
     ⟨none,(some 7),0,.pur (.mv (.t 63))⟩])
    .skip))))
   (.regO [⟨none,(some 21),0,.pur (.mv (.t 8))⟩,
    ⟨none,(some 22),0,.pur (.bin .add 3 (.t 21) (.v (.int .i64 1)))⟩,
    ⟨none,(some 8),0,.pur (.mv (.t 22))⟩]))))))
  (.regO [⟨none,(some 64),0,.pur (.mv (.t 5))⟩,
   ⟨none,(some 65),0,.pur (.mv (.t 7))⟩,
   ⟨none,(some 66),0,.alc (.bsl 1 [(.int .i64 0)] [(0,1,(.t 65))])⟩,
   ⟨none,(some 67),0,.eff (.app 1 (.t 64) (.t 66))⟩,
   ⟨none,(some 5),0,.pur (.mv (.t 67))⟩]))))
  (.regO [⟨none,(some 14),0,.pur (.mv (.t 6))⟩,
   ⟨none,(some 15),0,.pur (.bin .add 3 (.t 14) (.v (.int .i64 1)))⟩,
   ⟨none,(some 6),0,.pur (.mv (.t 15))⟩]))))))
 (.seq (.regO [⟨none,(some 68),0,.pur (.mv (.t 5))⟩,
  ⟨none,(some 4),0,.pur (.mv (.t 68))⟩])
 .ret)))) }
def ParC (N nx bl capl:Nat) (spl:Option Nat) (v2:Value) (h:Hp) (tm:Tm) (h':Hp) (nx':Nat):Prop :=
 tget tm 1 = .slice (some ⟨bl,0,spl⟩) N capl∧tget tm 2 = .pointer (some ⟨nx,0,none⟩)∧hget h' nx=some (.cells [.int .i64 (N:Int),v2] false)∧nx+1≤nx'∧Keep nx h h'
def ParJ0 (N nx bl capl:Nat) (spl:Option Nat) (v2:Value) (gs:List GE) (l:List Int) (h:Hp) (m:Nat) (tm:Tm) (h':Hp) (nx':Nat):Prop :=
 ∃ (i:Nat) (p:List Int),m=N-i∧i≤N∧tget tm 6 = .int .i64 (i:Int)∧SlAt h' (tget tm 5) encI 1 p (nx+1) nx'∧p.length=i∧(∀ (v:Nat) (x:Int),p[v]? = some x→ParI gs l v gs.length x)∧ParC N nx bl capl spl v2 h tm h' nx'
def ParJ2 (N nx bl capl:Nat) (spl:Option Nat) (v2:Value) (gs:List GE) (l:List Int) (h:Hp) (i:Nat) (p:List Int) (m:Nat) (tm:Tm) (h':Hp) (nx':Nat):Prop :=
 ∃ (j:Nat) (x:Int),m=gs.length-j∧j≤gs.length∧tget tm 6 = .int .i64 (i:Int)∧tget tm 8 = .int .i64 (j:Int)∧tget tm 7 = .int .i64 x∧ParI gs l i j x∧SlAt h' (tget tm 5) encI 1 p (nx+1) nx'∧ParC N nx bl capl spl v2 h tm h' nx'
def ParB (N nx bl capl:Nat) (spl:Option Nat) (v2:Value) (gs:List GE) (l:List Int) (h:Hp) (i:Nat) (p:List Int) (j:Nat) (tm:Tm) (h':Hp) (nx':Nat):Prop :=
 ∃ (x:Int),tget tm 6 = .int .i64 (i:Int)∧tget tm 8 = .int .i64 (j:Int)∧tget tm 7 = .int .i64 x∧ParI gs l i (j+1) x∧SlAt h' (tget tm 5) encI 1 p (nx+1) nx'∧ParC N nx bl capl spl v2 h tm h' nx'
def ParK (N nx:Nat) (gs:List GE) (l:List Int) (h:Hp):KC':=fun r h' nx'=>∃ (b:Nat) (p:List Int),r = .slice (some ⟨b,0,some 1⟩) N N∧hget h' b=some (.cells (ints p) false)∧Par gs l N p∧nx≤b∧b<nx'∧Keep nx h h'
section
variable {P:Program} {orc:Orc} {s:Bool}
theorem zNS {f:Nat} (hcf:zD P f=some zGo) (ho:orc f=none) {N bl capl:Nat} {spl:Option Nat} {rol:Bool} {v:Value} {gs:List GE} {l:List Int} {h:Hp} {nx:Nat} (hv:SlRd h nx v encG gs) (hN0:0<N) (hN:N<24) (hgl:gs.length≤60) (hok:∀ g∈gs,GOk N g)
  (hll:l.length=N) (hlb:∀ (v:Nat) (x:Int),l[v]? = some x→-1≤x∧x<1000000) (hbl:hget h bl=some (.cells (ints l) rol)) (hbn:bl<nx) :
  Cv P orc s f [.agg ⟨[.int .i64 (N:Int),v]⟩,.slice (some ⟨bl,0,spl⟩) N capl] h nx (ParK N nx gs l h):=by
 refine Cv.enter ho hcf ?_
 obtain ⟨a,cap,rfl,_⟩:=id hv
 unfold zGo
 refine Ev.seq (Ev.regO ?_)
 rw [zAp,zRT (l:=[.int .i64 (N:Int),.slice a gs.length cap]) (by simp) (by simp)]
 simp only [SB,seval]
 refine Ev.seq (Ev.regO ?_)
 simp only [SB,seval]
 refine Ev.cut (ParJ0 N nx bl capl spl (.slice a gs.length cap) gs l h 0) ?_ ?_
 ·refine Ev.seq (Ev.regO ?_)
  simp only [SB,seval]
  refine Ev.forL (ParJ0 N nx bl capl spl (.slice a gs.length cap) gs l h) ?_ N _ _ _ ⟨0,[],rfl,by omega,by simp,.inl ⟨rfl,by simp⟩,rfl,fun v x h=>by simp at h,by simp,by simp,by simp,by omega,fun b hb=>by rw [hgs,if_neg (by omega)]⟩
  rintro m tm h' nx' ⟨i,p,rfl,hi,t6,hsl,hpl,hpp,t1,t2,g0,hnx,hk⟩
  simp only [SB,t2,t6,zA g0,seval]
  refine ⟨decide ((i:Int)<N),rfl,fun e=>?_,fun e=>?_⟩
  ·have:¬ ((i:Int)<N):=of_decide_eq_false e
   exact ⟨i,p,by omega,by omega,by simpa using t6,by simpa using hsl,hpl,hpp,by simpa using t1,by simpa using t2,g0,hnx,hk⟩
  ·have hiN:i<N:=by
    have:(i:Int)<N:=of_decide_eq_true e
    omega
   refine Ev.seq (Ev.regO ?_)
   simp only [SB,seval]
   refine Ev.cut (ParJ2 N nx bl capl spl (.slice a gs.length cap) gs l h i p 0) ?_ ?_
   ·refine Ev.seq (Ev.regO ?_)
    simp only [SB,seval]
    refine Ev.forL (ParJ2 N nx bl capl spl (.slice a gs.length cap) gs l h i p) ?_ gs.length _ _ _ ⟨0,-1,rfl,by omega,by simpa using t6,by simp,by simp,ParI.init,by simpa using hsl,by simpa using t1,by simpa using t2,g0,hnx,hk⟩
    rintro m tm h' nx' ⟨j,q,rfl,hj,t6,t8,t7,hpi,hsl,t1,t2,g0,hnx,hk⟩
    simp only [SB,t2,t8,zA g0,seval]
    refine ⟨decide ((j:Int)<gs.length),rfl,fun e=>?_,fun e=>?_⟩
    ·have:¬ ((j:Int)<gs.length):=of_decide_eq_false e
     exact ⟨j,q,by omega,by omega,by simpa using t6,by simpa using t8,by simpa using t7,hpi,by simpa using hsl,by simpa using t1,by simpa using t2,g0,hnx,hk⟩
    ·have hjl:j<gs.length:=by
      have:(j:Int)<gs.length:=of_decide_eq_true e
      omega
     obtain ⟨x,hx⟩:∃ x,gs[j]? = some x:=⟨_,List.getElem?_eq_getElem hjl⟩
     obtain ⟨_,bx,spx,rox,capx,hbxn,hveq,hbh⟩:=hv.at hx
     injection hveq with e1 e2 e3
     subst e1
     have hb':=(hk bx hbxn).trans hbh
     have gl0:=(hk bl hbn).trans hbl
     obtain ⟨okf,okt,_,_⟩:=hok x (List.mem_of_getElem? hx)
     refine Ev.cutE' (ParB N nx bl capl spl (.slice (some ⟨bx,0,spx⟩) gs.length cap) gs l h i p j) ?_ ?_
     ·rintro tm h' nx' ⟨q,t6,t8,t7,hpi,hsl,t1,t2,g0,hnx,hk⟩
      simp only [SB,t8,seval]
      refine ⟨gs.length-(j+1),by omega,j+1,q,rfl,by omega,by simpa using t6,?_,by simpa using t7,hpi,by simpa using hsl,by simpa using t1,by simpa using t2,g0,hnx,hk⟩
      rw [zAZ (by omega) (by omega)]; simp
     refine Ev.genT (fun tm2=>tget tm2 1=tget tm 1∧tget tm2 2=tget tm 2∧tget tm2 5=tget tm 5∧tget tm2 6=tget tm 6∧tget tm2 7=tget tm 7∧tget tm2 8=tget tm 8) (by simp) ?_
     rintro tm2 ⟨u1,u2,u5,u6,u7,u8⟩
     rw [t1] at u1; rw [t2] at u2; rw [t6] at u6; rw [t7] at u7; rw [t8] at u8
     refine Ev.seq (Ev.regO ?_)
     simp only [SB,u2,u8,zA g0,hjl,zA hb',zEw (enc:=encG) (k:=3) (fun _=>rfl) hx,seval]
     rw [RK_st (cs:=[.int .i64 0,.int .i64 0,.int .i64 0]) (by simp) (by simp [encG]) (by simp [encG]) (by simp)]
     refine Ev.genH (fun tm3 h3=>tget tm3 1 = .slice (some ⟨bl,0,spl⟩) N capl∧tget tm3 2 = .pointer (some ⟨nx,0,none⟩)∧tget tm3 5=tget tm 5∧tget tm3 6 = .int .i64 (i:Int)∧tget tm3 7 = .int .i64 q∧tget tm3 8 = .int .i64 (j:Int)∧tget tm3 9 = .pointer (some ⟨nx',0,none⟩)∧(∀ b2,b2<nx'→hget h3 b2=hget h' b2)∧hget h3 nx'=some (.cells (encG x) false))
      ⟨by simp [u1],by simp [u2],by simp [u5],by simp [u6],by simp [u7],by simp [u8],by simp,fun b2 hb2=>by rw [hgs,if_neg (by omega),hgs,if_neg (by omega)],by simp [encG]⟩ ?_
     rintro tm3 h3 ⟨w1,w2,w5,w6,w7,w8,w9,hold,hnew⟩
     have gl:=(hold bl (by omega)).trans gl0
     have hlf:l[x.f]? = some (l[x.f]'(by rw [hll]; exact okf)):=List.getElem?_eq_getElem _
     have hlv:l[i]? = some (l[i]'(by rw [hll]; exact hiN)):=List.getElem?_eq_getElem _
     generalize l[x.f]'(by rw [hll]; exact okf)=lf at hlf
     generalize l[i]'(by rw [hll]; exact hiN)=lv at hlv
     have bf:=hlb _ _ hlf
     have bv:=hlb _ _ hlv
     have fin:∀ (q':Int) (tm4:Tm),ParI gs l i (j+1) q'→tget tm4 1=tget tm3 1→tget tm4 2=tget tm3 2→tget tm4 5=tget tm3 5→tget tm4 6=tget tm3 6→tget tm4 8=tget tm3 8→tget tm4 7 = .int .i64 q'→ParB N nx bl capl spl (.slice (some ⟨bx,0,spx⟩) gs.length cap) gs l h i p j tm4 h3 (nx'+1):=fun q' tm4 a0 a1 a2 a5 a6 a8 a7 =>
      ⟨q',a6.trans w6,a8.trans w8,a7,a0,by
       rw [a5,w5]
       rcases hsl with ⟨e1,e2⟩ | ⟨bk,y1,y2,y3,y4⟩
       ·exact .inl ⟨e1,e2⟩
       ·exact .inr ⟨bk,y1,by omega,y3,by rw [hold bk y2]; exact y4⟩,a1.trans w1,a2.trans w2,(hold nx (by omega)).trans g0,by omega,fun b2 hb2=>(hold b2 (by omega)).trans (hk b2 hb2)⟩
     have no:¬ (Cand l i x∧(q = -1∨(x.f:Int)<q))→∀ (tm4:Tm),tget tm4 1=tget tm3 1→tget tm4 2=tget tm3 2→tget tm4 5=tget tm3 5→tget tm4 6=tget tm3 6→tget tm4 8=tget tm3 8→tget tm4 7=tget tm3 7→ParB N nx bl capl spl (.slice (some ⟨bx,0,spx⟩) gs.length cap) gs l h i p j tm4 h3 (nx'+1):=fun hn tm4 a1 a2 a5 a6 a8 a7 =>
      fin q tm4 (hpi.skip hx hn) a1 a2 a5 a6 a8 (a7.trans w7)
     have isC:x.t=i→0<lv→lf=lv-1→Cand l i x:=fun e1 e2 e3=>⟨e1,lv,hlv,e2,by rw [hlf,e3]⟩
     refine Ev.seq (Ev.regD ?_)
     by_cases hA:x.t=i
     ·by_cases hB:0<lv
      ·by_cases hC:lf=lv-1
       ·by_cases hD:q = -1
        ·subst hD
         repeat (first | simp only [Dv_g,Ov_g,zB,zH,tgs,zT,zU,zS,Bool.not_true,Bool.not_false,Bool.false_eq_true,zJ,zL,zI,zK,seval] | simp only [SG,w1,w6,w7,w9,zA hnew,encG,zA gl,hiN,okf,zR hlf,zR hlv,beq_self_eq_true,decide_true,decide_false,hA,hB,hC,zAZ (show 0≤lv-1 by omega) (show lv-1<9223372036854775808 by omega),seval])
         refine Ev.cond true (by simp) (fun _=>?_) (by simp)
         refine Ev.regO ?_
         simp only [SB,w9,zA hnew,encG,seval]
         exact fin x.f _ (hpi.step hx (isC hA hB hC) (.inl rfl)) (by simp) (by simp) (by simp) (by simp) (by simp) (by simp)
        ·by_cases hE:(x.f:Int)<q
         ·repeat (first | simp only [Dv_g,Ov_g,zB,zH,tgs,zT,zU,zS,Bool.not_true,Bool.not_false,Bool.false_eq_true,zJ,zL,zI,zK,seval] | simp only [SG,w1,w6,w7,w9,zA hnew,encG,zA gl,hiN,okf,zR hlf,zR hlv,beq_self_eq_true,decide_true,decide_false,hA,hB,hC,zAZ (show 0≤lv-1 by omega) (show lv-1<9223372036854775808 by omega),show (q == -1)=false by simp [hD],hE,seval])
          refine Ev.cond true (by simp) (fun _=>?_) (by simp)
          refine Ev.regO ?_
          simp only [SB,w9,zA hnew,encG,seval]
          exact fin x.f _ (hpi.step hx (isC hA hB hC) (.inr hE)) (by simp) (by simp) (by simp) (by simp) (by simp) (by simp)
         ·repeat (first | simp only [Dv_g,Ov_g,zB,zH,tgs,zT,zU,zS,Bool.not_true,Bool.not_false,Bool.false_eq_true,zJ,zL,zI,zK,seval] | simp only [SG,w1,w6,w7,w9,zA hnew,encG,zA gl,hiN,okf,zR hlf,zR hlv,beq_self_eq_true,decide_true,decide_false,hA,hB,hC,zAZ (show 0≤lv-1 by omega) (show lv-1<9223372036854775808 by omega),show (q == -1)=false by simp [hD],hE,seval])
          refine Ev.cond false (by simp) (by simp) (fun _=>Ev.skip ?_)
          exact no (fun h=>by rcases h.2 with h | h; exact hD h; exact hE h) _ (by simp) (by simp) (by simp) (by simp) (by simp) (by simp)
       ·repeat (first | simp only [Dv_g,Ov_g,zB,zH,tgs,zT,zU,zS,Bool.not_true,Bool.not_false,Bool.false_eq_true,zJ,zL,zI,zK,seval] | simp only [SG,w1,w6,w7,w9,zA hnew,encG,zA gl,hiN,okf,zR hlf,zR hlv,beq_self_eq_true,decide_true,decide_false,hA,hB,zAZ (show 0≤lv-1 by omega) (show lv-1<9223372036854775808 by omega),show (lf == lv-1)=false by simp [hC],seval])
        refine Ev.cond false (by simp) (by simp) (fun _=>Ev.skip ?_)
        exact no (fun h=>by obtain ⟨_,y,hy,_,hy2⟩:=h.1; rw [hlv] at hy; rw [hlf] at hy2; cases hy; cases hy2; exact hC rfl) _ (by simp) (by simp) (by simp) (by simp) (by simp) (by simp)
      ·repeat (first | simp only [Dv_g,Ov_g,zB,zH,tgs,zT,zU,zS,Bool.not_true,Bool.not_false,Bool.false_eq_true,zJ,zL,zI,zK,seval] | simp only [SG,w1,w6,w7,w9,zA hnew,encG,zA gl,hiN,okf,zR hlf,zR hlv,beq_self_eq_true,decide_true,decide_false,hA,hB,seval])
       refine Ev.cond false (by simp) (by simp) (fun _=>Ev.skip ?_)
       exact no (fun h=>by obtain ⟨_,y,hy,hy0,_⟩:=h.1; rw [hlv] at hy; cases hy; exact hB hy0) _ (by simp) (by simp) (by simp) (by simp) (by simp) (by simp)
     ·repeat (first | simp only [Dv_g,Ov_g,zB,zH,tgs,zT,zU,zS,Bool.not_true,Bool.not_false,Bool.false_eq_true,zJ,zL,zI,zK,seval] | simp only [SG,w1,w6,w7,w9,zA hnew,encG,zA gl,hiN,okf,zR hlf,zR hlv,beq_self_eq_true,decide_true,decide_false,show ((x.t:Int) == (i:Int))=false by simp; omega,seval])
      refine Ev.cond false (by simp) (by simp) (fun _=>Ev.skip ?_)
      exact no (fun h=>hA h.1.1) _ (by simp) (by simp) (by simp) (by simp) (by simp) (by simp)
   ·rintro tm h' nx' ⟨j,q,hj0,hj,t6,t8,t7,hpi,hsl,t1,t2,g0,hnx,hk⟩
    have:j=gs.length:=by omega
    subst this
    refine Ev.regO ?_
    simp only [SB,t7,seval]
    have hsl5:SlAt (hset h' nx' (.cells [.int .i64 q] false)) (tget tm 5) encI 1 p (nx+1) (nx'+1):=by
     rcases hsl with ⟨e1,e2⟩ | ⟨bk,y1,y2,y3,y4⟩
     ·exact .inl ⟨e1,e2⟩
     ·exact .inr ⟨bk,y1,by omega,y3,by rw [hgs,if_neg (by omega)]; exact y4⟩
    obtain ⟨v3,h6,hap,hsl6,hk6⟩:=zJu (enc:=encI) (k:=1) (fun _=>rfl) (fun _=>rfl) (by omega) hsl5 (by omega) (b2:=nx') (o2:=0) (cap2:=1) (sp2:=none) (cs:=[.int .i64 q]) (ro:=false) (x:=q) (by simp) rfl (by omega)
    rw [zBy (v:=v3) (h':=h6) (nx':=nx'+1+1) (by
     show orR (zh 1 _ _ (cev _ (.t 64)) (cev _ (.t 66)))=_
     simp only [SB,seval]
     rw [hap]; rfl)]
    simp only [SB,t6,seval]
    refine ⟨N-(i+1),by omega,i+1,p++[q],rfl,by omega,?_,by simpa using hsl6,by simp [hpl],fun v y hy=>?_,by simpa using t1,by simpa using t2,?_,by omega,fun b2 hb2=>?_⟩
    ·rw [zAZ (by omega) (by omega)]; simp
    ·rw [List.getElem?_append] at hy
     split at hy
     ·exact hpp v y hy
     ·have hv2:=zEu hy
      have:v=i:=by simp at hv2; omega
      subst this
      rw [hpl,Nat.sub_self] at hy
      simp at hy
      subst hy
      exact hpi
    ·rw [hk6 _ (by omega),hgs,if_neg (by omega)]; exact g0
    ·rw [hk6 _ (by omega),hgs,if_neg (by omega)]; exact hk b2 hb2
 ·rintro tm h' nx' ⟨i,p,hi0,hi,t6,hsl,hpl,hpp,t1,t2,g0,hnx,hk⟩
  have:i=N:=by omega
  subst this
  rcases hsl with ⟨e,_⟩ | ⟨b,hb1,hb2,t5,hb⟩
  ·rw [e] at hpl
   simp at hpl
   omega
  rw [hpl] at t5
  rw [zY] at hb
  refine Ev.seq (Ev.regO ?_)
  simp only [SB,t5,seval]
  refine Ev.ret ?_
  simp only [SB,seval]
  exact ⟨b,p,rfl,hb,⟨hpl,hpp⟩,by omega,hb2,hk⟩
end
def inVk (k:Nat) (v:Value):Value:=match v with
 | .slice (some _) n c=>.slice (some ⟨k,0,none⟩) n c
 | v=>v
theorem zP0 {α:Type} {e3:α→List Value} (hpl:∀ z,zAI (e3 z)=true):∀ l:List α,∀ x∈flat e3 l,zCJ x=true:=by
 intro l
 induction l with
 | nil=>intro x hx; cases hx
 | cons z l ih =>
  intro x hx
  have hx:x∈e3 z++flat e3 l:=hx
  rcases List.mem_append.1 hx with hx | hx
  ·have:∀ (l:List Value),zAI l=true→∀ x∈l,zCJ x=true:=by
    intro l
    induction l with
    | nil=>intro _ x hx; cases hx
    | cons y l ih =>
     intro h x hx
     have h:(zCJ y&&zAI l)=true:=h
     simp only [Bool.and_eq_true] at h
     rcases List.mem_cons.1 hx with rfl | hx
     ·exact h.1
     ·exact ih h.2 x hx
   exact this _ (hpl z) x hx
  ·exact ih x hx
theorem in_w {α:Type} {e3:α→List Value} {w:World} {v:Value} {zs:List α} (hpl:∀ z,zAI (e3 z)=true)
  (h:(zs=[]∧v = .slice none 0 0)∨∃ b off cap,v = .slice (some ⟨b,off,none⟩) zs.length cap∧zEf w b off (flat e3 zs)) (ρ:Rho) :
  ∀ p∈inPs v (flat e3 zs),∃ c e fr,w.heap[p.1.blk]? = some (.cells c e fr)∧CellsR ρ p.2 c p.1.off:=by
 rcases h with ⟨rfl,rfl⟩ | ⟨b,off,cap,rfl,c,e,fr,hw,hg⟩
 ·exact fun p hp=>(by cases hp)
 ·intro p hp
  have hp:p=(⟨b,off,0,0⟩,flat e3 zs):=by simpa [inPs] using hp
  subst hp
  exact ⟨c,e,fr,hw,fun i x hx=>⟨x,hg i x hx,zCc (zP0 hpl zs x (List.mem_of_getElem? hx)) _⟩⟩
theorem in_at {α:Type} {e3:α→List Value} {w:World} {v:Value} {zs:List α} {ps:List (Place × List Value)} {k:Nat}
  (h:(zs=[]∧v = .slice none 0 0)∨∃ b off cap,v = .slice (some ⟨b,off,none⟩) zs.length cap∧zEf w b off (flat e3 zs))
  (hp:∀ p,p∈inPs v (flat e3 zs)→ps[k]? = some p) :
  VR (rhoL ps) (inVk k v) v∧SlRd (hpL 0 ps hp0) ps.length (inVk k v) e3 zs:=by
 rcases h with ⟨rfl,rfl⟩ | ⟨b,off,cap,rfl,c,e,fr,hw,hg⟩
 ·exact ⟨VR.sliceNil 0 0,⟨none,0,rfl,fun h=>absurd rfl h⟩⟩
 ·have h1:=hp (⟨b,off,0,0⟩,flat e3 zs) (by simp [inPs])
  have hk:k<ps.length:=(List.getElem?_eq_some_iff.1 h1).1
  exact ⟨.sliceE (p:=⟨b,off,0,0⟩) (by unfold rhoL; rw [h1]; rfl) _ _,⟨_,_,rfl,fun _=>⟨k,none,true,hk,rfl,hpL_at (p:=(⟨b,off,0,0⟩,flat e3 zs)) h1⟩⟩⟩
theorem zIY {v:Value} {l:List Value} {p:Place × List Value} (h:p∈inPs v l):inPs v l=[p]:=by
 unfold inPs at h ⊢
 split at h
 ·have:=List.mem_singleton.1 h
  rw [this]
 ·cases h
end Go.Ax
