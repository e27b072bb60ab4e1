/- Parts of the proof: HwFn9: each statement bears its own conditions. -/
import Derived.Test.YthlhhajnbgjfmaaGreatRhHwFn8
namespace Go.Proofs.YthlhhajnbgjfmaaGreat
open Go Go.Ax Go.Ax.HdH Go.ChangeShapes Go.WideShapes Go.ChangeAt Go.RowKit
set_option linter.all false
set_option maxHeartbeats 1000000
set_option maxRecDepth 1000000
variable {aV:aa GE} {Z:cb} {v:X} {cs:aa GE} {eP av:Nat} {n V R C:Int} {g:GE}
section
variable {s:al} {h:ae} {U:Nat} {k dd src r c:Int} {a:aw Addr} {cap:Nat} {es:aa iy}
end
theorem jq.sub(h:jq (aV.map dE) (cs.map dE)):∀c∈cs,c∈aV:=λc B=>by obtain⟨l,_⟩:=(h.D3.mem (dE c)).1 (fz.2 ⟨c,B,rfl⟩);obtain⟨d,A,e⟩:=fz.1 l;exact RI e ▸ A
theorem jq.ahJ(h:jq (aV.map dE) (cs.map dE)):∀g∈aV,∃c∈cs,c.f=g.f/\c.t=g.t:=λg B=>by obtain⟨z,D,A,l⟩:=h.D3.D2 (dE g) (fz.2 ⟨g,B,rfl⟩);obtain⟨c,E,rfl⟩:=fz.1 D;unfold dE at A l;simp only at A l;exact⟨c,E,J,J⟩
theorem aaL:g∈yq aV↔∃e∈aV,g=pB e:=by
 unfold yq;simp only[fz,nR]
 grind
theorem YL:g∈Am aV↔∃e∈aV,g=AT e:=by
 unfold Am;simp only[fz,nR]
 grind
theorem atH(E:1<=Z.R){v:Nat}(D:v<Z.N):∃i k,i<Z.R/\k<Z.H i/\v=Z.bB i+k:=by
 have l:∀m,m<=Z.R->v<Z.bB m->∃i k,i<Z.R/\k<Z.H i/\v=Z.bB i+k:=by
  intro m
  induction m with
  |zero=>intro _ h;unfold cb.bB at h;rw[aew]at h;omega
  |succ m A =>
   intro I h
   by_cases B:v<Z.bB m
   ·exact A J B
   ·exact⟨m,v-Z.bB m,J,by unfold cb.H;omega,J⟩
 exact l Z.R J (by unfold cb.bB;rw[aex J];exact D)
theorem ami(P:Z.k≠4)(M:Z.k≠5)(L:1<=Z.R)(A:Z.fS av≠0):av=Z.lim\/∀v,v<Z.N->(Z.eo.st av).q v=false:=by
 by_cases I:av=Z.lim
 ·exact .inl I
 right
 intro v l;unfold cb.fS wi at A;have bv:¬∃i,i<Z.R/\Z.jc av i≠0:=λN=>by rw[gP N]at A;simp at A;omega
 obtain⟨i,k,K,E,rfl⟩:=atH L l;have B:Z.jc av i=0:=uz λh=>bv ⟨i,K,h⟩;unfold cb.jc qz at B;rw[if_neg (λh=>P h.1),if_neg M]at B;have h1:(ek (Z.H i) λk=>(Z.eo.st av).q (Z.bB i+k))=[]:=B4 J;apply uz;intro D;have:k∈(ek (Z.H i) λk=>(Z.eo.st av).q (Z.bB i+k)):=by unfold ek;rw[nR];exact⟨Fa.2 E,by simpa using D⟩
 rw[h1]at this;cases this
theorem awk(l:aa GE):(l.map dE).map nu=l:=by rw[pn];exact(oC λg _=>rfl).trans (Ff l)
theorem ayz{h:ae}{U:Nat}(H:cr h U v cX aV):cr h U v iz (aV.map dE):=by obtain⟨a,cap,rfl,D⟩:=H;refine⟨a,cap,by rw[gn],λl=>?_⟩;obtain⟨b,B,I,E,A,K⟩:=D λe=>l (by rw[e];rfl);exact⟨b,B,I,E,A,by rw[K,Ks];rfl⟩
theorem awl{k N:Nat}{B A:Int}(au:0<N)(d7:N<24)(P:eP<N)(bA:aV.length<=60)(l:∀g∈aV,gT N g)(cW:1<=B/\B<=4)(aO:1<=A/\A<=4)(hk:1<=k/\k<=3):
  hc ⟨k,N,eP,0,[],N,aV.map dE,B,A,4,rA N,0⟩=0:=by
 have M:lf N (aV.map dE)=0:=J3.2 ⟨J,J,by rw[gn];omega,λe E=>by obtain⟨g,D,rfl⟩:=fz.1 E;have:=l g D;unfold gT at this;unfold yG dE;simp;omega,λe E=>by obtain⟨g,D,rfl⟩:=fz.1 E;have:=l g D;unfold gT at this;unfold Dw dE;simp;omega⟩
 have L:iL k N eP 0 []=0:=by unfold iL;rw[if_neg J,if_neg J,if_neg J,if_neg J,if_neg (by simp),if_neg (by simp)]
 have bp:jZ k N eP 0 [] N (aV.map dE)=0:=by unfold jZ;rw[L,M];simp
 have a1:pI k N eP 0 [] N (aV.map dE) (rA N)=0:=by unfold pI;rw[bp];unfold rA;simp;omega
 unfold hc;simp only[a1];have K:j9 B 8=true:=gP J;have I:j9 A 8=true:=gP J;rw[K,I];rfl
def aAM(U:Nat)(h:ae):bR:=λr ac Y=>r = .bool true/\aA U h ac/\U<=Y
theorem cr.le{az:Type}{B:az->aa X}{h:ae}{U A:Nat}{l:aa az}(H:cr h U v B l)(D:U<=A):cr h A v B l:=H.T (aA.refl _ _) D
theorem ayA(M:Z.k=1)(N:Z.src=(eP:Int))(I:eP<Z.N)(bv:Z.N<=4096)(E:wI aV Z.ag)(B:∀g∈aV,gT Z.N g):sx Z.eo aV eP:=by
 obtain⟨cs,L,D⟩:=E;have D:jq ((yq cs).map dE) (Z.ag.map dE):=D;have back:∀g∈Z.ag,∃e∈aV,g=pB (AT e):=λg l=>by obtain⟨c,K,rfl⟩:=aaL.1 (D.sub g l);obtain⟨e,A,rfl⟩:=YL.1 (L.sub c K);exact⟨e,A,rfl⟩
 refine⟨M,N,I,bv,λg l=>?_,λg l=>?_,λg l=>?_⟩
 ·obtain⟨e,A,rfl⟩:=back g l;exact⟨rfl,(B e A).2.1,(B e A).1⟩
 ·obtain⟨e,A,rfl⟩:=back g l;exact⟨e,A,rfl,rfl⟩
 ·obtain⟨c,K,aW,aK⟩:=L.ahJ (AT g) (YL.2 ⟨g,l,rfl⟩);obtain⟨d,P,cf,dT⟩:=D.ahJ (pB c) (aaL.2 ⟨c,K,rfl⟩);exact⟨d,P,cf.trans aK,dT.trans aW⟩
theorem atJ(E:sx Z.eo aV eP)(B:1<=Z.R)(D:Z.N<Z.lim)(l:Z.fS av≠0):
  lr Z.N aV eP (cn Z.N (Z.eo.st av).A)/\qK aV (cn Z.N (Z.eo.st av).A) Z.N (cn Z.N (Z.eo.st av).B):=by
 refine E.TF λv A=>?_;rcases ami (by rw[show Z.k=1 from E.k];omega) (by rw[show Z.k=1 from E.k];omega) B l with h|h
 ·exact E.quiet (by show Z.N<=av;omega) v A
 ·exact h v A
theorem atK{s:al}(M:∀(s:al) (h:ae) (U:Nat),aH Q s 18 [] h U (fr (.bool true) U h)){es:aa iy}{h:ae}{U:Nat}(aG:cr h U v iz es)(ei:0<=R/\R<=255)(d5:0<=C/\C<=255):
  aH Q s 3 [.agg ⟨[(n:X),v,(V:X),.int .u8 R,.int .u8 C]⟩] h U (aAM U h):=by
 refine apQ ?_;obtain⟨a,cap,rfl,a1⟩:=id aG;unfold ac4;refine aD ?_;refine(auV (aG.T aN J)).mono ?_;rintro r h1 l ⟨N,eP,lF,ut,v2,aV,rfl,hN0,d7,K,E,I,mq,dO,hk,V8,V9⟩;have V8:=V8 ei.1 ei.2;have V9:=V9 d5.1 d5.2;have rH:cr h1 l v2 cX aV:=mq.rd;obtain⟨a2,c2,rfl,nq⟩:=id mq;refine aD ?_;generalize fK:F (F h1 l _) l _=ap;have iH:u ap l=some (.cells [(N:X),.slice a2 aV.length c2] false):=by rw[<-fK,aT]
 have eA:aA U h ap:=aN
 have rd2:cr ap (l+1) (.slice a2 aV.length c2) cX aV:=rH.T aN J;have S:pC ap (l+1) (ib N eP lF ut (aV.map dE)) (.slice none 0 0) (.slice a2 aV.length c2) (.slice none 0 0):=⟨⟨none,0,rfl,λh=>absurd rfl h⟩,fF.of (ayz rd2),⟨none,0,rfl⟩,.inl (by show(aV.map dE).length<=60;rw[gn];exact E)⟩
 have kw:hc (ib N eP lF ut (aV.map dE))=0:=awl (k:=1) hN0 d7 K E I V8 V9 J;have Nv:aV.length=(aV.map dE).length:=by rw[gn]
 have jD:=S;rw[Nv]at jD;have run:=acW (s:=s) jD J J J;rw[<-Nv]at run;refine run.mono ?_;rintro _ aM bW ⟨v,w,rfl,fD,gJ,aEh⟩;rw[kw];rcases aEh with⟨au,_⟩|⟨_,Z,av,zi,cL,D,yO,hNZ,zz,BV,dH,dl⟩
 ·exact absurd kw au
 obtain⟨h3,z2,z3,z4,r4,s6,ph,xH⟩:=cL;have h3:Z.k=1:=h3;have z2:(N:Int)=(Z.N:Int):=z2;have z3:Z.src=(eP:Int):=z3;have s6:lF=(Z.R:Int):=s6;have xH:rA N=(Z.lim:Int):=xH;obtain rfl:N=Z.N:=J
 have D:wI aV Z.ag:=by have D:wI (((aV.map dE)).map nu) Z.ag:=D;rw[awk]at D;exact D
 have aAN:Z.N<Z.lim:=by unfold rA at xH;omega
 obtain⟨Nw,Wa⟩:=atJ (av:=av) (ayA h3 z3 K J D I) J aAN (λh=>by have:=(yO av J).1 h;omega);generalize cn Z.N (Z.eo.st av).A=L at *
 generalize cn Z.N (Z.eo.st av).B=P at *
 have zC:cr aM bW v cq L:=cr.le zz.rd dl;have aCK:cr aM bW w cq P:=BV.rd;have k8:=(fD l J).trans iH;have c6:cr aM bW (.slice a2 aV.length c2) cX aV:=rd2.T fD J;refine bh @k8 ?_;refine(awf c6 J K I E).mono ?_;rintro nJ bc d4 ⟨B1,HL',zB,gG,A⟩;have Nv:=HL'.unique Nw;subst Nv;refine(M s bc d4).fM ?_;refine aD ?_;refine(ac5 (zC.T gG A) zB (by rw[Nw.len];omega)).fM ?_;have cN:=(gG l J).trans k8;have ed:cr bc d4 (.slice a2 aV.length c2) cX aV:=c6.T gG A;simp(disch:=omega)only[bl,cN,decide_true,seval];refine(awg ed zB Nw J I E).mono ?_;rintro aD1 b3 fP ⟨nG,HP',aEi,jp,B⟩;have la:=HP'.unique Wa;subst la;refine(ac5 ((aCK.T gG A).T jp B) aEi (by rw[Wa.1];omega)).fM ?_;have i9:=(jp l J).trans cN;simp(disch:=omega)only[bl,i9,decide_true,seval];refine(atG (ed.T jp B) ((zC.T gG A).T jp B) ((aCK.T gG A).T jp B) d7 K E I Nw Wa).mono ?_;rintro _ cy n6 ⟨rfl,zs,n2⟩;exact⟨by simp,aN,J⟩
theorem atL{m5:X}{A:aa iy}{W:World}(I:(A=[]/\m5 = .slice none 0 0)\/∃b l cap,m5 = .slice (some ⟨b,l,none⟩) A.length cap/\KJ W b l (bd iz A))(D:0<=R/\R<=255)(L:0<=C/\C<=255):
  Calls Tryz.prog 3 #[.agg ⟨[(n:X),m5,(V:X),.int .u8 R,.int .u8 C]⟩] W λe B=>e = .returned (.bool true)/\Below W.heap.size W B:=by obtain⟨K,E,M⟩:=auc (λ_=>rfl) I;exact callsIn_wide.1 (aud (n:=0) ((atK (s:=false) (λ_ _ _=>av7) (n:=n) (V:=V) M D L).mono λ_ _ _ h=>h.1) (at5 K) (awL _) (.cons (.agg (.cons (.int _ _) (.cons E (.cons (.int _ _) (.cons (.int _ _) (.cons (.int _ _) .nil)))))) .nil))
theorem amj(N:Os)(l:N.Started)(H:Type)(enc:TypeId × X->H):
  ReturnsInHanded {} Tryz.checked N 3 .any (Rows.hopsRunsSpec.pre6 enc Tryz.prog Tryz.f3 Rows.hopsRunsRow.domain false) (Rows.hopsRunsSpec.post enc Tryz.prog Tryz.f3 false true false false):=by
 refine returnsInHanded_of_change (C:=Tryz.checked) own l (by kernel_rfl) Tryz.func3
  (ChangeSpec.witness6 (enc:=enc) (C:=Tryz.checked) false ⟨#[],#[.agg #[.int .i64 0,.slice none 0 0,.int .i64 0,.int .u8 0,.int .u8 0]],[]⟩ 8 (by kernel_rfl) (by kernel_rfl) (by kernel_rfl) (by kernel_rfl)) ?_
 intro W base B bK aV before A jB aBU _;have D:∀(j:Nat) t v,Tryz.f3.params[j]? = some t->B[j]? = some v->Value.okWide Tryz.prog W .any base t v:=A;have L:=jB;obtain⟨p,q,E,lG,rfl,hfz,Vd⟩:=jB;have g6:DataW.TrodAll enc Tryz.prog W 0 (λ_=>true) true Tryz.f3.params.toList B.toList bK p:=E;rw[Tryz.params3]at g6 D;obtain⟨kQ,vs0,aDZ,ds0,aEj,g8,K,rfl,rfl,P,gs⟩:=trodAll_cons g6;obtain⟨rfl,rfl,rfl⟩:=trodAll_nil gs;obtain rfl:B=#[kQ]:=ab
 obtain⟨rfl,rfl⟩:=trodVars_none lG;have hu:=P;have M:∀x∈aEj,x.block<W.heap.size:=by obtain⟨m,bp⟩:=hu;exact DataW.trod_lt m _ _ _ bp
 obtain⟨n,V,R,C,m5,uw,rfl,cL,ei,d5⟩:=akW (D 0 26 kQ rfl rfl) P;clear E A;refine(atL (n:=n) (V:=V) cL ei d5).mono λe dp ⟨bP,I⟩=>?_;subst bP;exact⟨_,rfl,_,_,_,[],_,[],L,trodAll_mk1 (shut_bool aC6 _),(trodAll_cons_mk (Below.trod arF (by kernel_rfl) (of_decide_eq_true (by kernel_rfl)) hu I M) trodAll_mk0),rfl,I.frame _,λh=>by cases h⟩
theorem atM:Tryz.prog.funcNamed Rows.hopsRunsRow.func=some 3:=by kernel_rfl
end Go.Proofs.YthlhhajnbgjfmaaGreat
