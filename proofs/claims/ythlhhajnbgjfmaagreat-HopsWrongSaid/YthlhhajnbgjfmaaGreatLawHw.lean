/- The given statement holds: no condition. -/
import Derived.Test.YthlhhajnbgjfmaaGreatHwFn8
import Derived.Test.YthlhhajnbgjfmaaGreatHwFacts
namespace Go.Proofs.YthlhhajnbgjfmaaGreat
open Go Go.Ax
open Go.ChangeShapes Go.WideShapes Go.ChangeAt Go.RowKit
set_option maxRecDepth 1000000
set_option linter.all false
set_option maxHeartbeats 1000000
theorem amf(V:Os)(B:V.Started)(H:Type)(enc:TypeId × X->H):
  ReturnsInHanded {} Tryz.checked V 4 .any (Rows.hopsWrongSpec.pre6 enc Tryz.prog Tryz.f4 Rows.hopsWrongRow.domain false) (Rows.hopsWrongSpec.post enc Tryz.prog Tryz.f4 false true false false):=by
 refine returnsInHanded_of_change (C:=Tryz.checked) own B (by kernel_rfl) Tryz.func4
  (ChangeSpec.witness6 (enc:=enc) (C:=Tryz.checked) false ⟨#[],#[.agg #[.int .i64 0,.slice none 0 0],.agg #[.int .i64 0,.int .i64 0,.int .i64 0]],[]⟩ 8 (by kernel_rfl) (by kernel_rfl) (by kernel_rfl) (by kernel_rfl)) ?_
 intro W base l bu a4 before A jM aBz _;have g:∀(j:Nat) t v,Tryz.f4.params[j]? = some t->l[j]? = some v->Value.okWide Tryz.prog W .any base t v:=A;have M:=jM;obtain⟨p,q,E,lG,rfl,hfz,UT⟩:=jM;have h0:DataW.TrodAll enc Tryz.prog W 0 (λ_=>true) true Tryz.f4.params.toList l.toList bu p:=E;rw[Tryz.params4]at h0 g;obtain⟨P,vs0,aDC,ds0,aDR,hd,I,rfl,rfl,aq,fC⟩:=trodAll_cons h0;obtain⟨v1,vs1,en,ds1,cf,dq,rfl,rfl,rfl,h1,d6⟩:=trodAll_cons fC;obtain⟨rfl,rfl,rfl⟩:=trodAll_nil d6;obtain rfl:l=#[P,v1]:=aa
 obtain⟨rfl,rfl⟩:=trodVars_none lG;have h9:=aq;have Z:=h1;have N:∀x∈aDR,x.block<W.heap.size:=by obtain⟨m,K⟩:=h9;exact DataW.trod_lt m _ _ _ K
 have L:∀x∈cf,x.block<W.heap.size:=by obtain⟨m,K⟩:=Z;exact DataW.trod_lt m _ _ _ K
 obtain⟨n,nf,uv,rfl,bV,dc⟩:=ajV (g 0 24 P rfl rfl) aq;obtain⟨a,b,c,rfl⟩:=ajW (g 1 39 v1 rfl rfl) h1;clear E A;refine(awk (n:=n) (a:=a) (b:=b) (c:=c) bV dc).mono λe dr ⟨bK,D⟩=>?_;subst bK;exact⟨_,rfl,_,_,_,[],_,[],M,trodAll_mk1 (shut_bool aCL _),(trodAll_cons_mk (Below.trod abE (by kernel_rfl) (of_decide_eq_true (by kernel_rfl)) h9 D N) (trodAll_cons_mk (Below.trod abE (by kernel_rfl) (of_decide_eq_true (by kernel_rfl)) Z D L) trodAll_mk0)),rfl,D.frame _,λh=>by cases h⟩
theorem atW:Tryz.prog.funcNamed Rows.hopsWrongRow.func=some 4:=by kernel_rfl
theorem hopsWrong_holds:Rows.HopsWrongSaid :=
 OpenClaim.holds_of_wide 4 Tryz.f4 rfl rfl rfl rfl rfl rfl rfl ⟨rfl,rfl,rfl,rfl,rfl⟩ rfl rfl rfl rfl rfl atW Tryz.func4 akq
  (of_decide_eq_true (by kernel_rfl)) (by unfold Func.isWrapper;first|(rw[if_pos (by decide +kernel)];kernel_rfl)|(rw[if_neg (by decide +kernel)];exact⟨rfl,rfl⟩))
  (λl g H h _=>amf l g H h)
end Go.Proofs.YthlhhajnbgjfmaaGreat
