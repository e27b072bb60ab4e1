/- Parts of the proof: Pr4: each statement bears its own conditions. -/
import Derived.Test.YtfebipifehfjlaaGreatPr3
namespace Go.Ax
open Go
set_option linter.unusedSimpArgs false
set_option linter.unusedVariables false
section
variable {P:Program} {orc:Orc} {s:Bool}
end
def inVk (k:Nat) (v:Value):Value:=match v with
 | .slice (some _) n c=>.slice (some ⟨k,0,none⟩) n c
 | v=>v
theorem plain_mem {α:Type} {e3:α→List Value} (hpl:∀ z,plainL (e3 z)=true):∀ l:List α,∀ x∈flat e3 l,plainV x=true:=by
 intro l
 induction l with
 | nil=>intro x hx; cases hx
 | cons z l ih =>
  intro x hx
  have hx:x∈e3 z++flat e3 l:=hx
  rcases List.mem_append.1 hx with hx | hx
  ·have:∀ (l:List Value),plainL l=true→∀ x∈l,plainV x=true:=by
    intro l
    induction l with
    | nil=>intro _ x hx; cases hx
    | cons y l ih =>
     intro h x hx
     have h:(plainV y&&plainL l)=true:=h
     simp only [Bool.and_eq_true] at h
     rcases List.mem_cons.1 hx with rfl | hx
     ·exact h.1
     ·exact ih h.2 x hx
   exact this _ (hpl z) x hx
  ·exact ih x hx
theorem in_w {α:Type} {e3:α→List Value} {w:World} {v:Value} {zs:List α} (hpl:∀ z,plainL (e3 z)=true)
  (h:(zs=[]∧v = .slice none 0 0)∨∃ b off cap,v = .slice (some ⟨b,off,none⟩) zs.length cap∧LiesAt w b off (flat e3 zs)) (ρ:Rho) :
  ∀ p∈inPs v (flat e3 zs),∃ c e fr,w.heap[p.1.blk]? = some (.cells c e fr)∧CellsR ρ p.2 c p.1.off:=by
 rcases h with ⟨rfl,rfl⟩ | ⟨b,off,cap,rfl,c,e,fr,hw,hg⟩
 ·exact fun p hp=>(by cases hp)
 ·intro p hp
  have hp:p=(⟨b,off,0,0⟩,flat e3 zs):=by simpa [inPs] using hp
  subst hp
  exact ⟨c,e,fr,hw,fun i x hx=>⟨x,hg i x hx,plainV_self (plain_mem hpl zs x (List.mem_of_getElem? hx)) _⟩⟩
theorem in_at {α:Type} {e3:α→List Value} {w:World} {v:Value} {zs:List α} {ps:List (Place × List Value)} {k:Nat}
  (h:(zs=[]∧v = .slice none 0 0)∨∃ b off cap,v = .slice (some ⟨b,off,none⟩) zs.length cap∧LiesAt w b off (flat e3 zs))
  (hp:∀ p,p∈inPs v (flat e3 zs)→ps[k]? = some p) :
  VR (rhoL ps) (inVk k v) v∧SlRd (hpL 0 ps hp0) ps.length (inVk k v) e3 zs:=by
 rcases h with ⟨rfl,rfl⟩ | ⟨b,off,cap,rfl,c,e,fr,hw,hg⟩
 ·exact ⟨VR.sliceNil 0 0,⟨none,0,rfl,fun h=>absurd rfl h⟩⟩
 ·have h1:=hp (⟨b,off,0,0⟩,flat e3 zs) (by simp [inPs])
  have hk:k<ps.length:=(List.getElem?_eq_some_iff.1 h1).1
  exact ⟨.sliceE (p:=⟨b,off,0,0⟩) (by unfold rhoL; rw [h1]; rfl) _ _,⟨_,_,rfl,fun _=>⟨k,none,true,hk,rfl,hpL_at (p:=(⟨b,off,0,0⟩,flat e3 zs)) h1⟩⟩⟩
theorem inPs_one {v:Value} {l:List Value} {p:Place × List Value} (h:p∈inPs v l):inPs v l=[p]:=by
 unfold inPs at h ⊢
 split at h
 ·have:=List.mem_singleton.1 h
  rw [this]
 ·cases h
theorem in_two {α β:Type} {e3:α→List Value} {e1:β→List Value} {w:World} {v u:Value} {zs:List α} {ys:List β} (hpl:∀ z,plainL (e3 z)=true) (hpl1:∀ z,plainL (e1 z)=true)
  (h:(zs=[]∧v = .slice none 0 0)∨∃ b off cap,v = .slice (some ⟨b,off,none⟩) zs.length cap∧LiesAt w b off (flat e3 zs))
  (g:(ys=[]∧u = .slice none 0 0)∨∃ b off cap,u = .slice (some ⟨b,off,none⟩) ys.length cap∧LiesAt w b off (flat e1 ys)) :
  ∃ ps v' u',InW w ps∧VR (rhoL ps) v' v∧VR (rhoL ps) u' u∧SlRd (hpL 0 ps hp0) ps.length v' e3 zs∧SlRd (hpL 0 ps hp0) ps.length u' e1 ys:=by
 obtain ⟨a1,a2⟩:=in_at (ps:=inPs v (flat e3 zs)++inPs u (flat e1 ys)) (k:=0) h (fun p hp=>by rw [inPs_one hp]; rfl)
 obtain ⟨b1,b2⟩:=in_at (ps:=inPs v (flat e3 zs)++inPs u (flat e1 ys)) (k:=(inPs v (flat e3 zs)).length) g (fun p hp=>by rw [inPs_one hp,List.getElem?_append_right (Nat.le_refl _),Nat.sub_self]; rfl)
 refine ⟨_,_,_,fun p hp=>?_,a1,b1,a2,b2⟩
 rcases List.mem_append.1 hp with hp | hp
 ·exact in_w hpl h _ p hp
 ·exact in_w hpl1 g _ p hp
end Go.Ax
