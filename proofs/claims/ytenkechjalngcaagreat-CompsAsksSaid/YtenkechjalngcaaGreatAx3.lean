/- Parts of the proof: Ax3: each statement bears its own conditions. -/
import Derived.Test.YtenkechjalngcaaGreatAx2
/-! part AxWS -/
namespace Go.Ax
open Go
set_option linter.unusedSimpArgs false
set_option linter.unusedVariables false

theorem wget_ok : ∀ {l : List Value} {n : Nat} {k : KV}, wget l n k → ∃ x, lget l n = some x ∧ k x
  | [], n, k, h => h.elim
  | x :: xs, 0, k, h => ⟨x, rfl, h⟩
  | x :: xs, n + 1, k, h => wget_ok (l := xs) (n := n) h
theorem wdrop_ok : ∀ {l : List Value} {n : Nat} {k : KL}, wdrop l n k → k (ldrop l n)
  | [], n, k, h => by cases n <;> exact h
  | x :: xs, 0, k, h => h
  | x :: xs, n + 1, k, h => wdrop_ok (l := xs) (n := n) h
theorem wcut_ok : ∀ {n : Nat} {l : List Value} {k : KL}, wcut n l k → ∃ r, lcut n l = some r ∧ k r
  | 0, l, k, h => ⟨[], rfl, h⟩
  | n + 1, [], k, h => h.elim
  | n + 1, x :: xs, k, h => by
    obtain ⟨r, h1, h2⟩ := wcut_ok (n := n) (l := xs) (k := fun r => k (x :: r)) h
    exact ⟨x :: r, by show lputN x (lcut n xs) = _; rw [h1]; rfl, h2⟩
theorem wput0_ok : ∀ {vs l : List Value} {k : KL}, wput0 vs l k → ∃ r, lput0 vs l = some r ∧ k r
  | [], l, k, h => ⟨l, rfl, h⟩
  | v :: vs, [], k, h => h.elim
  | v :: vs, x :: xs, k, h => by
    obtain ⟨r, h1, h2⟩ := wput0_ok (vs := vs) (l := xs) (k := fun r => k (v :: r)) h
    exact ⟨v :: r, by show lputS v (lput0 vs) (x :: xs) = _; unfold lputS; simp only [h1], h2⟩
theorem wput_ok {vs : List Value} : ∀ {l : List Value} {n : Nat} {k : KL}, wput vs l n k → ∃ r, lput vs l n = some r ∧ k r
  | [], 0, k, h => wput0_ok h
  | [], n + 1, k, h => h.elim
  | x :: xs, 0, k, h => wput0_ok h
  | x :: xs, n + 1, k, h => by
    obtain ⟨r, h1, h2⟩ := wput_ok (vs := vs) (l := xs) (n := n) (k := fun r => k (x :: r)) h
    exact ⟨x :: r, by show lputN x (lput vs xs n) = _; rw [h1]; rfl, h2⟩
theorem wlenIs_ok : ∀ {l : List Value} {n : Nat} {p : Prop}, wlenIs l n p → Nat.beq (llen l) n = true ∧ p
  | [], 0, p, h => ⟨rfl, h⟩
  | [], n + 1, p, h => h.elim
  | x :: xs, 0, p, h => h.elim
  | x :: xs, n + 1, p, h => wlenIs_ok (l := xs) (n := n) h
theorem wcellV_ok {x : Value} {p : Prop} (h : wcellV x p) : cellV x = true ∧ p := by
  cases x <;> first | exact ⟨rfl, h⟩ | exact h.elim
theorem wcellL_ok : ∀ {l : List Value} {p : Prop}, wcellL l p → cellL l = true ∧ p
  | [], p, h => ⟨rfl, h⟩
  | x :: xs, p, h => by
    obtain ⟨h1, h2⟩ := wcellV_ok (x := x) (p := wcellL xs p) h
    obtain ⟨h3, h4⟩ := wcellL_ok h2
    exact ⟨by show (bif cellV x then cellL xs else false) = true; rw [h1]; exact h3, h4⟩
theorem wevs_ok {tm : Tm} : ∀ {l : List Co} {k : KL}, wevs tm l k → k (cevs tm l)
  | [], k, h => h
  | x :: xs, k, h => wevs_ok (l := xs) (k := fun r => k (cev tm x :: r)) h
theorem wargs_ok : ∀ {l : List Value} {i : Nat} {tm : Tm} {k : Tm → Prop}, wargs l i tm k → k (setArgs l i tm)
  | [], i, tm, k, h => h
  | v :: l, i, tm, k, h => by
    have h : (tpath i).setK v tm (fun tm => wargs l (Nat.succ i) tm k) := h
    rw [tsetK_eq] at h
    exact wargs_ok (l := l) (i := Nat.succ i) (tm := tset tm i v) h
theorem wB_ok {b : Bool} {p : Prop} (h : wB b p) : b = true ∧ p := by cases b <;> first | exact h.elim | exact ⟨rfl, h⟩
theorem wR_ok {α : Type} {r : R α} {k : α → Prop} (h : wR r k) : ∃ x, r = .ok x ∧ k x := by cases r <;> first | exact ⟨_, rfl, h⟩ | exact h.elim
theorem wOp_ok {α : Type} {r : Option α} {k : α → Prop} (h : wOp r k) : ∃ x, r = some x ∧ k x := by cases r <;> first | exact ⟨_, rfl, h⟩ | exact h.elim
theorem wev_eq {tm : Tm} {x : Co} {k : KV} : wev tm x k = k (cev tm x) := by cases x <;> rfl
theorem waddr_ok {v : Value} {k : Addr → Prop} (h : waddr v k) : ∃ a, v = .pointer (some a) ∧ k a := by
  cases v <;> first | exact h.elim | skip
  obtain ⟨a, rfl, h⟩ := wOp_ok h
  exact ⟨a, rfl, h⟩
theorem wnat_ok {v : Value} {k : Nat → Prop} (h : wnat v k) : ∃ q n, v = .int q (.ofNat n) ∧ k n := by
  cases v <;> first | exact h.elim | skip
  rename_i q n
  cases n <;> first | exact ⟨_, _, rfl, h⟩ | exact h.elim
theorem wbool_ok {v : Value} {f t : Prop} (h : wbool v f t) : (v = .bool true ∧ t) ∨ (v = .bool false ∧ f) := by
  cases v <;> first | exact h.elim | skip
  rename_i b
  cases b <;> first | exact .inr ⟨rfl, h⟩ | exact .inl ⟨rfl, h⟩
theorem wcells_ok {h : Hp} {b : Nat} {k : List Value → Bool → Prop} (hk : wcells h b k) : ∃ cs ro, hget h b = some (.cells cs ro) ∧ k cs ro := by
  unfold wcells at hk
  show ∃ cs ro, (hpath b).get h = _ ∧ _
  generalize (hpath b).get h = o at *
  cases o with
  | none => exact hk.elim
  | some o => cases o <;> first | exact ⟨_, _, rfl, hk⟩ | exact hk.elim
theorem wload_ok {ag : Option Nat} {off : Nat} {cs : List Value} {k : KV} (h : wload ag off cs k) : ∃ v, loadC ag off cs = .ok v ∧ k v := by
  cases ag with
  | none =>
    obtain ⟨x, h1, h2⟩ := wget_ok (k := k) h
    exact ⟨x, by show ofGet (lget cs off) = _; rw [h1]; rfl, h2⟩
  | some n =>
    have h := wdrop_ok (l := cs) (n := off) h
    obtain ⟨r, h1, h2⟩ := wcut_ok h
    exact ⟨_, by show ofCut (lcut n (ldrop cs off)) = _; rw [h1]; rfl, h2⟩
theorem wvc_eq {v : Value} {k : KL} : wvc v k = k (vcells v) := by cases v <;> rfl
theorem wII_ok {f : IntKind → Int → Int → Value} {x y : Value} {k : KV} (h : wII f x y k) : ∃ kx a ky b, x = .int kx a ∧ y = .int ky b ∧ keq kx ky = true ∧ k (f kx a b) := by
  cases x <;> first | exact h.elim | skip
  cases y <;> first | exact h.elim | skip
  obtain ⟨h1, h2⟩ := wB_ok h
  exact ⟨_, _, _, _, rfl, rfl, h1, h2⟩
theorem wII1_ok {f : IntKind → Int → Int → Value} {kx : IntKind} {a : Int} {y : Value} {k : KV} (h : wII1 kx a f y k) : ∃ ky b, y = .int ky b ∧ keq kx ky = true ∧ k (f kx a b) := by
  cases y <;> first | exact h.elim | skip
  obtain ⟨h1, h2⟩ := wB_ok h
  exact ⟨_, _, rfl, h1, h2⟩
section
variable {P : Program}
theorem bin_int {op : BinOp} {t : TypeId} {kx ky : IntKind} {a b : Int} (hs : isShift op = false) (hk : keq kx ky = true) : bin P op t (.int kx a) (.int ky b) = iOp op kx a b := by
  show iBin op kx a ky b = _
  unfold iBin
  rw [hs, hk]; rfl
theorem wbin_ok {op : BinOp} {t : TypeId} {x y : Value} {k : KV} (h : wbin op P t x y k) : ∃ v, bin P op t x y = .ok v ∧ k v := by
  have gen : ∀ {f : IntKind → Int → Int → Value}, isShift op = false → (∀ kx a b, iOp op kx a b = .ok (f kx a b)) → wII f x y k → ∃ v, bin P op t x y = .ok v ∧ k v := by
    intro f hs hf h
    obtain ⟨kx, a, ky, b, rfl, rfl, h1, h2⟩ := wII_ok h
    exact ⟨_, by rw [bin_int hs h1, hf], h2⟩
  have eqx : ∀ {f : IntKind → Int → Int → Value}, isShift op = false → (∀ kx a b, iOp op kx a b = .ok (f kx a b)) → wEqx op f P t x y k → ∃ v, bin P op t x y = .ok v ∧ k v := by
    intro f hs hf h
    cases x <;> first | exact wR_ok h | skip
    obtain ⟨ky, b, rfl, h1, h2⟩ := wII1_ok h
    exact ⟨_, by rw [bin_int hs h1, hf], h2⟩
  cases op with
  | add => exact gen rfl (fun _ _ _ => rfl) h
  | sub => exact gen rfl (fun _ _ _ => rfl) h
  | mul => exact gen rfl (fun _ _ _ => rfl) h
  | lss => exact gen rfl (fun _ _ _ => rfl) h
  | leq => exact gen rfl (fun _ _ _ => rfl) h
  | gtr => exact gen rfl (fun _ _ _ => rfl) h
  | geq => exact gen rfl (fun _ _ _ => rfl) h
  | eql => exact eqx rfl (fun _ _ _ => rfl) h
  | neq => exact eqx rfl (fun _ _ _ => rfl) h
  | _ => exact wR_ok h
theorem wIx_ok {t : IxT} {x : Value} {i : Nat} {k : KV} (h : wIx t x i k) : ∃ v, oIndexAddr t x i = .ok v ∧ k v := by
  cases t with
  | array n s => exact wR_ok h
  | slice s =>
    cases x <;> first | exact h.elim | skip
    obtain ⟨a, rfl, h⟩ := wOp_ok h
    obtain ⟨h1, h2⟩ := wB_ok h
    exact ⟨_, by show (bif Nat.blt i _ then _ else _) = _; rw [h1]; rfl, h2⟩
theorem wFld_ok {v : Value} {off : Nat} {ag : Option Nat} {k : KV} (h : wFld v off ag k) : ∃ r, cFld off ag v = .ok r ∧ k r := by
  cases v <;> first | exact h.elim | exact wload_ok h
theorem wfill_ok {tm : Tm} : ∀ {l : List (Nat × Nat × Co)} {cells : List Value} {k : KL}, wfill tm l cells k → ∃ r, cfillP tm l cells = .ok r ∧ k r
  | [], cells, k, h => ⟨cells, rfl, h⟩
  | (off, sz, x) :: l, cells, k, h => by
    have h : wfillS (off, sz, x) tm cells (fun r => wfill tm l r k) := h
    unfold wfillS at h
    rw [wev_eq, wvc_eq] at h
    obtain ⟨h1, h2⟩ := wlenIs_ok h
    obtain ⟨r, h3, h4⟩ := wput_ok h2
    obtain ⟨r', h5, h6⟩ := wfill_ok h4
    refine ⟨r', ?_, h6⟩
    show cfillS (cfillP tm l) off sz (vcells (cev tm x)) cells = _
    unfold cfillS
    simp only [h1, cond_true, h3, R.of, h5]
theorem wpur_ok {e : CP} {tm : Tm} {k : KV} (h : wpur e P tm k) : ∃ v, cpur P tm e = .ok v ∧ k v := by
  cases e with
  | mv x =>
    have h : wev tm x k := h
    rw [wev_eq] at h
    exact ⟨_, rfl, h⟩
  | pick c a b =>
    have h : wev tm c (fun c => wbool c (wev tm b k) (wev tm a k)) := h
    simp only [wev_eq] at h
    show ∃ v, cPick tm a b (cev tm c) = .ok v ∧ k v
    rcases wbool_ok h with ⟨h1, h2⟩ | ⟨h1, h2⟩
    · rw [h1]; exact ⟨_, rfl, h2⟩
    · rw [h1]; exact ⟨_, rfl, h2⟩
  | bin op t x y =>
    have h : wev tm x (fun x => wev tm y (fun y => wbin op P t x y k)) := h
    simp only [wev_eq] at h
    exact wbin_ok h
  | un op x => exact wR_ok h
  | conv d x => exact wR_ok h
  | fld off ag x =>
    have h : wev tm x (fun v => wFld v off ag k) := h
    rw [wev_eq] at h
    exact wFld_ok h
  | fldA off x =>
    have h : wev tm x (fun v => waddr v (fun a => k (moveA a off))) := h
    rw [wev_eq] at h
    obtain ⟨a, h1, h2⟩ := waddr_ok h
    exact ⟨_, by show addrR (cev tm x) _ = _; rw [h1]; rfl, h2⟩
  | ixA t x i =>
    have h : wev tm i (fun i => wnat i (fun i => wev tm x (fun x => wIx t x i k))) := h
    simp only [wev_eq] at h
    obtain ⟨q, n, h1, h2⟩ := wnat_ok h
    obtain ⟨v, h3, h4⟩ := wIx_ok h2
    exact ⟨v, by show natR (cev tm i) _ = _; rw [h1]; exact h3, h4⟩
  | sl s x lo hi mx => exact wR_ok h
  | ext x i => exact wR_ok h
  | nilc x => exact wR_ok h
  | mkf f a b => exact ⟨_, rfl, h⟩
  | ifc t x =>
    have h : wev tm x (fun v => k (.iface t v)) := h
    rw [wev_eq] at h
    exact ⟨_, rfl, h⟩
  | mn b x y => exact wR_ok h
  | build z parts =>
    obtain ⟨r, h1, h2⟩ := wfill_ok (k := fun l => k (.agg ⟨l⟩)) h
    exact ⟨_, by show R.bind (cfillP tm parts z) _ = _; rw [h1]; rfl, h2⟩
  | gen o => exact wR_ok h
theorem walc_ok {e : CA} {tm : Tm} {h : Hp} {nx : Nat} {k : KC} (hk : walc e P tm h nx k) : ∃ b, calq P tm e = .ok b ∧ k (nbV nx b) (hset h nx (nbO b)) (Nat.succ nx) := by
  have gen : walG P e tm h nx k → ∃ b, calq P tm e = .ok b ∧ k (nbV nx b) (hset h nx (nbO b)) (Nat.succ nx) := fun hk => by
    obtain ⟨b, h1, h2⟩ := wR_ok hk
    rw [hsetK_eq] at h2
    exact ⟨b, h1, h2⟩
  cases e with
  | new l =>
    have hk : wnew l h nx (.pointer (some ⟨nx, 0, none⟩)) k := hk
    unfold wnew at hk
    rw [hsetK_eq] at hk
    exact ⟨_, rfl, hk⟩
  | box x =>
    have hk : wev tm x (fun v => wvc v (fun l => wcellL l (wnew l h nx (.pointer (some ⟨nx, 0, none⟩)) k))) := hk
    rw [wev_eq, wvc_eq] at hk
    obtain ⟨h1, h2⟩ := wcellL_ok hk
    unfold wnew at h2
    rw [hsetK_eq] at h2
    exact ⟨.ptr (.cells (vcells (cev tm x)) false), by show cellsNB _ = _; unfold cellsNB; rw [h1]; rfl, h2⟩
  | bsl len base parts =>
    obtain ⟨r, h1, h2⟩ := wfill_ok (k := fun l => wcellL l (wnew l h nx (.slice (some ⟨nx, 0, none⟩) len len) k)) hk
    obtain ⟨h3, h4⟩ := wcellL_ok h2
    unfold wnew at h4
    rw [hsetK_eq] at h4
    exact ⟨.slice (.cells r false) len len, by show R.bind (cfillP tm parts base) _ = _; rw [h1]; show sliceNB r len len = _; unfold sliceNB; rw [h3]; rfl, h4⟩
  | mkm =>
    have hk : (hpath nx).setK (some (.map [] 0)) h (fun h => k (.map (some nx)) h (Nat.succ nx)) := hk
    rw [hsetK_eq] at hk
    exact ⟨.map, rfl, hk⟩
  | mks z l c => exact gen hk
  | gen o => exact gen hk
theorem wred_ok {e : CRd} {tm : Tm} {h : Hp} {k : KV} (hk : wred e P tm h k) : ∃ v, cred P tm h e = .ok v ∧ k v := by
  cases e with
  | ld ag x =>
    have hk : wev tm x (fun v => waddr v (fun a => wcells h a.1 (fun cs _ => wload ag a.2 cs k))) := hk
    rw [wev_eq] at hk
    obtain ⟨a, h1, h2⟩ := waddr_ok hk
    obtain ⟨cs, ro, h3, h4⟩ := wcells_ok h2
    obtain ⟨v, h5, h6⟩ := wload_ok h4
    refine ⟨v, ?_, h6⟩
    show addrR (cev tm x) _ = _
    rw [h1]
    show cellsOf h a.block _ = _
    unfold cellsOf
    rw [show hget h a.block = some (.cells cs ro) from h3]
    exact h5
  | lkp kt z m x ok => exact wR_ok hk
  | lens x =>
    have hk : wev tm x (fun v => wLens v k) := hk
    rw [wev_eq] at hk
    show ∃ v, lenS (cev tm x) = .ok v ∧ k v
    generalize cev tm x = v at *
    cases v <;> first | exact hk.elim | exact ⟨_, rfl, hk⟩
  | lenm x => exact wR_ok hk
  | entry x => exact wR_ok hk
  | gen o => exact wR_ok hk
theorem wCR_ok {r : CR} {k : KC} (h : wCR r k) : ∃ v h' nx', r = .ok v h' nx' ∧ k v h' nx' := by
  cases r <;> first | exact ⟨_, _, _, rfl, h⟩ | exact h.elim
def WCallOk (wc : WCall) (call : CallF) : Prop := ∀ f args h nx k, wc f args h nx k → ∃ v h' nx', call f args h nx = .ok v h' nx' ∧ k v h' nx'
theorem wOR_ok {wc : WCall} {call : CallF} (hc : WCallOk wc call) {round : RoundF} {r : OR} {k : KC} (h : wOR wc round r k) : ∃ v h' nx', crOf call round r = .ok v h' nx' ∧ k v h' nx' := by
  cases r with
  | val v h' nx => exact ⟨_, _, _, rfl, h⟩
  | call f args h' nx => exact hc f args h' nx k h
  | round l args h' nx => exact wCR_ok h
  | no w => exact h.elim
  | alt a b => exact h.elim
theorem wSt_ok {l : List Value} {h : Hp} {nx b off : Nat} {k : KC} {cs : List Value} {ro : Bool} (hk : wSt l h nx b off k cs ro) : ro = false ∧ cellL l = true ∧ ∃ r, lput l cs off = some r ∧ k undefV (hset h b (.cells r false)) nx := by
  cases ro with
  | true => exact hk.elim
  | false =>
    obtain ⟨h1, h2⟩ := wcellL_ok hk
    obtain ⟨r, h3, h4⟩ := wput_ok h2
    rw [hsetK_eq] at h4
    exact ⟨rfl, h1, r, h3, h4⟩
theorem weff_ok {wc : WCall} {call : CallF} (hc : WCallOk wc call) {round : RoundF} {e : CE} {tm : Tm} {h : Hp} {nx : Nat} {k : KC} (hk : weff e P wc round tm h nx k) : ∃ v h' nx', crOf call round (ceff P tm h nx e) = .ok v h' nx' ∧ k v h' nx' := by
  cases e with
  | st n a x =>
    have hk : wev tm a (fun a => waddr a (fun a => wev tm x (fun x => wvc x (fun l => wlenIs l n (wcells h a.1 (wSt l h nx a.1 a.2 k)))))) := hk
    rw [wev_eq] at hk
    obtain ⟨a', h1, h2⟩ := waddr_ok hk
    rw [wev_eq, wvc_eq] at h2
    obtain ⟨h3, h4⟩ := wlenIs_ok h2
    obtain ⟨cs, ro, h5, h6⟩ := wcells_ok h4
    obtain ⟨rfl, h7, r, h8, h9⟩ := wSt_ok h6
    refine ⟨_, _, _, ?_, h9⟩
    show crOf call round (uOf nx (addrR (cev tm a) (cSt h n (vcells (cev tm x))))) = _
    rw [h1]
    show crOf call round (uOf nx (cSt h n (vcells (cev tm x)) a')) = _
    unfold cSt writeA cellsOf
    rw [h3, show hget h a'.block = some (.cells cs false) from h5]
    show crOf call round (uOf nx (bif cellL (vcells (cev tm x)) then _ else _)) = _
    rw [h7]
    show crOf call round (uOf nx (R.of _ (lput (vcells (cev tm x)) cs a'.off) _)) = _
    rw [show lput (vcells (cev tm x)) cs a'.off = some r from h8]
    rfl
  | call f args =>
    have hk := wevs_ok (tm := tm) (l := args) (k := fun vs => wc f vs h nx k) hk
    exact hc _ _ _ _ _ hk
  | _ => exact wOR_ok hc hk
theorem wput1_eq {d : Option Nat} {tm : Tm} {v : Value} {k : Tm → Prop} : wput1 d tm v k = k (putT tm d v) := by
  cases d with
  | none => rfl
  | some d => exact tsetK_eq tm d v k
theorem wwant_ok {g : Option (Nat × Bool)} {tm : Tm} {x y : Prop} (h : wwant g tm x y) : (cwant tm g = true ∧ y) ∨ (cwant tm g = false ∧ x) := by
  cases g with
  | none => exact .inl ⟨rfl, h⟩
  | some p =>
    obtain ⟨d, b⟩ := p
    have h : wwantV (tget tm d) b x y := h
    show (boolIs b (tget tm d) = true ∧ y) ∨ (boolIs b (tget tm d) = false ∧ x)
    generalize tget tm d = v at *
    cases v <;> first | exact .inr ⟨rfl, h⟩ | skip
    rename_i c
    cases b <;> cases c <;> first | exact .inl ⟨rfl, h⟩ | exact .inr ⟨rfl, h⟩
theorem orDone_of {call : CallF} {round : RoundF} {ih : Tm → Hp → Nat → Out} {d : Option Nat} {tm : Tm} {r : OR} {v : Value} {h : Hp} {nx : Nat} (he : crOf call round r = .ok v h nx) : orDone call round ih d tm r = ih (putT tm d v) h nx := by
  cases r with
  | val v' h' nx' => cases he; rfl
  | call f args h' nx' =>
    have he : call f args h' nx' = .ok v h nx := he
    show crThen (call f args h' nx') _ = _
    rw [he]; rfl
  | round l args h' nx' =>
    have he : round l args h' nx' = .ok v h nx := he
    show crThen (round l args h' nx') _ = _
    rw [he]; rfl
  | no w => cases he
  | alt a b => cases he
theorem wO_ok {wc : WCall} {call : CallF} (hc : WCallOk wc call) {round : RoundF} : ∀ {l : List CI} {tm : Tm} {h : Hp} {nx : Nat} {k : KS}, wO P wc round l tm h nx k → ∃ tm' h' nx', cO P call round l tm h nx = .ok .normal tm' h' nx' ∧ k tm' h' nx'
  | [], tm, h, nx, k, hk => ⟨tm, h, nx, rfl, hk⟩
  | ⟨g, d, c, q⟩ :: is, tm, h, nx, k, hk => by
    have ih := fun tm h nx => wO_ok hc (round := round) (l := is) (tm := tm) (h := h) (nx := nx) (k := k)
    have hk : wwant g tm (wput1 d tm undefV (fun tm => wO P wc round is tm h nx k)) (wRun q P wc round (wO P wc round is) d tm h nx k) := hk
    show ∃ tm' h' nx', cOS P call round ⟨g, d, c, q⟩ (cO P call round is) tm h nx = _ ∧ _
    unfold cOS
    rcases wwant_ok hk with ⟨h1, h2⟩ | ⟨h1, h2⟩
    · simp only [h1]
      cases q with
      | pur e =>
        obtain ⟨v, h3, h4⟩ := wpur_ok (k := fun v => wput1 d tm v (fun tm => wO P wc round is tm h nx k)) h2
        rw [wput1_eq] at h4
        simp only [h3, cO1]
        exact ih _ _ _ h4
      | alc e =>
        obtain ⟨b, h3, h4⟩ := walc_ok (k := fun v h nx => wput1 d tm v (fun tm => wO P wc round is tm h nx k)) h2
        rw [wput1_eq] at h4
        simp only [h3, cO2]
        exact ih _ _ _ h4
      | red e =>
        obtain ⟨v, h3, h4⟩ := wred_ok (k := fun v => wput1 d tm v (fun tm => wO P wc round is tm h nx k)) h2
        rw [wput1_eq] at h4
        simp only [h3, cO1]
        exact ih _ _ _ h4
      | eff e =>
        obtain ⟨v, h', nx', h3, h4⟩ := weff_ok hc (k := fun v h nx => wput1 d tm v (fun tm => wO P wc round is tm h nx k)) h2
        rw [wput1_eq] at h4
        simp only [orDone_of h3]
        exact ih _ _ _ h4
    · simp only [h1]
      rw [wput1_eq] at h2
      exact ih _ _ _ h2
theorem wdChk_ok {tm : Tm} {e : CRd} {hs : List Hp} {c : Nat} {v : Value} {p : Prop} (h : wdChk P tm e hs c v p) : cagree P tm e v c hs = true ∧ p := by
  cases c with
  | zero => exact ⟨rfl, h⟩
  | succ n => exact wB_ok h
theorem wD_ok {wc : WCall} {call : CallF} (hc : WCallOk wc call) {round : RoundF} : ∀ {l : List CI} {tm : Tm} {h : Hp} {nx : Nat} {b : Hp} {hs : List Hp} {k : KS}, wD P wc round l tm h nx b hs k → ∃ tm' h' nx', cD P call round l tm h nx b hs = .ok .normal tm' h' nx' ∧ k tm' h' nx'
  | [], tm, h, nx, b, hs, k, hk => ⟨tm, h, nx, rfl, hk⟩
  | ⟨g, d, c, q⟩ :: is, tm, h, nx, b, hs, k, hk => by
    have ih := fun tm h nx b hs => wD_ok hc (round := round) (l := is) (tm := tm) (h := h) (nx := nx) (b := b) (hs := hs) (k := k)
    have hk : wwant g tm (wdSkip q (wD P wc round is) d tm h nx b hs k) (wdRun q P wc round (wD P wc round is) c d tm h nx b hs k) := hk
    show ∃ tm' h' nx', cDS P call round ⟨g, d, c, q⟩ (cD P call round is) tm h nx b hs = _ ∧ _
    unfold cDS
    rcases wwant_ok hk with ⟨h1, h2⟩ | ⟨h1, h2⟩
    · simp only [h1]
      cases q with
      | pur e =>
        obtain ⟨v, h3, h4⟩ := wpur_ok (k := fun v => wput1 d tm v (fun tm => wD P wc round is tm h nx b hs k)) h2
        rw [wput1_eq] at h4
        simp only [h3, cD1]
        exact ih _ _ _ _ _ h4
      | alc e =>
        obtain ⟨x, h3, h4⟩ := walc_ok (k := fun v h nx => wput1 d tm v (fun tm => wD P wc round is tm h nx b hs k)) h2
        rw [wput1_eq] at h4
        simp only [h3, cD2]
        exact ih _ _ _ _ _ h4
      | red e =>
        obtain ⟨v, h3, h4⟩ := wred_ok (k := fun v => wdChk P tm e hs c v (wput1 d tm v (fun tm => wD P wc round is tm h nx b hs k))) h2
        obtain ⟨h5, h6⟩ := wdChk_ok h4
        rw [wput1_eq] at h6
        simp only [h3, cD3, h5, cond_true]
        exact ih _ _ _ _ _ h6
      | eff e =>
        obtain ⟨v, h', nx', h3, h4⟩ := weff_ok hc (k := fun v h nx' => wB (Nat.ble nx nx') (wput1 d tm v (fun tm => wD P wc round is tm h nx' h (b :: hs) k))) h2
        obtain ⟨h5, h6⟩ := wB_ok h4
        rw [wput1_eq] at h6
        simp only [h3, cD4, h5, cond_true]
        exact ih _ _ _ _ _ h6
    · simp only [h1]
      have h2 : wput1 d tm undefV (fun tm => Bool.rec (motive := fun _ => Prop) (wD P wc round is tm h nx b hs k) (wD P wc round is tm h nx h (b :: hs) k) (isEffC q)) := h2
      rw [wput1_eq] at h2
      generalize isEffC q = eb at *
      cases eb <;> exact ih _ _ _ _ _ h2
theorem wOut_ok {o : Out} {k : KO} (h : wOut o k) : ∃ x tm h' nx, o = .ok x tm h' nx ∧ k x tm h' nx := by
  cases o <;> first | exact ⟨_, _, _, _, rfl, h⟩ | exact h.elim
theorem wRes1_ok {l : List Value} {k : KV} {h : Hp} {nx : Nat} (hk : wRes1 l k) : ∃ v, resOf h nx (.ok l) = .ok v h nx ∧ k v := by
  cases l with
  | nil => exact ⟨_, rfl, hk⟩
  | cons x xs => cases xs <;> exact ⟨_, rfl, hk⟩
theorem wRv_ok {tm : Tm} {h : Hp} {x : ResultVar} {k : KV} (hk : wRv P tm h x k) : ∃ v, resV P tm h x = .ok v ∧ k v := by
  cases x with
  | tmp t => exact ⟨_, rfl, hk⟩
  | cell a t =>
    obtain ⟨ad, h1, h2⟩ := waddr_ok hk
    obtain ⟨v, h3, h4⟩ := wR_ok h2
    exact ⟨v, by show addrR (tget tm a) _ = _; rw [show tget tm a = .pointer (some ad) from h1]; exact h3, h4⟩
theorem wRvs_ok {tm : Tm} {h : Hp} : ∀ {rs : List ResultVar} {k : KL}, wRvs P tm h rs k → ∃ l, resVs P tm h rs = .ok l ∧ k l
  | [], k, hk => ⟨[], rfl, hk⟩
  | x :: rs, k, hk => by
    obtain ⟨v, h1, h2⟩ := wRv_ok (k := fun v => wRvs P tm h rs (fun r => k (v :: r))) hk
    obtain ⟨l, h3, h4⟩ := wRvs_ok h2
    refine ⟨v :: l, ?_, h4⟩
    show R.bind (resV P tm h x) _ = _
    rw [h1]
    show R.bind (resVs P tm h rs) _ = _
    rw [h3]; rfl
theorem wRes_ok {rs : List ResultVar} {tm : Tm} {h : Hp} {nx : Nat} {k : KC} (hk : wRes P rs k tm h nx) : ∃ v h' nx', resOf h nx (resVs P tm h rs) = .ok v h' nx' ∧ k v h' nx' := by
  obtain ⟨l, h1, h2⟩ := wRvs_ok hk
  obtain ⟨v, h3, h4⟩ := wRes1_ok (h := h) (nx := nx) h2
  exact ⟨v, h, nx, by rw [h1]; exact h3, h4⟩
variable {orc : Orc}
def WExOk (wx : WEx) (ex : CEx) : Prop := ∀ cur c tm h nx k, wx cur c tm h nx k → ∃ x tm' h' nx', ex cur c tm h nx = .ok x tm' h' nx' ∧ k x tm' h' nx'
theorem wcall_ok {wx : WEx} {ex : CEx} (hx : WExOk wx ex) : WCallOk (wcall P orc wx) (ccallA P orc ex) := by
  intro f args h nx k hk
  unfold wcall at hk
  unfold ccallA
  cases ho : orc f with
  | some g => rw [ho] at hk; exact wCR_ok hk
  | none =>
    rw [ho] at hk
    simp only
    cases hcf : compAt P f with
    | none => rw [hcf] at hk; exact hk.elim
    | some c =>
      rw [hcf] at hk
      have hk : wEnter P wx c args h nx k := hk
      unfold wEnter at hk
      have hk := wargs_ok hk
      obtain ⟨x, tm', h', nx', h1, h2⟩ := hx _ _ _ _ _ _ hk
      show ∃ v h' nx', cEnter P ex c args h nx = _ ∧ _
      unfold cEnter retA
      rw [h1]
      cases x with
      | normal => exact wRes_ok h2
      | exit i => exact h2.elim
      | ret => exact wRes_ok h2
theorem wA_ok : ∀ n, WExOk (wA P orc n) (cexA P orc n)
  | 0 => fun cur c tm h nx k hk => hk.elim
  | n + 1 => by
    intro cur c tm h nx k hk
    have ih := wA_ok n
    have hc := wcall_ok (P := P) (orc := orc) ih
    have hk : wS c P orc (wA P orc n) (exA P orc n) cur tm h nx k := hk
    show ∃ x tm' h' nx', cexS P orc (cexA P orc n) (exA P orc n) cur c tm h nx = _ ∧ _
    cases c with
    | skip => exact ⟨_, _, _, _, rfl, hk⟩
    | exit id => exact ⟨_, _, _, _, rfl, hk⟩
    | ret => exact ⟨_, _, _, _, rfl, hk⟩
    | regO l =>
      obtain ⟨tm', h', nx', h1, h2⟩ := wO_ok hc hk
      exact ⟨_, _, _, _, h1, h2⟩
    | regD l =>
      obtain ⟨tm', h', nx', h1, h2⟩ := wD_ok hc hk
      exact ⟨_, _, _, _, h1, h2⟩
    | seq a b =>
      obtain ⟨x, tm', h', nx', h1, h2⟩ := ih _ _ _ _ _ _ hk
      show ∃ x tm' h' nx', outThen (cexA P orc n cur a tm h nx) _ = _ ∧ _
      rw [h1]
      cases x with
      | normal => exact ih _ _ _ _ _ _ h2
      | exit i => exact ⟨_, _, _, _, rfl, h2⟩
      | ret => exact ⟨_, _, _, _, rfl, h2⟩
    | cond x a b =>
      have hk : wev tm x (fun v => wbool v (wA P orc n cur b tm h nx k) (wA P orc n cur a tm h nx k)) := hk
      rw [wev_eq] at hk
      show ∃ x' tm' h' nx', cCond (cexA P orc n) cur a b tm h nx (cev tm x) = _ ∧ _
      rcases wbool_ok hk with ⟨h1, h2⟩ | ⟨h1, h2⟩
      · rw [h1]; exact ih _ _ _ _ _ _ h2
      · rw [h1]; exact ih _ _ _ _ _ _ h2
    | block id a =>
      obtain ⟨x, tm', h', nx', h1, h2⟩ := ih _ _ _ _ _ _ hk
      show ∃ x tm' h' nx', outThen (cexA P orc n cur a tm h nx) _ = _ ∧ _
      rw [h1]
      cases x with
      | normal => exact ⟨_, _, _, _, rfl, h2⟩
      | ret => exact ⟨_, _, _, _, rfl, h2⟩
      | exit i =>
        have h2 : (Bool.rec (motive := fun _ => Tm → Hp → Nat → Prop) (k (.exit i)) (k .normal) (Nat.beq i id)) tm' h' nx' := h2
        show ∃ x tm'' h'' nx'', (bif Nat.beq i id then Out.ok .normal tm' h' nx' else Out.ok (.exit i) tm' h' nx') = _ ∧ _
        generalize Nat.beq i id = b at *
        cases b <;> exact ⟨_, _, _, _, rfl, h2⟩
    | loop a =>
      obtain ⟨x, tm', h', nx', h1, h2⟩ := ih _ _ _ _ _ _ hk
      show ∃ x tm' h' nx', outThen (cexA P orc n cur a tm h nx) _ = _ ∧ _
      rw [h1]
      cases x with
      | normal => exact ih _ _ _ _ _ _ h2
      | exit i => exact ⟨_, _, _, _, rfl, h2⟩
      | ret => exact ⟨_, _, _, _, rfl, h2⟩
    | scope a => exact ih _ _ _ _ _ _ hk
    | gen a => exact wOut_ok hk
theorem wTrue_ok {n : Nat} {f : FuncId} (h : wTrue P orc n f) : ∃ h' nx', callA P orc (exA P orc n) f [] hp0 0 = .ok (.bool true) h' nx' := by
  obtain ⟨v, h', nx', h1, h2⟩ := wcall_ok (wA_ok n) _ _ _ _ _ h
  have hl := ccall_ok (P := P) (orc := orc) n f [] hp0 0
  rw [h1] at hl
  rcases wbool_ok h2 with ⟨rfl, _⟩ | ⟨_, hf⟩
  · generalize callA P orc (exA P orc n) f [] hp0 0 = z at *
    cases hl
    exact ⟨h', nx', rfl⟩
  · exact hf.elim
end
end Go.Ax

/-! part AxM -/
namespace Go.Ax
open Go
set_option linter.unusedSimpArgs false
set_option linter.unusedVariables false

/-! # with more fuel there is more -/
section
variable {P : Program} {orc : Orc}
def RoundLe (round round' : RoundF) : Prop := ∀ l args h nx, CLe (round l args h nx) (round' l args h nx)
theorem OLe.ok_eq {x : Ex} {tm : Tm} {h : Hp} {nx : Nat} {o : Out} (hl : OLe (.ok x tm h nx) o) : o = .ok x tm h nx := by cases hl; rfl
theorem CLe.ok_eq {v : Value} {h : Hp} {nx : Nat} {o : CR} (hl : CLe (.ok v h nx) o) : o = .ok v h nx := by cases hl; rfl
theorem orDone_mono {call call' : CallF} (hc : CallLe call call') {round round' : RoundF} (hr : RoundLe round round') {ih ih' : Tm → Hp → Nat → Out} (hi : ∀ tm h nx, OLe (ih tm h nx) (ih' tm h nx)) (d : Option Nat) (tm : Tm) :
    ∀ r, OLe (orDone call round ih d tm r) (orDone call' round' ih' d tm r)
  | .val v h nx => hi _ _ _
  | .call f args h nx => (hc f args h nx).then fun v h nx => hi _ _ _
  | .round l args h nx => (hr l args h nx).then fun v h nx => hi _ _ _
  | .no w => .no _ _
  | .alt a b => .alt (orDone_mono hc hr hi d tm a) (orDone_mono hc hr hi d tm b)
theorem crOf_mono {call call' : CallF} (hc : CallLe call call') {round round' : RoundF} (hr : RoundLe round round') {r : OR} {v : Value} {h : Hp} {nx : Nat} (he : crOf call round r = .ok v h nx) : crOf call' round' r = .ok v h nx := by
  cases r with
  | call f args h' nx' =>
    have he : call f args h' nx' = .ok v h nx := he
    have := hc f args h' nx'
    rw [he] at this
    exact this.ok_eq
  | round l args h' nx' =>
    have he : round l args h' nx' = .ok v h nx := he
    have := hr l args h' nx'
    rw [he] at this
    exact this.ok_eq
  | _ => exact he
theorem opsA_mono {call call' : CallF} (hc : CallLe call call') {round round' : RoundF} (hr : RoundLe round round') {all : List Oper} : ∀ (os : List Oper) tm h nx, OLe (opsAI P call round all os tm h nx) (opsAI P call' round' all os tm h nx)
  | [], tm, h, nx => .ok _ _ _ _
  | o :: os, tm, h, nx => by
    have ih := opsA_mono hc hr (all := all) os
    show OLe (opsS P call round all o (opsAI P call round all os) tm h nx) (opsS P call' round' all o (opsAI P call' round' all os) tm h nx)
    unfold opsS
    cases wantedA all tm o.guard with
    | false => exact ih _ _ _
    | true => exact orDone_mono hc hr ih _ _ _
theorem drawA_mono {call call' : CallF} (hc : CallLe call call') {round round' : RoundF} (hr : RoundLe round round') {all : List Oper} : ∀ (ss : List Step) tm h nx b hs, OLe (drawAI P call round all ss tm h nx b hs) (drawAI P call' round' all ss tm h nx b hs)
  | [], tm, h, nx, b, hs => .ok _ _ _ _
  | s :: ss, tm, h, nx, b, hs => by
    have ih := drawA_mono hc hr (all := all) ss
    show OLe (dS P call round all s (drawAI P call round all ss) tm h nx b hs) (dS P call' round' all s (drawAI P call' round' all ss) tm h nx b hs)
    unfold dS
    cases wantedA all tm s.o.guard with
    | false =>
      show OLe (dSkip _ s tm h nx b hs) (dSkip _ s tm h nx b hs)
      unfold dSkip
      cases isEffK s.kd <;> exact ih _ _ _ _ _
    | true =>
      show OLe (dStep P call round _ s tm h nx b hs) (dStep P call' round' _ s tm h nx b hs)
      unfold dStep
      cases s.kd with
      | pur =>
        show OLe (dVal _ _ _ _ _ _ _ (purA P tm s.o.op)) (dVal _ _ _ _ _ _ _ (purA P tm s.o.op))
        cases purA P tm s.o.op with
        | no w => exact .no _ _
        | ok v => exact ih _ _ _ _ _
      | alc =>
        show OLe (dNew _ _ _ _ _ _ _ (alcA P tm s.o.op)) (dNew _ _ _ _ _ _ _ (alcA P tm s.o.op))
        cases alcA P tm s.o.op with
        | no w => exact .no _ _
        | ok v => exact ih _ _ _ _ _
      | red =>
        show OLe (dRed P _ _ _ _ _ _ _ _ _ (redA P tm b s.o.op)) (dRed P _ _ _ _ _ _ _ _ _ (redA P tm b s.o.op))
        cases redA P tm b s.o.op with
        | no w => exact .no _ _
        | ok v =>
          show OLe (bif agree P tm s.o.op v s.chk hs then _ else _) (bif agree P tm s.o.op v s.chk hs then _ else _)
          cases agree P tm s.o.op v s.chk hs with
          | false => exact .no _ _
          | true => exact ih _ _ _ _ _
      | eff =>
        show OLe (dEff _ _ _ _ _ _ (crOf call round (effA P tm h nx s.o.op))) (dEff _ _ _ _ _ _ (crOf call' round' (effA P tm h nx s.o.op)))
        cases hv : crOf call round (effA P tm h nx s.o.op) with
        | no w => exact .no _ _
        | alt _ _ => exact .no _ _
        | ok v h' nx' =>
          rw [crOf_mono hc hr hv]
          show OLe (bif Nat.ble nx nx' then _ else _) (bif Nat.ble nx nx' then _ else _)
          cases Nat.ble nx nx' with
          | false => exact .no _ _
          | true => exact ih _ _ _ _ _
def ExLe (ex ex' : ExF) : Prop := ∀ cur c tm h nx, OLe (ex cur c tm h nx) (ex' cur c tm h nx)
theorem callA_mono {ex ex' : ExF} (hx : ExLe ex ex') : CallLe (callA P orc ex) (callA P orc ex') := by
  intro f args h nx
  unfold callA
  cases orc f with
  | some g => exact CLe.refl _
  | none =>
    cases lget P.funcs.toList f with
    | none => exact .no _ _
    | some fn =>
      show CLe (enterA P ex fn args h nx) (enterA P ex' fn args h nx)
      unfold enterA
      cases fn.body with
      | none => exact .no _ _
      | some c => exact (hx none c _ h nx).cr fun _ _ _ _ => CLe.refl _
theorem loopOf_mono {h : Hp} {l : Nat} {k k' : Nat → Option Code → Tm → List Nat → Code → Code → CR} (hk : ∀ st p tm ps a b, CLe (k st p tm ps a b) (k' st p tm ps a b)) : CLe (loopOf h l k) (loopOf h l k') := by
  unfold loopOf
  cases hget h l with
  | none => exact CLe.refl _
  | some o => cases o <;> first | exact CLe.refl _ | exact hk _ _ _ _ _ _
theorem roundA_mono {ex ex' : ExF} (hx : ExLe ex ex') : RoundLe (roundA ex) (roundA ex') := by
  intro l args h nx
  unfold roundA
  refine loopOf_mono fun st p tm ps a b => ?_
  cases Nat.beq (llen args) (llen ps) with
  | false => exact CLe.refl _
  | true =>
    refine (hx (some l) a _ h nx).cr fun x tm h nx => ?_
    cases x with
    | exit i => exact CLe.refl _
    | ret => exact CLe.refl _
    | normal =>
      refine loopOf_mono fun st p tm' ps a b' => ?_
      cases st with
      | zero => exact (hx _ _ _ _ _).cr fun _ _ _ _ => CLe.refl _
      | succ n => exact CLe.refl _
theorem exS_mono {ex ex' : ExF} (hx : ExLe ex ex') : ExLe (exS P orc ex) (exS P orc ex') := by
  intro cur c tm h nx
  have hc := callA_mono (P := P) (orc := orc) hx
  have hr := roundA_mono hx
  cases c with
  | scope c => exact hx _ _ _ _ _
  | region id ops draw =>
    show OLe (regionA P _ _ ops.toList draw tm h nx) (regionA P _ _ ops.toList draw tm h nx)
    unfold regionA
    cases draw with
    | false => exact opsA_mono hc hr _ _ _ _
    | true =>
      show OLe (Option.casesOn (planOf P ops.toList) _ _) (Option.casesOn (planOf P ops.toList) _ _)
      cases planOf P ops.toList with
      | none => exact .no _ _
      | some ss => exact drawA_mono hc hr _ _ _ _ _ _
  | seq a b => exact (hx _ _ _ _ _).then fun x tm h nx => by cases x <;> first | exact hx _ _ _ _ _ | exact OLe.refl _
  | loop a => exact (hx _ _ _ _ _).then fun x tm h nx => by cases x <;> first | exact hx _ _ _ _ _ | exact OLe.refl _
  | block id a => exact (hx _ _ _ _ _).then fun x tm h nx => OLe.refl _
  | cond x a b =>
    show OLe (condA ex cur a b tm h nx (ev tm x)) (condA ex' cur a b tm h nx (ev tm x))
    unfold condA
    cases ev tm x with
    | no w => exact .no _ _
    | ok v =>
      cases v <;> first | exact .no _ _ | skip
      rename_i t
      cases t <;> exact hx _ _ _ _ _
  | rangeFunc f ps asg body =>
    show OLe (R.casesOn (ev tm f) _ _) (R.casesOn (ev tm f) _ _)
    cases ev tm f with
    | no w => exact .no _ _
    | ok v =>
      show OLe (bif inLoop h cur then _ else _) (bif inLoop h cur then _ else _)
      cases inLoop h cur with
      | false => exact .no _ _
      | true =>
        show OLe (rfA P orc ex ps.toList asg body tm h nx v) (rfA P orc ex' ps.toList asg body tm h nx v)
        unfold rfA
        split
        · exact (hc _ _ _ _).then fun v h nx => OLe.refl _
        · exact .no _ _
  | _ => exact OLe.refl _
theorem exA_mono : ∀ n, ExLe (exA P orc n) (exA P orc (n + 1))
  | 0 => fun _ _ _ _ _ => .no _ _
  | n + 1 => exS_mono (exA_mono n)

/-! the same for what was looked up ahead -/
theorem cO_mono {call call' : CallF} (hc : CallLe call call') {round round' : RoundF} (hr : RoundLe round round') : ∀ (l : List CI) tm h nx, OLe (cO P call round l tm h nx) (cO P call' round' l tm h nx)
  | [], tm, h, nx => .ok _ _ _ _
  | i :: is, tm, h, nx => by
    have ih := cO_mono hc hr is
    show OLe (cOS P call round i (cO P call round is) tm h nx) (cOS P call' round' i (cO P call' round' is) tm h nx)
    unfold cOS
    cases cwant tm i.g with
    | false => exact ih _ _ _
    | true =>
      cases i.k with
      | pur e =>
        show OLe (cO1 _ _ _ _ _ (cpur P tm e)) (cO1 _ _ _ _ _ (cpur P tm e))
        cases cpur P tm e with
        | no w => exact .no _ _
        | ok v => exact ih _ _ _
      | alc e =>
        show OLe (cO2 _ _ _ _ _ (calq P tm e)) (cO2 _ _ _ _ _ (calq P tm e))
        cases calq P tm e with
        | no w => exact .no _ _
        | ok v => exact ih _ _ _
      | red e =>
        show OLe (cO1 _ _ _ _ _ (cred P tm h e)) (cO1 _ _ _ _ _ (cred P tm h e))
        cases cred P tm h e with
        | no w => exact .no _ _
        | ok v => exact ih _ _ _
      | eff e => exact orDone_mono hc hr ih _ _ _
theorem cD_mono {call call' : CallF} (hc : CallLe call call') {round round' : RoundF} (hr : RoundLe round round') : ∀ (l : List CI) tm h nx b hs, OLe (cD P call round l tm h nx b hs) (cD P call' round' l tm h nx b hs)
  | [], tm, h, nx, b, hs => .ok _ _ _ _
  | i :: is, tm, h, nx, b, hs => by
    have ih := cD_mono hc hr is
    show OLe (cDS P call round i (cD P call round is) tm h nx b hs) (cDS P call' round' i (cD P call' round' is) tm h nx b hs)
    unfold cDS
    cases cwant tm i.g with
    | false => show OLe (Bool.casesOn (isEffC i.k) _ _) (Bool.casesOn (isEffC i.k) _ _); cases isEffC i.k <;> exact ih _ _ _ _ _
    | true =>
      cases i.k with
      | pur e =>
        show OLe (cD1 _ _ _ _ _ _ _ (cpur P tm e)) (cD1 _ _ _ _ _ _ _ (cpur P tm e))
        cases cpur P tm e with
        | no w => exact .no _ _
        | ok v => exact ih _ _ _ _ _
      | alc e =>
        show OLe (cD2 _ _ _ _ _ _ _ (calq P tm e)) (cD2 _ _ _ _ _ _ _ (calq P tm e))
        cases calq P tm e with
        | no w => exact .no _ _
        | ok v => exact ih _ _ _ _ _
      | red e =>
        show OLe (cD3 P _ _ _ _ _ _ _ _ _ (cred P tm b e)) (cD3 P _ _ _ _ _ _ _ _ _ (cred P tm b e))
        cases cred P tm b e with
        | no w => exact .no _ _
        | ok v =>
          show OLe (bif cagree P tm e v i.c hs then _ else _) (bif cagree P tm e v i.c hs then _ else _)
          cases cagree P tm e v i.c hs with
          | false => exact .no _ _
          | true => exact ih _ _ _ _ _
      | eff e =>
        show OLe (cD4 _ _ _ _ _ _ (crOf call round (ceff P tm h nx e))) (cD4 _ _ _ _ _ _ (crOf call' round' (ceff P tm h nx e)))
        cases hv : crOf call round (ceff P tm h nx e) with
        | no w => exact .no _ _
        | alt _ _ => exact .no _ _
        | ok v h' nx' =>
          rw [crOf_mono hc hr hv]
          show OLe (bif Nat.ble nx nx' then _ else _) (bif Nat.ble nx nx' then _ else _)
          cases Nat.ble nx nx' with
          | false => exact .no _ _
          | true => exact ih _ _ _ _ _
def CExLe (ex ex' : CEx) : Prop := ∀ cur c tm h nx, OLe (ex cur c tm h nx) (ex' cur c tm h nx)
theorem ccallA_mono {ex ex' : CEx} (hx : CExLe ex ex') : CallLe (ccallA P orc ex) (ccallA P orc ex') := by
  intro f args h nx
  unfold ccallA
  cases orc f with
  | some g => exact CLe.refl _
  | none =>
    show CLe (Option.casesOn (compAt P f) _ _) (Option.casesOn (compAt P f) _ _)
    cases compAt P f with
    | none => exact .no _ _
    | some c => exact (hx _ _ _ _ _).cr fun _ _ _ _ => CLe.refl _
theorem cexS_mono {ex ex' : CEx} (hx : CExLe ex ex') {ex0 ex0' : ExF} (h0 : ExLe ex0 ex0') : CExLe (cexS P orc ex ex0) (cexS P orc ex' ex0') := by
  intro cur c tm h nx
  have hc := ccallA_mono (P := P) (orc := orc) hx
  have hr := roundA_mono h0
  cases c with
  | regO l => exact cO_mono hc hr _ _ _ _
  | regD l => exact cD_mono hc hr _ _ _ _ _ _
  | seq a b => exact (hx _ _ _ _ _).then fun x tm h nx => by cases x <;> first | exact hx _ _ _ _ _ | exact OLe.refl _
  | loop a => exact (hx _ _ _ _ _).then fun x tm h nx => by cases x <;> first | exact hx _ _ _ _ _ | exact OLe.refl _
  | block id a => exact (hx _ _ _ _ _).then fun x tm h nx => OLe.refl _
  | scope a => exact hx _ _ _ _ _
  | cond x a b =>
    show OLe (cCond ex cur a b tm h nx (cev tm x)) (cCond ex' cur a b tm h nx (cev tm x))
    unfold cCond
    cases cev tm x <;> first | exact .no _ _ | skip
    rename_i t
    cases t <;> exact hx _ _ _ _ _
  | gen a => exact exS_mono h0 _ _ _ _ _
  | _ => exact OLe.refl _
theorem cexA_mono1 : ∀ n, CExLe (cexA P orc n) (cexA P orc (n + 1))
  | 0 => fun _ _ _ _ _ => .no _ _
  | n + 1 => cexS_mono (cexA_mono1 n) (exA_mono n)
theorem OLe.trans {a b c : Out} (h : OLe a b) (k : OLe b c) : OLe a c := by
  induction h generalizing c with
  | no => exact .no _ _
  | ok => exact k
  | alt _ _ ih1 ih2 => cases k with | alt l r => exact .alt (ih1 l) (ih2 r)
theorem cexA_mono {n m : Nat} (h : n ≤ m) : CExLe (cexA P orc n) (cexA P orc m) := by
  induction h with
  | refl => intro _ _ _ _ _; exact OLe.refl _
  | step _ ih => intro cur c tm h nx; exact (ih cur c tm h nx).trans (cexA_mono1 _ cur c tm h nx)
theorem exA_mono' {n m : Nat} (h : n ≤ m) : ExLe (exA P orc n) (exA P orc m) := by
  induction h with
  | refl => intro _ _ _ _ _; exact OLe.refl _
  | step _ ih => intro cur c tm h nx; exact (ih cur c tm h nx).trans (exA_mono _ cur c tm h nx)
end
end Go.Ax

/-! part AxE -/
namespace Go.Ax
open Go
set_option linter.unusedSimpArgs false
set_option linter.unusedVariables false

/-! # what comes of code, for enough fuel -/
abbrev KO' := Ex → Tm → Hp → Nat → Prop
abbrev KC' := Value → Hp → Nat → Prop
abbrev KS' := Tm → Hp → Nat → Prop
/-- all ends are so; s: there is one -/
def Sat (s : Bool) (t : Out) (K : KO') : Prop := outSat t K ∧ (s = true → ∃ x tm h nx, t = .ok x tm h nx)
def SatC (s : Bool) (t : CR) (K : KC') : Prop := crSat t K ∧ (s = true → ∃ v h nx, t = .ok v h nx)
section
variable {s : Bool}
theorem Sat.up {a b : Out} {K : KO'} (h : Sat s a K) (l : OLe a b) : Sat s b K := by
  refine ⟨l.sat h.1, fun hs => ?_⟩
  obtain ⟨x, tm, h', nx, rfl⟩ := h.2 hs
  exact ⟨x, tm, h', nx, l.ok_eq⟩
theorem SatC.up {a b : CR} {K : KC'} (h : SatC s a K) (l : CLe a b) : SatC s b K := by
  refine ⟨l.sat h.1, fun hs => ?_⟩
  obtain ⟨x, h', nx, rfl⟩ := h.2 hs
  exact ⟨x, h', nx, l.ok_eq⟩
theorem crSat.mono {K K' : KC'} (hk : ∀ v h nx, K v h nx → K' v h nx) : ∀ {c : CR}, crSat c K → crSat c K'
  | .ok _ _ _, h => hk _ _ _ h
  | .no _, h => h
  | .alt _ _, h => ⟨crSat.mono hk h.1, crSat.mono hk h.2⟩
theorem Sat.mono {a : Out} {K K' : KO'} (h : Sat s a K) (hk : ∀ x tm h nx, K x tm h nx → K' x tm h nx) : Sat s a K' := ⟨outSat.mono hk h.1, h.2⟩
theorem SatC.mono {a : CR} {K K' : KC'} (h : SatC s a K) (hk : ∀ v h nx, K v h nx → K' v h nx) : SatC s a K' := ⟨crSat.mono hk h.1, h.2⟩
theorem sat_ok {x : Ex} {tm : Tm} {h : Hp} {nx : Nat} {K : KO'} : Sat s (.ok x tm h nx) K ↔ K x tm h nx := ⟨fun h => h.1, fun h => ⟨h, fun _ => ⟨_, _, _, _, rfl⟩⟩⟩
theorem satC_ok {v : Value} {h : Hp} {nx : Nat} {K : KC'} : SatC s (.ok v h nx) K ↔ K v h nx := ⟨fun h => h.1, fun h => ⟨h, fun _ => ⟨_, _, _, rfl⟩⟩⟩
theorem sat_no {w : String} {K : KO'} : Sat s (.no w) K ↔ False := ⟨fun h => h.1, fun h => h.elim⟩
theorem satC_no {w : String} {K : KC'} : SatC s (.no w) K ↔ False := ⟨fun h => h.1, fun h => h.elim⟩
theorem sat_alt {a b : Out} {K : KO'} : Sat s (.alt a b) K ↔ s = false ∧ Sat s a K ∧ Sat s b K := by
  cases s with
  | true => exact ⟨fun h => (by obtain ⟨_, _, _, _, e⟩ := h.2 rfl; cases e), fun h => (by cases h.1)⟩
  | false => exact ⟨fun h => ⟨rfl, ⟨h.1.1, fun e => (by cases e)⟩, ⟨h.1.2, fun e => (by cases e)⟩⟩, fun h => ⟨⟨h.2.1.1, h.2.2.1⟩, fun e => (by cases e)⟩⟩
theorem satC_alt {a b : CR} {K : KC'} : SatC s (.alt a b) K ↔ s = false ∧ SatC s a K ∧ SatC s b K := by
  cases s with
  | true => exact ⟨fun h => (by obtain ⟨_, _, _, e⟩ := h.2 rfl; cases e), fun h => (by cases h.1)⟩
  | false => exact ⟨fun h => ⟨rfl, ⟨h.1.1, fun e => (by cases e)⟩, ⟨h.1.2, fun e => (by cases e)⟩⟩, fun h => ⟨⟨h.2.1.1, h.2.2.1⟩, fun e => (by cases e)⟩⟩

/-- one fuel for all ends -/
theorem Sat.unif {K : KO'} {k : Nat → KO'} (hm : ∀ n m x tm h nx, n ≤ m → k n x tm h nx → k m x tm h nx) : ∀ {t : Out}, Sat s t (fun x tm h nx => ∃ n, k n x tm h nx) → ∃ n, Sat s t (k n)
  | .ok x tm h nx, hs => by
    obtain ⟨n, hn⟩ := sat_ok.1 hs
    exact ⟨n, sat_ok.2 hn⟩
  | .no w, hs => (sat_no.1 hs).elim
  | .alt a b, hs => by
    obtain ⟨h0, h1, h2⟩ := sat_alt.1 hs
    obtain ⟨n, h1⟩ := Sat.unif (K := K) hm h1
    obtain ⟨m, h2⟩ := Sat.unif (K := K) hm h2
    exact ⟨max n m, sat_alt.2 ⟨h0, h1.mono fun _ _ _ _ => hm _ _ _ _ _ _ (Nat.le_max_left ..), h2.mono fun _ _ _ _ => hm _ _ _ _ _ _ (Nat.le_max_right ..)⟩⟩
theorem SatC.unif {k : Nat → KC'} (hm : ∀ n m v h nx, n ≤ m → k n v h nx → k m v h nx) : ∀ {t : CR}, SatC s t (fun v h nx => ∃ n, k n v h nx) → ∃ n, SatC s t (k n)
  | .ok v h nx, hs => by
    obtain ⟨n, hn⟩ := satC_ok.1 hs
    exact ⟨n, satC_ok.2 hn⟩
  | .no w, hs => (satC_no.1 hs).elim
  | .alt a b, hs => by
    obtain ⟨h0, h1, h2⟩ := satC_alt.1 hs
    obtain ⟨n, h1⟩ := SatC.unif hm h1
    obtain ⟨m, h2⟩ := SatC.unif hm h2
    exact ⟨max n m, satC_alt.2 ⟨h0, h1.mono fun _ _ _ => hm _ _ _ _ _ (Nat.le_max_left ..), h2.mono fun _ _ _ => hm _ _ _ _ _ (Nat.le_max_right ..)⟩⟩
theorem Sat.then {k : Ex → Tm → Hp → Nat → Out} {K : KO'} : ∀ {t : Out}, Sat s t (fun x tm h nx => Sat s (k x tm h nx) K) → Sat s (outThen t k) K
  | .ok x tm h nx, hs => sat_ok.1 hs
  | .no w, hs => (sat_no.1 hs).elim
  | .alt a b, hs => by
    obtain ⟨h0, h1, h2⟩ := sat_alt.1 hs
    exact sat_alt.2 ⟨h0, Sat.then h1, Sat.then h2⟩
theorem Sat.thenC {k : Ex → Tm → Hp → Nat → CR} {K : KC'} : ∀ {t : Out}, Sat s t (fun x tm h nx => SatC s (k x tm h nx) K) → SatC s (outCR t k) K
  | .ok x tm h nx, hs => sat_ok.1 hs
  | .no w, hs => (sat_no.1 hs).elim
  | .alt a b, hs => by
    obtain ⟨h0, h1, h2⟩ := sat_alt.1 hs
    exact satC_alt.2 ⟨h0, Sat.thenC h1, Sat.thenC h2⟩
theorem SatC.then {k : Value → Hp → Nat → Out} {K : KO'} : ∀ {t : CR}, SatC s t (fun v h nx => Sat s (k v h nx) K) → Sat s (crThen t k) K
  | .ok v h nx, hs => satC_ok.1 hs
  | .no w, hs => (satC_no.1 hs).elim
  | .alt a b, hs => by
    obtain ⟨h0, h1, h2⟩ := satC_alt.1 hs
    exact sat_alt.2 ⟨h0, SatC.then h1, SatC.then h2⟩
end

/-! ## the forms -/
def Ev (P : Program) (orc : Orc) (s : Bool) (c : CC) (tm : Tm) (h : Hp) (nx : Nat) (K : KO') : Prop := ∃ n, Sat s (cexA P orc n none c tm h nx) K
def Cv (P : Program) (orc : Orc) (s : Bool) (f : FuncId) (args : List Value) (h : Hp) (nx : Nat) (K : KC') : Prop := ∃ n, SatC s (ccallA P orc (cexA P orc n) f args h nx) K
def Ov (P : Program) (orc : Orc) (s : Bool) (l : List CI) (tm : Tm) (h : Hp) (nx : Nat) (K : KS') : Prop := ∃ n, Sat s (cO P (ccallA P orc (cexA P orc n)) (roundA (exA P orc n)) l tm h nx) (fun _ tm h nx => K tm h nx)
def Dv (P : Program) (orc : Orc) (s : Bool) (l : List CI) (tm : Tm) (h : Hp) (nx : Nat) (b : Hp) (hs : List Hp) (K : KS') : Prop := ∃ n, Sat s (cD P (ccallA P orc (cexA P orc n)) (roundA (exA P orc n)) l tm h nx b hs) (fun _ tm h nx => K tm h nx)
section
variable {P : Program} {orc : Orc} {s : Bool}
theorem Ev.mono {c : CC} {tm : Tm} {h : Hp} {nx : Nat} {K K' : KO'} (he : Ev P orc s c tm h nx K) (hk : ∀ x tm h nx, K x tm h nx → K' x tm h nx) : Ev P orc s c tm h nx K' := by
  obtain ⟨n, hn⟩ := he; exact ⟨n, hn.mono hk⟩
theorem Cv.mono {f : FuncId} {args : List Value} {h : Hp} {nx : Nat} {K K' : KC'} (he : Cv P orc s f args h nx K) (hk : ∀ v h nx, K v h nx → K' v h nx) : Cv P orc s f args h nx K' := by
  obtain ⟨n, hn⟩ := he; exact ⟨n, hn.mono hk⟩
theorem Ov.mono {l : List CI} {tm : Tm} {h : Hp} {nx : Nat} {K K' : KS'} (he : Ov P orc s l tm h nx K) (hk : ∀ tm h nx, K tm h nx → K' tm h nx) : Ov P orc s l tm h nx K' := by
  obtain ⟨n, hn⟩ := he; exact ⟨n, hn.mono fun _ => hk⟩
theorem callLe {n m : Nat} (h : n ≤ m) : CallLe (ccallA P orc (cexA P orc n)) (ccallA P orc (cexA P orc m)) := ccallA_mono (cexA_mono h)
theorem roundLe {n m : Nat} (h : n ≤ m) : RoundLe (roundA (exA P orc n)) (roundA (exA P orc m)) := roundA_mono (exA_mono' h)

/-! ## code -/
theorem Ev.skip {tm : Tm} {h : Hp} {nx : Nat} {K : KO'} (hk : K .normal tm h nx) : Ev P orc s .skip tm h nx K := ⟨1, sat_ok.2 hk⟩
theorem Ev.exit {id : Nat} {tm : Tm} {h : Hp} {nx : Nat} {K : KO'} (hk : K (.exit id) tm h nx) : Ev P orc s (.exit id) tm h nx K := ⟨1, sat_ok.2 hk⟩
theorem Ev.ret {tm : Tm} {h : Hp} {nx : Nat} {K : KO'} (hk : K .ret tm h nx) : Ev P orc s .ret tm h nx K := ⟨1, sat_ok.2 hk⟩
theorem Ev.scope {c : CC} {tm : Tm} {h : Hp} {nx : Nat} {K : KO'} (he : Ev P orc s c tm h nx K) : Ev P orc s (.scope c) tm h nx K := by
  obtain ⟨n, hn⟩ := he; exact ⟨n + 1, hn⟩
/-- what follows upon a part -/
def nextK (N : KS') (K : KO') : KO' := fun x tm h nx => match x with
  | .normal => N tm h nx
  | x => K x tm h nx
theorem Ev.seq {a b : CC} {tm : Tm} {h : Hp} {nx : Nat} {K : KO'} (he : Ev P orc s a tm h nx (nextK (fun tm h nx => Ev P orc s b tm h nx K) K)) : Ev P orc s (.seq a b) tm h nx K := by
  obtain ⟨n, hn⟩ := he
  have h1 : Sat s (cexA P orc n none a tm h nx) (fun x tm h nx => ∃ m, Sat s (cAfter (cexA P orc m) none b x tm h nx) K) := hn.mono fun x tm h nx hk => by
    cases x with
    | normal => exact hk
    | exit i => exact ⟨0, sat_ok.2 hk⟩
    | ret => exact ⟨0, sat_ok.2 hk⟩
  obtain ⟨m, h2⟩ := Sat.unif (K := K) (fun n m x tm h nx hnm hk => by
    cases x with
    | normal => exact hk.up (cexA_mono hnm _ _ _ _ _)
    | exit i => exact hk
    | ret => exact hk) h1
  refine ⟨max n m + 1, ?_⟩
  show Sat s (outThen (cexA P orc (max n m) none a tm h nx) (cAfter (cexA P orc (max n m)) none b)) K
  refine Sat.then ((h2.up (cexA_mono (Nat.le_max_left n m) _ _ _ _ _)).mono fun x tm h nx hk => ?_)
  cases x with
  | normal => exact hk.up (cexA_mono (Nat.le_max_right n m) _ _ _ _ _)
  | exit i => exact hk
  | ret => exact hk
def blkK (id : Nat) (K : KO') : KO' := fun x tm h nx => match x with
  | .exit i => if i = id then K .normal tm h nx else K (.exit i) tm h nx
  | x => K x tm h nx
theorem Ev.block {id : Nat} {c : CC} {tm : Tm} {h : Hp} {nx : Nat} {K : KO'} (he : Ev P orc s c tm h nx (blkK id K)) : Ev P orc s (.block id c) tm h nx K := by
  obtain ⟨n, hn⟩ := he
  refine ⟨n + 1, Sat.then (hn.mono fun x tm h nx hk => ?_)⟩
  cases x with
  | normal => exact sat_ok.2 hk
  | ret => exact sat_ok.2 hk
  | exit i =>
    show Sat s (bif Nat.beq i id then _ else _) K
    have hk : if i = id then K .normal tm h nx else K (.exit i) tm h nx := hk
    by_cases e : i = id
    · rw [if_pos e] at hk
      rw [show Nat.beq i id = true by rw [e]; exact Nat.beq_refl id]
      exact sat_ok.2 hk
    · rw [if_neg e] at hk
      rw [show Nat.beq i id = false by
        cases hb : Nat.beq i id with
        | true => exact absurd (Nat.eq_of_beq_eq_true hb) e
        | false => rfl]
      exact sat_ok.2 hk
theorem Ev.cond {x : Co} {a b : CC} {tm : Tm} {h : Hp} {nx : Nat} {K : KO'} (t : Bool) (hx : cev tm x = .bool t) (ht : t = true → Ev P orc s a tm h nx K) (hf : t = false → Ev P orc s b tm h nx K) : Ev P orc s (.cond x a b) tm h nx K := by
  cases t with
  | true =>
    obtain ⟨n, hn⟩ := ht rfl
    refine ⟨n + 1, ?_⟩
    show Sat s (cCond (cexA P orc n) none a b tm h nx (cev tm x)) K
    rw [hx]; exact hn
  | false =>
    obtain ⟨n, hn⟩ := hf rfl
    refine ⟨n + 1, ?_⟩
    show Sat s (cCond (cexA P orc n) none a b tm h nx (cev tm x)) K
    rw [hx]; exact hn
theorem Ev.loop {c : CC} {K : KO'} (J : Nat → KS') (hj : ∀ m tm h nx, J m tm h nx → Ev P orc s c tm h nx (nextK (fun tm h nx => ∃ m', m' < m ∧ J m' tm h nx) K)) :
    ∀ m tm h nx, J m tm h nx → Ev P orc s (.loop c) tm h nx K := by
  intro m
  induction m using Nat.strongRecOn with
  | _ m ih =>
    intro tm h nx hJ
    have he := hj m tm h nx hJ
    have he : Ev P orc s c tm h nx (nextK (fun tm h nx => Ev P orc s (.loop c) tm h nx K) K) := he.mono fun x tm h nx hk => by
      cases x with
      | normal => obtain ⟨m', hlt, hJ'⟩ := hk; exact ih m' hlt tm h nx hJ'
      | exit i => exact hk
      | ret => exact hk
    obtain ⟨n, hn⟩ := Ev.seq he
    cases n with
    | zero => exact (sat_no.1 hn).elim
    | succ n => exact ⟨n + 1, hn⟩
theorem Ev.regO {l : List CI} {tm : Tm} {h : Hp} {nx : Nat} {K : KO'} (he : Ov P orc s l tm h nx (K .normal)) : Ev P orc s (.regO l) tm h nx K := by
  obtain ⟨n, hn⟩ := he
  refine ⟨n + 1, ?_⟩
  show Sat s (cO P _ _ l tm h nx) K
  have key : ∀ (l : List CI) (t : Out), (∃ tm h nx, t = cO P (ccallA P orc (cexA P orc n)) (roundA (exA P orc n)) l tm h nx) → Sat s t (fun _ => K .normal) → Sat s t (fun x tm h nx => x = .normal → K x tm h nx) := fun l t _ h => h.mono fun x tm h nx hk e => by rw [e]; exact hk
  have hnorm : ∀ (l : List CI) tm h nx, outSat (cO P (ccallA P orc (cexA P orc n)) (roundA (exA P orc n)) l tm h nx) (fun _ _ _ _ => True) → outSat (cO P (ccallA P orc (cexA P orc n)) (roundA (exA P orc n)) l tm h nx) (fun x _ _ _ => x = .normal) := by
    intro l
    induction l with
    | nil => intro tm h nx _; rfl
    | cons i is ih =>
      intro tm h nx
      show outSat (cOS P _ _ i _ tm h nx) _ → outSat (cOS P _ _ i _ tm h nx) _
      unfold cOS
      cases cwant tm i.g with
      | false => exact ih _ _ _
      | true =>
        cases i.k with
        | pur e =>
          show outSat (cO1 _ _ _ _ _ (cpur P tm e)) _ → outSat (cO1 _ _ _ _ _ (cpur P tm e)) _
          cases cpur P tm e with
          | no w => exact fun h => h
          | ok v => exact ih _ _ _
        | alc e =>
          show outSat (cO2 _ _ _ _ _ (calq P tm e)) _ → outSat (cO2 _ _ _ _ _ (calq P tm e)) _
          cases calq P tm e with
          | no w => exact fun h => h
          | ok v => exact ih _ _ _
        | red e =>
          show outSat (cO1 _ _ _ _ _ (cred P tm h e)) _ → outSat (cO1 _ _ _ _ _ (cred P tm h e)) _
          cases cred P tm h e with
          | no w => exact fun h => h
          | ok v => exact ih _ _ _
        | eff e =>
          show outSat (orDone _ _ _ i.d tm (ceff P tm h nx e)) _ → outSat (orDone _ _ _ i.d tm (ceff P tm h nx e)) _
          have cr : ∀ c : CR, outSat (crThen c (fun v h nx => cO P (ccallA P orc (cexA P orc n)) (roundA (exA P orc n)) is (putT tm i.d v) h nx)) (fun _ _ _ _ => True) → outSat (crThen c (fun v h nx => cO P (ccallA P orc (cexA P orc n)) (roundA (exA P orc n)) is (putT tm i.d v) h nx)) (fun x _ _ _ => x = .normal) := by
            intro c
            induction c with
            | ok v h nx => exact ih _ _ _
            | no w => exact fun h => h
            | alt a b iha ihb => exact fun h => ⟨iha h.1, ihb h.2⟩
          generalize ceff P tm h nx e = r
          induction r with
          | val v h nx => exact ih _ _ _
          | call f args h nx => exact cr _
          | round l args h nx => exact cr _
          | no w => exact fun h => h
          | alt a b iha ihb => exact fun h => ⟨iha h.1, ihb h.2⟩
  have h2 := hnorm l tm h nx (outSat.mono (fun _ _ _ _ _ => trivial) hn.1)
  refine ⟨?_, hn.2⟩
  have both : ∀ t : Out, outSat t (fun x _ _ _ => x = .normal) → outSat t (fun _ tm h nx => K .normal tm h nx) → outSat t K := by
    intro t
    induction t with
    | ok x tm h nx => intro h1 h2; cases h1; exact h2
    | no w => exact fun h _ => h
    | alt a b iha ihb => exact fun h1 h2 => ⟨iha h1.1 h2.1, ihb h1.2 h2.2⟩
  exact both _ h2 hn.1
end
end Go.Ax

/-! part AxE2 -/
namespace Go.Ax
open Go
set_option linter.unusedSimpArgs false
set_option linter.unusedVariables false
section
variable {P : Program} {orc : Orc} {s : Bool}

/-! ## operations, one after the other -/
def RK {α : Type} (r : R α) (k : α → Prop) : Prop := match r with
  | .ok v => k v
  | .no _ => False
@[simp] theorem RK_ok {α : Type} (v : α) (k : α → Prop) : RK (.ok v) k ↔ k v := Iff.rfl
@[simp] theorem RK_no {α : Type} (w : String) (k : α → Prop) : RK (.no w) k ↔ False := Iff.rfl
theorem RK_of {α : Type} {r : R α} {v : α} {k : α → Prop} (h : r = .ok v) : RK r k ↔ k v := by rw [h]; exact Iff.rfl
theorem exc {p : Prop} : (∃ _ : Nat, p) ↔ p := ⟨fun ⟨_, h⟩ => h, fun h => ⟨0, h⟩⟩
theorem Ov_nil {tm : Tm} {h : Hp} {nx : Nat} {K : KS'} : Ov P orc s [] tm h nx K ↔ K tm h nx := by
  unfold Ov
  show (∃ n : Nat, Sat s (.ok .normal tm h nx) _) ↔ _
  rw [exc, sat_ok]
theorem Ov_pur {d : Option Nat} {c : Nat} {e : CP} {is : List CI} {tm : Tm} {h : Hp} {nx : Nat} {K : KS'} : Ov P orc s (⟨none, d, c, .pur e⟩ :: is) tm h nx K ↔ RK (cpur P tm e) (fun v => Ov P orc s is (putT tm d v) h nx K) := by
  unfold Ov
  show (∃ n, Sat s (cO1 (cO P (ccallA P orc (cexA P orc n)) (roundA (exA P orc n)) is) d tm h nx (cpur P tm e)) _) ↔ _
  cases cpur P tm e with
  | ok v => exact Iff.rfl
  | no w => exact ⟨fun ⟨n, hn⟩ => sat_no.1 hn, fun h => h.elim⟩
theorem Ov_alc {d : Option Nat} {c : Nat} {e : CA} {is : List CI} {tm : Tm} {h : Hp} {nx : Nat} {K : KS'} : Ov P orc s (⟨none, d, c, .alc e⟩ :: is) tm h nx K ↔ RK (calq P tm e) (fun b => Ov P orc s is (putT tm d (nbV nx b)) (hset h nx (nbO b)) (nx + 1) K) := by
  unfold Ov
  show (∃ n, Sat s (cO2 (cO P (ccallA P orc (cexA P orc n)) (roundA (exA P orc n)) is) d tm h nx (calq P tm e)) _) ↔ _
  cases calq P tm e with
  | ok v => exact Iff.rfl
  | no w => exact ⟨fun ⟨n, hn⟩ => sat_no.1 hn, fun h => h.elim⟩
theorem Ov_red {d : Option Nat} {c : Nat} {e : CRd} {is : List CI} {tm : Tm} {h : Hp} {nx : Nat} {K : KS'} : Ov P orc s (⟨none, d, c, .red e⟩ :: is) tm h nx K ↔ RK (cred P tm h e) (fun v => Ov P orc s is (putT tm d v) h nx K) := by
  unfold Ov
  show (∃ n, Sat s (cO1 (cO P (ccallA P orc (cexA P orc n)) (roundA (exA P orc n)) is) d tm h nx (cred P tm h e)) _) ↔ _
  cases cred P tm h e with
  | ok v => exact Iff.rfl
  | no w => exact ⟨fun ⟨n, hn⟩ => sat_no.1 hn, fun h => h.elim⟩
theorem Ov_st {d : Option Nat} {c n : Nat} {a x : Co} {is : List CI} {tm : Tm} {h : Hp} {nx : Nat} {K : KS'} : Ov P orc s (⟨none, d, c, .eff (.st n a x)⟩ :: is) tm h nx K ↔ RK (addrR (cev tm a) (cSt h n (vcells (cev tm x)))) (fun h => Ov P orc s is (putT tm d undefV) h nx K) := by
  unfold Ov
  show (∃ m, Sat s (orDone (ccallA P orc (cexA P orc m)) (roundA (exA P orc m)) (cO P (ccallA P orc (cexA P orc m)) (roundA (exA P orc m)) is) d tm (uOf nx (addrR (cev tm a) (cSt h n (vcells (cev tm x)))))) _) ↔ _
  cases addrR (cev tm a) (cSt h n (vcells (cev tm x))) with
  | ok v => exact Iff.rfl
  | no w => exact ⟨fun ⟨n, hn⟩ => sat_no.1 hn, fun h => h.elim⟩
theorem Ov_eff {d : Option Nat} {c : Nat} {e : CE} {is : List CI} {tm : Tm} {h : Hp} {nx : Nat} {K : KS'} {v : Value} {h' : Hp} {nx' : Nat} (he : ceff P tm h nx e = .val v h' nx') : Ov P orc s (⟨none, d, c, .eff e⟩ :: is) tm h nx K ↔ Ov P orc s is (putT tm d v) h' nx' K := by
  unfold Ov
  show (∃ m, Sat s (orDone (ccallA P orc (cexA P orc m)) (roundA (exA P orc m)) (cO P (ccallA P orc (cexA P orc m)) (roundA (exA P orc m)) is) d tm (ceff P tm h nx e)) _) ↔ _
  rw [he]
  exact Iff.rfl
theorem Ov_call' {d : Option Nat} {c : Nat} {e : CE} {is : List CI} {tm : Tm} {h h1 : Hp} {nx nx1 : Nat} {K : KS'} {f : FuncId} {args : List Value} (hce : ceff P tm h nx e = .call f args h1 nx1)
    (hc : Cv P orc s f args h1 nx1 (fun v h nx => Ov P orc s is (putT tm d v) h nx K)) : Ov P orc s (⟨none, d, c, .eff e⟩ :: is) tm h nx K := by
  obtain ⟨n, hn⟩ := hc
  obtain ⟨m, h2⟩ := SatC.unif (k := fun m v h nx => Sat s (cO P (ccallA P orc (cexA P orc m)) (roundA (exA P orc m)) is (putT tm d v) h nx) (fun _ tm h nx => K tm h nx))
    (fun n m v h nx hnm hk => hk.up (cO_mono (callLe hnm) (roundLe hnm) _ _ _ _)) hn
  refine ⟨max n m, ?_⟩
  show Sat s (orDone _ _ (cO P (ccallA P orc (cexA P orc (max n m))) (roundA (exA P orc (max n m))) is) d tm (ceff P tm h nx e)) _
  rw [hce]
  show Sat s (crThen (ccallA P orc (cexA P orc (max n m)) f args h1 nx1) _) _
  exact SatC.then ((h2.up (callLe (Nat.le_max_left n m) _ _ _ _)).mono fun v h nx hk => hk.up (cO_mono (callLe (Nat.le_max_right n m)) (roundLe (Nat.le_max_right n m)) _ _ _ _))
theorem Ov_call {d : Option Nat} {c : Nat} {f : FuncId} {args : List Co} {is : List CI} {tm : Tm} {h : Hp} {nx : Nat} {K : KS'}
    (hc : Cv P orc s f (cevs tm args) h nx (fun v h nx => Ov P orc s is (putT tm d v) h nx K)) : Ov P orc s (⟨none, d, c, .eff (.call f args)⟩ :: is) tm h nx K := Ov_call' rfl hc
theorem cOS_g {call : CallF} {round : RoundF} {t : Nat} {b : Bool} {d : Option Nat} {c : Nat} {k : CK} {ih : Tm → Hp → Nat → Out} {tm : Tm} {h : Hp} {nx : Nat} :
    cOS P call round ⟨some (t, b), d, c, k⟩ ih tm h nx = if boolIs b (tget tm t) = true then cOS P call round ⟨none, d, c, k⟩ ih tm h nx else ih (putT tm d undefV) h nx := by
  unfold cOS
  have h1 : cwant tm (some (t, b)) = boolIs b (tget tm t) := rfl
  have h2 : cwant tm none = true := rfl
  simp only [h1, h2]
  cases boolIs b (tget tm t) <;> simp
theorem Ov_g {t : Nat} {b : Bool} {d : Option Nat} {c : Nat} {k : CK} {is : List CI} {tm : Tm} {h : Hp} {nx : Nat} {K : KS'} : Ov P orc s (⟨some (t, b), d, c, k⟩ :: is) tm h nx K ↔ if boolIs b (tget tm t) = true then Ov P orc s (⟨none, d, c, k⟩ :: is) tm h nx K else Ov P orc s is (putT tm d undefV) h nx K := by
  have : ∀ n, cO P (ccallA P orc (cexA P orc n)) (roundA (exA P orc n)) (⟨some (t, b), d, c, k⟩ :: is) tm h nx = if boolIs b (tget tm t) = true then cO P (ccallA P orc (cexA P orc n)) (roundA (exA P orc n)) (⟨none, d, c, k⟩ :: is) tm h nx else cO P (ccallA P orc (cexA P orc n)) (roundA (exA P orc n)) is (putT tm d undefV) h nx := fun n => cOS_g
  unfold Ov
  simp only [this]
  by_cases hb : boolIs b (tget tm t) = true <;> simp [hb]
/-- the next entry of a map: whichever it is -/
theorem Ov_nxt {d : Option Nat} {c : Nat} {x : Co} {is : List CI} {tm : Tm} {h : Hp} {nx : Nat} {K : KS'} {it r since st ck : Nat} {seen : List Nat} {es : List MapEntry}
    (hs : s = false) (hx : cev tm x = .pointer (some ⟨it, 0, none⟩)) (hi : hget h it = some (.iter (some r) since seen st)) (hm : hget h r = some (.map es ck)) (hn : nextOk seen es st = true)
    (hend : leftOf seen es = [] → Ov P orc s is (putT tm d (.tuple #[.bool false])) h nx K)
    (hgo : ∀ e ∈ leftOf seen es, e.born < since ∧ Ov P orc s is (putT tm d (.tuple #[.bool true, e.key, e.val])) (hset h it (.iter (some r) since (seen ++ [e.born]) ck)) nx K) :
    Ov P orc s (⟨none, d, c, .eff (.nxt x)⟩ :: is) tm h nx K := by
  have hce : ceff P tm h nx (.nxt x) = (match leftOf seen es with | [] => OR.val (.tuple #[.bool false]) h nx | l => nextAlt h nx it r since seen ck l) := by
    show oNext h nx (cev tm x) = _
    rw [hx]
    unfold oNext nextV
    simp only [show Nat.beq 0 0 = true from rfl, cond_true, hi, hm, hn]
    cases leftOf seen es <;> rfl
  cases hl : leftOf seen es with
  | nil =>
    rw [hl] at hce
    exact (Ov_eff hce).2 (hend hl)
  | cons e0 l0 =>
    rw [hl] at hce hgo
    have key : ∀ l : List MapEntry, l ≠ [] → (∀ e ∈ l, e.born < since ∧ Ov P orc s is (putT tm d (.tuple #[.bool true, e.key, e.val])) (hset h it (.iter (some r) since (seen ++ [e.born]) ck)) nx K) →
        ∃ n, Sat s (orDone (ccallA P orc (cexA P orc n)) (roundA (exA P orc n)) (cO P (ccallA P orc (cexA P orc n)) (roundA (exA P orc n)) is) d tm (nextAlt h nx it r since seen ck l)) (fun _ tm h nx => K tm h nx) := by
      intro l
      have one : ∀ e : MapEntry, (e.born < since ∧ Ov P orc s is (putT tm d (.tuple #[.bool true, e.key, e.val])) (hset h it (.iter (some r) since (seen ++ [e.born]) ck)) nx K) →
          ∃ n, Sat s (orDone (ccallA P orc (cexA P orc n)) (roundA (exA P orc n)) (cO P (ccallA P orc (cexA P orc n)) (roundA (exA P orc n)) is) d tm (next1 h nx it r since seen ck e)) (fun _ tm h nx => K tm h nx) := by
        intro e ⟨h1, n, hn⟩
        refine ⟨n, ?_⟩
        unfold next1
        rw [show Nat.blt e.born since = true by simpa [Nat.blt_eq] using h1, lapp_eq]
        exact hn
      induction l with
      | nil => intro h _; exact absurd rfl h
      | cons e l ih =>
        intro _ hl
        cases l with
        | nil => exact one e (hl e (by simp))
        | cons e1 l =>
          obtain ⟨n, h1⟩ := one e (hl e (by simp))
          obtain ⟨m, h2⟩ := ih (by simp) (fun e' he => hl e' (by simp at he ⊢; right; exact he))
          refine ⟨max n m, ?_⟩
          show Sat s (.alt _ _) _
          have up : ∀ a b r', a ≤ b → OLe (orDone (ccallA P orc (cexA P orc a)) (roundA (exA P orc a)) (cO P (ccallA P orc (cexA P orc a)) (roundA (exA P orc a)) is) d tm r') (orDone (ccallA P orc (cexA P orc b)) (roundA (exA P orc b)) (cO P (ccallA P orc (cexA P orc b)) (roundA (exA P orc b)) is) d tm r') :=
            fun a b r' hab => orDone_mono (callLe hab) (roundLe hab) (fun tm h nx => cO_mono (callLe hab) (roundLe hab) _ _ _ _) _ _ _
          exact sat_alt.2 ⟨hs, h1.up (up _ _ _ (Nat.le_max_left n m)), h2.up (up _ _ _ (Nat.le_max_right n m))⟩
    obtain ⟨n, hn⟩ := key (e0 :: l0) (by simp) hgo
    refine ⟨n, ?_⟩
    show Sat s (orDone _ _ (cO P (ccallA P orc (cexA P orc n)) (roundA (exA P orc n)) is) d tm (ceff P tm h nx (.nxt x))) _
    rw [hce]
    exact hn

/-! ## the same where the order is open -/
theorem Ev.regD {l : List CI} {tm : Tm} {h : Hp} {nx : Nat} {K : KO'} (he : Dv P orc s l tm h nx h [] (K .normal)) : Ev P orc s (.regD l) tm h nx K := by
  obtain ⟨n, hn⟩ := he
  refine ⟨n + 1, ?_⟩
  show Sat s (cD P _ _ l tm h nx h []) K
  have hnorm : ∀ (l : List CI) tm h nx b hs, outSat (cD P (ccallA P orc (cexA P orc n)) (roundA (exA P orc n)) l tm h nx b hs) (fun _ _ _ _ => True) → outSat (cD P (ccallA P orc (cexA P orc n)) (roundA (exA P orc n)) l tm h nx b hs) (fun x _ _ _ => x = .normal) := by
    intro l
    induction l with
    | nil => intro tm h nx b hs _; rfl
    | cons i is ih =>
      intro tm h nx b hs
      show outSat (cDS P _ _ i _ tm h nx b hs) _ → outSat (cDS P _ _ i _ tm h nx b hs) _
      unfold cDS
      cases cwant tm i.g with
      | false =>
        show outSat (Bool.casesOn (isEffC i.k) _ _) _ → outSat (Bool.casesOn (isEffC i.k) _ _) _
        cases isEffC i.k <;> exact ih _ _ _ _ _
      | true =>
        cases i.k with
        | pur e =>
          show outSat (cD1 _ _ _ _ _ _ _ (cpur P tm e)) _ → outSat (cD1 _ _ _ _ _ _ _ (cpur P tm e)) _
          cases cpur P tm e with
          | no w => exact fun h => h
          | ok v => exact ih _ _ _ _ _
        | alc e =>
          show outSat (cD2 _ _ _ _ _ _ _ (calq P tm e)) _ → outSat (cD2 _ _ _ _ _ _ _ (calq P tm e)) _
          cases calq P tm e with
          | no w => exact fun h => h
          | ok v => exact ih _ _ _ _ _
        | red e =>
          show outSat (cD3 P _ _ _ _ _ _ _ _ _ (cred P tm b e)) _ → outSat (cD3 P _ _ _ _ _ _ _ _ _ (cred P tm b e)) _
          cases cred P tm b e with
          | no w => exact fun h => h
          | ok v =>
            show outSat (bif cagree P tm e v i.c hs then _ else _) _ → outSat (bif cagree P tm e v i.c hs then _ else _) _
            cases cagree P tm e v i.c hs with
            | false => exact fun h => h
            | true => exact ih _ _ _ _ _
        | eff e =>
          show outSat (cD4 _ _ _ _ _ _ (crOf _ _ (ceff P tm h nx e))) _ → outSat (cD4 _ _ _ _ _ _ (crOf _ _ (ceff P tm h nx e))) _
          cases crOf (ccallA P orc (cexA P orc n)) (roundA (exA P orc n)) (ceff P tm h nx e) with
          | no w => exact fun h => h
          | alt _ _ => exact fun h => h
          | ok v h' nx' =>
            show outSat (bif Nat.ble nx nx' then _ else _) _ → outSat (bif Nat.ble nx nx' then _ else _) _
            cases Nat.ble nx nx' with
            | false => exact fun h => h
            | true => exact ih _ _ _ _ _
  have h2 := hnorm l tm h nx h [] (outSat.mono (fun _ _ _ _ _ => trivial) hn.1)
  refine ⟨?_, hn.2⟩
  have both : ∀ t : Out, outSat t (fun x _ _ _ => x = .normal) → outSat t (fun _ tm h nx => K .normal tm h nx) → outSat t K := by
    intro t
    induction t with
    | ok x tm h nx => intro h1 h2; cases h1; exact h2
    | no w => exact fun h _ => h
    | alt a b iha ihb => exact fun h1 h2 => ⟨iha h1.1 h2.1, ihb h1.2 h2.2⟩
  exact both _ h2 hn.1
theorem Dv_nil {tm : Tm} {h : Hp} {nx : Nat} {b : Hp} {hs : List Hp} {K : KS'} : Dv P orc s [] tm h nx b hs K ↔ K tm h nx := by
  unfold Dv
  show (∃ n : Nat, Sat s (.ok .normal tm h nx) _) ↔ _
  rw [exc, sat_ok]
theorem Dv_pur {d : Option Nat} {c : Nat} {e : CP} {is : List CI} {tm : Tm} {h : Hp} {nx : Nat} {b : Hp} {hs : List Hp} {K : KS'} : Dv P orc s (⟨none, d, c, .pur e⟩ :: is) tm h nx b hs K ↔ RK (cpur P tm e) (fun v => Dv P orc s is (putT tm d v) h nx b hs K) := by
  unfold Dv
  show (∃ n, Sat s (cD1 (cD P (ccallA P orc (cexA P orc n)) (roundA (exA P orc n)) is) d tm h nx b hs (cpur P tm e)) _) ↔ _
  cases cpur P tm e with
  | ok v => exact Iff.rfl
  | no w => exact ⟨fun ⟨n, hn⟩ => sat_no.1 hn, fun h => h.elim⟩
theorem Dv_alc {d : Option Nat} {c : Nat} {e : CA} {is : List CI} {tm : Tm} {h : Hp} {nx : Nat} {b : Hp} {hs : List Hp} {K : KS'} : Dv P orc s (⟨none, d, c, .alc e⟩ :: is) tm h nx b hs K ↔ RK (calq P tm e) (fun x => Dv P orc s is (putT tm d (nbV nx x)) (hset h nx (nbO x)) (nx + 1) b hs K) := by
  unfold Dv
  show (∃ n, Sat s (cD2 (cD P (ccallA P orc (cexA P orc n)) (roundA (exA P orc n)) is) d tm h nx b hs (calq P tm e)) _) ↔ _
  cases calq P tm e with
  | ok v => exact Iff.rfl
  | no w => exact ⟨fun ⟨n, hn⟩ => sat_no.1 hn, fun h => h.elim⟩
theorem Dv_red {d : Option Nat} {c : Nat} {e : CRd} {is : List CI} {tm : Tm} {h : Hp} {nx : Nat} {b : Hp} {hs : List Hp} {K : KS'} : Dv P orc s (⟨none, d, c, .red e⟩ :: is) tm h nx b hs K ↔ RK (cred P tm b e) (fun v => cagree P tm e v c hs = true ∧ Dv P orc s is (putT tm d v) h nx b hs K) := by
  unfold Dv
  show (∃ n, Sat s (cD3 P (cD P (ccallA P orc (cexA P orc n)) (roundA (exA P orc n)) is) d c e tm h nx b hs (cred P tm b e)) _) ↔ _
  cases cred P tm b e with
  | no w => exact ⟨fun ⟨n, hn⟩ => sat_no.1 hn, fun h => h.elim⟩
  | ok v =>
    show (∃ n, Sat s (bif cagree P tm e v c hs then _ else _) _) ↔ (cagree P tm e v c hs = true ∧ _)
    cases cagree P tm e v c hs with
    | true => simp
    | false => simp [sat_no]
theorem Dv_st {d : Option Nat} {c n : Nat} {a x : Co} {is : List CI} {tm : Tm} {h : Hp} {nx : Nat} {b : Hp} {hs : List Hp} {K : KS'} : Dv P orc s (⟨none, d, c, .eff (.st n a x)⟩ :: is) tm h nx b hs K ↔ RK (addrR (cev tm a) (cSt h n (vcells (cev tm x)))) (fun h => Dv P orc s is (putT tm d undefV) h nx h (b :: hs) K) := by
  unfold Dv
  show (∃ m, Sat s (cD4 (cD P (ccallA P orc (cexA P orc m)) (roundA (exA P orc m)) is) d tm nx b hs (crOf (ccallA P orc (cexA P orc m)) (roundA (exA P orc m)) (uOf nx (addrR (cev tm a) (cSt h n (vcells (cev tm x))))))) _) ↔ _
  cases addrR (cev tm a) (cSt h n (vcells (cev tm x))) with
  | no w => exact ⟨fun ⟨n, hn⟩ => sat_no.1 hn, fun h => h.elim⟩
  | ok v =>
    show (∃ m, Sat s (bif Nat.ble nx nx then _ else _) _) ↔ _
    rw [show Nat.ble nx nx = true by simp]
    exact Iff.rfl
theorem Dv_eff {d : Option Nat} {c : Nat} {e : CE} {is : List CI} {tm : Tm} {h : Hp} {nx : Nat} {b : Hp} {hs : List Hp} {K : KS'} {v : Value} {h' : Hp} {nx' : Nat} (he : ceff P tm h nx e = .val v h' nx') (hle : nx ≤ nx')
    (hk : Dv P orc s is (putT tm d v) h' nx' h' (b :: hs) K) : Dv P orc s (⟨none, d, c, .eff e⟩ :: is) tm h nx b hs K := by
  obtain ⟨m, hm⟩ := hk
  refine ⟨m, ?_⟩
  show Sat s (cD4 _ d tm nx b hs (crOf _ _ (ceff P tm h nx e))) _
  rw [he]
  show Sat s (bif Nat.ble nx nx' then _ else _) _
  rw [show Nat.ble nx nx' = true by simpa using hle]
  exact hm
theorem Dv_call' {d : Option Nat} {c : Nat} {e : CE} {is : List CI} {tm : Tm} {h h1 : Hp} {nx nx1 : Nat} {b : Hp} {hs : List Hp} {K : KS'} {f : FuncId} {args : List Value} (hce : ceff P tm h nx e = .call f args h1 nx1)
    (hc : Cv P orc true f args h1 nx1 (fun v h nx' => nx ≤ nx' ∧ Dv P orc s is (putT tm d v) h nx' h (b :: hs) K)) : Dv P orc s (⟨none, d, c, .eff e⟩ :: is) tm h nx b hs K := by
  obtain ⟨n, hn⟩ := hc
  obtain ⟨v, h', nx', he⟩ := hn.2 rfl
  rw [he] at hn
  obtain ⟨hle, m, hm⟩ := satC_ok.1 hn
  refine ⟨max n m, ?_⟩
  show Sat s (cD4 _ d tm nx b hs (crOf (ccallA P orc (cexA P orc (max n m))) (roundA (exA P orc (max n m))) (ceff P tm h nx e))) _
  rw [hce]
  show Sat s (cD4 _ d tm nx b hs (ccallA P orc (cexA P orc (max n m)) f args h1 nx1)) _
  have := callLe (P := P) (orc := orc) (Nat.le_max_left n m) f args h1 nx1
  rw [he] at this
  rw [this.ok_eq]
  show Sat s (bif Nat.ble nx nx' then _ else _) _
  rw [show Nat.ble nx nx' = true by simpa using hle]
  exact hm.up (cD_mono (callLe (Nat.le_max_right n m)) (roundLe (Nat.le_max_right n m)) _ _ _ _ _ _)
theorem Dv_call {d : Option Nat} {c : Nat} {f : FuncId} {args : List Co} {is : List CI} {tm : Tm} {h : Hp} {nx : Nat} {b : Hp} {hs : List Hp} {K : KS'}
    (hc : Cv P orc true f (cevs tm args) h nx (fun v h nx' => nx ≤ nx' ∧ Dv P orc s is (putT tm d v) h nx' h (b :: hs) K)) : Dv P orc s (⟨none, d, c, .eff (.call f args)⟩ :: is) tm h nx b hs K := Dv_call' rfl hc
theorem cDS_g {call : CallF} {round : RoundF} {t : Nat} {w : Bool} {d : Option Nat} {c : Nat} {k : CK} {ih : KD} {tm : Tm} {h : Hp} {nx : Nat} {b : Hp} {hs : List Hp} :
    cDS P call round ⟨some (t, w), d, c, k⟩ ih tm h nx b hs = if boolIs w (tget tm t) = true then cDS P call round ⟨none, d, c, k⟩ ih tm h nx b hs else (if isEffC k = true then ih (putT tm d undefV) h nx h (b :: hs) else ih (putT tm d undefV) h nx b hs) := by
  unfold cDS
  have h1 : cwant tm (some (t, w)) = boolIs w (tget tm t) := rfl
  have h2 : cwant tm none = true := rfl
  simp only [h1, h2]
  cases boolIs w (tget tm t) <;> cases isEffC k <;> simp
theorem Dv_g {t : Nat} {w : Bool} {d : Option Nat} {c : Nat} {k : CK} {is : List CI} {tm : Tm} {h : Hp} {nx : Nat} {b : Hp} {hs : List Hp} {K : KS'} : Dv P orc s (⟨some (t, w), d, c, k⟩ :: is) tm h nx b hs K ↔
    if boolIs w (tget tm t) = true then Dv P orc s (⟨none, d, c, k⟩ :: is) tm h nx b hs K else (if isEffC k = true then Dv P orc s is (putT tm d undefV) h nx h (b :: hs) K else Dv P orc s is (putT tm d undefV) h nx b hs K) := by
  have : ∀ n, cD P (ccallA P orc (cexA P orc n)) (roundA (exA P orc n)) (⟨some (t, w), d, c, k⟩ :: is) tm h nx b hs = if boolIs w (tget tm t) = true then cD P (ccallA P orc (cexA P orc n)) (roundA (exA P orc n)) (⟨none, d, c, k⟩ :: is) tm h nx b hs else (if isEffC k = true then cD P (ccallA P orc (cexA P orc n)) (roundA (exA P orc n)) is (putT tm d undefV) h nx h (b :: hs) else cD P (ccallA P orc (cexA P orc n)) (roundA (exA P orc n)) is (putT tm d undefV) h nx b hs) := fun n => cDS_g
  unfold Dv
  simp only [this]
  by_cases hb : boolIs w (tget tm t) = true <;> by_cases he : isEffC k = true <;> simp [hb, he]

/-! ## functions -/
def retV (l : List Value) : Value := match l with | [v] => v | l => .tuple ⟨l⟩
def retK (P : Program) (rs : List ResultVar) (K : KC') : KO' := fun x tm h nx => match x with
  | .exit _ => False
  | _ => RK (resVs P tm h rs) (fun l => K (retV l) h nx)
theorem Cv.enter {f : FuncId} {cf : CF} {args : List Value} {h : Hp} {nx : Nat} {K : KC'} (ho : orc f = none) (hc : compAt P f = some cf) (he : Ev P orc s cf.body (setArgs args 0 tm0) h nx (retK P cf.res K)) : Cv P orc s f args h nx K := by
  obtain ⟨n, hn⟩ := he
  refine ⟨n, ?_⟩
  unfold ccallA
  rw [ho]
  show SatC s (Option.casesOn (compAt P f) _ _) K
  rw [hc]
  show SatC s (retA P cf.res (cexA P orc n none cf.body (setArgs args 0 tm0) h nx)) K
  refine Sat.thenC (hn.mono fun x tm h nx hk => ?_)
  have key : RK (resVs P tm h cf.res) (fun l => K (retV l) h nx) → SatC s (resOf h nx (resVs P tm h cf.res)) K := fun hk => by
    cases hr : resVs P tm h cf.res with
    | no w => rw [hr] at hk; exact hk.elim
    | ok l =>
      rw [hr] at hk
      have hk : K (retV l) h nx := hk
      match l with
      | [] => exact satC_ok.2 hk
      | [v] => exact satC_ok.2 hk
      | v :: w :: l => exact satC_ok.2 hk
  cases x with
  | normal => exact key hk
  | exit i => exact hk.elim
  | ret => exact key hk
theorem Cv.byOrc {f : FuncId} {g : List Value → Hp → Nat → CR} {args : List Value} {h : Hp} {nx : Nat} {K : KC'} (ho : orc f = some g) {v : Value} {h' : Hp} {nx' : Nat} (hg : g args h nx = .ok v h' nx') (hk : K v h' nx') : Cv P orc s f args h nx K := by
  refine ⟨0, ?_⟩
  unfold ccallA
  rw [ho]
  show SatC s (g args h nx) K
  rw [hg]; exact satC_ok.2 hk
end
end Go.Ax

/-! part AxO -/
namespace Go.Ax
open Go
set_option linter.unusedSimpArgs false
set_option linter.unusedVariables false

/-! # what a call leaves may be named otherwise, or forgotten -/
section
variable {ρ ρ' : Rho}
mutual
theorem VR.back (hs : Sub ρ ρ') : ∀ {v c0 c : Value}, VR ρ v c0 → VR ρ' v c → VR ρ v c
  | _, _, _, .bool b, .bool _ => .bool b
  | _, _, _, .int k n, .int _ _ => .int k n
  | _, _, _, .string s, .string _ => .string s
  | _, _, _, .ptrNil, .ptrNil => .ptrNil
  | _, _, _, .ptr h, .ptr h' => by have e := hs _ _ h; rw [e] at h'; cases h'; exact .ptr h
  | _, _, _, .sliceNil l c, .sliceNil _ _ => .sliceNil l c
  | _, _, _, .sliceE h l c, .sliceE h' _ _ => by have e := hs _ _ h; rw [e] at h'; cases h'; exact .sliceE h l c
  | _, _, _, .sliceG h e0 l c, .sliceG h' e1 _ _ => by have e := hs _ _ h; rw [e] at h'; cases h'; exact .sliceG h e0 l c
  | _, _, _, .sliceZ b o g o' c, .sliceZ _ _ g2 o2 c2 => .sliceZ b o g2 o2 c2
  | _, _, _, .mapNil, .mapNil => .mapNil
  | _, _, _, .map h, .map h' => by have e := hs _ _ h; rw [e] at h'; cases h'; exact .map h
  | _, _, _, .nilFunc, .nilFunc => .nilFunc
  | _, _, _, .nilIface, .nilIface => .nilIface
  | _, _, _, .func f ha hb, .func _ ha' hb' => .func f (VRL.back hs ha ha') (VRL.back hs hb hb')
  | _, _, _, .yield h, .yield h' => by have e := hs _ _ h; rw [e] at h'; cases h'; exact .yield h
  | _, _, _, .iface t h, .iface _ h' => .iface t (VR.back hs h h')
  | _, _, _, .agg h, .agg h' => .agg (VRL.back hs h h')
  | _, _, _, .tuple h, .tuple h' => .tuple (VRL.back hs h h')
theorem VRL.back (hs : Sub ρ ρ') : ∀ {v c0 c : List Value}, VRL ρ v c0 → VRL ρ' v c → VRL ρ v c
  | _, _, _, .nil, .nil => .nil
  | _, _, _, .cons h t, .cons h' t' => .cons (VR.back hs h h') (VRL.back hs t t')
end
theorem CellsR.back (hs : Sub ρ ρ') {cs : List Value} {c c' : Array Value} {off : Nat} (h : CellsR ρ cs c off) (h' : CellsR ρ' cs c' off) : CellsR ρ cs c' off := fun i v e => by
  obtain ⟨_, _, h1⟩ := h i v e
  obtain ⟨v', e', h2⟩ := h' i v e
  exact ⟨v', e', VR.back hs h1 h2⟩
theorem EntR.back (hs : Sub ρ ρ') : ∀ {es es0 es' : List MapEntry}, EntR ρ es es0 → EntR ρ' es es' → EntR ρ es es'
  | _, _, _, .nil, .nil => .nil
  | _, _, _, .cons hk hv _ t, .cons hk' hv' hb' t' => .cons (VR.back hs hk hk') (VR.back hs hv hv') hb' (EntR.back hs t t')
theorem OptR.back (hs : Sub ρ ρ') {m m0 m' : Option Nat} (h : OptR ρ m m0) (h' : OptR ρ' m m') : OptR ρ m m' := by
  cases m with
  | none => cases m' <;> simp only [OptR] at *
  | some r =>
    cases m' with
    | none => simp only [OptR] at h'
    | some r' =>
      cases m0 with
      | none => simp only [OptR] at h
      | some r0 =>
        simp only [OptR] at h h' ⊢
        obtain ⟨q, hq, _⟩ := h
        obtain ⟨q', hq', e⟩ := h'
        rw [hs _ _ hq] at hq'; cases hq'
        exact ⟨q, hq, e⟩
theorem ObjR.back {B : Nat} (hs : Sub ρ ρ') {w w' : World} {p : Place} {o : AObj} (h : ObjR B ρ w p o) (h' : ObjR B ρ' w' p o) : ObjR B ρ w' p o := by
  cases o with
  | cells cs ro =>
    cases ro with
    | true =>
      obtain ⟨_, c, e, fr, _, h3⟩ := h
      obtain ⟨k1, c', e', fr', k2, k3⟩ := h'
      exact ⟨k1, c', e', fr', k2, h3.back hs k3⟩
    | false =>
      obtain ⟨_, _, c, e, lo, hi, _, _, h4, _⟩ := h
      obtain ⟨k1, k0, c', e', lo', hi', k2, k3, k4, k5⟩ := h'
      exact ⟨k1, k0, c', e', lo', hi', k2, k3, h4.back hs k4, k5⟩
  | map es ck =>
    obtain ⟨_, es', _, h3⟩ := h
    obtain ⟨k1, es2, k2, k3⟩ := h'
    exact ⟨k1, es2, k2, h3.back hs k3⟩
  | iter m since seen st =>
    obtain ⟨_, _, m', _, h3⟩ := h
    obtain ⟨k1, k0, m2, k2, k3⟩ := h'
    exact ⟨k1, k0, m2, k2, h3.back hs k3⟩
  | loop st pend tm ps a b =>
    obtain ⟨_, l, _, _, _, h5, _⟩ := h
    obtain ⟨k1, l2, k2, k3, k4, k5, k6⟩ := h'
    exact ⟨k1, l2, k2, k3, k4, fun d => VR.back hs (h5 d) (k5 d), k6⟩
end
section
variable {B : Nat} {ρ ρ' : Rho} {H H' : AH} {w w' : World} {nx nx' : Nat}
/-- what is new is forgotten -/
theorem Mv.forget (hr : Rel B ρ H w) (hf : Fr ρ nx) (hm : Mv B ρ H w nx nx' ρ' H' w') (hk : ∀ b o, H b = some o → H' b = some o) : Mv B ρ H w nx nx ρ H w' where
  rel := {
    base := Nat.le_trans hr.base hm.size
    obj := fun b p o hb ho => (hr.obj b p o hb ho).back (hf.sub hm) (hm.rel.obj b p o (hf.sub hm b p hb) (hk b o ho))
    inj := hr.inj
    dom := hr.dom }
  agree := fun _ _ => rfl
  size := hm.size
  os := hm.os
  tape := hm.tape
  output := hm.output
  frame := hm.frame
  own := fun k h => .inl h
  le := Nat.le_refl _
/-- one new block keeps a name -/
theorem Mv.keepOne (hr : Rel B ρ H w) (hf : Fr ρ nx) (hm : Mv B ρ H w nx nx' ρ' H' w') (hk : ∀ b o, H b = some o → H' b = some o) {b : Nat} {p : Place} {o : AObj} (hb : nx ≤ b) (hp : ρ' b = some p) (ho : H' b = some o)
    (hob : ObjR B (fun k => if k = nx then some p else ρ k) w' p o) : Mv B ρ H w nx (nx + 1) (fun k => if k = nx then some p else ρ k) (fun k => if k = nx then some o else H k) w' := by
  have hsub : Sub ρ (fun k => if k = nx then some p else ρ k) := fun k q hq => by
    by_cases e : k = nx
    · rw [e, hf.here] at hq; cases hq
    · simp [e, hq]
  have hlt : ∀ k, (H k).isSome → k < nx := fun k hs => by
    rcases Nat.lt_or_ge k nx with h | h
    · exact h
    · have := hr.dom k hs; rw [hf k h] at this; cases this
  refine ⟨⟨Nat.le_trans hr.base hm.size, fun k q x hq hx => ?_, fun k k' q q' hq hq' hs hs' hB he => ?_, fun k hs => ?_⟩, fun k hk => ?_, hm.size, hm.os, hm.tape, hm.output, hm.frame, fun k h => ?_, Nat.le_succ _⟩
  · by_cases e : k = nx
    · simp only [e, if_true] at hq hx
      cases hq; cases hx; exact hob
    · simp only [e, if_false] at hq hx
      exact ((hr.obj k q x hq hx).back (hf.sub hm) (hm.rel.obj k q x (hf.sub hm k q hq) (hk k x hx))).mono hsub rfl
  · by_cases e : k = nx
    · by_cases e' : k' = nx
      · rw [e, e']
      · exfalso
        simp only [e, if_true] at hq
        simp only [e', if_false] at hq' hs'
        cases hq
        have hs2 : (H' k').isSome := by
          obtain ⟨x, hx⟩ := Option.isSome_iff_exists.1 hs'
          rw [hk k' x hx]; rfl
        have := hm.rel.inj b k' p q' hp (hf.sub hm k' q' hq') (by rw [ho]; rfl) hs2 hB he
        have := hlt k' hs'
        omega
    · by_cases e' : k' = nx
      · exfalso
        simp only [e', if_true] at hq'
        simp only [e, if_false] at hq hs
        cases hq'
        have hs2 : (H' k).isSome := by
          obtain ⟨x, hx⟩ := Option.isSome_iff_exists.1 hs
          rw [hk k x hx]; rfl
        have := hm.rel.inj k b q p (hf.sub hm k q hq) hp hs2 (by rw [ho]; rfl) hB he
        have := hlt k hs
        omega
      · simp only [e, if_false] at hq hs
        simp only [e', if_false] at hq' hs'
        exact hr.inj k k' q q' hq hq' hs hs' hB he
  · by_cases e : k = nx
    · simp [e]
    · simp only [e, if_false] at hs ⊢
      exact hr.dom k hs
  · rw [if_neg (by omega)]
  · obtain ⟨k', q, hq, hs, rfl, hB⟩ := h
    by_cases e : k' = nx
    · simp only [e, if_true] at hq
      cases hq
      rcases hm.own p.blk ⟨b, p, hp, by rw [ho]; rfl, rfl, hB⟩ with ⟨k2, q2, h1, h2, h3, h4⟩ | h
      · exact .inl ⟨k2, q2, h1, h2, h3, h4⟩
      · exact .inr h
    · simp only [e, if_false] at hq hs
      exact .inl ⟨k', q, hq, hs, rfl, hB⟩
end
section
variable {P : Program} {orc0 : Orc}
theorem Rel.fresh {B : Nat} {ρ : Rho} {H : AH} {w : World} {nx : Nat} (hr : Rel B ρ H w) (hf : Fr ρ nx) : ∀ b, nx ≤ b → H b = none := fun b hb => by
  cases hh : H b with
  | none => rfl
  | some o =>
    have := hr.dom b (by rw [hh]; rfl)
    rw [hf b hb] at this; cases this
theorem callable_of (hP : POk P) {f : FuncId} {cf : CF} (h : compAt P f = some cf) : Callable P f := by
  unfold compAt at h
  rw [lget_eq] at h
  have hto : P.funcs.toList[f]? = P.funcs[f]? := by simp
  rw [hto] at h
  cases hfn : P.funcs[f]? with
  | none => rw [hfn] at h; cases h
  | some fn =>
    rw [hfn] at h
    cases hb : fn.body with
    | none => simp only [hb] at h; cases h
    | some c => exact ⟨fn, hfn, by rw [hb]; rfl, hP.names f fn hfn⟩
/-- a call whose every end is the same plain value, with all blocks as they were -/
theorem orc_plain (hP : POk P) (h0 : OrcOk P orc0) {f : FuncId} (hcal : Callable P f) {args : List Value} {h : Hp} {nx : Nat} {v : Value} (hv : constV v = true)
    (hc : (∀ b, nx ≤ b → hget h b = none) → Cv P orc0 false f args h nx (fun v' h' _ => v' = v ∧ ∀ b o, hget h b = some o → hget h' b = some o)) {K : Value → Hp → Nat → Prop} (hK : K v h nx) :
    Callable P f ∧ ∀ (B : Nat) (ρ : Rho) (w : World) (args' : List Value), Rel B ρ (hget h) w → Fr ρ nx → VRL ρ args args' → ∀ n, CallsIn Fence.wide n P f ⟨args'⟩ w (Fin B ρ h w nx K) := by
  refine ⟨hcal, fun B ρ w args' hr hf ha n => ?_⟩
  obtain ⟨N, hN⟩ := hc (hr.fresh hf)
  have hs := (ccall_ok (P := P) (orc := orc0) N f args h nx).sat hN.1
  obtain ⟨h1, h2⟩ := callA_ok hP h0 N f args h nx _ hs
  refine (h2 B ρ w args' hr hf ha n).mono fun e w' he => ?_
  obtain ⟨v', h', nx', ρ', c, rfl, ⟨rfl, hk⟩, hvc, hm⟩ := he
  exact ⟨v', h, nx, ρ, c, rfl, hK, VR.back (hf.sub hm) (constV_self hv ρ) hvc, hm.forget hr hf hk⟩
/-- a call whose every end is one and the same list of plain cells in a new block -/
theorem orc_slice (hP : POk P) (h0 : OrcOk P orc0) {f : FuncId} {args : List Value} {h : Hp} {nx : Nat} {val : Nat → Value} {cs : List Value} (hcs : plainL cs = true) (hcal : Callable P f)
    (hval : ∀ (ρ ρ' : Rho) (b : Nat) (p : Place) (c : Value), ρ' b = some p → ρ nx = some p → VR ρ' (val b) c → VR ρ (val nx) c)
    (hc : (∀ b, nx ≤ b → hget h b = none) → Cv P orc0 false f args h nx (fun v' h' _ => ∃ b, v' = val b ∧ nx ≤ b ∧ hget h' b = some (.cells cs false) ∧ ∀ b o, hget h b = some o → hget h' b = some o)) {K : Value → Hp → Nat → Prop} (hK : K (val nx) (hset h nx (.cells cs false)) (nx + 1)) :
    Callable P f ∧ ∀ (B : Nat) (ρ : Rho) (w : World) (args' : List Value), Rel B ρ (hget h) w → Fr ρ nx → VRL ρ args args' → ∀ n, CallsIn Fence.wide n P f ⟨args'⟩ w (Fin B ρ h w nx K) := by
  refine ⟨hcal, fun B ρ w args' hr hf ha n => ?_⟩
  obtain ⟨N, hN⟩ := hc (hr.fresh hf)
  have hs := (ccall_ok (P := P) (orc := orc0) N f args h nx).sat hN.1
  obtain ⟨h1, h2⟩ := callA_ok hP h0 N f args h nx _ hs
  refine (h2 B ρ w args' hr hf ha n).mono fun e w' he => ?_
  obtain ⟨v', h', nx', ρ', c, rfl, ⟨b, rfl, hb, hob, hk⟩, hvc, hm⟩ := he
  have hdom := hm.rel.dom b (by rw [hob]; rfl)
  obtain ⟨p, hp⟩ := Option.isSome_iff_exists.1 hdom
  have hplain : ∀ ρ1 ρ2 : Rho, ∀ (l : List Value), plainL l = true → ∀ (c : Array Value) (off : Nat), CellsR ρ1 l c off → CellsR ρ2 l c off := fun ρ1 ρ2 l hl c off hc i x hx => by
    obtain ⟨x', e, hv⟩ := hc i x hx
    refine ⟨x', e, ?_⟩
    have hpl : plainV x = true := by
      have : ∀ (l : List Value), plainL l = true → ∀ x ∈ l, plainV x = true := by
        intro l
        induction l with
        | nil => intro _ x hx; cases hx
        | cons y l ih =>
          intro h x hx
          have h : (plainV y && plainL l) = true := h
          simp only [Bool.and_eq_true] at h
          rcases List.mem_cons.1 hx with rfl | hx
          · exact h.1
          · exact ih h.2 x hx
      exact this l hl x (List.mem_of_getElem? hx)
    rw [plainV_eq hpl hv]
    exact plainV_self hpl ρ2
  have hm2 := hm.keepOne hr hf hk hb hp hob (o := .cells cs false) (by
    obtain ⟨k1, k0, c', e', lo', hi', k2, k3, k4, k5⟩ := hm.rel.obj b p _ hp hob
    exact ⟨k1, k0, c', e', lo', hi', k2, k3, hplain _ _ cs hcs _ _ k4, k5⟩)
  refine ⟨val nx, hset h nx (.cells cs false), nx + 1, (fun k => if k = nx then some p else ρ k), c, rfl, hK, hval _ ρ' b p c hp (if_pos rfl) hvc, ?_⟩
  have : hget (hset h nx (.cells cs false)) = (fun k => if k = nx then some (AObj.cells cs false) else hget h k) := funext fun k => hget_hset h nx _ k
  rw [this]
  exact hm2
end
end Go.Ax

/-! part AxF -/
namespace Go.Ax
open Go
set_option linter.unusedSimpArgs false
set_option linter.unusedVariables false

/-! # for simp: what operations come to -/
section
variable {P : Program} {orc : Orc} {s : Bool}
@[simp] theorem cev_t (tm : Tm) (n : Nat) : cev tm (.t n) = tget tm n := rfl
@[simp] theorem cev_v (tm : Tm) (x : Value) : cev tm (.v x) = x := rfl
@[simp] theorem cevs_nil (tm : Tm) : cevs tm [] = [] := rfl
@[simp] theorem cevs_cons (tm : Tm) (x : Co) (l : List Co) : cevs tm (x :: l) = cev tm x :: cevs tm l := rfl
@[simp] theorem putT_some (tm : Tm) (d : Nat) (v : Value) : putT tm (some d) v = tset tm d v := rfl
@[simp] theorem putT_none (tm : Tm) (v : Value) : putT tm none v = tm := rfl
@[simp] theorem tgs (tm : Tm) (t : Nat) (v : Value) (k : Nat) : tget (tset tm t v) k = if k = t then v else tget tm k := tget_tset tm t v k
@[simp] theorem hgs (h : Hp) (b : Nat) (o : AObj) (k : Nat) : hget (hset h b o) k = if k = b then some o else hget h k := hget_hset h b o k
@[simp] theorem setArgs_nil (i : Nat) (tm : Tm) : setArgs [] i tm = tm := rfl
@[simp] theorem setArgs_cons (v : Value) (l : List Value) (i : Nat) (tm : Tm) : setArgs (v :: l) i tm = setArgs l (i + 1) (tset tm i v) := rfl
@[simp] theorem nextK_normal (N : KS') (K : KO') (tm : Tm) (h : Hp) (nx : Nat) : nextK N K .normal tm h nx ↔ N tm h nx := Iff.rfl
@[simp] theorem nextK_exit (N : KS') (K : KO') (i : Nat) (tm : Tm) (h : Hp) (nx : Nat) : nextK N K (.exit i) tm h nx ↔ K (.exit i) tm h nx := Iff.rfl
@[simp] theorem nextK_ret (N : KS') (K : KO') (tm : Tm) (h : Hp) (nx : Nat) : nextK N K .ret tm h nx ↔ K .ret tm h nx := Iff.rfl
@[simp] theorem blkK_normal (id : Nat) (K : KO') (tm : Tm) (h : Hp) (nx : Nat) : blkK id K .normal tm h nx ↔ K .normal tm h nx := Iff.rfl
@[simp] theorem blkK_ret (id : Nat) (K : KO') (tm : Tm) (h : Hp) (nx : Nat) : blkK id K .ret tm h nx ↔ K .ret tm h nx := Iff.rfl
@[simp] theorem blkK_exit (id i : Nat) (K : KO') (tm : Tm) (h : Hp) (nx : Nat) : blkK id K (.exit i) tm h nx ↔ if i = id then K .normal tm h nx else K (.exit i) tm h nx := Iff.rfl
@[simp] theorem retK_normal (rs : List ResultVar) (K : KC') (tm : Tm) (h : Hp) (nx : Nat) : retK P rs K .normal tm h nx ↔ RK (resVs P tm h rs) (fun l => K (retV l) h nx) := Iff.rfl
@[simp] theorem retK_ret (rs : List ResultVar) (K : KC') (tm : Tm) (h : Hp) (nx : Nat) : retK P rs K .ret tm h nx ↔ RK (resVs P tm h rs) (fun l => K (retV l) h nx) := Iff.rfl
@[simp] theorem resVs_nil (tm : Tm) (h : Hp) : resVs P tm h [] = .ok [] := rfl
@[simp] theorem resVs_tmp (tm : Tm) (h : Hp) (t : Nat) (rs : List ResultVar) : resVs P tm h (.tmp t :: rs) = R.bind (resVs P tm h rs) (fun vs => .ok (tget tm t :: vs)) := rfl
@[simp] theorem bind_ok {α β : Type} (x : α) (f : α → R β) : R.bind (.ok x) f = f x := rfl
@[simp] theorem bind_no {α β : Type} (w : String) (f : α → R β) : R.bind (.no w) f = .no w := rfl
@[simp] theorem of_some {α β : Type} (w : String) (x : α) (f : α → R β) : R.of w (some x) f = f x := rfl
@[simp] theorem of_none {α β : Type} (w : String) (f : α → R β) : R.of w none f = .no w := rfl
@[simp] theorem retV_one (v : Value) : retV [v] = v := rfl
@[simp] theorem retV_two (v w : Value) (l : List Value) : retV (v :: w :: l) = .tuple ⟨v :: w :: l⟩ := rfl

@[simp] theorem c_mv (tm : Tm) (x : Co) : cpur P tm (.mv x) = .ok (cev tm x) := rfl
@[simp] theorem c_bin (tm : Tm) (op : BinOp) (t : TypeId) (x y : Co) : cpur P tm (.bin op t x y) = bin P op t (cev tm x) (cev tm y) := rfl
@[simp] theorem c_un (tm : Tm) (op : UnOp) (x : Co) : cpur P tm (.un op x) = oUn op (cev tm x) := rfl
@[simp] theorem c_conv (tm : Tm) (d : TypeDesc) (x : Co) : cpur P tm (.conv d x) = oConv d (cev tm x) := rfl
@[simp] theorem c_pick (tm : Tm) (c a b : Co) : cpur P tm (.pick c a b) = cPick tm a b (cev tm c) := rfl
@[simp] theorem cPick_bool (tm : Tm) (a b : Co) (t : Bool) : cPick tm a b (.bool t) = .ok (if t = true then cev tm a else cev tm b) := by cases t <;> rfl
@[simp] theorem c_fld (tm : Tm) (off : Nat) (ag : Option Nat) (x : Co) : cpur P tm (.fld off ag x) = cFld off ag (cev tm x) := rfl
@[simp] theorem cFld_agg (off : Nat) (ag : Option Nat) (l : List Value) : cFld off ag (.agg ⟨l⟩) = loadC ag off l := rfl
@[simp] theorem c_fldA (tm : Tm) (off : Nat) (x : Co) : cpur P tm (.fldA off x) = addrR (cev tm x) (fun a => .ok (moveA a off)) := rfl
@[simp] theorem addrR_ptr {β : Type} (a : Addr) (k : Addr → R β) : addrR (.pointer (some a)) k = k a := rfl
@[simp] theorem moveA_eq (b o : Nat) (sp : Option Nat) (n : Nat) : moveA ⟨b, o, sp⟩ n = .pointer (some ⟨b, o + n, none⟩) := rfl
@[simp] theorem c_nilc (tm : Tm) (x : Co) : cpur P tm (.nilc x) = nilChk (cev tm x) := rfl
@[simp] theorem nilChk_ptr (a : Addr) : nilChk (.pointer (some a)) = .ok (.pointer (some a)) := rfl
@[simp] theorem c_ext (tm : Tm) (x : Co) (i : Nat) : cpur P tm (.ext x i) = oExtract (cev tm x) i := rfl
@[simp] theorem oExtract_tuple (l : List Value) (i : Nat) : oExtract (.tuple ⟨l⟩) i = R.of "extract" (l[i]?) (fun v => .ok v) := by show R.of "extract" (lget l i) _ = _; rw [lget_eq]
@[simp] theorem c_ixA (tm : Tm) (k : IxT) (x i : Co) : cpur P tm (.ixA k x i) = natR (cev tm i) (fun i => oIndexAddr k (cev tm x) i) := rfl
@[simp] theorem natR_nat {β : Type} (k : IntKind) (n : Nat) (f : Nat → R β) : natR (.int k (n : Int)) f = f n := rfl
@[simp] theorem natR_ofNat {β : Type} (k : IntKind) (n : Nat) (f : Nat → R β) : natR (.int k (.ofNat n)) f = f n := rfl
@[simp] theorem natR_lit {β : Type} (k : IntKind) (n : Nat) (f : Nat → R β) : natR (.int k (OfNat.ofNat n : Int)) f = f n := rfl
@[simp] theorem natR_zero {β : Type} (k : IntKind) (f : Nat → R β) : natR (.int k 0) f = f 0 := rfl
@[simp] theorem natR_one {β : Type} (k : IntKind) (f : Nat → R β) : natR (.int k 1) f = f 1 := rfl
@[simp] theorem oIx_slice (s : Nat) (b o : Nat) (sp : Option Nat) (len cap i : Nat) : oIndexAddr (.slice s) (.slice (some ⟨b, o, sp⟩) len cap) i = if i < len then .ok (.pointer (some ⟨b, o + i * s, none⟩)) else .no "index" := by
  show (bif Nat.blt i len then _ else _) = _
  rw [blt_dec]
  by_cases h : i < len <;> simp [h] <;> rfl
@[simp] theorem oIx_array (n s : Nat) (b o : Nat) (sp : Option Nat) (i : Nat) : oIndexAddr (.array n s) (.pointer (some ⟨b, o, sp⟩)) i = if i < n then .ok (.pointer (some ⟨b, o + i * s, none⟩)) else .no "index" := by
  show (bif Nat.blt i n then _ else _) = _
  rw [blt_dec]
  by_cases h : i < n <;> simp [h] <;> rfl
theorem bin_i (op : BinOp) (t : TypeId) (k : IntKind) (a b : Int) (hs : isShift op = false) : bin P op t (.int k a) (.int k b) = iOp op k a b := bin_int hs (keq_self k)
@[simp] theorem bin_add (t : TypeId) (k : IntKind) (a b : Int) : bin P .add t (.int k a) (.int k b) = .ok (.int k (k.wrap (a + b))) := by rw [bin_i _ _ _ _ _ rfl, ← fwrap_eq]; rfl
@[simp] theorem bin_sub (t : TypeId) (k : IntKind) (a b : Int) : bin P .sub t (.int k a) (.int k b) = .ok (.int k (k.wrap (a - b))) := by rw [bin_i _ _ _ _ _ rfl, ← fwrap_eq]; rfl
@[simp] theorem bin_lss (t : TypeId) (k : IntKind) (a b : Int) : bin P .lss t (.int k a) (.int k b) = .ok (.bool (decide (a < b))) := by rw [bin_i _ _ _ _ _ rfl, ← iblt_dec]; rfl
@[simp] theorem bin_leq (t : TypeId) (k : IntKind) (a b : Int) : bin P .leq t (.int k a) (.int k b) = .ok (.bool (!decide (b < a))) := by rw [bin_i _ _ _ _ _ rfl, ← iblt_dec]; rfl
@[simp] theorem bin_gtr (t : TypeId) (k : IntKind) (a b : Int) : bin P .gtr t (.int k a) (.int k b) = .ok (.bool (decide (b < a))) := by rw [bin_i _ _ _ _ _ rfl, ← iblt_dec]; rfl
@[simp] theorem bin_geq (t : TypeId) (k : IntKind) (a b : Int) : bin P .geq t (.int k a) (.int k b) = .ok (.bool (!decide (a < b))) := by rw [bin_i _ _ _ _ _ rfl, ← iblt_dec]; rfl
@[simp] theorem bin_eql (t : TypeId) (k : IntKind) (a b : Int) : bin P .eql t (.int k a) (.int k b) = .ok (.bool (a == b)) := by rw [bin_i _ _ _ _ _ rfl, ← ieq_beq]; rfl
@[simp] theorem bin_neq (t : TypeId) (k : IntKind) (a b : Int) : bin P .neq t (.int k a) (.int k b) = .ok (.bool (!(a == b))) := by rw [bin_i _ _ _ _ _ rfl, ← ieq_beq]; rfl
@[simp] theorem un_not (b : Bool) : oUn .not (.bool b) = .ok (.bool (!b)) := rfl
@[simp] theorem conv_int (k k' : IntKind) (n : Int) : oConv (.int k') (.int k n) = .ok (.int k' (k'.wrap n)) := by rw [← fwrap_eq]; rfl
theorem bin_ptr_nil {t : TypeId} {x : Addr} (ht : isPtrTy P t = true) (a : Option Addr) : bin P .eql t (.pointer (some x)) (.pointer none) = .ok (.bool false) := by
  show R.of "compared" (eqlV P t (.pointer (some x)) (.pointer none)) _ = _
  unfold eqlV
  simp [ht, eqlP, rBool]
theorem bin_ptr_neq {t : TypeId} {x : Addr} (ht : isPtrTy P t = true) : bin P .neq t (.pointer (some x)) (.pointer none) = .ok (.bool true) := by
  show R.of "compared" (eqlV P t (.pointer (some x)) (.pointer none)) _ = _
  unfold eqlV
  simp [ht, eqlP, rBool]
theorem bin_ptr_eql {t : TypeId} {x : Addr} (ht : isPtrTy P t = true) : bin P .eql t (.pointer (some x)) (.pointer none) = .ok (.bool false) := by
  show R.of "compared" (eqlV P t (.pointer (some x)) (.pointer none)) _ = _
  unfold eqlV
  simp [ht, eqlP, rBool]

/-! memory -/
@[simp] theorem c_ld (tm : Tm) (h : Hp) (ag : Option Nat) (x : Co) : cred P tm h (.ld ag x) = addrR (cev tm x) (fun a => cellsOf h a.block (fun cs _ => loadC ag a.off cs)) := rfl
@[simp] theorem c_lens (tm : Tm) (h : Hp) (x : Co) : cred P tm h (.lens x) = lenS (cev tm x) := rfl
@[simp] theorem lenS_slice (a : Option Addr) (n c : Nat) : lenS (.slice a n c) = .ok (.int .i64 (n : Int)) := rfl
@[simp] theorem c_entry (tm : Tm) (h : Hp) (x : Co) : cred P tm h (.entry x) = oEntry h (cev tm x) := rfl
theorem cellsOf_some {β : Type} {h : Hp} {b : Nat} {cs : List Value} {ro : Bool} (hh : hget h b = some (.cells cs ro)) (k : List Value → Bool → R β) : cellsOf h b k = k cs ro := by unfold cellsOf; rw [hh]
@[simp] theorem loadC_one (off : Nat) (cs : List Value) : loadC none off cs = ofGet (cs[off]?) := by show ofGet (lget cs off) = _; rw [lget_eq]
@[simp] theorem ofGet_some (v : Value) : ofGet (some v) = .ok v := rfl
@[simp] theorem ofGet_none : ofGet none = .no "load - out of block" := rfl
@[simp] theorem loadC_many (n off : Nat) (cs : List Value) : loadC (some n) off cs = if n ≤ cs.length - off then .ok (.agg ⟨(cs.drop off).take n⟩) else .no "load - out of block" := by
  show ofCut (lcut n (ldrop cs off)) = _
  rw [ldrop_eq, lcut_eq, List.length_drop]
  by_cases h : n ≤ cs.length - off <;> simp [h, ofCut]
end

/-! # an entry that is next -/
def Rising : List MapEntry → Prop := List.Pairwise (fun a b => a.born < b.born)
theorem any_beq (seen : List Nat) (b : Nat) : seen.any (Nat.beq b) = decide (b ∈ seen) := by
  rw [Bool.eq_iff_iff, List.any_eq_true]
  simp only [decide_eq_true_eq]
  constructor
  · rintro ⟨x, h1, h2⟩; rw [Nat.eq_of_beq_eq_true h2]; exact h1
  · intro h; exact ⟨b, h, Nat.beq_refl b⟩
theorem leftOf_cons (seen : List Nat) (e : MapEntry) (es : List MapEntry) : leftOf seen (e :: es) = if e.born ∈ seen then leftOf seen es else e :: leftOf seen es := by
  show (bif seen.any (Nat.beq e.born) then _ else _) = _
  rw [any_beq]
  by_cases h : e.born ∈ seen <;> simp [h]
theorem leftOf_nil_seen : ∀ (es : List MapEntry), leftOf [] es = es
  | [] => rfl
  | e :: es => by rw [leftOf_cons]; simp [leftOf_nil_seen es]
theorem leftOf_mem {seen : List Nat} : ∀ {es : List MapEntry} {e : MapEntry}, e ∈ leftOf seen es → e ∈ es ∧ e.born ∉ seen
  | [], e, h => by cases h
  | x :: es, e, h => by
    rw [leftOf_cons] at h
    by_cases hb : x.born ∈ seen
    · rw [if_pos hb] at h
      obtain ⟨h1, h2⟩ := leftOf_mem h
      exact ⟨List.mem_cons_of_mem _ h1, h2⟩
    · rw [if_neg hb] at h
      rcases List.mem_cons.1 h with rfl | h
      · exact ⟨List.mem_cons_self .., hb⟩
      · obtain ⟨h1, h2⟩ := leftOf_mem h
        exact ⟨List.mem_cons_of_mem _ h1, h2⟩
theorem leftOf_other {seen : List Nat} {b : Nat} : ∀ {es : List MapEntry}, (∀ e ∈ es, e.born ≠ b) → leftOf (seen ++ [b]) es = leftOf seen es
  | [], _ => rfl
  | x :: es, h => by
    rw [leftOf_cons, leftOf_cons, leftOf_other fun e he => h e (List.mem_cons_of_mem _ he)]
    have hx := h x (List.mem_cons_self ..)
    by_cases hb : x.born ∈ seen <;> simp [hb, hx]
/-- one less -/
theorem leftOf_perm {seen : List Nat} : ∀ {es : List MapEntry} {e : MapEntry}, Rising es → e ∈ leftOf seen es → (leftOf seen es).Perm (e :: leftOf (seen ++ [e.born]) es)
  | [], e, _, h => by cases h
  | x :: es, e, hr, h => by
    have hr1 : ∀ y ∈ es, x.born < y.born := fun y hy => List.rel_of_pairwise_cons hr hy
    have hr2 : Rising es := List.Pairwise.of_cons hr
    rw [leftOf_cons] at h
    by_cases hb : x.born ∈ seen
    · rw [if_pos hb] at h
      rw [leftOf_cons, if_pos hb, leftOf_cons, if_pos (by simp [hb])]
      exact leftOf_perm hr2 h
    · rw [if_neg hb] at h
      rw [leftOf_cons, if_neg hb, leftOf_cons]
      rcases List.mem_cons.1 h with rfl | h
      · rw [if_pos (by simp), leftOf_other fun y hy => by have := hr1 y hy; omega]
      · have hm := leftOf_mem h
        have hne : x.born ≠ e.born := by have := hr1 e hm.1; omega
        rw [if_neg (by simp [hb, hne])]
        exact ((leftOf_perm hr2 h).cons x).trans (List.Perm.swap ..)
theorem bornE_mem : ∀ {es : List MapEntry} {e : MapEntry}, Rising es → e ∈ es → bornE e.born es = some e
  | [], e, _, h => by cases h
  | x :: es, e, hr, h => by
    show (bif Nat.beq x.born e.born then some x else bornE e.born es) = some e
    rcases List.mem_cons.1 h with rfl | h
    · rw [Nat.beq_refl]; rfl
    · have h1 : x.born < e.born := List.rel_of_pairwise_cons hr h
      have : Nat.beq x.born e.born = false := by
        cases hb : Nat.beq x.born e.born with
        | false => rfl
        | true => have := Nat.eq_of_beq_eq_true hb; omega
      rw [this]
      exact bornE_mem (List.Pairwise.of_cons hr) h
theorem lastN_app : ∀ (l : List Nat) (b : Nat), lastN (l ++ [b]) = some b
  | [], b => rfl
  | [x], b => rfl
  | x :: y :: l, b => lastN_app (y :: l) b
/-- what is read of the entry that came last -/
theorem oEntry_eq {h : Hp} {it r since ck : Nat} {seen : List Nat} {es : List MapEntry} {e : MapEntry} (hi : hget h it = some (.iter (some r) since (seen ++ [e.born]) ck)) (hm : hget h r = some (.map es ck)) (hr : Rising es) (he : e ∈ es) :
    oEntry h (.pointer (some ⟨it, 0, none⟩)) = .ok (.tuple #[e.key, e.val]) := by
  unfold oEntry mapOf
  simp only [addrR_ptr, show Nat.beq 0 0 = true from rfl, cond_true, hi, hm, Nat.beq_refl, lastN_app, bornE_mem hr he, of_some]
end Go.Ax

/-! part AxOr1 -/
namespace Go.Ax
open Go
set_option linter.unusedSimpArgs false
set_option linter.unusedVariables false

/-! # grid.Sent: in whatever order -/
def cfBoxSent (tb : Nat) : CF := { res := [.tmp 2], body :=
 (.seq (.regO [⟨none, (some 2), 0, .pur (.mv (.v (.int .i64 0)))⟩])
 (.seq (.seq (.regO [⟨none, (some 3), 0, .pur (.mv (.t 0))⟩,
   ⟨none, (some 4), 0, .pur (.bin .eql tb (.t 3) (.v (.pointer none)))⟩])
 (.cond (.t 4)
  (.seq (.regO [⟨none, (some 2), 0, .pur (.mv (.v (.int .i64 0)))⟩])
  .ret)
  .skip))
 (.seq (.regO [⟨none, (some 5), 0, .pur (.mv (.t 0))⟩,
   ⟨none, (some 6), 0, .pur (.nilc (.t 5))⟩,
   ⟨none, (some 7), 0, .pur (.fldA 4 (.t 6))⟩,
   ⟨none, (some 8), 0, .red (.ld none (.t 7))⟩,
   ⟨none, (some 2), 0, .pur (.mv (.t 8))⟩])
 .ret))) }
section
variable {P : Program} {orc : Orc} {s : Bool}
theorem boxSent_cv {fb tb : Nat} (hcf : compAt P fb = some (cfBoxSent tb)) (ho : orc fb = none) (ht : isPtrTy P tb = true) {h : Hp} {nx b o : Nat} {sp : Option Nat} {cs : List Value} {ro : Bool} {v : Value}
    (hh : hget h b = some (.cells cs ro)) (hv : cs[o + 4]? = some v) : Cv P orc s fb [.pointer (some ⟨b, o, sp⟩)] h nx (fun v' h' nx' => v' = v ∧ h' = h ∧ nx' = nx) := by
  refine Cv.enter ho hcf ?_
  unfold cfBoxSent
  refine Ev.seq (Ev.regO ?_)
  simp [Ov_pur, Ov_nil]
  refine Ev.seq (Ev.seq (Ev.regO ?_))
  simp [Ov_pur, Ov_nil, bin_ptr_eql ht]
  refine Ev.cond false (by simp) (by simp) fun _ => Ev.skip ?_
  simp
  refine Ev.seq (Ev.regO ?_)
  simp [Ov_pur, Ov_red, Ov_nil, cellsOf_some hh, hv]
  refine Ev.ret ?_
  simp

def cfSent (tg fb : Nat) : CF := { res := [.tmp 2], body :=
 (.seq (.regO [⟨none, (some 2), 0, .pur (.mv (.v (.int .i64 0)))⟩])
 (.seq (.regO [⟨none, (some 3), 0, .pur (.mv (.v (.int .i64 0)))⟩])
 (.seq (.seq (.regO [⟨none, (some 6), 0, .pur (.mv (.t 0))⟩,
   ⟨none, (some 7), 0, .pur (.bin .neq tg (.t 6) (.v (.pointer none)))⟩])
 (.cond (.t 7)
  (.seq (.regO [⟨none, (some 8), 0, .pur (.mv (.t 0))⟩,
    ⟨none, (some 9), 0, .pur (.nilc (.t 8))⟩,
    ⟨none, (some 10), 0, .pur (.fldA 13 (.t 9))⟩,
    ⟨none, (some 11), 0, .red (.ld none (.t 10))⟩,
    ⟨none, (some 12), 0, .eff (.rng (.t 11))⟩])
  (.block 0
   (.loop
    (.seq (.regO [⟨none, (some 13), 0, .eff (.nxt (.t 12))⟩,
      ⟨none, (some 14), 0, .pur (.ext (.t 13) 0)⟩])
    (.seq (.cond (.t 14)
     .skip
     (.exit 0))
    (.block 1
     (.seq (.regO [⟨none, (some 15), 0, .red (.entry (.t 12))⟩,
       ⟨none, (some 16), 0, .pur (.ext (.t 15) 1)⟩,
       ⟨none, (some 5), 0, .pur (.mv (.t 16))⟩])
     (.regO [⟨none, (some 17), 0, .pur (.mv (.t 3))⟩,
       ⟨none, (some 18), 0, .pur (.mv (.t 5))⟩,
       ⟨none, (some 19), 0, .eff (.call fb [(.t 18)])⟩,
       ⟨none, (some 20), 0, .pur (.bin .add 3 (.t 17) (.t 19))⟩,
       ⟨none, (some 3), 0, .pur (.mv (.t 20))⟩]))))))))
  .skip))
 (.seq (.regO [⟨none, (some 21), 0, .pur (.mv (.t 3))⟩,
   ⟨none, (some 2), 0, .pur (.mv (.t 21))⟩])
 .ret)))) }
def sumL (f : MapEntry → Nat) : List MapEntry → Nat
  | [] => 0
  | e :: es => f e + sumL f es
theorem sumL_perm {f : MapEntry → Nat} {l l' : List MapEntry} (h : l.Perm l') : sumL f l = sumL f l' := by
  induction h with
  | nil => rfl
  | cons x _ ih => simp [sumL, ih]
  | swap x y l => simp [sumL]; omega
  | trans _ _ ih1 ih2 => rw [ih1, ih2]
theorem wrapS {n : Int} (h0 : 0 ≤ n) (h1 : n < 9223372036854775808) : IntKind.wrap .i64 n = n := by
  rw [← fwrap_eq]
  obtain ⟨m, rfl⟩ := Int.eq_ofNat_of_zero_le h0
  show fwrapP .i64 m = _
  unfold fwrapP limU
  rw [blt_dec]
  have : m < 9223372036854775808 := by omega
  simp [this]
theorem nextOk_of {seen : List Nat} {es : List MapEntry} {ck : Nat} (h : ∀ e ∈ es, e.born < ck) : nextOk seen es ck = true := by
  unfold nextOk
  cases es with
  | nil => simp
  | cons e es =>
    have := h e (by simp)
    simp [blt_dec, this]
def SentJ (h : Hp) (es : List MapEntry) (r ck nx n : Nat) (sent : MapEntry → Nat) (m : Nat) (tm : Tm) (h' : Hp) : Prop :=
  ∃ seen acc, m = (leftOf seen es).length ∧ tget tm 12 = .pointer (some ⟨nx, 0, none⟩) ∧ tget tm 3 = .int .i64 (acc : Nat) ∧ acc + sumL sent (leftOf seen es) = n ∧
    hget h' nx = some (.iter (some r) ck seen ck) ∧ ∀ b o, hget h b = some o → hget h' b = some o
theorem sent_cv {f tg fb tb : Nat} (hcf : compAt P f = some (cfSent tg fb)) (ho : orc f = none) (htg : isPtrTy P tg = true) (hcb : compAt P fb = some (cfBoxSent tb)) (hob : orc fb = none) (htb : isPtrTy P tb = true)
    {h : Hp} {nx b o r ck n : Nat} {sp : Option Nat} {cs : List Value} {ro : Bool} {es : List MapEntry} (sent : MapEntry → Nat)
    (hh : hget h b = some (.cells cs ro)) (hv : cs[o + 13]? = some (.map (some r))) (hm : hget h r = some (.map es ck)) (hr : Rising es) (hck : ∀ e ∈ es, e.born < ck)
    (hse : ∀ e ∈ es, ∃ b' o' sp' cs' ro', e.val = .pointer (some ⟨b', o', sp'⟩) ∧ hget h b' = some (.cells cs' ro') ∧ cs'[o' + 4]? = some (.int .i64 (sent e : Int)))
    (hn : sumL sent es = n) (hlt : n < 1000000000) (hfr : ∀ b, nx ≤ b → hget h b = none) :
    Cv P orc false f [.pointer (some ⟨b, o, sp⟩)] h nx (fun v' h' _ => v' = .int .i64 (n : Int) ∧ ∀ b o, hget h b = some o → hget h' b = some o) := by
  have hrn : r ≠ nx := fun e => by rw [e, hfr nx (Nat.le_refl _)] at hm; cases hm
  refine Cv.enter ho hcf ?_
  unfold cfSent
  refine Ev.seq (Ev.regO ?_)
  simp [Ov_pur, Ov_nil]
  refine Ev.seq (Ev.regO ?_)
  simp [Ov_pur, Ov_nil]
  refine Ev.seq (Ev.seq (Ev.regO ?_))
  simp [Ov_pur, Ov_nil, bin_ptr_neq htg]
  refine Ev.cond true (by simp) (fun _ => ?_) (by simp)
  refine Ev.seq (Ev.regO ?_)
  have hrng : ∀ tm, ceff P (tset tm 11 (.map (some r))) h nx (.rng (.t 11)) = .val (.pointer (some ⟨nx, 0, none⟩)) (hset h nx (.iter (some r) ck [] ck)) (nx + 1) := fun tm => by
    show oRange h nx (tget (tset tm 11 (.map (some r))) 11) = _
    simp [oRange, hm, newIter]
  simp [Ov_pur, Ov_red, Ov_nil, cellsOf_some hh, hv, Ov_eff (hrng _)]
  refine Ev.block (Ev.loop (fun m tm h' _ => SentJ h es r ck nx n sent m tm h') ?_ es.length _ _ _ ⟨[], 0, by rw [leftOf_nil_seen], by simp, by simp, by rw [leftOf_nil_seen]; omega, by simp, fun b' o' hb' => ?_⟩)
  · rintro m tm h' nx' ⟨seen, acc, rfl, h12, h3, hsum, hit, hold⟩
    have hm' := hold r _ hm
    refine Ev.seq (Ev.regO (Ov_nxt rfl (by simpa using h12) hit hm' (nextOk_of hck) (fun hend => ?_) fun e he => ⟨hck e (leftOf_mem he).1, ?_⟩))
    · simp [Ov_pur, Ov_nil]
      refine Ev.seq (Ev.cond false (by simp) (by simp) fun _ => Ev.exit ?_)
      simp
      refine Ev.seq (Ev.regO ?_)
      simp [Ov_pur, Ov_nil]
      refine Ev.ret ?_
      rw [hend] at hsum
      simp [h3]
      refine ⟨?_, hold⟩
      have : acc = n := by simpa [sumL] using hsum
      rw [this]
    · obtain ⟨hmem, hnot⟩ := leftOf_mem he
      obtain ⟨b', o', sp', cs', ro', hval, hb', hs'⟩ := hse e hmem
      have hne : b' ≠ nx := fun e => by rw [e, hfr nx (Nat.le_refl _)] at hb'; cases hb'
      have hperm := leftOf_perm hr he
      have hps := sumL_perm (f := sent) hperm
      have hlen := hperm.length_eq
      simp only [sumL, List.length_cons] at hps hlen
      simp [Ov_pur, Ov_nil]
      refine Ev.seq (Ev.cond true (by simp) (fun _ => Ev.skip ?_) (by simp))
      simp
      refine Ev.block (Ev.seq (Ev.regO ?_))
      have hent : oEntry (hset h' nx (.iter (some r) ck (seen ++ [e.born]) ck)) (.pointer (some ⟨nx, 0, none⟩)) = .ok (.tuple #[e.key, e.val]) :=
        oEntry_eq (r := r) (since := ck) (ck := ck) (seen := seen) (by simp) (by simp [hrn]; exact hm') hr hmem
      simp [Ov_red, Ov_pur, Ov_nil, h12, hent]
      refine Ev.regO ?_
      simp [Ov_pur, h3]
      refine Ov_call ?_
      simp [hval]
      refine (boxSent_cv hcb hob htb (cs := cs') (ro := ro') (v := .int .i64 (sent e : Int)) (by simp [hne]; exact hold _ _ hb') hs').mono ?_
      rintro v h2 nx2 ⟨rfl, rfl, rfl⟩
      simp [Ov_pur, Ov_nil]
      refine ⟨(leftOf (seen ++ [e.born]) es).length, by omega, seen ++ [e.born], acc + sent e, rfl, by simpa using h12, ?_, by omega, by simp, fun b2 o2 hb2 => ?_⟩
      · rw [wrapS (by omega) (by omega)]
        simp
      · have : b2 ≠ nx := fun e => by rw [e, hfr nx (Nat.le_refl _)] at hb2; cases hb2
        simp [this]; exact hold _ _ hb2
  · have : b' ≠ nx := fun e => by rw [e, hfr nx (Nat.le_refl _)] at hb'; cases hb'
    simp [this, hb']
end
end Go.Ax

/-! part AxOr2 -/
namespace Go.Ax
open Go
set_option linter.unusedSimpArgs false
set_option linter.unusedVariables false

/-! # grid.Sent and worker.counted as oracles -/
def OrcAt (P : Program) (f : FuncId) (g : List Value → Hp → Nat → CR) : Prop := ∀ (args : List Value) (h : Hp) (nx : Nat) (K : Value → Hp → Nat → Prop), crSat (g args h nx) K →
  Callable P f ∧ ∀ (B : Nat) (ρ : Rho) (w : World) (args' : List Value), Rel B ρ (hget h) w → Fr ρ nx → VRL ρ args args' → ∀ n, CallsIn Fence.wide n P f ⟨args'⟩ w (Fin B ρ h w nx K)
theorem orc0_ok {P : Program} : OrcOk P orc0 := fun f g h => by cases h
/-- entries in the order of their births, all before the clock -/
def risingB (ck : Nat) : List MapEntry → Bool
  | [] => true
  | e :: es => (match es with
    | [] => Nat.blt e.born ck
    | f :: _ => Nat.blt e.born f.born) && risingB ck es
theorem risingB_ok {ck : Nat} : ∀ {es : List MapEntry}, risingB ck es = true → Rising es ∧ ∀ e ∈ es, e.born < ck
  | [], _ => ⟨List.Pairwise.nil, fun e h => by cases h⟩
  | [e], h => by
    unfold risingB at h
    simp only [Bool.and_eq_true, blt_dec, decide_eq_true_eq] at h
    exact ⟨List.pairwise_singleton .., fun x hx => by simp at hx; subst hx; exact h.1⟩
  | e :: f :: es, h => by
    unfold risingB at h
    simp only [Bool.and_eq_true, blt_dec, decide_eq_true_eq] at h
    obtain ⟨h1, h2⟩ := risingB_ok h.2
    have hall : ∀ x ∈ f :: es, e.born < x.born := fun x hx => by
      rcases List.mem_cons.1 hx with rfl | hx
      · exact h.1
      · have := List.rel_of_pairwise_cons h1 hx; omega
    refine ⟨List.Pairwise.cons hall h1, fun x hx => ?_⟩
    rcases List.mem_cons.1 hx with rfl | hx
    · have := h2 f (by simp); have := h.1; omega
    · exact h2 x hx
def natAt (l : List Value) (i : Nat) : Option Nat := match lget l i with
  | some (.int .i64 (.ofNat n)) => some n
  | _ => none
theorem natAt_ok {l : List Value} {i n : Nat} (h : natAt l i = some n) : l[i]? = some (.int .i64 (n : Int)) := by
  unfold natAt at h
  rw [lget_eq] at h
  split at h
  · rename_i e; cases h; exact e
  · cases h
def sentOf (h : Hp) (e : MapEntry) : Option Nat := match e.val with
  | .pointer (some a) => (match hget h a.block with
    | some (.cells cs _) => natAt cs (a.off + 4)
    | _ => none)
  | _ => none
def sumSent (h : Hp) : List MapEntry → Option Nat
  | [] => some 0
  | e :: es => (match sentOf h e, sumSent h es with
    | some a, some b => some (a + b)
    | _, _ => none)
theorem sumSent_ok {h : Hp} : ∀ {es : List MapEntry} {n : Nat}, sumSent h es = some n → (∀ e ∈ es, ∃ k, sentOf h e = some k) ∧ sumL (fun e => (sentOf h e).getD 0) es = n
  | [], n, hs => by cases hs; exact ⟨fun e h => (by cases h), rfl⟩
  | e :: es, n, hs => by
    unfold sumSent at hs
    split at hs
    · rename_i a b h1 h2
      cases hs
      obtain ⟨h3, h4⟩ := sumSent_ok h2
      refine ⟨fun x hx => ?_, by simp [sumL, h1, h4]⟩
      rcases List.mem_cons.1 hx with rfl | hx
      · exact ⟨a, h1⟩
      · exact h3 x hx
    · cases hs
theorem sentOf_ok {h : Hp} {e : MapEntry} {k : Nat} (hs : sentOf h e = some k) : ∃ b' o' sp' cs' ro', e.val = .pointer (some ⟨b', o', sp'⟩) ∧ hget h b' = some (.cells cs' ro') ∧ cs'[o' + 4]? = some (.int .i64 (k : Int)) := by
  unfold sentOf at hs
  split at hs
  · rename_i a ha
    split at hs
    · rename_i cs ro hc
      obtain ⟨b, o, sp⟩ := a
      exact ⟨b, o, sp, cs, ro, ha, hc, natAt_ok hs⟩
    · cases hs
  · cases hs
def gSent (args : List Value) (h : Hp) (nx : Nat) : CR := match args with
  | [.pointer (some a)] => (match hget h a.block with
    | some (.cells cs _) => (match lget cs (a.off + 13) with
      | some (.map (some r)) => (match hget h r with
        | some (.map es ck) => bif risingB ck es then (match sumSent h es with
          | some n => bif Nat.blt n 1000000000 then .ok (.int .i64 (.ofNat n)) h nx else .no "Sent"
          | none => .no "Sent") else .no "Sent"
        | _ => .no "Sent")
      | _ => .no "Sent")
    | _ => .no "Sent")
  | _ => .no "Sent"
section
variable {P : Program}
theorem gSent_ok (hP : POk P) {f tg fb tb : Nat} (hcf : compAt P f = some (cfSent tg fb)) (htg : isPtrTy P tg = true) (hcb : compAt P fb = some (cfBoxSent tb)) (htb : isPtrTy P tb = true) : OrcAt P f gSent := by
  intro args h nx K hs
  unfold gSent at hs
  split at hs <;> first | exact hs.elim | skip
  rename_i a
  split at hs <;> first | exact hs.elim | skip
  rename_i cs ro hc
  split at hs <;> first | exact hs.elim | skip
  rename_i r hr
  split at hs <;> first | exact hs.elim | skip
  rename_i es ck hm
  cases hri : risingB ck es with
  | false => rw [hri] at hs; exact hs.elim
  | true =>
    rw [hri] at hs
    simp only [cond_true] at hs
    split at hs <;> first | exact hs.elim | skip
    rename_i n hn
    cases hlt : Nat.blt n 1000000000 with
    | false => rw [hlt] at hs; exact hs.elim
    | true =>
      rw [hlt] at hs
      obtain ⟨h1, h2⟩ := risingB_ok hri
      obtain ⟨h3, h4⟩ := sumSent_ok hn
      obtain ⟨b, o, sp⟩ := a
      rw [lget_eq] at hr
      rw [blt_dec, decide_eq_true_eq] at hlt
      refine orc_plain hP orc0_ok (callable_of hP hcf) (v := .int .i64 (.ofNat n)) rfl (fun hfr => ?_) hs
      refine sent_cv hcf rfl htg hcb rfl htb (fun e => (sentOf h e).getD 0) hc hr hm h1 h2 (fun e he => ?_) h4 hlt hfr
      obtain ⟨k, hk⟩ := h3 e he
      simp only [hk, Option.getD_some]
      exact sentOf_ok hk

/-! ## counted -/
def cfCounted : CF := { res := [.tmp 2], body :=
 (.seq (.regO [⟨none, (some 2), 0, .pur (.mv (.v (.int .i64 0)))⟩])
 (.seq (.regO [⟨none, (some 3), 0, .pur (.mv (.v (.bool false)))⟩,
   ⟨none, (some 4), 0, .pur (.mv (.v (.bool false)))⟩])
 (.seq (.seq (.regO [⟨none, (some 7), 0, .pur (.mv (.t 0))⟩,
   ⟨none, (some 8), 0, .pur (.nilc (.t 7))⟩,
   ⟨none, (some 9), 0, .pur (.fldA 43 (.t 8))⟩,
   ⟨none, (some 10), 0, .red (.ld none (.t 9))⟩,
   ⟨none, (some 11), 0, .eff (.rng (.t 10))⟩])
 (.block 0
  (.loop
   (.seq (.regO [⟨none, (some 12), 0, .eff (.nxt (.t 11))⟩,
     ⟨none, (some 13), 0, .pur (.ext (.t 12) 0)⟩])
   (.seq (.cond (.t 13)
    .skip
    (.exit 0))
   (.block 1
    (.seq (.regO [⟨none, (some 14), 0, .red (.entry (.t 11))⟩,
      ⟨none, (some 15), 0, .pur (.ext (.t 14) 1)⟩,
      ⟨none, (some 6), 0, .alc (.new [(.int .i64 0), (.int .i64 0), (.int .i64 0), (.int .i64 0), (.int .i64 0), (.int .i64 0), (.slice none 0 0), (.slice none 0 0), (.slice none 0 0), (.int .i64 0), (.bool false)])⟩,
      ⟨none, none, 0, .eff (.st 11 (.t 6) (.t 15))⟩])
    (.seq (.regO [⟨none, (some 16), 0, .pur (.mv (.t 3))⟩,
      ⟨none, (some 17), 0, .pur (.mv (.t 16))⟩,
      ⟨(some (17, false)), (some 18), 0, .pur (.fldA 10 (.t 6))⟩,
      ⟨(some (17, false)), (some 19), 0, .red (.ld none (.t 18))⟩,
      ⟨none, (some 20), 0, .pur (.pick (.t 17) (.v (.bool true)) (.t 19))⟩,
      ⟨none, (some 3), 0, .pur (.mv (.t 20))⟩])
    (.regO [⟨none, (some 21), 0, .pur (.mv (.t 4))⟩,
      ⟨none, (some 22), 0, .pur (.mv (.t 21))⟩,
      ⟨(some (22, false)), (some 23), 0, .pur (.fldA 9 (.t 6))⟩,
      ⟨(some (22, false)), (some 24), 0, .red (.ld none (.t 23))⟩,
      ⟨(some (22, false)), (some 25), 0, .pur (.bin .neq 2 (.t 24) (.v (.int .i64 0)))⟩,
      ⟨none, (some 26), 0, .pur (.pick (.t 22) (.v (.bool true)) (.t 25))⟩,
      ⟨none, (some 4), 0, .pur (.mv (.t 26))⟩])))))))))
 (.seq (.block 2
  (.seq (.regO [⟨none, (some 28), 0, .pur (.mv (.t 3))⟩,
    ⟨none, (some 27), 0, .pur (.mv (.t 28))⟩])
  (.cond (.t 27)
   (.seq (.regO [⟨none, (some 2), 0, .pur (.mv (.v (.int .i64 3)))⟩])
   .ret)
   (.seq (.regO [⟨none, (some 30), 0, .pur (.mv (.t 4))⟩,
     ⟨none, (some 31), 0, .pur (.un .not (.t 30))⟩,
     ⟨none, (some 29), 0, .pur (.mv (.t 31))⟩])
   (.cond (.t 29)
    (.seq (.regO [⟨none, (some 2), 0, .pur (.mv (.v (.int .i64 1)))⟩])
    .ret)
    (.seq (.regD [⟨none, (some 33), 0, .pur (.mv (.t 0))⟩,
      ⟨none, (some 34), 0, .pur (.nilc (.t 33))⟩,
      ⟨none, (some 35), 0, .pur (.fldA 42 (.t 34))⟩,
      ⟨none, (some 36), 0, .red (.ld none (.t 35))⟩,
      ⟨none, (some 37), 0, .pur (.mv (.t 0))⟩,
      ⟨none, (some 38), 0, .pur (.nilc (.t 37))⟩,
      ⟨none, (some 39), 0, .pur (.fldA 9 (.t 38))⟩,
      ⟨none, (some 40), 0, .red (.ld none (.t 39))⟩,
      ⟨none, (some 41), 0, .pur (.bin .eql 3 (.t 36) (.t 40))⟩,
      ⟨none, (some 32), 0, .pur (.mv (.t 41))⟩])
    (.cond (.t 32)
     (.seq (.regO [⟨none, (some 2), 0, .pur (.mv (.v (.int .i64 2)))⟩])
     .ret)
     .skip)))))))
 (.seq (.regO [⟨none, (some 2), 0, .pur (.mv (.v (.int .i64 0)))⟩])
 .ret))))) }
def anyL (f : MapEntry → Bool) : List MapEntry → Bool
  | [] => false
  | e :: es => f e || anyL f es
theorem anyL_perm {f : MapEntry → Bool} {l l' : List MapEntry} (h : l.Perm l') : anyL f l = anyL f l' := by
  induction h with
  | nil => rfl
  | cons x _ ih => simp [anyL, ih]
  | swap x y l => simp only [anyL]; cases f x <;> cases f y <;> simp
  | trans _ _ ih1 ih2 => rw [ih1, ih2]
def CountJ (h : Hp) (es : List MapEntry) (r ck nx : Nat) (p0 : Value) (ov lv : MapEntry → Bool) (m : Nat) (tm : Tm) (h' : Hp) (nx' : Nat) : Prop :=
  ∃ seen a b, m = (leftOf seen es).length ∧ nx < nx' ∧ tget tm 0 = p0 ∧ tget tm 11 = .pointer (some ⟨nx, 0, none⟩) ∧ tget tm 3 = .bool a ∧ tget tm 4 = .bool b ∧ (a || anyL ov (leftOf seen es)) = anyL ov es ∧ (b || anyL lv (leftOf seen es)) = anyL lv es ∧
    hget h' nx = some (.iter (some r) ck seen ck) ∧ ∀ b o, hget h b = some o → hget h' b = some o
def statusOf (ov lv : Bool) (vote limit : Int) : Int := if ov then 3 else if lv then (if vote == limit then 2 else 0) else 1
theorem counted_cv {orc : Orc} {f : Nat} (hcf : compAt P f = some cfCounted) (ho : orc f = none) {h : Hp} {nx b o r ck : Nat} {sp : Option Nat} {cs : List Value} {ro : Bool} {es : List MapEntry} {vote limit : Int} (ov lv : MapEntry → Bool)
    (hh : hget h b = some (.cells cs ro)) (hv : cs[o + 43]? = some (.map (some r))) (hvo : cs[o + 42]? = some (.int .i64 vote)) (hli : cs[o + 9]? = some (.int .i64 limit)) (hm : hget h r = some (.map es ck)) (hr : Rising es) (hck : ∀ e ∈ es, e.born < ck)
    (hse : ∀ e ∈ es, ∃ l n, e.val = .agg ⟨l⟩ ∧ l.length = 11 ∧ cellL l = true ∧ l[9]? = some (.int .i64 n) ∧ l[10]? = some (.bool (ov e)) ∧ lv e = !(n == 0))
    (hfr : ∀ b, nx ≤ b → hget h b = none) :
    Cv P orc false f [.pointer (some ⟨b, o, sp⟩)] h nx (fun v' h' _ => v' = .int .i64 (statusOf (anyL ov es) (anyL lv es) vote limit) ∧ ∀ b o, hget h b = some o → hget h' b = some o) := by
  have hrn : r < nx := by
    rcases Nat.lt_or_ge r nx with h1 | h1
    · exact h1
    · rw [hfr r h1] at hm; cases hm
  have hbn : ∀ b o, hget h b = some o → b < nx := fun b o hb => by
    rcases Nat.lt_or_ge b nx with h1 | h1
    · exact h1
    · rw [hfr b h1] at hb; cases hb
  refine Cv.enter ho hcf ?_
  unfold cfCounted
  refine Ev.seq (Ev.regO ?_)
  simp [Ov_pur, Ov_nil]
  refine Ev.seq (Ev.regO ?_)
  simp [Ov_pur, Ov_nil]
  refine Ev.seq (Ev.seq (Ev.regO ?_))
  have hrng : ∀ tm, ceff P (tset tm 10 (.map (some r))) h nx (.rng (.t 10)) = .val (.pointer (some ⟨nx, 0, none⟩)) (hset h nx (.iter (some r) ck [] ck)) (nx + 1) := fun tm => by
    show oRange h nx (tget (tset tm 10 (.map (some r))) 10) = _
    simp [oRange, hm, newIter]
  simp [Ov_pur, Ov_red, Ov_nil, cellsOf_some hh, hv, Ov_eff (hrng _)]
  refine Ev.block (Ev.loop (fun m tm h' nx' => CountJ h es r ck nx (.pointer (some ⟨b, o, sp⟩)) ov lv m tm h' nx') ?_ es.length _ _ _ ⟨[], false, false, by rw [leftOf_nil_seen], by omega, by simp, by simp, by simp, by simp, by rw [leftOf_nil_seen]; rfl, by rw [leftOf_nil_seen]; rfl, by simp, fun b' o' hb' => ?_⟩)
  · rintro m tm h' nx' ⟨seen, ca, cb, rfl, hnx, h0, h11, h3, h4, hov, hlv, hit, hold⟩
    have hm' := hold r _ hm
    refine Ev.seq (Ev.regO (Ov_nxt rfl (by simpa using h11) hit hm' (nextOk_of hck) (fun hend => ?_) fun e he => ⟨hck e (leftOf_mem he).1, ?_⟩))
    · simp [Ov_pur, Ov_nil]
      refine Ev.seq (Ev.cond false (by simp) (by simp) fun _ => Ev.exit ?_)
      simp
      rw [hend] at hov hlv
      simp only [anyL, Bool.or_false] at hov hlv
      subst hov hlv
      refine Ev.seq (Ev.block (Ev.seq (Ev.regO ?_)))
      simp [Ov_pur, Ov_nil, h3]
      refine Ev.cond (anyL ov es) (by simp) (fun ht => ?_) fun hf => ?_
      · refine Ev.seq (Ev.regO ?_)
        simp [Ov_pur, Ov_nil]
        refine Ev.ret ?_
        simp [statusOf, ht]
        exact hold
      · refine Ev.seq (Ev.regO ?_)
        simp [Ov_pur, Ov_nil, h4]
        refine Ev.cond (!anyL lv es) (by simp) (fun ht => ?_) fun hf2 => ?_
        · refine Ev.seq (Ev.regO ?_)
          simp [Ov_pur, Ov_nil]
          refine Ev.ret ?_
          simp at ht
          simp [statusOf, ht, hf]
          exact hold
        · refine Ev.seq (Ev.regD ?_)
          simp [Dv_pur, Dv_red, Dv_nil, h0, cellsOf_some (hold _ _ hh), hvo, hli, cagree]
          refine Ev.cond (vote == limit) (by simp) (fun ht => ?_) fun hf3 => ?_
          · refine Ev.seq (Ev.regO ?_)
            simp [Ov_pur, Ov_nil]
            refine Ev.ret ?_
            simp at hf2 ht
            simp [statusOf, hf, hf2, ht]
            exact hold
          · refine Ev.skip ?_
            simp
            refine Ev.seq (Ev.regO ?_)
            simp [Ov_pur, Ov_nil]
            refine Ev.ret ?_
            simp at hf2 hf3
            simp [statusOf, hf, hf2, hf3]
            exact hold
    · obtain ⟨hmem, hnot⟩ := leftOf_mem he
      obtain ⟨l, n, hval, hlen, hcl, hl9, hl10, hlve⟩ := hse e hmem
      have hperm := leftOf_perm hr he
      have hp1 := anyL_perm (f := ov) hperm
      have hp2 := anyL_perm (f := lv) hperm
      have hplen := hperm.length_eq
      simp only [anyL, List.length_cons] at hp1 hp2 hplen
      simp [Ov_pur, Ov_nil]
      refine Ev.seq (Ev.cond true (by simp) (fun _ => Ev.skip ?_) (by simp))
      simp
      refine Ev.block (Ev.seq (Ev.regO ?_))
      have hent : oEntry (hset h' nx (.iter (some r) ck (seen ++ [e.born]) ck)) (.pointer (some ⟨nx, 0, none⟩)) = .ok (.tuple #[e.key, e.val]) :=
        oEntry_eq (r := r) (since := ck) (ck := ck) (seen := seen) (by simp) (by simp [show r ≠ nx by omega]; exact hm') hr hmem
      have hcst : ∀ hp : Hp, hget hp nx' = some (.cells [(.int .i64 0), (.int .i64 0), (.int .i64 0), (.int .i64 0), (.int .i64 0), (.int .i64 0), (.slice none 0 0), (.slice none 0 0), (.slice none 0 0), (.int .i64 0), (.bool false)] false) →
          cSt hp 11 l ⟨nx', 0, none⟩ = .ok (hset hp nx' (.cells l false)) := fun hp hhp => by
        unfold cSt writeA
        rw [llen_eq, hlen]
        simp only [Nat.beq_refl, cond_true, cellsOf_some hhp, hcl]
        rw [lput_eq]
        simp [hlen]
      simp [Ov_red, Ov_pur, Ov_alc, Ov_st, Ov_nil, h11, hent, calq, nbV, nbO, hval, vcells]
      rw [hcst _ (by simp)]
      simp
      have hget6 : ∀ hp : Hp, hget (hset hp nx' (.cells l false)) nx' = some (.cells l false) := fun hp => by simp
      refine Ev.seq (Ev.regO ?_)
      have step1 : (ca || anyL ov (e :: leftOf (seen ++ [e.born]) es)) = ((if ca = true then true else ov e) || anyL ov (leftOf (seen ++ [e.born]) es)) := by simp only [anyL]; cases ca <;> cases ov e <;> simp
      have step2 : (cb || anyL lv (e :: leftOf (seen ++ [e.born]) es)) = ((if cb = true then true else lv e) || anyL lv (leftOf (seen ++ [e.born]) es)) := by simp only [anyL]; cases cb <;> cases lv e <;> simp
      have fin : ∀ tm2 h2, tget tm2 0 = .pointer (some ⟨b, o, sp⟩) → tget tm2 11 = .pointer (some ⟨nx, 0, none⟩) → tget tm2 3 = .bool (if ca = true then true else ov e) → tget tm2 4 = .bool (if cb = true then true else lv e) →
          h2 = hset (hset (hset h' nx (.iter (some r) ck (seen ++ [e.born]) ck)) nx' (.cells [(.int .i64 0), (.int .i64 0), (.int .i64 0), (.int .i64 0), (.int .i64 0), (.int .i64 0), (.slice none 0 0), (.slice none 0 0), (.slice none 0 0), (.int .i64 0), (.bool false)] false)) nx' (.cells l false) →
          CountJ h es r ck nx (.pointer (some ⟨b, o, sp⟩)) ov lv (leftOf (seen ++ [e.born]) es).length tm2 h2 (nx' + 1) := by
        rintro tm2 h2 g0 g11 g3 g4 rfl
        refine ⟨seen ++ [e.born], _, _, rfl, by omega, g0, g11, g3, g4, ?_, ?_, ?_, fun b2 o2 hb2 => ?_⟩
        · rw [← step1, ← hov]; simp only [anyL]; rw [hp1]
        · rw [← step2, ← hlv]; simp only [anyL]; rw [hp2]
        · simp [show nx ≠ nx' by omega]
        · have := hbn _ _ hb2
          simp [show b2 ≠ nx' by omega, show b2 ≠ nx by omega]; exact hold _ _ hb2
      cases ca <;> cases cb <;> simp [Ov_pur, Ov_red, Ov_g, Ov_nil, boolIs, h3, h4, cellsOf_some (hget6 _), hl10] <;> refine Ev.regO ?_ <;> simp [Ov_pur, Ov_red, Ov_g, Ov_nil, boolIs, h3, h4, cellsOf_some (hget6 _), hl9] <;>
        refine ⟨_, ?_, fin _ _ (by simp [h0]) (by simp [h11]) (by simp [h3]) (by simp [h4, hlve]) rfl⟩ <;> omega
  · have := hbn _ _ hb'
    simp [show b' ≠ nx by omega, hb']

def frameOf (e : MapEntry) : Option (Bool × Bool) := match e.val with
  | .agg ⟨l⟩ => bif Nat.beq (llen l) 11 && cellL l then (match lget l 9, lget l 10 with
    | some (.int .i64 n), some (.bool o) => some (o, !ieq n 0)
    | _, _ => none) else none
  | _ => none
theorem frameOf_ok {e : MapEntry} {a b : Bool} (h : frameOf e = some (a, b)) : ∃ l n, e.val = .agg ⟨l⟩ ∧ l.length = 11 ∧ cellL l = true ∧ l[9]? = some (.int .i64 n) ∧ l[10]? = some (.bool a) ∧ b = !(n == 0) := by
  unfold frameOf at h
  split at h
  · rename_i l hl
    cases hc : (Nat.beq (llen l) 11 && cellL l) with
    | false => rw [hc] at h; cases h
    | true =>
      rw [hc] at h
      simp only [cond_true] at h
      simp only [Bool.and_eq_true] at hc
      split at h
      · rename_i n o h1 h2
        cases h
        rw [lget_eq] at h1 h2
        exact ⟨l, n, hl, by have := Nat.eq_of_beq_eq_true hc.1; rwa [llen_eq] at this, hc.2, h1, h2, by rw [ieq_beq]⟩
      · cases h
  · cases h
def allFrames : List MapEntry → Bool
  | [] => true
  | e :: es => (frameOf e).isSome && allFrames es
theorem allFrames_ok : ∀ {es : List MapEntry}, allFrames es = true → ∀ e ∈ es, (frameOf e).isSome = true
  | [], _, e, h => by cases h
  | x :: es, hs, e, h => by
    unfold allFrames at hs
    simp only [Bool.and_eq_true] at hs
    rcases List.mem_cons.1 h with rfl | h
    · exact hs.1
    · exact allFrames_ok hs.2 e h
def ovOf (e : MapEntry) : Bool := ((frameOf e).map (·.1)).getD false
def lvOf (e : MapEntry) : Bool := ((frameOf e).map (·.2)).getD false
def gCounted (args : List Value) (h : Hp) (nx : Nat) : CR := match args with
  | [.pointer (some a)] => (match hget h a.block with
    | some (.cells cs _) => (match lget cs (a.off + 43), lget cs (a.off + 42), lget cs (a.off + 9) with
      | some (.map (some r)), some (.int .i64 vote), some (.int .i64 limit) => (match hget h r with
        | some (.map es ck) => bif risingB ck es && allFrames es then .ok (.int .i64 (statusOf (anyL ovOf es) (anyL lvOf es) vote limit)) h nx else .no "counted"
        | _ => .no "counted")
      | _, _, _ => .no "counted")
    | _ => .no "counted")
  | _ => .no "counted"
theorem gCounted_ok (hP : POk P) {f : Nat} (hcf : compAt P f = some cfCounted) : OrcAt P f gCounted := by
  intro args h nx K hs
  unfold gCounted at hs
  split at hs <;> first | exact hs.elim | skip
  rename_i a
  split at hs <;> first | exact hs.elim | skip
  rename_i cs ro hc
  split at hs <;> first | exact hs.elim | skip
  rename_i r vote limit hr hvo hli
  split at hs <;> first | exact hs.elim | skip
  rename_i es ck hm
  cases hri : (risingB ck es && allFrames es) with
  | false => rw [hri] at hs; exact hs.elim
  | true =>
    rw [hri] at hs
    simp only [cond_true] at hs
    simp only [Bool.and_eq_true] at hri
    obtain ⟨h1, h2⟩ := risingB_ok hri.1
    have h3 := allFrames_ok hri.2
    obtain ⟨b, o, sp⟩ := a
    rw [lget_eq] at hr hvo hli
    refine orc_plain hP orc0_ok (callable_of hP hcf) (v := .int .i64 (statusOf (anyL ovOf es) (anyL lvOf es) vote limit)) rfl (fun hfr => ?_) hs
    refine counted_cv hcf rfl ovOf lvOf hc hr hvo hli hm h1 h2 (fun e he => ?_) hfr
    obtain ⟨⟨x, y⟩, hxy⟩ := Option.isSome_iff_exists.1 (h3 e he)
    obtain ⟨l, n, g1, g2, g3, g4, g5, g6⟩ := frameOf_ok hxy
    exact ⟨l, n, g1, g2, g3, g4, by simp [ovOf, hxy, g5], by simp [lvOf, hxy, g6]⟩
end
end Go.Ax

/-! part AxSort -/
namespace Go.Ax
open Go
set_option linter.unusedSimpArgs false
set_option linter.unusedVariables false

/-! # insertion sort -/
def cfIns (k : Nat) : CF := { res := [], body :=
 (.seq (.regO [⟨none, (some 10), 0, .pur (.mv (.t 1))⟩,
   ⟨none, (some 11), 0, .pur (.bin .add 3 (.t 10) (.v (.int .i64 1)))⟩,
   ⟨none, (some 8), 0, .pur (.mv (.t 11))⟩])
 (.block 0
  (.loop
   (.seq (.seq (.regO [⟨none, (some 12), 0, .pur (.mv (.t 8))⟩,
     ⟨none, (some 13), 0, .pur (.mv (.t 2))⟩,
     ⟨none, (some 14), 0, .pur (.bin .lss 3 (.t 12) (.t 13))⟩])
   (.cond (.t 14)
    .skip
    (.exit 0)))
   (.seq (.block 1
    (.seq (.regO [⟨none, (some 17), 0, .pur (.mv (.t 8))⟩,
      ⟨none, (some 9), 0, .pur (.mv (.t 17))⟩])
    (.block 2
     (.loop
      (.seq (.seq (.regD [⟨none, (some 18), 0, .pur (.mv (.t 9))⟩,
        ⟨none, (some 19), 0, .pur (.mv (.t 1))⟩,
        ⟨none, (some 20), 0, .pur (.bin .gtr 3 (.t 18) (.t 19))⟩,
        ⟨none, (some 21), 0, .pur (.mv (.t 20))⟩,
        ⟨(some (21, true)), (some 22), 0, .pur (.mv (.t 3))⟩,
        ⟨(some (21, true)), (some 23), 0, .pur (.mv (.t 0))⟩,
        ⟨(some (21, true)), (some 24), 0, .pur (.mv (.t 9))⟩,
        ⟨(some (21, true)), (some 25), 0, .pur (.ixA (.slice k) (.t 23) (.t 24))⟩,
        ⟨(some (21, true)), (some 26), 0, .red (.ld (some k) (.t 25))⟩,
        ⟨(some (21, true)), (some 27), 0, .pur (.mv (.t 0))⟩,
        ⟨(some (21, true)), (some 28), 0, .pur (.mv (.t 9))⟩,
        ⟨(some (21, true)), (some 29), 0, .pur (.bin .sub 3 (.t 28) (.v (.int .i64 1)))⟩,
        ⟨(some (21, true)), (some 30), 0, .pur (.ixA (.slice k) (.t 27) (.t 29))⟩,
        ⟨(some (21, true)), (some 31), 0, .red (.ld (some k) (.t 30))⟩,
        ⟨(some (21, true)), (some 32), 0, .eff (.callv (.t 22) [(.t 26), (.t 31)])⟩,
        ⟨(some (21, true)), (some 33), 0, .pur (.bin .lss 3 (.t 32) (.v (.int .i64 0)))⟩,
        ⟨none, (some 34), 0, .pur (.pick (.t 21) (.t 33) (.v (.bool false)))⟩])
      (.cond (.t 34)
       .skip
       (.exit 2)))
      (.seq (.block 3
       (.regD [⟨none, (some 37), 0, .pur (.mv (.t 0))⟩,
         ⟨none, (some 38), 0, .pur (.mv (.t 9))⟩,
         ⟨none, (some 42), 0, .pur (.mv (.t 0))⟩,
         ⟨none, (some 43), 0, .pur (.mv (.t 9))⟩,
         ⟨none, (some 44), 0, .pur (.bin .sub 3 (.t 43) (.v (.int .i64 1)))⟩,
         ⟨none, (some 45), 0, .pur (.ixA (.slice k) (.t 42) (.t 44))⟩,
         ⟨none, (some 46), 0, .red (.ld (some k) (.t 45))⟩,
         ⟨none, (some 47), 0, .pur (.mv (.t 0))⟩,
         ⟨none, (some 48), 0, .pur (.mv (.t 9))⟩,
         ⟨none, (some 49), 0, .pur (.ixA (.slice k) (.t 47) (.t 48))⟩,
         ⟨none, (some 50), 0, .red (.ld (some k) (.t 49))⟩,
         ⟨none, (some 51), 0, .pur (.ixA (.slice k) (.t 37) (.t 38))⟩,
         ⟨none, none, 0, .eff (.st k (.t 51) (.t 46))⟩,
         ⟨none, (some 39), 1, .pur (.mv (.t 0))⟩,
         ⟨none, (some 40), 1, .pur (.mv (.t 9))⟩,
         ⟨none, (some 41), 1, .pur (.bin .sub 3 (.t 40) (.v (.int .i64 1)))⟩,
         ⟨none, (some 52), 0, .pur (.ixA (.slice k) (.t 39) (.t 41))⟩,
         ⟨none, none, 0, .eff (.st k (.t 52) (.t 50))⟩]))
      (.regO [⟨none, (some 35), 0, .pur (.mv (.t 9))⟩,
        ⟨none, (some 36), 0, .pur (.bin .sub 3 (.t 35) (.v (.int .i64 1)))⟩,
        ⟨none, (some 9), 0, .pur (.mv (.t 36))⟩])))))))
   (.regO [⟨none, (some 15), 0, .pur (.mv (.t 8))⟩,
     ⟨none, (some 16), 0, .pur (.bin .add 3 (.t 15) (.v (.int .i64 1)))⟩,
     ⟨none, (some 8), 0, .pur (.mv (.t 16))⟩])))))) }

section
variable {α : Type}
/-- cells of a list of parts of k cells each -/
def flat (enc : α → List Value) : List α → List Value
  | [] => []
  | x :: l => enc x ++ flat enc l
theorem flat_len {enc : α → List Value} {k : Nat} (hk : ∀ x, (enc x).length = k) : ∀ l : List α, (flat enc l).length = l.length * k
  | [] => by simp [flat]
  | x :: l => by simp [flat, hk, flat_len hk l, Nat.succ_mul]; omega
theorem flat_get {enc : α → List Value} {k : Nat} (hk : ∀ x, (enc x).length = k) : ∀ {l : List α} {i : Nat} {x : α}, l[i]? = some x → ((flat enc l).drop (i * k)).take k = enc x
  | [], i, x, h => by simp at h
  | y :: l, 0, x, h => by
    simp at h; subst h
    simp [flat, ← hk y]
  | y :: l, i + 1, x, h => by
    have h : l[i]? = some x := by simpa using h
    have e : (i + 1) * k = (enc y).length + i * k := by rw [hk, Nat.succ_mul]; omega
    rw [e, flat, List.drop_append, List.drop_of_length_le (by omega), List.nil_append]
    have : (enc y).length + i * k - (enc y).length = i * k := by omega
    rw [this]
    exact flat_get hk h
theorem flat_put {enc : α → List Value} {k : Nat} (hk : ∀ x, (enc x).length = k) (z : α) : ∀ {l : List α} {i : Nat}, i < l.length → lput (enc z) (flat enc l) (i * k) = some (flat enc (l.set i z)) := by
  intro l i hi
  rw [lput_eq, if_pos (by rw [flat_len hk, hk]; have := Nat.mul_le_mul_right k hi; rw [Nat.succ_mul] at this; omega)]
  congr 1
  have key : ∀ (l : List α) (i : Nat), i < l.length → (flat enc l).take (i * k) ++ (enc z ++ (flat enc l).drop (i * k + k)) = flat enc (l.set i z) := by
    intro l
    induction l with
    | nil => intro i h; simp at h
    | cons y l ih =>
      intro i hi
      cases i with
      | zero => simp [flat, ← hk y, List.drop_append]
      | succ i =>
        have e : (i + 1) * k = (enc y).length + i * k := by rw [hk, Nat.succ_mul]; omega
        have e2 : (i + 1) * k + k = (enc y).length + (i * k + k) := by rw [e]; omega
        rw [List.set_cons_succ, flat, flat, e2, e, List.take_append, List.drop_append]
        rw [List.take_of_length_le (by omega), List.drop_of_length_le (by omega)]
        have h1 : (enc y).length + i * k - (enc y).length = i * k := by omega
        have h2 : (enc y).length + (i * k + k) - (enc y).length = i * k + k := by omega
        rw [h1, h2, List.nil_append, List.append_assoc, ih i (by simpa using hi)]
  rw [hk]
  exact key l i hi
end

section
variable {P : Program} {orc : Orc} {α : Type}
theorem wrapN (m : Nat) (h : m < 1000000000) : IntKind.wrap .i64 (m : Int) = (m : Int) := wrapS (by omega) (by omega)
/-- a call that compares -/
def CmpOk (P : Program) (orc : Orc) (fc : FuncId) (enc : α → List Value) (c : α → α → Int) : Prop := ∀ (x y : α) (h : Hp) (nx : Nat),
  Cv P orc true fc [.agg ⟨enc x⟩, .agg ⟨enc y⟩] h nx (fun v h' nx' => v = .int .i64 (c x y) ∧ nx ≤ nx' ∧ ∀ b, b < nx → hget h' b = hget h b)
def InsI (h : Hp) (nx bD n : Nat) (l : List α) (enc : α → List Value) (c : α → α → Int) (data : Value) (fc : FuncId) (i j : Nat) (tm : Tm) (h' : Hp) (nx' : Nat) : Prop :=
  tget tm 0 = data ∧ tget tm 1 = .int .i64 0 ∧ tget tm 2 = .int .i64 (n : Int) ∧ tget tm 3 = .func (.func fc) #[] #[] ∧ tget tm 8 = .int .i64 (i : Int) ∧ tget tm 9 = .int .i64 (j : Int) ∧ nx ≤ nx' ∧ i < n ∧ j ≤ i ∧
  ∃ M : List α, M.Perm l ∧ (∀ p q x y, p < q → q ≤ i → q ≠ j → M[p]? = some x → M[q]? = some y → ¬ c y x < 0) ∧ hget h' bD = some (.cells (flat enc M) false) ∧ ∀ b, b < nx → b ≠ bD → hget h' b = hget h b
def InsO (h : Hp) (nx bD n : Nat) (l : List α) (enc : α → List Value) (c : α → α → Int) (data : Value) (fc : FuncId) (i : Nat) (tm : Tm) (h' : Hp) (nx' : Nat) : Prop :=
  tget tm 0 = data ∧ tget tm 1 = .int .i64 0 ∧ tget tm 2 = .int .i64 (n : Int) ∧ tget tm 3 = .func (.func fc) #[] #[] ∧ tget tm 8 = .int .i64 (i : Int) ∧ nx ≤ nx' ∧ 1 ≤ i ∧
  ∃ M : List α, M.Perm l ∧ (∀ p q x y, p < q → q < i → M[p]? = some x → M[q]? = some y → ¬ c y x < 0) ∧ hget h' bD = some (.cells (flat enc M) false) ∧ ∀ b, b < nx → b ≠ bD → hget h' b = hget h b
def insTest (k : Nat) : List CI := [⟨none, (some 18), 0, .pur (.mv (.t 9))⟩,
        ⟨none, (some 19), 0, .pur (.mv (.t 1))⟩,
        ⟨none, (some 20), 0, .pur (.bin .gtr 3 (.t 18) (.t 19))⟩,
        ⟨none, (some 21), 0, .pur (.mv (.t 20))⟩,
        ⟨(some (21, true)), (some 22), 0, .pur (.mv (.t 3))⟩,
        ⟨(some (21, true)), (some 23), 0, .pur (.mv (.t 0))⟩,
        ⟨(some (21, true)), (some 24), 0, .pur (.mv (.t 9))⟩,
        ⟨(some (21, true)), (some 25), 0, .pur (.ixA (.slice k) (.t 23) (.t 24))⟩,
        ⟨(some (21, true)), (some 26), 0, .red (.ld (some k) (.t 25))⟩,
        ⟨(some (21, true)), (some 27), 0, .pur (.mv (.t 0))⟩,
        ⟨(some (21, true)), (some 28), 0, .pur (.mv (.t 9))⟩,
        ⟨(some (21, true)), (some 29), 0, .pur (.bin .sub 3 (.t 28) (.v (.int .i64 1)))⟩,
        ⟨(some (21, true)), (some 30), 0, .pur (.ixA (.slice k) (.t 27) (.t 29))⟩,
        ⟨(some (21, true)), (some 31), 0, .red (.ld (some k) (.t 30))⟩,
        ⟨(some (21, true)), (some 32), 0, .eff (.callv (.t 22) [(.t 26), (.t 31)])⟩,
        ⟨(some (21, true)), (some 33), 0, .pur (.bin .lss 3 (.t 32) (.v (.int .i64 0)))⟩,
        ⟨none, (some 34), 0, .pur (.pick (.t 21) (.t 33) (.v (.bool false)))⟩]
def insSwap (k : Nat) : List CI := [⟨none, (some 37), 0, .pur (.mv (.t 0))⟩,
         ⟨none, (some 38), 0, .pur (.mv (.t 9))⟩,
         ⟨none, (some 42), 0, .pur (.mv (.t 0))⟩,
         ⟨none, (some 43), 0, .pur (.mv (.t 9))⟩,
         ⟨none, (some 44), 0, .pur (.bin .sub 3 (.t 43) (.v (.int .i64 1)))⟩,
         ⟨none, (some 45), 0, .pur (.ixA (.slice k) (.t 42) (.t 44))⟩,
         ⟨none, (some 46), 0, .red (.ld (some k) (.t 45))⟩,
         ⟨none, (some 47), 0, .pur (.mv (.t 0))⟩,
         ⟨none, (some 48), 0, .pur (.mv (.t 9))⟩,
         ⟨none, (some 49), 0, .pur (.ixA (.slice k) (.t 47) (.t 48))⟩,
         ⟨none, (some 50), 0, .red (.ld (some k) (.t 49))⟩,
         ⟨none, (some 51), 0, .pur (.ixA (.slice k) (.t 37) (.t 38))⟩,
         ⟨none, none, 0, .eff (.st k (.t 51) (.t 46))⟩,
         ⟨none, (some 39), 1, .pur (.mv (.t 0))⟩,
         ⟨none, (some 40), 1, .pur (.mv (.t 9))⟩,
         ⟨none, (some 41), 1, .pur (.bin .sub 3 (.t 40) (.v (.int .i64 1)))⟩,
         ⟨none, (some 52), 0, .pur (.ixA (.slice k) (.t 39) (.t 41))⟩,
         ⟨none, none, 0, .eff (.st k (.t 52) (.t 50))⟩]
theorem load_flat {enc : α → List Value} {k : Nat} (hk : ∀ x, (enc x).length = k) {M : List α} {j : Nat} {x : α} (hx : M[j]? = some x) : loadC (some k) (0 + j * k) (flat enc M) = .ok (.agg ⟨enc x⟩) := by
  have hj : j < M.length := by
    rcases Nat.lt_or_ge j M.length with h | h
    · exact h
    · rw [List.getElem?_eq_none h] at hx; cases hx
  rw [loadC_many, Nat.zero_add, if_pos (by rw [flat_len hk]; have := Nat.mul_le_mul_right k (show j + 1 ≤ M.length by omega); rw [Nat.succ_mul] at this; omega), flat_get hk hx]
theorem store_flat {enc : α → List Value} {k : Nat} (hk : ∀ x, (enc x).length = k) (hcell : ∀ x, cellL (enc x) = true) {h : Hp} {b : Nat} {M : List α} (hM : hget h b = some (.cells (flat enc M) false)) {j : Nat} (hj : j < M.length) (x : α) :
    cSt h k (vcells (.agg ⟨enc x⟩)) ⟨b, 0 + j * k, none⟩ = .ok (hset h b (.cells (flat enc (M.set j x)) false)) := by
  unfold cSt writeA
  show (bif Nat.beq (llen (enc x)) k then _ else _) = _
  rw [llen_eq, hk, Nat.beq_refl]
  simp only [cond_true, cellsOf_some hM]
  show (bif cellL (enc x) then R.of _ (lput (enc x) (flat enc M) (0 + j * k)) _ else _) = _
  rw [hcell, Nat.zero_add, flat_put hk x hj]
  rfl
theorem insTest_cv {k fc : Nat} {s : Bool} {enc : α → List Value} (hk : ∀ x, (enc x).length = k) {c : α → α → Int} (hcmp : CmpOk P orc fc enc c)
    {h : Hp} {nx bD n cap : Nat} {sp : Option Nat} {M : List α} {J j : Nat} {x1 x0 : α} (hJ : J = j + 1) (hJn : J < n) (hn : n ≤ 1000) (hx1 : M[J]? = some x1) (hx0 : M[j]? = some x0) (hM : hget h bD = some (.cells (flat enc M) false)) {tm : Tm}
    (t0 : tget tm 0 = .slice (some ⟨bD, 0, sp⟩) n cap) (t1 : tget tm 1 = .int .i64 0) (t3 : tget tm 3 = .func (.func fc) #[] #[]) (t9 : tget tm 9 = .int .i64 (J : Int)) {K : KS'}
    (hK : ∀ tm' h' nx', nx ≤ nx' → (∀ b, b < nx → hget h' b = hget h b) → (∀ t, t < 18 → tget tm' t = tget tm t) → tget tm' 34 = .bool (decide (c x1 x0 < 0)) → K tm' h' nx') :
    Dv P orc s (insTest k) tm h nx h [] K := by
  have hw : IntKind.wrap .i64 ((J : Int) - 1) = (j : Int) := by rw [show (J : Int) - 1 = (j : Int) by omega]; exact wrapN j (by omega)
  have hpos : decide ((0 : Int) < (J : Int)) = true := by simp; omega
  unfold insTest
  simp only [Dv_pur, c_mv, c_bin, cev_t, cev_v, RK_ok, putT_some, tgs, t9, t1, bin_gtr, hpos, ↓reduceIte, Nat.reduceEqDiff]
  simp only [Dv_g, tgs, ↓reduceIte, Nat.reduceEqDiff, boolIs, cond_true, Dv_pur, c_mv, cev_t, RK_ok, putT_some, t0, t3, t9, c_ixA, natR_nat, oIx_slice, if_pos hJn]
  simp only [Dv_red, c_ld, cev_t, tgs, ↓reduceIte, Nat.reduceEqDiff, addrR_ptr, cellsOf_some hM, load_flat hk hx1, RK_ok, cagree, true_and, putT_some, Dv_g, boolIs, cond_true, Dv_pur, c_mv, t0, t9]
  simp only [Dv_g, tgs, ↓reduceIte, Nat.reduceEqDiff, boolIs, cond_true, Dv_pur, c_bin, c_ixA, cev_t, cev_v, bin_sub, hw, RK_ok, putT_some, natR_nat, oIx_slice, if_pos (show j < n by omega)]
  simp only [Dv_red, Dv_g, boolIs, cond_true, c_ld, cev_t, tgs, ↓reduceIte, Nat.reduceEqDiff, addrR_ptr, cellsOf_some hM, load_flat hk hx0, RK_ok, cagree, true_and, putT_some]
  refine Dv_call' (f := fc) (args := [.agg ⟨enc x1⟩, .agg ⟨enc x0⟩]) (h1 := h) (nx1 := nx) ?_ ?_
  · simp [ceff, callV, t3, lapp_eq]
  refine (hcmp x1 x0 h nx).mono ?_
  rintro v h2 nx2 ⟨rfl, hnx2, hfr2⟩
  refine ⟨hnx2, ?_⟩
  simp only [Dv_g, tgs, ↓reduceIte, Nat.reduceEqDiff, boolIs, cond_true, Dv_pur, c_bin, c_pick, cev_t, cev_v, bin_lss, RK_ok, putT_some, cPick_bool, Dv_nil]
  refine hK _ _ _ hnx2 hfr2 (fun t ht => ?_) (by simp)
  simp only [tgs]
  simp [show t ≠ 18 by omega, show t ≠ 19 by omega, show t ≠ 20 by omega, show t ≠ 21 by omega, show t ≠ 22 by omega, show t ≠ 23 by omega, show t ≠ 24 by omega, show t ≠ 25 by omega, show t ≠ 26 by omega, show t ≠ 27 by omega, show t ≠ 28 by omega, show t ≠ 29 by omega, show t ≠ 30 by omega, show t ≠ 31 by omega, show t ≠ 32 by omega, show t ≠ 33 by omega, show t ≠ 34 by omega]

theorem Dv_skp {s : Bool} {t d c : Nat} {e : CP} {is : List CI} {tm : Tm} {h : Hp} {nx : Nat} {b : Hp} {hs : List Hp} {K : KS'} (ht : tget tm t = .bool false) : Dv P orc s (⟨some (t, true), some d, c, .pur e⟩ :: is) tm h nx b hs K ↔ Dv P orc s is (tset tm d undefV) h nx b hs K := by
  rw [Dv_g, ht]; simp [boolIs, isEffC]
theorem Dv_skr {s : Bool} {t d c : Nat} {e : CRd} {is : List CI} {tm : Tm} {h : Hp} {nx : Nat} {b : Hp} {hs : List Hp} {K : KS'} (ht : tget tm t = .bool false) : Dv P orc s (⟨some (t, true), some d, c, .red e⟩ :: is) tm h nx b hs K ↔ Dv P orc s is (tset tm d undefV) h nx b hs K := by
  rw [Dv_g, ht]; simp [boolIs, isEffC]
theorem Dv_ske {s : Bool} {t d c : Nat} {e : CE} {is : List CI} {tm : Tm} {h : Hp} {nx : Nat} {b : Hp} {hs : List Hp} {K : KS'} (ht : tget tm t = .bool false) : Dv P orc s (⟨some (t, true), some d, c, .eff e⟩ :: is) tm h nx b hs K ↔ Dv P orc s is (tset tm d undefV) h nx h (b :: hs) K := by
  rw [Dv_g, ht]; simp [boolIs, isEffC]
theorem insTest0_cv {k : Nat} {s : Bool} {h : Hp} {nx : Nat} {tm : Tm} (t1 : tget tm 1 = .int .i64 0) (t9 : tget tm 9 = .int .i64 ((0 : Nat) : Int)) {K : KS'}
    (hK : ∀ tm', (∀ t, t < 18 → tget tm' t = tget tm t) → tget tm' 34 = .bool false → K tm' h nx) : Dv P orc s (insTest k) tm h nx h [] K := by
  unfold insTest
  simp only [Dv_pur, c_mv, c_bin, cev_t, cev_v, RK_ok, putT_some, tgs, t9, t1, bin_gtr, ↓reduceIte, Nat.reduceEqDiff, show decide ((0 : Int) < ((0 : Nat) : Int)) = false from rfl]
  repeat (first | rw [Dv_skp (by simp)] | rw [Dv_skr (by simp)] | rw [Dv_ske (by simp)])
  simp only [Dv_pur, c_pick, cev_t, cev_v, tgs, ↓reduceIte, Nat.reduceEqDiff, cPick_bool, Bool.false_eq_true, RK_ok, putT_some, Dv_nil]
  refine hK _ (fun t ht => ?_) (by simp)
  simp only [tgs]
  simp [show t ≠ 18 by omega, show t ≠ 19 by omega, show t ≠ 20 by omega, show t ≠ 21 by omega, show t ≠ 22 by omega, show t ≠ 23 by omega, show t ≠ 24 by omega, show t ≠ 25 by omega, show t ≠ 26 by omega, show t ≠ 27 by omega, show t ≠ 28 by omega, show t ≠ 29 by omega, show t ≠ 30 by omega, show t ≠ 31 by omega, show t ≠ 32 by omega, show t ≠ 33 by omega, show t ≠ 34 by omega]
theorem insSwap_cv {k : Nat} {s : Bool} {enc : α → List Value} (hk : ∀ x, (enc x).length = k) (hcell : ∀ x, cellL (enc x) = true)
    {h : Hp} {nx bD n cap : Nat} {sp : Option Nat} {M : List α} (hMl : M.length = n) {J j : Nat} {x1 x0 : α} (hJ : J = j + 1) (hJn : J < n) (hn : n ≤ 1000) (hx1 : M[J]? = some x1) (hx0 : M[j]? = some x0) (hM : hget h bD = some (.cells (flat enc M) false)) {tm : Tm}
    (t0 : tget tm 0 = .slice (some ⟨bD, 0, sp⟩) n cap) (t9 : tget tm 9 = .int .i64 (J : Int)) {K : KS'}
    (hK : ∀ tm' h', (∀ t, t < 35 → tget tm' t = tget tm t) → hget h' bD = some (.cells (flat enc ((M.set J x0).set j x1)) false) → (∀ b, b ≠ bD → hget h' b = hget h b) → K tm' h' nx) :
    Dv P orc s (insSwap k) tm h nx h [] K := by
  have hw : IntKind.wrap .i64 ((J : Int) - 1) = (j : Int) := by rw [show (J : Int) - 1 = (j : Int) by omega]; exact wrapN j (by omega)
  have hst1 := store_flat hk hcell hM (j := J) (by omega) x0
  have hM2 : hget (hset h bD (.cells (flat enc (M.set J x0)) false)) bD = some (.cells (flat enc (M.set J x0)) false) := by simp
  have hst2 := store_flat hk hcell hM2 (j := j) (by rw [List.length_set]; omega) x1
  unfold insSwap
  simp only [Dv_pur, c_mv, c_bin, c_ixA, cev_t, cev_v, RK_ok, putT_some, tgs, t9, t0, bin_sub, hw, ↓reduceIte, Nat.reduceEqDiff, natR_nat, oIx_slice, if_pos (show j < n by omega)]
  simp only [Dv_red, c_ld, cev_t, tgs, ↓reduceIte, Nat.reduceEqDiff, addrR_ptr, cellsOf_some hM, load_flat hk hx0, RK_ok, cagree, true_and, putT_some]
  simp only [Dv_pur, c_mv, c_ixA, cev_t, RK_ok, putT_some, tgs, t9, t0, ↓reduceIte, Nat.reduceEqDiff, natR_nat, oIx_slice, if_pos hJn]
  simp only [Dv_red, c_ld, cev_t, tgs, ↓reduceIte, Nat.reduceEqDiff, addrR_ptr, cellsOf_some hM, load_flat hk hx1, RK_ok, cagree, true_and, putT_some]
  simp only [Dv_pur, c_mv, c_ixA, cev_t, RK_ok, putT_some, tgs, t9, t0, ↓reduceIte, Nat.reduceEqDiff, natR_nat, oIx_slice, if_pos hJn]
  simp only [Dv_st, cev_t, tgs, ↓reduceIte, Nat.reduceEqDiff, addrR_ptr, hst1, RK_ok, putT_none]
  simp only [Dv_pur, c_mv, c_bin, c_ixA, cev_t, cev_v, RK_ok, putT_some, tgs, t9, t0, bin_sub, hw, ↓reduceIte, Nat.reduceEqDiff, natR_nat, oIx_slice, if_pos (show j < n by omega)]
  simp only [Dv_st, cev_t, tgs, ↓reduceIte, Nat.reduceEqDiff, addrR_ptr, hst2, RK_ok, putT_none, Dv_nil]
  refine hK _ _ (fun t ht => ?_) (by simp) (fun b hb => by simp [hb])
  simp only [tgs]
  simp [show t ≠ 37 by omega, show t ≠ 38 by omega, show t ≠ 39 by omega, show t ≠ 40 by omega, show t ≠ 41 by omega, show t ≠ 42 by omega, show t ≠ 43 by omega, show t ≠ 44 by omega, show t ≠ 45 by omega, show t ≠ 46 by omega, show t ≠ 47 by omega, show t ≠ 48 by omega, show t ≠ 49 by omega, show t ≠ 50 by omega, show t ≠ 51 by omega, show t ≠ 52 by omega]
theorem swap_perm {M : List α} {j : Nat} {x0 x1 : α} (h0 : M[j]? = some x0) (h1 : M[j + 1]? = some x1) : ((M.set (j + 1) x0).set j x1).Perm M := by
  induction M generalizing j with
  | nil => simp at h0
  | cons y M ih =>
    cases j with
    | zero =>
      cases M with
      | nil => simp at h1
      | cons z M =>
        simp at h0 h1
        subst h0 h1
        simpa using List.Perm.swap ..
    | succ j => simpa using (ih (j := j) (by simpa using h0) (by simpa using h1)).cons y
theorem ins_cv {fi k fc : Nat} {s : Bool} (hcf : compAt P fi = some (cfIns k)) (ho : orc fi = none) {enc : α → List Value} (hk : ∀ x, (enc x).length = k) (hcell : ∀ x, cellL (enc x) = true) {c : α → α → Int} (hcmp : CmpOk P orc fc enc c)
    (htr : ∀ x y z, ¬ c y x < 0 → ¬ c z y < 0 → ¬ c z x < 0) (has : ∀ x y, c x y < 0 → ¬ c y x < 0)
    {h : Hp} {nx bD n cap : Nat} {sp : Option Nat} {l : List α} (hl : l.length = n) (hn : n ≤ 1000) (hb : bD < nx) (hh : hget h bD = some (.cells (flat enc l) false)) :
    Cv P orc s fi [.slice (some ⟨bD, 0, sp⟩) n cap, .int .i64 0, .int .i64 (n : Int), .func (.func fc) #[] #[]] h nx
      (fun _ h' nx' => nx ≤ nx' ∧ (∃ l' : List α, l'.Perm l ∧ l'.Pairwise (fun x y => ¬ c y x < 0) ∧ hget h' bD = some (.cells (flat enc l') false)) ∧ ∀ b, b < nx → b ≠ bD → hget h' b = hget h b) := by
  refine Cv.enter ho hcf ?_
  unfold cfIns
  refine Ev.seq (Ev.regO ?_)
  simp [Ov_pur, Ov_nil, show IntKind.wrap .i64 1 = 1 from wrapN 1 (by omega)]
  refine Ev.block (Ev.loop (fun m tm h' nx' => ∃ i, m = n - i ∧ InsO h nx bD n l enc c (.slice (some ⟨bD, 0, sp⟩) n cap) fc i tm h' nx') ?_ (n - 1) _ _ _ ⟨1, rfl, by simp, by simp, by simp, by simp, by simp, Nat.le_refl _, Nat.le_refl _, l, List.Perm.refl _, fun p q x y h1 h2 => by omega, hh, fun _ _ _ => rfl⟩)
  rintro m tm h1 nx1 ⟨i, rfl, t0, t1, t2, t3, t8, hnx1, hi1, M, hperm, hsort, hM, hfr⟩
  have hMl : M.length = n := hperm.length_eq.trans hl
  refine Ev.seq (Ev.seq (Ev.regO ?_))
  simp [Ov_pur, Ov_nil, t8, t2]
  refine Ev.cond (decide (i < n)) (by simp) (fun hin => Ev.skip ?_) fun hin => Ev.exit ?_
  · simp at hin ⊢
    refine Ev.seq (Ev.block (Ev.seq (Ev.regO ?_)))
    simp [Ov_pur, Ov_nil, t8]
    refine Ev.block (Ev.loop (fun m tm h' nx' => InsI h nx bD n l enc c (.slice (some ⟨bD, 0, sp⟩) n cap) fc i m tm h' nx') ?_ i _ _ _ ⟨by simp [t0], by simp [t1], by simp [t2], by simp [t3], by simp [t8], by simp, hnx1, hin, Nat.le_refl _, M, hperm, fun p q x y a b d => hsort p q x y a (by omega), hM, hfr⟩)
    clear hsort hM hfr hperm hMl t0 t1 t2 t3 t8 hnx1
    clear M
    rintro j tm h1 nx1 ⟨t0, t1, t2, t3, t8, t9, hnx1, _, hji, M, hperm, hsort, hM, hfr⟩
    have hMl : M.length = n := hperm.length_eq.trans hl
    -- the step of the outer loop
    have outer : ∀ (tm : Tm) (h1 : Hp) (nx1 : Nat), tget tm 0 = .slice (some ⟨bD, 0, sp⟩) n cap → tget tm 1 = .int .i64 0 → tget tm 2 = .int .i64 (n : Int) → tget tm 3 = .func (.func fc) #[] #[] → tget tm 8 = .int .i64 (i : Int) → nx ≤ nx1 →
        (∀ p q x y, p < q → q ≤ i → M[p]? = some x → M[q]? = some y → ¬ c y x < 0) → hget h1 bD = some (.cells (flat enc M) false) → (∀ b, b < nx → b ≠ bD → hget h1 b = hget h b) →
        ∃ m', m' < n - i ∧ ∃ i', m' = n - i' ∧ InsO h nx bD n l enc c (.slice (some ⟨bD, 0, sp⟩) n cap) fc i' (tset (tset (tset tm 15 (.int .i64 (i : Int))) 16 (.int .i64 (IntKind.wrap .i64 ((i : Int) + 1)))) 8 (.int .i64 (IntKind.wrap .i64 ((i : Int) + 1)))) h1 nx1 := by
      intro tm h1 nx1 t0 t1 t2 t3 t8 hnx1 hs hM hfr
      refine ⟨n - (i + 1), by omega, i + 1, rfl, by simp [t0], by simp [t1], by simp [t2], by simp [t3], by simp; exact wrapN (i + 1) (by omega), hnx1, by omega, M, hperm, fun p q x y a b => hs p q x y a (by omega), hM, hfr⟩
    cases j with
    | zero =>
      refine Ev.seq (Ev.seq (Ev.regD ?_))
      refine insTest0_cv (k := k) t1 t9 ?_
      intro tm2 hlow t34
      have u0 := (hlow 0 (by omega)).trans t0
      have u1 := (hlow 1 (by omega)).trans t1
      have u2 := (hlow 2 (by omega)).trans t2
      have u3 := (hlow 3 (by omega)).trans t3
      have u8 := (hlow 8 (by omega)).trans t8
      refine Ev.cond false t34 (by simp) fun _ => Ev.exit ?_
      simp only [nextK_exit, blkK_exit, ↓reduceIte, blkK_normal, nextK_normal]
      refine Ev.regO ?_
      simp only [Ov_pur, c_mv, c_bin, cev_t, cev_v, RK_ok, putT_some, tgs, u8, bin_add, ↓reduceIte, Nat.reduceEqDiff, Ov_nil, nextK_normal]
      exact outer _ _ _ u0 u1 u2 u3 u8 hnx1 (fun p q x y a b => hsort p q x y a b (by omega)) hM hfr
    | succ j =>
      have hjn : j + 1 < M.length := by omega
      obtain ⟨x1, hx1⟩ : ∃ x, M[j + 1]? = some x := ⟨_, List.getElem?_eq_getElem hjn⟩
      obtain ⟨x0, hx0⟩ : ∃ x, M[j]? = some x := ⟨_, List.getElem?_eq_getElem (by omega)⟩
      refine Ev.seq (Ev.seq (Ev.regD ?_))
      refine insTest_cv (J := j + 1) (j := j) hk hcmp rfl (by omega) hn hx1 hx0 hM t0 t1 t3 t9 ?_
      intro tm2 h2 nx2 hnx2 hfr2 hlow t34
      have u0 := (hlow 0 (by omega)).trans t0
      have u1 := (hlow 1 (by omega)).trans t1
      have u2 := (hlow 2 (by omega)).trans t2
      have u3 := (hlow 3 (by omega)).trans t3
      have u8 := (hlow 8 (by omega)).trans t8
      have u9 := (hlow 9 (by omega)).trans t9
      have hM2 : hget h2 bD = some (.cells (flat enc M) false) := by rw [hfr2 _ (by omega)]; exact hM
      have hf2 : ∀ b, b < nx → b ≠ bD → hget h2 b = hget h b := fun b a d => by rw [hfr2 _ (by omega)]; exact hfr b a d
      refine Ev.cond (decide (c x1 x0 < 0)) t34 (fun hlt => Ev.skip ?_) fun hge => Ev.exit ?_
      · simp only [decide_eq_true_eq] at hlt
        simp only [nextK_normal]
        refine Ev.seq (Ev.block (Ev.regD ?_))
        refine insSwap_cv (J := j + 1) (j := j) hk hcell hMl rfl (by omega) hn hx1 hx0 hM2 u0 u9 ?_
        intro tm3 h3 hlow3 hM3 hf3
        simp only [blkK_normal, nextK_normal]
        refine Ev.regO ?_
        have v9 := (hlow3 9 (by omega)).trans u9
        have hw : IntKind.wrap .i64 (((j + 1 : Nat) : Int) - 1) = (j : Int) := by rw [show ((j + 1 : Nat) : Int) - 1 = (j : Int) by omega]; exact wrapN j (by omega)
        simp only [Ov_pur, c_mv, c_bin, cev_t, cev_v, RK_ok, putT_some, tgs, v9, bin_sub, hw, ↓reduceIte, Nat.reduceEqDiff, Ov_nil, nextK_normal]
        refine ⟨j, by omega, by simp [hlow3 0 (by omega), u0], by simp [hlow3 1 (by omega), u1], by simp [hlow3 2 (by omega), u2], by simp [hlow3 3 (by omega), u3], by simp [hlow3 8 (by omega), u8], by simp, by omega, hin, by omega, _, (swap_perm hx0 hx1).trans hperm, ?_, hM3, fun b a d => by rw [hf3 b d]; exact hf2 b a d⟩
        intro p q x y hpq hqi hqj hp hq
        have hg : ∀ t, ((M.set (j + 1) x0).set j x1)[t]? = if t = j then some x1 else if t = j + 1 then some x0 else M[t]? := fun t => by
          rw [List.getElem?_set, List.getElem?_set]
          simp only [List.length_set]
          by_cases e : t = j
          · subst e; simp; omega
          · by_cases e' : t = j + 1
            · subst e'; simp; omega
            · simp [e, e', Ne.symm e, Ne.symm e', show ¬ j = t by omega, show ¬ j + 1 = t by omega]
        rw [hg] at hp hq
        have hle : ¬ c x0 x1 < 0 := has _ _ hlt
        by_cases q1 : q = j + 1
        · subst q1
          rw [if_neg (by omega), if_pos rfl] at hq
          cases hq
          by_cases p1 : p = j
          · subst p1; rw [if_pos rfl] at hp; cases hp; exact hle
          · rw [if_neg p1, if_neg (by omega)] at hp
            exact hsort p j x _ (by omega) (by omega) (by omega) hp hx0
        · rw [if_neg hqj, if_neg q1] at hq
          by_cases p1 : p = j
          · subst p1; rw [if_pos rfl] at hp; cases hp
            exact hsort (p + 1) q _ y (by omega) hqi q1 hx1 hq
          · by_cases p2 : p = j + 1
            · subst p2; rw [if_neg (by omega), if_pos rfl] at hp; cases hp
              exact hsort j q _ y (by omega) hqi q1 hx0 hq
            · rw [if_neg p1, if_neg p2] at hp
              exact hsort p q x y hpq hqi q1 hp hq
      · simp only [decide_eq_false_iff_not] at hge
        simp only [nextK_exit, blkK_exit, ↓reduceIte, blkK_normal, nextK_normal]
        refine Ev.regO ?_
        simp only [Ov_pur, c_mv, c_bin, cev_t, cev_v, RK_ok, putT_some, tgs, u8, bin_add, ↓reduceIte, Nat.reduceEqDiff, Ov_nil, nextK_normal]
        refine outer _ _ _ u0 u1 u2 u3 u8 (by omega) ?_ hM2 hf2
        intro p q x y hpq hqi hp hq
        by_cases q1 : q = j + 1
        · subst q1
          rw [hx1] at hq; cases hq
          by_cases p1 : p = j
          · subst p1; rw [hx0] at hp; cases hp; exact hge
          · exact htr _ _ _ (hsort p j x x0 (by omega) (by omega) (by omega) hp hx0) hge
        · exact hsort p q x y hpq hqi q1 hp hq
  · simp at hin ⊢
    refine ⟨hnx1, ⟨M, hperm, ?_, hM⟩, hfr⟩
    rw [List.pairwise_iff_getElem]
    intro p q hp hq hpq
    exact Int.not_lt.1 (hsort p q _ _ hpq (by omega) (List.getElem?_eq_getElem hp) (List.getElem?_eq_getElem hq))
end
end Go.Ax

/-! part AxSort2 -/
namespace Go.Ax
open Go
set_option linter.unusedSimpArgs false
set_option linter.unusedVariables false

/-! # slices.SortFunc of at most twelve -/
def cfPdq (fi : Nat) (rest : CC) : CF := { res := [], body :=
 (.seq (.regO [⟨none, (some 10), 0, .pur (.mv (.v (.bool true)))⟩])
 (.seq (.regO [⟨none, (some 11), 0, .pur (.mv (.v (.bool true)))⟩])
 (.block 0
  (.loop
   (.block 1
    (.seq (.regO [⟨none, (some 21), 0, .pur (.mv (.t 2))⟩,
      ⟨none, (some 22), 0, .pur (.mv (.t 1))⟩,
      ⟨none, (some 23), 0, .pur (.bin .sub 3 (.t 21) (.t 22))⟩,
      ⟨none, (some 12), 0, .pur (.mv (.t 23))⟩])
    (.seq (.seq (.regO [⟨none, (some 24), 0, .pur (.mv (.t 12))⟩,
      ⟨none, (some 25), 0, .pur (.bin .leq 3 (.t 24) (.v (.int .i64 12)))⟩])
    (.cond (.t 25)
     (.seq (.regO [⟨none, (some 26), 0, .pur (.mv (.t 0))⟩,
       ⟨none, (some 27), 0, .pur (.mv (.t 1))⟩,
       ⟨none, (some 28), 0, .pur (.mv (.t 2))⟩,
       ⟨none, (some 29), 0, .pur (.mv (.t 4))⟩,
       ⟨none, (some 30), 0, .eff (.call fi [(.t 26), (.t 27), (.t 28), (.t 29)])⟩])
     .ret)
     .skip))
    rest))))))) }
def pdqRest (c : Option CF) : CC := match c with
  | some { body := .seq _ (.seq _ (.block _ (.loop (.block _ (.seq _ (.seq _ r)))))), res := _ } => r
  | _ => .skip
def cfSort (fl fp : Nat) : CF := { res := [], body :=
 (.seq (.regO [⟨none, (some 5), 0, .pur (.mv (.t 0))⟩,
   ⟨none, (some 6), 0, .red (.lens (.t 5))⟩,
   ⟨none, (some 4), 0, .pur (.mv (.t 6))⟩])
 (.regO [⟨none, (some 7), 0, .pur (.mv (.t 0))⟩,
   ⟨none, (some 8), 0, .pur (.mv (.t 4))⟩,
   ⟨none, (some 9), 0, .pur (.mv (.t 4))⟩,
   ⟨none, (some 10), 0, .pur (.conv (.int .u64) (.t 9))⟩,
   ⟨none, (some 11), 0, .eff (.call fl [(.t 10)])⟩,
   ⟨none, (some 12), 0, .pur (.mv (.t 1))⟩,
   ⟨none, (some 13), 0, .eff (.call fp [(.t 7), (.v (.int .i64 0)), (.t 8), (.t 11), (.t 12)])⟩])) }
section
variable {P : Program} {orc : Orc} {α : Type} {s : Bool}
/-- where the functions of a sort are, and what they compare by -/
structure SortAt (P : Program) (orc : Orc) (f fl fp fi k fc : Nat) (enc : α → List Value) (c : α → α → Int) : Prop where
  cf : compAt P f = some (cfSort fl fp)
  no : orc f = none
  len : ∀ (s : Bool) (n : Nat), n ≤ 12 → ∀ h nx, Cv P orc s fl [.int .u64 (n : Int)] h nx (fun _ h' nx' => h' = h ∧ nx' = nx)
  pdq : ∃ rest, compAt P fp = some (cfPdq fi rest)
  noP : orc fp = none
  ins : compAt P fi = some (cfIns k)
  noI : orc fi = none
  hk : ∀ x, (enc x).length = k
  cell : ∀ x, cellL (enc x) = true
  cmp : CmpOk P orc fc enc c
  tr : ∀ x y z, ¬ c y x < 0 → ¬ c z y < 0 → ¬ c z x < 0
  as : ∀ x y, c x y < 0 → ¬ c y x < 0
theorem wrapU (n : Nat) (h : n ≤ 12) : IntKind.wrap .u64 (n : Int) = (n : Int) := by
  rw [← fwrap_eq]
  show fwrapP .u64 n = _
  unfold fwrapP limU
  rw [blt_dec]
  simp [show n < 18446744073709551616 by omega]
theorem sort_cv {f fl fp fi k fc : Nat} {enc : α → List Value} {c : α → α → Int} (S : SortAt P orc f fl fp fi k fc enc c)
    {h : Hp} {nx bD n cap : Nat} {sp : Option Nat} {l : List α} (hl : l.length = n) (hn : n ≤ 12) (hb : bD < nx) (hh : hget h bD = some (.cells (flat enc l) false)) :
    Cv P orc s f [.slice (some ⟨bD, 0, sp⟩) n cap, .func (.func fc) #[] #[]] h nx
      (fun _ h' nx' => nx ≤ nx' ∧ (∃ l' : List α, l'.Perm l ∧ l'.Pairwise (fun x y => ¬ c y x < 0) ∧ hget h' bD = some (.cells (flat enc l') false)) ∧ ∀ b, b < nx → b ≠ bD → hget h' b = hget h b) := by
  refine Cv.enter S.no S.cf ?_
  unfold cfSort
  refine Ev.seq (Ev.regO ?_)
  simp [Ov_pur, Ov_red, Ov_nil]
  refine Ev.regO ?_
  simp [Ov_pur, wrapU n hn]
  refine Ov_call ?_
  simp
  refine (S.len s n hn h nx).mono ?_
  rintro v h' nx' ⟨rfl, rfl⟩
  simp [Ov_pur]
  refine Ov_call ?_
  simp
  obtain ⟨rest, hp⟩ := S.pdq
  refine (?_ : Cv P orc s fp _ h' nx' _)
  refine Cv.enter S.noP hp ?_
  unfold cfPdq
  refine Ev.seq (Ev.regO ?_)
  simp [Ov_pur, Ov_nil]
  refine Ev.seq (Ev.regO ?_)
  simp [Ov_pur, Ov_nil]
  refine Ev.block (Ev.loop (fun m tm h1 nx1 => h1 = h' ∧ nx1 = nx' ∧ tget tm 0 = .slice (some ⟨bD, 0, sp⟩) n cap ∧ tget tm 1 = .int .i64 0 ∧ tget tm 2 = .int .i64 (n : Int) ∧ tget tm 4 = .func (.func fc) #[] #[]) ?_ 0 _ _ _ ⟨rfl, rfl, by simp, by simp, by simp, by simp⟩)
  rintro m tm h1 nx1 ⟨rfl, rfl, t0, t1, t2, t4⟩
  have hle : decide ((12 : Int) < (n : Int)) = false := by simp; omega
  refine Ev.block (Ev.seq (Ev.regO ?_))
  simp only [Ov_pur, c_mv, c_bin, cev_t, cev_v, RK_ok, putT_some, tgs, t1, t2, bin_sub, bin_leq, ↓reduceIte, Nat.reduceEqDiff, Ov_nil, nextK_normal, show IntKind.wrap .i64 ((n : Int) - 0) = (n : Int) by rw [show (n : Int) - 0 = (n : Int) by omega]; exact wrapN n (by omega)]
  refine Ev.seq (Ev.seq (Ev.regO ?_))
  simp only [Ov_pur, c_mv, c_bin, cev_t, cev_v, RK_ok, putT_some, tgs, bin_leq, ↓reduceIte, Nat.reduceEqDiff, Ov_nil, nextK_normal, hle]
  refine Ev.cond true (by simp) (fun _ => ?_) (by simp)
  refine Ev.seq (Ev.regO ?_)
  simp only [Ov_pur, c_mv, cev_t, RK_ok, putT_some, tgs, t0, t1, t2, t4, ↓reduceIte, Nat.reduceEqDiff]
  refine Ov_call ?_
  simp only [cevs_cons, cevs_nil, cev_t, tgs, ↓reduceIte, Nat.reduceEqDiff]
  refine (ins_cv (s := s) S.ins S.noI S.hk S.cell S.cmp S.tr S.as hl (by omega) hb hh).mono ?_
  intro v h2 nx2 hk
  simp only [Ov_nil, nextK_normal]
  refine Ev.ret ?_
  simpa [Ov_nil] using hk
/-- what is in order is so in one way -/
theorem sorted_eq {R : α → α → Prop} (anti : ∀ x y, R x y → R y x → x = y) : ∀ {l l' : List α}, l.Perm l' → l.Pairwise R → l'.Pairwise R → l = l'
  | [], l', hp, _, _ => by rw [List.nil_perm.1 hp]
  | x :: l, [], hp, _, _ => by have := hp.length_eq; simp at this
  | x :: l, y :: l', hp, h1, h2 => by
    have hx : ∀ z ∈ l, R x z := fun z hz => List.rel_of_pairwise_cons h1 hz
    have hy : ∀ z ∈ l', R y z := fun z hz => List.rel_of_pairwise_cons h2 hz
    have exy : x = y := by
      have m1 : x ∈ y :: l' := hp.subset (by simp)
      have m2 : y ∈ x :: l := hp.symm.subset (by simp)
      rcases List.mem_cons.1 m1 with e | m1
      · exact e
      rcases List.mem_cons.1 m2 with e | m2
      · exact e.symm
      exact anti _ _ (hx y m2) (hy x m1)
    subst exy
    rw [sorted_eq anti (List.Perm.cons_inv hp) (List.Pairwise.of_cons h1) (List.Pairwise.of_cons h2)]
end
end Go.Ax

/-! part AxOr3 -/
namespace Go.Ax
open Go
set_option linter.unusedSimpArgs false
set_option linter.unusedVariables false

/-! # cmp.Compare, cmp.Or -/
def cfNaN (ty : Nat) : CF := { res := [.tmp 2], body :=
 (.seq (.regO [⟨none, (some 2), 0, .pur (.mv (.v (.bool false)))⟩])
 (.seq (.regO [⟨none, (some 3), 0, .pur (.mv (.t 0))⟩,
   ⟨none, (some 4), 0, .pur (.mv (.t 0))⟩,
   ⟨none, (some 5), 0, .pur (.bin .neq ty (.t 3) (.t 4))⟩,
   ⟨none, (some 2), 0, .pur (.mv (.t 5))⟩])
 .ret)) }
def cfCmp (ty fn : Nat) : CF := { res := [.tmp 4], body :=
 (.seq (.regO [⟨none, (some 4), 0, .pur (.mv (.v (.int .i64 0)))⟩])
 (.seq (.regO [⟨none, (some 7), 0, .pur (.mv (.t 0))⟩,
   ⟨none, (some 8), 0, .eff (.call fn [(.t 7)])⟩,
   ⟨none, (some 5), 0, .pur (.mv (.t 8))⟩])
 (.seq (.regO [⟨none, (some 9), 0, .pur (.mv (.t 1))⟩,
   ⟨none, (some 10), 0, .eff (.call fn [(.t 9)])⟩,
   ⟨none, (some 6), 0, .pur (.mv (.t 10))⟩])
 (.seq (.seq (.regO [⟨none, (some 11), 0, .pur (.mv (.t 5))⟩])
 (.cond (.t 11)
  (.seq (.seq (.regO [⟨none, (some 12), 0, .pur (.mv (.t 6))⟩])
  (.cond (.t 12)
   (.seq (.regO [⟨none, (some 4), 0, .pur (.mv (.v (.int .i64 0)))⟩])
   .ret)
   .skip))
  (.seq (.regO [⟨none, (some 4), 0, .pur (.mv (.v (.int .i64 (-1))))⟩])
  .ret))
  .skip))
 (.seq (.seq (.regO [⟨none, (some 13), 0, .pur (.mv (.t 6))⟩])
 (.cond (.t 13)
  (.seq (.regO [⟨none, (some 4), 0, .pur (.mv (.v (.int .i64 1)))⟩])
  .ret)
  .skip))
 (.seq (.seq (.regO [⟨none, (some 14), 0, .pur (.mv (.t 0))⟩,
   ⟨none, (some 15), 0, .pur (.mv (.t 1))⟩,
   ⟨none, (some 16), 0, .pur (.bin .lss ty (.t 14) (.t 15))⟩])
 (.cond (.t 16)
  (.seq (.regO [⟨none, (some 4), 0, .pur (.mv (.v (.int .i64 (-1))))⟩])
  .ret)
  .skip))
 (.seq (.seq (.regO [⟨none, (some 17), 0, .pur (.mv (.t 0))⟩,
   ⟨none, (some 18), 0, .pur (.mv (.t 1))⟩,
   ⟨none, (some 19), 0, .pur (.bin .gtr ty (.t 17) (.t 18))⟩])
 (.cond (.t 19)
  (.seq (.regO [⟨none, (some 4), 0, .pur (.mv (.v (.int .i64 1)))⟩])
  .ret)
  .skip))
 (.seq (.regO [⟨none, (some 4), 0, .pur (.mv (.v (.int .i64 0)))⟩])
 .ret)))))))) }
def cfOr : CF := { res := [.tmp 2], body :=
 (.seq (.regO [⟨none, (some 2), 0, .pur (.mv (.v (.int .i64 0)))⟩])
 (.seq (.regO [⟨none, (some 3), 0, .pur (.mv (.v (.int .i64 0)))⟩])
 (.seq (.seq (.regO [⟨none, (some 6), 0, .pur (.mv (.t 0))⟩,
   ⟨none, (some 7), 0, .red (.lens (.t 6))⟩,
   ⟨none, (some 8), 0, .pur (.mv (.v (.int .i64 0)))⟩])
 (.block 0
  (.loop
   (.seq (.regO [⟨none, (some 9), 0, .pur (.bin .lss 3 (.t 8) (.t 7))⟩])
   (.seq (.cond (.t 9)
    .skip
    (.exit 0))
   (.seq (.block 1
    (.seq (.regO [⟨none, (some 10), 0, .pur (.ixA (.slice 1) (.t 6) (.t 8))⟩,
      ⟨none, (some 11), 0, .red (.ld none (.t 10))⟩,
      ⟨none, (some 5), 0, .pur (.mv (.t 11))⟩])
    (.seq (.regO [⟨none, (some 12), 0, .pur (.mv (.t 5))⟩,
      ⟨none, (some 13), 0, .pur (.mv (.t 3))⟩,
      ⟨none, (some 14), 0, .pur (.bin .neq 3 (.t 12) (.t 13))⟩])
    (.cond (.t 14)
     (.seq (.regO [⟨none, (some 15), 0, .pur (.mv (.t 5))⟩,
       ⟨none, (some 2), 0, .pur (.mv (.t 15))⟩])
     .ret)
     .skip))))
   (.regO [⟨none, (some 16), 0, .pur (.bin .add 3 (.t 8) (.v (.int .i64 1)))⟩,
     ⟨none, (some 8), 0, .pur (.mv (.t 16))⟩])))))))
 (.seq (.regO [⟨none, (some 17), 0, .pur (.mv (.t 3))⟩,
   ⟨none, (some 2), 0, .pur (.mv (.t 17))⟩])
 .ret)))) }
def cmpI (a b : Int) : Int := if a < b then -1 else if b < a then 1 else 0
def orI : List Int → Int
  | [] => 0
  | x :: l => if x = 0 then orI l else x
section
variable {P : Program} {orc : Orc} {s : Bool}
theorem nan_cv {fn ty : Nat} (hn : compAt P fn = some (cfNaN ty)) (hon : orc fn = none) {q : IntKind} (a : Int) {h : Hp} {nx : Nat} : Cv P orc s fn [.int q a] h nx (fun v h' nx' => v = .bool false ∧ h' = h ∧ nx' = nx) := by
  refine Cv.enter hon hn ?_
  unfold cfNaN
  refine Ev.seq (Ev.regO ?_)
  simp [Ov_pur, Ov_nil]
  refine Ev.seq (Ev.regO ?_)
  simp [Ov_pur, Ov_nil]
  exact Ev.ret (by simp)
theorem cmp_cv {f fn ty : Nat} (hcf : compAt P f = some (cfCmp ty fn)) (ho : orc f = none) (hn : compAt P fn = some (cfNaN ty)) (hon : orc fn = none) {q : IntKind} (a b : Int) {h : Hp} {nx : Nat} :
    Cv P orc s f [.int q a, .int q b] h nx (fun v h' nx' => v = .int .i64 (cmpI a b) ∧ h' = h ∧ nx' = nx) := by
  refine Cv.enter ho hcf ?_
  unfold cfCmp
  refine Ev.seq (Ev.regO ?_)
  simp [Ov_pur, Ov_nil]
  refine Ev.seq (Ev.regO ?_)
  simp [Ov_pur]
  refine Ov_call ?_
  simp
  refine (nan_cv hn hon a).mono ?_
  rintro v h' nx' ⟨rfl, rfl, rfl⟩
  simp [Ov_pur, Ov_nil]
  refine Ev.seq (Ev.regO ?_)
  simp [Ov_pur]
  refine Ov_call ?_
  simp
  refine (nan_cv hn hon b).mono ?_
  rintro v h2 nx2 ⟨rfl, rfl, rfl⟩
  simp [Ov_pur, Ov_nil]
  refine Ev.seq (Ev.seq (Ev.regO ?_))
  simp [Ov_pur, Ov_nil]
  refine Ev.cond false (by simp) (by simp) fun _ => Ev.skip ?_
  simp
  refine Ev.seq (Ev.seq (Ev.regO ?_))
  simp [Ov_pur, Ov_nil]
  refine Ev.cond false (by simp) (by simp) fun _ => Ev.skip ?_
  simp
  refine Ev.seq (Ev.seq (Ev.regO ?_))
  simp [Ov_pur, Ov_nil]
  refine Ev.cond (decide (a < b)) (by simp) (fun hlt => ?_) fun hge => Ev.skip ?_
  · refine Ev.seq (Ev.regO ?_)
    simp [Ov_pur, Ov_nil]
    simp at hlt
    exact Ev.ret (by simp [cmpI, hlt])
  · simp at hge
    simp
    refine Ev.seq (Ev.seq (Ev.regO ?_))
    simp [Ov_pur, Ov_nil]
    refine Ev.cond (decide (b < a)) (by simp) (fun hlt => ?_) fun hge2 => Ev.skip ?_
    · refine Ev.seq (Ev.regO ?_)
      simp [Ov_pur, Ov_nil]
      simp at hlt
      exact Ev.ret (by simp [cmpI, hlt, show ¬ a < b by omega])
    · simp at hge2
      simp
      refine Ev.seq (Ev.regO ?_)
      simp [Ov_pur, Ov_nil]
      exact Ev.ret (by simp [cmpI, show ¬ a < b by omega, show ¬ b < a by omega])
theorem or_cv {f : Nat} (hcf : compAt P f = some cfOr) (ho : orc f = none) {h : Hp} {nx b cap : Nat} {sp : Option Nat} {ro : Bool} (xs : List Int) (hl : xs.length ≤ 1000) (hh : hget h b = some (.cells (xs.map (.int .i64)) ro)) :
    Cv P orc s f [.slice (some ⟨b, 0, sp⟩) xs.length cap] h nx (fun v h' nx' => v = .int .i64 (orI xs) ∧ h' = h ∧ nx' = nx) := by
  refine Cv.enter ho hcf ?_
  unfold cfOr
  refine Ev.seq (Ev.regO ?_)
  simp [Ov_pur, Ov_nil]
  refine Ev.seq (Ev.regO ?_)
  simp [Ov_pur, Ov_nil]
  refine Ev.seq (Ev.seq (Ev.regO ?_))
  simp [Ov_pur, Ov_red, Ov_nil]
  refine Ev.block (Ev.loop (fun m tm h1 nx1 => ∃ i : Nat, m = xs.length - i ∧ h1 = h ∧ nx1 = nx ∧ orI (xs.drop i) = orI xs ∧ tget tm 3 = .int .i64 0 ∧ tget tm 6 = .slice (some ⟨b, 0, sp⟩) xs.length cap ∧ tget tm 7 = .int .i64 (xs.length : Int) ∧ tget tm 8 = .int .i64 (i : Int)) ?_ xs.length _ _ _ ⟨0, rfl, rfl, rfl, rfl, by simp, by simp, by simp, by simp⟩)
  rintro m tm h1 nx1 ⟨i, rfl, rfl, rfl, hor, t3, t6, t7, t8⟩
  refine Ev.seq (Ev.regO ?_)
  simp only [Ov_pur, c_bin, cev_t, t8, t7, bin_lss, RK_ok, putT_some, Ov_nil, nextK_normal]
  refine Ev.seq (Ev.cond (decide ((i : Int) < (xs.length : Int))) (by simp) (fun hlt => Ev.skip ?_) fun hge => Ev.exit ?_)
  · simp only [decide_eq_true_eq, Int.ofNat_lt] at hlt
    simp only [nextK_normal]
    have hx : xs[i]? = some xs[i] := List.getElem?_eq_getElem hlt
    have hdrop : xs.drop i = xs[i] :: xs.drop (i + 1) := by simp
    generalize xs[i] = x at hx hdrop
    refine Ev.seq (Ev.block (Ev.seq (Ev.regO ?_)))
    simp only [Ov_pur, Ov_red, c_ixA, c_mv, c_ld, cev_t, tgs, t6, t8, ↓reduceIte, Nat.reduceEqDiff, natR_nat, oIx_slice, if_pos hlt, RK_ok, putT_some, addrR_ptr, cellsOf_some hh, loadC_one, Nat.zero_add, Nat.mul_one, List.getElem?_map, hx, Option.map_some, ofGet_some, Ov_nil, nextK_normal]
    refine Ev.seq (Ev.regO ?_)
    simp only [Ov_pur, c_mv, c_bin, cev_t, tgs, t3, ↓reduceIte, Nat.reduceEqDiff, bin_neq, RK_ok, putT_some, Ov_nil, nextK_normal]
    refine Ev.cond (!(x == 0)) (by simp) (fun hne => ?_) fun he => Ev.skip ?_
    · refine Ev.seq (Ev.regO ?_)
      simp only [Ov_pur, c_mv, cev_t, tgs, ↓reduceIte, Nat.reduceEqDiff, RK_ok, putT_some, Ov_nil, nextK_normal]
      refine Ev.ret ?_
      simp at hne
      rw [hdrop] at hor
      simp [← hor, orI, hne]
    · simp at he
      simp only [blkK_normal, nextK_normal]
      refine Ev.regO ?_
      simp only [Ov_pur, c_mv, c_bin, cev_t, cev_v, tgs, t8, ↓reduceIte, Nat.reduceEqDiff, bin_add, RK_ok, putT_some, Ov_nil, nextK_normal]
      refine ⟨xs.length - (i + 1), by omega, i + 1, rfl, trivial, trivial, ?_, by simp [t3], by simp [t6], by simp [t7], by simp; exact wrapN (i + 1) (by omega)⟩
      rw [← hor, hdrop]
      simp [orI, he]
  · simp only [decide_eq_false_iff_not, Int.ofNat_lt] at hge
    simp only [nextK_exit, blkK_exit, ↓reduceIte, nextK_normal]
    refine Ev.seq (Ev.regO ?_)
    simp only [Ov_pur, c_mv, cev_t, tgs, t3, ↓reduceIte, Nat.reduceEqDiff, RK_ok, putT_some, Ov_nil, nextK_normal]
    refine Ev.ret ?_
    rw [List.drop_of_length_le (by omega)] at hor
    simp [← hor, orI]

/-! # links by their ends -/
def encL (x : Int × Int) : List Value := [.int .i64 x.1, .int .i64 x.2]
def cmpL (x y : Int × Int) : Int := orI [cmpI x.1 y.1, cmpI x.2 y.2]
def cfLinkCmp (fc fo : Nat) : CF := { res := [.tmp 4], body :=
 (.seq (.regO [⟨none, (some 2), 0, .alc (.box (.t 0))⟩,
   ⟨none, (some 3), 0, .alc (.box (.t 1))⟩,
   ⟨none, (some 4), 0, .pur (.mv (.v (.int .i64 0)))⟩])
 (.seq (.regD [⟨none, (some 5), 0, .pur (.ixA (.array 2 1) (.t 2) (.v (.int .i64 0)))⟩,
   ⟨none, (some 6), 0, .red (.ld none (.t 5))⟩,
   ⟨none, (some 7), 0, .pur (.ixA (.array 2 1) (.t 3) (.v (.int .i64 0)))⟩,
   ⟨none, (some 8), 0, .red (.ld none (.t 7))⟩,
   ⟨none, (some 9), 0, .eff (.call fc [(.t 6), (.t 8)])⟩,
   ⟨none, (some 10), 1, .pur (.ixA (.array 2 1) (.t 2) (.v (.int .i64 1)))⟩,
   ⟨none, (some 11), 1, .red (.ld none (.t 10))⟩,
   ⟨none, (some 12), 1, .pur (.ixA (.array 2 1) (.t 3) (.v (.int .i64 1)))⟩,
   ⟨none, (some 13), 1, .red (.ld none (.t 12))⟩,
   ⟨none, (some 14), 0, .eff (.call fc [(.t 11), (.t 13)])⟩,
   ⟨none, (some 15), 0, .alc (.bsl 2 [(.int .i64 0), (.int .i64 0)] [(0, 1, (.t 9)), (1, 1, (.t 14))])⟩,
   ⟨none, (some 16), 0, .eff (.call fo [(.t 15)])⟩,
   ⟨none, (some 4), 0, .pur (.mv (.t 16))⟩])
 .ret)) }
theorem cagree1 {tm : Tm} {e : CRd} {q : IntKind} {n : Int} {h : Hp} {hs : List Hp} (he : cred P tm h e = .ok (.int q n)) : cagree P tm e (.int q n) 1 (h :: hs) = true := by
  unfold cagree
  rw [he]
  show (bif sameR (.int q n) (.ok (.int q n)) then true else false) = true
  have : sameR (.int q n) (.ok (.int q n)) = true := by
    show sameV (.int q n) (.int q n) = true
    show (keq q q && ieq n n) = true
    rw [keq_self, ieq_iff.2 rfl]; rfl
  rw [this]; rfl
theorem linkCmp_ok {f fc fn fo : Nat} (hcf : compAt P f = some (cfLinkCmp fc fo)) (ho : orc f = none) (hc : compAt P fc = some (cfCmp 3 fn)) (hoc : orc fc = none) (hn : compAt P fn = some (cfNaN 3)) (hon : orc fn = none) (hor : compAt P fo = some cfOr) (hoo : orc fo = none) :
    CmpOk P orc f encL cmpL := by
  intro x y h nx
  obtain ⟨x1, x2⟩ := x
  obtain ⟨y1, y2⟩ := y
  refine Cv.enter ho hcf ?_
  unfold cfLinkCmp
  refine Ev.seq (Ev.regO ?_)
  simp [Ov_pur, Ov_alc, Ov_nil, calq, encL, vcells, cellsNB, cellL, cellV, nbV, nbO]
  refine Ev.seq (Ev.regD ?_)
  have g1 : ∀ hp : Hp, hget (hset (hset hp nx (.cells [.int .i64 x1, .int .i64 x2] false)) (nx + 1) (.cells [.int .i64 y1, .int .i64 y2] false)) nx = some (.cells [.int .i64 x1, .int .i64 x2] false) := fun hp => by simp
  have g2 : ∀ hp : Hp, hget (hset hp (nx + 1) (.cells [.int .i64 y1, .int .i64 y2] false)) (nx + 1) = some (.cells [.int .i64 y1, .int .i64 y2] false) := fun hp => by simp
  simp [Dv_pur, Dv_red, Dv_nil, cellsOf_some (g1 _), cellsOf_some (g2 _), cagree]
  refine Dv_call ?_
  simp
  refine (cmp_cv hc hoc hn hon x1 y1).mono ?_
  rintro v h' nx' ⟨rfl, rfl, rfl⟩
  refine ⟨Nat.le_refl _, ?_⟩
  simp [Dv_pur, Dv_red, Dv_nil, cellsOf_some (g1 _), cellsOf_some (g2 _)]
  refine ⟨cagree1 (by simp [cellsOf_some (g1 _)]), cagree1 (by simp [cellsOf_some (g2 _)]), ?_⟩
  refine Dv_call ?_
  simp
  refine (cmp_cv hc hoc hn hon x2 y2).mono ?_
  rintro v h2 nx2 ⟨rfl, rfl, rfl⟩
  refine ⟨Nat.le_refl _, ?_⟩
  simp [Dv_pur, Dv_alc, Dv_nil, calq, cfillP, cfillS, vcells, lput, lputI, lput0, lput0I, lputN, lputS, llen, llenI, sliceNB, cellL, cellV, nbV, nbO]
  refine Dv_call ?_
  simp
  refine (or_cv hor hoo (sp := none) (ro := false) [cmpI x1 y1, cmpI x2 y2] (by simp) (by simp)).mono ?_
  rintro v h3 nx3 ⟨rfl, rfl, rfl⟩
  refine ⟨Nat.le_refl _, ?_⟩
  simp [Dv_pur, Dv_nil]
  refine Ev.ret ?_
  simp [cmpL]
  refine ⟨by omega, fun b hb => ?_⟩
  simp [show b ≠ nx by omega, show b ≠ nx + 1 by omega, show b ≠ nx + 2 by omega]
end
end Go.Ax

/-! part AxApp -/
namespace Go.Ax
open Go
set_option linter.unusedSimpArgs false
set_option linter.unusedVariables false

/-! # a slice that grows -/
section
variable {P : Program} {α : Type}
/-- a slice that was made by append: its parts, and where its block may be -/
def SlAt (h : Hp) (v : Value) (enc : α → List Value) (k : Nat) (l : List α) (lo hi : Nat) : Prop :=
  (l = [] ∧ v = .slice none 0 0) ∨ ∃ b, lo ≤ b ∧ b < hi ∧ v = .slice (some ⟨b, 0, some k⟩) l.length l.length ∧ hget h b = some (.cells (flat enc l) false)
theorem flat_app {enc : α → List Value} : ∀ (l : List α) (x : α), flat enc (l ++ [x]) = flat enc l ++ enc x
  | [], x => by simp [flat]
  | y :: l, x => by simp [flat, flat_app l x]
theorem hgd (h : Hp) (b k : Nat) : hget (hdel h b) k = if k = b then none else hget h k := hget_hdel h b k
theorem growN_eq {h : Hp} {nx s : Nat} {l : List Value} {need : Nat} (hs : 0 < s) : growN h nx s l need = .ok (.val (.slice (some ⟨nx, 0, some s⟩) need need) (hset h nx (.cells l false)) (nx + 1)) := by
  unfold growN
  cases s with
  | zero => omega
  | succ s => rfl
theorem readA_eq {h : Hp} {b off : Nat} {sp : Option Nat} {n : Nat} {cs : List Value} {ro : Bool} {k : List Value → R OR} (hh : hget h b = some (.cells cs ro)) (hn : 0 < n) (hl : n ≤ cs.length - off) : readA h (some ⟨b, off, sp⟩) n k = k ((cs.drop off).take n) := by
  cases n with
  | zero => omega
  | succ n =>
    show cellsOf h b (fun cs _ => R.of "read - out of block" (lcut (n + 1) (ldrop cs off)) k) = _
    rw [cellsOf_some hh, ldrop_eq, lcut_eq, if_pos (by rw [List.length_drop]; exact hl)]
    rfl
/-- one more -/
theorem app_cv {enc : α → List Value} {k : Nat} (hk : ∀ x, (enc x).length = k) (hcell : ∀ x, cellL (enc x) = true) (hk0 : 0 < k) {h : Hp} {nx lo : Nat} {v : Value} {l : List α} (hv : SlAt h v enc k l lo nx) (hlo : lo ≤ nx)
    {b2 o2 cap2 : Nat} {sp2 : Option Nat} {cs : List Value} {ro : Bool} {x : α} (h2 : hget h b2 = some (.cells cs ro)) (hx : (cs.drop o2).take k = enc x) (hsz : (l.length + 1) * k ≤ 1000000) :
    ∃ v' h', appendA k h nx v (.slice (some ⟨b2, o2, sp2⟩) 1 cap2) = .ok (.val v' h' (nx + 1)) ∧ SlAt h' v' enc k (l ++ [x]) lo (nx + 1) ∧ (∀ b, b < lo → hget h' b = hget h b) := by
  have hlen : k ≤ cs.length - o2 := by
    have := congrArg List.length hx
    rw [List.length_take, List.length_drop, hk] at this
    omega
  have h1 : l.length + 1 ≤ 1000000 := Nat.le_trans (by have := Nat.le_mul_of_pos_right (l.length + 1) hk0; omega) hsz
  rcases hv with ⟨rfl, rfl⟩ | ⟨b, hb1, hb2, rfl, hb⟩
  · refine ⟨.slice (some ⟨nx, 0, some k⟩) 1 1, hset h nx (.cells (enc x) false), ?_, .inr ⟨nx, hlo, by omega, rfl, by simp [flat]⟩, fun b hb => by simp [show b ≠ nx by omega]⟩
    unfold appendA
    simp only
    rw [Nat.mul_eq, Nat.one_mul, readA_eq h2 hk0 hlen, hx]
    unfold appGo
    have e1 : Nat.ble (Nat.add 0 1) 0 = false := rfl
    have e2 : (Nat.ble (Nat.mul (Nat.add 0 1) k) 1000000 && Nat.ble (Nat.add 0 1) 1000000) = true := by
      simp only [Bool.and_eq_true, Nat.ble_eq]
      simp at hsz
      exact ⟨by show (0 + 1) * k ≤ 1000000; omega, by show 0 + 1 ≤ 1000000; omega⟩
    rw [e1, e2]
    exact growN_eq hk0
  · refine ⟨.slice (some ⟨nx, 0, some k⟩) (l.length + 1) (l.length + 1), hset (hdel h b) nx (.cells (flat enc l ++ enc x) false), ?_, .inr ⟨nx, hlo, by omega, by simp, by simp [flat_app]⟩, fun c hc => by
      rw [hgs, if_neg (by omega), hgd, if_neg (by omega)]⟩
    unfold appendA
    simp only
    rw [Nat.mul_eq, Nat.one_mul, readA_eq h2 hk0 hlen, hx]
    unfold appGo
    have e1 : Nat.ble (Nat.add l.length 1) l.length = false := by
      cases hbl : Nat.ble (Nat.add l.length 1) l.length with
      | false => rfl
      | true => have := Nat.le_of_ble_eq_true hbl; have : l.length + 1 ≤ l.length := this; omega
    have e2 : (Nat.ble (Nat.mul (Nat.add l.length 1) k) 1000000 && Nat.ble (Nat.add l.length 1) 1000000) = true := by
      simp only [Bool.and_eq_true, Nat.ble_eq]
      exact ⟨hsz, h1⟩
    rw [e1, e2]
    show appUp h nx k (some ⟨b, 0, some k⟩) l.length l.length (l.length + 1) (enc x) = _
    unfold appUp
    simp only [cellsOf_some hb]
    have hcut : lcut (Nat.mul l.length k) (ldrop (flat enc l) 0) = some (flat enc l) := by
      rw [ldrop_eq, List.drop_zero, lcut_eq, if_pos (by rw [flat_len hk]; exact Nat.le_refl _)]
      rw [List.take_of_length_le (by rw [flat_len hk]; exact Nat.le_refl _)]
    rw [hcut]
    have e3 : (!false && Nat.beq 0 0 && Nat.beq (llen (flat enc l)) (Nat.mul l.length k) && Nat.beq k k && Nat.beq l.length l.length && cellL (enc x)) = true := by
      rw [llen_eq, flat_len hk, hcell]
      simp
    show (bif _ then _ else _) = _
    rw [e3, lapp_eq]
    exact growN_eq hk0
end
end Go.Ax

/-! part AxOr4 -/
namespace Go.Ax
open Go
set_option linter.unusedSimpArgs false
set_option linter.unusedVariables false

/-! # grid.links: in whatever order -/
def cfBoxLen (tb : Nat) : CF := { res := [.tmp 2], body :=
 (.seq (.regO [⟨none, (some 2), 0, .pur (.mv (.v (.int .i64 0)))⟩])
 (.seq (.seq (.regO [⟨none, (some 3), 0, .pur (.mv (.t 0))⟩,
   ⟨none, (some 4), 0, .pur (.bin .eql tb (.t 3) (.v (.pointer none)))⟩])
 (.cond (.t 4)
  (.seq (.regO [⟨none, (some 2), 0, .pur (.mv (.v (.int .i64 0)))⟩])
  .ret)
  .skip))
 (.seq (.regO [⟨none, (some 5), 0, .pur (.mv (.t 0))⟩,
   ⟨none, (some 6), 0, .pur (.nilc (.t 5))⟩,
   ⟨none, (some 7), 0, .pur (.fldA 1 (.t 6))⟩,
   ⟨none, (some 8), 0, .red (.ld none (.t 7))⟩,
   ⟨none, (some 9), 0, .red (.lens (.t 8))⟩,
   ⟨none, (some 2), 0, .pur (.mv (.t 9))⟩])
 .ret))) }
def cfLinks (fb fs fc : Nat) : CF := { res := [.tmp 2], body :=
 (.seq (.regO [⟨none, (some 2), 0, .pur (.mv (.v (.slice none 0 0)))⟩])
 (.seq (.regO [⟨none, (some 3), 0, .pur (.mv (.v (.slice none 0 0)))⟩])
 (.seq (.seq (.regO [⟨none, (some 6), 0, .pur (.mv (.t 0))⟩,
   ⟨none, (some 7), 0, .pur (.nilc (.t 6))⟩,
   ⟨none, (some 8), 0, .pur (.fldA 13 (.t 7))⟩,
   ⟨none, (some 9), 0, .red (.ld none (.t 8))⟩,
   ⟨none, (some 10), 0, .eff (.rng (.t 9))⟩])
 (.block 0
  (.loop
   (.seq (.regO [⟨none, (some 11), 0, .eff (.nxt (.t 10))⟩,
     ⟨none, (some 12), 0, .pur (.ext (.t 11) 0)⟩])
   (.seq (.cond (.t 12)
    .skip
    (.exit 0))
   (.block 1
    (.seq (.regO [⟨none, (some 13), 0, .red (.entry (.t 10))⟩,
      ⟨none, (some 14), 0, .pur (.ext (.t 13) 0)⟩,
      ⟨none, (some 15), 0, .pur (.ext (.t 13) 1)⟩,
      ⟨none, (some 4), 0, .alc (.new [(.int .i64 0), (.int .i64 0)])⟩,
      ⟨none, none, 0, .eff (.st 2 (.t 4) (.t 14))⟩,
      ⟨none, (some 5), 0, .pur (.mv (.t 15))⟩])
    (.seq (.regO [⟨none, (some 16), 0, .pur (.mv (.t 5))⟩,
      ⟨none, (some 17), 0, .eff (.call fb [(.t 16)])⟩,
      ⟨none, (some 18), 0, .pur (.bin .gtr 3 (.t 17) (.v (.int .i64 0)))⟩])
    (.cond (.t 18)
     (.regO [⟨none, (some 19), 0, .pur (.mv (.t 3))⟩,
       ⟨none, (some 20), 0, .red (.ld (some 2) (.t 4))⟩,
       ⟨none, (some 21), 0, .alc (.bsl 1 [(.int .i64 0), (.int .i64 0)] [(0, 2, (.t 20))])⟩,
       ⟨none, (some 22), 0, .eff (.app 2 (.t 19) (.t 21))⟩,
       ⟨none, (some 3), 0, .pur (.mv (.t 22))⟩])
     .skip)))))))))
 (.seq (.regO [⟨none, (some 23), 0, .pur (.mv (.t 3))⟩,
   ⟨none, (some 24), 0, .eff (.call fs [(.t 23), (.v (.func (.func fc) #[] #[]))])⟩])
 (.seq (.regO [⟨none, (some 25), 0, .pur (.mv (.t 3))⟩,
   ⟨none, (some 2), 0, .pur (.mv (.t 25))⟩])
 .ret))))) }
section
variable {P : Program} {orc : Orc} {s : Bool}
theorem boxLen_cv {fb tb : Nat} (hcf : compAt P fb = some (cfBoxLen tb)) (ho : orc fb = none) (ht : isPtrTy P tb = true) {h : Hp} {nx b o n c : Nat} {sp : Option Nat} {a : Option Addr} {cs : List Value} {ro : Bool}
    (hh : hget h b = some (.cells cs ro)) (hv : cs[o + 1]? = some (.slice a n c)) : Cv P orc s fb [.pointer (some ⟨b, o, sp⟩)] h nx (fun v' h' nx' => v' = .int .i64 (n : Int) ∧ h' = h ∧ nx' = nx) := by
  refine Cv.enter ho hcf ?_
  unfold cfBoxLen
  refine Ev.seq (Ev.regO ?_)
  simp [Ov_pur, Ov_nil]
  refine Ev.seq (Ev.seq (Ev.regO ?_))
  simp [Ov_pur, Ov_nil, bin_ptr_eql ht]
  refine Ev.cond false (by simp) (by simp) fun _ => Ev.skip ?_
  simp
  refine Ev.seq (Ev.regO ?_)
  simp [Ov_pur, Ov_red, Ov_nil, cellsOf_some hh, hv]
  refine Ev.ret ?_
  simp
def pick (key : MapEntry → Int × Int) (len : MapEntry → Nat) (l : List MapEntry) : List (Int × Int) := (l.filter (fun e => decide (0 < len e))).map key
theorem pick_perm {key : MapEntry → Int × Int} {len : MapEntry → Nat} {l l' : List MapEntry} (h : l.Perm l') : (pick key len l).Perm (pick key len l') := (h.filter _).map _
def LinksJ (h : Hp) (es : List MapEntry) (r ck nx : Nat) (key : MapEntry → Int × Int) (len : MapEntry → Nat) (m : Nat) (tm : Tm) (h' : Hp) (nx' : Nat) : Prop :=
  ∃ seen acc, m = (leftOf seen es).length ∧ nx < nx' ∧ tget tm 10 = .pointer (some ⟨nx, 0, none⟩) ∧ SlAt h' (tget tm 3) encL 2 acc (nx + 1) nx' ∧ (acc ++ pick key len (leftOf seen es)).Perm (pick key len es) ∧
    hget h' nx = some (.iter (some r) ck seen ck) ∧ ∀ b o, hget h b = some o → hget h' b = some o
theorem links_cv {f fb tb fs fl fp fi fc : Nat} (hcf : compAt P f = some (cfLinks fb fs fc)) (ho : orc f = none) (hcb : compAt P fb = some (cfBoxLen tb)) (hob : orc fb = none) (htb : isPtrTy P tb = true)
    (S : SortAt P orc fs fl fp fi 2 fc encL cmpL)
    {h : Hp} {nx b o r ck : Nat} {sp : Option Nat} {cs : List Value} {ro : Bool} {es : List MapEntry} (key : MapEntry → Int × Int) (len : MapEntry → Nat)
    (hh : hget h b = some (.cells cs ro)) (hv : cs[o + 13]? = some (.map (some r))) (hm : hget h r = some (.map es ck)) (hr : Rising es) (hck : ∀ e ∈ es, e.born < ck)
    (hse : ∀ e ∈ es, e.key = .agg ⟨encL (key e)⟩ ∧ ∃ b' o' sp' cs' ro' a c, e.val = .pointer (some ⟨b', o', sp'⟩) ∧ hget h b' = some (.cells cs' ro') ∧ cs'[o' + 1]? = some (.slice a (len e) c))
    (hlen : es.length ≤ 12) (h1 : pick key len es ≠ []) (hfr : ∀ b, nx ≤ b → hget h b = none) :
    Cv P orc false f [.pointer (some ⟨b, o, sp⟩)] h nx (fun v' h' _ => ∃ bk l, v' = .slice (some ⟨bk, 0, some 2⟩) l.length l.length ∧ nx ≤ bk ∧ hget h' bk = some (.cells (flat encL l) false) ∧ l.Perm (pick key len es) ∧ l.Pairwise (fun x y => ¬ cmpL y x < 0) ∧
      ∀ b o, hget h b = some o → hget h' b = some o) := by
  have hrn : r < nx := by
    rcases Nat.lt_or_ge r nx with h1 | h1
    · exact h1
    · rw [hfr r h1] at hm; cases hm
  have hbn : ∀ b o, hget h b = some o → b < nx := fun b o hb => by
    rcases Nat.lt_or_ge b nx with h1 | h1
    · exact h1
    · rw [hfr b h1] at hb; cases hb
  refine Cv.enter ho hcf ?_
  unfold cfLinks
  refine Ev.seq (Ev.regO ?_)
  simp [Ov_pur, Ov_nil]
  refine Ev.seq (Ev.regO ?_)
  simp [Ov_pur, Ov_nil]
  refine Ev.seq (Ev.seq (Ev.regO ?_))
  have hrng : ∀ tm, ceff P (tset tm 9 (.map (some r))) h nx (.rng (.t 9)) = .val (.pointer (some ⟨nx, 0, none⟩)) (hset h nx (.iter (some r) ck [] ck)) (nx + 1) := fun tm => by
    show oRange h nx (tget (tset tm 9 (.map (some r))) 9) = _
    simp [oRange, hm, newIter]
  simp [Ov_pur, Ov_red, Ov_nil, cellsOf_some hh, hv, Ov_eff (hrng _)]
  refine Ev.block (Ev.loop (fun m tm h' nx' => LinksJ h es r ck nx key len m tm h' nx') ?_ es.length _ _ _ ⟨[], [], by rw [leftOf_nil_seen], by omega, by simp, .inl ⟨rfl, by simp⟩, by rw [leftOf_nil_seen]; exact List.Perm.refl _, by simp, fun b' o' hb' => ?_⟩)
  · rintro m tm h' nx' ⟨seen, acc, rfl, hnx, t10, hsl, hperm, hit, hold⟩
    have hm' := hold r _ hm
    refine Ev.seq (Ev.regO (Ov_nxt rfl (by simpa using t10) hit hm' (nextOk_of hck) (fun hend => ?_) fun e he => ⟨hck e (leftOf_mem he).1, ?_⟩))
    · simp [Ov_pur, Ov_nil]
      refine Ev.seq (Ev.cond false (by simp) (by simp) fun _ => Ev.exit ?_)
      simp only [nextK_exit, blkK_exit, ↓reduceIte, nextK_normal]
      rw [hend] at hperm
      simp only [pick, List.filter_nil, List.map_nil, List.append_nil] at hperm
      have hne : acc ≠ [] := fun e => by rw [e] at hperm; exact h1 (List.nil_perm.1 hperm)
      rcases hsl with ⟨e, _⟩ | ⟨bk, hb1, hb2, t3, hbk⟩
      · exact absurd e hne
      have hal : acc.length ≤ 12 := by
        rw [hperm.length_eq, List.length_map]
        exact Nat.le_trans (List.length_filter_le _ _) hlen
      refine Ev.seq (Ev.regO ?_)
      simp only [Ov_pur, c_mv, cev_t, tgs, t3, ↓reduceIte, Nat.reduceEqDiff, RK_ok, putT_some]
      refine Ov_call ?_
      simp only [cevs_cons, cevs_nil, cev_t, cev_v, tgs, ↓reduceIte, Nat.reduceEqDiff]
      refine (sort_cv (s := false) S (l := acc) rfl hal hb2 hbk).mono ?_
      rintro v h2 nx2 ⟨hnx2, ⟨l', hp', hs', hb'⟩, hf2⟩
      simp only [Ov_nil, nextK_normal]
      refine Ev.seq (Ev.regO ?_)
      simp only [Ov_pur, Ov_nil, putT_some, c_mv, cev_t, tgs, t3, ↓reduceIte, Nat.reduceEqDiff, RK_ok, nextK_normal]
      refine Ev.ret ?_
      simp only [retK_ret, resVs_tmp, resVs_nil, bind_ok, RK_ok, retV_one, tgs, ↓reduceIte]
      refine ⟨bk, l', by rw [hp'.length_eq], by omega, hb', hp'.trans hperm, (by simpa using hs'), fun b2 o2 hb2' => ?_⟩
      have := hbn _ _ hb2'
      rw [hf2 b2 (by omega) (by omega)]
      exact hold _ _ hb2'
    · obtain ⟨hmem, hnot⟩ := leftOf_mem he
      obtain ⟨hkey, b', o', sp', cs', ro', a', c', hval, hb', hs'⟩ := hse e hmem
      have hb'n := hbn _ _ hb'
      have hpe := leftOf_perm hr he
      have hplen := hpe.length_eq
      simp only [List.length_cons] at hplen
      have hpp := pick_perm (key := key) (len := len) hpe
      simp [Ov_pur, Ov_nil]
      refine Ev.seq (Ev.cond true (by simp) (fun _ => Ev.skip ?_) (by simp))
      simp only [nextK_normal]
      refine Ev.block (Ev.seq (Ev.regO ?_))
      have hent : oEntry (hset h' nx (.iter (some r) ck (seen ++ [e.born]) ck)) (.pointer (some ⟨nx, 0, none⟩)) = .ok (.tuple #[e.key, e.val]) :=
        oEntry_eq (r := r) (since := ck) (ck := ck) (seen := seen) (by simp) (by simp [show r ≠ nx by omega]; exact hm') hr hmem
      have hcst : ∀ hp : Hp, hget hp nx' = some (.cells [(.int .i64 0), (.int .i64 0)] false) → cSt hp 2 (encL (key e)) ⟨nx', 0, none⟩ = .ok (hset hp nx' (.cells (encL (key e)) false)) := fun hp hhp => by
        unfold cSt writeA
        rw [llen_eq]
        simp only [cellsOf_some hhp, lput_eq]
        simp [encL, cellL, cellV]
      simp [Ov_red, Ov_pur, Ov_alc, Ov_st, Ov_nil, t10, hent, calq, nbV, nbO, hkey, vcells]
      rw [hcst _ (by simp)]
      simp only [RK_ok]
      refine Ev.seq (Ev.regO ?_)
      simp [Ov_pur]
      refine Ov_call ?_
      simp [hval]
      refine (boxLen_cv hcb hob htb (cs := cs') (ro := ro') (by simp [show b' ≠ nx by omega, show b' ≠ nx' by omega]; exact hold _ _ hb') hs').mono ?_
      rintro v h2 nx2 ⟨rfl, rfl, rfl⟩
      simp only [Ov_pur, c_bin, cev_t, cev_v, tgs, bin_gtr, RK_ok, putT_some, ↓reduceIte, Nat.reduceEqDiff, Ov_nil, nextK_normal]
      have hsl2 : SlAt (hset (hset (hset h' nx (.iter (some r) ck (seen ++ [e.born]) ck)) nx' (.cells [(.int .i64 0), (.int .i64 0)] false)) nx' (.cells (encL (key e)) false)) (tget tm 3) encL 2 acc (nx + 1) (nx' + 1) := by
        rcases hsl with ⟨e1, e2⟩ | ⟨bk, g1, g2, g3, g4⟩
        · exact .inl ⟨e1, e2⟩
        · exact .inr ⟨bk, g1, by omega, g3, by simp [show bk ≠ nx' by omega, show bk ≠ nx by omega]; exact g4⟩
      have holdn : ∀ b2 o2, hget h b2 = some o2 → hget (hset (hset (hset h' nx (.iter (some r) ck (seen ++ [e.born]) ck)) nx' (.cells [(.int .i64 0), (.int .i64 0)] false)) nx' (.cells (encL (key e)) false)) b2 = some o2 := fun b2 o2 hb2 => by
        have := hbn _ _ hb2
        simp [show b2 ≠ nx' by omega, show b2 ≠ nx by omega]; exact hold _ _ hb2
      have hitn : hget (hset (hset (hset h' nx (.iter (some r) ck (seen ++ [e.born]) ck)) nx' (.cells [(.int .i64 0), (.int .i64 0)] false)) nx' (.cells (encL (key e)) false)) nx = some (.iter (some r) ck (seen ++ [e.born]) ck) := by
        simp [show nx ≠ nx' by omega]
      have hk4 : hget (hset (hset (hset h' nx (.iter (some r) ck (seen ++ [e.born]) ck)) nx' (.cells [(.int .i64 0), (.int .i64 0)] false)) nx' (.cells (encL (key e)) false)) nx' = some (.cells (encL (key e)) false) := by simp
      generalize hset (hset (hset h' nx (.iter (some r) ck (seen ++ [e.born]) ck)) nx' (.cells [(.int .i64 0), (.int .i64 0)] false)) nx' (.cells (encL (key e)) false) = h3 at hsl2 holdn hitn hk4
      refine Ev.cond (decide ((0 : Int) < (len e : Int))) (by simp) (fun hlt => ?_) fun hge => Ev.skip ?_
      · have hlt : 0 < len e := by simpa using hlt
        refine Ev.regO ?_
        have hld : loadC (some 2) 0 (encL (key e)) = .ok (.agg ⟨encL (key e)⟩) := by simp [encL]
        simp only [Ov_pur, Ov_red, c_mv, c_ld, cev_t, tgs, ↓reduceIte, Nat.reduceEqDiff, RK_ok, putT_some, addrR_ptr, cellsOf_some hk4, hld]
        have hbsl : ∀ tm, calq P (tset tm 20 (.agg ⟨encL (key e)⟩)) (.bsl 1 [(.int .i64 0), (.int .i64 0)] [(0, 2, (.t 20))]) = .ok (.slice (.cells (encL (key e)) false) 1 1) := fun tm => by
          simp [calq, cfillP, cfillS, vcells, encL, llen, llenI, lput, lputI, lput0, lput0I, lputS, sliceNB, cellL, cellV]
        simp only [Ov_alc, hbsl, RK_ok, putT_some, nbV, nbO]
        have hacc : acc.length ≤ 12 := by
          have := hperm.length_eq
          rw [List.length_append] at this
          have h3 : (pick key len es).length ≤ es.length := by unfold pick; rw [List.length_map]; exact List.length_filter_le _ _
          omega
        have hsl3 : SlAt (hset h3 (nx' + 1) (.cells (encL (key e)) false)) (tget tm 3) encL 2 acc (nx + 1) (nx' + 1 + 1) := by
          rcases hsl2 with ⟨e1, e2⟩ | ⟨bk, g1, g2, g3, g4⟩
          · exact .inl ⟨e1, e2⟩
          · exact .inr ⟨bk, g1, by omega, g3, by simp [show bk ≠ nx' + 1 by omega]; exact g4⟩
        obtain ⟨v', h4, hap, hsl4, hf4⟩ := app_cv (enc := encL) (k := 2) (fun _ => rfl) (fun _ => rfl) (by omega) hsl3 (by omega) (b2 := nx' + 1) (o2 := 0) (cap2 := 1) (sp2 := none) (cs := encL (key e)) (ro := false) (x := key e) (by simp) (by simp [encL]) (by omega)
        rw [Ov_eff (v := v') (h' := h4) (nx' := nx' + 1 + 1 + 1) (by
          show orR (appendA 2 _ _ (cev _ (.t 19)) (cev _ (.t 21))) = _
          simp only [cev_t, tgs, ↓reduceIte, Nat.reduceEqDiff]
          rw [hap]; rfl)]
        simp only [Ov_pur, c_mv, cev_t, tgs, ↓reduceIte, Nat.reduceEqDiff, RK_ok, putT_some, Ov_nil, blkK_normal, nextK_normal]
        refine ⟨_, ?_, seen ++ [e.born], acc ++ [key e], rfl, by omega, by simpa using t10, by simpa using hsl4, ?_, by rw [hf4 _ (by omega)]; simp [show nx ≠ nx' + 1 by omega]; exact hitn, fun b2 o2 hb2 => ?_⟩
        · omega
        · refine List.Perm.trans ?_ hperm
          rw [List.append_assoc]
          refine List.Perm.append_left acc ?_
          refine List.Perm.symm (hpp.trans ?_)
          simp [pick, hlt]
        · have := hbn _ _ hb2
          rw [hf4 _ (by omega)]
          simp [show b2 ≠ nx' + 1 by omega]; exact holdn _ _ hb2
      · have hge : len e = 0 := by simpa using hge
        simp only [blkK_normal, nextK_normal]
        refine ⟨_, ?_, seen ++ [e.born], acc, rfl, by omega, by simpa using t10, by simpa using hsl2, ?_, hitn, holdn⟩
        · omega
        · refine List.Perm.trans ?_ hperm
          refine List.Perm.append_left acc ?_
          refine List.Perm.symm (hpp.trans ?_)
          simp [pick, hge]
  · have := hbn _ _ hb'
    simp [show b' ≠ nx by omega, hb']
end
end Go.Ax

/-! part AxOr5 -/
namespace Go.Ax
open Go
set_option linter.unusedSimpArgs false
set_option linter.unusedVariables false

theorem cmpI_lt {a b : Int} : cmpI a b < 0 ↔ a < b := by
  unfold cmpI
  by_cases h : a < b
  · simp [h]
  · by_cases h2 : b < a <;> simp [h, h2]
theorem cmpI_zero {a b : Int} : cmpI a b = 0 ↔ a = b := by
  unfold cmpI
  by_cases h : a < b
  · simp [h]; omega
  · by_cases h2 : b < a
    · simp [h, h2]; omega
    · simp [h, h2]; omega
theorem cmpL_lt {x y : Int × Int} : cmpL x y < 0 ↔ x.1 < y.1 ∨ (x.1 = y.1 ∧ x.2 < y.2) := by
  unfold cmpL orI orI orI
  by_cases h : cmpI x.1 y.1 = 0
  · rw [if_pos h]
    rw [cmpI_zero] at h
    by_cases h2 : cmpI x.2 y.2 = 0
    · rw [if_pos h2]
      rw [cmpI_zero] at h2
      omega
    · rw [if_neg h2, cmpI_lt]; omega
  · rw [if_neg h, cmpI_lt]
    have : ¬ x.1 = y.1 := fun e => h (cmpI_zero.2 e)
    omega
theorem cmpL_tr (x y z : Int × Int) (h1 : ¬ cmpL y x < 0) (h2 : ¬ cmpL z y < 0) : ¬ cmpL z x < 0 := by
  rw [cmpL_lt] at *; omega
theorem cmpL_as (x y : Int × Int) (h : cmpL x y < 0) : ¬ cmpL y x < 0 := by
  rw [cmpL_lt] at *; omega
theorem cmpL_anti (x y : Int × Int) (h1 : ¬ cmpL y x < 0) (h2 : ¬ cmpL x y < 0) : x = y := by
  rw [cmpL_lt] at *
  obtain ⟨a, b⟩ := x
  obtain ⟨c, d⟩ := y
  simp only at h1 h2
  have e1 : a = c := by omega
  have e2 : b = d := by omega
  rw [e1, e2]
section
variable {α : Type}
def insB (lt : α → α → Bool) (x : α) : List α → List α
  | [] => [x]
  | y :: l => bif lt x y then x :: y :: l else y :: insB lt x l
def sortB (lt : α → α → Bool) : List α → List α
  | [] => []
  | x :: l => insB lt x (sortB lt l)
def noneB (lt : α → α → Bool) (x : α) : List α → Bool
  | [] => true
  | y :: l => bif lt y x then false else noneB lt x l
def sortedB (lt : α → α → Bool) : List α → Bool
  | [] => true
  | x :: l => bif noneB lt x l then sortedB lt l else false
theorem insB_perm {lt : α → α → Bool} {x : α} : ∀ (l : List α), (insB lt x l).Perm (x :: l)
  | [] => List.Perm.refl _
  | y :: l => by
    unfold insB
    cases lt x y with
    | true => exact List.Perm.refl _
    | false => exact ((insB_perm l).cons y).trans (List.Perm.swap ..)
theorem sortB_perm {lt : α → α → Bool} : ∀ (l : List α), (sortB lt l).Perm l
  | [] => List.Perm.refl _
  | x :: l => (insB_perm _).trans ((sortB_perm l).cons x)
theorem noneB_ok {lt : α → α → Bool} {x : α} : ∀ {l : List α}, noneB lt x l = true → ∀ y ∈ l, lt y x = false
  | [], _, y, h => by cases h
  | z :: l, h, y, hy => by
    unfold noneB at h
    cases hz : lt z x with
    | true => rw [hz] at h; cases h
    | false =>
      rw [hz] at h
      rcases List.mem_cons.1 hy with rfl | hy
      · exact hz
      · exact noneB_ok h y hy
theorem sortedB_ok {lt : α → α → Bool} : ∀ {l : List α}, sortedB lt l = true → l.Pairwise (fun x y => lt y x = false)
  | [], _ => List.Pairwise.nil
  | x :: l, h => by
    unfold sortedB at h
    cases hn : noneB lt x l with
    | false => rw [hn] at h; cases h
    | true =>
      rw [hn] at h
      exact List.Pairwise.cons (noneB_ok hn) (sortedB_ok h)
end
def ltL (x y : Int × Int) : Bool := iblt x.1 y.1 || (ieq x.1 y.1 && iblt x.2 y.2)
theorem ltL_eq {x y : Int × Int} : ltL x y = false ↔ ¬ cmpL x y < 0 := by
  rw [cmpL_lt]
  unfold ltL
  rw [iblt_dec, iblt_dec, ieq_beq]
  simp
def keyOf (e : MapEntry) : Int × Int := match e.key with
  | .agg ⟨[.int .i64 a, .int .i64 b]⟩ => (a, b)
  | _ => (0, 0)
def keyIs (e : MapEntry) : Bool := match e.key with
  | .agg ⟨[.int .i64 a, .int .i64 b]⟩ => true
  | _ => false
def lenOf (h : Hp) (e : MapEntry) : Option Nat := match e.val with
  | .pointer (some a) => (match hget h a.block with
    | some (.cells cs _) => (match lget cs (a.off + 1) with
      | some (.slice _ n _) => some n
      | _ => none)
    | _ => none)
  | _ => none
theorem lenOf_ok {h : Hp} {e : MapEntry} {k : Nat} (hs : lenOf h e = some k) : ∃ b' o' sp' cs' ro' a c, e.val = .pointer (some ⟨b', o', sp'⟩) ∧ hget h b' = some (.cells cs' ro') ∧ cs'[o' + 1]? = some (.slice a k c) := by
  unfold lenOf at hs
  split at hs <;> first | (cases hs; done) | skip
  rename_i a ha
  split at hs <;> first | (cases hs; done) | skip
  rename_i cs ro hc
  split at hs <;> first | (cases hs; done) | skip
  rename_i a' n c hl
  cases hs
  obtain ⟨b, o, sp⟩ := a
  rw [lget_eq] at hl
  exact ⟨b, o, sp, cs, ro, a', c, ha, hc, hl⟩
def lenN (h : Hp) (e : MapEntry) : Nat := (lenOf h e).getD 0
def linksOk (h : Hp) : List MapEntry → Bool
  | [] => true
  | e :: es => keyIs e && (lenOf h e).isSome && linksOk h es
theorem linksOk_ok {h : Hp} : ∀ {es : List MapEntry}, linksOk h es = true → ∀ e ∈ es, keyIs e = true ∧ (lenOf h e).isSome = true
  | [], _, e, h => by cases h
  | x :: es, hs, e, h => by
    unfold linksOk at hs
    simp only [Bool.and_eq_true] at hs
    rcases List.mem_cons.1 h with rfl | h
    · exact hs.1
    · exact linksOk_ok hs.2 e h
theorem keyOf_ok {e : MapEntry} (h : keyIs e = true) : e.key = .agg ⟨encL (keyOf e)⟩ := by
  unfold keyIs at h
  split at h
  · rename_i a b hk
    unfold keyOf
    rw [hk]; rfl
  · cases h
def pickB (h : Hp) : List MapEntry → List (Int × Int)
  | [] => []
  | e :: es => bif Nat.blt 0 (lenN h e) then keyOf e :: pickB h es else pickB h es
theorem pickB_eq {h : Hp} : ∀ (es : List MapEntry), pickB h es = pick keyOf (lenN h) es
  | [] => rfl
  | e :: es => by
    unfold pickB
    rw [pickB_eq es, blt_dec]
    unfold pick
    by_cases hl : 0 < lenN h e <;> simp [hl]
def linksRes (h : Hp) (nx : Nat) (l : List (Int × Int)) : CR := match l with
  | [] => .no "links"
  | l => bif sortedB ltL l then .ok (.slice (some ⟨nx, 0, some 2⟩) l.length l.length) (hset h nx (.cells (flat encL l) false)) (nx + 1) else .no "links"
def gLinks (args : List Value) (h : Hp) (nx : Nat) : CR := match args with
  | [.pointer (some a)] => (match hget h a.block with
    | some (.cells cs _) => (match lget cs (a.off + 13) with
      | some (.map (some r)) => (match hget h r with
        | some (.map es ck) => bif risingB ck es && (linksOk h es && Nat.ble es.length 12) then linksRes h nx (sortB ltL (pickB h es)) else .no "links"
        | _ => .no "links")
      | _ => .no "links")
    | _ => .no "links")
  | _ => .no "links"
theorem plain_flat {α : Type} {enc : α → List Value} (he : ∀ x, plainL (enc x) = true) : ∀ l : List α, plainL (flat enc l) = true
  | [] => rfl
  | x :: l => by
    have app : ∀ a b : List Value, plainL a = true → plainL b = true → plainL (a ++ b) = true := by
      intro a
      induction a with
      | nil => intro b _ h; exact h
      | cons y a ih =>
        intro b h k
        have h : (plainV y && plainL a) = true := h
        simp only [Bool.and_eq_true] at h
        show (plainV y && plainL (a ++ b)) = true
        rw [h.1, ih b h.2 k]; rfl
    exact app _ _ (he x) (plain_flat he l)
section
variable {P : Program}
theorem slice_rename (n k : Nat) (ρ ρ' : Rho) (nx b : Nat) (p : Place) (c : Value) (hp : ρ' b = some p) (hq : ρ nx = some p) (h : VR ρ' (.slice (some ⟨b, 0, some k⟩) n n) c) : VR ρ (.slice (some ⟨nx, 0, some k⟩) n n) c := by
  cases h with
  | sliceG h' hs _ _ => rw [hp] at h'; cases h'; exact .sliceG hq hs _ _
  | sliceZ _ _ g o' c' => exact .sliceZ _ _ _ _ _
theorem gLinks_ok (hP : POk P) {f fb tb fs fl fp fi fc : Nat} (hcf : compAt P f = some (cfLinks fb fs fc)) (hcb : compAt P fb = some (cfBoxLen tb)) (htb : isPtrTy P tb = true) (S : SortAt P orc0 fs fl fp fi 2 fc encL cmpL) : OrcAt P f gLinks := by
  intro args h nx K hs
  unfold gLinks at hs
  split at hs <;> first | exact hs.elim | skip
  rename_i a
  split at hs <;> first | exact hs.elim | skip
  rename_i cs ro hc
  split at hs <;> first | exact hs.elim | skip
  rename_i r hr
  split at hs <;> first | exact hs.elim | skip
  rename_i es ck hm
  cases hri : (risingB ck es && (linksOk h es && Nat.ble es.length 12)) with
  | false => rw [hri] at hs; exact hs.elim
  | true =>
    rw [hri] at hs
    simp only [cond_true] at hs
    simp only [Bool.and_eq_true] at hri
    obtain ⟨h1, h2⟩ := risingB_ok hri.1
    have h3 := linksOk_ok hri.2.1
    have h4 := Nat.le_of_ble_eq_true hri.2.2
    obtain ⟨b, o, sp⟩ := a
    rw [lget_eq] at hr
    rw [pickB_eq] at hs
    unfold linksRes at hs
    split at hs
    · exact hs.elim
    · rename_i l hne
      cases hso : sortedB ltL (sortB ltL (pick keyOf (lenN h) es)) with
      | false => rw [hso] at hs; exact hs.elim
      | true =>
        rw [hso] at hs
        have hs : K (.slice (some ⟨nx, 0, some 2⟩) (sortB ltL (pick keyOf (lenN h) es)).length (sortB ltL (pick keyOf (lenN h) es)).length) (hset h nx (.cells (flat encL (sortB ltL (pick keyOf (lenN h) es))) false)) (nx + 1) := hs
        have hperm := sortB_perm (lt := ltL) (pick keyOf (lenN h) es)
        have hsrt : (sortB ltL (pick keyOf (lenN h) es)).Pairwise (fun x y => ¬ cmpL y x < 0) := (sortedB_ok hso).imp fun h => ltL_eq.1 h
        have hpne : pick keyOf (lenN h) es ≠ [] := fun e => by
          exact hne (by rw [e]; rfl)
        generalize sortB ltL (pick keyOf (lenN h) es) = L at *
        refine orc_slice hP orc0_ok (val := fun b => .slice (some ⟨b, 0, some 2⟩) L.length L.length) (cs := flat encL L) (plain_flat (fun _ => rfl) L) (callable_of hP hcf) (fun ρ ρ' b p c hp hq hv => slice_rename _ _ ρ ρ' nx b p c hp hq hv) (fun hfr => ?_) hs
        refine (links_cv hcf rfl hcb rfl htb S keyOf (lenN h) hc hr hm h1 h2 (fun e he => ⟨keyOf_ok (h3 e he).1, ?_⟩) h4 hpne hfr).mono ?_
        · obtain ⟨k, hk⟩ := Option.isSome_iff_exists.1 (h3 e he).2
          simp only [lenN, hk, Option.getD_some]
          exact lenOf_ok hk
        · rintro v h' nx' ⟨bk, l', rfl, hbk, hcs, hp', hs', hold⟩
          have : l' = L := sorted_eq (R := fun x y => ¬ cmpL y x < 0) (fun x y => cmpL_anti x y) (hp'.trans hperm.symm) hs' hsrt
          subst this
          exact ⟨bk, rfl, hbk, hcs, hold⟩
end
end Go.Ax

/-! part AxOr6 -/
namespace Go.Ax
open Go
set_option linter.unusedSimpArgs false
set_option linter.unusedVariables false

/-! # edges.Combine, by the ring of least sums -/
abbrev Edg := Int × Int × Int
def encE (x : Edg) : List Value := [.int .i64 x.1, .int .i64 x.2.1, .int .i64 x.2.2]
def smallI (n : Int) : Bool := match n with
  | .ofNat m => Nat.blt m 1000000
  | .negSucc _ => false
def edgesOf : List Value → Option (List Edg)
  | [] => some []
  | .int .i64 a :: .int .i64 b :: .int .i64 c :: l => (match edgesOf l with
    | some r => bif smallI a && (smallI b && smallI c) then some ((a, b, c) :: r) else none
    | none => none)
  | _ => none
/-- one more edge: of the same ends the lesser -/
def combS (e : Edg) : List Edg → List Edg
  | [] => [e]
  | x :: l => bif ieq x.1 e.1 && ieq x.2.1 e.2.1 then (x.1, x.2.1, bif iblt e.2.2 x.2.2 then e.2.2 else x.2.2) :: l else x :: combS e l
def combG (acc : List Edg) : List Edg → List Edg
  | [] => acc
  | e :: l => combG (combS e acc) l
def ltE (x y : Edg) : Bool := iblt x.1 y.1 || (ieq x.1 y.1 && (iblt x.2.1 y.2.1 || (ieq x.2.1 y.2.1 && iblt x.2.2 y.2.2)))
def combRes (h : Hp) (nx : Nat) (l : List Edg) : CR := match l with
  | [] => .no "Combine"
  | l => bif sortedB ltE l then .ok (.tuple ⟨[.slice (some ⟨nx, 0, some 3⟩) l.length l.length, .int .i64 0]⟩) (hset h nx (.cells (flat encE l) false)) (nx + 1) else .no "Combine"
def gCombine (args : List Value) (h : Hp) (nx : Nat) : CR := match args with
  | [.int .i64 (.ofNat 1), .slice (some a) n _] => (match hget h a.block with
    | some (.cells cs _) => (match lcut (n * 3) (ldrop cs a.off) with
      | some l => (match edgesOf l with
        | some es => bif Nat.ble es.length 12 then combRes h nx (sortB ltE (combG [] es)) else .no "Combine"
        | none => .no "Combine")
      | none => .no "Combine")
    | _ => .no "Combine")
  | _ => .no "Combine"
end Go.Ax

/-! part AxCmb1 -/
namespace Go.Ax
open Go
set_option linter.unusedSimpArgs false
set_option linter.unusedVariables false

/-! # comparing by two fields; edges by their order -/
def cfTwo (f1 f2 fo : Nat) : CF := { res := [.tmp 4], body :=
 (.seq (.regO [⟨none, (some 2), 0, .alc (.box (.t 0))⟩,
   ⟨none, (some 3), 0, .alc (.box (.t 1))⟩,
   ⟨none, (some 4), 0, .pur (.mv (.v (.int .i64 0)))⟩])
 (.seq (.regD [⟨none, (some 5), 0, .pur (.fldA 0 (.t 2))⟩,
   ⟨none, (some 6), 0, .red (.ld none (.t 5))⟩,
   ⟨none, (some 7), 0, .pur (.fldA 0 (.t 3))⟩,
   ⟨none, (some 8), 0, .red (.ld none (.t 7))⟩,
   ⟨none, (some 9), 0, .eff (.call f1 [(.t 6), (.t 8)])⟩,
   ⟨none, (some 10), 1, .pur (.fldA 1 (.t 2))⟩,
   ⟨none, (some 11), 1, .red (.ld none (.t 10))⟩,
   ⟨none, (some 12), 1, .pur (.fldA 1 (.t 3))⟩,
   ⟨none, (some 13), 1, .red (.ld none (.t 12))⟩,
   ⟨none, (some 14), 0, .eff (.call f2 [(.t 11), (.t 13)])⟩,
   ⟨none, (some 15), 0, .alc (.bsl 2 [(.int .i64 0), (.int .i64 0)] [(0, 1, (.t 9)), (1, 1, (.t 14))])⟩,
   ⟨none, (some 16), 0, .eff (.call fo [(.t 15)])⟩,
   ⟨none, (some 4), 0, .pur (.mv (.t 16))⟩])
 .ret)) }
def cfOrder (fe fc fo : Nat) : CF := { res := [.tmp 4], body :=
 (.seq (.regO [⟨none, (some 2), 0, .alc (.box (.t 0))⟩,
   ⟨none, (some 3), 0, .alc (.box (.t 1))⟩,
   ⟨none, (some 4), 0, .pur (.mv (.v (.int .i64 0)))⟩])
 (.seq (.regD [⟨none, (some 5), 0, .red (.ld (some 3) (.t 2))⟩,
   ⟨none, (some 6), 0, .red (.ld (some 3) (.t 3))⟩,
   ⟨none, (some 7), 0, .eff (.call fe [(.t 5), (.t 6)])⟩,
   ⟨none, (some 8), 1, .pur (.fldA 2 (.t 2))⟩,
   ⟨none, (some 9), 1, .red (.ld none (.t 8))⟩,
   ⟨none, (some 10), 1, .pur (.fldA 2 (.t 3))⟩,
   ⟨none, (some 11), 1, .red (.ld none (.t 10))⟩,
   ⟨none, (some 12), 0, .eff (.call fc [(.t 9), (.t 11)])⟩,
   ⟨none, (some 13), 0, .alc (.bsl 2 [(.int .i64 0), (.int .i64 0)] [(0, 1, (.t 7)), (1, 1, (.t 12))])⟩,
   ⟨none, (some 14), 0, .eff (.call fo [(.t 13)])⟩,
   ⟨none, (some 4), 0, .pur (.mv (.t 14))⟩])
 .ret)) }
section
variable {P : Program} {orc : Orc}
/-- numbers are compared -/
def NumCmp (P : Program) (orc : Orc) (q : IntKind) (f : FuncId) : Prop := ∀ (s : Bool) (a b : Int) (h : Hp) (nx : Nat), Cv P orc s f [.int q a, .int q b] h nx (fun v h' nx' => v = .int .i64 (cmpI a b) ∧ h' = h ∧ nx' = nx)
theorem two_cv {s : Bool} {f f1 f2 fo : Nat} (hcf : compAt P f = some (cfTwo f1 f2 fo)) (ho : orc f = none) {q1 q2 : IntKind} (h1 : NumCmp P orc q1 f1) (h2 : NumCmp P orc q2 f2) (hor : compAt P fo = some cfOr) (hoo : orc fo = none)
    {l m : List Value} {a b c d : Int} (hl : cellL l = true) (hm : cellL m = true) (l0 : l[0]? = some (.int q1 a)) (m0 : m[0]? = some (.int q1 b)) (l1 : l[1]? = some (.int q2 c)) (m1 : m[1]? = some (.int q2 d)) {h : Hp} {nx : Nat} :
    Cv P orc s f [.agg ⟨l⟩, .agg ⟨m⟩] h nx (fun v h' nx' => v = .int .i64 (orI [cmpI a b, cmpI c d]) ∧ nx ≤ nx' ∧ ∀ b, b < nx → hget h' b = hget h b) := by
  refine Cv.enter ho hcf ?_
  unfold cfTwo
  refine Ev.seq (Ev.regO ?_)
  simp [Ov_pur, Ov_alc, Ov_nil, calq, vcells, cellsNB, hl, hm, nbV, nbO]
  refine Ev.seq (Ev.regD ?_)
  have g1 : ∀ hp : Hp, hget (hset (hset hp nx (.cells l false)) (nx + 1) (.cells m false)) nx = some (.cells l false) := fun hp => by simp
  have g2 : ∀ hp : Hp, hget (hset hp (nx + 1) (.cells m false)) (nx + 1) = some (.cells m false) := fun hp => by simp
  simp [Dv_pur, Dv_red, Dv_nil, cellsOf_some (g1 _), cellsOf_some (g2 _), cagree, l0, m0]
  refine Dv_call ?_
  simp
  refine (h1 true a b _ _).mono ?_
  rintro v h' nx' ⟨rfl, rfl, rfl⟩
  refine ⟨Nat.le_refl _, ?_⟩
  simp [Dv_pur, Dv_red, Dv_nil, cellsOf_some (g1 _), cellsOf_some (g2 _), l1, m1]
  refine ⟨cagree1 (by simp [cellsOf_some (g1 _), l1]), cagree1 (by simp [cellsOf_some (g2 _), m1]), ?_⟩
  refine Dv_call ?_
  simp
  refine (h2 true c d _ _).mono ?_
  rintro v h2 nx2 ⟨rfl, rfl, rfl⟩
  refine ⟨Nat.le_refl _, ?_⟩
  simp [Dv_pur, Dv_alc, Dv_nil, calq, cfillP, cfillS, vcells, lput, lputI, lput0, lput0I, lputN, lputS, llen, llenI, sliceNB, cellL, cellV, nbV, nbO]
  refine Dv_call ?_
  simp
  refine (or_cv hor hoo (sp := none) (ro := false) [cmpI a b, cmpI c d] (by simp) (by simp)).mono ?_
  rintro v h3 nx3 ⟨rfl, rfl, rfl⟩
  refine ⟨Nat.le_refl _, ?_⟩
  simp [Dv_pur, Dv_nil]
  refine Ev.ret ?_
  simp
  refine ⟨by omega, fun b hb => ?_⟩
  simp [show b ≠ nx by omega, show b ≠ nx + 1 by omega, show b ≠ nx + 2 by omega]
def cmpE (x y : Edg) : Int := orI [orI [cmpI x.1 y.1, cmpI x.2.1 y.2.1], cmpI x.2.2 y.2.2]
theorem order_ok {f fe fc1 fc2 fo : Nat} (hcf : compAt P f = some (cfOrder fe fc2 fo)) (ho : orc f = none) (hce : compAt P fe = some (cfTwo fc1 fc1 fo)) (hoe : orc fe = none) (h1 : NumCmp P orc .i64 fc1) (h2 : NumCmp P orc .i64 fc2)
    (hor : compAt P fo = some cfOr) (hoo : orc fo = none) : CmpOk P orc f encE cmpE := by
  intro x y h nx
  refine Cv.enter ho hcf ?_
  unfold cfOrder
  have hx : cellL (encE x) = true := rfl
  have hy : cellL (encE y) = true := rfl
  refine Ev.seq (Ev.regO ?_)
  simp [Ov_pur, Ov_alc, Ov_nil, calq, vcells, cellsNB, hx, hy, nbV, nbO]
  refine Ev.seq (Ev.regD ?_)
  have g1 : ∀ hp : Hp, hget (hset (hset hp nx (.cells (encE x) false)) (nx + 1) (.cells (encE y) false)) nx = some (.cells (encE x) false) := fun hp => by simp
  have g2 : ∀ hp : Hp, hget (hset hp (nx + 1) (.cells (encE y) false)) (nx + 1) = some (.cells (encE y) false) := fun hp => by simp
  have ld : ∀ z : Edg, loadC (some 3) 0 (encE z) = .ok (.agg ⟨encE z⟩) := fun z => by simp [encE]
  simp only [Dv_red, c_ld, cev_t, tgs, ↓reduceIte, Nat.reduceEqDiff, addrR_ptr, cellsOf_some (g1 _), cellsOf_some (g2 _), ld, RK_ok, cagree, true_and, putT_some]
  refine Dv_call ?_
  simp only [cevs_cons, cevs_nil, cev_t, tgs, ↓reduceIte, Nat.reduceEqDiff]
  refine (two_cv (s := true) hce hoe h1 h1 hor hoo (l := encE x) (m := encE y) (a := x.1) (b := y.1) (c := x.2.1) (d := y.2.1) rfl rfl rfl rfl rfl rfl).mono ?_
  rintro v h' nx' ⟨rfl, hnx', hfr⟩
  refine ⟨hnx', ?_⟩
  have k1 : hget h' nx = some (.cells (encE x) false) := by rw [hfr _ (by omega)]; exact g1 h
  have k2 : hget h' (nx + 1) = some (.cells (encE y) false) := by rw [hfr _ (by omega)]; exact g2 _
  have w : ∀ z : Edg, (encE z)[2]? = some (.int .i64 z.2.2) := fun z => rfl
  simp [Dv_pur, Dv_red, Dv_nil, cellsOf_some k1, cellsOf_some k2, w]
  refine ⟨cagree1 (by simp [cellsOf_some (g1 _), w]), cagree1 (by simp [cellsOf_some (g2 _), w]), ?_⟩
  refine Dv_call ?_
  simp
  refine (h2 true x.2.2 y.2.2 _ _).mono ?_
  rintro v h2 nx2 ⟨rfl, rfl, rfl⟩
  refine ⟨Nat.le_refl _, ?_⟩
  simp [Dv_pur, Dv_alc, Dv_nil, calq, cfillP, cfillS, vcells, lput, lputI, lput0, lput0I, lputN, lputS, llen, llenI, sliceNB, cellL, cellV, nbV, nbO]
  refine Dv_call ?_
  simp
  refine (or_cv hor hoo (sp := none) (ro := false) [orI [cmpI x.1 y.1, cmpI x.2.1 y.2.1], cmpI x.2.2 y.2.2] (by simp) (by simp)).mono ?_
  rintro v h3 nx3 ⟨rfl, rfl, rfl⟩
  refine ⟨by omega, ?_⟩
  simp [Dv_pur, Dv_nil]
  refine Ev.ret ?_
  simp [cmpE]
  refine ⟨by omega, fun b hb => ?_⟩
  rw [if_neg (by omega), hfr b (by omega)]
  simp [show b ≠ nx by omega, show b ≠ nx + 1 by omega]
theorem cmpE_lt {x y : Edg} : cmpE x y < 0 ↔ x.1 < y.1 ∨ (x.1 = y.1 ∧ (x.2.1 < y.2.1 ∨ (x.2.1 = y.2.1 ∧ x.2.2 < y.2.2))) := by
  have h0 : cmpL (x.1, x.2.1) (y.1, y.2.1) = orI [cmpI x.1 y.1, cmpI x.2.1 y.2.1] := rfl
  have hz : orI [cmpI x.1 y.1, cmpI x.2.1 y.2.1] = 0 ↔ x.1 = y.1 ∧ x.2.1 = y.2.1 := by
    unfold orI orI orI
    by_cases h : cmpI x.1 y.1 = 0
    · rw [if_pos h]
      rw [cmpI_zero] at h
      by_cases h2 : cmpI x.2.1 y.2.1 = 0
      · rw [if_pos h2]; rw [cmpI_zero] at h2; simp [h, h2]
      · rw [if_neg h2, cmpI_zero]; simp [h]
    · rw [if_neg h, cmpI_zero]
      have : ¬ x.1 = y.1 := fun e => h (cmpI_zero.2 e)
      simp [this]
  have hlt := @cmpL_lt (x.1, x.2.1) (y.1, y.2.1)
  rw [h0] at hlt
  simp only at hlt
  show orI (orI [cmpI x.1 y.1, cmpI x.2.1 y.2.1] :: [cmpI x.2.2 y.2.2]) < 0 ↔ _
  generalize orI [cmpI x.1 y.1, cmpI x.2.1 y.2.1] = z at *
  unfold orI orI orI
  by_cases h : z = 0
  · rw [if_pos h]
    have hh := hz.1 h
    by_cases h2 : cmpI x.2.2 y.2.2 = 0
    · rw [if_pos h2]
      rw [cmpI_zero] at h2
      omega
    · rw [if_neg h2, cmpI_lt]; omega
  · rw [if_neg h, hlt]
    have : ¬ (x.1 = y.1 ∧ x.2.1 = y.2.1) := fun e => h (hz.2 e)
    omega
theorem cmpE_tr (x y z : Edg) (h1 : ¬ cmpE y x < 0) (h2 : ¬ cmpE z y < 0) : ¬ cmpE z x < 0 := by
  rw [cmpE_lt] at *; omega
theorem cmpE_as (x y : Edg) (h : cmpE x y < 0) : ¬ cmpE y x < 0 := by
  rw [cmpE_lt] at *; omega
theorem cmpE_anti (x y : Edg) (h1 : ¬ cmpE y x < 0) (h2 : ¬ cmpE x y < 0) : x = y := by
  rw [cmpE_lt] at *
  obtain ⟨a, b, c⟩ := x
  obtain ⟨d, e, f⟩ := y
  simp only at h1 h2
  have e1 : a = d := by omega
  have e2 : b = e := by omega
  have e3 : c = f := by omega
  rw [e1, e2, e3]
theorem ltE_eq {x y : Edg} : ltE x y = false ↔ ¬ cmpE x y < 0 := by
  rw [cmpE_lt]
  unfold ltE
  rw [iblt_dec, iblt_dec, iblt_dec, ieq_beq, ieq_beq]
  simp
end
end Go.Ax

/-! part AxCmb2 -/
namespace Go.Ax
open Go
set_option linter.unusedSimpArgs false
set_option linter.unusedVariables false

/-! # small wide numbers -/
def wideL (n : Nat) : List Value := [.int .i64 0, .int .u64 (n : Int)]
def cfOf (tw : Nat) : CF := { res := [.cell 2 tw], body :=
 (.seq (.regO [⟨none, (some 2), 0, .alc (.new [(.int .i64 0), (.int .u64 0)])⟩])
 (.seq (.regO [⟨none, (some 3), 0, .pur (.mv (.t 0))⟩,
   ⟨none, (some 4), 0, .pur (.bin .shr 2 (.t 3) (.v (.int .u64 63)))⟩,
   ⟨none, (some 5), 0, .pur (.mv (.t 0))⟩,
   ⟨none, (some 6), 0, .pur (.conv (.int .u64) (.t 5))⟩,
   ⟨none, (some 7), 0, .pur (.build [(.int .i64 0), (.int .u64 0)] [(0, 1, (.t 4)), (1, 1, (.t 6))])⟩,
   ⟨none, none, 0, .eff (.st 2 (.t 2) (.t 7))⟩])
 .ret)) }
def cfLesser (fw tw : Nat) : CF := { res := [.cell 4 tw], body :=
 (.seq (.regO [⟨none, (some 2), 0, .alc (.box (.t 0))⟩,
   ⟨none, (some 3), 0, .alc (.box (.t 1))⟩,
   ⟨none, (some 4), 0, .alc (.new [(.int .i64 0), (.int .u64 0)])⟩])
 (.seq (.seq (.regO [⟨none, (some 5), 0, .red (.ld (some 2) (.t 2))⟩,
   ⟨none, (some 6), 0, .red (.ld (some 2) (.t 3))⟩,
   ⟨none, (some 7), 0, .eff (.call fw [(.t 5), (.t 6)])⟩,
   ⟨none, (some 8), 0, .pur (.bin .leq 3 (.t 7) (.v (.int .i64 0)))⟩])
 (.cond (.t 8)
  (.seq (.regO [⟨none, (some 9), 0, .red (.ld (some 2) (.t 2))⟩,
    ⟨none, none, 0, .eff (.st 2 (.t 4) (.t 9))⟩])
  .ret)
  .skip))
 (.seq (.regO [⟨none, (some 10), 0, .red (.ld (some 2) (.t 3))⟩,
   ⟨none, none, 0, .eff (.st 2 (.t 4) (.t 10))⟩])
 .ret))) }
section
variable {P : Program} {orc : Orc} {s : Bool}
/-- where a wide number stands in the types -/
def WideAt (P : Program) (tw : Nat) : Prop := aggOf P tw = some (some 2)
@[simp] theorem resVs_cell (tm : Tm) (h : Hp) (a t : Nat) (rs : List ResultVar) : resVs P tm h (.cell a t :: rs) = R.bind (addrR (tget tm a) (fun a => loadA P h t a)) (fun v => R.bind (resVs P tm h rs) (fun vs => .ok (v :: vs))) := rfl
theorem loadA_wide {tw : Nat} (hw : WideAt P tw) {h : Hp} {b : Nat} {n : Nat} (hh : hget h b = some (.cells (wideL n) false)) : loadA P h tw ⟨b, 0, none⟩ = .ok (.agg ⟨wideL n⟩) := by
  unfold loadA
  rw [hw]
  simp only [of_some, cellsOf_some hh]
  simp [wideL]
theorem st_wide {h : Hp} {b n m : Nat} (hh : hget h b = some (.cells (wideL m) false)) : cSt h 2 (vcells (.agg ⟨wideL n⟩)) ⟨b, 0, none⟩ = .ok (hset h b (.cells (wideL n) false)) := by
  unfold cSt writeA
  simp only [cellsOf_some hh, lput_eq, llen_eq]
  simp [wideL, vcells, cellL, cellV]
theorem wrapUN (n : Nat) (h : n < 1000000000) : IntKind.wrap .u64 (n : Int) = (n : Int) := by
  rw [← fwrap_eq]
  show fwrapP .u64 n = _
  unfold fwrapP limU
  rw [blt_dec]
  simp [show n < 18446744073709551616 by omega]
theorem shr63 (t n : Nat) (h : n < 1000000000) : bin P .shr t (.int .i64 (n : Int)) (.int .u64 63) = .ok (.int .i64 0) := by
  show iShift .shr .i64 (n : Int) 63 = _
  unfold iShift
  show (bif iblt 63 0 then _ else _) = _
  rw [show iblt 63 0 = false from rfl]
  show rInt .i64 ((n : Int).fdiv (2 ^ (min (63 : Int).toNat IntKind.i64.bits))) = _
  have : (2 : Int) ^ (min (63 : Int).toNat IntKind.i64.bits) = 9223372036854775808 := by decide
  rw [this]
  have : (n : Int).fdiv 9223372036854775808 = 0 := by
    rw [Int.fdiv_eq_ediv_of_nonneg _ (by omega)]
    omega
  rw [this]; rfl
theorem of_cv {f tw : Nat} (hcf : compAt P f = some (cfOf tw)) (ho : orc f = none) (hw : WideAt P tw) {n : Nat} (hn : n < 1000000000) {h : Hp} {nx : Nat} :
    Cv P orc s f [.int .i64 (n : Int)] h nx (fun v h' nx' => v = .agg ⟨wideL n⟩ ∧ nx ≤ nx' ∧ ∀ b, b < nx → hget h' b = hget h b) := by
  refine Cv.enter ho hcf ?_
  unfold cfOf
  refine Ev.seq (Ev.regO ?_)
  simp [Ov_alc, Ov_nil, calq, nbV, nbO]
  refine Ev.seq (Ev.regO ?_)
  have hb : ∀ tm, cpur P (tset (tset tm 4 (.int .i64 0)) 6 (.int .u64 (n : Int))) (.build [(.int .i64 0), (.int .u64 0)] [(0, 1, (.t 4)), (1, 1, (.t 6))]) = .ok (.agg ⟨wideL n⟩) := fun tm => by
    simp [cpur, cfillP, cfillS, vcells, lput, lputI, lput0, lput0I, lputN, lputS, llen, llenI, wideL]
  have hb2 : ∀ tm x, cpur P (tset (tset (tset tm 4 (.int .i64 0)) 5 x) 6 (.int .u64 (n : Int))) (.build [(.int .i64 0), (.int .u64 0)] [(0, 1, (.t 4)), (1, 1, (.t 6))]) = .ok (.agg ⟨wideL n⟩) := fun tm x => by
    simp [cpur, cfillP, cfillS, vcells, lput, lputI, lput0, lput0I, lputN, lputS, llen, llenI, wideL]
  simp [Ov_pur, Ov_nil, shr63 _ _ hn, wrapUN n hn, hb2]
  rw [Ov_st]
  simp only [cev_t, tgs, ↓reduceIte, Nat.reduceEqDiff, addrR_ptr]
  rw [st_wide (m := 0) (by simp [wideL])]
  simp [Ov_nil]
  refine Ev.ret ?_
  simp
  rw [loadA_wide hw (n := n) (by simp)]
  simp
  exact fun b hb => by simp [show b ≠ nx by omega]
/-- wide numbers are compared -/
def WideCmp (P : Program) (orc : Orc) (f : FuncId) : Prop := ∀ (s : Bool) (m n : Nat) (h : Hp) (nx : Nat), Cv P orc s f [.agg ⟨wideL m⟩, .agg ⟨wideL n⟩] h nx (fun v h' nx' => v = .int .i64 (cmpI m n) ∧ nx ≤ nx' ∧ ∀ b, b < nx → hget h' b = hget h b)
theorem wideCmp_ok {f f1 f2 fo : Nat} (hcf : compAt P f = some (cfTwo f1 f2 fo)) (ho : orc f = none) (h1 : NumCmp P orc .i64 f1) (h2 : NumCmp P orc .u64 f2) (hor : compAt P fo = some cfOr) (hoo : orc fo = none) : WideCmp P orc f := by
  intro s m n h nx
  refine (two_cv hcf ho h1 h2 hor hoo (l := wideL m) (m := wideL n) (a := 0) (b := 0) (c := m) (d := n) rfl rfl rfl rfl rfl rfl).mono ?_
  rintro v h' nx' ⟨rfl, hr⟩
  refine ⟨?_, hr⟩
  have : cmpI 0 0 = 0 := rfl
  simp only [orI, this, ↓reduceIte]
  by_cases hz : cmpI (m : Int) (n : Int) = 0 <;> simp [hz]
theorem lesser_cv {f fw tw : Nat} (hcf : compAt P f = some (cfLesser fw tw)) (ho : orc f = none) (hw : WideAt P tw) (hc : WideCmp P orc fw) {m n : Nat} {h : Hp} {nx : Nat} :
    Cv P orc s f [.agg ⟨wideL m⟩, .agg ⟨wideL n⟩] h nx (fun v h' nx' => v = .agg ⟨wideL (if n < m then n else m)⟩ ∧ nx ≤ nx' ∧ ∀ b, b < nx → hget h' b = hget h b) := by
  refine Cv.enter ho hcf ?_
  unfold cfLesser
  have hm : cellL (wideL m) = true := rfl
  have hn : cellL (wideL n) = true := rfl
  have ld : ∀ z : Nat, loadC (some 2) 0 (wideL z) = .ok (.agg ⟨wideL z⟩) := fun z => by simp [wideL]
  refine Ev.seq (Ev.regO ?_)
  simp [Ov_pur, Ov_alc, Ov_nil, calq, vcells, cellsNB, hm, hn, nbV, nbO]
  have g1 : hget (hset (hset (hset h nx (.cells (wideL m) false)) (nx + 1) (.cells (wideL n) false)) (nx + 1 + 1) (.cells [(.int .i64 0), (.int .u64 0)] false)) nx = some (.cells (wideL m) false) := by simp [show ¬ nx = nx + 1 + 1 by omega]
  have g2 : hget (hset (hset (hset h nx (.cells (wideL m) false)) (nx + 1) (.cells (wideL n) false)) (nx + 1 + 1) (.cells [(.int .i64 0), (.int .u64 0)] false)) (nx + 1) = some (.cells (wideL n) false) := by simp
  have g3 : hget (hset (hset (hset h nx (.cells (wideL m) false)) (nx + 1) (.cells (wideL n) false)) (nx + 1 + 1) (.cells [(.int .i64 0), (.int .u64 0)] false)) (nx + 1 + 1) = some (.cells (wideL 0) false) := by simp [wideL]
  have g4 : ∀ b, b < nx → hget (hset (hset (hset h nx (.cells (wideL m) false)) (nx + 1) (.cells (wideL n) false)) (nx + 1 + 1) (.cells [(.int .i64 0), (.int .u64 0)] false)) b = hget h b := fun b hb => by simp [show b ≠ nx by omega, show b ≠ nx + 1 by omega, show b ≠ nx + 1 + 1 by omega]
  generalize hset (hset (hset h nx (.cells (wideL m) false)) (nx + 1) (.cells (wideL n) false)) (nx + 1 + 1) (.cells [(.int .i64 0), (.int .u64 0)] false) = h1 at *
  refine Ev.seq (Ev.seq (Ev.regO ?_))
  simp only [Ov_red, c_ld, cev_t, tgs, ↓reduceIte, Nat.reduceEqDiff, addrR_ptr, cellsOf_some g1, cellsOf_some g2, ld, RK_ok, putT_some]
  refine Ov_call ?_
  simp only [cevs_cons, cevs_nil, cev_t, tgs, ↓reduceIte, Nat.reduceEqDiff]
  refine (hc s m n _ _).mono ?_
  rintro v h' nx' ⟨rfl, hnx', hfr⟩
  have k1 : hget h' nx = some (.cells (wideL m) false) := by rw [hfr _ (by omega)]; exact g1
  have k2 : hget h' (nx + 1) = some (.cells (wideL n) false) := by rw [hfr _ (by omega)]; exact g2
  have k3 : hget h' (nx + 1 + 1) = some (.cells (wideL 0) false) := by rw [hfr _ (by omega)]; exact g3
  have k4 : ∀ b, b < nx → hget h' b = hget h b := fun b hb => by rw [hfr b (by omega)]; exact g4 b hb
  simp only [Ov_pur, c_bin, cev_t, cev_v, tgs, ↓reduceIte, Nat.reduceEqDiff, bin_leq, RK_ok, putT_some, Ov_nil, nextK_normal]
  have hcmp : (!decide ((0 : Int) < cmpI (m : Int) (n : Int))) = decide (m ≤ n) := by
    unfold cmpI
    by_cases h1 : (m : Int) < n
    · simp [h1]; omega
    · by_cases h2 : (n : Int) < m
      · simp [h1, h2]; omega
      · simp [h1, h2]; omega
  rw [hcmp]
  refine Ev.cond (decide (m ≤ n)) (by simp) (fun hle => ?_) fun hgt => Ev.skip ?_
  · simp only [decide_eq_true_eq] at hle
    refine Ev.seq (Ev.regO ?_)
    simp only [Ov_red, c_ld, cev_t, tgs, ↓reduceIte, Nat.reduceEqDiff, addrR_ptr, cellsOf_some k1, ld, RK_ok, putT_some, Ov_st, st_wide k3, putT_none, Ov_nil, nextK_normal]
    refine Ev.ret ?_
    show RK (resVs P _ _ [.cell 4 tw]) _
    simp only [resVs_cell, resVs_nil, tgs, ↓reduceIte, Nat.reduceEqDiff, addrR_ptr, loadA_wide hw (n := m) (b := nx + 1 + 1) (h := hset h' (nx + 1 + 1) (.cells (wideL m) false)) (by simp), bind_ok, RK_ok, retV_one]
    refine ⟨by rw [if_neg (by omega)], by omega, fun b hb => ?_⟩
    simp [show b ≠ nx + 1 + 1 by omega, k4 b hb]
  · simp only [decide_eq_false_iff_not] at hgt
    try simp only [nextK_normal]
    refine Ev.seq (Ev.regO ?_)
    simp only [Ov_red, c_ld, cev_t, tgs, ↓reduceIte, Nat.reduceEqDiff, addrR_ptr, cellsOf_some k2, ld, RK_ok, putT_some, Ov_st, st_wide k3, putT_none, Ov_nil, nextK_normal]
    refine Ev.ret ?_
    show RK (resVs P _ _ [.cell 4 tw]) _
    simp only [resVs_cell, resVs_nil, tgs, ↓reduceIte, Nat.reduceEqDiff, addrR_ptr, loadA_wide hw (n := n) (b := nx + 1 + 1) (h := hset h' (nx + 1 + 1) (.cells (wideL n) false)) (by simp), bind_ok, RK_ok, retV_one]
    refine ⟨by rw [if_pos (by omega)], by omega, fun b hb => ?_⟩
    simp [show b ≠ nx + 1 + 1 by omega, k4 b hb]
end
end Go.Ax

/-! part AxCmb3 -/
namespace Go.Ax
open Go
set_option linter.unusedSimpArgs false
set_option linter.unusedVariables false

/-! # the ring of least sums -/
def cfIs (tr : Nat) : CF := { res := [.tmp 2], body :=
 (.seq (.regO [⟨none, (some 2), 0, .pur (.mv (.v (.bool false)))⟩])
 (.seq (.regO [⟨none, (some 3), 0, .pur (.mv (.t 0))⟩,
   ⟨none, (some 4), 0, .pur (.bin .gtr tr (.t 3) (.v (.int .i64 0)))⟩,
   ⟨none, (some 5), 0, .pur (.mv (.t 4))⟩,
   ⟨(some (5, true)), (some 6), 0, .pur (.mv (.t 0))⟩,
   ⟨(some (5, true)), (some 7), 0, .pur (.bin .lss 3 (.t 6) (.v (.int .i64 6)))⟩,
   ⟨none, (some 8), 0, .pur (.pick (.t 5) (.t 7) (.v (.bool false)))⟩,
   ⟨none, (some 2), 0, .pur (.mv (.t 8))⟩])
 .ret)) }
def cfAdd (fl tr tw : Nat) (R1 R2 R3 : CC) : CF := { res := [.cell 6 tw], body :=
 (.seq (.regO [⟨none, (some 4), 0, .alc (.box (.t 1))⟩,
   ⟨none, (some 5), 0, .alc (.box (.t 2))⟩,
   ⟨none, (some 6), 0, .alc (.new [(.int .i64 0), (.int .u64 0)])⟩])
 (.seq (.seq (.regO [⟨none, (some 7), 0, .pur (.mv (.t 0))⟩])
 (.block 0
  (.seq (.seq (.regO [⟨none, (some 9), 0, .pur (.bin .eql tr (.t 7) (.v (.int .i64 1)))⟩,
    ⟨none, (some 8), 0, .pur (.mv (.t 9))⟩])
  (.cond (.t 8)
   .skip
   R1))
  (.cond (.t 8)
   (.seq (.regO [⟨none, (some 12), 0, .red (.ld (some 2) (.t 4))⟩,
     ⟨none, (some 13), 0, .red (.ld (some 2) (.t 5))⟩,
     ⟨none, (some 14), 0, .eff (.call fl [(.t 12), (.t 13)])⟩,
     ⟨none, none, 0, .eff (.st 2 (.t 6) (.t 14))⟩])
   .ret)
   R2))))
 R3)) }
def cfNarrow (fn : Nat) : CF := { res := [.tmp 4, .tmp 5], body :=
 (.seq (.regO [⟨none, (some 3), 0, .alc (.box (.t 1))⟩,
   ⟨none, (some 4), 0, .pur (.mv (.v (.int .i64 0)))⟩,
   ⟨none, (some 5), 0, .pur (.mv (.v (.bool false)))⟩])
 (.seq (.regO [⟨none, (some 6), 0, .red (.ld (some 2) (.t 3))⟩,
   ⟨none, (some 7), 0, .eff (.call fn [(.t 6)])⟩,
   ⟨none, (some 8), 0, .pur (.ext (.t 7) 0)⟩,
   ⟨none, (some 9), 0, .pur (.ext (.t 7) 1)⟩,
   ⟨none, (some 4), 0, .pur (.mv (.t 8))⟩,
   ⟨none, (some 5), 0, .pur (.mv (.t 9))⟩])
 .ret)) }
def cfWNarrow (fo tw : Nat) : CF := { res := [.tmp 2, .tmp 3], body :=
 (.seq (.regO [⟨none, (some 1), 0, .alc (.box (.t 0))⟩,
   ⟨none, (some 2), 0, .pur (.mv (.v (.int .i64 0)))⟩,
   ⟨none, (some 3), 0, .pur (.mv (.v (.bool false)))⟩])
 (.seq (.regO [⟨none, (some 5), 0, .pur (.fldA 1 (.t 1))⟩,
   ⟨none, (some 6), 0, .red (.ld none (.t 5))⟩,
   ⟨none, (some 7), 0, .pur (.conv (.int .i64) (.t 6))⟩,
   ⟨none, (some 4), 0, .pur (.mv (.t 7))⟩])
 (.seq (.seq (.regD [⟨none, (some 8), 0, .pur (.mv (.t 4))⟩,
   ⟨none, (some 9), 0, .eff (.call fo [(.t 8)])⟩,
   ⟨none, (some 10), 1, .red (.ld (some 2) (.t 1))⟩,
   ⟨none, (some 11), 0, .pur (.bin .neq tw (.t 9) (.t 10))⟩])
 (.cond (.t 11)
  (.seq (.regO [⟨none, (some 2), 0, .pur (.mv (.v (.int .i64 0)))⟩,
    ⟨none, (some 3), 0, .pur (.mv (.v (.bool false)))⟩])
  .ret)
  .skip))
 (.seq (.regO [⟨none, (some 12), 0, .pur (.mv (.t 4))⟩,
   ⟨none, (some 2), 0, .pur (.mv (.t 12))⟩,
   ⟨none, (some 3), 0, .pur (.mv (.v (.bool true)))⟩])
 .ret)))) }
section
variable {P : Program} {orc : Orc} {s : Bool}
theorem is_cv {f tr : Nat} (hcf : compAt P f = some (cfIs tr)) (ho : orc f = none) {h : Hp} {nx : Nat} : Cv P orc s f [.int .i64 1] h nx (fun v h' nx' => v = .bool true ∧ h' = h ∧ nx' = nx) := by
  refine Cv.enter ho hcf ?_
  unfold cfIs
  refine Ev.seq (Ev.regO ?_)
  simp [Ov_pur, Ov_nil]
  refine Ev.seq (Ev.regO ?_)
  simp [Ov_pur, Ov_g, Ov_nil, boolIs]
  exact Ev.ret (by simp)
theorem ld_wide (z : Nat) : loadC (some 2) 0 (wideL z) = .ok (.agg ⟨wideL z⟩) := by simp [wideL]
theorem add_cv {f fl fw tr tw : Nat} {R1 R2 R3 : CC} (hcf : compAt P f = some (cfAdd fl tr tw R1 R2 R3)) (ho : orc f = none) (hl : compAt P fl = some (cfLesser fw tw)) (hol : orc fl = none) (hw : WideAt P tw) (hc : WideCmp P orc fw) {m n : Nat} {h : Hp} {nx : Nat} :
    Cv P orc s f [.int .i64 1, .agg ⟨wideL m⟩, .agg ⟨wideL n⟩] h nx (fun v h' nx' => v = .agg ⟨wideL (if n < m then n else m)⟩ ∧ nx ≤ nx' ∧ ∀ b, b < nx → hget h' b = hget h b) := by
  refine Cv.enter ho hcf ?_
  unfold cfAdd
  have hm : cellL (wideL m) = true := rfl
  have hn : cellL (wideL n) = true := rfl
  refine Ev.seq (Ev.regO ?_)
  simp [Ov_pur, Ov_alc, Ov_nil, calq, vcells, cellsNB, hm, hn, nbV, nbO]
  have g1 : hget (hset (hset (hset h nx (.cells (wideL m) false)) (nx + 1) (.cells (wideL n) false)) (nx + 1 + 1) (.cells [(.int .i64 0), (.int .u64 0)] false)) nx = some (.cells (wideL m) false) := by simp [show ¬ nx = nx + 1 + 1 by omega]
  have g2 : hget (hset (hset (hset h nx (.cells (wideL m) false)) (nx + 1) (.cells (wideL n) false)) (nx + 1 + 1) (.cells [(.int .i64 0), (.int .u64 0)] false)) (nx + 1) = some (.cells (wideL n) false) := by simp
  have g3 : hget (hset (hset (hset h nx (.cells (wideL m) false)) (nx + 1) (.cells (wideL n) false)) (nx + 1 + 1) (.cells [(.int .i64 0), (.int .u64 0)] false)) (nx + 1 + 1) = some (.cells (wideL 0) false) := by simp [wideL]
  have g4 : ∀ b, b < nx → hget (hset (hset (hset h nx (.cells (wideL m) false)) (nx + 1) (.cells (wideL n) false)) (nx + 1 + 1) (.cells [(.int .i64 0), (.int .u64 0)] false)) b = hget h b := fun b hb => by simp [show b ≠ nx by omega, show b ≠ nx + 1 by omega, show b ≠ nx + 1 + 1 by omega]
  generalize hset (hset (hset h nx (.cells (wideL m) false)) (nx + 1) (.cells (wideL n) false)) (nx + 1 + 1) (.cells [(.int .i64 0), (.int .u64 0)] false) = h1 at *
  refine Ev.seq (Ev.seq (Ev.regO ?_))
  simp [Ov_pur, Ov_nil]
  refine Ev.block (Ev.seq (Ev.seq (Ev.regO ?_)))
  simp [Ov_pur, Ov_nil]
  refine Ev.cond true (by simp) (fun _ => Ev.skip ?_) (by simp)
  simp
  refine Ev.cond true (by simp) (fun _ => ?_) (by simp)
  refine Ev.seq (Ev.regO ?_)
  simp only [Ov_red, c_ld, cev_t, tgs, ↓reduceIte, Nat.reduceEqDiff, addrR_ptr, cellsOf_some g1, cellsOf_some g2, ld_wide, RK_ok, putT_some]
  refine Ov_call ?_
  simp only [cevs_cons, cevs_nil, cev_t, tgs, ↓reduceIte, Nat.reduceEqDiff]
  refine (lesser_cv (s := s) hl hol hw hc).mono ?_
  rintro v h' nx' ⟨rfl, hnx', hfr⟩
  have k3 : hget h' (nx + 1 + 1) = some (.cells (wideL 0) false) := by rw [hfr _ (by omega)]; exact g3
  have k4 : ∀ b, b < nx → hget h' b = hget h b := fun b hb => by rw [hfr b (by omega)]; exact g4 b hb
  generalize (if n < m then n else m) = r
  simp only [Ov_st, cev_t, putT_some, tgs, ↓reduceIte, Nat.reduceEqDiff, addrR_ptr, st_wide k3, RK_ok, putT_none, Ov_nil, nextK_normal]
  refine Ev.ret ?_
  show RK (resVs P _ _ [.cell 6 tw]) _
  simp only [resVs_cell, resVs_nil, tgs, ↓reduceIte, Nat.reduceEqDiff, addrR_ptr, loadA_wide hw (n := r) (b := nx + 1 + 1) (h := hset h' (nx + 1 + 1) (.cells (wideL r) false)) (by simp), bind_ok, RK_ok, retV_one]
  refine ⟨trivial, by omega, fun b hb => ?_⟩
  simp [show b ≠ nx + 1 + 1 by omega, k4 b hb]
theorem cagreeW {tm : Tm} {e : CRd} {n : Nat} {h : Hp} {hs : List Hp} (he : cred P tm h e = .ok (.agg ⟨wideL n⟩)) : cagree P tm e (.agg ⟨wideL n⟩) 1 (h :: hs) = true := by
  unfold cagree
  rw [he]
  show (bif sameR (.agg ⟨wideL n⟩) (.ok (.agg ⟨wideL n⟩)) then true else false) = true
  have : sameR (.agg ⟨wideL n⟩) (.ok (.agg ⟨wideL n⟩)) = true := by
    show sameV (.agg ⟨wideL n⟩) (.agg ⟨wideL n⟩) = true
    show (same1 (.int .i64 0) (.int .i64 0) && (same1 (.int .u64 (n : Int)) (.int .u64 (n : Int)) && true)) = true
    have h2 : same1 (.int .u64 (n : Int)) (.int .u64 (n : Int)) = true := by
      show (keq .u64 .u64 && ieq (n : Int) (n : Int)) = true
      rw [ieq_iff.2 rfl]; rfl
    rw [h2]; rfl
  rw [this]; rfl
theorem wnarrow_cv {f fo tw : Nat} (hcf : compAt P f = some (cfWNarrow fo tw)) (ho : orc f = none) (hof : compAt P fo = some (cfOf tw)) (hoo : orc fo = none) (hw : WideAt P tw) {n : Nat} (hn : n < 1000000000)
    (heq : bin P .neq tw (.agg ⟨wideL n⟩) (.agg ⟨wideL n⟩) = .ok (.bool false)) {h : Hp} {nx : Nat} :
    Cv P orc s f [.agg ⟨wideL n⟩] h nx (fun v h' nx' => v = .tuple ⟨[.int .i64 (n : Int), .bool true]⟩ ∧ nx ≤ nx' ∧ ∀ b, b < nx → hget h' b = hget h b) := by
  refine Cv.enter ho hcf ?_
  unfold cfWNarrow
  have hc : cellL (wideL n) = true := rfl
  refine Ev.seq (Ev.regO ?_)
  simp [Ov_pur, Ov_alc, Ov_nil, calq, vcells, cellsNB, hc, nbV, nbO]
  have g1 : hget (hset h nx (.cells (wideL n) false)) nx = some (.cells (wideL n) false) := by simp
  have g4 : ∀ b, b < nx → hget (hset h nx (.cells (wideL n) false)) b = hget h b := fun b hb => by simp [show b ≠ nx by omega]
  generalize hset h nx (.cells (wideL n) false) = h1 at *
  have w1 : (wideL n)[1]? = some (.int .u64 (n : Int)) := rfl
  refine Ev.seq (Ev.regO ?_)
  simp [Ov_pur, Ov_red, Ov_nil, cellsOf_some g1, w1, wrapN n hn]
  refine Ev.seq (Ev.seq (Ev.regD ?_))
  simp [Dv_pur]
  refine Dv_call ?_
  simp
  refine (of_cv (s := true) hof hoo hw hn).mono ?_
  rintro v h' nx' ⟨rfl, hnx', hfr⟩
  refine ⟨by omega, ?_⟩
  have k1 : hget h' nx = some (.cells (wideL n) false) := by rw [hfr _ (by omega)]; exact g1
  simp only [Dv_red, c_ld, cev_t, tgs, putT_some, ↓reduceIte, Nat.reduceEqDiff, addrR_ptr, cellsOf_some k1, ld_wide, RK_ok]
  refine ⟨cagreeW (by simp only [c_ld, cev_t, tgs, ↓reduceIte, Nat.reduceEqDiff, addrR_ptr, cellsOf_some g1, ld_wide]), ?_⟩
  simp only [Dv_pur, c_bin, cev_t, tgs, ↓reduceIte, Nat.reduceEqDiff, heq, RK_ok, putT_some, Dv_nil, nextK_normal]
  refine Ev.cond false (by simp) (by simp) fun _ => Ev.skip ?_
  show Ev P orc s _ _ _ _ _
  refine Ev.seq (Ev.regO ?_)
  simp only [Ov_pur, c_mv, cev_t, cev_v, tgs, ↓reduceIte, Nat.reduceEqDiff, RK_ok, putT_some, Ov_nil, nextK_normal]
  refine Ev.ret ?_
  simp only [retK_ret, resVs_tmp, resVs_nil, tgs, ↓reduceIte, Nat.reduceEqDiff, bind_ok, RK_ok, retV_two]
  exact ⟨trivial, by omega, fun b hb => by rw [hfr b (by omega)]; exact g4 b hb⟩
theorem narrow_cv {f fn fo tw : Nat} (hcf : compAt P f = some (cfNarrow fn)) (ho : orc f = none) (hnf : compAt P fn = some (cfWNarrow fo tw)) (hon : orc fn = none) (hof : compAt P fo = some (cfOf tw)) (hoo : orc fo = none) (hw : WideAt P tw) {n : Nat} (hn : n < 1000000000)
    (heq : bin P .neq tw (.agg ⟨wideL n⟩) (.agg ⟨wideL n⟩) = .ok (.bool false)) {r : Value} {h : Hp} {nx : Nat} :
    Cv P orc s f [r, .agg ⟨wideL n⟩] h nx (fun v h' nx' => v = .tuple ⟨[.int .i64 (n : Int), .bool true]⟩ ∧ nx ≤ nx' ∧ ∀ b, b < nx → hget h' b = hget h b) := by
  refine Cv.enter ho hcf ?_
  unfold cfNarrow
  have hc : cellL (wideL n) = true := rfl
  refine Ev.seq (Ev.regO ?_)
  simp [Ov_pur, Ov_alc, Ov_nil, calq, vcells, cellsNB, hc, nbV, nbO]
  have g1 : hget (hset h nx (.cells (wideL n) false)) nx = some (.cells (wideL n) false) := by simp
  have g4 : ∀ b, b < nx → hget (hset h nx (.cells (wideL n) false)) b = hget h b := fun b hb => by simp [show b ≠ nx by omega]
  generalize hset h nx (.cells (wideL n) false) = h1 at *
  refine Ev.seq (Ev.regO ?_)
  simp only [Ov_red, c_ld, cev_t, tgs, putT_some, ↓reduceIte, Nat.reduceEqDiff, addrR_ptr, cellsOf_some g1, ld_wide, RK_ok]
  refine Ov_call ?_
  simp only [cevs_cons, cevs_nil, cev_t, tgs, ↓reduceIte]
  refine (wnarrow_cv (s := s) hnf hon hof hoo hw hn heq).mono ?_
  rintro v h' nx' ⟨rfl, hnx', hfr⟩
  simp [Ov_pur, Ov_nil]
  refine Ev.ret ?_
  simp only [retK_ret, resVs_tmp, resVs_nil, tgs, ↓reduceIte, Nat.reduceEqDiff, bind_ok, RK_ok, retV_two]
  exact ⟨trivial, by omega, fun b hb => by rw [hfr b (by omega)]; exact g4 b hb⟩
end
end Go.Ax

/-! part AxCmb4 -/
namespace Go.Ax
open Go
set_option linter.unusedSimpArgs false
set_option linter.unusedVariables false

/-! # a map of sums -/
def keyV (x : Edg) : Value := .agg ⟨encL (x.1, x.2.1)⟩
def mkEnts : Nat → List Edg → List MapEntry
  | _, [] => []
  | i, x :: l => { key := keyV x, val := .agg ⟨wideL x.2.2.toNat⟩, born := i } :: mkEnts (i + 1) l
def sameB (x e : Edg) : Bool := ieq x.1 e.1 && ieq x.2.1 e.2.1
def Small (x : Edg) : Prop := smallI x.1 = true ∧ smallI x.2.1 = true ∧ smallI x.2.2 = true
def fnd (e : Edg) : List Edg → Option (Nat × Edg)
  | [] => none
  | x :: l => bif sameB x e then some (0, x) else (fnd e l).map (fun p => (p.1 + 1, p.2))
theorem combS_eq (e : Edg) : ∀ (l : List Edg), combS e l = match fnd e l with
    | none => l ++ [e]
    | some (p, x) => l.set p (x.1, x.2.1, bif iblt e.2.2 x.2.2 then e.2.2 else x.2.2)
  | [] => rfl
  | x :: l => by
    unfold combS fnd
    show (bif sameB x e then _ else _) = _
    cases sameB x e with
    | true => rfl
    | false =>
      simp only [cond_false]
      rw [combS_eq e l]
      cases fnd e l with
      | none => rfl
      | some p => rfl
theorem fnd_get {e : Edg} : ∀ {l : List Edg} {p : Nat} {x : Edg}, fnd e l = some (p, x) → l[p]? = some x ∧ sameB x e = true
  | [], p, x, h => by cases h
  | y :: l, p, x, h => by
    unfold fnd at h
    cases hs : sameB y e with
    | true => rw [hs] at h; cases h; exact ⟨rfl, hs⟩
    | false =>
      rw [hs] at h
      simp only [cond_false] at h
      cases hf : fnd e l with
      | none => rw [hf] at h; cases h
      | some q =>
        rw [hf] at h
        cases h
        obtain ⟨h1, h2⟩ := fnd_get (l := l) (p := q.1) (x := q.2) hf
        exact ⟨by simpa using h1, h2⟩
theorem mkEnts_app (i : Nat) (l : List Edg) (e : Edg) : mkEnts i (l ++ [e]) = mkEnts i l ++ [{ key := keyV e, val := .agg ⟨wideL e.2.2.toNat⟩, born := i + l.length }] := by
  induction l generalizing i with
  | nil => rfl
  | cons x l ih =>
    show _ :: mkEnts (i + 1) (l ++ [e]) = _ :: (mkEnts (i + 1) l ++ _)
    rw [ih, List.length_cons]
    have : i + 1 + l.length = i + (l.length + 1) := by omega
    rw [this]
theorem mkEnts_set (e : Edg) : ∀ (i p : Nat) (l : List Edg), p < l.length → mset (mkEnts i l) p (keyV e) (.agg ⟨wideL e.2.2.toNat⟩) = mkEnts i (l.set p e)
  | _, _, [], h => by simp at h
  | i, 0, x :: l, h => rfl
  | i, p + 1, x :: l, h => by
    show _ :: mset (mkEnts (i + 1) l) p _ _ = _ :: mkEnts (i + 1) (l.set p e)
    rw [mkEnts_set e (i + 1) p l (by simpa using h)]
section
variable {P : Program} {orc : Orc} {s : Bool}
/-- keys of two small numbers are compared -/
def KeyAt (P : Program) (kt : Nat) : Prop := ∀ x y : Edg, Small x → Small y → keyEq P kt (keyV x) (keyV y) = some (sameB y x)
theorem findE_mk {kt : Nat} (hk : KeyAt P kt) {e : Edg} (he : Small e) : ∀ (i j : Nat) (l : List Edg), (∀ x ∈ l, Small x) → findE P kt (keyV e) (mkEnts i l) j = some ((fnd e l).map fun p => (j + p.1, { key := keyV p.2, val := .agg ⟨wideL p.2.2.2.toNat⟩, born := i + p.1 }))
  | i, j, [], _ => rfl
  | i, j, x :: l, h => by
    have ih := findE_mk hk he (i + 1) (j + 1) l fun y hy => h y (List.mem_cons_of_mem _ hy)
    unfold mkEnts findE fnd
    simp only [hk e x he (h x (List.mem_cons_self ..))]
    cases sameB x e with
    | true => rfl
    | false =>
      simp only [cond_false]
      rw [show Nat.succ j = j + 1 from rfl, ih]
      cases fnd e l with
      | none => rfl
      | some q =>
        simp only [Option.map_some]
        have e1 : j + 1 + q.1 = j + (q.1 + 1) := by omega
        have e2 : i + 1 + q.1 = i + (q.1 + 1) := by omega
        rw [e1, e2]
theorem sameB_key {x e : Edg} (h : sameB x e = true) : keyV x = keyV e ∧ x.1 = e.1 ∧ x.2.1 = e.2.1 := by
  unfold sameB at h
  simp only [Bool.and_eq_true, ieq_iff] at h
  refine ⟨?_, h⟩
  unfold keyV
  rw [h.1, h.2]
theorem sameB_self (x : Edg) : sameB x x = true := by
  unfold sameB
  rw [ieq_iff.2 rfl, ieq_iff.2 rfl]; rfl
theorem lkp_mk {kt : Nat} (hk : KeyAt P kt) {e : Edg} (he : Small e) {h : Hp} {r ck : Nat} {l : List Edg} (hl : ∀ x ∈ l, Small x) (hm : hget h r = some (.map (mkEnts 0 l) ck)) (z : Value) :
    cLkp P h kt z true (.map (some r)) (keyV e) = .ok (match fnd e l with
      | none => .tuple #[z, .bool false]
      | some p => .tuple #[.agg ⟨wideL p.2.2.2.toNat⟩, .bool true]) := by
  unfold cLkp keyOk
  rw [hk e e he he]
  show entsOf h (.map (some r)) _ = _
  unfold entsOf mapOf
  simp only [hm, findE_mk hk he 0 0 l hl]
  cases fnd e l <;> rfl
theorem sameV_key (e : Edg) : sameV (keyV e) (keyV e) = true := by
  show (same1 (.int .i64 e.1) (.int .i64 e.1) && (same1 (.int .i64 e.2.1) (.int .i64 e.2.1) && true)) = true
  have : ∀ n : Int, same1 (.int .i64 n) (.int .i64 n) = true := fun n => by
    show (keq .i64 .i64 && ieq n n) = true
    rw [ieq_iff.2 rfl]; rfl
  rw [this, this]; rfl
theorem mup_mk {kt : Nat} (hk : KeyAt P kt) {e : Edg} (he : Small e) {h : Hp} {r : Nat} {l : List Edg} (hl : ∀ x ∈ l, Small x) (hm : hget h r = some (.map (mkEnts 0 l) l.length)) {w : Nat}
    (hw : w = match fnd e l with | none => e.2.2.toNat | some p => (bif iblt e.2.2 p.2.2.2 then e.2.2 else p.2.2.2).toNat) :
    cMup P kt h (.map (some r)) (keyV e) (.agg ⟨wideL w⟩) = .ok (hset h r (.map (mkEnts 0 (combS e l)) (combS e l).length)) := by
  unfold cMup keyOk
  rw [hk e e he he]
  show mapOf h r _ = _
  unfold mapOf
  simp only [hm, findE_mk hk he 0 0 l hl]
  rw [combS_eq]
  cases hf : fnd e l with
  | none =>
    rw [hf] at hw
    simp only at hw
    subst hw
    simp only [Option.map_none, lapp_eq, mkEnts_app, List.length_append, List.length_cons, List.length_nil, Nat.zero_add]
  | some p =>
    obtain ⟨q, x⟩ := p
    rw [hf] at hw
    simp only at hw
    obtain ⟨h1, h2⟩ := fnd_get hf
    obtain ⟨k1, k2, k3⟩ := sameB_key h2
    have hq : q < l.length := (List.getElem?_eq_some_iff.1 h1).1
    simp only [Option.map_some, k1, sameV_key, cond_true, Nat.zero_add, List.length_set]
    have := mkEnts_set (x.1, x.2.1, bif iblt e.2.2 x.2.2 then e.2.2 else x.2.2) 0 q l hq
    have hkx : keyV (x.1, x.2.1, bif iblt e.2.2 x.2.2 then e.2.2 else x.2.2) = keyV e := by rw [← k1]; rfl
    rw [hkx] at this
    rw [hw, this]
end
end Go.Ax

/-! part AxCmb5 -/
namespace Go.Ax
open Go
set_option linter.unusedSimpArgs false
set_option linter.unusedVariables false

/-! # edges.Combine: the sums -/
def cmbBody (fof fad kt : Nat) : CC := (.block 1
    (.seq (.regO [⟨none, (some 26), 0, .pur (.ixA (.slice 3) (.t 22) (.t 24))⟩,
      ⟨none, (some 27), 0, .red (.ld (some 3) (.t 26))⟩,
      ⟨none, (some 8), 0, .alc (.new [(.int .i64 0), (.int .i64 0), (.int .i64 0)])⟩,
      ⟨none, none, 0, .eff (.st 3 (.t 8) (.t 27))⟩])
    (.seq (.regO [⟨none, (some 28), 0, .pur (.fldA 0 (.t 8))⟩,
      ⟨none, (some 29), 0, .red (.ld none (.t 28))⟩,
      ⟨none, (some 30), 0, .pur (.fldA 1 (.t 8))⟩,
      ⟨none, (some 31), 0, .red (.ld none (.t 30))⟩,
      ⟨none, (some 32), 0, .pur (.build [(.int .i64 0), (.int .i64 0)] [(0, 1, (.t 29)), (1, 1, (.t 31))])⟩,
      ⟨none, (some 9), 0, .alc (.new [(.int .i64 0), (.int .i64 0)])⟩,
      ⟨none, none, 0, .eff (.st 2 (.t 9) (.t 32))⟩])
    (.seq (.regO [⟨none, (some 33), 0, .pur (.fldA 2 (.t 8))⟩,
      ⟨none, (some 34), 0, .red (.ld none (.t 33))⟩,
      ⟨none, (some 35), 0, .eff (.call fof [(.t 34)])⟩,
      ⟨none, (some 10), 0, .alc (.new [(.int .i64 0), (.int .u64 0)])⟩,
      ⟨none, none, 0, .eff (.st 2 (.t 10) (.t 35))⟩])
    (.seq (.seq (.regO [⟨none, (some 37), 0, .pur (.mv (.t 6))⟩,
      ⟨none, (some 38), 0, .red (.ld (some 2) (.t 9))⟩,
      ⟨none, (some 39), 0, .red (.lkp kt (.agg #[(.int .i64 0), (.int .u64 0)]) (.t 37) (.t 38) true)⟩,
      ⟨none, (some 36), 0, .pur (.mv (.t 39))⟩,
      ⟨none, (some 40), 0, .pur (.ext (.t 36) 0)⟩,
      ⟨none, (some 41), 0, .pur (.ext (.t 36) 1)⟩,
      ⟨none, (some 11), 0, .alc (.new [(.int .i64 0), (.int .u64 0)])⟩,
      ⟨none, none, 0, .eff (.st 2 (.t 11) (.t 40))⟩,
      ⟨none, (some 12), 0, .pur (.mv (.t 41))⟩])
    (.seq (.regO [⟨none, (some 42), 0, .pur (.mv (.t 12))⟩])
    (.cond (.t 42)
     (.regO [⟨none, (some 43), 0, .pur (.mv (.t 0))⟩,
       ⟨none, (some 44), 0, .red (.ld (some 2) (.t 11))⟩,
       ⟨none, (some 45), 0, .red (.ld (some 2) (.t 10))⟩,
       ⟨none, (some 46), 0, .eff (.call fad [(.t 43), (.t 44), (.t 45)])⟩,
       ⟨none, none, 0, .eff (.st 2 (.t 10) (.t 46))⟩])
     .skip)))
    (.regO [⟨none, (some 47), 0, .pur (.mv (.t 6))⟩,
      ⟨none, (some 48), 0, .red (.ld (some 2) (.t 9))⟩,
      ⟨none, (some 49), 0, .red (.ld (some 2) (.t 10))⟩,
      ⟨none, none, 0, .eff (.mup kt (.t 47) (.t 48) (.t 49))⟩]))))))
theorem smallI_nat {n : Int} (h : smallI n = true) : ∃ m : Nat, n = (m : Int) ∧ m < 1000000 := by
  cases n with
  | ofNat m => exact ⟨m, rfl, by simpa [smallI, blt_dec] using h⟩
  | negSucc m => cases h
section
variable {P : Program} {orc : Orc} {s : Bool}
theorem st_list {h : Hp} {b : Nat} {k : Nat} {l l0 : List Value} (hh : hget h b = some (.cells l0 false)) (hl : l.length = k) (h0 : l0.length = k) (hc : cellL l = true) : cSt h k (vcells (.agg ⟨l⟩)) ⟨b, 0, none⟩ = .ok (hset h b (.cells l false)) := by
  unfold cSt writeA
  show (bif Nat.beq (llen l) k then _ else _) = _
  rw [llen_eq, hl, Nat.beq_refl]
  simp only [cond_true, cellsOf_some hh]
  show (bif cellL l then R.of _ (lput l l0 0) _ else _) = _
  rw [hc, lput_eq, if_pos (by omega)]
  rw [List.drop_of_length_le (by omega)]
  simp
theorem cmbBody_cv {fof fad fl fw tr tw kt : Nat} {R1 R2 R3 : CC} (hof : compAt P fof = some (cfOf tw)) (oof : orc fof = none) (had : compAt P fad = some (cfAdd fl tr tw R1 R2 R3)) (oad : orc fad = none) (hfl : compAt P fl = some (cfLesser fw tw)) (ofl : orc fl = none)
    (hw : WideAt P tw) (hc : WideCmp P orc fw) (hk : KeyAt P kt)
    {h : Hp} {nx r bs os n cap i : Nat} {sp : Option Nat} {cs : List Value} {ro : Bool} {acc : List Edg} {e : Edg} (he : Small e) (hacc : ∀ x ∈ acc, Small x) (hr : r < nx) (hm : hget h r = some (.map (mkEnts 0 acc) acc.length))
    (hbs : hget h bs = some (.cells cs ro)) (hbr : bs < nx) (hin : i < n) (hld : loadC (some 3) (os + i * 3) cs = .ok (.agg ⟨encE e⟩)) {tm : Tm} (t0 : tget tm 0 = .int .i64 1) (t6 : tget tm 6 = .map (some r)) (t22 : tget tm 22 = .slice (some ⟨bs, os, sp⟩) n cap) (t24 : tget tm 24 = .int .i64 (i : Int)) {K : KO'}
    (hK : ∀ tm' h' nx', (∀ t, (t < 8 ∨ (13 ≤ t ∧ t < 26)) → tget tm' t = tget tm t) → nx ≤ nx' → hget h' r = some (.map (mkEnts 0 (combS e acc)) (combS e acc).length) → (∀ b, b < nx → b ≠ r → hget h' b = hget h b) → K .normal tm' h' nx') :
    Ev P orc s (cmbBody fof fad kt) tm h nx K := by
  obtain ⟨he1, he2, he3⟩ := he
  obtain ⟨w, hw1, hw2⟩ := smallI_nat he3
  unfold cmbBody
  refine Ev.block (Ev.seq (Ev.regO ?_))
  simp only [Ov_pur, Ov_red, Ov_alc, c_ixA, c_ld, cev_t, t22, t24, natR_nat, oIx_slice, if_pos hin, RK_ok, putT_some, tgs, ↓reduceIte, Nat.reduceEqDiff, addrR_ptr, cellsOf_some hbs, hld, calq, nbV, nbO]
  simp only [Ov_st, cev_t, tgs, ↓reduceIte, Nat.reduceEqDiff, addrR_ptr]
  rw [st_list (k := 3) (l := encE e) (l0 := [(.int .i64 0), (.int .i64 0), (.int .i64 0)]) (by simp) rfl rfl rfl]
  simp only [RK_ok, putT_none, Ov_nil, nextK_normal]
  have a1 : hget (hset (hset h nx (.cells [(.int .i64 0), (.int .i64 0), (.int .i64 0)] false)) nx (.cells (encE e) false)) nx = some (.cells (encE e) false) := by simp
  have a2 : ∀ b, b < nx → hget (hset (hset h nx (.cells [(.int .i64 0), (.int .i64 0), (.int .i64 0)] false)) nx (.cells (encE e) false)) b = hget h b := fun b hb => by simp [show b ≠ nx by omega]
  generalize hset (hset h nx (.cells [(.int .i64 0), (.int .i64 0), (.int .i64 0)] false)) nx (.cells (encE e) false) = h1 at *
  have e0 : (encE e)[0]? = some (.int .i64 e.1) := rfl
  have e1 : (encE e)[1]? = some (.int .i64 e.2.1) := rfl
  have e2 : (encE e)[2]? = some (.int .i64 (w : Int)) := by rw [← hw1]; rfl
  refine Ev.seq (Ev.regO ?_)
  have hbld : ∀ tm x, cpur P (tset (tset (tset tm 29 (.int .i64 e.1)) 30 x) 31 (.int .i64 e.2.1)) (.build [(.int .i64 0), (.int .i64 0)] [(0, 1, (.t 29)), (1, 1, (.t 31))]) = .ok (keyV e) := fun tm x => by
    simp [cpur, cfillP, cfillS, vcells, lput, lputI, lput0, lput0I, lputN, lputS, llen, llenI, keyV, encL]
  simp only [Ov_pur, Ov_red, Ov_alc, c_fldA, c_ld, cev_t, RK_ok, putT_some, tgs, ↓reduceIte, Nat.reduceEqDiff, addrR_ptr, moveA_eq, Nat.zero_add, cellsOf_some a1, loadC_one, e0, e1, ofGet_some, hbld, calq, nbV, nbO]
  simp only [Ov_st, cev_t, tgs, ↓reduceIte, Nat.reduceEqDiff, addrR_ptr]
  unfold keyV
  rw [st_list (k := 2) (l := encL (e.1, e.2.1)) (l0 := [(.int .i64 0), (.int .i64 0)]) (by simp) rfl rfl rfl]
  simp only [RK_ok, putT_none, Ov_nil, nextK_normal]
  have b0 : hget (hset (hset h1 (nx + 1) (.cells [(.int .i64 0), (.int .i64 0)] false)) (nx + 1) (.cells (encL (e.1, e.2.1)) false)) (nx + 1) = some (.cells (encL (e.1, e.2.1)) false) := by simp
  have b1 : hget (hset (hset h1 (nx + 1) (.cells [(.int .i64 0), (.int .i64 0)] false)) (nx + 1) (.cells (encL (e.1, e.2.1)) false)) nx = some (.cells (encE e) false) := by simp; exact a1
  have b2 : ∀ b, b < nx → hget (hset (hset h1 (nx + 1) (.cells [(.int .i64 0), (.int .i64 0)] false)) (nx + 1) (.cells (encL (e.1, e.2.1)) false)) b = hget h b := fun b hb => by simp [show b ≠ nx + 1 by omega]; exact a2 b hb
  generalize hset (hset h1 (nx + 1) (.cells [(.int .i64 0), (.int .i64 0)] false)) (nx + 1) (.cells (encL (e.1, e.2.1)) false) = h2 at *
  clear a1 a2
  refine Ev.seq (Ev.regO ?_)
  simp only [Ov_pur, Ov_red, c_fldA, c_ld, cev_t, RK_ok, putT_some, tgs, ↓reduceIte, Nat.reduceEqDiff, addrR_ptr, moveA_eq, Nat.zero_add, cellsOf_some b1, loadC_one, e2, ofGet_some]
  refine Ov_call ?_
  simp only [cevs_cons, cevs_nil, cev_t, tgs, ↓reduceIte]
  refine (of_cv (s := s) hof oof hw (n := w) (by omega)).mono ?_
  rintro v h3 nx3 ⟨rfl, hnx3, hfr3⟩
  have c0 : hget h3 (nx + 1) = some (.cells (encL (e.1, e.2.1)) false) := by rw [hfr3 _ (by omega)]; exact b0
  have c2 : ∀ b, b < nx → hget h3 b = hget h b := fun b hb => by rw [hfr3 b (by omega)]; exact b2 b hb
  clear b0 b1 b2 hfr3
  simp only [Ov_alc, calq, RK_ok, putT_some, nbV, nbO]
  simp only [Ov_st, cev_t, tgs, ↓reduceIte, Nat.reduceEqDiff, addrR_ptr]
  rw [st_wide (m := 0) (by simp [wideL])]
  simp only [RK_ok, putT_none, Ov_nil, nextK_normal]
  have d0 : hget (hset (hset h3 nx3 (.cells [(.int .i64 0), (.int .u64 0)] false)) nx3 (.cells (wideL w) false)) (nx + 1) = some (.cells (encL (e.1, e.2.1)) false) := by simp [show ¬ nx + 1 = nx3 by omega]; exact c0
  have d1 : hget (hset (hset h3 nx3 (.cells [(.int .i64 0), (.int .u64 0)] false)) nx3 (.cells (wideL w) false)) nx3 = some (.cells (wideL w) false) := by simp
  have d2 : ∀ b, b < nx → hget (hset (hset h3 nx3 (.cells [(.int .i64 0), (.int .u64 0)] false)) nx3 (.cells (wideL w) false)) b = hget h b := fun b hb => by simp [show b ≠ nx3 by omega]; exact c2 b hb
  generalize hset (hset h3 nx3 (.cells [(.int .i64 0), (.int .u64 0)] false)) nx3 (.cells (wideL w) false) = h4 at *
  clear c0 c2
  have hm4 : hget h4 r = some (.map (mkEnts 0 acc) acc.length) := by rw [d2 r hr]; exact hm
  have ldk : loadC (some 2) 0 (encL (e.1, e.2.1)) = .ok (keyV e) := by simp [encL, keyV]
  have hlk := lkp_mk hk ⟨he1, he2, he3⟩ hacc hm4 (.agg #[(.int .i64 0), (.int .u64 0)])
  obtain ⟨q, fb, hlk2, hqn, hqs⟩ : ∃ (q : Nat) (fb : Bool), cLkp P h4 kt (.agg #[(.int .i64 0), (.int .u64 0)]) true (.map (some r)) (keyV e) = .ok (.tuple ⟨[.agg ⟨wideL q⟩, .bool fb]⟩) ∧ (fb = false → fnd e acc = none) ∧ (fb = true → ∃ p x, fnd e acc = some (p, x) ∧ x.2.2 = (q : Int)) := by
    cases hf : fnd e acc with
    | none =>
      rw [hf] at hlk
      exact ⟨0, false, hlk, fun _ => rfl, fun e => (by cases e)⟩
    | some px =>
      obtain ⟨p, x⟩ := px
      rw [hf] at hlk
      obtain ⟨h1, _⟩ := fnd_get hf
      obtain ⟨m, hm1, _⟩ := smallI_nat (hacc x (List.mem_of_getElem? h1)).2.2
      refine ⟨x.2.2.toNat, true, hlk, fun e => (by cases e), fun _ => ⟨p, x, rfl, ?_⟩⟩
      rw [hm1]; rfl
  clear hlk
  have clk : ∀ (tm : Tm) (z : Value) (m k : Co), cred P tm h4 (.lkp kt z m k true) = cLkp P h4 kt z true (cev tm m) (cev tm k) := fun _ _ _ _ => rfl
  refine Ev.seq (Ev.seq (Ev.regO ?_))
  simp only [Ov_pur, Ov_red, Ov_alc, c_mv, c_ld, c_ext, clk, cev_t, t6, RK_ok, putT_some, tgs, ↓reduceIte, Nat.reduceEqDiff, addrR_ptr, cellsOf_some d0, ldk, hlk2, oExtract_tuple, List.getElem?_cons_zero, List.getElem?_cons_succ, of_some, calq, nbV, nbO]
  simp only [Ov_st, cev_t, tgs, ↓reduceIte, Nat.reduceEqDiff, addrR_ptr]
  rw [st_wide (m := 0) (by simp [wideL])]
  simp only [RK_ok, putT_none, Ov_pur, c_mv, cev_t, tgs, ↓reduceIte, Nat.reduceEqDiff, putT_some, Ov_nil, nextK_normal]
  have f0 : hget (hset (hset h4 (nx3 + 1) (.cells [(.int .i64 0), (.int .u64 0)] false)) (nx3 + 1) (.cells (wideL q) false)) (nx + 1) = some (.cells (encL (e.1, e.2.1)) false) := by simp [show ¬ nx = nx3 by omega]; exact d0
  have f1 : hget (hset (hset h4 (nx3 + 1) (.cells [(.int .i64 0), (.int .u64 0)] false)) (nx3 + 1) (.cells (wideL q) false)) nx3 = some (.cells (wideL w) false) := by simp; exact d1
  have f3 : hget (hset (hset h4 (nx3 + 1) (.cells [(.int .i64 0), (.int .u64 0)] false)) (nx3 + 1) (.cells (wideL q) false)) (nx3 + 1) = some (.cells (wideL q) false) := by simp
  have f2 : ∀ b, b < nx → hget (hset (hset h4 (nx3 + 1) (.cells [(.int .i64 0), (.int .u64 0)] false)) (nx3 + 1) (.cells (wideL q) false)) b = hget h b := fun b hb => by simp [show b ≠ nx3 + 1 by omega]; exact d2 b hb
  generalize hset (hset h4 (nx3 + 1) (.cells [(.int .i64 0), (.int .u64 0)] false)) (nx3 + 1) (.cells (wideL q) false) = h5 at *
  clear d0 d1 d2 hm4 hlk2 clk
  refine Ev.seq (Ev.regO ?_)
  simp only [Ov_pur, c_mv, cev_t, tgs, ↓reduceIte, Nat.reduceEqDiff, RK_ok, putT_some, Ov_nil, nextK_normal]
  -- the last step
  have last : ∀ (tm6 : Tm) (h6 : Hp) (nx6 m : Nat), nx ≤ nx6 → tget tm6 6 = .map (some r) → tget tm6 9 = .pointer (some ⟨nx + 1, 0, none⟩) → tget tm6 10 = .pointer (some ⟨nx3, 0, none⟩) → (∀ t, (t < 8 ∨ (13 ≤ t ∧ t < 26)) → tget tm6 t = tget tm t) →
      hget h6 (nx + 1) = some (.cells (encL (e.1, e.2.1)) false) → hget h6 nx3 = some (.cells (wideL m) false) → (∀ b, b < nx → hget h6 b = hget h b) → (m = match fnd e acc with | none => e.2.2.toNat | some p => (bif iblt e.2.2 p.2.2.2 then e.2.2 else p.2.2.2).toNat) →
      Ev P orc s (.regO [⟨none, (some 47), 0, .pur (.mv (.t 6))⟩, ⟨none, (some 48), 0, .red (.ld (some 2) (.t 9))⟩, ⟨none, (some 49), 0, .red (.ld (some 2) (.t 10))⟩, ⟨none, none, 0, .eff (.mup kt (.t 47) (.t 48) (.t 49))⟩]) tm6 h6 nx6 (blkK 1 K) := by
    intro tm6 h6 nx6 m hle u6 u9 u10 hlow k0 k1 k2 hmw
    refine Ev.regO ?_
    simp only [Ov_pur, Ov_red, c_mv, c_ld, cev_t, u6, u9, u10, RK_ok, putT_some, tgs, ↓reduceIte, Nat.reduceEqDiff, addrR_ptr, cellsOf_some k0, cellsOf_some k1, ldk, ld_wide]
    have hm6 : hget h6 r = some (.map (mkEnts 0 acc) acc.length) := by rw [k2 r hr]; exact hm
    have hup := mup_mk hk ⟨he1, he2, he3⟩ hacc hm6 hmw
    rw [Ov_eff (v := undefV) (h' := hset h6 r (.map (mkEnts 0 (combS e acc)) (combS e acc).length)) (nx' := nx6) (by
      show uOf nx6 (cMup P kt h6 (cev _ (.t 47)) (cev _ (.t 48)) (cev _ (.t 49))) = _
      simp only [cev_t, tgs, ↓reduceIte, Nat.reduceEqDiff]
      rw [hup]; rfl)]
    simp only [putT_none, Ov_nil, blkK_normal]
    refine hK _ _ _ (fun t ht => ?_) hle (by simp) (fun b hb hbr => by simp [hbr]; exact k2 b hb)
    simp only [tgs]
    rw [if_neg (by omega), if_neg (by omega), if_neg (by omega)]
    exact hlow t ht
  cases fb with
  | false =>
    have hfn := hqn rfl
    refine Ev.cond false (by simp) (by simp) fun _ => Ev.skip ?_
    show Ev P orc s _ _ _ _ _
    refine last _ _ _ w (by omega) (by simp [t6]) (by simp) (by simp) (fun t ht => ?_) f0 f1 f2 (by rw [hfn, hw1]; rfl)
    simp only [tgs]
    repeat rw [if_neg (by omega)]
  | true =>
    obtain ⟨p, x, hfs, hxq⟩ := hqs rfl
    refine Ev.cond true (by simp) (fun _ => ?_) (by simp)
    refine Ev.regO ?_
    simp only [Ov_pur, Ov_red, c_mv, c_ld, cev_t, t0, RK_ok, putT_some, tgs, ↓reduceIte, Nat.reduceEqDiff, addrR_ptr, cellsOf_some f1, cellsOf_some f3, ld_wide]
    refine Ov_call ?_
    simp only [cevs_cons, cevs_nil, cev_t, tgs, ↓reduceIte, Nat.reduceEqDiff]
    refine (add_cv (s := s) had oad hfl ofl hw hc (m := q) (n := w)).mono ?_
    rintro v h6 nx6 ⟨rfl, hnx6, hfr6⟩
    have k0 : hget h6 (nx + 1) = some (.cells (encL (e.1, e.2.1)) false) := by rw [hfr6 _ (by omega)]; exact f0
    have k1 : hget h6 nx3 = some (.cells (wideL w) false) := by rw [hfr6 _ (by omega)]; exact f1
    have k2 : ∀ b, b < nx → hget h6 b = hget h b := fun b hb => by rw [hfr6 b (by omega)]; exact f2 b hb
    generalize hmin : (if w < q then w else q) = m
    simp only [Ov_st, cev_t, putT_some, tgs, ↓reduceIte, Nat.reduceEqDiff, addrR_ptr]
    rw [st_wide k1]
    simp only [RK_ok, putT_none, Ov_nil, nextK_normal]
    refine last _ _ _ m (by omega) (by simp [t6]) (by simp) (by simp) (fun t ht => ?_) (by simp [show ¬ nx + 1 = nx3 by omega]; exact k0) (by simp) (fun b hb => by simp [show b ≠ nx3 by omega]; exact k2 b hb) ?_
    · simp only [tgs]
      repeat rw [if_neg (by omega)]
    · rw [hfs]
      show m = (bif iblt e.2.2 x.2.2 then e.2.2 else x.2.2).toNat
      rw [hxq, hw1, iblt_dec, ← hmin]
      by_cases hlt : w < q
      · simp [hlt]
      · simp [hlt]
end
end Go.Ax
