/- Parts of the proof: Cm3: each statement bears its own conditions. -/
import Derived.Test.YtcjochjiegiliaaGreatCm2
namespace Go.Ax
open Go
set_option linter.unusedSimpArgs false
set_option linter.unusedVariables false
theorem wget_ok : ∀ {l : List Value} {n : Nat} {k : KV}, wget l n k → ∃ x, lget l n = some x ∧ k x
 | [], n, k, h => h.elim
 | x :: xs, 0, k, h => ⟨x, rfl, h⟩
 | x :: xs, n + 1, k, h => wget_ok (l := xs) (n := n) h
theorem wdrop_ok : ∀ {l : List Value} {n : Nat} {k : KL}, wdrop l n k → k (ldrop l n)
 | [], n, k, h => by cases n <;> exact h
 | x :: xs, 0, k, h => h
 | x :: xs, n + 1, k, h => wdrop_ok (l := xs) (n := n) h
theorem wcut_ok : ∀ {n : Nat} {l : List Value} {k : KL}, wcut n l k → ∃ r, lcut n l = some r ∧ k r
 | 0, l, k, h => ⟨[], rfl, h⟩
 | n + 1, [], k, h => h.elim
 | n + 1, x :: xs, k, h => by
  obtain ⟨r, h1, h2⟩ := wcut_ok (n := n) (l := xs) (k := fun r => k (x :: r)) h
  exact ⟨x :: r, by show lputN x (lcut n xs) = _; rw [h1]; rfl, h2⟩
theorem wput0_ok : ∀ {vs l : List Value} {k : KL}, wput0 vs l k → ∃ r, lput0 vs l = some r ∧ k r
 | [], l, k, h => ⟨l, rfl, h⟩
 | v :: vs, [], k, h => h.elim
 | v :: vs, x :: xs, k, h => by
  obtain ⟨r, h1, h2⟩ := wput0_ok (vs := vs) (l := xs) (k := fun r => k (v :: r)) h
  exact ⟨v :: r, by show lputS v (lput0 vs) (x :: xs) = _; unfold lputS; simp only [h1], h2⟩
theorem wput_ok {vs : List Value} : ∀ {l : List Value} {n : Nat} {k : KL}, wput vs l n k → ∃ r, lput vs l n = some r ∧ k r
 | [], 0, k, h => wput0_ok h
 | [], n + 1, k, h => h.elim
 | x :: xs, 0, k, h => wput0_ok h
 | x :: xs, n + 1, k, h => by
  obtain ⟨r, h1, h2⟩ := wput_ok (vs := vs) (l := xs) (n := n) (k := fun r => k (x :: r)) h
  exact ⟨x :: r, by show lputN x (lput vs xs n) = _; rw [h1]; rfl, h2⟩
theorem wlenIs_ok : ∀ {l : List Value} {n : Nat} {p : Prop}, wlenIs l n p → Nat.beq (llen l) n = true ∧ p
 | [], 0, p, h => ⟨rfl, h⟩
 | [], n + 1, p, h => h.elim
 | x :: xs, 0, p, h => h.elim
 | x :: xs, n + 1, p, h => wlenIs_ok (l := xs) (n := n) h
theorem wcellV_ok {x : Value} {p : Prop} (h : wcellV x p) : cellV x = true ∧ p := by
 cases x <;> first | exact ⟨rfl, h⟩ | exact h.elim
theorem wcellL_ok : ∀ {l : List Value} {p : Prop}, wcellL l p → cellL l = true ∧ p
 | [], p, h => ⟨rfl, h⟩
 | x :: xs, p, h => by
  obtain ⟨h1, h2⟩ := wcellV_ok (x := x) (p := wcellL xs p) h
  obtain ⟨h3, h4⟩ := wcellL_ok h2
  exact ⟨by show (bif cellV x then cellL xs else false) = true; rw [h1]; exact h3, h4⟩
theorem wevs_ok {tm : Tm} : ∀ {l : List Co} {k : KL}, wevs tm l k → k (cevs tm l)
 | [], k, h => h
 | x :: xs, k, h => wevs_ok (l := xs) (k := fun r => k (cev tm x :: r)) h
theorem wargs_ok : ∀ {l : List Value} {i : Nat} {tm : Tm} {k : Tm → Prop}, wargs l i tm k → k (setArgs l i tm)
 | [], i, tm, k, h => h
 | v :: l, i, tm, k, h => by
  have h : (tpath i).setK v tm (fun tm => wargs l (Nat.succ i) tm k) := h
  rw [tsetK_eq] at h
  exact wargs_ok (l := l) (i := Nat.succ i) (tm := tset tm i v) h
theorem wB_ok {b : Bool} {p : Prop} (h : wB b p) : b = true ∧ p := by cases b <;> first | exact h.elim | exact ⟨rfl, h⟩
theorem wR_ok {α : Type} {r : R α} {k : α → Prop} (h : wR r k) : ∃ x, r = .ok x ∧ k x := by cases r <;> first | exact ⟨_, rfl, h⟩ | exact h.elim
theorem wOp_ok {α : Type} {r : Option α} {k : α → Prop} (h : wOp r k) : ∃ x, r = some x ∧ k x := by cases r <;> first | exact ⟨_, rfl, h⟩ | exact h.elim
theorem wev_eq {tm : Tm} {x : Co} {k : KV} : wev tm x k = k (cev tm x) := by cases x <;> rfl
theorem waddr_ok {v : Value} {k : Addr → Prop} (h : waddr v k) : ∃ a, v = .pointer (some a) ∧ k a := by
 cases v <;> first | exact h.elim | skip
 obtain ⟨a, rfl, h⟩ := wOp_ok h
 exact ⟨a, rfl, h⟩
theorem wnat_ok {v : Value} {k : Nat → Prop} (h : wnat v k) : ∃ q n, v = .int q (.ofNat n) ∧ k n := by
 cases v <;> first | exact h.elim | skip
 rename_i q n
 cases n <;> first | exact ⟨_, _, rfl, h⟩ | exact h.elim
theorem wbool_ok {v : Value} {f t : Prop} (h : wbool v f t) : (v = .bool true ∧ t) ∨ (v = .bool false ∧ f) := by
 cases v <;> first | exact h.elim | skip
 rename_i b
 cases b <;> first | exact .inr ⟨rfl, h⟩ | exact .inl ⟨rfl, h⟩
theorem wcells_ok {h : Hp} {b : Nat} {k : List Value → Bool → Prop} (hk : wcells h b k) : ∃ cs ro, hget h b = some (.cells cs ro) ∧ k cs ro := by
 unfold wcells at hk
 show ∃ cs ro, (hpath b).get h = _ ∧ _
 generalize (hpath b).get h = o at *
 cases o with
 | none => exact hk.elim
 | some o => cases o <;> first | exact ⟨_, _, rfl, hk⟩ | exact hk.elim
theorem wload_ok {ag : Option Nat} {off : Nat} {cs : List Value} {k : KV} (h : wload ag off cs k) : ∃ v, loadC ag off cs = .ok v ∧ k v := by
 cases ag with
 | none =>
  obtain ⟨x, h1, h2⟩ := wget_ok (k := k) h
  exact ⟨x, by show ofGet (lget cs off) = _; rw [h1]; rfl, h2⟩
 | some n =>
  have h := wdrop_ok (l := cs) (n := off) h
  obtain ⟨r, h1, h2⟩ := wcut_ok h
  exact ⟨_, by show ofCut (lcut n (ldrop cs off)) = _; rw [h1]; rfl, h2⟩
theorem wvc_eq {v : Value} {k : KL} : wvc v k = k (vcells v) := by cases v <;> rfl
theorem wII_ok {f : IntKind → Int → Int → Value} {x y : Value} {k : KV} (h : wII f x y k) : ∃ kx a ky b, x = .int kx a ∧ y = .int ky b ∧ keq kx ky = true ∧ k (f kx a b) := by
 cases x <;> first | exact h.elim | skip
 cases y <;> first | exact h.elim | skip
 obtain ⟨h1, h2⟩ := wB_ok h
 exact ⟨_, _, _, _, rfl, rfl, h1, h2⟩
theorem wII1_ok {f : IntKind → Int → Int → Value} {kx : IntKind} {a : Int} {y : Value} {k : KV} (h : wII1 kx a f y k) : ∃ ky b, y = .int ky b ∧ keq kx ky = true ∧ k (f kx a b) := by
 cases y <;> first | exact h.elim | skip
 obtain ⟨h1, h2⟩ := wB_ok h
 exact ⟨_, _, rfl, h1, h2⟩
section
variable {P : Program}
theorem bin_int {op : BinOp} {t : TypeId} {kx ky : IntKind} {a b : Int} (hs : isShift op = false) (hk : keq kx ky = true) : bin P op t (.int kx a) (.int ky b) = iOp op kx a b := by
 show iBin op kx a ky b = _
 unfold iBin
 rw [hs, hk]; rfl
theorem wbin_ok {op : BinOp} {t : TypeId} {x y : Value} {k : KV} (h : wbin op P t x y k) : ∃ v, bin P op t x y = .ok v ∧ k v := by
 have gen : ∀ {f : IntKind → Int → Int → Value}, isShift op = false → (∀ kx a b, iOp op kx a b = .ok (f kx a b)) → wII f x y k → ∃ v, bin P op t x y = .ok v ∧ k v := by
  intro f hs hf h
  obtain ⟨kx, a, ky, b, rfl, rfl, h1, h2⟩ := wII_ok h
  exact ⟨_, by rw [bin_int hs h1, hf], h2⟩
 have eqx : ∀ {f : IntKind → Int → Int → Value}, isShift op = false → (∀ kx a b, iOp op kx a b = .ok (f kx a b)) → wEqx op f P t x y k → ∃ v, bin P op t x y = .ok v ∧ k v := by
  intro f hs hf h
  cases x <;> first | exact wR_ok h | skip
  obtain ⟨ky, b, rfl, h1, h2⟩ := wII1_ok h
  exact ⟨_, by rw [bin_int hs h1, hf], h2⟩
 cases op with
 | add => exact gen rfl (fun _ _ _ => rfl) h
 | sub => exact gen rfl (fun _ _ _ => rfl) h
 | mul => exact gen rfl (fun _ _ _ => rfl) h
 | lss => exact gen rfl (fun _ _ _ => rfl) h
 | leq => exact gen rfl (fun _ _ _ => rfl) h
 | gtr => exact gen rfl (fun _ _ _ => rfl) h
 | geq => exact gen rfl (fun _ _ _ => rfl) h
 | eql => exact eqx rfl (fun _ _ _ => rfl) h
 | neq => exact eqx rfl (fun _ _ _ => rfl) h
 | _ => exact wR_ok h
theorem wIx_ok {t : IxT} {x : Value} {i : Nat} {k : KV} (h : wIx t x i k) : ∃ v, oIndexAddr t x i = .ok v ∧ k v := by
 cases t with
 | array n s => exact wR_ok h
 | slice s =>
  cases x <;> first | exact h.elim | skip
  obtain ⟨a, rfl, h⟩ := wOp_ok h
  obtain ⟨h1, h2⟩ := wB_ok h
  exact ⟨_, by show (bif Nat.blt i _ then _ else _) = _; rw [h1]; rfl, h2⟩
theorem wFld_ok {v : Value} {off : Nat} {ag : Option Nat} {k : KV} (h : wFld v off ag k) : ∃ r, cFld off ag v = .ok r ∧ k r := by
 cases v <;> first | exact h.elim | exact wload_ok h
theorem wfill_ok {tm : Tm} : ∀ {l : List (Nat × Nat × Co)} {cells : List Value} {k : KL}, wfill tm l cells k → ∃ r, cfillP tm l cells = .ok r ∧ k r
 | [], cells, k, h => ⟨cells, rfl, h⟩
 | (off, sz, x) :: l, cells, k, h => by
  have h : wfillS (off, sz, x) tm cells (fun r => wfill tm l r k) := h
  unfold wfillS at h
  rw [wev_eq, wvc_eq] at h
  obtain ⟨h1, h2⟩ := wlenIs_ok h
  obtain ⟨r, h3, h4⟩ := wput_ok h2
  obtain ⟨r', h5, h6⟩ := wfill_ok h4
  refine ⟨r', ?_, h6⟩
  show cfillS (cfillP tm l) off sz (vcells (cev tm x)) cells = _
  unfold cfillS
  simp only [h1, cond_true, h3, R.of, h5]
theorem wpur_ok {e : CP} {tm : Tm} {k : KV} (h : wpur e P tm k) : ∃ v, cpur P tm e = .ok v ∧ k v := by
 cases e with
 | mv x =>
  have h : wev tm x k := h
  rw [wev_eq] at h
  exact ⟨_, rfl, h⟩
 | pick c a b =>
  have h : wev tm c (fun c => wbool c (wev tm b k) (wev tm a k)) := h
  simp only [wev_eq] at h
  show ∃ v, cPick tm a b (cev tm c) = .ok v ∧ k v
  rcases wbool_ok h with ⟨h1, h2⟩ | ⟨h1, h2⟩
  ·rw [h1]; exact ⟨_, rfl, h2⟩
  ·rw [h1]; exact ⟨_, rfl, h2⟩
 | bin op t x y =>
  have h : wev tm x (fun x => wev tm y (fun y => wbin op P t x y k)) := h
  simp only [wev_eq] at h
  exact wbin_ok h
 | un op x => exact wR_ok h
 | conv d x => exact wR_ok h
 | fld off ag x =>
  have h : wev tm x (fun v => wFld v off ag k) := h
  rw [wev_eq] at h
  exact wFld_ok h
 | fldA off x =>
  have h : wev tm x (fun v => waddr v (fun a => k (moveA a off))) := h
  rw [wev_eq] at h
  obtain ⟨a, h1, h2⟩ := waddr_ok h
  exact ⟨_, by show addrR (cev tm x) _ = _; rw [h1]; rfl, h2⟩
 | ixA t x i =>
  have h : wev tm i (fun i => wnat i (fun i => wev tm x (fun x => wIx t x i k))) := h
  simp only [wev_eq] at h
  obtain ⟨q, n, h1, h2⟩ := wnat_ok h
  obtain ⟨v, h3, h4⟩ := wIx_ok h2
  exact ⟨v, by show natR (cev tm i) _ = _; rw [h1]; exact h3, h4⟩
 | sl s x lo hi mx => exact wR_ok h
 | ext x i => exact wR_ok h
 | nilc x => exact wR_ok h
 | mkf f a b => exact ⟨_, rfl, h⟩
 | ifc t x =>
  have h : wev tm x (fun v => k (.iface t v)) := h
  rw [wev_eq] at h
  exact ⟨_, rfl, h⟩
 | mn b x y => exact wR_ok h
 | build z parts =>
  obtain ⟨r, h1, h2⟩ := wfill_ok (k := fun l => k (.agg ⟨l⟩)) h
  exact ⟨_, by show R.bind (cfillP tm parts z) _ = _; rw [h1]; rfl, h2⟩
 | gen o => exact wR_ok h
theorem walc_ok {e : CA} {tm : Tm} {h : Hp} {nx : Nat} {k : KC} (hk : walc e P tm h nx k) : ∃ b, calq P tm e = .ok b ∧ k (nbV nx b) (hset h nx (nbO b)) (Nat.succ nx) := by
 have gen : walG P e tm h nx k → ∃ b, calq P tm e = .ok b ∧ k (nbV nx b) (hset h nx (nbO b)) (Nat.succ nx) := fun hk => by
  obtain ⟨b, h1, h2⟩ := wR_ok hk
  rw [hsetK_eq] at h2
  exact ⟨b, h1, h2⟩
 cases e with
 | new l =>
  have hk : wnew l h nx (.pointer (some ⟨nx, 0, none⟩)) k := hk
  unfold wnew at hk
  rw [hsetK_eq] at hk
  exact ⟨_, rfl, hk⟩
 | box x =>
  have hk : wev tm x (fun v => wvc v (fun l => wcellL l (wnew l h nx (.pointer (some ⟨nx, 0, none⟩)) k))) := hk
  rw [wev_eq, wvc_eq] at hk
  obtain ⟨h1, h2⟩ := wcellL_ok hk
  unfold wnew at h2
  rw [hsetK_eq] at h2
  exact ⟨.ptr (.cells (vcells (cev tm x)) false), by show cellsNB _ = _; unfold cellsNB; rw [h1]; rfl, h2⟩
 | bsl len base parts =>
  obtain ⟨r, h1, h2⟩ := wfill_ok (k := fun l => wcellL l (wnew l h nx (.slice (some ⟨nx, 0, none⟩) len len) k)) hk
  obtain ⟨h3, h4⟩ := wcellL_ok h2
  unfold wnew at h4
  rw [hsetK_eq] at h4
  exact ⟨.slice (.cells r false) len len, by show R.bind (cfillP tm parts base) _ = _; rw [h1]; show sliceNB r len len = _; unfold sliceNB; rw [h3]; rfl, h4⟩
 | mkm =>
  have hk : (hpath nx).setK (some (.map [] 0)) h (fun h => k (.map (some nx)) h (Nat.succ nx)) := hk
  rw [hsetK_eq] at hk
  exact ⟨.map, rfl, hk⟩
 | mks z l c => exact gen hk
 | gen o => exact gen hk
theorem wred_ok {e : CRd} {tm : Tm} {h : Hp} {k : KV} (hk : wred e P tm h k) : ∃ v, cred P tm h e = .ok v ∧ k v := by
 cases e with
 | ld ag x =>
  have hk : wev tm x (fun v => waddr v (fun a => wcells h a.1 (fun cs _ => wload ag a.2 cs k))) := hk
  rw [wev_eq] at hk
  obtain ⟨a, h1, h2⟩ := waddr_ok hk
  obtain ⟨cs, ro, h3, h4⟩ := wcells_ok h2
  obtain ⟨v, h5, h6⟩ := wload_ok h4
  refine ⟨v, ?_, h6⟩
  show addrR (cev tm x) _ = _
  rw [h1]
  show cellsOf h a.block _ = _
  unfold cellsOf
  rw [show hget h a.block = some (.cells cs ro) from h3]
  exact h5
 | lkp kt z m x ok => exact wR_ok hk
 | lens x =>
  have hk : wev tm x (fun v => wLens v k) := hk
  rw [wev_eq] at hk
  show ∃ v, lenS (cev tm x) = .ok v ∧ k v
  generalize cev tm x = v at *
  cases v <;> first | exact hk.elim | exact ⟨_, rfl, hk⟩
 | lenm x => exact wR_ok hk
 | entry x => exact wR_ok hk
 | gen o => exact wR_ok hk
theorem wCR_ok {r : CR} {k : KC} (h : wCR r k) : ∃ v h' nx', r = .ok v h' nx' ∧ k v h' nx' := by
 cases r <;> first | exact ⟨_, _, _, rfl, h⟩ | exact h.elim
def WCallOk (wc : WCall) (call : CallF) : Prop := ∀ f args h nx k, wc f args h nx k → ∃ v h' nx', call f args h nx = .ok v h' nx' ∧ k v h' nx'
theorem wOR_ok {wc : WCall} {call : CallF} (hc : WCallOk wc call) {round : RoundF} {r : OR} {k : KC} (h : wOR wc round r k) : ∃ v h' nx', crOf call round r = .ok v h' nx' ∧ k v h' nx' := by
 cases r with
 | val v h' nx => exact ⟨_, _, _, rfl, h⟩
 | call f args h' nx => exact hc f args h' nx k h
 | round l args h' nx => exact wCR_ok h
 | no w => exact h.elim
 | alt a b => exact h.elim
theorem wSt_ok {l : List Value} {h : Hp} {nx b off : Nat} {k : KC} {cs : List Value} {ro : Bool} (hk : wSt l h nx b off k cs ro) : ro = false ∧ cellL l = true ∧ ∃ r, lput l cs off = some r ∧ k undefV (hset h b (.cells r false)) nx := by
 cases ro with
 | true => exact hk.elim
 | false =>
  obtain ⟨h1, h2⟩ := wcellL_ok hk
  obtain ⟨r, h3, h4⟩ := wput_ok h2
  rw [hsetK_eq] at h4
  exact ⟨rfl, h1, r, h3, h4⟩
theorem weff_ok {wc : WCall} {call : CallF} (hc : WCallOk wc call) {round : RoundF} {e : CE} {tm : Tm} {h : Hp} {nx : Nat} {k : KC} (hk : weff e P wc round tm h nx k) : ∃ v h' nx', crOf call round (ceff P tm h nx e) = .ok v h' nx' ∧ k v h' nx' := by
 cases e with
 | st n a x =>
  have hk : wev tm a (fun a => waddr a (fun a => wev tm x (fun x => wvc x (fun l => wlenIs l n (wcells h a.1 (wSt l h nx a.1 a.2 k)))))) := hk
  rw [wev_eq] at hk
  obtain ⟨a', h1, h2⟩ := waddr_ok hk
  rw [wev_eq, wvc_eq] at h2
  obtain ⟨h3, h4⟩ := wlenIs_ok h2
  obtain ⟨cs, ro, h5, h6⟩ := wcells_ok h4
  obtain ⟨rfl, h7, r, h8, h9⟩ := wSt_ok h6
  refine ⟨_, _, _, ?_, h9⟩
  show crOf call round (uOf nx (addrR (cev tm a) (cSt h n (vcells (cev tm x))))) = _
  rw [h1]
  show crOf call round (uOf nx (cSt h n (vcells (cev tm x)) a')) = _
  unfold cSt writeA cellsOf
  rw [h3, show hget h a'.block = some (.cells cs false) from h5]
  show crOf call round (uOf nx (bif cellL (vcells (cev tm x)) then _ else _)) = _
  rw [h7]
  show crOf call round (uOf nx (R.of _ (lput (vcells (cev tm x)) cs a'.off) _)) = _
  rw [show lput (vcells (cev tm x)) cs a'.off = some r from h8]
  rfl
 | call f args =>
  have hk := wevs_ok (tm := tm) (l := args) (k := fun vs => wc f vs h nx k) hk
  exact hc _ _ _ _ _ hk
 | _ => exact wOR_ok hc hk
theorem wput1_eq {d : Option Nat} {tm : Tm} {v : Value} {k : Tm → Prop} : wput1 d tm v k = k (putT tm d v) := by
 cases d with
 | none => rfl
 | some d => exact tsetK_eq tm d v k
theorem wwant_ok {g : Option (Nat × Bool)} {tm : Tm} {x y : Prop} (h : wwant g tm x y) : (cwant tm g = true ∧ y) ∨ (cwant tm g = false ∧ x) := by
 cases g with
 | none => exact .inl ⟨rfl, h⟩
 | some p =>
  obtain ⟨d, b⟩ := p
  have h : wwantV (tget tm d) b x y := h
  show (boolIs b (tget tm d) = true ∧ y) ∨ (boolIs b (tget tm d) = false ∧ x)
  generalize tget tm d = v at *
  cases v <;> first | exact .inr ⟨rfl, h⟩ | skip
  rename_i c
  cases b <;> cases c <;> first | exact .inl ⟨rfl, h⟩ | exact .inr ⟨rfl, h⟩
theorem orDone_of {call : CallF} {round : RoundF} {ih : Tm → Hp → Nat → Out} {d : Option Nat} {tm : Tm} {r : OR} {v : Value} {h : Hp} {nx : Nat} (he : crOf call round r = .ok v h nx) : orDone call round ih d tm r = ih (putT tm d v) h nx := by
 cases r with
 | val v' h' nx' => cases he; rfl
 | call f args h' nx' =>
  have he : call f args h' nx' = .ok v h nx := he
  show crThen (call f args h' nx') _ = _
  rw [he]; rfl
 | round l args h' nx' =>
  have he : round l args h' nx' = .ok v h nx := he
  show crThen (round l args h' nx') _ = _
  rw [he]; rfl
 | no w => cases he
 | alt a b => cases he
theorem wO_ok {wc : WCall} {call : CallF} (hc : WCallOk wc call) {round : RoundF} : ∀ {l : List CI} {tm : Tm} {h : Hp} {nx : Nat} {k : KS}, wO P wc round l tm h nx k → ∃ tm' h' nx', cO P call round l tm h nx = .ok .normal tm' h' nx' ∧ k tm' h' nx'
 | [], tm, h, nx, k, hk => ⟨tm, h, nx, rfl, hk⟩
 | ⟨g, d, c, q⟩ :: is, tm, h, nx, k, hk => by
  have ih := fun tm h nx => wO_ok hc (round := round) (l := is) (tm := tm) (h := h) (nx := nx) (k := k)
  have hk : wwant g tm (wput1 d tm undefV (fun tm => wO P wc round is tm h nx k)) (wRun q P wc round (wO P wc round is) d tm h nx k) := hk
  show ∃ tm' h' nx', cOS P call round ⟨g, d, c, q⟩ (cO P call round is) tm h nx = _ ∧ _
  unfold cOS
  rcases wwant_ok hk with ⟨h1, h2⟩ | ⟨h1, h2⟩
  ·simp only [h1]
   cases q with
   | pur e =>
    obtain ⟨v, h3, h4⟩ := wpur_ok (k := fun v => wput1 d tm v (fun tm => wO P wc round is tm h nx k)) h2
    rw [wput1_eq] at h4
    simp only [h3, cO1]
    exact ih _ _ _ h4
   | alc e =>
    obtain ⟨b, h3, h4⟩ := walc_ok (k := fun v h nx => wput1 d tm v (fun tm => wO P wc round is tm h nx k)) h2
    rw [wput1_eq] at h4
    simp only [h3, cO2]
    exact ih _ _ _ h4
   | red e =>
    obtain ⟨v, h3, h4⟩ := wred_ok (k := fun v => wput1 d tm v (fun tm => wO P wc round is tm h nx k)) h2
    rw [wput1_eq] at h4
    simp only [h3, cO1]
    exact ih _ _ _ h4
   | eff e =>
    obtain ⟨v, h', nx', h3, h4⟩ := weff_ok hc (k := fun v h nx => wput1 d tm v (fun tm => wO P wc round is tm h nx k)) h2
    rw [wput1_eq] at h4
    simp only [orDone_of h3]
    exact ih _ _ _ h4
  ·simp only [h1]
   rw [wput1_eq] at h2
   exact ih _ _ _ h2
theorem wdChk_ok {tm : Tm} {e : CRd} {hs : List Hp} {c : Nat} {v : Value} {p : Prop} (h : wdChk P tm e hs c v p) : cagree P tm e v c hs = true ∧ p := by
 cases c with
 | zero => exact ⟨rfl, h⟩
 | succ n => exact wB_ok h
theorem wD_ok {wc : WCall} {call : CallF} (hc : WCallOk wc call) {round : RoundF} : ∀ {l : List CI} {tm : Tm} {h : Hp} {nx : Nat} {b : Hp} {hs : List Hp} {k : KS}, wD P wc round l tm h nx b hs k → ∃ tm' h' nx', cD P call round l tm h nx b hs = .ok .normal tm' h' nx' ∧ k tm' h' nx'
 | [], tm, h, nx, b, hs, k, hk => ⟨tm, h, nx, rfl, hk⟩
 | ⟨g, d, c, q⟩ :: is, tm, h, nx, b, hs, k, hk => by
  have ih := fun tm h nx b hs => wD_ok hc (round := round) (l := is) (tm := tm) (h := h) (nx := nx) (b := b) (hs := hs) (k := k)
  have hk : wwant g tm (wdSkip q (wD P wc round is) d tm h nx b hs k) (wdRun q P wc round (wD P wc round is) c d tm h nx b hs k) := hk
  show ∃ tm' h' nx', cDS P call round ⟨g, d, c, q⟩ (cD P call round is) tm h nx b hs = _ ∧ _
  unfold cDS
  rcases wwant_ok hk with ⟨h1, h2⟩ | ⟨h1, h2⟩
  ·simp only [h1]
   cases q with
   | pur e =>
    obtain ⟨v, h3, h4⟩ := wpur_ok (k := fun v => wput1 d tm v (fun tm => wD P wc round is tm h nx b hs k)) h2
    rw [wput1_eq] at h4
    simp only [h3, cD1]
    exact ih _ _ _ _ _ h4
   | alc e =>
    obtain ⟨x, h3, h4⟩ := walc_ok (k := fun v h nx => wput1 d tm v (fun tm => wD P wc round is tm h nx b hs k)) h2
    rw [wput1_eq] at h4
    simp only [h3, cD2]
    exact ih _ _ _ _ _ h4
   | red e =>
    obtain ⟨v, h3, h4⟩ := wred_ok (k := fun v => wdChk P tm e hs c v (wput1 d tm v (fun tm => wD P wc round is tm h nx b hs k))) h2
    obtain ⟨h5, h6⟩ := wdChk_ok h4
    rw [wput1_eq] at h6
    simp only [h3, cD3, h5, cond_true]
    exact ih _ _ _ _ _ h6
   | eff e =>
    obtain ⟨v, h', nx', h3, h4⟩ := weff_ok hc (k := fun v h nx' => wB (Nat.ble nx nx') (wput1 d tm v (fun tm => wD P wc round is tm h nx' h (b :: hs) k))) h2
    obtain ⟨h5, h6⟩ := wB_ok h4
    rw [wput1_eq] at h6
    simp only [h3, cD4, h5, cond_true]
    exact ih _ _ _ _ _ h6
  ·simp only [h1]
   have h2 : wput1 d tm undefV (fun tm => Bool.rec (motive := fun _ => Prop) (wD P wc round is tm h nx b hs k) (wD P wc round is tm h nx h (b :: hs) k) (isEffC q)) := h2
   rw [wput1_eq] at h2
   generalize isEffC q = eb at *
   cases eb <;> exact ih _ _ _ _ _ h2
theorem wOut_ok {o : Out} {k : KO} (h : wOut o k) : ∃ x tm h' nx, o = .ok x tm h' nx ∧ k x tm h' nx := by
 cases o <;> first | exact ⟨_, _, _, _, rfl, h⟩ | exact h.elim
theorem wRes1_ok {l : List Value} {k : KV} {h : Hp} {nx : Nat} (hk : wRes1 l k) : ∃ v, resOf h nx (.ok l) = .ok v h nx ∧ k v := by
 cases l with
 | nil => exact ⟨_, rfl, hk⟩
 | cons x xs => cases xs <;> exact ⟨_, rfl, hk⟩
theorem wRv_ok {tm : Tm} {h : Hp} {x : ResultVar} {k : KV} (hk : wRv P tm h x k) : ∃ v, resV P tm h x = .ok v ∧ k v := by
 cases x with
 | tmp t => exact ⟨_, rfl, hk⟩
 | cell a t =>
  obtain ⟨ad, h1, h2⟩ := waddr_ok hk
  obtain ⟨v, h3, h4⟩ := wR_ok h2
  exact ⟨v, by show addrR (tget tm a) _ = _; rw [show tget tm a = .pointer (some ad) from h1]; exact h3, h4⟩
theorem wRvs_ok {tm : Tm} {h : Hp} : ∀ {rs : List ResultVar} {k : KL}, wRvs P tm h rs k → ∃ l, resVs P tm h rs = .ok l ∧ k l
 | [], k, hk => ⟨[], rfl, hk⟩
 | x :: rs, k, hk => by
  obtain ⟨v, h1, h2⟩ := wRv_ok (k := fun v => wRvs P tm h rs (fun r => k (v :: r))) hk
  obtain ⟨l, h3, h4⟩ := wRvs_ok h2
  refine ⟨v :: l, ?_, h4⟩
  show R.bind (resV P tm h x) _ = _
  rw [h1]
  show R.bind (resVs P tm h rs) _ = _
  rw [h3]; rfl
theorem wRes_ok {rs : List ResultVar} {tm : Tm} {h : Hp} {nx : Nat} {k : KC} (hk : wRes P rs k tm h nx) : ∃ v h' nx', resOf h nx (resVs P tm h rs) = .ok v h' nx' ∧ k v h' nx' := by
 obtain ⟨l, h1, h2⟩ := wRvs_ok hk
 obtain ⟨v, h3, h4⟩ := wRes1_ok (h := h) (nx := nx) h2
 exact ⟨v, h, nx, by rw [h1]; exact h3, h4⟩
variable {orc : Orc}
def WExOk (wx : WEx) (ex : CEx) : Prop := ∀ cur c tm h nx k, wx cur c tm h nx k → ∃ x tm' h' nx', ex cur c tm h nx = .ok x tm' h' nx' ∧ k x tm' h' nx'
theorem wcall_ok {wx : WEx} {ex : CEx} (hx : WExOk wx ex) : WCallOk (wcall P orc wx) (ccallA P orc ex) := by
 intro f args h nx k hk
 unfold wcall at hk
 unfold ccallA
 cases ho : orc f with
 | some g => rw [ho] at hk; exact wCR_ok hk
 | none =>
  rw [ho] at hk
  simp only
  cases hcf : compAt P f with
  | none => rw [hcf] at hk; exact hk.elim
  | some c =>
   rw [hcf] at hk
   have hk : wEnter P wx c args h nx k := hk
   unfold wEnter at hk
   have hk := wargs_ok hk
   obtain ⟨x, tm', h', nx', h1, h2⟩ := hx _ _ _ _ _ _ hk
   show ∃ v h' nx', cEnter P ex c args h nx = _ ∧ _
   unfold cEnter retA
   rw [h1]
   cases x with
   | normal => exact wRes_ok h2
   | exit i => exact h2.elim
   | ret => exact wRes_ok h2
theorem wA_ok : ∀ n, WExOk (wA P orc n) (cexA P orc n)
 | 0 => fun cur c tm h nx k hk => hk.elim
 | n + 1 => by
  intro cur c tm h nx k hk
  have ih := wA_ok n
  have hc := wcall_ok (P := P) (orc := orc) ih
  have hk : wS c P orc (wA P orc n) (exA P orc n) cur tm h nx k := hk
  show ∃ x tm' h' nx', cexS P orc (cexA P orc n) (exA P orc n) cur c tm h nx = _ ∧ _
  cases c with
  | skip => exact ⟨_, _, _, _, rfl, hk⟩
  | exit id => exact ⟨_, _, _, _, rfl, hk⟩
  | ret => exact ⟨_, _, _, _, rfl, hk⟩
  | regO l =>
   obtain ⟨tm', h', nx', h1, h2⟩ := wO_ok hc hk
   exact ⟨_, _, _, _, h1, h2⟩
  | regD l =>
   obtain ⟨tm', h', nx', h1, h2⟩ := wD_ok hc hk
   exact ⟨_, _, _, _, h1, h2⟩
  | seq a b =>
   obtain ⟨x, tm', h', nx', h1, h2⟩ := ih _ _ _ _ _ _ hk
   show ∃ x tm' h' nx', outThen (cexA P orc n cur a tm h nx) _ = _ ∧ _
   rw [h1]
   cases x with
   | normal => exact ih _ _ _ _ _ _ h2
   | exit i => exact ⟨_, _, _, _, rfl, h2⟩
   | ret => exact ⟨_, _, _, _, rfl, h2⟩
  | cond x a b =>
   have hk : wev tm x (fun v => wbool v (wA P orc n cur b tm h nx k) (wA P orc n cur a tm h nx k)) := hk
   rw [wev_eq] at hk
   show ∃ x' tm' h' nx', cCond (cexA P orc n) cur a b tm h nx (cev tm x) = _ ∧ _
   rcases wbool_ok hk with ⟨h1, h2⟩ | ⟨h1, h2⟩
   ·rw [h1]; exact ih _ _ _ _ _ _ h2
   ·rw [h1]; exact ih _ _ _ _ _ _ h2
  | block id a =>
   obtain ⟨x, tm', h', nx', h1, h2⟩ := ih _ _ _ _ _ _ hk
   show ∃ x tm' h' nx', outThen (cexA P orc n cur a tm h nx) _ = _ ∧ _
   rw [h1]
   cases x with
   | normal => exact ⟨_, _, _, _, rfl, h2⟩
   | ret => exact ⟨_, _, _, _, rfl, h2⟩
   | exit i =>
    have h2 : (Bool.rec (motive := fun _ => Tm → Hp → Nat → Prop) (k (.exit i)) (k .normal) (Nat.beq i id)) tm' h' nx' := h2
    show ∃ x tm'' h'' nx'', (bif Nat.beq i id then Out.ok .normal tm' h' nx' else Out.ok (.exit i) tm' h' nx') = _ ∧ _
    generalize Nat.beq i id = b at *
    cases b <;> exact ⟨_, _, _, _, rfl, h2⟩
  | loop a =>
   obtain ⟨x, tm', h', nx', h1, h2⟩ := ih _ _ _ _ _ _ hk
   show ∃ x tm' h' nx', outThen (cexA P orc n cur a tm h nx) _ = _ ∧ _
   rw [h1]
   cases x with
   | normal => exact ih _ _ _ _ _ _ h2
   | exit i => exact ⟨_, _, _, _, rfl, h2⟩
   | ret => exact ⟨_, _, _, _, rfl, h2⟩
  | scope a => exact ih _ _ _ _ _ _ hk
  | gen a => exact wOut_ok hk
theorem wTrue_ok {n : Nat} {f : FuncId} (h : wTrue P orc n f) : ∃ h' nx', callA P orc (exA P orc n) f [] hp0 0 = .ok (.bool true) h' nx' := by
 obtain ⟨v, h', nx', h1, h2⟩ := wcall_ok (wA_ok n) _ _ _ _ _ h
 have hl := ccall_ok (P := P) (orc := orc) n f [] hp0 0
 rw [h1] at hl
 rcases wbool_ok h2 with ⟨rfl, _⟩ | ⟨_, hf⟩
 ·generalize callA P orc (exA P orc n) f [] hp0 0 = z at *
  cases hl
  exact ⟨h', nx', rfl⟩
 ·exact hf.elim
end
section
variable {P : Program} {orc : Orc}
def RoundLe (round round' : RoundF) : Prop := ∀ l args h nx, CLe (round l args h nx) (round' l args h nx)
theorem OLe.ok_eq {x : Ex} {tm : Tm} {h : Hp} {nx : Nat} {o : Out} (hl : OLe (.ok x tm h nx) o) : o = .ok x tm h nx := by cases hl; rfl
theorem CLe.ok_eq {v : Value} {h : Hp} {nx : Nat} {o : CR} (hl : CLe (.ok v h nx) o) : o = .ok v h nx := by cases hl; rfl
theorem orDone_mono {call call' : CallF} (hc : CallLe call call') {round round' : RoundF} (hr : RoundLe round round') {ih ih' : Tm → Hp → Nat → Out} (hi : ∀ tm h nx, OLe (ih tm h nx) (ih' tm h nx)) (d : Option Nat) (tm : Tm) :
  ∀ r, OLe (orDone call round ih d tm r) (orDone call' round' ih' d tm r)
 | .val v h nx => hi _ _ _
 | .call f args h nx => (hc f args h nx).then fun v h nx => hi _ _ _
 | .round l args h nx => (hr l args h nx).then fun v h nx => hi _ _ _
 | .no w => .no _ _
 | .alt a b => .alt (orDone_mono hc hr hi d tm a) (orDone_mono hc hr hi d tm b)
theorem crOf_mono {call call' : CallF} (hc : CallLe call call') {round round' : RoundF} (hr : RoundLe round round') {r : OR} {v : Value} {h : Hp} {nx : Nat} (he : crOf call round r = .ok v h nx) : crOf call' round' r = .ok v h nx := by
 cases r with
 | call f args h' nx' =>
  have he : call f args h' nx' = .ok v h nx := he
  have := hc f args h' nx'
  rw [he] at this
  exact this.ok_eq
 | round l args h' nx' =>
  have he : round l args h' nx' = .ok v h nx := he
  have := hr l args h' nx'
  rw [he] at this
  exact this.ok_eq
 | _ => exact he
theorem opsA_mono {call call' : CallF} (hc : CallLe call call') {round round' : RoundF} (hr : RoundLe round round') {all : List Oper} : ∀ (os : List Oper) tm h nx, OLe (opsAI P call round all os tm h nx) (opsAI P call' round' all os tm h nx)
 | [], tm, h, nx => .ok _ _ _ _
 | o :: os, tm, h, nx => by
  have ih := opsA_mono hc hr (all := all) os
  show OLe (opsS P call round all o (opsAI P call round all os) tm h nx) (opsS P call' round' all o (opsAI P call' round' all os) tm h nx)
  unfold opsS
  cases wantedA all tm o.guard with
  | false => exact ih _ _ _
  | true => exact orDone_mono hc hr ih _ _ _
theorem drawA_mono {call call' : CallF} (hc : CallLe call call') {round round' : RoundF} (hr : RoundLe round round') {all : List Oper} : ∀ (ss : List Step) tm h nx b hs, OLe (drawAI P call round all ss tm h nx b hs) (drawAI P call' round' all ss tm h nx b hs)
 | [], tm, h, nx, b, hs => .ok _ _ _ _
 | s :: ss, tm, h, nx, b, hs => by
  have ih := drawA_mono hc hr (all := all) ss
  show OLe (dS P call round all s (drawAI P call round all ss) tm h nx b hs) (dS P call' round' all s (drawAI P call' round' all ss) tm h nx b hs)
  unfold dS
  cases wantedA all tm s.o.guard with
  | false =>
   show OLe (dSkip _ s tm h nx b hs) (dSkip _ s tm h nx b hs)
   unfold dSkip
   cases isEffK s.kd <;> exact ih _ _ _ _ _
  | true =>
   show OLe (dStep P call round _ s tm h nx b hs) (dStep P call' round' _ s tm h nx b hs)
   unfold dStep
   cases s.kd with
   | pur =>
    show OLe (dVal _ _ _ _ _ _ _ (purA P tm s.o.op)) (dVal _ _ _ _ _ _ _ (purA P tm s.o.op))
    cases purA P tm s.o.op with
    | no w => exact .no _ _
    | ok v => exact ih _ _ _ _ _
   | alc =>
    show OLe (dNew _ _ _ _ _ _ _ (alcA P tm s.o.op)) (dNew _ _ _ _ _ _ _ (alcA P tm s.o.op))
    cases alcA P tm s.o.op with
    | no w => exact .no _ _
    | ok v => exact ih _ _ _ _ _
   | red =>
    show OLe (dRed P _ _ _ _ _ _ _ _ _ (redA P tm b s.o.op)) (dRed P _ _ _ _ _ _ _ _ _ (redA P tm b s.o.op))
    cases redA P tm b s.o.op with
    | no w => exact .no _ _
    | ok v =>
     show OLe (bif agree P tm s.o.op v s.chk hs then _ else _) (bif agree P tm s.o.op v s.chk hs then _ else _)
     cases agree P tm s.o.op v s.chk hs with
     | false => exact .no _ _
     | true => exact ih _ _ _ _ _
   | eff =>
    show OLe (dEff _ _ _ _ _ _ (crOf call round (effA P tm h nx s.o.op))) (dEff _ _ _ _ _ _ (crOf call' round' (effA P tm h nx s.o.op)))
    cases hv : crOf call round (effA P tm h nx s.o.op) with
    | no w => exact .no _ _
    | alt _ _ => exact .no _ _
    | ok v h' nx' =>
     rw [crOf_mono hc hr hv]
     show OLe (bif Nat.ble nx nx' then _ else _) (bif Nat.ble nx nx' then _ else _)
     cases Nat.ble nx nx' with
     | false => exact .no _ _
     | true => exact ih _ _ _ _ _
def ExLe (ex ex' : ExF) : Prop := ∀ cur c tm h nx, OLe (ex cur c tm h nx) (ex' cur c tm h nx)
theorem callA_mono {ex ex' : ExF} (hx : ExLe ex ex') : CallLe (callA P orc ex) (callA P orc ex') := by
 intro f args h nx
 unfold callA
 cases orc f with
 | some g => exact CLe.refl _
 | none =>
  cases lget P.funcs.toList f with
  | none => exact .no _ _
  | some fn =>
   show CLe (enterA P ex fn args h nx) (enterA P ex' fn args h nx)
   unfold enterA
   cases fn.body with
   | none => exact .no _ _
   | some c => exact (hx none c _ h nx).cr fun _ _ _ _ => CLe.refl _
theorem loopOf_mono {h : Hp} {l : Nat} {k k' : Nat → Option Code → Tm → List Nat → Code → Code → CR} (hk : ∀ st p tm ps a b, CLe (k st p tm ps a b) (k' st p tm ps a b)) : CLe (loopOf h l k) (loopOf h l k') := by
 unfold loopOf
 cases hget h l with
 | none => exact CLe.refl _
 | some o => cases o <;> first | exact CLe.refl _ | exact hk _ _ _ _ _ _
theorem roundA_mono {ex ex' : ExF} (hx : ExLe ex ex') : RoundLe (roundA ex) (roundA ex') := by
 intro l args h nx
 unfold roundA
 refine loopOf_mono fun st p tm ps a b => ?_
 cases Nat.beq (llen args) (llen ps) with
 | false => exact CLe.refl _
 | true =>
  refine (hx (some l) a _ h nx).cr fun x tm h nx => ?_
  cases x with
  | exit i => exact CLe.refl _
  | ret => exact CLe.refl _
  | normal =>
   refine loopOf_mono fun st p tm' ps a b' => ?_
   cases st with
   | zero => exact (hx _ _ _ _ _).cr fun _ _ _ _ => CLe.refl _
   | succ n => exact CLe.refl _
theorem exS_mono {ex ex' : ExF} (hx : ExLe ex ex') : ExLe (exS P orc ex) (exS P orc ex') := by
 intro cur c tm h nx
 have hc := callA_mono (P := P) (orc := orc) hx
 have hr := roundA_mono hx
 cases c with
 | scope c => exact hx _ _ _ _ _
 | region id ops draw =>
  show OLe (regionA P _ _ ops.toList draw tm h nx) (regionA P _ _ ops.toList draw tm h nx)
  unfold regionA
  cases draw with
  | false => exact opsA_mono hc hr _ _ _ _
  | true =>
   show OLe (Option.casesOn (planOf P ops.toList) _ _) (Option.casesOn (planOf P ops.toList) _ _)
   cases planOf P ops.toList with
   | none => exact .no _ _
   | some ss => exact drawA_mono hc hr _ _ _ _ _ _
 | seq a b => exact (hx _ _ _ _ _).then fun x tm h nx => by cases x <;> first | exact hx _ _ _ _ _ | exact OLe.refl _
 | loop a => exact (hx _ _ _ _ _).then fun x tm h nx => by cases x <;> first | exact hx _ _ _ _ _ | exact OLe.refl _
 | block id a => exact (hx _ _ _ _ _).then fun x tm h nx => OLe.refl _
 | cond x a b =>
  show OLe (condA ex cur a b tm h nx (ev tm x)) (condA ex' cur a b tm h nx (ev tm x))
  unfold condA
  cases ev tm x with
  | no w => exact .no _ _
  | ok v =>
   cases v <;> first | exact .no _ _ | skip
   rename_i t
   cases t <;> exact hx _ _ _ _ _
 | rangeFunc f ps asg body =>
  show OLe (R.casesOn (ev tm f) _ _) (R.casesOn (ev tm f) _ _)
  cases ev tm f with
  | no w => exact .no _ _
  | ok v =>
   show OLe (bif inLoop h cur then _ else _) (bif inLoop h cur then _ else _)
   cases inLoop h cur with
   | false => exact .no _ _
   | true =>
    show OLe (rfA P orc ex ps.toList asg body tm h nx v) (rfA P orc ex' ps.toList asg body tm h nx v)
    unfold rfA
    split
    ·exact (hc _ _ _ _).then fun v h nx => OLe.refl _
    ·exact .no _ _
 | _ => exact OLe.refl _
theorem exA_mono : ∀ n, ExLe (exA P orc n) (exA P orc (n + 1))
 | 0 => fun _ _ _ _ _ => .no _ _
 | n + 1 => exS_mono (exA_mono n)
theorem cO_mono {call call' : CallF} (hc : CallLe call call') {round round' : RoundF} (hr : RoundLe round round') : ∀ (l : List CI) tm h nx, OLe (cO P call round l tm h nx) (cO P call' round' l tm h nx)
 | [], tm, h, nx => .ok _ _ _ _
 | i :: is, tm, h, nx => by
  have ih := cO_mono hc hr is
  show OLe (cOS P call round i (cO P call round is) tm h nx) (cOS P call' round' i (cO P call' round' is) tm h nx)
  unfold cOS
  cases cwant tm i.g with
  | false => exact ih _ _ _
  | true =>
   cases i.k with
   | pur e =>
    show OLe (cO1 _ _ _ _ _ (cpur P tm e)) (cO1 _ _ _ _ _ (cpur P tm e))
    cases cpur P tm e with
    | no w => exact .no _ _
    | ok v => exact ih _ _ _
   | alc e =>
    show OLe (cO2 _ _ _ _ _ (calq P tm e)) (cO2 _ _ _ _ _ (calq P tm e))
    cases calq P tm e with
    | no w => exact .no _ _
    | ok v => exact ih _ _ _
   | red e =>
    show OLe (cO1 _ _ _ _ _ (cred P tm h e)) (cO1 _ _ _ _ _ (cred P tm h e))
    cases cred P tm h e with
    | no w => exact .no _ _
    | ok v => exact ih _ _ _
   | eff e => exact orDone_mono hc hr ih _ _ _
theorem cD_mono {call call' : CallF} (hc : CallLe call call') {round round' : RoundF} (hr : RoundLe round round') : ∀ (l : List CI) tm h nx b hs, OLe (cD P call round l tm h nx b hs) (cD P call' round' l tm h nx b hs)
 | [], tm, h, nx, b, hs => .ok _ _ _ _
 | i :: is, tm, h, nx, b, hs => by
  have ih := cD_mono hc hr is
  show OLe (cDS P call round i (cD P call round is) tm h nx b hs) (cDS P call' round' i (cD P call' round' is) tm h nx b hs)
  unfold cDS
  cases cwant tm i.g with
  | false => show OLe (Bool.casesOn (isEffC i.k) _ _) (Bool.casesOn (isEffC i.k) _ _); cases isEffC i.k <;> exact ih _ _ _ _ _
  | true =>
   cases i.k with
   | pur e =>
    show OLe (cD1 _ _ _ _ _ _ _ (cpur P tm e)) (cD1 _ _ _ _ _ _ _ (cpur P tm e))
    cases cpur P tm e with
    | no w => exact .no _ _
    | ok v => exact ih _ _ _ _ _
   | alc e =>
    show OLe (cD2 _ _ _ _ _ _ _ (calq P tm e)) (cD2 _ _ _ _ _ _ _ (calq P tm e))
    cases calq P tm e with
    | no w => exact .no _ _
    | ok v => exact ih _ _ _ _ _
   | red e =>
    show OLe (cD3 P _ _ _ _ _ _ _ _ _ (cred P tm b e)) (cD3 P _ _ _ _ _ _ _ _ _ (cred P tm b e))
    cases cred P tm b e with
    | no w => exact .no _ _
    | ok v =>
     show OLe (bif cagree P tm e v i.c hs then _ else _) (bif cagree P tm e v i.c hs then _ else _)
     cases cagree P tm e v i.c hs with
     | false => exact .no _ _
     | true => exact ih _ _ _ _ _
   | eff e =>
    show OLe (cD4 _ _ _ _ _ _ (crOf call round (ceff P tm h nx e))) (cD4 _ _ _ _ _ _ (crOf call' round' (ceff P tm h nx e)))
    cases hv : crOf call round (ceff P tm h nx e) with
    | no w => exact .no _ _
    | alt _ _ => exact .no _ _
    | ok v h' nx' =>
     rw [crOf_mono hc hr hv]
     show OLe (bif Nat.ble nx nx' then _ else _) (bif Nat.ble nx nx' then _ else _)
     cases Nat.ble nx nx' with
     | false => exact .no _ _
     | true => exact ih _ _ _ _ _
def CExLe (ex ex' : CEx) : Prop := ∀ cur c tm h nx, OLe (ex cur c tm h nx) (ex' cur c tm h nx)
theorem ccallA_mono {ex ex' : CEx} (hx : CExLe ex ex') : CallLe (ccallA P orc ex) (ccallA P orc ex') := by
 intro f args h nx
 unfold ccallA
 cases orc f with
 | some g => exact CLe.refl _
 | none =>
  show CLe (Option.casesOn (compAt P f) _ _) (Option.casesOn (compAt P f) _ _)
  cases compAt P f with
  | none => exact .no _ _
  | some c => exact (hx _ _ _ _ _).cr fun _ _ _ _ => CLe.refl _
theorem cexS_mono {ex ex' : CEx} (hx : CExLe ex ex') {ex0 ex0' : ExF} (h0 : ExLe ex0 ex0') : CExLe (cexS P orc ex ex0) (cexS P orc ex' ex0') := by
 intro cur c tm h nx
 have hc := ccallA_mono (P := P) (orc := orc) hx
 have hr := roundA_mono h0
 cases c with
 | regO l => exact cO_mono hc hr _ _ _ _
 | regD l => exact cD_mono hc hr _ _ _ _ _ _
 | seq a b => exact (hx _ _ _ _ _).then fun x tm h nx => by cases x <;> first | exact hx _ _ _ _ _ | exact OLe.refl _
 | loop a => exact (hx _ _ _ _ _).then fun x tm h nx => by cases x <;> first | exact hx _ _ _ _ _ | exact OLe.refl _
 | block id a => exact (hx _ _ _ _ _).then fun x tm h nx => OLe.refl _
 | scope a => exact hx _ _ _ _ _
 | cond x a b =>
  show OLe (cCond ex cur a b tm h nx (cev tm x)) (cCond ex' cur a b tm h nx (cev tm x))
  unfold cCond
  cases cev tm x <;> first | exact .no _ _ | skip
  rename_i t
  cases t <;> exact hx _ _ _ _ _
 | gen a => exact exS_mono h0 _ _ _ _ _
 | _ => exact OLe.refl _
theorem cexA_mono1 : ∀ n, CExLe (cexA P orc n) (cexA P orc (n + 1))
 | 0 => fun _ _ _ _ _ => .no _ _
 | n + 1 => cexS_mono (cexA_mono1 n) (exA_mono n)
theorem OLe.trans {a b c : Out} (h : OLe a b) (k : OLe b c) : OLe a c := by
 induction h generalizing c with
 | no => exact .no _ _
 | ok => exact k
 | alt _ _ ih1 ih2 => cases k with | alt l r => exact .alt (ih1 l) (ih2 r)
theorem cexA_mono {n m : Nat} (h : n ≤ m) : CExLe (cexA P orc n) (cexA P orc m) := by
 induction h with
 | refl => intro _ _ _ _ _; exact OLe.refl _
 | step _ ih => intro cur c tm h nx; exact (ih cur c tm h nx).trans (cexA_mono1 _ cur c tm h nx)
theorem exA_mono' {n m : Nat} (h : n ≤ m) : ExLe (exA P orc n) (exA P orc m) := by
 induction h with
 | refl => intro _ _ _ _ _; exact OLe.refl _
 | step _ ih => intro cur c tm h nx; exact (ih cur c tm h nx).trans (exA_mono _ cur c tm h nx)
end
abbrev KO' := Ex → Tm → Hp → Nat → Prop
abbrev KC' := Value → Hp → Nat → Prop
abbrev KS' := Tm → Hp → Nat → Prop
def Sat (s : Bool) (t : Out) (K : KO') : Prop := outSat t K ∧ (s = true → ∃ x tm h nx, t = .ok x tm h nx)
def SatC (s : Bool) (t : CR) (K : KC') : Prop := crSat t K ∧ (s = true → ∃ v h nx, t = .ok v h nx)
section
variable {s : Bool}
theorem Sat.up {a b : Out} {K : KO'} (h : Sat s a K) (l : OLe a b) : Sat s b K := by
 refine ⟨l.sat h.1, fun hs => ?_⟩
 obtain ⟨x, tm, h', nx, rfl⟩ := h.2 hs
 exact ⟨x, tm, h', nx, l.ok_eq⟩
theorem SatC.up {a b : CR} {K : KC'} (h : SatC s a K) (l : CLe a b) : SatC s b K := by
 refine ⟨l.sat h.1, fun hs => ?_⟩
 obtain ⟨x, h', nx, rfl⟩ := h.2 hs
 exact ⟨x, h', nx, l.ok_eq⟩
theorem crSat.mono {K K' : KC'} (hk : ∀ v h nx, K v h nx → K' v h nx) : ∀ {c : CR}, crSat c K → crSat c K'
 | .ok _ _ _, h => hk _ _ _ h
 | .no _, h => h
 | .alt _ _, h => ⟨crSat.mono hk h.1, crSat.mono hk h.2⟩
theorem Sat.mono {a : Out} {K K' : KO'} (h : Sat s a K) (hk : ∀ x tm h nx, K x tm h nx → K' x tm h nx) : Sat s a K' := ⟨outSat.mono hk h.1, h.2⟩
theorem SatC.mono {a : CR} {K K' : KC'} (h : SatC s a K) (hk : ∀ v h nx, K v h nx → K' v h nx) : SatC s a K' := ⟨crSat.mono hk h.1, h.2⟩
theorem sat_ok {x : Ex} {tm : Tm} {h : Hp} {nx : Nat} {K : KO'} : Sat s (.ok x tm h nx) K ↔ K x tm h nx := ⟨fun h => h.1, fun h => ⟨h, fun _ => ⟨_, _, _, _, rfl⟩⟩⟩
theorem satC_ok {v : Value} {h : Hp} {nx : Nat} {K : KC'} : SatC s (.ok v h nx) K ↔ K v h nx := ⟨fun h => h.1, fun h => ⟨h, fun _ => ⟨_, _, _, rfl⟩⟩⟩
theorem sat_no {w : String} {K : KO'} : Sat s (.no w) K ↔ False := ⟨fun h => h.1, fun h => h.elim⟩
theorem satC_no {w : String} {K : KC'} : SatC s (.no w) K ↔ False := ⟨fun h => h.1, fun h => h.elim⟩
theorem sat_alt {a b : Out} {K : KO'} : Sat s (.alt a b) K ↔ s = false ∧ Sat s a K ∧ Sat s b K := by
 cases s with
 | true => exact ⟨fun h => (by obtain ⟨_, _, _, _, e⟩ := h.2 rfl; cases e), fun h => (by cases h.1)⟩
 | false => exact ⟨fun h => ⟨rfl, ⟨h.1.1, fun e => (by cases e)⟩, ⟨h.1.2, fun e => (by cases e)⟩⟩, fun h => ⟨⟨h.2.1.1, h.2.2.1⟩, fun e => (by cases e)⟩⟩
theorem satC_alt {a b : CR} {K : KC'} : SatC s (.alt a b) K ↔ s = false ∧ SatC s a K ∧ SatC s b K := by
 cases s with
 | true => exact ⟨fun h => (by obtain ⟨_, _, _, e⟩ := h.2 rfl; cases e), fun h => (by cases h.1)⟩
 | false => exact ⟨fun h => ⟨rfl, ⟨h.1.1, fun e => (by cases e)⟩, ⟨h.1.2, fun e => (by cases e)⟩⟩, fun h => ⟨⟨h.2.1.1, h.2.2.1⟩, fun e => (by cases e)⟩⟩
theorem Sat.unif {K : KO'} {k : Nat → KO'} (hm : ∀ n m x tm h nx, n ≤ m → k n x tm h nx → k m x tm h nx) : ∀ {t : Out}, Sat s t (fun x tm h nx => ∃ n, k n x tm h nx) → ∃ n, Sat s t (k n)
 | .ok x tm h nx, hs => by
  obtain ⟨n, hn⟩ := sat_ok.1 hs
  exact ⟨n, sat_ok.2 hn⟩
 | .no w, hs => (sat_no.1 hs).elim
 | .alt a b, hs => by
  obtain ⟨h0, h1, h2⟩ := sat_alt.1 hs
  obtain ⟨n, h1⟩ := Sat.unif (K := K) hm h1
  obtain ⟨m, h2⟩ := Sat.unif (K := K) hm h2
  exact ⟨max n m, sat_alt.2 ⟨h0, h1.mono fun _ _ _ _ => hm _ _ _ _ _ _ (Nat.le_max_left ..), h2.mono fun _ _ _ _ => hm _ _ _ _ _ _ (Nat.le_max_right ..)⟩⟩
theorem SatC.unif {k : Nat → KC'} (hm : ∀ n m v h nx, n ≤ m → k n v h nx → k m v h nx) : ∀ {t : CR}, SatC s t (fun v h nx => ∃ n, k n v h nx) → ∃ n, SatC s t (k n)
 | .ok v h nx, hs => by
  obtain ⟨n, hn⟩ := satC_ok.1 hs
  exact ⟨n, satC_ok.2 hn⟩
 | .no w, hs => (satC_no.1 hs).elim
 | .alt a b, hs => by
  obtain ⟨h0, h1, h2⟩ := satC_alt.1 hs
  obtain ⟨n, h1⟩ := SatC.unif hm h1
  obtain ⟨m, h2⟩ := SatC.unif hm h2
  exact ⟨max n m, satC_alt.2 ⟨h0, h1.mono fun _ _ _ => hm _ _ _ _ _ (Nat.le_max_left ..), h2.mono fun _ _ _ => hm _ _ _ _ _ (Nat.le_max_right ..)⟩⟩
theorem Sat.then {k : Ex → Tm → Hp → Nat → Out} {K : KO'} : ∀ {t : Out}, Sat s t (fun x tm h nx => Sat s (k x tm h nx) K) → Sat s (outThen t k) K
 | .ok x tm h nx, hs => sat_ok.1 hs
 | .no w, hs => (sat_no.1 hs).elim
 | .alt a b, hs => by
  obtain ⟨h0, h1, h2⟩ := sat_alt.1 hs
  exact sat_alt.2 ⟨h0, Sat.then h1, Sat.then h2⟩
theorem Sat.thenC {k : Ex → Tm → Hp → Nat → CR} {K : KC'} : ∀ {t : Out}, Sat s t (fun x tm h nx => SatC s (k x tm h nx) K) → SatC s (outCR t k) K
 | .ok x tm h nx, hs => sat_ok.1 hs
 | .no w, hs => (sat_no.1 hs).elim
 | .alt a b, hs => by
  obtain ⟨h0, h1, h2⟩ := sat_alt.1 hs
  exact satC_alt.2 ⟨h0, Sat.thenC h1, Sat.thenC h2⟩
theorem SatC.then {k : Value → Hp → Nat → Out} {K : KO'} : ∀ {t : CR}, SatC s t (fun v h nx => Sat s (k v h nx) K) → Sat s (crThen t k) K
 | .ok v h nx, hs => satC_ok.1 hs
 | .no w, hs => (satC_no.1 hs).elim
 | .alt a b, hs => by
  obtain ⟨h0, h1, h2⟩ := satC_alt.1 hs
  exact sat_alt.2 ⟨h0, SatC.then h1, SatC.then h2⟩
end
def Ev (P : Program) (orc : Orc) (s : Bool) (c : CC) (tm : Tm) (h : Hp) (nx : Nat) (K : KO') : Prop := ∃ n, Sat s (cexA P orc n none c tm h nx) K
def Cv (P : Program) (orc : Orc) (s : Bool) (f : FuncId) (args : List Value) (h : Hp) (nx : Nat) (K : KC') : Prop := ∃ n, SatC s (ccallA P orc (cexA P orc n) f args h nx) K
def Ov (P : Program) (orc : Orc) (s : Bool) (l : List CI) (tm : Tm) (h : Hp) (nx : Nat) (K : KS') : Prop := ∃ n, Sat s (cO P (ccallA P orc (cexA P orc n)) (roundA (exA P orc n)) l tm h nx) (fun _ tm h nx => K tm h nx)
def Dv (P : Program) (orc : Orc) (s : Bool) (l : List CI) (tm : Tm) (h : Hp) (nx : Nat) (b : Hp) (hs : List Hp) (K : KS') : Prop := ∃ n, Sat s (cD P (ccallA P orc (cexA P orc n)) (roundA (exA P orc n)) l tm h nx b hs) (fun _ tm h nx => K tm h nx)
section
variable {P : Program} {orc : Orc} {s : Bool}
theorem Ev.mono {c : CC} {tm : Tm} {h : Hp} {nx : Nat} {K K' : KO'} (he : Ev P orc s c tm h nx K) (hk : ∀ x tm h nx, K x tm h nx → K' x tm h nx) : Ev P orc s c tm h nx K' := by
 obtain ⟨n, hn⟩ := he; exact ⟨n, hn.mono hk⟩
theorem Cv.mono {f : FuncId} {args : List Value} {h : Hp} {nx : Nat} {K K' : KC'} (he : Cv P orc s f args h nx K) (hk : ∀ v h nx, K v h nx → K' v h nx) : Cv P orc s f args h nx K' := by
 obtain ⟨n, hn⟩ := he; exact ⟨n, hn.mono hk⟩
theorem Ov.mono {l : List CI} {tm : Tm} {h : Hp} {nx : Nat} {K K' : KS'} (he : Ov P orc s l tm h nx K) (hk : ∀ tm h nx, K tm h nx → K' tm h nx) : Ov P orc s l tm h nx K' := by
 obtain ⟨n, hn⟩ := he; exact ⟨n, hn.mono fun _ => hk⟩
theorem callLe {n m : Nat} (h : n ≤ m) : CallLe (ccallA P orc (cexA P orc n)) (ccallA P orc (cexA P orc m)) := ccallA_mono (cexA_mono h)
theorem roundLe {n m : Nat} (h : n ≤ m) : RoundLe (roundA (exA P orc n)) (roundA (exA P orc m)) := roundA_mono (exA_mono' h)
theorem Ev.skip {tm : Tm} {h : Hp} {nx : Nat} {K : KO'} (hk : K .normal tm h nx) : Ev P orc s .skip tm h nx K := ⟨1, sat_ok.2 hk⟩
theorem Ev.exit {id : Nat} {tm : Tm} {h : Hp} {nx : Nat} {K : KO'} (hk : K (.exit id) tm h nx) : Ev P orc s (.exit id) tm h nx K := ⟨1, sat_ok.2 hk⟩
theorem Ev.ret {tm : Tm} {h : Hp} {nx : Nat} {K : KO'} (hk : K .ret tm h nx) : Ev P orc s .ret tm h nx K := ⟨1, sat_ok.2 hk⟩
theorem Ev.scope {c : CC} {tm : Tm} {h : Hp} {nx : Nat} {K : KO'} (he : Ev P orc s c tm h nx K) : Ev P orc s (.scope c) tm h nx K := by
 obtain ⟨n, hn⟩ := he; exact ⟨n + 1, hn⟩
def nextK (N : KS') (K : KO') : KO' := fun x tm h nx => match x with
 | .normal => N tm h nx
 | x => K x tm h nx
theorem Ev.seq {a b : CC} {tm : Tm} {h : Hp} {nx : Nat} {K : KO'} (he : Ev P orc s a tm h nx (nextK (fun tm h nx => Ev P orc s b tm h nx K) K)) : Ev P orc s (.seq a b) tm h nx K := by
 obtain ⟨n, hn⟩ := he
 have h1 : Sat s (cexA P orc n none a tm h nx) (fun x tm h nx => ∃ m, Sat s (cAfter (cexA P orc m) none b x tm h nx) K) := hn.mono fun x tm h nx hk => by
  cases x with
  | normal => exact hk
  | exit i => exact ⟨0, sat_ok.2 hk⟩
  | ret => exact ⟨0, sat_ok.2 hk⟩
 obtain ⟨m, h2⟩ := Sat.unif (K := K) (fun n m x tm h nx hnm hk => by
  cases x with
  | normal => exact hk.up (cexA_mono hnm _ _ _ _ _)
  | exit i => exact hk
  | ret => exact hk) h1
 refine ⟨max n m + 1, ?_⟩
 show Sat s (outThen (cexA P orc (max n m) none a tm h nx) (cAfter (cexA P orc (max n m)) none b)) K
 refine Sat.then ((h2.up (cexA_mono (Nat.le_max_left n m) _ _ _ _ _)).mono fun x tm h nx hk => ?_)
 cases x with
 | normal => exact hk.up (cexA_mono (Nat.le_max_right n m) _ _ _ _ _)
 | exit i => exact hk
 | ret => exact hk
def blkK (id : Nat) (K : KO') : KO' := fun x tm h nx => match x with
 | .exit i => if i = id then K .normal tm h nx else K (.exit i) tm h nx
 | x => K x tm h nx
theorem Ev.block {id : Nat} {c : CC} {tm : Tm} {h : Hp} {nx : Nat} {K : KO'} (he : Ev P orc s c tm h nx (blkK id K)) : Ev P orc s (.block id c) tm h nx K := by
 obtain ⟨n, hn⟩ := he
 refine ⟨n + 1, Sat.then (hn.mono fun x tm h nx hk => ?_)⟩
 cases x with
 | normal => exact sat_ok.2 hk
 | ret => exact sat_ok.2 hk
 | exit i =>
  show Sat s (bif Nat.beq i id then _ else _) K
  have hk : if i = id then K .normal tm h nx else K (.exit i) tm h nx := hk
  by_cases e : i = id
  ·rw [if_pos e] at hk
   rw [show Nat.beq i id = true by rw [e]; exact Nat.beq_refl id]
   exact sat_ok.2 hk
  ·rw [if_neg e] at hk
   rw [show Nat.beq i id = false by
    cases hb : Nat.beq i id with
    | true => exact absurd (Nat.eq_of_beq_eq_true hb) e
    | false => rfl]
   exact sat_ok.2 hk
theorem Ev.cond {x : Co} {a b : CC} {tm : Tm} {h : Hp} {nx : Nat} {K : KO'} (t : Bool) (hx : cev tm x = .bool t) (ht : t = true → Ev P orc s a tm h nx K) (hf : t = false → Ev P orc s b tm h nx K) : Ev P orc s (.cond x a b) tm h nx K := by
 cases t with
 | true =>
  obtain ⟨n, hn⟩ := ht rfl
  refine ⟨n + 1, ?_⟩
  show Sat s (cCond (cexA P orc n) none a b tm h nx (cev tm x)) K
  rw [hx]; exact hn
 | false =>
  obtain ⟨n, hn⟩ := hf rfl
  refine ⟨n + 1, ?_⟩
  show Sat s (cCond (cexA P orc n) none a b tm h nx (cev tm x)) K
  rw [hx]; exact hn
theorem Ev.loop {c : CC} {K : KO'} (J : Nat → KS') (hj : ∀ m tm h nx, J m tm h nx → Ev P orc s c tm h nx (nextK (fun tm h nx => ∃ m', m' < m ∧ J m' tm h nx) K)) :
  ∀ m tm h nx, J m tm h nx → Ev P orc s (.loop c) tm h nx K := by
 intro m
 induction m using Nat.strongRecOn with
 | _ m ih =>
  intro tm h nx hJ
  have he := hj m tm h nx hJ
  have he : Ev P orc s c tm h nx (nextK (fun tm h nx => Ev P orc s (.loop c) tm h nx K) K) := he.mono fun x tm h nx hk => by
   cases x with
   | normal => obtain ⟨m', hlt, hJ'⟩ := hk; exact ih m' hlt tm h nx hJ'
   | exit i => exact hk
   | ret => exact hk
  obtain ⟨n, hn⟩ := Ev.seq he
  cases n with
  | zero => exact (sat_no.1 hn).elim
  | succ n => exact ⟨n + 1, hn⟩
theorem Ev.regO {l : List CI} {tm : Tm} {h : Hp} {nx : Nat} {K : KO'} (he : Ov P orc s l tm h nx (K .normal)) : Ev P orc s (.regO l) tm h nx K := by
 obtain ⟨n, hn⟩ := he
 refine ⟨n + 1, ?_⟩
 show Sat s (cO P _ _ l tm h nx) K
 have key : ∀ (l : List CI) (t : Out), (∃ tm h nx, t = cO P (ccallA P orc (cexA P orc n)) (roundA (exA P orc n)) l tm h nx) → Sat s t (fun _ => K .normal) → Sat s t (fun x tm h nx => x = .normal → K x tm h nx) := fun l t _ h => h.mono fun x tm h nx hk e => by rw [e]; exact hk
 have hnorm : ∀ (l : List CI) tm h nx, outSat (cO P (ccallA P orc (cexA P orc n)) (roundA (exA P orc n)) l tm h nx) (fun _ _ _ _ => True) → outSat (cO P (ccallA P orc (cexA P orc n)) (roundA (exA P orc n)) l tm h nx) (fun x _ _ _ => x = .normal) := by
  intro l
  induction l with
  | nil => intro tm h nx _; rfl
  | cons i is ih =>
   intro tm h nx
   show outSat (cOS P _ _ i _ tm h nx) _ → outSat (cOS P _ _ i _ tm h nx) _
   unfold cOS
   cases cwant tm i.g with
   | false => exact ih _ _ _
   | true =>
    cases i.k with
    | pur e =>
     show outSat (cO1 _ _ _ _ _ (cpur P tm e)) _ → outSat (cO1 _ _ _ _ _ (cpur P tm e)) _
     cases cpur P tm e with
     | no w => exact fun h => h
     | ok v => exact ih _ _ _
    | alc e =>
     show outSat (cO2 _ _ _ _ _ (calq P tm e)) _ → outSat (cO2 _ _ _ _ _ (calq P tm e)) _
     cases calq P tm e with
     | no w => exact fun h => h
     | ok v => exact ih _ _ _
    | red e =>
     show outSat (cO1 _ _ _ _ _ (cred P tm h e)) _ → outSat (cO1 _ _ _ _ _ (cred P tm h e)) _
     cases cred P tm h e with
     | no w => exact fun h => h
     | ok v => exact ih _ _ _
    | eff e =>
     show outSat (orDone _ _ _ i.d tm (ceff P tm h nx e)) _ → outSat (orDone _ _ _ i.d tm (ceff P tm h nx e)) _
     have cr : ∀ c : CR, outSat (crThen c (fun v h nx => cO P (ccallA P orc (cexA P orc n)) (roundA (exA P orc n)) is (putT tm i.d v) h nx)) (fun _ _ _ _ => True) → outSat (crThen c (fun v h nx => cO P (ccallA P orc (cexA P orc n)) (roundA (exA P orc n)) is (putT tm i.d v) h nx)) (fun x _ _ _ => x = .normal) := by
      intro c
      induction c with
      | ok v h nx => exact ih _ _ _
      | no w => exact fun h => h
      | alt a b iha ihb => exact fun h => ⟨iha h.1, ihb h.2⟩
     generalize ceff P tm h nx e = r
     induction r with
     | val v h nx => exact ih _ _ _
     | call f args h nx => exact cr _
     | round l args h nx => exact cr _
     | no w => exact fun h => h
     | alt a b iha ihb => exact fun h => ⟨iha h.1, ihb h.2⟩
 have h2 := hnorm l tm h nx (outSat.mono (fun _ _ _ _ _ => trivial) hn.1)
 refine ⟨?_, hn.2⟩
 have both : ∀ t : Out, outSat t (fun x _ _ _ => x = .normal) → outSat t (fun _ tm h nx => K .normal tm h nx) → outSat t K := by
  intro t
  induction t with
  | ok x tm h nx => intro h1 h2; cases h1; exact h2
  | no w => exact fun h _ => h
  | alt a b iha ihb => exact fun h1 h2 => ⟨iha h1.1 h2.1, ihb h1.2 h2.2⟩
 exact both _ h2 hn.1
end
section
variable {P : Program} {orc : Orc} {s : Bool}
def RK {α : Type} (r : R α) (k : α → Prop) : Prop := match r with
 | .ok v => k v
 | .no _ => False
@[simp] theorem RK_ok {α : Type} (v : α) (k : α → Prop) : RK (.ok v) k ↔ k v := Iff.rfl
@[simp] theorem RK_no {α : Type} (w : String) (k : α → Prop) : RK (.no w) k ↔ False := Iff.rfl
theorem exc {p : Prop} : (∃ _ : Nat, p) ↔ p := ⟨fun ⟨_, h⟩ => h, fun h => ⟨0, h⟩⟩
theorem Ov_nil {tm : Tm} {h : Hp} {nx : Nat} {K : KS'} : Ov P orc s [] tm h nx K ↔ K tm h nx := by
 unfold Ov
 show (∃ n : Nat, Sat s (.ok .normal tm h nx) _) ↔ _
 rw [exc, sat_ok]
theorem Ov_pur {d : Option Nat} {c : Nat} {e : CP} {is : List CI} {tm : Tm} {h : Hp} {nx : Nat} {K : KS'} : Ov P orc s (⟨none, d, c, .pur e⟩ :: is) tm h nx K ↔ RK (cpur P tm e) (fun v => Ov P orc s is (putT tm d v) h nx K) := by
 unfold Ov
 show (∃ n, Sat s (cO1 (cO P (ccallA P orc (cexA P orc n)) (roundA (exA P orc n)) is) d tm h nx (cpur P tm e)) _) ↔ _
 cases cpur P tm e with
 | ok v => exact Iff.rfl
 | no w => exact ⟨fun ⟨n, hn⟩ => sat_no.1 hn, fun h => h.elim⟩
theorem Ov_alc {d : Option Nat} {c : Nat} {e : CA} {is : List CI} {tm : Tm} {h : Hp} {nx : Nat} {K : KS'} : Ov P orc s (⟨none, d, c, .alc e⟩ :: is) tm h nx K ↔ RK (calq P tm e) (fun b => Ov P orc s is (putT tm d (nbV nx b)) (hset h nx (nbO b)) (nx + 1) K) := by
 unfold Ov
 show (∃ n, Sat s (cO2 (cO P (ccallA P orc (cexA P orc n)) (roundA (exA P orc n)) is) d tm h nx (calq P tm e)) _) ↔ _
 cases calq P tm e with
 | ok v => exact Iff.rfl
 | no w => exact ⟨fun ⟨n, hn⟩ => sat_no.1 hn, fun h => h.elim⟩
theorem Ov_red {d : Option Nat} {c : Nat} {e : CRd} {is : List CI} {tm : Tm} {h : Hp} {nx : Nat} {K : KS'} : Ov P orc s (⟨none, d, c, .red e⟩ :: is) tm h nx K ↔ RK (cred P tm h e) (fun v => Ov P orc s is (putT tm d v) h nx K) := by
 unfold Ov
 show (∃ n, Sat s (cO1 (cO P (ccallA P orc (cexA P orc n)) (roundA (exA P orc n)) is) d tm h nx (cred P tm h e)) _) ↔ _
 cases cred P tm h e with
 | ok v => exact Iff.rfl
 | no w => exact ⟨fun ⟨n, hn⟩ => sat_no.1 hn, fun h => h.elim⟩
theorem Ov_st {d : Option Nat} {c n : Nat} {a x : Co} {is : List CI} {tm : Tm} {h : Hp} {nx : Nat} {K : KS'} : Ov P orc s (⟨none, d, c, .eff (.st n a x)⟩ :: is) tm h nx K ↔ RK (addrR (cev tm a) (cSt h n (vcells (cev tm x)))) (fun h => Ov P orc s is (putT tm d undefV) h nx K) := by
 unfold Ov
 show (∃ m, Sat s (orDone (ccallA P orc (cexA P orc m)) (roundA (exA P orc m)) (cO P (ccallA P orc (cexA P orc m)) (roundA (exA P orc m)) is) d tm (uOf nx (addrR (cev tm a) (cSt h n (vcells (cev tm x)))))) _) ↔ _
 cases addrR (cev tm a) (cSt h n (vcells (cev tm x))) with
 | ok v => exact Iff.rfl
 | no w => exact ⟨fun ⟨n, hn⟩ => sat_no.1 hn, fun h => h.elim⟩
theorem Ov_eff {d : Option Nat} {c : Nat} {e : CE} {is : List CI} {tm : Tm} {h : Hp} {nx : Nat} {K : KS'} {v : Value} {h' : Hp} {nx' : Nat} (he : ceff P tm h nx e = .val v h' nx') : Ov P orc s (⟨none, d, c, .eff e⟩ :: is) tm h nx K ↔ Ov P orc s is (putT tm d v) h' nx' K := by
 unfold Ov
 show (∃ m, Sat s (orDone (ccallA P orc (cexA P orc m)) (roundA (exA P orc m)) (cO P (ccallA P orc (cexA P orc m)) (roundA (exA P orc m)) is) d tm (ceff P tm h nx e)) _) ↔ _
 rw [he]
 exact Iff.rfl
theorem Ov_call' {d : Option Nat} {c : Nat} {e : CE} {is : List CI} {tm : Tm} {h h1 : Hp} {nx nx1 : Nat} {K : KS'} {f : FuncId} {args : List Value} (hce : ceff P tm h nx e = .call f args h1 nx1)
  (hc : Cv P orc s f args h1 nx1 (fun v h nx => Ov P orc s is (putT tm d v) h nx K)) : Ov P orc s (⟨none, d, c, .eff e⟩ :: is) tm h nx K := by
 obtain ⟨n, hn⟩ := hc
 obtain ⟨m, h2⟩ := SatC.unif (k := fun m v h nx => Sat s (cO P (ccallA P orc (cexA P orc m)) (roundA (exA P orc m)) is (putT tm d v) h nx) (fun _ tm h nx => K tm h nx))
  (fun n m v h nx hnm hk => hk.up (cO_mono (callLe hnm) (roundLe hnm) _ _ _ _)) hn
 refine ⟨max n m, ?_⟩
 show Sat s (orDone _ _ (cO P (ccallA P orc (cexA P orc (max n m))) (roundA (exA P orc (max n m))) is) d tm (ceff P tm h nx e)) _
 rw [hce]
 show Sat s (crThen (ccallA P orc (cexA P orc (max n m)) f args h1 nx1) _) _
 exact SatC.then ((h2.up (callLe (Nat.le_max_left n m) _ _ _ _)).mono fun v h nx hk => hk.up (cO_mono (callLe (Nat.le_max_right n m)) (roundLe (Nat.le_max_right n m)) _ _ _ _))
theorem Ov_call {d : Option Nat} {c : Nat} {f : FuncId} {args : List Co} {is : List CI} {tm : Tm} {h : Hp} {nx : Nat} {K : KS'}
  (hc : Cv P orc s f (cevs tm args) h nx (fun v h nx => Ov P orc s is (putT tm d v) h nx K)) : Ov P orc s (⟨none, d, c, .eff (.call f args)⟩ :: is) tm h nx K := Ov_call' rfl hc
theorem cOS_g {call : CallF} {round : RoundF} {t : Nat} {b : Bool} {d : Option Nat} {c : Nat} {k : CK} {ih : Tm → Hp → Nat → Out} {tm : Tm} {h : Hp} {nx : Nat} :
  cOS P call round ⟨some (t, b), d, c, k⟩ ih tm h nx = if boolIs b (tget tm t) = true then cOS P call round ⟨none, d, c, k⟩ ih tm h nx else ih (putT tm d undefV) h nx := by
 unfold cOS
 have h1 : cwant tm (some (t, b)) = boolIs b (tget tm t) := rfl
 have h2 : cwant tm none = true := rfl
 simp only [h1, h2]
 cases boolIs b (tget tm t) <;> simp
theorem Ov_g {t : Nat} {b : Bool} {d : Option Nat} {c : Nat} {k : CK} {is : List CI} {tm : Tm} {h : Hp} {nx : Nat} {K : KS'} : Ov P orc s (⟨some (t, b), d, c, k⟩ :: is) tm h nx K ↔ if boolIs b (tget tm t) = true then Ov P orc s (⟨none, d, c, k⟩ :: is) tm h nx K else Ov P orc s is (putT tm d undefV) h nx K := by
 have : ∀ n, cO P (ccallA P orc (cexA P orc n)) (roundA (exA P orc n)) (⟨some (t, b), d, c, k⟩ :: is) tm h nx = if boolIs b (tget tm t) = true then cO P (ccallA P orc (cexA P orc n)) (roundA (exA P orc n)) (⟨none, d, c, k⟩ :: is) tm h nx else cO P (ccallA P orc (cexA P orc n)) (roundA (exA P orc n)) is (putT tm d undefV) h nx := fun n => cOS_g
 unfold Ov
 simp only [this]
 by_cases hb : boolIs b (tget tm t) = true <;> simp [hb]
theorem Ov_nxt {d : Option Nat} {c : Nat} {x : Co} {is : List CI} {tm : Tm} {h : Hp} {nx : Nat} {K : KS'} {it r since st ck : Nat} {seen : List Nat} {es : List MapEntry}
  (hs : s = false) (hx : cev tm x = .pointer (some ⟨it, 0, none⟩)) (hi : hget h it = some (.iter (some r) since seen st)) (hm : hget h r = some (.map es ck)) (hn : nextOk seen es st = true)
  (hend : leftOf seen es = [] → Ov P orc s is (putT tm d (.tuple #[.bool false])) h nx K)
  (hgo : ∀ e ∈ leftOf seen es, e.born < since ∧ Ov P orc s is (putT tm d (.tuple #[.bool true, e.key, e.val])) (hset h it (.iter (some r) since (seen ++ [e.born]) ck)) nx K) :
  Ov P orc s (⟨none, d, c, .eff (.nxt x)⟩ :: is) tm h nx K := by
 have hce : ceff P tm h nx (.nxt x) = (match leftOf seen es with | [] => OR.val (.tuple #[.bool false]) h nx | l => nextAlt h nx it r since seen ck l) := by
  show oNext h nx (cev tm x) = _
  rw [hx]
  unfold oNext nextV
  simp only [show Nat.beq 0 0 = true from rfl, cond_true, hi, hm, hn]
  cases leftOf seen es <;> rfl
 cases hl : leftOf seen es with
 | nil =>
  rw [hl] at hce
  exact (Ov_eff hce).2 (hend hl)
 | cons e0 l0 =>
  rw [hl] at hce hgo
  have key : ∀ l : List MapEntry, l ≠ [] → (∀ e ∈ l, e.born < since ∧ Ov P orc s is (putT tm d (.tuple #[.bool true, e.key, e.val])) (hset h it (.iter (some r) since (seen ++ [e.born]) ck)) nx K) →
    ∃ n, Sat s (orDone (ccallA P orc (cexA P orc n)) (roundA (exA P orc n)) (cO P (ccallA P orc (cexA P orc n)) (roundA (exA P orc n)) is) d tm (nextAlt h nx it r since seen ck l)) (fun _ tm h nx => K tm h nx) := by
   intro l
   have one : ∀ e : MapEntry, (e.born < since ∧ Ov P orc s is (putT tm d (.tuple #[.bool true, e.key, e.val])) (hset h it (.iter (some r) since (seen ++ [e.born]) ck)) nx K) →
     ∃ n, Sat s (orDone (ccallA P orc (cexA P orc n)) (roundA (exA P orc n)) (cO P (ccallA P orc (cexA P orc n)) (roundA (exA P orc n)) is) d tm (next1 h nx it r since seen ck e)) (fun _ tm h nx => K tm h nx) := by
    intro e ⟨h1, n, hn⟩
    refine ⟨n, ?_⟩
    unfold next1
    rw [show Nat.blt e.born since = true by simpa [Nat.blt_eq] using h1, lapp_eq]
    exact hn
   induction l with
   | nil => intro h _; exact absurd rfl h
   | cons e l ih =>
    intro _ hl
    cases l with
    | nil => exact one e (hl e (by simp))
    | cons e1 l =>
     obtain ⟨n, h1⟩ := one e (hl e (by simp))
     obtain ⟨m, h2⟩ := ih (by simp) (fun e' he => hl e' (by simp at he ⊢; right; exact he))
     refine ⟨max n m, ?_⟩
     show Sat s (.alt _ _) _
     have up : ∀ a b r', a ≤ b → OLe (orDone (ccallA P orc (cexA P orc a)) (roundA (exA P orc a)) (cO P (ccallA P orc (cexA P orc a)) (roundA (exA P orc a)) is) d tm r') (orDone (ccallA P orc (cexA P orc b)) (roundA (exA P orc b)) (cO P (ccallA P orc (cexA P orc b)) (roundA (exA P orc b)) is) d tm r') :=
      fun a b r' hab => orDone_mono (callLe hab) (roundLe hab) (fun tm h nx => cO_mono (callLe hab) (roundLe hab) _ _ _ _) _ _ _
     exact sat_alt.2 ⟨hs, h1.up (up _ _ _ (Nat.le_max_left n m)), h2.up (up _ _ _ (Nat.le_max_right n m))⟩
  obtain ⟨n, hn⟩ := key (e0 :: l0) (by simp) hgo
  refine ⟨n, ?_⟩
  show Sat s (orDone _ _ (cO P (ccallA P orc (cexA P orc n)) (roundA (exA P orc n)) is) d tm (ceff P tm h nx (.nxt x))) _
  rw [hce]
  exact hn
theorem Ev.regD {l : List CI} {tm : Tm} {h : Hp} {nx : Nat} {K : KO'} (he : Dv P orc s l tm h nx h [] (K .normal)) : Ev P orc s (.regD l) tm h nx K := by
 obtain ⟨n, hn⟩ := he
 refine ⟨n + 1, ?_⟩
 show Sat s (cD P _ _ l tm h nx h []) K
 have hnorm : ∀ (l : List CI) tm h nx b hs, outSat (cD P (ccallA P orc (cexA P orc n)) (roundA (exA P orc n)) l tm h nx b hs) (fun _ _ _ _ => True) → outSat (cD P (ccallA P orc (cexA P orc n)) (roundA (exA P orc n)) l tm h nx b hs) (fun x _ _ _ => x = .normal) := by
  intro l
  induction l with
  | nil => intro tm h nx b hs _; rfl
  | cons i is ih =>
   intro tm h nx b hs
   show outSat (cDS P _ _ i _ tm h nx b hs) _ → outSat (cDS P _ _ i _ tm h nx b hs) _
   unfold cDS
   cases cwant tm i.g with
   | false =>
    show outSat (Bool.casesOn (isEffC i.k) _ _) _ → outSat (Bool.casesOn (isEffC i.k) _ _) _
    cases isEffC i.k <;> exact ih _ _ _ _ _
   | true =>
    cases i.k with
    | pur e =>
     show outSat (cD1 _ _ _ _ _ _ _ (cpur P tm e)) _ → outSat (cD1 _ _ _ _ _ _ _ (cpur P tm e)) _
     cases cpur P tm e with
     | no w => exact fun h => h
     | ok v => exact ih _ _ _ _ _
    | alc e =>
     show outSat (cD2 _ _ _ _ _ _ _ (calq P tm e)) _ → outSat (cD2 _ _ _ _ _ _ _ (calq P tm e)) _
     cases calq P tm e with
     | no w => exact fun h => h
     | ok v => exact ih _ _ _ _ _
    | red e =>
     show outSat (cD3 P _ _ _ _ _ _ _ _ _ (cred P tm b e)) _ → outSat (cD3 P _ _ _ _ _ _ _ _ _ (cred P tm b e)) _
     cases cred P tm b e with
     | no w => exact fun h => h
     | ok v =>
      show outSat (bif cagree P tm e v i.c hs then _ else _) _ → outSat (bif cagree P tm e v i.c hs then _ else _) _
      cases cagree P tm e v i.c hs with
      | false => exact fun h => h
      | true => exact ih _ _ _ _ _
    | eff e =>
     show outSat (cD4 _ _ _ _ _ _ (crOf _ _ (ceff P tm h nx e))) _ → outSat (cD4 _ _ _ _ _ _ (crOf _ _ (ceff P tm h nx e))) _
     cases crOf (ccallA P orc (cexA P orc n)) (roundA (exA P orc n)) (ceff P tm h nx e) with
     | no w => exact fun h => h
     | alt _ _ => exact fun h => h
     | ok v h' nx' =>
      show outSat (bif Nat.ble nx nx' then _ else _) _ → outSat (bif Nat.ble nx nx' then _ else _) _
      cases Nat.ble nx nx' with
      | false => exact fun h => h
      | true => exact ih _ _ _ _ _
 have h2 := hnorm l tm h nx h [] (outSat.mono (fun _ _ _ _ _ => trivial) hn.1)
 refine ⟨?_, hn.2⟩
 have both : ∀ t : Out, outSat t (fun x _ _ _ => x = .normal) → outSat t (fun _ tm h nx => K .normal tm h nx) → outSat t K := by
  intro t
  induction t with
  | ok x tm h nx => intro h1 h2; cases h1; exact h2
  | no w => exact fun h _ => h
  | alt a b iha ihb => exact fun h1 h2 => ⟨iha h1.1 h2.1, ihb h1.2 h2.2⟩
 exact both _ h2 hn.1
theorem Dv_nil {tm : Tm} {h : Hp} {nx : Nat} {b : Hp} {hs : List Hp} {K : KS'} : Dv P orc s [] tm h nx b hs K ↔ K tm h nx := by
 unfold Dv
 show (∃ n : Nat, Sat s (.ok .normal tm h nx) _) ↔ _
 rw [exc, sat_ok]
theorem Dv_pur {d : Option Nat} {c : Nat} {e : CP} {is : List CI} {tm : Tm} {h : Hp} {nx : Nat} {b : Hp} {hs : List Hp} {K : KS'} : Dv P orc s (⟨none, d, c, .pur e⟩ :: is) tm h nx b hs K ↔ RK (cpur P tm e) (fun v => Dv P orc s is (putT tm d v) h nx b hs K) := by
 unfold Dv
 show (∃ n, Sat s (cD1 (cD P (ccallA P orc (cexA P orc n)) (roundA (exA P orc n)) is) d tm h nx b hs (cpur P tm e)) _) ↔ _
 cases cpur P tm e with
 | ok v => exact Iff.rfl
 | no w => exact ⟨fun ⟨n, hn⟩ => sat_no.1 hn, fun h => h.elim⟩
theorem Dv_alc {d : Option Nat} {c : Nat} {e : CA} {is : List CI} {tm : Tm} {h : Hp} {nx : Nat} {b : Hp} {hs : List Hp} {K : KS'} : Dv P orc s (⟨none, d, c, .alc e⟩ :: is) tm h nx b hs K ↔ RK (calq P tm e) (fun x => Dv P orc s is (putT tm d (nbV nx x)) (hset h nx (nbO x)) (nx + 1) b hs K) := by
 unfold Dv
 show (∃ n, Sat s (cD2 (cD P (ccallA P orc (cexA P orc n)) (roundA (exA P orc n)) is) d tm h nx b hs (calq P tm e)) _) ↔ _
 cases calq P tm e with
 | ok v => exact Iff.rfl
 | no w => exact ⟨fun ⟨n, hn⟩ => sat_no.1 hn, fun h => h.elim⟩
theorem Dv_red {d : Option Nat} {c : Nat} {e : CRd} {is : List CI} {tm : Tm} {h : Hp} {nx : Nat} {b : Hp} {hs : List Hp} {K : KS'} : Dv P orc s (⟨none, d, c, .red e⟩ :: is) tm h nx b hs K ↔ RK (cred P tm b e) (fun v => cagree P tm e v c hs = true ∧ Dv P orc s is (putT tm d v) h nx b hs K) := by
 unfold Dv
 show (∃ n, Sat s (cD3 P (cD P (ccallA P orc (cexA P orc n)) (roundA (exA P orc n)) is) d c e tm h nx b hs (cred P tm b e)) _) ↔ _
 cases cred P tm b e with
 | no w => exact ⟨fun ⟨n, hn⟩ => sat_no.1 hn, fun h => h.elim⟩
 | ok v =>
  show (∃ n, Sat s (bif cagree P tm e v c hs then _ else _) _) ↔ (cagree P tm e v c hs = true ∧ _)
  cases cagree P tm e v c hs with
  | true => simp
  | false => simp [sat_no]
theorem Dv_st {d : Option Nat} {c n : Nat} {a x : Co} {is : List CI} {tm : Tm} {h : Hp} {nx : Nat} {b : Hp} {hs : List Hp} {K : KS'} : Dv P orc s (⟨none, d, c, .eff (.st n a x)⟩ :: is) tm h nx b hs K ↔ RK (addrR (cev tm a) (cSt h n (vcells (cev tm x)))) (fun h => Dv P orc s is (putT tm d undefV) h nx h (b :: hs) K) := by
 unfold Dv
 show (∃ m, Sat s (cD4 (cD P (ccallA P orc (cexA P orc m)) (roundA (exA P orc m)) is) d tm nx b hs (crOf (ccallA P orc (cexA P orc m)) (roundA (exA P orc m)) (uOf nx (addrR (cev tm a) (cSt h n (vcells (cev tm x))))))) _) ↔ _
 cases addrR (cev tm a) (cSt h n (vcells (cev tm x))) with
 | no w => exact ⟨fun ⟨n, hn⟩ => sat_no.1 hn, fun h => h.elim⟩
 | ok v =>
  show (∃ m, Sat s (bif Nat.ble nx nx then _ else _) _) ↔ _
  rw [show Nat.ble nx nx = true by simp]
  exact Iff.rfl
theorem Dv_eff {d : Option Nat} {c : Nat} {e : CE} {is : List CI} {tm : Tm} {h : Hp} {nx : Nat} {b : Hp} {hs : List Hp} {K : KS'} {v : Value} {h' : Hp} {nx' : Nat} (he : ceff P tm h nx e = .val v h' nx') (hle : nx ≤ nx')
  (hk : Dv P orc s is (putT tm d v) h' nx' h' (b :: hs) K) : Dv P orc s (⟨none, d, c, .eff e⟩ :: is) tm h nx b hs K := by
 obtain ⟨m, hm⟩ := hk
 refine ⟨m, ?_⟩
 show Sat s (cD4 _ d tm nx b hs (crOf _ _ (ceff P tm h nx e))) _
 rw [he]
 show Sat s (bif Nat.ble nx nx' then _ else _) _
 rw [show Nat.ble nx nx' = true by simpa using hle]
 exact hm
theorem Dv_call' {d : Option Nat} {c : Nat} {e : CE} {is : List CI} {tm : Tm} {h h1 : Hp} {nx nx1 : Nat} {b : Hp} {hs : List Hp} {K : KS'} {f : FuncId} {args : List Value} (hce : ceff P tm h nx e = .call f args h1 nx1)
  (hc : Cv P orc true f args h1 nx1 (fun v h nx' => nx ≤ nx' ∧ Dv P orc s is (putT tm d v) h nx' h (b :: hs) K)) : Dv P orc s (⟨none, d, c, .eff e⟩ :: is) tm h nx b hs K := by
 obtain ⟨n, hn⟩ := hc
 obtain ⟨v, h', nx', he⟩ := hn.2 rfl
 rw [he] at hn
 obtain ⟨hle, m, hm⟩ := satC_ok.1 hn
 refine ⟨max n m, ?_⟩
 show Sat s (cD4 _ d tm nx b hs (crOf (ccallA P orc (cexA P orc (max n m))) (roundA (exA P orc (max n m))) (ceff P tm h nx e))) _
 rw [hce]
 show Sat s (cD4 _ d tm nx b hs (ccallA P orc (cexA P orc (max n m)) f args h1 nx1)) _
 have := callLe (P := P) (orc := orc) (Nat.le_max_left n m) f args h1 nx1
 rw [he] at this
 rw [this.ok_eq]
 show Sat s (bif Nat.ble nx nx' then _ else _) _
 rw [show Nat.ble nx nx' = true by simpa using hle]
 exact hm.up (cD_mono (callLe (Nat.le_max_right n m)) (roundLe (Nat.le_max_right n m)) _ _ _ _ _ _)
theorem Dv_call {d : Option Nat} {c : Nat} {f : FuncId} {args : List Co} {is : List CI} {tm : Tm} {h : Hp} {nx : Nat} {b : Hp} {hs : List Hp} {K : KS'}
  (hc : Cv P orc true f (cevs tm args) h nx (fun v h nx' => nx ≤ nx' ∧ Dv P orc s is (putT tm d v) h nx' h (b :: hs) K)) : Dv P orc s (⟨none, d, c, .eff (.call f args)⟩ :: is) tm h nx b hs K := Dv_call' rfl hc
theorem cDS_g {call : CallF} {round : RoundF} {t : Nat} {w : Bool} {d : Option Nat} {c : Nat} {k : CK} {ih : KD} {tm : Tm} {h : Hp} {nx : Nat} {b : Hp} {hs : List Hp} :
  cDS P call round ⟨some (t, w), d, c, k⟩ ih tm h nx b hs = if boolIs w (tget tm t) = true then cDS P call round ⟨none, d, c, k⟩ ih tm h nx b hs else (if isEffC k = true then ih (putT tm d undefV) h nx h (b :: hs) else ih (putT tm d undefV) h nx b hs) := by
 unfold cDS
 have h1 : cwant tm (some (t, w)) = boolIs w (tget tm t) := rfl
 have h2 : cwant tm none = true := rfl
 simp only [h1, h2]
 cases boolIs w (tget tm t) <;> cases isEffC k <;> simp
theorem Dv_g {t : Nat} {w : Bool} {d : Option Nat} {c : Nat} {k : CK} {is : List CI} {tm : Tm} {h : Hp} {nx : Nat} {b : Hp} {hs : List Hp} {K : KS'} : Dv P orc s (⟨some (t, w), d, c, k⟩ :: is) tm h nx b hs K ↔
  if boolIs w (tget tm t) = true then Dv P orc s (⟨none, d, c, k⟩ :: is) tm h nx b hs K else (if isEffC k = true then Dv P orc s is (putT tm d undefV) h nx h (b :: hs) K else Dv P orc s is (putT tm d undefV) h nx b hs K) := by
 have : ∀ n, cD P (ccallA P orc (cexA P orc n)) (roundA (exA P orc n)) (⟨some (t, w), d, c, k⟩ :: is) tm h nx b hs = if boolIs w (tget tm t) = true then cD P (ccallA P orc (cexA P orc n)) (roundA (exA P orc n)) (⟨none, d, c, k⟩ :: is) tm h nx b hs else (if isEffC k = true then cD P (ccallA P orc (cexA P orc n)) (roundA (exA P orc n)) is (putT tm d undefV) h nx h (b :: hs) else cD P (ccallA P orc (cexA P orc n)) (roundA (exA P orc n)) is (putT tm d undefV) h nx b hs) := fun n => cDS_g
 unfold Dv
 simp only [this]
 by_cases hb : boolIs w (tget tm t) = true <;> by_cases he : isEffC k = true <;> simp [hb, he]
def retV (l : List Value) : Value := match l with | [v] => v | l => .tuple ⟨l⟩
def retK (P : Program) (rs : List ResultVar) (K : KC') : KO' := fun x tm h nx => match x with
 | .exit _ => False
 | _ => RK (resVs P tm h rs) (fun l => K (retV l) h nx)
theorem Cv.enter {f : FuncId} {cf : CF} {args : List Value} {h : Hp} {nx : Nat} {K : KC'} (ho : orc f = none) (hc : compAt P f = some cf) (he : Ev P orc s cf.body (setArgs args 0 tm0) h nx (retK P cf.res K)) : Cv P orc s f args h nx K := by
 obtain ⟨n, hn⟩ := he
 refine ⟨n, ?_⟩
 unfold ccallA
 rw [ho]
 show SatC s (Option.casesOn (compAt P f) _ _) K
 rw [hc]
 show SatC s (retA P cf.res (cexA P orc n none cf.body (setArgs args 0 tm0) h nx)) K
 refine Sat.thenC (hn.mono fun x tm h nx hk => ?_)
 have key : RK (resVs P tm h cf.res) (fun l => K (retV l) h nx) → SatC s (resOf h nx (resVs P tm h cf.res)) K := fun hk => by
  cases hr : resVs P tm h cf.res with
  | no w => rw [hr] at hk; exact hk.elim
  | ok l =>
   rw [hr] at hk
   have hk : K (retV l) h nx := hk
   match l with
   | [] => exact satC_ok.2 hk
   | [v] => exact satC_ok.2 hk
   | v :: w :: l => exact satC_ok.2 hk
 cases x with
 | normal => exact key hk
 | exit i => exact hk.elim
 | ret => exact key hk
theorem Cv.byOrc {f : FuncId} {g : List Value → Hp → Nat → CR} {args : List Value} {h : Hp} {nx : Nat} {K : KC'} (ho : orc f = some g) {v : Value} {h' : Hp} {nx' : Nat} (hg : g args h nx = .ok v h' nx') (hk : K v h' nx') : Cv P orc s f args h nx K := by
 refine ⟨0, ?_⟩
 unfold ccallA
 rw [ho]
 show SatC s (g args h nx) K
 rw [hg]; exact satC_ok.2 hk
end
section
variable {ρ ρ' : Rho}
mutual
theorem VR.back (hs : Sub ρ ρ') : ∀ {v c0 c : Value}, VR ρ v c0 → VR ρ' v c → VR ρ v c
 | _, _, _, .bool b, .bool _ => .bool b
 | _, _, _, .int k n, .int _ _ => .int k n
 | _, _, _, .string s, .string _ => .string s
 | _, _, _, .ptrNil, .ptrNil => .ptrNil
 | _, _, _, .ptr h, .ptr h' => by have e := hs _ _ h; rw [e] at h'; cases h'; exact .ptr h
 | _, _, _, .sliceNil l c, .sliceNil _ _ => .sliceNil l c
 | _, _, _, .sliceE h l c, .sliceE h' _ _ => by have e := hs _ _ h; rw [e] at h'; cases h'; exact .sliceE h l c
 | _, _, _, .sliceG h e0 l c, .sliceG h' e1 _ _ => by have e := hs _ _ h; rw [e] at h'; cases h'; exact .sliceG h e0 l c
 | _, _, _, .sliceZ b o g o' c, .sliceZ _ _ g2 o2 c2 => .sliceZ b o g2 o2 c2
 | _, _, _, .mapNil, .mapNil => .mapNil
 | _, _, _, .map h, .map h' => by have e := hs _ _ h; rw [e] at h'; cases h'; exact .map h
 | _, _, _, .nilFunc, .nilFunc => .nilFunc
 | _, _, _, .nilIface, .nilIface => .nilIface
 | _, _, _, .func f ha hb, .func _ ha' hb' => .func f (VRL.back hs ha ha') (VRL.back hs hb hb')
 | _, _, _, .yield h, .yield h' => by have e := hs _ _ h; rw [e] at h'; cases h'; exact .yield h
 | _, _, _, .iface t h, .iface _ h' => .iface t (VR.back hs h h')
 | _, _, _, .agg h, .agg h' => .agg (VRL.back hs h h')
 | _, _, _, .tuple h, .tuple h' => .tuple (VRL.back hs h h')
theorem VRL.back (hs : Sub ρ ρ') : ∀ {v c0 c : List Value}, VRL ρ v c0 → VRL ρ' v c → VRL ρ v c
 | _, _, _, .nil, .nil => .nil
 | _, _, _, .cons h t, .cons h' t' => .cons (VR.back hs h h') (VRL.back hs t t')
end
theorem CellsR.back (hs : Sub ρ ρ') {cs : List Value} {c c' : Array Value} {off : Nat} (h : CellsR ρ cs c off) (h' : CellsR ρ' cs c' off) : CellsR ρ cs c' off := fun i v e => by
 obtain ⟨_, _, h1⟩ := h i v e
 obtain ⟨v', e', h2⟩ := h' i v e
 exact ⟨v', e', VR.back hs h1 h2⟩
theorem EntR.back (hs : Sub ρ ρ') : ∀ {es es0 es' : List MapEntry}, EntR ρ es es0 → EntR ρ' es es' → EntR ρ es es'
 | _, _, _, .nil, .nil => .nil
 | _, _, _, .cons hk hv _ t, .cons hk' hv' hb' t' => .cons (VR.back hs hk hk') (VR.back hs hv hv') hb' (EntR.back hs t t')
theorem OptR.back (hs : Sub ρ ρ') {m m0 m' : Option Nat} (h : OptR ρ m m0) (h' : OptR ρ' m m') : OptR ρ m m' := by
 cases m with
 | none => cases m' <;> simp only [OptR] at *
 | some r =>
  cases m' with
  | none => simp only [OptR] at h'
  | some r' =>
   cases m0 with
   | none => simp only [OptR] at h
   | some r0 =>
    simp only [OptR] at h h' ⊢
    obtain ⟨q, hq, _⟩ := h
    obtain ⟨q', hq', e⟩ := h'
    rw [hs _ _ hq] at hq'; cases hq'
    exact ⟨q, hq, e⟩
theorem ObjR.back {B : Nat} (hs : Sub ρ ρ') {w w' : World} {p : Place} {o : AObj} (h : ObjR B ρ w p o) (h' : ObjR B ρ' w' p o) : ObjR B ρ w' p o := by
 cases o with
 | cells cs ro =>
  cases ro with
  | true =>
   obtain ⟨_, c, e, fr, _, h3⟩ := h
   obtain ⟨k1, c', e', fr', k2, k3⟩ := h'
   exact ⟨k1, c', e', fr', k2, h3.back hs k3⟩
  | false =>
   obtain ⟨_, _, c, e, lo, hi, _, _, h4, _⟩ := h
   obtain ⟨k1, k0, c', e', lo', hi', k2, k3, k4, k5⟩ := h'
   exact ⟨k1, k0, c', e', lo', hi', k2, k3, h4.back hs k4, k5⟩
 | map es ck =>
  obtain ⟨_, es', _, h3⟩ := h
  obtain ⟨k1, es2, k2, k3⟩ := h'
  exact ⟨k1, es2, k2, h3.back hs k3⟩
 | iter m since seen st =>
  obtain ⟨_, _, m', _, h3⟩ := h
  obtain ⟨k1, k0, m2, k2, k3⟩ := h'
  exact ⟨k1, k0, m2, k2, h3.back hs k3⟩
 | loop st pend tm ps a b =>
  obtain ⟨_, l, _, _, _, h5, _⟩ := h
  obtain ⟨k1, l2, k2, k3, k4, k5, k6⟩ := h'
  exact ⟨k1, l2, k2, k3, k4, fun d => VR.back hs (h5 d) (k5 d), k6⟩
end
section
variable {B : Nat} {ρ ρ' : Rho} {H H' : AH} {w w' : World} {nx nx' : Nat}
end
section
variable {P : Program} {orc0 : Orc}
end
section
variable {P : Program} {orc : Orc} {s : Bool}
@[simp] theorem cev_t (tm : Tm) (n : Nat) : cev tm (.t n) = tget tm n := rfl
@[simp] theorem cev_v (tm : Tm) (x : Value) : cev tm (.v x) = x := rfl
@[simp] theorem cevs_nil (tm : Tm) : cevs tm [] = [] := rfl
@[simp] theorem cevs_cons (tm : Tm) (x : Co) (l : List Co) : cevs tm (x :: l) = cev tm x :: cevs tm l := rfl
@[simp] theorem putT_some (tm : Tm) (d : Nat) (v : Value) : putT tm (some d) v = tset tm d v := rfl
@[simp] theorem putT_none (tm : Tm) (v : Value) : putT tm none v = tm := rfl
@[simp] theorem tgs (tm : Tm) (t : Nat) (v : Value) (k : Nat) : tget (tset tm t v) k = if k = t then v else tget tm k := tget_tset tm t v k
@[simp] theorem hgs (h : Hp) (b : Nat) (o : AObj) (k : Nat) : hget (hset h b o) k = if k = b then some o else hget h k := hget_hset h b o k
@[simp] theorem setArgs_nil (i : Nat) (tm : Tm) : setArgs [] i tm = tm := rfl
@[simp] theorem setArgs_cons (v : Value) (l : List Value) (i : Nat) (tm : Tm) : setArgs (v :: l) i tm = setArgs l (i + 1) (tset tm i v) := rfl
@[simp] theorem nextK_normal (N : KS') (K : KO') (tm : Tm) (h : Hp) (nx : Nat) : nextK N K .normal tm h nx ↔ N tm h nx := Iff.rfl
@[simp] theorem nextK_exit (N : KS') (K : KO') (i : Nat) (tm : Tm) (h : Hp) (nx : Nat) : nextK N K (.exit i) tm h nx ↔ K (.exit i) tm h nx := Iff.rfl
@[simp] theorem nextK_ret (N : KS') (K : KO') (tm : Tm) (h : Hp) (nx : Nat) : nextK N K .ret tm h nx ↔ K .ret tm h nx := Iff.rfl
@[simp] theorem blkK_normal (id : Nat) (K : KO') (tm : Tm) (h : Hp) (nx : Nat) : blkK id K .normal tm h nx ↔ K .normal tm h nx := Iff.rfl
@[simp] theorem blkK_ret (id : Nat) (K : KO') (tm : Tm) (h : Hp) (nx : Nat) : blkK id K .ret tm h nx ↔ K .ret tm h nx := Iff.rfl
@[simp] theorem blkK_exit (id i : Nat) (K : KO') (tm : Tm) (h : Hp) (nx : Nat) : blkK id K (.exit i) tm h nx ↔ if i = id then K .normal tm h nx else K (.exit i) tm h nx := Iff.rfl
@[simp] theorem retK_normal (rs : List ResultVar) (K : KC') (tm : Tm) (h : Hp) (nx : Nat) : retK P rs K .normal tm h nx ↔ RK (resVs P tm h rs) (fun l => K (retV l) h nx) := Iff.rfl
@[simp] theorem retK_ret (rs : List ResultVar) (K : KC') (tm : Tm) (h : Hp) (nx : Nat) : retK P rs K .ret tm h nx ↔ RK (resVs P tm h rs) (fun l => K (retV l) h nx) := Iff.rfl
@[simp] theorem resVs_nil (tm : Tm) (h : Hp) : resVs P tm h [] = .ok [] := rfl
@[simp] theorem resVs_tmp (tm : Tm) (h : Hp) (t : Nat) (rs : List ResultVar) : resVs P tm h (.tmp t :: rs) = R.bind (resVs P tm h rs) (fun vs => .ok (tget tm t :: vs)) := rfl
@[simp] theorem bind_ok {α β : Type} (x : α) (f : α → R β) : R.bind (.ok x) f = f x := rfl
@[simp] theorem bind_no {α β : Type} (w : String) (f : α → R β) : R.bind (.no w) f = .no w := rfl
@[simp] theorem of_some {α β : Type} (w : String) (x : α) (f : α → R β) : R.of w (some x) f = f x := rfl
@[simp] theorem of_none {α β : Type} (w : String) (f : α → R β) : R.of w none f = .no w := rfl
@[simp] theorem retV_one (v : Value) : retV [v] = v := rfl
@[simp] theorem retV_two (v w : Value) (l : List Value) : retV (v :: w :: l) = .tuple ⟨v :: w :: l⟩ := rfl
@[simp] theorem c_mv (tm : Tm) (x : Co) : cpur P tm (.mv x) = .ok (cev tm x) := rfl
@[simp] theorem c_bin (tm : Tm) (op : BinOp) (t : TypeId) (x y : Co) : cpur P tm (.bin op t x y) = bin P op t (cev tm x) (cev tm y) := rfl
@[simp] theorem c_un (tm : Tm) (op : UnOp) (x : Co) : cpur P tm (.un op x) = oUn op (cev tm x) := rfl
@[simp] theorem c_conv (tm : Tm) (d : TypeDesc) (x : Co) : cpur P tm (.conv d x) = oConv d (cev tm x) := rfl
@[simp] theorem c_pick (tm : Tm) (c a b : Co) : cpur P tm (.pick c a b) = cPick tm a b (cev tm c) := rfl
@[simp] theorem cPick_bool (tm : Tm) (a b : Co) (t : Bool) : cPick tm a b (.bool t) = .ok (if t = true then cev tm a else cev tm b) := by cases t <;> rfl
@[simp] theorem c_fld (tm : Tm) (off : Nat) (ag : Option Nat) (x : Co) : cpur P tm (.fld off ag x) = cFld off ag (cev tm x) := rfl
@[simp] theorem cFld_agg (off : Nat) (ag : Option Nat) (l : List Value) : cFld off ag (.agg ⟨l⟩) = loadC ag off l := rfl
@[simp] theorem c_fldA (tm : Tm) (off : Nat) (x : Co) : cpur P tm (.fldA off x) = addrR (cev tm x) (fun a => .ok (moveA a off)) := rfl
@[simp] theorem addrR_ptr {β : Type} (a : Addr) (k : Addr → R β) : addrR (.pointer (some a)) k = k a := rfl
@[simp] theorem moveA_eq (b o : Nat) (sp : Option Nat) (n : Nat) : moveA ⟨b, o, sp⟩ n = .pointer (some ⟨b, o + n, none⟩) := rfl
@[simp] theorem c_nilc (tm : Tm) (x : Co) : cpur P tm (.nilc x) = nilChk (cev tm x) := rfl
@[simp] theorem nilChk_ptr (a : Addr) : nilChk (.pointer (some a)) = .ok (.pointer (some a)) := rfl
@[simp] theorem c_ext (tm : Tm) (x : Co) (i : Nat) : cpur P tm (.ext x i) = oExtract (cev tm x) i := rfl
@[simp] theorem oExtract_tuple (l : List Value) (i : Nat) : oExtract (.tuple ⟨l⟩) i = R.of "extract" (l[i]?) (fun v => .ok v) := by show R.of "extract" (lget l i) _ = _; rw [lget_eq]
@[simp] theorem c_ixA (tm : Tm) (k : IxT) (x i : Co) : cpur P tm (.ixA k x i) = natR (cev tm i) (fun i => oIndexAddr k (cev tm x) i) := rfl
@[simp] theorem natR_nat {β : Type} (k : IntKind) (n : Nat) (f : Nat → R β) : natR (.int k (n : Int)) f = f n := rfl
@[simp] theorem natR_ofNat {β : Type} (k : IntKind) (n : Nat) (f : Nat → R β) : natR (.int k (.ofNat n)) f = f n := rfl
@[simp] theorem natR_lit {β : Type} (k : IntKind) (n : Nat) (f : Nat → R β) : natR (.int k (OfNat.ofNat n : Int)) f = f n := rfl
@[simp] theorem natR_zero {β : Type} (k : IntKind) (f : Nat → R β) : natR (.int k 0) f = f 0 := rfl
@[simp] theorem natR_one {β : Type} (k : IntKind) (f : Nat → R β) : natR (.int k 1) f = f 1 := rfl
@[simp] theorem oIx_slice (s : Nat) (b o : Nat) (sp : Option Nat) (len cap i : Nat) : oIndexAddr (.slice s) (.slice (some ⟨b, o, sp⟩) len cap) i = if i < len then .ok (.pointer (some ⟨b, o + i * s, none⟩)) else .no "index" := by
 show (bif Nat.blt i len then _ else _) = _
 rw [blt_dec]
 by_cases h : i < len <;> simp [h] <;> rfl
@[simp] theorem oIx_array (n s : Nat) (b o : Nat) (sp : Option Nat) (i : Nat) : oIndexAddr (.array n s) (.pointer (some ⟨b, o, sp⟩)) i = if i < n then .ok (.pointer (some ⟨b, o + i * s, none⟩)) else .no "index" := by
 show (bif Nat.blt i n then _ else _) = _
 rw [blt_dec]
 by_cases h : i < n <;> simp [h] <;> rfl
theorem bin_i (op : BinOp) (t : TypeId) (k : IntKind) (a b : Int) (hs : isShift op = false) : bin P op t (.int k a) (.int k b) = iOp op k a b := bin_int hs (keq_self k)
@[simp] theorem bin_add (t : TypeId) (k : IntKind) (a b : Int) : bin P .add t (.int k a) (.int k b) = .ok (.int k (k.wrap (a + b))) := by rw [bin_i _ _ _ _ _ rfl, ← fwrap_eq]; rfl
@[simp] theorem bin_sub (t : TypeId) (k : IntKind) (a b : Int) : bin P .sub t (.int k a) (.int k b) = .ok (.int k (k.wrap (a - b))) := by rw [bin_i _ _ _ _ _ rfl, ← fwrap_eq]; rfl
@[simp] theorem bin_lss (t : TypeId) (k : IntKind) (a b : Int) : bin P .lss t (.int k a) (.int k b) = .ok (.bool (decide (a < b))) := by rw [bin_i _ _ _ _ _ rfl, ← iblt_dec]; rfl
@[simp] theorem bin_leq (t : TypeId) (k : IntKind) (a b : Int) : bin P .leq t (.int k a) (.int k b) = .ok (.bool (!decide (b < a))) := by rw [bin_i _ _ _ _ _ rfl, ← iblt_dec]; rfl
@[simp] theorem bin_gtr (t : TypeId) (k : IntKind) (a b : Int) : bin P .gtr t (.int k a) (.int k b) = .ok (.bool (decide (b < a))) := by rw [bin_i _ _ _ _ _ rfl, ← iblt_dec]; rfl
@[simp] theorem bin_geq (t : TypeId) (k : IntKind) (a b : Int) : bin P .geq t (.int k a) (.int k b) = .ok (.bool (!decide (a < b))) := by rw [bin_i _ _ _ _ _ rfl, ← iblt_dec]; rfl
@[simp] theorem bin_eql (t : TypeId) (k : IntKind) (a b : Int) : bin P .eql t (.int k a) (.int k b) = .ok (.bool (a == b)) := by rw [bin_i _ _ _ _ _ rfl, ← ieq_beq]; rfl
@[simp] theorem bin_neq (t : TypeId) (k : IntKind) (a b : Int) : bin P .neq t (.int k a) (.int k b) = .ok (.bool (!(a == b))) := by rw [bin_i _ _ _ _ _ rfl, ← ieq_beq]; rfl
@[simp] theorem un_not (b : Bool) : oUn .not (.bool b) = .ok (.bool (!b)) := rfl
@[simp] theorem conv_int (k k' : IntKind) (n : Int) : oConv (.int k') (.int k n) = .ok (.int k' (k'.wrap n)) := by rw [← fwrap_eq]; rfl
theorem bin_ptr_neq {t : TypeId} {x : Addr} (ht : isPtrTy P t = true) : bin P .neq t (.pointer (some x)) (.pointer none) = .ok (.bool true) := by
 show R.of "compared" (eqlV P t (.pointer (some x)) (.pointer none)) _ = _
 unfold eqlV
 simp [ht, eqlP, rBool]
theorem bin_ptr_eql {t : TypeId} {x : Addr} (ht : isPtrTy P t = true) : bin P .eql t (.pointer (some x)) (.pointer none) = .ok (.bool false) := by
 show R.of "compared" (eqlV P t (.pointer (some x)) (.pointer none)) _ = _
 unfold eqlV
 simp [ht, eqlP, rBool]
@[simp] theorem c_ld (tm : Tm) (h : Hp) (ag : Option Nat) (x : Co) : cred P tm h (.ld ag x) = addrR (cev tm x) (fun a => cellsOf h a.block (fun cs _ => loadC ag a.off cs)) := rfl
@[simp] theorem c_lens (tm : Tm) (h : Hp) (x : Co) : cred P tm h (.lens x) = lenS (cev tm x) := rfl
@[simp] theorem lenS_slice (a : Option Addr) (n c : Nat) : lenS (.slice a n c) = .ok (.int .i64 (n : Int)) := rfl
@[simp] theorem c_entry (tm : Tm) (h : Hp) (x : Co) : cred P tm h (.entry x) = oEntry h (cev tm x) := rfl
theorem cellsOf_some {β : Type} {h : Hp} {b : Nat} {cs : List Value} {ro : Bool} (hh : hget h b = some (.cells cs ro)) (k : List Value → Bool → R β) : cellsOf h b k = k cs ro := by unfold cellsOf; rw [hh]
@[simp] theorem loadC_one (off : Nat) (cs : List Value) : loadC none off cs = ofGet (cs[off]?) := by show ofGet (lget cs off) = _; rw [lget_eq]
@[simp] theorem ofGet_some (v : Value) : ofGet (some v) = .ok v := rfl
@[simp] theorem ofGet_none : ofGet none = .no "load - out of block" := rfl
@[simp] theorem loadC_many (n off : Nat) (cs : List Value) : loadC (some n) off cs = if n ≤ cs.length - off then .ok (.agg ⟨(cs.drop off).take n⟩) else .no "load - out of block" := by
 show ofCut (lcut n (ldrop cs off)) = _
 rw [ldrop_eq, lcut_eq, List.length_drop]
 by_cases h : n ≤ cs.length - off <;> simp [h, ofCut]
end
end Go.Ax
