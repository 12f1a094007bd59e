/- H: part 4 of an engine (a symbolic evaluator, proved against the model) and of the walk by it. -/
import Derived.Test.YtbeiehggdcpdbaaGreatH3
import Derived.OpenShut
import Derived.WideShapes
import Derived.ChangeSlices
import Derived.WalkKit
import Derived.ProofKit
import Derived.Below
import Derived.Handed
import Derived.Carry
set_option linter.unusedVariables false
set_option linter.unusedSimpArgs false
set_option maxRecDepth 100000
set_option maxHeartbeats 0
section
namespace Go.Tk
open IntKind (i64 u8 u32 u64 wrap)
def Spec (P : Program) (f : FuncId) (args : List AV) (h0 : Z7) (o : Out) (nx : Nat) (bs : List (Nat × Blk)) : Prop :=
 ∀ (E : Env) (w : World) (rs : List Value), Emb E h0 w → ZG E args rs → Calls P f rs.toArray w fun e w' => ∃ E', Evo E h0 w E' ⟨nx, bs⟩ w' ∧ Qw E' o e
theorem Z92 {k : Nat} {τ : Ren} {v u : AV} {nx : Nat} {bs : List (Nat × Blk)} {h0 h : Z7} (hk : k = h0.next) (hl : ZZ k τ ⟨1, [(0, v)], ⟨nx, bs⟩, []⟩ ⟨1, [(0, u)], h, []⟩ True) {E0 E : Env} {w0 w : World} {r : Value}
  (he0 : Emb E0 h0 w0) (hev : Evo E0 h0 w0 E h w) (hr : Zi E u r) : ∃ E', Evo E0 h0 w0 E' ⟨nx, bs⟩ w ∧ Zi E' v r := by
 obtain ⟨_, hw⟩ := Y8 hl
 have hs : Vf E ⟨1, [(0, u)], h, []⟩ { tmps := #[r], defers := [] } w := by
  refine ⟨hev.emb, ⟨rfl, fun x v' hx => ?_⟩, .nil⟩
  simp only [ZV] at hx
  split at hx
  ·rename_i hb
   have := Nat.eq_of_beq_eq_true hb
   subst this
   cases hx
   exact hr
  ·cases hx
 obtain ⟨E₂, hs2, hev2⟩ := hw E0 h0 w0 E _ w (fun x hx => he0.fresh x (hk ▸ hx)) hs hev
 refine ⟨E₂, hev2, ?_⟩
 have := hs2.tmps.get 0 v (by simp [ZV])
 simpa using this
def mvN : List Nat → Nat → Nat → Nat
 | [], d, y => d + y
 | x :: _, _, 0 => x
 | _ :: r, d, y + 1 => mvN r d y
theorem Z7P : ∀ {σ : List Nat} {d y x : Nat}, Xp σ y = some x → mvN σ d y = x
 | [], _, _, _, h => by simp [Xp] at h
 | x :: r, d, 0, _, h => by simpa [Xp, mvN] using h
 | x :: r, d, y + 1, _, h => Z7P (σ := r) h
theorem Z7Q : ∀ {σ : List Nat} {d y : Nat}, σ.length ≤ y → mvN σ d y = d + (y - σ.length)
 | [], d, y, _ => by simp [mvN]
 | x :: r, d, 0, h => by simp at h
 | x :: r, d, y + 1, h => by
  simp at h
  have := Z7Q (σ := r) (d := d) h
  simp [mvN, this]
theorem QL : ∀ {σ : List Nat} {y : Nat}, y < σ.length → ∃ x, Xp σ y = some x
 | [], _, h => by simp at h
 | x :: r, 0, _ => ⟨x, rfl⟩
 | x :: r, y + 1, h => QL (σ := r) (by simpa using h)
mutual
/-- Names moved. -/
def mvV (σ : List Nat) (d : Nat) : AV → Option AV
 | .top => some .top
 | .bool b => some (.bool b)
 | .int k n => some (.int k n)
 | .str s => some (.str s)
 | .ptr none => some (.ptr none)
 | .ptr (some p) => some (.ptr (some ⟨mvN σ d p.blk, p.row, p.sz, p.off, p.inn⟩))
 | .nslice p esz len lo => some (.nslice ⟨mvN σ d p.blk, p.row, p.sz, p.off, p.inn⟩ esz len lo)
 | .eslice => some .eslice
 | .fslice => some .fslice
 | .nilslice => some .nilslice
 | .map none => some (.map none)
 | .map (some x) => some (.map (some (mvN σ d x)))
 | .nilFunc => some .nilFunc
 | .nilIface => some .nilIface
 | .func (.func g) fs cs => match mvL σ d fs, mvL σ d cs with
  | some fs', some cs' => some (.func (.func g) fs' cs')
  | _, _ => none
 | .iface t v => match mvV σ d v with | some v' => some (.iface t v') | none => none
 | .agg cs => match mvC σ d cs with | some cs' => some (.agg cs') | none => none
 | .tuple vs => match mvL σ d vs with | some vs' => some (.tuple vs') | none => none
 | _ => none
def mvC (σ : List Nat) (d : Nat) : List AV → Option (List AV)
 | [] => some []
 | .arr k n xs :: r => match mvC σ d r with | some r' => some (.arr k n xs :: r') | none => none
 | v :: r => match mvV σ d v, mvC σ d r with
  | some v', some r' => match v'.isCell with | true => some (v' :: r') | false => none
  | _, _ => none
def mvL (σ : List Nat) (d : Nat) : List AV → Option (List AV)
 | [] => some []
 | v :: r => match mvV σ d v, mvL σ d r with
  | some v', some r' => some (v' :: r')
  | _, _ => none
end
theorem UV {v : AV} (h : v.isCell = true) (r : List AV) : csz (v :: r) = 1 + csz r := by
 cases v <;> simp_all [AV.isCell, csz]
set_option maxHeartbeats 1000000 in
mutual
theorem Z2P {σ : List Nat} {d : Nat} {E E' : Env} (hb : ∀ x r, E.blk x = some r → E'.blk (mvN σ d x) = some r) : ∀ (v v' : AV) (r : Value), mvV σ d v = some v' → Zi E v r → Zi E' v' r := by
 intro v v' r h hv
 unfold mvV at h
 split at h
 ·cases h; exact .top r
 ·cases h; exact hv.plain rfl
 ·cases h; exact hv.plain rfl
 ·cases h; exact hv.plain rfl
 ·cases h; exact hv.plain rfl
 ·cases h
  cases hv with
  | ptr p b N hq => exact .ptr ⟨mvN σ d _, _, _, _, _⟩ b N (hb _ _ hq)
 ·cases h
  cases hv with
  | nslice0 p esz len lo a h1 h2 => exact .nslice0 _ _ _ _ a h1 h2
  | nslice p esz len lo b N cap hq h1 h2 h3 => exact .nslice ⟨mvN σ d _, _, _, _, _⟩ _ _ _ b N cap (hb _ _ hq) h1 h2 h3
 ·cases h; exact hv.plain rfl
 ·cases h; exact hv.plain rfl
 ·cases h; exact hv.plain rfl
 ·cases h; exact hv.plain rfl
 ·cases h
  cases hv with
  | map x b N hq => exact .map _ b N (hb _ _ hq)
 ·cases h; exact hv.plain rfl
 ·cases h; exact hv.plain rfl
 ·split at h
  ·rename_i fs' cs' h1 h2
   cases h
   cases hv with
   | func fn first captured fs cs ha hc => exact .func _ _ _ _ _ (Z5a hb _ _ _ h1 ha) (Z5a hb _ _ _ h2 hc)
  ·cases h
 ·split at h
  ·rename_i v1 h1
   cases h
   cases hv with
   | iface t v x hx => exact .iface _ _ _ (Z2P hb _ _ _ h1 hx)
  ·cases h
 ·split at h
  ·rename_i cs' h1
   cases h
   cases hv with
   | agg cs vs hc => exact .agg _ _ (Z59 hb _ _ _ h1 hc).1
  ·cases h
 ·split at h
  ·rename_i vs' h1
   cases h
   cases hv with
   | tuple vs rs hc => exact .tuple _ _ (Z5a hb _ _ _ h1 hc)
  ·cases h
 ·cases h
theorem Z59 {σ : List Nat} {d : Nat} {E E' : Env} (hb : ∀ x r, E.blk x = some r → E'.blk (mvN σ d x) = some r) : ∀ (l l' : List AV) (r : List Value), mvC σ d l = some l' → Zy E l r → Zy E' l' r ∧ csz l' = csz l := by
 intro l l' r h hv
 unfold mvC at h
 split at h
 ·cases h; cases hv; exact ⟨.nil, rfl⟩
 ·split at h
  ·rename_i r' h1
   cases h
   obtain ⟨ws, rfl, ht⟩ := Zy.cons_arr hv
   have := Z59 hb _ _ _ h1 ht
   exact ⟨.arr _ _ _ _ _ this.1, by simp [csz, this.2]⟩
  ·cases h
 ·rename_i v r2 hna
  split at h
  ·rename_i v1 r1 h1 h2
   split at h
   ·rename_i hcell
    cases h
    obtain ⟨c, ws, rfl, q1, q2, q3, q4⟩ := Zy.cons_cell hv (fun k m xs e => hna k m xs e)
    have := Z59 hb _ _ _ h2 q4
    exact ⟨.one _ _ _ _ hcell q2 (Z2P hb _ _ _ h1 q3) this.1, by rw [UV hcell, UV q1, this.2]⟩
   ·cases h
  ·cases h
theorem Z5a {σ : List Nat} {d : Nat} {E E' : Env} (hb : ∀ x r, E.blk x = some r → E'.blk (mvN σ d x) = some r) : ∀ (l l' : List AV) (r : List Value), mvL σ d l = some l' → ZG E l r → ZG E' l' r := by
 intro l l' r h hv
 unfold mvL at h
 split at h
 ·cases h; cases hv; exact .nil
 ·split at h
  ·rename_i v1 r1 h1 h2
   cases h
   cases hv with
   | cons v c vs cs ha hc => exact .cons _ _ _ _ (Z2P hb _ _ _ h1 ha) (Z5a hb _ _ _ h2 hc)
  ·cases h
end
theorem ZdY {σ : List Nat} {d : Nat} : ∀ (l l' : List AV), mvC σ d l = some l' → csz l' = csz l := by
 intro l
 induction l with
 | nil => intro l' h; unfold mvC at h; cases h; rfl
 | cons v r ih =>
  intro l' h
  unfold mvC at h
  split at h
  ·rename_i hq; cases hq
  ·rename_i hq
   cases hq
   split at h
   ·rename_i r' h1
    cases h
    simp [csz, ih _ h1]
   ·cases h
  ·rename_i hna hq
   cases hq
   split at h
   ·rename_i v1 r1 h1 h2
    split at h
    ·rename_i hcell
     cases h
     have hv : v.isCell = true ∨ v.isCell = false := by cases v.isCell <;> simp
     rcases hv with hv | hv
     ·rw [UV hcell, UV hv, ih _ h2]
     ·cases v with
      | arr k n xs => exact absurd rfl (hna k n xs)
      | agg cs => unfold mvV at h1; split at h1 <;> cases h1; simp [AV.isCell] at hcell
      | tuple cs => unfold mvV at h1; split at h1 <;> cases h1; simp [AV.isCell] at hcell
      | _ => simp [AV.isCell] at hv
    ·cases h
   ·cases h
inductive MvB (σ : List Nat) (d : Nat) : Blk → Blk → Prop
 | ints (k : IntKind) (xs : List Int) : MvB σ d (.ints k xs) (.ints k xs)
 | flat (cs cs' : List AV) (h : mvC σ d cs = some cs') : MvB σ d (.flat cs) (.flat cs')
 | rows (sz n : Nat) (f : Nat → List AV) (h : ∀ i, i < n → plainC (f i) = true) : MvB σ d (.rows sz n f) (.rows sz n f)
inductive Z7R (σ : List Nat) (d : Nat) : List (Nat × Blk) → List (Nat × Blk) → Prop
 | nil : Z7R σ d [] []
 | cons (y x : Nat) (B B' : Blk) (r r' : List (Nat × Blk)) (hx : mvN σ d y = x) (h : MvB σ d B B') (t : Z7R σ d r r') : Z7R σ d ((y, B) :: r) ((x, B') :: r')
inductive MvO (σ : List Nat) (d : Nat) : Out → Out → Prop
 | ret (v v' : AV) (h : mvV σ d v = some v') : MvO σ d (.ret v) (.ret v')
 | panic (v v' : AV) (h : mvV σ d v = some v') : MvO σ d (.panic v) (.panic v')
theorem Z7R.get {σ : List Nat} {d : Nat} : ∀ {bs bs' : List (Nat × Blk)}, Z7R σ d bs bs' → ∀ x B', ZT bs' x = some B' → ∃ y B, mvN σ d y = x ∧ ZT bs y = some B ∧ MvB σ d B B'
 | _, _, .nil, x, B', h => by simp [ZT] at h
 | _, _, .cons y x0 B B0 r r' hx hm t, x, B', h => by
  unfold ZT at h
  split at h
  ·rename_i hb
   have := Nat.eq_of_beq_eq_true hb
   cases h
   exact ⟨y, B, hx.trans this, by simp [ZT, Nat.beq_refl], hm⟩
  ·rename_i hb
   obtain ⟨z, C, h1, h2, h3⟩ := t.get x B' h
   refine ⟨z, C, h1, ?_, h3⟩
   have hne : y ≠ z := fun e => by subst e; rw [hx] at h1; subst h1; simp [Nat.beq_refl] at hb
   simp [ZT, Zv hne, h2]
theorem MvB.move {σ : List Nat} {d : Nat} {B B' : Blk} (hm : MvB σ d B B') {E E' : Env} {w : World} {y : Nat} (hb : ∀ x r, E.blk x = some r → E'.blk (mvN σ d x) = some r) (hn : E.blk y = none → E'.blk (mvN σ d y) = none) (h : YB E w y B) : YB E' w (mvN σ d y) B' := by
 cases hm with
 | ints k xs => cases h with
  | ints0 k xs h0 hq => exact .ints0 _ _ h0 (hn hq)
  | ints k xs b cells elem fr hq hw hf hv => exact .ints _ _ b cells elem fr (hb _ _ hq) hw hf hv
 | flat cs cs' hc => cases h with
  | flat0 cs h0 hq => exact .flat0 _ ((ZdY _ _ hc).trans h0) (hn hq)
  | flat cs b cells elem fr vs hq hw hf hcr hv => exact .flat _ b cells elem fr vs (hb _ _ hq) hw hf (Z59 hb _ _ _ hc hcr).1 hv
 | rows sz n f hp => cases h with
  | rows0 sz n f h0 hq => exact .rows0 _ _ _ h0 (hn hq)
  | rows sz n f b cells elem fr g hq hw hf hcr hl hv => exact .rows _ _ _ b cells elem fr g (hb _ _ hq) hw hf (fun i hi => (hcr i hi).plain (hp i hi)) hl hv
def UW (σ : List Nat) (bs : List (Nat × Blk)) : List (Nat × Blk) := match σ with
 | [] => bs
 | x :: r => UW r (XO bs x)
theorem Z1h : ∀ {σ : List Nat} {bs : List (Nat × Blk)} {x : Nat} {B : Blk}, ZT (UW σ bs) x = some B → ZT bs x = some B ∧ x ∉ σ
 | [], bs, x, B, h => ⟨h, by simp⟩
 | y :: r, bs, x, B, h => by
  obtain ⟨h1, h2⟩ := Z1h (σ := r) h
  by_cases hn : y = x
  ·subst hn; rw [Q8] at h1; cases h1
  ·rw [Ww _ _ _ hn] at h1
   exact ⟨h1, by simp [h2, Ne.symm hn]⟩
theorem Spec.calls {P : Program} {f : FuncId} {args₀ args : List AV} {σ : List Nat} {Bs : List Blk} {o o' : Out} {nx : Nat} {bs bs' : List (Nat × Blk)} {h : Z7} {K : KO} (hc : Spec P f args₀ ⟨σ.length, We 0 σ Bs⟩ o nx bs)
  (hlen : Bs.length = σ.length) (hm : ∀ x, x ∈ σ → ∃ B, h.get x = some B) (hd : Z1g σ = true)
  (hx : ∀ (i x : Nat) (B : Blk), Xp σ i = some x → Bs[i]? = some B → ∃ B', h.get x = some B' ∧ ∀ (E : Env) (w : World), Emb E h w → YB E w x B' → YB (E.borL σ w true) w i B)
  (ha : ∀ (E : Env) (w : World) (r : List Value), Emb E h w → ZG E args r → ZG (E.borL σ w true) args₀ r)
  (hnx : σ.length ≤ nx) (ho : MvO σ h.next o o') (hb : Z7R σ h.next bs bs') (hK : K o' ⟨h.next + (nx - σ.length), Uu bs' (UW σ h.bs)⟩) : Zk P f args h K := by
 intro E w rs he hr
 let E0 := E.borL σ w true
 have hsub : ∀ i x, Xp σ i = some x → E0.blk i = E.blk x := fun i x hi => by
  show (match Xp σ i with | some x => E.blk x | none => none) = _
  rw [hi]
 have hnone : ∀ i, σ.length ≤ i → E0.blk i = none := fun i hi => by
  show (match Xp σ i with | some x => E.blk x | none => none) = _
  rw [Z8Z hi]
 have hσlt : ∀ x, x ∈ σ → x < h.next := fun x hx => let ⟨B, hB⟩ := hm x hx; he.lt x B hB
 have hsb : ∀ y B, ZT (We 0 σ Bs) y = some B → ∃ x, Xp σ y = some x ∧ Bs[y]? = some B := fun y B hy => by
  obtain ⟨i, x, rfl, h1, h2⟩ := XS σ Bs 0 y B hy
  rw [Nat.zero_add]
  exact ⟨x, by rw [Z2O]; exact h1, h2⟩
 have hinj : ∀ y z x, Xp σ y = some x → Xp σ z = some x → y = z := fun y z x h1 h2 => by
  have a := Ux hd y x h1
  have b := Ux hd z x h2
  rw [a] at b
  cases b
  rfl
 have hemb : Emb E0 ⟨σ.length, We 0 σ Bs⟩ w := by
  refine ⟨hnone, ?_, ?_, ?_, fun _ _ h => h.1, ?_⟩
  ·intro y B hy
   obtain ⟨x, h1, _⟩ := hsb y B hy
   exact Z8Y h1
  ·intro y B hy
   obtain ⟨x, h1, h2⟩ := hsb y B hy
   obtain ⟨B', hB', hq⟩ := hx y x B h1 h2
   exact hq E w he (he.own x B' hB')
  ·intro y z B C b N N' hy hz hby hbz
   obtain ⟨x, h1, h2⟩ := hsb y B hy
   obtain ⟨x', h3, h4⟩ := hsb z C hz
   rw [hsub y x h1] at hby
   rw [hsub z x' h3] at hbz
   obtain ⟨B', hB'⟩ := hm x (XK h1)
   obtain ⟨C', hC'⟩ := hm x' (XK h3)
   have := he.disj x x' B' C' b N N' hB' hC' hby hbz
   subst this
   exact hinj y z x h1 h3
  ·intro a c y B N hi hy hbb
   obtain ⟨x, h1, _⟩ := hsb y B hy
   rw [hsub y x h1] at hbb
   exact hi.2 x (XK h1) N hbb
 refine (hc E0 w rs hemb (ha E w rs he hr)).mono ?_
 rintro e w' ⟨E₁, hev, hor⟩
 let E' : Env := ⟨fun x => match Xv σ x with
  | some i => E₁.blk i
  | none => if x < h.next then E.blk x else E₁.blk (x - h.next + σ.length), E.imm⟩
 have hρ : ∀ y, E'.blk (mvN σ h.next y) = E₁.blk y := fun y => by
  rcases Nat.lt_or_ge y σ.length with hlt | hge
  ·obtain ⟨x, hx'⟩ := QL hlt
   rw [Z7P hx']
   show (match Xv σ x with | some i => _ | none => _) = _
   rw [Ux hd y x hx']
  ·rw [Z7Q hge]
   have hn : Xv σ (h.next + (y - σ.length)) = none := by
    cases hq : Xv σ (h.next + (y - σ.length)) with
    | none => rfl
    | some i => have := hσlt _ (XK (VA hq)); omega
   show (match Xv σ _ with | some i => _ | none => _) = _
   rw [hn]
   show (if _ then _ else _) = _
   rw [if_neg (by omega)]
   congr 1
   omega
 have hold : ∀ x, x < h.next → Xv σ x = none → E'.blk x = E.blk x := fun x hx hn => by
  show (match Xv σ x with | some i => _ | none => _) = _
  rw [hn]
  exact if_pos hx
 have hfresh : ∀ x, E.blk x ≠ none → x < h.next := fun x hx => by
  rcases Nat.lt_or_ge x h.next with hl | hg
  ·exact hl
  ·exact absurd (he.fresh x hg) hx
 have hle : E.le E' := ⟨fun x q hq => by
  cases hi : Xv σ x with
  | some i =>
   show (match Xv σ x with | some i => _ | none => _) = _
   rw [hi]
   exact hev.le.blk i q ((hsub i x (VA hi)).trans hq)
  | none => rw [hold x (hfresh x (by rw [hq]; simp)) hi]; exact hq, fun _ _ h => h⟩
 have hown0 : ∀ b, WS E0 ⟨σ.length, We 0 σ Bs⟩ b → ∃ x N, x ∈ σ ∧ E.blk x = some (b, N) := fun b ⟨y, B, N, hy, hbb⟩ => by
  obtain ⟨x, h1, _⟩ := hsb y B hy
  exact ⟨x, N, XK h1, by rw [← hsub y x h1]; exact hbb⟩
 have hkeep : ∀ b, b < w.heap.size → (∀ x N, x ∈ σ → E.blk x = some (b, N) → False) → w'.heap[b]? = w.heap[b]? := fun b hb hn => hev.keep b hb (fun ho => let ⟨x, N, h1, h2⟩ := hown0 b ho; hn x N h1 h2)
 have hget : ∀ x B', Z7.get ⟨h.next + (nx - σ.length), Uu bs' (UW σ h.bs)⟩ x = some B' →
   (∃ y B, mvN σ h.next y = x ∧ ZT bs y = some B ∧ MvB σ h.next B B') ∨ (x < h.next ∧ x ∉ σ ∧ h.get x = some B') := fun x B' hx => by
  simp only [Z7.get, Z3X] at hx
  split at hx
  ·rename_i B0 hq
   cases hx
   exact .inl (hb.get x _ hq)
  ·obtain ⟨h1, h2⟩ := Z1h hx
   exact .inr ⟨he.lt x B' h1, h2, h1⟩
 have hni : ∀ x, x ∉ σ → Xv σ x = none := fun x hx => by
  cases hq : Xv σ x with
  | none => rfl
  | some i => exact absurd (XK (VA hq)) hx
 have hmix : ∀ y B z C b N N', ZT bs y = some B → E₁.blk y = some (b, N) → z ∉ σ → h.get z = some C → E.blk z = some (b, N') → False := fun y B z C b N N' hy hby hz hz' hbz => by
  rcases hev.own b ⟨y, B, N, hy, hby⟩ with ho | hs
  ·obtain ⟨x, M, h1, h2⟩ := hown0 b ho
   obtain ⟨D, hD⟩ := hm x h1
   have := he.disj x z D C b M N' hD hz' h2 hbz
   subst this
   exact hz h1
  ·have := (he.own z C hz').lt hbz
   omega
 have himm0 : ∀ a c, E.imm a c → E0.imm a c := fun a c hi => ⟨he.imm a c hi, fun x hx N hbb => let ⟨B, hB⟩ := hm x hx; he.sep a c x B N hi hB hbb⟩
 have hemb' : Emb E' ⟨h.next + (nx - σ.length), Uu bs' (UW σ h.bs)⟩ w' := by
  refine ⟨?_, ?_, ?_, ?_, ?_, ?_⟩
  ·intro x hx
   have hx' : h.next + (nx - σ.length) ≤ x := hx
   have hn : Xv σ x = none := hni x (fun hq => by have := hσlt x hq; omega)
   show (match Xv σ x with | some i => _ | none => _) = _
   rw [hn]
   show (if _ then _ else _) = _
   rw [if_neg (by omega)]
   exact hev.emb.fresh _ (by show nx ≤ _; omega)
  ·intro x B hx
   show x < h.next + (nx - σ.length)
   rcases hget x B hx with ⟨y, B0, rfl, hy, _⟩ | ⟨hlt, _, _⟩
   ·have hyn : y < nx := hev.emb.lt y B0 hy
    rcases Nat.lt_or_ge y σ.length with hlt | hge
    ·obtain ⟨x, hx'⟩ := QL hlt
     rw [Z7P hx']
     have := hσlt x (XK hx')
     omega
    ·rw [Z7Q hge]
     omega
   ·omega
  ·intro x B hx
   rcases hget x B hx with ⟨y, B0, rfl, hy, hmv⟩ | ⟨hlt, hnσ, hx'⟩
   ·exact hmv.move (E := E₁) (fun x r hq => by rw [hρ]; exact hq) (fun hq => by rw [hρ]; exact hq) (hev.emb.own y B0 hy)
   ·have h1 := (he.own x B hx').mono hle (fun hn => by rw [hold x hlt (hni x hnσ)]; exact hn)
    refine h1.congr fun b N hbb => ?_
    rw [hold x hlt (hni x hnσ)] at hbb
    refine hkeep b ((he.own x B hx').lt hbb) fun z M hz hbz => ?_
    obtain ⟨D, hD⟩ := hm z hz
    have := he.disj x z B D b N M hx' hD hbb hbz
    subst this
    exact hnσ hz
  ·intro x z B C b N N' hx hz hbx hbz
   rcases hget x B hx with ⟨y, B0, rfl, hy, hmv⟩ | ⟨hlt, hnσ, hx'⟩ <;> rcases hget z C hz with ⟨y', C0, rfl, hy', hmv'⟩ | ⟨hlt', hnσ', hz'⟩
   ·rw [hρ] at hbx hbz
    rw [hev.emb.disj y y' B0 C0 b N N' hy hy' hbx hbz]
   ·rw [hρ] at hbx
    rw [hold z hlt' (hni z hnσ')] at hbz
    exact (hmix y B0 z C b N N' hy hbx hnσ' hz' hbz).elim
   ·rw [hρ] at hbz
    rw [hold x hlt (hni x hnσ)] at hbx
    exact (hmix y' C0 x B b N' N hy' hbz hnσ hx' hbx).elim
   ·rw [hold x hlt (hni x hnσ)] at hbx
    rw [hold z hlt' (hni z hnσ')] at hbz
    exact he.disj x z B C b N N' hx' hz' hbx hbz
  ·intro a c hi
   exact hev.emb.imm a c (hev.le.imm a c (himm0 a c hi))
  ·intro a c x B N hi hx hbx
   rcases hget x B hx with ⟨y, B0, rfl, hy, hmv⟩ | ⟨hlt, hnσ, hx'⟩
   ·rw [hρ] at hbx
    exact hev.emb.sep a c y B0 N (hev.le.imm a c (himm0 a c hi)) hy hbx
   ·rw [hold x hlt (hni x hnσ)] at hbx
    exact he.sep a c x B N hi hx' hbx
 refine ⟨E', o', _, hK, ⟨hle, hemb', hev.size, hev.os, hev.tape, hev.output, fun b hb' hno => hkeep b hb' (fun x N hx hbx => ?_), ?_, fun _ _ h => h⟩, ?_⟩
 ·obtain ⟨B, hB⟩ := hm x hx
  exact hno ⟨x, B, N, hB, hbx⟩
 ·rintro b ⟨x, B, N, hx, hbx⟩
  rcases hget x B hx with ⟨y, B0, rfl, hy, hmv⟩ | ⟨hlt, hnσ, hx'⟩
  ·rw [hρ] at hbx
   rcases hev.own b ⟨y, B0, N, hy, hbx⟩ with ho | hs
   ·obtain ⟨z, M, h1, h2⟩ := hown0 b ho
    obtain ⟨D, hD⟩ := hm z h1
    exact .inl ⟨z, D, M, hD, h2⟩
   ·exact .inr hs
  ·rw [hold x hlt (hni x hnσ)] at hbx
   exact .inl ⟨x, B, N, hx', hbx⟩
 ·cases ho with
  | ret v v' hv => cases hor with
   | ret v r hr => exact .ret _ _ (Z2P (fun x q hq => by rw [hρ]; exact hq) _ _ _ hv hr)
  | panic v v' hv => cases hor with
   | panic v r hr => exact .panic _ _ (Z2P (fun x q hq => by rw [hρ]; exact hq) _ _ _ hv hr)
theorem Spec.fsumm {P : Program} {f : FuncId} {args : List AV} {σ : List Nat} {h : Z7} {d : Nat} {K0 : List Blk → List AV → Prop} {K : KO} (hl : frA σ h d args K0)
  (hK : ∀ Bs a₀, Bs.length = σ.length → K0 Bs a₀ → ∃ o nx bs o' bs', Spec P f a₀ ⟨σ.length, We 0 σ Bs⟩ o nx bs ∧ σ.length ≤ nx ∧ MvO σ h.next o o' ∧ Z7R σ h.next bs bs' ∧ K o' ⟨h.next + (nx - σ.length), Uu bs' (UW σ h.bs)⟩) : Zk P f args h K := by
 obtain ⟨hm, hd, Bs, a, hK0, hlen, hx, ha⟩ := ZgA hl
 obtain ⟨o, nx, bs, o', bs', h1, h2, h3, h4, h5⟩ := hK Bs a hlen hK0
 exact Spec.calls h1 hlen hm hd hx ha h2 h3 h4 h5
end Go.Tk
end
section
namespace Go.Tk
open IntKind (i64 u8 u32 u64 wrap)
def goL (k : Nat) (τ : Ren) (S0 : St) (C : Prop) (ends : KE → Prop) : Nat → St → KE → Prop := fun k' s X => match Nat.beq k' k with
 | true => ZZ k τ S0 s (C ∧ ends X)
 | false => False
def Z1i (id n : Nat) (go ex re : Nat → Prop) (En Rn : Nat → St) : KE → Prop := fun X =>
 ∀ i, i ≤ n → (∀ j, j < i → go j) → (ex i → X (.exit id) (En i)) ∧ (re i → X .ret (Rn i))
theorem Zd.withGo {G : Zd} (hG : G.Ok) {f : FuncId} {id k N n : Nat} {τ0 τ1 τ2 τ3 : Ren} {S En Rn : Nat → St} {S0 : St} {C : Prop} {go ex re : Nat → Prop} (h1 : WD G.P f id = true) (hC : C → S 0 = S0 ∧
   ∀ i, i ≤ n → (∀ j, j < i → go j) → ZF G N f id k (S i) fun e s => match e with
    | .normal => ZZ k τ1 (S (i + 1)) s (go i ∧ i < n)
    | .exit x => (match Nat.beq x id with | true => ZZ k τ2 (En i) s (ex i) | false => False)
    | .ret => ZZ k τ3 (Rn i) s (re i)
    | _ => False) :
  (G.withL f id (goL k τ0 S0 C (Z1i id n go ex re En Rn))).Ok := by
 refine Zd.withL_ok hG h1 ?_
 intro k' s X hl
 unfold goL at hl
 split at hl
 ·rename_i hk
  have := Nat.eq_of_beq_eq_true hk
  subst this
  obtain ⟨⟨hc, hX⟩, hw⟩ := Y8 hl
  obtain ⟨e0, hr⟩ := hC hc
  refine ⟨{ t : Nat // t ≤ n ∧ ∀ j, j < t → go j }, fun t => n - t.1, fun t => S t.1, ⟨0, Nat.zero_le _, fun j hj => by omega⟩, N, by show Ur k' s (S 0); rw [e0]; exact hw, ?_⟩
  rintro ⟨t, ht, hgo⟩
  refine ⟨_, hr t ht hgo, ?_⟩
  intro e s' hY
  split at hY
  ·obtain ⟨⟨hg, hlt⟩, hw'⟩ := Y8 hY
   refine ⟨⟨t + 1, hlt, fun j hj => ?_⟩, by show n - (t + 1) < n - t; omega, hw'⟩
   by_cases hjt : j = t
   ·rw [hjt]; exact hg
   ·exact hgo j (by omega)
  ·split at hY
   ·rename_i hi
    have := Nat.eq_of_beq_eq_true hi
    subst this
    obtain ⟨hex, hw'⟩ := Y8 hY
    exact ⟨_, hw', (hX t ht hgo).1 hex⟩
   ·exact hY.elim
  ·obtain ⟨hre, hw'⟩ := Y8 hY
   exact ⟨_, hw', (hX t ht hgo).2 hre⟩
  ·exact hY.elim
 ·exact hl.elim
def Ym (id n l : Nat) (go ex re jm : Nat → Prop) (En Rn Jn : Nat → St) : KE → Prop := fun X =>
 ∀ i, i ≤ n → (∀ j, j < i → go j) → (ex i → X (.exit id) (En i)) ∧ (re i → X .ret (Rn i)) ∧ (jm i → X (.goto l) (Jn i))
theorem Zd.withGoJ {G : Zd} (hG : G.Ok) {f : FuncId} {id k N n l : Nat} {τ0 τ1 τ2 τ3 τ4 : Ren} {S En Rn Jn : Nat → St} {S0 : St} {C : Prop} {go ex re jm : Nat → Prop} (h1 : WD G.P f id = true) (hC : C → S 0 = S0 ∧
   ∀ i, i ≤ n → (∀ j, j < i → go j) → ZF G N f id k (S i) fun e s => match e with
    | .normal => ZZ k τ1 (S (i + 1)) s (go i ∧ i < n)
    | .exit x => (match Nat.beq x id with | true => ZZ k τ2 (En i) s (ex i) | false => False)
    | .ret => ZZ k τ3 (Rn i) s (re i)
    | .goto x => (match Nat.beq x l with | true => ZZ k τ4 (Jn i) s (jm i) | false => False)
    | _ => False) :
  (G.withL f id (goL k τ0 S0 C (Ym id n l go ex re jm En Rn Jn))).Ok := by
 refine Zd.withL_ok hG h1 ?_
 intro k' s X hl
 unfold goL at hl
 split at hl
 ·rename_i hk
  have := Nat.eq_of_beq_eq_true hk
  subst this
  obtain ⟨⟨hc, hX⟩, hw⟩ := Y8 hl
  obtain ⟨e0, hr⟩ := hC hc
  refine ⟨{ t : Nat // t ≤ n ∧ ∀ j, j < t → go j }, fun t => n - t.1, fun t => S t.1, ⟨0, Nat.zero_le _, fun j hj => by omega⟩, N, by show Ur k' s (S 0); rw [e0]; exact hw, ?_⟩
  rintro ⟨t, ht, hgo⟩
  refine ⟨_, hr t ht hgo, ?_⟩
  intro e s' hY
  split at hY
  ·obtain ⟨⟨hg, hlt⟩, hw'⟩ := Y8 hY
   refine ⟨⟨t + 1, hlt, fun j hj => ?_⟩, by show n - (t + 1) < n - t; omega, hw'⟩
   by_cases hjt : j = t
   ·rw [hjt]; exact hg
   ·exact hgo j (by omega)
  ·split at hY
   ·rename_i hi
    have := Nat.eq_of_beq_eq_true hi
    subst this
    obtain ⟨hex, hw'⟩ := Y8 hY
    exact ⟨_, hw', (hX t ht hgo).1 hex⟩
   ·exact hY.elim
  ·obtain ⟨hre, hw'⟩ := Y8 hY
   exact ⟨_, hw', (hX t ht hgo).2.1 hre⟩
  ·split at hY
   ·rename_i hi
    have := Nat.eq_of_beq_eq_true hi
    subst this
    obtain ⟨hjm, hw'⟩ := Y8 hY
    exact ⟨_, hw', (hX t ht hgo).2.2 hjm⟩
   ·exact hY.elim
  ·exact hY.elim
 ·exact hl.elim
theorem Zg {p x : Prop} [Decidable p] : Z0 (decide p) x False = (p ∧ x) := by
 by_cases h : p
 ·rw [decide_eq_true h]; simp [Z0, h]
 ·rw [decide_eq_false h]; simp [Z0, h]
theorem Zl {p x : Prop} [Decidable p] : Z0 (decide p) False x = (¬ p ∧ x) := by
 by_cases h : p
 ·rw [decide_eq_true h]; simp [Z0, h]
 ·rw [decide_eq_false h]; simp [Z0, h]
theorem Zh {p x y : Prop} [Decidable p] : Z0 (decide p) x y = ((p → x) ∧ (¬ p → y)) := by
 by_cases h : p
 ·rw [decide_eq_true h]; simp [Z0, h]
 ·rw [decide_eq_false h]; simp [Z0, h]
theorem Zm {b : Bool} {x : Prop} : Z0 b x False = (b = true ∧ x) := by cases b <;> simp [Z0]
theorem Zn {b : Bool} {x : Prop} : Z0 b False x = (b = false ∧ x) := by cases b <;> simp [Z0]
theorem Zf {b : Bool} {x y : Prop} : Z0 b x y = ((b = true → x) ∧ (b = false → y)) := by cases b <;> simp [Z0]
theorem Zag {k : Nat} {τ : Ren} {v : AV} (hp : v.plain = true) (hc : v.isCell = true) {Z : Prop} (hZ : Z) : eqV k τ v v Z := by
 cases v with
 | ptr p => cases p <;> simp_all [AV.plain, eqV]
 | map r => cases r <;> simp_all [AV.plain, eqV]
 | _ => simp_all [AV.plain, eqV, UJ, AV.isCell]
theorem Z48 {k : Nat} {τ : Ren} : ∀ {l : List AV}, plainC l = true → ∀ {Z : Prop}, Z → (∀ v ∈ l, v.isCell = true ∨ ∃ k n xs, v = .arr k n xs) → eqC k τ l l Z
 | [], _, Z, hZ, _ => by simp [eqC, hZ]
 | v :: r, hp, Z, hZ, hc => by
  simp only [plainC, Bool.and_eq_true] at hp
  have hr := Z48 (k := k) (τ := τ) hp.2 hZ (fun u hu => hc u (List.mem_cons_of_mem _ hu))
  rcases hc v (by simp) with hv | ⟨kk, n, xs, rfl⟩
  ·have hna : ∀ a b c, v ≠ .arr a b c := fun a b c e => by subst e; simp [AV.isCell] at hv
   cases v with
   | arr a b c => exact absurd rfl (hna a b c)
   | agg cs => simp [AV.isCell] at hv
   | tuple cs => simp [AV.isCell] at hv
   | _ => simp only [eqC, hv, Bool.and_self]; exact Zag hp.1 hv hr
  ·unfold eqC
   simp [hr, Nat.beq_refl]
theorem VB {k : Nat} {τ : Ren} {n : Nat} {f f' : Nat → List AV} (h : ∀ i, i < n → f' i = f i) (hp : ∀ i, i < n → plainC (f i) = true) (hc : ∀ i, i < n → ∀ v ∈ f i, v.isCell = true ∨ ∃ k n xs, v = .arr k n xs) : Zc k τ n f f' :=
 ⟨fun i hi => by rw [h i hi]; exact Z48 (hp i hi) trivial (hc i hi)⟩
theorem Z2Q {a b : Nat} (h : a < b) : Nat.blt a b = true := by rw [Nat.blt_eq]; exact h
theorem Z0S {a b : Nat} (h : Nat.blt a b = true) : a < b := by rw [Nat.blt_eq] at h; exact h
theorem UX {n i : Nat} {f g : Nat → List AV} (h : i < n) : Yf n f g i = f i := by unfold Yf; rw [Z2Q h]
theorem XW {n i : Nat} {f g : Nat → List AV} (h : n ≤ i) : Yf n f g i = g (i - n) := by
 unfold Yf
 have : Nat.blt i n = false := by
  cases hq : Nat.blt i n with
  | false => rfl
  | true => have := Z0S hq; omega
 rw [this]
theorem ZB.vrows0 {P : Program} {f : FuncId} {esz : Nat} {g : Nat → List AV} {v : AV} {nx : Nat} {bs : List (Nat × Blk)} (h1 : ZB P f [.nilslice] v nx bs) (h2 : ZB P f [.fslice] v nx bs) : ZB P f [.vrows esz 0 g 0] v nx bs := by
 intro E w rs he hr
 cases hr with
 | cons v r vs rs hv ht => cases ht with
  | nil => cases hv with
   | vrowsNil esz n f len _ _ => exact h1 E w _ he (.cons _ _ _ _ .nilslice .nil)
   | vrows esz n f len a cap g _ _ _ _ _ => exact h2 E w _ he (.cons _ _ _ _ (.fslice a cap) .nil)
theorem ZB.vints0 {P : Program} {f : FuncId} {k : IntKind} {v : AV} {nx : Nat} {bs : List (Nat × Blk)} (h1 : ZB P f [.nilslice] v nx bs) (h2 : ZB P f [.fslice] v nx bs) : ZB P f [.vints k [] 0] v nx bs := by
 intro E w rs he hr
 cases hr with
 | cons v r vs rs hv ht => cases ht with
  | nil => cases hv with
   | vintsNil k xs len _ _ => exact h1 E w _ he (.cons _ _ _ _ .nilslice .nil)
   | vints k xs len a cap _ _ _ => exact h2 E w _ he (.cons _ _ _ _ (.fslice a cap) .nil)
end Go.Tk
namespace Go.Tk
open IntKind (i64 u8 u32 u64 wrap)
mutual
theorem QM {mv : Option Nat} {h : Z7} : ∀ (d : Nat) (t : Bool) (v : AV) (K K' : AV → Prop), Ut mv h t d v K → (∀ a, K a → K' a) → Ut mv h t d v K'
 | 0, t, v, K, K', hl, hK => by unfold Ut at hl; exact hl.elim
 | d + 1, t, v, K, K', hl, hK => by
  unfold Ut at hl ⊢
  split at hl
  all_goals try exact hK _ hl
  all_goals try exact hl.elim
  ·split at hl
   ·split at hl
    ·exact hl.elim
    ·exact hK _ hl
   ·split at hl
    ·split at hl
     ·exact XV _ _ _ _ _ hl fun _ h => hK _ h
     ·exact hl.elim
    ·split at hl
     ·obtain ⟨h1, h2⟩ := Za hl
      refine UJ h1 ?_
      split at h2
      ·exact XV _ _ _ _ _ h2 fun _ h => hK _ h
      ·exact h2.elim
     ·exact hl.elim
    ·exact hl.elim
  ·split at hl
   ·split at hl
    ·exact hl.elim
    ·exact hK _ hl
   ·split at hl
    ·split at hl
     ·obtain ⟨h1, h2⟩ := Za hl
      exact UJ h1 (hK _ h2)
     ·exact hl.elim
    ·split at hl
     ·obtain ⟨h1, h2, h3⟩ := Za hl
      exact UJ h1 ⟨h2, hK _ h3⟩
     ·exact hl.elim
    ·split at hl
     ·split at hl
      ·split at hl
       ·split at hl
        ·obtain ⟨h1, h2⟩ := Za hl
         exact UJ h1 (hK _ h2)
        ·obtain ⟨h1, h2⟩ := Za hl
         exact UJ h1 (hK _ h2)
        ·exact hl.elim
       ·exact hl.elim
      ·split at hl
       ·refine XV _ _ _ _ _ hl fun _ h => ?_
        split at h
        ·exact hK _ h
        ·exact h.elim
       ·exact hl.elim
     ·exact hl.elim
    ·exact hl.elim
  ·exact Zq _ _ _ _ _ hl fun _ h => Zq _ _ _ _ _ h fun _ h => hK _ h
  ·exact QM _ _ _ _ _ hl fun _ h => hK _ h
  ·exact XV _ _ _ _ _ hl fun _ h => hK _ h
  ·exact Zq _ _ _ _ _ hl fun _ h => hK _ h
theorem XV {mv : Option Nat} {h : Z7} : ∀ (d : Nat) (t : Bool) (l : List AV) (K K' : List AV → Prop), Vw mv h t d l K → (∀ a, K a → K' a) → Vw mv h t d l K'
 | 0, t, l, K, K', hl, hK => by unfold Vw at hl; exact hl.elim
 | d + 1, t, l, K, K', hl, hK => by
  unfold Vw at hl ⊢
  split at hl
  ·exact hK _ hl
  ·exact XV _ _ _ _ _ hl fun _ h => hK _ h
  ·refine QM _ _ _ _ _ hl fun _ h => ?_
   split at h
   ·exact XV _ _ _ _ _ h fun _ h => hK _ h
   ·exact h.elim
theorem Zq {mv : Option Nat} {h : Z7} : ∀ (d : Nat) (t : Bool) (l : List AV) (K K' : List AV → Prop), ZH mv h t d l K → (∀ a, K a → K' a) → ZH mv h t d l K'
 | 0, t, l, K, K', hl, hK => by unfold ZH at hl; exact hl.elim
 | d + 1, t, l, K, K', hl, hK => by
  unfold ZH at hl ⊢
  split at hl
  ·exact hK _ hl
  ·exact QM _ _ _ _ _ hl fun _ h => Zq _ _ _ _ _ h fun _ h => hK _ h
end
end Go.Tk
end
section
namespace Go.Tk
open IntKind (i64 u8 u32 u64 wrap)
def Zb (g : Nat → InS) : Nat → List AV := fun q => (g q).c
def Z8 (g : Nat → Zs) : Nat → List AV := fun q => (g q).c
theorem InS.plainC (x : InS) : plainC x.c = true := rfl
theorem Zs.plainC (x : Zs) : plainC x.c = true := rfl
theorem InS.cells (x : InS) : ∀ v ∈ x.c, v.isCell = true ∨ ∃ k n xs, v = .arr k n xs := by simp [InS.c, AV.isCell]
theorem Zs.cells (x : Zs) : ∀ v ∈ x.c, v.isCell = true ∨ ∃ k n xs, v = .arr k n xs := by simp [Zs.c, AV.isCell]
theorem Yd {k : Nat} {τ : Ren} {n : Nat} {g : Nat → InS} {f : Nat → List AV} (h : ∀ i, i < n → f i = (g i).c) : Zc k τ n (Zb g) f := VB h (fun i _ => (g i).plainC) (fun i _ => (g i).cells)
theorem Y7 {k : Nat} {τ : Ren} {n : Nat} {g : Nat → Zs} {f : Nat → List AV} (h : ∀ i, i < n → f i = (g i).c) : Zc k τ n (Z8 g) f := VB h (fun i _ => (g i).plainC) (fun i _ => (g i).cells)
theorem ZdZ (N : Nat) (g : Nat → InS) (hN : N + 1 < 900000000000) :
  evF G0 20 48 [.vrows 130 (N + 1) (Zb g) (N + 1)] ⟨0, []⟩ (Yq 0 [(0,0)] (.nslice ⟨0, 0, 130, 0, 0⟩ 130 (N + 1) (N + 1)) 1 [(0, .rows 130 (N + 1) (Zb g))]) := by
 refine @Eq.mpr _ (let q1 := N + 1;
 let q2 := 0 + q1;
 let q3 := decide (q2 = q1);
 Z0 (decide (q2 * 144 ≤ 140737488355328)) (Z0 q3 (Z0 (decide (q1 ≤ q2)) (Z0 q3 (Zc 0 [(0, 0)] q1 (Zb g) (Yf 0 (fun (x : Nat) => []) (Zb g)) ∧ True) False) False) False) False) (by kernel_rfl) ?_
 conv => zeta
 refine nd (by omega) (nd (by omega) (nd (by omega) (nd (by omega) ⟨Yd fun i hi => ?_, trivial⟩)))
 rw [XW (Nat.zero_le _)]; rfl
theorem Ze0 (g : Nat → InS)  :
  evF G0 20 48 [.nilslice] ⟨0, []⟩ (Yq 0 [] (.nslice ⟨0, 0, 130, 0, 0⟩ 130 0 0) 1 [(0, .rows 130 0 (Zb g))]) := by
 refine @Eq.mpr _ (True) (by kernel_rfl) ?_
 trivial
theorem Ze1 (g : Nat → InS)  :
  evF G0 20 48 [.fslice] ⟨0, []⟩ (Yq 0 [(0, 0)] (.nslice ⟨0, 0, 130, 0, 0⟩ 130 0 0) 1 [(0, .rows 130 0 (Zb g))]) := by
 refine @Eq.mpr _ (Zc 0 [(0, 0)] 0 (Zb g) (Yf 0 (fun (x : Nat) => []) fun (x : Nat) => []) ∧ True) (by kernel_rfl) ?_
 exact ⟨Yd fun i hi => by omega, trivial⟩
theorem Z7S (N : Nat) (g : Nat → InS) (hN : N < 900000000000) : ZB PP 48 [.vrows 130 N (Zb g) N] (.nslice ⟨0, 0, 130, 0, 0⟩ 130 N N) 1 [(0, .rows 130 N (Zb g))] := by
 cases N with
 | zero => exact ZB.vrows0 (.ev Zu (Ze0 g)) (.ev Zu (Ze1 g))
 | succ n => exact .ev Zu (ZdZ n g hN)
def ZbZ (N : Nat) (g : Nat → InS) (Z : Prop) : Y9 := fun args h K => ZH none h true 20 args fun a => match a with
 | [.vrows 130 n f m] => Zw (n = N) (Zw (m = N) (f = Zb g ∧ Z ∧ K (.ret (.nslice ⟨h.next, 0, 130, 0, 0⟩ 130 N N)) ⟨h.next + 1, (h.next, .rows 130 N (Zb g)) :: h.bs⟩))
 | _ => False
theorem Zah (N : Nat) (g : Nat → InS) (args : List AV) (h : Z7) (K : KO) (hl : ZbZ N g (N < 900000000000) args h K) : Zk PP 48 args h K := by
 refine ZB.fsumm (d := 20) (Zq _ _ _ _ _ hl fun a ha => ?_)
 split at ha
 ·obtain ⟨rfl, ha⟩ := Za ha
  obtain ⟨rfl, rfl, hN, hK⟩ := Za ha
  exact ⟨_, _, _, _, Z7S _ _ hN, rfl, ⟨Nat.one_pos, .rows _ _ _ (fun i _ => (g i).plainC), trivial⟩, hK⟩
 ·exact ha.elim
def VC (N : Nat) (g : Nat → InS) (t : Nat) : Nat → InS := fun q => if q < t ∨ N < q + t + 1 then g (N - 1 - q) else g q
def QN (N : Nat) (g : Nat → InS) : Nat → InS := fun q => g (N - 1 - q)
def Z7T (N : Nat) (g : Nat → InS) (t : Nat) : St := ⟨28, [(0, .nslice ⟨0, 0, 130, 0, 0⟩ 130 N N), (3, .int .i64 ((N : Int) - 1 - t)), (2, .int .i64 t)], ⟨1, [(0, .rows 130 N (Zb (VC N g t)))]⟩, []⟩
theorem Zi8 (N : Nat) (g : Nat → InS) (t : Nat) (hN : N < 900000000000) (ht : t ≤ N) (hgo : ∀ j : Nat, j < t → (j : Int) < (N : Int) - 1 - j) :
  ZF G0 20 126 0 1 (Z7T N g t) (fun e s => match e with | .normal => ZZ 1 [] (Z7T N g (t + 1)) s (((t : Int) < (N : Int) - 1 - t) ∧ t < N) | .exit x => (match Nat.beq x 0 with | true => ZZ 1 [] (Z7T N g t) s (¬ (t : Int) < (N : Int) - 1 - t) | false => False) | .ret => ZZ 1 [] (Z7T N g t) s False | _ => False) := by
 refine @Eq.mpr _ (let q1 := (↑N : Int) - 1;
 let q2 := q1 - (↑t : Int);
 let q3 := decide (0 ≤ q2 ∧ q2 < (↑N : Int));
 let q4 := 0 + Int.toNat q2;
 let q5 := decide (0 ≤ (↑t : Int) ∧ (↑t : Int) < (↑N : Int));
 let q6 := 0 + Int.toNat (↑t : Int);
 let q7 := decide (N = N);
 let q8 := decide (N ≤ N);
 let q9 := (↑(t + 1) : Int);
 let q10 := Zb (VC N g t);
 let q11 := VC N g t q4;
 let q12 := VC N g t q6;
 Z0 (decide ((↑t : Int) < q2)) (Z0 q3 (Z0 (decide (q4 < N)) (Z0 q5 (Z0 (decide (q6 < N)) (Z0 q5 (Z0 (decide (q6 < N)) (Z0 q3 (Z0 (decide (q4 < N)) (Z0 q7 (Z0 q8 (Z0 (decide (wrap i64 (q2 - 1) = q1 - q9)) (Z0 (decide (wrap i64 ((↑t : Int) + 1) = q9)) (Z0 q7 (Zc 1 [] N (Zb (VC N g (t + 1))) (VP (VP q10 q6 [AV.arr u8 32 q11.name, AV.int i64 q11.index, AV.int i64 q11.way, AV.arr u8 32 q11.tag, AV.arr u8 32 q11.also, AV.arr u8 32 q11.secret]) q4 [AV.arr u8 32 q12.name, AV.int i64 q12.index, AV.int i64 q12.way, AV.arr u8 32 q12.tag, AV.arr u8 32 q12.also, AV.arr u8 32 q12.secret]) ∧ (↑t : Int) < q2 ∧ t < N) False) False) False) False) False) False) False) False) False) False) False) False) False)
 (Z0 q7 (Z0 q8 (Z0 (decide (q2 = q2)) (Z0 (decide ((↑t : Int) = (↑t : Int))) (Z0 q7 (Zc 1 [] N q10 q10 ∧ ((↑t : Int) < q2 → False)) False) False) False) False) False)) (by kernel_rfl) ?_
 conv => zeta
 simp only [Zg]
 simp only [Zh]
 have hrows : Zc 1 [] N (Zb (VC N g t)) (Zb (VC N g t)) := Yd fun _ _ => rfl
 refine ⟨fun h1 => ?_, fun h1 => by simp [hrows, h1]⟩
 have hw1 : i64.wrap ((t : Int) + 1) = (t : Int) + 1 := w64 (by omega)
 have hw2 : i64.wrap ((N : Int) - 1 - t - 1) = (N : Int) - 1 - t - 1 := w64 (by omega)
 have e1 : 0 + ((N : Int) - 1 - t).toNat = N - 1 - t := by omega
 have e2 : 0 + (t : Int).toNat = t := by omega
 simp only [e1, e2, hw1, hw2]
 refine ⟨by omega, by omega, by omega, by omega, by omega, by omega, by omega, by omega, trivial, by omega, by omega, by omega, trivial, Yd fun q hq => ?_, h1, by omega⟩
 rw [XG, XG]
 have g1 : VC N g t (N - 1 - t) = g (N - 1 - t) := by unfold VC; rw [if_neg (by omega)]
 have g2 : VC N g t t = g t := by unfold VC; rw [if_neg (by omega)]
 rw [g1, g2]
 by_cases q1 : q = N - 1 - t
 ·subst q1
  rw [Nat.beq_refl]
  show (g t).c = _
  unfold VC
  rw [if_pos (by omega)]
  congr 2; omega
 ·rw [Zv q1]
  by_cases q2 : q = t
  ·subst q2
   rw [Nat.beq_refl]
   show (g (N - 1 - q)).c = _
   unfold VC
   rw [if_pos (by omega)]
  ·rw [Zv q2]
   show (VC N g t q).c = _
   unfold VC
   congr 1
   by_cases c : q < t ∨ N < q + t + 1
   ·rw [if_pos c, if_pos (by omega)]
   ·rw [if_neg c, if_neg (by omega)]
noncomputable def E10 (N : Nat) (g : Nat → InS) : Zd := (G0.withL 126 0 (goL 1 [] (Z7T N g 0) (N < 900000000000) (Z1i 0 N (fun t => (t : Int) < (N : Int) - 1 - t) (fun t => ¬ (t : Int) < (N : Int) - 1 - t) (fun _ => False) (Z7T N g) (Z7T N g)))).withF 48 (ZbZ N g (N < 900000000000))
theorem ZgB (N : Nat) (g : Nat → InS) : (E10 N g).Ok :=
 Zd.withF_ok (Zd.withGo (τ1 := []) (τ2 := []) (τ3 := []) (N := 20) Zu (by kernel_rfl) fun hC => ⟨rfl, fun i hi hgo => Zi8 N g i hC hi hgo⟩) (Zah N g)
theorem Z7U (N : Nat) (g : Nat → InS) (hN : N < 900000000000) :
  evF (E10 N g) 20 74 [.vrows 130 N (Zb g) N] ⟨0, []⟩ (Yq 0 [(0, 0)] (.nslice ⟨0, 0, 130, 0, 0⟩ 130 N N) 1 [(0, .rows 130 N (Zb (QN N g)))]) := by
 refine @Eq.mpr _ (let q1 := decide (N = N);
 let q2 := Zb g;
 let q3 := decide (N ≤ N);
 let q4 := (↑N : Int) - 1;
 Z0 q1
 (Z0 q1
 (q2 = q2 ∧
 N < 900000000000 ∧
 Z0 q1
 (Z0 q3
 (Z0 (decide (wrap i64 q4 = q4 - 0))
 (Z0 q1
 (Zc 1 [] N (Zb (VC N g 0)) q2 ∧
 N < 900000000000 ∧
 ∀ (i : Nat),
 let q9 := Z0 q1 (Z0 q3 (Z0 q1 (Zc 0 [(0, 0)] N (Zb (QN N g)) (Zb (VC N g i)) ∧ True) False) False) False;
 i ≤ N → (∀ (j : Nat), j < i → (fun (t : Nat) => (↑t : Int) < q4 - (↑t : Int)) j) → (¬(↑i : Int) < q4 - (↑i : Int) → q9) ∧ (False → q9))
 False)
 False)
 False)
 False)
 False)
 False) (by kernel_rfl) ?_
 conv => zeta
 simp only [Zg, true_and, and_true]
 refine ⟨hN, by omega, by rw [w64 (by omega)]; omega, Yd fun i hi => ?_, hN, fun i hi hgo => ⟨fun hex => ⟨by omega, Yd fun q hq => ?_⟩, fun h => h.elim⟩⟩
 ·show (g i).c = _
  unfold VC
  rw [if_neg (by omega)]
 ·show (VC N g i q).c = _
  unfold VC QN
  by_cases c : q < i ∨ N < q + i + 1
  ·rw [if_pos c]
  ·rw [if_neg c]
   congr 2; omega
theorem Z3A (N : Nat) (g : Nat → InS) (hN : N < 900000000000) : ZB PP 74 [.vrows 130 N (Zb g) N] (.nslice ⟨0, 0, 130, 0, 0⟩ 130 N N) 1 [(0, .rows 130 N (Zb (QN N g)))] := .ev (ZgB N g) (Z7U N g hN)
end Go.Tk
end
section
namespace Go.Tk
open IntKind (i64 u8 u32 u64 wrap)
def Yw (p : Nat → Bool) (n : Nat) : Int := match (List.range n).find? p with | some i => i | none => -1
theorem WI {p : Nat → Bool} {n i : Nat} (hi : i < n) (hgo : ∀ j, j < i → p j = false) (hp : p i = true) : Yw p n = i := by
 unfold Yw
 have : (List.range n).find? p = some i := by
  rw [List.find?_range_eq_some]
  exact ⟨hp, List.mem_range.2 hi, fun j hj => by simp [hgo j hj]⟩
 rw [this]
theorem WJ {p : Nat → Bool} {n : Nat} (hgo : ∀ j, j < n → p j = false) : Yw p n = -1 := by
 unfold Yw
 have : (List.range n).find? p = none := by
  rw [List.find?_eq_none]
  intro j hj
  simp [hgo j (List.mem_range.1 hj)]
 rw [this]
theorem V6 (p : Nat → Bool) (n : Nat) : (Yw p n = -1 ∧ ∀ j, j < n → p j = false) ∨ ∃ i, i < n ∧ Yw p n = (i : Nat) ∧ p i = true ∧ ∀ j, j < i → p j = false := by
 unfold Yw
 cases h : (List.range n).find? p with
 | none =>
  refine .inl ⟨rfl, fun j hj => ?_⟩
  have := List.find?_eq_none.1 h j (List.mem_range.2 hj)
  simpa using this
 | some i =>
  rw [List.find?_range_eq_some] at h
  exact .inr ⟨i, List.mem_range.1 h.2.1, rfl, h.1, fun j hj => by simpa using h.2.2 j hj⟩
theorem Z6l (p : Nat → Bool) (n : Nat) : -1 ≤ Yw p n ∧ Yw p n < n + 1 := by
 rcases V6 p n with ⟨h, _⟩ | ⟨i, hi, h, _⟩ <;> omega
def Qk (x y : InS) : Bool := (y.name == x.name) && (y.index == x.index)
theorem ZgC (x y : InS) (hx : x.Ok) (hy : y.Ok) :
  evF G0 20 72 [.agg y.c, .pview x.c 0] ⟨0, []⟩ (Yq 0 [] (.bool (Qk x y)) 0 []) := by
 refine @Eq.mpr _ (Z0 (decide (List.length y.name = 32 ∧ List.length x.name = 32)) (Z0 (y.name == x.name) (Z0 (decide ((y.index == x.index) = Qk x y)) True False) (Z0 (decide (false = Qk x y)) True False)) False) (by kernel_rfl) ?_
 try simp only [Zg]
 try simp only [Zh]
 try simp only [Zf]
 try simp only [Int.toNat_natCast, Nat.zero_add, true_and, and_true, Nat.le_refl]
 unfold Qk
 refine ⟨⟨hy.name, hx.name⟩, fun h => ?_, fun h => ?_⟩ <;> simp [h]
def ZfX : ZW := fun args h K => ZH none h true 20 args fun a => match a with
 | [.agg cs, .pview ds 0] => ∃ x y, cs = InS.c y ∧ ds = InS.c x ∧ (x.Ok ∧ y.Ok) ∧ K (.bool (Qk x y))
 | _ => False
theorem Zc0 (args : List AV) (h : Z7) (K : AV → Prop) (hl : ZfX args h K) : Zk PP 72 args h fun o h' => ∃ v, o = .ret v ∧ h' = h ∧ K v := by
 refine ZB.psumm (d := 20) (Zq _ _ _ _ _ hl fun a ha => ?_)
 split at ha
 ·obtain ⟨x, y, rfl, rfl, ⟨h1, h2⟩, hK⟩ := ha
  exact ⟨_, .ev Zu (ZgC x y h1 h2), fun _ => rfl, hK⟩
 ·exact ha.elim
noncomputable def ZgD : Zd := G0.withP 72 ZfX
theorem Ze2 : ZgD.Ok := Zd.withP_ok Zu Zc0
def ixS (N : Nat) (g : Nat → InS) (x : InS) (i : Nat) : St := ⟨19, [(1, .func (Fn.func 72) [] [.pview (InS.c x) 0]), (0, .vrows 130 N (Zb g) N), (7, .int .i64 N), (8, .int .i64 i)], ⟨0, []⟩, []⟩
def ixR (i : Nat) : St := ⟨19, [(4, .int .i64 i)], ⟨0, []⟩, []⟩
def ixE (_ : Nat) : St := ⟨19, [], ⟨0, []⟩, []⟩
theorem Zkh (N : Nat) (g : Nat → InS) (x : InS) (i : Nat) (Z1 Z2 Z3 : Prop) (hN : N < 900000000000) (hx : x.Ok) (hg : ∀ i, i < N → (g i).Ok) (hi : i ≤ N) (h1 : i < N → Qk x (g i) = false → Z1) (h2 : i = N → Z2) (h3 : i < N → Qk x (g i) = true → Z3) :
  ZF ZgD 20 73 0 0 (ixS N g x i) (fun e s => match e with | .normal => ZZ 0 [] (ixS N g x (i + 1)) s Z1 | .exit x => (match Nat.beq x 0 with | true => ZZ 0 [] (ixE i) s Z2 | false => False) | .ret => ZZ 0 [] (ixR i) s Z3 | _ => False) := by
 refine @Eq.mpr _ (let q1 := g (Int.toNat (↑i : Int));
 let q2 := InS.c x;
 let q3 := decide (N = N);
 Z0 (decide ((↑i : Int) < (↑N : Int))) (Z0 (decide (0 ≤ (↑i : Int) ∧ (↑i : Int) < (↑N : Int))) (∃ (x : InS), ∃ (y : InS), [AV.arr u8 32 q1.name, AV.int i64 q1.index, AV.int i64 q1.way, AV.arr u8 32 q1.tag, AV.arr u8 32 q1.also, AV.arr u8 32 q1.secret] = InS.c y ∧ q2 = InS.c x ∧ (InS.Ok x ∧ InS.Ok y) ∧ Z0 (Qk x y) (Z0 (decide ((↑i : Int) = (↑i : Int))) Z3 False) (q2 = q2 ∧ Z0 q3 (Zb g = Zb g ∧ Z0 q3 (Z0 (decide ((↑N : Int) = (↑N : Int))) (Z0 (decide (wrap i64 ((↑i : Int) + 1) = (↑(i + 1) : Int))) Z1 False) False) False) False)) False) Z2) (by kernel_rfl) ?_
 conv => zeta
 try simp only [Zg]
 try simp only [Zh]
 try simp only [Zf]
 try simp only [Int.toNat_natCast, Nat.zero_add, true_and, and_true, Nat.le_refl]
 refine ⟨fun hlt => ⟨by omega, x, g i, rfl, rfl, ⟨hx, hg i (by omega)⟩, fun h => h3 (by omega) h, fun h => ⟨w64 (by omega), h1 (by omega) h⟩⟩, fun hge => h2 (by omega)⟩
def sameAt (g : Nat → InS) (x : InS) : Nat → Bool := fun j => Qk x (g j)
noncomputable def Zi9 (N : Nat) (g : Nat → InS) (x : InS) : Zd := ZgD.withL 73 0 (goL 0 [] (ixS N g x 0) (N < 900000000000 ∧ x.Ok ∧ ∀ i, i < N → (g i).Ok) (Z1i 0 N (fun i => sameAt g x i = false) (fun i => i = N) (fun i => i < N ∧ sameAt g x i = true) ixE ixR))
theorem Ze3 (N : Nat) (g : Nat → InS) (x : InS) : (Zi9 N g x).Ok :=
 Zd.withGo (τ1 := []) (τ2 := []) (τ3 := []) (N := 20) Ze2 (by kernel_rfl) fun hC => ⟨rfl, fun i hi _ => Zkh N g x i _ _ _ hC.1 hC.2.1 hC.2.2 hi (fun h1 h2 => ⟨h2, h1⟩) (fun h => h) (fun h1 h2 => ⟨h1, h2⟩)⟩
theorem Ze4 (N : Nat) (g : Nat → InS) (x : InS) (F : Int) (hN : N < 900000000000) (hx : x.Ok) (hg : ∀ i, i < N → (g i).Ok) (hF : F = Yw (sameAt g x) N) :
  evF (Zi9 N g x) 20 73 [.vrows 130 N (Zb g) N, .func (.func 72) [] [.pview x.c 0]] ⟨0, []⟩ (Yq 0 [] (.int .i64 F) 0 []) := by
 refine @Eq.mpr _ (let q1 := decide (N = N);
 InS.c x = InS.c x ∧ Z0 q1 (Zb g = Zb g ∧ Z0 q1 (Z0 (decide ((↑N : Int) = (↑N : Int))) ((N < 900000000000 ∧ InS.Ok x ∧ ∀ (i : Nat), i < N → InS.Ok (g i)) ∧ ∀ (i : Nat), i ≤ N → (∀ (j : Nat), j < i → (fun (i : Nat) => sameAt g x i = false) j) → (i = N → Z0 (decide (-1 = F)) True False) ∧ (i < N ∧ sameAt g x i = true → Z0 (decide ((↑i : Int) = F)) True False)) False) False) False) (by kernel_rfl) ?_
 conv => zeta
 try simp only [Zg]
 try simp only [Zh]
 try simp only [Zf]
 try simp only [Int.toNat_natCast, Nat.zero_add, true_and, and_true, Nat.le_refl]
 subst hF
 exact ⟨⟨hN, hx, hg⟩, fun i hi hgo => ⟨fun h => by subst h; exact (WJ hgo).symm, fun h => (WI h.1 hgo h.2).symm⟩⟩
theorem Z7V (N : Nat) (g : Nat → InS) (x : InS) (hN : N < 900000000000) (hx : x.Ok) (hg : ∀ i, i < N → (g i).Ok) : ZB PP 73 [.vrows 130 N (Zb g) N, .func (.func 72) [] [.pview x.c 0]] (.int .i64 (Yw (sameAt g x) N)) 0 [] := .ev (Ze3 N g x) (Ze4 N g x _ hN hx hg rfl)
def Zc1 : ZW := fun args h K => ZH none h true 20 args fun a => match a with
 | [.vrows 130 n f m, .func (.func 72) [] [.pview cs 0]] => ∃ g x, f = Zb g ∧ cs = InS.c x ∧ (m = n ∧ n < 900000000000 ∧ x.Ok ∧ ∀ i, i < n → (g i).Ok) ∧ K (.int .i64 (Yw (sameAt g x) n))
 | _ => False
theorem Zai (args : List AV) (h : Z7) (K : AV → Prop) (hl : Zc1 args h K) : Zk PP 73 args h fun o h' => ∃ v, o = .ret v ∧ h' = h ∧ K v := by
 refine ZB.psumm (d := 20) (Zq _ _ _ _ _ hl fun a ha => ?_)
 split at ha
 ·obtain ⟨g, x, rfl, rfl, ⟨rfl, h1, h2, h3⟩, hK⟩ := ha
  exact ⟨_, Z7V _ g x h1 h2 h3, fun _ => rfl, hK⟩
 ·exact ha.elim
def Z49 : Y9 := fun args h K => ZH none h true 20 args fun a => match a with
 | [.vrows 130 n f m] => ∃ g, f = Zb g ∧ (m = n ∧ n < 900000000000) ∧ K (.ret (.nslice ⟨h.next, 0, 130, 0, 0⟩ 130 n n)) ⟨h.next + 1, (h.next, .rows 130 n (Zb (QN n g))) :: h.bs⟩
 | _ => False
theorem Z5b (args : List AV) (h : Z7) (K : KO) (hl : Z49 args h K) : Zk PP 74 args h K := by
 refine ZB.fsumm (d := 20) (Zq _ _ _ _ _ hl fun a ha => ?_)
 split at ha
 ·obtain ⟨g, rfl, ⟨rfl, hN⟩, hK⟩ := ha
  exact ⟨_, _, _, _, Z3A _ _ hN, rfl, ⟨Nat.one_pos, .rows _ _ _ (fun i _ => (QN _ g i).plainC), trivial⟩, hK⟩
 ·exact ha.elim
noncomputable def Zia : Zd := (G0.withP 73 Zc1).withF 74 Z49
theorem Ze5 : Zia.Ok := Zd.withF_ok (Zd.withP_ok Zu Zai) Z5b
@[irreducible] def Uy (N : Nat) (g : Nat → InS) (x : InS) : Bool := Yw (sameAt g x) N != (N : Int) - 1 - Yw (sameAt (QN N g) x) N
theorem Ze6 (N : Nat) (g : Nat → InS) (x : InS) (num : Int) (outs : AV) (F : Bool) (hN : N < 900000000000) (hx : x.Ok) (hg : ∀ i, i < N → (g i).Ok) (hF : F = Uy N g x) :
  evF Zia 20 71 [.agg x.c, .pview [.int .i64 num, .vrows 130 N (Zb g) N, outs] 0] ⟨0, []⟩ (Yq 0 [] (.bool F) 0 []) := by
 refine @Eq.mpr _ (let q1 := Zb g;
 let q2 := decide (N = N);
 ∃ (g : Nat → InS),
 ∃ (x_1 : InS),
 let q5 := [AV.arr u8 32 x.name, AV.int i64 x.index, AV.int i64 x.way, AV.arr u8 32 x.tag, AV.arr u8 32 x.also, AV.arr u8 32 x.secret];
 q1 = Zb g ∧ q5 = InS.c x_1 ∧ (N = N ∧ N < 900000000000 ∧ InS.Ok x_1 ∧ ∀ (i : Nat), i < N → InS.Ok (g i)) ∧ ∃ (g_1 : Nat → InS), q1 = Zb g_1 ∧ (N = N ∧ N < 900000000000) ∧ Z0 (decide ((↑N : Int) = (↑N : Int))) (Z0 q2 (q1 = q1 ∧ Z0 q2 (Z0 (decide (0 + N ≤ N)) ((∀ (i : Nat), i < N → true = true) ∧ ∃ (g_2 : Nat → InS), ∃ (x : InS), Wy 0 (Zb (QN N g_1)) = Zb g_2 ∧ q5 = InS.c x ∧ (N = N ∧ N < 900000000000 ∧ InS.Ok x ∧ ∀ (i : Nat), i < N → InS.Ok (g_2 i)) ∧ Z0 (decide ((Yw (sameAt g x_1) N != wrap i64 (wrap i64 ((↑N : Int) - 1) - Yw (sameAt g_2 x) N)) = F)) True False) False) False) False) False) (by kernel_rfl) ?_
 conv => zeta
 try simp only [Zg]
 try simp only [Zh]
 try simp only [Zf]
 try simp only [Int.toNat_natCast, Nat.zero_add, true_and, and_true, Nat.le_refl]
 subst hF
 have hr : ∀ i, i < N → (QN N g i).Ok := fun i hi => hg _ (by omega)
 refine ⟨g, x, rfl, rfl, ⟨hN, hx, hg⟩, g, rfl, hN, fun _ _ => trivial, QN N g, x, rfl, rfl, ⟨hN, hx, hr⟩, ?_⟩
 have hb := Z6l (sameAt (QN N g) x) N
 rw [w64 (x := (N : Int) - 1) (by omega), w64 (by omega)]
 unfold Uy
 rfl
theorem Z7W (N : Nat) (g : Nat → InS) (x : InS) (num : Int) (outs : AV) (hN : N < 900000000000) (hx : x.Ok) (hg : ∀ i, i < N → (g i).Ok) : ZB PP 71 [.agg x.c, .pview [.int .i64 num, .vrows 130 N (Zb g) N, outs] 0] (.bool (Uy N g x)) 0 [] := .ev Ze5 (Ze6 N g x num outs _ hN hx hg rfl)
def Zc2 : ZW := fun args h K => ZH none h true 20 args fun a => match a with
 | [.agg cs, .pview [.int .i64 num, .vrows 130 n f m, outs] 0] => ∃ g x, f = Zb g ∧ cs = InS.c x ∧ (m = n ∧ n < 900000000000 ∧ x.Ok ∧ ∀ i, i < n → (g i).Ok) ∧ K (.bool (Uy n g x))
 | _ => False
theorem Zaj (args : List AV) (h : Z7) (K : AV → Prop) (hl : Zc2 args h K) : Zk PP 71 args h fun o h' => ∃ v, o = .ret v ∧ h' = h ∧ K v := by
 refine ZB.psumm (d := 20) (Zq _ _ _ _ _ hl fun a ha => ?_)
 split at ha
 ·obtain ⟨g, x, rfl, rfl, ⟨rfl, h1, h2, h3⟩, hK⟩ := ha
  exact ⟨_, Z7W _ g x _ _ h1 h2 h3, fun _ => rfl, hK⟩
 ·exact ha.elim
end Go.Tk
end
section
namespace Go.Tk
open IntKind (i64 u8 u32 u64 wrap)
def U1 (N : Nat) (g : Nat → InS) (y : InS) : Bool := !Y2 y || Uy N g y
noncomputable def Zib : Zd := (G0.withP 71 Zc2).withP 76 (inS Y2)
theorem Ze7 : Zib.Ok := Zd.withP_ok (Zd.withP_ok Zu Zaj) Zgy
theorem Ze8 (N : Nat) (g : Nat → InS) (y : InS) (num : Int) (outs : AV) (F : Bool) (hN : N < 900000000000) (hy : y.Ok) (hg : ∀ i, i < N → (g i).Ok) (hF : F = U1 N g y) :
  evF Zib 20 75 [.agg y.c, .pview [.func (.func 71) [] [.pview [.int .i64 num, .vrows 130 N (Zb g) N, outs] 0]] 0] ⟨0, []⟩ (Yq 0 [] (.bool F) 0 []) := by
 refine @Eq.mpr _ (let q1 := y.name;
 let q2 := y.tag;
 let q3 := y.also;
 let q4 := y.secret;
 Z0 (decide (List.length q1 = 32 ∧ List.length q2 = 32 ∧ List.length q3 = 32 ∧ List.length q4 = 32)) (Z0 (!Y2 (InS.mk q1 y.index y.way q2 q3 q4)) (Z0 (decide (true = F)) True False) (∃ (g_1 : Nat → InS), ∃ (x : InS), Zb g = Zb g_1 ∧ [AV.arr u8 32 q1, AV.int i64 y.index, AV.int i64 y.way, AV.arr u8 32 q2, AV.arr u8 32 q3, AV.arr u8 32 q4] = InS.c x ∧ (N = N ∧ N < 900000000000 ∧ InS.Ok x ∧ ∀ (i : Nat), i < N → InS.Ok (g_1 i)) ∧ Z0 (decide (Uy N g_1 x = F)) True False)) False) (by kernel_rfl) ?_
 conv => zeta
 try simp only [Zg]
 try simp only [Zh]
 try simp only [Zf]
 try simp only [Int.toNat_natCast, Nat.zero_add, true_and, and_true, Nat.le_refl]
 subst hF
 refine ⟨⟨hy.name, hy.tag, hy.also, hy.secret⟩, ?_, ?_⟩
 ·intro h
  have h' : Y2 y = false := by simpa using h
  unfold U1
  rw [h']
  rfl
 ·intro h
  refine ⟨g, y, rfl, rfl, ⟨hN, hy, hg⟩, ?_⟩
  have h' : Y2 y = true := by simpa using h
  unfold U1
  rw [h']
  rfl
def Zc3 : ZW := fun args h K => ZH none h true 20 args fun a => match a with
 | [.agg cs, .pview [.func (.func 71) [] [.pview [.int .i64 num, .vrows 130 n f m, outs] 0]] 0] => ∃ g y, f = Zb g ∧ cs = InS.c y ∧ (m = n ∧ n < 900000000000 ∧ y.Ok ∧ ∀ i, i < n → (g i).Ok) ∧ K (.bool (U1 n g y))
 | _ => False
theorem Zak (args : List AV) (h : Z7) (K : AV → Prop) (hl : Zc3 args h K) : Zk PP 75 args h fun o h' => ∃ v, o = .ret v ∧ h' = h ∧ K v := by
 refine ZB.psumm (d := 20) (Zq _ _ _ _ _ hl fun a ha => ?_)
 split at ha
 ·obtain ⟨g, x, rfl, rfl, ⟨rfl, h1, h2, h3⟩, hK⟩ := ha
  exact ⟨_, .ev Ze7 (Ze8 _ g x _ _ _ h1 h2 h3 rfl), fun _ => rfl, hK⟩
 ·exact ha.elim
noncomputable def ZgE : Zd := G0.withP 75 Zc3
theorem Ze9 : ZgE.Ok := Zd.withP_ok Zu Zak
def YM (N : Nat) (g : Nat → InS) : Nat → Bool := fun j => U1 N g (g j)
def ZgF (N : Nat) (g : Nat → InS) (num : Int) (outs : AV) (i : Nat) : St := ⟨19, [(1, .func (.func 75) [] [.pview [.func (.func 71) [] [.pview [.int .i64 num, .vrows 130 N (Zb g) N, outs] 0]] 0]), (0, .vrows 130 N (Zb g) N), (7, .int .i64 N), (8, .int .i64 i)], ⟨0, []⟩, []⟩
def Zic (i : Nat) : St := ⟨19, [(4, .int .i64 i)], ⟨0, []⟩, []⟩
def Zid (_ : Nat) : St := ⟨19, [], ⟨0, []⟩, []⟩
theorem Zie (N : Nat) (g : Nat → InS) (num : Int) (outs : AV) (i : Nat) (Z1 Z2 Z3 : Prop) (hC : N < 900000000000 ∧ ∀ i, i < N → (g i).Ok) (hi : i ≤ N) (h1 : i < N → YM N g i = false → Z1) (h2 : i = N → Z2) (h3 : i < N → YM N g i = true → Z3) :
  ZF ZgE 20 73 0 0 (ZgF N g num outs i) (fun e s => match e with | .normal => ZZ 0 [] (ZgF N g num outs (i + 1)) s Z1 | .exit x => (match Nat.beq x 0 with | true => ZZ 0 [] (Zid i) s Z2 | false => False) | .ret => ZZ 0 [] (Zic i) s Z3 | _ => False) := by
 refine @Eq.mpr _ (let q1 := Zb g;
 let q2 := g (Int.toNat (↑i : Int));
 let q3 := [AV.func (Fn.func 71) [] [AV.pview [AV.int i64 num, AV.vrows 130 N q1 N, outs] 0]];
 let q4 := decide (N = N);
 Z0 (decide ((↑i : Int) < (↑N : Int))) (Z0 (decide (0 ≤ (↑i : Int) ∧ (↑i : Int) < (↑N : Int))) (∃ (g : Nat → InS), ∃ (y : InS), q1 = Zb g ∧ [AV.arr u8 32 q2.name, AV.int i64 q2.index, AV.int i64 q2.way, AV.arr u8 32 q2.tag, AV.arr u8 32 q2.also, AV.arr u8 32 q2.secret] = InS.c y ∧ (N = N ∧ N < 900000000000 ∧ InS.Ok y ∧ ∀ (i : Nat), i < N → InS.Ok (g i)) ∧ Z0 (U1 N g y) (Z0 (decide ((↑i : Int) = (↑i : Int))) Z3 False) (q3 = q3 ∧ Z0 q4 (q1 = q1 ∧ Z0 q4 (Z0 (decide ((↑N : Int) = (↑N : Int))) (Z0 (decide (wrap i64 ((↑i : Int) + 1) = (↑(i + 1) : Int))) Z1 False) False) False) False)) False) Z2) (by kernel_rfl) ?_
 conv => zeta
 try simp only [Zg]
 try simp only [Zh]
 try simp only [Zf]
 try simp only [Int.toNat_natCast, Nat.zero_add, true_and, and_true, Nat.le_refl]
 refine ⟨fun hlt => ⟨by omega, g, g i, rfl, rfl, ⟨hC.1, hC.2 i (by omega), hC.2⟩, fun h => h3 (by omega) h, fun h => ⟨w64 (by omega), h1 (by omega) h⟩⟩, fun hge => h2 (by omega)⟩
noncomputable def Zif (N : Nat) (g : Nat → InS) (num : Int) (outs : AV) : Zd := ZgE.withL 73 0 (goL 0 [] (ZgF N g num outs 0) (N < 900000000000 ∧ ∀ i, i < N → (g i).Ok) (Z1i 0 N (fun i => YM N g i = false) (fun i => i = N) (fun i => i < N ∧ YM N g i = true) Zid Zic))
theorem Zea (N : Nat) (g : Nat → InS) (num : Int) (outs : AV) : (Zif N g num outs).Ok :=
 Zd.withGo (τ1 := []) (τ2 := []) (τ3 := []) (N := 20) Ze9 (by kernel_rfl) fun hC => ⟨rfl, fun i hi _ => Zie N g num outs i _ _ _ hC hi (fun h1 h2 => ⟨h2, h1⟩) (fun h => h) (fun h1 h2 => ⟨h1, h2⟩)⟩
theorem Zig (N : Nat) (g : Nat → InS) (num : Int) (outs : AV) (F : Int) (hC : N < 900000000000 ∧ ∀ i, i < N → (g i).Ok) (hF : F = Yw (YM N g) N) :
  evF (Zif N g num outs) 20 73 [.vrows 130 N (Zb g) N, .func (.func 75) [] [.pview [.func (.func 71) [] [.pview [.int .i64 num, .vrows 130 N (Zb g) N, outs] 0]] 0]] ⟨0, []⟩ (Yq 0 [] (.int .i64 F) 0 []) := by
 refine @Eq.mpr _ (let q1 := Zb g;
 let q2 := [AV.func (Fn.func 71) [] [AV.pview [AV.int i64 num, AV.vrows 130 N q1 N, outs] 0]];
 let q3 := decide (N = N);
 q2 = q2 ∧ Z0 q3 (q1 = q1 ∧ Z0 q3 (Z0 (decide ((↑N : Int) = (↑N : Int))) ((N < 900000000000 ∧ ∀ (i : Nat), i < N → InS.Ok (g i)) ∧ ∀ (i : Nat), i ≤ N → (∀ (j : Nat), j < i → (fun (i : Nat) => YM N g i = false) j) → (i = N → Z0 (decide (-1 = F)) True False) ∧ (i < N ∧ YM N g i = true → Z0 (decide ((↑i : Int) = F)) True False)) False) False) False) (by kernel_rfl) ?_
 conv => zeta
 try simp only [Zg]
 try simp only [Zh]
 try simp only [Zf]
 try simp only [Int.toNat_natCast, Nat.zero_add, true_and, and_true, Nat.le_refl]
 subst hF
 exact ⟨hC, fun i hi hgo => ⟨fun h => by subst h; exact (WJ hgo).symm, fun h => (WI h.1 hgo h.2).symm⟩⟩
theorem Zc4 (N : Nat) (g : Nat → InS) (num : Int) (outs : AV) (hC : N < 900000000000 ∧ ∀ i, i < N → (g i).Ok) : ZB PP 73 [.vrows 130 N (Zb g) N, .func (.func 75) [] [.pview [.func (.func 71) [] [.pview [.int .i64 num, .vrows 130 N (Zb g) N, outs] 0]] 0]] (.int .i64 (Yw (YM N g) N)) 0 [] := .ev (Zea N g num outs) (Zig N g num outs _ hC rfl)
theorem VD (p : Nat → Bool) (n : Nat) : decide (0 ≤ Yw p n) = (List.range n).any p := by
 rcases V6 p n with ⟨h, h2⟩ | ⟨i, hi, h, h2, _⟩
 ·rw [h]
  have : (List.range n).any p = false := by
   rw [List.any_eq_false]
   intro j hj
   simp [h2 j (List.mem_range.1 hj)]
  rw [this]; rfl
 ·rw [h]
  have : (List.range n).any p = true := List.any_eq_true.2 ⟨i, List.mem_range.2 hi, h2⟩
  rw [this]; simp
def Zih : ZW := fun args h K => ZH none h true 20 args fun a => match a with
 | [.vrows 130 n f m, .func (.func 75) [] [.pview [.func (.func 71) [] [.pview [.int .i64 num, .vrows 130 n' f' m', outs] 0]] 0]] => ∃ g, f = Zb g ∧ f' = Zb g ∧ (m = n ∧ n' = n ∧ m' = n ∧ n < 900000000000 ∧ ∀ i, i < n → (g i).Ok) ∧ K (.int .i64 (Yw (YM n g) n))
 | _ => False
theorem Zeb (args : List AV) (h : Z7) (K : AV → Prop) (hl : Zih args h K) : Zk PP 73 args h fun o h' => ∃ v, o = .ret v ∧ h' = h ∧ K v := by
 refine ZB.psumm (d := 20) (Zq _ _ _ _ _ hl fun a ha => ?_)
 split at ha
 ·obtain ⟨g, rfl, rfl, ⟨rfl, rfl, rfl, h1, h2⟩, hK⟩ := ha
  exact ⟨_, Zc4 _ g _ _ ⟨h1, h2⟩, fun _ => rfl, hK⟩
 ·exact ha.elim
noncomputable def Zii : Zd := G0.withP 56 (ZdX ZL)
theorem Zec : Zii.Ok := Zd.withP_ok Zu Z8X
def QO (o : Zs) : Bool := !ZL o
theorem Zc5 (o : Zs) (F : Bool) (ho : o.Ok) (hF : F = QO o) :
  evF Zii 20 81 [.agg o.c] ⟨0, []⟩ (Yq 0 [] (.bool F) 0 []) := by
 refine @Eq.mpr _ (Z0 (decide (List.length o.owner = 32 ∧ List.length o.other = 32 ∧ List.length o.point = 32 ∧ List.length o.hash = 32)) (Z0 (decide ((!ZL (Zs.mk o.kind o.amount o.owner o.other o.point o.hash o.delay o.expiry)) = F)) True False) False) (by kernel_rfl) ?_
 try simp only [Zg]
 try simp only [Zh]
 try simp only [Zf]
 try simp only [Int.toNat_natCast, Nat.zero_add, true_and, and_true, Nat.le_refl]
 subst hF
 exact ⟨⟨ho.owner, ho.other, ho.point, ho.hash⟩, rfl⟩
def Z93 : ZW := fun args h K => ZH none h true 20 args fun a => match a with
 | [.agg cs] => ∃ o, cs = Zs.c o ∧ o.Ok ∧ K (.bool (QO o))
 | _ => False
theorem Z7X (args : List AV) (h : Z7) (K : AV → Prop) (hl : Z93 args h K) : Zk PP 81 args h fun o h' => ∃ v, o = .ret v ∧ h' = h ∧ K v := by
 refine ZB.psumm (d := 20) (Zq _ _ _ _ _ hl fun a ha => ?_)
 split at ha
 ·obtain ⟨x, rfl, h1, hK⟩ := ha
  exact ⟨_, .ev Zec (Zc5 x _ h1 rfl), fun _ => rfl, hK⟩
 ·exact ha.elim
noncomputable def ZgG : Zd := G0.withP 81 Z93
theorem Zed : ZgG.Ok := Zd.withP_ok Zu Z7X
def Yu (g : Nat → Zs) : Nat → Bool := fun j => QO (g j)
def ZgH (N : Nat) (g : Nat → Zs) (i : Nat) : St := ⟨19, [(1, .func (.func 81) [] []), (0, .vrows 132 N (Z8 g) N), (7, .int .i64 N), (8, .int .i64 i)], ⟨0, []⟩, []⟩
def Zij (i : Nat) : St := ⟨19, [(4, .int .i64 i)], ⟨0, []⟩, []⟩
def Zik (_ : Nat) : St := ⟨19, [], ⟨0, []⟩, []⟩
theorem Zil (N : Nat) (g : Nat → Zs) (i : Nat) (Z1 Z2 Z3 : Prop) (hC : N < 900000000000 ∧ ∀ i, i < N → (g i).Ok) (hi : i ≤ N) (h1 : i < N → Yu g i = false → Z1) (h2 : i = N → Z2) (h3 : i < N → Yu g i = true → Z3) :
  ZF ZgG 20 127 0 0 (ZgH N g i) (fun e s => match e with | .normal => ZZ 0 [] (ZgH N g (i + 1)) s Z1 | .exit x => (match Nat.beq x 0 with | true => ZZ 0 [] (Zik i) s Z2 | false => False) | .ret => ZZ 0 [] (Zij i) s Z3 | _ => False) := by
 refine @Eq.mpr _ (let q1 := g (Int.toNat (↑i : Int));
 let q2 := decide (N = N);
 Z0 (decide ((↑i : Int) < (↑N : Int))) (Z0 (decide (0 ≤ (↑i : Int) ∧ (↑i : Int) < (↑N : Int))) (∃ (o : Zs), [AV.int i64 q1.kind, AV.int i64 q1.amount, AV.arr u8 32 q1.owner, AV.arr u8 32 q1.other, AV.arr u8 32 q1.point, AV.arr u8 32 q1.hash, AV.int i64 q1.delay, AV.int i64 q1.expiry] = Zs.c o ∧ Zs.Ok o ∧ Z0 (QO o) (Z0 (decide ((↑i : Int) = (↑i : Int))) Z3 False) (Z0 q2 (Z8 g = Z8 g ∧ Z0 q2 (Z0 (decide ((↑N : Int) = (↑N : Int))) (Z0 (decide (wrap i64 ((↑i : Int) + 1) = (↑(i + 1) : Int))) Z1 False) False) False) False)) False) Z2) (by kernel_rfl) ?_
 conv => zeta
 try simp only [Zg]
 try simp only [Zh]
 try simp only [Zf]
 try simp only [Int.toNat_natCast, Nat.zero_add, true_and, and_true, Nat.le_refl]
 refine ⟨fun hlt => ⟨by omega, g i, rfl, hC.2 i (by omega), fun h => h3 (by omega) h, fun h => ⟨w64 (by omega), h1 (by omega) h⟩⟩, fun hge => h2 (by omega)⟩
noncomputable def Zim (N : Nat) (g : Nat → Zs) : Zd := ZgG.withL 127 0 (goL 0 [] (ZgH N g 0) (N < 900000000000 ∧ ∀ i, i < N → (g i).Ok) (Z1i 0 N (fun i => Yu g i = false) (fun i => i = N) (fun i => i < N ∧ Yu g i = true) Zik Zij))
theorem Zee (N : Nat) (g : Nat → Zs) : (Zim N g).Ok :=
 Zd.withGo (τ1 := []) (τ2 := []) (τ3 := []) (N := 20) Zed (by kernel_rfl) fun hC => ⟨rfl, fun i hi _ => Zil N g i _ _ _ hC hi (fun h1 h2 => ⟨h2, h1⟩) (fun h => h) (fun h1 h2 => ⟨h1, h2⟩)⟩
theorem Zin (N : Nat) (g : Nat → Zs) (F : Int) (hC : N < 900000000000 ∧ ∀ i, i < N → (g i).Ok) (hF : F = Yw (Yu g) N) :
  evF (Zim N g) 20 127 [.vrows 132 N (Z8 g) N, .func (.func 81) [] []] ⟨0, []⟩ (Yq 0 [] (.int .i64 F) 0 []) := by
 refine @Eq.mpr _ (let q1 := decide (N = N);
 Z0 q1 (Z8 g = Z8 g ∧ Z0 q1 (Z0 (decide ((↑N : Int) = (↑N : Int))) ((N < 900000000000 ∧ ∀ (i : Nat), i < N → Zs.Ok (g i)) ∧ ∀ (i : Nat), i ≤ N → (∀ (j : Nat), j < i → (fun (i : Nat) => Yu g i = false) j) → (i = N → Z0 (decide (-1 = F)) True False) ∧ (i < N ∧ Yu g i = true → Z0 (decide ((↑i : Int) = F)) True False)) False) False) False) (by kernel_rfl) ?_
 conv => zeta
 try simp only [Zg]
 try simp only [Zh]
 try simp only [Zf]
 try simp only [Int.toNat_natCast, Nat.zero_add, true_and, and_true, Nat.le_refl]
 subst hF
 exact ⟨hC, fun i hi hgo => ⟨fun h => by subst h; exact (WJ hgo).symm, fun h => (WI h.1 hgo h.2).symm⟩⟩
theorem Zc6 (N : Nat) (g : Nat → Zs) (hC : N < 900000000000 ∧ ∀ i, i < N → (g i).Ok) : ZB PP 127 [.vrows 132 N (Z8 g) N, .func (.func 81) [] []] (.int .i64 (Yw (Yu g) N)) 0 [] := .ev (Zee N g) (Zin N g _ hC rfl)
def Zio : ZW := fun args h K => ZH none h true 20 args fun a => match a with
 | [.vrows 132 n f m, .func (.func 81) [] []] => ∃ g, f = Z8 g ∧ (m = n ∧ n < 900000000000 ∧ ∀ i, i < n → (g i).Ok) ∧ K (.int .i64 (Yw (Yu g) n))
 | _ => False
theorem Zef (args : List AV) (h : Z7) (K : AV → Prop) (hl : Zio args h K) : Zk PP 127 args h fun o h' => ∃ v, o = .ret v ∧ h' = h ∧ K v := by
 refine ZB.psumm (d := 20) (Zq _ _ _ _ _ hl fun a ha => ?_)
 split at ha
 ·obtain ⟨g, rfl, ⟨rfl, h1, h2⟩, hK⟩ := ha
  exact ⟨_, Zc6 _ g ⟨h1, h2⟩, fun _ => rfl, hK⟩
 ·exact ha.elim
end Go.Tk
end
section
namespace Go.Tk
open IntKind (i64 u8 u32 u64 wrap)
def W1 (m x : Int) : Bool := decide (x < 0 ∨ x > m)
theorem ZgI (m x : Int) (F : Bool) (hF : F = W1 m x) :
  evF G0 20 155 [.int .i64 x, .pview [.int .i64 m] 0] ⟨0, []⟩ (Yq 0 [] (.bool F) 0 []) := by
 refine @Eq.mpr _ (Z0 (decide (x < 0)) (Z0 (decide (true = F)) True False) (Z0 (decide (decide (x > m) = F)) True False)) (by kernel_rfl) ?_
 try simp only [Zg]
 try simp only [Zh]
 try simp only [Zf]
 try simp only [Int.toNat_natCast, Nat.zero_add, true_and, and_true, Nat.le_refl]
 subst hF
 unfold W1
 refine ⟨fun h => ?_, fun h => ?_⟩ <;> simp [h]
theorem Zeg (x : Int) (F : Bool) (hF : F = W1 4611686018427387904 x) :
  evF G0 20 160 [.int .i64 x] ⟨0, []⟩ (Yq 0 [] (.bool F) 0 []) := by
 refine @Eq.mpr _ (Z0 (decide (x < 0)) (Z0 (decide (true = F)) True False) (Z0 (decide (decide (x > 4611686018427387904) = F)) True False)) (by kernel_rfl) ?_
 try simp only [Zg]
 try simp only [Zh]
 try simp only [Zf]
 try simp only [Int.toNat_natCast, Nat.zero_add, true_and, and_true, Nat.le_refl]
 subst hF
 unfold W1
 refine ⟨fun h => ?_, fun h => ?_⟩ <;> simp [h]
def ZfY : ZW := fun args h K => ZH none h true 20 args fun a => match a with
 | [.int .i64 x, .pview [.int .i64 m] 0] => K (.bool (W1 m x))
 | _ => False
theorem Zc7 (args : List AV) (h : Z7) (K : AV → Prop) (hl : ZfY args h K) : Zk PP 155 args h fun o h' => ∃ v, o = .ret v ∧ h' = h ∧ K v := by
 refine ZB.psumm (d := 20) (Zq _ _ _ _ _ hl fun a ha => ?_)
 split at ha
 ·exact ⟨_, .ev Zu (ZgI _ _ _ rfl), fun _ => rfl, ha⟩
 ·exact ha.elim
def Zc8 (T : Int) : ZW := fun args h K => ZH none h true 20 args fun a => match a with
 | [.int .i64 x] => K (.bool (W1 T x))
 | _ => False
theorem Zal (args : List AV) (h : Z7) (K : AV → Prop) (hl : Zc8 4611686018427387904 args h K) : Zk PP 160 args h fun o h' => ∃ v, o = .ret v ∧ h' = h ∧ K v := by
 refine ZB.psumm (d := 20) (Zq _ _ _ _ _ hl fun a ha => ?_)
 split at ha
 ·exact ⟨_, .ev Zu (Zeg _ _ rfl), fun _ => rfl, ha⟩
 ·exact ha.elim
noncomputable def Zip (T : Int) : Zd := (G0.withP 155 ZfY).withP 160 (Zc8 T)
theorem Zeh : (Zip 4611686018427387904).Ok := Zd.withP_ok (Zd.withP_ok Zu Zc7) Zal
def Yb (m : Int) (xs : List Int) : Nat → Bool := fun j => W1 m (xs.getD j 0)
noncomputable def Zc9 : Zd := Zip 4611686018427387904
theorem Z94 : Zc9.Ok := Zeh
def ZgJ (xs : List Int) (N : Nat) (m : Int) (i : Nat) : St := ⟨19, [(1, .func (.func 155) [] [.pview [.int .i64 m] 0]), (0, .vints .i64 xs N), (7, .int .i64 N), (8, .int .i64 i)], ⟨0, []⟩, []⟩
def Ziq (i : Nat) : St := ⟨19, [(4, .int .i64 i)], ⟨0, []⟩, []⟩
def Zir (_ : Nat) : St := ⟨19, [], ⟨0, []⟩, []⟩
theorem Zis (xs : List Int) (N : Nat) (m : Int) (i : Nat) (Z1 Z2 Z3 : Prop) (hC : N < 900000000000 ∧ xs.length = N) (hi : i ≤ N) (h1 : i < N → Yb m xs i = false → Z1) (h2 : i = N → Z2) (h3 : i < N → Yb m xs i = true → Z3) :
  ZF Zc9 20 186 0 0 (ZgJ xs N m i) (fun e s => match e with | .normal => ZZ 0 [] (ZgJ xs N m (i + 1)) s Z1 | .exit x => (match Nat.beq x 0 with | true => ZZ 0 [] (Zir i) s Z2 | false => False) | .ret => ZZ 0 [] (Ziq i) s Z3 | _ => False) := by
 refine @Eq.mpr _ (let q1 := [AV.int i64 m];
 Z0 (decide ((↑i : Int) < (↑N : Int))) (Z0 (decide (0 ≤ (↑i : Int) ∧ (↑i : Int) < (↑N : Int))) (Z0 (W1 m (List.getD xs (Int.toNat (↑i : Int)) 0)) (Z0 (decide ((↑i : Int) = (↑i : Int))) Z3 False) (q1 = q1 ∧ xs = xs ∧ Z0 (decide (N = N)) (Z0 (decide ((↑N : Int) = (↑N : Int))) (Z0 (decide (wrap i64 ((↑i : Int) + 1) = (↑(i + 1) : Int))) Z1 False) False) False)) False) Z2) (by kernel_rfl) ?_
 conv => zeta
 try simp only [Zg]
 try simp only [Zh]
 try simp only [Zf]
 try simp only [Int.toNat_natCast, Nat.zero_add, true_and, and_true, Nat.le_refl]
 refine ⟨fun hlt => ⟨by omega, fun h => h3 (by omega) h, fun h => ⟨w64 (by omega), h1 (by omega) h⟩⟩, fun hge => h2 (by omega)⟩
noncomputable def Zit (xs : List Int) (N : Nat) (m : Int) : Zd := Zc9.withL 186 0 (goL 0 [] (ZgJ xs N m 0) (N < 900000000000 ∧ xs.length = N) (Z1i 0 N (fun i => Yb m xs i = false) (fun i => i = N) (fun i => i < N ∧ Yb m xs i = true) Zir Ziq))
theorem Zei (xs : List Int) (N : Nat) (m : Int) : (Zit xs N m).Ok :=
 Zd.withGo (τ1 := []) (τ2 := []) (τ3 := []) (N := 20) Z94 (by kernel_rfl) fun hC => ⟨rfl, fun i hi _ => Zis xs N m i _ _ _ hC hi (fun h1 h2 => ⟨h2, h1⟩) (fun h => h) (fun h1 h2 => ⟨h1, h2⟩)⟩
theorem Ziu (xs : List Int) (N : Nat) (m : Int) (F : Int) (hC : N < 900000000000 ∧ xs.length = N) (hF : F = Yw (Yb m xs) N) :
  evF (Zit xs N m) 20 186 [.vints .i64 xs N, .func (.func 155) [] [.pview [.int .i64 m] 0]] ⟨0, []⟩ (Yq 0 [] (.int .i64 F) 0 []) := by
 refine @Eq.mpr _ (let q1 := [AV.int i64 m];
 q1 = q1 ∧ xs = xs ∧ Z0 (decide (N = N)) (Z0 (decide ((↑N : Int) = (↑N : Int))) ((N < 900000000000 ∧ List.length xs = N) ∧ ∀ (i : Nat), i ≤ N → (∀ (j : Nat), j < i → (fun (i : Nat) => Yb m xs i = false) j) → (i = N → Z0 (decide (-1 = F)) True False) ∧ (i < N ∧ Yb m xs i = true → Z0 (decide ((↑i : Int) = F)) True False)) False) False) (by kernel_rfl) ?_
 conv => zeta
 try simp only [Zg]
 try simp only [Zh]
 try simp only [Zf]
 try simp only [Int.toNat_natCast, Nat.zero_add, true_and, and_true, Nat.le_refl]
 subst hF
 exact ⟨hC, fun i hi hgo => ⟨fun h => by subst h; exact (WJ hgo).symm, fun h => (WI h.1 hgo h.2).symm⟩⟩
theorem Zca (xs : List Int) (N : Nat) (m : Int) (hC : N < 900000000000 ∧ xs.length = N) : ZB PP 186 [.vints .i64 xs N, .func (.func 155) [] [.pview [.int .i64 m] 0]] (.int .i64 (Yw (Yb m xs) N)) 0 [] := .ev (Zei xs N m) (Ziu xs N m _ hC rfl)
def ZgK (xs : List Int) (N : Nat) (i : Nat) : St := ⟨19, [(1, .func (.func 160) [] []), (0, .vints .i64 xs N), (7, .int .i64 N), (8, .int .i64 i)], ⟨0, []⟩, []⟩
def Ziv (i : Nat) : St := ⟨19, [(4, .int .i64 i)], ⟨0, []⟩, []⟩
def Ziw (_ : Nat) : St := ⟨19, [], ⟨0, []⟩, []⟩
theorem Zix (xs : List Int) (N : Nat) (i : Nat) (Z1 Z2 Z3 : Prop) (hC : N < 900000000000 ∧ xs.length = N) (hi : i ≤ N) (h1 : i < N → Yb 4611686018427387904 xs i = false → Z1) (h2 : i = N → Z2) (h3 : i < N → Yb 4611686018427387904 xs i = true → Z3) :
  ZF Zc9 20 186 0 0 (ZgK xs N i) (fun e s => match e with | .normal => ZZ 0 [] (ZgK xs N (i + 1)) s Z1 | .exit x => (match Nat.beq x 0 with | true => ZZ 0 [] (Ziw i) s Z2 | false => False) | .ret => ZZ 0 [] (Ziv i) s Z3 | _ => False) := by
 refine @Eq.mpr _ (Z0 (decide ((↑i : Int) < (↑N : Int))) (Z0 (decide (0 ≤ (↑i : Int) ∧ (↑i : Int) < (↑N : Int))) (Z0 (W1 4611686018427387904 (List.getD xs (Int.toNat (↑i : Int)) 0)) (Z0 (decide ((↑i : Int) = (↑i : Int))) Z3 False) (xs = xs ∧ Z0 (decide (N = N)) (Z0 (decide ((↑N : Int) = (↑N : Int))) (Z0 (decide (wrap i64 ((↑i : Int) + 1) = (↑(i + 1) : Int))) Z1 False) False) False)) False) Z2) (by kernel_rfl) ?_
 try simp only [Zg]
 try simp only [Zh]
 try simp only [Zf]
 try simp only [Int.toNat_natCast, Nat.zero_add, true_and, and_true, Nat.le_refl]
 refine ⟨fun hlt => ⟨by omega, fun h => h3 (by omega) h, fun h => ⟨w64 (by omega), h1 (by omega) h⟩⟩, fun hge => h2 (by omega)⟩
noncomputable def Ziy (xs : List Int) (N : Nat) : Zd := Zc9.withL 186 0 (goL 0 [] (ZgK xs N 0) (N < 900000000000 ∧ xs.length = N) (Z1i 0 N (fun i => Yb 4611686018427387904 xs i = false) (fun i => i = N) (fun i => i < N ∧ Yb 4611686018427387904 xs i = true) Ziw Ziv))
theorem Zej (xs : List Int) (N : Nat) : (Ziy xs N).Ok :=
 Zd.withGo (τ1 := []) (τ2 := []) (τ3 := []) (N := 20) Z94 (by kernel_rfl) fun hC => ⟨rfl, fun i hi _ => Zix xs N i _ _ _ hC hi (fun h1 h2 => ⟨h2, h1⟩) (fun h => h) (fun h1 h2 => ⟨h1, h2⟩)⟩
theorem Ziz (xs : List Int) (N : Nat) (F : Int) (hC : N < 900000000000 ∧ xs.length = N) (hF : F = Yw (Yb 4611686018427387904 xs) N) :
  evF (Ziy xs N) 20 186 [.vints .i64 xs N, .func (.func 160) [] []] ⟨0, []⟩ (Yq 0 [] (.int .i64 F) 0 []) := by
 refine @Eq.mpr _ (xs = xs ∧ Z0 (decide (N = N)) (Z0 (decide ((↑N : Int) = (↑N : Int))) ((N < 900000000000 ∧ List.length xs = N) ∧ ∀ (i : Nat), i ≤ N → (∀ (j : Nat), j < i → (fun (i : Nat) => Yb 4611686018427387904 xs i = false) j) → (i = N → Z0 (decide (-1 = F)) True False) ∧ (i < N ∧ Yb 4611686018427387904 xs i = true → Z0 (decide ((↑i : Int) = F)) True False)) False) False) (by kernel_rfl) ?_
 try simp only [Zg]
 try simp only [Zh]
 try simp only [Zf]
 try simp only [Int.toNat_natCast, Nat.zero_add, true_and, and_true, Nat.le_refl]
 subst hF
 exact ⟨hC, fun i hi hgo => ⟨fun h => by subst h; exact (WJ hgo).symm, fun h => (WI h.1 hgo h.2).symm⟩⟩
theorem Zcb (xs : List Int) (N : Nat) (hC : N < 900000000000 ∧ xs.length = N) : ZB PP 186 [.vints .i64 xs N, .func (.func 160) [] []] (.int .i64 (Yw (Yb 4611686018427387904 xs) N)) 0 [] := .ev (Zej xs N) (Ziz xs N _ hC rfl)
def ZiA (T : Int) : ZW := fun args h K => ZH none h true 20 args fun a => match a with
 | [.vints .i64 xs n, .func (.func 155) [] [.pview [.int .i64 m] 0]] => Zw (xs.length = n ∧ n < 900000000000) (K (.int .i64 (Yw (Yb m xs) n)))
 | [.vints .i64 xs n, .func (.func 160) [] []] => Zw (xs.length = n ∧ n < 900000000000) (K (.int .i64 (Yw (Yb T xs) n)))
 | _ => False
theorem Zek (args : List AV) (h : Z7) (K : AV → Prop) (hl : ZiA 4611686018427387904 args h K) : Zk PP 186 args h fun o h' => ∃ v, o = .ret v ∧ h' = h ∧ K v := by
 refine ZB.psumm (d := 20) (Zq _ _ _ _ _ hl fun a ha => ?_)
 split at ha
 ·obtain ⟨⟨h1, h2⟩, hK⟩ := Za ha
  exact ⟨_, Zca _ _ _ ⟨h2, h1⟩, fun _ => rfl, hK⟩
 ·obtain ⟨⟨h1, h2⟩, hK⟩ := Za ha
  exact ⟨_, Zcb _ _ ⟨h2, h1⟩, fun _ => rfl, hK⟩
 ·exact ha.elim
noncomputable def ZiB (T : Int) : Zd := G0.withP 186 (ZiA T)
theorem Zel : (ZiB 4611686018427387904).Ok := Zd.withP_ok Zu Zek
@[irreducible] def allIn (m : Int) (xs : List Int) : Bool := !((List.range xs.length).any (Yb m xs))
theorem Zem (T : Int) (xs : List Int) (N : Nat) (F : Int) (hC : N < 900000000000 ∧ xs.length = N) (hF : F = if allIn 1125899906842624 xs then 0 else 2) :
  evF (ZiB T) 20 63 [.vints .i64 xs N] ⟨0, []⟩ (Yq 0 [] (.int .i64 F) 0 []) := by
 refine @Eq.mpr _ (Z0 (decide (List.length xs = N ∧ N < 900000000000)) (Z0 (!!decide (Yw (Yb 1125899906842624 xs) N ≥ 0)) (Z0 (decide (2 = F)) True False) (Z0 (decide (0 = F)) True False)) False) (by kernel_rfl) ?_
 try simp only [Zg]
 try simp only [Zh]
 try simp only [Zf]
 try simp only [Int.toNat_natCast, Nat.zero_add, true_and, and_true, Nat.le_refl]
 obtain ⟨h1, h2⟩ := hC
 subst h2
 have hb := VD (Yb 1125899906842624 xs) xs.length
 refine ⟨⟨rfl, h1⟩, fun h => ?_, fun h => ?_⟩
 ·rw [hF]
  unfold allIn
  rw [← hb]
  simp at h
  simp [h]
 ·rw [hF]
  unfold allIn
  rw [← hb]
  simp at h
  simp [h]
def Zcc (m : Int) : ZW := fun args h K => ZH none h true 20 args fun a => match a with
 | [.vints .i64 xs n] => Zw (xs.length = n ∧ n < 900000000000) (Z0 (allIn m xs) (K (.int .i64 0)) (K (.int .i64 2)))
 | _ => False
theorem Zam (args : List AV) (h : Z7) (K : AV → Prop) (hl : Zcc 1125899906842624 args h K) : Zk PP 63 args h fun o h' => ∃ v, o = .ret v ∧ h' = h ∧ K v := by
 refine ZB.psumm (d := 20) (Zq _ _ _ _ _ hl fun a ha => ?_)
 split at ha
 ·obtain ⟨⟨h1, h2⟩, hK⟩ := Za ha
  refine ⟨_, .ev (Zel) (Zem _ _ _ _ ⟨h2, h1⟩ rfl), fun _ => rfl, ?_⟩
  rw [Zf] at hK
  split
  ·rename_i h; exact hK.1 h
  ·rename_i h; exact hK.2 (by simpa using h)
 ·exact ha.elim
end Go.Tk
end
section
namespace Go.Tk
open IntKind (i64 u8 u32 u64 wrap)
def W2 (xs : List Int) (i : Nat) : Int := (xs.take i).sum
theorem Z0T {xs : List Int} {i : Nat} (h : i < xs.length) : W2 xs (i + 1) = W2 xs i + xs.getD i 0 := by
 unfold W2
 rw [List.take_succ_eq_append_getElem h, List.sum_append]
 simp [List.getD_eq_getElem?_getD, h]
theorem Z0U {m : Int} {xs : List Int} (h : allIn m xs = true) {i : Nat} (hi : i < xs.length) : 0 ≤ xs.getD i 0 ∧ xs.getD i 0 ≤ m := by
 unfold allIn at h
 rw [Bool.not_eq_true'] at h
 rw [List.any_eq_false] at h
 have := h i (List.mem_range.2 hi)
 simp [Yb, W1, -List.getD_eq_getElem?_getD] at this
 exact this
theorem Z6m {m : Int} {xs : List Int} (h : allIn m xs = true) : ∀ {i : Nat}, i ≤ xs.length → 0 ≤ W2 xs i
 | 0, _ => by simp [W2]
 | i + 1, hi => by
  rw [Z0T (by omega)]
  have := Z0U h (i := i) (by omega)
  have := Z6m h (i := i) (by omega)
  omega
theorem Z4a {m : Int} {xs : List Int} (h : allIn m xs = true) : ∀ (d i : Nat), i + d ≤ xs.length → W2 xs i ≤ W2 xs (i + d)
 | 0, i, _ => Int.le_refl _
 | d + 1, i, hi => by
  have h1 := Z4a h d i (by omega)
  rw [← Nat.add_assoc, Z0T (by omega)]
  have := Z0U h (i := i + d) (by omega)
  omega
def adS (xs : List Int) (i : Nat) : St := ⟨24, [(10, .vints .i64 xs xs.length), (3, .int .i64 150), (11, .int .i64 xs.length), (12, .int .i64 i), (2, .int .i64 (W2 xs i))], ⟨0, []⟩, []⟩
def adE (xs : List Int) (i : Nat) : St := ⟨24, [(3, .int .i64 150), (2, .int .i64 (W2 xs i))], ⟨0, []⟩, []⟩
def adJ (_ : Nat) : St := ⟨24, [(3, .int .i64 150)], ⟨0, []⟩, []⟩
theorem ZiC (xs : List Int) (i : Nat) (Z1 Z2 Z4 : Prop) (M : Int) (hM : M = 1125899906842624) (hn : xs.length < 900000000000) (hall : allIn M xs = true) (hi : i ≤ xs.length) (hgo : ∀ j, j < i → W2 xs (j + 1) ≤ M) (h1 : i < xs.length → W2 xs (i + 1) ≤ M → Z1) (h2 : i = xs.length → Z2) (h4 : i < xs.length → M < W2 xs (i + 1) → Z4) :
  ZF G0 20 40 0 0 (adS xs i) (fun e s => match e with | .normal => ZZ 0 [] (adS xs (i + 1)) s Z1 | .exit x => (match Nat.beq x 0 with | true => ZZ 0 [] (adE xs i) s Z2 | false => False) | .ret => ZZ 0 [] (adJ i) s False | .goto x => (match Nat.beq x 0 with | true => ZZ 0 [] (adJ i) s Z4 | false => False) | _ => False) := by
 refine @Eq.mpr _ (let q1 := List.length xs;
 let q2 := (↑q1 : Int);
 let q3 := W2 xs i;
 let q4 := wrap i64 (q3 + List.getD xs (Int.toNat (↑i : Int)) 0);
 Z0 (decide ((↑i : Int) < q2)) (Z0 (decide (0 ≤ (↑i : Int) ∧ (↑i : Int) < q2)) (Z0 (decide (q4 > 1125899906842624)) Z4 (xs = xs ∧ Z0 (decide (q1 = q1)) (Z0 (decide (q2 = q2)) (Z0 (decide (wrap i64 ((↑i : Int) + 1) = (↑(i + 1) : Int))) (Z0 (decide (q4 = W2 xs (i + 1))) Z1 False) False) False) False)) False) (Z0 (decide (q3 = q3)) Z2 False)) (by kernel_rfl) ?_
 conv => zeta
 try simp only [Zg]
 try simp only [Zh]
 try simp only [Zf]
 try simp only [Int.toNat_natCast, Nat.zero_add, true_and, and_true, Nat.le_refl]
 subst hM
 refine ⟨fun hlt => ⟨by omega, ?_⟩, fun hge => h2 (by omega)⟩
 have hs := Z0T (xs := xs) (i := i) (by omega)
 have hx := Z0U hall (i := i) (by omega)
 have hp := Z6m hall hi
 have hq : W2 xs i ≤ 1125899906842624 := by
  cases i with
  | zero => simp [W2]
  | succ j => exact hgo j (by omega)
 have hw : i64.wrap (W2 xs i + xs.getD i 0) = W2 xs (i + 1) := by rw [w64 (by omega)]; exact hs.symm
 rw [hw]
 have hw2 : i64.wrap ((i : Int) + 1) = ((i + 1 : Nat) : Int) := w64 (by omega)
 refine ⟨fun h => h4 (by omega) (by omega), fun h => ?_⟩
 rw [hw2]
 simp [h1 (by omega) (by omega)]
noncomputable def ZiD (m M : Int) (xs : List Int) : Zd := (G0.withL 40 0 (goL 0 [] (adS xs 0) (allIn M xs = true ∧ xs.length < 900000000000) (Ym 0 xs.length 0 (fun i => W2 xs (i + 1) ≤ M) (fun i => i = xs.length) (fun _ => False) (fun i => i < xs.length ∧ M < W2 xs (i + 1)) (adE xs) adJ adJ))).withP 63 (Zcc m)
theorem Zen (xs : List Int) : (ZiD 1125899906842624 1125899906842624 xs).Ok :=
 Zd.withP_ok (Zd.withGoJ (τ1 := []) (τ2 := []) (τ3 := []) (τ4 := []) (N := 20) Zu (by kernel_rfl) fun hC => ⟨rfl, fun i hi hgo => ZiC xs i _ _ _ _ rfl hC.2 hC.1 hi hgo (fun h1 h2 => ⟨h2, h1⟩) (fun h => h) (fun h1 h2 => ⟨h1, h2⟩)⟩) Zam
@[irreducible] def ZS (xs : List Int) : Int × Int := if allIn 1125899906842624 xs = true then (if xs.sum ≤ 1125899906842624 then (xs.sum, 0) else (0, 150)) else (0, 2)
theorem ZiE (xs : List Int) (m M : Int) (F : Int × Int) (hm : m = 1125899906842624) (hM : M = 1125899906842624) (hn : xs.length < 900000000000) (hF : F = ZS xs) :
  evF (ZiD m M xs) 20 40 [.vints .i64 xs xs.length] ⟨0, []⟩ (Yq 0 [] (.tuple [.int .i64 F.1, .int .i64 F.2]) 0 []) := by
 refine @Eq.mpr _ (let q1 := List.length xs;
 let q2 := (↑q1 : Int);
 let q3 := decide (0 = F.fst);
 Z0 (decide (q1 = q1 ∧ q1 < 900000000000)) (Z0 (allIn m xs) (xs = xs ∧ Z0 (decide (q1 = q1)) (Z0 (decide (q2 = q2)) ((allIn M xs = true ∧ q1 < 900000000000) ∧ ∀ (i : Nat), i ≤ q1 → (∀ (j : Nat), j < i → (fun (i : Nat) => W2 xs (i + 1) ≤ M) j) → (i = q1 → Z0 (decide (W2 xs i = F.fst)) (Z0 (decide (0 = F.snd)) True False) False) ∧ (False → False) ∧ (i < q1 ∧ M < W2 xs (i + 1) → Z0 q3 (Z0 (decide (150 = F.snd)) True False) False)) False) False) (Z0 q3 (Z0 (decide (2 = F.snd)) True False) False)) False) (by kernel_rfl) ?_
 conv => zeta
 try simp only [Zg]
 try simp only [Zh]
 try simp only [Zf]
 try simp only [Int.toNat_natCast, Nat.zero_add, true_and, and_true, Nat.le_refl]
 subst hm hM hF
 have ht : W2 xs xs.length = xs.sum := by simp [W2]
 refine ⟨hn, fun hall => ⟨⟨hall, hn⟩, fun i hi hgo => ⟨fun he => ?_, fun h => h.elim, fun he => ?_⟩⟩, fun hall => ?_⟩
 ·subst he
  have hle : xs.sum ≤ 1125899906842624 := by
   rw [← ht]
   rcases Nat.eq_zero_or_pos xs.length with h0 | h0
   ·rw [h0]; simp [W2]
   ·have := hgo (xs.length - 1) (by omega)
    rw [Nat.sub_add_cancel h0] at this
    exact this
  unfold ZS
  rw [if_pos hall, if_pos hle]
  exact ⟨ht, rfl⟩
 ·have hmono := Z4a hall (xs.length - (i + 1)) (i + 1) (by omega)
  rw [show i + 1 + (xs.length - (i + 1)) = xs.length by omega, ht] at hmono
  unfold ZS
  rw [if_pos hall, if_neg (by omega)]
  exact ⟨rfl, rfl⟩
 ·unfold ZS
  rw [if_neg (by simp [hall])]
  exact ⟨rfl, rfl⟩
def Z4b (A : List Int → Int × Int) : ZW := fun args h K => ZH none h true 20 args fun a => match a with
 | [.vints .i64 xs n] => Zw (n = xs.length ∧ n < 900000000000) (K (.tuple [.int .i64 (A xs).1, .int .i64 (A xs).2]))
 | _ => False
theorem Z2R (args : List AV) (h : Z7) (K : AV → Prop) (hl : Z4b ZS args h K) : Zk PP 40 args h fun o h' => ∃ v, o = .ret v ∧ h' = h ∧ K v := by
 refine ZB.psumm (d := 20) (Zq _ _ _ _ _ hl fun a ha => ?_)
 split at ha
 ·obtain ⟨⟨rfl, h1⟩, hK⟩ := Za ha
  exact ⟨_, .ev (Zen _) (ZiE _ _ _ _ rfl rfl h1 rfl), fun _ => rfl, hK⟩
 ·exact ha.elim
def amL (g : Nat → Zs) (n : Nat) : List Int := (List.range n).map fun j => (g j).amount
theorem Z6n (g : Nat → Zs) (n : Nat) : amL g (n + 1) = amL g n ++ [(g n).amount] := by simp [amL, List.range_succ]
theorem Z0g (g : Nat → Zs) (n : Nat) : (amL g n).length = n := by simp [amL]
def suS (M : Nat) (g : Nat → Zs) (i : Nat) : St := ⟨24, [(8, .vrows 132 M (Z8 g) M), (9, .int .i64 M), (10, .int .i64 i), (4, .nslice ⟨0, 0, 0, 0, 0⟩ 1 i i)], ⟨1, [(0, .ints .i64 (amL g i))]⟩, []⟩
def suE (g : Nat → Zs) (i : Nat) : St := ⟨24, [(4, .nslice ⟨0, 0, 0, 0, 0⟩ 1 i i)], ⟨1, [(0, .ints .i64 (amL g i))]⟩, []⟩
theorem ZiF (M i : Nat) (g : Nat → Zs) (Z1 Z2 : Prop) (hn : M < 900000000000) (hi : i ≤ M) (h1 : i < M → Z1) (h2 : i = M → Z2) :
  ZF G0 20 82 0 0 (suS M g i) (fun e s => match e with | .normal => ZZ 0 [(0, 3)] (suS M g (i + 1)) s Z1 | .exit x => (match Nat.beq x 0 with | true => ZZ 0 [(0, 0)] (suE g i) s Z2 | false => False) | .ret => ZZ 0 [] (suE g i) s False | _ => False) := by
 refine @Eq.mpr _ (let q1 := amL g i;
 let q2 := q1 ++ [(g (Int.toNat (↑i : Int))).amount];
 let q3 := List.length q2;
 let q4 := decide (M = M);
 let q5 := i + 1;
 Z0 (decide ((↑i : Int) < (↑M : Int))) (Z0 (decide (0 ≤ (↑i : Int) ∧ (↑i : Int) < (↑M : Int))) (Z0 (decide (i64 = i64 ∧ List.length q1 = i)) (Z0 (decide (q3 * 8 ≤ 140737488355328)) (Z0 q4 (Z8 g = Z8 g ∧ Z0 q4 (Z0 (decide ((↑M : Int) = (↑M : Int))) (Z0 (decide (wrap i64 ((↑i : Int) + 1) = (↑q5 : Int))) (Z0 (decide (q3 = q5)) (Z0 (decide (q5 ≤ q3)) (q2 = amL g q5 ∧ Z1) False) False) False) False) False) False) False) False) False) (Z0 (decide (i = i)) (Z0 (decide (i ≤ i)) (q1 = q1 ∧ Z2) False) False)) (by kernel_rfl) ?_
 conv => zeta
 try simp only [Zg]
 try simp only [Zh]
 try simp only [Zf]
 try simp only [Int.toNat_natCast, Nat.zero_add, true_and, and_true, Nat.le_refl]
 refine ⟨fun hlt => ⟨by omega, Z0g g i, ?_⟩, fun hge => h2 (by omega)⟩
 rw [← Z6n, Z0g]
 exact ⟨by omega, w64 (by omega), rfl, Nat.le_refl _, rfl, h1 (by omega)⟩
noncomputable def ZiG (A : List Int → Int × Int) (M : Nat) (g : Nat → Zs) : Zd := (G0.withL 82 0 (goL 0 [] (suS M g 0) (M < 900000000000) (Z1i 0 M (fun i => i < M) (fun i => i = M) (fun _ => False) (suE g) (suE g)))).withP 40 (Z4b A)
theorem Zeo (M : Nat) (g : Nat → Zs) : (ZiG ZS M g).Ok :=
 Zd.withP_ok (Zd.withGo (τ1 := [(0, 3)]) (τ2 := [(0, 0)]) (τ3 := []) (N := 20) Zu (by kernel_rfl) fun hC => ⟨rfl, fun i hi hgo => ZiF M i g _ _ hC hi (fun h => ⟨h, h⟩) (fun h => h)⟩) Z2R
theorem ZiH (A : List Int → Int × Int) (M N : Nat) (f : Nat → InS) (g : Nat → Zs) (num : Int) (F : Int × Int) (hn : M < 900000000000) (hF : F = A (amL g M)) :
  evF (ZiG A M g) 20 82 [.agg [.int .i64 num, .vrows 130 N (Zb f) N, .vrows 132 M (Z8 g) M]] ⟨0, []⟩ (Yq 0 [] (.tuple [.int .i64 F.1, .int .i64 F.2]) 0 []) := by
 refine @Eq.mpr _ (let q1 := decide (M = M);
 Z0 q1
 (Z8 g = Z8 g ∧
 Z0 q1
 (Z0 (decide ((↑M : Int) = (↑M : Int)))
 (amL g 0 = [] ∧
 M < 900000000000 ∧
 ∀ (i : Nat),
 let q3 := List.take i (YO 0 (amL g i));
 let q4 := A q3;
 i ≤ M → (∀ (j : Nat), j < i → (fun (i : Nat) => i < M) j) → (i = M → Z0 (decide (0 + i ≤ List.length (amL g i))) (Z0 (decide (i = List.length q3 ∧ i < 900000000000)) (Z0 (decide (q4.fst = F.fst)) (Z0 (decide (q4.snd = F.snd)) True False) False) False) False) ∧ (False → False))
 False)
 False)
 False) (by kernel_rfl) ?_
 conv => zeta
 try simp only [Zg]
 try simp only [Zh]
 try simp only [Zf]
 try simp only [Int.toNat_natCast, Nat.zero_add, true_and, and_true, Nat.le_refl]
 subst hF
 refine ⟨rfl, hn, fun i hi hgo => ⟨fun he => ?_, fun h => h.elim⟩⟩
 subst he
 rw [Yo, List.drop_zero, List.take_of_length_le (by rw [Z0g]; exact Nat.le_refl _), Z0g]
 exact ⟨Nat.le_refl _, ⟨rfl, hn⟩, rfl, rfl⟩
def Z7Y (A : List Int → Int × Int) : ZW := fun args h K => ZH none h true 20 args fun a => match a with
 | [.agg [.int .i64 num, .vrows 130 N f n, .vrows 132 M f' m]] => ∃ g g', f = Zb g ∧ f' = Z8 g' ∧ (n = N ∧ m = M ∧ M < 900000000000) ∧ K (.tuple [.int .i64 (A (amL g' M)).1, .int .i64 (A (amL g' M)).2])
 | _ => False
theorem Z4c (args : List AV) (h : Z7) (K : AV → Prop) (hl : Z7Y ZS args h K) : Zk PP 82 args h fun o h' => ∃ v, o = .ret v ∧ h' = h ∧ K v := by
 refine ZB.psumm (d := 20) (Zq _ _ _ _ _ hl fun a ha => ?_)
 split at ha
 ·obtain ⟨g, g', rfl, rfl, ⟨rfl, rfl, h1⟩, hK⟩ := ha
  exact ⟨_, .ev (Zeo _ g') (ZiH _ _ _ g g' _ _ h1 rfl), fun _ => rfl, hK⟩
 ·exact ha.elim
end Go.Tk
end
section
namespace Go.Tk
open IntKind (i64 u8 u32 u64 wrap)
def Z3B (v : AV) (N : Nat) (g : Nat → InS) : Prop := match v with
 | .vrows 130 n f m => (m = n ∧ N = n) ∧ ∀ i, i < n → f i = (g i).c
 | .nilslice => N = 0
 | .eslice => N = 0
 | .fslice => N = 0
 | _ => False
def Ql (v : AV) (N : Nat) (g : Nat → Zs) : Prop := match v with
 | .vrows 132 n f m => (m = n ∧ N = n) ∧ ∀ i, i < n → f i = (g i).c
 | .nilslice => N = 0
 | .eslice => N = 0
 | .fslice => N = 0
 | _ => False
theorem Zi.rows0 {E : Env} {esz : Nat} {f : Nat → List AV} {r : Value} {a : Option Addr} {c : Nat} (h : r = .slice a 0 c) (hc : a = none → c = 0) : Zi E (.vrows esz 0 f 0) r := by
 subst h
 cases a with
 | none => rw [hc rfl]; exact .vrowsNil _ _ _ _ rfl rfl
 | some a => exact .vrows _ _ _ _ a c (fun _ => []) (Nat.le_refl _) (Nat.zero_le _) (fun i h => by omega) (fun i h => by omega) (fun i j c h => by omega)
theorem Zi.rowsC {E : Env} {esz n : Nat} {f f' : Nat → List AV} {r : Value} (h : Zi E (.vrows esz n f n) r) (hf : ∀ i, i < n → f i = f' i) : Zi E (.vrows esz n f' n) r := by
 cases h with
 | vrowsNil esz n f len h1 h2 => exact .vrowsNil _ _ _ _ h1 h2
 | vrows esz n f len a cap g h1 h2 hc hl hi => exact .vrows _ _ _ _ a cap g h1 h2 (fun i h => by rw [← hf i h]; exact hc i h) hl hi
theorem Z3B.rel {v : AV} {N : Nat} {g : Nat → InS} (h : Z3B v N g) {E : Env} {r : Value} (hv : Zi E v r) : Zi E (.vrows 130 N (Zb g) N) r := by
 unfold Z3B at h
 split at h
 ·obtain ⟨⟨rfl, rfl⟩, hf⟩ := h
  exact hv.rowsC hf
 ·subst h; cases hv; exact .rows0 rfl (fun _ => rfl)
 ·subst h; cases hv with | eslice a => exact .rows0 rfl (fun _ => rfl)
 ·subst h; cases hv with | fslice a c => exact .rows0 rfl (fun h => by cases h)
 ·exact h.elim
theorem Ql.rel {v : AV} {N : Nat} {g : Nat → Zs} (h : Ql v N g) {E : Env} {r : Value} (hv : Zi E v r) : Zi E (.vrows 132 N (Z8 g) N) r := by
 unfold Ql at h
 split at h
 ·obtain ⟨⟨rfl, rfl⟩, hf⟩ := h
  exact hv.rowsC hf
 ·subst h; cases hv; exact .rows0 rfl (fun _ => rfl)
 ·subst h; cases hv with | eslice a => exact .rows0 rfl (fun _ => rfl)
 ·subst h; cases hv with | fslice a c => exact .rows0 rfl (fun h => by cases h)
 ·exact h.elim
theorem Z3B.cell {v : AV} {N : Nat} {g : Nat → InS} (h : Z3B v N g) : v.isCell = true ∧ ∀ k n xs, v ≠ .arr k n xs := by
 unfold Z3B at h; split at h <;> simp_all [AV.isCell]
theorem Ql.cell {v : AV} {N : Nat} {g : Nat → Zs} (h : Ql v N g) : v.isCell = true ∧ ∀ k n xs, v ≠ .arr k n xs := by
 unfold Ql at h; split at h <;> simp_all [AV.isCell]
structure TxS where
 num : Int
 N : Nat
 ins : Nat → InS
 M : Nat
 outs : Nat → Zs
def TxS.c (t : TxS) : List AV := [.int .i64 t.num, .vrows 130 t.N (Zb t.ins) t.N, .vrows 132 t.M (Z8 t.outs) t.M]
structure TxS.Ok (t : TxS) : Prop where
 n : t.N < 900000000000
 m : t.M < 900000000000
 ins : ∀ i, i < t.N → (t.ins i).Ok
 outs : ∀ i, i < t.M → (t.outs i).Ok
def Z0h (l : List AV) (t : TxS) : Prop := match l with
 | [.int .i64 num, a, b] => t.num = num ∧ Z3B a t.N t.ins ∧ Ql b t.M t.outs
 | _ => False
theorem Z0h.rel {l : List AV} {t : TxS} (h : Z0h l t) {E : Env} {r : Value} (hv : Zi E (.agg l) r) : Zi E (.agg t.c) r := by
 unfold Z0h at h
 split at h
 ·rename_i num a b
  obtain ⟨h0, h1, h2⟩ := h
  cases hv with
  | agg cs vs hc =>
   obtain ⟨c1, ws, rfl, _, q1, p1, hc⟩ := Zy.cons_cell hc (fun _ _ _ h => by cases h)
   obtain ⟨c2, ws, rfl, _, q2, p2, hc⟩ := Zy.cons_cell hc h1.cell.2
   obtain ⟨c3, ws, rfl, _, q3, p3, hc⟩ := Zy.cons_cell hc h2.cell.2
   cases hc
   refine .agg _ _ (.one _ _ _ _ rfl q1 (by rw [h0]; exact p1) (.one _ _ _ _ rfl q2 (h1.rel p2) (.one _ _ _ _ rfl q3 (h2.rel p3) .nil)))
 ·exact h.elim
theorem ZB.conv {P : Program} {f : FuncId} {args args₀ : List AV} {v : AV} {nx : Nat} {bs : List (Nat × Blk)} (h : ZB P f args₀ v nx bs) (hc : ∀ E r, ZG E args r → ZG E args₀ r) : ZB P f args v nx bs :=
 fun E w rs he hr => h E w rs he (hc E rs hr)
theorem ZG.head {E : Env} {v v' : AV} {r l : List AV} {rs : List Value} (h : ZG E (v :: l) rs) (hv : ∀ c, Zi E v c → Zi E v' c) (ht : ∀ cs, ZG E l cs → ZG E r cs) : ZG E (v' :: r) rs := by
 cases h with
 | cons v c vs cs h t => exact .cons _ _ _ _ (hv c h) (ht cs t)
@[irreducible] def Y6 (A : List Int → Int × Int) (t : TxS) : Bool :=
 decide (0 ≤ t.num ∧ t.num ≤ 2147483647) && decide (1 ≤ t.N ∧ t.N ≤ 24) && decide (1 ≤ t.M ∧ t.M ≤ 24) && !((List.range t.N).any (YM t.N t.ins)) && !((List.range t.M).any (Yu t.outs)) && ((A (amL t.outs t.M)).2 == 0)
noncomputable def ZiI (A : List Int → Int × Int) : Zd := ((G0.withP 73 Zih).withP 127 Zio).withP 82 (Z7Y A)
theorem Zep : (ZiI ZS).Ok := Zd.withP_ok (Zd.withP_ok (Zd.withP_ok Zu Zeb) Zef) Z4c
theorem Zki (A : List Int → Int × Int) (t : TxS) (F : Int) (ht : t.Ok) (hF : F = if Y6 A t = true then 0 else 2) :
  evF (ZiI A) 20 43 [.agg t.c] ⟨0, []⟩ (Yq 0 [] (.int .i64 F) 0 []) := by
 refine @Eq.mpr _ (let q1 := Z0 (decide (2 = F)) True False;
 let q2 := t.N;
 let q3 := (↑q2 : Int);
 let q4 := t.M;
 let q5 := (↑q4 : Int);
 let q6 := Zb t.ins;
 let q7 := q2 = q2;
 let q8 := q4 = q4;
 let q9 := q4 < 900000000000;
 Z0 (decide (0 ≤ t.num))
 (Z0 (!decide (t.num ≤ 2147483647)) q1
 (Z0 (decide (1 ≤ q3))
 (Z0 (!decide (q3 ≤ 24)) q1
 (Z0 (decide (1 ≤ q5))
 (Z0 (!decide (q5 ≤ 24)) q1
 (∃ (g : Nat → InS),
 let q19 := q6 = Zb g;
 q19 ∧
 q19 ∧
 (q7 ∧ q7 ∧ q7 ∧ q2 < 900000000000 ∧ ∀ (i : Nat), i < q2 → InS.Ok (g i)) ∧
 Z0 (decide (Yw (YM q2 g) q2 ≥ 0)) q1
 (∃ (g : Nat → Zs),
 let q21 := Z8 t.outs;
 q21 = Z8 g ∧ (q8 ∧ q9 ∧ ∀ (i : Nat), i < q4 → Zs.Ok (g i)) ∧ Z0 (decide (Yw (Yu g) q4 ≥ 0)) q1 (∃ (g : Nat → InS), ∃ (g' : Nat → Zs), q6 = Zb g ∧ q21 = Z8 g' ∧ (q7 ∧ q8 ∧ q9) ∧ Z0 ((A (amL g' q4)).snd != 0) q1 (Z0 (decide (0 = F)) True False)))))
 q1))
 q1))
 q1) (by kernel_rfl) ?_
 conv => zeta
 try simp only [Zg]
 try simp only [Zh]
 try simp only [Zf]
 try simp only [Int.toNat_natCast, Nat.zero_add, true_and, and_true, Nat.le_refl]
 have h2 : Y6 A t = false → 2 = F := fun h => by rw [hF, h]; rfl
 have h0 : Y6 A t = true → 0 = F := fun h => by rw [hF, h]; rfl
 clear hF
 refine ⟨fun a1 => ⟨fun a2 => h2 ?_, fun a2 => ⟨fun a3 => ⟨fun a4 => h2 ?_, fun a4 => ⟨fun a5 => ⟨fun a6 => h2 ?_, fun a6 => ?_⟩, fun a5 => h2 ?_⟩⟩, fun a3 => h2 ?_⟩⟩, fun a1 => h2 ?_⟩
 ·unfold Y6; rw [decide_eq_false (p := 0 ≤ t.num ∧ _) (by simp at a2; omega)]; simp
 ·unfold Y6; rw [decide_eq_false (p := 1 ≤ t.N ∧ _) (by simp at a4; omega)]; simp
 ·unfold Y6; rw [decide_eq_false (p := 1 ≤ t.M ∧ _) (by simp at a6; omega)]; simp
 ·refine ⟨t.ins, rfl, rfl, ⟨ht.n, ht.ins⟩, fun b1 => h2 ?_, fun b1 => ⟨t.outs, rfl, ⟨ht.m, ht.outs⟩, fun b2 => h2 ?_, fun b2 => ⟨t.ins, t.outs, rfl, rfl, ht.m, fun b3 => h2 ?_, fun b3 => h0 ?_⟩⟩⟩
  ·have := VD (YM t.N t.ins) t.N
   rw [decide_eq_true b1] at this
   unfold Y6; rw [← this]; simp
  ·have := VD (Yu t.outs) t.M
   rw [decide_eq_true b2] at this
   unfold Y6; rw [← this]; simp
  ·unfold Y6; simp at b3; simp [b3]
  ·have e1 := VD (YM t.N t.ins) t.N
   rw [decide_eq_false b1] at e1
   have e2 := VD (Yu t.outs) t.M
   rw [decide_eq_false b2] at e2
   unfold Y6
   rw [← e1, ← e2]
   simp at a2 a4 a6 b3
   simp [b3]
   omega
 ·unfold Y6; rw [decide_eq_false (p := 1 ≤ t.M ∧ _) (by omega)]; simp
 ·unfold Y6; rw [decide_eq_false (p := 1 ≤ t.N ∧ _) (by omega)]; simp
 ·unfold Y6; rw [decide_eq_false (p := 0 ≤ t.num ∧ _) (by omega)]; simp
def ckS (A : List Int → Int × Int) : ZW := fun args h K => ZH none h true 20 args fun a => match a with
 | [.agg l] => ∃ t, Z0h l t ∧ t.Ok ∧ Z0 (Y6 A t) (K (.int .i64 0)) (K (.int .i64 2))
 | _ => False
theorem Z5c (args : List AV) (h : Z7) (K : AV → Prop) (hl : ckS ZS args h K) : Zk PP 43 args h fun o h' => ∃ v, o = .ret v ∧ h' = h ∧ K v := by
 refine ZB.psumm (d := 20) (Zq _ _ _ _ _ hl fun a ha => ?_)
 split at ha
 ·obtain ⟨t, h1, h2, hK⟩ := ha
  refine ⟨_, (ZB.ev Zep (Zki _ t _ h2 rfl)).conv fun E r hr => hr.head (fun _ hc => h1.rel hc) (fun _ hc => hc), fun _ => rfl, ?_⟩
  rw [Zf] at hK
  split
  ·rename_i h; exact hK.1 h
  ·rename_i h; exact hK.2 (by simpa using h)
 ·exact ha.elim
end Go.Tk
end
section
namespace Go.Tk
open IntKind (i64 u8 u32 u64 wrap)
def Zcd (k : Nat) (τ : Ren) (y x : Nat) : Ren := match Nat.blt y k with
 | true => τ
 | false => match Z7C τ y with
  | some _ => τ
  | none => (y, x) :: τ
mutual
def ZgL (k : Nat) (τ : Ren) : AV → AV → Ren
 | .ptr (some q), v => match v with | .ptr (some p) => Zcd k τ q.blk p.blk | _ => τ
 | .nslice q _ _ _, v => match v with | .nslice p _ _ _ => Zcd k τ q.blk p.blk | _ => τ
 | .map (some y), v => match v with | .map (some x) => Zcd k τ y x | _ => τ
 | .yield y, v => match v with | .yield x => Zcd k τ y x | _ => τ
 | .func _ fs cs, v => match v with | .func _ fs' cs' => Z5d k (Z5d k τ fs fs') cs cs' | _ => τ
 | .iface _ u, v => match v with | .iface _ u' => ZgL k τ u u' | _ => τ
 | .agg cs, v => match v with | .agg cs' => Z5d k τ cs cs' | _ => τ
 | .tuple cs, v => match v with | .tuple cs' => Z5d k τ cs cs' | _ => τ
 | _, _ => τ
def Z5d (k : Nat) (τ : Ren) : List AV → List AV → Ren
 | [], _ => τ
 | v :: r, l => match l with | v' :: r' => Z5d k (ZgL k τ v v') r r' | [] => τ
end
def Zkj (k : Nat) (τ : Ren) : Blk → Blk → Ren
 | .flat cs, B => match B with | .flat cs' => Z5d k τ cs cs' | _ => τ
 | .map es, B => match B with | .map es' => Z5d k (Z5d k τ (es.map (·.1)) (es'.map (·.1))) (es.map (·.2)) (es'.map (·.2)) | _ => τ
 | _, _ => τ
def ZiJ (k : Nat) (t : ZY) : ZY → Ren → Ren
 | [], τ => τ
 | (x, v) :: r, τ => ZiJ k t r (match ZV t x with | some u => ZgL k τ v u | none => τ)
def ZgM (k : Nat) : List Ul → List Ul → Ren → Ren
 | .call _ a :: r, l, τ => match l with | .call _ b :: r' => ZgM k r r' (Z5d k τ a b) | _ => τ
 | .mark y :: r, l, τ => match l with | .mark x :: r' => ZgM k r r' (Zcd k τ y x) | _ => τ
 | [], _, τ => τ
def Zeq (k : Nat) (bs : List (Nat × Blk)) : List (Nat × Blk) → Ren → Ren
 | [], τ => τ
 | (y, B) :: r, τ => Zeq k bs r (match rn k τ y with
  | some x => match ZT bs x with | some C => Zkj k τ B C | none => τ
  | none => τ)
def Zkk (k : Nat) (s₂ s : St) : Ren := Zeq k s.h.bs s₂.h.bs (Zeq k s.h.bs s₂.h.bs (Zeq k s.h.bs s₂.h.bs (ZgM k s₂.d s.d (ZiJ k s.t s₂.t []))))
def Qm (k : Nat) (s₂ s : St) (Z : Prop) : Prop := ZZ k (Zkk k s₂ s) s₂ s Z
theorem X2 {k : Nat} {s₂ s : St} {Z : Prop} (hl : Qm k s₂ s Z) : Z ∧ Ur k s s₂ := Y8 hl
def Yc (k : Nat) (o : Out) (nx : Nat) (bs : List (Nat × Blk)) : KO := fun o' h => match o with
 | .ret v => match o' with
  | .ret u => Qm k ⟨1, [(0, v)], ⟨nx, bs⟩, []⟩ ⟨1, [(0, u)], h, []⟩ True
  | .panic _ => False
 | .panic v => match o' with
  | .panic u => Qm k ⟨1, [(0, v)], ⟨nx, bs⟩, []⟩ ⟨1, [(0, u)], h, []⟩ True
  | .ret _ => False
theorem Spec.evM {G : Zd} (hG : G.Ok) {n : Nat} {f : FuncId} {args : List AV} {h0 : Z7} {o : Out} {nx : Nat} {bs : List (Nat × Blk)} (h : evF G n f args h0 (Yc h0.next o nx bs)) : Spec G.P f args h0 o nx bs := by
 intro E w rs he hl
 refine (Z2u hG h E w rs he hl).mono ?_
 rintro e w' ⟨E', o', h', hK, hev, hor⟩
 unfold Yc at hK
 cases o with
 | ret v =>
  cases hor with
  | ret u r hr =>
   obtain ⟨E₂, h1, h2⟩ := Z92 rfl hK he hev hr
   exact ⟨E₂, h1, .ret _ _ h2⟩
  | panic u r hr => exact hK.elim
 | panic v =>
  cases hor with
  | panic u r hr =>
   obtain ⟨E₂, h1, h2⟩ := Z92 rfl hK he hev hr
   exact ⟨E₂, h1, .panic _ _ h2⟩
  | ret u r hr => exact hK.elim
theorem Spec.pure {P : Program} {f : FuncId} {args : List AV} {v : AV} {nx : Nat} {bs : List (Nat × Blk)} (h : Spec P f args ⟨0, []⟩ (.ret v) nx bs) : ZB P f args v nx bs := by
 intro E w rs he hl
 refine (h E w rs he hl).mono ?_
 rintro e w' ⟨E', hev, hor⟩
 cases hor with
 | ret v r hr => exact ⟨E', r, rfl, hev, hr⟩
theorem ZB.evM {G : Zd} (hG : G.Ok) {n : Nat} {f : FuncId} {args : List AV} {v : AV} {nx : Nat} {bs : List (Nat × Blk)} (h : evF G n f args ⟨0, []⟩ (Yc 0 (.ret v) nx bs)) : ZB G.P f args v nx bs := (Spec.evM hG h).pure
def goM (k : Nat) (S0 : St) (C : Prop) (ends : KE → Prop) : Nat → St → KE → Prop := fun k' s X => match Nat.beq k' k with
 | true => Qm k S0 s (C ∧ ends X)
 | false => False
def rdM (k id l : Nat) (S1 En Rn Jn : St) (go ex re jm : Prop) : KE := fun e s => match e with
 | .normal => Qm k S1 s go
 | .exit x => (match Nat.beq x id with | true => Qm k En s ex | false => False)
 | .ret => Qm k Rn s re
 | .goto x => (match Nat.beq x l with | true => Qm k Jn s jm | false => False)
 | .panic _ => False
theorem Zd.withGoM {G : Zd} (hG : G.Ok) {f : FuncId} {id k N n l : Nat} {S En Rn Jn : Nat → St} {S0 : St} {C : Prop} {go ex re jm : Nat → Prop} (h1 : WD G.P f id = true) (hC : C → S 0 = S0 ∧
   ∀ i, i ≤ n → (∀ j, j < i → go j) → ZF G N f id k (S i) (rdM k id l (S (i + 1)) (En i) (Rn i) (Jn i) (go i ∧ i < n) (ex i) (re i) (jm i))) :
  (G.withL f id (goM k S0 C (Ym id n l go ex re jm En Rn Jn))).Ok := by
 refine Zd.withL_ok hG h1 ?_
 intro k' s X hl
 unfold goM at hl
 split at hl
 ·rename_i hk
  have := Nat.eq_of_beq_eq_true hk
  subst this
  obtain ⟨⟨hc, hX⟩, hw⟩ := X2 hl
  obtain ⟨e0, hr⟩ := hC hc
  refine ⟨{ t : Nat // t ≤ n ∧ ∀ j, j < t → go j }, fun t => n - t.1, fun t => S t.1, ⟨0, Nat.zero_le _, fun j hj => by omega⟩, N, by show Ur k' s (S 0); rw [e0]; exact hw, ?_⟩
  rintro ⟨t, ht, hgo⟩
  refine ⟨_, hr t ht hgo, ?_⟩
  intro e s' hY
  unfold rdM at hY
  split at hY
  ·obtain ⟨⟨hg, hlt⟩, hw'⟩ := X2 hY
   refine ⟨⟨t + 1, hlt, fun j hj => ?_⟩, by show n - (t + 1) < n - t; omega, hw'⟩
   by_cases hjt : j = t
   ·rw [hjt]; exact hg
   ·exact hgo j (by omega)
  ·split at hY
   ·rename_i hi
    have := Nat.eq_of_beq_eq_true hi
    subst this
    obtain ⟨hex, hw'⟩ := X2 hY
    exact ⟨_, hw', (hX t ht hgo).1 hex⟩
   ·exact hY.elim
  ·obtain ⟨hre, hw'⟩ := X2 hY
   exact ⟨_, hw', (hX t ht hgo).2.1 hre⟩
  ·split at hY
   ·rename_i hi
    have := Nat.eq_of_beq_eq_true hi
    subst this
    obtain ⟨hjm, hw'⟩ := X2 hY
    exact ⟨_, hw', (hX t ht hgo).2.2 hjm⟩
   ·exact hY.elim
  ·exact hY.elim
 ·exact hl.elim
end Go.Tk
namespace Go.Tk
open IntKind (i64 u8 u32 u64 wrap)
theorem Zd.withL_join {G H : Zd} (hG : G.Ok) (hP : G.P = H.P) {f : FuncId} {id : Nat} {S : Nat → St → KE → Prop} (h : (H.withL f id S).Ok) : (G.withL f id S).Ok where
 draw := hG.draw
 psumm := hG.psumm
 fsumm := hG.fsumm
 lsumm := fun f' id' S' fn c body hS hf hb hm k s X hs => by
  have hS0 := hS
  simp only [Zd.withL] at hS
  split at hS
  ·have := h.lsumm f' id' S' fn c body
   simp only [Zd.withL] at this
   rename_i hq
   rw [hq] at this
   have := this hS (hP ▸ hf) hb hm k s X hs
   rw [← hP] at this
   exact this
  ·exact hG.lsumm f' id' S' fn c body hS hf hb hm k s X hs
end Go.Tk
end
section
namespace Go.Tk
open IntKind (i64 u8 u32 u64 wrap)
def b8 (n k : Int) : Int := u8.wrap (ZA .i64 n k)
@[irreducible] def Y3 (n : Int) : List Int :=
 if n < 253 then [u8.wrap n] else if n < 65536 then [253, b8 n 8, b8 n 0] else if n < 4294967296 then [254, b8 n 24, b8 n 16, b8 n 8, b8 n 0]
 else [255, b8 n 56, b8 n 48, b8 n 40, b8 n 32, b8 n 24, b8 n 16, b8 n 8, b8 n 0]
theorem Yk (n : Int) : 1 ≤ (Y3 n).length ∧ (Y3 n).length ≤ 9 := by
 unfold Y3
 split
 ·simp
 ·split
  ·simp
  ·split <;> simp
theorem ZfZ {n : Int} (h : n < 253) : Y3 n = [u8.wrap n] := by unfold Y3; rw [if_pos h]
theorem Zg0 {n : Int} (h : ¬ n < 253) (h2 : n < 65536) : Y3 n = [253, b8 n 8, b8 n 0] := by unfold Y3; rw [if_neg h, if_pos h2]
theorem Zg1 {n : Int} (h : ¬ n < 253) (h2 : ¬ n < 65536) (h3 : n < 4294967296) : Y3 n = [254, b8 n 24, b8 n 16, b8 n 8, b8 n 0] := by unfold Y3; rw [if_neg h, if_neg h2, if_pos h3]
theorem Zg2 {n : Int} (h : ¬ n < 253) (h2 : ¬ n < 65536) (h3 : ¬ n < 4294967296) : Y3 n = [255, b8 n 56, b8 n 48, b8 n 40, b8 n 32, b8 n 24, b8 n 16, b8 n 8, b8 n 0] := by unfold Y3; rw [if_neg h, if_neg h2, if_neg h3]
theorem ZiK (xs ys : List Int) (N L s lo : Nat) (n : Int) (hN : xs.length = N) (hB : N < 90000000000000) (hy : ys = Y3 n) (hL : L = (xs ++ ys).length) :
  evF G0 20 161 [.nslice ⟨0, 0, s, 0, 0⟩ 1 N lo, .int .i64 n] ⟨1, [(0, .ints .u8 xs)]⟩ (Yc 1 (.ret (.nslice ⟨1, 0, 0, 0, 0⟩ 1 L L)) 2 [(1, .ints .u8 (xs ++ ys))]) := by
 refine @Eq.mpr _ (let q1 := decide (u8 = u8 ∧ List.length xs = N);
 let q2 := xs ++ [wrap u8 n];
 let q3 := List.length q2;
 let q4 := xs ++ ys;
 let q5 := xs ++ [(253 : Int)];
 let q6 := List.length q5;
 let q7 := [wrap u8 (ZA i64 n 8)];
 let q8 := q5 ++ q7;
 let q9 := List.length q8;
 let q10 := [wrap u8 (ZA i64 n 0)];
 let q11 := q8 ++ q10;
 let q12 := List.length q11;
 let q13 := xs ++ [(254 : Int)];
 let q14 := List.length q13;
 let q15 := [wrap u8 (ZA i64 n 24)];
 let q16 := q13 ++ q15;
 let q17 := List.length q16;
 let q18 := [wrap u8 (ZA i64 n 16)];
 let q19 := q16 ++ q18;
 let q20 := List.length q19;
 let q21 := q19 ++ q7;
 let q22 := List.length q21;
 let q23 := q21 ++ q10;
 let q24 := List.length q23;
 let q25 := xs ++ [(255 : Int)];
 let q26 := List.length q25;
 let q27 := q25 ++ [wrap u8 (ZA i64 n 56)];
 let q28 := List.length q27;
 let q29 := q27 ++ [wrap u8 (ZA i64 n 48)];
 let q30 := List.length q29;
 let q31 := q29 ++ [wrap u8 (ZA i64 n 40)];
 let q32 := List.length q31;
 let q33 := q31 ++ [wrap u8 (ZA i64 n 32)];
 let q34 := List.length q33;
 let q35 := q33 ++ q15;
 let q36 := List.length q35;
 let q37 := q35 ++ q18;
 let q38 := List.length q37;
 let q39 := q37 ++ q7;
 let q40 := List.length q39;
 let q41 := q39 ++ q10;
 let q42 := List.length q41;
 Z0 (decide (n < 253)) (Z0 q1 (Z0 (decide (q3 * 1 ≤ 140737488355328)) (Z0 (decide (q3 = L)) (Z0 (decide (L ≤ q3)) (q2 = q4 ∧ True) False) False) False) False)
 (Z0 (decide (n < 65536)) (Z0 q1 (Z0 (decide (q6 * 1 ≤ 140737488355328)) (Z0 (decide (u8 = u8 ∧ q6 = q6)) (Z0 (decide (q9 * 1 ≤ 140737488355328)) (Z0 (decide (u8 = u8 ∧ q9 = q9)) (Z0 (decide (q12 * 1 ≤ 140737488355328)) (Z0 (decide (q12 = L)) (Z0 (decide (L ≤ q12)) (q11 = q4 ∧ True) False) False) False) False) False) False) False) False)
 (Z0 (decide (n < 4294967296)) (Z0 q1 (Z0 (decide (q14 * 1 ≤ 140737488355328)) (Z0 (decide (u8 = u8 ∧ q14 = q14)) (Z0 (decide (q17 * 1 ≤ 140737488355328)) (Z0 (decide (u8 = u8 ∧ q17 = q17)) (Z0 (decide (q20 * 1 ≤ 140737488355328)) (Z0 (decide (u8 = u8 ∧ q20 = q20)) (Z0 (decide (q22 * 1 ≤ 140737488355328)) (Z0 (decide (u8 = u8 ∧ q22 = q22)) (Z0 (decide (q24 * 1 ≤ 140737488355328)) (Z0 (decide (q24 = L)) (Z0 (decide (L ≤ q24)) (q23 = q4 ∧ True) False) False) False) False) False) False) False) False) False) False) False) False)
 (Z0 q1
 (Z0 (decide (q26 * 1 ≤ 140737488355328))
 (Z0 (decide (u8 = u8 ∧ q26 = q26)) (Z0 (decide (q28 * 1 ≤ 140737488355328)) (Z0 (decide (u8 = u8 ∧ q28 = q28)) (Z0 (decide (q30 * 1 ≤ 140737488355328)) (Z0 (decide (u8 = u8 ∧ q30 = q30)) (Z0 (decide (q32 * 1 ≤ 140737488355328)) (Z0 (decide (u8 = u8 ∧ q32 = q32)) (Z0 (decide (q34 * 1 ≤ 140737488355328)) (Z0 (decide (u8 = u8 ∧ q34 = q34)) (Z0 (decide (q36 * 1 ≤ 140737488355328)) (Z0 (decide (u8 = u8 ∧ q36 = q36)) (Z0 (decide (q38 * 1 ≤ 140737488355328)) (Z0 (decide (u8 = u8 ∧ q38 = q38)) (Z0 (decide (q40 * 1 ≤ 140737488355328)) (Z0 (decide (u8 = u8 ∧ q40 = q40)) (Z0 (decide (q42 * 1 ≤ 140737488355328)) (Z0 (decide (q42 = L)) (Z0 (decide (L ≤ q42)) (q41 = q4 ∧ True) False) False) False) False) False) False) False) False) False) False) False) False) False) False) False) False) False) False) False)
 False)))) (by kernel_rfl) ?_
 conv => zeta
 try simp only [Zg]
 try simp only [Zh]
 try simp only [Zf]
 try simp only [Int.toNat_natCast, Nat.zero_add, true_and, and_true, Nat.le_refl]
 subst hy hL hN
 refine ⟨fun h1 => ?_, fun h1 => ⟨fun h2 => ?_, fun h2 => ⟨fun h3 => ?_, fun h3 => ?_⟩⟩⟩
 ·rw [ZfZ h1]
  simp only [List.length_append, List.length_cons, List.length_nil]
  and_intros <;> first | trivial | omega
 ·rw [Zg0 h1 h2]
  simp only [List.length_append, List.length_cons, List.length_nil]
  and_intros <;> first | trivial | omega | simp [b8]
 ·rw [Zg1 h1 h2 h3]
  simp only [List.length_append, List.length_cons, List.length_nil]
  and_intros <;> first | trivial | omega | simp [b8]
 ·rw [Zg2 h1 h2 h3]
  simp only [List.length_append, List.length_cons, List.length_nil]
  and_intros <;> first | trivial | omega | simp [b8]
theorem ZiL (ys : List Int) (L : Nat) (n : Int) (hy : ys = Y3 n) (hL : L = ys.length) :
  evF G0 20 161 [.nilslice, .int .i64 n] ⟨0, []⟩ (Yc 0 (.ret (.nslice ⟨0, 0, 0, 0, 0⟩ 1 L L)) 1 [(0, .ints .u8 ys)]) := by
 refine @Eq.mpr _ (let q1 := [wrap u8 (ZA i64 n 8), wrap u8 (ZA i64 n 0)];
 let q2 := wrap u8 (ZA i64 n 24) :: wrap u8 (ZA i64 n 16) :: q1;
 Z0 (decide (n < 253)) (Z0 (decide (1 = L)) (Z0 (decide (L ≤ 1)) ([wrap u8 n] = ys ∧ True) False) False) (Z0 (decide (n < 65536)) (Z0 (decide (3 = L)) (Z0 (decide (L ≤ 3)) ((253 : Int) :: q1 = ys ∧ True) False) False) (Z0 (decide (n < 4294967296)) (Z0 (decide (5 = L)) (Z0 (decide (L ≤ 5)) ((254 : Int) :: q2 = ys ∧ True) False) False) (Z0 (decide (9 = L)) (Z0 (decide (L ≤ 9)) ((255 : Int) :: wrap u8 (ZA i64 n 56) :: wrap u8 (ZA i64 n 48) :: wrap u8 (ZA i64 n 40) :: wrap u8 (ZA i64 n 32) :: q2 = ys ∧ True) False) False)))) (by kernel_rfl) ?_
 conv => zeta
 try simp only [Zg]
 try simp only [Zh]
 try simp only [Zf]
 try simp only [Int.toNat_natCast, Nat.zero_add, true_and, and_true, Nat.le_refl]
 subst hy hL
 refine ⟨fun h1 => ?_, fun h1 => ⟨fun h2 => ?_, fun h2 => ⟨fun h3 => ?_, fun h3 => ?_⟩⟩⟩
 ·rw [ZfZ h1]; simp
 ·rw [Zg0 h1 h2]; simp [b8]
 ·rw [Zg1 h1 h2 h3]; simp [b8]
 ·rw [Zg2 h1 h2 h3]; simp [b8]
def ZgN (W : Int → List Int) : Y9 := fun args h K => match args with
 | [.nslice ⟨b, 0, _, 0, 0⟩ 1 _ _, .int .i64 _] => frA [b] h 20 args fun Bs a => match Bs, a with
  | [.ints .u8 xs], [.nslice ⟨0, 0, _, 0, 0⟩ 1 len _, .int .i64 n] => Zw (xs.length = len ∧ len < 90000000000000) (K (.ret (.nslice ⟨h.next, 0, 0, 0, 0⟩ 1 (xs ++ W n).length (xs ++ W n).length)) ⟨h.next + 1, (h.next, .ints .u8 (xs ++ W n)) :: XO h.bs b⟩)
  | _, _ => False
 | [.nilslice, .int .i64 n] => K (.ret (.nslice ⟨h.next, 0, 0, 0, 0⟩ 1 (W n).length (W n).length)) ⟨h.next + 1, (h.next, .ints .u8 (W n)) :: h.bs⟩
 | _ => False
theorem Zer (args : List AV) (h : Z7) (K : KO) (hl : ZgN Y3 args h K) : Zk PP 161 args h K := by
 unfold ZgN at hl
 split at hl
 ·refine Spec.fsumm hl fun Bs a hlen hK0 => ?_
  split at hK0
  ·obtain ⟨⟨h1, h2⟩, hK⟩ := Za hK0
   exact ⟨_, _, _, _, _, .evM Zu (ZiK _ _ _ _ _ _ _ h1 h2 rfl rfl), by simp, .ret _ _ rfl, .cons _ _ _ _ _ _ rfl (.ints _ _) .nil, hK⟩
  ·exact hK0.elim
 ·exact (ZB.evM Zu (ZiL _ _ _ rfl rfl)).calls (fun E w rs he hr => by
   cases hr with
   | cons v r vs rs h1 h2 => cases h2 with
    | cons v r vs rs h2 h3 => cases h3; exact .cons _ _ _ _ (h1.plain rfl) (.cons _ _ _ _ (h2.plain rfl) .nil)) rfl ⟨Nat.one_pos, .ints _ _, trivial⟩ hl
 ·exact hl.elim
theorem Zce (x : Int) (xs : List Int) (N : Nat) (hN : (x :: xs).length = N) (hB : N < 90000000000000) :
  evF G0 20 166 [.vints .u8 (x :: xs) N] ⟨0, []⟩ (Yc 0 (.ret (.nslice ⟨0, 0, 0, 0, 0⟩ 1 N N)) 1 [(0, .ints .u8 (x :: xs))]) := by
 refine @Eq.mpr _ (let q1 := [] ++ List.take N (x :: xs);
 let q2 := List.length q1;
 Z0 (decide (q2 * 1 ≤ 140737488355328)) (Z0 (decide (q2 = N)) (Z0 (decide (N ≤ q2)) (q1 = x :: xs ∧ True) False) False) False) (by kernel_rfl) ?_
 conv => zeta
 try simp only [Zg]
 try simp only [Zl]
 try simp only [Zh]
 try simp only [Zm]
 try simp only [Zn]
 try simp only [Zf]
 try simp only [Int.toNat_natCast, Nat.zero_add, true_and, and_true, Nat.le_refl]
 subst hN
 simp only [List.nil_append, List.take_length]
 and_intros <;> first | trivial | omega
theorem Zcf (u : Unit)  :
  evF G0 20 166 [.nilslice] ⟨0, []⟩ (Yc 0 (.ret (.nslice ⟨0, 0, 0, 0, 0⟩ 1 0 0)) 1 [(0, .ints .u8 [])]) := by
 refine @Eq.mpr _ (([] : List Int) = [] ∧ True) (by kernel_rfl) ?_
 trivial
theorem Zcg (u : Unit)  :
  evF G0 20 166 [.fslice] ⟨0, []⟩ (Yc 0 (.ret (.nslice ⟨0, 0, 0, 0, 0⟩ 1 0 0)) 1 [(0, .ints .u8 [])]) := by
 refine @Eq.mpr _ (([] : List Int) = [] ∧ True) (by kernel_rfl) ?_
 trivial
theorem Z6o (xs : List Int) (N : Nat) (hN : xs.length = N) (hB : N < 90000000000000) : ZB PP 166 [.vints .u8 xs N] (.nslice ⟨0, 0, 0, 0, 0⟩ 1 N N) 1 [(0, .ints .u8 xs)] := by
 cases xs with
 | nil => subst hN; exact ZB.vints0 (.evM Zu (Zcf ())) (.evM Zu (Zcg ()))
 | cons x r => exact .evM Zu (Zce x r N hN hB)
def Z95 : Y9 := fun args h K => ZH none h true 20 args fun a => match a with
 | [.vints .u8 xs n] => Zw (xs.length = n ∧ n < 90000000000000) (K (.ret (.nslice ⟨h.next, 0, 0, 0, 0⟩ 1 n n)) ⟨h.next + 1, (h.next, .ints .u8 xs) :: h.bs⟩)
 | _ => False
theorem Z7Z (args : List AV) (h : Z7) (K : KO) (hl : Z95 args h K) : Zk PP 166 args h K := by
 refine ZB.fsumm (d := 20) (Zq _ _ _ _ _ hl fun a ha => ?_)
 split at ha
 ·obtain ⟨⟨h1, h2⟩, hK⟩ := Za ha
  exact ⟨_, _, _, _, Z6o _ _ h1 h2, rfl, ⟨Nat.one_pos, .ints _ _, trivial⟩, hK⟩
 ·exact ha.elim
end Go.Tk
end
section
namespace Go.Tk
open IntKind (i64 u8 u32 u64 wrap)
theorem Spec.conv {P : Program} {f : FuncId} {args args₀ : List AV} {h0 : Z7} {o : Out} {nx : Nat} {bs : List (Nat × Blk)} (h : Spec P f args₀ h0 o nx bs) (hc : ∀ E r, ZG E args r → ZG E args₀ r) : Spec P f args h0 o nx bs :=
 fun E w rs he hr => h E w rs he (hc E rs hr)
noncomputable def Zes (W : Int → List Int) : Zd := G0.withF 161 (ZgN W)
theorem Z5e : (Zes Y3).Ok := Zd.withF_ok Zu Zer
theorem ZgO (W : Int → List Int) (T : Int) (xs ys : List Int) (N L lo : Nat) (n : Int) (hT : T = 4611686018427387904) (hN : xs.length = N) (hB : N < 90000000000000) (hn : 0 ≤ n ∧ n ≤ T) (hy : ys = xs ++ W n) (hL : L = ys.length) :
  evF (Zes W) 20 119 [.ptr (some ⟨0, 0, 0, 0, 0⟩), .vints .i64 [n] 1] ⟨2, [(0, .flat [.nslice ⟨1, 0, 0, 0, 0⟩ 1 N lo, .bool true]), (1, .ints .u8 xs)]⟩ (Yc 2 (.ret (.int .i64 0)) 3 [(0, .flat [.nslice ⟨2, 0, 0, 0, 0⟩ 1 L L, .bool true]), (2, .ints .u8 ys)]) := by
 refine @Eq.mpr _ (let q1 := xs ++ W n;
 let q2 := List.length q1;
 Z0 (decide (n < 0)) False (Z0 (decide (n > 4611686018427387904)) False (Z0 (decide (List.length xs = N ∧ N < 90000000000000)) (Z0 (decide (q2 = L)) (Z0 (decide (L ≤ q2)) (q1 = ys ∧ True) False) False) False))) (by kernel_rfl) ?_
 conv => zeta
 try simp only [Zg]
 try simp only [Zl]
 try simp only [Zh]
 try simp only [Zm]
 try simp only [Zn]
 try simp only [Zf]
 try simp only [Int.toNat_natCast, Nat.zero_add, true_and, and_true, Nat.le_refl]
 subst hT hN hy hL
 exact ⟨by omega, by omega, ⟨rfl, hB⟩, rfl, Nat.le_refl _, rfl⟩
theorem ZgP (W : Int → List Int) (T : Int) (xs ys : List Int) (N L lo : Nat) (n m : Int) (hT : T = 4611686018427387904) (hW : W = Y3) (hN : xs.length = N) (hB : N < 80000000000000) (hn : 0 ≤ n ∧ n ≤ T) (hm : 0 ≤ m ∧ m ≤ T) (hy : ys = xs ++ W n ++ W m) (hL : L = ys.length) :
  evF (Zes W) 20 119 [.ptr (some ⟨0, 0, 0, 0, 0⟩), .vints .i64 [n, m] 2] ⟨2, [(0, .flat [.nslice ⟨1, 0, 0, 0, 0⟩ 1 N lo, .bool true]), (1, .ints .u8 xs)]⟩ (Yc 2 (.ret (.int .i64 0)) 3 [(0, .flat [.nslice ⟨2, 0, 0, 0, 0⟩ 1 L L, .bool true]), (2, .ints .u8 ys)]) := by
 refine @Eq.mpr _ (let q1 := xs ++ W n;
 let q2 := List.length q1;
 let q3 := q1 ++ W m;
 let q4 := List.length q3;
 Z0 (decide (n < 0)) False (Z0 (decide (n > 4611686018427387904)) False (Z0 (decide (m < 0)) False (Z0 (decide (m > 4611686018427387904)) False (Z0 (decide (List.length xs = N ∧ N < 90000000000000)) (Z0 (decide (q2 = q2 ∧ q2 < 90000000000000)) (Z0 (decide (q4 = L)) (Z0 (decide (L ≤ q4)) (q3 = ys ∧ True) False) False) False) False))))) (by kernel_rfl) ?_
 conv => zeta
 try simp only [Zg]
 try simp only [Zl]
 try simp only [Zh]
 try simp only [Zm]
 try simp only [Zn]
 try simp only [Zf]
 try simp only [Int.toNat_natCast, Nat.zero_add, true_and, and_true, Nat.le_refl]
 subst hT hN hy hL hW
 have := Yk n
 refine ⟨by omega, by omega, by omega, by omega, ⟨rfl, by omega⟩, ?_⟩
 simp only [List.length_append]
 and_intros <;> first | trivial | omega
theorem ZgQ (W : Int → List Int) (T : Int) (ys : List Int) (L : Nat) (n m : Int) (hT : T = 4611686018427387904) (hW : W = Y3) (hn : 0 ≤ n ∧ n ≤ T) (hm : 0 ≤ m ∧ m ≤ T) (hy : ys = W n ++ W m) (hL : L = ys.length) :
  evF (Zes W) 20 119 [.ptr (some ⟨0, 0, 0, 0, 0⟩), .vints .i64 [n, m] 2] ⟨1, [(0, .flat [.nilslice, .bool true])]⟩ (Yc 1 (.ret (.int .i64 0)) 2 [(0, .flat [.nslice ⟨1, 0, 0, 0, 0⟩ 1 L L, .bool true]), (1, .ints .u8 ys)]) := by
 refine @Eq.mpr _ (let q1 := List.length (W n);
 let q2 := W n ++ W m;
 let q3 := List.length q2;
 Z0 (decide (n < 0)) False (Z0 (decide (n > 4611686018427387904)) False (Z0 (decide (m < 0)) False (Z0 (decide (m > 4611686018427387904)) False (Z0 (decide (q1 = q1 ∧ q1 < 90000000000000)) (Z0 (decide (q3 = L)) (Z0 (decide (L ≤ q3)) (q2 = ys ∧ True) False) False) False))))) (by kernel_rfl) ?_
 conv => zeta
 try simp only [Zg]
 try simp only [Zl]
 try simp only [Zh]
 try simp only [Zm]
 try simp only [Zn]
 try simp only [Zf]
 try simp only [Int.toNat_natCast, Nat.zero_add, true_and, and_true, Nat.le_refl]
 subst hT hy hL hW
 have := Yk n
 refine ⟨by omega, by omega, by omega, by omega, ?_⟩
 simp only [List.length_append]
 and_intros <;> first | trivial | omega
theorem Zet (xs hh ys : List Int) (N L lo : Nat) (hN : xs.length = N) (hB : N < 90000000000000) (hq : hh.length = 32) (hy : ys = xs ++ hh) (hL : L = ys.length) :
  evF G0 20 120 [.ptr (some ⟨0, 0, 0, 0, 0⟩), .vrows 32 1 (fun _ => [.arr .u8 32 hh]) 1] ⟨2, [(0, .flat [.nslice ⟨1, 0, 0, 0, 0⟩ 1 N lo, .bool true]), (1, .ints .u8 xs)]⟩ (Yc 2 (.ret (.int .i64 0)) 3 [(0, .flat [.nslice ⟨2, 0, 0, 0, 0⟩ 1 L L, .bool true]), (2, .ints .u8 ys)]) := by
 refine @Eq.mpr _ (let q1 := xs ++ hh;
 let q2 := List.length q1;
 Z0 (decide (u8 = u8 ∧ List.length hh = 32)) (Z0 (decide (u8 = u8 ∧ List.length xs = N)) (Z0 (decide (q2 * 1 ≤ 140737488355328)) (Z0 (decide (q2 = L)) (Z0 (decide (L ≤ q2)) (q1 = ys ∧ True) False) False) False) False) False) (by kernel_rfl) ?_
 conv => zeta
 try simp only [Zg]
 try simp only [Zl]
 try simp only [Zh]
 try simp only [Zm]
 try simp only [Zn]
 try simp only [Zf]
 try simp only [Int.toNat_natCast, Nat.zero_add, true_and, and_true, Nat.le_refl]
 subst hN hy hL
 refine ⟨hq, rfl, ?_⟩
 simp only [List.length_append]
 and_intros <;> first | trivial | omega
def Zch (W : Int → List Int) (T : Int) : Y9 := fun args h K => match args with
 | [.ptr (some ⟨w, 0, 0, 0, 0⟩), _] => match h.get w with
  | some (.flat [.nslice ⟨b, 0, 0, 0, 0⟩ 1 _ _, .bool true]) => frA [w, b] h 20 args fun Bs a => match Bs, a with
   | [.flat [.nslice ⟨1, 0, 0, 0, 0⟩ 1 N _, .bool true], .ints .u8 xs], [.ptr (some ⟨0, 0, 0, 0, 0⟩), .vints .i64 [n] 1] =>
    Zw (xs.length = N ∧ N < 80000000000000 ∧ 0 ≤ n ∧ n ≤ T) (K (.ret (.int .i64 0)) ⟨h.next + 1, (w, .flat [.nslice ⟨h.next, 0, 0, 0, 0⟩ 1 (xs ++ W n).length (xs ++ W n).length, .bool true]) :: (h.next, .ints .u8 (xs ++ W n)) :: XO (XO h.bs w) b⟩)
   | [.flat [.nslice ⟨1, 0, 0, 0, 0⟩ 1 N _, .bool true], .ints .u8 xs], [.ptr (some ⟨0, 0, 0, 0, 0⟩), .vints .i64 [n, m] 2] =>
    Zw (xs.length = N ∧ N < 80000000000000 ∧ (0 ≤ n ∧ n ≤ T) ∧ 0 ≤ m ∧ m ≤ T) (K (.ret (.int .i64 0)) ⟨h.next + 1, (w, .flat [.nslice ⟨h.next, 0, 0, 0, 0⟩ 1 (xs ++ W n ++ W m).length (xs ++ W n ++ W m).length, .bool true]) :: (h.next, .ints .u8 (xs ++ W n ++ W m)) :: XO (XO h.bs w) b⟩)
   | _, _ => False
  | some (.flat [.nilslice, .bool true]) => frA [w] h 20 args fun Bs a => match Bs, a with
   | [.flat [.nilslice, .bool true]], [.ptr (some ⟨0, 0, 0, 0, 0⟩), .vints .i64 [n, m] 2] =>
    Zw ((0 ≤ n ∧ n ≤ T) ∧ 0 ≤ m ∧ m ≤ T) (K (.ret (.int .i64 0)) ⟨h.next + 1, (w, .flat [.nslice ⟨h.next, 0, 0, 0, 0⟩ 1 (W n ++ W m).length (W n ++ W m).length, .bool true]) :: (h.next, .ints .u8 (W n ++ W m)) :: XO h.bs w⟩)
   | _, _ => False
  | _ => False
 | _ => False
theorem Zci (args : List AV) (h : Z7) (K : KO) (hl : Zch Y3 4611686018427387904 args h K) : Zk PP 119 args h K := by
 unfold Zch at hl
 split at hl
 ·split at hl
  ·refine Spec.fsumm hl fun Bs a hlen hK0 => ?_
   split at hK0
   ·obtain ⟨⟨h1, h2, h3⟩, hK⟩ := Za hK0
    exact ⟨_, _, _, _, _, .evM Z5e (ZgO _ _ _ _ _ _ _ _ rfl h1 (by omega) h3 rfl rfl), by simp, .ret _ _ rfl, .cons _ _ _ _ _ _ rfl (.flat _ _ rfl) (.cons _ _ _ _ _ _ rfl (.ints _ _) .nil), hK⟩
   ·obtain ⟨⟨h1, h2, h3, h4⟩, hK⟩ := Za hK0
    exact ⟨_, _, _, _, _, .evM Z5e (ZgP _ _ _ _ _ _ _ _ _ rfl rfl h1 h2 h3 h4 rfl rfl), by simp, .ret _ _ rfl, .cons _ _ _ _ _ _ rfl (.flat _ _ rfl) (.cons _ _ _ _ _ _ rfl (.ints _ _) .nil), hK⟩
   ·exact hK0.elim
  ·refine Spec.fsumm hl fun Bs a hlen hK0 => ?_
   split at hK0
   ·obtain ⟨⟨h3, h4⟩, hK⟩ := Za hK0
    exact ⟨_, _, _, _, _, .evM Z5e (ZgQ _ _ _ _ _ _ rfl rfl h3 h4 rfl rfl), by simp, .ret _ _ rfl, .cons _ _ _ _ _ _ rfl (.flat _ _ rfl) (.cons _ _ _ _ _ _ rfl (.ints _ _) .nil), hK⟩
   ·exact hK0.elim
  ·exact hl.elim
 ·exact hl.elim
def Z80 : Y9 := fun args h K => match args with
 | [.ptr (some ⟨w, 0, 0, 0, 0⟩), _] => match h.get w with
  | some (.flat [.nslice ⟨b, 0, 0, 0, 0⟩ 1 _ _, .bool true]) => frA [w, b] h 20 args fun Bs a => match Bs, a with
   | [.flat [.nslice ⟨1, 0, 0, 0, 0⟩ 1 N _, .bool true], .ints .u8 xs], [.ptr (some ⟨0, 0, 0, 0, 0⟩), .vrows 32 1 f 1] => match f 0 with
    | [.arr .u8 32 hh] => Zw (xs.length = N ∧ N < 80000000000000 ∧ hh.length = 32) (K (.ret (.int .i64 0)) ⟨h.next + 1, (w, .flat [.nslice ⟨h.next, 0, 0, 0, 0⟩ 1 (xs ++ hh).length (xs ++ hh).length, .bool true]) :: (h.next, .ints .u8 (xs ++ hh)) :: XO (XO h.bs w) b⟩)
    | _ => False
   | _, _ => False
  | _ => False
 | _ => False
theorem Zan (args : List AV) (h : Z7) (K : KO) (hl : Z80 args h K) : Zk PP 120 args h K := by
 unfold Z80 at hl
 split at hl
 ·split at hl
  ·refine Spec.fsumm hl fun Bs a hlen hK0 => ?_
   split at hK0
   ·split at hK0
    case h_2 => exact hK0.elim
    rename_i hh hf
    obtain ⟨⟨h1, h2, h3⟩, hK⟩ := Za hK0
    refine ⟨_, _, _, _, _, (Spec.evM Zu (Zet _ hh _ _ _ _ h1 (by omega) h3 rfl rfl)).conv fun E r hr => hr.head (fun _ hc => hc) fun _ hc => hc.head (fun _ hc => hc.rowsC ?_) fun _ hc => hc, by simp, .ret _ _ rfl, .cons _ _ _ _ _ _ rfl (.flat _ _ rfl) (.cons _ _ _ _ _ _ rfl (.ints _ _) .nil), hK⟩
    intro i hi
    have : i = 0 := by omega
    subst this
    exact hf
   ·exact hK0.elim
  ·exact hl.elim
 ·exact hl.elim
end Go.Tk
end
section
namespace Go.Tk
open IntKind (i64 u8 u32 u64 wrap)
theorem Z1j {x : InS} (h : Y2 x = true) : (1 ≤ x.way ∧ x.way ≤ 6) ∧ 0 ≤ x.index ∧ x.index ≤ 23 := by
 unfold Y2 at h
 simp only [Bool.and_eq_true, decide_eq_true_eq] at h
 exact ⟨h.1.1.1.1, h.2⟩
noncomputable def Z81 (W : Int → List Int) (T : Int) : Zd := (G0.withF 119 (Zch W T)).withF 120 Z80
theorem Z96 : (Z81 Y3 4611686018427387904).Ok := Zd.withF_ok (Zd.withF_ok Zu Zci) Zan
def inW (W : Int → List Int) (core : Bool) (x : InS) : List Int := x.name ++ W x.index ++ (match core with
 | true => []
 | false => W x.way ++ ((if x.way = 4 then [] else x.tag) ++ (if x.way = 1 then x.also else []) ++ (if x.way = 4 ∨ x.way = 5 then x.secret else [])))
def Z5f (W : Int → List Int) (o : Zs) : List Int := W o.kind ++ W o.amount ++ o.owner ++ (if o.kind = 2 ∨ o.kind = 4 ∨ o.kind = 5 then o.other else []) ++ (if 3 ≤ o.kind then o.point else []) ++ (if 4 ≤ o.kind then o.hash else [])
 ++ (if 3 ≤ o.kind then W o.delay else []) ++ (if 4 ≤ o.kind then W o.expiry else [])
def Zao (t : TxS) (core : Bool) (i : Nat) (xs : List Int) (n : Nat) : St := ⟨120, [(26, .int .i64 i), (25, .int .i64 t.N), (2, .ptr (some ⟨0, 0, 0, 0, 0⟩)), (5, .ptr (some ⟨1, 0, 0, 0, 0⟩)), (1, .bool core)], ⟨3, [(0, .flat t.c), (1, .flat [.nslice ⟨2, 0, 0, 0, 0⟩ 1 n n, .bool true]), (2, .ints .u8 xs)]⟩, []⟩
def U9 (t : TxS) (xs : List Int) (n : Nat) : St := ⟨120, [(2, .ptr (some ⟨0, 0, 0, 0, 0⟩)), (5, .ptr (some ⟨1, 0, 0, 0, 0⟩))], ⟨3, [(0, .flat t.c), (1, .flat [.nslice ⟨2, 0, 0, 0, 0⟩ 1 n n, .bool true]), (2, .ints .u8 xs)]⟩, []⟩
theorem ZgR (W : Int → List Int) (T : Int) (t : TxS) (i : Nat) (xs ys : List Int) (n m : Nat) (Z1 Z2 : Prop) (hT : T = 4611686018427387904) (ht : t.Ok) (hi : i ≤ t.N) (hr : ∀ j, j < t.N → Y2 (t.ins j) = true) (hW : W = Y3) (hn : xs.length = n) (hs : n < 10000000000000) (hy : ys = xs ++ inW W true (t.ins i)) (hm : ys.length = m) (h1 : i < t.N → Z1) (h2 : i = t.N → Z2) :
  ZF (Z81 W T) 20 65 0 0 (Zao t true i xs n) (rdM 0 0 9 (Zao t true (i + 1) ys m) (U9 t xs n) (U9 t xs n) (U9 t xs n) Z1 Z2 False False) := by
 refine @Eq.mpr _ (let q1 := t.N;
 let q2 := (↑q1 : Int);
 let q3 := t.ins (Int.toNat (↑i : Int));
 let q4 := q3.name;
 let q5 := xs ++ q4;
 let q6 := List.length q5;
 let q7 := q3.index;
 let q8 := decide (t.num = t.num);
 let q9 := decide (q1 = q1);
 let q10 := Zb t.ins;
 let q11 := q10 = q10;
 let q12 := decide (t.M = t.M);
 let q13 := Z8 t.outs;
 let q14 := q13 = q13;
 let q15 := q5 ++ W q7;
 let q16 := List.length q15;
 Z0 (decide ((↑i : Int) < q2)) (Z0 (decide (0 ≤ (↑i : Int) ∧ (↑i : Int) < q2)) (Z0 (decide (List.length xs = n ∧ n < 80000000000000 ∧ List.length q4 = 32)) (Z0 (decide (q6 = q6 ∧ q6 < 80000000000000 ∧ 0 ≤ q7 ∧ q7 ≤ T)) (Z0 (decide (wrap i64 ((↑i : Int) + 1) = (↑(i + 1) : Int))) (Z0 (decide (q2 = q2)) (Z0 q8 (Z0 q9 (q11 ∧ Z0 q9 (Z0 q12 (q14 ∧ Z0 q12 (Z0 (decide (q16 = m)) (Z0 (decide (m ≤ q16)) (q15 = ys ∧ Z1) False) False) False) False) False) False) False) False) False) False) False) False) (Z0 q8 (Z0 q9 (q11 ∧ Z0 q9 (Z0 q12 (q14 ∧ Z0 q12 (Z0 (decide (n = n)) (Z0 (decide (n ≤ n)) (xs = xs ∧ Z2) False) False) False) False) False) False) False)) (by kernel_rfl) ?_
 conv => zeta
 try simp only [Zg]
 try simp only [Zl]
 try simp only [Zh]
 try simp only [Zm]
 try simp only [Zn]
 try simp only [Zf]
 try simp only [Int.toNat_natCast, Nat.zero_add, true_and, and_true, Nat.le_refl]
 refine ⟨fun hlt => ?_, fun hge => h2 (by omega)⟩
 obtain ⟨⟨w1, w2⟩, w3, w4⟩ := Z1j (hr i (by omega))
 obtain ⟨l1, l2, l3, l4⟩ := ht.ins i (by omega)
 have hw := h1 (by omega)
 have hnn := ht.n
 have hwr : i64.wrap ((i : Int) + 1) = ((i + 1 : Nat) : Int) := w64 (by omega)
 have u1 := Yk (t.ins i).index
 have u2 := Yk (t.ins i).way
 subst hW hT
 rw [hwr]
 unfold inW at hy
 generalize t.ins i = x at *
 simp only [List.length_append]
 repeat' (first | (refine And.intro ?_ ?_) | intro _)
 all_goals first | omega | assumption | trivial | skip
 all_goals first | (rw [hy]; simp [*]; done) | (rw [← hm, hy]; simp [*]; try omega; done) | skip
theorem ZgS (W : Int → List Int) (T : Int) (t : TxS) (i : Nat) (xs ys : List Int) (n m : Nat) (Z1 Z2 : Prop) (hT : T = 4611686018427387904) (ht : t.Ok) (hi : i ≤ t.N) (hr : ∀ j, j < t.N → Y2 (t.ins j) = true) (hW : W = Y3) (hn : xs.length = n) (hs : n < 10000000000000) (hy : ys = xs ++ inW W false (t.ins i)) (hm : ys.length = m) (h1 : i < t.N → Z1) (h2 : i = t.N → Z2) :
  ZF (Z81 W T) 20 65 0 0 (Zao t false i xs n) (rdM 0 0 9 (Zao t false (i + 1) ys m) (U9 t xs n) (U9 t xs n) (U9 t xs n) Z1 Z2 False False) := by
 refine @Eq.mpr _ (let q1 := t.N;
 let q2 := (↑q1 : Int);
 let q3 := t.ins (Int.toNat (↑i : Int));
 let q4 := q3.name;
 let q5 := xs ++ q4;
 let q6 := List.length q5;
 let q7 := q3.index;
 let q8 := q5 ++ W q7;
 let q9 := List.length q8;
 let q10 := q3.way;
 let q11 := q8 ++ W q10;
 let q12 := List.length q11;
 let q13 := q3.tag;
 let q14 := decide (q12 = q12 ∧ q12 < 80000000000000 ∧ List.length q13 = 32);
 let q15 := q11 ++ q13;
 let q16 := List.length q15;
 let q17 := q3.also;
 let q18 := decide (wrap i64 ((↑i : Int) + 1) = (↑(i + 1) : Int));
 let q19 := decide (q2 = q2);
 let q20 := decide (t.num = t.num);
 let q21 := decide (q1 = q1);
 let q22 := Zb t.ins;
 let q23 := q22 = q22;
 let q24 := decide (t.M = t.M);
 let q25 := Z8 t.outs;
 let q26 := q25 = q25;
 let q27 := q15 ++ q17;
 let q28 := List.length q27;
 let q29 := Z0 q14 (Z0 q18 (Z0 q19 (Z0 q20 (Z0 q21 (q23 ∧ Z0 q21 (Z0 q24 (q26 ∧ Z0 q24 (Z0 (decide (q16 = m)) (Z0 (decide (m ≤ q16)) (q15 = ys ∧ Z1) False) False) False) False) False) False) False) False) False) False;
 let q30 := q3.secret;
 let q31 := q11 ++ q30;
 let q32 := List.length q31;
 let q33 := q15 ++ q30;
 let q34 := List.length q33;
 Z0 (decide ((↑i : Int) < q2))
 (Z0 (decide (0 ≤ (↑i : Int) ∧ (↑i : Int) < q2))
 (Z0 (decide (List.length xs = n ∧ n < 80000000000000 ∧ List.length q4 = 32))
 (Z0 (decide (q6 = q6 ∧ q6 < 80000000000000 ∧ 0 ≤ q7 ∧ q7 ≤ T))
 (Z0 (decide (q9 = q9 ∧ q9 < 80000000000000 ∧ 0 ≤ q10 ∧ q10 ≤ T))
 (Z0 (decide (q10 = q10))
 (Z0 (decide (q10 = 1)) (Z0 q14 (Z0 (decide (q16 = q16 ∧ q16 < 80000000000000 ∧ List.length q17 = 32)) (Z0 q18 (Z0 q19 (Z0 q20 (Z0 q21 (q23 ∧ Z0 q21 (Z0 q24 (q26 ∧ Z0 q24 (Z0 (decide (q28 = m)) (Z0 (decide (m ≤ q28)) (q27 = ys ∧ Z1) False) False) False) False) False) False) False) False) False) False) False)
 (Z0 (decide (q10 = 2)) q29 (Z0 (decide (q10 = 3)) q29 (Z0 (decide (q10 = 4)) (Z0 (decide (q12 = q12 ∧ q12 < 80000000000000 ∧ List.length q30 = 32)) (Z0 q18 (Z0 q19 (Z0 q20 (Z0 q21 (q23 ∧ Z0 q21 (Z0 q24 (q26 ∧ Z0 q24 (Z0 (decide (q32 = m)) (Z0 (decide (m ≤ q32)) (q31 = ys ∧ Z1) False) False) False) False) False) False) False) False) False) False) (Z0 (decide (q10 = 5)) (Z0 q14 (Z0 (decide (q16 = q16 ∧ q16 < 80000000000000 ∧ List.length q30 = 32)) (Z0 q18 (Z0 q19 (Z0 q20 (Z0 q21 (q23 ∧ Z0 q21 (Z0 q24 (q26 ∧ Z0 q24 (Z0 (decide (q34 = m)) (Z0 (decide (m ≤ q34)) (q33 = ys ∧ Z1) False) False) False) False) False) False) False) False) False) False) False) (Z0 (decide (q10 = 6)) q29 (Z0 q18 (Z0 q19 (Z0 q20 (Z0 q21 (q23 ∧ Z0 q21 (Z0 q24 (q26 ∧ Z0 q24 (Z0 (decide (q12 = m)) (Z0 (decide (m ≤ q12)) (q11 = ys ∧ Z1) False) False) False) False) False) False) False) False) False)))))))
 False)
 False)
 False)
 False)
 False)
 (Z0 q20 (Z0 q21 (q23 ∧ Z0 q21 (Z0 q24 (q26 ∧ Z0 q24 (Z0 (decide (n = n)) (Z0 (decide (n ≤ n)) (xs = xs ∧ Z2) False) False) False) False) False) False) False)) (by kernel_rfl) ?_
 conv => zeta
 try simp only [Zg]
 try simp only [Zl]
 try simp only [Zh]
 try simp only [Zm]
 try simp only [Zn]
 try simp only [Zf]
 try simp only [Int.toNat_natCast, Nat.zero_add, true_and, and_true, Nat.le_refl]
 refine ⟨fun hlt => ?_, fun hge => h2 (by omega)⟩
 obtain ⟨⟨w1, w2⟩, w3, w4⟩ := Z1j (hr i (by omega))
 obtain ⟨l1, l2, l3, l4⟩ := ht.ins i (by omega)
 have hw := h1 (by omega)
 have hnn := ht.n
 have hwr : i64.wrap ((i : Int) + 1) = ((i + 1 : Nat) : Int) := w64 (by omega)
 have u1 := Yk (t.ins i).index
 have u2 := Yk (t.ins i).way
 subst hW hT
 rw [hwr]
 unfold inW at hy
 generalize t.ins i = x at *
 simp only [List.length_append]
 repeat' (first | (refine And.intro ?_ ?_) | intro _)
 all_goals first | omega | assumption | trivial | skip
 all_goals first | (rw [hy]; simp [*]; done) | (rw [← hm, hy]; simp [*]; try omega; done) | skip
theorem Xe {o : Zs} (h : ZL o = true) : (1 ≤ o.kind ∧ o.kind ≤ 5) ∧ (0 < o.amount ∧ o.amount ≤ 1125899906842624) ∧ (0 ≤ o.delay ∧ o.delay ≤ 2147483647) ∧ 0 ≤ o.expiry ∧ o.expiry ≤ 2147483647 := by
 unfold ZL at h
 simp only [Bool.and_eq_true, decide_eq_true_eq] at h
 obtain ⟨⟨⟨⟨h1, _⟩, h2⟩, h3⟩, h4⟩ := h
 refine ⟨?_, h2, h3, h4⟩
 revert h1
 simp only [and_imp]
 intros
 omega
def Z6p (t : TxS) (i : Nat) (xs : List Int) (n : Nat) : St := ⟨120, [(82, .int .i64 i), (81, .int .i64 t.M), (2, .ptr (some ⟨0, 0, 0, 0, 0⟩)), (5, .ptr (some ⟨1, 0, 0, 0, 0⟩))], ⟨3, [(0, .flat t.c), (1, .flat [.nslice ⟨2, 0, 0, 0, 0⟩ 1 n n, .bool true]), (2, .ints .u8 xs)]⟩, []⟩
theorem ZgT (W : Int → List Int) (T : Int) (t : TxS) (i : Nat) (xs ys : List Int) (n m : Nat) (Z1 Z2 : Prop) (hT : T = 4611686018427387904) (ht : t.Ok) (hi : i ≤ t.M) (hr : ∀ j, j < t.M → ZL (t.outs j) = true) (hW : W = Y3) (hn : xs.length = n) (hs : n < 10000000000000) (hy : ys = xs ++ Z5f W (t.outs i)) (hm : ys.length = m) (h1 : i < t.M → Z1) (h2 : i = t.M → Z2) :
  ZF (Z81 W T) 20 65 4 0 (Z6p t i xs n) (rdM 0 4 9 (Z6p t (i + 1) ys m) (U9 t xs n) (U9 t xs n) (U9 t xs n) Z1 Z2 False False) := by
 refine @Eq.mpr _ (let q1 := t.M;
 let q2 := (↑q1 : Int);
 let q3 := t.outs (Int.toNat (↑i : Int));
 let q4 := q3.kind;
 let q5 := q3.amount;
 let q6 := xs ++ W q4 ++ W q5;
 let q7 := List.length q6;
 let q8 := q3.owner;
 let q9 := decide (q7 = q7 ∧ q7 < 80000000000000 ∧ List.length q8 = 32);
 let q10 := decide (wrap i64 ((↑i : Int) + 1) = (↑(i + 1) : Int));
 let q11 := decide (q2 = q2);
 let q12 := decide (t.num = t.num);
 let q13 := decide (t.N = t.N);
 let q14 := Zb t.ins;
 let q15 := q14 = q14;
 let q16 := decide (q1 = q1);
 let q17 := Z8 t.outs;
 let q18 := q17 = q17;
 let q19 := q6 ++ q8;
 let q20 := List.length q19;
 let q21 := q3.other;
 let q22 := decide (q20 = q20 ∧ q20 < 80000000000000 ∧ List.length q21 = 32);
 let q23 := q19 ++ q21;
 let q24 := List.length q23;
 let q25 := q3.point;
 let q26 := q19 ++ q25;
 let q27 := List.length q26;
 let q28 := q3.delay;
 let q29 := W q28;
 let q30 := q26 ++ q29;
 let q31 := List.length q30;
 let q32 := q23 ++ q25;
 let q33 := List.length q32;
 let q34 := q3.hash;
 let q35 := q32 ++ q34;
 let q36 := List.length q35;
 let q37 := q35 ++ q29;
 let q38 := List.length q37;
 let q39 := q3.expiry;
 let q40 := q37 ++ W q39;
 let q41 := List.length q40;
 let q42 := Z0 q9 (Z0 q22 (Z0 (decide (q24 = q24 ∧ q24 < 80000000000000 ∧ List.length q25 = 32)) (Z0 (decide (q33 = q33 ∧ q33 < 80000000000000 ∧ List.length q34 = 32)) (Z0 (decide (q36 = q36 ∧ q36 < 80000000000000 ∧ 0 ≤ q28 ∧ q28 ≤ T)) (Z0 (decide (q38 = q38 ∧ q38 < 80000000000000 ∧ 0 ≤ q39 ∧ q39 ≤ T)) (Z0 q10 (Z0 q11 (Z0 q12 (Z0 q13 (q15 ∧ Z0 q13 (Z0 q16 (q18 ∧ Z0 q16 (Z0 (decide (q41 = m)) (Z0 (decide (m ≤ q41)) (q40 = ys ∧ Z1) False) False) False) False) False) False) False) False) False) False) False) False) False) False) False;
 Z0 (decide ((↑i : Int) < q2))
 (Z0 (decide (0 ≤ (↑i : Int) ∧ (↑i : Int) < q2))
 (Z0 (decide (List.length xs = n ∧ n < 80000000000000 ∧ (0 ≤ q4 ∧ q4 ≤ T) ∧ 0 ≤ q5 ∧ q5 ≤ T))
 (Z0 (decide (q4 = q4))
 (Z0 (decide (q4 = 1)) (Z0 q9 (Z0 q10 (Z0 q11 (Z0 q12 (Z0 q13 (q15 ∧ Z0 q13 (Z0 q16 (q18 ∧ Z0 q16 (Z0 (decide (q20 = m)) (Z0 (decide (m ≤ q20)) (q19 = ys ∧ Z1) False) False) False) False) False) False) False) False) False) False)
 (Z0 (decide (q4 = 2)) (Z0 q9 (Z0 q22 (Z0 q10 (Z0 q11 (Z0 q12 (Z0 q13 (q15 ∧ Z0 q13 (Z0 q16 (q18 ∧ Z0 q16 (Z0 (decide (q24 = m)) (Z0 (decide (m ≤ q24)) (q23 = ys ∧ Z1) False) False) False) False) False) False) False) False) False) False) False) (Z0 (decide (q4 = 3)) (Z0 q9 (Z0 (decide (q20 = q20 ∧ q20 < 80000000000000 ∧ List.length q25 = 32)) (Z0 (decide (q27 = q27 ∧ q27 < 80000000000000 ∧ 0 ≤ q28 ∧ q28 ≤ T)) (Z0 q10 (Z0 q11 (Z0 q12 (Z0 q13 (q15 ∧ Z0 q13 (Z0 q16 (q18 ∧ Z0 q16 (Z0 (decide (q31 = m)) (Z0 (decide (m ≤ q31)) (q30 = ys ∧ Z1) False) False) False) False) False) False) False) False) False) False) False) False) (Z0 (decide (q4 = 4)) q42 (Z0 (decide (q4 = 5)) q42 (Z0 q10 (Z0 q11 (Z0 q12 (Z0 q13 (q15 ∧ Z0 q13 (Z0 q16 (q18 ∧ Z0 q16 (Z0 (decide (q7 = m)) (Z0 (decide (m ≤ q7)) (q6 = ys ∧ Z1) False) False) False) False) False) False) False) False) False))))))
 False)
 False)
 False)
 (Z0 q12 (Z0 q13 (q15 ∧ Z0 q13 (Z0 q16 (q18 ∧ Z0 q16 (Z0 (decide (n = n)) (Z0 (decide (n ≤ n)) (xs = xs ∧ Z2) False) False) False) False) False) False) False)) (by kernel_rfl) ?_
 conv => zeta
 try simp only [Zg]
 try simp only [Zl]
 try simp only [Zh]
 try simp only [Zm]
 try simp only [Zn]
 try simp only [Zf]
 try simp only [Int.toNat_natCast, Nat.zero_add, true_and, and_true, Nat.le_refl]
 refine ⟨fun hlt => ?_, fun hge => h2 (by omega)⟩
 obtain ⟨⟨w1, w2⟩, ⟨w3, w4⟩, ⟨w5, w6⟩, w7, w8⟩ := Xe (hr i (by omega))
 obtain ⟨l1, l2, l3, l4⟩ := ht.outs i (by omega)
 have hw := h1 (by omega)
 have hnn := ht.m
 have hwr : i64.wrap ((i : Int) + 1) = ((i + 1 : Nat) : Int) := w64 (by omega)
 have u1 := Yk (t.outs i).kind
 have u2 := Yk (t.outs i).amount
 have u3 := Yk (t.outs i).delay
 have u4 := Yk (t.outs i).expiry
 subst hW hT
 rw [hwr]
 unfold Z5f at hy
 generalize t.outs i = x at *
 simp only [List.length_append]
 repeat' (first | (refine And.intro ?_ ?_) | intro _)
 all_goals first | omega | assumption | trivial | skip
 all_goals first | (rw [hy]; simp [*]; done) | (rw [← hm, hy]; simp [*]; try omega; done) | skip
def VE (f : Nat → List Int) : Nat → List Int
 | 0 => []
 | n + 1 => VE f n ++ f n
theorem Zcj {f : Nat → List Int} {b : Nat} (h : ∀ i, (f i).length ≤ b) : ∀ n, (VE f n).length ≤ n * b
 | 0 => by simp [VE]
 | n + 1 => by
  have := Zcj h n
  have := h n
  simp only [VE, List.length_append, Nat.add_mul]
  omega
@[irreducible] def W3 (W : Int → List Int) (t : TxS) (core : Bool) (i : Nat) : List Int := W t.num ++ W t.N ++ VE (fun j => inW W core (t.ins j)) i
@[irreducible] def Xw (W : Int → List Int) (t : TxS) (core : Bool) (i : Nat) : List Int := W3 W t core t.N ++ W t.M ++ VE (fun j => Z5f W (t.outs j)) i
def Z0i (W : Int → List Int) (t : TxS) (core : Bool) : List Int := Xw W t core t.M
theorem Z4d (W : Int → List Int) (t : TxS) (core : Bool) (i : Nat) : W3 W t core (i + 1) = W3 W t core i ++ inW W core (t.ins i) := by unfold W3; simp [VE]
theorem Zap (W : Int → List Int) (t : TxS) (core : Bool) (i : Nat) : Xw W t core (i + 1) = Xw W t core i ++ Z5f W (t.outs i) := by unfold Xw; simp [VE]
structure TxS.Fine (t : TxS) : Prop where
 ok : t.Ok
 num : 0 ≤ t.num ∧ t.num ≤ 2147483647
 n : t.N ≤ 24
 m : t.M ≤ 24
 ins : ∀ j, j < t.N → Y2 (t.ins j) = true
 outs : ∀ j, j < t.M → ZL (t.outs j) = true
theorem Z0V {f : Nat → List Int} {b : Nat} : ∀ n, (∀ i, i < n → (f i).length ≤ b) → (VE f n).length ≤ n * b
 | 0, _ => by simp [VE]
 | n + 1, h => by
  have := Z0V n (fun i hi => h i (by omega))
  have := h n (by omega)
  simp only [VE, List.length_append, Nat.add_mul]
  omega
theorem Zeu {core : Bool} {x : InS} (h : x.Ok) : (inW Y3 core x).length ≤ 200 := by
 obtain ⟨l1, l2, l3, l4⟩ := h
 have u1 := Yk x.index
 have u2 := Yk x.way
 unfold inW
 cases core
 ·simp only [List.length_append]
  repeat' split
  all_goals (try simp only [List.length_nil])
  all_goals omega
 ·simp [*]; omega
theorem Zck {x : Zs} (h : x.Ok) : (Z5f Y3 x).length ≤ 200 := by
 obtain ⟨l1, l2, l3, l4⟩ := h
 have u1 := Yk x.kind
 have u2 := Yk x.amount
 have u3 := Yk x.delay
 have u4 := Yk x.expiry
 unfold Z5f
 simp only [List.length_append]
 repeat' split
 all_goals (try simp only [List.length_nil])
 all_goals omega
theorem Z2S {t : TxS} (h : t.Fine) (core : Bool) {i : Nat} (hi : i ≤ t.N) : (W3 Y3 t core i).length ≤ 10000 := by
 have h1 := Yk t.num
 have h2 := Yk t.N
 have h3 := Z0V (f := fun j => inW Y3 core (t.ins j)) (b := 200) i (fun j hj => Zeu (h.ok.ins j (by omega)))
 have := h.n
 unfold W3
 simp only [List.length_append]
 omega
theorem Z0j {t : TxS} (h : t.Fine) (core : Bool) {i : Nat} (hi : i ≤ t.M) : (Xw Y3 t core i).length ≤ 20000 := by
 have h1 := Z2S h core (Nat.le_refl t.N)
 have h2 := Yk t.M
 have h3 := Z0V (f := fun j => Z5f Y3 (t.outs j)) (b := 200) i (fun j hj => Zck (h.ok.outs j (by omega)))
 have := h.m
 unfold Xw
 simp only [List.length_append]
 omega
noncomputable def Zev (W : Int → List Int) (T : Int) (t : TxS) (core : Bool) : Zd :=
 (Z81 W T).withL 65 0 (goM 0 (Zao t core 0 (W3 W t core 0) (W3 W t core 0).length) t.Fine (Ym 0 t.N 9 (fun i => i < t.N) (fun i => i = t.N) (fun _ => False) (fun _ => False) (fun i => U9 t (W3 W t core i) (W3 W t core i).length) (fun i => U9 t (W3 W t core i) (W3 W t core i).length) (fun i => U9 t (W3 W t core i) (W3 W t core i).length)))
noncomputable def ZiM (W : Int → List Int) (T : Int) (t : TxS) (core : Bool) : Zd :=
 (Z81 W T).withL 65 4 (goM 0 (Z6p t 0 (Xw W t core 0) (Xw W t core 0).length) t.Fine (Ym 4 t.M 9 (fun i => i < t.M) (fun i => i = t.M) (fun _ => False) (fun _ => False) (fun i => U9 t (Xw W t core i) (Xw W t core i).length) (fun i => U9 t (Xw W t core i) (Xw W t core i).length) (fun i => U9 t (Xw W t core i) (Xw W t core i).length)))
theorem Zew (t : TxS) (core : Bool) (T : Int) (hT : T = 4611686018427387904) : (Zev Y3 T t core).Ok := by
 unfold Zev
 refine Zd.withGoM (N := 20) (S := fun i => Zao t core i (W3 Y3 t core i) (W3 Y3 t core i).length) (by subst hT; exact Z96) (by kernel_rfl) fun hC => ⟨rfl, fun i hi hgo => ?_⟩
 have h1 := Z2S hC core hi
 cases core
 ·exact ZgS Y3 T t i (W3 Y3 t false i) (W3 Y3 t false (i + 1)) _ _ _ _ hT hC.ok hi hC.ins rfl rfl (by omega) (Z4d _ _ _ _) rfl (fun h => ⟨h, h⟩) (fun h => h)
 ·exact ZgR Y3 T t i (W3 Y3 t true i) (W3 Y3 t true (i + 1)) _ _ _ _ hT hC.ok hi hC.ins rfl rfl (by omega) (Z4d _ _ _ _) rfl (fun h => ⟨h, h⟩) (fun h => h)
theorem Zex (t : TxS) (core : Bool) (T : Int) (hT : T = 4611686018427387904) : (ZiM Y3 T t core).Ok := by
 unfold ZiM
 refine Zd.withGoM (N := 20) (S := fun i => Z6p t i (Xw Y3 t core i) (Xw Y3 t core i).length) (by subst hT; exact Z96) (by kernel_rfl) fun hC => ⟨rfl, fun i hi hgo => ?_⟩
 have h1 := Z0j hC core hi
 exact ZgT Y3 T t i (Xw Y3 t core i) (Xw Y3 t core (i + 1)) _ _ _ _ hT hC.ok hi hC.outs rfl rfl (by omega) (Zap _ _ _ _) rfl (fun h => ⟨h, h⟩) (fun h => h)
noncomputable def ZgU (W : Int → List Int) (T : Int) (t : TxS) (core : Bool) : Zd :=
 ((Zev W T t core).withL 65 4 (goM 0 (Z6p t 0 (Xw W t core 0) (Xw W t core 0).length) t.Fine (Ym 4 t.M 9 (fun i => i < t.M) (fun i => i = t.M) (fun _ => False) (fun _ => False) (fun i => U9 t (Xw W t core i) (Xw W t core i).length) (fun i => U9 t (Xw W t core i) (Xw W t core i).length) (fun i => U9 t (Xw W t core i) (Xw W t core i).length)))).withF 166 Z95
theorem ZiN (W : Int → List Int) (T : Int) (t : TxS) (core : Bool) (ys : List Int) (L : Nat) (hT : T = 4611686018427387904) (hW : W = Y3) (ht : t.Fine) (hy : ys = Z0i W t core) (hL : L = ys.length) :
  evF (ZgU W T t core) 20 65 [.agg t.c, .bool core] ⟨0, []⟩ (Yc 0 (.ret (.nslice ⟨0, 0, 0, 0, 0⟩ 1 L L)) 1 [(0, .ints .u8 ys)]) := by
 refine @Eq.mpr _ (let q1 := t.num;
 let q2 := t.N;
 let q3 := ↑q2;
 let q4 := decide (q1 = q1);
 let q5 := decide (q2 = q2);
 let q6 := Zb t.ins;
 let q7 := q6 = q6;
 let q8 := t.M;
 let q9 := decide (q8 = q8);
 let q10 := Z8 t.outs;
 let q11 := q10 = q10;
 let q12 := W q1 ++ W q3;
 let q13 := List.length q12;
 let q14 := W3 W t core 0;
 let q15 := List.length q14;
 let q16 := ↑q8;
 let q17 := Xw W t core 0;
 let q18 := List.length q17;
 let q19 := (False → False) ∧ (False → False);
 Z0 (decide ((0 ≤ q1 ∧ q1 ≤ T) ∧ 0 ≤ q3 ∧ q3 ≤ T))
 (Z0 (decide (q3 = q3))
 (Z0 (decide (core = core))
 (Z0 q4
 (Z0 q5
 (q7 ∧
 Z0 q5
 (Z0 q9
 (q11 ∧
 Z0 q9
 (Z0 (decide (q13 = q15))
 (Z0 (decide (q15 ≤ q13))
 (q12 = q14 ∧
 TxS.Fine t ∧
 ∀ (i : Nat),
 let q39 := W3 W t core i;
 let q40 := List.length q39;
 let q41 := q39 ++ W q16;
 let q42 := List.length q41;
 i ≤ q2 →
 (∀ (j : Nat), j < i → (fun (i : Nat) => i < q2) j) →
 (i = q2 →
 Z0 (decide (q40 = q40 ∧ q40 < 80000000000000 ∧ 0 ≤ q16 ∧ q16 ≤ T))
 (Z0 (decide (q16 = q16))
 (Z0 q4
 (Z0 q5
 (q7 ∧
 Z0 q5
 (Z0 q9
 (q11 ∧
 Z0 q9
 (Z0 (decide (q42 = q18))
 (Z0 (decide (q18 ≤ q42))
 (q41 = q17 ∧
 TxS.Fine t ∧
 ∀ (i : Nat),
 let q47 := Xw W t core i;
 let q48 := List.length q47;
 let q49 := List.take q48 (YO 0 q47);
 i ≤ q8 → (∀ (j : Nat), j < i → (fun (i : Nat) => i < q8) j) → (i = q8 → Z0 (decide (0 + q48 ≤ q48)) (Z0 (decide (List.length q49 = q48 ∧ q48 < 90000000000000)) (Z0 (decide (q48 = L)) (Z0 (decide (L ≤ q48)) (q49 = ys ∧ True) False) False) False) False) ∧ q19)
 False)
 False)
 False)
 False)
 False)
 False)
 False)
 False)
 False) ∧
 q19)
 False)
 False)
 False)
 False)
 False)
 False)
 False)
 False)
 False)
 False) (by kernel_rfl) ?_
 conv => zeta
 try simp only [Zg]
 try simp only [Zl]
 try simp only [Zh]
 try simp only [Zm]
 try simp only [Zn]
 try simp only [Zf]
 try simp only [Int.toNat_natCast, Nat.zero_add, true_and, and_true, Nat.le_refl]
 subst hT hW hy hL
 have e1 : Y3 t.num ++ Y3 ↑t.N = W3 Y3 t core 0 := by unfold W3; simp [VE]
 have e2 : W3 Y3 t core t.N ++ Y3 ↑t.M = Xw Y3 t core 0 := by unfold Xw; simp [VE]
 have b1 := Z2S ht core (Nat.le_refl t.N)
 have b2 := Z0j ht core (Nat.le_refl t.M)
 have hN := ht.n
 have hM := ht.m
 have hq := ht.num
 rw [e1]
 refine ⟨⟨⟨by omega, by omega⟩, by omega, by omega⟩, rfl, Nat.le_refl _, rfl, ht, fun i hi _ => ⟨fun he => ?_, fun h => h.elim, fun h => h.elim⟩⟩
 subst he
 rw [e2]
 refine ⟨⟨by omega, by omega, by omega⟩, rfl, Nat.le_refl _, rfl, ht, fun i hi _ => ⟨fun he => ?_, fun h => h.elim, fun h => h.elim⟩⟩
 subst he
 rw [Yo, List.drop_zero, List.take_length]
 exact ⟨⟨rfl, by omega⟩, rfl, Nat.le_refl _, rfl⟩
theorem Zey (t : TxS) (core : Bool) (T : Int) (hT : T = 4611686018427387904) : (ZgU Y3 T t core).Ok := by
 unfold ZgU
 exact Zd.withF_ok (Zd.withL_join (G := Zev Y3 T t core) (H := Z81 Y3 T) (Zew t core T hT) rfl (Zex t core T hT)) Z7Z
theorem Zcl (t : TxS) (core : Bool) (ht : t.Fine) : ZB PP 65 [.agg t.c, .bool core] (.nslice ⟨0, 0, 0, 0, 0⟩ 1 (Z0i Y3 t core).length (Z0i Y3 t core).length) 1 [(0, .ints .u8 (Z0i Y3 t core))]   := .evM (Zey t core _ rfl) (ZiN _ _ t core _ _ rfl rfl ht rfl rfl)
def ZiO (R : TxS → Bool → List Int) : Y9 := fun args h K => ZH none h true 20 args fun a => match a with
 | [.agg l, .bool core] => ∃ t, Z0h l t ∧ t.Fine ∧ K (.ret (.nslice ⟨h.next, 0, 0, 0, 0⟩ 1 (R t core).length (R t core).length)) ⟨h.next + 1, (h.next, .ints .u8 (R t core)) :: h.bs⟩
 | _ => False
theorem Zez (args : List AV) (h : Z7) (K : KO) (hl : ZiO (Z0i Y3) args h K) : Zk PP 65 args h K := by
 refine ZB.fsumm (d := 20) (Zq _ _ _ _ _ hl fun a ha => ?_)
 split at ha
 ·obtain ⟨t, h1, h2, hK⟩ := ha
  exact ⟨_, _, _, _, (Zcl t _ h2).conv fun E r hr => hr.head (fun _ hc => h1.rel hc) (fun _ hc => hc), rfl, ⟨Nat.one_pos, .ints _ _, trivial⟩, hK⟩
 ·exact ha.elim
theorem VF {t : TxS} (ht : t.Ok) (h : Y6 ZS t = true) : t.Fine := by
 unfold Y6 at h
 simp only [Bool.and_eq_true, decide_eq_true_eq, Bool.not_eq_true', List.any_eq_false, List.mem_range, beq_iff_eq] at h
 obtain ⟨⟨⟨⟨⟨h1, h2⟩, h3⟩, h4⟩, h5⟩, _⟩ := h
 refine ⟨ht, h1, by omega, by omega, fun j hj => ?_, fun j hj => ?_⟩
 ·have := h4 j hj
  simp [YM, U1] at this
  exact this.1
 ·have := h5 j hj
  simpa [Yu, QO] using this
end Go.Tk
end
section
namespace Go.Tk
open IntKind (i64 u8 u32 u64 wrap)
noncomputable def E19 (A : List Int → Int × Int) (H : List Int → List Int) (T2 : List Int → List Int → List Int) (R : TxS → Bool → List Int) (B : Nat) : Zd :=
 ((((G0.withP 43 (ckS A)).withF 65 (ZiO R)).withP 64 (ZbS H B)).withP 88 (Zgx T2)).withP 82 (Z7Y A)
theorem Z5g (B : Nat) (hB : B < 100000000000) (h32 : 32 ≤ B) : (E19 ZS Z2I V5 (Z0i Y3) B).Ok :=
 Zd.withP_ok (Zd.withP_ok (Zd.withP_ok (Zd.withF_ok (Zd.withP_ok Zu Z5c) Zez) (ZbU B hB h32)) Z8V) Z4c
theorem ZgV (A : List Int → Int × Int) (H : List Int → List Int) (T2 : List Int → List Int → List Int) (R : TxS → Bool → List Int) (B : Nat) (t : TxS) (hh : List Int) (ht : t.Ok) (hc : Y6 A t = true) (hA : A = ZS) (hR : R = Z0i Y3) (hB : 20000 ≤ B) (hHl : ∀ x, (H x).length = 32) (hH : hh = H (R t true)) :
  evF (E19 A H T2 R B) 20 41 [.agg t.c] ⟨0, []⟩ (Yc 0 (.ret (.tuple [.agg [.arr .u8 32 hh], .int .i64 0])) 0 []) := by
 refine @Eq.mpr _ (let q1 := t.N;
 let q2 := t.M;
 ∃ (t_1 : TxS),
 (t_1.num = t.num ∧ ((q1 = q1 ∧ t_1.N = q1) ∧ ∀ (i : Nat), i < q1 → Zb t.ins i = InS.c (t_1.ins i)) ∧ (q2 = q2 ∧ t_1.M = q2) ∧ ∀ (i : Nat), i < q2 → Z8 t.outs i = Zs.c (t_1.outs i)) ∧
 TxS.Ok t_1 ∧
 Z0 (Y6 A t_1)
 (∃ (t_2 : TxS),
 let q5 := List.length (R t_2 true);
 let q6 := List.take q5 (YO 0 (R t_2 true));
 let q7 := List.length q6;
 (t_2.num = t.num ∧ ((q1 = q1 ∧ t_2.N = q1) ∧ ∀ (i : Nat), i < q1 → Zb t.ins i = InS.c (t_2.ins i)) ∧ (q2 = q2 ∧ t_2.M = q2) ∧ ∀ (i : Nat), i < q2 → Z8 t.outs i = Zs.c (t_2.outs i)) ∧ TxS.Fine t_2 ∧ Z0 (decide (0 + q5 ≤ q5)) (Z0 (decide (q5 = q7)) (Z0 (decide (q7 ≤ B)) (H q6 = hh ∧ True) False) False) False)
 (Z5 = hh ∧ False)) (by kernel_rfl) ?_
 conv => zeta
 try simp only [Zg]
 try simp only [Zl]
 try simp only [Zh]
 try simp only [Zm]
 try simp only [Zn]
 try simp only [Zf]
 try simp only [Int.toNat_natCast, Nat.zero_add, true_and, and_true, Nat.le_refl]
 refine ⟨t, ⟨rfl, ⟨rfl, fun _ _ => rfl⟩, rfl, fun _ _ => rfl⟩, ht, fun h => ⟨t, ⟨rfl, ⟨rfl, fun _ _ => rfl⟩, rfl, fun _ _ => rfl⟩, VF ht (by subst hA; exact hc), ?_⟩, fun h => (by rw [hc] at h; cases h)⟩
 subst hR hA hH
 have hb := Z0j (VF ht hc) true (Nat.le_refl t.M)
 have hb' : (Z0i Y3 t true).length ≤ 20000 := hb
 rw [Yo, List.drop_zero, List.take_length]
 and_intros <;> first | trivial | rfl | omega
theorem ZgW (A : List Int → Int × Int) (H : List Int → List Int) (T2 : List Int → List Int → List Int) (R : TxS → Bool → List Int) (B : Nat) (t : TxS) (ht : t.Ok) (hc : Y6 A t = false) :
  evF (E19 A H T2 R B) 20 41 [.agg t.c] ⟨0, []⟩ (Yc 0 (.ret (.tuple [.agg [.arr .u8 32 Z5], .int .i64 2])) 0 []) := by
 refine @Eq.mpr _ (let q1 := t.N;
 let q2 := t.M;
 ∃ (t_1 : TxS),
 (t_1.num = t.num ∧ ((q1 = q1 ∧ t_1.N = q1) ∧ ∀ (i : Nat), i < q1 → Zb t.ins i = InS.c (t_1.ins i)) ∧ (q2 = q2 ∧ t_1.M = q2) ∧ ∀ (i : Nat), i < q2 → Z8 t.outs i = Zs.c (t_1.outs i)) ∧
 TxS.Ok t_1 ∧
 Z0 (Y6 A t_1)
 (∃ (t_2 : TxS),
 let q5 := List.length (R t_2 true);
 let q6 := List.take q5 (YO 0 (R t_2 true));
 let q7 := List.length q6;
 (t_2.num = t.num ∧ ((q1 = q1 ∧ t_2.N = q1) ∧ ∀ (i : Nat), i < q1 → Zb t.ins i = InS.c (t_2.ins i)) ∧ (q2 = q2 ∧ t_2.M = q2) ∧ ∀ (i : Nat), i < q2 → Z8 t.outs i = Zs.c (t_2.outs i)) ∧ TxS.Fine t_2 ∧ Z0 (decide (0 + q5 ≤ q5)) (Z0 (decide (q5 = q7)) (Z0 (decide (q7 ≤ B)) (H q6 = Z5 ∧ False) False) False) False)
 (Z5 = Z5 ∧ True)) (by kernel_rfl) ?_
 conv => zeta
 try simp only [Zg]
 try simp only [Zl]
 try simp only [Zh]
 try simp only [Zm]
 try simp only [Zn]
 try simp only [Zf]
 try simp only [Int.toNat_natCast, Nat.zero_add, true_and, and_true, Nat.le_refl]
 exact ⟨t, ⟨rfl, ⟨rfl, fun _ _ => rfl⟩, rfl, fun _ _ => rfl⟩, ht, fun h => (by rw [hc] at h; cases h), fun h => (by first | trivial | exact ⟨rfl, trivial⟩ | rfl)⟩
theorem ZiP (A : List Int → Int × Int) (H : List Int → List Int) (T2 : List Int → List Int → List Int) (R : TxS → Bool → List Int) (B : Nat) (t : TxS) (key hh : List Int) (ht : t.Ok) (hc : Y6 A t = true) (hA : A = ZS) (hR : R = Z0i Y3) (hB : 20000 ≤ B) (hHl : ∀ x, (H x).length = 32) (hk : key.length = 32) (hH : hh = T2 key (H (R t true))) :
  evF (E19 A H T2 R B) 20 47 [.agg t.c, .agg [.arr .u8 32 key]] ⟨0, []⟩ (Yc 0 (.ret (.tuple [.agg [.arr .u8 32 hh], .int .i64 0])) 0 []) := by
 refine @Eq.mpr _ (let q1 := t.N;
 let q2 := t.M;
 ∃ (t_1 : TxS),
 (t_1.num = t.num ∧ ((q1 = q1 ∧ t_1.N = q1) ∧ ∀ (i : Nat), i < q1 → Zb t.ins i = InS.c (t_1.ins i)) ∧ (q2 = q2 ∧ t_1.M = q2) ∧ ∀ (i : Nat), i < q2 → Z8 t.outs i = Zs.c (t_1.outs i)) ∧
 TxS.Ok t_1 ∧
 Z0 (Y6 A t_1)
 (∃ (t_2 : TxS),
 let q5 := List.length (R t_2 true);
 let q6 := List.take q5 (YO 0 (R t_2 true));
 let q7 := List.length q6;
 let q8 := H q6;
 let q9 := List.length q8;
 (t_2.num = t.num ∧ ((q1 = q1 ∧ t_2.N = q1) ∧ ∀ (i : Nat), i < q1 → Zb t.ins i = InS.c (t_2.ins i)) ∧ (q2 = q2 ∧ t_2.M = q2) ∧ ∀ (i : Nat), i < q2 → Z8 t.outs i = Zs.c (t_2.outs i)) ∧ TxS.Fine t_2 ∧ Z0 (decide (0 + q5 ≤ q5)) (Z0 (decide (q5 = q7)) (Z0 (decide (q7 ≤ B)) (Z0 (decide (List.length key = 32)) (Z0 (decide (q9 = 32)) (Z0 (decide (32 = q9)) (Z0 (decide (List.length key = 32 ∧ q9 = 32)) (T2 key q8 = hh ∧ True) False) False) False) False) False) False) False)
 (Z5 = hh ∧ False)) (by kernel_rfl) ?_
 conv => zeta
 try simp only [Zg]
 try simp only [Zl]
 try simp only [Zh]
 try simp only [Zm]
 try simp only [Zn]
 try simp only [Zf]
 try simp only [Int.toNat_natCast, Nat.zero_add, true_and, and_true, Nat.le_refl]
 refine ⟨t, ⟨rfl, ⟨rfl, fun _ _ => rfl⟩, rfl, fun _ _ => rfl⟩, ht, fun h => ⟨t, ⟨rfl, ⟨rfl, fun _ _ => rfl⟩, rfl, fun _ _ => rfl⟩, VF ht (by subst hA; exact hc), ?_⟩, fun h => (by rw [hc] at h; cases h)⟩
 subst hR hA hH
 have hb := Z0j (VF ht hc) true (Nat.le_refl t.M)
 have hb' : (Z0i Y3 t true).length ≤ 20000 := hb
 rw [Yo, List.drop_zero, List.take_length]
 have := hHl (Z0i Y3 t true)
 and_intros <;> first | trivial | rfl | omega
theorem ZiQ (A : List Int → Int × Int) (H : List Int → List Int) (T2 : List Int → List Int → List Int) (R : TxS → Bool → List Int) (B : Nat) (t : TxS) (key : List Int) (ht : t.Ok) (hc : Y6 A t = false) :
  evF (E19 A H T2 R B) 20 47 [.agg t.c, .agg [.arr .u8 32 key]] ⟨0, []⟩ (Yc 0 (.ret (.tuple [.agg [.arr .u8 32 Z5], .int .i64 2])) 0 []) := by
 refine @Eq.mpr _ (let q1 := t.N;
 let q2 := t.M;
 ∃ (t_1 : TxS),
 (t_1.num = t.num ∧ ((q1 = q1 ∧ t_1.N = q1) ∧ ∀ (i : Nat), i < q1 → Zb t.ins i = InS.c (t_1.ins i)) ∧ (q2 = q2 ∧ t_1.M = q2) ∧ ∀ (i : Nat), i < q2 → Z8 t.outs i = Zs.c (t_1.outs i)) ∧
 TxS.Ok t_1 ∧
 Z0 (Y6 A t_1)
 (∃ (t_2 : TxS),
 let q5 := List.length (R t_2 true);
 let q6 := List.take q5 (YO 0 (R t_2 true));
 let q7 := List.length q6;
 let q8 := H q6;
 let q9 := List.length q8;
 (t_2.num = t.num ∧ ((q1 = q1 ∧ t_2.N = q1) ∧ ∀ (i : Nat), i < q1 → Zb t.ins i = InS.c (t_2.ins i)) ∧ (q2 = q2 ∧ t_2.M = q2) ∧ ∀ (i : Nat), i < q2 → Z8 t.outs i = Zs.c (t_2.outs i)) ∧ TxS.Fine t_2 ∧ Z0 (decide (0 + q5 ≤ q5)) (Z0 (decide (q5 = q7)) (Z0 (decide (q7 ≤ B)) (Z0 (decide (List.length key = 32)) (Z0 (decide (q9 = 32)) (Z0 (decide (32 = q9)) (Z0 (decide (List.length key = 32 ∧ q9 = 32)) (T2 key q8 = Z5 ∧ False) False) False) False) False) False) False) False)
 (Z5 = Z5 ∧ True)) (by kernel_rfl) ?_
 conv => zeta
 try simp only [Zg]
 try simp only [Zl]
 try simp only [Zh]
 try simp only [Zm]
 try simp only [Zn]
 try simp only [Zf]
 try simp only [Int.toNat_natCast, Nat.zero_add, true_and, and_true, Nat.le_refl]
 exact ⟨t, ⟨rfl, ⟨rfl, fun _ _ => rfl⟩, rfl, fun _ _ => rfl⟩, ht, fun h => (by rw [hc] at h; cases h), fun h => (by first | trivial | exact ⟨rfl, trivial⟩ | rfl)⟩
def Z6q (A : List Int → Int × Int) (Nm : TxS → List Int) : ZW := fun args h K => ZH none h true 20 args fun a => match a with
 | [.agg l] => ∃ t, Z0h l t ∧ t.Ok ∧ Z0 (Y6 A t) (K (.tuple [.agg [.arr .u8 32 (Nm t)], .int .i64 0])) (K (.tuple [.agg [.arr .u8 32 Z5], .int .i64 2]))
 | _ => False
@[irreducible] def Ys (t : TxS) : List Int := Z2I (Z0i Y3 t true)
theorem Z0W (t : TxS) : (Ys t).length = 32 := by unfold Ys; exact Z0P _
theorem Z2T (args : List AV) (h : Z7) (K : AV → Prop) (hl : Z6q ZS Ys args h K) : Zk PP 41 args h fun o h' => ∃ v, o = .ret v ∧ h' = h ∧ K v := by
 refine ZB.psumm (d := 20) (Zq _ _ _ _ _ hl fun a ha => ?_)
 split at ha
 ·obtain ⟨t, h1, h2, hK⟩ := ha
  rw [Zf] at hK
  cases hc : Y6 ZS t with
  | true => exact ⟨_, (ZB.evM (Z5g 20000 (by decide) (by decide)) (ZgV _ _ _ _ _ t _ h2 hc rfl rfl (by decide) Z0P rfl)).conv fun E r hr => hr.head (fun _ hc => h1.rel hc) (fun _ hc => hc), fun _ => rfl, by have := hK.1 hc; unfold Ys at this; exact this⟩
  | false => exact ⟨_, (ZB.evM (Z5g 20000 (by decide) (by decide)) (ZgW _ _ _ _ _ t h2 hc)).conv fun E r hr => hr.head (fun _ hc => h1.rel hc) (fun _ hc => hc), fun _ => rfl, hK.2 hc⟩
 ·exact ha.elim
def ZgX (A : List Int → Int × Int) (Tg : List Int → TxS → List Int) : ZW := fun args h K => ZH none h true 20 args fun a => match a with
 | [.agg l, .agg [.arr .u8 32 key]] => ∃ t, Z0h l t ∧ (t.Ok ∧ key.length = 32) ∧ Z0 (Y6 A t) (K (.tuple [.agg [.arr .u8 32 (Tg key t)], .int .i64 0])) (K (.tuple [.agg [.arr .u8 32 Z5], .int .i64 2]))
 | _ => False
@[irreducible] def YU (key : List Int) (t : TxS) : List Int := V5 key (Z2I (Z0i Y3 t true))
theorem Z0X (k : List Int) (t : TxS) : (YU k t).length = 32 := by unfold YU; exact Z47 _ _
theorem Zaq (args : List AV) (h : Z7) (K : AV → Prop) (hl : ZgX ZS YU args h K) : Zk PP 47 args h fun o h' => ∃ v, o = .ret v ∧ h' = h ∧ K v := by
 refine ZB.psumm (d := 20) (Zq _ _ _ _ _ hl fun a ha => ?_)
 split at ha
 ·obtain ⟨t, h1, ⟨h2, hk⟩, hK⟩ := ha
  rw [Zf] at hK
  cases hc : Y6 ZS t with
  | true => exact ⟨_, (ZB.evM (Z5g 20000 (by decide) (by decide)) (ZiP _ _ _ _ _ t _ _ h2 hc rfl rfl (by decide) Z0P hk rfl)).conv fun E r hr => hr.head (fun _ hc => h1.rel hc) (fun _ hc => hc), fun _ => rfl, by have := hK.1 hc; unfold YU at this; exact this⟩
  | false => exact ⟨_, (ZB.evM (Z5g 20000 (by decide) (by decide)) (ZiQ _ _ _ _ _ t _ h2 hc)).conv fun E r hr => hr.head (fun _ hc => h1.rel hc) (fun _ hc => hc), fun _ => rfl, hK.2 hc⟩
 ·exact ha.elim
end Go.Tk
end
section
namespace Go.Tk
open IntKind (i64 u8 u32 u64 wrap)
noncomputable def E20 (A : List Int → Int × Int) (Nm : TxS → List Int) (T2 : List Int → List Int → List Int) (H1 PH : List Int → List Int) (H2 : List Int → List Int → List Int) (B : Nat) (R : Zs → Bool) : Zd :=
 ((((G0.withP 41 (Z6q A Nm)).withP 88 (Zgx T2)).withP 117 (ZdV H1 H2 B)).withP 94 (WG PH)).withP 56 (ZdX R)
theorem ZgY (B : Nat) (hB : B < 100000000000) : (E20 ZS Ys V5 YT XJ Z0O B ZL).Ok :=
 Zd.withP_ok (Zd.withP_ok (Zd.withP_ok (Zd.withP_ok (Zd.withP_ok Zu Z2T) Z8V) (Z58 B hB)) ZbV) Z8X
def Vj (T2 : List Int → List Int → List Int) (H1 PH : List Int → List Int) (nm : List Int) (x : InS) (o : Zs) (since height : Int) : Bool :=
 let own := T2 o.owner nm == x.tag
 let oth := T2 o.other nm == x.tag
 if o.kind = 1 then decide (x.way = 2) && own
 else if o.kind = 2 then decide (x.way = 1) && own && (T2 o.other nm == x.also)
 else if o.kind = 3 then (if x.way = 3 then own && decide (height - since ≥ o.delay) else if x.way = 4 then PH x.secret == o.point else false)
 else if o.kind = 4 then (if x.way = 5 then oth && (H1 x.secret == o.hash) else if x.way = 6 then own && decide (height ≥ o.expiry) else if x.way = 4 then PH x.secret == o.point else false)
 else if o.kind = 5 then (if x.way = 5 then own && (H1 x.secret == o.hash) else if x.way = 6 then oth && decide (height ≥ o.expiry) else if x.way = 4 then PH x.secret == o.point else false)
 else false
@[irreducible] def Uz (A : List Int → Int × Int) (Nm : TxS → List Int) (T2 : List Int → List Int → List Int) (H1 PH : List Int → List Int) (R : Zs → Bool) (t : TxS) (at_ : Int) (o : Zs) (since height : Int) : Int :=
 if Y6 A t = false ∨ at_ < 0 ∨ at_ ≥ t.N ∨ R o = false ∨ since < 0 ∨ height < since then 2 else if Vj T2 H1 PH (Nm t) (t.ins at_.toNat) o since height = true then 0 else 171
theorem VG {A : List Int → Int × Int} {Nm : TxS → List Int} {T2 : List Int → List Int → List Int} {H1 PH : List Int → List Int} {R : Zs → Bool} {t : TxS} {at_ : Int} {o : Zs} {since height : Int} (h : Y6 A t = false ∨ at_ < 0 ∨ at_ ≥ t.N ∨ R o = false ∨ since < 0 ∨ height < since) : Uz A Nm T2 H1 PH R t at_ o since height = 2 := by unfold Uz; rw [if_pos h]
theorem Z6r {A : List Int → Int × Int} {Nm : TxS → List Int} {T2 : List Int → List Int → List Int} {H1 PH : List Int → List Int} {R : Zs → Bool} {t : TxS} {at_ : Int} {o : Zs} {since height : Int} (h : ¬ (Y6 A t = false ∨ at_ < 0 ∨ at_ ≥ t.N ∨ R o = false ∨ since < 0 ∨ height < since)) : Uz A Nm T2 H1 PH R t at_ o since height = if Vj T2 H1 PH (Nm t) (t.ins at_.toNat) o since height = true then 0 else 171 := by unfold Uz; rw [if_neg h]
theorem ZeA (A : List Int → Int × Int) (Nm : TxS → List Int) (T2 : List Int → List Int → List Int) (H1 PH : List Int → List Int) (H2 : List Int → List Int → List Int) (B : Nat) (R : Zs → Bool) (t : TxS) (at_ : Int) (o : Zs) (since height : Int) (F : Int) (ht : t.Ok) (ho : o.Ok) (hB : 32 ≤ B) (hNm : ∀ t, (Nm t).length = 32) (hT : ∀ a b, (T2 a b).length = 32) (hH : ∀ a, (H1 a).length = 32) (hP : ∀ a, (PH a).length = 32) (hs : -9223372036854775808 ≤ since ∧ since < 9223372036854775808) (hh : -9223372036854775808 ≤ height ∧ height < 9223372036854775808) (hF : F = Uz A Nm T2 H1 PH R t at_ o since height) :
  evF (E20 A Nm T2 H1 PH H2 B R) 20 23 [.agg t.c, .int .i64 at_, .agg o.c, .int .i64 since, .int .i64 height] ⟨0, []⟩ (Yc 0 (.ret (.int .i64 F)) 0 []) := by
 refine @Eq.mpr _ (let q1 := t.N;
 let q2 := t.M;
 let q3 := Z0 (decide (2 = F)) True False;
 let q4 := ↑q1;
 let q5 := o.owner;
 let q6 := o.other;
 let q7 := o.point;
 let q8 := o.hash;
 let q9 := o.kind;
 let q10 := t.ins (Int.toNat at_);
 let q11 := q10.way;
 let q12 := q10.tag;
 let q13 := q12 = q12;
 let q14 := decide (List.length q5 = 32);
 let q15 := Z0 (decide (171 = F)) True False;
 let q16 := Z0 (decide (0 = F)) True False;
 let q17 := q10.also;
 let q18 := decide (List.length q6 = 32);
 let q19 := q10.secret;
 let q20 := List.length q19;
 let q21 := decide (q20 = 32);
 let q22 := PH q19;
 let q23 := Z0 (decide (q11 = 4)) (Z0 q21 (Z0 (decide (List.length q22 = 32 ∧ List.length q7 = 32)) (Z0 (!q22 == q7) q15 q16) False) False) q15;
 let q24 := decide (q11 = 5);
 let q25 := H1 q19;
 let q26 := q8 = q8 ∧ Z0 q21 (Z0 (decide (32 = q20)) (Z0 (decide (q20 ≤ B)) (Z0 (decide (List.length q25 = 32 ∧ List.length q8 = 32)) (Z0 (!q25 == q8) q15 q16) False) False) False) False;
 let q27 := decide (q11 = 6);
 let q28 := Z0 (!decide (height ≥ o.expiry)) q15 q16;
 ∃ (t_1 : TxS),
 let q57 := decide (List.length (Nm t_1) = 32);
 let q58 := decide (32 = List.length (Nm t_1));
 let q59 := decide (List.length q5 = 32 ∧ List.length (Nm t_1) = 32);
 let q60 := decide (List.length (T2 q5 (Nm t_1)) = 32 ∧ List.length q12 = 32);
 let q61 := T2 q5 (Nm t_1) == q12;
 let q62 := decide (List.length q6 = 32 ∧ List.length (Nm t_1) = 32);
 let q63 := decide (List.length (T2 q6 (Nm t_1)) = 32 ∧ List.length q12 = 32);
 let q64 := T2 q6 (Nm t_1) == q12;
 (t_1.num = t.num ∧ ((q1 = q1 ∧ t_1.N = q1) ∧ ∀ (i : Nat), i < q1 → Zb t.ins i = InS.c (t_1.ins i)) ∧ (q2 = q2 ∧ t_1.M = q2) ∧ ∀ (i : Nat), i < q2 → Z8 t.outs i = Zs.c (t_1.outs i)) ∧
 TxS.Ok t_1 ∧
 Z0 (Y6 A t_1)
 (Z0 (decide (at_ < 0)) q3
 (Z0 (decide (at_ ≥ q4)) q3
 (Z0 (decide (List.length q5 = 32 ∧ List.length q6 = 32 ∧ List.length q7 = 32 ∧ List.length q8 = 32))
 (Z0 (!R (Zs.mk q9 o.amount q5 q6 q7 q8 o.delay o.expiry)) q3
 (Z0 (decide (since < 0)) q3
 (Z0 (decide (height < since)) q3
 (Z0 (decide (0 ≤ at_ ∧ at_ < q4))
 (Z0 (decide (q11 = q11))
 (Z0 (decide (q9 = q9))
 (Z0 (decide (q9 = 1)) (Z0 (decide (q11 = 2)) (q13 ∧ Z0 q14 (Z0 q57 (Z0 q58 (Z0 q59 (Z0 q60 (Z0 (!q61) q15 q16) False) False) False) False) False) q15)
 (Z0 (decide (q9 = 2)) (Z0 (decide (q11 = 1)) (q13 ∧ Z0 q14 (Z0 q57 (Z0 q58 (Z0 q59 (Z0 q60 (Z0 q61 (q17 = q17 ∧ Z0 q18 (Z0 q57 (Z0 q58 (Z0 q62 (Z0 (decide (List.length (T2 q6 (Nm t_1)) = 32 ∧ List.length q17 = 32)) (Z0 (!T2 q6 (Nm t_1) == q17) q15 q16) False) False) False) False) False) q15) False) False) False) False) False) q15)
 (Z0 (decide (q9 = 3)) (Z0 (decide (q11 = 3)) (q13 ∧ Z0 q14 (Z0 q57 (Z0 q58 (Z0 q59 (Z0 q60 (Z0 q61 (Z0 (!decide (wrap i64 (height - since) ≥ o.delay)) q15 q16) q15) False) False) False) False) False) q23) (Z0 (decide (q9 = 4)) (Z0 q24 (q13 ∧ Z0 q18 (Z0 q57 (Z0 q58 (Z0 q62 (Z0 q63 (Z0 q64 q26 q15) False) False) False) False) False) (Z0 q27 (q13 ∧ Z0 q14 (Z0 q57 (Z0 q58 (Z0 q59 (Z0 q60 (Z0 q61 q28 q15) False) False) False) False) False) q23)) (Z0 (decide (q9 = 5)) (Z0 q24 (q13 ∧ Z0 q14 (Z0 q57 (Z0 q58 (Z0 q59 (Z0 q60 (Z0 q61 q26 q15) False) False) False) False) False) (Z0 q27 (q13 ∧ Z0 q18 (Z0 q57 (Z0 q58 (Z0 q62 (Z0 q63 (Z0 q64 q28 q15) False) False) False) False) False) q23)) q15)))))
 False)
 False)
 False))))
 False)))
 q3) (by kernel_rfl) ?_
 conv => zeta
 try simp only [Zg]
 try simp only [Zl]
 try simp only [Zh]
 try simp only [Zm]
 try simp only [Zn]
 try simp only [Zf]
 try simp only [Int.toNat_natCast, Nat.zero_add, true_and, and_true, Nat.le_refl]
 obtain ⟨o1, o2, o3, o4⟩ := ho
 refine ⟨t, ⟨rfl, ⟨rfl, fun _ _ => rfl⟩, rfl, fun _ _ => rfl⟩, ht, fun hc => ?_, fun hc => (by rw [hF, VG (.inl hc)])⟩
 refine ⟨fun h1 => (by rw [hF, VG (by simp [h1])]), fun h1 => ⟨fun h2 => (by rw [hF, VG (by simp [h2])]), fun h2 => ⟨⟨o1, o2, o3, o4⟩, fun h3 => ?_, fun h3 => ⟨fun h4 => (by rw [hF, VG (by simp [h4])]), fun h4 => ⟨fun h5 => (by rw [hF, VG (by simp [h5])]), fun h5 => ⟨⟨by omega, by omega⟩, ?_⟩⟩⟩⟩⟩⟩
 ·have h3 : R o = false := by simpa using h3
  rw [hF, VG (by simp [h3])]
 have h3' : R o = true := by simpa using h3
 have hG := hF.trans (Z6r (by simp [h3', hc, h2, h5]; omega))
 clear hF
 obtain ⟨l1, l2, l3, l4⟩ := ht.ins at_.toNat (by omega)
 generalize t.ins at_.toNat = x at *
 have hn := hNm t
 generalize Nm t = nm at *
 have hw : i64.wrap (height - since) = height - since := w64 (by omega)
 rw [hw]
 unfold Vj at hG
 have q1 := hT o.owner nm
 have q2 := hT o.other nm
 have q3 := hP x.secret
 have q4 := hH x.secret
 clear hT hNm hP hH h3
 repeat' (first | (refine And.intro ?_ ?_) | intro _)
 all_goals first | omega | assumption | trivial | skip
 all_goals (rw [hG]; clear hG; simp_all)
 all_goals (rw [if_neg (by omega)])
def U2 (F : TxS → Int → Zs → Int → Int → Int) : ZW := fun args h K => ZH none h true 20 args fun a => match a with
 | [.agg l, .int .i64 at_, .agg cs, .int .i64 since, .int .i64 height] => ∃ t o, Z0h l t ∧ cs = Zs.c o ∧ (t.Ok ∧ o.Ok ∧ (-9223372036854775808 ≤ since ∧ since < 9223372036854775808) ∧ -9223372036854775808 ≤ height ∧ height < 9223372036854775808) ∧ K (.int .i64 (F t at_ o since height))
 | _ => False
theorem Zar (args : List AV) (h : Z7) (K : AV → Prop) (hl : U2 (Uz ZS Ys V5 YT XJ ZL) args h K) : Zk PP 23 args h fun o h' => ∃ v, o = .ret v ∧ h' = h ∧ K v := by
 refine ZB.psumm (d := 20) (Zq _ _ _ _ _ hl fun a ha => ?_)
 split at ha
 ·obtain ⟨t, o, h1, rfl, ⟨h2, h3, h4, h5⟩, hK⟩ := ha
  exact ⟨_, (ZB.evM (ZgY 32 (by decide)) (ZeA _ _ _ _ _ _ _ _ t _ o _ _ _ h2 h3 (Nat.le_refl _) Z0W Z47 Uw Z7N h4 h5 rfl)).conv fun E r hr => hr.head (fun _ hc => h1.rel hc) (fun _ hc => hc), fun _ => rfl, hK⟩
 ·exact ha.elim
end Go.Tk
end
section
namespace Go.Tk
open IntKind (i64 u8 u32 u64 wrap)
def Z2U (x y : InS) : Bool := x.name == y.name && x.index == y.index && x.way == y.way && x.tag == y.tag && x.also == y.also && x.secret == y.secret
def UA (x y : Zs) : Bool := x.kind == y.kind && x.amount == y.amount && x.owner == y.owner && x.other == y.other && x.point == y.point && x.hash == y.hash && x.delay == y.delay && x.expiry == y.expiry
def ZeB (N : Nat) (g g2 : Nat → InS) (i : Nat) : St := ⟨26, [(13, .int .i64 i), (12, .int .i64 N), (0, .vrows 130 N (Zb g) N), (1, .vrows 130 N (Zb g2) N)], ⟨0, []⟩, []⟩
def ZiR (_ : Nat) : St := ⟨26, [], ⟨0, []⟩, []⟩
def ZeC (_ : Nat) : St := ⟨26, [(4, .bool false)], ⟨0, []⟩, []⟩
theorem ZiS (N : Nat) (g g2 : Nat → InS) (i : Nat) (Z1 Z2 Z3 : Prop) (hN : N < 900000000000) (hg : ∀ i, i < N → (g i).Ok) (hg2 : ∀ i, i < N → (g2 i).Ok) (hi : i ≤ N) (h1 : i < N → Z2U (g i) (g2 i) = true → Z1) (h2 : i = N → Z2) (h3 : i < N → Z2U (g i) (g2 i) = false → Z3) :
  ZF G0 20 54 0 0 (ZeB N g g2 i) (rdM 0 0 9 (ZeB N g g2 (i + 1)) (ZiR i) (ZeC i) (ZeC i) Z1 Z2 Z3 False) := by
 refine @Eq.mpr _ (let q1 := decide (0 ≤ (↑i : Int) ∧ (↑i : Int) < (↑N : Int));
 let q2 := g (Int.toNat (↑i : Int));
 let q3 := q2.name;
 let q4 := g2 (Int.toNat (↑i : Int));
 let q5 := q4.name;
 let q6 := q2.tag;
 let q7 := q4.tag;
 let q8 := q2.also;
 let q9 := q4.also;
 let q10 := q2.secret;
 let q11 := q4.secret;
 let q12 := decide (N = N);
 Z0 (decide ((↑i : Int) < (↑N : Int))) (Z0 q1 (Z0 q1 (Z0 (decide (List.length q3 = 32 ∧ List.length q5 = 32)) (Z0 (decide (List.length q6 = 32 ∧ List.length q7 = 32)) (Z0 (decide (List.length q8 = 32 ∧ List.length q9 = 32)) (Z0 (decide (List.length q10 = 32 ∧ List.length q11 = 32)) (Z0 (!(q3 == q5 && (q2.index == q4.index && (q2.way == q4.way && (q6 == q7 && (q8 == q9 && q10 == q11)))))) Z3 (Z0 (decide (wrap i64 ((↑i : Int) + 1) = (↑(i + 1) : Int))) (Z0 (decide ((↑N : Int) = (↑N : Int))) (Z0 q12 (Zb g = Zb g ∧ Z0 q12 (Z0 q12 (Zb g2 = Zb g2 ∧ Z0 q12 Z1 False) False) False) False) False) False)) False) False) False) False) False) False) Z2) (by kernel_rfl) ?_
 conv => zeta
 try simp only [Zg]
 try simp only [Zl]
 try simp only [Zh]
 try simp only [Zm]
 try simp only [Zn]
 try simp only [Zf]
 try simp only [Int.toNat_natCast, Nat.zero_add, true_and, and_true, Nat.le_refl]
 refine ⟨fun hlt => ?_, fun hge => h2 (by omega)⟩
 obtain ⟨l1, l2, l3, l4⟩ := hg i (by omega)
 obtain ⟨m1, m2, m3, m4⟩ := hg2 i (by omega)
 have h1 := h1 (by omega)
 have h3 := h3 (by omega)
 have hw : i64.wrap ((i : Int) + 1) = ((i + 1 : Nat) : Int) := w64 (by omega)
 rw [hw]
 unfold Z2U at h1 h3
 generalize g i = x at *
 generalize g2 i = y at *
 simp only [l1, l2, l3, l4, m1, m2, m3, m4]
 have hb : (x.name == y.name && x.index == y.index && x.way == y.way && x.tag == y.tag && x.also == y.also && x.secret == y.secret) = (x.name == y.name && (x.index == y.index && (x.way == y.way && (x.tag == y.tag && (x.also == y.also && (x.secret == y.secret)))))) := by simp only [Bool.and_assoc]
 rw [← hb]
 clear hb
 refine ⟨by omega, by omega, ⟨trivial, trivial⟩, ⟨trivial, trivial⟩, ⟨trivial, trivial⟩, ⟨trivial, trivial⟩, fun h => h3 (by rw [Bool.not_eq_true'] at h; exact h), fun h => ⟨by first | trivial | rfl, h1 (by rw [Bool.not_eq_false'] at h; exact h)⟩⟩
noncomputable def ZgZ (N : Nat) (g g2 : Nat → InS) : Zd := G0.withL 54 0 (goM 0 (ZeB N g g2 0) (N < 900000000000 ∧ (∀ i, i < N → (g i).Ok) ∧ ∀ i, i < N → (g2 i).Ok) (Ym 0 N 9 (fun i => Z2U (g i) (g2 i) = true) (fun i => i = N) (fun i => i < N ∧ Z2U (g i) (g2 i) = false) (fun _ => False) ZiR ZeC ZeC))
theorem Z97 (N : Nat) (g g2 : Nat → InS) : (ZgZ N g g2).Ok :=
 Zd.withGoM (N := 20) (S := ZeB N g g2) Zu (by kernel_rfl) fun hC => ⟨rfl, fun i hi _ => ZiS N g g2 i _ _ _ hC.1 hC.2.1 hC.2.2 hi (fun h1 h2 => ⟨h2, h1⟩) (fun h => h) (fun h1 h2 => ⟨h1, h2⟩)⟩
@[irreducible] def Z3C (N : Nat) (g : Nat → InS) (M : Nat) (g2 : Nat → InS) : Bool := decide (N = M) && (List.range N).all fun i => Z2U (g i) (g2 i)
theorem ZiT (N : Nat) (g g2 : Nat → InS) (F : Bool) (hN : N < 900000000000) (hg : ∀ i, i < N → (g i).Ok) (hg2 : ∀ i, i < N → (g2 i).Ok) (hF : F = Z3C N g N g2) :
  evF (ZgZ N g g2) 20 54 [.vrows 130 N (Zb g) N, .vrows 130 N (Zb g2) N] ⟨0, []⟩ (Yc 0 (.ret (.bool F)) 0 []) := by
 refine @Eq.mpr _ (let q1 := Z0 (decide (false = F)) True False;
 let q2 := decide (N = N);
 Z0 ((↑N : Int) != (↑N : Int)) q1 (Z0 (decide ((↑N : Int) = (↑N : Int))) (Z0 q2 (Zb g = Zb g ∧ Z0 q2 (Z0 q2 (Zb g2 = Zb g2 ∧ Z0 q2 ((N < 900000000000 ∧ (∀ (i : Nat), i < N → InS.Ok (g i)) ∧ ∀ (i : Nat), i < N → InS.Ok (g2 i)) ∧ ∀ (i : Nat), i ≤ N → (∀ (j : Nat), j < i → (fun (i : Nat) => Z2U (g i) (g2 i) = true) j) → (i = N → Z0 (decide (true = F)) True False) ∧ (i < N ∧ Z2U (g i) (g2 i) = false → q1) ∧ (False → False)) False) False) False) False) False)) (by kernel_rfl) ?_
 conv => zeta
 try simp only [Zg]
 try simp only [Zl]
 try simp only [Zh]
 try simp only [Zm]
 try simp only [Zn]
 try simp only [Zf]
 try simp only [Int.toNat_natCast, Nat.zero_add, true_and, and_true, Nat.le_refl]
 subst hF
 refine ⟨fun h => (by simp at h), fun _ => ⟨⟨hN, hg, hg2⟩, fun i hi hgo => ⟨fun he => ?_, fun he => ?_, fun h => h.elim⟩⟩⟩
 ·subst he
  unfold Z3C
  simp only [decide_true, Bool.true_and]
  exact (List.all_eq_true.2 fun j hj => hgo j (List.mem_range.1 hj)).symm
 ·unfold Z3C
  simp only [decide_true, Bool.true_and]
  exact (List.all_eq_false.2 ⟨i, List.mem_range.2 he.1, by simp [he.2]⟩).symm
theorem ZiU (N M : Nat) (g g2 : Nat → InS) (F : Bool) (hN : N ≠ M) (hF : F = Z3C N g M g2) :
  evF (ZgZ N g g2) 20 54 [.vrows 130 N (Zb g) N, .vrows 130 M (Zb g2) M] ⟨0, []⟩ (Yc 0 (.ret (.bool F)) 0 []) := by
 refine @Eq.mpr _ (let q1 := Z0 (decide (false = F)) True False;
 let q2 := decide (N = N);
 let q3 := decide (M = N);
 Z0 ((↑N : Int) != (↑M : Int)) q1 (Z0 (decide ((↑N : Int) = (↑N : Int))) (Z0 q2 (Zb g = Zb g ∧ Z0 q2 (Z0 q3 (Zb g2 = Zb g2 ∧ Z0 q3 ((N < 900000000000 ∧ (∀ (i : Nat), i < N → InS.Ok (g i)) ∧ ∀ (i : Nat), i < N → InS.Ok (g2 i)) ∧ ∀ (i : Nat), i ≤ N → (∀ (j : Nat), j < i → (fun (i : Nat) => Z2U (g i) (g2 i) = true) j) → (i = N → Z0 (decide (true = F)) True False) ∧ (i < N ∧ Z2U (g i) (g2 i) = false → q1) ∧ (False → False)) False) False) False) False) False)) (by kernel_rfl) ?_
 conv => zeta
 try simp only [Zg]
 try simp only [Zl]
 try simp only [Zh]
 try simp only [Zm]
 try simp only [Zn]
 try simp only [Zf]
 try simp only [Int.toNat_natCast, Nat.zero_add, true_and, and_true, Nat.le_refl]
 subst hF
 have hne : ((N : Int) != (M : Int)) = true := by simp; omega
 refine ⟨fun _ => ?_, fun h => (by rw [hne] at h; cases h)⟩
 unfold Z3C
 simp [hN]
theorem Zcm (N M : Nat) (g g2 : Nat → InS) (hN : N < 900000000000) (hg : ∀ i, i < N → (g i).Ok) (hg2 : ∀ i, i < M → (g2 i).Ok) : ZB PP 54 [.vrows 130 N (Zb g) N, .vrows 130 M (Zb g2) M] (.bool (Z3C N g M g2)) 0 [] := by
 by_cases h : N = M
 ·subst h; exact .evM (Z97 N g g2) (ZiT N g g2 _ hN hg hg2 rfl)
 ·exact .evM (Z97 N g g2) (ZiU N M g g2 _ h rfl)
def ZiV : ZW := fun args h K => ZH none h true 20 args fun a => match a with
 | [x, y] => ∃ N g M g2, Z3B x N g ∧ Z3B y M g2 ∧ (N < 900000000000 ∧ (∀ i, i < N → (g i).Ok) ∧ ∀ i, i < M → (g2 i).Ok) ∧ K (.bool (Z3C N g M g2))
 | _ => False
theorem ZeD (args : List AV) (h : Z7) (K : AV → Prop) (hl : ZiV args h K) : Zk PP 54 args h fun o h' => ∃ v, o = .ret v ∧ h' = h ∧ K v := by
 refine ZB.psumm (d := 20) (Zq _ _ _ _ _ hl fun a ha => ?_)
 split at ha
 ·obtain ⟨N, g, M, g2, h1, h2, ⟨h3, h4, h5⟩, hK⟩ := ha
  exact ⟨_, (Zcm N M g g2 h3 h4 h5).conv fun E r hr => hr.head (fun _ hc => h1.rel hc) (fun _ hc => hc.head (fun _ hc => h2.rel hc) (fun _ hc => hc)), fun _ => rfl, hK⟩
 ·exact ha.elim
def ZeE (N : Nat) (g g2 : Nat → Zs) (i : Nat) : St := ⟨26, [(13, .int .i64 i), (12, .int .i64 N), (0, .vrows 132 N (Z8 g) N), (1, .vrows 132 N (Z8 g2) N)], ⟨0, []⟩, []⟩
def ZiW (_ : Nat) : St := ⟨26, [], ⟨0, []⟩, []⟩
def ZeF (_ : Nat) : St := ⟨26, [(4, .bool false)], ⟨0, []⟩, []⟩
theorem ZiX (N : Nat) (g g2 : Nat → Zs) (i : Nat) (Z1 Z2 Z3 : Prop) (hN : N < 900000000000) (hg : ∀ i, i < N → (g i).Ok) (hg2 : ∀ i, i < N → (g2 i).Ok) (hi : i ≤ N) (h1 : i < N → UA (g i) (g2 i) = true → Z1) (h2 : i = N → Z2) (h3 : i < N → UA (g i) (g2 i) = false → Z3) :
  ZF G0 20 55 0 0 (ZeE N g g2 i) (rdM 0 0 9 (ZeE N g g2 (i + 1)) (ZiW i) (ZeF i) (ZeF i) Z1 Z2 Z3 False) := by
 refine @Eq.mpr _ (let q1 := decide (0 ≤ (↑i : Int) ∧ (↑i : Int) < (↑N : Int));
 let q2 := g (Int.toNat (↑i : Int));
 let q3 := q2.owner;
 let q4 := g2 (Int.toNat (↑i : Int));
 let q5 := q4.owner;
 let q6 := q2.other;
 let q7 := q4.other;
 let q8 := q2.point;
 let q9 := q4.point;
 let q10 := q2.hash;
 let q11 := q4.hash;
 let q12 := decide (N = N);
 Z0 (decide ((↑i : Int) < (↑N : Int))) (Z0 q1 (Z0 q1 (Z0 (decide (List.length q3 = 32 ∧ List.length q5 = 32)) (Z0 (decide (List.length q6 = 32 ∧ List.length q7 = 32)) (Z0 (decide (List.length q8 = 32 ∧ List.length q9 = 32)) (Z0 (decide (List.length q10 = 32 ∧ List.length q11 = 32)) (Z0 (!(q2.kind == q4.kind && (q2.amount == q4.amount && (q3 == q5 && (q6 == q7 && (q8 == q9 && (q10 == q11 && (q2.delay == q4.delay && q2.expiry == q4.expiry)))))))) Z3 (Z0 (decide (wrap i64 ((↑i : Int) + 1) = (↑(i + 1) : Int))) (Z0 (decide ((↑N : Int) = (↑N : Int))) (Z0 q12 (Z8 g = Z8 g ∧ Z0 q12 (Z0 q12 (Z8 g2 = Z8 g2 ∧ Z0 q12 Z1 False) False) False) False) False) False)) False) False) False) False) False) False) Z2) (by kernel_rfl) ?_
 conv => zeta
 try simp only [Zg]
 try simp only [Zl]
 try simp only [Zh]
 try simp only [Zm]
 try simp only [Zn]
 try simp only [Zf]
 try simp only [Int.toNat_natCast, Nat.zero_add, true_and, and_true, Nat.le_refl]
 refine ⟨fun hlt => ?_, fun hge => h2 (by omega)⟩
 obtain ⟨l1, l2, l3, l4⟩ := hg i (by omega)
 obtain ⟨m1, m2, m3, m4⟩ := hg2 i (by omega)
 have h1 := h1 (by omega)
 have h3 := h3 (by omega)
 have hw : i64.wrap ((i : Int) + 1) = ((i + 1 : Nat) : Int) := w64 (by omega)
 rw [hw]
 unfold UA at h1 h3
 generalize g i = x at *
 generalize g2 i = y at *
 simp only [l1, l2, l3, l4, m1, m2, m3, m4]
 have hb : (x.kind == y.kind && x.amount == y.amount && x.owner == y.owner && x.other == y.other && x.point == y.point && x.hash == y.hash && x.delay == y.delay && x.expiry == y.expiry) = (x.kind == y.kind && (x.amount == y.amount && (x.owner == y.owner && (x.other == y.other && (x.point == y.point && (x.hash == y.hash && (x.delay == y.delay && (x.expiry == y.expiry)))))))) := by simp only [Bool.and_assoc]
 rw [← hb]
 clear hb
 refine ⟨by omega, by omega, ⟨trivial, trivial⟩, ⟨trivial, trivial⟩, ⟨trivial, trivial⟩, ⟨trivial, trivial⟩, fun h => h3 (by rw [Bool.not_eq_true'] at h; exact h), fun h => ⟨by first | trivial | rfl, h1 (by rw [Bool.not_eq_false'] at h; exact h)⟩⟩
noncomputable def Zh0 (N : Nat) (g g2 : Nat → Zs) : Zd := G0.withL 55 0 (goM 0 (ZeE N g g2 0) (N < 900000000000 ∧ (∀ i, i < N → (g i).Ok) ∧ ∀ i, i < N → (g2 i).Ok) (Ym 0 N 9 (fun i => UA (g i) (g2 i) = true) (fun i => i = N) (fun i => i < N ∧ UA (g i) (g2 i) = false) (fun _ => False) ZiW ZeF ZeF))
theorem Z98 (N : Nat) (g g2 : Nat → Zs) : (Zh0 N g g2).Ok :=
 Zd.withGoM (N := 20) (S := ZeE N g g2) Zu (by kernel_rfl) fun hC => ⟨rfl, fun i hi _ => ZiX N g g2 i _ _ _ hC.1 hC.2.1 hC.2.2 hi (fun h1 h2 => ⟨h2, h1⟩) (fun h => h) (fun h1 h2 => ⟨h1, h2⟩)⟩
@[irreducible] def Z3D (N : Nat) (g : Nat → Zs) (M : Nat) (g2 : Nat → Zs) : Bool := decide (N = M) && (List.range N).all fun i => UA (g i) (g2 i)
theorem ZiY (N : Nat) (g g2 : Nat → Zs) (F : Bool) (hN : N < 900000000000) (hg : ∀ i, i < N → (g i).Ok) (hg2 : ∀ i, i < N → (g2 i).Ok) (hF : F = Z3D N g N g2) :
  evF (Zh0 N g g2) 20 55 [.vrows 132 N (Z8 g) N, .vrows 132 N (Z8 g2) N] ⟨0, []⟩ (Yc 0 (.ret (.bool F)) 0 []) := by
 refine @Eq.mpr _ (let q1 := Z0 (decide (false = F)) True False;
 let q2 := decide (N = N);
 Z0 ((↑N : Int) != (↑N : Int)) q1 (Z0 (decide ((↑N : Int) = (↑N : Int))) (Z0 q2 (Z8 g = Z8 g ∧ Z0 q2 (Z0 q2 (Z8 g2 = Z8 g2 ∧ Z0 q2 ((N < 900000000000 ∧ (∀ (i : Nat), i < N → Zs.Ok (g i)) ∧ ∀ (i : Nat), i < N → Zs.Ok (g2 i)) ∧ ∀ (i : Nat), i ≤ N → (∀ (j : Nat), j < i → (fun (i : Nat) => UA (g i) (g2 i) = true) j) → (i = N → Z0 (decide (true = F)) True False) ∧ (i < N ∧ UA (g i) (g2 i) = false → q1) ∧ (False → False)) False) False) False) False) False)) (by kernel_rfl) ?_
 conv => zeta
 try simp only [Zg]
 try simp only [Zl]
 try simp only [Zh]
 try simp only [Zm]
 try simp only [Zn]
 try simp only [Zf]
 try simp only [Int.toNat_natCast, Nat.zero_add, true_and, and_true, Nat.le_refl]
 subst hF
 refine ⟨fun h => (by simp at h), fun _ => ⟨⟨hN, hg, hg2⟩, fun i hi hgo => ⟨fun he => ?_, fun he => ?_, fun h => h.elim⟩⟩⟩
 ·subst he
  unfold Z3D
  simp only [decide_true, Bool.true_and]
  exact (List.all_eq_true.2 fun j hj => hgo j (List.mem_range.1 hj)).symm
 ·unfold Z3D
  simp only [decide_true, Bool.true_and]
  exact (List.all_eq_false.2 ⟨i, List.mem_range.2 he.1, by simp [he.2]⟩).symm
theorem ZiZ (N M : Nat) (g g2 : Nat → Zs) (F : Bool) (hN : N ≠ M) (hF : F = Z3D N g M g2) :
  evF (Zh0 N g g2) 20 55 [.vrows 132 N (Z8 g) N, .vrows 132 M (Z8 g2) M] ⟨0, []⟩ (Yc 0 (.ret (.bool F)) 0 []) := by
 refine @Eq.mpr _ (let q1 := Z0 (decide (false = F)) True False;
 let q2 := decide (N = N);
 let q3 := decide (M = N);
 Z0 ((↑N : Int) != (↑M : Int)) q1 (Z0 (decide ((↑N : Int) = (↑N : Int))) (Z0 q2 (Z8 g = Z8 g ∧ Z0 q2 (Z0 q3 (Z8 g2 = Z8 g2 ∧ Z0 q3 ((N < 900000000000 ∧ (∀ (i : Nat), i < N → Zs.Ok (g i)) ∧ ∀ (i : Nat), i < N → Zs.Ok (g2 i)) ∧ ∀ (i : Nat), i ≤ N → (∀ (j : Nat), j < i → (fun (i : Nat) => UA (g i) (g2 i) = true) j) → (i = N → Z0 (decide (true = F)) True False) ∧ (i < N ∧ UA (g i) (g2 i) = false → q1) ∧ (False → False)) False) False) False) False) False)) (by kernel_rfl) ?_
 conv => zeta
 try simp only [Zg]
 try simp only [Zl]
 try simp only [Zh]
 try simp only [Zm]
 try simp only [Zn]
 try simp only [Zf]
 try simp only [Int.toNat_natCast, Nat.zero_add, true_and, and_true, Nat.le_refl]
 subst hF
 have hne : ((N : Int) != (M : Int)) = true := by simp; omega
 refine ⟨fun _ => ?_, fun h => (by rw [hne] at h; cases h)⟩
 unfold Z3D
 simp [hN]
theorem Zcn (N M : Nat) (g g2 : Nat → Zs) (hN : N < 900000000000) (hg : ∀ i, i < N → (g i).Ok) (hg2 : ∀ i, i < M → (g2 i).Ok) : ZB PP 55 [.vrows 132 N (Z8 g) N, .vrows 132 M (Z8 g2) M] (.bool (Z3D N g M g2)) 0 [] := by
 by_cases h : N = M
 ·subst h; exact .evM (Z98 N g g2) (ZiY N g g2 _ hN hg hg2 rfl)
 ·exact .evM (Z98 N g g2) (ZiZ N M g g2 _ h rfl)
def Zj0 : ZW := fun args h K => ZH none h true 20 args fun a => match a with
 | [x, y] => ∃ N g M g2, Ql x N g ∧ Ql y M g2 ∧ (N < 900000000000 ∧ (∀ i, i < N → (g i).Ok) ∧ ∀ i, i < M → (g2 i).Ok) ∧ K (.bool (Z3D N g M g2))
 | _ => False
theorem ZeG (args : List AV) (h : Z7) (K : AV → Prop) (hl : Zj0 args h K) : Zk PP 55 args h fun o h' => ∃ v, o = .ret v ∧ h' = h ∧ K v := by
 refine ZB.psumm (d := 20) (Zq _ _ _ _ _ hl fun a ha => ?_)
 split at ha
 ·obtain ⟨N, g, M, g2, h1, h2, ⟨h3, h4, h5⟩, hK⟩ := ha
  exact ⟨_, (Zcn N M g g2 h3 h4 h5).conv fun E r hr => hr.head (fun _ hc => h1.rel hc) (fun _ hc => hc.head (fun _ hc => h2.rel hc) (fun _ hc => hc)), fun _ => rfl, hK⟩
 ·exact ha.elim
noncomputable def E21 : Zd := (G0.withP 54 ZiV).withP 55 Zj0
theorem Zh1 : E21.Ok := Zd.withP_ok (Zd.withP_ok Zu ZeD) ZeG
@[irreducible] def V7 (a b : TxS) : Bool := (a.num == b.num) && (Z3C a.N a.ins b.N b.ins && Z3D a.M a.outs b.M b.outs)
theorem Zh2 (a b : TxS) (F : Bool) (ha : a.Ok) (hb : b.Ok) (hF : F = V7 a b) :
  evF E21 20 22 [.agg a.c, .agg b.c] ⟨0, []⟩ (Yc 0 (.ret (.bool F)) 0 []) := by
 refine @Eq.mpr _ (let q1 := a.N;
 let q2 := b.N;
 let q3 := a.M;
 let q4 := b.M;
 let q5 := Z0 (decide (false = F)) True False;
 Z0 (a.num == b.num) (∃ (N : Nat), ∃ (g : Nat → InS), ∃ (M : Nat), ∃ (g2 : Nat → InS), ((q1 = q1 ∧ N = q1) ∧ ∀ (i : Nat), i < q1 → Zb a.ins i = InS.c (g i)) ∧ ((q2 = q2 ∧ M = q2) ∧ ∀ (i : Nat), i < q2 → Zb b.ins i = InS.c (g2 i)) ∧ (N < 900000000000 ∧ (∀ (i : Nat), i < N → InS.Ok (g i)) ∧ ∀ (i : Nat), i < M → InS.Ok (g2 i)) ∧ Z0 (Z3C N g M g2) (∃ (N : Nat), ∃ (g : Nat → Zs), ∃ (M : Nat), ∃ (g2 : Nat → Zs), ((q3 = q3 ∧ N = q3) ∧ ∀ (i : Nat), i < q3 → Z8 a.outs i = Zs.c (g i)) ∧ ((q4 = q4 ∧ M = q4) ∧ ∀ (i : Nat), i < q4 → Z8 b.outs i = Zs.c (g2 i)) ∧ (N < 900000000000 ∧ (∀ (i : Nat), i < N → Zs.Ok (g i)) ∧ ∀ (i : Nat), i < M → Zs.Ok (g2 i)) ∧ Z0 (decide (Z3D N g M g2 = F)) True False) q5) q5) (by kernel_rfl) ?_
 conv => zeta
 try simp only [Zg]
 try simp only [Zl]
 try simp only [Zh]
 try simp only [Zm]
 try simp only [Zn]
 try simp only [Zf]
 try simp only [Int.toNat_natCast, Nat.zero_add, true_and, and_true, Nat.le_refl]
 refine ⟨fun h0 => ⟨a.N, a.ins, b.N, b.ins, ⟨rfl, fun _ _ => rfl⟩, ⟨rfl, fun _ _ => rfl⟩, ⟨ha.n, ha.ins, hb.ins⟩, fun h1 => ⟨a.M, a.outs, b.M, b.outs, ⟨rfl, fun _ _ => rfl⟩, ⟨rfl, fun _ _ => rfl⟩, ⟨ha.m, ha.outs, hb.outs⟩, ?_⟩, fun h1 => ?_⟩, fun h0 => ?_⟩
 ·rw [hF]; unfold V7; rw [h0, h1]; rfl
 ·rw [hF]; unfold V7; rw [h0, h1]; rfl
 ·rw [hF]; unfold V7; rw [h0]; rfl
def Z5h (F : TxS → TxS → Bool) : ZW := fun args h K => ZH none h true 20 args fun a => match a with
 | [.agg l, .agg l'] => ∃ a b, Z0h l a ∧ Z0h l' b ∧ (a.Ok ∧ b.Ok) ∧ K (.bool (F a b))
 | _ => False
theorem Z4e (args : List AV) (h : Z7) (K : AV → Prop) (hl : Z5h V7 args h K) : Zk PP 22 args h fun o h' => ∃ v, o = .ret v ∧ h' = h ∧ K v := by
 refine ZB.psumm (d := 20) (Zq _ _ _ _ _ hl fun a ha => ?_)
 split at ha
 ·obtain ⟨a, b, h1, h2, ⟨h3, h4⟩, hK⟩ := ha
  exact ⟨_, (ZB.evM Zh1 (Zh2 a b _ h3 h4 rfl)).conv fun E r hr => hr.head (fun _ hc => h1.rel hc) (fun _ hc => hc.head (fun _ hc => h2.rel hc) (fun _ hc => hc)), fun _ => rfl, hK⟩
 ·exact ha.elim
end Go.Tk
end
section
namespace Go.Tk
open IntKind (i64 u8 u32 u64 wrap)
end Go.Tk
end
section
namespace Go.Tk
open IntKind (i64 u8 u32 u64 wrap)
mutual
/-- Without names; views may be. -/
def AV.vplain : AV → Bool
 | .top | .bool _ | .int _ _ | .str _ | .ptr none | .eslice | .fslice | .nilslice | .map none | .nilFunc | .nilIface | .arr _ _ _ => true
 | .vints _ _ _ | .vrows _ _ _ _ | .pview _ _ => true
 | .agg cs => Wl cs
 | .tuple cs => Wl cs
 | .iface _ v => v.vplain
 | _ => false
def Wl : List AV → Bool
 | [] => true
 | v :: r => v.vplain && Wl r
end
mutual
theorem Zi.vplain {E E' : Env} (hi : ∀ a c, E.imm a c → E'.imm a c) : ∀ (v : AV) (r : Value), v.vplain = true → Zi E v r → Zi E' v r
 | .top, r, _, _ => .top r
 | .bool b, r, _, h => h.plain rfl
 | .int k n, r, _, h => h.plain rfl
 | .str s, r, _, h => h.plain rfl
 | .ptr none, r, _, h => h.plain rfl
 | .eslice, r, _, h => h.plain rfl
 | .fslice, r, _, h => h.plain rfl
 | .nilslice, r, _, h => h.plain rfl
 | .map none, r, _, h => h.plain rfl
 | .nilFunc, r, _, h => h.plain rfl
 | .nilIface, r, _, h => h.plain rfl
 | .arr k n xs, r, _, h => h.plain rfl
 | .ptr (some p), r, hp, _ => by simp [AV.vplain] at hp
 | .nslice p a b c, r, hp, _ => by simp [AV.vplain] at hp
 | .map (some x), r, hp, _ => by simp [AV.vplain] at hp
 | .func a b c, r, hp, _ => by simp [AV.vplain] at hp
 | .yield x, r, hp, _ => by simp [AV.vplain] at hp
 | .pview cs inn, r, _, h => by
  cases h with
  | pview cs inn a vs hc hq => exact .pview cs inn a vs (Zy.mono (⟨fun _ _ h => by simp [Env.views] at h, hi⟩ : E.views.le E'.views) hc) (fun j c h => hi _ _ (hq j c h))
 | .vints k xs len, r, _, h => by
  cases h with
  | vintsNil k xs len h1 h2 => exact .vintsNil k xs len h1 h2
  | vints k xs len a cap h1 h2 hq => exact .vints k xs len a cap h1 h2 (fun i h => hi _ _ (hq i h))
 | .vrows esz n f len, r, _, h => by
  cases h with
  | vrowsNil esz n f len h1 h2 => exact .vrowsNil esz n f len h1 h2
  | vrows esz n f len a cap g h1 h2 hc hl hq => exact .vrows esz n f len a cap g h1 h2 (fun i h => Zy.mono (⟨fun _ _ h => by simp [Env.views] at h, hi⟩ : E.views.le E'.views) (hc i h)) hl (fun i j c h h' => hi _ _ (hq i j c h h'))
 | .iface t v, r, hp, h => by
  cases h with
  | iface t v x hx => exact .iface t v x (Zi.vplain hi v x (by simpa [AV.vplain] using hp) hx)
 | .agg cs, r, hp, h => by
  cases h with
  | agg cs vs hc => exact .agg cs vs (Zy.vplain hi cs vs (by simpa [AV.vplain] using hp) hc)
 | .tuple cs, r, hp, h => by
  cases h with
  | tuple _ rs hc => exact .tuple _ rs (ZG.vplain hi cs rs (by simpa [AV.vplain] using hp) hc)
theorem Zy.vplain {E E' : Env} (hi : ∀ a c, E.imm a c → E'.imm a c) : ∀ (l : List AV) (r : List Value), Wl l = true → Zy E l r → Zy E' l r
 | [], r, _, h => by cases h; exact .nil
 | v :: l, r, hp, h => by
  simp only [Wl, Bool.and_eq_true] at hp
  cases h with
  | one v c vs cs h0 h1 hv t => exact .one v c _ cs h0 h1 (Zi.vplain hi v c hp.1 hv) (Zy.vplain hi l cs hp.2 t)
  | arr k n xs vs cs t => exact .arr k n xs _ cs (Zy.vplain hi l cs hp.2 t)
theorem ZG.vplain {E E' : Env} (hi : ∀ a c, E.imm a c → E'.imm a c) : ∀ (l : List AV) (r : List Value), Wl l = true → ZG E l r → ZG E' l r
 | [], r, _, h => by cases h; exact .nil
 | v :: l, r, hp, h => by
  simp only [Wl, Bool.and_eq_true] at hp
  cases h with
  | cons v c vs cs hv t => exact .cons v c _ cs (Zi.vplain hi v c hp.1 hv) (ZG.vplain hi l cs hp.2 t)
end
def Z0k (R : AV → Prop) : KO := fun o _ => match o with
 | .ret u => (match u.vplain with | true => R u | false => False)
 | .panic _ => False
theorem Z82 {P : Program} {f : FuncId} {args : List AV} {h : Z7} {R : AV → Prop} {K : AV → Prop} (hp : Wl args = true) (hc : Zk P f args ⟨0, []⟩ (Z0k R)) (hK : ∀ u, R u → K u) :
  Zk P f args h fun o h' => ∃ v, o = .ret v ∧ h' = h ∧ K v := by
 intro E w rs he hr
 have hemb : Emb E.views ⟨0, []⟩ w :=
  ⟨fun x _ => rfl, fun x B h => by simp [Z7.get, ZT] at h, fun x B h => by simp [Z7.get, ZT] at h, fun x y B B' b N N' h => by simp [Z7.get, ZT] at h, he.imm, fun a c x B N _ h => by simp [Z7.get, ZT] at h⟩
 refine (hc E.views w rs hemb (ZG.vplain (E := E) (E' := E.views) (fun _ _ h => h) _ _ hp hr)).mono ?_
 rintro e w' ⟨E₁, o, h', hK0, hev, hor⟩
 cases hor with
 | panic u r hr => exact hK0.elim
 | ret u r hr =>
  unfold Z0k at hK0
  simp only at hK0
  split at hK0
  ·rename_i hu
   have hkeep : ∀ b, b < w.heap.size → w'.heap[b]? = w.heap[b]? := fun b hb => hev.keep b hb (fun ⟨x, B, N, hx, _⟩ => by simp [Z7.get, ZT] at hx)
   have hemb' : Emb E h w' := by
    refine ⟨he.fresh, he.lt, fun x B hx => (he.own x B hx).congr fun b N hb => hkeep b ((he.own x B hx).lt hb), he.disj, fun a c hi => ?_, he.sep⟩
    have hcc := he.imm a c hi
    have hlt : a.block < w.heap.size := by
     rcases Nat.lt_or_ge a.block w.heap.size with hl | hg
     ·exact hl
     ·simp [World.cell?, Array.getElem?_eq_none hg] at hcc
    simpa [World.cell?, hkeep _ hlt] using hcc
   exact ⟨E, .ret u, h, ⟨u, rfl, rfl, hK u hK0⟩, ⟨.refl E, hemb', hev.size, hev.os, hev.tape, hev.output, fun b hb _ => hkeep b hb, fun b ho => .inl ho, fun _ _ h => h⟩, .ret _ _ (Zi.vplain (E := E₁) (E' := E) (fun a c hi => hev.imm a c hi) _ _ hu hr)⟩
  ·exact hK0.elim
theorem XL {G : Zd} (hG : G.Ok) {n : Nat} {f : FuncId} {args : List AV} {h : Z7} {R : AV → Prop} {K : AV → Prop} (hp : Wl args = true) (hc : evF G n f args ⟨0, []⟩ (Z0k R)) (hK : ∀ u, R u → K u) :
  Zk G.P f args h fun o h' => ∃ v, o = .ret v ∧ h' = h ∧ K v := Z82 hp (Z2u hG hc) hK
end Go.Tk
end
section
namespace Go.Tk
open IntKind (i64 u8 u32 u64 wrap)
end Go.Tk
end
section
namespace Go.Tk
open IntKind (i64 u8 u32 u64 wrap)
inductive Ty where
 | bool
 | int (k : IntKind)
 | str
 | arr (k : IntKind) (n : Nat)
 | ints (k : IntKind)
 | rows (esz : Nat) (ts : List Ty)
def Zco (P : Program) (r : TypeId → Option (List Ty)) (sz : Nat) : Nat → List Field → Option (List Ty)
 | o, [] => if o = sz then some [] else none
 | o, f :: fs => if f.offset = o then (r f.type).bind fun a => (Zco P r sz (o + P.cellsOf f.type) fs).bind fun b => some (a ++ b) else none
def Z1v (P : Program) : Nat → TypeId → Option (List Ty)
 | 0, _ => none
 | m + 1, t => match P.underlying t with
  | some .bool => some [.bool]
  | some (.int k) => some [.int k]
  | some .string => some [.str]
  | some (.array n e) => match P.underlying e with
   | some (.int k) => if P.cellsOf t = n ∧ P.cellsOf e = 1 then some [.arr k n] else none
   | _ => (Z1v P m e).bind fun ts => if P.cellsOf t = n * P.cellsOf e then some (List.replicate n ts).flatten else none
  | some (.slice e) => match P.underlying e with
   | some (.int k) => if P.cellsOf e = 1 then some [.ints k] else none
   | _ => (Z1v P m e).bind fun ts => some [.rows (P.cellsOf e) ts]
  | some (.struct fs) => Zco P (Z1v P m) (P.cellsOf t) 0 fs.toList
  | _ => none
mutual
inductive Z1k : Ty → AV → Prop
 | bool (b : Bool) : Z1k .bool (.bool b)
 | int (k : IntKind) (n : Int) (h : (Lit.int k n).wf = true) : Z1k (.int k) (.int k n)
 | str (s : ByteArray) (h : s.size ≤ maxLen) : Z1k .str (.str s)
 | arr (k : IntKind) (n : Nat) (xs : List Int) (h : xs.length = n) (hw : ∀ i, i < n → (Lit.int k (xs.getD i 0)).wf = true) : Z1k (.arr k n) (.arr k n xs)
 | ints (k : IntKind) (xs : List Int) (n : Nat) (h : xs.length = n) (hm : n ≤ maxLen) (hw : ∀ i, i < n → (Lit.int k (xs.getD i 0)).wf = true) : Z1k (.ints k) (.vints k xs n)
 | rows (esz : Nat) (ts : List Ty) (n : Nat) (f : Nat → List AV) (hm : n ≤ maxLen) (h : ∀ i, i < n → Fits ts (f i)) : Z1k (.rows esz ts) (.vrows esz n f n)
inductive Fits : List Ty → List AV → Prop
 | nil : Fits [] []
 | cons (t : Ty) (a : AV) (ts : List Ty) (vz : List AV) (h : Z1k t a) (r : Fits ts vz) : Fits (t :: ts) (a :: vz)
end
theorem Fits.append : ∀ {ts wz : List Ty} {vz bs : List AV}, Fits ts vz → Fits wz bs → Fits (ts ++ wz) (vz ++ bs)
 | _, _, _, _, .nil, h => h
 | _, _, _, _, .cons t a ts vz h r, k => .cons t a _ _ h (Fits.append r k)
def tE (w : World) : Env := ⟨fun _ => none, fun a c => w.cell? a = some c⟩
section
variable {H : Type} {enc : TypeId × Value → H} {P : Program} {w : World} {sp : Nat → Bool} {held : Bool}
theorem Qn {k : IntKind} {n : Nat} {cs : List Value} (hl : cs.length = n) (h : ∀ i, i < n → ∃ z, cs[i]? = some (.int k z) ∧ (Lit.int k z).wf = true) :
  ∃ xs : List Int, xs.length = n ∧ (∀ i, i < n → (Lit.int k (xs.getD i 0)).wf = true) ∧ ∀ i, i < n → cs[i]? = some (.int k (xs.getD i 0)) := by
 refine ⟨cs.map fun v => match v with | .int _ z => z | _ => 0, by simp [hl], fun i hi => ?_, fun i hi => ?_⟩
 ·obtain ⟨z, h1, h2⟩ := h i hi
  rw [List.getD_eq_getElem?_getD, List.getElem?_map, h1]
  exact h2
 ·obtain ⟨z, h1, h2⟩ := h i hi
  rw [List.getD_eq_getElem?_getD, List.getElem?_map, h1]
  rfl
theorem ZeH {α β : Type} {n : Nat} {p : Nat → α → β → Prop} [Inhabited α] [Inhabited β] (h : ∀ i, i < n → ∃ a b, p i a b) : ∃ (f : Nat → α) (g : Nat → β), ∀ i, i < n → p i (f i) (g i) :=
 ⟨fun i => if hi : i < n then Classical.choose (h i hi) else default, fun i => if hi : i < n then Classical.choose (Classical.choose_spec (h i hi)) else default, fun i hi => by
  simp only [hi, dite_true]
  exact Classical.choose_spec (Classical.choose_spec (h i hi))⟩
theorem Z1I : ∀ (m : Nat) (t : TypeId) (ts : List Ty), Z1v P m t = some ts → ∀ (fuel : Nat) (cs : List Value) (x : DataW H × List MemPlace), DataW.trod enc P w 0 sp held fuel t cs = some x → ∃ vz, Fits ts vz ∧ Zy (tE w) vz cs
 | 0, _, _, ht => by simp [Z1v] at ht
 | m + 1, t, ts, ht => by
  intro fuel cs x hx
  unfold Z1v at ht
  split at ht
  ·rename_i hu
   cases ht
   obtain ⟨b, rfl, _⟩ := DataW.trod_bool hu hx
   exact ⟨[.bool b], .cons _ _ _ _ (.bool b) .nil, .one _ _ _ _ rfl rfl (.bool b) .nil⟩
  ·rename_i k hu
   cases ht
   obtain ⟨n, rfl, _, hw⟩ := DataW.trod_int hu hx
   exact ⟨[.int k n], .cons _ _ _ _ (.int k n hw) .nil, .one _ _ _ _ rfl rfl (.int k n) .nil⟩
  ·rename_i hu
   cases ht
   obtain ⟨s, rfl, _, hw⟩ := DataW.trod_string hu hx
   exact ⟨[.str s], .cons _ _ _ _ (.str s hw) .nil, .one _ _ _ _ rfl rfl (.str s) .nil⟩
  ·rename_i n e hu
   split at ht
   ·rename_i k he
    split at ht
    ·rename_i hc
     obtain ⟨hc, h1⟩ := hc
     cases ht
     obtain ⟨xs, q, rfl, rfl, hl, hn, hi⟩ := DataW.trod_array hu hx
     rw [hc] at hl
     obtain ⟨zs, z1, z2, z3⟩ := Qn (k := k) hl fun i hlt => by
      have := hi i hlt
      rw [List.getElem?_eq_getElem (by omega), h1] at this
      obtain ⟨z, e1, _, e2⟩ := DataW.trod_int he this
      refine ⟨z, ?_, e2⟩
      rw [Nat.mul_one] at e1
      have := congrArg (fun l => l[0]?) e1
      simpa using this
     refine ⟨[.arr k n zs], .cons _ _ _ _ (.arr k n zs z1 z2) .nil, ?_⟩
     have : cs = intCells k n zs ++ [] := by
      rw [List.append_nil]
      refine List.ext_getElem? fun i => ?_
      by_cases hlt : i < n
      ·rw [z3 i hlt]
       simp [intCells, hlt]
      ·rw [List.getElem?_eq_none (by omega), List.getElem?_eq_none (by rw [Z6]; omega)]
     rw [this]
     exact .arr _ _ _ _ _ .nil
    ·cases ht
   ·obtain ⟨es, e1, e2⟩ := Option.bind_eq_some_iff.1 ht
    split at e2
    ·rename_i hc
     cases e2
     obtain ⟨xs, q, rfl, rfl, hl, hn, hi⟩ := DataW.trod_array hu hx
     rw [hc] at hl
     have key : ∀ j, j ≤ n → ∃ vz, Fits (List.replicate j es).flatten vz ∧ Zy (tE w) vz (cs.take (j * P.cellsOf e)) := by
      intro j
      induction j with
      | zero => intro _; exact ⟨[], .nil, by simp; exact .nil⟩
      | succ j ih =>
       intro hj
       obtain ⟨vz, f1, f2⟩ := ih (by omega)
       have := hi j (by omega)
       rw [List.getElem?_eq_getElem (by omega)] at this
       obtain ⟨bs, p1, p2⟩ := Z1I m _ _ e1 _ _ _ this
       refine ⟨vz ++ bs, ?_, ?_⟩
       ·rw [List.replicate_succ', List.flatten_append, List.flatten_singleton]
        exact f1.append p1
       ·rw [Nat.succ_mul, List.take_add]
        exact f2.append p2
     obtain ⟨vz, f1, f2⟩ := key n (Nat.le_refl _)
     rw [List.take_of_length_le (by omega)] at f2
     exact ⟨vz, f1, f2⟩
    ·cases e2
  ·rename_i e hu
   split at ht
   ·rename_i k he
    split at ht
    ·rename_i hc
     cases ht
     rcases DataW.trod_slice hu hx with ⟨rfl, _⟩ | ⟨a, len, cap, elems, rest, n, rfl, rfl, _, _, hl, hm, hlen, hi, _, _⟩
     ·exact ⟨[.vints k [] 0], .cons _ _ _ _ (.ints k [] 0 rfl (Nat.zero_le _) fun i hi => absurd hi (Nat.not_lt_zero i)) .nil, .one _ _ _ _ rfl rfl (.vintsNil _ _ _ rfl rfl) .nil⟩
     ·obtain ⟨zs, z1, z2, z3⟩ := Qn (k := k) (n := len) (cs := (List.range len).map fun i => (w.cell? (a.add i)).getD undef) (by simp) fun i hlt => by
       have := hi i hlt
       rw [List.getElem?_eq_getElem (by omega), hc, Nat.mul_one] at this
       obtain ⟨cs', h1, h2⟩ := Option.bind_eq_some_iff.1 this
       obtain ⟨z, rfl, _, e2⟩ := DataW.trod_int he h2
       refine ⟨z, ?_, e2⟩
       simp [hlt, Go.ChangeShapes.cell_of_cells?_one h1]
      refine ⟨[.vints k zs len], .cons _ _ _ _ (.ints k zs len z1 (by omega) z2) .nil, .one _ _ _ _ rfl rfl (.vints k zs len a cap (by omega) (by omega) fun i hlt => ?_) .nil⟩
      rw [z1] at hlt
      have := hi i hlt
      rw [List.getElem?_eq_getElem (by omega), hc, Nat.mul_one] at this
      obtain ⟨cs', h1, h2⟩ := Option.bind_eq_some_iff.1 this
      obtain ⟨z, rfl, _, e2⟩ := DataW.trod_int he h2
      have h3 := z3 i hlt
      have h4 := Go.ChangeShapes.cell_of_cells?_one h1
      simp [hlt, h4] at h3
      show w.cell? (a.add i) = _
      rw [h4, h3, List.getD_eq_getElem?_getD]
    ·cases ht
   ·obtain ⟨es, h1, h2⟩ := Option.bind_eq_some_iff.1 ht
    cases h2
    rcases DataW.trod_slice hu hx with ⟨rfl, _⟩ | ⟨a, len, cap, elems, rest, n, rfl, rfl, _, _, hl, hm, hlen, hi, _, _⟩
    ·exact ⟨[.vrows (P.cellsOf e) 0 (fun _ => []) 0], .cons _ _ _ _ (.rows _ _ 0 _ (Nat.zero_le _) fun i hi => absurd hi (Nat.not_lt_zero i)) .nil, .one _ _ _ _ rfl rfl (.vrowsNil _ _ _ _ rfl rfl) .nil⟩
    ·obtain ⟨f, g, hfg⟩ := ZeH (n := len) (p := fun i (vz : List AV) (vs : List Value) => Fits es vz ∧ Zy (tE w) vz vs ∧ w.cells? 0 (a.add (i * P.cellsOf e)) (P.cellsOf e) = some vs) fun i hlt => by
      have := hi i hlt
      rw [List.getElem?_eq_getElem (by omega)] at this
      obtain ⟨cs', k1, k2⟩ := Option.bind_eq_some_iff.1 this
      obtain ⟨vz, f1, f2⟩ := Z1I m _ _ h1 _ _ _ k2
      exact ⟨vz, cs', f1, f2, k1⟩
     refine ⟨[.vrows (P.cellsOf e) len f len], .cons _ _ _ _ (.rows _ _ len f (by omega) fun i hlt => (hfg i hlt).1) .nil, .one _ _ _ _ rfl rfl (.vrows _ _ _ _ a cap g (Nat.le_refl _) hl (fun i hlt => (hfg i hlt).2.1) (fun i hlt => (World.cells?_some (hfg i hlt).2.2).2.1) fun i j c hlt hj => ?_) .nil⟩
     obtain ⟨_, hl', hc'⟩ := World.cells?_some (hfg i hlt).2.2
     have hj' : j < P.cellsOf e := by
      rcases Nat.lt_or_ge j (P.cellsOf e) with h | h
      ·exact h
      ·rw [List.getElem?_eq_none (by omega)] at hj; cases hj
     have := hc' j hj'
     rw [hj] at this
     show w.cell? (a.add (i * P.cellsOf e + j)) = some c
     rw [← this]
     rw [Addr.add_add]
  ·rename_i fs hu
   obtain ⟨xs, n, rfl, rfl, hl, hn, hf⟩ := DataW.trod_struct hu hx
   have key : ∀ (l : List Field) (o : Nat) (ts : List Ty) (i0 : Nat), Zco P (Z1v P m) (P.cellsOf t) o l = some ts → (∀ i f, l[i]? = some f → fs[i0 + i]? = some f) → ∃ vz, Fits ts vz ∧ Zy (tE w) vz (cs.drop o) := by
    intro l
    induction l with
    | nil =>
     intro o ts i0 h _
     unfold Zco at h
     split at h
     ·rename_i ho
      cases h
      exact ⟨[], .nil, by rw [List.drop_eq_nil_of_le (by omega)]; exact .nil⟩
     ·cases h
    | cons f l ih =>
     intro o ts i0 h hl'
     unfold Zco at h
     split at h
     ·rename_i ho
      obtain ⟨a, h1, h2⟩ := Option.bind_eq_some_iff.1 h
      obtain ⟨b, h3, h4⟩ := Option.bind_eq_some_iff.1 h2
      cases h4
      have h0 : fs[i0]? = some f := hl' 0 f rfl
      have hlt : i0 < fs.size := by
       rcases Nat.lt_or_ge i0 fs.size with h | h
       ·exact h
       ·rw [Array.getElem?_eq_none (by omega)] at h0; cases h0
      have k := hf i0 f h0
      rw [List.getElem?_eq_getElem (by omega), ho] at k
      obtain ⟨vz, p1, p2⟩ := Z1I m _ _ h1 _ _ _ k
      obtain ⟨bs, q1, q2⟩ := ih (o + P.cellsOf f.type) b (i0 + 1) h3 fun i g hg => by
       have := hl' (i + 1) g hg
       rw [← this]; congr 1; omega
      refine ⟨vz ++ bs, p1.append q1, ?_⟩
      have e : cs.drop o = (cs.drop o).take (P.cellsOf f.type) ++ cs.drop (o + P.cellsOf f.type) := by
       rw [← List.drop_drop, List.take_append_drop]
      rw [e]
      exact p2.append q2
     ·cases h
   obtain ⟨vz, h1, h2⟩ := key fs.toList 0 ts 0 ht fun i f h => by simpa using h
   exact ⟨vz, h1, by simpa using h2⟩
  ·cases ht
def isAgg (P : Program) (t : TypeId) : Bool := match P.underlying t with
 | some (.struct _) | some (.array _ _) => true
 | _ => false
inductive Z2V : Bool → List Ty → AV → Prop
 | agg (ts : List Ty) (vz : List AV) (h : Fits ts vz) : Z2V true ts (.agg vz)
 | one (t : Ty) (a : AV) (h : Z1k t a) : Z2V false [t] a
theorem Zcp {m : Nat} {t : TypeId} {ts : List Ty} (ht : Z1v P m t = some ts) (hg : isAgg P t = false) {v : Value} {r : Reach} {b : Nat} (hv : Value.okWide P w r b t v) :
  v.cells.toList = [v] ∧ ∃ τ, ts = [τ] ∧ ∀ k n, τ ≠ .arr k n := by
 cases m with
 | zero => simp [Z1v] at ht
 | succ m =>
  unfold Z1v at ht
  unfold isAgg at hg
  split at ht
  ·rename_i hu; cases ht; obtain ⟨b, rfl⟩ := Go.WideShapes.okWide_bool hu hv; exact ⟨rfl, _, rfl, fun _ _ h => by cases h⟩
  ·rename_i hu; cases ht; obtain ⟨b, rfl⟩ := Go.WideShapes.okWide_int hu hv; exact ⟨rfl, _, rfl, fun _ _ h => by cases h⟩
  ·rename_i hu; cases ht; obtain ⟨b, rfl⟩ := Go.WideShapes.okWide_string hu hv; exact ⟨rfl, _, rfl, fun _ _ h => by cases h⟩
  ·rename_i hu; simp [hu] at hg
  ·rename_i hu
   obtain ⟨a, l, c, rfl⟩ := Go.WideShapes.okWide_slice hu hv
   split at ht
   ·split at ht
    ·cases ht; exact ⟨rfl, _, rfl, fun _ _ h => by cases h⟩
    ·cases ht
   ·obtain ⟨es, h1, h2⟩ := Option.bind_eq_some_iff.1 ht
    cases h2; exact ⟨rfl, _, rfl, fun _ _ h => by cases h⟩
  ·rename_i hu; simp [hu] at hg
  ·cases ht
theorem Zcq {m : Nat} {t : TypeId} {ts : List Ty} {g : Bool} (ht : Z1v P m t = some ts) (hg : isAgg P t = g) {v : Value} {r : Reach} {b : Nat} (hv : Value.okWide P w r b t v) {d : DataW H} {ps : List MemPlace} (h : DataW.Trod enc P w 0 sp held t v d ps) :
  ∃ a, Z2V g ts a ∧ Zi (tE w) a v := by
 obtain ⟨fuel, hf⟩ := h
 obtain ⟨vz, f1, f2⟩ := Z1I m _ _ ht _ _ _ hf
 cases g with
 | true =>
  have : ∃ cs, v = .agg cs := by
   unfold isAgg at hg
   unfold Value.okWide at hv
   split at hg
   ·rename_i hu; simp only [hu] at hv; obtain ⟨cs, rfl, _⟩ := hv; exact ⟨cs, rfl⟩
   ·rename_i hu; simp only [hu] at hv; obtain ⟨cs, rfl, _⟩ := hv; exact ⟨cs, rfl⟩
   ·cases hg
  obtain ⟨cs, rfl⟩ := this
  refine ⟨.agg vz, .agg _ _ f1, ?_⟩
  have : cs = (Value.cells (.agg cs)).toList.toArray := by simp [Value.cells]
  rw [this]
  exact .agg _ _ f2
 | false =>
  obtain ⟨h1, τ, rfl, h2⟩ := Zcp ht hg hv
  rw [h1] at f2
  cases f1 with
  | cons _ a _ vz f r =>
   cases r
   generalize hL : [v] = L at f2
   cases f2 with
   | one _ _ _ _ h0 h1 h t => cases hL; exact ⟨_, .one _ _ f, h⟩
   | arr k n xs _ cs t => cases f; exact absurd rfl (h2 _ _)
end
end Go.Tk
end
section
namespace Go.Tk
open IntKind (i64 u8 u32 u64 wrap)
open Go.ChangeShapes Go.WideShapes Go.RowKit
theorem Zh3 (w : World) : Emb (tE w) ⟨0, []⟩ w where
 fresh := fun _ _ => rfl
 lt := fun x B h => by simp [Z7.get, ZT] at h
 own := fun x B h => by simp [Z7.get, ZT] at h
 disj := fun x y B B' b N N' h => absurd h (by simp [Z7.get, ZT])
 imm := fun _ _ h => h
 sep := fun a c x B N _ h => absurd h (by simp [Z7.get, ZT])
theorem Zk.topT {P : Program} {f : FuncId} {args : List AV} (h : Zk P f args ⟨0, []⟩ fun o h' => ∃ v, o = .ret v ∧ h' = ⟨0, []⟩ ∧ v = .bool true) {w : World} {rs : List Value} (hl : ZG (tE w) args rs) :
  Calls P f rs.toArray w fun e w' => e = .returned (.bool true) ∧ Go.RowKit.Below w.heap.size w w' := by
 refine (h (tE w) w rs (Zh3 w) hl).mono ?_
 rintro e w' ⟨E', o, h', ⟨v, rfl, rfl, hv⟩, hev, hor⟩
 obtain rfl := hv
 cases hor with
 | ret v r hr =>
  cases hr
  refine ⟨rfl, hev.os, hev.tape, hev.output, hev.size, fun k hk => hev.keep k hk ?_⟩
  rintro ⟨x, B, N, hx, _⟩
  exact absurd hx (by simp [Z7.get, ZT])
def Z83 (P : Program) (m : Nat) : List TypeId → Option (List (Bool × List Ty))
 | [] => some []
 | t :: r => (Z1v P m t).bind fun a => (Z83 P m r).bind fun b => some ((isAgg P t, a) :: b)
inductive Z4f : List (Bool × List Ty) → List AV → Prop
 | nil : Z4f [] []
 | cons (g : Bool) (ts : List Ty) (a : AV) (r : List (Bool × List Ty)) (vz : List AV) (h : Z2V g ts a) (k : Z4f r vz) : Z4f ((g, ts) :: r) (a :: vz)
section
variable {H : Type} {enc : TypeId × Value → H} {P : Program} {w : World}
theorem Z4g {m : Nat} {r : Reach} {b : Nat} : ∀ {ts : List TypeId} {τs : List (Bool × List Ty)} {vs : List Value} {ds : List (DataW H)} {ps : List MemPlace}, Z83 P m ts = some τs → (∀ (j : Nat) t v, ts[j]? = some t → vs[j]? = some v → Value.okWide P w r b t v) →
  DataW.TrodAll enc P w 0 (fun _ => true) true ts vs ds ps → ∃ vz, Z4f τs vz ∧ ZG (tE w) vz vs
 | [], τs, vs, ds, ps, ha, _, h => by
  cases ha
  obtain ⟨rfl, _, _⟩ := trodAll_nil h
  exact ⟨[], .nil, .nil⟩
 | t :: ts, τs, vs, ds, ps, ha, hv, h => by
  obtain ⟨a, h1, h2⟩ := Option.bind_eq_some_iff.1 ha
  obtain ⟨c, h3, h4⟩ := Option.bind_eq_some_iff.1 h2
  cases h4
  obtain ⟨v, vs', d, ds', p, q, rfl, rfl, rfl, k1, k2⟩ := trodAll_cons h
  obtain ⟨x, f1, f2⟩ := Zcq h1 rfl (hv 0 t v rfl rfl) k1
  obtain ⟨vz, g1, g2⟩ := Z4g h3 (fun j t' v' e1 e2 => hv (j + 1) t' v' e1 e2) k2
  exact ⟨x :: vz, .cons _ _ _ _ _ f1 g1, .cons _ _ _ _ f2 g2⟩
theorem Z1l {sp : Nat → Bool} {held : Bool} : ∀ {ts : List TypeId} {vs : List Value} {ds : List (DataW H)} {ps : List MemPlace}, DataW.TrodAll enc P w 0 sp held ts vs ds ps → ds.length = ts.length
 | [], _, _, _, h => by obtain ⟨_, rfl, _⟩ := trodAll_nil h; rfl
 | t :: ts, _, _, _, h => by
  obtain ⟨v, vs', d, ds', p, q, rfl, rfl, rfl, k1, k2⟩ := trodAll_cons h
  simp [Z1l k2]
theorem Z4h {W' : World} (laid : laidOutB P = true) (hb : Below w.heap.size w W') : ∀ {ts : List TypeId} {vs : List Value} {ds : List (DataW H)} {ps : List MemPlace}, ts.all (fun t => P.readableRec t && decide (t < P.types.size)) = true →
  DataW.TrodAll enc P w 0 (fun _ => true) true ts vs ds ps → DataW.TrodAll enc P W' 0 (fun b => decide (b < w.heap.size)) true ts vs ds ps
 | [], _, _, _, _, h => by obtain ⟨rfl, rfl, rfl⟩ := trodAll_nil h; exact trodAll_mk0
 | t :: ts, _, _, _, hr, h => by
  obtain ⟨v, vs', d, ds', p, q, rfl, rfl, rfl, k1, k2⟩ := trodAll_cons h
  simp only [List.all_cons, Bool.and_eq_true, decide_eq_true_eq] at hr
  have lt : ∀ x ∈ p, x.block < w.heap.size := by obtain ⟨m, hm⟩ := k1; exact DataW.trod_lt m _ _ _ hm
  exact trodAll_cons_mk (Below.trod laid hr.1.1 hr.1.2 k1 hb lt) (Z4h laid hb hr.2 k2)
end
theorem lifted_gen {H : Type} {enc : TypeId × Value → H} {C : Checked} {os : Os} {f : FuncId} {fn : Func} {s : ChangeSpec} {conds : List PathCond} {tb : TypeId} {m : Nat} {τs : List (Bool × List Ty)}
  (own : ownKnob C.prog.godebug = none) (laid : laidOutB C.prog = true) (started : os.Started) (noInit : C.prog.inits.idxOf? f = none) (hfn : C.prog.funcs[f]? = some fn)
  (witness : ∃ (w : World) (tape : Tape) (i : Input), w.os = os ∧ (w.forCall tape i).Shaped C.prog ∧ i.vars = [] ∧ Input.okWide C.prog (w.forCall tape i) .any w.heap.size f i ∧
   s.pre6 enc C.prog fn conds false (w.forCall tape i).memory i.args ∧ ({} : Assume).holds C.prog (lone (Frame.enter C.prog f i.args .normal) [] (w.forCall tape i)))
  (hvars : s.vars = []) (hr : fn.resultTypes = #[tb]) (hb : C.prog.underlying tb = some .bool) (hread : fn.params.toList.all (fun t => C.prog.readableRec t && decide (t < C.prog.types.size)) = true) (hτ : Z83 C.prog m fn.params.toList = some τs)
  (hs : ∀ ds : List (DataW H), ds.length = fn.params.toList.length → s.fn H ds = { results := [.lit (.bool true)], args := ds })
  (walk : ∀ vz, Z4f τs vz → Zk C.prog f vz ⟨0, []⟩ fun o h' => ∃ v, o = .ret v ∧ h' = ⟨0, []⟩ ∧ v = .bool true) :
  ReturnsInHanded {} C os f .any (s.pre6 enc C.prog fn conds false) (s.post enc C.prog fn false true false false) := by
 refine returnsInHanded_of_change own started noInit hfn witness ?_
 intro W base args ds gs before hval hW _ _
 have hW' := hW
 obtain ⟨p, q, hA, hV, rfl, hfz, hnd⟩ := hW
 have hV0 := hV
 rw [hvars] at hV
 obtain ⟨rfl, rfl⟩ := trodVars_none hV
 obtain ⟨vz, f1, f2⟩ := Z4g hτ (fun j t v e1 e2 => hval j t v (by simpa using e1) (by simpa using e2)) hA
 have e0 : args = args.toList.toArray := by simp
 have key := (walk vz f1).topT f2
 rw [← e0] at key
 refine key.mono fun e W' ⟨he, bel⟩ => ?_
 subst he
 have hfn' := hs ds (Z1l hA)
 refine ⟨_, rfl, ds, [], _, [], p, [], hW', ?_, ?_, ?_, bel.frame _, fun h => by cases h⟩
 ·rw [List.append_nil, hfn', hr]
  exact trodAll_mk1 (shut_bool hb _)
 ·rw [List.append_nil, hfn']
  exact Z4h laid bel hread hA
 ·rw [List.append_nil, hfn', hvars]
  rfl
end Go.Tk
end
section
namespace Go.Tk
open IntKind (i64 u8 u32 u64 wrap)
theorem Yv.join {P : Program} {k : Nat} {ro : Option Nat} {c : Code} {s : St} {X Y : KE} (h : Yv P k ro c s Y) (hxy : ∀ e s', Y e s' → ∃ s₂, e = .normal ∧ Ur k s' s₂ ∧ X .normal s₂) : Yv P k ro c s X := by
 intro E0 h0 w0 E a w n hk hs hev
 refine wpIn_mono (h E0 h0 w0 E a w n hk hs hev) ?_
 rintro e a' w' ⟨E', x, s', hx, hev', hs', he⟩
 obtain ⟨s₂, rfl, hw, hX⟩ := hxy x s' hx
 obtain ⟨E₂, hs₂, hev₂⟩ := hw E0 h0 w0 E' a' w' hk hs' hev'
 cases he
 exact ⟨E₂, _, s₂, hX, hev₂, hs₂, .normal⟩
def Z84 (P : Program) (f : FuncId) (id : Nat) : Bool := match P.funcs[f]? with
 | some fn => match fn.body with
  | some b => match VZ id (ZC b) with | [_] => true | _ => false
  | none => false
 | none => false
theorem Zas {P : Program} {f : FuncId} {id : Nat} (h : Z84 P f id = true) {fn : Func} {body c : Code} (hf : P.funcs[f]? = some fn) (hb : fn.body = some body) (hm : (id, c) ∈ ZC body) : c = V3 P f id := by
 have hc := V0 hm
 simp only [Z84, hf, hb] at h
 split at h
 ·rename_i d hd
  have hbo : QF P f = body := by simp [QF, hf, hb]
  have hbl : V3 P f id = d := by unfold V3; rw [hbo, hd]
  rw [hd] at hc
  rw [List.mem_singleton] at hc
  rw [hbl]; exact hc
 ·cases h
@[irreducible] def Z4i (G : Zd) (n : Nat) (f : FuncId) (id : Nat) (k : Nat) (s : St) (X : KE) : Prop := evC G (Z3w G n f none) k (V3 G.P f id) s X
def Z99 (k : Nat) (S0 S1 : St) (C : Prop) : Nat → St → KE → Prop := fun k' s X => match Nat.beq k' k with
 | true => Qm k S0 s (C ∧ X .normal S1)
 | false => False
def jnM (k : Nat) (S1 : St) : KE := fun e s => match e with
 | .normal => Qm k S1 s True
 | _ => False
theorem Zd.withJ {G : Zd} (hG : G.Ok) {f : FuncId} {id k N : Nat} {S0 S1 : St} {C : Prop} (h1 : Z84 G.P f id = true) (hC : C → Z4i G N f id k S0 (jnM k S1)) : (G.withL f id (Z99 k S0 S1 C)).Ok where
 draw := hG.draw
 psumm := hG.psumm
 fsumm := hG.fsumm
 lsumm := fun f' id' S' fn c body hS hf hb hm k' s X hs => by
  simp only [Zd.withL] at hS
  split at hS
  ·rename_i hq
   rw [Bool.and_eq_true] at hq
   have e1 := Nat.eq_of_beq_eq_true hq.1
   have e2 := Nat.eq_of_beq_eq_true hq.2
   subst e1 e2
   cases hS
   have hc := Zas h1 hf hb hm
   unfold Z99 at hs
   split at hs
   ·rename_i hk
    have := Nat.eq_of_beq_eq_true hk
    subst this
    obtain ⟨⟨hcC, hX⟩, hw⟩ := X2 hs
    have hE := hC hcC
    unfold Z4i at hE
    rw [← hc] at hE
    have hkN := Z08 hG N f' none
    refine Yv.weak ?_ hw
    refine Yv.join (Z2t (k := k') (ro := none) hG hkN.1 (fun _ => rfl) (fun _ => rfl) (fun _ => ⟨fn, body, by rw [hkN.2.1]; exact hf, hb, fun b hbm => Us body id' _ hm b hbm⟩) hE) ?_
    intro e s' hY
    unfold jnM at hY
    split at hY
    ·obtain ⟨_, hw'⟩ := X2 hY
     exact ⟨_, rfl, hw', hX⟩
    ·exact hY.elim
   ·exact hs.elim
  ·exact hG.lsumm f' id' S' fn c body hS hf hb hm k' s X hs
theorem Zk.eslice {P : Program} {f : FuncId} {h : Z7} {K : KO} (h1 : Zk P f [.nilslice] h K) (h2 : Zk P f [.fslice] h K) : Zk P f [.eslice] h K := by
 intro E w rs he hl
 cases hl with
 | cons v r vs rs hv ht =>
  cases ht
  cases hv with
  | eslice a =>
   cases a with
   | none => exact h1 E w _ he (.cons _ _ _ _ .nilslice .nil)
   | some a => exact h2 E w _ he (.cons _ _ _ _ (.fslice a 0) .nil)
end Go.Tk
end
section
namespace Go.Tk
open IntKind (i64 u8 u32 u64 wrap)
structure Bytes (xs : List Int) : Prop where
 h : ∀ i : Nat, 0 ≤ xs.getD i 0 ∧ xs.getD i 0 ≤ 255
def inZ : InS := ⟨Z5, 0, 0, Z5, Z5, Z5⟩
def Zkl : Zs := ⟨0, 0, Z5, Z5, Z5, Z5, 0, 0⟩
end Go.Tk
end
section
namespace Go.Tk
open IntKind (i64 u8 u32 u64 wrap)
def Zh4 (R : Zs → Bool) : ZW := fun args _ K => match args with
 | [.agg [.int .i64 kd, .int .i64 am, .arr .u8 32 ow, .arr .u8 32 ot, .arr .u8 32 po, .arr .u8 32 ha, .int .i64 de, .int .i64 ex]] => Zw (ow.length = 32 ∧ ot.length = 32 ∧ po.length = 32 ∧ ha.length = 32) ((Bytes ow ∧ Bytes ot) ∧ K (.bool (R ⟨kd, am, ow, ot, po, ha, de, ex⟩)))
 | _ => False
noncomputable def E35 : Zd := (G0.withP 84 (inS Y2)).withP 85 (Zh4 ZL)
end Go.Tk
end
section
namespace Go.Tk
open IntKind (i64 u8 u32 u64 wrap)
def Zcr {ι : Type} (S : ι → Nat → St → KE → Prop) : Nat → St → KE → Prop := fun k s X => ∃ i, S i k s X
theorem Zd.withL_ex {ι : Type} {G : Zd} (hG : G.Ok) {f : FuncId} {id : Nat} {S : ι → Nat → St → KE → Prop} (h1 : ∀ i, (G.withL f id (S i)).Ok) : (G.withL f id (Zcr S)).Ok where
 draw := hG.draw
 psumm := hG.psumm
 fsumm := hG.fsumm
 lsumm := fun f' id' S' fn c body hS hf hb hm k s X hs => by
  have hS0 := hS
  simp only [Zd.withL] at hS
  split at hS
  ·rename_i hq
   cases hS
   obtain ⟨i, hs⟩ := hs
   have a1 := (h1 i).lsumm f' id' (S i) fn c body
   simp only [Zd.withL, hq] at a1
   exact a1 trivial hf hb hm k s X hs
  ·exact hG.lsumm f' id' S' fn c body hS hf hb hm k s X hs
def rgH (t : TxS) : Z7 := ⟨1, [(0, .flat t.c)]⟩
def rgP : AV := .ptr (some ⟨0, 0, 0, 0, 0⟩)
def Zh5 (t : TxS) (i : Nat) : St := ⟨106, [(3, .int .i64 i), (1, rgP)], rgH t, []⟩
def Zkm (t : TxS) (i k : Nat) : St := ⟨106, [(4, .int .i64 k), (3, .int .i64 i), (1, rgP)], rgH t, []⟩
def rgR (t : TxS) : St := ⟨106, [(2, .bool false), (1, rgP)], rgH t, []⟩
def Zkn (t : TxS) : St := ⟨106, [(1, rgP)], rgH t, []⟩
noncomputable def Zko (t : TxS) : Zd := E35.withL 44 2 (Zcr fun i : Nat => goM 0 (Zkm t i 0) (i < t.N ∧ t.N ≤ 24 ∧ t.Ok) (Ym 2 i 9 (fun k => sameAt t.ins (t.ins i) k = false) (fun k => k = i) (fun k => k < i ∧ sameAt t.ins (t.ins i) k = true) (fun _ => False) (fun _ => Zh5 t i) (fun _ => rgR t) (fun _ => rgR t)))
def okI (t : TxS) (i : Nat) : Bool := Y2 (t.ins i) && !((List.range i).any (sameAt t.ins (t.ins i)))
theorem Zl8 (t : TxS) (i : Nat) (Z1 Z2 Z3 : Prop) (hi : i ≤ t.N) (hN : t.N ≤ 24) (ht : t.Ok) (h1 : i < t.N → okI t i = true → Z1) (h2 : i = t.N → Z2) (h3 : i < t.N → okI t i = false → Z3) :
  ZF (Zko t) 20 44 0 0 (Zh5 t i) (rdM 0 0 9 (Zh5 t (i + 1)) (Zkn t) (rgR t) (rgR t) Z1 Z2 Z3 False) := by
 refine @Eq.mpr _ (let q1 := t.N;
 let q2 := t.ins (Int.toNat (↑i : Int));
 let q3 := q2.name;
 let q4 := q2.tag;
 let q5 := q2.also;
 let q6 := q2.secret;
 let q7 := decide (t.num = t.num);
 let q8 := decide (q1 = q1);
 let q9 := t.ins;
 let q10 := Zb q9;
 let q11 := q10 = q10;
 let q12 := decide (t.M = t.M);
 let q13 := Z8 t.outs;
 let q14 := q13 = q13;
 let q15 := Z0 q7 (Z0 q8 (q11 ∧ Z0 q8 (Z0 q12 (q14 ∧ Z0 q12 Z3 False) False) False) False) False;
 Z0 (decide ((↑i : Int) < (↑q1 : Int))) (Z0 (decide (0 ≤ (↑i : Int) ∧ (↑i : Int) < (↑q1 : Int))) (Z0 (decide (List.length q3 = 32 ∧ List.length q4 = 32 ∧ List.length q5 = 32 ∧ List.length q6 = 32)) (Z0 (!Y2 (InS.mk q3 q2.index q2.way q4 q5 q6)) q15 (∃ (i_1 : Nat), Z0 (decide ((↑i : Int) = (↑i_1 : Int))) (Z0 q7 (Z0 q8 (q11 ∧ Z0 q8 (Z0 q12 (q14 ∧ Z0 q12 ((i_1 < q1 ∧ q1 ≤ 24 ∧ TxS.Ok t) ∧ ∀ (i_2 : Nat), i_2 ≤ i_1 → (∀ (j : Nat), j < i_2 → (fun (k : Nat) => sameAt q9 (q9 i_1) k = false) j) → (i_2 = i_1 → Z0 (decide (wrap i64 ((↑i_1 : Int) + 1) = (↑(i + 1) : Int))) (Z0 q7 (Z0 q8 (q11 ∧ Z0 q8 (Z0 q12 (q14 ∧ Z0 q12 Z1 False) False) False) False) False) False) ∧ (i_2 < i_1 ∧ sameAt q9 (q9 i_1) i_2 = true → q15) ∧ (False → Z0 q7 (Z0 q8 (q11 ∧ Z0 q8 (Z0 q12 (q14 ∧ Z0 q12 False False) False) False) False) False)) False) False) False) False) False) False)) False) False)
 (Z0 q7 (Z0 q8 (q11 ∧ Z0 q8 (Z0 q12 (q14 ∧ Z0 q12 Z2 False) False) False) False) False)) (by kernel_rfl) ?_
 conv => zeta
 try simp only [Zg]
 try simp only [Zl]
 try simp only [Zh]
 try simp only [Zm]
 try simp only [Zn]
 try simp only [Zf]
 try simp only [Int.toNat_natCast, Nat.zero_add, true_and, and_true, Nat.le_refl]
 unfold okI at h1 h3
 refine ⟨fun hlt => ?_, fun hge => h2 (by omega)⟩
 have hlt : i < t.N := by omega
 obtain ⟨e1, e2, e3, e4⟩ := ht.ins i hlt
 have h1 := h1 hlt
 have h3 := h3 hlt
 refine ⟨by omega, ⟨e1, e2, e3, e4⟩, fun q => h3 ?_, fun q => ⟨i, rfl, ⟨hlt, hN, ht⟩, fun m hm hgo => ⟨fun hq => ⟨w64 (by omega), h1 ?_⟩, fun hq => h3 ?_, fun h => h⟩⟩⟩
 ·have q : Y2 (t.ins i) = false := by simpa using q
  rw [q, Bool.false_and]
 ·subst hq
  have q : Y2 (t.ins m) = true := by simpa using q
  rw [q, Bool.true_and]
  simp only [Bool.not_eq_true', List.any_eq_false, List.mem_range]
  intro j hj
  rw [hgo j hj]
  decide
 ·have : (List.range i).any (sameAt t.ins (t.ins i)) = true := by
   rw [List.any_eq_true]
   exact ⟨m, by simpa using hq.1, hq.2⟩
  rw [this, Bool.not_true, Bool.and_false]
def Zh6 (t : TxS) (i : Nat) : Int := (amL t.outs i).sum
def Z2W (t : TxS) : Bool := decide (0 ≤ t.num ∧ t.num ≤ 2147483647) && decide (1 ≤ t.N ∧ t.N ≤ 24) && decide (1 ≤ t.M ∧ t.M ≤ 24) && (List.range t.N).all (okI t) && (List.range t.M).all (fun i => ZL (t.outs i)) && decide (Zh6 t t.M ≤ 1125899906842624)
theorem WK {g : Nat → InS} {x : InS} {j : Nat} : sameAt g x j = true ↔ (g j).name = x.name ∧ (g j).index = x.index := by
 unfold sameAt Qk; simp
theorem Z2X {N : Nat} {g : Nat → InS} {i : Nat} (hi : i < N) : Uy N g (g i) = true ↔ ∃ j, j < N ∧ j ≠ i ∧ sameAt g (g i) j = true := by
 have hself : sameAt g (g i) i = true := WK.2 ⟨rfl, rfl⟩
 unfold Uy
 rcases V6 (sameAt g (g i)) N with ⟨_, hn⟩ | ⟨f, hf, ef, pf, hb⟩
 ·rw [hn i hi] at hself; cases hself
 rcases V6 (sameAt (QN N g) (g i)) N with ⟨_, hn⟩ | ⟨l, hl, el, pl, hb'⟩
 ·have := hn (N - 1 - i) (by omega)
  have e : sameAt (QN N g) (g i) (N - 1 - i) = sameAt g (g i) i := by unfold sameAt QN; congr 1; congr 1; omega
  rw [e, hself] at this; cases this
 have er : ∀ q, q < N → sameAt (QN N g) (g i) q = sameAt g (g i) (N - 1 - q) := fun q _ => rfl
 rw [er l hl] at pl
 rw [ef, el, bne_iff_ne]
 have hfi : f ≤ i := by
  rcases Nat.lt_or_ge i f with h | h
  ·rw [hb i h] at hself; cases hself
  ·exact h
 have hli : i ≤ N - 1 - l := by
  rcases Nat.lt_or_ge (N - 1 - i) l with h | h
  ·have := hb' _ h
   rw [er _ (by omega), show N - 1 - (N - 1 - i) = i by omega, hself] at this; cases this
  ·omega
 constructor
 ·intro h
  rcases Nat.lt_or_ge f i with h1 | h1
  ·exact ⟨f, hf, by omega, pf⟩
  ·exact ⟨N - 1 - l, by omega, by omega, pl⟩
 ·rintro ⟨j, hj, hne, pj⟩ h
  rcases Nat.lt_or_ge j f with h1 | h1
  ·rw [hb j h1] at pj; cases pj
  ·have := hb' (N - 1 - j) (by omega)
   rw [er _ (by omega), show N - 1 - (N - 1 - j) = j by omega, pj] at this; cases this
theorem Z4j {t : TxS} (h : ∀ j, j < t.M → ZL (t.outs j) = true) : allIn 1125899906842624 (amL t.outs t.M) = true := by
 unfold allIn
 rw [Bool.not_eq_true', List.any_eq_false]
 intro j hj
 have hj : j < t.M := by simpa [Z0g] using hj
 have := (Xe (h j hj)).2.1
 have e : (amL t.outs t.M).getD j 0 = (t.outs j).amount := by simp [amL, List.getD_eq_getElem?_getD, hj]
 unfold Yb
 rw [e]
 unfold W1
 simp
 omega
theorem Z0Y (t : TxS) : Z2W t = Y6 ZS t := by
 rw [Bool.eq_iff_iff]
 unfold Z2W Y6
 simp only [Bool.and_eq_true, decide_eq_true_eq, List.all_eq_true, List.mem_range, Bool.not_eq_true', List.any_eq_false, beq_iff_eq]
 constructor
 ·rintro ⟨⟨⟨⟨⟨h1, h2⟩, h3⟩, h4⟩, h5⟩, h6⟩
  refine ⟨⟨⟨⟨⟨h1, h2⟩, h3⟩, fun i hi => ?_⟩, fun i hi => ?_⟩, ?_⟩
  ·have h := h4 i hi
   unfold okI at h
   simp only [Bool.and_eq_true, Bool.not_eq_true', List.any_eq_false, List.mem_range] at h
   unfold YM U1
   rw [h.1, Bool.not_true, Bool.false_or]
   intro hq
   obtain ⟨j, hj, hne, hs⟩ := (Z2X hi).1 hq
   rcases Nat.lt_or_gt_of_ne hne with h0 | h0
   ·exact h.2 j h0 hs
   ·have h' := h4 j hj
    unfold okI at h'
    simp only [Bool.and_eq_true, Bool.not_eq_true', List.any_eq_false, List.mem_range] at h'
    refine h'.2 i h0 ?_
    rw [WK] at hs ⊢
    exact ⟨hs.1.symm, hs.2.symm⟩
  ·unfold Yu QO
   rw [h5 i hi]
   decide
  ·unfold ZS
   unfold Zh6 at h6; rw [if_pos (Z4j h5), if_pos h6]
 ·rintro ⟨⟨⟨⟨⟨h1, h2⟩, h3⟩, h4⟩, h5⟩, h6⟩
  have h5' : ∀ j, j < t.M → ZL (t.outs j) = true := fun j hj => by
   have := h5 j hj
   unfold Yu QO at this
   simpa using this
  refine ⟨⟨⟨⟨⟨h1, h2⟩, h3⟩, fun i hi => ?_⟩, h5'⟩, ?_⟩
  ·have h := h4 i hi
   unfold YM U1 at h
   simp only [Bool.or_eq_true, not_or, Bool.not_eq_true', Bool.not_eq_false, Bool.not_eq_true] at h
   unfold okI
   rw [h.1, Bool.true_and]
   simp only [Bool.not_eq_true', List.any_eq_false, List.mem_range]
   intro j hj hs
   have := (Z2X hi).2 ⟨j, by omega, by omega, hs⟩
   rw [h.2] at this; cases this
  ·unfold ZS at h6
   rw [if_pos (Z4j h5')] at h6
   split at h6
   ·assumption
   ·cases h6
end Go.Tk
end
section
namespace Go.Tk
open IntKind (i64 u8 u32 u64 wrap)
end Go.Tk
end
section
namespace Go.Tk
open IntKind (i64 u8 u32 u64 wrap)
end Go.Tk
end
section
namespace Go.Tk
open IntKind (i64 u8 u32 u64 wrap)
theorem Zcs {n : Nat} {xs : List Int} (h : xs.length = n) (hw : ∀ i, i < n → (Lit.int .u8 (xs.getD i 0)).wf = true) : Bytes xs := ⟨fun i => by
 by_cases hi : i < n
 ·have := hw i hi
  simp [Lit.wf] at this
  have m1 : u8.min = 0 := rfl
  have m2 : u8.max = 255 := rfl
  simp
  omega
 ·rw [List.getD_eq_getElem?_getD, List.getElem?_eq_none (by omega)]; simp⟩
theorem pick {α : Type} [Inhabited α] {n : Nat} {p : Nat → α → Prop} (h : ∀ i, i < n → ∃ a, p i a) : ∃ f : Nat → α, ∀ i, i < n → p i (f i) :=
 ⟨fun i => if hi : i < n then Classical.choose (h i hi) else default, fun i hi => by
  simp only [hi, dite_true]
  exact Classical.choose_spec (h i hi)⟩
instance : Inhabited InS := ⟨inZ⟩
instance : Inhabited Zs := ⟨Zkl⟩
theorem Zk.conv {P : Program} {f : FuncId} {us bs : List AV} {h : Z7} {K : KO} (hc : Zk P f bs h K) (hr : ∀ E rs, ZG E us rs → ZG E bs rs) : Zk P f us h K :=
 fun E w rs he hl => hc E w rs he (hr E rs hl)
end Go.Tk
end
section
namespace Go.Tk
open IntKind (i64 u8 u32 u64 wrap)
end Go.Tk
end
section
namespace Go.Tk
open IntKind (i64 u8 u32 u64 wrap)
def V8 (a b c : Int) : Nat → Int
 | 0 => 0
 | i + 1 => if 2 ≤ u32.wrap (u32.wrap (Int.tmod (ZA .u32 a i) 2 + Int.tmod (ZA .u32 b i) 2) + Int.tmod (ZA .u32 c i) 2) then u32.wrap (V8 a b c i + ZM .u32 1 i) else V8 a b c i
def VH (a b c : Int) : Nat → Int
 | 0 => 0
 | i + 1 => u32.wrap (VH a b c i + ZM .u32 (if Int.tmod (ZA .u32 a i) 2 = 1 then Int.tmod (ZA .u32 b i) 2 else Int.tmod (ZA .u32 c i) 2) i)
def moS (a b c : Int) (o : Int) (i : Nat) : St := ⟨33, [(8, .int .u64 i), (0, .int .u32 a), (1, .int .u32 b), (2, .int .u32 c), (7, .int .u32 o)], ⟨0, []⟩, []⟩
def moR (o : Int) : St := ⟨33, [(7, .int .u32 o)], ⟨0, []⟩, []⟩
theorem Zg3 {x : Int} (h : 0 ≤ x ∧ x < 18446744073709551616) : u64.wrap x = x := by
 unfold wrap
 simp [IntKind.bits, IntKind.signed]
 omega
theorem Zh7 (a b c o o' : Int) (i : Nat) (Z1 Z2 : Prop) (hi : i ≤ 32) (ho : o' = if 2 ≤ u32.wrap (u32.wrap (Int.tmod (ZA .u32 a i) 2 + Int.tmod (ZA .u32 b i) 2) + Int.tmod (ZA .u32 c i) 2) then u32.wrap (o + ZM .u32 1 i) else o) (h1 : i < 32 → Z1) (h2 : i = 32 → Z2) :
  ZF G0 20 176 0 0 (moS a b c o i) (rdM 0 0 9 (moS a b c o' (i + 1)) (moR o) (moR o) (moR o) Z1 Z2 False False) := by
 refine @Eq.mpr _ (let q1 := decide (wrap u64 ((↑i : Int) + 1) = (↑(i + 1) : Int));
 let q2 := decide (a = a);
 let q3 := decide (b = b);
 let q4 := decide (c = c);
 Z0 (decide ((↑i : Int) < 32)) (Z0 (decide (wrap u32 (wrap u32 (Int.tmod (ZA u32 a (↑i : Int)) 2 + Int.tmod (ZA u32 b (↑i : Int)) 2) + Int.tmod (ZA u32 c (↑i : Int)) 2) ≥ 2)) (Z0 q1 (Z0 q2 (Z0 q3 (Z0 q4 (Z0 (decide (wrap u32 (o + ZM u32 1 (↑i : Int)) = o')) Z1 False) False) False) False) False) (Z0 q1 (Z0 q2 (Z0 q3 (Z0 q4 (Z0 (decide (o = o')) Z1 False) False) False) False) False)) (Z0 (decide (o = o)) Z2 False)) (by kernel_rfl) ?_
 conv => zeta
 try simp only [Zg]
 try simp only [Zl]
 try simp only [Zh]
 try simp only [Zm]
 try simp only [Zn]
 try simp only [Zf]
 try simp only [Int.toNat_natCast, Nat.zero_add, true_and, and_true, Nat.le_refl]
 have hw : u64.wrap ((i : Int) + 1) = ((i + 1 : Nat) : Int) := Zg3 (by omega)
 refine ⟨fun hlt => ⟨fun hc => ?_, fun hc => ?_⟩, fun hge => h2 (by omega)⟩
 ·rw [if_pos hc] at ho
  exact ⟨hw, ho.symm, h1 (by omega)⟩
 ·rw [if_neg hc] at ho
  exact ⟨hw, ho.symm, h1 (by omega)⟩
theorem Zh8 (a b c o o' : Int) (i : Nat) (Z1 Z2 : Prop) (hi : i ≤ 32) (ho : o' = u32.wrap (o + ZM .u32 (if Int.tmod (ZA .u32 a i) 2 = 1 then Int.tmod (ZA .u32 b i) 2 else Int.tmod (ZA .u32 c i) 2) i)) (h1 : i < 32 → Z1) (h2 : i = 32 → Z2) :
  ZF G0 20 175 0 0 (moS a b c o i) (rdM 0 0 9 (moS a b c o' (i + 1)) (moR o) (moR o) (moR o) Z1 Z2 False False) := by
 refine @Eq.mpr _ (let q1 := decide (wrap u64 ((↑i : Int) + 1) = (↑(i + 1) : Int));
 let q2 := decide (a = a);
 let q3 := decide (b = b);
 let q4 := decide (c = c);
 Z0 (decide ((↑i : Int) < 32)) (Z0 (Int.tmod (ZA u32 a (↑i : Int)) 2 == 1) (Z0 q1 (Z0 q2 (Z0 q3 (Z0 q4 (Z0 (decide (wrap u32 (o + ZM u32 (Int.tmod (ZA u32 b (↑i : Int)) 2) (↑i : Int)) = o')) Z1 False) False) False) False) False) (Z0 q1 (Z0 q2 (Z0 q3 (Z0 q4 (Z0 (decide (wrap u32 (o + ZM u32 (Int.tmod (ZA u32 c (↑i : Int)) 2) (↑i : Int)) = o')) Z1 False) False) False) False) False)) (Z0 (decide (o = o)) Z2 False)) (by kernel_rfl) ?_
 conv => zeta
 try simp only [Zg]
 try simp only [Zl]
 try simp only [Zh]
 try simp only [Zm]
 try simp only [Zn]
 try simp only [Zf]
 try simp only [Int.toNat_natCast, Nat.zero_add, true_and, and_true, Nat.le_refl]
 have hw : u64.wrap ((i : Int) + 1) = ((i + 1 : Nat) : Int) := Zg3 (by omega)
 refine ⟨fun hlt => ⟨fun hc => ?_, fun hc => ?_⟩, fun hge => h2 (by omega)⟩
 ·rw [if_pos (by simpa using hc)] at ho
  exact ⟨hw, ho.symm, h1 (by omega)⟩
 ·rw [if_neg (by simpa using hc)] at ho
  exact ⟨hw, ho.symm, h1 (by omega)⟩
@[irreducible] def Xs (a b c : Int) : Int := V8 a b c 32
@[irreducible] def Xm (a b c : Int) : Int := VH a b c 32
noncomputable def Zh9 (a b c : Int) : Zd := G0.withL 176 0 (goM 0 (moS a b c 0 0) True (Ym 0 32 9 (fun i => i < 32) (fun i => i = 32) (fun _ => False) (fun _ => False) (fun i => moR (V8 a b c i)) (fun i => moR (V8 a b c i)) (fun i => moR (V8 a b c i))))
theorem ZeI (a b c : Int) : (Zh9 a b c).Ok := by
 unfold Zh9
 refine Zd.withGoM (N := 20) (S := fun i => moS a b c (V8 a b c i) i) Zu (by kernel_rfl) fun hC => ⟨rfl, fun i hi hgo => ?_⟩
 exact Zh7 a b c (V8 a b c i) (V8 a b c (i + 1)) i _ _ hi rfl (fun h => ⟨h, h⟩) (fun h => h)
noncomputable def Zha (a b c : Int) : Zd := G0.withL 175 0 (goM 0 (moS a b c 0 0) True (Ym 0 32 9 (fun i => i < 32) (fun i => i = 32) (fun _ => False) (fun _ => False) (fun i => moR (VH a b c i)) (fun i => moR (VH a b c i)) (fun i => moR (VH a b c i))))
theorem ZeJ (a b c : Int) : (Zha a b c).Ok := by
 unfold Zha
 refine Zd.withGoM (N := 20) (S := fun i => moS a b c (VH a b c i) i) Zu (by kernel_rfl) fun hC => ⟨rfl, fun i hi hgo => ?_⟩
 exact Zh8 a b c (VH a b c i) (VH a b c (i + 1)) i _ _ hi rfl (fun h => ⟨h, h⟩) (fun h => h)
theorem Zhb (a b c : Int) (o : Int) (ho : o = V8 a b c 32) :
  evF (Zh9 a b c) 20 176 [.int .u32 a, .int .u32 b, .int .u32 c] ⟨0, []⟩ (Yq 0 [] (.int .u32 o) 0 []) := by
 refine @Eq.mpr _ (Z0 (decide (a = a)) (Z0 (decide (b = b)) (Z0 (decide (c = c)) (True ∧ ∀ (i : Nat), i ≤ 32 → (∀ (j : Nat), j < i → (fun (i : Nat) => i < 32) j) → (i = 32 → Z0 (decide (V8 a b c i = o)) True False) ∧ (False → False) ∧ (False → False)) False) False) False) (by kernel_rfl) ?_
 try simp only [Zg]
 try simp only [Zl]
 try simp only [Zh]
 try simp only [Zm]
 try simp only [Zn]
 try simp only [Zf]
 try simp only [Int.toNat_natCast, Nat.zero_add, true_and, and_true, Nat.le_refl]
 subst ho
 exact fun i hi _ => ⟨fun he => by subst he; rfl, fun h => h, fun h => h⟩
theorem Zhc (a b c : Int) (o : Int) (ho : o = VH a b c 32) :
  evF (Zha a b c) 20 175 [.int .u32 a, .int .u32 b, .int .u32 c] ⟨0, []⟩ (Yq 0 [] (.int .u32 o) 0 []) := by
 refine @Eq.mpr _ (Z0 (decide (a = a)) (Z0 (decide (b = b)) (Z0 (decide (c = c)) (True ∧ ∀ (i : Nat), i ≤ 32 → (∀ (j : Nat), j < i → (fun (i : Nat) => i < 32) j) → (i = 32 → Z0 (decide (VH a b c i = o)) True False) ∧ (False → False) ∧ (False → False)) False) False) False) (by kernel_rfl) ?_
 try simp only [Zg]
 try simp only [Zl]
 try simp only [Zh]
 try simp only [Zm]
 try simp only [Zn]
 try simp only [Zf]
 try simp only [Int.toNat_natCast, Nat.zero_add, true_and, and_true, Nat.le_refl]
 subst ho
 exact fun i hi _ => ⟨fun he => by subst he; rfl, fun h => h, fun h => h⟩
def Z1J (F : Int → Int → Int → Int) : ZW := fun args _ K => match args with
 | [.int .u32 a, .int .u32 b, .int .u32 c] => K (.int .u32 (F a b c))
 | _ => False
theorem Z2Y {f : FuncId} {F : Int → Int → Int → Int} (hp : ∀ a b c, ZB PP f [.int .u32 a, .int .u32 b, .int .u32 c] (.int .u32 (F a b c)) 0 []) (args : List AV) (h : Z7) (K : AV → Prop) (hl : Z1J F args h K) : Zk PP f args h fun o h' => ∃ v, o = .ret v ∧ h' = h ∧ K v := by
 unfold Z1J at hl
 split at hl
 ·rename_i a b c
  refine Vy (d := 20) (K0 := fun l => l = [.int .u32 a, .int .u32 b, .int .u32 c]) ?_ fun l e => ⟨_, by rw [e]; exact hp a b c, fun _ => rfl, hl⟩
  rfl
 ·exact hl.elim
end Go.Tk
end
