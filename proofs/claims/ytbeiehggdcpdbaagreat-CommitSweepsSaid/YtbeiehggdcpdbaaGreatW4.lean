/- W: part 4 of an engine (a symbolic evaluator, proved against the model) and of the walk by it. -/
import Derived.Test.YtbeiehggdcpdbaaGreatW3
import Derived.OpenShut
import Derived.WideShapes
import Derived.ChangeSlices
import Derived.WalkKit
import Derived.ProofKit
import Derived.Below
import Derived.Handed
import Derived.Carry
set_option linter.unusedVariables false
set_option linter.unusedSimpArgs false
set_option maxRecDepth 100000
set_option maxHeartbeats 0
section
namespace Go.Tk
open IntKind (i64 u8 u32 u64 wrap)
def Spec (P : Program) (f : FuncId) (args : List AV) (h0 : Z7) (o : Out) (nx : Nat) (bs : List (Nat × Blk)) : Prop :=
 ∀ (E : Env) (w : World) (rs : List Value), Emb E h0 w → ZD E args rs → Calls P f rs.toArray w fun e w' => ∃ E', Evo E h0 w E' ⟨nx, bs⟩ w' ∧ Q0 E' o e
theorem Z4m {k : Nat} {τ : Ren} {v u : AV} {nx : Nat} {bs : List (Nat × Blk)} {h0 h : Z7} (hk : k = h0.next) (hl : ZQ k τ ⟨1, [(0, v)], ⟨nx, bs⟩, []⟩ ⟨1, [(0, u)], h, []⟩ True) {E0 E : Env} {w0 w : World} {r : Value}
  (he0 : Emb E0 h0 w0) (hev : Evo E0 h0 w0 E h w) (hr : Zb E u r) : ∃ E', Evo E0 h0 w0 E' ⟨nx, bs⟩ w ∧ Zb E' v r := by
 obtain ⟨_, hw⟩ := ZY hl
 have hs : WP E ⟨1, [(0, u)], h, []⟩ { tmps := #[r], defers := [] } w := by
  refine ⟨hev.emb, ⟨rfl, fun x v' hx => ?_⟩, .nil⟩
  simp only [ZN] at hx
  split at hx
  ·rename_i hb
   have := Nat.eq_of_beq_eq_true hb
   subst this
   cases hx
   exact hr
  ·cases hx
 obtain ⟨E₂, hs2, hev2⟩ := hw E0 h0 w0 E _ w (fun x hx => he0.fresh x (hk ▸ hx)) hs hev
 refine ⟨E₂, hev2, ?_⟩
 have := hs2.tmps.get 0 v (by simp [ZN])
 simpa using this
def mvN : List Nat → Nat → Nat → Nat
 | [], d, y => d + y
 | x :: _, _, 0 => x
 | _ :: r, d, y + 1 => mvN r d y
theorem Z6X : ∀ {σ : List Nat} {d y x : Nat}, X3 σ y = some x → mvN σ d y = x
 | [], _, _, _, h => by simp [X3] at h
 | x :: r, d, 0, _, h => by simpa [X3, mvN] using h
 | x :: r, d, y + 1, _, h => Z6X (σ := r) h
theorem Z6Y : ∀ {σ : List Nat} {d y : Nat}, σ.length ≤ y → mvN σ d y = d + (y - σ.length)
 | [], d, y, _ => by simp [mvN]
 | x :: r, d, 0, h => by simp at h
 | x :: r, d, y + 1, h => by
  simp at h
  have := Z6Y (σ := r) (d := d) h
  simp [mvN, this]
theorem Qf : ∀ {σ : List Nat} {y : Nat}, y < σ.length → ∃ x, X3 σ y = some x
 | [], _, h => by simp at h
 | x :: r, 0, _ => ⟨x, rfl⟩
 | x :: r, y + 1, h => Qf (σ := r) (by simpa using h)
mutual
/-- Names moved. -/
def mvV (σ : List Nat) (d : Nat) : AV → Option AV
 | .top => some .top
 | .bool b => some (.bool b)
 | .int k n => some (.int k n)
 | .str s => some (.str s)
 | .ptr none => some (.ptr none)
 | .ptr (some p) => some (.ptr (some ⟨mvN σ d p.blk, p.row, p.sz, p.off, p.inn⟩))
 | .nslice p esz len lo => some (.nslice ⟨mvN σ d p.blk, p.row, p.sz, p.off, p.inn⟩ esz len lo)
 | .eslice => some .eslice
 | .fslice => some .fslice
 | .nilslice => some .nilslice
 | .map none => some (.map none)
 | .map (some x) => some (.map (some (mvN σ d x)))
 | .nilFunc => some .nilFunc
 | .nilIface => some .nilIface
 | .func (.func g) fs cs => match mvL σ d fs, mvL σ d cs with
  | some fs', some cs' => some (.func (.func g) fs' cs')
  | _, _ => none
 | .iface t v => match mvV σ d v with | some v' => some (.iface t v') | none => none
 | .agg cs => match mvC σ d cs with | some cs' => some (.agg cs') | none => none
 | .tuple vs => match mvL σ d vs with | some vs' => some (.tuple vs') | none => none
 | _ => none
def mvC (σ : List Nat) (d : Nat) : List AV → Option (List AV)
 | [] => some []
 | .arr k n xs :: r => match mvC σ d r with | some r' => some (.arr k n xs :: r') | none => none
 | v :: r => match mvV σ d v, mvC σ d r with
  | some v', some r' => match v'.isCell with | true => some (v' :: r') | false => none
  | _, _ => none
def mvL (σ : List Nat) (d : Nat) : List AV → Option (List AV)
 | [] => some []
 | v :: r => match mvV σ d v, mvL σ d r with
  | some v', some r' => some (v' :: r')
  | _, _ => none
end
theorem Un {v : AV} (h : v.isCell = true) (r : List AV) : csz (v :: r) = 1 + csz r := by
 cases v <;> simp_all [AV.isCell, csz]
set_option maxHeartbeats 1000000 in
mutual
theorem Z2d {σ : List Nat} {d : Nat} {E E' : Env} (hb : ∀ x r, E.blk x = some r → E'.blk (mvN σ d x) = some r) : ∀ (v v' : AV) (r : Value), mvV σ d v = some v' → Zb E v r → Zb E' v' r := by
 intro v v' r h hv
 unfold mvV at h
 split at h
 ·cases h; exact .top r
 ·cases h; exact hv.plain rfl
 ·cases h; exact hv.plain rfl
 ·cases h; exact hv.plain rfl
 ·cases h; exact hv.plain rfl
 ·cases h
  cases hv with
  | ptr p b N hq => exact .ptr ⟨mvN σ d _, _, _, _, _⟩ b N (hb _ _ hq)
 ·cases h
  cases hv with
  | nslice0 p esz len lo a h1 h2 => exact .nslice0 _ _ _ _ a h1 h2
  | nslice p esz len lo b N cap hq h1 h2 h3 => exact .nslice ⟨mvN σ d _, _, _, _, _⟩ _ _ _ b N cap (hb _ _ hq) h1 h2 h3
 ·cases h; exact hv.plain rfl
 ·cases h; exact hv.plain rfl
 ·cases h; exact hv.plain rfl
 ·cases h; exact hv.plain rfl
 ·cases h
  cases hv with
  | map x b N hq => exact .map _ b N (hb _ _ hq)
 ·cases h; exact hv.plain rfl
 ·cases h; exact hv.plain rfl
 ·split at h
  ·rename_i fs' cs' h1 h2
   cases h
   cases hv with
   | func fn first captured fs cs ha hc => exact .func _ _ _ _ _ (Z4o hb _ _ _ h1 ha) (Z4o hb _ _ _ h2 hc)
  ·cases h
 ·split at h
  ·rename_i v1 h1
   cases h
   cases hv with
   | iface t v x hx => exact .iface _ _ _ (Z2d hb _ _ _ h1 hx)
  ·cases h
 ·split at h
  ·rename_i cs' h1
   cases h
   cases hv with
   | agg cs vs hc => exact .agg _ _ (Z4n hb _ _ _ h1 hc).1
  ·cases h
 ·split at h
  ·rename_i vs' h1
   cases h
   cases hv with
   | tuple vs rs hc => exact .tuple _ _ (Z4o hb _ _ _ h1 hc)
  ·cases h
 ·cases h
theorem Z4n {σ : List Nat} {d : Nat} {E E' : Env} (hb : ∀ x r, E.blk x = some r → E'.blk (mvN σ d x) = some r) : ∀ (l l' : List AV) (r : List Value), mvC σ d l = some l' → Zu E l r → Zu E' l' r ∧ csz l' = csz l := by
 intro l l' r h hv
 unfold mvC at h
 split at h
 ·cases h; cases hv; exact ⟨.nil, rfl⟩
 ·split at h
  ·rename_i r' h1
   cases h
   obtain ⟨ws, rfl, ht⟩ := Zu.cons_arr hv
   have := Z4n hb _ _ _ h1 ht
   exact ⟨.arr _ _ _ _ _ this.1, by simp [csz, this.2]⟩
  ·cases h
 ·rename_i v r2 hna
  split at h
  ·rename_i v1 r1 h1 h2
   split at h
   ·rename_i hcell
    cases h
    obtain ⟨c, ws, rfl, q1, q2, q3, q4⟩ := Zu.cons_cell hv (fun k m xs e => hna k m xs e)
    have := Z4n hb _ _ _ h2 q4
    exact ⟨.one _ _ _ _ hcell q2 (Z2d hb _ _ _ h1 q3) this.1, by rw [Un hcell, Un q1, this.2]⟩
   ·cases h
  ·cases h
theorem Z4o {σ : List Nat} {d : Nat} {E E' : Env} (hb : ∀ x r, E.blk x = some r → E'.blk (mvN σ d x) = some r) : ∀ (l l' : List AV) (r : List Value), mvL σ d l = some l' → ZD E l r → ZD E' l' r := by
 intro l l' r h hv
 unfold mvL at h
 split at h
 ·cases h; cases hv; exact .nil
 ·split at h
  ·rename_i v1 r1 h1 h2
   cases h
   cases hv with
   | cons v c vs cs ha hc => exact .cons _ _ _ _ (Z2d hb _ _ _ h1 ha) (Z4o hb _ _ _ h2 hc)
  ·cases h
end
theorem Zda {σ : List Nat} {d : Nat} : ∀ (l l' : List AV), mvC σ d l = some l' → csz l' = csz l := by
 intro l
 induction l with
 | nil => intro l' h; unfold mvC at h; cases h; rfl
 | cons v r ih =>
  intro l' h
  unfold mvC at h
  split at h
  ·rename_i hq; cases hq
  ·rename_i hq
   cases hq
   split at h
   ·rename_i r' h1
    cases h
    simp [csz, ih _ h1]
   ·cases h
  ·rename_i hna hq
   cases hq
   split at h
   ·rename_i v1 r1 h1 h2
    split at h
    ·rename_i hcell
     cases h
     have hv : v.isCell = true ∨ v.isCell = false := by cases v.isCell <;> simp
     rcases hv with hv | hv
     ·rw [Un hcell, Un hv, ih _ h2]
     ·cases v with
      | arr k n xs => exact absurd rfl (hna k n xs)
      | agg cs => unfold mvV at h1; split at h1 <;> cases h1; simp [AV.isCell] at hcell
      | tuple cs => unfold mvV at h1; split at h1 <;> cases h1; simp [AV.isCell] at hcell
      | _ => simp [AV.isCell] at hv
    ·cases h
   ·cases h
inductive MvB (σ : List Nat) (d : Nat) : Blk → Blk → Prop
 | ints (k : IntKind) (xs : List Int) : MvB σ d (.ints k xs) (.ints k xs)
 | flat (cs cs' : List AV) (h : mvC σ d cs = some cs') : MvB σ d (.flat cs) (.flat cs')
 | rows (sz n : Nat) (f : Nat → List AV) (h : ∀ i, i < n → plainC (f i) = true) : MvB σ d (.rows sz n f) (.rows sz n f)
inductive Z6Z (σ : List Nat) (d : Nat) : List (Nat × Blk) → List (Nat × Blk) → Prop
 | nil : Z6Z σ d [] []
 | cons (y x : Nat) (B B' : Blk) (r r' : List (Nat × Blk)) (hx : mvN σ d y = x) (h : MvB σ d B B') (t : Z6Z σ d r r') : Z6Z σ d ((y, B) :: r) ((x, B') :: r')
inductive MvO (σ : List Nat) (d : Nat) : Out → Out → Prop
 | ret (v v' : AV) (h : mvV σ d v = some v') : MvO σ d (.ret v) (.ret v')
 | panic (v v' : AV) (h : mvV σ d v = some v') : MvO σ d (.panic v) (.panic v')
theorem Z6Z.get {σ : List Nat} {d : Nat} : ∀ {bs bs' : List (Nat × Blk)}, Z6Z σ d bs bs' → ∀ x B', ZK bs' x = some B' → ∃ y B, mvN σ d y = x ∧ ZK bs y = some B ∧ MvB σ d B B'
 | _, _, .nil, x, B', h => by simp [ZK] at h
 | _, _, .cons y x0 B B0 r r' hx hm t, x, B', h => by
  unfold ZK at h
  split at h
  ·rename_i hb
   have := Nat.eq_of_beq_eq_true hb
   cases h
   exact ⟨y, B, hx.trans this, by simp [ZK, Nat.beq_refl], hm⟩
  ·rename_i hb
   obtain ⟨z, C, h1, h2, h3⟩ := t.get x B' h
   refine ⟨z, C, h1, ?_, h3⟩
   have hne : y ≠ z := fun e => by subst e; rw [hx] at h1; subst h1; simp [Nat.beq_refl] at hb
   simp [ZK, Zo hne, h2]
theorem MvB.move {σ : List Nat} {d : Nat} {B B' : Blk} (hm : MvB σ d B B') {E E' : Env} {w : World} {y : Nat} (hb : ∀ x r, E.blk x = some r → E'.blk (mvN σ d x) = some r) (hn : E.blk y = none → E'.blk (mvN σ d y) = none) (h : Yq E w y B) : Yq E' w (mvN σ d y) B' := by
 cases hm with
 | ints k xs => cases h with
  | ints0 k xs h0 hq => exact .ints0 _ _ h0 (hn hq)
  | ints k xs b cells elem fr hq hw hf hv => exact .ints _ _ b cells elem fr (hb _ _ hq) hw hf hv
 | flat cs cs' hc => cases h with
  | flat0 cs h0 hq => exact .flat0 _ ((Zda _ _ hc).trans h0) (hn hq)
  | flat cs b cells elem fr vs hq hw hf hcr hv => exact .flat _ b cells elem fr vs (hb _ _ hq) hw hf (Z4n hb _ _ _ hc hcr).1 hv
 | rows sz n f hp => cases h with
  | rows0 sz n f h0 hq => exact .rows0 _ _ _ h0 (hn hq)
  | rows sz n f b cells elem fr g hq hw hf hcr hl hv => exact .rows _ _ _ b cells elem fr g (hb _ _ hq) hw hf (fun i hi => (hcr i hi).plain (hp i hi)) hl hv
def Uo (σ : List Nat) (bs : List (Nat × Blk)) : List (Nat × Blk) := match σ with
 | [] => bs
 | x :: r => Uo r (Xb bs x)
theorem Z0B : ∀ {σ : List Nat} {bs : List (Nat × Blk)} {x : Nat} {B : Blk}, ZK (Uo σ bs) x = some B → ZK bs x = some B ∧ x ∉ σ
 | [], bs, x, B, h => ⟨h, by simp⟩
 | y :: r, bs, x, B, h => by
  obtain ⟨h1, h2⟩ := Z0B (σ := r) h
  by_cases hn : y = x
  ·subst hn; rw [UE] at h1; cases h1
  ·rw [Wd _ _ _ hn] at h1
   exact ⟨h1, by simp [h2, Ne.symm hn]⟩
theorem Spec.calls {P : Program} {f : FuncId} {args₀ args : List AV} {σ : List Nat} {Bs : List Blk} {o o' : Out} {nx : Nat} {bs bs' : List (Nat × Blk)} {h : Z7} {K : KO} (hc : Spec P f args₀ ⟨σ.length, XY 0 σ Bs⟩ o nx bs)
  (hlen : Bs.length = σ.length) (hm : ∀ x, x ∈ σ → ∃ B, h.get x = some B) (hd : Z0A σ = true)
  (hx : ∀ (i x : Nat) (B : Blk), X3 σ i = some x → Bs[i]? = some B → ∃ B', h.get x = some B' ∧ ∀ (E : Env) (w : World), Emb E h w → Yq E w x B' → Yq (E.borL σ w true) w i B)
  (ha : ∀ (E : Env) (w : World) (r : List Value), Emb E h w → ZD E args r → ZD (E.borL σ w true) args₀ r)
  (hnx : σ.length ≤ nx) (ho : MvO σ h.next o o') (hb : Z6Z σ h.next bs bs') (hK : K o' ⟨h.next + (nx - σ.length), VV bs' (Uo σ h.bs)⟩) : Zh P f args h K := by
 intro E w rs he hr
 let E0 := E.borL σ w true
 have hsub : ∀ i x, X3 σ i = some x → E0.blk i = E.blk x := fun i x hi => by
  show (match X3 σ i with | some x => E.blk x | none => none) = _
  rw [hi]
 have hnone : ∀ i, σ.length ≤ i → E0.blk i = none := fun i hi => by
  show (match X3 σ i with | some x => E.blk x | none => none) = _
  rw [Z83 hi]
 have hσlt : ∀ x, x ∈ σ → x < h.next := fun x hx => let ⟨B, hB⟩ := hm x hx; he.lt x B hB
 have hsb : ∀ y B, ZK (XY 0 σ Bs) y = some B → ∃ x, X3 σ y = some x ∧ Bs[y]? = some B := fun y B hy => by
  obtain ⟨i, x, rfl, h1, h2⟩ := Xx σ Bs 0 y B hy
  rw [Nat.zero_add]
  exact ⟨x, by rw [Z2c]; exact h1, h2⟩
 have hinj : ∀ y z x, X3 σ y = some x → X3 σ z = some x → y = z := fun y z x h1 h2 => by
  have a := VY hd y x h1
  have b := VY hd z x h2
  rw [a] at b
  cases b
  rfl
 have hemb : Emb E0 ⟨σ.length, XY 0 σ Bs⟩ w := by
  refine ⟨hnone, ?_, ?_, ?_, fun _ _ h => h.1, ?_⟩
  ·intro y B hy
   obtain ⟨x, h1, _⟩ := hsb y B hy
   exact Z82 h1
  ·intro y B hy
   obtain ⟨x, h1, h2⟩ := hsb y B hy
   obtain ⟨B', hB', hq⟩ := hx y x B h1 h2
   exact hq E w he (he.own x B' hB')
  ·intro y z B C b N N' hy hz hby hbz
   obtain ⟨x, h1, h2⟩ := hsb y B hy
   obtain ⟨x', h3, h4⟩ := hsb z C hz
   rw [hsub y x h1] at hby
   rw [hsub z x' h3] at hbz
   obtain ⟨B', hB'⟩ := hm x (Xn h1)
   obtain ⟨C', hC'⟩ := hm x' (Xn h3)
   have := he.disj x x' B' C' b N N' hB' hC' hby hbz
   subst this
   exact hinj y z x h1 h3
  ·intro a c y B N hi hy hbb
   obtain ⟨x, h1, _⟩ := hsb y B hy
   rw [hsub y x h1] at hbb
   exact hi.2 x (Xn h1) N hbb
 refine (hc E0 w rs hemb (ha E w rs he hr)).mono ?_
 rintro e w' ⟨E₁, hev, hor⟩
 let E' : Env := ⟨fun x => match Xd σ x with
  | some i => E₁.blk i
  | none => if x < h.next then E.blk x else E₁.blk (x - h.next + σ.length), E.imm⟩
 have hρ : ∀ y, E'.blk (mvN σ h.next y) = E₁.blk y := fun y => by
  rcases Nat.lt_or_ge y σ.length with hlt | hge
  ·obtain ⟨x, hx'⟩ := Qf hlt
   rw [Z6X hx']
   show (match Xd σ x with | some i => _ | none => _) = _
   rw [VY hd y x hx']
  ·rw [Z6Y hge]
   have hn : Xd σ (h.next + (y - σ.length)) = none := by
    cases hq : Xd σ (h.next + (y - σ.length)) with
    | none => rfl
    | some i => have := hσlt _ (Xn (V8 hq)); omega
   show (match Xd σ _ with | some i => _ | none => _) = _
   rw [hn]
   show (if _ then _ else _) = _
   rw [if_neg (by omega)]
   congr 1
   omega
 have hold : ∀ x, x < h.next → Xd σ x = none → E'.blk x = E.blk x := fun x hx hn => by
  show (match Xd σ x with | some i => _ | none => _) = _
  rw [hn]
  exact if_pos hx
 have hfresh : ∀ x, E.blk x ≠ none → x < h.next := fun x hx => by
  rcases Nat.lt_or_ge x h.next with hl | hg
  ·exact hl
  ·exact absurd (he.fresh x hg) hx
 have hle : E.le E' := ⟨fun x q hq => by
  cases hi : Xd σ x with
  | some i =>
   show (match Xd σ x with | some i => _ | none => _) = _
   rw [hi]
   exact hev.le.blk i q ((hsub i x (V8 hi)).trans hq)
  | none => rw [hold x (hfresh x (by rw [hq]; simp)) hi]; exact hq, fun _ _ h => h⟩
 have hown0 : ∀ b, Wu E0 ⟨σ.length, XY 0 σ Bs⟩ b → ∃ x N, x ∈ σ ∧ E.blk x = some (b, N) := fun b ⟨y, B, N, hy, hbb⟩ => by
  obtain ⟨x, h1, _⟩ := hsb y B hy
  exact ⟨x, N, Xn h1, by rw [← hsub y x h1]; exact hbb⟩
 have hkeep : ∀ b, b < w.heap.size → (∀ x N, x ∈ σ → E.blk x = some (b, N) → False) → w'.heap[b]? = w.heap[b]? := fun b hb hn => hev.keep b hb (fun ho => let ⟨x, N, h1, h2⟩ := hown0 b ho; hn x N h1 h2)
 have hget : ∀ x B', Z7.get ⟨h.next + (nx - σ.length), VV bs' (Uo σ h.bs)⟩ x = some B' →
   (∃ y B, mvN σ h.next y = x ∧ ZK bs y = some B ∧ MvB σ h.next B B') ∨ (x < h.next ∧ x ∉ σ ∧ h.get x = some B') := fun x B' hx => by
  simp only [Z7.get, Z3c] at hx
  split at hx
  ·rename_i B0 hq
   cases hx
   exact .inl (hb.get x _ hq)
  ·obtain ⟨h1, h2⟩ := Z0B hx
   exact .inr ⟨he.lt x B' h1, h2, h1⟩
 have hni : ∀ x, x ∉ σ → Xd σ x = none := fun x hx => by
  cases hq : Xd σ x with
  | none => rfl
  | some i => exact absurd (Xn (V8 hq)) hx
 have hmix : ∀ y B z C b N N', ZK bs y = some B → E₁.blk y = some (b, N) → z ∉ σ → h.get z = some C → E.blk z = some (b, N') → False := fun y B z C b N N' hy hby hz hz' hbz => by
  rcases hev.own b ⟨y, B, N, hy, hby⟩ with ho | hs
  ·obtain ⟨x, M, h1, h2⟩ := hown0 b ho
   obtain ⟨D, hD⟩ := hm x h1
   have := he.disj x z D C b M N' hD hz' h2 hbz
   subst this
   exact hz h1
  ·have := (he.own z C hz').lt hbz
   omega
 have himm0 : ∀ a c, E.imm a c → E0.imm a c := fun a c hi => ⟨he.imm a c hi, fun x hx N hbb => let ⟨B, hB⟩ := hm x hx; he.sep a c x B N hi hB hbb⟩
 have hemb' : Emb E' ⟨h.next + (nx - σ.length), VV bs' (Uo σ h.bs)⟩ w' := by
  refine ⟨?_, ?_, ?_, ?_, ?_, ?_⟩
  ·intro x hx
   have hx' : h.next + (nx - σ.length) ≤ x := hx
   have hn : Xd σ x = none := hni x (fun hq => by have := hσlt x hq; omega)
   show (match Xd σ x with | some i => _ | none => _) = _
   rw [hn]
   show (if _ then _ else _) = _
   rw [if_neg (by omega)]
   exact hev.emb.fresh _ (by show nx ≤ _; omega)
  ·intro x B hx
   show x < h.next + (nx - σ.length)
   rcases hget x B hx with ⟨y, B0, rfl, hy, _⟩ | ⟨hlt, _, _⟩
   ·have hyn : y < nx := hev.emb.lt y B0 hy
    rcases Nat.lt_or_ge y σ.length with hlt | hge
    ·obtain ⟨x, hx'⟩ := Qf hlt
     rw [Z6X hx']
     have := hσlt x (Xn hx')
     omega
    ·rw [Z6Y hge]
     omega
   ·omega
  ·intro x B hx
   rcases hget x B hx with ⟨y, B0, rfl, hy, hmv⟩ | ⟨hlt, hnσ, hx'⟩
   ·exact hmv.move (E := E₁) (fun x r hq => by rw [hρ]; exact hq) (fun hq => by rw [hρ]; exact hq) (hev.emb.own y B0 hy)
   ·have h1 := (he.own x B hx').mono hle (fun hn => by rw [hold x hlt (hni x hnσ)]; exact hn)
    refine h1.congr fun b N hbb => ?_
    rw [hold x hlt (hni x hnσ)] at hbb
    refine hkeep b ((he.own x B hx').lt hbb) fun z M hz hbz => ?_
    obtain ⟨D, hD⟩ := hm z hz
    have := he.disj x z B D b N M hx' hD hbb hbz
    subst this
    exact hnσ hz
  ·intro x z B C b N N' hx hz hbx hbz
   rcases hget x B hx with ⟨y, B0, rfl, hy, hmv⟩ | ⟨hlt, hnσ, hx'⟩ <;> rcases hget z C hz with ⟨y', C0, rfl, hy', hmv'⟩ | ⟨hlt', hnσ', hz'⟩
   ·rw [hρ] at hbx hbz
    rw [hev.emb.disj y y' B0 C0 b N N' hy hy' hbx hbz]
   ·rw [hρ] at hbx
    rw [hold z hlt' (hni z hnσ')] at hbz
    exact (hmix y B0 z C b N N' hy hbx hnσ' hz' hbz).elim
   ·rw [hρ] at hbz
    rw [hold x hlt (hni x hnσ)] at hbx
    exact (hmix y' C0 x B b N' N hy' hbz hnσ hx' hbx).elim
   ·rw [hold x hlt (hni x hnσ)] at hbx
    rw [hold z hlt' (hni z hnσ')] at hbz
    exact he.disj x z B C b N N' hx' hz' hbx hbz
  ·intro a c hi
   exact hev.emb.imm a c (hev.le.imm a c (himm0 a c hi))
  ·intro a c x B N hi hx hbx
   rcases hget x B hx with ⟨y, B0, rfl, hy, hmv⟩ | ⟨hlt, hnσ, hx'⟩
   ·rw [hρ] at hbx
    exact hev.emb.sep a c y B0 N (hev.le.imm a c (himm0 a c hi)) hy hbx
   ·rw [hold x hlt (hni x hnσ)] at hbx
    exact he.sep a c x B N hi hx' hbx
 refine ⟨E', o', _, hK, ⟨hle, hemb', hev.size, hev.os, hev.tape, hev.output, fun b hb' hno => hkeep b hb' (fun x N hx hbx => ?_), ?_, fun _ _ h => h⟩, ?_⟩
 ·obtain ⟨B, hB⟩ := hm x hx
  exact hno ⟨x, B, N, hB, hbx⟩
 ·rintro b ⟨x, B, N, hx, hbx⟩
  rcases hget x B hx with ⟨y, B0, rfl, hy, hmv⟩ | ⟨hlt, hnσ, hx'⟩
  ·rw [hρ] at hbx
   rcases hev.own b ⟨y, B0, N, hy, hbx⟩ with ho | hs
   ·obtain ⟨z, M, h1, h2⟩ := hown0 b ho
    obtain ⟨D, hD⟩ := hm z h1
    exact .inl ⟨z, D, M, hD, h2⟩
   ·exact .inr hs
  ·rw [hold x hlt (hni x hnσ)] at hbx
   exact .inl ⟨x, B, N, hx', hbx⟩
 ·cases ho with
  | ret v v' hv => cases hor with
   | ret v r hr => exact .ret _ _ (Z2d (fun x q hq => by rw [hρ]; exact hq) _ _ _ hv hr)
  | panic v v' hv => cases hor with
   | panic v r hr => exact .panic _ _ (Z2d (fun x q hq => by rw [hρ]; exact hq) _ _ _ hv hr)
theorem Spec.fsumm {P : Program} {f : FuncId} {args : List AV} {σ : List Nat} {h : Z7} {d : Nat} {K0 : List Blk → List AV → Prop} {K : KO} (hl : frA σ h d args K0)
  (hK : ∀ Bs a₀, Bs.length = σ.length → K0 Bs a₀ → ∃ o nx bs o' bs', Spec P f a₀ ⟨σ.length, XY 0 σ Bs⟩ o nx bs ∧ σ.length ≤ nx ∧ MvO σ h.next o o' ∧ Z6Z σ h.next bs bs' ∧ K o' ⟨h.next + (nx - σ.length), VV bs' (Uo σ h.bs)⟩) : Zh P f args h K := by
 obtain ⟨hm, hd, Bs, a, hK0, hlen, hx, ha⟩ := Zg5 hl
 obtain ⟨o, nx, bs, o', bs', h1, h2, h3, h4, h5⟩ := hK Bs a hlen hK0
 exact Spec.calls h1 hlen hm hd hx ha h2 h3 h4 h5
end Go.Tk
end
section
namespace Go.Tk
open IntKind (i64 u8 u32 u64 wrap)
def goL (k : Nat) (τ : Ren) (S0 : St) (C : Prop) (ends : KE → Prop) : Nat → St → KE → Prop := fun k' s X => match Nat.beq k' k with
 | true => ZQ k τ S0 s (C ∧ ends X)
 | false => False
def Z0C (id n : Nat) (go ex re : Nat → Prop) (En Rn : Nat → St) : KE → Prop := fun X =>
 ∀ i, i ≤ n → (∀ j, j < i → go j) → (ex i → X (.exit id) (En i)) ∧ (re i → X .ret (Rn i))
theorem Za.withGo {G : Za} (hG : G.Ok) {f : FuncId} {id k N n : Nat} {τ0 τ1 τ2 τ3 : Ren} {S En Rn : Nat → St} {S0 : St} {C : Prop} {go ex re : Nat → Prop} (h1 : Wk G.P f id = true) (hC : C → S 0 = S0 ∧
   ∀ i, i ≤ n → (∀ j, j < i → go j) → Zz G N f id k (S i) fun e s => match e with
    | .normal => ZQ k τ1 (S (i + 1)) s (go i ∧ i < n)
    | .exit x => (match Nat.beq x id with | true => ZQ k τ2 (En i) s (ex i) | false => False)
    | .ret => ZQ k τ3 (Rn i) s (re i)
    | _ => False) :
  (G.withL f id (goL k τ0 S0 C (Z0C id n go ex re En Rn))).Ok := by
 refine Za.withL_ok hG h1 ?_
 intro k' s X hl
 unfold goL at hl
 split at hl
 ·rename_i hk
  have := Nat.eq_of_beq_eq_true hk
  subst this
  obtain ⟨⟨hc, hX⟩, hw⟩ := ZY hl
  obtain ⟨e0, hr⟩ := hC hc
  refine ⟨{ t : Nat // t ≤ n ∧ ∀ j, j < t → go j }, fun t => n - t.1, fun t => S t.1, ⟨0, Nat.zero_le _, fun j hj => by omega⟩, N, by show VS k' s (S 0); rw [e0]; exact hw, ?_⟩
  rintro ⟨t, ht, hgo⟩
  refine ⟨_, hr t ht hgo, ?_⟩
  intro e s' hY
  split at hY
  ·obtain ⟨⟨hg, hlt⟩, hw'⟩ := ZY hY
   refine ⟨⟨t + 1, hlt, fun j hj => ?_⟩, by show n - (t + 1) < n - t; omega, hw'⟩
   by_cases hjt : j = t
   ·rw [hjt]; exact hg
   ·exact hgo j (by omega)
  ·split at hY
   ·rename_i hi
    have := Nat.eq_of_beq_eq_true hi
    subst this
    obtain ⟨hex, hw'⟩ := ZY hY
    exact ⟨_, hw', (hX t ht hgo).1 hex⟩
   ·exact hY.elim
  ·obtain ⟨hre, hw'⟩ := ZY hY
   exact ⟨_, hw', (hX t ht hgo).2 hre⟩
  ·exact hY.elim
 ·exact hl.elim
def ZT (id n l : Nat) (go ex re jm : Nat → Prop) (En Rn Jn : Nat → St) : KE → Prop := fun X =>
 ∀ i, i ≤ n → (∀ j, j < i → go j) → (ex i → X (.exit id) (En i)) ∧ (re i → X .ret (Rn i)) ∧ (jm i → X (.goto l) (Jn i))
theorem Za.withGoJ {G : Za} (hG : G.Ok) {f : FuncId} {id k N n l : Nat} {τ0 τ1 τ2 τ3 τ4 : Ren} {S En Rn Jn : Nat → St} {S0 : St} {C : Prop} {go ex re jm : Nat → Prop} (h1 : Wk G.P f id = true) (hC : C → S 0 = S0 ∧
   ∀ i, i ≤ n → (∀ j, j < i → go j) → Zz G N f id k (S i) fun e s => match e with
    | .normal => ZQ k τ1 (S (i + 1)) s (go i ∧ i < n)
    | .exit x => (match Nat.beq x id with | true => ZQ k τ2 (En i) s (ex i) | false => False)
    | .ret => ZQ k τ3 (Rn i) s (re i)
    | .goto x => (match Nat.beq x l with | true => ZQ k τ4 (Jn i) s (jm i) | false => False)
    | _ => False) :
  (G.withL f id (goL k τ0 S0 C (ZT id n l go ex re jm En Rn Jn))).Ok := by
 refine Za.withL_ok hG h1 ?_
 intro k' s X hl
 unfold goL at hl
 split at hl
 ·rename_i hk
  have := Nat.eq_of_beq_eq_true hk
  subst this
  obtain ⟨⟨hc, hX⟩, hw⟩ := ZY hl
  obtain ⟨e0, hr⟩ := hC hc
  refine ⟨{ t : Nat // t ≤ n ∧ ∀ j, j < t → go j }, fun t => n - t.1, fun t => S t.1, ⟨0, Nat.zero_le _, fun j hj => by omega⟩, N, by show VS k' s (S 0); rw [e0]; exact hw, ?_⟩
  rintro ⟨t, ht, hgo⟩
  refine ⟨_, hr t ht hgo, ?_⟩
  intro e s' hY
  split at hY
  ·obtain ⟨⟨hg, hlt⟩, hw'⟩ := ZY hY
   refine ⟨⟨t + 1, hlt, fun j hj => ?_⟩, by show n - (t + 1) < n - t; omega, hw'⟩
   by_cases hjt : j = t
   ·rw [hjt]; exact hg
   ·exact hgo j (by omega)
  ·split at hY
   ·rename_i hi
    have := Nat.eq_of_beq_eq_true hi
    subst this
    obtain ⟨hex, hw'⟩ := ZY hY
    exact ⟨_, hw', (hX t ht hgo).1 hex⟩
   ·exact hY.elim
  ·obtain ⟨hre, hw'⟩ := ZY hY
   exact ⟨_, hw', (hX t ht hgo).2.1 hre⟩
  ·split at hY
   ·rename_i hi
    have := Nat.eq_of_beq_eq_true hi
    subst this
    obtain ⟨hjm, hw'⟩ := ZY hY
    exact ⟨_, hw', (hX t ht hgo).2.2 hjm⟩
   ·exact hY.elim
  ·exact hY.elim
 ·exact hl.elim
theorem Zc {p x : Prop} [Decidable p] : Z0 (decide p) x False = (p ∧ x) := by
 by_cases h : p
 ·rw [decide_eq_true h]; simp [Z0, h]
 ·rw [decide_eq_false h]; simp [Z0, h]
theorem Zi {p x : Prop} [Decidable p] : Z0 (decide p) False x = (¬ p ∧ x) := by
 by_cases h : p
 ·rw [decide_eq_true h]; simp [Z0, h]
 ·rw [decide_eq_false h]; simp [Z0, h]
theorem Ze {p x y : Prop} [Decidable p] : Z0 (decide p) x y = ((p → x) ∧ (¬ p → y)) := by
 by_cases h : p
 ·rw [decide_eq_true h]; simp [Z0, h]
 ·rw [decide_eq_false h]; simp [Z0, h]
theorem Zj {b : Bool} {x : Prop} : Z0 b x False = (b = true ∧ x) := by cases b <;> simp [Z0]
theorem Zk {b : Bool} {x : Prop} : Z0 b False x = (b = false ∧ x) := by cases b <;> simp [Z0]
theorem Zd {b : Bool} {x y : Prop} : Z0 b x y = ((b = true → x) ∧ (b = false → y)) := by cases b <;> simp [Z0]
theorem Z9g {k : Nat} {τ : Ren} {v : AV} (hp : v.plain = true) (hc : v.isCell = true) {Z : Prop} (hZ : Z) : eqV k τ v v Z := by
 cases v with
 | ptr p => cases p <;> simp_all [AV.plain, eqV]
 | map r => cases r <;> simp_all [AV.plain, eqV]
 | _ => simp_all [AV.plain, eqV, U9, AV.isCell]
theorem Z3n {k : Nat} {τ : Ren} : ∀ {l : List AV}, plainC l = true → ∀ {Z : Prop}, Z → (∀ v ∈ l, v.isCell = true ∨ ∃ k n xs, v = .arr k n xs) → eqC k τ l l Z
 | [], _, Z, hZ, _ => by simp [eqC, hZ]
 | v :: r, hp, Z, hZ, hc => by
  simp only [plainC, Bool.and_eq_true] at hp
  have hr := Z3n (k := k) (τ := τ) hp.2 hZ (fun u hu => hc u (List.mem_cons_of_mem _ hu))
  rcases hc v (by simp) with hv | ⟨kk, n, xs, rfl⟩
  ·have hna : ∀ a b c, v ≠ .arr a b c := fun a b c e => by subst e; simp [AV.isCell] at hv
   cases v with
   | arr a b c => exact absurd rfl (hna a b c)
   | agg cs => simp [AV.isCell] at hv
   | tuple cs => simp [AV.isCell] at hv
   | _ => simp only [eqC, hv, Bool.and_self]; exact Z9g hp.1 hv hr
  ·unfold eqC
   simp [hr, Nat.beq_refl]
theorem V9 {k : Nat} {τ : Ren} {n : Nat} {f f' : Nat → List AV} (h : ∀ i, i < n → f' i = f i) (hp : ∀ i, i < n → plainC (f i) = true) (hc : ∀ i, i < n → ∀ v ∈ f i, v.isCell = true ∨ ∃ k n xs, v = .arr k n xs) : Zg k τ n f f' :=
 ⟨fun i hi => by rw [h i hi]; exact Z3n (hp i hi) trivial (hc i hi)⟩
theorem Zg6 {a b : Nat} (h : a < b) : Nat.blt a b = true := by rw [Nat.blt_eq]; exact h
theorem Zg7 {a b : Nat} (h : Nat.blt a b = true) : a < b := by rw [Nat.blt_eq] at h; exact h
theorem Z4p {n i : Nat} {f g : Nat → List AV} (h : i < n) : YF n f g i = f i := by unfold YF; rw [Zg6 h]
theorem QG {n i : Nat} {f g : Nat → List AV} (h : n ≤ i) : YF n f g i = g (i - n) := by
 unfold YF
 have : Nat.blt i n = false := by
  cases hq : Nat.blt i n with
  | false => rfl
  | true => have := Zg7 hq; omega
 rw [this]
theorem ZB.vrows0 {P : Program} {f : FuncId} {esz : Nat} {g : Nat → List AV} {v : AV} {nx : Nat} {bs : List (Nat × Blk)} (h1 : ZB P f [.nilslice] v nx bs) (h2 : ZB P f [.fslice] v nx bs) : ZB P f [.vrows esz 0 g 0] v nx bs := by
 intro E w rs he hr
 cases hr with
 | cons v r vs rs hv ht => cases ht with
  | nil => cases hv with
   | vrowsNil esz n f len _ _ => exact h1 E w _ he (.cons _ _ _ _ .nilslice .nil)
   | vrows esz n f len a cap g _ _ _ _ _ => exact h2 E w _ he (.cons _ _ _ _ (.fslice a cap) .nil)
theorem ZB.vints0 {P : Program} {f : FuncId} {k : IntKind} {v : AV} {nx : Nat} {bs : List (Nat × Blk)} (h1 : ZB P f [.nilslice] v nx bs) (h2 : ZB P f [.fslice] v nx bs) : ZB P f [.vints k [] 0] v nx bs := by
 intro E w rs he hr
 cases hr with
 | cons v r vs rs hv ht => cases ht with
  | nil => cases hv with
   | vintsNil k xs len _ _ => exact h1 E w _ he (.cons _ _ _ _ .nilslice .nil)
   | vints k xs len a cap _ _ _ => exact h2 E w _ he (.cons _ _ _ _ (.fslice a cap) .nil)
end Go.Tk
namespace Go.Tk
open IntKind (i64 u8 u32 u64 wrap)
mutual
theorem Qg {mv : Option Nat} {h : Z7} : ∀ (d : Nat) (t : Bool) (v : AV) (K K' : AV → Prop), VU mv h t d v K → (∀ a, K a → K' a) → VU mv h t d v K'
 | 0, t, v, K, K', hl, hK => by unfold VU at hl; exact hl.elim
 | d + 1, t, v, K, K', hl, hK => by
  unfold VU at hl ⊢
  split at hl
  all_goals try exact hK _ hl
  all_goals try exact hl.elim
  ·split at hl
   ·split at hl
    ·exact hl.elim
    ·exact hK _ hl
   ·split at hl
    ·split at hl
     ·exact XB _ _ _ _ _ hl fun _ h => hK _ h
     ·exact hl.elim
    ·split at hl
     ·obtain ⟨h1, h2⟩ := Z9 hl
      refine U9 h1 ?_
      split at h2
      ·exact XB _ _ _ _ _ h2 fun _ h => hK _ h
      ·exact h2.elim
     ·exact hl.elim
    ·exact hl.elim
  ·split at hl
   ·split at hl
    ·exact hl.elim
    ·exact hK _ hl
   ·split at hl
    ·split at hl
     ·obtain ⟨h1, h2⟩ := Z9 hl
      exact U9 h1 (hK _ h2)
     ·exact hl.elim
    ·split at hl
     ·obtain ⟨h1, h2, h3⟩ := Z9 hl
      exact U9 h1 ⟨h2, hK _ h3⟩
     ·exact hl.elim
    ·split at hl
     ·split at hl
      ·split at hl
       ·split at hl
        ·obtain ⟨h1, h2⟩ := Z9 hl
         exact U9 h1 (hK _ h2)
        ·obtain ⟨h1, h2⟩ := Z9 hl
         exact U9 h1 (hK _ h2)
        ·exact hl.elim
       ·exact hl.elim
      ·split at hl
       ·refine XB _ _ _ _ _ hl fun _ h => ?_
        split at h
        ·exact hK _ h
        ·exact h.elim
       ·exact hl.elim
     ·exact hl.elim
    ·exact hl.elim
  ·exact Zq _ _ _ _ _ hl fun _ h => Zq _ _ _ _ _ h fun _ h => hK _ h
  ·exact Qg _ _ _ _ _ hl fun _ h => hK _ h
  ·exact XB _ _ _ _ _ hl fun _ h => hK _ h
  ·exact Zq _ _ _ _ _ hl fun _ h => hK _ h
theorem XB {mv : Option Nat} {h : Z7} : ∀ (d : Nat) (t : Bool) (l : List AV) (K K' : List AV → Prop), V5 mv h t d l K → (∀ a, K a → K' a) → V5 mv h t d l K'
 | 0, t, l, K, K', hl, hK => by unfold V5 at hl; exact hl.elim
 | d + 1, t, l, K, K', hl, hK => by
  unfold V5 at hl ⊢
  split at hl
  ·exact hK _ hl
  ·exact XB _ _ _ _ _ hl fun _ h => hK _ h
  ·refine Qg _ _ _ _ _ hl fun _ h => ?_
   split at h
   ·exact XB _ _ _ _ _ h fun _ h => hK _ h
   ·exact h.elim
theorem Zq {mv : Option Nat} {h : Z7} : ∀ (d : Nat) (t : Bool) (l : List AV) (K K' : List AV → Prop), ZL mv h t d l K → (∀ a, K a → K' a) → ZL mv h t d l K'
 | 0, t, l, K, K', hl, hK => by unfold ZL at hl; exact hl.elim
 | d + 1, t, l, K, K', hl, hK => by
  unfold ZL at hl ⊢
  split at hl
  ·exact hK _ hl
  ·exact Qg _ _ _ _ _ hl fun _ h => Zq _ _ _ _ _ h fun _ h => hK _ h
end
end Go.Tk
end
section
namespace Go.Tk
open IntKind (i64 u8 u32 u64 wrap)
def Zf (g : Nat → InS) : Nat → List AV := fun q => (g q).c
def Zn (g : Nat → ZF) : Nat → List AV := fun q => (g q).c
theorem InS.plainC (x : InS) : plainC x.c = true := rfl
theorem ZF.plainC (x : ZF) : plainC x.c = true := rfl
theorem InS.cells (x : InS) : ∀ v ∈ x.c, v.isCell = true ∨ ∃ k n xs, v = .arr k n xs := by simp [InS.c, AV.isCell]
theorem ZF.cells (x : ZF) : ∀ v ∈ x.c, v.isCell = true ∨ ∃ k n xs, v = .arr k n xs := by simp [ZF.c, AV.isCell]
theorem Yi {k : Nat} {τ : Ren} {n : Nat} {g : Nat → InS} {f : Nat → List AV} (h : ∀ i, i < n → f i = (g i).c) : Zg k τ n (Zf g) f := V9 h (fun i _ => (g i).plainC) (fun i _ => (g i).cells)
theorem Va {k : Nat} {τ : Ren} {n : Nat} {g : Nat → ZF} {f : Nat → List AV} (h : ∀ i, i < n → f i = (g i).c) : Zg k τ n (Zn g) f := V9 h (fun i _ => (g i).plainC) (fun i _ => (g i).cells)
theorem Zdb (N : Nat) (g : Nat → InS) (hN : N + 1 < 900000000000) :
  evF G0 20 48 [.vrows 130 (N + 1) (Zf g) (N + 1)] ⟨0, []⟩ (Yd 0 [(0,0)] (.nslice ⟨0, 0, 130, 0, 0⟩ 130 (N + 1) (N + 1)) 1 [(0, .rows 130 (N + 1) (Zf g))]) := by
 refine @Eq.mpr _ (let q1 := N + 1;
 let q2 := 0 + q1;
 let q3 := decide (q2 = q1);
 Z0 (decide (q2 * 144 ≤ 140737488355328)) (Z0 q3 (Z0 (decide (q1 ≤ q2)) (Z0 q3 (Zg 0 [(0, 0)] q1 (Zf g) (YF 0 (fun (x : Nat) => []) (Zf g)) ∧ True) False) False) False) False) (by kernel_rfl) ?_
 conv => zeta
 refine nd (by omega) (nd (by omega) (nd (by omega) (nd (by omega) ⟨Yi fun i hi => ?_, trivial⟩)))
 rw [QG (Nat.zero_le _)]; rfl
theorem Zdc (g : Nat → InS)  :
  evF G0 20 48 [.nilslice] ⟨0, []⟩ (Yd 0 [] (.nslice ⟨0, 0, 130, 0, 0⟩ 130 0 0) 1 [(0, .rows 130 0 (Zf g))]) := by
 refine @Eq.mpr _ (True) (by kernel_rfl) ?_
 trivial
theorem Zdd (g : Nat → InS)  :
  evF G0 20 48 [.fslice] ⟨0, []⟩ (Yd 0 [(0, 0)] (.nslice ⟨0, 0, 130, 0, 0⟩ 130 0 0) 1 [(0, .rows 130 0 (Zf g))]) := by
 refine @Eq.mpr _ (Zg 0 [(0, 0)] 0 (Zf g) (YF 0 (fun (x : Nat) => []) fun (x : Nat) => []) ∧ True) (by kernel_rfl) ?_
 exact ⟨Yi fun i hi => by omega, trivial⟩
theorem Z70 (N : Nat) (g : Nat → InS) (hN : N < 900000000000) : ZB PP 48 [.vrows 130 N (Zf g) N] (.nslice ⟨0, 0, 130, 0, 0⟩ 130 N N) 1 [(0, .rows 130 N (Zf g))] := by
 cases N with
 | zero => exact ZB.vrows0 (.ev Zv (Zdc g)) (.ev Zv (Zdd g))
 | succ n => exact .ev Zv (Zdb n g hN)
def Zb3 (N : Nat) (g : Nat → InS) (Z : Prop) : Y6 := fun args h K => ZL none h true 20 args fun a => match a with
 | [.vrows 130 n f m] => Zs (n = N) (Zs (m = N) (f = Zf g ∧ Z ∧ K (.ret (.nslice ⟨h.next, 0, 130, 0, 0⟩ 130 N N)) ⟨h.next + 1, (h.next, .rows 130 N (Zf g)) :: h.bs⟩))
 | _ => False
theorem Z9h (N : Nat) (g : Nat → InS) (args : List AV) (h : Z7) (K : KO) (hl : Zb3 N g (N < 900000000000) args h K) : Zh PP 48 args h K := by
 refine ZB.fsumm (d := 20) (Zq _ _ _ _ _ hl fun a ha => ?_)
 split at ha
 ·obtain ⟨rfl, ha⟩ := Z9 ha
  obtain ⟨rfl, rfl, hN, hK⟩ := Z9 ha
  exact ⟨_, _, _, _, Z70 _ _ hN, rfl, ⟨Nat.one_pos, .rows _ _ _ (fun i _ => (g i).plainC), trivial⟩, hK⟩
 ·exact ha.elim
def Vb (N : Nat) (g : Nat → InS) (t : Nat) : Nat → InS := fun q => if q < t ∨ N < q + t + 1 then g (N - 1 - q) else g q
def Qh (N : Nat) (g : Nat → InS) : Nat → InS := fun q => g (N - 1 - q)
def Z71 (N : Nat) (g : Nat → InS) (t : Nat) : St := ⟨28, [(0, .nslice ⟨0, 0, 130, 0, 0⟩ 130 N N), (3, .int .i64 ((N : Int) - 1 - t)), (2, .int .i64 t)], ⟨1, [(0, .rows 130 N (Zf (Vb N g t)))]⟩, []⟩
theorem ZhX (N : Nat) (g : Nat → InS) (t : Nat) (hN : N < 900000000000) (ht : t ≤ N) (hgo : ∀ j : Nat, j < t → (j : Int) < (N : Int) - 1 - j) :
  Zz G0 20 126 0 1 (Z71 N g t) (fun e s => match e with | .normal => ZQ 1 [] (Z71 N g (t + 1)) s (((t : Int) < (N : Int) - 1 - t) ∧ t < N) | .exit x => (match Nat.beq x 0 with | true => ZQ 1 [] (Z71 N g t) s (¬ (t : Int) < (N : Int) - 1 - t) | false => False) | .ret => ZQ 1 [] (Z71 N g t) s False | _ => False) := by
 refine @Eq.mpr _ (let q1 := (↑N : Int) - 1;
 let q2 := q1 - (↑t : Int);
 let q3 := decide (0 ≤ q2 ∧ q2 < (↑N : Int));
 let q4 := 0 + Int.toNat q2;
 let q5 := decide (0 ≤ (↑t : Int) ∧ (↑t : Int) < (↑N : Int));
 let q6 := 0 + Int.toNat (↑t : Int);
 let q7 := decide (N = N);
 let q8 := decide (N ≤ N);
 let q9 := (↑(t + 1) : Int);
 let q10 := Zf (Vb N g t);
 let q11 := Vb N g t q4;
 let q12 := Vb N g t q6;
 Z0 (decide ((↑t : Int) < q2)) (Z0 q3 (Z0 (decide (q4 < N)) (Z0 q5 (Z0 (decide (q6 < N)) (Z0 q5 (Z0 (decide (q6 < N)) (Z0 q3 (Z0 (decide (q4 < N)) (Z0 q7 (Z0 q8 (Z0 (decide (wrap i64 (q2 - 1) = q1 - q9)) (Z0 (decide (wrap i64 ((↑t : Int) + 1) = q9)) (Z0 q7 (Zg 1 [] N (Zf (Vb N g (t + 1))) (Xv (Xv q10 q6 [AV.arr u8 32 q11.name, AV.int i64 q11.index, AV.int i64 q11.way, AV.arr u8 32 q11.tag, AV.arr u8 32 q11.also, AV.arr u8 32 q11.secret]) q4 [AV.arr u8 32 q12.name, AV.int i64 q12.index, AV.int i64 q12.way, AV.arr u8 32 q12.tag, AV.arr u8 32 q12.also, AV.arr u8 32 q12.secret]) ∧ (↑t : Int) < q2 ∧ t < N) False) False) False) False) False) False) False) False) False) False) False) False) False)
 (Z0 q7 (Z0 q8 (Z0 (decide (q2 = q2)) (Z0 (decide ((↑t : Int) = (↑t : Int))) (Z0 q7 (Zg 1 [] N q10 q10 ∧ ((↑t : Int) < q2 → False)) False) False) False) False) False)) (by kernel_rfl) ?_
 conv => zeta
 simp only [Zc]
 simp only [Ze]
 have hrows : Zg 1 [] N (Zf (Vb N g t)) (Zf (Vb N g t)) := Yi fun _ _ => rfl
 refine ⟨fun h1 => ?_, fun h1 => by simp [hrows, h1]⟩
 have hw1 : i64.wrap ((t : Int) + 1) = (t : Int) + 1 := w64 (by omega)
 have hw2 : i64.wrap ((N : Int) - 1 - t - 1) = (N : Int) - 1 - t - 1 := w64 (by omega)
 have e1 : 0 + ((N : Int) - 1 - t).toNat = N - 1 - t := by omega
 have e2 : 0 + (t : Int).toNat = t := by omega
 simp only [e1, e2, hw1, hw2]
 refine ⟨by omega, by omega, by omega, by omega, by omega, by omega, by omega, by omega, trivial, by omega, by omega, by omega, trivial, Yi fun q hq => ?_, h1, by omega⟩
 rw [Xa, Xa]
 have g1 : Vb N g t (N - 1 - t) = g (N - 1 - t) := by unfold Vb; rw [if_neg (by omega)]
 have g2 : Vb N g t t = g t := by unfold Vb; rw [if_neg (by omega)]
 rw [g1, g2]
 by_cases q1 : q = N - 1 - t
 ·subst q1
  rw [Nat.beq_refl]
  show (g t).c = _
  unfold Vb
  rw [if_pos (by omega)]
  congr 2; omega
 ·rw [Zo q1]
  by_cases q2 : q = t
  ·subst q2
   rw [Nat.beq_refl]
   show (g (N - 1 - q)).c = _
   unfold Vb
   rw [if_pos (by omega)]
  ·rw [Zo q2]
   show (Vb N g t q).c = _
   unfold Vb
   congr 1
   by_cases c : q < t ∨ N < q + t + 1
   ·rw [if_pos c, if_pos (by omega)]
   ·rw [if_neg c, if_neg (by omega)]
noncomputable def E10 (N : Nat) (g : Nat → InS) : Za := (G0.withL 126 0 (goL 1 [] (Z71 N g 0) (N < 900000000000) (Z0C 0 N (fun t => (t : Int) < (N : Int) - 1 - t) (fun t => ¬ (t : Int) < (N : Int) - 1 - t) (fun _ => False) (Z71 N g) (Z71 N g)))).withF 48 (Zb3 N g (N < 900000000000))
theorem Zg8 (N : Nat) (g : Nat → InS) : (E10 N g).Ok :=
 Za.withF_ok (Za.withGo (τ1 := []) (τ2 := []) (τ3 := []) (N := 20) Zv (by kernel_rfl) fun hC => ⟨rfl, fun i hi hgo => ZhX N g i hC hi hgo⟩) (Z9h N g)
theorem Z72 (N : Nat) (g : Nat → InS) (hN : N < 900000000000) :
  evF (E10 N g) 20 74 [.vrows 130 N (Zf g) N] ⟨0, []⟩ (Yd 0 [(0, 0)] (.nslice ⟨0, 0, 130, 0, 0⟩ 130 N N) 1 [(0, .rows 130 N (Zf (Qh N g)))]) := by
 refine @Eq.mpr _ (let q1 := decide (N = N);
 let q2 := Zf g;
 let q3 := decide (N ≤ N);
 let q4 := (↑N : Int) - 1;
 Z0 q1
 (Z0 q1
 (q2 = q2 ∧
 N < 900000000000 ∧
 Z0 q1
 (Z0 q3
 (Z0 (decide (wrap i64 q4 = q4 - 0))
 (Z0 q1
 (Zg 1 [] N (Zf (Vb N g 0)) q2 ∧
 N < 900000000000 ∧
 ∀ (i : Nat),
 let q9 := Z0 q1 (Z0 q3 (Z0 q1 (Zg 0 [(0, 0)] N (Zf (Qh N g)) (Zf (Vb N g i)) ∧ True) False) False) False;
 i ≤ N → (∀ (j : Nat), j < i → (fun (t : Nat) => (↑t : Int) < q4 - (↑t : Int)) j) → (¬(↑i : Int) < q4 - (↑i : Int) → q9) ∧ (False → q9))
 False)
 False)
 False)
 False)
 False)
 False) (by kernel_rfl) ?_
 conv => zeta
 simp only [Zc, true_and, and_true]
 refine ⟨hN, by omega, by rw [w64 (by omega)]; omega, Yi fun i hi => ?_, hN, fun i hi hgo => ⟨fun hex => ⟨by omega, Yi fun q hq => ?_⟩, fun h => h.elim⟩⟩
 ·show (g i).c = _
  unfold Vb
  rw [if_neg (by omega)]
 ·show (Vb N g i q).c = _
  unfold Vb Qh
  by_cases c : q < i ∨ N < q + i + 1
  ·rw [if_pos c]
  ·rw [if_neg c]
   congr 2; omega
theorem Z2O (N : Nat) (g : Nat → InS) (hN : N < 900000000000) : ZB PP 74 [.vrows 130 N (Zf g) N] (.nslice ⟨0, 0, 130, 0, 0⟩ 130 N N) 1 [(0, .rows 130 N (Zf (Qh N g)))] := .ev (Zg8 N g) (Z72 N g hN)
end Go.Tk
end
section
namespace Go.Tk
open IntKind (i64 u8 u32 u64 wrap)
def Yl (p : Nat → Bool) (n : Nat) : Int := match (List.range n).find? p with | some i => i | none => -1
theorem Wo {p : Nat → Bool} {n i : Nat} (hi : i < n) (hgo : ∀ j, j < i → p j = false) (hp : p i = true) : Yl p n = i := by
 unfold Yl
 have : (List.range n).find? p = some i := by
  rw [List.find?_range_eq_some]
  exact ⟨hp, List.mem_range.2 hi, fun j hj => by simp [hgo j hj]⟩
 rw [this]
theorem Wp {p : Nat → Bool} {n : Nat} (hgo : ∀ j, j < n → p j = false) : Yl p n = -1 := by
 unfold Yl
 have : (List.range n).find? p = none := by
  rw [List.find?_eq_none]
  intro j hj
  simp [hgo j (List.mem_range.1 hj)]
 rw [this]
theorem WF (p : Nat → Bool) (n : Nat) : (Yl p n = -1 ∧ ∀ j, j < n → p j = false) ∨ ∃ i, i < n ∧ Yl p n = (i : Nat) ∧ p i = true ∧ ∀ j, j < i → p j = false := by
 unfold Yl
 cases h : (List.range n).find? p with
 | none =>
  refine .inl ⟨rfl, fun j hj => ?_⟩
  have := List.find?_eq_none.1 h j (List.mem_range.2 hj)
  simpa using this
 | some i =>
  rw [List.find?_range_eq_some] at h
  exact .inr ⟨i, List.mem_range.1 h.2.1, rfl, h.1, fun j hj => by simpa using h.2.2 j hj⟩
theorem Z5B (p : Nat → Bool) (n : Nat) : -1 ≤ Yl p n ∧ Yl p n < n + 1 := by
 rcases WF p n with ⟨h, _⟩ | ⟨i, hi, h, _⟩ <;> omega
def VZ (x y : InS) : Bool := (y.name == x.name) && (y.index == x.index)
theorem Zg9 (x y : InS) (hx : x.Ok) (hy : y.Ok) :
  evF G0 20 72 [.agg y.c, .pview x.c 0] ⟨0, []⟩ (Yd 0 [] (.bool (VZ x y)) 0 []) := by
 refine @Eq.mpr _ (Z0 (decide (List.length y.name = 32 ∧ List.length x.name = 32)) (Z0 (y.name == x.name) (Z0 (decide ((y.index == x.index) = VZ x y)) True False) (Z0 (decide (false = VZ x y)) True False)) False) (by kernel_rfl) ?_
 try simp only [Zc]
 try simp only [Ze]
 try simp only [Zd]
 try simp only [Int.toNat_natCast, Nat.zero_add, true_and, and_true, Nat.le_refl]
 unfold VZ
 refine ⟨⟨hy.name, hx.name⟩, fun h => ?_, fun h => ?_⟩ <;> simp [h]
def Zft : ZW := fun args h K => ZL none h true 20 args fun a => match a with
 | [.agg cs, .pview ds 0] => ∃ x y, cs = InS.c y ∧ ds = InS.c x ∧ (x.Ok ∧ y.Ok) ∧ K (.bool (VZ x y))
 | _ => False
theorem Zb4 (args : List AV) (h : Z7) (K : AV → Prop) (hl : Zft args h K) : Zh PP 72 args h fun o h' => ∃ v, o = .ret v ∧ h' = h ∧ K v := by
 refine ZB.psumm (d := 20) (Zq _ _ _ _ _ hl fun a ha => ?_)
 split at ha
 ·obtain ⟨x, y, rfl, rfl, ⟨h1, h2⟩, hK⟩ := ha
  exact ⟨_, .ev Zv (Zg9 x y h1 h2), fun _ => rfl, hK⟩
 ·exact ha.elim
noncomputable def Zga : Za := G0.withP 72 Zft
theorem Zde : Zga.Ok := Za.withP_ok Zv Zb4
def ixS (N : Nat) (g : Nat → InS) (x : InS) (i : Nat) : St := ⟨19, [(1, .func (Fn.func 72) [] [.pview (InS.c x) 0]), (0, .vrows 130 N (Zf g) N), (7, .int .i64 N), (8, .int .i64 i)], ⟨0, []⟩, []⟩
def ixR (i : Nat) : St := ⟨19, [(4, .int .i64 i)], ⟨0, []⟩, []⟩
def ixE (_ : Nat) : St := ⟨19, [], ⟨0, []⟩, []⟩
theorem Zk5 (N : Nat) (g : Nat → InS) (x : InS) (i : Nat) (Z1 Z2 Z3 : Prop) (hN : N < 900000000000) (hx : x.Ok) (hg : ∀ i, i < N → (g i).Ok) (hi : i ≤ N) (h1 : i < N → VZ x (g i) = false → Z1) (h2 : i = N → Z2) (h3 : i < N → VZ x (g i) = true → Z3) :
  Zz Zga 20 73 0 0 (ixS N g x i) (fun e s => match e with | .normal => ZQ 0 [] (ixS N g x (i + 1)) s Z1 | .exit x => (match Nat.beq x 0 with | true => ZQ 0 [] (ixE i) s Z2 | false => False) | .ret => ZQ 0 [] (ixR i) s Z3 | _ => False) := by
 refine @Eq.mpr _ (let q1 := g (Int.toNat (↑i : Int));
 let q2 := InS.c x;
 let q3 := decide (N = N);
 Z0 (decide ((↑i : Int) < (↑N : Int))) (Z0 (decide (0 ≤ (↑i : Int) ∧ (↑i : Int) < (↑N : Int))) (∃ (x : InS), ∃ (y : InS), [AV.arr u8 32 q1.name, AV.int i64 q1.index, AV.int i64 q1.way, AV.arr u8 32 q1.tag, AV.arr u8 32 q1.also, AV.arr u8 32 q1.secret] = InS.c y ∧ q2 = InS.c x ∧ (InS.Ok x ∧ InS.Ok y) ∧ Z0 (VZ x y) (Z0 (decide ((↑i : Int) = (↑i : Int))) Z3 False) (q2 = q2 ∧ Z0 q3 (Zf g = Zf g ∧ Z0 q3 (Z0 (decide ((↑N : Int) = (↑N : Int))) (Z0 (decide (wrap i64 ((↑i : Int) + 1) = (↑(i + 1) : Int))) Z1 False) False) False) False)) False) Z2) (by kernel_rfl) ?_
 conv => zeta
 try simp only [Zc]
 try simp only [Ze]
 try simp only [Zd]
 try simp only [Int.toNat_natCast, Nat.zero_add, true_and, and_true, Nat.le_refl]
 refine ⟨fun hlt => ⟨by omega, x, g i, rfl, rfl, ⟨hx, hg i (by omega)⟩, fun h => h3 (by omega) h, fun h => ⟨w64 (by omega), h1 (by omega) h⟩⟩, fun hge => h2 (by omega)⟩
def sameAt (g : Nat → InS) (x : InS) : Nat → Bool := fun j => VZ x (g j)
noncomputable def ZhY (N : Nat) (g : Nat → InS) (x : InS) : Za := Zga.withL 73 0 (goL 0 [] (ixS N g x 0) (N < 900000000000 ∧ x.Ok ∧ ∀ i, i < N → (g i).Ok) (Z0C 0 N (fun i => sameAt g x i = false) (fun i => i = N) (fun i => i < N ∧ sameAt g x i = true) ixE ixR))
theorem Zdf (N : Nat) (g : Nat → InS) (x : InS) : (ZhY N g x).Ok :=
 Za.withGo (τ1 := []) (τ2 := []) (τ3 := []) (N := 20) Zde (by kernel_rfl) fun hC => ⟨rfl, fun i hi _ => Zk5 N g x i _ _ _ hC.1 hC.2.1 hC.2.2 hi (fun h1 h2 => ⟨h2, h1⟩) (fun h => h) (fun h1 h2 => ⟨h1, h2⟩)⟩
theorem Zdg (N : Nat) (g : Nat → InS) (x : InS) (F : Int) (hN : N < 900000000000) (hx : x.Ok) (hg : ∀ i, i < N → (g i).Ok) (hF : F = Yl (sameAt g x) N) :
  evF (ZhY N g x) 20 73 [.vrows 130 N (Zf g) N, .func (.func 72) [] [.pview x.c 0]] ⟨0, []⟩ (Yd 0 [] (.int .i64 F) 0 []) := by
 refine @Eq.mpr _ (let q1 := decide (N = N);
 InS.c x = InS.c x ∧ Z0 q1 (Zf g = Zf g ∧ Z0 q1 (Z0 (decide ((↑N : Int) = (↑N : Int))) ((N < 900000000000 ∧ InS.Ok x ∧ ∀ (i : Nat), i < N → InS.Ok (g i)) ∧ ∀ (i : Nat), i ≤ N → (∀ (j : Nat), j < i → (fun (i : Nat) => sameAt g x i = false) j) → (i = N → Z0 (decide (-1 = F)) True False) ∧ (i < N ∧ sameAt g x i = true → Z0 (decide ((↑i : Int) = F)) True False)) False) False) False) (by kernel_rfl) ?_
 conv => zeta
 try simp only [Zc]
 try simp only [Ze]
 try simp only [Zd]
 try simp only [Int.toNat_natCast, Nat.zero_add, true_and, and_true, Nat.le_refl]
 subst hF
 exact ⟨⟨hN, hx, hg⟩, fun i hi hgo => ⟨fun h => by subst h; exact (Wp hgo).symm, fun h => (Wo h.1 hgo h.2).symm⟩⟩
theorem Z73 (N : Nat) (g : Nat → InS) (x : InS) (hN : N < 900000000000) (hx : x.Ok) (hg : ∀ i, i < N → (g i).Ok) : ZB PP 73 [.vrows 130 N (Zf g) N, .func (.func 72) [] [.pview x.c 0]] (.int .i64 (Yl (sameAt g x) N)) 0 [] := .ev (Zdf N g x) (Zdg N g x _ hN hx hg rfl)
def Zb5 : ZW := fun args h K => ZL none h true 20 args fun a => match a with
 | [.vrows 130 n f m, .func (.func 72) [] [.pview cs 0]] => ∃ g x, f = Zf g ∧ cs = InS.c x ∧ (m = n ∧ n < 900000000000 ∧ x.Ok ∧ ∀ i, i < n → (g i).Ok) ∧ K (.int .i64 (Yl (sameAt g x) n))
 | _ => False
theorem Z9i (args : List AV) (h : Z7) (K : AV → Prop) (hl : Zb5 args h K) : Zh PP 73 args h fun o h' => ∃ v, o = .ret v ∧ h' = h ∧ K v := by
 refine ZB.psumm (d := 20) (Zq _ _ _ _ _ hl fun a ha => ?_)
 split at ha
 ·obtain ⟨g, x, rfl, rfl, ⟨rfl, h1, h2, h3⟩, hK⟩ := ha
  exact ⟨_, Z73 _ g x h1 h2 h3, fun _ => rfl, hK⟩
 ·exact ha.elim
def Z3o : Y6 := fun args h K => ZL none h true 20 args fun a => match a with
 | [.vrows 130 n f m] => ∃ g, f = Zf g ∧ (m = n ∧ n < 900000000000) ∧ K (.ret (.nslice ⟨h.next, 0, 130, 0, 0⟩ 130 n n)) ⟨h.next + 1, (h.next, .rows 130 n (Zf (Qh n g))) :: h.bs⟩
 | _ => False
theorem Z4q (args : List AV) (h : Z7) (K : KO) (hl : Z3o args h K) : Zh PP 74 args h K := by
 refine ZB.fsumm (d := 20) (Zq _ _ _ _ _ hl fun a ha => ?_)
 split at ha
 ·obtain ⟨g, rfl, ⟨rfl, hN⟩, hK⟩ := ha
  exact ⟨_, _, _, _, Z2O _ _ hN, rfl, ⟨Nat.one_pos, .rows _ _ _ (fun i _ => (Qh _ g i).plainC), trivial⟩, hK⟩
 ·exact ha.elim
noncomputable def ZhZ : Za := (G0.withP 73 Zb5).withF 74 Z3o
theorem Zdh : ZhZ.Ok := Za.withF_ok (Za.withP_ok Zv Z9i) Z4q
@[irreducible] def U0 (N : Nat) (g : Nat → InS) (x : InS) : Bool := Yl (sameAt g x) N != (N : Int) - 1 - Yl (sameAt (Qh N g) x) N
theorem Zdi (N : Nat) (g : Nat → InS) (x : InS) (num : Int) (outs : AV) (F : Bool) (hN : N < 900000000000) (hx : x.Ok) (hg : ∀ i, i < N → (g i).Ok) (hF : F = U0 N g x) :
  evF ZhZ 20 71 [.agg x.c, .pview [.int .i64 num, .vrows 130 N (Zf g) N, outs] 0] ⟨0, []⟩ (Yd 0 [] (.bool F) 0 []) := by
 refine @Eq.mpr _ (let q1 := Zf g;
 let q2 := decide (N = N);
 ∃ (g : Nat → InS),
 ∃ (x_1 : InS),
 let q5 := [AV.arr u8 32 x.name, AV.int i64 x.index, AV.int i64 x.way, AV.arr u8 32 x.tag, AV.arr u8 32 x.also, AV.arr u8 32 x.secret];
 q1 = Zf g ∧ q5 = InS.c x_1 ∧ (N = N ∧ N < 900000000000 ∧ InS.Ok x_1 ∧ ∀ (i : Nat), i < N → InS.Ok (g i)) ∧ ∃ (g_1 : Nat → InS), q1 = Zf g_1 ∧ (N = N ∧ N < 900000000000) ∧ Z0 (decide ((↑N : Int) = (↑N : Int))) (Z0 q2 (q1 = q1 ∧ Z0 q2 (Z0 (decide (0 + N ≤ N)) ((∀ (i : Nat), i < N → true = true) ∧ ∃ (g_2 : Nat → InS), ∃ (x : InS), VH 0 (Zf (Qh N g_1)) = Zf g_2 ∧ q5 = InS.c x ∧ (N = N ∧ N < 900000000000 ∧ InS.Ok x ∧ ∀ (i : Nat), i < N → InS.Ok (g_2 i)) ∧ Z0 (decide ((Yl (sameAt g x_1) N != wrap i64 (wrap i64 ((↑N : Int) - 1) - Yl (sameAt g_2 x) N)) = F)) True False) False) False) False) False) (by kernel_rfl) ?_
 conv => zeta
 try simp only [Zc]
 try simp only [Ze]
 try simp only [Zd]
 try simp only [Int.toNat_natCast, Nat.zero_add, true_and, and_true, Nat.le_refl]
 subst hF
 have hr : ∀ i, i < N → (Qh N g i).Ok := fun i hi => hg _ (by omega)
 refine ⟨g, x, rfl, rfl, ⟨hN, hx, hg⟩, g, rfl, hN, fun _ _ => trivial, Qh N g, x, rfl, rfl, ⟨hN, hx, hr⟩, ?_⟩
 have hb := Z5B (sameAt (Qh N g) x) N
 rw [w64 (x := (N : Int) - 1) (by omega), w64 (by omega)]
 unfold U0
 rfl
theorem Z74 (N : Nat) (g : Nat → InS) (x : InS) (num : Int) (outs : AV) (hN : N < 900000000000) (hx : x.Ok) (hg : ∀ i, i < N → (g i).Ok) : ZB PP 71 [.agg x.c, .pview [.int .i64 num, .vrows 130 N (Zf g) N, outs] 0] (.bool (U0 N g x)) 0 [] := .ev Zdh (Zdi N g x num outs _ hN hx hg rfl)
def Zb6 : ZW := fun args h K => ZL none h true 20 args fun a => match a with
 | [.agg cs, .pview [.int .i64 num, .vrows 130 n f m, outs] 0] => ∃ g x, f = Zf g ∧ cs = InS.c x ∧ (m = n ∧ n < 900000000000 ∧ x.Ok ∧ ∀ i, i < n → (g i).Ok) ∧ K (.bool (U0 n g x))
 | _ => False
theorem Z9j (args : List AV) (h : Z7) (K : AV → Prop) (hl : Zb6 args h K) : Zh PP 71 args h fun o h' => ∃ v, o = .ret v ∧ h' = h ∧ K v := by
 refine ZB.psumm (d := 20) (Zq _ _ _ _ _ hl fun a ha => ?_)
 split at ha
 ·obtain ⟨g, x, rfl, rfl, ⟨rfl, h1, h2, h3⟩, hK⟩ := ha
  exact ⟨_, Z74 _ g x _ _ h1 h2 h3, fun _ => rfl, hK⟩
 ·exact ha.elim
end Go.Tk
end
section
namespace Go.Tk
open IntKind (i64 u8 u32 u64 wrap)
def Vt (N : Nat) (g : Nat → InS) (y : InS) : Bool := !Y1 y || U0 N g y
noncomputable def Zi0 : Za := (G0.withP 71 Zb6).withP 76 (inS Y1)
theorem Zdj : Zi0.Ok := Za.withP_ok (Za.withP_ok Zv Z9j) Zg2
theorem Zdk (N : Nat) (g : Nat → InS) (y : InS) (num : Int) (outs : AV) (F : Bool) (hN : N < 900000000000) (hy : y.Ok) (hg : ∀ i, i < N → (g i).Ok) (hF : F = Vt N g y) :
  evF Zi0 20 75 [.agg y.c, .pview [.func (.func 71) [] [.pview [.int .i64 num, .vrows 130 N (Zf g) N, outs] 0]] 0] ⟨0, []⟩ (Yd 0 [] (.bool F) 0 []) := by
 refine @Eq.mpr _ (let q1 := y.name;
 let q2 := y.tag;
 let q3 := y.also;
 let q4 := y.secret;
 Z0 (decide (List.length q1 = 32 ∧ List.length q2 = 32 ∧ List.length q3 = 32 ∧ List.length q4 = 32)) (Z0 (!Y1 (InS.mk q1 y.index y.way q2 q3 q4)) (Z0 (decide (true = F)) True False) (∃ (g_1 : Nat → InS), ∃ (x : InS), Zf g = Zf g_1 ∧ [AV.arr u8 32 q1, AV.int i64 y.index, AV.int i64 y.way, AV.arr u8 32 q2, AV.arr u8 32 q3, AV.arr u8 32 q4] = InS.c x ∧ (N = N ∧ N < 900000000000 ∧ InS.Ok x ∧ ∀ (i : Nat), i < N → InS.Ok (g_1 i)) ∧ Z0 (decide (U0 N g_1 x = F)) True False)) False) (by kernel_rfl) ?_
 conv => zeta
 try simp only [Zc]
 try simp only [Ze]
 try simp only [Zd]
 try simp only [Int.toNat_natCast, Nat.zero_add, true_and, and_true, Nat.le_refl]
 subst hF
 refine ⟨⟨hy.name, hy.tag, hy.also, hy.secret⟩, ?_, ?_⟩
 ·intro h
  have h' : Y1 y = false := by simpa using h
  unfold Vt
  rw [h']
  rfl
 ·intro h
  refine ⟨g, y, rfl, rfl, ⟨hN, hy, hg⟩, ?_⟩
  have h' : Y1 y = true := by simpa using h
  unfold Vt
  rw [h']
  rfl
def Zb7 : ZW := fun args h K => ZL none h true 20 args fun a => match a with
 | [.agg cs, .pview [.func (.func 71) [] [.pview [.int .i64 num, .vrows 130 n f m, outs] 0]] 0] => ∃ g y, f = Zf g ∧ cs = InS.c y ∧ (m = n ∧ n < 900000000000 ∧ y.Ok ∧ ∀ i, i < n → (g i).Ok) ∧ K (.bool (Vt n g y))
 | _ => False
theorem Z9k (args : List AV) (h : Z7) (K : AV → Prop) (hl : Zb7 args h K) : Zh PP 75 args h fun o h' => ∃ v, o = .ret v ∧ h' = h ∧ K v := by
 refine ZB.psumm (d := 20) (Zq _ _ _ _ _ hl fun a ha => ?_)
 split at ha
 ·obtain ⟨g, x, rfl, rfl, ⟨rfl, h1, h2, h3⟩, hK⟩ := ha
  exact ⟨_, .ev Zdj (Zdk _ g x _ _ _ h1 h2 h3 rfl), fun _ => rfl, hK⟩
 ·exact ha.elim
noncomputable def Zgb : Za := G0.withP 75 Zb7
theorem Zdl : Zgb.Ok := Za.withP_ok Zv Z9k
def YG (N : Nat) (g : Nat → InS) : Nat → Bool := fun j => Vt N g (g j)
def Zgc (N : Nat) (g : Nat → InS) (num : Int) (outs : AV) (i : Nat) : St := ⟨19, [(1, .func (.func 75) [] [.pview [.func (.func 71) [] [.pview [.int .i64 num, .vrows 130 N (Zf g) N, outs] 0]] 0]), (0, .vrows 130 N (Zf g) N), (7, .int .i64 N), (8, .int .i64 i)], ⟨0, []⟩, []⟩
def Zi1 (i : Nat) : St := ⟨19, [(4, .int .i64 i)], ⟨0, []⟩, []⟩
def Zi2 (_ : Nat) : St := ⟨19, [], ⟨0, []⟩, []⟩
theorem Zi3 (N : Nat) (g : Nat → InS) (num : Int) (outs : AV) (i : Nat) (Z1 Z2 Z3 : Prop) (hC : N < 900000000000 ∧ ∀ i, i < N → (g i).Ok) (hi : i ≤ N) (h1 : i < N → YG N g i = false → Z1) (h2 : i = N → Z2) (h3 : i < N → YG N g i = true → Z3) :
  Zz Zgb 20 73 0 0 (Zgc N g num outs i) (fun e s => match e with | .normal => ZQ 0 [] (Zgc N g num outs (i + 1)) s Z1 | .exit x => (match Nat.beq x 0 with | true => ZQ 0 [] (Zi2 i) s Z2 | false => False) | .ret => ZQ 0 [] (Zi1 i) s Z3 | _ => False) := by
 refine @Eq.mpr _ (let q1 := Zf g;
 let q2 := g (Int.toNat (↑i : Int));
 let q3 := [AV.func (Fn.func 71) [] [AV.pview [AV.int i64 num, AV.vrows 130 N q1 N, outs] 0]];
 let q4 := decide (N = N);
 Z0 (decide ((↑i : Int) < (↑N : Int))) (Z0 (decide (0 ≤ (↑i : Int) ∧ (↑i : Int) < (↑N : Int))) (∃ (g : Nat → InS), ∃ (y : InS), q1 = Zf g ∧ [AV.arr u8 32 q2.name, AV.int i64 q2.index, AV.int i64 q2.way, AV.arr u8 32 q2.tag, AV.arr u8 32 q2.also, AV.arr u8 32 q2.secret] = InS.c y ∧ (N = N ∧ N < 900000000000 ∧ InS.Ok y ∧ ∀ (i : Nat), i < N → InS.Ok (g i)) ∧ Z0 (Vt N g y) (Z0 (decide ((↑i : Int) = (↑i : Int))) Z3 False) (q3 = q3 ∧ Z0 q4 (q1 = q1 ∧ Z0 q4 (Z0 (decide ((↑N : Int) = (↑N : Int))) (Z0 (decide (wrap i64 ((↑i : Int) + 1) = (↑(i + 1) : Int))) Z1 False) False) False) False)) False) Z2) (by kernel_rfl) ?_
 conv => zeta
 try simp only [Zc]
 try simp only [Ze]
 try simp only [Zd]
 try simp only [Int.toNat_natCast, Nat.zero_add, true_and, and_true, Nat.le_refl]
 refine ⟨fun hlt => ⟨by omega, g, g i, rfl, rfl, ⟨hC.1, hC.2 i (by omega), hC.2⟩, fun h => h3 (by omega) h, fun h => ⟨w64 (by omega), h1 (by omega) h⟩⟩, fun hge => h2 (by omega)⟩
noncomputable def Zi4 (N : Nat) (g : Nat → InS) (num : Int) (outs : AV) : Za := Zgb.withL 73 0 (goL 0 [] (Zgc N g num outs 0) (N < 900000000000 ∧ ∀ i, i < N → (g i).Ok) (Z0C 0 N (fun i => YG N g i = false) (fun i => i = N) (fun i => i < N ∧ YG N g i = true) Zi2 Zi1))
theorem Zdm (N : Nat) (g : Nat → InS) (num : Int) (outs : AV) : (Zi4 N g num outs).Ok :=
 Za.withGo (τ1 := []) (τ2 := []) (τ3 := []) (N := 20) Zdl (by kernel_rfl) fun hC => ⟨rfl, fun i hi _ => Zi3 N g num outs i _ _ _ hC hi (fun h1 h2 => ⟨h2, h1⟩) (fun h => h) (fun h1 h2 => ⟨h1, h2⟩)⟩
theorem Zi5 (N : Nat) (g : Nat → InS) (num : Int) (outs : AV) (F : Int) (hC : N < 900000000000 ∧ ∀ i, i < N → (g i).Ok) (hF : F = Yl (YG N g) N) :
  evF (Zi4 N g num outs) 20 73 [.vrows 130 N (Zf g) N, .func (.func 75) [] [.pview [.func (.func 71) [] [.pview [.int .i64 num, .vrows 130 N (Zf g) N, outs] 0]] 0]] ⟨0, []⟩ (Yd 0 [] (.int .i64 F) 0 []) := by
 refine @Eq.mpr _ (let q1 := Zf g;
 let q2 := [AV.func (Fn.func 71) [] [AV.pview [AV.int i64 num, AV.vrows 130 N q1 N, outs] 0]];
 let q3 := decide (N = N);
 q2 = q2 ∧ Z0 q3 (q1 = q1 ∧ Z0 q3 (Z0 (decide ((↑N : Int) = (↑N : Int))) ((N < 900000000000 ∧ ∀ (i : Nat), i < N → InS.Ok (g i)) ∧ ∀ (i : Nat), i ≤ N → (∀ (j : Nat), j < i → (fun (i : Nat) => YG N g i = false) j) → (i = N → Z0 (decide (-1 = F)) True False) ∧ (i < N ∧ YG N g i = true → Z0 (decide ((↑i : Int) = F)) True False)) False) False) False) (by kernel_rfl) ?_
 conv => zeta
 try simp only [Zc]
 try simp only [Ze]
 try simp only [Zd]
 try simp only [Int.toNat_natCast, Nat.zero_add, true_and, and_true, Nat.le_refl]
 subst hF
 exact ⟨hC, fun i hi hgo => ⟨fun h => by subst h; exact (Wp hgo).symm, fun h => (Wo h.1 hgo h.2).symm⟩⟩
theorem Zb8 (N : Nat) (g : Nat → InS) (num : Int) (outs : AV) (hC : N < 900000000000 ∧ ∀ i, i < N → (g i).Ok) : ZB PP 73 [.vrows 130 N (Zf g) N, .func (.func 75) [] [.pview [.func (.func 71) [] [.pview [.int .i64 num, .vrows 130 N (Zf g) N, outs] 0]] 0]] (.int .i64 (Yl (YG N g) N)) 0 [] := .ev (Zdm N g num outs) (Zi5 N g num outs _ hC rfl)
theorem Vc (p : Nat → Bool) (n : Nat) : decide (0 ≤ Yl p n) = (List.range n).any p := by
 rcases WF p n with ⟨h, h2⟩ | ⟨i, hi, h, h2, _⟩
 ·rw [h]
  have : (List.range n).any p = false := by
   rw [List.any_eq_false]
   intro j hj
   simp [h2 j (List.mem_range.1 hj)]
  rw [this]; rfl
 ·rw [h]
  have : (List.range n).any p = true := List.any_eq_true.2 ⟨i, List.mem_range.2 hi, h2⟩
  rw [this]; simp
def Zi6 : ZW := fun args h K => ZL none h true 20 args fun a => match a with
 | [.vrows 130 n f m, .func (.func 75) [] [.pview [.func (.func 71) [] [.pview [.int .i64 num, .vrows 130 n' f' m', outs] 0]] 0]] => ∃ g, f = Zf g ∧ f' = Zf g ∧ (m = n ∧ n' = n ∧ m' = n ∧ n < 900000000000 ∧ ∀ i, i < n → (g i).Ok) ∧ K (.int .i64 (Yl (YG n g) n))
 | _ => False
theorem Zdn (args : List AV) (h : Z7) (K : AV → Prop) (hl : Zi6 args h K) : Zh PP 73 args h fun o h' => ∃ v, o = .ret v ∧ h' = h ∧ K v := by
 refine ZB.psumm (d := 20) (Zq _ _ _ _ _ hl fun a ha => ?_)
 split at ha
 ·obtain ⟨g, rfl, rfl, ⟨rfl, rfl, rfl, h1, h2⟩, hK⟩ := ha
  exact ⟨_, Zb8 _ g _ _ ⟨h1, h2⟩, fun _ => rfl, hK⟩
 ·exact ha.elim
noncomputable def Zi7 : Za := G0.withP 56 (Zg3 ZG)
theorem Zdo : Zi7.Ok := Za.withP_ok Zv Zd9
def Qi (o : ZF) : Bool := !ZG o
theorem Zb9 (o : ZF) (F : Bool) (ho : o.Ok) (hF : F = Qi o) :
  evF Zi7 20 81 [.agg o.c] ⟨0, []⟩ (Yd 0 [] (.bool F) 0 []) := by
 refine @Eq.mpr _ (Z0 (decide (List.length o.owner = 32 ∧ List.length o.other = 32 ∧ List.length o.point = 32 ∧ List.length o.hash = 32)) (Z0 (decide ((!ZG (ZF.mk o.kind o.amount o.owner o.other o.point o.hash o.delay o.expiry)) = F)) True False) False) (by kernel_rfl) ?_
 try simp only [Zc]
 try simp only [Ze]
 try simp only [Zd]
 try simp only [Int.toNat_natCast, Nat.zero_add, true_and, and_true, Nat.le_refl]
 subst hF
 exact ⟨⟨ho.owner, ho.other, ho.point, ho.hash⟩, rfl⟩
def Z86 : ZW := fun args h K => ZL none h true 20 args fun a => match a with
 | [.agg cs] => ∃ o, cs = ZF.c o ∧ o.Ok ∧ K (.bool (Qi o))
 | _ => False
theorem Z75 (args : List AV) (h : Z7) (K : AV → Prop) (hl : Z86 args h K) : Zh PP 81 args h fun o h' => ∃ v, o = .ret v ∧ h' = h ∧ K v := by
 refine ZB.psumm (d := 20) (Zq _ _ _ _ _ hl fun a ha => ?_)
 split at ha
 ·obtain ⟨x, rfl, h1, hK⟩ := ha
  exact ⟨_, .ev Zdo (Zb9 x _ h1 rfl), fun _ => rfl, hK⟩
 ·exact ha.elim
noncomputable def Zgd : Za := G0.withP 81 Z86
theorem Zdp : Zgd.Ok := Za.withP_ok Zv Z75
def Yj (g : Nat → ZF) : Nat → Bool := fun j => Qi (g j)
def Zge (N : Nat) (g : Nat → ZF) (i : Nat) : St := ⟨19, [(1, .func (.func 81) [] []), (0, .vrows 132 N (Zn g) N), (7, .int .i64 N), (8, .int .i64 i)], ⟨0, []⟩, []⟩
def Zi8 (i : Nat) : St := ⟨19, [(4, .int .i64 i)], ⟨0, []⟩, []⟩
def Zi9 (_ : Nat) : St := ⟨19, [], ⟨0, []⟩, []⟩
theorem Zia (N : Nat) (g : Nat → ZF) (i : Nat) (Z1 Z2 Z3 : Prop) (hC : N < 900000000000 ∧ ∀ i, i < N → (g i).Ok) (hi : i ≤ N) (h1 : i < N → Yj g i = false → Z1) (h2 : i = N → Z2) (h3 : i < N → Yj g i = true → Z3) :
  Zz Zgd 20 127 0 0 (Zge N g i) (fun e s => match e with | .normal => ZQ 0 [] (Zge N g (i + 1)) s Z1 | .exit x => (match Nat.beq x 0 with | true => ZQ 0 [] (Zi9 i) s Z2 | false => False) | .ret => ZQ 0 [] (Zi8 i) s Z3 | _ => False) := by
 refine @Eq.mpr _ (let q1 := g (Int.toNat (↑i : Int));
 let q2 := decide (N = N);
 Z0 (decide ((↑i : Int) < (↑N : Int))) (Z0 (decide (0 ≤ (↑i : Int) ∧ (↑i : Int) < (↑N : Int))) (∃ (o : ZF), [AV.int i64 q1.kind, AV.int i64 q1.amount, AV.arr u8 32 q1.owner, AV.arr u8 32 q1.other, AV.arr u8 32 q1.point, AV.arr u8 32 q1.hash, AV.int i64 q1.delay, AV.int i64 q1.expiry] = ZF.c o ∧ ZF.Ok o ∧ Z0 (Qi o) (Z0 (decide ((↑i : Int) = (↑i : Int))) Z3 False) (Z0 q2 (Zn g = Zn g ∧ Z0 q2 (Z0 (decide ((↑N : Int) = (↑N : Int))) (Z0 (decide (wrap i64 ((↑i : Int) + 1) = (↑(i + 1) : Int))) Z1 False) False) False) False)) False) Z2) (by kernel_rfl) ?_
 conv => zeta
 try simp only [Zc]
 try simp only [Ze]
 try simp only [Zd]
 try simp only [Int.toNat_natCast, Nat.zero_add, true_and, and_true, Nat.le_refl]
 refine ⟨fun hlt => ⟨by omega, g i, rfl, hC.2 i (by omega), fun h => h3 (by omega) h, fun h => ⟨w64 (by omega), h1 (by omega) h⟩⟩, fun hge => h2 (by omega)⟩
noncomputable def Zib (N : Nat) (g : Nat → ZF) : Za := Zgd.withL 127 0 (goL 0 [] (Zge N g 0) (N < 900000000000 ∧ ∀ i, i < N → (g i).Ok) (Z0C 0 N (fun i => Yj g i = false) (fun i => i = N) (fun i => i < N ∧ Yj g i = true) Zi9 Zi8))
theorem Zdq (N : Nat) (g : Nat → ZF) : (Zib N g).Ok :=
 Za.withGo (τ1 := []) (τ2 := []) (τ3 := []) (N := 20) Zdp (by kernel_rfl) fun hC => ⟨rfl, fun i hi _ => Zia N g i _ _ _ hC hi (fun h1 h2 => ⟨h2, h1⟩) (fun h => h) (fun h1 h2 => ⟨h1, h2⟩)⟩
theorem Zic (N : Nat) (g : Nat → ZF) (F : Int) (hC : N < 900000000000 ∧ ∀ i, i < N → (g i).Ok) (hF : F = Yl (Yj g) N) :
  evF (Zib N g) 20 127 [.vrows 132 N (Zn g) N, .func (.func 81) [] []] ⟨0, []⟩ (Yd 0 [] (.int .i64 F) 0 []) := by
 refine @Eq.mpr _ (let q1 := decide (N = N);
 Z0 q1 (Zn g = Zn g ∧ Z0 q1 (Z0 (decide ((↑N : Int) = (↑N : Int))) ((N < 900000000000 ∧ ∀ (i : Nat), i < N → ZF.Ok (g i)) ∧ ∀ (i : Nat), i ≤ N → (∀ (j : Nat), j < i → (fun (i : Nat) => Yj g i = false) j) → (i = N → Z0 (decide (-1 = F)) True False) ∧ (i < N ∧ Yj g i = true → Z0 (decide ((↑i : Int) = F)) True False)) False) False) False) (by kernel_rfl) ?_
 conv => zeta
 try simp only [Zc]
 try simp only [Ze]
 try simp only [Zd]
 try simp only [Int.toNat_natCast, Nat.zero_add, true_and, and_true, Nat.le_refl]
 subst hF
 exact ⟨hC, fun i hi hgo => ⟨fun h => by subst h; exact (Wp hgo).symm, fun h => (Wo h.1 hgo h.2).symm⟩⟩
theorem Zba (N : Nat) (g : Nat → ZF) (hC : N < 900000000000 ∧ ∀ i, i < N → (g i).Ok) : ZB PP 127 [.vrows 132 N (Zn g) N, .func (.func 81) [] []] (.int .i64 (Yl (Yj g) N)) 0 [] := .ev (Zdq N g) (Zic N g _ hC rfl)
def Zid : ZW := fun args h K => ZL none h true 20 args fun a => match a with
 | [.vrows 132 n f m, .func (.func 81) [] []] => ∃ g, f = Zn g ∧ (m = n ∧ n < 900000000000 ∧ ∀ i, i < n → (g i).Ok) ∧ K (.int .i64 (Yl (Yj g) n))
 | _ => False
theorem Zdr (args : List AV) (h : Z7) (K : AV → Prop) (hl : Zid args h K) : Zh PP 127 args h fun o h' => ∃ v, o = .ret v ∧ h' = h ∧ K v := by
 refine ZB.psumm (d := 20) (Zq _ _ _ _ _ hl fun a ha => ?_)
 split at ha
 ·obtain ⟨g, rfl, ⟨rfl, h1, h2⟩, hK⟩ := ha
  exact ⟨_, Zba _ g ⟨h1, h2⟩, fun _ => rfl, hK⟩
 ·exact ha.elim
end Go.Tk
end
section
namespace Go.Tk
open IntKind (i64 u8 u32 u64 wrap)
def XL (m x : Int) : Bool := decide (x < 0 ∨ x > m)
theorem Zgf (m x : Int) (F : Bool) (hF : F = XL m x) :
  evF G0 20 155 [.int .i64 x, .pview [.int .i64 m] 0] ⟨0, []⟩ (Yd 0 [] (.bool F) 0 []) := by
 refine @Eq.mpr _ (Z0 (decide (x < 0)) (Z0 (decide (true = F)) True False) (Z0 (decide (decide (x > m) = F)) True False)) (by kernel_rfl) ?_
 try simp only [Zc]
 try simp only [Ze]
 try simp only [Zd]
 try simp only [Int.toNat_natCast, Nat.zero_add, true_and, and_true, Nat.le_refl]
 subst hF
 unfold XL
 refine ⟨fun h => ?_, fun h => ?_⟩ <;> simp [h]
theorem Zds (x : Int) (F : Bool) (hF : F = XL 4611686018427387904 x) :
  evF G0 20 160 [.int .i64 x] ⟨0, []⟩ (Yd 0 [] (.bool F) 0 []) := by
 refine @Eq.mpr _ (Z0 (decide (x < 0)) (Z0 (decide (true = F)) True False) (Z0 (decide (decide (x > 4611686018427387904) = F)) True False)) (by kernel_rfl) ?_
 try simp only [Zc]
 try simp only [Ze]
 try simp only [Zd]
 try simp only [Int.toNat_natCast, Nat.zero_add, true_and, and_true, Nat.le_refl]
 subst hF
 unfold XL
 refine ⟨fun h => ?_, fun h => ?_⟩ <;> simp [h]
def Zfu : ZW := fun args h K => ZL none h true 20 args fun a => match a with
 | [.int .i64 x, .pview [.int .i64 m] 0] => K (.bool (XL m x))
 | _ => False
theorem Zbb (args : List AV) (h : Z7) (K : AV → Prop) (hl : Zfu args h K) : Zh PP 155 args h fun o h' => ∃ v, o = .ret v ∧ h' = h ∧ K v := by
 refine ZB.psumm (d := 20) (Zq _ _ _ _ _ hl fun a ha => ?_)
 split at ha
 ·exact ⟨_, .ev Zv (Zgf _ _ _ rfl), fun _ => rfl, ha⟩
 ·exact ha.elim
def Zbc (T : Int) : ZW := fun args h K => ZL none h true 20 args fun a => match a with
 | [.int .i64 x] => K (.bool (XL T x))
 | _ => False
theorem Z9l (args : List AV) (h : Z7) (K : AV → Prop) (hl : Zbc 4611686018427387904 args h K) : Zh PP 160 args h fun o h' => ∃ v, o = .ret v ∧ h' = h ∧ K v := by
 refine ZB.psumm (d := 20) (Zq _ _ _ _ _ hl fun a ha => ?_)
 split at ha
 ·exact ⟨_, .ev Zv (Zds _ _ rfl), fun _ => rfl, ha⟩
 ·exact ha.elim
noncomputable def Zie (T : Int) : Za := (G0.withP 155 Zfu).withP 160 (Zbc T)
theorem Zdt : (Zie 4611686018427387904).Ok := Za.withP_ok (Za.withP_ok Zv Zbb) Z9l
def ZZ (m : Int) (xs : List Int) : Nat → Bool := fun j => XL m (xs.getD j 0)
noncomputable def Zbd : Za := Zie 4611686018427387904
theorem Z87 : Zbd.Ok := Zdt
def Zgg (xs : List Int) (N : Nat) (m : Int) (i : Nat) : St := ⟨19, [(1, .func (.func 155) [] [.pview [.int .i64 m] 0]), (0, .vints .i64 xs N), (7, .int .i64 N), (8, .int .i64 i)], ⟨0, []⟩, []⟩
def Zif (i : Nat) : St := ⟨19, [(4, .int .i64 i)], ⟨0, []⟩, []⟩
def Zig (_ : Nat) : St := ⟨19, [], ⟨0, []⟩, []⟩
theorem Zih (xs : List Int) (N : Nat) (m : Int) (i : Nat) (Z1 Z2 Z3 : Prop) (hC : N < 900000000000 ∧ xs.length = N) (hi : i ≤ N) (h1 : i < N → ZZ m xs i = false → Z1) (h2 : i = N → Z2) (h3 : i < N → ZZ m xs i = true → Z3) :
  Zz Zbd 20 186 0 0 (Zgg xs N m i) (fun e s => match e with | .normal => ZQ 0 [] (Zgg xs N m (i + 1)) s Z1 | .exit x => (match Nat.beq x 0 with | true => ZQ 0 [] (Zig i) s Z2 | false => False) | .ret => ZQ 0 [] (Zif i) s Z3 | _ => False) := by
 refine @Eq.mpr _ (let q1 := [AV.int i64 m];
 Z0 (decide ((↑i : Int) < (↑N : Int))) (Z0 (decide (0 ≤ (↑i : Int) ∧ (↑i : Int) < (↑N : Int))) (Z0 (XL m (List.getD xs (Int.toNat (↑i : Int)) 0)) (Z0 (decide ((↑i : Int) = (↑i : Int))) Z3 False) (q1 = q1 ∧ xs = xs ∧ Z0 (decide (N = N)) (Z0 (decide ((↑N : Int) = (↑N : Int))) (Z0 (decide (wrap i64 ((↑i : Int) + 1) = (↑(i + 1) : Int))) Z1 False) False) False)) False) Z2) (by kernel_rfl) ?_
 conv => zeta
 try simp only [Zc]
 try simp only [Ze]
 try simp only [Zd]
 try simp only [Int.toNat_natCast, Nat.zero_add, true_and, and_true, Nat.le_refl]
 refine ⟨fun hlt => ⟨by omega, fun h => h3 (by omega) h, fun h => ⟨w64 (by omega), h1 (by omega) h⟩⟩, fun hge => h2 (by omega)⟩
noncomputable def Zii (xs : List Int) (N : Nat) (m : Int) : Za := Zbd.withL 186 0 (goL 0 [] (Zgg xs N m 0) (N < 900000000000 ∧ xs.length = N) (Z0C 0 N (fun i => ZZ m xs i = false) (fun i => i = N) (fun i => i < N ∧ ZZ m xs i = true) Zig Zif))
theorem Zdu (xs : List Int) (N : Nat) (m : Int) : (Zii xs N m).Ok :=
 Za.withGo (τ1 := []) (τ2 := []) (τ3 := []) (N := 20) Z87 (by kernel_rfl) fun hC => ⟨rfl, fun i hi _ => Zih xs N m i _ _ _ hC hi (fun h1 h2 => ⟨h2, h1⟩) (fun h => h) (fun h1 h2 => ⟨h1, h2⟩)⟩
theorem Zij (xs : List Int) (N : Nat) (m : Int) (F : Int) (hC : N < 900000000000 ∧ xs.length = N) (hF : F = Yl (ZZ m xs) N) :
  evF (Zii xs N m) 20 186 [.vints .i64 xs N, .func (.func 155) [] [.pview [.int .i64 m] 0]] ⟨0, []⟩ (Yd 0 [] (.int .i64 F) 0 []) := by
 refine @Eq.mpr _ (let q1 := [AV.int i64 m];
 q1 = q1 ∧ xs = xs ∧ Z0 (decide (N = N)) (Z0 (decide ((↑N : Int) = (↑N : Int))) ((N < 900000000000 ∧ List.length xs = N) ∧ ∀ (i : Nat), i ≤ N → (∀ (j : Nat), j < i → (fun (i : Nat) => ZZ m xs i = false) j) → (i = N → Z0 (decide (-1 = F)) True False) ∧ (i < N ∧ ZZ m xs i = true → Z0 (decide ((↑i : Int) = F)) True False)) False) False) (by kernel_rfl) ?_
 conv => zeta
 try simp only [Zc]
 try simp only [Ze]
 try simp only [Zd]
 try simp only [Int.toNat_natCast, Nat.zero_add, true_and, and_true, Nat.le_refl]
 subst hF
 exact ⟨hC, fun i hi hgo => ⟨fun h => by subst h; exact (Wp hgo).symm, fun h => (Wo h.1 hgo h.2).symm⟩⟩
theorem Zbe (xs : List Int) (N : Nat) (m : Int) (hC : N < 900000000000 ∧ xs.length = N) : ZB PP 186 [.vints .i64 xs N, .func (.func 155) [] [.pview [.int .i64 m] 0]] (.int .i64 (Yl (ZZ m xs) N)) 0 [] := .ev (Zdu xs N m) (Zij xs N m _ hC rfl)
def Zgh (xs : List Int) (N : Nat) (i : Nat) : St := ⟨19, [(1, .func (.func 160) [] []), (0, .vints .i64 xs N), (7, .int .i64 N), (8, .int .i64 i)], ⟨0, []⟩, []⟩
def Zik (i : Nat) : St := ⟨19, [(4, .int .i64 i)], ⟨0, []⟩, []⟩
def Zil (_ : Nat) : St := ⟨19, [], ⟨0, []⟩, []⟩
theorem Zim (xs : List Int) (N : Nat) (i : Nat) (Z1 Z2 Z3 : Prop) (hC : N < 900000000000 ∧ xs.length = N) (hi : i ≤ N) (h1 : i < N → ZZ 4611686018427387904 xs i = false → Z1) (h2 : i = N → Z2) (h3 : i < N → ZZ 4611686018427387904 xs i = true → Z3) :
  Zz Zbd 20 186 0 0 (Zgh xs N i) (fun e s => match e with | .normal => ZQ 0 [] (Zgh xs N (i + 1)) s Z1 | .exit x => (match Nat.beq x 0 with | true => ZQ 0 [] (Zil i) s Z2 | false => False) | .ret => ZQ 0 [] (Zik i) s Z3 | _ => False) := by
 refine @Eq.mpr _ (Z0 (decide ((↑i : Int) < (↑N : Int))) (Z0 (decide (0 ≤ (↑i : Int) ∧ (↑i : Int) < (↑N : Int))) (Z0 (XL 4611686018427387904 (List.getD xs (Int.toNat (↑i : Int)) 0)) (Z0 (decide ((↑i : Int) = (↑i : Int))) Z3 False) (xs = xs ∧ Z0 (decide (N = N)) (Z0 (decide ((↑N : Int) = (↑N : Int))) (Z0 (decide (wrap i64 ((↑i : Int) + 1) = (↑(i + 1) : Int))) Z1 False) False) False)) False) Z2) (by kernel_rfl) ?_
 try simp only [Zc]
 try simp only [Ze]
 try simp only [Zd]
 try simp only [Int.toNat_natCast, Nat.zero_add, true_and, and_true, Nat.le_refl]
 refine ⟨fun hlt => ⟨by omega, fun h => h3 (by omega) h, fun h => ⟨w64 (by omega), h1 (by omega) h⟩⟩, fun hge => h2 (by omega)⟩
noncomputable def Zin (xs : List Int) (N : Nat) : Za := Zbd.withL 186 0 (goL 0 [] (Zgh xs N 0) (N < 900000000000 ∧ xs.length = N) (Z0C 0 N (fun i => ZZ 4611686018427387904 xs i = false) (fun i => i = N) (fun i => i < N ∧ ZZ 4611686018427387904 xs i = true) Zil Zik))
theorem Zdv (xs : List Int) (N : Nat) : (Zin xs N).Ok :=
 Za.withGo (τ1 := []) (τ2 := []) (τ3 := []) (N := 20) Z87 (by kernel_rfl) fun hC => ⟨rfl, fun i hi _ => Zim xs N i _ _ _ hC hi (fun h1 h2 => ⟨h2, h1⟩) (fun h => h) (fun h1 h2 => ⟨h1, h2⟩)⟩
theorem Zio (xs : List Int) (N : Nat) (F : Int) (hC : N < 900000000000 ∧ xs.length = N) (hF : F = Yl (ZZ 4611686018427387904 xs) N) :
  evF (Zin xs N) 20 186 [.vints .i64 xs N, .func (.func 160) [] []] ⟨0, []⟩ (Yd 0 [] (.int .i64 F) 0 []) := by
 refine @Eq.mpr _ (xs = xs ∧ Z0 (decide (N = N)) (Z0 (decide ((↑N : Int) = (↑N : Int))) ((N < 900000000000 ∧ List.length xs = N) ∧ ∀ (i : Nat), i ≤ N → (∀ (j : Nat), j < i → (fun (i : Nat) => ZZ 4611686018427387904 xs i = false) j) → (i = N → Z0 (decide (-1 = F)) True False) ∧ (i < N ∧ ZZ 4611686018427387904 xs i = true → Z0 (decide ((↑i : Int) = F)) True False)) False) False) (by kernel_rfl) ?_
 try simp only [Zc]
 try simp only [Ze]
 try simp only [Zd]
 try simp only [Int.toNat_natCast, Nat.zero_add, true_and, and_true, Nat.le_refl]
 subst hF
 exact ⟨hC, fun i hi hgo => ⟨fun h => by subst h; exact (Wp hgo).symm, fun h => (Wo h.1 hgo h.2).symm⟩⟩
theorem Zbf (xs : List Int) (N : Nat) (hC : N < 900000000000 ∧ xs.length = N) : ZB PP 186 [.vints .i64 xs N, .func (.func 160) [] []] (.int .i64 (Yl (ZZ 4611686018427387904 xs) N)) 0 [] := .ev (Zdv xs N) (Zio xs N _ hC rfl)
def Zip (T : Int) : ZW := fun args h K => ZL none h true 20 args fun a => match a with
 | [.vints .i64 xs n, .func (.func 155) [] [.pview [.int .i64 m] 0]] => Zs (xs.length = n ∧ n < 900000000000) (K (.int .i64 (Yl (ZZ m xs) n)))
 | [.vints .i64 xs n, .func (.func 160) [] []] => Zs (xs.length = n ∧ n < 900000000000) (K (.int .i64 (Yl (ZZ T xs) n)))
 | _ => False
theorem Zdw (args : List AV) (h : Z7) (K : AV → Prop) (hl : Zip 4611686018427387904 args h K) : Zh PP 186 args h fun o h' => ∃ v, o = .ret v ∧ h' = h ∧ K v := by
 refine ZB.psumm (d := 20) (Zq _ _ _ _ _ hl fun a ha => ?_)
 split at ha
 ·obtain ⟨⟨h1, h2⟩, hK⟩ := Z9 ha
  exact ⟨_, Zbe _ _ _ ⟨h2, h1⟩, fun _ => rfl, hK⟩
 ·obtain ⟨⟨h1, h2⟩, hK⟩ := Z9 ha
  exact ⟨_, Zbf _ _ ⟨h2, h1⟩, fun _ => rfl, hK⟩
 ·exact ha.elim
noncomputable def Ziq (T : Int) : Za := G0.withP 186 (Zip T)
theorem Zdx : (Ziq 4611686018427387904).Ok := Za.withP_ok Zv Zdw
@[irreducible] def allIn (m : Int) (xs : List Int) : Bool := !((List.range xs.length).any (ZZ m xs))
theorem Zdy (T : Int) (xs : List Int) (N : Nat) (F : Int) (hC : N < 900000000000 ∧ xs.length = N) (hF : F = if allIn 1125899906842624 xs then 0 else 2) :
  evF (Ziq T) 20 63 [.vints .i64 xs N] ⟨0, []⟩ (Yd 0 [] (.int .i64 F) 0 []) := by
 refine @Eq.mpr _ (Z0 (decide (List.length xs = N ∧ N < 900000000000)) (Z0 (!!decide (Yl (ZZ 1125899906842624 xs) N ≥ 0)) (Z0 (decide (2 = F)) True False) (Z0 (decide (0 = F)) True False)) False) (by kernel_rfl) ?_
 try simp only [Zc]
 try simp only [Ze]
 try simp only [Zd]
 try simp only [Int.toNat_natCast, Nat.zero_add, true_and, and_true, Nat.le_refl]
 obtain ⟨h1, h2⟩ := hC
 subst h2
 have hb := Vc (ZZ 1125899906842624 xs) xs.length
 refine ⟨⟨rfl, h1⟩, fun h => ?_, fun h => ?_⟩
 ·rw [hF]
  unfold allIn
  rw [← hb]
  simp at h
  simp [h]
 ·rw [hF]
  unfold allIn
  rw [← hb]
  simp at h
  simp [h]
def Zbg (m : Int) : ZW := fun args h K => ZL none h true 20 args fun a => match a with
 | [.vints .i64 xs n] => Zs (xs.length = n ∧ n < 900000000000) (Z0 (allIn m xs) (K (.int .i64 0)) (K (.int .i64 2)))
 | _ => False
theorem Z9m (args : List AV) (h : Z7) (K : AV → Prop) (hl : Zbg 1125899906842624 args h K) : Zh PP 63 args h fun o h' => ∃ v, o = .ret v ∧ h' = h ∧ K v := by
 refine ZB.psumm (d := 20) (Zq _ _ _ _ _ hl fun a ha => ?_)
 split at ha
 ·obtain ⟨⟨h1, h2⟩, hK⟩ := Z9 ha
  refine ⟨_, .ev (Zdx) (Zdy _ _ _ _ ⟨h2, h1⟩ rfl), fun _ => rfl, ?_⟩
  rw [Zd] at hK
  split
  ·rename_i h; exact hK.1 h
  ·rename_i h; exact hK.2 (by simpa using h)
 ·exact ha.elim
end Go.Tk
end
section
namespace Go.Tk
open IntKind (i64 u8 u32 u64 wrap)
def XM (xs : List Int) (i : Nat) : Int := (xs.take i).sum
theorem Z0e {xs : List Int} {i : Nat} (h : i < xs.length) : XM xs (i + 1) = XM xs i + xs.getD i 0 := by
 unfold XM
 rw [List.take_succ_eq_append_getElem h, List.sum_append]
 simp [List.getD_eq_getElem?_getD, h]
theorem Z0f {m : Int} {xs : List Int} (h : allIn m xs = true) {i : Nat} (hi : i < xs.length) : 0 ≤ xs.getD i 0 ∧ xs.getD i 0 ≤ m := by
 unfold allIn at h
 rw [Bool.not_eq_true'] at h
 rw [List.any_eq_false] at h
 have := h i (List.mem_range.2 hi)
 simp [ZZ, XL, -List.getD_eq_getElem?_getD] at this
 exact this
theorem Z5C {m : Int} {xs : List Int} (h : allIn m xs = true) : ∀ {i : Nat}, i ≤ xs.length → 0 ≤ XM xs i
 | 0, _ => by simp [XM]
 | i + 1, hi => by
  rw [Z0e (by omega)]
  have := Z0f h (i := i) (by omega)
  have := Z5C h (i := i) (by omega)
  omega
theorem Z3p {m : Int} {xs : List Int} (h : allIn m xs = true) : ∀ (d i : Nat), i + d ≤ xs.length → XM xs i ≤ XM xs (i + d)
 | 0, i, _ => Int.le_refl _
 | d + 1, i, hi => by
  have h1 := Z3p h d i (by omega)
  rw [← Nat.add_assoc, Z0e (by omega)]
  have := Z0f h (i := i + d) (by omega)
  omega
def adS (xs : List Int) (i : Nat) : St := ⟨24, [(10, .vints .i64 xs xs.length), (3, .int .i64 150), (11, .int .i64 xs.length), (12, .int .i64 i), (2, .int .i64 (XM xs i))], ⟨0, []⟩, []⟩
def adE (xs : List Int) (i : Nat) : St := ⟨24, [(3, .int .i64 150), (2, .int .i64 (XM xs i))], ⟨0, []⟩, []⟩
def adJ (_ : Nat) : St := ⟨24, [(3, .int .i64 150)], ⟨0, []⟩, []⟩
theorem Zir (xs : List Int) (i : Nat) (Z1 Z2 Z4 : Prop) (M : Int) (hM : M = 1125899906842624) (hn : xs.length < 900000000000) (hall : allIn M xs = true) (hi : i ≤ xs.length) (hgo : ∀ j, j < i → XM xs (j + 1) ≤ M) (h1 : i < xs.length → XM xs (i + 1) ≤ M → Z1) (h2 : i = xs.length → Z2) (h4 : i < xs.length → M < XM xs (i + 1) → Z4) :
  Zz G0 20 40 0 0 (adS xs i) (fun e s => match e with | .normal => ZQ 0 [] (adS xs (i + 1)) s Z1 | .exit x => (match Nat.beq x 0 with | true => ZQ 0 [] (adE xs i) s Z2 | false => False) | .ret => ZQ 0 [] (adJ i) s False | .goto x => (match Nat.beq x 0 with | true => ZQ 0 [] (adJ i) s Z4 | false => False) | _ => False) := by
 refine @Eq.mpr _ (let q1 := List.length xs;
 let q2 := (↑q1 : Int);
 let q3 := XM xs i;
 let q4 := wrap i64 (q3 + List.getD xs (Int.toNat (↑i : Int)) 0);
 Z0 (decide ((↑i : Int) < q2)) (Z0 (decide (0 ≤ (↑i : Int) ∧ (↑i : Int) < q2)) (Z0 (decide (q4 > 1125899906842624)) Z4 (xs = xs ∧ Z0 (decide (q1 = q1)) (Z0 (decide (q2 = q2)) (Z0 (decide (wrap i64 ((↑i : Int) + 1) = (↑(i + 1) : Int))) (Z0 (decide (q4 = XM xs (i + 1))) Z1 False) False) False) False)) False) (Z0 (decide (q3 = q3)) Z2 False)) (by kernel_rfl) ?_
 conv => zeta
 try simp only [Zc]
 try simp only [Ze]
 try simp only [Zd]
 try simp only [Int.toNat_natCast, Nat.zero_add, true_and, and_true, Nat.le_refl]
 subst hM
 refine ⟨fun hlt => ⟨by omega, ?_⟩, fun hge => h2 (by omega)⟩
 have hs := Z0e (xs := xs) (i := i) (by omega)
 have hx := Z0f hall (i := i) (by omega)
 have hp := Z5C hall hi
 have hq : XM xs i ≤ 1125899906842624 := by
  cases i with
  | zero => simp [XM]
  | succ j => exact hgo j (by omega)
 have hw : i64.wrap (XM xs i + xs.getD i 0) = XM xs (i + 1) := by rw [w64 (by omega)]; exact hs.symm
 rw [hw]
 have hw2 : i64.wrap ((i : Int) + 1) = ((i + 1 : Nat) : Int) := w64 (by omega)
 refine ⟨fun h => h4 (by omega) (by omega), fun h => ?_⟩
 rw [hw2]
 simp [h1 (by omega) (by omega)]
noncomputable def Zis (m M : Int) (xs : List Int) : Za := (G0.withL 40 0 (goL 0 [] (adS xs 0) (allIn M xs = true ∧ xs.length < 900000000000) (ZT 0 xs.length 0 (fun i => XM xs (i + 1) ≤ M) (fun i => i = xs.length) (fun _ => False) (fun i => i < xs.length ∧ M < XM xs (i + 1)) (adE xs) adJ adJ))).withP 63 (Zbg m)
theorem Zdz (xs : List Int) : (Zis 1125899906842624 1125899906842624 xs).Ok :=
 Za.withP_ok (Za.withGoJ (τ1 := []) (τ2 := []) (τ3 := []) (τ4 := []) (N := 20) Zv (by kernel_rfl) fun hC => ⟨rfl, fun i hi hgo => Zir xs i _ _ _ _ rfl hC.2 hC.1 hi hgo (fun h1 h2 => ⟨h2, h1⟩) (fun h => h) (fun h1 h2 => ⟨h1, h2⟩)⟩) Z9m
@[irreducible] def Y0 (xs : List Int) : Int × Int := if allIn 1125899906842624 xs = true then (if xs.sum ≤ 1125899906842624 then (xs.sum, 0) else (0, 150)) else (0, 2)
theorem Zit (xs : List Int) (m M : Int) (F : Int × Int) (hm : m = 1125899906842624) (hM : M = 1125899906842624) (hn : xs.length < 900000000000) (hF : F = Y0 xs) :
  evF (Zis m M xs) 20 40 [.vints .i64 xs xs.length] ⟨0, []⟩ (Yd 0 [] (.tuple [.int .i64 F.1, .int .i64 F.2]) 0 []) := by
 refine @Eq.mpr _ (let q1 := List.length xs;
 let q2 := (↑q1 : Int);
 let q3 := decide (0 = F.fst);
 Z0 (decide (q1 = q1 ∧ q1 < 900000000000)) (Z0 (allIn m xs) (xs = xs ∧ Z0 (decide (q1 = q1)) (Z0 (decide (q2 = q2)) ((allIn M xs = true ∧ q1 < 900000000000) ∧ ∀ (i : Nat), i ≤ q1 → (∀ (j : Nat), j < i → (fun (i : Nat) => XM xs (i + 1) ≤ M) j) → (i = q1 → Z0 (decide (XM xs i = F.fst)) (Z0 (decide (0 = F.snd)) True False) False) ∧ (False → False) ∧ (i < q1 ∧ M < XM xs (i + 1) → Z0 q3 (Z0 (decide (150 = F.snd)) True False) False)) False) False) (Z0 q3 (Z0 (decide (2 = F.snd)) True False) False)) False) (by kernel_rfl) ?_
 conv => zeta
 try simp only [Zc]
 try simp only [Ze]
 try simp only [Zd]
 try simp only [Int.toNat_natCast, Nat.zero_add, true_and, and_true, Nat.le_refl]
 subst hm hM hF
 have ht : XM xs xs.length = xs.sum := by simp [XM]
 refine ⟨hn, fun hall => ⟨⟨hall, hn⟩, fun i hi hgo => ⟨fun he => ?_, fun h => h.elim, fun he => ?_⟩⟩, fun hall => ?_⟩
 ·subst he
  have hle : xs.sum ≤ 1125899906842624 := by
   rw [← ht]
   rcases Nat.eq_zero_or_pos xs.length with h0 | h0
   ·rw [h0]; simp [XM]
   ·have := hgo (xs.length - 1) (by omega)
    rw [Nat.sub_add_cancel h0] at this
    exact this
  unfold Y0
  rw [if_pos hall, if_pos hle]
  exact ⟨ht, rfl⟩
 ·have hmono := Z3p hall (xs.length - (i + 1)) (i + 1) (by omega)
  rw [show i + 1 + (xs.length - (i + 1)) = xs.length by omega, ht] at hmono
  unfold Y0
  rw [if_pos hall, if_neg (by omega)]
  exact ⟨rfl, rfl⟩
 ·unfold Y0
  rw [if_neg (by simp [hall])]
  exact ⟨rfl, rfl⟩
def Z88 (A : List Int → Int × Int) : ZW := fun args h K => ZL none h true 20 args fun a => match a with
 | [.vints .i64 xs n] => Zs (n = xs.length ∧ n < 900000000000) (K (.tuple [.int .i64 (A xs).1, .int .i64 (A xs).2]))
 | _ => False
theorem Z5D (args : List AV) (h : Z7) (K : AV → Prop) (hl : Z88 Y0 args h K) : Zh PP 40 args h fun o h' => ∃ v, o = .ret v ∧ h' = h ∧ K v := by
 refine ZB.psumm (d := 20) (Zq _ _ _ _ _ hl fun a ha => ?_)
 split at ha
 ·obtain ⟨⟨rfl, h1⟩, hK⟩ := Z9 ha
  exact ⟨_, .ev (Zdz _) (Zit _ _ _ _ rfl rfl h1 rfl), fun _ => rfl, hK⟩
 ·exact ha.elim
def amL (g : Nat → ZF) (n : Nat) : List Int := (List.range n).map fun j => (g j).amount
theorem Z2e (g : Nat → ZF) (n : Nat) : amL g (n + 1) = amL g n ++ [(g n).amount] := by simp [amL, List.range_succ]
theorem QH (g : Nat → ZF) (n : Nat) : (amL g n).length = n := by simp [amL]
def suS (M : Nat) (g : Nat → ZF) (i : Nat) : St := ⟨24, [(8, .vrows 132 M (Zn g) M), (9, .int .i64 M), (10, .int .i64 i), (4, .nslice ⟨0, 0, 0, 0, 0⟩ 1 i i)], ⟨1, [(0, .ints .i64 (amL g i))]⟩, []⟩
def suE (g : Nat → ZF) (i : Nat) : St := ⟨24, [(4, .nslice ⟨0, 0, 0, 0, 0⟩ 1 i i)], ⟨1, [(0, .ints .i64 (amL g i))]⟩, []⟩
theorem Ziu (M i : Nat) (g : Nat → ZF) (Z1 Z2 : Prop) (hn : M < 900000000000) (hi : i ≤ M) (h1 : i < M → Z1) (h2 : i = M → Z2) :
  Zz G0 20 82 0 0 (suS M g i) (fun e s => match e with | .normal => ZQ 0 [(0, 3)] (suS M g (i + 1)) s Z1 | .exit x => (match Nat.beq x 0 with | true => ZQ 0 [(0, 0)] (suE g i) s Z2 | false => False) | .ret => ZQ 0 [] (suE g i) s False | _ => False) := by
 refine @Eq.mpr _ (let q1 := amL g i;
 let q2 := q1 ++ [(g (Int.toNat (↑i : Int))).amount];
 let q3 := List.length q2;
 let q4 := decide (M = M);
 let q5 := i + 1;
 Z0 (decide ((↑i : Int) < (↑M : Int))) (Z0 (decide (0 ≤ (↑i : Int) ∧ (↑i : Int) < (↑M : Int))) (Z0 (decide (i64 = i64 ∧ List.length q1 = i)) (Z0 (decide (q3 * 8 ≤ 140737488355328)) (Z0 q4 (Zn g = Zn g ∧ Z0 q4 (Z0 (decide ((↑M : Int) = (↑M : Int))) (Z0 (decide (wrap i64 ((↑i : Int) + 1) = (↑q5 : Int))) (Z0 (decide (q3 = q5)) (Z0 (decide (q5 ≤ q3)) (q2 = amL g q5 ∧ Z1) False) False) False) False) False) False) False) False) False) (Z0 (decide (i = i)) (Z0 (decide (i ≤ i)) (q1 = q1 ∧ Z2) False) False)) (by kernel_rfl) ?_
 conv => zeta
 try simp only [Zc]
 try simp only [Ze]
 try simp only [Zd]
 try simp only [Int.toNat_natCast, Nat.zero_add, true_and, and_true, Nat.le_refl]
 refine ⟨fun hlt => ⟨by omega, QH g i, ?_⟩, fun hge => h2 (by omega)⟩
 rw [← Z2e, QH]
 exact ⟨by omega, w64 (by omega), rfl, Nat.le_refl _, rfl, h1 (by omega)⟩
noncomputable def Ziv (A : List Int → Int × Int) (M : Nat) (g : Nat → ZF) : Za := (G0.withL 82 0 (goL 0 [] (suS M g 0) (M < 900000000000) (Z0C 0 M (fun i => i < M) (fun i => i = M) (fun _ => False) (suE g) (suE g)))).withP 40 (Z88 A)
theorem ZdA (M : Nat) (g : Nat → ZF) : (Ziv Y0 M g).Ok :=
 Za.withP_ok (Za.withGo (τ1 := [(0, 3)]) (τ2 := [(0, 0)]) (τ3 := []) (N := 20) Zv (by kernel_rfl) fun hC => ⟨rfl, fun i hi hgo => Ziu M i g _ _ hC hi (fun h => ⟨h, h⟩) (fun h => h)⟩) Z5D
theorem Ziw (A : List Int → Int × Int) (M N : Nat) (f : Nat → InS) (g : Nat → ZF) (num : Int) (F : Int × Int) (hn : M < 900000000000) (hF : F = A (amL g M)) :
  evF (Ziv A M g) 20 82 [.agg [.int .i64 num, .vrows 130 N (Zf f) N, .vrows 132 M (Zn g) M]] ⟨0, []⟩ (Yd 0 [] (.tuple [.int .i64 F.1, .int .i64 F.2]) 0 []) := by
 refine @Eq.mpr _ (let q1 := decide (M = M);
 Z0 q1
 (Zn g = Zn g ∧
 Z0 q1
 (Z0 (decide ((↑M : Int) = (↑M : Int)))
 (amL g 0 = [] ∧
 M < 900000000000 ∧
 ∀ (i : Nat),
 let q3 := List.take i (Y3 0 (amL g i));
 let q4 := A q3;
 i ≤ M → (∀ (j : Nat), j < i → (fun (i : Nat) => i < M) j) → (i = M → Z0 (decide (0 + i ≤ List.length (amL g i))) (Z0 (decide (i = List.length q3 ∧ i < 900000000000)) (Z0 (decide (q4.fst = F.fst)) (Z0 (decide (q4.snd = F.snd)) True False) False) False) False) ∧ (False → False))
 False)
 False)
 False) (by kernel_rfl) ?_
 conv => zeta
 try simp only [Zc]
 try simp only [Ze]
 try simp only [Zd]
 try simp only [Int.toNat_natCast, Nat.zero_add, true_and, and_true, Nat.le_refl]
 subst hF
 refine ⟨rfl, hn, fun i hi hgo => ⟨fun he => ?_, fun h => h.elim⟩⟩
 subst he
 rw [Ye, List.drop_zero, List.take_of_length_le (by rw [QH]; exact Nat.le_refl _), QH]
 exact ⟨Nat.le_refl _, ⟨rfl, hn⟩, rfl, rfl⟩
def Z76 (A : List Int → Int × Int) : ZW := fun args h K => ZL none h true 20 args fun a => match a with
 | [.agg [.int .i64 num, .vrows 130 N f n, .vrows 132 M f' m]] => ∃ g g', f = Zf g ∧ f' = Zn g' ∧ (n = N ∧ m = M ∧ M < 900000000000) ∧ K (.tuple [.int .i64 (A (amL g' M)).1, .int .i64 (A (amL g' M)).2])
 | _ => False
theorem Z3q (args : List AV) (h : Z7) (K : AV → Prop) (hl : Z76 Y0 args h K) : Zh PP 82 args h fun o h' => ∃ v, o = .ret v ∧ h' = h ∧ K v := by
 refine ZB.psumm (d := 20) (Zq _ _ _ _ _ hl fun a ha => ?_)
 split at ha
 ·obtain ⟨g, g', rfl, rfl, ⟨rfl, rfl, h1⟩, hK⟩ := ha
  exact ⟨_, .ev (ZdA _ g') (Ziw _ _ _ g g' _ _ h1 rfl), fun _ => rfl, hK⟩
 ·exact ha.elim
end Go.Tk
end
section
namespace Go.Tk
open IntKind (i64 u8 u32 u64 wrap)
def Z4r (v : AV) (N : Nat) (g : Nat → InS) : Prop := match v with
 | .vrows 130 n f m => (m = n ∧ N = n) ∧ ∀ i, i < n → f i = (g i).c
 | .nilslice => N = 0
 | .eslice => N = 0
 | .fslice => N = 0
 | _ => False
def Z2f (v : AV) (N : Nat) (g : Nat → ZF) : Prop := match v with
 | .vrows 132 n f m => (m = n ∧ N = n) ∧ ∀ i, i < n → f i = (g i).c
 | .nilslice => N = 0
 | .eslice => N = 0
 | .fslice => N = 0
 | _ => False
theorem Zb.rows0 {E : Env} {esz : Nat} {f : Nat → List AV} {r : Value} {a : Option Addr} {c : Nat} (h : r = .slice a 0 c) (hc : a = none → c = 0) : Zb E (.vrows esz 0 f 0) r := by
 subst h
 cases a with
 | none => rw [hc rfl]; exact .vrowsNil _ _ _ _ rfl rfl
 | some a => exact .vrows _ _ _ _ a c (fun _ => []) (Nat.le_refl _) (Nat.zero_le _) (fun i h => by omega) (fun i h => by omega) (fun i j c h => by omega)
theorem Zb.rowsC {E : Env} {esz n : Nat} {f f' : Nat → List AV} {r : Value} (h : Zb E (.vrows esz n f n) r) (hf : ∀ i, i < n → f i = f' i) : Zb E (.vrows esz n f' n) r := by
 cases h with
 | vrowsNil esz n f len h1 h2 => exact .vrowsNil _ _ _ _ h1 h2
 | vrows esz n f len a cap g h1 h2 hc hl hi => exact .vrows _ _ _ _ a cap g h1 h2 (fun i h => by rw [← hf i h]; exact hc i h) hl hi
theorem Z4r.rel {v : AV} {N : Nat} {g : Nat → InS} (h : Z4r v N g) {E : Env} {r : Value} (hv : Zb E v r) : Zb E (.vrows 130 N (Zf g) N) r := by
 unfold Z4r at h
 split at h
 ·obtain ⟨⟨rfl, rfl⟩, hf⟩ := h
  exact hv.rowsC hf
 ·subst h; cases hv; exact .rows0 rfl (fun _ => rfl)
 ·subst h; cases hv with | eslice a => exact .rows0 rfl (fun _ => rfl)
 ·subst h; cases hv with | fslice a c => exact .rows0 rfl (fun h => by cases h)
 ·exact h.elim
theorem Z2f.rel {v : AV} {N : Nat} {g : Nat → ZF} (h : Z2f v N g) {E : Env} {r : Value} (hv : Zb E v r) : Zb E (.vrows 132 N (Zn g) N) r := by
 unfold Z2f at h
 split at h
 ·obtain ⟨⟨rfl, rfl⟩, hf⟩ := h
  exact hv.rowsC hf
 ·subst h; cases hv; exact .rows0 rfl (fun _ => rfl)
 ·subst h; cases hv with | eslice a => exact .rows0 rfl (fun _ => rfl)
 ·subst h; cases hv with | fslice a c => exact .rows0 rfl (fun h => by cases h)
 ·exact h.elim
theorem Z4r.cell {v : AV} {N : Nat} {g : Nat → InS} (h : Z4r v N g) : v.isCell = true ∧ ∀ k n xs, v ≠ .arr k n xs := by
 unfold Z4r at h; split at h <;> simp_all [AV.isCell]
theorem Z2f.cell {v : AV} {N : Nat} {g : Nat → ZF} (h : Z2f v N g) : v.isCell = true ∧ ∀ k n xs, v ≠ .arr k n xs := by
 unfold Z2f at h; split at h <;> simp_all [AV.isCell]
structure TxS where
 num : Int
 N : Nat
 ins : Nat → InS
 M : Nat
 outs : Nat → ZF
def TxS.c (t : TxS) : List AV := [.int .i64 t.num, .vrows 130 t.N (Zf t.ins) t.N, .vrows 132 t.M (Zn t.outs) t.M]
structure TxS.Ok (t : TxS) : Prop where
 n : t.N < 900000000000
 m : t.M < 900000000000
 ins : ∀ i, i < t.N → (t.ins i).Ok
 outs : ∀ i, i < t.M → (t.outs i).Ok
def Qj (l : List AV) (t : TxS) : Prop := match l with
 | [.int .i64 num, a, b] => t.num = num ∧ Z4r a t.N t.ins ∧ Z2f b t.M t.outs
 | _ => False
theorem Qj.rel {l : List AV} {t : TxS} (h : Qj l t) {E : Env} {r : Value} (hv : Zb E (.agg l) r) : Zb E (.agg t.c) r := by
 unfold Qj at h
 split at h
 ·rename_i num a b
  obtain ⟨h0, h1, h2⟩ := h
  cases hv with
  | agg cs vs hc =>
   obtain ⟨c1, ws, rfl, _, q1, p1, hc⟩ := Zu.cons_cell hc (fun _ _ _ h => by cases h)
   obtain ⟨c2, ws, rfl, _, q2, p2, hc⟩ := Zu.cons_cell hc h1.cell.2
   obtain ⟨c3, ws, rfl, _, q3, p3, hc⟩ := Zu.cons_cell hc h2.cell.2
   cases hc
   refine .agg _ _ (.one _ _ _ _ rfl q1 (by rw [h0]; exact p1) (.one _ _ _ _ rfl q2 (h1.rel p2) (.one _ _ _ _ rfl q3 (h2.rel p3) .nil)))
 ·exact h.elim
theorem ZB.conv {P : Program} {f : FuncId} {args args₀ : List AV} {v : AV} {nx : Nat} {bs : List (Nat × Blk)} (h : ZB P f args₀ v nx bs) (hc : ∀ E r, ZD E args r → ZD E args₀ r) : ZB P f args v nx bs :=
 fun E w rs he hr => h E w rs he (hc E rs hr)
theorem ZD.head {E : Env} {v v' : AV} {r l : List AV} {rs : List Value} (h : ZD E (v :: l) rs) (hv : ∀ c, Zb E v c → Zb E v' c) (ht : ∀ cs, ZD E l cs → ZD E r cs) : ZD E (v' :: r) rs := by
 cases h with
 | cons v c vs cs h t => exact .cons _ _ _ _ (hv c h) (ht cs t)
@[irreducible] def ZR (A : List Int → Int × Int) (t : TxS) : Bool :=
 decide (0 ≤ t.num ∧ t.num ≤ 2147483647) && decide (1 ≤ t.N ∧ t.N ≤ 24) && decide (1 ≤ t.M ∧ t.M ≤ 24) && !((List.range t.N).any (YG t.N t.ins)) && !((List.range t.M).any (Yj t.outs)) && ((A (amL t.outs t.M)).2 == 0)
noncomputable def Zix (A : List Int → Int × Int) : Za := ((G0.withP 73 Zi6).withP 127 Zid).withP 82 (Z76 A)
theorem ZdB : (Zix Y0).Ok := Za.withP_ok (Za.withP_ok (Za.withP_ok Zv Zdn) Zdr) Z3q
theorem Zk6 (A : List Int → Int × Int) (t : TxS) (F : Int) (ht : t.Ok) (hF : F = if ZR A t = true then 0 else 2) :
  evF (Zix A) 20 43 [.agg t.c] ⟨0, []⟩ (Yd 0 [] (.int .i64 F) 0 []) := by
 refine @Eq.mpr _ (let q1 := Z0 (decide (2 = F)) True False;
 let q2 := t.N;
 let q3 := (↑q2 : Int);
 let q4 := t.M;
 let q5 := (↑q4 : Int);
 let q6 := Zf t.ins;
 let q7 := q2 = q2;
 let q8 := q4 = q4;
 let q9 := q4 < 900000000000;
 Z0 (decide (0 ≤ t.num))
 (Z0 (!decide (t.num ≤ 2147483647)) q1
 (Z0 (decide (1 ≤ q3))
 (Z0 (!decide (q3 ≤ 24)) q1
 (Z0 (decide (1 ≤ q5))
 (Z0 (!decide (q5 ≤ 24)) q1
 (∃ (g : Nat → InS),
 let q19 := q6 = Zf g;
 q19 ∧
 q19 ∧
 (q7 ∧ q7 ∧ q7 ∧ q2 < 900000000000 ∧ ∀ (i : Nat), i < q2 → InS.Ok (g i)) ∧
 Z0 (decide (Yl (YG q2 g) q2 ≥ 0)) q1
 (∃ (g : Nat → ZF),
 let q21 := Zn t.outs;
 q21 = Zn g ∧ (q8 ∧ q9 ∧ ∀ (i : Nat), i < q4 → ZF.Ok (g i)) ∧ Z0 (decide (Yl (Yj g) q4 ≥ 0)) q1 (∃ (g : Nat → InS), ∃ (g' : Nat → ZF), q6 = Zf g ∧ q21 = Zn g' ∧ (q7 ∧ q8 ∧ q9) ∧ Z0 ((A (amL g' q4)).snd != 0) q1 (Z0 (decide (0 = F)) True False)))))
 q1))
 q1))
 q1) (by kernel_rfl) ?_
 conv => zeta
 try simp only [Zc]
 try simp only [Ze]
 try simp only [Zd]
 try simp only [Int.toNat_natCast, Nat.zero_add, true_and, and_true, Nat.le_refl]
 have h2 : ZR A t = false → 2 = F := fun h => by rw [hF, h]; rfl
 have h0 : ZR A t = true → 0 = F := fun h => by rw [hF, h]; rfl
 clear hF
 refine ⟨fun a1 => ⟨fun a2 => h2 ?_, fun a2 => ⟨fun a3 => ⟨fun a4 => h2 ?_, fun a4 => ⟨fun a5 => ⟨fun a6 => h2 ?_, fun a6 => ?_⟩, fun a5 => h2 ?_⟩⟩, fun a3 => h2 ?_⟩⟩, fun a1 => h2 ?_⟩
 ·unfold ZR; rw [decide_eq_false (p := 0 ≤ t.num ∧ _) (by simp at a2; omega)]; simp
 ·unfold ZR; rw [decide_eq_false (p := 1 ≤ t.N ∧ _) (by simp at a4; omega)]; simp
 ·unfold ZR; rw [decide_eq_false (p := 1 ≤ t.M ∧ _) (by simp at a6; omega)]; simp
 ·refine ⟨t.ins, rfl, rfl, ⟨ht.n, ht.ins⟩, fun b1 => h2 ?_, fun b1 => ⟨t.outs, rfl, ⟨ht.m, ht.outs⟩, fun b2 => h2 ?_, fun b2 => ⟨t.ins, t.outs, rfl, rfl, ht.m, fun b3 => h2 ?_, fun b3 => h0 ?_⟩⟩⟩
  ·have := Vc (YG t.N t.ins) t.N
   rw [decide_eq_true b1] at this
   unfold ZR; rw [← this]; simp
  ·have := Vc (Yj t.outs) t.M
   rw [decide_eq_true b2] at this
   unfold ZR; rw [← this]; simp
  ·unfold ZR; simp at b3; simp [b3]
  ·have e1 := Vc (YG t.N t.ins) t.N
   rw [decide_eq_false b1] at e1
   have e2 := Vc (Yj t.outs) t.M
   rw [decide_eq_false b2] at e2
   unfold ZR
   rw [← e1, ← e2]
   simp at a2 a4 a6 b3
   simp [b3]
   omega
 ·unfold ZR; rw [decide_eq_false (p := 1 ≤ t.M ∧ _) (by omega)]; simp
 ·unfold ZR; rw [decide_eq_false (p := 1 ≤ t.N ∧ _) (by omega)]; simp
 ·unfold ZR; rw [decide_eq_false (p := 0 ≤ t.num ∧ _) (by omega)]; simp
def ckS (A : List Int → Int × Int) : ZW := fun args h K => ZL none h true 20 args fun a => match a with
 | [.agg l] => ∃ t, Qj l t ∧ t.Ok ∧ Z0 (ZR A t) (K (.int .i64 0)) (K (.int .i64 2))
 | _ => False
theorem Z77 (args : List AV) (h : Z7) (K : AV → Prop) (hl : ckS Y0 args h K) : Zh PP 43 args h fun o h' => ∃ v, o = .ret v ∧ h' = h ∧ K v := by
 refine ZB.psumm (d := 20) (Zq _ _ _ _ _ hl fun a ha => ?_)
 split at ha
 ·obtain ⟨t, h1, h2, hK⟩ := ha
  refine ⟨_, (ZB.ev ZdB (Zk6 _ t _ h2 rfl)).conv fun E r hr => hr.head (fun _ hc => h1.rel hc) (fun _ hc => hc), fun _ => rfl, ?_⟩
  rw [Zd] at hK
  split
  ·rename_i h; exact hK.1 h
  ·rename_i h; exact hK.2 (by simpa using h)
 ·exact ha.elim
end Go.Tk
end
section
namespace Go.Tk
open IntKind (i64 u8 u32 u64 wrap)
def Zbh (k : Nat) (τ : Ren) (y x : Nat) : Ren := match Nat.blt y k with
 | true => τ
 | false => match Z6K τ y with
  | some _ => τ
  | none => (y, x) :: τ
mutual
def Zgi (k : Nat) (τ : Ren) : AV → AV → Ren
 | .ptr (some q), v => match v with | .ptr (some p) => Zbh k τ q.blk p.blk | _ => τ
 | .nslice q _ _ _, v => match v with | .nslice p _ _ _ => Zbh k τ q.blk p.blk | _ => τ
 | .map (some y), v => match v with | .map (some x) => Zbh k τ y x | _ => τ
 | .yield y, v => match v with | .yield x => Zbh k τ y x | _ => τ
 | .func _ fs cs, v => match v with | .func _ fs' cs' => Z4s k (Z4s k τ fs fs') cs cs' | _ => τ
 | .iface _ u, v => match v with | .iface _ u' => Zgi k τ u u' | _ => τ
 | .agg cs, v => match v with | .agg cs' => Z4s k τ cs cs' | _ => τ
 | .tuple cs, v => match v with | .tuple cs' => Z4s k τ cs cs' | _ => τ
 | _, _ => τ
def Z4s (k : Nat) (τ : Ren) : List AV → List AV → Ren
 | [], _ => τ
 | v :: r, l => match l with | v' :: r' => Z4s k (Zgi k τ v v') r r' | [] => τ
end
def Zk7 (k : Nat) (τ : Ren) : Blk → Blk → Ren
 | .flat cs, B => match B with | .flat cs' => Z4s k τ cs cs' | _ => τ
 | .map es, B => match B with | .map es' => Z4s k (Z4s k τ (es.map (·.1)) (es'.map (·.1))) (es.map (·.2)) (es'.map (·.2)) | _ => τ
 | _, _ => τ
def Ziy (k : Nat) (t : ZO) : ZO → Ren → Ren
 | [], τ => τ
 | (x, v) :: r, τ => Ziy k t r (match ZN t x with | some u => Zgi k τ v u | none => τ)
def Zgj (k : Nat) : List VM → List VM → Ren → Ren
 | .call _ a :: r, l, τ => match l with | .call _ b :: r' => Zgj k r r' (Z4s k τ a b) | _ => τ
 | .mark y :: r, l, τ => match l with | .mark x :: r' => Zgj k r r' (Zbh k τ y x) | _ => τ
 | [], _, τ => τ
def ZdC (k : Nat) (bs : List (Nat × Blk)) : List (Nat × Blk) → Ren → Ren
 | [], τ => τ
 | (y, B) :: r, τ => ZdC k bs r (match rn k τ y with
  | some x => match ZK bs x with | some C => Zk7 k τ B C | none => τ
  | none => τ)
def Zk8 (k : Nat) (s₂ s : St) : Ren := ZdC k s.h.bs s₂.h.bs (ZdC k s.h.bs s₂.h.bs (ZdC k s.h.bs s₂.h.bs (Zgj k s₂.d s.d (Ziy k s.t s₂.t []))))
def UQ (k : Nat) (s₂ s : St) (Z : Prop) : Prop := ZQ k (Zk8 k s₂ s) s₂ s Z
theorem YO {k : Nat} {s₂ s : St} {Z : Prop} (hl : UQ k s₂ s Z) : Z ∧ VS k s s₂ := ZY hl
def Ym (k : Nat) (o : Out) (nx : Nat) (bs : List (Nat × Blk)) : KO := fun o' h => match o with
 | .ret v => match o' with
  | .ret u => UQ k ⟨1, [(0, v)], ⟨nx, bs⟩, []⟩ ⟨1, [(0, u)], h, []⟩ True
  | .panic _ => False
 | .panic v => match o' with
  | .panic u => UQ k ⟨1, [(0, v)], ⟨nx, bs⟩, []⟩ ⟨1, [(0, u)], h, []⟩ True
  | .ret _ => False
theorem Spec.evM {G : Za} (hG : G.Ok) {n : Nat} {f : FuncId} {args : List AV} {h0 : Z7} {o : Out} {nx : Nat} {bs : List (Nat × Blk)} (h : evF G n f args h0 (Ym h0.next o nx bs)) : Spec G.P f args h0 o nx bs := by
 intro E w rs he hl
 refine (Z1S hG h E w rs he hl).mono ?_
 rintro e w' ⟨E', o', h', hK, hev, hor⟩
 unfold Ym at hK
 cases o with
 | ret v =>
  cases hor with
  | ret u r hr =>
   obtain ⟨E₂, h1, h2⟩ := Z4m rfl hK he hev hr
   exact ⟨E₂, h1, .ret _ _ h2⟩
  | panic u r hr => exact hK.elim
 | panic v =>
  cases hor with
  | panic u r hr =>
   obtain ⟨E₂, h1, h2⟩ := Z4m rfl hK he hev hr
   exact ⟨E₂, h1, .panic _ _ h2⟩
  | ret u r hr => exact hK.elim
theorem Spec.pure {P : Program} {f : FuncId} {args : List AV} {v : AV} {nx : Nat} {bs : List (Nat × Blk)} (h : Spec P f args ⟨0, []⟩ (.ret v) nx bs) : ZB P f args v nx bs := by
 intro E w rs he hl
 refine (h E w rs he hl).mono ?_
 rintro e w' ⟨E', hev, hor⟩
 cases hor with
 | ret v r hr => exact ⟨E', r, rfl, hev, hr⟩
theorem ZB.evM {G : Za} (hG : G.Ok) {n : Nat} {f : FuncId} {args : List AV} {v : AV} {nx : Nat} {bs : List (Nat × Blk)} (h : evF G n f args ⟨0, []⟩ (Ym 0 (.ret v) nx bs)) : ZB G.P f args v nx bs := (Spec.evM hG h).pure
def goM (k : Nat) (S0 : St) (C : Prop) (ends : KE → Prop) : Nat → St → KE → Prop := fun k' s X => match Nat.beq k' k with
 | true => UQ k S0 s (C ∧ ends X)
 | false => False
def rdM (k id l : Nat) (S1 En Rn Jn : St) (go ex re jm : Prop) : KE := fun e s => match e with
 | .normal => UQ k S1 s go
 | .exit x => (match Nat.beq x id with | true => UQ k En s ex | false => False)
 | .ret => UQ k Rn s re
 | .goto x => (match Nat.beq x l with | true => UQ k Jn s jm | false => False)
 | .panic _ => False
theorem Za.withGoM {G : Za} (hG : G.Ok) {f : FuncId} {id k N n l : Nat} {S En Rn Jn : Nat → St} {S0 : St} {C : Prop} {go ex re jm : Nat → Prop} (h1 : Wk G.P f id = true) (hC : C → S 0 = S0 ∧
   ∀ i, i ≤ n → (∀ j, j < i → go j) → Zz G N f id k (S i) (rdM k id l (S (i + 1)) (En i) (Rn i) (Jn i) (go i ∧ i < n) (ex i) (re i) (jm i))) :
  (G.withL f id (goM k S0 C (ZT id n l go ex re jm En Rn Jn))).Ok := by
 refine Za.withL_ok hG h1 ?_
 intro k' s X hl
 unfold goM at hl
 split at hl
 ·rename_i hk
  have := Nat.eq_of_beq_eq_true hk
  subst this
  obtain ⟨⟨hc, hX⟩, hw⟩ := YO hl
  obtain ⟨e0, hr⟩ := hC hc
  refine ⟨{ t : Nat // t ≤ n ∧ ∀ j, j < t → go j }, fun t => n - t.1, fun t => S t.1, ⟨0, Nat.zero_le _, fun j hj => by omega⟩, N, by show VS k' s (S 0); rw [e0]; exact hw, ?_⟩
  rintro ⟨t, ht, hgo⟩
  refine ⟨_, hr t ht hgo, ?_⟩
  intro e s' hY
  unfold rdM at hY
  split at hY
  ·obtain ⟨⟨hg, hlt⟩, hw'⟩ := YO hY
   refine ⟨⟨t + 1, hlt, fun j hj => ?_⟩, by show n - (t + 1) < n - t; omega, hw'⟩
   by_cases hjt : j = t
   ·rw [hjt]; exact hg
   ·exact hgo j (by omega)
  ·split at hY
   ·rename_i hi
    have := Nat.eq_of_beq_eq_true hi
    subst this
    obtain ⟨hex, hw'⟩ := YO hY
    exact ⟨_, hw', (hX t ht hgo).1 hex⟩
   ·exact hY.elim
  ·obtain ⟨hre, hw'⟩ := YO hY
   exact ⟨_, hw', (hX t ht hgo).2.1 hre⟩
  ·split at hY
   ·rename_i hi
    have := Nat.eq_of_beq_eq_true hi
    subst this
    obtain ⟨hjm, hw'⟩ := YO hY
    exact ⟨_, hw', (hX t ht hgo).2.2 hjm⟩
   ·exact hY.elim
  ·exact hY.elim
 ·exact hl.elim
end Go.Tk
namespace Go.Tk
open IntKind (i64 u8 u32 u64 wrap)
theorem Za.withL_join {G H : Za} (hG : G.Ok) (hP : G.P = H.P) {f : FuncId} {id : Nat} {S : Nat → St → KE → Prop} (h : (H.withL f id S).Ok) : (G.withL f id S).Ok where
 draw := hG.draw
 psumm := hG.psumm
 fsumm := hG.fsumm
 lsumm := fun f' id' S' fn c body hS hf hb hm k s X hs => by
  have hS0 := hS
  simp only [Za.withL] at hS
  split at hS
  ·have := h.lsumm f' id' S' fn c body
   simp only [Za.withL] at this
   rename_i hq
   rw [hq] at this
   have := this hS (hP ▸ hf) hb hm k s X hs
   rw [← hP] at this
   exact this
  ·exact hG.lsumm f' id' S' fn c body hS hf hb hm k s X hs
end Go.Tk
end
section
namespace Go.Tk
open IntKind (i64 u8 u32 u64 wrap)
def b8 (n k : Int) : Int := u8.wrap (Zp .i64 n k)
@[irreducible] def ZC (n : Int) : List Int :=
 if n < 253 then [u8.wrap n] else if n < 65536 then [253, b8 n 8, b8 n 0] else if n < 4294967296 then [254, b8 n 24, b8 n 16, b8 n 8, b8 n 0]
 else [255, b8 n 56, b8 n 48, b8 n 40, b8 n 32, b8 n 24, b8 n 16, b8 n 8, b8 n 0]
theorem ZI (n : Int) : 1 ≤ (ZC n).length ∧ (ZC n).length ≤ 9 := by
 unfold ZC
 split
 ·simp
 ·split
  ·simp
  ·split <;> simp
theorem Zbi {n : Int} (h : n < 253) : ZC n = [u8.wrap n] := by unfold ZC; rw [if_pos h]
theorem Zbj {n : Int} (h : ¬ n < 253) (h2 : n < 65536) : ZC n = [253, b8 n 8, b8 n 0] := by unfold ZC; rw [if_neg h, if_pos h2]
theorem Zbk {n : Int} (h : ¬ n < 253) (h2 : ¬ n < 65536) (h3 : n < 4294967296) : ZC n = [254, b8 n 24, b8 n 16, b8 n 8, b8 n 0] := by unfold ZC; rw [if_neg h, if_neg h2, if_pos h3]
theorem Zbl {n : Int} (h : ¬ n < 253) (h2 : ¬ n < 65536) (h3 : ¬ n < 4294967296) : ZC n = [255, b8 n 56, b8 n 48, b8 n 40, b8 n 32, b8 n 24, b8 n 16, b8 n 8, b8 n 0] := by unfold ZC; rw [if_neg h, if_neg h2, if_neg h3]
theorem Ziz (xs ys : List Int) (N L s lo : Nat) (n : Int) (hN : xs.length = N) (hB : N < 90000000000000) (hy : ys = ZC n) (hL : L = (xs ++ ys).length) :
  evF G0 20 161 [.nslice ⟨0, 0, s, 0, 0⟩ 1 N lo, .int .i64 n] ⟨1, [(0, .ints .u8 xs)]⟩ (Ym 1 (.ret (.nslice ⟨1, 0, 0, 0, 0⟩ 1 L L)) 2 [(1, .ints .u8 (xs ++ ys))]) := by
 refine @Eq.mpr _ (let q1 := decide (u8 = u8 ∧ List.length xs = N);
 let q2 := xs ++ [wrap u8 n];
 let q3 := List.length q2;
 let q4 := xs ++ ys;
 let q5 := xs ++ [(253 : Int)];
 let q6 := List.length q5;
 let q7 := [wrap u8 (Zp i64 n 8)];
 let q8 := q5 ++ q7;
 let q9 := List.length q8;
 let q10 := [wrap u8 (Zp i64 n 0)];
 let q11 := q8 ++ q10;
 let q12 := List.length q11;
 let q13 := xs ++ [(254 : Int)];
 let q14 := List.length q13;
 let q15 := [wrap u8 (Zp i64 n 24)];
 let q16 := q13 ++ q15;
 let q17 := List.length q16;
 let q18 := [wrap u8 (Zp i64 n 16)];
 let q19 := q16 ++ q18;
 let q20 := List.length q19;
 let q21 := q19 ++ q7;
 let q22 := List.length q21;
 let q23 := q21 ++ q10;
 let q24 := List.length q23;
 let q25 := xs ++ [(255 : Int)];
 let q26 := List.length q25;
 let q27 := q25 ++ [wrap u8 (Zp i64 n 56)];
 let q28 := List.length q27;
 let q29 := q27 ++ [wrap u8 (Zp i64 n 48)];
 let q30 := List.length q29;
 let q31 := q29 ++ [wrap u8 (Zp i64 n 40)];
 let q32 := List.length q31;
 let q33 := q31 ++ [wrap u8 (Zp i64 n 32)];
 let q34 := List.length q33;
 let q35 := q33 ++ q15;
 let q36 := List.length q35;
 let q37 := q35 ++ q18;
 let q38 := List.length q37;
 let q39 := q37 ++ q7;
 let q40 := List.length q39;
 let q41 := q39 ++ q10;
 let q42 := List.length q41;
 Z0 (decide (n < 253)) (Z0 q1 (Z0 (decide (q3 * 1 ≤ 140737488355328)) (Z0 (decide (q3 = L)) (Z0 (decide (L ≤ q3)) (q2 = q4 ∧ True) False) False) False) False)
 (Z0 (decide (n < 65536)) (Z0 q1 (Z0 (decide (q6 * 1 ≤ 140737488355328)) (Z0 (decide (u8 = u8 ∧ q6 = q6)) (Z0 (decide (q9 * 1 ≤ 140737488355328)) (Z0 (decide (u8 = u8 ∧ q9 = q9)) (Z0 (decide (q12 * 1 ≤ 140737488355328)) (Z0 (decide (q12 = L)) (Z0 (decide (L ≤ q12)) (q11 = q4 ∧ True) False) False) False) False) False) False) False) False)
 (Z0 (decide (n < 4294967296)) (Z0 q1 (Z0 (decide (q14 * 1 ≤ 140737488355328)) (Z0 (decide (u8 = u8 ∧ q14 = q14)) (Z0 (decide (q17 * 1 ≤ 140737488355328)) (Z0 (decide (u8 = u8 ∧ q17 = q17)) (Z0 (decide (q20 * 1 ≤ 140737488355328)) (Z0 (decide (u8 = u8 ∧ q20 = q20)) (Z0 (decide (q22 * 1 ≤ 140737488355328)) (Z0 (decide (u8 = u8 ∧ q22 = q22)) (Z0 (decide (q24 * 1 ≤ 140737488355328)) (Z0 (decide (q24 = L)) (Z0 (decide (L ≤ q24)) (q23 = q4 ∧ True) False) False) False) False) False) False) False) False) False) False) False) False)
 (Z0 q1
 (Z0 (decide (q26 * 1 ≤ 140737488355328))
 (Z0 (decide (u8 = u8 ∧ q26 = q26)) (Z0 (decide (q28 * 1 ≤ 140737488355328)) (Z0 (decide (u8 = u8 ∧ q28 = q28)) (Z0 (decide (q30 * 1 ≤ 140737488355328)) (Z0 (decide (u8 = u8 ∧ q30 = q30)) (Z0 (decide (q32 * 1 ≤ 140737488355328)) (Z0 (decide (u8 = u8 ∧ q32 = q32)) (Z0 (decide (q34 * 1 ≤ 140737488355328)) (Z0 (decide (u8 = u8 ∧ q34 = q34)) (Z0 (decide (q36 * 1 ≤ 140737488355328)) (Z0 (decide (u8 = u8 ∧ q36 = q36)) (Z0 (decide (q38 * 1 ≤ 140737488355328)) (Z0 (decide (u8 = u8 ∧ q38 = q38)) (Z0 (decide (q40 * 1 ≤ 140737488355328)) (Z0 (decide (u8 = u8 ∧ q40 = q40)) (Z0 (decide (q42 * 1 ≤ 140737488355328)) (Z0 (decide (q42 = L)) (Z0 (decide (L ≤ q42)) (q41 = q4 ∧ True) False) False) False) False) False) False) False) False) False) False) False) False) False) False) False) False) False) False) False)
 False)))) (by kernel_rfl) ?_
 conv => zeta
 try simp only [Zc]
 try simp only [Ze]
 try simp only [Zd]
 try simp only [Int.toNat_natCast, Nat.zero_add, true_and, and_true, Nat.le_refl]
 subst hy hL hN
 refine ⟨fun h1 => ?_, fun h1 => ⟨fun h2 => ?_, fun h2 => ⟨fun h3 => ?_, fun h3 => ?_⟩⟩⟩
 ·rw [Zbi h1]
  simp only [List.length_append, List.length_cons, List.length_nil]
  and_intros <;> first | trivial | omega
 ·rw [Zbj h1 h2]
  simp only [List.length_append, List.length_cons, List.length_nil]
  and_intros <;> first | trivial | omega | simp [b8]
 ·rw [Zbk h1 h2 h3]
  simp only [List.length_append, List.length_cons, List.length_nil]
  and_intros <;> first | trivial | omega | simp [b8]
 ·rw [Zbl h1 h2 h3]
  simp only [List.length_append, List.length_cons, List.length_nil]
  and_intros <;> first | trivial | omega | simp [b8]
theorem ZiA (ys : List Int) (L : Nat) (n : Int) (hy : ys = ZC n) (hL : L = ys.length) :
  evF G0 20 161 [.nilslice, .int .i64 n] ⟨0, []⟩ (Ym 0 (.ret (.nslice ⟨0, 0, 0, 0, 0⟩ 1 L L)) 1 [(0, .ints .u8 ys)]) := by
 refine @Eq.mpr _ (let q1 := [wrap u8 (Zp i64 n 8), wrap u8 (Zp i64 n 0)];
 let q2 := wrap u8 (Zp i64 n 24) :: wrap u8 (Zp i64 n 16) :: q1;
 Z0 (decide (n < 253)) (Z0 (decide (1 = L)) (Z0 (decide (L ≤ 1)) ([wrap u8 n] = ys ∧ True) False) False) (Z0 (decide (n < 65536)) (Z0 (decide (3 = L)) (Z0 (decide (L ≤ 3)) ((253 : Int) :: q1 = ys ∧ True) False) False) (Z0 (decide (n < 4294967296)) (Z0 (decide (5 = L)) (Z0 (decide (L ≤ 5)) ((254 : Int) :: q2 = ys ∧ True) False) False) (Z0 (decide (9 = L)) (Z0 (decide (L ≤ 9)) ((255 : Int) :: wrap u8 (Zp i64 n 56) :: wrap u8 (Zp i64 n 48) :: wrap u8 (Zp i64 n 40) :: wrap u8 (Zp i64 n 32) :: q2 = ys ∧ True) False) False)))) (by kernel_rfl) ?_
 conv => zeta
 try simp only [Zc]
 try simp only [Ze]
 try simp only [Zd]
 try simp only [Int.toNat_natCast, Nat.zero_add, true_and, and_true, Nat.le_refl]
 subst hy hL
 refine ⟨fun h1 => ?_, fun h1 => ⟨fun h2 => ?_, fun h2 => ⟨fun h3 => ?_, fun h3 => ?_⟩⟩⟩
 ·rw [Zbi h1]; simp
 ·rw [Zbj h1 h2]; simp [b8]
 ·rw [Zbk h1 h2 h3]; simp [b8]
 ·rw [Zbl h1 h2 h3]; simp [b8]
def Zgk (W : Int → List Int) : Y6 := fun args h K => match args with
 | [.nslice ⟨b, 0, _, 0, 0⟩ 1 _ _, .int .i64 _] => frA [b] h 20 args fun Bs a => match Bs, a with
  | [.ints .u8 xs], [.nslice ⟨0, 0, _, 0, 0⟩ 1 len _, .int .i64 n] => Zs (xs.length = len ∧ len < 90000000000000) (K (.ret (.nslice ⟨h.next, 0, 0, 0, 0⟩ 1 (xs ++ W n).length (xs ++ W n).length)) ⟨h.next + 1, (h.next, .ints .u8 (xs ++ W n)) :: Xb h.bs b⟩)
  | _, _ => False
 | [.nilslice, .int .i64 n] => K (.ret (.nslice ⟨h.next, 0, 0, 0, 0⟩ 1 (W n).length (W n).length)) ⟨h.next + 1, (h.next, .ints .u8 (W n)) :: h.bs⟩
 | _ => False
theorem ZdD (args : List AV) (h : Z7) (K : KO) (hl : Zgk ZC args h K) : Zh PP 161 args h K := by
 unfold Zgk at hl
 split at hl
 ·refine Spec.fsumm hl fun Bs a hlen hK0 => ?_
  split at hK0
  ·obtain ⟨⟨h1, h2⟩, hK⟩ := Z9 hK0
   exact ⟨_, _, _, _, _, .evM Zv (Ziz _ _ _ _ _ _ _ h1 h2 rfl rfl), by simp, .ret _ _ rfl, .cons _ _ _ _ _ _ rfl (.ints _ _) .nil, hK⟩
  ·exact hK0.elim
 ·exact (ZB.evM Zv (ZiA _ _ _ rfl rfl)).calls (fun E w rs he hr => by
   cases hr with
   | cons v r vs rs h1 h2 => cases h2 with
    | cons v r vs rs h2 h3 => cases h3; exact .cons _ _ _ _ (h1.plain rfl) (.cons _ _ _ _ (h2.plain rfl) .nil)) rfl ⟨Nat.one_pos, .ints _ _, trivial⟩ hl
 ·exact hl.elim
theorem Zbm (x : Int) (xs : List Int) (N : Nat) (hN : (x :: xs).length = N) (hB : N < 90000000000000) :
  evF G0 20 166 [.vints .u8 (x :: xs) N] ⟨0, []⟩ (Ym 0 (.ret (.nslice ⟨0, 0, 0, 0, 0⟩ 1 N N)) 1 [(0, .ints .u8 (x :: xs))]) := by
 refine @Eq.mpr _ (let q1 := [] ++ List.take N (x :: xs);
 let q2 := List.length q1;
 Z0 (decide (q2 * 1 ≤ 140737488355328)) (Z0 (decide (q2 = N)) (Z0 (decide (N ≤ q2)) (q1 = x :: xs ∧ True) False) False) False) (by kernel_rfl) ?_
 conv => zeta
 try simp only [Zc]
 try simp only [Zi]
 try simp only [Ze]
 try simp only [Zj]
 try simp only [Zk]
 try simp only [Zd]
 try simp only [Int.toNat_natCast, Nat.zero_add, true_and, and_true, Nat.le_refl]
 subst hN
 simp only [List.nil_append, List.take_length]
 and_intros <;> first | trivial | omega
theorem Zbn (u : Unit)  :
  evF G0 20 166 [.nilslice] ⟨0, []⟩ (Ym 0 (.ret (.nslice ⟨0, 0, 0, 0, 0⟩ 1 0 0)) 1 [(0, .ints .u8 [])]) := by
 refine @Eq.mpr _ (([] : List Int) = [] ∧ True) (by kernel_rfl) ?_
 trivial
theorem Zbo (u : Unit)  :
  evF G0 20 166 [.fslice] ⟨0, []⟩ (Ym 0 (.ret (.nslice ⟨0, 0, 0, 0, 0⟩ 1 0 0)) 1 [(0, .ints .u8 [])]) := by
 refine @Eq.mpr _ (([] : List Int) = [] ∧ True) (by kernel_rfl) ?_
 trivial
theorem Z5E (xs : List Int) (N : Nat) (hN : xs.length = N) (hB : N < 90000000000000) : ZB PP 166 [.vints .u8 xs N] (.nslice ⟨0, 0, 0, 0, 0⟩ 1 N N) 1 [(0, .ints .u8 xs)] := by
 cases xs with
 | nil => subst hN; exact ZB.vints0 (.evM Zv (Zbn ())) (.evM Zv (Zbo ()))
 | cons x r => exact .evM Zv (Zbm x r N hN hB)
def Z89 : Y6 := fun args h K => ZL none h true 20 args fun a => match a with
 | [.vints .u8 xs n] => Zs (xs.length = n ∧ n < 90000000000000) (K (.ret (.nslice ⟨h.next, 0, 0, 0, 0⟩ 1 n n)) ⟨h.next + 1, (h.next, .ints .u8 xs) :: h.bs⟩)
 | _ => False
theorem Z78 (args : List AV) (h : Z7) (K : KO) (hl : Z89 args h K) : Zh PP 166 args h K := by
 refine ZB.fsumm (d := 20) (Zq _ _ _ _ _ hl fun a ha => ?_)
 split at ha
 ·obtain ⟨⟨h1, h2⟩, hK⟩ := Z9 ha
  exact ⟨_, _, _, _, Z5E _ _ h1 h2, rfl, ⟨Nat.one_pos, .ints _ _, trivial⟩, hK⟩
 ·exact ha.elim
end Go.Tk
end
section
namespace Go.Tk
open IntKind (i64 u8 u32 u64 wrap)
theorem Spec.conv {P : Program} {f : FuncId} {args args₀ : List AV} {h0 : Z7} {o : Out} {nx : Nat} {bs : List (Nat × Blk)} (h : Spec P f args₀ h0 o nx bs) (hc : ∀ E r, ZD E args r → ZD E args₀ r) : Spec P f args h0 o nx bs :=
 fun E w rs he hr => h E w rs he (hc E rs hr)
noncomputable def ZdE (W : Int → List Int) : Za := G0.withF 161 (Zgk W)
theorem Z4t : (ZdE ZC).Ok := Za.withF_ok Zv ZdD
theorem Zgl (W : Int → List Int) (T : Int) (xs ys : List Int) (N L lo : Nat) (n : Int) (hT : T = 4611686018427387904) (hN : xs.length = N) (hB : N < 90000000000000) (hn : 0 ≤ n ∧ n ≤ T) (hy : ys = xs ++ W n) (hL : L = ys.length) :
  evF (ZdE W) 20 119 [.ptr (some ⟨0, 0, 0, 0, 0⟩), .vints .i64 [n] 1] ⟨2, [(0, .flat [.nslice ⟨1, 0, 0, 0, 0⟩ 1 N lo, .bool true]), (1, .ints .u8 xs)]⟩ (Ym 2 (.ret (.int .i64 0)) 3 [(0, .flat [.nslice ⟨2, 0, 0, 0, 0⟩ 1 L L, .bool true]), (2, .ints .u8 ys)]) := by
 refine @Eq.mpr _ (let q1 := xs ++ W n;
 let q2 := List.length q1;
 Z0 (decide (n < 0)) False (Z0 (decide (n > 4611686018427387904)) False (Z0 (decide (List.length xs = N ∧ N < 90000000000000)) (Z0 (decide (q2 = L)) (Z0 (decide (L ≤ q2)) (q1 = ys ∧ True) False) False) False))) (by kernel_rfl) ?_
 conv => zeta
 try simp only [Zc]
 try simp only [Zi]
 try simp only [Ze]
 try simp only [Zj]
 try simp only [Zk]
 try simp only [Zd]
 try simp only [Int.toNat_natCast, Nat.zero_add, true_and, and_true, Nat.le_refl]
 subst hT hN hy hL
 exact ⟨by omega, by omega, ⟨rfl, hB⟩, rfl, Nat.le_refl _, rfl⟩
theorem Zgm (W : Int → List Int) (T : Int) (xs ys : List Int) (N L lo : Nat) (n m : Int) (hT : T = 4611686018427387904) (hW : W = ZC) (hN : xs.length = N) (hB : N < 80000000000000) (hn : 0 ≤ n ∧ n ≤ T) (hm : 0 ≤ m ∧ m ≤ T) (hy : ys = xs ++ W n ++ W m) (hL : L = ys.length) :
  evF (ZdE W) 20 119 [.ptr (some ⟨0, 0, 0, 0, 0⟩), .vints .i64 [n, m] 2] ⟨2, [(0, .flat [.nslice ⟨1, 0, 0, 0, 0⟩ 1 N lo, .bool true]), (1, .ints .u8 xs)]⟩ (Ym 2 (.ret (.int .i64 0)) 3 [(0, .flat [.nslice ⟨2, 0, 0, 0, 0⟩ 1 L L, .bool true]), (2, .ints .u8 ys)]) := by
 refine @Eq.mpr _ (let q1 := xs ++ W n;
 let q2 := List.length q1;
 let q3 := q1 ++ W m;
 let q4 := List.length q3;
 Z0 (decide (n < 0)) False (Z0 (decide (n > 4611686018427387904)) False (Z0 (decide (m < 0)) False (Z0 (decide (m > 4611686018427387904)) False (Z0 (decide (List.length xs = N ∧ N < 90000000000000)) (Z0 (decide (q2 = q2 ∧ q2 < 90000000000000)) (Z0 (decide (q4 = L)) (Z0 (decide (L ≤ q4)) (q3 = ys ∧ True) False) False) False) False))))) (by kernel_rfl) ?_
 conv => zeta
 try simp only [Zc]
 try simp only [Zi]
 try simp only [Ze]
 try simp only [Zj]
 try simp only [Zk]
 try simp only [Zd]
 try simp only [Int.toNat_natCast, Nat.zero_add, true_and, and_true, Nat.le_refl]
 subst hT hN hy hL hW
 have := ZI n
 refine ⟨by omega, by omega, by omega, by omega, ⟨rfl, by omega⟩, ?_⟩
 simp only [List.length_append]
 and_intros <;> first | trivial | omega
theorem Zgn (W : Int → List Int) (T : Int) (ys : List Int) (L : Nat) (n m : Int) (hT : T = 4611686018427387904) (hW : W = ZC) (hn : 0 ≤ n ∧ n ≤ T) (hm : 0 ≤ m ∧ m ≤ T) (hy : ys = W n ++ W m) (hL : L = ys.length) :
  evF (ZdE W) 20 119 [.ptr (some ⟨0, 0, 0, 0, 0⟩), .vints .i64 [n, m] 2] ⟨1, [(0, .flat [.nilslice, .bool true])]⟩ (Ym 1 (.ret (.int .i64 0)) 2 [(0, .flat [.nslice ⟨1, 0, 0, 0, 0⟩ 1 L L, .bool true]), (1, .ints .u8 ys)]) := by
 refine @Eq.mpr _ (let q1 := List.length (W n);
 let q2 := W n ++ W m;
 let q3 := List.length q2;
 Z0 (decide (n < 0)) False (Z0 (decide (n > 4611686018427387904)) False (Z0 (decide (m < 0)) False (Z0 (decide (m > 4611686018427387904)) False (Z0 (decide (q1 = q1 ∧ q1 < 90000000000000)) (Z0 (decide (q3 = L)) (Z0 (decide (L ≤ q3)) (q2 = ys ∧ True) False) False) False))))) (by kernel_rfl) ?_
 conv => zeta
 try simp only [Zc]
 try simp only [Zi]
 try simp only [Ze]
 try simp only [Zj]
 try simp only [Zk]
 try simp only [Zd]
 try simp only [Int.toNat_natCast, Nat.zero_add, true_and, and_true, Nat.le_refl]
 subst hT hy hL hW
 have := ZI n
 refine ⟨by omega, by omega, by omega, by omega, ?_⟩
 simp only [List.length_append]
 and_intros <;> first | trivial | omega
theorem ZdF (xs hh ys : List Int) (N L lo : Nat) (hN : xs.length = N) (hB : N < 90000000000000) (hq : hh.length = 32) (hy : ys = xs ++ hh) (hL : L = ys.length) :
  evF G0 20 120 [.ptr (some ⟨0, 0, 0, 0, 0⟩), .vrows 32 1 (fun _ => [.arr .u8 32 hh]) 1] ⟨2, [(0, .flat [.nslice ⟨1, 0, 0, 0, 0⟩ 1 N lo, .bool true]), (1, .ints .u8 xs)]⟩ (Ym 2 (.ret (.int .i64 0)) 3 [(0, .flat [.nslice ⟨2, 0, 0, 0, 0⟩ 1 L L, .bool true]), (2, .ints .u8 ys)]) := by
 refine @Eq.mpr _ (let q1 := xs ++ hh;
 let q2 := List.length q1;
 Z0 (decide (u8 = u8 ∧ List.length hh = 32)) (Z0 (decide (u8 = u8 ∧ List.length xs = N)) (Z0 (decide (q2 * 1 ≤ 140737488355328)) (Z0 (decide (q2 = L)) (Z0 (decide (L ≤ q2)) (q1 = ys ∧ True) False) False) False) False) False) (by kernel_rfl) ?_
 conv => zeta
 try simp only [Zc]
 try simp only [Zi]
 try simp only [Ze]
 try simp only [Zj]
 try simp only [Zk]
 try simp only [Zd]
 try simp only [Int.toNat_natCast, Nat.zero_add, true_and, and_true, Nat.le_refl]
 subst hN hy hL
 refine ⟨hq, rfl, ?_⟩
 simp only [List.length_append]
 and_intros <;> first | trivial | omega
def Zbp (W : Int → List Int) (T : Int) : Y6 := fun args h K => match args with
 | [.ptr (some ⟨w, 0, 0, 0, 0⟩), _] => match h.get w with
  |some (.flat [.nslice ⟨b, 0, 0, 0, 0⟩ 1 _ _, .bool true]) => frA [w, b] h 20 args fun Bs a => match Bs, a with
   | [.flat [.nslice ⟨1, 0, 0, 0, 0⟩ 1 N _, .bool true], .ints .u8 xs], [.ptr (some ⟨0, 0, 0, 0, 0⟩), .vints .i64 [n] 1] =>
    Zs (xs.length = N ∧ N < 80000000000000 ∧ 0 ≤ n ∧ n ≤ T) (K (.ret (.int .i64 0)) ⟨h.next + 1, (w, .flat [.nslice ⟨h.next, 0, 0, 0, 0⟩ 1 (xs ++ W n).length (xs ++ W n).length, .bool true]) :: (h.next, .ints .u8 (xs ++ W n)) :: Xb (Xb h.bs w) b⟩)
   | [.flat [.nslice ⟨1, 0, 0, 0, 0⟩ 1 N _, .bool true], .ints .u8 xs], [.ptr (some ⟨0, 0, 0, 0, 0⟩), .vints .i64 [n, m] 2] =>
    Zs (xs.length = N ∧ N < 80000000000000 ∧ (0 ≤ n ∧ n ≤ T) ∧ 0 ≤ m ∧ m ≤ T) (K (.ret (.int .i64 0)) ⟨h.next + 1, (w, .flat [.nslice ⟨h.next, 0, 0, 0, 0⟩ 1 (xs ++ W n ++ W m).length (xs ++ W n ++ W m).length, .bool true]) :: (h.next, .ints .u8 (xs ++ W n ++ W m)) :: Xb (Xb h.bs w) b⟩)
   | _, _ => False
  | some (.flat [.nilslice, .bool true]) => frA [w] h 20 args fun Bs a => match Bs, a with
   | [.flat [.nilslice, .bool true]], [.ptr (some ⟨0, 0, 0, 0, 0⟩), .vints .i64 [n, m] 2] =>
    Zs ((0 ≤ n ∧ n ≤ T) ∧ 0 ≤ m ∧ m ≤ T) (K (.ret (.int .i64 0)) ⟨h.next + 1, (w, .flat [.nslice ⟨h.next, 0, 0, 0, 0⟩ 1 (W n ++ W m).length (W n ++ W m).length, .bool true]) :: (h.next, .ints .u8 (W n ++ W m)) :: Xb h.bs w⟩)
   | _, _ => False
  | _ => False
 | _ => False
theorem Zbq (args : List AV) (h : Z7) (K : KO) (hl : Zbp ZC 4611686018427387904 args h K) : Zh PP 119 args h K := by
 unfold Zbp at hl
 split at hl
 ·split at hl
  ·refine Spec.fsumm hl fun Bs a hlen hK0 => ?_
   split at hK0
   ·obtain ⟨⟨h1, h2, h3⟩, hK⟩ := Z9 hK0
    exact ⟨_, _, _, _, _, .evM Z4t (Zgl _ _ _ _ _ _ _ _ rfl h1 (by omega) h3 rfl rfl), by simp, .ret _ _ rfl, .cons _ _ _ _ _ _ rfl (.flat _ _ rfl) (.cons _ _ _ _ _ _ rfl (.ints _ _) .nil), hK⟩
   ·obtain ⟨⟨h1, h2, h3, h4⟩, hK⟩ := Z9 hK0
    exact ⟨_, _, _, _, _, .evM Z4t (Zgm _ _ _ _ _ _ _ _ _ rfl rfl h1 h2 h3 h4 rfl rfl), by simp, .ret _ _ rfl, .cons _ _ _ _ _ _ rfl (.flat _ _ rfl) (.cons _ _ _ _ _ _ rfl (.ints _ _) .nil), hK⟩
   ·exact hK0.elim
  ·refine Spec.fsumm hl fun Bs a hlen hK0 => ?_
   split at hK0
   ·obtain ⟨⟨h3, h4⟩, hK⟩ := Z9 hK0
    exact ⟨_, _, _, _, _, .evM Z4t (Zgn _ _ _ _ _ _ rfl rfl h3 h4 rfl rfl), by simp, .ret _ _ rfl, .cons _ _ _ _ _ _ rfl (.flat _ _ rfl) (.cons _ _ _ _ _ _ rfl (.ints _ _) .nil), hK⟩
   ·exact hK0.elim
  ·exact hl.elim
 ·exact hl.elim
def Z79 : Y6 := fun args h K => match args with
 | [.ptr (some ⟨w, 0, 0, 0, 0⟩), _] => match h.get w with
  |some (.flat [.nslice ⟨b, 0, 0, 0, 0⟩ 1 _ _, .bool true]) => frA [w, b] h 20 args fun Bs a => match Bs, a with
   | [.flat [.nslice ⟨1, 0, 0, 0, 0⟩ 1 N _, .bool true], .ints .u8 xs], [.ptr (some ⟨0, 0, 0, 0, 0⟩), .vrows 32 1 f 1] => match f 0 with
    | [.arr .u8 32 hh] => Zs (xs.length = N ∧ N < 80000000000000 ∧ hh.length = 32) (K (.ret (.int .i64 0)) ⟨h.next + 1, (w, .flat [.nslice ⟨h.next, 0, 0, 0, 0⟩ 1 (xs ++ hh).length (xs ++ hh).length, .bool true]) :: (h.next, .ints .u8 (xs ++ hh)) :: Xb (Xb h.bs w) b⟩)
    | _ => False
   | _, _ => False
  | _ => False
 | _ => False
theorem Z9n (args : List AV) (h : Z7) (K : KO) (hl : Z79 args h K) : Zh PP 120 args h K := by
 unfold Z79 at hl
 split at hl
 ·split at hl
  ·refine Spec.fsumm hl fun Bs a hlen hK0 => ?_
   split at hK0
   ·split at hK0
    case h_2 => exact hK0.elim
    rename_i hh hf
    obtain ⟨⟨h1, h2, h3⟩, hK⟩ := Z9 hK0
    refine ⟨_, _, _, _, _, (Spec.evM Zv (ZdF _ hh _ _ _ _ h1 (by omega) h3 rfl rfl)).conv fun E r hr => hr.head (fun _ hc => hc) fun _ hc => hc.head (fun _ hc => hc.rowsC ?_) fun _ hc => hc, by simp, .ret _ _ rfl, .cons _ _ _ _ _ _ rfl (.flat _ _ rfl) (.cons _ _ _ _ _ _ rfl (.ints _ _) .nil), hK⟩
    intro i hi
    have : i = 0 := by omega
    subst this
    exact hf
   ·exact hK0.elim
  ·exact hl.elim
 ·exact hl.elim
end Go.Tk
end
section
namespace Go.Tk
open IntKind (i64 u8 u32 u64 wrap)
theorem WG {x : InS} (h : Y1 x = true) : (1 ≤ x.way ∧ x.way ≤ 6) ∧ 0 ≤ x.index ∧ x.index ≤ 23 := by
 unfold Y1 at h
 simp only [Bool.and_eq_true, decide_eq_true_eq] at h
 exact ⟨h.1.1.1.1, h.2⟩
noncomputable def Z7a (W : Int → List Int) (T : Int) : Za := (G0.withF 119 (Zbp W T)).withF 120 Z79
theorem Z8a : (Z7a ZC 4611686018427387904).Ok := Za.withF_ok (Za.withF_ok Zv Zbq) Z9n
def inW (W : Int → List Int) (core : Bool) (x : InS) : List Int := x.name ++ W x.index ++ (match core with
 | true => []
 | false => W x.way ++ ((if x.way = 4 then [] else x.tag) ++ (if x.way = 1 then x.also else []) ++ (if x.way = 4 ∨ x.way = 5 then x.secret else [])))
def Z2g (W : Int → List Int) (o : ZF) : List Int := W o.kind ++ W o.amount ++ o.owner ++ (if o.kind = 2 ∨ o.kind = 4 ∨ o.kind = 5 then o.other else []) ++ (if 3 ≤ o.kind then o.point else []) ++ (if 4 ≤ o.kind then o.hash else [])
 ++ (if 3 ≤ o.kind then W o.delay else []) ++ (if 4 ≤ o.kind then W o.expiry else [])
def Z9o (t : TxS) (core : Bool) (i : Nat) (xs : List Int) (n : Nat) : St := ⟨120, [(26, .int .i64 i), (25, .int .i64 t.N), (2, .ptr (some ⟨0, 0, 0, 0, 0⟩)), (5, .ptr (some ⟨1, 0, 0, 0, 0⟩)), (1, .bool core)], ⟨3, [(0, .flat t.c), (1, .flat [.nslice ⟨2, 0, 0, 0, 0⟩ 1 n n, .bool true]), (2, .ints .u8 xs)]⟩, []⟩
def Vz (t : TxS) (xs : List Int) (n : Nat) : St := ⟨120, [(2, .ptr (some ⟨0, 0, 0, 0, 0⟩)), (5, .ptr (some ⟨1, 0, 0, 0, 0⟩))], ⟨3, [(0, .flat t.c), (1, .flat [.nslice ⟨2, 0, 0, 0, 0⟩ 1 n n, .bool true]), (2, .ints .u8 xs)]⟩, []⟩
theorem Zgo (W : Int → List Int) (T : Int) (t : TxS) (i : Nat) (xs ys : List Int) (n m : Nat) (Z1 Z2 : Prop) (hT : T = 4611686018427387904) (ht : t.Ok) (hi : i ≤ t.N) (hr : ∀ j, j < t.N → Y1 (t.ins j) = true) (hW : W = ZC) (hn : xs.length = n) (hs : n < 10000000000000) (hy : ys = xs ++ inW W true (t.ins i)) (hm : ys.length = m) (h1 : i < t.N → Z1) (h2 : i = t.N → Z2) :
  Zz (Z7a W T) 20 65 0 0 (Z9o t true i xs n) (rdM 0 0 9 (Z9o t true (i + 1) ys m) (Vz t xs n) (Vz t xs n) (Vz t xs n) Z1 Z2 False False) := by
 refine @Eq.mpr _ (let q1 := t.N;
 let q2 := (↑q1 : Int);
 let q3 := t.ins (Int.toNat (↑i : Int));
 let q4 := q3.name;
 let q5 := xs ++ q4;
 let q6 := List.length q5;
 let q7 := q3.index;
 let q8 := decide (t.num = t.num);
 let q9 := decide (q1 = q1);
 let q10 := Zf t.ins;
 let q11 := q10 = q10;
 let q12 := decide (t.M = t.M);
 let q13 := Zn t.outs;
 let q14 := q13 = q13;
 let q15 := q5 ++ W q7;
 let q16 := List.length q15;
 Z0 (decide ((↑i : Int) < q2)) (Z0 (decide (0 ≤ (↑i : Int) ∧ (↑i : Int) < q2)) (Z0 (decide (List.length xs = n ∧ n < 80000000000000 ∧ List.length q4 = 32)) (Z0 (decide (q6 = q6 ∧ q6 < 80000000000000 ∧ 0 ≤ q7 ∧ q7 ≤ T)) (Z0 (decide (wrap i64 ((↑i : Int) + 1) = (↑(i + 1) : Int))) (Z0 (decide (q2 = q2)) (Z0 q8 (Z0 q9 (q11 ∧ Z0 q9 (Z0 q12 (q14 ∧ Z0 q12 (Z0 (decide (q16 = m)) (Z0 (decide (m ≤ q16)) (q15 = ys ∧ Z1) False) False) False) False) False) False) False) False) False) False) False) False) (Z0 q8 (Z0 q9 (q11 ∧ Z0 q9 (Z0 q12 (q14 ∧ Z0 q12 (Z0 (decide (n = n)) (Z0 (decide (n ≤ n)) (xs = xs ∧ Z2) False) False) False) False) False) False) False)) (by kernel_rfl) ?_
 conv => zeta
 try simp only [Zc]
 try simp only [Zi]
 try simp only [Ze]
 try simp only [Zj]
 try simp only [Zk]
 try simp only [Zd]
 try simp only [Int.toNat_natCast, Nat.zero_add, true_and, and_true, Nat.le_refl]
 refine ⟨fun hlt => ?_, fun hge => h2 (by omega)⟩
 obtain ⟨⟨w1, w2⟩, w3, w4⟩ := WG (hr i (by omega))
 obtain ⟨l1, l2, l3, l4⟩ := ht.ins i (by omega)
 have hw := h1 (by omega)
 have hnn := ht.n
 have hwr : i64.wrap ((i : Int) + 1) = ((i + 1 : Nat) : Int) := w64 (by omega)
 have u1 := ZI (t.ins i).index
 have u2 := ZI (t.ins i).way
 subst hW hT
 rw [hwr]
 unfold inW at hy
 generalize t.ins i = x at *
 simp only [List.length_append]
 repeat' (first | (refine And.intro ?_ ?_) | intro _)
 all_goals first | omega | assumption | trivial | skip
 all_goals first | (rw [hy]; simp [*]; done) | (rw [← hm, hy]; simp [*]; try omega; done) | skip
theorem Zgp (W : Int → List Int) (T : Int) (t : TxS) (i : Nat) (xs ys : List Int) (n m : Nat) (Z1 Z2 : Prop) (hT : T = 4611686018427387904) (ht : t.Ok) (hi : i ≤ t.N) (hr : ∀ j, j < t.N → Y1 (t.ins j) = true) (hW : W = ZC) (hn : xs.length = n) (hs : n < 10000000000000) (hy : ys = xs ++ inW W false (t.ins i)) (hm : ys.length = m) (h1 : i < t.N → Z1) (h2 : i = t.N → Z2) :
  Zz (Z7a W T) 20 65 0 0 (Z9o t false i xs n) (rdM 0 0 9 (Z9o t false (i + 1) ys m) (Vz t xs n) (Vz t xs n) (Vz t xs n) Z1 Z2 False False) := by
 refine @Eq.mpr _ (let q1 := t.N;
 let q2 := (↑q1 : Int);
 let q3 := t.ins (Int.toNat (↑i : Int));
 let q4 := q3.name;
 let q5 := xs ++ q4;
 let q6 := List.length q5;
 let q7 := q3.index;
 let q8 := q5 ++ W q7;
 let q9 := List.length q8;
 let q10 := q3.way;
 let q11 := q8 ++ W q10;
 let q12 := List.length q11;
 let q13 := q3.tag;
 let q14 := decide (q12 = q12 ∧ q12 < 80000000000000 ∧ List.length q13 = 32);
 let q15 := q11 ++ q13;
 let q16 := List.length q15;
 let q17 := q3.also;
 let q18 := decide (wrap i64 ((↑i : Int) + 1) = (↑(i + 1) : Int));
 let q19 := decide (q2 = q2);
 let q20 := decide (t.num = t.num);
 let q21 := decide (q1 = q1);
 let q22 := Zf t.ins;
 let q23 := q22 = q22;
 let q24 := decide (t.M = t.M);
 let q25 := Zn t.outs;
 let q26 := q25 = q25;
 let q27 := q15 ++ q17;
 let q28 := List.length q27;
 let q29 := Z0 q14 (Z0 q18 (Z0 q19 (Z0 q20 (Z0 q21 (q23 ∧ Z0 q21 (Z0 q24 (q26 ∧ Z0 q24 (Z0 (decide (q16 = m)) (Z0 (decide (m ≤ q16)) (q15 = ys ∧ Z1) False) False) False) False) False) False) False) False) False) False;
 let q30 := q3.secret;
 let q31 := q11 ++ q30;
 let q32 := List.length q31;
 let q33 := q15 ++ q30;
 let q34 := List.length q33;
 Z0 (decide ((↑i : Int) < q2))
 (Z0 (decide (0 ≤ (↑i : Int) ∧ (↑i : Int) < q2))
 (Z0 (decide (List.length xs = n ∧ n < 80000000000000 ∧ List.length q4 = 32))
 (Z0 (decide (q6 = q6 ∧ q6 < 80000000000000 ∧ 0 ≤ q7 ∧ q7 ≤ T))
 (Z0 (decide (q9 = q9 ∧ q9 < 80000000000000 ∧ 0 ≤ q10 ∧ q10 ≤ T))
 (Z0 (decide (q10 = q10))
 (Z0 (decide (q10 = 1)) (Z0 q14 (Z0 (decide (q16 = q16 ∧ q16 < 80000000000000 ∧ List.length q17 = 32)) (Z0 q18 (Z0 q19 (Z0 q20 (Z0 q21 (q23 ∧ Z0 q21 (Z0 q24 (q26 ∧ Z0 q24 (Z0 (decide (q28 = m)) (Z0 (decide (m ≤ q28)) (q27 = ys ∧ Z1) False) False) False) False) False) False) False) False) False) False) False)
 (Z0 (decide (q10 = 2)) q29 (Z0 (decide (q10 = 3)) q29 (Z0 (decide (q10 = 4)) (Z0 (decide (q12 = q12 ∧ q12 < 80000000000000 ∧ List.length q30 = 32)) (Z0 q18 (Z0 q19 (Z0 q20 (Z0 q21 (q23 ∧ Z0 q21 (Z0 q24 (q26 ∧ Z0 q24 (Z0 (decide (q32 = m)) (Z0 (decide (m ≤ q32)) (q31 = ys ∧ Z1) False) False) False) False) False) False) False) False) False) False) (Z0 (decide (q10 = 5)) (Z0 q14 (Z0 (decide (q16 = q16 ∧ q16 < 80000000000000 ∧ List.length q30 = 32)) (Z0 q18 (Z0 q19 (Z0 q20 (Z0 q21 (q23 ∧ Z0 q21 (Z0 q24 (q26 ∧ Z0 q24 (Z0 (decide (q34 = m)) (Z0 (decide (m ≤ q34)) (q33 = ys ∧ Z1) False) False) False) False) False) False) False) False) False) False) False) (Z0 (decide (q10 = 6)) q29 (Z0 q18 (Z0 q19 (Z0 q20 (Z0 q21 (q23 ∧ Z0 q21 (Z0 q24 (q26 ∧ Z0 q24 (Z0 (decide (q12 = m)) (Z0 (decide (m ≤ q12)) (q11 = ys ∧ Z1) False) False) False) False) False) False) False) False) False)))))))
 False)
 False)
 False)
 False)
 False)
 (Z0 q20 (Z0 q21 (q23 ∧ Z0 q21 (Z0 q24 (q26 ∧ Z0 q24 (Z0 (decide (n = n)) (Z0 (decide (n ≤ n)) (xs = xs ∧ Z2) False) False) False) False) False) False) False)) (by kernel_rfl) ?_
 conv => zeta
 try simp only [Zc]
 try simp only [Zi]
 try simp only [Ze]
 try simp only [Zj]
 try simp only [Zk]
 try simp only [Zd]
 try simp only [Int.toNat_natCast, Nat.zero_add, true_and, and_true, Nat.le_refl]
 refine ⟨fun hlt => ?_, fun hge => h2 (by omega)⟩
 obtain ⟨⟨w1, w2⟩, w3, w4⟩ := WG (hr i (by omega))
 obtain ⟨l1, l2, l3, l4⟩ := ht.ins i (by omega)
 have hw := h1 (by omega)
 have hnn := ht.n
 have hwr : i64.wrap ((i : Int) + 1) = ((i + 1 : Nat) : Int) := w64 (by omega)
 have u1 := ZI (t.ins i).index
 have u2 := ZI (t.ins i).way
 subst hW hT
 rw [hwr]
 unfold inW at hy
 generalize t.ins i = x at *
 simp only [List.length_append]
 repeat' (first | (refine And.intro ?_ ?_) | intro _)
 all_goals first | omega | assumption | trivial | skip
 all_goals first | (rw [hy]; simp [*]; done) | (rw [← hm, hy]; simp [*]; try omega; done) | skip
theorem Yp {o : ZF} (h : ZG o = true) : (1 ≤ o.kind ∧ o.kind ≤ 5) ∧ (0 < o.amount ∧ o.amount ≤ 1125899906842624) ∧ (0 ≤ o.delay ∧ o.delay ≤ 2147483647) ∧ 0 ≤ o.expiry ∧ o.expiry ≤ 2147483647 := by
 unfold ZG at h
 simp only [Bool.and_eq_true, decide_eq_true_eq] at h
 obtain ⟨⟨⟨⟨h1, _⟩, h2⟩, h3⟩, h4⟩ := h
 refine ⟨?_, h2, h3, h4⟩
 revert h1
 simp only [and_imp]
 intros
 omega
def Z5F (t : TxS) (i : Nat) (xs : List Int) (n : Nat) : St := ⟨120, [(82, .int .i64 i), (81, .int .i64 t.M), (2, .ptr (some ⟨0, 0, 0, 0, 0⟩)), (5, .ptr (some ⟨1, 0, 0, 0, 0⟩))], ⟨3, [(0, .flat t.c), (1, .flat [.nslice ⟨2, 0, 0, 0, 0⟩ 1 n n, .bool true]), (2, .ints .u8 xs)]⟩, []⟩
theorem Zgq (W : Int → List Int) (T : Int) (t : TxS) (i : Nat) (xs ys : List Int) (n m : Nat) (Z1 Z2 : Prop) (hT : T = 4611686018427387904) (ht : t.Ok) (hi : i ≤ t.M) (hr : ∀ j, j < t.M → ZG (t.outs j) = true) (hW : W = ZC) (hn : xs.length = n) (hs : n < 10000000000000) (hy : ys = xs ++ Z2g W (t.outs i)) (hm : ys.length = m) (h1 : i < t.M → Z1) (h2 : i = t.M → Z2) :
  Zz (Z7a W T) 20 65 4 0 (Z5F t i xs n) (rdM 0 4 9 (Z5F t (i + 1) ys m) (Vz t xs n) (Vz t xs n) (Vz t xs n) Z1 Z2 False False) := by
 refine @Eq.mpr _ (let q1 := t.M;
 let q2 := (↑q1 : Int);
 let q3 := t.outs (Int.toNat (↑i : Int));
 let q4 := q3.kind;
 let q5 := q3.amount;
 let q6 := xs ++ W q4 ++ W q5;
 let q7 := List.length q6;
 let q8 := q3.owner;
 let q9 := decide (q7 = q7 ∧ q7 < 80000000000000 ∧ List.length q8 = 32);
 let q10 := decide (wrap i64 ((↑i : Int) + 1) = (↑(i + 1) : Int));
 let q11 := decide (q2 = q2);
 let q12 := decide (t.num = t.num);
 let q13 := decide (t.N = t.N);
 let q14 := Zf t.ins;
 let q15 := q14 = q14;
 let q16 := decide (q1 = q1);
 let q17 := Zn t.outs;
 let q18 := q17 = q17;
 let q19 := q6 ++ q8;
 let q20 := List.length q19;
 let q21 := q3.other;
 let q22 := decide (q20 = q20 ∧ q20 < 80000000000000 ∧ List.length q21 = 32);
 let q23 := q19 ++ q21;
 let q24 := List.length q23;
 let q25 := q3.point;
 let q26 := q19 ++ q25;
 let q27 := List.length q26;
 let q28 := q3.delay;
 let q29 := W q28;
 let q30 := q26 ++ q29;
 let q31 := List.length q30;
 let q32 := q23 ++ q25;
 let q33 := List.length q32;
 let q34 := q3.hash;
 let q35 := q32 ++ q34;
 let q36 := List.length q35;
 let q37 := q35 ++ q29;
 let q38 := List.length q37;
 let q39 := q3.expiry;
 let q40 := q37 ++ W q39;
 let q41 := List.length q40;
 let q42 := Z0 q9 (Z0 q22 (Z0 (decide (q24 = q24 ∧ q24 < 80000000000000 ∧ List.length q25 = 32)) (Z0 (decide (q33 = q33 ∧ q33 < 80000000000000 ∧ List.length q34 = 32)) (Z0 (decide (q36 = q36 ∧ q36 < 80000000000000 ∧ 0 ≤ q28 ∧ q28 ≤ T)) (Z0 (decide (q38 = q38 ∧ q38 < 80000000000000 ∧ 0 ≤ q39 ∧ q39 ≤ T)) (Z0 q10 (Z0 q11 (Z0 q12 (Z0 q13 (q15 ∧ Z0 q13 (Z0 q16 (q18 ∧ Z0 q16 (Z0 (decide (q41 = m)) (Z0 (decide (m ≤ q41)) (q40 = ys ∧ Z1) False) False) False) False) False) False) False) False) False) False) False) False) False) False) False;
 Z0 (decide ((↑i : Int) < q2))
 (Z0 (decide (0 ≤ (↑i : Int) ∧ (↑i : Int) < q2))
 (Z0 (decide (List.length xs = n ∧ n < 80000000000000 ∧ (0 ≤ q4 ∧ q4 ≤ T) ∧ 0 ≤ q5 ∧ q5 ≤ T))
 (Z0 (decide (q4 = q4))
 (Z0 (decide (q4 = 1)) (Z0 q9 (Z0 q10 (Z0 q11 (Z0 q12 (Z0 q13 (q15 ∧ Z0 q13 (Z0 q16 (q18 ∧ Z0 q16 (Z0 (decide (q20 = m)) (Z0 (decide (m ≤ q20)) (q19 = ys ∧ Z1) False) False) False) False) False) False) False) False) False) False)
 (Z0 (decide (q4 = 2)) (Z0 q9 (Z0 q22 (Z0 q10 (Z0 q11 (Z0 q12 (Z0 q13 (q15 ∧ Z0 q13 (Z0 q16 (q18 ∧ Z0 q16 (Z0 (decide (q24 = m)) (Z0 (decide (m ≤ q24)) (q23 = ys ∧ Z1) False) False) False) False) False) False) False) False) False) False) False) (Z0 (decide (q4 = 3)) (Z0 q9 (Z0 (decide (q20 = q20 ∧ q20 < 80000000000000 ∧ List.length q25 = 32)) (Z0 (decide (q27 = q27 ∧ q27 < 80000000000000 ∧ 0 ≤ q28 ∧ q28 ≤ T)) (Z0 q10 (Z0 q11 (Z0 q12 (Z0 q13 (q15 ∧ Z0 q13 (Z0 q16 (q18 ∧ Z0 q16 (Z0 (decide (q31 = m)) (Z0 (decide (m ≤ q31)) (q30 = ys ∧ Z1) False) False) False) False) False) False) False) False) False) False) False) False) (Z0 (decide (q4 = 4)) q42 (Z0 (decide (q4 = 5)) q42 (Z0 q10 (Z0 q11 (Z0 q12 (Z0 q13 (q15 ∧ Z0 q13 (Z0 q16 (q18 ∧ Z0 q16 (Z0 (decide (q7 = m)) (Z0 (decide (m ≤ q7)) (q6 = ys ∧ Z1) False) False) False) False) False) False) False) False) False))))))
 False)
 False)
 False)
 (Z0 q12 (Z0 q13 (q15 ∧ Z0 q13 (Z0 q16 (q18 ∧ Z0 q16 (Z0 (decide (n = n)) (Z0 (decide (n ≤ n)) (xs = xs ∧ Z2) False) False) False) False) False) False) False)) (by kernel_rfl) ?_
 conv => zeta
 try simp only [Zc]
 try simp only [Zi]
 try simp only [Ze]
 try simp only [Zj]
 try simp only [Zk]
 try simp only [Zd]
 try simp only [Int.toNat_natCast, Nat.zero_add, true_and, and_true, Nat.le_refl]
 refine ⟨fun hlt => ?_, fun hge => h2 (by omega)⟩
 obtain ⟨⟨w1, w2⟩, ⟨w3, w4⟩, ⟨w5, w6⟩, w7, w8⟩ := Yp (hr i (by omega))
 obtain ⟨l1, l2, l3, l4⟩ := ht.outs i (by omega)
 have hw := h1 (by omega)
 have hnn := ht.m
 have hwr : i64.wrap ((i : Int) + 1) = ((i + 1 : Nat) : Int) := w64 (by omega)
 have u1 := ZI (t.outs i).kind
 have u2 := ZI (t.outs i).amount
 have u3 := ZI (t.outs i).delay
 have u4 := ZI (t.outs i).expiry
 subst hW hT
 rw [hwr]
 unfold Z2g at hy
 generalize t.outs i = x at *
 simp only [List.length_append]
 repeat' (first | (refine And.intro ?_ ?_) | intro _)
 all_goals first | omega | assumption | trivial | skip
 all_goals first | (rw [hy]; simp [*]; done) | (rw [← hm, hy]; simp [*]; try omega; done) | skip
def Uz (f : Nat → List Int) : Nat → List Int
 | 0 => []
 | n + 1 => Uz f n ++ f n
theorem Zbr {f : Nat → List Int} {b : Nat} (h : ∀ i, (f i).length ≤ b) : ∀ n, (Uz f n).length ≤ n * b
 | 0 => by simp [Uz]
 | n + 1 => by
  have := Zbr h n
  have := h n
  simp only [Uz, List.length_append, Nat.add_mul]
  omega
@[irreducible] def Yu (W : Int → List Int) (t : TxS) (core : Bool) (i : Nat) : List Int := W t.num ++ W t.N ++ Uz (fun j => inW W core (t.ins j)) i
@[irreducible] def Ya (W : Int → List Int) (t : TxS) (core : Bool) (i : Nat) : List Int := Yu W t core t.N ++ W t.M ++ Uz (fun j => Z2g W (t.outs j)) i
def Wt (W : Int → List Int) (t : TxS) (core : Bool) : List Int := Ya W t core t.M
theorem Up (W : Int → List Int) (t : TxS) (core : Bool) (i : Nat) : Yu W t core (i + 1) = Yu W t core i ++ inW W core (t.ins i) := by unfold Yu; simp [Uz]
theorem Z3r (W : Int → List Int) (t : TxS) (core : Bool) (i : Nat) : Ya W t core (i + 1) = Ya W t core i ++ Z2g W (t.outs i) := by unfold Ya; simp [Uz]
structure TxS.Fine (t : TxS) : Prop where
 ok : t.Ok
 num : 0 ≤ t.num ∧ t.num ≤ 2147483647
 n : t.N ≤ 24
 m : t.M ≤ 24
 ins : ∀ j, j < t.N → Y1 (t.ins j) = true
 outs : ∀ j, j < t.M → ZG (t.outs j) = true
theorem Z0g {f : Nat → List Int} {b : Nat} : ∀ n, (∀ i, i < n → (f i).length ≤ b) → (Uz f n).length ≤ n * b
 | 0, _ => by simp [Uz]
 | n + 1, h => by
  have := Z0g n (fun i hi => h i (by omega))
  have := h n (by omega)
  simp only [Uz, List.length_append, Nat.add_mul]
  omega
theorem ZdG {core : Bool} {x : InS} (h : x.Ok) : (inW ZC core x).length ≤ 200 := by
 obtain ⟨l1, l2, l3, l4⟩ := h
 have u1 := ZI x.index
 have u2 := ZI x.way
 unfold inW
 cases core
 ·simp only [List.length_append]
  repeat' split
  all_goals (try simp only [List.length_nil])
  all_goals omega
 ·simp [*]; omega
theorem Zbs {x : ZF} (h : x.Ok) : (Z2g ZC x).length ≤ 200 := by
 obtain ⟨l1, l2, l3, l4⟩ := h
 have u1 := ZI x.kind
 have u2 := ZI x.amount
 have u3 := ZI x.delay
 have u4 := ZI x.expiry
 unfold Z2g
 simp only [List.length_append]
 repeat' split
 all_goals (try simp only [List.length_nil])
 all_goals omega
theorem Vd {t : TxS} (h : t.Fine) (core : Bool) {i : Nat} (hi : i ≤ t.N) : (Yu ZC t core i).length ≤ 10000 := by
 have h1 := ZI t.num
 have h2 := ZI t.N
 have h3 := Z0g (f := fun j => inW ZC core (t.ins j)) (b := 200) i (fun j hj => ZdG (h.ok.ins j (by omega)))
 have := h.n
 unfold Yu
 simp only [List.length_append]
 omega
theorem XN {t : TxS} (h : t.Fine) (core : Bool) {i : Nat} (hi : i ≤ t.M) : (Ya ZC t core i).length ≤ 20000 := by
 have h1 := Vd h core (Nat.le_refl t.N)
 have h2 := ZI t.M
 have h3 := Z0g (f := fun j => Z2g ZC (t.outs j)) (b := 200) i (fun j hj => Zbs (h.ok.outs j (by omega)))
 have := h.m
 unfold Ya
 simp only [List.length_append]
 omega
noncomputable def ZdH (W : Int → List Int) (T : Int) (t : TxS) (core : Bool) : Za :=
 (Z7a W T).withL 65 0 (goM 0 (Z9o t core 0 (Yu W t core 0) (Yu W t core 0).length) t.Fine (ZT 0 t.N 9 (fun i => i < t.N) (fun i => i = t.N) (fun _ => False) (fun _ => False) (fun i => Vz t (Yu W t core i) (Yu W t core i).length) (fun i => Vz t (Yu W t core i) (Yu W t core i).length) (fun i => Vz t (Yu W t core i) (Yu W t core i).length)))
noncomputable def ZiB (W : Int → List Int) (T : Int) (t : TxS) (core : Bool) : Za :=
 (Z7a W T).withL 65 4 (goM 0 (Z5F t 0 (Ya W t core 0) (Ya W t core 0).length) t.Fine (ZT 4 t.M 9 (fun i => i < t.M) (fun i => i = t.M) (fun _ => False) (fun _ => False) (fun i => Vz t (Ya W t core i) (Ya W t core i).length) (fun i => Vz t (Ya W t core i) (Ya W t core i).length) (fun i => Vz t (Ya W t core i) (Ya W t core i).length)))
theorem ZdI (t : TxS) (core : Bool) (T : Int) (hT : T = 4611686018427387904) : (ZdH ZC T t core).Ok := by
 unfold ZdH
 refine Za.withGoM (N := 20) (S := fun i => Z9o t core i (Yu ZC t core i) (Yu ZC t core i).length) (by subst hT; exact Z8a) (by kernel_rfl) fun hC => ⟨rfl, fun i hi hgo => ?_⟩
 have h1 := Vd hC core hi
 cases core
 ·exact Zgp ZC T t i (Yu ZC t false i) (Yu ZC t false (i + 1)) _ _ _ _ hT hC.ok hi hC.ins rfl rfl (by omega) (Up _ _ _ _) rfl (fun h => ⟨h, h⟩) (fun h => h)
 ·exact Zgo ZC T t i (Yu ZC t true i) (Yu ZC t true (i + 1)) _ _ _ _ hT hC.ok hi hC.ins rfl rfl (by omega) (Up _ _ _ _) rfl (fun h => ⟨h, h⟩) (fun h => h)
theorem ZdJ (t : TxS) (core : Bool) (T : Int) (hT : T = 4611686018427387904) : (ZiB ZC T t core).Ok := by
 unfold ZiB
 refine Za.withGoM (N := 20) (S := fun i => Z5F t i (Ya ZC t core i) (Ya ZC t core i).length) (by subst hT; exact Z8a) (by kernel_rfl) fun hC => ⟨rfl, fun i hi hgo => ?_⟩
 have h1 := XN hC core hi
 exact Zgq ZC T t i (Ya ZC t core i) (Ya ZC t core (i + 1)) _ _ _ _ hT hC.ok hi hC.outs rfl rfl (by omega) (Z3r _ _ _ _) rfl (fun h => ⟨h, h⟩) (fun h => h)
noncomputable def Zgr (W : Int → List Int) (T : Int) (t : TxS) (core : Bool) : Za :=
 ((ZdH W T t core).withL 65 4 (goM 0 (Z5F t 0 (Ya W t core 0) (Ya W t core 0).length) t.Fine (ZT 4 t.M 9 (fun i => i < t.M) (fun i => i = t.M) (fun _ => False) (fun _ => False) (fun i => Vz t (Ya W t core i) (Ya W t core i).length) (fun i => Vz t (Ya W t core i) (Ya W t core i).length) (fun i => Vz t (Ya W t core i) (Ya W t core i).length)))).withF 166 Z89
theorem ZiC (W : Int → List Int) (T : Int) (t : TxS) (core : Bool) (ys : List Int) (L : Nat) (hT : T = 4611686018427387904) (hW : W = ZC) (ht : t.Fine) (hy : ys = Wt W t core) (hL : L = ys.length) :
  evF (Zgr W T t core) 20 65 [.agg t.c, .bool core] ⟨0, []⟩ (Ym 0 (.ret (.nslice ⟨0, 0, 0, 0, 0⟩ 1 L L)) 1 [(0, .ints .u8 ys)]) := by
 refine @Eq.mpr _ (let q1 := t.num;
 let q2 := t.N;
 let q3 := ↑q2;
 let q4 := decide (q1 = q1);
 let q5 := decide (q2 = q2);
 let q6 := Zf t.ins;
 let q7 := q6 = q6;
 let q8 := t.M;
 let q9 := decide (q8 = q8);
 let q10 := Zn t.outs;
 let q11 := q10 = q10;
 let q12 := W q1 ++ W q3;
 let q13 := List.length q12;
 let q14 := Yu W t core 0;
 let q15 := List.length q14;
 let q16 := ↑q8;
 let q17 := Ya W t core 0;
 let q18 := List.length q17;
 let q19 := (False → False) ∧ (False → False);
 Z0 (decide ((0 ≤ q1 ∧ q1 ≤ T) ∧ 0 ≤ q3 ∧ q3 ≤ T))
 (Z0 (decide (q3 = q3))
 (Z0 (decide (core = core))
 (Z0 q4
 (Z0 q5
 (q7 ∧
 Z0 q5
 (Z0 q9
 (q11 ∧
 Z0 q9
 (Z0 (decide (q13 = q15))
 (Z0 (decide (q15 ≤ q13))
 (q12 = q14 ∧
 TxS.Fine t ∧
 ∀ (i : Nat),
 let q39 := Yu W t core i;
 let q40 := List.length q39;
 let q41 := q39 ++ W q16;
 let q42 := List.length q41;
 i ≤ q2 →
 (∀ (j : Nat), j < i → (fun (i : Nat) => i < q2) j) →
 (i = q2 →
 Z0 (decide (q40 = q40 ∧ q40 < 80000000000000 ∧ 0 ≤ q16 ∧ q16 ≤ T))
 (Z0 (decide (q16 = q16))
 (Z0 q4
 (Z0 q5
 (q7 ∧
 Z0 q5
 (Z0 q9
 (q11 ∧
 Z0 q9
 (Z0 (decide (q42 = q18))
 (Z0 (decide (q18 ≤ q42))
 (q41 = q17 ∧
 TxS.Fine t ∧
 ∀ (i : Nat),
 let q47 := Ya W t core i;
 let q48 := List.length q47;
 let q49 := List.take q48 (Y3 0 q47);
 i ≤ q8 → (∀ (j : Nat), j < i → (fun (i : Nat) => i < q8) j) → (i = q8 → Z0 (decide (0 + q48 ≤ q48)) (Z0 (decide (List.length q49 = q48 ∧ q48 < 90000000000000)) (Z0 (decide (q48 = L)) (Z0 (decide (L ≤ q48)) (q49 = ys ∧ True) False) False) False) False) ∧ q19)
 False)
 False)
 False)
 False)
 False)
 False)
 False)
 False)
 False) ∧
 q19)
 False)
 False)
 False)
 False)
 False)
 False)
 False)
 False)
 False)
 False) (by kernel_rfl) ?_
 conv => zeta
 try simp only [Zc]
 try simp only [Zi]
 try simp only [Ze]
 try simp only [Zj]
 try simp only [Zk]
 try simp only [Zd]
 try simp only [Int.toNat_natCast, Nat.zero_add, true_and, and_true, Nat.le_refl]
 subst hT hW hy hL
 have e1 : ZC t.num ++ ZC ↑t.N = Yu ZC t core 0 := by unfold Yu; simp [Uz]
 have e2 : Yu ZC t core t.N ++ ZC ↑t.M = Ya ZC t core 0 := by unfold Ya; simp [Uz]
 have b1 := Vd ht core (Nat.le_refl t.N)
 have b2 := XN ht core (Nat.le_refl t.M)
 have hN := ht.n
 have hM := ht.m
 have hq := ht.num
 rw [e1]
 refine ⟨⟨⟨by omega, by omega⟩, by omega, by omega⟩, rfl, Nat.le_refl _, rfl, ht, fun i hi _ => ⟨fun he => ?_, fun h => h.elim, fun h => h.elim⟩⟩
 subst he
 rw [e2]
 refine ⟨⟨by omega, by omega, by omega⟩, rfl, Nat.le_refl _, rfl, ht, fun i hi _ => ⟨fun he => ?_, fun h => h.elim, fun h => h.elim⟩⟩
 subst he
 rw [Ye, List.drop_zero, List.take_length]
 exact ⟨⟨rfl, by omega⟩, rfl, Nat.le_refl _, rfl⟩
theorem ZdK (t : TxS) (core : Bool) (T : Int) (hT : T = 4611686018427387904) : (Zgr ZC T t core).Ok := by
 unfold Zgr
 exact Za.withF_ok (Za.withL_join (G := ZdH ZC T t core) (H := Z7a ZC T) (ZdI t core T hT) rfl (ZdJ t core T hT)) Z78
theorem Zbt (t : TxS) (core : Bool) (ht : t.Fine) : ZB PP 65 [.agg t.c, .bool core] (.nslice ⟨0, 0, 0, 0, 0⟩ 1 (Wt ZC t core).length (Wt ZC t core).length) 1 [(0, .ints .u8 (Wt ZC t core))]   := .evM (ZdK t core _ rfl) (ZiC _ _ t core _ _ rfl rfl ht rfl rfl)
def Zbu (R : TxS → Bool → List Int) : Y6 := fun args h K => ZL none h true 20 args fun a => match a with
 | [.agg l, .bool core] => ∃ t, Qj l t ∧ t.Fine ∧ K (.ret (.nslice ⟨h.next, 0, 0, 0, 0⟩ 1 (R t core).length (R t core).length)) ⟨h.next + 1, (h.next, .ints .u8 (R t core)) :: h.bs⟩
 | _ => False
theorem ZdL (args : List AV) (h : Z7) (K : KO) (hl : Zbu (Wt ZC) args h K) : Zh PP 65 args h K := by
 refine ZB.fsumm (d := 20) (Zq _ _ _ _ _ hl fun a ha => ?_)
 split at ha
 ·obtain ⟨t, h1, h2, hK⟩ := ha
  exact ⟨_, _, _, _, (Zbt t _ h2).conv fun E r hr => hr.head (fun _ hc => h1.rel hc) (fun _ hc => hc), rfl, ⟨Nat.one_pos, .ints _ _, trivial⟩, hK⟩
 ·exact ha.elim
theorem Z0h {t : TxS} (ht : t.Ok) (h : ZR Y0 t = true) : t.Fine := by
 unfold ZR at h
 simp only [Bool.and_eq_true, decide_eq_true_eq, Bool.not_eq_true', List.any_eq_false, List.mem_range, beq_iff_eq] at h
 obtain ⟨⟨⟨⟨⟨h1, h2⟩, h3⟩, h4⟩, h5⟩, _⟩ := h
 refine ⟨ht, h1, by omega, by omega, fun j hj => ?_, fun j hj => ?_⟩
 ·have := h4 j hj
  simp [YG, Vt] at this
  exact this.1
 ·have := h5 j hj
  simpa [Yj, Qi] using this
end Go.Tk
end
section
namespace Go.Tk
open IntKind (i64 u8 u32 u64 wrap)
noncomputable def E19 (A : List Int → Int × Int) (H : List Int → List Int) (T2 : List Int → List Int → List Int) (R : TxS → Bool → List Int) (B : Nat) : Za :=
 ((((G0.withP 43 (ckS A)).withF 65 (Zbu R)).withP 64 (ZaX H B)).withP 88 (ZhW T2)).withP 82 (Z76 A)
theorem Zbv (B : Nat) (hB : B < 100000000000) (h32 : 32 ≤ B) : (E19 Y0 Z0z Z5A (Wt ZC) B).Ok :=
 Za.withP_ok (Za.withP_ok (Za.withP_ok (Za.withF_ok (Za.withP_ok Zv Z77) ZdL) (ZaZ B hB h32)) Zd7) Z3q
theorem Zgs (A : List Int → Int × Int) (H : List Int → List Int) (T2 : List Int → List Int → List Int) (R : TxS → Bool → List Int) (B : Nat) (t : TxS) (hh : List Int) (ht : t.Ok) (hc : ZR A t = true) (hA : A = Y0) (hR : R = Wt ZC) (hB : 20000 ≤ B) (hHl : ∀ x, (H x).length = 32) (hH : hh = H (R t true)) :
  evF (E19 A H T2 R B) 20 41 [.agg t.c] ⟨0, []⟩ (Ym 0 (.ret (.tuple [.agg [.arr .u8 32 hh], .int .i64 0])) 0 []) := by
 refine @Eq.mpr _ (let q1 := t.N;
 let q2 := t.M;
 ∃ (t_1 : TxS),
 (t_1.num = t.num ∧ ((q1 = q1 ∧ t_1.N = q1) ∧ ∀ (i : Nat), i < q1 → Zf t.ins i = InS.c (t_1.ins i)) ∧ (q2 = q2 ∧ t_1.M = q2) ∧ ∀ (i : Nat), i < q2 → Zn t.outs i = ZF.c (t_1.outs i)) ∧
 TxS.Ok t_1 ∧
 Z0 (ZR A t_1)
 (∃ (t_2 : TxS),
 let q5 := List.length (R t_2 true);
 let q6 := List.take q5 (Y3 0 (R t_2 true));
 let q7 := List.length q6;
 (t_2.num = t.num ∧ ((q1 = q1 ∧ t_2.N = q1) ∧ ∀ (i : Nat), i < q1 → Zf t.ins i = InS.c (t_2.ins i)) ∧ (q2 = q2 ∧ t_2.M = q2) ∧ ∀ (i : Nat), i < q2 → Zn t.outs i = ZF.c (t_2.outs i)) ∧ TxS.Fine t_2 ∧ Z0 (decide (0 + q5 ≤ q5)) (Z0 (decide (q5 = q7)) (Z0 (decide (q7 ≤ B)) (H q6 = hh ∧ True) False) False) False)
 (Z6 = hh ∧ False)) (by kernel_rfl) ?_
 conv => zeta
 try simp only [Zc]
 try simp only [Zi]
 try simp only [Ze]
 try simp only [Zj]
 try simp only [Zk]
 try simp only [Zd]
 try simp only [Int.toNat_natCast, Nat.zero_add, true_and, and_true, Nat.le_refl]
 refine ⟨t, ⟨rfl, ⟨rfl, fun _ _ => rfl⟩, rfl, fun _ _ => rfl⟩, ht, fun h => ⟨t, ⟨rfl, ⟨rfl, fun _ _ => rfl⟩, rfl, fun _ _ => rfl⟩, Z0h ht (by subst hA; exact hc), ?_⟩, fun h => (by rw [hc] at h; cases h)⟩
 subst hR hA hH
 have hb := XN (Z0h ht hc) true (Nat.le_refl t.M)
 have hb' : (Wt ZC t true).length ≤ 20000 := hb
 rw [Ye, List.drop_zero, List.take_length]
 and_intros <;> first | trivial | rfl | omega
theorem Zgt (A : List Int → Int × Int) (H : List Int → List Int) (T2 : List Int → List Int → List Int) (R : TxS → Bool → List Int) (B : Nat) (t : TxS) (ht : t.Ok) (hc : ZR A t = false) :
  evF (E19 A H T2 R B) 20 41 [.agg t.c] ⟨0, []⟩ (Ym 0 (.ret (.tuple [.agg [.arr .u8 32 Z6], .int .i64 2])) 0 []) := by
 refine @Eq.mpr _ (let q1 := t.N;
 let q2 := t.M;
 ∃ (t_1 : TxS),
 (t_1.num = t.num ∧ ((q1 = q1 ∧ t_1.N = q1) ∧ ∀ (i : Nat), i < q1 → Zf t.ins i = InS.c (t_1.ins i)) ∧ (q2 = q2 ∧ t_1.M = q2) ∧ ∀ (i : Nat), i < q2 → Zn t.outs i = ZF.c (t_1.outs i)) ∧
 TxS.Ok t_1 ∧
 Z0 (ZR A t_1)
 (∃ (t_2 : TxS),
 let q5 := List.length (R t_2 true);
 let q6 := List.take q5 (Y3 0 (R t_2 true));
 let q7 := List.length q6;
 (t_2.num = t.num ∧ ((q1 = q1 ∧ t_2.N = q1) ∧ ∀ (i : Nat), i < q1 → Zf t.ins i = InS.c (t_2.ins i)) ∧ (q2 = q2 ∧ t_2.M = q2) ∧ ∀ (i : Nat), i < q2 → Zn t.outs i = ZF.c (t_2.outs i)) ∧ TxS.Fine t_2 ∧ Z0 (decide (0 + q5 ≤ q5)) (Z0 (decide (q5 = q7)) (Z0 (decide (q7 ≤ B)) (H q6 = Z6 ∧ False) False) False) False)
 (Z6 = Z6 ∧ True)) (by kernel_rfl) ?_
 conv => zeta
 try simp only [Zc]
 try simp only [Zi]
 try simp only [Ze]
 try simp only [Zj]
 try simp only [Zk]
 try simp only [Zd]
 try simp only [Int.toNat_natCast, Nat.zero_add, true_and, and_true, Nat.le_refl]
 exact ⟨t, ⟨rfl, ⟨rfl, fun _ _ => rfl⟩, rfl, fun _ _ => rfl⟩, ht, fun h => (by rw [hc] at h; cases h), fun h => (by first | trivial | exact ⟨rfl, trivial⟩ | rfl)⟩
def Z8b (A : List Int → Int × Int) (Nm : TxS → List Int) : ZW := fun args h K => ZL none h true 20 args fun a => match a with
 | [.agg l] => ∃ t, Qj l t ∧ t.Ok ∧ Z0 (ZR A t) (K (.tuple [.agg [.arr .u8 32 (Nm t)], .int .i64 0])) (K (.tuple [.agg [.arr .u8 32 Z6], .int .i64 2]))
 | _ => False
@[irreducible] def Xo (t : TxS) : List Int := Z0z (Wt ZC t true)
theorem Z3s (t : TxS) : (Xo t).length = 32 := by unfold Xo; exact Z3k _
theorem Z5G (args : List AV) (h : Z7) (K : AV → Prop) (hl : Z8b Y0 Xo args h K) : Zh PP 41 args h fun o h' => ∃ v, o = .ret v ∧ h' = h ∧ K v := by
 refine ZB.psumm (d := 20) (Zq _ _ _ _ _ hl fun a ha => ?_)
 split at ha
 ·obtain ⟨t, h1, h2, hK⟩ := ha
  rw [Zd] at hK
  cases hc : ZR Y0 t with
  | true => exact ⟨_, (ZB.evM (Zbv 20000 (by decide) (by decide)) (Zgs _ _ _ _ _ t _ h2 hc rfl rfl (by decide) Z3k rfl)).conv fun E r hr => hr.head (fun _ hc => h1.rel hc) (fun _ hc => hc), fun _ => rfl, by have := hK.1 hc; unfold Xo at this; exact this⟩
  | false => exact ⟨_, (ZB.evM (Zbv 20000 (by decide) (by decide)) (Zgt _ _ _ _ _ t h2 hc)).conv fun E r hr => hr.head (fun _ hc => h1.rel hc) (fun _ hc => hc), fun _ => rfl, hK.2 hc⟩
 ·exact ha.elim
end Go.Tk
end
section
namespace Go.Tk
open IntKind (i64 u8 u32 u64 wrap)
end Go.Tk
end
section
namespace Go.Tk
open IntKind (i64 u8 u32 u64 wrap)
def Z0P (x y : InS) : Bool := x.name == y.name && x.index == y.index && x.way == y.way && x.tag == y.tag && x.also == y.also && x.secret == y.secret
def Vx (x y : ZF) : Bool := x.kind == y.kind && x.amount == y.amount && x.owner == y.owner && x.other == y.other && x.point == y.point && x.hash == y.hash && x.delay == y.delay && x.expiry == y.expiry
@[irreducible] def Z7b (N : Nat) (g : Nat → InS) (M : Nat) (g2 : Nat → InS) : Bool := decide (N = M) && (List.range N).all fun i => Z0P (g i) (g2 i)
def ZkO : ZW := fun args h K => ZL none h true 20 args fun a => match a with
 | [x, y] => ∃ N g M g2, Z4r x N g ∧ Z4r y M g2 ∧ (N < 900000000000 ∧ (∀ i, i < N → (g i).Ok) ∧ ∀ i, i < M → (g2 i).Ok) ∧ K (.bool (Z7b N g M g2))
 | _ => False
@[irreducible] def Z9p (N : Nat) (g : Nat → ZF) (M : Nat) (g2 : Nat → ZF) : Bool := decide (N = M) && (List.range N).all fun i => Vx (g i) (g2 i)
@[irreducible] def XZ (a b : TxS) : Bool := (a.num == b.num) && (Z7b a.N a.ins b.N b.ins && Z9p a.M a.outs b.M b.outs)
def Zbw (F : TxS → TxS → Bool) : ZW := fun args h K => ZL none h true 20 args fun a => match a with
 | [.agg l, .agg l'] => ∃ a b, Qj l a ∧ Qj l' b ∧ (a.Ok ∧ b.Ok) ∧ K (.bool (F a b))
 | _ => False
end Go.Tk
end
section
namespace Go.Tk
open IntKind (i64 u8 u32 u64 wrap)
end Go.Tk
end
section
namespace Go.Tk
open IntKind (i64 u8 u32 u64 wrap)
mutual
/-- Without names; views may be. -/
def AV.vplain : AV → Bool
 | .top | .bool _ | .int _ _ | .str _ | .ptr none | .eslice | .fslice | .nilslice | .map none | .nilFunc | .nilIface | .arr _ _ _ => true
 | .vints _ _ _ | .vrows _ _ _ _ | .pview _ _ => true
 | .agg cs => W6 cs
 | .tuple cs => W6 cs
 | .iface _ v => v.vplain
 | _ => false
def W6 : List AV → Bool
 | [] => true
 | v :: r => v.vplain && W6 r
end
mutual
theorem Zb.vplain {E E' : Env} (hi : ∀ a c, E.imm a c → E'.imm a c) : ∀ (v : AV) (r : Value), v.vplain = true → Zb E v r → Zb E' v r
 | .top, r, _, _ => .top r
 | .bool b, r, _, h => h.plain rfl
 | .int k n, r, _, h => h.plain rfl
 | .str s, r, _, h => h.plain rfl
 | .ptr none, r, _, h => h.plain rfl
 | .eslice, r, _, h => h.plain rfl
 | .fslice, r, _, h => h.plain rfl
 | .nilslice, r, _, h => h.plain rfl
 | .map none, r, _, h => h.plain rfl
 | .nilFunc, r, _, h => h.plain rfl
 | .nilIface, r, _, h => h.plain rfl
 | .arr k n xs, r, _, h => h.plain rfl
 | .ptr (some p), r, hp, _ => by simp [AV.vplain] at hp
 | .nslice p a b c, r, hp, _ => by simp [AV.vplain] at hp
 | .map (some x), r, hp, _ => by simp [AV.vplain] at hp
 | .func a b c, r, hp, _ => by simp [AV.vplain] at hp
 | .yield x, r, hp, _ => by simp [AV.vplain] at hp
 | .pview cs inn, r, _, h => by
  cases h with
  | pview cs inn a vs hc hq => exact .pview cs inn a vs (Zu.mono (⟨fun _ _ h => by simp [Env.views] at h, hi⟩ : E.views.le E'.views) hc) (fun j c h => hi _ _ (hq j c h))
 | .vints k xs len, r, _, h => by
  cases h with
  | vintsNil k xs len h1 h2 => exact .vintsNil k xs len h1 h2
  | vints k xs len a cap h1 h2 hq => exact .vints k xs len a cap h1 h2 (fun i h => hi _ _ (hq i h))
 | .vrows esz n f len, r, _, h => by
  cases h with
  | vrowsNil esz n f len h1 h2 => exact .vrowsNil esz n f len h1 h2
  | vrows esz n f len a cap g h1 h2 hc hl hq => exact .vrows esz n f len a cap g h1 h2 (fun i h => Zu.mono (⟨fun _ _ h => by simp [Env.views] at h, hi⟩ : E.views.le E'.views) (hc i h)) hl (fun i j c h h' => hi _ _ (hq i j c h h'))
 | .iface t v, r, hp, h => by
  cases h with
  | iface t v x hx => exact .iface t v x (Zb.vplain hi v x (by simpa [AV.vplain] using hp) hx)
 | .agg cs, r, hp, h => by
  cases h with
  | agg cs vs hc => exact .agg cs vs (Zu.vplain hi cs vs (by simpa [AV.vplain] using hp) hc)
 | .tuple cs, r, hp, h => by
  cases h with
  | tuple _ rs hc => exact .tuple _ rs (ZD.vplain hi cs rs (by simpa [AV.vplain] using hp) hc)
theorem Zu.vplain {E E' : Env} (hi : ∀ a c, E.imm a c → E'.imm a c) : ∀ (l : List AV) (r : List Value), W6 l = true → Zu E l r → Zu E' l r
 | [], r, _, h => by cases h; exact .nil
 | v :: l, r, hp, h => by
  simp only [W6, Bool.and_eq_true] at hp
  cases h with
  | one v c vs cs h0 h1 hv t => exact .one v c _ cs h0 h1 (Zb.vplain hi v c hp.1 hv) (Zu.vplain hi l cs hp.2 t)
  | arr k n xs vs cs t => exact .arr k n xs _ cs (Zu.vplain hi l cs hp.2 t)
theorem ZD.vplain {E E' : Env} (hi : ∀ a c, E.imm a c → E'.imm a c) : ∀ (l : List AV) (r : List Value), W6 l = true → ZD E l r → ZD E' l r
 | [], r, _, h => by cases h; exact .nil
 | v :: l, r, hp, h => by
  simp only [W6, Bool.and_eq_true] at hp
  cases h with
  | cons v c vs cs hv t => exact .cons v c _ cs (Zb.vplain hi v c hp.1 hv) (ZD.vplain hi l cs hp.2 t)
end
def Z2P (R : AV → Prop) : KO := fun o _ => match o with
 | .ret u => (match u.vplain with | true => R u | false => False)
 | .panic _ => False
theorem Z7c {P : Program} {f : FuncId} {args : List AV} {h : Z7} {R : AV → Prop} {K : AV → Prop} (hp : W6 args = true) (hc : Zh P f args ⟨0, []⟩ (Z2P R)) (hK : ∀ u, R u → K u) :
  Zh P f args h fun o h' => ∃ v, o = .ret v ∧ h' = h ∧ K v := by
 intro E w rs he hr
 have hemb : Emb E.views ⟨0, []⟩ w :=
  ⟨fun x _ => rfl, fun x B h => by simp [Z7.get, ZK] at h, fun x B h => by simp [Z7.get, ZK] at h, fun x y B B' b N N' h => by simp [Z7.get, ZK] at h, he.imm, fun a c x B N _ h => by simp [Z7.get, ZK] at h⟩
 refine (hc E.views w rs hemb (ZD.vplain (E := E) (E' := E.views) (fun _ _ h => h) _ _ hp hr)).mono ?_
 rintro e w' ⟨E₁, o, h', hK0, hev, hor⟩
 cases hor with
 | panic u r hr => exact hK0.elim
 | ret u r hr =>
  unfold Z2P at hK0
  simp only at hK0
  split at hK0
  ·rename_i hu
   have hkeep : ∀ b, b < w.heap.size → w'.heap[b]? = w.heap[b]? := fun b hb => hev.keep b hb (fun ⟨x, B, N, hx, _⟩ => by simp [Z7.get, ZK] at hx)
   have hemb' : Emb E h w' := by
    refine ⟨he.fresh, he.lt, fun x B hx => (he.own x B hx).congr fun b N hb => hkeep b ((he.own x B hx).lt hb), he.disj, fun a c hi => ?_, he.sep⟩
    have hcc := he.imm a c hi
    have hlt : a.block < w.heap.size := by
     rcases Nat.lt_or_ge a.block w.heap.size with hl | hg
     ·exact hl
     ·simp [World.cell?, Array.getElem?_eq_none hg] at hcc
    simpa [World.cell?, hkeep _ hlt] using hcc
   exact ⟨E, .ret u, h, ⟨u, rfl, rfl, hK u hK0⟩, ⟨.refl E, hemb', hev.size, hev.os, hev.tape, hev.output, fun b hb _ => hkeep b hb, fun b ho => .inl ho, fun _ _ h => h⟩, .ret _ _ (Zb.vplain (E := E₁) (E' := E) (fun a c hi => hev.imm a c hi) _ _ hu hr)⟩
  ·exact hK0.elim
theorem Vu {G : Za} (hG : G.Ok) {n : Nat} {f : FuncId} {args : List AV} {h : Z7} {R : AV → Prop} {K : AV → Prop} (hp : W6 args = true) (hc : evF G n f args ⟨0, []⟩ (Z2P R)) (hK : ∀ u, R u → K u) :
  Zh G.P f args h fun o h' => ∃ v, o = .ret v ∧ h' = h ∧ K v := Z7c hp (Z1S hG hc) hK
end Go.Tk
end
section
namespace Go.Tk
open IntKind (i64 u8 u32 u64 wrap)
end Go.Tk
end
section
namespace Go.Tk
open IntKind (i64 u8 u32 u64 wrap)
inductive Ty where
 | bool
 | int (k : IntKind)
 | str
 | arr (k : IntKind) (n : Nat)
 | ints (k : IntKind)
 | rows (esz : Nat) (ts : List Ty)
def Zbx (P : Program) (r : TypeId → Option (List Ty)) (sz : Nat) : Nat → List Field → Option (List Ty)
 | o, [] => if o = sz then some [] else none
 | o, f :: fs => if f.offset = o then (r f.type).bind fun a => (Zbx P r sz (o + P.cellsOf f.type) fs).bind fun b => some (a ++ b) else none
def Z0Q (P : Program) : Nat → TypeId → Option (List Ty)
 | 0, _ => none
 | m + 1, t => match P.underlying t with
  | some .bool => some [.bool]
  | some (.int k) => some [.int k]
  | some .string => some [.str]
  | some (.array n e) => match P.underlying e with
   | some (.int k) => if P.cellsOf t = n ∧ P.cellsOf e = 1 then some [.arr k n] else none
   | _ => (Z0Q P m e).bind fun ts => if P.cellsOf t = n * P.cellsOf e then some (List.replicate n ts).flatten else none
  | some (.slice e) => match P.underlying e with
   | some (.int k) => if P.cellsOf e = 1 then some [.ints k] else none
   | _ => (Z0Q P m e).bind fun ts => some [.rows (P.cellsOf e) ts]
  | some (.struct fs) => Zbx P (Z0Q P m) (P.cellsOf t) 0 fs.toList
  | _ => none
mutual
inductive Z0D : Ty → AV → Prop
 | bool (b : Bool) : Z0D .bool (.bool b)
 | int (k : IntKind) (n : Int) (h : (Lit.int k n).wf = true) : Z0D (.int k) (.int k n)
 | str (s : ByteArray) (h : s.size ≤ maxLen) : Z0D .str (.str s)
 | arr (k : IntKind) (n : Nat) (xs : List Int) (h : xs.length = n) (hw : ∀ i, i < n → (Lit.int k (xs.getD i 0)).wf = true) : Z0D (.arr k n) (.arr k n xs)
 | ints (k : IntKind) (xs : List Int) (n : Nat) (h : xs.length = n) (hm : n ≤ maxLen) (hw : ∀ i, i < n → (Lit.int k (xs.getD i 0)).wf = true) : Z0D (.ints k) (.vints k xs n)
 | rows (esz : Nat) (ts : List Ty) (n : Nat) (f : Nat → List AV) (hm : n ≤ maxLen) (h : ∀ i, i < n → Fits ts (f i)) : Z0D (.rows esz ts) (.vrows esz n f n)
inductive Fits : List Ty → List AV → Prop
 | nil : Fits [] []
 | cons (t : Ty) (a : AV) (ts : List Ty) (vz : List AV) (h : Z0D t a) (r : Fits ts vz) : Fits (t :: ts) (a :: vz)
end
theorem Fits.append : ∀ {ts wz : List Ty} {vz bs : List AV}, Fits ts vz → Fits wz bs → Fits (ts ++ wz) (vz ++ bs)
 | _, _, _, _, .nil, h => h
 | _, _, _, _, .cons t a ts vz h r, k => .cons t a _ _ h (Fits.append r k)
def tE (w : World) : Env := ⟨fun _ => none, fun a c => w.cell? a = some c⟩
section
variable {H : Type} {enc : TypeId × Value → H} {P : Program} {w : World} {sp : Nat → Bool} {held : Bool}
theorem UR {k : IntKind} {n : Nat} {cs : List Value} (hl : cs.length = n) (h : ∀ i, i < n → ∃ z, cs[i]? = some (.int k z) ∧ (Lit.int k z).wf = true) :
  ∃ xs : List Int, xs.length = n ∧ (∀ i, i < n → (Lit.int k (xs.getD i 0)).wf = true) ∧ ∀ i, i < n → cs[i]? = some (.int k (xs.getD i 0)) := by
 refine ⟨cs.map fun v => match v with | .int _ z => z | _ => 0, by simp [hl], fun i hi => ?_, fun i hi => ?_⟩
 ·obtain ⟨z, h1, h2⟩ := h i hi
  rw [List.getD_eq_getElem?_getD, List.getElem?_map, h1]
  exact h2
 ·obtain ⟨z, h1, h2⟩ := h i hi
  rw [List.getD_eq_getElem?_getD, List.getElem?_map, h1]
  rfl
theorem ZdM {α β : Type} {n : Nat} {p : Nat → α → β → Prop} [Inhabited α] [Inhabited β] (h : ∀ i, i < n → ∃ a b, p i a b) : ∃ (f : Nat → α) (g : Nat → β), ∀ i, i < n → p i (f i) (g i) :=
 ⟨fun i => if hi : i < n then Classical.choose (h i hi) else default, fun i => if hi : i < n then Classical.choose (Classical.choose_spec (h i hi)) else default, fun i hi => by
  simp only [hi, dite_true]
  exact Classical.choose_spec (Classical.choose_spec (h i hi))⟩
theorem Z10 : ∀ (m : Nat) (t : TypeId) (ts : List Ty), Z0Q P m t = some ts → ∀ (fuel : Nat) (cs : List Value) (x : DataW H × List MemPlace), DataW.trod enc P w 0 sp held fuel t cs = some x → ∃ vz, Fits ts vz ∧ Zu (tE w) vz cs
 | 0, _, _, ht => by simp [Z0Q] at ht
 | m + 1, t, ts, ht => by
  intro fuel cs x hx
  unfold Z0Q at ht
  split at ht
  ·rename_i hu
   cases ht
   obtain ⟨b, rfl, _⟩ := DataW.trod_bool hu hx
   exact ⟨[.bool b], .cons _ _ _ _ (.bool b) .nil, .one _ _ _ _ rfl rfl (.bool b) .nil⟩
  ·rename_i k hu
   cases ht
   obtain ⟨n, rfl, _, hw⟩ := DataW.trod_int hu hx
   exact ⟨[.int k n], .cons _ _ _ _ (.int k n hw) .nil, .one _ _ _ _ rfl rfl (.int k n) .nil⟩
  ·rename_i hu
   cases ht
   obtain ⟨s, rfl, _, hw⟩ := DataW.trod_string hu hx
   exact ⟨[.str s], .cons _ _ _ _ (.str s hw) .nil, .one _ _ _ _ rfl rfl (.str s) .nil⟩
  ·rename_i n e hu
   split at ht
   ·rename_i k he
    split at ht
    ·rename_i hc
     obtain ⟨hc, h1⟩ := hc
     cases ht
     obtain ⟨xs, q, rfl, rfl, hl, hn, hi⟩ := DataW.trod_array hu hx
     rw [hc] at hl
     obtain ⟨zs, z1, z2, z3⟩ := UR (k := k) hl fun i hlt => by
      have := hi i hlt
      rw [List.getElem?_eq_getElem (by omega), h1] at this
      obtain ⟨z, e1, _, e2⟩ := DataW.trod_int he this
      refine ⟨z, ?_, e2⟩
      rw [Nat.mul_one] at e1
      have := congrArg (fun l => l[0]?) e1
      simpa using this
     refine ⟨[.arr k n zs], .cons _ _ _ _ (.arr k n zs z1 z2) .nil, ?_⟩
     have : cs = intCells k n zs ++ [] := by
      rw [List.append_nil]
      refine List.ext_getElem? fun i => ?_
      by_cases hlt : i < n
      ·rw [z3 i hlt]
       simp [intCells, hlt]
      ·rw [List.getElem?_eq_none (by omega), List.getElem?_eq_none (by rw [Z5]; omega)]
     rw [this]
     exact .arr _ _ _ _ _ .nil
    ·cases ht
   ·obtain ⟨es, e1, e2⟩ := Option.bind_eq_some_iff.1 ht
    split at e2
    ·rename_i hc
     cases e2
     obtain ⟨xs, q, rfl, rfl, hl, hn, hi⟩ := DataW.trod_array hu hx
     rw [hc] at hl
     have key : ∀ j, j ≤ n → ∃ vz, Fits (List.replicate j es).flatten vz ∧ Zu (tE w) vz (cs.take (j * P.cellsOf e)) := by
      intro j
      induction j with
      | zero => intro _; exact ⟨[], .nil, by simp; exact .nil⟩
      | succ j ih =>
       intro hj
       obtain ⟨vz, f1, f2⟩ := ih (by omega)
       have := hi j (by omega)
       rw [List.getElem?_eq_getElem (by omega)] at this
       obtain ⟨bs, p1, p2⟩ := Z10 m _ _ e1 _ _ _ this
       refine ⟨vz ++ bs, ?_, ?_⟩
       ·rw [List.replicate_succ', List.flatten_append, List.flatten_singleton]
        exact f1.append p1
       ·rw [Nat.succ_mul, List.take_add]
        exact f2.append p2
     obtain ⟨vz, f1, f2⟩ := key n (Nat.le_refl _)
     rw [List.take_of_length_le (by omega)] at f2
     exact ⟨vz, f1, f2⟩
    ·cases e2
  ·rename_i e hu
   split at ht
   ·rename_i k he
    split at ht
    ·rename_i hc
     cases ht
     rcases DataW.trod_slice hu hx with ⟨rfl, _⟩ | ⟨a, len, cap, elems, rest, n, rfl, rfl, _, _, hl, hm, hlen, hi, _, _⟩
     ·exact ⟨[.vints k [] 0], .cons _ _ _ _ (.ints k [] 0 rfl (Nat.zero_le _) fun i hi => absurd hi (Nat.not_lt_zero i)) .nil, .one _ _ _ _ rfl rfl (.vintsNil _ _ _ rfl rfl) .nil⟩
     ·obtain ⟨zs, z1, z2, z3⟩ := UR (k := k) (n := len) (cs := (List.range len).map fun i => (w.cell? (a.add i)).getD undef) (by simp) fun i hlt => by
       have := hi i hlt
       rw [List.getElem?_eq_getElem (by omega), hc, Nat.mul_one] at this
       obtain ⟨cs', h1, h2⟩ := Option.bind_eq_some_iff.1 this
       obtain ⟨z, rfl, _, e2⟩ := DataW.trod_int he h2
       refine ⟨z, ?_, e2⟩
       simp [hlt, Go.ChangeShapes.cell_of_cells?_one h1]
      refine ⟨[.vints k zs len], .cons _ _ _ _ (.ints k zs len z1 (by omega) z2) .nil, .one _ _ _ _ rfl rfl (.vints k zs len a cap (by omega) (by omega) fun i hlt => ?_) .nil⟩
      rw [z1] at hlt
      have := hi i hlt
      rw [List.getElem?_eq_getElem (by omega), hc, Nat.mul_one] at this
      obtain ⟨cs', h1, h2⟩ := Option.bind_eq_some_iff.1 this
      obtain ⟨z, rfl, _, e2⟩ := DataW.trod_int he h2
      have h3 := z3 i hlt
      have h4 := Go.ChangeShapes.cell_of_cells?_one h1
      simp [hlt, h4] at h3
      show w.cell? (a.add i) = _
      rw [h4, h3, List.getD_eq_getElem?_getD]
    ·cases ht
   ·obtain ⟨es, h1, h2⟩ := Option.bind_eq_some_iff.1 ht
    cases h2
    rcases DataW.trod_slice hu hx with ⟨rfl, _⟩ | ⟨a, len, cap, elems, rest, n, rfl, rfl, _, _, hl, hm, hlen, hi, _, _⟩
    ·exact ⟨[.vrows (P.cellsOf e) 0 (fun _ => []) 0], .cons _ _ _ _ (.rows _ _ 0 _ (Nat.zero_le _) fun i hi => absurd hi (Nat.not_lt_zero i)) .nil, .one _ _ _ _ rfl rfl (.vrowsNil _ _ _ _ rfl rfl) .nil⟩
    ·obtain ⟨f, g, hfg⟩ := ZdM (n := len) (p := fun i (vz : List AV) (vs : List Value) => Fits es vz ∧ Zu (tE w) vz vs ∧ w.cells? 0 (a.add (i * P.cellsOf e)) (P.cellsOf e) = some vs) fun i hlt => by
      have := hi i hlt
      rw [List.getElem?_eq_getElem (by omega)] at this
      obtain ⟨cs', k1, k2⟩ := Option.bind_eq_some_iff.1 this
      obtain ⟨vz, f1, f2⟩ := Z10 m _ _ h1 _ _ _ k2
      exact ⟨vz, cs', f1, f2, k1⟩
     refine ⟨[.vrows (P.cellsOf e) len f len], .cons _ _ _ _ (.rows _ _ len f (by omega) fun i hlt => (hfg i hlt).1) .nil, .one _ _ _ _ rfl rfl (.vrows _ _ _ _ a cap g (Nat.le_refl _) hl (fun i hlt => (hfg i hlt).2.1) (fun i hlt => (World.cells?_some (hfg i hlt).2.2).2.1) fun i j c hlt hj => ?_) .nil⟩
     obtain ⟨_, hl', hc'⟩ := World.cells?_some (hfg i hlt).2.2
     have hj' : j < P.cellsOf e := by
      rcases Nat.lt_or_ge j (P.cellsOf e) with h | h
      ·exact h
      ·rw [List.getElem?_eq_none (by omega)] at hj; cases hj
     have := hc' j hj'
     rw [hj] at this
     show w.cell? (a.add (i * P.cellsOf e + j)) = some c
     rw [← this]
     rw [Addr.add_add]
  ·rename_i fs hu
   obtain ⟨xs, n, rfl, rfl, hl, hn, hf⟩ := DataW.trod_struct hu hx
   have key : ∀ (l : List Field) (o : Nat) (ts : List Ty) (i0 : Nat), Zbx P (Z0Q P m) (P.cellsOf t) o l = some ts → (∀ i f, l[i]? = some f → fs[i0 + i]? = some f) → ∃ vz, Fits ts vz ∧ Zu (tE w) vz (cs.drop o) := by
    intro l
    induction l with
    | nil =>
     intro o ts i0 h _
     unfold Zbx at h
     split at h
     ·rename_i ho
      cases h
      exact ⟨[], .nil, by rw [List.drop_eq_nil_of_le (by omega)]; exact .nil⟩
     ·cases h
    | cons f l ih =>
     intro o ts i0 h hl'
     unfold Zbx at h
     split at h
     ·rename_i ho
      obtain ⟨a, h1, h2⟩ := Option.bind_eq_some_iff.1 h
      obtain ⟨b, h3, h4⟩ := Option.bind_eq_some_iff.1 h2
      cases h4
      have h0 : fs[i0]? = some f := hl' 0 f rfl
      have hlt : i0 < fs.size := by
       rcases Nat.lt_or_ge i0 fs.size with h | h
       ·exact h
       ·rw [Array.getElem?_eq_none (by omega)] at h0; cases h0
      have k := hf i0 f h0
      rw [List.getElem?_eq_getElem (by omega), ho] at k
      obtain ⟨vz, p1, p2⟩ := Z10 m _ _ h1 _ _ _ k
      obtain ⟨bs, q1, q2⟩ := ih (o + P.cellsOf f.type) b (i0 + 1) h3 fun i g hg => by
       have := hl' (i + 1) g hg
       rw [← this]; congr 1; omega
      refine ⟨vz ++ bs, p1.append q1, ?_⟩
      have e : cs.drop o = (cs.drop o).take (P.cellsOf f.type) ++ cs.drop (o + P.cellsOf f.type) := by
       rw [← List.drop_drop, List.take_append_drop]
      rw [e]
      exact p2.append q2
     ·cases h
   obtain ⟨vz, h1, h2⟩ := key fs.toList 0 ts 0 ht fun i f h => by simpa using h
   exact ⟨vz, h1, by simpa using h2⟩
  ·cases ht
def isAgg (P : Program) (t : TypeId) : Bool := match P.underlying t with
 | some (.struct _) | some (.array _ _) => true
 | _ => false
inductive Z2h : Bool → List Ty → AV → Prop
 | agg (ts : List Ty) (vz : List AV) (h : Fits ts vz) : Z2h true ts (.agg vz)
 | one (t : Ty) (a : AV) (h : Z0D t a) : Z2h false [t] a
theorem Zby {m : Nat} {t : TypeId} {ts : List Ty} (ht : Z0Q P m t = some ts) (hg : isAgg P t = false) {v : Value} {r : Reach} {b : Nat} (hv : Value.okWide P w r b t v) :
  v.cells.toList = [v] ∧ ∃ τ, ts = [τ] ∧ ∀ k n, τ ≠ .arr k n := by
 cases m with
 | zero => simp [Z0Q] at ht
 | succ m =>
  unfold Z0Q at ht
  unfold isAgg at hg
  split at ht
  ·rename_i hu; cases ht; obtain ⟨b, rfl⟩ := Go.WideShapes.okWide_bool hu hv; exact ⟨rfl, _, rfl, fun _ _ h => by cases h⟩
  ·rename_i hu; cases ht; obtain ⟨b, rfl⟩ := Go.WideShapes.okWide_int hu hv; exact ⟨rfl, _, rfl, fun _ _ h => by cases h⟩
  ·rename_i hu; cases ht; obtain ⟨b, rfl⟩ := Go.WideShapes.okWide_string hu hv; exact ⟨rfl, _, rfl, fun _ _ h => by cases h⟩
  ·rename_i hu; simp [hu] at hg
  ·rename_i hu
   obtain ⟨a, l, c, rfl⟩ := Go.WideShapes.okWide_slice hu hv
   split at ht
   ·split at ht
    ·cases ht; exact ⟨rfl, _, rfl, fun _ _ h => by cases h⟩
    ·cases ht
   ·obtain ⟨es, h1, h2⟩ := Option.bind_eq_some_iff.1 ht
    cases h2; exact ⟨rfl, _, rfl, fun _ _ h => by cases h⟩
  ·rename_i hu; simp [hu] at hg
  ·cases ht
theorem Zbz {m : Nat} {t : TypeId} {ts : List Ty} {g : Bool} (ht : Z0Q P m t = some ts) (hg : isAgg P t = g) {v : Value} {r : Reach} {b : Nat} (hv : Value.okWide P w r b t v) {d : DataW H} {ps : List MemPlace} (h : DataW.Trod enc P w 0 sp held t v d ps) :
  ∃ a, Z2h g ts a ∧ Zb (tE w) a v := by
 obtain ⟨fuel, hf⟩ := h
 obtain ⟨vz, f1, f2⟩ := Z10 m _ _ ht _ _ _ hf
 cases g with
 | true =>
  have : ∃ cs, v = .agg cs := by
   unfold isAgg at hg
   unfold Value.okWide at hv
   split at hg
   ·rename_i hu; simp only [hu] at hv; obtain ⟨cs, rfl, _⟩ := hv; exact ⟨cs, rfl⟩
   ·rename_i hu; simp only [hu] at hv; obtain ⟨cs, rfl, _⟩ := hv; exact ⟨cs, rfl⟩
   ·cases hg
  obtain ⟨cs, rfl⟩ := this
  refine ⟨.agg vz, .agg _ _ f1, ?_⟩
  have : cs = (Value.cells (.agg cs)).toList.toArray := by simp [Value.cells]
  rw [this]
  exact .agg _ _ f2
 | false =>
  obtain ⟨h1, τ, rfl, h2⟩ := Zby ht hg hv
  rw [h1] at f2
  cases f1 with
  | cons _ a _ vz f r =>
   cases r
   generalize hL : [v] = L at f2
   cases f2 with
   | one _ _ _ _ h0 h1 h t => cases hL; exact ⟨_, .one _ _ f, h⟩
   | arr k n xs _ cs t => cases f; exact absurd rfl (h2 _ _)
end
end Go.Tk
end
section
namespace Go.Tk
open IntKind (i64 u8 u32 u64 wrap)
open Go.ChangeShapes Go.WideShapes Go.RowKit
theorem Zgu (w : World) : Emb (tE w) ⟨0, []⟩ w where
 fresh := fun _ _ => rfl
 lt := fun x B h => by simp [Z7.get, ZK] at h
 own := fun x B h => by simp [Z7.get, ZK] at h
 disj := fun x y B B' b N N' h => absurd h (by simp [Z7.get, ZK])
 imm := fun _ _ h => h
 sep := fun a c x B N _ h => absurd h (by simp [Z7.get, ZK])
theorem Zh.topT {P : Program} {f : FuncId} {args : List AV} (h : Zh P f args ⟨0, []⟩ fun o h' => ∃ v, o = .ret v ∧ h' = ⟨0, []⟩ ∧ v = .bool true) {w : World} {rs : List Value} (hl : ZD (tE w) args rs) :
  Calls P f rs.toArray w fun e w' => e = .returned (.bool true) ∧ Go.RowKit.Below w.heap.size w w' := by
 refine (h (tE w) w rs (Zgu w) hl).mono ?_
 rintro e w' ⟨E', o, h', ⟨v, rfl, rfl, hv⟩, hev, hor⟩
 obtain rfl := hv
 cases hor with
 | ret v r hr =>
  cases hr
  refine ⟨rfl, hev.os, hev.tape, hev.output, hev.size, fun k hk => hev.keep k hk ?_⟩
  rintro ⟨x, B, N, hx, _⟩
  exact absurd hx (by simp [Z7.get, ZK])
def Z7d (P : Program) (m : Nat) : List TypeId → Option (List (Bool × List Ty))
 | [] => some []
 | t :: r => (Z0Q P m t).bind fun a => (Z7d P m r).bind fun b => some ((isAgg P t, a) :: b)
inductive Z3t : List (Bool × List Ty) → List AV → Prop
 | nil : Z3t [] []
 | cons (g : Bool) (ts : List Ty) (a : AV) (r : List (Bool × List Ty)) (vz : List AV) (h : Z2h g ts a) (k : Z3t r vz) : Z3t ((g, ts) :: r) (a :: vz)
section
variable {H : Type} {enc : TypeId × Value → H} {P : Program} {w : World}
theorem Z3u {m : Nat} {r : Reach} {b : Nat} : ∀ {ts : List TypeId} {τs : List (Bool × List Ty)} {vs : List Value} {ds : List (DataW H)} {ps : List MemPlace}, Z7d P m ts = some τs → (∀ (j : Nat) t v, ts[j]? = some t → vs[j]? = some v → Value.okWide P w r b t v) →
  DataW.TrodAll enc P w 0 (fun _ => true) true ts vs ds ps → ∃ vz, Z3t τs vz ∧ ZD (tE w) vz vs
 | [], τs, vs, ds, ps, ha, _, h => by
  cases ha
  obtain ⟨rfl, _, _⟩ := trodAll_nil h
  exact ⟨[], .nil, .nil⟩
 | t :: ts, τs, vs, ds, ps, ha, hv, h => by
  obtain ⟨a, h1, h2⟩ := Option.bind_eq_some_iff.1 ha
  obtain ⟨c, h3, h4⟩ := Option.bind_eq_some_iff.1 h2
  cases h4
  obtain ⟨v, vs', d, ds', p, q, rfl, rfl, rfl, k1, k2⟩ := trodAll_cons h
  obtain ⟨x, f1, f2⟩ := Zbz h1 rfl (hv 0 t v rfl rfl) k1
  obtain ⟨vz, g1, g2⟩ := Z3u h3 (fun j t' v' e1 e2 => hv (j + 1) t' v' e1 e2) k2
  exact ⟨x :: vz, .cons _ _ _ _ _ f1 g1, .cons _ _ _ _ f2 g2⟩
theorem Z0E {sp : Nat → Bool} {held : Bool} : ∀ {ts : List TypeId} {vs : List Value} {ds : List (DataW H)} {ps : List MemPlace}, DataW.TrodAll enc P w 0 sp held ts vs ds ps → ds.length = ts.length
 | [], _, _, _, h => by obtain ⟨_, rfl, _⟩ := trodAll_nil h; rfl
 | t :: ts, _, _, _, h => by
  obtain ⟨v, vs', d, ds', p, q, rfl, rfl, rfl, k1, k2⟩ := trodAll_cons h
  simp [Z0E k2]
theorem Z3v {W' : World} (laid : laidOutB P = true) (hb : Below w.heap.size w W') : ∀ {ts : List TypeId} {vs : List Value} {ds : List (DataW H)} {ps : List MemPlace}, ts.all (fun t => P.readableRec t && decide (t < P.types.size)) = true →
  DataW.TrodAll enc P w 0 (fun _ => true) true ts vs ds ps → DataW.TrodAll enc P W' 0 (fun b => decide (b < w.heap.size)) true ts vs ds ps
 | [], _, _, _, _, h => by obtain ⟨rfl, rfl, rfl⟩ := trodAll_nil h; exact trodAll_mk0
 | t :: ts, _, _, _, hr, h => by
  obtain ⟨v, vs', d, ds', p, q, rfl, rfl, rfl, k1, k2⟩ := trodAll_cons h
  simp only [List.all_cons, Bool.and_eq_true, decide_eq_true_eq] at hr
  have lt : ∀ x ∈ p, x.block < w.heap.size := by obtain ⟨m, hm⟩ := k1; exact DataW.trod_lt m _ _ _ hm
  exact trodAll_cons_mk (Below.trod laid hr.1.1 hr.1.2 k1 hb lt) (Z3v laid hb hr.2 k2)
end
theorem lifted_gen {H : Type} {enc : TypeId × Value → H} {C : Checked} {os : Os} {f : FuncId} {fn : Func} {s : ChangeSpec} {conds : List PathCond} {tb : TypeId} {m : Nat} {τs : List (Bool × List Ty)}
  (own : ownKnob C.prog.godebug = none) (laid : laidOutB C.prog = true) (started : os.Started) (noInit : C.prog.inits.idxOf? f = none) (hfn : C.prog.funcs[f]? = some fn)
  (witness : ∃ (w : World) (tape : Tape) (i : Input), w.os = os ∧ (w.forCall tape i).Shaped C.prog ∧ i.vars = [] ∧ Input.okWide C.prog (w.forCall tape i) .any w.heap.size f i ∧
   s.pre6 enc C.prog fn conds false (w.forCall tape i).memory i.args ∧ ({} : Assume).holds C.prog (lone (Frame.enter C.prog f i.args .normal) [] (w.forCall tape i)))
  (hvars : s.vars = []) (hr : fn.resultTypes = #[tb]) (hb : C.prog.underlying tb = some .bool) (hread : fn.params.toList.all (fun t => C.prog.readableRec t && decide (t < C.prog.types.size)) = true) (hτ : Z7d C.prog m fn.params.toList = some τs)
  (hs : ∀ ds : List (DataW H), ds.length = fn.params.toList.length → s.fn H ds = { results := [.lit (.bool true)], args := ds })
  (walk : ∀ vz, Z3t τs vz → Zh C.prog f vz ⟨0, []⟩ fun o h' => ∃ v, o = .ret v ∧ h' = ⟨0, []⟩ ∧ v = .bool true) :
  ReturnsInHanded {} C os f .any (s.pre6 enc C.prog fn conds false) (s.post enc C.prog fn false true false false) := by
 refine returnsInHanded_of_change own started noInit hfn witness ?_
 intro W base args ds gs before hval hW _ _
 have hW' := hW
 obtain ⟨p, q, hA, hV, rfl, hfz, hnd⟩ := hW
 have hV0 := hV
 rw [hvars] at hV
 obtain ⟨rfl, rfl⟩ := trodVars_none hV
 obtain ⟨vz, f1, f2⟩ := Z3u hτ (fun j t v e1 e2 => hval j t v (by simpa using e1) (by simpa using e2)) hA
 have e0 : args = args.toList.toArray := by simp
 have key := (walk vz f1).topT f2
 rw [← e0] at key
 refine key.mono fun e W' ⟨he, bel⟩ => ?_
 subst he
 have hfn' := hs ds (Z0E hA)
 refine ⟨_, rfl, ds, [], _, [], p, [], hW', ?_, ?_, ?_, bel.frame _, fun h => by cases h⟩
 ·rw [List.append_nil, hfn', hr]
  exact trodAll_mk1 (shut_bool hb _)
 ·rw [List.append_nil, hfn']
  exact Z3v laid bel hread hA
 ·rw [List.append_nil, hfn', hvars]
  rfl
end Go.Tk
end
section
namespace Go.Tk
open IntKind (i64 u8 u32 u64 wrap)
theorem Yk.join {P : Program} {k : Nat} {ro : Option Nat} {c : Code} {s : St} {X Y : KE} (h : Yk P k ro c s Y) (hxy : ∀ e s', Y e s' → ∃ s₂, e = .normal ∧ VS k s' s₂ ∧ X .normal s₂) : Yk P k ro c s X := by
 intro E0 h0 w0 E a w n hk hs hev
 refine wpIn_mono (h E0 h0 w0 E a w n hk hs hev) ?_
 rintro e a' w' ⟨E', x, s', hx, hev', hs', he⟩
 obtain ⟨s₂, rfl, hw, hX⟩ := hxy x s' hx
 obtain ⟨E₂, hs₂, hev₂⟩ := hw E0 h0 w0 E' a' w' hk hs' hev'
 cases he
 exact ⟨E₂, _, s₂, hX, hev₂, hs₂, .normal⟩
def Z7e (P : Program) (f : FuncId) (id : Nat) : Bool := match P.funcs[f]? with
 | some fn => match fn.body with
  | some b => match Vr id (Zy b) with | [_] => true | _ => false
  | none => false
 | none => false
theorem Z9q {P : Program} {f : FuncId} {id : Nat} (h : Z7e P f id = true) {fn : Func} {body c : Code} (hf : P.funcs[f]? = some fn) (hb : fn.body = some body) (hm : (id, c) ∈ Zy body) : c = WD P f id := by
 have hc := WC hm
 simp only [Z7e, hf, hb] at h
 split at h
 ·rename_i d hd
  have hbo : Q9 P f = body := by simp [Q9, hf, hb]
  have hbl : WD P f id = d := by unfold WD; rw [hbo, hd]
  rw [hd] at hc
  rw [List.mem_singleton] at hc
  rw [hbl]; exact hc
 ·cases h
@[irreducible] def ZbA (G : Za) (n : Nat) (f : FuncId) (id : Nat) (k : Nat) (s : St) (X : KE) : Prop := evC G (Z1P G n f none) k (WD G.P f id) s X
def ZbB (k : Nat) (S0 S1 : St) (C : Prop) : Nat → St → KE → Prop := fun k' s X => match Nat.beq k' k with
 | true => UQ k S0 s (C ∧ X .normal S1)
 | false => False
def jnM (k : Nat) (S1 : St) : KE := fun e s => match e with
 | .normal => UQ k S1 s True
 | _ => False
theorem Za.withJ {G : Za} (hG : G.Ok) {f : FuncId} {id k N : Nat} {S0 S1 : St} {C : Prop} (h1 : Z7e G.P f id = true) (hC : C → ZbA G N f id k S0 (jnM k S1)) : (G.withL f id (ZbB k S0 S1 C)).Ok where
 draw := hG.draw
 psumm := hG.psumm
 fsumm := hG.fsumm
 lsumm := fun f' id' S' fn c body hS hf hb hm k' s X hs => by
  simp only [Za.withL] at hS
  split at hS
  ·rename_i hq
   rw [Bool.and_eq_true] at hq
   have e1 := Nat.eq_of_beq_eq_true hq.1
   have e2 := Nat.eq_of_beq_eq_true hq.2
   subst e1 e2
   cases hS
   have hc := Z9q h1 hf hb hm
   unfold ZbB at hs
   split at hs
   ·rename_i hk
    have := Nat.eq_of_beq_eq_true hk
    subst this
    obtain ⟨⟨hcC, hX⟩, hw⟩ := YO hs
    have hE := hC hcC
    unfold ZbA at hE
    rw [← hc] at hE
    have hkN := Uh hG N f' none
    refine Yk.weak ?_ hw
    refine Yk.join (Z1Q (k := k') (ro := none) hG hkN.1 (fun _ => rfl) (fun _ => rfl) (fun _ => ⟨fn, body, by rw [hkN.2.1]; exact hf, hb, fun b hbm => VT body id' _ hm b hbm⟩) hE) ?_
    intro e s' hY
    unfold jnM at hY
    split at hY
    ·obtain ⟨_, hw'⟩ := YO hY
     exact ⟨_, rfl, hw', hX⟩
    ·exact hY.elim
   ·exact hs.elim
  ·exact hG.lsumm f' id' S' fn c body hS hf hb hm k' s X hs
theorem Zh.eslice {P : Program} {f : FuncId} {h : Z7} {K : KO} (h1 : Zh P f [.nilslice] h K) (h2 : Zh P f [.fslice] h K) : Zh P f [.eslice] h K := by
 intro E w rs he hl
 cases hl with
 | cons v r vs rs hv ht =>
  cases ht
  cases hv with
  | eslice a =>
   cases a with
   | none => exact h1 E w _ he (.cons _ _ _ _ .nilslice .nil)
   | some a => exact h2 E w _ he (.cons _ _ _ _ (.fslice a 0) .nil)
end Go.Tk
end
section
namespace Go.Tk
open IntKind (i64 u8 u32 u64 wrap)
theorem w8m (x : Int) (h : 0 ≤ x) : u8.wrap (Int.tmod x 256) = u8.wrap x := by
 rw [tm h]
 unfold wrap
 simp [IntKind.bits, IntKind.signed]
theorem ZdN {n k : Int} (h : 0 ≤ n) : 0 ≤ Zp .i64 n k := by
 unfold Zp
 rw [Int.fdiv_eq_ediv_of_nonneg _ (by exact Int.le_of_lt (Int.pow_pos (by decide)))]
 exact Int.ediv_nonneg h (by exact Int.le_of_lt (Int.pow_pos (by decide)))
theorem b8m {n k : Int} (h : 0 ≤ n) : u8.wrap (Int.tmod (Zp .i64 n k) 256) = b8 n k := w8m _ (ZdN h)
theorem Zgv (n : Int) (ys : List Int) (L : Nat) (hn : 0 ≤ n) (hy : ys = ZC n) (hL : L = ys.length) :
  evF G0 20 168 [.int .i64 n] ⟨0, []⟩ (Ym 0 (.ret (.nslice ⟨0, 0, 0, 0, 0⟩ 1 L L)) 1 [(0, .ints .u8 ys)]) := by
 refine @Eq.mpr _ (let q1 := [wrap u8 (Int.tmod (Zp i64 n 8) 256), wrap u8 (Int.tmod (Zp i64 n 0) 256)];
 let q2 := wrap u8 (Int.tmod (Zp i64 n 24) 256) :: wrap u8 (Int.tmod (Zp i64 n 16) 256) :: q1;
 Z0 (decide (n < 253)) (Z0 (decide (1 = L)) (Z0 (decide (L ≤ 1)) ([wrap u8 n] = ys ∧ True) False) False) (Z0 (decide (n < 65536)) (Z0 (decide (3 = L)) (Z0 (decide (L ≤ 3)) ((253 : Int) :: q1 = ys ∧ True) False) False) (Z0 (decide (n < 4294967296)) (Z0 (decide (5 = L)) (Z0 (decide (L ≤ 5)) ((254 : Int) :: q2 = ys ∧ True) False) False) (Z0 (decide (9 = L)) (Z0 (decide (L ≤ 9)) ((255 : Int) :: wrap u8 (Int.tmod (Zp i64 n 56) 256) :: wrap u8 (Int.tmod (Zp i64 n 48) 256) :: wrap u8 (Int.tmod (Zp i64 n 40) 256) :: wrap u8 (Int.tmod (Zp i64 n 32) 256) :: q2 = ys ∧ True) False) False)))) (by kernel_rfl) ?_
 conv => zeta
 try simp only [Zc]
 try simp only [Zi]
 try simp only [Ze]
 try simp only [Zj]
 try simp only [Zk]
 try simp only [Zd]
 try simp only [Int.toNat_natCast, Nat.zero_add, true_and, and_true, Nat.le_refl]
 subst hy hL
 refine ⟨fun h1 => ?_, fun h1 => ⟨fun h2 => ?_, fun h2 => ⟨fun h3 => ?_, fun h3 => ?_⟩⟩⟩
 ·rw [Zbi h1]; simp
 ·rw [Zbj h1 h2]; simp [b8m hn]
 ·rw [Zbk h1 h2 h3]; simp [b8m hn]
 ·rw [Zbl h1 h2 h3]; simp [b8m hn]
def ZbC (W : Int → List Int) : Y6 := fun args h K => match args with
 | [.int .i64 n] => Zs (0 ≤ n) (K (.ret (.nslice ⟨h.next, 0, 0, 0, 0⟩ 1 (W n).length (W n).length)) ⟨h.next + 1, (h.next, .ints .u8 (W n)) :: h.bs⟩)
 | _ => False
theorem ZbD (args : List AV) (h : Z7) (K : KO) (hl : ZbC ZC args h K) : Zh PP 168 args h K := by
 unfold ZbC at hl
 split at hl
 ·obtain ⟨hn, hK⟩ := Z9 hl
  exact (ZB.evM Zv (Zgv _ _ _ hn rfl rfl)).calls (fun E w rs he hr => by
   cases hr with
   | cons v r vs rs h1 h2 => cases h2; exact .cons _ _ _ _ (h1.plain rfl) .nil) rfl ⟨Nat.one_pos, .ints _ _, trivial⟩ hK
 ·exact hl.elim
structure Bytes (xs : List Int) : Prop where
 h : ∀ i : Nat, 0 ≤ xs.getD i 0 ∧ xs.getD i 0 ≤ 255
theorem Zk9 {x : Int} (h : 0 ≤ x ∧ x < 18446744073709551616) : u64.wrap x = x := by
 unfold wrap
 simp [IntKind.bits, IntKind.signed]
 omega
def inZ : InS := ⟨Z6, 0, 0, Z6, Z6, Z6⟩
def ZiD : ZF := ⟨0, 0, Z6, Z6, Z6, Z6, 0, 0⟩
end Go.Tk
end
section
namespace Go.Tk
open IntKind (i64 u8 u32 u64 wrap)
theorem ZiE (x : InS) (b : Bool) (hx : x.Ok) (hb : b = Y1 x) :
  evF G0 20 84 [.agg x.c] ⟨0, []⟩ (Z2P (fun v => v = .bool b)) := by
 refine @Eq.mpr _ (let q1 := x.way;
 let q2 := q1 == 1;
 let q3 := q1 == 4;
 let q4 := decide (q1 ≥ 1);
 let q5 := decide (q1 ≤ 6);
 let q6 := x.name;
 let q7 := decide (List.length q6 = 32 ∧ List.length q6 = 32);
 let q8 := x.tag;
 let q9 := decide (List.length q8 = 32 ∧ List.length q8 = 32);
 let q10 := x.also;
 let q11 := decide (List.length q10 = 32 ∧ List.length q10 = 32);
 let q12 := x.secret;
 let q13 := decide (List.length q12 = 32 ∧ List.length q12 = 32);
 let q14 := q6 == q6;
 let q15 := x.index;
 let q16 := q15 == q15;
 let q17 := q1 == q1;
 let q18 := q8 == q8;
 let q19 := q10 == q10;
 let q20 := q12 == q12;
 let q21 := q19 && q20;
 let q22 := AV.bool false = AV.bool b;
 let q23 := Z0 (decide (q15 ≥ 0)) (AV.bool (decide (q15 < 24)) = AV.bool b) q22;
 let q24 := Z0 q4 (Z0 q5 (Z0 q7 (Z0 q9 (Z0 q11 (Z0 q13 (Z0 (q14 && (q16 && (q17 && (q18 && q21)))) q23 q22) False) False) False) False) q22) q22;
 let q25 := q1 == 5;
 let q26 := decide (List.length q12 = 32 ∧ (32 : Nat) = 32);
 let q27 := q12 == Z6;
 let q28 := q19 && q27;
 let q29 := decide (List.length q10 = 32 ∧ (32 : Nat) = 32);
 let q30 := q10 == Z6;
 let q31 := q30 && q20;
 let q32 := Z0 q4 (Z0 q5 (Z0 q7 (Z0 q9 (Z0 q29 (Z0 q13 (Z0 (q14 && (q16 && (q17 && (q18 && q31)))) q23 q22) False) False) False) False) q22) q22;
 let q33 := q30 && q27;
 let q34 := decide (List.length q8 = 32 ∧ (32 : Nat) = 32);
 let q35 := q8 == Z6;
 let q36 := Z0 q4 (Z0 q5 (Z0 q7 (Z0 q34 (Z0 q11 (Z0 q13 (Z0 (q14 && (q16 && (q17 && (q35 && q21)))) q23 q22) False) False) False) False) q22) q22;
 let q37 := Z0 q4 (Z0 q5 (Z0 q7 (Z0 q34 (Z0 q29 (Z0 q13 (Z0 (q14 && (q16 && (q17 && (q35 && q31)))) q23 q22) False) False) False) False) q22) q22;
 Z0 (q1 != 4) (Z0 q2 (Z0 q3 q24 (Z0 q25 q24 (Z0 q4 (Z0 q5 (Z0 q7 (Z0 q9 (Z0 q11 (Z0 q26 (Z0 (q14 && (q16 && (q17 && (q18 && q28)))) q23 q22) False) False) False) False) q22) q22))) (Z0 q3 q32 (Z0 q25 q32 (Z0 q4 (Z0 q5 (Z0 q7 (Z0 q9 (Z0 q29 (Z0 q26 (Z0 (q14 && (q16 && (q17 && (q18 && q33)))) q23 q22) False) False) False) False) q22) q22)))) (Z0 q2 (Z0 q3 q36 (Z0 q25 q36 (Z0 q4 (Z0 q5 (Z0 q7 (Z0 q34 (Z0 q11 (Z0 q26 (Z0 (q14 && (q16 && (q17 && (q35 && q28)))) q23 q22) False) False) False) False) q22) q22))) (Z0 q3 q37 (Z0 q25 q37 (Z0 q4 (Z0 q5 (Z0 q7 (Z0 q34 (Z0 q29 (Z0 q26 (Z0 (q14 && (q16 && (q17 && (q35 && q33)))) q23 q22) False) False) False) False) q22) q22))))) (by kernel_rfl) ?_
 conv => zeta
 obtain ⟨h1, h2, h3, h4⟩ := hx
 subst hb
 have hz : [(0 : Int), 0, 0, 0, 0, 0, 0, 0, 0, 0, 0, 0, 0, 0, 0, 0, 0, 0, 0, 0, 0, 0, 0, 0, 0, 0, 0, 0, 0, 0, 0, 0] = Z6 := rfl
 simp only [hz, QF]
 unfold Y1
 generalize (x.secret == Z6) = bs
 generalize (x.also == Z6) = ba
 generalize (x.tag == Z6) = bt
 by_cases w1 : x.way = 1
 ·cases bs <;> simp [w1, h1, h2, h3, h4] <;> first | omega | grind
 by_cases w2 : x.way = 2
 ·cases bs <;> cases ba <;> simp [w2, h1, h2, h3, h4] <;> first | omega | grind
 by_cases w3 : x.way = 3
 ·cases bs <;> cases ba <;> simp [w3, h1, h2, h3, h4] <;> first | omega | grind
 by_cases w4 : x.way = 4
 ·cases bt <;> cases ba <;> simp [w4, h1, h2, h3, h4] <;> first | omega | grind
 by_cases w5 : x.way = 5
 ·cases ba <;> simp [w5, h1, h2, h3, h4] <;> first | omega | grind
 by_cases w6 : x.way = 6
 ·cases bs <;> cases ba <;> simp [w6, h1, h2, h3, h4] <;> first | omega | grind
 cases bs <;> cases ba <;> simp [w1, w2, w3, w4, w5, w6, h1, h2, h3, h4] <;> first | omega | grind
theorem Z8c {a b : Int} (ha : 0 ≤ a ∧ a < 256) (hb : 0 ≤ b ∧ b < 256) : (Wh a = Wh b ↔ a = b) ∧ (Wh a < Wh b ↔ a < b) := by
 unfold Wh
 rw [← UInt8.toNat_inj, UInt8.lt_iff_toNat_lt]
 simp only [UInt8.toNat_ofNat']
 omega
theorem Bytes.getD {xs : List Int} (h : Bytes xs) (i : Nat) : 0 ≤ xs.getD i 0 ∧ xs.getD i 0 < 256 := by
 have := h.h i
 omega
theorem Zgw {x y : List Int} {b : Bool} {i : Nat} {P : Prop} (hx : i < x.length) (hy : i < y.length) (bx : Bytes x) (yb : Bytes y) (hb : b = decide (XG (x.drop i) (y.drop i) > 0)) (hP : b = decide (XG (x.drop (i + 1)) (y.drop (i + 1)) > 0) → P) :
  Z0 (x.getD i 0 != y.getD i 0) (AV.bool (decide (x.getD i 0 > y.getD i 0)) = AV.bool b) P := by
 have e1 : x.drop i = x.getD i 0 :: x.drop (i + 1) := by rw [List.drop_eq_getElem_cons hx]; simp [List.getD_eq_getElem?_getD, hx]
 have e2 : y.drop i = y.getD i 0 :: y.drop (i + 1) := by rw [List.drop_eq_getElem_cons hy]; simp [List.getD_eq_getElem?_getD, hy]
 rw [e1, e2] at hb
 have k1 := Z8c (bx.getD i) (yb.getD i)
 have k2 := Z8c (yb.getD i) (bx.getD i)
 generalize x.getD i 0 = u at *
 generalize y.getD i 0 = v at *
 simp only [XG, List.map_cons, Lib.compareBytes, k1.2, k2.2] at hb
 rw [QF]
 constructor
 ·intro h
  have h : u ≠ v := by simpa using h
  rw [hb]
  by_cases h1 : u < v
  ·simp [h1]; omega
  ·have : v < u := by omega
   simp [this, h1]
 ·intro h
  have h : u = v := by simpa using h
  subst h
  simp only [Int.lt_irrefl, if_false] at hb
  exact hP hb
theorem ZiF (x y : List Int) (b : Bool) (hx : x.length = 32) (hy : y.length = 32) (bx : Bytes x) (yb : Bytes y) (hb : b = decide (XG (x.drop 0) (y.drop 0) > 0)) :
  evF G0 20 128 [.agg [.arr .u8 32 x], .agg [.arr .u8 32 y]] ⟨0, []⟩ (Z2P (fun v => v = .bool b)) := by
 refine @Eq.mpr _ (let q1 := AV.bool b;
 Z0 (List.getD x 0 0 != List.getD y 0 0) (AV.bool (decide (List.getD x 0 0 > List.getD y 0 0)) = q1)
 (Z0 (List.getD x 1 0 != List.getD y 1 0) (AV.bool (decide (List.getD x 1 0 > List.getD y 1 0)) = q1)
 (Z0 (List.getD x 2 0 != List.getD y 2 0) (AV.bool (decide (List.getD x 2 0 > List.getD y 2 0)) = q1)
 (Z0 (List.getD x 3 0 != List.getD y 3 0) (AV.bool (decide (List.getD x 3 0 > List.getD y 3 0)) = q1)
 (Z0 (List.getD x 4 0 != List.getD y 4 0) (AV.bool (decide (List.getD x 4 0 > List.getD y 4 0)) = q1)
 (Z0 (List.getD x 5 0 != List.getD y 5 0) (AV.bool (decide (List.getD x 5 0 > List.getD y 5 0)) = q1)
 (Z0 (List.getD x 6 0 != List.getD y 6 0) (AV.bool (decide (List.getD x 6 0 > List.getD y 6 0)) = q1)
 (Z0 (List.getD x 7 0 != List.getD y 7 0) (AV.bool (decide (List.getD x 7 0 > List.getD y 7 0)) = q1)
 (Z0 (List.getD x 8 0 != List.getD y 8 0) (AV.bool (decide (List.getD x 8 0 > List.getD y 8 0)) = q1)
 (Z0 (List.getD x 9 0 != List.getD y 9 0) (AV.bool (decide (List.getD x 9 0 > List.getD y 9 0)) = q1)
 (Z0 (List.getD x 10 0 != List.getD y 10 0) (AV.bool (decide (List.getD x 10 0 > List.getD y 10 0)) = q1)
 (Z0 (List.getD x 11 0 != List.getD y 11 0) (AV.bool (decide (List.getD x 11 0 > List.getD y 11 0)) = q1)
 (Z0 (List.getD x 12 0 != List.getD y 12 0) (AV.bool (decide (List.getD x 12 0 > List.getD y 12 0)) = q1)
 (Z0 (List.getD x 13 0 != List.getD y 13 0) (AV.bool (decide (List.getD x 13 0 > List.getD y 13 0)) = q1)
 (Z0 (List.getD x 14 0 != List.getD y 14 0) (AV.bool (decide (List.getD x 14 0 > List.getD y 14 0)) = q1)
 (Z0 (List.getD x 15 0 != List.getD y 15 0) (AV.bool (decide (List.getD x 15 0 > List.getD y 15 0)) = q1)
 (Z0 (List.getD x 16 0 != List.getD y 16 0) (AV.bool (decide (List.getD x 16 0 > List.getD y 16 0)) = q1)
 (Z0 (List.getD x 17 0 != List.getD y 17 0) (AV.bool (decide (List.getD x 17 0 > List.getD y 17 0)) = q1)
 (Z0 (List.getD x 18 0 != List.getD y 18 0) (AV.bool (decide (List.getD x 18 0 > List.getD y 18 0)) = q1)
 (Z0 (List.getD x 19 0 != List.getD y 19 0) (AV.bool (decide (List.getD x 19 0 > List.getD y 19 0)) = q1)
 (Z0 (List.getD x 20 0 != List.getD y 20 0) (AV.bool (decide (List.getD x 20 0 > List.getD y 20 0)) = q1)
 (Z0 (List.getD x 21 0 != List.getD y 21 0) (AV.bool (decide (List.getD x 21 0 > List.getD y 21 0)) = q1)
 (Z0 (List.getD x 22 0 != List.getD y 22 0) (AV.bool (decide (List.getD x 22 0 > List.getD y 22 0)) = q1)
 (Z0 (List.getD x 23 0 != List.getD y 23 0) (AV.bool (decide (List.getD x 23 0 > List.getD y 23 0)) = q1)
 (Z0 (List.getD x 24 0 != List.getD y 24 0) (AV.bool (decide (List.getD x 24 0 > List.getD y 24 0)) = q1) (Z0 (List.getD x 25 0 != List.getD y 25 0) (AV.bool (decide (List.getD x 25 0 > List.getD y 25 0)) = q1) (Z0 (List.getD x 26 0 != List.getD y 26 0) (AV.bool (decide (List.getD x 26 0 > List.getD y 26 0)) = q1) (Z0 (List.getD x 27 0 != List.getD y 27 0) (AV.bool (decide (List.getD x 27 0 > List.getD y 27 0)) = q1) (Z0 (List.getD x 28 0 != List.getD y 28 0) (AV.bool (decide (List.getD x 28 0 > List.getD y 28 0)) = q1) (Z0 (List.getD x 29 0 != List.getD y 29 0) (AV.bool (decide (List.getD x 29 0 > List.getD y 29 0)) = q1) (Z0 (List.getD x 30 0 != List.getD y 30 0) (AV.bool (decide (List.getD x 30 0 > List.getD y 30 0)) = q1) (Z0 (List.getD x 31 0 != List.getD y 31 0) (AV.bool (decide (List.getD x 31 0 > List.getD y 31 0)) = q1) (AV.bool false = q1))))))))))))))))))))))))))))))))) (by kernel_rfl) ?_
 conv => zeta
 iterate 32 refine Zgw (by omega) (by omega) bx yb hb fun hb => ?_
 rw [List.drop_eq_nil_of_le (by omega), List.drop_eq_nil_of_le (by omega)] at hb
 have h0 : XG [] [] = 0 := rfl
 simp [hb, h0, Z0]
theorem ZdO (args : List AV) (h : Z7) (K : AV → Prop) (hl : inS Y1 args h K) : Zh PP 84 args h fun o h' => ∃ v, o = .ret v ∧ h' = h ∧ K v := by
 unfold inS at hl
 split at hl
 ·rename_i n i w t a s
  obtain ⟨⟨h1, h2, h3, h4⟩, hK⟩ := Z9 hl
  exact Vu Zv rfl (ZiE ⟨n, i, w, t, a, s⟩ _ ⟨h1, h2, h3, h4⟩ rfl) (fun u hu => hu ▸ hK)
 ·exact hl.elim
def Zgx : ZW := fun args _ K => match args with
 | [.agg [.arr .u8 32 x], .agg [.arr .u8 32 y]] => (x.length = 32 ∧ y.length = 32) ∧ Bytes x ∧ Bytes y ∧ K (.bool (decide (XG x y > 0)))
 | _ => False
noncomputable def ZiG : Za := G0.withP 128 Zgx
theorem Zgy (o : ZF) (b : Bool) (ho : o.Ok) (b1 : Bytes o.owner) (b2 : Bytes o.other) (hb : b = ZG o) :
  evF ZiG 20 85 [.agg o.c] ⟨0, []⟩ (Z2P (fun v => v = .bool b)) := by
 refine @Eq.mpr _ (let q1 := o.kind;
 let q2 := q1 == 2;
 let q3 := decide (q1 ≥ 3);
 let q4 := o.delay;
 let q5 := decide (q4 = q4);
 let q6 := decide (q1 ≥ 4);
 let q7 := o.expiry;
 let q8 := decide (q7 = q7);
 let q9 := decide (q1 ≥ 1);
 let q10 := decide (q1 ≤ 5);
 let q11 := o.owner;
 let q12 := decide (List.length q11 = 32 ∧ List.length q11 = 32);
 let q13 := o.other;
 let q14 := decide (List.length q13 = 32 ∧ List.length q13 = 32);
 let q15 := o.point;
 let q16 := decide (List.length q15 = 32 ∧ List.length q15 = 32);
 let q17 := o.hash;
 let q18 := decide (List.length q17 = 32 ∧ List.length q17 = 32);
 let q19 := q1 == q1;
 let q20 := o.amount;
 let q21 := q20 == q20;
 let q22 := q11 == q11;
 let q23 := q13 == q13;
 let q24 := q15 == q15;
 let q25 := q17 == q17;
 let q26 := q4 == q4;
 let q27 := q7 == q7;
 let q28 := q24 && (q25 && (q26 && q27));
 let q29 := AV.bool b;
 let q30 := AV.bool false = q29;
 let q31 := Z0 (decide (q20 > 0)) (Z0 (decide (q20 ≥ 0)) (Z0 (decide (q20 ≤ 1125899906842624)) (Z0 (decide (q4 ≥ 0)) (Z0 (decide (q4 ≤ 2147483647)) (Z0 (decide (q7 ≥ 0)) (Z0 (decide (q7 ≤ 2147483647)) (Z0 q2 ((List.length q11 = 32 ∧ List.length q13 = 32) ∧ Bytes q11 ∧ Bytes q13 ∧ (AV.bool !decide (XG q11 q13 > 0)) = q29) (AV.bool true = q29)) q30) q30) q30) q30) q30) q30) q30;
 let q32 := decide (List.length q17 = 32 ∧ (32 : Nat) = 32);
 let q33 := q17 == Z6;
 let q34 := q7 == 0;
 let q35 := q24 && (q33 && (q26 && q34));
 let q36 := decide (List.length q15 = 32 ∧ (32 : Nat) = 32);
 let q37 := q15 == Z6;
 let q38 := q4 == 0;
 let q39 := q37 && (q25 && (q38 && q27));
 let q40 := q37 && (q33 && (q38 && q34));
 let q41 := Z0 q3 (Z0 q5 (Z0 q6 (Z0 q8 (Z0 q9 (Z0 q10 (Z0 q12 (Z0 q14 (Z0 q16 (Z0 q18 (Z0 (q19 && (q21 && (q22 && (q23 && q28)))) q31 q30) False) False) False) False) q30) q30) False) (Z0 q9 (Z0 q10 (Z0 q12 (Z0 q14 (Z0 q16 (Z0 q32 (Z0 (q19 && (q21 && (q22 && (q23 && q35)))) q31 q30) False) False) False) False) q30) q30)) False) (Z0 q6 (Z0 q8 (Z0 q9 (Z0 q10 (Z0 q12 (Z0 q14 (Z0 q36 (Z0 q18 (Z0 (q19 && (q21 && (q22 && (q23 && q39)))) q31 q30) False) False) False) False) q30) q30) False) (Z0 q9 (Z0 q10 (Z0 q12 (Z0 q14 (Z0 q36 (Z0 q32 (Z0 (q19 && (q21 && (q22 && (q23 && q40)))) q31 q30) False) False) False) False) q30) q30));
 let q42 := decide (List.length q13 = 32 ∧ (32 : Nat) = 32);
 let q43 := q13 == Z6;
 Z0 q2 q41 (Z0 (q1 == 4) q41 (Z0 (q1 == 5) q41 (Z0 q3 (Z0 q5 (Z0 q6 (Z0 q8 (Z0 q9 (Z0 q10 (Z0 q12 (Z0 q42 (Z0 q16 (Z0 q18 (Z0 (q19 && (q21 && (q22 && (q43 && q28)))) q31 q30) False) False) False) False) q30) q30) False) (Z0 q9 (Z0 q10 (Z0 q12 (Z0 q42 (Z0 q16 (Z0 q32 (Z0 (q19 && (q21 && (q22 && (q43 && q35)))) q31 q30) False) False) False) False) q30) q30)) False) (Z0 q6 (Z0 q8 (Z0 q9 (Z0 q10 (Z0 q12 (Z0 q42 (Z0 q36 (Z0 q18 (Z0 (q19 && (q21 && (q22 && (q43 && q39)))) q31 q30) False) False) False) False) q30) q30) False) (Z0 q9 (Z0 q10 (Z0 q12 (Z0 q42 (Z0 q36 (Z0 q32 (Z0 (q19 && (q21 && (q22 && (q43 && q40)))) q31 q30) False) False) False) False) q30) q30)))))) (by kernel_rfl) ?_
 conv => zeta
 obtain ⟨h1, h2, h3, h4⟩ := ho
 subst hb
 have hz : [(0 : Int), 0, 0, 0, 0, 0, 0, 0, 0, 0, 0, 0, 0, 0, 0, 0, 0, 0, 0, 0, 0, 0, 0, 0, 0, 0, 0, 0, 0, 0, 0, 0] = Z6 := rfl
 simp only [hz, QF, Zc]
 unfold ZG
 generalize (o.other == Z6) = bo
 generalize (o.point == Z6) = bp
 generalize (o.hash == Z6) = bh
 generalize XG o.owner o.other = cc
 by_cases k1 : o.kind = 1
 ·cases bo <;> cases bp <;> cases bh <;> simp [k1, h1, h2, h3, h4, b1, b2] <;> first | omega | grind
 by_cases k2 : o.kind = 2
 ·cases bp <;> cases bh <;> simp [k2, h1, h2, h3, h4, b1, b2] <;> first | omega | grind
 by_cases k3 : o.kind = 3
 ·cases bo <;> cases bh <;> simp [k3, h1, h2, h3, h4, b1, b2] <;> first | omega | grind
 by_cases k4 : o.kind = 4
 ·simp [k4, h1, h2, h3, h4, b1, b2] <;> first | omega | grind
 by_cases k5 : o.kind = 5
 ·simp [k5, h1, h2, h3, h4, b1, b2] <;> first | omega | grind
 cases bo <;> cases bp <;> cases bh <;> simp [k1, k2, k3, k4, k5, h1, h2, h3, h4, b1, b2] <;> first | omega | grind
theorem ZbE (args : List AV) (h : Z7) (K : AV → Prop) (hl : Zgx args h K) : Zh PP 128 args h fun o h' => ∃ v, o = .ret v ∧ h' = h ∧ K v := by
 unfold Zgx at hl
 split at hl
 ·obtain ⟨⟨h1, h2⟩, b1, b2, hK⟩ := hl
  exact Vu Zv rfl (ZiF _ _ _ h1 h2 b1 b2 rfl) (fun u hu => hu ▸ hK)
 ·exact hl.elim
theorem ZdP : ZiG.Ok := Za.withP_ok Zv ZbE
def Z7f (R : ZF → Bool) : ZW := fun args _ K => match args with
 | [.agg [.int .i64 kd, .int .i64 am, .arr .u8 32 ow, .arr .u8 32 ot, .arr .u8 32 po, .arr .u8 32 ha, .int .i64 de, .int .i64 ex]] => Zs (ow.length = 32 ∧ ot.length = 32 ∧ po.length = 32 ∧ ha.length = 32) ((Bytes ow ∧ Bytes ot) ∧ K (.bool (R ⟨kd, am, ow, ot, po, ha, de, ex⟩)))
 | _ => False
theorem ZbF (args : List AV) (h : Z7) (K : AV → Prop) (hl : Z7f ZG args h K) : Zh PP 85 args h fun o h' => ∃ v, o = .ret v ∧ h' = h ∧ K v := by
 unfold Z7f at hl
 split at hl
 ·rename_i kd am ow ot po ha de ex
  obtain ⟨⟨h1, h2, h3, h4⟩, ⟨b1, b2⟩, hK⟩ := Z9 hl
  exact Vu ZdP rfl (Zgy ⟨kd, am, ow, ot, po, ha, de, ex⟩ _ ⟨h1, h2, h3, h4⟩ b1 b2 rfl) (fun u hu => hu ▸ hK)
 ·exact hl.elim
noncomputable def E35 : Za := (G0.withP 84 (inS Y1)).withP 85 (Z7f ZG)
theorem Z7g : E35.Ok := Za.withP_ok (Za.withP_ok Zv ZdO) ZbF
end Go.Tk
end
section
namespace Go.Tk
open IntKind (i64 u8 u32 u64 wrap)
def Z9r {ι : Type} (S : ι → Nat → St → KE → Prop) : Nat → St → KE → Prop := fun k s X => ∃ i, S i k s X
theorem Za.withL_ex {ι : Type} {G : Za} (hG : G.Ok) {f : FuncId} {id : Nat} {S : ι → Nat → St → KE → Prop} (h1 : ∀ i, (G.withL f id (S i)).Ok) : (G.withL f id (Z9r S)).Ok where
 draw := hG.draw
 psumm := hG.psumm
 fsumm := hG.fsumm
 lsumm := fun f' id' S' fn c body hS hf hb hm k s X hs => by
  have hS0 := hS
  simp only [Za.withL] at hS
  split at hS
  ·rename_i hq
   cases hS
   obtain ⟨i, hs⟩ := hs
   have a1 := (h1 i).lsumm f' id' (S i) fn c body
   simp only [Za.withL, hq] at a1
   exact a1 trivial hf hb hm k s X hs
  ·exact hG.lsumm f' id' S' fn c body hS hf hb hm k s X hs
def rgH (t : TxS) : Z7 := ⟨1, [(0, .flat t.c)]⟩
def rgP : AV := .ptr (some ⟨0, 0, 0, 0, 0⟩)
def Z9s (t : TxS) (i : Nat) : St := ⟨106, [(3, .int .i64 i), (1, rgP)], rgH t, []⟩
def Zgz (t : TxS) (i k : Nat) : St := ⟨106, [(4, .int .i64 k), (3, .int .i64 i), (1, rgP)], rgH t, []⟩
def rgR (t : TxS) : St := ⟨106, [(2, .bool false), (1, rgP)], rgH t, []⟩
def ZiH (t : TxS) : St := ⟨106, [(1, rgP)], rgH t, []⟩
def Z7h (t : TxS) (i : Nat) (n : Int) : St := ⟨106, [(6, .int .i64 i), (5, .int .i64 n), (1, rgP)], rgH t, []⟩
def ZiI (t : TxS) (n : Int) : St := ⟨106, [(5, .int .i64 n), (1, rgP)], rgH t, []⟩
theorem Zka (t : TxS) (i k : Nat) (Z1 Z2 Z3 : Prop) (hi : i < t.N) (hN : t.N ≤ 24) (hk : k ≤ i) (ht : t.Ok) (h1 : k < i → sameAt t.ins (t.ins i) k = false → Z1) (h2 : k = i → Z2) (h3 : k < i → sameAt t.ins (t.ins i) k = true → Z3) :
  Zz E35 20 44 2 0 (Zgz t i k) (rdM 0 2 9 (Zgz t i (k + 1)) (Z9s t i) (rgR t) (rgR t) Z1 Z2 Z3 False) := by
 refine @Eq.mpr _ (let q1 := t.N;
 let q2 := (↑q1 : Int);
 let q3 := decide (0 ≤ (↑k : Int) ∧ (↑k : Int) < q2);
 let q4 := decide (0 ≤ (↑i : Int) ∧ (↑i : Int) < q2);
 let q5 := t.ins (Int.toNat (↑k : Int));
 let q6 := q5.name;
 let q7 := t.ins (Int.toNat (↑i : Int));
 let q8 := q7.name;
 let q9 := decide (t.num = t.num);
 let q10 := decide (q1 = q1);
 let q11 := Zf t.ins;
 let q12 := q11 = q11;
 let q13 := decide (t.M = t.M);
 let q14 := Zn t.outs;
 let q15 := q14 = q14;
 let q16 := decide ((↑i : Int) = (↑i : Int));
 let q17 := Z0 (decide (wrap i64 ((↑k : Int) + 1) = (↑(k + 1) : Int))) (Z0 q16 (Z0 q9 (Z0 q10 (q12 ∧ Z0 q10 (Z0 q13 (q15 ∧ Z0 q13 Z1 False) False) False) False) False) False) False;
 Z0 (decide ((↑k : Int) < (↑i : Int))) (Z0 q3 (Z0 q4 (Z0 (decide (List.length q6 = 32 ∧ List.length q8 = 32)) (Z0 (q6 == q8) (Z0 q3 (Z0 q4 (Z0 (q5.index == q7.index) (Z0 q9 (Z0 q10 (q12 ∧ Z0 q10 (Z0 q13 (q15 ∧ Z0 q13 Z3 False) False) False) False) False) q17) False) False) q17) False) False) False) (Z0 q16 (Z0 q9 (Z0 q10 (q12 ∧ Z0 q10 (Z0 q13 (q15 ∧ Z0 q13 Z2 False) False) False) False) False) False)) (by kernel_rfl) ?_
 conv => zeta
 try simp only [Zc]
 try simp only [Zi]
 try simp only [Ze]
 try simp only [Zj]
 try simp only [Zk]
 try simp only [Zd]
 try simp only [Int.toNat_natCast, Nat.zero_add, true_and, and_true, Nat.le_refl]
 have e1 := (ht.ins i hi).name
 have e2 : k < t.N → (t.ins k).name.length = 32 := fun h => (ht.ins k h).name
 have hw : i64.wrap ((k : Int) + 1) = ((k + 1 : Nat) : Int) := w64 (by omega)
 rw [hw]
 unfold sameAt VZ at h1 h3
 refine ⟨fun hlt => ?_, fun hge => ?_⟩
 ·have hlt : k < i := by omega
  have h1 := h1 hlt
  have h3 := h3 hlt
  have e2 := e2 (by omega)
  refine ⟨by omega, by omega, ⟨e2, e1⟩, fun q1 => ⟨by omega, by omega, fun q2 => h3 (by rw [q1, q2]; rfl), fun q2 => ⟨rfl, h1 (by rw [q2, Bool.and_false])⟩⟩, fun q1 => ⟨rfl, h1 (by rw [q1, Bool.false_and])⟩⟩
 ·simp [h2 (by omega)]
theorem Zkb (t : TxS) (i : Nat) (n : Int) (Z1 Z2 Z3 : Prop) (hM : t.M ≤ 24) (hi : i ≤ t.M) (ht : t.Ok) (hn : 0 ≤ n ∧ n ≤ i * 1125899906842624) (hB : i < t.M → Bytes (t.outs i).owner ∧ Bytes (t.outs i).other) (h1 : i < t.M → ZG (t.outs i) = true → Z1) (h2 : i = t.M → Z2) (h3 : i < t.M → ZG (t.outs i) = false → Z3) :
  Zz E35 20 44 4 0 (Z7h t i n) (rdM 0 4 9 (Z7h t (i + 1) (n + (t.outs i).amount)) (ZiI t n) (rgR t) (rgR t) Z1 Z2 Z3 False) := by
 refine @Eq.mpr _ (let q1 := t.M;
 let q2 := decide (0 ≤ (↑i : Int) ∧ (↑i : Int) < (↑q1 : Int));
 let q3 := t.outs (Int.toNat (↑i : Int));
 let q4 := q3.owner;
 let q5 := q3.other;
 let q6 := q3.point;
 let q7 := q3.hash;
 let q8 := q3.amount;
 let q9 := decide (t.num = t.num);
 let q10 := decide (t.N = t.N);
 let q11 := Zf t.ins;
 let q12 := q11 = q11;
 let q13 := decide (q1 = q1);
 let q14 := Zn t.outs;
 let q15 := q14 = q14;
 Z0 (decide ((↑i : Int) < (↑q1 : Int))) (Z0 q2 (Z0 (decide (List.length q4 = 32 ∧ List.length q5 = 32 ∧ List.length q6 = 32 ∧ List.length q7 = 32)) ((Bytes q4 ∧ Bytes q5) ∧ Z0 (!ZG (ZF.mk q3.kind q8 q4 q5 q6 q7 q3.delay q3.expiry)) (Z0 q9 (Z0 q10 (q12 ∧ Z0 q10 (Z0 q13 (q15 ∧ Z0 q13 Z3 False) False) False) False) False) (Z0 q2 (Z0 (decide (wrap i64 ((↑i : Int) + 1) = (↑(i + 1) : Int))) (Z0 (decide (wrap i64 (n + q8) = n + (t.outs i).amount)) (Z0 q9 (Z0 q10 (q12 ∧ Z0 q10 (Z0 q13 (q15 ∧ Z0 q13 Z1 False) False) False) False) False) False) False) False)) False) False) (Z0 (decide (n = n)) (Z0 q9 (Z0 q10 (q12 ∧ Z0 q10 (Z0 q13 (q15 ∧ Z0 q13 Z2 False) False) False) False) False) False)) (by kernel_rfl) ?_
 conv => zeta
 try simp only [Zc]
 try simp only [Zi]
 try simp only [Ze]
 try simp only [Zj]
 try simp only [Zk]
 try simp only [Zd]
 try simp only [Int.toNat_natCast, Nat.zero_add, true_and, and_true, Nat.le_refl]
 have hw : i64.wrap ((i : Int) + 1) = ((i + 1 : Nat) : Int) := w64 (by omega)
 rw [hw]
 refine ⟨fun hlt => ?_, fun hge => ?_⟩
 ·have hlt : i < t.M := by omega
  obtain ⟨e1, e2, e3, e4⟩ := ht.outs i hlt
  obtain ⟨b1, b2⟩ := hB hlt
  have h1 := h1 hlt
  have h3 := h3 hlt
  have hw2 : ZG (t.outs i) = true → i64.wrap (n + (t.outs i).amount) = n + (t.outs i).amount := fun h => by
   have := (Yp h).2
   exact w64 (by omega)
  refine ⟨by omega, ⟨e1, e2, e3, e4⟩, ⟨b1, b2⟩, fun q => h3 (by simpa using q), fun q => ⟨by omega, rfl, hw2 (by simpa using q), h1 (by simpa using q)⟩⟩
 ·simp [h2 (by omega)]
noncomputable def ZdQ (t : TxS) : Za := E35.withL 44 2 (Z9r fun i : Nat => goM 0 (Zgz t i 0) (i < t.N ∧ t.N ≤ 24 ∧ t.Ok) (ZT 2 i 9 (fun k => sameAt t.ins (t.ins i) k = false) (fun k => k = i) (fun k => k < i ∧ sameAt t.ins (t.ins i) k = true) (fun _ => False) (fun _ => Z9s t i) (fun _ => rgR t) (fun _ => rgR t)))
theorem ZdR (t : TxS) : (ZdQ t).Ok :=
 Za.withL_ex Z7g fun i => Za.withGoM (N := 20) Z7g (by kernel_rfl) fun hC => ⟨rfl, fun k hk hgo => Zka t i k _ _ _ hC.1 hC.2.1 hk hC.2.2 (fun h1 h2 => ⟨h2, h1⟩) (fun h => h) (fun h1 h2 => ⟨h1, h2⟩)⟩
def okI (t : TxS) (i : Nat) : Bool := Y1 (t.ins i) && !((List.range i).any (sameAt t.ins (t.ins i)))
theorem Zkc (t : TxS) (i : Nat) (Z1 Z2 Z3 : Prop) (hi : i ≤ t.N) (hN : t.N ≤ 24) (ht : t.Ok) (h1 : i < t.N → okI t i = true → Z1) (h2 : i = t.N → Z2) (h3 : i < t.N → okI t i = false → Z3) :
  Zz (ZdQ t) 20 44 0 0 (Z9s t i) (rdM 0 0 9 (Z9s t (i + 1)) (ZiH t) (rgR t) (rgR t) Z1 Z2 Z3 False) := by
 refine @Eq.mpr _ (let q1 := t.N;
 let q2 := t.ins (Int.toNat (↑i : Int));
 let q3 := q2.name;
 let q4 := q2.tag;
 let q5 := q2.also;
 let q6 := q2.secret;
 let q7 := decide (t.num = t.num);
 let q8 := decide (q1 = q1);
 let q9 := t.ins;
 let q10 := Zf q9;
 let q11 := q10 = q10;
 let q12 := decide (t.M = t.M);
 let q13 := Zn t.outs;
 let q14 := q13 = q13;
 let q15 := Z0 q7 (Z0 q8 (q11 ∧ Z0 q8 (Z0 q12 (q14 ∧ Z0 q12 Z3 False) False) False) False) False;
 Z0 (decide ((↑i : Int) < (↑q1 : Int))) (Z0 (decide (0 ≤ (↑i : Int) ∧ (↑i : Int) < (↑q1 : Int))) (Z0 (decide (List.length q3 = 32 ∧ List.length q4 = 32 ∧ List.length q5 = 32 ∧ List.length q6 = 32)) (Z0 (!Y1 (InS.mk q3 q2.index q2.way q4 q5 q6)) q15 (∃ (i_1 : Nat), Z0 (decide ((↑i : Int) = (↑i_1 : Int))) (Z0 q7 (Z0 q8 (q11 ∧ Z0 q8 (Z0 q12 (q14 ∧ Z0 q12 ((i_1 < q1 ∧ q1 ≤ 24 ∧ TxS.Ok t) ∧ ∀ (i_2 : Nat), i_2 ≤ i_1 → (∀ (j : Nat), j < i_2 → (fun (k : Nat) => sameAt q9 (q9 i_1) k = false) j) → (i_2 = i_1 → Z0 (decide (wrap i64 ((↑i_1 : Int) + 1) = (↑(i + 1) : Int))) (Z0 q7 (Z0 q8 (q11 ∧ Z0 q8 (Z0 q12 (q14 ∧ Z0 q12 Z1 False) False) False) False) False) False) ∧ (i_2 < i_1 ∧ sameAt q9 (q9 i_1) i_2 = true → q15) ∧ (False → Z0 q7 (Z0 q8 (q11 ∧ Z0 q8 (Z0 q12 (q14 ∧ Z0 q12 False False) False) False) False) False)) False) False) False) False) False) False)) False) False)
 (Z0 q7 (Z0 q8 (q11 ∧ Z0 q8 (Z0 q12 (q14 ∧ Z0 q12 Z2 False) False) False) False) False)) (by kernel_rfl) ?_
 conv => zeta
 try simp only [Zc]
 try simp only [Zi]
 try simp only [Ze]
 try simp only [Zj]
 try simp only [Zk]
 try simp only [Zd]
 try simp only [Int.toNat_natCast, Nat.zero_add, true_and, and_true, Nat.le_refl]
 unfold okI at h1 h3
 refine ⟨fun hlt => ?_, fun hge => h2 (by omega)⟩
 have hlt : i < t.N := by omega
 obtain ⟨e1, e2, e3, e4⟩ := ht.ins i hlt
 have h1 := h1 hlt
 have h3 := h3 hlt
 refine ⟨by omega, ⟨e1, e2, e3, e4⟩, fun q => h3 ?_, fun q => ⟨i, rfl, ⟨hlt, hN, ht⟩, fun m hm hgo => ⟨fun hq => ⟨w64 (by omega), h1 ?_⟩, fun hq => h3 ?_, fun h => h⟩⟩⟩
 ·have q : Y1 (t.ins i) = false := by simpa using q
  rw [q, Bool.false_and]
 ·subst hq
  have q : Y1 (t.ins m) = true := by simpa using q
  rw [q, Bool.true_and]
  simp only [Bool.not_eq_true', List.any_eq_false, List.mem_range]
  intro j hj
  rw [hgo j hj]
  decide
 ·have : (List.range i).any (sameAt t.ins (t.ins i)) = true := by
   rw [List.any_eq_true]
   exact ⟨m, by simpa using hq.1, hq.2⟩
  rw [this, Bool.not_true, Bool.and_false]
def Ve (t : TxS) (i : Nat) : Int := (amL t.outs i).sum
structure TxB (t : TxS) : Prop where
 h : ∀ i, i < t.M → Bytes (t.outs i).owner ∧ Bytes (t.outs i).other
theorem Z4u {t : TxS} : ∀ i, (∀ j, j < i → ZG (t.outs j) = true) → 0 ≤ Ve t i ∧ Ve t i ≤ i * 1125899906842624
 | 0, _ => by simp [Ve, amL]
 | i + 1, h => by
  have h1 := Z4u i (fun j hj => h j (by omega))
  have h2 := (Yp (h i (by omega))).2.1
  have e : Ve t (i + 1) = Ve t i + (t.outs i).amount := by unfold Ve; rw [Z2e]; simp
  omega
theorem Z9t (t : TxS) (i : Nat) : Ve t (i + 1) = Ve t i + (t.outs i).amount := by unfold Ve; rw [Z2e]; simp
def ZiJ (t : TxS) : Nat → St → KE → Prop := goM 0 (Z9s t 0) (t.N ≤ 24 ∧ t.Ok) (ZT 0 t.N 9 (fun i => okI t i = true) (fun i => i = t.N) (fun i => i < t.N ∧ okI t i = false) (fun _ => False) (fun _ => ZiH t) (fun _ => rgR t) (fun _ => rgR t))
def ZiK (t : TxS) : Nat → St → KE → Prop := goM 0 (Z7h t 0 0) (t.M ≤ 24 ∧ t.Ok ∧ TxB t) (ZT 4 t.M 9 (fun i => ZG (t.outs i) = true) (fun i => i = t.M) (fun i => i < t.M ∧ ZG (t.outs i) = false) (fun _ => False) (fun i => ZiI t (Ve t i)) (fun _ => rgR t) (fun _ => rgR t))
noncomputable def ZiL (t : TxS) : Za := ((ZdQ t).withL 44 0 (ZiJ t)).withL 44 4
 (ZiK t)
theorem ZdS (t : TxS) : (ZiL t).Ok := by
 have h1 : ((ZdQ t).withL 44 0 (ZiJ t)).Ok :=
  Za.withGoM (N := 20) (S := Z9s t) (ZdR t) (by kernel_rfl) fun hC => ⟨rfl, fun i hi hgo => Zkc t i _ _ _ hi hC.1 hC.2 (fun h1 h2 => ⟨h2, h1⟩) (fun h => h) (fun h1 h2 => ⟨h1, h2⟩)⟩
 have h2 : (E35.withL 44 4 (ZiK t)).Ok := by
  refine Za.withGoM (N := 20) (S := fun i => Z7h t i (Ve t i)) Z7g (by kernel_rfl) fun hC => ⟨by show Z7h t 0 (Ve t 0) = _; unfold Ve amL; rfl, fun i hi hgo => ?_⟩
  show Zz E35 20 44 4 0 (Z7h t i (Ve t i)) (rdM 0 4 9 (Z7h t (i + 1) (Ve t (i + 1))) _ _ _ _ _ _ _)
  rw [Z9t]
  exact Zkb t i (Ve t i) _ _ _ hC.1 hi hC.2.1 (Z4u i hgo) (fun h => hC.2.2.h i h) (fun h1 h2 => ⟨h2, h1⟩) (fun h => h) (fun h1 h2 => ⟨h1, h2⟩)
 exact Za.withL_join (H := E35) h1 rfl h2
def X4 (t : TxS) : Bool := decide (0 ≤ t.num ∧ t.num ≤ 2147483647) && decide (1 ≤ t.N ∧ t.N ≤ 24) && decide (1 ≤ t.M ∧ t.M ≤ 24) && (List.range t.N).all (okI t) && (List.range t.M).all (fun i => ZG (t.outs i)) && decide (Ve t t.M ≤ 1125899906842624)
theorem Zkd (t : TxS) (b : Bool) (ht : t.Ok) (hb : TxB t) (h : b = X4 t) :
  evF (ZiL t) 20 44 [.agg t.c] ⟨0, []⟩ (Yd 0 [] (.bool b) 0 []) := by
 refine @Eq.mpr _ (let q1 := t.num;
 let q2 := Z0 (decide (false = b)) True False;
 let q3 := t.N;
 let q4 := (↑q3 : Int);
 let q5 := t.M;
 let q6 := (↑q5 : Int);
 let q7 := decide (q1 = q1);
 let q8 := decide (q3 = q3);
 let q9 := Zf t.ins;
 let q10 := q9 = q9;
 let q11 := decide (q5 = q5);
 let q12 := Zn t.outs;
 let q13 := q12 = q12;
 Z0 (decide (q1 ≥ 0)) (Z0 (!decide (q1 ≤ 2147483647)) q2 (Z0 (decide (q4 < 1)) q2 (Z0 (decide (q4 > 24)) q2 (Z0 (decide (q6 < 1)) q2 (Z0 (decide (q6 > 24)) q2 (Z0 q7 (Z0 q8 (q10 ∧ Z0 q8 (Z0 q11 (q13 ∧ Z0 q11 ((q3 ≤ 24 ∧ TxS.Ok t) ∧ ∀ (i : Nat), i ≤ q3 → (∀ (j : Nat), j < i → (fun (i : Nat) => okI t i = true) j) → (i = q3 → Z0 q7 (Z0 q8 (q10 ∧ Z0 q8 (Z0 q11 (q13 ∧ Z0 q11 ((q5 ≤ 24 ∧ TxS.Ok t ∧ TxB t) ∧ ∀ (i : Nat), i ≤ q5 → (∀ (j : Nat), j < i → (fun (i : Nat) => ZG (t.outs i) = true) j) → (i = q5 → Z0 (decide (Ve t i ≥ 0)) (Z0 (decide (decide (Ve t i ≤ 1125899906842624) = b)) True False) q2) ∧ (i < q5 ∧ ZG (t.outs i) = false → q2) ∧ (False → False)) False) False) False) False) False) ∧ (i < q3 ∧ okI t i = false → q2) ∧ (False → False)) False) False) False) False) False)))))) q2) (by kernel_rfl) ?_
 conv => zeta
 try simp only [Zc]
 try simp only [Zi]
 try simp only [Ze]
 try simp only [Zj]
 try simp only [Zk]
 try simp only [Zd]
 try simp only [Int.toNat_natCast, Nat.zero_add, true_and, and_true, Nat.le_refl]
 subst h
 have hF : X4 t = false → false = X4 t := fun h => by rw [h]
 refine ⟨fun a1 => ⟨fun a2 => hF ?_, fun a2 => ⟨fun a3 => hF ?_, fun a3 => ⟨fun a4 => hF ?_, fun a4 => ⟨fun a5 => hF ?_, fun a5 => ⟨fun a6 => hF ?_, fun a6 => ⟨⟨by omega, ht⟩, fun i hi hgo => ⟨fun hq => ⟨⟨by omega, ht, hb⟩, fun m hm hgm => ⟨fun hr => ⟨fun a7 => ?_, fun a7 => ?_⟩, fun hr => hF ?_, fun h => h⟩⟩, fun hq => hF ?_, fun h => h⟩⟩⟩⟩⟩⟩⟩, fun a1 => hF ?_⟩
 ·unfold X4; rw [decide_eq_false (p := 0 ≤ t.num ∧ _) (by simp at a2; omega)]; simp
 ·unfold X4; rw [decide_eq_false (p := 1 ≤ t.N ∧ _) (by omega)]; simp
 ·unfold X4; rw [decide_eq_false (p := 1 ≤ t.N ∧ _) (by omega)]; simp
 ·unfold X4; rw [decide_eq_false (p := 1 ≤ t.M ∧ _) (by omega)]; simp
 ·unfold X4; rw [decide_eq_false (p := 1 ≤ t.M ∧ _) (by omega)]; simp
 ·subst hq hr
  have e1 : (List.range t.N).all (okI t) = true := by
   rw [List.all_eq_true]; intro j hj; exact hgo j (by simpa using hj)
  have e2 : (List.range t.M).all (fun i => ZG (t.outs i)) = true := by
   rw [List.all_eq_true]; intro j hj; exact hgm j (by simpa using hj)
  unfold X4
  rw [e1, e2, decide_eq_true (p := 0 ≤ t.num ∧ _) (by simp at a2; omega), decide_eq_true (p := 1 ≤ t.N ∧ _) (by omega), decide_eq_true (p := 1 ≤ t.M ∧ _) (by omega)]
  simp
 ·exact absurd (Z4u m hgm).1 a7
 ·unfold X4
  have : (List.range t.M).all (fun i => ZG (t.outs i)) = false := by
   rw [List.all_eq_false]; exact ⟨m, by simpa using hr.1, by simp [hr.2]⟩
  rw [this]; simp
 ·unfold X4
  have : (List.range t.N).all (okI t) = false := by
   rw [List.all_eq_false]; exact ⟨i, by simpa using hq.1, by simp [hq.2]⟩
  rw [this]; simp
 ·unfold X4; rw [decide_eq_false (p := 0 ≤ t.num ∧ _) (by omega)]; simp
theorem Qk {g : Nat → InS} {x : InS} {j : Nat} : sameAt g x j = true ↔ (g j).name = x.name ∧ (g j).index = x.index := by
 unfold sameAt VZ; simp
theorem Z2i {N : Nat} {g : Nat → InS} {i : Nat} (hi : i < N) : U0 N g (g i) = true ↔ ∃ j, j < N ∧ j ≠ i ∧ sameAt g (g i) j = true := by
 have hself : sameAt g (g i) i = true := Qk.2 ⟨rfl, rfl⟩
 unfold U0
 rcases WF (sameAt g (g i)) N with ⟨_, hn⟩ | ⟨f, hf, ef, pf, hb⟩
 ·rw [hn i hi] at hself; cases hself
 rcases WF (sameAt (Qh N g) (g i)) N with ⟨_, hn⟩ | ⟨l, hl, el, pl, hb'⟩
 ·have := hn (N - 1 - i) (by omega)
  have e : sameAt (Qh N g) (g i) (N - 1 - i) = sameAt g (g i) i := by unfold sameAt Qh; congr 1; congr 1; omega
  rw [e, hself] at this; cases this
 have er : ∀ q, q < N → sameAt (Qh N g) (g i) q = sameAt g (g i) (N - 1 - q) := fun q _ => rfl
 rw [er l hl] at pl
 rw [ef, el, bne_iff_ne]
 have hfi : f ≤ i := by
  rcases Nat.lt_or_ge i f with h | h
  ·rw [hb i h] at hself; cases hself
  ·exact h
 have hli : i ≤ N - 1 - l := by
  rcases Nat.lt_or_ge (N - 1 - i) l with h | h
  ·have := hb' _ h
   rw [er _ (by omega), show N - 1 - (N - 1 - i) = i by omega, hself] at this; cases this
  ·omega
 constructor
 ·intro h
  rcases Nat.lt_or_ge f i with h1 | h1
  ·exact ⟨f, hf, by omega, pf⟩
  ·exact ⟨N - 1 - l, by omega, by omega, pl⟩
 ·rintro ⟨j, hj, hne, pj⟩ h
  rcases Nat.lt_or_ge j f with h1 | h1
  ·rw [hb j h1] at pj; cases pj
  ·have := hb' (N - 1 - j) (by omega)
   rw [er _ (by omega), show N - 1 - (N - 1 - j) = j by omega, pj] at this; cases this
theorem Z3w {t : TxS} (h : ∀ j, j < t.M → ZG (t.outs j) = true) : allIn 1125899906842624 (amL t.outs t.M) = true := by
 unfold allIn
 rw [Bool.not_eq_true', List.any_eq_false]
 intro j hj
 have hj : j < t.M := by simpa [QH] using hj
 have := (Yp (h j hj)).2.1
 have e : (amL t.outs t.M).getD j 0 = (t.outs j).amount := by simp [amL, List.getD_eq_getElem?_getD, hj]
 unfold ZZ
 rw [e]
 unfold XL
 simp
 omega
theorem Z0i (t : TxS) : X4 t = ZR Y0 t := by
 rw [Bool.eq_iff_iff]
 unfold X4 ZR
 simp only [Bool.and_eq_true, decide_eq_true_eq, List.all_eq_true, List.mem_range, Bool.not_eq_true', List.any_eq_false, beq_iff_eq]
 constructor
 ·rintro ⟨⟨⟨⟨⟨h1, h2⟩, h3⟩, h4⟩, h5⟩, h6⟩
  refine ⟨⟨⟨⟨⟨h1, h2⟩, h3⟩, fun i hi => ?_⟩, fun i hi => ?_⟩, ?_⟩
  ·have h := h4 i hi
   unfold okI at h
   simp only [Bool.and_eq_true, Bool.not_eq_true', List.any_eq_false, List.mem_range] at h
   unfold YG Vt
   rw [h.1, Bool.not_true, Bool.false_or]
   intro hq
   obtain ⟨j, hj, hne, hs⟩ := (Z2i hi).1 hq
   rcases Nat.lt_or_gt_of_ne hne with h0 | h0
   ·exact h.2 j h0 hs
   ·have h' := h4 j hj
    unfold okI at h'
    simp only [Bool.and_eq_true, Bool.not_eq_true', List.any_eq_false, List.mem_range] at h'
    refine h'.2 i h0 ?_
    rw [Qk] at hs ⊢
    exact ⟨hs.1.symm, hs.2.symm⟩
  ·unfold Yj Qi
   rw [h5 i hi]
   decide
  ·unfold Y0
   unfold Ve at h6; rw [if_pos (Z3w h5), if_pos h6]
 ·rintro ⟨⟨⟨⟨⟨h1, h2⟩, h3⟩, h4⟩, h5⟩, h6⟩
  have h5' : ∀ j, j < t.M → ZG (t.outs j) = true := fun j hj => by
   have := h5 j hj
   unfold Yj Qi at this
   simpa using this
  refine ⟨⟨⟨⟨⟨h1, h2⟩, h3⟩, fun i hi => ?_⟩, h5'⟩, ?_⟩
  ·have h := h4 i hi
   unfold YG Vt at h
   simp only [Bool.or_eq_true, not_or, Bool.not_eq_true', Bool.not_eq_false, Bool.not_eq_true] at h
   unfold okI
   rw [h.1, Bool.true_and]
   simp only [Bool.not_eq_true', List.any_eq_false, List.mem_range]
   intro j hj hs
   have := (Z2i hi).2 ⟨j, by omega, by omega, hs⟩
   rw [h.2] at this; cases this
  ·unfold Y0 at h6
   rw [if_pos (Z3w h5')] at h6
   split at h6
   ·assumption
   ·cases h6
def ZbG (A : List Int → Int × Int) : ZW := fun args h K => ZL none h true 20 args fun a => match a with
 | [.agg l] => ∃ t, Qj l t ∧ t.Ok ∧ TxB t ∧ K (.bool (ZR A t))
 | _ => False
theorem Z9u (args : List AV) (h : Z7) (K : AV → Prop) (hl : ZbG Y0 args h K) : Zh PP 44 args h fun o h' => ∃ v, o = .ret v ∧ h' = h ∧ K v := by
 refine ZB.psumm (d := 20) (Zq _ _ _ _ _ hl fun a ha => ?_)
 split at ha
 ·obtain ⟨t, h1, h2, h3, hK⟩ := ha
  refine ⟨_, (ZB.ev (ZdS t) (Zkd t _ h2 h3 rfl)).conv fun E r hr => hr.head (fun _ hc => h1.rel hc) (fun _ hc => hc), fun _ => rfl, ?_⟩
  rw [Z0i]
  exact hK
 ·exact ha.elim
end Go.Tk
end
section
namespace Go.Tk
open IntKind (i64 u8 u32 u64 wrap)
def smH (a b : TxS) : Z7 := ⟨2, [(0, .flat a.c), (1, .flat b.c)]⟩
def smP (l : ZO) : ZO := l ++ [(2, .ptr (some ⟨0, 0, 0, 0, 0⟩)), (3, .ptr (some ⟨1, 0, 0, 0, 0⟩))]
def ZdT (a b : TxS) (i : Nat) : St := ⟨66, smP [(5, .int .i64 i)], smH a b, []⟩
def ZdU (a b : TxS) (i : Nat) : St := ⟨66, smP [(6, .int .i64 i)], smH a b, []⟩
def smE (a b : TxS) : St := ⟨66, smP [], smH a b, []⟩
def smR (a b : TxS) : St := ⟨66, smP [(4, .bool false)], smH a b, []⟩
theorem Zke (a b : TxS) (i : Nat) (Z1 Z2 Z3 : Prop) (ha : a.Ok) (hb : b.Ok) (hN : a.N = b.N) (hi : i ≤ a.N) (h1 : i < a.N → Z0P (a.ins i) (b.ins i) = true → Z1) (h2 : i = a.N → Z2) (h3 : i < a.N → Z0P (a.ins i) (b.ins i) = false → Z3) :
  Zz G0 20 16 0 0 (ZdT a b i) (rdM 0 0 9 (ZdT a b (i + 1)) (smE a b) (smR a b) (smR a b) Z1 Z2 Z3 False) := by
 refine @Eq.mpr _ (let q1 := a.N;
 let q2 := b.N;
 let q3 := a.ins (Int.toNat (↑i : Int));
 let q4 := q3.name;
 let q5 := b.ins (Int.toNat (↑i : Int));
 let q6 := q5.name;
 let q7 := q3.tag;
 let q8 := q5.tag;
 let q9 := q3.also;
 let q10 := q5.also;
 let q11 := q3.secret;
 let q12 := q5.secret;
 let q13 := decide (a.num = a.num);
 let q14 := decide (q1 = q1);
 let q15 := Zf a.ins;
 let q16 := q15 = q15;
 let q17 := decide (a.M = a.M);
 let q18 := Zn a.outs;
 let q19 := q18 = q18;
 let q20 := decide (b.num = b.num);
 let q21 := decide (q2 = q2);
 let q22 := Zf b.ins;
 let q23 := q22 = q22;
 let q24 := decide (b.M = b.M);
 let q25 := Zn b.outs;
 let q26 := q25 = q25;
 Z0 (decide ((↑i : Int) < (↑q1 : Int)))
 (Z0 (decide (0 ≤ (↑i : Int) ∧ (↑i : Int) < (↑q1 : Int))) (Z0 (decide (0 ≤ (↑i : Int) ∧ (↑i : Int) < (↑q2 : Int))) (Z0 (decide (List.length q4 = 32 ∧ List.length q6 = 32)) (Z0 (decide (List.length q7 = 32 ∧ List.length q8 = 32)) (Z0 (decide (List.length q9 = 32 ∧ List.length q10 = 32)) (Z0 (decide (List.length q11 = 32 ∧ List.length q12 = 32)) (Z0 (!(q4 == q6 && (q3.index == q5.index && (q3.way == q5.way && (q7 == q8 && (q9 == q10 && q11 == q12)))))) (Z0 q13 (Z0 q14 (q16 ∧ Z0 q14 (Z0 q17 (q19 ∧ Z0 q17 (Z0 q20 (Z0 q21 (q23 ∧ Z0 q21 (Z0 q24 (q26 ∧ Z0 q24 Z3 False) False) False) False) False) False) False) False) False) False) (Z0 (decide (wrap i64 ((↑i : Int) + 1) = (↑(i + 1) : Int))) (Z0 q13 (Z0 q14 (q16 ∧ Z0 q14 (Z0 q17 (q19 ∧ Z0 q17 (Z0 q20 (Z0 q21 (q23 ∧ Z0 q21 (Z0 q24 (q26 ∧ Z0 q24 Z1 False) False) False) False) False) False) False) False) False) False) False)) False) False) False) False) False) False)
 (Z0 q13 (Z0 q14 (q16 ∧ Z0 q14 (Z0 q17 (q19 ∧ Z0 q17 (Z0 q20 (Z0 q21 (q23 ∧ Z0 q21 (Z0 q24 (q26 ∧ Z0 q24 Z2 False) False) False) False) False) False) False) False) False) False)) (by kernel_rfl) ?_
 conv => zeta
 try simp only [Zc]
 try simp only [Zi]
 try simp only [Ze]
 try simp only [Zj]
 try simp only [Zk]
 try simp only [Zd]
 try simp only [Int.toNat_natCast, Nat.zero_add, true_and, and_true, Nat.le_refl]
 refine ⟨fun hlt => ?_, fun hge => h2 (by omega)⟩
 have hlt : i < a.N := by omega
 have h1 := h1 hlt
 have h3 := h3 hlt
 obtain ⟨e1, e2, e3, e4⟩ := ha.ins i hlt
 obtain ⟨d1, d2, d3, d4⟩ := hb.ins i (by omega)
 have hN0 := ha.n
 refine ⟨by omega, by omega, ⟨e1, d1⟩, ⟨e2, d2⟩, ⟨e3, d3⟩, ⟨e4, d4⟩, fun q => h3 ?_, fun q => ⟨w64 (by omega), h1 ?_⟩⟩
 ·unfold Z0P
  rw [Bool.not_eq_true'] at q
  simp only [Bool.and_assoc]
  exact q
 ·unfold Z0P
  rw [Bool.not_eq_false'] at q
  simp only [Bool.and_assoc]
  exact q
theorem Zkf (a b : TxS) (i : Nat) (Z1 Z2 Z3 : Prop) (ha : a.Ok) (hb : b.Ok) (hN : a.M = b.M) (hi : i ≤ a.M) (h1 : i < a.M → Vx (a.outs i) (b.outs i) = true → Z1) (h2 : i = a.M → Z2) (h3 : i < a.M → Vx (a.outs i) (b.outs i) = false → Z3) :
  Zz G0 20 16 2 0 (ZdU a b i) (rdM 0 2 9 (ZdU a b (i + 1)) (smE a b) (smR a b) (smR a b) Z1 Z2 Z3 False) := by
 refine @Eq.mpr _ (let q1 := a.M;
 let q2 := b.M;
 let q3 := a.outs (Int.toNat (↑i : Int));
 let q4 := q3.owner;
 let q5 := b.outs (Int.toNat (↑i : Int));
 let q6 := q5.owner;
 let q7 := q3.other;
 let q8 := q5.other;
 let q9 := q3.point;
 let q10 := q5.point;
 let q11 := q3.hash;
 let q12 := q5.hash;
 let q13 := decide (a.num = a.num);
 let q14 := decide (a.N = a.N);
 let q15 := Zf a.ins;
 let q16 := q15 = q15;
 let q17 := decide (q1 = q1);
 let q18 := Zn a.outs;
 let q19 := q18 = q18;
 let q20 := decide (b.num = b.num);
 let q21 := decide (b.N = b.N);
 let q22 := Zf b.ins;
 let q23 := q22 = q22;
 let q24 := decide (q2 = q2);
 let q25 := Zn b.outs;
 let q26 := q25 = q25;
 Z0 (decide ((↑i : Int) < (↑q1 : Int)))
 (Z0 (decide (0 ≤ (↑i : Int) ∧ (↑i : Int) < (↑q1 : Int)))
 (Z0 (decide (0 ≤ (↑i : Int) ∧ (↑i : Int) < (↑q2 : Int))) (Z0 (decide (List.length q4 = 32 ∧ List.length q6 = 32)) (Z0 (decide (List.length q7 = 32 ∧ List.length q8 = 32)) (Z0 (decide (List.length q9 = 32 ∧ List.length q10 = 32)) (Z0 (decide (List.length q11 = 32 ∧ List.length q12 = 32)) (Z0 (!(q3.kind == q5.kind && (q3.amount == q5.amount && (q4 == q6 && (q7 == q8 && (q9 == q10 && (q11 == q12 && (q3.delay == q5.delay && q3.expiry == q5.expiry)))))))) (Z0 q13 (Z0 q14 (q16 ∧ Z0 q14 (Z0 q17 (q19 ∧ Z0 q17 (Z0 q20 (Z0 q21 (q23 ∧ Z0 q21 (Z0 q24 (q26 ∧ Z0 q24 Z3 False) False) False) False) False) False) False) False) False) False) (Z0 (decide (wrap i64 ((↑i : Int) + 1) = (↑(i + 1) : Int))) (Z0 q13 (Z0 q14 (q16 ∧ Z0 q14 (Z0 q17 (q19 ∧ Z0 q17 (Z0 q20 (Z0 q21 (q23 ∧ Z0 q21 (Z0 q24 (q26 ∧ Z0 q24 Z1 False) False) False) False) False) False) False) False) False) False) False)) False) False) False) False) False) False)
 (Z0 q13 (Z0 q14 (q16 ∧ Z0 q14 (Z0 q17 (q19 ∧ Z0 q17 (Z0 q20 (Z0 q21 (q23 ∧ Z0 q21 (Z0 q24 (q26 ∧ Z0 q24 Z2 False) False) False) False) False) False) False) False) False) False)) (by kernel_rfl) ?_
 conv => zeta
 try simp only [Zc]
 try simp only [Zi]
 try simp only [Ze]
 try simp only [Zj]
 try simp only [Zk]
 try simp only [Zd]
 try simp only [Int.toNat_natCast, Nat.zero_add, true_and, and_true, Nat.le_refl]
 refine ⟨fun hlt => ?_, fun hge => h2 (by omega)⟩
 have hlt : i < a.M := by omega
 have h1 := h1 hlt
 have h3 := h3 hlt
 obtain ⟨e1, e2, e3, e4⟩ := ha.outs i hlt
 obtain ⟨d1, d2, d3, d4⟩ := hb.outs i (by omega)
 have hN0 := ha.m
 refine ⟨by omega, by omega, ⟨e1, d1⟩, ⟨e2, d2⟩, ⟨e3, d3⟩, ⟨e4, d4⟩, fun q => h3 ?_, fun q => ⟨w64 (by omega), h1 ?_⟩⟩
 ·unfold Vx
  rw [Bool.not_eq_true'] at q
  simp only [Bool.and_assoc]
  exact q
 ·unfold Vx
  rw [Bool.not_eq_false'] at q
  simp only [Bool.and_assoc]
  exact q
def ZiM (a b : TxS) : Nat → St → KE → Prop := goM 0 (ZdT a b 0) (a.Ok ∧ b.Ok ∧ a.N = b.N) (ZT 0 a.N 9 (fun i => Z0P (a.ins i) (b.ins i) = true) (fun i => i = a.N) (fun i => i < a.N ∧ Z0P (a.ins i) (b.ins i) = false) (fun _ => False) (fun _ => smE a b) (fun _ => smR a b) (fun _ => smR a b))
def ZiN (a b : TxS) : Nat → St → KE → Prop := goM 0 (ZdU a b 0) (a.Ok ∧ b.Ok ∧ a.M = b.M) (ZT 2 a.M 9 (fun i => Vx (a.outs i) (b.outs i) = true) (fun i => i = a.M) (fun i => i < a.M ∧ Vx (a.outs i) (b.outs i) = false) (fun _ => False) (fun _ => smE a b) (fun _ => smR a b) (fun _ => smR a b))
noncomputable def E40 (a b : TxS) : Za := (G0.withL 16 0 (ZiM a b)).withL 16 2 (ZiN a b)
theorem ZgA (a b : TxS) : (E40 a b).Ok := by
 have h1 : (G0.withL 16 0 (ZiM a b)).Ok := Za.withGoM (N := 20) (S := ZdT a b) Zv (by kernel_rfl) fun hC => ⟨rfl, fun i hi hgo => Zke a b i _ _ _ hC.1 hC.2.1 hC.2.2 hi (fun h1 h2 => ⟨h2, h1⟩) (fun h => h) (fun h1 h2 => ⟨h1, h2⟩)⟩
 have h2 : (G0.withL 16 2 (ZiN a b)).Ok := Za.withGoM (N := 20) (S := ZdU a b) Zv (by kernel_rfl) fun hC => ⟨rfl, fun i hi hgo => Zkf a b i _ _ _ hC.1 hC.2.1 hC.2.2 hi (fun h1 h2 => ⟨h2, h1⟩) (fun h => h) (fun h1 h2 => ⟨h1, h2⟩)⟩
 exact Za.withL_join (H := G0) h1 rfl h2
theorem Zkg (a b : TxS) (F : Bool) (ha : a.Ok) (hb : b.Ok) (hF : F = XZ a b) :
  evF (E40 a b) 20 16 [.agg a.c, .agg b.c] ⟨0, []⟩ (Yd 0 [] (.bool F) 0 []) := by
 refine @Eq.mpr _ (let q1 := a.num;
 let q2 := b.num;
 let q3 := Z0 (decide (false = F)) True False;
 let q4 := a.N;
 let q5 := b.N;
 let q6 := a.M;
 let q7 := b.M;
 let q8 := decide (q1 = q1);
 let q9 := decide (q4 = q4);
 let q10 := Zf a.ins;
 let q11 := q10 = q10;
 let q12 := decide (q6 = q6);
 let q13 := Zn a.outs;
 let q14 := q13 = q13;
 let q15 := decide (q2 = q2);
 let q16 := decide (q5 = q5);
 let q17 := Zf b.ins;
 let q18 := q17 = q17;
 let q19 := decide (q7 = q7);
 let q20 := Zn b.outs;
 let q21 := q20 = q20;
 Z0 (q1 != q2) q3 (Z0 ((↑q4 : Int) != (↑q5 : Int)) q3 (Z0 ((↑q6 : Int) != (↑q7 : Int)) q3 (Z0 q8 (Z0 q9 (q11 ∧ Z0 q9 (Z0 q12 (q14 ∧ Z0 q12 (Z0 q15 (Z0 q16 (q18 ∧ Z0 q16 (Z0 q19 (q21 ∧ Z0 q19 ((TxS.Ok a ∧ TxS.Ok b ∧ q4 = q5) ∧ ∀ (i : Nat), i ≤ q4 → (∀ (j : Nat), j < i → (fun (i : Nat) => Z0P (a.ins i) (b.ins i) = true) j) → (i = q4 → Z0 q8 (Z0 q9 (q11 ∧ Z0 q9 (Z0 q12 (q14 ∧ Z0 q12 (Z0 q15 (Z0 q16 (q18 ∧ Z0 q16 (Z0 q19 (q21 ∧ Z0 q19 ((TxS.Ok a ∧ TxS.Ok b ∧ q6 = q7) ∧ ∀ (i : Nat), i ≤ q6 → (∀ (j : Nat), j < i → (fun (i : Nat) => Vx (a.outs i) (b.outs i) = true) j) → (i = q6 → Z0 (decide (true = F)) True False) ∧ (i < q6 ∧ Vx (a.outs i) (b.outs i) = false → q3) ∧ (False → False)) False) False) False) False) False) False) False) False) False) False) ∧ (i < q4 ∧ Z0P (a.ins i) (b.ins i) = false → q3) ∧ (False → False)) False) False) False) False) False) False) False) False) False) False)))) (by kernel_rfl) ?_
 conv => zeta
 try simp only [Zc]
 try simp only [Zi]
 try simp only [Ze]
 try simp only [Zj]
 try simp only [Zk]
 try simp only [Zd]
 try simp only [Int.toNat_natCast, Nat.zero_add, true_and, and_true, Nat.le_refl]
 have hn : a.num ≠ b.num → false = XZ a b := fun h => by
  unfold XZ; rw [beq_eq_false_iff_ne.2 h]; rfl
 have hi : Z7b a.N a.ins b.N b.ins = false → false = XZ a b := fun h => by
  unfold XZ; rw [h, Bool.false_and, Bool.and_false]
 have ho : Z9p a.M a.outs b.M b.outs = false → false = XZ a b := fun h => by
  unfold XZ; rw [h, Bool.and_false, Bool.and_false]
 subst hF
 refine ⟨fun h => hn (by simpa using h), fun h0 => ⟨fun h => hi ?_, fun h1 => ⟨fun h => ho ?_, fun h2 => ?_⟩⟩⟩
 ·have h : a.N ≠ b.N := fun e => by rw [e] at h; simp at h
  unfold Z7b; rw [decide_eq_false h, Bool.false_and]
 ·have h : a.M ≠ b.M := fun e => by rw [e] at h; simp at h
  unfold Z9p; rw [decide_eq_false h, Bool.false_and]
 have h0 : a.num = b.num := by simpa using h0
 have h1 : a.N = b.N := by
  have : (a.N : Int) = b.N := by simpa using h1
  omega
 have h2 : a.M = b.M := by
  have : (a.M : Int) = b.M := by simpa using h2
  omega
 refine ⟨⟨ha, hb, h1⟩, fun i hi' hgo => ⟨fun hx => ⟨⟨ha, hb, h2⟩, fun k hk hgo2 => ⟨fun hx2 => ?_, fun hx2 => ho ?_, fun h => h⟩⟩, fun hx => hi ?_, fun h => h⟩⟩
 ·subst hx hx2
  have e1 : (List.range a.N).all (fun i => Z0P (a.ins i) (b.ins i)) = true := by
   rw [List.all_eq_true]; intro j hj; exact hgo j (by simpa using hj)
  have e2 : (List.range a.M).all (fun i => Vx (a.outs i) (b.outs i)) = true := by
   rw [List.all_eq_true]; intro j hj; exact hgo2 j (by simpa using hj)
  unfold XZ Z7b Z9p
  rw [e1, e2, decide_eq_true h1, decide_eq_true h2, h0, beq_self_eq_true]; rfl
 ·have e2 : (List.range a.M).all (fun i => Vx (a.outs i) (b.outs i)) = false := by
   rw [List.all_eq_false]; exact ⟨k, by simpa using hx2.1, by simp [hx2.2]⟩
  unfold Z9p; rw [e2, Bool.and_false]
 ·have e1 : (List.range a.N).all (fun i => Z0P (a.ins i) (b.ins i)) = false := by
   rw [List.all_eq_false]; exact ⟨i, by simpa using hx.1, by simp [hx.2]⟩
  unfold Z7b; rw [e1, Bool.and_false]
theorem ZbH (args : List AV) (h : Z7) (K : AV → Prop) (hl : Zbw XZ args h K) : Zh PP 16 args h fun o h' => ∃ v, o = .ret v ∧ h' = h ∧ K v := by
 refine ZB.psumm (d := 20) (Zq _ _ _ _ _ hl fun a ha => ?_)
 split at ha
 ·obtain ⟨a, b, h1, h2, ⟨h3, h4⟩, hK⟩ := ha
  exact ⟨_, (ZB.ev (ZgA a b) (Zkg a b _ h3 h4 rfl)).conv fun E r hr => hr.head (fun _ hc => h1.rel hc) (fun _ hc => hc.head (fun _ hc => h2.rel hc) (fun _ hc => hc)), fun _ => rfl, hK⟩
 ·exact ha.elim
end Go.Tk
end
