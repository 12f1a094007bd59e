/- K: part 4 of an engine (a symbolic evaluator, proved against the model) and of the walk by it. -/
import Derived.Test.YtellkjlbhaikeaaGreatK3
import Derived.OpenShut
import Derived.WideShapes
import Derived.ChangeSlices
import Derived.WalkKit
import Derived.ProofKit
import Derived.Below
import Derived.Handed
import Derived.Carry
import Derived.Shelf.SlSortCmp.WholeK
set_option linter.unusedVariables false
set_option linter.unusedSimpArgs false
set_option maxRecDepth 100000
set_option maxHeartbeats 0
section
namespace Go.Tk
open IntKind (i64 u8 u32 u64 wrap)
def Spec (P : Program) (f : FuncId) (args : List AV) (h0 : Z9) (o : Out) (nx : Nat) (bs : List (Nat × Blk)) : Prop :=
 ∀ (E : Env) (w : World) (rs : List Value), Emb E h0 w → ZA E args rs → Calls P f rs.toArray w fun e w' => ∃ E', Evo E h0 w E' ⟨nx, bs⟩ w' ∧ UQ E' o e
theorem Z7H {k : Nat} {τ : Ren} {v u : AV} {nx : Nat} {bs : List (Nat × Blk)} {h0 h : Z9} (hk : k = h0.next) (hl : VO k τ ⟨1, [(0, v)], ⟨nx, bs⟩, []⟩ ⟨1, [(0, u)], h, []⟩ True) {E0 E : Env} {w0 w : World} {r : Value}
  (he0 : Emb E0 h0 w0) (hev : Evo E0 h0 w0 E h w) (hr : Zf E u r) : ∃ E', Evo E0 h0 w0 E' ⟨nx, bs⟩ w ∧ Zf E' v r := by
 obtain ⟨_, hw⟩ := XA hl
 have hs : WL E ⟨1, [(0, u)], h, []⟩ { tmps := #[r], defers := [] } w := by
  refine ⟨hev.emb, ⟨rfl, fun x v' hx => ?_⟩, .nil⟩
  simp only [ZQ] at hx
  split at hx
  ·rename_i hb
   have := Nat.eq_of_beq_eq_true hb
   subst this
   cases hx
   exact hr
  ·cases hx
 obtain ⟨E₂, hs2, hev2⟩ := hw E0 h0 w0 E _ w (fun x hx => he0.fresh x (hk ▸ hx)) hs hev
 refine ⟨E₂, hev2, ?_⟩
 have := hs2.tmps.get 0 v (by simp [ZQ])
 simpa using this
def mvN : List Nat → Nat → Nat → Nat
 | [], d, y => d + y
 | x :: _, _, 0 => x
 | _ :: r, d, y + 1 => mvN r d y
theorem Z6K : ∀ {σ : List Nat} {d y x : Nat}, Xg σ y = some x → mvN σ d y = x
 | [], _, _, _, h => by simp [Xg] at h
 | x :: r, d, 0, _, h => by simpa [Xg, mvN] using h
 | x :: r, d, y + 1, _, h => Z6K (σ := r) h
theorem Z6L : ∀ {σ : List Nat} {d y : Nat}, σ.length ≤ y → mvN σ d y = d + (y - σ.length)
 | [], d, y, _ => by simp [mvN]
 | x :: r, d, 0, h => by simp at h
 | x :: r, d, y + 1, h => by
  simp at h
  have := Z6L (σ := r) (d := d) h
  simp [mvN, this]
theorem Q4 : ∀ {σ : List Nat} {y : Nat}, y < σ.length → ∃ x, Xg σ y = some x
 | [], _, h => by simp at h
 | x :: r, 0, _ => ⟨x, rfl⟩
 | x :: r, y + 1, h => Q4 (σ := r) (by simpa using h)
mutual
/-- Names moved. -/
def mvV (σ : List Nat) (d : Nat) : AV → Option AV
 | .top => some .top
 | .bool b => some (.bool b)
 | .int k n => some (.int k n)
 | .str s => some (.str s)
 | .ptr none => some (.ptr none)
 | .ptr (some p) => some (.ptr (some ⟨mvN σ d p.blk, p.row, p.sz, p.off, p.inn⟩))
 | .nslice p esz len lo => some (.nslice ⟨mvN σ d p.blk, p.row, p.sz, p.off, p.inn⟩ esz len lo)
 | .eslice => some .eslice
 | .fslice => some .fslice
 | .nilslice => some .nilslice
 | .map none => some (.map none)
 | .map (some x) => some (.map (some (mvN σ d x)))
 | .nilFunc => some .nilFunc
 | .nilIface => some .nilIface
 | .func (.func g) fs cs => match mvL σ d fs, mvL σ d cs with
  | some fs', some cs' => some (.func (.func g) fs' cs')
  | _, _ => none
 | .iface t v => match mvV σ d v with | some v' => some (.iface t v') | none => none
 | .agg cs => match mvC σ d cs with | some cs' => some (.agg cs') | none => none
 | .tuple vs => match mvL σ d vs with | some vs' => some (.tuple vs') | none => none
 | _ => none
def mvC (σ : List Nat) (d : Nat) : List AV → Option (List AV)
 | [] => some []
 | .arr k n xs :: r => match mvC σ d r with | some r' => some (.arr k n xs :: r') | none => none
 | v :: r => match mvV σ d v, mvC σ d r with
  | some v', some r' => match v'.isCell with | true => some (v' :: r') | false => none
  | _, _ => none
def mvL (σ : List Nat) (d : Nat) : List AV → Option (List AV)
 | [] => some []
 | v :: r => match mvV σ d v, mvL σ d r with
  | some v', some r' => some (v' :: r')
  | _, _ => none
end
theorem Uj {v : AV} (h : v.isCell = true) (r : List AV) : csz (v :: r) = 1 + csz r := by
 cases v <;> simp_all [AV.isCell, csz]
set_option maxHeartbeats 1000000 in
mutual
theorem Z2b {σ : List Nat} {d : Nat} {E E' : Env} (hb : ∀ x r, E.blk x = some r → E'.blk (mvN σ d x) = some r) : ∀ (v v' : AV) (r : Value), mvV σ d v = some v' → Zf E v r → Zf E' v' r := by
 intro v v' r h hv
 unfold mvV at h
 split at h
 ·cases h; exact .top r
 ·cases h; exact hv.plain rfl
 ·cases h; exact hv.plain rfl
 ·cases h; exact hv.plain rfl
 ·cases h; exact hv.plain rfl
 ·cases h
  cases hv with
  | ptr p b N hq => exact .ptr ⟨mvN σ d _, _, _, _, _⟩ b N (hb _ _ hq)
 ·cases h
  cases hv with
  | nslice0 p esz len lo a h1 h2 => exact .nslice0 _ _ _ _ a h1 h2
  | nslice p esz len lo b N cap hq h1 h2 h3 => exact .nslice ⟨mvN σ d _, _, _, _, _⟩ _ _ _ b N cap (hb _ _ hq) h1 h2 h3
 ·cases h; exact hv.plain rfl
 ·cases h; exact hv.plain rfl
 ·cases h; exact hv.plain rfl
 ·cases h; exact hv.plain rfl
 ·cases h
  cases hv with
  | map x b N hq => exact .map _ b N (hb _ _ hq)
 ·cases h; exact hv.plain rfl
 ·cases h; exact hv.plain rfl
 ·split at h
  ·rename_i fs' cs' h1 h2
   cases h
   cases hv with
   | func fn first captured fs cs ha hc => exact .func _ _ _ _ _ (Z4j hb _ _ _ h1 ha) (Z4j hb _ _ _ h2 hc)
  ·cases h
 ·split at h
  ·rename_i v1 h1
   cases h
   cases hv with
   | iface t v x hx => exact .iface _ _ _ (Z2b hb _ _ _ h1 hx)
  ·cases h
 ·split at h
  ·rename_i cs' h1
   cases h
   cases hv with
   | agg cs vs hc => exact .agg _ _ (Z4i hb _ _ _ h1 hc).1
  ·cases h
 ·split at h
  ·rename_i vs' h1
   cases h
   cases hv with
   | tuple vs rs hc => exact .tuple _ _ (Z4j hb _ _ _ h1 hc)
  ·cases h
 ·cases h
theorem Z4i {σ : List Nat} {d : Nat} {E E' : Env} (hb : ∀ x r, E.blk x = some r → E'.blk (mvN σ d x) = some r) : ∀ (l l' : List AV) (r : List Value), mvC σ d l = some l' → Zr E l r → Zr E' l' r ∧ csz l' = csz l := by
 intro l l' r h hv
 unfold mvC at h
 split at h
 ·cases h; cases hv; exact ⟨.nil, rfl⟩
 ·split at h
  ·rename_i r' h1
   cases h
   obtain ⟨ws, rfl, ht⟩ := Zr.cons_arr hv
   have := Z4i hb _ _ _ h1 ht
   exact ⟨.arr _ _ _ _ _ this.1, by simp [csz, this.2]⟩
  ·cases h
 ·rename_i v r2 hna
  split at h
  ·rename_i v1 r1 h1 h2
   split at h
   ·rename_i hcell
    cases h
    obtain ⟨c, ws, rfl, q1, q2, q3, q4⟩ := Zr.cons_cell hv (fun k m xs e => hna k m xs e)
    have := Z4i hb _ _ _ h2 q4
    exact ⟨.one _ _ _ _ hcell q2 (Z2b hb _ _ _ h1 q3) this.1, by rw [Uj hcell, Uj q1, this.2]⟩
   ·cases h
  ·cases h
theorem Z4j {σ : List Nat} {d : Nat} {E E' : Env} (hb : ∀ x r, E.blk x = some r → E'.blk (mvN σ d x) = some r) : ∀ (l l' : List AV) (r : List Value), mvL σ d l = some l' → ZA E l r → ZA E' l' r := by
 intro l l' r h hv
 unfold mvL at h
 split at h
 ·cases h; cases hv; exact .nil
 ·split at h
  ·rename_i v1 r1 h1 h2
   cases h
   cases hv with
   | cons v c vs cs ha hc => exact .cons _ _ _ _ (Z2b hb _ _ _ h1 ha) (Z4j hb _ _ _ h2 hc)
  ·cases h
end
theorem Zcg {σ : List Nat} {d : Nat} : ∀ (l l' : List AV), mvC σ d l = some l' → csz l' = csz l := by
 intro l
 induction l with
 | nil => intro l' h; unfold mvC at h; cases h; rfl
 | cons v r ih =>
  intro l' h
  unfold mvC at h
  split at h
  ·rename_i hq; cases hq
  ·rename_i hq
   cases hq
   split at h
   ·rename_i r' h1
    cases h
    simp [csz, ih _ h1]
   ·cases h
  ·rename_i hna hq
   cases hq
   split at h
   ·rename_i v1 r1 h1 h2
    split at h
    ·rename_i hcell
     cases h
     have hv : v.isCell = true ∨ v.isCell = false := by cases v.isCell <;> simp
     rcases hv with hv | hv
     ·rw [Uj hcell, Uj hv, ih _ h2]
     ·cases v with
      | arr k n xs => exact absurd rfl (hna k n xs)
      | agg cs => unfold mvV at h1; split at h1 <;> cases h1; simp [AV.isCell] at hcell
      | tuple cs => unfold mvV at h1; split at h1 <;> cases h1; simp [AV.isCell] at hcell
      | _ => simp [AV.isCell] at hv
    ·cases h
   ·cases h
inductive MvB (σ : List Nat) (d : Nat) : Blk → Blk → Prop
 | ints (k : IntKind) (xs : List Int) : MvB σ d (.ints k xs) (.ints k xs)
 | flat (cs cs' : List AV) (h : mvC σ d cs = some cs') : MvB σ d (.flat cs) (.flat cs')
 | rows (sz n : Nat) (f : Nat → List AV) (h : ∀ i, i < n → Yi (f i) = true) : MvB σ d (.rows sz n f) (.rows sz n f)
inductive Z6M (σ : List Nat) (d : Nat) : List (Nat × Blk) → List (Nat × Blk) → Prop
 | nil : Z6M σ d [] []
 | cons (y x : Nat) (B B' : Blk) (r r' : List (Nat × Blk)) (hx : mvN σ d y = x) (h : MvB σ d B B') (t : Z6M σ d r r') : Z6M σ d ((y, B) :: r) ((x, B') :: r')
inductive MvO (σ : List Nat) (d : Nat) : Out → Out → Prop
 | ret (v v' : AV) (h : mvV σ d v = some v') : MvO σ d (.ret v) (.ret v')
 | panic (v v' : AV) (h : mvV σ d v = some v') : MvO σ d (.panic v) (.panic v')
theorem Z6M.get {σ : List Nat} {d : Nat} : ∀ {bs bs' : List (Nat × Blk)}, Z6M σ d bs bs' → ∀ x B', ZF bs' x = some B' → ∃ y B, mvN σ d y = x ∧ ZF bs y = some B ∧ MvB σ d B B'
 | _, _, .nil, x, B', h => by simp [ZF] at h
 | _, _, .cons y x0 B B0 r r' hx hm t, x, B', h => by
  unfold ZF at h
  split at h
  ·rename_i hb
   have := Nat.eq_of_beq_eq_true hb
   cases h
   exact ⟨y, B, hx.trans this, by simp [ZF, Nat.beq_refl], hm⟩
  ·rename_i hb
   obtain ⟨z, C, h1, h2, h3⟩ := t.get x B' h
   refine ⟨z, C, h1, ?_, h3⟩
   have hne : y ≠ z := fun e => by subst e; rw [hx] at h1; subst h1; simp [Nat.beq_refl] at hb
   simp [ZF, Zu hne, h2]
theorem MvB.move {σ : List Nat} {d : Nat} {B B' : Blk} (hm : MvB σ d B B') {E E' : Env} {w : World} {y : Nat} (hb : ∀ x r, E.blk x = some r → E'.blk (mvN σ d x) = some r) (hn : E.blk y = none → E'.blk (mvN σ d y) = none) (h : Yt E w y B) : Yt E' w (mvN σ d y) B' := by
 cases hm with
 | ints k xs => cases h with
  | ints0 k xs h0 hq => exact .ints0 _ _ h0 (hn hq)
  | ints k xs b cells elem fr hq hw hf hv => exact .ints _ _ b cells elem fr (hb _ _ hq) hw hf hv
 | flat cs cs' hc => cases h with
  | flat0 cs h0 hq => exact .flat0 _ ((Zcg _ _ hc).trans h0) (hn hq)
  | flat cs b cells elem fr vs hq hw hf hcr hv => exact .flat _ b cells elem fr vs (hb _ _ hq) hw hf (Z4i hb _ _ _ hc hcr).1 hv
 | rows sz n f hp => cases h with
  | rows0 sz n f h0 hq => exact .rows0 _ _ _ h0 (hn hq)
  | rows sz n f b cells elem fr g hq hw hf hcr hl hv => exact .rows _ _ _ b cells elem fr g (hb _ _ hq) hw hf (fun i hi => (hcr i hi).plain (hp i hi)) hl hv
def Uk (σ : List Nat) (bs : List (Nat × Blk)) : List (Nat × Blk) := match σ with
 | [] => bs
 | x :: r => Uk r (YP bs x)
theorem Z0n : ∀ {σ : List Nat} {bs : List (Nat × Blk)} {x : Nat} {B : Blk}, ZF (Uk σ bs) x = some B → ZF bs x = some B ∧ x ∉ σ
 | [], bs, x, B, h => ⟨h, by simp⟩
 | y :: r, bs, x, B, h => by
  obtain ⟨h1, h2⟩ := Z0n (σ := r) h
  by_cases hn : y = x
  ·subst hn; rw [Ux] at h1; cases h1
  ·rw [Wj _ _ _ hn] at h1
   exact ⟨h1, by simp [h2, Ne.symm hn]⟩
theorem Spec.calls {P : Program} {f : FuncId} {args₀ args : List AV} {σ : List Nat} {Bs : List Blk} {o o' : Out} {nx : Nat} {bs bs' : List (Nat × Blk)} {h : Z9} {K : KO} (hc : Spec P f args₀ ⟨σ.length, W5 0 σ Bs⟩ o nx bs)
  (hlen : Bs.length = σ.length) (hm : ∀ x, x ∈ σ → ∃ B, h.get x = some B) (hd : Z3i σ = true)
  (hx : ∀ (i x : Nat) (B : Blk), Xg σ i = some x → Bs[i]? = some B → ∃ B', h.get x = some B' ∧ ∀ (E : Env) (w : World), Emb E h w → Yt E w x B' → Yt (E.borL σ w true) w i B)
  (ha : ∀ (E : Env) (w : World) (r : List Value), Emb E h w → ZA E args r → ZA (E.borL σ w true) args₀ r)
  (hnx : σ.length ≤ nx) (ho : MvO σ h.next o o') (hb : Z6M σ h.next bs bs') (hK : K o' ⟨h.next + (nx - σ.length), VR bs' (Uk σ h.bs)⟩) : Zo P f args h K := by
 intro E w rs he hr
 let E0 := E.borL σ w true
 have hsub : ∀ i x, Xg σ i = some x → E0.blk i = E.blk x := fun i x hi => by
  show (match Xg σ i with | some x => E.blk x | none => none) = _
  rw [hi]
 have hnone : ∀ i, σ.length ≤ i → E0.blk i = none := fun i hi => by
  show (match Xg σ i with | some x => E.blk x | none => none) = _
  rw [Z7E hi]
 have hσlt : ∀ x, x ∈ σ → x < h.next := fun x hx => let ⟨B, hB⟩ := hm x hx; he.lt x B hB
 have hsb : ∀ y B, ZF (W5 0 σ Bs) y = some B → ∃ x, Xg σ y = some x ∧ Bs[y]? = some B := fun y B hy => by
  obtain ⟨i, x, rfl, h1, h2⟩ := XN σ Bs 0 y B hy
  rw [Nat.zero_add]
  exact ⟨x, by rw [Z2a]; exact h1, h2⟩
 have hinj : ∀ y z x, Xg σ y = some x → Xg σ z = some x → y = z := fun y z x h1 h2 => by
  have a := VT hd y x h1
  have b := VT hd z x h2
  rw [a] at b
  cases b
  rfl
 have hemb : Emb E0 ⟨σ.length, W5 0 σ Bs⟩ w := by
  refine ⟨hnone, ?_, ?_, ?_, fun _ _ h => h.1, ?_⟩
  ·intro y B hy
   obtain ⟨x, h1, _⟩ := hsb y B hy
   exact Z7D h1
  ·intro y B hy
   obtain ⟨x, h1, h2⟩ := hsb y B hy
   obtain ⟨B', hB', hq⟩ := hx y x B h1 h2
   exact hq E w he (he.own x B' hB')
  ·intro y z B C b N N' hy hz hby hbz
   obtain ⟨x, h1, h2⟩ := hsb y B hy
   obtain ⟨x', h3, h4⟩ := hsb z C hz
   rw [hsub y x h1] at hby
   rw [hsub z x' h3] at hbz
   obtain ⟨B', hB'⟩ := hm x (XC h1)
   obtain ⟨C', hC'⟩ := hm x' (XC h3)
   have := he.disj x x' B' C' b N N' hB' hC' hby hbz
   subst this
   exact hinj y z x h1 h3
  ·intro a c y B N hi hy hbb
   obtain ⟨x, h1, _⟩ := hsb y B hy
   rw [hsub y x h1] at hbb
   exact hi.2 x (XC h1) N hbb
 refine (hc E0 w rs hemb (ha E w rs he hr)).mono ?_
 rintro e w' ⟨E₁, hev, hor⟩
 let E' : Env := ⟨fun x => match XB σ x with
  | some i => E₁.blk i
  | none => if x < h.next then E.blk x else E₁.blk (x - h.next + σ.length), E.imm⟩
 have hρ : ∀ y, E'.blk (mvN σ h.next y) = E₁.blk y := fun y => by
  rcases Nat.lt_or_ge y σ.length with hlt | hge
  ·obtain ⟨x, hx'⟩ := Q4 hlt
   rw [Z6K hx']
   show (match XB σ x with | some i => _ | none => _) = _
   rw [VT hd y x hx']
  ·rw [Z6L hge]
   have hn : XB σ (h.next + (y - σ.length)) = none := by
    cases hq : XB σ (h.next + (y - σ.length)) with
    | none => rfl
    | some i => have := hσlt _ (XC (V8 hq)); omega
   show (match XB σ _ with | some i => _ | none => _) = _
   rw [hn]
   show (if _ then _ else _) = _
   rw [if_neg (by omega)]
   congr 1
   omega
 have hold : ∀ x, x < h.next → XB σ x = none → E'.blk x = E.blk x := fun x hx hn => by
  show (match XB σ x with | some i => _ | none => _) = _
  rw [hn]
  exact if_pos hx
 have hfresh : ∀ x, E.blk x ≠ none → x < h.next := fun x hx => by
  rcases Nat.lt_or_ge x h.next with hl | hg
  ·exact hl
  ·exact absurd (he.fresh x hg) hx
 have hle : E.le E' := ⟨fun x q hq => by
  cases hi : XB σ x with
  | some i =>
   show (match XB σ x with | some i => _ | none => _) = _
   rw [hi]
   exact hev.le.blk i q ((hsub i x (V8 hi)).trans hq)
  | none => rw [hold x (hfresh x (by rw [hq]; simp)) hi]; exact hq, fun _ _ h => h⟩
 have hown0 : ∀ b, Wk E0 ⟨σ.length, W5 0 σ Bs⟩ b → ∃ x N, x ∈ σ ∧ E.blk x = some (b, N) := fun b ⟨y, B, N, hy, hbb⟩ => by
  obtain ⟨x, h1, _⟩ := hsb y B hy
  exact ⟨x, N, XC h1, by rw [← hsub y x h1]; exact hbb⟩
 have hkeep : ∀ b, b < w.heap.size → (∀ x N, x ∈ σ → E.blk x = some (b, N) → False) → w'.heap[b]? = w.heap[b]? := fun b hb hn => hev.keep b hb (fun ho => let ⟨x, N, h1, h2⟩ := hown0 b ho; hn x N h1 h2)
 have hget : ∀ x B', Z9.get ⟨h.next + (nx - σ.length), VR bs' (Uk σ h.bs)⟩ x = some B' →
   (∃ y B, mvN σ h.next y = x ∧ ZF bs y = some B ∧ MvB σ h.next B B') ∨ (x < h.next ∧ x ∉ σ ∧ h.get x = some B') := fun x B' hx => by
  simp only [Z9.get, Z3b] at hx
  split at hx
  ·rename_i B0 hq
   cases hx
   exact .inl (hb.get x _ hq)
  ·obtain ⟨h1, h2⟩ := Z0n hx
   exact .inr ⟨he.lt x B' h1, h2, h1⟩
 have hni : ∀ x, x ∉ σ → XB σ x = none := fun x hx => by
  cases hq : XB σ x with
  | none => rfl
  | some i => exact absurd (XC (V8 hq)) hx
 have hmix : ∀ y B z C b N N', ZF bs y = some B → E₁.blk y = some (b, N) → z ∉ σ → h.get z = some C → E.blk z = some (b, N') → False := fun y B z C b N N' hy hby hz hz' hbz => by
  rcases hev.own b ⟨y, B, N, hy, hby⟩ with ho | hs
  ·obtain ⟨x, M, h1, h2⟩ := hown0 b ho
   obtain ⟨D, hD⟩ := hm x h1
   have := he.disj x z D C b M N' hD hz' h2 hbz
   subst this
   exact hz h1
  ·have := (he.own z C hz').lt hbz
   omega
 have himm0 : ∀ a c, E.imm a c → E0.imm a c := fun a c hi => ⟨he.imm a c hi, fun x hx N hbb => let ⟨B, hB⟩ := hm x hx; he.sep a c x B N hi hB hbb⟩
 have hemb' : Emb E' ⟨h.next + (nx - σ.length), VR bs' (Uk σ h.bs)⟩ w' := by
  refine ⟨?_, ?_, ?_, ?_, ?_, ?_⟩
  ·intro x hx
   have hx' : h.next + (nx - σ.length) ≤ x := hx
   have hn : XB σ x = none := hni x (fun hq => by have := hσlt x hq; omega)
   show (match XB σ x with | some i => _ | none => _) = _
   rw [hn]
   show (if _ then _ else _) = _
   rw [if_neg (by omega)]
   exact hev.emb.fresh _ (by show nx ≤ _; omega)
  ·intro x B hx
   show x < h.next + (nx - σ.length)
   rcases hget x B hx with ⟨y, B0, rfl, hy, _⟩ | ⟨hlt, _, _⟩
   ·have hyn : y < nx := hev.emb.lt y B0 hy
    rcases Nat.lt_or_ge y σ.length with hlt | hge
    ·obtain ⟨x, hx'⟩ := Q4 hlt
     rw [Z6K hx']
     have := hσlt x (XC hx')
     omega
    ·rw [Z6L hge]
     omega
   ·omega
  ·intro x B hx
   rcases hget x B hx with ⟨y, B0, rfl, hy, hmv⟩ | ⟨hlt, hnσ, hx'⟩
   ·exact hmv.move (E := E₁) (fun x r hq => by rw [hρ]; exact hq) (fun hq => by rw [hρ]; exact hq) (hev.emb.own y B0 hy)
   ·have h1 := (he.own x B hx').mono hle (fun hn => by rw [hold x hlt (hni x hnσ)]; exact hn)
    refine h1.congr fun b N hbb => ?_
    rw [hold x hlt (hni x hnσ)] at hbb
    refine hkeep b ((he.own x B hx').lt hbb) fun z M hz hbz => ?_
    obtain ⟨D, hD⟩ := hm z hz
    have := he.disj x z B D b N M hx' hD hbb hbz
    subst this
    exact hnσ hz
  ·intro x z B C b N N' hx hz hbx hbz
   rcases hget x B hx with ⟨y, B0, rfl, hy, hmv⟩ | ⟨hlt, hnσ, hx'⟩ <;> rcases hget z C hz with ⟨y', C0, rfl, hy', hmv'⟩ | ⟨hlt', hnσ', hz'⟩
   ·rw [hρ] at hbx hbz
    rw [hev.emb.disj y y' B0 C0 b N N' hy hy' hbx hbz]
   ·rw [hρ] at hbx
    rw [hold z hlt' (hni z hnσ')] at hbz
    exact (hmix y B0 z C b N N' hy hbx hnσ' hz' hbz).elim
   ·rw [hρ] at hbz
    rw [hold x hlt (hni x hnσ)] at hbx
    exact (hmix y' C0 x B b N' N hy' hbz hnσ hx' hbx).elim
   ·rw [hold x hlt (hni x hnσ)] at hbx
    rw [hold z hlt' (hni z hnσ')] at hbz
    exact he.disj x z B C b N N' hx' hz' hbx hbz
  ·intro a c hi
   exact hev.emb.imm a c (hev.le.imm a c (himm0 a c hi))
  ·intro a c x B N hi hx hbx
   rcases hget x B hx with ⟨y, B0, rfl, hy, hmv⟩ | ⟨hlt, hnσ, hx'⟩
   ·rw [hρ] at hbx
    exact hev.emb.sep a c y B0 N (hev.le.imm a c (himm0 a c hi)) hy hbx
   ·rw [hold x hlt (hni x hnσ)] at hbx
    exact he.sep a c x B N hi hx' hbx
 refine ⟨E', o', _, hK, ⟨hle, hemb', hev.size, hev.os, hev.tape, hev.output, fun b hb' hno => hkeep b hb' (fun x N hx hbx => ?_), ?_, fun _ _ h => h⟩, ?_⟩
 ·obtain ⟨B, hB⟩ := hm x hx
  exact hno ⟨x, B, N, hB, hbx⟩
 ·rintro b ⟨x, B, N, hx, hbx⟩
  rcases hget x B hx with ⟨y, B0, rfl, hy, hmv⟩ | ⟨hlt, hnσ, hx'⟩
  ·rw [hρ] at hbx
   rcases hev.own b ⟨y, B0, N, hy, hbx⟩ with ho | hs
   ·obtain ⟨z, M, h1, h2⟩ := hown0 b ho
    obtain ⟨D, hD⟩ := hm z h1
    exact .inl ⟨z, D, M, hD, h2⟩
   ·exact .inr hs
  ·rw [hold x hlt (hni x hnσ)] at hbx
   exact .inl ⟨x, B, N, hx', hbx⟩
 ·cases ho with
  | ret v v' hv => cases hor with
   | ret v r hr => exact .ret _ _ (Z2b (fun x q hq => by rw [hρ]; exact hq) _ _ _ hv hr)
  | panic v v' hv => cases hor with
   | panic v r hr => exact .panic _ _ (Z2b (fun x q hq => by rw [hρ]; exact hq) _ _ _ hv hr)
theorem Spec.fsumm {P : Program} {f : FuncId} {args : List AV} {σ : List Nat} {h : Z9} {d : Nat} {K0 : List Blk → List AV → Prop} {K : KO} (hl : frA σ h d args K0)
  (hK : ∀ Bs a₀, Bs.length = σ.length → K0 Bs a₀ → ∃ o nx bs o' bs', Spec P f a₀ ⟨σ.length, W5 0 σ Bs⟩ o nx bs ∧ σ.length ≤ nx ∧ MvO σ h.next o o' ∧ Z6M σ h.next bs bs' ∧ K o' ⟨h.next + (nx - σ.length), VR bs' (Uk σ h.bs)⟩) : Zo P f args h K := by
 obtain ⟨hm, hd, Bs, a, hK0, hlen, hx, ha⟩ := ZeG hl
 obtain ⟨o, nx, bs, o', bs', h1, h2, h3, h4, h5⟩ := hK Bs a hlen hK0
 exact Spec.calls h1 hlen hm hd hx ha h2 h3 h4 h5
end Go.Tk
end
section
namespace Go.Tk
open IntKind (i64 u8 u32 u64 wrap)
def Yv (id n l : Nat) (go ex re jm : Nat → Prop) (En Rn Jn : Nat → St) : KE → Prop := fun X =>
 ∀ i, i ≤ n → (∀ j, j < i → go j) → (ex i → X (.exit id) (En i)) ∧ (re i → X .ret (Rn i)) ∧ (jm i → X (.goto l) (Jn i))
theorem Zi {p x : Prop} [Decidable p] : Z0 (decide p) x False = (p ∧ x) := by
 by_cases h : p
 ·rw [decide_eq_true h]; simp [Z0, h]
 ·rw [decide_eq_false h]; simp [Z0, h]
theorem Zj {p x : Prop} [Decidable p] : Z0 (decide p) False x = (¬ p ∧ x) := by
 by_cases h : p
 ·rw [decide_eq_true h]; simp [Z0, h]
 ·rw [decide_eq_false h]; simp [Z0, h]
theorem Zk {p x y : Prop} [Decidable p] : Z0 (decide p) x y = ((p → x) ∧ (¬ p → y)) := by
 by_cases h : p
 ·rw [decide_eq_true h]; simp [Z0, h]
 ·rw [decide_eq_false h]; simp [Z0, h]
theorem Zl {b : Bool} {x : Prop} : Z0 b x False = (b = true ∧ x) := by cases b <;> simp [Z0]
theorem Zm {b : Bool} {x : Prop} : Z0 b False x = (b = false ∧ x) := by cases b <;> simp [Z0]
theorem Zh {b : Bool} {x y : Prop} : Z0 b x y = ((b = true → x) ∧ (b = false → y)) := by cases b <;> simp [Z0]
theorem Z8T {k : Nat} {τ : Ren} {v : AV} (hp : v.plain = true) (hc : v.isCell = true) {Z : Prop} (hZ : Z) : eqV k τ v v Z := by
 cases v with
 | ptr p => cases p <;> simp_all [AV.plain, eqV]
 | map r => cases r <;> simp_all [AV.plain, eqV]
 | _ => simp_all [AV.plain, eqV, U4, AV.isCell]
theorem Z3j {k : Nat} {τ : Ren} : ∀ {l : List AV}, Yi l = true → ∀ {Z : Prop}, Z → (∀ v ∈ l, v.isCell = true ∨ ∃ k n xs, v = .arr k n xs) → eqC k τ l l Z
 | [], _, Z, hZ, _ => by simp [eqC, hZ]
 | v :: r, hp, Z, hZ, hc => by
  simp only [Yi, Bool.and_eq_true] at hp
  have hr := Z3j (k := k) (τ := τ) hp.2 hZ (fun u hu => hc u (List.mem_cons_of_mem _ hu))
  rcases hc v (by simp) with hv | ⟨kk, n, xs, rfl⟩
  ·have hna : ∀ a b c, v ≠ .arr a b c := fun a b c e => by subst e; simp [AV.isCell] at hv
   cases v with
   | arr a b c => exact absurd rfl (hna a b c)
   | agg cs => simp [AV.isCell] at hv
   | tuple cs => simp [AV.isCell] at hv
   | _ => simp only [eqC, hv, Bool.and_self]; exact Z8T hp.1 hv hr
  ·unfold eqC
   simp [hr, Nat.beq_refl]
theorem Z3k {k : Nat} {τ : Ren} {n : Nat} {f f' : Nat → List AV} (h : ∀ i, i < n → f' i = f i) (hp : ∀ i, i < n → Yi (f i) = true) (hc : ∀ i, i < n → ∀ v ∈ f i, v.isCell = true ∨ ∃ k n xs, v = .arr k n xs) : Z8 k τ n f f' :=
 ⟨fun i hi => by rw [h i hi]; exact Z3j (hp i hi) trivial (hc i hi)⟩
theorem ZeH {a b : Nat} (h : a < b) : Nat.blt a b = true := by rw [Nat.blt_eq]; exact h
theorem ZeI {a b : Nat} (h : Nat.blt a b = true) : a < b := by rw [Nat.blt_eq] at h; exact h
theorem Z7I {n i : Nat} {f g : Nat → List AV} (h : i < n) : ZV n f g i = f i := by unfold ZV; rw [ZeH h]
theorem Z0Y {n i : Nat} {f g : Nat → List AV} (h : n ≤ i) : ZV n f g i = g (i - n) := by
 unfold ZV
 have : Nat.blt i n = false := by
  cases hq : Nat.blt i n with
  | false => rfl
  | true => have := ZeI hq; omega
 rw [this]
theorem ZH.vrows0 {P : Program} {f : FuncId} {esz : Nat} {g : Nat → List AV} {v : AV} {nx : Nat} {bs : List (Nat × Blk)} (h1 : ZH P f [.nilslice] v nx bs) (h2 : ZH P f [.fslice] v nx bs) : ZH P f [.vrows esz 0 g 0] v nx bs := by
 intro E w rs he hr
 cases hr with
 | cons v r vs rs hv ht => cases ht with
  | nil => cases hv with
   | vrowsNil esz n f len _ _ => exact h1 E w _ he (.cons _ _ _ _ .nilslice .nil)
   | vrows esz n f len a cap g _ _ _ _ _ => exact h2 E w _ he (.cons _ _ _ _ (.fslice a cap) .nil)
end Go.Tk
namespace Go.Tk
open IntKind (i64 u8 u32 u64 wrap)
mutual
theorem Q5 {mv : Option Nat} {h : Z9} : ∀ (d : Nat) (t : Bool) (v : AV) (K K' : AV → Prop), VQ mv h t d v K → (∀ a, K a → K' a) → VQ mv h t d v K'
 | 0, t, v, K, K', hl, hK => by unfold VQ at hl; exact hl.elim
 | d + 1, t, v, K, K', hl, hK => by
  unfold VQ at hl ⊢
  split at hl
  all_goals try exact hK _ hl
  all_goals try exact hl.elim
  ·split at hl
   ·split at hl
    ·exact hl.elim
    ·exact hK _ hl
   ·split at hl
    ·split at hl
     ·exact XP _ _ _ _ _ hl fun _ h => hK _ h
     ·exact hl.elim
    ·split at hl
     ·obtain ⟨h1, h2⟩ := Ze hl
      refine U4 h1 ?_
      split at h2
      ·exact XP _ _ _ _ _ h2 fun _ h => hK _ h
      ·exact h2.elim
     ·exact hl.elim
    ·exact hl.elim
  ·split at hl
   ·split at hl
    ·exact hl.elim
    ·exact hK _ hl
   ·split at hl
    ·split at hl
     ·obtain ⟨h1, h2⟩ := Ze hl
      exact U4 h1 (hK _ h2)
     ·exact hl.elim
    ·split at hl
     ·obtain ⟨h1, h2, h3⟩ := Ze hl
      exact U4 h1 ⟨h2, hK _ h3⟩
     ·exact hl.elim
    ·split at hl
     ·split at hl
      ·split at hl
       ·split at hl
        ·obtain ⟨h1, h2⟩ := Ze hl
         exact U4 h1 (hK _ h2)
        ·obtain ⟨h1, h2⟩ := Ze hl
         exact U4 h1 (hK _ h2)
        ·exact hl.elim
       ·exact hl.elim
      ·split at hl
       ·refine XP _ _ _ _ _ hl fun _ h => ?_
        split at h
        ·exact hK _ h
        ·exact h.elim
       ·exact hl.elim
     ·exact hl.elim
    ·exact hl.elim
  ·exact Zx _ _ _ _ _ hl fun _ h => Zx _ _ _ _ _ h fun _ h => hK _ h
  ·exact Q5 _ _ _ _ _ hl fun _ h => hK _ h
  ·exact XP _ _ _ _ _ hl fun _ h => hK _ h
  ·exact Zx _ _ _ _ _ hl fun _ h => hK _ h
theorem XP {mv : Option Nat} {h : Z9} : ∀ (d : Nat) (t : Bool) (l : List AV) (K K' : List AV → Prop), V1 mv h t d l K → (∀ a, K a → K' a) → V1 mv h t d l K'
 | 0, t, l, K, K', hl, hK => by unfold V1 at hl; exact hl.elim
 | d + 1, t, l, K, K', hl, hK => by
  unfold V1 at hl ⊢
  split at hl
  ·exact hK _ hl
  ·exact XP _ _ _ _ _ hl fun _ h => hK _ h
  ·refine Q5 _ _ _ _ _ hl fun _ h => ?_
   split at h
   ·exact XP _ _ _ _ _ h fun _ h => hK _ h
   ·exact h.elim
theorem Zx {mv : Option Nat} {h : Z9} : ∀ (d : Nat) (t : Bool) (l : List AV) (K K' : List AV → Prop), ZY mv h t d l K → (∀ a, K a → K' a) → ZY mv h t d l K'
 | 0, t, l, K, K', hl, hK => by unfold ZY at hl; exact hl.elim
 | d + 1, t, l, K, K', hl, hK => by
  unfold ZY at hl ⊢
  split at hl
  ·exact hK _ hl
  ·exact Q5 _ _ _ _ _ hl fun _ h => Zx _ _ _ _ _ h fun _ h => hK _ h
end
end Go.Tk
end
section
namespace Go.Tk
open IntKind (i64 u8 u32 u64 wrap)
def ZeJ (g : Nat → InS) : Nat → List AV := fun q => (g q).c
def Zch (g : Nat → Z01) : Nat → List AV := fun q => (g q).c
theorem InS.cells (x : InS) : ∀ v ∈ x.c, v.isCell = true ∨ ∃ k n xs, v = .arr k n xs := by simp [InS.c, AV.isCell]
theorem Z01.cells (x : Z01) : ∀ v ∈ x.c, v.isCell = true ∨ ∃ k n xs, v = .arr k n xs := by simp [Z01.c, AV.isCell]
end Go.Tk
end
section
namespace Go.Tk
open IntKind (i64 u8 u32 u64 wrap)
end Go.Tk
end
section
namespace Go.Tk
open IntKind (i64 u8 u32 u64 wrap)
end Go.Tk
end
section
namespace Go.Tk
open IntKind (i64 u8 u32 u64 wrap)
end Go.Tk
end
section
namespace Go.Tk
open IntKind (i64 u8 u32 u64 wrap)
end Go.Tk
end
section
namespace Go.Tk
open IntKind (i64 u8 u32 u64 wrap)
theorem Zf.rows0 {E : Env} {esz : Nat} {f : Nat → List AV} {r : Value} {a : Option Addr} {c : Nat} (h : r = .slice a 0 c) (hc : a = none → c = 0) : Zf E (.vrows esz 0 f 0) r := by
 subst h
 cases a with
 | none => rw [hc rfl]; exact .vrowsNil _ _ _ _ rfl rfl
 | some a => exact .vrows _ _ _ _ a c (fun _ => []) (Nat.le_refl _) (Nat.zero_le _) (fun i h => by omega) (fun i h => by omega) (fun i j c h => by omega)
theorem Zf.rowsC {E : Env} {esz n : Nat} {f f' : Nat → List AV} {r : Value} (h : Zf E (.vrows esz n f n) r) (hf : ∀ i, i < n → f i = f' i) : Zf E (.vrows esz n f' n) r := by
 cases h with
 | vrowsNil esz n f len h1 h2 => exact .vrowsNil _ _ _ _ h1 h2
 | vrows esz n f len a cap g h1 h2 hc hl hi => exact .vrows _ _ _ _ a cap g h1 h2 (fun i h => by rw [← hf i h]; exact hc i h) hl hi
structure TxS where
 num : Int
 N : Nat
 ins : Nat → InS
 M : Nat
 outs : Nat → Z01
def TxS.c (t : TxS) : List AV := [.int .i64 t.num, .vrows 130 t.N (ZeJ t.ins) t.N, .vrows 132 t.M (Zch t.outs) t.M]
structure TxS.Ok (t : TxS) : Prop where
 n : t.N < 900000000000
 m : t.M < 900000000000
 ins : ∀ i, i < t.N → (t.ins i).Ok
 outs : ∀ i, i < t.M → (t.outs i).Ok
theorem ZH.conv {P : Program} {f : FuncId} {args args₀ : List AV} {v : AV} {nx : Nat} {bs : List (Nat × Blk)} (h : ZH P f args₀ v nx bs) (hc : ∀ E r, ZA E args r → ZA E args₀ r) : ZH P f args v nx bs :=
 fun E w rs he hr => h E w rs he (hc E rs hr)
theorem ZA.head {E : Env} {v v' : AV} {r l : List AV} {rs : List Value} (h : ZA E (v :: l) rs) (hv : ∀ c, Zf E v c → Zf E v' c) (ht : ∀ cs, ZA E l cs → ZA E r cs) : ZA E (v' :: r) rs := by
 cases h with
 | cons v c vs cs h t => exact .cons _ _ _ _ (hv c h) (ht cs t)
end Go.Tk
end
section
namespace Go.Tk
open IntKind (i64 u8 u32 u64 wrap)
def Zan (k : Nat) (τ : Ren) (y x : Nat) : Ren := match Nat.blt y k with
 | true => τ
 | false => match Z6x τ y with
  | some _ => τ
  | none => (y, x) :: τ
mutual
def ZeK (k : Nat) (τ : Ren) : AV → AV → Ren
 | .ptr (some q), v => match v with | .ptr (some p) => Zan k τ q.blk p.blk | _ => τ
 | .nslice q _ _ _, v => match v with | .nslice p _ _ _ => Zan k τ q.blk p.blk | _ => τ
 | .map (some y), v => match v with | .map (some x) => Zan k τ y x | _ => τ
 | .yield y, v => match v with | .yield x => Zan k τ y x | _ => τ
 | .func _ fs cs, v => match v with | .func _ fs' cs' => Z4k k (Z4k k τ fs fs') cs cs' | _ => τ
 | .iface _ u, v => match v with | .iface _ u' => ZeK k τ u u' | _ => τ
 | .agg cs, v => match v with | .agg cs' => Z4k k τ cs cs' | _ => τ
 | .tuple cs, v => match v with | .tuple cs' => Z4k k τ cs cs' | _ => τ
 | _, _ => τ
def Z4k (k : Nat) (τ : Ren) : List AV → List AV → Ren
 | [], _ => τ
 | v :: r, l => match l with | v' :: r' => Z4k k (ZeK k τ v v') r r' | [] => τ
end
def Zhp (k : Nat) (τ : Ren) : Blk → Blk → Ren
 | .flat cs, B => match B with | .flat cs' => Z4k k τ cs cs' | _ => τ
 | .map es, B => match B with | .map es' => Z4k k (Z4k k τ (es.map (·.1)) (es'.map (·.1))) (es.map (·.2)) (es'.map (·.2)) | _ => τ
 | _, _ => τ
def ZfS (k : Nat) (t : Y7) : Y7 → Ren → Ren
 | [], τ => τ
 | (x, v) :: r, τ => ZfS k t r (match ZQ t x with | some u => ZeK k τ v u | none => τ)
def ZeL (k : Nat) : List VI → List VI → Ren → Ren
 | .call _ a :: r, l, τ => match l with | .call _ b :: r' => ZeL k r r' (Z4k k τ a b) | _ => τ
 | .mark y :: r, l, τ => match l with | .mark x :: r' => ZeL k r r' (Zan k τ y x) | _ => τ
 | [], _, τ => τ
def Zci (k : Nat) (bs : List (Nat × Blk)) : List (Nat × Blk) → Ren → Ren
 | [], τ => τ
 | (y, B) :: r, τ => Zci k bs r (match rn k τ y with
  | some x => match ZF bs x with | some C => Zhp k τ B C | none => τ
  | none => τ)
def Zhq (k : Nat) (s₂ s : St) : Ren := Zci k s.h.bs s₂.h.bs (Zci k s.h.bs s₂.h.bs (Zci k s.h.bs s₂.h.bs (ZeL k s₂.d s.d (ZfS k s.t s₂.t []))))
def Z0o (k : Nat) (s₂ s : St) (Z : Prop) : Prop := VO k (Zhq k s₂ s) s₂ s Z
theorem VU {k : Nat} {s₂ s : St} {Z : Prop} (hl : Z0o k s₂ s Z) : Z ∧ Z23 k s s₂ := XA hl
def YQ (k : Nat) (o : Out) (nx : Nat) (bs : List (Nat × Blk)) : KO := fun o' h => match o with
 | .ret v => match o' with
  | .ret u => Z0o k ⟨1, [(0, v)], ⟨nx, bs⟩, []⟩ ⟨1, [(0, u)], h, []⟩ True
  | .panic _ => False
 | .panic v => match o' with
  | .panic u => Z0o k ⟨1, [(0, v)], ⟨nx, bs⟩, []⟩ ⟨1, [(0, u)], h, []⟩ True
  | .ret _ => False
theorem Spec.evM {G : Zg} (hG : G.Ok) {n : Nat} {f : FuncId} {args : List AV} {h0 : Z9} {o : Out} {nx : Nat} {bs : List (Nat × Blk)} (h : evF G n f args h0 (YQ h0.next o nx bs)) : Spec G.P f args h0 o nx bs := by
 intro E w rs he hl
 refine (QS hG h E w rs he hl).mono ?_
 rintro e w' ⟨E', o', h', hK, hev, hor⟩
 unfold YQ at hK
 cases o with
 | ret v =>
  cases hor with
  | ret u r hr =>
   obtain ⟨E₂, h1, h2⟩ := Z7H rfl hK he hev hr
   exact ⟨E₂, h1, .ret _ _ h2⟩
  | panic u r hr => exact hK.elim
 | panic v =>
  cases hor with
  | panic u r hr =>
   obtain ⟨E₂, h1, h2⟩ := Z7H rfl hK he hev hr
   exact ⟨E₂, h1, .panic _ _ h2⟩
  | ret u r hr => exact hK.elim
theorem Spec.pure {P : Program} {f : FuncId} {args : List AV} {v : AV} {nx : Nat} {bs : List (Nat × Blk)} (h : Spec P f args ⟨0, []⟩ (.ret v) nx bs) : ZH P f args v nx bs := by
 intro E w rs he hl
 refine (h E w rs he hl).mono ?_
 rintro e w' ⟨E', hev, hor⟩
 cases hor with
 | ret v r hr => exact ⟨E', r, rfl, hev, hr⟩
theorem ZH.evM {G : Zg} (hG : G.Ok) {n : Nat} {f : FuncId} {args : List AV} {v : AV} {nx : Nat} {bs : List (Nat × Blk)} (h : evF G n f args ⟨0, []⟩ (YQ 0 (.ret v) nx bs)) : ZH G.P f args v nx bs := (Spec.evM hG h).pure
def goM (k : Nat) (S0 : St) (C : Prop) (ends : KE → Prop) : Nat → St → KE → Prop := fun k' s X => match Nat.beq k' k with
 | true => Z0o k S0 s (C ∧ ends X)
 | false => False
def rdM (k id l : Nat) (S1 En Rn Jn : St) (go ex re jm : Prop) : KE := fun e s => match e with
 | .normal => Z0o k S1 s go
 | .exit x => (match Nat.beq x id with | true => Z0o k En s ex | false => False)
 | .ret => Z0o k Rn s re
 | .goto x => (match Nat.beq x l with | true => Z0o k Jn s jm | false => False)
 | .panic _ => False
theorem Zg.withGoM {G : Zg} (hG : G.Ok) {f : FuncId} {id k N n l : Nat} {S En Rn Jn : Nat → St} {S0 : St} {C : Prop} {go ex re jm : Nat → Prop} (h1 : Qq G.P f id = true) (hC : C → S 0 = S0 ∧
   ∀ i, i ≤ n → (∀ j, j < i → go j) → ZI G N f id k (S i) (rdM k id l (S (i + 1)) (En i) (Rn i) (Jn i) (go i ∧ i < n) (ex i) (re i) (jm i))) :
  (G.withL f id (goM k S0 C (Yv id n l go ex re jm En Rn Jn))).Ok := by
 refine Zg.withL_ok hG h1 ?_
 intro k' s X hl
 unfold goM at hl
 split at hl
 ·rename_i hk
  have := Nat.eq_of_beq_eq_true hk
  subst this
  obtain ⟨⟨hc, hX⟩, hw⟩ := VU hl
  obtain ⟨e0, hr⟩ := hC hc
  refine ⟨{ t : Nat // t ≤ n ∧ ∀ j, j < t → go j }, fun t => n - t.1, fun t => S t.1, ⟨0, Nat.zero_le _, fun j hj => by omega⟩, N, by show Z23 k' s (S 0); rw [e0]; exact hw, ?_⟩
  rintro ⟨t, ht, hgo⟩
  refine ⟨_, hr t ht hgo, ?_⟩
  intro e s' hY
  unfold rdM at hY
  split at hY
  ·obtain ⟨⟨hg, hlt⟩, hw'⟩ := VU hY
   refine ⟨⟨t + 1, hlt, fun j hj => ?_⟩, by show n - (t + 1) < n - t; omega, hw'⟩
   by_cases hjt : j = t
   ·rw [hjt]; exact hg
   ·exact hgo j (by omega)
  ·split at hY
   ·rename_i hi
    have := Nat.eq_of_beq_eq_true hi
    subst this
    obtain ⟨hex, hw'⟩ := VU hY
    exact ⟨_, hw', (hX t ht hgo).1 hex⟩
   ·exact hY.elim
  ·obtain ⟨hre, hw'⟩ := VU hY
   exact ⟨_, hw', (hX t ht hgo).2.1 hre⟩
  ·split at hY
   ·rename_i hi
    have := Nat.eq_of_beq_eq_true hi
    subst this
    obtain ⟨hjm, hw'⟩ := VU hY
    exact ⟨_, hw', (hX t ht hgo).2.2 hjm⟩
   ·exact hY.elim
  ·exact hY.elim
 ·exact hl.elim
end Go.Tk
namespace Go.Tk
open IntKind (i64 u8 u32 u64 wrap)
theorem Zg.withL_join {G H : Zg} (hG : G.Ok) (hP : G.P = H.P) {f : FuncId} {id : Nat} {S : Nat → St → KE → Prop} (h : (H.withL f id S).Ok) : (G.withL f id S).Ok where
 draw := hG.draw
 psumm := hG.psumm
 fsumm := hG.fsumm
 lsumm := fun f' id' S' fn c body hS hf hb hm k s X hs => by
  have hS0 := hS
  simp only [Zg.withL] at hS
  split at hS
  ·have := h.lsumm f' id' S' fn c body
   simp only [Zg.withL] at this
   rename_i hq
   rw [hq] at this
   have := this hS (hP ▸ hf) hb hm k s X hs
   rw [← hP] at this
   exact this
  ·exact hG.lsumm f' id' S' fn c body hS hf hb hm k s X hs
end Go.Tk
end
section
namespace Go.Tk
open IntKind (i64 u8 u32 u64 wrap)
end Go.Tk
end
section
namespace Go.Tk
open IntKind (i64 u8 u32 u64 wrap)
end Go.Tk
end
section
namespace Go.Tk
open IntKind (i64 u8 u32 u64 wrap)
end Go.Tk
end
section
namespace Go.Tk
open IntKind (i64 u8 u32 u64 wrap)
end Go.Tk
end
section
namespace Go.Tk
open IntKind (i64 u8 u32 u64 wrap)
end Go.Tk
end
section
namespace Go.Tk
open IntKind (i64 u8 u32 u64 wrap)
end Go.Tk
end
section
namespace Go.Tk
open IntKind (i64 u8 u32 u64 wrap)
end Go.Tk
end
section
namespace Go.Tk
open IntKind (i64 u8 u32 u64 wrap)
mutual
/-- Without names; views may be. -/
def AV.vplain : AV → Bool
 | .top | .bool _ | .int _ _ | .str _ | .ptr none | .eslice | .fslice | .nilslice | .map none | .nilFunc | .nilIface | .arr _ _ _ => true
 | .vints _ _ _ | .vrows _ _ _ _ | .pview _ _ => true
 | .agg cs => Wb cs
 | .tuple cs => Wb cs
 | .iface _ v => v.vplain
 | _ => false
def Wb : List AV → Bool
 | [] => true
 | v :: r => v.vplain && Wb r
end
mutual
theorem Zf.vplain {E E' : Env} (hi : ∀ a c, E.imm a c → E'.imm a c) : ∀ (v : AV) (r : Value), v.vplain = true → Zf E v r → Zf E' v r
 | .top, r, _, _ => .top r
 | .bool b, r, _, h => h.plain rfl
 | .int k n, r, _, h => h.plain rfl
 | .str s, r, _, h => h.plain rfl
 | .ptr none, r, _, h => h.plain rfl
 | .eslice, r, _, h => h.plain rfl
 | .fslice, r, _, h => h.plain rfl
 | .nilslice, r, _, h => h.plain rfl
 | .map none, r, _, h => h.plain rfl
 | .nilFunc, r, _, h => h.plain rfl
 | .nilIface, r, _, h => h.plain rfl
 | .arr k n xs, r, _, h => h.plain rfl
 | .ptr (some p), r, hp, _ => by simp [AV.vplain] at hp
 | .nslice p a b c, r, hp, _ => by simp [AV.vplain] at hp
 | .map (some x), r, hp, _ => by simp [AV.vplain] at hp
 | .func a b c, r, hp, _ => by simp [AV.vplain] at hp
 | .yield x, r, hp, _ => by simp [AV.vplain] at hp
 | .pview cs inn, r, _, h => by
  cases h with
  | pview cs inn a vs hc hq => exact .pview cs inn a vs (Zr.mono (⟨fun _ _ h => by simp [Env.views] at h, hi⟩ : E.views.le E'.views) hc) (fun j c h => hi _ _ (hq j c h))
 | .vints k xs len, r, _, h => by
  cases h with
  | vintsNil k xs len h1 h2 => exact .vintsNil k xs len h1 h2
  | vints k xs len a cap h1 h2 hq => exact .vints k xs len a cap h1 h2 (fun i h => hi _ _ (hq i h))
 | .vrows esz n f len, r, _, h => by
  cases h with
  | vrowsNil esz n f len h1 h2 => exact .vrowsNil esz n f len h1 h2
  | vrows esz n f len a cap g h1 h2 hc hl hq => exact .vrows esz n f len a cap g h1 h2 (fun i h => Zr.mono (⟨fun _ _ h => by simp [Env.views] at h, hi⟩ : E.views.le E'.views) (hc i h)) hl (fun i j c h h' => hi _ _ (hq i j c h h'))
 | .iface t v, r, hp, h => by
  cases h with
  | iface t v x hx => exact .iface t v x (Zf.vplain hi v x (by simpa [AV.vplain] using hp) hx)
 | .agg cs, r, hp, h => by
  cases h with
  | agg cs vs hc => exact .agg cs vs (Zr.vplain hi cs vs (by simpa [AV.vplain] using hp) hc)
 | .tuple cs, r, hp, h => by
  cases h with
  | tuple _ rs hc => exact .tuple _ rs (ZA.vplain hi cs rs (by simpa [AV.vplain] using hp) hc)
theorem Zr.vplain {E E' : Env} (hi : ∀ a c, E.imm a c → E'.imm a c) : ∀ (l : List AV) (r : List Value), Wb l = true → Zr E l r → Zr E' l r
 | [], r, _, h => by cases h; exact .nil
 | v :: l, r, hp, h => by
  simp only [Wb, Bool.and_eq_true] at hp
  cases h with
  | one v c vs cs h0 h1 hv t => exact .one v c _ cs h0 h1 (Zf.vplain hi v c hp.1 hv) (Zr.vplain hi l cs hp.2 t)
  | arr k n xs vs cs t => exact .arr k n xs _ cs (Zr.vplain hi l cs hp.2 t)
theorem ZA.vplain {E E' : Env} (hi : ∀ a c, E.imm a c → E'.imm a c) : ∀ (l : List AV) (r : List Value), Wb l = true → ZA E l r → ZA E' l r
 | [], r, _, h => by cases h; exact .nil
 | v :: l, r, hp, h => by
  simp only [Wb, Bool.and_eq_true] at hp
  cases h with
  | cons v c vs cs hv t => exact .cons v c _ cs (Zf.vplain hi v c hp.1 hv) (ZA.vplain hi l cs hp.2 t)
end
def Yp (R : AV → Prop) : KO := fun o _ => match o with
 | .ret u => (match u.vplain with | true => R u | false => False)
 | .panic _ => False
theorem Z6N {P : Program} {f : FuncId} {args : List AV} {h : Z9} {R : AV → Prop} {K : AV → Prop} (hp : Wb args = true) (hc : Zo P f args ⟨0, []⟩ (Yp R)) (hK : ∀ u, R u → K u) :
  Zo P f args h fun o h' => ∃ v, o = .ret v ∧ h' = h ∧ K v := by
 intro E w rs he hr
 have hemb : Emb E.views ⟨0, []⟩ w :=
  ⟨fun x _ => rfl, fun x B h => by simp [Z9.get, ZF] at h, fun x B h => by simp [Z9.get, ZF] at h, fun x y B B' b N N' h => by simp [Z9.get, ZF] at h, he.imm, fun a c x B N _ h => by simp [Z9.get, ZF] at h⟩
 refine (hc E.views w rs hemb (ZA.vplain (E := E) (E' := E.views) (fun _ _ h => h) _ _ hp hr)).mono ?_
 rintro e w' ⟨E₁, o, h', hK0, hev, hor⟩
 cases hor with
 | panic u r hr => exact hK0.elim
 | ret u r hr =>
  unfold Yp at hK0
  simp only at hK0
  split at hK0
  ·rename_i hu
   have hkeep : ∀ b, b < w.heap.size → w'.heap[b]? = w.heap[b]? := fun b hb => hev.keep b hb (fun ⟨x, B, N, hx, _⟩ => by simp [Z9.get, ZF] at hx)
   have hemb' : Emb E h w' := by
    refine ⟨he.fresh, he.lt, fun x B hx => (he.own x B hx).congr fun b N hb => hkeep b ((he.own x B hx).lt hb), he.disj, fun a c hi => ?_, he.sep⟩
    have hcc := he.imm a c hi
    have hlt : a.block < w.heap.size := by
     rcases Nat.lt_or_ge a.block w.heap.size with hl | hg
     ·exact hl
     ·simp [World.cell?, Array.getElem?_eq_none hg] at hcc
    simpa [World.cell?, hkeep _ hlt] using hcc
   exact ⟨E, .ret u, h, ⟨u, rfl, rfl, hK u hK0⟩, ⟨.refl E, hemb', hev.size, hev.os, hev.tape, hev.output, fun b hb _ => hkeep b hb, fun b ho => .inl ho, fun _ _ h => h⟩, .ret _ _ (Zf.vplain (E := E₁) (E' := E) (fun a c hi => hev.imm a c hi) _ _ hu hr)⟩
  ·exact hK0.elim
theorem Yf {G : Zg} (hG : G.Ok) {n : Nat} {f : FuncId} {args : List AV} {h : Z9} {R : AV → Prop} {K : AV → Prop} (hp : Wb args = true) (hc : evF G n f args ⟨0, []⟩ (Yp R)) (hK : ∀ u, R u → K u) :
  Zo G.P f args h fun o h' => ∃ v, o = .ret v ∧ h' = h ∧ K v := Z6N hp (QS hG hc) hK
end Go.Tk
end
section
namespace Go.Tk
open IntKind (i64 u8 u32 u64 wrap)
def orL (b : St → Bool) (S1 S2 : Nat → St → KE → Prop) : Nat → St → KE → Prop := fun k s X => match b s with
 | true => S1 k s X
 | false => S2 k s X
theorem Zg.withL_or {G : Zg} (hG : G.Ok) {f : FuncId} {id : Nat} {b : St → Bool} {S1 S2 : Nat → St → KE → Prop} (h1 : (G.withL f id S1).Ok) (h2 : (G.withL f id S2).Ok) : (G.withL f id (orL b S1 S2)).Ok where
 draw := hG.draw
 psumm := hG.psumm
 fsumm := hG.fsumm
 lsumm := fun f' id' S' fn c body hS hf hb hm k s X hs => by
  have hS0 := hS
  simp only [Zg.withL] at hS
  split at hS
  ·rename_i hq
   cases hS
   unfold orL at hs
   have a1 := h1.lsumm f' id' S1 fn c body
   have a2 := h2.lsumm f' id' S2 fn c body
   simp only [Zg.withL, hq] at a1 a2
   split at hs
   ·exact a1 trivial hf hb hm k s X hs
   ·exact a2 trivial hf hb hm k s X hs
  ·exact hG.lsumm f' id' S' fn c body hS hf hb hm k s X hs
end Go.Tk
end
section
namespace Go.Tk
open IntKind (i64 u8 u32 u64 wrap)
inductive Ty where
 | bool
 | int (k : IntKind)
 | str
 | arr (k : IntKind) (n : Nat)
 | ints (k : IntKind)
 | rows (esz : Nat) (ts : List Ty)
def Zao (P : Program) (r : TypeId → Option (List Ty)) (sz : Nat) : Nat → List Field → Option (List Ty)
 | o, [] => if o = sz then some [] else none
 | o, f :: fs => if f.offset = o then (r f.type).bind fun a => (Zao P r sz (o + P.cellsOf f.type) fs).bind fun b => some (a ++ b) else none
def Z0I (P : Program) : Nat → TypeId → Option (List Ty)
 | 0, _ => none
 | m + 1, t => match P.underlying t with
  | some .bool => some [.bool]
  | some (.int k) => some [.int k]
  | some .string => some [.str]
  | some (.array n e) => match P.underlying e with
   | some (.int k) => if P.cellsOf t = n ∧ P.cellsOf e = 1 then some [.arr k n] else none
   | _ => (Z0I P m e).bind fun ts => if P.cellsOf t = n * P.cellsOf e then some (List.replicate n ts).flatten else none
  | some (.slice e) => match P.underlying e with
   | some (.int k) => if P.cellsOf e = 1 then some [.ints k] else none
   | _ => (Z0I P m e).bind fun ts => some [.rows (P.cellsOf e) ts]
  | some (.struct fs) => Zao P (Z0I P m) (P.cellsOf t) 0 fs.toList
  | _ => none
mutual
inductive Z0p : Ty → AV → Prop
 | bool (b : Bool) : Z0p .bool (.bool b)
 | int (k : IntKind) (n : Int) (h : (Lit.int k n).wf = true) : Z0p (.int k) (.int k n)
 | str (s : ByteArray) (h : s.size ≤ maxLen) : Z0p .str (.str s)
 | arr (k : IntKind) (n : Nat) (xs : List Int) (h : xs.length = n) (hw : ∀ i, i < n → (Lit.int k (xs.getD i 0)).wf = true) : Z0p (.arr k n) (.arr k n xs)
 | ints (k : IntKind) (xs : List Int) (n : Nat) (h : xs.length = n) (hm : n ≤ maxLen) (hw : ∀ i, i < n → (Lit.int k (xs.getD i 0)).wf = true) : Z0p (.ints k) (.vints k xs n)
 | rows (esz : Nat) (ts : List Ty) (n : Nat) (f : Nat → List AV) (hm : n ≤ maxLen) (h : ∀ i, i < n → Fits ts (f i)) : Z0p (.rows esz ts) (.vrows esz n f n)
inductive Fits : List Ty → List AV → Prop
 | nil : Fits [] []
 | cons (t : Ty) (a : AV) (ts : List Ty) (vz : List AV) (h : Z0p t a) (r : Fits ts vz) : Fits (t :: ts) (a :: vz)
end
theorem Fits.append : ∀ {ts wz : List Ty} {vz bs : List AV}, Fits ts vz → Fits wz bs → Fits (ts ++ wz) (vz ++ bs)
 | _, _, _, _, .nil, h => h
 | _, _, _, _, .cons t a ts vz h r, k => .cons t a _ _ h (Fits.append r k)
def tE (w : World) : Env := ⟨fun _ => none, fun a c => w.cell? a = some c⟩
section
variable {H : Type} {enc : TypeId × Value → H} {P : Program} {w : World} {sp : Nat → Bool} {held : Bool}
theorem UJ {k : IntKind} {n : Nat} {cs : List Value} (hl : cs.length = n) (h : ∀ i, i < n → ∃ z, cs[i]? = some (.int k z) ∧ (Lit.int k z).wf = true) :
  ∃ xs : List Int, xs.length = n ∧ (∀ i, i < n → (Lit.int k (xs.getD i 0)).wf = true) ∧ ∀ i, i < n → cs[i]? = some (.int k (xs.getD i 0)) := by
 refine ⟨cs.map fun v => match v with | .int _ z => z | _ => 0, by simp [hl], fun i hi => ?_, fun i hi => ?_⟩
 ·obtain ⟨z, h1, h2⟩ := h i hi
  rw [List.getD_eq_getElem?_getD, List.getElem?_map, h1]
  exact h2
 ·obtain ⟨z, h1, h2⟩ := h i hi
  rw [List.getD_eq_getElem?_getD, List.getElem?_map, h1]
  rfl
theorem Zcj {α β : Type} {n : Nat} {p : Nat → α → β → Prop} [Inhabited α] [Inhabited β] (h : ∀ i, i < n → ∃ a b, p i a b) : ∃ (f : Nat → α) (g : Nat → β), ∀ i, i < n → p i (f i) (g i) :=
 ⟨fun i => if hi : i < n then Classical.choose (h i hi) else default, fun i => if hi : i < n then Classical.choose (Classical.choose_spec (h i hi)) else default, fun i hi => by
  simp only [hi, dite_true]
  exact Classical.choose_spec (Classical.choose_spec (h i hi))⟩
theorem Z0Z : ∀ (m : Nat) (t : TypeId) (ts : List Ty), Z0I P m t = some ts → ∀ (fuel : Nat) (cs : List Value) (x : DataW H × List MemPlace), DataW.trod enc P w 0 sp held fuel t cs = some x → ∃ vz, Fits ts vz ∧ Zr (tE w) vz cs
 | 0, _, _, ht => by simp [Z0I] at ht
 | m + 1, t, ts, ht => by
  intro fuel cs x hx
  unfold Z0I at ht
  split at ht
  ·rename_i hu
   cases ht
   obtain ⟨b, rfl, _⟩ := DataW.trod_bool hu hx
   exact ⟨[.bool b], .cons _ _ _ _ (.bool b) .nil, .one _ _ _ _ rfl rfl (.bool b) .nil⟩
  ·rename_i k hu
   cases ht
   obtain ⟨n, rfl, _, hw⟩ := DataW.trod_int hu hx
   exact ⟨[.int k n], .cons _ _ _ _ (.int k n hw) .nil, .one _ _ _ _ rfl rfl (.int k n) .nil⟩
  ·rename_i hu
   cases ht
   obtain ⟨s, rfl, _, hw⟩ := DataW.trod_string hu hx
   exact ⟨[.str s], .cons _ _ _ _ (.str s hw) .nil, .one _ _ _ _ rfl rfl (.str s) .nil⟩
  ·rename_i n e hu
   split at ht
   ·rename_i k he
    split at ht
    ·rename_i hc
     obtain ⟨hc, h1⟩ := hc
     cases ht
     obtain ⟨xs, q, rfl, rfl, hl, hn, hi⟩ := DataW.trod_array hu hx
     rw [hc] at hl
     obtain ⟨zs, z1, z2, z3⟩ := UJ (k := k) hl fun i hlt => by
      have := hi i hlt
      rw [List.getElem?_eq_getElem (by omega), h1] at this
      obtain ⟨z, e1, _, e2⟩ := DataW.trod_int he this
      refine ⟨z, ?_, e2⟩
      rw [Nat.mul_one] at e1
      have := congrArg (fun l => l[0]?) e1
      simpa using this
     refine ⟨[.arr k n zs], .cons _ _ _ _ (.arr k n zs z1 z2) .nil, ?_⟩
     have : cs = intCells k n zs ++ [] := by
      rw [List.append_nil]
      refine List.ext_getElem? fun i => ?_
      by_cases hlt : i < n
      ·rw [z3 i hlt]
       simp [intCells, hlt]
      ·rw [List.getElem?_eq_none (by omega), List.getElem?_eq_none (by rw [Z7]; omega)]
     rw [this]
     exact .arr _ _ _ _ _ .nil
    ·cases ht
   ·obtain ⟨es, e1, e2⟩ := Option.bind_eq_some_iff.1 ht
    split at e2
    ·rename_i hc
     cases e2
     obtain ⟨xs, q, rfl, rfl, hl, hn, hi⟩ := DataW.trod_array hu hx
     rw [hc] at hl
     have key : ∀ j, j ≤ n → ∃ vz, Fits (List.replicate j es).flatten vz ∧ Zr (tE w) vz (cs.take (j * P.cellsOf e)) := by
      intro j
      induction j with
      | zero => intro _; exact ⟨[], .nil, by simp; exact .nil⟩
      | succ j ih =>
       intro hj
       obtain ⟨vz, f1, f2⟩ := ih (by omega)
       have := hi j (by omega)
       rw [List.getElem?_eq_getElem (by omega)] at this
       obtain ⟨bs, p1, p2⟩ := Z0Z m _ _ e1 _ _ _ this
       refine ⟨vz ++ bs, ?_, ?_⟩
       ·rw [List.replicate_succ', List.flatten_append, List.flatten_singleton]
        exact f1.append p1
       ·rw [Nat.succ_mul, List.take_add]
        exact f2.append p2
     obtain ⟨vz, f1, f2⟩ := key n (Nat.le_refl _)
     rw [List.take_of_length_le (by omega)] at f2
     exact ⟨vz, f1, f2⟩
    ·cases e2
  ·rename_i e hu
   split at ht
   ·rename_i k he
    split at ht
    ·rename_i hc
     cases ht
     rcases DataW.trod_slice hu hx with ⟨rfl, _⟩ | ⟨a, len, cap, elems, rest, n, rfl, rfl, _, _, hl, hm, hlen, hi, _, _⟩
     ·exact ⟨[.vints k [] 0], .cons _ _ _ _ (.ints k [] 0 rfl (Nat.zero_le _) fun i hi => absurd hi (Nat.not_lt_zero i)) .nil, .one _ _ _ _ rfl rfl (.vintsNil _ _ _ rfl rfl) .nil⟩
     ·obtain ⟨zs, z1, z2, z3⟩ := UJ (k := k) (n := len) (cs := (List.range len).map fun i => (w.cell? (a.add i)).getD undef) (by simp) fun i hlt => by
       have := hi i hlt
       rw [List.getElem?_eq_getElem (by omega), hc, Nat.mul_one] at this
       obtain ⟨cs', h1, h2⟩ := Option.bind_eq_some_iff.1 this
       obtain ⟨z, rfl, _, e2⟩ := DataW.trod_int he h2
       refine ⟨z, ?_, e2⟩
       simp [hlt, Go.ChangeShapes.cell_of_cells?_one h1]
      refine ⟨[.vints k zs len], .cons _ _ _ _ (.ints k zs len z1 (by omega) z2) .nil, .one _ _ _ _ rfl rfl (.vints k zs len a cap (by omega) (by omega) fun i hlt => ?_) .nil⟩
      rw [z1] at hlt
      have := hi i hlt
      rw [List.getElem?_eq_getElem (by omega), hc, Nat.mul_one] at this
      obtain ⟨cs', h1, h2⟩ := Option.bind_eq_some_iff.1 this
      obtain ⟨z, rfl, _, e2⟩ := DataW.trod_int he h2
      have h3 := z3 i hlt
      have h4 := Go.ChangeShapes.cell_of_cells?_one h1
      simp [hlt, h4] at h3
      show w.cell? (a.add i) = _
      rw [h4, h3, List.getD_eq_getElem?_getD]
    ·cases ht
   ·obtain ⟨es, h1, h2⟩ := Option.bind_eq_some_iff.1 ht
    cases h2
    rcases DataW.trod_slice hu hx with ⟨rfl, _⟩ | ⟨a, len, cap, elems, rest, n, rfl, rfl, _, _, hl, hm, hlen, hi, _, _⟩
    ·exact ⟨[.vrows (P.cellsOf e) 0 (fun _ => []) 0], .cons _ _ _ _ (.rows _ _ 0 _ (Nat.zero_le _) fun i hi => absurd hi (Nat.not_lt_zero i)) .nil, .one _ _ _ _ rfl rfl (.vrowsNil _ _ _ _ rfl rfl) .nil⟩
    ·obtain ⟨f, g, hfg⟩ := Zcj (n := len) (p := fun i (vz : List AV) (vs : List Value) => Fits es vz ∧ Zr (tE w) vz vs ∧ w.cells? 0 (a.add (i * P.cellsOf e)) (P.cellsOf e) = some vs) fun i hlt => by
      have := hi i hlt
      rw [List.getElem?_eq_getElem (by omega)] at this
      obtain ⟨cs', k1, k2⟩ := Option.bind_eq_some_iff.1 this
      obtain ⟨vz, f1, f2⟩ := Z0Z m _ _ h1 _ _ _ k2
      exact ⟨vz, cs', f1, f2, k1⟩
     refine ⟨[.vrows (P.cellsOf e) len f len], .cons _ _ _ _ (.rows _ _ len f (by omega) fun i hlt => (hfg i hlt).1) .nil, .one _ _ _ _ rfl rfl (.vrows _ _ _ _ a cap g (Nat.le_refl _) hl (fun i hlt => (hfg i hlt).2.1) (fun i hlt => (World.cells?_some (hfg i hlt).2.2).2.1) fun i j c hlt hj => ?_) .nil⟩
     obtain ⟨_, hl', hc'⟩ := World.cells?_some (hfg i hlt).2.2
     have hj' : j < P.cellsOf e := by
      rcases Nat.lt_or_ge j (P.cellsOf e) with h | h
      ·exact h
      ·rw [List.getElem?_eq_none (by omega)] at hj; cases hj
     have := hc' j hj'
     rw [hj] at this
     show w.cell? (a.add (i * P.cellsOf e + j)) = some c
     rw [← this]
     rw [Addr.add_add]
  ·rename_i fs hu
   obtain ⟨xs, n, rfl, rfl, hl, hn, hf⟩ := DataW.trod_struct hu hx
   have key : ∀ (l : List Field) (o : Nat) (ts : List Ty) (i0 : Nat), Zao P (Z0I P m) (P.cellsOf t) o l = some ts → (∀ i f, l[i]? = some f → fs[i0 + i]? = some f) → ∃ vz, Fits ts vz ∧ Zr (tE w) vz (cs.drop o) := by
    intro l
    induction l with
    | nil =>
     intro o ts i0 h _
     unfold Zao at h
     split at h
     ·rename_i ho
      cases h
      exact ⟨[], .nil, by rw [List.drop_eq_nil_of_le (by omega)]; exact .nil⟩
     ·cases h
    | cons f l ih =>
     intro o ts i0 h hl'
     unfold Zao at h
     split at h
     ·rename_i ho
      obtain ⟨a, h1, h2⟩ := Option.bind_eq_some_iff.1 h
      obtain ⟨b, h3, h4⟩ := Option.bind_eq_some_iff.1 h2
      cases h4
      have h0 : fs[i0]? = some f := hl' 0 f rfl
      have hlt : i0 < fs.size := by
       rcases Nat.lt_or_ge i0 fs.size with h | h
       ·exact h
       ·rw [Array.getElem?_eq_none (by omega)] at h0; cases h0
      have k := hf i0 f h0
      rw [List.getElem?_eq_getElem (by omega), ho] at k
      obtain ⟨vz, p1, p2⟩ := Z0Z m _ _ h1 _ _ _ k
      obtain ⟨bs, q1, q2⟩ := ih (o + P.cellsOf f.type) b (i0 + 1) h3 fun i g hg => by
       have := hl' (i + 1) g hg
       rw [← this]; congr 1; omega
      refine ⟨vz ++ bs, p1.append q1, ?_⟩
      have e : cs.drop o = (cs.drop o).take (P.cellsOf f.type) ++ cs.drop (o + P.cellsOf f.type) := by
       rw [← List.drop_drop, List.take_append_drop]
      rw [e]
      exact p2.append q2
     ·cases h
   obtain ⟨vz, h1, h2⟩ := key fs.toList 0 ts 0 ht fun i f h => by simpa using h
   exact ⟨vz, h1, by simpa using h2⟩
  ·cases ht
def isAgg (P : Program) (t : TypeId) : Bool := match P.underlying t with
 | some (.struct _) | some (.array _ _) => true
 | _ => false
inductive Z2c : Bool → List Ty → AV → Prop
 | agg (ts : List Ty) (vz : List AV) (h : Fits ts vz) : Z2c true ts (.agg vz)
 | one (t : Ty) (a : AV) (h : Z0p t a) : Z2c false [t] a
theorem Zap {m : Nat} {t : TypeId} {ts : List Ty} (ht : Z0I P m t = some ts) (hg : isAgg P t = false) {v : Value} {r : Reach} {b : Nat} (hv : Value.okWide P w r b t v) :
  v.cells.toList = [v] ∧ ∃ τ, ts = [τ] ∧ ∀ k n, τ ≠ .arr k n := by
 cases m with
 | zero => simp [Z0I] at ht
 | succ m =>
  unfold Z0I at ht
  unfold isAgg at hg
  split at ht
  ·rename_i hu; cases ht; obtain ⟨b, rfl⟩ := Go.WideShapes.okWide_bool hu hv; exact ⟨rfl, _, rfl, fun _ _ h => by cases h⟩
  ·rename_i hu; cases ht; obtain ⟨b, rfl⟩ := Go.WideShapes.okWide_int hu hv; exact ⟨rfl, _, rfl, fun _ _ h => by cases h⟩
  ·rename_i hu; cases ht; obtain ⟨b, rfl⟩ := Go.WideShapes.okWide_string hu hv; exact ⟨rfl, _, rfl, fun _ _ h => by cases h⟩
  ·rename_i hu; simp [hu] at hg
  ·rename_i hu
   obtain ⟨a, l, c, rfl⟩ := Go.WideShapes.okWide_slice hu hv
   split at ht
   ·split at ht
    ·cases ht; exact ⟨rfl, _, rfl, fun _ _ h => by cases h⟩
    ·cases ht
   ·obtain ⟨es, h1, h2⟩ := Option.bind_eq_some_iff.1 ht
    cases h2; exact ⟨rfl, _, rfl, fun _ _ h => by cases h⟩
  ·rename_i hu; simp [hu] at hg
  ·cases ht
theorem Zaq {m : Nat} {t : TypeId} {ts : List Ty} {g : Bool} (ht : Z0I P m t = some ts) (hg : isAgg P t = g) {v : Value} {r : Reach} {b : Nat} (hv : Value.okWide P w r b t v) {d : DataW H} {ps : List MemPlace} (h : DataW.Trod enc P w 0 sp held t v d ps) :
  ∃ a, Z2c g ts a ∧ Zf (tE w) a v := by
 obtain ⟨fuel, hf⟩ := h
 obtain ⟨vz, f1, f2⟩ := Z0Z m _ _ ht _ _ _ hf
 cases g with
 | true =>
  have : ∃ cs, v = .agg cs := by
   unfold isAgg at hg
   unfold Value.okWide at hv
   split at hg
   ·rename_i hu; simp only [hu] at hv; obtain ⟨cs, rfl, _⟩ := hv; exact ⟨cs, rfl⟩
   ·rename_i hu; simp only [hu] at hv; obtain ⟨cs, rfl, _⟩ := hv; exact ⟨cs, rfl⟩
   ·cases hg
  obtain ⟨cs, rfl⟩ := this
  refine ⟨.agg vz, .agg _ _ f1, ?_⟩
  have : cs = (Value.cells (.agg cs)).toList.toArray := by simp [Value.cells]
  rw [this]
  exact .agg _ _ f2
 | false =>
  obtain ⟨h1, τ, rfl, h2⟩ := Zap ht hg hv
  rw [h1] at f2
  cases f1 with
  | cons _ a _ vz f r =>
   cases r
   generalize hL : [v] = L at f2
   cases f2 with
   | one _ _ _ _ h0 h1 h t => cases hL; exact ⟨_, .one _ _ f, h⟩
   | arr k n xs _ cs t => cases f; exact absurd rfl (h2 _ _)
end
end Go.Tk
end
section
namespace Go.Tk
open IntKind (i64 u8 u32 u64 wrap)
open Go.ChangeShapes Go.WideShapes Go.RowKit
theorem ZeM (w : World) : Emb (tE w) ⟨0, []⟩ w where
 fresh := fun _ _ => rfl
 lt := fun x B h => by simp [Z9.get, ZF] at h
 own := fun x B h => by simp [Z9.get, ZF] at h
 disj := fun x y B B' b N N' h => absurd h (by simp [Z9.get, ZF])
 imm := fun _ _ h => h
 sep := fun a c x B N _ h => absurd h (by simp [Z9.get, ZF])
theorem Zo.topT {P : Program} {f : FuncId} {args : List AV} (h : Zo P f args ⟨0, []⟩ fun o h' => ∃ v, o = .ret v ∧ h' = ⟨0, []⟩ ∧ v = .bool true) {w : World} {rs : List Value} (hl : ZA (tE w) args rs) :
  Calls P f rs.toArray w fun e w' => e = .returned (.bool true) ∧ Go.RowKit.Below w.heap.size w w' := by
 refine (h (tE w) w rs (ZeM w) hl).mono ?_
 rintro e w' ⟨E', o, h', ⟨v, rfl, rfl, hv⟩, hev, hor⟩
 obtain rfl := hv
 cases hor with
 | ret v r hr =>
  cases hr
  refine ⟨rfl, hev.os, hev.tape, hev.output.1, hev.size, fun k hk => hev.keep k hk ?_⟩
  rintro ⟨x, B, N, hx, _⟩
  exact absurd hx (by simp [Z9.get, ZF])
def Z6O (P : Program) (m : Nat) : List TypeId → Option (List (Bool × List Ty))
 | [] => some []
 | t :: r => (Z0I P m t).bind fun a => (Z6O P m r).bind fun b => some ((isAgg P t, a) :: b)
inductive Z3l : List (Bool × List Ty) → List AV → Prop
 | nil : Z3l [] []
 | cons (g : Bool) (ts : List Ty) (a : AV) (r : List (Bool × List Ty)) (vz : List AV) (h : Z2c g ts a) (k : Z3l r vz) : Z3l ((g, ts) :: r) (a :: vz)
section
variable {H : Type} {enc : TypeId × Value → H} {P : Program} {w : World}
theorem Z3m {m : Nat} {r : Reach} {b : Nat} : ∀ {ts : List TypeId} {τs : List (Bool × List Ty)} {vs : List Value} {ds : List (DataW H)} {ps : List MemPlace}, Z6O P m ts = some τs → (∀ (j : Nat) t v, ts[j]? = some t → vs[j]? = some v → Value.okWide P w r b t v) →
  DataW.TrodAll enc P w 0 (fun _ => true) true ts vs ds ps → ∃ vz, Z3l τs vz ∧ ZA (tE w) vz vs
 | [], τs, vs, ds, ps, ha, _, h => by
  cases ha
  obtain ⟨rfl, _, _⟩ := trodAll_nil h
  exact ⟨[], .nil, .nil⟩
 | t :: ts, τs, vs, ds, ps, ha, hv, h => by
  obtain ⟨a, h1, h2⟩ := Option.bind_eq_some_iff.1 ha
  obtain ⟨c, h3, h4⟩ := Option.bind_eq_some_iff.1 h2
  cases h4
  obtain ⟨v, vs', d, ds', p, q, rfl, rfl, rfl, k1, k2⟩ := trodAll_cons h
  obtain ⟨x, f1, f2⟩ := Zaq h1 rfl (hv 0 t v rfl rfl) k1
  obtain ⟨vz, g1, g2⟩ := Z3m h3 (fun j t' v' e1 e2 => hv (j + 1) t' v' e1 e2) k2
  exact ⟨x :: vz, .cons _ _ _ _ _ f1 g1, .cons _ _ _ _ f2 g2⟩
theorem Z0q {sp : Nat → Bool} {held : Bool} : ∀ {ts : List TypeId} {vs : List Value} {ds : List (DataW H)} {ps : List MemPlace}, DataW.TrodAll enc P w 0 sp held ts vs ds ps → ds.length = ts.length
 | [], _, _, _, h => by obtain ⟨_, rfl, _⟩ := trodAll_nil h; rfl
 | t :: ts, _, _, _, h => by
  obtain ⟨v, vs', d, ds', p, q, rfl, rfl, rfl, k1, k2⟩ := trodAll_cons h
  simp [Z0q k2]
theorem Z3n {W' : World} (laid : laidOutB P = true) (hb : Below w.heap.size w W') : ∀ {ts : List TypeId} {vs : List Value} {ds : List (DataW H)} {ps : List MemPlace}, ts.all (fun t => P.readableRec t && decide (t < P.types.size)) = true →
  DataW.TrodAll enc P w 0 (fun _ => true) true ts vs ds ps → DataW.TrodAll enc P W' 0 (fun b => decide (b < w.heap.size)) true ts vs ds ps
 | [], _, _, _, _, h => by obtain ⟨rfl, rfl, rfl⟩ := trodAll_nil h; exact trodAll_mk0
 | t :: ts, _, _, _, hr, h => by
  obtain ⟨v, vs', d, ds', p, q, rfl, rfl, rfl, k1, k2⟩ := trodAll_cons h
  simp only [List.all_cons, Bool.and_eq_true, decide_eq_true_eq] at hr
  have lt : ∀ x ∈ p, x.block < w.heap.size := by obtain ⟨m, hm⟩ := k1; exact DataW.trod_lt m _ _ _ hm
  exact trodAll_cons_mk (Below.trod laid hr.1.1 hr.1.2 k1 hb lt) (Z3n laid hb hr.2 k2)
end
theorem lifted_gen {H : Type} {enc : TypeId × Value → H} {C : Checked} {os : Os} {f : FuncId} {fn : Func} {s : ChangeSpec} {conds : List PathCond} {tb : TypeId} {m : Nat} {τs : List (Bool × List Ty)}
  (own : ownKnob C.prog.godebug = none) (laid : laidOutB C.prog = true) (started : os.Started) (noInit : C.prog.inits.idxOf? f = none) (hfn : C.prog.funcs[f]? = some fn)
  (witness : ∃ (w : World) (tape : Tape) (i : Input), w.os = os ∧ (w.forCall tape i).Shaped C.prog ∧ i.vars = [] ∧ Input.okWide C.prog (w.forCall tape i) .any w.heap.size f i ∧
   s.pre6 enc C.prog fn conds false (w.forCall tape i).memory i.args ∧ ({} : Assume).holds C.prog (lone (Frame.enter C.prog f i.args .normal) [] (w.forCall tape i)))
  (hvars : s.vars = []) (hr : fn.resultTypes = #[tb]) (hb : C.prog.underlying tb = some .bool) (hread : fn.params.toList.all (fun t => C.prog.readableRec t && decide (t < C.prog.types.size)) = true) (hτ : Z6O C.prog m fn.params.toList = some τs)
  (hs : ∀ ds : List (DataW H), ds.length = fn.params.toList.length → s.fn H ds = { results := [.lit (.bool true)], args := ds })
  (walk : ∀ vz, Z3l τs vz → Zo C.prog f vz ⟨0, []⟩ fun o h' => ∃ v, o = .ret v ∧ h' = ⟨0, []⟩ ∧ v = .bool true) :
  ReturnsInHanded {} C os f .any (s.pre6 enc C.prog fn conds false) (s.post enc C.prog fn false true false false) := by
 refine returnsInHanded_of_change own started noInit hfn witness ?_
 intro W base args ds gs before hval hW _ _
 have hW' := hW
 obtain ⟨p, q, hA, hV, rfl, hfz, hnd⟩ := hW
 have hV0 := hV
 rw [hvars] at hV
 obtain ⟨rfl, rfl⟩ := trodVars_none hV
 obtain ⟨vz, f1, f2⟩ := Z3m hτ (fun j t v e1 e2 => hval j t v (by simpa using e1) (by simpa using e2)) hA
 have e0 : args = args.toList.toArray := by simp
 have key := (walk vz f1).topT f2
 rw [← e0] at key
 refine key.mono fun e W' ⟨he, bel⟩ => ?_
 subst he
 have hfn' := hs ds (Z0q hA)
 refine ⟨_, rfl, ds, [], _, [], p, [], hW', ?_, ?_, ?_, bel.frame _, fun h => by cases h⟩
 ·rw [List.append_nil, hfn', hr]
  exact trodAll_mk1 (shut_bool hb _)
 ·rw [List.append_nil, hfn']
  exact Z3n laid bel hread hA
 ·rw [List.append_nil, hfn', hvars]
  rfl
end Go.Tk
end
section
namespace Go.Tk
open IntKind (i64 u8 u32 u64 wrap)
end Go.Tk
end
section
namespace Go.Tk
open IntKind (i64 u8 u32 u64 wrap)
structure Bytes (xs : List Int) : Prop where
 h : ∀ i : Nat, 0 ≤ xs.getD i 0 ∧ xs.getD i 0 ≤ 255
def inZ : InS := ⟨Zd, 0, 0, Zd, Zd, Zd⟩
def Zhr : Z01 := ⟨0, 0, Zd, Zd, Zd, Zd, 0, 0⟩
end Go.Tk
end
section
namespace Go.Tk
open IntKind (i64 u8 u32 u64 wrap)
end Go.Tk
end
section
namespace Go.Tk
open IntKind (i64 u8 u32 u64 wrap)
structure TxB (t : TxS) : Prop where
 h : ∀ i, i < t.M → Bytes (t.outs i).owner ∧ Bytes (t.outs i).other
end Go.Tk
end
section
namespace Go.Tk
open IntKind (i64 u8 u32 u64 wrap)
end Go.Tk
end
section
namespace Go.Tk
open IntKind (i64 u8 u32 u64 wrap)
end Go.Tk
end
section
namespace Go.Tk
open IntKind (i64 u8 u32 u64 wrap)
theorem Zar {n : Nat} {xs : List Int} (h : xs.length = n) (hw : ∀ i, i < n → (Lit.int .u8 (xs.getD i 0)).wf = true) : Bytes xs := ⟨fun i => by
 by_cases hi : i < n
 ·have := hw i hi
  simp [Lit.wf] at this
  have m1 : u8.min = 0 := rfl
  have m2 : u8.max = 255 := rfl
  simp
  omega
 ·rw [List.getD_eq_getElem?_getD, List.getElem?_eq_none (by omega)]; simp⟩
structure InS.By (x : InS) : Prop where
 name : Bytes x.name
 tag : Bytes x.tag
 also : Bytes x.also
 secret : Bytes x.secret
structure Z01.By (x : Z01) : Prop where
 owner : Bytes x.owner
 other : Bytes x.other
 point : Bytes x.point
 hash : Bytes x.hash
structure ZdT (t : TxS) : Prop where
 ins : ∀ i, i < t.N → (t.ins i).By
 outs : ∀ i, i < t.M → (t.outs i).By
theorem ZdT.b {t : TxS} (h : ZdT t) : TxB t := ⟨fun i hi => ⟨(h.outs i hi).owner, (h.outs i hi).other⟩⟩
theorem pick {α : Type} [Inhabited α] {n : Nat} {p : Nat → α → Prop} (h : ∀ i, i < n → ∃ a, p i a) : ∃ f : Nat → α, ∀ i, i < n → p i (f i) :=
 ⟨fun i => if hi : i < n then Classical.choose (h i hi) else default, fun i hi => by
  simp only [hi, dite_true]
  exact Classical.choose_spec (h i hi)⟩
instance : Inhabited InS := ⟨inZ⟩
instance : Inhabited Z01 := ⟨Zhr⟩
theorem Zo.conv {P : Program} {f : FuncId} {us bs : List AV} {h : Z9} {K : KO} (hc : Zo P f bs h K) (hr : ∀ E rs, ZA E us rs → ZA E bs rs) : Zo P f us h K :=
 fun E w rs he hl => hc E w rs he (hr E rs hl)
theorem Bytes.nil : Bytes [] := ⟨fun i => by simp⟩
theorem Bytes.cons {x : Int} {xs : List Int} (hx : 0 ≤ x ∧ x ≤ 255) (h : Bytes xs) : Bytes (x :: xs) := ⟨fun i => by
 cases i with
 | zero => simpa using hx
 | succ i => have := h.h i; simpa using this⟩
theorem Zhs (x : Int) : 0 ≤ u8.wrap x ∧ u8.wrap x ≤ 255 := by
 unfold wrap
 simp [IntKind.bits, IntKind.signed]
 omega
end Go.Tk
end
section
namespace Go.Tk
open IntKind (i64 u8 u32 u64 wrap)
end Go.Tk
end
section
namespace Go.Tk
open IntKind (i64 u8 u32 u64 wrap)
def WG (a b c : Int) : Nat → Int
 | 0 => 0
 | i + 1 => if 2 ≤ u32.wrap (u32.wrap (Int.tmod (Zy .u32 a i) 2 + Int.tmod (Zy .u32 b i) 2) + Int.tmod (Zy .u32 c i) 2) then u32.wrap (WG a b c i + ZG .u32 1 i) else WG a b c i
def V9 (a b c : Int) : Nat → Int
 | 0 => 0
 | i + 1 => u32.wrap (V9 a b c i + ZG .u32 (if Int.tmod (Zy .u32 a i) 2 = 1 then Int.tmod (Zy .u32 b i) 2 else Int.tmod (Zy .u32 c i) 2) i)
def moS (a b c : Int) (o : Int) (i : Nat) : St := ⟨33, [(8, .int .u64 i), (0, .int .u32 a), (1, .int .u32 b), (2, .int .u32 c), (7, .int .u32 o)], ⟨0, []⟩, []⟩
def moR (o : Int) : St := ⟨33, [(7, .int .u32 o)], ⟨0, []⟩, []⟩
theorem ZdU {x : Int} (h : 0 ≤ x ∧ x < 18446744073709551616) : u64.wrap x = x := by
 unfold wrap
 simp [IntKind.bits, IntKind.signed]
 omega
theorem ZeN (a b c o o' : Int) (i : Nat) (Z1 Z2 : Prop) (hi : i ≤ 32) (ho : o' = if 2 ≤ u32.wrap (u32.wrap (Int.tmod (Zy .u32 a i) 2 + Int.tmod (Zy .u32 b i) 2) + Int.tmod (Zy .u32 c i) 2) then u32.wrap (o + ZG .u32 1 i) else o) (h1 : i < 32 → Z1) (h2 : i = 32 → Z2) :
  ZI G0 20 154 0 0 (moS a b c o i) (rdM 0 0 9 (moS a b c o' (i + 1)) (moR o) (moR o) (moR o) Z1 Z2 False False) := by
 refine @Eq.mpr _ (let q1 := decide (wrap u64 ((↑i : Int) + 1) = (↑(i + 1) : Int));
 let q2 := decide (a = a);
 let q3 := decide (b = b);
 let q4 := decide (c = c);
 Z0 (decide ((↑i : Int) < 32)) (Z0 (decide (wrap u32 (wrap u32 (Int.tmod (Zy u32 a (↑i : Int)) 2 + Int.tmod (Zy u32 b (↑i : Int)) 2) + Int.tmod (Zy u32 c (↑i : Int)) 2) ≥ 2)) (Z0 q1 (Z0 q2 (Z0 q3 (Z0 q4 (Z0 (decide (wrap u32 (o + ZG u32 1 (↑i : Int)) = o')) Z1 False) False) False) False) False) (Z0 q1 (Z0 q2 (Z0 q3 (Z0 q4 (Z0 (decide (o = o')) Z1 False) False) False) False) False)) (Z0 (decide (o = o)) Z2 False)) (by kernel_rfl) ?_
 conv => zeta
 try simp only [Zi]
 try simp only [Zj]
 try simp only [Zk]
 try simp only [Zl]
 try simp only [Zm]
 try simp only [Zh]
 try simp only [Int.toNat_natCast, Nat.zero_add, true_and, and_true, Nat.le_refl]
 have hw : u64.wrap ((i : Int) + 1) = ((i + 1 : Nat) : Int) := ZdU (by omega)
 refine ⟨fun hlt => ⟨fun hc => ?_, fun hc => ?_⟩, fun hge => h2 (by omega)⟩
 ·rw [if_pos hc] at ho
  exact ⟨hw, ho.symm, h1 (by omega)⟩
 ·rw [if_neg hc] at ho
  exact ⟨hw, ho.symm, h1 (by omega)⟩
theorem ZeO (a b c o o' : Int) (i : Nat) (Z1 Z2 : Prop) (hi : i ≤ 32) (ho : o' = u32.wrap (o + ZG .u32 (if Int.tmod (Zy .u32 a i) 2 = 1 then Int.tmod (Zy .u32 b i) 2 else Int.tmod (Zy .u32 c i) 2) i)) (h1 : i < 32 → Z1) (h2 : i = 32 → Z2) :
  ZI G0 20 153 0 0 (moS a b c o i) (rdM 0 0 9 (moS a b c o' (i + 1)) (moR o) (moR o) (moR o) Z1 Z2 False False) := by
 refine @Eq.mpr _ (let q1 := decide (wrap u64 ((↑i : Int) + 1) = (↑(i + 1) : Int));
 let q2 := decide (a = a);
 let q3 := decide (b = b);
 let q4 := decide (c = c);
 Z0 (decide ((↑i : Int) < 32)) (Z0 (Int.tmod (Zy u32 a (↑i : Int)) 2 == 1) (Z0 q1 (Z0 q2 (Z0 q3 (Z0 q4 (Z0 (decide (wrap u32 (o + ZG u32 (Int.tmod (Zy u32 b (↑i : Int)) 2) (↑i : Int)) = o')) Z1 False) False) False) False) False) (Z0 q1 (Z0 q2 (Z0 q3 (Z0 q4 (Z0 (decide (wrap u32 (o + ZG u32 (Int.tmod (Zy u32 c (↑i : Int)) 2) (↑i : Int)) = o')) Z1 False) False) False) False) False)) (Z0 (decide (o = o)) Z2 False)) (by kernel_rfl) ?_
 conv => zeta
 try simp only [Zi]
 try simp only [Zj]
 try simp only [Zk]
 try simp only [Zl]
 try simp only [Zm]
 try simp only [Zh]
 try simp only [Int.toNat_natCast, Nat.zero_add, true_and, and_true, Nat.le_refl]
 have hw : u64.wrap ((i : Int) + 1) = ((i + 1 : Nat) : Int) := ZdU (by omega)
 refine ⟨fun hlt => ⟨fun hc => ?_, fun hc => ?_⟩, fun hge => h2 (by omega)⟩
 ·rw [if_pos (by simpa using hc)] at ho
  exact ⟨hw, ho.symm, h1 (by omega)⟩
 ·rw [if_neg (by simpa using hc)] at ho
  exact ⟨hw, ho.symm, h1 (by omega)⟩
@[irreducible] def Xl (a b c : Int) : Int := WG a b c 32
@[irreducible] def Xf (a b c : Int) : Int := V9 a b c 32
noncomputable def ZeP (a b c : Int) : Zg := G0.withL 154 0 (goM 0 (moS a b c 0 0) True (Yv 0 32 9 (fun i => i < 32) (fun i => i = 32) (fun _ => False) (fun _ => False) (fun i => moR (WG a b c i)) (fun i => moR (WG a b c i)) (fun i => moR (WG a b c i))))
theorem Zck (a b c : Int) : (ZeP a b c).Ok := by
 unfold ZeP
 refine Zg.withGoM (N := 20) (S := fun i => moS a b c (WG a b c i) i) Zw (by kernel_rfl) fun hC => ⟨rfl, fun i hi hgo => ?_⟩
 exact ZeN a b c (WG a b c i) (WG a b c (i + 1)) i _ _ hi rfl (fun h => ⟨h, h⟩) (fun h => h)
noncomputable def ZeQ (a b c : Int) : Zg := G0.withL 153 0 (goM 0 (moS a b c 0 0) True (Yv 0 32 9 (fun i => i < 32) (fun i => i = 32) (fun _ => False) (fun _ => False) (fun i => moR (V9 a b c i)) (fun i => moR (V9 a b c i)) (fun i => moR (V9 a b c i))))
theorem Zcl (a b c : Int) : (ZeQ a b c).Ok := by
 unfold ZeQ
 refine Zg.withGoM (N := 20) (S := fun i => moS a b c (V9 a b c i) i) Zw (by kernel_rfl) fun hC => ⟨rfl, fun i hi hgo => ?_⟩
 exact ZeO a b c (V9 a b c i) (V9 a b c (i + 1)) i _ _ hi rfl (fun h => ⟨h, h⟩) (fun h => h)
theorem ZeR (a b c : Int) (o : Int) (ho : o = WG a b c 32) :
  evF (ZeP a b c) 20 154 [.int .u32 a, .int .u32 b, .int .u32 c] ⟨0, []⟩ (W2 0 [] (.int .u32 o) 0 []) := by
 refine @Eq.mpr _ (Z0 (decide (a = a)) (Z0 (decide (b = b)) (Z0 (decide (c = c)) (True ∧ ∀ (i : Nat), i ≤ 32 → (∀ (j : Nat), j < i → (fun (i : Nat) => i < 32) j) → (i = 32 → Z0 (decide (WG a b c i = o)) True False) ∧ (False → False) ∧ (False → False)) False) False) False) (by kernel_rfl) ?_
 try simp only [Zi]
 try simp only [Zj]
 try simp only [Zk]
 try simp only [Zl]
 try simp only [Zm]
 try simp only [Zh]
 try simp only [Int.toNat_natCast, Nat.zero_add, true_and, and_true, Nat.le_refl]
 subst ho
 exact fun i hi _ => ⟨fun he => by subst he; rfl, fun h => h, fun h => h⟩
theorem ZeS (a b c : Int) (o : Int) (ho : o = V9 a b c 32) :
  evF (ZeQ a b c) 20 153 [.int .u32 a, .int .u32 b, .int .u32 c] ⟨0, []⟩ (W2 0 [] (.int .u32 o) 0 []) := by
 refine @Eq.mpr _ (Z0 (decide (a = a)) (Z0 (decide (b = b)) (Z0 (decide (c = c)) (True ∧ ∀ (i : Nat), i ≤ 32 → (∀ (j : Nat), j < i → (fun (i : Nat) => i < 32) j) → (i = 32 → Z0 (decide (V9 a b c i = o)) True False) ∧ (False → False) ∧ (False → False)) False) False) False) (by kernel_rfl) ?_
 try simp only [Zi]
 try simp only [Zj]
 try simp only [Zk]
 try simp only [Zl]
 try simp only [Zm]
 try simp only [Zh]
 try simp only [Int.toNat_natCast, Nat.zero_add, true_and, and_true, Nat.le_refl]
 subst ho
 exact fun i hi _ => ⟨fun he => by subst he; rfl, fun h => h, fun h => h⟩
def Z10 (F : Int → Int → Int → Int) : ZU := fun args _ K => match args with
 | [.int .u32 a, .int .u32 b, .int .u32 c] => K (.int .u32 (F a b c))
 | _ => False
theorem Z2d {f : FuncId} {F : Int → Int → Int → Int} (hp : ∀ a b c, ZH PP f [.int .u32 a, .int .u32 b, .int .u32 c] (.int .u32 (F a b c)) 0 []) (args : List AV) (h : Z9) (K : AV → Prop) (hl : Z10 F args h K) : Zo PP f args h fun o h' => ∃ v, o = .ret v ∧ h' = h ∧ K v := by
 unfold Z10 at hl
 split at hl
 ·rename_i a b c
  refine Qs (d := 20) (K0 := fun l => l = [.int .u32 a, .int .u32 b, .int .u32 c]) ?_ fun l e => ⟨_, by rw [e]; exact hp a b c, fun _ => rfl, hl⟩
  rfl
 ·exact hl.elim
end Go.Tk
end
section
namespace Go.Tk
open IntKind (i64 u8 u32 u64 wrap)
def sg3 (a b c : Int) (w : Int) : Int := YI .u32 (YI .u32 (Z6C w (32 - a)) (Z6C w (32 - b))) (Z6C w (32 - c))
def rg3 (a b n : Int) (w : Int) : Int := YI .u32 (YI .u32 (Z6C w (32 - a)) (Z6C w (32 - b))) (Zy .u32 w n)
def Z6P (bl : List Int) (t : Nat) : Int := u32.wrap (u32.wrap (u32.wrap (ZG .u32 (u32.wrap (bl.getD (4 * t) 0)) 24 + ZG .u32 (u32.wrap (bl.getD (4 * t + 1) 0)) 16) + ZG .u32 (u32.wrap (bl.getD (4 * t + 2) 0)) 8) + u32.wrap (bl.getD (4 * t + 3) 0))
def Zas (m : List Int) (t : Nat) : Int := u32.wrap (u32.wrap (u32.wrap (rg3 17 19 10 (m.getD (t - 2) 0) + m.getD (t - 7) 0) + rg3 7 18 3 (m.getD (t - 15) 0)) + m.getD (t - 16) 0)
def XY (bl : List Int) : Nat → List Int
 | 0 => List.replicate 64 0
 | t + 1 => (XY bl t).set t (if t < 16 then Z6P bl t else Zas (XY bl t) t)
theorem Z2e (bl : List Int) : ∀ t, (XY bl t).length = 64
 | 0 => rfl
 | t + 1 => by simp [XY, Z2e bl t]
def prS (st bl m : List Int) (i : Nat) : St := ⟨146, [(6, .int .i64 i), (3, pt 1), (5, pt 3), (2, pt 0), (4, pt 2)], ⟨4, [(3, .flat [.arr .u32 64 m]), (2, .flat [.arr .u32 8 [0, 0, 0, 0, 0, 0, 0, 0]]), (1, .flat [.arr .u8 64 bl]), (0, .flat [.arr .u32 8 st])]⟩, []⟩
theorem Zht (st bl m m' : List Int) (i : Nat) (Z1 Z2 : Prop) (hi : i ≤ 64) (hm : m.length = 64) (hm' : m' = m.set i (if i < 16 then Z6P bl i else Zas m i)) (h1 : i < 64 → Z1) (h2 : i = 64 → Z2) :
  ZI G0 20 124 0 0 (prS st bl m i) (rdM 0 0 9 (prS st bl m' (i + 1)) (prS st bl m i) (prS st bl m i) (prS st bl m i) Z1 Z2 False False) := by
 refine @Eq.mpr _ (let q1 := wrap i64 (4 * (↑i : Int));
 let q2 := 0 + Int.toNat q1;
 let q3 := wrap i64 (q1 + 1);
 let q4 := 0 + Int.toNat q3;
 let q5 := wrap i64 (q1 + 2);
 let q6 := 0 + Int.toNat q5;
 let q7 := wrap i64 (q1 + 3);
 let q8 := 0 + Int.toNat q7;
 let q9 := decide (0 ≤ (↑i : Int) ∧ (↑i : Int) < 64);
 let q10 := 0 + Int.toNat (↑i : Int);
 let q11 := decide (u32 = u32 ∧ q10 < 64 ∧ q10 < List.length m);
 let q12 := decide (wrap i64 ((↑i : Int) + 1) = (↑(i + 1) : Int));
 let q13 := [(0 : Int), 0, 0, 0, 0, 0, 0, 0];
 let q14 := q13 = q13;
 let q15 := q14 ∧ bl = bl ∧ st = st ∧ Z1;
 let q16 := wrap i64 ((↑i : Int) - 2);
 let q17 := 0 + Int.toNat q16;
 let q18 := wrap i64 ((↑i : Int) - 7);
 let q19 := 0 + Int.toNat q18;
 let q20 := decide (q19 < 64);
 let q21 := wrap i64 ((↑i : Int) - 15);
 let q22 := 0 + Int.toNat q21;
 let q23 := decide (q22 < 64);
 let q24 := wrap i64 ((↑i : Int) - 16);
 let q25 := 0 + Int.toNat q24;
 let q26 := decide (q25 < 64);
 let q27 := List.getD m q25 0;
 let q28 := decide (q27 = q27);
 let q29 := List.getD m q22 0;
 let q30 := List.getD m q19 0;
 let q31 := decide (q30 = q30);
 let q32 := List.getD m q17 0;
 Z0 (decide ((↑i : Int) < 64))
 (Z0 (decide ((↑i : Int) < 16)) (Z0 (decide (0 ≤ q1 ∧ q1 < 64)) (Z0 (decide (q2 < 64)) (Z0 (decide (0 ≤ q3 ∧ q3 < 64)) (Z0 (decide (q4 < 64)) (Z0 (decide (0 ≤ q5 ∧ q5 < 64)) (Z0 (decide (q6 < 64)) (Z0 (decide (0 ≤ q7 ∧ q7 < 64)) (Z0 (decide (q8 < 64)) (Z0 q9 (Z0 q11 (Z0 q12 (List.set m q10 (wrap u32 (wrap u32 (wrap u32 (ZG u32 (wrap u32 (List.getD bl q2 0)) 24 + ZG u32 (wrap u32 (List.getD bl q4 0)) 16) + ZG u32 (wrap u32 (List.getD bl q6 0)) 8) + wrap u32 (List.getD bl q8 0))) = m' ∧ q15) False) False) False) False) False) False) False) False) False) False) False)
 (Z0 (decide (0 ≤ q16 ∧ q16 < 64))
 (Z0 (decide (q17 < 64)) (Z0 (decide (0 ≤ q18 ∧ q18 < 64)) (Z0 q20 (Z0 (decide (0 ≤ q21 ∧ q21 < 64)) (Z0 q23 (Z0 (decide (0 ≤ q24 ∧ q24 < 64)) (Z0 q26 (Z0 q26 (Z0 q28 (Z0 q23 (Z0 (decide (q29 = q29)) (Z0 q20 (Z0 q31 (Z0 q26 (Z0 q28 (Z0 q20 (Z0 q31 (Z0 q9 (Z0 q11 (Z0 q12 (List.set m q10 (wrap u32 (wrap u32 (wrap u32 (YI u32 (YI u32 (bOr u32 (ZG u32 q32 15) (Zy u32 q32 17)) (bOr u32 (ZG u32 q32 13) (Zy u32 q32 19))) (Zy u32 q32 10) + q30) + YI u32 (YI u32 (bOr u32 (ZG u32 q29 25) (Zy u32 q29 7)) (bOr u32 (ZG u32 q29 14) (Zy u32 q29 18))) (Zy u32 q29 3)) + q27)) = m' ∧ q15) False) False) False) False) False) False) False) False) False) False) False) False) False) False) False) False) False) False) False) False) False))
 (Z0 (decide ((↑i : Int) = (↑i : Int))) (m = m ∧ q14 ∧ bl = bl ∧ st = st ∧ Z2) False)) (by kernel_rfl) ?_
 conv => zeta
 try simp only [Zi]
 try simp only [Zj]
 try simp only [Zk]
 try simp only [Zl]
 try simp only [Zm]
 try simp only [Zh]
 try simp only [Int.toNat_natCast, Nat.zero_add, true_and, and_true, Nat.le_refl]
 have hw : i64.wrap ((i : Int) + 1) = ((i + 1 : Nat) : Int) := w64 (by omega)
 refine ⟨fun hlt => ⟨fun h16 => ?_, fun h16 => ?_⟩, fun hge => h2 (by omega)⟩
 ·have e0 : i64.wrap (4 * (i : Int)) = ((4 * i : Nat) : Int) := by rw [w64 (by omega)]; omega
  have e1 : i64.wrap (((4 * i : Nat) : Int) + 1) = ((4 * i + 1 : Nat) : Int) := by rw [w64 (by omega)]; omega
  have e2 : i64.wrap (((4 * i : Nat) : Int) + 2) = ((4 * i + 2 : Nat) : Int) := by rw [w64 (by omega)]; omega
  have e3 : i64.wrap (((4 * i : Nat) : Int) + 3) = ((4 * i + 3 : Nat) : Int) := by rw [w64 (by omega)]; omega
  rw [if_pos (by omega)] at hm'
  simp only [e0, e1, e2, e3, hw, Int.toNat_natCast]
  repeat' (first | (refine And.intro ?_ ?_) | intro _)
  all_goals first | omega | exact hm'.symm | exact h1 (by omega) | trivial
 ·have e0 : i64.wrap ((i : Int) - 2) = ((i - 2 : Nat) : Int) := by rw [w64 (by omega)]; omega
  have e1 : i64.wrap ((i : Int) - 7) = ((i - 7 : Nat) : Int) := by rw [w64 (by omega)]; omega
  have e2 : i64.wrap ((i : Int) - 15) = ((i - 15 : Nat) : Int) := by rw [w64 (by omega)]; omega
  have e3 : i64.wrap ((i : Int) - 16) = ((i - 16 : Nat) : Int) := by rw [w64 (by omega)]; omega
  rw [if_neg (by omega)] at hm'
  simp only [e0, e1, e2, e3, hw, Int.toNat_natCast]
  repeat' (first | (refine And.intro ?_ ?_) | intro _)
  all_goals first | omega | exact hm'.symm | exact h1 (by omega) | trivial
noncomputable def ZeT (st bl : List Int) : Zg := G0.withL 124 0 (goM 0 (prS st bl (List.replicate 64 0) 0) True (Yv 0 64 9 (fun i => i < 64) (fun i => i = 64) (fun _ => False) (fun _ => False) (fun i => prS st bl (XY bl i) i) (fun i => prS st bl (XY bl i) i) (fun i => prS st bl (XY bl i) i)))
theorem Zcm (st bl : List Int) : (ZeT st bl).Ok := by
 unfold ZeT
 refine Zg.withGoM (N := 20) (S := fun i => prS st bl (XY bl i) i) Zw (by kernel_rfl) fun hC => ⟨rfl, fun i hi hgo => ?_⟩
 exact Zht st bl (XY bl i) (XY bl (i + 1)) i _ _ hi (Z2e bl i) rfl (fun h => ⟨h, h⟩) (fun h => h)
noncomputable def E54 (M P : Int → Int → Int → Int) : Zg := (G0.withP 154 (Z10 M)).withP 153 (Z10 P)
theorem ZeU : (E54 Xl Xf).Ok := Zg.withP_ok (Zg.withP_ok Zw (Z2d fun a b c => by unfold Xl; exact .ev (Zck a b c) (ZeR a b c _ rfl))) (Z2d fun a b c => by unfold Xf; exact .ev (Zcl a b c) (ZeS a b c _ rfl))
def Z0r (M P : Int → Int → Int → Int) (k m : Int) (x : List Int) : List Int :=
 let one := u32.wrap (u32.wrap (u32.wrap (u32.wrap (x.getD 7 0 + sg3 6 11 25 (x.getD 4 0)) + P (x.getD 4 0) (x.getD 5 0) (x.getD 6 0)) + k) + m)
 [u32.wrap (one + u32.wrap (sg3 2 13 22 (x.getD 0 0) + M (x.getD 0 0) (x.getD 1 0) (x.getD 2 0))), x.getD 0 0, x.getD 1 0, x.getD 2 0, u32.wrap (x.getD 3 0 + one), x.getD 4 0, x.getD 5 0, x.getD 6 0]
def VV (M P : Int → Int → Int → Int) (m st : List Int) : Nat → List Int
 | 0 => st
 | t + 1 => Z0r M P (WN.getD t 0) (m.getD t 0) (VV M P m st t)
theorem Z8U (M P : Int → Int → Int → Int) (m st : List Int) (t : Nat) : VV M P m st (t + 1) = Z0r M P (WN.getD t 0) (m.getD t 0) (VV M P m st t) := rfl
theorem Z8V (M P : Int → Int → Int → Int) (m st : List Int) : VV M P m st 0 = st := rfl
theorem Qw {M P : Int → Int → Int → Int} {m st : List Int} (h : st.length = 8) : ∀ t, (VV M P m st t).length = 8
 | 0 => h
 | _ + 1 => rfl
def prT (st k m x : List Int) (i : Nat) : St := ⟨146, [(9, .int .i64 i), (8, pt 6), (7, pt 5), (5, pt 3), (2, pt 0), (4, pt 2)], ⟨7, [(6, .flat [.arr .u32 8 x]), (5, .flat [.arr .u32 64 k]), (3, .flat [.arr .u32 64 m]), (2, .flat [.arr .u32 8 [0, 0, 0, 0, 0, 0, 0, 0]]), (0, .flat [.arr .u32 8 st])]⟩, []⟩
def prU (st x : List Int) : St := ⟨146, [(8, pt 6), (2, pt 0), (4, pt 2)], ⟨7, [(6, .flat [.arr .u32 8 x]), (2, .flat [.arr .u32 8 [0, 0, 0, 0, 0, 0, 0, 0]]), (0, .flat [.arr .u32 8 st])]⟩, []⟩
theorem Zhu (M P : Int → Int → Int → Int) (st k m x' : List Int) (x0 x1 x2 x3 x4 x5 x6 x7 : Int) (i : Nat) (Z1 Z2 : Prop) (hi : i ≤ 64) (hx : x' = Z0r M P (k.getD i 0) (m.getD i 0) [x0, x1, x2, x3, x4, x5, x6, x7]) (h1 : i < 64 → Z1) (h2 : i = 64 → Z2) :
  ZI (E54 M P) 20 124 2 0 (prT st k m [x0, x1, x2, x3, x4, x5, x6, x7] i) (rdM 0 2 9 (prT st k m x' (i + 1)) (prU st [x0, x1, x2, x3, x4, x5, x6, x7]) (prU st [x0, x1, x2, x3, x4, x5, x6, x7]) (prU st [x0, x1, x2, x3, x4, x5, x6, x7]) Z1 Z2 False False) := by
 refine @Eq.mpr _ (let q1 := decide (0 ≤ (↑i : Int) ∧ (↑i : Int) < 64);
 let q2 := 0 + Int.toNat (↑i : Int);
 let q3 := decide (q2 < 64);
 let q4 := decide (q2 < 64);
 let q5 := List.getD m q2 0;
 let q6 := List.getD k q2 0;
 let q7 := wrap u32 (wrap u32 (wrap u32 (wrap u32 (x7 + YI u32 (YI u32 (bOr u32 (ZG u32 x4 26) (Zy u32 x4 6)) (bOr u32 (ZG u32 x4 21) (Zy u32 x4 11))) (bOr u32 (ZG u32 x4 7) (Zy u32 x4 25))) + P x4 x5 x6) + q6) + q5);
 let q8 := [(0 : Int), 0, 0, 0, 0, 0, 0, 0];
 let q9 := q8 = q8;
 let q10 := [x0, x1, x2, x3, x4, x5, x6, x7];
 Z0 (decide ((↑i : Int) < 64)) (Z0 q1 (Z0 q3 (Z0 q1 (Z0 q4 (Z0 q4 (Z0 (decide (q5 = q5)) (Z0 q3 (Z0 (decide (q6 = q6)) (Z0 (decide (x6 = x6)) (Z0 (decide (x5 = x5)) (Z0 (decide (x4 = x4)) (Z0 (decide (x7 = x7)) (Z0 (decide (x2 = x2)) (Z0 (decide (x1 = x1)) (Z0 (decide (x0 = x0)) (Z0 (decide (wrap i64 ((↑i : Int) + 1) = (↑(i + 1) : Int))) ([wrap u32 (q7 + wrap u32 (YI u32 (YI u32 (bOr u32 (ZG u32 x0 30) (Zy u32 x0 2)) (bOr u32 (ZG u32 x0 19) (Zy u32 x0 13))) (bOr u32 (ZG u32 x0 10) (Zy u32 x0 22)) + M x0 x1 x2)), x0, x1, x2, wrap u32 (x3 + q7), x4, x5, x6] = x' ∧ k = k ∧ m = m ∧ q9 ∧ st = st ∧ Z1) False) False) False) False) False) False) False) False) False) False) False) False) False) False) False) False) (q10 = q10 ∧ q9 ∧ st = st ∧ Z2)) (by kernel_rfl) ?_
 conv => zeta
 try simp only [Zi]
 try simp only [Zj]
 try simp only [Zk]
 try simp only [Zl]
 try simp only [Zm]
 try simp only [Zh]
 try simp only [Int.toNat_natCast, Nat.zero_add, true_and, and_true, Nat.le_refl]
 have hw : i64.wrap ((i : Int) + 1) = ((i + 1 : Nat) : Int) := w64 (by omega)
 refine ⟨fun hlt => ?_, fun hge => h2 (by omega)⟩
 rw [hw]
 repeat' (first | (refine And.intro ?_ ?_) | intro _)
 all_goals first | omega | exact hx.symm | exact h1 (by omega) | trivial
def prV (st x : List Int) (i : Nat) : St := ⟨146, [(12, .int .i64 i), (8, pt 6), (2, pt 0), (4, pt 2)], ⟨7, [(6, .flat [.arr .u32 8 x]), (2, .flat [.arr .u32 8 [0, 0, 0, 0, 0, 0, 0, 0]]), (0, .flat [.arr .u32 8 st])]⟩, []⟩
def WO (st x : List Int) : Nat → List Int
 | 0 => x
 | i + 1 => (WO st x i).set i (u32.wrap ((WO st x i).getD i 0 + st.getD i 0))
theorem Z2f {st x : List Int} (h : x.length = 8) : ∀ i, (WO st x i).length = 8
 | 0 => h
 | i + 1 => by simp [WO, Z2f h i]
theorem Zhv (st x x' : List Int) (i : Nat) (Z1 Z2 : Prop) (hi : i ≤ 8) (hl : x.length = 8) (hs : st.length = 8) (hx : x' = x.set i (u32.wrap (x.getD i 0 + st.getD i 0))) (h1 : i < 8 → Z1) (h2 : i = 8 → Z2) :
  ZI G0 20 124 4 0 (prV st x i) (rdM 0 4 9 (prV st x' (i + 1)) (prU st x) (prU st x) (prU st x) Z1 Z2 False False) := by
 refine @Eq.mpr _ (let q1 := decide (0 ≤ (↑i : Int) ∧ (↑i : Int) < 8);
 let q2 := 0 + Int.toNat (↑i : Int);
 let q3 := [(0 : Int), 0, 0, 0, 0, 0, 0, 0];
 let q4 := q3 = q3;
 Z0 (decide ((↑i : Int) < 8)) (Z0 q1 (Z0 (decide (q2 < 8)) (Z0 q1 (Z0 (decide (q2 < 8)) (Z0 q1 (Z0 (decide (u32 = u32 ∧ q2 < 8 ∧ q2 < List.length x)) (Z0 (decide (wrap i64 ((↑i : Int) + 1) = (↑(i + 1) : Int))) (List.set x q2 (wrap u32 (List.getD x q2 0 + List.getD st q2 0)) = x' ∧ q4 ∧ st = st ∧ Z1) False) False) False) False) False) False) False) (x = x ∧ q4 ∧ st = st ∧ Z2)) (by kernel_rfl) ?_
 conv => zeta
 try simp only [Zi]
 try simp only [Zj]
 try simp only [Zk]
 try simp only [Zl]
 try simp only [Zm]
 try simp only [Zh]
 try simp only [Int.toNat_natCast, Nat.zero_add, true_and, and_true, Nat.le_refl]
 have hw : i64.wrap ((i : Int) + 1) = ((i + 1 : Nat) : Int) := w64 (by omega)
 refine ⟨fun hlt => ?_, fun hge => h2 (by omega)⟩
 rw [hw]
 repeat' (first | (refine And.intro ?_ ?_) | intro _)
 all_goals first | omega | exact hx.symm | exact h1 (by omega) | trivial
def ZeV (M P : Int → Int → Int → Int) (st m : List Int) : Nat → St → KE → Prop := goM 0 (prT st WN m st 0) (st.length = 8) (Yv 2 64 9 (fun i => i < 64) (fun i => i = 64) (fun _ => False) (fun _ => False) (fun i => prU st (VV M P m st i)) (fun i => prU st (VV M P m st i)) (fun i => prU st (VV M P m st i)))
theorem Zcn (st m : List Int) : ((E54 Xl Xf).withL 124 2 (ZeV Xl Xf st m)).Ok := by
 unfold ZeV
 refine Zg.withGoM (N := 20) (S := fun i => prT st WN m (VV Xl Xf m st i) i) ZeU (by kernel_rfl) fun hC => ⟨rfl, fun i hi hgo => ?_⟩
 obtain ⟨x0, x1, x2, x3, x4, x5, x6, x7, e⟩ := eight _ (Qw (M := Xl) (P := Xf) (m := m) hC i)
 show ZI _ 20 124 2 0 (prT st WN m (VV Xl Xf m st i) i) (rdM 0 2 9 (prT st WN m (Z0r Xl Xf (WN.getD i 0) (m.getD i 0) (VV Xl Xf m st i)) (i + 1)) _ _ _ _ _ _ _)
 rw [e]
 exact Zhu Xl Xf st WN m _ x0 x1 x2 x3 x4 x5 x6 x7 i _ _ hi rfl (fun h => ⟨h, h⟩) (fun h => h)
def ZeW (st x : List Int) : Nat → St → KE → Prop := goM 0 (prV st x 0) (st.length = 8 ∧ x.length = 8) (Yv 4 8 9 (fun i => i < 8) (fun i => i = 8) (fun _ => False) (fun _ => False) (fun i => prU st (WO st x i)) (fun i => prU st (WO st x i)) (fun i => prU st (WO st x i)))
theorem Zco (st x : List Int) : (G0.withL 124 4 (ZeW st x)).Ok := by
 unfold ZeW
 refine Zg.withGoM (N := 20) (S := fun i => prV st (WO st x i) i) Zw (by kernel_rfl) fun hC => ⟨rfl, fun i hi hgo => ?_⟩
 exact Zhv st (WO st x i) (WO st x (i + 1)) i _ _ hi (Z2f hC.2 i) hC.1 rfl (fun h => ⟨h, h⟩) (fun h => h)
noncomputable def ZeX (M P : Int → Int → Int → Int) (st bl m x : List Int) : Zg := ((ZeT st bl).withL 124 2 (ZeV M P st m)).withL 124 4 (ZeW st x)
theorem Zcp (st bl m x : List Int) : (ZeX Xl Xf st bl m x).Ok := by
 unfold ZeX
 exact Zg.withL_join (H := G0) (Zg.withL_join (H := E54 Xl Xf) (Zcm st bl) rfl (Zcn st m)) rfl (Zco st x)
@[irreducible] def XD (st bl : List Int) : List Int := WO st (VV Xl Xf (XY bl 64) st 64) 8
attribute [irreducible] XY VV WO
theorem Zhw (M P : Int → Int → Int → Int) (st bl m x r : List Int) (hst : st.length = 8) (hm : m = XY bl 64) (hx : x = VV M P m st 64) (hr : r = WO st x 8) :
  evF (ZeX M P st bl m x) 20 124 [.agg [.arr .u32 8 st], .agg [.arr .u8 64 bl]] ⟨0, []⟩ (W2 0 [] (.agg [.arr .u32 8 r]) 0 []) := by
 refine @Eq.mpr _ ((0 : Int) :: (0 : Int) :: (0 : Int) :: (0 : Int) :: (0 : Int) :: (0 : Int) :: (0 : Int) :: (0 : Int) :: (0 : Int) :: (0 : Int) :: (0 : Int) :: (0 : Int) :: (0 : Int) :: (0 : Int) :: (0 : Int) :: (0 : Int) :: (0 : Int) :: (0 : Int) :: (0 : Int) :: (0 : Int) :: (0 : Int) :: (0 : Int) :: (0 : Int) :: (0 : Int) :: (0 : Int) :: (0 : Int) :: (0 : Int) :: (0 : Int) :: (0 : Int) :: (0 : Int) :: (0 : Int) :: (0 : Int) :: Zd = (0 : Int) :: (0 : Int) :: (0 : Int) :: (0 : Int) :: (0 : Int) :: (0 : Int) :: (0 : Int) :: (0 : Int) :: (0 : Int) :: (0 : Int) :: (0 : Int) :: (0 : Int) :: (0 : Int) :: (0 : Int) :: (0 : Int) :: (0 : Int) :: (0 : Int) :: (0 : Int) :: (0 : Int) :: (0 : Int) :: (0 : Int) :: (0 : Int) :: (0 : Int) :: (0 : Int) :: (0 : Int) :: (0 : Int) :: (0 : Int) :: (0 : Int) :: (0 : Int) :: (0 : Int) :: (0 : Int) :: (0 : Int) :: Zd ∧
 [(0 : Int), (0 : Int), (0 : Int), (0 : Int), (0 : Int), (0 : Int), (0 : Int), (0 : Int)] = [(0 : Int), (0 : Int), (0 : Int), (0 : Int), (0 : Int), (0 : Int), (0 : Int), (0 : Int)] ∧
 bl = bl ∧
 st = st ∧
 True ∧
 ∀ (i : Nat),
 i ≤ (64 : Nat) →
 (∀ (j : Nat), j < i → (fun (i : Nat) => i < (64 : Nat)) j) →
 (i = (64 : Nat) →
 st = st ∧
 [(1116352408 : Int), (1899447441 : Int), (3049323471 : Int), (3921009573 : Int), (961987163 : Int), (1508970993 : Int), (2453635748 : Int), (2870763221 : Int), (3624381080 : Int), (310598401 : Int), (607225278 : Int), (1426881987 : Int), (1925078388 : Int), (2162078206 : Int), (2614888103 : Int), (3248222580 : Int), (3835390401 : Int), (4022224774 : Int), (264347078 : Int), (604807628 : Int), (770255983 : Int), (1249150122 : Int), (1555081692 : Int), (1996064986 : Int), (2554220882 : Int), (2821834349 : Int), (2952996808 : Int), (3210313671 : Int), (3336571891 : Int), (3584528711 : Int), (113926993 : Int), (338241895 : Int), (666307205 : Int), (773529912 : Int), (1294757372 : Int), (1396182291 : Int), (1695183700 : Int), (1986661051 : Int), (2177026350 : Int), (2456956037 : Int), (2730485921 : Int), (2820302411 : Int), (3259730800 : Int), (3345764771 : Int), (3516065817 : Int), (3600352804 : Int), (4094571909 : Int), (275423344 : Int), (430227734 : Int), (506948616 : Int),
 (659060556 : Int), (883997877 : Int), (958139571 : Int), (1322822218 : Int), (1537002063 : Int), (1747873779 : Int), (1955562222 : Int), (2024104815 : Int), (2227730452 : Int), (2361852424 : Int), (2428436474 : Int), (2756734187 : Int), (3204031479 : Int), (3329325298 : Int)] =
 WN ∧
 XY bl i = m ∧
 [(0 : Int), (0 : Int), (0 : Int), (0 : Int), (0 : Int), (0 : Int), (0 : Int), (0 : Int)] = [(0 : Int), (0 : Int), (0 : Int), (0 : Int), (0 : Int), (0 : Int), (0 : Int), (0 : Int)] ∧ st = st ∧ List.length st = (8 : Nat) ∧ ∀ (i : Nat), i ≤ (64 : Nat) → (∀ (j : Nat), j < i → (fun (i : Nat) => i < (64 : Nat)) j) → (i = (64 : Nat) → VV M P m st i = x ∧ [(0 : Int), (0 : Int), (0 : Int), (0 : Int), (0 : Int), (0 : Int), (0 : Int), (0 : Int)] = [(0 : Int), (0 : Int), (0 : Int), (0 : Int), (0 : Int), (0 : Int), (0 : Int), (0 : Int)] ∧ st = st ∧ (List.length st = (8 : Nat) ∧ List.length x = (8 : Nat)) ∧ ∀ (i : Nat), i ≤ (8 : Nat) → (∀ (j : Nat), j < i → (fun (i : Nat) => i < (8 : Nat)) j) → (i = (8 : Nat) → WO st x i = r ∧ True) ∧ (False → [(0 : Int), (0 : Int), (0 : Int), (0 : Int), (0 : Int), (0 : Int), (0 : Int), (0 : Int)] = r ∧ True) ∧ (False → False)) ∧ (False → [(0 : Int), (0 : Int), (0 : Int), (0 : Int), (0 : Int), (0 : Int), (0 : Int), (0 : Int)] = r ∧ True) ∧ (False → False)) ∧
 (False → [(0 : Int), (0 : Int), (0 : Int), (0 : Int), (0 : Int), (0 : Int), (0 : Int), (0 : Int)] = r ∧ True) ∧ (False → False)) (by kernel_rfl) ?_
 try simp only [Zi]
 try simp only [Zj]
 try simp only [Zk]
 try simp only [Zl]
 try simp only [Zm]
 try simp only [Zh]
 try simp only [Int.toNat_natCast, Nat.zero_add, true_and, and_true, Nat.le_refl]
 subst hm
 have hl : x.length = 8 := by rw [hx]; exact Qw hst _
 exact fun i _ _ => ⟨fun he => ⟨by kernel_rfl, by rw [he], hst, fun j _ _ => ⟨fun hj => ⟨by rw [hj, hx], ⟨hst, hl⟩, fun q _ _ => ⟨fun hq => by rw [hq, hr], fun h => h.elim, fun h => h⟩⟩, fun h => h.elim, fun h => h⟩⟩, fun h => h.elim, fun h => h⟩
theorem Z5m (st bl : List Int) (h : st.length = 8) : ZH PP 124 [.agg [.arr .u32 8 st], .agg [.arr .u8 64 bl]] (.agg [.arr .u32 8 (XD st bl)]) 0 [] := by
 unfold XD
 exact .ev (Zcp st bl _ _) (Zhw Xl Xf st bl _ _ _ h rfl rfl rfl)
theorem Z4l {st bl : List Int} (h : st.length = 8) : (XD st bl).length = 8 := by unfold XD; exact Z2f (Qw h _) _
end Go.Tk
end
section
namespace Go.Tk
open IntKind (i64 u8 u32 u64 wrap)
def Zcq (n i : Int) : Int := u8.wrap (Int.tmod (Zy .u64 (u64.wrap (u64.wrap n * 8)) (u64.wrap (i64.wrap (56 - i64.wrap (8 * i))))) 256)
def XK (n : Int) : Nat → List Int
 | 0 => []
 | i + 1 => XK n i ++ [Zcq n i]
theorem Z2g (n : Int) : ∀ i, (XK n i).length = i
 | 0 => rfl
 | i + 1 => by rw [XK, List.length_append, Z2g n i]; rfl
def paS (bs ys : List Int) (n L i : Nat) : St := ⟨39, [(5, .int .i64 i), (4, .nslice ⟨3, 0, 0, 0, 0⟩ 1 L L), (0, .vints .u8 bs n)], ⟨4, [(3, .ints .u8 ys)]⟩, []⟩
theorem ZfT (bs ys zs : List Int) (n L L' i : Nat) (Z1 Z2 : Prop) (hi : i ≤ 8) (hL : ys.length = L) (hb : L < 10000000000000) (hz : zs = ys ++ [Zcq n i]) (hL' : L' = zs.length) (h1 : i < 8 → Z1) (h2 : i = 8 → Z2) :
  ZI G0 20 123 0 0 (paS bs ys n L i) (rdM 0 0 9 (paS bs zs n L' (i + 1)) (paS bs ys n L i) (paS bs ys n L i) (paS bs ys n L i) Z1 Z2 False False) := by
 refine @Eq.mpr _ (let q1 := wrap u64 (wrap i64 (56 - wrap i64 (8 * (↑i : Int))));
 let q2 := ys ++ [wrap u8 (Int.tmod (Zy u64 (wrap u64 (wrap u64 (↑n : Int) * 8)) q1) 256)];
 let q3 := List.length q2;
 let q4 := decide (n = n);
 Z0 (decide ((↑i : Int) < 8)) (Z0 (decide (0 ≤ q1)) (Z0 (decide (u8 = u8 ∧ List.length ys = L)) (Z0 (decide (q3 * 1 ≤ 140737488355328)) (Z0 (decide (wrap i64 ((↑i : Int) + 1) = (↑(i + 1) : Int))) (Z0 (decide (q3 = L')) (Z0 (decide (L' ≤ q3)) (bs = bs ∧ Z0 q4 (q2 = zs ∧ Z1) False) False) False) False) False) False) False) (Z0 (decide ((↑i : Int) = (↑i : Int))) (Z0 (decide (L = L)) (Z0 (decide (L ≤ L)) (bs = bs ∧ Z0 q4 (ys = ys ∧ Z2) False) False) False) False)) (by kernel_rfl) ?_
 conv => zeta
 try simp only [Zi]
 try simp only [Zj]
 try simp only [Zk]
 try simp only [Zl]
 try simp only [Zm]
 try simp only [Zh]
 try simp only [Int.toNat_natCast, Nat.zero_add, true_and, and_true, Nat.le_refl]
 have hw : i64.wrap ((i : Int) + 1) = ((i + 1 : Nat) : Int) := w64 (by omega)
 refine ⟨fun hlt => ?_, fun hge => h2 (by omega)⟩
 have hz' : zs.length = L + 1 := by rw [hz, List.length_append, hL]; rfl
 have h0 : 0 ≤ u64.wrap (i64.wrap (56 - i64.wrap (8 * (i : Int)))) := by
  unfold wrap
  simp [IntKind.bits, IntKind.signed]
  omega
 simp only [List.length_append, List.length_cons, List.length_nil]
 rw [hw]
 repeat' (first | (refine And.intro ?_ ?_) | intro _)
 all_goals first | exact h0 | omega | exact hz.symm | exact h1 (by omega) | trivial
noncomputable def ZeY (bs y : List Int) (n : Nat) : Zg := G0.withL 123 0 (goM 0 (paS bs (y ++ XK n 0) n (y ++ XK n 0).length 0) (y.length ≤ 1000000000000) (Yv 0 8 9 (fun i => i < 8) (fun i => i = 8) (fun _ => False) (fun _ => False) (fun i => paS bs (y ++ XK n i) n (y ++ XK n i).length i) (fun i => paS bs (y ++ XK n i) n (y ++ XK n i).length i) (fun i => paS bs (y ++ XK n i) n (y ++ XK n i).length i)))
theorem Zcr (bs y : List Int) (n : Nat) : (ZeY bs y n).Ok := by
 unfold ZeY
 refine Zg.withGoM (N := 20) (S := fun i => paS bs (y ++ XK n i) n (y ++ XK n i).length i) Zw (by kernel_rfl) fun hC => ⟨rfl, fun i hi hgo => ?_⟩
 have hl : (y ++ XK n i).length = y.length + i := by rw [List.length_append, Z2g]
 exact ZfT bs (y ++ XK n i) (y ++ XK n (i + 1)) n _ _ i _ _ hi rfl (by omega) (by rw [XK, List.append_assoc]) rfl (fun h => ⟨h, h⟩) (fun h => h)
def Z0J (n : Nat) : List Int := List.replicate (Int.tmod (i64.wrap (128 - Int.tmod (i64.wrap ((n : Int) + 9)) 64)) 64).toNat 0
@[irreducible] def VW (bs : List Int) : List Int := (bs ++ [128] ++ Z0J bs.length) ++ XK bs.length 8
theorem Zcs (n : Nat) (h : n ≤ 100000000000) : Int.tmod (i64.wrap (128 - Int.tmod (i64.wrap ((n : Int) + 9)) 64)) 64 = (128 - ((n : Int) + 9) % 64) % 64 := by
 have e1 : i64.wrap ((n : Int) + 9) = (n : Int) + 9 := w64 (by omega)
 have e2 : Int.tmod ((n : Int) + 9) 64 = ((n : Int) + 9) % 64 := tm (by omega)
 have e3 : i64.wrap (128 - ((n : Int) + 9) % 64) = 128 - ((n : Int) + 9) % 64 := w64 (by omega)
 rw [e1, e2, e3, tm (by omega)]
theorem Zat (n : Nat) (h : n ≤ 100000000000) : (Z0J n).length ≤ 64 := by
 unfold Z0J
 rw [Zcs n h, List.length_replicate]
 omega
theorem ZfU (bs y r : List Int) (n L : Nat) (hn : bs.length = n) (hb : n ≤ 100000000000) (hy : y = bs ++ [128] ++ Z0J n) (hr : r = y ++ XK n 8) (hL : L = r.length) :
  evF (ZeY bs y n) 20 123 [.vints .u8 bs n] ⟨0, []⟩ (YQ 0 (.ret (.nslice ⟨0, 0, 0, 0, 0⟩ 1 L L)) 1 [(0, .ints .u8 r)]) := by
 refine @Eq.mpr _ (let q1 := [] ++ List.take n bs;
 let q2 := List.length q1;
 let q3 := q1 ++ [(128 : Int)];
 let q4 := List.length q3;
 let q5 := Int.tmod (wrap i64 (128 - Int.tmod (wrap i64 (↑n + 9)) 64)) 64;
 let q6 := Int.toNat q5;
 let q7 := q3 ++ List.replicate q6 0;
 let q8 := List.length q7;
 let q9 := y ++ XK (↑n) 0;
 let q10 := List.length q9;
 Z0 (decide (q2 * 1 ≤ 140737488355328))
 (Z0 (decide (u8 = u8 ∧ q2 = q2))
 (Z0 (decide (q4 * 1 ≤ 140737488355328))
 (Z0 (decide (u8 = u8 ∧ q4 = q4))
 (Z0 (decide ((0 : Int) = 0 ∧ 0 ≤ q5 ∧ (q4 + q6) * 1 ≤ 140737488355328))
 (Z0 (decide (q8 = q10))
 (Z0 (decide (q10 ≤ q8))
 (bs = bs ∧
 Z0 (decide (n = n))
 (q7 = q9 ∧
 List.length y ≤ 1000000000000 ∧
 ∀ (i : Nat),
 let q21 := y ++ XK (↑n) i;
 let q22 := List.length q21;
 i ≤ 8 → (∀ (j : Nat), j < i → (fun (i : Nat) => i < 8) j) → (i = 8 → Z0 (decide (q22 = L)) (Z0 (decide (L ≤ q22)) (q21 = r ∧ True) False) False) ∧ (False → False) ∧ (False → False))
 False)
 False)
 False)
 False)
 False)
 False)
 False)
 False) (by kernel_rfl) ?_
 conv => zeta
 try simp only [Zi]
 try simp only [Zj]
 try simp only [Zk]
 try simp only [Zl]
 try simp only [Zm]
 try simp only [Zh]
 try simp only [Int.toNat_natCast, Nat.zero_add, true_and, and_true, Nat.le_refl]
 have ht : List.take n bs = bs := by rw [← hn]; exact List.take_length
 have hz := Zat n hb
 have hx := Zcs n hb
 have e0 : [] ++ List.take n bs ++ [128] ++ List.replicate (Int.tmod (i64.wrap (128 - Int.tmod (i64.wrap ((n : Int) + 9)) 64)) 64).toNat 0 = y ++ XK n 0 := by rw [ht, hy]; simp [Z0J, XK]
 have hyl : y.length = n + 1 + (Z0J n).length := by rw [hy, List.length_append, List.length_append, hn]; rfl
 subst hL hr
 simp only [e0, ht, List.length_append, List.length_cons, List.length_nil, hn, List.nil_append]
 refine ⟨by omega, by omega, ⟨by omega, by omega⟩, ?_, ?_, ?_, by omega, fun i hi _ => ⟨fun he => by subst he; exact ⟨rfl, Nat.le_refl _, rfl⟩, fun h => h, fun h => h⟩⟩
 ·rw [hyl]; unfold Z0J XK; rfl
 ·rw [hyl]; unfold Z0J XK; exact Nat.le_refl _
 ·rw [hy]; simp [Z0J, XK]
theorem Z8W (bs : List Int) (h : bs.length ≤ 100000000000) : ZH PP 123 [.vints .u8 bs bs.length] (.nslice ⟨0, 0, 0, 0, 0⟩ 1 (VW bs).length (VW bs).length) 1 [(0, .ints .u8 (VW bs))] := .evM (Zcr bs _ _) (ZfU bs _ _ _ _ rfl h rfl (by unfold VW; rfl) rfl)
def ZdV (P : List Int → List Int) (B : Nat) : YR := fun args h K => ZY none h true 20 args fun a => Q2 a fun xs => Zt (xs.length ≤ B) (K (.ret (.nslice ⟨h.next, 0, 0, 0, 0⟩ 1 (P xs).length (P xs).length)) ⟨h.next + 1, (h.next, .ints .u8 (P xs)) :: h.bs⟩)
theorem Zau (B : Nat) (hB : B ≤ 100000000000) (args : List AV) (h : Z9) (K : KO) (hl : ZdV VW B args h K) : Zo PP 123 args h K := by
 refine ZH.fsumm (d := 20) (Zx _ _ _ _ _ hl fun a ha => ?_)
 obtain ⟨xs, rfl, hK⟩ := V7 ha
 obtain ⟨hx, hK⟩ := Ze hK
 exact ⟨_, _, _, _, Z8W xs (Nat.le_trans hx hB), rfl, ⟨Nat.one_pos, .ints _ _, trivial⟩, hK⟩
def toE (x d : Int) : Int := u8.wrap (Int.tmod (u32.wrap (Int.tdiv x d)) 256)
def toN (x : List Int) : Nat → List Int
 | 0 => Zd
 | i + 1 => ((((toN x i).set (4 * i) (u8.wrap (u32.wrap (Int.tdiv (x.getD i 0) 16777216)))).set (4 * i + 1) (toE (x.getD i 0) 65536)).set (4 * i + 2) (toE (x.getD i 0) 256)).set (4 * i + 3) (u8.wrap (Int.tmod (x.getD i 0) 256))
theorem Z4m (x : List Int) : ∀ i, (toN x i).length = 32
 | 0 => rfl
 | i + 1 => by simp [toN, Z4m x i]
def toS (x h : List Int) (i : Nat) : St := ⟨47, [(4, .int .i64 i), (1, pt 0), (3, pt 2), (2, pt 1)], ⟨3, [(2, .flat [.arr .u8 32 h]), (1, .flat [.arr .u8 32 Zd]), (0, .flat [.arr .u32 8 x])]⟩, []⟩
theorem Zhx (x h h' : List Int) (i : Nat) (Z1 Z2 : Prop) (hi : i ≤ 8) (hl : h.length = 32) (hh : h' = (((h.set (4 * i) (u8.wrap (u32.wrap (Int.tdiv (x.getD i 0) 16777216)))).set (4 * i + 1) (toE (x.getD i 0) 65536)).set (4 * i + 2) (toE (x.getD i 0) 256)).set (4 * i + 3) (u8.wrap (Int.tmod (x.getD i 0) 256))) (h1 : i < 8 → Z1) (h2 : i = 8 → Z2) :
  ZI G0 20 125 0 0 (toS x h i) (rdM 0 0 9 (toS x h' (i + 1)) (toS x h i) (toS x h i) (toS x h i) Z1 Z2 False False) := by
 refine @Eq.mpr _ (let q1 := decide (0 ≤ (↑i : Int) ∧ (↑i : Int) < 8);
 let q2 := 0 + Int.toNat (↑i : Int);
 let q3 := decide (q2 < 8);
 let q4 := wrap i64 (4 * (↑i : Int));
 let q5 := 0 + Int.toNat q4;
 let q6 := wrap i64 (q4 + 1);
 let q7 := 0 + Int.toNat q6;
 let q8 := List.getD x q2 0;
 let q9 := List.set h q5 (wrap u8 (wrap u32 (Int.tdiv q8 16777216)));
 let q10 := wrap i64 (q4 + 2);
 let q11 := 0 + Int.toNat q10;
 let q12 := List.set q9 q7 (wrap u8 (Int.tmod (wrap u32 (Int.tdiv q8 65536)) 256));
 let q13 := wrap i64 (q4 + 3);
 let q14 := 0 + Int.toNat q13;
 let q15 := List.set q12 q11 (wrap u8 (Int.tmod (wrap u32 (Int.tdiv q8 256)) 256));
 Z0 (decide ((↑i : Int) < 8)) (Z0 q1 (Z0 q3 (Z0 (decide (0 ≤ q4 ∧ q4 < 32)) (Z0 (decide (u8 = u8 ∧ q5 < 32 ∧ q5 < List.length h)) (Z0 q1 (Z0 q3 (Z0 (decide (0 ≤ q6 ∧ q6 < 32)) (Z0 (decide (u8 = u8 ∧ q7 < 32 ∧ q7 < List.length q9)) (Z0 q1 (Z0 q3 (Z0 (decide (0 ≤ q10 ∧ q10 < 32)) (Z0 (decide (u8 = u8 ∧ q11 < 32 ∧ q11 < List.length q12)) (Z0 q1 (Z0 q3 (Z0 (decide (0 ≤ q13 ∧ q13 < 32)) (Z0 (decide (u8 = u8 ∧ q14 < 32 ∧ q14 < List.length q15)) (Z0 (decide (wrap i64 ((↑i : Int) + 1) = (↑(i + 1) : Int))) (List.set q15 q14 (wrap u8 (Int.tmod q8 256)) = h' ∧ Zd = Zd ∧ x = x ∧ Z1) False) False) False) False) False) False) False) False) False) False) False) False) False) False) False) False) False) (Z0 (decide ((↑i : Int) = (↑i : Int))) (h = h ∧ Zd = Zd ∧ x = x ∧ Z2) False)) (by kernel_rfl) ?_
 conv => zeta
 try simp only [Zi]
 try simp only [Zj]
 try simp only [Zk]
 try simp only [Zl]
 try simp only [Zm]
 try simp only [Zh]
 try simp only [Int.toNat_natCast, Nat.zero_add, true_and, and_true, Nat.le_refl]
 have hw : i64.wrap ((i : Int) + 1) = ((i + 1 : Nat) : Int) := w64 (by omega)
 refine ⟨fun hlt => ?_, fun hge => h2 (by omega)⟩
 have e0 : i64.wrap (4 * (i : Int)) = ((4 * i : Nat) : Int) := by rw [w64 (by omega)]; omega
 have e1 : i64.wrap (((4 * i : Nat) : Int) + 1) = ((4 * i + 1 : Nat) : Int) := by rw [w64 (by omega)]; omega
 have e2 : i64.wrap (((4 * i : Nat) : Int) + 2) = ((4 * i + 2 : Nat) : Int) := by rw [w64 (by omega)]; omega
 have e3 : i64.wrap (((4 * i : Nat) : Int) + 3) = ((4 * i + 3 : Nat) : Int) := by rw [w64 (by omega)]; omega
 simp only [e0, e1, e2, e3, hw, Int.toNat_natCast, List.length_set]
 repeat' (first | (refine And.intro ?_ ?_) | intro _)
 all_goals first | omega | exact hh.symm | exact h1 (by omega) | trivial
noncomputable def ZeZ (x : List Int) : Zg := G0.withL 125 0 (goM 0 (toS x Zd 0) True (Yv 0 8 9 (fun i => i < 8) (fun i => i = 8) (fun _ => False) (fun _ => False) (fun i => toS x (toN x i) i) (fun i => toS x (toN x i) i) (fun i => toS x (toN x i) i)))
theorem Zct (x : List Int) : (ZeZ x).Ok := by
 unfold ZeZ
 refine Zg.withGoM (N := 20) (S := fun i => toS x (toN x i) i) Zw (by kernel_rfl) fun hC => ⟨rfl, fun i hi hgo => ?_⟩
 exact Zhx x (toN x i) (toN x (i + 1)) i _ _ hi (Z4m x i) rfl (fun h => ⟨h, h⟩) (fun h => h)
@[irreducible] def Vu (x : List Int) : List Int := toN x 8
attribute [irreducible] toN
theorem Zhy (x r : List Int) (hr : r = toN x 8) :
  evF (ZeZ x) 20 125 [.agg [.arr .u32 8 x]] ⟨0, []⟩ (W2 0 [] (.agg [.arr .u8 32 r]) 0 []) := by
 refine @Eq.mpr _ (Zd = Zd ∧ Zd = Zd ∧ x = x ∧ True ∧ ∀ (i : Nat), i ≤ 8 → (∀ (j : Nat), j < i → (fun (i : Nat) => i < 8) j) → (i = 8 → toN x i = r ∧ True) ∧ (False → Zd = r ∧ True) ∧ (False → False)) (by kernel_rfl) ?_
 try simp only [Zi]
 try simp only [Zj]
 try simp only [Zk]
 try simp only [Zl]
 try simp only [Zm]
 try simp only [Zh]
 try simp only [Int.toNat_natCast, Nat.zero_add, true_and, and_true, Nat.le_refl]
 subst hr
 exact fun i hi _ => ⟨fun he => by subst he; rfl, fun h => h.elim, fun h => h⟩
def Zav (T : List Int → List Int) : ZU := fun args _ K => match args with
 | [.agg [.arr .u32 8 x]] => K (.agg [.arr .u8 32 (T x)])
 | _ => False
theorem Zaw (args : List AV) (h : Z9) (K : AV → Prop) (hl : Zav Vu args h K) : Zo PP 125 args h fun o h' => ∃ v, o = .ret v ∧ h' = h ∧ K v := by
 unfold Zav at hl
 split at hl
 ·rename_i x
  refine Qs (d := 20) (K0 := fun l => l = [.agg [.arr .u32 8 x]]) ?_ fun l e => ⟨_, by rw [e]; exact (by unfold Vu; exact .ev (Zct x) (Zhy x _ rfl)), fun _ => rfl, hl⟩
  rfl
 ·exact hl.elim
end Go.Tk
end
section
namespace Go.Tk
open IntKind (i64 u8 u32 u64 wrap)
def Z4n (P : List Int → List Int → List Int) : ZU := fun args _ K => match args with
 | [.agg [.arr .u32 8 st], .agg [.arr .u8 64 bl]] => Zt (st.length = 8) (K (.agg [.arr .u32 8 (P st bl)]))
 | _ => False
structure Ul (P : List Int → List Int → List Int) : Prop where
 pure : ∀ st bl, st.length = 8 → ZH PP 124 [.agg [.arr .u32 8 st], .agg [.arr .u8 64 bl]] (.agg [.arr .u32 8 (P st bl)]) 0 []
 len : ∀ st bl, st.length = 8 → (P st bl).length = 8
theorem Z6Q {P : List Int → List Int → List Int} (hP : Ul P) (args : List AV) (h : Z9) (K : AV → Prop) (hl : Z4n P args h K) : Zo PP 124 args h fun o h' => ∃ v, o = .ret v ∧ h' = h ∧ K v := by
 unfold Z4n at hl
 split at hl
 ·rename_i st bl
  obtain ⟨hs, hK⟩ := Ze hl
  refine Qs (d := 20) (K0 := fun l => l = [.agg [.arr .u32 8 st], .agg [.arr .u8 64 bl]]) ?_ fun l e => ⟨_, by rw [e]; exact hP.pure st bl hs, fun _ => rfl, hK⟩
  rfl
 ·exact hl.elim
noncomputable def E56 (P : List Int → List Int → List Int) (Q : List Int → List Int) (T : List Int → List Int) (B : Nat) : Zg := ((G0.withP 124 (Z4n P)).withF 123 (ZdV Q B)).withP 125 (Zav T)
theorem Zf0 {P : List Int → List Int → List Int} (hP : Ul P) {B : Nat} (hB : B ≤ 100000000000) : (E56 P VW Vu B).Ok := Zg.withP_ok (Zg.withF_ok (Zg.withP_ok Zw (Z6Q hP)) (Zau B hB)) Zaw
def Zcu (ys st : List Int) (o n : Nat) : St := ⟨21, [(4, .nslice ⟨3, 0, 0, 0, o⟩ 1 n n), (3, pt 2), (2, pt 0)], ⟨4, [(3, .ints .u8 ys), (2, .flat [.arr .u32 8 st]), (0, .flat [.arr .u8 32 Zd])]⟩, []⟩
def Z8X (st : List Int) : St := ⟨21, [(3, pt 2), (2, pt 0)], ⟨4, [(2, .flat [.arr .u32 8 st]), (0, .flat [.arr .u8 32 Zd])]⟩, []⟩
theorem ZfV (P : List Int → List Int → List Int) (Q : List Int → List Int) (T : List Int → List Int) (B : Nat) (ys st st' : List Int) (o o' n n' k i : Nat) (Z1 Z2 : Prop) (hi : i ≤ k) (hk : ys.length = 64 * k) (ho : o = 64 * i) (ho' : o' = 64 * (i + 1)) (hn : n = 64 * k - 64 * i) (hn' : n' = 64 * k - 64 * (i + 1)) (hs : st.length = 8) (hst : st' = P st ((ys.drop o).take 64)) (h1 : i < k → Z1) (h2 : i = k → Z2) :
  ZI (E56 P Q T B) 20 87 0 0 (Zcu ys st o n) (rdM 0 0 9 (Zcu ys st' o' n') (Z8X st) (Z8X st) (Z8X st) Z1 Z2 False False) := by
 refine @Eq.mpr _ (let q1 := decide (n ≤ n);
 let q2 := decide ((0 : Int) ≤ 64 ∧ 64 ≤ (↑n : Int));
 let q3 := Qg n (some 64);
 Z0 (decide ((↑n : Int) > 0)) (Z0 q1 (Z0 q2 (Z0 (decide (o + 0 + 64 ≤ List.length ys)) (Z0 (decide (List.length st = 8)) (Z0 q1 (Z0 q2 (Z0 (decide (o + 64 = o')) (Z0 (decide (q3 = n')) (Z0 (decide (n' ≤ q3)) (ys = ys ∧ P st (List.take 64 (List.drop (o + 0) ys)) = st' ∧ Zd = Zd ∧ Z1) False) False) False) False) False) False) False) False) False) (st = st ∧ Zd = Zd ∧ Z2)) (by kernel_rfl) ?_
 conv => zeta
 try simp only [Zi]
 try simp only [Zj]
 try simp only [Zk]
 try simp only [Zl]
 try simp only [Zm]
 try simp only [Zh]
 try simp only [Int.toNat_natCast, Nat.zero_add, true_and, and_true, Nat.le_refl]
 refine ⟨fun hlt => ?_, fun hge => h2 (by omega)⟩
 have e1 : n - 64 = n' := by omega
 have e2 : o + 64 = o' := by omega
 simp only [Qg, e1, e2, Nat.add_zero]
 repeat' (first | (refine And.intro ?_ ?_) | intro _)
 all_goals first | omega | exact hst.symm | exact h1 (by omega) | trivial
def Us (P : List Int → List Int → List Int) (ys : List Int) : Nat → List Int
 | 0 => X3.st
 | i + 1 => P (Us P ys i) ((ys.drop (64 * i)).take 64)
theorem Z5n {P : List Int → List Int → List Int} (hP : Ul P) (ys : List Int) : ∀ i, (Us P ys i).length = 8
 | 0 => rfl
 | i + 1 => hP.len _ _ (Z5n hP ys i)
theorem Z3o (P : List Int → List Int → List Int) (ys : List Int) : Us P ys 0 = X3.st := rfl
theorem Z3p (P : List Int → List Int → List Int) (ys : List Int) (i : Nat) : Us P ys (i + 1) = P (Us P ys i) ((ys.drop (64 * i)).take 64) := rfl
attribute [irreducible] Us
noncomputable def Zf1 (P : List Int → List Int → List Int) (Q : List Int → List Int) (T : List Int → List Int) (B : Nat) (ys : List Int) (L k : Nat) : Zg := (E56 P Q T B).withL 87 0 (goM 0 (Zcu ys [1779033703, 3144134277, 1013904242, 2773480762, 1359893119, 2600822924, 528734635, 1541459225] 0 L) (ys.length = 64 * k ∧ L = 64 * k) (Yv 0 k 9 (fun i => i < k) (fun i => i = k) (fun _ => False) (fun _ => False) (fun i => Z8X (Us P ys i)) (fun i => Z8X (Us P ys i)) (fun i => Z8X (Us P ys i))))
theorem Zcv {P : List Int → List Int → List Int} (hP : Ul P) {B : Nat} (hB : B ≤ 100000000000) (ys : List Int) (L k : Nat) : (Zf1 P VW Vu B ys L k).Ok := by
 unfold Zf1
 refine Zg.withGoM (N := 20) (S := fun i => Zcu ys (Us P ys i) (64 * i) (64 * k - 64 * i)) (Zf0 hP hB) (by kernel_rfl) fun hC => ⟨?_, fun i hi hgo => ?_⟩
 ·rw [hC.2, Z3o]; rfl
 ·exact ZfV P VW Vu B ys (Us P ys i) (Us P ys (i + 1)) _ _ _ _ k i _ _ hi hC.1 rfl rfl rfl rfl (Z5n hP ys i) (Z3p _ _ _) (fun h => ⟨h, h⟩) (fun h => h)
theorem ZfW (P : List Int → List Int → List Int) (Q : List Int → List Int) (T : List Int → List Int) (B : Nat) (bs ys r : List Int) (n L k : Nat) (hn : n = bs.length) (hB : n ≤ B) (hy : ys = Q bs) (hL : L = ys.length) (hk : ys.length = 64 * k) (hr : r = T (Us P ys k)) :
  evF (Zf1 P Q T B ys L k) 20 87 [.vints .u8 bs n] ⟨0, []⟩ (W2 0 [] (.agg [.arr .u8 32 r]) 0 []) := by
 refine @Eq.mpr _ (let q1 := [(1779033703 : Int), 3144134277, 1013904242, 2773480762, 1359893119, 2600822924, 528734635, 1541459225];
 Z0 (decide (n = List.length bs)) (Z0 (decide (List.length bs ≤ B)) (Z0 (decide (List.length (Q bs) = L)) (Z0 (decide (L ≤ List.length (Q bs))) (Q bs = ys ∧ q1 = q1 ∧ Zd = Zd ∧ (List.length ys = 64 * k ∧ L = 64 * k) ∧ ∀ (i : Nat), i ≤ k → (∀ (j : Nat), j < i → (fun (i : Nat) => i < k) j) → (i = k → T (Us P ys i) = r ∧ True) ∧ (False → Zd = r ∧ True) ∧ (False → False)) False) False) False) False) (by kernel_rfl) ?_
 conv => zeta
 try simp only [Zi]
 try simp only [Zj]
 try simp only [Zk]
 try simp only [Zl]
 try simp only [Zm]
 try simp only [Zh]
 try simp only [Int.toNat_natCast, Nat.zero_add, true_and, and_true, Nat.le_refl]
 subst hy hr
 refine ⟨hn, by omega, ?_⟩
 exact ⟨hL.symm, by omega, rfl, ⟨hk, by omega⟩, fun i hi _ => ⟨fun he => by rw [he], fun h => h.elim, fun h => h⟩⟩
theorem Zax (bs : List Int) (h : bs.length ≤ 100000000000) : (VW bs).length = 64 * ((VW bs).length / 64) := by
 have : (VW bs).length = bs.length + 1 + ((128 - ((bs.length : Int) + 9) % 64) % 64).toNat + 8 := by
  unfold VW Z0J
  rw [Zcs _ h]
  simp only [List.length_append, List.length_cons, List.length_nil, Z2g, List.length_replicate]
 omega
@[irreducible] def Zay (P : List Int → List Int → List Int) (bs : List Int) : List Int := Vu (Us P (VW bs) ((VW bs).length / 64))
theorem Z8Y {P : List Int → List Int → List Int} (hP : Ul P) (bs : List Int) (h : bs.length ≤ 100000000000) : ZH PP 87 [.vints .u8 bs bs.length] (.agg [.arr .u8 32 (Zay P bs)]) 0 [] := by
 unfold Zay
 exact .ev (Zcv hP (Nat.le_refl _) _ _ _) (ZfW P VW Vu 100000000000 bs _ _ _ _ _ rfl h rfl rfl (Zax bs h) rfl)
def Zaz (H : List Int → List Int) (B : Nat) : ZU := fun args h K => ZY none h true 20 args fun a => Q2 a fun xs => Zt (xs.length ≤ B) (K (.agg [.arr .u8 32 (H xs)]))
theorem Z5o {f : FuncId} {H : List Int → List Int} {B : Nat} (hp : ∀ xs : List Int, xs.length ≤ B → ZH PP f [.vints .u8 xs xs.length] (.agg [.arr .u8 32 (H xs)]) 0 []) (args : List AV) (h : Z9) (K : AV → Prop) (hl : Zaz H B args h K) : Zo PP f args h fun o h' => ∃ v, o = .ret v ∧ h' = h ∧ K v := by
 refine ZH.psumm (d := 20) (Zx _ _ _ _ _ hl fun a ha => ?_)
 obtain ⟨xs, rfl, hK⟩ := V7 ha
 obtain ⟨hx, hK⟩ := Ze hK
 exact ⟨_, hp xs hx, fun _ => rfl, hK⟩
end Go.Tk
end
section
namespace Go.Tk
open IntKind (i64 u8 u32 u64 wrap)
end Go.Tk
end
section
namespace Go.Tk
open IntKind (i64 u8 u32 u64 wrap)
def U32 (x : Int) : Prop := 0 ≤ x ∧ x < 4294967296
theorem Z5p (x : Int) : u32.wrap x = x % 4294967296 := by
 unfold wrap
 simp [IntKind.bits, IntKind.signed]
theorem Z03 (x : Int) : U32 (u32.wrap x) := by rw [Z5p]; unfold U32; omega
theorem XE {x : Int} (h : U32 x) : u32.wrap x = x := by rw [Z5p]; unfold U32 at h; omega
theorem wr8 (x : Int) : u8.wrap x = x % 256 := by
 unfold wrap
 simp [IntKind.bits, IntKind.signed]
theorem ZfX (x y : Int) : U32 (bOr .u32 x y) := Z03 _
theorem Wt (x y : Nat) (hx : x < 4294967296) (hy : y < 4294967296) : YI .u32 x y = ((x ^^^ y : Nat) : Int) := by
 unfold YI
 rw [XE]
 ·show (((BitVec.ofInt 32 (x : Int) ^^^ BitVec.ofInt 32 (y : Int)).toNat : Nat) : Int) = _
  rw [BitVec.toNat_xor, BitVec.ofInt_natCast, BitVec.ofInt_natCast, BitVec.toNat_ofNat, BitVec.toNat_ofNat, Nat.mod_eq_of_lt hx, Nat.mod_eq_of_lt hy]
 ·unfold U32
  have := (BitVec.ofInt u32.bits x ^^^ BitVec.ofInt u32.bits y).isLt
  simp only [IntKind.bits] at this
  simp only [IntKind.bits]
  omega
theorem Z4o (x y : Nat) (hx : x < 4294967296) (hy : y < 4294967296) : bOr .u32 x y = ((x ||| y : Nat) : Int) := by
 unfold bOr
 rw [XE]
 ·show (((BitVec.ofInt 32 (x : Int) ||| BitVec.ofInt 32 (y : Int)).toNat : Nat) : Int) = _
  rw [BitVec.toNat_or, BitVec.ofInt_natCast, BitVec.ofInt_natCast, BitVec.toNat_ofNat, BitVec.toNat_ofNat, Nat.mod_eq_of_lt hx, Nat.mod_eq_of_lt hy]
 ·unfold U32
  have := (BitVec.ofInt u32.bits x ||| BitVec.ofInt u32.bits y).isLt
  simp only [IntKind.bits] at this
  simp only [IntKind.bits]
  omega
theorem Z2h (x y : Nat) (hx : x < 4294967296) (hy : y < 4294967296) : Z0D .u32 x y = ((x &&& y : Nat) : Int) := by
 unfold Z0D
 rw [XE]
 ·show (((BitVec.ofInt 32 (x : Int) &&& BitVec.ofInt 32 (y : Int)).toNat : Nat) : Int) = _
  rw [BitVec.toNat_and, BitVec.ofInt_natCast, BitVec.ofInt_natCast, BitVec.toNat_ofNat, BitVec.toNat_ofNat, Nat.mod_eq_of_lt hx, Nat.mod_eq_of_lt hy]
 ·unfold U32
  have := (BitVec.ofInt u32.bits x &&& BitVec.ofInt u32.bits y).isLt
  simp only [IntKind.bits] at this
  simp only [IntKind.bits]
  omega
theorem U32.nat {x : Int} (h : U32 x) : ∃ n : Nat, x = n ∧ n < 4294967296 := ⟨x.toNat, by unfold U32 at h; omega, by unfold U32 at h; omega⟩
theorem U32.of {n : Nat} (h : n < 4294967296) : U32 (n : Int) := by unfold U32; omega
theorem Z8Z {x y : Int} : YI .u32 x y = YI .u32 y x := by unfold YI; rw [BitVec.xor_comm]
theorem Z6R {x y z : Int} (hx : U32 x) (hy : U32 y) (hz : U32 z) : YI .u32 (YI .u32 x y) z = YI .u32 x (YI .u32 y z) := by
 obtain ⟨x, rfl, gx⟩ := hx.nat
 obtain ⟨y, rfl, gy⟩ := hy.nat
 obtain ⟨z, rfl, gz⟩ := hz.nat
 rw [Wt x y gx gy, Wt y z gy gz, Wt _ z (Nat.xor_lt_two_pow (n := 32) gx gy) gz, Wt x _ gx (Nat.xor_lt_two_pow (n := 32) gy gz), Nat.xor_assoc]
theorem Z90 {x : Int} (hx : U32 x) : YI .u32 0 x = x := by
 obtain ⟨x, rfl, gx⟩ := hx.nat
 have := Wt 0 x (by omega) gx
 simpa using this
theorem Z4p (x n : Nat) (hn : n ≤ 32) : Zy .u32 x n = ((x / 2 ^ n : Nat) : Int) := by
 unfold Zy
 have : min (n : Int).toNat u32.bits = n := by simp [IntKind.bits]; omega
 rw [this, Int.fdiv_eq_ediv_of_nonneg _ (Int.le_of_lt (Int.pow_pos (by decide)))]
 simp
theorem ZfY {x : Int} (hx : U32 x) (n : Nat) (hn : n ≤ 32) : U32 (Zy .u32 x n) := by
 obtain ⟨x, rfl, gx⟩ := hx.nat
 rw [Z4p x n hn]
 exact U32.of (Nat.lt_of_le_of_lt (Nat.div_le_self x (2 ^ n)) gx)
theorem Z6S (w n : Int) : U32 (Z6C w n) := ZfX _ _
theorem Z7J {w : Int} (hw : U32 w) (a b c : Int) : sg3 a b c w = W9 32 [a, b, c] w := by
 obtain ⟨x, rfl, gx⟩ := hw.nat
 have h0 : Zy .u32 (x : Int) 32 = 0 := by
  rw [show (32 : Int) = ((32 : Nat) : Int) from rfl, Z4p x 32 (by omega), Nat.div_eq_of_lt gx]
  rfl
 unfold sg3 W9
 simp only [List.foldl_cons, List.foldl_nil, h0, Z90 (Z6S _ _)]
theorem Z7K {w : Int} (hw : U32 w) (a b : Int) (n : Nat) (hn : n ≤ 32) : rg3 a b n w = W9 n [a, b] w := by
 have hs := ZfY hw n hn
 unfold rg3 W9
 simp only [List.foldl_cons, List.foldl_nil]
 rw [Z8Z, Z6R hs (Z6S _ _) (Z6S _ _)]
theorem Wg (x i : Nat) (hi : i ≤ 32) : Int.tmod (Zy .u32 x i) 2 = (((x.testBit i).toNat : Nat) : Int) := by
 rw [Z4p x i hi]
 rw [Int.tmod_eq_emod_of_nonneg (Int.natCast_nonneg _), Nat.toNat_testBit]
 rfl
theorem Z4q (b : Bool) (i : Nat) (hi : i < 32) : ZG .u32 ((b.toNat : Nat) : Int) i = ((2 ^ i * b.toNat : Nat) : Int) := by
 unfold ZG
 have : min (i : Int).toNat u32.bits = i := by simp [IntKind.bits]; omega
 rw [this]
 have h2 : (2 : Nat) ^ i < 2 ^ 32 := Nat.pow_lt_pow_right (by decide) hi
 have h3 : ((2 : Nat) ^ i * b.toNat) < 4294967296 := by cases b <;> simp_all
 rw [show ((b.toNat : Nat) : Int) * 2 ^ i = ((2 ^ i * b.toNat : Nat) : Int) by push_cast; rw [Int.mul_comm]]
 exact XE (U32.of h3)
theorem Z7L (x i : Nat) : x % 2 ^ (i + 1) = x % 2 ^ i + 2 ^ i * (x.testBit i).toNat := by
 rw [Nat.toNat_testBit, Nat.mod_pow_succ]
theorem Z7M (x i : Nat) (hx : x < 4294967296) (hi : i < 32) : u32.wrap (((x % 2 ^ i : Nat) : Int) + ((2 ^ i * (x.testBit i).toNat : Nat) : Int)) = ((x % 2 ^ (i + 1) : Nat) : Int) := by
 rw [Z7L]
 rw [XE]
 ·push_cast; rfl
 ·rw [show ((x % 2 ^ i : Nat) : Int) + ((2 ^ i * (x.testBit i).toNat : Nat) : Int) = ((x % 2 ^ i + 2 ^ i * (x.testBit i).toNat : Nat) : Int) by push_cast; rfl, ← Z7L]
  exact U32.of (Nat.lt_of_le_of_lt (Nat.mod_le _ _) hx)
theorem Z3q (a b c : Nat) (ha : a < 4294967296) (hb : b < 4294967296) (hc : c < 4294967296) : ∀ i, i ≤ 32 → WG a b c i = (((a &&& (b ||| c) ||| b &&& c) % 2 ^ i : Nat) : Int)
 | 0, _ => by simp [WG, Nat.mod_one]
 | i + 1, hi => by
  have hm : (a &&& (b ||| c) ||| b &&& c) < 4294967296 := Nat.or_lt_two_pow (n := 32) (Nat.lt_of_le_of_lt Nat.and_le_left ha) (Nat.lt_of_le_of_lt Nat.and_le_left hb)
  rw [WG, Z3q a b c ha hb hc i (by omega), Wg a i (by omega), Wg b i (by omega), Wg c i (by omega), ← Z7M _ i hm (by omega)]
  have ht : (a &&& (b ||| c) ||| b &&& c).testBit i = (a.testBit i && (b.testBit i || c.testBit i) || b.testBit i && c.testBit i) := by simp
  rw [ht]
  have h1 := Z4q true i (by omega)
  have hx : u32.wrap (((a &&& (b ||| c) ||| b &&& c) % 2 ^ i : Nat) : Int) = (((a &&& (b ||| c) ||| b &&& c) % 2 ^ i : Nat) : Int) := XE (U32.of (Nat.lt_of_le_of_lt (Nat.mod_le _ _) hm))
  rw [Z5p, Z5p]
  cases a.testBit i <;> cases b.testBit i <;> cases c.testBit i <;> simp at h1 hx ⊢ <;> first | rw [h1] | rw [hx]
theorem Zcw {a b c : Int} (ha : U32 a) (hb : U32 b) (hc : U32 c) : Xl a b c = bOr .u32 (Z0D .u32 a (bOr .u32 b c)) (Z0D .u32 b c) := by
 obtain ⟨a, rfl, ga⟩ := ha.nat
 obtain ⟨b, rfl, gb⟩ := hb.nat
 obtain ⟨c, rfl, gc⟩ := hc.nat
 have h1 := Nat.or_lt_two_pow (n := 32) gb gc
 have h2 : a &&& (b ||| c) < 4294967296 := Nat.lt_of_le_of_lt Nat.and_le_left ga
 have h3 : b &&& c < 4294967296 := Nat.lt_of_le_of_lt Nat.and_le_left gb
 rw [Z4o b c gb gc, Z2h a _ ga h1, Z2h b c gb gc, Z4o _ _ h2 h3]
 unfold Xl
 rw [Z3q a b c ga gb gc 32 (by omega), Nat.mod_eq_of_lt]
 exact Nat.or_lt_two_pow (n := 32) h2 h3
theorem Z3r (a b c : Nat) (ha : a < 4294967296) (hb : b < 4294967296) (hc : c < 4294967296) : ∀ i, i ≤ 32 → V9 a b c i = (((c ^^^ (a &&& (b ^^^ c))) % 2 ^ i : Nat) : Int)
 | 0, _ => by simp [V9, Nat.mod_one]
 | i + 1, hi => by
  have hm : (c ^^^ (a &&& (b ^^^ c))) < 4294967296 := Nat.xor_lt_two_pow (n := 32) hc (Nat.lt_of_le_of_lt Nat.and_le_left ha)
  rw [V9, Z3r a b c ha hb hc i (by omega), Wg a i (by omega), Wg b i (by omega), Wg c i (by omega), ← Z7M _ i hm (by omega)]
  have ht : (c ^^^ (a &&& (b ^^^ c))).testBit i = (c.testBit i ^^ (a.testBit i && (b.testBit i ^^ c.testBit i))) := by simp
  rw [ht]
  have h1 := Z4q true i (by omega)
  have h0 := Z4q false i (by omega)
  cases a.testBit i <;> cases b.testBit i <;> cases c.testBit i <;> simp at h1 h0 ⊢ <;> first | rw [h1] | rw [h0, Int.add_zero]
theorem Zcx {a b c : Int} (ha : U32 a) (hb : U32 b) (hc : U32 c) : Xf a b c = YI .u32 c (Z0D .u32 a (YI .u32 b c)) := by
 obtain ⟨a, rfl, ga⟩ := ha.nat
 obtain ⟨b, rfl, gb⟩ := hb.nat
 obtain ⟨c, rfl, gc⟩ := hc.nat
 have h1 := Nat.xor_lt_two_pow (n := 32) gb gc
 have h2 : a &&& (b ^^^ c) < 4294967296 := Nat.lt_of_le_of_lt Nat.and_le_left ga
 rw [Wt b c gb gc, Z2h a _ ga h1, Wt _ _ gc h2]
 unfold Xf
 rw [Z3r a b c ga gb gc 32 (by omega), Nat.mod_eq_of_lt]
 exact Nat.xor_lt_two_pow (n := 32) gc h2
theorem Z3s (bl : List Int) (t : Nat) : XY bl (t + 1) = (XY bl t).set t (if t < 16 then Z6P bl t else Zas (XY bl t) t) := by rw [XY]
theorem Z3t (bl : List Int) (s t : Nat) (hs : s < t) : ∀ u, (XY bl (t + u)).getD s 0 = (XY bl t).getD s 0
 | 0 => rfl
 | u + 1 => by
  rw [← Nat.add_assoc, Z3s, ← Z3t bl s t hs u]
  simp only [List.getD_eq_getElem?_getD]
  rw [List.getElem?_set_ne (by omega)]
@[irreducible] def Z0K (bl : List Int) (t : Nat) : Int := (XY bl 64).getD t 0
theorem Qx (bl : List Int) {s t : Nat} (hs : s < t) (ht : t ≤ 64) : (XY bl t).getD s 0 = Z0K bl s := by
 unfold Z0K
 have := Z3t bl s t hs (64 - t)
 rw [show t + (64 - t) = 64 by omega] at this
 exact this.symm
theorem Z7N (bl : List Int) {t : Nat} (ht : t < 64) : Z0K bl t = if t < 16 then Z6P bl t else Zas (XY bl t) t := by
 rw [← Qx bl (Nat.lt_succ_self t) (by omega), Z3s]
 simp only [List.getD_eq_getElem?_getD]
 rw [List.getElem?_set_self (by rw [Z2e]; omega)]
 rfl
theorem Z7O (bl : List Int) {t : Nat} (ht : t < 16) : Z0K bl t = Z6P bl t := by rw [Z7N bl (by omega), if_pos ht]
theorem Z7P (bl : List Int) {t : Nat} (h16 : 16 ≤ t) (ht : t < 64) : Z0K bl t = u32.wrap (u32.wrap (u32.wrap (rg3 17 19 10 (Z0K bl (t - 2)) + Z0K bl (t - 7)) + rg3 7 18 3 (Z0K bl (t - 15))) + Z0K bl (t - 16)) := by
 rw [Z7N bl (by omega), if_neg (by omega)]
 unfold Zas
 rw [Qx bl (by omega) (by omega), Qx bl (by omega) (by omega), Qx bl (by omega) (by omega), Qx bl (by omega) (by omega)]
theorem ZaA (bl : List Int) {t : Nat} (ht : t < 64) : U32 (Z0K bl t) := by
 by_cases h : t < 16
 ·rw [Z7O bl h]; exact Z03 _
 ·rw [Z7P bl (by omega) ht]; exact Z03 _
theorem Qy (t : Nat) : mAt (t : Int) = t % 16 := by
 unfold mAt
 rw [tm (by omega)]
 omega
theorem WH (i t : Nat) (hi : i < 8) (ht : t ≤ 64) : atI (i : Int) (t : Int) = (i + 64 - t) % 8 := by
 unfold atI
 rw [w64 (x := (i : Int) + 64) (by omega), w64 (by omega), tm (by omega)]
 omega
theorem Z2i (l : List Int) (i j : Nat) (x : Int) (hi : i < l.length) : (l.set i x).getD j 0 = if i = j then x else l.getD j 0 := by
 simp only [List.getD_eq_getElem?_getD]
 by_cases h : i = j
 ·subst h
  rw [List.getElem?_set_self hi, if_pos rfl]; rfl
 ·rw [List.getElem?_set_ne h, if_neg h]
def Ring (bl r : List Int) (t : Nat) : Prop := r.length = 16 ∧ ∀ s, s < max 16 t → max 16 t ≤ s + 16 → r.getD (s % 16) 0 = Z0K bl s
theorem Ring.step {bl r : List Int} {t : Nat} (h : Ring bl r t) (ht : t < 64) : Ring bl (Q0 t r) (t + 1) := by
 obtain ⟨hl, hr⟩ := h
 refine ⟨by rw [Z5j, hl], fun s h1 h2 => ?_⟩
 unfold Q0
 by_cases h16 : t < 16
 ·rw [if_neg (by omega)]
  exact hr s (by omega) (by omega)
 ·rw [if_pos (by omega)]
  have w1 : i64.wrap ((t : Int) + 1) = ((t + 1 : Nat) : Int) := by rw [w64 (by omega)]; omega
  have w9 : i64.wrap ((t : Int) + 9) = ((t + 9 : Nat) : Int) := by rw [w64 (by omega)]; omega
  have w14 : i64.wrap ((t : Int) + 14) = ((t + 14 : Nat) : Int) := by rw [w64 (by omega)]; omega
  have r0 := hr (t - 16) (by omega) (by omega)
  have r1 := hr (t - 15) (by omega) (by omega)
  have r9 := hr (t - 7) (by omega) (by omega)
  have r14 := hr (t - 2) (by omega) (by omega)
  rw [show (t - 16) % 16 = t % 16 by omega] at r0
  rw [show (t - 15) % 16 = (t + 1) % 16 by omega] at r1
  rw [show (t - 7) % 16 = (t + 9) % 16 by omega] at r9
  rw [show (t - 2) % 16 = (t + 14) % 16 by omega] at r14
  rw [w1, w9, w14, Qy, Qy, Qy, Qy, r0, r1, r9, r14, Z2i _ _ _ _ (by rw [hl]; omega)]
  by_cases hs : s = t
  ·subst hs
   rw [if_pos rfl, Z7P bl (by omega) ht]
   have e1 := Z7K (ZaA bl (t := s - 2) (by omega)) 17 19 10 (by omega)
   have e2 := Z7K (ZaA bl (t := s - 15) (by omega)) 7 18 3 (by omega)
   rw [show ((10 : Nat) : Int) = 10 from rfl] at e1
   rw [show ((3 : Nat) : Int) = 3 from rfl] at e2
   rw [e1, e2]
   simp only [Z5p]
   omega
  ·rw [if_neg (by omega)]
   exact hr s (by omega) (by omega)
def U8 (x : Int) : Prop := 0 ≤ x ∧ x < 256
theorem Z11 (x n : Nat) (hn : n ≤ 32) (h : x * 2 ^ n < 4294967296) : ZG .u32 x n = ((x * 2 ^ n : Nat) : Int) := by
 unfold ZG
 have : min (n : Int).toNat u32.bits = n := by simp [IntKind.bits]; omega
 rw [this, show (x : Int) * 2 ^ n = ((x * 2 ^ n : Nat) : Int) by push_cast; rfl]
 exact XE (U32.of h)
theorem Z12 (x y : Nat) (hx : x < 16777216) (hy : y < 256) : bOr .u32 (ZG .u32 x 8) y = ((x * 256 + y : Nat) : Int) := by
 have := Z11 x 8 (by omega) (by omega)
 rw [show ((8 : Nat) : Int) = 8 from rfl] at this
 rw [this, Z4o _ _ (by omega) (by omega), ← Nat.shiftLeft_eq, ← Nat.shiftLeft_add_eq_or_of_lt (by omega), Nat.shiftLeft_eq]
theorem VX {P : Int → Prop} {l : List Int} (h : ∀ x ∈ l, P x) (h0 : P 0) (i : Nat) : P (l.getD i 0) := by
 rw [List.getD_eq_getElem?_getD]
 cases hg : l[i]? with
 | none => exact h0
 | some x => exact h x (List.mem_of_getElem? hg)
theorem U8.nat {x : Int} (h : U8 x) : ∃ n : Nat, x = n ∧ n < 256 := ⟨x.toNat, by unfold U8 at h; omega, by unfold U8 at h; omega⟩
theorem Zcy (bl : List Int) (hb : ∀ x ∈ bl, U8 x) (t : Nat) : XL bl (4 * t) = Z6P bl t := by
 unfold XL Z6P
 obtain ⟨a, ea, ha⟩ := (VX (P := U8) hb (by unfold U8; omega) (4 * t)).nat
 obtain ⟨b, eb, hb'⟩ := (VX (P := U8) hb (by unfold U8; omega) (4 * t + 1)).nat
 obtain ⟨c, ec, hc⟩ := (VX (P := U8) hb (by unfold U8; omega) (4 * t + 2)).nat
 obtain ⟨d, ed, hd⟩ := (VX (P := U8) hb (by unfold U8; omega) (4 * t + 3)).nat
 rw [ea, eb, ec, ed]
 rw [XE (x := (a : Int)) (U32.of (by omega)), XE (x := (b : Int)) (U32.of (by omega)), XE (x := (c : Int)) (U32.of (by omega)), XE (x := (d : Int)) (U32.of (by omega))]
 have z := Z12 0 a (by omega) ha
 have s0 : ZG .u32 0 8 = 0 := by decide
 rw [show ZG .u32 ((0 : Nat) : Int) 8 = 0 from s0] at z
 rw [z, Z12 _ b (by omega) hb', Z12 _ c (by omega) hc, Z12 _ d (by omega) hd]
 have g1 := Z11 a 24 (by omega) (by omega)
 have g2 := Z11 b 16 (by omega) (by omega)
 have g3 := Z11 c 8 (by omega) (by omega)
 rw [show ((24 : Nat) : Int) = 24 from rfl] at g1
 rw [show ((16 : Nat) : Int) = 16 from rfl] at g2
 rw [show ((8 : Nat) : Int) = 8 from rfl] at g3
 rw [g1, g2, g3]
 simp only [Z5p]
 omega
theorem Ring.first (bl : List Int) (hb : ∀ x ∈ bl, U8 x) : Ring bl (Wr bl) 0 := by
 refine ⟨rfl, fun s h1 _ => ?_⟩
 have h16 : s < 16 := by omega
 rw [Z7O bl h16, ← Zcy bl hb, Nat.mod_eq_of_lt h16]
 have : s = 0 ∨ s = 1 ∨ s = 2 ∨ s = 3 ∨ s = 4 ∨ s = 5 ∨ s = 6 ∨ s = 7 ∨ s = 8 ∨ s = 9 ∨ s = 10 ∨ s = 11 ∨ s = 12 ∨ s = 13 ∨ s = 14 ∨ s = 15 := by omega
 rcases this with rfl | rfl | rfl | rfl | rfl | rfl | rfl | rfl | rfl | rfl | rfl | rfl | rfl | rfl | rfl | rfl <;> rfl
def Z2j (x y : List Int) (t : Nat) : Prop := x.length = 8 ∧ ∀ i, i < 8 → x.getD ((i + 64 - t) % 8) 0 = y.getD i 0
theorem Z2j.step {x y m : List Int} {w : Int} {t : Nat} (h : Z2j x y t) (hU : ∀ i, i < 8 → U32 (y.getD i 0)) (ht : t < 64) (hm : m.getD (t % 16) 0 = w) :
  Z2j (Z2P t m x) (Z0r Xl Xf (WN.getD t 0) w y) (t + 1) := by
 obtain ⟨hl, hr⟩ := h
 have a0 := WH 0 t (by omega) (by omega)
 have a1 := WH 1 t (by omega) (by omega)
 have a2 := WH 2 t (by omega) (by omega)
 have a3 := WH 3 t (by omega) (by omega)
 have a4 := WH 4 t (by omega) (by omega)
 have a5 := WH 5 t (by omega) (by omega)
 have a6 := WH 6 t (by omega) (by omega)
 have a7 := WH 7 t (by omega) (by omega)
 have h0 := hr 0 (by omega)
 have h1 := hr 1 (by omega)
 have h2 := hr 2 (by omega)
 have h3 := hr 3 (by omega)
 have h4 := hr 4 (by omega)
 have h5 := hr 5 (by omega)
 have h6 := hr 6 (by omega)
 have h7 := hr 7 (by omega)
 rw [← a0] at h0
 rw [← a1] at h1
 rw [← a2] at h2
 rw [← a3] at h3
 rw [← a4] at h4
 rw [← a5] at h5
 rw [← a6] at h6
 rw [← a7] at h7
 refine ⟨by rw [Z5k, hl], ?_⟩
 have hadd : Z00 t m x = u32.wrap (u32.wrap (u32.wrap (u32.wrap (y.getD 7 0 + sg3 6 11 25 (y.getD 4 0)) + Xf (y.getD 4 0) (y.getD 5 0) (y.getD 6 0)) + WN.getD t 0) + w) := by
  unfold Z00
  rw [Qy, hm]
  rw [show atI 7 (t : Int) = atI ((7 : Nat) : Int) t from rfl, show atI 4 (t : Int) = atI ((4 : Nat) : Int) t from rfl, show atI 5 (t : Int) = atI ((5 : Nat) : Int) t from rfl, show atI 6 (t : Int) = atI ((6 : Nat) : Int) t from rfl]
  rw [h4, h5, h6, h7, Z7J (hU 4 (by omega)), Zcx (hU 4 (by omega)) (hU 5 (by omega)) (hU 6 (by omega))]
  rw [Nat.zero_add, Int.toNat_natCast]
 unfold Z2P
 rw [hadd]
 rw [show atI 7 (t : Int) = atI ((7 : Nat) : Int) t from rfl, show atI 3 (t : Int) = atI ((3 : Nat) : Int) t from rfl, show atI 0 (t : Int) = atI ((0 : Nat) : Int) t from rfl, show atI 1 (t : Int) = atI ((1 : Nat) : Int) t from rfl, show atI 2 (t : Int) = atI ((2 : Nat) : Int) t from rfl]
 rw [h0, h1, h2, h3, ← Zcw (hU 0 (by omega)) (hU 1 (by omega)) (hU 2 (by omega)), ← Z7J (hU 0 (by omega)), a3, a7]
 intro i hi
 rw [Z2i _ _ _ _ (by rw [List.length_set, hl]; omega), Z2i _ _ _ _ (by rw [hl]; omega)]
 unfold Z0r
 have : i = 0 ∨ i = 1 ∨ i = 2 ∨ i = 3 ∨ i = 4 ∨ i = 5 ∨ i = 6 ∨ i = 7 := by omega
 rcases this with rfl | rfl | rfl | rfl | rfl | rfl | rfl | rfl
 ·rw [if_pos (by omega)]
  simp only [Z5p, List.getD_cons_zero]
  omega
 ·rw [if_neg (by omega), if_neg (by omega), show (1 + 64 - (t + 1)) % 8 = (0 + 64 - t) % 8 by omega, hr 0 (by omega)]; rfl
 ·rw [if_neg (by omega), if_neg (by omega), show (2 + 64 - (t + 1)) % 8 = (1 + 64 - t) % 8 by omega, hr 1 (by omega)]; rfl
 ·rw [if_neg (by omega), if_neg (by omega), show (3 + 64 - (t + 1)) % 8 = (2 + 64 - t) % 8 by omega, hr 2 (by omega)]; rfl
 ·rw [if_neg (by omega), if_pos (by omega)]; rfl
 ·rw [if_neg (by omega), if_neg (by omega), show (5 + 64 - (t + 1)) % 8 = (4 + 64 - t) % 8 by omega, hr 4 (by omega)]; rfl
 ·rw [if_neg (by omega), if_neg (by omega), show (6 + 64 - (t + 1)) % 8 = (5 + 64 - t) % 8 by omega, hr 5 (by omega)]; rfl
 ·rw [if_neg (by omega), if_neg (by omega), show (7 + 64 - (t + 1)) % 8 = (6 + 64 - t) % 8 by omega, hr 6 (by omega)]; rfl
theorem Zcz {k w : Int} {y : List Int} (hU : ∀ i, i < 8 → U32 (y.getD i 0)) : ∀ i, i < 8 → U32 ((Z0r Xl Xf k w y).getD i 0) := by
 intro i hi
 unfold Z0r
 have : i = 0 ∨ i = 1 ∨ i = 2 ∨ i = 3 ∨ i = 4 ∨ i = 5 ∨ i = 6 ∨ i = 7 := by omega
 rcases this with rfl | rfl | rfl | rfl | rfl | rfl | rfl | rfl
 ·exact Z03 _
 ·exact hU 0 (by omega)
 ·exact hU 1 (by omega)
 ·exact hU 2 (by omega)
 ·exact Z03 _
 ·exact hU 4 (by omega)
 ·exact hU 5 (by omega)
 ·exact hU 6 (by omega)
def W8 (st : List Int) : Prop := st.length = 8 ∧ ∀ x ∈ st, U32 x
theorem W8.get {st : List Int} (h : W8 st) (i : Nat) : U32 (st.getD i 0) := VX h.2 (by unfold U32; omega) i
theorem Z5q (bl st : List Int) (hb : ∀ x ∈ bl, U8 x) (hs : W8 st) : ∀ t, t ≤ 64 → Ring bl (Wa (Wr bl) st t).1 t ∧ Z2j (Wa (Wr bl) st t).2 (VV Xl Xf (XY bl 64) st t) t ∧ ∀ i, i < 8 → U32 ((VV Xl Xf (XY bl 64) st t).getD i 0)
 | 0, _ => by
  rw [Z3d, Z8V]
  refine ⟨Ring.first bl hb, ⟨hs.1, fun i hi => ?_⟩, fun i _ => hs.get i⟩
  rw [show (i + 64 - 0) % 8 = i by omega]
 | t + 1, h => by
  obtain ⟨h1, h2, h3⟩ := Z5q bl st hb hs t (by omega)
  rw [Z3e, Z8U]
  have hR := h1.step (by omega)
  refine ⟨hR, h2.step h3 (by omega) ?_, Zcz h3⟩
  rw [hR.2 t (by omega) (by omega)]
  unfold Z0K
  rfl
theorem Z91 (st x : List Int) (i : Nat) : WO st x (i + 1) = (WO st x i).set i (u32.wrap ((WO st x i).getD i 0 + st.getD i 0)) := by rw [WO]
theorem Z92 (st x : List Int) : WO st x 0 = x := by rw [WO]
theorem ZcA (st x : List Int) (hs : st.length = 8) (hx : x.length = 8) : WO st x 8 = Z8N st x := by
 obtain ⟨a0, a1, a2, a3, a4, a5, a6, a7, rfl⟩ := eight st hs
 obtain ⟨b0, b1, b2, b3, b4, b5, b6, b7, rfl⟩ := eight x hx
 simp only [Z91, Z92]
 simp [Z8N, List.set, Int.add_comm]
theorem Z6T {x y : List Int} (h : Z2j x y 64) (hy : y.length = 8) : y = x := by
 obtain ⟨h4, h5⟩ := h
 obtain ⟨a0, a1, a2, a3, a4, a5, a6, a7, rfl⟩ := eight _ hy
 obtain ⟨b0, b1, b2, b3, b4, b5, b6, b7, rfl⟩ := eight _ h4
 have g0 := h5 0 (by omega)
 have g1 := h5 1 (by omega)
 have g2 := h5 2 (by omega)
 have g3 := h5 3 (by omega)
 have g4 := h5 4 (by omega)
 have g5 := h5 5 (by omega)
 have g6 := h5 6 (by omega)
 have g7 := h5 7 (by omega)
 simp at g0 g1 g2 g3 g4 g5 g6 g7
 simp [g0, g1, g2, g3, g4, g5, g6, g7]
theorem Z5r (st bl : List Int) (hb : ∀ x ∈ bl, U8 x) (hs : W8 st) : XD st bl = XX st bl := by
 obtain ⟨_, h2, h3⟩ := Z5q bl st hb hs 64 (by omega)
 have hl := Qw (M := Xl) (P := Xf) (m := XY bl 64) hs.1 64
 unfold XD XX
 rw [ZcA _ _ hs.1 hl]
 congr 1
 exact Z6T h2 hl
theorem Z5s (st bl : List Int) (hs : st.length = 8) : W8 (XX st bl) := by
 refine ⟨Z3f st bl hs, fun x hx => ?_⟩
 unfold XX Z8N at hx
 obtain ⟨i, hi, rfl⟩ := List.getElem_of_mem hx
 simp only [List.getElem_zipWith]
 exact Z03 _
def Ut (P : List Int → List Int → List Int) : Nat → List Int → List Int → List Int
 | 0, st, _ => st
 | n + 1, st, ms => Ut P n (P st (ms.take 64)) (ms.drop 64)
theorem Z04 (P : List Int → List Int → List Int) : ∀ (n : Nat) (st ms : List Int), Ut P (n + 1) st ms = P (Ut P n st ms) ((ms.drop (64 * n)).take 64)
 | 0, _, _ => rfl
 | n + 1, st, ms => by
  rw [Ut, Z04 P n, List.drop_drop]
  rw [show 64 + 64 * n = 64 * (n + 1) by omega]
  rfl
theorem Z2k (P : List Int → List Int → List Int) : ∀ (n : Nat) (st ms more : List Int), 64 * n ≤ ms.length → Ut P n st (ms ++ more) = Ut P n st ms
 | 0, _, _, _, _ => rfl
 | n + 1, st, ms, more, h => by
  rw [Ut, Ut, List.take_append_of_le_length (by omega), List.drop_append_of_le_length (by omega), Z2k P n _ _ _ (by rw [List.length_drop]; omega)]
theorem Z2l : ∀ (n : Nat) (st ms : List Int), W8 st → (∀ x ∈ ms, U8 x) → Ut XD n st ms = Ut XX n st ms
 | 0, _, _, _, _ => rfl
 | n + 1, st, ms, hs, hm => by
  rw [Ut, Ut, Z5r st _ (fun x hx => hm x (List.mem_of_mem_take hx)) hs]
  exact Z2l n _ _ (Z5s st _ hs.1) fun x hx => hm x (List.mem_of_mem_drop hx)
structure Rep (r : Zz) (ms : List Int) : Prop where
 came : r.came = ms.length
 st : r.st = Ut XX (ms.length / 64) X3.st ms
 len : r.part.length = 64
 part : r.part.take (ms.length % 64) = ms.drop (64 * (ms.length / 64))
theorem Rep.ok {r : Zz} {ms : List Int} (h : Rep r ms) (h8 : r.st.length = 8) : r.Ok := ⟨h8, h.len, by rw [h.came]; omega⟩
theorem Rep.one {r : Zz} {ms : List Int} (h : Rep r ms) (bs : List Int) : Rep (r.one bs) (ms ++ wTk r.came bs) := by
 have ha : wAt r.came = ms.length % 64 := by
  unfold wAt
  rw [h.came, tm (by omega)]
  omega
 have hk : (wTk r.came bs).length ≤ 64 - ms.length % 64 := by
  unfold wTk
  rw [ha, List.length_take]
  omega
 have hdl : (ms.drop (64 * (ms.length / 64))).length = ms.length % 64 := by rw [List.length_drop]; omega
 have hp : V3 r.part r.came bs = ms.drop (64 * (ms.length / 64)) ++ wTk r.came bs ++ r.part.drop (ms.length % 64 + (wTk r.came bs).length) := by
  unfold V3 spl
  rw [ha, h.part]
 have hl : (V3 r.part r.came bs).length = 64 := by
  rw [hp, List.length_append, List.length_append, hdl, List.length_drop, h.len]
  omega
 have hst : (r.one bs).st = if ms.length % 64 + (wTk r.came bs).length = 64 then XX r.st (V3 r.part r.came bs) else r.st := by
  show wSt _ _ _ _ = _
  unfold wSt
  rw [ha]
 have hca : (r.one bs).came = r.came + (wTk r.came bs).length := rfl
 have hpa : (r.one bs).part = V3 r.part r.came bs := rfl
 generalize wTk r.came bs = tk at *
 generalize V3 r.part r.came bs = pa at *
 have hal : (ms ++ tk).length = ms.length + tk.length := List.length_append
 refine ⟨by rw [hca, h.came, hal]; omega, ?_, by rw [hpa]; exact hl, ?_⟩
 ·rw [hst, h.st]
  by_cases h64 : ms.length % 64 + tk.length = 64
  ·rw [if_pos h64, hal, show (ms.length + tk.length) / 64 = ms.length / 64 + 1 by omega, Z04, Z2k _ _ _ _ _ (by omega)]
   congr 1
   rw [List.drop_append_of_le_length (by omega), hp, show r.part.drop (ms.length % 64 + tk.length) = [] from List.drop_eq_nil_of_le (by rw [h.len]; omega), List.append_nil, List.take_of_length_le (by rw [List.length_append, hdl]; omega)]
  ·rw [if_neg h64, hal, show (ms.length + tk.length) / 64 = ms.length / 64 by omega, Z2k _ _ _ _ _ (by omega)]
 ·rw [hpa, hal]
  by_cases h64 : ms.length % 64 + tk.length = 64
  ·rw [show (ms.length + tk.length) % 64 = 0 by omega, List.take_zero, List.drop_eq_nil_of_le (by rw [hal]; omega)]
  ·rw [show (ms.length + tk.length) / 64 = ms.length / 64 by omega, show (ms.length + tk.length) % 64 = ms.length % 64 + tk.length by omega, hp, List.drop_append_of_le_length (by omega)]
   rw [List.take_append_of_le_length (by rw [List.length_append, hdl]; omega)]
   exact List.take_of_length_le (by rw [List.length_append, hdl]; omega)
theorem Rep.many : ∀ (n : Nat) (r : Zz) (ms bs : List Int), r.Ok → Rep r ms → bs.length ≤ n → Rep (Zz.many n r bs).1 (ms ++ bs)
 | 0, r, ms, bs, _, h, hn => by
  have : bs = [] := List.eq_nil_of_length_eq_zero (by omega)
  subst this
  rw [List.append_nil]
  exact h
 | n + 1, r, ms, bs, hr, h, hn => by
  unfold Zz.many
  split
  ·rw [List.append_nil]; exact h
  ·rename_i b bs
   have hp := Ui hr (bs := b :: bs) (by simp)
   have hb : (b :: bs) = wTk r.came (b :: bs) ++ (b :: bs).drop (wTk r.came (b :: bs)).length := by
    unfold wTk
    rw [List.length_take]
    by_cases h : 64 - wAt r.came ≤ (b :: bs).length
    ·rw [Nat.min_eq_left h, List.take_append_drop]
    ·rw [Nat.min_eq_right (by omega), List.take_of_length_le (by omega), List.drop_length, List.append_nil]
   have := Rep.many n _ _ ((b :: bs).drop (wTk r.came (b :: bs)).length) (hr.one _) (h.one (b :: bs)) (by rw [List.length_drop]; simp only [List.length_cons] at hn ⊢; omega)
   rw [List.append_assoc, ← hb] at this
   exact this
theorem Rep.write {r : Zz} {ms : List Int} (hr : r.Ok) (h : Rep r ms) (bs : List Int) : Rep (r.write bs) (ms ++ bs) := by
 unfold Zz.write
 exact Rep.many _ _ _ _ hr h (Nat.le_refl _)
theorem Rep.init : Rep X3 [] := ⟨rfl, rfl, rfl, rfl⟩
def Z05 (bs : List Int) : List Int := bs ++ Ur bs.length ++ len8 bs.length
def Z6U (P : List Int → List Int → List Int) (bs : List Int) : List Int := Z5l (Ut P ((Z05 bs).length / 64) X3.st (Z05 bs))
theorem Rep.fin {r : Zz} {ms : List Int} (hr : r.Ok) (h : Rep r ms) : r.fin = Z6U XX ms := by
 have h1 := h.write hr (Ur r.came)
 have h2 := h1.write (V4 _ _ hr) (len8 r.came)
 unfold Zz.fin Z6U
 rw [h2.st, h.came]
 rfl
theorem ZaB (bs : List Int) : Zq bs = Z6U XX bs := by
 unfold Zq
 have := Rep.init.write V6 bs
 exact this.fin (V4 _ _ V6)
theorem Z5t : W8 X3.st := by
 refine ⟨rfl, fun x hx => ?_⟩
 simp only [X3, List.mem_cons, List.not_mem_nil, or_false] at hx
 unfold U32
 rcases hx with rfl | rfl | rfl | rfl | rfl | rfl | rfl | rfl <;> omega
theorem ZcB (n : Int) : ∀ x ∈ Ur n, U8 x := by
 intro x hx
 unfold Ur at hx
 rcases List.mem_append.mp hx with h | h
 ·rw [List.mem_singleton] at h
  subst h
  unfold U8; omega
 ·rw [List.eq_of_mem_replicate h]
  unfold U8; omega
theorem Zf2 (x : Int) : U8 (u8.wrap x) := by rw [wr8]; unfold U8; omega
theorem ZcC (n : Int) : ∀ x ∈ len8 n, U8 x := by
 intro x hx
 unfold len8 UI at hx
 simp only [List.mem_cons, List.not_mem_nil, or_false] at hx
 rcases hx with h | h | h | h | h | h | h | h <;> rw [h] <;> exact Zf2 _
theorem Z93 {bs : List Int} (h : ∀ x ∈ bs, U8 x) : ∀ x ∈ Z05 bs, U8 x := by
 intro x hx
 unfold Z05 at hx
 rcases List.mem_append.mp hx with h1 | h1
 ·rcases List.mem_append.mp h1 with h2 | h2
  ·exact h x h2
  ·exact ZcB _ x h2
 ·exact ZcC _ x h1
end Go.Tk
end
section
namespace Go.Tk
open IntKind (i64 u8 u32 u64 wrap)
theorem ZcD : Ul XD := ⟨fun st bl h => Z5m st bl h, fun _ _ h => Z4l h⟩
theorem ZaC (x : List Int) (i : Nat) : toN x (i + 1) = ((((toN x i).set (4 * i) (u8.wrap (u32.wrap (Int.tdiv (x.getD i 0) 16777216)))).set (4 * i + 1) (toE (x.getD i 0) 65536)).set (4 * i + 2) (toE (x.getD i 0) 256)).set (4 * i + 3) (u8.wrap (Int.tmod (x.getD i 0) 256)) := by rw [toN]
theorem ZaD (x : List Int) : toN x 0 = Zd := by rw [toN]
def four (x : Int) : List Int := [u8.wrap (u32.wrap (Int.tdiv x 16777216)), toE x 65536, toE x 256, u8.wrap (Int.tmod x 256)]
theorem Z94 (x : List Int) : (Vu x).length = 32 := by unfold Vu; exact Z4m x 8
theorem Z6V (x : List Int) (h : x.length = 8) : Vu x = four (x.getD 0 0) ++ four (x.getD 1 0) ++ four (x.getD 2 0) ++ four (x.getD 3 0) ++ four (x.getD 4 0) ++ four (x.getD 5 0) ++ four (x.getD 6 0) ++ four (x.getD 7 0) := by
 unfold Vu
 simp only [ZaC, ZaD]
 generalize x.getD 0 0 = x0
 generalize x.getD 1 0 = x1
 generalize x.getD 2 0 = x2
 generalize x.getD 3 0 = x3
 generalize x.getD 4 0 = x4
 generalize x.getD 5 0 = x5
 generalize x.getD 6 0 = x6
 generalize x.getD 7 0 = x7
 kernel_rfl
theorem ZcE (x : Int) : u64.wrap x = x % 18446744073709551616 := by
 unfold wrap
 simp [IntKind.bits, IntKind.signed]
theorem Z5u (x n : Nat) (hn : n ≤ 64) : Zy .u64 x n = ((x / 2 ^ n : Nat) : Int) := by
 unfold Zy
 have : min (n : Int).toNat u64.bits = n := by simp [IntKind.bits]; omega
 rw [this, Int.fdiv_eq_ediv_of_nonneg _ (Int.le_of_lt (Int.pow_pos (by decide)))]
 simp
theorem Xs {x : Int} (h : U32 x) : four x = WF (u64.wrap x) := by
 obtain ⟨x, rfl, gx⟩ := h.nat
 have e : u64.wrap (x : Int) = x := by rw [ZcE]; omega
 have s24 := Z5u x 24 (by omega)
 have s16 := Z5u x 16 (by omega)
 have s8 := Z5u x 8 (by omega)
 have s0 := Z5u x 0 (by omega)
 rw [show ((24 : Nat) : Int) = 24 from rfl] at s24
 rw [show ((16 : Nat) : Int) = 16 from rfl] at s16
 rw [show ((8 : Nat) : Int) = 8 from rfl] at s8
 rw [show ((0 : Nat) : Int) = 0 from rfl] at s0
 have d1 : Int.tdiv (x : Int) 16777216 = (x : Int) / 16777216 := Int.tdiv_eq_ediv_of_nonneg (by omega)
 have d2 : Int.tdiv (x : Int) 65536 = (x : Int) / 65536 := Int.tdiv_eq_ediv_of_nonneg (by omega)
 have d3 : Int.tdiv (x : Int) 256 = (x : Int) / 256 := Int.tdiv_eq_ediv_of_nonneg (by omega)
 unfold four WF toE
 rw [e, s24, s16, s8, s0, d1, d2, d3]
 simp only [wr8, Z5p]
 rw [tm (a := (x : Int) / 65536 % 4294967296) (by omega), tm (a := (x : Int) / 256 % 4294967296) (by omega), tm (a := (x : Int)) (by omega)]
 simp only [List.cons.injEq, and_true]
 omega
theorem Z6W {x : List Int} (h : W8 x) : Vu x = Z5l x := by
 rw [Z6V x h.1]
 unfold Z5l
 rw [Xs (h.get 0), Xs (h.get 1), Xs (h.get 2), Xs (h.get 3), Xs (h.get 4), Xs (h.get 5), Xs (h.get 6), Xs (h.get 7)]
theorem Xt (n : Nat) (i : Nat) (hi : i < 8) : Zcq n i = u8.wrap (Zy .u64 (u64.wrap (u64.wrap n * 8)) ((56 - 8 * i : Nat) : Int)) := by
 unfold Zcq
 have e1 : i64.wrap (8 * (i : Int)) = 8 * (i : Int) := w64 (by omega)
 have e2 : i64.wrap (56 - 8 * (i : Int)) = ((56 - 8 * i : Nat) : Int) := by rw [w64 (by omega)]; omega
 have e3 : u64.wrap ((56 - 8 * i : Nat) : Int) = ((56 - 8 * i : Nat) : Int) := by rw [ZcE]; omega
 rw [e1, e2, e3]
 obtain ⟨m, hm⟩ : ∃ m : Nat, u64.wrap (u64.wrap n * 8) = m := ⟨(u64.wrap (u64.wrap n * 8)).toNat, by rw [ZcE, ZcE]; omega⟩
 rw [hm, Z5u m _ (by omega)]
 generalize m / 2 ^ (56 - 8 * i) = q
 rw [tm (by omega), wr8, wr8]
 omega
theorem Z95 (n : Nat) : XK n 8 = len8 n := by
 simp only [XK, List.nil_append, List.cons_append]
 unfold len8 UI
 rw [Xt n 0 (by omega), Xt n 1 (by omega), Xt n 2 (by omega), Xt n 3 (by omega), Xt n 4 (by omega), Xt n 5 (by omega), Xt n 6 (by omega), Xt n 7 (by omega)]
 rfl
theorem Z96 (n : Nat) (h : n ≤ 100000000000) : [128] ++ Z0J n = Ur n := by
 unfold Z0J Ur
 have e1 : Int.tmod (n : Int) 64 = (n : Int) % 64 := tm (by omega)
 have e2 : i64.wrap (119 - (n : Int) % 64) = 119 - (n : Int) % 64 := w64 (by omega)
 rw [Zcs n h, e1, e2, tm (by omega)]
 congr 2
 omega
theorem ZaE (bs : List Int) (h : bs.length ≤ 100000000000) : VW bs = Z05 bs := by
 unfold VW Z05
 rw [Z95, List.append_assoc bs, Z96 _ h]
theorem Z3u (P : List Int → List Int → List Int) (ys : List Int) : ∀ i, Us P ys i = Ut P i X3.st ys
 | 0 => Z3o P ys
 | i + 1 => by rw [Z3p, Z04, Z3u P ys i]
theorem Z7Q : ∀ (n : Nat) (st ms : List Int), W8 st → W8 (Ut XX n st ms)
 | 0, _, _, h => h
 | n + 1, st, _, h => Z7Q n _ _ (Z5s st _ h.1)
@[irreducible] def Wc (bs : List Int) : List Int := Zay XD bs
theorem Z5v (bs : List Int) : (Wc bs).length = 32 := by unfold Wc Zay; exact Z94 _
theorem Z7R {bs : List Int} (h : ∀ x ∈ bs, U8 x) (hl : bs.length ≤ 100000000000) : Wc bs = Zq bs := by
 unfold Wc Zay
 rw [Z3u, ZaE bs hl, Z2l _ _ _ Z5t (Z93 h), Z6W (Z7Q _ _ _ Z5t), ZaB]
 rfl
theorem Z3v (xs : List Int) (h : xs.length ≤ 100000000000) : ZH PP 87 [.vints .u8 xs xs.length] (.agg [.arr .u8 32 (Wc xs)]) 0 [] := by
 unfold Wc
 exact Z8Y ZcD xs h
end Go.Tk
end
section
namespace Go.Tk
open IntKind (i64 u8 u32 u64 wrap)
end Go.Tk
end
section
namespace Go.Tk
open IntKind (i64 u8 u32 u64 wrap)
end Go.Tk
end
section
namespace Go.Tk
open IntKind (i64 u8 u32 u64 wrap)
theorem Bytes.u8 {xs : List Int} (h : Bytes xs) : ∀ x ∈ xs, U8 x := by
 intro x hx
 obtain ⟨i, hi, rfl⟩ := List.getElem_of_mem hx
 have := h.h i
 rw [List.getD_eq_getElem?_getD, List.getElem?_eq_getElem hi] at this
 simp at this
 unfold U8
 omega
end Go.Tk
end
section
namespace Go.Tk
open IntKind (i64 u8 u32 u64 wrap)
structure Ys where
 fund : List Int
 index : Int
 cap : Int
 dust : Int
 fee : Int
 delay : Int
 k0 : List Int
 k1 : List Int
def Ys.c (t : Ys) : List AV := [.arr .u8 32 t.fund, .int .i64 t.index, .int .i64 t.cap, .int .i64 t.dust, .int .i64 t.fee, .int .i64 t.delay, .arr .u8 32 t.k0, .arr .u8 32 t.k1]
structure Ys.Ok (t : Ys) : Prop where
 k0 : t.k0.length = 32
 k1 : t.k1.length = 32
 b0 : Bytes t.k0
 b1 : Bytes t.k1
def XG (t : Ys) : Bool := decide (0 ≤ t.index ∧ t.index ≤ 23) && decide (1000 ≤ t.cap ∧ t.cap ≤ 1125899906842624) && decide (1 ≤ t.dust ∧ t.dust ≤ 500) && decide (0 ≤ t.fee ∧ t.fee ≤ 400) && decide (1 ≤ t.delay ∧ t.delay ≤ 1000) && (t.k0 != t.k1)
theorem VY (b : Bool) (x y : Prop) : Z0 b x y = ((b = true → x) ∧ (b = false → y)) := by cases b <;> simp [Z0]
theorem ZfZ (n a b : Int) (r : Bool) (hr : r = decide (a ≤ n ∧ n ≤ b)) :
  evF G0 20 149 [.int .i64 n, .int .i64 a, .int .i64 b] ⟨0, []⟩ (Yp (fun v => v = .bool r)) := by
 refine @Eq.mpr _ (Z0 (decide (a ≤ n)) (AV.bool (decide (n ≤ b)) = AV.bool r) (AV.bool false = AV.bool r)) (by kernel_rfl) ?_
 simp only [VY]
 subst hr
 by_cases h1 : a ≤ n <;> by_cases h2 : n ≤ b <;> simp [h1, h2]
def inQ : ZU := fun args _ K => match args with
 | [.int .i64 n, .int .i64 a, .int .i64 b] => K (.bool (decide (a ≤ n ∧ n ≤ b)))
 | _ => False
theorem Zf3 (args : List AV) (h : Z9) (K : AV → Prop) (hl : inQ args h K) : Zo PP 149 args h fun o h' => ∃ v, o = .ret v ∧ h' = h ∧ K v := by
 unfold inQ at hl
 split at hl
 ·exact Yf Zw rfl (ZfZ _ _ _ _ rfl) (fun u hu => hu ▸ hl)
 ·exact hl.elim
noncomputable def E71 : Zg := G0.withP 149 inQ
theorem Zf4 : E71.Ok := Zg.withP_ok Zw Zf3
theorem Zg0 (t : Ys) (e : Int) (ht : t.Ok) (he : e = if XG t = true then 0 else 2) :
  evF E71 20 75 [.agg t.c] ⟨0, []⟩ (Yp (fun v => v = .int .i64 e)) := by
 refine @Eq.mpr _ (let q1 := AV.int i64 2 = AV.int i64 e;
 Z0 (decide (List.length t.k0 = 32 ∧ List.length t.k1 = 32)) (Z0 (false == decide (0 ≤ t.index ∧ t.index ≤ 23)) q1 (Z0 (false == decide (1000 ≤ t.cap ∧ t.cap ≤ 1125899906842624)) q1 (Z0 (false == decide (1 ≤ t.dust ∧ t.dust ≤ 500)) q1 (Z0 (false == decide (0 ≤ t.fee ∧ t.fee ≤ 400)) q1 (Z0 (false == decide (1 ≤ t.delay ∧ t.delay ≤ 1000)) q1 (Z0 (false == !t.k0 == t.k1) q1 (AV.int i64 0 = AV.int i64 e))))))) False) (by kernel_rfl) ?_
 conv => zeta
 try simp only [Zi]
 try simp only [Zj]
 try simp only [Zk]
 try simp only [Zl]
 try simp only [Zm]
 try simp only [Zh]
 try simp only [Int.toNat_natCast, Nat.zero_add, true_and, and_true, Nat.le_refl]
 unfold XG at he
 refine ⟨⟨ht.k0, ht.k1⟩, ?_⟩
 generalize decide (0 ≤ t.index ∧ t.index ≤ 23) = c1 at *
 generalize decide (1000 ≤ t.cap ∧ t.cap ≤ 1125899906842624) = c2 at *
 generalize decide (1 ≤ t.dust ∧ t.dust ≤ 500) = c3 at *
 generalize decide (0 ≤ t.fee ∧ t.fee ≤ 400) = c4 at *
 generalize decide (1 ≤ t.delay ∧ t.delay ≤ 1000) = c5 at *
 have h6 : (t.k0 != t.k1) = !(t.k0 == t.k1) := rfl
 rw [h6] at he
 generalize (t.k0 == t.k1) = c6 at *
 cases c1 <;> cases c2 <;> cases c3 <;> cases c4 <;> cases c5 <;> cases c6 <;> simp_all
theorem Zg1 (t : Ys) (b : Bool) (ht : t.Ok) (hb : b = XG t) :
  evF G0 20 78 [.agg t.c] ⟨0, []⟩ (Yp (fun v => v = .bool b)) := by
 refine @Eq.mpr _ (let q1 := t.cap;
 let q2 := AV.bool false = AV.bool b;
 Z0 (decide (t.index ≥ 0)) (Z0 (decide (t.index < 24)) (Z0 (decide (q1 ≥ 1000)) (Z0 (decide (q1 ≥ 0)) (Z0 (decide (q1 ≤ 1125899906842624)) (Z0 (decide (t.dust ≥ 1)) (Z0 (decide (t.dust ≤ 500)) (Z0 (decide (t.fee ≥ 0)) (Z0 (decide (t.fee ≤ 400)) (Z0 (decide (t.delay ≥ 1)) (Z0 (decide (t.delay ≤ 1000)) (Z0 (decide (List.length t.k0 = 32 ∧ List.length t.k1 = 32)) ((AV.bool !t.k0 == t.k1) = AV.bool b) False) q2) q2) q2) q2) q2) q2) q2) q2) q2) q2) q2) (by kernel_rfl) ?_
 conv => zeta
 try simp only [Zi]
 try simp only [Zj]
 try simp only [Zk]
 try simp only [Zl]
 try simp only [Zm]
 try simp only [Zh]
 try simp only [Int.toNat_natCast, Nat.zero_add, true_and, and_true, Nat.le_refl]
 subst hb
 unfold XG
 repeat' (first | (refine And.intro ?_ ?_) | intro _ | fail)
 all_goals first
  | exact ht.k0
  | exact ht.k1
  | (congr 1; symm; rw [Bool.eq_false_iff]; simp only [ne_eq, Bool.and_eq_true, decide_eq_true_eq]; intro h; omega)
  | (congr 1; have h1 : (0 ≤ t.index ∧ t.index ≤ 23) := (by omega); have h2 : (1000 ≤ t.cap ∧ t.cap ≤ 1125899906842624) := (by omega); have h3 : (1 ≤ t.dust ∧ t.dust ≤ 500) := (by omega); have h4 : (0 ≤ t.fee ∧ t.fee ≤ 400) := (by omega); have h5 : (1 ≤ t.delay ∧ t.delay ≤ 1000) := (by omega); rw [decide_eq_true h1, decide_eq_true h2, decide_eq_true h3, decide_eq_true h4, decide_eq_true h5]; rfl)
def ZaF : ZU := fun args _ K => match args with
 | [.agg [.arr .u8 32 fu, .int .i64 ix, .int .i64 ca, .int .i64 du, .int .i64 fe, .int .i64 de, .arr .u8 32 k0, .arr .u8 32 k1]] => (Ys.Ok ⟨fu, ix, ca, du, fe, de, k0, k1⟩) ∧ K (.int .i64 (if XG ⟨fu, ix, ca, du, fe, de, k0, k1⟩ = true then 0 else 2))
 | _ => False
theorem ZaG (args : List AV) (h : Z9) (K : AV → Prop) (hl : ZaF args h K) : Zo PP 75 args h fun o h' => ∃ v, o = .ret v ∧ h' = h ∧ K v := by
 unfold ZaF at hl
 split at hl
 ·obtain ⟨ht, hK⟩ := hl
  exact Yf Zf4 rfl (Zg0 ⟨_, _, _, _, _, _, _, _⟩ _ ht rfl) (fun u hu => hu ▸ hK)
 ·exact hl.elim
def Z6X : ZU := fun args _ K => match args with
 | [.agg [.arr .u8 32 fu, .int .i64 ix, .int .i64 ca, .int .i64 du, .int .i64 fe, .int .i64 de, .arr .u8 32 k0, .arr .u8 32 k1]] => (Ys.Ok ⟨fu, ix, ca, du, fe, de, k0, k1⟩) ∧ K (.bool (XG ⟨fu, ix, ca, du, fe, de, k0, k1⟩))
 | _ => False
theorem Z97 (args : List AV) (h : Z9) (K : AV → Prop) (hl : Z6X args h K) : Zo PP 78 args h fun o h' => ∃ v, o = .ret v ∧ h' = h ∧ K v := by
 unfold Z6X at hl
 split at hl
 ·obtain ⟨ht, hK⟩ := hl
  exact Yf Zw rfl (Zg1 ⟨_, _, _, _, _, _, _, _⟩ _ ht rfl) (fun u hu => hu ▸ hK)
 ·exact hl.elim
end Go.Tk
end
section
namespace Go.Tk
open IntKind (i64 u8 u32 u64 wrap)
structure Z6 where
 own : Bool
 id : Int
 amount : Int
 hash : List Int
 expiry : Int
 stage : Int
 fin : Int
 secret : List Int
def Z6.c (h : Z6) : List AV := [.bool h.own, .int .i64 h.id, .int .i64 h.amount, .arr .u8 32 h.hash, .int .i64 h.expiry, .int .i64 h.stage, .int .i64 h.fin, .arr .u8 32 h.secret]
structure Z6.Ok (h : Z6) : Prop where
 hash : h.hash.length = 32
 hb : Bytes h.hash
 secret : h.secret.length = 32
 sb : Bytes h.secret
def Zc : Z6 := ⟨false, 0, 0, Zd, 0, 0, 0, Zd⟩
def Z5 (L : List Z6) (i : Nat) : List AV := (L.getD i Zc).c
structure Za where
 t : Ys
 side : Int
 res : Int
 a0 : Int
 a1 : Int
 i0 : Int
 i1 : Int
 L : List Z6
def Za.c (X : Za) (l : AV) : List AV := X.t.c ++ [.int .i64 X.side, .int .i64 X.res, .arr .i64 2 [X.a0, X.a1], .arr .i64 2 [X.i0, X.i1], l]
def ZN (side : Int) (own : Bool) : Int := match own with | true => side | false => 1 - side
def Za.nx (X : Za) (own : Bool) : Int := match own with | true => X.i0 | false => X.i1
def Za.am (X : Za) (s : Int) : Int := if s = 0 then X.a0 else X.a1
def ZO (side s : Int) (L : List Z6) : List Z6 := L.filter fun h => decide (ZN side h.own = s)
def Xv (L : List Z6) : List Int := L.map (·.amount)
def Ya (X : Za) (s : Int) : Int := X.am s - (Xv (ZO X.side s X.L)).sum - X.res - (if s = 0 then X.t.fee else 0)
def Yj (h : Z6) : Bool := decide (0 ≤ h.id ∧ h.id ≤ 2147483647) && decide (1 ≤ h.amount ∧ h.amount ≤ 1125899906842624) && decide (1 ≤ h.expiry ∧ h.expiry ≤ 2147483647)
def Z2m (H : List Int → List Int) (h : Z6) : Bool := if h.fin = 0 then decide (h.stage < 6) && (h.secret == Zd) else if h.fin = 1 then decide (6 ≤ h.stage) && (H h.secret == h.hash) else if h.fin = 2 then decide (6 ≤ h.stage) && (h.secret == Zd) else false
def XH (H : List Int → List Int) (X : Za) (h : Z6) : Bool := Yj h && decide (h.id < X.nx h.own) && decide (1 ≤ h.stage ∧ h.stage ≤ 9) && Z2m H h
def Xh (a b : Z6) : Prop := (a.own = true ∧ b.own = false) ∨ (a.own = b.own ∧ a.id < b.id ∧ min b.stage 5 ≤ min a.stage 5)
instance (a b : Z6) : Decidable (Xh a b) := by unfold Xh; infer_instance
def XI (H : List Int → List Int) (X : Za) (i : Nat) : Bool := XH H X (X.L.getD i Zc) && (Nat.beq i 0 || decide (Xh (X.L.getD (i - 1) Zc) (X.L.getD i Zc)))
def Z5w (X : Za) : Bool := XG X.t && decide (0 ≤ X.side ∧ X.side ≤ 1) && decide (0 ≤ X.res ∧ X.res ≤ X.t.cap / 10) && decide (0 ≤ X.a0 ∧ X.a0 ≤ X.t.cap) && decide (X.a1 = X.t.cap - X.a0) && decide (0 ≤ X.i0 ∧ X.i0 ≤ 2147483648) && decide (0 ≤ X.i1 ∧ X.i1 ≤ 2147483648) && decide ((ZO X.side 0 X.L).length ≤ 8) && decide ((ZO X.side 1 X.L).length ≤ 8)
def Yo (H : List Int → List Int) (X : Za) : Bool := Z5w X && (List.range X.L.length).all (XI H X) && decide (0 ≤ Ya X 0) && (decide ((ZO X.side 1 X.L).length = 0) || decide (0 ≤ Ya X 1))
theorem Z6Y {a b c : Z6} (h1 : Xh a b) (h2 : Xh b c) : Xh a c := by
 unfold Xh at *
 rcases h1 with ⟨p1, p2⟩ | ⟨p1, p2, p3⟩ <;> rcases h2 with ⟨q1, q2⟩ | ⟨q1, q2, q3⟩
 ·rw [p2] at q1; cases q1
 ·exact .inl ⟨p1, by rw [← q1, p2]⟩
 ·exact .inl ⟨by rw [p1, q1], q2⟩
 ·exact .inr ⟨p1.trans q1, by omega, by omega⟩
theorem Vv {α : Type} {R : α → α → Prop} (ht : ∀ {a b c}, R a b → R b c → R a c) (d : α) : ∀ (L : List α), (∀ i, i + 1 < L.length → R (L.getD i d) (L.getD (i + 1) d)) → L.Pairwise R
 | [], _ => .nil
 | [a], _ => by simp
 | a :: b :: r, h => by
  have ih := Vv (R := R) ht d (b :: r) fun i hi => by
   have := h (i + 1) (by simpa using hi)
   rw [List.getD_cons_succ, List.getD_cons_succ] at this
   exact this
  refine List.pairwise_cons.2 ⟨fun z hz => ?_, ih⟩
  have hab : R a b := by simpa using h 0 (by simp)
  rcases List.mem_cons.1 hz with rfl | hz
  ·exact hab
  ·exact ht hab ((List.pairwise_cons.1 ih).1 z hz)
structure Za.Inv (H : List Int → List Int) (X : Za) : Prop where
 tok : X.t.Ok
 tb : XG X.t = true
 side : X.side = 0 ∨ X.side = 1
 res : 0 ≤ X.res ∧ X.res ≤ X.t.cap / 10
 a0 : 0 ≤ X.a0 ∧ X.a0 ≤ X.t.cap
 a1 : X.a1 = X.t.cap - X.a0
 i0 : 0 ≤ X.i0 ∧ X.i0 ≤ 2147483648
 i1 : 0 ≤ X.i1 ∧ X.i1 ≤ 2147483648
 n0 : (ZO X.side 0 X.L).length ≤ 8
 n1 : (ZO X.side 1 X.L).length ≤ 8
 und : ∀ h ∈ X.L, XH H X h = true
 fol : X.L.Pairwise Xh
 ov0 : 0 ≤ Ya X 0
 ov1 : ZO X.side 1 X.L = [] ∨ 0 ≤ Ya X 1
 ok : ∀ h ∈ X.L, h.Ok
theorem Z06 {X : Za} : Z5w X = true ↔ XG X.t = true ∧ (0 ≤ X.side ∧ X.side ≤ 1) ∧ (0 ≤ X.res ∧ X.res ≤ X.t.cap / 10) ∧ (0 ≤ X.a0 ∧ X.a0 ≤ X.t.cap) ∧ X.a1 = X.t.cap - X.a0 ∧ (0 ≤ X.i0 ∧ X.i0 ≤ 2147483648) ∧ (0 ≤ X.i1 ∧ X.i1 ≤ 2147483648) ∧ (ZO X.side 0 X.L).length ≤ 8 ∧ (ZO X.side 1 X.L).length ≤ 8 := by
 unfold Z5w
 simp only [Bool.and_eq_true, decide_eq_true_eq, and_assoc]
theorem Q6 {H : List Int → List Int} {X : Za} : Yo H X = true ↔ Z5w X = true ∧ (∀ i, i < X.L.length → XI H X i = true) ∧ 0 ≤ Ya X 0 ∧ ((ZO X.side 1 X.L).length = 0 ∨ 0 ≤ Ya X 1) := by
 unfold Yo
 simp only [Bool.and_eq_true, Bool.or_eq_true, decide_eq_true_eq, and_assoc, List.all_eq_true, List.mem_range]
theorem ZK {L : List Z6} {i : Nat} (h : i < L.length) : L.getD i Zc ∈ L := by
 rw [List.getD_eq_getElem?_getD, List.getElem?_eq_getElem h]; exact List.getElem_mem h
theorem ZcF {H : List Int → List Int} {X : Za} (ht : X.t.Ok) (hok : ∀ h ∈ X.L, h.Ok) : Yo H X = true ↔ X.Inv H := by
 rw [Q6, Z06]
 constructor
 ·rintro ⟨⟨h1, h2, h3, h4, h5, h6, h7, h8, h9⟩, hl, h10, h11⟩
  refine ⟨ht, h1, by omega, h3, h4, h5, h6, h7, h8, h9, fun h hh => ?_, ?_, h10, ?_, hok⟩
  ·obtain ⟨i, hi, rfl⟩ := List.getElem_of_mem hh
   have := hl i hi
   unfold XI at this
   simp only [Bool.and_eq_true] at this
   rw [List.getD_eq_getElem?_getD, List.getElem?_eq_getElem hi] at this
   exact this.1
  ·refine Vv (R := Xh) Z6Y Zc X.L fun i hi => ?_
   have := hl (i + 1) hi
   unfold XI at this
   simp only [Bool.and_eq_true, Bool.or_eq_true, decide_eq_true_eq, Nat.add_sub_cancel] at this
   rcases this.2 with h | h
   ·have := Nat.eq_of_beq_eq_true h; omega
   ·exact h
  ·rcases h11 with h | h
   ·exact .inl (List.eq_nil_of_length_eq_zero h)
   ·exact .inr h
 ·intro h
  refine ⟨⟨h.tb, by have := h.side; omega, h.res, h.a0, h.a1, h.i0, h.i1, h.n0, h.n1⟩, fun i hi => ?_, h.ov0, ?_⟩
  ·unfold XI
   simp only [Bool.and_eq_true, Bool.or_eq_true, decide_eq_true_eq]
   refine ⟨h.und _ (ZK hi), ?_⟩
   cases i with
   | zero => exact .inl rfl
   | succ i =>
    right
    rw [Nat.add_sub_cancel, List.getD_eq_getElem?_getD, List.getD_eq_getElem?_getD, List.getElem?_eq_getElem hi, List.getElem?_eq_getElem (by omega)]
    exact (List.pairwise_iff_getElem.1 h.fol) i (i + 1) (by omega) hi (by omega)
  ·rcases h.ov1 with h | h
   ·exact .inl (by rw [h]; rfl)
   ·exact .inr h
def XZ (own : Bool) (s : Int) : Int := if s < 1 ∨ 9 < s ∨ s = 5 then 0 else match own with
 | true => if s < 5 then s else (s - 4) % 4 + 1
 | false => if s < 5 then (s + 1) % 4 + 1 else s - 5
def ZR (own : Bool) (s m : Int) : Int := if XZ own s = m then s + 1 else s
def YZ (own : Bool) (s : Int) (ours : Bool) : Bool := if own = ours then decide (4 ≤ s ∧ s ≤ 6) else decide (2 ≤ s ∧ s ≤ 8)
def Yn (own : Bool) (s : Int) : Int := if s < 1 ∨ 10 < s ∨ (own = false ∧ s = 1) then 0 else if own = true ∧ s = 6 then 5 else s
def X8 (h : Z6) : List Z6 → List Z6
 | [] => [h]
 | x :: r => if h.own = true ∧ x.own = false then h :: x :: r else x :: X8 h r
def YV (X : Za) (own : Bool) (id am : Int) (hash : List Int) (ex : Int) : Z6 := ⟨own, id, am, hash, ex, 1, 0, Zd⟩
def Xi (X : Za) (own : Bool) (id am : Int) (hash : List Int) (ex : Int) : Int :=
 if Yj (YV X own id am hash ex) = false then 2 else if id ≠ X.nx own then 200 else if 8 ≤ (ZO X.side (ZN X.side own) X.L).length then 201 else if Ya X (ZN X.side own) < am then 202 else 0
def Xm (X : Za) (own : Bool) (d : Int) : Za := match own with
 | true => { X with i0 := X.i0 + d }
 | false => { X with i1 := X.i1 + d }
def addX (X : Za) (own : Bool) (id am : Int) (hash : List Int) (ex : Int) : Za := if Xi X own id am hash ex = 0 then { Xm X own 1 with L := X8 (YV X own id am hash ex) X.L } else X
def ZM (own : Bool) (id : Int) : List Z6 → Nat
 | [] => 0
 | x :: r => if x.own = own ∧ x.id = id then 0 else ZM own id r + 1
def YU (H : List Int → List Int) (X : Za) (own : Bool) (id k : Int) (sec : List Int) : Int :=
 if X.L.length ≤ ZM own id X.L then 5 else if (X.L.getD (ZM own id X.L) Zc).stage ≠ 5 then 190 else if k = 1 ∧ H sec ≠ (X.L.getD (ZM own id X.L) Zc).hash then 203 else 0
def Vx (h : Z6) (k : Int) (sec : List Int) : Z6 := { h with stage := 6, fin := k, secret := sec }
def endX (H : List Int → List Int) (X : Za) (own : Bool) (id k : Int) (sec : List Int) : Za := if YU H X own id k sec = 0 then { X with L := X.L.set (ZM own id X.L) (Vx (X.L.getD (ZM own id X.L) Zc) k sec) } else X
def stH (m : Int) (h : Z6) : Z6 := { h with stage := ZR h.own h.stage m }
def Yc (m : Int) (L : List Z6) : List Z6 := (L.map (stH m)).filter fun h => decide (h.stage ≠ 10)
def ZP (m : Int) (L : List Z6) : List Z6 := (L.map (stH m)).filter fun h => decide (h.stage = 10)
def Yd (m : Int) (L : List Z6) : List Z6 := (L.filter fun h => decide (h.stage = 4 ∧ XZ h.own 4 = m)).map (stH m)
def XJ (side : Int) (p : Int × Int) (h : Z6) : Int × Int := if h.fin = 1 then (if ZN side h.own = 0 then (p.1 - h.amount, p.2 + h.amount) else (p.1 + h.amount, p.2 - h.amount)) else p
def Qz (m side : Int) (p : Int × Int) (L : List Z6) : Int × Int := (ZP m L).foldl (XJ side) p
def stpX (X : Za) (m : Int) : Za := if 1 ≤ m ∧ m ≤ 4 then { X with L := Yc m X.L, a0 := (Qz m X.side (X.a0, X.a1) X.L).1, a1 := (Qz m X.side (X.a0, X.a1) X.L).2 } else X
def brH (h : Z6) : Z6 := if Yn h.own h.stage = 5 then { h with stage := 5, fin := 0, secret := Zd } else { h with stage := Yn h.own h.stage }
def Y9 (L : List Z6) : List Z6 := (L.filter fun h => decide (Yn h.own h.stage ≠ 0)).map brH
def ZB (L : List Z6) : List Z6 := L.filter fun h => decide (Yn h.own h.stage = 0)
def brkX (X : Za) : Za := { X with L := Y9 X.L, i1 := X.i1 - (ZB X.L).length }
def Zf5 (L : List Z6) : Bool := L.any fun h => decide (XZ h.own h.stage = 1)
end Go.Tk
end
section
namespace Go.Tk
open IntKind (i64 u8 u32 u64 wrap)
theorem Zg2 (n a b : Int) (r : Bool) (hr : r = decide (a ≤ n ∧ n ≤ b)) :
  evF G0 20 53 [.int .i64 n, .int .i64 a, .int .i64 b] ⟨0, []⟩ (Yp (fun v => v = .bool r)) := by
 refine @Eq.mpr _ (Z0 (decide (a ≤ n)) (AV.bool (decide (n ≤ b)) = AV.bool r) (AV.bool false = AV.bool r)) (by kernel_rfl) ?_
 simp only [VY]
 subst hr
 by_cases h1 : a ≤ n <;> by_cases h2 : n ≤ b <;> simp [h1, h2]
theorem Zg3 (n a b : Int) (r : Bool) (hr : r = decide (a ≤ n ∧ n ≤ b)) :
  evF G0 20 67 [.int .i64 n, .int .i64 a, .int .i64 b] ⟨0, []⟩ (Yp (fun v => v = .bool r)) := by
 refine @Eq.mpr _ (Z0 (decide (a ≤ n)) (AV.bool (decide (n ≤ b)) = AV.bool r) (AV.bool false = AV.bool r)) (by kernel_rfl) ?_
 simp only [VY]
 subst hr
 by_cases h1 : a ≤ n <;> by_cases h2 : n ≤ b <;> simp [h1, h2]
theorem Zg4 (n a b : Int) (r : Bool) (hr : r = decide (a ≤ n ∧ n ≤ b)) :
  evF G0 20 121 [.int .i64 n, .int .i64 a, .int .i64 b] ⟨0, []⟩ (Yp (fun v => v = .bool r)) := by
 refine @Eq.mpr _ (Z0 (decide (a ≤ n)) (AV.bool (decide (n ≤ b)) = AV.bool r) (AV.bool false = AV.bool r)) (by kernel_rfl) ?_
 simp only [VY]
 subst hr
 by_cases h1 : a ≤ n <;> by_cases h2 : n ≤ b <;> simp [h1, h2]
theorem Zg5 (n a b : Int) (r : Bool) (hr : r = decide (a ≤ n ∧ n ≤ b)) :
  evF G0 20 49 [.int .i64 n, .int .i64 a, .int .i64 b] ⟨0, []⟩ (Yp (fun v => v = .bool r)) := by
 refine @Eq.mpr _ (Z0 (decide (a ≤ n)) (AV.bool (decide (n ≤ b)) = AV.bool r) (AV.bool false = AV.bool r)) (by kernel_rfl) ?_
 simp only [VY]
 subst hr
 by_cases h1 : a ≤ n <;> by_cases h2 : n ≤ b <;> simp [h1, h2]
theorem Z13 (args : List AV) (h : Z9) (K : AV → Prop) (hl : inQ args h K) : Zo PP 53 args h fun o h' => ∃ v, o = .ret v ∧ h' = h ∧ K v := by
 unfold inQ at hl
 split at hl
 ·exact Yf Zw rfl (Zg2 _ _ _ _ rfl) (fun u hu => hu ▸ hl)
 ·exact hl.elim
theorem QA (args : List AV) (h : Z9) (K : AV → Prop) (hl : inQ args h K) : Zo PP 67 args h fun o h' => ∃ v, o = .ret v ∧ h' = h ∧ K v := by
 unfold inQ at hl
 split at hl
 ·exact Yf Zw rfl (Zg3 _ _ _ _ rfl) (fun u hu => hu ▸ hl)
 ·exact hl.elim
theorem QB (args : List AV) (h : Z9) (K : AV → Prop) (hl : inQ args h K) : Zo PP 121 args h fun o h' => ∃ v, o = .ret v ∧ h' = h ∧ K v := by
 unfold inQ at hl
 split at hl
 ·exact Yf Zw rfl (Zg4 _ _ _ _ rfl) (fun u hu => hu ▸ hl)
 ·exact hl.elim
theorem QC (args : List AV) (h : Z9) (K : AV → Prop) (hl : inQ args h K) : Zo PP 49 args h fun o h' => ∃ v, o = .ret v ∧ h' = h ∧ K v := by
 unfold inQ at hl
 split at hl
 ·exact Yf Zw rfl (Zg5 _ _ _ _ rfl) (fun u hu => hu ▸ hl)
 ·exact hl.elim
noncomputable def Z4r (G : Zg) : Zg := (((G.withP 53 inQ).withP 67 inQ).withP 121 inQ).withP 49 inQ
noncomputable def Zf6 : Zg := Z4r G0
theorem Z7S : Zf6.Ok := Zg.withP_ok (Zg.withP_ok (Zg.withP_ok (Zg.withP_ok Zw Z13) QA) QB) QC
theorem Zhz (p : Z6) (b : Bool) (hb : b = Yj p) :
  evF Zf6 20 56 [.agg p.c] ⟨0, []⟩ (Yp (fun v => v = .bool b)) := by
 refine @Eq.mpr _ (let q1 := AV.bool false = AV.bool b;
 Z0 (decide (0 ≤ p.id ∧ p.id ≤ 2147483647)) (Z0 (decide (1 ≤ p.amount ∧ p.amount ≤ 1125899906842624)) (AV.bool (decide (1 ≤ p.expiry ∧ p.expiry ≤ 2147483647)) = AV.bool b) q1) q1) (by kernel_rfl) ?_
 conv => zeta
 subst hb
 unfold Yj
 generalize decide (0 ≤ p.id ∧ p.id ≤ 2147483647) = c1
 generalize decide (1 ≤ p.amount ∧ p.amount ≤ 1125899906842624) = c2
 generalize decide (1 ≤ p.expiry ∧ p.expiry ≤ 2147483647) = c3
 cases c1 <;> cases c2 <;> cases c3 <;> rfl
def Z4s : ZU := fun args _ K => match args with
 | [.agg [.bool ow, .int .i64 id, .int .i64 am, .arr .u8 32 ha, .int .i64 ex, .int .i64 st, .int .i64 en, .arr .u8 32 se]] => K (.bool (Yj ⟨ow, id, am, ha, ex, st, en, se⟩))
 | _ => False
theorem Z3w (args : List AV) (h : Z9) (K : AV → Prop) (hl : Z4s args h K) : Zo PP 56 args h fun o h' => ∃ v, o = .ret v ∧ h' = h ∧ K v := by
 unfold Z4s at hl
 split at hl
 ·exact Yf Z7S rfl (Zhz ⟨_, _, _, _, _, _, _, _⟩ _ rfl) (fun u hu => hu ▸ hl)
 ·exact hl.elim
end Go.Tk
end
section
namespace Go.Tk
open IntKind (i64 u8 u32 u64 wrap)
theorem X9 (L : List Z6) (i : Nat) : Yi (Z5 L i) = true := rfl
theorem Zn {k : Nat} {τ : Ren} {n : Nat} {L : List Z6} {f : Nat → List AV} (h : ∀ i, i < n → f i = Z5 L i) : Z8 k τ n (Z5 L) f :=
 Z3k h (fun i _ => X9 L i) (fun i _ v hv => by
  simp only [Z5, Z6.c, List.mem_cons, List.not_mem_nil, or_false] at hv
  rcases hv with rfl | rfl | rfl | rfl | rfl | rfl | rfl | rfl <;> first | exact .inl rfl | exact .inr ⟨_, _, _, rfl⟩)
theorem Ym {f : Nat → List AV} {O : List Z6} {x : Z6} {c i : Nat} (hc : O.length = c) (hf : ∀ i, i < c → f i = Z5 O i) (hi : i < c + 1) : ZV c f (YD (Z6.c x) 0 70) i = Z5 (O ++ [x]) i := by
 rcases Nat.lt_or_ge i c with h | h
 ·rw [Z7I h, hf i h]
  unfold Z5
  rw [List.getD_eq_getElem?_getD, List.getD_eq_getElem?_getD, List.getElem?_append_left (by omega)]
 ·have e : i = c := by omega
  subst e
  rw [Z0Y (Nat.le_refl _), Nat.sub_self]
  unfold Z5
  rw [List.getD_eq_getElem?_getD, List.getElem?_append_right (by omega), hc, Nat.sub_self]
  rfl
theorem ZH.evV {G : Zg} (hG : G.Ok) {n : Nat} {f : FuncId} {args : List AV} {v : AV} (h : evF G n f args ⟨0, []⟩ (Yp fun u => u = v)) : ZH G.P f args v 0 [] := by
 intro E w rs he hr
 refine (QS hG h E w rs he hr).mono ?_
 rintro e w' ⟨E₁, o, h', hK0, hev, hor⟩
 cases hor with
 | panic u r hr => exact hK0.elim
 | ret u r hr =>
  unfold Yp at hK0
  simp only at hK0
  split at hK0
  ·rename_i hu
   subst hK0
   refine ⟨E, r, rfl, ⟨.refl E, ⟨he.fresh, fun x B hx => by simp [Z9.get, ZF] at hx, fun x B hx => by simp [Z9.get, ZF] at hx, fun x y B B' b N N' hx => by simp [Z9.get, ZF] at hx, fun a c hi => hev.emb.imm a c (hev.le.imm a c hi), fun a c x B N _ hx => by simp [Z9.get, ZF] at hx⟩, hev.size, hev.os, hev.tape, hev.output, hev.keep, fun b hb => ?_, fun _ _ h => h⟩, Zf.vplain (E := E₁) (E' := E) (fun a c hi => hev.imm a c hi) _ _ hu hr⟩
   obtain ⟨x, B, N, hx, _⟩ := hb
   simp [Z9.get, ZF] at hx
  ·exact hK0.elim
def YM (b : Bool) (x : Z6) : List Z6 := match b with
 | true => [x]
 | false => []
theorem Z07 {p : Z6 → Bool} {L : List Z6} {i : Nat} (hi : i < L.length) : (L.take (i + 1)).filter p = (L.take i).filter p ++ YM (p (L.getD i Zc)) (L.getD i Zc) := by
 rw [List.take_succ_eq_append_getElem hi, List.filter_append, List.getD_eq_getElem?_getD, List.getElem?_eq_getElem hi]
 congr 1
theorem ZaH (x y : Prop) : Z0 true x y = x := rfl
theorem ZaI (x y : Prop) : Z0 false x y = y := rfl
theorem Va (c x y : Bool) (v : AV) : Z0 c (AV.bool x = v) (AV.bool y = v) = (AV.bool (cond c x y) = v) := by cases c <;> rfl
theorem ZaJ (c : Bool) (k : IntKind) (x y : Int) (v : AV) : Z0 c (AV.int k x = v) (AV.int k y = v) = (AV.int k (cond c x y) = v) := by cases c <;> rfl
inductive LV (cs : List AV) (X : Za) : Prop where
 | a (h : cs = X.c (.vrows 70 X.L.length (Z5 X.L) X.L.length))
 | b (h1 : X.L = []) (h : cs = X.c .nilslice)
def YG (X : Za) : Prop := 0 ≤ X.side ∧ X.side ≤ 1
structure Z0L (X : Za) : Prop where
 n : X.L.length < 1000
 am : ∀ h ∈ X.L, 0 ≤ h.amount ∧ h.amount ≤ 1125899906842624
 a0 : -1152921504606846976 ≤ X.a0 ∧ X.a0 ≤ 1152921504606846976
 a1 : -1152921504606846976 ≤ X.a1 ∧ X.a1 ≤ 1152921504606846976
 res : 0 ≤ X.res ∧ X.res ≤ 1152921504606846976
 fee : 0 ≤ X.t.fee ∧ X.t.fee ≤ 1152921504606846976
def ZaK (H : List Int → List Int) : ZU := fun args h K => ZY none h true 20 args fun a => match a with
 | [.pview cs 0, .agg [.bool ow, .int .i64 id, .int .i64 am, .arr .u8 32 ha, .int .i64 ex, .int .i64 st, .int .i64 en, .arr .u8 32 se]] => ∃ X, LV cs X ∧ Z6.Ok ⟨ow, id, am, ha, ex, st, en, se⟩ ∧ K (.bool (XH H X ⟨ow, id, am, ha, ex, st, en, se⟩))
 | _ => False
def Zf7 : ZU := fun args _ K => match args with
 | [.agg [.bool ow, .int .i64 id, .int .i64 am, .arr .u8 32 ha, .int .i64 ex, .int .i64 st, .int .i64 en, .arr .u8 32 se], .agg [.bool ow', .int .i64 id', .int .i64 am', .arr .u8 32 ha', .int .i64 ex', .int .i64 st', .int .i64 en', .arr .u8 32 se']] => K (.bool (decide (Xh ⟨ow, id, am, ha, ex, st, en, se⟩ ⟨ow', id', am', ha', ex', st', en', se'⟩)))
 | _ => False
def Zf8 : ZU := fun args _ K => match args with
 | [.agg [.bool ow, .int .i64 _, .int .i64 _, .arr .u8 32 _, .int .i64 _, .int .i64 _, .int .i64 _, .arr .u8 32 _], .pview [.pview cs 0] 0, .pview [.int .i64 s] 0] => ∃ X, LV cs X ∧ YG X ∧ K (.bool (decide (ZN X.side ow = s)))
 | _ => False
def ZaL : YR := fun args h K => ZY none h true 20 args fun a => match a with
 | [.vrows 70 n f n', .func (.func 104) [] [.pview [.pview cs 0] 0, .pview [.int .i64 s] 0]] => ∃ X, n' = n ∧ n = X.L.length ∧ f = Z5 X.L ∧ LV cs X ∧ YG X ∧ n < 1000 ∧ K (.ret (.nslice ⟨h.next, 0, 70, 0, 0⟩ 70 (ZO X.side s X.L).length (ZO X.side s X.L).length)) ⟨h.next + 1, (h.next, .rows 70 (ZO X.side s X.L).length (Z5 (ZO X.side s X.L))) :: h.bs⟩
 | [.nilslice, .func (.func 104) [] [.pview [.pview cs 0] 0, .pview [.int .i64 s] 0]] => ∃ X, LV cs X ∧ YG X ∧ X.L = [] ∧ K (.ret (.nslice ⟨h.next, 0, 70, 0, 0⟩ 70 (ZO X.side s X.L).length (ZO X.side s X.L).length)) ⟨h.next + 1, (h.next, .rows 70 (ZO X.side s X.L).length (Z5 (ZO X.side s X.L))) :: h.bs⟩
 | _ => False
def Z2n : YR := fun args h K => ZY none h true 20 args fun a => match a with
 | [.pview cs 0, .int .i64 s] => ∃ X, LV cs X ∧ YG X ∧ X.L.length < 1000 ∧ K (.ret (.nslice ⟨h.next, 0, 0, 0, 0⟩ 1 (ZO X.side s X.L).length (ZO X.side s X.L).length)) ⟨h.next + 1, (h.next, .ints .i64 (Xv (ZO X.side s X.L))) :: h.bs⟩
 | _ => False
def smS : ZU := fun args h K => ZY none h true 20 args fun a => match a with
 | [.vints .i64 xs n] => n = xs.length ∧ n < 1000 ∧ (∀ x ∈ xs, 0 ≤ x ∧ x ≤ 1125899906842624) ∧ K (.int .i64 xs.sum)
 | _ => False
def Zf9 : ZU := fun args h K => ZY none h true 20 args fun a => match a with
 | [.pview cs 0, .int .i64 s] => ∃ X, LV cs X ∧ YG X ∧ (s = 0 ∨ s = 1) ∧ Z0L X ∧ K (.int .i64 (Ya X s))
 | _ => False
def Zg6 (H : List Int → List Int) : ZU := fun args h K => ZY none h true 20 args fun a => match a with
 | [.pview cs 0] => ∃ X, LV cs X ∧ X.t.Ok ∧ (∀ h ∈ X.L, h.Ok) ∧ X.L.length < 1000 ∧ K (.bool (Yo H X))
 | _ => False
def ZdW : ZU := fun args h K => ZY none h true 20 args fun a => match a with
 | [.int .i64 s, .pview [.pview cs 0] 0] => ∃ X, LV cs X ∧ YG X ∧ X.L.length < 1000 ∧ K (.bool (decide ((ZO X.side s X.L).length ≤ 8)))
 | _ => False
theorem Zr.last {E : Env} {v v' : AV} (hv : ∀ k m xs, v ≠ .arr k m xs) (hc : v'.isCell = true) (h : ∀ c, Zf E v c → Zf E v' c) : ∀ {l : List AV} {vs : List Value}, Zr E (l ++ [v]) vs → Zr E (l ++ [v']) vs
 | [], vs, hl => by
  obtain ⟨c, w, rfl, h0, h2, h3, ht⟩ := hl.cons_cell hv
  exact .one _ _ _ _ hc h2 (h _ h3) ht
 | a :: r, vs, hl => by
  by_cases ha : ∃ k m xs, a = .arr k m xs
  ·obtain ⟨k, m, xs, rfl⟩ := ha
   obtain ⟨w, rfl, ht⟩ := Zr.cons_arr (r := r ++ [v]) hl
   exact .arr _ _ _ _ _ (Zr.last hv hc h ht)
  ·obtain ⟨c, w, rfl, h0, h2, h3, ht⟩ := Zr.cons_cell (r := r ++ [v]) hl (fun k m xs e => ha ⟨k, m, xs, e⟩)
   exact .one _ _ _ _ h0 h2 h3 (Zr.last hv hc h ht)
theorem Za.c_eq (X : Za) (l : AV) : X.c l = (X.t.c ++ [.int .i64 X.side, .int .i64 X.res, .arr .i64 2 [X.a0, X.a1], .arr .i64 2 [X.i0, X.i1]]) ++ [l] := by unfold Za.c; simp
theorem Z7T {cs : List AV} {X : Za} (h : LV cs X) {E : Env} {vs : List Value} (hc : Zr E cs vs) : Zr E (X.c (.vrows 70 X.L.length (Z5 X.L) X.L.length)) vs := by
 rcases h with rfl | ⟨h1, rfl⟩
 ·exact hc
 ·rw [Za.c_eq] at *
  refine Zr.last (by intros; simp) rfl (fun c hc => ?_) hc
  cases hc
  rw [h1]
  exact .vrowsNil _ _ _ _ rfl rfl
def Uu (X : Za) : AV := .pview (X.c (.vrows 70 X.L.length (Z5 X.L) X.L.length)) 0
theorem Vo {cs : List AV} {X : Za} (h : LV cs X) {E : Env} {r : Value} (hc : Zf E (.pview cs 0) r) : Zf E (Uu X) r := by
 cases hc with
 | pview cs inn a vs hc hi => exact .pview _ 0 a vs (Z7T h hc) hi
theorem Z4t {cs : List AV} {X : Za} (h : LV cs X) {E : Env} {r : Value} (hc : Zf E (.pview [.pview cs 0] 0) r) : Zf E (.pview [Uu X] 0) r := by
 cases hc with
 | pview cs inn a vs hc hi =>
  obtain ⟨c, w1, rfl, h0, h2, h3, hc⟩ := hc.cons_cell (by intros; simp)
  cases hc
  exact .pview _ 0 a _ (.one _ _ _ _ rfl h2 (Vo h h3) .nil) hi
end Go.Tk
end
section
namespace Go.Tk
open IntKind (i64 u8 u32 u64 wrap)
noncomputable def Zg7 (H1 : List Int → List Int) (H2 : List Int → List Int → List Int) (B : Nat) : Zg := (Z4r (G8 H1 H2 B)).withP 56 Z4s
theorem ZcG : (Zg7 Zq Z2Q 1000).Ok := Zg.withP_ok (Zg.withP_ok (Zg.withP_ok (Zg.withP_ok (Zg.withP_ok (ZdS 1000 (by decide)) Z13) QA) QB) QC) Z3w
theorem ZaM (x k : Int) (A B : Bool) : (if x = k then A else B) = cond (x == k) A B := by
 by_cases h : x = k
 ·simp [h]
 ·rw [if_neg h, show (x == k) = false from by simpa using h]; rfl
theorem Zfa (x k : Int) : decide (x ≥ k) = !decide (x < k) := by by_cases h : x < k <;> simp [h] <;> omega
theorem ZhA (X : Za) (p : Z6) (b : Bool) (H1 : List Int → List Int) (H2 : List Int → List Int → List Int) (B : Nat) (hok : p.Ok) (hB : 32 ≤ B) (hl : (H1 p.secret).length = 32) (hb : b = XH H1 X p) :
  evF (Zg7 H1 H2 B) 20 76 [Uu X, .agg p.c] ⟨0, []⟩ (Yp (fun v => v = .bool b)) := by
 refine @Eq.mpr _ (let q1 := p.secret;
 let q2 := List.length q1;
 let q3 := p.fin;
 let q4 := p.stage;
 let q5 := p.own;
 let q6 := p.id;
 let q7 := p.hash;
 let q8 := Yj (Z6.mk q5 q6 p.amount q7 p.expiry q4 q3 q1);
 let q9 := decide (q6 = q6);
 let q10 := decide (q6 < X.i0);
 let q11 := decide (1 ≤ q4 ∧ q4 ≤ 9);
 let q12 := AV.bool b;
 let q13 := AV.bool false = q12;
 let q14 := Z0 q11 (AV.bool (q1 == Zd) = q12) q13;
 let q15 := decide (q6 < X.i1);
 let q16 := Z0 q8 (Z0 q5 (Z0 q9 (Z0 q10 q14 q13) False) (Z0 q9 (Z0 q15 q14 q13) False)) q13;
 let q17 := Z0 q11 q13 q13;
 let q18 := Z0 q8 (Z0 q5 (Z0 q9 (Z0 q10 q17 q13) False) (Z0 q9 (Z0 q15 q17 q13) False)) q13;
 let q19 := decide (q4 ≥ 6);
 let q20 := H1 q1;
 let q21 := Z0 q11 (AV.bool (q20 == q7) = q12) q13;
 Z0 (decide (q2 = 32 ∧ (32 : Nat) = 32)) (Z0 (q3 == 0) (Z0 (decide (q4 < 6)) q16 q18) (Z0 (q3 == 1) (Z0 q19 (q7 = q7 ∧ Z0 (decide (q2 = 32)) (Z0 (decide (32 = q2)) (Z0 (decide (q2 ≤ B)) (Z0 (decide (List.length q20 = 32 ∧ List.length q7 = 32)) (Z0 q8 (Z0 q5 (Z0 q9 (Z0 q10 q21 q13) False) (Z0 q9 (Z0 q15 q21 q13) False)) q13) False) False) False) False) q18) (Z0 (q3 == 2) (Z0 q19 q16 q18) q18))) False) (by kernel_rfl) ?_
 conv => zeta
 have e0 : Z6.mk p.own p.id p.amount p.hash p.expiry p.stage p.fin p.secret = p := rfl
 rw [e0]
 subst hb
 simp only [hok.secret, hok.hash, hl, decide_true, and_self, ZaH, true_and, decide_eq_true hB, Va]
 congr 1
 unfold XH Z2m Za.nx
 simp only [ZaM, show (6 ≤ p.stage) = (p.stage ≥ 6) from rfl, Zfa]
 have es : (H1 p.secret == p.hash) = (H1 p.secret == p.hash) := rfl
 generalize (H1 p.secret == p.hash) = ch
 generalize (p.secret == Zd) = cz
 generalize Yj p = c1
 generalize decide (p.stage < 6) = c6
 generalize decide (1 ≤ p.stage ∧ p.stage ≤ 9) = d2
 generalize (p.fin == 0) = f0
 generalize (p.fin == 1) = f1
 generalize (p.fin == 2) = f2
 cases p.own
 ·simp only
  generalize decide (p.id < X.i0) = d0
  generalize decide (p.id < X.i1) = d1
  cases f0 <;> cases f1 <;> cases f2 <;> cases c6 <;> cases d1 <;> cases d2 <;> simp
 ·simp only
  generalize decide (p.id < X.i0) = d0
  generalize decide (p.id < X.i1) = d1
  cases f0 <;> cases f1 <;> cases f2 <;> cases c6 <;> cases d0 <;> cases d2 <;> simp
theorem Z98 (args : List AV) (h : Z9) (K : AV → Prop) (hl : ZaK Zq args h K) : Zo PP 76 args h fun o h' => ∃ v, o = .ret v ∧ h' = h ∧ K v := by
 refine ZH.psumm (d := 20) (Zx _ _ _ _ _ hl fun a ha => ?_)
 split at ha
 ·obtain ⟨X, hX, ho, hK⟩ := ha
  exact ⟨_, (ZH.evV ZcG (ZhA X ⟨_, _, _, _, _, _, _, _⟩ _ _ _ _ ho (by decide) (V5 _) rfl)).conv (fun E r hr => hr.head (fun _ hc => Vo hX hc) fun _ hc => hc), fun _ => rfl, hK⟩
 ·exact ha.elim
end Go.Tk
end
section
namespace Go.Tk
open IntKind (i64 u8 u32 u64 wrap)
theorem ZhB (s : Int) : (if 5 < s then 5 else s) = min s 5 := by split <;> omega
theorem ZhC (p q : Z6) (b : Bool) (hb : b = decide (Xh p q)) :
  evF Zf6 20 77 [.agg p.c, .agg q.c] ⟨0, []⟩ (Yp (fun v => v = .bool b)) := by
 refine @Eq.mpr _ (let q1 := q.own;
 let q2 := p.id;
 let q3 := q2 != q2;
 let q4 := q.id;
 let q5 := q4 != q4;
 let q6 := AV.bool b;
 let q7 := AV.bool false = q6;
 let q8 := Z0 (!p.own == q1) (AV.bool true = q6) (AV.bool (decide ((if 5 < p.stage then 5 else p.stage) ≥ if 5 < q.stage then 5 else q.stage)) = q6);
 let q9 := decide (q2 < q4);
 let q10 := decide (q2 > q4);
 let q11 := Z0 q10 q7 q7;
 let q12 := Z0 q3 (Z0 q5 q7 q8) (Z0 q5 q7 (Z0 q9 q8 q11));
 Z0 p.own (Z0 q1 q12 (Z0 q3 (Z0 q5 q8 q8) (Z0 q5 q8 (Z0 q9 q8 (Z0 q10 q8 q8))))) (Z0 q1 (Z0 q3 (Z0 q5 q7 q7) (Z0 q5 q7 (Z0 q9 q7 q11))) q12)) (by kernel_rfl) ?_
 conv => zeta
 subst hb
 simp only [bne_self_eq_false, ZaI, Va, ZhB]
 congr 1
 refine Bool.eq_iff_iff.2 (Iff.trans (b := Xh p q) ?_ decide_eq_true_iff.symm)
 unfold Xh
 cases p.own <;> cases q.own <;> by_cases h1 : p.id < q.id <;> by_cases h2 : q.id < p.id <;> simp [h1, h2]
theorem Zg8 (X : Za) (p : Z6) (s : Int) (b : Bool) (hX : YG X) (hb : b = decide (ZN X.side p.own = s)) :
  evF G0 20 104 [.agg p.c, .pview [Uu X] 0, .pview [.int .i64 s] 0] ⟨0, []⟩ (Yp (fun v => v = .bool b)) := by
 refine @Eq.mpr _ (let q1 := decide (s = s);
 Z0 p.own (Z0 q1 (AV.bool (X.side == s) = AV.bool b) False) (Z0 q1 (AV.bool (wrap i64 (1 - X.side) == s) = AV.bool b) False)) (by kernel_rfl) ?_
 conv => zeta
 obtain ⟨h1, h2⟩ := hX
 rw [decide_eq_true (rfl : s = s), w64 (by omega)]
 subst hb
 unfold ZN
 simp only [ZaH, Va]
 cases p.own <;> rfl
theorem ZcH (args : List AV) (h : Z9) (K : AV → Prop) (hl : Zf7 args h K) : Zo PP 77 args h fun o h' => ∃ v, o = .ret v ∧ h' = h ∧ K v := by
 unfold Zf7 at hl
 split at hl
 ·exact Yf Z7S rfl (ZhC ⟨_, _, _, _, _, _, _, _⟩ ⟨_, _, _, _, _, _, _, _⟩ _ rfl) (fun u hu => hu ▸ hl)
 ·exact hl.elim
end Go.Tk
end
section
namespace Go.Tk
open IntKind (i64 u8 u32 u64 wrap)
theorem ZcI (args : List AV) (h : Z9) (K : AV → Prop) (hl : Zf8 args h K) : Zo PP 104 args h fun o h' => ∃ v, o = .ret v ∧ h' = h ∧ K v := by
 unfold Zf8 at hl
 split at hl
 ·rename_i ow id am ha ex st en se cs s
  obtain ⟨X, hX, hs, hK⟩ := hl
  have := Yf (h := h) Zw rfl (Zg8 X ⟨ow, id, am, ha, ex, st, en, se⟩ s _ hs rfl) (fun u hu => hu ▸ hK)
  exact this.conv fun E r hr => hr.head (fun _ hc => hc) fun _ hr => hr.head (fun _ hc => Z4t hX hc) fun _ hc => hc
 ·exact hl.elim
noncomputable def Zfb : Zg := G0.withP 104 Zf8
theorem ZcJ : Zfb.Ok := Zg.withP_ok Zw ZcI
def svC (X : Za) (s : Int) : AV := .func (.func 104) [] [.pview [Uu X] 0, .pview [.int .i64 s] 0]
def svS (X : Za) (s : Int) (n i c : Nat) (O : List Z6) : St := ⟨22, [(9, .int .i64 i), (8, .int .i64 n), (7, .vrows 70 n (Z5 X.L) n), (1, svC X s), (4, .nslice ⟨0, 0, 70, 0, 0⟩ 70 c c)], ⟨1, [(0, .rows 70 c (Z5 O))]⟩, []⟩
def svE (c : Nat) (O : List Z6) : St := ⟨22, [(4, .nslice ⟨0, 0, 70, 0, 0⟩ 70 c c)], ⟨1, [(0, .rows 70 c (Z5 O))]⟩, []⟩
theorem ZhD (X : Za) (s : Int) (n i c c1 : Nat) (O O1 : List Z6) (Z1 Z2 : Prop) (hn : n < 1000) (hL : X.L.length = n) (hi : i ≤ n) (hO : O.length = c) (hci : c ≤ i) (hX : YG X) (h1 : i < n → O1 = O ++ YM (decide (ZN X.side (X.L.getD i Zc).own = s)) (X.L.getD i Zc)) (hc1 : c1 = O1.length) (hZ1 : i < n → Z1) (hZ2 : i = n → Z2) :
  ZI Zfb 20 103 0 0 (svS X s n i c O) (rdM 0 0 9 (svS X s n (i + 1) c1 O1) (svE c O) (svE c O) (svE c O) Z1 Z2 False False) := by
 refine @Eq.mpr _ (let q1 := X.L;
 let q2 := List.length q1;
 let q3 := Z5 q1;
 let q4 := Za.c X (AV.vrows 70 q2 q3 q2);
 let q5 := List.getD q1 (Int.toNat (↑i : Int)) Zc;
 let q6 := q5.own;
 let q7 := decide (c = c);
 let q8 := c + 1;
 let q9 := decide (wrap i64 ((↑i : Int) + 1) = (↑(i + 1) : Int));
 let q10 := decide ((↑n : Int) = (↑n : Int));
 let q11 := decide (n = n);
 let q12 := q3 = q3;
 let q13 := [AV.pview q4 0];
 let q14 := q13 = q13;
 let q15 := [AV.int i64 s];
 let q16 := q15 = q15;
 let q17 := decide (q8 = c1);
 let q18 := Z5 O;
 let q19 := decide (c = c1);
 let q20 := [(0, 0)];
 Z0 (decide ((↑i : Int) < (↑n : Int)))
 (Z0 (decide (0 ≤ (↑i : Int) ∧ (↑i : Int) < (↑n : Int)))
 (∃ (X : Za),
 let q41 := X.side;
 LV q4 X ∧ (0 ≤ q41 ∧ q41 ≤ 1) ∧ Z0 (decide (ZN q41 q6 = s)) (Z0 q7 (Z0 (decide (q8 * 112 ≤ 140737488355328)) (Z0 q9 (Z0 q10 (Z0 q11 (q12 ∧ Z0 q11 (q14 ∧ q16 ∧ Z0 q17 (Z0 (decide (c1 ≤ q8)) (Z0 q17 (Z8 0 [(0, 3)] c1 (Z5 O1) (ZV c q18 (YD [AV.bool q6, AV.int i64 q5.id, AV.int i64 q5.amount, AV.arr u8 32 q5.hash, AV.int i64 q5.expiry, AV.int i64 q5.stage, AV.int i64 q5.fin, AV.arr u8 32 q5.secret] 0 70)) ∧ Z1) False) False) False) False) False) False) False) False) False) (Z0 q9 (Z0 q10 (Z0 q11 (q12 ∧ Z0 q11 (q14 ∧ q16 ∧ Z0 q19 (Z0 (decide (c1 ≤ c)) (Z0 q19 (Z8 0 q20 c1 (Z5 O1) q18 ∧ Z1) False) False) False) False) False) False) False))
 False)
 (Z0 q7 (Z0 (decide (c ≤ c)) (Z0 q7 (Z8 0 q20 c q18 q18 ∧ Z2) False) False) False)) (by kernel_rfl) ?_
 conv => zeta
 try simp only [Zi]
 try simp only [Zj]
 try simp only [Zk]
 try simp only [Zl]
 try simp only [Zm]
 try simp only [Zh]
 try simp only [Int.toNat_natCast, Nat.zero_add, true_and, and_true, Nat.le_refl]
 refine ⟨fun hc => ?_, fun hc => ⟨Zn fun _ _ => rfl, hZ2 (by omega)⟩⟩
 have hlt : i < n := by omega
 have h1 := h1 hlt
 have hwr : i64.wrap ((i : Int) + 1) = ((i + 1 : Nat) : Int) := by rw [w64 (by omega)]; omega
 refine ⟨by omega, X, .a rfl, hX, fun hd => ?_, fun hd => ?_⟩
 ·rw [decide_eq_true hd] at h1
  have hl : c1 = c + 1 := by rw [hc1, h1]; simp [YM, hO]
  subst hl
  subst h1
  have hR : Z8 0 [(0, 3)] (c + 1) (Z5 (O ++ YM true (X.L.getD i Zc))) (ZV c (Z5 O) (YD (X.L.getD i Zc).c 0 70)) := Zn fun j hj => Ym hO (fun _ _ => rfl) hj
  repeat' apply And.intro
  all_goals first | omega | exact hwr | exact hR | exact hZ1 hlt | rfl
 ·rw [decide_eq_false hd] at h1
  have hl : c1 = c := by rw [hc1, h1]; simp [YM, hO]
  subst hl
  simp only [YM, List.append_nil] at h1
  subst h1
  repeat' apply And.intro
  all_goals first | omega | exact hwr | exact Zn fun _ _ => rfl | exact hZ1 hlt | rfl
def VZ (X : Za) (s : Int) (i : Nat) : List Z6 := ZO X.side s (X.L.take i)
theorem Z99 (X : Za) (s : Int) {i : Nat} (hi : i < X.L.length) : VZ X s (i + 1) = VZ X s i ++ YM (decide (ZN X.side (X.L.getD i Zc).own = s)) (X.L.getD i Zc) := Z07 hi
theorem ZcK (X : Za) (s : Int) (i : Nat) : (VZ X s i).length ≤ i := by
 refine Nat.le_trans (List.length_filter_le _ _) ?_
 rw [List.length_take]; omega
theorem ZaN (X : Za) (s : Int) : VZ X s X.L.length = ZO X.side s X.L := by unfold VZ; rw [List.take_length]
noncomputable def ZdX (X : Za) (s : Int) (n : Nat) : Zg := Zfb.withL 103 0 (goM 0 (svS X s n 0 0 []) (X.L.length = n ∧ n < 1000 ∧ YG X) (Yv 0 n 9 (fun i => i < n) (fun i => i = n) (fun _ => False) (fun _ => False) (fun i => svE (VZ X s i).length (VZ X s i)) (fun i => svE (VZ X s i).length (VZ X s i)) (fun i => svE (VZ X s i).length (VZ X s i))))
theorem Z5x (X : Za) (s : Int) (n : Nat) : (ZdX X s n).Ok :=
 Zg.withGoM (N := 20) (S := fun i => svS X s n i (VZ X s i).length (VZ X s i)) ZcJ (by kernel_rfl) fun hC => ⟨by simp [VZ, ZO], fun i hi _ => by
  obtain ⟨h1, h2, h3⟩ := hC
  exact ZhD X s n i _ _ _ _ (i < n ∧ i < n) (i = n) h2 h1 hi rfl (ZcK X s i) h3 (fun h => Z99 X s (by omega)) rfl (fun h => ⟨h, h⟩) (fun h => h)⟩
theorem Zg9 (X : Za) (s : Int) (n c : Nat) (O : List Z6) (hL : X.L.length = n) (hn : n < 1000) (hX : YG X) (hO : O = ZO X.side s X.L) (hc : c = O.length) :
  evF (ZdX X s n) 20 103 [.vrows 70 n (Z5 X.L) n, svC X s] ⟨0, []⟩ (YQ 0 (.ret (.nslice ⟨0, 0, 70, 0, 0⟩ 70 c c)) 1 [(0, .rows 70 c (Z5 O))]) := by
 refine @Eq.mpr _ (let q1 := decide (n = n);
 let q2 := Z5 X.L;
 let q3 := List.length X.L;
 let q4 := [AV.pview (Za.c X (AV.vrows 70 q3 q2 q3)) 0];
 let q5 := [AV.int i64 s];
 Z0 (decide ((↑n : Int) = (↑n : Int)))
 (Z0 q1
 (q2 = q2 ∧
 Z0 q1
 (q4 = q4 ∧
 q5 = q5 ∧
 (q3 = n ∧ n < 1000 ∧ 0 ≤ X.side ∧ X.side ≤ 1) ∧
 ∀ (i : Nat),
 let q11 := List.length (VZ X s i);
 let q12 := decide (q11 = c);
 let q13 := Z0 q12 (Z0 (decide (c ≤ q11)) (Z0 q12 (Z8 0 [(0, 0)] c (Z5 O) (Z5 (VZ X s i)) ∧ True) False) False) False;
 i ≤ n → (∀ (j : Nat), j < i → (fun (i : Nat) => i < n) j) → (i = n → q13) ∧ (False → q13) ∧ (False → False))
 False)
 False)
 False) (by kernel_rfl) ?_
 conv => zeta
 try simp only [Zi]
 try simp only [Zj]
 try simp only [Zk]
 try simp only [Zl]
 try simp only [Zm]
 try simp only [Zh]
 try simp only [Int.toNat_natCast, Nat.zero_add, true_and, and_true, Nat.le_refl]
 have ha : VZ X s n = O := by rw [← hL, ZaN, hO]
 repeat' apply And.intro
 all_goals first | rfl | exact hL | exact hn | exact hX.1 | exact hX.2 | skip
 intro i hi _
 refine ⟨fun he => ?_, fun h => h.elim, fun h => h.elim⟩
 subst he
 rw [ha]
 subst hc
 repeat' apply And.intro
 all_goals first | omega | rfl | exact Zn fun _ _ => rfl
theorem Z9a (args : List AV) (h : Z9) (K : KO) (hl : ZaL args h K) : Zo PP 103 args h K := by
 refine ZH.fsumm (d := 20) (Zx _ _ _ _ _ hl fun a ha => ?_)
 split at ha
 ·obtain ⟨X, rfl, h1, rfl, hX, hs, h2, hK⟩ := ha
  refine ⟨_, _, _, _, (ZH.evM (Z5x X _ _) (Zg9 X _ _ _ _ h1.symm h2 hs rfl rfl)).conv fun E r hr => hr.head (fun _ hc => hc) fun _ hr => hr.head (fun _ hc => ?_) fun _ hc => hc, rfl, ⟨Nat.one_pos, .rows _ _ _ (fun i _ => X9 _ i), trivial⟩, hK⟩
  cases hc with
  | func fn fi ca fs cs h3 h4 => exact .func _ _ _ _ _ h3 (h4.head (fun _ hc => Z4t hX hc) fun _ hc => hc)
 ·obtain ⟨X, hX, hs, h1, hK⟩ := ha
  refine ⟨_, _, _, _, (ZH.evM (Z5x X _ 0) (Zg9 X _ 0 _ _ (by rw [h1]; rfl) (by omega) hs rfl rfl)).conv fun E r hr => hr.head (fun _ hc => ?_) fun _ hr => hr.head (fun _ hc => ?_) fun _ hc => hc, rfl, ⟨Nat.one_pos, .rows _ _ _ (fun i _ => X9 _ i), trivial⟩, hK⟩
  ·cases hc; exact .vrowsNil _ _ _ _ rfl rfl
  ·cases hc with
   | func fn fi ca fs cs h3 h4 => exact .func _ _ _ _ _ h3 (h4.head (fun _ hc => Z4t hX hc) fun _ hc => hc)
 ·exact ha.elim
noncomputable def ZaO : Zg := G0.withF 103 ZaL
theorem ZaP : ZaO.Ok := Zg.withF_ok Zw Z9a
def ZcL (n i : Nat) (O : List Z6) : St := ⟨26, [(14, .int .i64 i), (13, .int .i64 n), (12, .nslice ⟨0, 0, 70, 0, 0⟩ 70 n n), (4, .nslice ⟨1, 0, 0, 0, 0⟩ 1 i i)], ⟨2, [(0, .rows 70 n (Z5 O)), (1, .ints .i64 (Xv (O.take i)))]⟩, []⟩
def Z9b (i : Nat) (O : List Z6) : St := ⟨26, [(4, .nslice ⟨0, 0, 0, 0, 0⟩ 1 i i)], ⟨1, [(0, .ints .i64 (Xv (O.take i)))]⟩, []⟩
theorem ZhE (n i : Nat) (O : List Z6) (Z1 Z2 : Prop) (hn : n < 1000) (hL : O.length = n) (hi : i ≤ n) (hZ1 : i < n → Z1) (hZ2 : i = n → Z2) :
  ZI ZaO 20 58 0 0 (ZcL n i O) (rdM 0 0 9 (ZcL n (i + 1) O) (Z9b i O) (Z9b i O) (Z9b i O) Z1 Z2 False False) := by
 refine @Eq.mpr _ (let q1 := 0 + Int.toNat (↑i : Int);
 let q2 := Xv (List.take i O);
 let q3 := q2 ++ [(List.getD O q1 Zc).amount];
 let q4 := List.length q3;
 let q5 := i + 1;
 let q6 := decide (n = n);
 Z0 (decide ((↑i : Int) < (↑n : Int))) (Z0 (decide (0 ≤ (↑i : Int) ∧ (↑i : Int) < (↑n : Int))) (Z0 (decide (q1 < n)) (Z0 (decide (i64 = i64 ∧ List.length q2 = i)) (Z0 (decide (q4 * 8 ≤ 140737488355328)) (Z0 (decide (wrap i64 ((↑i : Int) + 1) = (↑q5 : Int))) (Z0 (decide ((↑n : Int) = (↑n : Int))) (Z0 q6 (Z0 (decide (n ≤ n)) (Z0 (decide (q4 = q5)) (Z0 (decide (q5 ≤ q4)) (Z0 q6 (Z8 0 [(1, 4), (0, 0)] n (Z5 O) (Z5 O) ∧ q3 = Xv (List.take q5 O) ∧ Z1) False) False) False) False) False) False) False) False) False) False) False) (Z0 (decide (i = i)) (Z0 (decide (i ≤ i)) (q2 = q2 ∧ Z2) False) False)) (by kernel_rfl) ?_
 conv => zeta
 try simp only [Zi]
 try simp only [Zj]
 try simp only [Zk]
 try simp only [Zl]
 try simp only [Zm]
 try simp only [Zh]
 try simp only [Int.toNat_natCast, Nat.zero_add, true_and, and_true, Nat.le_refl]
 have hl : (Xv (O.take i)).length = i := by unfold Xv; rw [List.length_map, List.length_take]; omega
 refine ⟨fun hc => ?_, fun hc => hZ2 (by omega)⟩
 have hlt : i < n := by omega
 have hwr : i64.wrap ((i : Int) + 1) = ((i + 1 : Nat) : Int) := by rw [w64 (by omega)]; omega
 have ht : Xv (O.take (i + 1)) = Xv (O.take i) ++ [(O.getD i Zc).amount] := by
  unfold Xv
  rw [List.take_succ_eq_append_getElem (by omega), List.map_append, List.getD_eq_getElem?_getD, List.getElem?_eq_getElem (by omega)]
  rfl
 have hl2 : (Xv (O.take i) ++ [(O.getD i Zc).amount]).length = i + 1 := by simp [hl]
 repeat' apply And.intro
 all_goals first | omega | exact hwr | exact Zn fun _ _ => rfl | exact ht.symm | exact hZ1 hlt | rfl
noncomputable def ZdY (O : List Z6) (n : Nat) : Zg := ZaO.withL 58 0 (goM 0 (ZcL n 0 O) (O.length = n ∧ n < 1000) (Yv 0 n 9 (fun i => i < n) (fun i => i = n) (fun _ => False) (fun _ => False) (fun i => Z9b i O) (fun i => Z9b i O) (fun i => Z9b i O)))
theorem ZaQ (O : List Z6) (n : Nat) : (ZdY O n).Ok :=
 Zg.withGoM (N := 20) (S := fun i => ZcL n i O) ZaP (by kernel_rfl) fun hC => ⟨rfl, fun i hi _ => ZhE n i O (i < n ∧ i < n) (i = n) hC.2 hC.1 hi (fun h => ⟨h, h⟩) (fun h => h)⟩
theorem Z4u (side s : Int) (L : List Z6) : (ZO side s L).length ≤ L.length := List.length_filter_le _ _
theorem ZhF (X : Za) (s : Int) (c : Nat) (O : List Z6) (xs : List Int) (hn : X.L.length < 1000) (hX : YG X) (hO : O = ZO X.side s X.L) (hc : c = O.length) (hx : xs = Xv O) :
  evF (ZdY O c) 20 58 [Uu X, .int .i64 s] ⟨0, []⟩ (YQ 0 (.ret (.nslice ⟨0, 0, 0, 0, 0⟩ 1 c c)) 1 [(0, .ints .i64 xs)]) := by
 refine @Eq.mpr _ (let q1 := List.length X.L;
 let q2 := Z5 X.L;
 ∃ (X_1 : Za),
 let q5 := X_1.L;
 let q6 := X_1.side;
 let q7 := ZO q6 s q5;
 let q8 := List.length q7;
 let q9 := decide (q8 = c);
 q1 = q1 ∧
 q1 = List.length q5 ∧
 q2 = Z5 q5 ∧
 LV (Za.c X (AV.vrows 70 q1 q2 q1)) X_1 ∧
 (0 ≤ q6 ∧ q6 ≤ 1) ∧
 q1 < 1000 ∧
 Z0 (decide ((↑q8 : Int) = (↑c : Int)))
 (Z0 q9
 (Z0 (decide (c ≤ q8))
 (Z0 q9
 (Z8 0 [(0, 2)] c (Z5 O) (Z5 q7) ∧
 Xv (List.take 0 O) = [] ∧
 (List.length O = c ∧ c < 1000) ∧
 ∀ (i : Nat),
 let q15 := Z0 (decide (i = c)) (Z0 (decide (c ≤ i)) (Xv (List.take i O) = xs ∧ True) False) False;
 i ≤ c → (∀ (j : Nat), j < i → (fun (i : Nat) => i < c) j) → (i = c → q15) ∧ (False → q15) ∧ (False → False))
 False)
 False)
 False)
 False) (by kernel_rfl) ?_
 conv => zeta
 try simp only [Zi]
 try simp only [Zj]
 try simp only [Zk]
 try simp only [Zl]
 try simp only [Zm]
 try simp only [Zh]
 try simp only [Int.toNat_natCast, Nat.zero_add, true_and, and_true, Nat.le_refl]
 subst hx
 have hle := Z4u X.side s X.L
 refine ⟨X, ?_⟩
 rw [← hO]
 repeat' apply And.intro
 all_goals first | rfl | exact .a rfl | exact hX.1 | exact hX.2 | exact hn | exact hc.symm | (rw [hc]; done) | (rw [hc, hO]; omega) | exact Zn fun _ _ => rfl | skip
 intro i hi _
 refine ⟨fun he => ?_, fun h => h.elim, fun h => h.elim⟩
 rw [he, hc, List.take_length]
 exact ⟨rfl, Nat.le_refl _, rfl⟩
theorem Um (args : List AV) (h : Z9) (K : KO) (hl : Z2n args h K) : Zo PP 58 args h K := by
 refine ZH.fsumm (d := 20) (Zx _ _ _ _ _ hl fun a ha => ?_)
 split at ha
 ·obtain ⟨X, hX, hs, h1, hK⟩ := ha
  exact ⟨_, _, _, _, (ZH.evM (ZaQ _ _) (ZhF X _ _ _ _ h1 hs rfl rfl rfl)).conv fun E r hr => hr.head (fun _ hc => Vo hX hc) fun _ hc => hc, rfl, ⟨Nat.one_pos, .ints _ _, trivial⟩, hK⟩
 ·exact ha.elim
def Z7U (xs : List Int) (n i : Nat) (a : Int) : St := ⟨16, [(7, .int .i64 i), (6, .int .i64 n), (5, .vints .i64 xs n), (2, .int .i64 a)], ⟨0, []⟩, []⟩
def Z3x (a : Int) : St := ⟨16, [(2, .int .i64 a)], ⟨0, []⟩, []⟩
theorem ZhG (xs : List Int) (n i : Nat) (a a1 : Int) (Z1 Z2 : Prop) (hn : n < 1000) (hL : xs.length = n) (hi : i ≤ n) (h1 : i < n → a1 = i64.wrap (a + xs.getD i 0)) (hZ1 : i < n → Z1) (hZ2 : i = n → Z2) :
  ZI G0 20 105 0 0 (Z7U xs n i a) (rdM 0 0 9 (Z7U xs n (i + 1) a1) (Z3x a) (Z3x a) (Z3x a) Z1 Z2 False False) := by
 refine @Eq.mpr _ (Z0 (decide ((↑i : Int) < (↑n : Int))) (Z0 (decide (0 ≤ (↑i : Int) ∧ (↑i : Int) < (↑n : Int))) (Z0 (decide (wrap i64 ((↑i : Int) + 1) = (↑(i + 1) : Int))) (Z0 (decide ((↑n : Int) = (↑n : Int))) (xs = xs ∧ Z0 (decide (n = n)) (Z0 (decide (wrap i64 (a + List.getD xs (Int.toNat (↑i : Int)) 0) = a1)) Z1 False) False) False) False) False) (Z0 (decide (a = a)) Z2 False)) (by kernel_rfl) ?_
 try simp only [Zi]
 try simp only [Zj]
 try simp only [Zk]
 try simp only [Zl]
 try simp only [Zm]
 try simp only [Zh]
 try simp only [Int.toNat_natCast, Nat.zero_add, true_and, and_true, Nat.le_refl]
 refine ⟨fun hc => ?_, fun hc => hZ2 (by omega)⟩
 have hlt : i < n := by omega
 have hwr : i64.wrap ((i : Int) + 1) = ((i + 1 : Nat) : Int) := by rw [w64 (by omega)]; omega
 have h1 := h1 hlt
 repeat' apply And.intro
 all_goals first | omega | exact hwr | exact h1.symm | exact hZ1 hlt | rfl
def Z2o (xs : List Int) : Nat → Int
 | 0 => 0
 | i + 1 => i64.wrap (Z2o xs i + xs.getD i 0)
theorem Z08 {xs : List Int} (h : ∀ x ∈ xs, 0 ≤ x ∧ x ≤ 1125899906842624) : 0 ≤ xs.sum ∧ xs.sum ≤ 1125899906842624 * xs.length := by
 induction xs with
 | nil => simp
 | cons a r ih =>
  have h1 := h a (by simp)
  have h2 := ih fun x hx => h x (by simp [hx])
  simp only [List.sum_cons, List.length_cons]
  omega
theorem Z7V {xs : List Int} (hn : xs.length < 1000) (h : ∀ x ∈ xs, 0 ≤ x ∧ x ≤ 1125899906842624) : ∀ i, i ≤ xs.length → Z2o xs i = (xs.take i).sum
 | 0, _ => by simp [Z2o]
 | i + 1, hi => by
  have ih := Z7V hn h i (by omega)
  have hb := Z08 (xs := xs.take (i + 1)) fun x hx => h x (List.mem_of_mem_take hx)
  have e : (xs.take (i + 1)).sum = (xs.take i).sum + xs.getD i 0 := by
   rw [List.take_succ_eq_append_getElem (by omega), List.sum_append, List.getD_eq_getElem?_getD, List.getElem?_eq_getElem (by omega)]
   simp
  have hl : (xs.take (i + 1)).length ≤ 1000 := by rw [List.length_take]; omega
  unfold Z2o
  rw [ih, ← e, w64 (by omega)]
noncomputable def ZdZ (xs : List Int) (n : Nat) : Zg := G0.withL 105 0 (goM 0 (Z7U xs n 0 0) (xs.length = n ∧ n < 1000) (Yv 0 n 9 (fun i => i < n) (fun i => i = n) (fun _ => False) (fun _ => False) (fun i => Z3x (Z2o xs i)) (fun i => Z3x (Z2o xs i)) (fun i => Z3x (Z2o xs i))))
theorem ZaR (xs : List Int) (n : Nat) : (ZdZ xs n).Ok :=
 Zg.withGoM (N := 20) (S := fun i => Z7U xs n i (Z2o xs i)) Zw (by kernel_rfl) fun hC => ⟨rfl, fun i hi _ => ZhG xs n i _ _ (i < n ∧ i < n) (i = n) hC.2 hC.1 hi (fun _ => rfl) (fun h => ⟨h, h⟩) (fun h => h)⟩
theorem ZhH (xs : List Int) (n : Nat) (r : Int) (hL : xs.length = n) (hn : n < 1000) (hr : r = Z2o xs n) :
  evF (ZdZ xs n) 20 105 [.vints .i64 xs n] ⟨0, []⟩ (Yp (fun v => v = .int .i64 r)) := by
 refine @Eq.mpr _ (Z0 (decide ((↑n : Int) = (↑n : Int)))
 (xs = xs ∧
 Z0 (decide (n = n))
 ((List.length xs = n ∧ n < 1000) ∧
 ∀ (i : Nat),
 let q1 := AV.int i64 (Z2o xs i) = AV.int i64 r;
 i ≤ n → (∀ (j : Nat), j < i → (fun (i : Nat) => i < n) j) → (i = n → q1) ∧ (False → q1) ∧ (False → False))
 False)
 False) (by kernel_rfl) ?_
 conv => zeta
 try simp only [Zi]
 try simp only [Zj]
 try simp only [Zk]
 try simp only [Zl]
 try simp only [Zm]
 try simp only [Zh]
 try simp only [Int.toNat_natCast, Nat.zero_add, true_and, and_true, Nat.le_refl]
 refine ⟨⟨hL, hn⟩, fun i hi _ => ⟨fun he => ?_, fun h => h.elim, fun h => h.elim⟩⟩
 rw [he, hr]
theorem Zfc (args : List AV) (h : Z9) (K : AV → Prop) (hl : smS args h K) : Zo PP 105 args h fun o h' => ∃ v, o = .ret v ∧ h' = h ∧ K v := by
 refine ZH.psumm (d := 20) (Zx _ _ _ _ _ hl fun a ha => ?_)
 split at ha
 ·rename_i xs n
  obtain ⟨h1, h2, h3, hK⟩ := ha
  have e : Z2o xs n = xs.sum := by rw [h1, Z7V (by omega) h3 _ (Nat.le_refl _), List.take_length]
  exact ⟨_, ZH.evV (ZaR _ _) (ZhH xs n _ h1.symm h2 rfl), fun _ => rfl, by rw [e]; exact hK⟩
 ·exact ha.elim
noncomputable def Ze0 : Zg := (G0.withF 58 Z2n).withP 105 smS
theorem ZaS : Ze0.Ok := Zg.withP_ok (Zg.withF_ok Zw Um) Zfc
theorem ZhI (X : Za) (s : Int) (r : Int) (hs : s = 0 ∨ s = 1) (hX : YG X) (hA : Z0L X) (hr : r = Ya X s) :
  evF Ze0 20 59 [Uu X, .int .i64 s] ⟨0, []⟩ (Yp (fun v => v = .int .i64 r)) := by
 refine @Eq.mpr _ (let q1 := decide (0 ≤ s ∧ s < 2);
 let q2 := 0 + Int.toNat s;
 let q3 := decide (q2 < 2);
 let q4 := decide (q2 < 2);
 let q5 := List.length X.L;
 let q6 := List.getD [X.t.fee, (0 : Int)] q2 0;
 let q7 := X.res;
 let q8 := List.getD [X.a0, X.a1] q2 0;
 Z0 q1
 (Z0 q3
 (Z0 q1
 (Z0 q4
 (∃ (X_1 : Za),
 let q17 := X_1.side;
 let q18 := ZO q17 s X_1.L;
 let q19 := List.length q18;
 let q20 := Xv q18;
 let q21 := List.take q19 (XT 0 q20);
 LV (Za.c X (AV.vrows 70 q5 (Z5 X.L) q5)) X_1 ∧ (0 ≤ q17 ∧ q17 ≤ 1) ∧ List.length X_1.L < 1000 ∧ Z0 q4 (Z0 (decide (q6 = q6)) (Z0 (decide (q7 = q7)) (Z0 q3 (Z0 (decide (q8 = q8)) (Z0 (decide (0 + q19 ≤ List.length q20)) (q19 = List.length q21 ∧ q19 < 1000 ∧ (∀ (x : Int), List.Mem x q21 → 0 ≤ x ∧ x ≤ 1125899906842624) ∧ AV.int i64 (wrap i64 (wrap i64 (wrap i64 (q8 - List.sum q21) - q7) - q6)) = AV.int i64 r) False) False) False) False) False) False)
 False)
 False)
 False)
 False) (by kernel_rfl) ?_
 conv => zeta
 obtain ⟨h1, h2, h3, h4, h5, h6⟩ := hA
 have hle := Z4u X.side s X.L
 have hb : ∀ x ∈ Xv (ZO X.side s X.L), 0 ≤ x ∧ x ≤ 1125899906842624 := fun x hx => by
  obtain ⟨z, hz, rfl⟩ := List.mem_map.1 hx
  exact h2 z ((List.mem_filter.1 hz).1)
 have hl : (Xv (ZO X.side s X.L)).length = (ZO X.side s X.L).length := List.length_map _
 have hsum := Z08 hb
 have e : List.take (ZO X.side s X.L).length (XT 0 (Xv (ZO X.side s X.L))) = Xv (ZO X.side s X.L) := by rw [X6, List.drop_zero, ← hl, List.take_length]
 try simp only [Zi]
 try simp only [Zj]
 try simp only [Zk]
 try simp only [Zl]
 try simp only [Zm]
 try simp only [Zh]
 try simp only [Int.toNat_natCast, Nat.zero_add, true_and, and_true, Nat.le_refl]
 repeat' first | apply And.intro | refine Exists.intro X ?_
 all_goals try rw [e]
 all_goals first | omega | rfl | exact .a rfl | exact hX.1 | exact hX.2 | exact hb | skip
 rw [hr]
 unfold Ya Za.am
 generalize (Xv (ZO X.side s X.L)).sum = q at *
 congr 1
 rcases hs with rfl | rfl
 ·simp only [Int.toNat_zero, List.getD_cons_zero, if_true]
  have e2 : i64.wrap (X.a0 - q) = X.a0 - q := w64 (by omega)
  have e3 : i64.wrap (X.a0 - q - X.res) = X.a0 - q - X.res := w64 (by omega)
  rw [e2, e3, w64 (by omega)]
 ·have e1 : (1 : Int).toNat = 1 := rfl
  simp only [e1, List.getD_cons_succ, List.getD_cons_zero, show ¬ (1 : Int) = 0 by decide, if_false]
  have e2 : i64.wrap (X.a1 - q) = X.a1 - q := w64 (by omega)
  have e3 : i64.wrap (X.a1 - q - X.res) = X.a1 - q - X.res := w64 (by omega)
  rw [e2, e3, w64 (by omega)]
theorem Z7W (args : List AV) (h : Z9) (K : AV → Prop) (hl : Zf9 args h K) : Zo PP 59 args h fun o h' => ∃ v, o = .ret v ∧ h' = h ∧ K v := by
 refine ZH.psumm (d := 20) (Zx _ _ _ _ _ hl fun a ha => ?_)
 split at ha
 ·obtain ⟨X, hX, hs, h1, h2, hK⟩ := ha
  exact ⟨_, (ZH.evV ZaS (ZhI X _ _ h1 hs h2 rfl)).conv fun E r hr => hr.head (fun _ hc => Vo hX hc) fun _ hc => hc, fun _ => rfl, hK⟩
 ·exact ha.elim
end Go.Tk
end
section
namespace Go.Tk
open IntKind (i64 u8 u32 u64 wrap)
noncomputable def Ze1 : Zg := G0.withF 58 Z2n
theorem ZaT : Ze1.Ok := Zg.withF_ok Zw Um
theorem Zga (X : Za) (s : Int) (b : Bool) (hX : YG X) (hn : X.L.length < 1000) (hb : b = decide ((ZO X.side s X.L).length ≤ 8)) :
  evF Ze1 20 74 [.int .i64 s, .pview [Uu X] 0] ⟨0, []⟩ (Yp (fun v => v = .bool b)) := by
 refine @Eq.mpr _ (let q1 := List.length X.L;
 ∃ (X_1 : Za),
 let q3 := X_1.side;
 LV (Za.c X (AV.vrows 70 q1 (Z5 X.L) q1)) X_1 ∧ (0 ≤ q3 ∧ q3 ≤ 1) ∧ List.length X_1.L < 1000 ∧ AV.bool (decide ((↑(List.length (ZO q3 s X_1.L)) : Int) ≤ 8)) = AV.bool b) (by kernel_rfl) ?_
 conv => zeta
 subst hb
 refine ⟨X, .a rfl, hX, hn, ?_⟩
 congr 1
 rw [Bool.eq_iff_iff, decide_eq_true_iff, decide_eq_true_iff]
 omega
theorem ZaU (args : List AV) (h : Z9) (K : AV → Prop) (hl : ZdW args h K) : Zo PP 74 args h fun o h' => ∃ v, o = .ret v ∧ h' = h ∧ K v := by
 refine ZH.psumm (d := 20) (Zx _ _ _ _ _ hl fun a ha => ?_)
 split at ha
 ·obtain ⟨X, hX, hs, hn, hK⟩ := ha
  exact ⟨_, (ZH.evV ZaT (Zga X _ _ hs hn rfl)).conv fun E r hr => hr.head (fun _ hc => hc) fun _ hr => hr.head (fun _ hc => Z4t hX hc) fun _ hc => hc, fun _ => rfl, hK⟩
 ·exact ha.elim
noncomputable def ZcM (H1 : List Int → List Int) : Zg := (G0.withP 76 (ZaK H1)).withP 77 Zf7
theorem ZcN : (ZcM Zq).Ok := Zg.withP_ok (Zg.withP_ok Zw Z98) ZcH
noncomputable def ZaV (H1 : List Int → List Int) (X : Za) (n : Nat) : Zg := ((((Z4r (ZcM H1)).withP 75 ZaF).withP 74 ZdW).withP 59 Zf9).withF 58 Z2n
theorem ZaW {H1 : List Int → List Int} (h0 : (ZcM H1).Ok) (X : Za) (n : Nat) : (ZaV H1 X n).Ok := Zg.withF_ok (Zg.withP_ok (Zg.withP_ok (Zg.withP_ok (Zg.withP_ok (Zg.withP_ok (Zg.withP_ok (Zg.withP_ok h0 Z13) QA) QB) QC) ZaG) ZaU) Z7W) Um
def rgS (X : Za) (n i : Nat) : St := ⟨140, [(99, .int .i64 i), (98, .int .i64 n), (97, .vrows 70 n (Z5 X.L) n), (1, .ptr (some ⟨0, 0, 0, 0, 0⟩))], ⟨1, [(0, .flat [Uu X])]⟩, []⟩
def rgE (X : Za) : St := ⟨140, [(1, .ptr (some ⟨0, 0, 0, 0, 0⟩))], ⟨1, [(0, .flat [Uu X])]⟩, []⟩
def rgF : St := ⟨140, [(2, .bool false)], ⟨0, []⟩, []⟩
theorem ZhJ (X : Za) (n i : Nat) (H1 : List Int → List Int) (Z1 Z2 Z3 : Prop) (hn : n < 1000) (hL : X.L.length = n) (hi : i ≤ n) (hok : ∀ h ∈ X.L, h.Ok) (h1 : i < n → XI H1 X i = true → Z1) (h2 : i = n → Z2) (h3 : i < n → XI H1 X i = false → Z3) :
  ZI (ZaV H1 X n) 20 30 0 0 (rgS X n i) (rdM 0 0 9 (rgS X n (i + 1)) (rgE X) rgF rgF Z1 Z2 Z3 False) := by
 refine @Eq.mpr _ (let q1 := X.L;
 let q2 := List.length q1;
 let q3 := Z5 q1;
 let q4 := Za.c X (AV.vrows 70 q2 q3 q2);
 let q5 := List.getD q1 (Int.toNat (↑i : Int)) Zc;
 let q6 := Z6.mk q5.own q5.id q5.amount q5.hash q5.expiry q5.stage q5.fin q5.secret;
 let q7 := wrap i64 ((↑i : Int) - 1);
 let q8 := List.getD q1 (Int.toNat q7) Zc;
 let q9 := decide (n = n);
 let q10 := q4 = q4;
 let q11 := Z0 (decide (wrap i64 ((↑i : Int) + 1) = (↑(i + 1) : Int))) (Z0 (decide ((↑n : Int) = (↑n : Int))) (Z0 q9 (q3 = q3 ∧ Z0 q9 (q10 ∧ Z1) False) False) False) False;
 Z0 (decide ((↑i : Int) < (↑n : Int))) (Z0 (decide (0 ≤ (↑i : Int) ∧ (↑i : Int) < (↑n : Int))) (∃ (X : Za), LV q4 X ∧ Z6.Ok q6 ∧ Z0 (!XH H1 X q6) Z3 (Z0 (decide ((↑i : Int) > 0)) (Z0 (decide (0 ≤ q7 ∧ q7 < (↑q2 : Int))) (Z0 (!decide (Xh (Z6.mk q8.own q8.id q8.amount q8.hash q8.expiry q8.stage q8.fin q8.secret) q6)) Z3 q11) False) q11)) False) (q10 ∧ Z2)) (by kernel_rfl) ?_
 conv => zeta
 try simp only [Zi]
 try simp only [Zj]
 try simp only [Zk]
 try simp only [Zl]
 try simp only [Zm]
 try simp only [Zh]
 try simp only [Int.toNat_natCast, Nat.zero_add, true_and, and_true, Nat.le_refl]
 have e0 : ∀ p : Z6, Z6.mk p.own p.id p.amount p.hash p.expiry p.stage p.fin p.secret = p := fun _ => rfl
 simp only [e0]
 refine ⟨fun hc => ?_, fun hc => h2 (by omega)⟩
 have hlt : i < n := by omega
 have hwr : i64.wrap ((i : Int) + 1) = ((i + 1 : Nat) : Int) := by rw [w64 (by omega)]; omega
 have hw1 : 0 < i → i64.wrap ((i : Int) - 1) = ((i - 1 : Nat) : Int) := fun h => by rw [w64 (by omega)]; omega
 have hx : (X.L.getD i Zc).Ok := hok _ (ZK (by omega))
 refine ⟨by omega, X, .a rfl, hx, fun hu => h3 hlt ?_, fun hu => ?_⟩
 ·have hu : XH H1 X (X.L.getD i Zc) = false := by simpa using hu
  unfold XI
  rw [hu]; rfl
 have hu : XH H1 X (X.L.getD i Zc) = true := by simpa using hu
 refine ⟨fun hp => ?_, fun hp => ?_⟩
 ·have hp : 0 < i := by omega
  rw [hw1 hp, Int.toNat_natCast]
  refine ⟨by omega, fun hf => h3 hlt ?_, fun hf => ?_⟩
  ·have hf : decide (Xh (X.L.getD (i - 1) Zc) (X.L.getD i Zc)) = false := by simpa using hf
   unfold XI
   rw [hu, hf, Zu (by omega : i ≠ 0)]; rfl
  ·have hf : decide (Xh (X.L.getD (i - 1) Zc) (X.L.getD i Zc)) = true := by simpa using hf
   have hb : XI H1 X i = true := by
    unfold XI
    rw [hu, hf]; simp
   repeat' apply And.intro
   all_goals first | omega | exact hwr | exact h1 hlt hb | rfl
 ·have hb : XI H1 X i = true := by
   unfold XI
   rw [hu, show i = 0 by omega]; rfl
  repeat' apply And.intro
  all_goals first | omega | exact hwr | exact h1 hlt hb | rfl
noncomputable def Ze2 (H1 : List Int → List Int) (X : Za) (n : Nat) : Zg := (ZaV H1 X n).withL 30 0 (goM 0 (rgS X n 0) (n < 1000 ∧ X.L.length = n ∧ ∀ h ∈ X.L, h.Ok) (Yv 0 n 9 (fun i => XI H1 X i = true ∧ i < n) (fun i => i = n) (fun i => i < n ∧ XI H1 X i = false) (fun _ => False) (fun _ => rgE X) (fun _ => rgF) (fun _ => rgF)))
theorem ZaX {H1 : List Int → List Int} (h0 : (ZcM H1).Ok) (X : Za) (n : Nat) : (Ze2 H1 X n).Ok := by
 exact Zg.withGoM (N := 20) (S := fun i => rgS X n i) (ZaW h0 X n) (by kernel_rfl) fun hC => ⟨rfl, fun i hi _ => ZhJ X n i _ _ _ _ hC.1 hC.2.1 hi hC.2.2 (fun h h' => ⟨⟨h', h⟩, h⟩) (fun h => h) (fun h h' => ⟨h, h'⟩)⟩
end Go.Tk
end
section
namespace Go.Tk
open IntKind (i64 u8 u32 u64 wrap)
theorem ZZ {t : Ys} (h : XG t = true) : (0 ≤ t.index ∧ t.index ≤ 23) ∧ (1000 ≤ t.cap ∧ t.cap ≤ 1125899906842624) ∧ (1 ≤ t.dust ∧ t.dust ≤ 500) ∧ (0 ≤ t.fee ∧ t.fee ≤ 400) ∧ (1 ≤ t.delay ∧ t.delay ≤ 1000) := by
 unfold XG at h
 simp only [Bool.and_eq_true, decide_eq_true_eq] at h
 omega
theorem Z7X {H : List Int → List Int} {X : Za} (hn : X.L.length < 1000) (h1 : XG X.t = true) (h3 : 0 ≤ X.res ∧ X.res ≤ X.t.cap / 10) (h4 : 0 ≤ X.a0 ∧ X.a0 ≤ X.t.cap) (h5 : X.a1 = X.t.cap - X.a0) (hl : ∀ h ∈ X.L, XH H X h = true) : Z0L X := by
 have hb := ZZ h1
 refine ⟨hn, fun h hh => ?_, by omega, by omega, by omega, by omega⟩
 have := hl h hh
 unfold XH Yj at this
 simp only [Bool.and_eq_true, decide_eq_true_eq] at this
 omega
theorem ZhK (X : Za) (n : Nat) (H1 : List Int → List Int) (b : Bool) (hL : X.L.length = n) (hn : n < 1000) (ht : X.t.Ok) (hok : ∀ h ∈ X.L, h.Ok) (hb : b = Yo H1 X) :
  evF (Ze2 H1 X n) 20 30 [Uu X] ⟨0, []⟩ (Yp (fun v => v = .bool b)) := by
 refine @Eq.mpr _ (let q1 := X.t;
 let q2 := q1.cap;
 let q3 := Ys.mk q1.fund q1.index q2 q1.dust q1.fee q1.delay q1.k0 q1.k1;
 let q4 := AV.bool b;
 let q5 := AV.bool false = q4;
 let q6 := X.a0;
 let q7 := X.L;
 let q8 := List.length q7;
 let q9 := Z5 q7;
 let q10 := Za.c X (AV.vrows (70 : Nat) q8 q9 q8);
 let q11 := decide (q8 = n);
 Ys.Ok q3 ∧
 Z0 ((if XG q3 = true then (0 : Int) else (2 : Int)) != (0 : Int)) q5
 (Z0 (!decide ((0 : Int) ≤ X.side ∧ X.side ≤ (1 : Int))) q5
 (Z0 (!decide ((0 : Int) ≤ X.res ∧ X.res ≤ wrap i64 (Int.tdiv q2 (10 : Int)))) q5
 (Z0 (!decide ((0 : Int) ≤ q6 ∧ q6 ≤ q2)) q5
 (Z0 (X.a1 != wrap i64 (q2 - q6)) q5
 (Z0 (!decide ((0 : Int) ≤ X.i0 ∧ X.i0 ≤ (2147483648 : Int))) q5
 (Z0 (!decide ((0 : Int) ≤ X.i1 ∧ X.i1 ≤ (2147483648 : Int))) q5
 (∃ (X_1 : Za),
 let q23 := X_1.side;
 LV q10 X_1 ∧
 ((0 : Int) ≤ q23 ∧ q23 ≤ (1 : Int)) ∧
 List.length X_1.L < (1000 : Nat) ∧
 Z0 (!decide (List.length (ZO q23 (0 : Int) X_1.L) ≤ (8 : Nat))) q5
 (∃ (X_2 : Za),
 let q25 := X_2.side;
 LV q10 X_2 ∧
 ((0 : Int) ≤ q25 ∧ q25 ≤ (1 : Int)) ∧
 List.length X_2.L < (1000 : Nat) ∧
 Z0 (!decide (List.length (ZO q25 (1 : Int) X_2.L) ≤ (8 : Nat))) q5
 (Z0 (decide ((↑q8 : Int) = (↑n : Int)))
 (Z0 q11
 (q9 = q9 ∧
 Z0 q11
 (q10 = q10 ∧
 (n < (1000 : Nat) ∧ q8 = n ∧ ∀ (h : Z6), List.Mem h q7 → Z6.Ok h) ∧
 ∀ (i : Nat),
 i ≤ n →
 (∀ (j : Nat), j < i → (fun (i : Nat) => XI H1 X i = true ∧ i < n) j) →
 (i = n →
 ∃ (X : Za),
 LV q10 X ∧
 ((0 : Int) ≤ X.side ∧ X.side ≤ (1 : Int)) ∧
 ((0 : Int) = (0 : Int) ∨ (0 : Int) = (1 : Int)) ∧
 Z0L X ∧
 Z0 (decide (Ya X (0 : Int) ≥ (0 : Int)))
 (∃ (X : Za),
 let q27 := X.side;
 LV q10 X ∧ ((0 : Int) ≤ q27 ∧ q27 ≤ (1 : Int)) ∧ List.length X.L < (1000 : Nat) ∧ Z0 ((↑(List.length (ZO q27 (1 : Int) X.L)) : Int) == (0 : Int)) (AV.bool true = q4) (∃ (X : Za), LV q10 X ∧ ((0 : Int) ≤ X.side ∧ X.side ≤ (1 : Int)) ∧ ((1 : Int) = (0 : Int) ∨ (1 : Int) = (1 : Int)) ∧ Z0L X ∧ AV.bool (decide (Ya X (1 : Int) ≥ (0 : Int))) = q4))
 q5) ∧
 (i < n ∧ XI H1 X i = false → q5) ∧ (False → False))
 False)
 False)
 False)))))))))) (by kernel_rfl) ?_
 conv => zeta
 have e0 : Ys.mk X.t.fund X.t.index X.t.cap X.t.dust X.t.fee X.t.delay X.t.k0 X.t.k1 = X.t := rfl
 have no : ¬ (Yo H1 X = true) → AV.bool false = AV.bool b := fun h => by rw [hb, Bool.eq_false_iff.2 h]
 have hr := Q6 (H := H1) (X := X)
 have hh := Z06 (X := X)
 have key : Yo H1 X = true → _ := fun h => (hh.1 (hr.1 h).1)
 have hlen : X.L.length < 1000 := by omega
 rw [e0]
 simp only [Zh]
 refine ⟨ht, fun k => no fun h => ?_, fun k1 => ?_⟩
 ·rw [(key h).1] at k; simp at k
 have k1 : XG X.t = true := by
  cases hq : XG X.t with
  | true => rfl
  | false => rw [hq] at k1; simp at k1
 have tb := ZZ k1
 have td : i64.wrap (Int.tdiv X.t.cap 10) = X.t.cap / 10 := by rw [Int.tdiv_eq_ediv_of_nonneg (by omega), w64 (by omega)]
 rw [td]
 refine ⟨fun k => no fun h => ?_, fun k2 => ?_⟩
 ·have := (key h).2.1; simp at k; omega
 have k2 : 0 ≤ X.side ∧ X.side ≤ 1 := by simpa using k2
 refine ⟨fun k => no fun h => ?_, fun k3 => ?_⟩
 ·have := (key h).2.2.1; simp at k; omega
 have k3 : 0 ≤ X.res ∧ X.res ≤ X.t.cap / 10 := by simpa using k3
 refine ⟨fun k => no fun h => ?_, fun k4 => ?_⟩
 ·have := (key h).2.2.2.1; simp at k; omega
 have k4 : 0 ≤ X.a0 ∧ X.a0 ≤ X.t.cap := by simpa using k4
 have tw : i64.wrap (X.t.cap - X.a0) = X.t.cap - X.a0 := w64 (by omega)
 rw [tw]
 refine ⟨fun k => no fun h => ?_, fun k5 => ?_⟩
 ·have := (key h).2.2.2.2.1; simp at k; omega
 have k5 : X.a1 = X.t.cap - X.a0 := by simpa using k5
 refine ⟨fun k => no fun h => ?_, fun k6 => ?_⟩
 ·have := (key h).2.2.2.2.2.1; simp at k; omega
 have k6 : 0 ≤ X.i0 ∧ X.i0 ≤ 2147483648 := by simpa using k6
 refine ⟨fun k => no fun h => ?_, fun k7 => ?_⟩
 ·have := (key h).2.2.2.2.2.2.1; simp at k; omega
 have k7 : 0 ≤ X.i1 ∧ X.i1 ≤ 2147483648 := by simpa using k7
 refine ⟨X, .a rfl, k2, hlen, fun k => no fun h => ?_, fun k8 => ?_⟩
 ·have := (key h).2.2.2.2.2.2.2.1; simp at k; omega
 have k8 : (ZO X.side 0 X.L).length ≤ 8 := by simpa using k8
 refine ⟨X, .a rfl, k2, hlen, fun k => no fun h => ?_, fun k9 => ?_⟩
 ·have := (key h).2.2.2.2.2.2.2.2; simp at k; omega
 have k9 : (ZO X.side 1 X.L).length ≤ 8 := by simpa using k9
 have hhd : Z5w X = true := hh.2 ⟨k1, k2, k3, k4, k5, k6, k7, k8, k9⟩
 simp only [hL, decide_true]
 refine ⟨fun _ => ⟨fun _ => ⟨trivial, fun _ => ⟨trivial, ⟨hn, trivial, hok⟩, fun i hi hg => ⟨fun he => ?_, fun hx => no fun h => ?_, fun h => h.elim⟩⟩, fun h => by cases h⟩, fun h => by cases h⟩, fun h => by cases h⟩
 ·subst he
  have hall : ∀ j, j < X.L.length → XI H1 X j = true := fun j hj => (hg j (by omega)).1
  have hA : Z0L X := Z7X (H := H1) hlen k1 k3 k4 k5 fun h hh => by
   obtain ⟨j, hj, rfl⟩ := List.getElem_of_mem hh
   have := hall j hj
   unfold XI at this
   simp only [Bool.and_eq_true] at this
   rw [List.getD_eq_getElem?_getD, List.getElem?_eq_getElem hj] at this
   exact this.1
  refine ⟨X, .a (by rw [hL]), k2, .inl trivial, hA, fun k10 => ⟨X, .a (by rw [hL]), k2, hlen, fun k11 => ?_, fun k11 => ⟨X, .a (by rw [hL]), k2, .inr trivial, hA, ?_⟩⟩, fun k => no fun h => ?_⟩
  ·have k10 : 0 ≤ Ya X 0 := by simpa using k10
   have : Yo H1 X = true := hr.2 ⟨hhd, hall, k10, .inl (by simpa using k11)⟩
   rw [hb, this]
  ·have k10 : 0 ≤ Ya X 0 := by simpa using k10
   rw [hb]
   congr 1
   rw [Bool.eq_iff_iff, decide_eq_true_iff]
   constructor
   ·intro h; exact hr.2 ⟨hhd, hall, k10, .inr h⟩
   ·intro h
    rcases (hr.1 h).2.2.2 with h | h
    ·rw [h] at k11; simp at k11
    ·exact h
  ·have := (hr.1 h).2.2.1
   simp at k; omega
 ·have := (hr.1 h).2.1 i (by omega)
  rw [hx.2] at this; cases this
theorem ZcO (args : List AV) (h : Z9) (K : AV → Prop) (hl : Zg6 Zq args h K) : Zo PP 30 args h fun o h' => ∃ v, o = .ret v ∧ h' = h ∧ K v := by
 refine ZH.psumm (d := 20) (Zx _ _ _ _ _ hl fun a ha => ?_)
 split at ha
 ·obtain ⟨X, hX, ht, hok, hn, hK⟩ := ha
  exact ⟨_, (ZH.evV (ZaX ZcN X _) (ZhK X _ Zq _ rfl hn ht hok rfl)).conv fun E r hr => hr.head (fun _ hc => Vo hX hc) fun _ hc => hc, fun _ => rfl, hK⟩
 ·exact ha.elim
end Go.Tk
end
section
namespace Go.Tk
open IntKind (i64 u8 u32 u64 wrap)
noncomputable def Zfd (H1 : List Int → List Int) : Zg := G0.withP 30 (Zg6 H1)
theorem Z7Y : (Zfd Zq).Ok := Zg.withP_ok Zw ZcO
def XQ (t : Ys) (side res a b : Int) : Za := ⟨t, side, res, a, b, 0, 0, []⟩
theorem ZhL (t : Ys) (side res a b : Int) (X : Za) (H1 : List Int → List Int) (ht : t.Ok) (hX : X = XQ t side res a b) (hb : Yo H1 X = true) :
  evF (Zfd H1) 20 8 [.agg t.c, .int .i64 side, .int .i64 res, .agg [.arr .i64 2 [a, b]]] ⟨0, []⟩ (YQ 0 (.ret (.tuple [.ptr (some ⟨0, 0, 0, 0, 0⟩), .int .i64 0])) 2 [(0, .flat (X.c (.nslice ⟨1, 0, 70, 0, 0⟩ 70 0 0))), (1, .rows 70 0 (Z5 []))]) := by
 refine @Eq.mpr _ (let q1 := [a, b];
 let q2 := [(0 : Int), 0];
 let q3 := X.t;
 ∃ (X_1 : Za), LV [AV.arr u8 32 t.fund, AV.int i64 t.index, AV.int i64 t.cap, AV.int i64 t.dust, AV.int i64 t.fee, AV.int i64 t.delay, AV.arr u8 32 t.k0, AV.arr u8 32 t.k1, AV.int i64 side, AV.int i64 res, AV.arr i64 2 q1, AV.arr i64 2 q2, AV.nilslice] X_1 ∧ Ys.Ok X_1.t ∧ (∀ (h : Z6), List.Mem h X_1.L → Z6.Ok h) ∧ List.length X_1.L < 1000 ∧ Z0 (!Yo H1 X_1) False (t.fund = q3.fund ∧ Z0 (decide (t.index = q3.index)) (Z0 (decide (t.cap = q3.cap)) (Z0 (decide (t.dust = q3.dust)) (Z0 (decide (t.fee = q3.fee)) (Z0 (decide (t.delay = q3.delay)) (t.k0 = q3.k0 ∧ t.k1 = q3.k1 ∧ Z0 (decide (side = X.side)) (Z0 (decide (res = X.res)) (q1 = [X.a0, X.a1] ∧ q2 = [X.i0, X.i1] ∧ True) False) False) False) False) False) False) False)) (by kernel_rfl) ?_
 conv => zeta
 refine ⟨X, .b (by rw [hX]; rfl) (by rw [hX]; rfl), by rw [hX]; exact ht, (by rw [hX]; intro h hh; cases hh), (by rw [hX]; exact Nat.succ_pos _), ?_⟩
 rw [hb]
 subst hX
 simp [Z0, XQ]
theorem ZhM (t : Ys) (side res a b : Int) (X : Za) (H1 : List Int → List Int) (ht : t.Ok) (hX : X = XQ t side res a b) (hb : Yo H1 X = false) :
  evF (Zfd H1) 20 8 [.agg t.c, .int .i64 side, .int .i64 res, .agg [.arr .i64 2 [a, b]]] ⟨0, []⟩ (YQ 0 (.ret (.tuple [.ptr none, .int .i64 2])) 0 []) := by
 refine @Eq.mpr _ (∃ (X : Za), LV [AV.arr u8 32 t.fund, AV.int i64 t.index, AV.int i64 t.cap, AV.int i64 t.dust, AV.int i64 t.fee, AV.int i64 t.delay, AV.arr u8 32 t.k0, AV.arr u8 32 t.k1, AV.int i64 side, AV.int i64 res, AV.arr i64 2 [a, b], AV.arr i64 2 [(0 : Int), 0], AV.nilslice] X ∧ Ys.Ok X.t ∧ (∀ (h : Z6), List.Mem h X.L → Z6.Ok h) ∧ List.length X.L < 1000 ∧ Z0 (!Yo H1 X) True False) (by kernel_rfl) ?_
 refine ⟨X, .b (by rw [hX]; rfl) (by rw [hX]; rfl), by rw [hX]; exact ht, (by rw [hX]; intro h hh; cases hh), (by rw [hX]; exact Nat.succ_pos _), ?_⟩
 rw [hb]; trivial
def Ze3 (H : List Int → List Int) : YR := fun args h K => frA [] h 20 args fun Bs a => match Bs, a with
 | [], [.agg [.arr .u8 32 fu, .int .i64 ix, .int .i64 ca, .int .i64 du, .int .i64 fe, .int .i64 de, .arr .u8 32 k0, .arr .u8 32 k1], .int .i64 sd, .int .i64 rs, .agg [.arr .i64 2 [a, b]]] =>
  Ys.Ok ⟨fu, ix, ca, du, fe, de, k0, k1⟩ ∧ Z0 (Yo H (XQ ⟨fu, ix, ca, du, fe, de, k0, k1⟩ sd rs a b)) (K (.ret (.tuple [.ptr (some ⟨h.next, 0, 0, 0, 0⟩), .int .i64 0])) ⟨h.next + 2, (h.next, .flat ((XQ ⟨fu, ix, ca, du, fe, de, k0, k1⟩ sd rs a b).c (.nslice ⟨h.next + 1, 0, 70, 0, 0⟩ 70 0 0))) :: (h.next + 1, .rows 70 0 (Z5 [])) :: h.bs⟩)
   (K (.ret (.tuple [.ptr none, .int .i64 2])) ⟨h.next, h.bs⟩)
 | _, _ => False
theorem ZaY (args : List AV) (h : Z9) (K : KO) (hl : Ze3 Zq args h K) : Zo PP 8 args h K := by
 refine Spec.fsumm hl fun Bs a hlen hK0 => ?_
 split at hK0
 ·obtain ⟨ht, hK⟩ := hK0
  rw [Zh] at hK
  rename_i fu ix ca du fe de k0 k1 sd rs a b
  cases hb : Yo Zq (XQ ⟨fu, ix, ca, du, fe, de, k0, k1⟩ sd rs a b) with
  | true => exact ⟨_, _, _, _, _, .evM Z7Y (ZhL _ _ _ _ _ _ _ ht rfl hb), Nat.zero_le _, .ret _ _ rfl, .cons _ _ _ _ _ _ rfl (.flat _ _ rfl) (.cons _ _ _ _ _ _ rfl (.rows _ _ _ (fun _ _ => rfl)) .nil), hK.1 hb⟩
  | false => exact ⟨_, _, _, _, _, .evM Z7Y (ZhM _ _ _ _ _ _ _ ht rfl hb), Nat.zero_le _, .ret _ _ rfl, .nil, hK.2 hb⟩
 ·exact hK0.elim
end Go.Tk
end
section
namespace Go.Tk
open IntKind (i64 u8 u32 u64 wrap)
theorem and_mk {a b : Bool} (h1 : a = true) (h2 : b = true) : (a && b) = true := by rw [h1, h2]; rfl
theorem ZaZ {E : Env} {w : World} {sz n : Nat} {g g' : Nat → List AV} (hg : ∀ i, i < n → g' i = g i) (he : Emb E ⟨1, [(0, .rows sz n g')]⟩ w) : Emb E ⟨1, [(0, .rows sz n g)]⟩ w := by
 have hget : ∀ (f : Nat → List AV) x B, (Z9.mk 1 [(0, .rows sz n f)]).get x = some B → x = 0 ∧ B = .rows sz n f := fun f x B hx => by
  simp only [Z9.get, ZF] at hx
  split at hx
  ·rename_i hb
   cases hx
   exact ⟨(Nat.eq_of_beq_eq_true hb).symm, rfl⟩
  ·cases hx
 have h0 : ∀ f : Nat → List AV, (Z9.mk 1 [(0, .rows sz n f)]).get 0 = some (.rows sz n f) := fun f => rfl
 refine ⟨he.fresh, fun x B hx => ?_, fun x B hx => ?_, fun x y B B' b N N' hx hy h1 h2 => ?_, he.imm, fun a c x B N hi hx hb => ?_⟩
 ·obtain ⟨rfl, rfl⟩ := hget _ _ _ hx; exact he.lt 0 _ (h0 _)
 ·obtain ⟨rfl, rfl⟩ := hget _ _ _ hx
  have := he.own 0 _ (h0 g')
  cases this with
  | rows0 _ _ _ hn hb => exact .rows0 _ _ _ hn hb
  | rows _ _ _ b cells elem fr gv hb hw hf hc hl hv => exact .rows _ _ _ b cells elem fr gv hb hw hf (fun i hi => hg i hi ▸ hc i hi) hl hv
 ·obtain ⟨rfl, rfl⟩ := hget _ _ _ hx
  obtain ⟨rfl, rfl⟩ := hget _ _ _ hy
  rfl
 ·obtain ⟨rfl, rfl⟩ := hget _ _ _ hx
  exact he.sep a c 0 _ N hi (h0 g') hb
theorem Spec.rows {P : Program} {f : FuncId} {args : List AV} {sz n : Nat} {g g' : Nat → List AV} {o : Out} {nx : Nat} {bs : List (Nat × Blk)} (hg : ∀ i, i < n → g' i = g i) (h : Spec P f args ⟨1, [(0, .rows sz n g)]⟩ o nx bs) : Spec P f args ⟨1, [(0, .rows sz n g')]⟩ o nx bs := by
 intro E w rs he hl
 have he' := ZaZ hg he
 refine (h E w rs he' hl).mono ?_
 rintro e w' ⟨E', hev, ho⟩
 have own : ∀ b, Wk E ⟨1, [(0, .rows sz n g)]⟩ b ↔ Wk E ⟨1, [(0, .rows sz n g')]⟩ b := fun b => by
  unfold Wk
  constructor
  ·rintro ⟨x, B, N, hx, hb⟩
   simp only [Z9.get, ZF] at hx
   split at hx
   ·rename_i hq; have := Nat.eq_of_beq_eq_true hq; subst this; exact ⟨0, _, N, rfl, hb⟩
   ·cases hx
  ·rintro ⟨x, B, N, hx, hb⟩
   simp only [Z9.get, ZF] at hx
   split at hx
   ·rename_i hq; have := Nat.eq_of_beq_eq_true hq; subst this; exact ⟨0, _, N, rfl, hb⟩
   ·cases hx
 exact ⟨E', ⟨hev.le, hev.emb, hev.size, hev.os, hev.tape, hev.output, fun b hb hn => hev.keep b hb (fun h => hn ((own b).1 h)), fun b hb => (hev.own b hb).imp (own b).1 id, hev.imm⟩, ho⟩
end Go.Tk
end
section
namespace Go.Tk
open IntKind (i64 u8 u32 u64 wrap)
open Go.Proofs Go.Shelf Go.Lib Go.Sort
theorem Z5y {W w' : World} (h1 : W.heap.size ≤ w'.heap.size) (h2 : w'.os = W.os) (h3 : w'.tape = W.tape) (h4 : w'.output = W.output ∧ W.drawn ≤ w'.drawn) (h5 : ∀ b, b < W.heap.size → w'.heap[b]? = W.heap[b]?) : ∃ q os', w' = grow (W.drewN q) os' := by
 refine ⟨w'.drawn - W.drawn, w'.heap.extract W.heap.size w'.heap.size, ?_⟩
 obtain ⟨heap, tape, drawn, os, output⟩ := w'
 obtain ⟨heap0, tape0, drawn0, os0, output0⟩ := W
 simp only at h1 h2 h3 h4 h5
 unfold grow World.drewN
 simp only [World.mk.injEq]
 refine ⟨?_, h3, by omega, h2, h4.1⟩
 apply Array.ext_getElem?
 intro i
 rcases Nat.lt_or_ge i heap0.size with h | h
 ·rw [Array.getElem?_append_left h]; exact h5 i h
 ·rw [Array.getElem?_append_right h, Array.getElem?_extract]
  rcases Nat.lt_or_ge i heap.size with h' | h'
  ·rw [if_pos (by omega)]; congr 1; omega
  ·rw [if_neg (by omega), Array.getElem?_eq_none (by omega)]
section
variable {P : Program} {ρ : Go.Shelf.Ren} {α : Type} [Inhabited α]
theorem Z6Z {g k : Nat} {c : α → List AV} {enc : α → List Value} (hc2 : ∀ E x, Zr E (c x) (enc x)) {cf : α → α → Int} (hcmp : ∀ x y, ZH P g [.agg (c x), .agg (c y)] (.int .i64 (cf x y)) 0 []) (blk off size : Nat) (w : World) :
  CmpLays P g #[] enc k cf blk off size w := by
 intro m os dk hs x y
 have E0 : Emb ⟨fun _ => none, fun _ _ => False⟩ ⟨0, []⟩ (sortWorldK enc k w blk off m dk os) :=
  ⟨fun _ _ => rfl, fun x B h => by simp [Z9.get, ZF] at h, fun x B h => by simp [Z9.get, ZF] at h, fun x y B B' b N N' h => by simp [Z9.get, ZF] at h, fun _ _ h => h.elim, fun _ _ _ _ _ h => h.elim⟩
 refine (hcmp x y _ _ [.agg (enc x).toArray, .agg (enc y).toArray] E0 (.cons _ _ _ _ (.agg _ _ (hc2 _ _)) (.cons _ _ _ _ (.agg _ _ (hc2 _ _)) .nil))).mono ?_
 rintro e w' ⟨E', r, rfl, hev, hr⟩
 cases hr
 refine ⟨rfl, Z5y hev.size hev.os hev.tape hev.output fun b hb => hev.keep b hb ?_⟩
 rintro ⟨x, B, N, hx, _⟩
 simp [Z9.get, ZF] at hx
theorem Z9c (L : SlLaysF0.n6 P ρ) {k : Nat} (aE : ∀ w, (Go.isAgg (ρ.t 24)).run P w = .ok true w) (zE : ∀ w, (Go.sizeOf (ρ.t 24)).run P w = .ok k w) {c : α → List AV} {enc : α → List Value} (hk : ∀ x, (enc x).length = k) (hk0 : 0 < k) (h1 : ∀ x, ∀ v ∈ enc x, v.oneCell' = true)
  (hc1 : ∀ E x vs, Zr E (c x) vs → vs = enc x) (hc2 : ∀ E x, Zr E (c x) (enc x)) {cf : α → α → Int} (hO : SWO (ltOf cf)) {g : Nat} (eg : ∀ args w, (callFunc g args).run P w = .ok (.enter g args) w)
  (hcmp : ∀ x y, ZH P g [.agg (c x), .agg (c y)] (.int .i64 (cf x y)) 0 []) {l L' : List α} {n lo : Nat} (hn : l.length = n) (h0 : 0 < n) (hsz : n < 4611686018427387904) {f f' : Nat → List AV} (hf0 : ∀ i, i < n → f i = c (l.getD i default)) (hf1 : ∀ i, i < n → f' i = c (L'.getD i default))
  (hL : ∀ l' : List α, l'.Perm l → l'.Pairwise (fun a b => ltOf cf b a = false) → l' = L') :
  Spec P (ρ.f 6) [.nslice ⟨0, 0, k, 0, 0⟩ k n lo, .func (.func g) [] []] ⟨1, [(0, .rows k n f)]⟩ (.ret (.tuple [])) 1 [(0, .rows k n f')] := by
 intro E w rs he hr
 cases hr with
 | cons v r vs rs hr1 hr2 =>
 cases hr2 with
 | cons v2 r2 vs2 rs2 hr2 hr3 =>
 cases hr3
 cases hr2 with
 | func fn fi ca fs cs h3 h4 =>
 cases h3
 cases h4
 cases hr1 with
 | nslice0 p esz len lo a q1 q2 => omega
 | nslice p esz len lo b N cap hb q1 q2 q3 =>
 have hB := he.own 0 _ rfl
 cases hB with
 | rows0 sz n f q0 hno => omega
 | rows sz n f b' cells elem fr gg hb' hw hfr hc hl hv =>
 rw [hb'] at hb
 cases hb
 have htot : (ZC.mk 0 0 k 0 0).tot = 0 := by simp [ZC.tot]
 rw [htot] at q3 ⊢
 have hgg : ∀ i, i < n → gg i = enc (l.getD i default) := fun i hi => by
  have := hc i hi
  rw [hf0 i hi] at this
  exact hc1 _ _ _ this
 have hcs : n * k ≤ cells.size := by
  rcases Nat.lt_or_ge cells.size (n * k) with h | h
  ·exfalso
   have e : n = (n - 1) + 1 := by omega
   have hlast : (gg (n - 1))[k - 1]? = some ((gg (n - 1))[k - 1]'(by rw [hl _ (by omega)]; omega)) := List.getElem?_eq_getElem _
   have := hv (n - 1) (k - 1) _ (by omega) hlast
   have e2 : (n - 1) * k + (k - 1) < cells.size := by
    rcases Nat.lt_or_ge ((n - 1) * k + (k - 1)) cells.size with h' | h'
    ·exact h'
    ·rw [Array.getElem?_eq_none h'] at this; cases this
   have e3 : n * k = (n - 1) * k + k := by rw [e, Nat.add_mul]; simp
   omega
  ·exact h
 have hdiv : ∀ j, j < n * k → j / k < n := fun j hj => (Nat.div_lt_iff_lt_mul hk0).2 hj
 have hH : HoldsK enc k w b 0 l.toArray := by
  intro j hj
  rw [size_flatK] at hj
  have hj : j < n * k := by simpa [hn] using hj
  have hi := hdiv j hj
  have hm : j % k < k := Nat.mod_lt _ hk0
  rw [get_flatK _ _ _ _ (by simpa [hn] using hj)]
  have e : l.toArray[j / k]! = l.getD (j / k) default := by simp [List.getD_eq_getElem?_getD]
  have hx : (gg (j / k))[j % k]? = some ((enc (l.getD (j / k) default))[j % k]!) := by
   rw [hgg _ hi]
   rw [List.getElem?_eq_getElem (by rw [hk]; exact hm)]
   simp [getElem!_pos, hk, hm]
  have hcell := hv (j / k) (j % k) _ hi hx
  have ej : j / k * k + j % k = j := by rw [Nat.mul_comm]; exact Nat.div_add_mod j k
  rw [ej] at hcell
  refine ⟨?_, ?_⟩
  ·rw [Nat.zero_add, cell_of_heap hw, hcell, e]; rfl
  ·unfold World.frozen?
   simp only [Nat.zero_add, hw]
   have := hfr j (by omega)
   rw [Bool.eq_false_iff]
   simp only [ne_eq, Bool.and_eq_true, decide_eq_true_eq]
   exact this
 have hblk : b < w.heap.size := (he.own 0 _ rfl).lt hb'
 have hcon := AnyQ.slices_SortFunc L k aE zE enc hk h1 cf hO g #[] b 0 cap l.toArray w eg (Z6Z hc2 hcmp b 0 _ w) hH hblk (by simpa [hn] using hsz)
 have en : l.toArray.size = n := by simpa using hn
 rw [en] at hcon
 refine hcon.mono ?_
 rintro e w' ⟨rfl, d', m, os, hp, hs, rfl⟩
 obtain ⟨p1, _, p3⟩ := hp
 rw [en] at p1
 have pe : (d'.extract 0 n) = d' := by rw [← p1]; simp
 have pe2 : (l.toArray.extract 0 n) = l.toArray := by rw [← en]; simp
 rw [pe, pe2] at p3
 have hLd : d'.toList = L' := by
  refine hL _ p3 ?_
  rw [List.pairwise_iff_getElem]
  intro i j hi hj hij
  have := hs i j (Nat.zero_le _) hij (by simpa [p1] using hj)
  have e1 : d'[i]! = d'.toList[i] := by simp only [Array.length_toList] at hi; simp [getElem!_pos, hi]
  have e2 : d'[j]! = d'.toList[j] := by simp only [Array.length_toList] at hj; simp [getElem!_pos, hj]
  rw [e1, e2] at this
  exact this
 have hheap : (sortWorldK enc k w b 0 m d' os).heap = w.heap.modify b (onCells (putCells id 0 (flatK enc k d'))) ++ os := rfl
 have hold : ∀ i, i < w.heap.size → i ≠ b → (sortWorldK enc k w b 0 m d' os).heap[i]? = w.heap[i]? := fun i hi hib => by
  rw [hheap, Array.getElem?_append_left (by simpa using hi), Array.getElem?_modify, if_neg (fun h => hib h.symm)]
 have hnew : (sortWorldK enc k w b 0 m d' os).heap[b]? = some (.cells (putCells id 0 (flatK enc k d') cells) elem fr) := by
  rw [hheap, Array.getElem?_append_left (by simpa using hblk), Array.getElem?_modify, if_pos rfl, hw]; rfl
 have hpsz : (putCells id 0 (flatK enc k d') cells).size = cells.size := by simp [putCells]
 have hle : w.heap.size ≤ (sortWorldK enc k w b 0 m d' os).heap.size := by rw [hheap]; simp
 have hown : ∀ {H : Z9} {i : Nat}, H = ⟨1, [(0, Blk.rows k n f)]⟩ ∨ H = ⟨1, [(0, Blk.rows k n f')]⟩ → (Wk E H i ↔ i = b) := by
  intro H i hq0
  constructor
  ·rintro ⟨x, B, N, hx, hbx⟩
   have hx0 : x = 0 := by
    rcases hq0 with rfl | rfl
    ·simp only [Z9.get, ZF] at hx
     split at hx
     ·rename_i hq; exact (Nat.eq_of_beq_eq_true hq).symm
     ·cases hx
    ·simp only [Z9.get, ZF] at hx
     split at hx
     ·rename_i hq; exact (Nat.eq_of_beq_eq_true hq).symm
     ·cases hx
   subst hx0
   rw [hb'] at hbx
   cases hbx; rfl
  ·rintro rfl
   rcases hq0 with rfl | rfl <;> exact ⟨0, _, _, rfl, hb'⟩
 have hbn : ∀ a cc, E.imm a cc → a.block ≠ b := fun a cc hi hq => he.sep a cc 0 _ _ hi rfl (by rw [hb', hq])
 refine ⟨E, ⟨.refl E, ⟨he.fresh, fun x B hx => ?_, fun x B hx => ?_, fun x y B B' bb N N' hx hy _ _ => ?_, fun a cc hi => ?_, fun a cc x B N hi hx hbx => ?_⟩, hle, rfl, rfl, ⟨rfl, Nat.le_add_right _ _⟩, fun i hi hno => hold i hi (fun h => hno ((hown (.inl rfl)).2 h)), fun i ho => .inl ((hown (.inl rfl)).2 ((hown (.inr rfl)).1 ho)), fun _ _ h => h⟩, .ret _ _ (.tuple [] [] .nil)⟩
 ·simp only [Z9.get, ZF] at hx
  split at hx
  ·rename_i hq; have := Nat.eq_of_beq_eq_true hq; show x < 1; omega
  ·cases hx
 ·simp only [Z9.get, ZF] at hx
  split at hx
  ·rename_i hq
   have := Nat.eq_of_beq_eq_true hq
   subst this
   cases hx
   refine .rows k n f' b _ elem fr (fun i => enc (L'.getD i default)) (by rw [hpsz]; exact hb') hnew (fun o ho => hfr o (by rw [hpsz] at ho; exact ho)) (fun i hi => by rw [hf1 i hi]; exact hc2 _ _) (fun i hi => hk _) (fun i j cc hi hj => ?_)
   have hjk : j < k := by
    have := (List.getElem?_eq_some_iff.1 hj).1
    rw [hk] at this; exact this
   have ht : i * k + j < n * k := by
    have : (i + 1) * k ≤ n * k := Nat.mul_le_mul_right _ hi
    rw [Nat.add_mul, Nat.one_mul] at this
    omega
   unfold putCells
   rw [Array.getElem?_mapIdx, Array.getElem?_eq_getElem (by omega)]
   simp only [Option.map_some]
   rw [if_pos ⟨Nat.zero_le _, by rw [size_flatK, p1]; omega⟩, Nat.sub_zero, get_flatK _ _ _ _ (by rw [p1]; exact ht)]
   have e1 : (i * k + j) / k = i := by rw [Nat.mul_comm, Nat.mul_add_div hk0, Nat.div_eq_of_lt hjk]; rfl
   have e2 : (i * k + j) % k = j := by rw [Nat.mul_comm, Nat.mul_add_mod, Nat.mod_eq_of_lt hjk]
   rw [e1, e2]
   have e3 : d'[i]! = L'.getD i default := by
    have hid : i < d'.size := by omega
    rw [← hLd, List.getD_eq_getElem?_getD]; simp [getElem!_pos, hid]
   rw [e3]
   obtain ⟨hjl, hj2⟩ := List.getElem?_eq_some_iff.1 hj
   rw [← hj2, getElem!_pos (enc (L'.getD i default)) j hjl]; rfl
  ·cases hx
 ·simp only [Z9.get, ZF] at hx hy
  split at hx
  ·rename_i hq
   split at hy
   ·rename_i hq'
    rw [← Nat.eq_of_beq_eq_true hq, ← Nat.eq_of_beq_eq_true hq']
   ·cases hy
  ·cases hx
 ·have h0 := he.imm a cc hi
  have hlt : a.block < w.heap.size := by
   rcases Nat.lt_or_ge a.block w.heap.size with hl | hg
   ·exact hl
   ·simp [World.cell?, Array.getElem?_eq_none hg] at h0
  simpa [World.cell?, hold _ hlt (hbn a cc hi)] using h0
 ·have := (hown (H := ⟨1, [(0, .rows k n f')]⟩) (.inr rfl)).1 ⟨x, B, N, hx, hbx⟩
  exact hbn a cc hi this
end
end Go.Tk
end
