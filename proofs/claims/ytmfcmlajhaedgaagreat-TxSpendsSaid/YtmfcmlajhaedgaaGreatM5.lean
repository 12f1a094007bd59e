/- M: part 5 of an engine (a symbolic evaluator, proved against the model) and of the walk by it. -/
import Derived.Test.YtmfcmlajhaedgaaGreatM4
import Derived.OpenShut
import Derived.WideShapes
import Derived.ChangeSlices
import Derived.WalkKit
import Derived.ProofKit
import Derived.Below
import Derived.Handed
import Derived.Carry
set_option linter.unusedVariables false
set_option linter.unusedSimpArgs false
section
namespace Go.Tk
def stT {X : Type} (d : X) (rd : Nat → Option (X × Nat)) (o : Nat) : Nat → (Nat → X) × Nat
  | 0 => (fun _ => d, o)
  | i + 1 => match rd (stT d rd o i).2 with
    | some (x, p) => (fun q => if q = i then x else (stT d rd o i).1 q, p)
    | none => stT d rd o i
def goT {X : Type} (d : X) (rd : Nat → Option (X × Nat)) (o i : Nat) : Prop := (rd (stT d rd o i).2).isSome = true
def inZ : InS := ⟨zero32, 0, 0, zero32, zero32, zero32⟩
def outZ : OutS := ⟨0, 0, zero32, zero32, zero32, zero32, 0, 0⟩
noncomputable def E25 (F : List Int → Int × Int) (A : List Int → Int × Int) (xs : List Int) (nu cnt cnt2 : Int) (o1 o2 : Nat) (rI : Nat → Option (InS × Nat)) (rO : Nat → Option (OutS × Nat)) (C C2 : Prop) (N : Nat) (f : Nat → InS) : Env2 :=
  ((E24 F A).withL 11 0 (goM 0 (paS1 nu cnt xs 0 o1 (xs.length - o1) (stT inZ rI o1 0).1) C (endsP 0 cnt.toNat 9 pvTx (goT inZ rI o1) (fun i => ¬ (i : Int) < cnt) (fun _ => False) (fun _ => False) (fun i => (i : Int) < cnt ∧ rI (stT inZ rI o1 i).2 = none)
    (fun i => paE1 nu xs i (stT inZ rI o1 i).2 (xs.length - (stT inZ rI o1 i).2) (stT inZ rI o1 i).1) (fun _ => paP) (fun _ => paP) (fun _ => paP)))).withL
    11 4 (goM 0 (paS2 nu cnt2 xs N f 0 o2 (xs.length - o2) (stT outZ rO o2 0).1) C2 (endsP 4 cnt2.toNat 9 pvTx (goT outZ rO o2) (fun i => ¬ (i : Int) < cnt2) (fun _ => False) (fun _ => False) (fun i => (i : Int) < cnt2 ∧ rO (stT outZ rO o2 i).2 = none)
    (fun i => paE2 nu xs N f i (stT outZ rO o2 i).2 (xs.length - (stT outZ rO o2 i).2) (stT outZ rO o2 i).1) (fun _ => paP) (fun _ => paP) (fun _ => paP)))
set_option maxRecDepth 100000 in
set_option maxHeartbeats 0 in
theorem parse_1 (F : List Int → Int × Int) (A : List Int → Int × Int) (xs : List Int) (nu cnt cnt2 : Int) (o1 o2 : Nat) (rI : Nat → Option (InS × Nat)) (rO : Nat → Option (OutS × Nat)) (C C2 : Prop) (N M : Nat) (f : Nat → InS) (g : Nat → OutS) (L : Nat) (hL : xs.length = L) (hB : L < 90000000000000) (p0 : Nat) (hC : o1 ≤ xs.length → cnt ≤ 24 → C) (hC2 : o2 ≤ xs.length → cnt2 ≤ 24 → C2) (h0 : ∀ v p, rdN F xs 0 2147483647 = some (v, p) → v = nu ∧ p = p0) (h1 : ∀ v p, rdN F xs p0 24 = some (v, p) → v = cnt ∧ p = o1) (hN : N = cnt.toNat) (hf : f = (stT inZ rI o1 N).1) (h2 : ∀ v p, rdN F xs (stT inZ rI o1 N).2 24 = some (v, p) → v = cnt2 ∧ p = o2) (hlI : o1 ≤ xs.length → ∀ i, (stT inZ rI o1 i).2 ≤ xs.length) (hlO : o2 ≤ xs.length → ∀ i, (stT outZ rO o2 i).2 ≤ xs.length) (hoI : ∀ i q, ((stT inZ rI o1 i).1 q).Ok) (hoO : ∀ i q, ((stT outZ rO o2 i).1 q).Ok) (e0 : rdN F xs 0 2147483647 ≠ none) (e1 : rdN F xs p0 24 ≠ none) (eI : ∀ j, j < N → goT inZ rI o1 j) (e2 : rdN F xs (stT inZ rI o1 N).2 24 ≠ none) (hM : M = cnt2.toNat) (hg : g = (stT outZ rO o2 M).1) (eO : ∀ j, j < M → goT outZ rO o2 j) (he : (stT outZ rO o2 M).2 = xs.length) (hck : ckTx A ⟨nu, N, f, M, g⟩ = true) :
    evF (E25 F A xs nu cnt cnt2 o1 o2 rI rO C C2 N f) 20 11 [.vints .u8 xs L] ⟨0, []⟩ (outM 0 (.ret (.tuple [.agg [.int .i64 nu, .nslice ⟨0, 0, 130, 0, 0⟩ 130 N N, .nslice ⟨1, 0, 132, 0, 0⟩ 132 M M], .int .i64 0])) 2 [(0, .rows 130 N (inRows f)), (1, .rows 132 M (outRows g))]) := by
  refine @Eq.mpr _ (let q1 := List.length xs;
 let q2 := rdN F xs 0 2147483647;
 let q3 := q1 - o1;
 let q4 := decide (nu = nu);
 let q5 := q1 - o2;
 let q6 := inRows f;
 let q7 := decide (N = N);
 let q8 := [(1, 6), (0, 5)];
 let q9 := decide (N = 0);
 let q10 := decide (M = 0);
 let q11 := iteB (decide (0 = nu)) (iteB q9 (iteB q9 (iteB q10 (iteB q10 False False) False) False) False) False;
 iteB (decide (q1 = L ∧ L < 90000000000000))
 (iteB (decide (L = q1 - 0 ∧ 0 ≤ q1 ∧ L = q1 - 0 ∧ (0 : Int) ≤ 2147483647))
 ((∀ (v : Int) (o' : Nat),
 let q23 := rdN F xs o' 24;
 q2 = some (v, o') →
 0 ≤ o' ∧ o' ≤ q1 ∧ v ≤ 2147483647 →
 iteB (decide (q1 - o' = q1 - o' ∧ o' ≤ q1 ∧ q1 - o' = q1 - o' ∧ (0 : Int) ≤ 24))
 ((∀ (v_1 : Int) (o'_1 : Nat),
 q23 = some (v_1, o'_1) →
 o' ≤ o'_1 ∧ o'_1 ≤ q1 ∧ v_1 ≤ 24 →
 iteB (decide (v_1 = cnt))
 (iteB (decide (v = nu))
 (xs = xs ∧
 iteB (decide (o'_1 = o1))
 (iteB (decide (q1 - o'_1 = q3))
 (iteB (decide (q3 ≤ q1 - o'_1))
 (C ∧
 ∀ (i : Nat),
 let q25 := stT inZ rI o1 i;
 let q26 := q25.snd;
 let q27 := q1 - q26;
 let q28 := rdN F xs q26 24;
 let q29 := decide (i = N);
 i ≤ Int.toNat cnt →
 (∀ (j : Nat), j < i → goT inZ rI o1 j) →
 (¬↑i < cnt →
 iteB (decide (q27 = q27 ∧ q26 ≤ q1 ∧ q27 = q27 ∧ (0 : Int) ≤ 24))
 ((∀ (v : Int) (o' : Nat),
 q28 = some (v, o') →
 q26 ≤ o' ∧ o' ≤ q1 ∧ v ≤ 24 →
 iteB (decide (v = cnt2))
 (iteB q4
 (iteB q29
 (iteB (decide (N ≤ i))
 (xs = xs ∧
 iteB (decide (o' = o2))
 (iteB (decide (q1 - o' = q5))
 (iteB (decide (q5 ≤ q1 - o'))
 (iteB q29
 (RowsEq 0 [(2, 2), (3, 3), (5, 5), (1, 1), (0, 0), (4, 4)] N q6 (inRows q25.fst) ∧
 C2 ∧
 ∀ (i : Nat),
 let q35 := stT outZ rO o2 i;
 let q36 := q35.snd;
 let q37 := q1 - q36;
 let q38 := decide (i = M);
 i ≤ Int.toNat cnt2 →
 (∀ (j : Nat), j < i → goT outZ rO o2 j) →
 (¬↑i < cnt2 →
 iteB (decide (q37 = q37))
 (iteB (decide (q37 = 0))
 (iteB (decide (0 + N ≤ N))
 ((∀ (i : Nat), i < N → true = true) ∧
 iteB (decide (0 + i ≤ i))
 ((∀ (i_1 : Nat), i_1 < i → true = true) ∧
 ∃ (t : TxS),
 (t.num = nu ∧
 ((N = N ∧ t.N = N) ∧ ∀ (i : Nat), i < N → [AV.arr IntKind.u8 32 (f i).name, AV.int IntKind.i64 (f i).index, AV.int IntKind.i64 (f i).way, AV.arr IntKind.u8 32 (f i).tag, AV.arr IntKind.u8 32 (f i).also, AV.arr IntKind.u8 32 (f i).secret] = InS.c (t.ins i)) ∧
 (i = i ∧ t.M = i) ∧
 ∀ (i_1 : Nat),
 let q43 := q35.fst i_1;
 i_1 < i → [AV.int IntKind.i64 q43.kind, AV.int IntKind.i64 q43.amount, AV.arr IntKind.u8 32 q43.owner, AV.arr IntKind.u8 32 q43.other, AV.arr IntKind.u8 32 q43.point, AV.arr IntKind.u8 32 q43.hash, AV.int IntKind.i64 q43.delay, AV.int IntKind.i64 q43.expiry] = OutS.c (t.outs i_1)) ∧
 TxS.Ok t ∧ iteB (ckTx A t) (iteB q4 (iteB q7 (iteB (decide (N ≤ N)) (iteB q38 (iteB (decide (M ≤ i)) (iteB q7 (RowsEq 0 q8 N q6 q6 ∧ iteB q38 (RowsEq 0 q8 M (outRows g) (outRows q35.fst) ∧ True) False) False) False) False) False) False) False) q11)
 False)
 False)
 q11)
 False) ∧
 (False → False) ∧ (False → False) ∧ (↑i < cnt2 ∧ rO q36 = none → q11))
 False)
 False)
 False)
 False)
 False)
 False)
 False)
 False) ∧
 (q28 = none → q11))
 False) ∧
 (False → False) ∧ (False → False) ∧ (↑i < cnt ∧ rI q26 = none → q11))
 False)
 False)
 False)
 False)
 False) ∧
 (q23 = none → q11))
 False) ∧
 (q2 = none → q11))
 False)
 False) (by kernel_rfl) ?_
  conv => zeta
  try simp only [need_eq]
  try simp only [nope_eq]
  try simp only [iteD_eq]
  try simp only [iteT_eq]
  try simp only [iteF_eq]
  try simp only [iteE_eq]
  try simp only [Int.toNat_natCast, Nat.zero_add, true_and, and_true, Nat.le_refl]
  subst hL
  refine ⟨⟨rfl, hB⟩, by omega, ?_, ?_⟩
  rotate_left
  · exact fun h => absurd h e0
  intro v o' q0 r0
  obtain ⟨rfl, rfl⟩ := h0 v o' q0
  refine ⟨by omega, ?_, ?_⟩
  rotate_left
  · exact fun h => absurd h e1
  intro v1 o1' q1 r1
  obtain ⟨rfl, rfl⟩ := h1 v1 o1' q1
  have hlI := hlI r1.2.1
  refine ⟨rfl, rfl, rfl, rfl, Nat.le_refl _, hC r1.2.1 r1.2.2, fun i hi hgo => ⟨fun hx => ?_, fun h => h.elim, fun h => h.elim, fun hx => ?_⟩⟩
  rotate_left
  · have := eI i (by omega); unfold goT at this; rw [hx.2] at this; cases this
  have hiN : i = N := by omega
  subst hiN
  have hli := hlI i
  refine ⟨by omega, ?_, ?_⟩
  rotate_left
  · exact fun h => absurd h e2
  intro v2 o2' q2 r2
  obtain ⟨rfl, rfl⟩ := h2 v2 o2' q2
  have hlO := hlO r2.2.1
  refine ⟨rfl, rfl, Nat.le_refl _, rfl, rfl, Nat.le_refl _, rfl, inRowsEq fun _ _ => (by rw [hf]; rfl), hC2 r2.2.1 r2.2.2, fun k hk hgo2 => ⟨fun hx2 => ?_, fun h => h.elim, fun h => h.elim, fun hx2 => ?_⟩⟩
  rotate_left
  · have := eO k (by omega); unfold goT at this; rw [hx2.2] at this; cases this
  have hkM : k = v2.toNat := by omega
  have htok : TxS.Ok ⟨v, i, f, k, (stT outZ rO o2' k).1⟩ := ⟨by show i < 900000000000; omega, by show k < 900000000000; omega, fun j _ => by show (f j).Ok; rw [hf]; exact hoI i j, fun j _ => hoO k j⟩
  have hkM2 : k = M := hkM.trans hM.symm
  subst hkM2
  rw [hg] at hck
  refine ⟨fun _ => ⟨fun _ _ => trivial, fun _ _ => trivial, ⟨v, i, f, k, (stT outZ rO o2' k).1⟩, ⟨rfl, ⟨rfl, fun _ _ => rfl⟩, rfl, fun _ _ => rfl⟩, htok, fun _ => ⟨rfl, Nat.le_refl _, inRowsEq fun _ _ => rfl, rfl, outRowsEq fun _ _ => (by rw [hg]; rfl)⟩, fun h => (by rw [hck] at h; cases h)⟩, fun h => absurd (by omega) h⟩
set_option maxRecDepth 100000 in
set_option maxHeartbeats 0 in
theorem parse_2 (F : List Int → Int × Int) (A : List Int → Int × Int) (xs : List Int) (nu cnt cnt2 : Int) (o1 o2 : Nat) (rI : Nat → Option (InS × Nat)) (rO : Nat → Option (OutS × Nat)) (C C2 : Prop) (N : Nat) (f : Nat → InS) (L : Nat) (hL : xs.length = L) (hB : L < 90000000000000) (p0 : Nat) (hC : o1 ≤ xs.length → cnt ≤ 24 → C) (hC2 : o2 ≤ xs.length → cnt2 ≤ 24 → C2) (h0 : ∀ v p, rdN F xs 0 2147483647 = some (v, p) → v = nu ∧ p = p0) (h1 : ∀ v p, rdN F xs p0 24 = some (v, p) → v = cnt ∧ p = o1) (hN : N = cnt.toNat) (hf : f = (stT inZ rI o1 N).1) (h2 : ∀ v p, rdN F xs (stT inZ rI o1 N).2 24 = some (v, p) → v = cnt2 ∧ p = o2) (hlI : o1 ≤ xs.length → ∀ i, (stT inZ rI o1 i).2 ≤ xs.length) (hlO : o2 ≤ xs.length → ∀ i, (stT outZ rO o2 i).2 ≤ xs.length) (hoI : ∀ i q, ((stT inZ rI o1 i).1 q).Ok) (hoO : ∀ i q, ((stT outZ rO o2 i).1 q).Ok) (hfail : rdN F xs 0 2147483647 ≠ none → rdN F xs p0 24 ≠ none → (∀ j, j < N → goT inZ rI o1 j) → rdN F xs (stT inZ rI o1 N).2 24 ≠ none → (∀ j, j < cnt2.toNat → goT outZ rO o2 j) → (stT outZ rO o2 cnt2.toNat).2 = xs.length → ckTx A ⟨nu, N, f, cnt2.toNat, (stT outZ rO o2 cnt2.toNat).1⟩ = true → False) :
    evF (E25 F A xs nu cnt cnt2 o1 o2 rI rO C C2 N f) 20 11 [.vints .u8 xs L] ⟨0, []⟩ (outM 0 (.ret (.tuple [.agg [.int .i64 0, .nilslice, .nilslice], .int .i64 170])) 0 []) := by
  refine @Eq.mpr _ (let q1 := List.length xs;
 let q2 := rdN F xs 0 2147483647;
 let q3 := q1 - o1;
 let q4 := q1 - o2;
 iteB (decide (q1 = L ∧ L < 90000000000000))
 (iteB (decide (L = q1 - 0 ∧ 0 ≤ q1 ∧ L = q1 - 0 ∧ (0 : Int) ≤ 2147483647))
 ((∀ (v : Int) (o' : Nat),
 let q9 := rdN F xs o' 24;
 q2 = some (v, o') →
 0 ≤ o' ∧ o' ≤ q1 ∧ v ≤ 2147483647 →
 iteB (decide (q1 - o' = q1 - o' ∧ o' ≤ q1 ∧ q1 - o' = q1 - o' ∧ (0 : Int) ≤ 24))
 ((∀ (v_1 : Int) (o'_1 : Nat),
 q9 = some (v_1, o'_1) →
 o' ≤ o'_1 ∧ o'_1 ≤ q1 ∧ v_1 ≤ 24 →
 iteB (decide (v_1 = cnt))
 (iteB (decide (v = nu))
 (xs = xs ∧
 iteB (decide (o'_1 = o1))
 (iteB (decide (q1 - o'_1 = q3))
 (iteB (decide (q3 ≤ q1 - o'_1))
 (C ∧
 ∀ (i : Nat),
 let q11 := stT inZ rI o1 i;
 let q12 := q11.snd;
 let q13 := q1 - q12;
 let q14 := rdN F xs q12 24;
 let q15 := decide (i = N);
 i ≤ Int.toNat cnt →
 (∀ (j : Nat), j < i → goT inZ rI o1 j) →
 (¬↑i < cnt →
 iteB (decide (q13 = q13 ∧ q12 ≤ q1 ∧ q13 = q13 ∧ (0 : Int) ≤ 24))
 ((∀ (v : Int) (o' : Nat),
 q14 = some (v, o') →
 q12 ≤ o' ∧ o' ≤ q1 ∧ v ≤ 24 →
 iteB (decide (v = cnt2))
 (iteB (decide (nu = nu))
 (iteB q15
 (iteB (decide (N ≤ i))
 (xs = xs ∧
 iteB (decide (o' = o2))
 (iteB (decide (q1 - o' = q4))
 (iteB (decide (q4 ≤ q1 - o'))
 (iteB q15
 (RowsEq 0 [(2, 2), (3, 3), (5, 5), (1, 1), (0, 0), (4, 4)] N (inRows f) (inRows q11.fst) ∧
 C2 ∧
 ∀ (i : Nat),
 let q21 := stT outZ rO o2 i;
 let q22 := q21.snd;
 let q23 := q1 - q22;
 i ≤ Int.toNat cnt2 →
 (∀ (j : Nat), j < i → goT outZ rO o2 j) →
 (¬↑i < cnt2 →
 iteB (decide (q23 = q23))
 (iteB (decide (q23 = 0))
 (iteB (decide (0 + N ≤ N))
 ((∀ (i : Nat), i < N → true = true) ∧
 iteB (decide (0 + i ≤ i))
 ((∀ (i_1 : Nat), i_1 < i → true = true) ∧
 ∃ (t : TxS),
 (t.num = nu ∧
 ((N = N ∧ t.N = N) ∧ ∀ (i : Nat), i < N → [AV.arr IntKind.u8 32 (f i).name, AV.int IntKind.i64 (f i).index, AV.int IntKind.i64 (f i).way, AV.arr IntKind.u8 32 (f i).tag, AV.arr IntKind.u8 32 (f i).also, AV.arr IntKind.u8 32 (f i).secret] = InS.c (t.ins i)) ∧
 (i = i ∧ t.M = i) ∧
 ∀ (i_1 : Nat),
 let q27 := q21.fst i_1;
 i_1 < i → [AV.int IntKind.i64 q27.kind, AV.int IntKind.i64 q27.amount, AV.arr IntKind.u8 32 q27.owner, AV.arr IntKind.u8 32 q27.other, AV.arr IntKind.u8 32 q27.point, AV.arr IntKind.u8 32 q27.hash, AV.int IntKind.i64 q27.delay, AV.int IntKind.i64 q27.expiry] = OutS.c (t.outs i_1)) ∧
 TxS.Ok t ∧ iteB (ckTx A t) (iteB (decide (nu = 0)) False False) True)
 False)
 False)
 True)
 False) ∧
 (False → False) ∧ (False → False) ∧ (↑i < cnt2 ∧ rO q22 = none → True))
 False)
 False)
 False)
 False)
 False)
 False)
 False)
 False) ∧
 (q14 = none → True))
 False) ∧
 (False → False) ∧ (False → False) ∧ (↑i < cnt ∧ rI q12 = none → True))
 False)
 False)
 False)
 False)
 False) ∧
 (q9 = none → True))
 False) ∧
 (q2 = none → True))
 False)
 False) (by kernel_rfl) ?_
  conv => zeta
  try simp only [need_eq]
  try simp only [nope_eq]
  try simp only [iteD_eq]
  try simp only [iteT_eq]
  try simp only [iteF_eq]
  try simp only [iteE_eq]
  try simp only [Int.toNat_natCast, Nat.zero_add, true_and, and_true, Nat.le_refl]
  subst hL
  refine ⟨⟨rfl, hB⟩, by omega, ?_, ?_⟩
  rotate_left
  · exact fun _ => trivial
  intro v o' q0 r0
  obtain ⟨rfl, rfl⟩ := h0 v o' q0
  refine ⟨by omega, ?_, ?_⟩
  rotate_left
  · exact fun _ => trivial
  intro v1 o1' q1 r1
  obtain ⟨rfl, rfl⟩ := h1 v1 o1' q1
  have hlI := hlI r1.2.1
  refine ⟨rfl, rfl, rfl, rfl, Nat.le_refl _, hC r1.2.1 r1.2.2, fun i hi hgo => ⟨fun hx => ?_, fun h => h.elim, fun h => h.elim, fun hx => ?_⟩⟩
  rotate_left
  · trivial
  have hiN : i = N := by omega
  subst hiN
  have hli := hlI i
  refine ⟨by omega, ?_, ?_⟩
  rotate_left
  · exact fun _ => trivial
  intro v2 o2' q2 r2
  obtain ⟨rfl, rfl⟩ := h2 v2 o2' q2
  have hlO := hlO r2.2.1
  refine ⟨rfl, rfl, Nat.le_refl _, rfl, rfl, Nat.le_refl _, rfl, inRowsEq fun _ _ => (by rw [hf]; rfl), hC2 r2.2.1 r2.2.2, fun k hk hgo2 => ⟨fun hx2 => ?_, fun h => h.elim, fun h => h.elim, fun hx2 => ?_⟩⟩
  rotate_left
  · trivial
  have hkM : k = v2.toNat := by omega
  have htok : TxS.Ok ⟨v, i, f, k, (stT outZ rO o2' k).1⟩ := ⟨by show i < 900000000000; omega, by show k < 900000000000; omega, fun j _ => by show (f j).Ok; rw [hf]; exact hoI i j, fun j _ => hoO k j⟩
  refine ⟨fun hz => ⟨fun _ _ => trivial, fun _ _ => trivial, ⟨v, i, f, k, (stT outZ rO o2' k).1⟩, ⟨rfl, ⟨rfl, fun _ _ => rfl⟩, rfl, fun _ _ => rfl⟩, htok, fun hck => ?_, fun _ => trivial⟩, fun _ => trivial⟩
  exfalso
  have hlk := hlO k
  refine hfail (by rw [q0]; simp) (by rw [q1]; simp) hgo (by rw [q2]; simp) (fun j hj => hgo2 j (by omega)) ?_ ?_
  · rw [← hkM]; omega
  · rw [← hkM]; exact hck
theorem rdN_le {xs : List Int} {o p : Nat} {v most : Int} (ho : o ≤ xs.length) (h : rdN (firstB numW) xs o most = some (v, p)) : o ≤ p ∧ p ≤ xs.length ∧ v ≤ most := by
  unfold rdN at h
  split at h
  · rename_i hc
    simp only [Option.some.injEq, Prod.mk.injEq] at h
    have hle := firstB_le numW (xs.drop o)
    rw [List.length_drop] at hle
    omega
  · cases h
theorem rdH_le {xs : List Int} {o p : Nat} {hh : List Int} (h : rdH xs o = some (hh, p)) : o ≤ p ∧ p ≤ xs.length ∧ hh.length = 32 := by
  unfold rdH at h
  split at h
  · simp only [Option.some.injEq, Prod.mk.injEq] at h
    obtain ⟨rfl, rfl⟩ := h
    refine ⟨by omega, by omega, ?_⟩
    rw [List.length_take, List.length_drop]; omega
  · cases h
theorem rdHif_le {b : Bool} {xs : List Int} {o p : Nat} {hh : List Int} (ho : o ≤ xs.length) (h : rdHif b xs o = some (hh, p)) : o ≤ p ∧ p ≤ xs.length ∧ hh.length = 32 := by
  cases b with
  | true => exact rdH_le h
  | false =>
    simp only [rdHif, Option.some.injEq, Prod.mk.injEq] at h
    obtain ⟨rfl, rfl⟩ := h
    exact ⟨Nat.le_refl _, ho, rfl⟩
theorem rdNif_le {b : Bool} {xs : List Int} {o p : Nat} {v most : Int} (ho : o ≤ xs.length) (h : rdNif b (firstB numW) xs o most = some (v, p)) : o ≤ p ∧ p ≤ xs.length := by
  cases b with
  | true => exact ⟨(rdN_le ho h).1, (rdN_le ho h).2.1⟩
  | false =>
    simp only [rdNif, Option.some.injEq, Prod.mk.injEq] at h
    obtain ⟨rfl, rfl⟩ := h
    exact ⟨Nat.le_refl _, ho⟩
theorem rdIn_ok {xs : List Int} {o p : Nat} {x : InS} (ho : o ≤ xs.length) (h : rdIn (firstB numW) xs o = some (x, p)) : x.Ok ∧ p ≤ xs.length := by
  unfold rdIn at h
  simp only [Option.bind_eq_some_iff, Prod.exists, Option.some.injEq, Prod.mk.injEq] at h
  obtain ⟨a, a2, h1, b, b2, h2, c, c2, h3, d, d2, h4, e, e2, h5, f, f2, h6, rfl, rfl⟩ := h
  have k1 := rdH_le h1
  have k2 := rdN_le k1.2.1 h2
  have k3 := rdN_le k2.2.1 h3
  have k4 := rdHif_le k3.2.1 h4
  have k5 := rdHif_le k4.2.1 h5
  have k6 := rdHif_le k5.2.1 h6
  exact ⟨⟨k1.2.2, k4.2.2, k5.2.2, k6.2.2⟩, k6.2.1⟩
theorem rdOut_ok {xs : List Int} {o p : Nat} {x : OutS} (ho : o ≤ xs.length) (h : rdOut (firstB numW) xs o = some (x, p)) : x.Ok ∧ p ≤ xs.length := by
  unfold rdOut at h
  simp only [Option.bind_eq_some_iff, Prod.exists, Option.some.injEq, Prod.mk.injEq] at h
  obtain ⟨a, a2, h1, b, b2, h2, c, c2, h3, d, d2, h4, e, e2, h5, f, f2, h6, u, u2, h7, w, w2, h8, rfl, rfl⟩ := h
  have k1 := rdN_le ho h1
  have k2 := rdN_le k1.2.1 h2
  have k3 := rdHif_le k2.2.1 h3
  have k4 := rdHif_le k3.2.1 h4
  have k5 := rdHif_le k4.2.1 h5
  have k6 := rdHif_le k5.2.1 h6
  have k7 := rdNif_le k6.2.1 h7
  have k8 := rdNif_le k7.2 h8
  exact ⟨⟨k3.2.2, k4.2.2, k5.2.2, k6.2.2⟩, k8.2⟩
theorem stT_inv {X : Type} {d : X} {rd : Nat → Option (X × Nat)} {o L : Nat} {ok : X → Prop} (hd : ok d) (ho : o ≤ L) (hr : ∀ o x p, o ≤ L → rd o = some (x, p) → ok x ∧ p ≤ L) : ∀ i, (stT d rd o i).2 ≤ L ∧ ∀ q, ok ((stT d rd o i).1 q)
  | 0 => ⟨ho, fun _ => hd⟩
  | i + 1 => by
    obtain ⟨h1, h2⟩ := stT_inv hd ho hr i
    unfold stT
    split
    · rename_i x p hq
      obtain ⟨h3, h4⟩ := hr _ _ _ h1 hq
      refine ⟨h4, fun q => ?_⟩
      show ok (if q = i then x else _)
      split
      · exact h3
      · exact h2 q
    · exact ⟨h1, h2⟩
theorem inZ_ok : inZ.Ok := ⟨rfl, rfl, rfl, rfl⟩
theorem outZ_ok : outZ.Ok := ⟨rfl, rfl, rfl, rfl⟩
theorem stT_step {X : Type} {d x : X} {rd : Nat → Option (X × Nat)} {o i p : Nat} (h : rd (stT d rd o i).2 = some (x, p)) : (stT d rd o (i + 1)).2 = p ∧ ∀ q, (stT d rd o (i + 1)).1 q = if q = i then x else (stT d rd o i).1 q := by
  conv => lhs; unfold stT
  constructor
  · rw [h]
  · intro q
    conv => lhs; unfold stT
    rw [h]
theorem stT_lenI {xs : List Int} {o : Nat} (ho : o ≤ xs.length) (i : Nat) : (stT inZ (rdIn (firstB numW) xs) o i).2 ≤ xs.length ∧ ∀ q, ((stT inZ (rdIn (firstB numW) xs) o i).1 q).Ok := stT_inv (ok := InS.Ok) inZ_ok ho (fun o x p h1 h2 => rdIn_ok (xs := xs) h1 h2) i
theorem stT_lenO {xs : List Int} {o : Nat} (ho : o ≤ xs.length) (i : Nat) : (stT outZ (rdOut (firstB numW) xs) o i).2 ≤ xs.length ∧ ∀ q, ((stT outZ (rdOut (firstB numW) xs) o i).1 q).Ok := stT_inv (ok := OutS.Ok) outZ_ok ho (fun o x p h1 h2 => rdOut_ok (xs := xs) h1 h2) i
noncomputable def E25c (F : List Int → Int × Int) (A : List Int → Int × Int) (xs : List Int) (nu cnt : Int) (o1 : Nat) (rI : Nat → Option (InS × Nat)) (C : Prop) : Env2 :=
  (E24 F A).withL 11 0 (goM 0 (paS1 nu cnt xs 0 o1 (xs.length - o1) (stT inZ rI o1 0).1) C (endsP 0 cnt.toNat 9 pvTx (goT inZ rI o1) (fun i => ¬ (i : Int) < cnt) (fun _ => False) (fun _ => False) (fun i => (i : Int) < cnt ∧ rI (stT inZ rI o1 i).2 = none)
    (fun i => paE1 nu xs i (stT inZ rI o1 i).2 (xs.length - (stT inZ rI o1 i).2) (stT inZ rI o1 i).1) (fun _ => paP) (fun _ => paP) (fun _ => paP)))
noncomputable def E25d (F : List Int → Int × Int) (A : List Int → Int × Int) (xs : List Int) (nu cnt2 : Int) (o2 : Nat) (rO : Nat → Option (OutS × Nat)) (C2 : Prop) (N : Nat) (f : Nat → InS) : Env2 :=
  (E24 F A).withL 11 4 (goM 0 (paS2 nu cnt2 xs N f 0 o2 (xs.length - o2) (stT outZ rO o2 0).1) C2 (endsP 4 cnt2.toNat 9 pvTx (goT outZ rO o2) (fun i => ¬ (i : Int) < cnt2) (fun _ => False) (fun _ => False) (fun i => (i : Int) < cnt2 ∧ rO (stT outZ rO o2 i).2 = none)
    (fun i => paE2 nu xs N f i (stT outZ rO o2 i).2 (xs.length - (stT outZ rO o2 i).2) (stT outZ rO o2 i).1) (fun _ => paP) (fun _ => paP) (fun _ => paP)))
theorem E25c_ok (xs : List Int) (nu cnt : Int) (o1 : Nat) : (E25c (firstB numW) addM xs nu cnt o1 (rdIn (firstB numW) xs) (o1 ≤ xs.length ∧ cnt ≤ 24)).Ok := by
  unfold E25c
  refine Env2.withGoP (N := 20) (S := fun i => paS1 nu cnt xs i (stT inZ (rdIn (firstB numW) xs) o1 i).2 (xs.length - (stT inZ (rdIn (firstB numW) xs) o1 i).2) (stT inZ (rdIn (firstB numW) xs) o1 i).1) E24_ok rfl (by kernel_rfl) fun hC => ⟨rfl, fun i hi hgo => ?_⟩
  have hle := (stT_lenI hC.1 i).1
  refine pin_1 _ _ nu cnt xs i _ _ _ _ _ _ _ _ _ rfl hle ⟨by omega, hC.2⟩ (fun h => h) (fun h1 h2 => ⟨h1, h2⟩) (fun h1 x p h2 => ?_)
  have hs := stT_step h2
  exact ⟨⟨hs.1, by rw [hs.1], hs.2⟩, by show goT _ _ _ _; unfold goT; rw [h2]; rfl, by omega⟩
theorem E25d_ok (xs : List Int) (nu cnt2 : Int) (o2 N : Nat) (f : Nat → InS) : (E25d (firstB numW) addM xs nu cnt2 o2 (rdOut (firstB numW) xs) (o2 ≤ xs.length ∧ cnt2 ≤ 24) N f).Ok := by
  unfold E25d
  refine Env2.withGoP (N := 20) (S := fun i => paS2 nu cnt2 xs N f i (stT outZ (rdOut (firstB numW) xs) o2 i).2 (xs.length - (stT outZ (rdOut (firstB numW) xs) o2 i).2) (stT outZ (rdOut (firstB numW) xs) o2 i).1) E24_ok rfl (by kernel_rfl) fun hC => ⟨rfl, fun i hi hgo => ?_⟩
  have hle := (stT_lenO hC.1 i).1
  refine pout_1 _ _ nu cnt2 xs N f i _ _ _ _ _ _ _ _ _ rfl hle ⟨by omega, hC.2⟩ (fun h => h) (fun h1 h2 => ⟨h1, h2⟩) (fun h1 x p h2 => ?_)
  have hs := stT_step h2
  exact ⟨⟨hs.1, by rw [hs.1], hs.2⟩, by show goT _ _ _ _; unfold goT; rw [h2]; rfl, by omega⟩
theorem E25_ok (xs : List Int) (nu cnt cnt2 : Int) (o1 o2 N : Nat) (f : Nat → InS) : (E25 (firstB numW) addM xs nu cnt cnt2 o1 o2 (rdIn (firstB numW) xs) (rdOut (firstB numW) xs) (o1 ≤ xs.length ∧ cnt ≤ 24) (o2 ≤ xs.length ∧ cnt2 ≤ 24) N f).Ok := by
  unfold E25
  exact Env2.withL_join (G := E25c (firstB numW) addM xs nu cnt o1 (rdIn (firstB numW) xs) (o1 ≤ xs.length ∧ cnt ≤ 24)) (H := E24 (firstB numW) addM) (E25c_ok xs nu cnt o1) rfl (E25d_ok xs nu cnt2 o2 N f)
@[irreducible] def parseT (F : List Int → Int × Int) (A : List Int → Int × Int) (xs : List Int) : Option TxS :=
  (rdN F xs 0 2147483647).bind fun a => (rdN F xs a.2 24).bind fun b =>
  let sI := stT inZ (rdIn F xs) b.2 b.1.toNat
  if ((List.range b.1.toNat).all fun j => (rdIn F xs (stT inZ (rdIn F xs) b.2 j).2).isSome) = true then
    (rdN F xs sI.2 24).bind fun c =>
    let sO := stT outZ (rdOut F xs) c.2 c.1.toNat
    if (((List.range c.1.toNat).all fun j => (rdOut F xs (stT outZ (rdOut F xs) c.2 j).2).isSome) && (sO.2 == xs.length) && ckTx A ⟨a.1, b.1.toNat, sI.1, c.1.toNat, sO.1⟩) = true then some ⟨a.1, b.1.toNat, sI.1, c.1.toNat, sO.1⟩ else none
  else none
def zeroTx : AV := .tuple [.agg [.int .i64 0, .nilslice, .nilslice], .int .i64 170]
def nuD (F : List Int → Int × Int) (xs : List Int) (o : Nat) (most : Int) : Int × Nat := (rdN F xs o most).getD (0, 0)
theorem nuD_some {F : List Int → Int × Int} {xs : List Int} {o p : Nat} {most v : Int} (h : rdN F xs o most = some (v, p)) : v = (nuD F xs o most).1 ∧ p = (nuD F xs o most).2 := by unfold nuD; rw [h]; exact ⟨rfl, rfl⟩
theorem nuD_le {xs : List Int} {o : Nat} {most : Int} (ho : o ≤ xs.length) : (nuD (firstB numW) xs o most).2 ≤ xs.length := by
  unfold nuD
  cases h : rdN (firstB numW) xs o most with
  | none => exact Nat.zero_le _
  | some a => exact (rdN_le (v := a.1) (p := a.2) ho h).2.1
theorem parse_pure (xs : List Int) (L : Nat) (hL : xs.length = L) (hB : L < 90000000000000) :
    (∀ t, parseT (firstB numW) addM xs = some t → t.Ok ∧ Pure PP 11 [.vints .u8 xs L] (.tuple [.agg [.int .i64 t.num, .nslice ⟨0, 0, 130, 0, 0⟩ 130 t.N t.N, .nslice ⟨1, 0, 132, 0, 0⟩ 132 t.M t.M], .int .i64 0]) 2 [(0, .rows 130 t.N (inRows t.ins)), (1, .rows 132 t.M (outRows t.outs))]) ∧
    (parseT (firstB numW) addM xs = none → Pure PP 11 [.vints .u8 xs L] zeroTx 0 []) := by
  generalize hF : firstB numW = F at *
  let a := nuD F xs 0 2147483647
  let b := nuD F xs a.2 24
  let sI := stT inZ (rdIn F xs) b.2 b.1.toNat
  let c := nuD F xs sI.2 24
  let sO := stT outZ (rdOut F xs) c.2 c.1.toNat
  have la : a.2 ≤ xs.length := by subst hF; exact nuD_le (Nat.zero_le _)
  have lb : b.2 ≤ xs.length := by subst hF; exact nuD_le la
  have lI : ∀ i, (stT inZ (rdIn F xs) b.2 i).2 ≤ xs.length ∧ ∀ q, ((stT inZ (rdIn F xs) b.2 i).1 q).Ok := fun i => by subst hF; exact stT_lenI lb i
  have lc : c.2 ≤ xs.length := by subst hF; exact nuD_le (lI _).1
  have lO : ∀ i, (stT outZ (rdOut F xs) c.2 i).2 ≤ xs.length ∧ ∀ q, ((stT outZ (rdOut F xs) c.2 i).1 q).Ok := fun i => by subst hF; exact stT_lenO lc i
  have hE := E25_ok xs a.1 b.1 c.1 b.2 c.2 b.1.toNat sI.1
  rw [hF] at hE
  have hgoI : (((List.range b.1.toNat).all fun j => (rdIn F xs (stT inZ (rdIn F xs) b.2 j).2).isSome) = true) ↔ ∀ j, j < b.1.toNat → goT inZ (rdIn F xs) b.2 j := by
    rw [List.all_eq_true]; simp only [List.mem_range]; rfl
  have hgoO : (((List.range c.1.toNat).all fun j => (rdOut F xs (stT outZ (rdOut F xs) c.2 j).2).isSome) = true) ↔ ∀ j, j < c.1.toNat → goT outZ (rdOut F xs) c.2 j := by
    rw [List.all_eq_true]; simp only [List.mem_range]; rfl
  constructor
  · intro t ht
    unfold parseT at ht
    simp only [Option.bind_eq_some_iff] at ht
    obtain ⟨a', h0, b', h1, ht⟩ := ht
    have ea : a' = a := Prod.ext (nuD_some h0).1 (nuD_some h0).2
    subst ea
    have eb : b' = b := Prod.ext (nuD_some h1).1 (nuD_some h1).2
    subst eb
    split at ht
    case isFalse => cases ht
    rename_i hI
    simp only [Option.bind_eq_some_iff] at ht
    obtain ⟨c', h2, ht⟩ := ht
    have ec : c' = c := Prod.ext (nuD_some h2).1 (nuD_some h2).2
    subst ec
    split at ht
    case isFalse => cases ht
    rename_i hO
    cases ht
    simp only [Bool.and_eq_true, beq_iff_eq] at hO
    obtain ⟨⟨hO1, hO2⟩, hO3⟩ := hO
    have l24 : b.1 ≤ 24 ∧ c.1 ≤ 24 := by
      subst hF
      exact ⟨(rdN_le la h1).2.2, (rdN_le (lI _).1 h2).2.2⟩
    refine ⟨⟨by show b.1.toNat < _; omega, by show c.1.toNat < _; omega, fun j _ => (lI _).2 j, fun j _ => (lO _).2 j⟩, ?_⟩
    exact .evM hE (parse_1 F addM xs a.1 b.1 c.1 b.2 c.2 (rdIn F xs) (rdOut F xs) _ _ b.1.toNat c.1.toNat sI.1 sO.1 L hL hB a.2 (fun h1 h2 => ⟨h1, h2⟩) (fun h1 h2 => ⟨h1, h2⟩) (fun v p h => nuD_some h) (fun v p h => nuD_some h) rfl rfl (fun v p h => nuD_some h) (fun _ i => (lI i).1) (fun _ i => (lO i).1) (fun i => (lI i).2) (fun i => (lO i).2)
      (by rw [h0]; simp) (by rw [h1]; simp) (hgoI.1 hI) (by rw [h2]; simp) rfl rfl (hgoO.1 hO1) hO2 hO3)
  · intro hn
    refine .evM hE (parse_2 F addM xs a.1 b.1 c.1 b.2 c.2 (rdIn F xs) (rdOut F xs) _ _ b.1.toNat sI.1 L hL hB a.2 (fun h1 h2 => ⟨h1, h2⟩) (fun h1 h2 => ⟨h1, h2⟩) (fun v p h => nuD_some h) (fun v p h => nuD_some h) rfl rfl (fun v p h => nuD_some h) (fun _ i => (lI i).1) (fun _ i => (lO i).1) (fun i => (lI i).2) (fun i => (lO i).2) (fun e0 e1 eI e2 eO he hck => ?_))
    obtain ⟨a', h0⟩ := Option.ne_none_iff_exists'.1 e0
    have ea : a' = a := Prod.ext (nuD_some h0).1 (nuD_some h0).2
    subst ea
    obtain ⟨b', h1⟩ := Option.ne_none_iff_exists'.1 e1
    have eb : b' = b := Prod.ext (nuD_some h1).1 (nuD_some h1).2
    subst eb
    obtain ⟨c', h2⟩ := Option.ne_none_iff_exists'.1 e2
    have ec : c' = c := Prod.ext (nuD_some h2).1 (nuD_some h2).2
    subst ec
    unfold parseT at hn
    rw [h0] at hn
    simp only [Option.bind_some] at hn
    rw [h1] at hn
    simp only [Option.bind_some] at hn
    rw [if_pos (hgoI.2 eI)] at hn
    rw [h2] at hn
    simp only [Option.bind_some] at hn
    rw [if_pos (by rw [Bool.and_eq_true, Bool.and_eq_true, beq_iff_eq]; exact ⟨⟨hgoO.2 eO, he⟩, hck⟩)] at hn
    cases hn
def parseS (R : List Int → Option TxS) : FSumm := fun args h K => viewL none h true 20 args fun a => match a with
  | [.vints .u8 xs n] => need (xs.length = n ∧ n < 90000000000000) ((∀ t, R xs = some t → t.Ok → K (.ret (.tuple [.agg [.int .i64 t.num, .nslice ⟨h.next, 0, 130, 0, 0⟩ 130 t.N t.N, .nslice ⟨h.next + 1, 0, 132, 0, 0⟩ 132 t.M t.M], .int .i64 0])) ⟨h.next + 2, (h.next, .rows 130 t.N (inRows t.ins)) :: (h.next + 1, .rows 132 t.M (outRows t.outs)) :: h.bs⟩) ∧
    (R xs = none → K (.ret zeroTx) ⟨h.next, h.bs⟩))
  | _ => False
theorem parseS_ok (args : List AV) (h : Heap) (K : KO) (hl : parseS (parseT (firstB numW) addM) args h K) : CallsA PP 11 args h K := by
  refine Pure.fsumm (d := 20) (viewL_weak _ _ _ _ _ hl fun a ha => ?_)
  split at ha
  · obtain ⟨⟨h1, h2⟩, hK, hK'⟩ := need_ok ha
    have hp := parse_pure _ _ h1 h2
    cases hr : parseT (firstB numW) addM _ with
    | none => exact ⟨_, _, _, _, hp.2 hr, rfl, trivial, hK' hr⟩
    | some t => exact ⟨_, _, _, _, (hp.1 t hr).2, rfl, ⟨by decide, .rows _ _ _ (fun i _ => (t.ins i).plainC), by decide, .rows _ _ _ (fun i _ => (t.outs i).plainC), trivial⟩, hK t hr (hp.1 t hr).1⟩
  · exact ha.elim
end Go.Tk
end
section
namespace Go.Tk
theorem w8m (x : Int) (h : 0 ≤ x) : IntKind.u8.wrap (Int.tmod x 256) = IntKind.u8.wrap x := by
  rw [tm h]
  unfold IntKind.wrap
  simp [IntKind.bits, IntKind.signed]
theorem shr_pos {n k : Int} (h : 0 ≤ n) : 0 ≤ shrI .i64 n k := by
  unfold shrI
  rw [Int.fdiv_eq_ediv_of_nonneg _ (by exact Int.le_of_lt (Int.pow_pos (by decide)))]
  exact Int.ediv_nonneg h (by exact Int.le_of_lt (Int.pow_pos (by decide)))
theorem b8m {n k : Int} (h : 0 ≤ n) : IntKind.u8.wrap (Int.tmod (shrI .i64 n k) 256) = b8 n k := w8m _ (shr_pos h)
set_option maxRecDepth 100000 in
set_option maxHeartbeats 0 in
theorem numr_1 (n : Int) (ys : List Int) (L : Nat) (hn : 0 ≤ n) (hy : ys = numW n) (hL : L = ys.length) :
    evF G0 20 149 [.int .i64 n] ⟨0, []⟩ (outM 0 (.ret (.nslice ⟨0, 0, 0, 0, 0⟩ 1 L L)) 1 [(0, .ints .u8 ys)]) := by
  refine @Eq.mpr _ (let q1 := [IntKind.wrap IntKind.u8 (Int.tmod (shrI IntKind.i64 n 8) 256), IntKind.wrap IntKind.u8 (Int.tmod (shrI IntKind.i64 n 0) 256)];
 let q2 := IntKind.wrap IntKind.u8 (Int.tmod (shrI IntKind.i64 n 24) 256) :: IntKind.wrap IntKind.u8 (Int.tmod (shrI IntKind.i64 n 16) 256) :: q1;
 iteB (decide (n < 253)) (iteB (decide (1 = L)) (iteB (decide (L ≤ 1)) ([IntKind.wrap IntKind.u8 n] = ys ∧ True) False) False) (iteB (decide (n < 65536)) (iteB (decide (3 = L)) (iteB (decide (L ≤ 3)) ((253 : Int) :: q1 = ys ∧ True) False) False) (iteB (decide (n < 4294967296)) (iteB (decide (5 = L)) (iteB (decide (L ≤ 5)) ((254 : Int) :: q2 = ys ∧ True) False) False) (iteB (decide (9 = L)) (iteB (decide (L ≤ 9)) ((255 : Int) :: IntKind.wrap IntKind.u8 (Int.tmod (shrI IntKind.i64 n 56) 256) :: IntKind.wrap IntKind.u8 (Int.tmod (shrI IntKind.i64 n 48) 256) :: IntKind.wrap IntKind.u8 (Int.tmod (shrI IntKind.i64 n 40) 256) :: IntKind.wrap IntKind.u8 (Int.tmod (shrI IntKind.i64 n 32) 256) :: q2 = ys ∧ True) False) False)))) (by kernel_rfl) ?_
  conv => zeta
  try simp only [need_eq]
  try simp only [nope_eq]
  try simp only [iteD_eq]
  try simp only [iteT_eq]
  try simp only [iteF_eq]
  try simp only [iteE_eq]
  try simp only [Int.toNat_natCast, Nat.zero_add, true_and, and_true, Nat.le_refl]
  subst hy hL
  refine ⟨fun h1 => ?_, fun h1 => ⟨fun h2 => ?_, fun h2 => ⟨fun h3 => ?_, fun h3 => ?_⟩⟩⟩
  · rw [numW1 h1]; simp
  · rw [numW2 h1 h2]; simp [b8m hn]
  · rw [numW3 h1 h2 h3]; simp [b8m hn]
  · rw [numW4 h1 h2 h3]; simp [b8m hn]
def numRS (W : Int → List Int) : FSumm := fun args h K => match args with
  | [.int .i64 n] => need (0 ≤ n) (K (.ret (.nslice ⟨h.next, 0, 0, 0, 0⟩ 1 (W n).length (W n).length)) ⟨h.next + 1, (h.next, .ints .u8 (W n)) :: h.bs⟩)
  | _ => False
theorem numRS_ok (args : List AV) (h : Heap) (K : KO) (hl : numRS numW args h K) : CallsA PP 149 args h K := by
  unfold numRS at hl
  split at hl
  · obtain ⟨hn, hK⟩ := need_ok hl
    exact (Pure.evM G0_ok (numr_1 _ _ _ hn rfl rfl)).calls (fun E w rs he hr => by
      cases hr with
      | cons v r vs rs h1 h2 => cases h2; exact .cons _ _ _ _ (h1.plain rfl) .nil) rfl ⟨Nat.one_pos, .ints _ _, trivial⟩ hK
  · exact hl.elim
structure Bytes (xs : List Int) : Prop where
  h : ∀ i : Nat, 0 ≤ xs.getD i 0 ∧ xs.getD i 0 ≤ 255
theorem Bytes.drop {xs : List Int} (h : Bytes xs) (n : Nat) : Bytes (xs.drop n) := ⟨fun i => by
  have := h.h (n + i)
  rw [List.getD_eq_getElem?_getD] at this
  rw [List.getD_eq_getElem?_getD, List.getElem?_drop]
  exact this⟩
end Go.Tk
end
section
namespace Go.Tk
end Go.Tk
end
section
namespace Go.Tk
mutual
/-- Without names; views may be. -/
def AV.vplain : AV → Bool
  | .top | .bool _ | .int _ _ | .str _ | .ptr none | .eslice | .fslice | .nilslice | .map none | .nilFunc | .nilIface | .arr _ _ _ => true
  | .vints _ _ _ | .vrows _ _ _ _ | .pview _ _ => true
  | .agg cs => vplainL cs
  | .tuple cs => vplainL cs
  | .iface _ v => v.vplain
  | _ => false
def vplainL : List AV → Bool
  | [] => true
  | v :: r => v.vplain && vplainL r
end
mutual
theorem VRel.vplain {E E' : Env} (hi : ∀ a c, E.imm a c → E'.imm a c) : ∀ (v : AV) (r : Value), v.vplain = true → VRel E v r → VRel E' v r
  | .top, r, _, _ => .top r
  | .bool b, r, _, h => h.plain rfl
  | .int k n, r, _, h => h.plain rfl
  | .str s, r, _, h => h.plain rfl
  | .ptr none, r, _, h => h.plain rfl
  | .eslice, r, _, h => h.plain rfl
  | .fslice, r, _, h => h.plain rfl
  | .nilslice, r, _, h => h.plain rfl
  | .map none, r, _, h => h.plain rfl
  | .nilFunc, r, _, h => h.plain rfl
  | .nilIface, r, _, h => h.plain rfl
  | .arr k n xs, r, _, h => h.plain rfl
  | .ptr (some p), r, hp, _ => by simp [AV.vplain] at hp
  | .nslice p a b c, r, hp, _ => by simp [AV.vplain] at hp
  | .map (some x), r, hp, _ => by simp [AV.vplain] at hp
  | .func a b c, r, hp, _ => by simp [AV.vplain] at hp
  | .yield x, r, hp, _ => by simp [AV.vplain] at hp
  | .pview cs inn, r, _, h => by
    cases h with
    | pview cs inn a vs hc hq => exact .pview cs inn a vs (CRel.mono (⟨fun _ _ h => by simp [Env.views] at h, hi⟩ : E.views.le E'.views) hc) (fun j c h => hi _ _ (hq j c h))
  | .vints k xs len, r, _, h => by
    cases h with
    | vintsNil k xs len h1 h2 => exact .vintsNil k xs len h1 h2
    | vints k xs len a cap h1 h2 hq => exact .vints k xs len a cap h1 h2 (fun i h => hi _ _ (hq i h))
  | .vrows esz n f len, r, _, h => by
    cases h with
    | vrowsNil esz n f len h1 h2 => exact .vrowsNil esz n f len h1 h2
    | vrows esz n f len a cap g h1 h2 hc hl hq => exact .vrows esz n f len a cap g h1 h2 (fun i h => CRel.mono (⟨fun _ _ h => by simp [Env.views] at h, hi⟩ : E.views.le E'.views) (hc i h)) hl (fun i j c h h' => hi _ _ (hq i j c h h'))
  | .iface t v, r, hp, h => by
    cases h with
    | iface t v x hx => exact .iface t v x (VRel.vplain hi v x (by simpa [AV.vplain] using hp) hx)
  | .agg cs, r, hp, h => by
    cases h with
    | agg cs vs hc => exact .agg cs vs (CRel.vplain hi cs vs (by simpa [AV.vplain] using hp) hc)
  | .tuple cs, r, hp, h => by
    cases h with
    | tuple _ rs hc => exact .tuple _ rs (LRel.vplain hi cs rs (by simpa [AV.vplain] using hp) hc)
theorem CRel.vplain {E E' : Env} (hi : ∀ a c, E.imm a c → E'.imm a c) : ∀ (l : List AV) (r : List Value), vplainL l = true → CRel E l r → CRel E' l r
  | [], r, _, h => by cases h; exact .nil
  | v :: l, r, hp, h => by
    simp only [vplainL, Bool.and_eq_true] at hp
    cases h with
    | one v c vs cs h0 h1 hv t => exact .one v c _ cs h0 h1 (VRel.vplain hi v c hp.1 hv) (CRel.vplain hi l cs hp.2 t)
    | arr k n xs vs cs t => exact .arr k n xs _ cs (CRel.vplain hi l cs hp.2 t)
theorem LRel.vplain {E E' : Env} (hi : ∀ a c, E.imm a c → E'.imm a c) : ∀ (l : List AV) (r : List Value), vplainL l = true → LRel E l r → LRel E' l r
  | [], r, _, h => by cases h; exact .nil
  | v :: l, r, hp, h => by
    simp only [vplainL, Bool.and_eq_true] at hp
    cases h with
    | cons v c vs cs hv t => exact .cons v c _ cs (VRel.vplain hi v c hp.1 hv) (LRel.vplain hi l cs hp.2 t)
end
def outV (R : AV → Prop) : KO := fun o _ => match o with
  | .ret u => (match u.vplain with | true => R u | false => False)
  | .panic _ => False
theorem outV_psumm {P : Program} {f : FuncId} {args : List AV} {h : Heap} {R : AV → Prop} {K : AV → Prop} (hp : vplainL args = true) (hc : CallsA P f args ⟨0, []⟩ (outV R)) (hK : ∀ u, R u → K u) :
    CallsA P f args h fun o h' => ∃ v, o = .ret v ∧ h' = h ∧ K v := by
  intro E w rs he hr
  have hemb : Emb E.views ⟨0, []⟩ w :=
    ⟨fun x _ => rfl, fun x B h => by simp [Heap.get, getB] at h, fun x B h => by simp [Heap.get, getB] at h, fun x y B B' b N N' h => by simp [Heap.get, getB] at h, he.imm, fun a c x B N _ h => by simp [Heap.get, getB] at h⟩
  refine (hc E.views w rs hemb (LRel.vplain (E := E) (E' := E.views) (fun _ _ h => h) _ _ hp hr)).mono ?_
  rintro e w' ⟨E₁, o, h', hK0, hev, hor⟩
  cases hor with
  | panic u r hr => exact hK0.elim
  | ret u r hr =>
    unfold outV at hK0
    simp only at hK0
    split at hK0
    · rename_i hu
      have hkeep : ∀ b, b < w.heap.size → w'.heap[b]? = w.heap[b]? := fun b hb => hev.keep b hb (fun ⟨x, B, N, hx, _⟩ => by simp [Heap.get, getB] at hx)
      have hemb' : Emb E h w' := by
        refine ⟨he.fresh, he.lt, fun x B hx => (he.own x B hx).congr fun b N hb => hkeep b ((he.own x B hx).lt hb), he.disj, fun a c hi => ?_, he.sep⟩
        have hcc := he.imm a c hi
        have hlt : a.block < w.heap.size := by
          rcases Nat.lt_or_ge a.block w.heap.size with hl | hg
          · exact hl
          · simp [World.cell?, Array.getElem?_eq_none hg] at hcc
        simpa [World.cell?, hkeep _ hlt] using hcc
      exact ⟨E, .ret u, h, ⟨u, rfl, rfl, hK u hK0⟩, ⟨.refl E, hemb', hev.size, hev.os, hev.tape, hev.output, fun b hb _ => hkeep b hb, fun b ho => .inl ho, fun _ _ h => h⟩, .ret _ _ (VRel.vplain (E := E₁) (E' := E) (fun a c hi => hev.imm a c hi) _ _ hu hr)⟩
    · exact hK0.elim
theorem outV_ev {G : Env2} (hG : G.Ok) {n : Nat} {f : FuncId} {args : List AV} {h : Heap} {R : AV → Prop} {K : AV → Prop} (hp : vplainL args = true) (hc : evF G n f args ⟨0, []⟩ (outV R)) (hK : ∀ u, R u → K u) :
    CallsA G.P f args h fun o h' => ∃ v, o = .ret v ∧ h' = h ∧ K v := outV_psumm hp (evF_ok hG hc) hK
end Go.Tk
end
section
namespace Go.Tk
end Go.Tk
end
section
namespace Go.Tk
end Go.Tk
end
section
namespace Go.Tk
end Go.Tk
end
section
namespace Go.Tk
end Go.Tk
end
section
namespace Go.Tk
set_option maxRecDepth 100000 in
set_option maxHeartbeats 0 in
theorem rin45 (x : InS) (b : Bool) (hx : x.Ok) (hb : b = inRight x) :
    evF G0 20 45 [.agg x.c] ⟨0, []⟩ (outV (fun v => v = .bool b)) := by
  refine @Eq.mpr _ (let q1 := x.way;
 let q2 := q1 == 1;
 let q3 := q1 == 4;
 let q4 := decide (q1 ≥ 1);
 let q5 := decide (q1 ≤ 6);
 let q6 := x.name;
 let q7 := decide (List.length q6 = 32 ∧ List.length q6 = 32);
 let q8 := x.tag;
 let q9 := decide (List.length q8 = 32 ∧ List.length q8 = 32);
 let q10 := x.also;
 let q11 := decide (List.length q10 = 32 ∧ List.length q10 = 32);
 let q12 := x.secret;
 let q13 := decide (List.length q12 = 32 ∧ List.length q12 = 32);
 let q14 := q6 == q6;
 let q15 := x.index;
 let q16 := q15 == q15;
 let q17 := q1 == q1;
 let q18 := q8 == q8;
 let q19 := q10 == q10;
 let q20 := q12 == q12;
 let q21 := q19 && q20;
 let q22 := AV.bool false = AV.bool b;
 let q23 := iteB (decide (q15 ≥ 0)) (AV.bool (decide (q15 < 24)) = AV.bool b) q22;
 let q24 := iteB q4 (iteB q5 (iteB q7 (iteB q9 (iteB q11 (iteB q13 (iteB (q14 && (q16 && (q17 && (q18 && q21)))) q23 q22) False) False) False) False) q22) q22;
 let q25 := q1 == 5;
 let q26 := decide (List.length q12 = 32 ∧ (32 : Nat) = 32);
 let q27 := q12 == zero32;
 let q28 := q19 && q27;
 let q29 := decide (List.length q10 = 32 ∧ (32 : Nat) = 32);
 let q30 := q10 == zero32;
 let q31 := q30 && q20;
 let q32 := iteB q4 (iteB q5 (iteB q7 (iteB q9 (iteB q29 (iteB q13 (iteB (q14 && (q16 && (q17 && (q18 && q31)))) q23 q22) False) False) False) False) q22) q22;
 let q33 := q30 && q27;
 let q34 := decide (List.length q8 = 32 ∧ (32 : Nat) = 32);
 let q35 := q8 == zero32;
 let q36 := iteB q4 (iteB q5 (iteB q7 (iteB q34 (iteB q11 (iteB q13 (iteB (q14 && (q16 && (q17 && (q35 && q21)))) q23 q22) False) False) False) False) q22) q22;
 let q37 := iteB q4 (iteB q5 (iteB q7 (iteB q34 (iteB q29 (iteB q13 (iteB (q14 && (q16 && (q17 && (q35 && q31)))) q23 q22) False) False) False) False) q22) q22;
 iteB (q1 != 4) (iteB q2 (iteB q3 q24 (iteB q25 q24 (iteB q4 (iteB q5 (iteB q7 (iteB q9 (iteB q11 (iteB q26 (iteB (q14 && (q16 && (q17 && (q18 && q28)))) q23 q22) False) False) False) False) q22) q22))) (iteB q3 q32 (iteB q25 q32 (iteB q4 (iteB q5 (iteB q7 (iteB q9 (iteB q29 (iteB q26 (iteB (q14 && (q16 && (q17 && (q18 && q33)))) q23 q22) False) False) False) False) q22) q22)))) (iteB q2 (iteB q3 q36 (iteB q25 q36 (iteB q4 (iteB q5 (iteB q7 (iteB q34 (iteB q11 (iteB q26 (iteB (q14 && (q16 && (q17 && (q35 && q28)))) q23 q22) False) False) False) False) q22) q22))) (iteB q3 q37 (iteB q25 q37 (iteB q4 (iteB q5 (iteB q7 (iteB q34 (iteB q29 (iteB q26 (iteB (q14 && (q16 && (q17 && (q35 && q33)))) q23 q22) False) False) False) False) q22) q22))))) (by kernel_rfl) ?_
  conv => zeta
  obtain ⟨h1, h2, h3, h4⟩ := hx
  subst hb
  have hz : [(0 : Int), 0, 0, 0, 0, 0, 0, 0, 0, 0, 0, 0, 0, 0, 0, 0, 0, 0, 0, 0, 0, 0, 0, 0, 0, 0, 0, 0, 0, 0, 0, 0] = zero32 := rfl
  simp only [hz, iteB_eq]
  unfold inRight
  generalize (x.secret == zero32) = bs
  generalize (x.also == zero32) = ba
  generalize (x.tag == zero32) = bt
  by_cases w1 : x.way = 1
  · cases bs <;> simp [w1, h1, h2, h3, h4] <;> first | omega | grind
  by_cases w2 : x.way = 2
  · cases bs <;> cases ba <;> simp [w2, h1, h2, h3, h4] <;> first | omega | grind
  by_cases w3 : x.way = 3
  · cases bs <;> cases ba <;> simp [w3, h1, h2, h3, h4] <;> first | omega | grind
  by_cases w4 : x.way = 4
  · cases bt <;> cases ba <;> simp [w4, h1, h2, h3, h4] <;> first | omega | grind
  by_cases w5 : x.way = 5
  · cases ba <;> simp [w5, h1, h2, h3, h4] <;> first | omega | grind
  by_cases w6 : x.way = 6
  · cases bs <;> cases ba <;> simp [w6, h1, h2, h3, h4] <;> first | omega | grind
  cases bs <;> cases ba <;> simp [w1, w2, w3, w4, w5, w6, h1, h2, h3, h4] <;> first | omega | grind
theorem toU8_eq {a b : Int} (ha : 0 ≤ a ∧ a < 256) (hb : 0 ≤ b ∧ b < 256) : (toU8 a = toU8 b ↔ a = b) ∧ (toU8 a < toU8 b ↔ a < b) := by
  unfold toU8
  rw [← UInt8.toNat_inj, UInt8.lt_iff_toNat_lt]
  simp only [UInt8.toNat_ofNat']
  omega
theorem Bytes.getD {xs : List Int} (h : Bytes xs) (i : Nat) : 0 ≤ xs.getD i 0 ∧ xs.getD i 0 < 256 := by
  have := h.h i
  omega
theorem beh_go {x y : List Int} {b : Bool} {i : Nat} {P : Prop} (hx : i < x.length) (hy : i < y.length) (bx : Bytes x) (yb : Bytes y) (hb : b = decide (cmpI (x.drop i) (y.drop i) > 0)) (hP : b = decide (cmpI (x.drop (i + 1)) (y.drop (i + 1)) > 0) → P) :
    iteB (x.getD i 0 != y.getD i 0) (AV.bool (decide (x.getD i 0 > y.getD i 0)) = AV.bool b) P := by
  have e1 : x.drop i = x.getD i 0 :: x.drop (i + 1) := by rw [List.drop_eq_getElem_cons hx]; simp [List.getD_eq_getElem?_getD, hx]
  have e2 : y.drop i = y.getD i 0 :: y.drop (i + 1) := by rw [List.drop_eq_getElem_cons hy]; simp [List.getD_eq_getElem?_getD, hy]
  rw [e1, e2] at hb
  have k1 := toU8_eq (bx.getD i) (yb.getD i)
  have k2 := toU8_eq (yb.getD i) (bx.getD i)
  generalize x.getD i 0 = u at *
  generalize y.getD i 0 = v at *
  simp only [cmpI, List.map_cons, Lib.compareBytes, k1.2, k2.2] at hb
  rw [iteB_eq]
  constructor
  · intro h
    have h : u ≠ v := by simpa using h
    rw [hb]
    by_cases h1 : u < v
    · simp [h1]; omega
    · have : v < u := by omega
      simp [this, h1]
  · intro h
    have h : u = v := by simpa using h
    subst h
    simp only [Int.lt_irrefl, if_false] at hb
    exact hP hb
set_option maxRecDepth 100000 in
set_option maxHeartbeats 0 in
theorem beh96 (x y : List Int) (b : Bool) (hx : x.length = 32) (hy : y.length = 32) (bx : Bytes x) (yb : Bytes y) (hb : b = decide (cmpI (x.drop 0) (y.drop 0) > 0)) :
    evF G0 20 96 [.agg [.arr .u8 32 x], .agg [.arr .u8 32 y]] ⟨0, []⟩ (outV (fun v => v = .bool b)) := by
  refine @Eq.mpr _ (let q1 := AV.bool b;
 iteB (List.getD x 0 0 != List.getD y 0 0) (AV.bool (decide (List.getD x 0 0 > List.getD y 0 0)) = q1)
 (iteB (List.getD x 1 0 != List.getD y 1 0) (AV.bool (decide (List.getD x 1 0 > List.getD y 1 0)) = q1)
 (iteB (List.getD x 2 0 != List.getD y 2 0) (AV.bool (decide (List.getD x 2 0 > List.getD y 2 0)) = q1)
 (iteB (List.getD x 3 0 != List.getD y 3 0) (AV.bool (decide (List.getD x 3 0 > List.getD y 3 0)) = q1)
 (iteB (List.getD x 4 0 != List.getD y 4 0) (AV.bool (decide (List.getD x 4 0 > List.getD y 4 0)) = q1)
 (iteB (List.getD x 5 0 != List.getD y 5 0) (AV.bool (decide (List.getD x 5 0 > List.getD y 5 0)) = q1)
 (iteB (List.getD x 6 0 != List.getD y 6 0) (AV.bool (decide (List.getD x 6 0 > List.getD y 6 0)) = q1)
 (iteB (List.getD x 7 0 != List.getD y 7 0) (AV.bool (decide (List.getD x 7 0 > List.getD y 7 0)) = q1)
 (iteB (List.getD x 8 0 != List.getD y 8 0) (AV.bool (decide (List.getD x 8 0 > List.getD y 8 0)) = q1)
 (iteB (List.getD x 9 0 != List.getD y 9 0) (AV.bool (decide (List.getD x 9 0 > List.getD y 9 0)) = q1)
 (iteB (List.getD x 10 0 != List.getD y 10 0) (AV.bool (decide (List.getD x 10 0 > List.getD y 10 0)) = q1)
 (iteB (List.getD x 11 0 != List.getD y 11 0) (AV.bool (decide (List.getD x 11 0 > List.getD y 11 0)) = q1)
 (iteB (List.getD x 12 0 != List.getD y 12 0) (AV.bool (decide (List.getD x 12 0 > List.getD y 12 0)) = q1)
 (iteB (List.getD x 13 0 != List.getD y 13 0) (AV.bool (decide (List.getD x 13 0 > List.getD y 13 0)) = q1)
 (iteB (List.getD x 14 0 != List.getD y 14 0) (AV.bool (decide (List.getD x 14 0 > List.getD y 14 0)) = q1)
 (iteB (List.getD x 15 0 != List.getD y 15 0) (AV.bool (decide (List.getD x 15 0 > List.getD y 15 0)) = q1)
 (iteB (List.getD x 16 0 != List.getD y 16 0) (AV.bool (decide (List.getD x 16 0 > List.getD y 16 0)) = q1)
 (iteB (List.getD x 17 0 != List.getD y 17 0) (AV.bool (decide (List.getD x 17 0 > List.getD y 17 0)) = q1)
 (iteB (List.getD x 18 0 != List.getD y 18 0) (AV.bool (decide (List.getD x 18 0 > List.getD y 18 0)) = q1)
 (iteB (List.getD x 19 0 != List.getD y 19 0) (AV.bool (decide (List.getD x 19 0 > List.getD y 19 0)) = q1)
 (iteB (List.getD x 20 0 != List.getD y 20 0) (AV.bool (decide (List.getD x 20 0 > List.getD y 20 0)) = q1)
 (iteB (List.getD x 21 0 != List.getD y 21 0) (AV.bool (decide (List.getD x 21 0 > List.getD y 21 0)) = q1)
 (iteB (List.getD x 22 0 != List.getD y 22 0) (AV.bool (decide (List.getD x 22 0 > List.getD y 22 0)) = q1)
 (iteB (List.getD x 23 0 != List.getD y 23 0) (AV.bool (decide (List.getD x 23 0 > List.getD y 23 0)) = q1)
 (iteB (List.getD x 24 0 != List.getD y 24 0) (AV.bool (decide (List.getD x 24 0 > List.getD y 24 0)) = q1) (iteB (List.getD x 25 0 != List.getD y 25 0) (AV.bool (decide (List.getD x 25 0 > List.getD y 25 0)) = q1) (iteB (List.getD x 26 0 != List.getD y 26 0) (AV.bool (decide (List.getD x 26 0 > List.getD y 26 0)) = q1) (iteB (List.getD x 27 0 != List.getD y 27 0) (AV.bool (decide (List.getD x 27 0 > List.getD y 27 0)) = q1) (iteB (List.getD x 28 0 != List.getD y 28 0) (AV.bool (decide (List.getD x 28 0 > List.getD y 28 0)) = q1) (iteB (List.getD x 29 0 != List.getD y 29 0) (AV.bool (decide (List.getD x 29 0 > List.getD y 29 0)) = q1) (iteB (List.getD x 30 0 != List.getD y 30 0) (AV.bool (decide (List.getD x 30 0 > List.getD y 30 0)) = q1) (iteB (List.getD x 31 0 != List.getD y 31 0) (AV.bool (decide (List.getD x 31 0 > List.getD y 31 0)) = q1) (AV.bool false = q1))))))))))))))))))))))))))))))))) (by kernel_rfl) ?_
  conv => zeta
  iterate 32 refine beh_go (by omega) (by omega) bx yb hb fun hb => ?_
  rw [List.drop_eq_nil_of_le (by omega), List.drop_eq_nil_of_le (by omega)] at hb
  have h0 : cmpI [] [] = 0 := rfl
  simp [hb, h0, iteB]
theorem in45_ok (args : List AV) (h : Heap) (K : AV → Prop) (hl : inS inRight args h K) : CallsA PP 45 args h fun o h' => ∃ v, o = .ret v ∧ h' = h ∧ K v := by
  unfold inS at hl
  split at hl
  · rename_i n i w t a s
    obtain ⟨⟨h1, h2, h3, h4⟩, hK⟩ := need_ok hl
    exact outV_ev G0_ok rfl (rin45 ⟨n, i, w, t, a, s⟩ _ ⟨h1, h2, h3, h4⟩ rfl) (fun u hu => hu ▸ hK)
  · exact hl.elim
def behS : PSumm := fun args _ K => match args with
  | [.agg [.arr .u8 32 x], .agg [.arr .u8 32 y]] => (x.length = 32 ∧ y.length = 32) ∧ Bytes x ∧ Bytes y ∧ K (.bool (decide (cmpI x y > 0)))
  | _ => False
noncomputable def E35a : Env2 := G0.withP 96 behS
set_option maxRecDepth 100000 in
set_option maxHeartbeats 0 in
theorem rout46 (o : OutS) (b : Bool) (ho : o.Ok) (b1 : Bytes o.owner) (b2 : Bytes o.other) (hb : b = outRight o) :
    evF E35a 20 46 [.agg o.c] ⟨0, []⟩ (outV (fun v => v = .bool b)) := by
  refine @Eq.mpr _ (let q1 := o.kind;
 let q2 := q1 == 2;
 let q3 := decide (q1 ≥ 3);
 let q4 := o.delay;
 let q5 := decide (q4 = q4);
 let q6 := decide (q1 ≥ 4);
 let q7 := o.expiry;
 let q8 := decide (q7 = q7);
 let q9 := decide (q1 ≥ 1);
 let q10 := decide (q1 ≤ 5);
 let q11 := o.owner;
 let q12 := decide (List.length q11 = 32 ∧ List.length q11 = 32);
 let q13 := o.other;
 let q14 := decide (List.length q13 = 32 ∧ List.length q13 = 32);
 let q15 := o.point;
 let q16 := decide (List.length q15 = 32 ∧ List.length q15 = 32);
 let q17 := o.hash;
 let q18 := decide (List.length q17 = 32 ∧ List.length q17 = 32);
 let q19 := q1 == q1;
 let q20 := o.amount;
 let q21 := q20 == q20;
 let q22 := q11 == q11;
 let q23 := q13 == q13;
 let q24 := q15 == q15;
 let q25 := q17 == q17;
 let q26 := q4 == q4;
 let q27 := q7 == q7;
 let q28 := q24 && (q25 && (q26 && q27));
 let q29 := AV.bool b;
 let q30 := AV.bool false = q29;
 let q31 := iteB (decide (q20 > 0)) (iteB (decide (q20 ≥ 0)) (iteB (decide (q20 ≤ 1125899906842624)) (iteB (decide (q4 ≥ 0)) (iteB (decide (q4 ≤ 2147483647)) (iteB (decide (q7 ≥ 0)) (iteB (decide (q7 ≤ 2147483647)) (iteB q2 ((List.length q11 = 32 ∧ List.length q13 = 32) ∧ Bytes q11 ∧ Bytes q13 ∧ (AV.bool !decide (cmpI q11 q13 > 0)) = q29) (AV.bool true = q29)) q30) q30) q30) q30) q30) q30) q30;
 let q32 := decide (List.length q17 = 32 ∧ (32 : Nat) = 32);
 let q33 := q17 == zero32;
 let q34 := q7 == 0;
 let q35 := q24 && (q33 && (q26 && q34));
 let q36 := decide (List.length q15 = 32 ∧ (32 : Nat) = 32);
 let q37 := q15 == zero32;
 let q38 := q4 == 0;
 let q39 := q37 && (q25 && (q38 && q27));
 let q40 := q37 && (q33 && (q38 && q34));
 let q41 := iteB q3 (iteB q5 (iteB q6 (iteB q8 (iteB q9 (iteB q10 (iteB q12 (iteB q14 (iteB q16 (iteB q18 (iteB (q19 && (q21 && (q22 && (q23 && q28)))) q31 q30) False) False) False) False) q30) q30) False) (iteB q9 (iteB q10 (iteB q12 (iteB q14 (iteB q16 (iteB q32 (iteB (q19 && (q21 && (q22 && (q23 && q35)))) q31 q30) False) False) False) False) q30) q30)) False) (iteB q6 (iteB q8 (iteB q9 (iteB q10 (iteB q12 (iteB q14 (iteB q36 (iteB q18 (iteB (q19 && (q21 && (q22 && (q23 && q39)))) q31 q30) False) False) False) False) q30) q30) False) (iteB q9 (iteB q10 (iteB q12 (iteB q14 (iteB q36 (iteB q32 (iteB (q19 && (q21 && (q22 && (q23 && q40)))) q31 q30) False) False) False) False) q30) q30));
 let q42 := decide (List.length q13 = 32 ∧ (32 : Nat) = 32);
 let q43 := q13 == zero32;
 iteB q2 q41 (iteB (q1 == 4) q41 (iteB (q1 == 5) q41 (iteB q3 (iteB q5 (iteB q6 (iteB q8 (iteB q9 (iteB q10 (iteB q12 (iteB q42 (iteB q16 (iteB q18 (iteB (q19 && (q21 && (q22 && (q43 && q28)))) q31 q30) False) False) False) False) q30) q30) False) (iteB q9 (iteB q10 (iteB q12 (iteB q42 (iteB q16 (iteB q32 (iteB (q19 && (q21 && (q22 && (q43 && q35)))) q31 q30) False) False) False) False) q30) q30)) False) (iteB q6 (iteB q8 (iteB q9 (iteB q10 (iteB q12 (iteB q42 (iteB q36 (iteB q18 (iteB (q19 && (q21 && (q22 && (q43 && q39)))) q31 q30) False) False) False) False) q30) q30) False) (iteB q9 (iteB q10 (iteB q12 (iteB q42 (iteB q36 (iteB q32 (iteB (q19 && (q21 && (q22 && (q43 && q40)))) q31 q30) False) False) False) False) q30) q30)))))) (by kernel_rfl) ?_
  conv => zeta
  obtain ⟨h1, h2, h3, h4⟩ := ho
  subst hb
  have hz : [(0 : Int), 0, 0, 0, 0, 0, 0, 0, 0, 0, 0, 0, 0, 0, 0, 0, 0, 0, 0, 0, 0, 0, 0, 0, 0, 0, 0, 0, 0, 0, 0, 0] = zero32 := rfl
  simp only [hz, iteB_eq, need_eq]
  unfold outRight
  generalize (o.other == zero32) = bo
  generalize (o.point == zero32) = bp
  generalize (o.hash == zero32) = bh
  generalize cmpI o.owner o.other = cc
  by_cases k1 : o.kind = 1
  · cases bo <;> cases bp <;> cases bh <;> simp [k1, h1, h2, h3, h4, b1, b2] <;> first | omega | grind
  by_cases k2 : o.kind = 2
  · cases bp <;> cases bh <;> simp [k2, h1, h2, h3, h4, b1, b2] <;> first | omega | grind
  by_cases k3 : o.kind = 3
  · cases bo <;> cases bh <;> simp [k3, h1, h2, h3, h4, b1, b2] <;> first | omega | grind
  by_cases k4 : o.kind = 4
  · simp [k4, h1, h2, h3, h4, b1, b2] <;> first | omega | grind
  by_cases k5 : o.kind = 5
  · simp [k5, h1, h2, h3, h4, b1, b2] <;> first | omega | grind
  cases bo <;> cases bp <;> cases bh <;> simp [k1, k2, k3, k4, k5, h1, h2, h3, h4, b1, b2] <;> first | omega | grind
theorem beh96_ok (args : List AV) (h : Heap) (K : AV → Prop) (hl : behS args h K) : CallsA PP 96 args h fun o h' => ∃ v, o = .ret v ∧ h' = h ∧ K v := by
  unfold behS at hl
  split at hl
  · obtain ⟨⟨h1, h2⟩, b1, b2, hK⟩ := hl
    exact outV_ev G0_ok rfl (beh96 _ _ _ h1 h2 b1 b2 rfl) (fun u hu => hu ▸ hK)
  · exact hl.elim
theorem E35a_ok : E35a.Ok := Env2.withP_ok G0_ok beh96_ok
def out46S (R : OutS → Bool) : PSumm := fun args _ K => match args with
  | [.agg [.int .i64 kd, .int .i64 am, .arr .u8 32 ow, .arr .u8 32 ot, .arr .u8 32 po, .arr .u8 32 ha, .int .i64 de, .int .i64 ex]] => need (ow.length = 32 ∧ ot.length = 32 ∧ po.length = 32 ∧ ha.length = 32) ((Bytes ow ∧ Bytes ot) ∧ K (.bool (R ⟨kd, am, ow, ot, po, ha, de, ex⟩)))
  | _ => False
theorem out46_ok (args : List AV) (h : Heap) (K : AV → Prop) (hl : out46S outRight args h K) : CallsA PP 46 args h fun o h' => ∃ v, o = .ret v ∧ h' = h ∧ K v := by
  unfold out46S at hl
  split at hl
  · rename_i kd am ow ot po ha de ex
    obtain ⟨⟨h1, h2, h3, h4⟩, ⟨b1, b2⟩, hK⟩ := need_ok hl
    exact outV_ev E35a_ok rfl (rout46 ⟨kd, am, ow, ot, po, ha, de, ex⟩ _ ⟨h1, h2, h3, h4⟩ b1 b2 rfl) (fun u hu => hu ▸ hK)
  · exact hl.elim
noncomputable def E35 : Env2 := (G0.withP 45 (inS inRight)).withP 46 (out46S outRight)
theorem E35_ok : E35.Ok := Env2.withP_ok (Env2.withP_ok G0_ok in45_ok) out46_ok
end Go.Tk
end
section
namespace Go.Tk
def exLo {ι : Type} (S : ι → Nat → St → KE → Prop) : Nat → St → KE → Prop := fun k s X => ∃ i, S i k s X
theorem Env2.withL_ex {ι : Type} {G : Env2} (hG : G.Ok) {f : FuncId} {id : Nat} {S : ι → Nat → St → KE → Prop} (h1 : ∀ i, (G.withL f id (S i)).Ok) : (G.withL f id (exLo S)).Ok where
  draw := hG.draw
  psumm := hG.psumm
  fsumm := hG.fsumm
  lsumm := fun f' id' S' fn c body hS hf hb hm k s X hs => by
    have hS0 := hS
    simp only [Env2.withL] at hS
    split at hS
    · rename_i hq
      cases hS
      obtain ⟨i, hs⟩ := hs
      have a1 := (h1 i).lsumm f' id' (S i) fn c body
      simp only [Env2.withL, hq] at a1
      exact a1 trivial hf hb hm k s X hs
    · exact hG.lsumm f' id' S' fn c body hS hf hb hm k s X hs
def rgH (t : TxS) : Heap := ⟨1, [(0, .flat t.c)]⟩
def rgP : AV := .ptr (some ⟨0, 0, 0, 0, 0⟩)
def rgS0 (t : TxS) (i : Nat) : St := ⟨106, [(3, .int .i64 i), (1, rgP)], rgH t, []⟩
def rgS2 (t : TxS) (i k : Nat) : St := ⟨106, [(4, .int .i64 k), (3, .int .i64 i), (1, rgP)], rgH t, []⟩
def rgR (t : TxS) : St := ⟨106, [(2, .bool false), (1, rgP)], rgH t, []⟩
def rgE0 (t : TxS) : St := ⟨106, [(1, rgP)], rgH t, []⟩
def rgS4 (t : TxS) (i : Nat) (n : Int) : St := ⟨106, [(6, .int .i64 i), (5, .int .i64 n), (1, rgP)], rgH t, []⟩
def rgE4 (t : TxS) (n : Int) : St := ⟨106, [(5, .int .i64 n), (1, rgP)], rgH t, []⟩
set_option maxRecDepth 100000 in
set_option maxHeartbeats 0 in
theorem rg_2 (t : TxS) (i k : Nat) (Z1 Z2 Z3 : Prop) (hi : i < t.N) (hN : t.N ≤ 24) (hk : k ≤ i) (ht : t.Ok) (h1 : k < i → sameAt t.ins (t.ins i) k = false → Z1) (h2 : k = i → Z2) (h3 : k < i → sameAt t.ins (t.ins i) k = true → Z3) :
    roundE E35 20 16 2 0 (rgS2 t i k) (rdM 0 2 9 (rgS2 t i (k + 1)) (rgS0 t i) (rgR t) (rgR t) Z1 Z2 Z3 False) := by
  refine @Eq.mpr _ (let q1 := t.N;
 let q2 := (↑q1 : Int);
 let q3 := decide (0 ≤ (↑k : Int) ∧ (↑k : Int) < q2);
 let q4 := decide (0 ≤ (↑i : Int) ∧ (↑i : Int) < q2);
 let q5 := t.ins (Int.toNat (↑k : Int));
 let q6 := q5.name;
 let q7 := t.ins (Int.toNat (↑i : Int));
 let q8 := q7.name;
 let q9 := decide (t.num = t.num);
 let q10 := decide (q1 = q1);
 let q11 := inRows t.ins;
 let q12 := q11 = q11;
 let q13 := decide (t.M = t.M);
 let q14 := outRows t.outs;
 let q15 := q14 = q14;
 let q16 := decide ((↑i : Int) = (↑i : Int));
 let q17 := iteB (decide (IntKind.wrap IntKind.i64 ((↑k : Int) + 1) = (↑(k + 1) : Int))) (iteB q16 (iteB q9 (iteB q10 (q12 ∧ iteB q10 (iteB q13 (q15 ∧ iteB q13 Z1 False) False) False) False) False) False) False;
 iteB (decide ((↑k : Int) < (↑i : Int))) (iteB q3 (iteB q4 (iteB (decide (List.length q6 = 32 ∧ List.length q8 = 32)) (iteB (q6 == q8) (iteB q3 (iteB q4 (iteB (q5.index == q7.index) (iteB q9 (iteB q10 (q12 ∧ iteB q10 (iteB q13 (q15 ∧ iteB q13 Z3 False) False) False) False) False) q17) False) False) q17) False) False) False) (iteB q16 (iteB q9 (iteB q10 (q12 ∧ iteB q10 (iteB q13 (q15 ∧ iteB q13 Z2 False) False) False) False) False) False)) (by kernel_rfl) ?_
  conv => zeta
  try simp only [need_eq]
  try simp only [nope_eq]
  try simp only [iteD_eq]
  try simp only [iteT_eq]
  try simp only [iteF_eq]
  try simp only [iteE_eq]
  try simp only [Int.toNat_natCast, Nat.zero_add, true_and, and_true, Nat.le_refl]
  have e1 := (ht.ins i hi).name
  have e2 : k < t.N → (t.ins k).name.length = 32 := fun h => (ht.ins k h).name
  have hw : IntKind.i64.wrap ((k : Int) + 1) = ((k + 1 : Nat) : Int) := w64 (by omega)
  rw [hw]
  unfold sameAt sameO at h1 h3
  refine ⟨fun hlt => ?_, fun hge => ?_⟩
  · have hlt : k < i := by omega
    have h1 := h1 hlt
    have h3 := h3 hlt
    have e2 := e2 (by omega)
    refine ⟨by omega, by omega, ⟨e2, e1⟩, fun q1 => ⟨by omega, by omega, fun q2 => h3 (by rw [q1, q2]; rfl), fun q2 => ⟨rfl, h1 (by rw [q2, Bool.and_false])⟩⟩, fun q1 => ⟨rfl, h1 (by rw [q1, Bool.false_and])⟩⟩
  · simp [h2 (by omega)]
set_option maxRecDepth 100000 in
set_option maxHeartbeats 0 in
theorem rg_4 (t : TxS) (i : Nat) (n : Int) (Z1 Z2 Z3 : Prop) (hM : t.M ≤ 24) (hi : i ≤ t.M) (ht : t.Ok) (hn : 0 ≤ n ∧ n ≤ i * 1125899906842624) (hB : i < t.M → Bytes (t.outs i).owner ∧ Bytes (t.outs i).other) (h1 : i < t.M → outRight (t.outs i) = true → Z1) (h2 : i = t.M → Z2) (h3 : i < t.M → outRight (t.outs i) = false → Z3) :
    roundE E35 20 16 4 0 (rgS4 t i n) (rdM 0 4 9 (rgS4 t (i + 1) (n + (t.outs i).amount)) (rgE4 t n) (rgR t) (rgR t) Z1 Z2 Z3 False) := by
  refine @Eq.mpr _ (let q1 := t.M;
 let q2 := decide (0 ≤ (↑i : Int) ∧ (↑i : Int) < (↑q1 : Int));
 let q3 := t.outs (Int.toNat (↑i : Int));
 let q4 := q3.owner;
 let q5 := q3.other;
 let q6 := q3.point;
 let q7 := q3.hash;
 let q8 := q3.amount;
 let q9 := decide (t.num = t.num);
 let q10 := decide (t.N = t.N);
 let q11 := inRows t.ins;
 let q12 := q11 = q11;
 let q13 := decide (q1 = q1);
 let q14 := outRows t.outs;
 let q15 := q14 = q14;
 iteB (decide ((↑i : Int) < (↑q1 : Int))) (iteB q2 (iteB (decide (List.length q4 = 32 ∧ List.length q5 = 32 ∧ List.length q6 = 32 ∧ List.length q7 = 32)) ((Bytes q4 ∧ Bytes q5) ∧ iteB (!outRight (OutS.mk q3.kind q8 q4 q5 q6 q7 q3.delay q3.expiry)) (iteB q9 (iteB q10 (q12 ∧ iteB q10 (iteB q13 (q15 ∧ iteB q13 Z3 False) False) False) False) False) (iteB q2 (iteB (decide (IntKind.wrap IntKind.i64 ((↑i : Int) + 1) = (↑(i + 1) : Int))) (iteB (decide (IntKind.wrap IntKind.i64 (n + q8) = n + (t.outs i).amount)) (iteB q9 (iteB q10 (q12 ∧ iteB q10 (iteB q13 (q15 ∧ iteB q13 Z1 False) False) False) False) False) False) False) False)) False) False) (iteB (decide (n = n)) (iteB q9 (iteB q10 (q12 ∧ iteB q10 (iteB q13 (q15 ∧ iteB q13 Z2 False) False) False) False) False) False)) (by kernel_rfl) ?_
  conv => zeta
  try simp only [need_eq]
  try simp only [nope_eq]
  try simp only [iteD_eq]
  try simp only [iteT_eq]
  try simp only [iteF_eq]
  try simp only [iteE_eq]
  try simp only [Int.toNat_natCast, Nat.zero_add, true_and, and_true, Nat.le_refl]
  have hw : IntKind.i64.wrap ((i : Int) + 1) = ((i + 1 : Nat) : Int) := w64 (by omega)
  rw [hw]
  refine ⟨fun hlt => ?_, fun hge => ?_⟩
  · have hlt : i < t.M := by omega
    obtain ⟨e1, e2, e3, e4⟩ := ht.outs i hlt
    obtain ⟨b1, b2⟩ := hB hlt
    have h1 := h1 hlt
    have h3 := h3 hlt
    have hw2 : outRight (t.outs i) = true → IntKind.i64.wrap (n + (t.outs i).amount) = n + (t.outs i).amount := fun h => by
      have := (outRight_facts h).2
      exact w64 (by omega)
    refine ⟨by omega, ⟨e1, e2, e3, e4⟩, ⟨b1, b2⟩, fun q => h3 (by simpa using q), fun q => ⟨by omega, rfl, hw2 (by simpa using q), h1 (by simpa using q)⟩⟩
  · simp [h2 (by omega)]
noncomputable def E36a (t : TxS) : Env2 := E35.withL 16 2 (exLo fun i : Nat => goM 0 (rgS2 t i 0) (i < t.N ∧ t.N ≤ 24 ∧ t.Ok) (endsJ 2 i 9 (fun k => sameAt t.ins (t.ins i) k = false) (fun k => k = i) (fun k => k < i ∧ sameAt t.ins (t.ins i) k = true) (fun _ => False) (fun _ => rgS0 t i) (fun _ => rgR t) (fun _ => rgR t)))
theorem E36a_ok (t : TxS) : (E36a t).Ok :=
  Env2.withL_ex E35_ok fun i => Env2.withGoM (N := 20) E35_ok (by kernel_rfl) fun hC => ⟨rfl, fun k hk hgo => rg_2 t i k _ _ _ hC.1 hC.2.1 hk hC.2.2 (fun h1 h2 => ⟨h2, h1⟩) (fun h => h) (fun h1 h2 => ⟨h1, h2⟩)⟩
def okI (t : TxS) (i : Nat) : Bool := inRight (t.ins i) && !((List.range i).any (sameAt t.ins (t.ins i)))
set_option maxRecDepth 100000 in
set_option maxHeartbeats 0 in
theorem rg_0 (t : TxS) (i : Nat) (Z1 Z2 Z3 : Prop) (hi : i ≤ t.N) (hN : t.N ≤ 24) (ht : t.Ok) (h1 : i < t.N → okI t i = true → Z1) (h2 : i = t.N → Z2) (h3 : i < t.N → okI t i = false → Z3) :
    roundE (E36a t) 20 16 0 0 (rgS0 t i) (rdM 0 0 9 (rgS0 t (i + 1)) (rgE0 t) (rgR t) (rgR t) Z1 Z2 Z3 False) := by
  refine @Eq.mpr _ (let q1 := t.N;
 let q2 := t.ins (Int.toNat (↑i : Int));
 let q3 := q2.name;
 let q4 := q2.tag;
 let q5 := q2.also;
 let q6 := q2.secret;
 let q7 := decide (t.num = t.num);
 let q8 := decide (q1 = q1);
 let q9 := t.ins;
 let q10 := inRows q9;
 let q11 := q10 = q10;
 let q12 := decide (t.M = t.M);
 let q13 := outRows t.outs;
 let q14 := q13 = q13;
 let q15 := iteB q7 (iteB q8 (q11 ∧ iteB q8 (iteB q12 (q14 ∧ iteB q12 Z3 False) False) False) False) False;
 iteB (decide ((↑i : Int) < (↑q1 : Int))) (iteB (decide (0 ≤ (↑i : Int) ∧ (↑i : Int) < (↑q1 : Int))) (iteB (decide (List.length q3 = 32 ∧ List.length q4 = 32 ∧ List.length q5 = 32 ∧ List.length q6 = 32)) (iteB (!inRight (InS.mk q3 q2.index q2.way q4 q5 q6)) q15 (∃ (i_1 : Nat), iteB (decide ((↑i : Int) = (↑i_1 : Int))) (iteB q7 (iteB q8 (q11 ∧ iteB q8 (iteB q12 (q14 ∧ iteB q12 ((i_1 < q1 ∧ q1 ≤ 24 ∧ TxS.Ok t) ∧ ∀ (i_2 : Nat), i_2 ≤ i_1 → (∀ (j : Nat), j < i_2 → (fun (k : Nat) => sameAt q9 (q9 i_1) k = false) j) → (i_2 = i_1 → iteB (decide (IntKind.wrap IntKind.i64 ((↑i_1 : Int) + 1) = (↑(i + 1) : Int))) (iteB q7 (iteB q8 (q11 ∧ iteB q8 (iteB q12 (q14 ∧ iteB q12 Z1 False) False) False) False) False) False) ∧ (i_2 < i_1 ∧ sameAt q9 (q9 i_1) i_2 = true → q15) ∧ (False → iteB q7 (iteB q8 (q11 ∧ iteB q8 (iteB q12 (q14 ∧ iteB q12 False False) False) False) False) False)) False) False) False) False) False) False)) False) False)
 (iteB q7 (iteB q8 (q11 ∧ iteB q8 (iteB q12 (q14 ∧ iteB q12 Z2 False) False) False) False) False)) (by kernel_rfl) ?_
  conv => zeta
  try simp only [need_eq]
  try simp only [nope_eq]
  try simp only [iteD_eq]
  try simp only [iteT_eq]
  try simp only [iteF_eq]
  try simp only [iteE_eq]
  try simp only [Int.toNat_natCast, Nat.zero_add, true_and, and_true, Nat.le_refl]
  unfold okI at h1 h3
  refine ⟨fun hlt => ?_, fun hge => h2 (by omega)⟩
  have hlt : i < t.N := by omega
  obtain ⟨e1, e2, e3, e4⟩ := ht.ins i hlt
  have h1 := h1 hlt
  have h3 := h3 hlt
  refine ⟨by omega, ⟨e1, e2, e3, e4⟩, fun q => h3 ?_, fun q => ⟨i, rfl, ⟨hlt, hN, ht⟩, fun m hm hgo => ⟨fun hq => ⟨w64 (by omega), h1 ?_⟩, fun hq => h3 ?_, fun h => h⟩⟩⟩
  · have q : inRight (t.ins i) = false := by simpa using q
    rw [q, Bool.false_and]
  · subst hq
    have q : inRight (t.ins m) = true := by simpa using q
    rw [q, Bool.true_and]
    simp only [Bool.not_eq_true', List.any_eq_false, List.mem_range]
    intro j hj
    rw [hgo j hj]
    decide
  · have : (List.range i).any (sameAt t.ins (t.ins i)) = true := by
      rw [List.any_eq_true]
      exact ⟨m, by simpa using hq.1, hq.2⟩
    rw [this, Bool.not_true, Bool.and_false]
def sumO (t : TxS) (i : Nat) : Int := (amL t.outs i).sum
structure TxB (t : TxS) : Prop where
  h : ∀ i, i < t.M → Bytes (t.outs i).owner ∧ Bytes (t.outs i).other
theorem sumO_le {t : TxS} : ∀ i, (∀ j, j < i → outRight (t.outs j) = true) → 0 ≤ sumO t i ∧ sumO t i ≤ i * 1125899906842624
  | 0, _ => by simp [sumO, amL]
  | i + 1, h => by
    have h1 := sumO_le i (fun j hj => h j (by omega))
    have h2 := (outRight_facts (h i (by omega))).2.1
    have e : sumO t (i + 1) = sumO t i + (t.outs i).amount := by unfold sumO; rw [amL_succ]; simp
    omega
theorem sumO_succ (t : TxS) (i : Nat) : sumO t (i + 1) = sumO t i + (t.outs i).amount := by unfold sumO; rw [amL_succ]; simp
def rgL0 (t : TxS) : Nat → St → KE → Prop := goM 0 (rgS0 t 0) (t.N ≤ 24 ∧ t.Ok) (endsJ 0 t.N 9 (fun i => okI t i = true) (fun i => i = t.N) (fun i => i < t.N ∧ okI t i = false) (fun _ => False) (fun _ => rgE0 t) (fun _ => rgR t) (fun _ => rgR t))
def rgL4 (t : TxS) : Nat → St → KE → Prop := goM 0 (rgS4 t 0 0) (t.M ≤ 24 ∧ t.Ok ∧ TxB t) (endsJ 4 t.M 9 (fun i => outRight (t.outs i) = true) (fun i => i = t.M) (fun i => i < t.M ∧ outRight (t.outs i) = false) (fun _ => False) (fun i => rgE4 t (sumO t i)) (fun _ => rgR t) (fun _ => rgR t))
noncomputable def E36b (t : TxS) : Env2 := ((E36a t).withL 16 0 (rgL0 t)).withL 16 4
  (rgL4 t)
theorem E36b_ok (t : TxS) : (E36b t).Ok := by
  have h1 : ((E36a t).withL 16 0 (rgL0 t)).Ok :=
    Env2.withGoM (N := 20) (S := rgS0 t) (E36a_ok t) (by kernel_rfl) fun hC => ⟨rfl, fun i hi hgo => rg_0 t i _ _ _ hi hC.1 hC.2 (fun h1 h2 => ⟨h2, h1⟩) (fun h => h) (fun h1 h2 => ⟨h1, h2⟩)⟩
  have h2 : (E35.withL 16 4 (rgL4 t)).Ok := by
    refine Env2.withGoM (N := 20) (S := fun i => rgS4 t i (sumO t i)) E35_ok (by kernel_rfl) fun hC => ⟨by show rgS4 t 0 (sumO t 0) = _; unfold sumO amL; rfl, fun i hi hgo => ?_⟩
    show roundE E35 20 16 4 0 (rgS4 t i (sumO t i)) (rdM 0 4 9 (rgS4 t (i + 1) (sumO t (i + 1))) _ _ _ _ _ _ _)
    rw [sumO_succ]
    exact rg_4 t i (sumO t i) _ _ _ hC.1 hi hC.2.1 (sumO_le i hgo) (fun h => hC.2.2.h i h) (fun h1 h2 => ⟨h2, h1⟩) (fun h => h) (fun h1 h2 => ⟨h1, h2⟩)
  exact Env2.withL_join (H := E35) h1 rfl h2
def rightR (t : TxS) : Bool := decide (0 ≤ t.num ∧ t.num ≤ 2147483647) && decide (1 ≤ t.N ∧ t.N ≤ 24) && decide (1 ≤ t.M ∧ t.M ≤ 24) && (List.range t.N).all (okI t) && (List.range t.M).all (fun i => outRight (t.outs i)) && decide (sumO t t.M ≤ 1125899906842624)
set_option maxRecDepth 100000 in
set_option maxHeartbeats 0 in
theorem rg_t (t : TxS) (b : Bool) (ht : t.Ok) (hb : TxB t) (h : b = rightR t) :
    evF (E36b t) 20 16 [.agg t.c] ⟨0, []⟩ (outK 0 [] (.bool b) 0 []) := by
  refine @Eq.mpr _ (let q1 := t.num;
 let q2 := iteB (decide (false = b)) True False;
 let q3 := t.N;
 let q4 := (↑q3 : Int);
 let q5 := t.M;
 let q6 := (↑q5 : Int);
 let q7 := decide (q1 = q1);
 let q8 := decide (q3 = q3);
 let q9 := inRows t.ins;
 let q10 := q9 = q9;
 let q11 := decide (q5 = q5);
 let q12 := outRows t.outs;
 let q13 := q12 = q12;
 iteB (decide (q1 ≥ 0)) (iteB (!decide (q1 ≤ 2147483647)) q2 (iteB (decide (q4 < 1)) q2 (iteB (decide (q4 > 24)) q2 (iteB (decide (q6 < 1)) q2 (iteB (decide (q6 > 24)) q2 (iteB q7 (iteB q8 (q10 ∧ iteB q8 (iteB q11 (q13 ∧ iteB q11 ((q3 ≤ 24 ∧ TxS.Ok t) ∧ ∀ (i : Nat), i ≤ q3 → (∀ (j : Nat), j < i → (fun (i : Nat) => okI t i = true) j) → (i = q3 → iteB q7 (iteB q8 (q10 ∧ iteB q8 (iteB q11 (q13 ∧ iteB q11 ((q5 ≤ 24 ∧ TxS.Ok t ∧ TxB t) ∧ ∀ (i : Nat), i ≤ q5 → (∀ (j : Nat), j < i → (fun (i : Nat) => outRight (t.outs i) = true) j) → (i = q5 → iteB (decide (sumO t i ≥ 0)) (iteB (decide (decide (sumO t i ≤ 1125899906842624) = b)) True False) q2) ∧ (i < q5 ∧ outRight (t.outs i) = false → q2) ∧ (False → False)) False) False) False) False) False) ∧ (i < q3 ∧ okI t i = false → q2) ∧ (False → False)) False) False) False) False) False)))))) q2) (by kernel_rfl) ?_
  conv => zeta
  try simp only [need_eq]
  try simp only [nope_eq]
  try simp only [iteD_eq]
  try simp only [iteT_eq]
  try simp only [iteF_eq]
  try simp only [iteE_eq]
  try simp only [Int.toNat_natCast, Nat.zero_add, true_and, and_true, Nat.le_refl]
  subst h
  have hF : rightR t = false → false = rightR t := fun h => by rw [h]
  refine ⟨fun a1 => ⟨fun a2 => hF ?_, fun a2 => ⟨fun a3 => hF ?_, fun a3 => ⟨fun a4 => hF ?_, fun a4 => ⟨fun a5 => hF ?_, fun a5 => ⟨fun a6 => hF ?_, fun a6 => ⟨⟨by omega, ht⟩, fun i hi hgo => ⟨fun hq => ⟨⟨by omega, ht, hb⟩, fun m hm hgm => ⟨fun hr => ⟨fun a7 => ?_, fun a7 => ?_⟩, fun hr => hF ?_, fun h => h⟩⟩, fun hq => hF ?_, fun h => h⟩⟩⟩⟩⟩⟩⟩, fun a1 => hF ?_⟩
  · unfold rightR; rw [decide_eq_false (p := 0 ≤ t.num ∧ _) (by simp at a2; omega)]; simp
  · unfold rightR; rw [decide_eq_false (p := 1 ≤ t.N ∧ _) (by omega)]; simp
  · unfold rightR; rw [decide_eq_false (p := 1 ≤ t.N ∧ _) (by omega)]; simp
  · unfold rightR; rw [decide_eq_false (p := 1 ≤ t.M ∧ _) (by omega)]; simp
  · unfold rightR; rw [decide_eq_false (p := 1 ≤ t.M ∧ _) (by omega)]; simp
  · subst hq hr
    have e1 : (List.range t.N).all (okI t) = true := by
      rw [List.all_eq_true]; intro j hj; exact hgo j (by simpa using hj)
    have e2 : (List.range t.M).all (fun i => outRight (t.outs i)) = true := by
      rw [List.all_eq_true]; intro j hj; exact hgm j (by simpa using hj)
    unfold rightR
    rw [e1, e2, decide_eq_true (p := 0 ≤ t.num ∧ _) (by simp at a2; omega), decide_eq_true (p := 1 ≤ t.N ∧ _) (by omega), decide_eq_true (p := 1 ≤ t.M ∧ _) (by omega)]
    simp
  · exact absurd (sumO_le m hgm).1 a7
  · unfold rightR
    have : (List.range t.M).all (fun i => outRight (t.outs i)) = false := by
      rw [List.all_eq_false]; exact ⟨m, by simpa using hr.1, by simp [hr.2]⟩
    rw [this]; simp
  · unfold rightR
    have : (List.range t.N).all (okI t) = false := by
      rw [List.all_eq_false]; exact ⟨i, by simpa using hq.1, by simp [hq.2]⟩
    rw [this]; simp
  · unfold rightR; rw [decide_eq_false (p := 0 ≤ t.num ∧ _) (by omega)]; simp
theorem sameAt_iff {g : Nat → InS} {x : InS} {j : Nat} : sameAt g x j = true ↔ (g j).name = x.name ∧ (g j).index = x.index := by
  unfold sameAt sameO; simp
theorem twiceI_iff {N : Nat} {g : Nat → InS} {i : Nat} (hi : i < N) : twiceI N g (g i) = true ↔ ∃ j, j < N ∧ j ≠ i ∧ sameAt g (g i) j = true := by
  have hself : sameAt g (g i) i = true := sameAt_iff.2 ⟨rfl, rfl⟩
  unfold twiceI
  rcases findP_cases (sameAt g (g i)) N with ⟨_, hn⟩ | ⟨f, hf, ef, pf, hb⟩
  · rw [hn i hi] at hself; cases hself
  rcases findP_cases (sameAt (revI N g) (g i)) N with ⟨_, hn⟩ | ⟨l, hl, el, pl, hb'⟩
  · have := hn (N - 1 - i) (by omega)
    have e : sameAt (revI N g) (g i) (N - 1 - i) = sameAt g (g i) i := by unfold sameAt revI; congr 1; congr 1; omega
    rw [e, hself] at this; cases this
  have er : ∀ q, q < N → sameAt (revI N g) (g i) q = sameAt g (g i) (N - 1 - q) := fun q _ => rfl
  rw [er l hl] at pl
  rw [ef, el, bne_iff_ne]
  have hfi : f ≤ i := by
    rcases Nat.lt_or_ge i f with h | h
    · rw [hb i h] at hself; cases hself
    · exact h
  have hli : i ≤ N - 1 - l := by
    rcases Nat.lt_or_ge (N - 1 - i) l with h | h
    · have := hb' _ h
      rw [er _ (by omega), show N - 1 - (N - 1 - i) = i by omega, hself] at this; cases this
    · omega
  constructor
  · intro h
    rcases Nat.lt_or_ge f i with h1 | h1
    · exact ⟨f, hf, by omega, pf⟩
    · exact ⟨N - 1 - l, by omega, by omega, pl⟩
  · rintro ⟨j, hj, hne, pj⟩ h
    rcases Nat.lt_or_ge j f with h1 | h1
    · rw [hb j h1] at pj; cases pj
    · have := hb' (N - 1 - j) (by omega)
      rw [er _ (by omega), show N - 1 - (N - 1 - j) = j by omega, pj] at this; cases this
theorem allIn_amL {t : TxS} (h : ∀ j, j < t.M → outRight (t.outs j) = true) : allIn 1125899906842624 (amL t.outs t.M) = true := by
  unfold allIn
  rw [Bool.not_eq_true', List.any_eq_false]
  intro j hj
  have hj : j < t.M := by simpa [amL_len] using hj
  have := (outRight_facts (h j hj)).2.1
  have e : (amL t.outs t.M).getD j 0 = (t.outs j).amount := by simp [amL, List.getD_eq_getElem?_getD, hj]
  unfold overAt
  rw [e]
  unfold overI
  simp
  omega
theorem rightR_ck (t : TxS) : rightR t = ckTx addM t := by
  rw [Bool.eq_iff_iff]
  unfold rightR ckTx
  simp only [Bool.and_eq_true, decide_eq_true_eq, List.all_eq_true, List.mem_range, Bool.not_eq_true', List.any_eq_false, beq_iff_eq]
  constructor
  · rintro ⟨⟨⟨⟨⟨h1, h2⟩, h3⟩, h4⟩, h5⟩, h6⟩
    refine ⟨⟨⟨⟨⟨h1, h2⟩, h3⟩, fun i hi => ?_⟩, fun i hi => ?_⟩, ?_⟩
    · have h := h4 i hi
      unfold okI at h
      simp only [Bool.and_eq_true, Bool.not_eq_true', List.any_eq_false, List.mem_range] at h
      unfold wrongAt wrongI
      rw [h.1, Bool.not_true, Bool.false_or]
      intro hq
      obtain ⟨j, hj, hne, hs⟩ := (twiceI_iff hi).1 hq
      rcases Nat.lt_or_gt_of_ne hne with h0 | h0
      · exact h.2 j h0 hs
      · have h' := h4 j hj
        unfold okI at h'
        simp only [Bool.and_eq_true, Bool.not_eq_true', List.any_eq_false, List.mem_range] at h'
        refine h'.2 i h0 ?_
        rw [sameAt_iff] at hs ⊢
        exact ⟨hs.1.symm, hs.2.symm⟩
    · unfold wrongOAt wrongO
      rw [h5 i hi]
      decide
    · unfold addM
      unfold sumO at h6; rw [if_pos (allIn_amL h5), if_pos h6]
  · rintro ⟨⟨⟨⟨⟨h1, h2⟩, h3⟩, h4⟩, h5⟩, h6⟩
    have h5' : ∀ j, j < t.M → outRight (t.outs j) = true := fun j hj => by
      have := h5 j hj
      unfold wrongOAt wrongO at this
      simpa using this
    refine ⟨⟨⟨⟨⟨h1, h2⟩, h3⟩, fun i hi => ?_⟩, h5'⟩, ?_⟩
    · have h := h4 i hi
      unfold wrongAt wrongI at h
      simp only [Bool.or_eq_true, not_or, Bool.not_eq_true', Bool.not_eq_false, Bool.not_eq_true] at h
      unfold okI
      rw [h.1, Bool.true_and]
      simp only [Bool.not_eq_true', List.any_eq_false, List.mem_range]
      intro j hj hs
      have := (twiceI_iff hi).2 ⟨j, by omega, by omega, hs⟩
      rw [h.2] at this; cases this
    · unfold addM at h6
      rw [if_pos (allIn_amL h5')] at h6
      split at h6
      · assumption
      · cases h6
def rightS (A : List Int → Int × Int) : PSumm := fun args h K => viewL none h true 20 args fun a => match a with
  | [.agg l] => ∃ t, isTx l t ∧ t.Ok ∧ TxB t ∧ K (.bool (ckTx A t))
  | _ => False
theorem rightS_ok (args : List AV) (h : Heap) (K : AV → Prop) (hl : rightS addM args h K) : CallsA PP 16 args h fun o h' => ∃ v, o = .ret v ∧ h' = h ∧ K v := by
  refine Pure.psumm (d := 20) (viewL_weak _ _ _ _ _ hl fun a ha => ?_)
  split at ha
  · obtain ⟨t, h1, h2, h3, hK⟩ := ha
    refine ⟨_, (Pure.ev (E36b_ok t) (rg_t t _ h2 h3 rfl)).conv fun E r hr => hr.head (fun _ hc => h1.rel hc) (fun _ hc => hc), fun _ => rfl, ?_⟩
    rw [rightR_ck]
    exact hK
  · exact ha.elim
end Go.Tk
end
section
namespace Go.Tk
theorem Bytes.take {xs : List Int} (h : Bytes xs) (n : Nat) : Bytes (xs.take n) := ⟨fun i => by
  have := h.h i
  rw [List.getD_eq_getElem?_getD] at this ⊢
  rw [List.getElem?_take]
  split
  · exact this
  · simp⟩
end Go.Tk
end
section
namespace Go.Tk
end Go.Tk
end
section
namespace Go.Tk
theorem rdN_nil {most : Int} : rdN (firstB numW) [] 0 most = none := by
  unfold rdN
  rw [firstB_nil (by rfl)]
  rw [if_neg (by simp)]
theorem parseT_nil : parseT (firstB numW) addM [] = none := by
  unfold parseT
  rw [rdN_nil]
  rfl
def parseN (R : List Int → Option TxS) : FSumm := fun args h K => match args with
  | [.nilslice] => K (.ret zeroTx) ⟨h.next, h.bs⟩
  | _ => parseS R args h K
theorem Pure.nil0 {P : Program} {f : FuncId} {v : AV} {nx : Nat} {bs : List (Nat × Blk)} (h : Pure P f [.vints .u8 [] 0] v nx bs) : Pure P f [.nilslice] v nx bs := by
  intro E w rs he hr
  cases hr with
  | cons v r vs rs hv ht => cases ht with
    | nil => cases hv; exact h E w _ he (.cons _ _ _ _ (.vintsNil _ _ _ rfl rfl) .nil)
theorem parseN_ok (args : List AV) (h : Heap) (K : KO) (hl : parseN (parseT (firstB numW) addM) args h K) : CallsA PP 11 args h K := by
  unfold parseN at hl
  split at hl
  · have hp := ((parse_pure [] 0 rfl (by decide)).2 parseT_nil).nil0
    exact hp.calls (v' := zeroTx) (fun E w rs he hr => by cases hr with | cons v r vs rs hv ht => cases ht with | nil => cases hv; exact .cons _ _ _ _ .nilslice .nil) rfl trivial hl
  · exact parseS_ok _ _ _ hl
noncomputable def E39 (A : List Int → Int × Int) (Tg : List Int → TxS → List Int) (P : List Int → Option TxS) (F : TxS → Int → OutS → Int → Int → Int) : Env2 :=
  (((G0.withP 30 (ckS A)).withP 19 (txtagS A Tg)).withF 11 (parseN P)).withP 23 (spendS F)
theorem E39_ok : (E39 addM tagT' (parseT (firstB numW) addM) (spendF addM nameT hmac1 sha1 pointH outRight)).Ok :=
  Env2.withP_ok (Env2.withF_ok (Env2.withP_ok (Env2.withP_ok G0_ok ckS_ok) txtagS_ok) parseN_ok) spendS_ok
def oneO : OutS := ⟨1, 5, zero32, zero32, zero32, zero32, 0, 0⟩
def oneT (w : Int) (tg : List Int) : TxS := ⟨0, 1, fun _ => ⟨zero32, 0, w, tg, zero32, zero32⟩, 1, fun _ => oneO⟩
def noneT : TxS := ⟨0, 0, fun _ => inZ, 1, fun _ => oneO⟩
def key7 : List Int := 7 :: List.replicate 31 0
def outL7 : OutS := ⟨3, 6, key7, zero32, zero32, zero32, 3, 0⟩
theorem all1 {p : Nat → Prop} (h : p 0) : ∀ i, i < 1 → p i := fun i hi => by
  obtain rfl : i = 0 := by omega
  exact h
theorem oneO_ok : oneO.Ok := ⟨rfl, rfl, rfl, rfl⟩
theorem oneT_ok (w : Int) {tg : List Int} (h : tg.length = 32) : (oneT w tg).Ok := ⟨by show 1 < _; omega, by show 1 < _; omega, fun _ _ => ⟨rfl, h, rfl, rfl⟩, fun _ _ => oneO_ok⟩
theorem noneT_ok : noneT.Ok := ⟨by show 0 < _; omega, by show 1 < _; omega, fun _ _ => inZ_ok, fun _ _ => oneO_ok⟩
theorem outL7_ok : outL7.Ok := ⟨rfl, rfl, rfl, rfl⟩
set_option maxRecDepth 100000 in
set_option maxHeartbeats 0 in
theorem works_1 (A : List Int → Int × Int) (Tg : List Int → TxS → List Int) (P : List Int → Option TxS) (F : TxS → Int → OutS → Int → Int → Int) (hTl : ∀ k t, (Tg k t).length = 32) (c1 : ckTx A (oneT 3 zero32) = true) (c2 : ckTx A noneT = false) (f1 : F (oneT 3 (Tg key7 (oneT 3 zero32))) 0 outL7 10 12 = 171) (f2 : F (oneT 3 (Tg key7 (oneT 3 zero32))) 0 outL7 10 13 = 0) (f3 : F (oneT 4 zero32) 0 oneO 0 0 = 171) :
    evF (E39 A Tg P F) 20 10 [] ⟨0, []⟩ (outV (fun v => v = .bool true)) := by
  refine @Eq.mpr _ (let q1 := AV.arr IntKind.u8 32 zero32;
 let q2 := AV.int IntKind.i64 0;
 let q3 := AV.int IntKind.i64 3;
 let q4 := [q1, q1];
 let q5 := q1 :: q4;
 let q6 := [q2];
 let q7 := AV.int IntKind.i64 1 :: AV.int IntKind.i64 5 :: q1 :: q1 :: q1 :: q1 :: q2 :: q6;
 let q8 := AV.bool false = AV.bool true;
 let q9 := [(7 : Int), 0, 0, 0, 0, 0, 0, 0, 0, 0, 0, 0, 0, 0, 0, 0, 0, 0, 0, 0, 0, 0, 0, 0, 0, 0, 0, 0, 0, 0, 0, 0];
 let q10 := (-9223372036854775808 : Int) ≤ 10 ∧ (10 : Int) < 9223372036854775808;
 let q11 := (-9223372036854775808 : Int) ≤ 0 ∧ (0 : Int) < 9223372036854775808;
 ∃ (t : TxS),
 (t.num = 0 ∧ (((1 : Nat) = 1 ∧ t.N = 1) ∧ ∀ (i : Nat), i < 1 → rowC (q1 :: q2 :: q3 :: q5) 0 130 i = InS.c (t.ins i)) ∧ ((1 : Nat) = 1 ∧ t.M = 1) ∧ ∀ (i : Nat), i < 1 → rowC q7 0 132 i = OutS.c (t.outs i)) ∧
 (TxS.Ok t ∧ (32 : Nat) = 32) ∧
 iteB (ckTx A t)
 (∃ (t_1 : TxS),
 (t_1.num = 0 ∧ t_1.N = 0 ∧ ((1 : Nat) = 1 ∧ t_1.M = 1) ∧ ∀ (i : Nat), i < 1 → rowC q7 0 132 i = OutS.c (t_1.outs i)) ∧
 TxS.Ok t_1 ∧
 iteB (ckTx A t_1) q8
 (∃ (t_2 : TxS),
 ∃ (o : OutS),
 let q23 := q3 :: AV.int IntKind.i64 6 :: AV.arr IntKind.u8 32 q9 :: q1 :: q1 :: q1 :: q3 :: q6;
 (t_2.num = 0 ∧ (((1 : Nat) = 1 ∧ t_2.N = 1) ∧ ∀ (i : Nat), i < 1 → rowC (q1 :: q2 :: q3 :: AV.arr IntKind.u8 32 (Tg q9 t) :: q4) 0 130 i = InS.c (t_2.ins i)) ∧ ((1 : Nat) = 1 ∧ t_2.M = 1) ∧ ∀ (i : Nat), i < 1 → rowC q7 0 132 i = OutS.c (t_2.outs i)) ∧
 q23 = OutS.c o ∧
 (TxS.Ok t_2 ∧ OutS.Ok o ∧ q10 ∧ (-9223372036854775808 : Int) ≤ 12 ∧ (12 : Int) < 9223372036854775808) ∧ iteB (F t_2 0 o 10 12 == 171) (∃ (t_3 : TxS), ∃ (o : OutS), (t_3.num = 0 ∧ (((1 : Nat) = 1 ∧ t_3.N = 1) ∧ ∀ (i : Nat), i < 1 → rowC (q1 :: q2 :: q3 :: AV.arr IntKind.u8 32 (Tg q9 t) :: q4) 0 130 i = InS.c (t_3.ins i)) ∧ ((1 : Nat) = 1 ∧ t_3.M = 1) ∧ ∀ (i : Nat), i < 1 → rowC q7 0 132 i = OutS.c (t_3.outs i)) ∧ q23 = OutS.c o ∧ (TxS.Ok t_3 ∧ OutS.Ok o ∧ q10 ∧ (-9223372036854775808 : Int) ≤ 13 ∧ (13 : Int) < 9223372036854775808) ∧ iteB (F t_3 0 o 10 13 == 0) (zero32 = zero32 ∧ zero32 = zero32 ∧ zero32 = zero32 ∧ zero32 = zero32 ∧ ∃ (t : TxS), ∃ (o : OutS), (t.num = 0 ∧ (((1 : Nat) = 1 ∧ t.N = 1) ∧ ∀ (i : Nat), i < 1 → rowC (q1 :: q2 :: AV.int IntKind.i64 4 :: q5) 0 130 i = InS.c (t.ins i)) ∧ ((1 : Nat) = 1 ∧ t.M = 1) ∧ ∀ (i : Nat), i < 1 → rowC q7 0 132 i = OutS.c (t.outs i)) ∧ q7 = OutS.c o ∧ (TxS.Ok t ∧ OutS.Ok o ∧ q11 ∧ q11) ∧ AV.bool (F t 0 o 0 0 == 171) = AV.bool true) q8) q8))
 (∃ (t : TxS),
 (t.num = 0 ∧ t.N = 0 ∧ ((1 : Nat) = 1 ∧ t.M = 1) ∧ ∀ (i : Nat), i < 1 → rowC q7 0 132 i = OutS.c (t.outs i)) ∧
 TxS.Ok t ∧
 iteB (ckTx A t) q8
 (∃ (t : TxS),
 ∃ (o : OutS),
 let q23 := q3 :: AV.int IntKind.i64 6 :: AV.arr IntKind.u8 32 q9 :: q1 :: q1 :: q1 :: q3 :: q6;
 (t.num = 0 ∧ (((1 : Nat) = 1 ∧ t.N = 1) ∧ ∀ (i : Nat), i < 1 → rowC (q1 :: q2 :: q3 :: q5) 0 130 i = InS.c (t.ins i)) ∧ ((1 : Nat) = 1 ∧ t.M = 1) ∧ ∀ (i : Nat), i < 1 → rowC q7 0 132 i = OutS.c (t.outs i)) ∧
 q23 = OutS.c o ∧ (TxS.Ok t ∧ OutS.Ok o ∧ q10 ∧ (-9223372036854775808 : Int) ≤ 12 ∧ (12 : Int) < 9223372036854775808) ∧ iteB (F t 0 o 10 12 == 171) (∃ (t : TxS), ∃ (o : OutS), (t.num = 0 ∧ (((1 : Nat) = 1 ∧ t.N = 1) ∧ ∀ (i : Nat), i < 1 → rowC (q1 :: q2 :: q3 :: q5) 0 130 i = InS.c (t.ins i)) ∧ ((1 : Nat) = 1 ∧ t.M = 1) ∧ ∀ (i : Nat), i < 1 → rowC q7 0 132 i = OutS.c (t.outs i)) ∧ q23 = OutS.c o ∧ (TxS.Ok t ∧ OutS.Ok o ∧ q10 ∧ (-9223372036854775808 : Int) ≤ 13 ∧ (13 : Int) < 9223372036854775808) ∧ iteB (F t 0 o 10 13 == 0) (zero32 = zero32 ∧ zero32 = zero32 ∧ zero32 = zero32 ∧ zero32 = zero32 ∧ ∃ (t : TxS), ∃ (o : OutS), (t.num = 0 ∧ (((1 : Nat) = 1 ∧ t.N = 1) ∧ ∀ (i : Nat), i < 1 → rowC (q1 :: q2 :: AV.int IntKind.i64 4 :: q5) 0 130 i = InS.c (t.ins i)) ∧ ((1 : Nat) = 1 ∧ t.M = 1) ∧ ∀ (i : Nat), i < 1 → rowC q7 0 132 i = OutS.c (t.outs i)) ∧ q7 = OutS.c o ∧ (TxS.Ok t ∧ OutS.Ok o ∧ q11 ∧ q11) ∧ AV.bool (F t 0 o 0 0 == 171) = AV.bool true) q8) q8))) (by kernel_rfl) ?_
  conv => zeta
  try simp only [need_eq]
  try simp only [nope_eq]
  try simp only [iteD_eq]
  try simp only [iteT_eq]
  try simp only [iteF_eq]
  try simp only [iteE_eq]
  try simp only [Int.toNat_natCast, Nat.zero_add, true_and, and_true, Nat.le_refl]
  refine ⟨oneT 3 zero32, ⟨rfl, ⟨rfl, all1 rfl⟩, rfl, all1 rfl⟩, oneT_ok _ rfl, fun _ => ?_, fun h => (by rw [c1] at h; cases h)⟩
  refine ⟨noneT, ⟨rfl, rfl, rfl, all1 rfl⟩, noneT_ok, fun h => (by rw [c2] at h; cases h), fun _ => ?_⟩
  refine ⟨oneT 3 (Tg key7 (oneT 3 zero32)), outL7, ⟨rfl, ⟨rfl, all1 rfl⟩, rfl, all1 rfl⟩, rfl, ?_, ?_, ?_⟩
  · exact ⟨oneT_ok _ (hTl _ _), outL7_ok, ⟨by omega, by omega⟩, by omega, by omega⟩
  rotate_left
  · intro h; rw [f1] at h; cases h
  intro _
  refine ⟨oneT 3 (Tg key7 (oneT 3 zero32)), outL7, ⟨rfl, ⟨rfl, all1 rfl⟩, rfl, all1 rfl⟩, rfl, ?_, ?_, ?_⟩
  · exact ⟨oneT_ok _ (hTl _ _), outL7_ok, ⟨by omega, by omega⟩, by omega, by omega⟩
  rotate_left
  · intro h; rw [f2] at h; cases h
  intro _
  refine ⟨oneT 4 zero32, oneO, ⟨rfl, ⟨rfl, all1 rfl⟩, rfl, all1 rfl⟩, rfl, ⟨oneT_ok _ rfl, oneO_ok, ⟨by omega, by omega⟩, by omega, by omega⟩, ?_⟩
  rw [f3]; rfl
theorem oneO_right : outRight oneO = true := by unfold outRight; decide
theorem outL7_right : outRight outL7 = true := by unfold outRight; decide
theorem oneT_ck {w : Int} {tg : List Int} (h : inRight ⟨zero32, 0, w, tg, zero32, zero32⟩ = true) : ckTx addM (oneT w tg) = true := by
  rw [← rightR_ck]
  unfold rightR
  have e1 : (List.range (oneT w tg).N).all (okI (oneT w tg)) = true := by
    rw [List.all_eq_true]
    intro i hi
    obtain rfl : i = 0 := by have : i < (oneT w tg).N := by simpa using hi
                             have e : (oneT w tg).N = 1 := rfl
                             omega
    show (inRight ⟨zero32, 0, w, tg, zero32, zero32⟩ && !((List.range 0).any _)) = true
    rw [h]; rfl
  have e2 : (List.range (oneT w tg).M).all (fun i => outRight ((oneT w tg).outs i)) = true := by
    rw [List.all_eq_true]
    intro i hi
    exact oneO_right
  rw [e1, e2]
  rfl
theorem in3_right (tg : List Int) : inRight ⟨zero32, 0, 3, tg, zero32, zero32⟩ = true := by
  unfold inRight; simp
theorem in4_right : inRight ⟨zero32, 0, 4, zero32, zero32, zero32⟩ = true := by
  unfold inRight; decide
theorem noneT_ck : ckTx addM noneT = false := by
  rw [← rightR_ck]
  unfold rightR
  have e : decide (1 ≤ noneT.N ∧ noneT.N ≤ 24) = false := rfl
  rw [e]; simp
theorem oneT_name (tg : List Int) : nameT (oneT 3 tg) = nameT (oneT 3 zero32) := by
  unfold nameT rawT rawO rawI
  rfl
theorem works_calls (h : Heap) (K : AV → Prop) (hK : K (.bool true)) : CallsA PP 10 [] h fun o h' => ∃ v, o = .ret v ∧ h' = h ∧ K v := by
  refine outV_ev E39_ok rfl (works_1 _ _ _ _ tagT'_len (oneT_ck (in3_right _)) noneT_ck ?_ ?_ ?_) (fun u hu => hu ▸ hK)
  · rw [spendF_n (by rw [oneT_ck (in3_right _), outL7_right]; decide)]
    rw [if_neg]
    unfold rightI
    simp [outL7, oneT]
  · rw [spendF_n (by rw [oneT_ck (in3_right _), outL7_right]; decide)]
    rw [if_pos]
    rw [oneT_name]
    unfold rightI tagT' nameT
    simp [outL7, oneT]
  · rw [spendF_n (by rw [oneT_ck in4_right, oneO_right]; decide)]
    rw [if_neg]
    unfold rightI
    simp [oneO, oneT]
end Go.Tk
end
section
namespace Go.Tk
end Go.Tk
end
section
namespace Go.Tk
def worksS : PSumm := fun args _ K => match args with
  | [] => K (.bool true)
  | _ => False
theorem worksS_ok (args : List AV) (h : Heap) (K : AV → Prop) (hl : worksS args h K) : CallsA PP 10 args h fun o h' => ∃ v, o = .ret v ∧ h' = h ∧ K v := by
  unfold worksS at hl
  split at hl
  · exact works_calls h K hl
  · exact hl.elim
end Go.Tk
end
section
namespace Go.Tk
noncomputable def E44 (W : Int → List Int) : Env2 := G0.withF 149 (numRS W)
theorem E44_ok : (E44 numW).Ok := Env2.withF_ok G0_ok numRS_ok
def rbS (t : TxS) (core : Bool) (i : Nat) (xs : List Int) (n : Nat) : St := ⟨133, [(6, .int .i64 i), (2, .ptr (some ⟨0, 0, 0, 0, 0⟩)), (5, .nslice ⟨4, 0, 0, 0, 0⟩ 1 n n), (1, .bool core)], ⟨5, [(4, .ints .u8 xs), (0, .flat t.c)]⟩, []⟩
def rbR (t : TxS) (xs : List Int) (n : Nat) : St := ⟨133, [(2, .ptr (some ⟨0, 0, 0, 0, 0⟩)), (5, .nslice ⟨4, 0, 0, 0, 0⟩ 1 n n)], ⟨5, [(4, .ints .u8 xs), (0, .flat t.c)]⟩, []⟩
def rbS2 (t : TxS) (i : Nat) (xs : List Int) (n : Nat) : St := ⟨133, [(9, .int .i64 i), (2, .ptr (some ⟨0, 0, 0, 0, 0⟩)), (5, .nslice ⟨4, 0, 0, 0, 0⟩ 1 n n)], ⟨5, [(4, .ints .u8 xs), (0, .flat t.c)]⟩, []⟩
theorem take_dropZ0 (xs : List Int) : List.take xs.length (dropZ 0 xs) = xs := by rw [dropZ_eq, List.drop_zero, List.take_length]
set_option maxRecDepth 100000 in
set_option maxHeartbeats 0 in
theorem rbi_1 (W : Int → List Int) (t : TxS) (i : Nat) (xs ys : List Int) (n m : Nat) (Z1 Z2 : Prop) (ht : t.Ok) (hi : i ≤ t.N) (hr : ∀ j, j < t.N → inRight (t.ins j) = true) (hW : W = numW) (hn : xs.length = n) (hs : n < 10000000000000) (hy : ys = xs ++ inW W true (t.ins i)) (hm : ys.length = m) (h1 : i < t.N → Z1) (h2 : i = t.N → Z2) :
    roundE (E44 W) 20 48 0 0 (rbS t true i xs n) (rdM 0 0 9 (rbS t true (i + 1) ys m) (rbR t xs n) (rbR t xs n) (rbR t xs n) Z1 Z2 False False) := by
  refine @Eq.mpr _ (let q1 := t.N;
 let q2 := t.ins (Int.toNat (↑i : Int));
 let q3 := q2.name;
 let q4 := xs ++ q3;
 let q5 := List.length q4;
 let q6 := q2.index;
 let q7 := W q6;
 let q8 := List.length q7;
 let q9 := q4 ++ List.take q8 (dropZ 0 q7);
 let q10 := List.length q9;
 let q11 := decide (t.num = t.num);
 let q12 := decide (q1 = q1);
 let q13 := inRows t.ins;
 let q14 := q13 = q13;
 let q15 := decide (t.M = t.M);
 let q16 := outRows t.outs;
 let q17 := q16 = q16;
 iteB (decide ((↑i : Int) < (↑q1 : Int))) (iteB (decide (0 ≤ (↑i : Int) ∧ (↑i : Int) < (↑q1 : Int))) (iteB (decide (IntKind.u8 = IntKind.u8 ∧ List.length q3 = 32)) (iteB (decide (IntKind.u8 = IntKind.u8 ∧ List.length xs = n)) (iteB (decide (q5 * 1 ≤ 140737488355328)) (iteB (decide (q6 = q6)) (iteB (decide (0 ≤ q6)) (iteB (decide (IntKind.u8 = IntKind.u8 ∧ 0 + q8 ≤ q8)) (iteB (decide (IntKind.u8 = IntKind.u8 ∧ q5 = q5)) (iteB (decide (q10 * 1 ≤ 140737488355328)) (iteB (decide (IntKind.wrap IntKind.i64 ((↑i : Int) + 1) = (↑(i + 1) : Int))) (iteB (decide (q10 = m)) (iteB (decide (m ≤ q10)) (q9 = ys ∧ iteB q11 (iteB q12 (q14 ∧ iteB q12 (iteB q15 (q17 ∧ iteB q15 Z1 False) False) False) False) False) False) False) False) False) False) False) False) False) False) False) False) False) (iteB (decide (n = n)) (iteB (decide (n ≤ n)) (xs = xs ∧ iteB q11 (iteB q12 (q14 ∧ iteB q12 (iteB q15 (q17 ∧ iteB q15 Z2 False) False) False) False) False) False) False)) (by kernel_rfl) ?_
  conv => zeta
  try simp only [need_eq]
  try simp only [nope_eq]
  try simp only [iteD_eq]
  try simp only [iteT_eq]
  try simp only [iteF_eq]
  try simp only [iteE_eq]
  try simp only [Int.toNat_natCast, Nat.zero_add, true_and, and_true, Nat.le_refl]
  refine ⟨fun hlt => ?_, fun hge => h2 (by omega)⟩
  obtain ⟨⟨w1, w2⟩, w3, w4⟩ := inRight_way (hr i (by omega))
  obtain ⟨l1, l2, l3, l4⟩ := ht.ins i (by omega)
  have hw := h1 (by omega)
  have hnn := ht.n
  have hwr : IntKind.i64.wrap ((i : Int) + 1) = ((i + 1 : Nat) : Int) := w64 (by omega)
  have u1 := numW_len (t.ins i).index
  have u2 := numW_len (t.ins i).way
  subst hW
  rw [hwr]
  unfold inW at hy
  generalize t.ins i = x at *
  simp only [List.length_append, take_dropZ0]
  repeat' (first | (refine And.intro ?_ ?_) | intro _)
  all_goals (try simp only [beq_iff_eq, bne_iff_ne, ne_eq, beq_eq_false_iff_ne, bne_eq_false_iff_eq] at *)
  all_goals first | omega | assumption | trivial | skip
  all_goals first | (rw [hy]; simp [*]; done) | (rw [← hm, hy]; simp [*]; try omega; done) | skip
set_option maxRecDepth 100000 in
set_option maxHeartbeats 0 in
theorem rbi_2 (W : Int → List Int) (t : TxS) (i : Nat) (xs ys : List Int) (n m : Nat) (Z1 Z2 : Prop) (ht : t.Ok) (hi : i ≤ t.N) (hr : ∀ j, j < t.N → inRight (t.ins j) = true) (hW : W = numW) (hn : xs.length = n) (hs : n < 10000000000000) (hy : ys = xs ++ inW W false (t.ins i)) (hm : ys.length = m) (h1 : i < t.N → Z1) (h2 : i = t.N → Z2) :
    roundE (E44 W) 20 48 0 0 (rbS t false i xs n) (rdM 0 0 9 (rbS t false (i + 1) ys m) (rbR t xs n) (rbR t xs n) (rbR t xs n) Z1 Z2 False False) := by
  refine @Eq.mpr _ (let q1 := t.N;
 let q2 := t.ins (Int.toNat (↑i : Int));
 let q3 := q2.name;
 let q4 := xs ++ q3;
 let q5 := List.length q4;
 let q6 := q2.index;
 let q7 := W q6;
 let q8 := List.length q7;
 let q9 := q4 ++ List.take q8 (dropZ 0 q7);
 let q10 := List.length q9;
 let q11 := q2.way;
 let q12 := W q11;
 let q13 := List.length q12;
 let q14 := q9 ++ List.take q13 (dropZ 0 q12);
 let q15 := List.length q14;
 let q16 := q2.tag;
 let q17 := decide (IntKind.u8 = IntKind.u8 ∧ q15 = q15);
 let q18 := q14 ++ q16;
 let q19 := List.length q18;
 let q20 := q11 == 1;
 let q21 := q2.also;
 let q22 := decide (IntKind.u8 = IntKind.u8 ∧ List.length q21 = 32);
 let q23 := decide (IntKind.u8 = IntKind.u8 ∧ q19 = q19);
 let q24 := q18 ++ q21;
 let q25 := List.length q24;
 let q26 := q11 == 4;
 let q27 := q2.secret;
 let q28 := decide (IntKind.u8 = IntKind.u8 ∧ List.length q27 = 32);
 let q29 := q24 ++ q27;
 let q30 := List.length q29;
 let q31 := decide (IntKind.wrap IntKind.i64 ((↑i : Int) + 1) = (↑(i + 1) : Int));
 let q32 := decide (t.num = t.num);
 let q33 := decide (q1 = q1);
 let q34 := inRows t.ins;
 let q35 := q34 = q34;
 let q36 := decide (t.M = t.M);
 let q37 := outRows t.outs;
 let q38 := q37 = q37;
 let q39 := iteB q32 (iteB q33 (q35 ∧ iteB q33 (iteB q36 (q38 ∧ iteB q36 Z1 False) False) False) False) False;
 let q40 := iteB q28 (iteB (decide (IntKind.u8 = IntKind.u8 ∧ q25 = q25)) (iteB (decide (q30 * 1 ≤ 140737488355328)) (iteB q31 (iteB (decide (q30 = m)) (iteB (decide (m ≤ q30)) (q29 = ys ∧ q39) False) False) False) False) False) False;
 let q41 := q11 == 5;
 let q42 := q18 ++ q27;
 let q43 := List.length q42;
 let q44 := iteB q28 (iteB q23 (iteB (decide (q43 * 1 ≤ 140737488355328)) (iteB q31 (iteB (decide (q43 = m)) (iteB (decide (m ≤ q43)) (q42 = ys ∧ q39) False) False) False) False) False) False;
 let q45 := q14 ++ q21;
 let q46 := List.length q45;
 let q47 := q45 ++ q27;
 let q48 := List.length q47;
 let q49 := iteB q28 (iteB (decide (IntKind.u8 = IntKind.u8 ∧ q46 = q46)) (iteB (decide (q48 * 1 ≤ 140737488355328)) (iteB q31 (iteB (decide (q48 = m)) (iteB (decide (m ≤ q48)) (q47 = ys ∧ q39) False) False) False) False) False) False;
 let q50 := q14 ++ q27;
 let q51 := List.length q50;
 let q52 := iteB q28 (iteB q17 (iteB (decide (q51 * 1 ≤ 140737488355328)) (iteB q31 (iteB (decide (q51 = m)) (iteB (decide (m ≤ q51)) (q50 = ys ∧ q39) False) False) False) False) False) False;
 iteB (decide ((↑i : Int) < (↑q1 : Int)))
 (iteB (decide (0 ≤ (↑i : Int) ∧ (↑i : Int) < (↑q1 : Int)))
 (iteB (decide (IntKind.u8 = IntKind.u8 ∧ List.length q3 = 32))
 (iteB (decide (IntKind.u8 = IntKind.u8 ∧ List.length xs = n))
 (iteB (decide (q5 * 1 ≤ 140737488355328))
 (iteB (decide (q6 = q6))
 (iteB (decide (0 ≤ q6))
 (iteB (decide (IntKind.u8 = IntKind.u8 ∧ 0 + q8 ≤ q8))
 (iteB (decide (IntKind.u8 = IntKind.u8 ∧ q5 = q5))
 (iteB (decide (q10 * 1 ≤ 140737488355328))
 (iteB (decide (0 ≤ q11))
 (iteB (decide (IntKind.u8 = IntKind.u8 ∧ 0 + q13 ≤ q13))
 (iteB (decide (IntKind.u8 = IntKind.u8 ∧ q10 = q10)) (iteB (decide (q15 * 1 ≤ 140737488355328)) (iteB (q11 != 4) (iteB (decide (IntKind.u8 = IntKind.u8 ∧ List.length q16 = 32)) (iteB q17 (iteB (decide (q19 * 1 ≤ 140737488355328)) (iteB q20 (iteB q22 (iteB q23 (iteB (decide (q25 * 1 ≤ 140737488355328)) (iteB q26 q40 (iteB q41 q40 (iteB q31 (iteB (decide (q25 = m)) (iteB (decide (m ≤ q25)) (q24 = ys ∧ q39) False) False) False))) False) False) False) (iteB q26 q44 (iteB q41 q44 (iteB q31 (iteB (decide (q19 = m)) (iteB (decide (m ≤ q19)) (q18 = ys ∧ q39) False) False) False)))) False) False) False) (iteB q20 (iteB q22 (iteB q17 (iteB (decide (q46 * 1 ≤ 140737488355328)) (iteB q26 q49 (iteB q41 q49 (iteB q31 (iteB (decide (q46 = m)) (iteB (decide (m ≤ q46)) (q45 = ys ∧ q39) False) False) False))) False) False) False) (iteB q26 q52 (iteB q41 q52 (iteB q31 (iteB (decide (q15 = m)) (iteB (decide (m ≤ q15)) (q14 = ys ∧ q39) False) False) False))))) False) False) False)
 False)
 False)
 False)
 False)
 False)
 False)
 False)
 False)
 False)
 False)
 (iteB (decide (n = n)) (iteB (decide (n ≤ n)) (xs = xs ∧ iteB q32 (iteB q33 (q35 ∧ iteB q33 (iteB q36 (q38 ∧ iteB q36 Z2 False) False) False) False) False) False) False)) (by kernel_rfl) ?_
  conv => zeta
  try simp only [need_eq]
  try simp only [nope_eq]
  try simp only [iteD_eq]
  try simp only [iteT_eq]
  try simp only [iteF_eq]
  try simp only [iteE_eq]
  try simp only [Int.toNat_natCast, Nat.zero_add, true_and, and_true, Nat.le_refl]
  refine ⟨fun hlt => ?_, fun hge => h2 (by omega)⟩
  obtain ⟨⟨w1, w2⟩, w3, w4⟩ := inRight_way (hr i (by omega))
  obtain ⟨l1, l2, l3, l4⟩ := ht.ins i (by omega)
  have hw := h1 (by omega)
  have hnn := ht.n
  have hwr : IntKind.i64.wrap ((i : Int) + 1) = ((i + 1 : Nat) : Int) := w64 (by omega)
  have u1 := numW_len (t.ins i).index
  have u2 := numW_len (t.ins i).way
  subst hW
  rw [hwr]
  unfold inW at hy
  generalize t.ins i = x at *
  simp only [List.length_append, take_dropZ0]
  repeat' (first | (refine And.intro ?_ ?_) | intro _)
  all_goals (try simp only [beq_iff_eq, bne_iff_ne, ne_eq, beq_eq_false_iff_ne, bne_eq_false_iff_eq] at *)
  all_goals first | omega | assumption | trivial | skip
  all_goals first | (rw [hy]; simp [*]; done) | (rw [← hm, hy]; simp [*]; try omega; done) | skip
set_option maxRecDepth 100000 in
set_option maxHeartbeats 0 in
theorem rbo_1 (W : Int → List Int) (t : TxS) (i : Nat) (xs ys : List Int) (n m : Nat) (Z1 Z2 : Prop) (ht : t.Ok) (hi : i ≤ t.M) (hr : ∀ j, j < t.M → outRight (t.outs j) = true) (hW : W = numW) (hn : xs.length = n) (hs : n < 10000000000000) (hy : ys = xs ++ outW W (t.outs i)) (hm : ys.length = m) (h1 : i < t.M → Z1) (h2 : i = t.M → Z2) :
    roundE (E44 W) 20 48 2 0 (rbS2 t i xs n) (rdM 0 2 9 (rbS2 t (i + 1) ys m) (rbR t xs n) (rbR t xs n) (rbR t xs n) Z1 Z2 False False) := by
  refine @Eq.mpr _ (let q1 := t.M;
 let q2 := t.outs (Int.toNat (↑i : Int));
 let q3 := q2.kind;
 let q4 := W q3;
 let q5 := List.length q4;
 let q6 := xs ++ List.take q5 (dropZ 0 q4);
 let q7 := List.length q6;
 let q8 := q2.owner;
 let q9 := q8 = q8;
 let q10 := q2.amount;
 let q11 := W q10;
 let q12 := List.length q11;
 let q13 := q6 ++ List.take q12 (dropZ 0 q11);
 let q14 := List.length q13;
 let q15 := q13 ++ q8;
 let q16 := List.length q15;
 let q17 := q2.other;
 let q18 := decide (IntKind.u8 = IntKind.u8 ∧ List.length q17 = 32);
 let q19 := decide (IntKind.u8 = IntKind.u8 ∧ q16 = q16);
 let q20 := q15 ++ q17;
 let q21 := List.length q20;
 let q22 := decide (q21 * 1 ≤ 140737488355328);
 let q23 := decide (q3 ≥ 3);
 let q24 := q2.point;
 let q25 := decide (IntKind.u8 = IntKind.u8 ∧ List.length q24 = 32);
 let q26 := decide (IntKind.u8 = IntKind.u8 ∧ q21 = q21);
 let q27 := q20 ++ q24;
 let q28 := List.length q27;
 let q29 := decide (q28 * 1 ≤ 140737488355328);
 let q30 := decide (q3 ≥ 4);
 let q31 := q2.hash;
 let q32 := decide (IntKind.u8 = IntKind.u8 ∧ List.length q31 = 32);
 let q33 := decide (IntKind.u8 = IntKind.u8 ∧ q28 = q28);
 let q34 := q27 ++ q31;
 let q35 := List.length q34;
 let q36 := decide (q35 * 1 ≤ 140737488355328);
 let q37 := q2.delay;
 let q38 := decide (0 ≤ q37);
 let q39 := W q37;
 let q40 := List.length q39;
 let q41 := decide (IntKind.u8 = IntKind.u8 ∧ q35 = q35);
 let q42 := List.take q40 (dropZ 0 q39);
 let q43 := q34 ++ q42;
 let q44 := List.length q43;
 let q45 := q2.expiry;
 let q46 := decide (0 ≤ q45);
 let q47 := W q45;
 let q48 := List.length q47;
 let q49 := List.take q48 (dropZ 0 q47);
 let q50 := q43 ++ q49;
 let q51 := List.length q50;
 let q52 := decide (IntKind.wrap IntKind.i64 ((↑i : Int) + 1) = (↑(i + 1) : Int));
 let q53 := decide (t.num = t.num);
 let q54 := decide (t.N = t.N);
 let q55 := inRows t.ins;
 let q56 := q55 = q55;
 let q57 := decide (q1 = q1);
 let q58 := outRows t.outs;
 let q59 := q58 = q58;
 let q60 := iteB q53 (iteB q54 (q56 ∧ iteB q54 (iteB q57 (q59 ∧ iteB q57 Z1 False) False) False) False) False;
 let q61 := q50 = ys ∧ q60;
 let q62 := q43 = ys ∧ q60;
 let q63 := q34 ++ q49;
 let q64 := List.length q63;
 let q65 := q63 = ys ∧ q60;
 let q66 := iteB q52 (iteB (decide (q35 = m)) (iteB (decide (m ≤ q35)) (q34 = ys ∧ q60) False) False) False;
 let q67 := q27 ++ q42;
 let q68 := List.length q67;
 let q69 := q67 ++ q49;
 let q70 := List.length q69;
 let q71 := q69 = ys ∧ q60;
 let q72 := q67 = ys ∧ q60;
 let q73 := q27 ++ q49;
 let q74 := List.length q73;
 let q75 := q73 = ys ∧ q60;
 let q76 := iteB q52 (iteB (decide (q28 = m)) (iteB (decide (m ≤ q28)) (q27 = ys ∧ q60) False) False) False;
 let q77 := q20 ++ q31;
 let q78 := List.length q77;
 let q79 := decide (q78 * 1 ≤ 140737488355328);
 let q80 := decide (IntKind.u8 = IntKind.u8 ∧ q78 = q78);
 let q81 := q77 ++ q42;
 let q82 := List.length q81;
 let q83 := q81 ++ q49;
 let q84 := List.length q83;
 let q85 := q83 = ys ∧ q60;
 let q86 := q81 = ys ∧ q60;
 let q87 := q77 ++ q49;
 let q88 := List.length q87;
 let q89 := q87 = ys ∧ q60;
 let q90 := iteB q52 (iteB (decide (q78 = m)) (iteB (decide (m ≤ q78)) (q77 = ys ∧ q60) False) False) False;
 let q91 := q20 ++ q42;
 let q92 := List.length q91;
 let q93 := q91 ++ q49;
 let q94 := List.length q93;
 let q95 := q93 = ys ∧ q60;
 let q96 := q91 = ys ∧ q60;
 let q97 := q20 ++ q49;
 let q98 := List.length q97;
 let q99 := q97 = ys ∧ q60;
 let q100 := iteB q52 (iteB (decide (q21 = m)) (iteB (decide (m ≤ q21)) (q20 = ys ∧ q60) False) False) False;
 let q101 := q15 ++ q24;
 let q102 := List.length q101;
 let q103 := decide (IntKind.u8 = IntKind.u8 ∧ q102 = q102);
 let q104 := q101 ++ q31;
 let q105 := List.length q104;
 let q106 := decide (IntKind.u8 = IntKind.u8 ∧ q105 = q105);
 let q107 := q104 ++ q42;
 let q108 := List.length q107;
 let q109 := q107 ++ q49;
 let q110 := List.length q109;
 let q111 := q104 ++ q49;
 let q112 := List.length q111;
 let q113 := q101 ++ q42;
 let q114 := List.length q113;
 let q115 := q113 ++ q49;
 let q116 := List.length q115;
 let q117 := q101 ++ q49;
 let q118 := List.length q117;
 let q119 := q15 ++ q31;
 let q120 := List.length q119;
 let q121 := decide (IntKind.u8 = IntKind.u8 ∧ q120 = q120);
 let q122 := q119 ++ q42;
 let q123 := List.length q122;
 let q124 := q122 ++ q49;
 let q125 := List.length q124;
 let q126 := q119 ++ q49;
 let q127 := List.length q126;
 let q128 := q15 ++ q42;
 let q129 := List.length q128;
 let q130 := q128 ++ q49;
 let q131 := List.length q130;
 let q132 := q15 ++ q49;
 let q133 := List.length q132;
 iteB (decide ((↑i : Int) < (↑q1 : Int)))
 (iteB (decide (0 ≤ (↑i : Int) ∧ (↑i : Int) < (↑q1 : Int)))
 (iteB (decide (0 ≤ q3))
 (iteB (decide (IntKind.u8 = IntKind.u8 ∧ 0 + q5 ≤ q5))
 (iteB (decide (IntKind.u8 = IntKind.u8 ∧ List.length xs = n))
 (iteB (decide (q7 * 1 ≤ 140737488355328))
 (q9 ∧
 iteB (decide (q10 = q10))
 (iteB (decide (0 ≤ q10))
 (iteB (decide (IntKind.u8 = IntKind.u8 ∧ 0 + q12 ≤ q12))
 (iteB (decide (IntKind.u8 = IntKind.u8 ∧ q7 = q7))
 (iteB (decide (q14 * 1 ≤ 140737488355328))
 (q9 ∧
 iteB (decide (IntKind.u8 = IntKind.u8 ∧ List.length q8 = 32))
 (iteB (decide (IntKind.u8 = IntKind.u8 ∧ q14 = q14))
 (iteB (decide (q16 * 1 ≤ 140737488355328))
 (iteB (q3 == 2)
 (iteB q18
 (iteB q19
 (iteB q22
 (iteB q23
 (iteB q25
 (iteB q26
 (iteB q29
 (iteB q30 (iteB q32 (iteB q33 (iteB q36 (iteB q23 (iteB q38 (iteB (decide (IntKind.u8 = IntKind.u8 ∧ 0 + q40 ≤ q40)) (iteB q41 (iteB (decide (q44 * 1 ≤ 140737488355328)) (iteB q30 (iteB q46 (iteB (decide (IntKind.u8 = IntKind.u8 ∧ 0 + q48 ≤ q48)) (iteB (decide (IntKind.u8 = IntKind.u8 ∧ q44 = q44)) (iteB (decide (q51 * 1 ≤ 140737488355328)) (iteB q52 (iteB (decide (q51 = m)) (iteB (decide (m ≤ q51)) q61 False) False) False) False) False) False) False) (iteB q52 (iteB (decide (q44 = m)) (iteB (decide (m ≤ q44)) q62 False) False) False)) False) False) False) False) (iteB q30 (iteB q46 (iteB (decide (IntKind.u8 = IntKind.u8 ∧ 0 + q48 ≤ q48)) (iteB q41 (iteB (decide (q64 * 1 ≤ 140737488355328)) (iteB q52 (iteB (decide (q64 = m)) (iteB (decide (m ≤ q64)) q65 False) False) False) False) False) False) False) q66)) False) False) False)
 (iteB q23 (iteB q38 (iteB (decide (IntKind.u8 = IntKind.u8 ∧ 0 + q40 ≤ q40)) (iteB q33 (iteB (decide (q68 * 1 ≤ 140737488355328)) (iteB q30 (iteB q46 (iteB (decide (IntKind.u8 = IntKind.u8 ∧ 0 + q48 ≤ q48)) (iteB (decide (IntKind.u8 = IntKind.u8 ∧ q68 = q68)) (iteB (decide (q70 * 1 ≤ 140737488355328)) (iteB q52 (iteB (decide (q70 = m)) (iteB (decide (m ≤ q70)) q71 False) False) False) False) False) False) False) (iteB q52 (iteB (decide (q68 = m)) (iteB (decide (m ≤ q68)) q72 False) False) False)) False) False) False) False) (iteB q30 (iteB q46 (iteB (decide (IntKind.u8 = IntKind.u8 ∧ 0 + q48 ≤ q48)) (iteB q33 (iteB (decide (q74 * 1 ≤ 140737488355328)) (iteB q52 (iteB (decide (q74 = m)) (iteB (decide (m ≤ q74)) q75 False) False) False) False) False) False) False) q76)))
 False)
 False)
 False)
 (iteB q30 (iteB q32 (iteB q26 (iteB q79 (iteB q23 (iteB q38 (iteB (decide (IntKind.u8 = IntKind.u8 ∧ 0 + q40 ≤ q40)) (iteB q80 (iteB (decide (q82 * 1 ≤ 140737488355328)) (iteB q30 (iteB q46 (iteB (decide (IntKind.u8 = IntKind.u8 ∧ 0 + q48 ≤ q48)) (iteB (decide (IntKind.u8 = IntKind.u8 ∧ q82 = q82)) (iteB (decide (q84 * 1 ≤ 140737488355328)) (iteB q52 (iteB (decide (q84 = m)) (iteB (decide (m ≤ q84)) q85 False) False) False) False) False) False) False) (iteB q52 (iteB (decide (q82 = m)) (iteB (decide (m ≤ q82)) q86 False) False) False)) False) False) False) False) (iteB q30 (iteB q46 (iteB (decide (IntKind.u8 = IntKind.u8 ∧ 0 + q48 ≤ q48)) (iteB q80 (iteB (decide (q88 * 1 ≤ 140737488355328)) (iteB q52 (iteB (decide (q88 = m)) (iteB (decide (m ≤ q88)) q89 False) False) False) False) False) False) False) q90)) False) False) False)
 (iteB q23 (iteB q38 (iteB (decide (IntKind.u8 = IntKind.u8 ∧ 0 + q40 ≤ q40)) (iteB q26 (iteB (decide (q92 * 1 ≤ 140737488355328)) (iteB q30 (iteB q46 (iteB (decide (IntKind.u8 = IntKind.u8 ∧ 0 + q48 ≤ q48)) (iteB (decide (IntKind.u8 = IntKind.u8 ∧ q92 = q92)) (iteB (decide (q94 * 1 ≤ 140737488355328)) (iteB q52 (iteB (decide (q94 = m)) (iteB (decide (m ≤ q94)) q95 False) False) False) False) False) False) False) (iteB q52 (iteB (decide (q92 = m)) (iteB (decide (m ≤ q92)) q96 False) False) False)) False) False) False) False) (iteB q30 (iteB q46 (iteB (decide (IntKind.u8 = IntKind.u8 ∧ 0 + q48 ≤ q48)) (iteB q26 (iteB (decide (q98 * 1 ≤ 140737488355328)) (iteB q52 (iteB (decide (q98 = m)) (iteB (decide (m ≤ q98)) q99 False) False) False) False) False) False) False) q100))))
 False)
 False)
 False)
 (iteB (q3 == 4)
 (iteB q18
 (iteB q19
 (iteB q22
 (iteB q23
 (iteB q25
 (iteB q26
 (iteB q29
 (iteB q30 (iteB q32 (iteB q33 (iteB q36 (iteB q23 (iteB q38 (iteB (decide (IntKind.u8 = IntKind.u8 ∧ 0 + q40 ≤ q40)) (iteB q41 (iteB (decide (q44 * 1 ≤ 140737488355328)) (iteB q30 (iteB q46 (iteB (decide (IntKind.u8 = IntKind.u8 ∧ 0 + q48 ≤ q48)) (iteB (decide (IntKind.u8 = IntKind.u8 ∧ q44 = q44)) (iteB (decide (q51 * 1 ≤ 140737488355328)) (iteB q52 (iteB (decide (q51 = m)) (iteB (decide (m ≤ q51)) q61 False) False) False) False) False) False) False) (iteB q52 (iteB (decide (q44 = m)) (iteB (decide (m ≤ q44)) q62 False) False) False)) False) False) False) False) (iteB q30 (iteB q46 (iteB (decide (IntKind.u8 = IntKind.u8 ∧ 0 + q48 ≤ q48)) (iteB q41 (iteB (decide (q64 * 1 ≤ 140737488355328)) (iteB q52 (iteB (decide (q64 = m)) (iteB (decide (m ≤ q64)) q65 False) False) False) False) False) False) False) q66)) False) False) False)
 (iteB q23 (iteB q38 (iteB (decide (IntKind.u8 = IntKind.u8 ∧ 0 + q40 ≤ q40)) (iteB q33 (iteB (decide (q68 * 1 ≤ 140737488355328)) (iteB q30 (iteB q46 (iteB (decide (IntKind.u8 = IntKind.u8 ∧ 0 + q48 ≤ q48)) (iteB (decide (IntKind.u8 = IntKind.u8 ∧ q68 = q68)) (iteB (decide (q70 * 1 ≤ 140737488355328)) (iteB q52 (iteB (decide (q70 = m)) (iteB (decide (m ≤ q70)) q71 False) False) False) False) False) False) False) (iteB q52 (iteB (decide (q68 = m)) (iteB (decide (m ≤ q68)) q72 False) False) False)) False) False) False) False) (iteB q30 (iteB q46 (iteB (decide (IntKind.u8 = IntKind.u8 ∧ 0 + q48 ≤ q48)) (iteB q33 (iteB (decide (q74 * 1 ≤ 140737488355328)) (iteB q52 (iteB (decide (q74 = m)) (iteB (decide (m ≤ q74)) q75 False) False) False) False) False) False) False) q76)))
 False)
 False)
 False)
 (iteB q30 (iteB q32 (iteB q26 (iteB q79 (iteB q23 (iteB q38 (iteB (decide (IntKind.u8 = IntKind.u8 ∧ 0 + q40 ≤ q40)) (iteB q80 (iteB (decide (q82 * 1 ≤ 140737488355328)) (iteB q30 (iteB q46 (iteB (decide (IntKind.u8 = IntKind.u8 ∧ 0 + q48 ≤ q48)) (iteB (decide (IntKind.u8 = IntKind.u8 ∧ q82 = q82)) (iteB (decide (q84 * 1 ≤ 140737488355328)) (iteB q52 (iteB (decide (q84 = m)) (iteB (decide (m ≤ q84)) q85 False) False) False) False) False) False) False) (iteB q52 (iteB (decide (q82 = m)) (iteB (decide (m ≤ q82)) q86 False) False) False)) False) False) False) False) (iteB q30 (iteB q46 (iteB (decide (IntKind.u8 = IntKind.u8 ∧ 0 + q48 ≤ q48)) (iteB q80 (iteB (decide (q88 * 1 ≤ 140737488355328)) (iteB q52 (iteB (decide (q88 = m)) (iteB (decide (m ≤ q88)) q89 False) False) False) False) False) False) False) q90)) False) False) False)
 (iteB q23 (iteB q38 (iteB (decide (IntKind.u8 = IntKind.u8 ∧ 0 + q40 ≤ q40)) (iteB q26 (iteB (decide (q92 * 1 ≤ 140737488355328)) (iteB q30 (iteB q46 (iteB (decide (IntKind.u8 = IntKind.u8 ∧ 0 + q48 ≤ q48)) (iteB (decide (IntKind.u8 = IntKind.u8 ∧ q92 = q92)) (iteB (decide (q94 * 1 ≤ 140737488355328)) (iteB q52 (iteB (decide (q94 = m)) (iteB (decide (m ≤ q94)) q95 False) False) False) False) False) False) False) (iteB q52 (iteB (decide (q92 = m)) (iteB (decide (m ≤ q92)) q96 False) False) False)) False) False) False) False) (iteB q30 (iteB q46 (iteB (decide (IntKind.u8 = IntKind.u8 ∧ 0 + q48 ≤ q48)) (iteB q26 (iteB (decide (q98 * 1 ≤ 140737488355328)) (iteB q52 (iteB (decide (q98 = m)) (iteB (decide (m ≤ q98)) q99 False) False) False) False) False) False) False) q100))))
 False)
 False)
 False)
 (iteB (q3 == 5)
 (iteB q18
 (iteB q19
 (iteB q22
 (iteB q23
 (iteB q25
 (iteB q26
 (iteB q29
 (iteB q30 (iteB q32 (iteB q33 (iteB q36 (iteB q23 (iteB q38 (iteB (decide (IntKind.u8 = IntKind.u8 ∧ 0 + q40 ≤ q40)) (iteB q41 (iteB (decide (q44 * 1 ≤ 140737488355328)) (iteB q30 (iteB q46 (iteB (decide (IntKind.u8 = IntKind.u8 ∧ 0 + q48 ≤ q48)) (iteB (decide (IntKind.u8 = IntKind.u8 ∧ q44 = q44)) (iteB (decide (q51 * 1 ≤ 140737488355328)) (iteB q52 (iteB (decide (q51 = m)) (iteB (decide (m ≤ q51)) q61 False) False) False) False) False) False) False) (iteB q52 (iteB (decide (q44 = m)) (iteB (decide (m ≤ q44)) q62 False) False) False)) False) False) False) False) (iteB q30 (iteB q46 (iteB (decide (IntKind.u8 = IntKind.u8 ∧ 0 + q48 ≤ q48)) (iteB q41 (iteB (decide (q64 * 1 ≤ 140737488355328)) (iteB q52 (iteB (decide (q64 = m)) (iteB (decide (m ≤ q64)) q65 False) False) False) False) False) False) False) q66)) False) False) False)
 (iteB q23 (iteB q38 (iteB (decide (IntKind.u8 = IntKind.u8 ∧ 0 + q40 ≤ q40)) (iteB q33 (iteB (decide (q68 * 1 ≤ 140737488355328)) (iteB q30 (iteB q46 (iteB (decide (IntKind.u8 = IntKind.u8 ∧ 0 + q48 ≤ q48)) (iteB (decide (IntKind.u8 = IntKind.u8 ∧ q68 = q68)) (iteB (decide (q70 * 1 ≤ 140737488355328)) (iteB q52 (iteB (decide (q70 = m)) (iteB (decide (m ≤ q70)) q71 False) False) False) False) False) False) False) (iteB q52 (iteB (decide (q68 = m)) (iteB (decide (m ≤ q68)) q72 False) False) False)) False) False) False) False) (iteB q30 (iteB q46 (iteB (decide (IntKind.u8 = IntKind.u8 ∧ 0 + q48 ≤ q48)) (iteB q33 (iteB (decide (q74 * 1 ≤ 140737488355328)) (iteB q52 (iteB (decide (q74 = m)) (iteB (decide (m ≤ q74)) q75 False) False) False) False) False) False) False) q76)))
 False)
 False)
 False)
 (iteB q30 (iteB q32 (iteB q26 (iteB q79 (iteB q23 (iteB q38 (iteB (decide (IntKind.u8 = IntKind.u8 ∧ 0 + q40 ≤ q40)) (iteB q80 (iteB (decide (q82 * 1 ≤ 140737488355328)) (iteB q30 (iteB q46 (iteB (decide (IntKind.u8 = IntKind.u8 ∧ 0 + q48 ≤ q48)) (iteB (decide (IntKind.u8 = IntKind.u8 ∧ q82 = q82)) (iteB (decide (q84 * 1 ≤ 140737488355328)) (iteB q52 (iteB (decide (q84 = m)) (iteB (decide (m ≤ q84)) q85 False) False) False) False) False) False) False) (iteB q52 (iteB (decide (q82 = m)) (iteB (decide (m ≤ q82)) q86 False) False) False)) False) False) False) False) (iteB q30 (iteB q46 (iteB (decide (IntKind.u8 = IntKind.u8 ∧ 0 + q48 ≤ q48)) (iteB q80 (iteB (decide (q88 * 1 ≤ 140737488355328)) (iteB q52 (iteB (decide (q88 = m)) (iteB (decide (m ≤ q88)) q89 False) False) False) False) False) False) False) q90)) False) False) False)
 (iteB q23 (iteB q38 (iteB (decide (IntKind.u8 = IntKind.u8 ∧ 0 + q40 ≤ q40)) (iteB q26 (iteB (decide (q92 * 1 ≤ 140737488355328)) (iteB q30 (iteB q46 (iteB (decide (IntKind.u8 = IntKind.u8 ∧ 0 + q48 ≤ q48)) (iteB (decide (IntKind.u8 = IntKind.u8 ∧ q92 = q92)) (iteB (decide (q94 * 1 ≤ 140737488355328)) (iteB q52 (iteB (decide (q94 = m)) (iteB (decide (m ≤ q94)) q95 False) False) False) False) False) False) False) (iteB q52 (iteB (decide (q92 = m)) (iteB (decide (m ≤ q92)) q96 False) False) False)) False) False) False) False) (iteB q30 (iteB q46 (iteB (decide (IntKind.u8 = IntKind.u8 ∧ 0 + q48 ≤ q48)) (iteB q26 (iteB (decide (q98 * 1 ≤ 140737488355328)) (iteB q52 (iteB (decide (q98 = m)) (iteB (decide (m ≤ q98)) q99 False) False) False) False) False) False) False) q100))))
 False)
 False)
 False)
 (iteB q23
 (iteB q25
 (iteB q19
 (iteB (decide (q102 * 1 ≤ 140737488355328))
 (iteB q30
 (iteB q32
 (iteB q103 (iteB (decide (q105 * 1 ≤ 140737488355328)) (iteB q23 (iteB q38 (iteB (decide (IntKind.u8 = IntKind.u8 ∧ 0 + q40 ≤ q40)) (iteB q106 (iteB (decide (q108 * 1 ≤ 140737488355328)) (iteB q30 (iteB q46 (iteB (decide (IntKind.u8 = IntKind.u8 ∧ 0 + q48 ≤ q48)) (iteB (decide (IntKind.u8 = IntKind.u8 ∧ q108 = q108)) (iteB (decide (q110 * 1 ≤ 140737488355328)) (iteB q52 (iteB (decide (q110 = m)) (iteB (decide (m ≤ q110)) (q109 = ys ∧ q60) False) False) False) False) False) False) False) (iteB q52 (iteB (decide (q108 = m)) (iteB (decide (m ≤ q108)) (q107 = ys ∧ q60) False) False) False)) False) False) False) False) (iteB q30 (iteB q46 (iteB (decide (IntKind.u8 = IntKind.u8 ∧ 0 + q48 ≤ q48)) (iteB q106 (iteB (decide (q112 * 1 ≤ 140737488355328)) (iteB q52 (iteB (decide (q112 = m)) (iteB (decide (m ≤ q112)) (q111 = ys ∧ q60) False) False) False) False) False) False) False) (iteB q52 (iteB (decide (q105 = m)) (iteB (decide (m ≤ q105)) (q104 = ys ∧ q60) False) False) False))) False) False)
 False)
 (iteB q23 (iteB q38 (iteB (decide (IntKind.u8 = IntKind.u8 ∧ 0 + q40 ≤ q40)) (iteB q103 (iteB (decide (q114 * 1 ≤ 140737488355328)) (iteB q30 (iteB q46 (iteB (decide (IntKind.u8 = IntKind.u8 ∧ 0 + q48 ≤ q48)) (iteB (decide (IntKind.u8 = IntKind.u8 ∧ q114 = q114)) (iteB (decide (q116 * 1 ≤ 140737488355328)) (iteB q52 (iteB (decide (q116 = m)) (iteB (decide (m ≤ q116)) (q115 = ys ∧ q60) False) False) False) False) False) False) False) (iteB q52 (iteB (decide (q114 = m)) (iteB (decide (m ≤ q114)) (q113 = ys ∧ q60) False) False) False)) False) False) False) False) (iteB q30 (iteB q46 (iteB (decide (IntKind.u8 = IntKind.u8 ∧ 0 + q48 ≤ q48)) (iteB q103 (iteB (decide (q118 * 1 ≤ 140737488355328)) (iteB q52 (iteB (decide (q118 = m)) (iteB (decide (m ≤ q118)) (q117 = ys ∧ q60) False) False) False) False) False) False) False) (iteB q52 (iteB (decide (q102 = m)) (iteB (decide (m ≤ q102)) (q101 = ys ∧ q60) False) False) False))))
 False)
 False)
 False)
 (iteB q30
 (iteB q32
 (iteB q19 (iteB (decide (q120 * 1 ≤ 140737488355328)) (iteB q23 (iteB q38 (iteB (decide (IntKind.u8 = IntKind.u8 ∧ 0 + q40 ≤ q40)) (iteB q121 (iteB (decide (q123 * 1 ≤ 140737488355328)) (iteB q30 (iteB q46 (iteB (decide (IntKind.u8 = IntKind.u8 ∧ 0 + q48 ≤ q48)) (iteB (decide (IntKind.u8 = IntKind.u8 ∧ q123 = q123)) (iteB (decide (q125 * 1 ≤ 140737488355328)) (iteB q52 (iteB (decide (q125 = m)) (iteB (decide (m ≤ q125)) (q124 = ys ∧ q60) False) False) False) False) False) False) False) (iteB q52 (iteB (decide (q123 = m)) (iteB (decide (m ≤ q123)) (q122 = ys ∧ q60) False) False) False)) False) False) False) False) (iteB q30 (iteB q46 (iteB (decide (IntKind.u8 = IntKind.u8 ∧ 0 + q48 ≤ q48)) (iteB q121 (iteB (decide (q127 * 1 ≤ 140737488355328)) (iteB q52 (iteB (decide (q127 = m)) (iteB (decide (m ≤ q127)) (q126 = ys ∧ q60) False) False) False) False) False) False) False) (iteB q52 (iteB (decide (q120 = m)) (iteB (decide (m ≤ q120)) (q119 = ys ∧ q60) False) False) False))) False) False)
 False)
 (iteB q23 (iteB q38 (iteB (decide (IntKind.u8 = IntKind.u8 ∧ 0 + q40 ≤ q40)) (iteB q19 (iteB (decide (q129 * 1 ≤ 140737488355328)) (iteB q30 (iteB q46 (iteB (decide (IntKind.u8 = IntKind.u8 ∧ 0 + q48 ≤ q48)) (iteB (decide (IntKind.u8 = IntKind.u8 ∧ q129 = q129)) (iteB (decide (q131 * 1 ≤ 140737488355328)) (iteB q52 (iteB (decide (q131 = m)) (iteB (decide (m ≤ q131)) (q130 = ys ∧ q60) False) False) False) False) False) False) False) (iteB q52 (iteB (decide (q129 = m)) (iteB (decide (m ≤ q129)) (q128 = ys ∧ q60) False) False) False)) False) False) False) False) (iteB q30 (iteB q46 (iteB (decide (IntKind.u8 = IntKind.u8 ∧ 0 + q48 ≤ q48)) (iteB q19 (iteB (decide (q133 * 1 ≤ 140737488355328)) (iteB q52 (iteB (decide (q133 = m)) (iteB (decide (m ≤ q133)) (q132 = ys ∧ q60) False) False) False) False) False) False) False) (iteB q52 (iteB (decide (q16 = m)) (iteB (decide (m ≤ q16)) (q15 = ys ∧ q60) False) False) False))))))))
 False)
 False)
 False)
 False)
 False)
 False)
 False)
 False)
 False)
 False)
 False)
 False)
 False)
 (iteB (decide (n = n)) (iteB (decide (n ≤ n)) (xs = xs ∧ iteB q53 (iteB q54 (q56 ∧ iteB q54 (iteB q57 (q59 ∧ iteB q57 Z2 False) False) False) False) False) False) False)) (by kernel_rfl) ?_
  conv => zeta
  try simp only [need_eq]
  try simp only [nope_eq]
  try simp only [iteD_eq]
  try simp only [iteT_eq]
  try simp only [iteF_eq]
  try simp only [iteE_eq]
  try simp only [Int.toNat_natCast, Nat.zero_add, true_and, and_true, Nat.le_refl]
  refine ⟨fun hlt => ?_, fun hge => h2 (by omega)⟩
  obtain ⟨⟨w1, w2⟩, ⟨w3, w4⟩, ⟨w5, w6⟩, w7, w8⟩ := outRight_facts (hr i (by omega))
  obtain ⟨l1, l2, l3, l4⟩ := ht.outs i (by omega)
  have hw := h1 (by omega)
  have hnn := ht.m
  have hwr : IntKind.i64.wrap ((i : Int) + 1) = ((i + 1 : Nat) : Int) := w64 (by omega)
  have u1 := numW_len (t.outs i).kind
  have u2 := numW_len (t.outs i).amount
  have u3 := numW_len (t.outs i).delay
  have u4 := numW_len (t.outs i).expiry
  subst hW
  rw [hwr]
  unfold outW at hy
  generalize t.outs i = x at *
  simp only [List.length_append, take_dropZ0]
  repeat' (first | (refine And.intro ?_ ?_) | intro _)
  all_goals (try simp only [beq_iff_eq, bne_iff_ne, ne_eq, beq_eq_false_iff_ne, bne_eq_false_iff_eq] at *)
  all_goals first | omega | assumption | trivial | skip
  all_goals first | (rw [hy]; simp [*]; done) | (rw [← hm, hy]; simp [*]; try omega; done) | skip
noncomputable def E44c (W : Int → List Int) (t : TxS) (core : Bool) : Env2 :=
  (E44 W).withL 48 0 (goM 0 (rbS t core 0 (rawI W t core 0) (rawI W t core 0).length) t.Fine (endsJ 0 t.N 9 (fun i => i < t.N) (fun i => i = t.N) (fun _ => False) (fun _ => False) (fun i => rbR t (rawI W t core i) (rawI W t core i).length) (fun i => rbR t (rawI W t core i) (rawI W t core i).length) (fun i => rbR t (rawI W t core i) (rawI W t core i).length)))
noncomputable def E44d (W : Int → List Int) (t : TxS) (core : Bool) : Env2 :=
  (E44 W).withL 48 2 (goM 0 (rbS2 t 0 (rawO W t core 0) (rawO W t core 0).length) t.Fine (endsJ 2 t.M 9 (fun i => i < t.M) (fun i => i = t.M) (fun _ => False) (fun _ => False) (fun i => rbR t (rawO W t core i) (rawO W t core i).length) (fun i => rbR t (rawO W t core i) (rawO W t core i).length) (fun i => rbR t (rawO W t core i) (rawO W t core i).length)))
theorem E44c_ok (t : TxS) (core : Bool) : (E44c numW t core).Ok := by
  unfold E44c
  refine Env2.withGoM (N := 20) (S := fun i => rbS t core i (rawI numW t core i) (rawI numW t core i).length) E44_ok (by kernel_rfl) fun hC => ⟨rfl, fun i hi hgo => ?_⟩
  have h1 := rawI_len hC core hi
  cases core
  · exact rbi_2 numW t i (rawI numW t false i) (rawI numW t false (i + 1)) _ _ _ _ hC.ok hi hC.ins rfl rfl (by omega) (rawI_succ _ _ _ _) rfl (fun h => ⟨h, h⟩) (fun h => h)
  · exact rbi_1 numW t i (rawI numW t true i) (rawI numW t true (i + 1)) _ _ _ _ hC.ok hi hC.ins rfl rfl (by omega) (rawI_succ _ _ _ _) rfl (fun h => ⟨h, h⟩) (fun h => h)
theorem E44d_ok (t : TxS) (core : Bool) : (E44d numW t core).Ok := by
  unfold E44d
  refine Env2.withGoM (N := 20) (S := fun i => rbS2 t i (rawO numW t core i) (rawO numW t core i).length) E44_ok (by kernel_rfl) fun hC => ⟨rfl, fun i hi hgo => ?_⟩
  have h1 := rawO_len hC core hi
  exact rbo_1 numW t i (rawO numW t core i) (rawO numW t core (i + 1)) _ _ _ _ hC.ok hi hC.outs rfl rfl (by omega) (rawO_succ _ _ _ _) rfl (fun h => ⟨h, h⟩) (fun h => h)
noncomputable def E44b (W : Int → List Int) (t : TxS) (core : Bool) : Env2 :=
  (E44c W t core).withL 48 2 (goM 0 (rbS2 t 0 (rawO W t core 0) (rawO W t core 0).length) t.Fine (endsJ 2 t.M 9 (fun i => i < t.M) (fun i => i = t.M) (fun _ => False) (fun _ => False) (fun i => rbR t (rawO W t core i) (rawO W t core i).length) (fun i => rbR t (rawO W t core i) (rawO W t core i).length) (fun i => rbR t (rawO W t core i) (rawO W t core i).length)))
set_option maxRecDepth 100000 in
set_option maxHeartbeats 0 in
theorem bytesr_1 (W : Int → List Int) (t : TxS) (core : Bool) (ys : List Int) (L : Nat) (hW : W = numW) (ht : t.Fine) (hy : ys = rawT W t core) (hL : L = ys.length) :
    evF (E44b W t core) 20 48 [.agg t.c, .bool core] ⟨0, []⟩ (outM 0 (.ret (.nslice ⟨0, 0, 0, 0, 0⟩ 1 L L)) 1 [(0, .ints .u8 ys)]) := by
  refine @Eq.mpr _ (let q1 := t.num;
 let q2 := List.length (W q1);
 let q3 := [] ++ List.take q2 (dropZ 0 (W q1));
 let q4 := List.length q3;
 let q5 := t.N;
 let q6 := ↑q5;
 let q7 := decide (q5 = q5);
 let q8 := inRows t.ins;
 let q9 := q8 = q8;
 let q10 := W q6;
 let q11 := List.length q10;
 let q12 := q3 ++ List.take q11 (dropZ 0 q10);
 let q13 := List.length q12;
 let q14 := rawI W t core 0;
 let q15 := List.length q14;
 let q16 := decide (q1 = q1);
 let q17 := t.M;
 let q18 := decide (q17 = q17);
 let q19 := outRows t.outs;
 let q20 := q19 = q19;
 let q21 := W ↑q17;
 let q22 := List.length q21;
 let q23 := rawO W t core 0;
 let q24 := List.length q23;
 let q25 := (False → False) ∧ (False → False);
 iteB (decide (0 ≤ q1))
 (iteB (decide (IntKind.u8 = IntKind.u8 ∧ 0 + q2 ≤ q2))
 (iteB (decide (q4 * 1 ≤ 140737488355328))
 (iteB (decide (q6 = q6))
 (iteB q7
 (q9 ∧
 iteB q7
 (iteB (decide (IntKind.u8 = IntKind.u8 ∧ 0 + q11 ≤ q11))
 (iteB (decide (IntKind.u8 = IntKind.u8 ∧ q4 = q4))
 (iteB (decide (q13 * 1 ≤ 140737488355328))
 (iteB (decide (q13 = q15))
 (iteB (decide (q15 ≤ q13))
 (iteB (decide (core = core))
 (q12 = q14 ∧
 iteB q16
 (iteB q7
 (q9 ∧
 iteB q7
 (iteB q18
 (q20 ∧
 iteB q18
 (TxS.Fine t ∧
 ∀ (i : Nat),
 let q51 := rawI W t core i;
 let q52 := List.length q51;
 let q53 := q51 ++ List.take q22 (dropZ 0 q21);
 let q54 := List.length q53;
 i ≤ q5 →
 (∀ (j : Nat), j < i → (fun (i : Nat) => i < q5) j) →
 (i = q5 →
 iteB (decide (IntKind.u8 = IntKind.u8 ∧ 0 + q22 ≤ q22))
 (iteB (decide (IntKind.u8 = IntKind.u8 ∧ q52 = q52))
 (iteB (decide (q54 * 1 ≤ 140737488355328))
 (iteB (decide (q54 = q24))
 (iteB (decide (q24 ≤ q54))
 (q53 = q23 ∧
 iteB q16
 (iteB q7
 (q9 ∧
 iteB q7
 (iteB q18
 (q20 ∧
 iteB q18
 (TxS.Fine t ∧
 ∀ (i : Nat),
 let q59 := rawO W t core i;
 let q60 := List.length q59;
 i ≤ q17 → (∀ (j : Nat), j < i → (fun (i : Nat) => i < q17) j) → (i = q17 → iteB (decide (q60 = L)) (iteB (decide (L ≤ q60)) (q59 = ys ∧ True) False) False) ∧ q25)
 False)
 False)
 False)
 False)
 False)
 False)
 False)
 False)
 False)
 False) ∧
 q25)
 False)
 False)
 False)
 False)
 False)
 False)
 False)
 False)
 False)
 False)
 False)
 False)
 False)
 False)
 False)
 False)
 False) (by kernel_rfl) ?_
  conv => zeta
  try simp only [need_eq]
  try simp only [nope_eq]
  try simp only [iteD_eq]
  try simp only [iteT_eq]
  try simp only [iteF_eq]
  try simp only [iteE_eq]
  try simp only [Int.toNat_natCast, Nat.zero_add, true_and, and_true, Nat.le_refl]
  subst hW hy hL
  have e1 : numW t.num ++ numW ↑t.N = rawI numW t core 0 := by unfold rawI; simp [catL]
  have e2 : rawI numW t core t.N ++ numW ↑t.M = rawO numW t core 0 := by unfold rawO; simp [catL]
  have b1 := rawI_len ht core (Nat.le_refl t.N)
  have b2 := rawO_len ht core (Nat.le_refl t.M)
  have hN := ht.n
  have hM := ht.m
  have hq := ht.num
  simp only [take_dropZ0, List.nil_append, e1, Nat.mul_one]
  have b0 := rawI_len ht core (Nat.zero_le t.N)
  have c0 := rawO_len ht core (Nat.zero_le t.M)
  have d1 := numW_len t.num
  refine ⟨hq.1, by omega, by omega, trivial, Nat.le_refl _, trivial, ht, fun i hi _ => ⟨fun he => ?_, fun h => h, fun h => h⟩⟩
  subst he
  rw [e2]
  refine ⟨by omega, rfl, Nat.le_refl _, rfl, ht, fun i hi _ => ⟨fun he => ?_, fun h => h, fun h => h⟩⟩
  subst he
  exact ⟨rfl, Nat.le_refl _, rfl⟩
theorem E44b_ok (t : TxS) (core : Bool) : (E44b numW t core).Ok := by
  unfold E44b
  exact Env2.withL_join (G := E44c numW t core) (H := E44 numW) (E44c_ok t core) rfl (E44d_ok t core)
theorem bytesr_pure (t : TxS) (core : Bool) (ht : t.Fine) : Pure PP 48 [.agg t.c, .bool core] (.nslice ⟨0, 0, 0, 0, 0⟩ 1 (rawT numW t core).length (rawT numW t core).length) 1 [(0, .ints .u8 (rawT numW t core))] := .evM (E44b_ok t core) (bytesr_1 _ t core _ _ rfl ht rfl rfl)
theorem bytesrF_ok (args : List AV) (h : Heap) (K : KO) (hl : rawF (rawT numW) args h K) : CallsA PP 48 args h K := by
  refine Pure.fsumm (d := 20) (viewL_weak _ _ _ _ _ hl fun a ha => ?_)
  split at ha
  · obtain ⟨t, h1, h2, hK⟩ := ha
    exact ⟨_, _, _, _, (bytesr_pure t _ h2).conv fun E r hr => hr.head (fun _ hc => h1.rel hc) (fun _ hc => hc), rfl, ⟨Nat.one_pos, .ints _ _, trivial⟩, hK⟩
  · exact ha.elim
end Go.Tk
end
section
namespace Go.Tk
inductive Ty where
  | bool
  | int (k : IntKind)
  | str
  | arr (k : IntKind) (n : Nat)
  | ints (k : IntKind)
  | rows (esz : Nat) (ts : List Ty)
def tyFs (P : Program) (r : TypeId → Option (List Ty)) (sz : Nat) : Nat → List Field → Option (List Ty)
  | o, [] => if o = sz then some [] else none
  | o, f :: fs => if f.offset = o then (r f.type).bind fun a => (tyFs P r sz (o + P.cellsOf f.type) fs).bind fun b => some (a ++ b) else none
def tyOf (P : Program) : Nat → TypeId → Option (List Ty)
  | 0, _ => none
  | m + 1, t => match P.underlying t with
    | some .bool => some [.bool]
    | some (.int k) => some [.int k]
    | some .string => some [.str]
    | some (.array n e) => match P.underlying e with
      | some (.int k) => if P.cellsOf t = n ∧ P.cellsOf e = 1 then some [.arr k n] else none
      | _ => none
    | some (.slice e) => match P.underlying e with
      | some (.int k) => if P.cellsOf e = 1 then some [.ints k] else none
      | _ => (tyOf P m e).bind fun ts => some [.rows (P.cellsOf e) ts]
    | some (.struct fs) => tyFs P (tyOf P m) (P.cellsOf t) 0 fs.toList
    | _ => none
mutual
inductive FitsT : Ty → AV → Prop
  | bool (b : Bool) : FitsT .bool (.bool b)
  | int (k : IntKind) (n : Int) (h : (Lit.int k n).wf = true) : FitsT (.int k) (.int k n)
  | str (s : ByteArray) (h : s.size ≤ maxLen) : FitsT .str (.str s)
  | arr (k : IntKind) (n : Nat) (xs : List Int) (h : xs.length = n) (hw : ∀ i, i < n → (Lit.int k (xs.getD i 0)).wf = true) : FitsT (.arr k n) (.arr k n xs)
  | ints (k : IntKind) (xs : List Int) (n : Nat) (h : xs.length = n) (hm : n ≤ maxLen) (hw : ∀ i, i < n → (Lit.int k (xs.getD i 0)).wf = true) : FitsT (.ints k) (.vints k xs n)
  | rows (esz : Nat) (ts : List Ty) (n : Nat) (f : Nat → List AV) (hm : n ≤ maxLen) (h : ∀ i, i < n → Fits ts (f i)) : FitsT (.rows esz ts) (.vrows esz n f n)
inductive Fits : List Ty → List AV → Prop
  | nil : Fits [] []
  | cons (t : Ty) (a : AV) (ts : List Ty) (vz : List AV) (h : FitsT t a) (r : Fits ts vz) : Fits (t :: ts) (a :: vz)
end
theorem Fits.append : ∀ {ts wz : List Ty} {vz bs : List AV}, Fits ts vz → Fits wz bs → Fits (ts ++ wz) (vz ++ bs)
  | _, _, _, _, .nil, h => h
  | _, _, _, _, .cons t a ts vz h r, k => .cons t a _ _ h (Fits.append r k)
def tE (w : World) : Env := ⟨fun _ => none, fun a c => w.cell? a = some c⟩
section
variable {H : Type} {enc : TypeId × Value → H} {P : Program} {w : World} {sp : Nat → Bool} {held : Bool}
theorem ints_of_cells {k : IntKind} {n : Nat} {cs : List Value} (hl : cs.length = n) (h : ∀ i, i < n → ∃ z, cs[i]? = some (.int k z) ∧ (Lit.int k z).wf = true) :
    ∃ xs : List Int, xs.length = n ∧ (∀ i, i < n → (Lit.int k (xs.getD i 0)).wf = true) ∧ ∀ i, i < n → cs[i]? = some (.int k (xs.getD i 0)) := by
  refine ⟨cs.map fun v => match v with | .int _ z => z | _ => 0, by simp [hl], fun i hi => ?_, fun i hi => ?_⟩
  · obtain ⟨z, h1, h2⟩ := h i hi
    rw [List.getD_eq_getElem?_getD, List.getElem?_map, h1]
    exact h2
  · obtain ⟨z, h1, h2⟩ := h i hi
    rw [List.getD_eq_getElem?_getD, List.getElem?_map, h1]
    rfl
theorem choose2 {α β : Type} {n : Nat} {p : Nat → α → β → Prop} [Inhabited α] [Inhabited β] (h : ∀ i, i < n → ∃ a b, p i a b) : ∃ (f : Nat → α) (g : Nat → β), ∀ i, i < n → p i (f i) (g i) :=
  ⟨fun i => if hi : i < n then Classical.choose (h i hi) else default, fun i => if hi : i < n then Classical.choose (Classical.choose_spec (h i hi)) else default, fun i hi => by
    simp only [hi, dite_true]
    exact Classical.choose_spec (Classical.choose_spec (h i hi))⟩
theorem open_ty : ∀ (m : Nat) (t : TypeId) (ts : List Ty), tyOf P m t = some ts → ∀ (fuel : Nat) (cs : List Value) (x : DataW H × List MemPlace), DataW.trod enc P w 0 sp held fuel t cs = some x → ∃ vz, Fits ts vz ∧ CRel (tE w) vz cs
  | 0, _, _, ht => by simp [tyOf] at ht
  | m + 1, t, ts, ht => by
    intro fuel cs x hx
    unfold tyOf at ht
    split at ht
    · rename_i hu
      cases ht
      obtain ⟨b, rfl, _⟩ := DataW.trod_bool hu hx
      exact ⟨[.bool b], .cons _ _ _ _ (.bool b) .nil, .one _ _ _ _ rfl rfl (.bool b) .nil⟩
    · rename_i k hu
      cases ht
      obtain ⟨n, rfl, _, hw⟩ := DataW.trod_int hu hx
      exact ⟨[.int k n], .cons _ _ _ _ (.int k n hw) .nil, .one _ _ _ _ rfl rfl (.int k n) .nil⟩
    · rename_i hu
      cases ht
      obtain ⟨s, rfl, _, hw⟩ := DataW.trod_string hu hx
      exact ⟨[.str s], .cons _ _ _ _ (.str s hw) .nil, .one _ _ _ _ rfl rfl (.str s) .nil⟩
    · rename_i n e hu
      split at ht
      · rename_i k he
        split at ht
        · rename_i hc
          obtain ⟨hc, h1⟩ := hc
          cases ht
          obtain ⟨xs, q, rfl, rfl, hl, hn, hi⟩ := DataW.trod_array hu hx
          rw [hc] at hl
          obtain ⟨zs, z1, z2, z3⟩ := ints_of_cells (k := k) hl fun i hlt => by
            have := hi i hlt
            rw [List.getElem?_eq_getElem (by omega), h1] at this
            obtain ⟨z, e1, _, e2⟩ := DataW.trod_int he this
            refine ⟨z, ?_, e2⟩
            rw [Nat.mul_one] at e1
            have := congrArg (fun l => l[0]?) e1
            simpa using this
          refine ⟨[.arr k n zs], .cons _ _ _ _ (.arr k n zs z1 z2) .nil, ?_⟩
          have : cs = intCells k n zs ++ [] := by
            rw [List.append_nil]
            refine List.ext_getElem? fun i => ?_
            by_cases hlt : i < n
            · rw [z3 i hlt]
              simp [intCells, hlt]
            · rw [List.getElem?_eq_none (by omega), List.getElem?_eq_none (by rw [intCells_length]; omega)]
          rw [this]
          exact .arr _ _ _ _ _ .nil
        · cases ht
      · cases ht
    · rename_i e hu
      split at ht
      · rename_i k he
        split at ht
        · rename_i hc
          cases ht
          rcases DataW.trod_slice hu hx with ⟨rfl, _⟩ | ⟨a, len, cap, elems, rest, n, rfl, rfl, _, _, hl, hm, hlen, hi, _, _⟩
          · exact ⟨[.vints k [] 0], .cons _ _ _ _ (.ints k [] 0 rfl (Nat.zero_le _) fun i hi => absurd hi (Nat.not_lt_zero i)) .nil, .one _ _ _ _ rfl rfl (.vintsNil _ _ _ rfl rfl) .nil⟩
          · obtain ⟨zs, z1, z2, z3⟩ := ints_of_cells (k := k) (n := len) (cs := (List.range len).map fun i => (w.cell? (a.add i)).getD undef) (by simp) fun i hlt => by
              have := hi i hlt
              rw [List.getElem?_eq_getElem (by omega), hc, Nat.mul_one] at this
              obtain ⟨cs', h1, h2⟩ := Option.bind_eq_some_iff.1 this
              obtain ⟨z, rfl, _, e2⟩ := DataW.trod_int he h2
              refine ⟨z, ?_, e2⟩
              simp [hlt, Go.ChangeShapes.cell_of_cells?_one h1]
            refine ⟨[.vints k zs len], .cons _ _ _ _ (.ints k zs len z1 (by omega) z2) .nil, .one _ _ _ _ rfl rfl (.vints k zs len a cap (by omega) (by omega) fun i hlt => ?_) .nil⟩
            rw [z1] at hlt
            have := hi i hlt
            rw [List.getElem?_eq_getElem (by omega), hc, Nat.mul_one] at this
            obtain ⟨cs', h1, h2⟩ := Option.bind_eq_some_iff.1 this
            obtain ⟨z, rfl, _, e2⟩ := DataW.trod_int he h2
            have h3 := z3 i hlt
            have h4 := Go.ChangeShapes.cell_of_cells?_one h1
            simp [hlt, h4] at h3
            show w.cell? (a.add i) = _
            rw [h4, h3, List.getD_eq_getElem?_getD]
        · cases ht
      · obtain ⟨es, h1, h2⟩ := Option.bind_eq_some_iff.1 ht
        cases h2
        rcases DataW.trod_slice hu hx with ⟨rfl, _⟩ | ⟨a, len, cap, elems, rest, n, rfl, rfl, _, _, hl, hm, hlen, hi, _, _⟩
        · exact ⟨[.vrows (P.cellsOf e) 0 (fun _ => []) 0], .cons _ _ _ _ (.rows _ _ 0 _ (Nat.zero_le _) fun i hi => absurd hi (Nat.not_lt_zero i)) .nil, .one _ _ _ _ rfl rfl (.vrowsNil _ _ _ _ rfl rfl) .nil⟩
        · obtain ⟨f, g, hfg⟩ := choose2 (n := len) (p := fun i (vz : List AV) (vs : List Value) => Fits es vz ∧ CRel (tE w) vz vs ∧ w.cells? 0 (a.add (i * P.cellsOf e)) (P.cellsOf e) = some vs) fun i hlt => by
            have := hi i hlt
            rw [List.getElem?_eq_getElem (by omega)] at this
            obtain ⟨cs', k1, k2⟩ := Option.bind_eq_some_iff.1 this
            obtain ⟨vz, f1, f2⟩ := open_ty m _ _ h1 _ _ _ k2
            exact ⟨vz, cs', f1, f2, k1⟩
          refine ⟨[.vrows (P.cellsOf e) len f len], .cons _ _ _ _ (.rows _ _ len f (by omega) fun i hlt => (hfg i hlt).1) .nil, .one _ _ _ _ rfl rfl (.vrows _ _ _ _ a cap g (Nat.le_refl _) hl (fun i hlt => (hfg i hlt).2.1) (fun i hlt => (World.cells?_some (hfg i hlt).2.2).2.1) fun i j c hlt hj => ?_) .nil⟩
          obtain ⟨_, hl', hc'⟩ := World.cells?_some (hfg i hlt).2.2
          have hj' : j < P.cellsOf e := by
            rcases Nat.lt_or_ge j (P.cellsOf e) with h | h
            · exact h
            · rw [List.getElem?_eq_none (by omega)] at hj; cases hj
          have := hc' j hj'
          rw [hj] at this
          show w.cell? (a.add (i * P.cellsOf e + j)) = some c
          rw [← this]
          rw [Addr.add_add]
    · rename_i fs hu
      obtain ⟨xs, n, rfl, rfl, hl, hn, hf⟩ := DataW.trod_struct hu hx
      have key : ∀ (l : List Field) (o : Nat) (ts : List Ty) (i0 : Nat), tyFs P (tyOf P m) (P.cellsOf t) o l = some ts → (∀ i f, l[i]? = some f → fs[i0 + i]? = some f) → ∃ vz, Fits ts vz ∧ CRel (tE w) vz (cs.drop o) := by
        intro l
        induction l with
        | nil =>
          intro o ts i0 h _
          unfold tyFs at h
          split at h
          · rename_i ho
            cases h
            exact ⟨[], .nil, by rw [List.drop_eq_nil_of_le (by omega)]; exact .nil⟩
          · cases h
        | cons f l ih =>
          intro o ts i0 h hl'
          unfold tyFs at h
          split at h
          · rename_i ho
            obtain ⟨a, h1, h2⟩ := Option.bind_eq_some_iff.1 h
            obtain ⟨b, h3, h4⟩ := Option.bind_eq_some_iff.1 h2
            cases h4
            have h0 : fs[i0]? = some f := hl' 0 f rfl
            have hlt : i0 < fs.size := by
              rcases Nat.lt_or_ge i0 fs.size with h | h
              · exact h
              · rw [Array.getElem?_eq_none (by omega)] at h0; cases h0
            have k := hf i0 f h0
            rw [List.getElem?_eq_getElem (by omega), ho] at k
            obtain ⟨vz, p1, p2⟩ := open_ty m _ _ h1 _ _ _ k
            obtain ⟨bs, q1, q2⟩ := ih (o + P.cellsOf f.type) b (i0 + 1) h3 fun i g hg => by
              have := hl' (i + 1) g hg
              rw [← this]; congr 1; omega
            refine ⟨vz ++ bs, p1.append q1, ?_⟩
            have e : cs.drop o = (cs.drop o).take (P.cellsOf f.type) ++ cs.drop (o + P.cellsOf f.type) := by
              rw [← List.drop_drop, List.take_append_drop]
            rw [e]
            exact p2.append q2
          · cases h
      obtain ⟨vz, h1, h2⟩ := key fs.toList 0 ts 0 ht fun i f h => by simpa using h
      exact ⟨vz, h1, by simpa using h2⟩
    · cases ht
def isAgg (P : Program) (t : TypeId) : Bool := match P.underlying t with
  | some (.struct _) | some (.array _ _) => true
  | _ => false
inductive FitsA : Bool → List Ty → AV → Prop
  | agg (ts : List Ty) (vz : List AV) (h : Fits ts vz) : FitsA true ts (.agg vz)
  | one (t : Ty) (a : AV) (h : FitsT t a) : FitsA false [t] a
theorem open_one {m : Nat} {t : TypeId} {ts : List Ty} (ht : tyOf P m t = some ts) (hg : isAgg P t = false) {v : Value} {r : Reach} {b : Nat} (hv : Value.okWide P w r b t v) :
    v.cells.toList = [v] ∧ ∃ τ, ts = [τ] ∧ ∀ k n, τ ≠ .arr k n := by
  cases m with
  | zero => simp [tyOf] at ht
  | succ m =>
    unfold tyOf at ht
    unfold isAgg at hg
    split at ht
    · rename_i hu; cases ht; obtain ⟨b, rfl⟩ := Go.WideShapes.okWide_bool hu hv; exact ⟨rfl, _, rfl, fun _ _ h => by cases h⟩
    · rename_i hu; cases ht; obtain ⟨b, rfl⟩ := Go.WideShapes.okWide_int hu hv; exact ⟨rfl, _, rfl, fun _ _ h => by cases h⟩
    · rename_i hu; cases ht; obtain ⟨b, rfl⟩ := Go.WideShapes.okWide_string hu hv; exact ⟨rfl, _, rfl, fun _ _ h => by cases h⟩
    · rename_i hu; simp [hu] at hg
    · rename_i hu
      obtain ⟨a, l, c, rfl⟩ := Go.WideShapes.okWide_slice hu hv
      split at ht
      · split at ht
        · cases ht; exact ⟨rfl, _, rfl, fun _ _ h => by cases h⟩
        · cases ht
      · obtain ⟨es, h1, h2⟩ := Option.bind_eq_some_iff.1 ht
        cases h2; exact ⟨rfl, _, rfl, fun _ _ h => by cases h⟩
    · rename_i hu; simp [hu] at hg
    · cases ht
theorem open_arg {m : Nat} {t : TypeId} {ts : List Ty} {g : Bool} (ht : tyOf P m t = some ts) (hg : isAgg P t = g) {v : Value} {r : Reach} {b : Nat} (hv : Value.okWide P w r b t v) {d : DataW H} {ps : List MemPlace} (h : DataW.Trod enc P w 0 sp held t v d ps) :
    ∃ a, FitsA g ts a ∧ VRel (tE w) a v := by
  obtain ⟨fuel, hf⟩ := h
  obtain ⟨vz, f1, f2⟩ := open_ty m _ _ ht _ _ _ hf
  cases g with
  | true =>
    have : ∃ cs, v = .agg cs := by
      unfold isAgg at hg
      unfold Value.okWide at hv
      split at hg
      · rename_i hu; simp only [hu] at hv; obtain ⟨cs, rfl, _⟩ := hv; exact ⟨cs, rfl⟩
      · rename_i hu; simp only [hu] at hv; obtain ⟨cs, rfl, _⟩ := hv; exact ⟨cs, rfl⟩
      · cases hg
    obtain ⟨cs, rfl⟩ := this
    refine ⟨.agg vz, .agg _ _ f1, ?_⟩
    have : cs = (Value.cells (.agg cs)).toList.toArray := by simp [Value.cells]
    rw [this]
    exact .agg _ _ f2
  | false =>
    obtain ⟨h1, τ, rfl, h2⟩ := open_one ht hg hv
    rw [h1] at f2
    cases f1 with
    | cons _ a _ vz f r =>
      cases r
      generalize hL : [v] = L at f2
      cases f2 with
      | one _ _ _ _ h0 h1 h t => cases hL; exact ⟨_, .one _ _ f, h⟩
      | arr k n xs _ cs t => cases f; exact absurd rfl (h2 _ _)
end
end Go.Tk
end
section
namespace Go.Tk
open Go.ChangeShapes Go.WideShapes Go.RowKit
theorem tE_emb (w : World) : Emb (tE w) ⟨0, []⟩ w where
  fresh := fun _ _ => rfl
  lt := fun x B h => by simp [Heap.get, getB] at h
  own := fun x B h => by simp [Heap.get, getB] at h
  disj := fun x y B B' b N N' h => absurd h (by simp [Heap.get, getB])
  imm := fun _ _ h => h
  sep := fun a c x B N _ h => absurd h (by simp [Heap.get, getB])
theorem CallsA.topT {P : Program} {f : FuncId} {args : List AV} (h : CallsA P f args ⟨0, []⟩ fun o h' => ∃ v, o = .ret v ∧ h' = ⟨0, []⟩ ∧ v = .bool true) {w : World} {rs : List Value} (hl : LRel (tE w) args rs) :
    Calls P f rs.toArray w fun e w' => e = .returned (.bool true) ∧ Go.RowKit.Below w.heap.size w w' := by
  refine (h (tE w) w rs (tE_emb w) hl).mono ?_
  rintro e w' ⟨E', o, h', ⟨v, rfl, rfl, hv⟩, hev, hor⟩
  obtain rfl := hv
  cases hor with
  | ret v r hr =>
    cases hr
    refine ⟨rfl, hev.os, hev.tape, hev.output, hev.size, fun k hk => hev.keep k hk ?_⟩
    rintro ⟨x, B, N, hx, _⟩
    exact absurd hx (by simp [Heap.get, getB])
def argTys (P : Program) (m : Nat) : List TypeId → Option (List (Bool × List Ty))
  | [] => some []
  | t :: r => (tyOf P m t).bind fun a => (argTys P m r).bind fun b => some ((isAgg P t, a) :: b)
inductive FitsL : List (Bool × List Ty) → List AV → Prop
  | nil : FitsL [] []
  | cons (g : Bool) (ts : List Ty) (a : AV) (r : List (Bool × List Ty)) (vz : List AV) (h : FitsA g ts a) (k : FitsL r vz) : FitsL ((g, ts) :: r) (a :: vz)
section
variable {H : Type} {enc : TypeId × Value → H} {P : Program} {w : World}
theorem open_args {m : Nat} {r : Reach} {b : Nat} : ∀ {ts : List TypeId} {τs : List (Bool × List Ty)} {vs : List Value} {ds : List (DataW H)} {ps : List MemPlace}, argTys P m ts = some τs → (∀ (j : Nat) t v, ts[j]? = some t → vs[j]? = some v → Value.okWide P w r b t v) →
    DataW.TrodAll enc P w 0 (fun _ => true) true ts vs ds ps → ∃ vz, FitsL τs vz ∧ LRel (tE w) vz vs
  | [], τs, vs, ds, ps, ha, _, h => by
    cases ha
    obtain ⟨rfl, _, _⟩ := trodAll_nil h
    exact ⟨[], .nil, .nil⟩
  | t :: ts, τs, vs, ds, ps, ha, hv, h => by
    obtain ⟨a, h1, h2⟩ := Option.bind_eq_some_iff.1 ha
    obtain ⟨c, h3, h4⟩ := Option.bind_eq_some_iff.1 h2
    cases h4
    obtain ⟨v, vs', d, ds', p, q, rfl, rfl, rfl, k1, k2⟩ := trodAll_cons h
    obtain ⟨x, f1, f2⟩ := open_arg h1 rfl (hv 0 t v rfl rfl) k1
    obtain ⟨vz, g1, g2⟩ := open_args h3 (fun j t' v' e1 e2 => hv (j + 1) t' v' e1 e2) k2
    exact ⟨x :: vz, .cons _ _ _ _ _ f1 g1, .cons _ _ _ _ f2 g2⟩
theorem trodAll_len {sp : Nat → Bool} {held : Bool} : ∀ {ts : List TypeId} {vs : List Value} {ds : List (DataW H)} {ps : List MemPlace}, DataW.TrodAll enc P w 0 sp held ts vs ds ps → ds.length = ts.length
  | [], _, _, _, h => by obtain ⟨_, rfl, _⟩ := trodAll_nil h; rfl
  | t :: ts, _, _, _, h => by
    obtain ⟨v, vs', d, ds', p, q, rfl, rfl, rfl, k1, k2⟩ := trodAll_cons h
    simp [trodAll_len k2]
theorem below_all {W' : World} (laid : laidOutB P = true) (hb : Below w.heap.size w W') : ∀ {ts : List TypeId} {vs : List Value} {ds : List (DataW H)} {ps : List MemPlace}, ts.all (fun t => P.readableRec t && decide (t < P.types.size)) = true →
    DataW.TrodAll enc P w 0 (fun _ => true) true ts vs ds ps → DataW.TrodAll enc P W' 0 (fun b => decide (b < w.heap.size)) true ts vs ds ps
  | [], _, _, _, _, h => by obtain ⟨rfl, rfl, rfl⟩ := trodAll_nil h; exact trodAll_mk0
  | t :: ts, _, _, _, hr, h => by
    obtain ⟨v, vs', d, ds', p, q, rfl, rfl, rfl, k1, k2⟩ := trodAll_cons h
    simp only [List.all_cons, Bool.and_eq_true, decide_eq_true_eq] at hr
    have lt : ∀ x ∈ p, x.block < w.heap.size := by obtain ⟨m, hm⟩ := k1; exact DataW.trod_lt m _ _ _ hm
    exact trodAll_cons_mk (Below.trod laid hr.1.1 hr.1.2 k1 hb lt) (below_all laid hb hr.2 k2)
end
theorem lifted_gen {H : Type} {enc : TypeId × Value → H} {C : Checked} {os : Os} {f : FuncId} {fn : Func} {s : ChangeSpec} {conds : List PathCond} {tb : TypeId} {m : Nat} {τs : List (Bool × List Ty)}
    (own : ownKnob C.prog.godebug = none) (laid : laidOutB C.prog = true) (started : os.Started) (noInit : C.prog.inits.idxOf? f = none) (hfn : C.prog.funcs[f]? = some fn)
    (witness : ∃ (w : World) (tape : Tape) (i : Input), w.os = os ∧ (w.forCall tape i).Shaped C.prog ∧ i.vars = [] ∧ Input.okWide C.prog (w.forCall tape i) .any w.heap.size f i ∧
      s.pre6 enc C.prog fn conds false (w.forCall tape i).memory i.args ∧ ({} : Assume).holds C.prog (lone (Frame.enter C.prog f i.args .normal) [] (w.forCall tape i)))
    (hvars : s.vars = []) (hr : fn.resultTypes = #[tb]) (hb : C.prog.underlying tb = some .bool) (hread : fn.params.toList.all (fun t => C.prog.readableRec t && decide (t < C.prog.types.size)) = true) (hτ : argTys C.prog m fn.params.toList = some τs)
    (hs : ∀ ds : List (DataW H), ds.length = fn.params.toList.length → s.fn H ds = { results := [.lit (.bool true)], args := ds })
    (walk : ∀ vz, FitsL τs vz → CallsA C.prog f vz ⟨0, []⟩ fun o h' => ∃ v, o = .ret v ∧ h' = ⟨0, []⟩ ∧ v = .bool true) :
    ReturnsInHanded {} C os f .any (s.pre6 enc C.prog fn conds false) (s.post enc C.prog fn false true false false) := by
  refine returnsInHanded_of_change own started noInit hfn witness ?_
  intro W base args ds gs before hval hW _ _
  have hW' := hW
  obtain ⟨p, q, hA, hV, rfl, hfz, hnd⟩ := hW
  have hV0 := hV
  rw [hvars] at hV
  obtain ⟨rfl, rfl⟩ := trodVars_none hV
  obtain ⟨vz, f1, f2⟩ := open_args hτ (fun j t v e1 e2 => hval j t v (by simpa using e1) (by simpa using e2)) hA
  have e0 : args = args.toList.toArray := by simp
  have key := (walk vz f1).topT f2
  rw [← e0] at key
  refine key.mono fun e W' ⟨he, bel⟩ => ?_
  subst he
  have hfn' := hs ds (trodAll_len hA)
  refine ⟨_, rfl, ds, [], _, [], p, [], hW', ?_, ?_, ?_, bel.frame _, fun h => by cases h⟩
  · rw [List.append_nil, hfn', hr]
    exact trodAll_mk1 (shut_bool hb _)
  · rw [List.append_nil, hfn']
    exact below_all laid bel hread hA
  · rw [List.append_nil, hfn', hvars]
    rfl
end Go.Tk
end
section
namespace Go.Tk
def inTy : List Ty := [.arr .u8 32, .int .i64, .int .i64, .arr .u8 32, .arr .u8 32, .arr .u8 32]
def outTy : List Ty := [.int .i64, .int .i64, .arr .u8 32, .arr .u8 32, .arr .u8 32, .arr .u8 32, .int .i64, .int .i64]
def txTy : List Ty := [.int .i64, .rows 130 inTy, .rows 132 outTy]
theorem bytes_of {n : Nat} {xs : List Int} (h : xs.length = n) (hw : ∀ i, i < n → (Lit.int .u8 (xs.getD i 0)).wf = true) : Bytes xs := ⟨fun i => by
  by_cases hi : i < n
  · have := hw i hi
    simp [Lit.wf] at this
    have m1 : IntKind.u8.min = 0 := rfl
    have m2 : IntKind.u8.max = 255 := rfl
    simp
    omega
  · rw [List.getD_eq_getElem?_getD, List.getElem?_eq_none (by omega)]; simp⟩
theorem i64_of {n : Int} (h : (Lit.int .i64 n).wf = true) : -9223372036854775808 ≤ n ∧ n ≤ 9223372036854775807 := by
  simp [Lit.wf] at h
  have m1 : IntKind.i64.min = -9223372036854775808 := rfl
  have m2 : IntKind.i64.max = 9223372036854775807 := rfl
  omega
structure InS.By (x : InS) : Prop where
  name : Bytes x.name
  tag : Bytes x.tag
  also : Bytes x.also
  secret : Bytes x.secret
structure OutS.By (x : OutS) : Prop where
  owner : Bytes x.owner
  other : Bytes x.other
  point : Bytes x.point
  hash : Bytes x.hash
structure TxAll (t : TxS) : Prop where
  ins : ∀ i, i < t.N → (t.ins i).By
  outs : ∀ i, i < t.M → (t.outs i).By
theorem TxAll.b {t : TxS} (h : TxAll t) : TxB t := ⟨fun i hi => ⟨(h.outs i hi).owner, (h.outs i hi).other⟩⟩
theorem fits_in {l : List AV} (h : Fits inTy l) : ∃ x : InS, l = x.c ∧ x.Ok ∧ x.By := by
  unfold inTy at h
  cases h with | cons _ a _ u h1 h =>
  cases h with | cons _ b _ u h2 h =>
  cases h with | cons _ c _ u h3 h =>
  cases h with | cons _ d _ u h4 h =>
  cases h with | cons _ e _ u h5 h =>
  cases h with | cons _ f _ u h6 h =>
  cases h; cases h1; cases h2; cases h3; cases h4; cases h5; cases h6
  rename_i x1 l1 w1 x2 w2 x3 w3 x4 l4 w4 x5 l5 w5 x6 l6 w6
  exact ⟨⟨x1, x2, x3, x4, x5, x6⟩, rfl, ⟨l1, l4, l5, l6⟩, ⟨bytes_of l1 w1, bytes_of l4 w4, bytes_of l5 w5, bytes_of l6 w6⟩⟩
theorem fits_out {l : List AV} (h : Fits outTy l) : ∃ x : OutS, l = x.c ∧ x.Ok ∧ x.By := by
  unfold outTy at h
  cases h with | cons _ a _ u h1 h =>
  cases h with | cons _ b _ u h2 h =>
  cases h with | cons _ c _ u h3 h =>
  cases h with | cons _ d _ u h4 h =>
  cases h with | cons _ e _ u h5 h =>
  cases h with | cons _ f _ u h6 h =>
  cases h with | cons _ g _ u h7 h =>
  cases h with | cons _ i _ u h8 h =>
  cases h; cases h1; cases h2; cases h3; cases h4; cases h5; cases h6; cases h7; cases h8
  rename_i x1 w1 x2 w2 x3 l3 w3 x4 l4 w4 x5 l5 w5 x6 l6 w6 x7 w7 x8 w8
  exact ⟨⟨x1, x2, x3, x4, x5, x6, x7, x8⟩, rfl, ⟨l3, l4, l5, l6⟩, ⟨bytes_of l3 w3, bytes_of l4 w4, bytes_of l5 w5, bytes_of l6 w6⟩⟩
theorem pick {α : Type} [Inhabited α] {n : Nat} {p : Nat → α → Prop} (h : ∀ i, i < n → ∃ a, p i a) : ∃ f : Nat → α, ∀ i, i < n → p i (f i) :=
  ⟨fun i => if hi : i < n then Classical.choose (h i hi) else default, fun i hi => by
    simp only [hi, dite_true]
    exact Classical.choose_spec (h i hi)⟩
instance : Inhabited InS := ⟨inZ⟩
instance : Inhabited OutS := ⟨outZ⟩
theorem fits_tx {a : AV} (h : FitsA true txTy a) : ∃ (l : List AV) (t : TxS), a = .agg l ∧ isTx l t ∧ (t.N < 900000000000 → t.M < 900000000000 → t.Ok) ∧ TxAll t := by
  cases h with | agg _ u h =>
  unfold txTy at h
  cases h with | cons _ a _ u h1 h =>
  cases h with | cons _ b _ u h2 h =>
  cases h with | cons _ c _ u h3 h =>
  cases h; cases h1; cases h2; cases h3
  rename_i x1 w1 n f hn hf m g hm hg
  obtain ⟨ins, hi⟩ := pick fun i hi => fits_in (hf i hi)
  obtain ⟨outs, ho⟩ := pick fun i hi => fits_out (hg i hi)
  exact ⟨_, ⟨x1, n, ins, m, outs⟩, rfl, ⟨rfl, ⟨⟨rfl, rfl⟩, fun i h => (hi i h).1⟩, ⟨⟨rfl, rfl⟩, fun i h => (ho i h).1⟩⟩, fun h1 h2 => ⟨h1, h2, fun i h => (hi i h).2.1, fun i h => (ho i h).2.1⟩, ⟨fun i h => (hi i h).2.2, fun i h => (ho i h).2.2⟩⟩
theorem CallsA.conv {P : Program} {f : FuncId} {us bs : List AV} {h : Heap} {K : KO} (hc : CallsA P f bs h K) (hr : ∀ E rs, LRel E us rs → LRel E bs rs) : CallsA P f us h K :=
  fun E w rs he hl => hc E w rs he (hr E rs hl)
theorem Bytes.nil : Bytes [] := ⟨fun i => by simp⟩
theorem Bytes.cons {x : Int} {xs : List Int} (hx : 0 ≤ x ∧ x ≤ 255) (h : Bytes xs) : Bytes (x :: xs) := ⟨fun i => by
  cases i with
  | zero => simpa using hx
  | succ i => have := h.h i; simpa using this⟩
theorem Bytes.append {xs ys : List Int} (h : Bytes xs) (k : Bytes ys) : Bytes (xs ++ ys) := ⟨fun i => by
  rw [List.getD_eq_getElem?_getD, List.getElem?_append]
  split
  · have := h.h i; rwa [List.getD_eq_getElem?_getD] at this
  · have := k.h (i - xs.length); rwa [List.getD_eq_getElem?_getD] at this⟩
theorem Bytes.ite {p : Prop} [Decidable p] {xs ys : List Int} (h : Bytes xs) (k : Bytes ys) : Bytes (if p then xs else ys) := by split <;> assumption
theorem wu8r (x : Int) : 0 ≤ IntKind.u8.wrap x ∧ IntKind.u8.wrap x ≤ 255 := by
  unfold IntKind.wrap
  simp [IntKind.bits, IntKind.signed]
  omega
theorem numW_bytes (n : Int) : Bytes (numW n) := by
  have hb : ∀ k, 0 ≤ b8 n k ∧ b8 n k ≤ 255 := fun k => wu8r _
  unfold numW
  split
  · exact .cons (wu8r _) .nil
  split
  · exact .cons (by omega) (.cons (hb _) (.cons (hb _) .nil))
  split
  · exact .cons (by omega) (.cons (hb _) (.cons (hb _) (.cons (hb _) (.cons (hb _) .nil))))
  · exact .cons (by omega) (.cons (hb _) (.cons (hb _) (.cons (hb _) (.cons (hb _) (.cons (hb _) (.cons (hb _) (.cons (hb _) (.cons (hb _) .nil))))))))
theorem inW_bytes {x : InS} (h : x.By) (core : Bool) : Bytes (inW numW core x) := by
  unfold inW
  refine (h.name.append (numW_bytes _)).append ?_
  cases core
  · exact (numW_bytes _).append (((Bytes.nil.ite h.tag).append (h.also.ite .nil)).append (h.secret.ite .nil))
  · exact .nil
theorem outW_bytes {x : OutS} (h : x.By) : Bytes (outW numW x) := by
  unfold outW
  exact (((((((numW_bytes _).append (numW_bytes _)).append h.owner).append (h.other.ite .nil)).append (h.point.ite .nil)).append (h.hash.ite .nil)).append ((numW_bytes _).ite .nil)).append ((numW_bytes _).ite .nil)
theorem catL_bytes {f : Nat → List Int} : ∀ n, (∀ i, i < n → Bytes (f i)) → Bytes (catL f n)
  | 0, _ => .nil
  | n + 1, h => (catL_bytes n fun i hi => h i (by omega)).append (h n (by omega))
theorem rawT_bytes {t : TxS} (h : TxAll t) (core : Bool) : Bytes (rawT numW t core) := by
  unfold rawT rawO rawI
  exact ((((numW_bytes _).append (numW_bytes _)).append (catL_bytes _ fun i hi => inW_bytes (h.ins i hi) core)).append (numW_bytes _)).append (catL_bytes _ fun i hi => outW_bytes (h.outs i hi))
theorem subO_none (a : Nat) : subO a none = a := rfl
end Go.Tk
end
section
namespace Go.Tk
def padE (n i : Int) : Int := IntKind.u8.wrap (Int.tmod (shrI .u64 (IntKind.u64.wrap (IntKind.u64.wrap n * 8)) (IntKind.u64.wrap (IntKind.i64.wrap (56 - IntKind.i64.wrap (8 * i))))) 256)
def padN (n : Int) : Nat → List Int
  | 0 => []
  | i + 1 => padN n i ++ [padE n i]
theorem padN_len (n : Int) : ∀ i, (padN n i).length = i
  | 0 => rfl
  | i + 1 => by rw [padN, List.length_append, padN_len n i]; rfl
def paS (bs ys : List Int) (n L i : Nat) : St := ⟨39, [(5, .int .i64 i), (4, .nslice ⟨3, 0, 0, 0, 0⟩ 1 L L), (0, .vints .u8 bs n)], ⟨4, [(3, .ints .u8 ys)]⟩, []⟩
set_option maxRecDepth 100000 in
set_option maxHeartbeats 0 in
theorem pad_0 (bs ys zs : List Int) (n L L' i : Nat) (Z1 Z2 : Prop) (hi : i ≤ 8) (hL : ys.length = L) (hb : L < 10000000000000) (hz : zs = ys ++ [padE n i]) (hL' : L' = zs.length) (h1 : i < 8 → Z1) (h2 : i = 8 → Z2) :
    roundE G0 20 125 0 0 (paS bs ys n L i) (rdM 0 0 9 (paS bs zs n L' (i + 1)) (paS bs ys n L i) (paS bs ys n L i) (paS bs ys n L i) Z1 Z2 False False) := by
  refine @Eq.mpr _ (let q1 := IntKind.wrap IntKind.u64 (IntKind.wrap IntKind.i64 (56 - IntKind.wrap IntKind.i64 (8 * (↑i : Int))));
 let q2 := ys ++ [IntKind.wrap IntKind.u8 (Int.tmod (shrI IntKind.u64 (IntKind.wrap IntKind.u64 (IntKind.wrap IntKind.u64 (↑n : Int) * 8)) q1) 256)];
 let q3 := List.length q2;
 let q4 := decide (n = n);
 iteB (decide ((↑i : Int) < 8)) (iteB (decide (0 ≤ q1)) (iteB (decide (IntKind.u8 = IntKind.u8 ∧ List.length ys = L)) (iteB (decide (q3 * 1 ≤ 140737488355328)) (iteB (decide (IntKind.wrap IntKind.i64 ((↑i : Int) + 1) = (↑(i + 1) : Int))) (iteB (decide (q3 = L')) (iteB (decide (L' ≤ q3)) (bs = bs ∧ iteB q4 (q2 = zs ∧ Z1) False) False) False) False) False) False) False) (iteB (decide ((↑i : Int) = (↑i : Int))) (iteB (decide (L = L)) (iteB (decide (L ≤ L)) (bs = bs ∧ iteB q4 (ys = ys ∧ Z2) False) False) False) False)) (by kernel_rfl) ?_
  conv => zeta
  try simp only [need_eq]
  try simp only [nope_eq]
  try simp only [iteD_eq]
  try simp only [iteT_eq]
  try simp only [iteF_eq]
  try simp only [iteE_eq]
  try simp only [Int.toNat_natCast, Nat.zero_add, true_and, and_true, Nat.le_refl]
  have hw : IntKind.i64.wrap ((i : Int) + 1) = ((i + 1 : Nat) : Int) := w64 (by omega)
  refine ⟨fun hlt => ?_, fun hge => h2 (by omega)⟩
  have hz' : zs.length = L + 1 := by rw [hz, List.length_append, hL]; rfl
  have h0 : 0 ≤ IntKind.u64.wrap (IntKind.i64.wrap (56 - IntKind.i64.wrap (8 * (i : Int)))) := by
    unfold IntKind.wrap
    simp [IntKind.bits, IntKind.signed]
    omega
  simp only [List.length_append, List.length_cons, List.length_nil]
  rw [hw]
  repeat' (first | (refine And.intro ?_ ?_) | intro _)
  all_goals first | exact h0 | omega | exact hz.symm | exact h1 (by omega) | trivial
noncomputable def E55a (bs y : List Int) (n : Nat) : Env2 := G0.withL 125 0 (goM 0 (paS bs (y ++ padN n 0) n (y ++ padN n 0).length 0) (y.length ≤ 1000000000000) (endsJ 0 8 9 (fun i => i < 8) (fun i => i = 8) (fun _ => False) (fun _ => False) (fun i => paS bs (y ++ padN n i) n (y ++ padN n i).length i) (fun i => paS bs (y ++ padN n i) n (y ++ padN n i).length i) (fun i => paS bs (y ++ padN n i) n (y ++ padN n i).length i)))
theorem E55a_ok (bs y : List Int) (n : Nat) : (E55a bs y n).Ok := by
  unfold E55a
  refine Env2.withGoM (N := 20) (S := fun i => paS bs (y ++ padN n i) n (y ++ padN n i).length i) G0_ok (by kernel_rfl) fun hC => ⟨rfl, fun i hi hgo => ?_⟩
  have hl : (y ++ padN n i).length = y.length + i := by rw [List.length_append, padN_len]
  exact pad_0 bs (y ++ padN n i) (y ++ padN n (i + 1)) n _ _ i _ _ hi rfl (by omega) (by rw [padN, List.append_assoc]) rfl (fun h => ⟨h, h⟩) (fun h => h)
def padZ (n : Nat) : List Int := List.replicate (Int.tmod (IntKind.i64.wrap (128 - Int.tmod (IntKind.i64.wrap ((n : Int) + 9)) 64)) 64).toNat 0
@[irreducible] def padR (bs : List Int) : List Int := (bs ++ [128] ++ padZ bs.length) ++ padN bs.length 8
theorem padX (n : Nat) (h : n ≤ 100000000000) : Int.tmod (IntKind.i64.wrap (128 - Int.tmod (IntKind.i64.wrap ((n : Int) + 9)) 64)) 64 = (128 - ((n : Int) + 9) % 64) % 64 := by
  have e1 : IntKind.i64.wrap ((n : Int) + 9) = (n : Int) + 9 := w64 (by omega)
  have e2 : Int.tmod ((n : Int) + 9) 64 = ((n : Int) + 9) % 64 := tm (by omega)
  have e3 : IntKind.i64.wrap (128 - ((n : Int) + 9) % 64) = 128 - ((n : Int) + 9) % 64 := w64 (by omega)
  rw [e1, e2, e3, tm (by omega)]
theorem padZ_len (n : Nat) (h : n ≤ 100000000000) : (padZ n).length ≤ 64 := by
  unfold padZ
  rw [padX n h, List.length_replicate]
  omega
set_option maxRecDepth 100000 in
set_option maxHeartbeats 0 in
theorem pad_1 (bs y r : List Int) (n L : Nat) (hn : bs.length = n) (hb : n ≤ 100000000000) (hy : y = bs ++ [128] ++ padZ n) (hr : r = y ++ padN n 8) (hL : L = r.length) :
    evF (E55a bs y n) 20 125 [.vints .u8 bs n] ⟨0, []⟩ (outM 0 (.ret (.nslice ⟨0, 0, 0, 0, 0⟩ 1 L L)) 1 [(0, .ints .u8 r)]) := by
  refine @Eq.mpr _ (let q1 := [] ++ List.take n bs;
 let q2 := List.length q1;
 let q3 := q1 ++ [(128 : Int)];
 let q4 := List.length q3;
 let q5 := Int.tmod (IntKind.wrap IntKind.i64 (128 - Int.tmod (IntKind.wrap IntKind.i64 (↑n + 9)) 64)) 64;
 let q6 := Int.toNat q5;
 let q7 := q3 ++ List.replicate q6 0;
 let q8 := List.length q7;
 let q9 := y ++ padN (↑n) 0;
 let q10 := List.length q9;
 iteB (decide (q2 * 1 ≤ 140737488355328))
 (iteB (decide (IntKind.u8 = IntKind.u8 ∧ q2 = q2))
 (iteB (decide (q4 * 1 ≤ 140737488355328))
 (iteB (decide (IntKind.u8 = IntKind.u8 ∧ q4 = q4))
 (iteB (decide ((0 : Int) = 0 ∧ 0 ≤ q5 ∧ (q4 + q6) * 1 ≤ 140737488355328))
 (iteB (decide (q8 = q10))
 (iteB (decide (q10 ≤ q8))
 (bs = bs ∧
 iteB (decide (n = n))
 (q7 = q9 ∧
 List.length y ≤ 1000000000000 ∧
 ∀ (i : Nat),
 let q21 := y ++ padN (↑n) i;
 let q22 := List.length q21;
 i ≤ 8 → (∀ (j : Nat), j < i → (fun (i : Nat) => i < 8) j) → (i = 8 → iteB (decide (q22 = L)) (iteB (decide (L ≤ q22)) (q21 = r ∧ True) False) False) ∧ (False → False) ∧ (False → False))
 False)
 False)
 False)
 False)
 False)
 False)
 False)
 False) (by kernel_rfl) ?_
  conv => zeta
  try simp only [need_eq]
  try simp only [nope_eq]
  try simp only [iteD_eq]
  try simp only [iteT_eq]
  try simp only [iteF_eq]
  try simp only [iteE_eq]
  try simp only [Int.toNat_natCast, Nat.zero_add, true_and, and_true, Nat.le_refl]
  have ht : List.take n bs = bs := by rw [← hn]; exact List.take_length
  have hz := padZ_len n hb
  have hx := padX n hb
  have e0 : [] ++ List.take n bs ++ [128] ++ List.replicate (Int.tmod (IntKind.i64.wrap (128 - Int.tmod (IntKind.i64.wrap ((n : Int) + 9)) 64)) 64).toNat 0 = y ++ padN n 0 := by rw [ht, hy]; simp [padZ, padN]
  have hyl : y.length = n + 1 + (padZ n).length := by rw [hy, List.length_append, List.length_append, hn]; rfl
  subst hL hr
  simp only [e0, ht, List.length_append, List.length_cons, List.length_nil, hn, List.nil_append]
  refine ⟨by omega, by omega, ⟨by omega, by omega⟩, ?_, ?_, ?_, by omega, fun i hi _ => ⟨fun he => by subst he; exact ⟨rfl, Nat.le_refl _, rfl⟩, fun h => h, fun h => h⟩⟩
  · rw [hyl]; unfold padZ padN; rfl
  · rw [hyl]; unfold padZ padN; exact Nat.le_refl _
  · rw [hy]; simp [padZ, padN]
theorem padr_pure (bs : List Int) (h : bs.length ≤ 100000000000) : Pure PP 125 [.vints .u8 bs bs.length] (.nslice ⟨0, 0, 0, 0, 0⟩ 1 (padR bs).length (padR bs).length) 1 [(0, .ints .u8 (padR bs))] := .evM (E55a_ok bs _ _) (pad_1 bs _ _ _ _ rfl h rfl (by unfold padR; rfl) rfl)
def padRF (P : List Int → List Int) (B : Nat) : FSumm := fun args h K => viewL none h true 20 args fun a => bytesC a fun xs => need (xs.length ≤ B) (K (.ret (.nslice ⟨h.next, 0, 0, 0, 0⟩ 1 (P xs).length (P xs).length)) ⟨h.next + 1, (h.next, .ints .u8 (P xs)) :: h.bs⟩)
theorem padRF_ok (B : Nat) (hB : B ≤ 100000000000) (args : List AV) (h : Heap) (K : KO) (hl : padRF padR B args h K) : CallsA PP 125 args h K := by
  refine Pure.fsumm (d := 20) (viewL_weak _ _ _ _ _ hl fun a ha => ?_)
  obtain ⟨xs, rfl, hK⟩ := bytesC_ok ha
  obtain ⟨hx, hK⟩ := need_ok hK
  exact ⟨_, _, _, _, padr_pure xs (Nat.le_trans hx hB), rfl, ⟨Nat.one_pos, .ints _ _, trivial⟩, hK⟩
def toE (x d : Int) : Int := IntKind.u8.wrap (Int.tmod (IntKind.u32.wrap (Int.tdiv x d)) 256)
def toN (x : List Int) : Nat → List Int
  | 0 => zero32
  | i + 1 => ((((toN x i).set (4 * i) (IntKind.u8.wrap (IntKind.u32.wrap (Int.tdiv (x.getD i 0) 16777216)))).set (4 * i + 1) (toE (x.getD i 0) 65536)).set (4 * i + 2) (toE (x.getD i 0) 256)).set (4 * i + 3) (IntKind.u8.wrap (Int.tmod (x.getD i 0) 256))
theorem toN_len (x : List Int) : ∀ i, (toN x i).length = 32
  | 0 => rfl
  | i + 1 => by simp [toN, toN_len x i]
def toS (x h : List Int) (i : Nat) : St := ⟨47, [(4, .int .i64 i), (1, pt 0), (3, pt 2), (2, pt 1)], ⟨3, [(2, .flat [.arr .u8 32 h]), (1, .flat [.arr .u8 32 zero32]), (0, .flat [.arr .u32 8 x])]⟩, []⟩
set_option maxRecDepth 100000 in
set_option maxHeartbeats 0 in
theorem to_0 (x h h' : List Int) (i : Nat) (Z1 Z2 : Prop) (hi : i ≤ 8) (hl : h.length = 32) (hh : h' = (((h.set (4 * i) (IntKind.u8.wrap (IntKind.u32.wrap (Int.tdiv (x.getD i 0) 16777216)))).set (4 * i + 1) (toE (x.getD i 0) 65536)).set (4 * i + 2) (toE (x.getD i 0) 256)).set (4 * i + 3) (IntKind.u8.wrap (Int.tmod (x.getD i 0) 256))) (h1 : i < 8 → Z1) (h2 : i = 8 → Z2) :
    roundE G0 20 127 0 0 (toS x h i) (rdM 0 0 9 (toS x h' (i + 1)) (toS x h i) (toS x h i) (toS x h i) Z1 Z2 False False) := by
  refine @Eq.mpr _ (let q1 := decide (0 ≤ (↑i : Int) ∧ (↑i : Int) < 8);
 let q2 := 0 + Int.toNat (↑i : Int);
 let q3 := decide (q2 < 8);
 let q4 := IntKind.wrap IntKind.i64 (4 * (↑i : Int));
 let q5 := 0 + Int.toNat q4;
 let q6 := IntKind.wrap IntKind.i64 (q4 + 1);
 let q7 := 0 + Int.toNat q6;
 let q8 := List.getD x q2 0;
 let q9 := List.set h q5 (IntKind.wrap IntKind.u8 (IntKind.wrap IntKind.u32 (Int.tdiv q8 16777216)));
 let q10 := IntKind.wrap IntKind.i64 (q4 + 2);
 let q11 := 0 + Int.toNat q10;
 let q12 := List.set q9 q7 (IntKind.wrap IntKind.u8 (Int.tmod (IntKind.wrap IntKind.u32 (Int.tdiv q8 65536)) 256));
 let q13 := IntKind.wrap IntKind.i64 (q4 + 3);
 let q14 := 0 + Int.toNat q13;
 let q15 := List.set q12 q11 (IntKind.wrap IntKind.u8 (Int.tmod (IntKind.wrap IntKind.u32 (Int.tdiv q8 256)) 256));
 iteB (decide ((↑i : Int) < 8)) (iteB q1 (iteB q3 (iteB (decide (0 ≤ q4 ∧ q4 < 32)) (iteB (decide (IntKind.u8 = IntKind.u8 ∧ q5 < 32 ∧ q5 < List.length h)) (iteB q1 (iteB q3 (iteB (decide (0 ≤ q6 ∧ q6 < 32)) (iteB (decide (IntKind.u8 = IntKind.u8 ∧ q7 < 32 ∧ q7 < List.length q9)) (iteB q1 (iteB q3 (iteB (decide (0 ≤ q10 ∧ q10 < 32)) (iteB (decide (IntKind.u8 = IntKind.u8 ∧ q11 < 32 ∧ q11 < List.length q12)) (iteB q1 (iteB q3 (iteB (decide (0 ≤ q13 ∧ q13 < 32)) (iteB (decide (IntKind.u8 = IntKind.u8 ∧ q14 < 32 ∧ q14 < List.length q15)) (iteB (decide (IntKind.wrap IntKind.i64 ((↑i : Int) + 1) = (↑(i + 1) : Int))) (List.set q15 q14 (IntKind.wrap IntKind.u8 (Int.tmod q8 256)) = h' ∧ zero32 = zero32 ∧ x = x ∧ Z1) False) False) False) False) False) False) False) False) False) False) False) False) False) False) False) False) False) (iteB (decide ((↑i : Int) = (↑i : Int))) (h = h ∧ zero32 = zero32 ∧ x = x ∧ Z2) False)) (by kernel_rfl) ?_
  conv => zeta
  try simp only [need_eq]
  try simp only [nope_eq]
  try simp only [iteD_eq]
  try simp only [iteT_eq]
  try simp only [iteF_eq]
  try simp only [iteE_eq]
  try simp only [Int.toNat_natCast, Nat.zero_add, true_and, and_true, Nat.le_refl]
  have hw : IntKind.i64.wrap ((i : Int) + 1) = ((i + 1 : Nat) : Int) := w64 (by omega)
  refine ⟨fun hlt => ?_, fun hge => h2 (by omega)⟩
  have e0 : IntKind.i64.wrap (4 * (i : Int)) = ((4 * i : Nat) : Int) := by rw [w64 (by omega)]; omega
  have e1 : IntKind.i64.wrap (((4 * i : Nat) : Int) + 1) = ((4 * i + 1 : Nat) : Int) := by rw [w64 (by omega)]; omega
  have e2 : IntKind.i64.wrap (((4 * i : Nat) : Int) + 2) = ((4 * i + 2 : Nat) : Int) := by rw [w64 (by omega)]; omega
  have e3 : IntKind.i64.wrap (((4 * i : Nat) : Int) + 3) = ((4 * i + 3 : Nat) : Int) := by rw [w64 (by omega)]; omega
  simp only [e0, e1, e2, e3, hw, Int.toNat_natCast, List.length_set]
  repeat' (first | (refine And.intro ?_ ?_) | intro _)
  all_goals first | omega | exact hh.symm | exact h1 (by omega) | trivial
noncomputable def E55t (x : List Int) : Env2 := G0.withL 127 0 (goM 0 (toS x zero32 0) True (endsJ 0 8 9 (fun i => i < 8) (fun i => i = 8) (fun _ => False) (fun _ => False) (fun i => toS x (toN x i) i) (fun i => toS x (toN x i) i) (fun i => toS x (toN x i) i)))
theorem E55t_ok (x : List Int) : (E55t x).Ok := by
  unfold E55t
  refine Env2.withGoM (N := 20) (S := fun i => toS x (toN x i) i) G0_ok (by kernel_rfl) fun hC => ⟨rfl, fun i hi hgo => ?_⟩
  exact to_0 x (toN x i) (toN x (i + 1)) i _ _ hi (toN_len x i) rfl (fun h => ⟨h, h⟩) (fun h => h)
@[irreducible] def toldX (x : List Int) : List Int := toN x 8
attribute [irreducible] toN
set_option maxRecDepth 100000 in
set_option maxHeartbeats 0 in
theorem to_1 (x r : List Int) (hr : r = toN x 8) :
    evF (E55t x) 20 127 [.agg [.arr .u32 8 x]] ⟨0, []⟩ (outK 0 [] (.agg [.arr .u8 32 r]) 0 []) := by
  refine @Eq.mpr _ (zero32 = zero32 ∧ zero32 = zero32 ∧ x = x ∧ True ∧ ∀ (i : Nat), i ≤ 8 → (∀ (j : Nat), j < i → (fun (i : Nat) => i < 8) j) → (i = 8 → toN x i = r ∧ True) ∧ (False → zero32 = r ∧ True) ∧ (False → False)) (by kernel_rfl) ?_
  try simp only [need_eq]
  try simp only [nope_eq]
  try simp only [iteD_eq]
  try simp only [iteT_eq]
  try simp only [iteF_eq]
  try simp only [iteE_eq]
  try simp only [Int.toNat_natCast, Nat.zero_add, true_and, and_true, Nat.le_refl]
  subst hr
  exact fun i hi _ => ⟨fun he => by subst he; rfl, fun h => h.elim, fun h => h⟩
def toldS (T : List Int → List Int) : PSumm := fun args _ K => match args with
  | [.agg [.arr .u32 8 x]] => K (.agg [.arr .u8 32 (T x)])
  | _ => False
theorem toldS_ok (args : List AV) (h : Heap) (K : AV → Prop) (hl : toldS toldX args h K) : CallsA PP 127 args h fun o h' => ∃ v, o = .ret v ∧ h' = h ∧ K v := by
  unfold toldS at hl
  split at hl
  · rename_i x
    refine psumm_of (d := 20) (K0 := fun l => l = [.agg [.arr .u32 8 x]]) ?_ fun l e => ⟨_, by rw [e]; exact (by unfold toldX; exact .ev (E55t_ok x) (to_1 x _ rfl)), fun _ => rfl, hl⟩
    rfl
  · exact hl.elim
end Go.Tk
end
section
namespace Go.Tk
def pressRS (P : List Int → List Int → List Int) : PSumm := fun args _ K => match args with
  | [.agg [.arr .u32 8 st], .agg [.arr .u8 64 bl]] => need (st.length = 8) (K (.agg [.arr .u32 8 (P st bl)]))
  | _ => False
structure PressOk (P : List Int → List Int → List Int) : Prop where
  pure : ∀ st bl, st.length = 8 → Pure PP 126 [.agg [.arr .u32 8 st], .agg [.arr .u8 64 bl]] (.agg [.arr .u32 8 (P st bl)]) 0 []
  len : ∀ st bl, st.length = 8 → (P st bl).length = 8
theorem pressRS_ok {P : List Int → List Int → List Int} (hP : PressOk P) (args : List AV) (h : Heap) (K : AV → Prop) (hl : pressRS P args h K) : CallsA PP 126 args h fun o h' => ∃ v, o = .ret v ∧ h' = h ∧ K v := by
  unfold pressRS at hl
  split at hl
  · rename_i st bl
    obtain ⟨hs, hK⟩ := need_ok hl
    refine psumm_of (d := 20) (K0 := fun l => l = [.agg [.arr .u32 8 st], .agg [.arr .u8 64 bl]]) ?_ fun l e => ⟨_, by rw [e]; exact hP.pure st bl hs, fun _ => rfl, hK⟩
    rfl
  · exact hl.elim
noncomputable def E56 (P : List Int → List Int → List Int) (Q : List Int → List Int) (T : List Int → List Int) (B : Nat) : Env2 := ((G0.withP 126 (pressRS P)).withF 125 (padRF Q B)).withP 127 (toldS T)
theorem E56_ok {P : List Int → List Int → List Int} (hP : PressOk P) {B : Nat} (hB : B ≤ 100000000000) : (E56 P padR toldX B).Ok := Env2.withP_ok (Env2.withF_ok (Env2.withP_ok G0_ok (pressRS_ok hP)) (padRF_ok B hB)) toldS_ok
def smrS (ys st : List Int) (o n : Nat) : St := ⟨21, [(4, .nslice ⟨3, 0, 0, 0, o⟩ 1 n n), (3, pt 2), (2, pt 0)], ⟨4, [(3, .ints .u8 ys), (2, .flat [.arr .u32 8 st]), (0, .flat [.arr .u8 32 zero32])]⟩, []⟩
def smrE (st : List Int) : St := ⟨21, [(3, pt 2), (2, pt 0)], ⟨4, [(2, .flat [.arr .u32 8 st]), (0, .flat [.arr .u8 32 zero32])]⟩, []⟩
set_option maxRecDepth 100000 in
set_option maxHeartbeats 0 in
theorem smr_0 (P : List Int → List Int → List Int) (Q : List Int → List Int) (T : List Int → List Int) (B : Nat) (ys st st' : List Int) (o o' n n' k i : Nat) (Z1 Z2 : Prop) (hi : i ≤ k) (hk : ys.length = 64 * k) (ho : o = 64 * i) (ho' : o' = 64 * (i + 1)) (hn : n = 64 * k - 64 * i) (hn' : n' = 64 * k - 64 * (i + 1)) (hs : st.length = 8) (hst : st' = P st ((ys.drop o).take 64)) (h1 : i < k → Z1) (h2 : i = k → Z2) :
    roundE (E56 P Q T B) 20 58 0 0 (smrS ys st o n) (rdM 0 0 9 (smrS ys st' o' n') (smrE st) (smrE st) (smrE st) Z1 Z2 False False) := by
  refine @Eq.mpr _ (let q1 := decide (n ≤ n);
 let q2 := decide ((0 : Int) ≤ 64 ∧ 64 ≤ (↑n : Int));
 let q3 := subO n (some 64);
 iteB (decide ((↑n : Int) > 0)) (iteB q1 (iteB q2 (iteB (decide (o + 0 + 64 ≤ List.length ys)) (iteB (decide (List.length st = 8)) (iteB q1 (iteB q2 (iteB (decide (o + 64 = o')) (iteB (decide (q3 = n')) (iteB (decide (n' ≤ q3)) (ys = ys ∧ P st (List.take 64 (List.drop (o + 0) ys)) = st' ∧ zero32 = zero32 ∧ Z1) False) False) False) False) False) False) False) False) False) (st = st ∧ zero32 = zero32 ∧ Z2)) (by kernel_rfl) ?_
  conv => zeta
  try simp only [need_eq]
  try simp only [nope_eq]
  try simp only [iteD_eq]
  try simp only [iteT_eq]
  try simp only [iteF_eq]
  try simp only [iteE_eq]
  try simp only [Int.toNat_natCast, Nat.zero_add, true_and, and_true, Nat.le_refl]
  refine ⟨fun hlt => ?_, fun hge => h2 (by omega)⟩
  have e1 : n - 64 = n' := by omega
  have e2 : o + 64 = o' := by omega
  simp only [subO, e1, e2, Nat.add_zero]
  repeat' (first | (refine And.intro ?_ ?_) | intro _)
  all_goals first | omega | exact hst.symm | exact h1 (by omega) | trivial
def sumN (P : List Int → List Int → List Int) (ys : List Int) : Nat → List Int
  | 0 => initR.st
  | i + 1 => P (sumN P ys i) ((ys.drop (64 * i)).take 64)
theorem sumN_len {P : List Int → List Int → List Int} (hP : PressOk P) (ys : List Int) : ∀ i, (sumN P ys i).length = 8
  | 0 => rfl
  | i + 1 => hP.len _ _ (sumN_len hP ys i)
theorem sumN_zero (P : List Int → List Int → List Int) (ys : List Int) : sumN P ys 0 = initR.st := rfl
theorem sumN_succ (P : List Int → List Int → List Int) (ys : List Int) (i : Nat) : sumN P ys (i + 1) = P (sumN P ys i) ((ys.drop (64 * i)).take 64) := rfl
attribute [irreducible] sumN
noncomputable def E56b (P : List Int → List Int → List Int) (Q : List Int → List Int) (T : List Int → List Int) (B : Nat) (ys : List Int) (L k : Nat) : Env2 := (E56 P Q T B).withL 58 0 (goM 0 (smrS ys [1779033703, 3144134277, 1013904242, 2773480762, 1359893119, 2600822924, 528734635, 1541459225] 0 L) (ys.length = 64 * k ∧ L = 64 * k) (endsJ 0 k 9 (fun i => i < k) (fun i => i = k) (fun _ => False) (fun _ => False) (fun i => smrE (sumN P ys i)) (fun i => smrE (sumN P ys i)) (fun i => smrE (sumN P ys i))))
theorem E56b_ok {P : List Int → List Int → List Int} (hP : PressOk P) {B : Nat} (hB : B ≤ 100000000000) (ys : List Int) (L k : Nat) : (E56b P padR toldX B ys L k).Ok := by
  unfold E56b
  refine Env2.withGoM (N := 20) (S := fun i => smrS ys (sumN P ys i) (64 * i) (64 * k - 64 * i)) (E56_ok hP hB) (by kernel_rfl) fun hC => ⟨?_, fun i hi hgo => ?_⟩
  · rw [hC.2, sumN_zero]; rfl
  · exact smr_0 P padR toldX B ys (sumN P ys i) (sumN P ys (i + 1)) _ _ _ _ k i _ _ hi hC.1 rfl rfl rfl rfl (sumN_len hP ys i) (sumN_succ _ _ _) (fun h => ⟨h, h⟩) (fun h => h)
set_option maxRecDepth 100000 in
set_option maxHeartbeats 0 in
theorem smr_1 (P : List Int → List Int → List Int) (Q : List Int → List Int) (T : List Int → List Int) (B : Nat) (bs ys r : List Int) (n L k : Nat) (hn : n = bs.length) (hB : n ≤ B) (hy : ys = Q bs) (hL : L = ys.length) (hk : ys.length = 64 * k) (hr : r = T (sumN P ys k)) :
    evF (E56b P Q T B ys L k) 20 58 [.vints .u8 bs n] ⟨0, []⟩ (outK 0 [] (.agg [.arr .u8 32 r]) 0 []) := by
  refine @Eq.mpr _ (let q1 := [(1779033703 : Int), 3144134277, 1013904242, 2773480762, 1359893119, 2600822924, 528734635, 1541459225];
 iteB (decide (n = List.length bs)) (iteB (decide (List.length bs ≤ B)) (iteB (decide (List.length (Q bs) = L)) (iteB (decide (L ≤ List.length (Q bs))) (Q bs = ys ∧ q1 = q1 ∧ zero32 = zero32 ∧ (List.length ys = 64 * k ∧ L = 64 * k) ∧ ∀ (i : Nat), i ≤ k → (∀ (j : Nat), j < i → (fun (i : Nat) => i < k) j) → (i = k → T (sumN P ys i) = r ∧ True) ∧ (False → zero32 = r ∧ True) ∧ (False → False)) False) False) False) False) (by kernel_rfl) ?_
  conv => zeta
  try simp only [need_eq]
  try simp only [nope_eq]
  try simp only [iteD_eq]
  try simp only [iteT_eq]
  try simp only [iteF_eq]
  try simp only [iteE_eq]
  try simp only [Int.toNat_natCast, Nat.zero_add, true_and, and_true, Nat.le_refl]
  subst hy hr
  refine ⟨hn, by omega, ?_⟩
  exact ⟨hL.symm, by omega, rfl, ⟨hk, by omega⟩, fun i hi _ => ⟨fun he => by rw [he], fun h => h.elim, fun h => h⟩⟩
theorem padR_mod (bs : List Int) (h : bs.length ≤ 100000000000) : (padR bs).length = 64 * ((padR bs).length / 64) := by
  have : (padR bs).length = bs.length + 1 + ((128 - ((bs.length : Int) + 9) % 64) % 64).toNat + 8 := by
    unfold padR padZ
    rw [padX _ h]
    simp only [List.length_append, List.length_cons, List.length_nil, padN_len, List.length_replicate]
  omega
@[irreducible] def rSum (P : List Int → List Int → List Int) (bs : List Int) : List Int := toldX (sumN P (padR bs) ((padR bs).length / 64))
theorem sumr_pure {P : List Int → List Int → List Int} (hP : PressOk P) (bs : List Int) (h : bs.length ≤ 100000000000) : Pure PP 58 [.vints .u8 bs bs.length] (.agg [.arr .u8 32 (rSum P bs)]) 0 [] := by
  unfold rSum
  exact .ev (E56b_ok hP (Nat.le_refl _) _ _ _) (smr_1 P padR toldX 100000000000 bs _ _ _ _ _ rfl h rfl rfl (padR_mod bs h) rfl)
def hashS (H : List Int → List Int) (B : Nat) : PSumm := fun args h K => viewL none h true 20 args fun a => bytesC a fun xs => need (xs.length ≤ B) (K (.agg [.arr .u8 32 (H xs)]))
theorem hashS_ok {f : FuncId} {H : List Int → List Int} {B : Nat} (hp : ∀ xs : List Int, xs.length ≤ B → Pure PP f [.vints .u8 xs xs.length] (.agg [.arr .u8 32 (H xs)]) 0 []) (args : List AV) (h : Heap) (K : AV → Prop) (hl : hashS H B args h K) : CallsA PP f args h fun o h' => ∃ v, o = .ret v ∧ h' = h ∧ K v := by
  refine Pure.psumm (d := 20) (viewL_weak _ _ _ _ _ hl fun a ha => ?_)
  obtain ⟨xs, rfl, hK⟩ := bytesC_ok ha
  obtain ⟨hx, hK⟩ := need_ok hK
  exact ⟨_, hp xs hx, fun _ => rfl, hK⟩
noncomputable def E56h (H : List Int → List Int) (B : Nat) : Env2 := G0.withP 58 (hashS H B)
set_option maxRecDepth 100000 in
set_option maxHeartbeats 0 in
theorem twr_0 (H : List Int → List Int) (B : Nat) (bs r : List Int) (n : Nat) (hn : n = bs.length) (hb : n ≤ B) (h32 : 32 ≤ B) (hl : (H bs).length = 32) (hr : r = H (H bs)) :
    evF (E56h H B) 20 52 [.vints .u8 bs n] ⟨0, []⟩ (outK 0 [] (.agg [.arr .u8 32 r]) 0 []) := by
  refine @Eq.mpr _ (let q1 := List.length (H bs);
 iteB (decide (n = List.length bs)) (iteB (decide (List.length bs ≤ B)) (iteB (decide (q1 = 32)) (iteB (decide (32 = q1)) (iteB (decide (q1 ≤ B)) (H (H bs) = r ∧ True) False) False) False) False) False) (by kernel_rfl) ?_
  conv => zeta
  try simp only [need_eq]
  try simp only [nope_eq]
  try simp only [iteD_eq]
  try simp only [iteT_eq]
  try simp only [iteF_eq]
  try simp only [iteE_eq]
  try simp only [Int.toNat_natCast, Nat.zero_add, true_and, and_true, Nat.le_refl]
  subst hr
  exact ⟨hn, by omega, hl, hl.symm, by omega, rfl⟩
theorem E56h_ok {H : List Int → List Int} {B : Nat} (hp : ∀ xs : List Int, xs.length ≤ B → Pure PP 58 [.vints .u8 xs xs.length] (.agg [.arr .u8 32 (H xs)]) 0 []) : (E56h H B).Ok := Env2.withP_ok G0_ok (hashS_ok hp)
end Go.Tk
end
section
namespace Go.Tk
def kxE (key : List Int) (c : Int) (i : Nat) : Int := if (i : Int) < 32 then bXor .u8 (key.getD i 0) c else c
def kxR (key : List Int) (c : Int) : Nat → List Int
  | 0 => []
  | i + 1 => kxR key c i ++ [kxE key c i]
theorem kxR_len (key : List Int) (c : Int) : ∀ i, (kxR key c i).length = i
  | 0 => rfl
  | i + 1 => by rw [kxR, List.length_append, kxR_len key c i]; rfl
def tgS (key ms xs ys : List Int) (i : Nat) : St := ⟨47, [(8, .int .i64 i), (0, .vints .u8 key 32), (6, .nslice ⟨1, 0, 0, 0, 0⟩ 1 i i), (7, .nslice ⟨2, 0, 0, 0, 0⟩ 1 i i), (1, .vints .u8 ms 32), (4, pt 0)], ⟨3, [(2, .ints .u8 ys), (1, .ints .u8 xs), (0, .flat [.arr .u8 32 zero32])]⟩, []⟩
def tgE (ms xs ys : List Int) (i : Nat) : St := ⟨47, [(6, .nslice ⟨1, 0, 0, 0, 0⟩ 1 i i), (7, .nslice ⟨2, 0, 0, 0, 0⟩ 1 i i), (1, .vints .u8 ms 32), (4, pt 0)], ⟨3, [(2, .ints .u8 ys), (1, .ints .u8 xs), (0, .flat [.arr .u8 32 zero32])]⟩, []⟩
set_option maxRecDepth 100000 in
set_option maxHeartbeats 0 in
theorem tg_0 (key ms xs ys xs' ys' : List Int) (i : Nat) (Z1 Z2 : Prop) (hi : i ≤ 64) (hx : xs.length = i) (hy : ys.length = i) (hx' : xs' = xs ++ [kxE key 54 i]) (hy' : ys' = ys ++ [kxE key 92 i]) (h1 : i < 64 → Z1) (h2 : i = 64 → Z2) :
    roundE G0 20 53 0 0 (tgS key ms xs ys i) (rdM 0 0 9 (tgS key ms xs' ys' (i + 1)) (tgE ms xs ys i) (tgE ms xs ys i) (tgE ms xs ys i) Z1 Z2 False False) := by
  refine @Eq.mpr _ (let q1 := decide (IntKind.u8 = IntKind.u8 ∧ List.length xs = i);
 let q2 := List.getD key (Int.toNat (↑i : Int)) 0;
 let q3 := xs ++ [bXor IntKind.u8 q2 54];
 let q4 := List.length q3;
 let q5 := decide (IntKind.u8 = IntKind.u8 ∧ List.length ys = i);
 let q6 := ys ++ [bXor IntKind.u8 q2 92];
 let q7 := List.length q6;
 let q8 := i + 1;
 let q9 := decide (IntKind.wrap IntKind.i64 ((↑i : Int) + 1) = (↑q8 : Int));
 let q10 := xs ++ [(54 : Int)];
 let q11 := List.length q10;
 let q12 := ys ++ [(92 : Int)];
 let q13 := List.length q12;
 let q14 := decide (i = i);
 let q15 := decide (i ≤ i);
 iteB (decide ((↑i : Int) < 64)) (iteB (decide ((↑i : Int) < 32)) (iteB (decide (0 ≤ (↑i : Int) ∧ (↑i : Int) < 32)) (iteB q1 (iteB (decide (q4 * 1 ≤ 140737488355328)) (iteB q5 (iteB (decide (q7 * 1 ≤ 140737488355328)) (iteB q9 (key = key ∧ iteB (decide (q4 = q8)) (iteB (decide (q8 ≤ q4)) (iteB (decide (q7 = q8)) (iteB (decide (q8 ≤ q7)) (ms = ms ∧ q6 = ys' ∧ q3 = xs' ∧ zero32 = zero32 ∧ Z1) False) False) False) False) False) False) False) False) False) False) (iteB q1 (iteB (decide (q11 * 1 ≤ 140737488355328)) (iteB q5 (iteB (decide (q13 * 1 ≤ 140737488355328)) (iteB q9 (key = key ∧ iteB (decide (q11 = q8)) (iteB (decide (q8 ≤ q11)) (iteB (decide (q13 = q8)) (iteB (decide (q8 ≤ q13)) (ms = ms ∧ q12 = ys' ∧ q10 = xs' ∧ zero32 = zero32 ∧ Z1) False) False) False) False) False) False) False) False) False)) (iteB q14 (iteB q15 (iteB q14 (iteB q15 (ms = ms ∧ ys = ys ∧ xs = xs ∧ zero32 = zero32 ∧ Z2) False) False) False) False)) (by kernel_rfl) ?_
  conv => zeta
  try simp only [need_eq]
  try simp only [nope_eq]
  try simp only [iteD_eq]
  try simp only [iteT_eq]
  try simp only [iteF_eq]
  try simp only [iteE_eq]
  try simp only [Int.toNat_natCast, Nat.zero_add, true_and, and_true, Nat.le_refl]
  have hw : IntKind.i64.wrap ((i : Int) + 1) = ((i + 1 : Nat) : Int) := w64 (by omega)
  refine ⟨fun hlt => ⟨fun h32 => ?_, fun h32 => ?_⟩, fun hge => ?_⟩
  · unfold kxE at hx' hy'
    rw [if_pos h32] at hx' hy'
    simp only [hw, List.length_append, List.length_cons, List.length_nil, hx, hy]
    repeat' (first | (refine And.intro ?_ ?_) | intro _)
    all_goals first | omega | exact hx'.symm | exact hy'.symm | exact h1 (by omega) | trivial
  · unfold kxE at hx' hy'
    rw [if_neg h32] at hx' hy'
    simp only [hw, List.length_append, List.length_cons, List.length_nil, hx, hy]
    repeat' (first | (refine And.intro ?_ ?_) | intro _)
    all_goals first | omega | exact hx'.symm | exact hy'.symm | exact h1 (by omega) | trivial
  · exact h2 (by omega)
noncomputable def E57 (H : List Int → List Int) (B : Nat) (key ms : List Int) : Env2 := (E56h H B).withL 53 0 (goM 0 (tgS key ms [] [] 0) True (endsJ 0 64 9 (fun i => i < 64) (fun i => i = 64) (fun _ => False) (fun _ => False) (fun i => tgE ms (kxR key 54 i) (kxR key 92 i) i) (fun i => tgE ms (kxR key 54 i) (kxR key 92 i) i) (fun i => tgE ms (kxR key 54 i) (kxR key 92 i) i)))
theorem E57_ok {H : List Int → List Int} {B : Nat} (hp : ∀ xs : List Int, xs.length ≤ B → Pure PP 58 [.vints .u8 xs xs.length] (.agg [.arr .u8 32 (H xs)]) 0 []) (key ms : List Int) : (E57 H B key ms).Ok := by
  unfold E57
  refine Env2.withL_join (H := G0) (E56h_ok hp) rfl ?_
  refine Env2.withGoM (N := 20) (S := fun i => tgS key ms (kxR key 54 i) (kxR key 92 i) i) G0_ok (by kernel_rfl) fun hC => ⟨rfl, fun i hi hgo => ?_⟩
  exact tg_0 key ms _ _ (kxR key 54 (i + 1)) (kxR key 92 (i + 1)) i _ _ hi (kxR_len _ _ _) (kxR_len _ _ _) rfl rfl (fun h => ⟨h, h⟩) (fun h => h)
attribute [irreducible] kxR
theorem take_dz {xs : List Int} {n : Nat} (h : xs.length = n) : List.take n (dropZ 0 xs) = xs := by subst h; rw [dropZ_eq, List.drop_zero, List.take_length]
set_option maxRecDepth 100000 in
set_option maxHeartbeats 0 in
theorem tg_1 (H : List Int → List Int) (B : Nat) (key ms r : List Int) (hk : key.length = 32) (hm : ms.length = 32) (hB : 128 ≤ B) (hl : ∀ x, (H x).length = 32) (hr : r = H (kxR key 92 64 ++ H (kxR key 54 64 ++ ms))) :
    evF (E57 H B key ms) 20 53 [.vints .u8 key 32, .vints .u8 ms 32] ⟨0, []⟩ (outK 0 [] (.agg [.arr .u8 32 r]) 0 []) := by
  refine @Eq.mpr _ (key = key ∧
 ms = ms ∧
 ([] : List Int) = [] ∧
 ([] : List Int) = [] ∧
 zero32 = zero32 ∧
 True ∧
 ∀ (i : Nat),
 let q1 := [] ++ List.take i (dropZ 0 (kxR key 54 i));
 let q2 := List.length q1;
 let q3 := q1 ++ List.take 32 ms;
 let q4 := List.length q3;
 let q5 := List.take q4 (dropZ 0 q3);
 let q6 := List.length q5;
 let q7 := [] ++ List.take i (dropZ 0 (kxR key 92 i));
 let q8 := List.length q7;
 let q9 := H q5;
 let q10 := q7 ++ q9;
 let q11 := List.length q10;
 let q12 := List.take q11 (dropZ 0 q10);
 let q13 := List.length q12;
 i ≤ 64 → (∀ (j : Nat), j < i → (fun (i : Nat) => i < 64) j) → (i = 64 → iteB (decide (IntKind.u8 = IntKind.u8 ∧ 0 + i ≤ List.length (kxR key 54 i))) (iteB (decide (q2 * 1 ≤ 140737488355328)) (iteB (decide (IntKind.u8 = IntKind.u8 ∧ q2 = q2)) (iteB (decide (q4 * 1 ≤ 140737488355328)) (iteB (decide (0 + q4 ≤ q4)) (iteB (decide (q4 = q6)) (iteB (decide (q6 ≤ B)) (iteB (decide (IntKind.u8 = IntKind.u8 ∧ 0 + i ≤ List.length (kxR key 92 i))) (iteB (decide (q8 * 1 ≤ 140737488355328)) (iteB (decide (IntKind.u8 = IntKind.u8 ∧ List.length q9 = 32)) (iteB (decide (IntKind.u8 = IntKind.u8 ∧ q8 = q8)) (iteB (decide (q11 * 1 ≤ 140737488355328)) (iteB (decide (0 + q11 ≤ q11)) (iteB (decide (q11 = q13)) (iteB (decide (q13 ≤ B)) (H q12 = r ∧ True) False) False) False) False) False) False) False) False) False) False) False) False) False) False) False) ∧ (False → zero32 = r ∧ True) ∧ (False → False)) (by kernel_rfl) ?_
  conv => zeta
  try simp only [need_eq]
  try simp only [nope_eq]
  try simp only [iteD_eq]
  try simp only [iteT_eq]
  try simp only [iteF_eq]
  try simp only [iteE_eq]
  try simp only [Int.toNat_natCast, Nat.zero_add, true_and, and_true, Nat.le_refl]
  refine fun i hi _ => ⟨fun he => ?_, fun h => h.elim, fun h => h⟩
  subst he
  have a1 := kxR_len key 54 64
  have a2 := kxR_len key 92 64
  have e1 := take_dz a1
  have e2 := take_dz a2
  have e3 : List.take 32 ms = ms := by rw [← hm]; exact List.take_length
  simp only [e1, e2, e3, List.nil_append, take_dz rfl]
  have l1 := hl (kxR key 54 64 ++ ms)
  subst hr
  simp only [List.length_append, a1, a2, hm, l1]
  repeat' (first | (refine And.intro ?_ ?_) | intro _)
  all_goals first | omega | trivial
@[irreducible] def hmacR (H : List Int → List Int) (key ms : List Int) : List Int := H (kxR key 92 64 ++ H (kxR key 54 64 ++ ms))
theorem tagr_pure {H : List Int → List Int} {B : Nat} (hp : ∀ xs : List Int, xs.length ≤ B → Pure PP 58 [.vints .u8 xs xs.length] (.agg [.arr .u8 32 (H xs)]) 0 []) (hB : 128 ≤ B) (hl : ∀ x, (H x).length = 32) (key ms : List Int) (h1 : key.length = 32) (h2 : ms.length = 32) : Pure PP 53 [.vints .u8 key 32, .vints .u8 ms 32] (.agg [.arr .u8 32 (hmacR H key ms)]) 0 [] := by
  unfold hmacR
  exact .ev (E57_ok hp _ _) (tg_1 H B _ _ _ h1 h2 hB hl rfl)
def tagRS (T : List Int → List Int → List Int) : PSumm := fun args h K => viewL none h true 20 args fun a => match a with
  | [.vints .u8 key len, .vints .u8 ms len'] => need (key.length = 32 ∧ len = 32 ∧ ms.length = 32 ∧ len' = 32) (K (.agg [.arr .u8 32 (T key ms)]))
  | _ => False
theorem tagRS_ok {H : List Int → List Int} {B : Nat} (hp : ∀ xs : List Int, xs.length ≤ B → Pure PP 58 [.vints .u8 xs xs.length] (.agg [.arr .u8 32 (H xs)]) 0 []) (hB : 128 ≤ B) (hl : ∀ x, (H x).length = 32) (args : List AV) (h : Heap) (K : AV → Prop) (hl' : tagRS (hmacR H) args h K) : CallsA PP 53 args h fun o h' => ∃ v, o = .ret v ∧ h' = h ∧ K v := by
  refine Pure.psumm (d := 20) (viewL_weak _ _ _ _ _ hl' fun a ha => ?_)
  split at ha
  · obtain ⟨⟨h1, rfl, h2, rfl⟩, hK⟩ := need_ok ha
    exact ⟨_, tagr_pure hp hB hl _ _ h1 h2, fun _ => rfl, hK⟩
  · exact ha.elim
set_option maxRecDepth 100000 in
set_option maxHeartbeats 0 in
theorem po_1 (H : List Int → List Int) (B : Nat) (sec r : List Int) (hs : sec.length = 32) (hB : 128 ≤ B) (hl : ∀ x, (H x).length = 32) (hr : r = H (H [112, 111, 105, 110, 116] ++ H [112, 111, 105, 110, 116] ++ sec)) :
    evF (E56h H B) 20 57 [.agg [.arr .u8 32 sec]] ⟨0, []⟩ (outK 0 [] (.agg [.arr .u8 32 r]) 0 []) := by
  refine @Eq.mpr _ (let q1 := H [(112 : Int), 111, 105, 110, 116];
 let q2 := decide (IntKind.u8 = IntKind.u8 ∧ List.length q1 = 32);
 let q3 := [] ++ q1;
 let q4 := List.length q3;
 let q5 := q3 ++ q1;
 let q6 := List.length q5;
 let q7 := q5 ++ sec;
 let q8 := List.length q7;
 let q9 := List.take q8 (dropZ 0 q7);
 let q10 := List.length q9;
 iteB (decide (5 ≤ B)) (iteB q2 (iteB (decide (q4 * 1 ≤ 140737488355328)) (iteB q2 (iteB (decide (IntKind.u8 = IntKind.u8 ∧ q4 = q4)) (iteB (decide (q6 * 1 ≤ 140737488355328)) (iteB (decide (IntKind.u8 = IntKind.u8 ∧ List.length sec = 32)) (iteB (decide (IntKind.u8 = IntKind.u8 ∧ q6 = q6)) (iteB (decide (q8 * 1 ≤ 140737488355328)) (iteB (decide (0 + q8 ≤ q8)) (iteB (decide (q8 = q10)) (iteB (decide (q10 ≤ B)) (H q9 = r ∧ True) False) False) False) False) False) False) False) False) False) False) False) False) (by kernel_rfl) ?_
  conv => zeta
  try simp only [need_eq]
  try simp only [nope_eq]
  try simp only [iteD_eq]
  try simp only [iteT_eq]
  try simp only [iteF_eq]
  try simp only [iteE_eq]
  try simp only [Int.toNat_natCast, Nat.zero_add, true_and, and_true, Nat.le_refl]
  have l1 := hl [112, 111, 105, 110, 116]
  subst hr
  simp only [List.nil_append, take_dz rfl]
  simp only [List.length_append, hs, l1]
  repeat' (first | (refine And.intro ?_ ?_) | intro _)
  all_goals first | omega | trivial
@[irreducible] def pointR (H : List Int → List Int) (sec : List Int) : List Int := H (H [112, 111, 105, 110, 116] ++ H [112, 111, 105, 110, 116] ++ sec)
theorem pointr_pure {H : List Int → List Int} {B : Nat} (hp : ∀ xs : List Int, xs.length ≤ B → Pure PP 58 [.vints .u8 xs xs.length] (.agg [.arr .u8 32 (H xs)]) 0 []) (hB : 128 ≤ B) (hl : ∀ x, (H x).length = 32) (s : List Int) (hs : s.length = 32) : Pure PP 57 [.agg [.arr .u8 32 s]] (.agg [.arr .u8 32 (pointR H s)]) 0 [] := by
  unfold pointR
  exact .ev (E56h_ok hp) (po_1 H B s _ hs hB hl rfl)
theorem pointRS_ok {H : List Int → List Int} {B : Nat} (hp : ∀ xs : List Int, xs.length ≤ B → Pure PP 58 [.vints .u8 xs xs.length] (.agg [.arr .u8 32 (H xs)]) 0 []) (hB : 128 ≤ B) (hl : ∀ x, (H x).length = 32) (args : List AV) (h : Heap) (K : AV → Prop) (hl' : hash1S (pointR H) args h K) : CallsA PP 57 args h fun o h' => ∃ v, o = .ret v ∧ h' = h ∧ K v := by
  unfold hash1S at hl'
  split at hl'
  · rename_i s
    obtain ⟨hs, hK⟩ := need_ok hl'
    refine psumm_of (d := 20) (K0 := fun l => l = [.agg [.arr .u8 32 s]]) ?_ fun l e => ⟨_, by rw [e]; exact pointr_pure hp hB hl s hs, fun _ => rfl, hK⟩
    rfl
  · exact hl'.elim
@[irreducible] def twiceR (H : List Int → List Int) (bs : List Int) : List Int := H (H bs)
theorem twiceR_ok {H : List Int → List Int} {B : Nat} (hp : ∀ xs : List Int, xs.length ≤ B → Pure PP 58 [.vints .u8 xs xs.length] (.agg [.arr .u8 32 (H xs)]) 0 []) (hB : 128 ≤ B) (hl : ∀ x, (H x).length = 32) (args : List AV) (h : Heap) (K : AV → Prop) (hl' : hashS (twiceR H) B args h K) : CallsA PP 52 args h fun o h' => ∃ v, o = .ret v ∧ h' = h ∧ K v := by
  refine hashS_ok (fun xs hx => ?_) args h K hl'
  unfold twiceR
  exact .ev (E56h_ok hp) (twr_0 H B xs _ _ rfl hx (by omega) (hl xs) rfl)
end Go.Tk
end
section
namespace Go.Tk
def mostO (a b c : Int) : Nat → Int
  | 0 => 0
  | i + 1 => if 2 ≤ IntKind.u32.wrap (IntKind.u32.wrap (Int.tmod (shrI .u32 a i) 2 + Int.tmod (shrI .u32 b i) 2) + Int.tmod (shrI .u32 c i) 2) then IntKind.u32.wrap (mostO a b c i + shlI .u32 1 i) else mostO a b c i
def pickO (a b c : Int) : Nat → Int
  | 0 => 0
  | i + 1 => IntKind.u32.wrap (pickO a b c i + shlI .u32 (if Int.tmod (shrI .u32 a i) 2 = 1 then Int.tmod (shrI .u32 b i) 2 else Int.tmod (shrI .u32 c i) 2) i)
def moS (a b c : Int) (o : Int) (i : Nat) : St := ⟨33, [(8, .int .u64 i), (0, .int .u32 a), (1, .int .u32 b), (2, .int .u32 c), (7, .int .u32 o)], ⟨0, []⟩, []⟩
def moR (o : Int) : St := ⟨33, [(7, .int .u32 o)], ⟨0, []⟩, []⟩
theorem wu64x {x : Int} (h : 0 ≤ x ∧ x < 18446744073709551616) : IntKind.u64.wrap x = x := by
  unfold IntKind.wrap
  simp [IntKind.bits, IntKind.signed]
  omega
set_option maxRecDepth 100000 in
set_option maxHeartbeats 0 in
theorem most_0 (a b c o o' : Int) (i : Nat) (Z1 Z2 : Prop) (hi : i ≤ 32) (ho : o' = if 2 ≤ IntKind.u32.wrap (IntKind.u32.wrap (Int.tmod (shrI .u32 a i) 2 + Int.tmod (shrI .u32 b i) 2) + Int.tmod (shrI .u32 c i) 2) then IntKind.u32.wrap (o + shlI .u32 1 i) else o) (h1 : i < 32 → Z1) (h2 : i = 32 → Z2) :
    roundE G0 20 168 0 0 (moS a b c o i) (rdM 0 0 9 (moS a b c o' (i + 1)) (moR o) (moR o) (moR o) Z1 Z2 False False) := by
  refine @Eq.mpr _ (let q1 := decide (IntKind.wrap IntKind.u64 ((↑i : Int) + 1) = (↑(i + 1) : Int));
 let q2 := decide (a = a);
 let q3 := decide (b = b);
 let q4 := decide (c = c);
 iteB (decide ((↑i : Int) < 32)) (iteB (decide (IntKind.wrap IntKind.u32 (IntKind.wrap IntKind.u32 (Int.tmod (shrI IntKind.u32 a (↑i : Int)) 2 + Int.tmod (shrI IntKind.u32 b (↑i : Int)) 2) + Int.tmod (shrI IntKind.u32 c (↑i : Int)) 2) ≥ 2)) (iteB q1 (iteB q2 (iteB q3 (iteB q4 (iteB (decide (IntKind.wrap IntKind.u32 (o + shlI IntKind.u32 1 (↑i : Int)) = o')) Z1 False) False) False) False) False) (iteB q1 (iteB q2 (iteB q3 (iteB q4 (iteB (decide (o = o')) Z1 False) False) False) False) False)) (iteB (decide (o = o)) Z2 False)) (by kernel_rfl) ?_
  conv => zeta
  try simp only [need_eq]
  try simp only [nope_eq]
  try simp only [iteD_eq]
  try simp only [iteT_eq]
  try simp only [iteF_eq]
  try simp only [iteE_eq]
  try simp only [Int.toNat_natCast, Nat.zero_add, true_and, and_true, Nat.le_refl]
  have hw : IntKind.u64.wrap ((i : Int) + 1) = ((i + 1 : Nat) : Int) := wu64x (by omega)
  refine ⟨fun hlt => ⟨fun hc => ?_, fun hc => ?_⟩, fun hge => h2 (by omega)⟩
  · rw [if_pos hc] at ho
    exact ⟨hw, ho.symm, h1 (by omega)⟩
  · rw [if_neg hc] at ho
    exact ⟨hw, ho.symm, h1 (by omega)⟩
set_option maxRecDepth 100000 in
set_option maxHeartbeats 0 in
theorem pick_0 (a b c o o' : Int) (i : Nat) (Z1 Z2 : Prop) (hi : i ≤ 32) (ho : o' = IntKind.u32.wrap (o + shlI .u32 (if Int.tmod (shrI .u32 a i) 2 = 1 then Int.tmod (shrI .u32 b i) 2 else Int.tmod (shrI .u32 c i) 2) i)) (h1 : i < 32 → Z1) (h2 : i = 32 → Z2) :
    roundE G0 20 167 0 0 (moS a b c o i) (rdM 0 0 9 (moS a b c o' (i + 1)) (moR o) (moR o) (moR o) Z1 Z2 False False) := by
  refine @Eq.mpr _ (let q1 := decide (IntKind.wrap IntKind.u64 ((↑i : Int) + 1) = (↑(i + 1) : Int));
 let q2 := decide (a = a);
 let q3 := decide (b = b);
 let q4 := decide (c = c);
 iteB (decide ((↑i : Int) < 32)) (iteB (Int.tmod (shrI IntKind.u32 a (↑i : Int)) 2 == 1) (iteB q1 (iteB q2 (iteB q3 (iteB q4 (iteB (decide (IntKind.wrap IntKind.u32 (o + shlI IntKind.u32 (Int.tmod (shrI IntKind.u32 b (↑i : Int)) 2) (↑i : Int)) = o')) Z1 False) False) False) False) False) (iteB q1 (iteB q2 (iteB q3 (iteB q4 (iteB (decide (IntKind.wrap IntKind.u32 (o + shlI IntKind.u32 (Int.tmod (shrI IntKind.u32 c (↑i : Int)) 2) (↑i : Int)) = o')) Z1 False) False) False) False) False)) (iteB (decide (o = o)) Z2 False)) (by kernel_rfl) ?_
  conv => zeta
  try simp only [need_eq]
  try simp only [nope_eq]
  try simp only [iteD_eq]
  try simp only [iteT_eq]
  try simp only [iteF_eq]
  try simp only [iteE_eq]
  try simp only [Int.toNat_natCast, Nat.zero_add, true_and, and_true, Nat.le_refl]
  have hw : IntKind.u64.wrap ((i : Int) + 1) = ((i + 1 : Nat) : Int) := wu64x (by omega)
  refine ⟨fun hlt => ⟨fun hc => ?_, fun hc => ?_⟩, fun hge => h2 (by omega)⟩
  · rw [if_pos (by simpa using hc)] at ho
    exact ⟨hw, ho.symm, h1 (by omega)⟩
  · rw [if_neg (by simpa using hc)] at ho
    exact ⟨hw, ho.symm, h1 (by omega)⟩
@[irreducible] def mostR (a b c : Int) : Int := mostO a b c 32
@[irreducible] def pickR (a b c : Int) : Int := pickO a b c 32
noncomputable def E53m (a b c : Int) : Env2 := G0.withL 168 0 (goM 0 (moS a b c 0 0) True (endsJ 0 32 9 (fun i => i < 32) (fun i => i = 32) (fun _ => False) (fun _ => False) (fun i => moR (mostO a b c i)) (fun i => moR (mostO a b c i)) (fun i => moR (mostO a b c i))))
theorem E53m_ok (a b c : Int) : (E53m a b c).Ok := by
  unfold E53m
  refine Env2.withGoM (N := 20) (S := fun i => moS a b c (mostO a b c i) i) G0_ok (by kernel_rfl) fun hC => ⟨rfl, fun i hi hgo => ?_⟩
  exact most_0 a b c (mostO a b c i) (mostO a b c (i + 1)) i _ _ hi rfl (fun h => ⟨h, h⟩) (fun h => h)
noncomputable def E53p (a b c : Int) : Env2 := G0.withL 167 0 (goM 0 (moS a b c 0 0) True (endsJ 0 32 9 (fun i => i < 32) (fun i => i = 32) (fun _ => False) (fun _ => False) (fun i => moR (pickO a b c i)) (fun i => moR (pickO a b c i)) (fun i => moR (pickO a b c i))))
theorem E53p_ok (a b c : Int) : (E53p a b c).Ok := by
  unfold E53p
  refine Env2.withGoM (N := 20) (S := fun i => moS a b c (pickO a b c i) i) G0_ok (by kernel_rfl) fun hC => ⟨rfl, fun i hi hgo => ?_⟩
  exact pick_0 a b c (pickO a b c i) (pickO a b c (i + 1)) i _ _ hi rfl (fun h => ⟨h, h⟩) (fun h => h)
set_option maxRecDepth 100000 in
set_option maxHeartbeats 0 in
theorem most_1 (a b c : Int) (o : Int) (ho : o = mostO a b c 32) :
    evF (E53m a b c) 20 168 [.int .u32 a, .int .u32 b, .int .u32 c] ⟨0, []⟩ (outK 0 [] (.int .u32 o) 0 []) := by
  refine @Eq.mpr _ (iteB (decide (a = a)) (iteB (decide (b = b)) (iteB (decide (c = c)) (True ∧ ∀ (i : Nat), i ≤ 32 → (∀ (j : Nat), j < i → (fun (i : Nat) => i < 32) j) → (i = 32 → iteB (decide (mostO a b c i = o)) True False) ∧ (False → False) ∧ (False → False)) False) False) False) (by kernel_rfl) ?_
  try simp only [need_eq]
  try simp only [nope_eq]
  try simp only [iteD_eq]
  try simp only [iteT_eq]
  try simp only [iteF_eq]
  try simp only [iteE_eq]
  try simp only [Int.toNat_natCast, Nat.zero_add, true_and, and_true, Nat.le_refl]
  subst ho
  exact fun i hi _ => ⟨fun he => by subst he; rfl, fun h => h, fun h => h⟩
set_option maxRecDepth 100000 in
set_option maxHeartbeats 0 in
theorem pick_1 (a b c : Int) (o : Int) (ho : o = pickO a b c 32) :
    evF (E53p a b c) 20 167 [.int .u32 a, .int .u32 b, .int .u32 c] ⟨0, []⟩ (outK 0 [] (.int .u32 o) 0 []) := by
  refine @Eq.mpr _ (iteB (decide (a = a)) (iteB (decide (b = b)) (iteB (decide (c = c)) (True ∧ ∀ (i : Nat), i ≤ 32 → (∀ (j : Nat), j < i → (fun (i : Nat) => i < 32) j) → (i = 32 → iteB (decide (pickO a b c i = o)) True False) ∧ (False → False) ∧ (False → False)) False) False) False) (by kernel_rfl) ?_
  try simp only [need_eq]
  try simp only [nope_eq]
  try simp only [iteD_eq]
  try simp only [iteT_eq]
  try simp only [iteF_eq]
  try simp only [iteE_eq]
  try simp only [Int.toNat_natCast, Nat.zero_add, true_and, and_true, Nat.le_refl]
  subst ho
  exact fun i hi _ => ⟨fun he => by subst he; rfl, fun h => h, fun h => h⟩
def three32 (F : Int → Int → Int → Int) : PSumm := fun args _ K => match args with
  | [.int .u32 a, .int .u32 b, .int .u32 c] => K (.int .u32 (F a b c))
  | _ => False
theorem three32_ok {f : FuncId} {F : Int → Int → Int → Int} (hp : ∀ a b c, Pure PP f [.int .u32 a, .int .u32 b, .int .u32 c] (.int .u32 (F a b c)) 0 []) (args : List AV) (h : Heap) (K : AV → Prop) (hl : three32 F args h K) : CallsA PP f args h fun o h' => ∃ v, o = .ret v ∧ h' = h ∧ K v := by
  unfold three32 at hl
  split at hl
  · rename_i a b c
    refine psumm_of (d := 20) (K0 := fun l => l = [.int .u32 a, .int .u32 b, .int .u32 c]) ?_ fun l e => ⟨_, by rw [e]; exact hp a b c, fun _ => rfl, hl⟩
    rfl
  · exact hl.elim
end Go.Tk
end
section
namespace Go.Tk
def sg3 (a b c : Int) (w : Int) : Int := bXor .u32 (bXor .u32 (rotI w (32 - a)) (rotI w (32 - b))) (rotI w (32 - c))
def rg3 (a b n : Int) (w : Int) : Int := bXor .u32 (bXor .u32 (rotI w (32 - a)) (rotI w (32 - b))) (shrI .u32 w n)
def refB (bl : List Int) (t : Nat) : Int := IntKind.u32.wrap (IntKind.u32.wrap (IntKind.u32.wrap (shlI .u32 (IntKind.u32.wrap (bl.getD (4 * t) 0)) 24 + shlI .u32 (IntKind.u32.wrap (bl.getD (4 * t + 1) 0)) 16) + shlI .u32 (IntKind.u32.wrap (bl.getD (4 * t + 2) 0)) 8) + IntKind.u32.wrap (bl.getD (4 * t + 3) 0))
def refW (m : List Int) (t : Nat) : Int := IntKind.u32.wrap (IntKind.u32.wrap (IntKind.u32.wrap (rg3 17 19 10 (m.getD (t - 2) 0) + m.getD (t - 7) 0) + rg3 7 18 3 (m.getD (t - 15) 0)) + m.getD (t - 16) 0)
def refM (bl : List Int) : Nat → List Int
  | 0 => List.replicate 64 0
  | t + 1 => (refM bl t).set t (if t < 16 then refB bl t else refW (refM bl t) t)
theorem refM_len (bl : List Int) : ∀ t, (refM bl t).length = 64
  | 0 => rfl
  | t + 1 => by simp [refM, refM_len bl t]
def prS (st bl m : List Int) (i : Nat) : St := ⟨146, [(6, .int .i64 i), (3, pt 1), (5, pt 3), (2, pt 0), (4, pt 2)], ⟨4, [(3, .flat [.arr .u32 64 m]), (2, .flat [.arr .u32 8 [0, 0, 0, 0, 0, 0, 0, 0]]), (1, .flat [.arr .u8 64 bl]), (0, .flat [.arr .u32 8 st])]⟩, []⟩
set_option maxRecDepth 100000 in
set_option maxHeartbeats 0 in
theorem pr_0 (st bl m m' : List Int) (i : Nat) (Z1 Z2 : Prop) (hi : i ≤ 64) (hm : m.length = 64) (hm' : m' = m.set i (if i < 16 then refB bl i else refW m i)) (h1 : i < 64 → Z1) (h2 : i = 64 → Z2) :
    roundE G0 20 126 0 0 (prS st bl m i) (rdM 0 0 9 (prS st bl m' (i + 1)) (prS st bl m i) (prS st bl m i) (prS st bl m i) Z1 Z2 False False) := by
  refine @Eq.mpr _ (let q1 := IntKind.wrap IntKind.i64 (4 * (↑i : Int));
 let q2 := 0 + Int.toNat q1;
 let q3 := IntKind.wrap IntKind.i64 (q1 + 1);
 let q4 := 0 + Int.toNat q3;
 let q5 := IntKind.wrap IntKind.i64 (q1 + 2);
 let q6 := 0 + Int.toNat q5;
 let q7 := IntKind.wrap IntKind.i64 (q1 + 3);
 let q8 := 0 + Int.toNat q7;
 let q9 := decide (0 ≤ (↑i : Int) ∧ (↑i : Int) < 64);
 let q10 := 0 + Int.toNat (↑i : Int);
 let q11 := decide (IntKind.u32 = IntKind.u32 ∧ q10 < 64 ∧ q10 < List.length m);
 let q12 := decide (IntKind.wrap IntKind.i64 ((↑i : Int) + 1) = (↑(i + 1) : Int));
 let q13 := [(0 : Int), 0, 0, 0, 0, 0, 0, 0];
 let q14 := q13 = q13;
 let q15 := q14 ∧ bl = bl ∧ st = st ∧ Z1;
 let q16 := IntKind.wrap IntKind.i64 ((↑i : Int) - 2);
 let q17 := 0 + Int.toNat q16;
 let q18 := IntKind.wrap IntKind.i64 ((↑i : Int) - 7);
 let q19 := 0 + Int.toNat q18;
 let q20 := decide (q19 < 64);
 let q21 := IntKind.wrap IntKind.i64 ((↑i : Int) - 15);
 let q22 := 0 + Int.toNat q21;
 let q23 := decide (q22 < 64);
 let q24 := IntKind.wrap IntKind.i64 ((↑i : Int) - 16);
 let q25 := 0 + Int.toNat q24;
 let q26 := decide (q25 < 64);
 let q27 := List.getD m q25 0;
 let q28 := decide (q27 = q27);
 let q29 := List.getD m q22 0;
 let q30 := List.getD m q19 0;
 let q31 := decide (q30 = q30);
 let q32 := List.getD m q17 0;
 iteB (decide ((↑i : Int) < 64))
 (iteB (decide ((↑i : Int) < 16)) (iteB (decide (0 ≤ q1 ∧ q1 < 64)) (iteB (decide (q2 < 64)) (iteB (decide (0 ≤ q3 ∧ q3 < 64)) (iteB (decide (q4 < 64)) (iteB (decide (0 ≤ q5 ∧ q5 < 64)) (iteB (decide (q6 < 64)) (iteB (decide (0 ≤ q7 ∧ q7 < 64)) (iteB (decide (q8 < 64)) (iteB q9 (iteB q11 (iteB q12 (List.set m q10 (IntKind.wrap IntKind.u32 (IntKind.wrap IntKind.u32 (IntKind.wrap IntKind.u32 (shlI IntKind.u32 (IntKind.wrap IntKind.u32 (List.getD bl q2 0)) 24 + shlI IntKind.u32 (IntKind.wrap IntKind.u32 (List.getD bl q4 0)) 16) + shlI IntKind.u32 (IntKind.wrap IntKind.u32 (List.getD bl q6 0)) 8) + IntKind.wrap IntKind.u32 (List.getD bl q8 0))) = m' ∧ q15) False) False) False) False) False) False) False) False) False) False) False)
 (iteB (decide (0 ≤ q16 ∧ q16 < 64))
 (iteB (decide (q17 < 64)) (iteB (decide (0 ≤ q18 ∧ q18 < 64)) (iteB q20 (iteB (decide (0 ≤ q21 ∧ q21 < 64)) (iteB q23 (iteB (decide (0 ≤ q24 ∧ q24 < 64)) (iteB q26 (iteB q26 (iteB q28 (iteB q23 (iteB (decide (q29 = q29)) (iteB q20 (iteB q31 (iteB q26 (iteB q28 (iteB q20 (iteB q31 (iteB q9 (iteB q11 (iteB q12 (List.set m q10 (IntKind.wrap IntKind.u32 (IntKind.wrap IntKind.u32 (IntKind.wrap IntKind.u32 (bXor IntKind.u32 (bXor IntKind.u32 (bOr IntKind.u32 (shlI IntKind.u32 q32 15) (shrI IntKind.u32 q32 17)) (bOr IntKind.u32 (shlI IntKind.u32 q32 13) (shrI IntKind.u32 q32 19))) (shrI IntKind.u32 q32 10) + q30) + bXor IntKind.u32 (bXor IntKind.u32 (bOr IntKind.u32 (shlI IntKind.u32 q29 25) (shrI IntKind.u32 q29 7)) (bOr IntKind.u32 (shlI IntKind.u32 q29 14) (shrI IntKind.u32 q29 18))) (shrI IntKind.u32 q29 3)) + q27)) = m' ∧ q15) False) False) False) False) False) False) False) False) False) False) False) False) False) False) False) False) False) False) False) False) False))
 (iteB (decide ((↑i : Int) = (↑i : Int))) (m = m ∧ q14 ∧ bl = bl ∧ st = st ∧ Z2) False)) (by kernel_rfl) ?_
  conv => zeta
  try simp only [need_eq]
  try simp only [nope_eq]
  try simp only [iteD_eq]
  try simp only [iteT_eq]
  try simp only [iteF_eq]
  try simp only [iteE_eq]
  try simp only [Int.toNat_natCast, Nat.zero_add, true_and, and_true, Nat.le_refl]
  have hw : IntKind.i64.wrap ((i : Int) + 1) = ((i + 1 : Nat) : Int) := w64 (by omega)
  refine ⟨fun hlt => ⟨fun h16 => ?_, fun h16 => ?_⟩, fun hge => h2 (by omega)⟩
  · have e0 : IntKind.i64.wrap (4 * (i : Int)) = ((4 * i : Nat) : Int) := by rw [w64 (by omega)]; omega
    have e1 : IntKind.i64.wrap (((4 * i : Nat) : Int) + 1) = ((4 * i + 1 : Nat) : Int) := by rw [w64 (by omega)]; omega
    have e2 : IntKind.i64.wrap (((4 * i : Nat) : Int) + 2) = ((4 * i + 2 : Nat) : Int) := by rw [w64 (by omega)]; omega
    have e3 : IntKind.i64.wrap (((4 * i : Nat) : Int) + 3) = ((4 * i + 3 : Nat) : Int) := by rw [w64 (by omega)]; omega
    rw [if_pos (by omega)] at hm'
    simp only [e0, e1, e2, e3, hw, Int.toNat_natCast]
    repeat' (first | (refine And.intro ?_ ?_) | intro _)
    all_goals first | omega | exact hm'.symm | exact h1 (by omega) | trivial
  · have e0 : IntKind.i64.wrap ((i : Int) - 2) = ((i - 2 : Nat) : Int) := by rw [w64 (by omega)]; omega
    have e1 : IntKind.i64.wrap ((i : Int) - 7) = ((i - 7 : Nat) : Int) := by rw [w64 (by omega)]; omega
    have e2 : IntKind.i64.wrap ((i : Int) - 15) = ((i - 15 : Nat) : Int) := by rw [w64 (by omega)]; omega
    have e3 : IntKind.i64.wrap ((i : Int) - 16) = ((i - 16 : Nat) : Int) := by rw [w64 (by omega)]; omega
    rw [if_neg (by omega)] at hm'
    simp only [e0, e1, e2, e3, hw, Int.toNat_natCast]
    repeat' (first | (refine And.intro ?_ ?_) | intro _)
    all_goals first | omega | exact hm'.symm | exact h1 (by omega) | trivial
noncomputable def E54a (st bl : List Int) : Env2 := G0.withL 126 0 (goM 0 (prS st bl (List.replicate 64 0) 0) True (endsJ 0 64 9 (fun i => i < 64) (fun i => i = 64) (fun _ => False) (fun _ => False) (fun i => prS st bl (refM bl i) i) (fun i => prS st bl (refM bl i) i) (fun i => prS st bl (refM bl i) i)))
theorem E54a_ok (st bl : List Int) : (E54a st bl).Ok := by
  unfold E54a
  refine Env2.withGoM (N := 20) (S := fun i => prS st bl (refM bl i) i) G0_ok (by kernel_rfl) fun hC => ⟨rfl, fun i hi hgo => ?_⟩
  exact pr_0 st bl (refM bl i) (refM bl (i + 1)) i _ _ hi (refM_len bl i) rfl (fun h => ⟨h, h⟩) (fun h => h)
noncomputable def E54 (M P : Int → Int → Int → Int) : Env2 := (G0.withP 168 (three32 M)).withP 167 (three32 P)
theorem E54_ok : (E54 mostR pickR).Ok := Env2.withP_ok (Env2.withP_ok G0_ok (three32_ok fun a b c => by unfold mostR; exact .ev (E53m_ok a b c) (most_1 a b c _ rfl))) (three32_ok fun a b c => by unfold pickR; exact .ev (E53p_ok a b c) (pick_1 a b c _ rfl))
def stepX (M P : Int → Int → Int → Int) (k m : Int) (x : List Int) : List Int :=
  let one := IntKind.u32.wrap (IntKind.u32.wrap (IntKind.u32.wrap (IntKind.u32.wrap (x.getD 7 0 + sg3 6 11 25 (x.getD 4 0)) + P (x.getD 4 0) (x.getD 5 0) (x.getD 6 0)) + k) + m)
  [IntKind.u32.wrap (one + IntKind.u32.wrap (sg3 2 13 22 (x.getD 0 0) + M (x.getD 0 0) (x.getD 1 0) (x.getD 2 0))), x.getD 0 0, x.getD 1 0, x.getD 2 0, IntKind.u32.wrap (x.getD 3 0 + one), x.getD 4 0, x.getD 5 0, x.getD 6 0]
def refX (M P : Int → Int → Int → Int) (m st : List Int) : Nat → List Int
  | 0 => st
  | t + 1 => stepX M P (shaK.getD t 0) (m.getD t 0) (refX M P m st t)
theorem refX_succ (M P : Int → Int → Int → Int) (m st : List Int) (t : Nat) : refX M P m st (t + 1) = stepX M P (shaK.getD t 0) (m.getD t 0) (refX M P m st t) := rfl
theorem refX_zero (M P : Int → Int → Int → Int) (m st : List Int) : refX M P m st 0 = st := rfl
theorem refX_len {M P : Int → Int → Int → Int} {m st : List Int} (h : st.length = 8) : ∀ t, (refX M P m st t).length = 8
  | 0 => h
  | _ + 1 => rfl
def prT (st k m x : List Int) (i : Nat) : St := ⟨146, [(9, .int .i64 i), (8, pt 6), (7, pt 5), (5, pt 3), (2, pt 0), (4, pt 2)], ⟨7, [(6, .flat [.arr .u32 8 x]), (5, .flat [.arr .u32 64 k]), (3, .flat [.arr .u32 64 m]), (2, .flat [.arr .u32 8 [0, 0, 0, 0, 0, 0, 0, 0]]), (0, .flat [.arr .u32 8 st])]⟩, []⟩
def prU (st x : List Int) : St := ⟨146, [(8, pt 6), (2, pt 0), (4, pt 2)], ⟨7, [(6, .flat [.arr .u32 8 x]), (2, .flat [.arr .u32 8 [0, 0, 0, 0, 0, 0, 0, 0]]), (0, .flat [.arr .u32 8 st])]⟩, []⟩
set_option maxRecDepth 100000 in
set_option maxHeartbeats 0 in
theorem pr_2 (M P : Int → Int → Int → Int) (st k m x' : List Int) (x0 x1 x2 x3 x4 x5 x6 x7 : Int) (i : Nat) (Z1 Z2 : Prop) (hi : i ≤ 64) (hx : x' = stepX M P (k.getD i 0) (m.getD i 0) [x0, x1, x2, x3, x4, x5, x6, x7]) (h1 : i < 64 → Z1) (h2 : i = 64 → Z2) :
    roundE (E54 M P) 20 126 2 0 (prT st k m [x0, x1, x2, x3, x4, x5, x6, x7] i) (rdM 0 2 9 (prT st k m x' (i + 1)) (prU st [x0, x1, x2, x3, x4, x5, x6, x7]) (prU st [x0, x1, x2, x3, x4, x5, x6, x7]) (prU st [x0, x1, x2, x3, x4, x5, x6, x7]) Z1 Z2 False False) := by
  refine @Eq.mpr _ (let q1 := decide (0 ≤ (↑i : Int) ∧ (↑i : Int) < 64);
 let q2 := 0 + Int.toNat (↑i : Int);
 let q3 := decide (q2 < 64);
 let q4 := decide (q2 < 64);
 let q5 := List.getD m q2 0;
 let q6 := List.getD k q2 0;
 let q7 := IntKind.wrap IntKind.u32 (IntKind.wrap IntKind.u32 (IntKind.wrap IntKind.u32 (IntKind.wrap IntKind.u32 (x7 + bXor IntKind.u32 (bXor IntKind.u32 (bOr IntKind.u32 (shlI IntKind.u32 x4 26) (shrI IntKind.u32 x4 6)) (bOr IntKind.u32 (shlI IntKind.u32 x4 21) (shrI IntKind.u32 x4 11))) (bOr IntKind.u32 (shlI IntKind.u32 x4 7) (shrI IntKind.u32 x4 25))) + P x4 x5 x6) + q6) + q5);
 let q8 := [(0 : Int), 0, 0, 0, 0, 0, 0, 0];
 let q9 := q8 = q8;
 let q10 := [x0, x1, x2, x3, x4, x5, x6, x7];
 iteB (decide ((↑i : Int) < 64)) (iteB q1 (iteB q3 (iteB q1 (iteB q4 (iteB q4 (iteB (decide (q5 = q5)) (iteB q3 (iteB (decide (q6 = q6)) (iteB (decide (x6 = x6)) (iteB (decide (x5 = x5)) (iteB (decide (x4 = x4)) (iteB (decide (x7 = x7)) (iteB (decide (x2 = x2)) (iteB (decide (x1 = x1)) (iteB (decide (x0 = x0)) (iteB (decide (IntKind.wrap IntKind.i64 ((↑i : Int) + 1) = (↑(i + 1) : Int))) ([IntKind.wrap IntKind.u32 (q7 + IntKind.wrap IntKind.u32 (bXor IntKind.u32 (bXor IntKind.u32 (bOr IntKind.u32 (shlI IntKind.u32 x0 30) (shrI IntKind.u32 x0 2)) (bOr IntKind.u32 (shlI IntKind.u32 x0 19) (shrI IntKind.u32 x0 13))) (bOr IntKind.u32 (shlI IntKind.u32 x0 10) (shrI IntKind.u32 x0 22)) + M x0 x1 x2)), x0, x1, x2, IntKind.wrap IntKind.u32 (x3 + q7), x4, x5, x6] = x' ∧ k = k ∧ m = m ∧ q9 ∧ st = st ∧ Z1) False) False) False) False) False) False) False) False) False) False) False) False) False) False) False) False) (q10 = q10 ∧ q9 ∧ st = st ∧ Z2)) (by kernel_rfl) ?_
  conv => zeta
  try simp only [need_eq]
  try simp only [nope_eq]
  try simp only [iteD_eq]
  try simp only [iteT_eq]
  try simp only [iteF_eq]
  try simp only [iteE_eq]
  try simp only [Int.toNat_natCast, Nat.zero_add, true_and, and_true, Nat.le_refl]
  have hw : IntKind.i64.wrap ((i : Int) + 1) = ((i + 1 : Nat) : Int) := w64 (by omega)
  refine ⟨fun hlt => ?_, fun hge => h2 (by omega)⟩
  rw [hw]
  repeat' (first | (refine And.intro ?_ ?_) | intro _)
  all_goals first | omega | exact hx.symm | exact h1 (by omega) | trivial
def prV (st x : List Int) (i : Nat) : St := ⟨146, [(12, .int .i64 i), (8, pt 6), (2, pt 0), (4, pt 2)], ⟨7, [(6, .flat [.arr .u32 8 x]), (2, .flat [.arr .u32 8 [0, 0, 0, 0, 0, 0, 0, 0]]), (0, .flat [.arr .u32 8 st])]⟩, []⟩
def refA (st x : List Int) : Nat → List Int
  | 0 => x
  | i + 1 => (refA st x i).set i (IntKind.u32.wrap ((refA st x i).getD i 0 + st.getD i 0))
theorem refA_len {st x : List Int} (h : x.length = 8) : ∀ i, (refA st x i).length = 8
  | 0 => h
  | i + 1 => by simp [refA, refA_len h i]
set_option maxRecDepth 100000 in
set_option maxHeartbeats 0 in
theorem pr_4 (st x x' : List Int) (i : Nat) (Z1 Z2 : Prop) (hi : i ≤ 8) (hl : x.length = 8) (hs : st.length = 8) (hx : x' = x.set i (IntKind.u32.wrap (x.getD i 0 + st.getD i 0))) (h1 : i < 8 → Z1) (h2 : i = 8 → Z2) :
    roundE G0 20 126 4 0 (prV st x i) (rdM 0 4 9 (prV st x' (i + 1)) (prU st x) (prU st x) (prU st x) Z1 Z2 False False) := by
  refine @Eq.mpr _ (let q1 := decide (0 ≤ (↑i : Int) ∧ (↑i : Int) < 8);
 let q2 := 0 + Int.toNat (↑i : Int);
 let q3 := [(0 : Int), 0, 0, 0, 0, 0, 0, 0];
 let q4 := q3 = q3;
 iteB (decide ((↑i : Int) < 8)) (iteB q1 (iteB (decide (q2 < 8)) (iteB q1 (iteB (decide (q2 < 8)) (iteB q1 (iteB (decide (IntKind.u32 = IntKind.u32 ∧ q2 < 8 ∧ q2 < List.length x)) (iteB (decide (IntKind.wrap IntKind.i64 ((↑i : Int) + 1) = (↑(i + 1) : Int))) (List.set x q2 (IntKind.wrap IntKind.u32 (List.getD x q2 0 + List.getD st q2 0)) = x' ∧ q4 ∧ st = st ∧ Z1) False) False) False) False) False) False) False) (x = x ∧ q4 ∧ st = st ∧ Z2)) (by kernel_rfl) ?_
  conv => zeta
  try simp only [need_eq]
  try simp only [nope_eq]
  try simp only [iteD_eq]
  try simp only [iteT_eq]
  try simp only [iteF_eq]
  try simp only [iteE_eq]
  try simp only [Int.toNat_natCast, Nat.zero_add, true_and, and_true, Nat.le_refl]
  have hw : IntKind.i64.wrap ((i : Int) + 1) = ((i + 1 : Nat) : Int) := w64 (by omega)
  refine ⟨fun hlt => ?_, fun hge => h2 (by omega)⟩
  rw [hw]
  repeat' (first | (refine And.intro ?_ ?_) | intro _)
  all_goals first | omega | exact hx.symm | exact h1 (by omega) | trivial
def L54b (M P : Int → Int → Int → Int) (st m : List Int) : Nat → St → KE → Prop := goM 0 (prT st shaK m st 0) (st.length = 8) (endsJ 2 64 9 (fun i => i < 64) (fun i => i = 64) (fun _ => False) (fun _ => False) (fun i => prU st (refX M P m st i)) (fun i => prU st (refX M P m st i)) (fun i => prU st (refX M P m st i)))
theorem L54b_ok (st m : List Int) : ((E54 mostR pickR).withL 126 2 (L54b mostR pickR st m)).Ok := by
  unfold L54b
  refine Env2.withGoM (N := 20) (S := fun i => prT st shaK m (refX mostR pickR m st i) i) E54_ok (by kernel_rfl) fun hC => ⟨rfl, fun i hi hgo => ?_⟩
  obtain ⟨x0, x1, x2, x3, x4, x5, x6, x7, e⟩ := eight _ (refX_len (M := mostR) (P := pickR) (m := m) hC i)
  show roundE _ 20 126 2 0 (prT st shaK m (refX mostR pickR m st i) i) (rdM 0 2 9 (prT st shaK m (stepX mostR pickR (shaK.getD i 0) (m.getD i 0) (refX mostR pickR m st i)) (i + 1)) _ _ _ _ _ _ _)
  rw [e]
  exact pr_2 mostR pickR st shaK m _ x0 x1 x2 x3 x4 x5 x6 x7 i _ _ hi rfl (fun h => ⟨h, h⟩) (fun h => h)
def L54c (st x : List Int) : Nat → St → KE → Prop := goM 0 (prV st x 0) (st.length = 8 ∧ x.length = 8) (endsJ 4 8 9 (fun i => i < 8) (fun i => i = 8) (fun _ => False) (fun _ => False) (fun i => prU st (refA st x i)) (fun i => prU st (refA st x i)) (fun i => prU st (refA st x i)))
theorem L54c_ok (st x : List Int) : (G0.withL 126 4 (L54c st x)).Ok := by
  unfold L54c
  refine Env2.withGoM (N := 20) (S := fun i => prV st (refA st x i) i) G0_ok (by kernel_rfl) fun hC => ⟨rfl, fun i hi hgo => ?_⟩
  exact pr_4 st (refA st x i) (refA st x (i + 1)) i _ _ hi (refA_len hC.2 i) hC.1 rfl (fun h => ⟨h, h⟩) (fun h => h)
noncomputable def E54d (M P : Int → Int → Int → Int) (st bl m x : List Int) : Env2 := ((E54a st bl).withL 126 2 (L54b M P st m)).withL 126 4 (L54c st x)
theorem E54d_ok (st bl m x : List Int) : (E54d mostR pickR st bl m x).Ok := by
  unfold E54d
  exact Env2.withL_join (H := G0) (Env2.withL_join (H := E54 mostR pickR) (E54a_ok st bl) rfl (L54b_ok st m)) rfl (L54c_ok st x)
@[irreducible] def refPress (st bl : List Int) : List Int := refA st (refX mostR pickR (refM bl 64) st 64) 8
attribute [irreducible] refM refX refA
set_option maxRecDepth 100000 in
set_option maxHeartbeats 0 in
theorem pr_t (M P : Int → Int → Int → Int) (st bl m x r : List Int) (hst : st.length = 8) (hm : m = refM bl 64) (hx : x = refX M P m st 64) (hr : r = refA st x 8) :
    evF (E54d M P st bl m x) 20 126 [.agg [.arr .u32 8 st], .agg [.arr .u8 64 bl]] ⟨0, []⟩ (outK 0 [] (.agg [.arr .u32 8 r]) 0 []) := by
  refine @Eq.mpr _ ((0 : Int) :: (0 : Int) :: (0 : Int) :: (0 : Int) :: (0 : Int) :: (0 : Int) :: (0 : Int) :: (0 : Int) :: (0 : Int) :: (0 : Int) :: (0 : Int) :: (0 : Int) :: (0 : Int) :: (0 : Int) :: (0 : Int) :: (0 : Int) :: (0 : Int) :: (0 : Int) :: (0 : Int) :: (0 : Int) :: (0 : Int) :: (0 : Int) :: (0 : Int) :: (0 : Int) :: (0 : Int) :: (0 : Int) :: (0 : Int) :: (0 : Int) :: (0 : Int) :: (0 : Int) :: (0 : Int) :: (0 : Int) :: zero32 = (0 : Int) :: (0 : Int) :: (0 : Int) :: (0 : Int) :: (0 : Int) :: (0 : Int) :: (0 : Int) :: (0 : Int) :: (0 : Int) :: (0 : Int) :: (0 : Int) :: (0 : Int) :: (0 : Int) :: (0 : Int) :: (0 : Int) :: (0 : Int) :: (0 : Int) :: (0 : Int) :: (0 : Int) :: (0 : Int) :: (0 : Int) :: (0 : Int) :: (0 : Int) :: (0 : Int) :: (0 : Int) :: (0 : Int) :: (0 : Int) :: (0 : Int) :: (0 : Int) :: (0 : Int) :: (0 : Int) :: (0 : Int) :: zero32 ∧
 [(0 : Int), (0 : Int), (0 : Int), (0 : Int), (0 : Int), (0 : Int), (0 : Int), (0 : Int)] = [(0 : Int), (0 : Int), (0 : Int), (0 : Int), (0 : Int), (0 : Int), (0 : Int), (0 : Int)] ∧
 bl = bl ∧
 st = st ∧
 True ∧
 ∀ (i : Nat),
 i ≤ (64 : Nat) →
 (∀ (j : Nat), j < i → (fun (i : Nat) => i < (64 : Nat)) j) →
 (i = (64 : Nat) →
 st = st ∧
 [(1116352408 : Int), (1899447441 : Int), (3049323471 : Int), (3921009573 : Int), (961987163 : Int), (1508970993 : Int), (2453635748 : Int), (2870763221 : Int), (3624381080 : Int), (310598401 : Int), (607225278 : Int), (1426881987 : Int), (1925078388 : Int), (2162078206 : Int), (2614888103 : Int), (3248222580 : Int), (3835390401 : Int), (4022224774 : Int), (264347078 : Int), (604807628 : Int), (770255983 : Int), (1249150122 : Int), (1555081692 : Int), (1996064986 : Int), (2554220882 : Int), (2821834349 : Int), (2952996808 : Int), (3210313671 : Int), (3336571891 : Int), (3584528711 : Int), (113926993 : Int), (338241895 : Int), (666307205 : Int), (773529912 : Int), (1294757372 : Int), (1396182291 : Int), (1695183700 : Int), (1986661051 : Int), (2177026350 : Int), (2456956037 : Int), (2730485921 : Int), (2820302411 : Int), (3259730800 : Int), (3345764771 : Int), (3516065817 : Int), (3600352804 : Int), (4094571909 : Int), (275423344 : Int), (430227734 : Int), (506948616 : Int),
 (659060556 : Int), (883997877 : Int), (958139571 : Int), (1322822218 : Int), (1537002063 : Int), (1747873779 : Int), (1955562222 : Int), (2024104815 : Int), (2227730452 : Int), (2361852424 : Int), (2428436474 : Int), (2756734187 : Int), (3204031479 : Int), (3329325298 : Int)] =
 shaK ∧
 refM bl i = m ∧
 [(0 : Int), (0 : Int), (0 : Int), (0 : Int), (0 : Int), (0 : Int), (0 : Int), (0 : Int)] = [(0 : Int), (0 : Int), (0 : Int), (0 : Int), (0 : Int), (0 : Int), (0 : Int), (0 : Int)] ∧ st = st ∧ List.length st = (8 : Nat) ∧ ∀ (i : Nat), i ≤ (64 : Nat) → (∀ (j : Nat), j < i → (fun (i : Nat) => i < (64 : Nat)) j) → (i = (64 : Nat) → refX M P m st i = x ∧ [(0 : Int), (0 : Int), (0 : Int), (0 : Int), (0 : Int), (0 : Int), (0 : Int), (0 : Int)] = [(0 : Int), (0 : Int), (0 : Int), (0 : Int), (0 : Int), (0 : Int), (0 : Int), (0 : Int)] ∧ st = st ∧ (List.length st = (8 : Nat) ∧ List.length x = (8 : Nat)) ∧ ∀ (i : Nat), i ≤ (8 : Nat) → (∀ (j : Nat), j < i → (fun (i : Nat) => i < (8 : Nat)) j) → (i = (8 : Nat) → refA st x i = r ∧ True) ∧ (False → [(0 : Int), (0 : Int), (0 : Int), (0 : Int), (0 : Int), (0 : Int), (0 : Int), (0 : Int)] = r ∧ True) ∧ (False → False)) ∧ (False → [(0 : Int), (0 : Int), (0 : Int), (0 : Int), (0 : Int), (0 : Int), (0 : Int), (0 : Int)] = r ∧ True) ∧ (False → False)) ∧
 (False → [(0 : Int), (0 : Int), (0 : Int), (0 : Int), (0 : Int), (0 : Int), (0 : Int), (0 : Int)] = r ∧ True) ∧ (False → False)) (by kernel_rfl) ?_
  try simp only [need_eq]
  try simp only [nope_eq]
  try simp only [iteD_eq]
  try simp only [iteT_eq]
  try simp only [iteF_eq]
  try simp only [iteE_eq]
  try simp only [Int.toNat_natCast, Nat.zero_add, true_and, and_true, Nat.le_refl]
  subst hm
  have hl : x.length = 8 := by rw [hx]; exact refX_len hst _
  exact fun i _ _ => ⟨fun he => ⟨by kernel_rfl, by rw [he], hst, fun j _ _ => ⟨fun hj => ⟨by rw [hj, hx], ⟨hst, hl⟩, fun q _ _ => ⟨fun hq => by rw [hq, hr], fun h => h.elim, fun h => h⟩⟩, fun h => h.elim, fun h => h⟩⟩, fun h => h.elim, fun h => h⟩
theorem pressr_pure (st bl : List Int) (h : st.length = 8) : Pure PP 126 [.agg [.arr .u32 8 st], .agg [.arr .u8 64 bl]] (.agg [.arr .u32 8 (refPress st bl)]) 0 [] := by
  unfold refPress
  exact .ev (E54d_ok st bl _ _) (pr_t mostR pickR st bl _ _ _ h rfl rfl rfl)
theorem refPress_len {st bl : List Int} (h : st.length = 8) : (refPress st bl).length = 8 := by unfold refPress; exact refA_len (refX_len h _) _
end Go.Tk
end
