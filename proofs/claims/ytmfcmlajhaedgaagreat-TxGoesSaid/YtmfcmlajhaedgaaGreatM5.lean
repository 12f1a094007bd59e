/- M: part 5 of an engine (a symbolic evaluator, proved against the model) and of the walk by it. -/
import Derived.Test.YtmfcmlajhaedgaaGreatM4
import Derived.OpenShut
import Derived.WideShapes
import Derived.ChangeSlices
import Derived.WalkKit
import Derived.ProofKit
import Derived.Below
import Derived.Handed
import Derived.Carry
import Derived.Test.YtmfcmlajhaedgaaGreatRows
import Derived.ChangeOld
set_option linter.unusedVariables false
set_option linter.unusedSimpArgs false
section
namespace Go.Tk
def stT {X : Type} (d : X) (rd : Nat → Option (X × Nat)) (o : Nat) : Nat → (Nat → X) × Nat
  | 0 => (fun _ => d, o)
  | i + 1 => match rd (stT d rd o i).2 with
    | some (x, p) => (fun q => if q = i then x else (stT d rd o i).1 q, p)
    | none => stT d rd o i
def goT {X : Type} (d : X) (rd : Nat → Option (X × Nat)) (o i : Nat) : Prop := (rd (stT d rd o i).2).isSome = true
def inZ : InS := ⟨zero32, 0, 0, zero32, zero32, zero32⟩
def outZ : OutS := ⟨0, 0, zero32, zero32, zero32, zero32, 0, 0⟩
noncomputable def E25 (F : List Int → Int × Int) (A : List Int → Int × Int) (xs : List Int) (nu cnt cnt2 : Int) (o1 o2 : Nat) (rI : Nat → Option (InS × Nat)) (rO : Nat → Option (OutS × Nat)) (C C2 : Prop) (N : Nat) (f : Nat → InS) : Env2 :=
  ((E24 F A).withL 11 0 (goM 0 (paS1 nu cnt xs 0 o1 (xs.length - o1) (stT inZ rI o1 0).1) C (endsP 0 cnt.toNat 9 pvTx (goT inZ rI o1) (fun i => ¬ (i : Int) < cnt) (fun _ => False) (fun _ => False) (fun i => (i : Int) < cnt ∧ rI (stT inZ rI o1 i).2 = none)
    (fun i => paE1 nu xs i (stT inZ rI o1 i).2 (xs.length - (stT inZ rI o1 i).2) (stT inZ rI o1 i).1) (fun _ => paP) (fun _ => paP) (fun _ => paP)))).withL
    11 4 (goM 0 (paS2 nu cnt2 xs N f 0 o2 (xs.length - o2) (stT outZ rO o2 0).1) C2 (endsP 4 cnt2.toNat 9 pvTx (goT outZ rO o2) (fun i => ¬ (i : Int) < cnt2) (fun _ => False) (fun _ => False) (fun i => (i : Int) < cnt2 ∧ rO (stT outZ rO o2 i).2 = none)
    (fun i => paE2 nu xs N f i (stT outZ rO o2 i).2 (xs.length - (stT outZ rO o2 i).2) (stT outZ rO o2 i).1) (fun _ => paP) (fun _ => paP) (fun _ => paP)))
set_option maxRecDepth 100000 in
set_option maxHeartbeats 0 in
theorem parse_1 (F : List Int → Int × Int) (A : List Int → Int × Int) (xs : List Int) (nu cnt cnt2 : Int) (o1 o2 : Nat) (rI : Nat → Option (InS × Nat)) (rO : Nat → Option (OutS × Nat)) (C C2 : Prop) (N M : Nat) (f : Nat → InS) (g : Nat → OutS) (L : Nat) (hL : xs.length = L) (hB : L < 90000000000000) (p0 : Nat) (hC : o1 ≤ xs.length → cnt ≤ 24 → C) (hC2 : o2 ≤ xs.length → cnt2 ≤ 24 → C2) (h0 : ∀ v p, rdN F xs 0 2147483647 = some (v, p) → v = nu ∧ p = p0) (h1 : ∀ v p, rdN F xs p0 24 = some (v, p) → v = cnt ∧ p = o1) (hN : N = cnt.toNat) (hf : f = (stT inZ rI o1 N).1) (h2 : ∀ v p, rdN F xs (stT inZ rI o1 N).2 24 = some (v, p) → v = cnt2 ∧ p = o2) (hlI : o1 ≤ xs.length → ∀ i, (stT inZ rI o1 i).2 ≤ xs.length) (hlO : o2 ≤ xs.length → ∀ i, (stT outZ rO o2 i).2 ≤ xs.length) (hoI : ∀ i q, ((stT inZ rI o1 i).1 q).Ok) (hoO : ∀ i q, ((stT outZ rO o2 i).1 q).Ok) (e0 : rdN F xs 0 2147483647 ≠ none) (e1 : rdN F xs p0 24 ≠ none) (eI : ∀ j, j < N → goT inZ rI o1 j) (e2 : rdN F xs (stT inZ rI o1 N).2 24 ≠ none) (hM : M = cnt2.toNat) (hg : g = (stT outZ rO o2 M).1) (eO : ∀ j, j < M → goT outZ rO o2 j) (he : (stT outZ rO o2 M).2 = xs.length) (hck : ckTx A ⟨nu, N, f, M, g⟩ = true) :
    evF (E25 F A xs nu cnt cnt2 o1 o2 rI rO C C2 N f) 20 11 [.vints .u8 xs L] ⟨0, []⟩ (outM 0 (.ret (.tuple [.agg [.int .i64 nu, .nslice ⟨0, 0, 130, 0, 0⟩ 130 N N, .nslice ⟨1, 0, 132, 0, 0⟩ 132 M M], .int .i64 0])) 2 [(0, .rows 130 N (inRows f)), (1, .rows 132 M (outRows g))]) := by
  refine @Eq.mpr _ (let q1 := List.length xs;
 let q2 := rdN F xs 0 2147483647;
 let q3 := q1 - o1;
 let q4 := decide (nu = nu);
 let q5 := q1 - o2;
 let q6 := inRows f;
 let q7 := decide (N = N);
 let q8 := [(1, 6), (0, 5)];
 let q9 := decide (N = 0);
 let q10 := decide (M = 0);
 let q11 := iteB (decide (0 = nu)) (iteB q9 (iteB q9 (iteB q10 (iteB q10 False False) False) False) False) False;
 iteB (decide (q1 = L ∧ L < 90000000000000))
 (iteB (decide (L = q1 - 0 ∧ 0 ≤ q1 ∧ L = q1 - 0 ∧ (0 : Int) ≤ 2147483647))
 ((∀ (v : Int) (o' : Nat),
 let q23 := rdN F xs o' 24;
 q2 = some (v, o') →
 0 ≤ o' ∧ o' ≤ q1 ∧ v ≤ 2147483647 →
 iteB (decide (q1 - o' = q1 - o' ∧ o' ≤ q1 ∧ q1 - o' = q1 - o' ∧ (0 : Int) ≤ 24))
 ((∀ (v_1 : Int) (o'_1 : Nat),
 q23 = some (v_1, o'_1) →
 o' ≤ o'_1 ∧ o'_1 ≤ q1 ∧ v_1 ≤ 24 →
 iteB (decide (v_1 = cnt))
 (iteB (decide (v = nu))
 (xs = xs ∧
 iteB (decide (o'_1 = o1))
 (iteB (decide (q1 - o'_1 = q3))
 (iteB (decide (q3 ≤ q1 - o'_1))
 (C ∧
 ∀ (i : Nat),
 let q25 := stT inZ rI o1 i;
 let q26 := q25.snd;
 let q27 := q1 - q26;
 let q28 := rdN F xs q26 24;
 let q29 := decide (i = N);
 i ≤ Int.toNat cnt →
 (∀ (j : Nat), j < i → goT inZ rI o1 j) →
 (¬↑i < cnt →
 iteB (decide (q27 = q27 ∧ q26 ≤ q1 ∧ q27 = q27 ∧ (0 : Int) ≤ 24))
 ((∀ (v : Int) (o' : Nat),
 q28 = some (v, o') →
 q26 ≤ o' ∧ o' ≤ q1 ∧ v ≤ 24 →
 iteB (decide (v = cnt2))
 (iteB q4
 (iteB q29
 (iteB (decide (N ≤ i))
 (xs = xs ∧
 iteB (decide (o' = o2))
 (iteB (decide (q1 - o' = q5))
 (iteB (decide (q5 ≤ q1 - o'))
 (iteB q29
 (RowsEq 0 [(2, 2), (3, 3), (5, 5), (1, 1), (0, 0), (4, 4)] N q6 (inRows q25.fst) ∧
 C2 ∧
 ∀ (i : Nat),
 let q35 := stT outZ rO o2 i;
 let q36 := q35.snd;
 let q37 := q1 - q36;
 let q38 := decide (i = M);
 i ≤ Int.toNat cnt2 →
 (∀ (j : Nat), j < i → goT outZ rO o2 j) →
 (¬↑i < cnt2 →
 iteB (decide (q37 = q37))
 (iteB (decide (q37 = 0))
 (iteB (decide (0 + N ≤ N))
 ((∀ (i : Nat), i < N → true = true) ∧
 iteB (decide (0 + i ≤ i))
 ((∀ (i_1 : Nat), i_1 < i → true = true) ∧
 ∃ (t : TxS),
 (t.num = nu ∧
 ((N = N ∧ t.N = N) ∧ ∀ (i : Nat), i < N → [AV.arr IntKind.u8 32 (f i).name, AV.int IntKind.i64 (f i).index, AV.int IntKind.i64 (f i).way, AV.arr IntKind.u8 32 (f i).tag, AV.arr IntKind.u8 32 (f i).also, AV.arr IntKind.u8 32 (f i).secret] = InS.c (t.ins i)) ∧
 (i = i ∧ t.M = i) ∧
 ∀ (i_1 : Nat),
 let q43 := q35.fst i_1;
 i_1 < i → [AV.int IntKind.i64 q43.kind, AV.int IntKind.i64 q43.amount, AV.arr IntKind.u8 32 q43.owner, AV.arr IntKind.u8 32 q43.other, AV.arr IntKind.u8 32 q43.point, AV.arr IntKind.u8 32 q43.hash, AV.int IntKind.i64 q43.delay, AV.int IntKind.i64 q43.expiry] = OutS.c (t.outs i_1)) ∧
 TxS.Ok t ∧ iteB (ckTx A t) (iteB q4 (iteB q7 (iteB (decide (N ≤ N)) (iteB q38 (iteB (decide (M ≤ i)) (iteB q7 (RowsEq 0 q8 N q6 q6 ∧ iteB q38 (RowsEq 0 q8 M (outRows g) (outRows q35.fst) ∧ True) False) False) False) False) False) False) False) q11)
 False)
 False)
 q11)
 False) ∧
 (False → False) ∧ (False → False) ∧ (↑i < cnt2 ∧ rO q36 = none → q11))
 False)
 False)
 False)
 False)
 False)
 False)
 False)
 False) ∧
 (q28 = none → q11))
 False) ∧
 (False → False) ∧ (False → False) ∧ (↑i < cnt ∧ rI q26 = none → q11))
 False)
 False)
 False)
 False)
 False) ∧
 (q23 = none → q11))
 False) ∧
 (q2 = none → q11))
 False)
 False) (by kernel_rfl) ?_
  conv => zeta
  try simp only [need_eq]
  try simp only [nope_eq]
  try simp only [iteD_eq]
  try simp only [iteT_eq]
  try simp only [iteF_eq]
  try simp only [iteE_eq]
  try simp only [Int.toNat_natCast, Nat.zero_add, true_and, and_true, Nat.le_refl]
  subst hL
  refine ⟨⟨rfl, hB⟩, by omega, ?_, ?_⟩
  rotate_left
  · exact fun h => absurd h e0
  intro v o' q0 r0
  obtain ⟨rfl, rfl⟩ := h0 v o' q0
  refine ⟨by omega, ?_, ?_⟩
  rotate_left
  · exact fun h => absurd h e1
  intro v1 o1' q1 r1
  obtain ⟨rfl, rfl⟩ := h1 v1 o1' q1
  have hlI := hlI r1.2.1
  refine ⟨rfl, rfl, rfl, rfl, Nat.le_refl _, hC r1.2.1 r1.2.2, fun i hi hgo => ⟨fun hx => ?_, fun h => h.elim, fun h => h.elim, fun hx => ?_⟩⟩
  rotate_left
  · have := eI i (by omega); unfold goT at this; rw [hx.2] at this; cases this
  have hiN : i = N := by omega
  subst hiN
  have hli := hlI i
  refine ⟨by omega, ?_, ?_⟩
  rotate_left
  · exact fun h => absurd h e2
  intro v2 o2' q2 r2
  obtain ⟨rfl, rfl⟩ := h2 v2 o2' q2
  have hlO := hlO r2.2.1
  refine ⟨rfl, rfl, Nat.le_refl _, rfl, rfl, Nat.le_refl _, rfl, inRowsEq fun _ _ => (by rw [hf]; rfl), hC2 r2.2.1 r2.2.2, fun k hk hgo2 => ⟨fun hx2 => ?_, fun h => h.elim, fun h => h.elim, fun hx2 => ?_⟩⟩
  rotate_left
  · have := eO k (by omega); unfold goT at this; rw [hx2.2] at this; cases this
  have hkM : k = v2.toNat := by omega
  have htok : TxS.Ok ⟨v, i, f, k, (stT outZ rO o2' k).1⟩ := ⟨by show i < 900000000000; omega, by show k < 900000000000; omega, fun j _ => by show (f j).Ok; rw [hf]; exact hoI i j, fun j _ => hoO k j⟩
  have hkM2 : k = M := hkM.trans hM.symm
  subst hkM2
  rw [hg] at hck
  refine ⟨fun _ => ⟨fun _ _ => trivial, fun _ _ => trivial, ⟨v, i, f, k, (stT outZ rO o2' k).1⟩, ⟨rfl, ⟨rfl, fun _ _ => rfl⟩, rfl, fun _ _ => rfl⟩, htok, fun _ => ⟨rfl, Nat.le_refl _, inRowsEq fun _ _ => rfl, rfl, outRowsEq fun _ _ => (by rw [hg]; rfl)⟩, fun h => (by rw [hck] at h; cases h)⟩, fun h => absurd (by omega) h⟩
set_option maxRecDepth 100000 in
set_option maxHeartbeats 0 in
theorem parse_2 (F : List Int → Int × Int) (A : List Int → Int × Int) (xs : List Int) (nu cnt cnt2 : Int) (o1 o2 : Nat) (rI : Nat → Option (InS × Nat)) (rO : Nat → Option (OutS × Nat)) (C C2 : Prop) (N : Nat) (f : Nat → InS) (L : Nat) (hL : xs.length = L) (hB : L < 90000000000000) (p0 : Nat) (hC : o1 ≤ xs.length → cnt ≤ 24 → C) (hC2 : o2 ≤ xs.length → cnt2 ≤ 24 → C2) (h0 : ∀ v p, rdN F xs 0 2147483647 = some (v, p) → v = nu ∧ p = p0) (h1 : ∀ v p, rdN F xs p0 24 = some (v, p) → v = cnt ∧ p = o1) (hN : N = cnt.toNat) (hf : f = (stT inZ rI o1 N).1) (h2 : ∀ v p, rdN F xs (stT inZ rI o1 N).2 24 = some (v, p) → v = cnt2 ∧ p = o2) (hlI : o1 ≤ xs.length → ∀ i, (stT inZ rI o1 i).2 ≤ xs.length) (hlO : o2 ≤ xs.length → ∀ i, (stT outZ rO o2 i).2 ≤ xs.length) (hoI : ∀ i q, ((stT inZ rI o1 i).1 q).Ok) (hoO : ∀ i q, ((stT outZ rO o2 i).1 q).Ok) (hfail : rdN F xs 0 2147483647 ≠ none → rdN F xs p0 24 ≠ none → (∀ j, j < N → goT inZ rI o1 j) → rdN F xs (stT inZ rI o1 N).2 24 ≠ none → (∀ j, j < cnt2.toNat → goT outZ rO o2 j) → (stT outZ rO o2 cnt2.toNat).2 = xs.length → ckTx A ⟨nu, N, f, cnt2.toNat, (stT outZ rO o2 cnt2.toNat).1⟩ = true → False) :
    evF (E25 F A xs nu cnt cnt2 o1 o2 rI rO C C2 N f) 20 11 [.vints .u8 xs L] ⟨0, []⟩ (outM 0 (.ret (.tuple [.agg [.int .i64 0, .nilslice, .nilslice], .int .i64 170])) 0 []) := by
  refine @Eq.mpr _ (let q1 := List.length xs;
 let q2 := rdN F xs 0 2147483647;
 let q3 := q1 - o1;
 let q4 := q1 - o2;
 iteB (decide (q1 = L ∧ L < 90000000000000))
 (iteB (decide (L = q1 - 0 ∧ 0 ≤ q1 ∧ L = q1 - 0 ∧ (0 : Int) ≤ 2147483647))
 ((∀ (v : Int) (o' : Nat),
 let q9 := rdN F xs o' 24;
 q2 = some (v, o') →
 0 ≤ o' ∧ o' ≤ q1 ∧ v ≤ 2147483647 →
 iteB (decide (q1 - o' = q1 - o' ∧ o' ≤ q1 ∧ q1 - o' = q1 - o' ∧ (0 : Int) ≤ 24))
 ((∀ (v_1 : Int) (o'_1 : Nat),
 q9 = some (v_1, o'_1) →
 o' ≤ o'_1 ∧ o'_1 ≤ q1 ∧ v_1 ≤ 24 →
 iteB (decide (v_1 = cnt))
 (iteB (decide (v = nu))
 (xs = xs ∧
 iteB (decide (o'_1 = o1))
 (iteB (decide (q1 - o'_1 = q3))
 (iteB (decide (q3 ≤ q1 - o'_1))
 (C ∧
 ∀ (i : Nat),
 let q11 := stT inZ rI o1 i;
 let q12 := q11.snd;
 let q13 := q1 - q12;
 let q14 := rdN F xs q12 24;
 let q15 := decide (i = N);
 i ≤ Int.toNat cnt →
 (∀ (j : Nat), j < i → goT inZ rI o1 j) →
 (¬↑i < cnt →
 iteB (decide (q13 = q13 ∧ q12 ≤ q1 ∧ q13 = q13 ∧ (0 : Int) ≤ 24))
 ((∀ (v : Int) (o' : Nat),
 q14 = some (v, o') →
 q12 ≤ o' ∧ o' ≤ q1 ∧ v ≤ 24 →
 iteB (decide (v = cnt2))
 (iteB (decide (nu = nu))
 (iteB q15
 (iteB (decide (N ≤ i))
 (xs = xs ∧
 iteB (decide (o' = o2))
 (iteB (decide (q1 - o' = q4))
 (iteB (decide (q4 ≤ q1 - o'))
 (iteB q15
 (RowsEq 0 [(2, 2), (3, 3), (5, 5), (1, 1), (0, 0), (4, 4)] N (inRows f) (inRows q11.fst) ∧
 C2 ∧
 ∀ (i : Nat),
 let q21 := stT outZ rO o2 i;
 let q22 := q21.snd;
 let q23 := q1 - q22;
 i ≤ Int.toNat cnt2 →
 (∀ (j : Nat), j < i → goT outZ rO o2 j) →
 (¬↑i < cnt2 →
 iteB (decide (q23 = q23))
 (iteB (decide (q23 = 0))
 (iteB (decide (0 + N ≤ N))
 ((∀ (i : Nat), i < N → true = true) ∧
 iteB (decide (0 + i ≤ i))
 ((∀ (i_1 : Nat), i_1 < i → true = true) ∧
 ∃ (t : TxS),
 (t.num = nu ∧
 ((N = N ∧ t.N = N) ∧ ∀ (i : Nat), i < N → [AV.arr IntKind.u8 32 (f i).name, AV.int IntKind.i64 (f i).index, AV.int IntKind.i64 (f i).way, AV.arr IntKind.u8 32 (f i).tag, AV.arr IntKind.u8 32 (f i).also, AV.arr IntKind.u8 32 (f i).secret] = InS.c (t.ins i)) ∧
 (i = i ∧ t.M = i) ∧
 ∀ (i_1 : Nat),
 let q27 := q21.fst i_1;
 i_1 < i → [AV.int IntKind.i64 q27.kind, AV.int IntKind.i64 q27.amount, AV.arr IntKind.u8 32 q27.owner, AV.arr IntKind.u8 32 q27.other, AV.arr IntKind.u8 32 q27.point, AV.arr IntKind.u8 32 q27.hash, AV.int IntKind.i64 q27.delay, AV.int IntKind.i64 q27.expiry] = OutS.c (t.outs i_1)) ∧
 TxS.Ok t ∧ iteB (ckTx A t) (iteB (decide (nu = 0)) False False) True)
 False)
 False)
 True)
 False) ∧
 (False → False) ∧ (False → False) ∧ (↑i < cnt2 ∧ rO q22 = none → True))
 False)
 False)
 False)
 False)
 False)
 False)
 False)
 False) ∧
 (q14 = none → True))
 False) ∧
 (False → False) ∧ (False → False) ∧ (↑i < cnt ∧ rI q12 = none → True))
 False)
 False)
 False)
 False)
 False) ∧
 (q9 = none → True))
 False) ∧
 (q2 = none → True))
 False)
 False) (by kernel_rfl) ?_
  conv => zeta
  try simp only [need_eq]
  try simp only [nope_eq]
  try simp only [iteD_eq]
  try simp only [iteT_eq]
  try simp only [iteF_eq]
  try simp only [iteE_eq]
  try simp only [Int.toNat_natCast, Nat.zero_add, true_and, and_true, Nat.le_refl]
  subst hL
  refine ⟨⟨rfl, hB⟩, by omega, ?_, ?_⟩
  rotate_left
  · exact fun _ => trivial
  intro v o' q0 r0
  obtain ⟨rfl, rfl⟩ := h0 v o' q0
  refine ⟨by omega, ?_, ?_⟩
  rotate_left
  · exact fun _ => trivial
  intro v1 o1' q1 r1
  obtain ⟨rfl, rfl⟩ := h1 v1 o1' q1
  have hlI := hlI r1.2.1
  refine ⟨rfl, rfl, rfl, rfl, Nat.le_refl _, hC r1.2.1 r1.2.2, fun i hi hgo => ⟨fun hx => ?_, fun h => h.elim, fun h => h.elim, fun hx => ?_⟩⟩
  rotate_left
  · trivial
  have hiN : i = N := by omega
  subst hiN
  have hli := hlI i
  refine ⟨by omega, ?_, ?_⟩
  rotate_left
  · exact fun _ => trivial
  intro v2 o2' q2 r2
  obtain ⟨rfl, rfl⟩ := h2 v2 o2' q2
  have hlO := hlO r2.2.1
  refine ⟨rfl, rfl, Nat.le_refl _, rfl, rfl, Nat.le_refl _, rfl, inRowsEq fun _ _ => (by rw [hf]; rfl), hC2 r2.2.1 r2.2.2, fun k hk hgo2 => ⟨fun hx2 => ?_, fun h => h.elim, fun h => h.elim, fun hx2 => ?_⟩⟩
  rotate_left
  · trivial
  have hkM : k = v2.toNat := by omega
  have htok : TxS.Ok ⟨v, i, f, k, (stT outZ rO o2' k).1⟩ := ⟨by show i < 900000000000; omega, by show k < 900000000000; omega, fun j _ => by show (f j).Ok; rw [hf]; exact hoI i j, fun j _ => hoO k j⟩
  refine ⟨fun hz => ⟨fun _ _ => trivial, fun _ _ => trivial, ⟨v, i, f, k, (stT outZ rO o2' k).1⟩, ⟨rfl, ⟨rfl, fun _ _ => rfl⟩, rfl, fun _ _ => rfl⟩, htok, fun hck => ?_, fun _ => trivial⟩, fun _ => trivial⟩
  exfalso
  have hlk := hlO k
  refine hfail (by rw [q0]; simp) (by rw [q1]; simp) hgo (by rw [q2]; simp) (fun j hj => hgo2 j (by omega)) ?_ ?_
  · rw [← hkM]; omega
  · rw [← hkM]; exact hck
theorem rdN_le {xs : List Int} {o p : Nat} {v most : Int} (ho : o ≤ xs.length) (h : rdN (firstB numW) xs o most = some (v, p)) : o ≤ p ∧ p ≤ xs.length ∧ v ≤ most := by
  unfold rdN at h
  split at h
  · rename_i hc
    simp only [Option.some.injEq, Prod.mk.injEq] at h
    have hle := firstB_le numW (xs.drop o)
    rw [List.length_drop] at hle
    omega
  · cases h
theorem rdH_le {xs : List Int} {o p : Nat} {hh : List Int} (h : rdH xs o = some (hh, p)) : o ≤ p ∧ p ≤ xs.length ∧ hh.length = 32 := by
  unfold rdH at h
  split at h
  · simp only [Option.some.injEq, Prod.mk.injEq] at h
    obtain ⟨rfl, rfl⟩ := h
    refine ⟨by omega, by omega, ?_⟩
    rw [List.length_take, List.length_drop]; omega
  · cases h
theorem rdHif_le {b : Bool} {xs : List Int} {o p : Nat} {hh : List Int} (ho : o ≤ xs.length) (h : rdHif b xs o = some (hh, p)) : o ≤ p ∧ p ≤ xs.length ∧ hh.length = 32 := by
  cases b with
  | true => exact rdH_le h
  | false =>
    simp only [rdHif, Option.some.injEq, Prod.mk.injEq] at h
    obtain ⟨rfl, rfl⟩ := h
    exact ⟨Nat.le_refl _, ho, rfl⟩
theorem rdNif_le {b : Bool} {xs : List Int} {o p : Nat} {v most : Int} (ho : o ≤ xs.length) (h : rdNif b (firstB numW) xs o most = some (v, p)) : o ≤ p ∧ p ≤ xs.length := by
  cases b with
  | true => exact ⟨(rdN_le ho h).1, (rdN_le ho h).2.1⟩
  | false =>
    simp only [rdNif, Option.some.injEq, Prod.mk.injEq] at h
    obtain ⟨rfl, rfl⟩ := h
    exact ⟨Nat.le_refl _, ho⟩
theorem rdIn_ok {xs : List Int} {o p : Nat} {x : InS} (ho : o ≤ xs.length) (h : rdIn (firstB numW) xs o = some (x, p)) : x.Ok ∧ p ≤ xs.length := by
  unfold rdIn at h
  simp only [Option.bind_eq_some_iff, Prod.exists, Option.some.injEq, Prod.mk.injEq] at h
  obtain ⟨a, a2, h1, b, b2, h2, c, c2, h3, d, d2, h4, e, e2, h5, f, f2, h6, rfl, rfl⟩ := h
  have k1 := rdH_le h1
  have k2 := rdN_le k1.2.1 h2
  have k3 := rdN_le k2.2.1 h3
  have k4 := rdHif_le k3.2.1 h4
  have k5 := rdHif_le k4.2.1 h5
  have k6 := rdHif_le k5.2.1 h6
  exact ⟨⟨k1.2.2, k4.2.2, k5.2.2, k6.2.2⟩, k6.2.1⟩
theorem rdOut_ok {xs : List Int} {o p : Nat} {x : OutS} (ho : o ≤ xs.length) (h : rdOut (firstB numW) xs o = some (x, p)) : x.Ok ∧ p ≤ xs.length := by
  unfold rdOut at h
  simp only [Option.bind_eq_some_iff, Prod.exists, Option.some.injEq, Prod.mk.injEq] at h
  obtain ⟨a, a2, h1, b, b2, h2, c, c2, h3, d, d2, h4, e, e2, h5, f, f2, h6, u, u2, h7, w, w2, h8, rfl, rfl⟩ := h
  have k1 := rdN_le ho h1
  have k2 := rdN_le k1.2.1 h2
  have k3 := rdHif_le k2.2.1 h3
  have k4 := rdHif_le k3.2.1 h4
  have k5 := rdHif_le k4.2.1 h5
  have k6 := rdHif_le k5.2.1 h6
  have k7 := rdNif_le k6.2.1 h7
  have k8 := rdNif_le k7.2 h8
  exact ⟨⟨k3.2.2, k4.2.2, k5.2.2, k6.2.2⟩, k8.2⟩
theorem stT_inv {X : Type} {d : X} {rd : Nat → Option (X × Nat)} {o L : Nat} {ok : X → Prop} (hd : ok d) (ho : o ≤ L) (hr : ∀ o x p, o ≤ L → rd o = some (x, p) → ok x ∧ p ≤ L) : ∀ i, (stT d rd o i).2 ≤ L ∧ ∀ q, ok ((stT d rd o i).1 q)
  | 0 => ⟨ho, fun _ => hd⟩
  | i + 1 => by
    obtain ⟨h1, h2⟩ := stT_inv hd ho hr i
    unfold stT
    split
    · rename_i x p hq
      obtain ⟨h3, h4⟩ := hr _ _ _ h1 hq
      refine ⟨h4, fun q => ?_⟩
      show ok (if q = i then x else _)
      split
      · exact h3
      · exact h2 q
    · exact ⟨h1, h2⟩
theorem inZ_ok : inZ.Ok := ⟨rfl, rfl, rfl, rfl⟩
theorem outZ_ok : outZ.Ok := ⟨rfl, rfl, rfl, rfl⟩
theorem stT_step {X : Type} {d x : X} {rd : Nat → Option (X × Nat)} {o i p : Nat} (h : rd (stT d rd o i).2 = some (x, p)) : (stT d rd o (i + 1)).2 = p ∧ ∀ q, (stT d rd o (i + 1)).1 q = if q = i then x else (stT d rd o i).1 q := by
  conv => lhs; unfold stT
  constructor
  · rw [h]
  · intro q
    conv => lhs; unfold stT
    rw [h]
theorem stT_lenI {xs : List Int} {o : Nat} (ho : o ≤ xs.length) (i : Nat) : (stT inZ (rdIn (firstB numW) xs) o i).2 ≤ xs.length ∧ ∀ q, ((stT inZ (rdIn (firstB numW) xs) o i).1 q).Ok := stT_inv (ok := InS.Ok) inZ_ok ho (fun o x p h1 h2 => rdIn_ok (xs := xs) h1 h2) i
theorem stT_lenO {xs : List Int} {o : Nat} (ho : o ≤ xs.length) (i : Nat) : (stT outZ (rdOut (firstB numW) xs) o i).2 ≤ xs.length ∧ ∀ q, ((stT outZ (rdOut (firstB numW) xs) o i).1 q).Ok := stT_inv (ok := OutS.Ok) outZ_ok ho (fun o x p h1 h2 => rdOut_ok (xs := xs) h1 h2) i
noncomputable def E25c (F : List Int → Int × Int) (A : List Int → Int × Int) (xs : List Int) (nu cnt : Int) (o1 : Nat) (rI : Nat → Option (InS × Nat)) (C : Prop) : Env2 :=
  (E24 F A).withL 11 0 (goM 0 (paS1 nu cnt xs 0 o1 (xs.length - o1) (stT inZ rI o1 0).1) C (endsP 0 cnt.toNat 9 pvTx (goT inZ rI o1) (fun i => ¬ (i : Int) < cnt) (fun _ => False) (fun _ => False) (fun i => (i : Int) < cnt ∧ rI (stT inZ rI o1 i).2 = none)
    (fun i => paE1 nu xs i (stT inZ rI o1 i).2 (xs.length - (stT inZ rI o1 i).2) (stT inZ rI o1 i).1) (fun _ => paP) (fun _ => paP) (fun _ => paP)))
noncomputable def E25d (F : List Int → Int × Int) (A : List Int → Int × Int) (xs : List Int) (nu cnt2 : Int) (o2 : Nat) (rO : Nat → Option (OutS × Nat)) (C2 : Prop) (N : Nat) (f : Nat → InS) : Env2 :=
  (E24 F A).withL 11 4 (goM 0 (paS2 nu cnt2 xs N f 0 o2 (xs.length - o2) (stT outZ rO o2 0).1) C2 (endsP 4 cnt2.toNat 9 pvTx (goT outZ rO o2) (fun i => ¬ (i : Int) < cnt2) (fun _ => False) (fun _ => False) (fun i => (i : Int) < cnt2 ∧ rO (stT outZ rO o2 i).2 = none)
    (fun i => paE2 nu xs N f i (stT outZ rO o2 i).2 (xs.length - (stT outZ rO o2 i).2) (stT outZ rO o2 i).1) (fun _ => paP) (fun _ => paP) (fun _ => paP)))
theorem E25c_ok (xs : List Int) (nu cnt : Int) (o1 : Nat) : (E25c (firstB numW) addM xs nu cnt o1 (rdIn (firstB numW) xs) (o1 ≤ xs.length ∧ cnt ≤ 24)).Ok := by
  unfold E25c
  refine Env2.withGoP (N := 20) (S := fun i => paS1 nu cnt xs i (stT inZ (rdIn (firstB numW) xs) o1 i).2 (xs.length - (stT inZ (rdIn (firstB numW) xs) o1 i).2) (stT inZ (rdIn (firstB numW) xs) o1 i).1) E24_ok rfl (by kernel_rfl) fun hC => ⟨rfl, fun i hi hgo => ?_⟩
  have hle := (stT_lenI hC.1 i).1
  refine pin_1 _ _ nu cnt xs i _ _ _ _ _ _ _ _ _ rfl hle ⟨by omega, hC.2⟩ (fun h => h) (fun h1 h2 => ⟨h1, h2⟩) (fun h1 x p h2 => ?_)
  have hs := stT_step h2
  exact ⟨⟨hs.1, by rw [hs.1], hs.2⟩, by show goT _ _ _ _; unfold goT; rw [h2]; rfl, by omega⟩
theorem E25d_ok (xs : List Int) (nu cnt2 : Int) (o2 N : Nat) (f : Nat → InS) : (E25d (firstB numW) addM xs nu cnt2 o2 (rdOut (firstB numW) xs) (o2 ≤ xs.length ∧ cnt2 ≤ 24) N f).Ok := by
  unfold E25d
  refine Env2.withGoP (N := 20) (S := fun i => paS2 nu cnt2 xs N f i (stT outZ (rdOut (firstB numW) xs) o2 i).2 (xs.length - (stT outZ (rdOut (firstB numW) xs) o2 i).2) (stT outZ (rdOut (firstB numW) xs) o2 i).1) E24_ok rfl (by kernel_rfl) fun hC => ⟨rfl, fun i hi hgo => ?_⟩
  have hle := (stT_lenO hC.1 i).1
  refine pout_1 _ _ nu cnt2 xs N f i _ _ _ _ _ _ _ _ _ rfl hle ⟨by omega, hC.2⟩ (fun h => h) (fun h1 h2 => ⟨h1, h2⟩) (fun h1 x p h2 => ?_)
  have hs := stT_step h2
  exact ⟨⟨hs.1, by rw [hs.1], hs.2⟩, by show goT _ _ _ _; unfold goT; rw [h2]; rfl, by omega⟩
theorem E25_ok (xs : List Int) (nu cnt cnt2 : Int) (o1 o2 N : Nat) (f : Nat → InS) : (E25 (firstB numW) addM xs nu cnt cnt2 o1 o2 (rdIn (firstB numW) xs) (rdOut (firstB numW) xs) (o1 ≤ xs.length ∧ cnt ≤ 24) (o2 ≤ xs.length ∧ cnt2 ≤ 24) N f).Ok := by
  unfold E25
  exact Env2.withL_join (G := E25c (firstB numW) addM xs nu cnt o1 (rdIn (firstB numW) xs) (o1 ≤ xs.length ∧ cnt ≤ 24)) (H := E24 (firstB numW) addM) (E25c_ok xs nu cnt o1) rfl (E25d_ok xs nu cnt2 o2 N f)
@[irreducible] def parseT (F : List Int → Int × Int) (A : List Int → Int × Int) (xs : List Int) : Option TxS :=
  (rdN F xs 0 2147483647).bind fun a => (rdN F xs a.2 24).bind fun b =>
  let sI := stT inZ (rdIn F xs) b.2 b.1.toNat
  if ((List.range b.1.toNat).all fun j => (rdIn F xs (stT inZ (rdIn F xs) b.2 j).2).isSome) = true then
    (rdN F xs sI.2 24).bind fun c =>
    let sO := stT outZ (rdOut F xs) c.2 c.1.toNat
    if (((List.range c.1.toNat).all fun j => (rdOut F xs (stT outZ (rdOut F xs) c.2 j).2).isSome) && (sO.2 == xs.length) && ckTx A ⟨a.1, b.1.toNat, sI.1, c.1.toNat, sO.1⟩) = true then some ⟨a.1, b.1.toNat, sI.1, c.1.toNat, sO.1⟩ else none
  else none
def zeroTx : AV := .tuple [.agg [.int .i64 0, .nilslice, .nilslice], .int .i64 170]
def nuD (F : List Int → Int × Int) (xs : List Int) (o : Nat) (most : Int) : Int × Nat := (rdN F xs o most).getD (0, 0)
theorem nuD_some {F : List Int → Int × Int} {xs : List Int} {o p : Nat} {most v : Int} (h : rdN F xs o most = some (v, p)) : v = (nuD F xs o most).1 ∧ p = (nuD F xs o most).2 := by unfold nuD; rw [h]; exact ⟨rfl, rfl⟩
theorem nuD_le {xs : List Int} {o : Nat} {most : Int} (ho : o ≤ xs.length) : (nuD (firstB numW) xs o most).2 ≤ xs.length := by
  unfold nuD
  cases h : rdN (firstB numW) xs o most with
  | none => exact Nat.zero_le _
  | some a => exact (rdN_le (v := a.1) (p := a.2) ho h).2.1
theorem parse_pure (xs : List Int) (L : Nat) (hL : xs.length = L) (hB : L < 90000000000000) :
    (∀ t, parseT (firstB numW) addM xs = some t → t.Ok ∧ Pure PP 11 [.vints .u8 xs L] (.tuple [.agg [.int .i64 t.num, .nslice ⟨0, 0, 130, 0, 0⟩ 130 t.N t.N, .nslice ⟨1, 0, 132, 0, 0⟩ 132 t.M t.M], .int .i64 0]) 2 [(0, .rows 130 t.N (inRows t.ins)), (1, .rows 132 t.M (outRows t.outs))]) ∧
    (parseT (firstB numW) addM xs = none → Pure PP 11 [.vints .u8 xs L] zeroTx 0 []) := by
  generalize hF : firstB numW = F at *
  let a := nuD F xs 0 2147483647
  let b := nuD F xs a.2 24
  let sI := stT inZ (rdIn F xs) b.2 b.1.toNat
  let c := nuD F xs sI.2 24
  let sO := stT outZ (rdOut F xs) c.2 c.1.toNat
  have la : a.2 ≤ xs.length := by subst hF; exact nuD_le (Nat.zero_le _)
  have lb : b.2 ≤ xs.length := by subst hF; exact nuD_le la
  have lI : ∀ i, (stT inZ (rdIn F xs) b.2 i).2 ≤ xs.length ∧ ∀ q, ((stT inZ (rdIn F xs) b.2 i).1 q).Ok := fun i => by subst hF; exact stT_lenI lb i
  have lc : c.2 ≤ xs.length := by subst hF; exact nuD_le (lI _).1
  have lO : ∀ i, (stT outZ (rdOut F xs) c.2 i).2 ≤ xs.length ∧ ∀ q, ((stT outZ (rdOut F xs) c.2 i).1 q).Ok := fun i => by subst hF; exact stT_lenO lc i
  have hE := E25_ok xs a.1 b.1 c.1 b.2 c.2 b.1.toNat sI.1
  rw [hF] at hE
  have hgoI : (((List.range b.1.toNat).all fun j => (rdIn F xs (stT inZ (rdIn F xs) b.2 j).2).isSome) = true) ↔ ∀ j, j < b.1.toNat → goT inZ (rdIn F xs) b.2 j := by
    rw [List.all_eq_true]; simp only [List.mem_range]; rfl
  have hgoO : (((List.range c.1.toNat).all fun j => (rdOut F xs (stT outZ (rdOut F xs) c.2 j).2).isSome) = true) ↔ ∀ j, j < c.1.toNat → goT outZ (rdOut F xs) c.2 j := by
    rw [List.all_eq_true]; simp only [List.mem_range]; rfl
  constructor
  · intro t ht
    unfold parseT at ht
    simp only [Option.bind_eq_some_iff] at ht
    obtain ⟨a', h0, b', h1, ht⟩ := ht
    have ea : a' = a := Prod.ext (nuD_some h0).1 (nuD_some h0).2
    subst ea
    have eb : b' = b := Prod.ext (nuD_some h1).1 (nuD_some h1).2
    subst eb
    split at ht
    case isFalse => cases ht
    rename_i hI
    simp only [Option.bind_eq_some_iff] at ht
    obtain ⟨c', h2, ht⟩ := ht
    have ec : c' = c := Prod.ext (nuD_some h2).1 (nuD_some h2).2
    subst ec
    split at ht
    case isFalse => cases ht
    rename_i hO
    cases ht
    simp only [Bool.and_eq_true, beq_iff_eq] at hO
    obtain ⟨⟨hO1, hO2⟩, hO3⟩ := hO
    have l24 : b.1 ≤ 24 ∧ c.1 ≤ 24 := by
      subst hF
      exact ⟨(rdN_le la h1).2.2, (rdN_le (lI _).1 h2).2.2⟩
    refine ⟨⟨by show b.1.toNat < _; omega, by show c.1.toNat < _; omega, fun j _ => (lI _).2 j, fun j _ => (lO _).2 j⟩, ?_⟩
    exact .evM hE (parse_1 F addM xs a.1 b.1 c.1 b.2 c.2 (rdIn F xs) (rdOut F xs) _ _ b.1.toNat c.1.toNat sI.1 sO.1 L hL hB a.2 (fun h1 h2 => ⟨h1, h2⟩) (fun h1 h2 => ⟨h1, h2⟩) (fun v p h => nuD_some h) (fun v p h => nuD_some h) rfl rfl (fun v p h => nuD_some h) (fun _ i => (lI i).1) (fun _ i => (lO i).1) (fun i => (lI i).2) (fun i => (lO i).2)
      (by rw [h0]; simp) (by rw [h1]; simp) (hgoI.1 hI) (by rw [h2]; simp) rfl rfl (hgoO.1 hO1) hO2 hO3)
  · intro hn
    refine .evM hE (parse_2 F addM xs a.1 b.1 c.1 b.2 c.2 (rdIn F xs) (rdOut F xs) _ _ b.1.toNat sI.1 L hL hB a.2 (fun h1 h2 => ⟨h1, h2⟩) (fun h1 h2 => ⟨h1, h2⟩) (fun v p h => nuD_some h) (fun v p h => nuD_some h) rfl rfl (fun v p h => nuD_some h) (fun _ i => (lI i).1) (fun _ i => (lO i).1) (fun i => (lI i).2) (fun i => (lO i).2) (fun e0 e1 eI e2 eO he hck => ?_))
    obtain ⟨a', h0⟩ := Option.ne_none_iff_exists'.1 e0
    have ea : a' = a := Prod.ext (nuD_some h0).1 (nuD_some h0).2
    subst ea
    obtain ⟨b', h1⟩ := Option.ne_none_iff_exists'.1 e1
    have eb : b' = b := Prod.ext (nuD_some h1).1 (nuD_some h1).2
    subst eb
    obtain ⟨c', h2⟩ := Option.ne_none_iff_exists'.1 e2
    have ec : c' = c := Prod.ext (nuD_some h2).1 (nuD_some h2).2
    subst ec
    unfold parseT at hn
    rw [h0] at hn
    simp only [Option.bind_some] at hn
    rw [h1] at hn
    simp only [Option.bind_some] at hn
    rw [if_pos (hgoI.2 eI)] at hn
    rw [h2] at hn
    simp only [Option.bind_some] at hn
    rw [if_pos (by rw [Bool.and_eq_true, Bool.and_eq_true, beq_iff_eq]; exact ⟨⟨hgoO.2 eO, he⟩, hck⟩)] at hn
    cases hn
def parseS (R : List Int → Option TxS) : FSumm := fun args h K => viewL none h true 20 args fun a => match a with
  | [.vints .u8 xs n] => need (xs.length = n ∧ n < 90000000000000) ((∀ t, R xs = some t → t.Ok → K (.ret (.tuple [.agg [.int .i64 t.num, .nslice ⟨h.next, 0, 130, 0, 0⟩ 130 t.N t.N, .nslice ⟨h.next + 1, 0, 132, 0, 0⟩ 132 t.M t.M], .int .i64 0])) ⟨h.next + 2, (h.next, .rows 130 t.N (inRows t.ins)) :: (h.next + 1, .rows 132 t.M (outRows t.outs)) :: h.bs⟩) ∧
    (R xs = none → K (.ret zeroTx) ⟨h.next, h.bs⟩))
  | _ => False
theorem parseS_ok (args : List AV) (h : Heap) (K : KO) (hl : parseS (parseT (firstB numW) addM) args h K) : CallsA PP 11 args h K := by
  refine Pure.fsumm (d := 20) (viewL_weak _ _ _ _ _ hl fun a ha => ?_)
  split at ha
  · obtain ⟨⟨h1, h2⟩, hK, hK'⟩ := need_ok ha
    have hp := parse_pure _ _ h1 h2
    cases hr : parseT (firstB numW) addM _ with
    | none => exact ⟨_, _, _, _, hp.2 hr, rfl, trivial, hK' hr⟩
    | some t => exact ⟨_, _, _, _, (hp.1 t hr).2, rfl, ⟨by decide, .rows _ _ _ (fun i _ => (t.ins i).plainC), by decide, .rows _ _ _ (fun i _ => (t.outs i).plainC), trivial⟩, hK t hr (hp.1 t hr).1⟩
  · exact ha.elim
end Go.Tk
end
section
namespace Go.Tk
structure Bytes (xs : List Int) : Prop where
  h : ∀ i : Nat, 0 ≤ xs.getD i 0 ∧ xs.getD i 0 ≤ 255
theorem Bytes.drop {xs : List Int} (h : Bytes xs) (n : Nat) : Bytes (xs.drop n) := ⟨fun i => by
  have := h.h (n + i)
  rw [List.getD_eq_getElem?_getD] at this
  rw [List.getD_eq_getElem?_getD, List.getElem?_drop]
  exact this⟩
end Go.Tk
end
section
namespace Go.Tk
end Go.Tk
end
section
namespace Go.Tk
mutual
/-- Without names; views may be. -/
def AV.vplain : AV → Bool
  | .top | .bool _ | .int _ _ | .str _ | .ptr none | .eslice | .fslice | .nilslice | .map none | .nilFunc | .nilIface | .arr _ _ _ => true
  | .vints _ _ _ | .vrows _ _ _ _ | .pview _ _ => true
  | .agg cs => vplainL cs
  | .tuple cs => vplainL cs
  | .iface _ v => v.vplain
  | _ => false
def vplainL : List AV → Bool
  | [] => true
  | v :: r => v.vplain && vplainL r
end
mutual
theorem VRel.vplain {E E' : Env} (hi : ∀ a c, E.imm a c → E'.imm a c) : ∀ (v : AV) (r : Value), v.vplain = true → VRel E v r → VRel E' v r
  | .top, r, _, _ => .top r
  | .bool b, r, _, h => h.plain rfl
  | .int k n, r, _, h => h.plain rfl
  | .str s, r, _, h => h.plain rfl
  | .ptr none, r, _, h => h.plain rfl
  | .eslice, r, _, h => h.plain rfl
  | .fslice, r, _, h => h.plain rfl
  | .nilslice, r, _, h => h.plain rfl
  | .map none, r, _, h => h.plain rfl
  | .nilFunc, r, _, h => h.plain rfl
  | .nilIface, r, _, h => h.plain rfl
  | .arr k n xs, r, _, h => h.plain rfl
  | .ptr (some p), r, hp, _ => by simp [AV.vplain] at hp
  | .nslice p a b c, r, hp, _ => by simp [AV.vplain] at hp
  | .map (some x), r, hp, _ => by simp [AV.vplain] at hp
  | .func a b c, r, hp, _ => by simp [AV.vplain] at hp
  | .yield x, r, hp, _ => by simp [AV.vplain] at hp
  | .pview cs inn, r, _, h => by
    cases h with
    | pview cs inn a vs hc hq => exact .pview cs inn a vs (CRel.mono (⟨fun _ _ h => by simp [Env.views] at h, hi⟩ : E.views.le E'.views) hc) (fun j c h => hi _ _ (hq j c h))
  | .vints k xs len, r, _, h => by
    cases h with
    | vintsNil k xs len h1 h2 => exact .vintsNil k xs len h1 h2
    | vints k xs len a cap h1 h2 hq => exact .vints k xs len a cap h1 h2 (fun i h => hi _ _ (hq i h))
  | .vrows esz n f len, r, _, h => by
    cases h with
    | vrowsNil esz n f len h1 h2 => exact .vrowsNil esz n f len h1 h2
    | vrows esz n f len a cap g h1 h2 hc hl hq => exact .vrows esz n f len a cap g h1 h2 (fun i h => CRel.mono (⟨fun _ _ h => by simp [Env.views] at h, hi⟩ : E.views.le E'.views) (hc i h)) hl (fun i j c h h' => hi _ _ (hq i j c h h'))
  | .iface t v, r, hp, h => by
    cases h with
    | iface t v x hx => exact .iface t v x (VRel.vplain hi v x (by simpa [AV.vplain] using hp) hx)
  | .agg cs, r, hp, h => by
    cases h with
    | agg cs vs hc => exact .agg cs vs (CRel.vplain hi cs vs (by simpa [AV.vplain] using hp) hc)
  | .tuple cs, r, hp, h => by
    cases h with
    | tuple _ rs hc => exact .tuple _ rs (LRel.vplain hi cs rs (by simpa [AV.vplain] using hp) hc)
theorem CRel.vplain {E E' : Env} (hi : ∀ a c, E.imm a c → E'.imm a c) : ∀ (l : List AV) (r : List Value), vplainL l = true → CRel E l r → CRel E' l r
  | [], r, _, h => by cases h; exact .nil
  | v :: l, r, hp, h => by
    simp only [vplainL, Bool.and_eq_true] at hp
    cases h with
    | one v c vs cs h0 h1 hv t => exact .one v c _ cs h0 h1 (VRel.vplain hi v c hp.1 hv) (CRel.vplain hi l cs hp.2 t)
    | arr k n xs vs cs t => exact .arr k n xs _ cs (CRel.vplain hi l cs hp.2 t)
theorem LRel.vplain {E E' : Env} (hi : ∀ a c, E.imm a c → E'.imm a c) : ∀ (l : List AV) (r : List Value), vplainL l = true → LRel E l r → LRel E' l r
  | [], r, _, h => by cases h; exact .nil
  | v :: l, r, hp, h => by
    simp only [vplainL, Bool.and_eq_true] at hp
    cases h with
    | cons v c vs cs hv t => exact .cons v c _ cs (VRel.vplain hi v c hp.1 hv) (LRel.vplain hi l cs hp.2 t)
end
def outV (R : AV → Prop) : KO := fun o _ => match o with
  | .ret u => (match u.vplain with | true => R u | false => False)
  | .panic _ => False
theorem outV_psumm {P : Program} {f : FuncId} {args : List AV} {h : Heap} {R : AV → Prop} {K : AV → Prop} (hp : vplainL args = true) (hc : CallsA P f args ⟨0, []⟩ (outV R)) (hK : ∀ u, R u → K u) :
    CallsA P f args h fun o h' => ∃ v, o = .ret v ∧ h' = h ∧ K v := by
  intro E w rs he hr
  have hemb : Emb E.views ⟨0, []⟩ w :=
    ⟨fun x _ => rfl, fun x B h => by simp [Heap.get, getB] at h, fun x B h => by simp [Heap.get, getB] at h, fun x y B B' b N N' h => by simp [Heap.get, getB] at h, he.imm, fun a c x B N _ h => by simp [Heap.get, getB] at h⟩
  refine (hc E.views w rs hemb (LRel.vplain (E := E) (E' := E.views) (fun _ _ h => h) _ _ hp hr)).mono ?_
  rintro e w' ⟨E₁, o, h', hK0, hev, hor⟩
  cases hor with
  | panic u r hr => exact hK0.elim
  | ret u r hr =>
    unfold outV at hK0
    simp only at hK0
    split at hK0
    · rename_i hu
      have hkeep : ∀ b, b < w.heap.size → w'.heap[b]? = w.heap[b]? := fun b hb => hev.keep b hb (fun ⟨x, B, N, hx, _⟩ => by simp [Heap.get, getB] at hx)
      have hemb' : Emb E h w' := by
        refine ⟨he.fresh, he.lt, fun x B hx => (he.own x B hx).congr fun b N hb => hkeep b ((he.own x B hx).lt hb), he.disj, fun a c hi => ?_, he.sep⟩
        have hcc := he.imm a c hi
        have hlt : a.block < w.heap.size := by
          rcases Nat.lt_or_ge a.block w.heap.size with hl | hg
          · exact hl
          · simp [World.cell?, Array.getElem?_eq_none hg] at hcc
        simpa [World.cell?, hkeep _ hlt] using hcc
      exact ⟨E, .ret u, h, ⟨u, rfl, rfl, hK u hK0⟩, ⟨.refl E, hemb', hev.size, hev.os, hev.tape, hev.output, fun b hb _ => hkeep b hb, fun b ho => .inl ho, fun _ _ h => h⟩, .ret _ _ (VRel.vplain (E := E₁) (E' := E) (fun a c hi => hev.imm a c hi) _ _ hu hr)⟩
    · exact hK0.elim
theorem outV_ev {G : Env2} (hG : G.Ok) {n : Nat} {f : FuncId} {args : List AV} {h : Heap} {R : AV → Prop} {K : AV → Prop} (hp : vplainL args = true) (hc : evF G n f args ⟨0, []⟩ (outV R)) (hK : ∀ u, R u → K u) :
    CallsA G.P f args h fun o h' => ∃ v, o = .ret v ∧ h' = h ∧ K v := outV_psumm hp (evF_ok hG hc) hK
end Go.Tk
end
section
namespace Go.Tk
end Go.Tk
end
section
namespace Go.Tk
end Go.Tk
end
section
namespace Go.Tk
def orL (b : St → Bool) (S1 S2 : Nat → St → KE → Prop) : Nat → St → KE → Prop := fun k s X => match b s with
  | true => S1 k s X
  | false => S2 k s X
theorem Env2.withL_or {G : Env2} (hG : G.Ok) {f : FuncId} {id : Nat} {b : St → Bool} {S1 S2 : Nat → St → KE → Prop} (h1 : (G.withL f id S1).Ok) (h2 : (G.withL f id S2).Ok) : (G.withL f id (orL b S1 S2)).Ok where
  draw := hG.draw
  psumm := hG.psumm
  fsumm := hG.fsumm
  lsumm := fun f' id' S' fn c body hS hf hb hm k s X hs => by
    have hS0 := hS
    simp only [Env2.withL] at hS
    split at hS
    · rename_i hq
      cases hS
      unfold orL at hs
      have a1 := h1.lsumm f' id' S1 fn c body
      have a2 := h2.lsumm f' id' S2 fn c body
      simp only [Env2.withL, hq] at a1 a2
      split at hs
      · exact a1 trivial hf hb hm k s X hs
      · exact a2 trivial hf hb hm k s X hs
    · exact hG.lsumm f' id' S' fn c body hS hf hb hm k s X hs
end Go.Tk
end
section
namespace Go.Tk
end Go.Tk
end
section
namespace Go.Tk
theorem Bytes.getD {xs : List Int} (h : Bytes xs) (i : Nat) : 0 ≤ xs.getD i 0 ∧ xs.getD i 0 < 256 := by
  have := h.h i
  omega
def out46S (R : OutS → Bool) : PSumm := fun args _ K => match args with
  | [.agg [.int .i64 kd, .int .i64 am, .arr .u8 32 ow, .arr .u8 32 ot, .arr .u8 32 po, .arr .u8 32 ha, .int .i64 de, .int .i64 ex]] => need (ow.length = 32 ∧ ot.length = 32 ∧ po.length = 32 ∧ ha.length = 32) ((Bytes ow ∧ Bytes ot) ∧ K (.bool (R ⟨kd, am, ow, ot, po, ha, de, ex⟩)))
  | _ => False
noncomputable def E35 : Env2 := (G0.withP 45 (inS inRight)).withP 46 (out46S outRight)
end Go.Tk
end
section
namespace Go.Tk
def exLo {ι : Type} (S : ι → Nat → St → KE → Prop) : Nat → St → KE → Prop := fun k s X => ∃ i, S i k s X
def rgH (t : TxS) : Heap := ⟨1, [(0, .flat t.c)]⟩
def rgP : AV := .ptr (some ⟨0, 0, 0, 0, 0⟩)
def rgS0 (t : TxS) (i : Nat) : St := ⟨106, [(3, .int .i64 i), (1, rgP)], rgH t, []⟩
def rgS2 (t : TxS) (i k : Nat) : St := ⟨106, [(4, .int .i64 k), (3, .int .i64 i), (1, rgP)], rgH t, []⟩
def rgR (t : TxS) : St := ⟨106, [(2, .bool false), (1, rgP)], rgH t, []⟩
def rgE0 (t : TxS) : St := ⟨106, [(1, rgP)], rgH t, []⟩
noncomputable def E36a (t : TxS) : Env2 := E35.withL 16 2 (exLo fun i : Nat => goM 0 (rgS2 t i 0) (i < t.N ∧ t.N ≤ 24 ∧ t.Ok) (endsJ 2 i 9 (fun k => sameAt t.ins (t.ins i) k = false) (fun k => k = i) (fun k => k < i ∧ sameAt t.ins (t.ins i) k = true) (fun _ => False) (fun _ => rgS0 t i) (fun _ => rgR t) (fun _ => rgR t)))
def okI (t : TxS) (i : Nat) : Bool := inRight (t.ins i) && !((List.range i).any (sameAt t.ins (t.ins i)))
set_option maxRecDepth 100000 in
set_option maxHeartbeats 0 in
theorem rg_0 (t : TxS) (i : Nat) (Z1 Z2 Z3 : Prop) (hi : i ≤ t.N) (hN : t.N ≤ 24) (ht : t.Ok) (h1 : i < t.N → okI t i = true → Z1) (h2 : i = t.N → Z2) (h3 : i < t.N → okI t i = false → Z3) :
    roundE (E36a t) 20 16 0 0 (rgS0 t i) (rdM 0 0 9 (rgS0 t (i + 1)) (rgE0 t) (rgR t) (rgR t) Z1 Z2 Z3 False) := by
  refine @Eq.mpr _ (let q1 := t.N;
 let q2 := t.ins (Int.toNat (↑i : Int));
 let q3 := q2.name;
 let q4 := q2.tag;
 let q5 := q2.also;
 let q6 := q2.secret;
 let q7 := decide (t.num = t.num);
 let q8 := decide (q1 = q1);
 let q9 := t.ins;
 let q10 := inRows q9;
 let q11 := q10 = q10;
 let q12 := decide (t.M = t.M);
 let q13 := outRows t.outs;
 let q14 := q13 = q13;
 let q15 := iteB q7 (iteB q8 (q11 ∧ iteB q8 (iteB q12 (q14 ∧ iteB q12 Z3 False) False) False) False) False;
 iteB (decide ((↑i : Int) < (↑q1 : Int))) (iteB (decide (0 ≤ (↑i : Int) ∧ (↑i : Int) < (↑q1 : Int))) (iteB (decide (List.length q3 = 32 ∧ List.length q4 = 32 ∧ List.length q5 = 32 ∧ List.length q6 = 32)) (iteB (!inRight (InS.mk q3 q2.index q2.way q4 q5 q6)) q15 (∃ (i_1 : Nat), iteB (decide ((↑i : Int) = (↑i_1 : Int))) (iteB q7 (iteB q8 (q11 ∧ iteB q8 (iteB q12 (q14 ∧ iteB q12 ((i_1 < q1 ∧ q1 ≤ 24 ∧ TxS.Ok t) ∧ ∀ (i_2 : Nat), i_2 ≤ i_1 → (∀ (j : Nat), j < i_2 → (fun (k : Nat) => sameAt q9 (q9 i_1) k = false) j) → (i_2 = i_1 → iteB (decide (IntKind.wrap IntKind.i64 ((↑i_1 : Int) + 1) = (↑(i + 1) : Int))) (iteB q7 (iteB q8 (q11 ∧ iteB q8 (iteB q12 (q14 ∧ iteB q12 Z1 False) False) False) False) False) False) ∧ (i_2 < i_1 ∧ sameAt q9 (q9 i_1) i_2 = true → q15) ∧ (False → iteB q7 (iteB q8 (q11 ∧ iteB q8 (iteB q12 (q14 ∧ iteB q12 False False) False) False) False) False)) False) False) False) False) False) False)) False) False)
 (iteB q7 (iteB q8 (q11 ∧ iteB q8 (iteB q12 (q14 ∧ iteB q12 Z2 False) False) False) False) False)) (by kernel_rfl) ?_
  conv => zeta
  try simp only [need_eq]
  try simp only [nope_eq]
  try simp only [iteD_eq]
  try simp only [iteT_eq]
  try simp only [iteF_eq]
  try simp only [iteE_eq]
  try simp only [Int.toNat_natCast, Nat.zero_add, true_and, and_true, Nat.le_refl]
  unfold okI at h1 h3
  refine ⟨fun hlt => ?_, fun hge => h2 (by omega)⟩
  have hlt : i < t.N := by omega
  obtain ⟨e1, e2, e3, e4⟩ := ht.ins i hlt
  have h1 := h1 hlt
  have h3 := h3 hlt
  refine ⟨by omega, ⟨e1, e2, e3, e4⟩, fun q => h3 ?_, fun q => ⟨i, rfl, ⟨hlt, hN, ht⟩, fun m hm hgo => ⟨fun hq => ⟨w64 (by omega), h1 ?_⟩, fun hq => h3 ?_, fun h => h⟩⟩⟩
  · have q : inRight (t.ins i) = false := by simpa using q
    rw [q, Bool.false_and]
  · subst hq
    have q : inRight (t.ins m) = true := by simpa using q
    rw [q, Bool.true_and]
    simp only [Bool.not_eq_true', List.any_eq_false, List.mem_range]
    intro j hj
    rw [hgo j hj]
    decide
  · have : (List.range i).any (sameAt t.ins (t.ins i)) = true := by
      rw [List.any_eq_true]
      exact ⟨m, by simpa using hq.1, hq.2⟩
    rw [this, Bool.not_true, Bool.and_false]
def sumO (t : TxS) (i : Nat) : Int := (amL t.outs i).sum
structure TxB (t : TxS) : Prop where
  h : ∀ i, i < t.M → Bytes (t.outs i).owner ∧ Bytes (t.outs i).other
def rightR (t : TxS) : Bool := decide (0 ≤ t.num ∧ t.num ≤ 2147483647) && decide (1 ≤ t.N ∧ t.N ≤ 24) && decide (1 ≤ t.M ∧ t.M ≤ 24) && (List.range t.N).all (okI t) && (List.range t.M).all (fun i => outRight (t.outs i)) && decide (sumO t t.M ≤ 1125899906842624)
theorem sameAt_iff {g : Nat → InS} {x : InS} {j : Nat} : sameAt g x j = true ↔ (g j).name = x.name ∧ (g j).index = x.index := by
  unfold sameAt sameO; simp
theorem twiceI_iff {N : Nat} {g : Nat → InS} {i : Nat} (hi : i < N) : twiceI N g (g i) = true ↔ ∃ j, j < N ∧ j ≠ i ∧ sameAt g (g i) j = true := by
  have hself : sameAt g (g i) i = true := sameAt_iff.2 ⟨rfl, rfl⟩
  unfold twiceI
  rcases findP_cases (sameAt g (g i)) N with ⟨_, hn⟩ | ⟨f, hf, ef, pf, hb⟩
  · rw [hn i hi] at hself; cases hself
  rcases findP_cases (sameAt (revI N g) (g i)) N with ⟨_, hn⟩ | ⟨l, hl, el, pl, hb'⟩
  · have := hn (N - 1 - i) (by omega)
    have e : sameAt (revI N g) (g i) (N - 1 - i) = sameAt g (g i) i := by unfold sameAt revI; congr 1; congr 1; omega
    rw [e, hself] at this; cases this
  have er : ∀ q, q < N → sameAt (revI N g) (g i) q = sameAt g (g i) (N - 1 - q) := fun q _ => rfl
  rw [er l hl] at pl
  rw [ef, el, bne_iff_ne]
  have hfi : f ≤ i := by
    rcases Nat.lt_or_ge i f with h | h
    · rw [hb i h] at hself; cases hself
    · exact h
  have hli : i ≤ N - 1 - l := by
    rcases Nat.lt_or_ge (N - 1 - i) l with h | h
    · have := hb' _ h
      rw [er _ (by omega), show N - 1 - (N - 1 - i) = i by omega, hself] at this; cases this
    · omega
  constructor
  · intro h
    rcases Nat.lt_or_ge f i with h1 | h1
    · exact ⟨f, hf, by omega, pf⟩
    · exact ⟨N - 1 - l, by omega, by omega, pl⟩
  · rintro ⟨j, hj, hne, pj⟩ h
    rcases Nat.lt_or_ge j f with h1 | h1
    · rw [hb j h1] at pj; cases pj
    · have := hb' (N - 1 - j) (by omega)
      rw [er _ (by omega), show N - 1 - (N - 1 - j) = j by omega, pj] at this; cases this
theorem allIn_amL {t : TxS} (h : ∀ j, j < t.M → outRight (t.outs j) = true) : allIn 1125899906842624 (amL t.outs t.M) = true := by
  unfold allIn
  rw [Bool.not_eq_true', List.any_eq_false]
  intro j hj
  have hj : j < t.M := by simpa [amL_len] using hj
  have := (outRight_facts (h j hj)).2.1
  have e : (amL t.outs t.M).getD j 0 = (t.outs j).amount := by simp [amL, List.getD_eq_getElem?_getD, hj]
  unfold overAt
  rw [e]
  unfold overI
  simp
  omega
theorem rightR_ck (t : TxS) : rightR t = ckTx addM t := by
  rw [Bool.eq_iff_iff]
  unfold rightR ckTx
  simp only [Bool.and_eq_true, decide_eq_true_eq, List.all_eq_true, List.mem_range, Bool.not_eq_true', List.any_eq_false, beq_iff_eq]
  constructor
  · rintro ⟨⟨⟨⟨⟨h1, h2⟩, h3⟩, h4⟩, h5⟩, h6⟩
    refine ⟨⟨⟨⟨⟨h1, h2⟩, h3⟩, fun i hi => ?_⟩, fun i hi => ?_⟩, ?_⟩
    · have h := h4 i hi
      unfold okI at h
      simp only [Bool.and_eq_true, Bool.not_eq_true', List.any_eq_false, List.mem_range] at h
      unfold wrongAt wrongI
      rw [h.1, Bool.not_true, Bool.false_or]
      intro hq
      obtain ⟨j, hj, hne, hs⟩ := (twiceI_iff hi).1 hq
      rcases Nat.lt_or_gt_of_ne hne with h0 | h0
      · exact h.2 j h0 hs
      · have h' := h4 j hj
        unfold okI at h'
        simp only [Bool.and_eq_true, Bool.not_eq_true', List.any_eq_false, List.mem_range] at h'
        refine h'.2 i h0 ?_
        rw [sameAt_iff] at hs ⊢
        exact ⟨hs.1.symm, hs.2.symm⟩
    · unfold wrongOAt wrongO
      rw [h5 i hi]
      decide
    · unfold addM
      unfold sumO at h6; rw [if_pos (allIn_amL h5), if_pos h6]
  · rintro ⟨⟨⟨⟨⟨h1, h2⟩, h3⟩, h4⟩, h5⟩, h6⟩
    have h5' : ∀ j, j < t.M → outRight (t.outs j) = true := fun j hj => by
      have := h5 j hj
      unfold wrongOAt wrongO at this
      simpa using this
    refine ⟨⟨⟨⟨⟨h1, h2⟩, h3⟩, fun i hi => ?_⟩, h5'⟩, ?_⟩
    · have h := h4 i hi
      unfold wrongAt wrongI at h
      simp only [Bool.or_eq_true, not_or, Bool.not_eq_true', Bool.not_eq_false, Bool.not_eq_true] at h
      unfold okI
      rw [h.1, Bool.true_and]
      simp only [Bool.not_eq_true', List.any_eq_false, List.mem_range]
      intro j hj hs
      have := (twiceI_iff hi).2 ⟨j, by omega, by omega, hs⟩
      rw [h.2] at this; cases this
    · unfold addM at h6
      rw [if_pos (allIn_amL h5')] at h6
      split at h6
      · assumption
      · cases h6
end Go.Tk
end
section
namespace Go.Tk
theorem Bytes.take {xs : List Int} (h : Bytes xs) (n : Nat) : Bytes (xs.take n) := ⟨fun i => by
  have := h.h i
  rw [List.getD_eq_getElem?_getD] at this ⊢
  rw [List.getElem?_take]
  split
  · exact this
  · simp⟩
end Go.Tk
end
section
namespace Go.Tk
end Go.Tk
end
section
namespace Go.Tk
theorem rdN_nil {most : Int} : rdN (firstB numW) [] 0 most = none := by
  unfold rdN
  rw [firstB_nil (by rfl)]
  rw [if_neg (by simp)]
theorem parseT_nil : parseT (firstB numW) addM [] = none := by
  unfold parseT
  rw [rdN_nil]
  rfl
def parseN (R : List Int → Option TxS) : FSumm := fun args h K => match args with
  | [.nilslice] => K (.ret zeroTx) ⟨h.next, h.bs⟩
  | _ => parseS R args h K
theorem Pure.nil0 {P : Program} {f : FuncId} {v : AV} {nx : Nat} {bs : List (Nat × Blk)} (h : Pure P f [.vints .u8 [] 0] v nx bs) : Pure P f [.nilslice] v nx bs := by
  intro E w rs he hr
  cases hr with
  | cons v r vs rs hv ht => cases ht with
    | nil => cases hv; exact h E w _ he (.cons _ _ _ _ (.vintsNil _ _ _ rfl rfl) .nil)
theorem parseN_ok (args : List AV) (h : Heap) (K : KO) (hl : parseN (parseT (firstB numW) addM) args h K) : CallsA PP 11 args h K := by
  unfold parseN at hl
  split at hl
  · have hp := ((parse_pure [] 0 rfl (by decide)).2 parseT_nil).nil0
    exact hp.calls (v' := zeroTx) (fun E w rs he hr => by cases hr with | cons v r vs rs hv ht => cases ht with | nil => cases hv; exact .cons _ _ _ _ .nilslice .nil) rfl trivial hl
  · exact parseS_ok _ _ _ hl
noncomputable def E39 (A : List Int → Int × Int) (Tg : List Int → TxS → List Int) (P : List Int → Option TxS) (F : TxS → Int → OutS → Int → Int → Int) : Env2 :=
  (((G0.withP 30 (ckS A)).withP 19 (txtagS A Tg)).withF 11 (parseN P)).withP 23 (spendS F)
theorem E39_ok : (E39 addM tagT' (parseT (firstB numW) addM) (spendF addM nameT hmac1 sha1 pointH outRight)).Ok :=
  Env2.withP_ok (Env2.withF_ok (Env2.withP_ok (Env2.withP_ok G0_ok ckS_ok) txtagS_ok) parseN_ok) spendS_ok
def oneO : OutS := ⟨1, 5, zero32, zero32, zero32, zero32, 0, 0⟩
def oneT (w : Int) (tg : List Int) : TxS := ⟨0, 1, fun _ => ⟨zero32, 0, w, tg, zero32, zero32⟩, 1, fun _ => oneO⟩
def noneT : TxS := ⟨0, 0, fun _ => inZ, 1, fun _ => oneO⟩
def key7 : List Int := 7 :: List.replicate 31 0
def outL7 : OutS := ⟨3, 6, key7, zero32, zero32, zero32, 3, 0⟩
theorem all1 {p : Nat → Prop} (h : p 0) : ∀ i, i < 1 → p i := fun i hi => by
  obtain rfl : i = 0 := by omega
  exact h
theorem oneO_ok : oneO.Ok := ⟨rfl, rfl, rfl, rfl⟩
theorem oneT_ok (w : Int) {tg : List Int} (h : tg.length = 32) : (oneT w tg).Ok := ⟨by show 1 < _; omega, by show 1 < _; omega, fun _ _ => ⟨rfl, h, rfl, rfl⟩, fun _ _ => oneO_ok⟩
theorem noneT_ok : noneT.Ok := ⟨by show 0 < _; omega, by show 1 < _; omega, fun _ _ => inZ_ok, fun _ _ => oneO_ok⟩
theorem outL7_ok : outL7.Ok := ⟨rfl, rfl, rfl, rfl⟩
set_option maxRecDepth 100000 in
set_option maxHeartbeats 0 in
theorem works_1 (A : List Int → Int × Int) (Tg : List Int → TxS → List Int) (P : List Int → Option TxS) (F : TxS → Int → OutS → Int → Int → Int) (hTl : ∀ k t, (Tg k t).length = 32) (c1 : ckTx A (oneT 3 zero32) = true) (c2 : ckTx A noneT = false) (f1 : F (oneT 3 (Tg key7 (oneT 3 zero32))) 0 outL7 10 12 = 171) (f2 : F (oneT 3 (Tg key7 (oneT 3 zero32))) 0 outL7 10 13 = 0) (f3 : F (oneT 4 zero32) 0 oneO 0 0 = 171) :
    evF (E39 A Tg P F) 20 10 [] ⟨0, []⟩ (outV (fun v => v = .bool true)) := by
  refine @Eq.mpr _ (let q1 := AV.arr IntKind.u8 32 zero32;
 let q2 := AV.int IntKind.i64 0;
 let q3 := AV.int IntKind.i64 3;
 let q4 := [q1, q1];
 let q5 := q1 :: q4;
 let q6 := [q2];
 let q7 := AV.int IntKind.i64 1 :: AV.int IntKind.i64 5 :: q1 :: q1 :: q1 :: q1 :: q2 :: q6;
 let q8 := AV.bool false = AV.bool true;
 let q9 := [(7 : Int), 0, 0, 0, 0, 0, 0, 0, 0, 0, 0, 0, 0, 0, 0, 0, 0, 0, 0, 0, 0, 0, 0, 0, 0, 0, 0, 0, 0, 0, 0, 0];
 let q10 := (-9223372036854775808 : Int) ≤ 10 ∧ (10 : Int) < 9223372036854775808;
 let q11 := (-9223372036854775808 : Int) ≤ 0 ∧ (0 : Int) < 9223372036854775808;
 ∃ (t : TxS),
 (t.num = 0 ∧ (((1 : Nat) = 1 ∧ t.N = 1) ∧ ∀ (i : Nat), i < 1 → rowC (q1 :: q2 :: q3 :: q5) 0 130 i = InS.c (t.ins i)) ∧ ((1 : Nat) = 1 ∧ t.M = 1) ∧ ∀ (i : Nat), i < 1 → rowC q7 0 132 i = OutS.c (t.outs i)) ∧
 (TxS.Ok t ∧ (32 : Nat) = 32) ∧
 iteB (ckTx A t)
 (∃ (t_1 : TxS),
 (t_1.num = 0 ∧ t_1.N = 0 ∧ ((1 : Nat) = 1 ∧ t_1.M = 1) ∧ ∀ (i : Nat), i < 1 → rowC q7 0 132 i = OutS.c (t_1.outs i)) ∧
 TxS.Ok t_1 ∧
 iteB (ckTx A t_1) q8
 (∃ (t_2 : TxS),
 ∃ (o : OutS),
 let q23 := q3 :: AV.int IntKind.i64 6 :: AV.arr IntKind.u8 32 q9 :: q1 :: q1 :: q1 :: q3 :: q6;
 (t_2.num = 0 ∧ (((1 : Nat) = 1 ∧ t_2.N = 1) ∧ ∀ (i : Nat), i < 1 → rowC (q1 :: q2 :: q3 :: AV.arr IntKind.u8 32 (Tg q9 t) :: q4) 0 130 i = InS.c (t_2.ins i)) ∧ ((1 : Nat) = 1 ∧ t_2.M = 1) ∧ ∀ (i : Nat), i < 1 → rowC q7 0 132 i = OutS.c (t_2.outs i)) ∧
 q23 = OutS.c o ∧
 (TxS.Ok t_2 ∧ OutS.Ok o ∧ q10 ∧ (-9223372036854775808 : Int) ≤ 12 ∧ (12 : Int) < 9223372036854775808) ∧ iteB (F t_2 0 o 10 12 == 171) (∃ (t_3 : TxS), ∃ (o : OutS), (t_3.num = 0 ∧ (((1 : Nat) = 1 ∧ t_3.N = 1) ∧ ∀ (i : Nat), i < 1 → rowC (q1 :: q2 :: q3 :: AV.arr IntKind.u8 32 (Tg q9 t) :: q4) 0 130 i = InS.c (t_3.ins i)) ∧ ((1 : Nat) = 1 ∧ t_3.M = 1) ∧ ∀ (i : Nat), i < 1 → rowC q7 0 132 i = OutS.c (t_3.outs i)) ∧ q23 = OutS.c o ∧ (TxS.Ok t_3 ∧ OutS.Ok o ∧ q10 ∧ (-9223372036854775808 : Int) ≤ 13 ∧ (13 : Int) < 9223372036854775808) ∧ iteB (F t_3 0 o 10 13 == 0) (zero32 = zero32 ∧ zero32 = zero32 ∧ zero32 = zero32 ∧ zero32 = zero32 ∧ ∃ (t : TxS), ∃ (o : OutS), (t.num = 0 ∧ (((1 : Nat) = 1 ∧ t.N = 1) ∧ ∀ (i : Nat), i < 1 → rowC (q1 :: q2 :: AV.int IntKind.i64 4 :: q5) 0 130 i = InS.c (t.ins i)) ∧ ((1 : Nat) = 1 ∧ t.M = 1) ∧ ∀ (i : Nat), i < 1 → rowC q7 0 132 i = OutS.c (t.outs i)) ∧ q7 = OutS.c o ∧ (TxS.Ok t ∧ OutS.Ok o ∧ q11 ∧ q11) ∧ AV.bool (F t 0 o 0 0 == 171) = AV.bool true) q8) q8))
 (∃ (t : TxS),
 (t.num = 0 ∧ t.N = 0 ∧ ((1 : Nat) = 1 ∧ t.M = 1) ∧ ∀ (i : Nat), i < 1 → rowC q7 0 132 i = OutS.c (t.outs i)) ∧
 TxS.Ok t ∧
 iteB (ckTx A t) q8
 (∃ (t : TxS),
 ∃ (o : OutS),
 let q23 := q3 :: AV.int IntKind.i64 6 :: AV.arr IntKind.u8 32 q9 :: q1 :: q1 :: q1 :: q3 :: q6;
 (t.num = 0 ∧ (((1 : Nat) = 1 ∧ t.N = 1) ∧ ∀ (i : Nat), i < 1 → rowC (q1 :: q2 :: q3 :: q5) 0 130 i = InS.c (t.ins i)) ∧ ((1 : Nat) = 1 ∧ t.M = 1) ∧ ∀ (i : Nat), i < 1 → rowC q7 0 132 i = OutS.c (t.outs i)) ∧
 q23 = OutS.c o ∧ (TxS.Ok t ∧ OutS.Ok o ∧ q10 ∧ (-9223372036854775808 : Int) ≤ 12 ∧ (12 : Int) < 9223372036854775808) ∧ iteB (F t 0 o 10 12 == 171) (∃ (t : TxS), ∃ (o : OutS), (t.num = 0 ∧ (((1 : Nat) = 1 ∧ t.N = 1) ∧ ∀ (i : Nat), i < 1 → rowC (q1 :: q2 :: q3 :: q5) 0 130 i = InS.c (t.ins i)) ∧ ((1 : Nat) = 1 ∧ t.M = 1) ∧ ∀ (i : Nat), i < 1 → rowC q7 0 132 i = OutS.c (t.outs i)) ∧ q23 = OutS.c o ∧ (TxS.Ok t ∧ OutS.Ok o ∧ q10 ∧ (-9223372036854775808 : Int) ≤ 13 ∧ (13 : Int) < 9223372036854775808) ∧ iteB (F t 0 o 10 13 == 0) (zero32 = zero32 ∧ zero32 = zero32 ∧ zero32 = zero32 ∧ zero32 = zero32 ∧ ∃ (t : TxS), ∃ (o : OutS), (t.num = 0 ∧ (((1 : Nat) = 1 ∧ t.N = 1) ∧ ∀ (i : Nat), i < 1 → rowC (q1 :: q2 :: AV.int IntKind.i64 4 :: q5) 0 130 i = InS.c (t.ins i)) ∧ ((1 : Nat) = 1 ∧ t.M = 1) ∧ ∀ (i : Nat), i < 1 → rowC q7 0 132 i = OutS.c (t.outs i)) ∧ q7 = OutS.c o ∧ (TxS.Ok t ∧ OutS.Ok o ∧ q11 ∧ q11) ∧ AV.bool (F t 0 o 0 0 == 171) = AV.bool true) q8) q8))) (by kernel_rfl) ?_
  conv => zeta
  try simp only [need_eq]
  try simp only [nope_eq]
  try simp only [iteD_eq]
  try simp only [iteT_eq]
  try simp only [iteF_eq]
  try simp only [iteE_eq]
  try simp only [Int.toNat_natCast, Nat.zero_add, true_and, and_true, Nat.le_refl]
  refine ⟨oneT 3 zero32, ⟨rfl, ⟨rfl, all1 rfl⟩, rfl, all1 rfl⟩, oneT_ok _ rfl, fun _ => ?_, fun h => (by rw [c1] at h; cases h)⟩
  refine ⟨noneT, ⟨rfl, rfl, rfl, all1 rfl⟩, noneT_ok, fun h => (by rw [c2] at h; cases h), fun _ => ?_⟩
  refine ⟨oneT 3 (Tg key7 (oneT 3 zero32)), outL7, ⟨rfl, ⟨rfl, all1 rfl⟩, rfl, all1 rfl⟩, rfl, ?_, ?_, ?_⟩
  · exact ⟨oneT_ok _ (hTl _ _), outL7_ok, ⟨by omega, by omega⟩, by omega, by omega⟩
  rotate_left
  · intro h; rw [f1] at h; cases h
  intro _
  refine ⟨oneT 3 (Tg key7 (oneT 3 zero32)), outL7, ⟨rfl, ⟨rfl, all1 rfl⟩, rfl, all1 rfl⟩, rfl, ?_, ?_, ?_⟩
  · exact ⟨oneT_ok _ (hTl _ _), outL7_ok, ⟨by omega, by omega⟩, by omega, by omega⟩
  rotate_left
  · intro h; rw [f2] at h; cases h
  intro _
  refine ⟨oneT 4 zero32, oneO, ⟨rfl, ⟨rfl, all1 rfl⟩, rfl, all1 rfl⟩, rfl, ⟨oneT_ok _ rfl, oneO_ok, ⟨by omega, by omega⟩, by omega, by omega⟩, ?_⟩
  rw [f3]; rfl
theorem oneO_right : outRight oneO = true := by unfold outRight; decide
theorem outL7_right : outRight outL7 = true := by unfold outRight; decide
theorem oneT_ck {w : Int} {tg : List Int} (h : inRight ⟨zero32, 0, w, tg, zero32, zero32⟩ = true) : ckTx addM (oneT w tg) = true := by
  rw [← rightR_ck]
  unfold rightR
  have e1 : (List.range (oneT w tg).N).all (okI (oneT w tg)) = true := by
    rw [List.all_eq_true]
    intro i hi
    obtain rfl : i = 0 := by have : i < (oneT w tg).N := by simpa using hi
                             have e : (oneT w tg).N = 1 := rfl
                             omega
    show (inRight ⟨zero32, 0, w, tg, zero32, zero32⟩ && !((List.range 0).any _)) = true
    rw [h]; rfl
  have e2 : (List.range (oneT w tg).M).all (fun i => outRight ((oneT w tg).outs i)) = true := by
    rw [List.all_eq_true]
    intro i hi
    exact oneO_right
  rw [e1, e2]
  rfl
theorem in3_right (tg : List Int) : inRight ⟨zero32, 0, 3, tg, zero32, zero32⟩ = true := by
  unfold inRight; simp
theorem in4_right : inRight ⟨zero32, 0, 4, zero32, zero32, zero32⟩ = true := by
  unfold inRight; decide
theorem noneT_ck : ckTx addM noneT = false := by
  rw [← rightR_ck]
  unfold rightR
  have e : decide (1 ≤ noneT.N ∧ noneT.N ≤ 24) = false := rfl
  rw [e]; simp
theorem oneT_name (tg : List Int) : nameT (oneT 3 tg) = nameT (oneT 3 zero32) := by
  unfold nameT rawT rawO rawI
  rfl
theorem works_calls (h : Heap) (K : AV → Prop) (hK : K (.bool true)) : CallsA PP 10 [] h fun o h' => ∃ v, o = .ret v ∧ h' = h ∧ K v := by
  refine outV_ev E39_ok rfl (works_1 _ _ _ _ tagT'_len (oneT_ck (in3_right _)) noneT_ck ?_ ?_ ?_) (fun u hu => hu ▸ hK)
  · rw [spendF_n (by rw [oneT_ck (in3_right _), outL7_right]; decide)]
    rw [if_neg]
    unfold rightI
    simp [outL7, oneT]
  · rw [spendF_n (by rw [oneT_ck (in3_right _), outL7_right]; decide)]
    rw [if_pos]
    rw [oneT_name]
    unfold rightI tagT' nameT
    simp [outL7, oneT]
  · rw [spendF_n (by rw [oneT_ck in4_right, oneO_right]; decide)]
    rw [if_neg]
    unfold rightI
    simp [oneO, oneT]
end Go.Tk
end
section
namespace Go.Tk
def smH (a b : TxS) : Heap := ⟨2, [(0, .flat a.c), (1, .flat b.c)]⟩
def smP (l : Tmps) : Tmps := l ++ [(2, .ptr (some ⟨0, 0, 0, 0, 0⟩)), (3, .ptr (some ⟨1, 0, 0, 0, 0⟩))]
def smS1 (a b : TxS) (i : Nat) : St := ⟨66, smP [(5, .int .i64 i)], smH a b, []⟩
def smS2 (a b : TxS) (i : Nat) : St := ⟨66, smP [(6, .int .i64 i)], smH a b, []⟩
def smE (a b : TxS) : St := ⟨66, smP [], smH a b, []⟩
def smR (a b : TxS) : St := ⟨66, smP [(4, .bool false)], smH a b, []⟩
set_option maxRecDepth 100000 in
set_option maxHeartbeats 0 in
theorem sm_1 (a b : TxS) (i : Nat) (Z1 Z2 Z3 : Prop) (ha : a.Ok) (hb : b.Ok) (hN : a.N = b.N) (hi : i ≤ a.N) (h1 : i < a.N → eqIn (a.ins i) (b.ins i) = true → Z1) (h2 : i = a.N → Z2) (h3 : i < a.N → eqIn (a.ins i) (b.ins i) = false → Z3) :
    roundE G0 20 13 0 0 (smS1 a b i) (rdM 0 0 9 (smS1 a b (i + 1)) (smE a b) (smR a b) (smR a b) Z1 Z2 Z3 False) := by
  refine @Eq.mpr _ (let q1 := a.N;
 let q2 := b.N;
 let q3 := a.ins (Int.toNat (↑i : Int));
 let q4 := q3.name;
 let q5 := b.ins (Int.toNat (↑i : Int));
 let q6 := q5.name;
 let q7 := q3.tag;
 let q8 := q5.tag;
 let q9 := q3.also;
 let q10 := q5.also;
 let q11 := q3.secret;
 let q12 := q5.secret;
 let q13 := decide (a.num = a.num);
 let q14 := decide (q1 = q1);
 let q15 := inRows a.ins;
 let q16 := q15 = q15;
 let q17 := decide (a.M = a.M);
 let q18 := outRows a.outs;
 let q19 := q18 = q18;
 let q20 := decide (b.num = b.num);
 let q21 := decide (q2 = q2);
 let q22 := inRows b.ins;
 let q23 := q22 = q22;
 let q24 := decide (b.M = b.M);
 let q25 := outRows b.outs;
 let q26 := q25 = q25;
 iteB (decide ((↑i : Int) < (↑q1 : Int)))
 (iteB (decide (0 ≤ (↑i : Int) ∧ (↑i : Int) < (↑q1 : Int))) (iteB (decide (0 ≤ (↑i : Int) ∧ (↑i : Int) < (↑q2 : Int))) (iteB (decide (List.length q4 = 32 ∧ List.length q6 = 32)) (iteB (decide (List.length q7 = 32 ∧ List.length q8 = 32)) (iteB (decide (List.length q9 = 32 ∧ List.length q10 = 32)) (iteB (decide (List.length q11 = 32 ∧ List.length q12 = 32)) (iteB (!(q4 == q6 && (q3.index == q5.index && (q3.way == q5.way && (q7 == q8 && (q9 == q10 && q11 == q12)))))) (iteB q13 (iteB q14 (q16 ∧ iteB q14 (iteB q17 (q19 ∧ iteB q17 (iteB q20 (iteB q21 (q23 ∧ iteB q21 (iteB q24 (q26 ∧ iteB q24 Z3 False) False) False) False) False) False) False) False) False) False) (iteB (decide (IntKind.wrap IntKind.i64 ((↑i : Int) + 1) = (↑(i + 1) : Int))) (iteB q13 (iteB q14 (q16 ∧ iteB q14 (iteB q17 (q19 ∧ iteB q17 (iteB q20 (iteB q21 (q23 ∧ iteB q21 (iteB q24 (q26 ∧ iteB q24 Z1 False) False) False) False) False) False) False) False) False) False) False)) False) False) False) False) False) False)
 (iteB q13 (iteB q14 (q16 ∧ iteB q14 (iteB q17 (q19 ∧ iteB q17 (iteB q20 (iteB q21 (q23 ∧ iteB q21 (iteB q24 (q26 ∧ iteB q24 Z2 False) False) False) False) False) False) False) False) False) False)) (by kernel_rfl) ?_
  conv => zeta
  try simp only [need_eq]
  try simp only [nope_eq]
  try simp only [iteD_eq]
  try simp only [iteT_eq]
  try simp only [iteF_eq]
  try simp only [iteE_eq]
  try simp only [Int.toNat_natCast, Nat.zero_add, true_and, and_true, Nat.le_refl]
  refine ⟨fun hlt => ?_, fun hge => h2 (by omega)⟩
  have hlt : i < a.N := by omega
  have h1 := h1 hlt
  have h3 := h3 hlt
  obtain ⟨e1, e2, e3, e4⟩ := ha.ins i hlt
  obtain ⟨d1, d2, d3, d4⟩ := hb.ins i (by omega)
  have hN0 := ha.n
  refine ⟨by omega, by omega, ⟨e1, d1⟩, ⟨e2, d2⟩, ⟨e3, d3⟩, ⟨e4, d4⟩, fun q => h3 ?_, fun q => ⟨w64 (by omega), h1 ?_⟩⟩
  · unfold eqIn
    rw [Bool.not_eq_true'] at q
    simp only [Bool.and_assoc]
    exact q
  · unfold eqIn
    rw [Bool.not_eq_false'] at q
    simp only [Bool.and_assoc]
    exact q
set_option maxRecDepth 100000 in
set_option maxHeartbeats 0 in
theorem sm_2 (a b : TxS) (i : Nat) (Z1 Z2 Z3 : Prop) (ha : a.Ok) (hb : b.Ok) (hN : a.M = b.M) (hi : i ≤ a.M) (h1 : i < a.M → eqOut (a.outs i) (b.outs i) = true → Z1) (h2 : i = a.M → Z2) (h3 : i < a.M → eqOut (a.outs i) (b.outs i) = false → Z3) :
    roundE G0 20 13 2 0 (smS2 a b i) (rdM 0 2 9 (smS2 a b (i + 1)) (smE a b) (smR a b) (smR a b) Z1 Z2 Z3 False) := by
  refine @Eq.mpr _ (let q1 := a.M;
 let q2 := b.M;
 let q3 := a.outs (Int.toNat (↑i : Int));
 let q4 := q3.owner;
 let q5 := b.outs (Int.toNat (↑i : Int));
 let q6 := q5.owner;
 let q7 := q3.other;
 let q8 := q5.other;
 let q9 := q3.point;
 let q10 := q5.point;
 let q11 := q3.hash;
 let q12 := q5.hash;
 let q13 := decide (a.num = a.num);
 let q14 := decide (a.N = a.N);
 let q15 := inRows a.ins;
 let q16 := q15 = q15;
 let q17 := decide (q1 = q1);
 let q18 := outRows a.outs;
 let q19 := q18 = q18;
 let q20 := decide (b.num = b.num);
 let q21 := decide (b.N = b.N);
 let q22 := inRows b.ins;
 let q23 := q22 = q22;
 let q24 := decide (q2 = q2);
 let q25 := outRows b.outs;
 let q26 := q25 = q25;
 iteB (decide ((↑i : Int) < (↑q1 : Int)))
 (iteB (decide (0 ≤ (↑i : Int) ∧ (↑i : Int) < (↑q1 : Int)))
 (iteB (decide (0 ≤ (↑i : Int) ∧ (↑i : Int) < (↑q2 : Int))) (iteB (decide (List.length q4 = 32 ∧ List.length q6 = 32)) (iteB (decide (List.length q7 = 32 ∧ List.length q8 = 32)) (iteB (decide (List.length q9 = 32 ∧ List.length q10 = 32)) (iteB (decide (List.length q11 = 32 ∧ List.length q12 = 32)) (iteB (!(q3.kind == q5.kind && (q3.amount == q5.amount && (q4 == q6 && (q7 == q8 && (q9 == q10 && (q11 == q12 && (q3.delay == q5.delay && q3.expiry == q5.expiry)))))))) (iteB q13 (iteB q14 (q16 ∧ iteB q14 (iteB q17 (q19 ∧ iteB q17 (iteB q20 (iteB q21 (q23 ∧ iteB q21 (iteB q24 (q26 ∧ iteB q24 Z3 False) False) False) False) False) False) False) False) False) False) (iteB (decide (IntKind.wrap IntKind.i64 ((↑i : Int) + 1) = (↑(i + 1) : Int))) (iteB q13 (iteB q14 (q16 ∧ iteB q14 (iteB q17 (q19 ∧ iteB q17 (iteB q20 (iteB q21 (q23 ∧ iteB q21 (iteB q24 (q26 ∧ iteB q24 Z1 False) False) False) False) False) False) False) False) False) False) False)) False) False) False) False) False) False)
 (iteB q13 (iteB q14 (q16 ∧ iteB q14 (iteB q17 (q19 ∧ iteB q17 (iteB q20 (iteB q21 (q23 ∧ iteB q21 (iteB q24 (q26 ∧ iteB q24 Z2 False) False) False) False) False) False) False) False) False) False)) (by kernel_rfl) ?_
  conv => zeta
  try simp only [need_eq]
  try simp only [nope_eq]
  try simp only [iteD_eq]
  try simp only [iteT_eq]
  try simp only [iteF_eq]
  try simp only [iteE_eq]
  try simp only [Int.toNat_natCast, Nat.zero_add, true_and, and_true, Nat.le_refl]
  refine ⟨fun hlt => ?_, fun hge => h2 (by omega)⟩
  have hlt : i < a.M := by omega
  have h1 := h1 hlt
  have h3 := h3 hlt
  obtain ⟨e1, e2, e3, e4⟩ := ha.outs i hlt
  obtain ⟨d1, d2, d3, d4⟩ := hb.outs i (by omega)
  have hN0 := ha.m
  refine ⟨by omega, by omega, ⟨e1, d1⟩, ⟨e2, d2⟩, ⟨e3, d3⟩, ⟨e4, d4⟩, fun q => h3 ?_, fun q => ⟨w64 (by omega), h1 ?_⟩⟩
  · unfold eqOut
    rw [Bool.not_eq_true'] at q
    simp only [Bool.and_assoc]
    exact q
  · unfold eqOut
    rw [Bool.not_eq_false'] at q
    simp only [Bool.and_assoc]
    exact q
def smL1 (a b : TxS) : Nat → St → KE → Prop := goM 0 (smS1 a b 0) (a.Ok ∧ b.Ok ∧ a.N = b.N) (endsJ 0 a.N 9 (fun i => eqIn (a.ins i) (b.ins i) = true) (fun i => i = a.N) (fun i => i < a.N ∧ eqIn (a.ins i) (b.ins i) = false) (fun _ => False) (fun _ => smE a b) (fun _ => smR a b) (fun _ => smR a b))
def smL2 (a b : TxS) : Nat → St → KE → Prop := goM 0 (smS2 a b 0) (a.Ok ∧ b.Ok ∧ a.M = b.M) (endsJ 2 a.M 9 (fun i => eqOut (a.outs i) (b.outs i) = true) (fun i => i = a.M) (fun i => i < a.M ∧ eqOut (a.outs i) (b.outs i) = false) (fun _ => False) (fun _ => smE a b) (fun _ => smR a b) (fun _ => smR a b))
noncomputable def E40 (a b : TxS) : Env2 := (G0.withL 13 0 (smL1 a b)).withL 13 2 (smL2 a b)
theorem E40_ok (a b : TxS) : (E40 a b).Ok := by
  have h1 : (G0.withL 13 0 (smL1 a b)).Ok := Env2.withGoM (N := 20) (S := smS1 a b) G0_ok (by kernel_rfl) fun hC => ⟨rfl, fun i hi hgo => sm_1 a b i _ _ _ hC.1 hC.2.1 hC.2.2 hi (fun h1 h2 => ⟨h2, h1⟩) (fun h => h) (fun h1 h2 => ⟨h1, h2⟩)⟩
  have h2 : (G0.withL 13 2 (smL2 a b)).Ok := Env2.withGoM (N := 20) (S := smS2 a b) G0_ok (by kernel_rfl) fun hC => ⟨rfl, fun i hi hgo => sm_2 a b i _ _ _ hC.1 hC.2.1 hC.2.2 hi (fun h1 h2 => ⟨h2, h1⟩) (fun h => h) (fun h1 h2 => ⟨h1, h2⟩)⟩
  exact Env2.withL_join (H := G0) h1 rfl h2
set_option maxRecDepth 100000 in
set_option maxHeartbeats 0 in
theorem sm_t (a b : TxS) (F : Bool) (ha : a.Ok) (hb : b.Ok) (hF : F = sameT a b) :
    evF (E40 a b) 20 13 [.agg a.c, .agg b.c] ⟨0, []⟩ (outK 0 [] (.bool F) 0 []) := by
  refine @Eq.mpr _ (let q1 := a.num;
 let q2 := b.num;
 let q3 := iteB (decide (false = F)) True False;
 let q4 := a.N;
 let q5 := b.N;
 let q6 := a.M;
 let q7 := b.M;
 let q8 := decide (q1 = q1);
 let q9 := decide (q4 = q4);
 let q10 := inRows a.ins;
 let q11 := q10 = q10;
 let q12 := decide (q6 = q6);
 let q13 := outRows a.outs;
 let q14 := q13 = q13;
 let q15 := decide (q2 = q2);
 let q16 := decide (q5 = q5);
 let q17 := inRows b.ins;
 let q18 := q17 = q17;
 let q19 := decide (q7 = q7);
 let q20 := outRows b.outs;
 let q21 := q20 = q20;
 iteB (q1 != q2) q3 (iteB ((↑q4 : Int) != (↑q5 : Int)) q3 (iteB ((↑q6 : Int) != (↑q7 : Int)) q3 (iteB q8 (iteB q9 (q11 ∧ iteB q9 (iteB q12 (q14 ∧ iteB q12 (iteB q15 (iteB q16 (q18 ∧ iteB q16 (iteB q19 (q21 ∧ iteB q19 ((TxS.Ok a ∧ TxS.Ok b ∧ q4 = q5) ∧ ∀ (i : Nat), i ≤ q4 → (∀ (j : Nat), j < i → (fun (i : Nat) => eqIn (a.ins i) (b.ins i) = true) j) → (i = q4 → iteB q8 (iteB q9 (q11 ∧ iteB q9 (iteB q12 (q14 ∧ iteB q12 (iteB q15 (iteB q16 (q18 ∧ iteB q16 (iteB q19 (q21 ∧ iteB q19 ((TxS.Ok a ∧ TxS.Ok b ∧ q6 = q7) ∧ ∀ (i : Nat), i ≤ q6 → (∀ (j : Nat), j < i → (fun (i : Nat) => eqOut (a.outs i) (b.outs i) = true) j) → (i = q6 → iteB (decide (true = F)) True False) ∧ (i < q6 ∧ eqOut (a.outs i) (b.outs i) = false → q3) ∧ (False → False)) False) False) False) False) False) False) False) False) False) False) ∧ (i < q4 ∧ eqIn (a.ins i) (b.ins i) = false → q3) ∧ (False → False)) False) False) False) False) False) False) False) False) False) False)))) (by kernel_rfl) ?_
  conv => zeta
  try simp only [need_eq]
  try simp only [nope_eq]
  try simp only [iteD_eq]
  try simp only [iteT_eq]
  try simp only [iteF_eq]
  try simp only [iteE_eq]
  try simp only [Int.toNat_natCast, Nat.zero_add, true_and, and_true, Nat.le_refl]
  have hn : a.num ≠ b.num → false = sameT a b := fun h => by
    unfold sameT; rw [beq_eq_false_iff_ne.2 h]; rfl
  have hi : eqiL a.N a.ins b.N b.ins = false → false = sameT a b := fun h => by
    unfold sameT; rw [h, Bool.false_and, Bool.and_false]
  have ho : eqoL a.M a.outs b.M b.outs = false → false = sameT a b := fun h => by
    unfold sameT; rw [h, Bool.and_false, Bool.and_false]
  subst hF
  refine ⟨fun h => hn (by simpa using h), fun h0 => ⟨fun h => hi ?_, fun h1 => ⟨fun h => ho ?_, fun h2 => ?_⟩⟩⟩
  · have h : a.N ≠ b.N := fun e => by rw [e] at h; simp at h
    unfold eqiL; rw [decide_eq_false h, Bool.false_and]
  · have h : a.M ≠ b.M := fun e => by rw [e] at h; simp at h
    unfold eqoL; rw [decide_eq_false h, Bool.false_and]
  have h0 : a.num = b.num := by simpa using h0
  have h1 : a.N = b.N := by have : (a.N : Int) = b.N := by simpa using h1
                            omega
  have h2 : a.M = b.M := by have : (a.M : Int) = b.M := by simpa using h2
                            omega
  refine ⟨⟨ha, hb, h1⟩, fun i hi' hgo => ⟨fun hx => ⟨⟨ha, hb, h2⟩, fun k hk hgo2 => ⟨fun hx2 => ?_, fun hx2 => ho ?_, fun h => h⟩⟩, fun hx => hi ?_, fun h => h⟩⟩
  · subst hx hx2
    have e1 : (List.range a.N).all (fun i => eqIn (a.ins i) (b.ins i)) = true := by
      rw [List.all_eq_true]; intro j hj; exact hgo j (by simpa using hj)
    have e2 : (List.range a.M).all (fun i => eqOut (a.outs i) (b.outs i)) = true := by
      rw [List.all_eq_true]; intro j hj; exact hgo2 j (by simpa using hj)
    unfold sameT eqiL eqoL
    rw [e1, e2, decide_eq_true h1, decide_eq_true h2, h0, beq_self_eq_true]; rfl
  · have e2 : (List.range a.M).all (fun i => eqOut (a.outs i) (b.outs i)) = false := by
      rw [List.all_eq_false]; exact ⟨k, by simpa using hx2.1, by simp [hx2.2]⟩
    unfold eqoL; rw [e2, Bool.and_false]
  · have e1 : (List.range a.N).all (fun i => eqIn (a.ins i) (b.ins i)) = false := by
      rw [List.all_eq_false]; exact ⟨i, by simpa using hx.1, by simp [hx.2]⟩
    unfold eqiL; rw [e1, Bool.and_false]
theorem samer_ok (args : List AV) (h : Heap) (K : AV → Prop) (hl : sametS sameT args h K) : CallsA PP 13 args h fun o h' => ∃ v, o = .ret v ∧ h' = h ∧ K v := by
  refine Pure.psumm (d := 20) (viewL_weak _ _ _ _ _ hl fun a ha => ?_)
  split at ha
  · obtain ⟨a, b, h1, h2, ⟨h3, h4⟩, hK⟩ := ha
    exact ⟨_, (Pure.ev (E40_ok a b) (sm_t a b _ h3 h4 rfl)).conv fun E r hr => hr.head (fun _ hc => h1.rel hc) (fun _ hc => hc.head (fun _ hc => h2.rel hc) (fun _ hc => hc)), fun _ => rfl, hK⟩
  · exact ha.elim
end Go.Tk
end
section
namespace Go.Tk
def worksS : PSumm := fun args _ K => match args with
  | [] => K (.bool true)
  | _ => False
theorem worksS_ok (args : List AV) (h : Heap) (K : AV → Prop) (hl : worksS args h K) : CallsA PP 10 args h fun o h' => ∃ v, o = .ret v ∧ h' = h ∧ K v := by
  unfold worksS at hl
  split at hl
  · exact works_calls h K hl
  · exact hl.elim
theorem sameT_refl (t : TxS) : sameT t t = true := by
  unfold sameT eqiL eqoL
  have e1 : (List.range t.N).all (fun i => eqIn (t.ins i) (t.ins i)) = true := by
    rw [List.all_eq_true]; intro j _; simp [eqIn]
  have e2 : (List.range t.M).all (fun i => eqOut (t.outs i) (t.outs i)) = true := by
    rw [List.all_eq_true]; intro j _; simp [eqOut]
  rw [e1, e2]; simp
end Go.Tk
end
section
namespace Go.Tk
end Go.Tk
end
section
namespace Go.Tk
inductive Ty where
  | bool
  | int (k : IntKind)
  | str
  | arr (k : IntKind) (n : Nat)
  | ints (k : IntKind)
  | rows (esz : Nat) (ts : List Ty)
def tyFs (P : Program) (r : TypeId → Option (List Ty)) (sz : Nat) : Nat → List Field → Option (List Ty)
  | o, [] => if o = sz then some [] else none
  | o, f :: fs => if f.offset = o then (r f.type).bind fun a => (tyFs P r sz (o + P.cellsOf f.type) fs).bind fun b => some (a ++ b) else none
def tyOf (P : Program) : Nat → TypeId → Option (List Ty)
  | 0, _ => none
  | m + 1, t => match P.underlying t with
    | some .bool => some [.bool]
    | some (.int k) => some [.int k]
    | some .string => some [.str]
    | some (.array n e) => match P.underlying e with
      | some (.int k) => if P.cellsOf t = n ∧ P.cellsOf e = 1 then some [.arr k n] else none
      | _ => none
    | some (.slice e) => match P.underlying e with
      | some (.int k) => if P.cellsOf e = 1 then some [.ints k] else none
      | _ => (tyOf P m e).bind fun ts => some [.rows (P.cellsOf e) ts]
    | some (.struct fs) => tyFs P (tyOf P m) (P.cellsOf t) 0 fs.toList
    | _ => none
mutual
inductive FitsT : Ty → AV → Prop
  | bool (b : Bool) : FitsT .bool (.bool b)
  | int (k : IntKind) (n : Int) (h : (Lit.int k n).wf = true) : FitsT (.int k) (.int k n)
  | str (s : ByteArray) (h : s.size ≤ maxLen) : FitsT .str (.str s)
  | arr (k : IntKind) (n : Nat) (xs : List Int) (h : xs.length = n) (hw : ∀ i, i < n → (Lit.int k (xs.getD i 0)).wf = true) : FitsT (.arr k n) (.arr k n xs)
  | ints (k : IntKind) (xs : List Int) (n : Nat) (h : xs.length = n) (hm : n ≤ maxLen) (hw : ∀ i, i < n → (Lit.int k (xs.getD i 0)).wf = true) : FitsT (.ints k) (.vints k xs n)
  | rows (esz : Nat) (ts : List Ty) (n : Nat) (f : Nat → List AV) (hm : n ≤ maxLen) (h : ∀ i, i < n → Fits ts (f i)) : FitsT (.rows esz ts) (.vrows esz n f n)
inductive Fits : List Ty → List AV → Prop
  | nil : Fits [] []
  | cons (t : Ty) (a : AV) (ts : List Ty) (vz : List AV) (h : FitsT t a) (r : Fits ts vz) : Fits (t :: ts) (a :: vz)
end
theorem Fits.append : ∀ {ts wz : List Ty} {vz bs : List AV}, Fits ts vz → Fits wz bs → Fits (ts ++ wz) (vz ++ bs)
  | _, _, _, _, .nil, h => h
  | _, _, _, _, .cons t a ts vz h r, k => .cons t a _ _ h (Fits.append r k)
def tE (w : World) : Env := ⟨fun _ => none, fun a c => w.cell? a = some c⟩
section
variable {H : Type} {enc : TypeId × Value → H} {P : Program} {w : World} {sp : Nat → Bool} {held : Bool}
theorem ints_of_cells {k : IntKind} {n : Nat} {cs : List Value} (hl : cs.length = n) (h : ∀ i, i < n → ∃ z, cs[i]? = some (.int k z) ∧ (Lit.int k z).wf = true) :
    ∃ xs : List Int, xs.length = n ∧ (∀ i, i < n → (Lit.int k (xs.getD i 0)).wf = true) ∧ ∀ i, i < n → cs[i]? = some (.int k (xs.getD i 0)) := by
  refine ⟨cs.map fun v => match v with | .int _ z => z | _ => 0, by simp [hl], fun i hi => ?_, fun i hi => ?_⟩
  · obtain ⟨z, h1, h2⟩ := h i hi
    rw [List.getD_eq_getElem?_getD, List.getElem?_map, h1]
    exact h2
  · obtain ⟨z, h1, h2⟩ := h i hi
    rw [List.getD_eq_getElem?_getD, List.getElem?_map, h1]
    rfl
theorem choose2 {α β : Type} {n : Nat} {p : Nat → α → β → Prop} [Inhabited α] [Inhabited β] (h : ∀ i, i < n → ∃ a b, p i a b) : ∃ (f : Nat → α) (g : Nat → β), ∀ i, i < n → p i (f i) (g i) :=
  ⟨fun i => if hi : i < n then Classical.choose (h i hi) else default, fun i => if hi : i < n then Classical.choose (Classical.choose_spec (h i hi)) else default, fun i hi => by
    simp only [hi, dite_true]
    exact Classical.choose_spec (Classical.choose_spec (h i hi))⟩
theorem open_ty : ∀ (m : Nat) (t : TypeId) (ts : List Ty), tyOf P m t = some ts → ∀ (fuel : Nat) (cs : List Value) (x : DataW H × List MemPlace), DataW.trod enc P w 0 sp held fuel t cs = some x → ∃ vz, Fits ts vz ∧ CRel (tE w) vz cs
  | 0, _, _, ht => by simp [tyOf] at ht
  | m + 1, t, ts, ht => by
    intro fuel cs x hx
    unfold tyOf at ht
    split at ht
    · rename_i hu
      cases ht
      obtain ⟨b, rfl, _⟩ := DataW.trod_bool hu hx
      exact ⟨[.bool b], .cons _ _ _ _ (.bool b) .nil, .one _ _ _ _ rfl rfl (.bool b) .nil⟩
    · rename_i k hu
      cases ht
      obtain ⟨n, rfl, _, hw⟩ := DataW.trod_int hu hx
      exact ⟨[.int k n], .cons _ _ _ _ (.int k n hw) .nil, .one _ _ _ _ rfl rfl (.int k n) .nil⟩
    · rename_i hu
      cases ht
      obtain ⟨s, rfl, _, hw⟩ := DataW.trod_string hu hx
      exact ⟨[.str s], .cons _ _ _ _ (.str s hw) .nil, .one _ _ _ _ rfl rfl (.str s) .nil⟩
    · rename_i n e hu
      split at ht
      · rename_i k he
        split at ht
        · rename_i hc
          obtain ⟨hc, h1⟩ := hc
          cases ht
          obtain ⟨xs, q, rfl, rfl, hl, hn, hi⟩ := DataW.trod_array hu hx
          rw [hc] at hl
          obtain ⟨zs, z1, z2, z3⟩ := ints_of_cells (k := k) hl fun i hlt => by
            have := hi i hlt
            rw [List.getElem?_eq_getElem (by omega), h1] at this
            obtain ⟨z, e1, _, e2⟩ := DataW.trod_int he this
            refine ⟨z, ?_, e2⟩
            rw [Nat.mul_one] at e1
            have := congrArg (fun l => l[0]?) e1
            simpa using this
          refine ⟨[.arr k n zs], .cons _ _ _ _ (.arr k n zs z1 z2) .nil, ?_⟩
          have : cs = intCells k n zs ++ [] := by
            rw [List.append_nil]
            refine List.ext_getElem? fun i => ?_
            by_cases hlt : i < n
            · rw [z3 i hlt]
              simp [intCells, hlt]
            · rw [List.getElem?_eq_none (by omega), List.getElem?_eq_none (by rw [intCells_length]; omega)]
          rw [this]
          exact .arr _ _ _ _ _ .nil
        · cases ht
      · cases ht
    · rename_i e hu
      split at ht
      · rename_i k he
        split at ht
        · rename_i hc
          cases ht
          rcases DataW.trod_slice hu hx with ⟨rfl, _⟩ | ⟨a, len, cap, elems, rest, n, rfl, rfl, _, _, hl, hm, hlen, hi, _, _⟩
          · exact ⟨[.vints k [] 0], .cons _ _ _ _ (.ints k [] 0 rfl (Nat.zero_le _) fun i hi => absurd hi (Nat.not_lt_zero i)) .nil, .one _ _ _ _ rfl rfl (.vintsNil _ _ _ rfl rfl) .nil⟩
          · obtain ⟨zs, z1, z2, z3⟩ := ints_of_cells (k := k) (n := len) (cs := (List.range len).map fun i => (w.cell? (a.add i)).getD undef) (by simp) fun i hlt => by
              have := hi i hlt
              rw [List.getElem?_eq_getElem (by omega), hc, Nat.mul_one] at this
              obtain ⟨cs', h1, h2⟩ := Option.bind_eq_some_iff.1 this
              obtain ⟨z, rfl, _, e2⟩ := DataW.trod_int he h2
              refine ⟨z, ?_, e2⟩
              simp [hlt, Go.ChangeShapes.cell_of_cells?_one h1]
            refine ⟨[.vints k zs len], .cons _ _ _ _ (.ints k zs len z1 (by omega) z2) .nil, .one _ _ _ _ rfl rfl (.vints k zs len a cap (by omega) (by omega) fun i hlt => ?_) .nil⟩
            rw [z1] at hlt
            have := hi i hlt
            rw [List.getElem?_eq_getElem (by omega), hc, Nat.mul_one] at this
            obtain ⟨cs', h1, h2⟩ := Option.bind_eq_some_iff.1 this
            obtain ⟨z, rfl, _, e2⟩ := DataW.trod_int he h2
            have h3 := z3 i hlt
            have h4 := Go.ChangeShapes.cell_of_cells?_one h1
            simp [hlt, h4] at h3
            show w.cell? (a.add i) = _
            rw [h4, h3, List.getD_eq_getElem?_getD]
        · cases ht
      · obtain ⟨es, h1, h2⟩ := Option.bind_eq_some_iff.1 ht
        cases h2
        rcases DataW.trod_slice hu hx with ⟨rfl, _⟩ | ⟨a, len, cap, elems, rest, n, rfl, rfl, _, _, hl, hm, hlen, hi, _, _⟩
        · exact ⟨[.vrows (P.cellsOf e) 0 (fun _ => []) 0], .cons _ _ _ _ (.rows _ _ 0 _ (Nat.zero_le _) fun i hi => absurd hi (Nat.not_lt_zero i)) .nil, .one _ _ _ _ rfl rfl (.vrowsNil _ _ _ _ rfl rfl) .nil⟩
        · obtain ⟨f, g, hfg⟩ := choose2 (n := len) (p := fun i (vz : List AV) (vs : List Value) => Fits es vz ∧ CRel (tE w) vz vs ∧ w.cells? 0 (a.add (i * P.cellsOf e)) (P.cellsOf e) = some vs) fun i hlt => by
            have := hi i hlt
            rw [List.getElem?_eq_getElem (by omega)] at this
            obtain ⟨cs', k1, k2⟩ := Option.bind_eq_some_iff.1 this
            obtain ⟨vz, f1, f2⟩ := open_ty m _ _ h1 _ _ _ k2
            exact ⟨vz, cs', f1, f2, k1⟩
          refine ⟨[.vrows (P.cellsOf e) len f len], .cons _ _ _ _ (.rows _ _ len f (by omega) fun i hlt => (hfg i hlt).1) .nil, .one _ _ _ _ rfl rfl (.vrows _ _ _ _ a cap g (Nat.le_refl _) hl (fun i hlt => (hfg i hlt).2.1) (fun i hlt => (World.cells?_some (hfg i hlt).2.2).2.1) fun i j c hlt hj => ?_) .nil⟩
          obtain ⟨_, hl', hc'⟩ := World.cells?_some (hfg i hlt).2.2
          have hj' : j < P.cellsOf e := by
            rcases Nat.lt_or_ge j (P.cellsOf e) with h | h
            · exact h
            · rw [List.getElem?_eq_none (by omega)] at hj; cases hj
          have := hc' j hj'
          rw [hj] at this
          show w.cell? (a.add (i * P.cellsOf e + j)) = some c
          rw [← this]
          rw [Addr.add_add]
    · rename_i fs hu
      obtain ⟨xs, n, rfl, rfl, hl, hn, hf⟩ := DataW.trod_struct hu hx
      have key : ∀ (l : List Field) (o : Nat) (ts : List Ty) (i0 : Nat), tyFs P (tyOf P m) (P.cellsOf t) o l = some ts → (∀ i f, l[i]? = some f → fs[i0 + i]? = some f) → ∃ vz, Fits ts vz ∧ CRel (tE w) vz (cs.drop o) := by
        intro l
        induction l with
        | nil =>
          intro o ts i0 h _
          unfold tyFs at h
          split at h
          · rename_i ho
            cases h
            exact ⟨[], .nil, by rw [List.drop_eq_nil_of_le (by omega)]; exact .nil⟩
          · cases h
        | cons f l ih =>
          intro o ts i0 h hl'
          unfold tyFs at h
          split at h
          · rename_i ho
            obtain ⟨a, h1, h2⟩ := Option.bind_eq_some_iff.1 h
            obtain ⟨b, h3, h4⟩ := Option.bind_eq_some_iff.1 h2
            cases h4
            have h0 : fs[i0]? = some f := hl' 0 f rfl
            have hlt : i0 < fs.size := by
              rcases Nat.lt_or_ge i0 fs.size with h | h
              · exact h
              · rw [Array.getElem?_eq_none (by omega)] at h0; cases h0
            have k := hf i0 f h0
            rw [List.getElem?_eq_getElem (by omega), ho] at k
            obtain ⟨vz, p1, p2⟩ := open_ty m _ _ h1 _ _ _ k
            obtain ⟨bs, q1, q2⟩ := ih (o + P.cellsOf f.type) b (i0 + 1) h3 fun i g hg => by
              have := hl' (i + 1) g hg
              rw [← this]; congr 1; omega
            refine ⟨vz ++ bs, p1.append q1, ?_⟩
            have e : cs.drop o = (cs.drop o).take (P.cellsOf f.type) ++ cs.drop (o + P.cellsOf f.type) := by
              rw [← List.drop_drop, List.take_append_drop]
            rw [e]
            exact p2.append q2
          · cases h
      obtain ⟨vz, h1, h2⟩ := key fs.toList 0 ts 0 ht fun i f h => by simpa using h
      exact ⟨vz, h1, by simpa using h2⟩
    · cases ht
def isAgg (P : Program) (t : TypeId) : Bool := match P.underlying t with
  | some (.struct _) | some (.array _ _) => true
  | _ => false
inductive FitsA : Bool → List Ty → AV → Prop
  | agg (ts : List Ty) (vz : List AV) (h : Fits ts vz) : FitsA true ts (.agg vz)
  | one (t : Ty) (a : AV) (h : FitsT t a) : FitsA false [t] a
theorem open_one {m : Nat} {t : TypeId} {ts : List Ty} (ht : tyOf P m t = some ts) (hg : isAgg P t = false) {v : Value} {r : Reach} {b : Nat} (hv : Value.okWide P w r b t v) :
    v.cells.toList = [v] ∧ ∃ τ, ts = [τ] ∧ ∀ k n, τ ≠ .arr k n := by
  cases m with
  | zero => simp [tyOf] at ht
  | succ m =>
    unfold tyOf at ht
    unfold isAgg at hg
    split at ht
    · rename_i hu; cases ht; obtain ⟨b, rfl⟩ := Go.WideShapes.okWide_bool hu hv; exact ⟨rfl, _, rfl, fun _ _ h => by cases h⟩
    · rename_i hu; cases ht; obtain ⟨b, rfl⟩ := Go.WideShapes.okWide_int hu hv; exact ⟨rfl, _, rfl, fun _ _ h => by cases h⟩
    · rename_i hu; cases ht; obtain ⟨b, rfl⟩ := Go.WideShapes.okWide_string hu hv; exact ⟨rfl, _, rfl, fun _ _ h => by cases h⟩
    · rename_i hu; simp [hu] at hg
    · rename_i hu
      obtain ⟨a, l, c, rfl⟩ := Go.WideShapes.okWide_slice hu hv
      split at ht
      · split at ht
        · cases ht; exact ⟨rfl, _, rfl, fun _ _ h => by cases h⟩
        · cases ht
      · obtain ⟨es, h1, h2⟩ := Option.bind_eq_some_iff.1 ht
        cases h2; exact ⟨rfl, _, rfl, fun _ _ h => by cases h⟩
    · rename_i hu; simp [hu] at hg
    · cases ht
theorem open_arg {m : Nat} {t : TypeId} {ts : List Ty} {g : Bool} (ht : tyOf P m t = some ts) (hg : isAgg P t = g) {v : Value} {r : Reach} {b : Nat} (hv : Value.okWide P w r b t v) {d : DataW H} {ps : List MemPlace} (h : DataW.Trod enc P w 0 sp held t v d ps) :
    ∃ a, FitsA g ts a ∧ VRel (tE w) a v := by
  obtain ⟨fuel, hf⟩ := h
  obtain ⟨vz, f1, f2⟩ := open_ty m _ _ ht _ _ _ hf
  cases g with
  | true =>
    have : ∃ cs, v = .agg cs := by
      unfold isAgg at hg
      unfold Value.okWide at hv
      split at hg
      · rename_i hu; simp only [hu] at hv; obtain ⟨cs, rfl, _⟩ := hv; exact ⟨cs, rfl⟩
      · rename_i hu; simp only [hu] at hv; obtain ⟨cs, rfl, _⟩ := hv; exact ⟨cs, rfl⟩
      · cases hg
    obtain ⟨cs, rfl⟩ := this
    refine ⟨.agg vz, .agg _ _ f1, ?_⟩
    have : cs = (Value.cells (.agg cs)).toList.toArray := by simp [Value.cells]
    rw [this]
    exact .agg _ _ f2
  | false =>
    obtain ⟨h1, τ, rfl, h2⟩ := open_one ht hg hv
    rw [h1] at f2
    cases f1 with
    | cons _ a _ vz f r =>
      cases r
      generalize hL : [v] = L at f2
      cases f2 with
      | one _ _ _ _ h0 h1 h t => cases hL; exact ⟨_, .one _ _ f, h⟩
      | arr k n xs _ cs t => cases f; exact absurd rfl (h2 _ _)
end
end Go.Tk
end
section
namespace Go.Tk
open Go.ChangeShapes Go.WideShapes Go.RowKit
theorem tE_emb (w : World) : Emb (tE w) ⟨0, []⟩ w where
  fresh := fun _ _ => rfl
  lt := fun x B h => by simp [Heap.get, getB] at h
  own := fun x B h => by simp [Heap.get, getB] at h
  disj := fun x y B B' b N N' h => absurd h (by simp [Heap.get, getB])
  imm := fun _ _ h => h
  sep := fun a c x B N _ h => absurd h (by simp [Heap.get, getB])
theorem CallsA.topT {P : Program} {f : FuncId} {args : List AV} (h : CallsA P f args ⟨0, []⟩ fun o h' => ∃ v, o = .ret v ∧ h' = ⟨0, []⟩ ∧ v = .bool true) {w : World} {rs : List Value} (hl : LRel (tE w) args rs) :
    Calls P f rs.toArray w fun e w' => e = .returned (.bool true) ∧ Go.RowKit.Below w.heap.size w w' := by
  refine (h (tE w) w rs (tE_emb w) hl).mono ?_
  rintro e w' ⟨E', o, h', ⟨v, rfl, rfl, hv⟩, hev, hor⟩
  obtain rfl := hv
  cases hor with
  | ret v r hr =>
    cases hr
    refine ⟨rfl, hev.os, hev.tape, hev.output, hev.size, fun k hk => hev.keep k hk ?_⟩
    rintro ⟨x, B, N, hx, _⟩
    exact absurd hx (by simp [Heap.get, getB])
def argTys (P : Program) (m : Nat) : List TypeId → Option (List (Bool × List Ty))
  | [] => some []
  | t :: r => (tyOf P m t).bind fun a => (argTys P m r).bind fun b => some ((isAgg P t, a) :: b)
inductive FitsL : List (Bool × List Ty) → List AV → Prop
  | nil : FitsL [] []
  | cons (g : Bool) (ts : List Ty) (a : AV) (r : List (Bool × List Ty)) (vz : List AV) (h : FitsA g ts a) (k : FitsL r vz) : FitsL ((g, ts) :: r) (a :: vz)
section
variable {H : Type} {enc : TypeId × Value → H} {P : Program} {w : World}
theorem open_args {m : Nat} {r : Reach} {b : Nat} : ∀ {ts : List TypeId} {τs : List (Bool × List Ty)} {vs : List Value} {ds : List (DataW H)} {ps : List MemPlace}, argTys P m ts = some τs → (∀ (j : Nat) t v, ts[j]? = some t → vs[j]? = some v → Value.okWide P w r b t v) →
    DataW.TrodAll enc P w 0 (fun _ => true) true ts vs ds ps → ∃ vz, FitsL τs vz ∧ LRel (tE w) vz vs
  | [], τs, vs, ds, ps, ha, _, h => by
    cases ha
    obtain ⟨rfl, _, _⟩ := trodAll_nil h
    exact ⟨[], .nil, .nil⟩
  | t :: ts, τs, vs, ds, ps, ha, hv, h => by
    obtain ⟨a, h1, h2⟩ := Option.bind_eq_some_iff.1 ha
    obtain ⟨c, h3, h4⟩ := Option.bind_eq_some_iff.1 h2
    cases h4
    obtain ⟨v, vs', d, ds', p, q, rfl, rfl, rfl, k1, k2⟩ := trodAll_cons h
    obtain ⟨x, f1, f2⟩ := open_arg h1 rfl (hv 0 t v rfl rfl) k1
    obtain ⟨vz, g1, g2⟩ := open_args h3 (fun j t' v' e1 e2 => hv (j + 1) t' v' e1 e2) k2
    exact ⟨x :: vz, .cons _ _ _ _ _ f1 g1, .cons _ _ _ _ f2 g2⟩
theorem trodAll_len {sp : Nat → Bool} {held : Bool} : ∀ {ts : List TypeId} {vs : List Value} {ds : List (DataW H)} {ps : List MemPlace}, DataW.TrodAll enc P w 0 sp held ts vs ds ps → ds.length = ts.length
  | [], _, _, _, h => by obtain ⟨_, rfl, _⟩ := trodAll_nil h; rfl
  | t :: ts, _, _, _, h => by
    obtain ⟨v, vs', d, ds', p, q, rfl, rfl, rfl, k1, k2⟩ := trodAll_cons h
    simp [trodAll_len k2]
theorem below_all {W' : World} (laid : laidOutB P = true) (hb : Below w.heap.size w W') : ∀ {ts : List TypeId} {vs : List Value} {ds : List (DataW H)} {ps : List MemPlace}, ts.all (fun t => P.readableRec t && decide (t < P.types.size)) = true →
    DataW.TrodAll enc P w 0 (fun _ => true) true ts vs ds ps → DataW.TrodAll enc P W' 0 (fun b => decide (b < w.heap.size)) true ts vs ds ps
  | [], _, _, _, _, h => by obtain ⟨rfl, rfl, rfl⟩ := trodAll_nil h; exact trodAll_mk0
  | t :: ts, _, _, _, hr, h => by
    obtain ⟨v, vs', d, ds', p, q, rfl, rfl, rfl, k1, k2⟩ := trodAll_cons h
    simp only [List.all_cons, Bool.and_eq_true, decide_eq_true_eq] at hr
    have lt : ∀ x ∈ p, x.block < w.heap.size := by obtain ⟨m, hm⟩ := k1; exact DataW.trod_lt m _ _ _ hm
    exact trodAll_cons_mk (Below.trod laid hr.1.1 hr.1.2 k1 hb lt) (below_all laid hb hr.2 k2)
end
theorem lifted_gen {H : Type} {enc : TypeId × Value → H} {C : Checked} {os : Os} {f : FuncId} {fn : Func} {s : ChangeSpec} {conds : List PathCond} {tb : TypeId} {m : Nat} {τs : List (Bool × List Ty)}
    (own : ownKnob C.prog.godebug = none) (laid : laidOutB C.prog = true) (started : os.Started) (noInit : C.prog.inits.idxOf? f = none) (hfn : C.prog.funcs[f]? = some fn)
    (witness : ∃ (w : World) (tape : Tape) (i : Input), w.os = os ∧ (w.forCall tape i).Shaped C.prog ∧ i.vars = [] ∧ Input.okWide C.prog (w.forCall tape i) .any w.heap.size f i ∧
      s.pre6 enc C.prog fn conds false (w.forCall tape i).memory i.args ∧ ({} : Assume).holds C.prog (lone (Frame.enter C.prog f i.args .normal) [] (w.forCall tape i)))
    (hvars : s.vars = []) (hr : fn.resultTypes = #[tb]) (hb : C.prog.underlying tb = some .bool) (hread : fn.params.toList.all (fun t => C.prog.readableRec t && decide (t < C.prog.types.size)) = true) (hτ : argTys C.prog m fn.params.toList = some τs)
    (hs : ∀ ds : List (DataW H), ds.length = fn.params.toList.length → s.fn H ds = { results := [.lit (.bool true)], args := ds })
    (walk : ∀ vz, FitsL τs vz → CallsA C.prog f vz ⟨0, []⟩ fun o h' => ∃ v, o = .ret v ∧ h' = ⟨0, []⟩ ∧ v = .bool true) :
    ReturnsInHanded {} C os f .any (s.pre6 enc C.prog fn conds false) (s.post enc C.prog fn false true false false) := by
  refine returnsInHanded_of_change own started noInit hfn witness ?_
  intro W base args ds gs before hval hW _ _
  have hW' := hW
  obtain ⟨p, q, hA, hV, rfl, hfz, hnd⟩ := hW
  have hV0 := hV
  rw [hvars] at hV
  obtain ⟨rfl, rfl⟩ := trodVars_none hV
  obtain ⟨vz, f1, f2⟩ := open_args hτ (fun j t v e1 e2 => hval j t v (by simpa using e1) (by simpa using e2)) hA
  have e0 : args = args.toList.toArray := by simp
  have key := (walk vz f1).topT f2
  rw [← e0] at key
  refine key.mono fun e W' ⟨he, bel⟩ => ?_
  subst he
  have hfn' := hs ds (trodAll_len hA)
  refine ⟨_, rfl, ds, [], _, [], p, [], hW', ?_, ?_, ?_, bel.frame _, fun h => by cases h⟩
  · rw [List.append_nil, hfn', hr]
    exact trodAll_mk1 (shut_bool hb _)
  · rw [List.append_nil, hfn']
    exact below_all laid bel hread hA
  · rw [List.append_nil, hfn', hvars]
    rfl
end Go.Tk
end
section
namespace Go.Tk
def inTy : List Ty := [.arr .u8 32, .int .i64, .int .i64, .arr .u8 32, .arr .u8 32, .arr .u8 32]
def outTy : List Ty := [.int .i64, .int .i64, .arr .u8 32, .arr .u8 32, .arr .u8 32, .arr .u8 32, .int .i64, .int .i64]
def txTy : List Ty := [.int .i64, .rows 130 inTy, .rows 132 outTy]
theorem bytes_of {n : Nat} {xs : List Int} (h : xs.length = n) (hw : ∀ i, i < n → (Lit.int .u8 (xs.getD i 0)).wf = true) : Bytes xs := ⟨fun i => by
  by_cases hi : i < n
  · have := hw i hi
    simp [Lit.wf] at this
    have m1 : IntKind.u8.min = 0 := rfl
    have m2 : IntKind.u8.max = 255 := rfl
    simp
    omega
  · rw [List.getD_eq_getElem?_getD, List.getElem?_eq_none (by omega)]; simp⟩
structure InS.By (x : InS) : Prop where
  name : Bytes x.name
  tag : Bytes x.tag
  also : Bytes x.also
  secret : Bytes x.secret
structure OutS.By (x : OutS) : Prop where
  owner : Bytes x.owner
  other : Bytes x.other
  point : Bytes x.point
  hash : Bytes x.hash
structure TxAll (t : TxS) : Prop where
  ins : ∀ i, i < t.N → (t.ins i).By
  outs : ∀ i, i < t.M → (t.outs i).By
theorem TxAll.b {t : TxS} (h : TxAll t) : TxB t := ⟨fun i hi => ⟨(h.outs i hi).owner, (h.outs i hi).other⟩⟩
theorem fits_in {l : List AV} (h : Fits inTy l) : ∃ x : InS, l = x.c ∧ x.Ok ∧ x.By := by
  unfold inTy at h
  cases h with | cons _ a _ u h1 h =>
  cases h with | cons _ b _ u h2 h =>
  cases h with | cons _ c _ u h3 h =>
  cases h with | cons _ d _ u h4 h =>
  cases h with | cons _ e _ u h5 h =>
  cases h with | cons _ f _ u h6 h =>
  cases h; cases h1; cases h2; cases h3; cases h4; cases h5; cases h6
  rename_i x1 l1 w1 x2 w2 x3 w3 x4 l4 w4 x5 l5 w5 x6 l6 w6
  exact ⟨⟨x1, x2, x3, x4, x5, x6⟩, rfl, ⟨l1, l4, l5, l6⟩, ⟨bytes_of l1 w1, bytes_of l4 w4, bytes_of l5 w5, bytes_of l6 w6⟩⟩
theorem fits_out {l : List AV} (h : Fits outTy l) : ∃ x : OutS, l = x.c ∧ x.Ok ∧ x.By := by
  unfold outTy at h
  cases h with | cons _ a _ u h1 h =>
  cases h with | cons _ b _ u h2 h =>
  cases h with | cons _ c _ u h3 h =>
  cases h with | cons _ d _ u h4 h =>
  cases h with | cons _ e _ u h5 h =>
  cases h with | cons _ f _ u h6 h =>
  cases h with | cons _ g _ u h7 h =>
  cases h with | cons _ i _ u h8 h =>
  cases h; cases h1; cases h2; cases h3; cases h4; cases h5; cases h6; cases h7; cases h8
  rename_i x1 w1 x2 w2 x3 l3 w3 x4 l4 w4 x5 l5 w5 x6 l6 w6 x7 w7 x8 w8
  exact ⟨⟨x1, x2, x3, x4, x5, x6, x7, x8⟩, rfl, ⟨l3, l4, l5, l6⟩, ⟨bytes_of l3 w3, bytes_of l4 w4, bytes_of l5 w5, bytes_of l6 w6⟩⟩
theorem pick {α : Type} [Inhabited α] {n : Nat} {p : Nat → α → Prop} (h : ∀ i, i < n → ∃ a, p i a) : ∃ f : Nat → α, ∀ i, i < n → p i (f i) :=
  ⟨fun i => if hi : i < n then Classical.choose (h i hi) else default, fun i hi => by
    simp only [hi, dite_true]
    exact Classical.choose_spec (h i hi)⟩
instance : Inhabited InS := ⟨inZ⟩
instance : Inhabited OutS := ⟨outZ⟩
theorem fits_tx {a : AV} (h : FitsA true txTy a) : ∃ (l : List AV) (t : TxS), a = .agg l ∧ isTx l t ∧ (t.N < 900000000000 → t.M < 900000000000 → t.Ok) ∧ TxAll t := by
  cases h with | agg _ u h =>
  unfold txTy at h
  cases h with | cons _ a _ u h1 h =>
  cases h with | cons _ b _ u h2 h =>
  cases h with | cons _ c _ u h3 h =>
  cases h; cases h1; cases h2; cases h3
  rename_i x1 w1 n f hn hf m g hm hg
  obtain ⟨ins, hi⟩ := pick fun i hi => fits_in (hf i hi)
  obtain ⟨outs, ho⟩ := pick fun i hi => fits_out (hg i hi)
  exact ⟨_, ⟨x1, n, ins, m, outs⟩, rfl, ⟨rfl, ⟨⟨rfl, rfl⟩, fun i h => (hi i h).1⟩, ⟨⟨rfl, rfl⟩, fun i h => (ho i h).1⟩⟩, fun h1 h2 => ⟨h1, h2, fun i h => (hi i h).2.1, fun i h => (ho i h).2.1⟩, ⟨fun i h => (hi i h).2.2, fun i h => (ho i h).2.2⟩⟩
theorem CallsA.conv {P : Program} {f : FuncId} {us bs : List AV} {h : Heap} {K : KO} (hc : CallsA P f bs h K) (hr : ∀ E rs, LRel E us rs → LRel E bs rs) : CallsA P f us h K :=
  fun E w rs he hl => hc E w rs he (hr E rs hl)
theorem Bytes.nil : Bytes [] := ⟨fun i => by simp⟩
theorem Bytes.cons {x : Int} {xs : List Int} (hx : 0 ≤ x ∧ x ≤ 255) (h : Bytes xs) : Bytes (x :: xs) := ⟨fun i => by
  cases i with
  | zero => simpa using hx
  | succ i => have := h.h i; simpa using this⟩
theorem Bytes.append {xs ys : List Int} (h : Bytes xs) (k : Bytes ys) : Bytes (xs ++ ys) := ⟨fun i => by
  rw [List.getD_eq_getElem?_getD, List.getElem?_append]
  split
  · have := h.h i; rwa [List.getD_eq_getElem?_getD] at this
  · have := k.h (i - xs.length); rwa [List.getD_eq_getElem?_getD] at this⟩
theorem subO_none (a : Nat) : subO a none = a := rfl
end Go.Tk
end
section
namespace Go.Tk
end Go.Tk
end
section
namespace Go.Tk
def in77 : InS := ⟨zero32, 77, 0, zero32, zero32, zero32⟩
def out77 : OutS := ⟨0, 77, zero32, zero32, zero32, zero32, 0, 0⟩
def snoc {α : Type} (n : Nat) (g : Nat → α) (x : α) : Nat → α := fun i => if i = n then x else g i
set_option maxRecDepth 100000 in
set_option maxHeartbeats 0 in
theorem cop_1 (t : TxS) (N M N1 M1 : Nat) (f : Nat → InS) (g : Nat → OutS) (hN : N = t.N) (hM : M = t.M) (hN1 : N1 = t.N + 1) (hM1 : M1 = t.M + 1) (h1 : t.N ≤ 30) (h2 : t.M ≤ 30) (hf : f = snoc t.N t.ins in77) (hg : g = snoc t.M t.outs out77) :
    evF G0 20 22 [.agg t.c] ⟨0, []⟩ (outM 0 (.ret (.agg [.int .i64 t.num, .nslice ⟨0, 0, 130, 0, 0⟩ 130 N N1, .nslice ⟨1, 0, 132, 0, 0⟩ 132 M M1])) 2 [(0, .rows 130 N1 (inRows f)), (1, .rows 132 M1 (outRows g))]) := by
  refine @Eq.mpr _ (let q1 := t.N;
 let q2 := ↑q1;
 let q3 := decide (q2 = q2);
 let q4 := decide (q1 = q1);
 let q5 := inRows t.ins;
 let q6 := q5 = q5;
 let q7 := 0 + q1;
 let q8 := decide (q7 * 144 ≤ 140737488355328);
 let q9 := q7 + 1;
 let q10 := t.M;
 let q11 := ↑q10;
 let q12 := decide (q11 = q11);
 let q13 := decide (q10 = q10);
 let q14 := outRows t.outs;
 let q15 := q14 = q14;
 let q16 := 0 + q10;
 let q17 := decide (q16 * 160 ≤ 140737488355328);
 let q18 := q16 + 1;
 let q19 := [(1, 7), (0, 4)];
 let q20 := AV.arr IntKind.u8 32 zero32;
 let q21 := AV.int IntKind.i64 0;
 let q22 := iteB q12 (iteB q13 (q15 ∧ iteB q13 (iteB (decide (q16 = q16)) (iteB (decide (q18 * 160 ≤ 140737488355328)) (iteB q12 (iteB q13 (q15 ∧ iteB q13 (iteB (decide (q18 ≤ q18)) (iteB (decide (0 ≤ q11 ∧ q11 ≤ ↑q18)) (iteB (decide (t.num = t.num)) (iteB (decide (subO (Int.toNat q2) none = N)) (iteB (decide (N1 ≤ subO q9 none)) (iteB (decide (subO (Int.toNat q11) none = M)) (iteB (decide (M1 ≤ subO q18 none)) (iteB (decide (q9 = N1)) (RowsEq 0 q19 N1 (inRows f) (catF q7 (catF 0 (fun (x : Nat) => []) q5) (rowC [q20, AV.int IntKind.i64 77, q21, q20, q20, q20] 0 130)) ∧ iteB (decide (q18 = M1)) (RowsEq 0 q19 M1 (outRows g) (catF q16 (catF 0 (fun (x : Nat) => []) q14) (rowC [q21, AV.int IntKind.i64 77, q20, q20, q20, q20, q21, q21] 0 132)) ∧ True) False) False) False) False) False) False) False) False) False) False) False) False) False) False) False) False) False;
 let q23 := iteB q12 (iteB q13 (q15 ∧ iteB q13 (iteB q13 (q15 ∧ iteB q13 (iteB q17 q22 False) False) False) False) False) False;
 let q24 := iteB q3 (iteB q4 (q6 ∧ iteB q4 (iteB (decide (q7 = q7)) (iteB (decide (q9 * 144 ≤ 140737488355328)) (iteB q3 (iteB q4 (q6 ∧ iteB q4 (iteB (decide (q9 ≤ q9)) (iteB (decide (0 ≤ q2 ∧ q2 ≤ ↑q9)) (iteB q12 (iteB q13 (q15 ∧ iteB q13 (iteB q13 (q15 ∧ iteB q13 (iteB q17 (iteB q12 (iteB q13 (q15 ∧ iteB q13 q22 False) False) False) False ∧ q23) False) False) False) False) False ∧ iteB q12 (iteB q13 (q15 ∧ iteB q13 (iteB q13 (q15 ∧ iteB q13 q23 False) False) False) False) False) False) False) False) False) False) False) False) False) False) False;
 let q25 := iteB q3 (iteB q4 (q6 ∧ iteB q4 (iteB q4 (q6 ∧ iteB q4 (iteB q8 q24 False) False) False) False) False) False;
 iteB q3 (iteB q4 (q6 ∧ iteB q4 (iteB q4 (q6 ∧ iteB q4 (iteB q8 (iteB q3 (iteB q4 (q6 ∧ iteB q4 q24 False) False) False) False ∧ q25) False) False) False) False) False ∧ iteB q3 (iteB q4 (q6 ∧ iteB q4 (iteB q4 (q6 ∧ iteB q4 q25 False) False) False) False) False) (by kernel_rfl) ?_
  conv => zeta
  try simp only [need_eq]
  try simp only [nope_eq]
  try simp only [iteD_eq]
  try simp only [iteT_eq]
  try simp only [iteF_eq]
  try simp only [iteE_eq]
  try simp only [Int.toNat_natCast, Nat.zero_add, true_and, and_true, Nat.le_refl]
  subst hN hM hN1 hM1 hf hg
  have R1 : ∀ τ, RowsEq 0 τ (t.N + 1) (inRows (snoc t.N t.ins in77)) (catF t.N (catF 0 (fun _ => []) (inRows t.ins)) (rowC in77.c 0 130)) := fun τ => inRowsEq fun q hq => by
    have : catF 0 (fun _ => []) (inRows t.ins) = inRows t.ins := funext fun q => by rw [catF_ge (Nat.zero_le _)]; rfl
    rw [this]
    exact catIn (x := in77) hq
  have R2 : ∀ τ, RowsEq 0 τ (t.M + 1) (outRows (snoc t.M t.outs out77)) (catF t.M (catF 0 (fun _ => []) (outRows t.outs)) (rowC out77.c 0 132)) := fun τ => outRowsEq fun q hq => by
    have : catF 0 (fun _ => []) (outRows t.outs) = outRows t.outs := funext fun q => by rw [catF_ge (Nat.zero_le _)]; rfl
    rw [this]
    exact catOut (x := out77) hq
  repeat' (first | (refine And.intro ?_ ?_) | intro _)
  all_goals first | exact R1 _ | exact R2 _ | rfl | (simp only [subO_none, Nat.zero_add]; omega) | omega | trivial | skip
theorem cop_pure (t : TxS) (h1 : t.N ≤ 30) (h2 : t.M ≤ 30) : Pure PP 22 [.agg t.c] (.agg [.int .i64 t.num, .nslice ⟨0, 0, 130, 0, 0⟩ 130 t.N (t.N + 1), .nslice ⟨1, 0, 132, 0, 0⟩ 132 t.M (t.M + 1)]) 2 [(0, .rows 130 (t.N + 1) (inRows (snoc t.N t.ins in77))), (1, .rows 132 (t.M + 1) (outRows (snoc t.M t.outs out77)))] :=
  .evM G0_ok (cop_1 t _ _ _ _ _ _ rfl rfl rfl rfl h1 h2 rfl rfl)
def copS : FSumm := fun args h K => viewL none h true 20 args fun a => match a with
  | [.agg l] => ∃ t, isTx l t ∧ (t.N ≤ 30 ∧ t.M ≤ 30) ∧ K (.ret (.agg [.int .i64 t.num, .nslice ⟨h.next, 0, 130, 0, 0⟩ 130 t.N (t.N + 1), .nslice ⟨h.next + 1, 0, 132, 0, 0⟩ 132 t.M (t.M + 1)])) ⟨h.next + 2, (h.next, .rows 130 (t.N + 1) (inRows (snoc t.N t.ins in77))) :: (h.next + 1, .rows 132 (t.M + 1) (outRows (snoc t.M t.outs out77))) :: h.bs⟩
  | _ => False
theorem copS_ok (args : List AV) (h : Heap) (K : KO) (hl : copS args h K) : CallsA PP 22 args h K := by
  refine Pure.fsumm (d := 20) (viewL_weak _ _ _ _ _ hl fun a ha => ?_)
  split at ha
  · obtain ⟨t, h1, h2, hK⟩ := ha
    exact ⟨_, _, _, _, (cop_pure t h2.1 h2.2).conv fun E r hr => hr.head (fun _ hc => h1.rel hc) (fun _ hc => hc), rfl, ⟨by decide, .rows _ _ _ (fun i _ => (snoc t.N t.ins in77 i).plainC), by decide, .rows _ _ _ (fun i _ => (snoc t.M t.outs out77 i).plainC), trivial⟩, hK⟩
  · exact ha.elim
end Go.Tk
end
section
namespace Go.Tk
end Go.Tk
end
section
namespace Go.Tk
end Go.Tk
end
section
namespace Go.Tk
noncomputable def code_gA : Code := rfA PP 9 0
noncomputable def code_gB : Code := rfB PP 9 0
noncomputable def E69 (S1 S2 : TxS → TxS → Bool) (N : Nat) (g : Nat → InS) (Z : Prop) : Env2 := ((((G0.withP 10 worksS).withF 22 copS).withF 71 (cloneS N g Z)).withP 34 (sametS S1)).withP 13 (sametS S2)
structure GoS where
  t : TxS
  o : TxS
  nm : List Int
  many : Int
def GoS.hp (y : GoS) : List (Nat × Blk) := [(4, .flat [.bool false]), (3, .flat [.int .i64 y.many]), (2, .flat [.arr .u8 32 y.nm]), (1, .flat y.o.c), (0, .flat y.t.c)]
def GoS.s0 (y : GoS) (i : Nat) (xs : List Int) (n : Nat) : St := ⟨143, [(10, .int .i64 i), (4, pt 0), (5, pt 1), (6, pt 2), (7, pt 3), (8, pt 4), (9, pt 5)], ⟨7, (6, .ints .i64 xs) :: (5, .flat [.nslice ⟨6, 0, 0, 0, 0⟩ 1 n n]) :: y.hp⟩, []⟩
def GoS.e0 (y : GoS) (xs : List Int) (n : Nat) : St := ⟨143, [(4, pt 0), (5, pt 1), (6, pt 2), (7, pt 3), (8, pt 4), (9, pt 5)], ⟨7, (6, .ints .i64 xs) :: (5, .flat [.nslice ⟨6, 0, 0, 0, 0⟩ 1 n n]) :: y.hp⟩, []⟩
def wantL (t : TxS) (nm : List Int) : Nat → List Int
  | 0 => []
  | i + 1 => if ((t.ins i).name == nm) = true then wantL t nm i ++ [(i : Int)] else wantL t nm i
theorem wantL_len (t : TxS) (nm : List Int) : ∀ i, (wantL t nm i).length ≤ i
  | 0 => Nat.le_refl _
  | i + 1 => by
    have := wantL_len t nm i
    unfold wantL
    split
    · rw [List.length_append]; simp; omega
    · omega
set_option maxRecDepth 100000 in
set_option maxHeartbeats 0 in
theorem go_0 (y : GoS) (i n n' : Nat) (xs xs' : List Int) (Z1 Z2 : Prop) (ht : y.t.Ok) (hl : y.nm.length = 32) (hi : i ≤ y.t.N) (hn : xs.length = n) (hn' : xs'.length = n') (hB : n ≤ 10000) (hx : xs' = if ((y.t.ins i).name == y.nm) = true then xs ++ [(i : Int)] else xs) (h1 : i < y.t.N → Z1) (h2 : i = y.t.N → Z2) :
    roundE G0 20 9 0 0 (y.s0 i xs n) (rdM 0 0 9 (y.s0 (i + 1) xs' n') (y.e0 xs n) (y.e0 xs n) (y.e0 xs n) Z1 Z2 False False) := by
  refine @Eq.mpr _ (let q1 := y.t;
 let q2 := q1.N;
 let q3 := (q1.ins (Int.toNat (↑i : Int))).name;
 let q4 := y.nm;
 let q5 := xs ++ [(↑i : Int)];
 let q6 := List.length q5;
 let q7 := decide (IntKind.wrap IntKind.i64 ((↑i : Int) + 1) = (↑(i + 1) : Int));
 let q8 := decide (y.many = y.many);
 let q9 := q4 = q4;
 let q10 := y.o;
 let q11 := q10.num;
 let q12 := decide (q11 = q11);
 let q13 := q10.N;
 let q14 := decide (q13 = q13);
 let q15 := inRows q10.ins;
 let q16 := q15 = q15;
 let q17 := q10.M;
 let q18 := decide (q17 = q17);
 let q19 := outRows q10.outs;
 let q20 := q19 = q19;
 let q21 := q1.num;
 let q22 := decide (q21 = q21);
 let q23 := decide (q2 = q2);
 let q24 := inRows q1.ins;
 let q25 := q24 = q24;
 let q26 := q1.M;
 let q27 := decide (q26 = q26);
 let q28 := outRows q1.outs;
 let q29 := q28 = q28;
 let q30 := iteB q8 (q9 ∧ iteB q12 (iteB q14 (q16 ∧ iteB q14 (iteB q18 (q20 ∧ iteB q18 (iteB q22 (iteB q23 (q25 ∧ iteB q23 (iteB q27 (q29 ∧ iteB q27 Z1 False) False) False) False) False) False) False) False) False) False) False;
 iteB (decide ((↑i : Int) < (↑q2 : Int))) (iteB (decide (0 ≤ (↑i : Int) ∧ (↑i : Int) < (↑q2 : Int))) (iteB (decide (List.length q3 = 32 ∧ List.length q4 = 32)) (iteB (q3 == q4) (iteB (decide (IntKind.i64 = IntKind.i64 ∧ List.length xs = n)) (iteB (decide (q6 * 8 ≤ 140737488355328)) (iteB q7 (q5 = xs' ∧ iteB (decide (q6 = n')) (iteB (decide (n' ≤ q6)) q30 False) False) False) False) False) (iteB q7 (xs = xs' ∧ iteB (decide (n = n')) (iteB (decide (n' ≤ n)) q30 False) False) False)) False) False) (xs = xs ∧ iteB (decide (n = n)) (iteB (decide (n ≤ n)) (iteB q8 (q9 ∧ iteB q12 (iteB q14 (q16 ∧ iteB q14 (iteB q18 (q20 ∧ iteB q18 (iteB q22 (iteB q23 (q25 ∧ iteB q23 (iteB q27 (q29 ∧ iteB q27 Z2 False) False) False) False) False) False) False) False) False) False) False) False) False)) (by kernel_rfl) ?_
  conv => zeta
  try simp only [need_eq]
  try simp only [nope_eq]
  try simp only [iteD_eq]
  try simp only [iteT_eq]
  try simp only [iteF_eq]
  try simp only [iteE_eq]
  try simp only [Int.toNat_natCast, Nat.zero_add, true_and, and_true, Nat.le_refl]
  have hw : IntKind.i64.wrap ((i : Int) + 1) = ((i + 1 : Nat) : Int) := w64 (by have := ht.n; omega)
  refine ⟨fun hlt => ⟨⟨by omega, hlt⟩, ⟨(ht.ins i (by omega)).name, hl⟩, fun hc => ?_, fun hc => ?_⟩, fun h => h2 (by omega)⟩
  · rw [if_pos hc] at hx
    have hl' : (xs ++ [(i : Int)]).length = n + 1 := by rw [List.length_append, hn]; rfl
    have hn2 : n' = n + 1 := by rw [← hn', hx, hl']
    exact ⟨hn, by omega, hw, hx.symm, by omega, by omega, h1 (by omega)⟩
  · rw [if_neg (by simp [hc])] at hx
    subst hx
    exact ⟨hw, rfl, by omega, by omega, h1 (by omega)⟩
def goL0 (y : GoS) : Nat → St → KE → Prop := goM 0 (y.s0 0 [] 0) (y.t.Ok ∧ y.nm.length = 32 ∧ y.t.N ≤ 30) (endsJ 0 y.t.N 9 (fun i => i < y.t.N) (fun i => i = y.t.N) (fun _ => False) (fun _ => False) (fun i => y.e0 (wantL y.t y.nm i) (wantL y.t y.nm i).length) (fun i => y.e0 (wantL y.t y.nm i) (wantL y.t y.nm i).length) (fun i => y.e0 (wantL y.t y.nm i) (wantL y.t y.nm i).length))
theorem goL0_ok (y : GoS) : (G0.withL 9 0 (goL0 y)).Ok := by
  unfold goL0
  refine Env2.withGoM (N := 20) (S := fun i => y.s0 i (wantL y.t y.nm i) (wantL y.t y.nm i).length) G0_ok (by kernel_rfl) fun hC => ⟨rfl, fun i hi hgo => ?_⟩
  exact go_0 y i _ _ (wantL y.t y.nm i) (wantL y.t y.nm (i + 1)) _ _ hC.1 hC.2.1 hi rfl rfl (by have := wantL_len y.t y.nm i; have := hC.2.2; omega) (by rw [wantL]) (fun h => ⟨h, h⟩) (fun h => h)
attribute [irreducible] wantL
def bumpX (x : InS) : InS := ⟨x.name, IntKind.i64.wrap (x.index + 1), x.way, x.tag, x.also, x.secret⟩
def bumpG (g : Nat → InS) : Nat → Nat → InS
  | 0 => g
  | i + 1 => fun j => if j = i then bumpX (bumpG g i i) else bumpG g i j
def GoS.hq (y : GoS) : List (Nat × Blk) := (13, .flat [.nslice ⟨12, 0, 130, 0, 0⟩ 130 y.t.N y.t.N]) :: (12, .rows 130 y.t.N (inRows (snoc y.t.N y.t.ins in77))) :: (11, .flat [.arr .u8 32 y.nm]) :: (6, .ints .i64 (wantL y.t y.nm y.t.N)) :: (5, .flat [.nslice ⟨6, 0, 0, 0, 0⟩ 1 (wantL y.t y.nm y.t.N).length (wantL y.t y.nm y.t.N).length]) :: y.hp
def GoS.tm (y : GoS) : Tmps := [(4, pt 0), (5, pt 1), (6, pt 2), (7, pt 3), (8, pt 4), (9, pt 5), (12, .func (.func 72) [] [pt 13, pt 11])]
def GoS.s2 (y : GoS) (g : Nat → InS) (i : Nat) : St := ⟨143, (13, .int .i64 i) :: (11, pt 9) :: y.tm, ⟨14, (9, .flat [.int .i64 y.t.num, .nslice ⟨7, 0, 130, 0, 0⟩ 130 y.t.N (y.t.N + 1), .nslice ⟨8, 0, 132, 0, 0⟩ 132 y.t.M (y.t.M + 1)]) :: (7, .rows 130 (y.t.N + 1) (inRows g)) :: (8, .rows 132 (y.t.M + 1) (outRows (snoc y.t.M y.t.outs out77))) :: y.hq⟩, []⟩
def GoS.e2 (y : GoS) : St := ⟨143, y.tm, ⟨14, y.hq⟩, []⟩
set_option maxRecDepth 100000 in
set_option maxHeartbeats 0 in
theorem go_2 (y : GoS) (i : Nat) (g g' : Nat → InS) (Z1 Z2 : Prop) (hN : y.t.N ≤ 30) (hM : y.t.M ≤ 30) (hi : i ≤ y.t.N) (hg : g' = fun j => if j = i then bumpX (g i) else g j) (h1 : i < y.t.N → Z1) (h2 : i = y.t.N → Z2) :
    roundE G0 20 9 2 0 (y.s2 g i) (rdM 0 2 9 (y.s2 g' (i + 1)) y.e2 y.e2 y.e2 Z1 Z2 False False) := by
  refine @Eq.mpr _ (let q1 := y.t;
 let q2 := q1.N;
 let q3 := decide (0 ≤ (↑i : Int) ∧ (↑i : Int) < (↑q2 : Int));
 let q4 := 0 + Int.toNat (↑i : Int);
 let q5 := q2 + 1;
 let q6 := q1.num;
 let q7 := decide (q6 = q6);
 let q8 := decide (q2 = q2);
 let q9 := q1.M;
 let q10 := decide (q9 = q9);
 let q11 := q9 + 1;
 let q12 := [(6, 6), (12, 12), (8, 8), (7, 7), (11, 11), (13, 13), (5, 5), (4, 4), (3, 3), (2, 2), (1, 1), (0, 0), (9, 9)];
 let q13 := g q4;
 let q14 := q1.outs;
 let q15 := outRows (snoc q9 q14 out77);
 let q16 := decide (q2 ≤ q2);
 let q17 := q1.ins;
 let q18 := inRows (snoc q2 q17 in77);
 let q19 := y.nm;
 let q20 := q19 = q19;
 let q21 := wantL q1 q19 q2;
 let q22 := q21 = q21;
 let q23 := List.length q21;
 let q24 := decide (q23 = q23);
 let q25 := decide (q23 ≤ q23);
 let q26 := decide (y.many = y.many);
 let q27 := y.o;
 let q28 := q27.num;
 let q29 := decide (q28 = q28);
 let q30 := q27.N;
 let q31 := decide (q30 = q30);
 let q32 := inRows q27.ins;
 let q33 := q32 = q32;
 let q34 := q27.M;
 let q35 := decide (q34 = q34);
 let q36 := outRows q27.outs;
 let q37 := q36 = q36;
 let q38 := inRows q17;
 let q39 := q38 = q38;
 let q40 := outRows q14;
 let q41 := q40 = q40;
 iteB (decide ((↑i : Int) < (↑q2 : Int)))
 (iteB q3 (iteB (decide (q4 < q5)) (iteB q3 (iteB (decide (q4 < q5)) (iteB (decide (IntKind.wrap IntKind.i64 ((↑i : Int) + 1) = (↑(i + 1) : Int))) (iteB q7 (iteB q8 (iteB (decide (q5 ≤ q5)) (iteB q10 (iteB (decide (q11 ≤ q11)) (iteB (decide (q5 = q5)) (RowsEq 0 q12 q5 (inRows g') (updF (inRows g) q4 [AV.arr IntKind.u8 32 q13.name, AV.int IntKind.i64 (IntKind.wrap IntKind.i64 (q13.index + 1)), AV.int IntKind.i64 q13.way, AV.arr IntKind.u8 32 q13.tag, AV.arr IntKind.u8 32 q13.also, AV.arr IntKind.u8 32 q13.secret]) ∧ iteB (decide (q11 = q11)) (RowsEq 0 q12 q11 q15 q15 ∧ iteB q8 (iteB q16 (iteB q8 (RowsEq 0 q12 q2 q18 q18 ∧ q20 ∧ q22 ∧ iteB q24 (iteB q25 (iteB q26 (q20 ∧ iteB q29 (iteB q31 (q33 ∧ iteB q31 (iteB q35 (q37 ∧ iteB q35 (iteB q7 (iteB q8 (q39 ∧ iteB q8 (iteB q10 (q41 ∧ iteB q10 Z1 False) False) False) False) False) False) False) False) False) False) False) False) False) False) False) False) False) False) False) False) False) False) False) False) False) False) False) False)
 (iteB q8 (iteB q16 (iteB q8 (RowsEq 0 [(6, 6), (12, 12), (11, 11), (13, 13), (5, 5), (4, 4), (3, 3), (2, 2), (1, 1), (0, 0)] q2 q18 q18 ∧ q20 ∧ q22 ∧ iteB q24 (iteB q25 (iteB q26 (q20 ∧ iteB q29 (iteB q31 (q33 ∧ iteB q31 (iteB q35 (q37 ∧ iteB q35 (iteB q7 (iteB q8 (q39 ∧ iteB q8 (iteB q10 (q41 ∧ iteB q10 Z2 False) False) False) False) False) False) False) False) False) False) False) False) False) False) False) False)) (by kernel_rfl) ?_
  conv => zeta
  try simp only [need_eq]
  try simp only [nope_eq]
  try simp only [iteD_eq]
  try simp only [iteT_eq]
  try simp only [iteF_eq]
  try simp only [iteE_eq]
  try simp only [Int.toNat_natCast, Nat.zero_add, true_and, and_true, Nat.le_refl]
  have hw : IntKind.i64.wrap ((i : Int) + 1) = ((i + 1 : Nat) : Int) := w64 (by omega)
  have r1 : ∀ τ, RowsEq 0 τ (y.t.N + 1) (inRows g') (updF (inRows g) i (bumpX (g i)).c) := fun _ => inRowsEq fun j hj => by
    rw [updF_eq, hg]
    by_cases hjn : j = i
    · simp only [hjn, Nat.beq_refl, if_true]
    · have : Nat.beq j i = false := by
        cases h : Nat.beq j i with
        | false => rfl
        | true => exact absurd (Nat.eq_of_beq_eq_true h) hjn
      simp only [this, hjn, if_false]; rfl
  have r2 : ∀ τ, RowsEq 0 τ (y.t.M + 1) (outRows (snoc y.t.M y.t.outs out77)) (outRows (snoc y.t.M y.t.outs out77)) := fun _ => outRowsEq fun _ _ => rfl
  have r3 : ∀ τ, RowsEq 0 τ y.t.N (inRows (snoc y.t.N y.t.ins in77)) (inRows (snoc y.t.N y.t.ins in77)) := fun _ => inRowsEq fun _ _ => rfl
  exact ⟨fun hlt => ⟨⟨by omega, hlt⟩, by omega, ⟨by omega, hlt⟩, by omega, hw, r1 _, r2 _, r3 _, h1 (by omega)⟩, fun h => ⟨r3 _, h2 (by omega)⟩⟩
def goL2 (y : GoS) : Nat → St → KE → Prop := goM 0 (y.s2 (snoc y.t.N y.t.ins in77) 0) (y.t.N ≤ 30 ∧ y.t.M ≤ 30) (endsJ 2 y.t.N 9 (fun i => i < y.t.N) (fun i => i = y.t.N) (fun _ => False) (fun _ => False) (fun _ => y.e2) (fun _ => y.e2) (fun _ => y.e2))
theorem goL2_ok (y : GoS) : (G0.withL 9 2 (goL2 y)).Ok := by
  unfold goL2
  refine Env2.withGoM (N := 20) (S := fun i => y.s2 (bumpG (snoc y.t.N y.t.ins in77) i) i) G0_ok (by kernel_rfl) fun hC => ⟨rfl, fun i hi hgo => ?_⟩
  exact go_2 y i _ (bumpG (snoc y.t.N y.t.ins in77) (i + 1)) _ _ hC.1 hC.2 hi rfl (fun h => ⟨h, h⟩) (fun h => h)
noncomputable def E69a (S1 S2 : TxS → TxS → Bool) (y : GoS) : Env2 := ((E69 S1 S2 y.t.N (snoc y.t.N y.t.ins in77) (y.t.N < 900000000000)).withL 9 0 (goL0 y)).withL 9 2 (goL2 y)
def GoS.ct (y : GoS) (a b : Nat) : Tmps := [(4, pt 0), (5, pt 1), (6, pt 2), (7, pt 3), (8, pt 4), (9, pt 5), (12, .func (.func 72) [] [pt 13, pt 11]), (14, pt a), (15, pt b)]
noncomputable def GoS.r (y : GoS) (a b c : Nat) (ls : LoopState) (tu n : Int) (i : Nat) (ex : List (Nat × Blk)) : St := ⟨25, [(0, .yield (c + 1)), (2, pt 11), (6, .nslice ⟨12, 0, 130, 0, 0⟩ 130 y.t.N y.t.N), (7, .int .i64 y.t.N), (8, .int .i64 i)], ⟨c + 2, (c + 1, .loop ⟨ls, none, 9, 143, y.ct a b, [74, 75], code_gA, code_gB, c⟩) :: (c, .defd) :: (b, .flat [.int .i64 n]) :: (a, .flat [.int .i64 tu]) :: (ex ++ y.hq)⟩, []⟩
noncomputable def GoS.re (y : GoS) (b c : Nat) (ls : LoopState) (pe : Option Code) (tu n : Int) (ex : List (Nat × Blk)) : St := ⟨25, [(0, .yield (c + 1))], ⟨c + 2, (c + 1, .loop ⟨ls, pe, 9, 143, y.ct 14 b, [74, 75], code_gA, code_gB, c⟩) :: (c, .defd) :: (b, .flat [.int .i64 n]) :: (14, .flat [.int .i64 tu]) :: (ex ++ y.hq)⟩, []⟩
def GoS.hit (y : GoS) (i : Nat) : Bool := (y.t.ins i).name == y.nm
theorem wantL_succ (t : TxS) (nm : List Int) (i : Nat) : wantL t nm (i + 1) = if ((t.ins i).name == nm) = true then wantL t nm i ++ [(i : Int)] else wantL t nm i := by rw [wantL]
theorem wantL_pre (t : TxS) (nm : List Int) (i : Nat) : ∀ d, ∃ r, wantL t nm (i + d) = wantL t nm i ++ r
  | 0 => ⟨[], by simp⟩
  | d + 1 => by
    obtain ⟨r, hr⟩ := wantL_pre t nm i d
    rw [← Nat.add_assoc, wantL_succ, hr]
    split
    · exact ⟨r ++ [((i + d : Nat) : Int)], by simp⟩
    · exact ⟨r, rfl⟩
theorem wantL_hit (y : GoS) {i : Nat} (hi : i < y.t.N) (h : y.hit i = true) : (wantL y.t y.nm y.t.N).getD (wantL y.t y.nm i).length 0 = (i : Int) ∧ (wantL y.t y.nm i).length < (wantL y.t y.nm y.t.N).length ∧ (wantL y.t y.nm (i + 1)).length = (wantL y.t y.nm i).length + 1 := by
  obtain ⟨r, hr⟩ := wantL_pre y.t y.nm (i + 1) (y.t.N - (i + 1))
  rw [show i + 1 + (y.t.N - (i + 1)) = y.t.N by omega] at hr
  have h1 : wantL y.t y.nm (i + 1) = wantL y.t y.nm i ++ [(i : Int)] := by rw [wantL_succ, if_pos (show ((y.t.ins i).name == y.nm) = true from h)]
  rw [hr, h1]
  refine ⟨?_, ?_, ?_⟩
  · rw [List.append_assoc, List.getD_eq_getElem?_getD, List.getElem?_append_right (Nat.le_refl _), Nat.sub_self]; rfl
  · simp only [List.length_append, List.length_cons, List.length_nil]; omega
  · simp only [List.length_append, List.length_cons, List.length_nil]
theorem wantL_miss (y : GoS) {i : Nat} (h : y.hit i = false) : wantL y.t y.nm (i + 1) = wantL y.t y.nm i := by
  rw [wantL_succ, if_neg]
  intro h'
  unfold GoS.hit at h
  rw [h] at h'
  cases h'
set_option maxRecDepth 100000 in
set_option maxHeartbeats 0 in
theorem go_r0 (y : GoS) (ls : LoopState) (pe : Option Code) (tu n n' ne : Int) (i : Nat) (Z1 Z2 : Prop) (ht : y.t.Ok) (hl : y.nm.length = 32) (hN : y.t.N ≤ 30) (hi : i ≤ y.t.N) (hn : n = (wantL y.t y.nm i).length) (hn' : n' = (wantL y.t y.nm (i + 1)).length) (hx : i = y.t.N → (ls = .ready ∧ pe = none ∧ ne = n) ∧ Z2) (hbk : i < y.t.N → y.hit i = true → tu = 0 → n + 1 ≥ y.many → (ls = .done ∧ pe = some (.exit 6) ∧ ne = n + 1) ∧ Z2) (hgo : i < y.t.N → (y.hit i = true → tu = 0 → n + 1 < y.many) → Z1) :
    roundE G0 20 72 0 18 (y.r 14 15 16 .ready tu n i []) (rdM 18 0 9 (y.r 14 15 16 .ready tu n' (i + 1) []) (y.re 15 16 ls pe tu ne []) (y.re 15 16 ls pe tu ne []) (y.re 15 16 ls pe tu ne []) Z1 Z2 False False) := by
  refine @Eq.mpr _ (let q1 := y.t;
 let q2 := q1.N;
 let q3 := (↑q2 : Int);
 let q4 := decide (0 ≤ (↑i : Int) ∧ (↑i : Int) < q3);
 let q5 := 0 + Int.toNat (↑i : Int);
 let q6 := q1.ins;
 let q7 := snoc q2 q6 in77 q5;
 let q8 := q7.name;
 let q9 := y.nm;
 let q10 := wantL q1 q9 q2;
 let q11 := List.length q10;
 let q12 := (↑q11 : Int);
 let q13 := [(74 : Nat), 75];
 let q14 := (9 : FuncId) = 9 ∧ (143 : Nat) = 143 ∧ q13 = q13 ∧ code_gA = code_gA ∧ code_gB = code_gB;
 let q15 := decide (tu = tu);
 let q16 := decide (q2 = q2);
 let q17 := decide (q2 ≤ q2);
 let q18 := inRows (snoc q2 q6 in77);
 let q19 := RowsEq 18 [] q2 q18 q18;
 let q20 := q9 = q9;
 let q21 := q10 = q10;
 let q22 := decide (q11 = q11);
 let q23 := decide (q11 ≤ q11);
 let q24 := y.many;
 let q25 := decide (q24 = q24);
 let q26 := y.o;
 let q27 := q26.num;
 let q28 := decide (q27 = q27);
 let q29 := q26.N;
 let q30 := decide (q29 = q29);
 let q31 := inRows q26.ins;
 let q32 := q31 = q31;
 let q33 := q26.M;
 let q34 := decide (q33 = q33);
 let q35 := outRows q26.outs;
 let q36 := q35 = q35;
 let q37 := q1.num;
 let q38 := decide (q37 = q37);
 let q39 := inRows q6;
 let q40 := q39 = q39;
 let q41 := q1.M;
 let q42 := decide (q41 = q41);
 let q43 := outRows q1.outs;
 let q44 := q43 = q43;
 let q45 := iteB q15 (iteB q16 (iteB q17 (iteB q16 (q19 ∧ q20 ∧ q21 ∧ iteB q22 (iteB q23 (iteB q25 (q20 ∧ iteB q28 (iteB q30 (q32 ∧ iteB q30 (iteB q34 (q36 ∧ iteB q34 (iteB q38 (iteB q16 (q40 ∧ iteB q16 (iteB q42 (q44 ∧ iteB q42 Z2 False) False) False) False) False) False) False) False) False) False) False) False) False) False) False) False) False;
 let q46 := iteB (decide (n = ne)) q45 False;
 let q47 := (LoopState.done = ls ∧ some Code.ret = pe ∧ q14) ∧ q46;
 let q48 := 0 + Int.toNat n;
 let q49 := q6 (Int.toNat (↑i : Int));
 let q50 := q49.name;
 let q51 := q7.tag;
 let q52 := q49.tag;
 let q53 := q7.also;
 let q54 := q49.also;
 let q55 := q7.secret;
 let q56 := q49.secret;
 let q57 := IntKind.wrap IntKind.i64 (n + 1);
 let q58 := decide (q3 = q3);
 let q59 := decide (IntKind.wrap IntKind.i64 ((↑i : Int) + 1) = (↑(i + 1) : Int));
 let q60 := LoopState.ready = LoopState.ready ∧ (none : Option Code) = none ∧ q14;
 let q61 := iteB q15 (iteB q16 (iteB q17 (iteB q16 (q19 ∧ q20 ∧ q21 ∧ iteB q22 (iteB q23 (iteB q25 (q20 ∧ iteB q28 (iteB q30 (q32 ∧ iteB q30 (iteB q34 (q36 ∧ iteB q34 (iteB q38 (iteB q16 (q40 ∧ iteB q16 (iteB q42 (q44 ∧ iteB q42 Z1 False) False) False) False) False) False) False) False) False) False) False) False) False) False) False) False) False;
 let q62 := iteB q16 (iteB q17 (iteB q58 (iteB q59 (q60 ∧ iteB (decide (q57 = n')) q61 False) False) False) False) False;
 iteB (decide ((↑i : Int) < q3)) (iteB q4 (iteB (decide (q5 < q2)) (iteB (decide (List.length q8 = 32 ∧ List.length q9 = 32)) (iteB (q8 == q9) (iteB (decide (n ≥ q12)) q47 (iteB (decide (0 ≤ n ∧ n < q12)) (iteB (decide (q48 < q11)) (iteB ((↑i : Int) != List.getD q10 q48 0) q47 (iteB q4 (iteB (decide (List.length q8 = 32 ∧ List.length q50 = 32)) (iteB (decide (List.length q51 = 32 ∧ List.length q52 = 32)) (iteB (decide (List.length q53 = 32 ∧ List.length q54 = 32)) (iteB (decide (List.length q55 = 32 ∧ List.length q56 = 32)) (iteB (!(q8 == q50 && (q7.index == q49.index && (q7.way == q49.way && (q51 == q52 && (q53 == q54 && q55 == q56)))))) q47 (iteB (tu == 0) (iteB (decide (q57 ≥ q24)) ((LoopState.done = ls ∧ some (Code.exit 6) = pe ∧ q14) ∧ iteB (decide (q57 = ne)) q45 False) q62) q62)) False) False) False) False) False)) False) False)) (iteB q16 (iteB q17 (iteB q58 (iteB q59 (q60 ∧ iteB (decide (n = n')) q61 False) False) False) False) False)) False) False) False)
 ((LoopState.ready = ls ∧ none = pe ∧ q14) ∧ q46)) (by kernel_rfl) ?_
  conv => zeta
  try simp only [need_eq]
  try simp only [nope_eq]
  try simp only [iteD_eq]
  try simp only [iteT_eq]
  try simp only [iteF_eq]
  try simp only [iteE_eq]
  try simp only [Int.toNat_natCast, Nat.zero_add, true_and, and_true, Nat.le_refl]
  have r3 : ∀ τ, RowsEq 18 τ y.t.N (inRows (snoc y.t.N y.t.ins in77)) (inRows (snoc y.t.N y.t.ins in77)) := fun _ => inRowsEq fun _ _ => rfl
  refine ⟨fun hlt => ?_, fun hge => ?_⟩
  · have hlt' : i < y.t.N := by omega
    have e : snoc y.t.N y.t.ins in77 i = y.t.ins i := by unfold snoc; rw [if_neg (by omega)]
    have hwi : IntKind.i64.wrap ((i : Int) + 1) = ((i + 1 : Nat) : Int) := w64 (by omega)
    have hb := wantL_len y.t y.nm i
    have hwn : IntKind.i64.wrap (n + 1) = n + 1 := w64 (by omega)
    obtain ⟨l1, l2, l3, l4⟩ := ht.ins i hlt'
    rw [e, hwi, hwn]
    refine ⟨⟨by omega, hlt⟩, hlt', ⟨l1, hl⟩, fun hc => ?_, fun hc => ?_⟩
    · obtain ⟨w1, w2, w3⟩ := wantL_hit y hlt' hc
      have hnt : n.toNat = (wantL y.t y.nm i).length := by omega
      have en : n' = n + 1 := by omega
      refine ⟨fun h => absurd h (by omega), fun _ => ⟨⟨by omega, by omega⟩, by omega, fun h => ?_, fun _ => ⟨⟨by omega, hlt⟩, ⟨l1, l1⟩, ⟨l2, l2⟩, ⟨l3, l3⟩, ⟨l4, l4⟩, fun h => ?_, fun _ => ⟨fun h0 => ⟨fun hm => ?_, fun hm => ?_⟩, fun h0 => ?_⟩⟩⟩⟩
      · rw [hnt, w1] at h
        simp at h
      · simp at h
      · obtain ⟨⟨x1, x2, x3⟩, hz⟩ := hbk hlt' hc (by simpa using h0) hm
        exact ⟨⟨x1.symm, x2.symm⟩, x3.symm, r3 _, hz⟩
      · exact ⟨rfl, en.symm, r3 _, hgo hlt' fun _ _ => by omega⟩
      · exact ⟨rfl, en.symm, r3 _, hgo hlt' fun _ h => by rw [h] at h0; simp at h0⟩
    · have hm := wantL_miss y hc
      refine ⟨rfl, by rw [hn, hn', hm], r3 _, hgo hlt' fun h => ?_⟩
      unfold GoS.hit at h
      rw [hc] at h
      cases h
  · obtain ⟨⟨x1, x2, x3⟩, hz⟩ := hx (by omega)
    first | exact ⟨⟨x1.symm, x2.symm⟩, x3.symm, r3 _, hz⟩ | (subst x1 x2 x3; exact ⟨r3 _, hz⟩)
set_option maxRecDepth 100000 in
set_option maxHeartbeats 0 in
theorem go_r1 (y : GoS) (ls : LoopState) (pe : Option Code) (tu n n' ne : Int) (i : Nat) (Z1 Z2 : Prop) (ht : y.t.Ok) (hl : y.nm.length = 32) (hN : y.t.N ≤ 30) (hi : i ≤ y.t.N) (hn : n = (wantL y.t y.nm i).length) (hn' : n' = (wantL y.t y.nm (i + 1)).length) (hx : i = y.t.N → (ls = .ready ∧ pe = none ∧ ne = n) ∧ Z2) (hbk : i < y.t.N → y.hit i = true → tu = 0 → n + 1 ≥ y.many → (ls = .done ∧ pe = some (.exit 6) ∧ ne = n + 1) ∧ Z2) (hgo : i < y.t.N → (y.hit i = true → tu = 0 → n + 1 < y.many) → Z1) :
    roundE G0 20 72 0 19 (y.r 14 16 17 .ready tu n i [(15, .defd)]) (rdM 19 0 9 (y.r 14 16 17 .ready tu n' (i + 1) [(15, .defd)]) (y.re 16 17 ls pe tu ne [(15, .defd)]) (y.re 16 17 ls pe tu ne [(15, .defd)]) (y.re 16 17 ls pe tu ne [(15, .defd)]) Z1 Z2 False False) := by
  refine @Eq.mpr _ (let q1 := y.t;
 let q2 := q1.N;
 let q3 := (↑q2 : Int);
 let q4 := decide (0 ≤ (↑i : Int) ∧ (↑i : Int) < q3);
 let q5 := 0 + Int.toNat (↑i : Int);
 let q6 := q1.ins;
 let q7 := snoc q2 q6 in77 q5;
 let q8 := q7.name;
 let q9 := y.nm;
 let q10 := wantL q1 q9 q2;
 let q11 := List.length q10;
 let q12 := (↑q11 : Int);
 let q13 := [(74 : Nat), 75];
 let q14 := (9 : FuncId) = 9 ∧ (143 : Nat) = 143 ∧ q13 = q13 ∧ code_gA = code_gA ∧ code_gB = code_gB;
 let q15 := decide (tu = tu);
 let q16 := decide (q2 = q2);
 let q17 := decide (q2 ≤ q2);
 let q18 := inRows (snoc q2 q6 in77);
 let q19 := RowsEq 19 [] q2 q18 q18;
 let q20 := q9 = q9;
 let q21 := q10 = q10;
 let q22 := decide (q11 = q11);
 let q23 := decide (q11 ≤ q11);
 let q24 := y.many;
 let q25 := decide (q24 = q24);
 let q26 := y.o;
 let q27 := q26.num;
 let q28 := decide (q27 = q27);
 let q29 := q26.N;
 let q30 := decide (q29 = q29);
 let q31 := inRows q26.ins;
 let q32 := q31 = q31;
 let q33 := q26.M;
 let q34 := decide (q33 = q33);
 let q35 := outRows q26.outs;
 let q36 := q35 = q35;
 let q37 := q1.num;
 let q38 := decide (q37 = q37);
 let q39 := inRows q6;
 let q40 := q39 = q39;
 let q41 := q1.M;
 let q42 := decide (q41 = q41);
 let q43 := outRows q1.outs;
 let q44 := q43 = q43;
 let q45 := iteB q15 (iteB q16 (iteB q17 (iteB q16 (q19 ∧ q20 ∧ q21 ∧ iteB q22 (iteB q23 (iteB q25 (q20 ∧ iteB q28 (iteB q30 (q32 ∧ iteB q30 (iteB q34 (q36 ∧ iteB q34 (iteB q38 (iteB q16 (q40 ∧ iteB q16 (iteB q42 (q44 ∧ iteB q42 Z2 False) False) False) False) False) False) False) False) False) False) False) False) False) False) False) False) False;
 let q46 := iteB (decide (n = ne)) q45 False;
 let q47 := (LoopState.done = ls ∧ some Code.ret = pe ∧ q14) ∧ q46;
 let q48 := 0 + Int.toNat n;
 let q49 := q6 (Int.toNat (↑i : Int));
 let q50 := q49.name;
 let q51 := q7.tag;
 let q52 := q49.tag;
 let q53 := q7.also;
 let q54 := q49.also;
 let q55 := q7.secret;
 let q56 := q49.secret;
 let q57 := IntKind.wrap IntKind.i64 (n + 1);
 let q58 := decide (q3 = q3);
 let q59 := decide (IntKind.wrap IntKind.i64 ((↑i : Int) + 1) = (↑(i + 1) : Int));
 let q60 := LoopState.ready = LoopState.ready ∧ (none : Option Code) = none ∧ q14;
 let q61 := iteB q15 (iteB q16 (iteB q17 (iteB q16 (q19 ∧ q20 ∧ q21 ∧ iteB q22 (iteB q23 (iteB q25 (q20 ∧ iteB q28 (iteB q30 (q32 ∧ iteB q30 (iteB q34 (q36 ∧ iteB q34 (iteB q38 (iteB q16 (q40 ∧ iteB q16 (iteB q42 (q44 ∧ iteB q42 Z1 False) False) False) False) False) False) False) False) False) False) False) False) False) False) False) False) False;
 let q62 := iteB q16 (iteB q17 (iteB q58 (iteB q59 (q60 ∧ iteB (decide (q57 = n')) q61 False) False) False) False) False;
 iteB (decide ((↑i : Int) < q3)) (iteB q4 (iteB (decide (q5 < q2)) (iteB (decide (List.length q8 = 32 ∧ List.length q9 = 32)) (iteB (q8 == q9) (iteB (decide (n ≥ q12)) q47 (iteB (decide (0 ≤ n ∧ n < q12)) (iteB (decide (q48 < q11)) (iteB ((↑i : Int) != List.getD q10 q48 0) q47 (iteB q4 (iteB (decide (List.length q8 = 32 ∧ List.length q50 = 32)) (iteB (decide (List.length q51 = 32 ∧ List.length q52 = 32)) (iteB (decide (List.length q53 = 32 ∧ List.length q54 = 32)) (iteB (decide (List.length q55 = 32 ∧ List.length q56 = 32)) (iteB (!(q8 == q50 && (q7.index == q49.index && (q7.way == q49.way && (q51 == q52 && (q53 == q54 && q55 == q56)))))) q47 (iteB (tu == 0) (iteB (decide (q57 ≥ q24)) ((LoopState.done = ls ∧ some (Code.exit 6) = pe ∧ q14) ∧ iteB (decide (q57 = ne)) q45 False) q62) q62)) False) False) False) False) False)) False) False)) (iteB q16 (iteB q17 (iteB q58 (iteB q59 (q60 ∧ iteB (decide (n = n')) q61 False) False) False) False) False)) False) False) False)
 ((LoopState.ready = ls ∧ none = pe ∧ q14) ∧ q46)) (by kernel_rfl) ?_
  conv => zeta
  try simp only [need_eq]
  try simp only [nope_eq]
  try simp only [iteD_eq]
  try simp only [iteT_eq]
  try simp only [iteF_eq]
  try simp only [iteE_eq]
  try simp only [Int.toNat_natCast, Nat.zero_add, true_and, and_true, Nat.le_refl]
  have r3 : ∀ τ, RowsEq 19 τ y.t.N (inRows (snoc y.t.N y.t.ins in77)) (inRows (snoc y.t.N y.t.ins in77)) := fun _ => inRowsEq fun _ _ => rfl
  refine ⟨fun hlt => ?_, fun hge => ?_⟩
  · have hlt' : i < y.t.N := by omega
    have e : snoc y.t.N y.t.ins in77 i = y.t.ins i := by unfold snoc; rw [if_neg (by omega)]
    have hwi : IntKind.i64.wrap ((i : Int) + 1) = ((i + 1 : Nat) : Int) := w64 (by omega)
    have hb := wantL_len y.t y.nm i
    have hwn : IntKind.i64.wrap (n + 1) = n + 1 := w64 (by omega)
    obtain ⟨l1, l2, l3, l4⟩ := ht.ins i hlt'
    rw [e, hwi, hwn]
    refine ⟨⟨by omega, hlt⟩, hlt', ⟨l1, hl⟩, fun hc => ?_, fun hc => ?_⟩
    · obtain ⟨w1, w2, w3⟩ := wantL_hit y hlt' hc
      have hnt : n.toNat = (wantL y.t y.nm i).length := by omega
      have en : n' = n + 1 := by omega
      refine ⟨fun h => absurd h (by omega), fun _ => ⟨⟨by omega, by omega⟩, by omega, fun h => ?_, fun _ => ⟨⟨by omega, hlt⟩, ⟨l1, l1⟩, ⟨l2, l2⟩, ⟨l3, l3⟩, ⟨l4, l4⟩, fun h => ?_, fun _ => ⟨fun h0 => ⟨fun hm => ?_, fun hm => ?_⟩, fun h0 => ?_⟩⟩⟩⟩
      · rw [hnt, w1] at h
        simp at h
      · simp at h
      · obtain ⟨⟨x1, x2, x3⟩, hz⟩ := hbk hlt' hc (by simpa using h0) hm
        exact ⟨⟨x1.symm, x2.symm⟩, x3.symm, r3 _, hz⟩
      · exact ⟨rfl, en.symm, r3 _, hgo hlt' fun _ _ => by omega⟩
      · exact ⟨rfl, en.symm, r3 _, hgo hlt' fun _ h => by rw [h] at h0; simp at h0⟩
    · have hm := wantL_miss y hc
      refine ⟨rfl, by rw [hn, hn', hm], r3 _, hgo hlt' fun h => ?_⟩
      unfold GoS.hit at h
      rw [hc] at h
      cases h
  · obtain ⟨⟨x1, x2, x3⟩, hz⟩ := hx (by omega)
    first | exact ⟨⟨x1.symm, x2.symm⟩, x3.symm, r3 _, hz⟩ | (subst x1 x2 x3; exact ⟨r3 _, hz⟩)
noncomputable def goL0r (y : GoS) (ls : LoopState) (pe : Option Code) (tu ne : Int) (J : Nat) (C : Prop) : Nat → St → KE → Prop := goM 18 (y.r 14 15 16 .ready tu 0 0 []) C (endsJ 0 J 9 (fun i => i < J) (fun i => i = J) (fun _ => False) (fun _ => False) (fun _ => y.re 15 16 ls pe tu ne []) (fun _ => y.re 15 16 ls pe tu ne []) (fun _ => y.re 15 16 ls pe tu ne []))
theorem goL0r_A (y : GoS) (hl : y.nm.length = 32) (tu : Int) (hA : ∀ i, i < y.t.N → y.hit i = true → tu = 0 → ((wantL y.t y.nm i).length : Int) + 1 < y.many) : (G0.withL 72 0 (goL0r y .ready none tu (wantL y.t y.nm y.t.N).length y.t.N (y.t.Ok ∧ y.t.N ≤ 30))).Ok := by
  unfold goL0r
  refine Env2.withGoM (N := 20) (S := fun i => y.r 14 15 16 .ready tu (wantL y.t y.nm i).length i []) G0_ok (by kernel_rfl) fun hC => ⟨by show y.r 14 15 16 .ready tu (wantL y.t y.nm 0).length 0 [] = _; rw [wantL]; rfl, fun i hi hgo => ?_⟩
  exact go_r0 y .ready none tu _ _ _ i _ _ hC.1 hl hC.2 hi rfl rfl (fun h => ⟨⟨rfl, rfl, by rw [h]⟩, h⟩) (fun h1 h2 h3 h4 => absurd (hA i h1 h2 h3) (by omega)) (fun h _ => ⟨h, h⟩)
theorem goL0r_B (y : GoS) (hl : y.nm.length = 32) (J : Nat) (hJ : J < y.t.N) (hh : y.hit J = true) (hm : ((wantL y.t y.nm J).length : Int) + 1 ≥ y.many) (hA : ∀ i, i < J → y.hit i = true → ((wantL y.t y.nm i).length : Int) + 1 < y.many) : (G0.withL 72 0 (goL0r y .done (some (.exit 6)) 0 ((wantL y.t y.nm J).length + 1) J (y.t.Ok ∧ y.t.N ≤ 30))).Ok := by
  unfold goL0r
  refine Env2.withGoM (N := 20) (S := fun i => y.r 14 15 16 .ready 0 (wantL y.t y.nm i).length i []) G0_ok (by kernel_rfl) fun hC => ⟨by show y.r 14 15 16 .ready 0 (wantL y.t y.nm 0).length 0 [] = _; rw [wantL]; rfl, fun i hi hgo => ?_⟩
  refine go_r0 y .done (some (.exit 6)) 0 _ _ _ i _ _ hC.1 hl hC.2 (by omega) rfl rfl (fun h => absurd h (by omega)) (fun h1 h2 h3 h4 => ?_) (fun h h' => ?_)
  · have : i = J := Classical.byContradiction fun hne => absurd (hA i (by omega) h2) (by omega)
    subst this
    exact ⟨⟨rfl, rfl, rfl⟩, rfl⟩
  · have hne : i ≠ J := fun e => by subst e; have := h' hh rfl; omega
    exact ⟨by omega, by omega⟩
noncomputable def goL1r (y : GoS) (ls : LoopState) (pe : Option Code) (tu ne : Int) (J : Nat) (C : Prop) : Nat → St → KE → Prop := goM 19 (y.r 14 16 17 .ready tu 0 0 [(15, .defd)]) C (endsJ 0 J 9 (fun i => i < J) (fun i => i = J) (fun _ => False) (fun _ => False) (fun _ => y.re 16 17 ls pe tu ne [(15, .defd)]) (fun _ => y.re 16 17 ls pe tu ne [(15, .defd)]) (fun _ => y.re 16 17 ls pe tu ne [(15, .defd)]))
theorem goL1r_A (y : GoS) (hl : y.nm.length = 32) (tu : Int) (hA : ∀ i, i < y.t.N → y.hit i = true → tu = 0 → ((wantL y.t y.nm i).length : Int) + 1 < y.many) : (G0.withL 72 0 (goL1r y .ready none tu (wantL y.t y.nm y.t.N).length y.t.N (y.t.Ok ∧ y.t.N ≤ 30))).Ok := by
  unfold goL1r
  refine Env2.withGoM (N := 20) (S := fun i => y.r 14 16 17 .ready tu (wantL y.t y.nm i).length i [(15, .defd)]) G0_ok (by kernel_rfl) fun hC => ⟨by show y.r 14 16 17 .ready tu (wantL y.t y.nm 0).length 0 [(15, .defd)] = _; rw [wantL]; rfl, fun i hi hgo => ?_⟩
  exact go_r1 y .ready none tu _ _ _ i _ _ hC.1 hl hC.2 hi rfl rfl (fun h => ⟨⟨rfl, rfl, by rw [h]⟩, h⟩) (fun h1 h2 h3 h4 => absurd (hA i h1 h2 h3) (by omega)) (fun h _ => ⟨h, h⟩)
def isT0 (s : St) : Bool := match s.h.get 14 with
  | some (.flat [.int _ n]) => decide (n = 0)
  | _ => false
noncomputable def E69c (L0 L1 : Nat → St → KE → Prop) : Env2 := G0.withL 72 0 (orL isT0 L0 L1)
def GoS.s4 (y : GoS) (i : Nat) : St := match i with
  | 0 => ⟨143, (14, pt 14) :: y.tm, ⟨15, (14, .flat [.int .i64 0]) :: y.hq⟩, []⟩
  | 1 => ⟨143, (14, pt 14) :: y.tm, ⟨16, (15, .defd) :: (14, .flat [.int .i64 1]) :: y.hq⟩, [.mark 15]⟩
  | _ => ⟨143, (14, pt 14) :: y.tm, ⟨17, (16, .defd) :: (15, .defd) :: (14, .flat [.int .i64 2]) :: y.hq⟩, [.mark 16, .mark 15]⟩
def GoS.e4 (y : GoS) : St := ⟨143, [(4, pt 0), (5, pt 1), (8, pt 4)], ⟨17, (16, .defd) :: (15, .defd) :: [(4, .flat [.bool false]), (1, .flat y.o.c), (0, .flat y.t.c)]⟩, [.mark 16, .mark 15]⟩
set_option maxRecDepth 100000 in
set_option maxHeartbeats 0 in
theorem go_t0A (y : GoS) (L1 : Nat → St → KE → Prop) (ne : Int) (J : Nat) (C Z1 Z2 Z3 Z4 : Prop) (hC : C) (hne : ne = if (if y.many > 1 then y.many else 1) < ((wantL y.t y.nm y.t.N).length : Int) then if y.many > 1 then y.many else 1 else ((wantL y.t y.nm y.t.N).length : Int)) (h1 : Z1) :
    roundE (E69c (goL0r y .ready none 0 ne J C) L1) 20 9 4 0 (y.s4 0) (rdM 0 4 9 (y.s4 1) y.e4 y.e4 y.e4 Z1 Z2 Z3 Z4) := by
  refine @Eq.mpr _ (let q1 := y.t;
 let q2 := q1.N;
 let q3 := decide (q2 = q2);
 let q4 := decide (q2 ≤ q2);
 let q5 := (↑q2 : Int);
 let q6 := [(74 : Nat), 75];
 let q7 := q1.ins;
 let q8 := inRows (snoc q2 q7 in77);
 let q9 := y.nm;
 let q10 := q9 = q9;
 let q11 := wantL q1 q9 q2;
 let q12 := q11 = q11;
 let q13 := List.length q11;
 let q14 := decide (q13 = q13);
 let q15 := decide (q13 ≤ q13);
 let q16 := y.many;
 let q17 := decide (q16 = q16);
 let q18 := y.o;
 let q19 := q18.num;
 let q20 := decide (q19 = q19);
 let q21 := q18.N;
 let q22 := decide (q21 = q21);
 let q23 := inRows q18.ins;
 let q24 := q23 = q23;
 let q25 := q18.M;
 let q26 := decide (q25 = q25);
 let q27 := outRows q18.outs;
 let q28 := q27 = q27;
 let q29 := q1.num;
 let q30 := decide (q29 = q29);
 let q31 := inRows q7;
 let q32 := q31 = q31;
 let q33 := q1.M;
 let q34 := decide (q33 = q33);
 let q35 := outRows q1.outs;
 let q36 := q35 = q35;
 let q37 := if q16 > 1 then q16 else 1;
 let q38 := (↑q13 : Int);
 let q39 := iteB (ne != if q37 < q38 then q37 else q38) False (iteB q3 (iteB q4 (iteB q3 (RowsEq 0 [(6, 6), (12, 12), (15, 16), (11, 11), (13, 13), (5, 5), (4, 4), (3, 3), (2, 2), (1, 1), (0, 0), (14, 18)] q2 q8 q8 ∧ q10 ∧ q12 ∧ iteB q14 (iteB q15 (iteB q17 (q10 ∧ iteB q20 (iteB q22 (q24 ∧ iteB q22 (iteB q26 (q28 ∧ iteB q26 (iteB q30 (iteB q3 (q32 ∧ iteB q3 (iteB q34 (q36 ∧ iteB q34 Z1 False) False) False) False) False) False) False) False) False) False) False) False) False) False) False) False);
 iteB q3 (iteB q4 (iteB (decide (q5 = q5)) ((LoopState.ready = LoopState.ready ∧ (none : Option Code) = none ∧ (9 : FuncId) = 9 ∧ (143 : Nat) = 143 ∧ q6 = q6 ∧ code_gA = code_gA ∧ code_gB = code_gB) ∧ iteB q3 (iteB q4 (iteB q3 (RowsEq 18 [] q2 q8 q8 ∧ q10 ∧ q12 ∧ iteB q14 (iteB q15 (iteB q17 (q10 ∧ iteB q20 (iteB q22 (q24 ∧ iteB q22 (iteB q26 (q28 ∧ iteB q26 (iteB q30 (iteB q3 (q32 ∧ iteB q3 (iteB q34 (q36 ∧ iteB q34 (C ∧ ∀ (i : Nat), i ≤ J → (∀ (j : Nat), j < i → (fun (i : Nat) => i < J) j) → (i = J → q39) ∧ (False → q39) ∧ (False → False)) False) False) False) False) False) False) False) False) False) False) False) False) False) False) False) False) False) False) False) (by kernel_rfl) ?_
  conv => zeta
  try simp only [need_eq]
  try simp only [nope_eq]
  try simp only [iteD_eq]
  try simp only [iteT_eq]
  try simp only [iteF_eq]
  try simp only [iteE_eq]
  try simp only [Int.toNat_natCast, Nat.zero_add, true_and, and_true, Nat.le_refl]
  have r : ∀ k τ, RowsEq k τ y.t.N (inRows (snoc y.t.N y.t.ins in77)) (inRows (snoc y.t.N y.t.ins in77)) := fun _ _ => inRowsEq fun _ _ => rfl
  refine ⟨r _ _, hC, fun i hi _ => ⟨fun he => ⟨?_, r _ _, h1⟩, fun h => h.elim, fun h => h⟩⟩
  rw [← hne]; simp
set_option maxRecDepth 100000 in
set_option maxHeartbeats 0 in
theorem go_t0B (y : GoS) (L1 : Nat → St → KE → Prop) (ne : Int) (J : Nat) (C Z1 Z2 Z3 Z4 : Prop) (hC : C) (hne : ne = if (if y.many > 1 then y.many else 1) < ((wantL y.t y.nm y.t.N).length : Int) then if y.many > 1 then y.many else 1 else ((wantL y.t y.nm y.t.N).length : Int)) (h1 : Z1) :
    roundE (E69c (goL0r y .done (some (.exit 6)) 0 ne J C) L1) 20 9 4 0 (y.s4 0) (rdM 0 4 9 (y.s4 1) y.e4 y.e4 y.e4 Z1 Z2 Z3 Z4) := by
  refine @Eq.mpr _ (let q1 := y.t;
 let q2 := q1.N;
 let q3 := decide (q2 = q2);
 let q4 := decide (q2 ≤ q2);
 let q5 := (↑q2 : Int);
 let q6 := [(74 : Nat), 75];
 let q7 := q1.ins;
 let q8 := inRows (snoc q2 q7 in77);
 let q9 := y.nm;
 let q10 := q9 = q9;
 let q11 := wantL q1 q9 q2;
 let q12 := q11 = q11;
 let q13 := List.length q11;
 let q14 := decide (q13 = q13);
 let q15 := decide (q13 ≤ q13);
 let q16 := y.many;
 let q17 := decide (q16 = q16);
 let q18 := y.o;
 let q19 := q18.num;
 let q20 := decide (q19 = q19);
 let q21 := q18.N;
 let q22 := decide (q21 = q21);
 let q23 := inRows q18.ins;
 let q24 := q23 = q23;
 let q25 := q18.M;
 let q26 := decide (q25 = q25);
 let q27 := outRows q18.outs;
 let q28 := q27 = q27;
 let q29 := q1.num;
 let q30 := decide (q29 = q29);
 let q31 := inRows q7;
 let q32 := q31 = q31;
 let q33 := q1.M;
 let q34 := decide (q33 = q33);
 let q35 := outRows q1.outs;
 let q36 := q35 = q35;
 let q37 := if q16 > 1 then q16 else 1;
 let q38 := (↑q13 : Int);
 let q39 := iteB (ne != if q37 < q38 then q37 else q38) False (iteB q3 (iteB q4 (iteB q3 (RowsEq 0 [(6, 6), (12, 12), (15, 16), (11, 11), (13, 13), (5, 5), (4, 4), (3, 3), (2, 2), (1, 1), (0, 0), (14, 18)] q2 q8 q8 ∧ q10 ∧ q12 ∧ iteB q14 (iteB q15 (iteB q17 (q10 ∧ iteB q20 (iteB q22 (q24 ∧ iteB q22 (iteB q26 (q28 ∧ iteB q26 (iteB q30 (iteB q3 (q32 ∧ iteB q3 (iteB q34 (q36 ∧ iteB q34 Z1 False) False) False) False) False) False) False) False) False) False) False) False) False) False) False) False);
 iteB q3 (iteB q4 (iteB (decide (q5 = q5)) ((LoopState.ready = LoopState.ready ∧ (none : Option Code) = none ∧ (9 : FuncId) = 9 ∧ (143 : Nat) = 143 ∧ q6 = q6 ∧ code_gA = code_gA ∧ code_gB = code_gB) ∧ iteB q3 (iteB q4 (iteB q3 (RowsEq 18 [] q2 q8 q8 ∧ q10 ∧ q12 ∧ iteB q14 (iteB q15 (iteB q17 (q10 ∧ iteB q20 (iteB q22 (q24 ∧ iteB q22 (iteB q26 (q28 ∧ iteB q26 (iteB q30 (iteB q3 (q32 ∧ iteB q3 (iteB q34 (q36 ∧ iteB q34 (C ∧ ∀ (i : Nat), i ≤ J → (∀ (j : Nat), j < i → (fun (i : Nat) => i < J) j) → (i = J → q39) ∧ (False → q39) ∧ (False → False)) False) False) False) False) False) False) False) False) False) False) False) False) False) False) False) False) False) False) False) (by kernel_rfl) ?_
  conv => zeta
  try simp only [need_eq]
  try simp only [nope_eq]
  try simp only [iteD_eq]
  try simp only [iteT_eq]
  try simp only [iteF_eq]
  try simp only [iteE_eq]
  try simp only [Int.toNat_natCast, Nat.zero_add, true_and, and_true, Nat.le_refl]
  have r : ∀ k τ, RowsEq k τ y.t.N (inRows (snoc y.t.N y.t.ins in77)) (inRows (snoc y.t.N y.t.ins in77)) := fun _ _ => inRowsEq fun _ _ => rfl
  refine ⟨r _ _, hC, fun i hi _ => ⟨fun he => ⟨?_, r _ _, h1⟩, fun h => h.elim, fun h => h⟩⟩
  rw [← hne]; simp
set_option maxRecDepth 100000 in
set_option maxHeartbeats 0 in
theorem go_t1 (y : GoS) (L0 : Nat → St → KE → Prop) (ne : Int) (J : Nat) (C Z1 Z2 Z3 Z4 : Prop) (hC : C) (hne : ne = (wantL y.t y.nm y.t.N).length) (h1 : Z1) :
    roundE (E69c L0 (goL1r y .ready none 1 ne J C)) 20 9 4 0 (y.s4 1) (rdM 0 4 9 (y.s4 2) y.e4 y.e4 y.e4 Z1 Z2 Z3 Z4) := by
  refine @Eq.mpr _ (let q1 := y.t;
 let q2 := q1.N;
 let q3 := decide (q2 = q2);
 let q4 := decide (q2 ≤ q2);
 let q5 := (↑q2 : Int);
 let q6 := [(74 : Nat), 75];
 let q7 := q1.ins;
 let q8 := inRows (snoc q2 q7 in77);
 let q9 := y.nm;
 let q10 := q9 = q9;
 let q11 := wantL q1 q9 q2;
 let q12 := q11 = q11;
 let q13 := List.length q11;
 let q14 := decide (q13 = q13);
 let q15 := decide (q13 ≤ q13);
 let q16 := decide (y.many = y.many);
 let q17 := y.o;
 let q18 := q17.num;
 let q19 := decide (q18 = q18);
 let q20 := q17.N;
 let q21 := decide (q20 = q20);
 let q22 := inRows q17.ins;
 let q23 := q22 = q22;
 let q24 := q17.M;
 let q25 := decide (q24 = q24);
 let q26 := outRows q17.outs;
 let q27 := q26 = q26;
 let q28 := q1.num;
 let q29 := decide (q28 = q28);
 let q30 := inRows q7;
 let q31 := q30 = q30;
 let q32 := q1.M;
 let q33 := decide (q32 = q32);
 let q34 := outRows q1.outs;
 let q35 := q34 = q34;
 let q36 := iteB (ne != (↑q13 : Int)) (iteB q19 (iteB q21 (q23 ∧ iteB q21 (iteB q25 (q27 ∧ iteB q25 (iteB q29 (iteB q3 (q31 ∧ iteB q3 (iteB q33 (q35 ∧ iteB q33 Z3 False) False) False) False) False) False) False) False) False) False) (iteB q3 (iteB q4 (iteB q3 (RowsEq 0 [(6, 6), (12, 12), (15, 15), (16, 17), (11, 11), (13, 13), (5, 5), (4, 4), (3, 3), (2, 2), (1, 1), (0, 0), (14, 19)] q2 q8 q8 ∧ q10 ∧ q12 ∧ iteB q14 (iteB q15 (iteB q16 (q10 ∧ iteB q19 (iteB q21 (q23 ∧ iteB q21 (iteB q25 (q27 ∧ iteB q25 (iteB q29 (iteB q3 (q31 ∧ iteB q3 (iteB q33 (q35 ∧ iteB q33 Z1 False) False) False) False) False) False) False) False) False) False) False) False) False) False) False) False);
 iteB q3 (iteB q4 (iteB (decide (q5 = q5)) ((LoopState.ready = LoopState.ready ∧ (none : Option Code) = none ∧ (9 : FuncId) = 9 ∧ (143 : Nat) = 143 ∧ q6 = q6 ∧ code_gA = code_gA ∧ code_gB = code_gB) ∧ iteB q3 (iteB q4 (iteB q3 (RowsEq 19 [] q2 q8 q8 ∧ q10 ∧ q12 ∧ iteB q14 (iteB q15 (iteB q16 (q10 ∧ iteB q19 (iteB q21 (q23 ∧ iteB q21 (iteB q25 (q27 ∧ iteB q25 (iteB q29 (iteB q3 (q31 ∧ iteB q3 (iteB q33 (q35 ∧ iteB q33 (C ∧ ∀ (i : Nat), i ≤ J → (∀ (j : Nat), j < i → (fun (i : Nat) => i < J) j) → (i = J → q36) ∧ (False → q36) ∧ (False → False)) False) False) False) False) False) False) False) False) False) False) False) False) False) False) False) False) False) False) False) (by kernel_rfl) ?_
  conv => zeta
  try simp only [need_eq]
  try simp only [nope_eq]
  try simp only [iteD_eq]
  try simp only [iteT_eq]
  try simp only [iteF_eq]
  try simp only [iteE_eq]
  try simp only [Int.toNat_natCast, Nat.zero_add, true_and, and_true, Nat.le_refl]
  have r : ∀ k τ, RowsEq k τ y.t.N (inRows (snoc y.t.N y.t.ins in77)) (inRows (snoc y.t.N y.t.ins in77)) := fun _ _ => inRowsEq fun _ _ => rfl
  refine ⟨r _ _, hC, fun i hi _ => ⟨fun he => ⟨fun h => ?_, fun _ => ⟨r _ _, h1⟩⟩, fun h => h.elim, fun h => h⟩⟩
  rw [hne] at h; simp at h
set_option maxRecDepth 100000 in
set_option maxHeartbeats 0 in
theorem go_t2 (y : GoS) (L0 L1 : Nat → St → KE → Prop) (Z1 Z2 Z3 Z4 : Prop) (h2 : Z2) :
    roundE (E69c L0 L1) 20 9 4 0 (y.s4 2) (rdM 0 4 9 (y.s4 3) y.e4 y.e4 y.e4 Z1 Z2 Z3 Z4) := by
  refine @Eq.mpr _ (let q1 := y.o;
 let q2 := q1.num;
 let q3 := q1.N;
 let q4 := decide (q3 = q3);
 let q5 := inRows q1.ins;
 let q6 := q1.M;
 let q7 := decide (q6 = q6);
 let q8 := outRows q1.outs;
 let q9 := y.t;
 let q10 := q9.num;
 let q11 := q9.N;
 let q12 := decide (q11 = q11);
 let q13 := inRows q9.ins;
 let q14 := q9.M;
 let q15 := decide (q14 = q14);
 let q16 := outRows q9.outs;
 iteB (decide (q2 = q2)) (iteB q4 (q5 = q5 ∧ iteB q4 (iteB q7 (q8 = q8 ∧ iteB q7 (iteB (decide (q10 = q10)) (iteB q12 (q13 = q13 ∧ iteB q12 (iteB q15 (q16 = q16 ∧ iteB q15 Z2 False) False) False) False) False) False) False) False) False) False) (by kernel_rfl) ?_
  conv => zeta
  try simp only [need_eq]
  try simp only [nope_eq]
  try simp only [iteD_eq]
  try simp only [iteT_eq]
  try simp only [iteF_eq]
  try simp only [iteE_eq]
  try simp only [Int.toNat_natCast, Nat.zero_add, true_and, and_true, Nat.le_refl]
  exact h2
def goL4 (y : GoS) : Nat → St → KE → Prop := goM 0 (y.s4 0) (y.t.Ok ∧ y.t.N ≤ 30) (endsJ 4 2 9 (fun i => i < 2) (fun i => i = 2) (fun _ => False) (fun _ => False) (fun _ => y.e4) (fun _ => y.e4) (fun _ => y.e4))
theorem least {p : Nat → Prop} {n : Nat} (h : p n) : ∃ m, p m ∧ m ≤ n ∧ ∀ j, j < m → ¬ p j := by
  induction n using Nat.strongRecOn with
  | ind n ih =>
    by_cases hj : ∃ j, j < n ∧ p j
    · obtain ⟨j, hj, hp⟩ := hj
      obtain ⟨m, h1, h2, h3⟩ := ih j hj hp
      exact ⟨m, h1, by omega, h3⟩
    · exact ⟨n, h, Nat.le_refl _, fun j hj' hp => hj ⟨j, hj', hp⟩⟩
theorem wantL_last (y : GoS) : ∀ i, i ≤ y.t.N → (wantL y.t y.nm i).length = 0 ∨ ∃ j, j < i ∧ y.hit j = true ∧ (wantL y.t y.nm j).length + 1 = (wantL y.t y.nm i).length
  | 0, _ => .inl (by rw [wantL]; rfl)
  | i + 1, hi => by
    cases hh : y.hit i with
    | true => exact .inr ⟨i, by omega, hh, (wantL_hit y (by omega) hh).2.2.symm⟩
    | false =>
      rw [wantL_miss y hh]
      rcases wantL_last y i (by omega) with h | ⟨j, h1, h2, h3⟩
      · exact .inl h
      · exact .inr ⟨j, by omega, h2, h3⟩
theorem goL4_ok (y : GoS) (hl : y.nm.length = 32) : (G0.withL 9 4 (goL4 y)).Ok := by
  have h1 := goL1r_A y hl 1 (fun i _ _ h => absurd h (by decide))
  have hmid : ∀ L0 : Nat → St → KE → Prop, (G0.withL 72 0 L0).Ok → (y.t.Ok ∧ y.t.N ≤ 30 → roundE (E69c L0 (goL1r y .ready none 1 (wantL y.t y.nm y.t.N).length y.t.N (y.t.Ok ∧ y.t.N ≤ 30))) 20 9 4 0 (y.s4 0) (rdM 0 4 9 (y.s4 1) y.e4 y.e4 y.e4 ((0 : Nat) < 2 ∧ (0 : Nat) < 2) ((0 : Nat) = 2) False False)) → (G0.withL 9 4 (goL4 y)).Ok := by
    intro L0 h0 hr
    have hE : (E69c L0 (goL1r y .ready none 1 (wantL y.t y.nm y.t.N).length y.t.N (y.t.Ok ∧ y.t.N ≤ 30))).Ok := Env2.withL_or G0_ok h0 h1
    have hG : ((E69c L0 (goL1r y .ready none 1 (wantL y.t y.nm y.t.N).length y.t.N (y.t.Ok ∧ y.t.N ≤ 30))).withL 9 4 (goL4 y)).Ok := by
      unfold goL4
      refine Env2.withGoM (N := 20) (S := y.s4) hE (by kernel_rfl) fun hC => ⟨rfl, fun i hi hgo => ?_⟩
      match i, hi with
      | 0, _ => exact hr hC
      | 1, _ => exact go_t1 y L0 _ _ _ _ _ _ _ hC rfl ⟨by omega, by omega⟩
      | 2, _ => exact go_t2 y L0 _ _ _ _ _ rfl
    exact Env2.withL_join (H := (E69c L0 (goL1r y .ready none 1 (wantL y.t y.nm y.t.N).length y.t.N (y.t.Ok ∧ y.t.N ≤ 30)))) G0_ok rfl hG
  by_cases hb : ∃ J, J < y.t.N ∧ y.hit J = true ∧ ((wantL y.t y.nm J).length : Int) + 1 ≥ y.many
  · obtain ⟨J0, hJ0⟩ := hb
    obtain ⟨J, ⟨j1, j2, j3⟩, _, j4⟩ := least (p := fun J => J < y.t.N ∧ y.hit J = true ∧ ((wantL y.t y.nm J).length : Int) + 1 ≥ y.many) hJ0
    have hA : ∀ i, i < J → y.hit i = true → ((wantL y.t y.nm i).length : Int) + 1 < y.many := fun i hi hh => Int.not_le.mp fun h => j4 i hi ⟨by omega, hh, h⟩
    refine hmid _ (goL0r_B y hl J j1 j2 j3 hA) fun hC => go_t0B y _ _ _ _ _ _ _ _ hC ?_ ⟨by omega, by omega⟩
    obtain ⟨_, w2, _⟩ := wantL_hit y j1 j2
    rcases wantL_last y J (by omega) with h0 | ⟨i, i1, i2, i3⟩
    · rw [h0] at j3 ⊢
      split <;> split at * <;> omega
    · have := hA i i1 i2
      split <;> split at * <;> omega
  · have hA : ∀ i, i < y.t.N → y.hit i = true → (0 : Int) = 0 → ((wantL y.t y.nm i).length : Int) + 1 < y.many := fun i hi hh _ => Int.not_le.mp fun h => hb ⟨i, hi, hh, h⟩
    refine hmid _ (goL0r_A y hl 0 hA) fun hC => go_t0A y _ _ _ _ _ _ _ _ hC ?_ ⟨by omega, by omega⟩
    rcases wantL_last y y.t.N (Nat.le_refl _) with h0 | ⟨i, i1, i2, i3⟩
    · rw [h0]
      split <;> split at * <;> omega
    · have := hA i i1 i2 rfl
      split <;> split at * <;> omega
noncomputable def E69d (S : TxS → TxS → Bool) (y : GoS) : Env2 := (E69a S S y).withL 9 4 (goL4 y)
theorem E69d_ok (y : GoS) (hl : y.nm.length = 32) : (E69d sameT y).Ok := by
  unfold E69d E69a
  have hB : (E69 sameT sameT y.t.N (snoc y.t.N y.t.ins in77) (y.t.N < 900000000000)).Ok := Env2.withP_ok (Env2.withP_ok (Env2.withF_ok (Env2.withF_ok (Env2.withP_ok G0_ok worksS_ok) copS_ok) (cloneS_ok _ _)) sametS_ok) samer_ok
  exact Env2.withL_join (H := G0) (Env2.withL_join (H := G0) (Env2.withL_join (H := G0) hB rfl (goL0_ok y)) rfl (goL2_ok y)) rfl (goL4_ok y hl)
set_option maxRecDepth 100000 in
set_option maxHeartbeats 0 in
theorem go_1 (S : TxS → TxS → Bool) (y : GoS) (hok : y.t.N < 900000000000 → y.t.M < 900000000000 → y.t.Ok) (hoo : y.o.N < 900000000000 → y.o.M < 900000000000 → y.o.Ok) (hl : y.nm.length = 32) (hS : ∀ t : TxS, S t t = true) :
    evF (E69d S y) 20 9 [.agg y.t.c, .agg y.o.c, .agg [.arr .u8 32 y.nm], .int .i64 y.many] ⟨0, []⟩ (outV (fun v => v = .bool true)) := by
  refine @Eq.mpr _ (let q1 := y.t;
 let q2 := q1.N;
 let q3 := q1.M;
 let q4 := AV.bool true;
 let q5 := q4 = q4;
 let q6 := y.o;
 let q7 := q6.N;
 let q8 := q6.M;
 let q9 := decide (y.many = y.many);
 let q10 := y.nm;
 let q11 := q10 = q10;
 let q12 := q6.num;
 let q13 := decide (q12 = q12);
 let q14 := decide (q7 = q7);
 let q15 := q6.ins;
 let q16 := inRows q15;
 let q17 := q16 = q16;
 let q18 := decide (q8 = q8);
 let q19 := q6.outs;
 let q20 := outRows q19;
 let q21 := q20 = q20;
 let q22 := q1.num;
 let q23 := decide (q22 = q22);
 let q24 := decide (q2 = q2);
 let q25 := q1.ins;
 let q26 := inRows q25;
 let q27 := q26 = q26;
 let q28 := decide (q3 = q3);
 let q29 := q1.outs;
 let q30 := outRows q29;
 let q31 := q30 = q30;
 let q32 := TxS.Ok q1;
 let q33 := q2 ≤ 30;
 let q34 := inRows (snoc q2 q25 in77);
 let q35 := q2 + 1;
 let q36 := q3 + 1;
 let q37 := [(6, 6), (12, 12), (8, 8), (7, 7), (11, 11), (13, 13), (5, 5), (4, 4), (3, 3), (2, 2), (1, 1), (0, 0), (9, 9)];
 let q38 := decide (q2 ≤ q2);
 let q39 := wantL q1 q10 q2;
 let q40 := List.length q39;
 let q41 := AV.bool false = q4;
 let q42 := (False → q41) ∧ (False → False);
 iteB (decide ((↑q2 : Int) ≤ 30))
 (iteB (!decide ((↑q3 : Int) ≤ 30)) q5
 (iteB (decide ((↑q7 : Int) ≤ 30))
 (iteB (!decide ((↑q8 : Int) ≤ 30)) q5
 (([] : List Int) = [] ∧
 iteB q9
 (q11 ∧
 iteB q13
 (iteB q14
 (q17 ∧
 iteB q14
 (iteB q18
 (q21 ∧
 iteB q18
 (iteB q23
 (iteB q24
 (q27 ∧
 iteB q24
 (iteB q28
 (q31 ∧
 iteB q28
 ((q32 ∧ List.length q10 = 32 ∧ q33) ∧
 ∀ (i : Nat),
 let q85 := wantL q1 q10 i;
 let q86 := List.length q85;
 i ≤ q2 →
 (∀ (j : Nat), j < i → (fun (i : Nat) => i < q2) j) →
 (i = q2 →
 ∃ (t : TxS),
 let q89 := t.N;
 let q90 := t.M;
 let q91 := q89 + 1;
 let q92 := decide (q89 = q2);
 let q93 := inRows (snoc q89 t.ins in77);
 let q94 := q90 + 1;
 (t.num = q22 ∧ ((q2 = q2 ∧ q89 = q2) ∧ ∀ (i : Nat), i < q2 → q26 i = InS.c (t.ins i)) ∧ (q3 = q3 ∧ q90 = q3) ∧ ∀ (i : Nat), i < q3 → q30 i = OutS.c (t.outs i)) ∧
 (q89 ≤ 30 ∧ q90 ≤ 30) ∧
 iteB (decide (0 + q89 ≤ q91))
 ((∀ (i : Nat), i < q89 → true = true) ∧
 iteB q92
 (iteB q92
 (shiftZ 0 q93 = q34 ∧
 q2 < 900000000000 ∧
 iteB (decide (t.num = q22))
 (iteB q92
 (iteB (decide (q35 ≤ q91))
 (iteB (decide (q90 = q3))
 (iteB (decide (q36 ≤ q94))
 (iteB (decide (q91 = q35))
 (RowsEq 0 q37 q35 q34 q93 ∧
 iteB (decide (q94 = q36))
 (RowsEq 0 q37 q36 (outRows (snoc q3 q29 out77)) (outRows (snoc q90 t.outs out77)) ∧
 iteB q24
 (iteB q38
 (iteB q24
 (RowsEq 0 q37 q2 q34 q34 ∧
 q11 ∧
 q85 = q39 ∧
 iteB (decide (q86 = q40))
 (iteB (decide (q40 ≤ q86))
 (iteB q9
 (q11 ∧
 iteB q13
 (iteB q14
 (q17 ∧
 iteB q14
 (iteB q18
 (q21 ∧
 iteB q18
 (iteB q23
 (iteB q24
 (q27 ∧
 iteB q24
 (iteB q28
 (q31 ∧
 iteB q28
 ((q33 ∧ q3 ≤ 30) ∧
 ∀ (i : Nat),
 i ≤ q2 →
 (∀ (j : Nat), j < i → (fun (i : Nat) => i < q2) j) →
 (i = q2 →
 iteB q24
 (iteB q38
 (iteB q24
 (RowsEq 0 [(6, 6), (12, 12), (11, 11), (13, 13), (5, 5), (4, 4), (3, 3), (2, 2), (1, 1), (0, 0), (14, 14)] q2 q34 q34 ∧
 q11 ∧
 q39 = q39 ∧
 iteB (decide (q40 = q40))
 (iteB (decide (q40 ≤ q40))
 (iteB q9
 (q11 ∧
 iteB q13
 (iteB q14
 (q17 ∧
 iteB q14
 (iteB q18
 (q21 ∧
 iteB q18
 (iteB q23
 (iteB q24
 (q27 ∧
 iteB q24
 (iteB q28
 (q31 ∧
 iteB q28
 ((q32 ∧ q33) ∧
 ∀ (i : Nat),
 i ≤ 2 →
 (∀ (j : Nat), j < i → (fun (i : Nat) => i < 2) j) →
 (i = 2 →
 ∃ (a : TxS),
 ∃ (b : TxS),
 (a.num = q22 ∧ ((q2 = q2 ∧ a.N = q2) ∧ ∀ (i : Nat), i < q2 → q26 i = InS.c (a.ins i)) ∧ (q3 = q3 ∧ a.M = q3) ∧ ∀ (i : Nat), i < q3 → q30 i = OutS.c (a.outs i)) ∧
 (b.num = q12 ∧ ((q7 = q7 ∧ b.N = q7) ∧ ∀ (i : Nat), i < q7 → q16 i = InS.c (b.ins i)) ∧ (q8 = q8 ∧ b.M = q8) ∧ ∀ (i : Nat), i < q8 → q20 i = OutS.c (b.outs i)) ∧
 (TxS.Ok a ∧ TxS.Ok b) ∧ ∃ (a_1 : TxS), ∃ (b_1 : TxS), (a_1.num = q22 ∧ ((q2 = q2 ∧ a_1.N = q2) ∧ ∀ (i : Nat), i < q2 → q26 i = InS.c (a_1.ins i)) ∧ (q3 = q3 ∧ a_1.M = q3) ∧ ∀ (i : Nat), i < q3 → q30 i = OutS.c (a_1.outs i)) ∧ (b_1.num = q12 ∧ ((q7 = q7 ∧ b_1.N = q7) ∧ ∀ (i : Nat), i < q7 → q16 i = InS.c (b_1.ins i)) ∧ (q8 = q8 ∧ b_1.M = q8) ∧ ∀ (i : Nat), i < q8 → q20 i = OutS.c (b_1.outs i)) ∧ (TxS.Ok a_1 ∧ TxS.Ok b_1) ∧ iteB (S a b == S a_1 b_1) (∃ (a : TxS), ∃ (b : TxS), (a.num = q22 ∧ ((q2 = q2 ∧ a.N = q2) ∧ ∀ (i : Nat), i < q2 → q26 i = InS.c (a.ins i)) ∧ (q3 = q3 ∧ a.M = q3) ∧ ∀ (i : Nat), i < q3 → q30 i = OutS.c (a.outs i)) ∧ (b.num = q22 ∧ ((q2 = q2 ∧ b.N = q2) ∧ ∀ (i : Nat), i < q2 → q26 i = InS.c (b.ins i)) ∧ (q3 = q3 ∧ b.M = q3) ∧ ∀ (i : Nat), i < q3 → q30 i = OutS.c (b.outs i)) ∧ (TxS.Ok a ∧ TxS.Ok b) ∧ iteB (S a b) q5 q41) q41) ∧
 q42)
 False)
 False)
 False)
 False)
 False)
 False)
 False)
 False)
 False)
 False)
 False)
 False)
 False)
 False)
 False)
 False) ∧
 q42)
 False)
 False)
 False)
 False)
 False)
 False)
 False)
 False)
 False)
 False)
 False)
 False)
 False)
 False)
 False)
 False)
 False)
 False)
 False)
 False)
 False)
 False)
 False)
 False)
 False)
 False) ∧
 q42)
 False)
 False)
 False)
 False)
 False)
 False)
 False)
 False)
 False)
 False)
 False))
 q5))
 q5) (by kernel_rfl) ?_
  conv => zeta
  try simp only [need_eq]
  try simp only [nope_eq]
  try simp only [iteD_eq]
  try simp only [iteT_eq]
  try simp only [iteF_eq]
  try simp only [iteE_eq]
  try simp only [Int.toNat_natCast, Nat.zero_add, true_and, and_true, Nat.le_refl]
  refine ⟨fun h1 => ⟨fun _ => trivial, fun h2 => ⟨fun h3 => ⟨fun _ => trivial, fun h4 => ?_⟩, fun _ => trivial⟩⟩, fun _ => trivial⟩
  have m1 : y.t.M ≤ 30 := by simp at h2; omega
  have m2 : y.o.M ≤ 30 := by simp at h4; omega
  have ht := hok (by omega) (by omega)
  have ho := hoo (by omega) (by omega)
  have r1 : ∀ k τ, RowsEq k τ y.t.N (inRows (snoc y.t.N y.t.ins in77)) (inRows (snoc y.t.N y.t.ins in77)) := fun _ _ => inRowsEq fun _ _ => rfl
  have r2 : ∀ k τ, RowsEq k τ (y.t.N + 1) (inRows (snoc y.t.N y.t.ins in77)) (inRows (snoc y.t.N y.t.ins in77)) := fun _ _ => inRowsEq fun _ _ => rfl
  have r3 : ∀ k τ, RowsEq k τ (y.t.M + 1) (outRows (snoc y.t.M y.t.outs out77)) (outRows (snoc y.t.M y.t.outs out77)) := fun _ _ => outRowsEq fun _ _ => rfl
  have hs := hS y.t
  have hs2 : ∀ b : Bool, (b == b) = true := fun b => by cases b <;> rfl
  clear hok hoo h2 h4
  repeat' (first | (refine And.intro ?_ ?_) | intro _ | (refine ⟨y.t, y.o, ⟨rfl, ⟨rfl, fun _ _ => rfl⟩, rfl, fun _ _ => rfl⟩, ⟨rfl, ⟨rfl, fun _ _ => rfl⟩, rfl, fun _ _ => rfl⟩, ⟨ht, ho⟩, ?_⟩) | (refine ⟨y.t, y.t, ⟨rfl, ⟨rfl, fun _ _ => rfl⟩, rfl, fun _ _ => rfl⟩, ⟨rfl, ⟨rfl, fun _ _ => rfl⟩, rfl, fun _ _ => rfl⟩, ⟨ht, ht⟩, ?_⟩) | (refine Exists.intro y.t ?_) | fail)
  all_goals first | exact r1 _ _ | exact r2 _ _ | exact r3 _ _ | rfl | omega | trivial | assumption | (subst_vars; first | rfl | exact Nat.le_refl _) | (simp_all; done) | skip
  all_goals (trace_state; sorry)
end Go.Tk
end
section
namespace Go.Tk
theorem fits_hash {a : AV} (h : FitsA true [.arr .u8 32] a) : ∃ xs : List Int, a = .agg [.arr .u8 32 xs] ∧ xs.length = 32 ∧ Bytes xs := by
  cases h with | agg _ u h =>
  cases h with | cons _ a _ u h1 h =>
  cases h; cases h1
  rename_i xs l w
  exact ⟨xs, by simp, l, bytes_of l w⟩
theorem txgoes_walk {us : List AV} (h : FitsL [(true, txTy), (true, txTy), (true, [.arr .u8 32]), (false, [.int .i64])] us) : CallsA PP 9 us ⟨0, []⟩ fun o h' => ∃ v, o = .ret v ∧ h' = ⟨0, []⟩ ∧ v = .bool true := by
  cases h with | cons _ _ a1 _ _ h1 h =>
  cases h with | cons _ _ a2 _ _ h2 h =>
  cases h with | cons _ _ a3 _ _ h3 h =>
  cases h with | cons _ _ a4 _ _ h4 h =>
  cases h
  obtain ⟨l, t, rfl, t1, t2, t3⟩ := fits_tx h1
  obtain ⟨l', o, rfl, o1, o2, o3⟩ := fits_tx h2
  obtain ⟨nm, rfl, k1, k2⟩ := fits_hash h3
  cases h4 with | one _ _ h4 =>
  cases h4 with | int _ many w4 =>
  have hc := outV_ev (h := ⟨0, []⟩) (E69d_ok (GoS.mk t o nm many) k1) rfl (go_1 sameT (GoS.mk t o nm many) t2 o2 k1 sameT_refl) (fun u hu => hu)
  exact CallsA.conv hc fun E rs hr => hr.head (fun _ hc => t1.rel hc) (fun _ hr => hr.head (fun _ hc => o1.rel hc) (fun _ hc => hc))
end Go.Tk
namespace Go.Proofs.YtmfcmlajhaedgaaGreat.txGoes
open Go.ChangeShapes Go.WideShapes Go.ChangeAt Go.RowKit
theorem own : ownKnob Tryz.prog.godebug = none := by kernel_rfl
theorem laidOut : laidOutB Tryz.prog = true := by kernel_rfl
set_option maxRecDepth 100000 in
theorem lifted (os : Os) (started : os.Started) (H : Type) (enc : TypeId × Value → H) :
    ReturnsInHanded {} Tryz.checked os 9 .any (Rows.txGoesSpec.pre6 enc Tryz.prog Tryz.f9 Rows.txGoesRow.domain false) (Rows.txGoesSpec.post enc Tryz.prog Tryz.f9 false true false false) :=
  Go.Tk.lifted_gen (C := Tryz.checked) (m := 8) (τs := [(true, Go.Tk.txTy), (true, Go.Tk.txTy), (true, [.arr .u8 32]), (false, [.int .i64])]) own laidOut started (by kernel_rfl) Tryz.func9
    (ChangeSpec.witness6 (enc := enc) (C := Tryz.checked) false ⟨#[], #[.agg #[.int .i64 0, .slice none 0 0, .slice none 0 0], .agg #[.int .i64 0, .slice none 0 0, .slice none 0 0], .agg (Array.replicate 32 (.int .u8 0)), .int .i64 0], []⟩ 8 (by kernel_rfl) (by kernel_rfl) (by kernel_rfl) (by kernel_rfl))
    rfl (tb := 4) rfl Tryz.underlying4 (by kernel_rfl) (by kernel_rfl) (fun ds h => by
      match ds, h with
      | [a, b, c, d], _ => rfl) fun us h => Go.Tk.txgoes_walk h
theorem over : Rows.txGoesRow.holds Tryz.pinned (OpenSpec.ofChange Rows.txGoesSpec) :=
  OpenClaim.holds_of_wide 9 Tryz.f9 rfl rfl rfl rfl rfl rfl rfl ⟨rfl, rfl, rfl, rfl, rfl⟩ rfl rfl rfl rfl rfl (by kernel_rfl) Tryz.func9 (by kernel_rfl)
    (of_decide_eq_true (by kernel_rfl)) (by unfold Func.isWrapper; first | (rw [if_pos (by decide +kernel)]; kernel_rfl) | (rw [if_neg (by decide +kernel)]; exact ⟨rfl, rfl⟩))
    (fun os started H enc _ => lifted os started H enc)
theorem proved : Rows.TxGoesSaid := over
end Go.Proofs.YtmfcmlajhaedgaaGreat.txGoes
end
