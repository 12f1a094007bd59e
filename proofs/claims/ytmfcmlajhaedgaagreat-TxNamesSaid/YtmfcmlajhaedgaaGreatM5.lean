/- M: part 5 of an engine (a symbolic evaluator, proved against the model) and of the walk by it. -/
import Derived.Test.YtmfcmlajhaedgaaGreatM4
set_option linter.unusedVariables false
set_option linter.unusedSimpArgs false
section
namespace Go.Tk
noncomputable def E24 (F : List Int → Int × Int) (A : List Int → Int × Int) : Env2 := ((((G0.withF 37 (rnumS F)).withF 38 rhashS).withF 42 rendS).withF 75 clonebS).withP 30 (ckS A)
theorem E24_ok : (E24 (firstB numW) addM).Ok := Env2.withP_ok (Env2.withF_ok (Env2.withF_ok (Env2.withF_ok (Env2.withF_ok G0_ok rnumS_ok) rhashS_ok) rendS_ok) clonebS_ok) ckS_ok
def rdHif (b : Bool) (xs : List Int) (o : Nat) : Option (List Int × Nat) := match b with | true => rdH xs o | false => some (zero32, o)
def rdNif (b : Bool) (F : List Int → Int × Int) (xs : List Int) (o : Nat) (most : Int) : Option (Int × Nat) := match b with | true => rdN F xs o most | false => some (0, o)
def rdIn (F : List Int → Int × Int) (xs : List Int) (o : Nat) : Option (InS × Nat) :=
  (rdH xs o).bind fun a => (rdN F xs a.2 23).bind fun b => (rdN F xs b.2 6).bind fun c =>
  (rdHif (decide (c.1 = 1 ∨ c.1 = 2 ∨ c.1 = 3 ∨ c.1 = 5 ∨ c.1 = 6)) xs c.2).bind fun d => (rdHif (decide (c.1 = 1)) xs d.2).bind fun e => (rdHif (decide (c.1 = 4 ∨ c.1 = 5)) xs e.2).bind fun f =>
  some (⟨a.1, b.1, c.1, d.1, e.1, f.1⟩, f.2)
def rdOut (F : List Int → Int × Int) (xs : List Int) (o : Nat) : Option (OutS × Nat) :=
  (rdN F xs o 5).bind fun a => (rdN F xs a.2 1125899906842624).bind fun b =>
  (rdHif (decide (a.1 = 1 ∨ a.1 = 2 ∨ a.1 = 3 ∨ a.1 = 4 ∨ a.1 = 5)) xs b.2).bind fun c => (rdHif (decide (a.1 = 2 ∨ a.1 = 4 ∨ a.1 = 5)) xs c.2).bind fun d => (rdHif (decide (a.1 = 3 ∨ a.1 = 4 ∨ a.1 = 5)) xs d.2).bind fun e => (rdHif (decide (a.1 = 4 ∨ a.1 = 5)) xs e.2).bind fun f =>
  (rdNif (decide (a.1 = 3 ∨ a.1 = 4 ∨ a.1 = 5)) F xs f.2 2147483647).bind fun g => (rdNif (decide (a.1 = 4 ∨ a.1 = 5)) F xs g.2 2147483647).bind fun h =>
  some (⟨a.1, b.1, c.1, d.1, e.1, f.1, g.1, h.1⟩, h.2)
def paS1 (nu cnt : Int) (xs : List Int) (i : Nat) (o n : Nat) (g : Nat → InS) : St := ⟨91, [(20, .int .i64 i), (19, .int .i64 cnt), (4, .ptr (some ⟨4, 0, 0, 0, 0⟩)), (2, .ptr (some ⟨0, 0, 0, 0, 0⟩)), (3, .ptr (some ⟨1, 0, 0, 0, 0⟩))],
  ⟨6, [(0, .flat [.int .i64 nu, .nslice ⟨5, 0, 130, 0, 0⟩ 130 i i, .nilslice]), (1, .flat [.int .i64 0]), (2, .ints .u8 xs), (3, .flat [.nslice ⟨2, 0, 0, 0, o⟩ 1 n n, .bool true, .bool false]), (4, .flat [.ptr (some ⟨3, 0, 0, 0, 0⟩)]), (5, .rows 130 i (inRows g))]⟩, [.call 35 [.ptr (some ⟨0, 0, 0, 0, 0⟩), .ptr (some ⟨1, 0, 0, 0, 0⟩)]]⟩
def paE1 (nu : Int) (xs : List Int) (i : Nat) (o n : Nat) (g : Nat → InS) : St := ⟨91, [(4, .ptr (some ⟨4, 0, 0, 0, 0⟩)), (2, .ptr (some ⟨0, 0, 0, 0, 0⟩)), (3, .ptr (some ⟨1, 0, 0, 0, 0⟩))],
  ⟨6, [(0, .flat [.int .i64 nu, .nslice ⟨5, 0, 130, 0, 0⟩ 130 i i, .nilslice]), (1, .flat [.int .i64 0]), (2, .ints .u8 xs), (3, .flat [.nslice ⟨2, 0, 0, 0, o⟩ 1 n n, .bool true, .bool false]), (4, .flat [.ptr (some ⟨3, 0, 0, 0, 0⟩)]), (5, .rows 130 i (inRows g))]⟩, [.call 35 [.ptr (some ⟨0, 0, 0, 0, 0⟩), .ptr (some ⟨1, 0, 0, 0, 0⟩)]]⟩
def paP : St := ⟨91, [(2, .ptr (some ⟨0, 0, 0, 0, 0⟩)), (3, .ptr (some ⟨1, 0, 0, 0, 0⟩))], ⟨2, [(0, .flat [.top, .top, .top]), (1, .flat [.top])]⟩, [.call 35 [.ptr (some ⟨0, 0, 0, 0, 0⟩), .ptr (some ⟨1, 0, 0, 0, 0⟩)]]⟩
def pvTx : AV := .iface 28 (.int .i64 170)
theorem catIn {i : Nat} {g : Nat → InS} {x : InS} {q : Nat} (hq : q < i + 1) : catF i (inRows g) (rowC x.c 0 130) q = (if q = i then x else g q).c := by
  by_cases h : q = i
  · subst h; rw [catF_ge (Nat.le_refl _), Nat.sub_self, if_pos rfl]; rfl
  · rw [catF_lt (by omega), if_neg h]; rfl
theorem catOut {i : Nat} {g : Nat → OutS} {x : OutS} {q : Nat} (hq : q < i + 1) : catF i (outRows g) (rowC x.c 0 132) q = (if q = i then x else g q).c := by
  by_cases h : q = i
  · subst h; rw [catF_ge (Nat.le_refl _), Nat.sub_self, if_pos rfl]; rfl
  · rw [catF_lt (by omega), if_neg h]; rfl
set_option maxRecDepth 100000 in
set_option maxHeartbeats 0 in
theorem pin_1 (F : List Int → Int × Int) (A : List Int → Int × Int) (nu cnt : Int) (xs : List Int) (i o n o' n' : Nat) (g g' : Nat → InS) (Z1 Z2 Z5 : Prop) (hn : n = xs.length - o) (ho : o ≤ xs.length) (hi : i ≤ 24 ∧ cnt ≤ 24) (h2 : ¬ (i : Int) < cnt → Z2) (h5 : (i : Int) < cnt → rdIn F xs o = none → Z5) (h1 : (i : Int) < cnt → ∀ x p, rdIn F xs o = some (x, p) → (o' = p ∧ n' = xs.length - p ∧ ∀ q, g' q = if q = i then x else g q) ∧ Z1) :
    roundE (E24 F A) 20 11 0 0 (paS1 nu cnt xs i o n g) (rdP 0 0 9 pvTx (paS1 nu cnt xs (i + 1) o' n' g') (paE1 nu xs i o n g) paP paP paP Z1 Z2 False False Z5) := by
  refine @Eq.mpr _ (let q1 := List.length xs;
 let q2 := decide (i = i);
 let q3 := i + 1;
 let q4 := decide (q3 * 144 ≤ 140737488355328);
 let q5 := decide (IntKind.wrap IntKind.i64 (↑i + 1) = ↑q3);
 let q6 := decide (cnt = cnt);
 let q7 := decide (nu = nu);
 let q8 := decide (q3 = q3);
 let q9 := decide (q3 ≤ q3);
 let q10 := (2, 2);
 let q11 := (3, 3);
 let q12 := [(1, 1), (0, 0), (4, 4)];
 let q13 := q10 :: q11 :: (5, 28) :: q12;
 let q14 := inRows g';
 let q15 := inRows g;
 let q16 := AV.arr IntKind.u8 32 zero32;
 let q17 := [q16];
 let q18 := q10 :: q11 :: (5, 26) :: q12;
 let q19 := q16 :: q17;
 iteB (decide (↑i < cnt))
 (iteB (decide (n = q1 - o ∧ o ≤ q1 ∧ n = q1 - o))
 ((∀ (hh : List Int),
 let q39 := AV.arr IntKind.u8 32 hh;
 ∀ (o'_1 : Nat),
 let q41 := rdN F xs o'_1 23;
 rdH xs o = some (hh, o'_1) →
 o ≤ o'_1 ∧ o'_1 ≤ q1 ∧ List.length hh = 32 →
 iteB (decide (q1 - o'_1 = q1 - o'_1 ∧ o'_1 ≤ q1 ∧ q1 - o'_1 = q1 - o'_1 ∧ (0 : Int) ≤ 23))
 ((∀ (v : Int),
 let q43 := AV.int IntKind.i64 v;
 ∀ (o'_2 : Nat),
 let q45 := rdN F xs o'_2 6;
 q41 = some (v, o'_2) →
 o'_1 ≤ o'_2 ∧ o'_2 ≤ q1 ∧ v ≤ 23 →
 iteB (decide (q1 - o'_2 = q1 - o'_2 ∧ o'_2 ≤ q1 ∧ q1 - o'_2 = q1 - o'_2 ∧ (0 : Int) ≤ 6))
 ((∀ (v : Int),
 let q47 := AV.int IntKind.i64 v;
 ∀ (o'_3 : Nat),
 let q49 := q1 - o'_3;
 let q50 := decide (q49 = q49 ∧ o'_3 ≤ q1 ∧ q49 = q49);
 let q51 := iteB q50 ((∀ (hh : List Int) (o'_4 : Nat), rdH xs o'_3 = some (hh, o'_4) → o'_3 ≤ o'_4 ∧ o'_4 ≤ q1 ∧ List.length hh = 32 → iteB q2 (iteB q4 (iteB q5 (iteB q6 (iteB q7 (iteB q8 (iteB q9 (xs = xs ∧ iteB (decide (o'_4 = o')) (iteB (decide (q1 - o'_4 = n')) (iteB (decide (n' ≤ q1 - o'_4)) (iteB q8 (RowsEq 0 q18 q3 q14 (catF i q15 (rowC (q39 :: q43 :: q47 :: AV.arr IntKind.u8 32 hh :: q19) 0 130)) ∧ Z1) False) False) False) False) False) False) False) False) False) False) False) ∧ (rdH xs o'_3 = none → Z5)) False;
 q45 = some (v, o'_3) →
 o'_2 ≤ o'_3 ∧ o'_3 ≤ q1 ∧ v ≤ 6 →
 iteB (decide (v = v))
 (iteB (decide (v = 1)) (iteB q50 ((∀ (hh : List Int) (o'_4 : Nat), rdH xs o'_3 = some (hh, o'_4) → o'_3 ≤ o'_4 ∧ o'_4 ≤ q1 ∧ List.length hh = 32 → iteB (decide (q1 - o'_4 = q1 - o'_4 ∧ o'_4 ≤ q1 ∧ q1 - o'_4 = q1 - o'_4)) ((∀ (hh_1 : List Int) (o'_5 : Nat), rdH xs o'_4 = some (hh_1, o'_5) → o'_4 ≤ o'_5 ∧ o'_5 ≤ q1 ∧ List.length hh_1 = 32 → iteB q2 (iteB q4 (iteB q5 (iteB q6 (iteB q7 (iteB q8 (iteB q9 (xs = xs ∧ iteB (decide (o'_5 = o')) (iteB (decide (q1 - o'_5 = n')) (iteB (decide (n' ≤ q1 - o'_5)) (iteB q8 (RowsEq 0 q13 q3 q14 (catF i q15 (rowC (q39 :: q43 :: q47 :: AV.arr IntKind.u8 32 hh :: AV.arr IntKind.u8 32 hh_1 :: q17) 0 130)) ∧ Z1) False) False) False) False) False) False) False) False) False) False) False) ∧ (rdH xs o'_4 = none → Z5)) False) ∧ (rdH xs o'_3 = none → Z5)) False)
 (iteB (decide (v = 2)) q51
 (iteB (decide (v = 3)) q51
 (iteB (decide (v = 4)) (iteB q50 ((∀ (hh : List Int) (o'_4 : Nat), rdH xs o'_3 = some (hh, o'_4) → o'_3 ≤ o'_4 ∧ o'_4 ≤ q1 ∧ List.length hh = 32 → iteB q2 (iteB q4 (iteB q5 (iteB q6 (iteB q7 (iteB q8 (iteB q9 (xs = xs ∧ iteB (decide (o'_4 = o')) (iteB (decide (q1 - o'_4 = n')) (iteB (decide (n' ≤ q1 - o'_4)) (iteB q8 (RowsEq 0 q18 q3 q14 (catF i q15 (rowC [q39, q43, q47, q16, q16, AV.arr IntKind.u8 32 hh] 0 130)) ∧ Z1) False) False) False) False) False) False) False) False) False) False) False) ∧ (rdH xs o'_3 = none → Z5)) False)
 (iteB (decide (v = 5)) (iteB q50 ((∀ (hh : List Int) (o'_4 : Nat), rdH xs o'_3 = some (hh, o'_4) → o'_3 ≤ o'_4 ∧ o'_4 ≤ q1 ∧ List.length hh = 32 → iteB (decide (q1 - o'_4 = q1 - o'_4 ∧ o'_4 ≤ q1 ∧ q1 - o'_4 = q1 - o'_4)) ((∀ (hh_1 : List Int) (o'_5 : Nat), rdH xs o'_4 = some (hh_1, o'_5) → o'_4 ≤ o'_5 ∧ o'_5 ≤ q1 ∧ List.length hh_1 = 32 → iteB q2 (iteB q4 (iteB q5 (iteB q6 (iteB q7 (iteB q8 (iteB q9 (xs = xs ∧ iteB (decide (o'_5 = o')) (iteB (decide (q1 - o'_5 = n')) (iteB (decide (n' ≤ q1 - o'_5)) (iteB q8 (RowsEq 0 q13 q3 q14 (catF i q15 (rowC [q39, q43, q47, AV.arr IntKind.u8 32 hh, q16, AV.arr IntKind.u8 32 hh_1] 0 130)) ∧ Z1) False) False) False) False) False) False) False) False) False) False) False) ∧ (rdH xs o'_4 = none → Z5)) False) ∧ (rdH xs o'_3 = none → Z5)) False)
 (iteB (decide (v = 6)) q51 (iteB q2 (iteB q4 (iteB q5 (iteB q6 (iteB q7 (iteB q8 (iteB q9 (xs = xs ∧ iteB (decide (o'_3 = o')) (iteB (decide (q49 = n')) (iteB (decide (n' ≤ q49)) (iteB q8 (RowsEq 0 (q10 :: q11 :: (5, 24) :: q12) q3 q14 (catF i q15 (rowC (q39 :: q43 :: q47 :: q16 :: q19) 0 130)) ∧ Z1) False) False) False) False) False) False) False) False) False) False) False)))))))
 False) ∧
 (q45 = none → Z5))
 False) ∧
 (q41 = none → Z5))
 False) ∧
 (rdH xs o = none → Z5))
 False)
 (iteB q7 (iteB q2 (iteB (decide (i ≤ i)) (xs = xs ∧ iteB (decide (o = o)) (iteB (decide (n = n)) (iteB (decide (n ≤ n)) (iteB q2 (RowsEq 0 (q10 :: q11 :: (5, 5) :: q12) i q15 q15 ∧ Z2) False) False) False) False) False) False) False)) (by kernel_rfl) ?_
  conv => zeta
  try simp only [need_eq]
  try simp only [nope_eq]
  try simp only [iteD_eq]
  try simp only [iteT_eq]
  try simp only [iteF_eq]
  try simp only [iteE_eq]
  try simp only [Int.toNat_natCast, Nat.zero_add, true_and, and_true, Nat.le_refl]
  subst hn
  have hself : RowsEq 0 [(2, 2), (3, 3), (5, 5), (1, 1), (0, 0), (4, 4)] i (inRows g) (inRows g) := inRowsEq fun _ _ => rfl
  refine ⟨fun hlt => ?_, fun hge => by simp [hself, h2 hge]⟩
  have h5 := h5 hlt
  have h1 := h1 hlt
  have hw : IntKind.i64.wrap ((i : Int) + 1) = ((i + 1 : Nat) : Int) := w64 (by omega)
  simp only [hw]
  clear hw hself h2
  cases h : rdIn F xs o with
  | none =>
    have h5 := h5 h
    clear h1
    repeat' (first | (refine And.intro ?_ ?_) | intro _)
    all_goals first | omega | exact h5 | trivial | skip
    all_goals (exfalso; simp [rdIn, rdHif, *] at h)
  | some xp =>
    obtain ⟨x, p⟩ := xp
    obtain ⟨⟨rfl, rfl, hg⟩, hZ⟩ := h1 x p h
    clear h1 h5
    repeat' (first | (refine And.intro ?_ ?_) | intro _)
    all_goals first | omega | exact hZ | trivial | skip
    all_goals (simp [rdIn, rdHif, *] at h)
    all_goals (obtain ⟨rfl, rfl⟩ := h)
    all_goals first | rfl | exact Nat.le_refl _ | skip
    all_goals (refine inRowsEq fun q hq => ?_; rw [hg]; (try simp only [*]); exact catIn (x := ⟨_, _, _, _, _, _⟩) hq)
def paS2 (nu cnt : Int) (xs : List Int) (N : Nat) (f : Nat → InS) (i : Nat) (o n : Nat) (g : Nat → OutS) : St := ⟨91, [(52, .int .i64 i), (51, .int .i64 cnt), (4, .ptr (some ⟨4, 0, 0, 0, 0⟩)), (2, .ptr (some ⟨0, 0, 0, 0, 0⟩)), (3, .ptr (some ⟨1, 0, 0, 0, 0⟩))],
  ⟨7, [(0, .flat [.int .i64 nu, .nslice ⟨5, 0, 130, 0, 0⟩ 130 N N, .nslice ⟨6, 0, 132, 0, 0⟩ 132 i i]), (1, .flat [.int .i64 0]), (2, .ints .u8 xs), (3, .flat [.nslice ⟨2, 0, 0, 0, o⟩ 1 n n, .bool true, .bool false]), (4, .flat [.ptr (some ⟨3, 0, 0, 0, 0⟩)]), (5, .rows 130 N (inRows f)), (6, .rows 132 i (outRows g))]⟩, [.call 35 [.ptr (some ⟨0, 0, 0, 0, 0⟩), .ptr (some ⟨1, 0, 0, 0, 0⟩)]]⟩
def paE2 (nu : Int) (xs : List Int) (N : Nat) (f : Nat → InS) (i : Nat) (o n : Nat) (g : Nat → OutS) : St := ⟨91, [(4, .ptr (some ⟨4, 0, 0, 0, 0⟩)), (2, .ptr (some ⟨0, 0, 0, 0, 0⟩)), (3, .ptr (some ⟨1, 0, 0, 0, 0⟩))],
  ⟨7, [(0, .flat [.int .i64 nu, .nslice ⟨5, 0, 130, 0, 0⟩ 130 N N, .nslice ⟨6, 0, 132, 0, 0⟩ 132 i i]), (1, .flat [.int .i64 0]), (2, .ints .u8 xs), (3, .flat [.nslice ⟨2, 0, 0, 0, o⟩ 1 n n, .bool true, .bool false]), (4, .flat [.ptr (some ⟨3, 0, 0, 0, 0⟩)]), (5, .rows 130 N (inRows f)), (6, .rows 132 i (outRows g))]⟩, [.call 35 [.ptr (some ⟨0, 0, 0, 0, 0⟩), .ptr (some ⟨1, 0, 0, 0, 0⟩)]]⟩
set_option maxRecDepth 100000 in
set_option maxHeartbeats 0 in
theorem pout_1 (F : List Int → Int × Int) (A : List Int → Int × Int) (nu cnt : Int) (xs : List Int) (N : Nat) (f : Nat → InS) (i o n o' n' : Nat) (g g' : Nat → OutS) (Z1 Z2 Z5 : Prop) (hn : n = xs.length - o) (ho : o ≤ xs.length) (hi : i ≤ 24 ∧ cnt ≤ 24) (h2 : ¬ (i : Int) < cnt → Z2) (h5 : (i : Int) < cnt → rdOut F xs o = none → Z5) (h1 : (i : Int) < cnt → ∀ x p, rdOut F xs o = some (x, p) → (o' = p ∧ n' = xs.length - p ∧ ∀ q, g' q = if q = i then x else g q) ∧ Z1) :
    roundE (E24 F A) 20 11 4 0 (paS2 nu cnt xs N f i o n g) (rdP 0 4 9 pvTx (paS2 nu cnt xs N f (i + 1) o' n' g') (paE2 nu xs N f i o n g) paP paP paP Z1 Z2 False False Z5) := by
  refine @Eq.mpr _ (iteB (decide ((↑i : Int) < cnt))
 (iteB (decide (n = List.length xs - o ∧ o ≤ List.length xs ∧ n = List.length xs - o ∧ (0 : Int) ≤ 5))
 ((∀ (v : Int) (o'_1 : Nat),
 rdN F xs o 5 = some (v, o'_1) →
 o ≤ o'_1 ∧ o'_1 ≤ List.length xs ∧ v ≤ 5 →
 iteB (decide (List.length xs - o'_1 = List.length xs - o'_1 ∧ o'_1 ≤ List.length xs ∧ List.length xs - o'_1 = List.length xs - o'_1 ∧ (0 : Int) ≤ 1125899906842624))
 ((∀ (v_1 : Int) (o'_2 : Nat),
 rdN F xs o'_1 1125899906842624 = some (v_1, o'_2) →
 o'_1 ≤ o'_2 ∧ o'_2 ≤ List.length xs ∧ v_1 ≤ 1125899906842624 →
 iteB (decide (v = v))
 (iteB (decide (v = 1))
 (iteB (decide (List.length xs - o'_2 = List.length xs - o'_2 ∧ o'_2 ≤ List.length xs ∧ List.length xs - o'_2 = List.length xs - o'_2))
 ((∀ (hh : List Int) (o'_3 : Nat),
 rdH xs o'_2 = some (hh, o'_3) →
 o'_2 ≤ o'_3 ∧ o'_3 ≤ List.length xs ∧ List.length hh = 32 →
 iteB (decide (i = i))
 (iteB (decide ((i + 1) * 160 ≤ 140737488355328)) (iteB (decide (IntKind.wrap IntKind.i64 ((↑i : Int) + 1) = (↑(i + 1) : Int))) (iteB (decide (cnt = cnt)) (iteB (decide (nu = nu)) (iteB (decide (N = N)) (iteB (decide (N ≤ N)) (iteB (decide (i + 1 = i + 1)) (iteB (decide (i + 1 ≤ i + 1)) (xs = xs ∧ iteB (decide (o'_3 = o')) (iteB (decide (List.length xs - o'_3 = n')) (iteB (decide (n' ≤ List.length xs - o'_3)) (iteB (decide (N = N)) (RowsEq 0 [(2, 2), (3, 3), (6, 34), (5, 5), (1, 1), (0, 0), (4, 4)] N (inRows f) (inRows f) ∧ iteB (decide (i + 1 = i + 1)) (RowsEq 0 [(2, 2), (3, 3), (6, 34), (5, 5), (1, 1), (0, 0), (4, 4)] (i + 1) (outRows g') (catF i (outRows g) (rowC [AV.int IntKind.i64 v, AV.int IntKind.i64 v_1, AV.arr IntKind.u8 32 hh, AV.arr IntKind.u8 32 zero32, AV.arr IntKind.u8 32 zero32, AV.arr IntKind.u8 32 zero32, AV.int IntKind.i64 0, AV.int IntKind.i64 0] 0 132)) ∧ Z1) False) False) False) False) False) False) False) False) False) False) False) False) False) False) ∧
 (rdH xs o'_2 = none → Z5))
 False)
 (iteB (decide (v = 2))
 (iteB (decide (List.length xs - o'_2 = List.length xs - o'_2 ∧ o'_2 ≤ List.length xs ∧ List.length xs - o'_2 = List.length xs - o'_2))
 ((∀ (hh : List Int) (o'_3 : Nat),
 rdH xs o'_2 = some (hh, o'_3) →
 o'_2 ≤ o'_3 ∧ o'_3 ≤ List.length xs ∧ List.length hh = 32 →
 iteB (decide (List.length xs - o'_3 = List.length xs - o'_3 ∧ o'_3 ≤ List.length xs ∧ List.length xs - o'_3 = List.length xs - o'_3))
 ((∀ (hh_1 : List Int) (o'_4 : Nat),
 rdH xs o'_3 = some (hh_1, o'_4) →
 o'_3 ≤ o'_4 ∧ o'_4 ≤ List.length xs ∧ List.length hh_1 = 32 →
 iteB (decide (i = i))
 (iteB (decide ((i + 1) * 160 ≤ 140737488355328)) (iteB (decide (IntKind.wrap IntKind.i64 ((↑i : Int) + 1) = (↑(i + 1) : Int))) (iteB (decide (cnt = cnt)) (iteB (decide (nu = nu)) (iteB (decide (N = N)) (iteB (decide (N ≤ N)) (iteB (decide (i + 1 = i + 1)) (iteB (decide (i + 1 ≤ i + 1)) (xs = xs ∧ iteB (decide (o'_4 = o')) (iteB (decide (List.length xs - o'_4 = n')) (iteB (decide (n' ≤ List.length xs - o'_4)) (iteB (decide (N = N)) (RowsEq 0 [(2, 2), (3, 3), (6, 36), (5, 5), (1, 1), (0, 0), (4, 4)] N (inRows f) (inRows f) ∧ iteB (decide (i + 1 = i + 1)) (RowsEq 0 [(2, 2), (3, 3), (6, 36), (5, 5), (1, 1), (0, 0), (4, 4)] (i + 1) (outRows g') (catF i (outRows g) (rowC [AV.int IntKind.i64 v, AV.int IntKind.i64 v_1, AV.arr IntKind.u8 32 hh, AV.arr IntKind.u8 32 hh_1, AV.arr IntKind.u8 32 zero32, AV.arr IntKind.u8 32 zero32, AV.int IntKind.i64 0, AV.int IntKind.i64 0] 0 132)) ∧ Z1) False) False) False) False) False) False) False) False) False) False) False) False) False) False) ∧
 (rdH xs o'_3 = none → Z5))
 False) ∧
 (rdH xs o'_2 = none → Z5))
 False)
 (iteB (decide (v = 3))
 (iteB (decide (List.length xs - o'_2 = List.length xs - o'_2 ∧ o'_2 ≤ List.length xs ∧ List.length xs - o'_2 = List.length xs - o'_2))
 ((∀ (hh : List Int) (o'_3 : Nat),
 rdH xs o'_2 = some (hh, o'_3) →
 o'_2 ≤ o'_3 ∧ o'_3 ≤ List.length xs ∧ List.length hh = 32 →
 iteB (decide (List.length xs - o'_3 = List.length xs - o'_3 ∧ o'_3 ≤ List.length xs ∧ List.length xs - o'_3 = List.length xs - o'_3))
 ((∀ (hh_1 : List Int) (o'_4 : Nat),
 rdH xs o'_3 = some (hh_1, o'_4) →
 o'_3 ≤ o'_4 ∧ o'_4 ≤ List.length xs ∧ List.length hh_1 = 32 →
 iteB (decide (List.length xs - o'_4 = List.length xs - o'_4 ∧ o'_4 ≤ List.length xs ∧ List.length xs - o'_4 = List.length xs - o'_4 ∧ (0 : Int) ≤ 2147483647))
 ((∀ (v_2 : Int) (o'_5 : Nat),
 rdN F xs o'_4 2147483647 = some (v_2, o'_5) →
 o'_4 ≤ o'_5 ∧ o'_5 ≤ List.length xs ∧ v_2 ≤ 2147483647 →
 iteB (decide (i = i))
 (iteB (decide ((i + 1) * 160 ≤ 140737488355328)) (iteB (decide (IntKind.wrap IntKind.i64 ((↑i : Int) + 1) = (↑(i + 1) : Int))) (iteB (decide (cnt = cnt)) (iteB (decide (nu = nu)) (iteB (decide (N = N)) (iteB (decide (N ≤ N)) (iteB (decide (i + 1 = i + 1)) (iteB (decide (i + 1 ≤ i + 1)) (xs = xs ∧ iteB (decide (o'_5 = o')) (iteB (decide (List.length xs - o'_5 = n')) (iteB (decide (n' ≤ List.length xs - o'_5)) (iteB (decide (N = N)) (RowsEq 0 [(2, 2), (3, 3), (6, 38), (5, 5), (1, 1), (0, 0), (4, 4)] N (inRows f) (inRows f) ∧ iteB (decide (i + 1 = i + 1)) (RowsEq 0 [(2, 2), (3, 3), (6, 38), (5, 5), (1, 1), (0, 0), (4, 4)] (i + 1) (outRows g') (catF i (outRows g) (rowC [AV.int IntKind.i64 v, AV.int IntKind.i64 v_1, AV.arr IntKind.u8 32 hh, AV.arr IntKind.u8 32 zero32, AV.arr IntKind.u8 32 hh_1, AV.arr IntKind.u8 32 zero32, AV.int IntKind.i64 v_2, AV.int IntKind.i64 0] 0 132)) ∧ Z1) False) False) False) False) False) False) False) False) False) False) False) False) False) False) ∧
 (rdN F xs o'_4 2147483647 = none → Z5))
 False) ∧
 (rdH xs o'_3 = none → Z5))
 False) ∧
 (rdH xs o'_2 = none → Z5))
 False)
 (iteB (decide (v = 4))
 (iteB (decide (List.length xs - o'_2 = List.length xs - o'_2 ∧ o'_2 ≤ List.length xs ∧ List.length xs - o'_2 = List.length xs - o'_2))
 ((∀ (hh : List Int) (o'_3 : Nat),
 rdH xs o'_2 = some (hh, o'_3) →
 o'_2 ≤ o'_3 ∧ o'_3 ≤ List.length xs ∧ List.length hh = 32 →
 iteB (decide (List.length xs - o'_3 = List.length xs - o'_3 ∧ o'_3 ≤ List.length xs ∧ List.length xs - o'_3 = List.length xs - o'_3))
 ((∀ (hh_1 : List Int) (o'_4 : Nat),
 rdH xs o'_3 = some (hh_1, o'_4) →
 o'_3 ≤ o'_4 ∧ o'_4 ≤ List.length xs ∧ List.length hh_1 = 32 →
 iteB (decide (List.length xs - o'_4 = List.length xs - o'_4 ∧ o'_4 ≤ List.length xs ∧ List.length xs - o'_4 = List.length xs - o'_4))
 ((∀ (hh_2 : List Int) (o'_5 : Nat),
 rdH xs o'_4 = some (hh_2, o'_5) →
 o'_4 ≤ o'_5 ∧ o'_5 ≤ List.length xs ∧ List.length hh_2 = 32 →
 iteB (decide (List.length xs - o'_5 = List.length xs - o'_5 ∧ o'_5 ≤ List.length xs ∧ List.length xs - o'_5 = List.length xs - o'_5))
 ((∀ (hh_3 : List Int) (o'_6 : Nat),
 rdH xs o'_5 = some (hh_3, o'_6) →
 o'_5 ≤ o'_6 ∧ o'_6 ≤ List.length xs ∧ List.length hh_3 = 32 →
 iteB (decide (List.length xs - o'_6 = List.length xs - o'_6 ∧ o'_6 ≤ List.length xs ∧ List.length xs - o'_6 = List.length xs - o'_6 ∧ (0 : Int) ≤ 2147483647))
 ((∀ (v_2 : Int) (o'_7 : Nat),
 rdN F xs o'_6 2147483647 = some (v_2, o'_7) →
 o'_6 ≤ o'_7 ∧ o'_7 ≤ List.length xs ∧ v_2 ≤ 2147483647 →
 iteB (decide (List.length xs - o'_7 = List.length xs - o'_7 ∧ o'_7 ≤ List.length xs ∧ List.length xs - o'_7 = List.length xs - o'_7 ∧ (0 : Int) ≤ 2147483647))
 ((∀ (v_3 : Int) (o'_8 : Nat),
 rdN F xs o'_7 2147483647 = some (v_3, o'_8) →
 o'_7 ≤ o'_8 ∧ o'_8 ≤ List.length xs ∧ v_3 ≤ 2147483647 →
 iteB (decide (i = i))
 (iteB (decide ((i + 1) * 160 ≤ 140737488355328)) (iteB (decide (IntKind.wrap IntKind.i64 ((↑i : Int) + 1) = (↑(i + 1) : Int))) (iteB (decide (cnt = cnt)) (iteB (decide (nu = nu)) (iteB (decide (N = N)) (iteB (decide (N ≤ N)) (iteB (decide (i + 1 = i + 1)) (iteB (decide (i + 1 ≤ i + 1)) (xs = xs ∧ iteB (decide (o'_8 = o')) (iteB (decide (List.length xs - o'_8 = n')) (iteB (decide (n' ≤ List.length xs - o'_8)) (iteB (decide (N = N)) (RowsEq 0 [(2, 2), (3, 3), (6, 44), (5, 5), (1, 1), (0, 0), (4, 4)] N (inRows f) (inRows f) ∧ iteB (decide (i + 1 = i + 1)) (RowsEq 0 [(2, 2), (3, 3), (6, 44), (5, 5), (1, 1), (0, 0), (4, 4)] (i + 1) (outRows g') (catF i (outRows g) (rowC [AV.int IntKind.i64 v, AV.int IntKind.i64 v_1, AV.arr IntKind.u8 32 hh, AV.arr IntKind.u8 32 hh_1, AV.arr IntKind.u8 32 hh_2, AV.arr IntKind.u8 32 hh_3, AV.int IntKind.i64 v_2, AV.int IntKind.i64 v_3] 0 132)) ∧ Z1) False) False) False) False) False) False) False) False) False) False) False) False) False) False) ∧
 (rdN F xs o'_7 2147483647 = none → Z5))
 False) ∧
 (rdN F xs o'_6 2147483647 = none → Z5))
 False) ∧
 (rdH xs o'_5 = none → Z5))
 False) ∧
 (rdH xs o'_4 = none → Z5))
 False) ∧
 (rdH xs o'_3 = none → Z5))
 False) ∧
 (rdH xs o'_2 = none → Z5))
 False)
 (iteB (decide (v = 5))
 (iteB (decide (List.length xs - o'_2 = List.length xs - o'_2 ∧ o'_2 ≤ List.length xs ∧ List.length xs - o'_2 = List.length xs - o'_2))
 ((∀ (hh : List Int) (o'_3 : Nat),
 rdH xs o'_2 = some (hh, o'_3) →
 o'_2 ≤ o'_3 ∧ o'_3 ≤ List.length xs ∧ List.length hh = 32 →
 iteB (decide (List.length xs - o'_3 = List.length xs - o'_3 ∧ o'_3 ≤ List.length xs ∧ List.length xs - o'_3 = List.length xs - o'_3))
 ((∀ (hh_1 : List Int) (o'_4 : Nat),
 rdH xs o'_3 = some (hh_1, o'_4) →
 o'_3 ≤ o'_4 ∧ o'_4 ≤ List.length xs ∧ List.length hh_1 = 32 →
 iteB (decide (List.length xs - o'_4 = List.length xs - o'_4 ∧ o'_4 ≤ List.length xs ∧ List.length xs - o'_4 = List.length xs - o'_4))
 ((∀ (hh_2 : List Int) (o'_5 : Nat),
 rdH xs o'_4 = some (hh_2, o'_5) →
 o'_4 ≤ o'_5 ∧ o'_5 ≤ List.length xs ∧ List.length hh_2 = 32 →
 iteB (decide (List.length xs - o'_5 = List.length xs - o'_5 ∧ o'_5 ≤ List.length xs ∧ List.length xs - o'_5 = List.length xs - o'_5))
 ((∀ (hh_3 : List Int) (o'_6 : Nat),
 rdH xs o'_5 = some (hh_3, o'_6) →
 o'_5 ≤ o'_6 ∧ o'_6 ≤ List.length xs ∧ List.length hh_3 = 32 →
 iteB (decide (List.length xs - o'_6 = List.length xs - o'_6 ∧ o'_6 ≤ List.length xs ∧ List.length xs - o'_6 = List.length xs - o'_6 ∧ (0 : Int) ≤ 2147483647))
 ((∀ (v_2 : Int) (o'_7 : Nat),
 rdN F xs o'_6 2147483647 = some (v_2, o'_7) →
 o'_6 ≤ o'_7 ∧ o'_7 ≤ List.length xs ∧ v_2 ≤ 2147483647 →
 iteB (decide (List.length xs - o'_7 = List.length xs - o'_7 ∧ o'_7 ≤ List.length xs ∧ List.length xs - o'_7 = List.length xs - o'_7 ∧ (0 : Int) ≤ 2147483647))
 ((∀ (v_3 : Int) (o'_8 : Nat),
 rdN F xs o'_7 2147483647 = some (v_3, o'_8) →
 o'_7 ≤ o'_8 ∧ o'_8 ≤ List.length xs ∧ v_3 ≤ 2147483647 →
 iteB (decide (i = i))
 (iteB (decide ((i + 1) * 160 ≤ 140737488355328)) (iteB (decide (IntKind.wrap IntKind.i64 ((↑i : Int) + 1) = (↑(i + 1) : Int))) (iteB (decide (cnt = cnt)) (iteB (decide (nu = nu)) (iteB (decide (N = N)) (iteB (decide (N ≤ N)) (iteB (decide (i + 1 = i + 1)) (iteB (decide (i + 1 ≤ i + 1)) (xs = xs ∧ iteB (decide (o'_8 = o')) (iteB (decide (List.length xs - o'_8 = n')) (iteB (decide (n' ≤ List.length xs - o'_8)) (iteB (decide (N = N)) (RowsEq 0 [(2, 2), (3, 3), (6, 44), (5, 5), (1, 1), (0, 0), (4, 4)] N (inRows f) (inRows f) ∧ iteB (decide (i + 1 = i + 1)) (RowsEq 0 [(2, 2), (3, 3), (6, 44), (5, 5), (1, 1), (0, 0), (4, 4)] (i + 1) (outRows g') (catF i (outRows g) (rowC [AV.int IntKind.i64 v, AV.int IntKind.i64 v_1, AV.arr IntKind.u8 32 hh, AV.arr IntKind.u8 32 hh_1, AV.arr IntKind.u8 32 hh_2, AV.arr IntKind.u8 32 hh_3, AV.int IntKind.i64 v_2, AV.int IntKind.i64 v_3] 0 132)) ∧ Z1) False) False) False) False) False) False) False) False) False) False) False) False) False) False) ∧
 (rdN F xs o'_7 2147483647 = none → Z5))
 False) ∧
 (rdN F xs o'_6 2147483647 = none → Z5))
 False) ∧
 (rdH xs o'_5 = none → Z5))
 False) ∧
 (rdH xs o'_4 = none → Z5))
 False) ∧
 (rdH xs o'_3 = none → Z5))
 False) ∧
 (rdH xs o'_2 = none → Z5))
 False)
 (iteB (decide (i = i))
 (iteB (decide ((i + 1) * 160 ≤ 140737488355328)) (iteB (decide (IntKind.wrap IntKind.i64 ((↑i : Int) + 1) = (↑(i + 1) : Int))) (iteB (decide (cnt = cnt)) (iteB (decide (nu = nu)) (iteB (decide (N = N)) (iteB (decide (N ≤ N)) (iteB (decide (i + 1 = i + 1)) (iteB (decide (i + 1 ≤ i + 1)) (xs = xs ∧ iteB (decide (o'_2 = o')) (iteB (decide (List.length xs - o'_2 = n')) (iteB (decide (n' ≤ List.length xs - o'_2)) (iteB (decide (N = N)) (RowsEq 0 [(2, 2), (3, 3), (6, 32), (5, 5), (1, 1), (0, 0), (4, 4)] N (inRows f) (inRows f) ∧ iteB (decide (i + 1 = i + 1)) (RowsEq 0 [(2, 2), (3, 3), (6, 32), (5, 5), (1, 1), (0, 0), (4, 4)] (i + 1) (outRows g') (catF i (outRows g) (rowC [AV.int IntKind.i64 v, AV.int IntKind.i64 v_1, AV.arr IntKind.u8 32 zero32, AV.arr IntKind.u8 32 zero32, AV.arr IntKind.u8 32 zero32, AV.arr IntKind.u8 32 zero32, AV.int IntKind.i64 0, AV.int IntKind.i64 0] 0 132)) ∧ Z1) False) False) False) False) False) False) False) False) False) False) False) False) False) False))))))
 False) ∧
 (rdN F xs o'_1 1125899906842624 = none → Z5))
 False) ∧
 (rdN F xs o 5 = none → Z5))
 False)
 (iteB (decide (nu = nu)) (iteB (decide (N = N)) (iteB (decide (N ≤ N)) (iteB (decide (i = i)) (iteB (decide (i ≤ i)) (xs = xs ∧ iteB (decide (o = o)) (iteB (decide (n = n)) (iteB (decide (n ≤ n)) (iteB (decide (N = N)) (RowsEq 0 [(2, 2), (3, 3), (6, 6), (5, 5), (1, 1), (0, 0), (4, 4)] N (inRows f) (inRows f) ∧ iteB (decide (i = i)) (RowsEq 0 [(2, 2), (3, 3), (6, 6), (5, 5), (1, 1), (0, 0), (4, 4)] i (outRows g) (outRows g) ∧ Z2) False) False) False) False) False) False) False) False) False) False)) (by kernel_rfl) ?_
  try simp only [need_eq]
  try simp only [nope_eq]
  try simp only [iteD_eq]
  try simp only [iteT_eq]
  try simp only [iteF_eq]
  try simp only [iteE_eq]
  try simp only [Int.toNat_natCast, Nat.zero_add, true_and, and_true, Nat.le_refl]
  subst hn
  have hself : ∀ τ, RowsEq 0 τ i (outRows g) (outRows g) := fun _ => outRowsEq fun _ _ => rfl
  have hin : ∀ τ, RowsEq 0 τ N (inRows f) (inRows f) := fun _ => inRowsEq fun _ _ => rfl
  refine ⟨fun hlt => ?_, fun hge => by simp [hself, hin, h2 hge]⟩
  have h5 := h5 hlt
  have h1 := h1 hlt
  have hw : IntKind.i64.wrap ((i : Int) + 1) = ((i + 1 : Nat) : Int) := w64 (by omega)
  simp only [hw]
  clear hw hself h2
  cases h : rdOut F xs o with
  | none =>
    have h5 := h5 h
    clear h1
    repeat' (first | (refine And.intro ?_ ?_) | intro _)
    all_goals first | omega | exact h5 | exact hin _ | trivial | skip
    all_goals (exfalso; simp [rdOut, rdHif, rdNif, *] at h)
  | some xp =>
    obtain ⟨x, p⟩ := xp
    obtain ⟨⟨rfl, rfl, hg⟩, hZ⟩ := h1 x p h
    clear h1 h5
    repeat' (first | (refine And.intro ?_ ?_) | intro _)
    all_goals first | omega | exact hZ | exact hin _ | trivial | skip
    all_goals (simp [rdOut, rdHif, rdNif, *] at h)
    all_goals (obtain ⟨rfl, rfl⟩ := h)
    all_goals first | rfl | exact Nat.le_refl _ | skip
    all_goals (refine outRowsEq fun q hq => ?_; rw [hg]; (try simp only [*]); exact catOut (x := ⟨_, _, _, _, _, _, _, _⟩) hq)
end Go.Tk
end
section
namespace Go.Tk
def stT {X : Type} (d : X) (rd : Nat → Option (X × Nat)) (o : Nat) : Nat → (Nat → X) × Nat
  | 0 => (fun _ => d, o)
  | i + 1 => match rd (stT d rd o i).2 with
    | some (x, p) => (fun q => if q = i then x else (stT d rd o i).1 q, p)
    | none => stT d rd o i
def goT {X : Type} (d : X) (rd : Nat → Option (X × Nat)) (o i : Nat) : Prop := (rd (stT d rd o i).2).isSome = true
def inZ : InS := ⟨zero32, 0, 0, zero32, zero32, zero32⟩
def outZ : OutS := ⟨0, 0, zero32, zero32, zero32, zero32, 0, 0⟩
noncomputable def E25 (F : List Int → Int × Int) (A : List Int → Int × Int) (xs : List Int) (nu cnt cnt2 : Int) (o1 o2 : Nat) (rI : Nat → Option (InS × Nat)) (rO : Nat → Option (OutS × Nat)) (C C2 : Prop) (N : Nat) (f : Nat → InS) : Env2 :=
  ((E24 F A).withL 11 0 (goM 0 (paS1 nu cnt xs 0 o1 (xs.length - o1) (stT inZ rI o1 0).1) C (endsP 0 cnt.toNat 9 pvTx (goT inZ rI o1) (fun i => ¬ (i : Int) < cnt) (fun _ => False) (fun _ => False) (fun i => (i : Int) < cnt ∧ rI (stT inZ rI o1 i).2 = none)
    (fun i => paE1 nu xs i (stT inZ rI o1 i).2 (xs.length - (stT inZ rI o1 i).2) (stT inZ rI o1 i).1) (fun _ => paP) (fun _ => paP) (fun _ => paP)))).withL
    11 4 (goM 0 (paS2 nu cnt2 xs N f 0 o2 (xs.length - o2) (stT outZ rO o2 0).1) C2 (endsP 4 cnt2.toNat 9 pvTx (goT outZ rO o2) (fun i => ¬ (i : Int) < cnt2) (fun _ => False) (fun _ => False) (fun i => (i : Int) < cnt2 ∧ rO (stT outZ rO o2 i).2 = none)
    (fun i => paE2 nu xs N f i (stT outZ rO o2 i).2 (xs.length - (stT outZ rO o2 i).2) (stT outZ rO o2 i).1) (fun _ => paP) (fun _ => paP) (fun _ => paP)))
set_option maxRecDepth 100000 in
set_option maxHeartbeats 0 in
theorem parse_1 (F : List Int → Int × Int) (A : List Int → Int × Int) (xs : List Int) (nu cnt cnt2 : Int) (o1 o2 : Nat) (rI : Nat → Option (InS × Nat)) (rO : Nat → Option (OutS × Nat)) (C C2 : Prop) (N M : Nat) (f : Nat → InS) (g : Nat → OutS) (L : Nat) (hL : xs.length = L) (hB : L < 90000000000000) (p0 : Nat) (hC : o1 ≤ xs.length → cnt ≤ 24 → C) (hC2 : o2 ≤ xs.length → cnt2 ≤ 24 → C2) (h0 : ∀ v p, rdN F xs 0 2147483647 = some (v, p) → v = nu ∧ p = p0) (h1 : ∀ v p, rdN F xs p0 24 = some (v, p) → v = cnt ∧ p = o1) (hN : N = cnt.toNat) (hf : f = (stT inZ rI o1 N).1) (h2 : ∀ v p, rdN F xs (stT inZ rI o1 N).2 24 = some (v, p) → v = cnt2 ∧ p = o2) (hlI : o1 ≤ xs.length → ∀ i, (stT inZ rI o1 i).2 ≤ xs.length) (hlO : o2 ≤ xs.length → ∀ i, (stT outZ rO o2 i).2 ≤ xs.length) (hoI : ∀ i q, ((stT inZ rI o1 i).1 q).Ok) (hoO : ∀ i q, ((stT outZ rO o2 i).1 q).Ok) (e0 : rdN F xs 0 2147483647 ≠ none) (e1 : rdN F xs p0 24 ≠ none) (eI : ∀ j, j < N → goT inZ rI o1 j) (e2 : rdN F xs (stT inZ rI o1 N).2 24 ≠ none) (hM : M = cnt2.toNat) (hg : g = (stT outZ rO o2 M).1) (eO : ∀ j, j < M → goT outZ rO o2 j) (he : (stT outZ rO o2 M).2 = xs.length) (hck : ckTx A ⟨nu, N, f, M, g⟩ = true) :
    evF (E25 F A xs nu cnt cnt2 o1 o2 rI rO C C2 N f) 20 11 [.vints .u8 xs L] ⟨0, []⟩ (outM 0 (.ret (.tuple [.agg [.int .i64 nu, .nslice ⟨0, 0, 130, 0, 0⟩ 130 N N, .nslice ⟨1, 0, 132, 0, 0⟩ 132 M M], .int .i64 0])) 2 [(0, .rows 130 N (inRows f)), (1, .rows 132 M (outRows g))]) := by
  refine @Eq.mpr _ (let q1 := List.length xs;
 let q2 := rdN F xs 0 2147483647;
 let q3 := q1 - o1;
 let q4 := decide (nu = nu);
 let q5 := q1 - o2;
 let q6 := inRows f;
 let q7 := decide (N = N);
 let q8 := [(1, 6), (0, 5)];
 let q9 := decide (N = 0);
 let q10 := decide (M = 0);
 let q11 := iteB (decide (0 = nu)) (iteB q9 (iteB q9 (iteB q10 (iteB q10 False False) False) False) False) False;
 iteB (decide (q1 = L ∧ L < 90000000000000))
 (iteB (decide (L = q1 - 0 ∧ 0 ≤ q1 ∧ L = q1 - 0 ∧ (0 : Int) ≤ 2147483647))
 ((∀ (v : Int) (o' : Nat),
 let q23 := rdN F xs o' 24;
 q2 = some (v, o') →
 0 ≤ o' ∧ o' ≤ q1 ∧ v ≤ 2147483647 →
 iteB (decide (q1 - o' = q1 - o' ∧ o' ≤ q1 ∧ q1 - o' = q1 - o' ∧ (0 : Int) ≤ 24))
 ((∀ (v_1 : Int) (o'_1 : Nat),
 q23 = some (v_1, o'_1) →
 o' ≤ o'_1 ∧ o'_1 ≤ q1 ∧ v_1 ≤ 24 →
 iteB (decide (v_1 = cnt))
 (iteB (decide (v = nu))
 (xs = xs ∧
 iteB (decide (o'_1 = o1))
 (iteB (decide (q1 - o'_1 = q3))
 (iteB (decide (q3 ≤ q1 - o'_1))
 (C ∧
 ∀ (i : Nat),
 let q25 := stT inZ rI o1 i;
 let q26 := q25.snd;
 let q27 := q1 - q26;
 let q28 := rdN F xs q26 24;
 let q29 := decide (i = N);
 i ≤ Int.toNat cnt →
 (∀ (j : Nat), j < i → goT inZ rI o1 j) →
 (¬↑i < cnt →
 iteB (decide (q27 = q27 ∧ q26 ≤ q1 ∧ q27 = q27 ∧ (0 : Int) ≤ 24))
 ((∀ (v : Int) (o' : Nat),
 q28 = some (v, o') →
 q26 ≤ o' ∧ o' ≤ q1 ∧ v ≤ 24 →
 iteB (decide (v = cnt2))
 (iteB q4
 (iteB q29
 (iteB (decide (N ≤ i))
 (xs = xs ∧
 iteB (decide (o' = o2))
 (iteB (decide (q1 - o' = q5))
 (iteB (decide (q5 ≤ q1 - o'))
 (iteB q29
 (RowsEq 0 [(2, 2), (3, 3), (5, 5), (1, 1), (0, 0), (4, 4)] N q6 (inRows q25.fst) ∧
 C2 ∧
 ∀ (i : Nat),
 let q35 := stT outZ rO o2 i;
 let q36 := q35.snd;
 let q37 := q1 - q36;
 let q38 := decide (i = M);
 i ≤ Int.toNat cnt2 →
 (∀ (j : Nat), j < i → goT outZ rO o2 j) →
 (¬↑i < cnt2 →
 iteB (decide (q37 = q37))
 (iteB (decide (q37 = 0))
 (iteB (decide (0 + N ≤ N))
 ((∀ (i : Nat), i < N → true = true) ∧
 iteB (decide (0 + i ≤ i))
 ((∀ (i_1 : Nat), i_1 < i → true = true) ∧
 ∃ (t : TxS),
 (t.num = nu ∧
 ((N = N ∧ t.N = N) ∧ ∀ (i : Nat), i < N → [AV.arr IntKind.u8 32 (f i).name, AV.int IntKind.i64 (f i).index, AV.int IntKind.i64 (f i).way, AV.arr IntKind.u8 32 (f i).tag, AV.arr IntKind.u8 32 (f i).also, AV.arr IntKind.u8 32 (f i).secret] = InS.c (t.ins i)) ∧
 (i = i ∧ t.M = i) ∧
 ∀ (i_1 : Nat),
 let q43 := q35.fst i_1;
 i_1 < i → [AV.int IntKind.i64 q43.kind, AV.int IntKind.i64 q43.amount, AV.arr IntKind.u8 32 q43.owner, AV.arr IntKind.u8 32 q43.other, AV.arr IntKind.u8 32 q43.point, AV.arr IntKind.u8 32 q43.hash, AV.int IntKind.i64 q43.delay, AV.int IntKind.i64 q43.expiry] = OutS.c (t.outs i_1)) ∧
 TxS.Ok t ∧ iteB (ckTx A t) (iteB q4 (iteB q7 (iteB (decide (N ≤ N)) (iteB q38 (iteB (decide (M ≤ i)) (iteB q7 (RowsEq 0 q8 N q6 q6 ∧ iteB q38 (RowsEq 0 q8 M (outRows g) (outRows q35.fst) ∧ True) False) False) False) False) False) False) False) q11)
 False)
 False)
 q11)
 False) ∧
 (False → False) ∧ (False → False) ∧ (↑i < cnt2 ∧ rO q36 = none → q11))
 False)
 False)
 False)
 False)
 False)
 False)
 False)
 False) ∧
 (q28 = none → q11))
 False) ∧
 (False → False) ∧ (False → False) ∧ (↑i < cnt ∧ rI q26 = none → q11))
 False)
 False)
 False)
 False)
 False) ∧
 (q23 = none → q11))
 False) ∧
 (q2 = none → q11))
 False)
 False) (by kernel_rfl) ?_
  conv => zeta
  try simp only [need_eq]
  try simp only [nope_eq]
  try simp only [iteD_eq]
  try simp only [iteT_eq]
  try simp only [iteF_eq]
  try simp only [iteE_eq]
  try simp only [Int.toNat_natCast, Nat.zero_add, true_and, and_true, Nat.le_refl]
  subst hL
  refine ⟨⟨rfl, hB⟩, by omega, ?_, ?_⟩
  rotate_left
  · exact fun h => absurd h e0
  intro v o' q0 r0
  obtain ⟨rfl, rfl⟩ := h0 v o' q0
  refine ⟨by omega, ?_, ?_⟩
  rotate_left
  · exact fun h => absurd h e1
  intro v1 o1' q1 r1
  obtain ⟨rfl, rfl⟩ := h1 v1 o1' q1
  have hlI := hlI r1.2.1
  refine ⟨rfl, rfl, rfl, rfl, Nat.le_refl _, hC r1.2.1 r1.2.2, fun i hi hgo => ⟨fun hx => ?_, fun h => h.elim, fun h => h.elim, fun hx => ?_⟩⟩
  rotate_left
  · have := eI i (by omega); unfold goT at this; rw [hx.2] at this; cases this
  have hiN : i = N := by omega
  subst hiN
  have hli := hlI i
  refine ⟨by omega, ?_, ?_⟩
  rotate_left
  · exact fun h => absurd h e2
  intro v2 o2' q2 r2
  obtain ⟨rfl, rfl⟩ := h2 v2 o2' q2
  have hlO := hlO r2.2.1
  refine ⟨rfl, rfl, Nat.le_refl _, rfl, rfl, Nat.le_refl _, rfl, inRowsEq fun _ _ => (by rw [hf]; rfl), hC2 r2.2.1 r2.2.2, fun k hk hgo2 => ⟨fun hx2 => ?_, fun h => h.elim, fun h => h.elim, fun hx2 => ?_⟩⟩
  rotate_left
  · have := eO k (by omega); unfold goT at this; rw [hx2.2] at this; cases this
  have hkM : k = v2.toNat := by omega
  have htok : TxS.Ok ⟨v, i, f, k, (stT outZ rO o2' k).1⟩ := ⟨by show i < 900000000000; omega, by show k < 900000000000; omega, fun j _ => by show (f j).Ok; rw [hf]; exact hoI i j, fun j _ => hoO k j⟩
  have hkM2 : k = M := hkM.trans hM.symm
  subst hkM2
  rw [hg] at hck
  refine ⟨fun _ => ⟨fun _ _ => trivial, fun _ _ => trivial, ⟨v, i, f, k, (stT outZ rO o2' k).1⟩, ⟨rfl, ⟨rfl, fun _ _ => rfl⟩, rfl, fun _ _ => rfl⟩, htok, fun _ => ⟨rfl, Nat.le_refl _, inRowsEq fun _ _ => rfl, rfl, outRowsEq fun _ _ => (by rw [hg]; rfl)⟩, fun h => (by rw [hck] at h; cases h)⟩, fun h => absurd (by omega) h⟩
set_option maxRecDepth 100000 in
set_option maxHeartbeats 0 in
theorem parse_2 (F : List Int → Int × Int) (A : List Int → Int × Int) (xs : List Int) (nu cnt cnt2 : Int) (o1 o2 : Nat) (rI : Nat → Option (InS × Nat)) (rO : Nat → Option (OutS × Nat)) (C C2 : Prop) (N : Nat) (f : Nat → InS) (L : Nat) (hL : xs.length = L) (hB : L < 90000000000000) (p0 : Nat) (hC : o1 ≤ xs.length → cnt ≤ 24 → C) (hC2 : o2 ≤ xs.length → cnt2 ≤ 24 → C2) (h0 : ∀ v p, rdN F xs 0 2147483647 = some (v, p) → v = nu ∧ p = p0) (h1 : ∀ v p, rdN F xs p0 24 = some (v, p) → v = cnt ∧ p = o1) (hN : N = cnt.toNat) (hf : f = (stT inZ rI o1 N).1) (h2 : ∀ v p, rdN F xs (stT inZ rI o1 N).2 24 = some (v, p) → v = cnt2 ∧ p = o2) (hlI : o1 ≤ xs.length → ∀ i, (stT inZ rI o1 i).2 ≤ xs.length) (hlO : o2 ≤ xs.length → ∀ i, (stT outZ rO o2 i).2 ≤ xs.length) (hoI : ∀ i q, ((stT inZ rI o1 i).1 q).Ok) (hoO : ∀ i q, ((stT outZ rO o2 i).1 q).Ok) (hfail : rdN F xs 0 2147483647 ≠ none → rdN F xs p0 24 ≠ none → (∀ j, j < N → goT inZ rI o1 j) → rdN F xs (stT inZ rI o1 N).2 24 ≠ none → (∀ j, j < cnt2.toNat → goT outZ rO o2 j) → (stT outZ rO o2 cnt2.toNat).2 = xs.length → ckTx A ⟨nu, N, f, cnt2.toNat, (stT outZ rO o2 cnt2.toNat).1⟩ = true → False) :
    evF (E25 F A xs nu cnt cnt2 o1 o2 rI rO C C2 N f) 20 11 [.vints .u8 xs L] ⟨0, []⟩ (outM 0 (.ret (.tuple [.agg [.int .i64 0, .nilslice, .nilslice], .int .i64 170])) 0 []) := by
  refine @Eq.mpr _ (let q1 := List.length xs;
 let q2 := rdN F xs 0 2147483647;
 let q3 := q1 - o1;
 let q4 := q1 - o2;
 iteB (decide (q1 = L ∧ L < 90000000000000))
 (iteB (decide (L = q1 - 0 ∧ 0 ≤ q1 ∧ L = q1 - 0 ∧ (0 : Int) ≤ 2147483647))
 ((∀ (v : Int) (o' : Nat),
 let q9 := rdN F xs o' 24;
 q2 = some (v, o') →
 0 ≤ o' ∧ o' ≤ q1 ∧ v ≤ 2147483647 →
 iteB (decide (q1 - o' = q1 - o' ∧ o' ≤ q1 ∧ q1 - o' = q1 - o' ∧ (0 : Int) ≤ 24))
 ((∀ (v_1 : Int) (o'_1 : Nat),
 q9 = some (v_1, o'_1) →
 o' ≤ o'_1 ∧ o'_1 ≤ q1 ∧ v_1 ≤ 24 →
 iteB (decide (v_1 = cnt))
 (iteB (decide (v = nu))
 (xs = xs ∧
 iteB (decide (o'_1 = o1))
 (iteB (decide (q1 - o'_1 = q3))
 (iteB (decide (q3 ≤ q1 - o'_1))
 (C ∧
 ∀ (i : Nat),
 let q11 := stT inZ rI o1 i;
 let q12 := q11.snd;
 let q13 := q1 - q12;
 let q14 := rdN F xs q12 24;
 let q15 := decide (i = N);
 i ≤ Int.toNat cnt →
 (∀ (j : Nat), j < i → goT inZ rI o1 j) →
 (¬↑i < cnt →
 iteB (decide (q13 = q13 ∧ q12 ≤ q1 ∧ q13 = q13 ∧ (0 : Int) ≤ 24))
 ((∀ (v : Int) (o' : Nat),
 q14 = some (v, o') →
 q12 ≤ o' ∧ o' ≤ q1 ∧ v ≤ 24 →
 iteB (decide (v = cnt2))
 (iteB (decide (nu = nu))
 (iteB q15
 (iteB (decide (N ≤ i))
 (xs = xs ∧
 iteB (decide (o' = o2))
 (iteB (decide (q1 - o' = q4))
 (iteB (decide (q4 ≤ q1 - o'))
 (iteB q15
 (RowsEq 0 [(2, 2), (3, 3), (5, 5), (1, 1), (0, 0), (4, 4)] N (inRows f) (inRows q11.fst) ∧
 C2 ∧
 ∀ (i : Nat),
 let q21 := stT outZ rO o2 i;
 let q22 := q21.snd;
 let q23 := q1 - q22;
 i ≤ Int.toNat cnt2 →
 (∀ (j : Nat), j < i → goT outZ rO o2 j) →
 (¬↑i < cnt2 →
 iteB (decide (q23 = q23))
 (iteB (decide (q23 = 0))
 (iteB (decide (0 + N ≤ N))
 ((∀ (i : Nat), i < N → true = true) ∧
 iteB (decide (0 + i ≤ i))
 ((∀ (i_1 : Nat), i_1 < i → true = true) ∧
 ∃ (t : TxS),
 (t.num = nu ∧
 ((N = N ∧ t.N = N) ∧ ∀ (i : Nat), i < N → [AV.arr IntKind.u8 32 (f i).name, AV.int IntKind.i64 (f i).index, AV.int IntKind.i64 (f i).way, AV.arr IntKind.u8 32 (f i).tag, AV.arr IntKind.u8 32 (f i).also, AV.arr IntKind.u8 32 (f i).secret] = InS.c (t.ins i)) ∧
 (i = i ∧ t.M = i) ∧
 ∀ (i_1 : Nat),
 let q27 := q21.fst i_1;
 i_1 < i → [AV.int IntKind.i64 q27.kind, AV.int IntKind.i64 q27.amount, AV.arr IntKind.u8 32 q27.owner, AV.arr IntKind.u8 32 q27.other, AV.arr IntKind.u8 32 q27.point, AV.arr IntKind.u8 32 q27.hash, AV.int IntKind.i64 q27.delay, AV.int IntKind.i64 q27.expiry] = OutS.c (t.outs i_1)) ∧
 TxS.Ok t ∧ iteB (ckTx A t) (iteB (decide (nu = 0)) False False) True)
 False)
 False)
 True)
 False) ∧
 (False → False) ∧ (False → False) ∧ (↑i < cnt2 ∧ rO q22 = none → True))
 False)
 False)
 False)
 False)
 False)
 False)
 False)
 False) ∧
 (q14 = none → True))
 False) ∧
 (False → False) ∧ (False → False) ∧ (↑i < cnt ∧ rI q12 = none → True))
 False)
 False)
 False)
 False)
 False) ∧
 (q9 = none → True))
 False) ∧
 (q2 = none → True))
 False)
 False) (by kernel_rfl) ?_
  conv => zeta
  try simp only [need_eq]
  try simp only [nope_eq]
  try simp only [iteD_eq]
  try simp only [iteT_eq]
  try simp only [iteF_eq]
  try simp only [iteE_eq]
  try simp only [Int.toNat_natCast, Nat.zero_add, true_and, and_true, Nat.le_refl]
  subst hL
  refine ⟨⟨rfl, hB⟩, by omega, ?_, ?_⟩
  rotate_left
  · exact fun _ => trivial
  intro v o' q0 r0
  obtain ⟨rfl, rfl⟩ := h0 v o' q0
  refine ⟨by omega, ?_, ?_⟩
  rotate_left
  · exact fun _ => trivial
  intro v1 o1' q1 r1
  obtain ⟨rfl, rfl⟩ := h1 v1 o1' q1
  have hlI := hlI r1.2.1
  refine ⟨rfl, rfl, rfl, rfl, Nat.le_refl _, hC r1.2.1 r1.2.2, fun i hi hgo => ⟨fun hx => ?_, fun h => h.elim, fun h => h.elim, fun hx => ?_⟩⟩
  rotate_left
  · trivial
  have hiN : i = N := by omega
  subst hiN
  have hli := hlI i
  refine ⟨by omega, ?_, ?_⟩
  rotate_left
  · exact fun _ => trivial
  intro v2 o2' q2 r2
  obtain ⟨rfl, rfl⟩ := h2 v2 o2' q2
  have hlO := hlO r2.2.1
  refine ⟨rfl, rfl, Nat.le_refl _, rfl, rfl, Nat.le_refl _, rfl, inRowsEq fun _ _ => (by rw [hf]; rfl), hC2 r2.2.1 r2.2.2, fun k hk hgo2 => ⟨fun hx2 => ?_, fun h => h.elim, fun h => h.elim, fun hx2 => ?_⟩⟩
  rotate_left
  · trivial
  have hkM : k = v2.toNat := by omega
  have htok : TxS.Ok ⟨v, i, f, k, (stT outZ rO o2' k).1⟩ := ⟨by show i < 900000000000; omega, by show k < 900000000000; omega, fun j _ => by show (f j).Ok; rw [hf]; exact hoI i j, fun j _ => hoO k j⟩
  refine ⟨fun hz => ⟨fun _ _ => trivial, fun _ _ => trivial, ⟨v, i, f, k, (stT outZ rO o2' k).1⟩, ⟨rfl, ⟨rfl, fun _ _ => rfl⟩, rfl, fun _ _ => rfl⟩, htok, fun hck => ?_, fun _ => trivial⟩, fun _ => trivial⟩
  exfalso
  have hlk := hlO k
  refine hfail (by rw [q0]; simp) (by rw [q1]; simp) hgo (by rw [q2]; simp) (fun j hj => hgo2 j (by omega)) ?_ ?_
  · rw [← hkM]; omega
  · rw [← hkM]; exact hck
theorem rdN_le {xs : List Int} {o p : Nat} {v most : Int} (ho : o ≤ xs.length) (h : rdN (firstB numW) xs o most = some (v, p)) : o ≤ p ∧ p ≤ xs.length ∧ v ≤ most := by
  unfold rdN at h
  split at h
  · rename_i hc
    simp only [Option.some.injEq, Prod.mk.injEq] at h
    have hle := firstB_le numW (xs.drop o)
    rw [List.length_drop] at hle
    omega
  · cases h
theorem rdH_le {xs : List Int} {o p : Nat} {hh : List Int} (h : rdH xs o = some (hh, p)) : o ≤ p ∧ p ≤ xs.length ∧ hh.length = 32 := by
  unfold rdH at h
  split at h
  · simp only [Option.some.injEq, Prod.mk.injEq] at h
    obtain ⟨rfl, rfl⟩ := h
    refine ⟨by omega, by omega, ?_⟩
    rw [List.length_take, List.length_drop]; omega
  · cases h
theorem rdHif_le {b : Bool} {xs : List Int} {o p : Nat} {hh : List Int} (ho : o ≤ xs.length) (h : rdHif b xs o = some (hh, p)) : o ≤ p ∧ p ≤ xs.length ∧ hh.length = 32 := by
  cases b with
  | true => exact rdH_le h
  | false =>
    simp only [rdHif, Option.some.injEq, Prod.mk.injEq] at h
    obtain ⟨rfl, rfl⟩ := h
    exact ⟨Nat.le_refl _, ho, rfl⟩
theorem rdNif_le {b : Bool} {xs : List Int} {o p : Nat} {v most : Int} (ho : o ≤ xs.length) (h : rdNif b (firstB numW) xs o most = some (v, p)) : o ≤ p ∧ p ≤ xs.length := by
  cases b with
  | true => exact ⟨(rdN_le ho h).1, (rdN_le ho h).2.1⟩
  | false =>
    simp only [rdNif, Option.some.injEq, Prod.mk.injEq] at h
    obtain ⟨rfl, rfl⟩ := h
    exact ⟨Nat.le_refl _, ho⟩
theorem rdIn_ok {xs : List Int} {o p : Nat} {x : InS} (ho : o ≤ xs.length) (h : rdIn (firstB numW) xs o = some (x, p)) : x.Ok ∧ p ≤ xs.length := by
  unfold rdIn at h
  simp only [Option.bind_eq_some_iff, Prod.exists, Option.some.injEq, Prod.mk.injEq] at h
  obtain ⟨a, a2, h1, b, b2, h2, c, c2, h3, d, d2, h4, e, e2, h5, f, f2, h6, rfl, rfl⟩ := h
  have k1 := rdH_le h1
  have k2 := rdN_le k1.2.1 h2
  have k3 := rdN_le k2.2.1 h3
  have k4 := rdHif_le k3.2.1 h4
  have k5 := rdHif_le k4.2.1 h5
  have k6 := rdHif_le k5.2.1 h6
  exact ⟨⟨k1.2.2, k4.2.2, k5.2.2, k6.2.2⟩, k6.2.1⟩
theorem rdOut_ok {xs : List Int} {o p : Nat} {x : OutS} (ho : o ≤ xs.length) (h : rdOut (firstB numW) xs o = some (x, p)) : x.Ok ∧ p ≤ xs.length := by
  unfold rdOut at h
  simp only [Option.bind_eq_some_iff, Prod.exists, Option.some.injEq, Prod.mk.injEq] at h
  obtain ⟨a, a2, h1, b, b2, h2, c, c2, h3, d, d2, h4, e, e2, h5, f, f2, h6, u, u2, h7, w, w2, h8, rfl, rfl⟩ := h
  have k1 := rdN_le ho h1
  have k2 := rdN_le k1.2.1 h2
  have k3 := rdHif_le k2.2.1 h3
  have k4 := rdHif_le k3.2.1 h4
  have k5 := rdHif_le k4.2.1 h5
  have k6 := rdHif_le k5.2.1 h6
  have k7 := rdNif_le k6.2.1 h7
  have k8 := rdNif_le k7.2 h8
  exact ⟨⟨k3.2.2, k4.2.2, k5.2.2, k6.2.2⟩, k8.2⟩
theorem stT_inv {X : Type} {d : X} {rd : Nat → Option (X × Nat)} {o L : Nat} {ok : X → Prop} (hd : ok d) (ho : o ≤ L) (hr : ∀ o x p, o ≤ L → rd o = some (x, p) → ok x ∧ p ≤ L) : ∀ i, (stT d rd o i).2 ≤ L ∧ ∀ q, ok ((stT d rd o i).1 q)
  | 0 => ⟨ho, fun _ => hd⟩
  | i + 1 => by
    obtain ⟨h1, h2⟩ := stT_inv hd ho hr i
    unfold stT
    split
    · rename_i x p hq
      obtain ⟨h3, h4⟩ := hr _ _ _ h1 hq
      refine ⟨h4, fun q => ?_⟩
      show ok (if q = i then x else _)
      split
      · exact h3
      · exact h2 q
    · exact ⟨h1, h2⟩
theorem inZ_ok : inZ.Ok := ⟨rfl, rfl, rfl, rfl⟩
theorem outZ_ok : outZ.Ok := ⟨rfl, rfl, rfl, rfl⟩
theorem stT_step {X : Type} {d x : X} {rd : Nat → Option (X × Nat)} {o i p : Nat} (h : rd (stT d rd o i).2 = some (x, p)) : (stT d rd o (i + 1)).2 = p ∧ ∀ q, (stT d rd o (i + 1)).1 q = if q = i then x else (stT d rd o i).1 q := by
  conv => lhs; unfold stT
  constructor
  · rw [h]
  · intro q
    conv => lhs; unfold stT
    rw [h]
theorem stT_lenI {xs : List Int} {o : Nat} (ho : o ≤ xs.length) (i : Nat) : (stT inZ (rdIn (firstB numW) xs) o i).2 ≤ xs.length ∧ ∀ q, ((stT inZ (rdIn (firstB numW) xs) o i).1 q).Ok := stT_inv (ok := InS.Ok) inZ_ok ho (fun o x p h1 h2 => rdIn_ok (xs := xs) h1 h2) i
theorem stT_lenO {xs : List Int} {o : Nat} (ho : o ≤ xs.length) (i : Nat) : (stT outZ (rdOut (firstB numW) xs) o i).2 ≤ xs.length ∧ ∀ q, ((stT outZ (rdOut (firstB numW) xs) o i).1 q).Ok := stT_inv (ok := OutS.Ok) outZ_ok ho (fun o x p h1 h2 => rdOut_ok (xs := xs) h1 h2) i
def rdI (F : List Int → Int × Int) (xs : List Int) : Nat → Option (InS × Nat) := rdIn F xs
noncomputable def E25c (F : List Int → Int × Int) (A : List Int → Int × Int) (xs : List Int) (nu cnt : Int) (o1 : Nat) (rI : Nat → Option (InS × Nat)) (C : Prop) : Env2 :=
  (E24 F A).withL 11 0 (goM 0 (paS1 nu cnt xs 0 o1 (xs.length - o1) (stT inZ rI o1 0).1) C (endsP 0 cnt.toNat 9 pvTx (goT inZ rI o1) (fun i => ¬ (i : Int) < cnt) (fun _ => False) (fun _ => False) (fun i => (i : Int) < cnt ∧ rI (stT inZ rI o1 i).2 = none)
    (fun i => paE1 nu xs i (stT inZ rI o1 i).2 (xs.length - (stT inZ rI o1 i).2) (stT inZ rI o1 i).1) (fun _ => paP) (fun _ => paP) (fun _ => paP)))
noncomputable def E25d (F : List Int → Int × Int) (A : List Int → Int × Int) (xs : List Int) (nu cnt2 : Int) (o2 : Nat) (rO : Nat → Option (OutS × Nat)) (C2 : Prop) (N : Nat) (f : Nat → InS) : Env2 :=
  (E24 F A).withL 11 4 (goM 0 (paS2 nu cnt2 xs N f 0 o2 (xs.length - o2) (stT outZ rO o2 0).1) C2 (endsP 4 cnt2.toNat 9 pvTx (goT outZ rO o2) (fun i => ¬ (i : Int) < cnt2) (fun _ => False) (fun _ => False) (fun i => (i : Int) < cnt2 ∧ rO (stT outZ rO o2 i).2 = none)
    (fun i => paE2 nu xs N f i (stT outZ rO o2 i).2 (xs.length - (stT outZ rO o2 i).2) (stT outZ rO o2 i).1) (fun _ => paP) (fun _ => paP) (fun _ => paP)))
theorem E25c_ok (xs : List Int) (nu cnt : Int) (o1 : Nat) : (E25c (firstB numW) addM xs nu cnt o1 (rdIn (firstB numW) xs) (o1 ≤ xs.length ∧ cnt ≤ 24)).Ok := by
  unfold E25c
  refine Env2.withGoP (N := 20) (S := fun i => paS1 nu cnt xs i (stT inZ (rdIn (firstB numW) xs) o1 i).2 (xs.length - (stT inZ (rdIn (firstB numW) xs) o1 i).2) (stT inZ (rdIn (firstB numW) xs) o1 i).1) E24_ok rfl (by kernel_rfl) fun hC => ⟨rfl, fun i hi hgo => ?_⟩
  have hle := (stT_lenI hC.1 i).1
  refine pin_1 _ _ nu cnt xs i _ _ _ _ _ _ _ _ _ rfl hle ⟨by omega, hC.2⟩ (fun h => h) (fun h1 h2 => ⟨h1, h2⟩) (fun h1 x p h2 => ?_)
  have hs := stT_step h2
  exact ⟨⟨hs.1, by rw [hs.1], hs.2⟩, by show goT _ _ _ _; unfold goT; rw [h2]; rfl, by omega⟩
theorem E25d_ok (xs : List Int) (nu cnt2 : Int) (o2 N : Nat) (f : Nat → InS) : (E25d (firstB numW) addM xs nu cnt2 o2 (rdOut (firstB numW) xs) (o2 ≤ xs.length ∧ cnt2 ≤ 24) N f).Ok := by
  unfold E25d
  refine Env2.withGoP (N := 20) (S := fun i => paS2 nu cnt2 xs N f i (stT outZ (rdOut (firstB numW) xs) o2 i).2 (xs.length - (stT outZ (rdOut (firstB numW) xs) o2 i).2) (stT outZ (rdOut (firstB numW) xs) o2 i).1) E24_ok rfl (by kernel_rfl) fun hC => ⟨rfl, fun i hi hgo => ?_⟩
  have hle := (stT_lenO hC.1 i).1
  refine pout_1 _ _ nu cnt2 xs N f i _ _ _ _ _ _ _ _ _ rfl hle ⟨by omega, hC.2⟩ (fun h => h) (fun h1 h2 => ⟨h1, h2⟩) (fun h1 x p h2 => ?_)
  have hs := stT_step h2
  exact ⟨⟨hs.1, by rw [hs.1], hs.2⟩, by show goT _ _ _ _; unfold goT; rw [h2]; rfl, by omega⟩
theorem E25_ok (xs : List Int) (nu cnt cnt2 : Int) (o1 o2 N : Nat) (f : Nat → InS) : (E25 (firstB numW) addM xs nu cnt cnt2 o1 o2 (rdIn (firstB numW) xs) (rdOut (firstB numW) xs) (o1 ≤ xs.length ∧ cnt ≤ 24) (o2 ≤ xs.length ∧ cnt2 ≤ 24) N f).Ok := by
  unfold E25
  exact Env2.withL_join (G := E25c (firstB numW) addM xs nu cnt o1 (rdIn (firstB numW) xs) (o1 ≤ xs.length ∧ cnt ≤ 24)) (H := E24 (firstB numW) addM) (E25c_ok xs nu cnt o1) rfl (E25d_ok xs nu cnt2 o2 N f)
@[irreducible] def parseT (F : List Int → Int × Int) (A : List Int → Int × Int) (xs : List Int) : Option TxS :=
  (rdN F xs 0 2147483647).bind fun a => (rdN F xs a.2 24).bind fun b =>
  let sI := stT inZ (rdIn F xs) b.2 b.1.toNat
  if ((List.range b.1.toNat).all fun j => (rdIn F xs (stT inZ (rdIn F xs) b.2 j).2).isSome) = true then
    (rdN F xs sI.2 24).bind fun c =>
    let sO := stT outZ (rdOut F xs) c.2 c.1.toNat
    if (((List.range c.1.toNat).all fun j => (rdOut F xs (stT outZ (rdOut F xs) c.2 j).2).isSome) && (sO.2 == xs.length) && ckTx A ⟨a.1, b.1.toNat, sI.1, c.1.toNat, sO.1⟩) = true then some ⟨a.1, b.1.toNat, sI.1, c.1.toNat, sO.1⟩ else none
  else none
def zeroTx : AV := .tuple [.agg [.int .i64 0, .nilslice, .nilslice], .int .i64 170]
def nuD (F : List Int → Int × Int) (xs : List Int) (o : Nat) (most : Int) : Int × Nat := (rdN F xs o most).getD (0, 0)
theorem nuD_some {F : List Int → Int × Int} {xs : List Int} {o p : Nat} {most v : Int} (h : rdN F xs o most = some (v, p)) : v = (nuD F xs o most).1 ∧ p = (nuD F xs o most).2 := by unfold nuD; rw [h]; exact ⟨rfl, rfl⟩
theorem nuD_le {xs : List Int} {o : Nat} {most : Int} (ho : o ≤ xs.length) : (nuD (firstB numW) xs o most).2 ≤ xs.length := by
  unfold nuD
  cases h : rdN (firstB numW) xs o most with
  | none => exact Nat.zero_le _
  | some a => exact (rdN_le (v := a.1) (p := a.2) ho h).2.1
theorem parse_pure (xs : List Int) (L : Nat) (hL : xs.length = L) (hB : L < 90000000000000) :
    (∀ t, parseT (firstB numW) addM xs = some t → t.Ok ∧ Pure PP 11 [.vints .u8 xs L] (.tuple [.agg [.int .i64 t.num, .nslice ⟨0, 0, 130, 0, 0⟩ 130 t.N t.N, .nslice ⟨1, 0, 132, 0, 0⟩ 132 t.M t.M], .int .i64 0]) 2 [(0, .rows 130 t.N (inRows t.ins)), (1, .rows 132 t.M (outRows t.outs))]) ∧
    (parseT (firstB numW) addM xs = none → Pure PP 11 [.vints .u8 xs L] zeroTx 0 []) := by
  generalize hF : firstB numW = F at *
  let a := nuD F xs 0 2147483647
  let b := nuD F xs a.2 24
  let sI := stT inZ (rdIn F xs) b.2 b.1.toNat
  let c := nuD F xs sI.2 24
  let sO := stT outZ (rdOut F xs) c.2 c.1.toNat
  have la : a.2 ≤ xs.length := by subst hF; exact nuD_le (Nat.zero_le _)
  have lb : b.2 ≤ xs.length := by subst hF; exact nuD_le la
  have lI : ∀ i, (stT inZ (rdIn F xs) b.2 i).2 ≤ xs.length ∧ ∀ q, ((stT inZ (rdIn F xs) b.2 i).1 q).Ok := fun i => by subst hF; exact stT_lenI lb i
  have lc : c.2 ≤ xs.length := by subst hF; exact nuD_le (lI _).1
  have lO : ∀ i, (stT outZ (rdOut F xs) c.2 i).2 ≤ xs.length ∧ ∀ q, ((stT outZ (rdOut F xs) c.2 i).1 q).Ok := fun i => by subst hF; exact stT_lenO lc i
  have hE := E25_ok xs a.1 b.1 c.1 b.2 c.2 b.1.toNat sI.1
  rw [hF] at hE
  have hgoI : (((List.range b.1.toNat).all fun j => (rdIn F xs (stT inZ (rdIn F xs) b.2 j).2).isSome) = true) ↔ ∀ j, j < b.1.toNat → goT inZ (rdIn F xs) b.2 j := by
    rw [List.all_eq_true]; simp only [List.mem_range]; rfl
  have hgoO : (((List.range c.1.toNat).all fun j => (rdOut F xs (stT outZ (rdOut F xs) c.2 j).2).isSome) = true) ↔ ∀ j, j < c.1.toNat → goT outZ (rdOut F xs) c.2 j := by
    rw [List.all_eq_true]; simp only [List.mem_range]; rfl
  constructor
  · intro t ht
    unfold parseT at ht
    simp only [Option.bind_eq_some_iff] at ht
    obtain ⟨a', h0, b', h1, ht⟩ := ht
    have ea : a' = a := Prod.ext (nuD_some h0).1 (nuD_some h0).2
    subst ea
    have eb : b' = b := Prod.ext (nuD_some h1).1 (nuD_some h1).2
    subst eb
    split at ht
    case isFalse => cases ht
    rename_i hI
    simp only [Option.bind_eq_some_iff] at ht
    obtain ⟨c', h2, ht⟩ := ht
    have ec : c' = c := Prod.ext (nuD_some h2).1 (nuD_some h2).2
    subst ec
    split at ht
    case isFalse => cases ht
    rename_i hO
    cases ht
    simp only [Bool.and_eq_true, beq_iff_eq] at hO
    obtain ⟨⟨hO1, hO2⟩, hO3⟩ := hO
    have l24 : b.1 ≤ 24 ∧ c.1 ≤ 24 := by
      subst hF
      exact ⟨(rdN_le la h1).2.2, (rdN_le (lI _).1 h2).2.2⟩
    refine ⟨⟨by show b.1.toNat < _; omega, by show c.1.toNat < _; omega, fun j _ => (lI _).2 j, fun j _ => (lO _).2 j⟩, ?_⟩
    exact .evM hE (parse_1 F addM xs a.1 b.1 c.1 b.2 c.2 (rdIn F xs) (rdOut F xs) _ _ b.1.toNat c.1.toNat sI.1 sO.1 L hL hB a.2 (fun h1 h2 => ⟨h1, h2⟩) (fun h1 h2 => ⟨h1, h2⟩) (fun v p h => nuD_some h) (fun v p h => nuD_some h) rfl rfl (fun v p h => nuD_some h) (fun _ i => (lI i).1) (fun _ i => (lO i).1) (fun i => (lI i).2) (fun i => (lO i).2)
      (by rw [h0]; simp) (by rw [h1]; simp) (hgoI.1 hI) (by rw [h2]; simp) rfl rfl (hgoO.1 hO1) hO2 hO3)
  · intro hn
    refine .evM hE (parse_2 F addM xs a.1 b.1 c.1 b.2 c.2 (rdIn F xs) (rdOut F xs) _ _ b.1.toNat sI.1 L hL hB a.2 (fun h1 h2 => ⟨h1, h2⟩) (fun h1 h2 => ⟨h1, h2⟩) (fun v p h => nuD_some h) (fun v p h => nuD_some h) rfl rfl (fun v p h => nuD_some h) (fun _ i => (lI i).1) (fun _ i => (lO i).1) (fun i => (lI i).2) (fun i => (lO i).2) (fun e0 e1 eI e2 eO he hck => ?_))
    obtain ⟨a', h0⟩ := Option.ne_none_iff_exists'.1 e0
    have ea : a' = a := Prod.ext (nuD_some h0).1 (nuD_some h0).2
    subst ea
    obtain ⟨b', h1⟩ := Option.ne_none_iff_exists'.1 e1
    have eb : b' = b := Prod.ext (nuD_some h1).1 (nuD_some h1).2
    subst eb
    obtain ⟨c', h2⟩ := Option.ne_none_iff_exists'.1 e2
    have ec : c' = c := Prod.ext (nuD_some h2).1 (nuD_some h2).2
    subst ec
    unfold parseT at hn
    rw [h0] at hn
    simp only [Option.bind_some] at hn
    rw [h1] at hn
    simp only [Option.bind_some] at hn
    rw [if_pos (hgoI.2 eI)] at hn
    rw [h2] at hn
    simp only [Option.bind_some] at hn
    rw [if_pos (by rw [Bool.and_eq_true, Bool.and_eq_true, beq_iff_eq]; exact ⟨⟨hgoO.2 eO, he⟩, hck⟩)] at hn
    cases hn
def parseS (R : List Int → Option TxS) : FSumm := fun args h K => viewL none h true 20 args fun a => match a with
  | [.vints .u8 xs n] => need (xs.length = n ∧ n < 90000000000000) ((∀ t, R xs = some t → t.Ok → K (.ret (.tuple [.agg [.int .i64 t.num, .nslice ⟨h.next, 0, 130, 0, 0⟩ 130 t.N t.N, .nslice ⟨h.next + 1, 0, 132, 0, 0⟩ 132 t.M t.M], .int .i64 0])) ⟨h.next + 2, (h.next, .rows 130 t.N (inRows t.ins)) :: (h.next + 1, .rows 132 t.M (outRows t.outs)) :: h.bs⟩) ∧
    (R xs = none → K (.ret zeroTx) ⟨h.next, h.bs⟩))
  | _ => False
theorem parseS_ok (args : List AV) (h : Heap) (K : KO) (hl : parseS (parseT (firstB numW) addM) args h K) : CallsA PP 11 args h K := by
  refine Pure.fsumm (d := 20) (viewL_weak _ _ _ _ _ hl fun a ha => ?_)
  split at ha
  · obtain ⟨⟨h1, h2⟩, hK, hK'⟩ := need_ok ha
    have hp := parse_pure _ _ h1 h2
    cases hr : parseT (firstB numW) addM _ with
    | none => exact ⟨_, _, _, _, hp.2 hr, rfl, trivial, hK' hr⟩
    | some t => exact ⟨_, _, _, _, (hp.1 t hr).2, rfl, ⟨by decide, .rows _ _ _ (fun i _ => (t.ins i).plainC), by decide, .rows _ _ _ (fun i _ => (t.outs i).plainC), trivial⟩, hK t hr (hp.1 t hr).1⟩
  · exact ha.elim
end Go.Tk
end
section
namespace Go.Tk
theorem w8m (x : Int) (h : 0 ≤ x) : IntKind.u8.wrap (Int.tmod x 256) = IntKind.u8.wrap x := by
  rw [tm h]
  unfold IntKind.wrap
  simp [IntKind.bits, IntKind.signed]
theorem shr_pos {n k : Int} (h : 0 ≤ n) : 0 ≤ shrI .i64 n k := by
  unfold shrI
  rw [Int.fdiv_eq_ediv_of_nonneg _ (by exact Int.le_of_lt (Int.pow_pos (by decide)))]
  exact Int.ediv_nonneg h (by exact Int.le_of_lt (Int.pow_pos (by decide)))
theorem b8m {n k : Int} (h : 0 ≤ n) : IntKind.u8.wrap (Int.tmod (shrI .i64 n k) 256) = b8 n k := w8m _ (shr_pos h)
set_option maxRecDepth 100000 in
set_option maxHeartbeats 0 in
theorem numr_1 (n : Int) (ys : List Int) (L : Nat) (hn : 0 ≤ n) (hy : ys = numW n) (hL : L = ys.length) :
    evF G0 20 149 [.int .i64 n] ⟨0, []⟩ (outM 0 (.ret (.nslice ⟨0, 0, 0, 0, 0⟩ 1 L L)) 1 [(0, .ints .u8 ys)]) := by
  refine @Eq.mpr _ (let q1 := [IntKind.wrap IntKind.u8 (Int.tmod (shrI IntKind.i64 n 8) 256), IntKind.wrap IntKind.u8 (Int.tmod (shrI IntKind.i64 n 0) 256)];
 let q2 := IntKind.wrap IntKind.u8 (Int.tmod (shrI IntKind.i64 n 24) 256) :: IntKind.wrap IntKind.u8 (Int.tmod (shrI IntKind.i64 n 16) 256) :: q1;
 iteB (decide (n < 253)) (iteB (decide (1 = L)) (iteB (decide (L ≤ 1)) ([IntKind.wrap IntKind.u8 n] = ys ∧ True) False) False) (iteB (decide (n < 65536)) (iteB (decide (3 = L)) (iteB (decide (L ≤ 3)) ((253 : Int) :: q1 = ys ∧ True) False) False) (iteB (decide (n < 4294967296)) (iteB (decide (5 = L)) (iteB (decide (L ≤ 5)) ((254 : Int) :: q2 = ys ∧ True) False) False) (iteB (decide (9 = L)) (iteB (decide (L ≤ 9)) ((255 : Int) :: IntKind.wrap IntKind.u8 (Int.tmod (shrI IntKind.i64 n 56) 256) :: IntKind.wrap IntKind.u8 (Int.tmod (shrI IntKind.i64 n 48) 256) :: IntKind.wrap IntKind.u8 (Int.tmod (shrI IntKind.i64 n 40) 256) :: IntKind.wrap IntKind.u8 (Int.tmod (shrI IntKind.i64 n 32) 256) :: q2 = ys ∧ True) False) False)))) (by kernel_rfl) ?_
  conv => zeta
  try simp only [need_eq]
  try simp only [nope_eq]
  try simp only [iteD_eq]
  try simp only [iteT_eq]
  try simp only [iteF_eq]
  try simp only [iteE_eq]
  try simp only [Int.toNat_natCast, Nat.zero_add, true_and, and_true, Nat.le_refl]
  subst hy hL
  refine ⟨fun h1 => ?_, fun h1 => ⟨fun h2 => ?_, fun h2 => ⟨fun h3 => ?_, fun h3 => ?_⟩⟩⟩
  · rw [numW1 h1]; simp
  · rw [numW2 h1 h2]; simp [b8m hn]
  · rw [numW3 h1 h2 h3]; simp [b8m hn]
  · rw [numW4 h1 h2 h3]; simp [b8m hn]
def numRS (W : Int → List Int) : FSumm := fun args h K => match args with
  | [.int .i64 n] => need (0 ≤ n) (K (.ret (.nslice ⟨h.next, 0, 0, 0, 0⟩ 1 (W n).length (W n).length)) ⟨h.next + 1, (h.next, .ints .u8 (W n)) :: h.bs⟩)
  | _ => False
theorem numRS_ok (args : List AV) (h : Heap) (K : KO) (hl : numRS numW args h K) : CallsA PP 149 args h K := by
  unfold numRS at hl
  split at hl
  · obtain ⟨hn, hK⟩ := need_ok hl
    exact (Pure.evM G0_ok (numr_1 _ _ _ hn rfl rfl)).calls (fun E w rs he hr => by
      cases hr with
      | cons v r vs rs h1 h2 => cases h2; exact .cons _ _ _ _ (h1.plain rfl) .nil) rfl ⟨Nat.one_pos, .ints _ _, trivial⟩ hK
  · exact hl.elim
noncomputable def E30 (W : Int → List Int) : Env2 := G0.withF 149 (numRS W)
theorem E30_ok : (E30 numW).Ok := Env2.withF_ok G0_ok numRS_ok
def valB : Nat → List Int → Nat → Int → Int
  | 0, _, _, n => n
  | m + 1, xs, k, n => valB m xs (k + 1) (256 * n + xs.getD k 0)
structure Bytes (xs : List Int) : Prop where
  h : ∀ i : Nat, 0 ≤ xs.getD i 0 ∧ xs.getD i 0 ≤ 255
theorem Bytes.drop {xs : List Int} (h : Bytes xs) (n : Nat) : Bytes (xs.drop n) := ⟨fun i => by
  have := h.h (n + i)
  rw [List.getD_eq_getElem?_getD] at this
  rw [List.getD_eq_getElem?_getD, List.getElem?_drop]
  exact this⟩
theorem wu64 {x : Int} (h : 0 ≤ x ∧ x < 18446744073709551616) : IntKind.u64.wrap x = x := by
  unfold IntKind.wrap
  simp [IntKind.bits, IntKind.signed]
  omega
theorem stepN_eq {n c : Int} (h0 : 0 ≤ n) (h1 : n < 36028797018963968) (h2 : 0 ≤ c) (h3 : c ≤ 255) : stepN n c = 256 * n + c := by
  unfold stepN bOr shlI
  have e1 : (n * 2 ^ (min (8 : Int).toNat IntKind.i64.bits)) = n * 256 := by simp [IntKind.bits]
  rw [e1, w64 (x := n * 256) (by omega)]
  obtain ⟨a, rfl⟩ := Int.eq_ofNat_of_zero_le h0
  obtain ⟨b, rfl⟩ := Int.eq_ofNat_of_zero_le h2
  have e2 : ((BitVec.ofInt IntKind.i64.bits ((a : Int) * 256)) ||| (BitVec.ofInt IntKind.i64.bits (b : Int))).toNat = 256 * a + b := by
    have ea : BitVec.ofInt 64 ((a : Int) * 256) = BitVec.ofNat 64 (a * 256) := by
      rw [← BitVec.ofInt_natCast]; rfl
    have eb : BitVec.ofInt 64 (b : Int) = BitVec.ofNat 64 b := BitVec.ofInt_natCast 64 b
    show (BitVec.ofInt 64 ((a : Int) * 256) ||| BitVec.ofInt 64 (b : Int)).toNat = _
    rw [ea, eb, BitVec.toNat_or, BitVec.toNat_ofNat, BitVec.toNat_ofNat, Nat.mod_eq_of_lt (by omega), Nat.mod_eq_of_lt (by omega)]
    have := Nat.shiftLeft_add_eq_or_of_lt (a := a) (b := b) (i := 8) (by omega)
    rw [Nat.shiftLeft_eq] at this
    rw [← this]; omega
  rw [e2, w64 (by omega)]
  omega
theorem stepN_edge {c : Int} (h2 : 0 ≤ c) (h3 : c ≤ 255) : stepN 36028797018963968 c < 0 := by
  have h : ∀ b : Fin 256, stepN 36028797018963968 (b.val : Int) < 0 := by decide +kernel
  have := h ⟨c.toNat, by omega⟩
  have e : ((c.toNat : Nat) : Int) = c := Int.toNat_of_nonneg h2
  rw [show ((⟨c.toNat, by omega⟩ : Fin 256).val : Int) = c from e] at this
  exact this
theorem valB_ge : ∀ (m : Nat) (xs : List Int) (k : Nat) (n : Int), Bytes xs → 0 ≤ n → n * 256 ^ m ≤ valB m xs k n
  | 0, xs, k, n, hb, hn => by simp [valB]
  | m + 1, xs, k, n, hb, hn => by
    have hc := hb.h k
    have := valB_ge m xs (k + 1) (256 * n + xs.getD k 0) hb (by omega)
    unfold valB
    refine Int.le_trans ?_ this
    rw [Int.pow_succ, Int.mul_comm (256 ^ m) 256, ← Int.mul_assoc]
    exact Int.mul_le_mul_of_nonneg_right (by omega) (Int.le_of_lt (Int.pow_pos (by decide)))
theorem p256mono {a b : Nat} (h : a ≤ b) : (256 : Int) ^ a ≤ 256 ^ b := by
  have h1 := Nat.pow_le_pow_right (n := 256) (by decide) h
  have h2 : ((256 ^ a : Nat) : Int) ≤ ((256 ^ b : Nat) : Int) := Int.ofNat_le.2 h1
  rw [Int.natCast_pow, Int.natCast_pow] at h2
  exact h2
theorem p256 (m : Nat) : (1 : Int) ≤ 256 ^ m := Int.pow_pos (by decide)
theorem goN_val : ∀ (m : Nat) (xs : List Int) (k : Nat) (n : Int), Bytes xs → 0 ≤ n → m ≤ 8 → n < 256 ^ (8 - m) →
    (goN m xs k n = none ∧ valB m xs k n > 4611686018427387904) ∨ (∃ v, goN m xs k n = some v ∧ ((v = valB m xs k n ∧ 0 ≤ v) ∨ (v < 0 ∧ valB m xs k n > 4611686018427387904)))
  | 0, xs, k, n, hb, hn, hm, hl => .inr ⟨n, rfl, .inl ⟨rfl, hn⟩⟩
  | m + 1, xs, k, n, hb, hn, hm, hl => by
    have hc := hb.h k
    have hge := valB_ge (m + 1) xs k n hb hn
    by_cases h1 : n > 36028797018963968
    · left
      refine ⟨by unfold goN; rw [if_pos h1], ?_⟩
      have := p256 m
      rw [Int.pow_succ] at hge
      have h2 : n * (1 * 256) ≤ n * (256 ^ m * 256) := Int.mul_le_mul_of_nonneg_left (Int.mul_le_mul_of_nonneg_right this (by decide)) hn
      omega
    · unfold goN valB
      rw [if_neg h1]
      have hw : IntKind.i64.wrap (xs.getD k 0) = xs.getD k 0 := w64 (by omega)
      rw [hw]
      by_cases h2 : n = 36028797018963968
      · subst h2
        have hm0 : m = 0 := by
          have hq : (36028797018963968 : Int) = 256 ^ 6 * 128 := by decide
          rcases Nat.eq_zero_or_pos m with h | h
          · exact h
          · exfalso
            have hle : (256 : Int) ^ (8 - (m + 1)) ≤ 256 ^ 6 := p256mono (by omega)
            have : (256 : Int) ^ 6 = 281474976710656 := by decide
            omega
        subst hm0
        right
        refine ⟨_, rfl, .inr ⟨stepN_edge hc.1 hc.2, ?_⟩⟩
        show 256 * 36028797018963968 + xs.getD k 0 > _
        omega
      · rw [stepN_eq hn (by omega) hc.1 hc.2]
        refine goN_val m xs (k + 1) _ hb (by omega) (by omega) ?_
        have e : 8 - m = (8 - (m + 1)) + 1 := by omega
        rw [e, Int.pow_succ]
        omega
theorem valB_lt : ∀ (m : Nat) (xs : List Int) (k : Nat) (n : Int), Bytes xs → 0 ≤ n → n < 256 ^ (8 - m) → m ≤ 8 → valB m xs k n < 256 ^ 8
  | 0, xs, k, n, hb, hn, hl, hm => hl
  | m + 1, xs, k, n, hb, hn, hl, hm => by
    have hc := hb.h k
    unfold valB
    refine valB_lt m xs (k + 1) _ hb (by omega) ?_ (by omega)
    have e : 8 - m = (8 - (m + 1)) + 1 := by omega
    rw [e, Int.pow_succ]
    omega
theorem firstB_eq {xs : List Int} (hb : Bytes xs) {m : Nat} (h : xs.length ≠ 0) (hm : manyB (xs.getD 0 0) = m) (hm0 : m ≠ 0) (h8 : m ≤ 8) (hl : m < xs.length) :
    firstB numW xs = if valB m xs 1 0 > 4611686018427387904 then ((0 : Int), (-1 : Int)) else if (numW (valB m xs 1 0)).length = 1 + m then (valB m xs 1 0, 1 + (m : Int)) else ((0 : Int), (-1 : Int)) := by
  rw [firstB_go h hm hm0 hl]
  have hv : ∀ (m k : Nat) (n : Int), valB m (xs.drop 1) k n = valB m xs (k + 1) n := by
    intro m
    induction m with
    | zero => intro k n; rfl
    | succ m ih =>
      intro k n
      unfold valB
      rw [ih]
      congr 2
      rw [List.getD_eq_getElem?_getD, List.getD_eq_getElem?_getD, List.getElem?_drop, Nat.add_comm]
  have hv := hv m 0 0
  rcases goN_val m (xs.drop 1) 0 0 (hb.drop 1) (by decide) h8 (p256 _) with ⟨h1, h2⟩ | ⟨v, h1, h2⟩
  · rw [h1, if_pos (by rw [← hv]; exact h2)]
  · rw [h1]
    rcases h2 with ⟨rfl, h0⟩ | ⟨h0, h2⟩
    · rw [hv]
    · show (if v > 4611686018427387904 then ((0 : Int), (-1 : Int)) else if (numW v).length = 1 + m then (v, 1 + (m : Int)) else (0, -1)) = _
      rw [if_neg (by omega), if_neg, if_pos (by rw [← hv]; exact h2)]
      rw [numW1 (by omega)]
      simp
      omega
end Go.Tk
end
section
namespace Go.Tk
theorem wstep {n c : Int} (h0 : 0 ≤ n) (h1 : n < 72057594037927936) (h2 : 0 ≤ c ∧ c ≤ 255) : IntKind.u64.wrap (IntKind.u64.wrap (256 * n) + IntKind.u64.wrap c) = 256 * n + c := by
  rw [wu64 (x := c) (by omega), wu64 (x := 256 * n) (by omega), wu64 (by omega)]
theorem wstep0 {c : Int} (h2 : 0 ≤ c ∧ c ≤ 255) : IntKind.u64.wrap (0 + IntKind.u64.wrap c) = 256 * 0 + c := by
  rw [wu64 (x := c) (by omega), wu64 (by omega)]; omega
theorem first_leaf {xs : List Int} {F : Int × Int} (hb : Bytes xs) {m : Nat} {M : Int} (hF : F = firstB numW xs) (hM : M = 1 + m) (h : xs.length ≠ 0) (hm : manyB (xs.getD 0 0) = m) (hm0 : m ≠ 0) (h8 : m ≤ 8) (hl : m < xs.length) :
    (valB m xs 1 0 > 4611686018427387904 → 0 = F.1 ∧ -1 = F.2) ∧ (¬ valB m xs 1 0 > 4611686018427387904 → 0 ≤ IntKind.i64.wrap (valB m xs 1 0) ∧
      ((((numW (IntKind.i64.wrap (valB m xs 1 0))).length : Int) != M) = true → 0 = F.1 ∧ -1 = F.2) ∧ ((((numW (IntKind.i64.wrap (valB m xs 1 0))).length : Int) != M) = false → IntKind.i64.wrap (valB m xs 1 0) = F.1 ∧ M = F.2)) := by
  have he := firstB_eq hb h hm hm0 h8 hl
  have hge := valB_ge m xs 1 0 hb (by decide)
  rw [Int.zero_mul] at hge
  generalize valB m xs 1 0 = V at *
  subst hM
  rw [hF, he]
  refine ⟨fun h1 => by rw [if_pos h1]; exact ⟨rfl, rfl⟩, fun h1 => ?_⟩
  rw [w64 (x := V) (by omega)]
  refine ⟨hge, fun h2 => ?_, fun h2 => ?_⟩
  · rw [bne_iff_ne] at h2
    rw [if_neg h1, if_neg (by omega)]
    exact ⟨rfl, rfl⟩
  · rw [bne_eq_false_iff_eq] at h2
    rw [if_neg h1, if_pos (by omega)]
    exact ⟨rfl, rfl⟩
set_option maxRecDepth 100000 in
set_option maxHeartbeats 0 in
theorem firstr_1 (W : Int → List Int) (xs : List Int) (N : Nat) (F : Int × Int) (hN : xs.length = N) (hW : W = numW) (hb : Bytes xs) (hF : F = firstB numW xs) :
    evF (E30 W) 20 170 [.vints .u8 xs N] ⟨0, []⟩ (outM 0 (.ret (.tuple [.int .i64 F.1, .int .i64 F.2])) 0 []) := by
  refine @Eq.mpr _ (let q1 := decide (0 = F.fst);
 let q2 := iteB q1 (iteB (decide (0 = F.snd)) True False) False;
 let q3 := decide ((0 : Int) ≤ 0 ∧ 0 < (↑N : Int));
 let q4 := List.getD xs 0 0;
 let q5 := q4 == 255;
 let q6 := decide ((0 : Int) ≤ 1 ∧ 1 < (↑N : Int));
 let q7 := decide ((0 : Int) ≤ 2 ∧ 2 < (↑N : Int));
 let q8 := decide ((0 : Int) ≤ 3 ∧ 3 < (↑N : Int));
 let q9 := decide ((0 : Int) ≤ 4 ∧ 4 < (↑N : Int));
 let q10 := IntKind.wrap IntKind.u64 (IntKind.wrap IntKind.u64 (256 * IntKind.wrap IntKind.u64 (0 + IntKind.wrap IntKind.u64 (List.getD xs 1 0))) + IntKind.wrap IntKind.u64 (List.getD xs 2 0));
 let q11 := IntKind.wrap IntKind.u64 (IntKind.wrap IntKind.u64 (256 * IntKind.wrap IntKind.u64 (IntKind.wrap IntKind.u64 (256 * q10) + IntKind.wrap IntKind.u64 (List.getD xs 3 0))) + IntKind.wrap IntKind.u64 (List.getD xs 4 0));
 let q12 := IntKind.wrap IntKind.u64 (IntKind.wrap IntKind.u64 (256 * IntKind.wrap IntKind.u64 (IntKind.wrap IntKind.u64 (256 * IntKind.wrap IntKind.u64 (IntKind.wrap IntKind.u64 (256 * IntKind.wrap IntKind.u64 (IntKind.wrap IntKind.u64 (256 * q11) + IntKind.wrap IntKind.u64 (List.getD xs 5 0))) + IntKind.wrap IntKind.u64 (List.getD xs 6 0))) + IntKind.wrap IntKind.u64 (List.getD xs 7 0))) + IntKind.wrap IntKind.u64 (List.getD xs 8 0));
 let q13 := iteB q1 (iteB (decide (-1 = F.snd)) True False) False;
 let q14 := IntKind.wrap IntKind.i64 q12;
 let q15 := iteB (decide ((↑N : Int) < 9)) q2 (iteB q6 (iteB q7 (iteB q8 (iteB q9 (iteB (decide ((0 : Int) ≤ 5 ∧ 5 < (↑N : Int))) (iteB (decide ((0 : Int) ≤ 6 ∧ 6 < (↑N : Int))) (iteB (decide ((0 : Int) ≤ 7 ∧ 7 < (↑N : Int))) (iteB (decide ((0 : Int) ≤ 8 ∧ 8 < (↑N : Int))) (iteB (decide (q12 > 4611686018427387904)) q13 (iteB (decide (0 ≤ q14)) (iteB ((↑(List.length (W q14)) : Int) != 9) q13 (iteB (decide (q14 = F.fst)) (iteB (decide (9 = F.snd)) True False) False)) False)) False) False) False) False) False) False) False) False);
 let q16 := IntKind.wrap IntKind.i64 q11;
 let q17 := IntKind.wrap IntKind.i64 q10;
 iteB ((↑N : Int) == 0) q2 (iteB q3 (iteB (decide (q4 < 253)) (iteB q3 (iteB (decide (IntKind.wrap IntKind.i64 q4 = F.fst)) (iteB (decide (1 = F.snd)) True False) False) False) (iteB q3 (iteB (q4 == 254) (iteB q3 (iteB q5 q15 (iteB (decide ((↑N : Int) < 5)) q2 (iteB q6 (iteB q7 (iteB q8 (iteB q9 (iteB (decide (q11 > 4611686018427387904)) q13 (iteB (decide (0 ≤ q16)) (iteB ((↑(List.length (W q16)) : Int) != 5) q13 (iteB (decide (q16 = F.fst)) (iteB (decide (5 = F.snd)) True False) False)) False)) False) False) False) False))) False) (iteB q3 (iteB q5 q15 (iteB (decide ((↑N : Int) < 3)) q2 (iteB q6 (iteB q7 (iteB (decide (q10 > 4611686018427387904)) q13 (iteB (decide (0 ≤ q17)) (iteB ((↑(List.length (W q17)) : Int) != 3) q13 (iteB (decide (q17 = F.fst)) (iteB (decide (3 = F.snd)) True False) False)) False)) False) False))) False)) False)) False)) (by kernel_rfl) ?_
  conv => zeta
  try simp only [need_eq]
  try simp only [nope_eq]
  try simp only [iteD_eq]
  try simp only [iteT_eq]
  try simp only [iteF_eq]
  try simp only [iteE_eq]
  try simp only [Int.toNat_natCast, Nat.zero_add, true_and, and_true, Nat.le_refl]
  subst hN hW
  refine ⟨fun h0 => ?_, fun h0 => ?_⟩
  · rw [hF, firstB_nil (by simp at h0; simp [h0])]; exact ⟨rfl, rfl⟩
  have h0 : xs.length ≠ 0 := by simp at h0; intro h; rw [List.length_eq_zero_iff] at h; exact h0 h
  have c0 := hb.h 0
  have c1 := hb.h 1
  have c2 := hb.h 2
  have c3 := hb.h 3
  have c4 := hb.h 4
  have c5 := hb.h 5
  have c6 := hb.h 6
  have c7 := hb.h 7
  have c8 := hb.h 8
  have e1 := wstep0 c1
  have e2 := wstep (n := 256 * 0 + xs.getD 1 0) (by omega) (by omega) c2
  have e3 := wstep (n := 256 * (256 * 0 + xs.getD 1 0) + xs.getD 2 0) (by omega) (by omega) c3
  have e4 := wstep (n := 256 * (256 * (256 * 0 + xs.getD 1 0) + xs.getD 2 0) + xs.getD 3 0) (by omega) (by omega) c4
  have e5 := wstep (n := 256 * (256 * (256 * (256 * 0 + xs.getD 1 0) + xs.getD 2 0) + xs.getD 3 0) + xs.getD 4 0) (by omega) (by omega) c5
  have e6 := wstep (n := 256 * (256 * (256 * (256 * (256 * 0 + xs.getD 1 0) + xs.getD 2 0) + xs.getD 3 0) + xs.getD 4 0) + xs.getD 5 0) (by omega) (by omega) c6
  have e7 := wstep (n := 256 * (256 * (256 * (256 * (256 * (256 * 0 + xs.getD 1 0) + xs.getD 2 0) + xs.getD 3 0) + xs.getD 4 0) + xs.getD 5 0) + xs.getD 6 0) (by omega) (by omega) c7
  have e8 := wstep (n := 256 * (256 * (256 * (256 * (256 * (256 * (256 * 0 + xs.getD 1 0) + xs.getD 2 0) + xs.getD 3 0) + xs.getD 4 0) + xs.getD 5 0) + xs.getD 6 0) + xs.getD 7 0) (by omega) (by omega) c8
  rw [e1, e2, e3, e4, e5, e6, e7, e8]
  have hl0 : (0 : Int) ≤ 0 ∧ (0 : Int) < (xs.length : Int) := by omega
  refine ⟨hl0, fun a1 => ⟨hl0, ?_⟩, fun a1 => ⟨hl0, fun a2 => ⟨hl0, fun a3 => ?_, fun a3 => ?_⟩, fun a2 => ⟨hl0, fun a3 => ?_, fun a3 => ?_⟩⟩⟩
  · rw [hF, firstB_one h0 (many0 (by omega) (by omega) (by omega))]; exact ⟨rfl, rfl⟩
  · simp at a2 a3; omega
  · have a2 : xs.getD 0 0 = 254 := by simpa using a2
    have hm := many4 (by omega) a2
    refine ⟨fun l => ?_, fun l => ?_⟩
    · rw [hF, firstB_lack h0 hm (by decide) (by omega)]; exact ⟨rfl, rfl⟩
    · and_intros
      all_goals first | omega | skip
      all_goals first | exact (first_leaf hb hF rfl h0 hm (by decide) (by decide) (by omega)).1 | exact (first_leaf hb hF rfl h0 hm (by decide) (by decide) (by omega)).2
  · have a3 : xs.getD 0 0 = 255 := by simpa using a3
    have hm := many8 (by omega) (by omega) a3
    refine ⟨fun l => ?_, fun l => ?_⟩
    · rw [hF, firstB_lack h0 hm (by decide) (by omega)]; exact ⟨rfl, rfl⟩
    · and_intros
      all_goals first | omega | skip
      all_goals first | exact (first_leaf hb hF rfl h0 hm (by decide) (by decide) (by omega)).1 | exact (first_leaf hb hF rfl h0 hm (by decide) (by decide) (by omega)).2
  · have a2 : xs.getD 0 0 ≠ 254 := by simpa using a2
    have a3 : xs.getD 0 0 ≠ 255 := by simpa using a3
    have hm := many2 (c := xs.getD 0 0) (by omega)
    refine ⟨fun l => ?_, fun l => ?_⟩
    · rw [hF, firstB_lack h0 hm (by decide) (by omega)]; exact ⟨rfl, rfl⟩
    · and_intros
      all_goals first | omega | skip
      all_goals first | exact (first_leaf hb hF rfl h0 hm (by decide) (by decide) (by omega)).1 | exact (first_leaf hb hF rfl h0 hm (by decide) (by decide) (by omega)).2
def firstrS (F : List Int → Int × Int) : PSumm := fun args h K => viewL none h true 20 args fun a => match a with
  | [.vints .u8 xs n] => (xs.length = n ∧ Bytes xs) ∧ K (.tuple [.int .i64 (F xs).1, .int .i64 (F xs).2])
  | _ => False
theorem firstrS_ok (args : List AV) (h : Heap) (K : AV → Prop) (hl : firstrS (firstB numW) args h K) : CallsA PP 170 args h fun o h' => ∃ v, o = .ret v ∧ h' = h ∧ K v := by
  refine Pure.psumm (d := 20) (viewL_weak _ _ _ _ _ hl fun a ha => ?_)
  split at ha
  · obtain ⟨⟨h1, h2⟩, hK⟩ := ha
    exact ⟨_, .evM E30_ok (firstr_1 _ _ _ _ h1 rfl h2 rfl), fun _ => rfl, hK⟩
  · exact ha.elim
end Go.Tk
end
section
namespace Go.Tk
mutual
/-- Without names; views may be. -/
def AV.vplain : AV → Bool
  | .top | .bool _ | .int _ _ | .str _ | .ptr none | .eslice | .fslice | .nilslice | .map none | .nilFunc | .nilIface | .arr _ _ _ => true
  | .vints _ _ _ | .vrows _ _ _ _ | .pview _ _ => true
  | .agg cs => vplainL cs
  | .tuple cs => vplainL cs
  | .iface _ v => v.vplain
  | _ => false
def vplainL : List AV → Bool
  | [] => true
  | v :: r => v.vplain && vplainL r
end
mutual
theorem VRel.vplain {E E' : Env} (hi : ∀ a c, E.imm a c → E'.imm a c) : ∀ (v : AV) (r : Value), v.vplain = true → VRel E v r → VRel E' v r
  | .top, r, _, _ => .top r
  | .bool b, r, _, h => h.plain rfl
  | .int k n, r, _, h => h.plain rfl
  | .str s, r, _, h => h.plain rfl
  | .ptr none, r, _, h => h.plain rfl
  | .eslice, r, _, h => h.plain rfl
  | .fslice, r, _, h => h.plain rfl
  | .nilslice, r, _, h => h.plain rfl
  | .map none, r, _, h => h.plain rfl
  | .nilFunc, r, _, h => h.plain rfl
  | .nilIface, r, _, h => h.plain rfl
  | .arr k n xs, r, _, h => h.plain rfl
  | .ptr (some p), r, hp, _ => by simp [AV.vplain] at hp
  | .nslice p a b c, r, hp, _ => by simp [AV.vplain] at hp
  | .map (some x), r, hp, _ => by simp [AV.vplain] at hp
  | .func a b c, r, hp, _ => by simp [AV.vplain] at hp
  | .yield x, r, hp, _ => by simp [AV.vplain] at hp
  | .pview cs inn, r, _, h => by
    cases h with
    | pview cs inn a vs hc hq => exact .pview cs inn a vs (CRel.mono (⟨fun _ _ h => by simp [Env.views] at h, hi⟩ : E.views.le E'.views) hc) (fun j c h => hi _ _ (hq j c h))
  | .vints k xs len, r, _, h => by
    cases h with
    | vintsNil k xs len h1 h2 => exact .vintsNil k xs len h1 h2
    | vints k xs len a cap h1 h2 hq => exact .vints k xs len a cap h1 h2 (fun i h => hi _ _ (hq i h))
  | .vrows esz n f len, r, _, h => by
    cases h with
    | vrowsNil esz n f len h1 h2 => exact .vrowsNil esz n f len h1 h2
    | vrows esz n f len a cap g h1 h2 hc hl hq => exact .vrows esz n f len a cap g h1 h2 (fun i h => CRel.mono (⟨fun _ _ h => by simp [Env.views] at h, hi⟩ : E.views.le E'.views) (hc i h)) hl (fun i j c h h' => hi _ _ (hq i j c h h'))
  | .iface t v, r, hp, h => by
    cases h with
    | iface t v x hx => exact .iface t v x (VRel.vplain hi v x (by simpa [AV.vplain] using hp) hx)
  | .agg cs, r, hp, h => by
    cases h with
    | agg cs vs hc => exact .agg cs vs (CRel.vplain hi cs vs (by simpa [AV.vplain] using hp) hc)
  | .tuple cs, r, hp, h => by
    cases h with
    | tuple _ rs hc => exact .tuple _ rs (LRel.vplain hi cs rs (by simpa [AV.vplain] using hp) hc)
theorem CRel.vplain {E E' : Env} (hi : ∀ a c, E.imm a c → E'.imm a c) : ∀ (l : List AV) (r : List Value), vplainL l = true → CRel E l r → CRel E' l r
  | [], r, _, h => by cases h; exact .nil
  | v :: l, r, hp, h => by
    simp only [vplainL, Bool.and_eq_true] at hp
    cases h with
    | one v c vs cs h0 h1 hv t => exact .one v c _ cs h0 h1 (VRel.vplain hi v c hp.1 hv) (CRel.vplain hi l cs hp.2 t)
    | arr k n xs vs cs t => exact .arr k n xs _ cs (CRel.vplain hi l cs hp.2 t)
theorem LRel.vplain {E E' : Env} (hi : ∀ a c, E.imm a c → E'.imm a c) : ∀ (l : List AV) (r : List Value), vplainL l = true → LRel E l r → LRel E' l r
  | [], r, _, h => by cases h; exact .nil
  | v :: l, r, hp, h => by
    simp only [vplainL, Bool.and_eq_true] at hp
    cases h with
    | cons v c vs cs hv t => exact .cons v c _ cs (VRel.vplain hi v c hp.1 hv) (LRel.vplain hi l cs hp.2 t)
end
def outV (R : AV → Prop) : KO := fun o _ => match o with
  | .ret u => (match u.vplain with | true => R u | false => False)
  | .panic _ => False
theorem outV_psumm {P : Program} {f : FuncId} {args : List AV} {h : Heap} {R : AV → Prop} {K : AV → Prop} (hp : vplainL args = true) (hc : CallsA P f args ⟨0, []⟩ (outV R)) (hK : ∀ u, R u → K u) :
    CallsA P f args h fun o h' => ∃ v, o = .ret v ∧ h' = h ∧ K v := by
  intro E w rs he hr
  have hemb : Emb E.views ⟨0, []⟩ w :=
    ⟨fun x _ => rfl, fun x B h => by simp [Heap.get, getB] at h, fun x B h => by simp [Heap.get, getB] at h, fun x y B B' b N N' h => by simp [Heap.get, getB] at h, he.imm, fun a c x B N _ h => by simp [Heap.get, getB] at h⟩
  refine (hc E.views w rs hemb (LRel.vplain (E := E) (E' := E.views) (fun _ _ h => h) _ _ hp hr)).mono ?_
  rintro e w' ⟨E₁, o, h', hK0, hev, hor⟩
  cases hor with
  | panic u r hr => exact hK0.elim
  | ret u r hr =>
    unfold outV at hK0
    simp only at hK0
    split at hK0
    · rename_i hu
      have hkeep : ∀ b, b < w.heap.size → w'.heap[b]? = w.heap[b]? := fun b hb => hev.keep b hb (fun ⟨x, B, N, hx, _⟩ => by simp [Heap.get, getB] at hx)
      have hemb' : Emb E h w' := by
        refine ⟨he.fresh, he.lt, fun x B hx => (he.own x B hx).congr fun b N hb => hkeep b ((he.own x B hx).lt hb), he.disj, fun a c hi => ?_, he.sep⟩
        have hcc := he.imm a c hi
        have hlt : a.block < w.heap.size := by
          rcases Nat.lt_or_ge a.block w.heap.size with hl | hg
          · exact hl
          · simp [World.cell?, Array.getElem?_eq_none hg] at hcc
        simpa [World.cell?, hkeep _ hlt] using hcc
      exact ⟨E, .ret u, h, ⟨u, rfl, rfl, hK u hK0⟩, ⟨.refl E, hemb', hev.size, hev.os, hev.tape, hev.output, fun b hb _ => hkeep b hb, fun b ho => .inl ho, fun _ _ h => h⟩, .ret _ _ (VRel.vplain (E := E₁) (E' := E) (fun a c hi => hev.imm a c hi) _ _ hu hr)⟩
    · exact hK0.elim
theorem outV_ev {G : Env2} (hG : G.Ok) {n : Nat} {f : FuncId} {args : List AV} {h : Heap} {R : AV → Prop} {K : AV → Prop} (hp : vplainL args = true) (hc : evF G n f args ⟨0, []⟩ (outV R)) (hK : ∀ u, R u → K u) :
    CallsA G.P f args h fun o h' => ∃ v, o = .ret v ∧ h' = h ∧ K v := outV_psumm hp (evF_ok hG hc) hK
end Go.Tk
end
section
namespace Go.Tk
noncomputable def E32 (F : List Int → Int × Int) : Env2 := G0.withP 170 (firstrS F)
theorem E32_ok : (E32 (firstB numW)).Ok := Env2.withP_ok G0_ok firstrS_ok
def numV (Q : List Int → Nat → Bool → Int → Prop) : AV → Prop := fun u => match u with
  | .tuple [.agg [.vints .u8 ys n, .bool b], .int .i64 v] => Q ys n b v
  | _ => False
def hashV (Q : List Int → Nat → Bool → List Int → Prop) : AV → Prop := fun u => match u with
  | .tuple [.agg [.vints .u8 ys n, .bool b], .agg [.arr .u8 32 h]] => Q ys n b h
  | _ => False
set_option maxRecDepth 100000 in
set_option maxHeartbeats 0 in
theorem rrn_1 (F : List Int → Int × Int) (ys : List Int) (n : Nat) (most : Int) (Q : List Int → Nat → Bool → Int → Prop) (hn : ys.length = n) (hb : Bytes ys) (hm : 0 ≤ most) (hF : ∀ ys, (F ys).2 ≤ ys.length) (h1 : 0 < (F ys).2 ∧ (F ys).1 ≤ most → Q (ys.drop (F ys).2.toNat) (n - (F ys).2.toNat) false (F ys).1) (h2 : ¬ (0 < (F ys).2 ∧ (F ys).1 ≤ most) → Q ys n true 0) :
    evF (E32 F) 20 93 [.agg [.vints .u8 ys n, .bool false], .int .i64 most] ⟨0, []⟩ (outV (numV Q)) := by
  refine @Eq.mpr _ (let q1 := (F ys).snd;
 let q2 := some (Int.toNat q1);
 iteB (decide (most < 0)) (Q ys n false 0) ((List.length ys = n ∧ Bytes ys) ∧ iteB (decide (q1 ≤ 0)) (Q ys n true 0) (iteB (decide ((F ys).fst > most)) (Q ys n true 0) (iteB (decide (n ≤ List.length ys)) (iteB (decide (0 ≤ q1 ∧ q1 ≤ ↑n)) (Q (dropO q2 ys) (subO n q2) false (F ys).fst) False) False)))) (by kernel_rfl) ?_
  conv => zeta
  try simp only [need_eq]
  try simp only [nope_eq]
  try simp only [iteD_eq]
  try simp only [iteT_eq]
  try simp only [iteF_eq]
  try simp only [iteE_eq]
  try simp only [Int.toNat_natCast, Nat.zero_add, true_and, and_true, Nat.le_refl]
  have hle := hF ys
  refine ⟨fun h => (by omega), fun _ => ⟨⟨hn, hb⟩, fun h => h2 (by omega), fun h => ⟨fun h3 => h2 (by omega), fun h3 => ⟨by omega, ⟨by omega, by omega⟩, h1 ⟨by omega, by omega⟩⟩⟩⟩⟩
set_option maxRecDepth 100000 in
set_option maxHeartbeats 0 in
theorem rrn_2 (F : List Int → Int × Int) (ys : List Int) (n : Nat) (most : Int) (Q : List Int → Nat → Bool → Int → Prop) (h2 : Q ys n true 0) :
    evF (E32 F) 20 93 [.agg [.vints .u8 ys n, .bool true], .int .i64 most] ⟨0, []⟩ (outV (numV Q)) := by
  refine @Eq.mpr _ (Q ys n true 0) (by kernel_rfl) ?_
  exact h2
set_option maxRecDepth 100000 in
set_option maxHeartbeats 0 in
theorem rrh_1 (ys : List Int) (n : Nat) (Q : List Int → Nat → Bool → List Int → Prop) (hn : ys.length = n) (h1 : 32 ≤ n → Q (ys.drop 32) (n - 32) false (ys.take 32)) (h2 : n < 32 → Q ys n true zero32) :
    evF G0 20 148 [.agg [.vints .u8 ys n, .bool false]] ⟨0, []⟩ (outV (hashV Q)) := by
  refine @Eq.mpr _ (let q1 := decide (n ≤ List.length ys);
 let q2 := decide ((0 : Int) ≤ 32 ∧ 32 ≤ (↑(List.length ys) : Int));
 let q3 := dropO none ys;
 let q4 := spl zero32 0 (List.take 32 (List.take 32 q3));
 let q5 := q4 = q4;
 iteB (decide (32 > (↑n : Int))) (zero32 = zero32 ∧ Q ys n true zero32) (iteB q1 (iteB (decide ((0 : Int) ≤ 32 ∧ 32 ≤ (↑n : Int))) (iteB q1 (iteB q2 (iteB q1 (iteB q2 (q3 = q3 ∧ ys = ys ∧ iteB (decide (n = n)) (q5 ∧ q5 ∧ Q (dropO (some 32) ys) (subO n (some 32)) false q4) False) False) False) False) False) False) False)) (by kernel_rfl) ?_
  conv => zeta
  try simp only [need_eq]
  try simp only [nope_eq]
  try simp only [iteD_eq]
  try simp only [iteT_eq]
  try simp only [iteF_eq]
  try simp only [iteE_eq]
  try simp only [Int.toNat_natCast, Nat.zero_add, true_and, and_true, Nat.le_refl]
  subst hn
  refine ⟨fun h => h2 (by omega), fun h => ?_⟩
  have hl : (ys.take 32).length = 32 := by rw [List.length_take]; omega
  have hd : List.take 32 (List.take 32 (dropO none ys)) = ys.take 32 := by rw [show dropO none ys = ys from rfl, List.take_take]; rfl
  have hs : spl zero32 0 (ys.take 32) = ys.take 32 := by
    unfold spl
    rw [List.take_zero, List.nil_append, hl]
    simp [zero32]
  rw [hd, hs]
  have := h1 (by omega)
  and_intros <;> first | trivial | rfl | omega | exact this
set_option maxRecDepth 100000 in
set_option maxHeartbeats 0 in
theorem rrh_2 (ys : List Int) (n : Nat) (Q : List Int → Nat → Bool → List Int → Prop) (h2 : Q ys n true zero32) :
    evF G0 20 148 [.agg [.vints .u8 ys n, .bool true]] ⟨0, []⟩ (outV (hashV Q)) := by
  refine @Eq.mpr _ (zero32 = zero32 ∧ Q ys n true zero32) (by kernel_rfl) ?_
  exact ⟨rfl, h2⟩
def caseK (v : Int) (K : Int → Prop) : Nat → Prop
  | 0 => v = 0 → K 0
  | m + 1 => caseK v K m ∧ (v = ((m + 1 : Nat) : Int) → K ((m + 1 : Nat) : Int))
theorem caseK_ok {v : Int} {K : Int → Prop} : ∀ {m : Nat}, caseK v K m → 0 ≤ v → v ≤ m → K v
  | 0, h, h0, h1 => by
    have : v = 0 := by omega
    subst this
    exact h rfl
  | m + 1, h, h0, h1 => by
    by_cases hv : v = ((m + 1 : Nat) : Int)
    · subst hv; exact h.2 rfl
    · exact caseK_ok h.1 h0 (by omega)
theorem firstB_pos {xs : List Int} (hb : Bytes xs) : 0 ≤ (firstB numW xs).1 := by
  by_cases h0 : xs.length = 0
  · rw [firstB_nil h0]; exact Int.le_refl 0
  by_cases hm : manyB (xs.getD 0 0) = 0
  · rw [firstB_one h0 hm]
    have := hb.h 0
    show 0 ≤ IntKind.i64.wrap _
    rw [w64 (by omega)]; omega
  by_cases hl : xs.length ≤ manyB (xs.getD 0 0)
  · rw [firstB_lack h0 rfl hm hl]; exact Int.le_refl 0
  have h8 : manyB (xs.getD 0 0) ≤ 8 := by unfold manyB; split <;> (try split) <;> (try split) <;> omega
  rw [firstB_eq hb h0 rfl hm h8 (by omega)]
  have hge := valB_ge (manyB (xs.getD 0 0)) xs 1 0 hb (by decide)
  split
  · exact Int.le_refl 0
  · split
    · show 0 ≤ valB _ _ _ _; omega
    · exact Int.le_refl 0
def small (most : Int) (v : Int) (K : Int → Prop) : Prop := match decide (0 ≤ most ∧ most ≤ 6) with
  | true => caseK v K most.toNat
  | false => K v
theorem small_ok {most v : Int} {K : Int → Prop} (h : small most v K) (h0 : 0 ≤ v) (h1 : v ≤ most) : K v := by
  unfold small at h
  split at h
  · rename_i hd
    have := of_decide_eq_true hd
    exact caseK_ok h h0 (by omega)
  · exact h
def numrS (F : List Int → Int × Int) : PSumm := fun args _ K => match args with
  | [.agg [.top, .bool true], .int .i64 _] => K (.tuple [.agg [.top, .bool true], .int .i64 0])
  | [.agg [.vints .u8 ys n, .bool b], .int .i64 most] => match b with
    | true => K (.tuple [.agg [.vints .u8 ys n, .bool true], .int .i64 0])
    | false => ∃ xs o, ys = xs.drop o ∧ (n = xs.length - o ∧ o ≤ xs.length ∧ Bytes xs ∧ 0 ≤ most) ∧
      (∀ v p, rdN F xs o most = some (v, p) → (o ≤ p ∧ p ≤ xs.length ∧ 0 ≤ v ∧ v ≤ most) → small most v fun v => K (.tuple [.agg [.vints .u8 (xs.drop p) (xs.length - p), .bool false], .int .i64 v])) ∧
      (rdN F xs o most = none → K (.tuple [.agg [.vints .u8 (xs.drop o) (xs.length - o), .bool true], .int .i64 0]))
  | _ => False
theorem numV_of {Q : List Int → Nat → Bool → Int → Prop} {u : AV} (h : numV Q u) : ∃ ys n b v, u = .tuple [.agg [.vints .u8 ys n, .bool b], .int .i64 v] ∧ Q ys n b v := by
  unfold numV at h
  split at h
  · exact ⟨_, _, _, _, rfl, h⟩
  · exact h.elim
theorem hashV_of {Q : List Int → Nat → Bool → List Int → Prop} {u : AV} (h : hashV Q u) : ∃ ys n b v, u = .tuple [.agg [.vints .u8 ys n, .bool b], .agg [.arr .u8 32 v]] ∧ Q ys n b v := by
  unfold hashV at h
  split at h
  · exact ⟨_, _, _, _, rfl, h⟩
  · exact h.elim
def numV3 (Q : Int → Prop) : AV → Prop := fun u => match u with
  | .tuple [.agg [.top, .bool true], .int .i64 v] => Q v
  | _ => False
theorem numV3_of {Q : Int → Prop} {u : AV} (h : numV3 Q u) : ∃ v, u = .tuple [.agg [.top, .bool true], .int .i64 v] ∧ Q v := by
  unfold numV3 at h
  split at h
  · exact ⟨_, rfl, h⟩
  · exact h.elim
set_option maxRecDepth 100000 in
set_option maxHeartbeats 0 in
theorem rrn_3 (F : List Int → Int × Int) (most : Int) (Q : Int → Prop) (h2 : Q 0) :
    evF (E32 F) 20 93 [.agg [.top, .bool true], .int .i64 most] ⟨0, []⟩ (outV (numV3 Q)) := by
  refine @Eq.mpr _ (Q 0) (by kernel_rfl) ?_
  exact h2
theorem numrS_ok (args : List AV) (h : Heap) (K : AV → Prop) (hl : numrS (firstB numW) args h K) : CallsA PP 93 args h fun o h' => ∃ v, o = .ret v ∧ h' = h ∧ K v := by
  unfold numrS at hl
  split at hl
  · exact outV_ev E32_ok rfl (rrn_3 _ _ (fun v => K (.tuple [.agg [.top, .bool true], .int .i64 v])) hl) (fun u hu => by obtain ⟨_, rfl, hq⟩ := numV3_of hu; exact hq)
  · rename_i ys n b most
    split at hl
    · exact outV_ev E32_ok rfl (rrn_2 _ ys n most (fun ys n b v => K (.tuple [.agg [.vints .u8 ys n, .bool b], .int .i64 v])) hl) (fun u hu => by obtain ⟨_, _, _, _, rfl, hq⟩ := numV_of hu; exact hq)
    · obtain ⟨xs, o, rfl, ⟨rfl, h1, h2, h3⟩, hK, hK'⟩ := hl
      refine outV_ev E32_ok rfl (rrn_1 _ (xs.drop o) (xs.length - o) most (fun ys n b v => K (.tuple [.agg [.vints .u8 ys n, .bool b], .int .i64 v])) (List.length_drop ..) (h2.drop o) h3 (fun _ => firstB_le _ _) (fun hc => ?_) (fun hc => hK' (by unfold rdN; rw [if_neg hc]))) (fun u hu => by obtain ⟨_, _, _, _, rfl, hq⟩ := numV_of hu; exact hq)
      have hle := firstB_le numW (xs.drop o)
      rw [List.length_drop] at hle
      have f1 : o ≤ o + (firstB numW (xs.drop o)).2.toNat ∧ o + (firstB numW (xs.drop o)).2.toNat ≤ xs.length ∧ 0 ≤ (firstB numW (xs.drop o)).1 ∧ (firstB numW (xs.drop o)).1 ≤ most := ⟨by omega, by omega, firstB_pos (h2.drop o), hc.2⟩
      have := small_ok (hK _ _ (by unfold rdN; rw [if_pos hc]) f1) f1.2.2.1 f1.2.2.2
      rw [List.drop_drop]
      rw [show xs.length - o - (firstB numW (xs.drop o)).2.toNat = xs.length - (o + (firstB numW (xs.drop o)).2.toNat) by omega]
      exact this
  · exact hl.elim
def hashrS : PSumm := fun args _ K => match args with
  | [.agg [.vints .u8 ys n, .bool b]] => match b with
    | true => K (.tuple [.agg [.vints .u8 ys n, .bool true], .agg [.arr .u8 32 zero32]])
    | false => ∃ xs o, ys = xs.drop o ∧ (n = xs.length - o ∧ o ≤ xs.length) ∧
      (∀ v p, rdH xs o = some (v, p) → (o ≤ p ∧ p ≤ xs.length ∧ v.length = 32) → K (.tuple [.agg [.vints .u8 (xs.drop p) (xs.length - p), .bool false], .agg [.arr .u8 32 v]])) ∧
      (rdH xs o = none → K (.tuple [.agg [.vints .u8 (xs.drop o) (xs.length - o), .bool true], .agg [.arr .u8 32 zero32]]))
  | _ => False
theorem hashrS_ok (args : List AV) (h : Heap) (K : AV → Prop) (hl : hashrS args h K) : CallsA PP 148 args h fun o h' => ∃ v, o = .ret v ∧ h' = h ∧ K v := by
  unfold hashrS at hl
  split at hl
  · rename_i ys n b
    split at hl
    · exact outV_ev G0_ok rfl (rrh_2 ys n (fun ys n b v => K (.tuple [.agg [.vints .u8 ys n, .bool b], .agg [.arr .u8 32 v]])) hl) (fun u hu => by obtain ⟨_, _, _, _, rfl, hq⟩ := hashV_of hu; exact hq)
    · obtain ⟨xs, o, rfl, ⟨rfl, h1⟩, hK, hK'⟩ := hl
      refine outV_ev G0_ok rfl (rrh_1 (xs.drop o) (xs.length - o) (fun ys n b v => K (.tuple [.agg [.vints .u8 ys n, .bool b], .agg [.arr .u8 32 v]])) (List.length_drop ..) (fun hc => ?_) (fun hc => hK' (by unfold rdH; rw [if_neg (by omega)]))) (fun u hu => by obtain ⟨_, _, _, _, rfl, hq⟩ := hashV_of hu; exact hq)
      have f1 : o ≤ o + 32 ∧ o + 32 ≤ xs.length ∧ ((xs.drop o).take 32).length = 32 := ⟨by omega, by omega, by rw [List.length_take, List.length_drop]; omega⟩
      have := hK _ _ (by unfold rdH; rw [if_pos (by omega)]) f1
      rw [List.drop_drop]
      rw [show xs.length - o - 32 = xs.length - (o + 32) by omega]
      exact this
  · exact hl.elim
end Go.Tk
end
section
namespace Go.Tk
noncomputable def E33 (F : List Int → Int × Int) : Env2 := (G0.withP 93 (numrS F)).withP 148 hashrS
theorem E33_ok : (E33 (firstB numW)).Ok := Env2.withP_ok (Env2.withP_ok G0_ok numrS_ok) hashrS_ok
def rdInR (F : List Int → Int × Int) (xs : List Int) (o : Nat) : Option (InS × Nat) :=
  (rdH xs o).bind fun a => (rdN F xs a.2 23).bind fun b => (rdN F xs b.2 6).bind fun c =>
  (rdHif (decide (c.1 ≠ 4)) xs c.2).bind fun d => (rdHif (decide (c.1 = 1)) xs d.2).bind fun e => (rdHif (decide (c.1 = 4 ∨ c.1 = 5)) xs e.2).bind fun f =>
  some (⟨a.1, b.1, c.1, d.1, e.1, f.1⟩, f.2)
def rdOutR (F : List Int → Int × Int) (xs : List Int) (o : Nat) : Option (OutS × Nat) :=
  (rdN F xs o 5).bind fun a => (rdN F xs a.2 1125899906842624).bind fun b =>
  (rdH xs b.2).bind fun c => (rdHif (decide (a.1 = 2 ∨ a.1 = 4 ∨ a.1 = 5)) xs c.2).bind fun d => (rdHif (decide (3 ≤ a.1)) xs d.2).bind fun e => (rdHif (decide (4 ≤ a.1)) xs e.2).bind fun f =>
  (rdNif (decide (3 ≤ a.1)) F xs f.2 2147483647).bind fun g => (rdNif (decide (4 ≤ a.1)) F xs g.2 2147483647).bind fun h =>
  some (⟨a.1, b.1, c.1, d.1, e.1, f.1, g.1, h.1⟩, h.2)
def inV (Q : List Int → Nat → Bool → InS → Prop) : AV → Prop := fun u => match u with
  | .tuple [.agg [.vints .u8 ys n, .bool b], .agg [.arr .u8 32 nm, .int .i64 ix, .int .i64 wy, .arr .u8 32 tg, .arr .u8 32 al, .arr .u8 32 se]] => Q ys n b ⟨nm, ix, wy, tg, al, se⟩
  | _ => False
def outVv (Q : List Int → Nat → Bool → OutS → Prop) : AV → Prop := fun u => match u with
  | .tuple [.agg [.vints .u8 ys n, .bool b], .agg [.int .i64 k, .int .i64 am, .arr .u8 32 ow, .arr .u8 32 ot, .arr .u8 32 po, .arr .u8 32 ha, .int .i64 de, .int .i64 ex]] => Q ys n b ⟨k, am, ow, ot, po, ha, de, ex⟩
  | _ => False
set_option maxRecDepth 100000 in
set_option maxHeartbeats 0 in
theorem rin_1 (F : List Int → Int × Int) (xs : List Int) (o n : Nat) (Q : List Int → Nat → Bool → InS → Prop) (hn : n = xs.length - o) (ho : o ≤ xs.length) (hb : Bytes xs) (h1 : ∀ x p, rdInR F xs o = some (x, p) → Q (xs.drop p) (xs.length - p) false x) (h2 : rdInR F xs o = none → ∀ ys n x, x.Ok → Q ys n true x) :
    evF (E33 F) 20 94 [.agg [.vints .u8 (xs.drop o) n, .bool false]] ⟨0, []⟩ (outV (inV Q)) := by
  refine @Eq.mpr _ (∃ (xs_1 : List Int),
 let q1 := List.length xs_1;
 ∃ (o_1 : Nat),
 List.drop o xs = List.drop o_1 xs_1 ∧
 (n = q1 - o_1 ∧ o_1 ≤ q1) ∧
 (∀ (v : List Int) (p : Nat),
 rdH xs_1 o_1 = some (v, p) →
 o_1 ≤ p ∧ p ≤ q1 ∧ List.length v = 32 →
 ∃ (xs : List Int),
 let q3 := List.length xs;
 ∃ (o : Nat),
 let q5 := rdN F xs o 23;
 List.drop p xs_1 = List.drop o xs ∧
 (q1 - p = q3 - o ∧ o ≤ q3 ∧ Bytes xs ∧ (0 : Int) ≤ 23) ∧
 (∀ (v_1 : Int),
 let q7 := decide (v_1 = v_1);
 ∀ (p : Nat),
 q5 = some (v_1, p) →
 o ≤ p ∧ p ≤ q3 ∧ 0 ≤ v_1 ∧ v_1 ≤ 23 →
 ∃ (xs_2 : List Int),
 let q9 := List.length xs_2;
 let q10 := InS.mk v v_1 0 zero32 zero32 zero32;
 ∃ (o : Nat),
 let q13 := rdN F xs_2 o 6;
 List.drop p xs = List.drop o xs_2 ∧
 (q3 - p = q9 - o ∧ o ≤ q9 ∧ Bytes xs_2 ∧ (0 : Int) ≤ 6) ∧
 (∀ (v_2 : Int) (p : Nat),
 q13 = some (v_2, p) →
 o ≤ p ∧ p ≤ q9 ∧ 0 ≤ v_2 ∧ v_2 ≤ 6 →
 ((((((v_2 = 0 →
 ∃ (xs : List Int),
 let q15 := List.length xs;
 ∃ (o : Nat), List.drop p xs_2 = List.drop o xs ∧ (q9 - p = q15 - o ∧ o ≤ q15) ∧ (∀ (v_3 : List Int) (p : Nat), rdH xs o = some (v_3, p) → o ≤ p ∧ p ≤ q15 ∧ List.length v_3 = 32 → v = v ∧ iteB q7 (v_3 = v_3 ∧ zero32 = zero32 ∧ zero32 = zero32 ∧ Q (List.drop p xs) (q15 - p) false (InS.mk v v_1 0 v_3 zero32 zero32)) False) ∧ (rdH xs o = none → v = v ∧ iteB q7 (zero32 = zero32 ∧ zero32 = zero32 ∧ zero32 = zero32 ∧ Q (List.drop o xs) (q15 - o) true q10) False)) ∧
 (v_2 = 1 →
 ∃ (xs : List Int),
 let q15 := List.length xs;
 ∃ (o : Nat),
 List.drop p xs_2 = List.drop o xs ∧
 (q9 - p = q15 - o ∧ o ≤ q15) ∧
 (∀ (v_3 : List Int) (p : Nat),
 rdH xs o = some (v_3, p) →
 o ≤ p ∧ p ≤ q15 ∧ List.length v_3 = 32 →
 ∃ (xs_3 : List Int),
 let q17 := List.length xs_3;
 ∃ (o : Nat), List.drop p xs = List.drop o xs_3 ∧ (q15 - p = q17 - o ∧ o ≤ q17) ∧ (∀ (v_4 : List Int) (p : Nat), rdH xs_3 o = some (v_4, p) → o ≤ p ∧ p ≤ q17 ∧ List.length v_4 = 32 → v = v ∧ iteB q7 (v_3 = v_3 ∧ v_4 = v_4 ∧ zero32 = zero32 ∧ Q (List.drop p xs_3) (q17 - p) false (InS.mk v v_1 1 v_3 v_4 zero32)) False) ∧ (rdH xs_3 o = none → v = v ∧ iteB q7 (v_3 = v_3 ∧ zero32 = zero32 ∧ zero32 = zero32 ∧ Q (List.drop o xs_3) (q17 - o) true (InS.mk v v_1 1 v_3 zero32 zero32)) False)) ∧
 (rdH xs o = none → v = v ∧ iteB q7 (zero32 = zero32 ∧ zero32 = zero32 ∧ zero32 = zero32 ∧ Q (List.drop o xs) (q15 - o) true (InS.mk v v_1 1 zero32 zero32 zero32)) False))) ∧
 (v_2 = 2 →
 ∃ (xs : List Int),
 let q15 := List.length xs;
 ∃ (o : Nat), List.drop p xs_2 = List.drop o xs ∧ (q9 - p = q15 - o ∧ o ≤ q15) ∧ (∀ (v_3 : List Int) (p : Nat), rdH xs o = some (v_3, p) → o ≤ p ∧ p ≤ q15 ∧ List.length v_3 = 32 → v = v ∧ iteB q7 (v_3 = v_3 ∧ zero32 = zero32 ∧ zero32 = zero32 ∧ Q (List.drop p xs) (q15 - p) false (InS.mk v v_1 2 v_3 zero32 zero32)) False) ∧ (rdH xs o = none → v = v ∧ iteB q7 (zero32 = zero32 ∧ zero32 = zero32 ∧ zero32 = zero32 ∧ Q (List.drop o xs) (q15 - o) true (InS.mk v v_1 2 zero32 zero32 zero32)) False))) ∧
 (v_2 = 3 →
 ∃ (xs : List Int),
 let q15 := List.length xs;
 ∃ (o : Nat), List.drop p xs_2 = List.drop o xs ∧ (q9 - p = q15 - o ∧ o ≤ q15) ∧ (∀ (v_3 : List Int) (p : Nat), rdH xs o = some (v_3, p) → o ≤ p ∧ p ≤ q15 ∧ List.length v_3 = 32 → v = v ∧ iteB q7 (v_3 = v_3 ∧ zero32 = zero32 ∧ zero32 = zero32 ∧ Q (List.drop p xs) (q15 - p) false (InS.mk v v_1 3 v_3 zero32 zero32)) False) ∧ (rdH xs o = none → v = v ∧ iteB q7 (zero32 = zero32 ∧ zero32 = zero32 ∧ zero32 = zero32 ∧ Q (List.drop o xs) (q15 - o) true (InS.mk v v_1 3 zero32 zero32 zero32)) False))) ∧
 (v_2 = 4 →
 ∃ (xs : List Int),
 let q15 := List.length xs;
 ∃ (o : Nat), List.drop p xs_2 = List.drop o xs ∧ (q9 - p = q15 - o ∧ o ≤ q15) ∧ (∀ (v_3 : List Int) (p : Nat), rdH xs o = some (v_3, p) → o ≤ p ∧ p ≤ q15 ∧ List.length v_3 = 32 → v = v ∧ iteB q7 (zero32 = zero32 ∧ zero32 = zero32 ∧ v_3 = v_3 ∧ Q (List.drop p xs) (q15 - p) false (InS.mk v v_1 4 zero32 zero32 v_3)) False) ∧ (rdH xs o = none → v = v ∧ iteB q7 (zero32 = zero32 ∧ zero32 = zero32 ∧ zero32 = zero32 ∧ Q (List.drop o xs) (q15 - o) true (InS.mk v v_1 4 zero32 zero32 zero32)) False))) ∧
 (v_2 = 5 →
 ∃ (xs : List Int),
 let q15 := List.length xs;
 ∃ (o : Nat),
 List.drop p xs_2 = List.drop o xs ∧
 (q9 - p = q15 - o ∧ o ≤ q15) ∧
 (∀ (v_3 : List Int) (p : Nat),
 rdH xs o = some (v_3, p) →
 o ≤ p ∧ p ≤ q15 ∧ List.length v_3 = 32 →
 ∃ (xs_3 : List Int),
 let q17 := List.length xs_3;
 ∃ (o : Nat), List.drop p xs = List.drop o xs_3 ∧ (q15 - p = q17 - o ∧ o ≤ q17) ∧ (∀ (v_4 : List Int) (p : Nat), rdH xs_3 o = some (v_4, p) → o ≤ p ∧ p ≤ q17 ∧ List.length v_4 = 32 → v = v ∧ iteB q7 (v_3 = v_3 ∧ zero32 = zero32 ∧ v_4 = v_4 ∧ Q (List.drop p xs_3) (q17 - p) false (InS.mk v v_1 5 v_3 zero32 v_4)) False) ∧ (rdH xs_3 o = none → v = v ∧ iteB q7 (v_3 = v_3 ∧ zero32 = zero32 ∧ zero32 = zero32 ∧ Q (List.drop o xs_3) (q17 - o) true (InS.mk v v_1 5 v_3 zero32 zero32)) False)) ∧
 (rdH xs o = none → v = v ∧ iteB q7 (zero32 = zero32 ∧ zero32 = zero32 ∧ zero32 = zero32 ∧ Q (List.drop o xs) (q15 - o) true (InS.mk v v_1 5 zero32 zero32 zero32)) False))) ∧
 (v_2 = 6 →
 ∃ (xs : List Int),
 let q15 := List.length xs;
 ∃ (o : Nat), List.drop p xs_2 = List.drop o xs ∧ (q9 - p = q15 - o ∧ o ≤ q15) ∧ (∀ (v_3 : List Int) (p : Nat), rdH xs o = some (v_3, p) → o ≤ p ∧ p ≤ q15 ∧ List.length v_3 = 32 → v = v ∧ iteB q7 (v_3 = v_3 ∧ zero32 = zero32 ∧ zero32 = zero32 ∧ Q (List.drop p xs) (q15 - p) false (InS.mk v v_1 6 v_3 zero32 zero32)) False) ∧ (rdH xs o = none → v = v ∧ iteB q7 (zero32 = zero32 ∧ zero32 = zero32 ∧ zero32 = zero32 ∧ Q (List.drop o xs) (q15 - o) true (InS.mk v v_1 6 zero32 zero32 zero32)) False))) ∧
 (q13 = none → v = v ∧ iteB q7 (zero32 = zero32 ∧ zero32 = zero32 ∧ zero32 = zero32 ∧ Q (List.drop o xs_2) (q9 - o) true q10) False)) ∧
 (q5 = none → v = v ∧ zero32 = zero32 ∧ zero32 = zero32 ∧ zero32 = zero32 ∧ Q (List.drop o xs) (q3 - o) true (InS.mk v 0 0 zero32 zero32 zero32))) ∧
 (rdH xs_1 o_1 = none → zero32 = zero32 ∧ zero32 = zero32 ∧ zero32 = zero32 ∧ zero32 = zero32 ∧ Q (List.drop o_1 xs_1) (q1 - o_1) true (InS.mk zero32 0 0 zero32 zero32 zero32))) (by kernel_rfl) ?_
  conv => zeta
  try simp only [need_eq]
  try simp only [nope_eq]
  try simp only [iteD_eq]
  try simp only [iteT_eq]
  try simp only [iteF_eq]
  try simp only [iteE_eq]
  try simp only [Int.toNat_natCast, Nat.zero_add, true_and, and_true, Nat.le_refl]
  subst hn
  cases h : rdInR F xs o with
  | none =>
    have h2 := h2 h
    clear h1
    repeat' (first | (refine ⟨xs, _, rfl, ?_⟩) | (refine And.intro ?_ ?_) | intro _)
    all_goals first | omega | exact hb | trivial | (exact h2 _ _ _ ⟨by first | rfl | simp [*], by first | rfl | simp [*], by first | rfl | simp [*], by first | rfl | simp [*]⟩) | skip
    all_goals (exfalso; simp [rdInR, rdHif, *] at h)
  | some xp =>
    obtain ⟨x, p⟩ := xp
    have h1 := h1 x p h
    clear h2
    repeat' (first | (refine ⟨xs, _, rfl, ?_⟩) | (refine And.intro ?_ ?_) | intro _)
    all_goals first | omega | exact hb | trivial | skip
    all_goals (simp [rdInR, rdHif, *] at h)
    all_goals (obtain ⟨rfl, rfl⟩ := h; exact h1)
set_option maxRecDepth 100000 in
set_option maxHeartbeats 0 in
theorem rout_1 (F : List Int → Int × Int) (xs : List Int) (o n : Nat) (Q : List Int → Nat → Bool → OutS → Prop) (hn : n = xs.length - o) (ho : o ≤ xs.length) (hb : Bytes xs) (h1 : ∀ x p, rdOutR F xs o = some (x, p) → Q (xs.drop p) (xs.length - p) false x) (h2 : rdOutR F xs o = none → ∀ ys n x, x.Ok → Q ys n true x) :
    evF (E33 F) 20 95 [.agg [.vints .u8 (xs.drop o) n, .bool false]] ⟨0, []⟩ (outV (outVv Q)) := by
  refine @Eq.mpr _ (∃ (xs_1 : List Int),
 let q1 := List.length xs_1;
 let q2 := OutS.mk 0 0 zero32 zero32 zero32 zero32 0 0;
 ∃ (o_1 : Nat),
 let q5 := rdN F xs_1 o_1 5;
 List.drop o xs = List.drop o_1 xs_1 ∧
 (n = q1 - o_1 ∧ o_1 ≤ q1 ∧ Bytes xs_1 ∧ (0 : Int) ≤ 5) ∧
 (∀ (v : Int) (p : Nat),
 q5 = some (v, p) →
 o_1 ≤ p ∧ p ≤ q1 ∧ 0 ≤ v ∧ v ≤ 5 →
 (((((v = 0 →
 ∃ (xs : List Int),
 let q7 := List.length xs;
 ∃ (o : Nat),
 let q9 := rdN F xs o 1125899906842624;
 List.drop p xs_1 = List.drop o xs ∧
 (q1 - p = q7 - o ∧ o ≤ q7 ∧ Bytes xs ∧ (0 : Int) ≤ 1125899906842624) ∧
 (∀ (v : Int),
 let q11 := decide (v = v);
 ∀ (p : Nat),
 q9 = some (v, p) →
 o ≤ p ∧ p ≤ q7 ∧ 0 ≤ v ∧ v ≤ 1125899906842624 →
 ∃ (xs_2 : List Int),
 let q13 := List.length xs_2;
 ∃ (o : Nat), List.drop p xs = List.drop o xs_2 ∧ (q7 - p = q13 - o ∧ o ≤ q13) ∧ (∀ (v_1 : List Int) (p : Nat), rdH xs_2 o = some (v_1, p) → o ≤ p ∧ p ≤ q13 ∧ List.length v_1 = 32 → iteB q11 (v_1 = v_1 ∧ zero32 = zero32 ∧ zero32 = zero32 ∧ zero32 = zero32 ∧ Q (List.drop p xs_2) (q13 - p) false (OutS.mk 0 v v_1 zero32 zero32 zero32 0 0)) False) ∧ (rdH xs_2 o = none → iteB q11 (zero32 = zero32 ∧ zero32 = zero32 ∧ zero32 = zero32 ∧ zero32 = zero32 ∧ Q (List.drop o xs_2) (q13 - o) true (OutS.mk 0 v zero32 zero32 zero32 zero32 0 0)) False)) ∧
 (q9 = none → zero32 = zero32 ∧ zero32 = zero32 ∧ zero32 = zero32 ∧ zero32 = zero32 ∧ Q (List.drop o xs) (q7 - o) true q2)) ∧
 (v = 1 →
 ∃ (xs : List Int),
 let q7 := List.length xs;
 ∃ (o : Nat),
 let q9 := rdN F xs o 1125899906842624;
 List.drop p xs_1 = List.drop o xs ∧
 (q1 - p = q7 - o ∧ o ≤ q7 ∧ Bytes xs ∧ (0 : Int) ≤ 1125899906842624) ∧
 (∀ (v : Int),
 let q11 := decide (v = v);
 ∀ (p : Nat),
 q9 = some (v, p) →
 o ≤ p ∧ p ≤ q7 ∧ 0 ≤ v ∧ v ≤ 1125899906842624 →
 ∃ (xs_2 : List Int),
 let q13 := List.length xs_2;
 ∃ (o : Nat), List.drop p xs = List.drop o xs_2 ∧ (q7 - p = q13 - o ∧ o ≤ q13) ∧ (∀ (v_1 : List Int) (p : Nat), rdH xs_2 o = some (v_1, p) → o ≤ p ∧ p ≤ q13 ∧ List.length v_1 = 32 → iteB q11 (v_1 = v_1 ∧ zero32 = zero32 ∧ zero32 = zero32 ∧ zero32 = zero32 ∧ Q (List.drop p xs_2) (q13 - p) false (OutS.mk 1 v v_1 zero32 zero32 zero32 0 0)) False) ∧ (rdH xs_2 o = none → iteB q11 (zero32 = zero32 ∧ zero32 = zero32 ∧ zero32 = zero32 ∧ zero32 = zero32 ∧ Q (List.drop o xs_2) (q13 - o) true (OutS.mk 1 v zero32 zero32 zero32 zero32 0 0)) False)) ∧
 (q9 = none → zero32 = zero32 ∧ zero32 = zero32 ∧ zero32 = zero32 ∧ zero32 = zero32 ∧ Q (List.drop o xs) (q7 - o) true (OutS.mk 1 0 zero32 zero32 zero32 zero32 0 0)))) ∧
 (v = 2 →
 ∃ (xs : List Int),
 let q7 := List.length xs;
 ∃ (o : Nat),
 let q9 := rdN F xs o 1125899906842624;
 List.drop p xs_1 = List.drop o xs ∧
 (q1 - p = q7 - o ∧ o ≤ q7 ∧ Bytes xs ∧ (0 : Int) ≤ 1125899906842624) ∧
 (∀ (v : Int),
 let q11 := decide (v = v);
 ∀ (p : Nat),
 q9 = some (v, p) →
 o ≤ p ∧ p ≤ q7 ∧ 0 ≤ v ∧ v ≤ 1125899906842624 →
 ∃ (xs_2 : List Int),
 let q13 := List.length xs_2;
 ∃ (o : Nat),
 List.drop p xs = List.drop o xs_2 ∧
 (q7 - p = q13 - o ∧ o ≤ q13) ∧
 (∀ (v_1 : List Int) (p : Nat),
 rdH xs_2 o = some (v_1, p) →
 o ≤ p ∧ p ≤ q13 ∧ List.length v_1 = 32 →
 ∃ (xs : List Int),
 let q15 := List.length xs;
 ∃ (o : Nat), List.drop p xs_2 = List.drop o xs ∧ (q13 - p = q15 - o ∧ o ≤ q15) ∧ (∀ (v_2 : List Int) (p : Nat), rdH xs o = some (v_2, p) → o ≤ p ∧ p ≤ q15 ∧ List.length v_2 = 32 → iteB q11 (v_1 = v_1 ∧ v_2 = v_2 ∧ zero32 = zero32 ∧ zero32 = zero32 ∧ Q (List.drop p xs) (q15 - p) false (OutS.mk 2 v v_1 v_2 zero32 zero32 0 0)) False) ∧ (rdH xs o = none → iteB q11 (v_1 = v_1 ∧ zero32 = zero32 ∧ zero32 = zero32 ∧ zero32 = zero32 ∧ Q (List.drop o xs) (q15 - o) true (OutS.mk 2 v v_1 zero32 zero32 zero32 0 0)) False)) ∧
 (rdH xs_2 o = none → iteB q11 (zero32 = zero32 ∧ zero32 = zero32 ∧ zero32 = zero32 ∧ zero32 = zero32 ∧ Q (List.drop o xs_2) (q13 - o) true (OutS.mk 2 v zero32 zero32 zero32 zero32 0 0)) False)) ∧
 (q9 = none → zero32 = zero32 ∧ zero32 = zero32 ∧ zero32 = zero32 ∧ zero32 = zero32 ∧ Q (List.drop o xs) (q7 - o) true (OutS.mk 2 0 zero32 zero32 zero32 zero32 0 0)))) ∧
 (v = 3 →
 ∃ (xs : List Int),
 let q7 := List.length xs;
 ∃ (o : Nat),
 let q9 := rdN F xs o 1125899906842624;
 List.drop p xs_1 = List.drop o xs ∧
 (q1 - p = q7 - o ∧ o ≤ q7 ∧ Bytes xs ∧ (0 : Int) ≤ 1125899906842624) ∧
 (∀ (v : Int),
 let q11 := decide (v = v);
 ∀ (p : Nat),
 q9 = some (v, p) →
 o ≤ p ∧ p ≤ q7 ∧ 0 ≤ v ∧ v ≤ 1125899906842624 →
 ∃ (xs_2 : List Int),
 let q13 := List.length xs_2;
 ∃ (o : Nat),
 List.drop p xs = List.drop o xs_2 ∧
 (q7 - p = q13 - o ∧ o ≤ q13) ∧
 (∀ (v_1 : List Int) (p : Nat),
 rdH xs_2 o = some (v_1, p) →
 o ≤ p ∧ p ≤ q13 ∧ List.length v_1 = 32 →
 ∃ (xs : List Int),
 let q15 := List.length xs;
 ∃ (o : Nat),
 List.drop p xs_2 = List.drop o xs ∧
 (q13 - p = q15 - o ∧ o ≤ q15) ∧
 (∀ (v_2 : List Int) (p : Nat),
 rdH xs o = some (v_2, p) →
 o ≤ p ∧ p ≤ q15 ∧ List.length v_2 = 32 →
 ∃ (xs_3 : List Int),
 let q17 := List.length xs_3;
 ∃ (o : Nat),
 let q19 := rdN F xs_3 o 2147483647;
 List.drop p xs = List.drop o xs_3 ∧ (q15 - p = q17 - o ∧ o ≤ q17 ∧ Bytes xs_3 ∧ (0 : Int) ≤ 2147483647) ∧ (∀ (v_3 : Int) (p : Nat), q19 = some (v_3, p) → o ≤ p ∧ p ≤ q17 ∧ 0 ≤ v_3 ∧ v_3 ≤ 2147483647 → iteB q11 (v_1 = v_1 ∧ zero32 = zero32 ∧ v_2 = v_2 ∧ zero32 = zero32 ∧ iteB (decide (v_3 = v_3)) (Q (List.drop p xs_3) (q17 - p) false (OutS.mk 3 v v_1 zero32 v_2 zero32 v_3 0)) False) False) ∧ (q19 = none → iteB q11 (v_1 = v_1 ∧ zero32 = zero32 ∧ v_2 = v_2 ∧ zero32 = zero32 ∧ Q (List.drop o xs_3) (q17 - o) true (OutS.mk 3 v v_1 zero32 v_2 zero32 0 0)) False)) ∧
 (rdH xs o = none → iteB q11 (v_1 = v_1 ∧ zero32 = zero32 ∧ zero32 = zero32 ∧ zero32 = zero32 ∧ Q (List.drop o xs) (q15 - o) true (OutS.mk 3 v v_1 zero32 zero32 zero32 0 0)) False)) ∧
 (rdH xs_2 o = none → iteB q11 (zero32 = zero32 ∧ zero32 = zero32 ∧ zero32 = zero32 ∧ zero32 = zero32 ∧ Q (List.drop o xs_2) (q13 - o) true (OutS.mk 3 v zero32 zero32 zero32 zero32 0 0)) False)) ∧
 (q9 = none → zero32 = zero32 ∧ zero32 = zero32 ∧ zero32 = zero32 ∧ zero32 = zero32 ∧ Q (List.drop o xs) (q7 - o) true (OutS.mk 3 0 zero32 zero32 zero32 zero32 0 0)))) ∧
 (v = 4 →
 ∃ (xs : List Int),
 let q7 := List.length xs;
 ∃ (o : Nat),
 let q9 := rdN F xs o 1125899906842624;
 List.drop p xs_1 = List.drop o xs ∧
 (q1 - p = q7 - o ∧ o ≤ q7 ∧ Bytes xs ∧ (0 : Int) ≤ 1125899906842624) ∧
 (∀ (v : Int),
 let q11 := decide (v = v);
 ∀ (p : Nat),
 q9 = some (v, p) →
 o ≤ p ∧ p ≤ q7 ∧ 0 ≤ v ∧ v ≤ 1125899906842624 →
 ∃ (xs_2 : List Int),
 let q13 := List.length xs_2;
 ∃ (o : Nat),
 List.drop p xs = List.drop o xs_2 ∧
 (q7 - p = q13 - o ∧ o ≤ q13) ∧
 (∀ (v_1 : List Int) (p : Nat),
 rdH xs_2 o = some (v_1, p) →
 o ≤ p ∧ p ≤ q13 ∧ List.length v_1 = 32 →
 ∃ (xs : List Int),
 let q15 := List.length xs;
 ∃ (o : Nat),
 List.drop p xs_2 = List.drop o xs ∧
 (q13 - p = q15 - o ∧ o ≤ q15) ∧
 (∀ (v_2 : List Int) (p : Nat),
 rdH xs o = some (v_2, p) →
 o ≤ p ∧ p ≤ q15 ∧ List.length v_2 = 32 →
 ∃ (xs_3 : List Int),
 let q17 := List.length xs_3;
 ∃ (o : Nat),
 List.drop p xs = List.drop o xs_3 ∧
 (q15 - p = q17 - o ∧ o ≤ q17) ∧
 (∀ (v_3 : List Int) (p : Nat),
 rdH xs_3 o = some (v_3, p) →
 o ≤ p ∧ p ≤ q17 ∧ List.length v_3 = 32 →
 ∃ (xs : List Int),
 let q19 := List.length xs;
 ∃ (o : Nat),
 List.drop p xs_3 = List.drop o xs ∧
 (q17 - p = q19 - o ∧ o ≤ q19) ∧
 (∀ (v_4 : List Int) (p : Nat),
 rdH xs o = some (v_4, p) →
 o ≤ p ∧ p ≤ q19 ∧ List.length v_4 = 32 →
 ∃ (xs_4 : List Int),
 let q21 := List.length xs_4;
 ∃ (o : Nat),
 let q23 := rdN F xs_4 o 2147483647;
 List.drop p xs = List.drop o xs_4 ∧
 (q19 - p = q21 - o ∧ o ≤ q21 ∧ Bytes xs_4 ∧ (0 : Int) ≤ 2147483647) ∧
 (∀ (v_5 : Int),
 let q25 := decide (v_5 = v_5);
 ∀ (p : Nat),
 q23 = some (v_5, p) →
 o ≤ p ∧ p ≤ q21 ∧ 0 ≤ v_5 ∧ v_5 ≤ 2147483647 →
 ∃ (xs : List Int),
 let q27 := List.length xs;
 ∃ (o : Nat),
 let q29 := rdN F xs o 2147483647;
 List.drop p xs_4 = List.drop o xs ∧ (q21 - p = q27 - o ∧ o ≤ q27 ∧ Bytes xs ∧ (0 : Int) ≤ 2147483647) ∧ (∀ (v_6 : Int) (p : Nat), q29 = some (v_6, p) → o ≤ p ∧ p ≤ q27 ∧ 0 ≤ v_6 ∧ v_6 ≤ 2147483647 → iteB q11 (v_1 = v_1 ∧ v_2 = v_2 ∧ v_3 = v_3 ∧ v_4 = v_4 ∧ iteB q25 (iteB (decide (v_6 = v_6)) (Q (List.drop p xs) (q27 - p) false (OutS.mk 4 v v_1 v_2 v_3 v_4 v_5 v_6)) False) False) False) ∧ (q29 = none → iteB q11 (v_1 = v_1 ∧ v_2 = v_2 ∧ v_3 = v_3 ∧ v_4 = v_4 ∧ iteB q25 (Q (List.drop o xs) (q27 - o) true (OutS.mk 4 v v_1 v_2 v_3 v_4 v_5 0)) False) False)) ∧
 (q23 = none → iteB q11 (v_1 = v_1 ∧ v_2 = v_2 ∧ v_3 = v_3 ∧ v_4 = v_4 ∧ Q (List.drop o xs_4) (q21 - o) true (OutS.mk 4 v v_1 v_2 v_3 v_4 0 0)) False)) ∧
 (rdH xs o = none → iteB q11 (v_1 = v_1 ∧ v_2 = v_2 ∧ v_3 = v_3 ∧ zero32 = zero32 ∧ Q (List.drop o xs) (q19 - o) true (OutS.mk 4 v v_1 v_2 v_3 zero32 0 0)) False)) ∧
 (rdH xs_3 o = none → iteB q11 (v_1 = v_1 ∧ v_2 = v_2 ∧ zero32 = zero32 ∧ zero32 = zero32 ∧ Q (List.drop o xs_3) (q17 - o) true (OutS.mk 4 v v_1 v_2 zero32 zero32 0 0)) False)) ∧
 (rdH xs o = none → iteB q11 (v_1 = v_1 ∧ zero32 = zero32 ∧ zero32 = zero32 ∧ zero32 = zero32 ∧ Q (List.drop o xs) (q15 - o) true (OutS.mk 4 v v_1 zero32 zero32 zero32 0 0)) False)) ∧
 (rdH xs_2 o = none → iteB q11 (zero32 = zero32 ∧ zero32 = zero32 ∧ zero32 = zero32 ∧ zero32 = zero32 ∧ Q (List.drop o xs_2) (q13 - o) true (OutS.mk 4 v zero32 zero32 zero32 zero32 0 0)) False)) ∧
 (q9 = none → zero32 = zero32 ∧ zero32 = zero32 ∧ zero32 = zero32 ∧ zero32 = zero32 ∧ Q (List.drop o xs) (q7 - o) true (OutS.mk 4 0 zero32 zero32 zero32 zero32 0 0)))) ∧
 (v = 5 →
 ∃ (xs : List Int),
 let q7 := List.length xs;
 ∃ (o : Nat),
 let q9 := rdN F xs o 1125899906842624;
 List.drop p xs_1 = List.drop o xs ∧
 (q1 - p = q7 - o ∧ o ≤ q7 ∧ Bytes xs ∧ (0 : Int) ≤ 1125899906842624) ∧
 (∀ (v : Int),
 let q11 := decide (v = v);
 ∀ (p : Nat),
 q9 = some (v, p) →
 o ≤ p ∧ p ≤ q7 ∧ 0 ≤ v ∧ v ≤ 1125899906842624 →
 ∃ (xs_2 : List Int),
 let q13 := List.length xs_2;
 ∃ (o : Nat),
 List.drop p xs = List.drop o xs_2 ∧
 (q7 - p = q13 - o ∧ o ≤ q13) ∧
 (∀ (v_1 : List Int) (p : Nat),
 rdH xs_2 o = some (v_1, p) →
 o ≤ p ∧ p ≤ q13 ∧ List.length v_1 = 32 →
 ∃ (xs : List Int),
 let q15 := List.length xs;
 ∃ (o : Nat),
 List.drop p xs_2 = List.drop o xs ∧
 (q13 - p = q15 - o ∧ o ≤ q15) ∧
 (∀ (v_2 : List Int) (p : Nat),
 rdH xs o = some (v_2, p) →
 o ≤ p ∧ p ≤ q15 ∧ List.length v_2 = 32 →
 ∃ (xs_3 : List Int),
 let q17 := List.length xs_3;
 ∃ (o : Nat),
 List.drop p xs = List.drop o xs_3 ∧
 (q15 - p = q17 - o ∧ o ≤ q17) ∧
 (∀ (v_3 : List Int) (p : Nat),
 rdH xs_3 o = some (v_3, p) →
 o ≤ p ∧ p ≤ q17 ∧ List.length v_3 = 32 →
 ∃ (xs : List Int),
 let q19 := List.length xs;
 ∃ (o : Nat),
 List.drop p xs_3 = List.drop o xs ∧
 (q17 - p = q19 - o ∧ o ≤ q19) ∧
 (∀ (v_4 : List Int) (p : Nat),
 rdH xs o = some (v_4, p) →
 o ≤ p ∧ p ≤ q19 ∧ List.length v_4 = 32 →
 ∃ (xs_4 : List Int),
 let q21 := List.length xs_4;
 ∃ (o : Nat),
 let q23 := rdN F xs_4 o 2147483647;
 List.drop p xs = List.drop o xs_4 ∧
 (q19 - p = q21 - o ∧ o ≤ q21 ∧ Bytes xs_4 ∧ (0 : Int) ≤ 2147483647) ∧
 (∀ (v_5 : Int),
 let q25 := decide (v_5 = v_5);
 ∀ (p : Nat),
 q23 = some (v_5, p) →
 o ≤ p ∧ p ≤ q21 ∧ 0 ≤ v_5 ∧ v_5 ≤ 2147483647 →
 ∃ (xs : List Int),
 let q27 := List.length xs;
 ∃ (o : Nat),
 let q29 := rdN F xs o 2147483647;
 List.drop p xs_4 = List.drop o xs ∧ (q21 - p = q27 - o ∧ o ≤ q27 ∧ Bytes xs ∧ (0 : Int) ≤ 2147483647) ∧ (∀ (v_6 : Int) (p : Nat), q29 = some (v_6, p) → o ≤ p ∧ p ≤ q27 ∧ 0 ≤ v_6 ∧ v_6 ≤ 2147483647 → iteB q11 (v_1 = v_1 ∧ v_2 = v_2 ∧ v_3 = v_3 ∧ v_4 = v_4 ∧ iteB q25 (iteB (decide (v_6 = v_6)) (Q (List.drop p xs) (q27 - p) false (OutS.mk 5 v v_1 v_2 v_3 v_4 v_5 v_6)) False) False) False) ∧ (q29 = none → iteB q11 (v_1 = v_1 ∧ v_2 = v_2 ∧ v_3 = v_3 ∧ v_4 = v_4 ∧ iteB q25 (Q (List.drop o xs) (q27 - o) true (OutS.mk 5 v v_1 v_2 v_3 v_4 v_5 0)) False) False)) ∧
 (q23 = none → iteB q11 (v_1 = v_1 ∧ v_2 = v_2 ∧ v_3 = v_3 ∧ v_4 = v_4 ∧ Q (List.drop o xs_4) (q21 - o) true (OutS.mk 5 v v_1 v_2 v_3 v_4 0 0)) False)) ∧
 (rdH xs o = none → iteB q11 (v_1 = v_1 ∧ v_2 = v_2 ∧ v_3 = v_3 ∧ zero32 = zero32 ∧ Q (List.drop o xs) (q19 - o) true (OutS.mk 5 v v_1 v_2 v_3 zero32 0 0)) False)) ∧
 (rdH xs_3 o = none → iteB q11 (v_1 = v_1 ∧ v_2 = v_2 ∧ zero32 = zero32 ∧ zero32 = zero32 ∧ Q (List.drop o xs_3) (q17 - o) true (OutS.mk 5 v v_1 v_2 zero32 zero32 0 0)) False)) ∧
 (rdH xs o = none → iteB q11 (v_1 = v_1 ∧ zero32 = zero32 ∧ zero32 = zero32 ∧ zero32 = zero32 ∧ Q (List.drop o xs) (q15 - o) true (OutS.mk 5 v v_1 zero32 zero32 zero32 0 0)) False)) ∧
 (rdH xs_2 o = none → iteB q11 (zero32 = zero32 ∧ zero32 = zero32 ∧ zero32 = zero32 ∧ zero32 = zero32 ∧ Q (List.drop o xs_2) (q13 - o) true (OutS.mk 5 v zero32 zero32 zero32 zero32 0 0)) False)) ∧
 (q9 = none → zero32 = zero32 ∧ zero32 = zero32 ∧ zero32 = zero32 ∧ zero32 = zero32 ∧ Q (List.drop o xs) (q7 - o) true (OutS.mk 5 0 zero32 zero32 zero32 zero32 0 0)))) ∧
 (q5 = none → zero32 = zero32 ∧ zero32 = zero32 ∧ zero32 = zero32 ∧ zero32 = zero32 ∧ Q (List.drop o_1 xs_1) (q1 - o_1) true q2)) (by kernel_rfl) ?_
  conv => zeta
  try simp only [need_eq]
  try simp only [nope_eq]
  try simp only [iteD_eq]
  try simp only [iteT_eq]
  try simp only [iteF_eq]
  try simp only [iteE_eq]
  try simp only [Int.toNat_natCast, Nat.zero_add, true_and, and_true, Nat.le_refl]
  subst hn
  cases h : rdOutR F xs o with
  | none =>
    have h2 := h2 h
    clear h1
    repeat' (first | (refine ⟨xs, _, rfl, ?_⟩) | (refine And.intro ?_ ?_) | intro _)
    all_goals first | omega | exact hb | trivial | (exact h2 _ _ _ ⟨by first | rfl | simp [*], by first | rfl | simp [*], by first | rfl | simp [*], by first | rfl | simp [*]⟩) | skip
    all_goals (exfalso; simp [rdOutR, rdHif, rdNif, *] at h)
  | some xp =>
    obtain ⟨x, p⟩ := xp
    have h1 := h1 x p h
    clear h2
    repeat' (first | (refine ⟨xs, _, rfl, ?_⟩) | (refine And.intro ?_ ?_) | intro _)
    all_goals first | omega | exact hb | trivial | skip
    all_goals (simp [rdOutR, rdHif, rdNif, *] at h)
    all_goals (obtain ⟨rfl, rfl⟩ := h; exact h1)
end Go.Tk
end
section
namespace Go.Tk
def endsB (id n : Nat) (go ex pa : Nat → Prop) (En : Nat → St) (EB : St) : KE → Prop := fun X =>
  ∀ i, i ≤ n → (∀ j, j < i → go j) → (ex i → X (.exit id) (En i)) ∧ (pa i → X (.exit id) EB)
theorem Env2.withGoB {G : Env2} (hG : G.Ok) {f : FuncId} {id k N n : Nat} {S En : Nat → St} {SB : Nat → St} {EB S0 : St} {C : Prop} {go ex pa : Nat → Prop} (h1 : oneBlock G.P f id = true) (hC : C → S 0 = S0 ∧
      (∀ i, roundE G N f id k (SB i) (rdM k id 9 (SB i) EB EB EB False True False False)) ∧
      ∀ i, i ≤ n → (∀ j, j < i → go j) → roundE G N f id k (S i) (rdM k id 9 (S (i + 1)) (En i) (En i) (En i) (go i ∧ i < n) (ex i) False False) ∨
        roundE G N f id k (S i) (rdM k id 9 (SB i) (En i) (En i) (En i) (pa i) (ex i) False False)) :
    (G.withL f id (goM k S0 C (endsB id n go ex pa En EB))).Ok := by
  refine Env2.withL_ok hG h1 ?_
  intro k' s X hl
  unfold goM at hl
  split at hl
  · rename_i hk
    have := Nat.eq_of_beq_eq_true hk
    subst this
    obtain ⟨⟨hc, hX⟩, hw⟩ := weakM_ok hl
    obtain ⟨e0, hb, hr⟩ := hC hc
    refine ⟨{ t : Nat // t ≤ n ∧ ∀ j, j < t → go j } ⊕ { t : Nat // t ≤ n ∧ (∀ j, j < t → go j) ∧ pa t }, fun t => match t with | .inl t => n - t.1 + 1 | .inr _ => 0, fun t => match t with | .inl t => S t.1 | .inr t => SB t.1, .inl ⟨0, Nat.zero_le _, fun j hj => by omega⟩, N, by show Weak k' s (S 0); rw [e0]; exact hw, ?_⟩
    rintro (⟨t, ht, hgo⟩ | ⟨t, ht, hgo, hpa⟩)
    · rcases hr t ht hgo with hY | hY
      · refine ⟨_, hY, ?_⟩
        clear hY
        intro e s' hY
        unfold rdM at hY
        split at hY
        · obtain ⟨⟨hg, hlt⟩, hw'⟩ := weakM_ok hY
          refine ⟨.inl ⟨t + 1, hlt, fun j hj => ?_⟩, by show n - (t + 1) + 1 < n - t + 1; omega, hw'⟩
          by_cases hjt : j = t
          · rw [hjt]; exact hg
          · exact hgo j (by omega)
        · split at hY
          · rename_i hi
            have := Nat.eq_of_beq_eq_true hi
            subst this
            obtain ⟨hex, hw'⟩ := weakM_ok hY
            exact ⟨_, hw', (hX t ht hgo).1 hex⟩
          · exact hY.elim
        · exact (weakM_ok hY).1.elim
        · split at hY
          · exact (weakM_ok hY).1.elim
          · exact hY.elim
        · exact hY.elim
      · refine ⟨_, hY, ?_⟩
        clear hY
        intro e s' hY
        unfold rdM at hY
        split at hY
        · obtain ⟨hp, hw'⟩ := weakM_ok hY
          exact ⟨.inr ⟨t, ht, hgo, hp⟩, by show 0 < n - t + 1; omega, hw'⟩
        · split at hY
          · rename_i hi
            have := Nat.eq_of_beq_eq_true hi
            subst this
            obtain ⟨hex, hw'⟩ := weakM_ok hY
            exact ⟨_, hw', (hX t ht hgo).1 hex⟩
          · exact hY.elim
        · exact (weakM_ok hY).1.elim
        · split at hY
          · exact (weakM_ok hY).1.elim
          · exact hY.elim
        · exact hY.elim
    · refine ⟨_, hb t, ?_⟩
      intro e s' hY
      unfold rdM at hY
      split at hY
      · exact (weakM_ok hY).1.elim
      · split at hY
        · rename_i hi
          have := Nat.eq_of_beq_eq_true hi
          subst this
          obtain ⟨_, hw'⟩ := weakM_ok hY
          exact ⟨_, hw', (hX t ht hgo).2 hpa⟩
        · exact hY.elim
      · exact (weakM_ok hY).1.elim
      · split at hY
        · exact (weakM_ok hY).1.elim
        · exact hY.elim
      · exact hY.elim
  · exact hl.elim
def orL (b : St → Bool) (S1 S2 : Nat → St → KE → Prop) : Nat → St → KE → Prop := fun k s X => match b s with
  | true => S1 k s X
  | false => S2 k s X
theorem Env2.withL_or {G : Env2} (hG : G.Ok) {f : FuncId} {id : Nat} {b : St → Bool} {S1 S2 : Nat → St → KE → Prop} (h1 : (G.withL f id S1).Ok) (h2 : (G.withL f id S2).Ok) : (G.withL f id (orL b S1 S2)).Ok where
  draw := hG.draw
  psumm := hG.psumm
  fsumm := hG.fsumm
  lsumm := fun f' id' S' fn c body hS hf hb hm k s X hs => by
    have hS0 := hS
    simp only [Env2.withL] at hS
    split at hS
    · rename_i hq
      cases hS
      unfold orL at hs
      have a1 := h1.lsumm f' id' S1 fn c body
      have a2 := h2.lsumm f' id' S2 fn c body
      simp only [Env2.withL, hq] at a1 a2
      split at hs
      · exact a1 trivial hf hb hm k s X hs
      · exact a2 trivial hf hb hm k s X hs
    · exact hG.lsumm f' id' S' fn c body hS hf hb hm k s X hs
end Go.Tk
end
section
namespace Go.Tk
theorem inV_of {Q : List Int → Nat → Bool → InS → Prop} {u : AV} (h : inV Q u) : ∃ ys n b x, u = .tuple [.agg [.vints .u8 ys n, .bool b], .agg (InS.c x)] ∧ Q ys n b x := by
  unfold inV at h
  split at h
  · exact ⟨_, _, _, ⟨_, _, _, _, _, _⟩, rfl, h⟩
  · exact h.elim
theorem outVv_of {Q : List Int → Nat → Bool → OutS → Prop} {u : AV} (h : outVv Q u) : ∃ ys n b x, u = .tuple [.agg [.vints .u8 ys n, .bool b], .agg (OutS.c x)] ∧ Q ys n b x := by
  unfold outVv at h
  split at h
  · exact ⟨_, _, _, ⟨_, _, _, _, _, _, _, _⟩, rfl, h⟩
  · exact h.elim
def inrS (F : List Int → Int × Int) : PSumm := fun args _ K => match args with
  | [.agg [.vints .u8 ys n, .bool false]] => ∃ xs o, ys = xs.drop o ∧ (n = xs.length - o ∧ o ≤ xs.length ∧ Bytes xs) ∧
      (∀ x p, rdInR F xs o = some (x, p) → K (.tuple [.agg [.vints .u8 (xs.drop p) (xs.length - p), .bool false], .agg x.c])) ∧
      (rdInR F xs o = none → ∀ ys n x, InS.Ok x → K (.tuple [.agg [.vints .u8 ys n, .bool true], .agg x.c]))
  | _ => False
theorem inrS_ok (args : List AV) (h : Heap) (K : AV → Prop) (hl : inrS (firstB numW) args h K) : CallsA PP 94 args h fun o h' => ∃ v, o = .ret v ∧ h' = h ∧ K v := by
  unfold inrS at hl
  split at hl
  · obtain ⟨xs, o, rfl, ⟨rfl, h1, h2⟩, hK, hK'⟩ := hl
    exact outV_ev E33_ok rfl (rin_1 _ xs o _ (fun ys n b x => K (.tuple [.agg [.vints .u8 ys n, .bool b], .agg x.c])) rfl h1 h2 hK hK') (fun u hu => by obtain ⟨_, _, _, _, rfl, hq⟩ := inV_of hu; exact hq)
  · exact hl.elim
def outrS (F : List Int → Int × Int) : PSumm := fun args _ K => match args with
  | [.agg [.vints .u8 ys n, .bool false]] => ∃ xs o, ys = xs.drop o ∧ (n = xs.length - o ∧ o ≤ xs.length ∧ Bytes xs) ∧
      (∀ x p, rdOutR F xs o = some (x, p) → K (.tuple [.agg [.vints .u8 (xs.drop p) (xs.length - p), .bool false], .agg x.c])) ∧
      (rdOutR F xs o = none → ∀ ys n x, OutS.Ok x → K (.tuple [.agg [.vints .u8 ys n, .bool true], .agg x.c]))
  | _ => False
theorem outrS_ok (args : List AV) (h : Heap) (K : AV → Prop) (hl : outrS (firstB numW) args h K) : CallsA PP 95 args h fun o h' => ∃ v, o = .ret v ∧ h' = h ∧ K v := by
  unfold outrS at hl
  split at hl
  · obtain ⟨xs, o, rfl, ⟨rfl, h1, h2⟩, hK, hK'⟩ := hl
    exact outV_ev E33_ok rfl (rout_1 _ xs o _ (fun ys n b x => K (.tuple [.agg [.vints .u8 ys n, .bool b], .agg x.c])) rfl h1 h2 hK hK') (fun u hu => by obtain ⟨_, _, _, _, rfl, hq⟩ := outVv_of hu; exact hq)
  · exact hl.elim
noncomputable def E34 (F : List Int → Int × Int) : Env2 := ((G0.withP 93 (numrS F)).withP 94 (inrS F)).withP 95 (outrS F)
theorem E34_ok : (E34 (firstB numW)).Ok := Env2.withP_ok (Env2.withP_ok (Env2.withP_ok G0_ok numrS_ok) inrS_ok) outrS_ok
def tkT (l : Tmps) : Tmps := l ++ [(1, .ptr (some ⟨1, 0, 0, 0, 0⟩)), (4, .ptr (some ⟨4, 0, 0, 0, 0⟩)), (2, .ptr (some ⟨2, 0, 0, 0, 0⟩)), (3, .ptr (some ⟨3, 0, 0, 0, 0⟩))]
def tkH1 (nu : Int) (xs : List Int) (i o : Nat) (g : Nat → InS) : Heap := ⟨6, [(0, .flat [.int .i64 0, .nilslice, .nilslice]), (1, .flat [.vints .u8 (xs.drop o) (xs.length - o), .bool false]), (2, .flat [.nilslice, .bool false]), (3, .flat [.int .i64 0, .nilslice, .nilslice]), (4, .flat [.int .i64 nu, .nslice ⟨5, 0, 130, 0, 0⟩ 130 i i, .nilslice]), (5, .rows 130 i (inRows g))]⟩
def tkS1 (nu cnt : Int) (xs : List Int) (i o : Nat) (g : Nat → InS) : St := ⟨76, tkT [(6, .int .i64 i), (5, .int .i64 cnt)], tkH1 nu xs i o g, []⟩
def tkE1 (nu : Int) (xs : List Int) (i o : Nat) (g : Nat → InS) : St := ⟨76, tkT [], tkH1 nu xs i o g, []⟩
def tkHB : Heap := ⟨5, [(0, .flat [.int .i64 0, .nilslice, .nilslice]), (1, .flat [.top, .bool true]), (2, .flat [.nilslice, .bool false]), (3, .flat [.int .i64 0, .nilslice, .nilslice]), (4, .flat [.top, .top, .top])]⟩
def tkB1 (i cnt : Int) : St := ⟨76, tkT [(6, .int .i64 i), (5, .int .i64 cnt)], tkHB, []⟩
def tkB2 (i cnt : Int) : St := ⟨76, tkT [(9, .int .i64 i), (5, .int .i64 cnt)], tkHB, []⟩
def tkEB : St := ⟨76, tkT [], tkHB, []⟩
def tkH2 (nu : Int) (xs : List Int) (N : Nat) (f : Nat → InS) (i o : Nat) (g : Nat → OutS) : Heap := ⟨7, [(0, .flat [.int .i64 0, .nilslice, .nilslice]), (1, .flat [.vints .u8 (xs.drop o) (xs.length - o), .bool false]), (2, .flat [.nilslice, .bool false]), (3, .flat [.int .i64 0, .nilslice, .nilslice]), (4, .flat [.int .i64 nu, .nslice ⟨5, 0, 130, 0, 0⟩ 130 N N, .nslice ⟨6, 0, 132, 0, 0⟩ 132 i i]), (5, .rows 130 N (inRows f)), (6, .rows 132 i (outRows g))]⟩
def tkS2 (nu cnt : Int) (xs : List Int) (N : Nat) (f : Nat → InS) (i o : Nat) (g : Nat → OutS) : St := ⟨76, tkT [(9, .int .i64 i), (5, .int .i64 cnt)], tkH2 nu xs N f i o g, []⟩
def tkE2 (nu : Int) (xs : List Int) (N : Nat) (f : Nat → InS) (i o : Nat) (g : Nat → OutS) : St := ⟨76, tkT [], tkH2 nu xs N f i o g, []⟩
set_option maxRecDepth 100000 in
set_option maxHeartbeats 0 in
theorem tk_1 (F : List Int → Int × Int) (nu cnt : Int) (xs : List Int) (i o o' : Nat) (g g' : Nat → InS) (Z1 Z2 : Prop) (ho : o ≤ xs.length) (hb : Bytes xs) (hi : i ≤ 24 ∧ cnt ≤ 24) (h2 : ¬ (i : Int) < cnt → Z2) (x : InS) (hx : (i : Int) < cnt → rdInR F xs o = some (x, o')) (hg : ∀ q, g' q = if q = i then x else g q) (h1 : (i : Int) < cnt → Z1) :
    roundE (E34 F) 20 43 0 1 (tkS1 nu cnt xs i o g) (rdM 1 0 9 (tkS1 nu cnt xs (i + 1) o' g') (tkE1 nu xs i o g) (tkE1 nu xs i o g) (tkE1 nu xs i o g) Z1 Z2 False False) := by
  refine @Eq.mpr _ (let q1 := List.drop o xs;
 let q2 := List.length xs - o;
 let q3 := decide (i = i);
 let q4 := i + 1;
 let q5 := decide (q4 * 144 ≤ 140737488355328);
 let q6 := decide (IntKind.wrap IntKind.i64 (↑i + 1) = ↑q4);
 let q7 := decide (cnt = cnt);
 let q8 := List.length xs - o';
 let q9 := decide (nu = nu);
 let q10 := decide (q4 = q4);
 let q11 := [(3, 3), (2, 2), (4, 4), (1, 1)];
 let q12 := inRows g;
 iteB (decide (↑i < cnt))
 (∃ (xs_1 : List Int),
 let q25 := List.length xs_1;
 ∃ (o : Nat),
 let q27 := rdInR F xs_1 o;
 q1 = List.drop o xs_1 ∧
 (q2 = q25 - o ∧ o ≤ q25 ∧ Bytes xs_1) ∧
 (∀ (x : InS) (p : Nat),
 let q29 := List.drop p xs_1;
 let q30 := q29 = q29;
 let q31 := q25 - p;
 let q32 := decide (q31 = q31);
 q27 = some (x, p) → iteB q3 (iteB q3 (q30 ∧ iteB q32 (iteB q3 (iteB q5 (q30 ∧ iteB q32 (iteB q6 (iteB q7 (q29 = List.drop o' xs ∧ iteB (decide (q31 = q8)) (iteB q9 (iteB q10 (iteB (decide (q4 ≤ q4)) (iteB q10 (RowsEq 1 ((5, 9) :: q11) q4 (inRows g') (catF i q12 (rowC [AV.arr IntKind.u8 32 x.name, AV.int IntKind.i64 x.index, AV.int IntKind.i64 x.way, AV.arr IntKind.u8 32 x.tag, AV.arr IntKind.u8 32 x.also, AV.arr IntKind.u8 32 x.secret] 0 130)) ∧ Z1) False) False) False) False) False) False) False) False) False) False) False) False) False) ∧
 (q27 = none →
 ∀ (ys : List Int) (n : Nat),
 let q29 := decide (n = n);
 ∀ (x : InS), InS.Ok x → iteB q3 (iteB q3 (ys = ys ∧ iteB q29 (iteB q3 (iteB q5 (ys = ys ∧ iteB q29 (iteB q6 (iteB q7 (ys = List.drop o' xs ∧ iteB (decide (n = q8)) False False) False) False) False) False) False) False) False) False))
 (q1 = q1 ∧ iteB (decide (q2 = q2)) (iteB q9 (iteB q3 (iteB (decide (i ≤ i)) (iteB q3 (RowsEq 1 ((5, 5) :: q11) i q12 q12 ∧ Z2) False) False) False) False) False)) (by kernel_rfl) ?_
  conv => zeta
  try simp only [need_eq]
  try simp only [nope_eq]
  try simp only [iteD_eq]
  try simp only [iteT_eq]
  try simp only [iteF_eq]
  try simp only [iteE_eq]
  try simp only [Int.toNat_natCast, Nat.zero_add, true_and, and_true, Nat.le_refl]
  have hself : ∀ τ, RowsEq 1 τ i (inRows g) (inRows g) := fun _ => inRowsEq fun _ _ => rfl
  refine ⟨fun hlt => ⟨xs, o, rfl, ⟨rfl, ho, hb⟩, fun x' p hp => ?_, fun hn => (by rw [hx hlt] at hn; cases hn)⟩, fun hge => by simp [hself, h2 hge]⟩
  rw [hx hlt] at hp
  simp only [Option.some.injEq, Prod.mk.injEq] at hp
  obtain ⟨rfl, rfl⟩ := hp
  have hw : IntKind.i64.wrap ((i : Int) + 1) = ((i + 1 : Nat) : Int) := w64 (by omega)
  have h1 := h1 hlt
  rw [hw]
  and_intros <;> first | trivial | rfl | omega | exact h1 | skip
  refine inRowsEq fun q hq => ?_
  rw [hg]
  exact catIn hq
set_option maxRecDepth 100000 in
set_option maxHeartbeats 0 in
theorem tk_2 (F : List Int → Int × Int) (nu cnt : Int) (xs : List Int) (i o : Nat) (g : Nat → InS) (Z1 Z2 : Prop) (ho : o ≤ xs.length) (hb : Bytes xs) (hi : i ≤ 24 ∧ cnt ≤ 24) (h2 : ¬ (i : Int) < cnt → Z2) (hx : (i : Int) < cnt → rdInR F xs o = none) (h1 : (i : Int) < cnt → Z1) :
    roundE (E34 F) 20 43 0 1 (tkS1 nu cnt xs i o g) (rdM 1 0 9 (tkB1 ((i : Int) + 1) cnt) (tkE1 nu xs i o g) (tkE1 nu xs i o g) (tkE1 nu xs i o g) Z1 Z2 False False) := by
  refine @Eq.mpr _ (let q1 := List.drop o xs;
 let q2 := List.length xs - o;
 let q3 := decide (i = i);
 let q4 := decide ((i + 1) * 144 ≤ 140737488355328);
 let q5 := (↑i : Int) + 1;
 let q6 := decide (IntKind.wrap IntKind.i64 q5 = q5);
 let q7 := decide (cnt = cnt);
 iteB (decide ((↑i : Int) < cnt))
 (∃ (xs : List Int),
 let q15 := List.length xs;
 ∃ (o : Nat),
 let q17 := rdInR F xs o;
 q1 = List.drop o xs ∧
 (q2 = q15 - o ∧ o ≤ q15 ∧ Bytes xs) ∧
 (∀ (x : InS) (p : Nat),
 let q19 := List.drop p xs = List.drop p xs;
 let q20 := decide (q15 - p = q15 - p);
 q17 = some (x, p) → iteB q3 (iteB q3 (q19 ∧ iteB q20 (iteB q3 (iteB q4 (q19 ∧ iteB q20 (iteB q6 (iteB q7 False False) False) False) False) False) False) False) False) ∧
 (q17 = none →
 ∀ (ys : List Int) (n : Nat),
 let q19 := decide (n = n);
 ∀ (x : InS), InS.Ok x → iteB q3 (iteB q3 (ys = ys ∧ iteB q19 (iteB q3 (iteB q4 (ys = ys ∧ iteB q19 (iteB q6 (iteB q7 Z1 False) False) False) False) False) False) False) False))
 (q1 = q1 ∧ iteB (decide (q2 = q2)) (iteB (decide (nu = nu)) (iteB q3 (iteB (decide (i ≤ i)) (iteB q3 (RowsEq 1 [(5, 5), (3, 3), (2, 2), (4, 4), (1, 1)] i (inRows g) (inRows g) ∧ Z2) False) False) False) False) False)) (by kernel_rfl) ?_
  conv => zeta
  try simp only [need_eq]
  try simp only [nope_eq]
  try simp only [iteD_eq]
  try simp only [iteT_eq]
  try simp only [iteF_eq]
  try simp only [iteE_eq]
  try simp only [Int.toNat_natCast, Nat.zero_add, true_and, and_true, Nat.le_refl]
  have hself : ∀ τ, RowsEq 1 τ i (inRows g) (inRows g) := fun _ => inRowsEq fun _ _ => rfl
  refine ⟨fun hlt => ⟨xs, o, rfl, ⟨rfl, ho, hb⟩, fun x' p hp => (by rw [hx hlt] at hp; cases hp), fun hn ys n x hxo => ?_⟩, fun hge => by simp [hself, h2 hge]⟩
  have hw : IntKind.i64.wrap ((i : Int) + 1) = (i : Int) + 1 := w64 (by omega)
  have h1 := h1 hlt
  rw [hw]
  and_intros <;> first | trivial | rfl | omega | exact h1
set_option maxRecDepth 100000 in
set_option maxHeartbeats 0 in
theorem tk_3 (F : List Int → Int × Int) (i cnt : Int) (Z1 Z2 Z3 Z4 : Prop) (h2 : Z2) :
    roundE (E34 F) 20 43 0 1 (tkB1 i cnt) (rdM 1 0 9 (tkB1 i cnt) tkEB tkEB tkEB Z1 Z2 Z3 Z4) := by
  refine @Eq.mpr _ (iteB (decide (i < cnt)) Z2 Z2) (by kernel_rfl) ?_
  try simp only [need_eq]
  try simp only [nope_eq]
  try simp only [iteD_eq]
  try simp only [iteT_eq]
  try simp only [iteF_eq]
  try simp only [iteE_eq]
  try simp only [Int.toNat_natCast, Nat.zero_add, true_and, and_true, Nat.le_refl]
  exact ⟨fun _ => h2, fun _ => h2⟩
set_option maxRecDepth 100000 in
set_option maxHeartbeats 0 in
theorem tko_1 (F : List Int → Int × Int) (nu cnt : Int) (xs : List Int) (N : Nat) (f : Nat → InS) (i o o' : Nat) (g g' : Nat → OutS) (Z1 Z2 : Prop) (ho : o ≤ xs.length) (hb : Bytes xs) (hi : i ≤ 24 ∧ cnt ≤ 24) (h2 : ¬ (i : Int) < cnt → Z2) (x : OutS) (hx : (i : Int) < cnt → rdOutR F xs o = some (x, o')) (hg : ∀ q, g' q = if q = i then x else g q) (h1 : (i : Int) < cnt → Z1) :
    roundE (E34 F) 20 43 2 1 (tkS2 nu cnt xs N f i o g) (rdM 1 2 9 (tkS2 nu cnt xs N f (i + 1) o' g') (tkE2 nu xs N f i o g) (tkE2 nu xs N f i o g) (tkE2 nu xs N f i o g) Z1 Z2 False False) := by
  refine @Eq.mpr _ (let q1 := List.drop o xs;
 let q2 := List.length xs - o;
 let q3 := decide (i = i);
 let q4 := i + 1;
 let q5 := decide (q4 * 160 ≤ 140737488355328);
 let q6 := decide (IntKind.wrap IntKind.i64 (↑i + 1) = ↑q4);
 let q7 := decide (cnt = cnt);
 let q8 := List.length xs - o';
 let q9 := decide (nu = nu);
 let q10 := decide (N = N);
 let q11 := decide (N ≤ N);
 let q12 := decide (q4 = q4);
 let q13 := [(5, 5), (3, 3), (2, 2), (4, 4), (1, 1)];
 let q14 := (6, 10) :: q13;
 let q15 := inRows f;
 let q16 := outRows g;
 let q17 := (6, 6) :: q13;
 iteB (decide (↑i < cnt))
 (∃ (xs_1 : List Int),
 let q35 := List.length xs_1;
 ∃ (o : Nat),
 let q37 := rdOutR F xs_1 o;
 q1 = List.drop o xs_1 ∧
 (q2 = q35 - o ∧ o ≤ q35 ∧ Bytes xs_1) ∧
 (∀ (x : OutS) (p : Nat),
 let q39 := List.drop p xs_1;
 let q40 := q39 = q39;
 let q41 := q35 - p;
 let q42 := decide (q41 = q41);
 q37 = some (x, p) → iteB q3 (iteB q3 (q40 ∧ iteB q42 (iteB q3 (iteB q5 (q40 ∧ iteB q42 (iteB q6 (iteB q7 (q39 = List.drop o' xs ∧ iteB (decide (q41 = q8)) (iteB q9 (iteB q10 (iteB q11 (iteB q12 (iteB (decide (q4 ≤ q4)) (iteB q10 (RowsEq 1 q14 N q15 q15 ∧ iteB q12 (RowsEq 1 q14 q4 (outRows g') (catF i q16 (rowC [AV.int IntKind.i64 x.kind, AV.int IntKind.i64 x.amount, AV.arr IntKind.u8 32 x.owner, AV.arr IntKind.u8 32 x.other, AV.arr IntKind.u8 32 x.point, AV.arr IntKind.u8 32 x.hash, AV.int IntKind.i64 x.delay, AV.int IntKind.i64 x.expiry] 0 132)) ∧ Z1) False) False) False) False) False) False) False) False) False) False) False) False) False) False) False) False) ∧
 (q37 = none →
 ∀ (ys : List Int) (n : Nat),
 let q39 := decide (n = n);
 ∀ (x : OutS), OutS.Ok x → iteB q3 (iteB q3 (ys = ys ∧ iteB q39 (iteB q3 (iteB q5 (ys = ys ∧ iteB q39 (iteB q6 (iteB q7 (ys = List.drop o' xs ∧ iteB (decide (n = q8)) False False) False) False) False) False) False) False) False) False))
 (q1 = q1 ∧ iteB (decide (q2 = q2)) (iteB q9 (iteB q10 (iteB q11 (iteB q3 (iteB (decide (i ≤ i)) (iteB q10 (RowsEq 1 q17 N q15 q15 ∧ iteB q3 (RowsEq 1 q17 i q16 q16 ∧ Z2) False) False) False) False) False) False) False) False)) (by kernel_rfl) ?_
  conv => zeta
  try simp only [need_eq]
  try simp only [nope_eq]
  try simp only [iteD_eq]
  try simp only [iteT_eq]
  try simp only [iteF_eq]
  try simp only [iteE_eq]
  try simp only [Int.toNat_natCast, Nat.zero_add, true_and, and_true, Nat.le_refl]
  have hself : ∀ τ, RowsEq 1 τ i (outRows g) (outRows g) := fun _ => outRowsEq fun _ _ => rfl
  have hin : ∀ τ, RowsEq 1 τ N (inRows f) (inRows f) := fun _ => inRowsEq fun _ _ => rfl
  refine ⟨fun hlt => ⟨xs, o, rfl, ⟨rfl, ho, hb⟩, fun x' p hp => ?_, fun hn => (by rw [hx hlt] at hn; cases hn)⟩, fun hge => by simp [hself, hin, h2 hge]⟩
  rw [hx hlt] at hp
  simp only [Option.some.injEq, Prod.mk.injEq] at hp
  obtain ⟨rfl, rfl⟩ := hp
  have hw : IntKind.i64.wrap ((i : Int) + 1) = ((i + 1 : Nat) : Int) := w64 (by omega)
  have h1 := h1 hlt
  rw [hw]
  and_intros <;> first | trivial | rfl | omega | exact h1 | exact hin _ | skip
  refine outRowsEq fun q hq => ?_
  rw [hg]
  exact catOut hq
set_option maxRecDepth 100000 in
set_option maxHeartbeats 0 in
theorem tko_2 (F : List Int → Int × Int) (nu cnt : Int) (xs : List Int) (N : Nat) (f : Nat → InS) (i o : Nat) (g : Nat → OutS) (Z1 Z2 : Prop) (ho : o ≤ xs.length) (hb : Bytes xs) (hi : i ≤ 24 ∧ cnt ≤ 24) (h2 : ¬ (i : Int) < cnt → Z2) (hx : (i : Int) < cnt → rdOutR F xs o = none) (h1 : (i : Int) < cnt → Z1) :
    roundE (E34 F) 20 43 2 1 (tkS2 nu cnt xs N f i o g) (rdM 1 2 9 (tkB2 ((i : Int) + 1) cnt) (tkE2 nu xs N f i o g) (tkE2 nu xs N f i o g) (tkE2 nu xs N f i o g) Z1 Z2 False False) := by
  refine @Eq.mpr _ (let q1 := List.drop o xs;
 let q2 := List.length xs - o;
 let q3 := decide (i = i);
 let q4 := decide ((i + 1) * 160 ≤ 140737488355328);
 let q5 := (↑i : Int) + 1;
 let q6 := decide (IntKind.wrap IntKind.i64 q5 = q5);
 let q7 := decide (cnt = cnt);
 let q8 := decide (N = N);
 let q9 := [(6, 6), (5, 5), (3, 3), (2, 2), (4, 4), (1, 1)];
 iteB (decide ((↑i : Int) < cnt))
 (∃ (xs : List Int),
 let q19 := List.length xs;
 ∃ (o : Nat),
 let q21 := rdOutR F xs o;
 q1 = List.drop o xs ∧
 (q2 = q19 - o ∧ o ≤ q19 ∧ Bytes xs) ∧
 (∀ (x : OutS) (p : Nat),
 let q23 := List.drop p xs = List.drop p xs;
 let q24 := decide (q19 - p = q19 - p);
 q21 = some (x, p) → iteB q3 (iteB q3 (q23 ∧ iteB q24 (iteB q3 (iteB q4 (q23 ∧ iteB q24 (iteB q6 (iteB q7 False False) False) False) False) False) False) False) False) ∧
 (q21 = none →
 ∀ (ys : List Int) (n : Nat),
 let q23 := decide (n = n);
 ∀ (x : OutS), OutS.Ok x → iteB q3 (iteB q3 (ys = ys ∧ iteB q23 (iteB q3 (iteB q4 (ys = ys ∧ iteB q23 (iteB q6 (iteB q7 Z1 False) False) False) False) False) False) False) False))
 (q1 = q1 ∧ iteB (decide (q2 = q2)) (iteB (decide (nu = nu)) (iteB q8 (iteB (decide (N ≤ N)) (iteB q3 (iteB (decide (i ≤ i)) (iteB q8 (RowsEq 1 q9 N (inRows f) (inRows f) ∧ iteB q3 (RowsEq 1 q9 i (outRows g) (outRows g) ∧ Z2) False) False) False) False) False) False) False) False)) (by kernel_rfl) ?_
  conv => zeta
  try simp only [need_eq]
  try simp only [nope_eq]
  try simp only [iteD_eq]
  try simp only [iteT_eq]
  try simp only [iteF_eq]
  try simp only [iteE_eq]
  try simp only [Int.toNat_natCast, Nat.zero_add, true_and, and_true, Nat.le_refl]
  have hself : ∀ τ, RowsEq 1 τ i (outRows g) (outRows g) := fun _ => outRowsEq fun _ _ => rfl
  have hin : ∀ τ, RowsEq 1 τ N (inRows f) (inRows f) := fun _ => inRowsEq fun _ _ => rfl
  refine ⟨fun hlt => ⟨xs, o, rfl, ⟨rfl, ho, hb⟩, fun x' p hp => (by rw [hx hlt] at hp; cases hp), fun hn ys n x hxo => ?_⟩, fun hge => by simp [hself, hin, h2 hge]⟩
  have hw : IntKind.i64.wrap ((i : Int) + 1) = (i : Int) + 1 := w64 (by omega)
  have h1 := h1 hlt
  rw [hw]
  and_intros <;> first | trivial | rfl | omega | exact h1
set_option maxRecDepth 100000 in
set_option maxHeartbeats 0 in
theorem tko_3 (F : List Int → Int × Int) (i cnt : Int) (Z1 Z2 Z3 Z4 : Prop) (h2 : Z2) :
    roundE (E34 F) 20 43 2 1 (tkB2 i cnt) (rdM 1 2 9 (tkB2 i cnt) tkEB tkEB tkEB Z1 Z2 Z3 Z4) := by
  refine @Eq.mpr _ (iteB (decide (i < cnt)) Z2 Z2) (by kernel_rfl) ?_
  try simp only [need_eq]
  try simp only [nope_eq]
  try simp only [iteD_eq]
  try simp only [iteT_eq]
  try simp only [iteF_eq]
  try simp only [iteE_eq]
  try simp only [Int.toNat_natCast, Nat.zero_add, true_and, and_true, Nat.le_refl]
  exact ⟨fun _ => h2, fun _ => h2⟩
end Go.Tk
end
section
namespace Go.Tk
set_option maxRecDepth 100000 in
set_option maxHeartbeats 0 in
theorem rin45 (x : InS) (b : Bool) (hx : x.Ok) (hb : b = inRight x) :
    evF G0 20 45 [.agg x.c] ⟨0, []⟩ (outV (fun v => v = .bool b)) := by
  refine @Eq.mpr _ (let q1 := x.way;
 let q2 := q1 == 1;
 let q3 := q1 == 4;
 let q4 := decide (q1 ≥ 1);
 let q5 := decide (q1 ≤ 6);
 let q6 := x.name;
 let q7 := decide (List.length q6 = 32 ∧ List.length q6 = 32);
 let q8 := x.tag;
 let q9 := decide (List.length q8 = 32 ∧ List.length q8 = 32);
 let q10 := x.also;
 let q11 := decide (List.length q10 = 32 ∧ List.length q10 = 32);
 let q12 := x.secret;
 let q13 := decide (List.length q12 = 32 ∧ List.length q12 = 32);
 let q14 := q6 == q6;
 let q15 := x.index;
 let q16 := q15 == q15;
 let q17 := q1 == q1;
 let q18 := q8 == q8;
 let q19 := q10 == q10;
 let q20 := q12 == q12;
 let q21 := q19 && q20;
 let q22 := AV.bool false = AV.bool b;
 let q23 := iteB (decide (q15 ≥ 0)) (AV.bool (decide (q15 < 24)) = AV.bool b) q22;
 let q24 := iteB q4 (iteB q5 (iteB q7 (iteB q9 (iteB q11 (iteB q13 (iteB (q14 && (q16 && (q17 && (q18 && q21)))) q23 q22) False) False) False) False) q22) q22;
 let q25 := q1 == 5;
 let q26 := decide (List.length q12 = 32 ∧ (32 : Nat) = 32);
 let q27 := q12 == zero32;
 let q28 := q19 && q27;
 let q29 := decide (List.length q10 = 32 ∧ (32 : Nat) = 32);
 let q30 := q10 == zero32;
 let q31 := q30 && q20;
 let q32 := iteB q4 (iteB q5 (iteB q7 (iteB q9 (iteB q29 (iteB q13 (iteB (q14 && (q16 && (q17 && (q18 && q31)))) q23 q22) False) False) False) False) q22) q22;
 let q33 := q30 && q27;
 let q34 := decide (List.length q8 = 32 ∧ (32 : Nat) = 32);
 let q35 := q8 == zero32;
 let q36 := iteB q4 (iteB q5 (iteB q7 (iteB q34 (iteB q11 (iteB q13 (iteB (q14 && (q16 && (q17 && (q35 && q21)))) q23 q22) False) False) False) False) q22) q22;
 let q37 := iteB q4 (iteB q5 (iteB q7 (iteB q34 (iteB q29 (iteB q13 (iteB (q14 && (q16 && (q17 && (q35 && q31)))) q23 q22) False) False) False) False) q22) q22;
 iteB (q1 != 4) (iteB q2 (iteB q3 q24 (iteB q25 q24 (iteB q4 (iteB q5 (iteB q7 (iteB q9 (iteB q11 (iteB q26 (iteB (q14 && (q16 && (q17 && (q18 && q28)))) q23 q22) False) False) False) False) q22) q22))) (iteB q3 q32 (iteB q25 q32 (iteB q4 (iteB q5 (iteB q7 (iteB q9 (iteB q29 (iteB q26 (iteB (q14 && (q16 && (q17 && (q18 && q33)))) q23 q22) False) False) False) False) q22) q22)))) (iteB q2 (iteB q3 q36 (iteB q25 q36 (iteB q4 (iteB q5 (iteB q7 (iteB q34 (iteB q11 (iteB q26 (iteB (q14 && (q16 && (q17 && (q35 && q28)))) q23 q22) False) False) False) False) q22) q22))) (iteB q3 q37 (iteB q25 q37 (iteB q4 (iteB q5 (iteB q7 (iteB q34 (iteB q29 (iteB q26 (iteB (q14 && (q16 && (q17 && (q35 && q33)))) q23 q22) False) False) False) False) q22) q22))))) (by kernel_rfl) ?_
  conv => zeta
  obtain ⟨h1, h2, h3, h4⟩ := hx
  subst hb
  have hz : [(0 : Int), 0, 0, 0, 0, 0, 0, 0, 0, 0, 0, 0, 0, 0, 0, 0, 0, 0, 0, 0, 0, 0, 0, 0, 0, 0, 0, 0, 0, 0, 0, 0] = zero32 := rfl
  simp only [hz, iteB_eq]
  unfold inRight
  generalize (x.secret == zero32) = bs
  generalize (x.also == zero32) = ba
  generalize (x.tag == zero32) = bt
  by_cases w1 : x.way = 1
  · cases bs <;> simp [w1, h1, h2, h3, h4] <;> first | omega | grind
  by_cases w2 : x.way = 2
  · cases bs <;> cases ba <;> simp [w2, h1, h2, h3, h4] <;> first | omega | grind
  by_cases w3 : x.way = 3
  · cases bs <;> cases ba <;> simp [w3, h1, h2, h3, h4] <;> first | omega | grind
  by_cases w4 : x.way = 4
  · cases bt <;> cases ba <;> simp [w4, h1, h2, h3, h4] <;> first | omega | grind
  by_cases w5 : x.way = 5
  · cases ba <;> simp [w5, h1, h2, h3, h4] <;> first | omega | grind
  by_cases w6 : x.way = 6
  · cases bs <;> cases ba <;> simp [w6, h1, h2, h3, h4] <;> first | omega | grind
  cases bs <;> cases ba <;> simp [w1, w2, w3, w4, w5, w6, h1, h2, h3, h4] <;> first | omega | grind
theorem toU8_eq {a b : Int} (ha : 0 ≤ a ∧ a < 256) (hb : 0 ≤ b ∧ b < 256) : (toU8 a = toU8 b ↔ a = b) ∧ (toU8 a < toU8 b ↔ a < b) := by
  unfold toU8
  rw [← UInt8.toNat_inj, UInt8.lt_iff_toNat_lt]
  simp only [UInt8.toNat_ofNat']
  omega
theorem Bytes.getD {xs : List Int} (h : Bytes xs) (i : Nat) : 0 ≤ xs.getD i 0 ∧ xs.getD i 0 < 256 := by
  have := h.h i
  omega
theorem beh_go {x y : List Int} {b : Bool} {i : Nat} {P : Prop} (hx : i < x.length) (hy : i < y.length) (bx : Bytes x) (yb : Bytes y) (hb : b = decide (cmpI (x.drop i) (y.drop i) > 0)) (hP : b = decide (cmpI (x.drop (i + 1)) (y.drop (i + 1)) > 0) → P) :
    iteB (x.getD i 0 != y.getD i 0) (AV.bool (decide (x.getD i 0 > y.getD i 0)) = AV.bool b) P := by
  have e1 : x.drop i = x.getD i 0 :: x.drop (i + 1) := by rw [List.drop_eq_getElem_cons hx]; simp [List.getD_eq_getElem?_getD, hx]
  have e2 : y.drop i = y.getD i 0 :: y.drop (i + 1) := by rw [List.drop_eq_getElem_cons hy]; simp [List.getD_eq_getElem?_getD, hy]
  rw [e1, e2] at hb
  have k1 := toU8_eq (bx.getD i) (yb.getD i)
  have k2 := toU8_eq (yb.getD i) (bx.getD i)
  generalize x.getD i 0 = u at *
  generalize y.getD i 0 = v at *
  simp only [cmpI, List.map_cons, Lib.compareBytes, k1.2, k2.2] at hb
  rw [iteB_eq]
  constructor
  · intro h
    have h : u ≠ v := by simpa using h
    rw [hb]
    by_cases h1 : u < v
    · simp [h1]; omega
    · have : v < u := by omega
      simp [this, h1]
  · intro h
    have h : u = v := by simpa using h
    subst h
    simp only [Int.lt_irrefl, if_false] at hb
    exact hP hb
set_option maxRecDepth 100000 in
set_option maxHeartbeats 0 in
theorem beh96 (x y : List Int) (b : Bool) (hx : x.length = 32) (hy : y.length = 32) (bx : Bytes x) (yb : Bytes y) (hb : b = decide (cmpI (x.drop 0) (y.drop 0) > 0)) :
    evF G0 20 96 [.agg [.arr .u8 32 x], .agg [.arr .u8 32 y]] ⟨0, []⟩ (outV (fun v => v = .bool b)) := by
  refine @Eq.mpr _ (let q1 := AV.bool b;
 iteB (List.getD x 0 0 != List.getD y 0 0) (AV.bool (decide (List.getD x 0 0 > List.getD y 0 0)) = q1)
 (iteB (List.getD x 1 0 != List.getD y 1 0) (AV.bool (decide (List.getD x 1 0 > List.getD y 1 0)) = q1)
 (iteB (List.getD x 2 0 != List.getD y 2 0) (AV.bool (decide (List.getD x 2 0 > List.getD y 2 0)) = q1)
 (iteB (List.getD x 3 0 != List.getD y 3 0) (AV.bool (decide (List.getD x 3 0 > List.getD y 3 0)) = q1)
 (iteB (List.getD x 4 0 != List.getD y 4 0) (AV.bool (decide (List.getD x 4 0 > List.getD y 4 0)) = q1)
 (iteB (List.getD x 5 0 != List.getD y 5 0) (AV.bool (decide (List.getD x 5 0 > List.getD y 5 0)) = q1)
 (iteB (List.getD x 6 0 != List.getD y 6 0) (AV.bool (decide (List.getD x 6 0 > List.getD y 6 0)) = q1)
 (iteB (List.getD x 7 0 != List.getD y 7 0) (AV.bool (decide (List.getD x 7 0 > List.getD y 7 0)) = q1)
 (iteB (List.getD x 8 0 != List.getD y 8 0) (AV.bool (decide (List.getD x 8 0 > List.getD y 8 0)) = q1)
 (iteB (List.getD x 9 0 != List.getD y 9 0) (AV.bool (decide (List.getD x 9 0 > List.getD y 9 0)) = q1)
 (iteB (List.getD x 10 0 != List.getD y 10 0) (AV.bool (decide (List.getD x 10 0 > List.getD y 10 0)) = q1)
 (iteB (List.getD x 11 0 != List.getD y 11 0) (AV.bool (decide (List.getD x 11 0 > List.getD y 11 0)) = q1)
 (iteB (List.getD x 12 0 != List.getD y 12 0) (AV.bool (decide (List.getD x 12 0 > List.getD y 12 0)) = q1)
 (iteB (List.getD x 13 0 != List.getD y 13 0) (AV.bool (decide (List.getD x 13 0 > List.getD y 13 0)) = q1)
 (iteB (List.getD x 14 0 != List.getD y 14 0) (AV.bool (decide (List.getD x 14 0 > List.getD y 14 0)) = q1)
 (iteB (List.getD x 15 0 != List.getD y 15 0) (AV.bool (decide (List.getD x 15 0 > List.getD y 15 0)) = q1)
 (iteB (List.getD x 16 0 != List.getD y 16 0) (AV.bool (decide (List.getD x 16 0 > List.getD y 16 0)) = q1)
 (iteB (List.getD x 17 0 != List.getD y 17 0) (AV.bool (decide (List.getD x 17 0 > List.getD y 17 0)) = q1)
 (iteB (List.getD x 18 0 != List.getD y 18 0) (AV.bool (decide (List.getD x 18 0 > List.getD y 18 0)) = q1)
 (iteB (List.getD x 19 0 != List.getD y 19 0) (AV.bool (decide (List.getD x 19 0 > List.getD y 19 0)) = q1)
 (iteB (List.getD x 20 0 != List.getD y 20 0) (AV.bool (decide (List.getD x 20 0 > List.getD y 20 0)) = q1)
 (iteB (List.getD x 21 0 != List.getD y 21 0) (AV.bool (decide (List.getD x 21 0 > List.getD y 21 0)) = q1)
 (iteB (List.getD x 22 0 != List.getD y 22 0) (AV.bool (decide (List.getD x 22 0 > List.getD y 22 0)) = q1)
 (iteB (List.getD x 23 0 != List.getD y 23 0) (AV.bool (decide (List.getD x 23 0 > List.getD y 23 0)) = q1)
 (iteB (List.getD x 24 0 != List.getD y 24 0) (AV.bool (decide (List.getD x 24 0 > List.getD y 24 0)) = q1) (iteB (List.getD x 25 0 != List.getD y 25 0) (AV.bool (decide (List.getD x 25 0 > List.getD y 25 0)) = q1) (iteB (List.getD x 26 0 != List.getD y 26 0) (AV.bool (decide (List.getD x 26 0 > List.getD y 26 0)) = q1) (iteB (List.getD x 27 0 != List.getD y 27 0) (AV.bool (decide (List.getD x 27 0 > List.getD y 27 0)) = q1) (iteB (List.getD x 28 0 != List.getD y 28 0) (AV.bool (decide (List.getD x 28 0 > List.getD y 28 0)) = q1) (iteB (List.getD x 29 0 != List.getD y 29 0) (AV.bool (decide (List.getD x 29 0 > List.getD y 29 0)) = q1) (iteB (List.getD x 30 0 != List.getD y 30 0) (AV.bool (decide (List.getD x 30 0 > List.getD y 30 0)) = q1) (iteB (List.getD x 31 0 != List.getD y 31 0) (AV.bool (decide (List.getD x 31 0 > List.getD y 31 0)) = q1) (AV.bool false = q1))))))))))))))))))))))))))))))))) (by kernel_rfl) ?_
  conv => zeta
  iterate 32 refine beh_go (by omega) (by omega) bx yb hb fun hb => ?_
  rw [List.drop_eq_nil_of_le (by omega), List.drop_eq_nil_of_le (by omega)] at hb
  have h0 : cmpI [] [] = 0 := rfl
  simp [hb, h0, iteB]
theorem in45_ok (args : List AV) (h : Heap) (K : AV → Prop) (hl : inS inRight args h K) : CallsA PP 45 args h fun o h' => ∃ v, o = .ret v ∧ h' = h ∧ K v := by
  unfold inS at hl
  split at hl
  · rename_i n i w t a s
    obtain ⟨⟨h1, h2, h3, h4⟩, hK⟩ := need_ok hl
    exact outV_ev G0_ok rfl (rin45 ⟨n, i, w, t, a, s⟩ _ ⟨h1, h2, h3, h4⟩ rfl) (fun u hu => hu ▸ hK)
  · exact hl.elim
def behS : PSumm := fun args _ K => match args with
  | [.agg [.arr .u8 32 x], .agg [.arr .u8 32 y]] => (x.length = 32 ∧ y.length = 32) ∧ Bytes x ∧ Bytes y ∧ K (.bool (decide (cmpI x y > 0)))
  | _ => False
noncomputable def E35a : Env2 := G0.withP 96 behS
set_option maxRecDepth 100000 in
set_option maxHeartbeats 0 in
theorem rout46 (o : OutS) (b : Bool) (ho : o.Ok) (b1 : Bytes o.owner) (b2 : Bytes o.other) (hb : b = outRight o) :
    evF E35a 20 46 [.agg o.c] ⟨0, []⟩ (outV (fun v => v = .bool b)) := by
  refine @Eq.mpr _ (let q1 := o.kind;
 let q2 := q1 == 2;
 let q3 := decide (q1 ≥ 3);
 let q4 := o.delay;
 let q5 := decide (q4 = q4);
 let q6 := decide (q1 ≥ 4);
 let q7 := o.expiry;
 let q8 := decide (q7 = q7);
 let q9 := decide (q1 ≥ 1);
 let q10 := decide (q1 ≤ 5);
 let q11 := o.owner;
 let q12 := decide (List.length q11 = 32 ∧ List.length q11 = 32);
 let q13 := o.other;
 let q14 := decide (List.length q13 = 32 ∧ List.length q13 = 32);
 let q15 := o.point;
 let q16 := decide (List.length q15 = 32 ∧ List.length q15 = 32);
 let q17 := o.hash;
 let q18 := decide (List.length q17 = 32 ∧ List.length q17 = 32);
 let q19 := q1 == q1;
 let q20 := o.amount;
 let q21 := q20 == q20;
 let q22 := q11 == q11;
 let q23 := q13 == q13;
 let q24 := q15 == q15;
 let q25 := q17 == q17;
 let q26 := q4 == q4;
 let q27 := q7 == q7;
 let q28 := q24 && (q25 && (q26 && q27));
 let q29 := AV.bool b;
 let q30 := AV.bool false = q29;
 let q31 := iteB (decide (q20 > 0)) (iteB (decide (q20 ≥ 0)) (iteB (decide (q20 ≤ 1125899906842624)) (iteB (decide (q4 ≥ 0)) (iteB (decide (q4 ≤ 2147483647)) (iteB (decide (q7 ≥ 0)) (iteB (decide (q7 ≤ 2147483647)) (iteB q2 ((List.length q11 = 32 ∧ List.length q13 = 32) ∧ Bytes q11 ∧ Bytes q13 ∧ (AV.bool !decide (cmpI q11 q13 > 0)) = q29) (AV.bool true = q29)) q30) q30) q30) q30) q30) q30) q30;
 let q32 := decide (List.length q17 = 32 ∧ (32 : Nat) = 32);
 let q33 := q17 == zero32;
 let q34 := q7 == 0;
 let q35 := q24 && (q33 && (q26 && q34));
 let q36 := decide (List.length q15 = 32 ∧ (32 : Nat) = 32);
 let q37 := q15 == zero32;
 let q38 := q4 == 0;
 let q39 := q37 && (q25 && (q38 && q27));
 let q40 := q37 && (q33 && (q38 && q34));
 let q41 := iteB q3 (iteB q5 (iteB q6 (iteB q8 (iteB q9 (iteB q10 (iteB q12 (iteB q14 (iteB q16 (iteB q18 (iteB (q19 && (q21 && (q22 && (q23 && q28)))) q31 q30) False) False) False) False) q30) q30) False) (iteB q9 (iteB q10 (iteB q12 (iteB q14 (iteB q16 (iteB q32 (iteB (q19 && (q21 && (q22 && (q23 && q35)))) q31 q30) False) False) False) False) q30) q30)) False) (iteB q6 (iteB q8 (iteB q9 (iteB q10 (iteB q12 (iteB q14 (iteB q36 (iteB q18 (iteB (q19 && (q21 && (q22 && (q23 && q39)))) q31 q30) False) False) False) False) q30) q30) False) (iteB q9 (iteB q10 (iteB q12 (iteB q14 (iteB q36 (iteB q32 (iteB (q19 && (q21 && (q22 && (q23 && q40)))) q31 q30) False) False) False) False) q30) q30));
 let q42 := decide (List.length q13 = 32 ∧ (32 : Nat) = 32);
 let q43 := q13 == zero32;
 iteB q2 q41 (iteB (q1 == 4) q41 (iteB (q1 == 5) q41 (iteB q3 (iteB q5 (iteB q6 (iteB q8 (iteB q9 (iteB q10 (iteB q12 (iteB q42 (iteB q16 (iteB q18 (iteB (q19 && (q21 && (q22 && (q43 && q28)))) q31 q30) False) False) False) False) q30) q30) False) (iteB q9 (iteB q10 (iteB q12 (iteB q42 (iteB q16 (iteB q32 (iteB (q19 && (q21 && (q22 && (q43 && q35)))) q31 q30) False) False) False) False) q30) q30)) False) (iteB q6 (iteB q8 (iteB q9 (iteB q10 (iteB q12 (iteB q42 (iteB q36 (iteB q18 (iteB (q19 && (q21 && (q22 && (q43 && q39)))) q31 q30) False) False) False) False) q30) q30) False) (iteB q9 (iteB q10 (iteB q12 (iteB q42 (iteB q36 (iteB q32 (iteB (q19 && (q21 && (q22 && (q43 && q40)))) q31 q30) False) False) False) False) q30) q30)))))) (by kernel_rfl) ?_
  conv => zeta
  obtain ⟨h1, h2, h3, h4⟩ := ho
  subst hb
  have hz : [(0 : Int), 0, 0, 0, 0, 0, 0, 0, 0, 0, 0, 0, 0, 0, 0, 0, 0, 0, 0, 0, 0, 0, 0, 0, 0, 0, 0, 0, 0, 0, 0, 0] = zero32 := rfl
  simp only [hz, iteB_eq, need_eq]
  unfold outRight
  generalize (o.other == zero32) = bo
  generalize (o.point == zero32) = bp
  generalize (o.hash == zero32) = bh
  generalize cmpI o.owner o.other = cc
  by_cases k1 : o.kind = 1
  · cases bo <;> cases bp <;> cases bh <;> simp [k1, h1, h2, h3, h4, b1, b2] <;> first | omega | grind
  by_cases k2 : o.kind = 2
  · cases bp <;> cases bh <;> simp [k2, h1, h2, h3, h4, b1, b2] <;> first | omega | grind
  by_cases k3 : o.kind = 3
  · cases bo <;> cases bh <;> simp [k3, h1, h2, h3, h4, b1, b2] <;> first | omega | grind
  by_cases k4 : o.kind = 4
  · simp [k4, h1, h2, h3, h4, b1, b2] <;> first | omega | grind
  by_cases k5 : o.kind = 5
  · simp [k5, h1, h2, h3, h4, b1, b2] <;> first | omega | grind
  cases bo <;> cases bp <;> cases bh <;> simp [k1, k2, k3, k4, k5, h1, h2, h3, h4, b1, b2] <;> first | omega | grind
theorem beh96_ok (args : List AV) (h : Heap) (K : AV → Prop) (hl : behS args h K) : CallsA PP 96 args h fun o h' => ∃ v, o = .ret v ∧ h' = h ∧ K v := by
  unfold behS at hl
  split at hl
  · obtain ⟨⟨h1, h2⟩, b1, b2, hK⟩ := hl
    exact outV_ev G0_ok rfl (beh96 _ _ _ h1 h2 b1 b2 rfl) (fun u hu => hu ▸ hK)
  · exact hl.elim
theorem E35a_ok : E35a.Ok := Env2.withP_ok G0_ok beh96_ok
def out46S (R : OutS → Bool) : PSumm := fun args _ K => match args with
  | [.agg [.int .i64 kd, .int .i64 am, .arr .u8 32 ow, .arr .u8 32 ot, .arr .u8 32 po, .arr .u8 32 ha, .int .i64 de, .int .i64 ex]] => need (ow.length = 32 ∧ ot.length = 32 ∧ po.length = 32 ∧ ha.length = 32) ((Bytes ow ∧ Bytes ot) ∧ K (.bool (R ⟨kd, am, ow, ot, po, ha, de, ex⟩)))
  | _ => False
theorem out46_ok (args : List AV) (h : Heap) (K : AV → Prop) (hl : out46S outRight args h K) : CallsA PP 46 args h fun o h' => ∃ v, o = .ret v ∧ h' = h ∧ K v := by
  unfold out46S at hl
  split at hl
  · rename_i kd am ow ot po ha de ex
    obtain ⟨⟨h1, h2, h3, h4⟩, ⟨b1, b2⟩, hK⟩ := need_ok hl
    exact outV_ev E35a_ok rfl (rout46 ⟨kd, am, ow, ot, po, ha, de, ex⟩ _ ⟨h1, h2, h3, h4⟩ b1 b2 rfl) (fun u hu => hu ▸ hK)
  · exact hl.elim
noncomputable def E35 : Env2 := (G0.withP 45 (inS inRight)).withP 46 (out46S outRight)
theorem E35_ok : E35.Ok := Env2.withP_ok (Env2.withP_ok G0_ok in45_ok) out46_ok
end Go.Tk
end
section
namespace Go.Tk
def exLo {ι : Type} (S : ι → Nat → St → KE → Prop) : Nat → St → KE → Prop := fun k s X => ∃ i, S i k s X
theorem Env2.withL_ex {ι : Type} {G : Env2} (hG : G.Ok) {f : FuncId} {id : Nat} {S : ι → Nat → St → KE → Prop} (h1 : ∀ i, (G.withL f id (S i)).Ok) : (G.withL f id (exLo S)).Ok where
  draw := hG.draw
  psumm := hG.psumm
  fsumm := hG.fsumm
  lsumm := fun f' id' S' fn c body hS hf hb hm k s X hs => by
    have hS0 := hS
    simp only [Env2.withL] at hS
    split at hS
    · rename_i hq
      cases hS
      obtain ⟨i, hs⟩ := hs
      have a1 := (h1 i).lsumm f' id' (S i) fn c body
      simp only [Env2.withL, hq] at a1
      exact a1 trivial hf hb hm k s X hs
    · exact hG.lsumm f' id' S' fn c body hS hf hb hm k s X hs
def rgH (t : TxS) : Heap := ⟨1, [(0, .flat t.c)]⟩
def rgP : AV := .ptr (some ⟨0, 0, 0, 0, 0⟩)
def rgS0 (t : TxS) (i : Nat) : St := ⟨106, [(3, .int .i64 i), (1, rgP)], rgH t, []⟩
def rgS2 (t : TxS) (i k : Nat) : St := ⟨106, [(4, .int .i64 k), (3, .int .i64 i), (1, rgP)], rgH t, []⟩
def rgR (t : TxS) : St := ⟨106, [(2, .bool false), (1, rgP)], rgH t, []⟩
def rgE0 (t : TxS) : St := ⟨106, [(1, rgP)], rgH t, []⟩
def rgS4 (t : TxS) (i : Nat) (n : Int) : St := ⟨106, [(6, .int .i64 i), (5, .int .i64 n), (1, rgP)], rgH t, []⟩
def rgE4 (t : TxS) (n : Int) : St := ⟨106, [(5, .int .i64 n), (1, rgP)], rgH t, []⟩
set_option maxRecDepth 100000 in
set_option maxHeartbeats 0 in
theorem rg_2 (t : TxS) (i k : Nat) (Z1 Z2 Z3 : Prop) (hi : i < t.N) (hN : t.N ≤ 24) (hk : k ≤ i) (ht : t.Ok) (h1 : k < i → sameAt t.ins (t.ins i) k = false → Z1) (h2 : k = i → Z2) (h3 : k < i → sameAt t.ins (t.ins i) k = true → Z3) :
    roundE E35 20 16 2 0 (rgS2 t i k) (rdM 0 2 9 (rgS2 t i (k + 1)) (rgS0 t i) (rgR t) (rgR t) Z1 Z2 Z3 False) := by
  refine @Eq.mpr _ (let q1 := t.N;
 let q2 := (↑q1 : Int);
 let q3 := decide (0 ≤ (↑k : Int) ∧ (↑k : Int) < q2);
 let q4 := decide (0 ≤ (↑i : Int) ∧ (↑i : Int) < q2);
 let q5 := t.ins (Int.toNat (↑k : Int));
 let q6 := q5.name;
 let q7 := t.ins (Int.toNat (↑i : Int));
 let q8 := q7.name;
 let q9 := decide (t.num = t.num);
 let q10 := decide (q1 = q1);
 let q11 := inRows t.ins;
 let q12 := q11 = q11;
 let q13 := decide (t.M = t.M);
 let q14 := outRows t.outs;
 let q15 := q14 = q14;
 let q16 := decide ((↑i : Int) = (↑i : Int));
 let q17 := iteB (decide (IntKind.wrap IntKind.i64 ((↑k : Int) + 1) = (↑(k + 1) : Int))) (iteB q16 (iteB q9 (iteB q10 (q12 ∧ iteB q10 (iteB q13 (q15 ∧ iteB q13 Z1 False) False) False) False) False) False) False;
 iteB (decide ((↑k : Int) < (↑i : Int))) (iteB q3 (iteB q4 (iteB (decide (List.length q6 = 32 ∧ List.length q8 = 32)) (iteB (q6 == q8) (iteB q3 (iteB q4 (iteB (q5.index == q7.index) (iteB q9 (iteB q10 (q12 ∧ iteB q10 (iteB q13 (q15 ∧ iteB q13 Z3 False) False) False) False) False) q17) False) False) q17) False) False) False) (iteB q16 (iteB q9 (iteB q10 (q12 ∧ iteB q10 (iteB q13 (q15 ∧ iteB q13 Z2 False) False) False) False) False) False)) (by kernel_rfl) ?_
  conv => zeta
  try simp only [need_eq]
  try simp only [nope_eq]
  try simp only [iteD_eq]
  try simp only [iteT_eq]
  try simp only [iteF_eq]
  try simp only [iteE_eq]
  try simp only [Int.toNat_natCast, Nat.zero_add, true_and, and_true, Nat.le_refl]
  have e1 := (ht.ins i hi).name
  have e2 : k < t.N → (t.ins k).name.length = 32 := fun h => (ht.ins k h).name
  have hw : IntKind.i64.wrap ((k : Int) + 1) = ((k + 1 : Nat) : Int) := w64 (by omega)
  rw [hw]
  unfold sameAt sameO at h1 h3
  refine ⟨fun hlt => ?_, fun hge => ?_⟩
  · have hlt : k < i := by omega
    have h1 := h1 hlt
    have h3 := h3 hlt
    have e2 := e2 (by omega)
    refine ⟨by omega, by omega, ⟨e2, e1⟩, fun q1 => ⟨by omega, by omega, fun q2 => h3 (by rw [q1, q2]; rfl), fun q2 => ⟨rfl, h1 (by rw [q2, Bool.and_false])⟩⟩, fun q1 => ⟨rfl, h1 (by rw [q1, Bool.false_and])⟩⟩
  · simp [h2 (by omega)]
set_option maxRecDepth 100000 in
set_option maxHeartbeats 0 in
theorem rg_4 (t : TxS) (i : Nat) (n : Int) (Z1 Z2 Z3 : Prop) (hM : t.M ≤ 24) (hi : i ≤ t.M) (ht : t.Ok) (hn : 0 ≤ n ∧ n ≤ i * 1125899906842624) (hB : i < t.M → Bytes (t.outs i).owner ∧ Bytes (t.outs i).other) (h1 : i < t.M → outRight (t.outs i) = true → Z1) (h2 : i = t.M → Z2) (h3 : i < t.M → outRight (t.outs i) = false → Z3) :
    roundE E35 20 16 4 0 (rgS4 t i n) (rdM 0 4 9 (rgS4 t (i + 1) (n + (t.outs i).amount)) (rgE4 t n) (rgR t) (rgR t) Z1 Z2 Z3 False) := by
  refine @Eq.mpr _ (let q1 := t.M;
 let q2 := decide (0 ≤ (↑i : Int) ∧ (↑i : Int) < (↑q1 : Int));
 let q3 := t.outs (Int.toNat (↑i : Int));
 let q4 := q3.owner;
 let q5 := q3.other;
 let q6 := q3.point;
 let q7 := q3.hash;
 let q8 := q3.amount;
 let q9 := decide (t.num = t.num);
 let q10 := decide (t.N = t.N);
 let q11 := inRows t.ins;
 let q12 := q11 = q11;
 let q13 := decide (q1 = q1);
 let q14 := outRows t.outs;
 let q15 := q14 = q14;
 iteB (decide ((↑i : Int) < (↑q1 : Int))) (iteB q2 (iteB (decide (List.length q4 = 32 ∧ List.length q5 = 32 ∧ List.length q6 = 32 ∧ List.length q7 = 32)) ((Bytes q4 ∧ Bytes q5) ∧ iteB (!outRight (OutS.mk q3.kind q8 q4 q5 q6 q7 q3.delay q3.expiry)) (iteB q9 (iteB q10 (q12 ∧ iteB q10 (iteB q13 (q15 ∧ iteB q13 Z3 False) False) False) False) False) (iteB q2 (iteB (decide (IntKind.wrap IntKind.i64 ((↑i : Int) + 1) = (↑(i + 1) : Int))) (iteB (decide (IntKind.wrap IntKind.i64 (n + q8) = n + (t.outs i).amount)) (iteB q9 (iteB q10 (q12 ∧ iteB q10 (iteB q13 (q15 ∧ iteB q13 Z1 False) False) False) False) False) False) False) False)) False) False) (iteB (decide (n = n)) (iteB q9 (iteB q10 (q12 ∧ iteB q10 (iteB q13 (q15 ∧ iteB q13 Z2 False) False) False) False) False) False)) (by kernel_rfl) ?_
  conv => zeta
  try simp only [need_eq]
  try simp only [nope_eq]
  try simp only [iteD_eq]
  try simp only [iteT_eq]
  try simp only [iteF_eq]
  try simp only [iteE_eq]
  try simp only [Int.toNat_natCast, Nat.zero_add, true_and, and_true, Nat.le_refl]
  have hw : IntKind.i64.wrap ((i : Int) + 1) = ((i + 1 : Nat) : Int) := w64 (by omega)
  rw [hw]
  refine ⟨fun hlt => ?_, fun hge => ?_⟩
  · have hlt : i < t.M := by omega
    obtain ⟨e1, e2, e3, e4⟩ := ht.outs i hlt
    obtain ⟨b1, b2⟩ := hB hlt
    have h1 := h1 hlt
    have h3 := h3 hlt
    have hw2 : outRight (t.outs i) = true → IntKind.i64.wrap (n + (t.outs i).amount) = n + (t.outs i).amount := fun h => by
      have := (outRight_facts h).2
      exact w64 (by omega)
    refine ⟨by omega, ⟨e1, e2, e3, e4⟩, ⟨b1, b2⟩, fun q => h3 (by simpa using q), fun q => ⟨by omega, rfl, hw2 (by simpa using q), h1 (by simpa using q)⟩⟩
  · simp [h2 (by omega)]
noncomputable def E36a (t : TxS) : Env2 := E35.withL 16 2 (exLo fun i : Nat => goM 0 (rgS2 t i 0) (i < t.N ∧ t.N ≤ 24 ∧ t.Ok) (endsJ 2 i 9 (fun k => sameAt t.ins (t.ins i) k = false) (fun k => k = i) (fun k => k < i ∧ sameAt t.ins (t.ins i) k = true) (fun _ => False) (fun _ => rgS0 t i) (fun _ => rgR t) (fun _ => rgR t)))
theorem E36a_ok (t : TxS) : (E36a t).Ok :=
  Env2.withL_ex E35_ok fun i => Env2.withGoM (N := 20) E35_ok (by kernel_rfl) fun hC => ⟨rfl, fun k hk hgo => rg_2 t i k _ _ _ hC.1 hC.2.1 hk hC.2.2 (fun h1 h2 => ⟨h2, h1⟩) (fun h => h) (fun h1 h2 => ⟨h1, h2⟩)⟩
def okI (t : TxS) (i : Nat) : Bool := inRight (t.ins i) && !((List.range i).any (sameAt t.ins (t.ins i)))
set_option maxRecDepth 100000 in
set_option maxHeartbeats 0 in
theorem rg_0 (t : TxS) (i : Nat) (Z1 Z2 Z3 : Prop) (hi : i ≤ t.N) (hN : t.N ≤ 24) (ht : t.Ok) (h1 : i < t.N → okI t i = true → Z1) (h2 : i = t.N → Z2) (h3 : i < t.N → okI t i = false → Z3) :
    roundE (E36a t) 20 16 0 0 (rgS0 t i) (rdM 0 0 9 (rgS0 t (i + 1)) (rgE0 t) (rgR t) (rgR t) Z1 Z2 Z3 False) := by
  refine @Eq.mpr _ (let q1 := t.N;
 let q2 := t.ins (Int.toNat (↑i : Int));
 let q3 := q2.name;
 let q4 := q2.tag;
 let q5 := q2.also;
 let q6 := q2.secret;
 let q7 := decide (t.num = t.num);
 let q8 := decide (q1 = q1);
 let q9 := t.ins;
 let q10 := inRows q9;
 let q11 := q10 = q10;
 let q12 := decide (t.M = t.M);
 let q13 := outRows t.outs;
 let q14 := q13 = q13;
 let q15 := iteB q7 (iteB q8 (q11 ∧ iteB q8 (iteB q12 (q14 ∧ iteB q12 Z3 False) False) False) False) False;
 iteB (decide ((↑i : Int) < (↑q1 : Int))) (iteB (decide (0 ≤ (↑i : Int) ∧ (↑i : Int) < (↑q1 : Int))) (iteB (decide (List.length q3 = 32 ∧ List.length q4 = 32 ∧ List.length q5 = 32 ∧ List.length q6 = 32)) (iteB (!inRight (InS.mk q3 q2.index q2.way q4 q5 q6)) q15 (∃ (i_1 : Nat), iteB (decide ((↑i : Int) = (↑i_1 : Int))) (iteB q7 (iteB q8 (q11 ∧ iteB q8 (iteB q12 (q14 ∧ iteB q12 ((i_1 < q1 ∧ q1 ≤ 24 ∧ TxS.Ok t) ∧ ∀ (i_2 : Nat), i_2 ≤ i_1 → (∀ (j : Nat), j < i_2 → (fun (k : Nat) => sameAt q9 (q9 i_1) k = false) j) → (i_2 = i_1 → iteB (decide (IntKind.wrap IntKind.i64 ((↑i_1 : Int) + 1) = (↑(i + 1) : Int))) (iteB q7 (iteB q8 (q11 ∧ iteB q8 (iteB q12 (q14 ∧ iteB q12 Z1 False) False) False) False) False) False) ∧ (i_2 < i_1 ∧ sameAt q9 (q9 i_1) i_2 = true → q15) ∧ (False → iteB q7 (iteB q8 (q11 ∧ iteB q8 (iteB q12 (q14 ∧ iteB q12 False False) False) False) False) False)) False) False) False) False) False) False)) False) False)
 (iteB q7 (iteB q8 (q11 ∧ iteB q8 (iteB q12 (q14 ∧ iteB q12 Z2 False) False) False) False) False)) (by kernel_rfl) ?_
  conv => zeta
  try simp only [need_eq]
  try simp only [nope_eq]
  try simp only [iteD_eq]
  try simp only [iteT_eq]
  try simp only [iteF_eq]
  try simp only [iteE_eq]
  try simp only [Int.toNat_natCast, Nat.zero_add, true_and, and_true, Nat.le_refl]
  unfold okI at h1 h3
  refine ⟨fun hlt => ?_, fun hge => h2 (by omega)⟩
  have hlt : i < t.N := by omega
  obtain ⟨e1, e2, e3, e4⟩ := ht.ins i hlt
  have h1 := h1 hlt
  have h3 := h3 hlt
  refine ⟨by omega, ⟨e1, e2, e3, e4⟩, fun q => h3 ?_, fun q => ⟨i, rfl, ⟨hlt, hN, ht⟩, fun m hm hgo => ⟨fun hq => ⟨w64 (by omega), h1 ?_⟩, fun hq => h3 ?_, fun h => h⟩⟩⟩
  · have q : inRight (t.ins i) = false := by simpa using q
    rw [q, Bool.false_and]
  · subst hq
    have q : inRight (t.ins m) = true := by simpa using q
    rw [q, Bool.true_and]
    simp only [Bool.not_eq_true', List.any_eq_false, List.mem_range]
    intro j hj
    rw [hgo j hj]
    decide
  · have : (List.range i).any (sameAt t.ins (t.ins i)) = true := by
      rw [List.any_eq_true]
      exact ⟨m, by simpa using hq.1, hq.2⟩
    rw [this, Bool.not_true, Bool.and_false]
def sumO (t : TxS) (i : Nat) : Int := (amL t.outs i).sum
structure TxB (t : TxS) : Prop where
  h : ∀ i, i < t.M → Bytes (t.outs i).owner ∧ Bytes (t.outs i).other
theorem sumO_le {t : TxS} : ∀ i, (∀ j, j < i → outRight (t.outs j) = true) → 0 ≤ sumO t i ∧ sumO t i ≤ i * 1125899906842624
  | 0, _ => by simp [sumO, amL]
  | i + 1, h => by
    have h1 := sumO_le i (fun j hj => h j (by omega))
    have h2 := (outRight_facts (h i (by omega))).2.1
    have e : sumO t (i + 1) = sumO t i + (t.outs i).amount := by unfold sumO; rw [amL_succ]; simp
    omega
theorem sumO_succ (t : TxS) (i : Nat) : sumO t (i + 1) = sumO t i + (t.outs i).amount := by unfold sumO; rw [amL_succ]; simp
def rgL0 (t : TxS) : Nat → St → KE → Prop := goM 0 (rgS0 t 0) (t.N ≤ 24 ∧ t.Ok) (endsJ 0 t.N 9 (fun i => okI t i = true) (fun i => i = t.N) (fun i => i < t.N ∧ okI t i = false) (fun _ => False) (fun _ => rgE0 t) (fun _ => rgR t) (fun _ => rgR t))
def rgL4 (t : TxS) : Nat → St → KE → Prop := goM 0 (rgS4 t 0 0) (t.M ≤ 24 ∧ t.Ok ∧ TxB t) (endsJ 4 t.M 9 (fun i => outRight (t.outs i) = true) (fun i => i = t.M) (fun i => i < t.M ∧ outRight (t.outs i) = false) (fun _ => False) (fun i => rgE4 t (sumO t i)) (fun _ => rgR t) (fun _ => rgR t))
noncomputable def E36b (t : TxS) : Env2 := ((E36a t).withL 16 0 (rgL0 t)).withL 16 4
  (rgL4 t)
theorem E36b_ok (t : TxS) : (E36b t).Ok := by
  have h1 : ((E36a t).withL 16 0 (rgL0 t)).Ok :=
    Env2.withGoM (N := 20) (S := rgS0 t) (E36a_ok t) (by kernel_rfl) fun hC => ⟨rfl, fun i hi hgo => rg_0 t i _ _ _ hi hC.1 hC.2 (fun h1 h2 => ⟨h2, h1⟩) (fun h => h) (fun h1 h2 => ⟨h1, h2⟩)⟩
  have h2 : (E35.withL 16 4 (rgL4 t)).Ok := by
    refine Env2.withGoM (N := 20) (S := fun i => rgS4 t i (sumO t i)) E35_ok (by kernel_rfl) fun hC => ⟨by show rgS4 t 0 (sumO t 0) = _; unfold sumO amL; rfl, fun i hi hgo => ?_⟩
    show roundE E35 20 16 4 0 (rgS4 t i (sumO t i)) (rdM 0 4 9 (rgS4 t (i + 1) (sumO t (i + 1))) _ _ _ _ _ _ _)
    rw [sumO_succ]
    exact rg_4 t i (sumO t i) _ _ _ hC.1 hi hC.2.1 (sumO_le i hgo) (fun h => hC.2.2.h i h) (fun h1 h2 => ⟨h2, h1⟩) (fun h => h) (fun h1 h2 => ⟨h1, h2⟩)
  exact Env2.withL_join (H := E35) h1 rfl h2
def rightR (t : TxS) : Bool := decide (0 ≤ t.num ∧ t.num ≤ 2147483647) && decide (1 ≤ t.N ∧ t.N ≤ 24) && decide (1 ≤ t.M ∧ t.M ≤ 24) && (List.range t.N).all (okI t) && (List.range t.M).all (fun i => outRight (t.outs i)) && decide (sumO t t.M ≤ 1125899906842624)
set_option maxRecDepth 100000 in
set_option maxHeartbeats 0 in
theorem rg_t (t : TxS) (b : Bool) (ht : t.Ok) (hb : TxB t) (h : b = rightR t) :
    evF (E36b t) 20 16 [.agg t.c] ⟨0, []⟩ (outK 0 [] (.bool b) 0 []) := by
  refine @Eq.mpr _ (let q1 := t.num;
 let q2 := iteB (decide (false = b)) True False;
 let q3 := t.N;
 let q4 := (↑q3 : Int);
 let q5 := t.M;
 let q6 := (↑q5 : Int);
 let q7 := decide (q1 = q1);
 let q8 := decide (q3 = q3);
 let q9 := inRows t.ins;
 let q10 := q9 = q9;
 let q11 := decide (q5 = q5);
 let q12 := outRows t.outs;
 let q13 := q12 = q12;
 iteB (decide (q1 ≥ 0)) (iteB (!decide (q1 ≤ 2147483647)) q2 (iteB (decide (q4 < 1)) q2 (iteB (decide (q4 > 24)) q2 (iteB (decide (q6 < 1)) q2 (iteB (decide (q6 > 24)) q2 (iteB q7 (iteB q8 (q10 ∧ iteB q8 (iteB q11 (q13 ∧ iteB q11 ((q3 ≤ 24 ∧ TxS.Ok t) ∧ ∀ (i : Nat), i ≤ q3 → (∀ (j : Nat), j < i → (fun (i : Nat) => okI t i = true) j) → (i = q3 → iteB q7 (iteB q8 (q10 ∧ iteB q8 (iteB q11 (q13 ∧ iteB q11 ((q5 ≤ 24 ∧ TxS.Ok t ∧ TxB t) ∧ ∀ (i : Nat), i ≤ q5 → (∀ (j : Nat), j < i → (fun (i : Nat) => outRight (t.outs i) = true) j) → (i = q5 → iteB (decide (sumO t i ≥ 0)) (iteB (decide (decide (sumO t i ≤ 1125899906842624) = b)) True False) q2) ∧ (i < q5 ∧ outRight (t.outs i) = false → q2) ∧ (False → False)) False) False) False) False) False) ∧ (i < q3 ∧ okI t i = false → q2) ∧ (False → False)) False) False) False) False) False)))))) q2) (by kernel_rfl) ?_
  conv => zeta
  try simp only [need_eq]
  try simp only [nope_eq]
  try simp only [iteD_eq]
  try simp only [iteT_eq]
  try simp only [iteF_eq]
  try simp only [iteE_eq]
  try simp only [Int.toNat_natCast, Nat.zero_add, true_and, and_true, Nat.le_refl]
  subst h
  have hF : rightR t = false → false = rightR t := fun h => by rw [h]
  refine ⟨fun a1 => ⟨fun a2 => hF ?_, fun a2 => ⟨fun a3 => hF ?_, fun a3 => ⟨fun a4 => hF ?_, fun a4 => ⟨fun a5 => hF ?_, fun a5 => ⟨fun a6 => hF ?_, fun a6 => ⟨⟨by omega, ht⟩, fun i hi hgo => ⟨fun hq => ⟨⟨by omega, ht, hb⟩, fun m hm hgm => ⟨fun hr => ⟨fun a7 => ?_, fun a7 => ?_⟩, fun hr => hF ?_, fun h => h⟩⟩, fun hq => hF ?_, fun h => h⟩⟩⟩⟩⟩⟩⟩, fun a1 => hF ?_⟩
  · unfold rightR; rw [decide_eq_false (p := 0 ≤ t.num ∧ _) (by simp at a2; omega)]; simp
  · unfold rightR; rw [decide_eq_false (p := 1 ≤ t.N ∧ _) (by omega)]; simp
  · unfold rightR; rw [decide_eq_false (p := 1 ≤ t.N ∧ _) (by omega)]; simp
  · unfold rightR; rw [decide_eq_false (p := 1 ≤ t.M ∧ _) (by omega)]; simp
  · unfold rightR; rw [decide_eq_false (p := 1 ≤ t.M ∧ _) (by omega)]; simp
  · subst hq hr
    have e1 : (List.range t.N).all (okI t) = true := by
      rw [List.all_eq_true]; intro j hj; exact hgo j (by simpa using hj)
    have e2 : (List.range t.M).all (fun i => outRight (t.outs i)) = true := by
      rw [List.all_eq_true]; intro j hj; exact hgm j (by simpa using hj)
    unfold rightR
    rw [e1, e2, decide_eq_true (p := 0 ≤ t.num ∧ _) (by simp at a2; omega), decide_eq_true (p := 1 ≤ t.N ∧ _) (by omega), decide_eq_true (p := 1 ≤ t.M ∧ _) (by omega)]
    simp
  · exact absurd (sumO_le m hgm).1 a7
  · unfold rightR
    have : (List.range t.M).all (fun i => outRight (t.outs i)) = false := by
      rw [List.all_eq_false]; exact ⟨m, by simpa using hr.1, by simp [hr.2]⟩
    rw [this]; simp
  · unfold rightR
    have : (List.range t.N).all (okI t) = false := by
      rw [List.all_eq_false]; exact ⟨i, by simpa using hq.1, by simp [hq.2]⟩
    rw [this]; simp
  · unfold rightR; rw [decide_eq_false (p := 0 ≤ t.num ∧ _) (by omega)]; simp
theorem sameAt_iff {g : Nat → InS} {x : InS} {j : Nat} : sameAt g x j = true ↔ (g j).name = x.name ∧ (g j).index = x.index := by
  unfold sameAt sameO; simp
theorem twiceI_iff {N : Nat} {g : Nat → InS} {i : Nat} (hi : i < N) : twiceI N g (g i) = true ↔ ∃ j, j < N ∧ j ≠ i ∧ sameAt g (g i) j = true := by
  have hself : sameAt g (g i) i = true := sameAt_iff.2 ⟨rfl, rfl⟩
  unfold twiceI
  rcases findP_cases (sameAt g (g i)) N with ⟨_, hn⟩ | ⟨f, hf, ef, pf, hb⟩
  · rw [hn i hi] at hself; cases hself
  rcases findP_cases (sameAt (revI N g) (g i)) N with ⟨_, hn⟩ | ⟨l, hl, el, pl, hb'⟩
  · have := hn (N - 1 - i) (by omega)
    have e : sameAt (revI N g) (g i) (N - 1 - i) = sameAt g (g i) i := by unfold sameAt revI; congr 1; congr 1; omega
    rw [e, hself] at this; cases this
  have er : ∀ q, q < N → sameAt (revI N g) (g i) q = sameAt g (g i) (N - 1 - q) := fun q _ => rfl
  rw [er l hl] at pl
  rw [ef, el, bne_iff_ne]
  have hfi : f ≤ i := by
    rcases Nat.lt_or_ge i f with h | h
    · rw [hb i h] at hself; cases hself
    · exact h
  have hli : i ≤ N - 1 - l := by
    rcases Nat.lt_or_ge (N - 1 - i) l with h | h
    · have := hb' _ h
      rw [er _ (by omega), show N - 1 - (N - 1 - i) = i by omega, hself] at this; cases this
    · omega
  constructor
  · intro h
    rcases Nat.lt_or_ge f i with h1 | h1
    · exact ⟨f, hf, by omega, pf⟩
    · exact ⟨N - 1 - l, by omega, by omega, pl⟩
  · rintro ⟨j, hj, hne, pj⟩ h
    rcases Nat.lt_or_ge j f with h1 | h1
    · rw [hb j h1] at pj; cases pj
    · have := hb' (N - 1 - j) (by omega)
      rw [er _ (by omega), show N - 1 - (N - 1 - j) = j by omega, pj] at this; cases this
theorem allIn_amL {t : TxS} (h : ∀ j, j < t.M → outRight (t.outs j) = true) : allIn 1125899906842624 (amL t.outs t.M) = true := by
  unfold allIn
  rw [Bool.not_eq_true', List.any_eq_false]
  intro j hj
  have hj : j < t.M := by simpa [amL_len] using hj
  have := (outRight_facts (h j hj)).2.1
  have e : (amL t.outs t.M).getD j 0 = (t.outs j).amount := by simp [amL, List.getD_eq_getElem?_getD, hj]
  unfold overAt
  rw [e]
  unfold overI
  simp
  omega
theorem rightR_ck (t : TxS) : rightR t = ckTx addM t := by
  rw [Bool.eq_iff_iff]
  unfold rightR ckTx
  simp only [Bool.and_eq_true, decide_eq_true_eq, List.all_eq_true, List.mem_range, Bool.not_eq_true', List.any_eq_false, beq_iff_eq]
  constructor
  · rintro ⟨⟨⟨⟨⟨h1, h2⟩, h3⟩, h4⟩, h5⟩, h6⟩
    refine ⟨⟨⟨⟨⟨h1, h2⟩, h3⟩, fun i hi => ?_⟩, fun i hi => ?_⟩, ?_⟩
    · have h := h4 i hi
      unfold okI at h
      simp only [Bool.and_eq_true, Bool.not_eq_true', List.any_eq_false, List.mem_range] at h
      unfold wrongAt wrongI
      rw [h.1, Bool.not_true, Bool.false_or]
      intro hq
      obtain ⟨j, hj, hne, hs⟩ := (twiceI_iff hi).1 hq
      rcases Nat.lt_or_gt_of_ne hne with h0 | h0
      · exact h.2 j h0 hs
      · have h' := h4 j hj
        unfold okI at h'
        simp only [Bool.and_eq_true, Bool.not_eq_true', List.any_eq_false, List.mem_range] at h'
        refine h'.2 i h0 ?_
        rw [sameAt_iff] at hs ⊢
        exact ⟨hs.1.symm, hs.2.symm⟩
    · unfold wrongOAt wrongO
      rw [h5 i hi]
      decide
    · unfold addM
      unfold sumO at h6; rw [if_pos (allIn_amL h5), if_pos h6]
  · rintro ⟨⟨⟨⟨⟨h1, h2⟩, h3⟩, h4⟩, h5⟩, h6⟩
    have h5' : ∀ j, j < t.M → outRight (t.outs j) = true := fun j hj => by
      have := h5 j hj
      unfold wrongOAt wrongO at this
      simpa using this
    refine ⟨⟨⟨⟨⟨h1, h2⟩, h3⟩, fun i hi => ?_⟩, h5'⟩, ?_⟩
    · have h := h4 i hi
      unfold wrongAt wrongI at h
      simp only [Bool.or_eq_true, not_or, Bool.not_eq_true', Bool.not_eq_false, Bool.not_eq_true] at h
      unfold okI
      rw [h.1, Bool.true_and]
      simp only [Bool.not_eq_true', List.any_eq_false, List.mem_range]
      intro j hj hs
      have := (twiceI_iff hi).2 ⟨j, by omega, by omega, hs⟩
      rw [h.2] at this; cases this
    · unfold addM at h6
      rw [if_pos (allIn_amL h5')] at h6
      split at h6
      · assumption
      · cases h6
def rightS (A : List Int → Int × Int) : PSumm := fun args h K => viewL none h true 20 args fun a => match a with
  | [.agg l] => ∃ t, isTx l t ∧ t.Ok ∧ TxB t ∧ K (.bool (ckTx A t))
  | _ => False
theorem rightS_ok (args : List AV) (h : Heap) (K : AV → Prop) (hl : rightS addM args h K) : CallsA PP 16 args h fun o h' => ∃ v, o = .ret v ∧ h' = h ∧ K v := by
  refine Pure.psumm (d := 20) (viewL_weak _ _ _ _ _ hl fun a ha => ?_)
  split at ha
  · obtain ⟨t, h1, h2, h3, hK⟩ := ha
    refine ⟨_, (Pure.ev (E36b_ok t) (rg_t t _ h2 h3 rfl)).conv fun E r hr => hr.head (fun _ hc => h1.rel hc) (fun _ hc => hc), fun _ => rfl, ?_⟩
    rw [rightR_ck]
    exact hK
  · exact ha.elim
end Go.Tk
end
section
namespace Go.Tk
def badB : List (Nat × Blk) → Bool
  | [] => false
  | (_, .flat [_, .bool true]) :: _ => true
  | _ :: r => badB r
def badS (s : St) : Bool := badB s.h.bs
def tkL1 (nu cnt : Int) (xs : List Int) (o1 : Nat) (rI : Nat → Option (InS × Nat)) (C : Prop) : Nat → St → KE → Prop :=
  orL badS (goM 1 (tkB1 0 0) True (endsJ 0 0 9 (fun _ => False) (fun _ => True) (fun _ => False) (fun _ => False) (fun _ => tkEB) (fun _ => tkEB) (fun _ => tkEB)))
    (goM 1 (tkS1 nu cnt xs 0 o1 (stT inZ rI o1 0).1) C (endsB 0 cnt.toNat (goT inZ rI o1) (fun i => ¬ (i : Int) < cnt) (fun i => (i : Int) < cnt ∧ rI (stT inZ rI o1 i).2 = none) (fun i => tkE1 nu xs i (stT inZ rI o1 i).2 (stT inZ rI o1 i).1) tkEB))
def tkL2 (nu cnt2 : Int) (xs : List Int) (N : Nat) (f : Nat → InS) (o2 : Nat) (rO : Nat → Option (OutS × Nat)) (C2 : Prop) : Nat → St → KE → Prop :=
  orL badS (goM 1 (tkB2 0 0) True (endsJ 2 0 9 (fun _ => False) (fun _ => True) (fun _ => False) (fun _ => False) (fun _ => tkEB) (fun _ => tkEB) (fun _ => tkEB)))
    (goM 1 (tkS2 nu cnt2 xs N f 0 o2 (stT outZ rO o2 0).1) C2 (endsB 2 cnt2.toNat (goT outZ rO o2) (fun i => ¬ (i : Int) < cnt2) (fun i => (i : Int) < cnt2 ∧ rO (stT outZ rO o2 i).2 = none) (fun i => tkE2 nu xs N f i (stT outZ rO o2 i).2 (stT outZ rO o2 i).1) tkEB))
noncomputable def E37a (F : List Int → Int × Int) (A : List Int → Int × Int) : Env2 := (E34 F).withP 16 (rightS A)
theorem E37a_ok : (E37a (firstB numW) addM).Ok := Env2.withP_ok E34_ok rightS_ok
noncomputable def E37 (F : List Int → Int × Int) (A : List Int → Int × Int) (xs : List Int) (nu cnt cnt2 : Int) (o1 o2 : Nat) (rI : Nat → Option (InS × Nat)) (rO : Nat → Option (OutS × Nat)) (C C2 : Prop) (N : Nat) (f : Nat → InS) : Env2 :=
  ((E37a F A).withL 43 0 (tkL1 nu cnt xs o1 rI C)).withL 43 2 (tkL2 nu cnt2 xs N f o2 rO C2)
set_option maxRecDepth 100000 in
set_option maxHeartbeats 0 in
theorem parser_1 (F : List Int → Int × Int) (A : List Int → Int × Int) (xs : List Int) (nu cnt cnt2 : Int) (o1 o2 : Nat) (rI : Nat → Option (InS × Nat)) (rO : Nat → Option (OutS × Nat)) (C C2 : Prop) (N M : Nat) (f : Nat → InS) (g : Nat → OutS) (L : Nat) (hL : xs.length = L) (hb : Bytes xs) (p0 : Nat) (hC : o1 ≤ xs.length → cnt ≤ 24 → C) (hC2 : o2 ≤ xs.length → cnt2 ≤ 24 → C2) (h0 : ∀ v p, rdN F xs 0 2147483647 = some (v, p) → v = nu ∧ p = p0) (h1 : ∀ v p, rdN F xs p0 24 = some (v, p) → v = cnt ∧ p = o1) (hN : N = cnt.toNat) (hf : f = (stT inZ rI o1 N).1) (h2 : ∀ v p, rdN F xs (stT inZ rI o1 N).2 24 = some (v, p) → v = cnt2 ∧ p = o2) (hlI : o1 ≤ xs.length → ∀ i, (stT inZ rI o1 i).2 ≤ xs.length) (hlO : o2 ≤ xs.length → ∀ i, (stT outZ rO o2 i).2 ≤ xs.length) (hoI : ∀ i q, ((stT inZ rI o1 i).1 q).Ok) (hoO : ∀ i q, ((stT outZ rO o2 i).1 q).Ok) (hoB : ∀ i q, Bytes ((stT outZ rO o2 i).1 q).owner ∧ Bytes ((stT outZ rO o2 i).1 q).other) (e0 : rdN F xs 0 2147483647 ≠ none) (e1 : rdN F xs p0 24 ≠ none) (eI : ∀ j, j < N → goT inZ rI o1 j) (e2 : rdN F xs (stT inZ rI o1 N).2 24 ≠ none) (hM : M = cnt2.toNat) (hg : g = (stT outZ rO o2 M).1) (eO : ∀ j, j < M → goT outZ rO o2 j) (he : (stT outZ rO o2 M).2 = xs.length) (hck : ckTx A ⟨nu, N, f, M, g⟩ = true) :
    evF (E37 F A xs nu cnt cnt2 o1 o2 rI rO C C2 N f) 20 12 [.vints .u8 xs L] ⟨0, []⟩ (outM 0 (.ret (.tuple [.agg [.int .i64 nu, .nslice ⟨0, 0, 130, 0, 0⟩ 130 N N, .nslice ⟨1, 0, 132, 0, 0⟩ 132 M M], .int .i64 0])) 2 [(0, .rows 130 N (inRows f)), (1, .rows 132 M (outRows g))]) := by
  refine @Eq.mpr _ (let q1 := List.length xs;
 let q2 := decide (nu = nu);
 let q3 := inRows f;
 let q4 := decide (N = N);
 let q5 := decide (0 = nu);
 let q6 := decide (N = 0);
 let q7 := decide (M = 0);
 let q8 := iteB q5 (iteB q6 (iteB q6 (iteB q7 (iteB q7 False False) False) False) False) False;
 let q9 := [(1, 6), (0, 5)];
 let q10 := (False → ∃ (t : TxS), (t.num = 0 ∧ t.N = 0 ∧ t.M = 0) ∧ TxS.Ok t ∧ TxB t ∧ iteB (!ckTx A t) q8 (iteB q5 (iteB q6 (iteB q6 (iteB q7 (iteB q7 (iteB q6 (iteB q7 True False) False) False) False) False) False) False)) ∧ (False → False);
 let q11 := True ∧ ∀ (i : Nat), i ≤ 0 → (∀ (j : Nat), j < i → (fun (x : Nat) => False) j) → (True → q8) ∧ q10;
 let q12 := True ∧ ∀ (i : Nat), i ≤ 0 → (∀ (j : Nat), j < i → (fun (x : Nat) => False) j) → (True → q11) ∧ q10;
 ∃ (xs_1 : List Int),
 let q25 := List.length xs_1;
 ∃ (o : Nat),
 let q27 := rdN F xs_1 o 2147483647;
 xs = List.drop o xs_1 ∧
 (L = q25 - o ∧ o ≤ q25 ∧ Bytes xs_1 ∧ (0 : Int) ≤ 2147483647) ∧
 (∀ (v : Int) (p : Nat),
 q27 = some (v, p) →
 o ≤ p ∧ p ≤ q25 ∧ 0 ≤ v ∧ v ≤ 2147483647 →
 ∃ (xs_2 : List Int),
 let q29 := List.length xs_2;
 ∃ (o : Nat),
 let q31 := rdN F xs_2 o 24;
 List.drop p xs_1 = List.drop o xs_2 ∧
 (q25 - p = q29 - o ∧ o ≤ q29 ∧ Bytes xs_2 ∧ (0 : Int) ≤ 24) ∧
 (∀ (v_1 : Int) (p : Nat),
 q31 = some (v_1, p) →
 o ≤ p ∧ p ≤ q29 ∧ 0 ≤ v_1 ∧ v_1 ≤ 24 →
 iteB (decide (v_1 = cnt))
 (List.drop p xs_2 = List.drop o1 xs ∧
 iteB (decide (q29 - p = q1 - o1))
 (iteB (decide (v = nu))
 (C ∧
 ∀ (i : Nat),
 let q33 := stT inZ rI o1 i;
 let q34 := q33.snd;
 let q35 := decide (i = N);
 i ≤ Int.toNat cnt →
 (∀ (j : Nat), j < i → goT inZ rI o1 j) →
 (¬(↑i : Int) < cnt →
 ∃ (xs_3 : List Int),
 let q39 := List.length xs_3;
 ∃ (o : Nat),
 let q41 := rdN F xs_3 o 24;
 List.drop q34 xs = List.drop o xs_3 ∧
 (q1 - q34 = q39 - o ∧ o ≤ q39 ∧ Bytes xs_3 ∧ (0 : Int) ≤ 24) ∧
 (∀ (v : Int) (p : Nat),
 q41 = some (v, p) →
 o ≤ p ∧ p ≤ q39 ∧ 0 ≤ v ∧ v ≤ 24 →
 iteB (decide (v = cnt2))
 (List.drop p xs_3 = List.drop o2 xs ∧
 iteB (decide (q39 - p = q1 - o2))
 (iteB q2
 (iteB q35
 (iteB (decide (N ≤ i))
 (iteB q35
 (RowsEq 1 [(5, 5), (3, 3), (2, 2), (4, 4), (1, 1)] N q3 (inRows q33.fst) ∧
 C2 ∧
 ∀ (i : Nat),
 let q43 := decide (i = i);
 let q44 := stT outZ rO o2 i;
 let q45 := q44.snd;
 let q46 := decide (i = M);
 i ≤ Int.toNat cnt2 →
 (∀ (j : Nat), j < i → goT outZ rO o2 j) →
 (¬(↑i : Int) < cnt2 →
 iteB q2
 (iteB q4
 (iteB q4
 (iteB q43
 (iteB q43
 (iteB (decide ((↑(q1 - q45) : Int) > 0)) q8
 (iteB (decide (0 + N ≤ N))
 ((∀ (i : Nat), i < N → true = true) ∧
 iteB (decide (0 + i ≤ i))
 ((∀ (i_1 : Nat), i_1 < i → true = true) ∧
 ∃ (t : TxS),
 (t.num = nu ∧
 ((N = N ∧ t.N = N) ∧ ∀ (i : Nat), i < N → [AV.arr IntKind.u8 32 (f i).name, AV.int IntKind.i64 (f i).index, AV.int IntKind.i64 (f i).way, AV.arr IntKind.u8 32 (f i).tag, AV.arr IntKind.u8 32 (f i).also, AV.arr IntKind.u8 32 (f i).secret] = InS.c (t.ins i)) ∧
 (i = i ∧ t.M = i) ∧
 ∀ (i_1 : Nat),
 let q51 := q44.fst i_1;
 i_1 < i → [AV.int IntKind.i64 q51.kind, AV.int IntKind.i64 q51.amount, AV.arr IntKind.u8 32 q51.owner, AV.arr IntKind.u8 32 q51.other, AV.arr IntKind.u8 32 q51.point, AV.arr IntKind.u8 32 q51.hash, AV.int IntKind.i64 q51.delay, AV.int IntKind.i64 q51.expiry] = OutS.c (t.outs i_1)) ∧
 TxS.Ok t ∧ TxB t ∧ iteB (!ckTx A t) q8 (iteB q2 (iteB q4 (iteB (decide (N ≤ N)) (iteB q46 (iteB (decide (M ≤ i)) (iteB q4 (RowsEq 0 q9 N q3 q3 ∧ iteB q46 (RowsEq 0 q9 M (outRows g) (outRows q44.fst) ∧ True) False) False) False) False) False) False) False))
 False)
 False))
 False)
 False)
 False)
 False)
 False) ∧
 ((↑i : Int) < cnt2 ∧ rO q45 = none → q8))
 False)
 False)
 False)
 False)
 False)
 False) ∧
 (q41 = none → q11)) ∧
 ((↑i : Int) < cnt ∧ rI q34 = none → q11))
 False)
 False)
 False) ∧
 (q31 = none → q12)) ∧
 (q27 = none → q12)) (by kernel_rfl) ?_
  conv => zeta
  try simp only [need_eq]
  try simp only [nope_eq]
  try simp only [iteD_eq]
  try simp only [iteT_eq]
  try simp only [iteF_eq]
  try simp only [iteE_eq]
  try simp only [Int.toNat_natCast, Nat.zero_add, true_and, and_true, Nat.le_refl]
  subst hL
  refine ⟨xs, 0, rfl, ⟨rfl, Nat.zero_le _, hb, by omega⟩, ?_, ?_⟩
  rotate_left
  · exact fun h => absurd h e0
  intro v o' q0 r0
  obtain ⟨rfl, rfl⟩ := h0 v o' q0
  refine ⟨xs, _, rfl, ⟨rfl, r0.2.1, hb, by omega⟩, ?_, ?_⟩
  rotate_left
  · exact fun h => absurd h e1
  intro v1 o1' q1 r1
  obtain ⟨rfl, rfl⟩ := h1 v1 o1' q1
  have hlI := hlI r1.2.1
  refine ⟨rfl, rfl, rfl, rfl, hC r1.2.1 r1.2.2.2, fun i hi hgo => ⟨fun hx => ?_, fun hx => ?_⟩⟩
  rotate_left
  · have := eI i (by omega); unfold goT at this; rw [hx.2] at this; cases this
  have hiN : i = N := by omega
  subst hiN
  have hli := hlI i
  refine ⟨xs, _, rfl, ⟨rfl, hli, hb, by omega⟩, ?_, fun h => absurd h e2⟩
  intro v2 o2' q2 r2
  obtain ⟨rfl, rfl⟩ := h2 v2 o2' q2
  have hlO := hlO r2.2.1
  refine ⟨rfl, rfl, rfl, rfl, Nat.le_refl _, rfl, inRowsEq fun _ _ => (by rw [hf]; rfl), hC2 r2.2.1 r2.2.2.2, fun k hk hgo2 => ⟨fun hx2 => ?_, fun hx2 => ?_⟩⟩
  rotate_left
  · have := eO k (by omega); unfold goT at this; rw [hx2.2] at this; cases this
  have hkM : k = v2.toNat := by omega
  have htok : TxS.Ok ⟨v, i, f, k, (stT outZ rO o2' k).1⟩ := ⟨by show i < 900000000000; omega, by show k < 900000000000; omega, fun j _ => by show (f j).Ok; rw [hf]; exact hoI i j, fun j _ => hoO k j⟩
  have hkM2 : k = M := hkM.trans hM.symm
  subst hkM2
  rw [hg] at hck
  refine ⟨fun hz => absurd hz (by omega), fun hz => ⟨fun _ _ => trivial, fun _ _ => trivial, ⟨v, i, f, k, (stT outZ rO o2' k).1⟩, ⟨rfl, ⟨rfl, fun _ _ => rfl⟩, rfl, fun _ _ => rfl⟩, htok, ⟨fun j _ => hoB k j⟩, fun h => (by rw [hck] at h; cases h), fun h => ?_⟩⟩
  exact ⟨rfl, Nat.le_refl _, inRowsEq fun _ _ => rfl, rfl, outRowsEq fun _ _ => (by rw [hg]; rfl)⟩
set_option maxRecDepth 100000 in
set_option maxHeartbeats 0 in
theorem parser_2 (F : List Int → Int × Int) (A : List Int → Int × Int) (xs : List Int) (nu cnt cnt2 : Int) (o1 o2 : Nat) (rI : Nat → Option (InS × Nat)) (rO : Nat → Option (OutS × Nat)) (C C2 : Prop) (N : Nat) (f : Nat → InS) (L : Nat) (hL : xs.length = L) (hb : Bytes xs) (p0 : Nat) (hC : o1 ≤ xs.length → cnt ≤ 24 → C) (hC2 : o2 ≤ xs.length → cnt2 ≤ 24 → C2) (h0 : ∀ v p, rdN F xs 0 2147483647 = some (v, p) → v = nu ∧ p = p0) (h1 : ∀ v p, rdN F xs p0 24 = some (v, p) → v = cnt ∧ p = o1) (hN : N = cnt.toNat) (hf : f = (stT inZ rI o1 N).1) (h2 : ∀ v p, rdN F xs (stT inZ rI o1 N).2 24 = some (v, p) → v = cnt2 ∧ p = o2) (hlI : o1 ≤ xs.length → ∀ i, (stT inZ rI o1 i).2 ≤ xs.length) (hlO : o2 ≤ xs.length → ∀ i, (stT outZ rO o2 i).2 ≤ xs.length) (hoI : ∀ i q, ((stT inZ rI o1 i).1 q).Ok) (hoO : ∀ i q, ((stT outZ rO o2 i).1 q).Ok) (hoB : ∀ i q, Bytes ((stT outZ rO o2 i).1 q).owner ∧ Bytes ((stT outZ rO o2 i).1 q).other) (hfail : rdN F xs 0 2147483647 ≠ none → rdN F xs p0 24 ≠ none → (∀ j, j < N → goT inZ rI o1 j) → rdN F xs (stT inZ rI o1 N).2 24 ≠ none → (∀ j, j < cnt2.toNat → goT outZ rO o2 j) → (stT outZ rO o2 cnt2.toNat).2 = xs.length → ckTx A ⟨nu, N, f, cnt2.toNat, (stT outZ rO o2 cnt2.toNat).1⟩ = true → False) :
    evF (E37 F A xs nu cnt cnt2 o1 o2 rI rO C C2 N f) 20 12 [.vints .u8 xs L] ⟨0, []⟩ (outM 0 (.ret (.tuple [.agg [.int .i64 0, .nilslice, .nilslice], .int .i64 170])) 0 []) := by
  refine @Eq.mpr _ (let q1 := List.length xs;
 let q2 := decide (nu = nu);
 let q3 := decide (N = N);
 let q4 := (False → ∃ (t : TxS), (t.num = 0 ∧ t.N = 0 ∧ t.M = 0) ∧ TxS.Ok t ∧ TxB t ∧ iteB (!ckTx A t) True False) ∧ (False → False);
 let q5 := True ∧ ∀ (i : Nat), i ≤ 0 → (∀ (j : Nat), j < i → (fun (x : Nat) => False) j) → (True → True) ∧ q4;
 let q6 := True ∧ ∀ (i : Nat), i ≤ 0 → (∀ (j : Nat), j < i → (fun (x : Nat) => False) j) → (True → q5) ∧ q4;
 ∃ (xs_1 : List Int),
 let q13 := List.length xs_1;
 ∃ (o : Nat),
 let q15 := rdN F xs_1 o 2147483647;
 xs = List.drop o xs_1 ∧
 (L = q13 - o ∧ o ≤ q13 ∧ Bytes xs_1 ∧ (0 : Int) ≤ 2147483647) ∧
 (∀ (v : Int) (p : Nat),
 q15 = some (v, p) →
 o ≤ p ∧ p ≤ q13 ∧ 0 ≤ v ∧ v ≤ 2147483647 →
 ∃ (xs_2 : List Int),
 let q17 := List.length xs_2;
 ∃ (o : Nat),
 let q19 := rdN F xs_2 o 24;
 List.drop p xs_1 = List.drop o xs_2 ∧
 (q13 - p = q17 - o ∧ o ≤ q17 ∧ Bytes xs_2 ∧ (0 : Int) ≤ 24) ∧
 (∀ (v_1 : Int) (p : Nat),
 q19 = some (v_1, p) →
 o ≤ p ∧ p ≤ q17 ∧ 0 ≤ v_1 ∧ v_1 ≤ 24 →
 iteB (decide (v_1 = cnt))
 (List.drop p xs_2 = List.drop o1 xs ∧
 iteB (decide (q17 - p = q1 - o1))
 (iteB (decide (v = nu))
 (C ∧
 ∀ (i : Nat),
 let q21 := stT inZ rI o1 i;
 let q22 := q21.snd;
 let q23 := decide (i = N);
 i ≤ Int.toNat cnt →
 (∀ (j : Nat), j < i → goT inZ rI o1 j) →
 (¬(↑i : Int) < cnt →
 ∃ (xs_3 : List Int),
 let q27 := List.length xs_3;
 ∃ (o : Nat),
 let q29 := rdN F xs_3 o 24;
 List.drop q22 xs = List.drop o xs_3 ∧
 (q1 - q22 = q27 - o ∧ o ≤ q27 ∧ Bytes xs_3 ∧ (0 : Int) ≤ 24) ∧
 (∀ (v : Int) (p : Nat),
 q29 = some (v, p) →
 o ≤ p ∧ p ≤ q27 ∧ 0 ≤ v ∧ v ≤ 24 →
 iteB (decide (v = cnt2))
 (List.drop p xs_3 = List.drop o2 xs ∧
 iteB (decide (q27 - p = q1 - o2))
 (iteB q2
 (iteB q23
 (iteB (decide (N ≤ i))
 (iteB q23
 (RowsEq 1 [(5, 5), (3, 3), (2, 2), (4, 4), (1, 1)] N (inRows f) (inRows q21.fst) ∧
 C2 ∧
 ∀ (i : Nat),
 let q31 := decide (i = i);
 let q32 := stT outZ rO o2 i;
 let q33 := q32.snd;
 i ≤ Int.toNat cnt2 →
 (∀ (j : Nat), j < i → goT outZ rO o2 j) →
 (¬(↑i : Int) < cnt2 →
 iteB q2
 (iteB q3
 (iteB q3
 (iteB q31
 (iteB q31
 (iteB (decide ((↑(q1 - q33) : Int) > 0)) True
 (iteB (decide (0 + N ≤ N))
 ((∀ (i : Nat), i < N → true = true) ∧
 iteB (decide (0 + i ≤ i))
 ((∀ (i_1 : Nat), i_1 < i → true = true) ∧
 ∃ (t : TxS),
 (t.num = nu ∧
 ((N = N ∧ t.N = N) ∧ ∀ (i : Nat), i < N → [AV.arr IntKind.u8 32 (f i).name, AV.int IntKind.i64 (f i).index, AV.int IntKind.i64 (f i).way, AV.arr IntKind.u8 32 (f i).tag, AV.arr IntKind.u8 32 (f i).also, AV.arr IntKind.u8 32 (f i).secret] = InS.c (t.ins i)) ∧
 (i = i ∧ t.M = i) ∧
 ∀ (i_1 : Nat),
 let q37 := q32.fst i_1;
 i_1 < i → [AV.int IntKind.i64 q37.kind, AV.int IntKind.i64 q37.amount, AV.arr IntKind.u8 32 q37.owner, AV.arr IntKind.u8 32 q37.other, AV.arr IntKind.u8 32 q37.point, AV.arr IntKind.u8 32 q37.hash, AV.int IntKind.i64 q37.delay, AV.int IntKind.i64 q37.expiry] = OutS.c (t.outs i_1)) ∧
 TxS.Ok t ∧ TxB t ∧ iteB (!ckTx A t) True (iteB (decide (nu = 0)) False False))
 False)
 False))
 False)
 False)
 False)
 False)
 False) ∧
 ((↑i : Int) < cnt2 ∧ rO q33 = none → True))
 False)
 False)
 False)
 False)
 False)
 False) ∧
 (q29 = none → q5)) ∧
 ((↑i : Int) < cnt ∧ rI q22 = none → q5))
 False)
 False)
 False) ∧
 (q19 = none → q6)) ∧
 (q15 = none → q6)) (by kernel_rfl) ?_
  conv => zeta
  try simp only [need_eq]
  try simp only [nope_eq]
  try simp only [iteD_eq]
  try simp only [iteT_eq]
  try simp only [iteF_eq]
  try simp only [iteE_eq]
  try simp only [Int.toNat_natCast, Nat.zero_add, true_and, and_true, Nat.le_refl]
  subst hL
  refine ⟨xs, 0, rfl, ⟨rfl, Nat.zero_le _, hb, by omega⟩, ?_, ?_⟩
  rotate_left
  · exact fun h _ _ _ => ⟨fun _ _ _ _ => ⟨fun _ => trivial, fun h => h.elim, fun h => h⟩, fun h => h.elim, fun h => h⟩
  intro v o' q0 r0
  obtain ⟨rfl, rfl⟩ := h0 v o' q0
  refine ⟨xs, _, rfl, ⟨rfl, r0.2.1, hb, by omega⟩, ?_, ?_⟩
  rotate_left
  · exact fun h _ _ _ => ⟨fun _ _ _ _ => ⟨fun _ => trivial, fun h => h.elim, fun h => h⟩, fun h => h.elim, fun h => h⟩
  intro v1 o1' q1 r1
  obtain ⟨rfl, rfl⟩ := h1 v1 o1' q1
  have hlI := hlI r1.2.1
  refine ⟨rfl, rfl, rfl, rfl, hC r1.2.1 r1.2.2.2, fun i hi hgo => ⟨fun hx => ?_, fun hx _ _ _ => ⟨fun _ => trivial, fun h => h.elim, fun h => h⟩⟩⟩
  have hiN : i = N := by omega
  subst hiN
  have hli := hlI i
  refine ⟨xs, _, rfl, ⟨rfl, hli, hb, by omega⟩, ?_, fun _ _ _ _ => ⟨fun _ => trivial, fun h => h.elim, fun h => h⟩⟩
  intro v2 o2' q2 r2
  obtain ⟨rfl, rfl⟩ := h2 v2 o2' q2
  have hlO := hlO r2.2.1
  refine ⟨rfl, rfl, rfl, rfl, Nat.le_refl _, rfl, inRowsEq fun _ _ => (by rw [hf]; rfl), hC2 r2.2.1 r2.2.2.2, fun k hk hgo2 => ⟨fun hx2 => ⟨fun _ => trivial, fun hz => ?_⟩, fun _ => trivial⟩⟩
  have hkM : k = v2.toNat := by omega
  have htok : TxS.Ok ⟨v, i, f, k, (stT outZ rO o2' k).1⟩ := ⟨by show i < 900000000000; omega, by show k < 900000000000; omega, fun j _ => by show (f j).Ok; rw [hf]; exact hoI i j, fun j _ => hoO k j⟩
  refine ⟨fun _ _ => trivial, fun _ _ => trivial, ⟨v, i, f, k, (stT outZ rO o2' k).1⟩, ⟨rfl, ⟨rfl, fun _ _ => rfl⟩, rfl, fun _ _ => rfl⟩, htok, ⟨fun j _ => hoB k j⟩, fun _ => trivial, fun hck => ?_⟩
  exfalso
  have hlk := hlO k
  refine hfail (by rw [q0]; simp) (by rw [q1]; simp) hgo (by rw [q2]; simp) (fun j hj => hgo2 j (by omega)) ?_ ?_
  · rw [← hkM]; omega
  · rw [← hkM]; simpa using hck
theorem rdInR_ok {xs : List Int} {o p : Nat} {x : InS} (ho : o ≤ xs.length) (h : rdInR (firstB numW) xs o = some (x, p)) : x.Ok ∧ p ≤ xs.length := by
  unfold rdInR at h
  simp only [Option.bind_eq_some_iff, Prod.exists, Option.some.injEq, Prod.mk.injEq] at h
  obtain ⟨a, a2, h1, b, b2, h2, c, c2, h3, d, d2, h4, e, e2, h5, f, f2, h6, rfl, rfl⟩ := h
  have k1 := rdH_le h1
  have k2 := rdN_le k1.2.1 h2
  have k3 := rdN_le k2.2.1 h3
  have k4 := rdHif_le k3.2.1 h4
  have k5 := rdHif_le k4.2.1 h5
  have k6 := rdHif_le k5.2.1 h6
  exact ⟨⟨k1.2.2, k4.2.2, k5.2.2, k6.2.2⟩, k6.2.1⟩
theorem Bytes.take {xs : List Int} (h : Bytes xs) (n : Nat) : Bytes (xs.take n) := ⟨fun i => by
  have := h.h i
  rw [List.getD_eq_getElem?_getD] at this ⊢
  rw [List.getElem?_take]
  split
  · exact this
  · simp⟩
theorem Bytes_zero : Bytes zero32 := ⟨fun i => by
  have : zero32.getD i 0 = 0 := by
    unfold zero32
    rw [List.getD_eq_getElem?_getD, List.getElem?_replicate]
    split <;> rfl
  rw [this]; decide⟩
theorem rdH_bytes {xs : List Int} {o p : Nat} {hh : List Int} (hb : Bytes xs) (h : rdH xs o = some (hh, p)) : Bytes hh := by
  unfold rdH at h
  split at h
  · simp only [Option.some.injEq, Prod.mk.injEq] at h
    obtain ⟨rfl, rfl⟩ := h
    exact (hb.drop _).take _
  · cases h
theorem rdHif_bytes {b : Bool} {xs : List Int} {o p : Nat} {hh : List Int} (hb : Bytes xs) (h : rdHif b xs o = some (hh, p)) : Bytes hh := by
  cases b with
  | true => exact rdH_bytes hb h
  | false =>
    simp only [rdHif, Option.some.injEq, Prod.mk.injEq] at h
    obtain ⟨rfl, rfl⟩ := h
    exact Bytes_zero
structure OutS.OkB (o : OutS) : Prop where
  ok : o.Ok
  b1 : Bytes o.owner
  b2 : Bytes o.other
theorem rdOutR_ok {xs : List Int} {o p : Nat} {x : OutS} (hb : Bytes xs) (ho : o ≤ xs.length) (h : rdOutR (firstB numW) xs o = some (x, p)) : x.OkB ∧ p ≤ xs.length := by
  unfold rdOutR at h
  simp only [Option.bind_eq_some_iff, Prod.exists, Option.some.injEq, Prod.mk.injEq] at h
  obtain ⟨a, a2, h1, b, b2, h2, c, c2, h3, d, d2, h4, e, e2, h5, f, f2, h6, u, u2, h7, w, w2, h8, rfl, rfl⟩ := h
  have k1 := rdN_le ho h1
  have k2 := rdN_le k1.2.1 h2
  have k3 := rdH_le h3
  have k4 := rdHif_le k3.2.1 h4
  have k5 := rdHif_le k4.2.1 h5
  have k6 := rdHif_le k5.2.1 h6
  have k7 := rdNif_le k6.2.1 h7
  have k8 := rdNif_le k7.2 h8
  exact ⟨⟨⟨k3.2.2, k4.2.2, k5.2.2, k6.2.2⟩, rdH_bytes hb h3, rdHif_bytes hb h4⟩, k8.2⟩
theorem outZ_okB : outZ.OkB := ⟨outZ_ok, Bytes_zero, Bytes_zero⟩
theorem stT_lenIR {xs : List Int} {o : Nat} (ho : o ≤ xs.length) (i : Nat) : (stT inZ (rdInR (firstB numW) xs) o i).2 ≤ xs.length ∧ ∀ q, ((stT inZ (rdInR (firstB numW) xs) o i).1 q).Ok := stT_inv (ok := InS.Ok) inZ_ok ho (fun o x p h1 h2 => rdInR_ok (xs := xs) h1 h2) i
theorem stT_lenOR {xs : List Int} {o : Nat} (hb : Bytes xs) (ho : o ≤ xs.length) (i : Nat) : (stT outZ (rdOutR (firstB numW) xs) o i).2 ≤ xs.length ∧ ∀ q, ((stT outZ (rdOutR (firstB numW) xs) o i).1 q).OkB := stT_inv (ok := OutS.OkB) outZ_okB ho (fun o x p h1 h2 => rdOutR_ok (xs := xs) hb h1 h2) i
theorem tkL1_ok (xs : List Int) (nu cnt : Int) (o1 : Nat) : ((E34 (firstB numW)).withL 43 0 (tkL1 nu cnt xs o1 (rdInR (firstB numW) xs) (Bytes xs ∧ o1 ≤ xs.length ∧ cnt ≤ 24))).Ok := by
  refine Env2.withL_or E34_ok ?_ ?_
  · exact Env2.withGoM (N := 20) (S := fun _ => tkB1 0 0) E34_ok (by kernel_rfl) fun _ => ⟨rfl, fun i hi hgo => tk_3 _ 0 0 _ _ _ _ trivial⟩
  · refine Env2.withGoB (N := 20) (S := fun i => tkS1 nu cnt xs i (stT inZ (rdInR (firstB numW) xs) o1 i).2 (stT inZ (rdInR (firstB numW) xs) o1 i).1) (SB := fun i => tkB1 ((i : Int) + 1) cnt) E34_ok (by kernel_rfl) fun hC => ⟨rfl, fun i => tk_3 _ _ _ _ _ _ _ trivial, fun i hi hgo => ?_⟩
    have hle := (stT_lenIR hC.2.1 i).1
    cases hr : rdInR (firstB numW) xs (stT inZ (rdInR (firstB numW) xs) o1 i).2 with
    | none => exact .inr (tk_2 _ nu cnt xs i _ _ _ _ hle hC.1 ⟨by omega, hC.2.2⟩ (fun h => h) (fun _ => hr) (fun h => ⟨h, rfl⟩))
    | some xp =>
      obtain ⟨x, p⟩ := xp
      have hs := stT_step hr
      exact .inl (tk_1 _ nu cnt xs i _ _ _ _ _ _ hle hC.1 ⟨by omega, hC.2.2⟩ (fun h => h) x (fun _ => by rw [hr, hs.1]) hs.2 (fun h => ⟨by show goT _ _ _ _; unfold goT; rw [hr]; rfl, by omega⟩))
theorem tkL2_ok (xs : List Int) (nu cnt2 : Int) (o2 N : Nat) (f : Nat → InS) : ((E34 (firstB numW)).withL 43 2 (tkL2 nu cnt2 xs N f o2 (rdOutR (firstB numW) xs) (Bytes xs ∧ o2 ≤ xs.length ∧ cnt2 ≤ 24))).Ok := by
  refine Env2.withL_or E34_ok ?_ ?_
  · exact Env2.withGoM (N := 20) (S := fun _ => tkB2 0 0) E34_ok (by kernel_rfl) fun _ => ⟨rfl, fun i hi hgo => tko_3 _ 0 0 _ _ _ _ trivial⟩
  · refine Env2.withGoB (N := 20) (S := fun i => tkS2 nu cnt2 xs N f i (stT outZ (rdOutR (firstB numW) xs) o2 i).2 (stT outZ (rdOutR (firstB numW) xs) o2 i).1) (SB := fun i => tkB2 ((i : Int) + 1) cnt2) E34_ok (by kernel_rfl) fun hC => ⟨rfl, fun i => tko_3 _ _ _ _ _ _ _ trivial, fun i hi hgo => ?_⟩
    have hle := (stT_lenOR hC.1 hC.2.1 i).1
    cases hr : rdOutR (firstB numW) xs (stT outZ (rdOutR (firstB numW) xs) o2 i).2 with
    | none => exact .inr (tko_2 _ nu cnt2 xs N f i _ _ _ _ hle hC.1 ⟨by omega, hC.2.2⟩ (fun h => h) (fun _ => hr) (fun h => ⟨h, rfl⟩))
    | some xp =>
      obtain ⟨x, p⟩ := xp
      have hs := stT_step hr
      exact .inl (tko_1 _ nu cnt2 xs N f i _ _ _ _ _ _ hle hC.1 ⟨by omega, hC.2.2⟩ (fun h => h) x (fun _ => by rw [hr, hs.1]) hs.2 (fun h => ⟨by show goT _ _ _ _; unfold goT; rw [hr]; rfl, by omega⟩))
theorem E37_ok (xs : List Int) (nu cnt cnt2 : Int) (o1 o2 N : Nat) (f : Nat → InS) : (E37 (firstB numW) addM xs nu cnt cnt2 o1 o2 (rdInR (firstB numW) xs) (rdOutR (firstB numW) xs) (Bytes xs ∧ o1 ≤ xs.length ∧ cnt ≤ 24) (Bytes xs ∧ o2 ≤ xs.length ∧ cnt2 ≤ 24) N f).Ok := by
  unfold E37
  exact Env2.withL_join (H := E34 (firstB numW)) (Env2.withL_join (H := E34 (firstB numW)) E37a_ok rfl (tkL1_ok xs nu cnt o1)) rfl (tkL2_ok xs nu cnt2 o2 N f)
@[irreducible] def parseRT (F : List Int → Int × Int) (A : List Int → Int × Int) (xs : List Int) : Option TxS :=
  (rdN F xs 0 2147483647).bind fun a => (rdN F xs a.2 24).bind fun b =>
  let sI := stT inZ (rdInR F xs) b.2 b.1.toNat
  if ((List.range b.1.toNat).all fun j => (rdInR F xs (stT inZ (rdInR F xs) b.2 j).2).isSome) = true then
    (rdN F xs sI.2 24).bind fun c =>
    let sO := stT outZ (rdOutR F xs) c.2 c.1.toNat
    if (((List.range c.1.toNat).all fun j => (rdOutR F xs (stT outZ (rdOutR F xs) c.2 j).2).isSome) && (sO.2 == xs.length) && ckTx A ⟨a.1, b.1.toNat, sI.1, c.1.toNat, sO.1⟩) = true then some ⟨a.1, b.1.toNat, sI.1, c.1.toNat, sO.1⟩ else none
  else none
theorem parser_pure (xs : List Int) (L : Nat) (hL : xs.length = L) (hb : Bytes xs) :
    (∀ t, parseRT (firstB numW) addM xs = some t → (t.Ok ∧ TxB t) ∧ Pure PP 12 [.vints .u8 xs L] (.tuple [.agg [.int .i64 t.num, .nslice ⟨0, 0, 130, 0, 0⟩ 130 t.N t.N, .nslice ⟨1, 0, 132, 0, 0⟩ 132 t.M t.M], .int .i64 0]) 2 [(0, .rows 130 t.N (inRows t.ins)), (1, .rows 132 t.M (outRows t.outs))]) ∧
    (parseRT (firstB numW) addM xs = none → Pure PP 12 [.vints .u8 xs L] zeroTx 0 []) := by
  generalize hF : firstB numW = F at *
  let a := nuD F xs 0 2147483647
  let b := nuD F xs a.2 24
  let sI := stT inZ (rdInR F xs) b.2 b.1.toNat
  let c := nuD F xs sI.2 24
  let sO := stT outZ (rdOutR F xs) c.2 c.1.toNat
  have la : a.2 ≤ xs.length := by subst hF; exact nuD_le (Nat.zero_le _)
  have lb : b.2 ≤ xs.length := by subst hF; exact nuD_le la
  have lI : ∀ i, (stT inZ (rdInR F xs) b.2 i).2 ≤ xs.length ∧ ∀ q, ((stT inZ (rdInR F xs) b.2 i).1 q).Ok := fun i => by subst hF; exact stT_lenIR lb i
  have lc : c.2 ≤ xs.length := by subst hF; exact nuD_le (lI _).1
  have lO : ∀ i, (stT outZ (rdOutR F xs) c.2 i).2 ≤ xs.length ∧ ∀ q, ((stT outZ (rdOutR F xs) c.2 i).1 q).OkB := fun i => by subst hF; exact stT_lenOR hb lc i
  have hE := E37_ok xs a.1 b.1 c.1 b.2 c.2 b.1.toNat sI.1
  rw [hF] at hE
  have hgoI : (((List.range b.1.toNat).all fun j => (rdInR F xs (stT inZ (rdInR F xs) b.2 j).2).isSome) = true) ↔ ∀ j, j < b.1.toNat → goT inZ (rdInR F xs) b.2 j := by
    rw [List.all_eq_true]; simp only [List.mem_range]; rfl
  have hgoO : (((List.range c.1.toNat).all fun j => (rdOutR F xs (stT outZ (rdOutR F xs) c.2 j).2).isSome) = true) ↔ ∀ j, j < c.1.toNat → goT outZ (rdOutR F xs) c.2 j := by
    rw [List.all_eq_true]; simp only [List.mem_range]; rfl
  constructor
  · intro t ht
    unfold parseRT at ht
    simp only [Option.bind_eq_some_iff] at ht
    obtain ⟨a', h0, b', h1, ht⟩ := ht
    have ea : a' = a := Prod.ext (nuD_some h0).1 (nuD_some h0).2
    subst ea
    have eb : b' = b := Prod.ext (nuD_some h1).1 (nuD_some h1).2
    subst eb
    split at ht
    case isFalse => cases ht
    rename_i hI
    simp only [Option.bind_eq_some_iff] at ht
    obtain ⟨c', h2, ht⟩ := ht
    have ec : c' = c := Prod.ext (nuD_some h2).1 (nuD_some h2).2
    subst ec
    split at ht
    case isFalse => cases ht
    rename_i hO
    cases ht
    simp only [Bool.and_eq_true, beq_iff_eq] at hO
    obtain ⟨⟨hO1, hO2⟩, hO3⟩ := hO
    have l24 : b.1 ≤ 24 ∧ c.1 ≤ 24 := by
      subst hF
      exact ⟨(rdN_le la h1).2.2, (rdN_le (lI _).1 h2).2.2⟩
    refine ⟨⟨⟨by show b.1.toNat < _; omega, by show c.1.toNat < _; omega, fun j _ => (lI _).2 j, fun j _ => ((lO _).2 j).ok⟩, ⟨fun j _ => ⟨((lO _).2 j).b1, ((lO _).2 j).b2⟩⟩⟩, ?_⟩
    exact .evM hE (parser_1 F addM xs a.1 b.1 c.1 b.2 c.2 (rdInR F xs) (rdOutR F xs) _ _ b.1.toNat c.1.toNat sI.1 sO.1 L hL hb a.2 (fun h1 h2 => ⟨hb, h1, h2⟩) (fun h1 h2 => ⟨hb, h1, h2⟩) (fun v p h => nuD_some h) (fun v p h => nuD_some h) rfl rfl (fun v p h => nuD_some h) (fun _ i => (lI i).1) (fun _ i => (lO i).1) (fun i => (lI i).2) (fun i q => ((lO i).2 q).ok) (fun i q => ⟨((lO i).2 q).b1, ((lO i).2 q).b2⟩)
      (by rw [h0]; simp) (by rw [h1]; simp) (hgoI.1 hI) (by rw [h2]; simp) rfl rfl (hgoO.1 hO1) hO2 hO3)
  · intro hn
    refine .evM hE (parser_2 F addM xs a.1 b.1 c.1 b.2 c.2 (rdInR F xs) (rdOutR F xs) _ _ b.1.toNat sI.1 L hL hb a.2 (fun h1 h2 => ⟨hb, h1, h2⟩) (fun h1 h2 => ⟨hb, h1, h2⟩) (fun v p h => nuD_some h) (fun v p h => nuD_some h) rfl rfl (fun v p h => nuD_some h) (fun _ i => (lI i).1) (fun _ i => (lO i).1) (fun i => (lI i).2) (fun i q => ((lO i).2 q).ok) (fun i q => ⟨((lO i).2 q).b1, ((lO i).2 q).b2⟩) (fun e0 e1 eI e2 eO he hck => ?_))
    obtain ⟨a', h0⟩ := Option.ne_none_iff_exists'.1 e0
    have ea : a' = a := Prod.ext (nuD_some h0).1 (nuD_some h0).2
    subst ea
    obtain ⟨b', h1⟩ := Option.ne_none_iff_exists'.1 e1
    have eb : b' = b := Prod.ext (nuD_some h1).1 (nuD_some h1).2
    subst eb
    obtain ⟨c', h2⟩ := Option.ne_none_iff_exists'.1 e2
    have ec : c' = c := Prod.ext (nuD_some h2).1 (nuD_some h2).2
    subst ec
    unfold parseRT at hn
    rw [h0] at hn
    simp only [Option.bind_some] at hn
    rw [h1] at hn
    simp only [Option.bind_some] at hn
    rw [if_pos (hgoI.2 eI)] at hn
    rw [h2] at hn
    simp only [Option.bind_some] at hn
    rw [if_pos (by rw [Bool.and_eq_true, Bool.and_eq_true, beq_iff_eq]; exact ⟨⟨hgoO.2 eO, he⟩, hck⟩)] at hn
    cases hn
def parserS (R : List Int → Option TxS) : FSumm := fun args h K => viewL none h true 20 args fun a => match a with
  | [.vints .u8 xs n] => (xs.length = n ∧ Bytes xs) ∧ (∀ t, R xs = some t → t.Ok → TxB t → K (.ret (.tuple [.agg [.int .i64 t.num, .nslice ⟨h.next, 0, 130, 0, 0⟩ 130 t.N t.N, .nslice ⟨h.next + 1, 0, 132, 0, 0⟩ 132 t.M t.M], .int .i64 0])) ⟨h.next + 2, (h.next, .rows 130 t.N (inRows t.ins)) :: (h.next + 1, .rows 132 t.M (outRows t.outs)) :: h.bs⟩) ∧
    (R xs = none → K (.ret zeroTx) ⟨h.next, h.bs⟩)
  | _ => False
theorem parserS_ok (args : List AV) (h : Heap) (K : KO) (hl : parserS (parseRT (firstB numW) addM) args h K) : CallsA PP 12 args h K := by
  refine Pure.fsumm (d := 20) (viewL_weak _ _ _ _ _ hl fun a ha => ?_)
  split at ha
  · obtain ⟨⟨h1, h2⟩, hK, hK'⟩ := ha
    have hp := parser_pure _ _ h1 h2
    cases hr : parseRT (firstB numW) addM _ with
    | none => exact ⟨_, _, _, _, hp.2 hr, rfl, trivial, hK' hr⟩
    | some t => exact ⟨_, _, _, _, (hp.1 t hr).2, rfl, ⟨by decide, .rows _ _ _ (fun i _ => (t.ins i).plainC), by decide, .rows _ _ _ (fun i _ => (t.outs i).plainC), trivial⟩, hK t hr (hp.1 t hr).1.1 (hp.1 t hr).1.2⟩
  · exact ha.elim
end Go.Tk
end
section
namespace Go.Tk
theorem inRight_way1 {x : InS} (h : inRight x = true) : 1 ≤ x.way ∧ x.way ≤ 6 := (inRight_way h).1
theorem decI (w : Int) (h : 1 ≤ w ∧ w ≤ 6) : decide (w = 1 ∨ w = 2 ∨ w = 3 ∨ w = 5 ∨ w = 6) = decide (w ≠ 4) := by
  by_cases h4 : w = 4
  · subst h4; decide
  · rw [decide_eq_true (by omega), decide_eq_true (by omega)]
theorem rdIn_R {F : List Int → Int × Int} {xs : List Int} {o p : Nat} {x : InS} (hx : inRight x = true) : rdIn F xs o = some (x, p) ↔ rdInR F xs o = some (x, p) := by
  have hw := inRight_way1 hx
  unfold rdIn rdInR
  simp only [Option.bind_eq_some_iff, Prod.exists, Option.some.injEq, Prod.mk.injEq]
  constructor
  · rintro ⟨a, a2, h1, b, b2, h2, c, c2, h3, d, d2, h4, e, e2, h5, f, f2, h6, rfl, rfl⟩
    rw [decI c hw] at h4
    exact ⟨a, a2, h1, b, b2, h2, c, c2, h3, d, d2, h4, e, e2, h5, f, f2, h6, rfl, rfl⟩
  · rintro ⟨a, a2, h1, b, b2, h2, c, c2, h3, d, d2, h4, e, e2, h5, f, f2, h6, rfl, rfl⟩
    rw [← decI c hw] at h4
    exact ⟨a, a2, h1, b, b2, h2, c, c2, h3, d, d2, h4, e, e2, h5, f, f2, h6, rfl, rfl⟩
theorem decO (w : Int) (h : 1 ≤ w ∧ w ≤ 5) : decide (w = 1 ∨ w = 2 ∨ w = 3 ∨ w = 4 ∨ w = 5) = true ∧ decide (w = 3 ∨ w = 4 ∨ w = 5) = decide (3 ≤ w) ∧ decide (w = 4 ∨ w = 5) = decide (4 ≤ w) := by
  refine ⟨by simp; omega, ?_, ?_⟩
  · rw [decide_eq_decide]; omega
  · rw [decide_eq_decide]; omega
theorem rdOut_R {F : List Int → Int × Int} {xs : List Int} {o p : Nat} {x : OutS} (hx : outRight x = true) : rdOut F xs o = some (x, p) ↔ rdOutR F xs o = some (x, p) := by
  have hw := (outRight_facts hx).1
  unfold rdOut rdOutR
  simp only [Option.bind_eq_some_iff, Prod.exists, Option.some.injEq, Prod.mk.injEq]
  constructor
  · rintro ⟨a, a2, h1, b, b2, h2, c, c2, h3, d, d2, h4, e, e2, h5, f, f2, h6, u, u2, h7, w, w2, h8, rfl, rfl⟩
    obtain ⟨q1, q2, q3⟩ := decO a hw
    rw [q1] at h3; rw [q2] at h5 h7; rw [q3] at h6 h8
    exact ⟨a, a2, h1, b, b2, h2, c, c2, h3, d, d2, h4, e, e2, h5, f, f2, h6, u, u2, h7, w, w2, h8, rfl, rfl⟩
  · rintro ⟨a, a2, h1, b, b2, h2, c, c2, h3, d, d2, h4, e, e2, h5, f, f2, h6, u, u2, h7, w, w2, h8, rfl, rfl⟩
    obtain ⟨q1, q2, q3⟩ := decO a hw
    rw [← q2] at h5 h7; rw [← q3] at h6 h8
    exact ⟨a, a2, h1, b, b2, h2, c, c2, by rw [q1]; exact h3, d, d2, h4, e, e2, h5, f, f2, h6, u, u2, h7, w, w2, h8, rfl, rfl⟩
theorem stT_agree {X : Type} {d : X} {rd rd' : Nat → Option (X × Nat)} {o : Nat} {good : X → Bool} (h : ∀ o x p, good x = true → rd o = some (x, p) → rd' o = some (x, p)) :
    ∀ n, (∀ j, j < n → (rd (stT d rd o j).2).isSome = true) → (∀ j, j < n → good ((stT d rd o n).1 j) = true) → stT d rd' o n = stT d rd o n ∧ ∀ j, j < n → (rd' (stT d rd' o j).2).isSome = true
  | 0, _, _ => ⟨rfl, fun j hj => by omega⟩
  | n + 1, h1, h2 => by
    have hn := h1 n (by omega)
    obtain ⟨⟨x, p⟩, hr⟩ := Option.isSome_iff_exists.1 hn
    obtain ⟨e1, e2⟩ := stT_step hr
    have ih := stT_agree h n (fun j hj => h1 j (by omega)) (fun j hj => by
      have := h2 j (by omega)
      rw [e2, if_neg (by omega)] at this
      exact this)
    have hx : good x = true := by
      have := h2 n (by omega)
      rw [e2, if_pos rfl] at this
      exact this
    have hr' := h _ _ _ hx hr
    refine ⟨?_, fun j hj => ?_⟩
    · conv => lhs; unfold stT
      conv => rhs; unfold stT
      rw [ih.1, hr, hr']
    · by_cases hjn : j = n
      · subst hjn
        rw [ih.1, hr']; rfl
      · exact ih.2 j (by omega)
theorem ckTx_io {t : TxS} (h : ckTx addM t = true) : (∀ j, j < t.N → inRight (t.ins j) = true) ∧ ∀ j, j < t.M → outRight (t.outs j) = true := by
  rw [← rightR_ck] at h
  unfold rightR at h
  simp only [Bool.and_eq_true, decide_eq_true_eq, List.all_eq_true, List.mem_range] at h
  obtain ⟨⟨⟨_, h4⟩, h5⟩, h6⟩ := h
  exact ⟨fun j hj => by have := h4 j hj; unfold okI at this; simp only [Bool.and_eq_true] at this; exact this.1, h5⟩
def parseG (F A : List Int → Int × Int) (xs : List Int) (rI : Nat → Option (InS × Nat)) (rO : Nat → Option (OutS × Nat)) : Option TxS :=
  (rdN F xs 0 2147483647).bind fun a => (rdN F xs a.2 24).bind fun b =>
  let sI := stT inZ rI b.2 b.1.toNat
  if ((List.range b.1.toNat).all fun j => (rI (stT inZ rI b.2 j).2).isSome) = true then
    (rdN F xs sI.2 24).bind fun c =>
    let sO := stT outZ rO c.2 c.1.toNat
    if (((List.range c.1.toNat).all fun j => (rO (stT outZ rO c.2 j).2).isSome) && (sO.2 == xs.length) && ckTx A ⟨a.1, b.1.toNat, sI.1, c.1.toNat, sO.1⟩) = true then some ⟨a.1, b.1.toNat, sI.1, c.1.toNat, sO.1⟩ else none
  else none
theorem parseG_le {F : List Int → Int × Int} {xs : List Int} {rI rI' : Nat → Option (InS × Nat)} {rO rO' : Nat → Option (OutS × Nat)} (h1 : ∀ o x p, inRight x = true → rI o = some (x, p) → rI' o = some (x, p)) (h2 : ∀ o x p, outRight x = true → rO o = some (x, p) → rO' o = some (x, p)) {t : TxS}
    (h : parseG F addM xs rI rO = some t) : parseG F addM xs rI' rO' = some t := by
  unfold parseG at h ⊢
  simp only [Option.bind_eq_some_iff] at h ⊢
  obtain ⟨a, ha, b, hb, h⟩ := h
  refine ⟨a, ha, b, hb, ?_⟩
  split at h
  case isFalse => cases h
  rename_i hI
  simp only [Option.bind_eq_some_iff] at h
  obtain ⟨c, hc, h⟩ := h
  split at h
  case isFalse => cases h
  rename_i hO
  simp only [Bool.and_eq_true, beq_iff_eq] at hO
  obtain ⟨⟨hO1, hO2⟩, hO3⟩ := hO
  have hf := ckTx_io hO3
  simp only [List.all_eq_true, List.mem_range] at hI hO1
  have g1 := stT_agree h1 b.1.toNat hI (fun j hj => hf.1 j hj)
  have g2 := stT_agree h2 c.1.toNat hO1 (fun j hj => hf.2 j hj)
  rw [if_pos (by simp only [List.all_eq_true, List.mem_range]; exact g1.2)]
  rw [g1.1]
  simp only [Option.bind_eq_some_iff]
  refine ⟨c, hc, ?_⟩
  rw [g2.1, if_pos (by simp only [Bool.and_eq_true, beq_iff_eq, List.all_eq_true, List.mem_range]; exact ⟨⟨g2.2, hO2⟩, hO3⟩)]
  exact h
theorem parseRT_eq (F : List Int → Int × Int) (xs : List Int) : parseRT F addM xs = parseT F addM xs := by
  have e1 : parseT F addM xs = parseG F addM xs (rdIn F xs) (rdOut F xs) := by unfold parseT parseG; rfl
  have e2 : parseRT F addM xs = parseG F addM xs (rdInR F xs) (rdOutR F xs) := by unfold parseRT parseG; rfl
  rw [e1, e2]
  cases h : parseG F addM xs (rdIn F xs) (rdOut F xs) with
  | some t => exact parseG_le (fun o x p hx => (rdIn_R hx).1) (fun o x p hx => (rdOut_R hx).1) h
  | none =>
    cases h' : parseG F addM xs (rdInR F xs) (rdOutR F xs) with
    | none => rfl
    | some t =>
      have := parseG_le (fun o x p hx => (rdIn_R hx).2) (fun o x p hx => (rdOut_R hx).2) h'
      rw [h] at this; cases this
end Go.Tk
end
section
namespace Go.Tk
theorem rdN_nil {most : Int} : rdN (firstB numW) [] 0 most = none := by
  unfold rdN
  rw [firstB_nil (by rfl)]
  rw [if_neg (by simp)]
theorem parseT_nil : parseT (firstB numW) addM [] = none := by
  unfold parseT
  rw [rdN_nil]
  rfl
def parseN (R : List Int → Option TxS) : FSumm := fun args h K => match args with
  | [.nilslice] => K (.ret zeroTx) ⟨h.next, h.bs⟩
  | _ => parseS R args h K
theorem Pure.nil0 {P : Program} {f : FuncId} {v : AV} {nx : Nat} {bs : List (Nat × Blk)} (h : Pure P f [.vints .u8 [] 0] v nx bs) : Pure P f [.nilslice] v nx bs := by
  intro E w rs he hr
  cases hr with
  | cons v r vs rs hv ht => cases ht with
    | nil => cases hv; exact h E w _ he (.cons _ _ _ _ (.vintsNil _ _ _ rfl rfl) .nil)
theorem parseN_ok (args : List AV) (h : Heap) (K : KO) (hl : parseN (parseT (firstB numW) addM) args h K) : CallsA PP 11 args h K := by
  unfold parseN at hl
  split at hl
  · have hp := ((parse_pure [] 0 rfl (by decide)).2 parseT_nil).nil0
    exact hp.calls (v' := zeroTx) (fun E w rs he hr => by cases hr with | cons v r vs rs hv ht => cases ht with | nil => cases hv; exact .cons _ _ _ _ .nilslice .nil) rfl trivial hl
  · exact parseS_ok _ _ _ hl
noncomputable def E39 (A : List Int → Int × Int) (Tg : List Int → TxS → List Int) (P : List Int → Option TxS) (F : TxS → Int → OutS → Int → Int → Int) : Env2 :=
  (((G0.withP 30 (ckS A)).withP 19 (txtagS A Tg)).withF 11 (parseN P)).withP 23 (spendS F)
theorem E39_ok : (E39 addM tagT' (parseT (firstB numW) addM) (spendF addM nameT hmac1 sha1 pointH outRight)).Ok :=
  Env2.withP_ok (Env2.withF_ok (Env2.withP_ok (Env2.withP_ok G0_ok ckS_ok) txtagS_ok) parseN_ok) spendS_ok
def oneO : OutS := ⟨1, 5, zero32, zero32, zero32, zero32, 0, 0⟩
def oneT (w : Int) (tg : List Int) : TxS := ⟨0, 1, fun _ => ⟨zero32, 0, w, tg, zero32, zero32⟩, 1, fun _ => oneO⟩
def noneT : TxS := ⟨0, 0, fun _ => inZ, 1, fun _ => oneO⟩
def key7 : List Int := 7 :: List.replicate 31 0
def outL7 : OutS := ⟨3, 6, key7, zero32, zero32, zero32, 3, 0⟩
theorem all1 {p : Nat → Prop} (h : p 0) : ∀ i, i < 1 → p i := fun i hi => by
  obtain rfl : i = 0 := by omega
  exact h
theorem oneO_ok : oneO.Ok := ⟨rfl, rfl, rfl, rfl⟩
theorem oneT_ok (w : Int) {tg : List Int} (h : tg.length = 32) : (oneT w tg).Ok := ⟨by show 1 < _; omega, by show 1 < _; omega, fun _ _ => ⟨rfl, h, rfl, rfl⟩, fun _ _ => oneO_ok⟩
theorem noneT_ok : noneT.Ok := ⟨by show 0 < _; omega, by show 1 < _; omega, fun _ _ => inZ_ok, fun _ _ => oneO_ok⟩
theorem outL7_ok : outL7.Ok := ⟨rfl, rfl, rfl, rfl⟩
set_option maxRecDepth 100000 in
set_option maxHeartbeats 0 in
theorem works_1 (A : List Int → Int × Int) (Tg : List Int → TxS → List Int) (P : List Int → Option TxS) (F : TxS → Int → OutS → Int → Int → Int) (hTl : ∀ k t, (Tg k t).length = 32) (c1 : ckTx A (oneT 3 zero32) = true) (c2 : ckTx A noneT = false) (f1 : F (oneT 3 (Tg key7 (oneT 3 zero32))) 0 outL7 10 12 = 171) (f2 : F (oneT 3 (Tg key7 (oneT 3 zero32))) 0 outL7 10 13 = 0) (f3 : F (oneT 4 zero32) 0 oneO 0 0 = 171) :
    evF (E39 A Tg P F) 20 10 [] ⟨0, []⟩ (outV (fun v => v = .bool true)) := by
  refine @Eq.mpr _ (let q1 := AV.arr IntKind.u8 32 zero32;
 let q2 := AV.int IntKind.i64 0;
 let q3 := AV.int IntKind.i64 3;
 let q4 := [q1, q1];
 let q5 := q1 :: q4;
 let q6 := [q2];
 let q7 := AV.int IntKind.i64 1 :: AV.int IntKind.i64 5 :: q1 :: q1 :: q1 :: q1 :: q2 :: q6;
 let q8 := AV.bool false = AV.bool true;
 let q9 := [(7 : Int), 0, 0, 0, 0, 0, 0, 0, 0, 0, 0, 0, 0, 0, 0, 0, 0, 0, 0, 0, 0, 0, 0, 0, 0, 0, 0, 0, 0, 0, 0, 0];
 let q10 := (-9223372036854775808 : Int) ≤ 10 ∧ (10 : Int) < 9223372036854775808;
 let q11 := (-9223372036854775808 : Int) ≤ 0 ∧ (0 : Int) < 9223372036854775808;
 ∃ (t : TxS),
 (t.num = 0 ∧ (((1 : Nat) = 1 ∧ t.N = 1) ∧ ∀ (i : Nat), i < 1 → rowC (q1 :: q2 :: q3 :: q5) 0 130 i = InS.c (t.ins i)) ∧ ((1 : Nat) = 1 ∧ t.M = 1) ∧ ∀ (i : Nat), i < 1 → rowC q7 0 132 i = OutS.c (t.outs i)) ∧
 (TxS.Ok t ∧ (32 : Nat) = 32) ∧
 iteB (ckTx A t)
 (∃ (t_1 : TxS),
 (t_1.num = 0 ∧ t_1.N = 0 ∧ ((1 : Nat) = 1 ∧ t_1.M = 1) ∧ ∀ (i : Nat), i < 1 → rowC q7 0 132 i = OutS.c (t_1.outs i)) ∧
 TxS.Ok t_1 ∧
 iteB (ckTx A t_1) q8
 (∃ (t_2 : TxS),
 ∃ (o : OutS),
 let q23 := q3 :: AV.int IntKind.i64 6 :: AV.arr IntKind.u8 32 q9 :: q1 :: q1 :: q1 :: q3 :: q6;
 (t_2.num = 0 ∧ (((1 : Nat) = 1 ∧ t_2.N = 1) ∧ ∀ (i : Nat), i < 1 → rowC (q1 :: q2 :: q3 :: AV.arr IntKind.u8 32 (Tg q9 t) :: q4) 0 130 i = InS.c (t_2.ins i)) ∧ ((1 : Nat) = 1 ∧ t_2.M = 1) ∧ ∀ (i : Nat), i < 1 → rowC q7 0 132 i = OutS.c (t_2.outs i)) ∧
 q23 = OutS.c o ∧
 (TxS.Ok t_2 ∧ OutS.Ok o ∧ q10 ∧ (-9223372036854775808 : Int) ≤ 12 ∧ (12 : Int) < 9223372036854775808) ∧ iteB (F t_2 0 o 10 12 == 171) (∃ (t_3 : TxS), ∃ (o : OutS), (t_3.num = 0 ∧ (((1 : Nat) = 1 ∧ t_3.N = 1) ∧ ∀ (i : Nat), i < 1 → rowC (q1 :: q2 :: q3 :: AV.arr IntKind.u8 32 (Tg q9 t) :: q4) 0 130 i = InS.c (t_3.ins i)) ∧ ((1 : Nat) = 1 ∧ t_3.M = 1) ∧ ∀ (i : Nat), i < 1 → rowC q7 0 132 i = OutS.c (t_3.outs i)) ∧ q23 = OutS.c o ∧ (TxS.Ok t_3 ∧ OutS.Ok o ∧ q10 ∧ (-9223372036854775808 : Int) ≤ 13 ∧ (13 : Int) < 9223372036854775808) ∧ iteB (F t_3 0 o 10 13 == 0) (zero32 = zero32 ∧ zero32 = zero32 ∧ zero32 = zero32 ∧ zero32 = zero32 ∧ ∃ (t : TxS), ∃ (o : OutS), (t.num = 0 ∧ (((1 : Nat) = 1 ∧ t.N = 1) ∧ ∀ (i : Nat), i < 1 → rowC (q1 :: q2 :: AV.int IntKind.i64 4 :: q5) 0 130 i = InS.c (t.ins i)) ∧ ((1 : Nat) = 1 ∧ t.M = 1) ∧ ∀ (i : Nat), i < 1 → rowC q7 0 132 i = OutS.c (t.outs i)) ∧ q7 = OutS.c o ∧ (TxS.Ok t ∧ OutS.Ok o ∧ q11 ∧ q11) ∧ AV.bool (F t 0 o 0 0 == 171) = AV.bool true) q8) q8))
 (∃ (t : TxS),
 (t.num = 0 ∧ t.N = 0 ∧ ((1 : Nat) = 1 ∧ t.M = 1) ∧ ∀ (i : Nat), i < 1 → rowC q7 0 132 i = OutS.c (t.outs i)) ∧
 TxS.Ok t ∧
 iteB (ckTx A t) q8
 (∃ (t : TxS),
 ∃ (o : OutS),
 let q23 := q3 :: AV.int IntKind.i64 6 :: AV.arr IntKind.u8 32 q9 :: q1 :: q1 :: q1 :: q3 :: q6;
 (t.num = 0 ∧ (((1 : Nat) = 1 ∧ t.N = 1) ∧ ∀ (i : Nat), i < 1 → rowC (q1 :: q2 :: q3 :: q5) 0 130 i = InS.c (t.ins i)) ∧ ((1 : Nat) = 1 ∧ t.M = 1) ∧ ∀ (i : Nat), i < 1 → rowC q7 0 132 i = OutS.c (t.outs i)) ∧
 q23 = OutS.c o ∧ (TxS.Ok t ∧ OutS.Ok o ∧ q10 ∧ (-9223372036854775808 : Int) ≤ 12 ∧ (12 : Int) < 9223372036854775808) ∧ iteB (F t 0 o 10 12 == 171) (∃ (t : TxS), ∃ (o : OutS), (t.num = 0 ∧ (((1 : Nat) = 1 ∧ t.N = 1) ∧ ∀ (i : Nat), i < 1 → rowC (q1 :: q2 :: q3 :: q5) 0 130 i = InS.c (t.ins i)) ∧ ((1 : Nat) = 1 ∧ t.M = 1) ∧ ∀ (i : Nat), i < 1 → rowC q7 0 132 i = OutS.c (t.outs i)) ∧ q23 = OutS.c o ∧ (TxS.Ok t ∧ OutS.Ok o ∧ q10 ∧ (-9223372036854775808 : Int) ≤ 13 ∧ (13 : Int) < 9223372036854775808) ∧ iteB (F t 0 o 10 13 == 0) (zero32 = zero32 ∧ zero32 = zero32 ∧ zero32 = zero32 ∧ zero32 = zero32 ∧ ∃ (t : TxS), ∃ (o : OutS), (t.num = 0 ∧ (((1 : Nat) = 1 ∧ t.N = 1) ∧ ∀ (i : Nat), i < 1 → rowC (q1 :: q2 :: AV.int IntKind.i64 4 :: q5) 0 130 i = InS.c (t.ins i)) ∧ ((1 : Nat) = 1 ∧ t.M = 1) ∧ ∀ (i : Nat), i < 1 → rowC q7 0 132 i = OutS.c (t.outs i)) ∧ q7 = OutS.c o ∧ (TxS.Ok t ∧ OutS.Ok o ∧ q11 ∧ q11) ∧ AV.bool (F t 0 o 0 0 == 171) = AV.bool true) q8) q8))) (by kernel_rfl) ?_
  conv => zeta
  try simp only [need_eq]
  try simp only [nope_eq]
  try simp only [iteD_eq]
  try simp only [iteT_eq]
  try simp only [iteF_eq]
  try simp only [iteE_eq]
  try simp only [Int.toNat_natCast, Nat.zero_add, true_and, and_true, Nat.le_refl]
  refine ⟨oneT 3 zero32, ⟨rfl, ⟨rfl, all1 rfl⟩, rfl, all1 rfl⟩, oneT_ok _ rfl, fun _ => ?_, fun h => (by rw [c1] at h; cases h)⟩
  refine ⟨noneT, ⟨rfl, rfl, rfl, all1 rfl⟩, noneT_ok, fun h => (by rw [c2] at h; cases h), fun _ => ?_⟩
  refine ⟨oneT 3 (Tg key7 (oneT 3 zero32)), outL7, ⟨rfl, ⟨rfl, all1 rfl⟩, rfl, all1 rfl⟩, rfl, ?_, ?_, ?_⟩
  · exact ⟨oneT_ok _ (hTl _ _), outL7_ok, ⟨by omega, by omega⟩, by omega, by omega⟩
  rotate_left
  · intro h; rw [f1] at h; cases h
  intro _
  refine ⟨oneT 3 (Tg key7 (oneT 3 zero32)), outL7, ⟨rfl, ⟨rfl, all1 rfl⟩, rfl, all1 rfl⟩, rfl, ?_, ?_, ?_⟩
  · exact ⟨oneT_ok _ (hTl _ _), outL7_ok, ⟨by omega, by omega⟩, by omega, by omega⟩
  rotate_left
  · intro h; rw [f2] at h; cases h
  intro _
  refine ⟨oneT 4 zero32, oneO, ⟨rfl, ⟨rfl, all1 rfl⟩, rfl, all1 rfl⟩, rfl, ⟨oneT_ok _ rfl, oneO_ok, ⟨by omega, by omega⟩, by omega, by omega⟩, ?_⟩
  rw [f3]; rfl
theorem oneO_right : outRight oneO = true := by unfold outRight; decide
theorem outL7_right : outRight outL7 = true := by unfold outRight; decide
theorem oneT_ck {w : Int} {tg : List Int} (h : inRight ⟨zero32, 0, w, tg, zero32, zero32⟩ = true) : ckTx addM (oneT w tg) = true := by
  rw [← rightR_ck]
  unfold rightR
  have e1 : (List.range (oneT w tg).N).all (okI (oneT w tg)) = true := by
    rw [List.all_eq_true]
    intro i hi
    obtain rfl : i = 0 := by have : i < (oneT w tg).N := by simpa using hi
                             have e : (oneT w tg).N = 1 := rfl
                             omega
    show (inRight ⟨zero32, 0, w, tg, zero32, zero32⟩ && !((List.range 0).any _)) = true
    rw [h]; rfl
  have e2 : (List.range (oneT w tg).M).all (fun i => outRight ((oneT w tg).outs i)) = true := by
    rw [List.all_eq_true]
    intro i hi
    exact oneO_right
  rw [e1, e2]
  rfl
theorem in3_right (tg : List Int) : inRight ⟨zero32, 0, 3, tg, zero32, zero32⟩ = true := by
  unfold inRight; simp
theorem in4_right : inRight ⟨zero32, 0, 4, zero32, zero32, zero32⟩ = true := by
  unfold inRight; decide
theorem noneT_ck : ckTx addM noneT = false := by
  rw [← rightR_ck]
  unfold rightR
  have e : decide (1 ≤ noneT.N ∧ noneT.N ≤ 24) = false := rfl
  rw [e]; simp
theorem oneT_name (tg : List Int) : nameT (oneT 3 tg) = nameT (oneT 3 zero32) := by
  unfold nameT rawT rawO rawI
  rfl
theorem works_calls (h : Heap) (K : AV → Prop) (hK : K (.bool true)) : CallsA PP 10 [] h fun o h' => ∃ v, o = .ret v ∧ h' = h ∧ K v := by
  refine outV_ev E39_ok rfl (works_1 _ _ _ _ tagT'_len (oneT_ck (in3_right _)) noneT_ck ?_ ?_ ?_) (fun u hu => hu ▸ hK)
  · rw [spendF_n (by rw [oneT_ck (in3_right _), outL7_right]; decide)]
    rw [if_neg]
    unfold rightI
    simp [outL7, oneT]
  · rw [spendF_n (by rw [oneT_ck (in3_right _), outL7_right]; decide)]
    rw [if_pos]
    rw [oneT_name]
    unfold rightI tagT' nameT
    simp [outL7, oneT]
  · rw [spendF_n (by rw [oneT_ck in4_right, oneO_right]; decide)]
    rw [if_neg]
    unfold rightI
    simp [oneO, oneT]
end Go.Tk
end
section
namespace Go.Tk
def smH (a b : TxS) : Heap := ⟨2, [(0, .flat a.c), (1, .flat b.c)]⟩
def smP (l : Tmps) : Tmps := l ++ [(2, .ptr (some ⟨0, 0, 0, 0, 0⟩)), (3, .ptr (some ⟨1, 0, 0, 0, 0⟩))]
def smS1 (a b : TxS) (i : Nat) : St := ⟨66, smP [(5, .int .i64 i)], smH a b, []⟩
def smS2 (a b : TxS) (i : Nat) : St := ⟨66, smP [(6, .int .i64 i)], smH a b, []⟩
def smE (a b : TxS) : St := ⟨66, smP [], smH a b, []⟩
def smR (a b : TxS) : St := ⟨66, smP [(4, .bool false)], smH a b, []⟩
set_option maxRecDepth 100000 in
set_option maxHeartbeats 0 in
theorem sm_1 (a b : TxS) (i : Nat) (Z1 Z2 Z3 : Prop) (ha : a.Ok) (hb : b.Ok) (hN : a.N = b.N) (hi : i ≤ a.N) (h1 : i < a.N → eqIn (a.ins i) (b.ins i) = true → Z1) (h2 : i = a.N → Z2) (h3 : i < a.N → eqIn (a.ins i) (b.ins i) = false → Z3) :
    roundE G0 20 13 0 0 (smS1 a b i) (rdM 0 0 9 (smS1 a b (i + 1)) (smE a b) (smR a b) (smR a b) Z1 Z2 Z3 False) := by
  refine @Eq.mpr _ (let q1 := a.N;
 let q2 := b.N;
 let q3 := a.ins (Int.toNat (↑i : Int));
 let q4 := q3.name;
 let q5 := b.ins (Int.toNat (↑i : Int));
 let q6 := q5.name;
 let q7 := q3.tag;
 let q8 := q5.tag;
 let q9 := q3.also;
 let q10 := q5.also;
 let q11 := q3.secret;
 let q12 := q5.secret;
 let q13 := decide (a.num = a.num);
 let q14 := decide (q1 = q1);
 let q15 := inRows a.ins;
 let q16 := q15 = q15;
 let q17 := decide (a.M = a.M);
 let q18 := outRows a.outs;
 let q19 := q18 = q18;
 let q20 := decide (b.num = b.num);
 let q21 := decide (q2 = q2);
 let q22 := inRows b.ins;
 let q23 := q22 = q22;
 let q24 := decide (b.M = b.M);
 let q25 := outRows b.outs;
 let q26 := q25 = q25;
 iteB (decide ((↑i : Int) < (↑q1 : Int)))
 (iteB (decide (0 ≤ (↑i : Int) ∧ (↑i : Int) < (↑q1 : Int))) (iteB (decide (0 ≤ (↑i : Int) ∧ (↑i : Int) < (↑q2 : Int))) (iteB (decide (List.length q4 = 32 ∧ List.length q6 = 32)) (iteB (decide (List.length q7 = 32 ∧ List.length q8 = 32)) (iteB (decide (List.length q9 = 32 ∧ List.length q10 = 32)) (iteB (decide (List.length q11 = 32 ∧ List.length q12 = 32)) (iteB (!(q4 == q6 && (q3.index == q5.index && (q3.way == q5.way && (q7 == q8 && (q9 == q10 && q11 == q12)))))) (iteB q13 (iteB q14 (q16 ∧ iteB q14 (iteB q17 (q19 ∧ iteB q17 (iteB q20 (iteB q21 (q23 ∧ iteB q21 (iteB q24 (q26 ∧ iteB q24 Z3 False) False) False) False) False) False) False) False) False) False) (iteB (decide (IntKind.wrap IntKind.i64 ((↑i : Int) + 1) = (↑(i + 1) : Int))) (iteB q13 (iteB q14 (q16 ∧ iteB q14 (iteB q17 (q19 ∧ iteB q17 (iteB q20 (iteB q21 (q23 ∧ iteB q21 (iteB q24 (q26 ∧ iteB q24 Z1 False) False) False) False) False) False) False) False) False) False) False)) False) False) False) False) False) False)
 (iteB q13 (iteB q14 (q16 ∧ iteB q14 (iteB q17 (q19 ∧ iteB q17 (iteB q20 (iteB q21 (q23 ∧ iteB q21 (iteB q24 (q26 ∧ iteB q24 Z2 False) False) False) False) False) False) False) False) False) False)) (by kernel_rfl) ?_
  conv => zeta
  try simp only [need_eq]
  try simp only [nope_eq]
  try simp only [iteD_eq]
  try simp only [iteT_eq]
  try simp only [iteF_eq]
  try simp only [iteE_eq]
  try simp only [Int.toNat_natCast, Nat.zero_add, true_and, and_true, Nat.le_refl]
  refine ⟨fun hlt => ?_, fun hge => h2 (by omega)⟩
  have hlt : i < a.N := by omega
  have h1 := h1 hlt
  have h3 := h3 hlt
  obtain ⟨e1, e2, e3, e4⟩ := ha.ins i hlt
  obtain ⟨d1, d2, d3, d4⟩ := hb.ins i (by omega)
  have hN0 := ha.n
  refine ⟨by omega, by omega, ⟨e1, d1⟩, ⟨e2, d2⟩, ⟨e3, d3⟩, ⟨e4, d4⟩, fun q => h3 ?_, fun q => ⟨w64 (by omega), h1 ?_⟩⟩
  · unfold eqIn
    rw [Bool.not_eq_true'] at q
    simp only [Bool.and_assoc]
    exact q
  · unfold eqIn
    rw [Bool.not_eq_false'] at q
    simp only [Bool.and_assoc]
    exact q
set_option maxRecDepth 100000 in
set_option maxHeartbeats 0 in
theorem sm_2 (a b : TxS) (i : Nat) (Z1 Z2 Z3 : Prop) (ha : a.Ok) (hb : b.Ok) (hN : a.M = b.M) (hi : i ≤ a.M) (h1 : i < a.M → eqOut (a.outs i) (b.outs i) = true → Z1) (h2 : i = a.M → Z2) (h3 : i < a.M → eqOut (a.outs i) (b.outs i) = false → Z3) :
    roundE G0 20 13 2 0 (smS2 a b i) (rdM 0 2 9 (smS2 a b (i + 1)) (smE a b) (smR a b) (smR a b) Z1 Z2 Z3 False) := by
  refine @Eq.mpr _ (let q1 := a.M;
 let q2 := b.M;
 let q3 := a.outs (Int.toNat (↑i : Int));
 let q4 := q3.owner;
 let q5 := b.outs (Int.toNat (↑i : Int));
 let q6 := q5.owner;
 let q7 := q3.other;
 let q8 := q5.other;
 let q9 := q3.point;
 let q10 := q5.point;
 let q11 := q3.hash;
 let q12 := q5.hash;
 let q13 := decide (a.num = a.num);
 let q14 := decide (a.N = a.N);
 let q15 := inRows a.ins;
 let q16 := q15 = q15;
 let q17 := decide (q1 = q1);
 let q18 := outRows a.outs;
 let q19 := q18 = q18;
 let q20 := decide (b.num = b.num);
 let q21 := decide (b.N = b.N);
 let q22 := inRows b.ins;
 let q23 := q22 = q22;
 let q24 := decide (q2 = q2);
 let q25 := outRows b.outs;
 let q26 := q25 = q25;
 iteB (decide ((↑i : Int) < (↑q1 : Int)))
 (iteB (decide (0 ≤ (↑i : Int) ∧ (↑i : Int) < (↑q1 : Int)))
 (iteB (decide (0 ≤ (↑i : Int) ∧ (↑i : Int) < (↑q2 : Int))) (iteB (decide (List.length q4 = 32 ∧ List.length q6 = 32)) (iteB (decide (List.length q7 = 32 ∧ List.length q8 = 32)) (iteB (decide (List.length q9 = 32 ∧ List.length q10 = 32)) (iteB (decide (List.length q11 = 32 ∧ List.length q12 = 32)) (iteB (!(q3.kind == q5.kind && (q3.amount == q5.amount && (q4 == q6 && (q7 == q8 && (q9 == q10 && (q11 == q12 && (q3.delay == q5.delay && q3.expiry == q5.expiry)))))))) (iteB q13 (iteB q14 (q16 ∧ iteB q14 (iteB q17 (q19 ∧ iteB q17 (iteB q20 (iteB q21 (q23 ∧ iteB q21 (iteB q24 (q26 ∧ iteB q24 Z3 False) False) False) False) False) False) False) False) False) False) (iteB (decide (IntKind.wrap IntKind.i64 ((↑i : Int) + 1) = (↑(i + 1) : Int))) (iteB q13 (iteB q14 (q16 ∧ iteB q14 (iteB q17 (q19 ∧ iteB q17 (iteB q20 (iteB q21 (q23 ∧ iteB q21 (iteB q24 (q26 ∧ iteB q24 Z1 False) False) False) False) False) False) False) False) False) False) False)) False) False) False) False) False) False)
 (iteB q13 (iteB q14 (q16 ∧ iteB q14 (iteB q17 (q19 ∧ iteB q17 (iteB q20 (iteB q21 (q23 ∧ iteB q21 (iteB q24 (q26 ∧ iteB q24 Z2 False) False) False) False) False) False) False) False) False) False)) (by kernel_rfl) ?_
  conv => zeta
  try simp only [need_eq]
  try simp only [nope_eq]
  try simp only [iteD_eq]
  try simp only [iteT_eq]
  try simp only [iteF_eq]
  try simp only [iteE_eq]
  try simp only [Int.toNat_natCast, Nat.zero_add, true_and, and_true, Nat.le_refl]
  refine ⟨fun hlt => ?_, fun hge => h2 (by omega)⟩
  have hlt : i < a.M := by omega
  have h1 := h1 hlt
  have h3 := h3 hlt
  obtain ⟨e1, e2, e3, e4⟩ := ha.outs i hlt
  obtain ⟨d1, d2, d3, d4⟩ := hb.outs i (by omega)
  have hN0 := ha.m
  refine ⟨by omega, by omega, ⟨e1, d1⟩, ⟨e2, d2⟩, ⟨e3, d3⟩, ⟨e4, d4⟩, fun q => h3 ?_, fun q => ⟨w64 (by omega), h1 ?_⟩⟩
  · unfold eqOut
    rw [Bool.not_eq_true'] at q
    simp only [Bool.and_assoc]
    exact q
  · unfold eqOut
    rw [Bool.not_eq_false'] at q
    simp only [Bool.and_assoc]
    exact q
def smL1 (a b : TxS) : Nat → St → KE → Prop := goM 0 (smS1 a b 0) (a.Ok ∧ b.Ok ∧ a.N = b.N) (endsJ 0 a.N 9 (fun i => eqIn (a.ins i) (b.ins i) = true) (fun i => i = a.N) (fun i => i < a.N ∧ eqIn (a.ins i) (b.ins i) = false) (fun _ => False) (fun _ => smE a b) (fun _ => smR a b) (fun _ => smR a b))
def smL2 (a b : TxS) : Nat → St → KE → Prop := goM 0 (smS2 a b 0) (a.Ok ∧ b.Ok ∧ a.M = b.M) (endsJ 2 a.M 9 (fun i => eqOut (a.outs i) (b.outs i) = true) (fun i => i = a.M) (fun i => i < a.M ∧ eqOut (a.outs i) (b.outs i) = false) (fun _ => False) (fun _ => smE a b) (fun _ => smR a b) (fun _ => smR a b))
noncomputable def E40 (a b : TxS) : Env2 := (G0.withL 13 0 (smL1 a b)).withL 13 2 (smL2 a b)
theorem E40_ok (a b : TxS) : (E40 a b).Ok := by
  have h1 : (G0.withL 13 0 (smL1 a b)).Ok := Env2.withGoM (N := 20) (S := smS1 a b) G0_ok (by kernel_rfl) fun hC => ⟨rfl, fun i hi hgo => sm_1 a b i _ _ _ hC.1 hC.2.1 hC.2.2 hi (fun h1 h2 => ⟨h2, h1⟩) (fun h => h) (fun h1 h2 => ⟨h1, h2⟩)⟩
  have h2 : (G0.withL 13 2 (smL2 a b)).Ok := Env2.withGoM (N := 20) (S := smS2 a b) G0_ok (by kernel_rfl) fun hC => ⟨rfl, fun i hi hgo => sm_2 a b i _ _ _ hC.1 hC.2.1 hC.2.2 hi (fun h1 h2 => ⟨h2, h1⟩) (fun h => h) (fun h1 h2 => ⟨h1, h2⟩)⟩
  exact Env2.withL_join (H := G0) h1 rfl h2
set_option maxRecDepth 100000 in
set_option maxHeartbeats 0 in
theorem sm_t (a b : TxS) (F : Bool) (ha : a.Ok) (hb : b.Ok) (hF : F = sameT a b) :
    evF (E40 a b) 20 13 [.agg a.c, .agg b.c] ⟨0, []⟩ (outK 0 [] (.bool F) 0 []) := by
  refine @Eq.mpr _ (let q1 := a.num;
 let q2 := b.num;
 let q3 := iteB (decide (false = F)) True False;
 let q4 := a.N;
 let q5 := b.N;
 let q6 := a.M;
 let q7 := b.M;
 let q8 := decide (q1 = q1);
 let q9 := decide (q4 = q4);
 let q10 := inRows a.ins;
 let q11 := q10 = q10;
 let q12 := decide (q6 = q6);
 let q13 := outRows a.outs;
 let q14 := q13 = q13;
 let q15 := decide (q2 = q2);
 let q16 := decide (q5 = q5);
 let q17 := inRows b.ins;
 let q18 := q17 = q17;
 let q19 := decide (q7 = q7);
 let q20 := outRows b.outs;
 let q21 := q20 = q20;
 iteB (q1 != q2) q3 (iteB ((↑q4 : Int) != (↑q5 : Int)) q3 (iteB ((↑q6 : Int) != (↑q7 : Int)) q3 (iteB q8 (iteB q9 (q11 ∧ iteB q9 (iteB q12 (q14 ∧ iteB q12 (iteB q15 (iteB q16 (q18 ∧ iteB q16 (iteB q19 (q21 ∧ iteB q19 ((TxS.Ok a ∧ TxS.Ok b ∧ q4 = q5) ∧ ∀ (i : Nat), i ≤ q4 → (∀ (j : Nat), j < i → (fun (i : Nat) => eqIn (a.ins i) (b.ins i) = true) j) → (i = q4 → iteB q8 (iteB q9 (q11 ∧ iteB q9 (iteB q12 (q14 ∧ iteB q12 (iteB q15 (iteB q16 (q18 ∧ iteB q16 (iteB q19 (q21 ∧ iteB q19 ((TxS.Ok a ∧ TxS.Ok b ∧ q6 = q7) ∧ ∀ (i : Nat), i ≤ q6 → (∀ (j : Nat), j < i → (fun (i : Nat) => eqOut (a.outs i) (b.outs i) = true) j) → (i = q6 → iteB (decide (true = F)) True False) ∧ (i < q6 ∧ eqOut (a.outs i) (b.outs i) = false → q3) ∧ (False → False)) False) False) False) False) False) False) False) False) False) False) ∧ (i < q4 ∧ eqIn (a.ins i) (b.ins i) = false → q3) ∧ (False → False)) False) False) False) False) False) False) False) False) False) False)))) (by kernel_rfl) ?_
  conv => zeta
  try simp only [need_eq]
  try simp only [nope_eq]
  try simp only [iteD_eq]
  try simp only [iteT_eq]
  try simp only [iteF_eq]
  try simp only [iteE_eq]
  try simp only [Int.toNat_natCast, Nat.zero_add, true_and, and_true, Nat.le_refl]
  have hn : a.num ≠ b.num → false = sameT a b := fun h => by
    unfold sameT; rw [beq_eq_false_iff_ne.2 h]; rfl
  have hi : eqiL a.N a.ins b.N b.ins = false → false = sameT a b := fun h => by
    unfold sameT; rw [h, Bool.false_and, Bool.and_false]
  have ho : eqoL a.M a.outs b.M b.outs = false → false = sameT a b := fun h => by
    unfold sameT; rw [h, Bool.and_false, Bool.and_false]
  subst hF
  refine ⟨fun h => hn (by simpa using h), fun h0 => ⟨fun h => hi ?_, fun h1 => ⟨fun h => ho ?_, fun h2 => ?_⟩⟩⟩
  · have h : a.N ≠ b.N := fun e => by rw [e] at h; simp at h
    unfold eqiL; rw [decide_eq_false h, Bool.false_and]
  · have h : a.M ≠ b.M := fun e => by rw [e] at h; simp at h
    unfold eqoL; rw [decide_eq_false h, Bool.false_and]
  have h0 : a.num = b.num := by simpa using h0
  have h1 : a.N = b.N := by have : (a.N : Int) = b.N := by simpa using h1
                            omega
  have h2 : a.M = b.M := by have : (a.M : Int) = b.M := by simpa using h2
                            omega
  refine ⟨⟨ha, hb, h1⟩, fun i hi' hgo => ⟨fun hx => ⟨⟨ha, hb, h2⟩, fun k hk hgo2 => ⟨fun hx2 => ?_, fun hx2 => ho ?_, fun h => h⟩⟩, fun hx => hi ?_, fun h => h⟩⟩
  · subst hx hx2
    have e1 : (List.range a.N).all (fun i => eqIn (a.ins i) (b.ins i)) = true := by
      rw [List.all_eq_true]; intro j hj; exact hgo j (by simpa using hj)
    have e2 : (List.range a.M).all (fun i => eqOut (a.outs i) (b.outs i)) = true := by
      rw [List.all_eq_true]; intro j hj; exact hgo2 j (by simpa using hj)
    unfold sameT eqiL eqoL
    rw [e1, e2, decide_eq_true h1, decide_eq_true h2, h0, beq_self_eq_true]; rfl
  · have e2 : (List.range a.M).all (fun i => eqOut (a.outs i) (b.outs i)) = false := by
      rw [List.all_eq_false]; exact ⟨k, by simpa using hx2.1, by simp [hx2.2]⟩
    unfold eqoL; rw [e2, Bool.and_false]
  · have e1 : (List.range a.N).all (fun i => eqIn (a.ins i) (b.ins i)) = false := by
      rw [List.all_eq_false]; exact ⟨i, by simpa using hx.1, by simp [hx.2]⟩
    unfold eqiL; rw [e1, Bool.and_false]
theorem samer_ok (args : List AV) (h : Heap) (K : AV → Prop) (hl : sametS sameT args h K) : CallsA PP 13 args h fun o h' => ∃ v, o = .ret v ∧ h' = h ∧ K v := by
  refine Pure.psumm (d := 20) (viewL_weak _ _ _ _ _ hl fun a ha => ?_)
  split at ha
  · obtain ⟨a, b, h1, h2, ⟨h3, h4⟩, hK⟩ := ha
    exact ⟨_, (Pure.ev (E40_ok a b) (sm_t a b _ h3 h4 rfl)).conv fun E r hr => hr.head (fun _ hc => h1.rel hc) (fun _ hc => hc.head (fun _ hc => h2.rel hc) (fun _ hc => hc)), fun _ => rfl, hK⟩
  · exact ha.elim
end Go.Tk
end
