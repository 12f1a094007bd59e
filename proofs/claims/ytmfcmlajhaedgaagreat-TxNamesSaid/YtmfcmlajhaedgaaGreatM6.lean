/- M: part 6 of an engine (a symbolic evaluator, proved against the model) and of the walk by it. -/
import Derived.Test.YtmfcmlajhaedgaaGreatM5
import Derived.OpenShut
import Derived.WideShapes
import Derived.ChangeSlices
import Derived.WalkKit
import Derived.ProofKit
import Derived.Below
import Derived.Handed
import Derived.Carry
import Derived.Test.YtmfcmlajhaedgaaGreatRows
import Derived.ChangeOld
set_option linter.unusedVariables false
set_option linter.unusedSimpArgs false
section
namespace Go.Tk
def worksS : PSumm := fun args _ K => match args with
  | [] => K (.bool true)
  | _ => False
theorem worksS_ok (args : List AV) (h : Heap) (K : AV → Prop) (hl : worksS args h K) : CallsA PP 10 args h fun o h' => ∃ v, o = .ret v ∧ h' = h ∧ K v := by
  unfold worksS at hl
  split at hl
  · exact works_calls h K hl
  · exact hl.elim
noncomputable def E41 (P : List Int → Option TxS) (S : TxS → TxS → Bool) : Env2 := (((G0.withP 10 worksS).withP 13 (sametS S)).withF 11 (parseS P)).withF 12 (parserS P)
def zTx : TxS := ⟨0, 0, fun _ => inZ, 0, fun _ => outZ⟩
theorem zTx_ok : zTx.Ok := ⟨by show 0 < _; omega, by show 0 < _; omega, fun _ _ => inZ_ok, fun _ _ => outZ_ok⟩
theorem sameT_refl (t : TxS) : sameT t t = true := by
  unfold sameT eqiL eqoL
  have e1 : (List.range t.N).all (fun i => eqIn (t.ins i) (t.ins i)) = true := by
    rw [List.all_eq_true]; intro j _; simp [eqIn]
  have e2 : (List.range t.M).all (fun i => eqOut (t.outs i) (t.outs i)) = true := by
    rw [List.all_eq_true]; intro j _; simp [eqOut]
  rw [e1, e2]; simp
theorem parserT_ok (args : List AV) (h : Heap) (K : KO) (hl : parserS (parseT (firstB numW) addM) args h K) : CallsA PP 12 args h K := by
  have e : parseRT (firstB numW) addM = parseT (firstB numW) addM := funext fun xs => parseRT_eq _ xs
  rw [← e] at hl
  exact parserS_ok _ _ _ hl
theorem E41_ok : (E41 (parseT (firstB numW) addM) sameT).Ok := Env2.withF_ok (Env2.withF_ok (Env2.withP_ok (Env2.withP_ok G0_ok worksS_ok) samer_ok) parseS_ok) parserT_ok
set_option maxRecDepth 100000 in
set_option maxHeartbeats 0 in
theorem txparses_1 (P : List Int → Option TxS) (S : TxS → TxS → Bool) (xs : List Int) (n : Nat) (hn : xs.length = n) (hb : Bytes xs) (hS : ∀ t : TxS, S t t = true) :
    evF (E41 P S) 20 3 [.vints .u8 xs n] ⟨0, []⟩ (outV (fun v => v = .bool true)) := by
  refine @Eq.mpr _ (let q1 := AV.bool true;
 let q2 := q1 = q1;
 let q3 := [] ++ List.take n xs;
 let q4 := List.length q3;
 let q5 := q3 ++ [(77 : Int)];
 let q6 := List.length q5;
 let q7 := subO (Int.toNat (↑n : Int)) none;
 let q8 := List.take q7 (dropZ 0 q5);
 let q9 := P q8;
 let q10 := List.length xs = n ∧ Bytes xs;
 let q11 := decide (IntKind.u8 = IntKind.u8 ∧ 0 + q7 ≤ q6);
 let q12 := ByteArray.toList (strOf q8) == ByteArray.toList (strOf (List.take n xs));
 let q13 := subO q6 none;
 let q14 := decide (q7 ≤ q13);
 let q15 := IntKind.wrap IntKind.i64 ((↑n : Int) + 1);
 let q16 := decide (0 ≤ q15 ∧ q15 ≤ (↑q13 : Int));
 let q17 := decide (0 ≤ (↑n : Int) ∧ (↑n : Int) < (↑(subO (Int.toNat q15) none) : Int));
 let q18 := 0 + Int.toNat (↑n : Int);
 let q19 := List.getD q5 q18 0 == 77;
 let q20 := AV.bool false = q1;
 iteB (decide ((↑n : Int) > 3000)) q2
 (iteB (decide (q4 * 1 ≤ 140737488355328))
 (iteB (decide (IntKind.u8 = IntKind.u8 ∧ q4 = q4))
 (iteB (decide (q6 * 1 ≤ 140737488355328))
 (iteB (decide (q6 ≤ q6))
 (iteB (decide (0 ≤ (↑n : Int) ∧ (↑n : Int) ≤ (↑q6 : Int)))
 (iteB (decide (0 + q7 ≤ q6))
 (iteB (decide (List.length q8 = q7 ∧ q7 < 90000000000000))
 ((∀ (t : TxS),
 let q41 := t.N;
 let q42 := decide (0 + q41 ≤ q41);
 let q43 := t.M;
 let q44 := decide (0 + q43 ≤ q43);
 q9 = some t →
 TxS.Ok t →
 q10 ∧
 (∀ (t_1 : TxS),
 let q49 := t_1.N;
 let q50 := t_1.M;
 P xs = some t_1 →
 TxS.Ok t_1 →
 TxB t_1 →
 iteB q11
 (iteB q12
 (iteB q14
 (iteB q16
 (iteB q17
 (iteB (decide (q18 < q6))
 (iteB q19
 (iteB q42
 ((∀ (i : Nat), i < q41 → true = true) ∧
 iteB q44
 ((∀ (i : Nat), i < q43 → true = true) ∧
 iteB (decide (0 + q49 ≤ q49))
 ((∀ (i : Nat), i < q49 → true = true) ∧
 iteB (decide (0 + q50 ≤ q50))
 ((∀ (i : Nat), i < q50 → true = true) ∧
 ∃ (a : TxS),
 ∃ (b : TxS),
 (a.num = t.num ∧
 ((q41 = q41 ∧ a.N = q41) ∧
 ∀ (i : Nat),
 let q53 := t.ins i;
 i < q41 → [AV.arr IntKind.u8 32 q53.name, AV.int IntKind.i64 q53.index, AV.int IntKind.i64 q53.way, AV.arr IntKind.u8 32 q53.tag, AV.arr IntKind.u8 32 q53.also, AV.arr IntKind.u8 32 q53.secret] = InS.c (a.ins i)) ∧
 (q43 = q43 ∧ a.M = q43) ∧
 ∀ (i : Nat),
 let q53 := t.outs i;
 i < q43 → [AV.int IntKind.i64 q53.kind, AV.int IntKind.i64 q53.amount, AV.arr IntKind.u8 32 q53.owner, AV.arr IntKind.u8 32 q53.other, AV.arr IntKind.u8 32 q53.point, AV.arr IntKind.u8 32 q53.hash, AV.int IntKind.i64 q53.delay, AV.int IntKind.i64 q53.expiry] = OutS.c (a.outs i)) ∧
 (b.num = t_1.num ∧
 ((q49 = q49 ∧ b.N = q49) ∧
 ∀ (i : Nat),
 let q53 := t_1.ins i;
 i < q49 → [AV.arr IntKind.u8 32 q53.name, AV.int IntKind.i64 q53.index, AV.int IntKind.i64 q53.way, AV.arr IntKind.u8 32 q53.tag, AV.arr IntKind.u8 32 q53.also, AV.arr IntKind.u8 32 q53.secret] = InS.c (b.ins i)) ∧
 (q50 = q50 ∧ b.M = q50) ∧
 ∀ (i : Nat),
 let q53 := t_1.outs i;
 i < q50 → [AV.int IntKind.i64 q53.kind, AV.int IntKind.i64 q53.amount, AV.arr IntKind.u8 32 q53.owner, AV.arr IntKind.u8 32 q53.other, AV.arr IntKind.u8 32 q53.point, AV.arr IntKind.u8 32 q53.hash, AV.int IntKind.i64 q53.delay, AV.int IntKind.i64 q53.expiry] = OutS.c (b.outs i)) ∧
 (TxS.Ok a ∧ TxS.Ok b) ∧ iteB (S a b) q2 q20)
 False)
 False)
 False)
 False)
 q20)
 False)
 False)
 False)
 False)
 q20)
 False) ∧
 (P xs = none →
 iteB q11
 (iteB q12
 (iteB q14
 (iteB q16
 (iteB q17
 (iteB (decide (q18 < q6))
 (iteB q19
 (iteB q42
 ((∀ (i : Nat), i < q41 → true = true) ∧
 iteB q44
 ((∀ (i : Nat), i < q43 → true = true) ∧
 ∃ (a : TxS),
 ∃ (b : TxS),
 (a.num = t.num ∧
 ((q41 = q41 ∧ a.N = q41) ∧
 ∀ (i : Nat),
 let q49 := t.ins i;
 i < q41 → [AV.arr IntKind.u8 32 q49.name, AV.int IntKind.i64 q49.index, AV.int IntKind.i64 q49.way, AV.arr IntKind.u8 32 q49.tag, AV.arr IntKind.u8 32 q49.also, AV.arr IntKind.u8 32 q49.secret] = InS.c (a.ins i)) ∧
 (q43 = q43 ∧ a.M = q43) ∧
 ∀ (i : Nat),
 let q49 := t.outs i;
 i < q43 → [AV.int IntKind.i64 q49.kind, AV.int IntKind.i64 q49.amount, AV.arr IntKind.u8 32 q49.owner, AV.arr IntKind.u8 32 q49.other, AV.arr IntKind.u8 32 q49.point, AV.arr IntKind.u8 32 q49.hash, AV.int IntKind.i64 q49.delay, AV.int IntKind.i64 q49.expiry] = OutS.c (a.outs i)) ∧
 (b.num = 0 ∧ b.N = 0 ∧ b.M = 0) ∧ (TxS.Ok a ∧ TxS.Ok b) ∧ iteB (S a b) q20 q20)
 False)
 False)
 q20)
 False)
 False)
 False)
 False)
 q20)
 False)) ∧
 (q9 = none →
 q10 ∧
 (∀ (t : TxS),
 let q41 := t.N;
 let q42 := t.M;
 P xs = some t →
 TxS.Ok t →
 TxB t →
 iteB q11
 (iteB q12
 (iteB q14
 (iteB q16
 (iteB q17
 (iteB (decide (q18 < q6))
 (iteB q19
 (iteB (decide (0 + q41 ≤ q41))
 ((∀ (i : Nat), i < q41 → true = true) ∧
 iteB (decide (0 + q42 ≤ q42))
 ((∀ (i : Nat), i < q42 → true = true) ∧
 ∃ (a : TxS),
 ∃ (b : TxS),
 (a.num = 0 ∧ a.N = 0 ∧ a.M = 0) ∧
 (b.num = t.num ∧
 ((q41 = q41 ∧ b.N = q41) ∧
 ∀ (i : Nat),
 let q45 := t.ins i;
 i < q41 → [AV.arr IntKind.u8 32 q45.name, AV.int IntKind.i64 q45.index, AV.int IntKind.i64 q45.way, AV.arr IntKind.u8 32 q45.tag, AV.arr IntKind.u8 32 q45.also, AV.arr IntKind.u8 32 q45.secret] = InS.c (b.ins i)) ∧
 (q42 = q42 ∧ b.M = q42) ∧
 ∀ (i : Nat),
 let q45 := t.outs i;
 i < q42 → [AV.int IntKind.i64 q45.kind, AV.int IntKind.i64 q45.amount, AV.arr IntKind.u8 32 q45.owner, AV.arr IntKind.u8 32 q45.other, AV.arr IntKind.u8 32 q45.point, AV.arr IntKind.u8 32 q45.hash, AV.int IntKind.i64 q45.delay, AV.int IntKind.i64 q45.expiry] = OutS.c (b.outs i)) ∧
 (TxS.Ok a ∧ TxS.Ok b) ∧ iteB (S a b) q20 q20)
 False)
 False)
 q20)
 False)
 False)
 False)
 False)
 q20)
 False) ∧
 (P xs = none → iteB q11 (iteB q12 (iteB q14 (iteB q16 (iteB q17 (iteB (decide (q18 < q6)) (iteB q19 (∃ (a : TxS), ∃ (b : TxS), (a.num = 0 ∧ a.N = 0 ∧ a.M = 0) ∧ (b.num = 0 ∧ b.N = 0 ∧ b.M = 0) ∧ (TxS.Ok a ∧ TxS.Ok b) ∧ iteB (S a b) q2 q20) q20) False) False) False) False) q20) False)))
 False)
 False)
 False)
 False)
 False)
 False)
 False)) (by kernel_rfl) ?_
  conv => zeta
  subst hn
  have e0 : ([] ++ List.take xs.length xs ++ [77] : List Int) = xs ++ [77] := by simp
  have e1 : subO (Int.toNat (xs.length : Int)) none = xs.length := rfl
  have e2 : List.take xs.length (dropZ 0 (xs ++ [77])) = xs := by simp [dropZ]
  have e3 : List.take xs.length xs = xs := by simp
  have e4 : (xs ++ [77] : List Int).length = xs.length + 1 := by simp
  have e5 : ([] ++ xs : List Int) = xs := rfl
  have e6 : (xs ++ [77] : List Int).getD (0 + Int.toNat (xs.length : Int)) 0 = 77 := by simp
  simp only [e0, e1, e2, e3, e4, e5, e6]
  cases hP : P xs with
  | none =>
    try simp only [need_eq]
    try simp only [nope_eq]
    try simp only [iteD_eq]
    try simp only [iteT_eq]
    try simp only [iteF_eq]
    try simp only [iteE_eq]
    try simp only [Int.toNat_natCast, Nat.zero_add, true_and, and_true, Nat.le_refl]
    have hs : ((strOf xs).toList == (strOf xs).toList) = true := beq_self_eq_true _
    refine ⟨fun _ => trivial, fun hl => ?_⟩
    have hw : IntKind.i64.wrap ((xs.length : Int) + 1) = ((xs.length + 1 : Nat) : Int) := w64 (by omega)
    have hk : subO (xs.length + 1) none = xs.length + 1 := rfl
    have h77 : ((77 : Int) == 77) = true := rfl
    simp only [hw, hk, hs, h77, Int.toNat_natCast, forall_const, Bool.true_eq_false, false_imp_iff, and_true, true_and, reduceCtorEq, Option.some.injEq]
    refine ⟨by omega, by omega, ⟨by omega, by omega⟩, by omega, by omega, ?_⟩
    exact ⟨fun _ => trivial, hb, fun _ => trivial, by omega, by omega, ⟨by omega, by omega⟩, ⟨by omega, by omega⟩, by omega, zTx, zTx, ⟨rfl, rfl, rfl⟩, ⟨rfl, rfl, rfl⟩, ⟨zTx_ok, zTx_ok⟩, fun _ => trivial, fun h => by rw [hS] at h; cases h⟩
  | some t =>
    try simp only [need_eq]
    try simp only [nope_eq]
    try simp only [iteD_eq]
    try simp only [iteT_eq]
    try simp only [iteF_eq]
    try simp only [iteE_eq]
    try simp only [Int.toNat_natCast, Nat.zero_add, true_and, and_true, Nat.le_refl]
    have hs : ((strOf xs).toList == (strOf xs).toList) = true := beq_self_eq_true _
    refine ⟨fun _ => trivial, fun hl => ?_⟩
    have hw : IntKind.i64.wrap ((xs.length : Int) + 1) = ((xs.length + 1 : Nat) : Int) := w64 (by omega)
    have hk : subO (xs.length + 1) none = xs.length + 1 := rfl
    have h77 : ((77 : Int) == 77) = true := rfl
    simp only [hw, hk, hs, h77, Int.toNat_natCast, forall_const, Bool.true_eq_false, false_imp_iff, and_true, true_and, reduceCtorEq, Option.some.injEq]
    refine ⟨by omega, by omega, ⟨by omega, by omega⟩, by omega, by omega, ?_⟩
    intro t1 e1 ho
    subst e1
    refine ⟨hb, ?_⟩
    intro t2 e2 ho2 _
    subst e2
    exact ⟨by omega, by omega, ⟨by omega, by omega⟩, ⟨by omega, by omega⟩, by omega, fun _ _ => trivial, fun _ _ => trivial, fun _ _ => trivial, fun _ _ => trivial, t, t, ⟨rfl, ⟨rfl, fun _ _ => rfl⟩, rfl, fun _ _ => rfl⟩, ⟨rfl, ⟨rfl, fun _ _ => rfl⟩, rfl, fun _ _ => rfl⟩, ⟨ho, ho⟩, fun _ => trivial, fun h => by rw [hS] at h; cases h⟩
theorem txparses_calls (xs : List Int) (n : Nat) (hn : xs.length = n) (hb : Bytes xs) (h : Heap) (K : AV → Prop) (hK : K (.bool true)) : CallsA PP 3 [.vints .u8 xs n] h fun o h' => ∃ v, o = .ret v ∧ h' = h ∧ K v :=
  outV_ev E41_ok rfl (txparses_1 _ _ xs n hn hb sameT_refl) (fun u hu => hu ▸ hK)
end Go.Tk
end
section
namespace Go.Tk
noncomputable def E44 (W : Int → List Int) : Env2 := G0.withF 149 (numRS W)
theorem E44_ok : (E44 numW).Ok := Env2.withF_ok G0_ok numRS_ok
def rbS (t : TxS) (core : Bool) (i : Nat) (xs : List Int) (n : Nat) : St := ⟨133, [(6, .int .i64 i), (2, .ptr (some ⟨0, 0, 0, 0, 0⟩)), (5, .nslice ⟨4, 0, 0, 0, 0⟩ 1 n n), (1, .bool core)], ⟨5, [(4, .ints .u8 xs), (0, .flat t.c)]⟩, []⟩
def rbR (t : TxS) (xs : List Int) (n : Nat) : St := ⟨133, [(2, .ptr (some ⟨0, 0, 0, 0, 0⟩)), (5, .nslice ⟨4, 0, 0, 0, 0⟩ 1 n n)], ⟨5, [(4, .ints .u8 xs), (0, .flat t.c)]⟩, []⟩
def rbS2 (t : TxS) (i : Nat) (xs : List Int) (n : Nat) : St := ⟨133, [(9, .int .i64 i), (2, .ptr (some ⟨0, 0, 0, 0, 0⟩)), (5, .nslice ⟨4, 0, 0, 0, 0⟩ 1 n n)], ⟨5, [(4, .ints .u8 xs), (0, .flat t.c)]⟩, []⟩
theorem take_dropZ0 (xs : List Int) : List.take xs.length (dropZ 0 xs) = xs := by rw [dropZ_eq, List.drop_zero, List.take_length]
set_option maxRecDepth 100000 in
set_option maxHeartbeats 0 in
theorem rbi_1 (W : Int → List Int) (t : TxS) (i : Nat) (xs ys : List Int) (n m : Nat) (Z1 Z2 : Prop) (ht : t.Ok) (hi : i ≤ t.N) (hr : ∀ j, j < t.N → inRight (t.ins j) = true) (hW : W = numW) (hn : xs.length = n) (hs : n < 10000000000000) (hy : ys = xs ++ inW W true (t.ins i)) (hm : ys.length = m) (h1 : i < t.N → Z1) (h2 : i = t.N → Z2) :
    roundE (E44 W) 20 48 0 0 (rbS t true i xs n) (rdM 0 0 9 (rbS t true (i + 1) ys m) (rbR t xs n) (rbR t xs n) (rbR t xs n) Z1 Z2 False False) := by
  refine @Eq.mpr _ (let q1 := t.N;
 let q2 := t.ins (Int.toNat (↑i : Int));
 let q3 := q2.name;
 let q4 := xs ++ q3;
 let q5 := List.length q4;
 let q6 := q2.index;
 let q7 := W q6;
 let q8 := List.length q7;
 let q9 := q4 ++ List.take q8 (dropZ 0 q7);
 let q10 := List.length q9;
 let q11 := decide (t.num = t.num);
 let q12 := decide (q1 = q1);
 let q13 := inRows t.ins;
 let q14 := q13 = q13;
 let q15 := decide (t.M = t.M);
 let q16 := outRows t.outs;
 let q17 := q16 = q16;
 iteB (decide ((↑i : Int) < (↑q1 : Int))) (iteB (decide (0 ≤ (↑i : Int) ∧ (↑i : Int) < (↑q1 : Int))) (iteB (decide (IntKind.u8 = IntKind.u8 ∧ List.length q3 = 32)) (iteB (decide (IntKind.u8 = IntKind.u8 ∧ List.length xs = n)) (iteB (decide (q5 * 1 ≤ 140737488355328)) (iteB (decide (q6 = q6)) (iteB (decide (0 ≤ q6)) (iteB (decide (IntKind.u8 = IntKind.u8 ∧ 0 + q8 ≤ q8)) (iteB (decide (IntKind.u8 = IntKind.u8 ∧ q5 = q5)) (iteB (decide (q10 * 1 ≤ 140737488355328)) (iteB (decide (IntKind.wrap IntKind.i64 ((↑i : Int) + 1) = (↑(i + 1) : Int))) (iteB (decide (q10 = m)) (iteB (decide (m ≤ q10)) (q9 = ys ∧ iteB q11 (iteB q12 (q14 ∧ iteB q12 (iteB q15 (q17 ∧ iteB q15 Z1 False) False) False) False) False) False) False) False) False) False) False) False) False) False) False) False) False) (iteB (decide (n = n)) (iteB (decide (n ≤ n)) (xs = xs ∧ iteB q11 (iteB q12 (q14 ∧ iteB q12 (iteB q15 (q17 ∧ iteB q15 Z2 False) False) False) False) False) False) False)) (by kernel_rfl) ?_
  conv => zeta
  try simp only [need_eq]
  try simp only [nope_eq]
  try simp only [iteD_eq]
  try simp only [iteT_eq]
  try simp only [iteF_eq]
  try simp only [iteE_eq]
  try simp only [Int.toNat_natCast, Nat.zero_add, true_and, and_true, Nat.le_refl]
  refine ⟨fun hlt => ?_, fun hge => h2 (by omega)⟩
  obtain ⟨⟨w1, w2⟩, w3, w4⟩ := inRight_way (hr i (by omega))
  obtain ⟨l1, l2, l3, l4⟩ := ht.ins i (by omega)
  have hw := h1 (by omega)
  have hnn := ht.n
  have hwr : IntKind.i64.wrap ((i : Int) + 1) = ((i + 1 : Nat) : Int) := w64 (by omega)
  have u1 := numW_len (t.ins i).index
  have u2 := numW_len (t.ins i).way
  subst hW
  rw [hwr]
  unfold inW at hy
  generalize t.ins i = x at *
  simp only [List.length_append, take_dropZ0]
  repeat' (first | (refine And.intro ?_ ?_) | intro _)
  all_goals (try simp only [beq_iff_eq, bne_iff_ne, ne_eq, beq_eq_false_iff_ne, bne_eq_false_iff_eq] at *)
  all_goals first | omega | assumption | trivial | skip
  all_goals first | (rw [hy]; simp [*]; done) | (rw [← hm, hy]; simp [*]; try omega; done) | skip
set_option maxRecDepth 100000 in
set_option maxHeartbeats 0 in
theorem rbi_2 (W : Int → List Int) (t : TxS) (i : Nat) (xs ys : List Int) (n m : Nat) (Z1 Z2 : Prop) (ht : t.Ok) (hi : i ≤ t.N) (hr : ∀ j, j < t.N → inRight (t.ins j) = true) (hW : W = numW) (hn : xs.length = n) (hs : n < 10000000000000) (hy : ys = xs ++ inW W false (t.ins i)) (hm : ys.length = m) (h1 : i < t.N → Z1) (h2 : i = t.N → Z2) :
    roundE (E44 W) 20 48 0 0 (rbS t false i xs n) (rdM 0 0 9 (rbS t false (i + 1) ys m) (rbR t xs n) (rbR t xs n) (rbR t xs n) Z1 Z2 False False) := by
  refine @Eq.mpr _ (let q1 := t.N;
 let q2 := t.ins (Int.toNat (↑i : Int));
 let q3 := q2.name;
 let q4 := xs ++ q3;
 let q5 := List.length q4;
 let q6 := q2.index;
 let q7 := W q6;
 let q8 := List.length q7;
 let q9 := q4 ++ List.take q8 (dropZ 0 q7);
 let q10 := List.length q9;
 let q11 := q2.way;
 let q12 := W q11;
 let q13 := List.length q12;
 let q14 := q9 ++ List.take q13 (dropZ 0 q12);
 let q15 := List.length q14;
 let q16 := q2.tag;
 let q17 := decide (IntKind.u8 = IntKind.u8 ∧ q15 = q15);
 let q18 := q14 ++ q16;
 let q19 := List.length q18;
 let q20 := q11 == 1;
 let q21 := q2.also;
 let q22 := decide (IntKind.u8 = IntKind.u8 ∧ List.length q21 = 32);
 let q23 := decide (IntKind.u8 = IntKind.u8 ∧ q19 = q19);
 let q24 := q18 ++ q21;
 let q25 := List.length q24;
 let q26 := q11 == 4;
 let q27 := q2.secret;
 let q28 := decide (IntKind.u8 = IntKind.u8 ∧ List.length q27 = 32);
 let q29 := q24 ++ q27;
 let q30 := List.length q29;
 let q31 := decide (IntKind.wrap IntKind.i64 ((↑i : Int) + 1) = (↑(i + 1) : Int));
 let q32 := decide (t.num = t.num);
 let q33 := decide (q1 = q1);
 let q34 := inRows t.ins;
 let q35 := q34 = q34;
 let q36 := decide (t.M = t.M);
 let q37 := outRows t.outs;
 let q38 := q37 = q37;
 let q39 := iteB q32 (iteB q33 (q35 ∧ iteB q33 (iteB q36 (q38 ∧ iteB q36 Z1 False) False) False) False) False;
 let q40 := iteB q28 (iteB (decide (IntKind.u8 = IntKind.u8 ∧ q25 = q25)) (iteB (decide (q30 * 1 ≤ 140737488355328)) (iteB q31 (iteB (decide (q30 = m)) (iteB (decide (m ≤ q30)) (q29 = ys ∧ q39) False) False) False) False) False) False;
 let q41 := q11 == 5;
 let q42 := q18 ++ q27;
 let q43 := List.length q42;
 let q44 := iteB q28 (iteB q23 (iteB (decide (q43 * 1 ≤ 140737488355328)) (iteB q31 (iteB (decide (q43 = m)) (iteB (decide (m ≤ q43)) (q42 = ys ∧ q39) False) False) False) False) False) False;
 let q45 := q14 ++ q21;
 let q46 := List.length q45;
 let q47 := q45 ++ q27;
 let q48 := List.length q47;
 let q49 := iteB q28 (iteB (decide (IntKind.u8 = IntKind.u8 ∧ q46 = q46)) (iteB (decide (q48 * 1 ≤ 140737488355328)) (iteB q31 (iteB (decide (q48 = m)) (iteB (decide (m ≤ q48)) (q47 = ys ∧ q39) False) False) False) False) False) False;
 let q50 := q14 ++ q27;
 let q51 := List.length q50;
 let q52 := iteB q28 (iteB q17 (iteB (decide (q51 * 1 ≤ 140737488355328)) (iteB q31 (iteB (decide (q51 = m)) (iteB (decide (m ≤ q51)) (q50 = ys ∧ q39) False) False) False) False) False) False;
 iteB (decide ((↑i : Int) < (↑q1 : Int)))
 (iteB (decide (0 ≤ (↑i : Int) ∧ (↑i : Int) < (↑q1 : Int)))
 (iteB (decide (IntKind.u8 = IntKind.u8 ∧ List.length q3 = 32))
 (iteB (decide (IntKind.u8 = IntKind.u8 ∧ List.length xs = n))
 (iteB (decide (q5 * 1 ≤ 140737488355328))
 (iteB (decide (q6 = q6))
 (iteB (decide (0 ≤ q6))
 (iteB (decide (IntKind.u8 = IntKind.u8 ∧ 0 + q8 ≤ q8))
 (iteB (decide (IntKind.u8 = IntKind.u8 ∧ q5 = q5))
 (iteB (decide (q10 * 1 ≤ 140737488355328))
 (iteB (decide (0 ≤ q11))
 (iteB (decide (IntKind.u8 = IntKind.u8 ∧ 0 + q13 ≤ q13))
 (iteB (decide (IntKind.u8 = IntKind.u8 ∧ q10 = q10)) (iteB (decide (q15 * 1 ≤ 140737488355328)) (iteB (q11 != 4) (iteB (decide (IntKind.u8 = IntKind.u8 ∧ List.length q16 = 32)) (iteB q17 (iteB (decide (q19 * 1 ≤ 140737488355328)) (iteB q20 (iteB q22 (iteB q23 (iteB (decide (q25 * 1 ≤ 140737488355328)) (iteB q26 q40 (iteB q41 q40 (iteB q31 (iteB (decide (q25 = m)) (iteB (decide (m ≤ q25)) (q24 = ys ∧ q39) False) False) False))) False) False) False) (iteB q26 q44 (iteB q41 q44 (iteB q31 (iteB (decide (q19 = m)) (iteB (decide (m ≤ q19)) (q18 = ys ∧ q39) False) False) False)))) False) False) False) (iteB q20 (iteB q22 (iteB q17 (iteB (decide (q46 * 1 ≤ 140737488355328)) (iteB q26 q49 (iteB q41 q49 (iteB q31 (iteB (decide (q46 = m)) (iteB (decide (m ≤ q46)) (q45 = ys ∧ q39) False) False) False))) False) False) False) (iteB q26 q52 (iteB q41 q52 (iteB q31 (iteB (decide (q15 = m)) (iteB (decide (m ≤ q15)) (q14 = ys ∧ q39) False) False) False))))) False) False) False)
 False)
 False)
 False)
 False)
 False)
 False)
 False)
 False)
 False)
 False)
 (iteB (decide (n = n)) (iteB (decide (n ≤ n)) (xs = xs ∧ iteB q32 (iteB q33 (q35 ∧ iteB q33 (iteB q36 (q38 ∧ iteB q36 Z2 False) False) False) False) False) False) False)) (by kernel_rfl) ?_
  conv => zeta
  try simp only [need_eq]
  try simp only [nope_eq]
  try simp only [iteD_eq]
  try simp only [iteT_eq]
  try simp only [iteF_eq]
  try simp only [iteE_eq]
  try simp only [Int.toNat_natCast, Nat.zero_add, true_and, and_true, Nat.le_refl]
  refine ⟨fun hlt => ?_, fun hge => h2 (by omega)⟩
  obtain ⟨⟨w1, w2⟩, w3, w4⟩ := inRight_way (hr i (by omega))
  obtain ⟨l1, l2, l3, l4⟩ := ht.ins i (by omega)
  have hw := h1 (by omega)
  have hnn := ht.n
  have hwr : IntKind.i64.wrap ((i : Int) + 1) = ((i + 1 : Nat) : Int) := w64 (by omega)
  have u1 := numW_len (t.ins i).index
  have u2 := numW_len (t.ins i).way
  subst hW
  rw [hwr]
  unfold inW at hy
  generalize t.ins i = x at *
  simp only [List.length_append, take_dropZ0]
  repeat' (first | (refine And.intro ?_ ?_) | intro _)
  all_goals (try simp only [beq_iff_eq, bne_iff_ne, ne_eq, beq_eq_false_iff_ne, bne_eq_false_iff_eq] at *)
  all_goals first | omega | assumption | trivial | skip
  all_goals first | (rw [hy]; simp [*]; done) | (rw [← hm, hy]; simp [*]; try omega; done) | skip
set_option maxRecDepth 100000 in
set_option maxHeartbeats 0 in
theorem rbo_1 (W : Int → List Int) (t : TxS) (i : Nat) (xs ys : List Int) (n m : Nat) (Z1 Z2 : Prop) (ht : t.Ok) (hi : i ≤ t.M) (hr : ∀ j, j < t.M → outRight (t.outs j) = true) (hW : W = numW) (hn : xs.length = n) (hs : n < 10000000000000) (hy : ys = xs ++ outW W (t.outs i)) (hm : ys.length = m) (h1 : i < t.M → Z1) (h2 : i = t.M → Z2) :
    roundE (E44 W) 20 48 2 0 (rbS2 t i xs n) (rdM 0 2 9 (rbS2 t (i + 1) ys m) (rbR t xs n) (rbR t xs n) (rbR t xs n) Z1 Z2 False False) := by
  refine @Eq.mpr _ (let q1 := t.M;
 let q2 := t.outs (Int.toNat (↑i : Int));
 let q3 := q2.kind;
 let q4 := W q3;
 let q5 := List.length q4;
 let q6 := xs ++ List.take q5 (dropZ 0 q4);
 let q7 := List.length q6;
 let q8 := q2.owner;
 let q9 := q8 = q8;
 let q10 := q2.amount;
 let q11 := W q10;
 let q12 := List.length q11;
 let q13 := q6 ++ List.take q12 (dropZ 0 q11);
 let q14 := List.length q13;
 let q15 := q13 ++ q8;
 let q16 := List.length q15;
 let q17 := q2.other;
 let q18 := decide (IntKind.u8 = IntKind.u8 ∧ List.length q17 = 32);
 let q19 := decide (IntKind.u8 = IntKind.u8 ∧ q16 = q16);
 let q20 := q15 ++ q17;
 let q21 := List.length q20;
 let q22 := decide (q21 * 1 ≤ 140737488355328);
 let q23 := decide (q3 ≥ 3);
 let q24 := q2.point;
 let q25 := decide (IntKind.u8 = IntKind.u8 ∧ List.length q24 = 32);
 let q26 := decide (IntKind.u8 = IntKind.u8 ∧ q21 = q21);
 let q27 := q20 ++ q24;
 let q28 := List.length q27;
 let q29 := decide (q28 * 1 ≤ 140737488355328);
 let q30 := decide (q3 ≥ 4);
 let q31 := q2.hash;
 let q32 := decide (IntKind.u8 = IntKind.u8 ∧ List.length q31 = 32);
 let q33 := decide (IntKind.u8 = IntKind.u8 ∧ q28 = q28);
 let q34 := q27 ++ q31;
 let q35 := List.length q34;
 let q36 := decide (q35 * 1 ≤ 140737488355328);
 let q37 := q2.delay;
 let q38 := decide (0 ≤ q37);
 let q39 := W q37;
 let q40 := List.length q39;
 let q41 := decide (IntKind.u8 = IntKind.u8 ∧ q35 = q35);
 let q42 := List.take q40 (dropZ 0 q39);
 let q43 := q34 ++ q42;
 let q44 := List.length q43;
 let q45 := q2.expiry;
 let q46 := decide (0 ≤ q45);
 let q47 := W q45;
 let q48 := List.length q47;
 let q49 := List.take q48 (dropZ 0 q47);
 let q50 := q43 ++ q49;
 let q51 := List.length q50;
 let q52 := decide (IntKind.wrap IntKind.i64 ((↑i : Int) + 1) = (↑(i + 1) : Int));
 let q53 := decide (t.num = t.num);
 let q54 := decide (t.N = t.N);
 let q55 := inRows t.ins;
 let q56 := q55 = q55;
 let q57 := decide (q1 = q1);
 let q58 := outRows t.outs;
 let q59 := q58 = q58;
 let q60 := iteB q53 (iteB q54 (q56 ∧ iteB q54 (iteB q57 (q59 ∧ iteB q57 Z1 False) False) False) False) False;
 let q61 := q50 = ys ∧ q60;
 let q62 := q43 = ys ∧ q60;
 let q63 := q34 ++ q49;
 let q64 := List.length q63;
 let q65 := q63 = ys ∧ q60;
 let q66 := iteB q52 (iteB (decide (q35 = m)) (iteB (decide (m ≤ q35)) (q34 = ys ∧ q60) False) False) False;
 let q67 := q27 ++ q42;
 let q68 := List.length q67;
 let q69 := q67 ++ q49;
 let q70 := List.length q69;
 let q71 := q69 = ys ∧ q60;
 let q72 := q67 = ys ∧ q60;
 let q73 := q27 ++ q49;
 let q74 := List.length q73;
 let q75 := q73 = ys ∧ q60;
 let q76 := iteB q52 (iteB (decide (q28 = m)) (iteB (decide (m ≤ q28)) (q27 = ys ∧ q60) False) False) False;
 let q77 := q20 ++ q31;
 let q78 := List.length q77;
 let q79 := decide (q78 * 1 ≤ 140737488355328);
 let q80 := decide (IntKind.u8 = IntKind.u8 ∧ q78 = q78);
 let q81 := q77 ++ q42;
 let q82 := List.length q81;
 let q83 := q81 ++ q49;
 let q84 := List.length q83;
 let q85 := q83 = ys ∧ q60;
 let q86 := q81 = ys ∧ q60;
 let q87 := q77 ++ q49;
 let q88 := List.length q87;
 let q89 := q87 = ys ∧ q60;
 let q90 := iteB q52 (iteB (decide (q78 = m)) (iteB (decide (m ≤ q78)) (q77 = ys ∧ q60) False) False) False;
 let q91 := q20 ++ q42;
 let q92 := List.length q91;
 let q93 := q91 ++ q49;
 let q94 := List.length q93;
 let q95 := q93 = ys ∧ q60;
 let q96 := q91 = ys ∧ q60;
 let q97 := q20 ++ q49;
 let q98 := List.length q97;
 let q99 := q97 = ys ∧ q60;
 let q100 := iteB q52 (iteB (decide (q21 = m)) (iteB (decide (m ≤ q21)) (q20 = ys ∧ q60) False) False) False;
 let q101 := q15 ++ q24;
 let q102 := List.length q101;
 let q103 := decide (IntKind.u8 = IntKind.u8 ∧ q102 = q102);
 let q104 := q101 ++ q31;
 let q105 := List.length q104;
 let q106 := decide (IntKind.u8 = IntKind.u8 ∧ q105 = q105);
 let q107 := q104 ++ q42;
 let q108 := List.length q107;
 let q109 := q107 ++ q49;
 let q110 := List.length q109;
 let q111 := q104 ++ q49;
 let q112 := List.length q111;
 let q113 := q101 ++ q42;
 let q114 := List.length q113;
 let q115 := q113 ++ q49;
 let q116 := List.length q115;
 let q117 := q101 ++ q49;
 let q118 := List.length q117;
 let q119 := q15 ++ q31;
 let q120 := List.length q119;
 let q121 := decide (IntKind.u8 = IntKind.u8 ∧ q120 = q120);
 let q122 := q119 ++ q42;
 let q123 := List.length q122;
 let q124 := q122 ++ q49;
 let q125 := List.length q124;
 let q126 := q119 ++ q49;
 let q127 := List.length q126;
 let q128 := q15 ++ q42;
 let q129 := List.length q128;
 let q130 := q128 ++ q49;
 let q131 := List.length q130;
 let q132 := q15 ++ q49;
 let q133 := List.length q132;
 iteB (decide ((↑i : Int) < (↑q1 : Int)))
 (iteB (decide (0 ≤ (↑i : Int) ∧ (↑i : Int) < (↑q1 : Int)))
 (iteB (decide (0 ≤ q3))
 (iteB (decide (IntKind.u8 = IntKind.u8 ∧ 0 + q5 ≤ q5))
 (iteB (decide (IntKind.u8 = IntKind.u8 ∧ List.length xs = n))
 (iteB (decide (q7 * 1 ≤ 140737488355328))
 (q9 ∧
 iteB (decide (q10 = q10))
 (iteB (decide (0 ≤ q10))
 (iteB (decide (IntKind.u8 = IntKind.u8 ∧ 0 + q12 ≤ q12))
 (iteB (decide (IntKind.u8 = IntKind.u8 ∧ q7 = q7))
 (iteB (decide (q14 * 1 ≤ 140737488355328))
 (q9 ∧
 iteB (decide (IntKind.u8 = IntKind.u8 ∧ List.length q8 = 32))
 (iteB (decide (IntKind.u8 = IntKind.u8 ∧ q14 = q14))
 (iteB (decide (q16 * 1 ≤ 140737488355328))
 (iteB (q3 == 2)
 (iteB q18
 (iteB q19
 (iteB q22
 (iteB q23
 (iteB q25
 (iteB q26
 (iteB q29
 (iteB q30 (iteB q32 (iteB q33 (iteB q36 (iteB q23 (iteB q38 (iteB (decide (IntKind.u8 = IntKind.u8 ∧ 0 + q40 ≤ q40)) (iteB q41 (iteB (decide (q44 * 1 ≤ 140737488355328)) (iteB q30 (iteB q46 (iteB (decide (IntKind.u8 = IntKind.u8 ∧ 0 + q48 ≤ q48)) (iteB (decide (IntKind.u8 = IntKind.u8 ∧ q44 = q44)) (iteB (decide (q51 * 1 ≤ 140737488355328)) (iteB q52 (iteB (decide (q51 = m)) (iteB (decide (m ≤ q51)) q61 False) False) False) False) False) False) False) (iteB q52 (iteB (decide (q44 = m)) (iteB (decide (m ≤ q44)) q62 False) False) False)) False) False) False) False) (iteB q30 (iteB q46 (iteB (decide (IntKind.u8 = IntKind.u8 ∧ 0 + q48 ≤ q48)) (iteB q41 (iteB (decide (q64 * 1 ≤ 140737488355328)) (iteB q52 (iteB (decide (q64 = m)) (iteB (decide (m ≤ q64)) q65 False) False) False) False) False) False) False) q66)) False) False) False)
 (iteB q23 (iteB q38 (iteB (decide (IntKind.u8 = IntKind.u8 ∧ 0 + q40 ≤ q40)) (iteB q33 (iteB (decide (q68 * 1 ≤ 140737488355328)) (iteB q30 (iteB q46 (iteB (decide (IntKind.u8 = IntKind.u8 ∧ 0 + q48 ≤ q48)) (iteB (decide (IntKind.u8 = IntKind.u8 ∧ q68 = q68)) (iteB (decide (q70 * 1 ≤ 140737488355328)) (iteB q52 (iteB (decide (q70 = m)) (iteB (decide (m ≤ q70)) q71 False) False) False) False) False) False) False) (iteB q52 (iteB (decide (q68 = m)) (iteB (decide (m ≤ q68)) q72 False) False) False)) False) False) False) False) (iteB q30 (iteB q46 (iteB (decide (IntKind.u8 = IntKind.u8 ∧ 0 + q48 ≤ q48)) (iteB q33 (iteB (decide (q74 * 1 ≤ 140737488355328)) (iteB q52 (iteB (decide (q74 = m)) (iteB (decide (m ≤ q74)) q75 False) False) False) False) False) False) False) q76)))
 False)
 False)
 False)
 (iteB q30 (iteB q32 (iteB q26 (iteB q79 (iteB q23 (iteB q38 (iteB (decide (IntKind.u8 = IntKind.u8 ∧ 0 + q40 ≤ q40)) (iteB q80 (iteB (decide (q82 * 1 ≤ 140737488355328)) (iteB q30 (iteB q46 (iteB (decide (IntKind.u8 = IntKind.u8 ∧ 0 + q48 ≤ q48)) (iteB (decide (IntKind.u8 = IntKind.u8 ∧ q82 = q82)) (iteB (decide (q84 * 1 ≤ 140737488355328)) (iteB q52 (iteB (decide (q84 = m)) (iteB (decide (m ≤ q84)) q85 False) False) False) False) False) False) False) (iteB q52 (iteB (decide (q82 = m)) (iteB (decide (m ≤ q82)) q86 False) False) False)) False) False) False) False) (iteB q30 (iteB q46 (iteB (decide (IntKind.u8 = IntKind.u8 ∧ 0 + q48 ≤ q48)) (iteB q80 (iteB (decide (q88 * 1 ≤ 140737488355328)) (iteB q52 (iteB (decide (q88 = m)) (iteB (decide (m ≤ q88)) q89 False) False) False) False) False) False) False) q90)) False) False) False)
 (iteB q23 (iteB q38 (iteB (decide (IntKind.u8 = IntKind.u8 ∧ 0 + q40 ≤ q40)) (iteB q26 (iteB (decide (q92 * 1 ≤ 140737488355328)) (iteB q30 (iteB q46 (iteB (decide (IntKind.u8 = IntKind.u8 ∧ 0 + q48 ≤ q48)) (iteB (decide (IntKind.u8 = IntKind.u8 ∧ q92 = q92)) (iteB (decide (q94 * 1 ≤ 140737488355328)) (iteB q52 (iteB (decide (q94 = m)) (iteB (decide (m ≤ q94)) q95 False) False) False) False) False) False) False) (iteB q52 (iteB (decide (q92 = m)) (iteB (decide (m ≤ q92)) q96 False) False) False)) False) False) False) False) (iteB q30 (iteB q46 (iteB (decide (IntKind.u8 = IntKind.u8 ∧ 0 + q48 ≤ q48)) (iteB q26 (iteB (decide (q98 * 1 ≤ 140737488355328)) (iteB q52 (iteB (decide (q98 = m)) (iteB (decide (m ≤ q98)) q99 False) False) False) False) False) False) False) q100))))
 False)
 False)
 False)
 (iteB (q3 == 4)
 (iteB q18
 (iteB q19
 (iteB q22
 (iteB q23
 (iteB q25
 (iteB q26
 (iteB q29
 (iteB q30 (iteB q32 (iteB q33 (iteB q36 (iteB q23 (iteB q38 (iteB (decide (IntKind.u8 = IntKind.u8 ∧ 0 + q40 ≤ q40)) (iteB q41 (iteB (decide (q44 * 1 ≤ 140737488355328)) (iteB q30 (iteB q46 (iteB (decide (IntKind.u8 = IntKind.u8 ∧ 0 + q48 ≤ q48)) (iteB (decide (IntKind.u8 = IntKind.u8 ∧ q44 = q44)) (iteB (decide (q51 * 1 ≤ 140737488355328)) (iteB q52 (iteB (decide (q51 = m)) (iteB (decide (m ≤ q51)) q61 False) False) False) False) False) False) False) (iteB q52 (iteB (decide (q44 = m)) (iteB (decide (m ≤ q44)) q62 False) False) False)) False) False) False) False) (iteB q30 (iteB q46 (iteB (decide (IntKind.u8 = IntKind.u8 ∧ 0 + q48 ≤ q48)) (iteB q41 (iteB (decide (q64 * 1 ≤ 140737488355328)) (iteB q52 (iteB (decide (q64 = m)) (iteB (decide (m ≤ q64)) q65 False) False) False) False) False) False) False) q66)) False) False) False)
 (iteB q23 (iteB q38 (iteB (decide (IntKind.u8 = IntKind.u8 ∧ 0 + q40 ≤ q40)) (iteB q33 (iteB (decide (q68 * 1 ≤ 140737488355328)) (iteB q30 (iteB q46 (iteB (decide (IntKind.u8 = IntKind.u8 ∧ 0 + q48 ≤ q48)) (iteB (decide (IntKind.u8 = IntKind.u8 ∧ q68 = q68)) (iteB (decide (q70 * 1 ≤ 140737488355328)) (iteB q52 (iteB (decide (q70 = m)) (iteB (decide (m ≤ q70)) q71 False) False) False) False) False) False) False) (iteB q52 (iteB (decide (q68 = m)) (iteB (decide (m ≤ q68)) q72 False) False) False)) False) False) False) False) (iteB q30 (iteB q46 (iteB (decide (IntKind.u8 = IntKind.u8 ∧ 0 + q48 ≤ q48)) (iteB q33 (iteB (decide (q74 * 1 ≤ 140737488355328)) (iteB q52 (iteB (decide (q74 = m)) (iteB (decide (m ≤ q74)) q75 False) False) False) False) False) False) False) q76)))
 False)
 False)
 False)
 (iteB q30 (iteB q32 (iteB q26 (iteB q79 (iteB q23 (iteB q38 (iteB (decide (IntKind.u8 = IntKind.u8 ∧ 0 + q40 ≤ q40)) (iteB q80 (iteB (decide (q82 * 1 ≤ 140737488355328)) (iteB q30 (iteB q46 (iteB (decide (IntKind.u8 = IntKind.u8 ∧ 0 + q48 ≤ q48)) (iteB (decide (IntKind.u8 = IntKind.u8 ∧ q82 = q82)) (iteB (decide (q84 * 1 ≤ 140737488355328)) (iteB q52 (iteB (decide (q84 = m)) (iteB (decide (m ≤ q84)) q85 False) False) False) False) False) False) False) (iteB q52 (iteB (decide (q82 = m)) (iteB (decide (m ≤ q82)) q86 False) False) False)) False) False) False) False) (iteB q30 (iteB q46 (iteB (decide (IntKind.u8 = IntKind.u8 ∧ 0 + q48 ≤ q48)) (iteB q80 (iteB (decide (q88 * 1 ≤ 140737488355328)) (iteB q52 (iteB (decide (q88 = m)) (iteB (decide (m ≤ q88)) q89 False) False) False) False) False) False) False) q90)) False) False) False)
 (iteB q23 (iteB q38 (iteB (decide (IntKind.u8 = IntKind.u8 ∧ 0 + q40 ≤ q40)) (iteB q26 (iteB (decide (q92 * 1 ≤ 140737488355328)) (iteB q30 (iteB q46 (iteB (decide (IntKind.u8 = IntKind.u8 ∧ 0 + q48 ≤ q48)) (iteB (decide (IntKind.u8 = IntKind.u8 ∧ q92 = q92)) (iteB (decide (q94 * 1 ≤ 140737488355328)) (iteB q52 (iteB (decide (q94 = m)) (iteB (decide (m ≤ q94)) q95 False) False) False) False) False) False) False) (iteB q52 (iteB (decide (q92 = m)) (iteB (decide (m ≤ q92)) q96 False) False) False)) False) False) False) False) (iteB q30 (iteB q46 (iteB (decide (IntKind.u8 = IntKind.u8 ∧ 0 + q48 ≤ q48)) (iteB q26 (iteB (decide (q98 * 1 ≤ 140737488355328)) (iteB q52 (iteB (decide (q98 = m)) (iteB (decide (m ≤ q98)) q99 False) False) False) False) False) False) False) q100))))
 False)
 False)
 False)
 (iteB (q3 == 5)
 (iteB q18
 (iteB q19
 (iteB q22
 (iteB q23
 (iteB q25
 (iteB q26
 (iteB q29
 (iteB q30 (iteB q32 (iteB q33 (iteB q36 (iteB q23 (iteB q38 (iteB (decide (IntKind.u8 = IntKind.u8 ∧ 0 + q40 ≤ q40)) (iteB q41 (iteB (decide (q44 * 1 ≤ 140737488355328)) (iteB q30 (iteB q46 (iteB (decide (IntKind.u8 = IntKind.u8 ∧ 0 + q48 ≤ q48)) (iteB (decide (IntKind.u8 = IntKind.u8 ∧ q44 = q44)) (iteB (decide (q51 * 1 ≤ 140737488355328)) (iteB q52 (iteB (decide (q51 = m)) (iteB (decide (m ≤ q51)) q61 False) False) False) False) False) False) False) (iteB q52 (iteB (decide (q44 = m)) (iteB (decide (m ≤ q44)) q62 False) False) False)) False) False) False) False) (iteB q30 (iteB q46 (iteB (decide (IntKind.u8 = IntKind.u8 ∧ 0 + q48 ≤ q48)) (iteB q41 (iteB (decide (q64 * 1 ≤ 140737488355328)) (iteB q52 (iteB (decide (q64 = m)) (iteB (decide (m ≤ q64)) q65 False) False) False) False) False) False) False) q66)) False) False) False)
 (iteB q23 (iteB q38 (iteB (decide (IntKind.u8 = IntKind.u8 ∧ 0 + q40 ≤ q40)) (iteB q33 (iteB (decide (q68 * 1 ≤ 140737488355328)) (iteB q30 (iteB q46 (iteB (decide (IntKind.u8 = IntKind.u8 ∧ 0 + q48 ≤ q48)) (iteB (decide (IntKind.u8 = IntKind.u8 ∧ q68 = q68)) (iteB (decide (q70 * 1 ≤ 140737488355328)) (iteB q52 (iteB (decide (q70 = m)) (iteB (decide (m ≤ q70)) q71 False) False) False) False) False) False) False) (iteB q52 (iteB (decide (q68 = m)) (iteB (decide (m ≤ q68)) q72 False) False) False)) False) False) False) False) (iteB q30 (iteB q46 (iteB (decide (IntKind.u8 = IntKind.u8 ∧ 0 + q48 ≤ q48)) (iteB q33 (iteB (decide (q74 * 1 ≤ 140737488355328)) (iteB q52 (iteB (decide (q74 = m)) (iteB (decide (m ≤ q74)) q75 False) False) False) False) False) False) False) q76)))
 False)
 False)
 False)
 (iteB q30 (iteB q32 (iteB q26 (iteB q79 (iteB q23 (iteB q38 (iteB (decide (IntKind.u8 = IntKind.u8 ∧ 0 + q40 ≤ q40)) (iteB q80 (iteB (decide (q82 * 1 ≤ 140737488355328)) (iteB q30 (iteB q46 (iteB (decide (IntKind.u8 = IntKind.u8 ∧ 0 + q48 ≤ q48)) (iteB (decide (IntKind.u8 = IntKind.u8 ∧ q82 = q82)) (iteB (decide (q84 * 1 ≤ 140737488355328)) (iteB q52 (iteB (decide (q84 = m)) (iteB (decide (m ≤ q84)) q85 False) False) False) False) False) False) False) (iteB q52 (iteB (decide (q82 = m)) (iteB (decide (m ≤ q82)) q86 False) False) False)) False) False) False) False) (iteB q30 (iteB q46 (iteB (decide (IntKind.u8 = IntKind.u8 ∧ 0 + q48 ≤ q48)) (iteB q80 (iteB (decide (q88 * 1 ≤ 140737488355328)) (iteB q52 (iteB (decide (q88 = m)) (iteB (decide (m ≤ q88)) q89 False) False) False) False) False) False) False) q90)) False) False) False)
 (iteB q23 (iteB q38 (iteB (decide (IntKind.u8 = IntKind.u8 ∧ 0 + q40 ≤ q40)) (iteB q26 (iteB (decide (q92 * 1 ≤ 140737488355328)) (iteB q30 (iteB q46 (iteB (decide (IntKind.u8 = IntKind.u8 ∧ 0 + q48 ≤ q48)) (iteB (decide (IntKind.u8 = IntKind.u8 ∧ q92 = q92)) (iteB (decide (q94 * 1 ≤ 140737488355328)) (iteB q52 (iteB (decide (q94 = m)) (iteB (decide (m ≤ q94)) q95 False) False) False) False) False) False) False) (iteB q52 (iteB (decide (q92 = m)) (iteB (decide (m ≤ q92)) q96 False) False) False)) False) False) False) False) (iteB q30 (iteB q46 (iteB (decide (IntKind.u8 = IntKind.u8 ∧ 0 + q48 ≤ q48)) (iteB q26 (iteB (decide (q98 * 1 ≤ 140737488355328)) (iteB q52 (iteB (decide (q98 = m)) (iteB (decide (m ≤ q98)) q99 False) False) False) False) False) False) False) q100))))
 False)
 False)
 False)
 (iteB q23
 (iteB q25
 (iteB q19
 (iteB (decide (q102 * 1 ≤ 140737488355328))
 (iteB q30
 (iteB q32
 (iteB q103 (iteB (decide (q105 * 1 ≤ 140737488355328)) (iteB q23 (iteB q38 (iteB (decide (IntKind.u8 = IntKind.u8 ∧ 0 + q40 ≤ q40)) (iteB q106 (iteB (decide (q108 * 1 ≤ 140737488355328)) (iteB q30 (iteB q46 (iteB (decide (IntKind.u8 = IntKind.u8 ∧ 0 + q48 ≤ q48)) (iteB (decide (IntKind.u8 = IntKind.u8 ∧ q108 = q108)) (iteB (decide (q110 * 1 ≤ 140737488355328)) (iteB q52 (iteB (decide (q110 = m)) (iteB (decide (m ≤ q110)) (q109 = ys ∧ q60) False) False) False) False) False) False) False) (iteB q52 (iteB (decide (q108 = m)) (iteB (decide (m ≤ q108)) (q107 = ys ∧ q60) False) False) False)) False) False) False) False) (iteB q30 (iteB q46 (iteB (decide (IntKind.u8 = IntKind.u8 ∧ 0 + q48 ≤ q48)) (iteB q106 (iteB (decide (q112 * 1 ≤ 140737488355328)) (iteB q52 (iteB (decide (q112 = m)) (iteB (decide (m ≤ q112)) (q111 = ys ∧ q60) False) False) False) False) False) False) False) (iteB q52 (iteB (decide (q105 = m)) (iteB (decide (m ≤ q105)) (q104 = ys ∧ q60) False) False) False))) False) False)
 False)
 (iteB q23 (iteB q38 (iteB (decide (IntKind.u8 = IntKind.u8 ∧ 0 + q40 ≤ q40)) (iteB q103 (iteB (decide (q114 * 1 ≤ 140737488355328)) (iteB q30 (iteB q46 (iteB (decide (IntKind.u8 = IntKind.u8 ∧ 0 + q48 ≤ q48)) (iteB (decide (IntKind.u8 = IntKind.u8 ∧ q114 = q114)) (iteB (decide (q116 * 1 ≤ 140737488355328)) (iteB q52 (iteB (decide (q116 = m)) (iteB (decide (m ≤ q116)) (q115 = ys ∧ q60) False) False) False) False) False) False) False) (iteB q52 (iteB (decide (q114 = m)) (iteB (decide (m ≤ q114)) (q113 = ys ∧ q60) False) False) False)) False) False) False) False) (iteB q30 (iteB q46 (iteB (decide (IntKind.u8 = IntKind.u8 ∧ 0 + q48 ≤ q48)) (iteB q103 (iteB (decide (q118 * 1 ≤ 140737488355328)) (iteB q52 (iteB (decide (q118 = m)) (iteB (decide (m ≤ q118)) (q117 = ys ∧ q60) False) False) False) False) False) False) False) (iteB q52 (iteB (decide (q102 = m)) (iteB (decide (m ≤ q102)) (q101 = ys ∧ q60) False) False) False))))
 False)
 False)
 False)
 (iteB q30
 (iteB q32
 (iteB q19 (iteB (decide (q120 * 1 ≤ 140737488355328)) (iteB q23 (iteB q38 (iteB (decide (IntKind.u8 = IntKind.u8 ∧ 0 + q40 ≤ q40)) (iteB q121 (iteB (decide (q123 * 1 ≤ 140737488355328)) (iteB q30 (iteB q46 (iteB (decide (IntKind.u8 = IntKind.u8 ∧ 0 + q48 ≤ q48)) (iteB (decide (IntKind.u8 = IntKind.u8 ∧ q123 = q123)) (iteB (decide (q125 * 1 ≤ 140737488355328)) (iteB q52 (iteB (decide (q125 = m)) (iteB (decide (m ≤ q125)) (q124 = ys ∧ q60) False) False) False) False) False) False) False) (iteB q52 (iteB (decide (q123 = m)) (iteB (decide (m ≤ q123)) (q122 = ys ∧ q60) False) False) False)) False) False) False) False) (iteB q30 (iteB q46 (iteB (decide (IntKind.u8 = IntKind.u8 ∧ 0 + q48 ≤ q48)) (iteB q121 (iteB (decide (q127 * 1 ≤ 140737488355328)) (iteB q52 (iteB (decide (q127 = m)) (iteB (decide (m ≤ q127)) (q126 = ys ∧ q60) False) False) False) False) False) False) False) (iteB q52 (iteB (decide (q120 = m)) (iteB (decide (m ≤ q120)) (q119 = ys ∧ q60) False) False) False))) False) False)
 False)
 (iteB q23 (iteB q38 (iteB (decide (IntKind.u8 = IntKind.u8 ∧ 0 + q40 ≤ q40)) (iteB q19 (iteB (decide (q129 * 1 ≤ 140737488355328)) (iteB q30 (iteB q46 (iteB (decide (IntKind.u8 = IntKind.u8 ∧ 0 + q48 ≤ q48)) (iteB (decide (IntKind.u8 = IntKind.u8 ∧ q129 = q129)) (iteB (decide (q131 * 1 ≤ 140737488355328)) (iteB q52 (iteB (decide (q131 = m)) (iteB (decide (m ≤ q131)) (q130 = ys ∧ q60) False) False) False) False) False) False) False) (iteB q52 (iteB (decide (q129 = m)) (iteB (decide (m ≤ q129)) (q128 = ys ∧ q60) False) False) False)) False) False) False) False) (iteB q30 (iteB q46 (iteB (decide (IntKind.u8 = IntKind.u8 ∧ 0 + q48 ≤ q48)) (iteB q19 (iteB (decide (q133 * 1 ≤ 140737488355328)) (iteB q52 (iteB (decide (q133 = m)) (iteB (decide (m ≤ q133)) (q132 = ys ∧ q60) False) False) False) False) False) False) False) (iteB q52 (iteB (decide (q16 = m)) (iteB (decide (m ≤ q16)) (q15 = ys ∧ q60) False) False) False))))))))
 False)
 False)
 False)
 False)
 False)
 False)
 False)
 False)
 False)
 False)
 False)
 False)
 False)
 (iteB (decide (n = n)) (iteB (decide (n ≤ n)) (xs = xs ∧ iteB q53 (iteB q54 (q56 ∧ iteB q54 (iteB q57 (q59 ∧ iteB q57 Z2 False) False) False) False) False) False) False)) (by kernel_rfl) ?_
  conv => zeta
  try simp only [need_eq]
  try simp only [nope_eq]
  try simp only [iteD_eq]
  try simp only [iteT_eq]
  try simp only [iteF_eq]
  try simp only [iteE_eq]
  try simp only [Int.toNat_natCast, Nat.zero_add, true_and, and_true, Nat.le_refl]
  refine ⟨fun hlt => ?_, fun hge => h2 (by omega)⟩
  obtain ⟨⟨w1, w2⟩, ⟨w3, w4⟩, ⟨w5, w6⟩, w7, w8⟩ := outRight_facts (hr i (by omega))
  obtain ⟨l1, l2, l3, l4⟩ := ht.outs i (by omega)
  have hw := h1 (by omega)
  have hnn := ht.m
  have hwr : IntKind.i64.wrap ((i : Int) + 1) = ((i + 1 : Nat) : Int) := w64 (by omega)
  have u1 := numW_len (t.outs i).kind
  have u2 := numW_len (t.outs i).amount
  have u3 := numW_len (t.outs i).delay
  have u4 := numW_len (t.outs i).expiry
  subst hW
  rw [hwr]
  unfold outW at hy
  generalize t.outs i = x at *
  simp only [List.length_append, take_dropZ0]
  repeat' (first | (refine And.intro ?_ ?_) | intro _)
  all_goals (try simp only [beq_iff_eq, bne_iff_ne, ne_eq, beq_eq_false_iff_ne, bne_eq_false_iff_eq] at *)
  all_goals first | omega | assumption | trivial | skip
  all_goals first | (rw [hy]; simp [*]; done) | (rw [← hm, hy]; simp [*]; try omega; done) | skip
noncomputable def E44c (W : Int → List Int) (t : TxS) (core : Bool) : Env2 :=
  (E44 W).withL 48 0 (goM 0 (rbS t core 0 (rawI W t core 0) (rawI W t core 0).length) t.Fine (endsJ 0 t.N 9 (fun i => i < t.N) (fun i => i = t.N) (fun _ => False) (fun _ => False) (fun i => rbR t (rawI W t core i) (rawI W t core i).length) (fun i => rbR t (rawI W t core i) (rawI W t core i).length) (fun i => rbR t (rawI W t core i) (rawI W t core i).length)))
noncomputable def E44d (W : Int → List Int) (t : TxS) (core : Bool) : Env2 :=
  (E44 W).withL 48 2 (goM 0 (rbS2 t 0 (rawO W t core 0) (rawO W t core 0).length) t.Fine (endsJ 2 t.M 9 (fun i => i < t.M) (fun i => i = t.M) (fun _ => False) (fun _ => False) (fun i => rbR t (rawO W t core i) (rawO W t core i).length) (fun i => rbR t (rawO W t core i) (rawO W t core i).length) (fun i => rbR t (rawO W t core i) (rawO W t core i).length)))
theorem E44c_ok (t : TxS) (core : Bool) : (E44c numW t core).Ok := by
  unfold E44c
  refine Env2.withGoM (N := 20) (S := fun i => rbS t core i (rawI numW t core i) (rawI numW t core i).length) E44_ok (by kernel_rfl) fun hC => ⟨rfl, fun i hi hgo => ?_⟩
  have h1 := rawI_len hC core hi
  cases core
  · exact rbi_2 numW t i (rawI numW t false i) (rawI numW t false (i + 1)) _ _ _ _ hC.ok hi hC.ins rfl rfl (by omega) (rawI_succ _ _ _ _) rfl (fun h => ⟨h, h⟩) (fun h => h)
  · exact rbi_1 numW t i (rawI numW t true i) (rawI numW t true (i + 1)) _ _ _ _ hC.ok hi hC.ins rfl rfl (by omega) (rawI_succ _ _ _ _) rfl (fun h => ⟨h, h⟩) (fun h => h)
theorem E44d_ok (t : TxS) (core : Bool) : (E44d numW t core).Ok := by
  unfold E44d
  refine Env2.withGoM (N := 20) (S := fun i => rbS2 t i (rawO numW t core i) (rawO numW t core i).length) E44_ok (by kernel_rfl) fun hC => ⟨rfl, fun i hi hgo => ?_⟩
  have h1 := rawO_len hC core hi
  exact rbo_1 numW t i (rawO numW t core i) (rawO numW t core (i + 1)) _ _ _ _ hC.ok hi hC.outs rfl rfl (by omega) (rawO_succ _ _ _ _) rfl (fun h => ⟨h, h⟩) (fun h => h)
noncomputable def E44b (W : Int → List Int) (t : TxS) (core : Bool) : Env2 :=
  (E44c W t core).withL 48 2 (goM 0 (rbS2 t 0 (rawO W t core 0) (rawO W t core 0).length) t.Fine (endsJ 2 t.M 9 (fun i => i < t.M) (fun i => i = t.M) (fun _ => False) (fun _ => False) (fun i => rbR t (rawO W t core i) (rawO W t core i).length) (fun i => rbR t (rawO W t core i) (rawO W t core i).length) (fun i => rbR t (rawO W t core i) (rawO W t core i).length)))
set_option maxRecDepth 100000 in
set_option maxHeartbeats 0 in
theorem bytesr_1 (W : Int → List Int) (t : TxS) (core : Bool) (ys : List Int) (L : Nat) (hW : W = numW) (ht : t.Fine) (hy : ys = rawT W t core) (hL : L = ys.length) :
    evF (E44b W t core) 20 48 [.agg t.c, .bool core] ⟨0, []⟩ (outM 0 (.ret (.nslice ⟨0, 0, 0, 0, 0⟩ 1 L L)) 1 [(0, .ints .u8 ys)]) := by
  refine @Eq.mpr _ (let q1 := t.num;
 let q2 := List.length (W q1);
 let q3 := [] ++ List.take q2 (dropZ 0 (W q1));
 let q4 := List.length q3;
 let q5 := t.N;
 let q6 := ↑q5;
 let q7 := decide (q5 = q5);
 let q8 := inRows t.ins;
 let q9 := q8 = q8;
 let q10 := W q6;
 let q11 := List.length q10;
 let q12 := q3 ++ List.take q11 (dropZ 0 q10);
 let q13 := List.length q12;
 let q14 := rawI W t core 0;
 let q15 := List.length q14;
 let q16 := decide (q1 = q1);
 let q17 := t.M;
 let q18 := decide (q17 = q17);
 let q19 := outRows t.outs;
 let q20 := q19 = q19;
 let q21 := W ↑q17;
 let q22 := List.length q21;
 let q23 := rawO W t core 0;
 let q24 := List.length q23;
 let q25 := (False → False) ∧ (False → False);
 iteB (decide (0 ≤ q1))
 (iteB (decide (IntKind.u8 = IntKind.u8 ∧ 0 + q2 ≤ q2))
 (iteB (decide (q4 * 1 ≤ 140737488355328))
 (iteB (decide (q6 = q6))
 (iteB q7
 (q9 ∧
 iteB q7
 (iteB (decide (IntKind.u8 = IntKind.u8 ∧ 0 + q11 ≤ q11))
 (iteB (decide (IntKind.u8 = IntKind.u8 ∧ q4 = q4))
 (iteB (decide (q13 * 1 ≤ 140737488355328))
 (iteB (decide (q13 = q15))
 (iteB (decide (q15 ≤ q13))
 (iteB (decide (core = core))
 (q12 = q14 ∧
 iteB q16
 (iteB q7
 (q9 ∧
 iteB q7
 (iteB q18
 (q20 ∧
 iteB q18
 (TxS.Fine t ∧
 ∀ (i : Nat),
 let q51 := rawI W t core i;
 let q52 := List.length q51;
 let q53 := q51 ++ List.take q22 (dropZ 0 q21);
 let q54 := List.length q53;
 i ≤ q5 →
 (∀ (j : Nat), j < i → (fun (i : Nat) => i < q5) j) →
 (i = q5 →
 iteB (decide (IntKind.u8 = IntKind.u8 ∧ 0 + q22 ≤ q22))
 (iteB (decide (IntKind.u8 = IntKind.u8 ∧ q52 = q52))
 (iteB (decide (q54 * 1 ≤ 140737488355328))
 (iteB (decide (q54 = q24))
 (iteB (decide (q24 ≤ q54))
 (q53 = q23 ∧
 iteB q16
 (iteB q7
 (q9 ∧
 iteB q7
 (iteB q18
 (q20 ∧
 iteB q18
 (TxS.Fine t ∧
 ∀ (i : Nat),
 let q59 := rawO W t core i;
 let q60 := List.length q59;
 i ≤ q17 → (∀ (j : Nat), j < i → (fun (i : Nat) => i < q17) j) → (i = q17 → iteB (decide (q60 = L)) (iteB (decide (L ≤ q60)) (q59 = ys ∧ True) False) False) ∧ q25)
 False)
 False)
 False)
 False)
 False)
 False)
 False)
 False)
 False)
 False) ∧
 q25)
 False)
 False)
 False)
 False)
 False)
 False)
 False)
 False)
 False)
 False)
 False)
 False)
 False)
 False)
 False)
 False)
 False) (by kernel_rfl) ?_
  conv => zeta
  try simp only [need_eq]
  try simp only [nope_eq]
  try simp only [iteD_eq]
  try simp only [iteT_eq]
  try simp only [iteF_eq]
  try simp only [iteE_eq]
  try simp only [Int.toNat_natCast, Nat.zero_add, true_and, and_true, Nat.le_refl]
  subst hW hy hL
  have e1 : numW t.num ++ numW ↑t.N = rawI numW t core 0 := by unfold rawI; simp [catL]
  have e2 : rawI numW t core t.N ++ numW ↑t.M = rawO numW t core 0 := by unfold rawO; simp [catL]
  have b1 := rawI_len ht core (Nat.le_refl t.N)
  have b2 := rawO_len ht core (Nat.le_refl t.M)
  have hN := ht.n
  have hM := ht.m
  have hq := ht.num
  simp only [take_dropZ0, List.nil_append, e1, Nat.mul_one]
  have b0 := rawI_len ht core (Nat.zero_le t.N)
  have c0 := rawO_len ht core (Nat.zero_le t.M)
  have d1 := numW_len t.num
  refine ⟨hq.1, by omega, by omega, trivial, Nat.le_refl _, trivial, ht, fun i hi _ => ⟨fun he => ?_, fun h => h, fun h => h⟩⟩
  subst he
  rw [e2]
  refine ⟨by omega, rfl, Nat.le_refl _, rfl, ht, fun i hi _ => ⟨fun he => ?_, fun h => h, fun h => h⟩⟩
  subst he
  exact ⟨rfl, Nat.le_refl _, rfl⟩
theorem E44b_ok (t : TxS) (core : Bool) : (E44b numW t core).Ok := by
  unfold E44b
  exact Env2.withL_join (G := E44c numW t core) (H := E44 numW) (E44c_ok t core) rfl (E44d_ok t core)
theorem bytesr_pure (t : TxS) (core : Bool) (ht : t.Fine) : Pure PP 48 [.agg t.c, .bool core] (.nslice ⟨0, 0, 0, 0, 0⟩ 1 (rawT numW t core).length (rawT numW t core).length) 1 [(0, .ints .u8 (rawT numW t core))] := .evM (E44b_ok t core) (bytesr_1 _ t core _ _ rfl ht rfl rfl)
theorem bytesrF_ok (args : List AV) (h : Heap) (K : KO) (hl : rawF (rawT numW) args h K) : CallsA PP 48 args h K := by
  refine Pure.fsumm (d := 20) (viewL_weak _ _ _ _ _ hl fun a ha => ?_)
  split at ha
  · obtain ⟨t, h1, h2, hK⟩ := ha
    exact ⟨_, _, _, _, (bytesr_pure t _ h2).conv fun E r hr => hr.head (fun _ hc => h1.rel hc) (fun _ hc => hc), rfl, ⟨Nat.one_pos, .ints _ _, trivial⟩, hK⟩
  · exact ha.elim
end Go.Tk
end
section
namespace Go.Tk
inductive Ty where
  | bool
  | int (k : IntKind)
  | str
  | arr (k : IntKind) (n : Nat)
  | ints (k : IntKind)
  | rows (esz : Nat) (ts : List Ty)
def tyFs (P : Program) (r : TypeId → Option (List Ty)) (sz : Nat) : Nat → List Field → Option (List Ty)
  | o, [] => if o = sz then some [] else none
  | o, f :: fs => if f.offset = o then (r f.type).bind fun a => (tyFs P r sz (o + P.cellsOf f.type) fs).bind fun b => some (a ++ b) else none
def tyOf (P : Program) : Nat → TypeId → Option (List Ty)
  | 0, _ => none
  | m + 1, t => match P.underlying t with
    | some .bool => some [.bool]
    | some (.int k) => some [.int k]
    | some .string => some [.str]
    | some (.array n e) => match P.underlying e with
      | some (.int k) => if P.cellsOf t = n ∧ P.cellsOf e = 1 then some [.arr k n] else none
      | _ => none
    | some (.slice e) => match P.underlying e with
      | some (.int k) => if P.cellsOf e = 1 then some [.ints k] else none
      | _ => (tyOf P m e).bind fun ts => some [.rows (P.cellsOf e) ts]
    | some (.struct fs) => tyFs P (tyOf P m) (P.cellsOf t) 0 fs.toList
    | _ => none
mutual
inductive FitsT : Ty → AV → Prop
  | bool (b : Bool) : FitsT .bool (.bool b)
  | int (k : IntKind) (n : Int) (h : (Lit.int k n).wf = true) : FitsT (.int k) (.int k n)
  | str (s : ByteArray) (h : s.size ≤ maxLen) : FitsT .str (.str s)
  | arr (k : IntKind) (n : Nat) (xs : List Int) (h : xs.length = n) (hw : ∀ i, i < n → (Lit.int k (xs.getD i 0)).wf = true) : FitsT (.arr k n) (.arr k n xs)
  | ints (k : IntKind) (xs : List Int) (n : Nat) (h : xs.length = n) (hm : n ≤ maxLen) (hw : ∀ i, i < n → (Lit.int k (xs.getD i 0)).wf = true) : FitsT (.ints k) (.vints k xs n)
  | rows (esz : Nat) (ts : List Ty) (n : Nat) (f : Nat → List AV) (hm : n ≤ maxLen) (h : ∀ i, i < n → Fits ts (f i)) : FitsT (.rows esz ts) (.vrows esz n f n)
inductive Fits : List Ty → List AV → Prop
  | nil : Fits [] []
  | cons (t : Ty) (a : AV) (ts : List Ty) (vz : List AV) (h : FitsT t a) (r : Fits ts vz) : Fits (t :: ts) (a :: vz)
end
theorem Fits.append : ∀ {ts wz : List Ty} {vz bs : List AV}, Fits ts vz → Fits wz bs → Fits (ts ++ wz) (vz ++ bs)
  | _, _, _, _, .nil, h => h
  | _, _, _, _, .cons t a ts vz h r, k => .cons t a _ _ h (Fits.append r k)
def tE (w : World) : Env := ⟨fun _ => none, fun a c => w.cell? a = some c⟩
section
variable {H : Type} {enc : TypeId × Value → H} {P : Program} {w : World} {sp : Nat → Bool} {held : Bool}
theorem ints_of_cells {k : IntKind} {n : Nat} {cs : List Value} (hl : cs.length = n) (h : ∀ i, i < n → ∃ z, cs[i]? = some (.int k z) ∧ (Lit.int k z).wf = true) :
    ∃ xs : List Int, xs.length = n ∧ (∀ i, i < n → (Lit.int k (xs.getD i 0)).wf = true) ∧ ∀ i, i < n → cs[i]? = some (.int k (xs.getD i 0)) := by
  refine ⟨cs.map fun v => match v with | .int _ z => z | _ => 0, by simp [hl], fun i hi => ?_, fun i hi => ?_⟩
  · obtain ⟨z, h1, h2⟩ := h i hi
    rw [List.getD_eq_getElem?_getD, List.getElem?_map, h1]
    exact h2
  · obtain ⟨z, h1, h2⟩ := h i hi
    rw [List.getD_eq_getElem?_getD, List.getElem?_map, h1]
    rfl
theorem choose2 {α β : Type} {n : Nat} {p : Nat → α → β → Prop} [Inhabited α] [Inhabited β] (h : ∀ i, i < n → ∃ a b, p i a b) : ∃ (f : Nat → α) (g : Nat → β), ∀ i, i < n → p i (f i) (g i) :=
  ⟨fun i => if hi : i < n then Classical.choose (h i hi) else default, fun i => if hi : i < n then Classical.choose (Classical.choose_spec (h i hi)) else default, fun i hi => by
    simp only [hi, dite_true]
    exact Classical.choose_spec (Classical.choose_spec (h i hi))⟩
theorem open_ty : ∀ (m : Nat) (t : TypeId) (ts : List Ty), tyOf P m t = some ts → ∀ (fuel : Nat) (cs : List Value) (x : DataW H × List MemPlace), DataW.trod enc P w 0 sp held fuel t cs = some x → ∃ vz, Fits ts vz ∧ CRel (tE w) vz cs
  | 0, _, _, ht => by simp [tyOf] at ht
  | m + 1, t, ts, ht => by
    intro fuel cs x hx
    unfold tyOf at ht
    split at ht
    · rename_i hu
      cases ht
      obtain ⟨b, rfl, _⟩ := DataW.trod_bool hu hx
      exact ⟨[.bool b], .cons _ _ _ _ (.bool b) .nil, .one _ _ _ _ rfl rfl (.bool b) .nil⟩
    · rename_i k hu
      cases ht
      obtain ⟨n, rfl, _, hw⟩ := DataW.trod_int hu hx
      exact ⟨[.int k n], .cons _ _ _ _ (.int k n hw) .nil, .one _ _ _ _ rfl rfl (.int k n) .nil⟩
    · rename_i hu
      cases ht
      obtain ⟨s, rfl, _, hw⟩ := DataW.trod_string hu hx
      exact ⟨[.str s], .cons _ _ _ _ (.str s hw) .nil, .one _ _ _ _ rfl rfl (.str s) .nil⟩
    · rename_i n e hu
      split at ht
      · rename_i k he
        split at ht
        · rename_i hc
          obtain ⟨hc, h1⟩ := hc
          cases ht
          obtain ⟨xs, q, rfl, rfl, hl, hn, hi⟩ := DataW.trod_array hu hx
          rw [hc] at hl
          obtain ⟨zs, z1, z2, z3⟩ := ints_of_cells (k := k) hl fun i hlt => by
            have := hi i hlt
            rw [List.getElem?_eq_getElem (by omega), h1] at this
            obtain ⟨z, e1, _, e2⟩ := DataW.trod_int he this
            refine ⟨z, ?_, e2⟩
            rw [Nat.mul_one] at e1
            have := congrArg (fun l => l[0]?) e1
            simpa using this
          refine ⟨[.arr k n zs], .cons _ _ _ _ (.arr k n zs z1 z2) .nil, ?_⟩
          have : cs = intCells k n zs ++ [] := by
            rw [List.append_nil]
            refine List.ext_getElem? fun i => ?_
            by_cases hlt : i < n
            · rw [z3 i hlt]
              simp [intCells, hlt]
            · rw [List.getElem?_eq_none (by omega), List.getElem?_eq_none (by rw [intCells_length]; omega)]
          rw [this]
          exact .arr _ _ _ _ _ .nil
        · cases ht
      · cases ht
    · rename_i e hu
      split at ht
      · rename_i k he
        split at ht
        · rename_i hc
          cases ht
          rcases DataW.trod_slice hu hx with ⟨rfl, _⟩ | ⟨a, len, cap, elems, rest, n, rfl, rfl, _, _, hl, hm, hlen, hi, _, _⟩
          · exact ⟨[.vints k [] 0], .cons _ _ _ _ (.ints k [] 0 rfl (Nat.zero_le _) fun i hi => absurd hi (Nat.not_lt_zero i)) .nil, .one _ _ _ _ rfl rfl (.vintsNil _ _ _ rfl rfl) .nil⟩
          · obtain ⟨zs, z1, z2, z3⟩ := ints_of_cells (k := k) (n := len) (cs := (List.range len).map fun i => (w.cell? (a.add i)).getD undef) (by simp) fun i hlt => by
              have := hi i hlt
              rw [List.getElem?_eq_getElem (by omega), hc, Nat.mul_one] at this
              obtain ⟨cs', h1, h2⟩ := Option.bind_eq_some_iff.1 this
              obtain ⟨z, rfl, _, e2⟩ := DataW.trod_int he h2
              refine ⟨z, ?_, e2⟩
              simp [hlt, Go.ChangeShapes.cell_of_cells?_one h1]
            refine ⟨[.vints k zs len], .cons _ _ _ _ (.ints k zs len z1 (by omega) z2) .nil, .one _ _ _ _ rfl rfl (.vints k zs len a cap (by omega) (by omega) fun i hlt => ?_) .nil⟩
            rw [z1] at hlt
            have := hi i hlt
            rw [List.getElem?_eq_getElem (by omega), hc, Nat.mul_one] at this
            obtain ⟨cs', h1, h2⟩ := Option.bind_eq_some_iff.1 this
            obtain ⟨z, rfl, _, e2⟩ := DataW.trod_int he h2
            have h3 := z3 i hlt
            have h4 := Go.ChangeShapes.cell_of_cells?_one h1
            simp [hlt, h4] at h3
            show w.cell? (a.add i) = _
            rw [h4, h3, List.getD_eq_getElem?_getD]
        · cases ht
      · obtain ⟨es, h1, h2⟩ := Option.bind_eq_some_iff.1 ht
        cases h2
        rcases DataW.trod_slice hu hx with ⟨rfl, _⟩ | ⟨a, len, cap, elems, rest, n, rfl, rfl, _, _, hl, hm, hlen, hi, _, _⟩
        · exact ⟨[.vrows (P.cellsOf e) 0 (fun _ => []) 0], .cons _ _ _ _ (.rows _ _ 0 _ (Nat.zero_le _) fun i hi => absurd hi (Nat.not_lt_zero i)) .nil, .one _ _ _ _ rfl rfl (.vrowsNil _ _ _ _ rfl rfl) .nil⟩
        · obtain ⟨f, g, hfg⟩ := choose2 (n := len) (p := fun i (vz : List AV) (vs : List Value) => Fits es vz ∧ CRel (tE w) vz vs ∧ w.cells? 0 (a.add (i * P.cellsOf e)) (P.cellsOf e) = some vs) fun i hlt => by
            have := hi i hlt
            rw [List.getElem?_eq_getElem (by omega)] at this
            obtain ⟨cs', k1, k2⟩ := Option.bind_eq_some_iff.1 this
            obtain ⟨vz, f1, f2⟩ := open_ty m _ _ h1 _ _ _ k2
            exact ⟨vz, cs', f1, f2, k1⟩
          refine ⟨[.vrows (P.cellsOf e) len f len], .cons _ _ _ _ (.rows _ _ len f (by omega) fun i hlt => (hfg i hlt).1) .nil, .one _ _ _ _ rfl rfl (.vrows _ _ _ _ a cap g (Nat.le_refl _) hl (fun i hlt => (hfg i hlt).2.1) (fun i hlt => (World.cells?_some (hfg i hlt).2.2).2.1) fun i j c hlt hj => ?_) .nil⟩
          obtain ⟨_, hl', hc'⟩ := World.cells?_some (hfg i hlt).2.2
          have hj' : j < P.cellsOf e := by
            rcases Nat.lt_or_ge j (P.cellsOf e) with h | h
            · exact h
            · rw [List.getElem?_eq_none (by omega)] at hj; cases hj
          have := hc' j hj'
          rw [hj] at this
          show w.cell? (a.add (i * P.cellsOf e + j)) = some c
          rw [← this]
          rw [Addr.add_add]
    · rename_i fs hu
      obtain ⟨xs, n, rfl, rfl, hl, hn, hf⟩ := DataW.trod_struct hu hx
      have key : ∀ (l : List Field) (o : Nat) (ts : List Ty) (i0 : Nat), tyFs P (tyOf P m) (P.cellsOf t) o l = some ts → (∀ i f, l[i]? = some f → fs[i0 + i]? = some f) → ∃ vz, Fits ts vz ∧ CRel (tE w) vz (cs.drop o) := by
        intro l
        induction l with
        | nil =>
          intro o ts i0 h _
          unfold tyFs at h
          split at h
          · rename_i ho
            cases h
            exact ⟨[], .nil, by rw [List.drop_eq_nil_of_le (by omega)]; exact .nil⟩
          · cases h
        | cons f l ih =>
          intro o ts i0 h hl'
          unfold tyFs at h
          split at h
          · rename_i ho
            obtain ⟨a, h1, h2⟩ := Option.bind_eq_some_iff.1 h
            obtain ⟨b, h3, h4⟩ := Option.bind_eq_some_iff.1 h2
            cases h4
            have h0 : fs[i0]? = some f := hl' 0 f rfl
            have hlt : i0 < fs.size := by
              rcases Nat.lt_or_ge i0 fs.size with h | h
              · exact h
              · rw [Array.getElem?_eq_none (by omega)] at h0; cases h0
            have k := hf i0 f h0
            rw [List.getElem?_eq_getElem (by omega), ho] at k
            obtain ⟨vz, p1, p2⟩ := open_ty m _ _ h1 _ _ _ k
            obtain ⟨bs, q1, q2⟩ := ih (o + P.cellsOf f.type) b (i0 + 1) h3 fun i g hg => by
              have := hl' (i + 1) g hg
              rw [← this]; congr 1; omega
            refine ⟨vz ++ bs, p1.append q1, ?_⟩
            have e : cs.drop o = (cs.drop o).take (P.cellsOf f.type) ++ cs.drop (o + P.cellsOf f.type) := by
              rw [← List.drop_drop, List.take_append_drop]
            rw [e]
            exact p2.append q2
          · cases h
      obtain ⟨vz, h1, h2⟩ := key fs.toList 0 ts 0 ht fun i f h => by simpa using h
      exact ⟨vz, h1, by simpa using h2⟩
    · cases ht
def isAgg (P : Program) (t : TypeId) : Bool := match P.underlying t with
  | some (.struct _) | some (.array _ _) => true
  | _ => false
inductive FitsA : Bool → List Ty → AV → Prop
  | agg (ts : List Ty) (vz : List AV) (h : Fits ts vz) : FitsA true ts (.agg vz)
  | one (t : Ty) (a : AV) (h : FitsT t a) : FitsA false [t] a
theorem open_one {m : Nat} {t : TypeId} {ts : List Ty} (ht : tyOf P m t = some ts) (hg : isAgg P t = false) {v : Value} {r : Reach} {b : Nat} (hv : Value.okWide P w r b t v) :
    v.cells.toList = [v] ∧ ∃ τ, ts = [τ] ∧ ∀ k n, τ ≠ .arr k n := by
  cases m with
  | zero => simp [tyOf] at ht
  | succ m =>
    unfold tyOf at ht
    unfold isAgg at hg
    split at ht
    · rename_i hu; cases ht; obtain ⟨b, rfl⟩ := Go.WideShapes.okWide_bool hu hv; exact ⟨rfl, _, rfl, fun _ _ h => by cases h⟩
    · rename_i hu; cases ht; obtain ⟨b, rfl⟩ := Go.WideShapes.okWide_int hu hv; exact ⟨rfl, _, rfl, fun _ _ h => by cases h⟩
    · rename_i hu; cases ht; obtain ⟨b, rfl⟩ := Go.WideShapes.okWide_string hu hv; exact ⟨rfl, _, rfl, fun _ _ h => by cases h⟩
    · rename_i hu; simp [hu] at hg
    · rename_i hu
      obtain ⟨a, l, c, rfl⟩ := Go.WideShapes.okWide_slice hu hv
      split at ht
      · split at ht
        · cases ht; exact ⟨rfl, _, rfl, fun _ _ h => by cases h⟩
        · cases ht
      · obtain ⟨es, h1, h2⟩ := Option.bind_eq_some_iff.1 ht
        cases h2; exact ⟨rfl, _, rfl, fun _ _ h => by cases h⟩
    · rename_i hu; simp [hu] at hg
    · cases ht
theorem open_arg {m : Nat} {t : TypeId} {ts : List Ty} {g : Bool} (ht : tyOf P m t = some ts) (hg : isAgg P t = g) {v : Value} {r : Reach} {b : Nat} (hv : Value.okWide P w r b t v) {d : DataW H} {ps : List MemPlace} (h : DataW.Trod enc P w 0 sp held t v d ps) :
    ∃ a, FitsA g ts a ∧ VRel (tE w) a v := by
  obtain ⟨fuel, hf⟩ := h
  obtain ⟨vz, f1, f2⟩ := open_ty m _ _ ht _ _ _ hf
  cases g with
  | true =>
    have : ∃ cs, v = .agg cs := by
      unfold isAgg at hg
      unfold Value.okWide at hv
      split at hg
      · rename_i hu; simp only [hu] at hv; obtain ⟨cs, rfl, _⟩ := hv; exact ⟨cs, rfl⟩
      · rename_i hu; simp only [hu] at hv; obtain ⟨cs, rfl, _⟩ := hv; exact ⟨cs, rfl⟩
      · cases hg
    obtain ⟨cs, rfl⟩ := this
    refine ⟨.agg vz, .agg _ _ f1, ?_⟩
    have : cs = (Value.cells (.agg cs)).toList.toArray := by simp [Value.cells]
    rw [this]
    exact .agg _ _ f2
  | false =>
    obtain ⟨h1, τ, rfl, h2⟩ := open_one ht hg hv
    rw [h1] at f2
    cases f1 with
    | cons _ a _ vz f r =>
      cases r
      generalize hL : [v] = L at f2
      cases f2 with
      | one _ _ _ _ h0 h1 h t => cases hL; exact ⟨_, .one _ _ f, h⟩
      | arr k n xs _ cs t => cases f; exact absurd rfl (h2 _ _)
end
end Go.Tk
end
section
namespace Go.Tk
open Go.ChangeShapes Go.WideShapes Go.RowKit
theorem tE_emb (w : World) : Emb (tE w) ⟨0, []⟩ w where
  fresh := fun _ _ => rfl
  lt := fun x B h => by simp [Heap.get, getB] at h
  own := fun x B h => by simp [Heap.get, getB] at h
  disj := fun x y B B' b N N' h => absurd h (by simp [Heap.get, getB])
  imm := fun _ _ h => h
  sep := fun a c x B N _ h => absurd h (by simp [Heap.get, getB])
theorem CallsA.topT {P : Program} {f : FuncId} {args : List AV} (h : CallsA P f args ⟨0, []⟩ fun o h' => ∃ v, o = .ret v ∧ h' = ⟨0, []⟩ ∧ v = .bool true) {w : World} {rs : List Value} (hl : LRel (tE w) args rs) :
    Calls P f rs.toArray w fun e w' => e = .returned (.bool true) ∧ Go.RowKit.Below w.heap.size w w' := by
  refine (h (tE w) w rs (tE_emb w) hl).mono ?_
  rintro e w' ⟨E', o, h', ⟨v, rfl, rfl, hv⟩, hev, hor⟩
  obtain rfl := hv
  cases hor with
  | ret v r hr =>
    cases hr
    refine ⟨rfl, hev.os, hev.tape, hev.output, hev.size, fun k hk => hev.keep k hk ?_⟩
    rintro ⟨x, B, N, hx, _⟩
    exact absurd hx (by simp [Heap.get, getB])
def argTys (P : Program) (m : Nat) : List TypeId → Option (List (Bool × List Ty))
  | [] => some []
  | t :: r => (tyOf P m t).bind fun a => (argTys P m r).bind fun b => some ((isAgg P t, a) :: b)
inductive FitsL : List (Bool × List Ty) → List AV → Prop
  | nil : FitsL [] []
  | cons (g : Bool) (ts : List Ty) (a : AV) (r : List (Bool × List Ty)) (vz : List AV) (h : FitsA g ts a) (k : FitsL r vz) : FitsL ((g, ts) :: r) (a :: vz)
section
variable {H : Type} {enc : TypeId × Value → H} {P : Program} {w : World}
theorem open_args {m : Nat} {r : Reach} {b : Nat} : ∀ {ts : List TypeId} {τs : List (Bool × List Ty)} {vs : List Value} {ds : List (DataW H)} {ps : List MemPlace}, argTys P m ts = some τs → (∀ (j : Nat) t v, ts[j]? = some t → vs[j]? = some v → Value.okWide P w r b t v) →
    DataW.TrodAll enc P w 0 (fun _ => true) true ts vs ds ps → ∃ vz, FitsL τs vz ∧ LRel (tE w) vz vs
  | [], τs, vs, ds, ps, ha, _, h => by
    cases ha
    obtain ⟨rfl, _, _⟩ := trodAll_nil h
    exact ⟨[], .nil, .nil⟩
  | t :: ts, τs, vs, ds, ps, ha, hv, h => by
    obtain ⟨a, h1, h2⟩ := Option.bind_eq_some_iff.1 ha
    obtain ⟨c, h3, h4⟩ := Option.bind_eq_some_iff.1 h2
    cases h4
    obtain ⟨v, vs', d, ds', p, q, rfl, rfl, rfl, k1, k2⟩ := trodAll_cons h
    obtain ⟨x, f1, f2⟩ := open_arg h1 rfl (hv 0 t v rfl rfl) k1
    obtain ⟨vz, g1, g2⟩ := open_args h3 (fun j t' v' e1 e2 => hv (j + 1) t' v' e1 e2) k2
    exact ⟨x :: vz, .cons _ _ _ _ _ f1 g1, .cons _ _ _ _ f2 g2⟩
theorem trodAll_len {sp : Nat → Bool} {held : Bool} : ∀ {ts : List TypeId} {vs : List Value} {ds : List (DataW H)} {ps : List MemPlace}, DataW.TrodAll enc P w 0 sp held ts vs ds ps → ds.length = ts.length
  | [], _, _, _, h => by obtain ⟨_, rfl, _⟩ := trodAll_nil h; rfl
  | t :: ts, _, _, _, h => by
    obtain ⟨v, vs', d, ds', p, q, rfl, rfl, rfl, k1, k2⟩ := trodAll_cons h
    simp [trodAll_len k2]
theorem below_all {W' : World} (laid : laidOutB P = true) (hb : Below w.heap.size w W') : ∀ {ts : List TypeId} {vs : List Value} {ds : List (DataW H)} {ps : List MemPlace}, ts.all (fun t => P.readableRec t && decide (t < P.types.size)) = true →
    DataW.TrodAll enc P w 0 (fun _ => true) true ts vs ds ps → DataW.TrodAll enc P W' 0 (fun b => decide (b < w.heap.size)) true ts vs ds ps
  | [], _, _, _, _, h => by obtain ⟨rfl, rfl, rfl⟩ := trodAll_nil h; exact trodAll_mk0
  | t :: ts, _, _, _, hr, h => by
    obtain ⟨v, vs', d, ds', p, q, rfl, rfl, rfl, k1, k2⟩ := trodAll_cons h
    simp only [List.all_cons, Bool.and_eq_true, decide_eq_true_eq] at hr
    have lt : ∀ x ∈ p, x.block < w.heap.size := by obtain ⟨m, hm⟩ := k1; exact DataW.trod_lt m _ _ _ hm
    exact trodAll_cons_mk (Below.trod laid hr.1.1 hr.1.2 k1 hb lt) (below_all laid hb hr.2 k2)
end
theorem lifted_gen {H : Type} {enc : TypeId × Value → H} {C : Checked} {os : Os} {f : FuncId} {fn : Func} {s : ChangeSpec} {conds : List PathCond} {tb : TypeId} {m : Nat} {τs : List (Bool × List Ty)}
    (own : ownKnob C.prog.godebug = none) (laid : laidOutB C.prog = true) (started : os.Started) (noInit : C.prog.inits.idxOf? f = none) (hfn : C.prog.funcs[f]? = some fn)
    (witness : ∃ (w : World) (tape : Tape) (i : Input), w.os = os ∧ (w.forCall tape i).Shaped C.prog ∧ i.vars = [] ∧ Input.okWide C.prog (w.forCall tape i) .any w.heap.size f i ∧
      s.pre6 enc C.prog fn conds false (w.forCall tape i).memory i.args ∧ ({} : Assume).holds C.prog (lone (Frame.enter C.prog f i.args .normal) [] (w.forCall tape i)))
    (hvars : s.vars = []) (hr : fn.resultTypes = #[tb]) (hb : C.prog.underlying tb = some .bool) (hread : fn.params.toList.all (fun t => C.prog.readableRec t && decide (t < C.prog.types.size)) = true) (hτ : argTys C.prog m fn.params.toList = some τs)
    (hs : ∀ ds : List (DataW H), ds.length = fn.params.toList.length → s.fn H ds = { results := [.lit (.bool true)], args := ds })
    (walk : ∀ vz, FitsL τs vz → CallsA C.prog f vz ⟨0, []⟩ fun o h' => ∃ v, o = .ret v ∧ h' = ⟨0, []⟩ ∧ v = .bool true) :
    ReturnsInHanded {} C os f .any (s.pre6 enc C.prog fn conds false) (s.post enc C.prog fn false true false false) := by
  refine returnsInHanded_of_change own started noInit hfn witness ?_
  intro W base args ds gs before hval hW _ _
  have hW' := hW
  obtain ⟨p, q, hA, hV, rfl, hfz, hnd⟩ := hW
  have hV0 := hV
  rw [hvars] at hV
  obtain ⟨rfl, rfl⟩ := trodVars_none hV
  obtain ⟨vz, f1, f2⟩ := open_args hτ (fun j t v e1 e2 => hval j t v (by simpa using e1) (by simpa using e2)) hA
  have e0 : args = args.toList.toArray := by simp
  have key := (walk vz f1).topT f2
  rw [← e0] at key
  refine key.mono fun e W' ⟨he, bel⟩ => ?_
  subst he
  have hfn' := hs ds (trodAll_len hA)
  refine ⟨_, rfl, ds, [], _, [], p, [], hW', ?_, ?_, ?_, bel.frame _, fun h => by cases h⟩
  · rw [List.append_nil, hfn', hr]
    exact trodAll_mk1 (shut_bool hb _)
  · rw [List.append_nil, hfn']
    exact below_all laid bel hread hA
  · rw [List.append_nil, hfn', hvars]
    rfl
end Go.Tk
end
section
namespace Go.Tk
def inTy : List Ty := [.arr .u8 32, .int .i64, .int .i64, .arr .u8 32, .arr .u8 32, .arr .u8 32]
def outTy : List Ty := [.int .i64, .int .i64, .arr .u8 32, .arr .u8 32, .arr .u8 32, .arr .u8 32, .int .i64, .int .i64]
def txTy : List Ty := [.int .i64, .rows 130 inTy, .rows 132 outTy]
theorem bytes_of {n : Nat} {xs : List Int} (h : xs.length = n) (hw : ∀ i, i < n → (Lit.int .u8 (xs.getD i 0)).wf = true) : Bytes xs := ⟨fun i => by
  by_cases hi : i < n
  · have := hw i hi
    simp [Lit.wf] at this
    have m1 : IntKind.u8.min = 0 := rfl
    have m2 : IntKind.u8.max = 255 := rfl
    simp
    omega
  · rw [List.getD_eq_getElem?_getD, List.getElem?_eq_none (by omega)]; simp⟩
theorem i64_of {n : Int} (h : (Lit.int .i64 n).wf = true) : -9223372036854775808 ≤ n ∧ n ≤ 9223372036854775807 := by
  simp [Lit.wf] at h
  have m1 : IntKind.i64.min = -9223372036854775808 := rfl
  have m2 : IntKind.i64.max = 9223372036854775807 := rfl
  omega
structure InS.By (x : InS) : Prop where
  name : Bytes x.name
  tag : Bytes x.tag
  also : Bytes x.also
  secret : Bytes x.secret
structure OutS.By (x : OutS) : Prop where
  owner : Bytes x.owner
  other : Bytes x.other
  point : Bytes x.point
  hash : Bytes x.hash
structure TxAll (t : TxS) : Prop where
  ins : ∀ i, i < t.N → (t.ins i).By
  outs : ∀ i, i < t.M → (t.outs i).By
theorem TxAll.b {t : TxS} (h : TxAll t) : TxB t := ⟨fun i hi => ⟨(h.outs i hi).owner, (h.outs i hi).other⟩⟩
theorem fits_in {l : List AV} (h : Fits inTy l) : ∃ x : InS, l = x.c ∧ x.Ok ∧ x.By := by
  unfold inTy at h
  cases h with | cons _ a _ u h1 h =>
  cases h with | cons _ b _ u h2 h =>
  cases h with | cons _ c _ u h3 h =>
  cases h with | cons _ d _ u h4 h =>
  cases h with | cons _ e _ u h5 h =>
  cases h with | cons _ f _ u h6 h =>
  cases h; cases h1; cases h2; cases h3; cases h4; cases h5; cases h6
  rename_i x1 l1 w1 x2 w2 x3 w3 x4 l4 w4 x5 l5 w5 x6 l6 w6
  exact ⟨⟨x1, x2, x3, x4, x5, x6⟩, rfl, ⟨l1, l4, l5, l6⟩, ⟨bytes_of l1 w1, bytes_of l4 w4, bytes_of l5 w5, bytes_of l6 w6⟩⟩
theorem fits_out {l : List AV} (h : Fits outTy l) : ∃ x : OutS, l = x.c ∧ x.Ok ∧ x.By := by
  unfold outTy at h
  cases h with | cons _ a _ u h1 h =>
  cases h with | cons _ b _ u h2 h =>
  cases h with | cons _ c _ u h3 h =>
  cases h with | cons _ d _ u h4 h =>
  cases h with | cons _ e _ u h5 h =>
  cases h with | cons _ f _ u h6 h =>
  cases h with | cons _ g _ u h7 h =>
  cases h with | cons _ i _ u h8 h =>
  cases h; cases h1; cases h2; cases h3; cases h4; cases h5; cases h6; cases h7; cases h8
  rename_i x1 w1 x2 w2 x3 l3 w3 x4 l4 w4 x5 l5 w5 x6 l6 w6 x7 w7 x8 w8
  exact ⟨⟨x1, x2, x3, x4, x5, x6, x7, x8⟩, rfl, ⟨l3, l4, l5, l6⟩, ⟨bytes_of l3 w3, bytes_of l4 w4, bytes_of l5 w5, bytes_of l6 w6⟩⟩
theorem pick {α : Type} [Inhabited α] {n : Nat} {p : Nat → α → Prop} (h : ∀ i, i < n → ∃ a, p i a) : ∃ f : Nat → α, ∀ i, i < n → p i (f i) :=
  ⟨fun i => if hi : i < n then Classical.choose (h i hi) else default, fun i hi => by
    simp only [hi, dite_true]
    exact Classical.choose_spec (h i hi)⟩
instance : Inhabited InS := ⟨inZ⟩
instance : Inhabited OutS := ⟨outZ⟩
theorem fits_tx {a : AV} (h : FitsA true txTy a) : ∃ (l : List AV) (t : TxS), a = .agg l ∧ isTx l t ∧ (t.N < 900000000000 → t.M < 900000000000 → t.Ok) ∧ TxAll t := by
  cases h with | agg _ u h =>
  unfold txTy at h
  cases h with | cons _ a _ u h1 h =>
  cases h with | cons _ b _ u h2 h =>
  cases h with | cons _ c _ u h3 h =>
  cases h; cases h1; cases h2; cases h3
  rename_i x1 w1 n f hn hf m g hm hg
  obtain ⟨ins, hi⟩ := pick fun i hi => fits_in (hf i hi)
  obtain ⟨outs, ho⟩ := pick fun i hi => fits_out (hg i hi)
  exact ⟨_, ⟨x1, n, ins, m, outs⟩, rfl, ⟨rfl, ⟨⟨rfl, rfl⟩, fun i h => (hi i h).1⟩, ⟨⟨rfl, rfl⟩, fun i h => (ho i h).1⟩⟩, fun h1 h2 => ⟨h1, h2, fun i h => (hi i h).2.1, fun i h => (ho i h).2.1⟩, ⟨fun i h => (hi i h).2.2, fun i h => (ho i h).2.2⟩⟩
theorem CallsA.conv {P : Program} {f : FuncId} {us bs : List AV} {h : Heap} {K : KO} (hc : CallsA P f bs h K) (hr : ∀ E rs, LRel E us rs → LRel E bs rs) : CallsA P f us h K :=
  fun E w rs he hl => hc E w rs he (hr E rs hl)
theorem Bytes.nil : Bytes [] := ⟨fun i => by simp⟩
theorem Bytes.cons {x : Int} {xs : List Int} (hx : 0 ≤ x ∧ x ≤ 255) (h : Bytes xs) : Bytes (x :: xs) := ⟨fun i => by
  cases i with
  | zero => simpa using hx
  | succ i => have := h.h i; simpa using this⟩
theorem Bytes.append {xs ys : List Int} (h : Bytes xs) (k : Bytes ys) : Bytes (xs ++ ys) := ⟨fun i => by
  rw [List.getD_eq_getElem?_getD, List.getElem?_append]
  split
  · have := h.h i; rwa [List.getD_eq_getElem?_getD] at this
  · have := k.h (i - xs.length); rwa [List.getD_eq_getElem?_getD] at this⟩
theorem Bytes.ite {p : Prop} [Decidable p] {xs ys : List Int} (h : Bytes xs) (k : Bytes ys) : Bytes (if p then xs else ys) := by split <;> assumption
theorem wu8r (x : Int) : 0 ≤ IntKind.u8.wrap x ∧ IntKind.u8.wrap x ≤ 255 := by
  unfold IntKind.wrap
  simp [IntKind.bits, IntKind.signed]
  omega
theorem numW_bytes (n : Int) : Bytes (numW n) := by
  have hb : ∀ k, 0 ≤ b8 n k ∧ b8 n k ≤ 255 := fun k => wu8r _
  unfold numW
  split
  · exact .cons (wu8r _) .nil
  split
  · exact .cons (by omega) (.cons (hb _) (.cons (hb _) .nil))
  split
  · exact .cons (by omega) (.cons (hb _) (.cons (hb _) (.cons (hb _) (.cons (hb _) .nil))))
  · exact .cons (by omega) (.cons (hb _) (.cons (hb _) (.cons (hb _) (.cons (hb _) (.cons (hb _) (.cons (hb _) (.cons (hb _) (.cons (hb _) .nil))))))))
theorem inW_bytes {x : InS} (h : x.By) (core : Bool) : Bytes (inW numW core x) := by
  unfold inW
  refine (h.name.append (numW_bytes _)).append ?_
  cases core
  · exact (numW_bytes _).append (((Bytes.nil.ite h.tag).append (h.also.ite .nil)).append (h.secret.ite .nil))
  · exact .nil
theorem outW_bytes {x : OutS} (h : x.By) : Bytes (outW numW x) := by
  unfold outW
  exact (((((((numW_bytes _).append (numW_bytes _)).append h.owner).append (h.other.ite .nil)).append (h.point.ite .nil)).append (h.hash.ite .nil)).append ((numW_bytes _).ite .nil)).append ((numW_bytes _).ite .nil)
theorem catL_bytes {f : Nat → List Int} : ∀ n, (∀ i, i < n → Bytes (f i)) → Bytes (catL f n)
  | 0, _ => .nil
  | n + 1, h => (catL_bytes n fun i hi => h i (by omega)).append (h n (by omega))
theorem rawT_bytes {t : TxS} (h : TxAll t) (core : Bool) : Bytes (rawT numW t core) := by
  unfold rawT rawO rawI
  exact ((((numW_bytes _).append (numW_bytes _)).append (catL_bytes _ fun i hi => inW_bytes (h.ins i hi) core)).append (numW_bytes _)).append (catL_bytes _ fun i hi => outW_bytes (h.outs i hi))
theorem u8_of {n : Int} (h : (Lit.int .u8 n).wf = true) : 0 ≤ n ∧ n ≤ 255 := by
  simp [Lit.wf] at h
  have m1 : IntKind.u8.min = 0 := rfl
  have m2 : IntKind.u8.max = 255 := rfl
  omega
theorem subO_none (a : Nat) : subO a none = a := rfl
end Go.Tk
end
section
namespace Go.Tk
def padE (n i : Int) : Int := IntKind.u8.wrap (Int.tmod (shrI .u64 (IntKind.u64.wrap (IntKind.u64.wrap n * 8)) (IntKind.u64.wrap (IntKind.i64.wrap (56 - IntKind.i64.wrap (8 * i))))) 256)
def padN (n : Int) : Nat → List Int
  | 0 => []
  | i + 1 => padN n i ++ [padE n i]
theorem padN_len (n : Int) : ∀ i, (padN n i).length = i
  | 0 => rfl
  | i + 1 => by rw [padN, List.length_append, padN_len n i]; rfl
def paS (bs ys : List Int) (n L i : Nat) : St := ⟨39, [(5, .int .i64 i), (4, .nslice ⟨3, 0, 0, 0, 0⟩ 1 L L), (0, .vints .u8 bs n)], ⟨4, [(3, .ints .u8 ys)]⟩, []⟩
set_option maxRecDepth 100000 in
set_option maxHeartbeats 0 in
theorem pad_0 (bs ys zs : List Int) (n L L' i : Nat) (Z1 Z2 : Prop) (hi : i ≤ 8) (hL : ys.length = L) (hb : L < 10000000000000) (hz : zs = ys ++ [padE n i]) (hL' : L' = zs.length) (h1 : i < 8 → Z1) (h2 : i = 8 → Z2) :
    roundE G0 20 125 0 0 (paS bs ys n L i) (rdM 0 0 9 (paS bs zs n L' (i + 1)) (paS bs ys n L i) (paS bs ys n L i) (paS bs ys n L i) Z1 Z2 False False) := by
  refine @Eq.mpr _ (let q1 := IntKind.wrap IntKind.u64 (IntKind.wrap IntKind.i64 (56 - IntKind.wrap IntKind.i64 (8 * (↑i : Int))));
 let q2 := ys ++ [IntKind.wrap IntKind.u8 (Int.tmod (shrI IntKind.u64 (IntKind.wrap IntKind.u64 (IntKind.wrap IntKind.u64 (↑n : Int) * 8)) q1) 256)];
 let q3 := List.length q2;
 let q4 := decide (n = n);
 iteB (decide ((↑i : Int) < 8)) (iteB (decide (0 ≤ q1)) (iteB (decide (IntKind.u8 = IntKind.u8 ∧ List.length ys = L)) (iteB (decide (q3 * 1 ≤ 140737488355328)) (iteB (decide (IntKind.wrap IntKind.i64 ((↑i : Int) + 1) = (↑(i + 1) : Int))) (iteB (decide (q3 = L')) (iteB (decide (L' ≤ q3)) (bs = bs ∧ iteB q4 (q2 = zs ∧ Z1) False) False) False) False) False) False) False) (iteB (decide ((↑i : Int) = (↑i : Int))) (iteB (decide (L = L)) (iteB (decide (L ≤ L)) (bs = bs ∧ iteB q4 (ys = ys ∧ Z2) False) False) False) False)) (by kernel_rfl) ?_
  conv => zeta
  try simp only [need_eq]
  try simp only [nope_eq]
  try simp only [iteD_eq]
  try simp only [iteT_eq]
  try simp only [iteF_eq]
  try simp only [iteE_eq]
  try simp only [Int.toNat_natCast, Nat.zero_add, true_and, and_true, Nat.le_refl]
  have hw : IntKind.i64.wrap ((i : Int) + 1) = ((i + 1 : Nat) : Int) := w64 (by omega)
  refine ⟨fun hlt => ?_, fun hge => h2 (by omega)⟩
  have hz' : zs.length = L + 1 := by rw [hz, List.length_append, hL]; rfl
  have h0 : 0 ≤ IntKind.u64.wrap (IntKind.i64.wrap (56 - IntKind.i64.wrap (8 * (i : Int)))) := by
    unfold IntKind.wrap
    simp [IntKind.bits, IntKind.signed]
    omega
  simp only [List.length_append, List.length_cons, List.length_nil]
  rw [hw]
  repeat' (first | (refine And.intro ?_ ?_) | intro _)
  all_goals first | exact h0 | omega | exact hz.symm | exact h1 (by omega) | trivial
noncomputable def E55a (bs y : List Int) (n : Nat) : Env2 := G0.withL 125 0 (goM 0 (paS bs (y ++ padN n 0) n (y ++ padN n 0).length 0) (y.length ≤ 1000000000000) (endsJ 0 8 9 (fun i => i < 8) (fun i => i = 8) (fun _ => False) (fun _ => False) (fun i => paS bs (y ++ padN n i) n (y ++ padN n i).length i) (fun i => paS bs (y ++ padN n i) n (y ++ padN n i).length i) (fun i => paS bs (y ++ padN n i) n (y ++ padN n i).length i)))
theorem E55a_ok (bs y : List Int) (n : Nat) : (E55a bs y n).Ok := by
  unfold E55a
  refine Env2.withGoM (N := 20) (S := fun i => paS bs (y ++ padN n i) n (y ++ padN n i).length i) G0_ok (by kernel_rfl) fun hC => ⟨rfl, fun i hi hgo => ?_⟩
  have hl : (y ++ padN n i).length = y.length + i := by rw [List.length_append, padN_len]
  exact pad_0 bs (y ++ padN n i) (y ++ padN n (i + 1)) n _ _ i _ _ hi rfl (by omega) (by rw [padN, List.append_assoc]) rfl (fun h => ⟨h, h⟩) (fun h => h)
def padZ (n : Nat) : List Int := List.replicate (Int.tmod (IntKind.i64.wrap (128 - Int.tmod (IntKind.i64.wrap ((n : Int) + 9)) 64)) 64).toNat 0
@[irreducible] def padR (bs : List Int) : List Int := (bs ++ [128] ++ padZ bs.length) ++ padN bs.length 8
theorem padX (n : Nat) (h : n ≤ 100000000000) : Int.tmod (IntKind.i64.wrap (128 - Int.tmod (IntKind.i64.wrap ((n : Int) + 9)) 64)) 64 = (128 - ((n : Int) + 9) % 64) % 64 := by
  have e1 : IntKind.i64.wrap ((n : Int) + 9) = (n : Int) + 9 := w64 (by omega)
  have e2 : Int.tmod ((n : Int) + 9) 64 = ((n : Int) + 9) % 64 := tm (by omega)
  have e3 : IntKind.i64.wrap (128 - ((n : Int) + 9) % 64) = 128 - ((n : Int) + 9) % 64 := w64 (by omega)
  rw [e1, e2, e3, tm (by omega)]
theorem padZ_len (n : Nat) (h : n ≤ 100000000000) : (padZ n).length ≤ 64 := by
  unfold padZ
  rw [padX n h, List.length_replicate]
  omega
theorem padR_len (bs : List Int) (h : bs.length ≤ 100000000000) : (padR bs).length ≤ bs.length + 73 := by
  have := padZ_len bs.length h
  unfold padR
  simp only [List.length_append, List.length_cons, List.length_nil, padN_len]
  omega
set_option maxRecDepth 100000 in
set_option maxHeartbeats 0 in
theorem pad_1 (bs y r : List Int) (n L : Nat) (hn : bs.length = n) (hb : n ≤ 100000000000) (hy : y = bs ++ [128] ++ padZ n) (hr : r = y ++ padN n 8) (hL : L = r.length) :
    evF (E55a bs y n) 20 125 [.vints .u8 bs n] ⟨0, []⟩ (outM 0 (.ret (.nslice ⟨0, 0, 0, 0, 0⟩ 1 L L)) 1 [(0, .ints .u8 r)]) := by
  refine @Eq.mpr _ (let q1 := [] ++ List.take n bs;
 let q2 := List.length q1;
 let q3 := q1 ++ [(128 : Int)];
 let q4 := List.length q3;
 let q5 := Int.tmod (IntKind.wrap IntKind.i64 (128 - Int.tmod (IntKind.wrap IntKind.i64 (↑n + 9)) 64)) 64;
 let q6 := Int.toNat q5;
 let q7 := q3 ++ List.replicate q6 0;
 let q8 := List.length q7;
 let q9 := y ++ padN (↑n) 0;
 let q10 := List.length q9;
 iteB (decide (q2 * 1 ≤ 140737488355328))
 (iteB (decide (IntKind.u8 = IntKind.u8 ∧ q2 = q2))
 (iteB (decide (q4 * 1 ≤ 140737488355328))
 (iteB (decide (IntKind.u8 = IntKind.u8 ∧ q4 = q4))
 (iteB (decide ((0 : Int) = 0 ∧ 0 ≤ q5 ∧ (q4 + q6) * 1 ≤ 140737488355328))
 (iteB (decide (q8 = q10))
 (iteB (decide (q10 ≤ q8))
 (bs = bs ∧
 iteB (decide (n = n))
 (q7 = q9 ∧
 List.length y ≤ 1000000000000 ∧
 ∀ (i : Nat),
 let q21 := y ++ padN (↑n) i;
 let q22 := List.length q21;
 i ≤ 8 → (∀ (j : Nat), j < i → (fun (i : Nat) => i < 8) j) → (i = 8 → iteB (decide (q22 = L)) (iteB (decide (L ≤ q22)) (q21 = r ∧ True) False) False) ∧ (False → False) ∧ (False → False))
 False)
 False)
 False)
 False)
 False)
 False)
 False)
 False) (by kernel_rfl) ?_
  conv => zeta
  try simp only [need_eq]
  try simp only [nope_eq]
  try simp only [iteD_eq]
  try simp only [iteT_eq]
  try simp only [iteF_eq]
  try simp only [iteE_eq]
  try simp only [Int.toNat_natCast, Nat.zero_add, true_and, and_true, Nat.le_refl]
  have ht : List.take n bs = bs := by rw [← hn]; exact List.take_length
  have hz := padZ_len n hb
  have hx := padX n hb
  have e0 : [] ++ List.take n bs ++ [128] ++ List.replicate (Int.tmod (IntKind.i64.wrap (128 - Int.tmod (IntKind.i64.wrap ((n : Int) + 9)) 64)) 64).toNat 0 = y ++ padN n 0 := by rw [ht, hy]; simp [padZ, padN]
  have hyl : y.length = n + 1 + (padZ n).length := by rw [hy, List.length_append, List.length_append, hn]; rfl
  subst hL hr
  simp only [e0, ht, List.length_append, List.length_cons, List.length_nil, hn, List.nil_append]
  refine ⟨by omega, by omega, ⟨by omega, by omega⟩, ?_, ?_, ?_, by omega, fun i hi _ => ⟨fun he => by subst he; exact ⟨rfl, Nat.le_refl _, rfl⟩, fun h => h, fun h => h⟩⟩
  · rw [hyl]; unfold padZ padN; rfl
  · rw [hyl]; unfold padZ padN; exact Nat.le_refl _
  · rw [hy]; simp [padZ, padN]
theorem padr_pure (bs : List Int) (h : bs.length ≤ 100000000000) : Pure PP 125 [.vints .u8 bs bs.length] (.nslice ⟨0, 0, 0, 0, 0⟩ 1 (padR bs).length (padR bs).length) 1 [(0, .ints .u8 (padR bs))] := .evM (E55a_ok bs _ _) (pad_1 bs _ _ _ _ rfl h rfl (by unfold padR; rfl) rfl)
def padRF (P : List Int → List Int) (B : Nat) : FSumm := fun args h K => viewL none h true 20 args fun a => bytesC a fun xs => need (xs.length ≤ B) (K (.ret (.nslice ⟨h.next, 0, 0, 0, 0⟩ 1 (P xs).length (P xs).length)) ⟨h.next + 1, (h.next, .ints .u8 (P xs)) :: h.bs⟩)
theorem padRF_ok (B : Nat) (hB : B ≤ 100000000000) (args : List AV) (h : Heap) (K : KO) (hl : padRF padR B args h K) : CallsA PP 125 args h K := by
  refine Pure.fsumm (d := 20) (viewL_weak _ _ _ _ _ hl fun a ha => ?_)
  obtain ⟨xs, rfl, hK⟩ := bytesC_ok ha
  obtain ⟨hx, hK⟩ := need_ok hK
  exact ⟨_, _, _, _, padr_pure xs (Nat.le_trans hx hB), rfl, ⟨Nat.one_pos, .ints _ _, trivial⟩, hK⟩
def toE (x d : Int) : Int := IntKind.u8.wrap (Int.tmod (IntKind.u32.wrap (Int.tdiv x d)) 256)
def toN (x : List Int) : Nat → List Int
  | 0 => zero32
  | i + 1 => ((((toN x i).set (4 * i) (IntKind.u8.wrap (IntKind.u32.wrap (Int.tdiv (x.getD i 0) 16777216)))).set (4 * i + 1) (toE (x.getD i 0) 65536)).set (4 * i + 2) (toE (x.getD i 0) 256)).set (4 * i + 3) (IntKind.u8.wrap (Int.tmod (x.getD i 0) 256))
theorem toN_len (x : List Int) : ∀ i, (toN x i).length = 32
  | 0 => rfl
  | i + 1 => by simp [toN, toN_len x i]
def toS (x h : List Int) (i : Nat) : St := ⟨47, [(4, .int .i64 i), (1, pt 0), (3, pt 2), (2, pt 1)], ⟨3, [(2, .flat [.arr .u8 32 h]), (1, .flat [.arr .u8 32 zero32]), (0, .flat [.arr .u32 8 x])]⟩, []⟩
set_option maxRecDepth 100000 in
set_option maxHeartbeats 0 in
theorem to_0 (x h h' : List Int) (i : Nat) (Z1 Z2 : Prop) (hi : i ≤ 8) (hl : h.length = 32) (hh : h' = (((h.set (4 * i) (IntKind.u8.wrap (IntKind.u32.wrap (Int.tdiv (x.getD i 0) 16777216)))).set (4 * i + 1) (toE (x.getD i 0) 65536)).set (4 * i + 2) (toE (x.getD i 0) 256)).set (4 * i + 3) (IntKind.u8.wrap (Int.tmod (x.getD i 0) 256))) (h1 : i < 8 → Z1) (h2 : i = 8 → Z2) :
    roundE G0 20 127 0 0 (toS x h i) (rdM 0 0 9 (toS x h' (i + 1)) (toS x h i) (toS x h i) (toS x h i) Z1 Z2 False False) := by
  refine @Eq.mpr _ (let q1 := decide (0 ≤ (↑i : Int) ∧ (↑i : Int) < 8);
 let q2 := 0 + Int.toNat (↑i : Int);
 let q3 := decide (q2 < 8);
 let q4 := IntKind.wrap IntKind.i64 (4 * (↑i : Int));
 let q5 := 0 + Int.toNat q4;
 let q6 := IntKind.wrap IntKind.i64 (q4 + 1);
 let q7 := 0 + Int.toNat q6;
 let q8 := List.getD x q2 0;
 let q9 := List.set h q5 (IntKind.wrap IntKind.u8 (IntKind.wrap IntKind.u32 (Int.tdiv q8 16777216)));
 let q10 := IntKind.wrap IntKind.i64 (q4 + 2);
 let q11 := 0 + Int.toNat q10;
 let q12 := List.set q9 q7 (IntKind.wrap IntKind.u8 (Int.tmod (IntKind.wrap IntKind.u32 (Int.tdiv q8 65536)) 256));
 let q13 := IntKind.wrap IntKind.i64 (q4 + 3);
 let q14 := 0 + Int.toNat q13;
 let q15 := List.set q12 q11 (IntKind.wrap IntKind.u8 (Int.tmod (IntKind.wrap IntKind.u32 (Int.tdiv q8 256)) 256));
 iteB (decide ((↑i : Int) < 8)) (iteB q1 (iteB q3 (iteB (decide (0 ≤ q4 ∧ q4 < 32)) (iteB (decide (IntKind.u8 = IntKind.u8 ∧ q5 < 32 ∧ q5 < List.length h)) (iteB q1 (iteB q3 (iteB (decide (0 ≤ q6 ∧ q6 < 32)) (iteB (decide (IntKind.u8 = IntKind.u8 ∧ q7 < 32 ∧ q7 < List.length q9)) (iteB q1 (iteB q3 (iteB (decide (0 ≤ q10 ∧ q10 < 32)) (iteB (decide (IntKind.u8 = IntKind.u8 ∧ q11 < 32 ∧ q11 < List.length q12)) (iteB q1 (iteB q3 (iteB (decide (0 ≤ q13 ∧ q13 < 32)) (iteB (decide (IntKind.u8 = IntKind.u8 ∧ q14 < 32 ∧ q14 < List.length q15)) (iteB (decide (IntKind.wrap IntKind.i64 ((↑i : Int) + 1) = (↑(i + 1) : Int))) (List.set q15 q14 (IntKind.wrap IntKind.u8 (Int.tmod q8 256)) = h' ∧ zero32 = zero32 ∧ x = x ∧ Z1) False) False) False) False) False) False) False) False) False) False) False) False) False) False) False) False) False) (iteB (decide ((↑i : Int) = (↑i : Int))) (h = h ∧ zero32 = zero32 ∧ x = x ∧ Z2) False)) (by kernel_rfl) ?_
  conv => zeta
  try simp only [need_eq]
  try simp only [nope_eq]
  try simp only [iteD_eq]
  try simp only [iteT_eq]
  try simp only [iteF_eq]
  try simp only [iteE_eq]
  try simp only [Int.toNat_natCast, Nat.zero_add, true_and, and_true, Nat.le_refl]
  have hw : IntKind.i64.wrap ((i : Int) + 1) = ((i + 1 : Nat) : Int) := w64 (by omega)
  refine ⟨fun hlt => ?_, fun hge => h2 (by omega)⟩
  have e0 : IntKind.i64.wrap (4 * (i : Int)) = ((4 * i : Nat) : Int) := by rw [w64 (by omega)]; omega
  have e1 : IntKind.i64.wrap (((4 * i : Nat) : Int) + 1) = ((4 * i + 1 : Nat) : Int) := by rw [w64 (by omega)]; omega
  have e2 : IntKind.i64.wrap (((4 * i : Nat) : Int) + 2) = ((4 * i + 2 : Nat) : Int) := by rw [w64 (by omega)]; omega
  have e3 : IntKind.i64.wrap (((4 * i : Nat) : Int) + 3) = ((4 * i + 3 : Nat) : Int) := by rw [w64 (by omega)]; omega
  simp only [e0, e1, e2, e3, hw, Int.toNat_natCast, List.length_set]
  repeat' (first | (refine And.intro ?_ ?_) | intro _)
  all_goals first | omega | exact hh.symm | exact h1 (by omega) | trivial
noncomputable def E55t (x : List Int) : Env2 := G0.withL 127 0 (goM 0 (toS x zero32 0) True (endsJ 0 8 9 (fun i => i < 8) (fun i => i = 8) (fun _ => False) (fun _ => False) (fun i => toS x (toN x i) i) (fun i => toS x (toN x i) i) (fun i => toS x (toN x i) i)))
theorem E55t_ok (x : List Int) : (E55t x).Ok := by
  unfold E55t
  refine Env2.withGoM (N := 20) (S := fun i => toS x (toN x i) i) G0_ok (by kernel_rfl) fun hC => ⟨rfl, fun i hi hgo => ?_⟩
  exact to_0 x (toN x i) (toN x (i + 1)) i _ _ hi (toN_len x i) rfl (fun h => ⟨h, h⟩) (fun h => h)
@[irreducible] def toldX (x : List Int) : List Int := toN x 8
attribute [irreducible] toN
set_option maxRecDepth 100000 in
set_option maxHeartbeats 0 in
theorem to_1 (x r : List Int) (hr : r = toN x 8) :
    evF (E55t x) 20 127 [.agg [.arr .u32 8 x]] ⟨0, []⟩ (outK 0 [] (.agg [.arr .u8 32 r]) 0 []) := by
  refine @Eq.mpr _ (zero32 = zero32 ∧ zero32 = zero32 ∧ x = x ∧ True ∧ ∀ (i : Nat), i ≤ 8 → (∀ (j : Nat), j < i → (fun (i : Nat) => i < 8) j) → (i = 8 → toN x i = r ∧ True) ∧ (False → zero32 = r ∧ True) ∧ (False → False)) (by kernel_rfl) ?_
  try simp only [need_eq]
  try simp only [nope_eq]
  try simp only [iteD_eq]
  try simp only [iteT_eq]
  try simp only [iteF_eq]
  try simp only [iteE_eq]
  try simp only [Int.toNat_natCast, Nat.zero_add, true_and, and_true, Nat.le_refl]
  subst hr
  exact fun i hi _ => ⟨fun he => by subst he; rfl, fun h => h.elim, fun h => h⟩
def toldS (T : List Int → List Int) : PSumm := fun args _ K => match args with
  | [.agg [.arr .u32 8 x]] => K (.agg [.arr .u8 32 (T x)])
  | _ => False
theorem toldS_ok (args : List AV) (h : Heap) (K : AV → Prop) (hl : toldS toldX args h K) : CallsA PP 127 args h fun o h' => ∃ v, o = .ret v ∧ h' = h ∧ K v := by
  unfold toldS at hl
  split at hl
  · rename_i x
    refine psumm_of (d := 20) (K0 := fun l => l = [.agg [.arr .u32 8 x]]) ?_ fun l e => ⟨_, by rw [e]; exact (by unfold toldX; exact .ev (E55t_ok x) (to_1 x _ rfl)), fun _ => rfl, hl⟩
    rfl
  · exact hl.elim
end Go.Tk
end
section
namespace Go.Tk
def pressRS (P : List Int → List Int → List Int) : PSumm := fun args _ K => match args with
  | [.agg [.arr .u32 8 st], .agg [.arr .u8 64 bl]] => need (st.length = 8) (K (.agg [.arr .u32 8 (P st bl)]))
  | _ => False
structure PressOk (P : List Int → List Int → List Int) : Prop where
  pure : ∀ st bl, st.length = 8 → Pure PP 126 [.agg [.arr .u32 8 st], .agg [.arr .u8 64 bl]] (.agg [.arr .u32 8 (P st bl)]) 0 []
  len : ∀ st bl, st.length = 8 → (P st bl).length = 8
theorem pressRS_ok {P : List Int → List Int → List Int} (hP : PressOk P) (args : List AV) (h : Heap) (K : AV → Prop) (hl : pressRS P args h K) : CallsA PP 126 args h fun o h' => ∃ v, o = .ret v ∧ h' = h ∧ K v := by
  unfold pressRS at hl
  split at hl
  · rename_i st bl
    obtain ⟨hs, hK⟩ := need_ok hl
    refine psumm_of (d := 20) (K0 := fun l => l = [.agg [.arr .u32 8 st], .agg [.arr .u8 64 bl]]) ?_ fun l e => ⟨_, by rw [e]; exact hP.pure st bl hs, fun _ => rfl, hK⟩
    rfl
  · exact hl.elim
noncomputable def E56 (P : List Int → List Int → List Int) (Q : List Int → List Int) (T : List Int → List Int) (B : Nat) : Env2 := ((G0.withP 126 (pressRS P)).withF 125 (padRF Q B)).withP 127 (toldS T)
theorem E56_ok {P : List Int → List Int → List Int} (hP : PressOk P) {B : Nat} (hB : B ≤ 100000000000) : (E56 P padR toldX B).Ok := Env2.withP_ok (Env2.withF_ok (Env2.withP_ok G0_ok (pressRS_ok hP)) (padRF_ok B hB)) toldS_ok
def smrS (ys st : List Int) (o n : Nat) : St := ⟨21, [(4, .nslice ⟨3, 0, 0, 0, o⟩ 1 n n), (3, pt 2), (2, pt 0)], ⟨4, [(3, .ints .u8 ys), (2, .flat [.arr .u32 8 st]), (0, .flat [.arr .u8 32 zero32])]⟩, []⟩
def smrE (st : List Int) : St := ⟨21, [(3, pt 2), (2, pt 0)], ⟨4, [(2, .flat [.arr .u32 8 st]), (0, .flat [.arr .u8 32 zero32])]⟩, []⟩
set_option maxRecDepth 100000 in
set_option maxHeartbeats 0 in
theorem smr_0 (P : List Int → List Int → List Int) (Q : List Int → List Int) (T : List Int → List Int) (B : Nat) (ys st st' : List Int) (o o' n n' k i : Nat) (Z1 Z2 : Prop) (hi : i ≤ k) (hk : ys.length = 64 * k) (ho : o = 64 * i) (ho' : o' = 64 * (i + 1)) (hn : n = 64 * k - 64 * i) (hn' : n' = 64 * k - 64 * (i + 1)) (hs : st.length = 8) (hst : st' = P st ((ys.drop o).take 64)) (h1 : i < k → Z1) (h2 : i = k → Z2) :
    roundE (E56 P Q T B) 20 58 0 0 (smrS ys st o n) (rdM 0 0 9 (smrS ys st' o' n') (smrE st) (smrE st) (smrE st) Z1 Z2 False False) := by
  refine @Eq.mpr _ (let q1 := decide (n ≤ n);
 let q2 := decide ((0 : Int) ≤ 64 ∧ 64 ≤ (↑n : Int));
 let q3 := subO n (some 64);
 iteB (decide ((↑n : Int) > 0)) (iteB q1 (iteB q2 (iteB (decide (o + 0 + 64 ≤ List.length ys)) (iteB (decide (List.length st = 8)) (iteB q1 (iteB q2 (iteB (decide (o + 64 = o')) (iteB (decide (q3 = n')) (iteB (decide (n' ≤ q3)) (ys = ys ∧ P st (List.take 64 (List.drop (o + 0) ys)) = st' ∧ zero32 = zero32 ∧ Z1) False) False) False) False) False) False) False) False) False) (st = st ∧ zero32 = zero32 ∧ Z2)) (by kernel_rfl) ?_
  conv => zeta
  try simp only [need_eq]
  try simp only [nope_eq]
  try simp only [iteD_eq]
  try simp only [iteT_eq]
  try simp only [iteF_eq]
  try simp only [iteE_eq]
  try simp only [Int.toNat_natCast, Nat.zero_add, true_and, and_true, Nat.le_refl]
  refine ⟨fun hlt => ?_, fun hge => h2 (by omega)⟩
  have e1 : n - 64 = n' := by omega
  have e2 : o + 64 = o' := by omega
  simp only [subO, e1, e2, Nat.add_zero]
  repeat' (first | (refine And.intro ?_ ?_) | intro _)
  all_goals first | omega | exact hst.symm | exact h1 (by omega) | trivial
def sumN (P : List Int → List Int → List Int) (ys : List Int) : Nat → List Int
  | 0 => initR.st
  | i + 1 => P (sumN P ys i) ((ys.drop (64 * i)).take 64)
theorem sumN_len {P : List Int → List Int → List Int} (hP : PressOk P) (ys : List Int) : ∀ i, (sumN P ys i).length = 8
  | 0 => rfl
  | i + 1 => hP.len _ _ (sumN_len hP ys i)
theorem sumN_zero (P : List Int → List Int → List Int) (ys : List Int) : sumN P ys 0 = initR.st := rfl
theorem sumN_succ (P : List Int → List Int → List Int) (ys : List Int) (i : Nat) : sumN P ys (i + 1) = P (sumN P ys i) ((ys.drop (64 * i)).take 64) := rfl
attribute [irreducible] sumN
noncomputable def E56b (P : List Int → List Int → List Int) (Q : List Int → List Int) (T : List Int → List Int) (B : Nat) (ys : List Int) (L k : Nat) : Env2 := (E56 P Q T B).withL 58 0 (goM 0 (smrS ys [1779033703, 3144134277, 1013904242, 2773480762, 1359893119, 2600822924, 528734635, 1541459225] 0 L) (ys.length = 64 * k ∧ L = 64 * k) (endsJ 0 k 9 (fun i => i < k) (fun i => i = k) (fun _ => False) (fun _ => False) (fun i => smrE (sumN P ys i)) (fun i => smrE (sumN P ys i)) (fun i => smrE (sumN P ys i))))
theorem E56b_ok {P : List Int → List Int → List Int} (hP : PressOk P) {B : Nat} (hB : B ≤ 100000000000) (ys : List Int) (L k : Nat) : (E56b P padR toldX B ys L k).Ok := by
  unfold E56b
  refine Env2.withGoM (N := 20) (S := fun i => smrS ys (sumN P ys i) (64 * i) (64 * k - 64 * i)) (E56_ok hP hB) (by kernel_rfl) fun hC => ⟨?_, fun i hi hgo => ?_⟩
  · rw [hC.2, sumN_zero]; rfl
  · exact smr_0 P padR toldX B ys (sumN P ys i) (sumN P ys (i + 1)) _ _ _ _ k i _ _ hi hC.1 rfl rfl rfl rfl (sumN_len hP ys i) (sumN_succ _ _ _) (fun h => ⟨h, h⟩) (fun h => h)
set_option maxRecDepth 100000 in
set_option maxHeartbeats 0 in
theorem smr_1 (P : List Int → List Int → List Int) (Q : List Int → List Int) (T : List Int → List Int) (B : Nat) (bs ys r : List Int) (n L k : Nat) (hn : n = bs.length) (hB : n ≤ B) (hy : ys = Q bs) (hL : L = ys.length) (hk : ys.length = 64 * k) (hr : r = T (sumN P ys k)) :
    evF (E56b P Q T B ys L k) 20 58 [.vints .u8 bs n] ⟨0, []⟩ (outK 0 [] (.agg [.arr .u8 32 r]) 0 []) := by
  refine @Eq.mpr _ (let q1 := [(1779033703 : Int), 3144134277, 1013904242, 2773480762, 1359893119, 2600822924, 528734635, 1541459225];
 iteB (decide (n = List.length bs)) (iteB (decide (List.length bs ≤ B)) (iteB (decide (List.length (Q bs) = L)) (iteB (decide (L ≤ List.length (Q bs))) (Q bs = ys ∧ q1 = q1 ∧ zero32 = zero32 ∧ (List.length ys = 64 * k ∧ L = 64 * k) ∧ ∀ (i : Nat), i ≤ k → (∀ (j : Nat), j < i → (fun (i : Nat) => i < k) j) → (i = k → T (sumN P ys i) = r ∧ True) ∧ (False → zero32 = r ∧ True) ∧ (False → False)) False) False) False) False) (by kernel_rfl) ?_
  conv => zeta
  try simp only [need_eq]
  try simp only [nope_eq]
  try simp only [iteD_eq]
  try simp only [iteT_eq]
  try simp only [iteF_eq]
  try simp only [iteE_eq]
  try simp only [Int.toNat_natCast, Nat.zero_add, true_and, and_true, Nat.le_refl]
  subst hy hr
  refine ⟨hn, by omega, ?_⟩
  exact ⟨hL.symm, by omega, rfl, ⟨hk, by omega⟩, fun i hi _ => ⟨fun he => by rw [he], fun h => h.elim, fun h => h⟩⟩
theorem padR_mod (bs : List Int) (h : bs.length ≤ 100000000000) : (padR bs).length = 64 * ((padR bs).length / 64) := by
  have : (padR bs).length = bs.length + 1 + ((128 - ((bs.length : Int) + 9) % 64) % 64).toNat + 8 := by
    unfold padR padZ
    rw [padX _ h]
    simp only [List.length_append, List.length_cons, List.length_nil, padN_len, List.length_replicate]
  omega
@[irreducible] def rSum (P : List Int → List Int → List Int) (bs : List Int) : List Int := toldX (sumN P (padR bs) ((padR bs).length / 64))
theorem sumr_pure {P : List Int → List Int → List Int} (hP : PressOk P) (bs : List Int) (h : bs.length ≤ 100000000000) : Pure PP 58 [.vints .u8 bs bs.length] (.agg [.arr .u8 32 (rSum P bs)]) 0 [] := by
  unfold rSum
  exact .ev (E56b_ok hP (Nat.le_refl _) _ _ _) (smr_1 P padR toldX 100000000000 bs _ _ _ _ _ rfl h rfl rfl (padR_mod bs h) rfl)
def hashS (H : List Int → List Int) (B : Nat) : PSumm := fun args h K => viewL none h true 20 args fun a => bytesC a fun xs => need (xs.length ≤ B) (K (.agg [.arr .u8 32 (H xs)]))
theorem hashS_ok {f : FuncId} {H : List Int → List Int} {B : Nat} (hp : ∀ xs : List Int, xs.length ≤ B → Pure PP f [.vints .u8 xs xs.length] (.agg [.arr .u8 32 (H xs)]) 0 []) (args : List AV) (h : Heap) (K : AV → Prop) (hl : hashS H B args h K) : CallsA PP f args h fun o h' => ∃ v, o = .ret v ∧ h' = h ∧ K v := by
  refine Pure.psumm (d := 20) (viewL_weak _ _ _ _ _ hl fun a ha => ?_)
  obtain ⟨xs, rfl, hK⟩ := bytesC_ok ha
  obtain ⟨hx, hK⟩ := need_ok hK
  exact ⟨_, hp xs hx, fun _ => rfl, hK⟩
noncomputable def E56h (H : List Int → List Int) (B : Nat) : Env2 := G0.withP 58 (hashS H B)
set_option maxRecDepth 100000 in
set_option maxHeartbeats 0 in
theorem twr_0 (H : List Int → List Int) (B : Nat) (bs r : List Int) (n : Nat) (hn : n = bs.length) (hb : n ≤ B) (h32 : 32 ≤ B) (hl : (H bs).length = 32) (hr : r = H (H bs)) :
    evF (E56h H B) 20 52 [.vints .u8 bs n] ⟨0, []⟩ (outK 0 [] (.agg [.arr .u8 32 r]) 0 []) := by
  refine @Eq.mpr _ (let q1 := List.length (H bs);
 iteB (decide (n = List.length bs)) (iteB (decide (List.length bs ≤ B)) (iteB (decide (q1 = 32)) (iteB (decide (32 = q1)) (iteB (decide (q1 ≤ B)) (H (H bs) = r ∧ True) False) False) False) False) False) (by kernel_rfl) ?_
  conv => zeta
  try simp only [need_eq]
  try simp only [nope_eq]
  try simp only [iteD_eq]
  try simp only [iteT_eq]
  try simp only [iteF_eq]
  try simp only [iteE_eq]
  try simp only [Int.toNat_natCast, Nat.zero_add, true_and, and_true, Nat.le_refl]
  subst hr
  exact ⟨hn, by omega, hl, hl.symm, by omega, rfl⟩
theorem E56h_ok {H : List Int → List Int} {B : Nat} (hp : ∀ xs : List Int, xs.length ≤ B → Pure PP 58 [.vints .u8 xs xs.length] (.agg [.arr .u8 32 (H xs)]) 0 []) : (E56h H B).Ok := Env2.withP_ok G0_ok (hashS_ok hp)
end Go.Tk
end
section
namespace Go.Tk
def kxE (key : List Int) (c : Int) (i : Nat) : Int := if (i : Int) < 32 then bXor .u8 (key.getD i 0) c else c
def kxR (key : List Int) (c : Int) : Nat → List Int
  | 0 => []
  | i + 1 => kxR key c i ++ [kxE key c i]
theorem kxR_len (key : List Int) (c : Int) : ∀ i, (kxR key c i).length = i
  | 0 => rfl
  | i + 1 => by rw [kxR, List.length_append, kxR_len key c i]; rfl
def tgS (key ms xs ys : List Int) (i : Nat) : St := ⟨47, [(8, .int .i64 i), (0, .vints .u8 key 32), (6, .nslice ⟨1, 0, 0, 0, 0⟩ 1 i i), (7, .nslice ⟨2, 0, 0, 0, 0⟩ 1 i i), (1, .vints .u8 ms 32), (4, pt 0)], ⟨3, [(2, .ints .u8 ys), (1, .ints .u8 xs), (0, .flat [.arr .u8 32 zero32])]⟩, []⟩
def tgE (ms xs ys : List Int) (i : Nat) : St := ⟨47, [(6, .nslice ⟨1, 0, 0, 0, 0⟩ 1 i i), (7, .nslice ⟨2, 0, 0, 0, 0⟩ 1 i i), (1, .vints .u8 ms 32), (4, pt 0)], ⟨3, [(2, .ints .u8 ys), (1, .ints .u8 xs), (0, .flat [.arr .u8 32 zero32])]⟩, []⟩
set_option maxRecDepth 100000 in
set_option maxHeartbeats 0 in
theorem tg_0 (key ms xs ys xs' ys' : List Int) (i : Nat) (Z1 Z2 : Prop) (hi : i ≤ 64) (hx : xs.length = i) (hy : ys.length = i) (hx' : xs' = xs ++ [kxE key 54 i]) (hy' : ys' = ys ++ [kxE key 92 i]) (h1 : i < 64 → Z1) (h2 : i = 64 → Z2) :
    roundE G0 20 53 0 0 (tgS key ms xs ys i) (rdM 0 0 9 (tgS key ms xs' ys' (i + 1)) (tgE ms xs ys i) (tgE ms xs ys i) (tgE ms xs ys i) Z1 Z2 False False) := by
  refine @Eq.mpr _ (let q1 := decide (IntKind.u8 = IntKind.u8 ∧ List.length xs = i);
 let q2 := List.getD key (Int.toNat (↑i : Int)) 0;
 let q3 := xs ++ [bXor IntKind.u8 q2 54];
 let q4 := List.length q3;
 let q5 := decide (IntKind.u8 = IntKind.u8 ∧ List.length ys = i);
 let q6 := ys ++ [bXor IntKind.u8 q2 92];
 let q7 := List.length q6;
 let q8 := i + 1;
 let q9 := decide (IntKind.wrap IntKind.i64 ((↑i : Int) + 1) = (↑q8 : Int));
 let q10 := xs ++ [(54 : Int)];
 let q11 := List.length q10;
 let q12 := ys ++ [(92 : Int)];
 let q13 := List.length q12;
 let q14 := decide (i = i);
 let q15 := decide (i ≤ i);
 iteB (decide ((↑i : Int) < 64)) (iteB (decide ((↑i : Int) < 32)) (iteB (decide (0 ≤ (↑i : Int) ∧ (↑i : Int) < 32)) (iteB q1 (iteB (decide (q4 * 1 ≤ 140737488355328)) (iteB q5 (iteB (decide (q7 * 1 ≤ 140737488355328)) (iteB q9 (key = key ∧ iteB (decide (q4 = q8)) (iteB (decide (q8 ≤ q4)) (iteB (decide (q7 = q8)) (iteB (decide (q8 ≤ q7)) (ms = ms ∧ q6 = ys' ∧ q3 = xs' ∧ zero32 = zero32 ∧ Z1) False) False) False) False) False) False) False) False) False) False) (iteB q1 (iteB (decide (q11 * 1 ≤ 140737488355328)) (iteB q5 (iteB (decide (q13 * 1 ≤ 140737488355328)) (iteB q9 (key = key ∧ iteB (decide (q11 = q8)) (iteB (decide (q8 ≤ q11)) (iteB (decide (q13 = q8)) (iteB (decide (q8 ≤ q13)) (ms = ms ∧ q12 = ys' ∧ q10 = xs' ∧ zero32 = zero32 ∧ Z1) False) False) False) False) False) False) False) False) False)) (iteB q14 (iteB q15 (iteB q14 (iteB q15 (ms = ms ∧ ys = ys ∧ xs = xs ∧ zero32 = zero32 ∧ Z2) False) False) False) False)) (by kernel_rfl) ?_
  conv => zeta
  try simp only [need_eq]
  try simp only [nope_eq]
  try simp only [iteD_eq]
  try simp only [iteT_eq]
  try simp only [iteF_eq]
  try simp only [iteE_eq]
  try simp only [Int.toNat_natCast, Nat.zero_add, true_and, and_true, Nat.le_refl]
  have hw : IntKind.i64.wrap ((i : Int) + 1) = ((i + 1 : Nat) : Int) := w64 (by omega)
  refine ⟨fun hlt => ⟨fun h32 => ?_, fun h32 => ?_⟩, fun hge => ?_⟩
  · unfold kxE at hx' hy'
    rw [if_pos h32] at hx' hy'
    simp only [hw, List.length_append, List.length_cons, List.length_nil, hx, hy]
    repeat' (first | (refine And.intro ?_ ?_) | intro _)
    all_goals first | omega | exact hx'.symm | exact hy'.symm | exact h1 (by omega) | trivial
  · unfold kxE at hx' hy'
    rw [if_neg h32] at hx' hy'
    simp only [hw, List.length_append, List.length_cons, List.length_nil, hx, hy]
    repeat' (first | (refine And.intro ?_ ?_) | intro _)
    all_goals first | omega | exact hx'.symm | exact hy'.symm | exact h1 (by omega) | trivial
  · exact h2 (by omega)
noncomputable def E57 (H : List Int → List Int) (B : Nat) (key ms : List Int) : Env2 := (E56h H B).withL 53 0 (goM 0 (tgS key ms [] [] 0) True (endsJ 0 64 9 (fun i => i < 64) (fun i => i = 64) (fun _ => False) (fun _ => False) (fun i => tgE ms (kxR key 54 i) (kxR key 92 i) i) (fun i => tgE ms (kxR key 54 i) (kxR key 92 i) i) (fun i => tgE ms (kxR key 54 i) (kxR key 92 i) i)))
theorem E57_ok {H : List Int → List Int} {B : Nat} (hp : ∀ xs : List Int, xs.length ≤ B → Pure PP 58 [.vints .u8 xs xs.length] (.agg [.arr .u8 32 (H xs)]) 0 []) (key ms : List Int) : (E57 H B key ms).Ok := by
  unfold E57
  refine Env2.withL_join (H := G0) (E56h_ok hp) rfl ?_
  refine Env2.withGoM (N := 20) (S := fun i => tgS key ms (kxR key 54 i) (kxR key 92 i) i) G0_ok (by kernel_rfl) fun hC => ⟨rfl, fun i hi hgo => ?_⟩
  exact tg_0 key ms _ _ (kxR key 54 (i + 1)) (kxR key 92 (i + 1)) i _ _ hi (kxR_len _ _ _) (kxR_len _ _ _) rfl rfl (fun h => ⟨h, h⟩) (fun h => h)
attribute [irreducible] kxR
theorem take_dz {xs : List Int} {n : Nat} (h : xs.length = n) : List.take n (dropZ 0 xs) = xs := by subst h; rw [dropZ_eq, List.drop_zero, List.take_length]
set_option maxRecDepth 100000 in
set_option maxHeartbeats 0 in
theorem tg_1 (H : List Int → List Int) (B : Nat) (key ms r : List Int) (hk : key.length = 32) (hm : ms.length = 32) (hB : 128 ≤ B) (hl : ∀ x, (H x).length = 32) (hr : r = H (kxR key 92 64 ++ H (kxR key 54 64 ++ ms))) :
    evF (E57 H B key ms) 20 53 [.vints .u8 key 32, .vints .u8 ms 32] ⟨0, []⟩ (outK 0 [] (.agg [.arr .u8 32 r]) 0 []) := by
  refine @Eq.mpr _ (key = key ∧
 ms = ms ∧
 ([] : List Int) = [] ∧
 ([] : List Int) = [] ∧
 zero32 = zero32 ∧
 True ∧
 ∀ (i : Nat),
 let q1 := [] ++ List.take i (dropZ 0 (kxR key 54 i));
 let q2 := List.length q1;
 let q3 := q1 ++ List.take 32 ms;
 let q4 := List.length q3;
 let q5 := List.take q4 (dropZ 0 q3);
 let q6 := List.length q5;
 let q7 := [] ++ List.take i (dropZ 0 (kxR key 92 i));
 let q8 := List.length q7;
 let q9 := H q5;
 let q10 := q7 ++ q9;
 let q11 := List.length q10;
 let q12 := List.take q11 (dropZ 0 q10);
 let q13 := List.length q12;
 i ≤ 64 → (∀ (j : Nat), j < i → (fun (i : Nat) => i < 64) j) → (i = 64 → iteB (decide (IntKind.u8 = IntKind.u8 ∧ 0 + i ≤ List.length (kxR key 54 i))) (iteB (decide (q2 * 1 ≤ 140737488355328)) (iteB (decide (IntKind.u8 = IntKind.u8 ∧ q2 = q2)) (iteB (decide (q4 * 1 ≤ 140737488355328)) (iteB (decide (0 + q4 ≤ q4)) (iteB (decide (q4 = q6)) (iteB (decide (q6 ≤ B)) (iteB (decide (IntKind.u8 = IntKind.u8 ∧ 0 + i ≤ List.length (kxR key 92 i))) (iteB (decide (q8 * 1 ≤ 140737488355328)) (iteB (decide (IntKind.u8 = IntKind.u8 ∧ List.length q9 = 32)) (iteB (decide (IntKind.u8 = IntKind.u8 ∧ q8 = q8)) (iteB (decide (q11 * 1 ≤ 140737488355328)) (iteB (decide (0 + q11 ≤ q11)) (iteB (decide (q11 = q13)) (iteB (decide (q13 ≤ B)) (H q12 = r ∧ True) False) False) False) False) False) False) False) False) False) False) False) False) False) False) False) ∧ (False → zero32 = r ∧ True) ∧ (False → False)) (by kernel_rfl) ?_
  conv => zeta
  try simp only [need_eq]
  try simp only [nope_eq]
  try simp only [iteD_eq]
  try simp only [iteT_eq]
  try simp only [iteF_eq]
  try simp only [iteE_eq]
  try simp only [Int.toNat_natCast, Nat.zero_add, true_and, and_true, Nat.le_refl]
  refine fun i hi _ => ⟨fun he => ?_, fun h => h.elim, fun h => h⟩
  subst he
  have a1 := kxR_len key 54 64
  have a2 := kxR_len key 92 64
  have e1 := take_dz a1
  have e2 := take_dz a2
  have e3 : List.take 32 ms = ms := by rw [← hm]; exact List.take_length
  simp only [e1, e2, e3, List.nil_append, take_dz rfl]
  have l1 := hl (kxR key 54 64 ++ ms)
  subst hr
  simp only [List.length_append, a1, a2, hm, l1]
  repeat' (first | (refine And.intro ?_ ?_) | intro _)
  all_goals first | omega | trivial
@[irreducible] def hmacR (H : List Int → List Int) (key ms : List Int) : List Int := H (kxR key 92 64 ++ H (kxR key 54 64 ++ ms))
theorem tagr_pure {H : List Int → List Int} {B : Nat} (hp : ∀ xs : List Int, xs.length ≤ B → Pure PP 58 [.vints .u8 xs xs.length] (.agg [.arr .u8 32 (H xs)]) 0 []) (hB : 128 ≤ B) (hl : ∀ x, (H x).length = 32) (key ms : List Int) (h1 : key.length = 32) (h2 : ms.length = 32) : Pure PP 53 [.vints .u8 key 32, .vints .u8 ms 32] (.agg [.arr .u8 32 (hmacR H key ms)]) 0 [] := by
  unfold hmacR
  exact .ev (E57_ok hp _ _) (tg_1 H B _ _ _ h1 h2 hB hl rfl)
def tagRS (T : List Int → List Int → List Int) : PSumm := fun args h K => viewL none h true 20 args fun a => match a with
  | [.vints .u8 key len, .vints .u8 ms len'] => need (key.length = 32 ∧ len = 32 ∧ ms.length = 32 ∧ len' = 32) (K (.agg [.arr .u8 32 (T key ms)]))
  | _ => False
theorem tagRS_ok {H : List Int → List Int} {B : Nat} (hp : ∀ xs : List Int, xs.length ≤ B → Pure PP 58 [.vints .u8 xs xs.length] (.agg [.arr .u8 32 (H xs)]) 0 []) (hB : 128 ≤ B) (hl : ∀ x, (H x).length = 32) (args : List AV) (h : Heap) (K : AV → Prop) (hl' : tagRS (hmacR H) args h K) : CallsA PP 53 args h fun o h' => ∃ v, o = .ret v ∧ h' = h ∧ K v := by
  refine Pure.psumm (d := 20) (viewL_weak _ _ _ _ _ hl' fun a ha => ?_)
  split at ha
  · obtain ⟨⟨h1, rfl, h2, rfl⟩, hK⟩ := need_ok ha
    exact ⟨_, tagr_pure hp hB hl _ _ h1 h2, fun _ => rfl, hK⟩
  · exact ha.elim
set_option maxRecDepth 100000 in
set_option maxHeartbeats 0 in
theorem po_1 (H : List Int → List Int) (B : Nat) (sec r : List Int) (hs : sec.length = 32) (hB : 128 ≤ B) (hl : ∀ x, (H x).length = 32) (hr : r = H (H [112, 111, 105, 110, 116] ++ H [112, 111, 105, 110, 116] ++ sec)) :
    evF (E56h H B) 20 57 [.agg [.arr .u8 32 sec]] ⟨0, []⟩ (outK 0 [] (.agg [.arr .u8 32 r]) 0 []) := by
  refine @Eq.mpr _ (let q1 := H [(112 : Int), 111, 105, 110, 116];
 let q2 := decide (IntKind.u8 = IntKind.u8 ∧ List.length q1 = 32);
 let q3 := [] ++ q1;
 let q4 := List.length q3;
 let q5 := q3 ++ q1;
 let q6 := List.length q5;
 let q7 := q5 ++ sec;
 let q8 := List.length q7;
 let q9 := List.take q8 (dropZ 0 q7);
 let q10 := List.length q9;
 iteB (decide (5 ≤ B)) (iteB q2 (iteB (decide (q4 * 1 ≤ 140737488355328)) (iteB q2 (iteB (decide (IntKind.u8 = IntKind.u8 ∧ q4 = q4)) (iteB (decide (q6 * 1 ≤ 140737488355328)) (iteB (decide (IntKind.u8 = IntKind.u8 ∧ List.length sec = 32)) (iteB (decide (IntKind.u8 = IntKind.u8 ∧ q6 = q6)) (iteB (decide (q8 * 1 ≤ 140737488355328)) (iteB (decide (0 + q8 ≤ q8)) (iteB (decide (q8 = q10)) (iteB (decide (q10 ≤ B)) (H q9 = r ∧ True) False) False) False) False) False) False) False) False) False) False) False) False) (by kernel_rfl) ?_
  conv => zeta
  try simp only [need_eq]
  try simp only [nope_eq]
  try simp only [iteD_eq]
  try simp only [iteT_eq]
  try simp only [iteF_eq]
  try simp only [iteE_eq]
  try simp only [Int.toNat_natCast, Nat.zero_add, true_and, and_true, Nat.le_refl]
  have l1 := hl [112, 111, 105, 110, 116]
  subst hr
  simp only [List.nil_append, take_dz rfl]
  simp only [List.length_append, hs, l1]
  repeat' (first | (refine And.intro ?_ ?_) | intro _)
  all_goals first | omega | trivial
@[irreducible] def pointR (H : List Int → List Int) (sec : List Int) : List Int := H (H [112, 111, 105, 110, 116] ++ H [112, 111, 105, 110, 116] ++ sec)
theorem pointr_pure {H : List Int → List Int} {B : Nat} (hp : ∀ xs : List Int, xs.length ≤ B → Pure PP 58 [.vints .u8 xs xs.length] (.agg [.arr .u8 32 (H xs)]) 0 []) (hB : 128 ≤ B) (hl : ∀ x, (H x).length = 32) (s : List Int) (hs : s.length = 32) : Pure PP 57 [.agg [.arr .u8 32 s]] (.agg [.arr .u8 32 (pointR H s)]) 0 [] := by
  unfold pointR
  exact .ev (E56h_ok hp) (po_1 H B s _ hs hB hl rfl)
theorem pointRS_ok {H : List Int → List Int} {B : Nat} (hp : ∀ xs : List Int, xs.length ≤ B → Pure PP 58 [.vints .u8 xs xs.length] (.agg [.arr .u8 32 (H xs)]) 0 []) (hB : 128 ≤ B) (hl : ∀ x, (H x).length = 32) (args : List AV) (h : Heap) (K : AV → Prop) (hl' : hash1S (pointR H) args h K) : CallsA PP 57 args h fun o h' => ∃ v, o = .ret v ∧ h' = h ∧ K v := by
  unfold hash1S at hl'
  split at hl'
  · rename_i s
    obtain ⟨hs, hK⟩ := need_ok hl'
    refine psumm_of (d := 20) (K0 := fun l => l = [.agg [.arr .u8 32 s]]) ?_ fun l e => ⟨_, by rw [e]; exact pointr_pure hp hB hl s hs, fun _ => rfl, hK⟩
    rfl
  · exact hl'.elim
@[irreducible] def twiceR (H : List Int → List Int) (bs : List Int) : List Int := H (H bs)
theorem twiceR_ok {H : List Int → List Int} {B : Nat} (hp : ∀ xs : List Int, xs.length ≤ B → Pure PP 58 [.vints .u8 xs xs.length] (.agg [.arr .u8 32 (H xs)]) 0 []) (hB : 128 ≤ B) (hl : ∀ x, (H x).length = 32) (args : List AV) (h : Heap) (K : AV → Prop) (hl' : hashS (twiceR H) B args h K) : CallsA PP 52 args h fun o h' => ∃ v, o = .ret v ∧ h' = h ∧ K v := by
  refine hashS_ok (fun xs hx => ?_) args h K hl'
  unfold twiceR
  exact .ev (E56h_ok hp) (twr_0 H B xs _ _ rfl hx (by omega) (hl xs) rfl)
end Go.Tk
end
section
namespace Go.Tk
def mostO (a b c : Int) : Nat → Int
  | 0 => 0
  | i + 1 => if 2 ≤ IntKind.u32.wrap (IntKind.u32.wrap (Int.tmod (shrI .u32 a i) 2 + Int.tmod (shrI .u32 b i) 2) + Int.tmod (shrI .u32 c i) 2) then IntKind.u32.wrap (mostO a b c i + shlI .u32 1 i) else mostO a b c i
def pickO (a b c : Int) : Nat → Int
  | 0 => 0
  | i + 1 => IntKind.u32.wrap (pickO a b c i + shlI .u32 (if Int.tmod (shrI .u32 a i) 2 = 1 then Int.tmod (shrI .u32 b i) 2 else Int.tmod (shrI .u32 c i) 2) i)
def moS (a b c : Int) (o : Int) (i : Nat) : St := ⟨33, [(8, .int .u64 i), (0, .int .u32 a), (1, .int .u32 b), (2, .int .u32 c), (7, .int .u32 o)], ⟨0, []⟩, []⟩
def moR (o : Int) : St := ⟨33, [(7, .int .u32 o)], ⟨0, []⟩, []⟩
theorem wu64x {x : Int} (h : 0 ≤ x ∧ x < 18446744073709551616) : IntKind.u64.wrap x = x := by
  unfold IntKind.wrap
  simp [IntKind.bits, IntKind.signed]
  omega
set_option maxRecDepth 100000 in
set_option maxHeartbeats 0 in
theorem most_0 (a b c o o' : Int) (i : Nat) (Z1 Z2 : Prop) (hi : i ≤ 32) (ho : o' = if 2 ≤ IntKind.u32.wrap (IntKind.u32.wrap (Int.tmod (shrI .u32 a i) 2 + Int.tmod (shrI .u32 b i) 2) + Int.tmod (shrI .u32 c i) 2) then IntKind.u32.wrap (o + shlI .u32 1 i) else o) (h1 : i < 32 → Z1) (h2 : i = 32 → Z2) :
    roundE G0 20 168 0 0 (moS a b c o i) (rdM 0 0 9 (moS a b c o' (i + 1)) (moR o) (moR o) (moR o) Z1 Z2 False False) := by
  refine @Eq.mpr _ (let q1 := decide (IntKind.wrap IntKind.u64 ((↑i : Int) + 1) = (↑(i + 1) : Int));
 let q2 := decide (a = a);
 let q3 := decide (b = b);
 let q4 := decide (c = c);
 iteB (decide ((↑i : Int) < 32)) (iteB (decide (IntKind.wrap IntKind.u32 (IntKind.wrap IntKind.u32 (Int.tmod (shrI IntKind.u32 a (↑i : Int)) 2 + Int.tmod (shrI IntKind.u32 b (↑i : Int)) 2) + Int.tmod (shrI IntKind.u32 c (↑i : Int)) 2) ≥ 2)) (iteB q1 (iteB q2 (iteB q3 (iteB q4 (iteB (decide (IntKind.wrap IntKind.u32 (o + shlI IntKind.u32 1 (↑i : Int)) = o')) Z1 False) False) False) False) False) (iteB q1 (iteB q2 (iteB q3 (iteB q4 (iteB (decide (o = o')) Z1 False) False) False) False) False)) (iteB (decide (o = o)) Z2 False)) (by kernel_rfl) ?_
  conv => zeta
  try simp only [need_eq]
  try simp only [nope_eq]
  try simp only [iteD_eq]
  try simp only [iteT_eq]
  try simp only [iteF_eq]
  try simp only [iteE_eq]
  try simp only [Int.toNat_natCast, Nat.zero_add, true_and, and_true, Nat.le_refl]
  have hw : IntKind.u64.wrap ((i : Int) + 1) = ((i + 1 : Nat) : Int) := wu64x (by omega)
  refine ⟨fun hlt => ⟨fun hc => ?_, fun hc => ?_⟩, fun hge => h2 (by omega)⟩
  · rw [if_pos hc] at ho
    exact ⟨hw, ho.symm, h1 (by omega)⟩
  · rw [if_neg hc] at ho
    exact ⟨hw, ho.symm, h1 (by omega)⟩
set_option maxRecDepth 100000 in
set_option maxHeartbeats 0 in
theorem pick_0 (a b c o o' : Int) (i : Nat) (Z1 Z2 : Prop) (hi : i ≤ 32) (ho : o' = IntKind.u32.wrap (o + shlI .u32 (if Int.tmod (shrI .u32 a i) 2 = 1 then Int.tmod (shrI .u32 b i) 2 else Int.tmod (shrI .u32 c i) 2) i)) (h1 : i < 32 → Z1) (h2 : i = 32 → Z2) :
    roundE G0 20 167 0 0 (moS a b c o i) (rdM 0 0 9 (moS a b c o' (i + 1)) (moR o) (moR o) (moR o) Z1 Z2 False False) := by
  refine @Eq.mpr _ (let q1 := decide (IntKind.wrap IntKind.u64 ((↑i : Int) + 1) = (↑(i + 1) : Int));
 let q2 := decide (a = a);
 let q3 := decide (b = b);
 let q4 := decide (c = c);
 iteB (decide ((↑i : Int) < 32)) (iteB (Int.tmod (shrI IntKind.u32 a (↑i : Int)) 2 == 1) (iteB q1 (iteB q2 (iteB q3 (iteB q4 (iteB (decide (IntKind.wrap IntKind.u32 (o + shlI IntKind.u32 (Int.tmod (shrI IntKind.u32 b (↑i : Int)) 2) (↑i : Int)) = o')) Z1 False) False) False) False) False) (iteB q1 (iteB q2 (iteB q3 (iteB q4 (iteB (decide (IntKind.wrap IntKind.u32 (o + shlI IntKind.u32 (Int.tmod (shrI IntKind.u32 c (↑i : Int)) 2) (↑i : Int)) = o')) Z1 False) False) False) False) False)) (iteB (decide (o = o)) Z2 False)) (by kernel_rfl) ?_
  conv => zeta
  try simp only [need_eq]
  try simp only [nope_eq]
  try simp only [iteD_eq]
  try simp only [iteT_eq]
  try simp only [iteF_eq]
  try simp only [iteE_eq]
  try simp only [Int.toNat_natCast, Nat.zero_add, true_and, and_true, Nat.le_refl]
  have hw : IntKind.u64.wrap ((i : Int) + 1) = ((i + 1 : Nat) : Int) := wu64x (by omega)
  refine ⟨fun hlt => ⟨fun hc => ?_, fun hc => ?_⟩, fun hge => h2 (by omega)⟩
  · rw [if_pos (by simpa using hc)] at ho
    exact ⟨hw, ho.symm, h1 (by omega)⟩
  · rw [if_neg (by simpa using hc)] at ho
    exact ⟨hw, ho.symm, h1 (by omega)⟩
@[irreducible] def mostR (a b c : Int) : Int := mostO a b c 32
@[irreducible] def pickR (a b c : Int) : Int := pickO a b c 32
noncomputable def E53m (a b c : Int) : Env2 := G0.withL 168 0 (goM 0 (moS a b c 0 0) True (endsJ 0 32 9 (fun i => i < 32) (fun i => i = 32) (fun _ => False) (fun _ => False) (fun i => moR (mostO a b c i)) (fun i => moR (mostO a b c i)) (fun i => moR (mostO a b c i))))
theorem E53m_ok (a b c : Int) : (E53m a b c).Ok := by
  unfold E53m
  refine Env2.withGoM (N := 20) (S := fun i => moS a b c (mostO a b c i) i) G0_ok (by kernel_rfl) fun hC => ⟨rfl, fun i hi hgo => ?_⟩
  exact most_0 a b c (mostO a b c i) (mostO a b c (i + 1)) i _ _ hi rfl (fun h => ⟨h, h⟩) (fun h => h)
noncomputable def E53p (a b c : Int) : Env2 := G0.withL 167 0 (goM 0 (moS a b c 0 0) True (endsJ 0 32 9 (fun i => i < 32) (fun i => i = 32) (fun _ => False) (fun _ => False) (fun i => moR (pickO a b c i)) (fun i => moR (pickO a b c i)) (fun i => moR (pickO a b c i))))
theorem E53p_ok (a b c : Int) : (E53p a b c).Ok := by
  unfold E53p
  refine Env2.withGoM (N := 20) (S := fun i => moS a b c (pickO a b c i) i) G0_ok (by kernel_rfl) fun hC => ⟨rfl, fun i hi hgo => ?_⟩
  exact pick_0 a b c (pickO a b c i) (pickO a b c (i + 1)) i _ _ hi rfl (fun h => ⟨h, h⟩) (fun h => h)
set_option maxRecDepth 100000 in
set_option maxHeartbeats 0 in
theorem most_1 (a b c : Int) (o : Int) (ho : o = mostO a b c 32) :
    evF (E53m a b c) 20 168 [.int .u32 a, .int .u32 b, .int .u32 c] ⟨0, []⟩ (outK 0 [] (.int .u32 o) 0 []) := by
  refine @Eq.mpr _ (iteB (decide (a = a)) (iteB (decide (b = b)) (iteB (decide (c = c)) (True ∧ ∀ (i : Nat), i ≤ 32 → (∀ (j : Nat), j < i → (fun (i : Nat) => i < 32) j) → (i = 32 → iteB (decide (mostO a b c i = o)) True False) ∧ (False → False) ∧ (False → False)) False) False) False) (by kernel_rfl) ?_
  try simp only [need_eq]
  try simp only [nope_eq]
  try simp only [iteD_eq]
  try simp only [iteT_eq]
  try simp only [iteF_eq]
  try simp only [iteE_eq]
  try simp only [Int.toNat_natCast, Nat.zero_add, true_and, and_true, Nat.le_refl]
  subst ho
  exact fun i hi _ => ⟨fun he => by subst he; rfl, fun h => h, fun h => h⟩
set_option maxRecDepth 100000 in
set_option maxHeartbeats 0 in
theorem pick_1 (a b c : Int) (o : Int) (ho : o = pickO a b c 32) :
    evF (E53p a b c) 20 167 [.int .u32 a, .int .u32 b, .int .u32 c] ⟨0, []⟩ (outK 0 [] (.int .u32 o) 0 []) := by
  refine @Eq.mpr _ (iteB (decide (a = a)) (iteB (decide (b = b)) (iteB (decide (c = c)) (True ∧ ∀ (i : Nat), i ≤ 32 → (∀ (j : Nat), j < i → (fun (i : Nat) => i < 32) j) → (i = 32 → iteB (decide (pickO a b c i = o)) True False) ∧ (False → False) ∧ (False → False)) False) False) False) (by kernel_rfl) ?_
  try simp only [need_eq]
  try simp only [nope_eq]
  try simp only [iteD_eq]
  try simp only [iteT_eq]
  try simp only [iteF_eq]
  try simp only [iteE_eq]
  try simp only [Int.toNat_natCast, Nat.zero_add, true_and, and_true, Nat.le_refl]
  subst ho
  exact fun i hi _ => ⟨fun he => by subst he; rfl, fun h => h, fun h => h⟩
def three32 (F : Int → Int → Int → Int) : PSumm := fun args _ K => match args with
  | [.int .u32 a, .int .u32 b, .int .u32 c] => K (.int .u32 (F a b c))
  | _ => False
theorem three32_ok {f : FuncId} {F : Int → Int → Int → Int} (hp : ∀ a b c, Pure PP f [.int .u32 a, .int .u32 b, .int .u32 c] (.int .u32 (F a b c)) 0 []) (args : List AV) (h : Heap) (K : AV → Prop) (hl : three32 F args h K) : CallsA PP f args h fun o h' => ∃ v, o = .ret v ∧ h' = h ∧ K v := by
  unfold three32 at hl
  split at hl
  · rename_i a b c
    refine psumm_of (d := 20) (K0 := fun l => l = [.int .u32 a, .int .u32 b, .int .u32 c]) ?_ fun l e => ⟨_, by rw [e]; exact hp a b c, fun _ => rfl, hl⟩
    rfl
  · exact hl.elim
end Go.Tk
end
section
namespace Go.Tk
def sg3 (a b c : Int) (w : Int) : Int := bXor .u32 (bXor .u32 (rotI w (32 - a)) (rotI w (32 - b))) (rotI w (32 - c))
def rg3 (a b n : Int) (w : Int) : Int := bXor .u32 (bXor .u32 (rotI w (32 - a)) (rotI w (32 - b))) (shrI .u32 w n)
def refB (bl : List Int) (t : Nat) : Int := IntKind.u32.wrap (IntKind.u32.wrap (IntKind.u32.wrap (shlI .u32 (IntKind.u32.wrap (bl.getD (4 * t) 0)) 24 + shlI .u32 (IntKind.u32.wrap (bl.getD (4 * t + 1) 0)) 16) + shlI .u32 (IntKind.u32.wrap (bl.getD (4 * t + 2) 0)) 8) + IntKind.u32.wrap (bl.getD (4 * t + 3) 0))
def refW (m : List Int) (t : Nat) : Int := IntKind.u32.wrap (IntKind.u32.wrap (IntKind.u32.wrap (rg3 17 19 10 (m.getD (t - 2) 0) + m.getD (t - 7) 0) + rg3 7 18 3 (m.getD (t - 15) 0)) + m.getD (t - 16) 0)
def refM (bl : List Int) : Nat → List Int
  | 0 => List.replicate 64 0
  | t + 1 => (refM bl t).set t (if t < 16 then refB bl t else refW (refM bl t) t)
theorem refM_len (bl : List Int) : ∀ t, (refM bl t).length = 64
  | 0 => rfl
  | t + 1 => by simp [refM, refM_len bl t]
def prS (st bl m : List Int) (i : Nat) : St := ⟨146, [(6, .int .i64 i), (3, pt 1), (5, pt 3), (2, pt 0), (4, pt 2)], ⟨4, [(3, .flat [.arr .u32 64 m]), (2, .flat [.arr .u32 8 [0, 0, 0, 0, 0, 0, 0, 0]]), (1, .flat [.arr .u8 64 bl]), (0, .flat [.arr .u32 8 st])]⟩, []⟩
set_option maxRecDepth 100000 in
set_option maxHeartbeats 0 in
theorem pr_0 (st bl m m' : List Int) (i : Nat) (Z1 Z2 : Prop) (hi : i ≤ 64) (hm : m.length = 64) (hm' : m' = m.set i (if i < 16 then refB bl i else refW m i)) (h1 : i < 64 → Z1) (h2 : i = 64 → Z2) :
    roundE G0 20 126 0 0 (prS st bl m i) (rdM 0 0 9 (prS st bl m' (i + 1)) (prS st bl m i) (prS st bl m i) (prS st bl m i) Z1 Z2 False False) := by
  refine @Eq.mpr _ (let q1 := IntKind.wrap IntKind.i64 (4 * (↑i : Int));
 let q2 := 0 + Int.toNat q1;
 let q3 := IntKind.wrap IntKind.i64 (q1 + 1);
 let q4 := 0 + Int.toNat q3;
 let q5 := IntKind.wrap IntKind.i64 (q1 + 2);
 let q6 := 0 + Int.toNat q5;
 let q7 := IntKind.wrap IntKind.i64 (q1 + 3);
 let q8 := 0 + Int.toNat q7;
 let q9 := decide (0 ≤ (↑i : Int) ∧ (↑i : Int) < 64);
 let q10 := 0 + Int.toNat (↑i : Int);
 let q11 := decide (IntKind.u32 = IntKind.u32 ∧ q10 < 64 ∧ q10 < List.length m);
 let q12 := decide (IntKind.wrap IntKind.i64 ((↑i : Int) + 1) = (↑(i + 1) : Int));
 let q13 := [(0 : Int), 0, 0, 0, 0, 0, 0, 0];
 let q14 := q13 = q13;
 let q15 := q14 ∧ bl = bl ∧ st = st ∧ Z1;
 let q16 := IntKind.wrap IntKind.i64 ((↑i : Int) - 2);
 let q17 := 0 + Int.toNat q16;
 let q18 := IntKind.wrap IntKind.i64 ((↑i : Int) - 7);
 let q19 := 0 + Int.toNat q18;
 let q20 := decide (q19 < 64);
 let q21 := IntKind.wrap IntKind.i64 ((↑i : Int) - 15);
 let q22 := 0 + Int.toNat q21;
 let q23 := decide (q22 < 64);
 let q24 := IntKind.wrap IntKind.i64 ((↑i : Int) - 16);
 let q25 := 0 + Int.toNat q24;
 let q26 := decide (q25 < 64);
 let q27 := List.getD m q25 0;
 let q28 := decide (q27 = q27);
 let q29 := List.getD m q22 0;
 let q30 := List.getD m q19 0;
 let q31 := decide (q30 = q30);
 let q32 := List.getD m q17 0;
 iteB (decide ((↑i : Int) < 64))
 (iteB (decide ((↑i : Int) < 16)) (iteB (decide (0 ≤ q1 ∧ q1 < 64)) (iteB (decide (q2 < 64)) (iteB (decide (0 ≤ q3 ∧ q3 < 64)) (iteB (decide (q4 < 64)) (iteB (decide (0 ≤ q5 ∧ q5 < 64)) (iteB (decide (q6 < 64)) (iteB (decide (0 ≤ q7 ∧ q7 < 64)) (iteB (decide (q8 < 64)) (iteB q9 (iteB q11 (iteB q12 (List.set m q10 (IntKind.wrap IntKind.u32 (IntKind.wrap IntKind.u32 (IntKind.wrap IntKind.u32 (shlI IntKind.u32 (IntKind.wrap IntKind.u32 (List.getD bl q2 0)) 24 + shlI IntKind.u32 (IntKind.wrap IntKind.u32 (List.getD bl q4 0)) 16) + shlI IntKind.u32 (IntKind.wrap IntKind.u32 (List.getD bl q6 0)) 8) + IntKind.wrap IntKind.u32 (List.getD bl q8 0))) = m' ∧ q15) False) False) False) False) False) False) False) False) False) False) False)
 (iteB (decide (0 ≤ q16 ∧ q16 < 64))
 (iteB (decide (q17 < 64)) (iteB (decide (0 ≤ q18 ∧ q18 < 64)) (iteB q20 (iteB (decide (0 ≤ q21 ∧ q21 < 64)) (iteB q23 (iteB (decide (0 ≤ q24 ∧ q24 < 64)) (iteB q26 (iteB q26 (iteB q28 (iteB q23 (iteB (decide (q29 = q29)) (iteB q20 (iteB q31 (iteB q26 (iteB q28 (iteB q20 (iteB q31 (iteB q9 (iteB q11 (iteB q12 (List.set m q10 (IntKind.wrap IntKind.u32 (IntKind.wrap IntKind.u32 (IntKind.wrap IntKind.u32 (bXor IntKind.u32 (bXor IntKind.u32 (bOr IntKind.u32 (shlI IntKind.u32 q32 15) (shrI IntKind.u32 q32 17)) (bOr IntKind.u32 (shlI IntKind.u32 q32 13) (shrI IntKind.u32 q32 19))) (shrI IntKind.u32 q32 10) + q30) + bXor IntKind.u32 (bXor IntKind.u32 (bOr IntKind.u32 (shlI IntKind.u32 q29 25) (shrI IntKind.u32 q29 7)) (bOr IntKind.u32 (shlI IntKind.u32 q29 14) (shrI IntKind.u32 q29 18))) (shrI IntKind.u32 q29 3)) + q27)) = m' ∧ q15) False) False) False) False) False) False) False) False) False) False) False) False) False) False) False) False) False) False) False) False) False))
 (iteB (decide ((↑i : Int) = (↑i : Int))) (m = m ∧ q14 ∧ bl = bl ∧ st = st ∧ Z2) False)) (by kernel_rfl) ?_
  conv => zeta
  try simp only [need_eq]
  try simp only [nope_eq]
  try simp only [iteD_eq]
  try simp only [iteT_eq]
  try simp only [iteF_eq]
  try simp only [iteE_eq]
  try simp only [Int.toNat_natCast, Nat.zero_add, true_and, and_true, Nat.le_refl]
  have hw : IntKind.i64.wrap ((i : Int) + 1) = ((i + 1 : Nat) : Int) := w64 (by omega)
  refine ⟨fun hlt => ⟨fun h16 => ?_, fun h16 => ?_⟩, fun hge => h2 (by omega)⟩
  · have e0 : IntKind.i64.wrap (4 * (i : Int)) = ((4 * i : Nat) : Int) := by rw [w64 (by omega)]; omega
    have e1 : IntKind.i64.wrap (((4 * i : Nat) : Int) + 1) = ((4 * i + 1 : Nat) : Int) := by rw [w64 (by omega)]; omega
    have e2 : IntKind.i64.wrap (((4 * i : Nat) : Int) + 2) = ((4 * i + 2 : Nat) : Int) := by rw [w64 (by omega)]; omega
    have e3 : IntKind.i64.wrap (((4 * i : Nat) : Int) + 3) = ((4 * i + 3 : Nat) : Int) := by rw [w64 (by omega)]; omega
    rw [if_pos (by omega)] at hm'
    simp only [e0, e1, e2, e3, hw, Int.toNat_natCast]
    repeat' (first | (refine And.intro ?_ ?_) | intro _)
    all_goals first | omega | exact hm'.symm | exact h1 (by omega) | trivial
  · have e0 : IntKind.i64.wrap ((i : Int) - 2) = ((i - 2 : Nat) : Int) := by rw [w64 (by omega)]; omega
    have e1 : IntKind.i64.wrap ((i : Int) - 7) = ((i - 7 : Nat) : Int) := by rw [w64 (by omega)]; omega
    have e2 : IntKind.i64.wrap ((i : Int) - 15) = ((i - 15 : Nat) : Int) := by rw [w64 (by omega)]; omega
    have e3 : IntKind.i64.wrap ((i : Int) - 16) = ((i - 16 : Nat) : Int) := by rw [w64 (by omega)]; omega
    rw [if_neg (by omega)] at hm'
    simp only [e0, e1, e2, e3, hw, Int.toNat_natCast]
    repeat' (first | (refine And.intro ?_ ?_) | intro _)
    all_goals first | omega | exact hm'.symm | exact h1 (by omega) | trivial
noncomputable def E54a (st bl : List Int) : Env2 := G0.withL 126 0 (goM 0 (prS st bl (List.replicate 64 0) 0) True (endsJ 0 64 9 (fun i => i < 64) (fun i => i = 64) (fun _ => False) (fun _ => False) (fun i => prS st bl (refM bl i) i) (fun i => prS st bl (refM bl i) i) (fun i => prS st bl (refM bl i) i)))
theorem E54a_ok (st bl : List Int) : (E54a st bl).Ok := by
  unfold E54a
  refine Env2.withGoM (N := 20) (S := fun i => prS st bl (refM bl i) i) G0_ok (by kernel_rfl) fun hC => ⟨rfl, fun i hi hgo => ?_⟩
  exact pr_0 st bl (refM bl i) (refM bl (i + 1)) i _ _ hi (refM_len bl i) rfl (fun h => ⟨h, h⟩) (fun h => h)
noncomputable def E54 (M P : Int → Int → Int → Int) : Env2 := (G0.withP 168 (three32 M)).withP 167 (three32 P)
theorem E54_ok : (E54 mostR pickR).Ok := Env2.withP_ok (Env2.withP_ok G0_ok (three32_ok fun a b c => by unfold mostR; exact .ev (E53m_ok a b c) (most_1 a b c _ rfl))) (three32_ok fun a b c => by unfold pickR; exact .ev (E53p_ok a b c) (pick_1 a b c _ rfl))
def stepX (M P : Int → Int → Int → Int) (k m : Int) (x : List Int) : List Int :=
  let one := IntKind.u32.wrap (IntKind.u32.wrap (IntKind.u32.wrap (IntKind.u32.wrap (x.getD 7 0 + sg3 6 11 25 (x.getD 4 0)) + P (x.getD 4 0) (x.getD 5 0) (x.getD 6 0)) + k) + m)
  [IntKind.u32.wrap (one + IntKind.u32.wrap (sg3 2 13 22 (x.getD 0 0) + M (x.getD 0 0) (x.getD 1 0) (x.getD 2 0))), x.getD 0 0, x.getD 1 0, x.getD 2 0, IntKind.u32.wrap (x.getD 3 0 + one), x.getD 4 0, x.getD 5 0, x.getD 6 0]
def refX (M P : Int → Int → Int → Int) (m st : List Int) : Nat → List Int
  | 0 => st
  | t + 1 => stepX M P (shaK.getD t 0) (m.getD t 0) (refX M P m st t)
theorem refX_succ (M P : Int → Int → Int → Int) (m st : List Int) (t : Nat) : refX M P m st (t + 1) = stepX M P (shaK.getD t 0) (m.getD t 0) (refX M P m st t) := rfl
theorem refX_zero (M P : Int → Int → Int → Int) (m st : List Int) : refX M P m st 0 = st := rfl
theorem refX_len {M P : Int → Int → Int → Int} {m st : List Int} (h : st.length = 8) : ∀ t, (refX M P m st t).length = 8
  | 0 => h
  | _ + 1 => rfl
def prT (st k m x : List Int) (i : Nat) : St := ⟨146, [(9, .int .i64 i), (8, pt 6), (7, pt 5), (5, pt 3), (2, pt 0), (4, pt 2)], ⟨7, [(6, .flat [.arr .u32 8 x]), (5, .flat [.arr .u32 64 k]), (3, .flat [.arr .u32 64 m]), (2, .flat [.arr .u32 8 [0, 0, 0, 0, 0, 0, 0, 0]]), (0, .flat [.arr .u32 8 st])]⟩, []⟩
def prU (st x : List Int) : St := ⟨146, [(8, pt 6), (2, pt 0), (4, pt 2)], ⟨7, [(6, .flat [.arr .u32 8 x]), (2, .flat [.arr .u32 8 [0, 0, 0, 0, 0, 0, 0, 0]]), (0, .flat [.arr .u32 8 st])]⟩, []⟩
set_option maxRecDepth 100000 in
set_option maxHeartbeats 0 in
theorem pr_2 (M P : Int → Int → Int → Int) (st k m x' : List Int) (x0 x1 x2 x3 x4 x5 x6 x7 : Int) (i : Nat) (Z1 Z2 : Prop) (hi : i ≤ 64) (hx : x' = stepX M P (k.getD i 0) (m.getD i 0) [x0, x1, x2, x3, x4, x5, x6, x7]) (h1 : i < 64 → Z1) (h2 : i = 64 → Z2) :
    roundE (E54 M P) 20 126 2 0 (prT st k m [x0, x1, x2, x3, x4, x5, x6, x7] i) (rdM 0 2 9 (prT st k m x' (i + 1)) (prU st [x0, x1, x2, x3, x4, x5, x6, x7]) (prU st [x0, x1, x2, x3, x4, x5, x6, x7]) (prU st [x0, x1, x2, x3, x4, x5, x6, x7]) Z1 Z2 False False) := by
  refine @Eq.mpr _ (let q1 := decide (0 ≤ (↑i : Int) ∧ (↑i : Int) < 64);
 let q2 := 0 + Int.toNat (↑i : Int);
 let q3 := decide (q2 < 64);
 let q4 := decide (q2 < 64);
 let q5 := List.getD m q2 0;
 let q6 := List.getD k q2 0;
 let q7 := IntKind.wrap IntKind.u32 (IntKind.wrap IntKind.u32 (IntKind.wrap IntKind.u32 (IntKind.wrap IntKind.u32 (x7 + bXor IntKind.u32 (bXor IntKind.u32 (bOr IntKind.u32 (shlI IntKind.u32 x4 26) (shrI IntKind.u32 x4 6)) (bOr IntKind.u32 (shlI IntKind.u32 x4 21) (shrI IntKind.u32 x4 11))) (bOr IntKind.u32 (shlI IntKind.u32 x4 7) (shrI IntKind.u32 x4 25))) + P x4 x5 x6) + q6) + q5);
 let q8 := [(0 : Int), 0, 0, 0, 0, 0, 0, 0];
 let q9 := q8 = q8;
 let q10 := [x0, x1, x2, x3, x4, x5, x6, x7];
 iteB (decide ((↑i : Int) < 64)) (iteB q1 (iteB q3 (iteB q1 (iteB q4 (iteB q4 (iteB (decide (q5 = q5)) (iteB q3 (iteB (decide (q6 = q6)) (iteB (decide (x6 = x6)) (iteB (decide (x5 = x5)) (iteB (decide (x4 = x4)) (iteB (decide (x7 = x7)) (iteB (decide (x2 = x2)) (iteB (decide (x1 = x1)) (iteB (decide (x0 = x0)) (iteB (decide (IntKind.wrap IntKind.i64 ((↑i : Int) + 1) = (↑(i + 1) : Int))) ([IntKind.wrap IntKind.u32 (q7 + IntKind.wrap IntKind.u32 (bXor IntKind.u32 (bXor IntKind.u32 (bOr IntKind.u32 (shlI IntKind.u32 x0 30) (shrI IntKind.u32 x0 2)) (bOr IntKind.u32 (shlI IntKind.u32 x0 19) (shrI IntKind.u32 x0 13))) (bOr IntKind.u32 (shlI IntKind.u32 x0 10) (shrI IntKind.u32 x0 22)) + M x0 x1 x2)), x0, x1, x2, IntKind.wrap IntKind.u32 (x3 + q7), x4, x5, x6] = x' ∧ k = k ∧ m = m ∧ q9 ∧ st = st ∧ Z1) False) False) False) False) False) False) False) False) False) False) False) False) False) False) False) False) (q10 = q10 ∧ q9 ∧ st = st ∧ Z2)) (by kernel_rfl) ?_
  conv => zeta
  try simp only [need_eq]
  try simp only [nope_eq]
  try simp only [iteD_eq]
  try simp only [iteT_eq]
  try simp only [iteF_eq]
  try simp only [iteE_eq]
  try simp only [Int.toNat_natCast, Nat.zero_add, true_and, and_true, Nat.le_refl]
  have hw : IntKind.i64.wrap ((i : Int) + 1) = ((i + 1 : Nat) : Int) := w64 (by omega)
  refine ⟨fun hlt => ?_, fun hge => h2 (by omega)⟩
  rw [hw]
  repeat' (first | (refine And.intro ?_ ?_) | intro _)
  all_goals first | omega | exact hx.symm | exact h1 (by omega) | trivial
def prV (st x : List Int) (i : Nat) : St := ⟨146, [(12, .int .i64 i), (8, pt 6), (2, pt 0), (4, pt 2)], ⟨7, [(6, .flat [.arr .u32 8 x]), (2, .flat [.arr .u32 8 [0, 0, 0, 0, 0, 0, 0, 0]]), (0, .flat [.arr .u32 8 st])]⟩, []⟩
def refA (st x : List Int) : Nat → List Int
  | 0 => x
  | i + 1 => (refA st x i).set i (IntKind.u32.wrap ((refA st x i).getD i 0 + st.getD i 0))
theorem refA_len {st x : List Int} (h : x.length = 8) : ∀ i, (refA st x i).length = 8
  | 0 => h
  | i + 1 => by simp [refA, refA_len h i]
set_option maxRecDepth 100000 in
set_option maxHeartbeats 0 in
theorem pr_4 (st x x' : List Int) (i : Nat) (Z1 Z2 : Prop) (hi : i ≤ 8) (hl : x.length = 8) (hs : st.length = 8) (hx : x' = x.set i (IntKind.u32.wrap (x.getD i 0 + st.getD i 0))) (h1 : i < 8 → Z1) (h2 : i = 8 → Z2) :
    roundE G0 20 126 4 0 (prV st x i) (rdM 0 4 9 (prV st x' (i + 1)) (prU st x) (prU st x) (prU st x) Z1 Z2 False False) := by
  refine @Eq.mpr _ (let q1 := decide (0 ≤ (↑i : Int) ∧ (↑i : Int) < 8);
 let q2 := 0 + Int.toNat (↑i : Int);
 let q3 := [(0 : Int), 0, 0, 0, 0, 0, 0, 0];
 let q4 := q3 = q3;
 iteB (decide ((↑i : Int) < 8)) (iteB q1 (iteB (decide (q2 < 8)) (iteB q1 (iteB (decide (q2 < 8)) (iteB q1 (iteB (decide (IntKind.u32 = IntKind.u32 ∧ q2 < 8 ∧ q2 < List.length x)) (iteB (decide (IntKind.wrap IntKind.i64 ((↑i : Int) + 1) = (↑(i + 1) : Int))) (List.set x q2 (IntKind.wrap IntKind.u32 (List.getD x q2 0 + List.getD st q2 0)) = x' ∧ q4 ∧ st = st ∧ Z1) False) False) False) False) False) False) False) (x = x ∧ q4 ∧ st = st ∧ Z2)) (by kernel_rfl) ?_
  conv => zeta
  try simp only [need_eq]
  try simp only [nope_eq]
  try simp only [iteD_eq]
  try simp only [iteT_eq]
  try simp only [iteF_eq]
  try simp only [iteE_eq]
  try simp only [Int.toNat_natCast, Nat.zero_add, true_and, and_true, Nat.le_refl]
  have hw : IntKind.i64.wrap ((i : Int) + 1) = ((i + 1 : Nat) : Int) := w64 (by omega)
  refine ⟨fun hlt => ?_, fun hge => h2 (by omega)⟩
  rw [hw]
  repeat' (first | (refine And.intro ?_ ?_) | intro _)
  all_goals first | omega | exact hx.symm | exact h1 (by omega) | trivial
def L54b (M P : Int → Int → Int → Int) (st m : List Int) : Nat → St → KE → Prop := goM 0 (prT st shaK m st 0) (st.length = 8) (endsJ 2 64 9 (fun i => i < 64) (fun i => i = 64) (fun _ => False) (fun _ => False) (fun i => prU st (refX M P m st i)) (fun i => prU st (refX M P m st i)) (fun i => prU st (refX M P m st i)))
theorem L54b_ok (st m : List Int) : ((E54 mostR pickR).withL 126 2 (L54b mostR pickR st m)).Ok := by
  unfold L54b
  refine Env2.withGoM (N := 20) (S := fun i => prT st shaK m (refX mostR pickR m st i) i) E54_ok (by kernel_rfl) fun hC => ⟨rfl, fun i hi hgo => ?_⟩
  obtain ⟨x0, x1, x2, x3, x4, x5, x6, x7, e⟩ := eight _ (refX_len (M := mostR) (P := pickR) (m := m) hC i)
  show roundE _ 20 126 2 0 (prT st shaK m (refX mostR pickR m st i) i) (rdM 0 2 9 (prT st shaK m (stepX mostR pickR (shaK.getD i 0) (m.getD i 0) (refX mostR pickR m st i)) (i + 1)) _ _ _ _ _ _ _)
  rw [e]
  exact pr_2 mostR pickR st shaK m _ x0 x1 x2 x3 x4 x5 x6 x7 i _ _ hi rfl (fun h => ⟨h, h⟩) (fun h => h)
def L54c (st x : List Int) : Nat → St → KE → Prop := goM 0 (prV st x 0) (st.length = 8 ∧ x.length = 8) (endsJ 4 8 9 (fun i => i < 8) (fun i => i = 8) (fun _ => False) (fun _ => False) (fun i => prU st (refA st x i)) (fun i => prU st (refA st x i)) (fun i => prU st (refA st x i)))
theorem L54c_ok (st x : List Int) : (G0.withL 126 4 (L54c st x)).Ok := by
  unfold L54c
  refine Env2.withGoM (N := 20) (S := fun i => prV st (refA st x i) i) G0_ok (by kernel_rfl) fun hC => ⟨rfl, fun i hi hgo => ?_⟩
  exact pr_4 st (refA st x i) (refA st x (i + 1)) i _ _ hi (refA_len hC.2 i) hC.1 rfl (fun h => ⟨h, h⟩) (fun h => h)
noncomputable def E54d (M P : Int → Int → Int → Int) (st bl m x : List Int) : Env2 := ((E54a st bl).withL 126 2 (L54b M P st m)).withL 126 4 (L54c st x)
theorem E54d_ok (st bl m x : List Int) : (E54d mostR pickR st bl m x).Ok := by
  unfold E54d
  exact Env2.withL_join (H := G0) (Env2.withL_join (H := E54 mostR pickR) (E54a_ok st bl) rfl (L54b_ok st m)) rfl (L54c_ok st x)
@[irreducible] def refPress (st bl : List Int) : List Int := refA st (refX mostR pickR (refM bl 64) st 64) 8
attribute [irreducible] refM refX refA
set_option maxRecDepth 100000 in
set_option maxHeartbeats 0 in
theorem pr_t (M P : Int → Int → Int → Int) (st bl m x r : List Int) (hst : st.length = 8) (hm : m = refM bl 64) (hx : x = refX M P m st 64) (hr : r = refA st x 8) :
    evF (E54d M P st bl m x) 20 126 [.agg [.arr .u32 8 st], .agg [.arr .u8 64 bl]] ⟨0, []⟩ (outK 0 [] (.agg [.arr .u32 8 r]) 0 []) := by
  refine @Eq.mpr _ ((0 : Int) :: (0 : Int) :: (0 : Int) :: (0 : Int) :: (0 : Int) :: (0 : Int) :: (0 : Int) :: (0 : Int) :: (0 : Int) :: (0 : Int) :: (0 : Int) :: (0 : Int) :: (0 : Int) :: (0 : Int) :: (0 : Int) :: (0 : Int) :: (0 : Int) :: (0 : Int) :: (0 : Int) :: (0 : Int) :: (0 : Int) :: (0 : Int) :: (0 : Int) :: (0 : Int) :: (0 : Int) :: (0 : Int) :: (0 : Int) :: (0 : Int) :: (0 : Int) :: (0 : Int) :: (0 : Int) :: (0 : Int) :: zero32 = (0 : Int) :: (0 : Int) :: (0 : Int) :: (0 : Int) :: (0 : Int) :: (0 : Int) :: (0 : Int) :: (0 : Int) :: (0 : Int) :: (0 : Int) :: (0 : Int) :: (0 : Int) :: (0 : Int) :: (0 : Int) :: (0 : Int) :: (0 : Int) :: (0 : Int) :: (0 : Int) :: (0 : Int) :: (0 : Int) :: (0 : Int) :: (0 : Int) :: (0 : Int) :: (0 : Int) :: (0 : Int) :: (0 : Int) :: (0 : Int) :: (0 : Int) :: (0 : Int) :: (0 : Int) :: (0 : Int) :: (0 : Int) :: zero32 ∧
 [(0 : Int), (0 : Int), (0 : Int), (0 : Int), (0 : Int), (0 : Int), (0 : Int), (0 : Int)] = [(0 : Int), (0 : Int), (0 : Int), (0 : Int), (0 : Int), (0 : Int), (0 : Int), (0 : Int)] ∧
 bl = bl ∧
 st = st ∧
 True ∧
 ∀ (i : Nat),
 i ≤ (64 : Nat) →
 (∀ (j : Nat), j < i → (fun (i : Nat) => i < (64 : Nat)) j) →
 (i = (64 : Nat) →
 st = st ∧
 [(1116352408 : Int), (1899447441 : Int), (3049323471 : Int), (3921009573 : Int), (961987163 : Int), (1508970993 : Int), (2453635748 : Int), (2870763221 : Int), (3624381080 : Int), (310598401 : Int), (607225278 : Int), (1426881987 : Int), (1925078388 : Int), (2162078206 : Int), (2614888103 : Int), (3248222580 : Int), (3835390401 : Int), (4022224774 : Int), (264347078 : Int), (604807628 : Int), (770255983 : Int), (1249150122 : Int), (1555081692 : Int), (1996064986 : Int), (2554220882 : Int), (2821834349 : Int), (2952996808 : Int), (3210313671 : Int), (3336571891 : Int), (3584528711 : Int), (113926993 : Int), (338241895 : Int), (666307205 : Int), (773529912 : Int), (1294757372 : Int), (1396182291 : Int), (1695183700 : Int), (1986661051 : Int), (2177026350 : Int), (2456956037 : Int), (2730485921 : Int), (2820302411 : Int), (3259730800 : Int), (3345764771 : Int), (3516065817 : Int), (3600352804 : Int), (4094571909 : Int), (275423344 : Int), (430227734 : Int), (506948616 : Int),
 (659060556 : Int), (883997877 : Int), (958139571 : Int), (1322822218 : Int), (1537002063 : Int), (1747873779 : Int), (1955562222 : Int), (2024104815 : Int), (2227730452 : Int), (2361852424 : Int), (2428436474 : Int), (2756734187 : Int), (3204031479 : Int), (3329325298 : Int)] =
 shaK ∧
 refM bl i = m ∧
 [(0 : Int), (0 : Int), (0 : Int), (0 : Int), (0 : Int), (0 : Int), (0 : Int), (0 : Int)] = [(0 : Int), (0 : Int), (0 : Int), (0 : Int), (0 : Int), (0 : Int), (0 : Int), (0 : Int)] ∧ st = st ∧ List.length st = (8 : Nat) ∧ ∀ (i : Nat), i ≤ (64 : Nat) → (∀ (j : Nat), j < i → (fun (i : Nat) => i < (64 : Nat)) j) → (i = (64 : Nat) → refX M P m st i = x ∧ [(0 : Int), (0 : Int), (0 : Int), (0 : Int), (0 : Int), (0 : Int), (0 : Int), (0 : Int)] = [(0 : Int), (0 : Int), (0 : Int), (0 : Int), (0 : Int), (0 : Int), (0 : Int), (0 : Int)] ∧ st = st ∧ (List.length st = (8 : Nat) ∧ List.length x = (8 : Nat)) ∧ ∀ (i : Nat), i ≤ (8 : Nat) → (∀ (j : Nat), j < i → (fun (i : Nat) => i < (8 : Nat)) j) → (i = (8 : Nat) → refA st x i = r ∧ True) ∧ (False → [(0 : Int), (0 : Int), (0 : Int), (0 : Int), (0 : Int), (0 : Int), (0 : Int), (0 : Int)] = r ∧ True) ∧ (False → False)) ∧ (False → [(0 : Int), (0 : Int), (0 : Int), (0 : Int), (0 : Int), (0 : Int), (0 : Int), (0 : Int)] = r ∧ True) ∧ (False → False)) ∧
 (False → [(0 : Int), (0 : Int), (0 : Int), (0 : Int), (0 : Int), (0 : Int), (0 : Int), (0 : Int)] = r ∧ True) ∧ (False → False)) (by kernel_rfl) ?_
  try simp only [need_eq]
  try simp only [nope_eq]
  try simp only [iteD_eq]
  try simp only [iteT_eq]
  try simp only [iteF_eq]
  try simp only [iteE_eq]
  try simp only [Int.toNat_natCast, Nat.zero_add, true_and, and_true, Nat.le_refl]
  subst hm
  have hl : x.length = 8 := by rw [hx]; exact refX_len hst _
  exact fun i _ _ => ⟨fun he => ⟨by kernel_rfl, by rw [he], hst, fun j _ _ => ⟨fun hj => ⟨by rw [hj, hx], ⟨hst, hl⟩, fun q _ _ => ⟨fun hq => by rw [hq, hr], fun h => h.elim, fun h => h⟩⟩, fun h => h.elim, fun h => h⟩⟩, fun h => h.elim, fun h => h⟩
theorem pressr_pure (st bl : List Int) (h : st.length = 8) : Pure PP 126 [.agg [.arr .u32 8 st], .agg [.arr .u8 64 bl]] (.agg [.arr .u32 8 (refPress st bl)]) 0 [] := by
  unfold refPress
  exact .ev (E54d_ok st bl _ _) (pr_t mostR pickR st bl _ _ _ h rfl rfl rfl)
theorem refPress_len {st bl : List Int} (h : st.length = 8) : (refPress st bl).length = 8 := by unfold refPress; exact refA_len (refX_len h _) _
end Go.Tk
end
section
namespace Go.Tk
def U32 (x : Int) : Prop := 0 ≤ x ∧ x < 4294967296
theorem wr32 (x : Int) : IntKind.u32.wrap x = x % 4294967296 := by
  unfold IntKind.wrap
  simp [IntKind.bits, IntKind.signed]
theorem wr32_U (x : Int) : U32 (IntKind.u32.wrap x) := by rw [wr32]; unfold U32; omega
theorem wr32_id {x : Int} (h : U32 x) : IntKind.u32.wrap x = x := by rw [wr32]; unfold U32 at h; omega
theorem wr8 (x : Int) : IntKind.u8.wrap x = x % 256 := by
  unfold IntKind.wrap
  simp [IntKind.bits, IntKind.signed]
theorem bXor_U (x y : Int) : U32 (bXor .u32 x y) := wr32_U _
theorem bOr_U (x y : Int) : U32 (bOr .u32 x y) := wr32_U _
theorem bAnd_U (x y : Int) : U32 (bAnd .u32 x y) := wr32_U _
theorem bXor_nat (x y : Nat) (hx : x < 4294967296) (hy : y < 4294967296) : bXor .u32 x y = ((x ^^^ y : Nat) : Int) := by
  unfold bXor
  rw [wr32_id]
  · show (((BitVec.ofInt 32 (x : Int) ^^^ BitVec.ofInt 32 (y : Int)).toNat : Nat) : Int) = _
    rw [BitVec.toNat_xor, BitVec.ofInt_natCast, BitVec.ofInt_natCast, BitVec.toNat_ofNat, BitVec.toNat_ofNat, Nat.mod_eq_of_lt hx, Nat.mod_eq_of_lt hy]
  · unfold U32
    have := (BitVec.ofInt IntKind.u32.bits x ^^^ BitVec.ofInt IntKind.u32.bits y).isLt
    simp only [IntKind.bits] at this
    simp only [IntKind.bits]
    omega
theorem bOr_nat (x y : Nat) (hx : x < 4294967296) (hy : y < 4294967296) : bOr .u32 x y = ((x ||| y : Nat) : Int) := by
  unfold bOr
  rw [wr32_id]
  · show (((BitVec.ofInt 32 (x : Int) ||| BitVec.ofInt 32 (y : Int)).toNat : Nat) : Int) = _
    rw [BitVec.toNat_or, BitVec.ofInt_natCast, BitVec.ofInt_natCast, BitVec.toNat_ofNat, BitVec.toNat_ofNat, Nat.mod_eq_of_lt hx, Nat.mod_eq_of_lt hy]
  · unfold U32
    have := (BitVec.ofInt IntKind.u32.bits x ||| BitVec.ofInt IntKind.u32.bits y).isLt
    simp only [IntKind.bits] at this
    simp only [IntKind.bits]
    omega
theorem bAnd_nat (x y : Nat) (hx : x < 4294967296) (hy : y < 4294967296) : bAnd .u32 x y = ((x &&& y : Nat) : Int) := by
  unfold bAnd
  rw [wr32_id]
  · show (((BitVec.ofInt 32 (x : Int) &&& BitVec.ofInt 32 (y : Int)).toNat : Nat) : Int) = _
    rw [BitVec.toNat_and, BitVec.ofInt_natCast, BitVec.ofInt_natCast, BitVec.toNat_ofNat, BitVec.toNat_ofNat, Nat.mod_eq_of_lt hx, Nat.mod_eq_of_lt hy]
  · unfold U32
    have := (BitVec.ofInt IntKind.u32.bits x &&& BitVec.ofInt IntKind.u32.bits y).isLt
    simp only [IntKind.bits] at this
    simp only [IntKind.bits]
    omega
theorem U32.nat {x : Int} (h : U32 x) : ∃ n : Nat, x = n ∧ n < 4294967296 := ⟨x.toNat, by unfold U32 at h; omega, by unfold U32 at h; omega⟩
theorem U32.of {n : Nat} (h : n < 4294967296) : U32 (n : Int) := by unfold U32; omega
theorem bXor_comm {x y : Int} : bXor .u32 x y = bXor .u32 y x := by unfold bXor; rw [BitVec.xor_comm]
theorem bXor_assoc {x y z : Int} (hx : U32 x) (hy : U32 y) (hz : U32 z) : bXor .u32 (bXor .u32 x y) z = bXor .u32 x (bXor .u32 y z) := by
  obtain ⟨x, rfl, gx⟩ := hx.nat
  obtain ⟨y, rfl, gy⟩ := hy.nat
  obtain ⟨z, rfl, gz⟩ := hz.nat
  rw [bXor_nat x y gx gy, bXor_nat y z gy gz, bXor_nat _ z (Nat.xor_lt_two_pow (n := 32) gx gy) gz, bXor_nat x _ gx (Nat.xor_lt_two_pow (n := 32) gy gz), Nat.xor_assoc]
theorem bXor_zero {x : Int} (hx : U32 x) : bXor .u32 0 x = x := by
  obtain ⟨x, rfl, gx⟩ := hx.nat
  have := bXor_nat 0 x (by omega) gx
  simpa using this
theorem shr_nat (x n : Nat) (hn : n ≤ 32) : shrI .u32 x n = ((x / 2 ^ n : Nat) : Int) := by
  unfold shrI
  have : min (n : Int).toNat IntKind.u32.bits = n := by simp [IntKind.bits]; omega
  rw [this, Int.fdiv_eq_ediv_of_nonneg _ (Int.le_of_lt (Int.pow_pos (by decide)))]
  simp
theorem shr_U {x : Int} (hx : U32 x) (n : Nat) (hn : n ≤ 32) : U32 (shrI .u32 x n) := by
  obtain ⟨x, rfl, gx⟩ := hx.nat
  rw [shr_nat x n hn]
  exact U32.of (Nat.lt_of_le_of_lt (Nat.div_le_self x (2 ^ n)) gx)
theorem rotI_U (w n : Int) : U32 (rotI w n) := bOr_U _ _
theorem sg3_sig {w : Int} (hw : U32 w) (a b c : Int) : sg3 a b c w = sigI 32 [a, b, c] w := by
  obtain ⟨x, rfl, gx⟩ := hw.nat
  have h0 : shrI .u32 (x : Int) 32 = 0 := by
    rw [show (32 : Int) = ((32 : Nat) : Int) from rfl, shr_nat x 32 (by omega), Nat.div_eq_of_lt gx]
    rfl
  unfold sg3 sigI
  simp only [List.foldl_cons, List.foldl_nil, h0, bXor_zero (rotI_U _ _)]
theorem rg3_sig {w : Int} (hw : U32 w) (a b : Int) (n : Nat) (hn : n ≤ 32) : rg3 a b n w = sigI n [a, b] w := by
  have hs := shr_U hw n hn
  unfold rg3 sigI
  simp only [List.foldl_cons, List.foldl_nil]
  rw [bXor_comm, bXor_assoc hs (rotI_U _ _) (rotI_U _ _)]
theorem div_tmod2 (x i : Nat) (hi : i ≤ 32) : Int.tmod (shrI .u32 x i) 2 = (((x.testBit i).toNat : Nat) : Int) := by
  rw [shr_nat x i hi]
  rw [Int.tmod_eq_emod_of_nonneg (Int.natCast_nonneg _), Nat.toNat_testBit]
  rfl
theorem shl_bit (b : Bool) (i : Nat) (hi : i < 32) : shlI .u32 ((b.toNat : Nat) : Int) i = ((2 ^ i * b.toNat : Nat) : Int) := by
  unfold shlI
  have : min (i : Int).toNat IntKind.u32.bits = i := by simp [IntKind.bits]; omega
  rw [this]
  have h2 : (2 : Nat) ^ i < 2 ^ 32 := Nat.pow_lt_pow_right (by decide) hi
  have h3 : ((2 : Nat) ^ i * b.toNat) < 4294967296 := by cases b <;> simp_all
  rw [show ((b.toNat : Nat) : Int) * 2 ^ i = ((2 ^ i * b.toNat : Nat) : Int) by push_cast; rw [Int.mul_comm]]
  exact wr32_id (U32.of h3)
theorem mod_bit (x i : Nat) : x % 2 ^ (i + 1) = x % 2 ^ i + 2 ^ i * (x.testBit i).toNat := by
  rw [Nat.toNat_testBit, Nat.mod_pow_succ]
theorem add_bit (x i : Nat) (hx : x < 4294967296) (hi : i < 32) : IntKind.u32.wrap (((x % 2 ^ i : Nat) : Int) + ((2 ^ i * (x.testBit i).toNat : Nat) : Int)) = ((x % 2 ^ (i + 1) : Nat) : Int) := by
  rw [mod_bit]
  rw [wr32_id]
  · push_cast; rfl
  · rw [show ((x % 2 ^ i : Nat) : Int) + ((2 ^ i * (x.testBit i).toNat : Nat) : Int) = ((x % 2 ^ i + 2 ^ i * (x.testBit i).toNat : Nat) : Int) by push_cast; rfl, ← mod_bit]
    exact U32.of (Nat.lt_of_le_of_lt (Nat.mod_le _ _) hx)
theorem most_bits (a b c : Nat) (ha : a < 4294967296) (hb : b < 4294967296) (hc : c < 4294967296) : ∀ i, i ≤ 32 → mostO a b c i = (((a &&& (b ||| c) ||| b &&& c) % 2 ^ i : Nat) : Int)
  | 0, _ => by simp [mostO, Nat.mod_one]
  | i + 1, hi => by
    have hm : (a &&& (b ||| c) ||| b &&& c) < 4294967296 := Nat.or_lt_two_pow (n := 32) (Nat.lt_of_le_of_lt Nat.and_le_left ha) (Nat.lt_of_le_of_lt Nat.and_le_left hb)
    rw [mostO, most_bits a b c ha hb hc i (by omega), div_tmod2 a i (by omega), div_tmod2 b i (by omega), div_tmod2 c i (by omega), ← add_bit _ i hm (by omega)]
    have ht : (a &&& (b ||| c) ||| b &&& c).testBit i = (a.testBit i && (b.testBit i || c.testBit i) || b.testBit i && c.testBit i) := by simp
    rw [ht]
    have h1 := shl_bit true i (by omega)
    have hx : IntKind.u32.wrap (((a &&& (b ||| c) ||| b &&& c) % 2 ^ i : Nat) : Int) = (((a &&& (b ||| c) ||| b &&& c) % 2 ^ i : Nat) : Int) := wr32_id (U32.of (Nat.lt_of_le_of_lt (Nat.mod_le _ _) hm))
    rw [wr32, wr32]
    cases a.testBit i <;> cases b.testBit i <;> cases c.testBit i <;> simp at h1 hx ⊢ <;> first | rw [h1] | rw [hx]
theorem most_eq {a b c : Int} (ha : U32 a) (hb : U32 b) (hc : U32 c) : mostR a b c = bOr .u32 (bAnd .u32 a (bOr .u32 b c)) (bAnd .u32 b c) := by
  obtain ⟨a, rfl, ga⟩ := ha.nat
  obtain ⟨b, rfl, gb⟩ := hb.nat
  obtain ⟨c, rfl, gc⟩ := hc.nat
  have h1 := Nat.or_lt_two_pow (n := 32) gb gc
  have h2 : a &&& (b ||| c) < 4294967296 := Nat.lt_of_le_of_lt Nat.and_le_left ga
  have h3 : b &&& c < 4294967296 := Nat.lt_of_le_of_lt Nat.and_le_left gb
  rw [bOr_nat b c gb gc, bAnd_nat a _ ga h1, bAnd_nat b c gb gc, bOr_nat _ _ h2 h3]
  unfold mostR
  rw [most_bits a b c ga gb gc 32 (by omega), Nat.mod_eq_of_lt]
  exact Nat.or_lt_two_pow (n := 32) h2 h3
theorem pick_bits (a b c : Nat) (ha : a < 4294967296) (hb : b < 4294967296) (hc : c < 4294967296) : ∀ i, i ≤ 32 → pickO a b c i = (((c ^^^ (a &&& (b ^^^ c))) % 2 ^ i : Nat) : Int)
  | 0, _ => by simp [pickO, Nat.mod_one]
  | i + 1, hi => by
    have hm : (c ^^^ (a &&& (b ^^^ c))) < 4294967296 := Nat.xor_lt_two_pow (n := 32) hc (Nat.lt_of_le_of_lt Nat.and_le_left ha)
    rw [pickO, pick_bits a b c ha hb hc i (by omega), div_tmod2 a i (by omega), div_tmod2 b i (by omega), div_tmod2 c i (by omega), ← add_bit _ i hm (by omega)]
    have ht : (c ^^^ (a &&& (b ^^^ c))).testBit i = (c.testBit i ^^ (a.testBit i && (b.testBit i ^^ c.testBit i))) := by simp
    rw [ht]
    have h1 := shl_bit true i (by omega)
    have h0 := shl_bit false i (by omega)
    cases a.testBit i <;> cases b.testBit i <;> cases c.testBit i <;> simp at h1 h0 ⊢ <;> first | rw [h1] | rw [h0, Int.add_zero]
theorem pick_eq {a b c : Int} (ha : U32 a) (hb : U32 b) (hc : U32 c) : pickR a b c = bXor .u32 c (bAnd .u32 a (bXor .u32 b c)) := by
  obtain ⟨a, rfl, ga⟩ := ha.nat
  obtain ⟨b, rfl, gb⟩ := hb.nat
  obtain ⟨c, rfl, gc⟩ := hc.nat
  have h1 := Nat.xor_lt_two_pow (n := 32) gb gc
  have h2 : a &&& (b ^^^ c) < 4294967296 := Nat.lt_of_le_of_lt Nat.and_le_left ga
  rw [bXor_nat b c gb gc, bAnd_nat a _ ga h1, bXor_nat _ _ gc h2]
  unfold pickR
  rw [pick_bits a b c ga gb gc 32 (by omega), Nat.mod_eq_of_lt]
  exact Nat.xor_lt_two_pow (n := 32) gc h2
theorem refM_succ (bl : List Int) (t : Nat) : refM bl (t + 1) = (refM bl t).set t (if t < 16 then refB bl t else refW (refM bl t) t) := by rw [refM]
theorem refM_keep (bl : List Int) (s t : Nat) (hs : s < t) : ∀ u, (refM bl (t + u)).getD s 0 = (refM bl t).getD s 0
  | 0 => rfl
  | u + 1 => by
    rw [← Nat.add_assoc, refM_succ, ← refM_keep bl s t hs u]
    simp only [List.getD_eq_getElem?_getD]
    rw [List.getElem?_set_ne (by omega)]
@[irreducible] def schW (bl : List Int) (t : Nat) : Int := (refM bl 64).getD t 0
theorem schW_of (bl : List Int) {s t : Nat} (hs : s < t) (ht : t ≤ 64) : (refM bl t).getD s 0 = schW bl s := by
  unfold schW
  have := refM_keep bl s t hs (64 - t)
  rw [show t + (64 - t) = 64 by omega] at this
  exact this.symm
theorem schW_eq (bl : List Int) {t : Nat} (ht : t < 64) : schW bl t = if t < 16 then refB bl t else refW (refM bl t) t := by
  rw [← schW_of bl (Nat.lt_succ_self t) (by omega), refM_succ]
  simp only [List.getD_eq_getElem?_getD]
  rw [List.getElem?_set_self (by rw [refM_len]; omega)]
  rfl
theorem schW_lo (bl : List Int) {t : Nat} (ht : t < 16) : schW bl t = refB bl t := by rw [schW_eq bl (by omega), if_pos ht]
theorem schW_hi (bl : List Int) {t : Nat} (h16 : 16 ≤ t) (ht : t < 64) : schW bl t = IntKind.u32.wrap (IntKind.u32.wrap (IntKind.u32.wrap (rg3 17 19 10 (schW bl (t - 2)) + schW bl (t - 7)) + rg3 7 18 3 (schW bl (t - 15))) + schW bl (t - 16)) := by
  rw [schW_eq bl (by omega), if_neg (by omega)]
  unfold refW
  rw [schW_of bl (by omega) (by omega), schW_of bl (by omega) (by omega), schW_of bl (by omega) (by omega), schW_of bl (by omega) (by omega)]
theorem schW_U (bl : List Int) {t : Nat} (ht : t < 64) : U32 (schW bl t) := by
  by_cases h : t < 16
  · rw [schW_lo bl h]; exact wr32_U _
  · rw [schW_hi bl (by omega) ht]; exact wr32_U _
theorem mAt_nat (t : Nat) : mAt (t : Int) = t % 16 := by
  unfold mAt
  rw [tm (by omega)]
  omega
theorem atI_nat (i t : Nat) (hi : i < 8) (ht : t ≤ 64) : atI (i : Int) (t : Int) = (i + 64 - t) % 8 := by
  unfold atI
  rw [w64 (x := (i : Int) + 64) (by omega), w64 (by omega), tm (by omega)]
  omega
theorem getD_set (l : List Int) (i j : Nat) (x : Int) (hi : i < l.length) : (l.set i x).getD j 0 = if i = j then x else l.getD j 0 := by
  simp only [List.getD_eq_getElem?_getD]
  by_cases h : i = j
  · subst h
    rw [List.getElem?_set_self hi, if_pos rfl]; rfl
  · rw [List.getElem?_set_ne h, if_neg h]
def Ring (bl r : List Int) (t : Nat) : Prop := r.length = 16 ∧ ∀ s, s < max 16 t → max 16 t ≤ s + 16 → r.getD (s % 16) 0 = schW bl s
theorem Ring.step {bl r : List Int} {t : Nat} (h : Ring bl r t) (ht : t < 64) : Ring bl (shaM t r) (t + 1) := by
  obtain ⟨hl, hr⟩ := h
  refine ⟨by rw [shaM_len, hl], fun s h1 h2 => ?_⟩
  unfold shaM
  by_cases h16 : t < 16
  · rw [if_neg (by omega)]
    exact hr s (by omega) (by omega)
  · rw [if_pos (by omega)]
    have w1 : IntKind.i64.wrap ((t : Int) + 1) = ((t + 1 : Nat) : Int) := by rw [w64 (by omega)]; omega
    have w9 : IntKind.i64.wrap ((t : Int) + 9) = ((t + 9 : Nat) : Int) := by rw [w64 (by omega)]; omega
    have w14 : IntKind.i64.wrap ((t : Int) + 14) = ((t + 14 : Nat) : Int) := by rw [w64 (by omega)]; omega
    have r0 := hr (t - 16) (by omega) (by omega)
    have r1 := hr (t - 15) (by omega) (by omega)
    have r9 := hr (t - 7) (by omega) (by omega)
    have r14 := hr (t - 2) (by omega) (by omega)
    rw [show (t - 16) % 16 = t % 16 by omega] at r0
    rw [show (t - 15) % 16 = (t + 1) % 16 by omega] at r1
    rw [show (t - 7) % 16 = (t + 9) % 16 by omega] at r9
    rw [show (t - 2) % 16 = (t + 14) % 16 by omega] at r14
    rw [w1, w9, w14, mAt_nat, mAt_nat, mAt_nat, mAt_nat, r0, r1, r9, r14, getD_set _ _ _ _ (by rw [hl]; omega)]
    by_cases hs : s = t
    · subst hs
      rw [if_pos rfl, schW_hi bl (by omega) ht]
      have e1 := rg3_sig (schW_U bl (t := s - 2) (by omega)) 17 19 10 (by omega)
      have e2 := rg3_sig (schW_U bl (t := s - 15) (by omega)) 7 18 3 (by omega)
      rw [show ((10 : Nat) : Int) = 10 from rfl] at e1
      rw [show ((3 : Nat) : Int) = 3 from rfl] at e2
      rw [e1, e2]
      simp only [wr32]
      omega
    · rw [if_neg (by omega)]
      exact hr s (by omega) (by omega)
def U8 (x : Int) : Prop := 0 ≤ x ∧ x < 256
theorem shlI_32 (x n : Nat) (hn : n ≤ 32) (h : x * 2 ^ n < 4294967296) : shlI .u32 x n = ((x * 2 ^ n : Nat) : Int) := by
  unfold shlI
  have : min (n : Int).toNat IntKind.u32.bits = n := by simp [IntKind.bits]; omega
  rw [this, show (x : Int) * 2 ^ n = ((x * 2 ^ n : Nat) : Int) by push_cast; rfl]
  exact wr32_id (U32.of h)
theorem or_shl8 (x y : Nat) (hx : x < 16777216) (hy : y < 256) : bOr .u32 (shlI .u32 x 8) y = ((x * 256 + y : Nat) : Int) := by
  have := shlI_32 x 8 (by omega) (by omega)
  rw [show ((8 : Nat) : Int) = 8 from rfl] at this
  rw [this, bOr_nat _ _ (by omega) (by omega), ← Nat.shiftLeft_eq, ← Nat.shiftLeft_add_eq_or_of_lt (by omega), Nat.shiftLeft_eq]
theorem getD_all {P : Int → Prop} {l : List Int} (h : ∀ x ∈ l, P x) (h0 : P 0) (i : Nat) : P (l.getD i 0) := by
  rw [List.getD_eq_getElem?_getD]
  cases hg : l[i]? with
  | none => exact h0
  | some x => exact h x (List.mem_of_getElem? hg)
theorem U8.nat {x : Int} (h : U8 x) : ∃ n : Nat, x = n ∧ n < 256 := ⟨x.toNat, by unfold U8 at h; omega, by unfold U8 at h; omega⟩
theorem word_eq (bl : List Int) (hb : ∀ x ∈ bl, U8 x) (t : Nat) : word4 bl (4 * t) = refB bl t := by
  unfold word4 refB
  obtain ⟨a, ea, ha⟩ := (getD_all (P := U8) hb (by unfold U8; omega) (4 * t)).nat
  obtain ⟨b, eb, hb'⟩ := (getD_all (P := U8) hb (by unfold U8; omega) (4 * t + 1)).nat
  obtain ⟨c, ec, hc⟩ := (getD_all (P := U8) hb (by unfold U8; omega) (4 * t + 2)).nat
  obtain ⟨d, ed, hd⟩ := (getD_all (P := U8) hb (by unfold U8; omega) (4 * t + 3)).nat
  rw [ea, eb, ec, ed]
  rw [wr32_id (x := (a : Int)) (U32.of (by omega)), wr32_id (x := (b : Int)) (U32.of (by omega)), wr32_id (x := (c : Int)) (U32.of (by omega)), wr32_id (x := (d : Int)) (U32.of (by omega))]
  have z := or_shl8 0 a (by omega) ha
  have s0 : shlI .u32 0 8 = 0 := by decide
  rw [show shlI .u32 ((0 : Nat) : Int) 8 = 0 from s0] at z
  rw [z, or_shl8 _ b (by omega) hb', or_shl8 _ c (by omega) hc, or_shl8 _ d (by omega) hd]
  have g1 := shlI_32 a 24 (by omega) (by omega)
  have g2 := shlI_32 b 16 (by omega) (by omega)
  have g3 := shlI_32 c 8 (by omega) (by omega)
  rw [show ((24 : Nat) : Int) = 24 from rfl] at g1
  rw [show ((16 : Nat) : Int) = 16 from rfl] at g2
  rw [show ((8 : Nat) : Int) = 8 from rfl] at g3
  rw [g1, g2, g3]
  simp only [wr32]
  omega
theorem Ring.first (bl : List Int) (hb : ∀ x ∈ bl, U8 x) : Ring bl (words4 bl) 0 := by
  refine ⟨rfl, fun s h1 _ => ?_⟩
  have h16 : s < 16 := by omega
  rw [schW_lo bl h16, ← word_eq bl hb, Nat.mod_eq_of_lt h16]
  have : s = 0 ∨ s = 1 ∨ s = 2 ∨ s = 3 ∨ s = 4 ∨ s = 5 ∨ s = 6 ∨ s = 7 ∨ s = 8 ∨ s = 9 ∨ s = 10 ∨ s = 11 ∨ s = 12 ∨ s = 13 ∨ s = 14 ∨ s = 15 := by omega
  rcases this with rfl | rfl | rfl | rfl | rfl | rfl | rfl | rfl | rfl | rfl | rfl | rfl | rfl | rfl | rfl | rfl <;> rfl
def Turned (x y : List Int) (t : Nat) : Prop := x.length = 8 ∧ ∀ i, i < 8 → x.getD ((i + 64 - t) % 8) 0 = y.getD i 0
theorem Turned.step {x y m : List Int} {w : Int} {t : Nat} (h : Turned x y t) (hU : ∀ i, i < 8 → U32 (y.getD i 0)) (ht : t < 64) (hm : m.getD (t % 16) 0 = w) :
    Turned (shaX t m x) (stepX mostR pickR (shaK.getD t 0) w y) (t + 1) := by
  obtain ⟨hl, hr⟩ := h
  have a0 := atI_nat 0 t (by omega) (by omega)
  have a1 := atI_nat 1 t (by omega) (by omega)
  have a2 := atI_nat 2 t (by omega) (by omega)
  have a3 := atI_nat 3 t (by omega) (by omega)
  have a4 := atI_nat 4 t (by omega) (by omega)
  have a5 := atI_nat 5 t (by omega) (by omega)
  have a6 := atI_nat 6 t (by omega) (by omega)
  have a7 := atI_nat 7 t (by omega) (by omega)
  have h0 := hr 0 (by omega)
  have h1 := hr 1 (by omega)
  have h2 := hr 2 (by omega)
  have h3 := hr 3 (by omega)
  have h4 := hr 4 (by omega)
  have h5 := hr 5 (by omega)
  have h6 := hr 6 (by omega)
  have h7 := hr 7 (by omega)
  rw [← a0] at h0
  rw [← a1] at h1
  rw [← a2] at h2
  rw [← a3] at h3
  rw [← a4] at h4
  rw [← a5] at h5
  rw [← a6] at h6
  rw [← a7] at h7
  refine ⟨by rw [shaX_len, hl], ?_⟩
  have hadd : shaAdd t m x = IntKind.u32.wrap (IntKind.u32.wrap (IntKind.u32.wrap (IntKind.u32.wrap (y.getD 7 0 + sg3 6 11 25 (y.getD 4 0)) + pickR (y.getD 4 0) (y.getD 5 0) (y.getD 6 0)) + shaK.getD t 0) + w) := by
    unfold shaAdd
    rw [mAt_nat, hm]
    rw [show atI 7 (t : Int) = atI ((7 : Nat) : Int) t from rfl, show atI 4 (t : Int) = atI ((4 : Nat) : Int) t from rfl, show atI 5 (t : Int) = atI ((5 : Nat) : Int) t from rfl, show atI 6 (t : Int) = atI ((6 : Nat) : Int) t from rfl]
    rw [h4, h5, h6, h7, sg3_sig (hU 4 (by omega)), pick_eq (hU 4 (by omega)) (hU 5 (by omega)) (hU 6 (by omega))]
    rw [Nat.zero_add, Int.toNat_natCast]
  unfold shaX
  rw [hadd]
  rw [show atI 7 (t : Int) = atI ((7 : Nat) : Int) t from rfl, show atI 3 (t : Int) = atI ((3 : Nat) : Int) t from rfl, show atI 0 (t : Int) = atI ((0 : Nat) : Int) t from rfl, show atI 1 (t : Int) = atI ((1 : Nat) : Int) t from rfl, show atI 2 (t : Int) = atI ((2 : Nat) : Int) t from rfl]
  rw [h0, h1, h2, h3, ← most_eq (hU 0 (by omega)) (hU 1 (by omega)) (hU 2 (by omega)), ← sg3_sig (hU 0 (by omega)), a3, a7]
  intro i hi
  rw [getD_set _ _ _ _ (by rw [List.length_set, hl]; omega), getD_set _ _ _ _ (by rw [hl]; omega)]
  unfold stepX
  have : i = 0 ∨ i = 1 ∨ i = 2 ∨ i = 3 ∨ i = 4 ∨ i = 5 ∨ i = 6 ∨ i = 7 := by omega
  rcases this with rfl | rfl | rfl | rfl | rfl | rfl | rfl | rfl
  · rw [if_pos (by omega)]
    simp only [wr32, List.getD_cons_zero]
    omega
  · rw [if_neg (by omega), if_neg (by omega), show (1 + 64 - (t + 1)) % 8 = (0 + 64 - t) % 8 by omega, hr 0 (by omega)]; rfl
  · rw [if_neg (by omega), if_neg (by omega), show (2 + 64 - (t + 1)) % 8 = (1 + 64 - t) % 8 by omega, hr 1 (by omega)]; rfl
  · rw [if_neg (by omega), if_neg (by omega), show (3 + 64 - (t + 1)) % 8 = (2 + 64 - t) % 8 by omega, hr 2 (by omega)]; rfl
  · rw [if_neg (by omega), if_pos (by omega)]; rfl
  · rw [if_neg (by omega), if_neg (by omega), show (5 + 64 - (t + 1)) % 8 = (4 + 64 - t) % 8 by omega, hr 4 (by omega)]; rfl
  · rw [if_neg (by omega), if_neg (by omega), show (6 + 64 - (t + 1)) % 8 = (5 + 64 - t) % 8 by omega, hr 5 (by omega)]; rfl
  · rw [if_neg (by omega), if_neg (by omega), show (7 + 64 - (t + 1)) % 8 = (6 + 64 - t) % 8 by omega, hr 6 (by omega)]; rfl
theorem stepX_U {k w : Int} {y : List Int} (hU : ∀ i, i < 8 → U32 (y.getD i 0)) : ∀ i, i < 8 → U32 ((stepX mostR pickR k w y).getD i 0) := by
  intro i hi
  unfold stepX
  have : i = 0 ∨ i = 1 ∨ i = 2 ∨ i = 3 ∨ i = 4 ∨ i = 5 ∨ i = 6 ∨ i = 7 := by omega
  rcases this with rfl | rfl | rfl | rfl | rfl | rfl | rfl | rfl
  · exact wr32_U _
  · exact hU 0 (by omega)
  · exact hU 1 (by omega)
  · exact hU 2 (by omega)
  · exact wr32_U _
  · exact hU 4 (by omega)
  · exact hU 5 (by omega)
  · exact hU 6 (by omega)
def W8 (st : List Int) : Prop := st.length = 8 ∧ ∀ x ∈ st, U32 x
theorem W8.get {st : List Int} (h : W8 st) (i : Nat) : U32 (st.getD i 0) := getD_all h.2 (by unfold U32; omega) i
theorem turns_eq (bl st : List Int) (hb : ∀ x ∈ bl, U8 x) (hs : W8 st) : ∀ t, t ≤ 64 → Ring bl (shaT (words4 bl) st t).1 t ∧ Turned (shaT (words4 bl) st t).2 (refX mostR pickR (refM bl 64) st t) t ∧ ∀ i, i < 8 → U32 ((refX mostR pickR (refM bl 64) st t).getD i 0)
  | 0, _ => by
    rw [shaT_zero, refX_zero]
    refine ⟨Ring.first bl hb, ⟨hs.1, fun i hi => ?_⟩, fun i _ => hs.get i⟩
    rw [show (i + 64 - 0) % 8 = i by omega]
  | t + 1, h => by
    obtain ⟨h1, h2, h3⟩ := turns_eq bl st hb hs t (by omega)
    rw [shaT_succ, refX_succ]
    have hR := h1.step (by omega)
    refine ⟨hR, h2.step h3 (by omega) ?_, stepX_U h3⟩
    rw [hR.2 t (by omega) (by omega)]
    unfold schW
    rfl
theorem refA_succ (st x : List Int) (i : Nat) : refA st x (i + 1) = (refA st x i).set i (IntKind.u32.wrap ((refA st x i).getD i 0 + st.getD i 0)) := by rw [refA]
theorem refA_zero (st x : List Int) : refA st x 0 = x := by rw [refA]
theorem refA_eq (st x : List Int) (hs : st.length = 8) (hx : x.length = 8) : refA st x 8 = addS st x := by
  obtain ⟨a0, a1, a2, a3, a4, a5, a6, a7, rfl⟩ := eight st hs
  obtain ⟨b0, b1, b2, b3, b4, b5, b6, b7, rfl⟩ := eight x hx
  simp only [refA_succ, refA_zero]
  simp [addS, List.set, Int.add_comm]
theorem turned_end {x y : List Int} (h : Turned x y 64) (hy : y.length = 8) : y = x := by
  obtain ⟨h4, h5⟩ := h
  obtain ⟨a0, a1, a2, a3, a4, a5, a6, a7, rfl⟩ := eight _ hy
  obtain ⟨b0, b1, b2, b3, b4, b5, b6, b7, rfl⟩ := eight _ h4
  have g0 := h5 0 (by omega)
  have g1 := h5 1 (by omega)
  have g2 := h5 2 (by omega)
  have g3 := h5 3 (by omega)
  have g4 := h5 4 (by omega)
  have g5 := h5 5 (by omega)
  have g6 := h5 6 (by omega)
  have g7 := h5 7 (by omega)
  simp at g0 g1 g2 g3 g4 g5 g6 g7
  simp [g0, g1, g2, g3, g4, g5, g6, g7]
theorem refPress_eq (st bl : List Int) (hb : ∀ x ∈ bl, U8 x) (hs : W8 st) : refPress st bl = press st bl := by
  obtain ⟨_, h2, h3⟩ := turns_eq bl st hb hs 64 (by omega)
  have hl := refX_len (M := mostR) (P := pickR) (m := refM bl 64) hs.1 64
  unfold refPress press
  rw [refA_eq _ _ hs.1 hl]
  congr 1
  exact turned_end h2 hl
theorem press_W8 (st bl : List Int) (hs : st.length = 8) : W8 (press st bl) := by
  refine ⟨press_len st bl hs, fun x hx => ?_⟩
  unfold press addS at hx
  obtain ⟨i, hi, rfl⟩ := List.getElem_of_mem hx
  simp only [List.getElem_zipWith]
  exact wr32_U _
def blks (P : List Int → List Int → List Int) : Nat → List Int → List Int → List Int
  | 0, st, _ => st
  | n + 1, st, ms => blks P n (P st (ms.take 64)) (ms.drop 64)
theorem blks_succ (P : List Int → List Int → List Int) : ∀ (n : Nat) (st ms : List Int), blks P (n + 1) st ms = P (blks P n st ms) ((ms.drop (64 * n)).take 64)
  | 0, _, _ => rfl
  | n + 1, st, ms => by
    rw [blks, blks_succ P n, List.drop_drop]
    rw [show 64 + 64 * n = 64 * (n + 1) by omega]
    rfl
theorem blks_app (P : List Int → List Int → List Int) : ∀ (n : Nat) (st ms more : List Int), 64 * n ≤ ms.length → blks P n st (ms ++ more) = blks P n st ms
  | 0, _, _, _, _ => rfl
  | n + 1, st, ms, more, h => by
    rw [blks, blks, List.take_append_of_le_length (by omega), List.drop_append_of_le_length (by omega), blks_app P n _ _ _ (by rw [List.length_drop]; omega)]
theorem blks_congr : ∀ (n : Nat) (st ms : List Int), W8 st → (∀ x ∈ ms, U8 x) → blks refPress n st ms = blks press n st ms
  | 0, _, _, _, _ => rfl
  | n + 1, st, ms, hs, hm => by
    rw [blks, blks, refPress_eq st _ (fun x hx => hm x (List.mem_of_mem_take hx)) hs]
    exact blks_congr n _ _ (press_W8 st _ hs.1) fun x hx => hm x (List.mem_of_mem_drop hx)
structure Rep (r : RunS) (ms : List Int) : Prop where
  came : r.came = ms.length
  st : r.st = blks press (ms.length / 64) initR.st ms
  len : r.part.length = 64
  part : r.part.take (ms.length % 64) = ms.drop (64 * (ms.length / 64))
theorem Rep.ok {r : RunS} {ms : List Int} (h : Rep r ms) (h8 : r.st.length = 8) : r.Ok := ⟨h8, h.len, by rw [h.came]; omega⟩
theorem Rep.one {r : RunS} {ms : List Int} (h : Rep r ms) (bs : List Int) : Rep (r.one bs) (ms ++ wTk r.came bs) := by
  have ha : wAt r.came = ms.length % 64 := by
    unfold wAt
    rw [h.came, tm (by omega)]
    omega
  have hk : (wTk r.came bs).length ≤ 64 - ms.length % 64 := by
    unfold wTk
    rw [ha, List.length_take]
    omega
  have hdl : (ms.drop (64 * (ms.length / 64))).length = ms.length % 64 := by rw [List.length_drop]; omega
  have hp : wPart r.part r.came bs = ms.drop (64 * (ms.length / 64)) ++ wTk r.came bs ++ r.part.drop (ms.length % 64 + (wTk r.came bs).length) := by
    unfold wPart spl
    rw [ha, h.part]
  have hl : (wPart r.part r.came bs).length = 64 := by
    rw [hp, List.length_append, List.length_append, hdl, List.length_drop, h.len]
    omega
  have hst : (r.one bs).st = if ms.length % 64 + (wTk r.came bs).length = 64 then press r.st (wPart r.part r.came bs) else r.st := by
    show wSt _ _ _ _ = _
    unfold wSt
    rw [ha]
  have hca : (r.one bs).came = r.came + (wTk r.came bs).length := rfl
  have hpa : (r.one bs).part = wPart r.part r.came bs := rfl
  generalize wTk r.came bs = tk at *
  generalize wPart r.part r.came bs = pa at *
  have hal : (ms ++ tk).length = ms.length + tk.length := List.length_append
  refine ⟨by rw [hca, h.came, hal]; omega, ?_, by rw [hpa]; exact hl, ?_⟩
  · rw [hst, h.st]
    by_cases h64 : ms.length % 64 + tk.length = 64
    · rw [if_pos h64, hal, show (ms.length + tk.length) / 64 = ms.length / 64 + 1 by omega, blks_succ, blks_app _ _ _ _ _ (by omega)]
      congr 1
      rw [List.drop_append_of_le_length (by omega), hp, show r.part.drop (ms.length % 64 + tk.length) = [] from List.drop_eq_nil_of_le (by rw [h.len]; omega), List.append_nil, List.take_of_length_le (by rw [List.length_append, hdl]; omega)]
    · rw [if_neg h64, hal, show (ms.length + tk.length) / 64 = ms.length / 64 by omega, blks_app _ _ _ _ _ (by omega)]
  · rw [hpa, hal]
    by_cases h64 : ms.length % 64 + tk.length = 64
    · rw [show (ms.length + tk.length) % 64 = 0 by omega, List.take_zero, List.drop_eq_nil_of_le (by rw [hal]; omega)]
    · rw [show (ms.length + tk.length) / 64 = ms.length / 64 by omega, show (ms.length + tk.length) % 64 = ms.length % 64 + tk.length by omega, hp, List.drop_append_of_le_length (by omega)]
      rw [List.take_append_of_le_length (by rw [List.length_append, hdl]; omega)]
      exact List.take_of_length_le (by rw [List.length_append, hdl]; omega)
theorem Rep.many : ∀ (n : Nat) (r : RunS) (ms bs : List Int), r.Ok → Rep r ms → bs.length ≤ n → Rep (RunS.many n r bs).1 (ms ++ bs)
  | 0, r, ms, bs, _, h, hn => by
    have : bs = [] := List.eq_nil_of_length_eq_zero (by omega)
    subst this
    rw [List.append_nil]
    exact h
  | n + 1, r, ms, bs, hr, h, hn => by
    unfold RunS.many
    split
    · rw [List.append_nil]; exact h
    · rename_i b bs
      have hp := wTk_pos hr (bs := b :: bs) (by simp)
      have hb : (b :: bs) = wTk r.came (b :: bs) ++ (b :: bs).drop (wTk r.came (b :: bs)).length := by
        unfold wTk
        rw [List.length_take]
        by_cases h : 64 - wAt r.came ≤ (b :: bs).length
        · rw [Nat.min_eq_left h, List.take_append_drop]
        · rw [Nat.min_eq_right (by omega), List.take_of_length_le (by omega), List.drop_length, List.append_nil]
      have := Rep.many n _ _ ((b :: bs).drop (wTk r.came (b :: bs)).length) (hr.one _) (h.one (b :: bs)) (by rw [List.length_drop]; simp only [List.length_cons] at hn ⊢; omega)
      rw [List.append_assoc, ← hb] at this
      exact this
theorem Rep.write {r : RunS} {ms : List Int} (hr : r.Ok) (h : Rep r ms) (bs : List Int) : Rep (r.write bs) (ms ++ bs) := by
  unfold RunS.write
  exact Rep.many _ _ _ _ hr h (Nat.le_refl _)
theorem Rep.init : Rep initR [] := ⟨rfl, rfl, rfl, rfl⟩
def refPad (bs : List Int) : List Int := bs ++ padB bs.length ++ len8 bs.length
def shaAll (P : List Int → List Int → List Int) (bs : List Int) : List Int := hashB (blks P ((refPad bs).length / 64) initR.st (refPad bs))
theorem Rep.fin {r : RunS} {ms : List Int} (hr : r.Ok) (h : Rep r ms) : r.fin = shaAll press ms := by
  have h1 := h.write hr (padB r.came)
  have h2 := h1.write (write_ok _ _ hr) (len8 r.came)
  unfold RunS.fin shaAll
  rw [h2.st, h.came]
  rfl
theorem sha1_all (bs : List Int) : sha1 bs = shaAll press bs := by
  unfold sha1
  have := Rep.init.write initR_ok bs
  exact this.fin (write_ok _ _ initR_ok)
theorem sha2_all (a b : List Int) : sha2 a b = sha1 (a ++ b) := by
  rw [sha1_all]
  unfold sha2
  have h1 := Rep.init.write initR_ok a
  have h2 := h1.write (write_ok _ _ initR_ok) b
  exact h2.fin (write_ok _ _ (write_ok _ _ initR_ok))
theorem initR_W8 : W8 initR.st := by
  refine ⟨rfl, fun x hx => ?_⟩
  simp only [initR, List.mem_cons, List.not_mem_nil, or_false] at hx
  unfold U32
  rcases hx with rfl | rfl | rfl | rfl | rfl | rfl | rfl | rfl <;> omega
theorem padB_U8 (n : Int) : ∀ x ∈ padB n, U8 x := by
  intro x hx
  unfold padB at hx
  rcases List.mem_append.mp hx with h | h
  · rw [List.mem_singleton] at h
    subst h
    unfold U8; omega
  · rw [List.eq_of_mem_replicate h]
    unfold U8; omega
theorem wr8_U8 (x : Int) : U8 (IntKind.u8.wrap x) := by rw [wr8]; unfold U8; omega
theorem len8_U8 (n : Int) : ∀ x ∈ len8 n, U8 x := by
  intro x hx
  unfold len8 told8 at hx
  simp only [List.mem_cons, List.not_mem_nil, or_false] at hx
  rcases hx with h | h | h | h | h | h | h | h <;> rw [h] <;> exact wr8_U8 _
theorem refPad_U8 {bs : List Int} (h : ∀ x ∈ bs, U8 x) : ∀ x ∈ refPad bs, U8 x := by
  intro x hx
  unfold refPad at hx
  rcases List.mem_append.mp hx with h1 | h1
  · rcases List.mem_append.mp h1 with h2 | h2
    · exact h x h2
    · exact padB_U8 _ x h2
  · exact len8_U8 _ x h1
@[irreducible] def refSum (bs : List Int) : List Int := shaAll refPress bs
theorem refSum_eq {bs : List Int} (h : ∀ x ∈ bs, U8 x) : refSum bs = sha1 bs := by
  rw [sha1_all]
  unfold refSum shaAll
  rw [blks_congr _ _ _ initR_W8 (refPad_U8 h)]
theorem told4_U8 (n : Int) : ∀ x ∈ told4 n, U8 x := by
  intro x hx
  unfold told4 at hx
  simp only [List.mem_cons, List.not_mem_nil, or_false] at hx
  rcases hx with h | h | h | h <;> rw [h] <;> exact wr8_U8 _
theorem hashB_U8 (st : List Int) : ∀ x ∈ hashB st, U8 x := by
  intro x hx
  unfold hashB at hx
  simp only [List.mem_append] at hx
  rcases hx with (((((((h | h) | h) | h) | h) | h) | h) | h) <;> exact told4_U8 _ x h
theorem sha1_U8 (bs : List Int) : ∀ x ∈ sha1 bs, U8 x := by rw [sha1_all]; exact hashB_U8 _
end Go.Tk
end
section
namespace Go.Tk
theorem pressOk : PressOk refPress := ⟨fun st bl h => pressr_pure st bl h, fun _ _ h => refPress_len h⟩
theorem toN_succ (x : List Int) (i : Nat) : toN x (i + 1) = ((((toN x i).set (4 * i) (IntKind.u8.wrap (IntKind.u32.wrap (Int.tdiv (x.getD i 0) 16777216)))).set (4 * i + 1) (toE (x.getD i 0) 65536)).set (4 * i + 2) (toE (x.getD i 0) 256)).set (4 * i + 3) (IntKind.u8.wrap (Int.tmod (x.getD i 0) 256)) := by rw [toN]
theorem toN_zero (x : List Int) : toN x 0 = zero32 := by rw [toN]
def four (x : Int) : List Int := [IntKind.u8.wrap (IntKind.u32.wrap (Int.tdiv x 16777216)), toE x 65536, toE x 256, IntKind.u8.wrap (Int.tmod x 256)]
theorem toldX_len (x : List Int) : (toldX x).length = 32 := by unfold toldX; exact toN_len x 8
theorem toldX_four (x : List Int) (h : x.length = 8) : toldX x = four (x.getD 0 0) ++ four (x.getD 1 0) ++ four (x.getD 2 0) ++ four (x.getD 3 0) ++ four (x.getD 4 0) ++ four (x.getD 5 0) ++ four (x.getD 6 0) ++ four (x.getD 7 0) := by
  unfold toldX
  simp only [toN_succ, toN_zero]
  generalize x.getD 0 0 = x0
  generalize x.getD 1 0 = x1
  generalize x.getD 2 0 = x2
  generalize x.getD 3 0 = x3
  generalize x.getD 4 0 = x4
  generalize x.getD 5 0 = x5
  generalize x.getD 6 0 = x6
  generalize x.getD 7 0 = x7
  kernel_rfl
theorem wr64 (x : Int) : IntKind.u64.wrap x = x % 18446744073709551616 := by
  unfold IntKind.wrap
  simp [IntKind.bits, IntKind.signed]
theorem shr64 (x n : Nat) (hn : n ≤ 64) : shrI .u64 x n = ((x / 2 ^ n : Nat) : Int) := by
  unfold shrI
  have : min (n : Int).toNat IntKind.u64.bits = n := by simp [IntKind.bits]; omega
  rw [this, Int.fdiv_eq_ediv_of_nonneg _ (Int.le_of_lt (Int.pow_pos (by decide)))]
  simp
theorem four_told {x : Int} (h : U32 x) : four x = told4 (IntKind.u64.wrap x) := by
  obtain ⟨x, rfl, gx⟩ := h.nat
  have e : IntKind.u64.wrap (x : Int) = x := by rw [wr64]; omega
  have s24 := shr64 x 24 (by omega)
  have s16 := shr64 x 16 (by omega)
  have s8 := shr64 x 8 (by omega)
  have s0 := shr64 x 0 (by omega)
  rw [show ((24 : Nat) : Int) = 24 from rfl] at s24
  rw [show ((16 : Nat) : Int) = 16 from rfl] at s16
  rw [show ((8 : Nat) : Int) = 8 from rfl] at s8
  rw [show ((0 : Nat) : Int) = 0 from rfl] at s0
  have d1 : Int.tdiv (x : Int) 16777216 = (x : Int) / 16777216 := Int.tdiv_eq_ediv_of_nonneg (by omega)
  have d2 : Int.tdiv (x : Int) 65536 = (x : Int) / 65536 := Int.tdiv_eq_ediv_of_nonneg (by omega)
  have d3 : Int.tdiv (x : Int) 256 = (x : Int) / 256 := Int.tdiv_eq_ediv_of_nonneg (by omega)
  unfold four told4 toE
  rw [e, s24, s16, s8, s0, d1, d2, d3]
  simp only [wr8, wr32]
  rw [tm (a := (x : Int) / 65536 % 4294967296) (by omega), tm (a := (x : Int) / 256 % 4294967296) (by omega), tm (a := (x : Int)) (by omega)]
  simp only [List.cons.injEq, and_true]
  omega
theorem toldX_hash {x : List Int} (h : W8 x) : toldX x = hashB x := by
  rw [toldX_four x h.1]
  unfold hashB
  rw [four_told (h.get 0), four_told (h.get 1), four_told (h.get 2), four_told (h.get 3), four_told (h.get 4), four_told (h.get 5), four_told (h.get 6), four_told (h.get 7)]
theorem padE_told (n : Nat) (i : Nat) (hi : i < 8) : padE n i = IntKind.u8.wrap (shrI .u64 (IntKind.u64.wrap (IntKind.u64.wrap n * 8)) ((56 - 8 * i : Nat) : Int)) := by
  unfold padE
  have e1 : IntKind.i64.wrap (8 * (i : Int)) = 8 * (i : Int) := w64 (by omega)
  have e2 : IntKind.i64.wrap (56 - 8 * (i : Int)) = ((56 - 8 * i : Nat) : Int) := by rw [w64 (by omega)]; omega
  have e3 : IntKind.u64.wrap ((56 - 8 * i : Nat) : Int) = ((56 - 8 * i : Nat) : Int) := by rw [wr64]; omega
  rw [e1, e2, e3]
  obtain ⟨m, hm⟩ : ∃ m : Nat, IntKind.u64.wrap (IntKind.u64.wrap n * 8) = m := ⟨(IntKind.u64.wrap (IntKind.u64.wrap n * 8)).toNat, by rw [wr64, wr64]; omega⟩
  rw [hm, shr64 m _ (by omega)]
  generalize m / 2 ^ (56 - 8 * i) = q
  rw [tm (by omega), wr8, wr8]
  omega
theorem padN_len8 (n : Nat) : padN n 8 = len8 n := by
  simp only [padN, List.nil_append, List.cons_append]
  unfold len8 told8
  rw [padE_told n 0 (by omega), padE_told n 1 (by omega), padE_told n 2 (by omega), padE_told n 3 (by omega), padE_told n 4 (by omega), padE_told n 5 (by omega), padE_told n 6 (by omega), padE_told n 7 (by omega)]
  rfl
theorem padZ_padB (n : Nat) (h : n ≤ 100000000000) : [128] ++ padZ n = padB n := by
  unfold padZ padB
  have e1 : Int.tmod (n : Int) 64 = (n : Int) % 64 := tm (by omega)
  have e2 : IntKind.i64.wrap (119 - (n : Int) % 64) = 119 - (n : Int) % 64 := w64 (by omega)
  rw [padX n h, e1, e2, tm (by omega)]
  congr 2
  omega
theorem padR_pad (bs : List Int) (h : bs.length ≤ 100000000000) : padR bs = refPad bs := by
  unfold padR refPad
  rw [padN_len8, List.append_assoc bs, padZ_padB _ h]
theorem sumN_blks (P : List Int → List Int → List Int) (ys : List Int) : ∀ i, sumN P ys i = blks P i initR.st ys
  | 0 => sumN_zero P ys
  | i + 1 => by rw [sumN_succ, blks_succ, sumN_blks P ys i]
theorem blks_W8 : ∀ (n : Nat) (st ms : List Int), W8 st → W8 (blks press n st ms)
  | 0, _, _, h => h
  | n + 1, st, _, h => blks_W8 n _ _ (press_W8 st _ h.1)
@[irreducible] def sumD (bs : List Int) : List Int := rSum refPress bs
theorem sumD_len (bs : List Int) : (sumD bs).length = 32 := by unfold sumD rSum; exact toldX_len _
theorem sumD_eq {bs : List Int} (h : ∀ x ∈ bs, U8 x) (hl : bs.length ≤ 100000000000) : sumD bs = sha1 bs := by
  unfold sumD rSum
  rw [sumN_blks, padR_pad bs hl, blks_congr _ _ _ initR_W8 (refPad_U8 h), toldX_hash (blks_W8 _ _ _ initR_W8), sha1_all]
  rfl
theorem sumD_pure (xs : List Int) (h : xs.length ≤ 100000000000) : Pure PP 58 [.vints .u8 xs xs.length] (.agg [.arr .u8 32 (sumD xs)]) 0 [] := by
  unfold sumD
  exact sumr_pure pressOk xs h
theorem xorN_eq (c : Int) (b : List Int) : ∀ i, i ≤ b.length → xorN c b i = (b.take i).map (fun x => bXor .u8 x c) ++ b.drop i
  | 0, _ => by rw [xorN_zero]; simp
  | i + 1, h => by
    rw [xorN_succ, xorN_eq c b i (by omega)]
    unfold xorAt
    have hl : ((b.take i).map (fun x => bXor .u8 x c)).length = i := by rw [List.length_map, List.length_take]; omega
    obtain ⟨y, hy⟩ : ∃ y, b[i]? = some y := ⟨b[i], List.getElem?_eq_getElem (by omega)⟩
    have hd : b.drop i = y :: b.drop (i + 1) := by
      rw [List.drop_eq_getElem_cons (by omega)]
      congr 1
      have := List.getElem?_eq_getElem (l := b) (i := i) (by omega)
      rw [this] at hy
      exact Option.some.inj hy
    rw [hd, Nat.zero_add, List.getD_eq_getElem?_getD, List.getElem?_append_right (by omega), hl, Nat.sub_self, List.set_append_right _ _ (by omega), hl, Nat.sub_self]
    rw [List.take_add_one, hy]
    simp
theorem xorL_map (c : Int) (b : List Int) (h : b.length = 64) : xorL c b = b.map (fun x => bXor .u8 x c) := by
  unfold xorL
  rw [xorN_eq c b 64 (by omega), ← h, List.take_length, List.drop_length, List.append_nil]
theorem kxR_map (key : List Int) (c : Int) (hk : key.length = 32) (h0 : bXor .u8 0 c = c) : ∀ i, i ≤ 64 → kxR key c i = ((key ++ List.replicate 32 0).take i).map (fun x => bXor .u8 x c)
  | 0, _ => by rw [kxR]; rfl
  | i + 1, h => by
    rw [kxR, kxR_map key c hk h0 i (by omega), List.take_add_one, List.map_append]
    congr 1
    unfold kxE
    by_cases hi : i < 32
    · rw [if_pos (by omega), List.getElem?_append_left (by omega), List.getD_eq_getElem?_getD, List.getElem?_eq_getElem (by omega)]
      rfl
    · rw [if_neg (by omega), List.getElem?_append_right (by omega), List.getElem?_replicate, if_pos (by omega)]
      simp [h0]
theorem keyB_app (key : List Int) (hk : key.length = 32) : keyB key = key ++ List.replicate 32 0 := by
  have e1 : List.take 32 key = key := List.take_of_length_le (by rw [hk]; exact Nat.le_refl _)
  have e2 : List.take 64 key = key := List.take_of_length_le (by rw [hk]; omega)
  unfold keyB spl
  rw [e1, e2, hk]
  rfl
theorem kx_xor (key : List Int) (c : Int) (hk : key.length = 32) (h0 : bXor .u8 0 c = c) : kxR key c 64 = xorL c (keyB key) := by
  rw [xorL_map c _ (keyB_len key), kxR_map key c hk h0 64 (by omega), keyB_app key hk, List.take_of_length_le (by simp [hk])]
theorem map_U8 (c : Int) (b : List Int) : ∀ x ∈ b.map (fun x => bXor .u8 x c), U8 x := by
  intro x hx
  obtain ⟨y, _, rfl⟩ := List.mem_map.mp hx
  exact wr8_U8 _
theorem app_U8 {a b : List Int} (ha : ∀ x ∈ a, U8 x) (hb : ∀ x ∈ b, U8 x) : ∀ x ∈ a ++ b, U8 x := fun x hx => (List.mem_append.mp hx).elim (ha x) (hb x)
theorem sumD_U8 {bs : List Int} (h : ∀ x ∈ bs, U8 x) (hl : bs.length ≤ 100000000000) : ∀ x ∈ sumD bs, U8 x := by rw [sumD_eq h hl]; exact sha1_U8 bs
theorem hmac_eq {key ms : List Int} (hk : key.length = 32) (hm : ms.length = 32) (hU : ∀ x ∈ ms, U8 x) : hmacR sumD key ms = hmac1 key ms := by
  have k1 := kx_xor key 92 hk (by decide)
  have k2 := kx_xor key 54 hk (by decide)
  have l1 := xorL_len 92 _ (keyB_len key)
  have l2 := xorL_len 54 _ (keyB_len key)
  have u1 : ∀ x ∈ xorL 92 (keyB key), U8 x := by rw [xorL_map _ _ (keyB_len key)]; exact map_U8 _ _
  have u2 : ∀ x ∈ xorL 54 (keyB key), U8 x := by rw [xorL_map _ _ (keyB_len key)]; exact map_U8 _ _
  unfold hmacR hmac1
  rw [k1, k2, sha2_all]
  have h2 : ((initR.write (xorL 54 (keyB key))).write ms).fin = sha1 (xorL 54 (keyB key) ++ ms) := by
    rw [← sha2_all]; unfold sha2; rfl
  rw [h2, sumD_eq (bs := xorL 54 (keyB key) ++ ms) (app_U8 u2 hU) (by rw [List.length_append, l2, hm]; decide)]
  rw [sumD_eq (app_U8 u1 (sha1_U8 _)) (by rw [List.length_append, l1, sha1_len]; decide)]
theorem pointS_U8 : ∀ x ∈ pointS, U8 x := by
  intro x hx
  unfold pointS at hx
  simp only [List.mem_cons, List.not_mem_nil, or_false] at hx
  unfold U8
  rcases hx with rfl | rfl | rfl | rfl | rfl <;> omega
theorem point_eq {s : List Int} (hs : s.length = 32) (hU : ∀ x ∈ s, U8 x) : pointR sumD s = pointH s := by
  have e1 : sumD [112, 111, 105, 110, 116] = sha1 pointS := sumD_eq pointS_U8 (by decide)
  unfold pointR
  rw [e1, sumD_eq (app_U8 (app_U8 (sha1_U8 _) (sha1_U8 _)) hU) (by rw [List.length_append, List.length_append, sha1_len, hs]; decide), sha1_all]
  unfold pointH
  have h1 := Rep.init.write initR_ok (sha1 pointS)
  have o1 := write_ok initR (sha1 pointS) initR_ok
  have h2 := h1.write o1 (sha1 pointS)
  have o2 := write_ok _ (sha1 pointS) o1
  have h3 := h2.write o2 s
  rw [h3.fin (write_ok _ _ o2), List.nil_append]
theorem twice_eq {bs : List Int} (h : ∀ x ∈ bs, U8 x) (hl : bs.length ≤ 100000000000) : twiceR sumD bs = shaT2 bs := by
  unfold twiceR shaT2
  rw [sumD_eq h hl, sumD_eq (sha1_U8 _) (by rw [sha1_len]; decide)]
end Go.Tk
end
section
namespace Go.Tk
noncomputable def E60 (R : TxS → Bool → List Int) (H : List Int → List Int) (T2 : List Int → List Int → List Int) (B : Nat) : Env2 := ((G0.withF 48 (rawF R)).withP 52 (hashS H B)).withP 53 (tagRS T2)
set_option maxRecDepth 100000 in
set_option maxHeartbeats 0 in
theorem nmr_1 (R : TxS → Bool → List Int) (H : List Int → List Int) (T2 : List Int → List Int → List Int) (B : Nat) (t : TxS) (r : List Int) (ht : t.Fine) (hb : (R t true).length ≤ B) (hr : r = H (R t true)) :
    evF (E60 R H T2 B) 20 20 [.agg t.c] ⟨0, []⟩ (outM 0 (.ret (.agg [.arr .u8 32 r])) 0 []) := by
  refine @Eq.mpr _ (let q1 := t.N;
 let q2 := t.M;
 ∃ (t_1 : TxS),
 let q5 := List.length (R t_1 true);
 let q6 := List.take q5 (dropZ 0 (R t_1 true));
 let q7 := List.length q6;
 (t_1.num = t.num ∧ ((q1 = q1 ∧ t_1.N = q1) ∧ ∀ (i : Nat), i < q1 → inRows t.ins i = InS.c (t_1.ins i)) ∧ (q2 = q2 ∧ t_1.M = q2) ∧ ∀ (i : Nat), i < q2 → outRows t.outs i = OutS.c (t_1.outs i)) ∧ TxS.Fine t_1 ∧ iteB (decide (0 + q5 ≤ q5)) (iteB (decide (q5 = q7)) (iteB (decide (q7 ≤ B)) (H q6 = r ∧ True) False) False) False) (by kernel_rfl) ?_
  conv => zeta
  try simp only [need_eq]
  try simp only [nope_eq]
  try simp only [iteD_eq]
  try simp only [iteT_eq]
  try simp only [iteF_eq]
  try simp only [iteE_eq]
  try simp only [Int.toNat_natCast, Nat.zero_add, true_and, and_true, Nat.le_refl]
  refine ⟨t, ⟨rfl, ⟨rfl, fun _ _ => rfl⟩, rfl, fun _ _ => rfl⟩, ht, ?_⟩
  rw [take_dz rfl]
  exact ⟨rfl, hb, hr.symm⟩
set_option maxRecDepth 100000 in
set_option maxHeartbeats 0 in
theorem tgr_1 (R : TxS → Bool → List Int) (H : List Int → List Int) (T2 : List Int → List Int → List Int) (B : Nat) (t : TxS) (key r : List Int) (ht : t.Fine) (hk : key.length = 32) (hb : (R t true).length ≤ B) (hl : (H (R t true)).length = 32) (hr : r = T2 key (H (R t true))) :
    evF (E60 R H T2 B) 20 21 [.agg t.c, .agg [.arr .u8 32 key]] ⟨0, []⟩ (outM 0 (.ret (.agg [.arr .u8 32 r])) 0 []) := by
  refine @Eq.mpr _ (let q1 := t.N;
 let q2 := t.M;
 ∃ (t_1 : TxS),
 let q5 := List.length (R t_1 true);
 let q6 := List.take q5 (dropZ 0 (R t_1 true));
 let q7 := List.length q6;
 let q8 := H q6;
 (t_1.num = t.num ∧ ((q1 = q1 ∧ t_1.N = q1) ∧ ∀ (i : Nat), i < q1 → inRows t.ins i = InS.c (t_1.ins i)) ∧ (q2 = q2 ∧ t_1.M = q2) ∧ ∀ (i : Nat), i < q2 → outRows t.outs i = OutS.c (t_1.outs i)) ∧ TxS.Fine t_1 ∧ iteB (decide (0 + q5 ≤ q5)) (iteB (decide (q5 = q7)) (iteB (decide (q7 ≤ B)) (iteB (decide (List.length key = 32)) (iteB (decide (List.length q8 = 32)) (iteB (decide (List.length key = 32 ∧ (32 : Nat) = 32 ∧ List.length q8 = 32 ∧ (32 : Nat) = 32)) (T2 key q8 = r ∧ True) False) False) False) False) False) False) (by kernel_rfl) ?_
  conv => zeta
  try simp only [need_eq]
  try simp only [nope_eq]
  try simp only [iteD_eq]
  try simp only [iteT_eq]
  try simp only [iteF_eq]
  try simp only [iteE_eq]
  try simp only [Int.toNat_natCast, Nat.zero_add, true_and, and_true, Nat.le_refl]
  refine ⟨t, ⟨rfl, ⟨rfl, fun _ _ => rfl⟩, rfl, fun _ _ => rfl⟩, ht, ?_⟩
  rw [take_dz rfl]
  repeat' (first | (refine And.intro ?_ ?_) | intro _)
  all_goals first | omega | assumption | trivial | exact hr.symm
def nameRS (Nm : TxS → List Int) : PSumm := fun args h K => viewL none h true 20 args fun a => match a with
  | [.agg l] => ∃ t, isTx l t ∧ t.Fine ∧ K (.agg [.arr .u8 32 (Nm t)])
  | _ => False
def tagtRS (Tg : List Int → TxS → List Int) : PSumm := fun args h K => viewL none h true 20 args fun a => match a with
  | [.agg l, .agg [.arr .u8 32 key]] => ∃ t, isTx l t ∧ (t.Fine ∧ key.length = 32) ∧ K (.agg [.arr .u8 32 (Tg key t)])
  | _ => False
structure HashOk (H : List Int → List Int) (T2 : List Int → List Int → List Int) : Prop where
  h : ∀ args h K, hashS H 100000 args h K → CallsA PP 52 args h fun o h' => ∃ v, o = .ret v ∧ h' = h ∧ K v
  t : ∀ args h K, tagRS T2 args h K → CallsA PP 53 args h fun o h' => ∃ v, o = .ret v ∧ h' = h ∧ K v
  r : ∀ args h K, rawF (rawT numW) args h K → CallsA PP 48 args h K
  hl : ∀ x, (H x).length = 32
theorem E60_ok {H : List Int → List Int} {T2 : List Int → List Int → List Int} (hp : HashOk H T2) : (E60 (rawT numW) H T2 100000).Ok := Env2.withP_ok (Env2.withP_ok (Env2.withF_ok G0_ok hp.r) hp.h) hp.t
@[irreducible] def nameR (H : List Int → List Int) (t : TxS) : List Int := H (rawT numW t true)
@[irreducible] def tagtR (H : List Int → List Int) (T2 : List Int → List Int → List Int) (key : List Int) (t : TxS) : List Int := T2 key (H (rawT numW t true))
theorem namer_pure {H : List Int → List Int} {T2 : List Int → List Int → List Int} (hp : HashOk H T2) (t : TxS) (ht : t.Fine) : Pure PP 20 [.agg t.c] (.agg [.arr .u8 32 (nameR H t)]) 0 [] := by
  unfold nameR
  have := rawO_len ht true (Nat.le_refl t.M)
  exact .evM (E60_ok hp) (nmr_1 (rawT numW) H T2 100000 t _ ht (by have hb' : (rawT numW t true).length ≤ 20000 := this; omega) rfl)
theorem tagr1_pure {H : List Int → List Int} {T2 : List Int → List Int → List Int} (hp : HashOk H T2) (t : TxS) (key : List Int) (ht : t.Fine) (hk : key.length = 32) : Pure PP 21 [.agg t.c, .agg [.arr .u8 32 key]] (.agg [.arr .u8 32 (tagtR H T2 key t)]) 0 [] := by
  unfold tagtR
  have := rawO_len ht true (Nat.le_refl t.M)
  exact .evM (E60_ok hp) (tgr_1 (rawT numW) H T2 100000 t key _ ht hk (by have hb' : (rawT numW t true).length ≤ 20000 := this; omega) (hp.hl _) rfl)
theorem nameRS_ok {H : List Int → List Int} {T2 : List Int → List Int → List Int} (hp : HashOk H T2) (args : List AV) (h : Heap) (K : AV → Prop) (hl : nameRS (nameR H) args h K) : CallsA PP 20 args h fun o h' => ∃ v, o = .ret v ∧ h' = h ∧ K v := by
  refine Pure.psumm (d := 20) (viewL_weak _ _ _ _ _ hl fun a ha => ?_)
  split at ha
  · obtain ⟨t, h1, h2, hK⟩ := ha
    exact ⟨_, (namer_pure hp t h2).conv fun E r hr => hr.head (fun _ hc => h1.rel hc) (fun _ hc => hc), fun _ => rfl, hK⟩
  · exact ha.elim
theorem tagtRS_ok {H : List Int → List Int} {T2 : List Int → List Int → List Int} (hp : HashOk H T2) (args : List AV) (h : Heap) (K : AV → Prop) (hl : tagtRS (tagtR H T2) args h K) : CallsA PP 21 args h fun o h' => ∃ v, o = .ret v ∧ h' = h ∧ K v := by
  refine Pure.psumm (d := 20) (viewL_weak _ _ _ _ _ hl fun a ha => ?_)
  split at ha
  · obtain ⟨t, h1, ⟨h2, h3⟩, hK⟩ := ha
    exact ⟨_, (tagr1_pure hp t _ h2 h3).conv fun E r hr => hr.head (fun _ hc => h1.rel hc) (fun _ hc => hc), fun _ => rfl, hK⟩
  · exact ha.elim
noncomputable def E60b (Tg : List Int → TxS → List Int) : Env2 := G0.withP 21 (tagtRS Tg)
set_option maxRecDepth 100000 in
set_option maxHeartbeats 0 in
theorem by_1 (Tg : List Int → TxS → List Int) (t : TxS) (tag key : List Int) (b : Bool) (ht : t.Fine) (hk : key.length = 32) (hg : tag.length = 32) (hl : ∀ k t, (Tg k t).length = 32) (hb : b = (tag == Tg key t)) :
    evF (E60b Tg) 20 56 [.agg t.c, .agg [.arr .u8 32 tag], .agg [.arr .u8 32 key]] ⟨0, []⟩ (outM 0 (.ret (.bool b)) 0 []) := by
  refine @Eq.mpr _ (let q1 := t.N;
 let q2 := t.M;
 ∃ (t_1 : TxS), (t_1.num = t.num ∧ ((q1 = q1 ∧ t_1.N = q1) ∧ ∀ (i : Nat), i < q1 → inRows t.ins i = InS.c (t_1.ins i)) ∧ (q2 = q2 ∧ t_1.M = q2) ∧ ∀ (i : Nat), i < q2 → outRows t.outs i = OutS.c (t_1.outs i)) ∧ (TxS.Fine t_1 ∧ List.length key = 32) ∧ iteB (decide (List.length tag = 32 ∧ List.length (Tg key t_1) = 32)) (iteB (decide ((tag == Tg key t_1) = b)) True False) False) (by kernel_rfl) ?_
  conv => zeta
  try simp only [need_eq]
  try simp only [nope_eq]
  try simp only [iteD_eq]
  try simp only [iteT_eq]
  try simp only [iteF_eq]
  try simp only [iteE_eq]
  try simp only [Int.toNat_natCast, Nat.zero_add, true_and, and_true, Nat.le_refl]
  subst hb
  exact ⟨t, ⟨rfl, ⟨rfl, fun _ _ => rfl⟩, rfl, fun _ _ => rfl⟩, ⟨ht, hk⟩, ⟨hg, hl key t⟩, rfl⟩
def byRS (Tg : List Int → TxS → List Int) : PSumm := fun args h K => viewL none h true 20 args fun a => match a with
  | [.agg l, .agg [.arr .u8 32 tag], .agg [.arr .u8 32 key]] => ∃ t, isTx l t ∧ (t.Fine ∧ tag.length = 32 ∧ key.length = 32) ∧ K (.bool (tag == Tg key t))
  | _ => False
theorem byRS_ok {H : List Int → List Int} {T2 : List Int → List Int → List Int} (hp : HashOk H T2) (h2 : ∀ a b, (T2 a b).length = 32) (args : List AV) (h : Heap) (K : AV → Prop) (hl : byRS (tagtR H T2) args h K) : CallsA PP 56 args h fun o h' => ∃ v, o = .ret v ∧ h' = h ∧ K v := by
  refine Pure.psumm (d := 20) (viewL_weak _ _ _ _ _ hl fun a ha => ?_)
  split at ha
  · obtain ⟨t, h1, ⟨h3, h4, h5⟩, hK⟩ := ha
    exact ⟨_, (Pure.evM (Env2.withP_ok G0_ok (tagtRS_ok hp)) (by_1 _ t _ _ _ h3 h5 h4 (fun k t => by unfold tagtR; exact h2 _ _) rfl)).conv fun E r hr => hr.head (fun _ hc => h1.rel hc) (fun _ hc => hc), fun _ => rfl, hK⟩
  · exact ha.elim
end Go.Tk
end
section
namespace Go.Tk
noncomputable def E61 (A : List Int → Int × Int) (R : OutS → Bool) (Tg : List Int → TxS → List Int) (PH H1 : List Int → List Int) (B : Nat) : Env2 := ((((G0.withP 16 (rightS A)).withP 46 (out46S R)).withP 56 (byRS Tg)).withP 57 (hash1S PH)).withP 58 (hashS H1 B)
set_option maxRecDepth 100000 in
set_option maxHeartbeats 0 in
theorem sp_1 (A : List Int → Int × Int) (Nm : TxS → List Int) (T2 : List Int → List Int → List Int) (H1 PH : List Int → List Int) (B : Nat) (R : OutS → Bool) (Tg : List Int → TxS → List Int) (t : TxS) (at_ : Int) (o : OutS) (since height : Int) (F : Int) (ht : t.Ok) (hb : TxB t) (ho : o.Ok) (ob1 : Bytes o.owner) (ob2 : Bytes o.other) (hB : 32 ≤ B) (hR : R o = true → 1 ≤ o.kind ∧ o.kind ≤ 5) (hfine : ckTx A t = true → t.Fine) (hTg : ∀ k t, Tg k t = T2 k (Nm t)) (hT : ∀ a b, (T2 a b).length = 32) (hH : ∀ a, (H1 a).length = 32) (hP : ∀ a, (PH a).length = 32) (hs : -9223372036854775808 ≤ since ∧ since < 9223372036854775808) (hh : -9223372036854775808 ≤ height ∧ height < 9223372036854775808) (hF : F = spendF A Nm T2 H1 PH R t at_ o since height) :
    evF (E61 A R Tg PH H1 B) 20 24 [.agg t.c, .int .i64 at_, .agg o.c, .int .i64 since, .int .i64 height] ⟨0, []⟩ (outM 0 (.ret (.int .i64 F)) 0 []) := by
  refine @Eq.mpr _ (let q1 := t.N;
 let q2 := t.M;
 let q3 := iteB (decide (2 = F)) True False;
 let q4 := ↑q1;
 let q5 := o.owner;
 let q6 := o.other;
 let q7 := o.point;
 let q8 := o.hash;
 let q9 := o.kind;
 let q10 := t.ins (Int.toNat at_);
 let q11 := q10.tag;
 let q12 := List.length q11 = 32;
 let q13 := q10.way;
 let q14 := iteB (decide (171 = F)) True False;
 let q15 := iteB (decide (0 = F)) True False;
 let q16 := q10.also;
 let q17 := q10.secret;
 let q18 := List.length q17;
 let q19 := decide (q18 = 32);
 let q20 := PH q17;
 let q21 := H1 q17;
 let q22 := q9 == 4;
 let q23 := q9 == 5;
 ∃ (t_1 : TxS),
 (t_1.num = t.num ∧ ((q1 = q1 ∧ t_1.N = q1) ∧ ∀ (i : Nat), i < q1 → inRows t.ins i = InS.c (t_1.ins i)) ∧ (q2 = q2 ∧ t_1.M = q2) ∧ ∀ (i : Nat), i < q2 → outRows t.outs i = OutS.c (t_1.outs i)) ∧
 TxS.Ok t_1 ∧
 TxB t_1 ∧
 iteB (!ckTx A t_1) q3
 (iteB (decide (at_ < 0)) q3
 (iteB (decide (at_ ≥ q4)) q3
 (iteB (decide (List.length q5 = 32 ∧ List.length q6 = 32 ∧ List.length q7 = 32 ∧ List.length q8 = 32))
 ((Bytes q5 ∧ Bytes q6) ∧
 iteB (!R (OutS.mk q9 o.amount q5 q6 q7 q8 o.delay o.expiry)) q3
 (iteB (decide (since < 0)) q3
 (iteB (decide (height < since)) q3
 (iteB (decide (0 ≤ at_ ∧ at_ < q4))
 (∃ (t_2 : TxS),
 let q47 := q11 == Tg q5 t_2;
 let q48 := iteB (!q47) q14 q15;
 let q49 := iteB q23 q48 q14;
 (t_2.num = t.num ∧ ((q1 = q1 ∧ t_2.N = q1) ∧ ∀ (i : Nat), i < q1 → inRows t.ins i = InS.c (t_2.ins i)) ∧ (q2 = q2 ∧ t_2.M = q2) ∧ ∀ (i : Nat), i < q2 → outRows t.outs i = OutS.c (t_2.outs i)) ∧
 (TxS.Fine t_2 ∧ q12 ∧ List.length q5 = 32) ∧
 ∃ (t_3 : TxS),
 let q53 := iteB q23 (iteB (!q11 == Tg q6 t_3) q14 q15) q14;
 (t_3.num = t.num ∧ ((q1 = q1 ∧ t_3.N = q1) ∧ ∀ (i : Nat), i < q1 → inRows t.ins i = InS.c (t_3.ins i)) ∧ (q2 = q2 ∧ t_3.M = q2) ∧ ∀ (i : Nat), i < q2 → outRows t.outs i = OutS.c (t_3.outs i)) ∧
 (TxS.Fine t_3 ∧ q12 ∧ List.length q6 = 32) ∧
 iteB (q9 == 1) (iteB (q13 == 2) q48 q14) (iteB (q9 == 2) (iteB (q13 == 1) (iteB q47 (∃ (t_4 : TxS), (t_4.num = t.num ∧ ((q1 = q1 ∧ t_4.N = q1) ∧ ∀ (i : Nat), i < q1 → inRows t.ins i = InS.c (t_4.ins i)) ∧ (q2 = q2 ∧ t_4.M = q2) ∧ ∀ (i : Nat), i < q2 → outRows t.outs i = OutS.c (t_4.outs i)) ∧ (TxS.Fine t_4 ∧ List.length q16 = 32 ∧ List.length q6 = 32) ∧ iteB (!q16 == Tg q6 t_4) q14 q15) q14) q14) (iteB (q13 == 4) (iteB q19 (iteB (decide (List.length q20 = 32 ∧ List.length q7 = 32)) (iteB (!q20 == q7) q14 q15) False) False) (iteB (q9 == 3) (iteB (q13 == 3) (iteB q47 (iteB (!decide (IntKind.wrap IntKind.i64 (height - since) ≥ o.delay)) q14 q15) q14) q14) (iteB (q13 == 5) (iteB q19 (iteB (decide (32 = q18)) (iteB (decide (q18 ≤ B)) (iteB (decide (List.length q21 = 32 ∧ List.length q8 = 32)) (iteB (q21 == q8) (iteB q22 (iteB (q11 == Tg q6 t_3) q15 q49) q49) q14) False) False) False) False) (iteB (q13 == 6) (iteB (decide (height ≥ o.expiry)) (iteB q22 (iteB q47 q15 q53) q53) q14) q14))))))
 False))))
 False)))) (by kernel_rfl) ?_
  conv => zeta
  try simp only [need_eq]
  try simp only [nope_eq]
  try simp only [iteD_eq]
  try simp only [iteT_eq]
  try simp only [iteF_eq]
  try simp only [iteE_eq]
  try simp only [Int.toNat_natCast, Nat.zero_add, true_and, and_true, Nat.le_refl]
  have hrow : (t.num = t.num ∧ (t.N = t.N ∧ ∀ (i : Nat), i < t.N → inRows t.ins i = (t.ins i).c) ∧ t.M = t.M ∧ ∀ (i : Nat), i < t.M → outRows t.outs i = (t.outs i).c) := ⟨rfl, ⟨rfl, fun _ _ => rfl⟩, rfl, fun _ _ => rfl⟩
  obtain ⟨o1, o2, o3, o4⟩ := ho
  refine ⟨t, hrow, ht, hb, fun hc => (by rw [hF, spendF_2 (.inl (by simpa using hc))]), fun hc => ?_⟩
  have hc : ckTx A t = true := by simpa using hc
  refine ⟨fun h1 => (by rw [hF, spendF_2 (by simp [h1])]), fun h1 => ⟨fun h2 => (by rw [hF, spendF_2 (by simp [h2])]), fun h2 => ⟨⟨o1, o2, o3, o4⟩, ⟨ob1, ob2⟩, fun h3 => ?_, fun h3 => ⟨fun h4 => (by rw [hF, spendF_2 (by simp [h4])]), fun h4 => ⟨fun h5 => (by rw [hF, spendF_2 (by simp [h5])]), fun h5 => ⟨⟨by omega, by omega⟩, ?_⟩⟩⟩⟩⟩⟩
  · have h3 : R o = false := by simpa using h3
    rw [hF, spendF_2 (by simp [h3])]
  have h3' : R o = true := by simpa using h3
  have hG := hF.trans (spendF_n (by simp [h3', hc, h2, h5]; omega))
  clear hF
  have hf := hfine hc
  have hk := hR h3'
  obtain ⟨l1, l2, l3, l4⟩ := ht.ins at_.toNat (by omega)
  generalize t.ins at_.toNat = x at *
  refine ⟨t, hrow, ⟨hf, l2, o1⟩, t, hrow, ⟨hf, l2, o2⟩, ?_⟩
  rw [hTg, hTg]
  generalize hnm : Nm t = nm at *
  have hw : IntKind.i64.wrap (height - since) = height - since := w64 (by omega)
  rw [hw]
  unfold rightI at hG
  have q3 := hP x.secret
  have q4 := hH x.secret
  have hsy : ∀ a b : List Int, (a == b) = (b == a) := fun a b => BEq.comm
  rw [hsy x.tag, hsy x.tag]
  clear hT hP hH h3 hR hfine
  repeat' (first | (refine And.intro ?_ ?_) | intro _ | (refine ⟨t, hrow, ⟨hf, l3, o2⟩, ?_⟩; rw [hTg, hnm, hsy x.also]))
  all_goals first | omega | assumption | trivial | skip
  all_goals (rw [hG]; clear hG hTg hrow; simp_all)
  all_goals first | omega | (split <;> simp <;> intros <;> omega)
theorem E61_ok {A : List Int → Int × Int} (hA : A = addM) {Tg : List Int → TxS → List Int} {PH H1 : List Int → List Int} {B : Nat}
    (hby : ∀ args h K, byRS Tg args h K → CallsA PP 56 args h fun o h' => ∃ v, o = .ret v ∧ h' = h ∧ K v) (hpo : ∀ args h K, hash1S PH args h K → CallsA PP 57 args h fun o h' => ∃ v, o = .ret v ∧ h' = h ∧ K v)
    (hsu : ∀ args h K, hashS H1 B args h K → CallsA PP 58 args h fun o h' => ∃ v, o = .ret v ∧ h' = h ∧ K v) : (E61 A outRight Tg PH H1 B).Ok := by
  subst hA
  exact Env2.withP_ok (Env2.withP_ok (Env2.withP_ok (Env2.withP_ok (Env2.withP_ok G0_ok rightS_ok) out46_ok) hby) hpo) hsu
def spendRS (F : TxS → Int → OutS → Int → Int → Int) : PSumm := fun args h K => viewL none h true 20 args fun a => match a with
  | [.agg l, .int .i64 at_, .agg cs, .int .i64 since, .int .i64 height] => ∃ t o, isTx l t ∧ cs = OutS.c o ∧ (t.Ok ∧ TxB t ∧ o.Ok ∧ (Bytes o.owner ∧ Bytes o.other) ∧ (-9223372036854775808 ≤ since ∧ since < 9223372036854775808) ∧ -9223372036854775808 ≤ height ∧ height < 9223372036854775808) ∧ K (.int .i64 (F t at_ o since height))
  | _ => False
end Go.Tk
end
section
namespace Go.Tk
theorem Bytes.u8 {xs : List Int} (h : Bytes xs) : ∀ x ∈ xs, U8 x := by
  intro x hx
  obtain ⟨i, hi, rfl⟩ := List.getElem_of_mem hx
  have := h.h i
  rw [List.getD_eq_getElem?_getD, List.getElem?_eq_getElem hi] at this
  simp at this
  unfold U8
  omega
theorem Bytes.of {xs : List Int} (h : ∀ x ∈ xs, U8 x) : Bytes xs := ⟨fun i => by
  have := getD_all (P := U8) h (by unfold U8; omega) i
  unfold U8 at this
  omega⟩
theorem hashOk : HashOk (twiceR sumD) (hmacR sumD) where
  h := fun args h K hl => twiceR_ok (B := 100000) (fun xs hx => sumD_pure xs (by omega)) (by decide) sumD_len args h K hl
  t := fun args h K hl => tagRS_ok (B := 100000) (fun xs hx => sumD_pure xs (by omega)) (by decide) sumD_len args h K hl
  r := bytesrF_ok
  hl := fun x => by unfold twiceR; exact sumD_len _
theorem hmacD_len (a b : List Int) : (hmacR sumD a b).length = 32 := by unfold hmacR; exact sumD_len _
theorem pointD_len (a : List Int) : (pointR sumD a).length = 32 := by unfold pointR; exact sumD_len _
@[irreducible] def nameD (t : TxS) : List Int := nameR (twiceR sumD) t
@[irreducible] def tagD (key : List Int) (t : TxS) : List Int := tagtR (twiceR sumD) (hmacR sumD) key t
theorem nameD_len (t : TxS) : (nameD t).length = 32 := by unfold nameD nameR twiceR; exact sumD_len _
theorem tagD_len (k : List Int) (t : TxS) : (tagD k t).length = 32 := by unfold tagD tagtR; exact hmacD_len _ _
theorem nameD_ok (args : List AV) (h : Heap) (K : AV → Prop) (hl : nameRS nameD args h K) : CallsA PP 20 args h fun o h' => ∃ v, o = .ret v ∧ h' = h ∧ K v := nameRS_ok hashOk args h K (by
  have e : nameD = nameR (twiceR sumD) := by funext t; unfold nameD; rfl
  rw [e] at hl; exact hl)
theorem tagD_ok (args : List AV) (h : Heap) (K : AV → Prop) (hl : tagtRS tagD args h K) : CallsA PP 21 args h fun o h' => ∃ v, o = .ret v ∧ h' = h ∧ K v := tagtRS_ok hashOk args h K (by
  have e : tagD = tagtR (twiceR sumD) (hmacR sumD) := by funext k t; unfold tagD; rfl
  rw [e] at hl; exact hl)
theorem nameD_eq {t : TxS} (hf : t.Fine) (hb : TxAll t) : nameD t = nameT t := by
  have h1 := rawO_len hf true (Nat.le_refl t.M)
  have h2 : (rawT numW t true).length ≤ 20000 := h1
  unfold nameD nameR nameT
  exact twice_eq (rawT_bytes hb true).u8 (by omega)
theorem shaT2_U8 (bs : List Int) : ∀ x ∈ shaT2 bs, U8 x := by unfold shaT2; exact sha1_U8 _
theorem nameT_U8 (t : TxS) : ∀ x ∈ nameT t, U8 x := by unfold nameT; exact shaT2_U8 _
theorem tagD_hmac (key : List Int) (t : TxS) : tagD key t = hmacR sumD key (nameD t) := by unfold tagD tagtR nameD nameR; rfl
theorem tagT'_hmac (key : List Int) (t : TxS) : tagT' key t = hmac1 key (nameT t) := by unfold tagT' nameT; rfl
theorem tagD_eq {key : List Int} {t : TxS} (hf : t.Fine) (hb : TxAll t) (hk : key.length = 32) : tagD key t = tagT' key t := by
  rw [tagD_hmac, tagT'_hmac, nameD_eq hf hb, hmac_eq hk (nameT_len t) (nameT_U8 t)]
theorem hmac1_U8 (key ms : List Int) : ∀ x ∈ hmac1 key ms, U8 x := by unfold hmac1; rw [sha2_all]; exact sha1_U8 _
theorem tagT'_bytes (key : List Int) (t : TxS) : Bytes (tagT' key t) := .of (by rw [tagT'_hmac]; exact hmac1_U8 _ _)
@[irreducible] def spendD (t : TxS) (at_ : Int) (o : OutS) (since height : Int) : Int := spendF addM nameD (hmacR sumD) sumD (pointR sumD) outRight t at_ o since height
@[irreducible] def spendP (t : TxS) (at_ : Int) (o : OutS) (since height : Int) : Int := spendF addM nameT hmac1 sha1 pointH outRight t at_ o since height
theorem outRight_kind {o : OutS} (h : outRight o = true) : 1 ≤ o.kind ∧ o.kind ≤ 5 := (outRight_facts h).1
theorem spendD_ok (args : List AV) (h : Heap) (K : AV → Prop) (hl : spendRS spendD args h K) : CallsA PP 24 args h fun o h' => ∃ v, o = .ret v ∧ h' = h ∧ K v := by
  refine Pure.psumm (d := 20) (viewL_weak _ _ _ _ _ hl fun a ha => ?_)
  split at ha
  · obtain ⟨t, o, h1, rfl, ⟨h2, h3, h4, ⟨h5, h6⟩, h7, h8⟩, hK⟩ := ha
    have hE : (E61 addM outRight tagD (pointR sumD) sumD 100000).Ok := E61_ok rfl (fun args h K hl => byRS_ok hashOk hmacD_len args h K (by
        have e : tagD = tagtR (twiceR sumD) (hmacR sumD) := by funext k t; unfold tagD; rfl
        rw [e] at hl; exact hl))
      (pointRS_ok (B := 100000) (fun xs hx => sumD_pure xs (by omega)) (by decide) sumD_len) (hashS_ok (B := 100000) fun xs hx => sumD_pure xs (by omega))
    exact ⟨_, (Pure.evM hE (sp_1 addM nameD (hmacR sumD) sumD (pointR sumD) 100000 outRight tagD t _ o _ _ _ h2 h3 h4 h5 h6 (by decide) outRight_kind (fun hc => ckTx_fine h2 hc) tagD_hmac hmacD_len sumD_len pointD_len h7 h8 rfl)).conv fun E r hr => hr.head (fun _ hc => h1.rel hc) (fun _ hc => hc), fun _ => rfl, by unfold spendD at hK; exact hK⟩
  · exact ha.elim
theorem spendP_ok (args : List AV) (h : Heap) (K : AV → Prop) (hl : spendS spendP args h K) : CallsA PP 23 args h fun o h' => ∃ v, o = .ret v ∧ h' = h ∧ K v := spendS_ok args h K (by
  have e : spendP = spendF addM nameT hmac1 sha1 pointH outRight := by funext t a o s h; unfold spendP; rfl
  rw [e] at hl; exact hl)
theorem spend_eq {t : TxS} {at_ : Int} {o : OutS} {since height : Int} (ht : t.Ok) (hb : TxAll t) (ho : o.Ok) (hob : o.By) : spendD t at_ o since height = spendP t at_ o since height := by
  unfold spendD spendP
  by_cases h : ckTx addM t = false ∨ at_ < 0 ∨ at_ ≥ t.N ∨ outRight o = false ∨ since < 0 ∨ height < since
  · rw [spendF_2 h, spendF_2 h]
  · rw [spendF_n h, spendF_n h]
    have hc : ckTx addM t = true := by
      cases hc : ckTx addM t with
      | true => rfl
      | false => exact absurd (.inl hc) h
    have hi : at_.toNat < t.N := by
      have h1 : ¬ at_ < 0 := fun h1 => h (.inr (.inl h1))
      have h2 : ¬ at_ ≥ t.N := fun h2 => h (.inr (.inr (.inl h2)))
      omega
    have hf := ckTx_fine ht hc
    have hx := hb.ins _ hi
    have hl := ht.ins _ hi
    have e1 : ∀ k : List Int, k.length = 32 → hmacR sumD k (nameD t) = hmac1 k (nameT t) := fun k hk => by rw [nameD_eq hf hb, hmac_eq hk (nameT_len t) (nameT_U8 t)]
    generalize t.ins at_.toNat = x at *
    have e2 : pointR sumD x.secret = pointH x.secret := point_eq hl.secret hx.secret.u8
    have e3 : sumD x.secret = sha1 x.secret := sumD_eq hx.secret.u8 (by rw [hl.secret]; decide)
    unfold rightI
    rw [e1 _ ho.owner, e1 _ ho.other, e2, e3]
end Go.Tk
end
section
namespace Go.Tk
theorem Emb.more {E : Env} {h h' : Heap} {w : World} (he : Emb E h w) (hn : h.next ≤ h'.next) (hg : ∀ x B, h'.get x = some B → h.get x = some B ∨ (h.next ≤ x ∧ x < h'.next ∧ ∃ sz f, B = .rows sz 0 f)) : Emb E h' w where
  fresh := fun x hx => he.fresh x (by omega)
  lt := fun x B hB => by
    rcases hg x B hB with h1 | ⟨_, h2, _⟩
    · have := he.lt x B h1; omega
    · exact h2
  own := fun x B hB => by
    rcases hg x B hB with h1 | ⟨h1, _, sz, f, rfl⟩
    · exact he.own x B h1
    · exact .rows0 sz 0 f rfl (he.fresh x h1)
  disj := fun x y B B' b N N' hx hy ex ey => by
    rcases hg x B hx with h1 | ⟨h1, _⟩
    · rcases hg y B' hy with h2 | ⟨h2, _⟩
      · exact he.disj x y B B' b N N' h1 h2 ex ey
      · rw [he.fresh y h2] at ey; cases ey
    · rw [he.fresh x h1] at ex; cases ex
  imm := he.imm
  sep := fun a c x B N hi hx ex => by
    rcases hg x B hx with h1 | ⟨h1, _⟩
    · exact he.sep a c x B N hi h1 ex
    · rw [he.fresh x h1] at ex; cases ex
theorem Evo.more {E E' : Env} {h h' h'' : Heap} {w w' : World} (k : Evo E h w E' h' w') (hn : h'.next ≤ h''.next) (hg : ∀ x B, h''.get x = some B → h'.get x = some B ∨ (h'.next ≤ x ∧ x < h''.next ∧ ∃ sz f, B = .rows sz 0 f)) : Evo E h w E' h'' w' where
  le := k.le
  emb := k.emb.more hn hg
  size := k.size
  os := k.os
  tape := k.tape
  output := k.output
  keep := k.keep
  own := fun b ⟨x, B, N, hx, ex⟩ => by
    rcases hg x B hx with h1 | ⟨h1, _⟩
    · exact k.own b ⟨x, B, N, h1, ex⟩
    · rw [k.emb.fresh x h1] at ex; cases ex
  imm := k.imm
theorem get_cons2 {n x : Nat} {B C D : Blk} {bs : List (Nat × Blk)} (h : getB ((n, B) :: (n + 1, C) :: bs) x = some D) : getB bs x = some D ∨ (x = n ∧ D = B) ∨ (x = n + 1 ∧ D = C) := by
  unfold getB at h
  split at h
  · rename_i e; cases h; exact .inr (.inl ⟨(Nat.eq_of_beq_eq_true e).symm, rfl⟩)
  · unfold getB at h
    split at h
    · rename_i e; cases h; exact .inr (.inr ⟨(Nat.eq_of_beq_eq_true e).symm, rfl⟩)
    · exact .inl h
def parTx (R : List Int → Option TxS) (xs : List Int) : TxS := (R xs).getD zTx
def parE (R : List Int → Option TxS) (xs : List Int) : Int := match R xs with | some _ => 0 | none => 170
def uTup (t : TxS) (e : Int) (n : Nat) : AV := .tuple [.agg [.int .i64 t.num, .nslice ⟨n, 0, 130, 0, 0⟩ 130 t.N t.N, .nslice ⟨n + 1, 0, 132, 0, 0⟩ 132 t.M t.M], .int .i64 e]
def uHeap (t : TxS) (h : Heap) : Heap := ⟨h.next + 2, (h.next, .rows 130 t.N (inRows t.ins)) :: (h.next + 1, .rows 132 t.M (outRows t.outs)) :: h.bs⟩
theorem uni {P : Program} {f : FuncId} {args : List AV} {h : Heap} {K : KO} (hc : CallsA P f args h fun o h' => ∃ r : Option TxS, K (.ret (uTup (r.getD zTx) (match r with | some _ => 0 | none => 170) h.next)) (uHeap (r.getD zTx) h) ∧
      match r with | some t => o = .ret (uTup t 0 h.next) ∧ h' = uHeap t h | none => o = .ret zeroTx ∧ h' = ⟨h.next, h.bs⟩) : CallsA P f args h K := by
  intro E w rs he hr
  refine (hc E w rs he hr).mono ?_
  rintro e w' ⟨E', o, h', ⟨r, hK, h1⟩, h2, h3⟩
  cases r with
  | some t => obtain ⟨rfl, rfl⟩ := h1; exact ⟨E', _, _, hK, h2, h3⟩
  | none =>
    obtain ⟨rfl, rfl⟩ := h1
    refine ⟨E', _, _, hK, h2.more (by show h.next ≤ h.next + 2; omega) fun x B hB => ?_, ?_⟩
    · rcases get_cons2 hB with h | ⟨rfl, rfl⟩ | ⟨rfl, rfl⟩
      · exact .inl h
      · exact .inr ⟨Nat.le_refl _, by show h.next < h.next + 2; omega, _, _, rfl⟩
      · exact .inr ⟨Nat.le_succ _, by show h.next + 1 < h.next + 2; omega, _, _, rfl⟩
    · cases h3 with
      | ret v r hv =>
        cases hv with | tuple _ _ hl =>
        cases hl with | cons _ c _ cs q1 hl =>
        cases hl with | cons _ c2 _ cs q2 hl =>
        cases hl
        cases q1 with | agg _ _ hc =>
        obtain ⟨c1, ws, rfl, _, p1, p2, hc⟩ := CRel.cons_cell hc (fun _ _ _ h => by cases h)
        obtain ⟨c3, ws, rfl, _, p3, p4, hc⟩ := CRel.cons_cell hc (fun _ _ _ h => by cases h)
        obtain ⟨c4, ws, rfl, _, p5, p6, hc⟩ := CRel.cons_cell hc (fun _ _ _ h => by cases h)
        cases hc
        cases p4
        cases p6
        exact .ret _ _ (.tuple _ _ (.cons _ _ _ _ (.agg _ _ (.one _ _ _ _ rfl p1 p2 (.one _ _ _ _ rfl p3 (.nslice0 _ _ _ _ _ rfl rfl) (.one _ _ _ _ rfl p5 (.nslice0 _ _ _ _ _ rfl rfl) .nil)))) (.cons _ _ _ _ q2 .nil)))
def parseU (T : List Int → TxS) (F : List Int → Int) : FSumm := fun args h K => viewL none h true 20 args fun a => match a with
  | [.vints .u8 xs n] => need (xs.length = n ∧ n < 90000000000000) (Bytes xs ∧ ((T xs).Ok → K (.ret (uTup (T xs) (F xs) h.next)) (uHeap (T xs) h)))
  | _ => False
theorem parseU_ok (args : List AV) (h : Heap) (K : KO) (hl : parseU (parTx (parseT (firstB numW) addM)) (parE (parseT (firstB numW) addM)) args h K) : CallsA PP 11 args h K := by
  refine uni (parseS_ok args h _ (viewL_weak _ _ _ _ _ hl fun a ha => ?_))
  split at ha
  · obtain ⟨h1, _, hK⟩ := need_ok ha
    refine need_mk h1 ⟨fun t e ht => ⟨some t, ?_, rfl, rfl⟩, fun e => ⟨none, ?_, rfl, rfl⟩⟩
    · unfold parTx parE at hK; rw [e] at hK; exact hK ht
    · unfold parTx parE at hK; rw [e] at hK; exact hK zTx_ok
  · exact ha.elim
theorem parserU_ok (args : List AV) (h : Heap) (K : KO) (hl : parseU (parTx (parseT (firstB numW) addM)) (parE (parseT (firstB numW) addM)) args h K) : CallsA PP 12 args h K := by
  refine uni (parserT_ok args h _ (viewL_weak _ _ _ _ _ hl fun a ha => ?_))
  split at ha
  · obtain ⟨h1, hb, hK⟩ := need_ok ha
    refine ⟨⟨h1.1, hb⟩, fun t e ht _ => ⟨some t, ?_, rfl, rfl⟩, fun e => ⟨none, ?_, rfl, rfl⟩⟩
    · unfold parTx parE at hK; rw [e] at hK; exact hK ht
    · unfold parTx parE at hK; rw [e] at hK; exact hK zTx_ok
  · exact ha.elim
noncomputable def E46 (T : List Int → TxS) (F : List Int → Int) (S : TxS → TxS → Bool) (R : TxS → Bool → List Int) (A : List Int → Int × Int) : Env2 := (((((G0.withP 10 worksS).withP 13 (sametS S)).withF 11 (parseU T F)).withF 12 (parseU T F)).withP 16 (rightS A)).withF 48 (rawF R)
theorem E46_ok : (E46 (parTx (parseT (firstB numW) addM)) (parE (parseT (firstB numW) addM)) sameT (rawT numW) addM).Ok :=
  Env2.withF_ok (Env2.withP_ok (Env2.withF_ok (Env2.withF_ok (Env2.withP_ok (Env2.withP_ok G0_ok worksS_ok) samer_ok) parseU_ok) parserU_ok) rightS_ok) bytesrF_ok
end Go.Tk
end
section
namespace Go.Tk
def in77 : InS := ⟨zero32, 77, 0, zero32, zero32, zero32⟩
def out77 : OutS := ⟨0, 77, zero32, zero32, zero32, zero32, 0, 0⟩
def snoc {α : Type} (n : Nat) (g : Nat → α) (x : α) : Nat → α := fun i => if i = n then x else g i
set_option maxRecDepth 100000 in
set_option maxHeartbeats 0 in
theorem cop_1 (t : TxS) (N M N1 M1 : Nat) (f : Nat → InS) (g : Nat → OutS) (hN : N = t.N) (hM : M = t.M) (hN1 : N1 = t.N + 1) (hM1 : M1 = t.M + 1) (h1 : t.N ≤ 30) (h2 : t.M ≤ 30) (hf : f = snoc t.N t.ins in77) (hg : g = snoc t.M t.outs out77) :
    evF G0 20 22 [.agg t.c] ⟨0, []⟩ (outM 0 (.ret (.agg [.int .i64 t.num, .nslice ⟨0, 0, 130, 0, 0⟩ 130 N N1, .nslice ⟨1, 0, 132, 0, 0⟩ 132 M M1])) 2 [(0, .rows 130 N1 (inRows f)), (1, .rows 132 M1 (outRows g))]) := by
  refine @Eq.mpr _ (let q1 := t.N;
 let q2 := ↑q1;
 let q3 := decide (q2 = q2);
 let q4 := decide (q1 = q1);
 let q5 := inRows t.ins;
 let q6 := q5 = q5;
 let q7 := 0 + q1;
 let q8 := decide (q7 * 144 ≤ 140737488355328);
 let q9 := q7 + 1;
 let q10 := t.M;
 let q11 := ↑q10;
 let q12 := decide (q11 = q11);
 let q13 := decide (q10 = q10);
 let q14 := outRows t.outs;
 let q15 := q14 = q14;
 let q16 := 0 + q10;
 let q17 := decide (q16 * 160 ≤ 140737488355328);
 let q18 := q16 + 1;
 let q19 := [(1, 7), (0, 4)];
 let q20 := AV.arr IntKind.u8 32 zero32;
 let q21 := AV.int IntKind.i64 0;
 let q22 := iteB q12 (iteB q13 (q15 ∧ iteB q13 (iteB (decide (q16 = q16)) (iteB (decide (q18 * 160 ≤ 140737488355328)) (iteB q12 (iteB q13 (q15 ∧ iteB q13 (iteB (decide (q18 ≤ q18)) (iteB (decide (0 ≤ q11 ∧ q11 ≤ ↑q18)) (iteB (decide (t.num = t.num)) (iteB (decide (subO (Int.toNat q2) none = N)) (iteB (decide (N1 ≤ subO q9 none)) (iteB (decide (subO (Int.toNat q11) none = M)) (iteB (decide (M1 ≤ subO q18 none)) (iteB (decide (q9 = N1)) (RowsEq 0 q19 N1 (inRows f) (catF q7 (catF 0 (fun (x : Nat) => []) q5) (rowC [q20, AV.int IntKind.i64 77, q21, q20, q20, q20] 0 130)) ∧ iteB (decide (q18 = M1)) (RowsEq 0 q19 M1 (outRows g) (catF q16 (catF 0 (fun (x : Nat) => []) q14) (rowC [q21, AV.int IntKind.i64 77, q20, q20, q20, q20, q21, q21] 0 132)) ∧ True) False) False) False) False) False) False) False) False) False) False) False) False) False) False) False) False) False;
 let q23 := iteB q12 (iteB q13 (q15 ∧ iteB q13 (iteB q13 (q15 ∧ iteB q13 (iteB q17 q22 False) False) False) False) False) False;
 let q24 := iteB q3 (iteB q4 (q6 ∧ iteB q4 (iteB (decide (q7 = q7)) (iteB (decide (q9 * 144 ≤ 140737488355328)) (iteB q3 (iteB q4 (q6 ∧ iteB q4 (iteB (decide (q9 ≤ q9)) (iteB (decide (0 ≤ q2 ∧ q2 ≤ ↑q9)) (iteB q12 (iteB q13 (q15 ∧ iteB q13 (iteB q13 (q15 ∧ iteB q13 (iteB q17 (iteB q12 (iteB q13 (q15 ∧ iteB q13 q22 False) False) False) False ∧ q23) False) False) False) False) False ∧ iteB q12 (iteB q13 (q15 ∧ iteB q13 (iteB q13 (q15 ∧ iteB q13 q23 False) False) False) False) False) False) False) False) False) False) False) False) False) False) False;
 let q25 := iteB q3 (iteB q4 (q6 ∧ iteB q4 (iteB q4 (q6 ∧ iteB q4 (iteB q8 q24 False) False) False) False) False) False;
 iteB q3 (iteB q4 (q6 ∧ iteB q4 (iteB q4 (q6 ∧ iteB q4 (iteB q8 (iteB q3 (iteB q4 (q6 ∧ iteB q4 q24 False) False) False) False ∧ q25) False) False) False) False) False ∧ iteB q3 (iteB q4 (q6 ∧ iteB q4 (iteB q4 (q6 ∧ iteB q4 q25 False) False) False) False) False) (by kernel_rfl) ?_
  conv => zeta
  try simp only [need_eq]
  try simp only [nope_eq]
  try simp only [iteD_eq]
  try simp only [iteT_eq]
  try simp only [iteF_eq]
  try simp only [iteE_eq]
  try simp only [Int.toNat_natCast, Nat.zero_add, true_and, and_true, Nat.le_refl]
  subst hN hM hN1 hM1 hf hg
  have R1 : ∀ τ, RowsEq 0 τ (t.N + 1) (inRows (snoc t.N t.ins in77)) (catF t.N (catF 0 (fun _ => []) (inRows t.ins)) (rowC in77.c 0 130)) := fun τ => inRowsEq fun q hq => by
    have : catF 0 (fun _ => []) (inRows t.ins) = inRows t.ins := funext fun q => by rw [catF_ge (Nat.zero_le _)]; rfl
    rw [this]
    exact catIn (x := in77) hq
  have R2 : ∀ τ, RowsEq 0 τ (t.M + 1) (outRows (snoc t.M t.outs out77)) (catF t.M (catF 0 (fun _ => []) (outRows t.outs)) (rowC out77.c 0 132)) := fun τ => outRowsEq fun q hq => by
    have : catF 0 (fun _ => []) (outRows t.outs) = outRows t.outs := funext fun q => by rw [catF_ge (Nat.zero_le _)]; rfl
    rw [this]
    exact catOut (x := out77) hq
  repeat' (first | (refine And.intro ?_ ?_) | intro _)
  all_goals first | exact R1 _ | exact R2 _ | rfl | (simp only [subO_none, Nat.zero_add]; omega) | omega | trivial | skip
theorem cop_pure (t : TxS) (h1 : t.N ≤ 30) (h2 : t.M ≤ 30) : Pure PP 22 [.agg t.c] (.agg [.int .i64 t.num, .nslice ⟨0, 0, 130, 0, 0⟩ 130 t.N (t.N + 1), .nslice ⟨1, 0, 132, 0, 0⟩ 132 t.M (t.M + 1)]) 2 [(0, .rows 130 (t.N + 1) (inRows (snoc t.N t.ins in77))), (1, .rows 132 (t.M + 1) (outRows (snoc t.M t.outs out77)))] :=
  .evM G0_ok (cop_1 t _ _ _ _ _ _ rfl rfl rfl rfl h1 h2 rfl rfl)
def copS : FSumm := fun args h K => viewL none h true 20 args fun a => match a with
  | [.agg l] => ∃ t, isTx l t ∧ (t.N ≤ 30 ∧ t.M ≤ 30) ∧ K (.ret (.agg [.int .i64 t.num, .nslice ⟨h.next, 0, 130, 0, 0⟩ 130 t.N (t.N + 1), .nslice ⟨h.next + 1, 0, 132, 0, 0⟩ 132 t.M (t.M + 1)])) ⟨h.next + 2, (h.next, .rows 130 (t.N + 1) (inRows (snoc t.N t.ins in77))) :: (h.next + 1, .rows 132 (t.M + 1) (outRows (snoc t.M t.outs out77))) :: h.bs⟩
  | _ => False
theorem copS_ok (args : List AV) (h : Heap) (K : KO) (hl : copS args h K) : CallsA PP 22 args h K := by
  refine Pure.fsumm (d := 20) (viewL_weak _ _ _ _ _ hl fun a ha => ?_)
  split at ha
  · obtain ⟨t, h1, h2, hK⟩ := ha
    exact ⟨_, _, _, _, (cop_pure t h2.1 h2.2).conv fun E r hr => hr.head (fun _ hc => h1.rel hc) (fun _ hc => hc), rfl, ⟨by decide, .rows _ _ _ (fun i _ => (snoc t.N t.ins in77 i).plainC), by decide, .rows _ _ _ (fun i _ => (snoc t.M t.outs out77 i).plainC), trivial⟩, hK⟩
  · exact ha.elim
end Go.Tk
end
section
namespace Go.Tk
def rsuS (t : TxS) (i : Nat) (s : Int) : St := ⟨21, [(4, .int .i64 i), (1, .ptr (some ⟨0, 0, 0, 0, 0⟩)), (3, .int .i64 s)], ⟨1, [(0, .flat t.c)]⟩, []⟩
def rsuE (t : TxS) (s : Int) : St := ⟨21, [(1, .ptr (some ⟨0, 0, 0, 0, 0⟩)), (3, .int .i64 s)], ⟨1, [(0, .flat t.c)]⟩, []⟩
set_option maxRecDepth 100000 in
set_option maxHeartbeats 0 in
theorem su_0 (t : TxS) (i : Nat) (s s' : Int) (Z1 Z2 : Prop) (hi : i ≤ t.M) (hM : t.M ≤ 24) (hs : 0 ≤ s ∧ s ≤ i * 1125899906842624) (ha : i < t.M → 0 < (t.outs i).amount ∧ (t.outs i).amount ≤ 1125899906842624) (hs' : s' = s + (t.outs i).amount) (h1 : i < t.M → Z1) (h2 : i = t.M → Z2) :
    roundE G0 20 32 0 0 (rsuS t i s) (rdM 0 0 9 (rsuS t (i + 1) s') (rsuE t s) (rsuE t s) (rsuE t s) Z1 Z2 False False) := by
  refine @Eq.mpr _ (let q1 := t.M;
 let q2 := decide (t.num = t.num);
 let q3 := decide (t.N = t.N);
 let q4 := inRows t.ins;
 let q5 := q4 = q4;
 let q6 := decide (q1 = q1);
 let q7 := outRows t.outs;
 let q8 := q7 = q7;
 iteB (decide ((↑i : Int) < (↑q1 : Int))) (iteB (decide (0 ≤ (↑i : Int) ∧ (↑i : Int) < (↑q1 : Int))) (iteB (decide (IntKind.wrap IntKind.i64 ((↑i : Int) + 1) = (↑(i + 1) : Int))) (iteB (decide (IntKind.wrap IntKind.i64 (s + (t.outs (Int.toNat (↑i : Int))).amount) = s')) (iteB q2 (iteB q3 (q5 ∧ iteB q3 (iteB q6 (q8 ∧ iteB q6 Z1 False) False) False) False) False) False) False) False) (iteB (decide (s = s)) (iteB q2 (iteB q3 (q5 ∧ iteB q3 (iteB q6 (q8 ∧ iteB q6 Z2 False) False) False) False) False) False)) (by kernel_rfl) ?_
  conv => zeta
  try simp only [need_eq]
  try simp only [nope_eq]
  try simp only [iteD_eq]
  try simp only [iteT_eq]
  try simp only [iteF_eq]
  try simp only [iteE_eq]
  try simp only [Int.toNat_natCast, Nat.zero_add, true_and, and_true, Nat.le_refl]
  refine ⟨fun hlt => ?_, fun hge => h2 (by omega)⟩
  have hw := h1 (by omega)
  have := ha (by omega)
  have e1 : IntKind.i64.wrap ((i : Int) + 1) = ((i + 1 : Nat) : Int) := w64 (by omega)
  have e2 : IntKind.i64.wrap (s + (t.outs i).amount) = s + (t.outs i).amount := w64 (by omega)
  rw [e1, e2, hs']
  repeat' (first | (refine And.intro ?_ ?_) | intro _)
  all_goals first | omega | assumption | trivial
noncomputable def E50 (t : TxS) : Env2 := G0.withL 32 0 (goM 0 (rsuS t 0 0) (t.M ≤ 24 ∧ ∀ j, j < t.M → outRight (t.outs j) = true) (endsJ 0 t.M 9 (fun i => i < t.M) (fun i => i = t.M) (fun _ => False) (fun _ => False) (fun i => rsuE t (sumO t i)) (fun i => rsuE t (sumO t i)) (fun i => rsuE t (sumO t i))))
theorem E50_ok (t : TxS) : (E50 t).Ok := by
  unfold E50
  refine Env2.withGoM (N := 20) (S := fun i => rsuS t i (sumO t i)) G0_ok (by kernel_rfl) fun hC => ⟨by show rsuS t 0 (sumO t 0) = _; unfold sumO amL; rfl, fun i hi hgo => ?_⟩
  exact su_0 t i (sumO t i) (sumO t (i + 1)) _ _ hi hC.1 (sumO_le i fun j hj => hC.2 j (by omega)) (fun h => (outRight_facts (hC.2 i h)).2.1) (sumO_succ t i) (fun h => ⟨h, h⟩) (fun h => h)
set_option maxRecDepth 100000 in
set_option maxHeartbeats 0 in
theorem su_1 (t : TxS) (s : Int) (ht : t.Fine) (hs : s = sumO t t.M) :
    evF (E50 t) 20 32 [.agg t.c] ⟨0, []⟩ (outK 0 [] (.int .i64 s) 0 []) := by
  refine @Eq.mpr _ (let q1 := decide (t.N = t.N);
 let q2 := inRows t.ins;
 let q3 := t.M;
 let q4 := decide (q3 = q3);
 let q5 := outRows t.outs;
 iteB (decide (t.num = t.num)) (iteB q1 (q2 = q2 ∧ iteB q1 (iteB q4 (q5 = q5 ∧ iteB q4 ((q3 ≤ 24 ∧ ∀ (j : Nat), j < q3 → outRight (t.outs j) = true) ∧ ∀ (i : Nat), i ≤ q3 → (∀ (j : Nat), j < i → (fun (i : Nat) => i < q3) j) → (i = q3 → iteB (decide (sumO t i = s)) True False) ∧ (False → False) ∧ (False → False)) False) False) False) False) False) (by kernel_rfl) ?_
  conv => zeta
  try simp only [need_eq]
  try simp only [nope_eq]
  try simp only [iteD_eq]
  try simp only [iteT_eq]
  try simp only [iteF_eq]
  try simp only [iteE_eq]
  try simp only [Int.toNat_natCast, Nat.zero_add, true_and, and_true, Nat.le_refl]
  subst hs
  refine ⟨⟨ht.m, ht.outs⟩, fun i hi _ => ⟨fun he => ?_, fun h => h, fun h => h⟩⟩
  subst he
  first | exact trivial | exact ⟨rfl, trivial⟩ | rfl
def rsumS (U : TxS → Int) : PSumm := fun args h K => viewL none h true 20 args fun a => match a with
  | [.agg l] => ∃ t, isTx l t ∧ t.Fine ∧ K (.int .i64 (U t))
  | _ => False
theorem rsumS_ok (args : List AV) (h : Heap) (K : AV → Prop) (hl : rsumS (fun t => sumO t t.M) args h K) : CallsA PP 32 args h fun o h' => ∃ v, o = .ret v ∧ h' = h ∧ K v := by
  refine Pure.psumm (d := 20) (viewL_weak _ _ _ _ _ hl fun a ha => ?_)
  split at ha
  · obtain ⟨t, h1, h2, hK⟩ := ha
    exact ⟨_, (Pure.ev (E50_ok t) (su_1 t _ h2 rfl)).conv fun E r hr => hr.head (fun _ hc => h1.rel hc) (fun _ hc => hc), fun _ => rfl, hK⟩
  · exact ha.elim
theorem sum_add {t : TxS} (h : ckTx addM t = true) : (addM (amL t.outs t.M)).1 = sumO t t.M := by
  unfold ckTx at h
  simp only [Bool.and_eq_true, beq_iff_eq] at h
  have h0 := h.2
  unfold addM at h0 ⊢
  split
  · split
    · rfl
    · simp_all
  · simp_all
end Go.Tk
end
section
namespace Go.Tk
noncomputable def E63 (A : List Int → Int × Int) (Nm : TxS → List Int) (Tg : List Int → TxS → List Int) (Nd : TxS → List Int) (Td : List Int → TxS → List Int) : Env2 := (((((G0.withP 10 worksS).withP 18 (nameS A Nm)).withP 19 (txtagS A Tg)).withP 16 (rightS A)).withP 20 (nameRS Nd)).withP 21 (tagtRS Td)
theorem E63_ok : (E63 addM nameT tagT' nameD tagD).Ok :=
  Env2.withP_ok (Env2.withP_ok (Env2.withP_ok (Env2.withP_ok (Env2.withP_ok (Env2.withP_ok G0_ok worksS_ok) nameS_ok) txtagS_ok) rightS_ok) nameD_ok) tagD_ok
set_option maxRecDepth 100000 in
set_option maxHeartbeats 0 in
theorem txnames_1 (A : List Int → Int × Int) (Nm : TxS → List Int) (Tg : List Int → TxS → List Int) (Nd : TxS → List Int) (Td : List Int → TxS → List Int) (t : TxS) (key : List Int) (hok : t.N < 900000000000 → t.M < 900000000000 → t.Ok) (hb : TxB t) (hk : key.length = 32) (hA : t.Ok → ckTx A t = true → t.Fine) (hN : t.Fine → Nd t = Nm t) (hT : t.Fine → Td key t = Tg key t) (l1 : ∀ t, (Nm t).length = 32) (l2 : ∀ k t, (Tg k t).length = 32) :
    evF (E63 A Nm Tg Nd Td) 20 5 [.agg t.c, .agg [.arr .u8 32 key]] ⟨0, []⟩ (outV (fun v => v = .bool true)) := by
  refine @Eq.mpr _ (let q1 := t.N;
 let q2 := t.M;
 let q3 := AV.bool true;
 let q4 := q3 = q3;
 let q5 := AV.bool false = q3;
 let q6 := ∃ (t_1 : TxS), (t_1.num = t.num ∧ ((q1 = q1 ∧ t_1.N = q1) ∧ ∀ (i : Nat), i < q1 → inRows t.ins i = InS.c (t_1.ins i)) ∧ (q2 = q2 ∧ t_1.M = q2) ∧ ∀ (i : Nat), i < q2 → outRows t.outs i = OutS.c (t_1.outs i)) ∧ (TxS.Fine t_1 ∧ List.length key = 32) ∧ iteB (decide ((32 : Nat) = 32 ∧ List.length (Td key t_1) = 32)) (iteB (zero32 == Td key t_1) q5 q5) False;
 iteB (decide ((↑q1 : Int) ≤ 30))
 (iteB (!decide ((↑q2 : Int) ≤ 30)) q4
 (∃ (t_1 : TxS),
 let q13 := decide (List.length (Nm t_1) = 32 ∧ (32 : Nat) = 32);
 (t_1.num = t.num ∧ ((q1 = q1 ∧ t_1.N = q1) ∧ ∀ (i : Nat), i < q1 → inRows t.ins i = InS.c (t_1.ins i)) ∧ (q2 = q2 ∧ t_1.M = q2) ∧ ∀ (i : Nat), i < q2 → outRows t.outs i = OutS.c (t_1.outs i)) ∧
 TxS.Ok t_1 ∧
 iteB (ckTx A t_1)
 (∃ (t_2 : TxS),
 (t_2.num = t.num ∧ ((q1 = q1 ∧ t_2.N = q1) ∧ ∀ (i : Nat), i < q1 → inRows t.ins i = InS.c (t_2.ins i)) ∧ (q2 = q2 ∧ t_2.M = q2) ∧ ∀ (i : Nat), i < q2 → outRows t.outs i = OutS.c (t_2.outs i)) ∧
 (TxS.Ok t_2 ∧ List.length key = 32) ∧
 iteB (ckTx A t_2)
 (∃ (t_3 : TxS),
 (t_3.num = t.num ∧ ((q1 = q1 ∧ t_3.N = q1) ∧ ∀ (i : Nat), i < q1 → inRows t.ins i = InS.c (t_3.ins i)) ∧ (q2 = q2 ∧ t_3.M = q2) ∧ ∀ (i : Nat), i < q2 → outRows t.outs i = OutS.c (t_3.outs i)) ∧
 TxS.Ok t_3 ∧ TxB t_3 ∧ iteB (!ckTx A t_3) (iteB q13 (iteB (Nm t_1 == zero32) (iteB (decide (List.length (Tg key t_2) = 32 ∧ (32 : Nat) = 32)) (iteB (Tg key t_2 == zero32) q5 q5) False) q5) False) (∃ (t_4 : TxS), (t_4.num = t.num ∧ ((q1 = q1 ∧ t_4.N = q1) ∧ ∀ (i : Nat), i < q1 → inRows t.ins i = InS.c (t_4.ins i)) ∧ (q2 = q2 ∧ t_4.M = q2) ∧ ∀ (i : Nat), i < q2 → outRows t.outs i = OutS.c (t_4.outs i)) ∧ TxS.Fine t_4 ∧ iteB (decide (List.length (Nm t_1) = 32 ∧ List.length (Nd t_4) = 32)) (iteB (Nm t_1 == Nd t_4) (∃ (t_5 : TxS), (t_5.num = t.num ∧ ((q1 = q1 ∧ t_5.N = q1) ∧ ∀ (i : Nat), i < q1 → inRows t.ins i = InS.c (t_5.ins i)) ∧ (q2 = q2 ∧ t_5.M = q2) ∧ ∀ (i : Nat), i < q2 → outRows t.outs i = OutS.c (t_5.outs i)) ∧ (TxS.Fine t_5 ∧ List.length key = 32) ∧ iteB (decide (List.length (Tg key t_2) = 32 ∧ List.length (Td key t_5) = 32)) (iteB (Tg key t_2 == Td key t_5) q4 q5) False) q5) False))
 (∃ (t_3 : TxS), (t_3.num = t.num ∧ ((q1 = q1 ∧ t_3.N = q1) ∧ ∀ (i : Nat), i < q1 → inRows t.ins i = InS.c (t_3.ins i)) ∧ (q2 = q2 ∧ t_3.M = q2) ∧ ∀ (i : Nat), i < q2 → outRows t.outs i = OutS.c (t_3.outs i)) ∧ TxS.Ok t_3 ∧ TxB t_3 ∧ iteB (!ckTx A t_3) (iteB q13 (iteB (Nm t_1 == zero32) q5 q5) False) (∃ (t_4 : TxS), (t_4.num = t.num ∧ ((q1 = q1 ∧ t_4.N = q1) ∧ ∀ (i : Nat), i < q1 → inRows t.ins i = InS.c (t_4.ins i)) ∧ (q2 = q2 ∧ t_4.M = q2) ∧ ∀ (i : Nat), i < q2 → outRows t.outs i = OutS.c (t_4.outs i)) ∧ TxS.Fine t_4 ∧ iteB (decide (List.length (Nm t_1) = 32 ∧ List.length (Nd t_4) = 32)) (iteB (Nm t_1 == Nd t_4) q6 q5) False)))
 (∃ (t_2 : TxS),
 (t_2.num = t.num ∧ ((q1 = q1 ∧ t_2.N = q1) ∧ ∀ (i : Nat), i < q1 → inRows t.ins i = InS.c (t_2.ins i)) ∧ (q2 = q2 ∧ t_2.M = q2) ∧ ∀ (i : Nat), i < q2 → outRows t.outs i = OutS.c (t_2.outs i)) ∧
 (TxS.Ok t_2 ∧ List.length key = 32) ∧
 iteB (ckTx A t_2)
 (∃ (t_3 : TxS),
 (t_3.num = t.num ∧ ((q1 = q1 ∧ t_3.N = q1) ∧ ∀ (i : Nat), i < q1 → inRows t.ins i = InS.c (t_3.ins i)) ∧ (q2 = q2 ∧ t_3.M = q2) ∧ ∀ (i : Nat), i < q2 → outRows t.outs i = OutS.c (t_3.outs i)) ∧
 TxS.Ok t_3 ∧ TxB t_3 ∧ iteB (!ckTx A t_3) (iteB (decide (List.length (Tg key t_2) = 32 ∧ (32 : Nat) = 32)) (iteB (Tg key t_2 == zero32) q5 q5) False) (∃ (t_4 : TxS), (t_4.num = t.num ∧ ((q1 = q1 ∧ t_4.N = q1) ∧ ∀ (i : Nat), i < q1 → inRows t.ins i = InS.c (t_4.ins i)) ∧ (q2 = q2 ∧ t_4.M = q2) ∧ ∀ (i : Nat), i < q2 → outRows t.outs i = OutS.c (t_4.outs i)) ∧ TxS.Fine t_4 ∧ iteB (decide ((32 : Nat) = 32 ∧ List.length (Nd t_4) = 32)) (iteB (zero32 == Nd t_4) (∃ (t_5 : TxS), (t_5.num = t.num ∧ ((q1 = q1 ∧ t_5.N = q1) ∧ ∀ (i : Nat), i < q1 → inRows t.ins i = InS.c (t_5.ins i)) ∧ (q2 = q2 ∧ t_5.M = q2) ∧ ∀ (i : Nat), i < q2 → outRows t.outs i = OutS.c (t_5.outs i)) ∧ (TxS.Fine t_5 ∧ List.length key = 32) ∧ iteB (decide (List.length (Tg key t_2) = 32 ∧ List.length (Td key t_5) = 32)) (iteB (Tg key t_2 == Td key t_5) q5 q5) False) q5) False))
 (∃ (t_3 : TxS), (t_3.num = t.num ∧ ((q1 = q1 ∧ t_3.N = q1) ∧ ∀ (i : Nat), i < q1 → inRows t.ins i = InS.c (t_3.ins i)) ∧ (q2 = q2 ∧ t_3.M = q2) ∧ ∀ (i : Nat), i < q2 → outRows t.outs i = OutS.c (t_3.outs i)) ∧ TxS.Ok t_3 ∧ TxB t_3 ∧ iteB (!ckTx A t_3) q4 (∃ (t_4 : TxS), (t_4.num = t.num ∧ ((q1 = q1 ∧ t_4.N = q1) ∧ ∀ (i : Nat), i < q1 → inRows t.ins i = InS.c (t_4.ins i)) ∧ (q2 = q2 ∧ t_4.M = q2) ∧ ∀ (i : Nat), i < q2 → outRows t.outs i = OutS.c (t_4.outs i)) ∧ TxS.Fine t_4 ∧ iteB (decide ((32 : Nat) = 32 ∧ List.length (Nd t_4) = 32)) (iteB (zero32 == Nd t_4) q6 q5) False)))))
 q4) (by kernel_rfl) ?_
  conv => zeta
  try simp only [need_eq]
  try simp only [nope_eq]
  try simp only [iteD_eq]
  try simp only [iteT_eq]
  try simp only [iteF_eq]
  try simp only [iteE_eq]
  try simp only [Int.toNat_natCast, Nat.zero_add, true_and, and_true, Nat.le_refl]
  refine ⟨fun h1 => ⟨fun h2 => trivial, fun h2 => ?_⟩, fun h1 => trivial⟩
  have ht := hok (by omega) (by simp at h2; omega)
  have hA' := hA ht
  have hz : (zero32 == zero32) = true := by simp
  cases hc : ckTx A t with
  | true =>
    have hf := hA' hc
    have e1 := hN hf
    have e2 := hT hf
    have e3 : (Nm t == Nm t) = true := by simp
    have e4 : (Tg key t == Tg key t) = true := by simp
    have m1 := l1 t
    have m2 := l2 key t
    clear hN hT hA hA' hok l1 l2
    repeat' (first | (refine And.intro ?_ ?_) | intro _ | (refine Exists.intro t ?_))
    all_goals first | omega | trivial | assumption | rfl | (simp_all; done)
  | false =>
    clear hN hT hA hA' hok l1 l2
    repeat' (first | (refine And.intro ?_ ?_) | intro _ | (refine Exists.intro t ?_))
    all_goals first | omega | trivial | assumption | rfl | (simp_all; done)
end Go.Tk
end
section
namespace Go.Tk
theorem fits_hash {a : AV} (h : FitsA true [.arr .u8 32] a) : ∃ xs : List Int, a = .agg [.arr .u8 32 xs] ∧ xs.length = 32 ∧ Bytes xs := by
  cases h with | agg _ u h =>
  cases h with | cons _ a _ u h1 h =>
  cases h; cases h1
  rename_i xs l w
  exact ⟨xs, by simp, l, bytes_of l w⟩
theorem txnames_walk {us : List AV} (h : FitsL [(true, txTy), (true, [.arr .u8 32])] us) : CallsA PP 5 us ⟨0, []⟩ fun o h' => ∃ v, o = .ret v ∧ h' = ⟨0, []⟩ ∧ v = .bool true := by
  cases h with | cons _ _ a _ _ h1 h =>
  cases h with | cons _ _ b _ _ h2 h =>
  cases h
  obtain ⟨l, t, rfl, t1, t2, t3⟩ := fits_tx h1
  obtain ⟨key, rfl, k1, k2⟩ := fits_hash h2
  have hc := outV_ev (h := ⟨0, []⟩) E63_ok rfl (txnames_1 addM nameT tagT' nameD tagD t key t2 t3.b k1 ckTx_fine (fun hf => nameD_eq hf t3) (fun hf => tagD_eq hf t3 k1) nameT_len tagT'_len) (fun u hu => hu)
  exact CallsA.conv hc fun E rs hr => hr.head (fun _ hc => t1.rel hc) (fun _ hc => hc)
end Go.Tk
namespace Go.Proofs.YtmfcmlajhaedgaaGreat.txNames
open Go.ChangeShapes Go.WideShapes Go.ChangeAt Go.RowKit
theorem own : ownKnob Tryz.prog.godebug = none := by kernel_rfl
theorem laidOut : laidOutB Tryz.prog = true := by kernel_rfl
set_option maxRecDepth 100000 in
theorem lifted (os : Os) (started : os.Started) (H : Type) (enc : TypeId × Value → H) :
    ReturnsInHanded {} Tryz.checked os 5 .any (Rows.txNamesSpec.pre6 enc Tryz.prog Tryz.f5 Rows.txNamesRow.domain false) (Rows.txNamesSpec.post enc Tryz.prog Tryz.f5 false true false false) :=
  Go.Tk.lifted_gen (C := Tryz.checked) (m := 8) (τs := [(true, Go.Tk.txTy), (true, [.arr .u8 32])]) own laidOut started (by kernel_rfl) Tryz.func5
    (ChangeSpec.witness6 (enc := enc) (C := Tryz.checked) false ⟨#[], #[.agg #[.int .i64 0, .slice none 0 0, .slice none 0 0], .agg (Array.replicate 32 (.int .u8 0))], []⟩ 8 (by kernel_rfl) (by kernel_rfl) (by kernel_rfl) (by kernel_rfl))
    rfl (tb := 4) rfl Tryz.underlying4 (by kernel_rfl) (by kernel_rfl) (fun ds h => by
      match ds, h with
      | [a, b], _ => rfl) fun us h => Go.Tk.txnames_walk h
theorem over : Rows.txNamesRow.holds Tryz.pinned (OpenSpec.ofChange Rows.txNamesSpec) :=
  OpenClaim.holds_of_wide 5 Tryz.f5 rfl rfl rfl rfl rfl rfl rfl ⟨rfl, rfl, rfl, rfl, rfl⟩ rfl rfl rfl rfl rfl (by kernel_rfl) Tryz.func5 (by kernel_rfl)
    (of_decide_eq_true (by kernel_rfl)) (by unfold Func.isWrapper; first | (rw [if_pos (by decide +kernel)]; kernel_rfl) | (rw [if_neg (by decide +kernel)]; exact ⟨rfl, rfl⟩))
    (fun os started H enc _ => lifted os started H enc)
theorem proved : Rows.TxNamesSaid := over
end Go.Proofs.YtmfcmlajhaedgaaGreat.txNames
end
