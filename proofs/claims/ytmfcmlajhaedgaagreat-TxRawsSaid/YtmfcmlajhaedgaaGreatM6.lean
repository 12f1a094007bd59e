/- M: part 6 of an engine (a symbolic evaluator, proved against the model) and of the walk by it. -/
import Derived.Test.YtmfcmlajhaedgaaGreatM5
import Derived.OpenShut
import Derived.WideShapes
import Derived.ChangeSlices
import Derived.WalkKit
import Derived.ProofKit
import Derived.Below
import Derived.Handed
import Derived.Carry
import Derived.Test.YtmfcmlajhaedgaaGreatRows
import Derived.ChangeOld
set_option linter.unusedVariables false
set_option linter.unusedSimpArgs false
section
namespace Go.Tk
def worksS : PSumm := fun args _ K => match args with
  | [] => K (.bool true)
  | _ => False
theorem worksS_ok (args : List AV) (h : Heap) (K : AV → Prop) (hl : worksS args h K) : CallsA PP 10 args h fun o h' => ∃ v, o = .ret v ∧ h' = h ∧ K v := by
  unfold worksS at hl
  split at hl
  · exact works_calls h K hl
  · exact hl.elim
noncomputable def E41 (P : List Int → Option TxS) (S : TxS → TxS → Bool) : Env2 := (((G0.withP 10 worksS).withP 13 (sametS S)).withF 11 (parseS P)).withF 12 (parserS P)
def zTx : TxS := ⟨0, 0, fun _ => inZ, 0, fun _ => outZ⟩
theorem zTx_ok : zTx.Ok := ⟨by show 0 < _; omega, by show 0 < _; omega, fun _ _ => inZ_ok, fun _ _ => outZ_ok⟩
theorem sameT_refl (t : TxS) : sameT t t = true := by
  unfold sameT eqiL eqoL
  have e1 : (List.range t.N).all (fun i => eqIn (t.ins i) (t.ins i)) = true := by
    rw [List.all_eq_true]; intro j _; simp [eqIn]
  have e2 : (List.range t.M).all (fun i => eqOut (t.outs i) (t.outs i)) = true := by
    rw [List.all_eq_true]; intro j _; simp [eqOut]
  rw [e1, e2]; simp
theorem parserT_ok (args : List AV) (h : Heap) (K : KO) (hl : parserS (parseT (firstB numW) addM) args h K) : CallsA PP 12 args h K := by
  have e : parseRT (firstB numW) addM = parseT (firstB numW) addM := funext fun xs => parseRT_eq _ xs
  rw [← e] at hl
  exact parserS_ok _ _ _ hl
theorem E41_ok : (E41 (parseT (firstB numW) addM) sameT).Ok := Env2.withF_ok (Env2.withF_ok (Env2.withP_ok (Env2.withP_ok G0_ok worksS_ok) samer_ok) parseS_ok) parserT_ok
set_option maxRecDepth 100000 in
set_option maxHeartbeats 0 in
theorem txparses_1 (P : List Int → Option TxS) (S : TxS → TxS → Bool) (xs : List Int) (n : Nat) (hn : xs.length = n) (hb : Bytes xs) (hS : ∀ t : TxS, S t t = true) :
    evF (E41 P S) 20 3 [.vints .u8 xs n] ⟨0, []⟩ (outV (fun v => v = .bool true)) := by
  refine @Eq.mpr _ (let q1 := AV.bool true;
 let q2 := q1 = q1;
 let q3 := [] ++ List.take n xs;
 let q4 := List.length q3;
 let q5 := q3 ++ [(77 : Int)];
 let q6 := List.length q5;
 let q7 := subO (Int.toNat (↑n : Int)) none;
 let q8 := List.take q7 (dropZ 0 q5);
 let q9 := P q8;
 let q10 := List.length xs = n ∧ Bytes xs;
 let q11 := decide (IntKind.u8 = IntKind.u8 ∧ 0 + q7 ≤ q6);
 let q12 := ByteArray.toList (strOf q8) == ByteArray.toList (strOf (List.take n xs));
 let q13 := subO q6 none;
 let q14 := decide (q7 ≤ q13);
 let q15 := IntKind.wrap IntKind.i64 ((↑n : Int) + 1);
 let q16 := decide (0 ≤ q15 ∧ q15 ≤ (↑q13 : Int));
 let q17 := decide (0 ≤ (↑n : Int) ∧ (↑n : Int) < (↑(subO (Int.toNat q15) none) : Int));
 let q18 := 0 + Int.toNat (↑n : Int);
 let q19 := List.getD q5 q18 0 == 77;
 let q20 := AV.bool false = q1;
 iteB (decide ((↑n : Int) > 3000)) q2
 (iteB (decide (q4 * 1 ≤ 140737488355328))
 (iteB (decide (IntKind.u8 = IntKind.u8 ∧ q4 = q4))
 (iteB (decide (q6 * 1 ≤ 140737488355328))
 (iteB (decide (q6 ≤ q6))
 (iteB (decide (0 ≤ (↑n : Int) ∧ (↑n : Int) ≤ (↑q6 : Int)))
 (iteB (decide (0 + q7 ≤ q6))
 (iteB (decide (List.length q8 = q7 ∧ q7 < 90000000000000))
 ((∀ (t : TxS),
 let q41 := t.N;
 let q42 := decide (0 + q41 ≤ q41);
 let q43 := t.M;
 let q44 := decide (0 + q43 ≤ q43);
 q9 = some t →
 TxS.Ok t →
 q10 ∧
 (∀ (t_1 : TxS),
 let q49 := t_1.N;
 let q50 := t_1.M;
 P xs = some t_1 →
 TxS.Ok t_1 →
 TxB t_1 →
 iteB q11
 (iteB q12
 (iteB q14
 (iteB q16
 (iteB q17
 (iteB (decide (q18 < q6))
 (iteB q19
 (iteB q42
 ((∀ (i : Nat), i < q41 → true = true) ∧
 iteB q44
 ((∀ (i : Nat), i < q43 → true = true) ∧
 iteB (decide (0 + q49 ≤ q49))
 ((∀ (i : Nat), i < q49 → true = true) ∧
 iteB (decide (0 + q50 ≤ q50))
 ((∀ (i : Nat), i < q50 → true = true) ∧
 ∃ (a : TxS),
 ∃ (b : TxS),
 (a.num = t.num ∧
 ((q41 = q41 ∧ a.N = q41) ∧
 ∀ (i : Nat),
 let q53 := t.ins i;
 i < q41 → [AV.arr IntKind.u8 32 q53.name, AV.int IntKind.i64 q53.index, AV.int IntKind.i64 q53.way, AV.arr IntKind.u8 32 q53.tag, AV.arr IntKind.u8 32 q53.also, AV.arr IntKind.u8 32 q53.secret] = InS.c (a.ins i)) ∧
 (q43 = q43 ∧ a.M = q43) ∧
 ∀ (i : Nat),
 let q53 := t.outs i;
 i < q43 → [AV.int IntKind.i64 q53.kind, AV.int IntKind.i64 q53.amount, AV.arr IntKind.u8 32 q53.owner, AV.arr IntKind.u8 32 q53.other, AV.arr IntKind.u8 32 q53.point, AV.arr IntKind.u8 32 q53.hash, AV.int IntKind.i64 q53.delay, AV.int IntKind.i64 q53.expiry] = OutS.c (a.outs i)) ∧
 (b.num = t_1.num ∧
 ((q49 = q49 ∧ b.N = q49) ∧
 ∀ (i : Nat),
 let q53 := t_1.ins i;
 i < q49 → [AV.arr IntKind.u8 32 q53.name, AV.int IntKind.i64 q53.index, AV.int IntKind.i64 q53.way, AV.arr IntKind.u8 32 q53.tag, AV.arr IntKind.u8 32 q53.also, AV.arr IntKind.u8 32 q53.secret] = InS.c (b.ins i)) ∧
 (q50 = q50 ∧ b.M = q50) ∧
 ∀ (i : Nat),
 let q53 := t_1.outs i;
 i < q50 → [AV.int IntKind.i64 q53.kind, AV.int IntKind.i64 q53.amount, AV.arr IntKind.u8 32 q53.owner, AV.arr IntKind.u8 32 q53.other, AV.arr IntKind.u8 32 q53.point, AV.arr IntKind.u8 32 q53.hash, AV.int IntKind.i64 q53.delay, AV.int IntKind.i64 q53.expiry] = OutS.c (b.outs i)) ∧
 (TxS.Ok a ∧ TxS.Ok b) ∧ iteB (S a b) q2 q20)
 False)
 False)
 False)
 False)
 q20)
 False)
 False)
 False)
 False)
 q20)
 False) ∧
 (P xs = none →
 iteB q11
 (iteB q12
 (iteB q14
 (iteB q16
 (iteB q17
 (iteB (decide (q18 < q6))
 (iteB q19
 (iteB q42
 ((∀ (i : Nat), i < q41 → true = true) ∧
 iteB q44
 ((∀ (i : Nat), i < q43 → true = true) ∧
 ∃ (a : TxS),
 ∃ (b : TxS),
 (a.num = t.num ∧
 ((q41 = q41 ∧ a.N = q41) ∧
 ∀ (i : Nat),
 let q49 := t.ins i;
 i < q41 → [AV.arr IntKind.u8 32 q49.name, AV.int IntKind.i64 q49.index, AV.int IntKind.i64 q49.way, AV.arr IntKind.u8 32 q49.tag, AV.arr IntKind.u8 32 q49.also, AV.arr IntKind.u8 32 q49.secret] = InS.c (a.ins i)) ∧
 (q43 = q43 ∧ a.M = q43) ∧
 ∀ (i : Nat),
 let q49 := t.outs i;
 i < q43 → [AV.int IntKind.i64 q49.kind, AV.int IntKind.i64 q49.amount, AV.arr IntKind.u8 32 q49.owner, AV.arr IntKind.u8 32 q49.other, AV.arr IntKind.u8 32 q49.point, AV.arr IntKind.u8 32 q49.hash, AV.int IntKind.i64 q49.delay, AV.int IntKind.i64 q49.expiry] = OutS.c (a.outs i)) ∧
 (b.num = 0 ∧ b.N = 0 ∧ b.M = 0) ∧ (TxS.Ok a ∧ TxS.Ok b) ∧ iteB (S a b) q20 q20)
 False)
 False)
 q20)
 False)
 False)
 False)
 False)
 q20)
 False)) ∧
 (q9 = none →
 q10 ∧
 (∀ (t : TxS),
 let q41 := t.N;
 let q42 := t.M;
 P xs = some t →
 TxS.Ok t →
 TxB t →
 iteB q11
 (iteB q12
 (iteB q14
 (iteB q16
 (iteB q17
 (iteB (decide (q18 < q6))
 (iteB q19
 (iteB (decide (0 + q41 ≤ q41))
 ((∀ (i : Nat), i < q41 → true = true) ∧
 iteB (decide (0 + q42 ≤ q42))
 ((∀ (i : Nat), i < q42 → true = true) ∧
 ∃ (a : TxS),
 ∃ (b : TxS),
 (a.num = 0 ∧ a.N = 0 ∧ a.M = 0) ∧
 (b.num = t.num ∧
 ((q41 = q41 ∧ b.N = q41) ∧
 ∀ (i : Nat),
 let q45 := t.ins i;
 i < q41 → [AV.arr IntKind.u8 32 q45.name, AV.int IntKind.i64 q45.index, AV.int IntKind.i64 q45.way, AV.arr IntKind.u8 32 q45.tag, AV.arr IntKind.u8 32 q45.also, AV.arr IntKind.u8 32 q45.secret] = InS.c (b.ins i)) ∧
 (q42 = q42 ∧ b.M = q42) ∧
 ∀ (i : Nat),
 let q45 := t.outs i;
 i < q42 → [AV.int IntKind.i64 q45.kind, AV.int IntKind.i64 q45.amount, AV.arr IntKind.u8 32 q45.owner, AV.arr IntKind.u8 32 q45.other, AV.arr IntKind.u8 32 q45.point, AV.arr IntKind.u8 32 q45.hash, AV.int IntKind.i64 q45.delay, AV.int IntKind.i64 q45.expiry] = OutS.c (b.outs i)) ∧
 (TxS.Ok a ∧ TxS.Ok b) ∧ iteB (S a b) q20 q20)
 False)
 False)
 q20)
 False)
 False)
 False)
 False)
 q20)
 False) ∧
 (P xs = none → iteB q11 (iteB q12 (iteB q14 (iteB q16 (iteB q17 (iteB (decide (q18 < q6)) (iteB q19 (∃ (a : TxS), ∃ (b : TxS), (a.num = 0 ∧ a.N = 0 ∧ a.M = 0) ∧ (b.num = 0 ∧ b.N = 0 ∧ b.M = 0) ∧ (TxS.Ok a ∧ TxS.Ok b) ∧ iteB (S a b) q2 q20) q20) False) False) False) False) q20) False)))
 False)
 False)
 False)
 False)
 False)
 False)
 False)) (by kernel_rfl) ?_
  conv => zeta
  subst hn
  have e0 : ([] ++ List.take xs.length xs ++ [77] : List Int) = xs ++ [77] := by simp
  have e1 : subO (Int.toNat (xs.length : Int)) none = xs.length := rfl
  have e2 : List.take xs.length (dropZ 0 (xs ++ [77])) = xs := by simp [dropZ]
  have e3 : List.take xs.length xs = xs := by simp
  have e4 : (xs ++ [77] : List Int).length = xs.length + 1 := by simp
  have e5 : ([] ++ xs : List Int) = xs := rfl
  have e6 : (xs ++ [77] : List Int).getD (0 + Int.toNat (xs.length : Int)) 0 = 77 := by simp
  simp only [e0, e1, e2, e3, e4, e5, e6]
  cases hP : P xs with
  | none =>
    try simp only [need_eq]
    try simp only [nope_eq]
    try simp only [iteD_eq]
    try simp only [iteT_eq]
    try simp only [iteF_eq]
    try simp only [iteE_eq]
    try simp only [Int.toNat_natCast, Nat.zero_add, true_and, and_true, Nat.le_refl]
    have hs : ((strOf xs).toList == (strOf xs).toList) = true := beq_self_eq_true _
    refine ⟨fun _ => trivial, fun hl => ?_⟩
    have hw : IntKind.i64.wrap ((xs.length : Int) + 1) = ((xs.length + 1 : Nat) : Int) := w64 (by omega)
    have hk : subO (xs.length + 1) none = xs.length + 1 := rfl
    have h77 : ((77 : Int) == 77) = true := rfl
    simp only [hw, hk, hs, h77, Int.toNat_natCast, forall_const, Bool.true_eq_false, false_imp_iff, and_true, true_and, reduceCtorEq, Option.some.injEq]
    refine ⟨by omega, by omega, ⟨by omega, by omega⟩, by omega, by omega, ?_⟩
    exact ⟨fun _ => trivial, hb, fun _ => trivial, by omega, by omega, ⟨by omega, by omega⟩, ⟨by omega, by omega⟩, by omega, zTx, zTx, ⟨rfl, rfl, rfl⟩, ⟨rfl, rfl, rfl⟩, ⟨zTx_ok, zTx_ok⟩, fun _ => trivial, fun h => by rw [hS] at h; cases h⟩
  | some t =>
    try simp only [need_eq]
    try simp only [nope_eq]
    try simp only [iteD_eq]
    try simp only [iteT_eq]
    try simp only [iteF_eq]
    try simp only [iteE_eq]
    try simp only [Int.toNat_natCast, Nat.zero_add, true_and, and_true, Nat.le_refl]
    have hs : ((strOf xs).toList == (strOf xs).toList) = true := beq_self_eq_true _
    refine ⟨fun _ => trivial, fun hl => ?_⟩
    have hw : IntKind.i64.wrap ((xs.length : Int) + 1) = ((xs.length + 1 : Nat) : Int) := w64 (by omega)
    have hk : subO (xs.length + 1) none = xs.length + 1 := rfl
    have h77 : ((77 : Int) == 77) = true := rfl
    simp only [hw, hk, hs, h77, Int.toNat_natCast, forall_const, Bool.true_eq_false, false_imp_iff, and_true, true_and, reduceCtorEq, Option.some.injEq]
    refine ⟨by omega, by omega, ⟨by omega, by omega⟩, by omega, by omega, ?_⟩
    intro t1 e1 ho
    subst e1
    refine ⟨hb, ?_⟩
    intro t2 e2 ho2 _
    subst e2
    exact ⟨by omega, by omega, ⟨by omega, by omega⟩, ⟨by omega, by omega⟩, by omega, fun _ _ => trivial, fun _ _ => trivial, fun _ _ => trivial, fun _ _ => trivial, t, t, ⟨rfl, ⟨rfl, fun _ _ => rfl⟩, rfl, fun _ _ => rfl⟩, ⟨rfl, ⟨rfl, fun _ _ => rfl⟩, rfl, fun _ _ => rfl⟩, ⟨ho, ho⟩, fun _ => trivial, fun h => by rw [hS] at h; cases h⟩
theorem txparses_calls (xs : List Int) (n : Nat) (hn : xs.length = n) (hb : Bytes xs) (h : Heap) (K : AV → Prop) (hK : K (.bool true)) : CallsA PP 3 [.vints .u8 xs n] h fun o h' => ∃ v, o = .ret v ∧ h' = h ∧ K v :=
  outV_ev E41_ok rfl (txparses_1 _ _ xs n hn hb sameT_refl) (fun u hu => hu ▸ hK)
end Go.Tk
end
section
namespace Go.Tk
noncomputable def E44 (W : Int → List Int) : Env2 := G0.withF 149 (numRS W)
theorem E44_ok : (E44 numW).Ok := Env2.withF_ok G0_ok numRS_ok
def rbS (t : TxS) (core : Bool) (i : Nat) (xs : List Int) (n : Nat) : St := ⟨133, [(6, .int .i64 i), (2, .ptr (some ⟨0, 0, 0, 0, 0⟩)), (5, .nslice ⟨4, 0, 0, 0, 0⟩ 1 n n), (1, .bool core)], ⟨5, [(4, .ints .u8 xs), (0, .flat t.c)]⟩, []⟩
def rbR (t : TxS) (xs : List Int) (n : Nat) : St := ⟨133, [(2, .ptr (some ⟨0, 0, 0, 0, 0⟩)), (5, .nslice ⟨4, 0, 0, 0, 0⟩ 1 n n)], ⟨5, [(4, .ints .u8 xs), (0, .flat t.c)]⟩, []⟩
def rbS2 (t : TxS) (i : Nat) (xs : List Int) (n : Nat) : St := ⟨133, [(9, .int .i64 i), (2, .ptr (some ⟨0, 0, 0, 0, 0⟩)), (5, .nslice ⟨4, 0, 0, 0, 0⟩ 1 n n)], ⟨5, [(4, .ints .u8 xs), (0, .flat t.c)]⟩, []⟩
theorem take_dropZ0 (xs : List Int) : List.take xs.length (dropZ 0 xs) = xs := by rw [dropZ_eq, List.drop_zero, List.take_length]
set_option maxRecDepth 100000 in
set_option maxHeartbeats 0 in
theorem rbi_1 (W : Int → List Int) (t : TxS) (i : Nat) (xs ys : List Int) (n m : Nat) (Z1 Z2 : Prop) (ht : t.Ok) (hi : i ≤ t.N) (hr : ∀ j, j < t.N → inRight (t.ins j) = true) (hW : W = numW) (hn : xs.length = n) (hs : n < 10000000000000) (hy : ys = xs ++ inW W true (t.ins i)) (hm : ys.length = m) (h1 : i < t.N → Z1) (h2 : i = t.N → Z2) :
    roundE (E44 W) 20 48 0 0 (rbS t true i xs n) (rdM 0 0 9 (rbS t true (i + 1) ys m) (rbR t xs n) (rbR t xs n) (rbR t xs n) Z1 Z2 False False) := by
  refine @Eq.mpr _ (let q1 := t.N;
 let q2 := t.ins (Int.toNat (↑i : Int));
 let q3 := q2.name;
 let q4 := xs ++ q3;
 let q5 := List.length q4;
 let q6 := q2.index;
 let q7 := W q6;
 let q8 := List.length q7;
 let q9 := q4 ++ List.take q8 (dropZ 0 q7);
 let q10 := List.length q9;
 let q11 := decide (t.num = t.num);
 let q12 := decide (q1 = q1);
 let q13 := inRows t.ins;
 let q14 := q13 = q13;
 let q15 := decide (t.M = t.M);
 let q16 := outRows t.outs;
 let q17 := q16 = q16;
 iteB (decide ((↑i : Int) < (↑q1 : Int))) (iteB (decide (0 ≤ (↑i : Int) ∧ (↑i : Int) < (↑q1 : Int))) (iteB (decide (IntKind.u8 = IntKind.u8 ∧ List.length q3 = 32)) (iteB (decide (IntKind.u8 = IntKind.u8 ∧ List.length xs = n)) (iteB (decide (q5 * 1 ≤ 140737488355328)) (iteB (decide (q6 = q6)) (iteB (decide (0 ≤ q6)) (iteB (decide (IntKind.u8 = IntKind.u8 ∧ 0 + q8 ≤ q8)) (iteB (decide (IntKind.u8 = IntKind.u8 ∧ q5 = q5)) (iteB (decide (q10 * 1 ≤ 140737488355328)) (iteB (decide (IntKind.wrap IntKind.i64 ((↑i : Int) + 1) = (↑(i + 1) : Int))) (iteB (decide (q10 = m)) (iteB (decide (m ≤ q10)) (q9 = ys ∧ iteB q11 (iteB q12 (q14 ∧ iteB q12 (iteB q15 (q17 ∧ iteB q15 Z1 False) False) False) False) False) False) False) False) False) False) False) False) False) False) False) False) False) (iteB (decide (n = n)) (iteB (decide (n ≤ n)) (xs = xs ∧ iteB q11 (iteB q12 (q14 ∧ iteB q12 (iteB q15 (q17 ∧ iteB q15 Z2 False) False) False) False) False) False) False)) (by kernel_rfl) ?_
  conv => zeta
  try simp only [need_eq]
  try simp only [nope_eq]
  try simp only [iteD_eq]
  try simp only [iteT_eq]
  try simp only [iteF_eq]
  try simp only [iteE_eq]
  try simp only [Int.toNat_natCast, Nat.zero_add, true_and, and_true, Nat.le_refl]
  refine ⟨fun hlt => ?_, fun hge => h2 (by omega)⟩
  obtain ⟨⟨w1, w2⟩, w3, w4⟩ := inRight_way (hr i (by omega))
  obtain ⟨l1, l2, l3, l4⟩ := ht.ins i (by omega)
  have hw := h1 (by omega)
  have hnn := ht.n
  have hwr : IntKind.i64.wrap ((i : Int) + 1) = ((i + 1 : Nat) : Int) := w64 (by omega)
  have u1 := numW_len (t.ins i).index
  have u2 := numW_len (t.ins i).way
  subst hW
  rw [hwr]
  unfold inW at hy
  generalize t.ins i = x at *
  simp only [List.length_append, take_dropZ0]
  repeat' (first | (refine And.intro ?_ ?_) | intro _)
  all_goals (try simp only [beq_iff_eq, bne_iff_ne, ne_eq, beq_eq_false_iff_ne, bne_eq_false_iff_eq] at *)
  all_goals first | omega | assumption | trivial | skip
  all_goals first | (rw [hy]; simp [*]; done) | (rw [← hm, hy]; simp [*]; try omega; done) | skip
set_option maxRecDepth 100000 in
set_option maxHeartbeats 0 in
theorem rbi_2 (W : Int → List Int) (t : TxS) (i : Nat) (xs ys : List Int) (n m : Nat) (Z1 Z2 : Prop) (ht : t.Ok) (hi : i ≤ t.N) (hr : ∀ j, j < t.N → inRight (t.ins j) = true) (hW : W = numW) (hn : xs.length = n) (hs : n < 10000000000000) (hy : ys = xs ++ inW W false (t.ins i)) (hm : ys.length = m) (h1 : i < t.N → Z1) (h2 : i = t.N → Z2) :
    roundE (E44 W) 20 48 0 0 (rbS t false i xs n) (rdM 0 0 9 (rbS t false (i + 1) ys m) (rbR t xs n) (rbR t xs n) (rbR t xs n) Z1 Z2 False False) := by
  refine @Eq.mpr _ (let q1 := t.N;
 let q2 := t.ins (Int.toNat (↑i : Int));
 let q3 := q2.name;
 let q4 := xs ++ q3;
 let q5 := List.length q4;
 let q6 := q2.index;
 let q7 := W q6;
 let q8 := List.length q7;
 let q9 := q4 ++ List.take q8 (dropZ 0 q7);
 let q10 := List.length q9;
 let q11 := q2.way;
 let q12 := W q11;
 let q13 := List.length q12;
 let q14 := q9 ++ List.take q13 (dropZ 0 q12);
 let q15 := List.length q14;
 let q16 := q2.tag;
 let q17 := decide (IntKind.u8 = IntKind.u8 ∧ q15 = q15);
 let q18 := q14 ++ q16;
 let q19 := List.length q18;
 let q20 := q11 == 1;
 let q21 := q2.also;
 let q22 := decide (IntKind.u8 = IntKind.u8 ∧ List.length q21 = 32);
 let q23 := decide (IntKind.u8 = IntKind.u8 ∧ q19 = q19);
 let q24 := q18 ++ q21;
 let q25 := List.length q24;
 let q26 := q11 == 4;
 let q27 := q2.secret;
 let q28 := decide (IntKind.u8 = IntKind.u8 ∧ List.length q27 = 32);
 let q29 := q24 ++ q27;
 let q30 := List.length q29;
 let q31 := decide (IntKind.wrap IntKind.i64 ((↑i : Int) + 1) = (↑(i + 1) : Int));
 let q32 := decide (t.num = t.num);
 let q33 := decide (q1 = q1);
 let q34 := inRows t.ins;
 let q35 := q34 = q34;
 let q36 := decide (t.M = t.M);
 let q37 := outRows t.outs;
 let q38 := q37 = q37;
 let q39 := iteB q32 (iteB q33 (q35 ∧ iteB q33 (iteB q36 (q38 ∧ iteB q36 Z1 False) False) False) False) False;
 let q40 := iteB q28 (iteB (decide (IntKind.u8 = IntKind.u8 ∧ q25 = q25)) (iteB (decide (q30 * 1 ≤ 140737488355328)) (iteB q31 (iteB (decide (q30 = m)) (iteB (decide (m ≤ q30)) (q29 = ys ∧ q39) False) False) False) False) False) False;
 let q41 := q11 == 5;
 let q42 := q18 ++ q27;
 let q43 := List.length q42;
 let q44 := iteB q28 (iteB q23 (iteB (decide (q43 * 1 ≤ 140737488355328)) (iteB q31 (iteB (decide (q43 = m)) (iteB (decide (m ≤ q43)) (q42 = ys ∧ q39) False) False) False) False) False) False;
 let q45 := q14 ++ q21;
 let q46 := List.length q45;
 let q47 := q45 ++ q27;
 let q48 := List.length q47;
 let q49 := iteB q28 (iteB (decide (IntKind.u8 = IntKind.u8 ∧ q46 = q46)) (iteB (decide (q48 * 1 ≤ 140737488355328)) (iteB q31 (iteB (decide (q48 = m)) (iteB (decide (m ≤ q48)) (q47 = ys ∧ q39) False) False) False) False) False) False;
 let q50 := q14 ++ q27;
 let q51 := List.length q50;
 let q52 := iteB q28 (iteB q17 (iteB (decide (q51 * 1 ≤ 140737488355328)) (iteB q31 (iteB (decide (q51 = m)) (iteB (decide (m ≤ q51)) (q50 = ys ∧ q39) False) False) False) False) False) False;
 iteB (decide ((↑i : Int) < (↑q1 : Int)))
 (iteB (decide (0 ≤ (↑i : Int) ∧ (↑i : Int) < (↑q1 : Int)))
 (iteB (decide (IntKind.u8 = IntKind.u8 ∧ List.length q3 = 32))
 (iteB (decide (IntKind.u8 = IntKind.u8 ∧ List.length xs = n))
 (iteB (decide (q5 * 1 ≤ 140737488355328))
 (iteB (decide (q6 = q6))
 (iteB (decide (0 ≤ q6))
 (iteB (decide (IntKind.u8 = IntKind.u8 ∧ 0 + q8 ≤ q8))
 (iteB (decide (IntKind.u8 = IntKind.u8 ∧ q5 = q5))
 (iteB (decide (q10 * 1 ≤ 140737488355328))
 (iteB (decide (0 ≤ q11))
 (iteB (decide (IntKind.u8 = IntKind.u8 ∧ 0 + q13 ≤ q13))
 (iteB (decide (IntKind.u8 = IntKind.u8 ∧ q10 = q10)) (iteB (decide (q15 * 1 ≤ 140737488355328)) (iteB (q11 != 4) (iteB (decide (IntKind.u8 = IntKind.u8 ∧ List.length q16 = 32)) (iteB q17 (iteB (decide (q19 * 1 ≤ 140737488355328)) (iteB q20 (iteB q22 (iteB q23 (iteB (decide (q25 * 1 ≤ 140737488355328)) (iteB q26 q40 (iteB q41 q40 (iteB q31 (iteB (decide (q25 = m)) (iteB (decide (m ≤ q25)) (q24 = ys ∧ q39) False) False) False))) False) False) False) (iteB q26 q44 (iteB q41 q44 (iteB q31 (iteB (decide (q19 = m)) (iteB (decide (m ≤ q19)) (q18 = ys ∧ q39) False) False) False)))) False) False) False) (iteB q20 (iteB q22 (iteB q17 (iteB (decide (q46 * 1 ≤ 140737488355328)) (iteB q26 q49 (iteB q41 q49 (iteB q31 (iteB (decide (q46 = m)) (iteB (decide (m ≤ q46)) (q45 = ys ∧ q39) False) False) False))) False) False) False) (iteB q26 q52 (iteB q41 q52 (iteB q31 (iteB (decide (q15 = m)) (iteB (decide (m ≤ q15)) (q14 = ys ∧ q39) False) False) False))))) False) False) False)
 False)
 False)
 False)
 False)
 False)
 False)
 False)
 False)
 False)
 False)
 (iteB (decide (n = n)) (iteB (decide (n ≤ n)) (xs = xs ∧ iteB q32 (iteB q33 (q35 ∧ iteB q33 (iteB q36 (q38 ∧ iteB q36 Z2 False) False) False) False) False) False) False)) (by kernel_rfl) ?_
  conv => zeta
  try simp only [need_eq]
  try simp only [nope_eq]
  try simp only [iteD_eq]
  try simp only [iteT_eq]
  try simp only [iteF_eq]
  try simp only [iteE_eq]
  try simp only [Int.toNat_natCast, Nat.zero_add, true_and, and_true, Nat.le_refl]
  refine ⟨fun hlt => ?_, fun hge => h2 (by omega)⟩
  obtain ⟨⟨w1, w2⟩, w3, w4⟩ := inRight_way (hr i (by omega))
  obtain ⟨l1, l2, l3, l4⟩ := ht.ins i (by omega)
  have hw := h1 (by omega)
  have hnn := ht.n
  have hwr : IntKind.i64.wrap ((i : Int) + 1) = ((i + 1 : Nat) : Int) := w64 (by omega)
  have u1 := numW_len (t.ins i).index
  have u2 := numW_len (t.ins i).way
  subst hW
  rw [hwr]
  unfold inW at hy
  generalize t.ins i = x at *
  simp only [List.length_append, take_dropZ0]
  repeat' (first | (refine And.intro ?_ ?_) | intro _)
  all_goals (try simp only [beq_iff_eq, bne_iff_ne, ne_eq, beq_eq_false_iff_ne, bne_eq_false_iff_eq] at *)
  all_goals first | omega | assumption | trivial | skip
  all_goals first | (rw [hy]; simp [*]; done) | (rw [← hm, hy]; simp [*]; try omega; done) | skip
set_option maxRecDepth 100000 in
set_option maxHeartbeats 0 in
theorem rbo_1 (W : Int → List Int) (t : TxS) (i : Nat) (xs ys : List Int) (n m : Nat) (Z1 Z2 : Prop) (ht : t.Ok) (hi : i ≤ t.M) (hr : ∀ j, j < t.M → outRight (t.outs j) = true) (hW : W = numW) (hn : xs.length = n) (hs : n < 10000000000000) (hy : ys = xs ++ outW W (t.outs i)) (hm : ys.length = m) (h1 : i < t.M → Z1) (h2 : i = t.M → Z2) :
    roundE (E44 W) 20 48 2 0 (rbS2 t i xs n) (rdM 0 2 9 (rbS2 t (i + 1) ys m) (rbR t xs n) (rbR t xs n) (rbR t xs n) Z1 Z2 False False) := by
  refine @Eq.mpr _ (let q1 := t.M;
 let q2 := t.outs (Int.toNat (↑i : Int));
 let q3 := q2.kind;
 let q4 := W q3;
 let q5 := List.length q4;
 let q6 := xs ++ List.take q5 (dropZ 0 q4);
 let q7 := List.length q6;
 let q8 := q2.owner;
 let q9 := q8 = q8;
 let q10 := q2.amount;
 let q11 := W q10;
 let q12 := List.length q11;
 let q13 := q6 ++ List.take q12 (dropZ 0 q11);
 let q14 := List.length q13;
 let q15 := q13 ++ q8;
 let q16 := List.length q15;
 let q17 := q2.other;
 let q18 := decide (IntKind.u8 = IntKind.u8 ∧ List.length q17 = 32);
 let q19 := decide (IntKind.u8 = IntKind.u8 ∧ q16 = q16);
 let q20 := q15 ++ q17;
 let q21 := List.length q20;
 let q22 := decide (q21 * 1 ≤ 140737488355328);
 let q23 := decide (q3 ≥ 3);
 let q24 := q2.point;
 let q25 := decide (IntKind.u8 = IntKind.u8 ∧ List.length q24 = 32);
 let q26 := decide (IntKind.u8 = IntKind.u8 ∧ q21 = q21);
 let q27 := q20 ++ q24;
 let q28 := List.length q27;
 let q29 := decide (q28 * 1 ≤ 140737488355328);
 let q30 := decide (q3 ≥ 4);
 let q31 := q2.hash;
 let q32 := decide (IntKind.u8 = IntKind.u8 ∧ List.length q31 = 32);
 let q33 := decide (IntKind.u8 = IntKind.u8 ∧ q28 = q28);
 let q34 := q27 ++ q31;
 let q35 := List.length q34;
 let q36 := decide (q35 * 1 ≤ 140737488355328);
 let q37 := q2.delay;
 let q38 := decide (0 ≤ q37);
 let q39 := W q37;
 let q40 := List.length q39;
 let q41 := decide (IntKind.u8 = IntKind.u8 ∧ q35 = q35);
 let q42 := List.take q40 (dropZ 0 q39);
 let q43 := q34 ++ q42;
 let q44 := List.length q43;
 let q45 := q2.expiry;
 let q46 := decide (0 ≤ q45);
 let q47 := W q45;
 let q48 := List.length q47;
 let q49 := List.take q48 (dropZ 0 q47);
 let q50 := q43 ++ q49;
 let q51 := List.length q50;
 let q52 := decide (IntKind.wrap IntKind.i64 ((↑i : Int) + 1) = (↑(i + 1) : Int));
 let q53 := decide (t.num = t.num);
 let q54 := decide (t.N = t.N);
 let q55 := inRows t.ins;
 let q56 := q55 = q55;
 let q57 := decide (q1 = q1);
 let q58 := outRows t.outs;
 let q59 := q58 = q58;
 let q60 := iteB q53 (iteB q54 (q56 ∧ iteB q54 (iteB q57 (q59 ∧ iteB q57 Z1 False) False) False) False) False;
 let q61 := q50 = ys ∧ q60;
 let q62 := q43 = ys ∧ q60;
 let q63 := q34 ++ q49;
 let q64 := List.length q63;
 let q65 := q63 = ys ∧ q60;
 let q66 := iteB q52 (iteB (decide (q35 = m)) (iteB (decide (m ≤ q35)) (q34 = ys ∧ q60) False) False) False;
 let q67 := q27 ++ q42;
 let q68 := List.length q67;
 let q69 := q67 ++ q49;
 let q70 := List.length q69;
 let q71 := q69 = ys ∧ q60;
 let q72 := q67 = ys ∧ q60;
 let q73 := q27 ++ q49;
 let q74 := List.length q73;
 let q75 := q73 = ys ∧ q60;
 let q76 := iteB q52 (iteB (decide (q28 = m)) (iteB (decide (m ≤ q28)) (q27 = ys ∧ q60) False) False) False;
 let q77 := q20 ++ q31;
 let q78 := List.length q77;
 let q79 := decide (q78 * 1 ≤ 140737488355328);
 let q80 := decide (IntKind.u8 = IntKind.u8 ∧ q78 = q78);
 let q81 := q77 ++ q42;
 let q82 := List.length q81;
 let q83 := q81 ++ q49;
 let q84 := List.length q83;
 let q85 := q83 = ys ∧ q60;
 let q86 := q81 = ys ∧ q60;
 let q87 := q77 ++ q49;
 let q88 := List.length q87;
 let q89 := q87 = ys ∧ q60;
 let q90 := iteB q52 (iteB (decide (q78 = m)) (iteB (decide (m ≤ q78)) (q77 = ys ∧ q60) False) False) False;
 let q91 := q20 ++ q42;
 let q92 := List.length q91;
 let q93 := q91 ++ q49;
 let q94 := List.length q93;
 let q95 := q93 = ys ∧ q60;
 let q96 := q91 = ys ∧ q60;
 let q97 := q20 ++ q49;
 let q98 := List.length q97;
 let q99 := q97 = ys ∧ q60;
 let q100 := iteB q52 (iteB (decide (q21 = m)) (iteB (decide (m ≤ q21)) (q20 = ys ∧ q60) False) False) False;
 let q101 := q15 ++ q24;
 let q102 := List.length q101;
 let q103 := decide (IntKind.u8 = IntKind.u8 ∧ q102 = q102);
 let q104 := q101 ++ q31;
 let q105 := List.length q104;
 let q106 := decide (IntKind.u8 = IntKind.u8 ∧ q105 = q105);
 let q107 := q104 ++ q42;
 let q108 := List.length q107;
 let q109 := q107 ++ q49;
 let q110 := List.length q109;
 let q111 := q104 ++ q49;
 let q112 := List.length q111;
 let q113 := q101 ++ q42;
 let q114 := List.length q113;
 let q115 := q113 ++ q49;
 let q116 := List.length q115;
 let q117 := q101 ++ q49;
 let q118 := List.length q117;
 let q119 := q15 ++ q31;
 let q120 := List.length q119;
 let q121 := decide (IntKind.u8 = IntKind.u8 ∧ q120 = q120);
 let q122 := q119 ++ q42;
 let q123 := List.length q122;
 let q124 := q122 ++ q49;
 let q125 := List.length q124;
 let q126 := q119 ++ q49;
 let q127 := List.length q126;
 let q128 := q15 ++ q42;
 let q129 := List.length q128;
 let q130 := q128 ++ q49;
 let q131 := List.length q130;
 let q132 := q15 ++ q49;
 let q133 := List.length q132;
 iteB (decide ((↑i : Int) < (↑q1 : Int)))
 (iteB (decide (0 ≤ (↑i : Int) ∧ (↑i : Int) < (↑q1 : Int)))
 (iteB (decide (0 ≤ q3))
 (iteB (decide (IntKind.u8 = IntKind.u8 ∧ 0 + q5 ≤ q5))
 (iteB (decide (IntKind.u8 = IntKind.u8 ∧ List.length xs = n))
 (iteB (decide (q7 * 1 ≤ 140737488355328))
 (q9 ∧
 iteB (decide (q10 = q10))
 (iteB (decide (0 ≤ q10))
 (iteB (decide (IntKind.u8 = IntKind.u8 ∧ 0 + q12 ≤ q12))
 (iteB (decide (IntKind.u8 = IntKind.u8 ∧ q7 = q7))
 (iteB (decide (q14 * 1 ≤ 140737488355328))
 (q9 ∧
 iteB (decide (IntKind.u8 = IntKind.u8 ∧ List.length q8 = 32))
 (iteB (decide (IntKind.u8 = IntKind.u8 ∧ q14 = q14))
 (iteB (decide (q16 * 1 ≤ 140737488355328))
 (iteB (q3 == 2)
 (iteB q18
 (iteB q19
 (iteB q22
 (iteB q23
 (iteB q25
 (iteB q26
 (iteB q29
 (iteB q30 (iteB q32 (iteB q33 (iteB q36 (iteB q23 (iteB q38 (iteB (decide (IntKind.u8 = IntKind.u8 ∧ 0 + q40 ≤ q40)) (iteB q41 (iteB (decide (q44 * 1 ≤ 140737488355328)) (iteB q30 (iteB q46 (iteB (decide (IntKind.u8 = IntKind.u8 ∧ 0 + q48 ≤ q48)) (iteB (decide (IntKind.u8 = IntKind.u8 ∧ q44 = q44)) (iteB (decide (q51 * 1 ≤ 140737488355328)) (iteB q52 (iteB (decide (q51 = m)) (iteB (decide (m ≤ q51)) q61 False) False) False) False) False) False) False) (iteB q52 (iteB (decide (q44 = m)) (iteB (decide (m ≤ q44)) q62 False) False) False)) False) False) False) False) (iteB q30 (iteB q46 (iteB (decide (IntKind.u8 = IntKind.u8 ∧ 0 + q48 ≤ q48)) (iteB q41 (iteB (decide (q64 * 1 ≤ 140737488355328)) (iteB q52 (iteB (decide (q64 = m)) (iteB (decide (m ≤ q64)) q65 False) False) False) False) False) False) False) q66)) False) False) False)
 (iteB q23 (iteB q38 (iteB (decide (IntKind.u8 = IntKind.u8 ∧ 0 + q40 ≤ q40)) (iteB q33 (iteB (decide (q68 * 1 ≤ 140737488355328)) (iteB q30 (iteB q46 (iteB (decide (IntKind.u8 = IntKind.u8 ∧ 0 + q48 ≤ q48)) (iteB (decide (IntKind.u8 = IntKind.u8 ∧ q68 = q68)) (iteB (decide (q70 * 1 ≤ 140737488355328)) (iteB q52 (iteB (decide (q70 = m)) (iteB (decide (m ≤ q70)) q71 False) False) False) False) False) False) False) (iteB q52 (iteB (decide (q68 = m)) (iteB (decide (m ≤ q68)) q72 False) False) False)) False) False) False) False) (iteB q30 (iteB q46 (iteB (decide (IntKind.u8 = IntKind.u8 ∧ 0 + q48 ≤ q48)) (iteB q33 (iteB (decide (q74 * 1 ≤ 140737488355328)) (iteB q52 (iteB (decide (q74 = m)) (iteB (decide (m ≤ q74)) q75 False) False) False) False) False) False) False) q76)))
 False)
 False)
 False)
 (iteB q30 (iteB q32 (iteB q26 (iteB q79 (iteB q23 (iteB q38 (iteB (decide (IntKind.u8 = IntKind.u8 ∧ 0 + q40 ≤ q40)) (iteB q80 (iteB (decide (q82 * 1 ≤ 140737488355328)) (iteB q30 (iteB q46 (iteB (decide (IntKind.u8 = IntKind.u8 ∧ 0 + q48 ≤ q48)) (iteB (decide (IntKind.u8 = IntKind.u8 ∧ q82 = q82)) (iteB (decide (q84 * 1 ≤ 140737488355328)) (iteB q52 (iteB (decide (q84 = m)) (iteB (decide (m ≤ q84)) q85 False) False) False) False) False) False) False) (iteB q52 (iteB (decide (q82 = m)) (iteB (decide (m ≤ q82)) q86 False) False) False)) False) False) False) False) (iteB q30 (iteB q46 (iteB (decide (IntKind.u8 = IntKind.u8 ∧ 0 + q48 ≤ q48)) (iteB q80 (iteB (decide (q88 * 1 ≤ 140737488355328)) (iteB q52 (iteB (decide (q88 = m)) (iteB (decide (m ≤ q88)) q89 False) False) False) False) False) False) False) q90)) False) False) False)
 (iteB q23 (iteB q38 (iteB (decide (IntKind.u8 = IntKind.u8 ∧ 0 + q40 ≤ q40)) (iteB q26 (iteB (decide (q92 * 1 ≤ 140737488355328)) (iteB q30 (iteB q46 (iteB (decide (IntKind.u8 = IntKind.u8 ∧ 0 + q48 ≤ q48)) (iteB (decide (IntKind.u8 = IntKind.u8 ∧ q92 = q92)) (iteB (decide (q94 * 1 ≤ 140737488355328)) (iteB q52 (iteB (decide (q94 = m)) (iteB (decide (m ≤ q94)) q95 False) False) False) False) False) False) False) (iteB q52 (iteB (decide (q92 = m)) (iteB (decide (m ≤ q92)) q96 False) False) False)) False) False) False) False) (iteB q30 (iteB q46 (iteB (decide (IntKind.u8 = IntKind.u8 ∧ 0 + q48 ≤ q48)) (iteB q26 (iteB (decide (q98 * 1 ≤ 140737488355328)) (iteB q52 (iteB (decide (q98 = m)) (iteB (decide (m ≤ q98)) q99 False) False) False) False) False) False) False) q100))))
 False)
 False)
 False)
 (iteB (q3 == 4)
 (iteB q18
 (iteB q19
 (iteB q22
 (iteB q23
 (iteB q25
 (iteB q26
 (iteB q29
 (iteB q30 (iteB q32 (iteB q33 (iteB q36 (iteB q23 (iteB q38 (iteB (decide (IntKind.u8 = IntKind.u8 ∧ 0 + q40 ≤ q40)) (iteB q41 (iteB (decide (q44 * 1 ≤ 140737488355328)) (iteB q30 (iteB q46 (iteB (decide (IntKind.u8 = IntKind.u8 ∧ 0 + q48 ≤ q48)) (iteB (decide (IntKind.u8 = IntKind.u8 ∧ q44 = q44)) (iteB (decide (q51 * 1 ≤ 140737488355328)) (iteB q52 (iteB (decide (q51 = m)) (iteB (decide (m ≤ q51)) q61 False) False) False) False) False) False) False) (iteB q52 (iteB (decide (q44 = m)) (iteB (decide (m ≤ q44)) q62 False) False) False)) False) False) False) False) (iteB q30 (iteB q46 (iteB (decide (IntKind.u8 = IntKind.u8 ∧ 0 + q48 ≤ q48)) (iteB q41 (iteB (decide (q64 * 1 ≤ 140737488355328)) (iteB q52 (iteB (decide (q64 = m)) (iteB (decide (m ≤ q64)) q65 False) False) False) False) False) False) False) q66)) False) False) False)
 (iteB q23 (iteB q38 (iteB (decide (IntKind.u8 = IntKind.u8 ∧ 0 + q40 ≤ q40)) (iteB q33 (iteB (decide (q68 * 1 ≤ 140737488355328)) (iteB q30 (iteB q46 (iteB (decide (IntKind.u8 = IntKind.u8 ∧ 0 + q48 ≤ q48)) (iteB (decide (IntKind.u8 = IntKind.u8 ∧ q68 = q68)) (iteB (decide (q70 * 1 ≤ 140737488355328)) (iteB q52 (iteB (decide (q70 = m)) (iteB (decide (m ≤ q70)) q71 False) False) False) False) False) False) False) (iteB q52 (iteB (decide (q68 = m)) (iteB (decide (m ≤ q68)) q72 False) False) False)) False) False) False) False) (iteB q30 (iteB q46 (iteB (decide (IntKind.u8 = IntKind.u8 ∧ 0 + q48 ≤ q48)) (iteB q33 (iteB (decide (q74 * 1 ≤ 140737488355328)) (iteB q52 (iteB (decide (q74 = m)) (iteB (decide (m ≤ q74)) q75 False) False) False) False) False) False) False) q76)))
 False)
 False)
 False)
 (iteB q30 (iteB q32 (iteB q26 (iteB q79 (iteB q23 (iteB q38 (iteB (decide (IntKind.u8 = IntKind.u8 ∧ 0 + q40 ≤ q40)) (iteB q80 (iteB (decide (q82 * 1 ≤ 140737488355328)) (iteB q30 (iteB q46 (iteB (decide (IntKind.u8 = IntKind.u8 ∧ 0 + q48 ≤ q48)) (iteB (decide (IntKind.u8 = IntKind.u8 ∧ q82 = q82)) (iteB (decide (q84 * 1 ≤ 140737488355328)) (iteB q52 (iteB (decide (q84 = m)) (iteB (decide (m ≤ q84)) q85 False) False) False) False) False) False) False) (iteB q52 (iteB (decide (q82 = m)) (iteB (decide (m ≤ q82)) q86 False) False) False)) False) False) False) False) (iteB q30 (iteB q46 (iteB (decide (IntKind.u8 = IntKind.u8 ∧ 0 + q48 ≤ q48)) (iteB q80 (iteB (decide (q88 * 1 ≤ 140737488355328)) (iteB q52 (iteB (decide (q88 = m)) (iteB (decide (m ≤ q88)) q89 False) False) False) False) False) False) False) q90)) False) False) False)
 (iteB q23 (iteB q38 (iteB (decide (IntKind.u8 = IntKind.u8 ∧ 0 + q40 ≤ q40)) (iteB q26 (iteB (decide (q92 * 1 ≤ 140737488355328)) (iteB q30 (iteB q46 (iteB (decide (IntKind.u8 = IntKind.u8 ∧ 0 + q48 ≤ q48)) (iteB (decide (IntKind.u8 = IntKind.u8 ∧ q92 = q92)) (iteB (decide (q94 * 1 ≤ 140737488355328)) (iteB q52 (iteB (decide (q94 = m)) (iteB (decide (m ≤ q94)) q95 False) False) False) False) False) False) False) (iteB q52 (iteB (decide (q92 = m)) (iteB (decide (m ≤ q92)) q96 False) False) False)) False) False) False) False) (iteB q30 (iteB q46 (iteB (decide (IntKind.u8 = IntKind.u8 ∧ 0 + q48 ≤ q48)) (iteB q26 (iteB (decide (q98 * 1 ≤ 140737488355328)) (iteB q52 (iteB (decide (q98 = m)) (iteB (decide (m ≤ q98)) q99 False) False) False) False) False) False) False) q100))))
 False)
 False)
 False)
 (iteB (q3 == 5)
 (iteB q18
 (iteB q19
 (iteB q22
 (iteB q23
 (iteB q25
 (iteB q26
 (iteB q29
 (iteB q30 (iteB q32 (iteB q33 (iteB q36 (iteB q23 (iteB q38 (iteB (decide (IntKind.u8 = IntKind.u8 ∧ 0 + q40 ≤ q40)) (iteB q41 (iteB (decide (q44 * 1 ≤ 140737488355328)) (iteB q30 (iteB q46 (iteB (decide (IntKind.u8 = IntKind.u8 ∧ 0 + q48 ≤ q48)) (iteB (decide (IntKind.u8 = IntKind.u8 ∧ q44 = q44)) (iteB (decide (q51 * 1 ≤ 140737488355328)) (iteB q52 (iteB (decide (q51 = m)) (iteB (decide (m ≤ q51)) q61 False) False) False) False) False) False) False) (iteB q52 (iteB (decide (q44 = m)) (iteB (decide (m ≤ q44)) q62 False) False) False)) False) False) False) False) (iteB q30 (iteB q46 (iteB (decide (IntKind.u8 = IntKind.u8 ∧ 0 + q48 ≤ q48)) (iteB q41 (iteB (decide (q64 * 1 ≤ 140737488355328)) (iteB q52 (iteB (decide (q64 = m)) (iteB (decide (m ≤ q64)) q65 False) False) False) False) False) False) False) q66)) False) False) False)
 (iteB q23 (iteB q38 (iteB (decide (IntKind.u8 = IntKind.u8 ∧ 0 + q40 ≤ q40)) (iteB q33 (iteB (decide (q68 * 1 ≤ 140737488355328)) (iteB q30 (iteB q46 (iteB (decide (IntKind.u8 = IntKind.u8 ∧ 0 + q48 ≤ q48)) (iteB (decide (IntKind.u8 = IntKind.u8 ∧ q68 = q68)) (iteB (decide (q70 * 1 ≤ 140737488355328)) (iteB q52 (iteB (decide (q70 = m)) (iteB (decide (m ≤ q70)) q71 False) False) False) False) False) False) False) (iteB q52 (iteB (decide (q68 = m)) (iteB (decide (m ≤ q68)) q72 False) False) False)) False) False) False) False) (iteB q30 (iteB q46 (iteB (decide (IntKind.u8 = IntKind.u8 ∧ 0 + q48 ≤ q48)) (iteB q33 (iteB (decide (q74 * 1 ≤ 140737488355328)) (iteB q52 (iteB (decide (q74 = m)) (iteB (decide (m ≤ q74)) q75 False) False) False) False) False) False) False) q76)))
 False)
 False)
 False)
 (iteB q30 (iteB q32 (iteB q26 (iteB q79 (iteB q23 (iteB q38 (iteB (decide (IntKind.u8 = IntKind.u8 ∧ 0 + q40 ≤ q40)) (iteB q80 (iteB (decide (q82 * 1 ≤ 140737488355328)) (iteB q30 (iteB q46 (iteB (decide (IntKind.u8 = IntKind.u8 ∧ 0 + q48 ≤ q48)) (iteB (decide (IntKind.u8 = IntKind.u8 ∧ q82 = q82)) (iteB (decide (q84 * 1 ≤ 140737488355328)) (iteB q52 (iteB (decide (q84 = m)) (iteB (decide (m ≤ q84)) q85 False) False) False) False) False) False) False) (iteB q52 (iteB (decide (q82 = m)) (iteB (decide (m ≤ q82)) q86 False) False) False)) False) False) False) False) (iteB q30 (iteB q46 (iteB (decide (IntKind.u8 = IntKind.u8 ∧ 0 + q48 ≤ q48)) (iteB q80 (iteB (decide (q88 * 1 ≤ 140737488355328)) (iteB q52 (iteB (decide (q88 = m)) (iteB (decide (m ≤ q88)) q89 False) False) False) False) False) False) False) q90)) False) False) False)
 (iteB q23 (iteB q38 (iteB (decide (IntKind.u8 = IntKind.u8 ∧ 0 + q40 ≤ q40)) (iteB q26 (iteB (decide (q92 * 1 ≤ 140737488355328)) (iteB q30 (iteB q46 (iteB (decide (IntKind.u8 = IntKind.u8 ∧ 0 + q48 ≤ q48)) (iteB (decide (IntKind.u8 = IntKind.u8 ∧ q92 = q92)) (iteB (decide (q94 * 1 ≤ 140737488355328)) (iteB q52 (iteB (decide (q94 = m)) (iteB (decide (m ≤ q94)) q95 False) False) False) False) False) False) False) (iteB q52 (iteB (decide (q92 = m)) (iteB (decide (m ≤ q92)) q96 False) False) False)) False) False) False) False) (iteB q30 (iteB q46 (iteB (decide (IntKind.u8 = IntKind.u8 ∧ 0 + q48 ≤ q48)) (iteB q26 (iteB (decide (q98 * 1 ≤ 140737488355328)) (iteB q52 (iteB (decide (q98 = m)) (iteB (decide (m ≤ q98)) q99 False) False) False) False) False) False) False) q100))))
 False)
 False)
 False)
 (iteB q23
 (iteB q25
 (iteB q19
 (iteB (decide (q102 * 1 ≤ 140737488355328))
 (iteB q30
 (iteB q32
 (iteB q103 (iteB (decide (q105 * 1 ≤ 140737488355328)) (iteB q23 (iteB q38 (iteB (decide (IntKind.u8 = IntKind.u8 ∧ 0 + q40 ≤ q40)) (iteB q106 (iteB (decide (q108 * 1 ≤ 140737488355328)) (iteB q30 (iteB q46 (iteB (decide (IntKind.u8 = IntKind.u8 ∧ 0 + q48 ≤ q48)) (iteB (decide (IntKind.u8 = IntKind.u8 ∧ q108 = q108)) (iteB (decide (q110 * 1 ≤ 140737488355328)) (iteB q52 (iteB (decide (q110 = m)) (iteB (decide (m ≤ q110)) (q109 = ys ∧ q60) False) False) False) False) False) False) False) (iteB q52 (iteB (decide (q108 = m)) (iteB (decide (m ≤ q108)) (q107 = ys ∧ q60) False) False) False)) False) False) False) False) (iteB q30 (iteB q46 (iteB (decide (IntKind.u8 = IntKind.u8 ∧ 0 + q48 ≤ q48)) (iteB q106 (iteB (decide (q112 * 1 ≤ 140737488355328)) (iteB q52 (iteB (decide (q112 = m)) (iteB (decide (m ≤ q112)) (q111 = ys ∧ q60) False) False) False) False) False) False) False) (iteB q52 (iteB (decide (q105 = m)) (iteB (decide (m ≤ q105)) (q104 = ys ∧ q60) False) False) False))) False) False)
 False)
 (iteB q23 (iteB q38 (iteB (decide (IntKind.u8 = IntKind.u8 ∧ 0 + q40 ≤ q40)) (iteB q103 (iteB (decide (q114 * 1 ≤ 140737488355328)) (iteB q30 (iteB q46 (iteB (decide (IntKind.u8 = IntKind.u8 ∧ 0 + q48 ≤ q48)) (iteB (decide (IntKind.u8 = IntKind.u8 ∧ q114 = q114)) (iteB (decide (q116 * 1 ≤ 140737488355328)) (iteB q52 (iteB (decide (q116 = m)) (iteB (decide (m ≤ q116)) (q115 = ys ∧ q60) False) False) False) False) False) False) False) (iteB q52 (iteB (decide (q114 = m)) (iteB (decide (m ≤ q114)) (q113 = ys ∧ q60) False) False) False)) False) False) False) False) (iteB q30 (iteB q46 (iteB (decide (IntKind.u8 = IntKind.u8 ∧ 0 + q48 ≤ q48)) (iteB q103 (iteB (decide (q118 * 1 ≤ 140737488355328)) (iteB q52 (iteB (decide (q118 = m)) (iteB (decide (m ≤ q118)) (q117 = ys ∧ q60) False) False) False) False) False) False) False) (iteB q52 (iteB (decide (q102 = m)) (iteB (decide (m ≤ q102)) (q101 = ys ∧ q60) False) False) False))))
 False)
 False)
 False)
 (iteB q30
 (iteB q32
 (iteB q19 (iteB (decide (q120 * 1 ≤ 140737488355328)) (iteB q23 (iteB q38 (iteB (decide (IntKind.u8 = IntKind.u8 ∧ 0 + q40 ≤ q40)) (iteB q121 (iteB (decide (q123 * 1 ≤ 140737488355328)) (iteB q30 (iteB q46 (iteB (decide (IntKind.u8 = IntKind.u8 ∧ 0 + q48 ≤ q48)) (iteB (decide (IntKind.u8 = IntKind.u8 ∧ q123 = q123)) (iteB (decide (q125 * 1 ≤ 140737488355328)) (iteB q52 (iteB (decide (q125 = m)) (iteB (decide (m ≤ q125)) (q124 = ys ∧ q60) False) False) False) False) False) False) False) (iteB q52 (iteB (decide (q123 = m)) (iteB (decide (m ≤ q123)) (q122 = ys ∧ q60) False) False) False)) False) False) False) False) (iteB q30 (iteB q46 (iteB (decide (IntKind.u8 = IntKind.u8 ∧ 0 + q48 ≤ q48)) (iteB q121 (iteB (decide (q127 * 1 ≤ 140737488355328)) (iteB q52 (iteB (decide (q127 = m)) (iteB (decide (m ≤ q127)) (q126 = ys ∧ q60) False) False) False) False) False) False) False) (iteB q52 (iteB (decide (q120 = m)) (iteB (decide (m ≤ q120)) (q119 = ys ∧ q60) False) False) False))) False) False)
 False)
 (iteB q23 (iteB q38 (iteB (decide (IntKind.u8 = IntKind.u8 ∧ 0 + q40 ≤ q40)) (iteB q19 (iteB (decide (q129 * 1 ≤ 140737488355328)) (iteB q30 (iteB q46 (iteB (decide (IntKind.u8 = IntKind.u8 ∧ 0 + q48 ≤ q48)) (iteB (decide (IntKind.u8 = IntKind.u8 ∧ q129 = q129)) (iteB (decide (q131 * 1 ≤ 140737488355328)) (iteB q52 (iteB (decide (q131 = m)) (iteB (decide (m ≤ q131)) (q130 = ys ∧ q60) False) False) False) False) False) False) False) (iteB q52 (iteB (decide (q129 = m)) (iteB (decide (m ≤ q129)) (q128 = ys ∧ q60) False) False) False)) False) False) False) False) (iteB q30 (iteB q46 (iteB (decide (IntKind.u8 = IntKind.u8 ∧ 0 + q48 ≤ q48)) (iteB q19 (iteB (decide (q133 * 1 ≤ 140737488355328)) (iteB q52 (iteB (decide (q133 = m)) (iteB (decide (m ≤ q133)) (q132 = ys ∧ q60) False) False) False) False) False) False) False) (iteB q52 (iteB (decide (q16 = m)) (iteB (decide (m ≤ q16)) (q15 = ys ∧ q60) False) False) False))))))))
 False)
 False)
 False)
 False)
 False)
 False)
 False)
 False)
 False)
 False)
 False)
 False)
 False)
 (iteB (decide (n = n)) (iteB (decide (n ≤ n)) (xs = xs ∧ iteB q53 (iteB q54 (q56 ∧ iteB q54 (iteB q57 (q59 ∧ iteB q57 Z2 False) False) False) False) False) False) False)) (by kernel_rfl) ?_
  conv => zeta
  try simp only [need_eq]
  try simp only [nope_eq]
  try simp only [iteD_eq]
  try simp only [iteT_eq]
  try simp only [iteF_eq]
  try simp only [iteE_eq]
  try simp only [Int.toNat_natCast, Nat.zero_add, true_and, and_true, Nat.le_refl]
  refine ⟨fun hlt => ?_, fun hge => h2 (by omega)⟩
  obtain ⟨⟨w1, w2⟩, ⟨w3, w4⟩, ⟨w5, w6⟩, w7, w8⟩ := outRight_facts (hr i (by omega))
  obtain ⟨l1, l2, l3, l4⟩ := ht.outs i (by omega)
  have hw := h1 (by omega)
  have hnn := ht.m
  have hwr : IntKind.i64.wrap ((i : Int) + 1) = ((i + 1 : Nat) : Int) := w64 (by omega)
  have u1 := numW_len (t.outs i).kind
  have u2 := numW_len (t.outs i).amount
  have u3 := numW_len (t.outs i).delay
  have u4 := numW_len (t.outs i).expiry
  subst hW
  rw [hwr]
  unfold outW at hy
  generalize t.outs i = x at *
  simp only [List.length_append, take_dropZ0]
  repeat' (first | (refine And.intro ?_ ?_) | intro _)
  all_goals (try simp only [beq_iff_eq, bne_iff_ne, ne_eq, beq_eq_false_iff_ne, bne_eq_false_iff_eq] at *)
  all_goals first | omega | assumption | trivial | skip
  all_goals first | (rw [hy]; simp [*]; done) | (rw [← hm, hy]; simp [*]; try omega; done) | skip
noncomputable def E44c (W : Int → List Int) (t : TxS) (core : Bool) : Env2 :=
  (E44 W).withL 48 0 (goM 0 (rbS t core 0 (rawI W t core 0) (rawI W t core 0).length) t.Fine (endsJ 0 t.N 9 (fun i => i < t.N) (fun i => i = t.N) (fun _ => False) (fun _ => False) (fun i => rbR t (rawI W t core i) (rawI W t core i).length) (fun i => rbR t (rawI W t core i) (rawI W t core i).length) (fun i => rbR t (rawI W t core i) (rawI W t core i).length)))
noncomputable def E44d (W : Int → List Int) (t : TxS) (core : Bool) : Env2 :=
  (E44 W).withL 48 2 (goM 0 (rbS2 t 0 (rawO W t core 0) (rawO W t core 0).length) t.Fine (endsJ 2 t.M 9 (fun i => i < t.M) (fun i => i = t.M) (fun _ => False) (fun _ => False) (fun i => rbR t (rawO W t core i) (rawO W t core i).length) (fun i => rbR t (rawO W t core i) (rawO W t core i).length) (fun i => rbR t (rawO W t core i) (rawO W t core i).length)))
theorem E44c_ok (t : TxS) (core : Bool) : (E44c numW t core).Ok := by
  unfold E44c
  refine Env2.withGoM (N := 20) (S := fun i => rbS t core i (rawI numW t core i) (rawI numW t core i).length) E44_ok (by kernel_rfl) fun hC => ⟨rfl, fun i hi hgo => ?_⟩
  have h1 := rawI_len hC core hi
  cases core
  · exact rbi_2 numW t i (rawI numW t false i) (rawI numW t false (i + 1)) _ _ _ _ hC.ok hi hC.ins rfl rfl (by omega) (rawI_succ _ _ _ _) rfl (fun h => ⟨h, h⟩) (fun h => h)
  · exact rbi_1 numW t i (rawI numW t true i) (rawI numW t true (i + 1)) _ _ _ _ hC.ok hi hC.ins rfl rfl (by omega) (rawI_succ _ _ _ _) rfl (fun h => ⟨h, h⟩) (fun h => h)
theorem E44d_ok (t : TxS) (core : Bool) : (E44d numW t core).Ok := by
  unfold E44d
  refine Env2.withGoM (N := 20) (S := fun i => rbS2 t i (rawO numW t core i) (rawO numW t core i).length) E44_ok (by kernel_rfl) fun hC => ⟨rfl, fun i hi hgo => ?_⟩
  have h1 := rawO_len hC core hi
  exact rbo_1 numW t i (rawO numW t core i) (rawO numW t core (i + 1)) _ _ _ _ hC.ok hi hC.outs rfl rfl (by omega) (rawO_succ _ _ _ _) rfl (fun h => ⟨h, h⟩) (fun h => h)
noncomputable def E44b (W : Int → List Int) (t : TxS) (core : Bool) : Env2 :=
  (E44c W t core).withL 48 2 (goM 0 (rbS2 t 0 (rawO W t core 0) (rawO W t core 0).length) t.Fine (endsJ 2 t.M 9 (fun i => i < t.M) (fun i => i = t.M) (fun _ => False) (fun _ => False) (fun i => rbR t (rawO W t core i) (rawO W t core i).length) (fun i => rbR t (rawO W t core i) (rawO W t core i).length) (fun i => rbR t (rawO W t core i) (rawO W t core i).length)))
set_option maxRecDepth 100000 in
set_option maxHeartbeats 0 in
theorem bytesr_1 (W : Int → List Int) (t : TxS) (core : Bool) (ys : List Int) (L : Nat) (hW : W = numW) (ht : t.Fine) (hy : ys = rawT W t core) (hL : L = ys.length) :
    evF (E44b W t core) 20 48 [.agg t.c, .bool core] ⟨0, []⟩ (outM 0 (.ret (.nslice ⟨0, 0, 0, 0, 0⟩ 1 L L)) 1 [(0, .ints .u8 ys)]) := by
  refine @Eq.mpr _ (let q1 := t.num;
 let q2 := List.length (W q1);
 let q3 := [] ++ List.take q2 (dropZ 0 (W q1));
 let q4 := List.length q3;
 let q5 := t.N;
 let q6 := ↑q5;
 let q7 := decide (q5 = q5);
 let q8 := inRows t.ins;
 let q9 := q8 = q8;
 let q10 := W q6;
 let q11 := List.length q10;
 let q12 := q3 ++ List.take q11 (dropZ 0 q10);
 let q13 := List.length q12;
 let q14 := rawI W t core 0;
 let q15 := List.length q14;
 let q16 := decide (q1 = q1);
 let q17 := t.M;
 let q18 := decide (q17 = q17);
 let q19 := outRows t.outs;
 let q20 := q19 = q19;
 let q21 := W ↑q17;
 let q22 := List.length q21;
 let q23 := rawO W t core 0;
 let q24 := List.length q23;
 let q25 := (False → False) ∧ (False → False);
 iteB (decide (0 ≤ q1))
 (iteB (decide (IntKind.u8 = IntKind.u8 ∧ 0 + q2 ≤ q2))
 (iteB (decide (q4 * 1 ≤ 140737488355328))
 (iteB (decide (q6 = q6))
 (iteB q7
 (q9 ∧
 iteB q7
 (iteB (decide (IntKind.u8 = IntKind.u8 ∧ 0 + q11 ≤ q11))
 (iteB (decide (IntKind.u8 = IntKind.u8 ∧ q4 = q4))
 (iteB (decide (q13 * 1 ≤ 140737488355328))
 (iteB (decide (q13 = q15))
 (iteB (decide (q15 ≤ q13))
 (iteB (decide (core = core))
 (q12 = q14 ∧
 iteB q16
 (iteB q7
 (q9 ∧
 iteB q7
 (iteB q18
 (q20 ∧
 iteB q18
 (TxS.Fine t ∧
 ∀ (i : Nat),
 let q51 := rawI W t core i;
 let q52 := List.length q51;
 let q53 := q51 ++ List.take q22 (dropZ 0 q21);
 let q54 := List.length q53;
 i ≤ q5 →
 (∀ (j : Nat), j < i → (fun (i : Nat) => i < q5) j) →
 (i = q5 →
 iteB (decide (IntKind.u8 = IntKind.u8 ∧ 0 + q22 ≤ q22))
 (iteB (decide (IntKind.u8 = IntKind.u8 ∧ q52 = q52))
 (iteB (decide (q54 * 1 ≤ 140737488355328))
 (iteB (decide (q54 = q24))
 (iteB (decide (q24 ≤ q54))
 (q53 = q23 ∧
 iteB q16
 (iteB q7
 (q9 ∧
 iteB q7
 (iteB q18
 (q20 ∧
 iteB q18
 (TxS.Fine t ∧
 ∀ (i : Nat),
 let q59 := rawO W t core i;
 let q60 := List.length q59;
 i ≤ q17 → (∀ (j : Nat), j < i → (fun (i : Nat) => i < q17) j) → (i = q17 → iteB (decide (q60 = L)) (iteB (decide (L ≤ q60)) (q59 = ys ∧ True) False) False) ∧ q25)
 False)
 False)
 False)
 False)
 False)
 False)
 False)
 False)
 False)
 False) ∧
 q25)
 False)
 False)
 False)
 False)
 False)
 False)
 False)
 False)
 False)
 False)
 False)
 False)
 False)
 False)
 False)
 False)
 False) (by kernel_rfl) ?_
  conv => zeta
  try simp only [need_eq]
  try simp only [nope_eq]
  try simp only [iteD_eq]
  try simp only [iteT_eq]
  try simp only [iteF_eq]
  try simp only [iteE_eq]
  try simp only [Int.toNat_natCast, Nat.zero_add, true_and, and_true, Nat.le_refl]
  subst hW hy hL
  have e1 : numW t.num ++ numW ↑t.N = rawI numW t core 0 := by unfold rawI; simp [catL]
  have e2 : rawI numW t core t.N ++ numW ↑t.M = rawO numW t core 0 := by unfold rawO; simp [catL]
  have b1 := rawI_len ht core (Nat.le_refl t.N)
  have b2 := rawO_len ht core (Nat.le_refl t.M)
  have hN := ht.n
  have hM := ht.m
  have hq := ht.num
  simp only [take_dropZ0, List.nil_append, e1, Nat.mul_one]
  have b0 := rawI_len ht core (Nat.zero_le t.N)
  have c0 := rawO_len ht core (Nat.zero_le t.M)
  have d1 := numW_len t.num
  refine ⟨hq.1, by omega, by omega, trivial, Nat.le_refl _, trivial, ht, fun i hi _ => ⟨fun he => ?_, fun h => h, fun h => h⟩⟩
  subst he
  rw [e2]
  refine ⟨by omega, rfl, Nat.le_refl _, rfl, ht, fun i hi _ => ⟨fun he => ?_, fun h => h, fun h => h⟩⟩
  subst he
  exact ⟨rfl, Nat.le_refl _, rfl⟩
theorem E44b_ok (t : TxS) (core : Bool) : (E44b numW t core).Ok := by
  unfold E44b
  exact Env2.withL_join (G := E44c numW t core) (H := E44 numW) (E44c_ok t core) rfl (E44d_ok t core)
theorem bytesr_pure (t : TxS) (core : Bool) (ht : t.Fine) : Pure PP 48 [.agg t.c, .bool core] (.nslice ⟨0, 0, 0, 0, 0⟩ 1 (rawT numW t core).length (rawT numW t core).length) 1 [(0, .ints .u8 (rawT numW t core))] := .evM (E44b_ok t core) (bytesr_1 _ t core _ _ rfl ht rfl rfl)
theorem bytesrF_ok (args : List AV) (h : Heap) (K : KO) (hl : rawF (rawT numW) args h K) : CallsA PP 48 args h K := by
  refine Pure.fsumm (d := 20) (viewL_weak _ _ _ _ _ hl fun a ha => ?_)
  split at ha
  · obtain ⟨t, h1, h2, hK⟩ := ha
    exact ⟨_, _, _, _, (bytesr_pure t _ h2).conv fun E r hr => hr.head (fun _ hc => h1.rel hc) (fun _ hc => hc), rfl, ⟨Nat.one_pos, .ints _ _, trivial⟩, hK⟩
  · exact ha.elim
end Go.Tk
end
section
namespace Go.Tk
inductive Ty where
  | bool
  | int (k : IntKind)
  | str
  | arr (k : IntKind) (n : Nat)
  | ints (k : IntKind)
  | rows (esz : Nat) (ts : List Ty)
def tyFs (P : Program) (r : TypeId → Option (List Ty)) (sz : Nat) : Nat → List Field → Option (List Ty)
  | o, [] => if o = sz then some [] else none
  | o, f :: fs => if f.offset = o then (r f.type).bind fun a => (tyFs P r sz (o + P.cellsOf f.type) fs).bind fun b => some (a ++ b) else none
def tyOf (P : Program) : Nat → TypeId → Option (List Ty)
  | 0, _ => none
  | m + 1, t => match P.underlying t with
    | some .bool => some [.bool]
    | some (.int k) => some [.int k]
    | some .string => some [.str]
    | some (.array n e) => match P.underlying e with
      | some (.int k) => if P.cellsOf t = n ∧ P.cellsOf e = 1 then some [.arr k n] else none
      | _ => none
    | some (.slice e) => match P.underlying e with
      | some (.int k) => if P.cellsOf e = 1 then some [.ints k] else none
      | _ => (tyOf P m e).bind fun ts => some [.rows (P.cellsOf e) ts]
    | some (.struct fs) => tyFs P (tyOf P m) (P.cellsOf t) 0 fs.toList
    | _ => none
mutual
inductive FitsT : Ty → AV → Prop
  | bool (b : Bool) : FitsT .bool (.bool b)
  | int (k : IntKind) (n : Int) (h : (Lit.int k n).wf = true) : FitsT (.int k) (.int k n)
  | str (s : ByteArray) (h : s.size ≤ maxLen) : FitsT .str (.str s)
  | arr (k : IntKind) (n : Nat) (xs : List Int) (h : xs.length = n) (hw : ∀ i, i < n → (Lit.int k (xs.getD i 0)).wf = true) : FitsT (.arr k n) (.arr k n xs)
  | ints (k : IntKind) (xs : List Int) (n : Nat) (h : xs.length = n) (hm : n ≤ maxLen) (hw : ∀ i, i < n → (Lit.int k (xs.getD i 0)).wf = true) : FitsT (.ints k) (.vints k xs n)
  | rows (esz : Nat) (ts : List Ty) (n : Nat) (f : Nat → List AV) (hm : n ≤ maxLen) (h : ∀ i, i < n → Fits ts (f i)) : FitsT (.rows esz ts) (.vrows esz n f n)
inductive Fits : List Ty → List AV → Prop
  | nil : Fits [] []
  | cons (t : Ty) (a : AV) (ts : List Ty) (vz : List AV) (h : FitsT t a) (r : Fits ts vz) : Fits (t :: ts) (a :: vz)
end
theorem Fits.append : ∀ {ts wz : List Ty} {vz bs : List AV}, Fits ts vz → Fits wz bs → Fits (ts ++ wz) (vz ++ bs)
  | _, _, _, _, .nil, h => h
  | _, _, _, _, .cons t a ts vz h r, k => .cons t a _ _ h (Fits.append r k)
def tE (w : World) : Env := ⟨fun _ => none, fun a c => w.cell? a = some c⟩
section
variable {H : Type} {enc : TypeId × Value → H} {P : Program} {w : World} {sp : Nat → Bool} {held : Bool}
theorem ints_of_cells {k : IntKind} {n : Nat} {cs : List Value} (hl : cs.length = n) (h : ∀ i, i < n → ∃ z, cs[i]? = some (.int k z) ∧ (Lit.int k z).wf = true) :
    ∃ xs : List Int, xs.length = n ∧ (∀ i, i < n → (Lit.int k (xs.getD i 0)).wf = true) ∧ ∀ i, i < n → cs[i]? = some (.int k (xs.getD i 0)) := by
  refine ⟨cs.map fun v => match v with | .int _ z => z | _ => 0, by simp [hl], fun i hi => ?_, fun i hi => ?_⟩
  · obtain ⟨z, h1, h2⟩ := h i hi
    rw [List.getD_eq_getElem?_getD, List.getElem?_map, h1]
    exact h2
  · obtain ⟨z, h1, h2⟩ := h i hi
    rw [List.getD_eq_getElem?_getD, List.getElem?_map, h1]
    rfl
theorem choose2 {α β : Type} {n : Nat} {p : Nat → α → β → Prop} [Inhabited α] [Inhabited β] (h : ∀ i, i < n → ∃ a b, p i a b) : ∃ (f : Nat → α) (g : Nat → β), ∀ i, i < n → p i (f i) (g i) :=
  ⟨fun i => if hi : i < n then Classical.choose (h i hi) else default, fun i => if hi : i < n then Classical.choose (Classical.choose_spec (h i hi)) else default, fun i hi => by
    simp only [hi, dite_true]
    exact Classical.choose_spec (Classical.choose_spec (h i hi))⟩
theorem open_ty : ∀ (m : Nat) (t : TypeId) (ts : List Ty), tyOf P m t = some ts → ∀ (fuel : Nat) (cs : List Value) (x : DataW H × List MemPlace), DataW.trod enc P w 0 sp held fuel t cs = some x → ∃ vz, Fits ts vz ∧ CRel (tE w) vz cs
  | 0, _, _, ht => by simp [tyOf] at ht
  | m + 1, t, ts, ht => by
    intro fuel cs x hx
    unfold tyOf at ht
    split at ht
    · rename_i hu
      cases ht
      obtain ⟨b, rfl, _⟩ := DataW.trod_bool hu hx
      exact ⟨[.bool b], .cons _ _ _ _ (.bool b) .nil, .one _ _ _ _ rfl rfl (.bool b) .nil⟩
    · rename_i k hu
      cases ht
      obtain ⟨n, rfl, _, hw⟩ := DataW.trod_int hu hx
      exact ⟨[.int k n], .cons _ _ _ _ (.int k n hw) .nil, .one _ _ _ _ rfl rfl (.int k n) .nil⟩
    · rename_i hu
      cases ht
      obtain ⟨s, rfl, _, hw⟩ := DataW.trod_string hu hx
      exact ⟨[.str s], .cons _ _ _ _ (.str s hw) .nil, .one _ _ _ _ rfl rfl (.str s) .nil⟩
    · rename_i n e hu
      split at ht
      · rename_i k he
        split at ht
        · rename_i hc
          obtain ⟨hc, h1⟩ := hc
          cases ht
          obtain ⟨xs, q, rfl, rfl, hl, hn, hi⟩ := DataW.trod_array hu hx
          rw [hc] at hl
          obtain ⟨zs, z1, z2, z3⟩ := ints_of_cells (k := k) hl fun i hlt => by
            have := hi i hlt
            rw [List.getElem?_eq_getElem (by omega), h1] at this
            obtain ⟨z, e1, _, e2⟩ := DataW.trod_int he this
            refine ⟨z, ?_, e2⟩
            rw [Nat.mul_one] at e1
            have := congrArg (fun l => l[0]?) e1
            simpa using this
          refine ⟨[.arr k n zs], .cons _ _ _ _ (.arr k n zs z1 z2) .nil, ?_⟩
          have : cs = intCells k n zs ++ [] := by
            rw [List.append_nil]
            refine List.ext_getElem? fun i => ?_
            by_cases hlt : i < n
            · rw [z3 i hlt]
              simp [intCells, hlt]
            · rw [List.getElem?_eq_none (by omega), List.getElem?_eq_none (by rw [intCells_length]; omega)]
          rw [this]
          exact .arr _ _ _ _ _ .nil
        · cases ht
      · cases ht
    · rename_i e hu
      split at ht
      · rename_i k he
        split at ht
        · rename_i hc
          cases ht
          rcases DataW.trod_slice hu hx with ⟨rfl, _⟩ | ⟨a, len, cap, elems, rest, n, rfl, rfl, _, _, hl, hm, hlen, hi, _, _⟩
          · exact ⟨[.vints k [] 0], .cons _ _ _ _ (.ints k [] 0 rfl (Nat.zero_le _) fun i hi => absurd hi (Nat.not_lt_zero i)) .nil, .one _ _ _ _ rfl rfl (.vintsNil _ _ _ rfl rfl) .nil⟩
          · obtain ⟨zs, z1, z2, z3⟩ := ints_of_cells (k := k) (n := len) (cs := (List.range len).map fun i => (w.cell? (a.add i)).getD undef) (by simp) fun i hlt => by
              have := hi i hlt
              rw [List.getElem?_eq_getElem (by omega), hc, Nat.mul_one] at this
              obtain ⟨cs', h1, h2⟩ := Option.bind_eq_some_iff.1 this
              obtain ⟨z, rfl, _, e2⟩ := DataW.trod_int he h2
              refine ⟨z, ?_, e2⟩
              simp [hlt, Go.ChangeShapes.cell_of_cells?_one h1]
            refine ⟨[.vints k zs len], .cons _ _ _ _ (.ints k zs len z1 (by omega) z2) .nil, .one _ _ _ _ rfl rfl (.vints k zs len a cap (by omega) (by omega) fun i hlt => ?_) .nil⟩
            rw [z1] at hlt
            have := hi i hlt
            rw [List.getElem?_eq_getElem (by omega), hc, Nat.mul_one] at this
            obtain ⟨cs', h1, h2⟩ := Option.bind_eq_some_iff.1 this
            obtain ⟨z, rfl, _, e2⟩ := DataW.trod_int he h2
            have h3 := z3 i hlt
            have h4 := Go.ChangeShapes.cell_of_cells?_one h1
            simp [hlt, h4] at h3
            show w.cell? (a.add i) = _
            rw [h4, h3, List.getD_eq_getElem?_getD]
        · cases ht
      · obtain ⟨es, h1, h2⟩ := Option.bind_eq_some_iff.1 ht
        cases h2
        rcases DataW.trod_slice hu hx with ⟨rfl, _⟩ | ⟨a, len, cap, elems, rest, n, rfl, rfl, _, _, hl, hm, hlen, hi, _, _⟩
        · exact ⟨[.vrows (P.cellsOf e) 0 (fun _ => []) 0], .cons _ _ _ _ (.rows _ _ 0 _ (Nat.zero_le _) fun i hi => absurd hi (Nat.not_lt_zero i)) .nil, .one _ _ _ _ rfl rfl (.vrowsNil _ _ _ _ rfl rfl) .nil⟩
        · obtain ⟨f, g, hfg⟩ := choose2 (n := len) (p := fun i (vz : List AV) (vs : List Value) => Fits es vz ∧ CRel (tE w) vz vs ∧ w.cells? 0 (a.add (i * P.cellsOf e)) (P.cellsOf e) = some vs) fun i hlt => by
            have := hi i hlt
            rw [List.getElem?_eq_getElem (by omega)] at this
            obtain ⟨cs', k1, k2⟩ := Option.bind_eq_some_iff.1 this
            obtain ⟨vz, f1, f2⟩ := open_ty m _ _ h1 _ _ _ k2
            exact ⟨vz, cs', f1, f2, k1⟩
          refine ⟨[.vrows (P.cellsOf e) len f len], .cons _ _ _ _ (.rows _ _ len f (by omega) fun i hlt => (hfg i hlt).1) .nil, .one _ _ _ _ rfl rfl (.vrows _ _ _ _ a cap g (Nat.le_refl _) hl (fun i hlt => (hfg i hlt).2.1) (fun i hlt => (World.cells?_some (hfg i hlt).2.2).2.1) fun i j c hlt hj => ?_) .nil⟩
          obtain ⟨_, hl', hc'⟩ := World.cells?_some (hfg i hlt).2.2
          have hj' : j < P.cellsOf e := by
            rcases Nat.lt_or_ge j (P.cellsOf e) with h | h
            · exact h
            · rw [List.getElem?_eq_none (by omega)] at hj; cases hj
          have := hc' j hj'
          rw [hj] at this
          show w.cell? (a.add (i * P.cellsOf e + j)) = some c
          rw [← this]
          rw [Addr.add_add]
    · rename_i fs hu
      obtain ⟨xs, n, rfl, rfl, hl, hn, hf⟩ := DataW.trod_struct hu hx
      have key : ∀ (l : List Field) (o : Nat) (ts : List Ty) (i0 : Nat), tyFs P (tyOf P m) (P.cellsOf t) o l = some ts → (∀ i f, l[i]? = some f → fs[i0 + i]? = some f) → ∃ vz, Fits ts vz ∧ CRel (tE w) vz (cs.drop o) := by
        intro l
        induction l with
        | nil =>
          intro o ts i0 h _
          unfold tyFs at h
          split at h
          · rename_i ho
            cases h
            exact ⟨[], .nil, by rw [List.drop_eq_nil_of_le (by omega)]; exact .nil⟩
          · cases h
        | cons f l ih =>
          intro o ts i0 h hl'
          unfold tyFs at h
          split at h
          · rename_i ho
            obtain ⟨a, h1, h2⟩ := Option.bind_eq_some_iff.1 h
            obtain ⟨b, h3, h4⟩ := Option.bind_eq_some_iff.1 h2
            cases h4
            have h0 : fs[i0]? = some f := hl' 0 f rfl
            have hlt : i0 < fs.size := by
              rcases Nat.lt_or_ge i0 fs.size with h | h
              · exact h
              · rw [Array.getElem?_eq_none (by omega)] at h0; cases h0
            have k := hf i0 f h0
            rw [List.getElem?_eq_getElem (by omega), ho] at k
            obtain ⟨vz, p1, p2⟩ := open_ty m _ _ h1 _ _ _ k
            obtain ⟨bs, q1, q2⟩ := ih (o + P.cellsOf f.type) b (i0 + 1) h3 fun i g hg => by
              have := hl' (i + 1) g hg
              rw [← this]; congr 1; omega
            refine ⟨vz ++ bs, p1.append q1, ?_⟩
            have e : cs.drop o = (cs.drop o).take (P.cellsOf f.type) ++ cs.drop (o + P.cellsOf f.type) := by
              rw [← List.drop_drop, List.take_append_drop]
            rw [e]
            exact p2.append q2
          · cases h
      obtain ⟨vz, h1, h2⟩ := key fs.toList 0 ts 0 ht fun i f h => by simpa using h
      exact ⟨vz, h1, by simpa using h2⟩
    · cases ht
def isAgg (P : Program) (t : TypeId) : Bool := match P.underlying t with
  | some (.struct _) | some (.array _ _) => true
  | _ => false
inductive FitsA : Bool → List Ty → AV → Prop
  | agg (ts : List Ty) (vz : List AV) (h : Fits ts vz) : FitsA true ts (.agg vz)
  | one (t : Ty) (a : AV) (h : FitsT t a) : FitsA false [t] a
theorem open_one {m : Nat} {t : TypeId} {ts : List Ty} (ht : tyOf P m t = some ts) (hg : isAgg P t = false) {v : Value} {r : Reach} {b : Nat} (hv : Value.okWide P w r b t v) :
    v.cells.toList = [v] ∧ ∃ τ, ts = [τ] ∧ ∀ k n, τ ≠ .arr k n := by
  cases m with
  | zero => simp [tyOf] at ht
  | succ m =>
    unfold tyOf at ht
    unfold isAgg at hg
    split at ht
    · rename_i hu; cases ht; obtain ⟨b, rfl⟩ := Go.WideShapes.okWide_bool hu hv; exact ⟨rfl, _, rfl, fun _ _ h => by cases h⟩
    · rename_i hu; cases ht; obtain ⟨b, rfl⟩ := Go.WideShapes.okWide_int hu hv; exact ⟨rfl, _, rfl, fun _ _ h => by cases h⟩
    · rename_i hu; cases ht; obtain ⟨b, rfl⟩ := Go.WideShapes.okWide_string hu hv; exact ⟨rfl, _, rfl, fun _ _ h => by cases h⟩
    · rename_i hu; simp [hu] at hg
    · rename_i hu
      obtain ⟨a, l, c, rfl⟩ := Go.WideShapes.okWide_slice hu hv
      split at ht
      · split at ht
        · cases ht; exact ⟨rfl, _, rfl, fun _ _ h => by cases h⟩
        · cases ht
      · obtain ⟨es, h1, h2⟩ := Option.bind_eq_some_iff.1 ht
        cases h2; exact ⟨rfl, _, rfl, fun _ _ h => by cases h⟩
    · rename_i hu; simp [hu] at hg
    · cases ht
theorem open_arg {m : Nat} {t : TypeId} {ts : List Ty} {g : Bool} (ht : tyOf P m t = some ts) (hg : isAgg P t = g) {v : Value} {r : Reach} {b : Nat} (hv : Value.okWide P w r b t v) {d : DataW H} {ps : List MemPlace} (h : DataW.Trod enc P w 0 sp held t v d ps) :
    ∃ a, FitsA g ts a ∧ VRel (tE w) a v := by
  obtain ⟨fuel, hf⟩ := h
  obtain ⟨vz, f1, f2⟩ := open_ty m _ _ ht _ _ _ hf
  cases g with
  | true =>
    have : ∃ cs, v = .agg cs := by
      unfold isAgg at hg
      unfold Value.okWide at hv
      split at hg
      · rename_i hu; simp only [hu] at hv; obtain ⟨cs, rfl, _⟩ := hv; exact ⟨cs, rfl⟩
      · rename_i hu; simp only [hu] at hv; obtain ⟨cs, rfl, _⟩ := hv; exact ⟨cs, rfl⟩
      · cases hg
    obtain ⟨cs, rfl⟩ := this
    refine ⟨.agg vz, .agg _ _ f1, ?_⟩
    have : cs = (Value.cells (.agg cs)).toList.toArray := by simp [Value.cells]
    rw [this]
    exact .agg _ _ f2
  | false =>
    obtain ⟨h1, τ, rfl, h2⟩ := open_one ht hg hv
    rw [h1] at f2
    cases f1 with
    | cons _ a _ vz f r =>
      cases r
      generalize hL : [v] = L at f2
      cases f2 with
      | one _ _ _ _ h0 h1 h t => cases hL; exact ⟨_, .one _ _ f, h⟩
      | arr k n xs _ cs t => cases f; exact absurd rfl (h2 _ _)
end
end Go.Tk
end
section
namespace Go.Tk
open Go.ChangeShapes Go.WideShapes Go.RowKit
theorem tE_emb (w : World) : Emb (tE w) ⟨0, []⟩ w where
  fresh := fun _ _ => rfl
  lt := fun x B h => by simp [Heap.get, getB] at h
  own := fun x B h => by simp [Heap.get, getB] at h
  disj := fun x y B B' b N N' h => absurd h (by simp [Heap.get, getB])
  imm := fun _ _ h => h
  sep := fun a c x B N _ h => absurd h (by simp [Heap.get, getB])
theorem CallsA.topT {P : Program} {f : FuncId} {args : List AV} (h : CallsA P f args ⟨0, []⟩ fun o h' => ∃ v, o = .ret v ∧ h' = ⟨0, []⟩ ∧ v = .bool true) {w : World} {rs : List Value} (hl : LRel (tE w) args rs) :
    Calls P f rs.toArray w fun e w' => e = .returned (.bool true) ∧ Go.RowKit.Below w.heap.size w w' := by
  refine (h (tE w) w rs (tE_emb w) hl).mono ?_
  rintro e w' ⟨E', o, h', ⟨v, rfl, rfl, hv⟩, hev, hor⟩
  obtain rfl := hv
  cases hor with
  | ret v r hr =>
    cases hr
    refine ⟨rfl, hev.os, hev.tape, hev.output, hev.size, fun k hk => hev.keep k hk ?_⟩
    rintro ⟨x, B, N, hx, _⟩
    exact absurd hx (by simp [Heap.get, getB])
def argTys (P : Program) (m : Nat) : List TypeId → Option (List (Bool × List Ty))
  | [] => some []
  | t :: r => (tyOf P m t).bind fun a => (argTys P m r).bind fun b => some ((isAgg P t, a) :: b)
inductive FitsL : List (Bool × List Ty) → List AV → Prop
  | nil : FitsL [] []
  | cons (g : Bool) (ts : List Ty) (a : AV) (r : List (Bool × List Ty)) (vz : List AV) (h : FitsA g ts a) (k : FitsL r vz) : FitsL ((g, ts) :: r) (a :: vz)
section
variable {H : Type} {enc : TypeId × Value → H} {P : Program} {w : World}
theorem open_args {m : Nat} {r : Reach} {b : Nat} : ∀ {ts : List TypeId} {τs : List (Bool × List Ty)} {vs : List Value} {ds : List (DataW H)} {ps : List MemPlace}, argTys P m ts = some τs → (∀ (j : Nat) t v, ts[j]? = some t → vs[j]? = some v → Value.okWide P w r b t v) →
    DataW.TrodAll enc P w 0 (fun _ => true) true ts vs ds ps → ∃ vz, FitsL τs vz ∧ LRel (tE w) vz vs
  | [], τs, vs, ds, ps, ha, _, h => by
    cases ha
    obtain ⟨rfl, _, _⟩ := trodAll_nil h
    exact ⟨[], .nil, .nil⟩
  | t :: ts, τs, vs, ds, ps, ha, hv, h => by
    obtain ⟨a, h1, h2⟩ := Option.bind_eq_some_iff.1 ha
    obtain ⟨c, h3, h4⟩ := Option.bind_eq_some_iff.1 h2
    cases h4
    obtain ⟨v, vs', d, ds', p, q, rfl, rfl, rfl, k1, k2⟩ := trodAll_cons h
    obtain ⟨x, f1, f2⟩ := open_arg h1 rfl (hv 0 t v rfl rfl) k1
    obtain ⟨vz, g1, g2⟩ := open_args h3 (fun j t' v' e1 e2 => hv (j + 1) t' v' e1 e2) k2
    exact ⟨x :: vz, .cons _ _ _ _ _ f1 g1, .cons _ _ _ _ f2 g2⟩
theorem trodAll_len {sp : Nat → Bool} {held : Bool} : ∀ {ts : List TypeId} {vs : List Value} {ds : List (DataW H)} {ps : List MemPlace}, DataW.TrodAll enc P w 0 sp held ts vs ds ps → ds.length = ts.length
  | [], _, _, _, h => by obtain ⟨_, rfl, _⟩ := trodAll_nil h; rfl
  | t :: ts, _, _, _, h => by
    obtain ⟨v, vs', d, ds', p, q, rfl, rfl, rfl, k1, k2⟩ := trodAll_cons h
    simp [trodAll_len k2]
theorem below_all {W' : World} (laid : laidOutB P = true) (hb : Below w.heap.size w W') : ∀ {ts : List TypeId} {vs : List Value} {ds : List (DataW H)} {ps : List MemPlace}, ts.all (fun t => P.readableRec t && decide (t < P.types.size)) = true →
    DataW.TrodAll enc P w 0 (fun _ => true) true ts vs ds ps → DataW.TrodAll enc P W' 0 (fun b => decide (b < w.heap.size)) true ts vs ds ps
  | [], _, _, _, _, h => by obtain ⟨rfl, rfl, rfl⟩ := trodAll_nil h; exact trodAll_mk0
  | t :: ts, _, _, _, hr, h => by
    obtain ⟨v, vs', d, ds', p, q, rfl, rfl, rfl, k1, k2⟩ := trodAll_cons h
    simp only [List.all_cons, Bool.and_eq_true, decide_eq_true_eq] at hr
    have lt : ∀ x ∈ p, x.block < w.heap.size := by obtain ⟨m, hm⟩ := k1; exact DataW.trod_lt m _ _ _ hm
    exact trodAll_cons_mk (Below.trod laid hr.1.1 hr.1.2 k1 hb lt) (below_all laid hb hr.2 k2)
end
theorem lifted_gen {H : Type} {enc : TypeId × Value → H} {C : Checked} {os : Os} {f : FuncId} {fn : Func} {s : ChangeSpec} {conds : List PathCond} {tb : TypeId} {m : Nat} {τs : List (Bool × List Ty)}
    (own : ownKnob C.prog.godebug = none) (laid : laidOutB C.prog = true) (started : os.Started) (noInit : C.prog.inits.idxOf? f = none) (hfn : C.prog.funcs[f]? = some fn)
    (witness : ∃ (w : World) (tape : Tape) (i : Input), w.os = os ∧ (w.forCall tape i).Shaped C.prog ∧ i.vars = [] ∧ Input.okWide C.prog (w.forCall tape i) .any w.heap.size f i ∧
      s.pre6 enc C.prog fn conds false (w.forCall tape i).memory i.args ∧ ({} : Assume).holds C.prog (lone (Frame.enter C.prog f i.args .normal) [] (w.forCall tape i)))
    (hvars : s.vars = []) (hr : fn.resultTypes = #[tb]) (hb : C.prog.underlying tb = some .bool) (hread : fn.params.toList.all (fun t => C.prog.readableRec t && decide (t < C.prog.types.size)) = true) (hτ : argTys C.prog m fn.params.toList = some τs)
    (hs : ∀ ds : List (DataW H), ds.length = fn.params.toList.length → s.fn H ds = { results := [.lit (.bool true)], args := ds })
    (walk : ∀ vz, FitsL τs vz → CallsA C.prog f vz ⟨0, []⟩ fun o h' => ∃ v, o = .ret v ∧ h' = ⟨0, []⟩ ∧ v = .bool true) :
    ReturnsInHanded {} C os f .any (s.pre6 enc C.prog fn conds false) (s.post enc C.prog fn false true false false) := by
  refine returnsInHanded_of_change own started noInit hfn witness ?_
  intro W base args ds gs before hval hW _ _
  have hW' := hW
  obtain ⟨p, q, hA, hV, rfl, hfz, hnd⟩ := hW
  have hV0 := hV
  rw [hvars] at hV
  obtain ⟨rfl, rfl⟩ := trodVars_none hV
  obtain ⟨vz, f1, f2⟩ := open_args hτ (fun j t v e1 e2 => hval j t v (by simpa using e1) (by simpa using e2)) hA
  have e0 : args = args.toList.toArray := by simp
  have key := (walk vz f1).topT f2
  rw [← e0] at key
  refine key.mono fun e W' ⟨he, bel⟩ => ?_
  subst he
  have hfn' := hs ds (trodAll_len hA)
  refine ⟨_, rfl, ds, [], _, [], p, [], hW', ?_, ?_, ?_, bel.frame _, fun h => by cases h⟩
  · rw [List.append_nil, hfn', hr]
    exact trodAll_mk1 (shut_bool hb _)
  · rw [List.append_nil, hfn']
    exact below_all laid bel hread hA
  · rw [List.append_nil, hfn', hvars]
    rfl
end Go.Tk
end
section
namespace Go.Tk
def inTy : List Ty := [.arr .u8 32, .int .i64, .int .i64, .arr .u8 32, .arr .u8 32, .arr .u8 32]
def outTy : List Ty := [.int .i64, .int .i64, .arr .u8 32, .arr .u8 32, .arr .u8 32, .arr .u8 32, .int .i64, .int .i64]
def txTy : List Ty := [.int .i64, .rows 130 inTy, .rows 132 outTy]
theorem bytes_of {n : Nat} {xs : List Int} (h : xs.length = n) (hw : ∀ i, i < n → (Lit.int .u8 (xs.getD i 0)).wf = true) : Bytes xs := ⟨fun i => by
  by_cases hi : i < n
  · have := hw i hi
    simp [Lit.wf] at this
    have m1 : IntKind.u8.min = 0 := rfl
    have m2 : IntKind.u8.max = 255 := rfl
    simp
    omega
  · rw [List.getD_eq_getElem?_getD, List.getElem?_eq_none (by omega)]; simp⟩
theorem i64_of {n : Int} (h : (Lit.int .i64 n).wf = true) : -9223372036854775808 ≤ n ∧ n ≤ 9223372036854775807 := by
  simp [Lit.wf] at h
  have m1 : IntKind.i64.min = -9223372036854775808 := rfl
  have m2 : IntKind.i64.max = 9223372036854775807 := rfl
  omega
structure InS.By (x : InS) : Prop where
  name : Bytes x.name
  tag : Bytes x.tag
  also : Bytes x.also
  secret : Bytes x.secret
structure OutS.By (x : OutS) : Prop where
  owner : Bytes x.owner
  other : Bytes x.other
  point : Bytes x.point
  hash : Bytes x.hash
structure TxAll (t : TxS) : Prop where
  ins : ∀ i, i < t.N → (t.ins i).By
  outs : ∀ i, i < t.M → (t.outs i).By
theorem TxAll.b {t : TxS} (h : TxAll t) : TxB t := ⟨fun i hi => ⟨(h.outs i hi).owner, (h.outs i hi).other⟩⟩
theorem fits_in {l : List AV} (h : Fits inTy l) : ∃ x : InS, l = x.c ∧ x.Ok ∧ x.By := by
  unfold inTy at h
  cases h with | cons _ a _ u h1 h =>
  cases h with | cons _ b _ u h2 h =>
  cases h with | cons _ c _ u h3 h =>
  cases h with | cons _ d _ u h4 h =>
  cases h with | cons _ e _ u h5 h =>
  cases h with | cons _ f _ u h6 h =>
  cases h; cases h1; cases h2; cases h3; cases h4; cases h5; cases h6
  rename_i x1 l1 w1 x2 w2 x3 w3 x4 l4 w4 x5 l5 w5 x6 l6 w6
  exact ⟨⟨x1, x2, x3, x4, x5, x6⟩, rfl, ⟨l1, l4, l5, l6⟩, ⟨bytes_of l1 w1, bytes_of l4 w4, bytes_of l5 w5, bytes_of l6 w6⟩⟩
theorem fits_out {l : List AV} (h : Fits outTy l) : ∃ x : OutS, l = x.c ∧ x.Ok ∧ x.By := by
  unfold outTy at h
  cases h with | cons _ a _ u h1 h =>
  cases h with | cons _ b _ u h2 h =>
  cases h with | cons _ c _ u h3 h =>
  cases h with | cons _ d _ u h4 h =>
  cases h with | cons _ e _ u h5 h =>
  cases h with | cons _ f _ u h6 h =>
  cases h with | cons _ g _ u h7 h =>
  cases h with | cons _ i _ u h8 h =>
  cases h; cases h1; cases h2; cases h3; cases h4; cases h5; cases h6; cases h7; cases h8
  rename_i x1 w1 x2 w2 x3 l3 w3 x4 l4 w4 x5 l5 w5 x6 l6 w6 x7 w7 x8 w8
  exact ⟨⟨x1, x2, x3, x4, x5, x6, x7, x8⟩, rfl, ⟨l3, l4, l5, l6⟩, ⟨bytes_of l3 w3, bytes_of l4 w4, bytes_of l5 w5, bytes_of l6 w6⟩⟩
theorem pick {α : Type} [Inhabited α] {n : Nat} {p : Nat → α → Prop} (h : ∀ i, i < n → ∃ a, p i a) : ∃ f : Nat → α, ∀ i, i < n → p i (f i) :=
  ⟨fun i => if hi : i < n then Classical.choose (h i hi) else default, fun i hi => by
    simp only [hi, dite_true]
    exact Classical.choose_spec (h i hi)⟩
instance : Inhabited InS := ⟨inZ⟩
instance : Inhabited OutS := ⟨outZ⟩
theorem fits_tx {a : AV} (h : FitsA true txTy a) : ∃ (l : List AV) (t : TxS), a = .agg l ∧ isTx l t ∧ (t.N < 900000000000 → t.M < 900000000000 → t.Ok) ∧ TxAll t := by
  cases h with | agg _ u h =>
  unfold txTy at h
  cases h with | cons _ a _ u h1 h =>
  cases h with | cons _ b _ u h2 h =>
  cases h with | cons _ c _ u h3 h =>
  cases h; cases h1; cases h2; cases h3
  rename_i x1 w1 n f hn hf m g hm hg
  obtain ⟨ins, hi⟩ := pick fun i hi => fits_in (hf i hi)
  obtain ⟨outs, ho⟩ := pick fun i hi => fits_out (hg i hi)
  exact ⟨_, ⟨x1, n, ins, m, outs⟩, rfl, ⟨rfl, ⟨⟨rfl, rfl⟩, fun i h => (hi i h).1⟩, ⟨⟨rfl, rfl⟩, fun i h => (ho i h).1⟩⟩, fun h1 h2 => ⟨h1, h2, fun i h => (hi i h).2.1, fun i h => (ho i h).2.1⟩, ⟨fun i h => (hi i h).2.2, fun i h => (ho i h).2.2⟩⟩
theorem CallsA.conv {P : Program} {f : FuncId} {us bs : List AV} {h : Heap} {K : KO} (hc : CallsA P f bs h K) (hr : ∀ E rs, LRel E us rs → LRel E bs rs) : CallsA P f us h K :=
  fun E w rs he hl => hc E w rs he (hr E rs hl)
end Go.Tk
end
section
namespace Go.Tk
theorem Emb.more {E : Env} {h h' : Heap} {w : World} (he : Emb E h w) (hn : h.next ≤ h'.next) (hg : ∀ x B, h'.get x = some B → h.get x = some B ∨ (h.next ≤ x ∧ x < h'.next ∧ ∃ sz f, B = .rows sz 0 f)) : Emb E h' w where
  fresh := fun x hx => he.fresh x (by omega)
  lt := fun x B hB => by
    rcases hg x B hB with h1 | ⟨_, h2, _⟩
    · have := he.lt x B h1; omega
    · exact h2
  own := fun x B hB => by
    rcases hg x B hB with h1 | ⟨h1, _, sz, f, rfl⟩
    · exact he.own x B h1
    · exact .rows0 sz 0 f rfl (he.fresh x h1)
  disj := fun x y B B' b N N' hx hy ex ey => by
    rcases hg x B hx with h1 | ⟨h1, _⟩
    · rcases hg y B' hy with h2 | ⟨h2, _⟩
      · exact he.disj x y B B' b N N' h1 h2 ex ey
      · rw [he.fresh y h2] at ey; cases ey
    · rw [he.fresh x h1] at ex; cases ex
  imm := he.imm
  sep := fun a c x B N hi hx ex => by
    rcases hg x B hx with h1 | ⟨h1, _⟩
    · exact he.sep a c x B N hi h1 ex
    · rw [he.fresh x h1] at ex; cases ex
theorem Evo.more {E E' : Env} {h h' h'' : Heap} {w w' : World} (k : Evo E h w E' h' w') (hn : h'.next ≤ h''.next) (hg : ∀ x B, h''.get x = some B → h'.get x = some B ∨ (h'.next ≤ x ∧ x < h''.next ∧ ∃ sz f, B = .rows sz 0 f)) : Evo E h w E' h'' w' where
  le := k.le
  emb := k.emb.more hn hg
  size := k.size
  os := k.os
  tape := k.tape
  output := k.output
  keep := k.keep
  own := fun b ⟨x, B, N, hx, ex⟩ => by
    rcases hg x B hx with h1 | ⟨h1, _⟩
    · exact k.own b ⟨x, B, N, h1, ex⟩
    · rw [k.emb.fresh x h1] at ex; cases ex
  imm := k.imm
theorem get_cons2 {n x : Nat} {B C D : Blk} {bs : List (Nat × Blk)} (h : getB ((n, B) :: (n + 1, C) :: bs) x = some D) : getB bs x = some D ∨ (x = n ∧ D = B) ∨ (x = n + 1 ∧ D = C) := by
  unfold getB at h
  split at h
  · rename_i e; cases h; exact .inr (.inl ⟨(Nat.eq_of_beq_eq_true e).symm, rfl⟩)
  · unfold getB at h
    split at h
    · rename_i e; cases h; exact .inr (.inr ⟨(Nat.eq_of_beq_eq_true e).symm, rfl⟩)
    · exact .inl h
def parTx (R : List Int → Option TxS) (xs : List Int) : TxS := (R xs).getD zTx
def parE (R : List Int → Option TxS) (xs : List Int) : Int := match R xs with | some _ => 0 | none => 170
def uTup (t : TxS) (e : Int) (n : Nat) : AV := .tuple [.agg [.int .i64 t.num, .nslice ⟨n, 0, 130, 0, 0⟩ 130 t.N t.N, .nslice ⟨n + 1, 0, 132, 0, 0⟩ 132 t.M t.M], .int .i64 e]
def uHeap (t : TxS) (h : Heap) : Heap := ⟨h.next + 2, (h.next, .rows 130 t.N (inRows t.ins)) :: (h.next + 1, .rows 132 t.M (outRows t.outs)) :: h.bs⟩
theorem uni {P : Program} {f : FuncId} {args : List AV} {h : Heap} {K : KO} (hc : CallsA P f args h fun o h' => ∃ r : Option TxS, K (.ret (uTup (r.getD zTx) (match r with | some _ => 0 | none => 170) h.next)) (uHeap (r.getD zTx) h) ∧
      match r with | some t => o = .ret (uTup t 0 h.next) ∧ h' = uHeap t h | none => o = .ret zeroTx ∧ h' = ⟨h.next, h.bs⟩) : CallsA P f args h K := by
  intro E w rs he hr
  refine (hc E w rs he hr).mono ?_
  rintro e w' ⟨E', o, h', ⟨r, hK, h1⟩, h2, h3⟩
  cases r with
  | some t => obtain ⟨rfl, rfl⟩ := h1; exact ⟨E', _, _, hK, h2, h3⟩
  | none =>
    obtain ⟨rfl, rfl⟩ := h1
    refine ⟨E', _, _, hK, h2.more (by show h.next ≤ h.next + 2; omega) fun x B hB => ?_, ?_⟩
    · rcases get_cons2 hB with h | ⟨rfl, rfl⟩ | ⟨rfl, rfl⟩
      · exact .inl h
      · exact .inr ⟨Nat.le_refl _, by show h.next < h.next + 2; omega, _, _, rfl⟩
      · exact .inr ⟨Nat.le_succ _, by show h.next + 1 < h.next + 2; omega, _, _, rfl⟩
    · cases h3 with
      | ret v r hv =>
        cases hv with | tuple _ _ hl =>
        cases hl with | cons _ c _ cs q1 hl =>
        cases hl with | cons _ c2 _ cs q2 hl =>
        cases hl
        cases q1 with | agg _ _ hc =>
        obtain ⟨c1, ws, rfl, _, p1, p2, hc⟩ := CRel.cons_cell hc (fun _ _ _ h => by cases h)
        obtain ⟨c3, ws, rfl, _, p3, p4, hc⟩ := CRel.cons_cell hc (fun _ _ _ h => by cases h)
        obtain ⟨c4, ws, rfl, _, p5, p6, hc⟩ := CRel.cons_cell hc (fun _ _ _ h => by cases h)
        cases hc
        cases p4
        cases p6
        exact .ret _ _ (.tuple _ _ (.cons _ _ _ _ (.agg _ _ (.one _ _ _ _ rfl p1 p2 (.one _ _ _ _ rfl p3 (.nslice0 _ _ _ _ _ rfl rfl) (.one _ _ _ _ rfl p5 (.nslice0 _ _ _ _ _ rfl rfl) .nil)))) (.cons _ _ _ _ q2 .nil)))
def parseU (T : List Int → TxS) (F : List Int → Int) : FSumm := fun args h K => viewL none h true 20 args fun a => match a with
  | [.vints .u8 xs n] => need (xs.length = n ∧ n < 90000000000000) (Bytes xs ∧ ((T xs).Ok → K (.ret (uTup (T xs) (F xs) h.next)) (uHeap (T xs) h)))
  | _ => False
theorem parseU_ok (args : List AV) (h : Heap) (K : KO) (hl : parseU (parTx (parseT (firstB numW) addM)) (parE (parseT (firstB numW) addM)) args h K) : CallsA PP 11 args h K := by
  refine uni (parseS_ok args h _ (viewL_weak _ _ _ _ _ hl fun a ha => ?_))
  split at ha
  · obtain ⟨h1, _, hK⟩ := need_ok ha
    refine need_mk h1 ⟨fun t e ht => ⟨some t, ?_, rfl, rfl⟩, fun e => ⟨none, ?_, rfl, rfl⟩⟩
    · unfold parTx parE at hK; rw [e] at hK; exact hK ht
    · unfold parTx parE at hK; rw [e] at hK; exact hK zTx_ok
  · exact ha.elim
theorem parserU_ok (args : List AV) (h : Heap) (K : KO) (hl : parseU (parTx (parseT (firstB numW) addM)) (parE (parseT (firstB numW) addM)) args h K) : CallsA PP 12 args h K := by
  refine uni (parserT_ok args h _ (viewL_weak _ _ _ _ _ hl fun a ha => ?_))
  split at ha
  · obtain ⟨h1, hb, hK⟩ := need_ok ha
    refine ⟨⟨h1.1, hb⟩, fun t e ht _ => ⟨some t, ?_, rfl, rfl⟩, fun e => ⟨none, ?_, rfl, rfl⟩⟩
    · unfold parTx parE at hK; rw [e] at hK; exact hK ht
    · unfold parTx parE at hK; rw [e] at hK; exact hK zTx_ok
  · exact ha.elim
noncomputable def E46 (T : List Int → TxS) (F : List Int → Int) (S : TxS → TxS → Bool) (R : TxS → Bool → List Int) (A : List Int → Int × Int) : Env2 := (((((G0.withP 10 worksS).withP 13 (sametS S)).withF 11 (parseU T F)).withF 12 (parseU T F)).withP 16 (rightS A)).withF 48 (rawF R)
theorem E46_ok : (E46 (parTx (parseT (firstB numW) addM)) (parE (parseT (firstB numW) addM)) sameT (rawT numW) addM).Ok :=
  Env2.withF_ok (Env2.withP_ok (Env2.withF_ok (Env2.withF_ok (Env2.withP_ok (Env2.withP_ok G0_ok worksS_ok) samer_ok) parseU_ok) parserU_ok) rightS_ok) bytesrF_ok
end Go.Tk
end
section
namespace Go.Tk
theorem subO_none (a : Nat) : subO a none = a := rfl
theorem Bytes.set {xs : List Int} (h : Bytes xs) (n : Nat) {x : Int} (hx : 0 ≤ x ∧ x ≤ 255) : Bytes (xs.set n x) := ⟨fun i => by
  rw [List.getD_eq_getElem?_getD, List.getElem?_set]
  have := h.h i; rw [List.getD_eq_getElem?_getD] at this
  split
  · split
    · exact hx
    · simp
  · exact this⟩
theorem Bytes.zeros {xs : List Int} (h : Bytes xs) (n : Nat) : Bytes (xs ++ List.replicate n 0) := ⟨fun i => by
  rw [List.getD_eq_getElem?_getD, List.getElem?_append]
  have := h.h i; rw [List.getD_eq_getElem?_getD] at this
  split
  · exact this
  · rw [List.getElem?_replicate]; split <;> simp⟩
set_option maxRecDepth 100000 in
set_option maxHeartbeats 0 in
theorem txbent_1 (T : List Int → TxS) (F : List Int → Int) (S : TxS → TxS → Bool) (R : TxS → Bool → List Int) (A : List Int → Int × Int) (t : TxS) (at0 to0 more : Int) (hok : t.N < 900000000000 → t.M < 900000000000 → t.Ok) (hb : TxB t) (hS : ∀ t : TxS, S t t = true) (hA : t.Ok → ckTx A t = true → t.Fine) (hR : t.Fine → Bytes (R t false) ∧ (R t false).length ≤ 30000) (ha : -9223372036854775808 ≤ at0 ∧ at0 ≤ 9223372036854775807) (ht0 : 0 ≤ to0 ∧ to0 ≤ 255) (hm : -9223372036854775808 ≤ more ∧ more ≤ 9223372036854775807) :
    evF (E46 T F S R A) 20 4 [.agg t.c, .int .i64 at0, .int .u8 to0, .int .i64 more] ⟨0, []⟩ (outV (fun v => v = .bool true)) := by
  refine @Eq.mpr _ (let q1 := t.N;
 let q2 := t.M;
 let q3 := AV.bool true;
 let q4 := q3 = q3;
 let q5 := 0 + Int.toNat at0;
 let q6 := decide (more > 0);
 let q7 := decide (more < 0);
 let q8 := List.replicate (Int.toNat more) 0;
 let q9 := AV.bool false = q3;
 iteB (decide ((↑q1 : Int) ≤ 30))
 (iteB (!decide ((↑q2 : Int) ≤ 30)) q4
 (∃ (t_1 : TxS),
 (t_1.num = t.num ∧ ((q1 = q1 ∧ t_1.N = q1) ∧ ∀ (i : Nat), i < q1 → inRows t.ins i = InS.c (t_1.ins i)) ∧ (q2 = q2 ∧ t_1.M = q2) ∧ ∀ (i : Nat), i < q2 → outRows t.outs i = OutS.c (t_1.outs i)) ∧
 TxS.Ok t_1 ∧
 TxB t_1 ∧
 iteB (!ckTx A t_1) q4
 (iteB (decide (more > 20)) q4
 (∃ (t_2 : TxS),
 let q19 := List.length (R t_2 false);
 let q20 := (↑q19 : Int);
 let q21 := 0 + q19;
 let q22 := List.set (R t_2 false) q5 to0;
 let q23 := List.length q22;
 let q24 := dropZ 0 q22;
 let q25 := List.take q19 q24;
 let q26 := [] ++ q25;
 let q27 := List.length q26;
 let q28 := q26 ++ q8;
 let q29 := List.length q28;
 let q30 := (↑q29 : Int);
 let q31 := IntKind.wrap IntKind.i64 (q30 + more);
 let q32 := subO (Int.toNat q31) none;
 let q33 := decide (0 + q32 ≤ q29);
 let q34 := dropZ 0 q28;
 let q35 := List.take q32 q34;
 let q36 := decide (List.length q35 = q32 ∧ q32 < 90000000000000);
 let q37 := Bytes q35;
 let q38 := T q35;
 let q39 := TxS.Ok q38;
 let q40 := q38.N;
 let q41 := q38.M;
 let q42 := q38.num;
 let q43 := q40 = q40;
 let q44 := q41 = q41;
 let q45 := F q35;
 let q46 := decide (0 + q29 ≤ q29);
 let q47 := List.take q29 q34;
 let q48 := decide (List.length q47 = q29 ∧ q29 < 90000000000000);
 let q49 := Bytes q47;
 let q50 := T q47;
 let q51 := TxS.Ok q50;
 let q52 := q50.N;
 let q53 := q50.M;
 let q54 := q50.num;
 let q55 := q52 = q52;
 let q56 := q53 = q53;
 let q57 := F q47;
 let q58 :=
 (∀ (i : Nat), i < q53 → true = true) ∧
 ∃ (a : TxS),
 ∃ (b : TxS),
 (a.num = q54 ∧ ((q55 ∧ a.N = q52) ∧ ∀ (i : Nat), i < q52 → [AV.arr IntKind.u8 32 (q50.ins i).name, AV.int IntKind.i64 (q50.ins i).index, AV.int IntKind.i64 (q50.ins i).way, AV.arr IntKind.u8 32 (q50.ins i).tag, AV.arr IntKind.u8 32 (q50.ins i).also, AV.arr IntKind.u8 32 (q50.ins i).secret] = InS.c (a.ins i)) ∧ (q56 ∧ a.M = q53) ∧ ∀ (i : Nat), i < q53 → [AV.int IntKind.i64 (q50.outs i).kind, AV.int IntKind.i64 (q50.outs i).amount, AV.arr IntKind.u8 32 (q50.outs i).owner, AV.arr IntKind.u8 32 (q50.outs i).other, AV.arr IntKind.u8 32 (q50.outs i).point, AV.arr IntKind.u8 32 (q50.outs i).hash, AV.int IntKind.i64 (q50.outs i).delay, AV.int IntKind.i64 (q50.outs i).expiry] = OutS.c (a.outs i)) ∧
 (b.num = q54 ∧ ((q55 ∧ b.N = q52) ∧ ∀ (i : Nat), i < q52 → [AV.arr IntKind.u8 32 (q50.ins i).name, AV.int IntKind.i64 (q50.ins i).index, AV.int IntKind.i64 (q50.ins i).way, AV.arr IntKind.u8 32 (q50.ins i).tag, AV.arr IntKind.u8 32 (q50.ins i).also, AV.arr IntKind.u8 32 (q50.ins i).secret] = InS.c (b.ins i)) ∧ (q56 ∧ b.M = q53) ∧ ∀ (i : Nat), i < q53 → [AV.int IntKind.i64 (q50.outs i).kind, AV.int IntKind.i64 (q50.outs i).amount, AV.arr IntKind.u8 32 (q50.outs i).owner, AV.arr IntKind.u8 32 (q50.outs i).other, AV.arr IntKind.u8 32 (q50.outs i).point, AV.arr IntKind.u8 32 (q50.outs i).hash, AV.int IntKind.i64 (q50.outs i).delay, AV.int IntKind.i64 (q50.outs i).expiry] = OutS.c (b.outs i)) ∧ (TxS.Ok a ∧ TxS.Ok b) ∧ iteB (S a b) (iteB (q57 == q57) q4 q9) q9;
 let q59 := decide (more ≥ IntKind.wrap IntKind.i64 (0 - q20));
 let q60 := decide (q19 ≤ q19);
 let q61 := IntKind.wrap IntKind.i64 (q20 + more);
 let q62 := decide (0 ≤ q61 ∧ q61 ≤ q20);
 let q63 := subO (Int.toNat q61) none;
 let q64 := 0 + q63;
 let q65 := decide (q64 ≤ q23);
 let q66 := List.take q63 q24;
 let q67 := decide (List.length q66 = q63 ∧ q63 < 90000000000000);
 let q68 := Bytes q66;
 let q69 := T q66;
 let q70 := TxS.Ok q69;
 let q71 := q69.N;
 let q72 := q69.M;
 let q73 := q69.num;
 let q74 := q71 = q71;
 let q75 := q72 = q72;
 let q76 := F q66;
 let q77 := decide (q21 ≤ q23);
 let q78 := decide (List.length q25 = q19 ∧ q19 < 90000000000000);
 let q79 := Bytes q25;
 let q80 := T q25;
 let q81 := TxS.Ok q80;
 let q82 := q80.N;
 let q83 := q80.M;
 let q84 := q80.num;
 let q85 := q82 = q82;
 let q86 := q83 = q83;
 let q87 := F q25;
 let q88 :=
 (∀ (i : Nat), i < q83 → true = true) ∧
 ∃ (a : TxS),
 ∃ (b : TxS),
 (a.num = q84 ∧ ((q85 ∧ a.N = q82) ∧ ∀ (i : Nat), i < q82 → [AV.arr IntKind.u8 32 (q80.ins i).name, AV.int IntKind.i64 (q80.ins i).index, AV.int IntKind.i64 (q80.ins i).way, AV.arr IntKind.u8 32 (q80.ins i).tag, AV.arr IntKind.u8 32 (q80.ins i).also, AV.arr IntKind.u8 32 (q80.ins i).secret] = InS.c (a.ins i)) ∧ (q86 ∧ a.M = q83) ∧ ∀ (i : Nat), i < q83 → [AV.int IntKind.i64 (q80.outs i).kind, AV.int IntKind.i64 (q80.outs i).amount, AV.arr IntKind.u8 32 (q80.outs i).owner, AV.arr IntKind.u8 32 (q80.outs i).other, AV.arr IntKind.u8 32 (q80.outs i).point, AV.arr IntKind.u8 32 (q80.outs i).hash, AV.int IntKind.i64 (q80.outs i).delay, AV.int IntKind.i64 (q80.outs i).expiry] = OutS.c (a.outs i)) ∧
 (b.num = q84 ∧ ((q85 ∧ b.N = q82) ∧ ∀ (i : Nat), i < q82 → [AV.arr IntKind.u8 32 (q80.ins i).name, AV.int IntKind.i64 (q80.ins i).index, AV.int IntKind.i64 (q80.ins i).way, AV.arr IntKind.u8 32 (q80.ins i).tag, AV.arr IntKind.u8 32 (q80.ins i).also, AV.arr IntKind.u8 32 (q80.ins i).secret] = InS.c (b.ins i)) ∧ (q86 ∧ b.M = q83) ∧ ∀ (i : Nat), i < q83 → [AV.int IntKind.i64 (q80.outs i).kind, AV.int IntKind.i64 (q80.outs i).amount, AV.arr IntKind.u8 32 (q80.outs i).owner, AV.arr IntKind.u8 32 (q80.outs i).other, AV.arr IntKind.u8 32 (q80.outs i).point, AV.arr IntKind.u8 32 (q80.outs i).hash, AV.int IntKind.i64 (q80.outs i).delay, AV.int IntKind.i64 (q80.outs i).expiry] = OutS.c (b.outs i)) ∧ (TxS.Ok a ∧ TxS.Ok b) ∧ iteB (S a b) (iteB (q87 == q87) q4 q9) q9;
 let q89 := decide (IntKind.u8 = IntKind.u8 ∧ q21 ≤ q19);
 let q90 := dropZ 0 (R t_2 false);
 let q91 := List.take q19 q90;
 let q92 := [] ++ q91;
 let q93 := List.length q92;
 let q94 := decide (q93 * 1 ≤ 140737488355328);
 let q95 := decide (IntKind.u8 = IntKind.u8 ∧ q93 = q93);
 let q96 := decide ((0 : Int) = 0 ∧ 0 ≤ more ∧ (q93 + Int.toNat more) * 1 ≤ 140737488355328);
 let q97 := q92 ++ q8;
 let q98 := List.length q97;
 let q99 := (↑q98 : Int);
 let q100 := decide (more ≥ IntKind.wrap IntKind.i64 (0 - q99));
 let q101 := decide (q98 ≤ q98);
 let q102 := IntKind.wrap IntKind.i64 (q99 + more);
 let q103 := decide (0 ≤ q102 ∧ q102 ≤ q99);
 let q104 := subO (Int.toNat q102) none;
 let q105 := decide (0 + q104 ≤ q98);
 let q106 := dropZ 0 q97;
 let q107 := List.take q104 q106;
 let q108 := decide (List.length q107 = q104 ∧ q104 < 90000000000000);
 let q109 := Bytes q107;
 let q110 := T q107;
 let q111 := TxS.Ok q110;
 let q112 := q110.N;
 let q113 := q110.M;
 let q114 := q110.num;
 let q115 := q112 = q112;
 let q116 := q113 = q113;
 let q117 := F q107;
 let q118 :=
 (∀ (i : Nat), i < q113 → true = true) ∧
 ∃ (a : TxS),
 ∃ (b : TxS),
 (a.num = q114 ∧ ((q115 ∧ a.N = q112) ∧ ∀ (i : Nat), i < q112 → [AV.arr IntKind.u8 32 (q110.ins i).name, AV.int IntKind.i64 (q110.ins i).index, AV.int IntKind.i64 (q110.ins i).way, AV.arr IntKind.u8 32 (q110.ins i).tag, AV.arr IntKind.u8 32 (q110.ins i).also, AV.arr IntKind.u8 32 (q110.ins i).secret] = InS.c (a.ins i)) ∧ (q116 ∧ a.M = q113) ∧ ∀ (i : Nat), i < q113 → [AV.int IntKind.i64 (q110.outs i).kind, AV.int IntKind.i64 (q110.outs i).amount, AV.arr IntKind.u8 32 (q110.outs i).owner, AV.arr IntKind.u8 32 (q110.outs i).other, AV.arr IntKind.u8 32 (q110.outs i).point, AV.arr IntKind.u8 32 (q110.outs i).hash, AV.int IntKind.i64 (q110.outs i).delay, AV.int IntKind.i64 (q110.outs i).expiry] = OutS.c (a.outs i)) ∧
 (b.num = q114 ∧ ((q115 ∧ b.N = q112) ∧ ∀ (i : Nat), i < q112 → [AV.arr IntKind.u8 32 (q110.ins i).name, AV.int IntKind.i64 (q110.ins i).index, AV.int IntKind.i64 (q110.ins i).way, AV.arr IntKind.u8 32 (q110.ins i).tag, AV.arr IntKind.u8 32 (q110.ins i).also, AV.arr IntKind.u8 32 (q110.ins i).secret] = InS.c (b.ins i)) ∧ (q116 ∧ b.M = q113) ∧ ∀ (i : Nat), i < q113 → [AV.int IntKind.i64 (q110.outs i).kind, AV.int IntKind.i64 (q110.outs i).amount, AV.arr IntKind.u8 32 (q110.outs i).owner, AV.arr IntKind.u8 32 (q110.outs i).other, AV.arr IntKind.u8 32 (q110.outs i).point, AV.arr IntKind.u8 32 (q110.outs i).hash, AV.int IntKind.i64 (q110.outs i).delay, AV.int IntKind.i64 (q110.outs i).expiry] = OutS.c (b.outs i)) ∧ (TxS.Ok a ∧ TxS.Ok b) ∧ iteB (S a b) (iteB (q117 == q117) q4 q9) q9;
 let q119 := decide (0 + q98 ≤ q98);
 let q120 := List.take q98 q106;
 let q121 := decide (List.length q120 = q98 ∧ q98 < 90000000000000);
 let q122 := Bytes q120;
 let q123 := T q120;
 let q124 := TxS.Ok q123;
 let q125 := q123.N;
 let q126 := q123.M;
 let q127 := q123.num;
 let q128 := q125 = q125;
 let q129 := q126 = q126;
 let q130 := F q120;
 let q131 :=
 (∀ (i : Nat), i < q126 → true = true) ∧
 ∃ (a : TxS),
 ∃ (b : TxS),
 (a.num = q127 ∧ ((q128 ∧ a.N = q125) ∧ ∀ (i : Nat), i < q125 → [AV.arr IntKind.u8 32 (q123.ins i).name, AV.int IntKind.i64 (q123.ins i).index, AV.int IntKind.i64 (q123.ins i).way, AV.arr IntKind.u8 32 (q123.ins i).tag, AV.arr IntKind.u8 32 (q123.ins i).also, AV.arr IntKind.u8 32 (q123.ins i).secret] = InS.c (a.ins i)) ∧ (q129 ∧ a.M = q126) ∧ ∀ (i : Nat), i < q126 → [AV.int IntKind.i64 (q123.outs i).kind, AV.int IntKind.i64 (q123.outs i).amount, AV.arr IntKind.u8 32 (q123.outs i).owner, AV.arr IntKind.u8 32 (q123.outs i).other, AV.arr IntKind.u8 32 (q123.outs i).point, AV.arr IntKind.u8 32 (q123.outs i).hash, AV.int IntKind.i64 (q123.outs i).delay, AV.int IntKind.i64 (q123.outs i).expiry] = OutS.c (a.outs i)) ∧
 (b.num = q127 ∧ ((q128 ∧ b.N = q125) ∧ ∀ (i : Nat), i < q125 → [AV.arr IntKind.u8 32 (q123.ins i).name, AV.int IntKind.i64 (q123.ins i).index, AV.int IntKind.i64 (q123.ins i).way, AV.arr IntKind.u8 32 (q123.ins i).tag, AV.arr IntKind.u8 32 (q123.ins i).also, AV.arr IntKind.u8 32 (q123.ins i).secret] = InS.c (b.ins i)) ∧ (q129 ∧ b.M = q126) ∧ ∀ (i : Nat), i < q126 → [AV.int IntKind.i64 (q123.outs i).kind, AV.int IntKind.i64 (q123.outs i).amount, AV.arr IntKind.u8 32 (q123.outs i).owner, AV.arr IntKind.u8 32 (q123.outs i).other, AV.arr IntKind.u8 32 (q123.outs i).point, AV.arr IntKind.u8 32 (q123.outs i).hash, AV.int IntKind.i64 (q123.outs i).delay, AV.int IntKind.i64 (q123.outs i).expiry] = OutS.c (b.outs i)) ∧ (TxS.Ok a ∧ TxS.Ok b) ∧ iteB (S a b) (iteB (q130 == q130) q4 q9) q9;
 let q132 := decide (q64 ≤ q19);
 let q133 := List.take q63 q90;
 let q134 := decide (List.length q133 = q63 ∧ q63 < 90000000000000);
 let q135 := Bytes q133;
 let q136 := T q133;
 let q137 := TxS.Ok q136;
 let q138 := q136.N;
 let q139 := q136.M;
 let q140 := q136.num;
 let q141 := q138 = q138;
 let q142 := q139 = q139;
 let q143 := F q133;
 let q144 :=
 (∀ (i : Nat), i < q139 → true = true) ∧
 ∃ (a : TxS),
 ∃ (b : TxS),
 (a.num = q140 ∧ ((q141 ∧ a.N = q138) ∧ ∀ (i : Nat), i < q138 → [AV.arr IntKind.u8 32 (q136.ins i).name, AV.int IntKind.i64 (q136.ins i).index, AV.int IntKind.i64 (q136.ins i).way, AV.arr IntKind.u8 32 (q136.ins i).tag, AV.arr IntKind.u8 32 (q136.ins i).also, AV.arr IntKind.u8 32 (q136.ins i).secret] = InS.c (a.ins i)) ∧ (q142 ∧ a.M = q139) ∧ ∀ (i : Nat), i < q139 → [AV.int IntKind.i64 (q136.outs i).kind, AV.int IntKind.i64 (q136.outs i).amount, AV.arr IntKind.u8 32 (q136.outs i).owner, AV.arr IntKind.u8 32 (q136.outs i).other, AV.arr IntKind.u8 32 (q136.outs i).point, AV.arr IntKind.u8 32 (q136.outs i).hash, AV.int IntKind.i64 (q136.outs i).delay, AV.int IntKind.i64 (q136.outs i).expiry] = OutS.c (a.outs i)) ∧
 (b.num = q140 ∧ ((q141 ∧ b.N = q138) ∧ ∀ (i : Nat), i < q138 → [AV.arr IntKind.u8 32 (q136.ins i).name, AV.int IntKind.i64 (q136.ins i).index, AV.int IntKind.i64 (q136.ins i).way, AV.arr IntKind.u8 32 (q136.ins i).tag, AV.arr IntKind.u8 32 (q136.ins i).also, AV.arr IntKind.u8 32 (q136.ins i).secret] = InS.c (b.ins i)) ∧ (q142 ∧ b.M = q139) ∧ ∀ (i : Nat), i < q139 → [AV.int IntKind.i64 (q136.outs i).kind, AV.int IntKind.i64 (q136.outs i).amount, AV.arr IntKind.u8 32 (q136.outs i).owner, AV.arr IntKind.u8 32 (q136.outs i).other, AV.arr IntKind.u8 32 (q136.outs i).point, AV.arr IntKind.u8 32 (q136.outs i).hash, AV.int IntKind.i64 (q136.outs i).delay, AV.int IntKind.i64 (q136.outs i).expiry] = OutS.c (b.outs i)) ∧ (TxS.Ok a ∧ TxS.Ok b) ∧ iteB (S a b) (iteB (q143 == q143) q4 q9) q9;
 let q145 := decide (q21 ≤ q19);
 let q146 := decide (List.length q91 = q19 ∧ q19 < 90000000000000);
 let q147 := Bytes q91;
 let q148 := T q91;
 let q149 := TxS.Ok q148;
 let q150 := q148.N;
 let q151 := q148.M;
 let q152 := q148.num;
 let q153 := q150 = q150;
 let q154 := q151 = q151;
 let q155 := F q91;
 let q156 :=
 (∀ (i : Nat), i < q151 → true = true) ∧
 ∃ (a : TxS),
 ∃ (b : TxS),
 (a.num = q152 ∧ ((q153 ∧ a.N = q150) ∧ ∀ (i : Nat), i < q150 → [AV.arr IntKind.u8 32 (q148.ins i).name, AV.int IntKind.i64 (q148.ins i).index, AV.int IntKind.i64 (q148.ins i).way, AV.arr IntKind.u8 32 (q148.ins i).tag, AV.arr IntKind.u8 32 (q148.ins i).also, AV.arr IntKind.u8 32 (q148.ins i).secret] = InS.c (a.ins i)) ∧ (q154 ∧ a.M = q151) ∧ ∀ (i : Nat), i < q151 → [AV.int IntKind.i64 (q148.outs i).kind, AV.int IntKind.i64 (q148.outs i).amount, AV.arr IntKind.u8 32 (q148.outs i).owner, AV.arr IntKind.u8 32 (q148.outs i).other, AV.arr IntKind.u8 32 (q148.outs i).point, AV.arr IntKind.u8 32 (q148.outs i).hash, AV.int IntKind.i64 (q148.outs i).delay, AV.int IntKind.i64 (q148.outs i).expiry] = OutS.c (a.outs i)) ∧
 (b.num = q152 ∧ ((q153 ∧ b.N = q150) ∧ ∀ (i : Nat), i < q150 → [AV.arr IntKind.u8 32 (q148.ins i).name, AV.int IntKind.i64 (q148.ins i).index, AV.int IntKind.i64 (q148.ins i).way, AV.arr IntKind.u8 32 (q148.ins i).tag, AV.arr IntKind.u8 32 (q148.ins i).also, AV.arr IntKind.u8 32 (q148.ins i).secret] = InS.c (b.ins i)) ∧ (q154 ∧ b.M = q151) ∧ ∀ (i : Nat), i < q151 → [AV.int IntKind.i64 (q148.outs i).kind, AV.int IntKind.i64 (q148.outs i).amount, AV.arr IntKind.u8 32 (q148.outs i).owner, AV.arr IntKind.u8 32 (q148.outs i).other, AV.arr IntKind.u8 32 (q148.outs i).point, AV.arr IntKind.u8 32 (q148.outs i).hash, AV.int IntKind.i64 (q148.outs i).delay, AV.int IntKind.i64 (q148.outs i).expiry] = OutS.c (b.outs i)) ∧ (TxS.Ok a ∧ TxS.Ok b) ∧ iteB (S a b) (iteB (q155 == q155) q4 q9) q9;
 let q157 := decide (0 + q104 ≤ q98);
 let q158 := decide (List.length q107 = q104 ∧ q104 < 90000000000000);
 let q159 := decide (0 + q98 ≤ q98);
 let q160 := decide (List.length q120 = q98 ∧ q98 < 90000000000000);
 let q161 := decide (q64 ≤ q19);
 let q162 := decide (List.length q133 = q63 ∧ q63 < 90000000000000);
 (t_2.num = t.num ∧ ((q1 = q1 ∧ t_2.N = q1) ∧ ∀ (i : Nat), i < q1 → inRows t.ins i = InS.c (t_2.ins i)) ∧ (q2 = q2 ∧ t_2.M = q2) ∧ ∀ (i : Nat), i < q2 → outRows t.outs i = OutS.c (t_2.outs i)) ∧
 TxS.Fine t_2 ∧
 iteB (decide (at0 ≥ 0))
 (iteB (decide (at0 < q20))
 (iteB (decide (0 ≤ at0 ∧ at0 < q20))
 (iteB (decide (IntKind.u8 = IntKind.u8 ∧ q5 < q19))
 (iteB q6
 (iteB (decide (IntKind.u8 = IntKind.u8 ∧ q21 ≤ q23))
 (iteB (decide (q27 * 1 ≤ 140737488355328))
 (iteB (decide (IntKind.u8 = IntKind.u8 ∧ q27 = q27))
 (iteB (decide ((0 : Int) = 0 ∧ 0 ≤ more ∧ (q27 + Int.toNat more) * 1 ≤ 140737488355328))
 (iteB q7
 (iteB (decide (more ≥ IntKind.wrap IntKind.i64 (0 - q30)))
 (iteB (decide (q29 ≤ q29))
 (iteB (decide (0 ≤ q31 ∧ q31 ≤ q30))
 (iteB q33
 (iteB q36
 (q37 ∧
 (q39 →
 iteB q33
 (iteB q36
 (q37 ∧
 (q39 →
 iteB (decide (0 + q40 ≤ q40))
 ((∀ (i : Nat), i < q40 → true = true) ∧
 iteB (decide (0 + q41 ≤ q41))
 ((∀ (i : Nat), i < q41 → true = true) ∧
 iteB (decide (0 + q40 ≤ q40))
 ((∀ (i : Nat), i < q40 → true = true) ∧
 iteB (decide (0 + q41 ≤ q41))
 ((∀ (i : Nat), i < q41 → true = true) ∧
 ∃ (a : TxS),
 ∃ (b : TxS),
 (a.num = q42 ∧
 ((q43 ∧ a.N = q40) ∧
 ∀ (i : Nat),
 let q307 := q38.ins i;
 i < q40 → [AV.arr IntKind.u8 32 q307.name, AV.int IntKind.i64 q307.index, AV.int IntKind.i64 q307.way, AV.arr IntKind.u8 32 q307.tag, AV.arr IntKind.u8 32 q307.also, AV.arr IntKind.u8 32 q307.secret] = InS.c (a.ins i)) ∧
 (q44 ∧ a.M = q41) ∧
 ∀ (i : Nat),
 let q307 := q38.outs i;
 i < q41 → [AV.int IntKind.i64 q307.kind, AV.int IntKind.i64 q307.amount, AV.arr IntKind.u8 32 q307.owner, AV.arr IntKind.u8 32 q307.other, AV.arr IntKind.u8 32 q307.point, AV.arr IntKind.u8 32 q307.hash, AV.int IntKind.i64 q307.delay, AV.int IntKind.i64 q307.expiry] = OutS.c (a.outs i)) ∧
 (b.num = q42 ∧
 ((q43 ∧ b.N = q40) ∧
 ∀ (i : Nat),
 let q307 := q38.ins i;
 i < q40 → [AV.arr IntKind.u8 32 q307.name, AV.int IntKind.i64 q307.index, AV.int IntKind.i64 q307.way, AV.arr IntKind.u8 32 q307.tag, AV.arr IntKind.u8 32 q307.also, AV.arr IntKind.u8 32 q307.secret] = InS.c (b.ins i)) ∧
 (q44 ∧ b.M = q41) ∧
 ∀ (i : Nat),
 let q307 := q38.outs i;
 i < q41 → [AV.int IntKind.i64 q307.kind, AV.int IntKind.i64 q307.amount, AV.arr IntKind.u8 32 q307.owner, AV.arr IntKind.u8 32 q307.other, AV.arr IntKind.u8 32 q307.point, AV.arr IntKind.u8 32 q307.hash, AV.int IntKind.i64 q307.delay, AV.int IntKind.i64 q307.expiry] = OutS.c (b.outs i)) ∧
 (TxS.Ok a ∧ TxS.Ok b) ∧ iteB (S a b) (iteB (q45 == q45) q4 q9) q9)
 False)
 False)
 False)
 False))
 False)
 False))
 False)
 False)
 False)
 False)
 (iteB q46 (iteB q48 (q49 ∧ (q51 → iteB q46 (iteB q48 (q49 ∧ (q51 → iteB (decide (0 + q52 ≤ q52)) ((∀ (i : Nat), i < q52 → true = true) ∧ iteB (decide (0 + q53 ≤ q53)) ((∀ (i : Nat), i < q53 → true = true) ∧ iteB (decide (0 + q52 ≤ q52)) ((∀ (i : Nat), i < q52 → true = true) ∧ iteB (decide (0 + q53 ≤ q53)) q58 False) False) False) False)) False) False)) False) False))
 (iteB q46 (iteB q48 (q49 ∧ (q51 → iteB q46 (iteB q48 (q49 ∧ (q51 → iteB (decide (0 + q52 ≤ q52)) ((∀ (i : Nat), i < q52 → true = true) ∧ iteB (decide (0 + q53 ≤ q53)) ((∀ (i : Nat), i < q53 → true = true) ∧ iteB (decide (0 + q52 ≤ q52)) ((∀ (i : Nat), i < q52 → true = true) ∧ iteB (decide (0 + q53 ≤ q53)) q58 False) False) False) False)) False) False)) False) False))
 False)
 False)
 False)
 False)
 (iteB q7
 (iteB q59
 (iteB q60
 (iteB q62
 (iteB q65
 (iteB q67
 (q68 ∧
 (q70 →
 iteB q65
 (iteB q67
 (q68 ∧
 (q70 →
 iteB (decide (0 + q71 ≤ q71))
 ((∀ (i : Nat), i < q71 → true = true) ∧
 iteB (decide (0 + q72 ≤ q72))
 ((∀ (i : Nat), i < q72 → true = true) ∧
 iteB (decide (0 + q71 ≤ q71))
 ((∀ (i : Nat), i < q71 → true = true) ∧
 iteB (decide (0 + q72 ≤ q72))
 ((∀ (i : Nat), i < q72 → true = true) ∧
 ∃ (a : TxS),
 ∃ (b : TxS),
 (a.num = q73 ∧
 ((q74 ∧ a.N = q71) ∧
 ∀ (i : Nat),
 let q307 := q69.ins i;
 i < q71 → [AV.arr IntKind.u8 32 q307.name, AV.int IntKind.i64 q307.index, AV.int IntKind.i64 q307.way, AV.arr IntKind.u8 32 q307.tag, AV.arr IntKind.u8 32 q307.also, AV.arr IntKind.u8 32 q307.secret] = InS.c (a.ins i)) ∧
 (q75 ∧ a.M = q72) ∧
 ∀ (i : Nat),
 let q307 := q69.outs i;
 i < q72 → [AV.int IntKind.i64 q307.kind, AV.int IntKind.i64 q307.amount, AV.arr IntKind.u8 32 q307.owner, AV.arr IntKind.u8 32 q307.other, AV.arr IntKind.u8 32 q307.point, AV.arr IntKind.u8 32 q307.hash, AV.int IntKind.i64 q307.delay, AV.int IntKind.i64 q307.expiry] = OutS.c (a.outs i)) ∧
 (b.num = q73 ∧
 ((q74 ∧ b.N = q71) ∧
 ∀ (i : Nat),
 let q307 := q69.ins i;
 i < q71 → [AV.arr IntKind.u8 32 q307.name, AV.int IntKind.i64 q307.index, AV.int IntKind.i64 q307.way, AV.arr IntKind.u8 32 q307.tag, AV.arr IntKind.u8 32 q307.also, AV.arr IntKind.u8 32 q307.secret] = InS.c (b.ins i)) ∧
 (q75 ∧ b.M = q72) ∧
 ∀ (i : Nat),
 let q307 := q69.outs i;
 i < q72 → [AV.int IntKind.i64 q307.kind, AV.int IntKind.i64 q307.amount, AV.arr IntKind.u8 32 q307.owner, AV.arr IntKind.u8 32 q307.other, AV.arr IntKind.u8 32 q307.point, AV.arr IntKind.u8 32 q307.hash, AV.int IntKind.i64 q307.delay, AV.int IntKind.i64 q307.expiry] = OutS.c (b.outs i)) ∧
 (TxS.Ok a ∧ TxS.Ok b) ∧ iteB (S a b) (iteB (q76 == q76) q4 q9) q9)
 False)
 False)
 False)
 False))
 False)
 False))
 False)
 False)
 False)
 False)
 (iteB q77 (iteB q78 (q79 ∧ (q81 → iteB q77 (iteB q78 (q79 ∧ (q81 → iteB (decide (0 + q82 ≤ q82)) ((∀ (i : Nat), i < q82 → true = true) ∧ iteB (decide (0 + q83 ≤ q83)) ((∀ (i : Nat), i < q83 → true = true) ∧ iteB (decide (0 + q82 ≤ q82)) ((∀ (i : Nat), i < q82 → true = true) ∧ iteB (decide (0 + q83 ≤ q83)) q88 False) False) False) False)) False) False)) False) False))
 (iteB q77 (iteB q78 (q79 ∧ (q81 → iteB q77 (iteB q78 (q79 ∧ (q81 → iteB (decide (0 + q82 ≤ q82)) ((∀ (i : Nat), i < q82 → true = true) ∧ iteB (decide (0 + q83 ≤ q83)) ((∀ (i : Nat), i < q83 → true = true) ∧ iteB (decide (0 + q82 ≤ q82)) ((∀ (i : Nat), i < q82 → true = true) ∧ iteB (decide (0 + q83 ≤ q83)) q88 False) False) False) False)) False) False)) False) False)))
 False)
 False)
 (iteB q6
 (iteB q89
 (iteB q94
 (iteB q95
 (iteB q96
 (iteB q7 (iteB q100 (iteB q101 (iteB q103 (iteB q105 (iteB q108 (q109 ∧ (q111 → iteB q105 (iteB q108 (q109 ∧ (q111 → iteB (decide (0 + q112 ≤ q112)) ((∀ (i : Nat), i < q112 → true = true) ∧ iteB (decide (0 + q113 ≤ q113)) ((∀ (i : Nat), i < q113 → true = true) ∧ iteB (decide (0 + q112 ≤ q112)) ((∀ (i : Nat), i < q112 → true = true) ∧ iteB (decide (0 + q113 ≤ q113)) q118 False) False) False) False)) False) False)) False) False) False) False) (iteB q119 (iteB q121 (q122 ∧ (q124 → iteB q119 (iteB q121 (q122 ∧ (q124 → iteB (decide (0 + q125 ≤ q125)) ((∀ (i : Nat), i < q125 → true = true) ∧ iteB (decide (0 + q126 ≤ q126)) ((∀ (i : Nat), i < q126 → true = true) ∧ iteB (decide (0 + q125 ≤ q125)) ((∀ (i : Nat), i < q125 → true = true) ∧ iteB (decide (0 + q126 ≤ q126)) q131 False) False) False) False)) False) False)) False) False))
 (iteB q119 (iteB q121 (q122 ∧ (q124 → iteB q119 (iteB q121 (q122 ∧ (q124 → iteB (decide (0 + q125 ≤ q125)) ((∀ (i : Nat), i < q125 → true = true) ∧ iteB (decide (0 + q126 ≤ q126)) ((∀ (i : Nat), i < q126 → true = true) ∧ iteB (decide (0 + q125 ≤ q125)) ((∀ (i : Nat), i < q125 → true = true) ∧ iteB (decide (0 + q126 ≤ q126)) q131 False) False) False) False)) False) False)) False) False))
 False)
 False)
 False)
 False)
 (iteB q7 (iteB q59 (iteB q60 (iteB q62 (iteB q132 (iteB q134 (q135 ∧ (q137 → iteB q132 (iteB q134 (q135 ∧ (q137 → iteB (decide (0 + q138 ≤ q138)) ((∀ (i : Nat), i < q138 → true = true) ∧ iteB (decide (0 + q139 ≤ q139)) ((∀ (i : Nat), i < q139 → true = true) ∧ iteB (decide (0 + q138 ≤ q138)) ((∀ (i : Nat), i < q138 → true = true) ∧ iteB (decide (0 + q139 ≤ q139)) q144 False) False) False) False)) False) False)) False) False) False) False) (iteB q145 (iteB q146 (q147 ∧ (q149 → iteB q145 (iteB q146 (q147 ∧ (q149 → iteB (decide (0 + q150 ≤ q150)) ((∀ (i : Nat), i < q150 → true = true) ∧ iteB (decide (0 + q151 ≤ q151)) ((∀ (i : Nat), i < q151 → true = true) ∧ iteB (decide (0 + q150 ≤ q150)) ((∀ (i : Nat), i < q150 → true = true) ∧ iteB (decide (0 + q151 ≤ q151)) q156 False) False) False) False)) False) False)) False) False))
 (iteB q145 (iteB q146 (q147 ∧ (q149 → iteB q145 (iteB q146 (q147 ∧ (q149 → iteB (decide (0 + q150 ≤ q150)) ((∀ (i : Nat), i < q150 → true = true) ∧ iteB (decide (0 + q151 ≤ q151)) ((∀ (i : Nat), i < q151 → true = true) ∧ iteB (decide (0 + q150 ≤ q150)) ((∀ (i : Nat), i < q150 → true = true) ∧ iteB (decide (0 + q151 ≤ q151)) q156 False) False) False) False)) False) False)) False) False))))
 (iteB q6
 (iteB q89
 (iteB q94
 (iteB q95
 (iteB q96
 (iteB q7 (iteB q100 (iteB q101 (iteB q103 (iteB q157 (iteB q158 (q109 ∧ (q111 → iteB q157 (iteB q158 (q109 ∧ (q111 → iteB (decide (0 + q112 ≤ q112)) ((∀ (i : Nat), i < q112 → true = true) ∧ iteB (decide (0 + q113 ≤ q113)) ((∀ (i : Nat), i < q113 → true = true) ∧ iteB (decide (0 + q112 ≤ q112)) ((∀ (i : Nat), i < q112 → true = true) ∧ iteB (decide (0 + q113 ≤ q113)) q118 False) False) False) False)) False) False)) False) False) False) False) (iteB q159 (iteB q160 (q122 ∧ (q124 → iteB q159 (iteB q160 (q122 ∧ (q124 → iteB (decide (0 + q125 ≤ q125)) ((∀ (i : Nat), i < q125 → true = true) ∧ iteB (decide (0 + q126 ≤ q126)) ((∀ (i : Nat), i < q126 → true = true) ∧ iteB (decide (0 + q125 ≤ q125)) ((∀ (i : Nat), i < q125 → true = true) ∧ iteB (decide (0 + q126 ≤ q126)) q131 False) False) False) False)) False) False)) False) False))
 (iteB q159 (iteB q160 (q122 ∧ (q124 → iteB q159 (iteB q160 (q122 ∧ (q124 → iteB (decide (0 + q125 ≤ q125)) ((∀ (i : Nat), i < q125 → true = true) ∧ iteB (decide (0 + q126 ≤ q126)) ((∀ (i : Nat), i < q126 → true = true) ∧ iteB (decide (0 + q125 ≤ q125)) ((∀ (i : Nat), i < q125 → true = true) ∧ iteB (decide (0 + q126 ≤ q126)) q131 False) False) False) False)) False) False)) False) False))
 False)
 False)
 False)
 False)
 (iteB q7 (iteB q59 (iteB q60 (iteB q62 (iteB q161 (iteB q162 (q135 ∧ (q137 → iteB q161 (iteB q162 (q135 ∧ (q137 → iteB (decide (0 + q138 ≤ q138)) ((∀ (i : Nat), i < q138 → true = true) ∧ iteB (decide (0 + q139 ≤ q139)) ((∀ (i : Nat), i < q139 → true = true) ∧ iteB (decide (0 + q138 ≤ q138)) ((∀ (i : Nat), i < q138 → true = true) ∧ iteB (decide (0 + q139 ≤ q139)) q144 False) False) False) False)) False) False)) False) False) False) False) (iteB q145 (iteB q146 (q147 ∧ (q149 → iteB q145 (iteB q146 (q147 ∧ (q149 → iteB (decide (0 + q150 ≤ q150)) ((∀ (i : Nat), i < q150 → true = true) ∧ iteB (decide (0 + q151 ≤ q151)) ((∀ (i : Nat), i < q151 → true = true) ∧ iteB (decide (0 + q150 ≤ q150)) ((∀ (i : Nat), i < q150 → true = true) ∧ iteB (decide (0 + q151 ≤ q151)) q156 False) False) False) False)) False) False)) False) False))
 (iteB q145 (iteB q146 (q147 ∧ (q149 → iteB q145 (iteB q146 (q147 ∧ (q149 → iteB (decide (0 + q150 ≤ q150)) ((∀ (i : Nat), i < q150 → true = true) ∧ iteB (decide (0 + q151 ≤ q151)) ((∀ (i : Nat), i < q151 → true = true) ∧ iteB (decide (0 + q150 ≤ q150)) ((∀ (i : Nat), i < q150 → true = true) ∧ iteB (decide (0 + q151 ≤ q151)) q156 False) False) False) False)) False) False)) False) False)))))))
 q4) (by kernel_rfl) ?_
  conv => zeta
  try simp only [need_eq]
  try simp only [nope_eq]
  try simp only [iteD_eq]
  try simp only [iteT_eq]
  try simp only [iteF_eq]
  try simp only [iteE_eq]
  try simp only [Int.toNat_natCast, Nat.zero_add, true_and, and_true, Nat.le_refl]
  refine ⟨fun h1 => ⟨fun h2 => trivial, fun h2 => ?_⟩, fun h1 => trivial⟩
  have ht := hok (by omega) (by simp at h2; omega)
  refine ⟨t, ⟨rfl, ⟨rfl, fun _ _ => rfl⟩, rfl, fun _ _ => rfl⟩, ht, hb, fun h3 => trivial, fun h3 => ⟨fun h4 => trivial, fun h4 => ?_⟩⟩
  have hf := hA ht (by simpa using h3)
  refine ⟨t, ⟨rfl, ⟨rfl, fun _ _ => rfl⟩, rfl, fun _ _ => rfl⟩, hf, ?_⟩
  obtain ⟨r1, r2⟩ := hR hf
  generalize R t false = xs at *
  have hs := r1.set at0.toNat ht0
  have hts : List.take xs.length (xs.set at0.toNat to0) = xs.set at0.toNat to0 := List.take_of_length_le (by simp)
  have hl : (xs.set at0.toNat to0).length = xs.length := by simp
  have w1 : IntKind.i64.wrap (0 - (xs.length : Int)) = -(xs.length : Int) := by rw [w64 (by omega)]; omega
  have h4 : more ≤ 20 := by simpa using h4
  simp only [dropZ_eq, List.drop_zero, List.nil_append, subO_none, hts, List.take_length, List.length_append, List.length_replicate, hl, Nat.mul_one, Nat.zero_add, w1]
  generalize xs.set at0.toNat to0 = ys at *
  repeat' (first | (refine And.intro ?_ ?_) | intro _)
  all_goals first | omega | trivial | assumption | skip
  all_goals first
    | exact Bytes.take (hs.zeros _) _ | exact Bytes.take (r1.zeros _) _ | exact Bytes.take hs _ | exact Bytes.take r1 _
    | (rw [w64 (x := (xs.length : Int) + more) (by omega)]; omega)
    | (simp only [List.length_take, List.length_append, List.length_replicate]; omega)
    | (rw [w64 (x := (xs.length : Int) + more) (by omega)]; simp only [List.length_take]; omega)
    | (refine ⟨T _, T _, ⟨rfl, ⟨rfl, fun _ _ => rfl⟩, rfl, fun _ _ => rfl⟩, ⟨rfl, ⟨rfl, fun _ _ => rfl⟩, rfl, fun _ _ => rfl⟩, ⟨‹_›, ‹_›⟩, ?_⟩; simp [hS]; done)
    | skip
end Go.Tk
end
section
namespace Go.Tk
theorem Bytes.nil : Bytes [] := ⟨fun i => by simp⟩
theorem Bytes.cons {x : Int} {xs : List Int} (hx : 0 ≤ x ∧ x ≤ 255) (h : Bytes xs) : Bytes (x :: xs) := ⟨fun i => by
  cases i with
  | zero => simpa using hx
  | succ i => have := h.h i; simpa using this⟩
theorem Bytes.append {xs ys : List Int} (h : Bytes xs) (k : Bytes ys) : Bytes (xs ++ ys) := ⟨fun i => by
  rw [List.getD_eq_getElem?_getD, List.getElem?_append]
  split
  · have := h.h i; rwa [List.getD_eq_getElem?_getD] at this
  · have := k.h (i - xs.length); rwa [List.getD_eq_getElem?_getD] at this⟩
theorem Bytes.ite {p : Prop} [Decidable p] {xs ys : List Int} (h : Bytes xs) (k : Bytes ys) : Bytes (if p then xs else ys) := by split <;> assumption
theorem wu8r (x : Int) : 0 ≤ IntKind.u8.wrap x ∧ IntKind.u8.wrap x ≤ 255 := by
  unfold IntKind.wrap
  simp [IntKind.bits, IntKind.signed]
  omega
theorem numW_bytes (n : Int) : Bytes (numW n) := by
  have hb : ∀ k, 0 ≤ b8 n k ∧ b8 n k ≤ 255 := fun k => wu8r _
  unfold numW
  split
  · exact .cons (wu8r _) .nil
  split
  · exact .cons (by omega) (.cons (hb _) (.cons (hb _) .nil))
  split
  · exact .cons (by omega) (.cons (hb _) (.cons (hb _) (.cons (hb _) (.cons (hb _) .nil))))
  · exact .cons (by omega) (.cons (hb _) (.cons (hb _) (.cons (hb _) (.cons (hb _) (.cons (hb _) (.cons (hb _) (.cons (hb _) (.cons (hb _) .nil))))))))
theorem inW_bytes {x : InS} (h : x.By) (core : Bool) : Bytes (inW numW core x) := by
  unfold inW
  refine (h.name.append (numW_bytes _)).append ?_
  cases core
  · exact (numW_bytes _).append (((Bytes.nil.ite h.tag).append (h.also.ite .nil)).append (h.secret.ite .nil))
  · exact .nil
theorem outW_bytes {x : OutS} (h : x.By) : Bytes (outW numW x) := by
  unfold outW
  exact (((((((numW_bytes _).append (numW_bytes _)).append h.owner).append (h.other.ite .nil)).append (h.point.ite .nil)).append (h.hash.ite .nil)).append ((numW_bytes _).ite .nil)).append ((numW_bytes _).ite .nil)
theorem catL_bytes {f : Nat → List Int} : ∀ n, (∀ i, i < n → Bytes (f i)) → Bytes (catL f n)
  | 0, _ => .nil
  | n + 1, h => (catL_bytes n fun i hi => h i (by omega)).append (h n (by omega))
theorem rawT_bytes {t : TxS} (h : TxAll t) (core : Bool) : Bytes (rawT numW t core) := by
  unfold rawT rawO rawI
  exact ((((numW_bytes _).append (numW_bytes _)).append (catL_bytes _ fun i hi => inW_bytes (h.ins i hi) core)).append (numW_bytes _)).append (catL_bytes _ fun i hi => outW_bytes (h.outs i hi))
theorem u8_of {n : Int} (h : (Lit.int .u8 n).wf = true) : 0 ≤ n ∧ n ≤ 255 := by
  simp [Lit.wf] at h
  have m1 : IntKind.u8.min = 0 := rfl
  have m2 : IntKind.u8.max = 255 := rfl
  omega
theorem txbent_walk {us : List AV} (h : FitsL [(true, txTy), (false, [.int .i64]), (false, [.int .u8]), (false, [.int .i64])] us) : CallsA PP 4 us ⟨0, []⟩ fun o h' => ∃ v, o = .ret v ∧ h' = ⟨0, []⟩ ∧ v = .bool true := by
  cases h with | cons _ _ a _ _ h1 h =>
  cases h with | cons _ _ b _ _ h2 h =>
  cases h with | cons _ _ c _ _ h3 h =>
  cases h with | cons _ _ d _ _ h4 h =>
  cases h
  obtain ⟨l, t, rfl, t1, t2, t3⟩ := fits_tx h1
  cases h2 with | one _ _ h2 =>
  cases h3 with | one _ _ h3 =>
  cases h4 with | one _ _ h4 =>
  cases h2 with | int _ at0 w2 =>
  cases h3 with | int _ to0 w3 =>
  cases h4 with | int _ more w4 =>
  have hc := outV_ev (h := ⟨0, []⟩) E46_ok rfl (txbent_1 (parTx (parseT (firstB numW) addM)) (parE (parseT (firstB numW) addM)) sameT (rawT numW) addM t at0 to0 more t2 t3.b sameT_refl ckTx_fine (fun hf => ⟨rawT_bytes t3 false, Nat.le_trans (rawO_len hf false (Nat.le_refl _)) (by omega)⟩) (i64_of w2) (u8_of w3) (i64_of w4)) (fun u hu => hu)
  exact CallsA.conv hc fun E rs hr => hr.head (fun _ hc => t1.rel hc) (fun _ hc => hc)
end Go.Tk
namespace Go.Proofs.YtmfcmlajhaedgaaGreat.txBent
open Go.ChangeShapes Go.WideShapes Go.ChangeAt Go.RowKit
theorem own : ownKnob Tryz.prog.godebug = none := by kernel_rfl
theorem laidOut : laidOutB Tryz.prog = true := by kernel_rfl
set_option maxRecDepth 100000 in
theorem lifted (os : Os) (started : os.Started) (H : Type) (enc : TypeId × Value → H) :
    ReturnsInHanded {} Tryz.checked os 4 .any (Rows.txBentSpec.pre6 enc Tryz.prog Tryz.f4 Rows.txBentRow.domain false) (Rows.txBentSpec.post enc Tryz.prog Tryz.f4 false true false false) :=
  Go.Tk.lifted_gen (C := Tryz.checked) (m := 8) (τs := [(true, Go.Tk.txTy), (false, [.int .i64]), (false, [.int .u8]), (false, [.int .i64])]) own laidOut started (by kernel_rfl) Tryz.func4
    (ChangeSpec.witness6 (enc := enc) (C := Tryz.checked) false ⟨#[], #[.agg #[.int .i64 0, .slice none 0 0, .slice none 0 0], .int .i64 0, .int .u8 0, .int .i64 0], []⟩ 8 (by kernel_rfl) (by kernel_rfl) (by kernel_rfl) (by kernel_rfl))
    rfl (tb := 4) rfl Tryz.underlying4 (by kernel_rfl) (by kernel_rfl) (fun ds h => by
      match ds, h with
      | [a, b, c, d], _ => rfl) fun us h => Go.Tk.txbent_walk h
theorem over : Rows.txBentRow.holds Tryz.pinned (OpenSpec.ofChange Rows.txBentSpec) :=
  OpenClaim.holds_of_wide 4 Tryz.f4 rfl rfl rfl rfl rfl rfl rfl ⟨rfl, rfl, rfl, rfl, rfl⟩ rfl rfl rfl rfl rfl (by kernel_rfl) Tryz.func4 (by kernel_rfl)
    (of_decide_eq_true (by kernel_rfl)) (by unfold Func.isWrapper; first | (rw [if_pos (by decide +kernel)]; kernel_rfl) | (rw [if_neg (by decide +kernel)]; exact ⟨rfl, rfl⟩))
    (fun os started H enc _ => lifted os started H enc)
theorem proved : Rows.TxBentSaid := over
end Go.Proofs.YtmfcmlajhaedgaaGreat.txBent
end
section
namespace Go.Tk
def in77 : InS := ⟨zero32, 77, 0, zero32, zero32, zero32⟩
def out77 : OutS := ⟨0, 77, zero32, zero32, zero32, zero32, 0, 0⟩
def snoc {α : Type} (n : Nat) (g : Nat → α) (x : α) : Nat → α := fun i => if i = n then x else g i
set_option maxRecDepth 100000 in
set_option maxHeartbeats 0 in
theorem cop_1 (t : TxS) (N M N1 M1 : Nat) (f : Nat → InS) (g : Nat → OutS) (hN : N = t.N) (hM : M = t.M) (hN1 : N1 = t.N + 1) (hM1 : M1 = t.M + 1) (h1 : t.N ≤ 30) (h2 : t.M ≤ 30) (hf : f = snoc t.N t.ins in77) (hg : g = snoc t.M t.outs out77) :
    evF G0 20 22 [.agg t.c] ⟨0, []⟩ (outM 0 (.ret (.agg [.int .i64 t.num, .nslice ⟨0, 0, 130, 0, 0⟩ 130 N N1, .nslice ⟨1, 0, 132, 0, 0⟩ 132 M M1])) 2 [(0, .rows 130 N1 (inRows f)), (1, .rows 132 M1 (outRows g))]) := by
  refine @Eq.mpr _ (let q1 := t.N;
 let q2 := ↑q1;
 let q3 := decide (q2 = q2);
 let q4 := decide (q1 = q1);
 let q5 := inRows t.ins;
 let q6 := q5 = q5;
 let q7 := 0 + q1;
 let q8 := decide (q7 * 144 ≤ 140737488355328);
 let q9 := q7 + 1;
 let q10 := t.M;
 let q11 := ↑q10;
 let q12 := decide (q11 = q11);
 let q13 := decide (q10 = q10);
 let q14 := outRows t.outs;
 let q15 := q14 = q14;
 let q16 := 0 + q10;
 let q17 := decide (q16 * 160 ≤ 140737488355328);
 let q18 := q16 + 1;
 let q19 := [(1, 7), (0, 4)];
 let q20 := AV.arr IntKind.u8 32 zero32;
 let q21 := AV.int IntKind.i64 0;
 let q22 := iteB q12 (iteB q13 (q15 ∧ iteB q13 (iteB (decide (q16 = q16)) (iteB (decide (q18 * 160 ≤ 140737488355328)) (iteB q12 (iteB q13 (q15 ∧ iteB q13 (iteB (decide (q18 ≤ q18)) (iteB (decide (0 ≤ q11 ∧ q11 ≤ ↑q18)) (iteB (decide (t.num = t.num)) (iteB (decide (subO (Int.toNat q2) none = N)) (iteB (decide (N1 ≤ subO q9 none)) (iteB (decide (subO (Int.toNat q11) none = M)) (iteB (decide (M1 ≤ subO q18 none)) (iteB (decide (q9 = N1)) (RowsEq 0 q19 N1 (inRows f) (catF q7 (catF 0 (fun (x : Nat) => []) q5) (rowC [q20, AV.int IntKind.i64 77, q21, q20, q20, q20] 0 130)) ∧ iteB (decide (q18 = M1)) (RowsEq 0 q19 M1 (outRows g) (catF q16 (catF 0 (fun (x : Nat) => []) q14) (rowC [q21, AV.int IntKind.i64 77, q20, q20, q20, q20, q21, q21] 0 132)) ∧ True) False) False) False) False) False) False) False) False) False) False) False) False) False) False) False) False) False;
 let q23 := iteB q12 (iteB q13 (q15 ∧ iteB q13 (iteB q13 (q15 ∧ iteB q13 (iteB q17 q22 False) False) False) False) False) False;
 let q24 := iteB q3 (iteB q4 (q6 ∧ iteB q4 (iteB (decide (q7 = q7)) (iteB (decide (q9 * 144 ≤ 140737488355328)) (iteB q3 (iteB q4 (q6 ∧ iteB q4 (iteB (decide (q9 ≤ q9)) (iteB (decide (0 ≤ q2 ∧ q2 ≤ ↑q9)) (iteB q12 (iteB q13 (q15 ∧ iteB q13 (iteB q13 (q15 ∧ iteB q13 (iteB q17 (iteB q12 (iteB q13 (q15 ∧ iteB q13 q22 False) False) False) False ∧ q23) False) False) False) False) False ∧ iteB q12 (iteB q13 (q15 ∧ iteB q13 (iteB q13 (q15 ∧ iteB q13 q23 False) False) False) False) False) False) False) False) False) False) False) False) False) False) False;
 let q25 := iteB q3 (iteB q4 (q6 ∧ iteB q4 (iteB q4 (q6 ∧ iteB q4 (iteB q8 q24 False) False) False) False) False) False;
 iteB q3 (iteB q4 (q6 ∧ iteB q4 (iteB q4 (q6 ∧ iteB q4 (iteB q8 (iteB q3 (iteB q4 (q6 ∧ iteB q4 q24 False) False) False) False ∧ q25) False) False) False) False) False ∧ iteB q3 (iteB q4 (q6 ∧ iteB q4 (iteB q4 (q6 ∧ iteB q4 q25 False) False) False) False) False) (by kernel_rfl) ?_
  conv => zeta
  try simp only [need_eq]
  try simp only [nope_eq]
  try simp only [iteD_eq]
  try simp only [iteT_eq]
  try simp only [iteF_eq]
  try simp only [iteE_eq]
  try simp only [Int.toNat_natCast, Nat.zero_add, true_and, and_true, Nat.le_refl]
  subst hN hM hN1 hM1 hf hg
  have R1 : ∀ τ, RowsEq 0 τ (t.N + 1) (inRows (snoc t.N t.ins in77)) (catF t.N (catF 0 (fun _ => []) (inRows t.ins)) (rowC in77.c 0 130)) := fun τ => inRowsEq fun q hq => by
    have : catF 0 (fun _ => []) (inRows t.ins) = inRows t.ins := funext fun q => by rw [catF_ge (Nat.zero_le _)]; rfl
    rw [this]
    exact catIn (x := in77) hq
  have R2 : ∀ τ, RowsEq 0 τ (t.M + 1) (outRows (snoc t.M t.outs out77)) (catF t.M (catF 0 (fun _ => []) (outRows t.outs)) (rowC out77.c 0 132)) := fun τ => outRowsEq fun q hq => by
    have : catF 0 (fun _ => []) (outRows t.outs) = outRows t.outs := funext fun q => by rw [catF_ge (Nat.zero_le _)]; rfl
    rw [this]
    exact catOut (x := out77) hq
  repeat' (first | (refine And.intro ?_ ?_) | intro _)
  all_goals first | exact R1 _ | exact R2 _ | rfl | (simp only [subO_none, Nat.zero_add]; omega) | omega | trivial | skip
theorem cop_pure (t : TxS) (h1 : t.N ≤ 30) (h2 : t.M ≤ 30) : Pure PP 22 [.agg t.c] (.agg [.int .i64 t.num, .nslice ⟨0, 0, 130, 0, 0⟩ 130 t.N (t.N + 1), .nslice ⟨1, 0, 132, 0, 0⟩ 132 t.M (t.M + 1)]) 2 [(0, .rows 130 (t.N + 1) (inRows (snoc t.N t.ins in77))), (1, .rows 132 (t.M + 1) (outRows (snoc t.M t.outs out77)))] :=
  .evM G0_ok (cop_1 t _ _ _ _ _ _ rfl rfl rfl rfl h1 h2 rfl rfl)
def copS : FSumm := fun args h K => viewL none h true 20 args fun a => match a with
  | [.agg l] => ∃ t, isTx l t ∧ (t.N ≤ 30 ∧ t.M ≤ 30) ∧ K (.ret (.agg [.int .i64 t.num, .nslice ⟨h.next, 0, 130, 0, 0⟩ 130 t.N (t.N + 1), .nslice ⟨h.next + 1, 0, 132, 0, 0⟩ 132 t.M (t.M + 1)])) ⟨h.next + 2, (h.next, .rows 130 (t.N + 1) (inRows (snoc t.N t.ins in77))) :: (h.next + 1, .rows 132 (t.M + 1) (outRows (snoc t.M t.outs out77))) :: h.bs⟩
  | _ => False
theorem copS_ok (args : List AV) (h : Heap) (K : KO) (hl : copS args h K) : CallsA PP 22 args h K := by
  refine Pure.fsumm (d := 20) (viewL_weak _ _ _ _ _ hl fun a ha => ?_)
  split at ha
  · obtain ⟨t, h1, h2, hK⟩ := ha
    exact ⟨_, _, _, _, (cop_pure t h2.1 h2.2).conv fun E r hr => hr.head (fun _ hc => h1.rel hc) (fun _ hc => hc), rfl, ⟨by decide, .rows _ _ _ (fun i _ => (snoc t.N t.ins in77 i).plainC), by decide, .rows _ _ _ (fun i _ => (snoc t.M t.outs out77 i).plainC), trivial⟩, hK⟩
  · exact ha.elim
end Go.Tk
end
section
namespace Go.Tk
def rsuS (t : TxS) (i : Nat) (s : Int) : St := ⟨21, [(4, .int .i64 i), (1, .ptr (some ⟨0, 0, 0, 0, 0⟩)), (3, .int .i64 s)], ⟨1, [(0, .flat t.c)]⟩, []⟩
def rsuE (t : TxS) (s : Int) : St := ⟨21, [(1, .ptr (some ⟨0, 0, 0, 0, 0⟩)), (3, .int .i64 s)], ⟨1, [(0, .flat t.c)]⟩, []⟩
set_option maxRecDepth 100000 in
set_option maxHeartbeats 0 in
theorem su_0 (t : TxS) (i : Nat) (s s' : Int) (Z1 Z2 : Prop) (hi : i ≤ t.M) (hM : t.M ≤ 24) (hs : 0 ≤ s ∧ s ≤ i * 1125899906842624) (ha : i < t.M → 0 < (t.outs i).amount ∧ (t.outs i).amount ≤ 1125899906842624) (hs' : s' = s + (t.outs i).amount) (h1 : i < t.M → Z1) (h2 : i = t.M → Z2) :
    roundE G0 20 32 0 0 (rsuS t i s) (rdM 0 0 9 (rsuS t (i + 1) s') (rsuE t s) (rsuE t s) (rsuE t s) Z1 Z2 False False) := by
  refine @Eq.mpr _ (let q1 := t.M;
 let q2 := decide (t.num = t.num);
 let q3 := decide (t.N = t.N);
 let q4 := inRows t.ins;
 let q5 := q4 = q4;
 let q6 := decide (q1 = q1);
 let q7 := outRows t.outs;
 let q8 := q7 = q7;
 iteB (decide ((↑i : Int) < (↑q1 : Int))) (iteB (decide (0 ≤ (↑i : Int) ∧ (↑i : Int) < (↑q1 : Int))) (iteB (decide (IntKind.wrap IntKind.i64 ((↑i : Int) + 1) = (↑(i + 1) : Int))) (iteB (decide (IntKind.wrap IntKind.i64 (s + (t.outs (Int.toNat (↑i : Int))).amount) = s')) (iteB q2 (iteB q3 (q5 ∧ iteB q3 (iteB q6 (q8 ∧ iteB q6 Z1 False) False) False) False) False) False) False) False) (iteB (decide (s = s)) (iteB q2 (iteB q3 (q5 ∧ iteB q3 (iteB q6 (q8 ∧ iteB q6 Z2 False) False) False) False) False) False)) (by kernel_rfl) ?_
  conv => zeta
  try simp only [need_eq]
  try simp only [nope_eq]
  try simp only [iteD_eq]
  try simp only [iteT_eq]
  try simp only [iteF_eq]
  try simp only [iteE_eq]
  try simp only [Int.toNat_natCast, Nat.zero_add, true_and, and_true, Nat.le_refl]
  refine ⟨fun hlt => ?_, fun hge => h2 (by omega)⟩
  have hw := h1 (by omega)
  have := ha (by omega)
  have e1 : IntKind.i64.wrap ((i : Int) + 1) = ((i + 1 : Nat) : Int) := w64 (by omega)
  have e2 : IntKind.i64.wrap (s + (t.outs i).amount) = s + (t.outs i).amount := w64 (by omega)
  rw [e1, e2, hs']
  repeat' (first | (refine And.intro ?_ ?_) | intro _)
  all_goals first | omega | assumption | trivial
noncomputable def E50 (t : TxS) : Env2 := G0.withL 32 0 (goM 0 (rsuS t 0 0) (t.M ≤ 24 ∧ ∀ j, j < t.M → outRight (t.outs j) = true) (endsJ 0 t.M 9 (fun i => i < t.M) (fun i => i = t.M) (fun _ => False) (fun _ => False) (fun i => rsuE t (sumO t i)) (fun i => rsuE t (sumO t i)) (fun i => rsuE t (sumO t i))))
theorem E50_ok (t : TxS) : (E50 t).Ok := by
  unfold E50
  refine Env2.withGoM (N := 20) (S := fun i => rsuS t i (sumO t i)) G0_ok (by kernel_rfl) fun hC => ⟨by show rsuS t 0 (sumO t 0) = _; unfold sumO amL; rfl, fun i hi hgo => ?_⟩
  exact su_0 t i (sumO t i) (sumO t (i + 1)) _ _ hi hC.1 (sumO_le i fun j hj => hC.2 j (by omega)) (fun h => (outRight_facts (hC.2 i h)).2.1) (sumO_succ t i) (fun h => ⟨h, h⟩) (fun h => h)
set_option maxRecDepth 100000 in
set_option maxHeartbeats 0 in
theorem su_1 (t : TxS) (s : Int) (ht : t.Fine) (hs : s = sumO t t.M) :
    evF (E50 t) 20 32 [.agg t.c] ⟨0, []⟩ (outK 0 [] (.int .i64 s) 0 []) := by
  refine @Eq.mpr _ (let q1 := decide (t.N = t.N);
 let q2 := inRows t.ins;
 let q3 := t.M;
 let q4 := decide (q3 = q3);
 let q5 := outRows t.outs;
 iteB (decide (t.num = t.num)) (iteB q1 (q2 = q2 ∧ iteB q1 (iteB q4 (q5 = q5 ∧ iteB q4 ((q3 ≤ 24 ∧ ∀ (j : Nat), j < q3 → outRight (t.outs j) = true) ∧ ∀ (i : Nat), i ≤ q3 → (∀ (j : Nat), j < i → (fun (i : Nat) => i < q3) j) → (i = q3 → iteB (decide (sumO t i = s)) True False) ∧ (False → False) ∧ (False → False)) False) False) False) False) False) (by kernel_rfl) ?_
  conv => zeta
  try simp only [need_eq]
  try simp only [nope_eq]
  try simp only [iteD_eq]
  try simp only [iteT_eq]
  try simp only [iteF_eq]
  try simp only [iteE_eq]
  try simp only [Int.toNat_natCast, Nat.zero_add, true_and, and_true, Nat.le_refl]
  subst hs
  refine ⟨⟨ht.m, ht.outs⟩, fun i hi _ => ⟨fun he => ?_, fun h => h, fun h => h⟩⟩
  subst he
  first | exact trivial | exact ⟨rfl, trivial⟩ | rfl
def rsumS (U : TxS → Int) : PSumm := fun args h K => viewL none h true 20 args fun a => match a with
  | [.agg l] => ∃ t, isTx l t ∧ t.Fine ∧ K (.int .i64 (U t))
  | _ => False
theorem rsumS_ok (args : List AV) (h : Heap) (K : AV → Prop) (hl : rsumS (fun t => sumO t t.M) args h K) : CallsA PP 32 args h fun o h' => ∃ v, o = .ret v ∧ h' = h ∧ K v := by
  refine Pure.psumm (d := 20) (viewL_weak _ _ _ _ _ hl fun a ha => ?_)
  split at ha
  · obtain ⟨t, h1, h2, hK⟩ := ha
    exact ⟨_, (Pure.ev (E50_ok t) (su_1 t _ h2 rfl)).conv fun E r hr => hr.head (fun _ hc => h1.rel hc) (fun _ hc => hc), fun _ => rfl, hK⟩
  · exact ha.elim
theorem sum_add {t : TxS} (h : ckTx addM t = true) : (addM (amL t.outs t.M)).1 = sumO t t.M := by
  unfold ckTx at h
  simp only [Bool.and_eq_true, beq_iff_eq] at h
  have h0 := h.2
  unfold addM at h0 ⊢
  split
  · split
    · rfl
    · simp_all
  · simp_all
end Go.Tk
end
section
namespace Go.Tk
noncomputable def E51 (S : TxS → TxS → Bool) (R : TxS → Bool → List Int) (A : List Int → Int × Int) (U : TxS → Int) : Env2 := ((((((((G0.withP 10 worksS).withP 13 (sametS S)).withF 22 copS).withF 28 (rawtS A R)).withP 29 (txsumtS A)).withP 30 (ckS A)).withP 16 (rightS A)).withF 48 (rawF R)).withP 32 (rsumS U)
theorem E51_ok : (E51 sameT (rawT numW) addM fun t => sumO t t.M).Ok :=
  Env2.withP_ok (Env2.withF_ok (Env2.withP_ok (Env2.withP_ok (Env2.withP_ok (Env2.withF_ok (Env2.withF_ok (Env2.withP_ok (Env2.withP_ok G0_ok worksS_ok) samer_ok) copS_ok) rawtS_ok) txsumtS_ok) ckS_ok) rightS_ok) bytesrF_ok) rsumS_ok
set_option maxRecDepth 100000 in
set_option maxHeartbeats 0 in
theorem txraws_1 (S : TxS → TxS → Bool) (R : TxS → Bool → List Int) (A : List Int → Int × Int) (U : TxS → Int) (t : TxS) (hok : t.N < 900000000000 → t.M < 900000000000 → t.Ok) (hb : TxB t) (hS : ∀ t : TxS, S t t = true) (hA : t.Ok → ckTx A t = true → t.Fine) (hR : ∀ t : TxS, t.Fine → (R t false).length ≤ 30000) (hU : ∀ t : TxS, ckTx A t = true → (A (amL t.outs t.M)).1 = U t) :
    evF (E51 S R A U) 20 8 [.agg t.c] ⟨0, []⟩ (outV (fun v => v = .bool true)) := by
  refine @Eq.mpr _ (iteB (decide ((↑t.N : Int) ≤ 30))
 (iteB (!decide ((↑t.M : Int) ≤ 30)) (AV.bool true = AV.bool true)
 (∃ (t_1 : TxS),
 (t_1.num = t.num ∧ ((t.N = t.N ∧ t_1.N = t.N) ∧ ∀ (i : Nat), i < t.N → inRows t.ins i = InS.c (t_1.ins i)) ∧ (t.M = t.M ∧ t_1.M = t.M) ∧ ∀ (i : Nat), i < t.M → outRows t.outs i = OutS.c (t_1.outs i)) ∧
 (t_1.N ≤ 30 ∧ t_1.M ≤ 30) ∧
 iteB (decide (0 + t_1.N ≤ t_1.N + 1))
 ((∀ (i : Nat), i < t_1.N → true = true) ∧
 iteB (decide (0 + t_1.M ≤ t_1.M + 1))
 ((∀ (i : Nat), i < t_1.M → true = true) ∧
 ∃ (t_2 : TxS),
 (t_2.num = t_1.num ∧ ((t_1.N = t_1.N ∧ t_2.N = t_1.N) ∧ ∀ (i : Nat), i < t_1.N → [AV.arr IntKind.u8 32 (snoc t_1.N t_1.ins in77 i).name, AV.int IntKind.i64 (snoc t_1.N t_1.ins in77 i).index, AV.int IntKind.i64 (snoc t_1.N t_1.ins in77 i).way, AV.arr IntKind.u8 32 (snoc t_1.N t_1.ins in77 i).tag, AV.arr IntKind.u8 32 (snoc t_1.N t_1.ins in77 i).also, AV.arr IntKind.u8 32 (snoc t_1.N t_1.ins in77 i).secret] = InS.c (t_2.ins i)) ∧ (t_1.M = t_1.M ∧ t_2.M = t_1.M) ∧ ∀ (i : Nat), i < t_1.M → [AV.int IntKind.i64 (snoc t_1.M t_1.outs out77 i).kind, AV.int IntKind.i64 (snoc t_1.M t_1.outs out77 i).amount, AV.arr IntKind.u8 32 (snoc t_1.M t_1.outs out77 i).owner, AV.arr IntKind.u8 32 (snoc t_1.M t_1.outs out77 i).other, AV.arr IntKind.u8 32 (snoc t_1.M t_1.outs out77 i).point, AV.arr IntKind.u8 32 (snoc t_1.M t_1.outs out77 i).hash, AV.int IntKind.i64 (snoc t_1.M t_1.outs out77 i).delay, AV.int IntKind.i64 (snoc t_1.M t_1.outs out77 i).expiry] = OutS.c (t_2.outs i)) ∧
 TxS.Ok t_2 ∧
 iteB (ckTx A t_2)
 (iteB (decide (0 + t_1.N ≤ t_1.N + 1))
 ((∀ (i : Nat), i < t_1.N → true = true) ∧
 iteB (decide (0 + t_1.M ≤ t_1.M + 1))
 ((∀ (i : Nat), i < t_1.M → true = true) ∧
 ∃ (t_3 : TxS),
 (t_3.num = t_1.num ∧ ((t_1.N = t_1.N ∧ t_3.N = t_1.N) ∧ ∀ (i : Nat), i < t_1.N → [AV.arr IntKind.u8 32 (snoc t_1.N t_1.ins in77 i).name, AV.int IntKind.i64 (snoc t_1.N t_1.ins in77 i).index, AV.int IntKind.i64 (snoc t_1.N t_1.ins in77 i).way, AV.arr IntKind.u8 32 (snoc t_1.N t_1.ins in77 i).tag, AV.arr IntKind.u8 32 (snoc t_1.N t_1.ins in77 i).also, AV.arr IntKind.u8 32 (snoc t_1.N t_1.ins in77 i).secret] = InS.c (t_3.ins i)) ∧ (t_1.M = t_1.M ∧ t_3.M = t_1.M) ∧ ∀ (i : Nat), i < t_1.M → [AV.int IntKind.i64 (snoc t_1.M t_1.outs out77 i).kind, AV.int IntKind.i64 (snoc t_1.M t_1.outs out77 i).amount, AV.arr IntKind.u8 32 (snoc t_1.M t_1.outs out77 i).owner, AV.arr IntKind.u8 32 (snoc t_1.M t_1.outs out77 i).other, AV.arr IntKind.u8 32 (snoc t_1.M t_1.outs out77 i).point, AV.arr IntKind.u8 32 (snoc t_1.M t_1.outs out77 i).hash, AV.int IntKind.i64 (snoc t_1.M t_1.outs out77 i).delay, AV.int IntKind.i64 (snoc t_1.M t_1.outs out77 i).expiry] = OutS.c (t_3.outs i)) ∧
 TxS.Ok t_3 ∧
 iteB (ckTx A t_3)
 (∃ (t_4 : TxS),
 (t_4.num = t.num ∧ ((t.N = t.N ∧ t_4.N = t.N) ∧ ∀ (i : Nat), i < t.N → inRows t.ins i = InS.c (t_4.ins i)) ∧ (t.M = t.M ∧ t_4.M = t.M) ∧ ∀ (i : Nat), i < t.M → outRows t.outs i = OutS.c (t_4.outs i)) ∧
 TxS.Ok t_4 ∧
 TxB t_4 ∧
 iteB (ckTx A t_4)
 (iteB (decide (0 + t_1.N ≤ t_1.N + 1))
 ((∀ (i : Nat), i < t_1.N → true = true) ∧
 iteB (decide (0 + t_1.M ≤ t_1.M + 1))
 ((∀ (i : Nat), i < t_1.M → true = true) ∧
 ∃ (t_5 : TxS),
 (t_5.num = t_1.num ∧ ((t_1.N = t_1.N ∧ t_5.N = t_1.N) ∧ ∀ (i : Nat), i < t_1.N → [AV.arr IntKind.u8 32 (snoc t_1.N t_1.ins in77 i).name, AV.int IntKind.i64 (snoc t_1.N t_1.ins in77 i).index, AV.int IntKind.i64 (snoc t_1.N t_1.ins in77 i).way, AV.arr IntKind.u8 32 (snoc t_1.N t_1.ins in77 i).tag, AV.arr IntKind.u8 32 (snoc t_1.N t_1.ins in77 i).also, AV.arr IntKind.u8 32 (snoc t_1.N t_1.ins in77 i).secret] = InS.c (t_5.ins i)) ∧ (t_1.M = t_1.M ∧ t_5.M = t_1.M) ∧ ∀ (i : Nat), i < t_1.M → [AV.int IntKind.i64 (snoc t_1.M t_1.outs out77 i).kind, AV.int IntKind.i64 (snoc t_1.M t_1.outs out77 i).amount, AV.arr IntKind.u8 32 (snoc t_1.M t_1.outs out77 i).owner, AV.arr IntKind.u8 32 (snoc t_1.M t_1.outs out77 i).other, AV.arr IntKind.u8 32 (snoc t_1.M t_1.outs out77 i).point, AV.arr IntKind.u8 32 (snoc t_1.M t_1.outs out77 i).hash, AV.int IntKind.i64 (snoc t_1.M t_1.outs out77 i).delay, AV.int IntKind.i64 (snoc t_1.M t_1.outs out77 i).expiry] = OutS.c (t_5.outs i)) ∧
 TxS.Ok t_5 ∧
 iteB (ckTx A t_5)
 (iteB (decide (0 + t_1.N ≤ t_1.N + 1))
 ((∀ (i : Nat), i < t_1.N → true = true) ∧
 iteB (decide (0 + t_1.M ≤ t_1.M + 1))
 ((∀ (i : Nat), i < t_1.M → true = true) ∧
 ∃ (a : TxS),
 ∃ (b : TxS),
 (a.num = t_1.num ∧ ((t_1.N = t_1.N ∧ a.N = t_1.N) ∧ ∀ (i : Nat), i < t_1.N → [AV.arr IntKind.u8 32 (snoc t_1.N t_1.ins in77 i).name, AV.int IntKind.i64 (snoc t_1.N t_1.ins in77 i).index, AV.int IntKind.i64 (snoc t_1.N t_1.ins in77 i).way, AV.arr IntKind.u8 32 (snoc t_1.N t_1.ins in77 i).tag, AV.arr IntKind.u8 32 (snoc t_1.N t_1.ins in77 i).also, AV.arr IntKind.u8 32 (snoc t_1.N t_1.ins in77 i).secret] = InS.c (a.ins i)) ∧ (t_1.M = t_1.M ∧ a.M = t_1.M) ∧ ∀ (i : Nat), i < t_1.M → [AV.int IntKind.i64 (snoc t_1.M t_1.outs out77 i).kind, AV.int IntKind.i64 (snoc t_1.M t_1.outs out77 i).amount, AV.arr IntKind.u8 32 (snoc t_1.M t_1.outs out77 i).owner, AV.arr IntKind.u8 32 (snoc t_1.M t_1.outs out77 i).other, AV.arr IntKind.u8 32 (snoc t_1.M t_1.outs out77 i).point, AV.arr IntKind.u8 32 (snoc t_1.M t_1.outs out77 i).hash, AV.int IntKind.i64 (snoc t_1.M t_1.outs out77 i).delay, AV.int IntKind.i64 (snoc t_1.M t_1.outs out77 i).expiry] = OutS.c (a.outs i)) ∧
 (b.num = t.num ∧ ((t.N = t.N ∧ b.N = t.N) ∧ ∀ (i : Nat), i < t.N → inRows t.ins i = InS.c (b.ins i)) ∧ (t.M = t.M ∧ b.M = t.M) ∧ ∀ (i : Nat), i < t.M → outRows t.outs i = OutS.c (b.outs i)) ∧
 (TxS.Ok a ∧ TxS.Ok b) ∧
 iteB (S a b)
 (iteB (decide (t_1.N ≤ t_1.N + 1))
 (iteB (decide (0 ≤ IntKind.wrap IntKind.i64 ((↑t.N : Int) + 1) ∧ IntKind.wrap IntKind.i64 ((↑t.N : Int) + 1) ≤ (↑(t_1.N + 1) : Int)))
 (iteB (decide (0 ≤ (↑t.N : Int) ∧ (↑t.N : Int) < (↑(subO (Int.toNat (IntKind.wrap IntKind.i64 ((↑t.N : Int) + 1))) none) : Int)))
 (iteB (decide (0 + Int.toNat (↑t.N : Int) < t_1.N + 1))
 (iteB ((snoc t_1.N t_1.ins in77 (0 + Int.toNat (↑t.N : Int))).index == 77)
 (iteB (decide (t_1.M ≤ t_1.M + 1))
 (iteB (decide (0 ≤ IntKind.wrap IntKind.i64 ((↑t.M : Int) + 1) ∧ IntKind.wrap IntKind.i64 ((↑t.M : Int) + 1) ≤ (↑(t_1.M + 1) : Int)))
 (iteB (decide (0 ≤ (↑t.M : Int) ∧ (↑t.M : Int) < (↑(subO (Int.toNat (IntKind.wrap IntKind.i64 ((↑t.M : Int) + 1))) none) : Int)))
 (iteB (decide (0 + Int.toNat (↑t.M : Int) < t_1.M + 1))
 (iteB (!(snoc t_1.M t_1.outs out77 (0 + Int.toNat (↑t.M : Int))).amount == 77) (AV.bool false = AV.bool true)
 (iteB (decide (IntKind.u8 = IntKind.u8 ∧ 0 + List.length (R t_2 false) ≤ List.length (R t_2 false)))
 (∃ (t_6 : TxS),
 (t_6.num = t.num ∧ ((t.N = t.N ∧ t_6.N = t.N) ∧ ∀ (i : Nat), i < t.N → inRows t.ins i = InS.c (t_6.ins i)) ∧ (t.M = t.M ∧ t_6.M = t.M) ∧ ∀ (i : Nat), i < t.M → outRows t.outs i = OutS.c (t_6.outs i)) ∧
 TxS.Fine t_6 ∧ iteB (decide (IntKind.u8 = IntKind.u8 ∧ 0 + List.length (R t_2 false) ≤ List.length (R t_2 false))) (strOf (List.take (List.length (R t_2 false)) (dropZ 0 (R t_2 false))) = strOf (List.take (List.length (R t_2 false)) (dropZ 0 (R t_2 false))) ∧ iteB (decide (IntKind.u8 = IntKind.u8 ∧ 0 + List.length (R t_6 false) ≤ List.length (R t_6 false))) (iteB (ByteArray.toList (strOf (List.take (List.length (R t_2 false)) (dropZ 0 (R t_2 false)))) == ByteArray.toList (strOf (List.take (List.length (R t_6 false)) (dropZ 0 (R t_6 false))))) (∃ (t_7 : TxS), (t_7.num = t.num ∧ ((t.N = t.N ∧ t_7.N = t.N) ∧ ∀ (i : Nat), i < t.N → inRows t.ins i = InS.c (t_7.ins i)) ∧ (t.M = t.M ∧ t_7.M = t.M) ∧ ∀ (i : Nat), i < t.M → outRows t.outs i = OutS.c (t_7.outs i)) ∧ TxS.Fine t_7 ∧ iteB ((A (amL t_3.outs t_3.M)).fst == U t_7) (AV.bool true = AV.bool true) (AV.bool false = AV.bool true)) (AV.bool false = AV.bool true)) False) False)
 False))
 False)
 False)
 False)
 False)
 (AV.bool false = AV.bool true))
 False)
 False)
 False)
 False)
 (AV.bool false = AV.bool true))
 False)
 False)
 (AV.bool false = AV.bool true))
 False)
 False)
 (iteB (decide (0 + t_1.N ≤ t_1.N + 1))
 ((∀ (i : Nat), i < t_1.N → true = true) ∧
 iteB (decide (0 + t_1.M ≤ t_1.M + 1))
 ((∀ (i : Nat), i < t_1.M → true = true) ∧
 ∃ (t : TxS),
 (t.num = t_1.num ∧ ((t_1.N = t_1.N ∧ t.N = t_1.N) ∧ ∀ (i : Nat), i < t_1.N → [AV.arr IntKind.u8 32 (snoc t_1.N t_1.ins in77 i).name, AV.int IntKind.i64 (snoc t_1.N t_1.ins in77 i).index, AV.int IntKind.i64 (snoc t_1.N t_1.ins in77 i).way, AV.arr IntKind.u8 32 (snoc t_1.N t_1.ins in77 i).tag, AV.arr IntKind.u8 32 (snoc t_1.N t_1.ins in77 i).also, AV.arr IntKind.u8 32 (snoc t_1.N t_1.ins in77 i).secret] = InS.c (t.ins i)) ∧ (t_1.M = t_1.M ∧ t.M = t_1.M) ∧ ∀ (i : Nat), i < t_1.M → [AV.int IntKind.i64 (snoc t_1.M t_1.outs out77 i).kind, AV.int IntKind.i64 (snoc t_1.M t_1.outs out77 i).amount, AV.arr IntKind.u8 32 (snoc t_1.M t_1.outs out77 i).owner, AV.arr IntKind.u8 32 (snoc t_1.M t_1.outs out77 i).other, AV.arr IntKind.u8 32 (snoc t_1.M t_1.outs out77 i).point, AV.arr IntKind.u8 32 (snoc t_1.M t_1.outs out77 i).hash, AV.int IntKind.i64 (snoc t_1.M t_1.outs out77 i).delay, AV.int IntKind.i64 (snoc t_1.M t_1.outs out77 i).expiry] = OutS.c (t.outs i)) ∧
 TxS.Ok t ∧ iteB (ckTx A t) (AV.bool false = AV.bool true) (AV.bool false = AV.bool true))
 False)
 False))
 (∃ (t_4 : TxS),
 (t_4.num = t.num ∧ ((t.N = t.N ∧ t_4.N = t.N) ∧ ∀ (i : Nat), i < t.N → inRows t.ins i = InS.c (t_4.ins i)) ∧ (t.M = t.M ∧ t_4.M = t.M) ∧ ∀ (i : Nat), i < t.M → outRows t.outs i = OutS.c (t_4.outs i)) ∧
 TxS.Ok t_4 ∧
 TxB t_4 ∧
 iteB (ckTx A t_4)
 (iteB (decide (0 + t_1.N ≤ t_1.N + 1))
 ((∀ (i : Nat), i < t_1.N → true = true) ∧
 iteB (decide (0 + t_1.M ≤ t_1.M + 1))
 ((∀ (i : Nat), i < t_1.M → true = true) ∧
 ∃ (t : TxS),
 (t.num = t_1.num ∧ ((t_1.N = t_1.N ∧ t.N = t_1.N) ∧ ∀ (i : Nat), i < t_1.N → [AV.arr IntKind.u8 32 (snoc t_1.N t_1.ins in77 i).name, AV.int IntKind.i64 (snoc t_1.N t_1.ins in77 i).index, AV.int IntKind.i64 (snoc t_1.N t_1.ins in77 i).way, AV.arr IntKind.u8 32 (snoc t_1.N t_1.ins in77 i).tag, AV.arr IntKind.u8 32 (snoc t_1.N t_1.ins in77 i).also, AV.arr IntKind.u8 32 (snoc t_1.N t_1.ins in77 i).secret] = InS.c (t.ins i)) ∧ (t_1.M = t_1.M ∧ t.M = t_1.M) ∧ ∀ (i : Nat), i < t_1.M → [AV.int IntKind.i64 (snoc t_1.M t_1.outs out77 i).kind, AV.int IntKind.i64 (snoc t_1.M t_1.outs out77 i).amount, AV.arr IntKind.u8 32 (snoc t_1.M t_1.outs out77 i).owner, AV.arr IntKind.u8 32 (snoc t_1.M t_1.outs out77 i).other, AV.arr IntKind.u8 32 (snoc t_1.M t_1.outs out77 i).point, AV.arr IntKind.u8 32 (snoc t_1.M t_1.outs out77 i).hash, AV.int IntKind.i64 (snoc t_1.M t_1.outs out77 i).delay, AV.int IntKind.i64 (snoc t_1.M t_1.outs out77 i).expiry] = OutS.c (t.outs i)) ∧
 TxS.Ok t ∧ iteB (ckTx A t) (AV.bool false = AV.bool true) (AV.bool false = AV.bool true))
 False)
 False)
 (iteB (decide (0 + t_1.N ≤ t_1.N + 1))
 ((∀ (i : Nat), i < t_1.N → true = true) ∧
 iteB (decide (0 + t_1.M ≤ t_1.M + 1))
 ((∀ (i : Nat), i < t_1.M → true = true) ∧
 ∃ (t : TxS),
 (t.num = t_1.num ∧ ((t_1.N = t_1.N ∧ t.N = t_1.N) ∧ ∀ (i : Nat), i < t_1.N → [AV.arr IntKind.u8 32 (snoc t_1.N t_1.ins in77 i).name, AV.int IntKind.i64 (snoc t_1.N t_1.ins in77 i).index, AV.int IntKind.i64 (snoc t_1.N t_1.ins in77 i).way, AV.arr IntKind.u8 32 (snoc t_1.N t_1.ins in77 i).tag, AV.arr IntKind.u8 32 (snoc t_1.N t_1.ins in77 i).also, AV.arr IntKind.u8 32 (snoc t_1.N t_1.ins in77 i).secret] = InS.c (t.ins i)) ∧ (t_1.M = t_1.M ∧ t.M = t_1.M) ∧ ∀ (i : Nat), i < t_1.M → [AV.int IntKind.i64 (snoc t_1.M t_1.outs out77 i).kind, AV.int IntKind.i64 (snoc t_1.M t_1.outs out77 i).amount, AV.arr IntKind.u8 32 (snoc t_1.M t_1.outs out77 i).owner, AV.arr IntKind.u8 32 (snoc t_1.M t_1.outs out77 i).other, AV.arr IntKind.u8 32 (snoc t_1.M t_1.outs out77 i).point, AV.arr IntKind.u8 32 (snoc t_1.M t_1.outs out77 i).hash, AV.int IntKind.i64 (snoc t_1.M t_1.outs out77 i).delay, AV.int IntKind.i64 (snoc t_1.M t_1.outs out77 i).expiry] = OutS.c (t.outs i)) ∧
 TxS.Ok t ∧ iteB (ckTx A t) (AV.bool false = AV.bool true) (AV.bool false = AV.bool true))
 False)
 False)))
 False)
 False)
 (iteB (decide (0 + t_1.N ≤ t_1.N + 1))
 ((∀ (i : Nat), i < t_1.N → true = true) ∧
 iteB (decide (0 + t_1.M ≤ t_1.M + 1))
 ((∀ (i : Nat), i < t_1.M → true = true) ∧
 ∃ (t_3 : TxS),
 (t_3.num = t_1.num ∧ ((t_1.N = t_1.N ∧ t_3.N = t_1.N) ∧ ∀ (i : Nat), i < t_1.N → [AV.arr IntKind.u8 32 (snoc t_1.N t_1.ins in77 i).name, AV.int IntKind.i64 (snoc t_1.N t_1.ins in77 i).index, AV.int IntKind.i64 (snoc t_1.N t_1.ins in77 i).way, AV.arr IntKind.u8 32 (snoc t_1.N t_1.ins in77 i).tag, AV.arr IntKind.u8 32 (snoc t_1.N t_1.ins in77 i).also, AV.arr IntKind.u8 32 (snoc t_1.N t_1.ins in77 i).secret] = InS.c (t_3.ins i)) ∧ (t_1.M = t_1.M ∧ t_3.M = t_1.M) ∧ ∀ (i : Nat), i < t_1.M → [AV.int IntKind.i64 (snoc t_1.M t_1.outs out77 i).kind, AV.int IntKind.i64 (snoc t_1.M t_1.outs out77 i).amount, AV.arr IntKind.u8 32 (snoc t_1.M t_1.outs out77 i).owner, AV.arr IntKind.u8 32 (snoc t_1.M t_1.outs out77 i).other, AV.arr IntKind.u8 32 (snoc t_1.M t_1.outs out77 i).point, AV.arr IntKind.u8 32 (snoc t_1.M t_1.outs out77 i).hash, AV.int IntKind.i64 (snoc t_1.M t_1.outs out77 i).delay, AV.int IntKind.i64 (snoc t_1.M t_1.outs out77 i).expiry] = OutS.c (t_3.outs i)) ∧
 TxS.Ok t_3 ∧
 iteB (ckTx A t_3)
 (∃ (t_4 : TxS),
 (t_4.num = t.num ∧ ((t.N = t.N ∧ t_4.N = t.N) ∧ ∀ (i : Nat), i < t.N → inRows t.ins i = InS.c (t_4.ins i)) ∧ (t.M = t.M ∧ t_4.M = t.M) ∧ ∀ (i : Nat), i < t.M → outRows t.outs i = OutS.c (t_4.outs i)) ∧
 TxS.Ok t_4 ∧
 TxB t_4 ∧
 iteB (ckTx A t_4)
 (iteB (decide (0 + t_1.N ≤ t_1.N + 1))
 ((∀ (i : Nat), i < t_1.N → true = true) ∧
 iteB (decide (0 + t_1.M ≤ t_1.M + 1))
 ((∀ (i : Nat), i < t_1.M → true = true) ∧
 ∃ (t : TxS),
 (t.num = t_1.num ∧ ((t_1.N = t_1.N ∧ t.N = t_1.N) ∧ ∀ (i : Nat), i < t_1.N → [AV.arr IntKind.u8 32 (snoc t_1.N t_1.ins in77 i).name, AV.int IntKind.i64 (snoc t_1.N t_1.ins in77 i).index, AV.int IntKind.i64 (snoc t_1.N t_1.ins in77 i).way, AV.arr IntKind.u8 32 (snoc t_1.N t_1.ins in77 i).tag, AV.arr IntKind.u8 32 (snoc t_1.N t_1.ins in77 i).also, AV.arr IntKind.u8 32 (snoc t_1.N t_1.ins in77 i).secret] = InS.c (t.ins i)) ∧ (t_1.M = t_1.M ∧ t.M = t_1.M) ∧ ∀ (i : Nat), i < t_1.M → [AV.int IntKind.i64 (snoc t_1.M t_1.outs out77 i).kind, AV.int IntKind.i64 (snoc t_1.M t_1.outs out77 i).amount, AV.arr IntKind.u8 32 (snoc t_1.M t_1.outs out77 i).owner, AV.arr IntKind.u8 32 (snoc t_1.M t_1.outs out77 i).other, AV.arr IntKind.u8 32 (snoc t_1.M t_1.outs out77 i).point, AV.arr IntKind.u8 32 (snoc t_1.M t_1.outs out77 i).hash, AV.int IntKind.i64 (snoc t_1.M t_1.outs out77 i).delay, AV.int IntKind.i64 (snoc t_1.M t_1.outs out77 i).expiry] = OutS.c (t.outs i)) ∧
 TxS.Ok t ∧ iteB (ckTx A t) (AV.bool false = AV.bool true) (AV.bool false = AV.bool true))
 False)
 False)
 (iteB (decide (0 + t_1.N ≤ t_1.N + 1))
 ((∀ (i : Nat), i < t_1.N → true = true) ∧
 iteB (decide (0 + t_1.M ≤ t_1.M + 1))
 ((∀ (i : Nat), i < t_1.M → true = true) ∧
 ∃ (t : TxS),
 (t.num = t_1.num ∧ ((t_1.N = t_1.N ∧ t.N = t_1.N) ∧ ∀ (i : Nat), i < t_1.N → [AV.arr IntKind.u8 32 (snoc t_1.N t_1.ins in77 i).name, AV.int IntKind.i64 (snoc t_1.N t_1.ins in77 i).index, AV.int IntKind.i64 (snoc t_1.N t_1.ins in77 i).way, AV.arr IntKind.u8 32 (snoc t_1.N t_1.ins in77 i).tag, AV.arr IntKind.u8 32 (snoc t_1.N t_1.ins in77 i).also, AV.arr IntKind.u8 32 (snoc t_1.N t_1.ins in77 i).secret] = InS.c (t.ins i)) ∧ (t_1.M = t_1.M ∧ t.M = t_1.M) ∧ ∀ (i : Nat), i < t_1.M → [AV.int IntKind.i64 (snoc t_1.M t_1.outs out77 i).kind, AV.int IntKind.i64 (snoc t_1.M t_1.outs out77 i).amount, AV.arr IntKind.u8 32 (snoc t_1.M t_1.outs out77 i).owner, AV.arr IntKind.u8 32 (snoc t_1.M t_1.outs out77 i).other, AV.arr IntKind.u8 32 (snoc t_1.M t_1.outs out77 i).point, AV.arr IntKind.u8 32 (snoc t_1.M t_1.outs out77 i).hash, AV.int IntKind.i64 (snoc t_1.M t_1.outs out77 i).delay, AV.int IntKind.i64 (snoc t_1.M t_1.outs out77 i).expiry] = OutS.c (t.outs i)) ∧
 TxS.Ok t ∧ iteB (ckTx A t) (AV.bool false = AV.bool true) (AV.bool false = AV.bool true))
 False)
 False))
 (∃ (t_4 : TxS),
 (t_4.num = t.num ∧ ((t.N = t.N ∧ t_4.N = t.N) ∧ ∀ (i : Nat), i < t.N → inRows t.ins i = InS.c (t_4.ins i)) ∧ (t.M = t.M ∧ t_4.M = t.M) ∧ ∀ (i : Nat), i < t.M → outRows t.outs i = OutS.c (t_4.outs i)) ∧
 TxS.Ok t_4 ∧
 TxB t_4 ∧
 iteB (ckTx A t_4)
 (iteB (decide (0 + t_1.N ≤ t_1.N + 1))
 ((∀ (i : Nat), i < t_1.N → true = true) ∧
 iteB (decide (0 + t_1.M ≤ t_1.M + 1))
 ((∀ (i : Nat), i < t_1.M → true = true) ∧
 ∃ (t : TxS),
 (t.num = t_1.num ∧ ((t_1.N = t_1.N ∧ t.N = t_1.N) ∧ ∀ (i : Nat), i < t_1.N → [AV.arr IntKind.u8 32 (snoc t_1.N t_1.ins in77 i).name, AV.int IntKind.i64 (snoc t_1.N t_1.ins in77 i).index, AV.int IntKind.i64 (snoc t_1.N t_1.ins in77 i).way, AV.arr IntKind.u8 32 (snoc t_1.N t_1.ins in77 i).tag, AV.arr IntKind.u8 32 (snoc t_1.N t_1.ins in77 i).also, AV.arr IntKind.u8 32 (snoc t_1.N t_1.ins in77 i).secret] = InS.c (t.ins i)) ∧ (t_1.M = t_1.M ∧ t.M = t_1.M) ∧ ∀ (i : Nat), i < t_1.M → [AV.int IntKind.i64 (snoc t_1.M t_1.outs out77 i).kind, AV.int IntKind.i64 (snoc t_1.M t_1.outs out77 i).amount, AV.arr IntKind.u8 32 (snoc t_1.M t_1.outs out77 i).owner, AV.arr IntKind.u8 32 (snoc t_1.M t_1.outs out77 i).other, AV.arr IntKind.u8 32 (snoc t_1.M t_1.outs out77 i).point, AV.arr IntKind.u8 32 (snoc t_1.M t_1.outs out77 i).hash, AV.int IntKind.i64 (snoc t_1.M t_1.outs out77 i).delay, AV.int IntKind.i64 (snoc t_1.M t_1.outs out77 i).expiry] = OutS.c (t.outs i)) ∧
 TxS.Ok t ∧ iteB (ckTx A t) (AV.bool false = AV.bool true) (AV.bool false = AV.bool true))
 False)
 False)
 (iteB (decide (0 + t_1.N ≤ t_1.N + 1))
 ((∀ (i : Nat), i < t_1.N → true = true) ∧
 iteB (decide (0 + t_1.M ≤ t_1.M + 1))
 ((∀ (i : Nat), i < t_1.M → true = true) ∧
 ∃ (t_5 : TxS),
 (t_5.num = t_1.num ∧ ((t_1.N = t_1.N ∧ t_5.N = t_1.N) ∧ ∀ (i : Nat), i < t_1.N → [AV.arr IntKind.u8 32 (snoc t_1.N t_1.ins in77 i).name, AV.int IntKind.i64 (snoc t_1.N t_1.ins in77 i).index, AV.int IntKind.i64 (snoc t_1.N t_1.ins in77 i).way, AV.arr IntKind.u8 32 (snoc t_1.N t_1.ins in77 i).tag, AV.arr IntKind.u8 32 (snoc t_1.N t_1.ins in77 i).also, AV.arr IntKind.u8 32 (snoc t_1.N t_1.ins in77 i).secret] = InS.c (t_5.ins i)) ∧ (t_1.M = t_1.M ∧ t_5.M = t_1.M) ∧ ∀ (i : Nat), i < t_1.M → [AV.int IntKind.i64 (snoc t_1.M t_1.outs out77 i).kind, AV.int IntKind.i64 (snoc t_1.M t_1.outs out77 i).amount, AV.arr IntKind.u8 32 (snoc t_1.M t_1.outs out77 i).owner, AV.arr IntKind.u8 32 (snoc t_1.M t_1.outs out77 i).other, AV.arr IntKind.u8 32 (snoc t_1.M t_1.outs out77 i).point, AV.arr IntKind.u8 32 (snoc t_1.M t_1.outs out77 i).hash, AV.int IntKind.i64 (snoc t_1.M t_1.outs out77 i).delay, AV.int IntKind.i64 (snoc t_1.M t_1.outs out77 i).expiry] = OutS.c (t_5.outs i)) ∧
 TxS.Ok t_5 ∧
 iteB (ckTx A t_5) (AV.bool false = AV.bool true)
 (iteB (decide (0 + t_1.N ≤ t_1.N + 1))
 ((∀ (i : Nat), i < t_1.N → true = true) ∧
 iteB (decide (0 + t_1.M ≤ t_1.M + 1))
 ((∀ (i : Nat), i < t_1.M → true = true) ∧
 ∃ (a : TxS),
 ∃ (b : TxS),
 (a.num = t_1.num ∧ ((t_1.N = t_1.N ∧ a.N = t_1.N) ∧ ∀ (i : Nat), i < t_1.N → [AV.arr IntKind.u8 32 (snoc t_1.N t_1.ins in77 i).name, AV.int IntKind.i64 (snoc t_1.N t_1.ins in77 i).index, AV.int IntKind.i64 (snoc t_1.N t_1.ins in77 i).way, AV.arr IntKind.u8 32 (snoc t_1.N t_1.ins in77 i).tag, AV.arr IntKind.u8 32 (snoc t_1.N t_1.ins in77 i).also, AV.arr IntKind.u8 32 (snoc t_1.N t_1.ins in77 i).secret] = InS.c (a.ins i)) ∧ (t_1.M = t_1.M ∧ a.M = t_1.M) ∧ ∀ (i : Nat), i < t_1.M → [AV.int IntKind.i64 (snoc t_1.M t_1.outs out77 i).kind, AV.int IntKind.i64 (snoc t_1.M t_1.outs out77 i).amount, AV.arr IntKind.u8 32 (snoc t_1.M t_1.outs out77 i).owner, AV.arr IntKind.u8 32 (snoc t_1.M t_1.outs out77 i).other, AV.arr IntKind.u8 32 (snoc t_1.M t_1.outs out77 i).point, AV.arr IntKind.u8 32 (snoc t_1.M t_1.outs out77 i).hash, AV.int IntKind.i64 (snoc t_1.M t_1.outs out77 i).delay, AV.int IntKind.i64 (snoc t_1.M t_1.outs out77 i).expiry] = OutS.c (a.outs i)) ∧
 (b.num = t.num ∧ ((t.N = t.N ∧ b.N = t.N) ∧ ∀ (i : Nat), i < t.N → inRows t.ins i = InS.c (b.ins i)) ∧ (t.M = t.M ∧ b.M = t.M) ∧ ∀ (i : Nat), i < t.M → outRows t.outs i = OutS.c (b.outs i)) ∧
 (TxS.Ok a ∧ TxS.Ok b) ∧
 iteB (S a b)
 (iteB (decide (t_1.N ≤ t_1.N + 1))
 (iteB (decide (0 ≤ IntKind.wrap IntKind.i64 ((↑t.N : Int) + 1) ∧ IntKind.wrap IntKind.i64 ((↑t.N : Int) + 1) ≤ (↑(t_1.N + 1) : Int))) (iteB (decide (0 ≤ (↑t.N : Int) ∧ (↑t.N : Int) < (↑(subO (Int.toNat (IntKind.wrap IntKind.i64 ((↑t.N : Int) + 1))) none) : Int))) (iteB (decide (0 + Int.toNat (↑t.N : Int) < t_1.N + 1)) (iteB ((snoc t_1.N t_1.ins in77 (0 + Int.toNat (↑t.N : Int))).index == 77) (iteB (decide (t_1.M ≤ t_1.M + 1)) (iteB (decide (0 ≤ IntKind.wrap IntKind.i64 ((↑t.M : Int) + 1) ∧ IntKind.wrap IntKind.i64 ((↑t.M : Int) + 1) ≤ (↑(t_1.M + 1) : Int))) (iteB (decide (0 ≤ (↑t.M : Int) ∧ (↑t.M : Int) < (↑(subO (Int.toNat (IntKind.wrap IntKind.i64 ((↑t.M : Int) + 1))) none) : Int))) (iteB (decide (0 + Int.toNat (↑t.M : Int) < t_1.M + 1)) (iteB (!(snoc t_1.M t_1.outs out77 (0 + Int.toNat (↑t.M : Int))).amount == 77) (AV.bool false = AV.bool true) (AV.bool true = AV.bool true)) False) False) False) False) (AV.bool false = AV.bool true)) False) False) False) False)
 (AV.bool false = AV.bool true))
 False)
 False))
 False)
 False)))
 False)
 False))
 False)
 False))
 (AV.bool true = AV.bool true)) (by kernel_rfl) ?_
  try simp only [need_eq]
  try simp only [nope_eq]
  try simp only [iteD_eq]
  try simp only [iteT_eq]
  try simp only [iteF_eq]
  try simp only [iteE_eq]
  try simp only [Int.toNat_natCast, Nat.zero_add, true_and, and_true, Nat.le_refl]
  refine ⟨fun h1 => ⟨fun h2 => trivial, fun h2 => ?_⟩, fun h1 => trivial⟩
  have ht := hok (by omega) (by simp at h2; omega)
  have hi : ∀ i, i < t.N → snoc t.N t.ins in77 i = t.ins i := fun i h => by unfold snoc; rw [if_neg (by omega)]
  have ho : ∀ i, i < t.M → snoc t.M t.outs out77 i = t.outs i := fun i h => by unfold snoc; rw [if_neg (by omega)]
  have hi' : snoc t.N t.ins in77 t.N = in77 := by unfold snoc; rw [if_pos rfl]
  have ho' : snoc t.M t.outs out77 t.M = out77 := by unfold snoc; rw [if_pos rfl]
  have h3 : t.M ≤ 30 := by simp at h2; omega
  have w1 : IntKind.i64.wrap ((t.N : Int) + 1) = ((t.N + 1 : Nat) : Int) := w64 (by omega)
  have w2 : IntKind.i64.wrap ((t.M : Int) + 1) = ((t.M + 1 : Nat) : Int) := w64 (by omega)
  have hA' := hA ht
  have hR' := hR t
  have hU' := hU t
  repeat' (first | (refine And.intro ?_ ?_) | intro _ | (refine Exists.intro t ?_))
  all_goals first | omega | trivial | assumption | (exact hA' ‹_›) | (rw [hi _ ‹_›]; rfl) | (rw [ho _ ‹_›]; rfl) | (simp only [w1, w2, subO_none, Int.toNat_natCast]; omega) | (simp_all [in77, out77, subO_none]; done) | skip
end Go.Tk
end
section
namespace Go.Tk
theorem txraws_walk {us : List AV} (h : FitsL [(true, txTy)] us) : CallsA PP 8 us ⟨0, []⟩ fun o h' => ∃ v, o = .ret v ∧ h' = ⟨0, []⟩ ∧ v = .bool true := by
  cases h with | cons _ _ a _ _ h1 h =>
  cases h
  obtain ⟨l, t, rfl, t1, t2, t3⟩ := fits_tx h1
  have hc := outV_ev (h := ⟨0, []⟩) E51_ok rfl (txraws_1 sameT (rawT numW) addM (fun t => sumO t t.M) t t2 t3.b sameT_refl ckTx_fine (fun _ hf => Nat.le_trans (rawO_len hf false (Nat.le_refl _)) (by omega)) fun _ h => sum_add h) (fun u hu => hu)
  exact CallsA.conv hc fun E rs hr => hr.head (fun _ hc => t1.rel hc) (fun _ hc => hc)
end Go.Tk
namespace Go.Proofs.YtmfcmlajhaedgaaGreat.txRaws
open Go.ChangeShapes Go.WideShapes Go.ChangeAt Go.RowKit
theorem own : ownKnob Tryz.prog.godebug = none := by kernel_rfl
theorem laidOut : laidOutB Tryz.prog = true := by kernel_rfl
set_option maxRecDepth 100000 in
theorem lifted (os : Os) (started : os.Started) (H : Type) (enc : TypeId × Value → H) :
    ReturnsInHanded {} Tryz.checked os 8 .any (Rows.txRawsSpec.pre6 enc Tryz.prog Tryz.f8 Rows.txRawsRow.domain false) (Rows.txRawsSpec.post enc Tryz.prog Tryz.f8 false true false false) :=
  Go.Tk.lifted_gen (C := Tryz.checked) (m := 8) (τs := [(true, Go.Tk.txTy)]) own laidOut started (by kernel_rfl) Tryz.func8
    (ChangeSpec.witness6 (enc := enc) (C := Tryz.checked) false ⟨#[], #[.agg #[.int .i64 0, .slice none 0 0, .slice none 0 0]], []⟩ 8 (by kernel_rfl) (by kernel_rfl) (by kernel_rfl) (by kernel_rfl))
    rfl (tb := 4) rfl Tryz.underlying4 (by kernel_rfl) (by kernel_rfl) (fun ds h => by
      match ds, h with
      | [a], _ => rfl) fun us h => Go.Tk.txraws_walk h
theorem over : Rows.txRawsRow.holds Tryz.pinned (OpenSpec.ofChange Rows.txRawsSpec) :=
  OpenClaim.holds_of_wide 8 Tryz.f8 rfl rfl rfl rfl rfl rfl rfl ⟨rfl, rfl, rfl, rfl, rfl⟩ rfl rfl rfl rfl rfl (by kernel_rfl) Tryz.func8 (by kernel_rfl)
    (of_decide_eq_true (by kernel_rfl)) (by unfold Func.isWrapper; first | (rw [if_pos (by decide +kernel)]; kernel_rfl) | (rw [if_neg (by decide +kernel)]; exact ⟨rfl, rfl⟩))
    (fun os started H enc _ => lifted os started H enc)
theorem proved : Rows.TxRawsSaid := over
end Go.Proofs.YtmfcmlajhaedgaaGreat.txRaws
end
