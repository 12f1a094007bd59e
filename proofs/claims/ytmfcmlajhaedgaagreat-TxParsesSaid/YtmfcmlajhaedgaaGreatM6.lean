/- M: part 6 of an engine (a symbolic evaluator, proved against the model) and of the walk by it. -/
import Derived.Test.YtmfcmlajhaedgaaGreatM5
import Derived.Below
import Derived.Test.YtmfcmlajhaedgaaGreatRows
import Derived.WalkKit
import Derived.ProofKit
import Derived.OpenShut
import Derived.ShutString
import Derived.ChangeOld
set_option linter.unusedVariables false
set_option linter.unusedSimpArgs false
section
namespace Go.Tk
def worksS : PSumm := fun args _ K => match args with
  | [] => K (.bool true)
  | _ => False
theorem worksS_ok (args : List AV) (h : Heap) (K : AV → Prop) (hl : worksS args h K) : CallsA PP 10 args h fun o h' => ∃ v, o = .ret v ∧ h' = h ∧ K v := by
  unfold worksS at hl
  split at hl
  · exact works_calls h K hl
  · exact hl.elim
noncomputable def E41 (P : List Int → Option TxS) (S : TxS → TxS → Bool) : Env2 := (((G0.withP 10 worksS).withP 13 (sametS S)).withF 11 (parseS P)).withF 12 (parserS P)
def zTx : TxS := ⟨0, 0, fun _ => inZ, 0, fun _ => outZ⟩
theorem zTx_ok : zTx.Ok := ⟨by show 0 < _; omega, by show 0 < _; omega, fun _ _ => inZ_ok, fun _ _ => outZ_ok⟩
theorem sameT_refl (t : TxS) : sameT t t = true := by
  unfold sameT eqiL eqoL
  have e1 : (List.range t.N).all (fun i => eqIn (t.ins i) (t.ins i)) = true := by
    rw [List.all_eq_true]; intro j _; simp [eqIn]
  have e2 : (List.range t.M).all (fun i => eqOut (t.outs i) (t.outs i)) = true := by
    rw [List.all_eq_true]; intro j _; simp [eqOut]
  rw [e1, e2]; simp
theorem parserT_ok (args : List AV) (h : Heap) (K : KO) (hl : parserS (parseT (firstB numW) addM) args h K) : CallsA PP 12 args h K := by
  have e : parseRT (firstB numW) addM = parseT (firstB numW) addM := funext fun xs => parseRT_eq _ xs
  rw [← e] at hl
  exact parserS_ok _ _ _ hl
theorem E41_ok : (E41 (parseT (firstB numW) addM) sameT).Ok := Env2.withF_ok (Env2.withF_ok (Env2.withP_ok (Env2.withP_ok G0_ok worksS_ok) samer_ok) parseS_ok) parserT_ok
set_option maxRecDepth 100000 in
set_option maxHeartbeats 0 in
theorem txparses_1 (P : List Int → Option TxS) (S : TxS → TxS → Bool) (xs : List Int) (n : Nat) (hn : xs.length = n) (hb : Bytes xs) (hS : ∀ t : TxS, S t t = true) :
    evF (E41 P S) 20 3 [.vints .u8 xs n] ⟨0, []⟩ (outV (fun v => v = .bool true)) := by
  refine @Eq.mpr _ (let q1 := AV.bool true;
 let q2 := q1 = q1;
 let q3 := [] ++ List.take n xs;
 let q4 := List.length q3;
 let q5 := q3 ++ [(77 : Int)];
 let q6 := List.length q5;
 let q7 := subO (Int.toNat (↑n : Int)) none;
 let q8 := List.take q7 (dropZ 0 q5);
 let q9 := P q8;
 let q10 := List.length xs = n ∧ Bytes xs;
 let q11 := decide (IntKind.u8 = IntKind.u8 ∧ 0 + q7 ≤ q6);
 let q12 := ByteArray.toList (strOf q8) == ByteArray.toList (strOf (List.take n xs));
 let q13 := subO q6 none;
 let q14 := decide (q7 ≤ q13);
 let q15 := IntKind.wrap IntKind.i64 ((↑n : Int) + 1);
 let q16 := decide (0 ≤ q15 ∧ q15 ≤ (↑q13 : Int));
 let q17 := decide (0 ≤ (↑n : Int) ∧ (↑n : Int) < (↑(subO (Int.toNat q15) none) : Int));
 let q18 := 0 + Int.toNat (↑n : Int);
 let q19 := List.getD q5 q18 0 == 77;
 let q20 := AV.bool false = q1;
 iteB (decide ((↑n : Int) > 3000)) q2
 (iteB (decide (q4 * 1 ≤ 140737488355328))
 (iteB (decide (IntKind.u8 = IntKind.u8 ∧ q4 = q4))
 (iteB (decide (q6 * 1 ≤ 140737488355328))
 (iteB (decide (q6 ≤ q6))
 (iteB (decide (0 ≤ (↑n : Int) ∧ (↑n : Int) ≤ (↑q6 : Int)))
 (iteB (decide (0 + q7 ≤ q6))
 (iteB (decide (List.length q8 = q7 ∧ q7 < 90000000000000))
 ((∀ (t : TxS),
 let q41 := t.N;
 let q42 := decide (0 + q41 ≤ q41);
 let q43 := t.M;
 let q44 := decide (0 + q43 ≤ q43);
 q9 = some t →
 TxS.Ok t →
 q10 ∧
 (∀ (t_1 : TxS),
 let q49 := t_1.N;
 let q50 := t_1.M;
 P xs = some t_1 →
 TxS.Ok t_1 →
 TxB t_1 →
 iteB q11
 (iteB q12
 (iteB q14
 (iteB q16
 (iteB q17
 (iteB (decide (q18 < q6))
 (iteB q19
 (iteB q42
 ((∀ (i : Nat), i < q41 → true = true) ∧
 iteB q44
 ((∀ (i : Nat), i < q43 → true = true) ∧
 iteB (decide (0 + q49 ≤ q49))
 ((∀ (i : Nat), i < q49 → true = true) ∧
 iteB (decide (0 + q50 ≤ q50))
 ((∀ (i : Nat), i < q50 → true = true) ∧
 ∃ (a : TxS),
 ∃ (b : TxS),
 (a.num = t.num ∧
 ((q41 = q41 ∧ a.N = q41) ∧
 ∀ (i : Nat),
 let q53 := t.ins i;
 i < q41 → [AV.arr IntKind.u8 32 q53.name, AV.int IntKind.i64 q53.index, AV.int IntKind.i64 q53.way, AV.arr IntKind.u8 32 q53.tag, AV.arr IntKind.u8 32 q53.also, AV.arr IntKind.u8 32 q53.secret] = InS.c (a.ins i)) ∧
 (q43 = q43 ∧ a.M = q43) ∧
 ∀ (i : Nat),
 let q53 := t.outs i;
 i < q43 → [AV.int IntKind.i64 q53.kind, AV.int IntKind.i64 q53.amount, AV.arr IntKind.u8 32 q53.owner, AV.arr IntKind.u8 32 q53.other, AV.arr IntKind.u8 32 q53.point, AV.arr IntKind.u8 32 q53.hash, AV.int IntKind.i64 q53.delay, AV.int IntKind.i64 q53.expiry] = OutS.c (a.outs i)) ∧
 (b.num = t_1.num ∧
 ((q49 = q49 ∧ b.N = q49) ∧
 ∀ (i : Nat),
 let q53 := t_1.ins i;
 i < q49 → [AV.arr IntKind.u8 32 q53.name, AV.int IntKind.i64 q53.index, AV.int IntKind.i64 q53.way, AV.arr IntKind.u8 32 q53.tag, AV.arr IntKind.u8 32 q53.also, AV.arr IntKind.u8 32 q53.secret] = InS.c (b.ins i)) ∧
 (q50 = q50 ∧ b.M = q50) ∧
 ∀ (i : Nat),
 let q53 := t_1.outs i;
 i < q50 → [AV.int IntKind.i64 q53.kind, AV.int IntKind.i64 q53.amount, AV.arr IntKind.u8 32 q53.owner, AV.arr IntKind.u8 32 q53.other, AV.arr IntKind.u8 32 q53.point, AV.arr IntKind.u8 32 q53.hash, AV.int IntKind.i64 q53.delay, AV.int IntKind.i64 q53.expiry] = OutS.c (b.outs i)) ∧
 (TxS.Ok a ∧ TxS.Ok b) ∧ iteB (S a b) q2 q20)
 False)
 False)
 False)
 False)
 q20)
 False)
 False)
 False)
 False)
 q20)
 False) ∧
 (P xs = none →
 iteB q11
 (iteB q12
 (iteB q14
 (iteB q16
 (iteB q17
 (iteB (decide (q18 < q6))
 (iteB q19
 (iteB q42
 ((∀ (i : Nat), i < q41 → true = true) ∧
 iteB q44
 ((∀ (i : Nat), i < q43 → true = true) ∧
 ∃ (a : TxS),
 ∃ (b : TxS),
 (a.num = t.num ∧
 ((q41 = q41 ∧ a.N = q41) ∧
 ∀ (i : Nat),
 let q49 := t.ins i;
 i < q41 → [AV.arr IntKind.u8 32 q49.name, AV.int IntKind.i64 q49.index, AV.int IntKind.i64 q49.way, AV.arr IntKind.u8 32 q49.tag, AV.arr IntKind.u8 32 q49.also, AV.arr IntKind.u8 32 q49.secret] = InS.c (a.ins i)) ∧
 (q43 = q43 ∧ a.M = q43) ∧
 ∀ (i : Nat),
 let q49 := t.outs i;
 i < q43 → [AV.int IntKind.i64 q49.kind, AV.int IntKind.i64 q49.amount, AV.arr IntKind.u8 32 q49.owner, AV.arr IntKind.u8 32 q49.other, AV.arr IntKind.u8 32 q49.point, AV.arr IntKind.u8 32 q49.hash, AV.int IntKind.i64 q49.delay, AV.int IntKind.i64 q49.expiry] = OutS.c (a.outs i)) ∧
 (b.num = 0 ∧ b.N = 0 ∧ b.M = 0) ∧ (TxS.Ok a ∧ TxS.Ok b) ∧ iteB (S a b) q20 q20)
 False)
 False)
 q20)
 False)
 False)
 False)
 False)
 q20)
 False)) ∧
 (q9 = none →
 q10 ∧
 (∀ (t : TxS),
 let q41 := t.N;
 let q42 := t.M;
 P xs = some t →
 TxS.Ok t →
 TxB t →
 iteB q11
 (iteB q12
 (iteB q14
 (iteB q16
 (iteB q17
 (iteB (decide (q18 < q6))
 (iteB q19
 (iteB (decide (0 + q41 ≤ q41))
 ((∀ (i : Nat), i < q41 → true = true) ∧
 iteB (decide (0 + q42 ≤ q42))
 ((∀ (i : Nat), i < q42 → true = true) ∧
 ∃ (a : TxS),
 ∃ (b : TxS),
 (a.num = 0 ∧ a.N = 0 ∧ a.M = 0) ∧
 (b.num = t.num ∧
 ((q41 = q41 ∧ b.N = q41) ∧
 ∀ (i : Nat),
 let q45 := t.ins i;
 i < q41 → [AV.arr IntKind.u8 32 q45.name, AV.int IntKind.i64 q45.index, AV.int IntKind.i64 q45.way, AV.arr IntKind.u8 32 q45.tag, AV.arr IntKind.u8 32 q45.also, AV.arr IntKind.u8 32 q45.secret] = InS.c (b.ins i)) ∧
 (q42 = q42 ∧ b.M = q42) ∧
 ∀ (i : Nat),
 let q45 := t.outs i;
 i < q42 → [AV.int IntKind.i64 q45.kind, AV.int IntKind.i64 q45.amount, AV.arr IntKind.u8 32 q45.owner, AV.arr IntKind.u8 32 q45.other, AV.arr IntKind.u8 32 q45.point, AV.arr IntKind.u8 32 q45.hash, AV.int IntKind.i64 q45.delay, AV.int IntKind.i64 q45.expiry] = OutS.c (b.outs i)) ∧
 (TxS.Ok a ∧ TxS.Ok b) ∧ iteB (S a b) q20 q20)
 False)
 False)
 q20)
 False)
 False)
 False)
 False)
 q20)
 False) ∧
 (P xs = none → iteB q11 (iteB q12 (iteB q14 (iteB q16 (iteB q17 (iteB (decide (q18 < q6)) (iteB q19 (∃ (a : TxS), ∃ (b : TxS), (a.num = 0 ∧ a.N = 0 ∧ a.M = 0) ∧ (b.num = 0 ∧ b.N = 0 ∧ b.M = 0) ∧ (TxS.Ok a ∧ TxS.Ok b) ∧ iteB (S a b) q2 q20) q20) False) False) False) False) q20) False)))
 False)
 False)
 False)
 False)
 False)
 False)
 False)) (by kernel_rfl) ?_
  conv => zeta
  subst hn
  have e0 : ([] ++ List.take xs.length xs ++ [77] : List Int) = xs ++ [77] := by simp
  have e1 : subO (Int.toNat (xs.length : Int)) none = xs.length := rfl
  have e2 : List.take xs.length (dropZ 0 (xs ++ [77])) = xs := by simp [dropZ]
  have e3 : List.take xs.length xs = xs := by simp
  have e4 : (xs ++ [77] : List Int).length = xs.length + 1 := by simp
  have e5 : ([] ++ xs : List Int) = xs := rfl
  have e6 : (xs ++ [77] : List Int).getD (0 + Int.toNat (xs.length : Int)) 0 = 77 := by simp
  simp only [e0, e1, e2, e3, e4, e5, e6]
  cases hP : P xs with
  | none =>
    try simp only [need_eq]
    try simp only [nope_eq]
    try simp only [iteD_eq]
    try simp only [iteT_eq]
    try simp only [iteF_eq]
    try simp only [iteE_eq]
    try simp only [Int.toNat_natCast, Nat.zero_add, true_and, and_true, Nat.le_refl]
    have hs : ((strOf xs).toList == (strOf xs).toList) = true := beq_self_eq_true _
    refine ⟨fun _ => trivial, fun hl => ?_⟩
    have hw : IntKind.i64.wrap ((xs.length : Int) + 1) = ((xs.length + 1 : Nat) : Int) := w64 (by omega)
    have hk : subO (xs.length + 1) none = xs.length + 1 := rfl
    have h77 : ((77 : Int) == 77) = true := rfl
    simp only [hw, hk, hs, h77, Int.toNat_natCast, forall_const, Bool.true_eq_false, false_imp_iff, and_true, true_and, reduceCtorEq, Option.some.injEq]
    refine ⟨by omega, by omega, ⟨by omega, by omega⟩, by omega, by omega, ?_⟩
    exact ⟨fun _ => trivial, hb, fun _ => trivial, by omega, by omega, ⟨by omega, by omega⟩, ⟨by omega, by omega⟩, by omega, zTx, zTx, ⟨rfl, rfl, rfl⟩, ⟨rfl, rfl, rfl⟩, ⟨zTx_ok, zTx_ok⟩, fun _ => trivial, fun h => by rw [hS] at h; cases h⟩
  | some t =>
    try simp only [need_eq]
    try simp only [nope_eq]
    try simp only [iteD_eq]
    try simp only [iteT_eq]
    try simp only [iteF_eq]
    try simp only [iteE_eq]
    try simp only [Int.toNat_natCast, Nat.zero_add, true_and, and_true, Nat.le_refl]
    have hs : ((strOf xs).toList == (strOf xs).toList) = true := beq_self_eq_true _
    refine ⟨fun _ => trivial, fun hl => ?_⟩
    have hw : IntKind.i64.wrap ((xs.length : Int) + 1) = ((xs.length + 1 : Nat) : Int) := w64 (by omega)
    have hk : subO (xs.length + 1) none = xs.length + 1 := rfl
    have h77 : ((77 : Int) == 77) = true := rfl
    simp only [hw, hk, hs, h77, Int.toNat_natCast, forall_const, Bool.true_eq_false, false_imp_iff, and_true, true_and, reduceCtorEq, Option.some.injEq]
    refine ⟨by omega, by omega, ⟨by omega, by omega⟩, by omega, by omega, ?_⟩
    intro t1 e1 ho
    subst e1
    refine ⟨hb, ?_⟩
    intro t2 e2 ho2 _
    subst e2
    exact ⟨by omega, by omega, ⟨by omega, by omega⟩, ⟨by omega, by omega⟩, by omega, fun _ _ => trivial, fun _ _ => trivial, fun _ _ => trivial, fun _ _ => trivial, t, t, ⟨rfl, ⟨rfl, fun _ _ => rfl⟩, rfl, fun _ _ => rfl⟩, ⟨rfl, ⟨rfl, fun _ _ => rfl⟩, rfl, fun _ _ => rfl⟩, ⟨ho, ho⟩, fun _ => trivial, fun h => by rw [hS] at h; cases h⟩
theorem txparses_calls (xs : List Int) (n : Nat) (hn : xs.length = n) (hb : Bytes xs) (h : Heap) (K : AV → Prop) (hK : K (.bool true)) : CallsA PP 3 [.vints .u8 xs n] h fun o h' => ∃ v, o = .ret v ∧ h' = h ∧ K v :=
  outV_ev E41_ok rfl (txparses_1 _ _ xs n hn hb sameT_refl) (fun u hu => hu ▸ hK)
end Go.Tk
end
section
namespace Go.Tk
def topE (w : World) : Env := ⟨fun _ => none, fun a c => w.cell? a = some c⟩
theorem topE_emb (w : World) : Emb (topE w) ⟨0, []⟩ w where
  fresh := fun _ _ => rfl
  lt := fun x B h => by simp [Heap.get, getB] at h
  own := fun x B h => by simp [Heap.get, getB] at h
  disj := fun x y B B' b N N' h => absurd h (by simp [Heap.get, getB])
  imm := fun _ _ h => h
  sep := fun a c x B N _ h => absurd h (by simp [Heap.get, getB])
theorem CallsA.top {P : Program} {f : FuncId} {args : List AV} {K : AV → Prop} (h : CallsA P f args ⟨0, []⟩ fun o h' => ∃ v, o = .ret v ∧ h' = ⟨0, []⟩ ∧ K v) {w : World} {rs : List Value} (hl : LRel (topE w) args rs) (hK : ∀ v, K v → v = .bool true) :
    Calls P f rs.toArray w fun e w' => e = .returned (.bool true) ∧ Go.RowKit.Below w.heap.size w w' := by
  refine (h (topE w) w rs (topE_emb w) hl).mono ?_
  rintro e w' ⟨E', o, h', ⟨v, rfl, rfl, hv⟩, hev, hor⟩
  obtain rfl := hK v hv
  cases hor with
  | ret v r hr =>
    cases hr
    refine ⟨rfl, hev.os, hev.tape, hev.output, hev.size, fun k hk => hev.keep k hk ?_⟩
    rintro ⟨x, B, N, hx, _⟩
    exact absurd hx (by simp [Heap.get, getB])
theorem bytes_top {w : World} {a : Option Addr} {len cap : Nat} {zs : List Int} (h : (a = none ∧ len = 0 ∧ cap = 0 ∧ zs = []) ∨
    ∃ x, a = some x ∧ len ≤ cap ∧ cap ≤ maxLen ∧ zs.length = cap ∧ (∀ i, i < zs.length → w.cell? (x.add i) = some (.int .u8 (zs.getD i 0))) ∧ ∀ n ∈ zs, (Lit.int .u8 n).wf = true) :
    ∃ xs : List Int, xs.length = len ∧ Bytes xs ∧ VRel (topE w) (.vints .u8 xs len) (.slice a len cap) := by
  rcases h with ⟨rfl, rfl, rfl, rfl⟩ | ⟨x, rfl, h1, h2, h3, h4, h5⟩
  · exact ⟨[], rfl, ⟨fun i => by simp⟩, .vintsNil _ _ _ rfl rfl⟩
  · refine ⟨zs.take len, by rw [List.length_take]; omega, ⟨fun i => ?_⟩, .vints _ _ _ _ _ (by rw [List.length_take]; omega) (by rw [List.length_take]; omega) fun i hi => ?_⟩
    · rw [List.getD_eq_getElem?_getD, List.getElem?_take]
      split
      · by_cases hz : i < zs.length
        · rw [List.getElem?_eq_getElem hz]
          have := h5 zs[i] (List.getElem_mem hz)
          simp [Lit.wf] at this
          have m1 : IntKind.u8.min = 0 := rfl
          have m2 : IntKind.u8.max = 255 := rfl
          simp
          omega
        · rw [List.getElem?_eq_none (by omega)]; simp
      · simp
    · rw [List.length_take] at hi
      have := h4 i (by omega)
      show w.cell? (x.add i) = _
      rw [this, List.getD_eq_getElem?_getD, List.getD_eq_getElem?_getD, List.getElem?_take, if_pos (by omega)]
theorem txparses_walk {w : World} {a : Option Addr} {len cap : Nat} {zs : List Int} (h : (a = none ∧ len = 0 ∧ cap = 0 ∧ zs = []) ∨
    ∃ x, a = some x ∧ len ≤ cap ∧ cap ≤ maxLen ∧ zs.length = cap ∧ (∀ i, i < zs.length → w.cell? (x.add i) = some (.int .u8 (zs.getD i 0))) ∧ ∀ n ∈ zs, (Lit.int .u8 n).wf = true) :
    Calls PP 3 #[.slice a len cap] w fun e w' => e = .returned (.bool true) ∧ Go.RowKit.Below w.heap.size w w' := by
  obtain ⟨xs, h1, h2, h3⟩ := bytes_top h
  exact (txparses_calls xs len h1 h2 _ (fun v => v = .bool true) rfl).top (.cons _ _ _ _ h3 .nil) fun v hv => hv
end Go.Tk
end
section
namespace Go.Proofs.YtmfcmlajhaedgaaGreat.txParses
open Go.ChangeShapes Go.WideShapes Go.ChangeAt Go.RowKit
set_option linter.unusedVariables false
theorem own : ownKnob Tryz.prog.godebug = none := by kernel_rfl
theorem laidOut : laidOutB Tryz.prog = true := by kernel_rfl
def IsRow (k : IntKind) (w : World) (a : Option Addr) (len cap : Nat) (zs : List Int) : Prop :=
  (a = none ∧ len = 0 ∧ cap = 0 ∧ zs = []) ∨
  ∃ x, a = some x ∧ len ≤ cap ∧ cap ≤ maxLen ∧ zs.length = cap ∧ (∀ i, i < zs.length → w.cell? (x.add i) = some (.int k (zs.getD i 0))) ∧ ∀ n ∈ zs, (Lit.int k n).wf = true
theorem walk (a0 : Option Addr) (len0 cap0 : Nat) (z0 : List Int) (w : World) (w0 : IsRow .u8 w a0 len0 cap0 z0) :
    Calls Tryz.prog 3 #[.slice a0 len0 cap0] w fun e w' => e = .returned (.bool true) ∧ Below w.heap.size w w' :=
  Go.Tk.txparses_walk w0
set_option maxRecDepth 100000 in
theorem lifted (os : Os) (started : os.Started) (H : Type) (enc : TypeId × Value → H) :
    ReturnsInHanded {} Tryz.checked os 3 .any (Rows.txParsesSpec.pre6 enc Tryz.prog Tryz.f3 Rows.txParsesRow.domain false) (Rows.txParsesSpec.post enc Tryz.prog Tryz.f3 false true false false) := by
  refine returnsInHanded_of_change (C := Tryz.checked) own started (by kernel_rfl) Tryz.func3
    (ChangeSpec.witness6 (enc := enc) (C := Tryz.checked) false ⟨#[], #[.slice none 0 0], []⟩ 8 (by kernel_rfl) (by kernel_rfl) (by kernel_rfl) (by kernel_rfl)) ?_
  intro W base args ds gs before hval0 hW hcnd _
  have hval : ∀ (j : Nat) t v, Tryz.f3.params[j]? = some t → args[j]? = some v → Value.okWide Tryz.prog W .any base t v := hval0
  have hW' := hW
  obtain ⟨p, q, hA0, hV, rfl, hfz, hnd⟩ := hW
  have hA : DataW.TrodAll enc Tryz.prog W 0 (fun _ => true) true Tryz.f3.params.toList args.toList ds p := hA0
  rw [Tryz.params3] at hA hval
  obtain ⟨v0, vs0, d0, ds0, p0, q0, hargs, rfl, rfl, h0, r0⟩ := trodAll_cons hA
  obtain ⟨rfl, rfl, rfl⟩ := trodAll_nil r0
  obtain rfl : args = #[v0] := by cases args; simp_all
  obtain ⟨rfl, rfl⟩ := trodVars_none hV
  obtain ⟨a0, len0, cap0, rfl⟩ := okWide_slice Tryz.underlying22 (hval 0 22 v0 rfl rfl)
  have k0 := h0
  have lt0 : ∀ x ∈ p0, x.block < W.heap.size := by obtain ⟨m, hm⟩ := k0; exact DataW.trod_lt m _ _ _ hm
  obtain ⟨z0, w0⟩ : ∃ zs, IsRow .u8 W a0 len0 cap0 zs := by
    obtain ⟨fuel, hf⟩ := h0
    rcases open_ints Tryz.underlying22 Tryz.underlying5 (by kernel_rfl) hf with ⟨hcs, _⟩ | ⟨x, l, c, zs, hcs, _, hl, hm, hz, _, hcell, hwz⟩
    · simp [Value.cells] at hcs
      obtain ⟨rfl, rfl, rfl⟩ := hcs
      exact ⟨[], .inl ⟨rfl, rfl, rfl, rfl⟩⟩
    · simp [Value.cells] at hcs
      obtain ⟨rfl, rfl, rfl⟩ := hcs
      exact ⟨zs, .inr ⟨_, rfl, hl, hm, by simpa using hz, hcell, hwz⟩⟩
  clear hA0 hval0
  refine (walk a0 len0 cap0 z0 W w0).mono fun e W' ⟨he, bel⟩ => ?_
  subst he
  exact ⟨_, rfl, _, _, _, [], _, [], hW', trodAll_mk1 (shut_bool Tryz.underlying4 _), (trodAll_cons_mk (Below.trod laidOut (by kernel_rfl) (of_decide_eq_true (by kernel_rfl)) k0 bel lt0) trodAll_mk0), rfl, bel.frame _, fun h => by cases h⟩
theorem over : Rows.txParsesRow.holds Tryz.pinned (OpenSpec.ofChange Rows.txParsesSpec) :=
  OpenClaim.holds_of_wide 3 Tryz.f3 rfl rfl rfl rfl rfl rfl rfl ⟨rfl, rfl, rfl, rfl, rfl⟩ rfl rfl rfl rfl rfl (by kernel_rfl) Tryz.func3 (by kernel_rfl)
    (of_decide_eq_true (by kernel_rfl)) (by unfold Func.isWrapper; first | (rw [if_pos (by decide +kernel)]; kernel_rfl) | (rw [if_neg (by decide +kernel)]; exact ⟨rfl, rfl⟩))
    (fun os started H enc _ => lifted os started H enc)
theorem proved : Rows.TxParsesSaid := over
end Go.Proofs.YtmfcmlajhaedgaaGreat.txParses
end
