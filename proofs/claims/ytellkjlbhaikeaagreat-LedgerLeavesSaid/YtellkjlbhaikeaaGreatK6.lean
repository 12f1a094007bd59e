/- K: part 6 of an engine (a symbolic evaluator, proved against the model) and of the walk by it. -/
import Derived.Test.YtellkjlbhaikeaaGreatK5
set_option linter.unusedVariables false
set_option linter.unusedSimpArgs false
set_option maxRecDepth 100000
set_option maxHeartbeats 0
section
namespace Go.Tk
open IntKind (i64 u8 u32 u64 wrap)
noncomputable def Zfr (H1 : List Int → List Int) (B : Nat) : Zg := (G0.withP 126 Zgz).withP 87 (Zaz H1 B)
theorem Z8a : (Zfr Wc 1000).Ok := Zg.withP_ok (Zg.withP_ok Zw Zdn) (Z5o fun xs h => Z3v xs (by omega))
theorem ZgE (X : Za) (n : Nat) (own : Bool) (id k e : Int) (sec : List Int) (H1 : List Int → List Int) (B : Nat) (hn : X.L.length = n) (hlen : X.L.length < 1000) (hOk : ∀ h ∈ X.L, h.Ok) (hsec : sec.length = 32) (hl : (H1 sec).length = 32) (hB : 32 ≤ B) (he : e = YU H1 X own id k sec) (hne : e ≠ 0) :
  evF (Zfr H1 B) 20 88 [.agg (X.c (slH 0 n)), .bool own, .int .i64 id, .int .i64 k, .agg [.arr .u8 32 sec]] ⟨1, [(0, .rows 70 n (Z5 X.L))]⟩ (YQ 1 (.ret (.tuple [.agg (X.c (slH 0 n)), .int .i64 e])) 1 [(0, .rows 70 n (Z5 X.L))]) := by
 refine @Eq.mpr _ (let q1 := 0 + n;
 let q2 := decide (q1 ≤ n);
 let q3 := X.t;
 let q4 := q3.fund;
 let q5 := q3.index;
 let q6 := q3.cap;
 let q7 := q3.dust;
 let q8 := q3.fee;
 let q9 := q3.delay;
 let q10 := q3.k0;
 let q11 := q3.k1;
 let q12 := X.side;
 let q13 := X.res;
 let q14 := [X.a0, X.a1];
 let q15 := [X.i0, X.i1];
 let q16 := Z5 X.L;
 let q17 := q4 = q4;
 let q18 := decide (q5 = q5);
 let q19 := decide (q6 = q6);
 let q20 := decide (q7 = q7);
 let q21 := decide (q8 = q8);
 let q22 := decide (q9 = q9);
 let q23 := q10 = q10;
 let q24 := q11 = q11;
 let q25 := decide (q12 = q12);
 let q26 := decide (q13 = q13);
 let q27 := q14 = q14;
 let q28 := q15 = q15;
 let q29 := decide (n = n);
 let q30 := decide (n ≤ n);
 let q31 := Z0 q29 (Z8 1 [] n q16 q16 ∧ True) False;
 let q32 := List.length sec;
 let q33 := decide (q1 * 112 ≤ 140737488355328);
 let q34 := q17 ∧ Z0 q18 (Z0 q19 (Z0 q20 (Z0 q21 (Z0 q22 (q23 ∧ q24 ∧ Z0 q25 (Z0 q26 (q27 ∧ q28 ∧ False) False) False) False) False) False) False) False;
 Z0 q2
 ((∀ (i : Nat), i < n → true = true) ∧
 ∃ (X_1 : Za),
 let q69 := fiV own id X_1.L;
 let q70 := decide (0 ≤ q69 ∧ q69 < ↑n);
 let q71 := 0 + Int.toNat q69;
 let q72 := List.getD X.L q71 Zc;
 let q73 := q72.hash;
 let q74 := decide (0 ≤ q69 ∧ q69 < ↑q1);
 LV [AV.arr u8 32 q4, AV.int i64 q5, AV.int i64 q6, AV.int i64 q7, AV.int i64 q8, AV.int i64 q9, AV.arr u8 32 q10, AV.arr u8 32 q11, AV.int i64 q12, AV.int i64 q13, AV.arr i64 2 q14, AV.arr i64 2 q15, AV.vrows 70 n (ZT 0 q16) n] X_1 ∧
 List.length X_1.L < 1000 ∧
 Z0 (decide (q69 < 0)) (q17 ∧ Z0 q18 (Z0 q19 (Z0 q20 (Z0 q21 (Z0 q22 (q23 ∧ q24 ∧ Z0 q25 (Z0 q26 (q27 ∧ q28 ∧ Z0 q29 (Z0 q30 (Z0 (decide (5 = e)) q31 False) False) False) False) False) False) False) False) False) False)
 (Z0 q70
 (Z0 (decide (q71 < n))
 (Z0 (q72.stage != 5) (q17 ∧ Z0 q18 (Z0 q19 (Z0 q20 (Z0 q21 (Z0 q22 (q23 ∧ q24 ∧ Z0 q25 (Z0 q26 (q27 ∧ q28 ∧ Z0 q29 (Z0 q30 (Z0 (decide (190 = e)) q31 False) False) False) False) False) False) False) False) False) False)
 (Z0 (k == 1) (Z0 q70 (Z0 (decide (q71 < n)) (Z0 (decide (q32 = 32)) (Z0 (decide (32 = q32)) (Z0 (decide (q32 ≤ B)) (Z0 (decide (List.length (H1 sec) = 32 ∧ List.length q73 = 32)) (Z0 (!H1 sec == q73) (q17 ∧ Z0 q18 (Z0 q19 (Z0 q20 (Z0 q21 (Z0 q22 (q23 ∧ q24 ∧ Z0 q25 (Z0 q26 (q27 ∧ q28 ∧ Z0 q29 (Z0 q30 (Z0 (decide (203 = e)) q31 False) False) False) False) False) False) False) False) False) False) (Z0 q2 (Z0 q33 (Z0 q74 (Z0 (decide (q71 < q1)) (Z0 q74 (Z0 (decide (q71 < q1)) (Z0 q74 (Z0 (decide (q71 < q1)) q34 False) False) False) False) False) False) False) False)) False) False) False) False) False) False) (Z0 q2 (Z0 q33 (Z0 q74 (Z0 (decide (q71 < q1)) (Z0 q74 (Z0 (decide (q71 < q1)) (Z0 q74 (Z0 (decide (q71 < q1)) q34 False) False) False) False) False) False) False) False)))
 False)
 False))
 False) (by kernel_rfl) ?_
 conv => zeta
 try simp only [Zi]
 try simp only [Zj]
 try simp only [Zk]
 try simp only [Zl]
 try simp only [Zm]
 try simp only [Zh]
 try simp only [Int.toNat_natCast, Nat.zero_add, true_and, and_true, Nat.le_refl]
 subst hn
 have hR : Z8 1 [] X.L.length (Z5 X.L) (Z5 X.L) := Zn fun _ _ => rfl
 unfold YU at he
 refine ⟨fun _ _ => trivial, X, .a rfl, hlen, ?_⟩
 by_cases hI : ZM own id X.L < X.L.length
 ·have hv : fiV own id X.L = ((ZM own id X.L : Nat) : Int) := by unfold fiV; rw [if_pos hI]
  rw [hv]
  simp only [Int.toNat_natCast]
  rw [if_neg (by omega)] at he
  have h2 := (hOk _ (ZK hI)).hash
  have hi : (0 : Int) ≤ ((ZM own id X.L : Nat) : Int) ∧ ((ZM own id X.L : Nat) : Int) < (X.L.length : Int) := by omega
  generalize hz : X.L.getD (ZM own id X.L) Zc = z at *
  refine ⟨fun h => by omega, fun _ => ⟨hi, hI, fun h5 => ⟨?_, hR⟩, fun h5 => ⟨fun hk => ⟨hi, hI, hsec, hsec.symm, by omega, ⟨hl, h2⟩, fun hh => ⟨?_, hR⟩, fun hh => ?_⟩, fun hk => ?_⟩⟩⟩
  ·rw [he, if_pos (by simpa using h5)]
  ·rw [he, if_neg (by simpa using h5), if_pos ⟨by simpa using hk, by simpa using hh⟩]
  ·exact absurd (by rw [he, if_neg (by simpa using h5), if_neg (fun q => q.2 (by simpa using hh))]) hne
  ·exact absurd (by rw [he, if_neg (by simpa using h5), if_neg (fun q => by simp [q.1] at hk)]) hne
 ·have hv : fiV own id X.L = -1 := by unfold fiV; rw [if_neg hI]
  rw [hv]
  rw [if_pos (by omega)] at he
  exact ⟨fun _ => ⟨he.symm, hR⟩, fun h => by omega⟩
theorem ZgF (X X' : Za) (n : Nat) (own : Bool) (id k : Int) (sec : List Int) (H1 : List Int → List Int) (B : Nat) (hn : X.L.length = n) (hlen : X.L.length < 1000) (hOk : ∀ h ∈ X.L, h.Ok) (hsec : sec.length = 32) (hl : (H1 sec).length = 32) (hB : 32 ≤ B) (he : YU H1 X own id k sec = 0) (hX' : X' = endX H1 X own id k sec) :
  evF (Zfr H1 B) 20 88 [.agg (X.c (slH 0 n)), .bool own, .int .i64 id, .int .i64 k, .agg [.arr .u8 32 sec]] ⟨1, [(0, .rows 70 n (Z5 X.L))]⟩ (YQ 1 (.ret (.tuple [.agg (X'.c (slH 1 n)), .int .i64 0])) 2 [(0, .rows 70 n (Z5 X.L)), (1, .rows 70 n (Z5 X'.L))]) := by
 refine @Eq.mpr _ (Z0 (decide ((0 : Nat) + n ≤ n))
 ((∀ (i : Nat), i < n → true = true) ∧
 ∃ (X_1 : Za),
 LV [AV.arr u8 (32 : Nat) X.t.fund, AV.int i64 X.t.index, AV.int i64 X.t.cap, AV.int i64 X.t.dust, AV.int i64 X.t.fee, AV.int i64 X.t.delay, AV.arr u8 (32 : Nat) X.t.k0, AV.arr u8 (32 : Nat) X.t.k1, AV.int i64 X.side, AV.int i64 X.res, AV.arr i64 (2 : Nat) [X.a0, X.a1], AV.arr i64 (2 : Nat) [X.i0, X.i1], AV.vrows (70 : Nat) n (ZT (0 : Nat) (Z5 X.L)) n] X_1 ∧
 List.length X_1.L < (1000 : Nat) ∧
 Z0 (decide (fiV own id X_1.L < (0 : Int))) False
 (Z0 (decide ((0 : Int) ≤ fiV own id X_1.L ∧ fiV own id X_1.L < (↑n : Int)))
 (Z0 (decide ((0 : Nat) + Int.toNat (fiV own id X_1.L) < n))
 (Z0 ((List.getD X.L ((0 : Nat) + Int.toNat (fiV own id X_1.L)) Zc).stage != (5 : Int)) False
 (Z0 (k == (1 : Int))
 (Z0 (decide ((0 : Int) ≤ fiV own id X_1.L ∧ fiV own id X_1.L < (↑n : Int)))
 (Z0 (decide ((0 : Nat) + Int.toNat (fiV own id X_1.L) < n))
 (Z0 (decide (List.length sec = (32 : Nat)))
 (Z0 (decide ((32 : Nat) = List.length sec))
 (Z0 (decide (List.length sec ≤ B))
 (Z0 (decide (List.length (H1 sec) = (32 : Nat) ∧ List.length (List.getD X.L ((0 : Nat) + Int.toNat (fiV own id X_1.L)) Zc).hash = (32 : Nat)))
 (Z0 (!H1 sec == (List.getD X.L ((0 : Nat) + Int.toNat (fiV own id X_1.L)) Zc).hash) False
 (Z0 (decide ((0 : Nat) + n ≤ n))
 (Z0 (decide (((0 : Nat) + n) * (112 : Nat) ≤ (140737488355328 : Nat)))
 (Z0 (decide ((0 : Int) ≤ fiV own id X_1.L ∧ fiV own id X_1.L < (↑((0 : Nat) + n) : Int)))
 (Z0 (decide ((0 : Nat) + Int.toNat (fiV own id X_1.L) < (0 : Nat) + n))
 (Z0 (decide ((0 : Int) ≤ fiV own id X_1.L ∧ fiV own id X_1.L < (↑((0 : Nat) + n) : Int)))
 (Z0 (decide ((0 : Nat) + Int.toNat (fiV own id X_1.L) < (0 : Nat) + n))
 (Z0 (decide ((0 : Int) ≤ fiV own id X_1.L ∧ fiV own id X_1.L < (↑((0 : Nat) + n) : Int)))
 (Z0 (decide ((0 : Nat) + Int.toNat (fiV own id X_1.L) < (0 : Nat) + n))
 (X.t.fund = X'.t.fund ∧
 Z0 (decide (X.t.index = X'.t.index))
 (Z0 (decide (X.t.cap = X'.t.cap))
 (Z0 (decide (X.t.dust = X'.t.dust))
 (Z0 (decide (X.t.fee = X'.t.fee))
 (Z0 (decide (X.t.delay = X'.t.delay))
 (X.t.k0 = X'.t.k0 ∧
 X.t.k1 = X'.t.k1 ∧
 Z0 (decide (X.side = X'.side))
 (Z0 (decide (X.res = X'.res))
 ([X.a0, X.a1] = [X'.a0, X'.a1] ∧
 [X.i0, X.i1] = [X'.i0, X'.i1] ∧
 Z0 (decide ((0 : Nat) + n = n))
 (Z0 (decide (n ≤ (0 : Nat) + n))
 (Z0 (decide (n = n))
 (Z8 (1 : Nat) [((1 : Nat), (4 : Nat))] n (Z5 X.L) (Z5 X.L) ∧
 Z0 (decide ((0 : Nat) + n = n))
 (Z8 (1 : Nat) [((1 : Nat), (4 : Nat))] n (Z5 X'.L)
 (QI
 (QI (QI (ZV (0 : Nat) (fun (x : Nat) => []) (ZT (0 : Nat) (Z5 X.L))) ((0 : Nat) + Int.toNat (fiV own id X_1.L)) [AV.bool (List.getD X.L ((0 : Nat) + Int.toNat (fiV own id X_1.L) - (0 : Nat)) Zc).own, AV.int i64 (List.getD X.L ((0 : Nat) + Int.toNat (fiV own id X_1.L) - (0 : Nat)) Zc).id, AV.int i64 (List.getD X.L ((0 : Nat) + Int.toNat (fiV own id X_1.L) - (0 : Nat)) Zc).amount, AV.arr u8 (32 : Nat) (List.getD X.L ((0 : Nat) + Int.toNat (fiV own id X_1.L) - (0 : Nat)) Zc).hash, AV.int i64 (List.getD X.L ((0 : Nat) + Int.toNat (fiV own id X_1.L) - (0 : Nat)) Zc).expiry, AV.int i64 (6 : Int), AV.int i64 (List.getD X.L ((0 : Nat) + Int.toNat (fiV own id X_1.L) - (0 : Nat)) Zc).fin, AV.arr u8 (32 : Nat) (List.getD X.L ((0 : Nat) + Int.toNat (fiV own id X_1.L) - (0 : Nat)) Zc).secret]) ((0 : Nat) + Int.toNat (fiV own id X_1.L))
 [AV.bool
 (match Nat.beq ((0 : Nat) + Int.toNat (fiV own id X_1.L)) ((0 : Nat) + Int.toNat (fiV own id X_1.L)) with
 | true => (List.getD X.L ((0 : Nat) + Int.toNat (fiV own id X_1.L) - (0 : Nat)) Zc).own
 | false => (List.getD X.L ((0 : Nat) + Int.toNat (fiV own id X_1.L) - (0 : Nat)) Zc).own),
 AV.int i64
 (match Nat.beq ((0 : Nat) + Int.toNat (fiV own id X_1.L)) ((0 : Nat) + Int.toNat (fiV own id X_1.L)) with
 | true => (List.getD X.L ((0 : Nat) + Int.toNat (fiV own id X_1.L) - (0 : Nat)) Zc).id
 | false => (List.getD X.L ((0 : Nat) + Int.toNat (fiV own id X_1.L) - (0 : Nat)) Zc).id),
 AV.int i64
 (match Nat.beq ((0 : Nat) + Int.toNat (fiV own id X_1.L)) ((0 : Nat) + Int.toNat (fiV own id X_1.L)) with
 | true => (List.getD X.L ((0 : Nat) + Int.toNat (fiV own id X_1.L) - (0 : Nat)) Zc).amount
 | false => (List.getD X.L ((0 : Nat) + Int.toNat (fiV own id X_1.L) - (0 : Nat)) Zc).amount),
 AV.arr u8 (32 : Nat)
 (match Nat.beq ((0 : Nat) + Int.toNat (fiV own id X_1.L)) ((0 : Nat) + Int.toNat (fiV own id X_1.L)) with
 | true => (List.getD X.L ((0 : Nat) + Int.toNat (fiV own id X_1.L) - (0 : Nat)) Zc).hash
 | false => (List.getD X.L ((0 : Nat) + Int.toNat (fiV own id X_1.L) - (0 : Nat)) Zc).hash),
 AV.int i64
 (match Nat.beq ((0 : Nat) + Int.toNat (fiV own id X_1.L)) ((0 : Nat) + Int.toNat (fiV own id X_1.L)) with
 | true => (List.getD X.L ((0 : Nat) + Int.toNat (fiV own id X_1.L) - (0 : Nat)) Zc).expiry
 | false => (List.getD X.L ((0 : Nat) + Int.toNat (fiV own id X_1.L) - (0 : Nat)) Zc).expiry),
 AV.int i64
 (match Nat.beq ((0 : Nat) + Int.toNat (fiV own id X_1.L)) ((0 : Nat) + Int.toNat (fiV own id X_1.L)) with
 | true => (6 : Int)
 | false => (List.getD X.L ((0 : Nat) + Int.toNat (fiV own id X_1.L) - (0 : Nat)) Zc).stage),
 AV.int i64 k,
 AV.arr u8 (32 : Nat)
 (match Nat.beq ((0 : Nat) + Int.toNat (fiV own id X_1.L)) ((0 : Nat) + Int.toNat (fiV own id X_1.L)) with
 | true => (List.getD X.L ((0 : Nat) + Int.toNat (fiV own id X_1.L) - (0 : Nat)) Zc).secret
 | false => (List.getD X.L ((0 : Nat) + Int.toNat (fiV own id X_1.L) - (0 : Nat)) Zc).secret)])
 ((0 : Nat) + Int.toNat (fiV own id X_1.L))
 [AV.bool
 (match Nat.beq ((0 : Nat) + Int.toNat (fiV own id X_1.L)) ((0 : Nat) + Int.toNat (fiV own id X_1.L)) with
 | true =>
 (match Nat.beq ((0 : Nat) + Int.toNat (fiV own id X_1.L)) ((0 : Nat) + Int.toNat (fiV own id X_1.L)) with
 | true => (List.getD X.L ((0 : Nat) + Int.toNat (fiV own id X_1.L) - (0 : Nat)) Zc).own
 | false => (List.getD X.L ((0 : Nat) + Int.toNat (fiV own id X_1.L) - (0 : Nat)) Zc).own)
 | false =>
 match Nat.beq ((0 : Nat) + Int.toNat (fiV own id X_1.L)) ((0 : Nat) + Int.toNat (fiV own id X_1.L)) with
 | true => (List.getD X.L ((0 : Nat) + Int.toNat (fiV own id X_1.L) - (0 : Nat)) Zc).own
 | false => (List.getD X.L ((0 : Nat) + Int.toNat (fiV own id X_1.L) - (0 : Nat)) Zc).own),
 AV.int i64
 (match Nat.beq ((0 : Nat) + Int.toNat (fiV own id X_1.L)) ((0 : Nat) + Int.toNat (fiV own id X_1.L)) with
 | true =>
 (match Nat.beq ((0 : Nat) + Int.toNat (fiV own id X_1.L)) ((0 : Nat) + Int.toNat (fiV own id X_1.L)) with
 | true => (List.getD X.L ((0 : Nat) + Int.toNat (fiV own id X_1.L) - (0 : Nat)) Zc).id
 | false => (List.getD X.L ((0 : Nat) + Int.toNat (fiV own id X_1.L) - (0 : Nat)) Zc).id)
 | false =>
 match Nat.beq ((0 : Nat) + Int.toNat (fiV own id X_1.L)) ((0 : Nat) + Int.toNat (fiV own id X_1.L)) with
 | true => (List.getD X.L ((0 : Nat) + Int.toNat (fiV own id X_1.L) - (0 : Nat)) Zc).id
 | false => (List.getD X.L ((0 : Nat) + Int.toNat (fiV own id X_1.L) - (0 : Nat)) Zc).id),
 AV.int i64
 (match Nat.beq ((0 : Nat) + Int.toNat (fiV own id X_1.L)) ((0 : Nat) + Int.toNat (fiV own id X_1.L)) with
 | true =>
 (match Nat.beq ((0 : Nat) + Int.toNat (fiV own id X_1.L)) ((0 : Nat) + Int.toNat (fiV own id X_1.L)) with
 | true => (List.getD X.L ((0 : Nat) + Int.toNat (fiV own id X_1.L) - (0 : Nat)) Zc).amount
 | false => (List.getD X.L ((0 : Nat) + Int.toNat (fiV own id X_1.L) - (0 : Nat)) Zc).amount)
 | false =>
 match Nat.beq ((0 : Nat) + Int.toNat (fiV own id X_1.L)) ((0 : Nat) + Int.toNat (fiV own id X_1.L)) with
 | true => (List.getD X.L ((0 : Nat) + Int.toNat (fiV own id X_1.L) - (0 : Nat)) Zc).amount
 | false => (List.getD X.L ((0 : Nat) + Int.toNat (fiV own id X_1.L) - (0 : Nat)) Zc).amount),
 AV.arr u8 (32 : Nat)
 (match Nat.beq ((0 : Nat) + Int.toNat (fiV own id X_1.L)) ((0 : Nat) + Int.toNat (fiV own id X_1.L)) with
 | true =>
 (match Nat.beq ((0 : Nat) + Int.toNat (fiV own id X_1.L)) ((0 : Nat) + Int.toNat (fiV own id X_1.L)) with
 | true => (List.getD X.L ((0 : Nat) + Int.toNat (fiV own id X_1.L) - (0 : Nat)) Zc).hash
 | false => (List.getD X.L ((0 : Nat) + Int.toNat (fiV own id X_1.L) - (0 : Nat)) Zc).hash)
 | false =>
 match Nat.beq ((0 : Nat) + Int.toNat (fiV own id X_1.L)) ((0 : Nat) + Int.toNat (fiV own id X_1.L)) with
 | true => (List.getD X.L ((0 : Nat) + Int.toNat (fiV own id X_1.L) - (0 : Nat)) Zc).hash
 | false => (List.getD X.L ((0 : Nat) + Int.toNat (fiV own id X_1.L) - (0 : Nat)) Zc).hash),
 AV.int i64
 (match Nat.beq ((0 : Nat) + Int.toNat (fiV own id X_1.L)) ((0 : Nat) + Int.toNat (fiV own id X_1.L)) with
 | true =>
 (match Nat.beq ((0 : Nat) + Int.toNat (fiV own id X_1.L)) ((0 : Nat) + Int.toNat (fiV own id X_1.L)) with
 | true => (List.getD X.L ((0 : Nat) + Int.toNat (fiV own id X_1.L) - (0 : Nat)) Zc).expiry
 | false => (List.getD X.L ((0 : Nat) + Int.toNat (fiV own id X_1.L) - (0 : Nat)) Zc).expiry)
 | false =>
 match Nat.beq ((0 : Nat) + Int.toNat (fiV own id X_1.L)) ((0 : Nat) + Int.toNat (fiV own id X_1.L)) with
 | true => (List.getD X.L ((0 : Nat) + Int.toNat (fiV own id X_1.L) - (0 : Nat)) Zc).expiry
 | false => (List.getD X.L ((0 : Nat) + Int.toNat (fiV own id X_1.L) - (0 : Nat)) Zc).expiry),
 AV.int i64
 (match Nat.beq ((0 : Nat) + Int.toNat (fiV own id X_1.L)) ((0 : Nat) + Int.toNat (fiV own id X_1.L)) with
 | true =>
 (match Nat.beq ((0 : Nat) + Int.toNat (fiV own id X_1.L)) ((0 : Nat) + Int.toNat (fiV own id X_1.L)) with
 | true => (6 : Int)
 | false => (List.getD X.L ((0 : Nat) + Int.toNat (fiV own id X_1.L) - (0 : Nat)) Zc).stage)
 | false =>
 match Nat.beq ((0 : Nat) + Int.toNat (fiV own id X_1.L)) ((0 : Nat) + Int.toNat (fiV own id X_1.L)) with
 | true => (6 : Int)
 | false => (List.getD X.L ((0 : Nat) + Int.toNat (fiV own id X_1.L) - (0 : Nat)) Zc).stage),
 AV.int i64
 (match Nat.beq ((0 : Nat) + Int.toNat (fiV own id X_1.L)) ((0 : Nat) + Int.toNat (fiV own id X_1.L)) with
 | true => k
 | false =>
 match Nat.beq ((0 : Nat) + Int.toNat (fiV own id X_1.L)) ((0 : Nat) + Int.toNat (fiV own id X_1.L)) with
 | true => (List.getD X.L ((0 : Nat) + Int.toNat (fiV own id X_1.L) - (0 : Nat)) Zc).fin
 | false => (List.getD X.L ((0 : Nat) + Int.toNat (fiV own id X_1.L) - (0 : Nat)) Zc).fin),
 AV.arr u8 (32 : Nat) sec]) ∧
 True)
 False)
 False)
 False)
 False)
 False)
 False)
 False)
 False)
 False)
 False)
 False)
 False)
 False)
 False)
 False)
 False)
 False)
 False)
 False))
 False)
 False)
 False)
 False)
 False)
 False)
 (Z0 (decide ((0 : Nat) + n ≤ n))
 (Z0 (decide (((0 : Nat) + n) * (112 : Nat) ≤ (140737488355328 : Nat)))
 (Z0 (decide ((0 : Int) ≤ fiV own id X_1.L ∧ fiV own id X_1.L < (↑((0 : Nat) + n) : Int)))
 (Z0 (decide ((0 : Nat) + Int.toNat (fiV own id X_1.L) < (0 : Nat) + n))
 (Z0 (decide ((0 : Int) ≤ fiV own id X_1.L ∧ fiV own id X_1.L < (↑((0 : Nat) + n) : Int)))
 (Z0 (decide ((0 : Nat) + Int.toNat (fiV own id X_1.L) < (0 : Nat) + n))
 (Z0 (decide ((0 : Int) ≤ fiV own id X_1.L ∧ fiV own id X_1.L < (↑((0 : Nat) + n) : Int)))
 (Z0 (decide ((0 : Nat) + Int.toNat (fiV own id X_1.L) < (0 : Nat) + n))
 (X.t.fund = X'.t.fund ∧
 Z0 (decide (X.t.index = X'.t.index))
 (Z0 (decide (X.t.cap = X'.t.cap))
 (Z0 (decide (X.t.dust = X'.t.dust))
 (Z0 (decide (X.t.fee = X'.t.fee))
 (Z0 (decide (X.t.delay = X'.t.delay))
 (X.t.k0 = X'.t.k0 ∧
 X.t.k1 = X'.t.k1 ∧
 Z0 (decide (X.side = X'.side))
 (Z0 (decide (X.res = X'.res))
 ([X.a0, X.a1] = [X'.a0, X'.a1] ∧
 [X.i0, X.i1] = [X'.i0, X'.i1] ∧
 Z0 (decide ((0 : Nat) + n = n))
 (Z0 (decide (n ≤ (0 : Nat) + n))
 (Z0 (decide (n = n))
 (Z8 (1 : Nat) [((1 : Nat), (4 : Nat))] n (Z5 X.L) (Z5 X.L) ∧
 Z0 (decide ((0 : Nat) + n = n))
 (Z8 (1 : Nat) [((1 : Nat), (4 : Nat))] n (Z5 X'.L)
 (QI
 (QI (QI (ZV (0 : Nat) (fun (x : Nat) => []) (ZT (0 : Nat) (Z5 X.L))) ((0 : Nat) + Int.toNat (fiV own id X_1.L)) [AV.bool (List.getD X.L ((0 : Nat) + Int.toNat (fiV own id X_1.L) - (0 : Nat)) Zc).own, AV.int i64 (List.getD X.L ((0 : Nat) + Int.toNat (fiV own id X_1.L) - (0 : Nat)) Zc).id, AV.int i64 (List.getD X.L ((0 : Nat) + Int.toNat (fiV own id X_1.L) - (0 : Nat)) Zc).amount, AV.arr u8 (32 : Nat) (List.getD X.L ((0 : Nat) + Int.toNat (fiV own id X_1.L) - (0 : Nat)) Zc).hash, AV.int i64 (List.getD X.L ((0 : Nat) + Int.toNat (fiV own id X_1.L) - (0 : Nat)) Zc).expiry, AV.int i64 (6 : Int), AV.int i64 (List.getD X.L ((0 : Nat) + Int.toNat (fiV own id X_1.L) - (0 : Nat)) Zc).fin, AV.arr u8 (32 : Nat) (List.getD X.L ((0 : Nat) + Int.toNat (fiV own id X_1.L) - (0 : Nat)) Zc).secret]) ((0 : Nat) + Int.toNat (fiV own id X_1.L))
 [AV.bool
 (match Nat.beq ((0 : Nat) + Int.toNat (fiV own id X_1.L)) ((0 : Nat) + Int.toNat (fiV own id X_1.L)) with
 | true => (List.getD X.L ((0 : Nat) + Int.toNat (fiV own id X_1.L) - (0 : Nat)) Zc).own
 | false => (List.getD X.L ((0 : Nat) + Int.toNat (fiV own id X_1.L) - (0 : Nat)) Zc).own),
 AV.int i64
 (match Nat.beq ((0 : Nat) + Int.toNat (fiV own id X_1.L)) ((0 : Nat) + Int.toNat (fiV own id X_1.L)) with
 | true => (List.getD X.L ((0 : Nat) + Int.toNat (fiV own id X_1.L) - (0 : Nat)) Zc).id
 | false => (List.getD X.L ((0 : Nat) + Int.toNat (fiV own id X_1.L) - (0 : Nat)) Zc).id),
 AV.int i64
 (match Nat.beq ((0 : Nat) + Int.toNat (fiV own id X_1.L)) ((0 : Nat) + Int.toNat (fiV own id X_1.L)) with
 | true => (List.getD X.L ((0 : Nat) + Int.toNat (fiV own id X_1.L) - (0 : Nat)) Zc).amount
 | false => (List.getD X.L ((0 : Nat) + Int.toNat (fiV own id X_1.L) - (0 : Nat)) Zc).amount),
 AV.arr u8 (32 : Nat)
 (match Nat.beq ((0 : Nat) + Int.toNat (fiV own id X_1.L)) ((0 : Nat) + Int.toNat (fiV own id X_1.L)) with
 | true => (List.getD X.L ((0 : Nat) + Int.toNat (fiV own id X_1.L) - (0 : Nat)) Zc).hash
 | false => (List.getD X.L ((0 : Nat) + Int.toNat (fiV own id X_1.L) - (0 : Nat)) Zc).hash),
 AV.int i64
 (match Nat.beq ((0 : Nat) + Int.toNat (fiV own id X_1.L)) ((0 : Nat) + Int.toNat (fiV own id X_1.L)) with
 | true => (List.getD X.L ((0 : Nat) + Int.toNat (fiV own id X_1.L) - (0 : Nat)) Zc).expiry
 | false => (List.getD X.L ((0 : Nat) + Int.toNat (fiV own id X_1.L) - (0 : Nat)) Zc).expiry),
 AV.int i64
 (match Nat.beq ((0 : Nat) + Int.toNat (fiV own id X_1.L)) ((0 : Nat) + Int.toNat (fiV own id X_1.L)) with
 | true => (6 : Int)
 | false => (List.getD X.L ((0 : Nat) + Int.toNat (fiV own id X_1.L) - (0 : Nat)) Zc).stage),
 AV.int i64 k,
 AV.arr u8 (32 : Nat)
 (match Nat.beq ((0 : Nat) + Int.toNat (fiV own id X_1.L)) ((0 : Nat) + Int.toNat (fiV own id X_1.L)) with
 | true => (List.getD X.L ((0 : Nat) + Int.toNat (fiV own id X_1.L) - (0 : Nat)) Zc).secret
 | false => (List.getD X.L ((0 : Nat) + Int.toNat (fiV own id X_1.L) - (0 : Nat)) Zc).secret)])
 ((0 : Nat) + Int.toNat (fiV own id X_1.L))
 [AV.bool
 (match Nat.beq ((0 : Nat) + Int.toNat (fiV own id X_1.L)) ((0 : Nat) + Int.toNat (fiV own id X_1.L)) with
 | true =>
 (match Nat.beq ((0 : Nat) + Int.toNat (fiV own id X_1.L)) ((0 : Nat) + Int.toNat (fiV own id X_1.L)) with
 | true => (List.getD X.L ((0 : Nat) + Int.toNat (fiV own id X_1.L) - (0 : Nat)) Zc).own
 | false => (List.getD X.L ((0 : Nat) + Int.toNat (fiV own id X_1.L) - (0 : Nat)) Zc).own)
 | false =>
 match Nat.beq ((0 : Nat) + Int.toNat (fiV own id X_1.L)) ((0 : Nat) + Int.toNat (fiV own id X_1.L)) with
 | true => (List.getD X.L ((0 : Nat) + Int.toNat (fiV own id X_1.L) - (0 : Nat)) Zc).own
 | false => (List.getD X.L ((0 : Nat) + Int.toNat (fiV own id X_1.L) - (0 : Nat)) Zc).own),
 AV.int i64
 (match Nat.beq ((0 : Nat) + Int.toNat (fiV own id X_1.L)) ((0 : Nat) + Int.toNat (fiV own id X_1.L)) with
 | true =>
 (match Nat.beq ((0 : Nat) + Int.toNat (fiV own id X_1.L)) ((0 : Nat) + Int.toNat (fiV own id X_1.L)) with
 | true => (List.getD X.L ((0 : Nat) + Int.toNat (fiV own id X_1.L) - (0 : Nat)) Zc).id
 | false => (List.getD X.L ((0 : Nat) + Int.toNat (fiV own id X_1.L) - (0 : Nat)) Zc).id)
 | false =>
 match Nat.beq ((0 : Nat) + Int.toNat (fiV own id X_1.L)) ((0 : Nat) + Int.toNat (fiV own id X_1.L)) with
 | true => (List.getD X.L ((0 : Nat) + Int.toNat (fiV own id X_1.L) - (0 : Nat)) Zc).id
 | false => (List.getD X.L ((0 : Nat) + Int.toNat (fiV own id X_1.L) - (0 : Nat)) Zc).id),
 AV.int i64
 (match Nat.beq ((0 : Nat) + Int.toNat (fiV own id X_1.L)) ((0 : Nat) + Int.toNat (fiV own id X_1.L)) with
 | true =>
 (match Nat.beq ((0 : Nat) + Int.toNat (fiV own id X_1.L)) ((0 : Nat) + Int.toNat (fiV own id X_1.L)) with
 | true => (List.getD X.L ((0 : Nat) + Int.toNat (fiV own id X_1.L) - (0 : Nat)) Zc).amount
 | false => (List.getD X.L ((0 : Nat) + Int.toNat (fiV own id X_1.L) - (0 : Nat)) Zc).amount)
 | false =>
 match Nat.beq ((0 : Nat) + Int.toNat (fiV own id X_1.L)) ((0 : Nat) + Int.toNat (fiV own id X_1.L)) with
 | true => (List.getD X.L ((0 : Nat) + Int.toNat (fiV own id X_1.L) - (0 : Nat)) Zc).amount
 | false => (List.getD X.L ((0 : Nat) + Int.toNat (fiV own id X_1.L) - (0 : Nat)) Zc).amount),
 AV.arr u8 (32 : Nat)
 (match Nat.beq ((0 : Nat) + Int.toNat (fiV own id X_1.L)) ((0 : Nat) + Int.toNat (fiV own id X_1.L)) with
 | true =>
 (match Nat.beq ((0 : Nat) + Int.toNat (fiV own id X_1.L)) ((0 : Nat) + Int.toNat (fiV own id X_1.L)) with
 | true => (List.getD X.L ((0 : Nat) + Int.toNat (fiV own id X_1.L) - (0 : Nat)) Zc).hash
 | false => (List.getD X.L ((0 : Nat) + Int.toNat (fiV own id X_1.L) - (0 : Nat)) Zc).hash)
 | false =>
 match Nat.beq ((0 : Nat) + Int.toNat (fiV own id X_1.L)) ((0 : Nat) + Int.toNat (fiV own id X_1.L)) with
 | true => (List.getD X.L ((0 : Nat) + Int.toNat (fiV own id X_1.L) - (0 : Nat)) Zc).hash
 | false => (List.getD X.L ((0 : Nat) + Int.toNat (fiV own id X_1.L) - (0 : Nat)) Zc).hash),
 AV.int i64
 (match Nat.beq ((0 : Nat) + Int.toNat (fiV own id X_1.L)) ((0 : Nat) + Int.toNat (fiV own id X_1.L)) with
 | true =>
 (match Nat.beq ((0 : Nat) + Int.toNat (fiV own id X_1.L)) ((0 : Nat) + Int.toNat (fiV own id X_1.L)) with
 | true => (List.getD X.L ((0 : Nat) + Int.toNat (fiV own id X_1.L) - (0 : Nat)) Zc).expiry
 | false => (List.getD X.L ((0 : Nat) + Int.toNat (fiV own id X_1.L) - (0 : Nat)) Zc).expiry)
 | false =>
 match Nat.beq ((0 : Nat) + Int.toNat (fiV own id X_1.L)) ((0 : Nat) + Int.toNat (fiV own id X_1.L)) with
 | true => (List.getD X.L ((0 : Nat) + Int.toNat (fiV own id X_1.L) - (0 : Nat)) Zc).expiry
 | false => (List.getD X.L ((0 : Nat) + Int.toNat (fiV own id X_1.L) - (0 : Nat)) Zc).expiry),
 AV.int i64
 (match Nat.beq ((0 : Nat) + Int.toNat (fiV own id X_1.L)) ((0 : Nat) + Int.toNat (fiV own id X_1.L)) with
 | true =>
 (match Nat.beq ((0 : Nat) + Int.toNat (fiV own id X_1.L)) ((0 : Nat) + Int.toNat (fiV own id X_1.L)) with
 | true => (6 : Int)
 | false => (List.getD X.L ((0 : Nat) + Int.toNat (fiV own id X_1.L) - (0 : Nat)) Zc).stage)
 | false =>
 match Nat.beq ((0 : Nat) + Int.toNat (fiV own id X_1.L)) ((0 : Nat) + Int.toNat (fiV own id X_1.L)) with
 | true => (6 : Int)
 | false => (List.getD X.L ((0 : Nat) + Int.toNat (fiV own id X_1.L) - (0 : Nat)) Zc).stage),
 AV.int i64
 (match Nat.beq ((0 : Nat) + Int.toNat (fiV own id X_1.L)) ((0 : Nat) + Int.toNat (fiV own id X_1.L)) with
 | true => k
 | false =>
 match Nat.beq ((0 : Nat) + Int.toNat (fiV own id X_1.L)) ((0 : Nat) + Int.toNat (fiV own id X_1.L)) with
 | true => (List.getD X.L ((0 : Nat) + Int.toNat (fiV own id X_1.L) - (0 : Nat)) Zc).fin
 | false => (List.getD X.L ((0 : Nat) + Int.toNat (fiV own id X_1.L) - (0 : Nat)) Zc).fin),
 AV.arr u8 (32 : Nat) sec]) ∧
 True)
 False)
 False)
 False)
 False)
 False)
 False)
 False)
 False)
 False)
 False)
 False)
 False)
 False)
 False)
 False)
 False)
 False)
 False)
 False)))
 False)
 False))
 False) (by kernel_rfl) ?_
 try simp only [Zi]
 try simp only [Zj]
 try simp only [Zk]
 try simp only [Zl]
 try simp only [Zm]
 try simp only [Zh]
 try simp only [Int.toNat_natCast, Nat.zero_add, true_and, and_true, Nat.le_refl]
 subst hn
 obtain ⟨hI, h5, hno⟩ := Z3A he
 have hX2 : X' = { X with L := X.L.set (ZM own id X.L) (Vx (X.L.getD (ZM own id X.L) Zc) k sec) } := by rw [hX']; unfold endX; rw [if_pos he]
 have hv : fiV own id X.L = ((ZM own id X.L : Nat) : Int) := by unfold fiV; rw [if_pos hI]
 have h2 := (hOk _ (ZK hI)).hash
 have hR : ∀ τ, Z8 1 τ X.L.length (Z5 X.L) (Z5 X.L) := fun τ => Zn fun _ _ => rfl
 refine ⟨fun _ _ => trivial, X, .a rfl, hlen, ?_⟩
 rw [hv]
 simp only [Int.toNat_natCast, Nat.sub_zero]
 have hset : ∀ i, (X.L.set (ZM own id X.L) (Vx (X.L.getD (ZM own id X.L) Zc) k sec)).getD i Zc = if i = ZM own id X.L then Vx (X.L.getD (ZM own id X.L) Zc) k sec else X.L.getD i Zc := fun i => Ze9 hI i
 generalize hz : X.L.getD (ZM own id X.L) Zc = z at *
 generalize hLn : X.L.set (ZM own id X.L) (Vx z k sec) = L2 at *
 subst hX2
 have hi : (0 : Int) ≤ ((ZM own id X.L : Nat) : Int) ∧ ((ZM own id X.L : Nat) : Int) < (X.L.length : Int) := by omega
 generalize ZM own id X.L = I at *
 refine ⟨by omega, hi, hI, by simp [h5], fun hk => ⟨hi, hI, hsec, hsec.symm, by omega, ⟨hl, h2⟩, by rw [hno (by simpa using hk)]; simp, ?_⟩, fun hk => ?_⟩
 all_goals
  repeat' apply And.intro
  all_goals first | omega | exact hR _ | rfl | skip
  refine Zn fun i hi => ?_
  rw [U5]
  unfold Z5
  rw [hset]
  by_cases h : i = I
  ·rw [if_pos h, h]
   simp only [Nat.beq_refl]
   rfl
  ·rw [if_neg h, Zu h, U5, Zu h, U5, Zu h]
   rw [Z0Y (Nat.zero_le _)]
   rfl
theorem Z5P {xs : List Int} (h : Bytes xs) : ∀ x ∈ xs, U8 x := fun x hx => by
 obtain ⟨i, hi, rfl⟩ := List.getElem_of_mem hx
 have := h.h i
 rw [List.getD_eq_getElem?_getD, List.getElem?_eq_getElem hi] at this
 have h1 : 0 ≤ xs[i] ∧ xs[i] ≤ 255 := this
 unfold U8; omega
theorem Zbx {X : Za} {own : Bool} {id k : Int} {sec : List Int} (hs : sec.length = 32) (hb : Bytes sec) : YU Wc X own id k sec = YU Zq X own id k sec ∧ endX Wc X own id k sec = endX Zq X own id k sec := by
 have e : Wc sec = Zq sec := Z7R (Z5P hb) (by omega)
 have e1 : YU Wc X own id k sec = YU Zq X own id k sec := by unfold YU; rw [e]
 exact ⟨e1, by unfold endX; rw [e1]⟩
def Zby (c : Bool) : YR := fun args h K => match args with
 | [.agg [_, _, _, _, _, _, _, _, _, _, _, _, .nslice ⟨b, 0, 70, 0, 0⟩ 70 _ _], _, _, _, _] => frA [b] h 20 args fun Bs a => match Bs, a with
  | [.rows 70 n f], [.agg cs, .bool own, .int .i64 id, .int .i64 k, .agg [.arr .u8 32 sec]] =>
   ∃ X, LD cs n f X ∧ X.Inv Zq ∧ (sec.length = 32 ∧ Bytes sec) ∧ (match c with
    | true => YU Zq X own id k sec = 0 ∧ K (.ret (.tuple [.agg ((endX Zq X own id k sec).c (slH h.next X.L.length)), .int .i64 0])) ⟨h.next + 1, (b, .rows 70 X.L.length (Z5 X.L)) :: (h.next, .rows 70 X.L.length (Z5 (endX Zq X own id k sec).L)) :: YP h.bs b⟩
    | false => YU Zq X own id k sec ≠ 0 ∧ K (.ret (.tuple [.agg (X.c (slH b X.L.length)), .int .i64 (YU Zq X own id k sec)])) ⟨h.next, (b, .rows 70 X.L.length (Z5 X.L)) :: YP h.bs b⟩)
  | _, _ => False
 | _ => False
theorem Zbz (c : Bool) (args : List AV) (h : Z9) (K : KO) (hl : Zby c args h K) : Zo PP 88 args h K := by
 unfold Zby at hl
 split at hl
 ·refine Spec.fsumm hl fun Bs a hlen hK0 => ?_
  split at hK0
  ·rename_i cs n f own id k sec
   obtain ⟨X, ⟨rfl, rfl, rfl⟩, hI, ⟨hs, hb⟩, hK⟩ := hK0
   obtain ⟨e1, e2⟩ := Zbx (X := X) (own := own) (id := id) (k := k) hs hb
   cases c with
   | true =>
    obtain ⟨he, hK1⟩ := hK
    exact ⟨_, _, _, _, _, .evM Z8a (ZgF X _ _ own id k sec Wc 1000 rfl hI.am.n hI.ok hs (Z5v _) (by decide) (by rw [e1]; exact he) e2.symm), by simp, .ret _ _ rfl, .cons _ _ _ _ _ _ rfl (.rows _ _ _ (fun _ _ => rfl)) (.cons _ _ _ _ _ _ rfl (.rows _ _ _ (fun _ _ => rfl)) .nil), hK1⟩
   | false =>
    obtain ⟨he, hK2⟩ := hK
    exact ⟨_, _, _, _, _, .evM Z8a (ZgE X _ own id k _ sec Wc 1000 rfl hI.am.n hI.ok hs (Z5v _) (by decide) e1.symm he), by simp, .ret _ _ rfl, .cons _ _ _ _ _ _ rfl (.rows _ _ _ (fun _ _ => rfl)) .nil, hK2⟩
  ·exact hK0.elim
 ·exact hl.elim
end Go.Tk
end
section
namespace Go.Tk
open IntKind (i64 u8 u32 u64 wrap)
noncomputable def Zdq : Zg := (G0.withP 85 sdS).withP 89 neS
theorem Z8b : Zdq.Ok := Zg.withP_ok (Zg.withP_ok Zw Z7a) ZcX
def Zef (X : Za) (L : List Z6) (n : Nat) (G Hd Lf : List Z6) : Z9 := ⟨6, [(0, .rows 70 n (Z5 L)), (1, .flat (X.c (slH 0 n))), (2, .flat (Yg.c .nilslice)), (3, .rows 70 G.length (Z5 G)), (4, .rows 70 Hd.length (Z5 Hd)), (5, .rows 70 Lf.length (Z5 Lf))]⟩
def Zdr (X : Za) (L : List Z6) (m : Int) (n i : Nat) (G Hd Lf : List Z6) : St := ⟨101, [(11, .int .i64 i), (2, pt 1), (1, .int .i64 m), (10, slH 3 G.length), (9, slH 4 Hd.length), (8, slH 5 Lf.length), (4, pt 2)], Zef X L n G Hd Lf, []⟩
def Z7b (X : Za) (L : List Z6) (n : Nat) (G Hd Lf : List Z6) : St := ⟨101, [(2, pt 1), (10, slH 3 G.length), (9, slH 4 Hd.length), (8, slH 5 Lf.length), (4, pt 2)], Zef X L n G Hd Lf, []⟩
theorem ZgG (X X1 : Za) (L : List Z6) (m : Int) (n i : Nat) (x : Z6) (G Hd Lf G1 Hd1 Lf1 : List Z6) (Z1 Z2 : Prop) (hn : n < 1000) (hXL : X.L = L) (hL : L.length = n) (hi : i ≤ n) (hm : 1 ≤ m ∧ m ≤ 4) (hX : YG X) (hx : i < n → L.getD i Zc = x) (hst : i < n → 1 ≤ x.stage ∧ x.stage ≤ 9) (hb : G.length < 1000 ∧ Hd.length < 1000 ∧ Lf.length < 1000) (hG : i < n → G1 = G ++ YM (decide (ZR x.own x.stage m = 10)) (stH m x)) (hH : i < n → Hd1 = Hd ++ YM (decide (x.stage = 4 ∧ XZ x.own 4 = m)) (stH m x)) (hLf : i < n → Lf1 = Lf ++ YM (decide (¬ ZR x.own x.stage m = 10)) (stH m x)) (hX1 : i < n → X1 = if ZR x.own x.stage m = 10 then { X with a0 := (XJ X.side (X.a0, X.a1) (stH m x)).1, a1 := (XJ X.side (X.a0, X.a1) (stH m x)).2 } else X) (hw : i < n → ZR x.own x.stage m = 10 → x.fin = 1 → (-1152921504606846976 ≤ X.a0 ∧ X.a0 ≤ 1152921504606846976) ∧ (-1152921504606846976 ≤ X.a1 ∧ X.a1 ≤ 1152921504606846976) ∧ 0 ≤ x.amount ∧ x.amount ≤ 1152921504606846976) (hZ1 : i < n → Z1) (hZ2 : i = n → Z2) :
  ZI Zdq 20 37 0 1 (Zdr X L m n i G Hd Lf) (rdM 1 0 9 (Zdr X1 L m n (i + 1) G1 Hd1 Lf1) (Z7b X L n G Hd Lf) (Z7b X L n G Hd Lf) (Z7b X L n G Hd Lf) Z1 Z2 False False) := by
 refine @Eq.mpr _ (let q1 := 0 + Int.toNat (↑i : Int);
 let q2 := List.getD L q1 Zc;
 let q3 := q2.stage;
 let q4 := q2.own;
 let q5 := ZR q4 q3 m;
 let q6 := List.length G;
 let q7 := decide (q6 = q6);
 let q8 := q6 + 1;
 let q9 := q2.fin;
 let q10 := X.t;
 let q11 := q10.fund;
 let q12 := q10.index;
 let q13 := q10.cap;
 let q14 := q10.dust;
 let q15 := q10.fee;
 let q16 := q10.delay;
 let q17 := q10.k0;
 let q18 := q10.k1;
 let q19 := X.side;
 let q20 := X.res;
 let q21 := [X.a0, X.a1];
 let q22 := [X.i0, X.i1];
 let q23 := Z5 L;
 let q24 := q2.amount;
 let q25 := decide (wrap i64 ((↑i : Int) + 1) = (↑(i + 1) : Int));
 let q26 := decide (m = m);
 let q27 := List.length G1;
 let q28 := decide (q8 = q27);
 let q29 := decide (q27 ≤ q8);
 let q30 := List.length Hd;
 let q31 := List.length Hd1;
 let q32 := decide (q30 = q31);
 let q33 := decide (q31 ≤ q30);
 let q34 := List.length Lf;
 let q35 := List.length Lf1;
 let q36 := decide (q34 = q35);
 let q37 := decide (q35 ≤ q34);
 let q38 := decide (n = n);
 let q39 := (2, 2);
 let q40 := [(1, 1)];
 let q41 := q39 :: (5, 5) :: (4, 4) :: (3, 8) :: q40;
 let q42 := Z8 1 q41 n q23 q23;
 let q43 := X1.t;
 let q44 := q11 = q43.fund;
 let q45 := decide (q12 = q43.index);
 let q46 := decide (q13 = q43.cap);
 let q47 := decide (q14 = q43.dust);
 let q48 := decide (q15 = q43.fee);
 let q49 := decide (q16 = q43.delay);
 let q50 := q17 = q43.k0;
 let q51 := q18 = q43.k1;
 let q52 := decide (q19 = X1.side);
 let q53 := decide (q20 = X1.res);
 let q54 := [X1.a0, X1.a1];
 let q55 := q22 = [X1.i0, X1.i1];
 let q56 := decide (n ≤ n);
 let q57 := Yg.t;
 let q58 := q57.fund;
 let q59 := q58 = q58;
 let q60 := q57.k0;
 let q61 := q60 = q60;
 let q62 := q57.k1;
 let q63 := q62 = q62;
 let q64 := [Yg.a0, Yg.a1];
 let q65 := q64 = q64;
 let q66 := [Yg.i0, Yg.i1];
 let q67 := q66 = q66;
 let q68 := Z5 G1;
 let q69 := Z5 G;
 let q70 := YD [AV.bool q4, AV.int i64 q2.id, AV.int i64 q24, AV.arr u8 32 q2.hash, AV.int i64 q2.expiry, AV.int i64 q5, AV.int i64 q9, AV.arr u8 32 q2.secret] 0 70;
 let q71 := Z5 Hd1;
 let q72 := Z5 Hd;
 let q73 := Z5 Lf1;
 let q74 := Z5 Lf;
 let q75 := q55 ∧ Z0 q38 (Z0 q56 (q59 ∧ q61 ∧ q63 ∧ q65 ∧ q67 ∧ Z0 q28 (Z8 1 q41 q27 q68 (ZV q6 q69 q70) ∧ Z0 q32 (Z8 1 q41 q31 q71 q72 ∧ Z0 q36 (Z8 1 q41 q35 q73 q74 ∧ Z1) False) False) False) False) False;
 let q76 := q21 = q54;
 let q77 := decide (q30 = q30);
 let q78 := q30 + 1;
 let q79 := decide (q34 = q34);
 let q80 := q34 + 1;
 let q81 := decide (q80 * 112 ≤ 140737488355328);
 let q82 := decide (q6 = q27);
 let q83 := decide (q27 ≤ q6);
 let q84 := decide (q78 = q31);
 let q85 := decide (q80 = q35);
 let q86 := decide (q35 ≤ q80);
 let q87 := (3, 3) :: q40;
 let q88 := q39 :: (5, 10) :: (4, 8) :: q87;
 let q89 := ZV q34 q74 q70;
 let q90 := (4, 4) :: q87;
 let q91 := q39 :: (5, 8) :: q90;
 let q92 := Z0 q79 (Z0 q81 (Z0 q25 (Z0 q26 (Z0 q82 (Z0 q83 (Z0 q32 (Z0 q33 (Z0 q85 (Z0 q86 (Z0 q38 (Z8 1 q91 n q23 q23 ∧ q44 ∧ Z0 q45 (Z0 q46 (Z0 q47 (Z0 q48 (Z0 q49 (q50 ∧ q51 ∧ Z0 q52 (Z0 q53 (q76 ∧ q55 ∧ Z0 q38 (Z0 q56 (q59 ∧ q61 ∧ q63 ∧ q65 ∧ q67 ∧ Z0 q82 (Z8 1 q91 q27 q68 q69 ∧ Z0 q32 (Z8 1 q91 q31 q71 q72 ∧ Z0 q85 (Z8 1 q91 q35 q73 q89 ∧ Z1) False) False) False) False) False) False) False) False) False) False) False) False) False) False) False) False) False) False) False) False) False) False) False;
 let q93 := q39 :: (5, 5) :: q90;
 Z0 (decide ((↑i : Int) < (↑n : Int)))
 (Z0 (decide (0 ≤ (↑i : Int) ∧ (↑i : Int) < (↑n : Int)))
 (Z0 (decide (q1 < n))
 (Z0 (decide ((1 ≤ q3 ∧ q3 ≤ 9) ∧ 1 ≤ m ∧ m ≤ 4))
 (Z0 (q5 == 10)
 (Z0 q7
 (Z0 (decide (q8 * 112 ≤ 140737488355328))
 (Z0 (q9 == 1)
 (Z0 (decide (0 + n ≤ n))
 ((∀ (i : Nat), i < n → true = true) ∧
 ∃ (X_1 : Za),
 let q187 := X_1.side;
 let q188 := ZN q187 q4;
 let q189 := decide (0 ≤ q188 ∧ q188 < 2);
 let q190 := 0 + Int.toNat q188;
 let q191 := wrap i64 (1 - q188);
 let q192 := decide (0 ≤ q191 ∧ q191 < 2);
 let q193 := 0 + Int.toNat q191;
 let q194 := List.set q21 q190 (wrap i64 (List.getD q21 q190 0 - q24));
 LV [AV.arr u8 32 q11, AV.int i64 q12, AV.int i64 q13, AV.int i64 q14, AV.int i64 q15, AV.int i64 q16, AV.arr u8 32 q17, AV.arr u8 32 q18, AV.int i64 q19, AV.int i64 q20, AV.arr i64 2 q21, AV.arr i64 2 q22, AV.vrows 70 n (ZT 0 q23) n] X_1 ∧
 (0 ≤ q187 ∧ q187 ≤ 1) ∧ Z0 q189 (Z0 (decide (q190 < 2)) (Z0 q189 (Z0 (decide (i64 = i64 ∧ q190 < 2 ∧ q190 < 2)) (Z0 q192 (Z0 (decide (q193 < 2)) (Z0 q192 (Z0 (decide (i64 = i64 ∧ q193 < 2 ∧ q193 < List.length q194)) (Z0 q25 (Z0 q26 (Z0 q28 (Z0 q29 (Z0 q32 (Z0 q33 (Z0 q36 (Z0 q37 (Z0 q38 (q42 ∧ q44 ∧ Z0 q45 (Z0 q46 (Z0 q47 (Z0 q48 (Z0 q49 (q50 ∧ q51 ∧ Z0 q52 (Z0 q53 (List.set q194 q193 (wrap i64 (List.getD q194 q193 0 + q24)) = q54 ∧ q75) False) False) False) False) False) False) False) False) False) False) False) False) False) False) False) False) False) False) False) False) False) False) False) False)
 False)
 (Z0 q25 (Z0 q26 (Z0 q28 (Z0 q29 (Z0 q32 (Z0 q33 (Z0 q36 (Z0 q37 (Z0 q38 (q42 ∧ q44 ∧ Z0 q45 (Z0 q46 (Z0 q47 (Z0 q48 (Z0 q49 (q50 ∧ q51 ∧ Z0 q52 (Z0 q53 (q76 ∧ q75) False) False) False) False) False) False) False) False) False) False) False) False) False) False) False) False))
 False)
 False)
 (Z0 (decide (XZ q4 q3 = m)) (Z0 (q5 == 5) (Z0 q77 (Z0 (decide (q78 * 112 ≤ 140737488355328)) (Z0 q79 (Z0 q81 (Z0 q25 (Z0 q26 (Z0 q82 (Z0 q83 (Z0 q84 (Z0 (decide (q31 ≤ q78)) (Z0 q85 (Z0 q86 (Z0 q38 (Z8 1 q88 n q23 q23 ∧ q44 ∧ Z0 q45 (Z0 q46 (Z0 q47 (Z0 q48 (Z0 q49 (q50 ∧ q51 ∧ Z0 q52 (Z0 q53 (q76 ∧ q55 ∧ Z0 q38 (Z0 q56 (q59 ∧ q61 ∧ q63 ∧ q65 ∧ q67 ∧ Z0 q82 (Z8 1 q88 q27 q68 q69 ∧ Z0 q84 (Z8 1 q88 q31 q71 (ZV q30 q72 q70) ∧ Z0 q85 (Z8 1 q88 q35 q73 q89 ∧ Z1) False) False) False) False) False) False) False) False) False) False) False) False) False) False) False) False) False) False) False) False) False) False) False) False) False) q92) q92))
 False)
 False)
 False)
 (Z0 q7 (Z0 (decide (q6 ≤ q6)) (Z0 q77 (Z0 (decide (q30 ≤ q30)) (Z0 q79 (Z0 (decide (q34 ≤ q34)) (Z0 q38 (Z8 1 q93 n q23 q23 ∧ q11 = q11 ∧ Z0 (decide (q12 = q12)) (Z0 (decide (q13 = q13)) (Z0 (decide (q14 = q14)) (Z0 (decide (q15 = q15)) (Z0 (decide (q16 = q16)) (q17 = q17 ∧ q18 = q18 ∧ Z0 (decide (q19 = q19)) (Z0 (decide (q20 = q20)) (q21 = q21 ∧ q22 = q22 ∧ Z0 q38 (Z0 q56 (q59 ∧ q61 ∧ q63 ∧ q65 ∧ q67 ∧ Z0 q7 (Z8 1 q93 q6 q69 q69 ∧ Z0 q77 (Z8 1 q93 q30 q72 q72 ∧ Z0 q79 (Z8 1 q93 q34 q74 q74 ∧ Z2) False) False) False) False) False) False) False) False) False) False) False) False) False) False) False) False) False) False) False)) (by kernel_rfl) ?_
 conv => zeta
 try simp only [Zi]
 try simp only [Zj]
 try simp only [Zk]
 try simp only [Zl]
 try simp only [Zm]
 try simp only [Zh]
 try simp only [Int.toNat_natCast, Nat.zero_add, true_and, and_true, Nat.le_refl]
 refine ⟨fun hc => ?_, fun hc => ?_⟩
 ·have hlt : i < n := by omega
  rw [hx hlt]
  have hG := hG hlt
  have hH := hH hlt
  have hLf := hLf hlt
  have hX1 := hX1 hlt
  have hst := hst hlt
  have hw := hw hlt
  have hwr : i64.wrap ((i : Int) + 1) = ((i + 1 : Nat) : Int) := by rw [w64 (by omega)]; omega
  rw [hwr]
  have hR : ∀ τ k (Q : List Z6), Z8 1 τ k (Z5 Q) (Z5 Q) := fun τ k Q => Zn fun _ _ => rfl
  have hC : ∀ τ (Q : List Z6) (y : Z6), Z8 1 τ (Q ++ [y]).length (Z5 (Q ++ [y])) (ZV Q.length (Z5 Q) (YD y.c 0 70)) := fun τ Q y => Zn fun j hj => Ym rfl (fun _ _ => rfl) (by simpa using hj)
  refine ⟨by omega, hlt, ⟨hst, hm⟩, fun h10 => ⟨by omega, fun hf => ?_, fun hf => ?_⟩, fun h10 => ⟨fun ho => ⟨fun h5 => ?_, fun h5 => ?_⟩, fun ho => ?_⟩⟩
  ·have h10 : ZR x.own x.stage m = 10 := by simpa using h10
   have h9 := Z74 hst h10
   rw [decide_eq_true h10] at hG
   rw [decide_eq_false (by omega)] at hH
   rw [decide_eq_false (by simp [h10])] at hLf
   rw [if_pos h10] at hX1
   simp only [YM, List.append_nil] at hG hH hLf
   have hf : x.fin = 1 := by simpa using hf
   obtain ⟨b1, b2, b3⟩ := hw h10 hf
   have hs : X.side = 0 ∨ X.side = 1 := by obtain ⟨s1, s2⟩ := hX; omega
   have hfr := Z3z hs x.own
   have hwf : i64.wrap (1 - ZN X.side x.own) = 1 - ZN X.side x.own := w64 (by omega)
   subst hG hH hLf hX1
   refine ⟨fun _ _ => trivial, X, ?_, hX, ?_⟩
   ·refine .a ?_
    rw [hXL, hL]; rfl
   rw [hwf, Uo hfr b1 b2 b3]
   have em := U0 (side := X.side) (a := X.a0) (b := X.a1) (h := stH m x) hf
   have e1 : [X.a0, X.a1].set (ZN X.side x.own).toNat (i64.wrap ([X.a0, X.a1].getD (ZN X.side x.own).toNat 0 - x.amount)) = [X.a0, X.a1].set (ZN X.side x.own).toNat (i64.wrap ([X.a0, X.a1].getD (ZN X.side x.own).toNat 0 - x.amount)) := rfl
   have hlen2 : ([X.a0, X.a1].set (ZN X.side x.own).toNat (i64.wrap ([X.a0, X.a1].getD (ZN X.side x.own).toNat 0 - x.amount))).length = 2 := by simp
   rw [hlen2]
   repeat' apply And.intro
   all_goals first | omega | rfl | exact hZ1 hlt | exact hC _ _ _ | exact hR _ _ _ | (simp; done) | exact em.symm
  ·have h10 : ZR x.own x.stage m = 10 := by simpa using h10
   have h9 := Z74 hst h10
   rw [decide_eq_true h10] at hG
   rw [decide_eq_false (by omega)] at hH
   rw [decide_eq_false (by simp [h10])] at hLf
   rw [if_pos h10, QE (h := stH m x) (show ¬ x.fin = 1 by simpa using hf)] at hX1
   simp only [YM, List.append_nil] at hG hH hLf
   have hX1 : X1 = X := hX1
   subst hG hH hLf hX1
   repeat' apply And.intro
   all_goals first | omega | rfl | exact hZ1 hlt | exact hC _ _ _ | exact hR _ _ _ | (simp; done)
  all_goals
   have h10 : ¬ ZR x.own x.stage m = 10 := by simpa using h10
   rw [decide_eq_false h10] at hG
   rw [decide_eq_true h10] at hLf
   rw [if_neg h10] at hX1
   simp only [YM, List.append_nil] at hG hLf
   subst hG hLf hX1
  ·have ho : XZ x.own x.stage = m := ho
   have h5 : ZR x.own x.stage m = 5 := by simpa using h5
   have h4 : x.stage = 4 := by unfold ZR at h5; rw [if_pos ho] at h5; omega
   rw [decide_eq_true ⟨h4, by rw [← h4]; exact ho⟩] at hH
   simp only [YM] at hH
   subst hH
   repeat' apply And.intro
   all_goals first | omega | rfl | exact hZ1 hlt | exact hC _ _ _ | exact hR _ _ _ | (simp; done)
  all_goals
   have hH' : Hd1 = Hd := by
    rw [hH, decide_eq_false]
    ·simp [YM]
    ·intro hq
     simp [ZR, hq.1, hq.2] at *
   subst hH'
   repeat' apply And.intro
   all_goals first | omega | rfl | exact hZ1 hlt | exact hC _ _ _ | exact hR _ _ _ | (simp; done)
 ·repeat' apply And.intro
  all_goals first | omega | rfl | exact hZ2 (by omega) | exact Zn fun _ _ => rfl
def Z8c (X : Za) (m : Int) (n i : Nat) : St := Zdr (stX X m i) X.L m n i (ZP m (X.L.take i)) (Yd m (X.L.take i)) (Yc m (X.L.take i))
def Z8d (X : Za) (m : Int) (n i : Nat) : St := Z7b (stX X m i) X.L n (ZP m (X.L.take i)) (Yd m (X.L.take i)) (Yc m (X.L.take i))
theorem ZgH (X : Za) (m : Int) (n i : Nat) (hC : Z5J X m n) (hi : i ≤ n) : ZI Zdq 20 37 0 1 (Z8c X m n i) (rdM 1 0 9 (Z8c X m n (i + 1)) (Z8d X m n i) (Z8d X m n i) (Z8d X m n i) (i < n ∧ i < n) (i = n) False False) := by
 obtain ⟨h1, h2, h3, h4, h5, h6⟩ := id hC
 have hlt : i < n → i < X.L.length := fun h => by omega
 have l0 : (X.L.take i).length ≤ 16 := by rw [List.length_take]; omega
 have l1 := Z2A m (X.L.take i)
 have l2 := Z2B m (X.L.take i)
 have l3 := Z5I m (X.L.take i)
 refine ZgG (stX X m i) (stX X m (i + 1)) X.L m n i (X.L.getD i Zc) _ _ _ _ _ _ (i < n ∧ i < n) (i = n) (by omega) rfl h1 hi h3 (show 0 ≤ X.side ∧ X.side ≤ 1 by omega) (fun _ => rfl) (fun h => (h5 _ (ZK (hlt h))).1) ⟨by omega, by omega, by omega⟩ (fun h => ?_) (fun h => ?_) (fun h => ?_) (fun h => Z5H (hlt h)) (fun h _ _ => ?_) (fun h => ⟨h, h⟩) (fun h => h)
 ·rw [Yb (hlt h), Qa]
 ·rw [Yb (hlt h), Z2z]
 ·rw [Yb (hlt h), Z2y]
 ·obtain ⟨b1, b2⟩ := Z3C (i := i) hC
  have := (h5 _ (ZK (hlt h))).2
  exact ⟨b1, b2, this.1, by omega⟩
noncomputable def Z8e (X : Za) (m : Int) (n : Nat) (C : Prop) (E : Nat → St) : Zg := Zdq.withL 37 0 (goM 1 (Zdr X X.L m n 0 [] [] []) C (Yv 0 n 9 (fun i => i < n) (fun i => i = n) (fun _ => False) (fun _ => False) E E E))
theorem ZbA (X : Za) (m : Int) (n : Nat) : (Z8e X m n (Z5J X m n) (Z8d X m n)).Ok :=
 Zg.withGoM (N := 20) (S := Z8c X m n) Z8b (by kernel_rfl) fun hC => ⟨rfl, fun i hi _ => ZgH X m n i hC hi⟩
theorem ZgI (X X' : Za) (m : Int) (n l g d : Nat) (G Hd : List Z6) (C : Prop) (XF : Nat → Za) (GF HF LF : Nat → List Z6) (hC : C) (hm : 1 ≤ m ∧ m ≤ 4) (hG : G = GF n) (hH : Hd = HF n) (hX' : X' = { XF n with L := LF n }) (hl : l = X'.L.length) (hg : g = G.length) (hd : d = Hd.length) :
  evF (Z8e X m n C fun i => Z7b (XF i) X.L n (GF i) (HF i) (LF i)) 20 37 [.agg (X.c (slH 0 n)), .int .i64 m] ⟨1, [(0, .rows 70 n (Z5 X.L))]⟩ (YQ 1 (.ret (.tuple [.agg (X'.c (slH 1 l)), slH 3 d, slH 2 g, .int .i64 0])) 4 [(0, .rows 70 n (Z5 X.L)), (1, .rows 70 l (Z5 X'.L)), (2, .rows 70 g (Z5 G)), (3, .rows 70 d (Z5 Hd))]) := by
 refine @Eq.mpr _ (let q1 := decide (n = n);
 let q2 := Z5 X.L;
 let q3 := X.t;
 let q4 := q3.fund;
 let q5 := q3.index;
 let q6 := q3.cap;
 let q7 := q3.dust;
 let q8 := q3.fee;
 let q9 := q3.delay;
 let q10 := q3.k0;
 let q11 := q3.k1;
 let q12 := [X.a0, X.a1];
 let q13 := [X.i0, X.i1];
 let q14 := Yg.t;
 let q15 := [(0 : Int), 0];
 let q16 := X'.t;
 let q17 := [(2, 3), (3, 4), (1, 5)];
 Z0 (decide (m < 1)) False
 (Z0 (decide (m > 4)) False
 (Z0 (decide (m = m))
 (Z0 q1
 (Z8 1 [(2, 2), (1, 1)] n q2 q2 ∧
 q4 = q4 ∧
 Z0 (decide (q5 = q5))
 (Z0 (decide (q6 = q6))
 (Z0 (decide (q7 = q7))
 (Z0 (decide (q8 = q8))
 (Z0 (decide (q9 = q9))
 (q10 = q10 ∧
 q11 = q11 ∧
 Z0 (decide (X.side = X.side))
 (Z0 (decide (X.res = X.res))
 (q12 = q12 ∧
 q13 = q13 ∧
 Z0 q1
 (Z0 (decide (n ≤ n))
 (Zd = q14.fund ∧
 Zd = q14.k0 ∧
 Zd = q14.k1 ∧
 q15 = [Yg.a0, Yg.a1] ∧
 q15 = [Yg.i0, Yg.i1] ∧
 C ∧
 ∀ (i : Nat),
 let q35 := (XF i).t;
 let q36 := decide (List.length (LF i) = l);
 let q37 := decide (List.length (HF i) = d);
 let q38 := decide (List.length (GF i) = g);
 i ≤ n → (∀ (j : Nat), j < i → (fun (i : Nat) => i < n) j) → (i = n → q35.fund = q16.fund ∧ Z0 (decide (q35.index = q16.index)) (Z0 (decide (q35.cap = q16.cap)) (Z0 (decide (q35.dust = q16.dust)) (Z0 (decide (q35.fee = q16.fee)) (Z0 (decide (q35.delay = q16.delay)) (q35.k0 = q16.k0 ∧ q35.k1 = q16.k1 ∧ Z0 (decide ((XF i).side = X'.side)) (Z0 (decide ((XF i).res = X'.res)) ([(XF i).a0, (XF i).a1] = [X'.a0, X'.a1] ∧ [(XF i).i0, (XF i).i1] = [X'.i0, X'.i1] ∧ Z0 q36 (Z0 (decide (l ≤ List.length (LF i))) (Z0 q37 (Z0 (decide (d ≤ List.length (HF i))) (Z0 q38 (Z0 (decide (g ≤ List.length (GF i))) (Z0 q1 (Z8 1 q17 n q2 q2 ∧ Z0 q36 (Z8 1 q17 l (Z5 X'.L) (Z5 (LF i)) ∧ Z0 q38 (Z8 1 q17 g (Z5 G) (Z5 (GF i)) ∧ Z0 q37 (Z8 1 q17 d (Z5 Hd) (Z5 (HF i)) ∧ True) False) False) False) False) False) False) False) False) False) False) False) False) False) False) False) False) False) ∧ (False → False) ∧ (False → False))
 False)
 False)
 False)
 False)
 False)
 False)
 False)
 False)
 False)
 False)
 False))) (by kernel_rfl) ?_
 conv => zeta
 try simp only [Zi]
 try simp only [Zj]
 try simp only [Zk]
 try simp only [Zl]
 try simp only [Zm]
 try simp only [Zh]
 try simp only [Int.toNat_natCast, Nat.zero_add, true_and, and_true, Nat.le_refl]
 subst hG hH hX'
 have hR : ∀ τ k (Q : List Z6), Z8 1 τ k (Z5 Q) (Z5 Q) := fun τ k Q => Zn fun _ _ => rfl
 refine ⟨by omega, by omega, hR _ _ _, rfl, rfl, rfl, rfl, rfl, hC, fun i hi _ => ⟨fun he => ?_, fun h => h, fun h => h⟩⟩
 subst he
 repeat' apply And.intro
 all_goals first | rfl | exact hR _ _ _ | exact hl.symm | exact hg.symm | exact hd.symm | exact Nat.le_of_eq hl | exact Nat.le_of_eq hg | exact Nat.le_of_eq hd
theorem ZgJ (X : Za) (m : Int) (n : Nat) (C : Prop) (hm : ¬ (1 ≤ m ∧ m ≤ 4)) :
  evF (Z8e X m n C fun _ => Z7b X [] n [] [] []) 20 37 [.agg (X.c (slH 0 n)), .int .i64 m] ⟨1, [(0, .rows 70 n (Z5 X.L))]⟩ (YQ 1 (.ret (.tuple [.agg (X.c (slH 0 n)), .nilslice, .nilslice, .int .i64 2])) 1 [(0, .rows 70 n (Z5 X.L))]) := by
 refine @Eq.mpr _ (let q1 := X.t;
 let q2 := q1.fund;
 let q3 := q2 = q2;
 let q4 := q1.index;
 let q5 := decide (q4 = q4);
 let q6 := q1.cap;
 let q7 := decide (q6 = q6);
 let q8 := q1.dust;
 let q9 := decide (q8 = q8);
 let q10 := q1.fee;
 let q11 := decide (q10 = q10);
 let q12 := q1.delay;
 let q13 := decide (q12 = q12);
 let q14 := q1.k0;
 let q15 := q14 = q14;
 let q16 := q1.k1;
 let q17 := q16 = q16;
 let q18 := decide (X.side = X.side);
 let q19 := decide (X.res = X.res);
 let q20 := [X.a0, X.a1];
 let q21 := q20 = q20;
 let q22 := [X.i0, X.i1];
 let q23 := q22 = q22;
 let q24 := decide (n = n);
 let q25 := decide (n ≤ n);
 let q26 := Z5 X.L;
 let q27 := q3 ∧ Z0 q5 (Z0 q7 (Z0 q9 (Z0 q11 (Z0 q13 (q15 ∧ q17 ∧ Z0 q18 (Z0 q19 (q21 ∧ q23 ∧ Z0 q24 (Z0 q25 (Z0 q24 (Z8 1 [] n q26 q26 ∧ True) False) False) False) False) False) False) False) False) False) False;
 let q28 := Yg.t;
 let q29 := [(0 : Int), 0];
 Z0 (decide (m < 1)) q27 (Z0 (decide (m > 4)) q27 (Z0 (decide (m = m)) (Z0 q24 (Z8 1 [(2, 2), (1, 1)] n q26 q26 ∧ q3 ∧ Z0 q5 (Z0 q7 (Z0 q9 (Z0 q11 (Z0 q13 (q15 ∧ q17 ∧ Z0 q18 (Z0 q19 (q21 ∧ q23 ∧ Z0 q24 (Z0 q25 (Zd = q28.fund ∧ Zd = q28.k0 ∧ Zd = q28.k1 ∧ q29 = [Yg.a0, Yg.a1] ∧ q29 = [Yg.i0, Yg.i1] ∧ C ∧ ∀ (i : Nat), i ≤ n → (∀ (j : Nat), j < i → (fun (i : Nat) => i < n) j) → (i = n → q3 ∧ Z0 q5 (Z0 q7 (Z0 q9 (Z0 q11 (Z0 q13 (q15 ∧ q17 ∧ Z0 q18 (Z0 q19 (q21 ∧ q23 ∧ False) False) False) False) False) False) False) False) ∧ (False → False) ∧ (False → False)) False) False) False) False) False) False) False) False) False) False) False))) (by kernel_rfl) ?_
 conv => zeta
 try simp only [Zi]
 try simp only [Zj]
 try simp only [Zk]
 try simp only [Zl]
 try simp only [Zm]
 try simp only [Zh]
 try simp only [Int.toNat_natCast, Nat.zero_add, true_and, and_true, Nat.le_refl]
 have hR : ∀ τ k (Q : List Z6), Z8 1 τ k (Z5 Q) (Z5 Q) := fun τ k Q => Zn fun _ _ => rfl
 exact ⟨fun _ => hR _ _ _, fun h1 => ⟨fun _ => hR _ _ _, fun h2 => absurd ⟨by omega, by omega⟩ hm⟩⟩
def Z7c (c : Bool) : YR := fun args h K => match args with
 | [.agg [_, _, _, _, _, _, _, _, _, _, _, _, .nslice ⟨b, 0, 70, 0, 0⟩ 70 _ _], _] => frA [b] h 20 args fun Bs a => match Bs, a with
  | [.rows 70 n f], [.agg cs, .int .i64 m] =>
   ∃ X, LD cs n f X ∧ X.Inv Zq ∧ (match c with
    | true => (1 ≤ m ∧ m ≤ 4) ∧ K (.ret (.tuple [.agg ((stpX X m).c (slH h.next (stpX X m).L.length)), slH (h.next + 2) (Yd m X.L).length, slH (h.next + 1) (ZP m X.L).length, .int .i64 0])) ⟨h.next + 3, (b, .rows 70 X.L.length (Z5 X.L)) :: (h.next, .rows 70 (stpX X m).L.length (Z5 (stpX X m).L)) :: (h.next + 1, .rows 70 (ZP m X.L).length (Z5 (ZP m X.L))) :: (h.next + 2, .rows 70 (Yd m X.L).length (Z5 (Yd m X.L))) :: YP h.bs b⟩
    | false => ¬ (1 ≤ m ∧ m ≤ 4) ∧ K (.ret (.tuple [.agg (X.c (slH b X.L.length)), .nilslice, .nilslice, .int .i64 2])) ⟨h.next, (b, .rows 70 X.L.length (Z5 X.L)) :: YP h.bs b⟩)
  | _, _ => False
 | _ => False
theorem Z9j (c : Bool) (args : List AV) (h : Z9) (K : KO) (hl : Z7c c args h K) : Zo PP 37 args h K := by
 unfold Z7c at hl
 split at hl
 ·refine Spec.fsumm hl fun Bs a hlen hK0 => ?_
  split at hK0
  ·rename_i cs n f m
   obtain ⟨X, ⟨rfl, rfl, rfl⟩, hI, hK⟩ := hK0
   cases c with
   | true =>
    obtain ⟨hm, hK1⟩ := hK
    have e := Z84 (X := X) hm
    have hv := ZgI X (stpX X m) m X.L.length _ _ _ (ZP m X.L) (Yd m X.L) (Z5J X m X.L.length) (stX X m) (fun i => ZP m (X.L.take i)) (fun i => Yd m (X.L.take i)) (fun i => Yc m (X.L.take i)) (hI.st hm) hm (by rw [List.take_length]) (by rw [List.take_length]) (by dsimp only; rw [List.take_length]; exact e) rfl rfl rfl
    exact ⟨_, _, _, _, _, .evM (ZbA X m _) hv, by simp, .ret _ _ rfl, .cons _ _ _ _ _ _ rfl (.rows _ _ _ (fun _ _ => rfl)) (.cons _ _ _ _ _ _ rfl (.rows _ _ _ (fun _ _ => rfl)) (.cons _ _ _ _ _ _ rfl (.rows _ _ _ (fun _ _ => rfl)) (.cons _ _ _ _ _ _ rfl (.rows _ _ _ (fun _ _ => rfl)) .nil))), hK1⟩
   | false =>
    obtain ⟨hm, hK2⟩ := hK
    have hC : (Z8e X m X.L.length False fun _ => Z7b X [] X.L.length [] [] []).Ok := Zg.withGoM (N := 20) (S := fun i => Z8c X m X.L.length i) Z8b (by kernel_rfl) fun h => h.elim
    exact ⟨_, _, _, _, _, .evM hC (ZgJ X m _ False hm), by simp, .ret _ _ rfl, .cons _ _ _ _ _ _ rfl (.rows _ _ _ (fun _ _ => rfl)) .nil, hK2⟩
  ·exact hK0.elim
 ·exact hl.elim
end Go.Tk
end
section
namespace Go.Tk
open IntKind (i64 u8 u32 u64 wrap)
noncomputable def Zds : Zg := G0.withP 90 bkS
theorem Zdt : Zds.Ok := Zg.withP_ok Zw ZcZ
def Zeg (X : Za) (L : List Z6) (n : Nat) (G Lf : List Z6) : Z9 := ⟨5, [(0, .rows 70 n (Z5 L)), (1, .flat (X.c (slH 0 n))), (2, .flat (Yg.c .nilslice)), (3, .rows 70 G.length (Z5 G)), (4, .rows 70 Lf.length (Z5 Lf))]⟩
def Zdu (X : Za) (L : List Z6) (n i : Nat) (G Lf : List Z6) : St := ⟨53, [(6, .int .i64 i), (1, pt 1), (5, slH 3 G.length), (4, slH 4 Lf.length), (2, pt 2)], Zeg X L n G Lf, []⟩
def ZbB (X : Za) (L : List Z6) (n : Nat) (G Lf : List Z6) : St := ⟨53, [(1, pt 1), (5, slH 3 G.length), (4, slH 4 Lf.length), (2, pt 2)], Zeg X L n G Lf, []⟩
theorem ZgK (X X1 : Za) (L : List Z6) (n i : Nat) (x : Z6) (G Lf G1 Lf1 : List Z6) (Z1 Z2 : Prop) (hn : n < 1000) (hL : L.length = n) (hi : i ≤ n) (hx : i < n → L.getD i Zc = x) (hst : i < n → 1 ≤ x.stage ∧ x.stage ≤ 9) (hb : G.length < 1000 ∧ Lf.length < 1000) (hG : i < n → G1 = G ++ YM (decide (Yn x.own x.stage = 0)) x) (hLf : i < n → Lf1 = Lf ++ YM (decide (¬ Yn x.own x.stage = 0)) (brH x)) (hX1 : i < n → X1 = if Yn x.own x.stage = 0 then { X with i1 := X.i1 - 1 } else X) (hw : -1000 ≤ X.i1 ∧ X.i1 ≤ 2147483648) (hZ1 : i < n → Z1) (hZ2 : i = n → Z2) :
  ZI Zds 20 39 0 1 (Zdu X L n i G Lf) (rdM 1 0 9 (Zdu X1 L n (i + 1) G1 Lf1) (ZbB X L n G Lf) (ZbB X L n G Lf) (ZbB X L n G Lf) Z1 Z2 False False) := by
 refine @Eq.mpr _ (let q1 := 0 + Int.toNat (↑i : Int);
 let q2 := List.getD L q1 Zc;
 let q3 := q2.stage;
 let q4 := q2.own;
 let q5 := Yn q4 q3;
 let q6 := List.length G;
 let q7 := decide (q6 = q6);
 let q8 := q6 + 1;
 let q9 := decide (wrap i64 ((↑i : Int) + 1) = (↑(i + 1) : Int));
 let q10 := List.length G1;
 let q11 := decide (q8 = q10);
 let q12 := List.length Lf;
 let q13 := List.length Lf1;
 let q14 := decide (q12 = q13);
 let q15 := decide (n = n);
 let q16 := [(1, 1)];
 let q17 := (2, 2) :: (4, 4) :: (3, 7) :: q16;
 let q18 := Z5 L;
 let q19 := X.t;
 let q20 := q19.fund;
 let q21 := X1.t;
 let q22 := q20 = q21.fund;
 let q23 := q19.index;
 let q24 := decide (q23 = q21.index);
 let q25 := q19.cap;
 let q26 := decide (q25 = q21.cap);
 let q27 := q19.dust;
 let q28 := decide (q27 = q21.dust);
 let q29 := q19.fee;
 let q30 := decide (q29 = q21.fee);
 let q31 := q19.delay;
 let q32 := decide (q31 = q21.delay);
 let q33 := q19.k0;
 let q34 := q33 = q21.k0;
 let q35 := q19.k1;
 let q36 := q35 = q21.k1;
 let q37 := X.side;
 let q38 := decide (q37 = X1.side);
 let q39 := X.res;
 let q40 := decide (q39 = X1.res);
 let q41 := [X.a0, X.a1];
 let q42 := q41 = [X1.a0, X1.a1];
 let q43 := [X1.i0, X1.i1];
 let q44 := decide (n ≤ n);
 let q45 := Yg.t;
 let q46 := q45.fund;
 let q47 := q46 = q46;
 let q48 := q45.k0;
 let q49 := q48 = q48;
 let q50 := q45.k1;
 let q51 := q50 = q50;
 let q52 := [Yg.a0, Yg.a1];
 let q53 := q52 = q52;
 let q54 := [Yg.i0, Yg.i1];
 let q55 := q54 = q54;
 let q56 := Z5 G;
 let q57 := AV.bool q4;
 let q58 := AV.int i64 q2.id;
 let q59 := AV.int i64 q2.amount;
 let q60 := AV.arr u8 32 q2.hash;
 let q61 := AV.int i64 q2.expiry;
 let q62 := [AV.int i64 q2.fin, AV.arr u8 32 q2.secret];
 let q63 := Z5 Lf1;
 let q64 := Z5 Lf;
 let q65 := decide (q12 = q12);
 let q66 := q12 + 1;
 let q67 := decide (q66 * 112 ≤ 140737488355328);
 let q68 := decide (q6 = q10);
 let q69 := decide (q10 ≤ q6);
 let q70 := decide (q66 = q13);
 let q71 := decide (q13 ≤ q66);
 let q72 := (3, 3) :: q16;
 let q73 := (2, 2) :: (4, 7) :: q72;
 let q74 := Z8 1 q73 n q18 q18;
 let q75 := [X.i0, X.i1];
 let q76 := q75 = q43;
 let q77 := Z8 1 q73 q10 (Z5 G1) q56;
 let q78 := AV.int i64 q5;
 let q79 := (2, 2) :: (4, 4) :: q72;
 Z0 (decide ((↑i : Int) < (↑n : Int)))
 (Z0 (decide (0 ≤ (↑i : Int) ∧ (↑i : Int) < (↑n : Int)))
 (Z0 (decide (q1 < n))
 (Z0 (decide (1 ≤ q3 ∧ q3 ≤ 9))
 (Z0 (q5 == 0) (Z0 q7 (Z0 (decide (q8 * 112 ≤ 140737488355328)) (Z0 q9 (Z0 q11 (Z0 (decide (q10 ≤ q8)) (Z0 q14 (Z0 (decide (q13 ≤ q12)) (Z0 q15 (Z8 1 q17 n q18 q18 ∧ q22 ∧ Z0 q24 (Z0 q26 (Z0 q28 (Z0 q30 (Z0 q32 (q34 ∧ q36 ∧ Z0 q38 (Z0 q40 (q42 ∧ [X.i0, wrap i64 (X.i1 - 1)] = q43 ∧ Z0 q15 (Z0 q44 (q47 ∧ q49 ∧ q51 ∧ q53 ∧ q55 ∧ Z0 q11 (Z8 1 q17 q10 (Z5 G1) (ZV q6 q56 (YD (q57 :: q58 :: q59 :: q60 :: q61 :: AV.int i64 q3 :: q62) 0 70)) ∧ Z0 q14 (Z8 1 q17 q13 q63 q64 ∧ Z1) False) False) False) False) False) False) False) False) False) False) False) False) False) False) False) False) False) False) False)
 (Z0 (q5 == 5) (Z0 q65 (Z0 q67 (Z0 q9 (Z0 q68 (Z0 q69 (Z0 q70 (Z0 q71 (Z0 q15 (q74 ∧ q22 ∧ Z0 q24 (Z0 q26 (Z0 q28 (Z0 q30 (Z0 q32 (q34 ∧ q36 ∧ Z0 q38 (Z0 q40 (q42 ∧ q76 ∧ Z0 q15 (Z0 q44 (q47 ∧ q49 ∧ q51 ∧ q53 ∧ q55 ∧ Z0 q68 (q77 ∧ Z0 q70 (Z8 1 q73 q13 q63 (ZV q12 q64 (YD [q57, q58, q59, q60, q61, q78, AV.int i64 0, AV.arr u8 32 Zd] 0 70)) ∧ Z1) False) False) False) False) False) False) False) False) False) False) False) False) False) False) False) False) False) False) False)
 (Z0 q65 (Z0 q67 (Z0 q9 (Z0 q68 (Z0 q69 (Z0 q70 (Z0 q71 (Z0 q15 (q74 ∧ q22 ∧ Z0 q24 (Z0 q26 (Z0 q28 (Z0 q30 (Z0 q32 (q34 ∧ q36 ∧ Z0 q38 (Z0 q40 (q42 ∧ q76 ∧ Z0 q15 (Z0 q44 (q47 ∧ q49 ∧ q51 ∧ q53 ∧ q55 ∧ Z0 q68 (q77 ∧ Z0 q70 (Z8 1 q73 q13 q63 (ZV q12 q64 (YD (q57 :: q58 :: q59 :: q60 :: q61 :: q78 :: q62) 0 70)) ∧ Z1) False) False) False) False) False) False) False) False) False) False) False) False) False) False) False) False) False) False) False)))
 False)
 False)
 False)
 (Z0 q7 (Z0 (decide (q6 ≤ q6)) (Z0 q65 (Z0 (decide (q12 ≤ q12)) (Z0 q15 (Z8 1 q79 n q18 q18 ∧ q20 = q20 ∧ Z0 (decide (q23 = q23)) (Z0 (decide (q25 = q25)) (Z0 (decide (q27 = q27)) (Z0 (decide (q29 = q29)) (Z0 (decide (q31 = q31)) (q33 = q33 ∧ q35 = q35 ∧ Z0 (decide (q37 = q37)) (Z0 (decide (q39 = q39)) (q41 = q41 ∧ q75 = q75 ∧ Z0 q15 (Z0 q44 (q47 ∧ q49 ∧ q51 ∧ q53 ∧ q55 ∧ Z0 q7 (Z8 1 q79 q6 q56 q56 ∧ Z0 q65 (Z8 1 q79 q12 q64 q64 ∧ Z2) False) False) False) False) False) False) False) False) False) False) False) False) False) False) False) False)) (by kernel_rfl) ?_
 conv => zeta
 try simp only [Zi]
 try simp only [Zj]
 try simp only [Zk]
 try simp only [Zl]
 try simp only [Zm]
 try simp only [Zh]
 try simp only [Int.toNat_natCast, Nat.zero_add, true_and, and_true, Nat.le_refl]
 refine ⟨fun hc => ?_, fun hc => ?_⟩
 ·have hlt : i < n := by omega
  rw [hx hlt]
  have hG := hG hlt
  have hLf := hLf hlt
  have hX1 := hX1 hlt
  have hst := hst hlt
  have hwr : i64.wrap ((i : Int) + 1) = ((i + 1 : Nat) : Int) := by rw [w64 (by omega)]; omega
  have hwi : i64.wrap (X.i1 - 1) = X.i1 - 1 := w64 (by omega)
  rw [hwr, hwi]
  have hR : ∀ τ k (Q : List Z6), Z8 1 τ k (Z5 Q) (Z5 Q) := fun τ k Q => Zn fun _ _ => rfl
  have hC : ∀ τ (Q : List Z6) (y : Z6), Z8 1 τ (Q ++ [y]).length (Z5 (Q ++ [y])) (ZV Q.length (Z5 Q) (YD y.c 0 70)) := fun τ Q y => Zn fun j hj => Ym rfl (fun _ _ => rfl) (by simpa using hj)
  refine ⟨by omega, hlt, hst, fun h0 => ?_, fun h0 => ⟨fun h5 => ?_, fun h5 => ?_⟩⟩
  ·have h0 : Yn x.own x.stage = 0 := by simpa using h0
   rw [decide_eq_true h0] at hG
   rw [decide_eq_false (fun h => h h0)] at hLf
   rw [if_pos h0] at hX1
   simp only [YM, List.append_nil] at hG hLf
   subst hG hLf hX1
   repeat' apply And.intro
   all_goals first | omega | rfl | exact hZ1 hlt | exact hC _ _ _ | exact hR _ _ _ | (simp; done)
  all_goals
   have h0 : ¬ Yn x.own x.stage = 0 := by simpa using h0
   rw [decide_eq_false h0] at hG
   rw [decide_eq_true h0] at hLf
   rw [if_neg h0] at hX1
   simp only [YM, List.append_nil] at hG hLf
   subst hG hX1
  ·have h5 : Yn x.own x.stage = 5 := by simpa using h5
   rw [Zea h5] at hLf
   rw [h5]
   subst hLf
   repeat' apply And.intro
   all_goals first | omega | rfl | exact hZ1 hlt | exact hC _ _ ⟨x.own, x.id, x.amount, x.hash, x.expiry, 5, 0, Zd⟩ | exact hR _ _ _ | (simp; done)
  ·have h5 : ¬ Yn x.own x.stage = 5 := by simpa using h5
   have hb5 : brH x = ⟨x.own, x.id, x.amount, x.hash, x.expiry, Yn x.own x.stage, x.fin, x.secret⟩ := by unfold brH; rw [if_neg h5]
   rw [hb5] at hLf
   subst hLf
   repeat' apply And.intro
   all_goals first | omega | rfl | exact hZ1 hlt | exact hC _ _ ⟨x.own, x.id, x.amount, x.hash, x.expiry, Yn x.own x.stage, x.fin, x.secret⟩ | exact hR _ _ _ | (simp; done)
 ·repeat' apply And.intro
  all_goals first | omega | rfl | exact hZ2 (by omega) | exact Zn fun _ _ => rfl
def Z8f (X : Za) (n i : Nat) : St := Zdu (bkX X i) X.L n i (ZB (X.L.take i)) (Y9 (X.L.take i))
def Z8g (X : Za) (n i : Nat) : St := ZbB (bkX X i) X.L n (ZB (X.L.take i)) (Y9 (X.L.take i))
theorem ZgL (X : Za) (n i : Nat) (hC : Z77 X n) (hi : i ≤ n) : ZI Zds 20 39 0 1 (Z8f X n i) (rdM 1 0 9 (Z8f X n (i + 1)) (Z8g X n i) (Z8g X n i) (Z8g X n i) (i < n ∧ i < n) (i = n) False False) := by
 obtain ⟨h1, h2, h3, h4⟩ := id hC
 have hlt : i < n → i < X.L.length := fun h => by omega
 have l0 : (X.L.take i).length ≤ 16 := by rw [List.length_take]; omega
 have l1 : (ZB (X.L.take i)).length ≤ (X.L.take i).length := List.length_filter_le _ _
 have l2 : (Y9 (X.L.take i)).length ≤ (X.L.take i).length := by unfold Y9; rw [List.length_map]; exact List.length_filter_le _ _
 have e : ∀ k, (bkX X k).i1 = X.i1 - (ZB (X.L.take k)).length := fun _ => rfl
 refine ZgK (bkX X i) (bkX X (i + 1)) X.L n i (X.L.getD i Zc) _ _ _ _ (i < n ∧ i < n) (i = n) (by omega) h1 hi (fun _ => rfl) (fun h => h3 _ (ZK (hlt h))) ⟨by omega, by omega⟩ (fun h => ?_) (fun h => ?_) (fun h => ?_) (by rw [e]; omega) (fun h => ⟨h, h⟩) (fun h => h)
 ·rw [Yb (hlt h), Vr]
 ·rw [Yb (hlt h), Z2C]
 ·unfold bkX
  rw [Yb (hlt h), Vr]
  by_cases q : Yn (X.L.getD i Zc).own (X.L.getD i Zc).stage = 0
  ·rw [if_pos q, decide_eq_true q, YM, List.length_append]
   congr 1
   show X.i1 - ((_ + 1 : Nat) : Int) = _
   dsimp only; omega
  ·rw [if_neg q, decide_eq_false q, YM, List.append_nil]
noncomputable def Zeh (X : Za) (n : Nat) (C : Prop) (E : Nat → St) : Zg := Zds.withL 39 0 (goM 1 (Zdu X X.L n 0 [] []) C (Yv 0 n 9 (fun i => i < n) (fun i => i = n) (fun _ => False) (fun _ => False) E E E))
theorem ZbC (X : Za) (n : Nat) : (Zeh X n (Z77 X n) (Z8g X n)).Ok :=
 Zg.withGoM (N := 20) (S := Z8f X n) Zdt (by kernel_rfl) fun hC => ⟨by unfold Z8f; rw [Z5K]; rfl, fun i hi _ => ZgL X n i hC hi⟩
theorem ZgM (X X' : Za) (n l g : Nat) (G : List Z6) (C : Prop) (XF : Nat → Za) (GF LF : Nat → List Z6) (hC : C) (hG : G = GF n) (hX' : X' = { XF n with L := LF n }) (hl : l = X'.L.length) (hg : g = G.length) :
  evF (Zeh X n C fun i => ZbB (XF i) X.L n (GF i) (LF i)) 20 39 [.agg (X.c (slH 0 n))] ⟨1, [(0, .rows 70 n (Z5 X.L))]⟩ (YQ 1 (.ret (.tuple [.agg (X'.c (slH 1 l)), slH 2 g])) 3 [(0, .rows 70 n (Z5 X.L)), (1, .rows 70 l (Z5 X'.L)), (2, .rows 70 g (Z5 G))]) := by
 refine @Eq.mpr _ (let q1 := decide (n = n);
 let q2 := Z5 X.L;
 let q3 := X.t;
 let q4 := q3.fund;
 let q5 := q3.index;
 let q6 := q3.cap;
 let q7 := q3.dust;
 let q8 := q3.fee;
 let q9 := q3.delay;
 let q10 := q3.k0;
 let q11 := q3.k1;
 let q12 := [X.a0, X.a1];
 let q13 := [X.i0, X.i1];
 let q14 := Yg.t;
 let q15 := [(0 : Int), 0];
 let q16 := X'.t;
 let q17 := [(2, 3), (1, 4)];
 Z0 q1
 (Z8 1 [(2, 2), (1, 1)] n q2 q2 ∧
 q4 = q4 ∧
 Z0 (decide (q5 = q5))
 (Z0 (decide (q6 = q6))
 (Z0 (decide (q7 = q7))
 (Z0 (decide (q8 = q8))
 (Z0 (decide (q9 = q9))
 (q10 = q10 ∧
 q11 = q11 ∧
 Z0 (decide (X.side = X.side))
 (Z0 (decide (X.res = X.res))
 (q12 = q12 ∧
 q13 = q13 ∧
 Z0 q1
 (Z0 (decide (n ≤ n))
 (Zd = q14.fund ∧
 Zd = q14.k0 ∧
 Zd = q14.k1 ∧
 q15 = [Yg.a0, Yg.a1] ∧
 q15 = [Yg.i0, Yg.i1] ∧
 C ∧
 ∀ (i : Nat),
 let q35 := (XF i).t;
 let q36 := decide (List.length (LF i) = l);
 let q37 := decide (List.length (GF i) = g);
 i ≤ n → (∀ (j : Nat), j < i → (fun (i : Nat) => i < n) j) → (i = n → q35.fund = q16.fund ∧ Z0 (decide (q35.index = q16.index)) (Z0 (decide (q35.cap = q16.cap)) (Z0 (decide (q35.dust = q16.dust)) (Z0 (decide (q35.fee = q16.fee)) (Z0 (decide (q35.delay = q16.delay)) (q35.k0 = q16.k0 ∧ q35.k1 = q16.k1 ∧ Z0 (decide ((XF i).side = X'.side)) (Z0 (decide ((XF i).res = X'.res)) ([(XF i).a0, (XF i).a1] = [X'.a0, X'.a1] ∧ [(XF i).i0, (XF i).i1] = [X'.i0, X'.i1] ∧ Z0 q36 (Z0 (decide (l ≤ List.length (LF i))) (Z0 q37 (Z0 (decide (g ≤ List.length (GF i))) (Z0 q1 (Z8 1 q17 n q2 q2 ∧ Z0 q36 (Z8 1 q17 l (Z5 X'.L) (Z5 (LF i)) ∧ Z0 q37 (Z8 1 q17 g (Z5 G) (Z5 (GF i)) ∧ True) False) False) False) False) False) False) False) False) False) False) False) False) False) False) ∧ (False → False) ∧ (False → False))
 False)
 False)
 False)
 False)
 False)
 False)
 False)
 False)
 False)
 False) (by kernel_rfl) ?_
 conv => zeta
 try simp only [Zi]
 try simp only [Zj]
 try simp only [Zk]
 try simp only [Zl]
 try simp only [Zm]
 try simp only [Zh]
 try simp only [Int.toNat_natCast, Nat.zero_add, true_and, and_true, Nat.le_refl]
 subst hG hX'
 have hR : ∀ τ k (Q : List Z6), Z8 1 τ k (Z5 Q) (Z5 Q) := fun τ k Q => Zn fun _ _ => rfl
 refine ⟨hR _ _ _, rfl, rfl, rfl, rfl, rfl, hC, fun i hi _ => ⟨fun he => ?_, fun h => h, fun h => h⟩⟩
 subst he
 repeat' apply And.intro
 all_goals first | rfl | exact hR _ _ _ | exact hl.symm | exact hg.symm | exact Nat.le_of_eq hl | exact Nat.le_of_eq hg
def Z4B : YR := fun args h K => match args with
 | [.agg [_, _, _, _, _, _, _, _, _, _, _, _, .nslice ⟨b, 0, 70, 0, 0⟩ 70 _ _]] => frA [b] h 20 args fun Bs a => match Bs, a with
  | [.rows 70 n f], [.agg cs] =>
   ∃ X, LD cs n f X ∧ X.Inv Zq ∧ K (.ret (.tuple [.agg ((brkX X).c (slH h.next (brkX X).L.length)), slH (h.next + 1) (ZB X.L).length])) ⟨h.next + 2, (b, .rows 70 X.L.length (Z5 X.L)) :: (h.next, .rows 70 (brkX X).L.length (Z5 (brkX X).L)) :: (h.next + 1, .rows 70 (ZB X.L).length (Z5 (ZB X.L))) :: YP h.bs b⟩
  | _, _ => False
 | _ => False
theorem Z7d (args : List AV) (h : Z9) (K : KO) (hl : Z4B args h K) : Zo PP 39 args h K := by
 unfold Z4B at hl
 split at hl
 ·refine Spec.fsumm hl fun Bs a hlen hK0 => ?_
  split at hK0
  ·rename_i cs n f
   obtain ⟨X, ⟨rfl, rfl, rfl⟩, hI, hK⟩ := hK0
   have e := Z85 X
   have hv := ZgM X (brkX X) X.L.length _ _ (ZB X.L) (Z77 X X.L.length) (bkX X) (fun i => ZB (X.L.take i)) (fun i => Y9 (X.L.take i)) hI.bk (by rw [List.take_length]) (by dsimp only; rw [List.take_length]; exact e) rfl rfl
   exact ⟨_, _, _, _, _, .evM (ZbC X _) hv, by simp, .ret _ _ rfl, .cons _ _ _ _ _ _ rfl (.rows _ _ _ (fun _ _ => rfl)) (.cons _ _ _ _ _ _ rfl (.rows _ _ _ (fun _ _ => rfl)) (.cons _ _ _ _ _ _ rfl (.rows _ _ _ (fun _ _ => rfl)) .nil)), hK⟩
  ·exact hK0.elim
 ·exact hl.elim
end Go.Tk
end
section
namespace Go.Tk
open IntKind (i64 u8 u32 u64 wrap)
noncomputable def Zdv : Zg := (G0.withP 85 sdS).withP 91 Z9g
theorem Z8h : Zdv.Ok := Zg.withP_ok (Zg.withP_ok Zw Z7a) Zbb
def slP (b n : Nat) : AV := .nslice ⟨b, 0, 36, 0, 0⟩ 36 n n
def ZgN (X : Za) (k ow : Int) (pt : List Int) (a b : Int) (P : List YO) : Z9 := ⟨4, [(0, .flat (X.c (.vrows 70 X.L.length (Z5 X.L) X.L.length))), (1, .flat srZ), (2, .flat [.int .i64 k, .int .i64 ow, .arr .u8 32 pt, .arr .i64 2 [a, b], slP 3 P.length]), (3, .rows 36 P.length (ZE P))]⟩
def Zdw (X : Za) (o : Bool) (k ow : Int) (pt : List Int) (i : Nat) (a b : Int) (P : List YO) : St := ⟨113, [(11, .int .i64 i), (4, .ptr (some ⟨0, 0, 0, 0, 0⟩)), (1, .bool o), (10, .ptr (some ⟨2, 0, 0, 0, 0⟩)), (8, .ptr (some ⟨1, 0, 0, 0, 0⟩))], ZgN X k ow pt a b P, []⟩
def Z7e (k ow : Int) (pt : List Int) (a b : Int) (P : List YO) : St := ⟨113, [(10, .ptr (some ⟨1, 0, 0, 0, 0⟩)), (8, .ptr (some ⟨0, 0, 0, 0, 0⟩))], ⟨3, [(0, .flat srZ), (1, .flat [.int .i64 k, .int .i64 ow, .arr .u8 32 pt, .arr .i64 2 [a, b], slP 2 P.length]), (2, .rows 36 P.length (ZE P))]⟩, []⟩
theorem ZgO (X : Za) (o : Bool) (k ow : Int) (pt : List Int) (n i : Nat) (a b a1 b1 : Int) (P P1 : List YO) (x : Z6) (Z1 Z2 : Prop) (hn : n < 1000) (hL : X.L.length = n) (hi : i ≤ n) (hX : YG X) (hP : P.length < 1000) (hx : i < n → X.L.getD i Zc = x) (hst : i < n → 1 ≤ x.stage ∧ x.stage ≤ 9) (hP1 : i < n → P1 = P ++ Zbj (YZ x.own x.stage o) (QG X.side x)) (ha : i < n → (a1, b1) = srP X.side o (a, b) x) (hw : i < n → (-1152921504606846976 ≤ a ∧ a ≤ 1152921504606846976) ∧ (-1152921504606846976 ≤ b ∧ b ≤ 1152921504606846976) ∧ 0 ≤ x.amount ∧ x.amount ≤ 1152921504606846976) (hZ1 : i < n → Z1) (hZ2 : i = n → Z2) :
  ZI Zdv 20 40 0 0 (Zdw X o k ow pt i a b P) (rdM 0 0 9 (Zdw X o k ow pt (i + 1) a1 b1 P1) (Z7e k ow pt a b P) (Z7e k ow pt a b P) (Z7e k ow pt a b P) Z1 Z2 False False) := by
 refine @Eq.mpr _ (let q1 := X.L;
 let q2 := List.length q1;
 let q3 := X.t;
 let q4 := q3.fund;
 let q5 := q3.index;
 let q6 := q3.cap;
 let q7 := q3.dust;
 let q8 := q3.fee;
 let q9 := q3.delay;
 let q10 := q3.k0;
 let q11 := q3.k1;
 let q12 := X.side;
 let q13 := X.res;
 let q14 := [X.a0, X.a1];
 let q15 := [X.i0, X.i1];
 let q16 := Z5 q1;
 let q17 := List.getD q1 (Int.toNat (↑i : Int)) Zc;
 let q18 := q17.own;
 let q19 := q17.stage;
 let q20 := YZ q18 q19 o;
 let q21 := List.length P;
 let q22 := decide (q21 = q21);
 let q23 := q21 + 1;
 let q24 := decide (wrap i64 ((↑i : Int) + 1) = (↑(i + 1) : Int));
 let q25 := decide (o = o);
 let q26 := q4 = q4;
 let q27 := decide (q5 = q5);
 let q28 := decide (q6 = q6);
 let q29 := decide (q7 = q7);
 let q30 := decide (q8 = q8);
 let q31 := decide (q9 = q9);
 let q32 := q10 = q10;
 let q33 := q11 = q11;
 let q34 := decide (q12 = q12);
 let q35 := decide (q13 = q13);
 let q36 := q14 = q14;
 let q37 := q15 = q15;
 let q38 := decide (q2 = q2);
 let q39 := q16 = q16;
 let q40 := [(0 : Int), 0];
 let q41 := q40 = q40;
 let q42 := decide (k = k);
 let q43 := decide (ow = ow);
 let q44 := [a, b];
 let q45 := q17.amount;
 let q46 := [a1, b1];
 let q47 := List.length P1;
 let q48 := decide (q23 = q47);
 let q49 := [(1, 1), (2, 2), (0, 0)];
 let q50 := ZE P;
 let q51 := decide (q21 = q47);
 let q52 := Z0 q51 (Z0 (decide (q47 ≤ q21)) (Z0 q51 (Z8 0 ((3, 3) :: q49) q47 (ZE P1) q50 ∧ Z1) False) False) False;
 let q53 := Z0 q24 (Z0 q25 (q26 ∧ Z0 q27 (Z0 q28 (Z0 q29 (Z0 q30 (Z0 q31 (q32 ∧ q33 ∧ Z0 q34 (Z0 q35 (q36 ∧ q37 ∧ Z0 q38 (q39 ∧ Z0 q38 (Zd = Zd ∧ q41 ∧ Z0 q42 (Z0 q43 (pt = pt ∧ q44 = q46 ∧ q52) False) False) False) False) False) False) False) False) False) False) False) False) False;
 Z0 (decide ((↑i : Int) < (↑q2 : Int)))
 (Z0 (decide (0 ≤ (↑i : Int) ∧ (↑i : Int) < (↑q2 : Int)))
 (∃ (X : Za),
 let q107 := X.side;
 let q108 := ZN q107 q18;
 let q109 := decide (0 ≤ q108 ∧ q108 < 2);
 let q110 := 0 + Int.toNat q108;
 let q111 := decide (q110 < 2);
 let q112 := decide (i64 = i64 ∧ q110 < 2 ∧ q110 < 2);
 let q113 := List.set q44 q110 (wrap i64 (List.getD q44 q110 0 - q45));
 let q114 := Z0 q22 (Z0 (decide (q23 * 64 ≤ 140737488355328)) (Z0 q109 (Z0 q111 (Z0 q109 (Z0 q112 (Z0 q24 (Z0 q25 (q26 ∧ Z0 q27 (Z0 q28 (Z0 q29 (Z0 q30 (Z0 q31 (q32 ∧ q33 ∧ Z0 q34 (Z0 q35 (q36 ∧ q37 ∧ Z0 q38 (q39 ∧ Z0 q38 (Zd = Zd ∧ q41 ∧ Z0 q42 (Z0 q43 (pt = pt ∧ q113 = q46 ∧ Z0 q48 (Z0 (decide (q47 ≤ q23)) (Z0 q48 (Z8 0 ((3, 6) :: q49) q47 (ZE P1) (ZV q21 q50 (YD [AV.int i64 q108, AV.int i64 q17.id, AV.int i64 q45, AV.arr u8 32 q17.hash, AV.int i64 q17.expiry] 0 36)) ∧ Z1) False) False) False) False) False) False) False) False) False) False) False) False) False) False) False) False) False) False) False) False) False) False;
 let q115 := wrap i64 (1 - q108);
 let q116 := decide (0 ≤ q115 ∧ q115 < 2);
 let q117 := 0 + Int.toNat q115;
 let q118 := Z0 (q17.fin == 1) (Z0 q109 (Z0 q111 (Z0 q109 (Z0 q112 (Z0 q116 (Z0 (decide (q117 < 2)) (Z0 q116 (Z0 (decide (i64 = i64 ∧ q117 < 2 ∧ q117 < List.length q113)) (Z0 q24 (Z0 q25 (q26 ∧ Z0 q27 (Z0 q28 (Z0 q29 (Z0 q30 (Z0 q31 (q32 ∧ q33 ∧ Z0 q34 (Z0 q35 (q36 ∧ q37 ∧ Z0 q38 (q39 ∧ Z0 q38 (Zd = Zd ∧ q41 ∧ Z0 q42 (Z0 q43 (pt = pt ∧ List.set q113 q117 (wrap i64 (List.getD q113 q117 0 + q45)) = q46 ∧ q52) False) False) False) False) False) False) False) False) False) False) False) False) False) False) False) False) False) False) False) False) False) q53;
 LV [AV.arr u8 32 q4, AV.int i64 q5, AV.int i64 q6, AV.int i64 q7, AV.int i64 q8, AV.int i64 q9, AV.arr u8 32 q10, AV.arr u8 32 q11, AV.int i64 q12, AV.int i64 q13, AV.arr i64 2 q14, AV.arr i64 2 q15, AV.vrows 70 q2 q16 q2] X ∧ (0 ≤ q107 ∧ q107 ≤ 1) ∧ Z0 (q18 == o) (Z0 q20 q114 (Z0 (decide (q19 > 6)) q118 q53)) (Z0 q20 q114 (Z0 (decide (q19 > 8)) q118 q53)))
 False)
 (Zd = Zd ∧ q41 ∧ Z0 q42 (Z0 q43 (pt = pt ∧ q44 = q44 ∧ Z0 q22 (Z0 (decide (q21 ≤ q21)) (Z0 q22 (Z8 0 [(2, 3), (0, 1), (1, 2)] q21 q50 q50 ∧ Z2) False) False) False) False) False)) (by kernel_rfl) ?_
 conv => zeta
 try simp only [Zi]
 try simp only [Zj]
 try simp only [Zk]
 try simp only [Zl]
 try simp only [Zm]
 try simp only [Zh]
 try simp only [Int.toNat_natCast, Nat.zero_add, true_and, and_true, Nat.le_refl]
 subst hL
 refine ⟨fun hc => ?_, fun hc => ⟨Xu fun _ _ => rfl, hZ2 (by omega)⟩⟩
 have hlt : i < X.L.length := by omega
 rw [hx hlt]
 have hst := hst hlt
 have hP1 := hP1 hlt
 have ha := ha hlt
 obtain ⟨b1', b2', b3'⟩ := hw hlt
 have hs : X.side = 0 ∨ X.side = 1 := by obtain ⟨s1, s2⟩ := hX; omega
 have hfr := Z3z hs x.own
 have hab : [a1, b1] = [(srP X.side o (a, b) x).1, (srP X.side o (a, b) x).2] := by rw [← ha]
 have hwr : i64.wrap ((i : Int) + 1) = ((i + 1 : Nat) : Int) := by rw [w64 (by omega)]; omega
 have hwf : i64.wrap (1 - ZN X.side x.own) = 1 - ZN X.side x.own := w64 (by omega)
 have hR : ∀ τ k (Q : List YO), Z8 0 τ k (ZE Q) (ZE Q) := fun τ k Q => Xu fun _ _ => rfl
 have hC : ∀ τ (Q : List YO) (y : YO), Z8 0 τ (Q ++ [y]).length (ZE (Q ++ [y])) (ZV Q.length (ZE Q) (YD y.c 0 36)) := fun τ Q y => Xu fun j hj => Z0x (by simpa using hj)
 have e := Uo hfr b1' b2' b3'
 have k1 := Z4y hfr b1' b2' b3'
 have hl2 : ([a, b].set (ZN X.side x.own).toNat (i64.wrap ([a, b].getD (ZN X.side x.own).toNat 0 - x.amount))).length = 2 := by simp
 refine ⟨by omega, X, .a rfl, hX, ?_⟩
 rw [hwr, hwf, e, hl2, k1]
 have hpo : QG X.side x = ⟨ZN X.side x.own, x.id, x.amount, x.hash, x.expiry⟩ := rfl
 have s0 : YZ x.own x.stage o = true → P1 = P ++ [⟨ZN X.side x.own, x.id, x.amount, x.hash, x.expiry⟩] ∧ [a1, b1] = [(if ZN X.side x.own = 0 then (a - x.amount, b) else (a, b - x.amount)).1, (if ZN X.side x.own = 0 then (a - x.amount, b) else (a, b - x.amount)).2] := fun h => by
  unfold srP at hab
  rw [h] at hab hP1
  exact ⟨by rw [hP1, hpo]; rfl, hab⟩
 have s1 : YZ x.own x.stage o = false → P1 = P ∧ (6 < x.stage → x.fin = 1 → [a1, b1] = if ZN X.side x.own = 0 then [a - x.amount, b + x.amount] else [a + x.amount, b - x.amount]) ∧ (6 < x.stage → ¬ x.fin = 1 → [a1, b1] = [a, b]) ∧ (¬ 6 < x.stage → [a1, b1] = [a, b]) := fun h => by
  unfold srP at hab
  rw [h] at hab hP1
  simp only at hab
  refine ⟨by rw [hP1]; simp [Zbj], fun h6 hf => ?_, fun h6 hf => ?_, fun h6 => ?_⟩
  ·rw [if_pos h6, U0 hf] at hab; exact hab
  ·rw [if_pos h6, QE hf] at hab; exact hab
  ·rw [if_neg h6] at hab; exact hab
 refine ⟨fun ho => ⟨fun hst1 => ?_, fun hst0 => ⟨fun h6 => ⟨fun hf => ?_, fun hf => ?_⟩, fun h6 => ?_⟩⟩, fun ho => ⟨fun hst1 => ?_, fun hst0 => ⟨fun h6 => ⟨fun hf => ?_, fun hf => ?_⟩, fun h6 => ?_⟩⟩⟩
 ·obtain ⟨q1, q2⟩ := s0 hst1
  rw [q2]
  subst q1
  repeat' apply And.intro
  all_goals first | omega | rfl | exact hZ1 hlt | exact hC _ _ _ | exact hR _ _ _ | (simp; done) | skip
 ·obtain ⟨q1, q2, q3, q4⟩ := s1 hst0
  rw [q2 (by omega) (by simpa using hf)]
  subst q1
  repeat' apply And.intro
  all_goals first | omega | rfl | exact hZ1 hlt | exact hC _ _ _ | exact hR _ _ _ | (simp; done) | skip
 ·obtain ⟨q1, q2, q3, q4⟩ := s1 hst0
  rw [q3 (by omega) (by simpa using hf)]
  subst q1
  repeat' apply And.intro
  all_goals first | omega | rfl | exact hZ1 hlt | exact hC _ _ _ | exact hR _ _ _ | (simp; done) | skip
 ·obtain ⟨q1, q2, q3, q4⟩ := s1 hst0
  rw [q4 (by omega)]
  subst q1
  repeat' apply And.intro
  all_goals first | omega | rfl | exact hZ1 hlt | exact hC _ _ _ | exact hR _ _ _ | (simp; done) | skip
 ·obtain ⟨q1, q2⟩ := s0 hst1
  rw [q2]
  subst q1
  repeat' apply And.intro
  all_goals first | omega | rfl | exact hZ1 hlt | exact hC _ _ _ | exact hR _ _ _ | (simp; done) | skip
 ·obtain ⟨q1, q2, q3, q4⟩ := s1 hst0
  have hno : ¬ x.own = o := by simpa using ho
  have hsd : ¬ (2 ≤ x.stage ∧ x.stage ≤ 8) := by unfold YZ at hst0; rw [if_neg hno] at hst0; exact of_decide_eq_false hst0
  rw [q2 (by omega) (by simpa using hf)]
  subst q1
  repeat' apply And.intro
  all_goals first | omega | rfl | exact hZ1 hlt | exact hC _ _ _ | exact hR _ _ _ | (simp; done) | skip
 ·obtain ⟨q1, q2, q3, q4⟩ := s1 hst0
  have hno : ¬ x.own = o := by simpa using ho
  have hsd : ¬ (2 ≤ x.stage ∧ x.stage ≤ 8) := by unfold YZ at hst0; rw [if_neg hno] at hst0; exact of_decide_eq_false hst0
  rw [q3 (by omega) (by simpa using hf)]
  subst q1
  repeat' apply And.intro
  all_goals first | omega | rfl | exact hZ1 hlt | exact hC _ _ _ | exact hR _ _ _ | (simp; done) | skip
 ·obtain ⟨q1, q2, q3, q4⟩ := s1 hst0
  have hno : ¬ x.own = o := by simpa using ho
  have hsd : ¬ (2 ≤ x.stage ∧ x.stage ≤ 8) := by unfold YZ at hst0; rw [if_neg hno] at hst0; exact of_decide_eq_false hst0
  rw [q4 (by omega)]
  subst q1
  repeat' apply And.intro
  all_goals first | omega | rfl | exact hZ1 hlt | exact hC _ _ _ | exact hR _ _ _ | (simp; done) | skip
def Z8i (X : Za) (o : Bool) (k ow : Int) (pt : List Int) (i : Nat) : St := Zdw X o k ow pt i (Wx X.side o (X.a0, X.a1) (X.L.take i)).1 (Wx X.side o (X.a0, X.a1) (X.L.take i)).2 (YA X.side o (X.L.take i))
def Z8j (X : Za) (o : Bool) (k ow : Int) (pt : List Int) (i : Nat) : St := Z7e k ow pt (Wx X.side o (X.a0, X.a1) (X.L.take i)).1 (Wx X.side o (X.a0, X.a1) (X.L.take i)).2 (YA X.side o (X.L.take i))
def ZbD (X : Za) (n : Nat) : Prop := Zbl X n ∧ ∀ h ∈ X.L, 1 ≤ h.stage ∧ h.stage ≤ 9
theorem ZgP (X : Za) (o : Bool) (k ow : Int) (pt : List Int) (n i : Nat) (hC : ZbD X n) (hi : i ≤ n) : ZI Zdv 20 40 0 0 (Z8i X o k ow pt i) (rdM 0 0 9 (Z8i X o k ow pt (i + 1)) (Z8j X o k ow pt i) (Z8j X o k ow pt i) (Z8j X o k ow pt i) (i < n ∧ i < n) (i = n) False False) := by
 obtain ⟨⟨h1, h2, h3, h4, h5, h6⟩, h7⟩ := id hC
 have hlt : i < n → i < X.L.length := fun h => by omega
 have l0 : (X.L.take i).length ≤ 16 := by rw [List.length_take]; omega
 have l1 := Up X.side o (X.L.take i)
 have hb := Z2D (side := X.side) (o := o) h4 h5 h6 i (by omega)
 refine ZgO X o k ow pt n i _ _ _ _ _ _ (X.L.getD i Zc) (i < n ∧ i < n) (i = n) (by omega) h1 hi (show 0 ≤ X.side ∧ X.side ≤ 1 by omega) (by omega) (fun _ => rfl) (fun h => h7 _ (ZK (hlt h))) (fun h => ?_) (fun h => ?_) (fun h => ⟨by omega, by omega, ?_⟩) (fun h => ⟨h, h⟩) (fun h => h)
 ·rw [Yb (hlt h), Z3D]
 ·unfold Wx
  rw [Yb (hlt h), List.foldl_append]; rfl
 ·have := h4 _ (ZK (hlt h)); omega
noncomputable def Z8k (X : Za) (o : Bool) (k ow : Int) (pt : List Int) (n : Nat) (C : Prop) (E : Nat → St) : Zg := Zdv.withL 40 0 (goM 0 (Zdw X o k ow pt 0 X.a0 X.a1 []) C (Yv 0 n 9 (fun i => i < n) (fun i => i = n) (fun _ => False) (fun _ => False) E E E))
theorem ZbE (X : Za) (o : Bool) (k ow : Int) (pt : List Int) (n : Nat) : (Z8k X o k ow pt n (ZbD X n) (Z8j X o k ow pt)).Ok :=
 Zg.withGoM (N := 20) (S := Z8i X o k ow pt) Z8h (by kernel_rfl) fun hC => ⟨rfl, fun i hi _ => ZgP X o k ow pt n i hC hi⟩
theorem ZgQ (X : Za) (o : Bool) (k ow : Int) (pt : List Int) (n l : Nat) (a b : Int) (P : List YO) (C : Prop) (AF BF : Nat → Int) (PF : Nat → List YO) (hC : C) (hs : 0 ≤ X.side ∧ X.side ≤ 1) (hk : 0 ≤ k ∧ k ≤ 2147483647) (how : ow = ZN X.side o) (ha : a = AF n) (hb : b = BF n) (hP : P = PF n) (hl : l = P.length) :
  evF (Z8k X o k ow pt n C fun i => Z7e k ow pt (AF i) (BF i) (PF i)) 20 40 [Z9i X, .bool o, .int .i64 k, .agg [.arr .u8 32 pt]] ⟨0, []⟩ (YQ 0 (.ret (.tuple [.agg [.int .i64 k, .int .i64 ow, .arr .u8 32 pt, .arr .i64 2 [a, b], slP 0 l], .int .i64 0])) 1 [(0, .rows 36 l (ZE P))]) := by
 refine @Eq.mpr _ (let q1 := [(0 : Int), 0];
 let q2 := [a, b];
 let q3 := decide (l = 0);
 let q4 := Z0 (decide (0 = k)) (Z0 (decide (0 = ow)) (Zd = pt ∧ q1 = q2 ∧ Z0 q3 (Z0 q3 False False) False) False) False;
 let q5 := X.t;
 let q6 := q5.fund;
 let q7 := q5.index;
 let q8 := q5.cap;
 let q9 := q5.dust;
 let q10 := q5.fee;
 let q11 := q5.delay;
 let q12 := q5.k0;
 let q13 := q5.k1;
 let q14 := X.side;
 let q15 := X.res;
 let q16 := [X.a0, X.a1];
 let q17 := [X.i0, X.i1];
 let q18 := List.length X.L;
 let q19 := Z5 X.L;
 let q20 := q16 = q16;
 let q21 := decide (q18 = q18);
 let q22 := decide (k = k);
 Z0 (decide (k < 0)) q4
 (Z0 (decide (k > 2147483647)) q4
 (∃ (X : Za),
 let q45 := X.side;
 LV [AV.arr u8 32 q6, AV.int i64 q7, AV.int i64 q8, AV.int i64 q9, AV.int i64 q10, AV.int i64 q11, AV.arr u8 32 q12, AV.arr u8 32 q13, AV.int i64 q14, AV.int i64 q15, AV.arr i64 2 q16, AV.arr i64 2 q17, AV.vrows 70 q18 q19 q18] X ∧
 (0 ≤ q45 ∧ q45 ≤ 1) ∧
 Z0 (decide (o = o))
 (q6 = q6 ∧
 Z0 (decide (q7 = q7))
 (Z0 (decide (q8 = q8))
 (Z0 (decide (q9 = q9))
 (Z0 (decide (q10 = q10))
 (Z0 (decide (q11 = q11))
 (q12 = q12 ∧
 q13 = q13 ∧
 Z0 (decide (q14 = q14))
 (Z0 (decide (q15 = q15))
 (q20 ∧
 q17 = q17 ∧
 Z0 q21
 (q19 = q19 ∧
 Z0 q21
 (Zd = Zd ∧
 q1 = q1 ∧
 Z0 q22
 (Z0 (decide (ZN q45 o = ow))
 (pt = pt ∧
 q20 ∧
 C ∧
 ∀ (i : Nat),
 let q47 := decide (List.length (PF i) = l);
 i ≤ n → (∀ (j : Nat), j < i → (fun (i : Nat) => i < n) j) → (i = n → Z0 q22 (Z0 (decide (ow = ow)) (pt = pt ∧ [AF i, BF i] = q2 ∧ Z0 q47 (Z0 (decide (l ≤ List.length (PF i))) (Z0 q47 (Z8 0 [(0, 2)] l (ZE P) (ZE (PF i)) ∧ True) False) False) False) False) False) ∧ (False → False) ∧ (False → False))
 False)
 False)
 False)
 False)
 False)
 False)
 False)
 False)
 False)
 False)
 False)
 False))) (by kernel_rfl) ?_
 conv => zeta
 try simp only [Zi]
 try simp only [Zj]
 try simp only [Zk]
 try simp only [Zl]
 try simp only [Zm]
 try simp only [Zh]
 try simp only [Int.toNat_natCast, Nat.zero_add, true_and, and_true, Nat.le_refl]
 subst ha hb hP
 refine ⟨fun h => absurd h (by omega), fun _ => ⟨fun h => absurd h (by omega), fun _ => ⟨X, .a rfl, hs, how.symm, hC, fun i hi _ => ⟨fun he => ?_, fun h => h, fun h => h⟩⟩⟩⟩
 subst he
 exact ⟨rfl, hl.symm, Nat.le_of_eq hl, hl.symm, Xu fun _ _ => rfl⟩
theorem ZgR (X : Za) (o : Bool) (k ow : Int) (pt : List Int) (n : Nat) (C : Prop) (hk : ¬ (0 ≤ k ∧ k ≤ 2147483647)) :
  evF (Z8k X o k ow pt n C fun i => Z7e k ow pt 0 0 []) 20 40 [Z9i X, .bool o, .int .i64 k, .agg [.arr .u8 32 pt]] ⟨0, []⟩ (Yp fun v => v = .tuple [.agg srZ, .int .i64 2]) := by
 refine @Eq.mpr _ (let q1 := [(0 : Int), 0];
 let q2 := [AV.int i64 2];
 let q3 := AV.tuple (AV.agg [AV.int i64 0, AV.int i64 0, AV.arr u8 32 Zd, AV.arr i64 2 q1, AV.nilslice] :: q2) = AV.tuple (AV.agg srZ :: q2);
 let q4 := X.t;
 let q5 := q4.fund;
 let q6 := q4.index;
 let q7 := q4.cap;
 let q8 := q4.dust;
 let q9 := q4.fee;
 let q10 := q4.delay;
 let q11 := q4.k0;
 let q12 := q4.k1;
 let q13 := X.side;
 let q14 := X.res;
 let q15 := [X.a0, X.a1];
 let q16 := [X.i0, X.i1];
 let q17 := List.length X.L;
 let q18 := Z5 X.L;
 let q19 := q15 = q15;
 let q20 := decide (q17 = q17);
 Z0 (decide (k < 0)) q3
 (Z0 (decide (k > 2147483647)) q3
 (∃ (X : Za),
 let q41 := X.side;
 LV [AV.arr u8 32 q5, AV.int i64 q6, AV.int i64 q7, AV.int i64 q8, AV.int i64 q9, AV.int i64 q10, AV.arr u8 32 q11, AV.arr u8 32 q12, AV.int i64 q13, AV.int i64 q14, AV.arr i64 2 q15, AV.arr i64 2 q16, AV.vrows 70 q17 q18 q17] X ∧ (0 ≤ q41 ∧ q41 ≤ 1) ∧ Z0 (decide (o = o)) (q5 = q5 ∧ Z0 (decide (q6 = q6)) (Z0 (decide (q7 = q7)) (Z0 (decide (q8 = q8)) (Z0 (decide (q9 = q9)) (Z0 (decide (q10 = q10)) (q11 = q11 ∧ q12 = q12 ∧ Z0 (decide (q13 = q13)) (Z0 (decide (q14 = q14)) (q19 ∧ q16 = q16 ∧ Z0 q20 (q18 = q18 ∧ Z0 q20 (Zd = Zd ∧ q1 = q1 ∧ Z0 (decide (k = k)) (Z0 (decide (ZN q41 o = ow)) (pt = pt ∧ q19 ∧ C ∧ ∀ (i : Nat), i ≤ n → (∀ (j : Nat), j < i → (fun (i : Nat) => i < n) j) → (i = n → False) ∧ (False → False) ∧ (False → False)) False) False) False) False) False) False) False) False) False) False) False) False))) (by kernel_rfl) ?_
 conv => zeta
 try simp only [Zi]
 try simp only [Zj]
 try simp only [Zk]
 try simp only [Zl]
 try simp only [Zm]
 try simp only [Zh]
 try simp only [Int.toNat_natCast, Nat.zero_add, true_and, and_true, Nat.le_refl]
 exact ⟨fun _ => rfl, fun h1 => ⟨fun _ => rfl, fun h2 => absurd ⟨by omega, by omega⟩ hk⟩⟩
def Z2F (c : Bool) : YR := fun args h K => ZY none h true 20 args fun a => match a with
 | [.agg cs, .bool o, .int .i64 k, .agg [.arr .u8 32 pt]] => ∃ X, LV cs X ∧ X.Inv Zq ∧ (match c with
  | true => (0 ≤ k ∧ k ≤ 2147483647) ∧ K (.ret (.tuple [.agg [.int .i64 k, .int .i64 (ZN X.side o), .arr .u8 32 pt, .arr .i64 2 [(Z0M X o).1, (Z0M X o).2], slP h.next (YA X.side o X.L).length], .int .i64 0])) ⟨h.next + 1, (h.next, .rows 36 (YA X.side o X.L).length (ZE (YA X.side o X.L))) :: h.bs⟩
  | false => ¬ (0 ≤ k ∧ k ≤ 2147483647) ∧ K (.ret (.tuple [.agg srZ, .int .i64 2])) ⟨h.next, h.bs⟩)
 | _ => False
theorem Z0y (c : Bool) (args : List AV) (h : Z9) (K : KO) (hl : Z2F c args h K) : Zo PP 40 args h K := by
 refine ZH.fsumm (d := 20) (Zx _ _ _ _ _ hl fun a ha => ?_)
 split at ha
 ·rename_i cs o k pt
  obtain ⟨X, hX, hI, hK⟩ := ha
  cases c with
  | true =>
   obtain ⟨hk, hK1⟩ := hK
   have hv := ZgQ X o k (ZN X.side o) pt X.L.length _ (Z0M X o).1 (Z0M X o).2 (YA X.side o X.L) (ZbD X X.L.length) (fun i => (Wx X.side o (X.a0, X.a1) (X.L.take i)).1) (fun i => (Wx X.side o (X.a0, X.a1) (X.L.take i)).2) (fun i => YA X.side o (X.L.take i)) ⟨hI.sr, hI.stage⟩ (by have := hI.side; omega) hk rfl (by rw [List.take_length]; rfl) (by rw [List.take_length]; rfl) (by rw [List.take_length]) rfl
   exact ⟨_, _, _, _, (ZH.evM (ZbE X o k _ pt _) hv).conv fun E r hr => hr.head (fun _ hc => Qb hX hc) fun _ hc => hc, rfl, ⟨Nat.one_pos, .rows _ _ _ (fun i _ => Vs _ i), trivial⟩, hK1⟩
  | false =>
   obtain ⟨hk, hK2⟩ := hK
   have hC : (Z8k X o k 0 pt X.L.length False fun _ => Z7e k 0 pt 0 0 []).Ok := Zg.withGoM (N := 20) (S := fun i => Z8i X o k 0 pt i) Z8h (by kernel_rfl) fun h => h.elim
   exact ⟨_, _, _, _, (ZH.evV hC (ZgR X o k 0 pt _ False hk)).conv fun E r hr => hr.head (fun _ hc => Qb hX hc) fun _ hc => hc, rfl, trivial, hK2⟩
 ·exact ha.elim
end Go.Tk
end
section
namespace Go.Tk
open IntKind (i64 u8 u32 u64 wrap)
def Zdx (A B : List Z6) (i : Nat) : St := ⟨26, [(5, .int .i64 i), (0, .vrows 70 A.length (Z5 A) A.length), (1, .vrows 70 B.length (Z5 B) B.length)], ⟨0, []⟩, []⟩
def Z9k : St := ⟨26, [], ⟨0, []⟩, []⟩
theorem ZgS (A : List Z6) (n i : Nat) (Z1 Z2 : Prop) (hn : n < 1000) (hA : A.length = n) (hi : i ≤ n) (hOk : ∀ h ∈ A, h.Ok) (h1 : i < n → Z1) (h2 : i = n → Z2) :
  ZI G0 20 38 0 0 (Zdx A A i) (rdM 0 0 9 (Zdx A A (i + 1)) Z9k Z9k Z9k Z1 Z2 False False) := by
 refine @Eq.mpr _ (let q1 := List.length A;
 let q2 := decide (0 ≤ (↑i : Int) ∧ (↑i : Int) < (↑q1 : Int));
 let q3 := List.getD A (Int.toNat (↑i : Int)) Zc;
 let q4 := q3.hash;
 let q5 := q3.secret;
 let q6 := q3.own;
 let q7 := q3.id;
 let q8 := q3.amount;
 let q9 := q3.expiry;
 let q10 := q3.stage;
 let q11 := q3.fin;
 let q12 := decide (q1 = q1);
 let q13 := Z5 A = Z5 A;
 Z0 (decide ((↑i : Int) < (↑q1 : Int))) (Z0 q2 (Z0 q2 (Z0 (decide (List.length q4 = 32 ∧ List.length q4 = 32)) (Z0 (decide (List.length q5 = 32 ∧ List.length q5 = 32)) (Z0 (!(q6 == q6 && (q7 == q7 && (q8 == q8 && (q4 == q4 && (q9 == q9 && (q10 == q10 && (q11 == q11 && q5 == q5)))))))) False (Z0 (decide (wrap i64 ((↑i : Int) + 1) = (↑(i + 1) : Int))) (Z0 q12 (q13 ∧ Z0 q12 (Z0 q12 (q13 ∧ Z0 q12 Z1 False) False) False) False) False)) False) False) False) False) Z2) (by kernel_rfl) ?_
 conv => zeta
 try simp only [Zi]
 try simp only [Zj]
 try simp only [Zk]
 try simp only [Zl]
 try simp only [Zm]
 try simp only [Zh]
 try simp only [Int.toNat_natCast, Nat.zero_add, true_and, and_true, Nat.le_refl]
 subst hA
 refine ⟨fun hc => ?_, fun hc => h2 (by omega)⟩
 have hlt : i < A.length := by omega
 have hwr : i64.wrap ((i : Int) + 1) = ((i + 1 : Nat) : Int) := by rw [w64 (by omega)]; omega
 have hx := hOk _ (ZK hlt)
 exact ⟨by omega, by omega, ⟨hx.hash, hx.hash⟩, ⟨hx.secret, hx.secret⟩, by simp, hwr, h1 hlt⟩
def Zdy (s p : Int) (pt : List Int) (a b : Int) (P : List YO) (i : Nat) : St := ⟨59, [(5, .int .i64 i), (2, .ptr (some ⟨0, 0, 0, 0, 0⟩)), (3, .ptr (some ⟨1, 0, 0, 0, 0⟩))], ⟨2, [(0, .flat [.int .i64 s, .int .i64 p, .arr .u8 32 pt, .arr .i64 2 [a, b], .vrows 36 P.length (ZE P) P.length]), (1, .flat [.int .i64 s, .int .i64 p, .arr .u8 32 pt, .arr .i64 2 [a, b], .vrows 36 P.length (ZE P) P.length])]⟩, []⟩
def Z9l : St := ⟨59, [], ⟨0, []⟩, []⟩
theorem ZgT (s p : Int) (pt : List Int) (a b : Int) (P : List YO) (n i : Nat) (Z1 Z2 : Prop) (hn : n < 1000) (hP : P.length = n) (hi : i ≤ n) (hOk : ∀ q ∈ P, q.hash.length = 32) (h1 : i < n → Z1) (h2 : i = n → Z2) :
  ZI G0 20 41 0 0 (Zdy s p pt a b P i) (rdM 0 0 9 (Zdy s p pt a b P (i + 1)) Z9l Z9l Z9l Z1 Z2 False False) := by
 refine @Eq.mpr _ (let q1 := List.length P;
 let q2 := decide (0 ≤ (↑i : Int) ∧ (↑i : Int) < (↑q1 : Int));
 let q3 := List.getD P (Int.toNat (↑i : Int)) Zfn;
 let q4 := q3.hash;
 let q5 := q3.frm;
 let q6 := q3.id;
 let q7 := q3.amount;
 let q8 := q3.expiry;
 let q9 := decide (s = s);
 let q10 := decide (p = p);
 let q11 := [a, b];
 let q12 := q11 = q11;
 let q13 := decide (q1 = q1);
 let q14 := ZE P = ZE P;
 Z0 (decide ((↑i : Int) < (↑q1 : Int))) (Z0 q2 (Z0 q2 (Z0 (decide (List.length q4 = 32 ∧ List.length q4 = 32)) (Z0 (!(q5 == q5 && (q6 == q6 && (q7 == q7 && (q4 == q4 && q8 == q8))))) False (Z0 (decide (wrap i64 ((↑i : Int) + 1) = (↑(i + 1) : Int))) (Z0 q9 (Z0 q10 (pt = pt ∧ q12 ∧ Z0 q13 (q14 ∧ Z0 q13 (Z0 q9 (Z0 q10 (pt = pt ∧ q12 ∧ Z0 q13 (q14 ∧ Z0 q13 Z1 False) False) False) False) False) False) False) False) False)) False) False) False) Z2) (by kernel_rfl) ?_
 conv => zeta
 try simp only [Zi]
 try simp only [Zj]
 try simp only [Zk]
 try simp only [Zl]
 try simp only [Zm]
 try simp only [Zh]
 try simp only [Int.toNat_natCast, Nat.zero_add, true_and, and_true, Nat.le_refl]
 subst hP
 refine ⟨fun hc => ?_, fun hc => h2 (by omega)⟩
 have hlt : i < P.length := by omega
 have hwr : i64.wrap ((i : Int) + 1) = ((i + 1 : Nat) : Int) := by rw [w64 (by omega)]; omega
 have hx := hOk (P.getD i Zfn) (by rw [List.getD_eq_getElem?_getD, List.getElem?_eq_getElem hlt]; exact List.getElem_mem hlt)
 exact ⟨by omega, by omega, ⟨hx, hx⟩, by simp, hwr, h1 hlt⟩
def Zhj : ZU := fun args h K => ZY none h true 20 args fun a => match a with
 | [.agg cs] => ∃ X, LV cs X ∧ X.Inv Zq ∧ K (.bool (Zf5 X.L))
 | _ => False
noncomputable def Zei (A : List Z6) (n : Nat) (C : Prop) : Zg := G0.withL 38 0 (goM 0 (Zdx A A 0) C (Yv 0 n 9 (fun i => i < n) (fun i => i = n) (fun _ => False) (fun _ => False) (fun _ => Z9k) (fun _ => Z9k) (fun _ => Z9k)))
theorem ZbF (A : List Z6) (n : Nat) : (Zei A n (n < 1000 ∧ A.length = n ∧ ∀ h ∈ A, h.Ok)).Ok :=
 Zg.withGoM (N := 20) (S := fun i => Zdx A A i) Zw (by kernel_rfl) fun hC => ⟨rfl, fun i hi _ => ZgS A n i _ _ hC.1 hC.2.1 hi hC.2.2 (fun h => ⟨h, h⟩) (fun h => h)⟩
theorem ZgU (A : List Z6) (n : Nat) (C : Prop) (hC : C) :
  evF (Zei A n C) 20 38 [.vrows 70 A.length (Z5 A) A.length, .vrows 70 A.length (Z5 A) A.length] ⟨0, []⟩ (Yp fun v => v = .bool true) := by
 refine @Eq.mpr _ (let q1 := List.length A;
 let q2 := (↑q1 : Int);
 let q3 := AV.bool true;
 let q4 := decide (q1 = q1);
 let q5 := Z5 A = Z5 A;
 Z0 (q2 != q2) (AV.bool false = q3) (Z0 q4 (q5 ∧ Z0 q4 (Z0 q4 (q5 ∧ Z0 q4 (C ∧ ∀ (i : Nat), i ≤ n → (∀ (j : Nat), j < i → (fun (i : Nat) => i < n) j) → (i = n → q3 = q3) ∧ (False → False) ∧ (False → False)) False) False) False) False)) (by kernel_rfl) ?_
 conv => zeta
 try simp only [Zi]
 try simp only [Zj]
 try simp only [Zk]
 try simp only [Zl]
 try simp only [Zm]
 try simp only [Zh]
 try simp only [Int.toNat_natCast, Nat.zero_add, true_and, and_true, Nat.le_refl]
 exact ⟨fun h => by simp at h, fun _ => ⟨hC, fun i _ _ => ⟨fun _ => trivial, fun h => h, fun h => h⟩⟩⟩
theorem ZgV (u : Unit)  :
  evF G0 20 38 [.nilslice, .nilslice] ⟨0, []⟩ (Yp fun v => v = .bool true) := by
 refine @Eq.mpr _ (AV.bool true = AV.bool true) (by kernel_rfl) ?_
 trivial
def Z8l : ZU := fun args h K => ZY none h true 20 args fun a => match a with
 | [.vrows 70 n f n', .vrows 70 m g m'] => ∃ A, (n = A.length ∧ n' = n ∧ m = n ∧ m' = n) ∧ (f = Z5 A ∧ g = Z5 A) ∧ n < 1000 ∧ (∀ h ∈ A, h.Ok) ∧ K (.bool true)
 | [.nilslice, .nilslice] => K (.bool true)
 | _ => False
theorem Z7f (args : List AV) (h : Z9) (K : AV → Prop) (hl : Z8l args h K) : Zo PP 38 args h fun o h' => ∃ v, o = .ret v ∧ h' = h ∧ K v := by
 refine ZH.psumm (d := 20) (Zx _ _ _ _ _ hl fun a ha => ?_)
 split at ha
 ·obtain ⟨A, ⟨rfl, rfl, rfl, rfl⟩, ⟨rfl, rfl⟩, h1, h2, hK⟩ := ha
  exact ⟨_, ZH.evV (ZbF A _) (ZgU A _ _ ⟨h1, rfl, h2⟩), fun _ => rfl, hK⟩
 ·exact ⟨_, ZH.evV Zw (ZgV ()), fun _ => rfl, ha⟩
 ·exact ha.elim
noncomputable def Zej (s p : Int) (pt : List Int) (a b : Int) (P : List YO) (n : Nat) (C : Prop) : Zg := G0.withL 41 0 (goM 0 (Zdy s p pt a b P 0) C (Yv 0 n 9 (fun i => i < n) (fun i => i = n) (fun _ => False) (fun _ => False) (fun _ => Z9l) (fun _ => Z9l) (fun _ => Z9l)))
theorem ZbG (s p : Int) (pt : List Int) (a b : Int) (P : List YO) (n : Nat) : (Zej s p pt a b P n (n < 1000 ∧ P.length = n ∧ ∀ q ∈ P, q.hash.length = 32)).Ok :=
 Zg.withGoM (N := 20) (S := fun i => Zdy s p pt a b P i) Zw (by kernel_rfl) fun hC => ⟨rfl, fun i hi _ => ZgT s p pt a b P n i _ _ hC.1 hC.2.1 hi hC.2.2 (fun h => ⟨h, h⟩) (fun h => h)⟩
def Zek (s p : Int) (pt : List Int) (a b : Int) (P : List YO) : AV := .agg [.int .i64 s, .int .i64 p, .arr .u8 32 pt, .arr .i64 2 [a, b], .vrows 36 P.length (ZE P) P.length]
theorem ZgW (s p : Int) (pt : List Int) (a b : Int) (P : List YO) (n : Nat) (C : Prop) (hC : C) (hp : pt.length = 32) :
  evF (Zej s p pt a b P n C) 20 41 [Zek s p pt a b P, Zek s p pt a b P] ⟨0, []⟩ (Yp fun v => v = .bool true) := by
 refine @Eq.mpr _ (let q1 := AV.bool true;
 let q2 := AV.bool false = q1;
 let q3 := [a, b];
 let q4 := List.length P;
 let q5 := (↑q4 : Int);
 let q6 := decide (s = s);
 let q7 := decide (p = p);
 let q8 := q3 = q3;
 let q9 := decide (q4 = q4);
 let q10 := ZE P = ZE P;
 Z0 (s != s) q2 (Z0 (p != p) q2 (Z0 (decide (List.length pt = 32 ∧ List.length pt = 32)) (Z0 (!pt == pt) q2 (Z0 (!q3 == q3) q2 (Z0 (q5 != q5) q2 (Z0 q6 (Z0 q7 (pt = pt ∧ q8 ∧ Z0 q9 (q10 ∧ Z0 q9 (Z0 q6 (Z0 q7 (pt = pt ∧ q8 ∧ Z0 q9 (q10 ∧ Z0 q9 (C ∧ ∀ (i : Nat), i ≤ n → (∀ (j : Nat), j < i → (fun (i : Nat) => i < n) j) → (i = n → q1 = q1) ∧ (False → False) ∧ (False → False)) False) False) False) False) False) False) False) False)))) False))) (by kernel_rfl) ?_
 conv => zeta
 try simp only [Zi]
 try simp only [Zj]
 try simp only [Zk]
 try simp only [Zl]
 try simp only [Zm]
 try simp only [Zh]
 try simp only [Int.toNat_natCast, Nat.zero_add, true_and, and_true, Nat.le_refl]
 exact ⟨fun h => by simp at h, fun _ => ⟨fun h => by simp at h, fun _ => ⟨⟨hp, hp⟩, fun h => by simp at h, fun _ => ⟨fun h => by simp at h, fun _ => ⟨fun h => by simp at h, fun _ => ⟨hC, fun i _ _ => ⟨fun _ => trivial, fun h => h, fun h => h⟩⟩⟩⟩⟩⟩⟩
theorem ZgX (s p : Int) (pt : List Int) (a b : Int) (hp : pt.length = 32) :
  evF G0 20 41 [.agg [.int .i64 s, .int .i64 p, .arr .u8 32 pt, .arr .i64 2 [a, b], .nilslice], .agg [.int .i64 s, .int .i64 p, .arr .u8 32 pt, .arr .i64 2 [a, b], .nilslice]] ⟨0, []⟩ (Yp fun v => v = .bool true) := by
 refine @Eq.mpr _ (let q1 := AV.bool true;
 let q2 := AV.bool false = q1;
 let q3 := [a, b];
 Z0 (s != s) q2 (Z0 (p != p) q2 (Z0 (decide (List.length pt = 32 ∧ List.length pt = 32)) (Z0 (!pt == pt) q2 (Z0 (!q3 == q3) q2 (q1 = q1))) False))) (by kernel_rfl) ?_
 conv => zeta
 try simp only [Zi]
 try simp only [Zj]
 try simp only [Zk]
 try simp only [Zl]
 try simp only [Zm]
 try simp only [Zh]
 try simp only [Int.toNat_natCast, Nat.zero_add, true_and, and_true, Nat.le_refl]
 exact ⟨fun h => by simp at h, fun _ => ⟨fun h => by simp at h, fun _ => ⟨⟨hp, hp⟩, fun h => by simp at h, fun _ => ⟨fun h => by simp at h, fun _ => trivial⟩⟩⟩⟩
def Z2G : ZU := fun args h K => ZY none h true 20 args fun a => match a with
 | [.agg [.int .i64 s, .int .i64 p, .arr .u8 32 pt, .arr .i64 2 [a, b], .vrows 36 n f n'], .agg [.int .i64 s', .int .i64 p', .arr .u8 32 pt', .arr .i64 2 [a', b'], .vrows 36 m g m']] => ∃ P, (n = P.length ∧ n' = n ∧ m = n ∧ m' = n) ∧ (f = ZE P ∧ g = ZE P) ∧ (s' = s ∧ p' = p ∧ pt' = pt ∧ a' = a ∧ b' = b) ∧ pt.length = 32 ∧ n < 1000 ∧ (∀ q ∈ P, q.hash.length = 32) ∧ K (.bool true)
 | [.agg [.int .i64 s, .int .i64 p, .arr .u8 32 pt, .arr .i64 2 [a, b], .nilslice], .agg [.int .i64 s', .int .i64 p', .arr .u8 32 pt', .arr .i64 2 [a', b'], .nilslice]] => (s' = s ∧ p' = p ∧ pt' = pt ∧ a' = a ∧ b' = b) ∧ pt.length = 32 ∧ K (.bool true)
 | _ => False
theorem Z0z (args : List AV) (h : Z9) (K : AV → Prop) (hl : Z2G args h K) : Zo PP 41 args h fun o h' => ∃ v, o = .ret v ∧ h' = h ∧ K v := by
 refine ZH.psumm (d := 20) (Zx _ _ _ _ _ hl fun a ha => ?_)
 split at ha
 ·obtain ⟨P, ⟨rfl, rfl, rfl, rfl⟩, ⟨rfl, rfl⟩, ⟨rfl, rfl, rfl, rfl, rfl⟩, hp, h1, h2, hK⟩ := ha
  exact ⟨_, ZH.evV (ZbG _ _ _ _ _ P _) (ZgW _ _ _ _ _ P _ _ ⟨h1, rfl, h2⟩ hp), fun _ => rfl, hK⟩
 ·obtain ⟨⟨rfl, rfl, rfl, rfl, rfl⟩, hp, hK⟩ := ha
  exact ⟨_, ZH.evV Zw (ZgX _ _ _ _ _ hp), fun _ => rfl, hK⟩
 ·exact ha.elim
end Go.Tk
end
section
namespace Go.Tk
open IntKind (i64 u8 u32 u64 wrap)
end Go.Tk
end
section
namespace Go.Tk
open IntKind (i64 u8 u32 u64 wrap)
theorem ZgY (X : Za) (hc : X.t.cap ≠ 0) :
  evF G0 20 42 [Uu X] ⟨0, []⟩ (Yp fun v => v = .bool false) := by
 refine @Eq.mpr _ (AV.bool (X.t.cap == 0) = AV.bool false) (by kernel_rfl) ?_
 have : (X.t.cap == 0) = false := by simpa using hc
 rw [this]
def Zel : ZU := fun args h K => ZY none h true 20 args fun a => match a with
 | [.pview cs 0] => ∃ X, LV cs X ∧ X.t.cap ≠ 0 ∧ K (.bool false)
 | _ => False
theorem ZbH (args : List AV) (h : Z9) (K : AV → Prop) (hl : Zel args h K) : Zo PP 42 args h fun o h' => ∃ v, o = .ret v ∧ h' = h ∧ K v := by
 refine ZH.psumm (d := 20) (Zx _ _ _ _ _ hl fun a ha => ?_)
 split at ha
 ·obtain ⟨X, hX, hI, hK⟩ := ha
  exact ⟨_, (ZH.evV Zw (ZgY X hI)).conv fun E r hr => hr.head (fun _ hc => Vo hX hc) fun _ hc => hc, fun _ => rfl, hK⟩
 ·exact ha.elim
def Z5Q : St := ⟨17, [], ⟨0, []⟩, []⟩
end Go.Tk
end
section
namespace Go.Tk
open IntKind (i64 u8 u32 u64 wrap)
structure Y2 where
 what : Int
 own : Bool
 off : Int
 amount : Int
 expiry : Int
 secret : List Int
 at' : Int
 move : Int
 ours : Bool
 number : Int
def Y2.c (a : Y2) : List AV := [.int .i64 a.what, .bool a.own, .int .i64 a.off, .int .i64 a.amount, .int .i64 a.expiry, .arr .u8 32 a.secret, .int .i64 a.at', .int .i64 a.move, .bool a.ours, .int .i64 a.number]
structure Y2.Ok (a : Y2) : Prop where
 secret : a.secret.length = 32
 sb : Bytes a.secret
def Zem (t : Int) (n : Nat) : Nat := (Int.tmod (Int.tmod t n + n) n).toNat
def Y1 (X : Za) (a : Y2) : Bool × Int := if X.L.length = 0 ∨ a.at' = 99 then (a.own, a.off) else ((X.L.getD (Zem a.at' X.L.length) Zc).own, (X.L.getD (Zem a.at' X.L.length) Zc).id)
theorem ZbI {t : Int} {n : Nat} (hn : 0 < n) : (0 ≤ Int.tmod (Int.tmod t n + n) n ∧ Int.tmod (Int.tmod t n + n) n < n) ∧ -(n : Int) < Int.tmod t n ∧ Int.tmod t n < n := by
 have h1 := Int.tmod_lt_of_pos t (show (0 : Int) < n by omega)
 have h2 : -(n : Int) < Int.tmod t n := by
  have := Int.tmod_lt_of_pos (-t) (show (0 : Int) < n by omega)
  rw [Int.neg_tmod] at this; omega
 have h3 := Int.tmod_lt_of_pos (Int.tmod t n + n) (show (0 : Int) < n by omega)
 have h4 := Int.tmod_nonneg (n : Int) (show (0 : Int) ≤ Int.tmod t n + n by omega)
 exact ⟨⟨h4, h3⟩, h2, h1⟩
theorem Zib (X : Za) (a : Y2) (o : Bool) (d : Int) (hn : X.L.length < 1000) (ho : o = (Y1 X a).1) (hd : d = (Y1 X a).2) :
  evF G0 20 34 [Z9i X, .agg a.c] ⟨0, []⟩ (Yp fun v => v = .tuple [.bool o, .int .i64 d, .agg [.arr .u8 32 a.secret]]) := by
 refine @Eq.mpr _ (let q1 := ↑(List.length X.L);
 let q2 := [AV.agg [AV.arr u8 32 a.secret]];
 let q3 := AV.tuple (AV.bool o :: AV.int i64 d :: q2);
 let q4 := AV.tuple (AV.bool a.own :: AV.int i64 a.off :: q2) = q3;
 let q5 := decide (q1 ≠ 0);
 let q6 := Int.tmod (wrap i64 (Int.tmod a.at' q1 + q1)) q1;
 let q7 := List.getD X.L (Int.toNat q6) Zc;
 Z0 (q1 == 0) q4 (Z0 (a.at' == 99) q4 (Z0 q5 (Z0 q5 (Z0 (decide (0 ≤ q6 ∧ q6 < q1)) (AV.tuple (AV.bool q7.own :: AV.int i64 q7.id :: q2) = q3) False) False) False))) (by kernel_rfl) ?_
 conv => zeta
 try simp only [Zi]
 try simp only [Zj]
 try simp only [Zk]
 try simp only [Zl]
 try simp only [Zm]
 try simp only [Zh]
 try simp only [Int.toNat_natCast, Nat.zero_add, true_and, and_true, Nat.le_refl]
 subst ho hd
 unfold Y1
 refine ⟨fun h => ?_, fun h => ⟨fun h9 => ?_, fun h9 => ?_⟩⟩
 ·have h : X.L.length = 0 := by simpa using h
  rw [if_pos (.inl h)]
 ·rw [if_pos (.inr (by simpa using h9))]
 ·have h : ¬ X.L.length = 0 := by simpa using h
  have h9 : ¬ a.at' = 99 := by simpa using h9
  obtain ⟨p1, p2⟩ := ZbI (t := a.at') (n := X.L.length) (by omega)
  rw [w64 (x := Int.tmod a.at' X.L.length + X.L.length) (by omega), if_neg (fun q => q.elim h h9)]
  exact ⟨by omega, by omega, p1, rfl⟩
def Zen : ZU := fun args h K => ZY none h true 20 args fun a => match a with
 | [.agg cs, .agg [.int .i64 w, .bool ow, .int .i64 of, .int .i64 am, .int .i64 ex, .arr .u8 32 se, .int .i64 at', .int .i64 mo, .bool ou, .int .i64 nu]] => ∃ X, LV cs X ∧ X.L.length < 1000 ∧ K (.tuple [.bool (Y1 X ⟨w, ow, of, am, ex, se, at', mo, ou, nu⟩).1, .int .i64 (Y1 X ⟨w, ow, of, am, ex, se, at', mo, ou, nu⟩).2, .agg [.arr .u8 32 se]])
 | _ => False
theorem ZbJ (args : List AV) (h : Z9) (K : AV → Prop) (hl : Zen args h K) : Zo PP 34 args h fun o h' => ∃ v, o = .ret v ∧ h' = h ∧ K v := by
 refine ZH.psumm (d := 20) (Zx _ _ _ _ _ hl fun a ha => ?_)
 split at ha
 ·rename_i cs w ow of am ex se at' mo ou nu
  obtain ⟨X, hX, h1, hK⟩ := ha
  exact ⟨_, (ZH.evV Zw (Zib X ⟨w, ow, of, am, ex, se, at', mo, ou, nu⟩ _ _ h1 rfl rfl)).conv fun E r hr => hr.head (fun _ hc => Qb hX hc) fun _ hc => hc, fun _ => rfl, hK⟩
 ·exact ha.elim
noncomputable def Z2R (H1 : List Int → List Int) (B : Nat) (c : Bool) : Zg := (((((((((((((G0.withP 87 (Zaz H1 B)).withF 18 (Zfe Zq c)).withF 62 (Zfk c)).withF 15 (Zbg c)).withF 21 Z78).withF 16 (Z4z c)).withF 32 (Zbv Zq c)).withF 88 (Zby c)).withF 37 (Z7c c)).withF 39 Z4B).withF 40 (Z2F c)).withP 38 Z8l).withP 41 Z2G).withP 34 Zen
theorem Wd (c : Bool) : (Z2R Wc 1000 c).Ok := Zg.withP_ok (Zg.withP_ok (Zg.withP_ok (Zg.withF_ok (Zg.withF_ok (Zg.withF_ok (Zg.withF_ok (Zg.withF_ok (Zg.withF_ok (Zg.withF_ok (Zg.withF_ok (Zg.withF_ok (Zg.withF_ok (Zg.withP_ok Zw (Z5o fun xs h => Z3v xs (by omega))) (ZcT c)) (Zd0 c)) (Zbh c)) Z9h) (Z2E c)) (Zbw c)) (Zbz c)) (Z9j c)) Z7d) (Z0y c)) Z7f) Z0z) ZbJ
def Z0d (X : Za) : Z9 := ⟨3, [(0, .flat (X.c (slH 1 X.L.length))), (1, .rows 70 X.L.length (Z5 X.L)), (2, .rows 70 X.L.length (Z5 X.L))]⟩
theorem Zdz {X : Za} (hI : X.Inv Zq) {m : Int} {h : Z6} (hh : h ∈ Yd m X.L) : h.Ok := by
 unfold Yd at hh
 obtain ⟨z, hz, rfl⟩ := List.mem_map.1 hh
 have := hI.ok z (List.mem_filter.1 hz).1
 exact ⟨this.hash, this.hb, this.secret, this.sb⟩
theorem ZdA {X : Za} (hI : X.Inv Zq) {m : Int} {h : Z6} (hh : h ∈ ZP m X.L) : h.Ok := by
 obtain ⟨z, hz, rfl⟩ := Q9 hh
 have := hI.ok z hz
 exact ⟨this.hash, this.hb, this.secret, this.sb⟩
def Z2H (X : Za) : List (Nat × Blk) := [(0, .flat (X.c (slH 1 X.L.length))), (1, .rows 70 X.L.length (Z5 X.L)), (2, .rows 70 X.L.length (Z5 X.L))]
def Z9m (X Y : Za) : List (Nat × Blk) := [(0, .flat (Y.c (slH 3 Y.L.length))), (3, .rows 70 Y.L.length (Z5 Y.L)), (4, .rows 70 Y.L.length (Z5 Y.L)), (2, .rows 70 X.L.length (Z5 X.L))]
def Ww (n : Int) : Int := max (-1099511627776) (min 1099511627776 n)
def idA (X : Za) (a : Y2) : Int := X.nx a.own + Ww a.off
theorem ZgZ (X Y : Za) (a : Y2) (H1 : List Int → List Int) (B : Nat) (hs : List Int) (hI : X.Inv Zq) (ha : a.Ok) (hB : 32 ≤ B) (hh : H1 a.secret = hs) (hl : hs.length = 32) (hY : Y = addX X a.own (idA X a) a.amount hs a.expiry) (he : Xi X a.own (idA X a) a.amount hs a.expiry = 0) :
  evF (Z2R H1 B true) 20 11 [.ptr (some ⟨0, 0, 0, 0, 0⟩), .agg (X.c (slH 2 X.L.length)), .agg (.int .i64 0 :: a.c.tail)] (Z0d X) (YQ 3 (.ret (.tuple [.agg (Y.c (slH 4 Y.L.length)), .bool true])) 5 (Z9m X Y)) := by
 refine @Eq.mpr _ (let q1 := a.own;
 let q2 := List.length a.secret;
 let q3 := decide (q2 = 32);
 let q4 := decide (32 = q2);
 let q5 := decide (q2 ≤ B);
 let q6 := a.expiry;
 let q7 := decide (q6 = q6);
 let q8 := a.amount;
 let q9 := decide (q8 = q8);
 let q10 := decide (q1 = q1);
 let q11 := X.t;
 let q12 := q11.fund;
 let q13 := q12 = q12;
 let q14 := q11.index;
 let q15 := decide (q14 = q14);
 let q16 := q11.cap;
 let q17 := decide (q16 = q16);
 let q18 := q11.dust;
 let q19 := decide (q18 = q18);
 let q20 := q11.fee;
 let q21 := decide (q20 = q20);
 let q22 := q11.delay;
 let q23 := decide (q22 = q22);
 let q24 := q11.k0;
 let q25 := q24 = q24;
 let q26 := q11.k1;
 let q27 := q26 = q26;
 let q28 := X.side;
 let q29 := decide (q28 = q28);
 let q30 := X.res;
 let q31 := decide (q30 = q30);
 let q32 := [X.a0, X.a1];
 let q33 := q32 = q32;
 let q34 := [X.i0, X.i1];
 let q35 := q34 = q34;
 let q36 := List.length X.L;
 let q37 := decide (q36 = q36);
 let q38 := AV.arr u8 32 q12;
 let q39 := AV.int i64 q14;
 let q40 := AV.int i64 q16;
 let q41 := AV.int i64 q18;
 let q42 := AV.int i64 q20;
 let q43 := AV.int i64 q22;
 let q44 := AV.arr u8 32 q24;
 let q45 := AV.arr u8 32 q26;
 let q46 := AV.int i64 q28;
 let q47 := AV.int i64 q30;
 let q48 := AV.arr i64 2 q32;
 let q49 := AV.arr i64 2 q34;
 let q50 := Z5 X.L;
 let q51 := if a.off < 1099511627776 then a.off else 1099511627776;
 let q52 := if q51 > -1099511627776 then q51 else -1099511627776;
 let q53 := wrap i64 (X.i0 + q52);
 let q54 := H1 a.secret;
 let q55 := Y.t;
 let q56 := q55.fund;
 let q57 := q55.index;
 let q58 := q55.cap;
 let q59 := q55.dust;
 let q60 := q55.fee;
 let q61 := q55.delay;
 let q62 := q55.k0;
 let q63 := q55.k1;
 let q64 := Y.side;
 let q65 := Y.res;
 let q66 := [Y.a0, Y.a1];
 let q67 := [Y.i0, Y.i1];
 let q68 := List.length Y.L;
 let q69 := [(3, 12), (4, 8)];
 let q70 := Z5 Y.L;
 let q71 := wrap i64 (X.i1 + q52);
 Z0 q1
 (Z0 q3
 (Z0 q4
 (Z0 q5
 (Z0 q7
 (Z0 q9
 (Z0 q10
 (q13 ∧
 Z0 q15
 (Z0 q17
 (Z0 q19
 (Z0 q21
 (Z0 q23
 (q25 ∧
 q27 ∧
 Z0 q29
 (Z0 q31
 (q33 ∧
 q35 ∧
 Z0 q37
 (Z0 q37
 ((∀ (i : Nat), i < q36 → true = true) ∧
 ∃ (X_1 : Za),
 let q143 := addX X_1 q1 q53 q8 q54 q6;
 let q144 := q143.t;
 let q145 := q144.fund;
 let q146 := q145 = q145;
 let q147 := q144.index;
 let q148 := decide (q147 = q147);
 let q149 := q144.cap;
 let q150 := decide (q149 = q149);
 let q151 := q144.dust;
 let q152 := decide (q151 = q151);
 let q153 := q144.fee;
 let q154 := decide (q153 = q153);
 let q155 := q144.delay;
 let q156 := decide (q155 = q155);
 let q157 := q144.k0;
 let q158 := q157 = q157;
 let q159 := q144.k1;
 let q160 := q159 = q159;
 let q161 := q143.side;
 let q162 := decide (q161 = q161);
 let q163 := q143.res;
 let q164 := decide (q163 = q163);
 let q165 := [q143.a0, q143.a1];
 let q166 := q165 = q165;
 let q167 := [q143.i0, q143.i1];
 let q168 := q167 = q167;
 let q169 := List.length X_1.L;
 let q170 := q169 + 1;
 let q171 := decide (q170 = q170);
 let q172 := decide (q170 = q68);
 LD [q38, q39, q40, q41, q42, q43, q44, q45, q46, q47, q48, q49, AV.nslice (ZC.mk 0 0 70 0 0) 70 q36 q36] q36 q50 X_1 ∧
 Za.Inv Zq X_1 ∧
 Xi X_1 q1 q53 q8 q54 q6 = 0 ∧
 Z0 q3
 (Z0 q4
 (Z0 q5
 (Z0 q7
 (Z0 q9
 (Z0 q10
 (q146 ∧
 Z0 q148
 (Z0 q150
 (Z0 q152
 (Z0 q154
 (Z0 q156
 (q158 ∧
 q160 ∧
 Z0 q162
 (Z0 q164
 (q166 ∧
 q168 ∧
 Z0 q171
 (Z0 q171
 ((∀ (i : Nat), i < q36 → true = true) ∧
 ∃ (X_2 : Za),
 let q203 := addX X_2 q1 q53 q8 q54 q6;
 let q204 := q203.t;
 let q205 := List.length X_2.L + 1;
 let q206 := decide (q205 = q68);
 LB [q38, q39, q40, q41, q42, q43, q44, q45, q46, q47, q48, q49, AV.nslice (ZC.mk 1 0 70 0 0) 70 q36 q36] q36 q50 X_2 ∧
 Za.Inv Zq X_2 ∧
 Xi X_2 q1 q53 q8 q54 q6 = 0 ∧
 q146 ∧
 Z0 q148
 (Z0 q150
 (Z0 q152
 (Z0 q154
 (Z0 q156
 (q158 ∧
 q160 ∧
 Z0 q162
 (Z0 q164
 (q166 ∧
 q168 ∧
 Z0 q171
 (Z0 q171
 (q146 ∧
 Z0 q148
 (Z0 q150
 (Z0 q152
 (Z0 q154
 (Z0 q156
 (q158 ∧
 q160 ∧
 Z0 q162
 (Z0 q164
 (q166 ∧
 q168 ∧
 Z0 q171
 (Z0 q171 (q145 = q56 ∧ Z0 (decide (q147 = q57)) (Z0 (decide (q149 = q58)) (Z0 (decide (q151 = q59)) (Z0 (decide (q153 = q60)) (Z0 (decide (q155 = q61)) (q157 = q62 ∧ q159 = q63 ∧ Z0 (decide (q161 = q64)) (Z0 (decide (q163 = q65)) (q165 = q66 ∧ q167 = q67 ∧ Z0 q172 (Z0 (decide (q68 ≤ q170)) (q204.fund = q56 ∧ Z0 (decide (q204.index = q57)) (Z0 (decide (q204.cap = q58)) (Z0 (decide (q204.dust = q59)) (Z0 (decide (q204.fee = q60)) (Z0 (decide (q204.delay = q61)) (q204.k0 = q62 ∧ q204.k1 = q63 ∧ Z0 (decide (q203.side = q64)) (Z0 (decide (q203.res = q65)) ([q203.a0, q203.a1] = q66 ∧ [q203.i0, q203.i1] = q67 ∧ Z0 q206 (Z0 (decide (q68 ≤ q205)) (Z0 q206 (Z8 3 q69 q68 q70 (Z5 q203.L) ∧ Z0 q172 (Z8 3 q69 q68 q70 (Z5 q143.L) ∧ Z0 (decide (q169 = q36)) (Z8 3 q69 q36 q50 (Z5 X_1.L) ∧ True) False) False) False) False) False) False) False) False) False) False) False) False) False) False) False) False) False) False) False) False) False)
 False)
 False)
 False)
 False)
 False)
 False)
 False)
 False)
 False)
 False)
 False)
 False)
 False)
 False)
 False)
 False)
 False)
 False)
 False)
 False)
 False)
 False)
 False)
 False)
 False)
 False)
 False)
 False)
 False)
 False)
 False)
 False)
 False)
 False)
 False)
 False)
 False)
 False)
 False)
 False)
 False)
 False)
 False)
 False)
 False)
 False)
 False)
 False)
 (Z0 q3
 (Z0 q4
 (Z0 q5
 (Z0 q7
 (Z0 q9
 (Z0 q10
 (q13 ∧
 Z0 q15
 (Z0 q17
 (Z0 q19
 (Z0 q21
 (Z0 q23
 (q25 ∧
 q27 ∧
 Z0 q29
 (Z0 q31
 (q33 ∧
 q35 ∧
 Z0 q37
 (Z0 q37
 ((∀ (i : Nat), i < q36 → true = true) ∧
 ∃ (X_1 : Za),
 let q143 := addX X_1 q1 q71 q8 q54 q6;
 let q144 := q143.t;
 let q145 := q144.fund;
 let q146 := q145 = q145;
 let q147 := q144.index;
 let q148 := decide (q147 = q147);
 let q149 := q144.cap;
 let q150 := decide (q149 = q149);
 let q151 := q144.dust;
 let q152 := decide (q151 = q151);
 let q153 := q144.fee;
 let q154 := decide (q153 = q153);
 let q155 := q144.delay;
 let q156 := decide (q155 = q155);
 let q157 := q144.k0;
 let q158 := q157 = q157;
 let q159 := q144.k1;
 let q160 := q159 = q159;
 let q161 := q143.side;
 let q162 := decide (q161 = q161);
 let q163 := q143.res;
 let q164 := decide (q163 = q163);
 let q165 := [q143.a0, q143.a1];
 let q166 := q165 = q165;
 let q167 := [q143.i0, q143.i1];
 let q168 := q167 = q167;
 let q169 := List.length X_1.L;
 let q170 := q169 + 1;
 let q171 := decide (q170 = q170);
 let q172 := decide (q170 = q68);
 LD [q38, q39, q40, q41, q42, q43, q44, q45, q46, q47, q48, q49, AV.nslice (ZC.mk 0 0 70 0 0) 70 q36 q36] q36 q50 X_1 ∧
 Za.Inv Zq X_1 ∧
 Xi X_1 q1 q71 q8 q54 q6 = 0 ∧
 Z0 q3
 (Z0 q4
 (Z0 q5
 (Z0 q7
 (Z0 q9
 (Z0 q10
 (q146 ∧
 Z0 q148
 (Z0 q150
 (Z0 q152
 (Z0 q154
 (Z0 q156
 (q158 ∧
 q160 ∧
 Z0 q162
 (Z0 q164
 (q166 ∧
 q168 ∧
 Z0 q171
 (Z0 q171
 ((∀ (i : Nat), i < q36 → true = true) ∧
 ∃ (X_2 : Za),
 let q203 := addX X_2 q1 q71 q8 q54 q6;
 let q204 := q203.t;
 let q205 := List.length X_2.L + 1;
 let q206 := decide (q205 = q68);
 LB [q38, q39, q40, q41, q42, q43, q44, q45, q46, q47, q48, q49, AV.nslice (ZC.mk 1 0 70 0 0) 70 q36 q36] q36 q50 X_2 ∧
 Za.Inv Zq X_2 ∧
 Xi X_2 q1 q71 q8 q54 q6 = 0 ∧
 q146 ∧
 Z0 q148
 (Z0 q150
 (Z0 q152
 (Z0 q154
 (Z0 q156
 (q158 ∧
 q160 ∧
 Z0 q162
 (Z0 q164
 (q166 ∧
 q168 ∧
 Z0 q171
 (Z0 q171
 (q146 ∧
 Z0 q148
 (Z0 q150
 (Z0 q152
 (Z0 q154
 (Z0 q156
 (q158 ∧
 q160 ∧
 Z0 q162
 (Z0 q164
 (q166 ∧
 q168 ∧
 Z0 q171
 (Z0 q171 (q145 = q56 ∧ Z0 (decide (q147 = q57)) (Z0 (decide (q149 = q58)) (Z0 (decide (q151 = q59)) (Z0 (decide (q153 = q60)) (Z0 (decide (q155 = q61)) (q157 = q62 ∧ q159 = q63 ∧ Z0 (decide (q161 = q64)) (Z0 (decide (q163 = q65)) (q165 = q66 ∧ q167 = q67 ∧ Z0 q172 (Z0 (decide (q68 ≤ q170)) (q204.fund = q56 ∧ Z0 (decide (q204.index = q57)) (Z0 (decide (q204.cap = q58)) (Z0 (decide (q204.dust = q59)) (Z0 (decide (q204.fee = q60)) (Z0 (decide (q204.delay = q61)) (q204.k0 = q62 ∧ q204.k1 = q63 ∧ Z0 (decide (q203.side = q64)) (Z0 (decide (q203.res = q65)) ([q203.a0, q203.a1] = q66 ∧ [q203.i0, q203.i1] = q67 ∧ Z0 q206 (Z0 (decide (q68 ≤ q205)) (Z0 q206 (Z8 3 q69 q68 q70 (Z5 q203.L) ∧ Z0 q172 (Z8 3 q69 q68 q70 (Z5 q143.L) ∧ Z0 (decide (q169 = q36)) (Z8 3 q69 q36 q50 (Z5 X_1.L) ∧ True) False) False) False) False) False) False) False) False) False) False) False) False) False) False) False) False) False) False) False) False) False)
 False)
 False)
 False)
 False)
 False)
 False)
 False)
 False)
 False)
 False)
 False)
 False)
 False)
 False)
 False)
 False)
 False)
 False)
 False)
 False)
 False)
 False)
 False)
 False)
 False)
 False)
 False)
 False)
 False)
 False)
 False)
 False)
 False)
 False)
 False)
 False)
 False)
 False)
 False)
 False)
 False)
 False)
 False)
 False)
 False)
 False)
 False)
 False)) (by kernel_rfl) ?_
 conv => zeta
 try simp only [Zi]
 try simp only [Zj]
 try simp only [Zk]
 try simp only [Zl]
 try simp only [Zm]
 try simp only [Zh]
 try simp only [Int.toNat_natCast, Nat.zero_add, true_and, and_true, Nat.le_refl]
 have hsb : a.secret.length ≤ B := by rw [ha.secret]; exact hB
 have hc : (if (if a.off < 1099511627776 then a.off else 1099511627776) > -1099511627776 then (if a.off < 1099511627776 then a.off else 1099511627776) else -1099511627776) = Ww a.off := by
  unfold Ww
  split <;> split <;> omega
 have hcb : -1099511627776 ≤ Ww a.off ∧ Ww a.off ≤ 1099511627776 := by unfold Ww; omega
 have h0 := hI.i0
 have h1 := hI.i1
 rw [hc, hh]
 refine ⟨fun ho => ?_, fun ho => ?_⟩
 ·have hw : i64.wrap (X.i0 + Ww a.off) = idA X a := by
   rw [w64 (by omega)]; unfold idA; rw [ho]; rfl
  rw [hw]
  subst hY
  have hl2 : (addX X a.own (idA X a) a.amount hs a.expiry).L.length = X.L.length + 1 := by
   unfold addX; rw [if_pos he]; exact Z2q _ _
  rw [hl2]
  repeat' first
   | exact hI
   | exact he
   | exact ha.secret
   | exact hsb
   | exact beq_self_eq_true _
   | exact ha.secret.symm
   | (intro _ _; trivial)
   | refine Exists.intro X (And.intro ⟨rfl, rfl, rfl⟩ ?_)
   | apply And.intro
   | rfl
   | omega
   | exact Zn fun _ _ => rfl
 ·have hw : i64.wrap (X.i1 + Ww a.off) = idA X a := by
   rw [w64 (by omega)]; unfold idA; rw [ho]; rfl
  rw [hw]
  subst hY
  have hl2 : (addX X a.own (idA X a) a.amount hs a.expiry).L.length = X.L.length + 1 := by
   unfold addX; rw [if_pos he]; exact Z2q _ _
  rw [hl2]
  repeat' first
   | exact hI
   | exact he
   | exact ha.secret
   | exact hsb
   | exact beq_self_eq_true _
   | exact ha.secret.symm
   | (intro _ _; trivial)
   | refine Exists.intro X (And.intro ⟨rfl, rfl, rfl⟩ ?_)
   | apply And.intro
   | rfl
   | omega
   | exact Zn fun _ _ => rfl
theorem Zh0 (X : Za) (a : Y2) (H1 : List Int → List Int) (B : Nat) (hs : List Int) (hI : X.Inv Zq) (ha : a.Ok) (hB : 32 ≤ B) (hh : H1 a.secret = hs) (hl : hs.length = 32) (he : Xi X a.own (idA X a) a.amount hs a.expiry ≠ 0) :
  evF (Z2R H1 B false) 20 11 [.ptr (some ⟨0, 0, 0, 0, 0⟩), .agg (X.c (slH 2 X.L.length)), .agg (.int .i64 0 :: a.c.tail)] (Z0d X) (YQ 3 (.ret (.tuple [.agg (X.c (slH 2 X.L.length)), .bool true])) 3 (Z2H X)) := by
 refine @Eq.mpr _ (let q1 := a.own;
 let q2 := List.length a.secret;
 let q3 := decide (q2 = 32);
 let q4 := decide (32 = q2);
 let q5 := decide (q2 ≤ B);
 let q6 := a.expiry;
 let q7 := decide (q6 = q6);
 let q8 := a.amount;
 let q9 := decide (q8 = q8);
 let q10 := decide (q1 = q1);
 let q11 := X.t;
 let q12 := q11.fund;
 let q13 := q12 = q12;
 let q14 := q11.index;
 let q15 := decide (q14 = q14);
 let q16 := q11.cap;
 let q17 := decide (q16 = q16);
 let q18 := q11.dust;
 let q19 := decide (q18 = q18);
 let q20 := q11.fee;
 let q21 := decide (q20 = q20);
 let q22 := q11.delay;
 let q23 := decide (q22 = q22);
 let q24 := q11.k0;
 let q25 := q24 = q24;
 let q26 := q11.k1;
 let q27 := q26 = q26;
 let q28 := X.side;
 let q29 := decide (q28 = q28);
 let q30 := X.res;
 let q31 := decide (q30 = q30);
 let q32 := [X.a0, X.a1];
 let q33 := q32 = q32;
 let q34 := [X.i0, X.i1];
 let q35 := q34 = q34;
 let q36 := List.length X.L;
 let q37 := decide (q36 = q36);
 let q38 := AV.arr u8 32 q12;
 let q39 := AV.int i64 q14;
 let q40 := AV.int i64 q16;
 let q41 := AV.int i64 q18;
 let q42 := AV.int i64 q20;
 let q43 := AV.int i64 q22;
 let q44 := AV.arr u8 32 q24;
 let q45 := AV.arr u8 32 q26;
 let q46 := AV.int i64 q28;
 let q47 := AV.int i64 q30;
 let q48 := AV.arr i64 2 q32;
 let q49 := AV.arr i64 2 q34;
 let q50 := Z5 X.L;
 let q51 := if a.off < 1099511627776 then a.off else 1099511627776;
 let q52 := if q51 > -1099511627776 then q51 else -1099511627776;
 let q53 := wrap i64 (X.i0 + q52);
 let q54 := H1 a.secret;
 let q55 := wrap i64 (X.i1 + q52);
 Z0 q1
 (Z0 q3
 (Z0 q4
 (Z0 q5
 (Z0 q7
 (Z0 q9
 (Z0 q10
 (q13 ∧
 Z0 q15
 (Z0 q17
 (Z0 q19
 (Z0 q21
 (Z0 q23
 (q25 ∧
 q27 ∧
 Z0 q29
 (Z0 q31
 (q33 ∧
 q35 ∧
 Z0 q37
 (Z0 q37
 ((∀ (i : Nat), i < q36 → true = true) ∧
 ∃ (X_1 : Za),
 let q111 := Xi X_1 q1 q53 q8 q54 q6;
 let q112 := X_1.t;
 let q113 := q112.fund;
 let q114 := q113 = q113;
 let q115 := q112.index;
 let q116 := decide (q115 = q115);
 let q117 := q112.cap;
 let q118 := decide (q117 = q117);
 let q119 := q112.dust;
 let q120 := decide (q119 = q119);
 let q121 := q112.fee;
 let q122 := decide (q121 = q121);
 let q123 := q112.delay;
 let q124 := decide (q123 = q123);
 let q125 := q112.k0;
 let q126 := q125 = q125;
 let q127 := q112.k1;
 let q128 := q127 = q127;
 let q129 := X_1.side;
 let q130 := decide (q129 = q129);
 let q131 := X_1.res;
 let q132 := decide (q131 = q131);
 let q133 := [X_1.a0, X_1.a1];
 let q134 := q133 = q133;
 let q135 := [X_1.i0, X_1.i1];
 let q136 := q135 = q135;
 let q137 := List.length X_1.L;
 let q138 := decide (q137 = q137);
 let q139 := decide (q137 = q36);
 LD [q38, q39, q40, q41, q42, q43, q44, q45, q46, q47, q48, q49, AV.nslice (ZC.mk 0 0 70 0 0) 70 q36 q36] q36 q50 X_1 ∧
 Za.Inv Zq X_1 ∧
 q111 ≠ 0 ∧
 Z0 q3
 (Z0 q4
 (Z0 q5
 (Z0 q7
 (Z0 q9
 (Z0 q10
 (q114 ∧
 Z0 q116
 (Z0 q118
 (Z0 q120
 (Z0 q122
 (Z0 q124
 (q126 ∧
 q128 ∧
 Z0 q130
 (Z0 q132
 (q134 ∧
 q136 ∧
 Z0 q138
 (Z0 q138
 ((∀ (i : Nat), i < q36 → true = true) ∧
 ∃ (X_2 : Za),
 let q169 := Xi X_2 q1 q53 q8 q54 q6;
 let q170 := X_2.t;
 let q171 := List.length X_2.L;
 let q172 := decide (q171 = q36);
 LB [q38, q39, q40, q41, q42, q43, q44, q45, q46, q47, q48, q49, AV.nslice (ZC.mk 1 0 70 0 0) 70 q36 q36] q36 q50 X_2 ∧
 Za.Inv Zq X_2 ∧
 q169 ≠ 0 ∧
 q114 ∧
 Z0 q116
 (Z0 q118
 (Z0 q120
 (Z0 q122
 (Z0 q124
 (q126 ∧
 q128 ∧
 Z0 q130
 (Z0 q132
 (q134 ∧
 q136 ∧
 Z0 q138
 (Z0 q138
 (q114 ∧
 Z0 q116
 (Z0 q118
 (Z0 q120
 (Z0 q122
 (Z0 q124
 (q126 ∧
 q128 ∧
 Z0 q130
 (Z0 q132
 (q134 ∧
 q136 ∧ Z0 q138 (Z0 q138 (q113 = q12 ∧ Z0 (decide (q115 = q14)) (Z0 (decide (q117 = q16)) (Z0 (decide (q119 = q18)) (Z0 (decide (q121 = q20)) (Z0 (decide (q123 = q22)) (q125 = q24 ∧ q127 = q26 ∧ Z0 (decide (q129 = q28)) (Z0 (decide (q131 = q30)) (q133 = q32 ∧ q135 = q34 ∧ Z0 q139 (Z0 (decide (q36 ≤ q137)) (Z0 (decide ((q169 == q111) = true)) (q170.fund = q12 ∧ Z0 (decide (q170.index = q14)) (Z0 (decide (q170.cap = q16)) (Z0 (decide (q170.dust = q18)) (Z0 (decide (q170.fee = q20)) (Z0 (decide (q170.delay = q22)) (q170.k0 = q24 ∧ q170.k1 = q26 ∧ Z0 (decide (X_2.side = q28)) (Z0 (decide (X_2.res = q30)) ([X_2.a0, X_2.a1] = q32 ∧ [X_2.i0, X_2.i1] = q34 ∧ Z0 q172 (Z0 (decide (q36 ≤ q171)) (Z0 q172 (Z8 3 [] q36 q50 (Z5 X_2.L) ∧ Z0 q139 (Z8 3 [] q36 q50 (Z5 X_1.L) ∧ True) False) False) False) False) False) False) False) False) False) False) False) False) False) False) False) False) False) False) False) False) False) False) False)
 False)
 False)
 False)
 False)
 False)
 False)
 False)
 False)
 False)
 False)
 False)
 False)
 False)
 False)
 False)
 False)
 False)
 False)
 False)
 False)
 False)
 False)
 False)
 False)
 False)
 False)
 False)
 False)
 False)
 False)
 False)
 False)
 False)
 False)
 False)
 False)
 False)
 False)
 False)
 False)
 False)
 False)
 False)
 False)
 False)
 False)
 (Z0 q3
 (Z0 q4
 (Z0 q5
 (Z0 q7
 (Z0 q9
 (Z0 q10
 (q13 ∧
 Z0 q15
 (Z0 q17
 (Z0 q19
 (Z0 q21
 (Z0 q23
 (q25 ∧
 q27 ∧
 Z0 q29
 (Z0 q31
 (q33 ∧
 q35 ∧
 Z0 q37
 (Z0 q37
 ((∀ (i : Nat), i < q36 → true = true) ∧
 ∃ (X_1 : Za),
 let q111 := Xi X_1 q1 q55 q8 q54 q6;
 let q112 := X_1.t;
 let q113 := q112.fund;
 let q114 := q113 = q113;
 let q115 := q112.index;
 let q116 := decide (q115 = q115);
 let q117 := q112.cap;
 let q118 := decide (q117 = q117);
 let q119 := q112.dust;
 let q120 := decide (q119 = q119);
 let q121 := q112.fee;
 let q122 := decide (q121 = q121);
 let q123 := q112.delay;
 let q124 := decide (q123 = q123);
 let q125 := q112.k0;
 let q126 := q125 = q125;
 let q127 := q112.k1;
 let q128 := q127 = q127;
 let q129 := X_1.side;
 let q130 := decide (q129 = q129);
 let q131 := X_1.res;
 let q132 := decide (q131 = q131);
 let q133 := [X_1.a0, X_1.a1];
 let q134 := q133 = q133;
 let q135 := [X_1.i0, X_1.i1];
 let q136 := q135 = q135;
 let q137 := List.length X_1.L;
 let q138 := decide (q137 = q137);
 let q139 := decide (q137 = q36);
 LD [q38, q39, q40, q41, q42, q43, q44, q45, q46, q47, q48, q49, AV.nslice (ZC.mk 0 0 70 0 0) 70 q36 q36] q36 q50 X_1 ∧
 Za.Inv Zq X_1 ∧
 q111 ≠ 0 ∧
 Z0 q3
 (Z0 q4
 (Z0 q5
 (Z0 q7
 (Z0 q9
 (Z0 q10
 (q114 ∧
 Z0 q116
 (Z0 q118
 (Z0 q120
 (Z0 q122
 (Z0 q124
 (q126 ∧
 q128 ∧
 Z0 q130
 (Z0 q132
 (q134 ∧
 q136 ∧
 Z0 q138
 (Z0 q138
 ((∀ (i : Nat), i < q36 → true = true) ∧
 ∃ (X_2 : Za),
 let q169 := Xi X_2 q1 q55 q8 q54 q6;
 let q170 := X_2.t;
 let q171 := List.length X_2.L;
 let q172 := decide (q171 = q36);
 LB [q38, q39, q40, q41, q42, q43, q44, q45, q46, q47, q48, q49, AV.nslice (ZC.mk 1 0 70 0 0) 70 q36 q36] q36 q50 X_2 ∧
 Za.Inv Zq X_2 ∧
 q169 ≠ 0 ∧
 q114 ∧
 Z0 q116
 (Z0 q118
 (Z0 q120
 (Z0 q122
 (Z0 q124
 (q126 ∧
 q128 ∧
 Z0 q130
 (Z0 q132
 (q134 ∧
 q136 ∧
 Z0 q138
 (Z0 q138
 (q114 ∧
 Z0 q116
 (Z0 q118
 (Z0 q120
 (Z0 q122
 (Z0 q124
 (q126 ∧
 q128 ∧
 Z0 q130
 (Z0 q132
 (q134 ∧
 q136 ∧ Z0 q138 (Z0 q138 (q113 = q12 ∧ Z0 (decide (q115 = q14)) (Z0 (decide (q117 = q16)) (Z0 (decide (q119 = q18)) (Z0 (decide (q121 = q20)) (Z0 (decide (q123 = q22)) (q125 = q24 ∧ q127 = q26 ∧ Z0 (decide (q129 = q28)) (Z0 (decide (q131 = q30)) (q133 = q32 ∧ q135 = q34 ∧ Z0 q139 (Z0 (decide (q36 ≤ q137)) (Z0 (decide ((q169 == q111) = true)) (q170.fund = q12 ∧ Z0 (decide (q170.index = q14)) (Z0 (decide (q170.cap = q16)) (Z0 (decide (q170.dust = q18)) (Z0 (decide (q170.fee = q20)) (Z0 (decide (q170.delay = q22)) (q170.k0 = q24 ∧ q170.k1 = q26 ∧ Z0 (decide (X_2.side = q28)) (Z0 (decide (X_2.res = q30)) ([X_2.a0, X_2.a1] = q32 ∧ [X_2.i0, X_2.i1] = q34 ∧ Z0 q172 (Z0 (decide (q36 ≤ q171)) (Z0 q172 (Z8 3 [] q36 q50 (Z5 X_2.L) ∧ Z0 q139 (Z8 3 [] q36 q50 (Z5 X_1.L) ∧ True) False) False) False) False) False) False) False) False) False) False) False) False) False) False) False) False) False) False) False) False) False) False) False)
 False)
 False)
 False)
 False)
 False)
 False)
 False)
 False)
 False)
 False)
 False)
 False)
 False)
 False)
 False)
 False)
 False)
 False)
 False)
 False)
 False)
 False)
 False)
 False)
 False)
 False)
 False)
 False)
 False)
 False)
 False)
 False)
 False)
 False)
 False)
 False)
 False)
 False)
 False)
 False)
 False)
 False)
 False)
 False)
 False)
 False)) (by kernel_rfl) ?_
 conv => zeta
 try simp only [Zi]
 try simp only [Zj]
 try simp only [Zk]
 try simp only [Zl]
 try simp only [Zm]
 try simp only [Zh]
 try simp only [Int.toNat_natCast, Nat.zero_add, true_and, and_true, Nat.le_refl]
 have hsb : a.secret.length ≤ B := by rw [ha.secret]; exact hB
 have hc : (if (if a.off < 1099511627776 then a.off else 1099511627776) > -1099511627776 then (if a.off < 1099511627776 then a.off else 1099511627776) else -1099511627776) = Ww a.off := by
  unfold Ww
  split <;> split <;> omega
 have hcb : -1099511627776 ≤ Ww a.off ∧ Ww a.off ≤ 1099511627776 := by unfold Ww; omega
 have h0 := hI.i0
 have h1 := hI.i1
 rw [hc, hh]
 refine ⟨fun ho => ?_, fun ho => ?_⟩
 ·have hw : i64.wrap (X.i0 + Ww a.off) = idA X a := by
   rw [w64 (by omega)]; unfold idA; rw [ho]; rfl
  rw [hw]
  repeat' first
   | exact hI
   | exact he
   | exact ha.secret
   | exact hsb
   | exact beq_self_eq_true _
   | exact ha.secret.symm
   | (intro _ _; trivial)
   | refine Exists.intro X (And.intro ⟨rfl, rfl, rfl⟩ ?_)
   | apply And.intro
   | rfl
   | omega
   | exact Zn fun _ _ => rfl
 ·have hw : i64.wrap (X.i1 + Ww a.off) = idA X a := by
   rw [w64 (by omega)]; unfold idA; rw [ho]; rfl
  rw [hw]
  repeat' first
   | exact hI
   | exact he
   | exact ha.secret
   | exact hsb
   | exact beq_self_eq_true _
   | exact ha.secret.symm
   | (intro _ _; trivial)
   | refine Exists.intro X (And.intro ⟨rfl, rfl, rfl⟩ ?_)
   | apply And.intro
   | rfl
   | omega
   | exact Zn fun _ _ => rfl
theorem Zh1 (X Y : Za) (a : Y2) (H1 : List Int → List Int) (B : Nat) (hI : X.Inv Zq) (ha : a.Ok) (hB : 32 ≤ B) (he : YU Zq X (Y1 X a).1 (Y1 X a).2 1 a.secret = 0) (hY : Y = endX Zq X (Y1 X a).1 (Y1 X a).2 1 a.secret) :
  evF (Z2R H1 B true) 20 11 [.ptr (some ⟨0, 0, 0, 0, 0⟩), .agg (X.c (slH 2 X.L.length)), .agg (.int .i64 1 :: a.c.tail)] (Z0d X) (YQ 3 (.ret (.tuple [.agg (Y.c (slH 4 Y.L.length)), .bool true])) 5 (Z9m X Y)) := by
 refine @Eq.mpr _ (let q1 := List.length X.L;
 let q2 := X.t;
 let q3 := AV.arr u8 32 q2.fund;
 let q4 := AV.int i64 q2.index;
 let q5 := AV.int i64 q2.cap;
 let q6 := AV.int i64 q2.dust;
 let q7 := AV.int i64 q2.fee;
 let q8 := AV.int i64 q2.delay;
 let q9 := AV.arr u8 32 q2.k0;
 let q10 := AV.arr u8 32 q2.k1;
 let q11 := AV.int i64 X.side;
 let q12 := AV.int i64 X.res;
 let q13 := AV.arr i64 2 [X.a0, X.a1];
 let q14 := AV.arr i64 2 [X.i0, X.i1];
 let q15 := Z5 X.L;
 let q16 := a.secret;
 let q17 := List.length q16 = 32;
 let q18 := Y2.mk 1 a.own a.off a.amount a.expiry q16 a.at' a.move a.ours a.number;
 let q19 := Y.t;
 let q20 := q19.fund;
 let q21 := q19.index;
 let q22 := q19.cap;
 let q23 := q19.dust;
 let q24 := q19.fee;
 let q25 := q19.delay;
 let q26 := q19.k0;
 let q27 := q19.k1;
 let q28 := [Y.a0, Y.a1];
 let q29 := [Y.i0, Y.i1];
 let q30 := List.length Y.L;
 let q31 := [(3, 13), (4, 10)];
 let q32 := Z5 Y.L;
 Z0 (decide (0 + q1 ≤ q1))
 ((∀ (i : Nat), i < q1 → true = true) ∧
 ∃ (X : Za),
 let q65 := (Y1 X q18).fst;
 let q66 := (Y1 X q18).snd;
 LV [q3, q4, q5, q6, q7, q8, q9, q10, q11, q12, q13, q14, AV.vrows 70 q1 (ZT 0 q15) q1] X ∧
 List.length X.L < 1000 ∧
 (∀ (i : Nat), i < q1 → true = true) ∧
 ∃ (X : Za),
 let q69 := endX Zq X q65 q66 1 q16;
 let q70 := q69.t;
 let q71 := q70.fund;
 let q72 := q71 = q71;
 let q73 := q70.index;
 let q74 := decide (q73 = q73);
 let q75 := q70.cap;
 let q76 := decide (q75 = q75);
 let q77 := q70.dust;
 let q78 := decide (q77 = q77);
 let q79 := q70.fee;
 let q80 := decide (q79 = q79);
 let q81 := q70.delay;
 let q82 := decide (q81 = q81);
 let q83 := q70.k0;
 let q84 := q83 = q83;
 let q85 := q70.k1;
 let q86 := q85 = q85;
 let q87 := q69.side;
 let q88 := decide (q87 = q87);
 let q89 := q69.res;
 let q90 := decide (q89 = q89);
 let q91 := [q69.a0, q69.a1];
 let q92 := q91 = q91;
 let q93 := [q69.i0, q69.i1];
 let q94 := q93 = q93;
 let q95 := List.length X.L;
 let q96 := decide (q95 = q95);
 let q97 := decide (q95 = q30);
 LD [q3, q4, q5, q6, q7, q8, q9, q10, q11, q12, q13, q14, AV.nslice (ZC.mk 0 0 70 0 0) 70 q1 q1] q1 q15 X ∧
 Za.Inv Zq X ∧
 (q17 ∧ Bytes q16) ∧
 YU Zq X q65 q66 1 q16 = 0 ∧
 (∀ (i : Nat), i < q1 → true = true) ∧
 ∃ (X_1 : Za),
 let q127 := endX Zq X_1 q65 q66 1 q16;
 let q128 := q127.t;
 let q129 := List.length X_1.L;
 let q130 := decide (q129 = q30);
 LB [q3, q4, q5, q6, q7, q8, q9, q10, q11, q12, q13, q14, AV.nslice (ZC.mk 1 0 70 0 0) 70 q1 q1] q1 q15 X_1 ∧
 Za.Inv Zq X_1 ∧
 q17 ∧
 YU Zq X_1 q65 q66 1 q16 = 0 ∧
 q72 ∧
 Z0 q74
 (Z0 q76
 (Z0 q78
 (Z0 q80
 (Z0 q82
 (q84 ∧
 q86 ∧
 Z0 q88
 (Z0 q90
 (q92 ∧
 q94 ∧
 Z0 q96
 (Z0 q96
 (q72 ∧
 Z0 q74
 (Z0 q76
 (Z0 q78
 (Z0 q80
 (Z0 q82
 (q84 ∧
 q86 ∧
 Z0 q88
 (Z0 q90
 (q92 ∧
 q94 ∧
 Z0 q96
 (Z0 q96 (q71 = q20 ∧ Z0 (decide (q73 = q21)) (Z0 (decide (q75 = q22)) (Z0 (decide (q77 = q23)) (Z0 (decide (q79 = q24)) (Z0 (decide (q81 = q25)) (q83 = q26 ∧ q85 = q27 ∧ Z0 (decide (q87 = Y.side)) (Z0 (decide (q89 = Y.res)) (q91 = q28 ∧ q93 = q29 ∧ Z0 q97 (Z0 (decide (q30 ≤ q95)) (q128.fund = q20 ∧ Z0 (decide (q128.index = q21)) (Z0 (decide (q128.cap = q22)) (Z0 (decide (q128.dust = q23)) (Z0 (decide (q128.fee = q24)) (Z0 (decide (q128.delay = q25)) (q128.k0 = q26 ∧ q128.k1 = q27 ∧ Z0 (decide (q127.side = Y.side)) (Z0 (decide (q127.res = Y.res)) ([q127.a0, q127.a1] = q28 ∧ [q127.i0, q127.i1] = q29 ∧ Z0 q130 (Z0 (decide (q30 ≤ q129)) (Z0 q130 (Z8 3 q31 q30 q32 (Z5 q127.L) ∧ Z0 q97 (Z8 3 q31 q30 q32 (Z5 q69.L) ∧ Z0 (decide (q95 = q1)) (Z8 3 q31 q1 q15 (Z5 X.L) ∧ True) False) False) False) False) False) False) False) False) False) False) False) False) False) False) False) False) False) False) False) False) False) False)
 False)
 False)
 False)
 False)
 False)
 False)
 False)
 False)
 False)
 False)
 False)
 False)
 False)
 False)
 False)
 False)
 False)
 False) (by kernel_rfl) ?_
 conv => zeta
 try simp only [Zi]
 try simp only [Zj]
 try simp only [Zk]
 try simp only [Zl]
 try simp only [Zm]
 try simp only [Zh]
 try simp only [Int.toNat_natCast, Nat.zero_add, true_and, and_true, Nat.le_refl]
 have hlen := hI.am.n
 have hsb : a.secret.length ≤ B := by rw [ha.secret]; exact hB
 subst hY
 have hlx : (endX Zq X (Y1 X a).1 (Y1 X a).2 1 a.secret).L.length = X.L.length := by unfold endX; split <;> simp
 rw [hlx]
 repeat' first
  | exact hI
  | exact he
  | exact ha.secret
  | exact ha.sb
  | exact XR
  | exact hsb
  | exact hlen
  | exact beq_self_eq_true _
  | (intro _ _; trivial)
  | refine Exists.intro X (And.intro ⟨rfl, rfl, rfl⟩ ?_)
  | refine Exists.intro X (And.intro (.a rfl) ?_)
  | apply And.intro
  | rfl
  | omega
  | exact Zn fun _ _ => rfl
theorem Zh2 (X : Za) (a : Y2) (H1 : List Int → List Int) (B : Nat) (hI : X.Inv Zq) (ha : a.Ok) (hB : 32 ≤ B) (he : YU Zq X (Y1 X a).1 (Y1 X a).2 1 a.secret ≠ 0) :
  evF (Z2R H1 B false) 20 11 [.ptr (some ⟨0, 0, 0, 0, 0⟩), .agg (X.c (slH 2 X.L.length)), .agg (.int .i64 1 :: a.c.tail)] (Z0d X) (YQ 3 (.ret (.tuple [.agg (X.c (slH 2 X.L.length)), .bool true])) 3 (Z2H X)) := by
 refine @Eq.mpr _ (let q1 := List.length X.L;
 let q2 := X.t;
 let q3 := q2.fund;
 let q4 := AV.arr u8 32 q3;
 let q5 := q2.index;
 let q6 := AV.int i64 q5;
 let q7 := q2.cap;
 let q8 := AV.int i64 q7;
 let q9 := q2.dust;
 let q10 := AV.int i64 q9;
 let q11 := q2.fee;
 let q12 := AV.int i64 q11;
 let q13 := q2.delay;
 let q14 := AV.int i64 q13;
 let q15 := q2.k0;
 let q16 := AV.arr u8 32 q15;
 let q17 := q2.k1;
 let q18 := AV.arr u8 32 q17;
 let q19 := X.side;
 let q20 := AV.int i64 q19;
 let q21 := X.res;
 let q22 := AV.int i64 q21;
 let q23 := [X.a0, X.a1];
 let q24 := AV.arr i64 2 q23;
 let q25 := [X.i0, X.i1];
 let q26 := AV.arr i64 2 q25;
 let q27 := Z5 X.L;
 let q28 := a.secret;
 let q29 := List.length q28 = 32;
 let q30 := Y2.mk 1 a.own a.off a.amount a.expiry q28 a.at' a.move a.ours a.number;
 Z0 (decide (0 + q1 ≤ q1))
 ((∀ (i : Nat), i < q1 → true = true) ∧
 ∃ (X : Za),
 let q61 := (Y1 X q30).fst;
 let q62 := (Y1 X q30).snd;
 LV [q4, q6, q8, q10, q12, q14, q16, q18, q20, q22, q24, q26, AV.vrows 70 q1 (ZT 0 q27) q1] X ∧
 List.length X.L < 1000 ∧
 (∀ (i : Nat), i < q1 → true = true) ∧
 ∃ (X : Za),
 let q65 := YU Zq X q61 q62 1 q28;
 let q66 := X.t;
 let q67 := q66.fund;
 let q68 := q67 = q67;
 let q69 := q66.index;
 let q70 := decide (q69 = q69);
 let q71 := q66.cap;
 let q72 := decide (q71 = q71);
 let q73 := q66.dust;
 let q74 := decide (q73 = q73);
 let q75 := q66.fee;
 let q76 := decide (q75 = q75);
 let q77 := q66.delay;
 let q78 := decide (q77 = q77);
 let q79 := q66.k0;
 let q80 := q79 = q79;
 let q81 := q66.k1;
 let q82 := q81 = q81;
 let q83 := X.side;
 let q84 := decide (q83 = q83);
 let q85 := X.res;
 let q86 := decide (q85 = q85);
 let q87 := [X.a0, X.a1];
 let q88 := q87 = q87;
 let q89 := [X.i0, X.i1];
 let q90 := q89 = q89;
 let q91 := List.length X.L;
 let q92 := decide (q91 = q91);
 let q93 := decide (q91 = q1);
 LD [q4, q6, q8, q10, q12, q14, q16, q18, q20, q22, q24, q26, AV.nslice (ZC.mk 0 0 70 0 0) 70 q1 q1] q1 q27 X ∧
 Za.Inv Zq X ∧
 (q29 ∧ Bytes q28) ∧
 q65 ≠ 0 ∧
 (∀ (i : Nat), i < q1 → true = true) ∧
 ∃ (X_1 : Za),
 let q123 := YU Zq X_1 q61 q62 1 q28;
 let q124 := X_1.t;
 let q125 := List.length X_1.L;
 let q126 := decide (q125 = q1);
 LB [q4, q6, q8, q10, q12, q14, q16, q18, q20, q22, q24, q26, AV.nslice (ZC.mk 1 0 70 0 0) 70 q1 q1] q1 q27 X_1 ∧
 Za.Inv Zq X_1 ∧
 q29 ∧
 q123 ≠ 0 ∧
 q68 ∧
 Z0 q70
 (Z0 q72
 (Z0 q74
 (Z0 q76
 (Z0 q78
 (q80 ∧
 q82 ∧
 Z0 q84
 (Z0 q86
 (q88 ∧
 q90 ∧
 Z0 q92
 (Z0 q92
 (q68 ∧
 Z0 q70
 (Z0 q72
 (Z0 q74
 (Z0 q76
 (Z0 q78
 (q80 ∧
 q82 ∧
 Z0 q84 (Z0 q86 (q88 ∧ q90 ∧ Z0 q92 (Z0 q92 (q67 = q3 ∧ Z0 (decide (q69 = q5)) (Z0 (decide (q71 = q7)) (Z0 (decide (q73 = q9)) (Z0 (decide (q75 = q11)) (Z0 (decide (q77 = q13)) (q79 = q15 ∧ q81 = q17 ∧ Z0 (decide (q83 = q19)) (Z0 (decide (q85 = q21)) (q87 = q23 ∧ q89 = q25 ∧ Z0 q93 (Z0 (decide (q1 ≤ q91)) (Z0 (decide ((q123 == q65) = true)) (q124.fund = q3 ∧ Z0 (decide (q124.index = q5)) (Z0 (decide (q124.cap = q7)) (Z0 (decide (q124.dust = q9)) (Z0 (decide (q124.fee = q11)) (Z0 (decide (q124.delay = q13)) (q124.k0 = q15 ∧ q124.k1 = q17 ∧ Z0 (decide (X_1.side = q19)) (Z0 (decide (X_1.res = q21)) ([X_1.a0, X_1.a1] = q23 ∧ [X_1.i0, X_1.i1] = q25 ∧ Z0 q126 (Z0 (decide (q1 ≤ q125)) (Z0 q126 (Z8 3 [] q1 q27 (Z5 X_1.L) ∧ Z0 q93 (Z8 3 [] q1 q27 (Z5 X.L) ∧ True) False) False) False) False) False) False) False) False) False) False) False) False) False) False) False) False) False) False) False) False) False) False) False) False)
 False)
 False)
 False)
 False)
 False)
 False)
 False)
 False)
 False)
 False)
 False)
 False)
 False)
 False)
 False)
 False) (by kernel_rfl) ?_
 conv => zeta
 try simp only [Zi]
 try simp only [Zj]
 try simp only [Zk]
 try simp only [Zl]
 try simp only [Zm]
 try simp only [Zh]
 try simp only [Int.toNat_natCast, Nat.zero_add, true_and, and_true, Nat.le_refl]
 have hlen := hI.am.n
 have hsb : a.secret.length ≤ B := by rw [ha.secret]; exact hB
 repeat' first
  | exact hI
  | exact he
  | exact ha.secret
  | exact ha.sb
  | exact XR
  | exact hsb
  | exact hlen
  | exact beq_self_eq_true _
  | (intro _ _; trivial)
  | refine Exists.intro X (And.intro ⟨rfl, rfl, rfl⟩ ?_)
  | refine Exists.intro X (And.intro (.a rfl) ?_)
  | apply And.intro
  | rfl
  | omega
  | exact Zn fun _ _ => rfl
theorem Zh3 (X Y : Za) (a : Y2) (H1 : List Int → List Int) (B : Nat) (hI : X.Inv Zq) (ha : a.Ok) (hB : 32 ≤ B) (he : YU Zq X (Y1 X a).1 (Y1 X a).2 2 Zd = 0) (hY : Y = endX Zq X (Y1 X a).1 (Y1 X a).2 2 Zd) :
  evF (Z2R H1 B true) 20 11 [.ptr (some ⟨0, 0, 0, 0, 0⟩), .agg (X.c (slH 2 X.L.length)), .agg (.int .i64 2 :: a.c.tail)] (Z0d X) (YQ 3 (.ret (.tuple [.agg (Y.c (slH 4 Y.L.length)), .bool true])) 5 (Z9m X Y)) := by
 refine @Eq.mpr _ (let q1 := List.length X.L;
 let q2 := X.t;
 let q3 := AV.arr u8 32 q2.fund;
 let q4 := AV.int i64 q2.index;
 let q5 := AV.int i64 q2.cap;
 let q6 := AV.int i64 q2.dust;
 let q7 := AV.int i64 q2.fee;
 let q8 := AV.int i64 q2.delay;
 let q9 := AV.arr u8 32 q2.k0;
 let q10 := AV.arr u8 32 q2.k1;
 let q11 := AV.int i64 X.side;
 let q12 := AV.int i64 X.res;
 let q13 := AV.arr i64 2 [X.a0, X.a1];
 let q14 := AV.arr i64 2 [X.i0, X.i1];
 let q15 := Z5 X.L;
 let q16 := Y2.mk 2 a.own a.off a.amount a.expiry a.secret a.at' a.move a.ours a.number;
 let q17 := Y.t;
 let q18 := q17.fund;
 let q19 := q17.index;
 let q20 := q17.cap;
 let q21 := q17.dust;
 let q22 := q17.fee;
 let q23 := q17.delay;
 let q24 := q17.k0;
 let q25 := q17.k1;
 let q26 := [Y.a0, Y.a1];
 let q27 := [Y.i0, Y.i1];
 let q28 := List.length Y.L;
 let q29 := [(3, 11), (4, 9)];
 let q30 := Z5 Y.L;
 Z0 (decide (0 + q1 ≤ q1))
 ((∀ (i : Nat), i < q1 → true = true) ∧
 ∃ (X : Za),
 let q61 := (Y1 X q16).fst;
 let q62 := (Y1 X q16).snd;
 LV [q3, q4, q5, q6, q7, q8, q9, q10, q11, q12, q13, q14, AV.vrows 70 q1 (ZT 0 q15) q1] X ∧
 List.length X.L < 1000 ∧
 (∀ (i : Nat), i < q1 → true = true) ∧
 ∃ (X : Za),
 let q65 := endX Zq X q61 q62 2 Zd;
 let q66 := q65.t;
 let q67 := q66.fund;
 let q68 := q67 = q67;
 let q69 := q66.index;
 let q70 := decide (q69 = q69);
 let q71 := q66.cap;
 let q72 := decide (q71 = q71);
 let q73 := q66.dust;
 let q74 := decide (q73 = q73);
 let q75 := q66.fee;
 let q76 := decide (q75 = q75);
 let q77 := q66.delay;
 let q78 := decide (q77 = q77);
 let q79 := q66.k0;
 let q80 := q79 = q79;
 let q81 := q66.k1;
 let q82 := q81 = q81;
 let q83 := q65.side;
 let q84 := decide (q83 = q83);
 let q85 := q65.res;
 let q86 := decide (q85 = q85);
 let q87 := [q65.a0, q65.a1];
 let q88 := q87 = q87;
 let q89 := [q65.i0, q65.i1];
 let q90 := q89 = q89;
 let q91 := List.length X.L;
 let q92 := decide (q91 = q91);
 let q93 := decide (q91 = q28);
 LD [q3, q4, q5, q6, q7, q8, q9, q10, q11, q12, q13, q14, AV.nslice (ZC.mk 0 0 70 0 0) 70 q1 q1] q1 q15 X ∧
 Za.Inv Zq X ∧
 ((32 : Nat) = 32 ∧ Bytes Zd) ∧
 YU Zq X q61 q62 2 Zd = 0 ∧
 (∀ (i : Nat), i < q1 → true = true) ∧
 ∃ (X_1 : Za),
 let q123 := endX Zq X_1 q61 q62 2 Zd;
 let q124 := q123.t;
 let q125 := List.length X_1.L;
 let q126 := decide (q125 = q28);
 LB [q3, q4, q5, q6, q7, q8, q9, q10, q11, q12, q13, q14, AV.nslice (ZC.mk 1 0 70 0 0) 70 q1 q1] q1 q15 X_1 ∧
 Za.Inv Zq X_1 ∧
 (32 : Nat) = 32 ∧
 YU Zq X_1 q61 q62 2 Zd = 0 ∧
 q68 ∧
 Z0 q70
 (Z0 q72
 (Z0 q74
 (Z0 q76
 (Z0 q78
 (q80 ∧
 q82 ∧
 Z0 q84
 (Z0 q86
 (q88 ∧
 q90 ∧
 Z0 q92
 (Z0 q92
 (q68 ∧
 Z0 q70
 (Z0 q72
 (Z0 q74
 (Z0 q76
 (Z0 q78
 (q80 ∧
 q82 ∧
 Z0 q84
 (Z0 q86
 (q88 ∧
 q90 ∧
 Z0 q92
 (Z0 q92 (q67 = q18 ∧ Z0 (decide (q69 = q19)) (Z0 (decide (q71 = q20)) (Z0 (decide (q73 = q21)) (Z0 (decide (q75 = q22)) (Z0 (decide (q77 = q23)) (q79 = q24 ∧ q81 = q25 ∧ Z0 (decide (q83 = Y.side)) (Z0 (decide (q85 = Y.res)) (q87 = q26 ∧ q89 = q27 ∧ Z0 q93 (Z0 (decide (q28 ≤ q91)) (q124.fund = q18 ∧ Z0 (decide (q124.index = q19)) (Z0 (decide (q124.cap = q20)) (Z0 (decide (q124.dust = q21)) (Z0 (decide (q124.fee = q22)) (Z0 (decide (q124.delay = q23)) (q124.k0 = q24 ∧ q124.k1 = q25 ∧ Z0 (decide (q123.side = Y.side)) (Z0 (decide (q123.res = Y.res)) ([q123.a0, q123.a1] = q26 ∧ [q123.i0, q123.i1] = q27 ∧ Z0 q126 (Z0 (decide (q28 ≤ q125)) (Z0 q126 (Z8 3 q29 q28 q30 (Z5 q123.L) ∧ Z0 q93 (Z8 3 q29 q28 q30 (Z5 q65.L) ∧ Z0 (decide (q91 = q1)) (Z8 3 q29 q1 q15 (Z5 X.L) ∧ True) False) False) False) False) False) False) False) False) False) False) False) False) False) False) False) False) False) False) False) False) False) False)
 False)
 False)
 False)
 False)
 False)
 False)
 False)
 False)
 False)
 False)
 False)
 False)
 False)
 False)
 False)
 False)
 False)
 False) (by kernel_rfl) ?_
 conv => zeta
 try simp only [Zi]
 try simp only [Zj]
 try simp only [Zk]
 try simp only [Zl]
 try simp only [Zm]
 try simp only [Zh]
 try simp only [Int.toNat_natCast, Nat.zero_add, true_and, and_true, Nat.le_refl]
 have hlen := hI.am.n
 have hsb : a.secret.length ≤ B := by rw [ha.secret]; exact hB
 subst hY
 have hlx : (endX Zq X (Y1 X a).1 (Y1 X a).2 2 Zd).L.length = X.L.length := by unfold endX; split <;> simp
 rw [hlx]
 repeat' first
  | exact hI
  | exact he
  | exact ha.secret
  | exact ha.sb
  | exact XR
  | exact hsb
  | exact hlen
  | exact beq_self_eq_true _
  | (intro _ _; trivial)
  | refine Exists.intro X (And.intro ⟨rfl, rfl, rfl⟩ ?_)
  | refine Exists.intro X (And.intro (.a rfl) ?_)
  | apply And.intro
  | rfl
  | omega
  | exact Zn fun _ _ => rfl
theorem Zh4 (X : Za) (a : Y2) (H1 : List Int → List Int) (B : Nat) (hI : X.Inv Zq) (ha : a.Ok) (hB : 32 ≤ B) (he : YU Zq X (Y1 X a).1 (Y1 X a).2 2 Zd ≠ 0) :
  evF (Z2R H1 B false) 20 11 [.ptr (some ⟨0, 0, 0, 0, 0⟩), .agg (X.c (slH 2 X.L.length)), .agg (.int .i64 2 :: a.c.tail)] (Z0d X) (YQ 3 (.ret (.tuple [.agg (X.c (slH 2 X.L.length)), .bool true])) 3 (Z2H X)) := by
 refine @Eq.mpr _ (let q1 := List.length X.L;
 let q2 := X.t;
 let q3 := q2.fund;
 let q4 := AV.arr u8 32 q3;
 let q5 := q2.index;
 let q6 := AV.int i64 q5;
 let q7 := q2.cap;
 let q8 := AV.int i64 q7;
 let q9 := q2.dust;
 let q10 := AV.int i64 q9;
 let q11 := q2.fee;
 let q12 := AV.int i64 q11;
 let q13 := q2.delay;
 let q14 := AV.int i64 q13;
 let q15 := q2.k0;
 let q16 := AV.arr u8 32 q15;
 let q17 := q2.k1;
 let q18 := AV.arr u8 32 q17;
 let q19 := X.side;
 let q20 := AV.int i64 q19;
 let q21 := X.res;
 let q22 := AV.int i64 q21;
 let q23 := [X.a0, X.a1];
 let q24 := AV.arr i64 2 q23;
 let q25 := [X.i0, X.i1];
 let q26 := AV.arr i64 2 q25;
 let q27 := Z5 X.L;
 let q28 := Y2.mk 2 a.own a.off a.amount a.expiry a.secret a.at' a.move a.ours a.number;
 Z0 (decide (0 + q1 ≤ q1))
 ((∀ (i : Nat), i < q1 → true = true) ∧
 ∃ (X : Za),
 let q57 := (Y1 X q28).fst;
 let q58 := (Y1 X q28).snd;
 LV [q4, q6, q8, q10, q12, q14, q16, q18, q20, q22, q24, q26, AV.vrows 70 q1 (ZT 0 q27) q1] X ∧
 List.length X.L < 1000 ∧
 (∀ (i : Nat), i < q1 → true = true) ∧
 ∃ (X : Za),
 let q61 := YU Zq X q57 q58 2 Zd;
 let q62 := X.t;
 let q63 := q62.fund;
 let q64 := q63 = q63;
 let q65 := q62.index;
 let q66 := decide (q65 = q65);
 let q67 := q62.cap;
 let q68 := decide (q67 = q67);
 let q69 := q62.dust;
 let q70 := decide (q69 = q69);
 let q71 := q62.fee;
 let q72 := decide (q71 = q71);
 let q73 := q62.delay;
 let q74 := decide (q73 = q73);
 let q75 := q62.k0;
 let q76 := q75 = q75;
 let q77 := q62.k1;
 let q78 := q77 = q77;
 let q79 := X.side;
 let q80 := decide (q79 = q79);
 let q81 := X.res;
 let q82 := decide (q81 = q81);
 let q83 := [X.a0, X.a1];
 let q84 := q83 = q83;
 let q85 := [X.i0, X.i1];
 let q86 := q85 = q85;
 let q87 := List.length X.L;
 let q88 := decide (q87 = q87);
 let q89 := decide (q87 = q1);
 LD [q4, q6, q8, q10, q12, q14, q16, q18, q20, q22, q24, q26, AV.nslice (ZC.mk 0 0 70 0 0) 70 q1 q1] q1 q27 X ∧
 Za.Inv Zq X ∧
 ((32 : Nat) = 32 ∧ Bytes Zd) ∧
 q61 ≠ 0 ∧
 (∀ (i : Nat), i < q1 → true = true) ∧
 ∃ (X_1 : Za),
 let q119 := YU Zq X_1 q57 q58 2 Zd;
 let q120 := X_1.t;
 let q121 := List.length X_1.L;
 let q122 := decide (q121 = q1);
 LB [q4, q6, q8, q10, q12, q14, q16, q18, q20, q22, q24, q26, AV.nslice (ZC.mk 1 0 70 0 0) 70 q1 q1] q1 q27 X_1 ∧
 Za.Inv Zq X_1 ∧
 (32 : Nat) = 32 ∧
 q119 ≠ 0 ∧
 q64 ∧
 Z0 q66
 (Z0 q68
 (Z0 q70
 (Z0 q72
 (Z0 q74
 (q76 ∧
 q78 ∧
 Z0 q80
 (Z0 q82
 (q84 ∧
 q86 ∧
 Z0 q88
 (Z0 q88
 (q64 ∧
 Z0 q66
 (Z0 q68
 (Z0 q70
 (Z0 q72
 (Z0 q74
 (q76 ∧
 q78 ∧
 Z0 q80 (Z0 q82 (q84 ∧ q86 ∧ Z0 q88 (Z0 q88 (q63 = q3 ∧ Z0 (decide (q65 = q5)) (Z0 (decide (q67 = q7)) (Z0 (decide (q69 = q9)) (Z0 (decide (q71 = q11)) (Z0 (decide (q73 = q13)) (q75 = q15 ∧ q77 = q17 ∧ Z0 (decide (q79 = q19)) (Z0 (decide (q81 = q21)) (q83 = q23 ∧ q85 = q25 ∧ Z0 q89 (Z0 (decide (q1 ≤ q87)) (Z0 (decide ((q119 == q61) = true)) (q120.fund = q3 ∧ Z0 (decide (q120.index = q5)) (Z0 (decide (q120.cap = q7)) (Z0 (decide (q120.dust = q9)) (Z0 (decide (q120.fee = q11)) (Z0 (decide (q120.delay = q13)) (q120.k0 = q15 ∧ q120.k1 = q17 ∧ Z0 (decide (X_1.side = q19)) (Z0 (decide (X_1.res = q21)) ([X_1.a0, X_1.a1] = q23 ∧ [X_1.i0, X_1.i1] = q25 ∧ Z0 q122 (Z0 (decide (q1 ≤ q121)) (Z0 q122 (Z8 3 [] q1 q27 (Z5 X_1.L) ∧ Z0 q89 (Z8 3 [] q1 q27 (Z5 X.L) ∧ True) False) False) False) False) False) False) False) False) False) False) False) False) False) False) False) False) False) False) False) False) False) False) False) False)
 False)
 False)
 False)
 False)
 False)
 False)
 False)
 False)
 False)
 False)
 False)
 False)
 False)
 False)
 False)
 False) (by kernel_rfl) ?_
 conv => zeta
 try simp only [Zi]
 try simp only [Zj]
 try simp only [Zk]
 try simp only [Zl]
 try simp only [Zm]
 try simp only [Zh]
 try simp only [Int.toNat_natCast, Nat.zero_add, true_and, and_true, Nat.le_refl]
 have hlen := hI.am.n
 have hsb : a.secret.length ≤ B := by rw [ha.secret]; exact hB
 repeat' first
  | exact hI
  | exact he
  | exact ha.secret
  | exact ha.sb
  | exact XR
  | exact hsb
  | exact hlen
  | exact beq_self_eq_true _
  | (intro _ _; trivial)
  | refine Exists.intro X (And.intro ⟨rfl, rfl, rfl⟩ ?_)
  | refine Exists.intro X (And.intro (.a rfl) ?_)
  | apply And.intro
  | rfl
  | omega
  | exact Zn fun _ _ => rfl
theorem Zh5 (X Y : Za) (a : Y2) (H1 : List Int → List Int) (B : Nat) (hI : X.Inv Zq) (ha : a.Ok) (hB : 32 ≤ B) (he : 1 ≤ a.move ∧ a.move ≤ 4) (hY : Y = stpX X a.move) :
  evF (Z2R H1 B true) 20 11 [.ptr (some ⟨0, 0, 0, 0, 0⟩), .agg (X.c (slH 2 X.L.length)), .agg (.int .i64 3 :: a.c.tail)] (Z0d X) (YQ 3 (.ret (.tuple [.agg (Y.c (slH 4 Y.L.length)), .bool true])) 5 (Z9m X Y)) := by
 refine @Eq.mpr _ (let q1 := List.length X.L;
 let q2 := X.t;
 let q3 := AV.arr u8 32 q2.fund;
 let q4 := AV.int i64 q2.index;
 let q5 := AV.int i64 q2.cap;
 let q6 := AV.int i64 q2.dust;
 let q7 := AV.int i64 q2.fee;
 let q8 := AV.int i64 q2.delay;
 let q9 := AV.arr u8 32 q2.k0;
 let q10 := AV.arr u8 32 q2.k1;
 let q11 := AV.int i64 X.side;
 let q12 := AV.int i64 X.res;
 let q13 := AV.arr i64 2 [X.a0, X.a1];
 let q14 := AV.arr i64 2 [X.i0, X.i1];
 let q15 := Z5 X.L;
 let q16 := a.move;
 let q17 := 1 ≤ q16 ∧ q16 ≤ 4;
 let q18 := Y.t;
 let q19 := q18.fund;
 let q20 := q18.index;
 let q21 := q18.cap;
 let q22 := q18.dust;
 let q23 := q18.fee;
 let q24 := q18.delay;
 let q25 := q18.k0;
 let q26 := q18.k1;
 let q27 := [Y.a0, Y.a1];
 let q28 := [Y.i0, Y.i1];
 let q29 := List.length Y.L;
 let q30 := [(3, 10), (4, 6)];
 let q31 := Z5 Y.L;
 (∀ (i : Nat), i < q1 → true = true) ∧
 ∃ (X_1 : Za),
 let q63 := X_1.L;
 let q64 := Yd q16 q63;
 let q65 := List.length q64;
 let q66 := ZP q16 q63;
 let q67 := List.length q66;
 let q68 := stpX X_1 q16;
 let q69 := q68.t;
 let q70 := q69.fund;
 let q71 := q69.index;
 let q72 := q69.cap;
 let q73 := q69.dust;
 let q74 := q69.fee;
 let q75 := q69.delay;
 let q76 := q69.k0;
 let q77 := q69.k1;
 let q78 := q68.side;
 let q79 := q68.res;
 let q80 := [q68.a0, q68.a1];
 let q81 := [q68.i0, q68.i1];
 let q82 := q68.L;
 let q83 := List.length q82;
 let q84 := decide (q83 = q83);
 let q85 := decide (q83 = q29);
 LD [q3, q4, q5, q6, q7, q8, q9, q10, q11, q12, q13, q14, AV.nslice (ZC.mk 0 0 70 0 0) 70 q1 q1] q1 q15 X_1 ∧
 Za.Inv Zq X_1 ∧
 q17 ∧
 (∀ (i : Nat), i < q1 → true = true) ∧
 ∃ (X_2 : Za),
 let q109 := Yd q16 X_2.L;
 let q110 := List.length q109;
 let q111 := q65 = q110;
 let q112 := ZP q16 X_2.L;
 let q113 := List.length q112;
 let q114 := q67 = q113;
 let q115 := stpX X_2 q16;
 let q116 := q115.t;
 let q117 := q115.L;
 let q118 := List.length q117;
 let q119 := decide (q118 = q29);
 LB [q3, q4, q5, q6, q7, q8, q9, q10, q11, q12, q13, q14, AV.nslice (ZC.mk 1 0 70 0 0) 70 q1 q1] q1 q15 X_2 ∧
 Za.Inv Zq X_2 ∧
 q17 ∧
 Z0 (decide (0 + q110 ≤ q110))
 ((∀ (i : Nat), i < q110 → true = true) ∧
 Z0 (decide (0 + q65 ≤ q65))
 ((∀ (i : Nat), i < q65 → true = true) ∧
 ∃ (A : List Z6),
 (q110 = List.length A ∧ q110 = q110 ∧ q111 ∧ q111) ∧
 (ZT 0 (Z5 q109) = Z5 A ∧ ZT 0 (Z5 q64) = Z5 A) ∧
 q110 < 1000 ∧
 (∀ (h : Z6), List.Mem h A → Z6.Ok h) ∧
 Z0 (decide (0 + q113 ≤ q113))
 ((∀ (i : Nat), i < q113 → true = true) ∧
 Z0 (decide (0 + q67 ≤ q67))
 ((∀ (i : Nat), i < q67 → true = true) ∧
 ∃ (A : List Z6),
 (q113 = List.length A ∧ q113 = q113 ∧ q114 ∧ q114) ∧
 (ZT 0 (Z5 q112) = Z5 A ∧ ZT 0 (Z5 q66) = Z5 A) ∧
 q113 < 1000 ∧
 (∀ (h : Z6), List.Mem h A → Z6.Ok h) ∧
 q70 = q70 ∧
 Z0 (decide (q71 = q71))
 (Z0 (decide (q72 = q72))
 (Z0 (decide (q73 = q73))
 (Z0 (decide (q74 = q74))
 (Z0 (decide (q75 = q75))
 (q76 = q76 ∧
 q77 = q77 ∧
 Z0 (decide (q78 = q78))
 (Z0 (decide (q79 = q79))
 (q80 = q80 ∧
 q81 = q81 ∧
 Z0 q84
 (Z0 q84 (q70 = q19 ∧ Z0 (decide (q71 = q20)) (Z0 (decide (q72 = q21)) (Z0 (decide (q73 = q22)) (Z0 (decide (q74 = q23)) (Z0 (decide (q75 = q24)) (q76 = q25 ∧ q77 = q26 ∧ Z0 (decide (q78 = Y.side)) (Z0 (decide (q79 = Y.res)) (q80 = q27 ∧ q81 = q28 ∧ Z0 q85 (Z0 (decide (q29 ≤ q83)) (q116.fund = q19 ∧ Z0 (decide (q116.index = q20)) (Z0 (decide (q116.cap = q21)) (Z0 (decide (q116.dust = q22)) (Z0 (decide (q116.fee = q23)) (Z0 (decide (q116.delay = q24)) (q116.k0 = q25 ∧ q116.k1 = q26 ∧ Z0 (decide (q115.side = Y.side)) (Z0 (decide (q115.res = Y.res)) ([q115.a0, q115.a1] = q27 ∧ [q115.i0, q115.i1] = q28 ∧ Z0 q119 (Z0 (decide (q29 ≤ q118)) (Z0 q119 (Z8 3 q30 q29 q31 (Z5 q117) ∧ Z0 q85 (Z8 3 q30 q29 q31 (Z5 q82) ∧ Z0 (decide (List.length q63 = q1)) (Z8 3 q30 q1 q15 (Z5 q63) ∧ True) False) False) False) False) False) False) False) False) False) False) False) False) False) False) False) False) False) False) False) False) False)
 False)
 False)
 False)
 False)
 False)
 False)
 False)
 False)
 False)
 False)
 False)
 False)
 False) (by kernel_rfl) ?_
 conv => zeta
 try simp only [Zi]
 try simp only [Zj]
 try simp only [Zk]
 try simp only [Zl]
 try simp only [Zm]
 try simp only [Zh]
 try simp only [Int.toNat_natCast, Nat.zero_add, true_and, and_true, Nat.le_refl]
 have hlen := hI.am.n
 have hsb : a.secret.length ≤ B := by rw [ha.secret]; exact hB
 subst hY
 have okH : ∀ h ∈ Yd a.move X.L, h.Ok := fun h hh => Zdz hI hh
 have okG : ∀ h ∈ ZP a.move X.L, h.Ok := fun h hh => ZdA hI hh
 have l1 : (Yd a.move X.L).length < 1000 := by have := Z2B a.move X.L; omega
 have l2 : (ZP a.move X.L).length < 1000 := by have := Z2A a.move X.L; omega
 repeat' first
  | exact hI
  | exact he
  | exact ha.secret
  | exact ha.sb
  | exact XR
  | exact hsb
  | exact hlen
  | exact beq_self_eq_true _
  | (intro _ _; trivial)
  | refine Exists.intro X (And.intro ⟨rfl, rfl, rfl⟩ ?_)
  | refine Exists.intro X (And.intro (.a rfl) ?_)
  | exact okH
  | exact okG
  | exact l1
  | exact l2
  | refine Exists.intro (Yd a.move X.L) (And.intro ⟨rfl, rfl, rfl⟩ ?_)
  | refine Exists.intro (ZP a.move X.L) (And.intro ⟨rfl, rfl, rfl⟩ ?_)
  | apply And.intro
  | rfl
  | omega
  | exact Zn fun _ _ => rfl
theorem Zh6 (X : Za) (a : Y2) (H1 : List Int → List Int) (B : Nat) (hI : X.Inv Zq) (ha : a.Ok) (hB : 32 ≤ B) (he : ¬ (1 ≤ a.move ∧ a.move ≤ 4)) :
  evF (Z2R H1 B false) 20 11 [.ptr (some ⟨0, 0, 0, 0, 0⟩), .agg (X.c (slH 2 X.L.length)), .agg (.int .i64 3 :: a.c.tail)] (Z0d X) (YQ 3 (.ret (.tuple [.agg (X.c (slH 2 X.L.length)), .bool true])) 3 (Z2H X)) := by
 refine @Eq.mpr _ (let q1 := List.length X.L;
 let q2 := X.t;
 let q3 := q2.fund;
 let q4 := AV.arr u8 32 q3;
 let q5 := q2.index;
 let q6 := AV.int i64 q5;
 let q7 := q2.cap;
 let q8 := AV.int i64 q7;
 let q9 := q2.dust;
 let q10 := AV.int i64 q9;
 let q11 := q2.fee;
 let q12 := AV.int i64 q11;
 let q13 := q2.delay;
 let q14 := AV.int i64 q13;
 let q15 := q2.k0;
 let q16 := AV.arr u8 32 q15;
 let q17 := q2.k1;
 let q18 := AV.arr u8 32 q17;
 let q19 := X.side;
 let q20 := AV.int i64 q19;
 let q21 := X.res;
 let q22 := AV.int i64 q21;
 let q23 := [X.a0, X.a1];
 let q24 := AV.arr i64 2 q23;
 let q25 := [X.i0, X.i1];
 let q26 := AV.arr i64 2 q25;
 let q27 := Z5 X.L;
 let q28 := ¬(1 ≤ a.move ∧ a.move ≤ 4);
 (∀ (i : Nat), i < q1 → true = true) ∧
 ∃ (X : Za),
 let q57 := X.t;
 let q58 := q57.fund;
 let q59 := q57.index;
 let q60 := q57.cap;
 let q61 := q57.dust;
 let q62 := q57.fee;
 let q63 := q57.delay;
 let q64 := q57.k0;
 let q65 := q57.k1;
 let q66 := X.side;
 let q67 := X.res;
 let q68 := [X.a0, X.a1];
 let q69 := [X.i0, X.i1];
 let q70 := List.length X.L;
 let q71 := decide (q70 = q70);
 let q72 := decide (q70 = q1);
 LD [q4, q6, q8, q10, q12, q14, q16, q18, q20, q22, q24, q26, AV.nslice (ZC.mk 0 0 70 0 0) 70 q1 q1] q1 q27 X ∧
 Za.Inv Zq X ∧
 q28 ∧
 (∀ (i : Nat), i < q1 → true = true) ∧
 ∃ (X_1 : Za),
 let q89 := X_1.t;
 let q90 := List.length X_1.L;
 let q91 := decide (q90 = q1);
 LB [q4, q6, q8, q10, q12, q14, q16, q18, q20, q22, q24, q26, AV.nslice (ZC.mk 1 0 70 0 0) 70 q1 q1] q1 q27 X_1 ∧
 Za.Inv Zq X_1 ∧
 q28 ∧
 q58 = q58 ∧
 Z0 (decide (q59 = q59))
 (Z0 (decide (q60 = q60))
 (Z0 (decide (q61 = q61))
 (Z0 (decide (q62 = q62))
 (Z0 (decide (q63 = q63))
 (q64 = q64 ∧
 q65 = q65 ∧
 Z0 (decide (q66 = q66)) (Z0 (decide (q67 = q67)) (q68 = q68 ∧ q69 = q69 ∧ Z0 q71 (Z0 q71 (q58 = q3 ∧ Z0 (decide (q59 = q5)) (Z0 (decide (q60 = q7)) (Z0 (decide (q61 = q9)) (Z0 (decide (q62 = q11)) (Z0 (decide (q63 = q13)) (q64 = q15 ∧ q65 = q17 ∧ Z0 (decide (q66 = q19)) (Z0 (decide (q67 = q21)) (q68 = q23 ∧ q69 = q25 ∧ Z0 q72 (Z0 (decide (q1 ≤ q70)) (q89.fund = q3 ∧ Z0 (decide (q89.index = q5)) (Z0 (decide (q89.cap = q7)) (Z0 (decide (q89.dust = q9)) (Z0 (decide (q89.fee = q11)) (Z0 (decide (q89.delay = q13)) (q89.k0 = q15 ∧ q89.k1 = q17 ∧ Z0 (decide (X_1.side = q19)) (Z0 (decide (X_1.res = q21)) ([X_1.a0, X_1.a1] = q23 ∧ [X_1.i0, X_1.i1] = q25 ∧ Z0 q91 (Z0 (decide (q1 ≤ q90)) (Z0 q91 (Z8 3 [] q1 q27 (Z5 X_1.L) ∧ Z0 q72 (Z8 3 [] q1 q27 (Z5 X.L) ∧ True) False) False) False) False) False) False) False) False) False) False) False) False) False) False) False) False) False) False) False) False) False) False) False) False)
 False)
 False)
 False)
 False)
 False) (by kernel_rfl) ?_
 conv => zeta
 try simp only [Zi]
 try simp only [Zj]
 try simp only [Zk]
 try simp only [Zl]
 try simp only [Zm]
 try simp only [Zh]
 try simp only [Int.toNat_natCast, Nat.zero_add, true_and, and_true, Nat.le_refl]
 have hlen := hI.am.n
 have hsb : a.secret.length ≤ B := by rw [ha.secret]; exact hB
 repeat' first
  | exact hI
  | exact he
  | exact ha.secret
  | exact ha.sb
  | exact XR
  | exact hsb
  | exact hlen
  | exact beq_self_eq_true _
  | (intro _ _; trivial)
  | refine Exists.intro X (And.intro ⟨rfl, rfl, rfl⟩ ?_)
  | refine Exists.intro X (And.intro (.a rfl) ?_)
  | apply And.intro
  | rfl
  | omega
  | exact Zn fun _ _ => rfl
theorem Zh7 (X Y : Za) (a : Y2) (H1 : List Int → List Int) (B : Nat) (hI : X.Inv Zq) (ha : a.Ok) (hB : 32 ≤ B) (he : True) (hY : Y = brkX X) :
  evF (Z2R H1 B true) 20 11 [.ptr (some ⟨0, 0, 0, 0, 0⟩), .agg (X.c (slH 2 X.L.length)), .agg (.int .i64 4 :: a.c.tail)] (Z0d X) (YQ 3 (.ret (.tuple [.agg (Y.c (slH 4 Y.L.length)), .bool true])) 5 (Z9m X Y)) := by
 refine @Eq.mpr _ (let q1 := List.length X.L;
 let q2 := X.t;
 let q3 := AV.arr u8 32 q2.fund;
 let q4 := AV.int i64 q2.index;
 let q5 := AV.int i64 q2.cap;
 let q6 := AV.int i64 q2.dust;
 let q7 := AV.int i64 q2.fee;
 let q8 := AV.int i64 q2.delay;
 let q9 := AV.arr u8 32 q2.k0;
 let q10 := AV.arr u8 32 q2.k1;
 let q11 := AV.int i64 X.side;
 let q12 := AV.int i64 X.res;
 let q13 := AV.arr i64 2 [X.a0, X.a1];
 let q14 := AV.arr i64 2 [X.i0, X.i1];
 let q15 := Z5 X.L;
 let q16 := Y.t;
 let q17 := q16.fund;
 let q18 := q16.index;
 let q19 := q16.cap;
 let q20 := q16.dust;
 let q21 := q16.fee;
 let q22 := q16.delay;
 let q23 := q16.k0;
 let q24 := q16.k1;
 let q25 := [Y.a0, Y.a1];
 let q26 := [Y.i0, Y.i1];
 let q27 := List.length Y.L;
 let q28 := [(3, 9), (4, 6)];
 let q29 := Z5 Y.L;
 (∀ (i : Nat), i < q1 → true = true) ∧
 ∃ (X_1 : Za),
 let q59 := brkX X_1;
 let q60 := q59.t;
 let q61 := q60.fund;
 let q62 := q60.index;
 let q63 := q60.cap;
 let q64 := q60.dust;
 let q65 := q60.fee;
 let q66 := q60.delay;
 let q67 := q60.k0;
 let q68 := q60.k1;
 let q69 := q59.side;
 let q70 := q59.res;
 let q71 := [q59.a0, q59.a1];
 let q72 := [q59.i0, q59.i1];
 let q73 := q59.L;
 let q74 := List.length q73;
 let q75 := decide (q74 = q74);
 let q76 := X_1.L;
 let q77 := ZB q76;
 let q78 := List.length q77;
 let q79 := decide (q74 = q27);
 LD [q3, q4, q5, q6, q7, q8, q9, q10, q11, q12, q13, q14, AV.nslice (ZC.mk 0 0 70 0 0) 70 q1 q1] q1 q15 X_1 ∧
 Za.Inv Zq X_1 ∧
 (∀ (i : Nat), i < q1 → true = true) ∧
 ∃ (X_2 : Za),
 let q101 := ZB X_2.L;
 let q102 := List.length q101;
 let q103 := q78 = q102;
 let q104 := brkX X_2;
 let q105 := q104.t;
 let q106 := q104.L;
 let q107 := List.length q106;
 let q108 := decide (q107 = q27);
 LB [q3, q4, q5, q6, q7, q8, q9, q10, q11, q12, q13, q14, AV.nslice (ZC.mk 1 0 70 0 0) 70 q1 q1] q1 q15 X_2 ∧
 Za.Inv Zq X_2 ∧
 q61 = q61 ∧
 Z0 (decide (q62 = q62))
 (Z0 (decide (q63 = q63))
 (Z0 (decide (q64 = q64))
 (Z0 (decide (q65 = q65))
 (Z0 (decide (q66 = q66))
 (q67 = q67 ∧
 q68 = q68 ∧
 Z0 (decide (q69 = q69))
 (Z0 (decide (q70 = q70))
 (q71 = q71 ∧
 q72 = q72 ∧
 Z0 q75
 (Z0 q75
 (Z0 (decide (0 + q102 ≤ q102))
 ((∀ (i : Nat), i < q102 → true = true) ∧
 Z0 (decide (0 + q78 ≤ q78))
 ((∀ (i : Nat), i < q78 → true = true) ∧
 ∃ (A : List Z6),
 (q102 = List.length A ∧ q102 = q102 ∧ q103 ∧ q103) ∧
 (ZT 0 (Z5 q101) = Z5 A ∧ ZT 0 (Z5 q77) = Z5 A) ∧
 q102 < 1000 ∧
 (∀ (h : Z6), List.Mem h A → Z6.Ok h) ∧
 q61 = q17 ∧ Z0 (decide (q62 = q18)) (Z0 (decide (q63 = q19)) (Z0 (decide (q64 = q20)) (Z0 (decide (q65 = q21)) (Z0 (decide (q66 = q22)) (q67 = q23 ∧ q68 = q24 ∧ Z0 (decide (q69 = Y.side)) (Z0 (decide (q70 = Y.res)) (q71 = q25 ∧ q72 = q26 ∧ Z0 q79 (Z0 (decide (q27 ≤ q74)) (q105.fund = q17 ∧ Z0 (decide (q105.index = q18)) (Z0 (decide (q105.cap = q19)) (Z0 (decide (q105.dust = q20)) (Z0 (decide (q105.fee = q21)) (Z0 (decide (q105.delay = q22)) (q105.k0 = q23 ∧ q105.k1 = q24 ∧ Z0 (decide (q104.side = Y.side)) (Z0 (decide (q104.res = Y.res)) ([q104.a0, q104.a1] = q25 ∧ [q104.i0, q104.i1] = q26 ∧ Z0 q108 (Z0 (decide (q27 ≤ q107)) (Z0 q108 (Z8 3 q28 q27 q29 (Z5 q106) ∧ Z0 q79 (Z8 3 q28 q27 q29 (Z5 q73) ∧ Z0 (decide (List.length q76 = q1)) (Z8 3 q28 q1 q15 (Z5 q76) ∧ True) False) False) False) False) False) False) False) False) False) False) False) False) False) False) False) False) False) False) False) False) False)
 False)
 False)
 False)
 False)
 False)
 False)
 False)
 False)
 False)
 False)
 False) (by kernel_rfl) ?_
 conv => zeta
 try simp only [Zi]
 try simp only [Zj]
 try simp only [Zk]
 try simp only [Zl]
 try simp only [Zm]
 try simp only [Zh]
 try simp only [Int.toNat_natCast, Nat.zero_add, true_and, and_true, Nat.le_refl]
 have hlen := hI.am.n
 have hsb : a.secret.length ≤ B := by rw [ha.secret]; exact hB
 subst hY
 have okG : ∀ h ∈ ZB X.L, h.Ok := fun h hh => hI.ok h (Vq hh).1
 have l2 : (ZB X.L).length < 1000 := by
  have : (ZB X.L).length ≤ X.L.length := List.length_filter_le _ _
  omega
 repeat' first
  | exact hI
  | exact he
  | exact ha.secret
  | exact ha.sb
  | exact XR
  | exact hsb
  | exact hlen
  | exact beq_self_eq_true _
  | (intro _ _; trivial)
  | refine Exists.intro X (And.intro ⟨rfl, rfl, rfl⟩ ?_)
  | refine Exists.intro X (And.intro (.a rfl) ?_)
  | exact okG
  | exact l2
  | refine Exists.intro (ZB X.L) (And.intro ⟨rfl, rfl, rfl⟩ ?_)
  | apply And.intro
  | rfl
  | omega
  | exact Zn fun _ _ => rfl
end Go.Tk
end
section
namespace Go.Tk
open IntKind (i64 u8 u32 u64 wrap)
theorem ZbK {X : Za} (hI : X.Inv Zq) {o : Bool} {q : YO} (hq : q ∈ YA X.side o X.L) : q.hash.length = 32 := by
 unfold YA at hq
 obtain ⟨z, hz, rfl⟩ := List.mem_map.1 hq
 exact (hI.ok z (List.mem_filter.1 hz).1).hash
def nF : YR := fun _ _ _ => False
theorem Z8m {f : FuncId} (args : List AV) (h : Z9) (K : KO) (hl : nF args h K) : Zo PP f args h K := hl.elim
noncomputable def ZbL (c : Bool) : Zg := (((((((G0.withF 33 nF).withF 34 nF).withF 37 nF).withF 39 nF).withF 16 (Z4z c)).withF 40 (Z2F c)).withP 41 Z2G)
theorem Z5R (c : Bool) : (ZbL c).Ok := Zg.withP_ok (Zg.withF_ok (Zg.withF_ok (Zg.withF_ok (Zg.withF_ok (Zg.withF_ok (Zg.withF_ok Zw Z8m) Z8m) Z8m) Z8m) (Z2E c)) (Z0y c)) Z0z
theorem Zh8 (X : Za) (a : Y2) (hI : X.Inv Zq) (ha : a.Ok) (hw : ¬ (0 ≤ a.what ∧ a.what ≤ 4)) (hk : 0 ≤ a.number ∧ a.number ≤ 2147483647) :
  evF (ZbL true) 20 11 [.ptr (some ⟨0, 0, 0, 0, 0⟩), .agg (X.c (slH 2 X.L.length)), .agg a.c] (Z0d X) (YQ 3 (.ret (.tuple [.agg (X.c (slH 2 X.L.length)), .bool true])) 3 (Z2H X)) := by
 refine @Eq.mpr _ (let q1 := a.what;
 let q2 := List.length X.L;
 let q3 := X.t;
 let q4 := q3.fund;
 let q5 := q3.index;
 let q6 := q3.cap;
 let q7 := q3.dust;
 let q8 := q3.fee;
 let q9 := q3.delay;
 let q10 := q3.k0;
 let q11 := q3.k1;
 let q12 := X.side;
 let q13 := X.res;
 let q14 := [X.a0, X.a1];
 let q15 := [X.i0, X.i1];
 let q16 := Z5 X.L;
 let q17 := a.number;
 let q18 := 0 ≤ q17 ∧ q17 ≤ 2147483647;
 let q19 := a.ours;
 let q20 := a.secret;
 let q21 := q4 = q4;
 let q22 := decide (q5 = q5);
 let q23 := decide (q6 = q6);
 let q24 := decide (q7 = q7);
 let q25 := decide (q8 = q8);
 let q26 := decide (q9 = q9);
 let q27 := q10 = q10;
 let q28 := q11 = q11;
 let q29 := decide (q12 = q12);
 let q30 := decide (q13 = q13);
 let q31 := q14 = q14;
 let q32 := q15 = q15;
 let q33 := decide (q2 = q2);
 let q34 := decide (q2 ≤ q2);
 let q35 := Z8 3 [] q2 q16 q16;
 Z0 (q1 == 0) (Z0 a.own False False)
 (Z0 (q1 == 1) False
 (Z0 (q1 == 2) False
 (Z0 (q1 == 3) False
 (Z0 (q1 == 4) False
 (Z0 (decide (0 + q2 ≤ q2))
 ((∀ (i : Nat), i < q2 → true = true) ∧
 ∃ (X_1 : Za),
 let q71 := [AV.arr u8 32 q4, AV.int i64 q5, AV.int i64 q6, AV.int i64 q7, AV.int i64 q8, AV.int i64 q9, AV.arr u8 32 q10, AV.arr u8 32 q11, AV.int i64 q12, AV.int i64 q13, AV.arr i64 2 q14, AV.arr i64 2 q15, AV.vrows 70 q2 (ZT 0 q16) q2];
 let q72 := YA X_1.side q19 X_1.L;
 let q73 := List.length q72;
 LV q71 X_1 ∧
 Za.Inv Zq X_1 ∧
 q18 ∧
 Z0 (decide (0 + q2 ≤ q2))
 ((∀ (i : Nat), i < q2 → true = true) ∧
 ∃ (X_2 : Za),
 let q77 := YA X_2.side q19 X_2.L;
 let q78 := List.length q77;
 let q79 := q73 = q78;
 LV q71 X_2 ∧
 Za.Inv Zq X_2 ∧
 q18 ∧
 Z0 (decide (0 + q78 ≤ q78))
 ((∀ (i : Nat), i < q78 → true = true) ∧
 Z0 (decide (0 + q73 ≤ q73))
 ((∀ (i : Nat), i < q73 → true = true) ∧
 ∃ (P : List YO), (q78 = List.length P ∧ q78 = q78 ∧ q79 ∧ q79) ∧ (ZT 0 (ZE q77) = ZE P ∧ ZT 0 (ZE q72) = ZE P) ∧ (q17 = q17 ∧ ZN X_1.side q19 = ZN X_2.side q19 ∧ q20 = q20 ∧ (Z0M X_1 q19).fst = (Z0M X_2 q19).fst ∧ (Z0M X_1 q19).snd = (Z0M X_2 q19).snd) ∧ List.length q20 = 32 ∧ q78 < 1000 ∧ (∀ (q : YO), List.Mem q P → List.length q.hash = 32) ∧ q21 ∧ Z0 q22 (Z0 q23 (Z0 q24 (Z0 q25 (Z0 q26 (q27 ∧ q28 ∧ Z0 q29 (Z0 q30 (q31 ∧ q32 ∧ Z0 q33 (Z0 q33 (q21 ∧ Z0 q22 (Z0 q23 (Z0 q24 (Z0 q25 (Z0 q26 (q27 ∧ q28 ∧ Z0 q29 (Z0 q30 (q31 ∧ q32 ∧ Z0 q33 (Z0 q34 (q21 ∧ Z0 q22 (Z0 q23 (Z0 q24 (Z0 q25 (Z0 q26 (q27 ∧ q28 ∧ Z0 q29 (Z0 q30 (q31 ∧ q32 ∧ Z0 q33 (Z0 q34 (Z0 q33 (q35 ∧ Z0 q33 (q35 ∧ True) False) False) False) False) False) False) False) False) False) False) False) False) False) False) False) False) False) False) False) False) False) False) False) False) False) False) False) False) False)
 False)
 False)
 False)
 False)))))) (by kernel_rfl) ?_
 conv => zeta
 try simp only [Zi]
 try simp only [Zj]
 try simp only [Zk]
 try simp only [Zl]
 try simp only [Zm]
 try simp only [Zh]
 try simp only [Int.toNat_natCast, Nat.zero_add, true_and, and_true, Nat.le_refl]
 have e : ∀ k : Int, 0 ≤ k → k ≤ 4 → (a.what == k) = false := fun k h1 h2 => by
  rw [beq_eq_false_iff_ne]; omega
 have l1 : (YA X.side a.ours X.L).length < 1000 := by
  have := Up X.side a.ours X.L
  have := hI.len
  omega
 have okP : ∀ q ∈ YA X.side a.ours X.L, q.hash.length = 32 := fun q hq => ZbK hI hq
 refine ⟨fun h => absurd h (by rw [e 0 (by decide) (by decide)]; simp), fun _ => ⟨e 1 (by decide) (by decide), e 2 (by decide) (by decide), e 3 (by decide) (by decide), e 4 (by decide) (by decide), fun _ _ => trivial, X, .a rfl, hI, hk, fun _ _ => trivial, X, .a rfl, hI, hk, ?_⟩⟩
 exact ⟨fun _ _ => trivial, fun _ _ => trivial, YA X.side a.ours X.L, ⟨rfl, rfl, rfl⟩, ⟨rfl, rfl⟩, ⟨rfl, rfl, rfl⟩, ha.secret, l1, okP, Zn fun _ _ => rfl, Zn fun _ _ => rfl⟩
theorem Zh9 (X : Za) (a : Y2) (hI : X.Inv Zq) (ha : a.Ok) (hw : ¬ (0 ≤ a.what ∧ a.what ≤ 4)) (hk : ¬ (0 ≤ a.number ∧ a.number ≤ 2147483647)) :
  evF (ZbL false) 20 11 [.ptr (some ⟨0, 0, 0, 0, 0⟩), .agg (X.c (slH 2 X.L.length)), .agg a.c] (Z0d X) (YQ 3 (.ret (.tuple [.agg (X.c (slH 2 X.L.length)), .bool true])) 3 (Z2H X)) := by
 refine @Eq.mpr _ (let q1 := a.what;
 let q2 := List.length X.L;
 let q3 := X.t;
 let q4 := q3.fund;
 let q5 := q3.index;
 let q6 := q3.cap;
 let q7 := q3.dust;
 let q8 := q3.fee;
 let q9 := q3.delay;
 let q10 := q3.k0;
 let q11 := q3.k1;
 let q12 := X.side;
 let q13 := X.res;
 let q14 := [X.a0, X.a1];
 let q15 := [X.i0, X.i1];
 let q16 := Z5 X.L;
 let q17 := ¬(0 ≤ a.number ∧ a.number ≤ 2147483647);
 let q18 := q4 = q4;
 let q19 := decide (q5 = q5);
 let q20 := decide (q6 = q6);
 let q21 := decide (q7 = q7);
 let q22 := decide (q8 = q8);
 let q23 := decide (q9 = q9);
 let q24 := q10 = q10;
 let q25 := q11 = q11;
 let q26 := decide (q12 = q12);
 let q27 := decide (q13 = q13);
 let q28 := q14 = q14;
 let q29 := q15 = q15;
 let q30 := decide (q2 = q2);
 let q31 := decide (q2 ≤ q2);
 let q32 := Z8 3 [] q2 q16 q16;
 Z0 (q1 == 0) (Z0 a.own False False)
 (Z0 (q1 == 1) False
 (Z0 (q1 == 2) False
 (Z0 (q1 == 3) False
 (Z0 (q1 == 4) False
 (Z0 (decide (0 + q2 ≤ q2))
 ((∀ (i : Nat), i < q2 → true = true) ∧
 ∃ (X : Za),
 let q65 := [AV.arr u8 32 q4, AV.int i64 q5, AV.int i64 q6, AV.int i64 q7, AV.int i64 q8, AV.int i64 q9, AV.arr u8 32 q10, AV.arr u8 32 q11, AV.int i64 q12, AV.int i64 q13, AV.arr i64 2 q14, AV.arr i64 2 q15, AV.vrows 70 q2 (ZT 0 q16) q2];
 LV q65 X ∧ Za.Inv Zq X ∧ q17 ∧ Z0 (decide (0 + q2 ≤ q2)) ((∀ (i : Nat), i < q2 → true = true) ∧ ∃ (X : Za), LV q65 X ∧ Za.Inv Zq X ∧ q17 ∧ ((0 : Int) = 0 ∧ (0 : Int) = 0 ∧ Zd = Zd ∧ (0 : Int) = 0 ∧ (0 : Int) = 0) ∧ (32 : Nat) = 32 ∧ q18 ∧ Z0 q19 (Z0 q20 (Z0 q21 (Z0 q22 (Z0 q23 (q24 ∧ q25 ∧ Z0 q26 (Z0 q27 (q28 ∧ q29 ∧ Z0 q30 (Z0 q30 (q18 ∧ Z0 q19 (Z0 q20 (Z0 q21 (Z0 q22 (Z0 q23 (q24 ∧ q25 ∧ Z0 q26 (Z0 q27 (q28 ∧ q29 ∧ Z0 q30 (Z0 q31 (q18 ∧ Z0 q19 (Z0 q20 (Z0 q21 (Z0 q22 (Z0 q23 (q24 ∧ q25 ∧ Z0 q26 (Z0 q27 (q28 ∧ q29 ∧ Z0 q30 (Z0 q31 (Z0 q30 (q32 ∧ Z0 q30 (q32 ∧ True) False) False) False) False) False) False) False) False) False) False) False) False) False) False) False) False) False) False) False) False) False) False) False) False) False) False) False) False) False) False)
 False)))))) (by kernel_rfl) ?_
 conv => zeta
 try simp only [Zi]
 try simp only [Zj]
 try simp only [Zk]
 try simp only [Zl]
 try simp only [Zm]
 try simp only [Zh]
 try simp only [Int.toNat_natCast, Nat.zero_add, true_and, and_true, Nat.le_refl]
 have e : ∀ k : Int, 0 ≤ k → k ≤ 4 → (a.what == k) = false := fun k h1 h2 => by
  rw [beq_eq_false_iff_ne]; omega
 have l1 : (YA X.side a.ours X.L).length < 1000 := by
  have := Up X.side a.ours X.L
  have := hI.len
  omega
 have okP : ∀ q ∈ YA X.side a.ours X.L, q.hash.length = 32 := fun q hq => ZbK hI hq
 refine ⟨fun h => absurd h (by rw [e 0 (by decide) (by decide)]; simp), fun _ => ⟨e 1 (by decide) (by decide), e 2 (by decide) (by decide), e 3 (by decide) (by decide), e 4 (by decide) (by decide), fun _ _ => trivial, X, .a rfl, hI, hk, fun _ _ => trivial, X, .a rfl, hI, hk, ?_⟩⟩
 exact ⟨Zn fun _ _ => rfl, Zn fun _ _ => rfl⟩
def actX (X : Za) (a : Y2) : Za := if a.what = 0 then addX X a.own (idA X a) a.amount (Zq a.secret) a.expiry else if a.what = 1 then endX Zq X (Y1 X a).1 (Y1 X a).2 1 a.secret else if a.what = 2 then endX Zq X (Y1 X a).1 (Y1 X a).2 2 Zd else if a.what = 3 then stpX X a.move else if a.what = 4 then brkX X else X
def Vw (X : Za) (a : Y2) : Prop := if a.what = 0 then Xi X a.own (idA X a) a.amount (Zq a.secret) a.expiry ≠ 0 else if a.what = 1 then YU Zq X (Y1 X a).1 (Y1 X a).2 1 a.secret ≠ 0 else if a.what = 2 then YU Zq X (Y1 X a).1 (Y1 X a).2 2 Zd ≠ 0 else if a.what = 3 then ¬ (1 ≤ a.move ∧ a.move ≤ 4) else if a.what = 4 then False else True
theorem ZbM {X : Za} {a : Y2} (h : Vw X a) : actX X a = X := by
 unfold Vw at h
 unfold actX
 split
 ·rename_i q; rw [if_pos q] at h; unfold addX; rw [if_neg h]
 ·rename_i q; rw [if_neg q] at h
  split
  ·rename_i q; rw [if_pos q] at h; unfold endX; rw [if_neg h]
  ·rename_i q; rw [if_neg q] at h
   split
   ·rename_i q; rw [if_pos q] at h; unfold endX; rw [if_neg h]
   ·rename_i q; rw [if_neg q] at h
    split
    ·rename_i q; rw [if_pos q] at h; unfold stpX; rw [if_neg h]
    ·rename_i q; rw [if_neg q] at h
     split
     ·rename_i q; rw [if_pos q] at h; exact h.elim
     ·rfl
theorem Z0e {xs : List Int} (h : ∀ x ∈ xs, 0 ≤ x ∧ x ≤ 255) : Bytes xs := ⟨fun i => by
 rw [List.getD_eq_getElem?_getD]
 rcases Nat.lt_or_ge i xs.length with q | q
 ·rw [List.getElem?_eq_getElem q]; exact h _ (List.getElem_mem q)
 ·rw [List.getElem?_eq_none q]; exact ⟨by decide, by decide⟩⟩
theorem Z9n (n : Int) : ∀ x ∈ WF n, 0 ≤ x ∧ x ≤ 255 := fun x hx => by
 unfold WF at hx
 simp only [List.mem_cons, List.not_mem_nil, or_false] at hx
 rcases hx with rfl | rfl | rfl | rfl <;> exact Zhs _
theorem Z7g (bs : List Int) : Bytes (Zq bs) := Z0e fun x hx => by
 unfold Zq Zz.fin Z5l at hx
 simp only [List.mem_append] at hx
 rcases hx with ((((((hx | hx) | hx) | hx) | hx) | hx) | hx) | hx <;> exact Z9n _ x hx
theorem Za.Inv.actX {X : Za} (h : X.Inv Zq) {a : Y2} (ha : a.Ok) : (actX X a).Inv Zq := by
 unfold Go.Tk.actX
 split
 ·exact h.addX (V5 _) (Z7g _)
 ·split
  ·exact h.endX ha.secret ha.sb (.inl rfl)
  ·split
   ·exact h.endX rfl XR (.inr ⟨rfl, rfl⟩)
   ·split
    ·exact h.stpX _
    ·split
     ·exact h.brkX
     ·exact h
theorem Zha (X : Za) (a : Y2) : (actX X a).t = X.t := by
 unfold actX
 split
 ·unfold addX
  split
  ·cases a.own <;> rfl
  ·rfl
 ·split
  ·unfold endX; split <;> rfl
  ·split
   ·unfold endX; split <;> rfl
   ·split
    ·unfold stpX; split <;> rfl
    ·split
     ·rfl
     ·rfl
theorem ZdB {a : Y2} (ha : a.Ok) : Wc a.secret = Zq a.secret := Z7R (Z5P ha.sb) (by have := ha.secret; omega)
theorem Spec.act {X : Za} {a : Y2} (hI : X.Inv Zq) (ha : a.Ok) : (Vw X a → Spec PP 11 [.ptr (some ⟨0, 0, 0, 0, 0⟩), .agg (X.c (slH 2 X.L.length)), .agg a.c] (Z0d X) (.ret (.tuple [.agg (X.c (slH 2 X.L.length)), .bool true])) 3 (Z2H X)) ∧ (¬ Vw X a → Spec PP 11 [.ptr (some ⟨0, 0, 0, 0, 0⟩), .agg (X.c (slH 2 X.L.length)), .agg a.c] (Z0d X) (.ret (.tuple [.agg ((actX X a).c (slH 4 (actX X a).L.length)), .bool true])) 5 (Z9m X (actX X a))) := by
 have hs := ZdB ha
 obtain ⟨w, ow, of, am, ex, se, at', mo, ou, nu⟩ := a
 by_cases h0 : w = 0
 ·subst h0
  refine ⟨fun hk => ?_, fun hk => ?_⟩
  ·exact .evM (Wd false) (Zh0 X ⟨0, ow, of, am, ex, se, at', mo, ou, nu⟩ Wc 1000 _ hI ha (by decide) hs (V5 _) hk)
  ·exact .evM (Wd true) (ZgZ X _ ⟨0, ow, of, am, ex, se, at', mo, ou, nu⟩ Wc 1000 _ hI ha (by decide) hs (V5 _) rfl (by
    have : ¬ (Xi X ow (idA X ⟨0, ow, of, am, ex, se, at', mo, ou, nu⟩) am (Zq se) ex ≠ 0) := hk
    simpa using this))
 by_cases h1 : w = 1
 ·subst h1
  refine ⟨fun hk => ?_, fun hk => ?_⟩
  ·exact .evM (Wd false) (Zh2 X ⟨1, ow, of, am, ex, se, at', mo, ou, nu⟩ Wc 1000 hI ha (by decide) hk)
  ·exact .evM (Wd true) (Zh1 X _ ⟨1, ow, of, am, ex, se, at', mo, ou, nu⟩ Wc 1000 hI ha (by decide) (by
    have : ¬ (YU Zq X (Y1 X ⟨1, ow, of, am, ex, se, at', mo, ou, nu⟩).1 (Y1 X ⟨1, ow, of, am, ex, se, at', mo, ou, nu⟩).2 1 se ≠ 0) := hk
    simpa using this) rfl)
 by_cases h2 : w = 2
 ·subst h2
  refine ⟨fun hk => ?_, fun hk => ?_⟩
  ·exact .evM (Wd false) (Zh4 X ⟨2, ow, of, am, ex, se, at', mo, ou, nu⟩ Wc 1000 hI ha (by decide) hk)
  ·exact .evM (Wd true) (Zh3 X _ ⟨2, ow, of, am, ex, se, at', mo, ou, nu⟩ Wc 1000 hI ha (by decide) (by
    have : ¬ (YU Zq X (Y1 X ⟨2, ow, of, am, ex, se, at', mo, ou, nu⟩).1 (Y1 X ⟨2, ow, of, am, ex, se, at', mo, ou, nu⟩).2 2 Zd ≠ 0) := hk
    simpa using this) rfl)
 by_cases h3 : w = 3
 ·subst h3
  refine ⟨fun hk => ?_, fun hk => ?_⟩
  ·exact .evM (Wd false) (Zh6 X ⟨3, ow, of, am, ex, se, at', mo, ou, nu⟩ Wc 1000 hI ha (by decide) hk)
  ·exact .evM (Wd true) (Zh5 X _ ⟨3, ow, of, am, ex, se, at', mo, ou, nu⟩ Wc 1000 hI ha (by decide) (Classical.not_not.1 hk) rfl)
 by_cases h4 : w = 4
 ·subst h4
  refine ⟨fun hk => hk.elim, fun hk => ?_⟩
  exact .evM (Wd true) (Zh7 X _ ⟨4, ow, of, am, ex, se, at', mo, ou, nu⟩ Wc 1000 hI ha (by decide) trivial rfl)
 refine ⟨fun _ => ?_, fun hk => absurd ?_ hk⟩
 ·by_cases hn : 0 ≤ nu ∧ nu ≤ 2147483647
  ·exact .evM (Z5R true) (Zh8 X ⟨w, ow, of, am, ex, se, at', mo, ou, nu⟩ hI ha (show ¬ (0 ≤ w ∧ w ≤ 4) by omega) hn)
  ·exact .evM (Z5R false) (Zh9 X ⟨w, ow, of, am, ex, se, at', mo, ou, nu⟩ hI ha (show ¬ (0 ≤ w ∧ w ≤ 4) by omega) hn)
 ·unfold Vw
  rw [if_neg h0, if_neg h1, if_neg h2, if_neg h3, if_neg h4]
  trivial
structure LA (cs : List AV) (n : Nat) (f : Nat → List AV) (ws : List AV) (m : Nat) (g : Nat → List AV) (X : Za) : Prop where
 h1 : cs = X.c (slH 1 X.L.length)
 h2 : n = X.L.length
 h3 : f = Z5 X.L
 h4 : ws = X.c (slH 2 X.L.length)
 h5 : m = X.L.length
 h6 : g = Z5 X.L
def Zfs : YR := fun args h K => match args with
 | [.ptr (some ⟨l, 0, 0, 0, 0⟩), .agg [_, _, _, _, _, _, _, _, _, _, _, _, .nslice ⟨d, 0, 70, 0, 0⟩ 70 _ _], _] => match h.get l with
  |some (.flat [_, _, _, _, _, _, _, _, _, _, _, _, .nslice ⟨b, 0, 70, 0, 0⟩ 70 _ _]) => frA [l, b, d] h 20 args fun Bs v => match Bs, v with
   | [.flat cs, .rows 70 n f, .rows 70 m g], [.ptr (some ⟨0, 0, 0, 0, 0⟩), .agg ws, .agg [.int .i64 w, .bool ow, .int .i64 of, .int .i64 am, .int .i64 ex, .arr .u8 32 se, .int .i64 at', .int .i64 mo, .bool ou, .int .i64 nu]] =>
    ∃ X a, a = ⟨w, ow, of, am, ex, se, at', mo, ou, nu⟩ ∧ LA cs n f ws m g X ∧ X.Inv Zq ∧ Y2.Ok a ∧ (Vw X a → K (.ret (.tuple [.agg (X.c (slH d X.L.length)), .bool true])) ⟨h.next, (l, .flat (X.c (slH b X.L.length))) :: (b, .rows 70 X.L.length (Z5 X.L)) :: (d, .rows 70 X.L.length (Z5 X.L)) :: YP (YP (YP h.bs l) b) d⟩) ∧
     (¬ Vw X a → K (.ret (.tuple [.agg ((actX X a).c (slH (h.next + 1) (actX X a).L.length)), .bool true])) ⟨h.next + 2, (l, .flat ((actX X a).c (slH h.next (actX X a).L.length))) :: (h.next, .rows 70 (actX X a).L.length (Z5 (actX X a).L)) :: (h.next + 1, .rows 70 (actX X a).L.length (Z5 (actX X a).L)) :: (d, .rows 70 X.L.length (Z5 X.L)) :: YP (YP (YP h.bs l) b) d⟩)
   | _, _ => False
  | _ => False
 | _ => False
theorem ZdC (args : List AV) (h : Z9) (K : KO) (hl : Zfs args h K) : Zo PP 11 args h K := by
 unfold Zfs at hl
 split at hl
 ·split at hl
  ·refine Spec.fsumm hl fun Bs a hlen hK0 => ?_
   split at hK0
   ·obtain ⟨X, a, he, ⟨rfl, rfl, rfl, rfl, rfl, rfl⟩, hI, ha, hK1, hK2⟩ := hK0
    obtain ⟨s1, s2⟩ := Spec.act hI ha
    by_cases hk : Vw X a
    ·have hK := hK1 hk
     have hs := s1 hk
     subst he
     exact ⟨_, _, _, _, _, hs, by simp, .ret _ _ rfl, .cons _ _ _ _ _ _ rfl (.flat _ _ rfl) (.cons _ _ _ _ _ _ rfl (.rows _ _ _ (fun _ _ => rfl)) (.cons _ _ _ _ _ _ rfl (.rows _ _ _ (fun _ _ => rfl)) .nil)), hK⟩
    ·have hK := hK2 hk
     have hs := s2 hk
     subst he
     exact ⟨_, _, _, _, _, hs, by simp, .ret _ _ rfl, .cons _ _ _ _ _ _ rfl (.flat _ _ rfl) (.cons _ _ _ _ _ _ rfl (.rows _ _ _ (fun _ _ => rfl)) (.cons _ _ _ _ _ _ rfl (.rows _ _ _ (fun _ _ => rfl)) (.cons _ _ _ _ _ _ rfl (.rows _ _ _ (fun _ _ => rfl)) .nil))), hK⟩
   ·exact hK0.elim
  ·exact hl.elim
 ·exact hl.elim
end Go.Tk
end
section
namespace Go.Tk
open IntKind (i64 u8 u32 u64 wrap)
noncomputable def Zhb : Zg := G0.withP 78 Z6X
theorem ZdD : Zhb.Ok := Zg.withP_ok Zw Z97
theorem Z3G {H : List Int → List Int} {t : Ys} {side res a b : Int} : Yo H (XQ t side res a b) = true ↔ XG t = true ∧ (0 ≤ side ∧ side ≤ 1) ∧ (0 ≤ res ∧ res ≤ t.cap / 10) ∧ (0 ≤ a ∧ a ≤ t.cap) ∧ b = t.cap - a ∧ 0 ≤ a - res - t.fee := by
 rw [Q6, Z06]
 have o : ∀ s, ZO (XQ t side res a b).side s (XQ t side res a b).L = [] := fun _ => rfl
 have e : Ya (XQ t side res a b) 0 = a - res - t.fee := by
  rw [Xa, Q7 (o 0), if_pos rfl]
  show a - 0 - res - t.fee = _
  omega
 rw [o, o, e]
 constructor
 ·rintro ⟨⟨h1, h2, h3, h4, h5, _⟩, _, h6, _⟩
  exact ⟨h1, h2, h3, h4, h5, h6⟩
 ·rintro ⟨h1, h2, h3, h4, h5, h6⟩
  exact ⟨⟨h1, h2, h3, h4, h5, ⟨Int.le_refl 0, show (0 : Int) ≤ 2147483648 by decide⟩, ⟨Int.le_refl 0, show (0 : Int) ≤ 2147483648 by decide⟩, Nat.zero_le _, Nat.zero_le _⟩, fun i hi => absurd hi (Nat.not_lt_zero _), h6, .inl rfl⟩
theorem Zhc (t : Ys) (side res a b : Int) (X Y : Za) (e : Int) (H1 : List Int → List Int) (ht : t.Ok) (hX : X = XQ t side res a b) (hY : Y = cond (Yo H1 X) X Yg) (he : e = cond (Yo H1 X) 0 2) :
  evF Zhb 20 10 [.agg t.c, .int .i64 side, .int .i64 res, .agg [.arr .i64 2 [a, b]]] ⟨0, []⟩ (Yp fun v => v = .tuple [.agg (Y.c .nilslice), .int .i64 e]) := by
 refine @Eq.mpr _ (let q1 := t.cap;
 let q2 := t.fee;
 let q3 := Ys.mk t.fund t.index q1 t.dust q2 t.delay t.k0 t.k1;
 let q4 := AV.arr u8 32 Zd;
 let q5 := AV.int i64 0;
 let q6 := AV.arr i64 2 [(0 : Int), 0];
 let q7 := [q6, AV.nilslice];
 let q8 := AV.tuple [AV.agg (Za.c Y AV.nilslice), AV.int i64 e];
 let q9 := AV.tuple [AV.agg (q4 :: q5 :: q5 :: q5 :: q5 :: q5 :: q4 :: q4 :: q5 :: q5 :: q6 :: q7), AV.int i64 2] = q8;
 let q10 := decide (res < 0);
 let q11 := decide (res > wrap i64 (Int.tdiv q1 10));
 let q12 := decide (a ≥ 0);
 let q13 := !decide (a ≤ 1125899906842624);
 let q14 := decide (b ≥ 0);
 let q15 := !decide (b ≤ 1125899906842624);
 let q16 := wrap i64 (a + b) != q1;
 let q17 := AV.tuple [AV.agg (AV.arr u8 32 t.fund :: AV.int i64 t.index :: AV.int i64 q1 :: AV.int i64 t.dust :: AV.int i64 q2 :: AV.int i64 t.delay :: AV.arr u8 32 t.k0 :: AV.arr u8 32 t.k1 :: AV.int i64 side :: AV.int i64 res :: AV.arr i64 2 [a, b] :: q7), q5] = q8;
 Ys.Ok q3 ∧ Z0 (!XG q3) q9 (Z0 (side != 0) (Z0 (side != 1) q9 (Z0 q10 q9 (Z0 q11 q9 (Z0 q12 (Z0 q13 q9 (Z0 q14 (Z0 q15 q9 (Z0 q16 q9 (Z0 (decide (wrap i64 (wrap i64 (wrap i64 (a - 0) - res) - q2) ≥ 0)) q17 q9))) q9)) q9)))) (Z0 q10 q9 (Z0 q11 q9 (Z0 q12 (Z0 q13 q9 (Z0 q14 (Z0 q15 q9 (Z0 q16 q9 (Z0 (decide (wrap i64 (wrap i64 (wrap i64 (a - 0) - res) - q2) ≥ 0)) q17 q9))) q9)) q9))))) (by kernel_rfl) ?_
 conv => zeta
 try simp only [Zi]
 try simp only [Zj]
 try simp only [Zk]
 try simp only [Zl]
 try simp only [Zm]
 try simp only [Zh]
 try simp only [Int.toNat_natCast, Nat.zero_add, true_and, and_true, Nat.le_refl]
 have e0 : Ys.mk t.fund t.index t.cap t.dust t.fee t.delay t.k0 t.k1 = t := rfl
 rw [e0]
 have hr := Z3G (H := H1) (t := t) (side := side) (res := res) (a := a) (b := b)
 rw [← hX] at hr
 have bad : ¬ (Yo H1 X = true) → AV.tuple [.agg (Yg.c .nilslice), .int .i64 2] = AV.tuple [.agg (Y.c .nilslice), .int .i64 e] := fun h => by rw [hY, he, Bool.eq_false_iff.2 h]; rfl
 have good : Yo H1 X = true → AV.tuple [.agg (X.c .nilslice), .int .i64 0] = AV.tuple [.agg (Y.c .nilslice), .int .i64 e] := fun h => by rw [hY, he, h]; rfl
 refine ⟨ht, fun k => bad fun h => ?_, fun k1 => ?_⟩
 ·rw [(hr.1 h).1] at k; simp at k
 have k1 : XG t = true := by simpa using k1
 have tb := ZZ k1
 have td : i64.wrap (Int.tdiv t.cap 10) = t.cap / 10 := by rw [Int.tdiv_eq_ediv_of_nonneg (by omega), w64 (by omega)]
 rw [td]
 have main : (0 ≤ side ∧ side ≤ 1) → (res < 0 → AV.tuple [.agg (Yg.c .nilslice), .int .i64 2] = AV.tuple [.agg (Y.c .nilslice), .int .i64 e]) ∧ (¬ res < 0 → (res > t.cap / 10 → AV.tuple [.agg (Yg.c .nilslice), .int .i64 2] = AV.tuple [.agg (Y.c .nilslice), .int .i64 e]) ∧ (¬ res > t.cap / 10 → (a ≥ 0 → ((!decide (a ≤ 1125899906842624)) = true → AV.tuple [.agg (Yg.c .nilslice), .int .i64 2] = AV.tuple [.agg (Y.c .nilslice), .int .i64 e]) ∧ ((!decide (a ≤ 1125899906842624)) = false → (b ≥ 0 → ((!decide (b ≤ 1125899906842624)) = true → AV.tuple [.agg (Yg.c .nilslice), .int .i64 2] = AV.tuple [.agg (Y.c .nilslice), .int .i64 e]) ∧ ((!decide (b ≤ 1125899906842624)) = false → ((i64.wrap (a + b) != t.cap) = true → AV.tuple [.agg (Yg.c .nilslice), .int .i64 2] = AV.tuple [.agg (Y.c .nilslice), .int .i64 e]) ∧ ((i64.wrap (a + b) != t.cap) = false → (i64.wrap (i64.wrap (i64.wrap (a - 0) - res) - t.fee) ≥ 0 → AV.tuple [.agg (X.c .nilslice), .int .i64 0] = AV.tuple [.agg (Y.c .nilslice), .int .i64 e]) ∧ (¬ i64.wrap (i64.wrap (i64.wrap (a - 0) - res) - t.fee) ≥ 0 → AV.tuple [.agg (Yg.c .nilslice), .int .i64 2] = AV.tuple [.agg (Y.c .nilslice), .int .i64 e])))) ∧ (¬ b ≥ 0 → AV.tuple [.agg (Yg.c .nilslice), .int .i64 2] = AV.tuple [.agg (Y.c .nilslice), .int .i64 e]))) ∧ (¬ a ≥ 0 → AV.tuple [.agg (Yg.c .nilslice), .int .i64 2] = AV.tuple [.agg (Y.c .nilslice), .int .i64 e]))) := fun hs => by
  refine ⟨fun k => bad fun h => ?_, fun k2 => ⟨fun k => bad fun h => ?_, fun k3 => ⟨fun k4 => ⟨fun k => bad fun h => ?_, fun k5 => ⟨fun k6 => ⟨fun k => bad fun h => ?_, fun k7 => ⟨fun k => bad fun h => ?_, fun k8 => ?_⟩⟩, fun k => bad fun h => ?_⟩⟩, fun k => bad fun h => ?_⟩⟩⟩
  ·have := (hr.1 h).2.2.1; omega
  ·have := (hr.1 h).2.2.1; omega
  ·have := (hr.1 h).2.2.2.1
   have : ¬ a ≤ 1125899906842624 := by simpa using k
   omega
  ·have := (hr.1 h).2.2.2
   have : ¬ b ≤ 1125899906842624 := by simpa using k
   omega
  ·have q := (hr.1 h).2.2.2
   have : ¬ i64.wrap (a + b) = t.cap := by simpa using k
   rw [w64 (by omega)] at this
   omega
  ·have k5 : a ≤ 1125899906842624 := by simpa using k5
   have k7 : b ≤ 1125899906842624 := by simpa using k7
   have k8 : i64.wrap (a + b) = t.cap := by simpa using k8
   rw [w64 (by omega)] at k8
   rw [w64 (x := a - 0) (by omega), w64 (x := a - 0 - res) (by omega), w64 (by omega)]
   refine ⟨fun k9 => good (hr.2 ⟨k1, hs, by omega, by omega, by omega, by omega⟩), fun k9 => bad fun h => ?_⟩
   have q := (hr.1 h).2.2.2.2.2
   omega
  ·have := (hr.1 h).2.2.2; omega
  ·have := (hr.1 h).2.2.2; omega
 rw [hX] at main
 refine ⟨fun h0 => ⟨fun h1 => bad fun h => ?_, fun h1 => main ?_⟩, fun h0 => main ?_⟩
 ·have := (hr.1 h).2.1
  have h0 : ¬ side = 0 := by simpa using h0
  have h1 : ¬ side = 1 := by simpa using h1
  omega
 ·have h1 : side = 1 := by simpa using h1
  omega
 ·have h0 : side = 0 := by simpa using h0
  omega
def Zeo (H : List Int → List Int) : ZU := fun args h K => ZY none h true 20 args fun v => match v with
 | [.agg [.arr .u8 32 fu, .int .i64 ix, .int .i64 ca, .int .i64 du, .int .i64 fe, .int .i64 de, .arr .u8 32 k0, .arr .u8 32 k1], .int .i64 sd, .int .i64 rs, .agg [.arr .i64 2 [a, b]]] =>
  Ys.Ok ⟨fu, ix, ca, du, fe, de, k0, k1⟩ ∧ Z0 (Yo H (XQ ⟨fu, ix, ca, du, fe, de, k0, k1⟩ sd rs a b)) (K (.tuple [.agg ((XQ ⟨fu, ix, ca, du, fe, de, k0, k1⟩ sd rs a b).c .nilslice), .int .i64 0])) (K (.tuple [.agg (Yg.c .nilslice), .int .i64 2]))
 | _ => False
theorem ZbN {H : List Int → List Int} (args : List AV) (h : Z9) (K : AV → Prop) (hl : Zeo H args h K) : Zo PP 10 args h fun o h' => ∃ v, o = .ret v ∧ h' = h ∧ K v := by
 refine ZH.psumm (d := 20) (Zx _ _ _ _ _ hl fun a ha => ?_)
 split at ha
 ·rename_i fu ix ca du fe de k0 k1 sd rs a b
  obtain ⟨ht, hK⟩ := ha
  refine ⟨_, ZH.evV ZdD (Zhc ⟨fu, ix, ca, du, fe, de, k0, k1⟩ sd rs a b _ _ _ H ht rfl rfl rfl), fun _ => ?_, ?_⟩
  ·cases Yo H (XQ ⟨fu, ix, ca, du, fe, de, k0, k1⟩ sd rs a b) <;> rfl
  ·cases hb : Yo H (XQ ⟨fu, ix, ca, du, fe, de, k0, k1⟩ sd rs a b) <;> rw [hb] at hK <;> exact hK
 ·exact ha.elim
def Zft : ZU := fun args _ K => match args with
 | [] => K (.bool true)
 | _ => False
def Z5S : Y2 := ⟨0, false, 0, 0, 0, Zd, 0, 0, false, 0⟩
def Z0A (A : List Y2) (i : Nat) : List AV := (A.getD i Z5S).c
end Go.Tk
end
section
namespace Go.Tk
open IntKind (i64 u8 u32 u64 wrap)
def lpX (X : Za) (A : List Y2) (i : Nat) : Za := (A.take i).foldl actX X
theorem Z5T {X : Za} {A : List Y2} {i : Nat} (hi : i < A.length) : lpX X A (i + 1) = actX (lpX X A i) (A.getD i Z5S) := Uq actX Z5S hi X
theorem Z4C {X : Za} (hI : X.Inv Zq) {A : List Y2} (hA : ∀ a ∈ A, a.Ok) : ∀ i, i ≤ A.length → (lpX X A i).Inv Zq ∧ (lpX X A i).t = X.t
 | 0, _ => ⟨hI, rfl⟩
 | i + 1, hi => by
  obtain ⟨h1, h2⟩ := Z4C hI hA i (by omega)
  have ha : (A.getD i Z5S).Ok := hA _ (by rw [List.getD_eq_getElem?_getD, List.getElem?_eq_getElem hi]; exact List.getElem_mem hi)
  rw [Z5T hi]
  exact ⟨h1.actX ha, (Zha _ _).trans h2⟩
def Zfu (X : Za) (A : List Y2) (n : Nat) : Prop := n ≤ 60 ∧ A.length = n ∧ X.Inv Zq ∧ X.t.fund.length = 32 ∧ ∀ a ∈ A, a.Ok
end Go.Tk
end
section
namespace Go.Tk
open IntKind (i64 u8 u32 u64 wrap)
theorem Z9o {x : Z6} : Z70 ltH [x] := by simp [Z70]
def Z7h : YR := fun args h K => match args with
 | [.nslice ⟨b, 0, 70, 0, 0⟩ 70 _ _, _] => frA [b] h 20 args fun Bs a => match Bs, a with
  | [.rows 70 1 f], [.nslice ⟨0, 0, 70, 0, 0⟩ 70 1 _, .func (.func 61) [] []] => match f 0 with
   | [.bool ow, .int .i64 id, .int .i64 am, .arr .u8 32 ha, .int .i64 ex, .int .i64 st, .int .i64 fi, .arr .u8 32 se] => K (.ret (.tuple [])) ⟨h.next, (b, .rows 70 1 (Z5 [⟨ow, id, am, ha, ex, st, fi, se⟩])) :: YP h.bs b⟩
   | _ => False
  | _, _ => False
 | _ => False
theorem Z9p (args : List AV) (h : Z9) (K : KO) (hl : Z7h args h K) : Zo PP 60 args h K := by
 unfold Z7h at hl
 split at hl
 ·refine Spec.fsumm hl fun Bs a hlen hK0 => ?_
  split at hK0
  ·split at hK0
   ·rename_i f _ _ ow id am ha ex st fi se hf
    have hs : Xq [⟨ow, id, am, ha, ex, st, fi, se⟩] [⟨ow, id, am, ha, ex, st, fi, se⟩] 1 := ⟨rfl, by decide, by decide, .refl _, Z9o, fun a ha b hb _ _ => by
     simp only [List.mem_cons, List.not_mem_nil, or_false] at ha hb
     rw [ha, hb]⟩
    exact ⟨_, _, _, _, _, Zb2 (fun i hi => by
     have : i = 0 := by omega
     subst this; rw [hf]; rfl) hs, Nat.le_refl _, .ret _ _ rfl, .cons _ _ _ _ _ _ rfl (.rows _ _ _ (fun i _ => X9 _ i)) .nil, hK0⟩
   ·exact hK0.elim
  ·exact hK0.elim
 ·exact hl.elim
noncomputable def Zhd : Zg := G0.withF 60 Z7h
theorem ZdE : Zhd.Ok := Zg.withF_ok Zw Z9p
theorem Zhe (u : Unit)  :
  evF Zhd 40 7 [] ⟨0, []⟩ (Yp fun v => v = .bool true) := by
 refine @Eq.mpr _ (let q1 := [(0 : Int), 0, 0, 0, 0, 0, 0, 0, 0, 0, 0, 0, 0, 0, 0, 0, 0, 0, 0, 0, 0, 0, 0, 0, 0, 0, 0, 0, 0, 0, 0];
 let q2 := (2 : Int) :: q1;
 let q3 := q2 = q2;
 let q4 := (1 : Int) :: q1;
 let q5 := q4 = q4;
 let q6 := AV.bool true;
 let q7 := AV.arr u8 32 Zd;
 let q8 := [(600 : Int), 400];
 let q9 := q8 = q8;
 let q10 := (∀ (i : Nat), i < 1 → Yi (ZV 0 (fun (x : Nat) => []) (YD [q6, AV.int i64 0, AV.int i64 545, q7, AV.int i64 9, AV.int i64 1, AV.int i64 0, q7] 0 70) i) = true) ∧ q9 ∧ Zd = Zd ∧ q9 ∧ Zd = Zd ∧ q6 = q6;
 q3 ∧ q5 ∧ q3 ∧ q5 ∧ q3 ∧ q5 ∧ q3 ∧ q5 ∧ q3 ∧ q5 ∧ (Zd = Zd ∧ Zd = Zd ∧ q10) ∧ q10) (by kernel_rfl) ?_
 conv => zeta
 trivial
end Go.Tk
end
section
namespace Go.Tk
open IntKind (i64 u8 u32 u64 wrap)
def actTy : List Ty := [.int .i64, .bool, .int .i64, .int .i64, .int .i64, .arr .u8 32, .int .i64, .int .i64, .bool, .int .i64]
theorem Z5U {l : List AV} (h : Fits actTy l) : ∃ x : Y2, l = x.c ∧ x.Ok := by
 unfold actTy at h
 cases h with | cons _ a1 _ u h1 h =>
 cases h with | cons _ a2 _ u h2 h =>
 cases h with | cons _ a3 _ u h3 h =>
 cases h with | cons _ a4 _ u h4 h =>
 cases h with | cons _ a5 _ u h5 h =>
 cases h with | cons _ a6 _ u h6 h =>
 cases h with | cons _ a7 _ u h7 h =>
 cases h with | cons _ a8 _ u h8 h =>
 cases h with | cons _ a9 _ u h9 h =>
 cases h with | cons _ a10 _ u h10 h =>
 cases h; cases h1; cases h2; cases h3; cases h4; cases h5; cases h6; cases h7; cases h8; cases h9; cases h10
 rename_i x1 w1 x2 x3 w3 x4 w4 x5 w5 x6 l6 w6 x7 w7 x8 w8 x9 x10 w10
 exact ⟨⟨x1, x2, x3, x4, x5, x6, x7, x8, x9, x10⟩, rfl, ⟨l6, Zar l6 w6⟩⟩
theorem ZdF {n : Nat} {p : Nat → Y2 → Prop} (h : ∀ i, i < n → ∃ a, p i a) : ∃ f : Nat → Y2, ∀ i, i < n → p i (f i) :=
 ⟨fun i => if hi : i < n then Classical.choose (h i hi) else Z5S, fun i hi => by
  simp only [hi, dite_true]
  exact Classical.choose_spec (h i hi)⟩
theorem Z9q {a : AV} (h : Z2c false [.rows 41 actTy] a) : ∃ (n : Nat) (A : List Y2), A.length = n ∧ (∀ m ∈ A, m.Ok) ∧ ∀ (E : Env) (r : Value), Zf E a r → Zf E (.vrows 41 n (Z0A A) n) r := by
 cases h with | one _ _ h =>
 cases h with | rows esz ts n f hm h =>
 obtain ⟨g, hg⟩ := ZdF fun i hi => Z5U (h i hi)
 refine ⟨n, (List.range n).map g, by simp, fun m hm => ?_, fun E r hr => hr.rowsC fun i hi => ?_⟩
 ·obtain ⟨i, hi, rfl⟩ := List.mem_map.1 hm
  exact (hg i (List.mem_range.1 hi)).2
 ·unfold Z0A
  rw [(hg i hi).1, List.getD_eq_getElem?_getD, List.getElem?_map, List.getElem?_range hi]
  rfl
theorem fits_int {a : AV} (h : Z2c false [.int .i64] a) : ∃ n : Int, a = .int .i64 n := by
 cases h with | one _ _ h =>
 cases h
 exact ⟨_, rfl⟩
theorem ZdG (args : List AV) (h : Z9) (K : AV → Prop) (hl : Zft args h K) : Zo PP 7 args h fun o h' => ∃ v, o = .ret v ∧ h' = h ∧ K v := by
 unfold Zft at hl
 split at hl
 ·exact Yf ZdE rfl (Zhe ()) (fun u hu => hu ▸ hl)
 ·exact hl.elim
end Go.Tk
end
section
namespace Go.Tk
open IntKind (i64 u8 u32 u64 wrap)
noncomputable def Xn : Code := rfA PP 3 0
noncomputable def Xo : Code := rfB PP 3 0
noncomputable def ZdH (H : List Int → List Int) : Zg := ((((((G0.withF 8 (Ze3 H)).withP 10 (Zeo H)).withF 11 Zfs).withP 7 Zft).withP 42 Zel).withF 44 ZcS)
theorem ZdI : (ZdH Zq).Ok := Zg.withF_ok (Zg.withP_ok (Zg.withP_ok (Zg.withF_ok (Zg.withP_ok (Zg.withF_ok Zw ZaY) ZbN) ZdC) ZdG) ZbH) Z4v
def lvB (many : Int) (y : Y2) : List (Nat × Blk) := [(0, .flat [.int .i64 many]), (1, .flat y.c), (2, .flat [.bool false])]
def lvS (X : Za) (A : List Y2) (many : Int) (y : Y2) (n i : Nat) : St := ⟨115, [(11, .int .i64 i), (0, .vrows 41 n (Z0A A) n), (7, pt 3), (9, pt 5), (5, pt 1), (6, pt 2), (4, pt 0), (8, .int .i64 0)], ⟨7, lvB many y ++ [(3, .flat (X.c (slH 4 X.L.length))), (4, .rows 70 X.L.length (Z5 X.L)), (5, .flat (X.c (slH 6 X.L.length))), (6, .rows 70 X.L.length (Z5 X.L))]⟩, []⟩
def lvE (X : Za) (many : Int) (y : Y2) : St := ⟨115, [(7, pt 3), (9, pt 5), (5, pt 1), (6, pt 2), (4, pt 0), (8, .int .i64 0)], ⟨7, lvB many y ++ [(3, .flat (X.c (slH 4 X.L.length))), (4, .rows 70 X.L.length (Z5 X.L)), (5, .flat (X.c (slH 6 X.L.length))), (6, .rows 70 X.L.length (Z5 X.L))]⟩, []⟩
def lvN : St := ⟨115, [], ⟨0, []⟩, []⟩
theorem Zic (X Y : Za) (A : List Y2) (many : Int) (y : Y2) (n i : Nat) (a : Y2) (H : List Int → List Int) (Z1 Z2 : Prop) (hn : n ≤ 60) (hL : A.length = n) (hi : i ≤ n) (hI : X.Inv Zq) (hx : i < n → A.getD i Z5S = a) (ha : i < n → a.Ok) (hY : i < n → Y = actX X a) (hZ1 : i < n → Z1) (hZ2 : i = n → Z2) :
  ZI (ZdH H) 20 3 0 0 (lvS X A many y n i) (rdM 0 0 9 (lvS Y A many y n (i + 1)) (lvE X many y) lvN lvN Z1 Z2 False False) := by
 refine @Eq.mpr _ (let q1 := List.length X.L;
 let q2 := List.getD A (Int.toNat (↑i : Int)) Z5S;
 let q3 := X.t;
 let q4 := q3.fund;
 let q5 := AV.arr u8 32 q4;
 let q6 := q3.index;
 let q7 := AV.int i64 q6;
 let q8 := q3.cap;
 let q9 := AV.int i64 q8;
 let q10 := q3.dust;
 let q11 := AV.int i64 q10;
 let q12 := q3.fee;
 let q13 := AV.int i64 q12;
 let q14 := q3.delay;
 let q15 := AV.int i64 q14;
 let q16 := q3.k0;
 let q17 := AV.arr u8 32 q16;
 let q18 := q3.k1;
 let q19 := AV.arr u8 32 q18;
 let q20 := X.side;
 let q21 := AV.int i64 q20;
 let q22 := X.res;
 let q23 := AV.int i64 q22;
 let q24 := [X.a0, X.a1];
 let q25 := AV.arr i64 2 q24;
 let q26 := [X.i0, X.i1];
 let q27 := AV.arr i64 2 q26;
 let q28 := Z5 X.L;
 let q29 := decide (wrap i64 ((↑i : Int) + 1) = (↑(i + 1) : Int));
 let q30 := decide (n = n);
 let q31 := Z0A A = Z0A A;
 let q32 := decide (many = many);
 let q33 := decide (y.what = y.what);
 let q34 := decide (y.own = y.own);
 let q35 := decide (y.off = y.off);
 let q36 := decide (y.amount = y.amount);
 let q37 := decide (y.expiry = y.expiry);
 let q38 := y.secret = y.secret;
 let q39 := decide (y.at' = y.at');
 let q40 := decide (y.move = y.move);
 let q41 := decide (y.ours = y.ours);
 let q42 := decide (y.number = y.number);
 let q43 := Y.t;
 let q44 := q43.fund;
 let q45 := q43.index;
 let q46 := q43.cap;
 let q47 := q43.dust;
 let q48 := q43.fee;
 let q49 := q43.delay;
 let q50 := q43.k0;
 let q51 := q43.k1;
 let q52 := [Y.a0, Y.a1];
 let q53 := [Y.i0, Y.i1];
 let q54 := List.length Y.L;
 let q55 := [(0, 0), (2, 2), (1, 1), (5, 5), (3, 3)];
 let q56 := (6, 6) :: (4, 4) :: q55;
 let q57 := Z5 Y.L;
 let q58 := q4 = q4;
 let q59 := decide (q6 = q6);
 let q60 := decide (q8 = q8);
 let q61 := decide (q10 = q10);
 let q62 := decide (q12 = q12);
 let q63 := decide (q14 = q14);
 let q64 := q16 = q16;
 let q65 := q18 = q18;
 let q66 := decide (q20 = q20);
 let q67 := decide (q22 = q22);
 let q68 := q24 = q24;
 let q69 := q26 = q26;
 let q70 := decide (q1 = q1);
 let q71 := decide (q1 ≤ q1);
 let q72 := Z8 0 q56 q1 q28 q28;
 Z0 (decide ((↑i : Int) < (↑n : Int)))
 (Z0 (decide (0 ≤ (↑i : Int) ∧ (↑i : Int) < (↑n : Int)))
 ((∀ (i : Nat), i < q1 → true = true) ∧
 (∀ (i : Nat), i < q1 → true = true) ∧
 ∃ (X : Za),
 let q145 := X.t;
 let q146 := q145.fund = q44;
 let q147 := decide (q145.index = q45);
 let q148 := decide (q145.cap = q46);
 let q149 := decide (q145.dust = q47);
 let q150 := decide (q145.fee = q48);
 let q151 := decide (q145.delay = q49);
 let q152 := q145.k0 = q50;
 let q153 := q145.k1 = q51;
 let q154 := decide (X.side = Y.side);
 let q155 := decide (X.res = Y.res);
 let q156 := [X.a0, X.a1] = q52;
 let q157 := [X.i0, X.i1] = q53;
 let q158 := List.length X.L;
 let q159 := decide (q158 = q54);
 let q160 := decide (q54 ≤ q158);
 let q161 := Z8 0 q56 q54 q57 (Z5 X.L);
 ∃ (a : Y2),
 let q179 := actX X a;
 let q180 := q179.t;
 let q181 := q180.fund = q44;
 let q182 := decide (q180.index = q45);
 let q183 := decide (q180.cap = q46);
 let q184 := decide (q180.dust = q47);
 let q185 := decide (q180.fee = q48);
 let q186 := decide (q180.delay = q49);
 let q187 := q180.k0 = q50;
 let q188 := q180.k1 = q51;
 let q189 := decide (q179.side = Y.side);
 let q190 := decide (q179.res = Y.res);
 let q191 := [q179.a0, q179.a1] = q52;
 let q192 := [q179.i0, q179.i1] = q53;
 let q193 := q179.L;
 let q194 := List.length q193;
 let q195 := decide (q194 = q54);
 let q196 := decide (q54 ≤ q194);
 let q197 := Z8 0 ((6, 8) :: (4, 7) :: q55) q54 q57 (Z5 q193);
 a = Y2.mk q2.what q2.own q2.off q2.amount q2.expiry q2.secret q2.at' q2.move q2.ours q2.number ∧
 LA [q5, q7, q9, q11, q13, q15, q17, q19, q21, q23, q25, q27, AV.nslice (ZC.mk 1 0 70 0 0) 70 q1 q1] q1 q28 [q5, q7, q9, q11, q13, q15, q17, q19, q21, q23, q25, q27, AV.nslice (ZC.mk 2 0 70 0 0) 70 q1 q1] q1 q28 X ∧
 Za.Inv Zq X ∧
 Y2.Ok a ∧
 (Vw X a → Z0 q29 (Z0 q30 (q31 ∧ Z0 q30 (Z0 q32 (Z0 q33 (Z0 q34 (Z0 q35 (Z0 q36 (Z0 q37 (q38 ∧ Z0 q39 (Z0 q40 (Z0 q41 (Z0 q42 (q146 ∧ Z0 q147 (Z0 q148 (Z0 q149 (Z0 q150 (Z0 q151 (q152 ∧ q153 ∧ Z0 q154 (Z0 q155 (q156 ∧ q157 ∧ Z0 q159 (Z0 q160 (Z0 q159 (q161 ∧ q146 ∧ Z0 q147 (Z0 q148 (Z0 q149 (Z0 q150 (Z0 q151 (q152 ∧ q153 ∧ Z0 q154 (Z0 q155 (q156 ∧ q157 ∧ Z0 q159 (Z0 q160 (Z0 q159 (q161 ∧ Z1) False) False) False) False) False) False) False) False) False) False) False) False) False) False) False) False) False) False) False) False) False) False) False) False) False) False) False) False) False) False) False) False) False) ∧
 (¬Vw X a → Z0 q29 (Z0 q30 (q31 ∧ Z0 q30 (Z0 q32 (Z0 q33 (Z0 q34 (Z0 q35 (Z0 q36 (Z0 q37 (q38 ∧ Z0 q39 (Z0 q40 (Z0 q41 (Z0 q42 (q181 ∧ Z0 q182 (Z0 q183 (Z0 q184 (Z0 q185 (Z0 q186 (q187 ∧ q188 ∧ Z0 q189 (Z0 q190 (q191 ∧ q192 ∧ Z0 q195 (Z0 q196 (Z0 q195 (q197 ∧ q181 ∧ Z0 q182 (Z0 q183 (Z0 q184 (Z0 q185 (Z0 q186 (q187 ∧ q188 ∧ Z0 q189 (Z0 q190 (q191 ∧ q192 ∧ Z0 q195 (Z0 q196 (Z0 q195 (q197 ∧ Z1) False) False) False) False) False) False) False) False) False) False) False) False) False) False) False) False) False) False) False) False) False) False) False) False) False) False) False) False) False) False) False) False) False))
 False)
 (Z0 q32 (Z0 q33 (Z0 q34 (Z0 q35 (Z0 q36 (Z0 q37 (q38 ∧ Z0 q39 (Z0 q40 (Z0 q41 (Z0 q42 (q58 ∧ Z0 q59 (Z0 q60 (Z0 q61 (Z0 q62 (Z0 q63 (q64 ∧ q65 ∧ Z0 q66 (Z0 q67 (q68 ∧ q69 ∧ Z0 q70 (Z0 q71 (Z0 q70 (q72 ∧ q58 ∧ Z0 q59 (Z0 q60 (Z0 q61 (Z0 q62 (Z0 q63 (q64 ∧ q65 ∧ Z0 q66 (Z0 q67 (q68 ∧ q69 ∧ Z0 q70 (Z0 q71 (Z0 q70 (q72 ∧ Z2) False) False) False) False) False) False) False) False) False) False) False) False) False) False) False) False) False) False) False) False) False) False) False) False) False) False) False) False) False) False)) (by kernel_rfl) ?_
 conv => zeta
 try simp only [Zi]
 try simp only [Zj]
 try simp only [Zk]
 try simp only [Zl]
 try simp only [Zm]
 try simp only [Zh]
 try simp only [Int.toNat_natCast, Nat.zero_add, true_and, and_true, Nat.le_refl]
 refine ⟨fun hc => ?_, fun hc => ?_⟩
 ·have hlt : i < n := by omega
  rw [hx hlt]
  have hwr : i64.wrap ((i : Int) + 1) = ((i + 1 : Nat) : Int) := by rw [w64 (by omega)]; omega
  have hY := hY hlt
  refine ⟨by omega, fun _ _ => trivial, fun _ _ => trivial, X, a, rfl, ⟨rfl, rfl, rfl, rfl, rfl, rfl⟩, hI, ha hlt, fun hk => ?_, fun hk => ?_⟩
  ·rw [ZbM hk] at hY
   subst hY
   repeat' first
    | exact hwr
    | exact hZ1 hlt
    | (intro _ _; trivial)
    | apply And.intro
    | rfl
    | omega
    | exact Zn fun _ _ => rfl
  ·rw [← hY]
   repeat' first
    | exact hwr
    | exact hZ1 hlt
    | (intro _ _; trivial)
    | apply And.intro
    | rfl
    | omega
    | exact Zn fun _ _ => rfl
 ·repeat' first
   | exact hZ2 (by omega)
   | apply And.intro
   | rfl
   | omega
   | exact Zn fun _ _ => rfl
def lvQ (X : Za) (many : Int) : List (Nat × Blk) := [(9, .rows 70 X.L.length (Z5 X.L)), (8, .flat [slH 9 X.L.length]), (6, .rows 70 X.L.length (Z5 X.L)), (5, .flat (X.c (slH 6 X.L.length))), (2, .flat [.bool false]), (0, .flat [.int .i64 many])]
def ZbO : Y7 := [(4, pt 0), (6, pt 2), (8, .int .i64 0), (9, pt 5), (12, .func (.func 45) [] [pt 8])]
noncomputable def lvR (X : Za) (many : Int) (b c : Nat) (ls : LoopState) (tu : Int) (i : Nat) (ex : List (Nat × Blk)) : St := ⟨17, [(0, .yield (c + 1)), (5, slH 9 X.L.length), (6, .int .i64 X.L.length), (7, .int .i64 i)], ⟨c + 2, (c + 1, .loop ⟨ls, none, 3, 115, ZbO ++ [(13, pt 7), (14, pt b)], [61], Xn, Xo, c⟩) :: (c, .defd) :: (b, .flat [.int .i64 i]) :: (7, .flat [.int .i64 tu]) :: (ex ++ lvQ X many)⟩, []⟩
noncomputable def lvX (X : Za) (many : Int) (b c : Nat) (ls : LoopState) (pe : Option Code) (tu n : Int) (ex : List (Nat × Blk)) : St := ⟨17, [(0, .yield (c + 1))], ⟨c + 2, (c + 1, .loop ⟨ls, pe, 3, 115, ZbO ++ [(13, pt 7), (14, pt b)], [61], Xn, Xo, c⟩) :: (c, .defd) :: (b, .flat [.int .i64 n]) :: (7, .flat [.int .i64 tu]) :: (ex ++ lvQ X many)⟩, []⟩
theorem Zhf (X : Za) (many : Int) (N : Nat) (ls : LoopState) (pe : Option Code) (tu ne : Int) (i : Nat) (x : Z6) (Z1 Z2 : Prop) (hN : X.L.length = N) (hl : N ≤ 16) (hi : i ≤ N) (hxx : i < N → X.L.getD i Zc = x) (hk : i < N → x.Ok) (hx : i = N → (ls = .ready ∧ pe = none ∧ ne = i) ∧ Z2) (hbk : i < N → tu = 0 → (i : Int) + 1 ≥ many → (ls = .done ∧ pe = some (.exit 4) ∧ ne = (i : Int) + 1) ∧ Z2) (hgo : i < N → (tu = 0 → (i : Int) + 1 < many) → Z1) :
  ZI G0 20 45 0 13 (lvR X many 10 11 .ready tu i []) (rdM 13 0 9 (lvR X many 10 11 .ready tu (i + 1) []) (lvX X many 10 11 ls pe tu ne []) Z5Q Z5Q Z1 Z2 False False) := by
 refine @Eq.mpr _ (let q1 := X.L;
 let q2 := List.length q1;
 let q3 := (↑q2 : Int);
 let q4 := decide (0 ≤ (↑i : Int) ∧ (↑i : Int) < q3);
 let q5 := 0 + Int.toNat (↑i : Int);
 let q6 := (3 : FuncId) = 3 ∧ (115 : Nat) = 115 ∧ [(61 : Nat)] = [(61 : Nat)] ∧ Xn = Xn ∧ Xo = Xo;
 let q7 := decide (tu = tu);
 let q8 := decide (q2 = q2);
 let q9 := Z5 q1;
 let q10 := Z8 13 [] q2 q9 q9;
 let q11 := decide (q2 ≤ q2);
 let q12 := X.t;
 let q13 := q12.fund;
 let q14 := q13 = q13;
 let q15 := q12.index;
 let q16 := decide (q15 = q15);
 let q17 := q12.cap;
 let q18 := decide (q17 = q17);
 let q19 := q12.dust;
 let q20 := decide (q19 = q19);
 let q21 := q12.fee;
 let q22 := decide (q21 = q21);
 let q23 := q12.delay;
 let q24 := decide (q23 = q23);
 let q25 := q12.k0;
 let q26 := q25 = q25;
 let q27 := q12.k1;
 let q28 := q27 = q27;
 let q29 := decide (X.side = X.side);
 let q30 := decide (X.res = X.res);
 let q31 := [X.a0, X.a1];
 let q32 := q31 = q31;
 let q33 := [X.i0, X.i1];
 let q34 := q33 = q33;
 let q35 := decide (many = many);
 let q36 := Z0 q7 (Z0 q8 (q10 ∧ Z0 q8 (Z0 q11 (Z0 q8 (q10 ∧ q14 ∧ Z0 q16 (Z0 q18 (Z0 q20 (Z0 q22 (Z0 q24 (q26 ∧ q28 ∧ Z0 q29 (Z0 q30 (q32 ∧ q34 ∧ Z0 q8 (Z0 q11 (Z0 q35 Z2 False) False) False) False) False) False) False) False) False) False) False) False) False) False) False;
 let q37 := Z0 (decide ((↑i : Int) = ne)) q36 False;
 let q38 := (LoopState.done = ls ∧ some Code.ret = pe ∧ q6) ∧ q37;
 let q39 := List.getD q1 q5 Zc;
 let q40 := q39.hash;
 let q41 := q39.secret;
 let q42 := q39.own;
 let q43 := q39.id;
 let q44 := q39.amount;
 let q45 := q39.expiry;
 let q46 := q39.stage;
 let q47 := q39.fin;
 let q48 := wrap i64 ((↑i : Int) + 1);
 let q49 := decide (q48 = (↑(i + 1) : Int));
 let q50 := Z0 q8 (Z0 q11 (Z0 (decide (q3 = q3)) (Z0 q49 ((LoopState.ready = LoopState.ready ∧ (none : Option Code) = none ∧ q6) ∧ Z0 q49 (Z0 q7 (Z0 q8 (q10 ∧ Z0 q8 (Z0 q11 (Z0 q8 (q10 ∧ q14 ∧ Z0 q16 (Z0 q18 (Z0 q20 (Z0 q22 (Z0 q24 (q26 ∧ q28 ∧ Z0 q29 (Z0 q30 (q32 ∧ q34 ∧ Z0 q8 (Z0 q11 (Z0 q35 Z1 False) False) False) False) False) False) False) False) False) False) False) False) False) False) False) False) False) False) False) False;
 Z0 (decide ((↑i : Int) < q3)) (Z0 q4 (Z0 (decide (q5 < q2)) (Z0 (decide ((↑i : Int) ≥ q3)) q38 (Z0 q4 (Z0 (decide (q5 < q2)) (Z0 (decide (List.length q40 = 32 ∧ List.length q40 = 32)) (Z0 (decide (List.length q41 = 32 ∧ List.length q41 = 32)) (Z0 (!(q42 == q42 && (q43 == q43 && (q44 == q44 && (q40 == q40 && (q45 == q45 && (q46 == q46 && (q47 == q47 && q41 == q41)))))))) q38 (Z0 (tu == 0) (Z0 (decide (q48 ≥ many)) ((LoopState.done = ls ∧ some (Code.exit 4) = pe ∧ q6) ∧ Z0 (decide (q48 = ne)) q36 False) q50) q50)) False) False) False) False)) False) False) ((LoopState.ready = ls ∧ none = pe ∧ q6) ∧ q37)) (by kernel_rfl) ?_
 conv => zeta
 try simp only [Zi]
 try simp only [Zj]
 try simp only [Zk]
 try simp only [Zl]
 try simp only [Zm]
 try simp only [Zh]
 try simp only [Int.toNat_natCast, Nat.zero_add, true_and, and_true, Nat.le_refl]
 subst hN
 have hR : ∀ k τ, Z8 k τ X.L.length (Z5 X.L) (Z5 X.L) := fun k τ => Zn fun _ _ => rfl
 refine ⟨fun hlt => ?_, fun hge => ?_⟩
 ·have hlt' : i < X.L.length := by omega
  rw [hxx hlt']
  have hk := hk hlt'
  have hwi : i64.wrap ((i : Int) + 1) = ((i + 1 : Nat) : Int) := by rw [w64 (by omega)]; omega
  rw [hwi]
  refine ⟨⟨by omega, hlt⟩, hlt', fun h => absurd h (by omega), fun _ => ⟨⟨by omega, hlt⟩, hlt', ⟨hk.hash, hk.hash⟩, ⟨hk.secret, hk.secret⟩, fun h => absurd h (by simp), fun _ => ⟨fun h0 => ⟨fun hm => ?_, fun hm => ?_⟩, fun h0 => ?_⟩⟩⟩
  ·obtain ⟨⟨x1, x2, x3⟩, hz⟩ := hbk hlt' (by simpa using h0) (by omega)
   exact ⟨⟨x1.symm, x2.symm⟩, by omega, hR _ _, hR _ _, hz⟩
  ·exact ⟨rfl, rfl, hR _ _, hR _ _, hgo hlt' fun _ => by omega⟩
  ·exact ⟨rfl, rfl, hR _ _, hR _ _, hgo hlt' fun h => by rw [h] at h0; simp at h0⟩
 ·obtain ⟨⟨x1, x2, x3⟩, hz⟩ := hx (by omega)
  exact ⟨⟨x1.symm, x2.symm⟩, x3.symm, hR _ _, hR _ _, hz⟩
theorem Zid (X : Za) (many : Int) (N : Nat) (ls : LoopState) (pe : Option Code) (tu ne : Int) (i : Nat) (x : Z6) (Z1 Z2 : Prop) (hN : X.L.length = N) (hl : N ≤ 16) (hi : i ≤ N) (hxx : i < N → X.L.getD i Zc = x) (hk : i < N → x.Ok) (hx : i = N → (ls = .ready ∧ pe = none ∧ ne = i) ∧ Z2) (hbk : i < N → tu = 0 → (i : Int) + 1 ≥ many → (ls = .done ∧ pe = some (.exit 4) ∧ ne = (i : Int) + 1) ∧ Z2) (hgo : i < N → (tu = 0 → (i : Int) + 1 < many) → Z1) :
  ZI G0 20 45 0 14 (lvR X many 11 12 .ready tu i [(10, .defd)]) (rdM 14 0 9 (lvR X many 11 12 .ready tu (i + 1) [(10, .defd)]) (lvX X many 11 12 ls pe tu ne [(10, .defd)]) Z5Q Z5Q Z1 Z2 False False) := by
 refine @Eq.mpr _ (let q1 := X.L;
 let q2 := List.length q1;
 let q3 := (↑q2 : Int);
 let q4 := decide (0 ≤ (↑i : Int) ∧ (↑i : Int) < q3);
 let q5 := 0 + Int.toNat (↑i : Int);
 let q6 := (3 : FuncId) = 3 ∧ (115 : Nat) = 115 ∧ [(61 : Nat)] = [(61 : Nat)] ∧ Xn = Xn ∧ Xo = Xo;
 let q7 := decide (tu = tu);
 let q8 := decide (q2 = q2);
 let q9 := Z5 q1;
 let q10 := Z8 14 [] q2 q9 q9;
 let q11 := decide (q2 ≤ q2);
 let q12 := X.t;
 let q13 := q12.fund;
 let q14 := q13 = q13;
 let q15 := q12.index;
 let q16 := decide (q15 = q15);
 let q17 := q12.cap;
 let q18 := decide (q17 = q17);
 let q19 := q12.dust;
 let q20 := decide (q19 = q19);
 let q21 := q12.fee;
 let q22 := decide (q21 = q21);
 let q23 := q12.delay;
 let q24 := decide (q23 = q23);
 let q25 := q12.k0;
 let q26 := q25 = q25;
 let q27 := q12.k1;
 let q28 := q27 = q27;
 let q29 := decide (X.side = X.side);
 let q30 := decide (X.res = X.res);
 let q31 := [X.a0, X.a1];
 let q32 := q31 = q31;
 let q33 := [X.i0, X.i1];
 let q34 := q33 = q33;
 let q35 := decide (many = many);
 let q36 := Z0 q7 (Z0 q8 (q10 ∧ Z0 q8 (Z0 q11 (Z0 q8 (q10 ∧ q14 ∧ Z0 q16 (Z0 q18 (Z0 q20 (Z0 q22 (Z0 q24 (q26 ∧ q28 ∧ Z0 q29 (Z0 q30 (q32 ∧ q34 ∧ Z0 q8 (Z0 q11 (Z0 q35 Z2 False) False) False) False) False) False) False) False) False) False) False) False) False) False) False;
 let q37 := Z0 (decide ((↑i : Int) = ne)) q36 False;
 let q38 := (LoopState.done = ls ∧ some Code.ret = pe ∧ q6) ∧ q37;
 let q39 := List.getD q1 q5 Zc;
 let q40 := q39.hash;
 let q41 := q39.secret;
 let q42 := q39.own;
 let q43 := q39.id;
 let q44 := q39.amount;
 let q45 := q39.expiry;
 let q46 := q39.stage;
 let q47 := q39.fin;
 let q48 := wrap i64 ((↑i : Int) + 1);
 let q49 := decide (q48 = (↑(i + 1) : Int));
 let q50 := Z0 q8 (Z0 q11 (Z0 (decide (q3 = q3)) (Z0 q49 ((LoopState.ready = LoopState.ready ∧ (none : Option Code) = none ∧ q6) ∧ Z0 q49 (Z0 q7 (Z0 q8 (q10 ∧ Z0 q8 (Z0 q11 (Z0 q8 (q10 ∧ q14 ∧ Z0 q16 (Z0 q18 (Z0 q20 (Z0 q22 (Z0 q24 (q26 ∧ q28 ∧ Z0 q29 (Z0 q30 (q32 ∧ q34 ∧ Z0 q8 (Z0 q11 (Z0 q35 Z1 False) False) False) False) False) False) False) False) False) False) False) False) False) False) False) False) False) False) False) False;
 Z0 (decide ((↑i : Int) < q3)) (Z0 q4 (Z0 (decide (q5 < q2)) (Z0 (decide ((↑i : Int) ≥ q3)) q38 (Z0 q4 (Z0 (decide (q5 < q2)) (Z0 (decide (List.length q40 = 32 ∧ List.length q40 = 32)) (Z0 (decide (List.length q41 = 32 ∧ List.length q41 = 32)) (Z0 (!(q42 == q42 && (q43 == q43 && (q44 == q44 && (q40 == q40 && (q45 == q45 && (q46 == q46 && (q47 == q47 && q41 == q41)))))))) q38 (Z0 (tu == 0) (Z0 (decide (q48 ≥ many)) ((LoopState.done = ls ∧ some (Code.exit 4) = pe ∧ q6) ∧ Z0 (decide (q48 = ne)) q36 False) q50) q50)) False) False) False) False)) False) False) ((LoopState.ready = ls ∧ none = pe ∧ q6) ∧ q37)) (by kernel_rfl) ?_
 conv => zeta
 try simp only [Zi]
 try simp only [Zj]
 try simp only [Zk]
 try simp only [Zl]
 try simp only [Zm]
 try simp only [Zh]
 try simp only [Int.toNat_natCast, Nat.zero_add, true_and, and_true, Nat.le_refl]
 subst hN
 have hR : ∀ k τ, Z8 k τ X.L.length (Z5 X.L) (Z5 X.L) := fun k τ => Zn fun _ _ => rfl
 refine ⟨fun hlt => ?_, fun hge => ?_⟩
 ·have hlt' : i < X.L.length := by omega
  rw [hxx hlt']
  have hk := hk hlt'
  have hwi : i64.wrap ((i : Int) + 1) = ((i + 1 : Nat) : Int) := by rw [w64 (by omega)]; omega
  rw [hwi]
  refine ⟨⟨by omega, hlt⟩, hlt', fun h => absurd h (by omega), fun _ => ⟨⟨by omega, hlt⟩, hlt', ⟨hk.hash, hk.hash⟩, ⟨hk.secret, hk.secret⟩, fun h => absurd h (by simp), fun _ => ⟨fun h0 => ⟨fun hm => ?_, fun hm => ?_⟩, fun h0 => ?_⟩⟩⟩
  ·obtain ⟨⟨x1, x2, x3⟩, hz⟩ := hbk hlt' (by simpa using h0) (by omega)
   exact ⟨⟨x1.symm, x2.symm⟩, by omega, hR _ _, hR _ _, hz⟩
  ·exact ⟨rfl, rfl, hR _ _, hR _ _, hgo hlt' fun _ => by omega⟩
  ·exact ⟨rfl, rfl, hR _ _, hR _ _, hgo hlt' fun h => by rw [h] at h0; simp at h0⟩
 ·obtain ⟨⟨x1, x2, x3⟩, hz⟩ := hx (by omega)
  exact ⟨⟨x1.symm, x2.symm⟩, x3.symm, hR _ _, hR _ _, hz⟩
theorem Zfv {p : Nat → Prop} {n : Nat} (h : p n) : ∃ m, p m ∧ m ≤ n ∧ ∀ j, j < m → ¬ p j := by
 induction n using Nat.strongRecOn with
 | ind n ih =>
  by_cases hj : ∃ j, j < n ∧ p j
  ·obtain ⟨j, hj, hp⟩ := hj
   obtain ⟨m, h1, h2, h3⟩ := ih j hj hp
   exact ⟨m, h1, by omega, h3⟩
  ·exact ⟨n, h, Nat.le_refl _, fun j hj' hp => hj ⟨j, hj', hp⟩⟩
noncomputable def Z9r (X : Za) (many : Int) (ls : LoopState) (pe : Option Code) (tu ne : Int) (J : Nat) (C : Prop) : Nat → St → KE → Prop := goM 13 (lvR X many 10 11 .ready tu 0 []) C (Yv 0 J 9 (fun i => i < J) (fun i => i = J) (fun _ => False) (fun _ => False) (fun _ => lvX X many 10 11 ls pe tu ne []) (fun _ => Z5Q) (fun _ => Z5Q))
noncomputable def Z7i (X : Za) (many : Int) (ls : LoopState) (pe : Option Code) (tu ne : Int) (J : Nat) (C : Prop) : Nat → St → KE → Prop := goM 14 (lvR X many 11 12 .ready tu 0 [(10, .defd)]) C (Yv 0 J 9 (fun i => i < J) (fun i => i = J) (fun _ => False) (fun _ => False) (fun _ => lvX X many 11 12 ls pe tu ne [(10, .defd)]) (fun _ => Z5Q) (fun _ => Z5Q))
def Z2S (X : Za) (N : Nat) : Prop := X.L.length = N ∧ N ≤ 16 ∧ ∀ h ∈ X.L, h.Ok
theorem Zfw (X : Za) (many : Int) (N : Nat) (tu : Int) (hA : ∀ i, i < N → tu = 0 → (i : Int) + 1 < many) : (G0.withL 45 0 (Z9r X many .ready none tu N N (Z2S X N))).Ok := by
 unfold Z9r
 refine Zg.withGoM (N := 20) (S := fun i => lvR X many 10 11 .ready tu i []) Zw (by kernel_rfl) fun hC => ⟨rfl, fun i hi hgo => ?_⟩
 obtain ⟨h1, h2, h3⟩ := hC
 exact Zhf X many N .ready none tu _ i (X.L.getD i Zc) _ _ h1 h2 hi (fun _ => rfl) (fun h => h3 _ (ZK (by omega))) (fun h => ⟨⟨rfl, rfl, by rw [h]⟩, h⟩) (fun h hq hm => absurd (hA i h hq) (by omega)) (fun h _ => ⟨h, h⟩)
theorem Zfx (X : Za) (many : Int) (N J : Nat) (hJ : J < N) (hm : (J : Int) + 1 ≥ many) (hA : ∀ i, i < J → (i : Int) + 1 < many) : (G0.withL 45 0 (Z9r X many .done (some (.exit 4)) 0 ((J : Int) + 1) J (Z2S X N))).Ok := by
 unfold Z9r
 refine Zg.withGoM (N := 20) (S := fun i => lvR X many 10 11 .ready 0 i []) Zw (by kernel_rfl) fun hC => ⟨rfl, fun i hi hgo => ?_⟩
 obtain ⟨h1, h2, h3⟩ := hC
 refine Zhf X many N .done (some (.exit 4)) 0 _ i (X.L.getD i Zc) _ _ h1 h2 (by omega) (fun _ => rfl) (fun h => h3 _ (ZK (by omega))) (fun h => absurd h (by omega)) (fun h hq hm' => ?_) (fun h h' => ?_)
 ·have : i = J := Classical.byContradiction fun hne => absurd (hA i (by omega)) (by omega)
  subst this
  exact ⟨⟨rfl, rfl, rfl⟩, rfl⟩
 ·have hne : i ≠ J := fun e => by subst e; have := h' rfl; omega
  exact ⟨by omega, by omega⟩
theorem Zfy (X : Za) (many : Int) (N : Nat) (tu : Int) (hA : ∀ i, i < N → tu = 0 → (i : Int) + 1 < many) : (G0.withL 45 0 (Z7i X many .ready none tu N N (Z2S X N))).Ok := by
 unfold Z7i
 refine Zg.withGoM (N := 20) (S := fun i => lvR X many 11 12 .ready tu i [(10, .defd)]) Zw (by kernel_rfl) fun hC => ⟨rfl, fun i hi hgo => ?_⟩
 obtain ⟨h1, h2, h3⟩ := hC
 exact Zid X many N .ready none tu _ i (X.L.getD i Zc) _ _ h1 h2 hi (fun _ => rfl) (fun h => h3 _ (ZK (by omega))) (fun h => ⟨⟨rfl, rfl, by rw [h]⟩, h⟩) (fun h hq hm => absurd (hA i h hq) (by omega)) (fun h _ => ⟨h, h⟩)
def Zie (s : St) : Bool := match s.h.get 7 with
 | some (.flat [.int _ n]) => decide (n = 0)
 | _ => false
noncomputable def Z0B (L0 L1 : Nat → St → KE → Prop) : Zg := G0.withL 45 0 (orL Zie L0 L1)
def lvT (X : Za) (many : Int) (i : Nat) : St := match i with
 | 0 => ⟨115, (13, pt 7) :: ZbO, ⟨10, (7, .flat [.int .i64 0]) :: lvQ X many⟩, []⟩
 | 1 => ⟨115, (13, pt 7) :: ZbO, ⟨11, (10, .defd) :: (7, .flat [.int .i64 1]) :: lvQ X many⟩, [.mark 10]⟩
 | _ => ⟨115, (13, pt 7) :: ZbO, ⟨12, (11, .defd) :: (10, .defd) :: (7, .flat [.int .i64 2]) :: lvQ X many⟩, [.mark 11, .mark 10]⟩
def Z9s : St := ⟨115, [(6, pt 2), (8, .int .i64 0)], ⟨12, [(11, .defd), (10, .defd), (2, .flat [.bool false])]⟩, [.mark 11, .mark 10]⟩
def Z9t (many N : Int) : Int := if (if many > 1 then many else 1) < N then (if many > 1 then many else 1) else N
theorem Zfz (X : Za) (many : Int) (N : Nat) (L1 : Nat → St → KE → Prop) (ne : Int) (J : Nat) (C Z1 Z2 Z3 Z4 : Prop) (hC : C) (hN : X.L.length = N) (hne : ne = Z9t many N) (h1 : Z1) :
  ZI (Z0B (Z9r X many .ready none 0 ne J C) L1) 20 3 2 0 (lvT X many 0) (rdM 0 2 9 (lvT X many 1) Z9s lvN lvN Z1 Z2 Z3 Z4) := by
 refine @Eq.mpr _ (let q1 := List.length X.L;
 let q2 := decide (q1 = q1);
 let q3 := decide (q1 ≤ q1);
 let q4 := ↑q1;
 let q5 := Z5 X.L;
 let q6 := Z8 13 [] q1 q5 q5;
 let q7 := X.t;
 let q8 := q7.fund;
 let q9 := q8 = q8;
 let q10 := q7.index;
 let q11 := decide (q10 = q10);
 let q12 := q7.cap;
 let q13 := decide (q12 = q12);
 let q14 := q7.dust;
 let q15 := decide (q14 = q14);
 let q16 := q7.fee;
 let q17 := decide (q16 = q16);
 let q18 := q7.delay;
 let q19 := decide (q18 = q18);
 let q20 := q7.k0;
 let q21 := q20 = q20;
 let q22 := q7.k1;
 let q23 := q22 = q22;
 let q24 := decide (X.side = X.side);
 let q25 := decide (X.res = X.res);
 let q26 := [X.a0, X.a1];
 let q27 := q26 = q26;
 let q28 := [X.i0, X.i1];
 let q29 := q28 = q28;
 let q30 := decide (many = many);
 let q31 := if many > 1 then many else 1;
 let q32 := Z8 0 [(6, 6), (9, 9), (10, 11), (8, 8), (5, 5), (2, 2), (0, 0), (7, 13)] q1 q5 q5;
 Z0 q2 (Z0 q3 (Z0 (decide (q4 = q4)) ((LoopState.ready = LoopState.ready ∧ (none : Option Code) = none ∧ (3 : FuncId) = 3 ∧ (115 : Nat) = 115 ∧ [(61 : Nat)] = [(61 : Nat)] ∧ Xn = Xn ∧ Xo = Xo) ∧ Z0 q2 (q6 ∧ Z0 q2 (Z0 q3 (Z0 q2 (q6 ∧ q9 ∧ Z0 q11 (Z0 q13 (Z0 q15 (Z0 q17 (Z0 q19 (q21 ∧ q23 ∧ Z0 q24 (Z0 q25 (q27 ∧ q29 ∧ Z0 q2 (Z0 q3 (Z0 q30 (C ∧ ∀ (i : Nat), i ≤ J → (∀ (j : Nat), j < i → (fun (i : Nat) => i < J) j) → (i = J → Z0 (ne != if q31 < q4 then q31 else q4) False (Z0 q2 (q32 ∧ Z0 q2 (Z0 q3 (Z0 q2 (q32 ∧ q9 ∧ Z0 q11 (Z0 q13 (Z0 q15 (Z0 q17 (Z0 q19 (q21 ∧ q23 ∧ Z0 q24 (Z0 q25 (q27 ∧ q29 ∧ Z0 q2 (Z0 q3 (Z0 q30 Z1 False) False) False) False) False) False) False) False) False) False) False) False) False) False)) ∧ (False → False) ∧ (False → False)) False) False) False) False) False) False) False) False) False) False) False) False) False) False) False) False) False) (by kernel_rfl) ?_
 conv => zeta
 try simp only [Zi]
 try simp only [Zj]
 try simp only [Zk]
 try simp only [Zl]
 try simp only [Zm]
 try simp only [Zh]
 try simp only [Int.toNat_natCast, Nat.zero_add, true_and, and_true, Nat.le_refl]
 subst hN
 have hR : ∀ k τ, Z8 k τ X.L.length (Z5 X.L) (Z5 X.L) := fun k τ => Zn fun _ _ => rfl
 refine ⟨hR _ _, hR _ _, hC, fun i hi _ => ⟨fun he => ⟨?_, hR _ _, hR _ _, h1⟩, fun h => h, fun h => h⟩⟩
 rw [hne]
 unfold Z9t
 exact bne_self_eq_false _
theorem ZfA (X : Za) (many : Int) (N : Nat) (L1 : Nat → St → KE → Prop) (ne : Int) (J : Nat) (C Z1 Z2 Z3 Z4 : Prop) (hC : C) (hN : X.L.length = N) (hne : ne = Z9t many N) (h1 : Z1) :
  ZI (Z0B (Z9r X many .done (some (.exit 4)) 0 ne J C) L1) 20 3 2 0 (lvT X many 0) (rdM 0 2 9 (lvT X many 1) Z9s lvN lvN Z1 Z2 Z3 Z4) := by
 refine @Eq.mpr _ (let q1 := List.length X.L;
 let q2 := decide (q1 = q1);
 let q3 := decide (q1 ≤ q1);
 let q4 := ↑q1;
 let q5 := Z5 X.L;
 let q6 := Z8 13 [] q1 q5 q5;
 let q7 := X.t;
 let q8 := q7.fund;
 let q9 := q8 = q8;
 let q10 := q7.index;
 let q11 := decide (q10 = q10);
 let q12 := q7.cap;
 let q13 := decide (q12 = q12);
 let q14 := q7.dust;
 let q15 := decide (q14 = q14);
 let q16 := q7.fee;
 let q17 := decide (q16 = q16);
 let q18 := q7.delay;
 let q19 := decide (q18 = q18);
 let q20 := q7.k0;
 let q21 := q20 = q20;
 let q22 := q7.k1;
 let q23 := q22 = q22;
 let q24 := decide (X.side = X.side);
 let q25 := decide (X.res = X.res);
 let q26 := [X.a0, X.a1];
 let q27 := q26 = q26;
 let q28 := [X.i0, X.i1];
 let q29 := q28 = q28;
 let q30 := decide (many = many);
 let q31 := if many > 1 then many else 1;
 let q32 := Z8 0 [(6, 6), (9, 9), (10, 11), (8, 8), (5, 5), (2, 2), (0, 0), (7, 13)] q1 q5 q5;
 Z0 q2 (Z0 q3 (Z0 (decide (q4 = q4)) ((LoopState.ready = LoopState.ready ∧ (none : Option Code) = none ∧ (3 : FuncId) = 3 ∧ (115 : Nat) = 115 ∧ [(61 : Nat)] = [(61 : Nat)] ∧ Xn = Xn ∧ Xo = Xo) ∧ Z0 q2 (q6 ∧ Z0 q2 (Z0 q3 (Z0 q2 (q6 ∧ q9 ∧ Z0 q11 (Z0 q13 (Z0 q15 (Z0 q17 (Z0 q19 (q21 ∧ q23 ∧ Z0 q24 (Z0 q25 (q27 ∧ q29 ∧ Z0 q2 (Z0 q3 (Z0 q30 (C ∧ ∀ (i : Nat), i ≤ J → (∀ (j : Nat), j < i → (fun (i : Nat) => i < J) j) → (i = J → Z0 (ne != if q31 < q4 then q31 else q4) False (Z0 q2 (q32 ∧ Z0 q2 (Z0 q3 (Z0 q2 (q32 ∧ q9 ∧ Z0 q11 (Z0 q13 (Z0 q15 (Z0 q17 (Z0 q19 (q21 ∧ q23 ∧ Z0 q24 (Z0 q25 (q27 ∧ q29 ∧ Z0 q2 (Z0 q3 (Z0 q30 Z1 False) False) False) False) False) False) False) False) False) False) False) False) False) False)) ∧ (False → False) ∧ (False → False)) False) False) False) False) False) False) False) False) False) False) False) False) False) False) False) False) False) (by kernel_rfl) ?_
 conv => zeta
 try simp only [Zi]
 try simp only [Zj]
 try simp only [Zk]
 try simp only [Zl]
 try simp only [Zm]
 try simp only [Zh]
 try simp only [Int.toNat_natCast, Nat.zero_add, true_and, and_true, Nat.le_refl]
 subst hN
 have hR : ∀ k τ, Z8 k τ X.L.length (Z5 X.L) (Z5 X.L) := fun k τ => Zn fun _ _ => rfl
 refine ⟨hR _ _, hR _ _, hC, fun i hi _ => ⟨fun he => ⟨?_, hR _ _, hR _ _, h1⟩, fun h => h, fun h => h⟩⟩
 rw [hne]
 unfold Z9t
 exact bne_self_eq_false _
theorem Zhg (X : Za) (many : Int) (N : Nat) (L0 : Nat → St → KE → Prop) (ne : Int) (J : Nat) (C Z1 Z2 Z3 Z4 : Prop) (hC : C) (hN : X.L.length = N) (hne : ne = N) (h1 : Z1) :
  ZI (Z0B L0 (Z7i X many .ready none 1 ne J C)) 20 3 2 0 (lvT X many 1) (rdM 0 2 9 (lvT X many 2) Z9s lvN lvN Z1 Z2 Z3 Z4) := by
 refine @Eq.mpr _ (let q1 := List.length X.L;
 let q2 := decide (q1 = q1);
 let q3 := decide (q1 ≤ q1);
 let q4 := ↑q1;
 let q5 := Z5 X.L;
 let q6 := Z8 14 [] q1 q5 q5;
 let q7 := X.t;
 let q8 := q7.fund;
 let q9 := q8 = q8;
 let q10 := q7.index;
 let q11 := decide (q10 = q10);
 let q12 := q7.cap;
 let q13 := decide (q12 = q12);
 let q14 := q7.dust;
 let q15 := decide (q14 = q14);
 let q16 := q7.fee;
 let q17 := decide (q16 = q16);
 let q18 := q7.delay;
 let q19 := decide (q18 = q18);
 let q20 := q7.k0;
 let q21 := q20 = q20;
 let q22 := q7.k1;
 let q23 := q22 = q22;
 let q24 := decide (X.side = X.side);
 let q25 := decide (X.res = X.res);
 let q26 := [X.a0, X.a1];
 let q27 := q26 = q26;
 let q28 := [X.i0, X.i1];
 let q29 := q28 = q28;
 let q30 := decide (many = many);
 let q31 := Z8 0 [(6, 6), (9, 9), (10, 10), (11, 12), (8, 8), (5, 5), (2, 2), (0, 0), (7, 14)] q1 q5 q5;
 Z0 q2 (Z0 q3 (Z0 (decide (q4 = q4)) ((LoopState.ready = LoopState.ready ∧ (none : Option Code) = none ∧ (3 : FuncId) = 3 ∧ (115 : Nat) = 115 ∧ [(61 : Nat)] = [(61 : Nat)] ∧ Xn = Xn ∧ Xo = Xo) ∧ Z0 q2 (q6 ∧ Z0 q2 (Z0 q3 (Z0 q2 (q6 ∧ q9 ∧ Z0 q11 (Z0 q13 (Z0 q15 (Z0 q17 (Z0 q19 (q21 ∧ q23 ∧ Z0 q24 (Z0 q25 (q27 ∧ q29 ∧ Z0 q2 (Z0 q3 (Z0 q30 (C ∧ ∀ (i : Nat), i ≤ J → (∀ (j : Nat), j < i → (fun (i : Nat) => i < J) j) → (i = J → Z0 (ne != q4) False (Z0 q2 (q31 ∧ Z0 q2 (Z0 q3 (Z0 q2 (q31 ∧ q9 ∧ Z0 q11 (Z0 q13 (Z0 q15 (Z0 q17 (Z0 q19 (q21 ∧ q23 ∧ Z0 q24 (Z0 q25 (q27 ∧ q29 ∧ Z0 q2 (Z0 q3 (Z0 q30 Z1 False) False) False) False) False) False) False) False) False) False) False) False) False) False)) ∧ (False → False) ∧ (False → False)) False) False) False) False) False) False) False) False) False) False) False) False) False) False) False) False) False) (by kernel_rfl) ?_
 conv => zeta
 try simp only [Zi]
 try simp only [Zj]
 try simp only [Zk]
 try simp only [Zl]
 try simp only [Zm]
 try simp only [Zh]
 try simp only [Int.toNat_natCast, Nat.zero_add, true_and, and_true, Nat.le_refl]
 subst hN
 have hR : ∀ k τ, Z8 k τ X.L.length (Z5 X.L) (Z5 X.L) := fun k τ => Zn fun _ _ => rfl
 refine ⟨hR _ _, hR _ _, hC, fun i hi _ => ⟨fun he => ⟨?_, hR _ _, hR _ _, h1⟩, fun h => h, fun h => h⟩⟩
 rw [hne]
 exact bne_self_eq_false _
theorem Zhh (X : Za) (many : Int) (L0 L1 : Nat → St → KE → Prop) (Z1 Z2 Z3 Z4 : Prop) (h2 : Z2) :
  ZI (Z0B L0 L1) 20 3 2 0 (lvT X many 2) (rdM 0 2 9 (lvT X many 3) Z9s lvN lvN Z1 Z2 Z3 Z4) := by
 refine @Eq.mpr _ (Z2) (by kernel_rfl) ?_
 try simp only [Zi]
 try simp only [Zj]
 try simp only [Zk]
 try simp only [Zl]
 try simp only [Zm]
 try simp only [Zh]
 try simp only [Int.toNat_natCast, Nat.zero_add, true_and, and_true, Nat.le_refl]
 exact h2
def ZbP (X : Za) (many : Int) (N : Nat) : Nat → St → KE → Prop := goM 0 (lvT X many 0) (Z2S X N) (Yv 2 2 9 (fun i => i < 2) (fun i => i = 2) (fun _ => False) (fun _ => False) (fun _ => Z9s) (fun _ => lvN) (fun _ => lvN))
theorem ZdJ (X : Za) (many : Int) (N : Nat) : (G0.withL 3 2 (ZbP X many N)).Ok := by
 have h1 := Zfy X many N 1 (fun i _ h => absurd h (by decide))
 have hmid : ∀ L0 : Nat → St → KE → Prop, (G0.withL 45 0 L0).Ok → (Z2S X N → ZI (Z0B L0 (Z7i X many .ready none 1 N N (Z2S X N))) 20 3 2 0 (lvT X many 0) (rdM 0 2 9 (lvT X many 1) Z9s lvN lvN ((0 : Nat) < 2 ∧ (0 : Nat) < 2) ((0 : Nat) = 2) False False)) → (G0.withL 3 2 (ZbP X many N)).Ok := by
  intro L0 h0 hr
  have hE : (Z0B L0 (Z7i X many .ready none 1 N N (Z2S X N))).Ok := Zg.withL_or Zw h0 h1
  have hG : ((Z0B L0 (Z7i X many .ready none 1 N N (Z2S X N))).withL 3 2 (ZbP X many N)).Ok := by
   unfold ZbP
   refine Zg.withGoM (N := 20) (S := lvT X many) hE (by kernel_rfl) fun hC => ⟨rfl, fun i hi hgo => ?_⟩
   match i, hi with
   | 0, _ => exact hr hC
   | 1, _ => exact Zhg X many N L0 _ _ _ _ _ _ _ hC hC.1 rfl ⟨by omega, by omega⟩
   | 2, _ => exact Zhh X many L0 _ _ _ _ _ rfl
  exact Zg.withL_join (H := (Z0B L0 (Z7i X many .ready none 1 N N (Z2S X N)))) Zw rfl hG
 by_cases hb : ∃ J, J < N ∧ (J : Int) + 1 ≥ many
 ·obtain ⟨J0, hJ0⟩ := hb
  obtain ⟨J, ⟨j1, j2⟩, _, j4⟩ := Zfv (p := fun J => J < N ∧ (J : Int) + 1 ≥ many) hJ0
  have hA : ∀ i, i < J → (i : Int) + 1 < many := fun i hi => Int.not_le.mp fun h => j4 i hi ⟨by omega, h⟩
  refine hmid _ (Zfx X many N J j1 j2 hA) fun hC => ZfA X many N _ _ _ _ _ _ _ _ hC hC.1 ?_ ⟨by omega, by omega⟩
  unfold Z9t
  by_cases h0 : J = 0
  ·subst h0
   split <;> split at * <;> omega
  ·have := hA (J - 1) (by omega)
   split <;> split at * <;> omega
 ·have hA : ∀ i, i < N → (0 : Int) = 0 → (i : Int) + 1 < many := fun i hi _ => Int.not_le.mp fun h => hb ⟨i, hi, h⟩
  refine hmid _ (Zfw X many N 0 hA) fun hC => Zfz X many N _ _ _ _ _ _ _ _ hC hC.1 ?_ ⟨by omega, by omega⟩
  unfold Z9t
  by_cases h0 : N = 0
  ·subst h0
   split <;> split at * <;> omega
  ·have := hA (N - 1) (by omega) rfl
   split <;> split at * <;> omega
noncomputable def Zep (H : List Int → List Int) (X0 X : Za) (A : List Y2) (many : Int) (y : Y2) (n N : Nat) (C : Prop) (E : Nat → St) : Zg := ((ZdH H).withL 3 0 (goM 0 (lvS X0 A many y n 0) C (Yv 0 n 9 (fun i => i < n) (fun i => i = n) (fun _ => False) (fun _ => False) E (fun _ => lvN) (fun _ => lvN)))).withL 3 2 (ZbP X many N)
theorem ZbQ (X0 X : Za) (A : List Y2) (many : Int) (y : Y2) (n N : Nat) : (Zep Zq X0 X A many y n N (Zfu X0 A n) (fun i => lvE (lpX X0 A i) many y)).Ok := by
 have h1 : ((ZdH Zq).withL 3 0 (goM 0 (lvS X0 A many y n 0) (Zfu X0 A n) (Yv 0 n 9 (fun i => i < n) (fun i => i = n) (fun _ => False) (fun _ => False) (fun i => lvE (lpX X0 A i) many y) (fun _ => lvN) (fun _ => lvN)))).Ok :=
  Zg.withGoM (N := 20) (S := fun i => lvS (lpX X0 A i) A many y n i) ZdI (by kernel_rfl) fun hC => ⟨rfl, fun i hi _ => by
   obtain ⟨h1, h2, h3, h4, h5⟩ := hC
   have hk := fun j hj => Z4C h3 h5 j hj
   exact Zic (lpX X0 A i) (lpX X0 A (i + 1)) A many y n i (A.getD i Z5S) Zq _ _ h1 h2 hi (hk i (by omega)).1 (fun _ => rfl) (fun h => h5 _ (by rw [List.getD_eq_getElem?_getD, List.getElem?_eq_getElem (by omega)]; exact List.getElem_mem (by omega))) (fun h => Z5T (by omega)) (fun h => ⟨h, h⟩) (fun h => h)⟩
 exact Zg.withL_join (H := G0) h1 rfl (ZdJ X many N)
def Zhi (n : Int) : List Int := n :: List.replicate 31 0
def tW : Ys := ⟨Zd, 0, 1000, 10, 5, 3, Zhi 1, Zhi 2⟩
theorem Zif (H : List Int → List Int) (X0 X : Za) (A : List Y2) (many : Int) (y : Y2) (n N : Nat) (C : Prop) (LF : Nat → Za) (t : Ys) (ht0 : t = tW) (h0 : X0 = XQ tW 0 50 600 400) (hr : Yo H (XQ tW 0 50 600 400) = true) (ht : tW.Ok) (hC : n ≤ 30 → C) (hX : X = LF n) (hI : n ≤ 30 → X.Inv Zq) (hN : N = X.L.length) (hy : y.Ok) :
  evF (Zep H X0 X A many y n N C fun i => lvE (LF i) many y) 20 3 [.vrows 41 n (Z0A A) n, .int .i64 many, .agg y.c] ⟨0, []⟩ (Yp fun v => v = .bool true) := by
 refine @Eq.mpr _ (let q1 := AV.bool true = AV.bool true;
 let q2 := [(0 : Int), 0, 0, 0, 0, 0, 0, 0, 0, 0, 0, 0, 0, 0, 0, 0, 0, 0, 0, 0, 0, 0, 0, 0, 0, 0, 0, 0, 0, 0, 0];
 let q3 := Ys.mk Zd 0 1000 10 5 3 ((1 : Int) :: q2) ((2 : Int) :: q2);
 let q4 := Ys.Ok q3;
 let q5 := decide (n = n);
 let q6 := decide (many = many);
 let q7 := y.what;
 let q8 := y.own;
 let q9 := y.off;
 let q10 := y.amount;
 let q11 := y.expiry;
 let q12 := y.secret;
 let q13 := y.at';
 let q14 := y.move;
 let q15 := y.ours;
 let q16 := y.number;
 let q17 := XQ q3 0 50 600 400;
 let q18 := q17.t;
 let q19 := X0.t;
 let q20 := q18.fund = q19.fund;
 let q21 := decide (q18.index = q19.index);
 let q22 := decide (q18.cap = q19.cap);
 let q23 := decide (q18.dust = q19.dust);
 let q24 := decide (q18.fee = q19.fee);
 let q25 := decide (q18.delay = q19.delay);
 let q26 := q18.k0 = q19.k0;
 let q27 := q18.k1 = q19.k1;
 let q28 := decide (q17.side = X0.side);
 let q29 := decide (q17.res = X0.res);
 let q30 := [q17.a0, q17.a1] = [X0.a0, X0.a1];
 let q31 := [q17.i0, q17.i1] = [X0.i0, X0.i1];
 let q32 := List.length X0.L;
 let q33 := decide (0 = q32);
 let q34 := decide (q32 = 0);
 let q35 := X.L;
 let q36 := List.length q35;
 let q37 := [(6, 6), (9, 7), (8, 8), (5, 5), (2, 2), (0, 0), (7, 9)];
 let q38 := Z5 q35;
 let q39 := X.t;
 let q40 := (False → False) ∧ (False → False);
 let q41 := [(6, 6), (9, 7), (8, 8), (5, 5), (2, 2), (0, 0), (7, 11)];
 Z0 (decide ((↑n : Int) > 30)) q1
 (q4 ∧
 q4 ∧
 Z0 q5
 (Z0A A = Z0A A ∧
 Z0 q5
 (Z0 q6
 (Z0 (decide (q7 = q7))
 (Z0 (decide (q8 = q8))
 (Z0 (decide (q9 = q9))
 (Z0 (decide (q10 = q10))
 (Z0 (decide (q11 = q11))
 (q12 = q12 ∧
 Z0 (decide (q13 = q13))
 (Z0 (decide (q14 = q14))
 (Z0 (decide (q15 = q15))
 (Z0 (decide (q16 = q16))
 (q20 ∧
 Z0 q21
 (Z0 q22
 (Z0 q23
 (Z0 q24
 (Z0 q25
 (q26 ∧
 q27 ∧
 Z0 q28
 (Z0 q29
 (q30 ∧
 q31 ∧
 Z0 q33
 (Z0 (decide (q32 ≤ 0))
 (Z0 q33
 (Z8 0 [(4, 5), (0, 0), (2, 2), (1, 1), (5, 7), (3, 4)] q32 (Z5 X0.L) (Z5 []) ∧
 q20 ∧
 Z0 q21
 (Z0 q22
 (Z0 q23
 (Z0 q24
 (Z0 q25
 (q26 ∧
 q27 ∧
 Z0 q28
 (Z0 q29
 (q30 ∧
 q31 ∧
 Z0 q34
 (Z0 q34
 (Z0 q34
 (C ∧
 ∀ (i : Nat),
 let q83 := List.length (LF i).L;
 let q84 := decide (0 + q83 ≤ q83);
 let q85 := (LF i).t;
 let q86 := q85.fund;
 let q87 := AV.arr u8 32 q86;
 let q88 := q85.index;
 let q89 := AV.int i64 q88;
 let q90 := q85.cap;
 let q91 := AV.int i64 q90;
 let q92 := q85.dust;
 let q93 := AV.int i64 q92;
 let q94 := q85.fee;
 let q95 := AV.int i64 q94;
 let q96 := q85.delay;
 let q97 := AV.int i64 q96;
 let q98 := q85.k0;
 let q99 := AV.arr u8 32 q98;
 let q100 := q85.k1;
 let q101 := AV.arr u8 32 q100;
 let q102 := AV.int i64 (LF i).side;
 let q103 := AV.int i64 (LF i).res;
 let q104 := [(LF i).a0, (LF i).a1];
 let q105 := AV.arr i64 2 q104;
 let q106 := [(LF i).i0, (LF i).i1];
 let q107 := AV.arr i64 2 q106;
 let q108 := Z5 (LF i).L;
 let q109 := ZT 0 q108;
 let q110 := decide (q83 = q36);
 let q111 := decide (q36 ≤ q83);
 let q112 := q86 = q39.fund ∧ Z0 (decide (q88 = q39.index)) (Z0 (decide (q90 = q39.cap)) (Z0 (decide (q92 = q39.dust)) (Z0 (decide (q94 = q39.fee)) (Z0 (decide (q96 = q39.delay)) (q98 = q39.k0 ∧ q100 = q39.k1 ∧ Z0 (decide ((LF i).side = X.side)) (Z0 (decide ((LF i).res = X.res)) (q104 = [X.a0, X.a1] ∧ q106 = [X.i0, X.i1] ∧ Z0 q110 (Z0 q111 (Z0 q6 ((q36 = N ∧ N ≤ 16 ∧ ∀ (h : Z6), List.Mem h q35 → Z6.Ok h) ∧ ∀ (i : Nat), i ≤ 2 → (∀ (j : Nat), j < i → (fun (i : Nat) => i < 2) j) → (i = 2 → q1) ∧ q40) False) False) False) False) False) False) False) False) False) False;
 i ≤ n →
 (∀ (j : Nat), j < i → (fun (i : Nat) => i < n) j) →
 (i = n →
 Z0 q84
 ((∀ (i : Nat), i < q83 → true = true) ∧
 ∃ (X : Za),
 LV [q87, q89, q91, q93, q95, q97, q99, q101, q102, q103, q105, q107, AV.vrows 70 q83 q109 q83] X ∧
 X.t.cap ≠ 0 ∧
 Z0 q84
 ((∀ (i : Nat), i < q83 → true = true) ∧
 ∃ (L : List Z6),
 let q143 := Z5 L;
 q83 = q83 ∧
 q109 = q143 ∧
 q83 < 1000000 ∧
 (∀ (i : Nat), i < q83 → true = true) ∧
 (∀ (i : Nat), i < q83 → true = true) ∧
 ∃ (X : Za),
 let q145 := decide (List.length X.L = q36);
 let q146 := Z5 X.L;
 ∃ (a : Y2), a = Y2.mk q7 q8 q9 q10 q11 q12 q13 q14 q15 q16 ∧ LA [q87, q89, q91, q93, q95, q97, q99, q101, q102, q103, q105, q107, AV.nslice (ZC.mk 1 0 70 0 0) 70 q83 q83] q83 q108 [q87, q89, q91, q93, q95, q97, q99, q101, q102, q103, q105, q107, AV.nslice (ZC.mk 2 0 70 0 0) 70 q83 q83] q83 q108 X ∧ Za.Inv Zq X ∧ Y2.Ok a ∧ (Vw X a → Z0 q110 (Z8 0 q37 q36 q38 q143 ∧ Z0 q110 (Z0 q111 (Z0 q145 (Z8 0 q37 q36 q38 q146 ∧ q112) False) False) False) False) ∧ (¬Vw X a → Z0 q110 (Z8 0 q41 q36 q38 q143 ∧ Z0 q110 (Z0 q111 (Z0 q145 (Z8 0 q41 q36 q38 q146 ∧ q112) False) False) False) False))
 False)
 False) ∧
 q40)
 False)
 False)
 False)
 False)
 False)
 False)
 False)
 False)
 False)
 False)
 False)
 False)
 False)
 False)
 False)
 False)
 False)
 False)
 False)
 False)
 False)
 False)
 False)
 False)
 False)
 False)
 False)
 False)
 False)
 False)
 False)
 False)) (by kernel_rfl) ?_
 conv => zeta
 try simp only [Zi]
 try simp only [Zj]
 try simp only [Zk]
 try simp only [Zl]
 try simp only [Zm]
 try simp only [Zh]
 try simp only [Int.toNat_natCast, Nat.zero_add, true_and, and_true, Nat.le_refl]
 subst h0
 refine ⟨fun _ => trivial, fun hn => ?_⟩
 have hI := hI (by omega)
 have hC := hC (by omega)
 have hcap := Wh hI.tb
 have hlen := hI.len
 have hOk : Z2S X N := ⟨hN.symm, by omega, hI.ok⟩
 repeat' first
  | exact ht
  | exact hC
  | exact hI
  | exact hy
  | exact hcap
  | exact hOk
  | trivial
  | exact fun h => h
  | (intro i hi hg; refine ⟨fun he => ?_, ?_⟩; subst he; rw [← hX])
  | intro _
  | refine Exists.intro X (And.intro (.a rfl) ?_)
  | refine Exists.intro X (Exists.intro y (And.intro rfl (And.intro ⟨rfl, rfl, rfl, rfl, rfl, rfl⟩ ?_)))
  | refine Exists.intro X.L (And.intro rfl ?_)
  | apply And.intro
  | rfl
  | omega
  | exact Zn fun _ _ => rfl
end Go.Tk
end
