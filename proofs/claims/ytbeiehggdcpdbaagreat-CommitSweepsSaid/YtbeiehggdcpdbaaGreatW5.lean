/- W: part 5 of an engine (a symbolic evaluator, proved against the model) and of the walk by it. -/
import Derived.Test.YtbeiehggdcpdbaaGreatW4
set_option linter.unusedVariables false
set_option linter.unusedSimpArgs false
set_option maxRecDepth 100000
set_option maxHeartbeats 0
section
namespace Go.Tk
open IntKind (i64 u8 u32 u64 wrap)
noncomputable def E44 (W : Int → List Int) : Za := G0.withF 168 (ZbC W)
theorem ZbI : (E44 ZC).Ok := Za.withF_ok Zv ZbD
def rbS (t : TxS) (core : Bool) (i : Nat) (xs : List Int) (n : Nat) : St := ⟨133, [(6, .int .i64 i), (2, .ptr (some ⟨0, 0, 0, 0, 0⟩)), (5, .nslice ⟨4, 0, 0, 0, 0⟩ 1 n n), (1, .bool core)], ⟨5, [(4, .ints .u8 xs), (0, .flat t.c)]⟩, []⟩
def rbR (t : TxS) (xs : List Int) (n : Nat) : St := ⟨133, [(2, .ptr (some ⟨0, 0, 0, 0, 0⟩)), (5, .nslice ⟨4, 0, 0, 0, 0⟩ 1 n n)], ⟨5, [(4, .ints .u8 xs), (0, .flat t.c)]⟩, []⟩
def ZbJ (t : TxS) (i : Nat) (xs : List Int) (n : Nat) : St := ⟨133, [(9, .int .i64 i), (2, .ptr (some ⟨0, 0, 0, 0, 0⟩)), (5, .nslice ⟨4, 0, 0, 0, 0⟩ 1 n n)], ⟨5, [(4, .ints .u8 xs), (0, .flat t.c)]⟩, []⟩
theorem WH (xs : List Int) : List.take xs.length (Y3 0 xs) = xs := by rw [Ye, List.drop_zero, List.take_length]
theorem ZiO (W : Int → List Int) (t : TxS) (i : Nat) (xs ys : List Int) (n m : Nat) (Z1 Z2 : Prop) (ht : t.Ok) (hi : i ≤ t.N) (hr : ∀ j, j < t.N → Y1 (t.ins j) = true) (hW : W = ZC) (hn : xs.length = n) (hs : n < 10000000000000) (hy : ys = xs ++ inW W true (t.ins i)) (hm : ys.length = m) (h1 : i < t.N → Z1) (h2 : i = t.N → Z2) :
  Zz (E44 W) 20 87 0 0 (rbS t true i xs n) (rdM 0 0 9 (rbS t true (i + 1) ys m) (rbR t xs n) (rbR t xs n) (rbR t xs n) Z1 Z2 False False) := by
 refine @Eq.mpr _ (let q1 := t.N;
 let q2 := t.ins (Int.toNat (↑i : Int));
 let q3 := q2.name;
 let q4 := xs ++ q3;
 let q5 := List.length q4;
 let q6 := q2.index;
 let q7 := W q6;
 let q8 := List.length q7;
 let q9 := q4 ++ List.take q8 (Y3 0 q7);
 let q10 := List.length q9;
 let q11 := decide (t.num = t.num);
 let q12 := decide (q1 = q1);
 let q13 := Zf t.ins;
 let q14 := q13 = q13;
 let q15 := decide (t.M = t.M);
 let q16 := Zn t.outs;
 let q17 := q16 = q16;
 Z0 (decide ((↑i : Int) < (↑q1 : Int))) (Z0 (decide (0 ≤ (↑i : Int) ∧ (↑i : Int) < (↑q1 : Int))) (Z0 (decide (u8 = u8 ∧ List.length q3 = 32)) (Z0 (decide (u8 = u8 ∧ List.length xs = n)) (Z0 (decide (q5 * 1 ≤ 140737488355328)) (Z0 (decide (q6 = q6)) (Z0 (decide (0 ≤ q6)) (Z0 (decide (u8 = u8 ∧ 0 + q8 ≤ q8)) (Z0 (decide (u8 = u8 ∧ q5 = q5)) (Z0 (decide (q10 * 1 ≤ 140737488355328)) (Z0 (decide (wrap i64 ((↑i : Int) + 1) = (↑(i + 1) : Int))) (Z0 (decide (q10 = m)) (Z0 (decide (m ≤ q10)) (q9 = ys ∧ Z0 q11 (Z0 q12 (q14 ∧ Z0 q12 (Z0 q15 (q17 ∧ Z0 q15 Z1 False) False) False) False) False) False) False) False) False) False) False) False) False) False) False) False) False) (Z0 (decide (n = n)) (Z0 (decide (n ≤ n)) (xs = xs ∧ Z0 q11 (Z0 q12 (q14 ∧ Z0 q12 (Z0 q15 (q17 ∧ Z0 q15 Z2 False) False) False) False) False) False) False)) (by kernel_rfl) ?_
 conv => zeta
 try simp only [Zc]
 try simp only [Zi]
 try simp only [Ze]
 try simp only [Zj]
 try simp only [Zk]
 try simp only [Zd]
 try simp only [Int.toNat_natCast, Nat.zero_add, true_and, and_true, Nat.le_refl]
 refine ⟨fun hlt => ?_, fun hge => h2 (by omega)⟩
 obtain ⟨⟨w1, w2⟩, w3, w4⟩ := WG (hr i (by omega))
 obtain ⟨l1, l2, l3, l4⟩ := ht.ins i (by omega)
 have hw := h1 (by omega)
 have hnn := ht.n
 have hwr : i64.wrap ((i : Int) + 1) = ((i + 1 : Nat) : Int) := w64 (by omega)
 have u1 := ZI (t.ins i).index
 have u2 := ZI (t.ins i).way
 subst hW
 rw [hwr]
 unfold inW at hy
 generalize t.ins i = x at *
 simp only [List.length_append, WH]
 repeat' (first | (refine And.intro ?_ ?_) | intro _)
 all_goals (try simp only [beq_iff_eq, bne_iff_ne, ne_eq, beq_eq_false_iff_ne, bne_eq_false_iff_eq] at *)
 all_goals first | omega | assumption | trivial | skip
 all_goals first | (rw [hy]; simp [*]; done) | (rw [← hm, hy]; simp [*]; try omega; done) | skip
theorem ZiP (W : Int → List Int) (t : TxS) (i : Nat) (xs ys : List Int) (n m : Nat) (Z1 Z2 : Prop) (ht : t.Ok) (hi : i ≤ t.N) (hr : ∀ j, j < t.N → Y1 (t.ins j) = true) (hW : W = ZC) (hn : xs.length = n) (hs : n < 10000000000000) (hy : ys = xs ++ inW W false (t.ins i)) (hm : ys.length = m) (h1 : i < t.N → Z1) (h2 : i = t.N → Z2) :
  Zz (E44 W) 20 87 0 0 (rbS t false i xs n) (rdM 0 0 9 (rbS t false (i + 1) ys m) (rbR t xs n) (rbR t xs n) (rbR t xs n) Z1 Z2 False False) := by
 refine @Eq.mpr _ (let q1 := t.N;
 let q2 := t.ins (Int.toNat (↑i : Int));
 let q3 := q2.name;
 let q4 := xs ++ q3;
 let q5 := List.length q4;
 let q6 := q2.index;
 let q7 := W q6;
 let q8 := List.length q7;
 let q9 := q4 ++ List.take q8 (Y3 0 q7);
 let q10 := List.length q9;
 let q11 := q2.way;
 let q12 := W q11;
 let q13 := List.length q12;
 let q14 := q9 ++ List.take q13 (Y3 0 q12);
 let q15 := List.length q14;
 let q16 := q2.tag;
 let q17 := decide (u8 = u8 ∧ q15 = q15);
 let q18 := q14 ++ q16;
 let q19 := List.length q18;
 let q20 := q11 == 1;
 let q21 := q2.also;
 let q22 := decide (u8 = u8 ∧ List.length q21 = 32);
 let q23 := decide (u8 = u8 ∧ q19 = q19);
 let q24 := q18 ++ q21;
 let q25 := List.length q24;
 let q26 := q11 == 4;
 let q27 := q2.secret;
 let q28 := decide (u8 = u8 ∧ List.length q27 = 32);
 let q29 := q24 ++ q27;
 let q30 := List.length q29;
 let q31 := decide (wrap i64 ((↑i : Int) + 1) = (↑(i + 1) : Int));
 let q32 := decide (t.num = t.num);
 let q33 := decide (q1 = q1);
 let q34 := Zf t.ins;
 let q35 := q34 = q34;
 let q36 := decide (t.M = t.M);
 let q37 := Zn t.outs;
 let q38 := q37 = q37;
 let q39 := Z0 q32 (Z0 q33 (q35 ∧ Z0 q33 (Z0 q36 (q38 ∧ Z0 q36 Z1 False) False) False) False) False;
 let q40 := Z0 q28 (Z0 (decide (u8 = u8 ∧ q25 = q25)) (Z0 (decide (q30 * 1 ≤ 140737488355328)) (Z0 q31 (Z0 (decide (q30 = m)) (Z0 (decide (m ≤ q30)) (q29 = ys ∧ q39) False) False) False) False) False) False;
 let q41 := q11 == 5;
 let q42 := q18 ++ q27;
 let q43 := List.length q42;
 let q44 := Z0 q28 (Z0 q23 (Z0 (decide (q43 * 1 ≤ 140737488355328)) (Z0 q31 (Z0 (decide (q43 = m)) (Z0 (decide (m ≤ q43)) (q42 = ys ∧ q39) False) False) False) False) False) False;
 let q45 := q14 ++ q21;
 let q46 := List.length q45;
 let q47 := q45 ++ q27;
 let q48 := List.length q47;
 let q49 := Z0 q28 (Z0 (decide (u8 = u8 ∧ q46 = q46)) (Z0 (decide (q48 * 1 ≤ 140737488355328)) (Z0 q31 (Z0 (decide (q48 = m)) (Z0 (decide (m ≤ q48)) (q47 = ys ∧ q39) False) False) False) False) False) False;
 let q50 := q14 ++ q27;
 let q51 := List.length q50;
 let q52 := Z0 q28 (Z0 q17 (Z0 (decide (q51 * 1 ≤ 140737488355328)) (Z0 q31 (Z0 (decide (q51 = m)) (Z0 (decide (m ≤ q51)) (q50 = ys ∧ q39) False) False) False) False) False) False;
 Z0 (decide ((↑i : Int) < (↑q1 : Int)))
 (Z0 (decide (0 ≤ (↑i : Int) ∧ (↑i : Int) < (↑q1 : Int)))
 (Z0 (decide (u8 = u8 ∧ List.length q3 = 32))
 (Z0 (decide (u8 = u8 ∧ List.length xs = n))
 (Z0 (decide (q5 * 1 ≤ 140737488355328))
 (Z0 (decide (q6 = q6))
 (Z0 (decide (0 ≤ q6))
 (Z0 (decide (u8 = u8 ∧ 0 + q8 ≤ q8))
 (Z0 (decide (u8 = u8 ∧ q5 = q5))
 (Z0 (decide (q10 * 1 ≤ 140737488355328))
 (Z0 (decide (0 ≤ q11))
 (Z0 (decide (u8 = u8 ∧ 0 + q13 ≤ q13))
 (Z0 (decide (u8 = u8 ∧ q10 = q10)) (Z0 (decide (q15 * 1 ≤ 140737488355328)) (Z0 (q11 != 4) (Z0 (decide (u8 = u8 ∧ List.length q16 = 32)) (Z0 q17 (Z0 (decide (q19 * 1 ≤ 140737488355328)) (Z0 q20 (Z0 q22 (Z0 q23 (Z0 (decide (q25 * 1 ≤ 140737488355328)) (Z0 q26 q40 (Z0 q41 q40 (Z0 q31 (Z0 (decide (q25 = m)) (Z0 (decide (m ≤ q25)) (q24 = ys ∧ q39) False) False) False))) False) False) False) (Z0 q26 q44 (Z0 q41 q44 (Z0 q31 (Z0 (decide (q19 = m)) (Z0 (decide (m ≤ q19)) (q18 = ys ∧ q39) False) False) False)))) False) False) False) (Z0 q20 (Z0 q22 (Z0 q17 (Z0 (decide (q46 * 1 ≤ 140737488355328)) (Z0 q26 q49 (Z0 q41 q49 (Z0 q31 (Z0 (decide (q46 = m)) (Z0 (decide (m ≤ q46)) (q45 = ys ∧ q39) False) False) False))) False) False) False) (Z0 q26 q52 (Z0 q41 q52 (Z0 q31 (Z0 (decide (q15 = m)) (Z0 (decide (m ≤ q15)) (q14 = ys ∧ q39) False) False) False))))) False) False) False)
 False)
 False)
 False)
 False)
 False)
 False)
 False)
 False)
 False)
 False)
 (Z0 (decide (n = n)) (Z0 (decide (n ≤ n)) (xs = xs ∧ Z0 q32 (Z0 q33 (q35 ∧ Z0 q33 (Z0 q36 (q38 ∧ Z0 q36 Z2 False) False) False) False) False) False) False)) (by kernel_rfl) ?_
 conv => zeta
 try simp only [Zc]
 try simp only [Zi]
 try simp only [Ze]
 try simp only [Zj]
 try simp only [Zk]
 try simp only [Zd]
 try simp only [Int.toNat_natCast, Nat.zero_add, true_and, and_true, Nat.le_refl]
 refine ⟨fun hlt => ?_, fun hge => h2 (by omega)⟩
 obtain ⟨⟨w1, w2⟩, w3, w4⟩ := WG (hr i (by omega))
 obtain ⟨l1, l2, l3, l4⟩ := ht.ins i (by omega)
 have hw := h1 (by omega)
 have hnn := ht.n
 have hwr : i64.wrap ((i : Int) + 1) = ((i + 1 : Nat) : Int) := w64 (by omega)
 have u1 := ZI (t.ins i).index
 have u2 := ZI (t.ins i).way
 subst hW
 rw [hwr]
 unfold inW at hy
 generalize t.ins i = x at *
 simp only [List.length_append, WH]
 repeat' (first | (refine And.intro ?_ ?_) | intro _)
 all_goals (try simp only [beq_iff_eq, bne_iff_ne, ne_eq, beq_eq_false_iff_ne, bne_eq_false_iff_eq] at *)
 all_goals first | omega | assumption | trivial | skip
 all_goals first | (rw [hy]; simp [*]; done) | (rw [← hm, hy]; simp [*]; try omega; done) | skip
theorem ZiQ (W : Int → List Int) (t : TxS) (i : Nat) (xs ys : List Int) (n m : Nat) (Z1 Z2 : Prop) (ht : t.Ok) (hi : i ≤ t.M) (hr : ∀ j, j < t.M → ZG (t.outs j) = true) (hW : W = ZC) (hn : xs.length = n) (hs : n < 10000000000000) (hy : ys = xs ++ Z2g W (t.outs i)) (hm : ys.length = m) (h1 : i < t.M → Z1) (h2 : i = t.M → Z2) :
  Zz (E44 W) 20 87 2 0 (ZbJ t i xs n) (rdM 0 2 9 (ZbJ t (i + 1) ys m) (rbR t xs n) (rbR t xs n) (rbR t xs n) Z1 Z2 False False) := by
 refine @Eq.mpr _ (let q1 := t.M;
 let q2 := t.outs (Int.toNat (↑i : Int));
 let q3 := q2.kind;
 let q4 := W q3;
 let q5 := List.length q4;
 let q6 := xs ++ List.take q5 (Y3 0 q4);
 let q7 := List.length q6;
 let q8 := q2.owner;
 let q9 := q8 = q8;
 let q10 := q2.amount;
 let q11 := W q10;
 let q12 := List.length q11;
 let q13 := q6 ++ List.take q12 (Y3 0 q11);
 let q14 := List.length q13;
 let q15 := q13 ++ q8;
 let q16 := List.length q15;
 let q17 := q2.other;
 let q18 := decide (u8 = u8 ∧ List.length q17 = 32);
 let q19 := decide (u8 = u8 ∧ q16 = q16);
 let q20 := q15 ++ q17;
 let q21 := List.length q20;
 let q22 := decide (q21 * 1 ≤ 140737488355328);
 let q23 := decide (q3 ≥ 3);
 let q24 := q2.point;
 let q25 := decide (u8 = u8 ∧ List.length q24 = 32);
 let q26 := decide (u8 = u8 ∧ q21 = q21);
 let q27 := q20 ++ q24;
 let q28 := List.length q27;
 let q29 := decide (q28 * 1 ≤ 140737488355328);
 let q30 := decide (q3 ≥ 4);
 let q31 := q2.hash;
 let q32 := decide (u8 = u8 ∧ List.length q31 = 32);
 let q33 := decide (u8 = u8 ∧ q28 = q28);
 let q34 := q27 ++ q31;
 let q35 := List.length q34;
 let q36 := decide (q35 * 1 ≤ 140737488355328);
 let q37 := q2.delay;
 let q38 := decide (0 ≤ q37);
 let q39 := W q37;
 let q40 := List.length q39;
 let q41 := decide (u8 = u8 ∧ q35 = q35);
 let q42 := List.take q40 (Y3 0 q39);
 let q43 := q34 ++ q42;
 let q44 := List.length q43;
 let q45 := q2.expiry;
 let q46 := decide (0 ≤ q45);
 let q47 := W q45;
 let q48 := List.length q47;
 let q49 := List.take q48 (Y3 0 q47);
 let q50 := q43 ++ q49;
 let q51 := List.length q50;
 let q52 := decide (wrap i64 ((↑i : Int) + 1) = (↑(i + 1) : Int));
 let q53 := decide (t.num = t.num);
 let q54 := decide (t.N = t.N);
 let q55 := Zf t.ins;
 let q56 := q55 = q55;
 let q57 := decide (q1 = q1);
 let q58 := Zn t.outs;
 let q59 := q58 = q58;
 let q60 := Z0 q53 (Z0 q54 (q56 ∧ Z0 q54 (Z0 q57 (q59 ∧ Z0 q57 Z1 False) False) False) False) False;
 let q61 := q50 = ys ∧ q60;
 let q62 := q43 = ys ∧ q60;
 let q63 := q34 ++ q49;
 let q64 := List.length q63;
 let q65 := q63 = ys ∧ q60;
 let q66 := Z0 q52 (Z0 (decide (q35 = m)) (Z0 (decide (m ≤ q35)) (q34 = ys ∧ q60) False) False) False;
 let q67 := q27 ++ q42;
 let q68 := List.length q67;
 let q69 := q67 ++ q49;
 let q70 := List.length q69;
 let q71 := q69 = ys ∧ q60;
 let q72 := q67 = ys ∧ q60;
 let q73 := q27 ++ q49;
 let q74 := List.length q73;
 let q75 := q73 = ys ∧ q60;
 let q76 := Z0 q52 (Z0 (decide (q28 = m)) (Z0 (decide (m ≤ q28)) (q27 = ys ∧ q60) False) False) False;
 let q77 := q20 ++ q31;
 let q78 := List.length q77;
 let q79 := decide (q78 * 1 ≤ 140737488355328);
 let q80 := decide (u8 = u8 ∧ q78 = q78);
 let q81 := q77 ++ q42;
 let q82 := List.length q81;
 let q83 := q81 ++ q49;
 let q84 := List.length q83;
 let q85 := q83 = ys ∧ q60;
 let q86 := q81 = ys ∧ q60;
 let q87 := q77 ++ q49;
 let q88 := List.length q87;
 let q89 := q87 = ys ∧ q60;
 let q90 := Z0 q52 (Z0 (decide (q78 = m)) (Z0 (decide (m ≤ q78)) (q77 = ys ∧ q60) False) False) False;
 let q91 := q20 ++ q42;
 let q92 := List.length q91;
 let q93 := q91 ++ q49;
 let q94 := List.length q93;
 let q95 := q93 = ys ∧ q60;
 let q96 := q91 = ys ∧ q60;
 let q97 := q20 ++ q49;
 let q98 := List.length q97;
 let q99 := q97 = ys ∧ q60;
 let q100 := Z0 q52 (Z0 (decide (q21 = m)) (Z0 (decide (m ≤ q21)) (q20 = ys ∧ q60) False) False) False;
 let q101 := q15 ++ q24;
 let q102 := List.length q101;
 let q103 := decide (u8 = u8 ∧ q102 = q102);
 let q104 := q101 ++ q31;
 let q105 := List.length q104;
 let q106 := decide (u8 = u8 ∧ q105 = q105);
 let q107 := q104 ++ q42;
 let q108 := List.length q107;
 let q109 := q107 ++ q49;
 let q110 := List.length q109;
 let q111 := q104 ++ q49;
 let q112 := List.length q111;
 let q113 := q101 ++ q42;
 let q114 := List.length q113;
 let q115 := q113 ++ q49;
 let q116 := List.length q115;
 let q117 := q101 ++ q49;
 let q118 := List.length q117;
 let q119 := q15 ++ q31;
 let q120 := List.length q119;
 let q121 := decide (u8 = u8 ∧ q120 = q120);
 let q122 := q119 ++ q42;
 let q123 := List.length q122;
 let q124 := q122 ++ q49;
 let q125 := List.length q124;
 let q126 := q119 ++ q49;
 let q127 := List.length q126;
 let q128 := q15 ++ q42;
 let q129 := List.length q128;
 let q130 := q128 ++ q49;
 let q131 := List.length q130;
 let q132 := q15 ++ q49;
 let q133 := List.length q132;
 Z0 (decide ((↑i : Int) < (↑q1 : Int)))
 (Z0 (decide (0 ≤ (↑i : Int) ∧ (↑i : Int) < (↑q1 : Int)))
 (Z0 (decide (0 ≤ q3))
 (Z0 (decide (u8 = u8 ∧ 0 + q5 ≤ q5))
 (Z0 (decide (u8 = u8 ∧ List.length xs = n))
 (Z0 (decide (q7 * 1 ≤ 140737488355328))
 (q9 ∧
 Z0 (decide (q10 = q10))
 (Z0 (decide (0 ≤ q10))
 (Z0 (decide (u8 = u8 ∧ 0 + q12 ≤ q12))
 (Z0 (decide (u8 = u8 ∧ q7 = q7))
 (Z0 (decide (q14 * 1 ≤ 140737488355328))
 (q9 ∧
 Z0 (decide (u8 = u8 ∧ List.length q8 = 32))
 (Z0 (decide (u8 = u8 ∧ q14 = q14))
 (Z0 (decide (q16 * 1 ≤ 140737488355328))
 (Z0 (q3 == 2)
 (Z0 q18
 (Z0 q19
 (Z0 q22
 (Z0 q23
 (Z0 q25
 (Z0 q26
 (Z0 q29
 (Z0 q30 (Z0 q32 (Z0 q33 (Z0 q36 (Z0 q23 (Z0 q38 (Z0 (decide (u8 = u8 ∧ 0 + q40 ≤ q40)) (Z0 q41 (Z0 (decide (q44 * 1 ≤ 140737488355328)) (Z0 q30 (Z0 q46 (Z0 (decide (u8 = u8 ∧ 0 + q48 ≤ q48)) (Z0 (decide (u8 = u8 ∧ q44 = q44)) (Z0 (decide (q51 * 1 ≤ 140737488355328)) (Z0 q52 (Z0 (decide (q51 = m)) (Z0 (decide (m ≤ q51)) q61 False) False) False) False) False) False) False) (Z0 q52 (Z0 (decide (q44 = m)) (Z0 (decide (m ≤ q44)) q62 False) False) False)) False) False) False) False) (Z0 q30 (Z0 q46 (Z0 (decide (u8 = u8 ∧ 0 + q48 ≤ q48)) (Z0 q41 (Z0 (decide (q64 * 1 ≤ 140737488355328)) (Z0 q52 (Z0 (decide (q64 = m)) (Z0 (decide (m ≤ q64)) q65 False) False) False) False) False) False) False) q66)) False) False) False)
 (Z0 q23 (Z0 q38 (Z0 (decide (u8 = u8 ∧ 0 + q40 ≤ q40)) (Z0 q33 (Z0 (decide (q68 * 1 ≤ 140737488355328)) (Z0 q30 (Z0 q46 (Z0 (decide (u8 = u8 ∧ 0 + q48 ≤ q48)) (Z0 (decide (u8 = u8 ∧ q68 = q68)) (Z0 (decide (q70 * 1 ≤ 140737488355328)) (Z0 q52 (Z0 (decide (q70 = m)) (Z0 (decide (m ≤ q70)) q71 False) False) False) False) False) False) False) (Z0 q52 (Z0 (decide (q68 = m)) (Z0 (decide (m ≤ q68)) q72 False) False) False)) False) False) False) False) (Z0 q30 (Z0 q46 (Z0 (decide (u8 = u8 ∧ 0 + q48 ≤ q48)) (Z0 q33 (Z0 (decide (q74 * 1 ≤ 140737488355328)) (Z0 q52 (Z0 (decide (q74 = m)) (Z0 (decide (m ≤ q74)) q75 False) False) False) False) False) False) False) q76)))
 False)
 False)
 False)
 (Z0 q30 (Z0 q32 (Z0 q26 (Z0 q79 (Z0 q23 (Z0 q38 (Z0 (decide (u8 = u8 ∧ 0 + q40 ≤ q40)) (Z0 q80 (Z0 (decide (q82 * 1 ≤ 140737488355328)) (Z0 q30 (Z0 q46 (Z0 (decide (u8 = u8 ∧ 0 + q48 ≤ q48)) (Z0 (decide (u8 = u8 ∧ q82 = q82)) (Z0 (decide (q84 * 1 ≤ 140737488355328)) (Z0 q52 (Z0 (decide (q84 = m)) (Z0 (decide (m ≤ q84)) q85 False) False) False) False) False) False) False) (Z0 q52 (Z0 (decide (q82 = m)) (Z0 (decide (m ≤ q82)) q86 False) False) False)) False) False) False) False) (Z0 q30 (Z0 q46 (Z0 (decide (u8 = u8 ∧ 0 + q48 ≤ q48)) (Z0 q80 (Z0 (decide (q88 * 1 ≤ 140737488355328)) (Z0 q52 (Z0 (decide (q88 = m)) (Z0 (decide (m ≤ q88)) q89 False) False) False) False) False) False) False) q90)) False) False) False)
 (Z0 q23 (Z0 q38 (Z0 (decide (u8 = u8 ∧ 0 + q40 ≤ q40)) (Z0 q26 (Z0 (decide (q92 * 1 ≤ 140737488355328)) (Z0 q30 (Z0 q46 (Z0 (decide (u8 = u8 ∧ 0 + q48 ≤ q48)) (Z0 (decide (u8 = u8 ∧ q92 = q92)) (Z0 (decide (q94 * 1 ≤ 140737488355328)) (Z0 q52 (Z0 (decide (q94 = m)) (Z0 (decide (m ≤ q94)) q95 False) False) False) False) False) False) False) (Z0 q52 (Z0 (decide (q92 = m)) (Z0 (decide (m ≤ q92)) q96 False) False) False)) False) False) False) False) (Z0 q30 (Z0 q46 (Z0 (decide (u8 = u8 ∧ 0 + q48 ≤ q48)) (Z0 q26 (Z0 (decide (q98 * 1 ≤ 140737488355328)) (Z0 q52 (Z0 (decide (q98 = m)) (Z0 (decide (m ≤ q98)) q99 False) False) False) False) False) False) False) q100))))
 False)
 False)
 False)
 (Z0 (q3 == 4)
 (Z0 q18
 (Z0 q19
 (Z0 q22
 (Z0 q23
 (Z0 q25
 (Z0 q26
 (Z0 q29
 (Z0 q30 (Z0 q32 (Z0 q33 (Z0 q36 (Z0 q23 (Z0 q38 (Z0 (decide (u8 = u8 ∧ 0 + q40 ≤ q40)) (Z0 q41 (Z0 (decide (q44 * 1 ≤ 140737488355328)) (Z0 q30 (Z0 q46 (Z0 (decide (u8 = u8 ∧ 0 + q48 ≤ q48)) (Z0 (decide (u8 = u8 ∧ q44 = q44)) (Z0 (decide (q51 * 1 ≤ 140737488355328)) (Z0 q52 (Z0 (decide (q51 = m)) (Z0 (decide (m ≤ q51)) q61 False) False) False) False) False) False) False) (Z0 q52 (Z0 (decide (q44 = m)) (Z0 (decide (m ≤ q44)) q62 False) False) False)) False) False) False) False) (Z0 q30 (Z0 q46 (Z0 (decide (u8 = u8 ∧ 0 + q48 ≤ q48)) (Z0 q41 (Z0 (decide (q64 * 1 ≤ 140737488355328)) (Z0 q52 (Z0 (decide (q64 = m)) (Z0 (decide (m ≤ q64)) q65 False) False) False) False) False) False) False) q66)) False) False) False)
 (Z0 q23 (Z0 q38 (Z0 (decide (u8 = u8 ∧ 0 + q40 ≤ q40)) (Z0 q33 (Z0 (decide (q68 * 1 ≤ 140737488355328)) (Z0 q30 (Z0 q46 (Z0 (decide (u8 = u8 ∧ 0 + q48 ≤ q48)) (Z0 (decide (u8 = u8 ∧ q68 = q68)) (Z0 (decide (q70 * 1 ≤ 140737488355328)) (Z0 q52 (Z0 (decide (q70 = m)) (Z0 (decide (m ≤ q70)) q71 False) False) False) False) False) False) False) (Z0 q52 (Z0 (decide (q68 = m)) (Z0 (decide (m ≤ q68)) q72 False) False) False)) False) False) False) False) (Z0 q30 (Z0 q46 (Z0 (decide (u8 = u8 ∧ 0 + q48 ≤ q48)) (Z0 q33 (Z0 (decide (q74 * 1 ≤ 140737488355328)) (Z0 q52 (Z0 (decide (q74 = m)) (Z0 (decide (m ≤ q74)) q75 False) False) False) False) False) False) False) q76)))
 False)
 False)
 False)
 (Z0 q30 (Z0 q32 (Z0 q26 (Z0 q79 (Z0 q23 (Z0 q38 (Z0 (decide (u8 = u8 ∧ 0 + q40 ≤ q40)) (Z0 q80 (Z0 (decide (q82 * 1 ≤ 140737488355328)) (Z0 q30 (Z0 q46 (Z0 (decide (u8 = u8 ∧ 0 + q48 ≤ q48)) (Z0 (decide (u8 = u8 ∧ q82 = q82)) (Z0 (decide (q84 * 1 ≤ 140737488355328)) (Z0 q52 (Z0 (decide (q84 = m)) (Z0 (decide (m ≤ q84)) q85 False) False) False) False) False) False) False) (Z0 q52 (Z0 (decide (q82 = m)) (Z0 (decide (m ≤ q82)) q86 False) False) False)) False) False) False) False) (Z0 q30 (Z0 q46 (Z0 (decide (u8 = u8 ∧ 0 + q48 ≤ q48)) (Z0 q80 (Z0 (decide (q88 * 1 ≤ 140737488355328)) (Z0 q52 (Z0 (decide (q88 = m)) (Z0 (decide (m ≤ q88)) q89 False) False) False) False) False) False) False) q90)) False) False) False)
 (Z0 q23 (Z0 q38 (Z0 (decide (u8 = u8 ∧ 0 + q40 ≤ q40)) (Z0 q26 (Z0 (decide (q92 * 1 ≤ 140737488355328)) (Z0 q30 (Z0 q46 (Z0 (decide (u8 = u8 ∧ 0 + q48 ≤ q48)) (Z0 (decide (u8 = u8 ∧ q92 = q92)) (Z0 (decide (q94 * 1 ≤ 140737488355328)) (Z0 q52 (Z0 (decide (q94 = m)) (Z0 (decide (m ≤ q94)) q95 False) False) False) False) False) False) False) (Z0 q52 (Z0 (decide (q92 = m)) (Z0 (decide (m ≤ q92)) q96 False) False) False)) False) False) False) False) (Z0 q30 (Z0 q46 (Z0 (decide (u8 = u8 ∧ 0 + q48 ≤ q48)) (Z0 q26 (Z0 (decide (q98 * 1 ≤ 140737488355328)) (Z0 q52 (Z0 (decide (q98 = m)) (Z0 (decide (m ≤ q98)) q99 False) False) False) False) False) False) False) q100))))
 False)
 False)
 False)
 (Z0 (q3 == 5)
 (Z0 q18
 (Z0 q19
 (Z0 q22
 (Z0 q23
 (Z0 q25
 (Z0 q26
 (Z0 q29
 (Z0 q30 (Z0 q32 (Z0 q33 (Z0 q36 (Z0 q23 (Z0 q38 (Z0 (decide (u8 = u8 ∧ 0 + q40 ≤ q40)) (Z0 q41 (Z0 (decide (q44 * 1 ≤ 140737488355328)) (Z0 q30 (Z0 q46 (Z0 (decide (u8 = u8 ∧ 0 + q48 ≤ q48)) (Z0 (decide (u8 = u8 ∧ q44 = q44)) (Z0 (decide (q51 * 1 ≤ 140737488355328)) (Z0 q52 (Z0 (decide (q51 = m)) (Z0 (decide (m ≤ q51)) q61 False) False) False) False) False) False) False) (Z0 q52 (Z0 (decide (q44 = m)) (Z0 (decide (m ≤ q44)) q62 False) False) False)) False) False) False) False) (Z0 q30 (Z0 q46 (Z0 (decide (u8 = u8 ∧ 0 + q48 ≤ q48)) (Z0 q41 (Z0 (decide (q64 * 1 ≤ 140737488355328)) (Z0 q52 (Z0 (decide (q64 = m)) (Z0 (decide (m ≤ q64)) q65 False) False) False) False) False) False) False) q66)) False) False) False)
 (Z0 q23 (Z0 q38 (Z0 (decide (u8 = u8 ∧ 0 + q40 ≤ q40)) (Z0 q33 (Z0 (decide (q68 * 1 ≤ 140737488355328)) (Z0 q30 (Z0 q46 (Z0 (decide (u8 = u8 ∧ 0 + q48 ≤ q48)) (Z0 (decide (u8 = u8 ∧ q68 = q68)) (Z0 (decide (q70 * 1 ≤ 140737488355328)) (Z0 q52 (Z0 (decide (q70 = m)) (Z0 (decide (m ≤ q70)) q71 False) False) False) False) False) False) False) (Z0 q52 (Z0 (decide (q68 = m)) (Z0 (decide (m ≤ q68)) q72 False) False) False)) False) False) False) False) (Z0 q30 (Z0 q46 (Z0 (decide (u8 = u8 ∧ 0 + q48 ≤ q48)) (Z0 q33 (Z0 (decide (q74 * 1 ≤ 140737488355328)) (Z0 q52 (Z0 (decide (q74 = m)) (Z0 (decide (m ≤ q74)) q75 False) False) False) False) False) False) False) q76)))
 False)
 False)
 False)
 (Z0 q30 (Z0 q32 (Z0 q26 (Z0 q79 (Z0 q23 (Z0 q38 (Z0 (decide (u8 = u8 ∧ 0 + q40 ≤ q40)) (Z0 q80 (Z0 (decide (q82 * 1 ≤ 140737488355328)) (Z0 q30 (Z0 q46 (Z0 (decide (u8 = u8 ∧ 0 + q48 ≤ q48)) (Z0 (decide (u8 = u8 ∧ q82 = q82)) (Z0 (decide (q84 * 1 ≤ 140737488355328)) (Z0 q52 (Z0 (decide (q84 = m)) (Z0 (decide (m ≤ q84)) q85 False) False) False) False) False) False) False) (Z0 q52 (Z0 (decide (q82 = m)) (Z0 (decide (m ≤ q82)) q86 False) False) False)) False) False) False) False) (Z0 q30 (Z0 q46 (Z0 (decide (u8 = u8 ∧ 0 + q48 ≤ q48)) (Z0 q80 (Z0 (decide (q88 * 1 ≤ 140737488355328)) (Z0 q52 (Z0 (decide (q88 = m)) (Z0 (decide (m ≤ q88)) q89 False) False) False) False) False) False) False) q90)) False) False) False)
 (Z0 q23 (Z0 q38 (Z0 (decide (u8 = u8 ∧ 0 + q40 ≤ q40)) (Z0 q26 (Z0 (decide (q92 * 1 ≤ 140737488355328)) (Z0 q30 (Z0 q46 (Z0 (decide (u8 = u8 ∧ 0 + q48 ≤ q48)) (Z0 (decide (u8 = u8 ∧ q92 = q92)) (Z0 (decide (q94 * 1 ≤ 140737488355328)) (Z0 q52 (Z0 (decide (q94 = m)) (Z0 (decide (m ≤ q94)) q95 False) False) False) False) False) False) False) (Z0 q52 (Z0 (decide (q92 = m)) (Z0 (decide (m ≤ q92)) q96 False) False) False)) False) False) False) False) (Z0 q30 (Z0 q46 (Z0 (decide (u8 = u8 ∧ 0 + q48 ≤ q48)) (Z0 q26 (Z0 (decide (q98 * 1 ≤ 140737488355328)) (Z0 q52 (Z0 (decide (q98 = m)) (Z0 (decide (m ≤ q98)) q99 False) False) False) False) False) False) False) q100))))
 False)
 False)
 False)
 (Z0 q23
 (Z0 q25
 (Z0 q19
 (Z0 (decide (q102 * 1 ≤ 140737488355328))
 (Z0 q30
 (Z0 q32
 (Z0 q103 (Z0 (decide (q105 * 1 ≤ 140737488355328)) (Z0 q23 (Z0 q38 (Z0 (decide (u8 = u8 ∧ 0 + q40 ≤ q40)) (Z0 q106 (Z0 (decide (q108 * 1 ≤ 140737488355328)) (Z0 q30 (Z0 q46 (Z0 (decide (u8 = u8 ∧ 0 + q48 ≤ q48)) (Z0 (decide (u8 = u8 ∧ q108 = q108)) (Z0 (decide (q110 * 1 ≤ 140737488355328)) (Z0 q52 (Z0 (decide (q110 = m)) (Z0 (decide (m ≤ q110)) (q109 = ys ∧ q60) False) False) False) False) False) False) False) (Z0 q52 (Z0 (decide (q108 = m)) (Z0 (decide (m ≤ q108)) (q107 = ys ∧ q60) False) False) False)) False) False) False) False) (Z0 q30 (Z0 q46 (Z0 (decide (u8 = u8 ∧ 0 + q48 ≤ q48)) (Z0 q106 (Z0 (decide (q112 * 1 ≤ 140737488355328)) (Z0 q52 (Z0 (decide (q112 = m)) (Z0 (decide (m ≤ q112)) (q111 = ys ∧ q60) False) False) False) False) False) False) False) (Z0 q52 (Z0 (decide (q105 = m)) (Z0 (decide (m ≤ q105)) (q104 = ys ∧ q60) False) False) False))) False) False)
 False)
 (Z0 q23 (Z0 q38 (Z0 (decide (u8 = u8 ∧ 0 + q40 ≤ q40)) (Z0 q103 (Z0 (decide (q114 * 1 ≤ 140737488355328)) (Z0 q30 (Z0 q46 (Z0 (decide (u8 = u8 ∧ 0 + q48 ≤ q48)) (Z0 (decide (u8 = u8 ∧ q114 = q114)) (Z0 (decide (q116 * 1 ≤ 140737488355328)) (Z0 q52 (Z0 (decide (q116 = m)) (Z0 (decide (m ≤ q116)) (q115 = ys ∧ q60) False) False) False) False) False) False) False) (Z0 q52 (Z0 (decide (q114 = m)) (Z0 (decide (m ≤ q114)) (q113 = ys ∧ q60) False) False) False)) False) False) False) False) (Z0 q30 (Z0 q46 (Z0 (decide (u8 = u8 ∧ 0 + q48 ≤ q48)) (Z0 q103 (Z0 (decide (q118 * 1 ≤ 140737488355328)) (Z0 q52 (Z0 (decide (q118 = m)) (Z0 (decide (m ≤ q118)) (q117 = ys ∧ q60) False) False) False) False) False) False) False) (Z0 q52 (Z0 (decide (q102 = m)) (Z0 (decide (m ≤ q102)) (q101 = ys ∧ q60) False) False) False))))
 False)
 False)
 False)
 (Z0 q30
 (Z0 q32
 (Z0 q19 (Z0 (decide (q120 * 1 ≤ 140737488355328)) (Z0 q23 (Z0 q38 (Z0 (decide (u8 = u8 ∧ 0 + q40 ≤ q40)) (Z0 q121 (Z0 (decide (q123 * 1 ≤ 140737488355328)) (Z0 q30 (Z0 q46 (Z0 (decide (u8 = u8 ∧ 0 + q48 ≤ q48)) (Z0 (decide (u8 = u8 ∧ q123 = q123)) (Z0 (decide (q125 * 1 ≤ 140737488355328)) (Z0 q52 (Z0 (decide (q125 = m)) (Z0 (decide (m ≤ q125)) (q124 = ys ∧ q60) False) False) False) False) False) False) False) (Z0 q52 (Z0 (decide (q123 = m)) (Z0 (decide (m ≤ q123)) (q122 = ys ∧ q60) False) False) False)) False) False) False) False) (Z0 q30 (Z0 q46 (Z0 (decide (u8 = u8 ∧ 0 + q48 ≤ q48)) (Z0 q121 (Z0 (decide (q127 * 1 ≤ 140737488355328)) (Z0 q52 (Z0 (decide (q127 = m)) (Z0 (decide (m ≤ q127)) (q126 = ys ∧ q60) False) False) False) False) False) False) False) (Z0 q52 (Z0 (decide (q120 = m)) (Z0 (decide (m ≤ q120)) (q119 = ys ∧ q60) False) False) False))) False) False)
 False)
 (Z0 q23 (Z0 q38 (Z0 (decide (u8 = u8 ∧ 0 + q40 ≤ q40)) (Z0 q19 (Z0 (decide (q129 * 1 ≤ 140737488355328)) (Z0 q30 (Z0 q46 (Z0 (decide (u8 = u8 ∧ 0 + q48 ≤ q48)) (Z0 (decide (u8 = u8 ∧ q129 = q129)) (Z0 (decide (q131 * 1 ≤ 140737488355328)) (Z0 q52 (Z0 (decide (q131 = m)) (Z0 (decide (m ≤ q131)) (q130 = ys ∧ q60) False) False) False) False) False) False) False) (Z0 q52 (Z0 (decide (q129 = m)) (Z0 (decide (m ≤ q129)) (q128 = ys ∧ q60) False) False) False)) False) False) False) False) (Z0 q30 (Z0 q46 (Z0 (decide (u8 = u8 ∧ 0 + q48 ≤ q48)) (Z0 q19 (Z0 (decide (q133 * 1 ≤ 140737488355328)) (Z0 q52 (Z0 (decide (q133 = m)) (Z0 (decide (m ≤ q133)) (q132 = ys ∧ q60) False) False) False) False) False) False) False) (Z0 q52 (Z0 (decide (q16 = m)) (Z0 (decide (m ≤ q16)) (q15 = ys ∧ q60) False) False) False))))))))
 False)
 False)
 False)
 False)
 False)
 False)
 False)
 False)
 False)
 False)
 False)
 False)
 False)
 (Z0 (decide (n = n)) (Z0 (decide (n ≤ n)) (xs = xs ∧ Z0 q53 (Z0 q54 (q56 ∧ Z0 q54 (Z0 q57 (q59 ∧ Z0 q57 Z2 False) False) False) False) False) False) False)) (by kernel_rfl) ?_
 conv => zeta
 try simp only [Zc]
 try simp only [Zi]
 try simp only [Ze]
 try simp only [Zj]
 try simp only [Zk]
 try simp only [Zd]
 try simp only [Int.toNat_natCast, Nat.zero_add, true_and, and_true, Nat.le_refl]
 refine ⟨fun hlt => ?_, fun hge => h2 (by omega)⟩
 obtain ⟨⟨w1, w2⟩, ⟨w3, w4⟩, ⟨w5, w6⟩, w7, w8⟩ := Yp (hr i (by omega))
 obtain ⟨l1, l2, l3, l4⟩ := ht.outs i (by omega)
 have hw := h1 (by omega)
 have hnn := ht.m
 have hwr : i64.wrap ((i : Int) + 1) = ((i + 1 : Nat) : Int) := w64 (by omega)
 have u1 := ZI (t.outs i).kind
 have u2 := ZI (t.outs i).amount
 have u3 := ZI (t.outs i).delay
 have u4 := ZI (t.outs i).expiry
 subst hW
 rw [hwr]
 unfold Z2g at hy
 generalize t.outs i = x at *
 simp only [List.length_append, WH]
 repeat' (first | (refine And.intro ?_ ?_) | intro _)
 all_goals (try simp only [beq_iff_eq, bne_iff_ne, ne_eq, beq_eq_false_iff_ne, bne_eq_false_iff_eq] at *)
 all_goals first | omega | assumption | trivial | skip
 all_goals first | (rw [hy]; simp [*]; done) | (rw [← hm, hy]; simp [*]; try omega; done) | skip
noncomputable def ZdV (W : Int → List Int) (t : TxS) (core : Bool) : Za :=
 (E44 W).withL 87 0 (goM 0 (rbS t core 0 (Yu W t core 0) (Yu W t core 0).length) t.Fine (ZT 0 t.N 9 (fun i => i < t.N) (fun i => i = t.N) (fun _ => False) (fun _ => False) (fun i => rbR t (Yu W t core i) (Yu W t core i).length) (fun i => rbR t (Yu W t core i) (Yu W t core i).length) (fun i => rbR t (Yu W t core i) (Yu W t core i).length)))
noncomputable def ZiR (W : Int → List Int) (t : TxS) (core : Bool) : Za :=
 (E44 W).withL 87 2 (goM 0 (ZbJ t 0 (Ya W t core 0) (Ya W t core 0).length) t.Fine (ZT 2 t.M 9 (fun i => i < t.M) (fun i => i = t.M) (fun _ => False) (fun _ => False) (fun i => rbR t (Ya W t core i) (Ya W t core i).length) (fun i => rbR t (Ya W t core i) (Ya W t core i).length) (fun i => rbR t (Ya W t core i) (Ya W t core i).length)))
theorem ZdW (t : TxS) (core : Bool) : (ZdV ZC t core).Ok := by
 unfold ZdV
 refine Za.withGoM (N := 20) (S := fun i => rbS t core i (Yu ZC t core i) (Yu ZC t core i).length) ZbI (by kernel_rfl) fun hC => ⟨rfl, fun i hi hgo => ?_⟩
 have h1 := Vd hC core hi
 cases core
 ·exact ZiP ZC t i (Yu ZC t false i) (Yu ZC t false (i + 1)) _ _ _ _ hC.ok hi hC.ins rfl rfl (by omega) (Up _ _ _ _) rfl (fun h => ⟨h, h⟩) (fun h => h)
 ·exact ZiO ZC t i (Yu ZC t true i) (Yu ZC t true (i + 1)) _ _ _ _ hC.ok hi hC.ins rfl rfl (by omega) (Up _ _ _ _) rfl (fun h => ⟨h, h⟩) (fun h => h)
theorem ZdX (t : TxS) (core : Bool) : (ZiR ZC t core).Ok := by
 unfold ZiR
 refine Za.withGoM (N := 20) (S := fun i => ZbJ t i (Ya ZC t core i) (Ya ZC t core i).length) ZbI (by kernel_rfl) fun hC => ⟨rfl, fun i hi hgo => ?_⟩
 have h1 := XN hC core hi
 exact ZiQ ZC t i (Ya ZC t core i) (Ya ZC t core (i + 1)) _ _ _ _ hC.ok hi hC.outs rfl rfl (by omega) (Z3r _ _ _ _) rfl (fun h => ⟨h, h⟩) (fun h => h)
noncomputable def ZgB (W : Int → List Int) (t : TxS) (core : Bool) : Za :=
 (ZdV W t core).withL 87 2 (goM 0 (ZbJ t 0 (Ya W t core 0) (Ya W t core 0).length) t.Fine (ZT 2 t.M 9 (fun i => i < t.M) (fun i => i = t.M) (fun _ => False) (fun _ => False) (fun i => rbR t (Ya W t core i) (Ya W t core i).length) (fun i => rbR t (Ya W t core i) (Ya W t core i).length) (fun i => rbR t (Ya W t core i) (Ya W t core i).length)))
theorem ZbK (W : Int → List Int) (t : TxS) (core : Bool) (ys : List Int) (L : Nat) (hW : W = ZC) (ht : t.Fine) (hy : ys = Wt W t core) (hL : L = ys.length) :
  evF (ZgB W t core) 20 87 [.agg t.c, .bool core] ⟨0, []⟩ (Ym 0 (.ret (.nslice ⟨0, 0, 0, 0, 0⟩ 1 L L)) 1 [(0, .ints .u8 ys)]) := by
 refine @Eq.mpr _ (let q1 := t.num;
 let q2 := List.length (W q1);
 let q3 := [] ++ List.take q2 (Y3 0 (W q1));
 let q4 := List.length q3;
 let q5 := t.N;
 let q6 := ↑q5;
 let q7 := decide (q5 = q5);
 let q8 := Zf t.ins;
 let q9 := q8 = q8;
 let q10 := W q6;
 let q11 := List.length q10;
 let q12 := q3 ++ List.take q11 (Y3 0 q10);
 let q13 := List.length q12;
 let q14 := Yu W t core 0;
 let q15 := List.length q14;
 let q16 := decide (q1 = q1);
 let q17 := t.M;
 let q18 := decide (q17 = q17);
 let q19 := Zn t.outs;
 let q20 := q19 = q19;
 let q21 := W ↑q17;
 let q22 := List.length q21;
 let q23 := Ya W t core 0;
 let q24 := List.length q23;
 let q25 := (False → False) ∧ (False → False);
 Z0 (decide (0 ≤ q1))
 (Z0 (decide (u8 = u8 ∧ 0 + q2 ≤ q2))
 (Z0 (decide (q4 * 1 ≤ 140737488355328))
 (Z0 (decide (q6 = q6))
 (Z0 q7
 (q9 ∧
 Z0 q7
 (Z0 (decide (u8 = u8 ∧ 0 + q11 ≤ q11))
 (Z0 (decide (u8 = u8 ∧ q4 = q4))
 (Z0 (decide (q13 * 1 ≤ 140737488355328))
 (Z0 (decide (q13 = q15))
 (Z0 (decide (q15 ≤ q13))
 (Z0 (decide (core = core))
 (q12 = q14 ∧
 Z0 q16
 (Z0 q7
 (q9 ∧
 Z0 q7
 (Z0 q18
 (q20 ∧
 Z0 q18
 (TxS.Fine t ∧
 ∀ (i : Nat),
 let q51 := Yu W t core i;
 let q52 := List.length q51;
 let q53 := q51 ++ List.take q22 (Y3 0 q21);
 let q54 := List.length q53;
 i ≤ q5 →
 (∀ (j : Nat), j < i → (fun (i : Nat) => i < q5) j) →
 (i = q5 →
 Z0 (decide (u8 = u8 ∧ 0 + q22 ≤ q22))
 (Z0 (decide (u8 = u8 ∧ q52 = q52))
 (Z0 (decide (q54 * 1 ≤ 140737488355328))
 (Z0 (decide (q54 = q24))
 (Z0 (decide (q24 ≤ q54))
 (q53 = q23 ∧
 Z0 q16
 (Z0 q7
 (q9 ∧
 Z0 q7
 (Z0 q18
 (q20 ∧
 Z0 q18
 (TxS.Fine t ∧
 ∀ (i : Nat),
 let q59 := Ya W t core i;
 let q60 := List.length q59;
 i ≤ q17 → (∀ (j : Nat), j < i → (fun (i : Nat) => i < q17) j) → (i = q17 → Z0 (decide (q60 = L)) (Z0 (decide (L ≤ q60)) (q59 = ys ∧ True) False) False) ∧ q25)
 False)
 False)
 False)
 False)
 False)
 False)
 False)
 False)
 False)
 False) ∧
 q25)
 False)
 False)
 False)
 False)
 False)
 False)
 False)
 False)
 False)
 False)
 False)
 False)
 False)
 False)
 False)
 False)
 False) (by kernel_rfl) ?_
 conv => zeta
 try simp only [Zc]
 try simp only [Zi]
 try simp only [Ze]
 try simp only [Zj]
 try simp only [Zk]
 try simp only [Zd]
 try simp only [Int.toNat_natCast, Nat.zero_add, true_and, and_true, Nat.le_refl]
 subst hW hy hL
 have e1 : ZC t.num ++ ZC ↑t.N = Yu ZC t core 0 := by unfold Yu; simp [Uz]
 have e2 : Yu ZC t core t.N ++ ZC ↑t.M = Ya ZC t core 0 := by unfold Ya; simp [Uz]
 have b1 := Vd ht core (Nat.le_refl t.N)
 have b2 := XN ht core (Nat.le_refl t.M)
 have hN := ht.n
 have hM := ht.m
 have hq := ht.num
 simp only [WH, List.nil_append, e1, Nat.mul_one]
 have b0 := Vd ht core (Nat.zero_le t.N)
 have c0 := XN ht core (Nat.zero_le t.M)
 have d1 := ZI t.num
 refine ⟨hq.1, by omega, by omega, trivial, Nat.le_refl _, trivial, ht, fun i hi _ => ⟨fun he => ?_, fun h => h, fun h => h⟩⟩
 subst he
 rw [e2]
 refine ⟨by omega, rfl, Nat.le_refl _, rfl, ht, fun i hi _ => ⟨fun he => ?_, fun h => h, fun h => h⟩⟩
 subst he
 exact ⟨rfl, Nat.le_refl _, rfl⟩
theorem ZdY (t : TxS) (core : Bool) : (ZgB ZC t core).Ok := by
 unfold ZgB
 exact Za.withL_join (G := ZdV ZC t core) (H := E44 ZC) (ZdW t core) rfl (ZdX t core)
theorem Z5H (t : TxS) (core : Bool) (ht : t.Fine) : ZB PP 87 [.agg t.c, .bool core] (.nslice ⟨0, 0, 0, 0, 0⟩ 1 (Wt ZC t core).length (Wt ZC t core).length) 1 [(0, .ints .u8 (Wt ZC t core))] := .evM (ZdY t core) (ZbK _ t core _ _ rfl ht rfl rfl)
theorem Z7i (args : List AV) (h : Z7) (K : KO) (hl : Zbu (Wt ZC) args h K) : Zh PP 87 args h K := by
 refine ZB.fsumm (d := 20) (Zq _ _ _ _ _ hl fun a ha => ?_)
 split at ha
 ·obtain ⟨t, h1, h2, hK⟩ := ha
  exact ⟨_, _, _, _, (Z5H t _ h2).conv fun E r hr => hr.head (fun _ hc => h1.rel hc) (fun _ hc => hc), rfl, ⟨Nat.one_pos, .ints _ _, trivial⟩, hK⟩
 ·exact ha.elim
end Go.Tk
end
section
namespace Go.Tk
open IntKind (i64 u8 u32 u64 wrap)
def ZgC : List Ty := [.arr .u8 32, .int .i64, .int .i64, .arr .u8 32, .arr .u8 32, .arr .u8 32]
def ZbL : List Ty := [.int .i64, .int .i64, .arr .u8 32, .arr .u8 32, .arr .u8 32, .arr .u8 32, .int .i64, .int .i64]
def txTy : List Ty := [.int .i64, .rows 130 ZgC, .rows 132 ZbL]
theorem Xp {n : Nat} {xs : List Int} (h : xs.length = n) (hw : ∀ i, i < n → (Lit.int .u8 (xs.getD i 0)).wf = true) : Bytes xs := ⟨fun i => by
 by_cases hi : i < n
 ·have := hw i hi
  simp [Lit.wf] at this
  have m1 : u8.min = 0 := rfl
  have m2 : u8.max = 255 := rfl
  simp
  omega
 ·rw [List.getD_eq_getElem?_getD, List.getElem?_eq_none (by omega)]; simp⟩
structure InS.By (x : InS) : Prop where
 name : Bytes x.name
 tag : Bytes x.tag
 also : Bytes x.also
 secret : Bytes x.secret
structure ZF.By (x : ZF) : Prop where
 owner : Bytes x.owner
 other : Bytes x.other
 point : Bytes x.point
 hash : Bytes x.hash
structure Z3x (t : TxS) : Prop where
 ins : ∀ i, i < t.N → (t.ins i).By
 outs : ∀ i, i < t.M → (t.outs i).By
theorem Z3x.b {t : TxS} (h : Z3x t) : TxB t := ⟨fun i hi => ⟨(h.outs i hi).owner, (h.outs i hi).other⟩⟩
theorem ZdZ {l : List AV} (h : Fits ZgC l) : ∃ x : InS, l = x.c ∧ x.Ok ∧ x.By := by
 unfold ZgC at h
 cases h with | cons _ a _ u h1 h =>
 cases h with | cons _ b _ u h2 h =>
 cases h with | cons _ c _ u h3 h =>
 cases h with | cons _ d _ u h4 h =>
 cases h with | cons _ e _ u h5 h =>
 cases h with | cons _ f _ u h6 h =>
 cases h; cases h1; cases h2; cases h3; cases h4; cases h5; cases h6
 rename_i x1 l1 w1 x2 w2 x3 w3 x4 l4 w4 x5 l5 w5 x6 l6 w6
 exact ⟨⟨x1, x2, x3, x4, x5, x6⟩, rfl, ⟨l1, l4, l5, l6⟩, ⟨Xp l1 w1, Xp l4 w4, Xp l5 w5, Xp l6 w6⟩⟩
theorem ZbM {l : List AV} (h : Fits ZbL l) : ∃ x : ZF, l = x.c ∧ x.Ok ∧ x.By := by
 unfold ZbL at h
 cases h with | cons _ a _ u h1 h =>
 cases h with | cons _ b _ u h2 h =>
 cases h with | cons _ c _ u h3 h =>
 cases h with | cons _ d _ u h4 h =>
 cases h with | cons _ e _ u h5 h =>
 cases h with | cons _ f _ u h6 h =>
 cases h with | cons _ g _ u h7 h =>
 cases h with | cons _ i _ u h8 h =>
 cases h; cases h1; cases h2; cases h3; cases h4; cases h5; cases h6; cases h7; cases h8
 rename_i x1 w1 x2 w2 x3 l3 w3 x4 l4 w4 x5 l5 w5 x6 l6 w6 x7 w7 x8 w8
 exact ⟨⟨x1, x2, x3, x4, x5, x6, x7, x8⟩, rfl, ⟨l3, l4, l5, l6⟩, ⟨Xp l3 w3, Xp l4 w4, Xp l5 w5, Xp l6 w6⟩⟩
theorem pick {α : Type} [Inhabited α] {n : Nat} {p : Nat → α → Prop} (h : ∀ i, i < n → ∃ a, p i a) : ∃ f : Nat → α, ∀ i, i < n → p i (f i) :=
 ⟨fun i => if hi : i < n then Classical.choose (h i hi) else default, fun i hi => by
  simp only [hi, dite_true]
  exact Classical.choose_spec (h i hi)⟩
instance : Inhabited InS := ⟨inZ⟩
instance : Inhabited ZF := ⟨ZiD⟩
theorem Ze0 {a : AV} (h : Z2h true txTy a) : ∃ (l : List AV) (t : TxS), a = .agg l ∧ Qj l t ∧ (t.N < 900000000000 → t.M < 900000000000 → t.Ok) ∧ Z3x t := by
 cases h with | agg _ u h =>
 unfold txTy at h
 cases h with | cons _ a _ u h1 h =>
 cases h with | cons _ b _ u h2 h =>
 cases h with | cons _ c _ u h3 h =>
 cases h; cases h1; cases h2; cases h3
 rename_i x1 w1 n f hn hf m g hm hg
 obtain ⟨ins, hi⟩ := pick fun i hi => ZdZ (hf i hi)
 obtain ⟨outs, ho⟩ := pick fun i hi => ZbM (hg i hi)
 exact ⟨_, ⟨x1, n, ins, m, outs⟩, rfl, ⟨rfl, ⟨⟨rfl, rfl⟩, fun i h => (hi i h).1⟩, ⟨⟨rfl, rfl⟩, fun i h => (ho i h).1⟩⟩, fun h1 h2 => ⟨h1, h2, fun i h => (hi i h).2.1, fun i h => (ho i h).2.1⟩, ⟨fun i h => (hi i h).2.2, fun i h => (ho i h).2.2⟩⟩
theorem Zh.conv {P : Program} {f : FuncId} {us bs : List AV} {h : Z7} {K : KO} (hc : Zh P f bs h K) (hr : ∀ E rs, ZD E us rs → ZD E bs rs) : Zh P f us h K :=
 fun E w rs he hl => hc E w rs he (hr E rs hl)
theorem Bytes.nil : Bytes [] := ⟨fun i => by simp⟩
theorem Bytes.cons {x : Int} {xs : List Int} (hx : 0 ≤ x ∧ x ≤ 255) (h : Bytes xs) : Bytes (x :: xs) := ⟨fun i => by
 cases i with
 | zero => simpa using hx
 | succ i => have := h.h i; simpa using this⟩
theorem Bytes.append {xs ys : List Int} (h : Bytes xs) (k : Bytes ys) : Bytes (xs ++ ys) := ⟨fun i => by
 rw [List.getD_eq_getElem?_getD, List.getElem?_append]
 split
 ·have := h.h i; rwa [List.getD_eq_getElem?_getD] at this
 ·have := k.h (i - xs.length); rwa [List.getD_eq_getElem?_getD] at this⟩
theorem Bytes.ite {p : Prop} [Decidable p] {xs ys : List Int} (h : Bytes xs) (k : Bytes ys) : Bytes (if p then xs else ys) := by split <;> assumption
theorem ZiS (x : Int) : 0 ≤ u8.wrap x ∧ u8.wrap x ≤ 255 := by
 unfold wrap
 simp [IntKind.bits, IntKind.signed]
 omega
theorem YN (n : Int) : Bytes (ZC n) := by
 have hb : ∀ k, 0 ≤ b8 n k ∧ b8 n k ≤ 255 := fun k => ZiS _
 unfold ZC
 split
 ·exact .cons (ZiS _) .nil
 split
 ·exact .cons (by omega) (.cons (hb _) (.cons (hb _) .nil))
 split
 ·exact .cons (by omega) (.cons (hb _) (.cons (hb _) (.cons (hb _) (.cons (hb _) .nil))))
 ·exact .cons (by omega) (.cons (hb _) (.cons (hb _) (.cons (hb _) (.cons (hb _) (.cons (hb _) (.cons (hb _) (.cons (hb _) (.cons (hb _) .nil))))))))
theorem Z9v {x : InS} (h : x.By) (core : Bool) : Bytes (inW ZC core x) := by
 unfold inW
 refine (h.name.append (YN _)).append ?_
 cases core
 ·exact (YN _).append (((Bytes.nil.ite h.tag).append (h.also.ite .nil)).append (h.secret.ite .nil))
 ·exact .nil
theorem Z7j {x : ZF} (h : x.By) : Bytes (Z2g ZC x) := by
 unfold Z2g
 exact (((((((YN _).append (YN _)).append h.owner).append (h.other.ite .nil)).append (h.point.ite .nil)).append (h.hash.ite .nil)).append ((YN _).ite .nil)).append ((YN _).ite .nil)
theorem Ql {f : Nat → List Int} : ∀ n, (∀ i, i < n → Bytes (f i)) → Bytes (Uz f n)
 | 0, _ => .nil
 | n + 1, h => (Ql n fun i hi => h i (by omega)).append (h n (by omega))
theorem Z7k {t : TxS} (h : Z3x t) (core : Bool) : Bytes (Wt ZC t core) := by
 unfold Wt Ya Yu
 exact ((((YN _).append (YN _)).append (Ql _ fun i hi => Z9v (h.ins i hi) core)).append (YN _)).append (Ql _ fun i hi => Z7j (h.outs i hi))
end Go.Tk
end
section
namespace Go.Tk
open IntKind (i64 u8 u32 u64 wrap)
end Go.Tk
end
section
namespace Go.Tk
open IntKind (i64 u8 u32 u64 wrap)
def WI (a b c : Int) : Nat → Int
 | 0 => 0
 | i + 1 => if 2 ≤ u32.wrap (u32.wrap (Int.tmod (Zp .u32 a i) 2 + Int.tmod (Zp .u32 b i) 2) + Int.tmod (Zp .u32 c i) 2) then u32.wrap (WI a b c i + ZH .u32 1 i) else WI a b c i
def Vf (a b c : Int) : Nat → Int
 | 0 => 0
 | i + 1 => u32.wrap (Vf a b c i + ZH .u32 (if Int.tmod (Zp .u32 a i) 2 = 1 then Int.tmod (Zp .u32 b i) 2 else Int.tmod (Zp .u32 c i) 2) i)
def moS (a b c : Int) (o : Int) (i : Nat) : St := ⟨33, [(8, .int .u64 i), (0, .int .u32 a), (1, .int .u32 b), (2, .int .u32 c), (7, .int .u32 o)], ⟨0, []⟩, []⟩
def moR (o : Int) : St := ⟨33, [(7, .int .u32 o)], ⟨0, []⟩, []⟩
theorem Zfv {x : Int} (h : 0 ≤ x ∧ x < 18446744073709551616) : u64.wrap x = x := by
 unfold wrap
 simp [IntKind.bits, IntKind.signed]
 omega
theorem ZgD (a b c o o' : Int) (i : Nat) (Z1 Z2 : Prop) (hi : i ≤ 32) (ho : o' = if 2 ≤ u32.wrap (u32.wrap (Int.tmod (Zp .u32 a i) 2 + Int.tmod (Zp .u32 b i) 2) + Int.tmod (Zp .u32 c i) 2) then u32.wrap (o + ZH .u32 1 i) else o) (h1 : i < 32 → Z1) (h2 : i = 32 → Z2) :
  Zz G0 20 176 0 0 (moS a b c o i) (rdM 0 0 9 (moS a b c o' (i + 1)) (moR o) (moR o) (moR o) Z1 Z2 False False) := by
 refine @Eq.mpr _ (let q1 := decide (wrap u64 ((↑i : Int) + 1) = (↑(i + 1) : Int));
 let q2 := decide (a = a);
 let q3 := decide (b = b);
 let q4 := decide (c = c);
 Z0 (decide ((↑i : Int) < 32)) (Z0 (decide (wrap u32 (wrap u32 (Int.tmod (Zp u32 a (↑i : Int)) 2 + Int.tmod (Zp u32 b (↑i : Int)) 2) + Int.tmod (Zp u32 c (↑i : Int)) 2) ≥ 2)) (Z0 q1 (Z0 q2 (Z0 q3 (Z0 q4 (Z0 (decide (wrap u32 (o + ZH u32 1 (↑i : Int)) = o')) Z1 False) False) False) False) False) (Z0 q1 (Z0 q2 (Z0 q3 (Z0 q4 (Z0 (decide (o = o')) Z1 False) False) False) False) False)) (Z0 (decide (o = o)) Z2 False)) (by kernel_rfl) ?_
 conv => zeta
 try simp only [Zc]
 try simp only [Zi]
 try simp only [Ze]
 try simp only [Zj]
 try simp only [Zk]
 try simp only [Zd]
 try simp only [Int.toNat_natCast, Nat.zero_add, true_and, and_true, Nat.le_refl]
 have hw : u64.wrap ((i : Int) + 1) = ((i + 1 : Nat) : Int) := Zfv (by omega)
 refine ⟨fun hlt => ⟨fun hc => ?_, fun hc => ?_⟩, fun hge => h2 (by omega)⟩
 ·rw [if_pos hc] at ho
  exact ⟨hw, ho.symm, h1 (by omega)⟩
 ·rw [if_neg hc] at ho
  exact ⟨hw, ho.symm, h1 (by omega)⟩
theorem ZgE (a b c o o' : Int) (i : Nat) (Z1 Z2 : Prop) (hi : i ≤ 32) (ho : o' = u32.wrap (o + ZH .u32 (if Int.tmod (Zp .u32 a i) 2 = 1 then Int.tmod (Zp .u32 b i) 2 else Int.tmod (Zp .u32 c i) 2) i)) (h1 : i < 32 → Z1) (h2 : i = 32 → Z2) :
  Zz G0 20 175 0 0 (moS a b c o i) (rdM 0 0 9 (moS a b c o' (i + 1)) (moR o) (moR o) (moR o) Z1 Z2 False False) := by
 refine @Eq.mpr _ (let q1 := decide (wrap u64 ((↑i : Int) + 1) = (↑(i + 1) : Int));
 let q2 := decide (a = a);
 let q3 := decide (b = b);
 let q4 := decide (c = c);
 Z0 (decide ((↑i : Int) < 32)) (Z0 (Int.tmod (Zp u32 a (↑i : Int)) 2 == 1) (Z0 q1 (Z0 q2 (Z0 q3 (Z0 q4 (Z0 (decide (wrap u32 (o + ZH u32 (Int.tmod (Zp u32 b (↑i : Int)) 2) (↑i : Int)) = o')) Z1 False) False) False) False) False) (Z0 q1 (Z0 q2 (Z0 q3 (Z0 q4 (Z0 (decide (wrap u32 (o + ZH u32 (Int.tmod (Zp u32 c (↑i : Int)) 2) (↑i : Int)) = o')) Z1 False) False) False) False) False)) (Z0 (decide (o = o)) Z2 False)) (by kernel_rfl) ?_
 conv => zeta
 try simp only [Zc]
 try simp only [Zi]
 try simp only [Ze]
 try simp only [Zj]
 try simp only [Zk]
 try simp only [Zd]
 try simp only [Int.toNat_natCast, Nat.zero_add, true_and, and_true, Nat.le_refl]
 have hw : u64.wrap ((i : Int) + 1) = ((i + 1 : Nat) : Int) := Zfv (by omega)
 refine ⟨fun hlt => ⟨fun hc => ?_, fun hc => ?_⟩, fun hge => h2 (by omega)⟩
 ·rw [if_pos (by simpa using hc)] at ho
  exact ⟨hw, ho.symm, h1 (by omega)⟩
 ·rw [if_neg (by simpa using hc)] at ho
  exact ⟨hw, ho.symm, h1 (by omega)⟩
@[irreducible] def X7 (a b c : Int) : Int := WI a b c 32
@[irreducible] def X2 (a b c : Int) : Int := Vf a b c 32
noncomputable def ZgF (a b c : Int) : Za := G0.withL 176 0 (goM 0 (moS a b c 0 0) True (ZT 0 32 9 (fun i => i < 32) (fun i => i = 32) (fun _ => False) (fun _ => False) (fun i => moR (WI a b c i)) (fun i => moR (WI a b c i)) (fun i => moR (WI a b c i))))
theorem Ze1 (a b c : Int) : (ZgF a b c).Ok := by
 unfold ZgF
 refine Za.withGoM (N := 20) (S := fun i => moS a b c (WI a b c i) i) Zv (by kernel_rfl) fun hC => ⟨rfl, fun i hi hgo => ?_⟩
 exact ZgD a b c (WI a b c i) (WI a b c (i + 1)) i _ _ hi rfl (fun h => ⟨h, h⟩) (fun h => h)
noncomputable def ZgG (a b c : Int) : Za := G0.withL 175 0 (goM 0 (moS a b c 0 0) True (ZT 0 32 9 (fun i => i < 32) (fun i => i = 32) (fun _ => False) (fun _ => False) (fun i => moR (Vf a b c i)) (fun i => moR (Vf a b c i)) (fun i => moR (Vf a b c i))))
theorem Ze2 (a b c : Int) : (ZgG a b c).Ok := by
 unfold ZgG
 refine Za.withGoM (N := 20) (S := fun i => moS a b c (Vf a b c i) i) Zv (by kernel_rfl) fun hC => ⟨rfl, fun i hi hgo => ?_⟩
 exact ZgE a b c (Vf a b c i) (Vf a b c (i + 1)) i _ _ hi rfl (fun h => ⟨h, h⟩) (fun h => h)
theorem ZgH (a b c : Int) (o : Int) (ho : o = WI a b c 32) :
  evF (ZgF a b c) 20 176 [.int .u32 a, .int .u32 b, .int .u32 c] ⟨0, []⟩ (Yd 0 [] (.int .u32 o) 0 []) := by
 refine @Eq.mpr _ (Z0 (decide (a = a)) (Z0 (decide (b = b)) (Z0 (decide (c = c)) (True ∧ ∀ (i : Nat), i ≤ 32 → (∀ (j : Nat), j < i → (fun (i : Nat) => i < 32) j) → (i = 32 → Z0 (decide (WI a b c i = o)) True False) ∧ (False → False) ∧ (False → False)) False) False) False) (by kernel_rfl) ?_
 try simp only [Zc]
 try simp only [Zi]
 try simp only [Ze]
 try simp only [Zj]
 try simp only [Zk]
 try simp only [Zd]
 try simp only [Int.toNat_natCast, Nat.zero_add, true_and, and_true, Nat.le_refl]
 subst ho
 exact fun i hi _ => ⟨fun he => by subst he; rfl, fun h => h, fun h => h⟩
theorem ZgI (a b c : Int) (o : Int) (ho : o = Vf a b c 32) :
  evF (ZgG a b c) 20 175 [.int .u32 a, .int .u32 b, .int .u32 c] ⟨0, []⟩ (Yd 0 [] (.int .u32 o) 0 []) := by
 refine @Eq.mpr _ (Z0 (decide (a = a)) (Z0 (decide (b = b)) (Z0 (decide (c = c)) (True ∧ ∀ (i : Nat), i ≤ 32 → (∀ (j : Nat), j < i → (fun (i : Nat) => i < 32) j) → (i = 32 → Z0 (decide (Vf a b c i = o)) True False) ∧ (False → False) ∧ (False → False)) False) False) False) (by kernel_rfl) ?_
 try simp only [Zc]
 try simp only [Zi]
 try simp only [Ze]
 try simp only [Zj]
 try simp only [Zk]
 try simp only [Zd]
 try simp only [Int.toNat_natCast, Nat.zero_add, true_and, and_true, Nat.le_refl]
 subst ho
 exact fun i hi _ => ⟨fun he => by subst he; rfl, fun h => h, fun h => h⟩
def Z11 (F : Int → Int → Int → Int) : ZW := fun args _ K => match args with
 | [.int .u32 a, .int .u32 b, .int .u32 c] => K (.int .u32 (F a b c))
 | _ => False
theorem Z2j {f : FuncId} {F : Int → Int → Int → Int} (hp : ∀ a b c, ZB PP f [.int .u32 a, .int .u32 b, .int .u32 c] (.int .u32 (F a b c)) 0 []) (args : List AV) (h : Z7) (K : AV → Prop) (hl : Z11 F args h K) : Zh PP f args h fun o h' => ∃ v, o = .ret v ∧ h' = h ∧ K v := by
 unfold Z11 at hl
 split at hl
 ·rename_i a b c
  refine VX (d := 20) (K0 := fun l => l = [.int .u32 a, .int .u32 b, .int .u32 c]) ?_ fun l e => ⟨_, by rw [e]; exact hp a b c, fun _ => rfl, hl⟩
  rfl
 ·exact hl.elim
end Go.Tk
end
section
namespace Go.Tk
open IntKind (i64 u8 u32 u64 wrap)
def sg3 (a b c : Int) (w : Int) : Int := Yr .u32 (Yr .u32 (Z6P w (32 - a)) (Z6P w (32 - b))) (Z6P w (32 - c))
def rg3 (a b n : Int) (w : Int) : Int := Yr .u32 (Yr .u32 (Z6P w (32 - a)) (Z6P w (32 - b))) (Zp .u32 w n)
def Z7l (bl : List Int) (t : Nat) : Int := u32.wrap (u32.wrap (u32.wrap (ZH .u32 (u32.wrap (bl.getD (4 * t) 0)) 24 + ZH .u32 (u32.wrap (bl.getD (4 * t + 1) 0)) 16) + ZH .u32 (u32.wrap (bl.getD (4 * t + 2) 0)) 8) + u32.wrap (bl.getD (4 * t + 3) 0))
def ZbN (m : List Int) (t : Nat) : Int := u32.wrap (u32.wrap (u32.wrap (rg3 17 19 10 (m.getD (t - 2) 0) + m.getD (t - 7) 0) + rg3 7 18 3 (m.getD (t - 15) 0)) + m.getD (t - 16) 0)
def XO (bl : List Int) : Nat → List Int
 | 0 => List.replicate 64 0
 | t + 1 => (XO bl t).set t (if t < 16 then Z7l bl t else ZbN (XO bl t) t)
theorem Z2k (bl : List Int) : ∀ t, (XO bl t).length = 64
 | 0 => rfl
 | t + 1 => by simp [XO, Z2k bl t]
def prS (st bl m : List Int) (i : Nat) : St := ⟨146, [(6, .int .i64 i), (3, pt 1), (5, pt 3), (2, pt 0), (4, pt 2)], ⟨4, [(3, .flat [.arr .u32 64 m]), (2, .flat [.arr .u32 8 [0, 0, 0, 0, 0, 0, 0, 0]]), (1, .flat [.arr .u8 64 bl]), (0, .flat [.arr .u32 8 st])]⟩, []⟩
theorem Zkh (st bl m m' : List Int) (i : Nat) (Z1 Z2 : Prop) (hi : i ≤ 64) (hm : m.length = 64) (hm' : m' = m.set i (if i < 16 then Z7l bl i else ZbN m i)) (h1 : i < 64 → Z1) (h2 : i = 64 → Z2) :
  Zz G0 20 138 0 0 (prS st bl m i) (rdM 0 0 9 (prS st bl m' (i + 1)) (prS st bl m i) (prS st bl m i) (prS st bl m i) Z1 Z2 False False) := by
 refine @Eq.mpr _ (let q1 := wrap i64 (4 * (↑i : Int));
 let q2 := 0 + Int.toNat q1;
 let q3 := wrap i64 (q1 + 1);
 let q4 := 0 + Int.toNat q3;
 let q5 := wrap i64 (q1 + 2);
 let q6 := 0 + Int.toNat q5;
 let q7 := wrap i64 (q1 + 3);
 let q8 := 0 + Int.toNat q7;
 let q9 := decide (0 ≤ (↑i : Int) ∧ (↑i : Int) < 64);
 let q10 := 0 + Int.toNat (↑i : Int);
 let q11 := decide (u32 = u32 ∧ q10 < 64 ∧ q10 < List.length m);
 let q12 := decide (wrap i64 ((↑i : Int) + 1) = (↑(i + 1) : Int));
 let q13 := [(0 : Int), 0, 0, 0, 0, 0, 0, 0];
 let q14 := q13 = q13;
 let q15 := q14 ∧ bl = bl ∧ st = st ∧ Z1;
 let q16 := wrap i64 ((↑i : Int) - 2);
 let q17 := 0 + Int.toNat q16;
 let q18 := wrap i64 ((↑i : Int) - 7);
 let q19 := 0 + Int.toNat q18;
 let q20 := decide (q19 < 64);
 let q21 := wrap i64 ((↑i : Int) - 15);
 let q22 := 0 + Int.toNat q21;
 let q23 := decide (q22 < 64);
 let q24 := wrap i64 ((↑i : Int) - 16);
 let q25 := 0 + Int.toNat q24;
 let q26 := decide (q25 < 64);
 let q27 := List.getD m q25 0;
 let q28 := decide (q27 = q27);
 let q29 := List.getD m q22 0;
 let q30 := List.getD m q19 0;
 let q31 := decide (q30 = q30);
 let q32 := List.getD m q17 0;
 Z0 (decide ((↑i : Int) < 64))
 (Z0 (decide ((↑i : Int) < 16)) (Z0 (decide (0 ≤ q1 ∧ q1 < 64)) (Z0 (decide (q2 < 64)) (Z0 (decide (0 ≤ q3 ∧ q3 < 64)) (Z0 (decide (q4 < 64)) (Z0 (decide (0 ≤ q5 ∧ q5 < 64)) (Z0 (decide (q6 < 64)) (Z0 (decide (0 ≤ q7 ∧ q7 < 64)) (Z0 (decide (q8 < 64)) (Z0 q9 (Z0 q11 (Z0 q12 (List.set m q10 (wrap u32 (wrap u32 (wrap u32 (ZH u32 (wrap u32 (List.getD bl q2 0)) 24 + ZH u32 (wrap u32 (List.getD bl q4 0)) 16) + ZH u32 (wrap u32 (List.getD bl q6 0)) 8) + wrap u32 (List.getD bl q8 0))) = m' ∧ q15) False) False) False) False) False) False) False) False) False) False) False)
 (Z0 (decide (0 ≤ q16 ∧ q16 < 64))
 (Z0 (decide (q17 < 64)) (Z0 (decide (0 ≤ q18 ∧ q18 < 64)) (Z0 q20 (Z0 (decide (0 ≤ q21 ∧ q21 < 64)) (Z0 q23 (Z0 (decide (0 ≤ q24 ∧ q24 < 64)) (Z0 q26 (Z0 q26 (Z0 q28 (Z0 q23 (Z0 (decide (q29 = q29)) (Z0 q20 (Z0 q31 (Z0 q26 (Z0 q28 (Z0 q20 (Z0 q31 (Z0 q9 (Z0 q11 (Z0 q12 (List.set m q10 (wrap u32 (wrap u32 (wrap u32 (Yr u32 (Yr u32 (bOr u32 (ZH u32 q32 15) (Zp u32 q32 17)) (bOr u32 (ZH u32 q32 13) (Zp u32 q32 19))) (Zp u32 q32 10) + q30) + Yr u32 (Yr u32 (bOr u32 (ZH u32 q29 25) (Zp u32 q29 7)) (bOr u32 (ZH u32 q29 14) (Zp u32 q29 18))) (Zp u32 q29 3)) + q27)) = m' ∧ q15) False) False) False) False) False) False) False) False) False) False) False) False) False) False) False) False) False) False) False) False) False))
 (Z0 (decide ((↑i : Int) = (↑i : Int))) (m = m ∧ q14 ∧ bl = bl ∧ st = st ∧ Z2) False)) (by kernel_rfl) ?_
 conv => zeta
 try simp only [Zc]
 try simp only [Zi]
 try simp only [Ze]
 try simp only [Zj]
 try simp only [Zk]
 try simp only [Zd]
 try simp only [Int.toNat_natCast, Nat.zero_add, true_and, and_true, Nat.le_refl]
 have hw : i64.wrap ((i : Int) + 1) = ((i + 1 : Nat) : Int) := w64 (by omega)
 refine ⟨fun hlt => ⟨fun h16 => ?_, fun h16 => ?_⟩, fun hge => h2 (by omega)⟩
 ·have e0 : i64.wrap (4 * (i : Int)) = ((4 * i : Nat) : Int) := by rw [w64 (by omega)]; omega
  have e1 : i64.wrap (((4 * i : Nat) : Int) + 1) = ((4 * i + 1 : Nat) : Int) := by rw [w64 (by omega)]; omega
  have e2 : i64.wrap (((4 * i : Nat) : Int) + 2) = ((4 * i + 2 : Nat) : Int) := by rw [w64 (by omega)]; omega
  have e3 : i64.wrap (((4 * i : Nat) : Int) + 3) = ((4 * i + 3 : Nat) : Int) := by rw [w64 (by omega)]; omega
  rw [if_pos (by omega)] at hm'
  simp only [e0, e1, e2, e3, hw, Int.toNat_natCast]
  repeat' (first | (refine And.intro ?_ ?_) | intro _)
  all_goals first | omega | exact hm'.symm | exact h1 (by omega) | trivial
 ·have e0 : i64.wrap ((i : Int) - 2) = ((i - 2 : Nat) : Int) := by rw [w64 (by omega)]; omega
  have e1 : i64.wrap ((i : Int) - 7) = ((i - 7 : Nat) : Int) := by rw [w64 (by omega)]; omega
  have e2 : i64.wrap ((i : Int) - 15) = ((i - 15 : Nat) : Int) := by rw [w64 (by omega)]; omega
  have e3 : i64.wrap ((i : Int) - 16) = ((i - 16 : Nat) : Int) := by rw [w64 (by omega)]; omega
  rw [if_neg (by omega)] at hm'
  simp only [e0, e1, e2, e3, hw, Int.toNat_natCast]
  repeat' (first | (refine And.intro ?_ ?_) | intro _)
  all_goals first | omega | exact hm'.symm | exact h1 (by omega) | trivial
noncomputable def ZgJ (st bl : List Int) : Za := G0.withL 138 0 (goM 0 (prS st bl (List.replicate 64 0) 0) True (ZT 0 64 9 (fun i => i < 64) (fun i => i = 64) (fun _ => False) (fun _ => False) (fun i => prS st bl (XO bl i) i) (fun i => prS st bl (XO bl i) i) (fun i => prS st bl (XO bl i) i)))
theorem Ze3 (st bl : List Int) : (ZgJ st bl).Ok := by
 unfold ZgJ
 refine Za.withGoM (N := 20) (S := fun i => prS st bl (XO bl i) i) Zv (by kernel_rfl) fun hC => ⟨rfl, fun i hi hgo => ?_⟩
 exact Zkh st bl (XO bl i) (XO bl (i + 1)) i _ _ hi (Z2k bl i) rfl (fun h => ⟨h, h⟩) (fun h => h)
noncomputable def E54 (M P : Int → Int → Int → Int) : Za := (G0.withP 176 (Z11 M)).withP 175 (Z11 P)
theorem ZgK : (E54 X7 X2).Ok := Za.withP_ok (Za.withP_ok Zv (Z2j fun a b c => by unfold X7; exact .ev (Ze1 a b c) (ZgH a b c _ rfl))) (Z2j fun a b c => by unfold X2; exact .ev (Ze2 a b c) (ZgI a b c _ rfl))
def Z0F (M P : Int → Int → Int → Int) (k m : Int) (x : List Int) : List Int :=
 let one := u32.wrap (u32.wrap (u32.wrap (u32.wrap (x.getD 7 0 + sg3 6 11 25 (x.getD 4 0)) + P (x.getD 4 0) (x.getD 5 0) (x.getD 6 0)) + k) + m)
 [u32.wrap (one + u32.wrap (sg3 2 13 22 (x.getD 0 0) + M (x.getD 0 0) (x.getD 1 0) (x.getD 2 0))), x.getD 0 0, x.getD 1 0, x.getD 2 0, u32.wrap (x.getD 3 0 + one), x.getD 4 0, x.getD 5 0, x.getD 6 0]
def U1 (M P : Int → Int → Int → Int) (m st : List Int) : Nat → List Int
 | 0 => st
 | t + 1 => Z0F M P (WR.getD t 0) (m.getD t 0) (U1 M P m st t)
theorem Z9w (M P : Int → Int → Int → Int) (m st : List Int) (t : Nat) : U1 M P m st (t + 1) = Z0F M P (WR.getD t 0) (m.getD t 0) (U1 M P m st t) := rfl
theorem Z9x (M P : Int → Int → Int → Int) (m st : List Int) : U1 M P m st 0 = st := rfl
theorem QI {M P : Int → Int → Int → Int} {m st : List Int} (h : st.length = 8) : ∀ t, (U1 M P m st t).length = 8
 | 0 => h
 | _ + 1 => rfl
def prT (st k m x : List Int) (i : Nat) : St := ⟨146, [(9, .int .i64 i), (8, pt 6), (7, pt 5), (5, pt 3), (2, pt 0), (4, pt 2)], ⟨7, [(6, .flat [.arr .u32 8 x]), (5, .flat [.arr .u32 64 k]), (3, .flat [.arr .u32 64 m]), (2, .flat [.arr .u32 8 [0, 0, 0, 0, 0, 0, 0, 0]]), (0, .flat [.arr .u32 8 st])]⟩, []⟩
def prU (st x : List Int) : St := ⟨146, [(8, pt 6), (2, pt 0), (4, pt 2)], ⟨7, [(6, .flat [.arr .u32 8 x]), (2, .flat [.arr .u32 8 [0, 0, 0, 0, 0, 0, 0, 0]]), (0, .flat [.arr .u32 8 st])]⟩, []⟩
theorem Zki (M P : Int → Int → Int → Int) (st k m x' : List Int) (x0 x1 x2 x3 x4 x5 x6 x7 : Int) (i : Nat) (Z1 Z2 : Prop) (hi : i ≤ 64) (hx : x' = Z0F M P (k.getD i 0) (m.getD i 0) [x0, x1, x2, x3, x4, x5, x6, x7]) (h1 : i < 64 → Z1) (h2 : i = 64 → Z2) :
  Zz (E54 M P) 20 138 2 0 (prT st k m [x0, x1, x2, x3, x4, x5, x6, x7] i) (rdM 0 2 9 (prT st k m x' (i + 1)) (prU st [x0, x1, x2, x3, x4, x5, x6, x7]) (prU st [x0, x1, x2, x3, x4, x5, x6, x7]) (prU st [x0, x1, x2, x3, x4, x5, x6, x7]) Z1 Z2 False False) := by
 refine @Eq.mpr _ (let q1 := decide (0 ≤ (↑i : Int) ∧ (↑i : Int) < 64);
 let q2 := 0 + Int.toNat (↑i : Int);
 let q3 := decide (q2 < 64);
 let q4 := decide (q2 < 64);
 let q5 := List.getD m q2 0;
 let q6 := List.getD k q2 0;
 let q7 := wrap u32 (wrap u32 (wrap u32 (wrap u32 (x7 + Yr u32 (Yr u32 (bOr u32 (ZH u32 x4 26) (Zp u32 x4 6)) (bOr u32 (ZH u32 x4 21) (Zp u32 x4 11))) (bOr u32 (ZH u32 x4 7) (Zp u32 x4 25))) + P x4 x5 x6) + q6) + q5);
 let q8 := [(0 : Int), 0, 0, 0, 0, 0, 0, 0];
 let q9 := q8 = q8;
 let q10 := [x0, x1, x2, x3, x4, x5, x6, x7];
 Z0 (decide ((↑i : Int) < 64)) (Z0 q1 (Z0 q3 (Z0 q1 (Z0 q4 (Z0 q4 (Z0 (decide (q5 = q5)) (Z0 q3 (Z0 (decide (q6 = q6)) (Z0 (decide (x6 = x6)) (Z0 (decide (x5 = x5)) (Z0 (decide (x4 = x4)) (Z0 (decide (x7 = x7)) (Z0 (decide (x2 = x2)) (Z0 (decide (x1 = x1)) (Z0 (decide (x0 = x0)) (Z0 (decide (wrap i64 ((↑i : Int) + 1) = (↑(i + 1) : Int))) ([wrap u32 (q7 + wrap u32 (Yr u32 (Yr u32 (bOr u32 (ZH u32 x0 30) (Zp u32 x0 2)) (bOr u32 (ZH u32 x0 19) (Zp u32 x0 13))) (bOr u32 (ZH u32 x0 10) (Zp u32 x0 22)) + M x0 x1 x2)), x0, x1, x2, wrap u32 (x3 + q7), x4, x5, x6] = x' ∧ k = k ∧ m = m ∧ q9 ∧ st = st ∧ Z1) False) False) False) False) False) False) False) False) False) False) False) False) False) False) False) False) (q10 = q10 ∧ q9 ∧ st = st ∧ Z2)) (by kernel_rfl) ?_
 conv => zeta
 try simp only [Zc]
 try simp only [Zi]
 try simp only [Ze]
 try simp only [Zj]
 try simp only [Zk]
 try simp only [Zd]
 try simp only [Int.toNat_natCast, Nat.zero_add, true_and, and_true, Nat.le_refl]
 have hw : i64.wrap ((i : Int) + 1) = ((i + 1 : Nat) : Int) := w64 (by omega)
 refine ⟨fun hlt => ?_, fun hge => h2 (by omega)⟩
 rw [hw]
 repeat' (first | (refine And.intro ?_ ?_) | intro _)
 all_goals first | omega | exact hx.symm | exact h1 (by omega) | trivial
def prV (st x : List Int) (i : Nat) : St := ⟨146, [(12, .int .i64 i), (8, pt 6), (2, pt 0), (4, pt 2)], ⟨7, [(6, .flat [.arr .u32 8 x]), (2, .flat [.arr .u32 8 [0, 0, 0, 0, 0, 0, 0, 0]]), (0, .flat [.arr .u32 8 st])]⟩, []⟩
def WS (st x : List Int) : Nat → List Int
 | 0 => x
 | i + 1 => (WS st x i).set i (u32.wrap ((WS st x i).getD i 0 + st.getD i 0))
theorem Z2l {st x : List Int} (h : x.length = 8) : ∀ i, (WS st x i).length = 8
 | 0 => h
 | i + 1 => by simp [WS, Z2l h i]
theorem Zkj (st x x' : List Int) (i : Nat) (Z1 Z2 : Prop) (hi : i ≤ 8) (hl : x.length = 8) (hs : st.length = 8) (hx : x' = x.set i (u32.wrap (x.getD i 0 + st.getD i 0))) (h1 : i < 8 → Z1) (h2 : i = 8 → Z2) :
  Zz G0 20 138 4 0 (prV st x i) (rdM 0 4 9 (prV st x' (i + 1)) (prU st x) (prU st x) (prU st x) Z1 Z2 False False) := by
 refine @Eq.mpr _ (let q1 := decide (0 ≤ (↑i : Int) ∧ (↑i : Int) < 8);
 let q2 := 0 + Int.toNat (↑i : Int);
 let q3 := [(0 : Int), 0, 0, 0, 0, 0, 0, 0];
 let q4 := q3 = q3;
 Z0 (decide ((↑i : Int) < 8)) (Z0 q1 (Z0 (decide (q2 < 8)) (Z0 q1 (Z0 (decide (q2 < 8)) (Z0 q1 (Z0 (decide (u32 = u32 ∧ q2 < 8 ∧ q2 < List.length x)) (Z0 (decide (wrap i64 ((↑i : Int) + 1) = (↑(i + 1) : Int))) (List.set x q2 (wrap u32 (List.getD x q2 0 + List.getD st q2 0)) = x' ∧ q4 ∧ st = st ∧ Z1) False) False) False) False) False) False) False) (x = x ∧ q4 ∧ st = st ∧ Z2)) (by kernel_rfl) ?_
 conv => zeta
 try simp only [Zc]
 try simp only [Zi]
 try simp only [Ze]
 try simp only [Zj]
 try simp only [Zk]
 try simp only [Zd]
 try simp only [Int.toNat_natCast, Nat.zero_add, true_and, and_true, Nat.le_refl]
 have hw : i64.wrap ((i : Int) + 1) = ((i + 1 : Nat) : Int) := w64 (by omega)
 refine ⟨fun hlt => ?_, fun hge => h2 (by omega)⟩
 rw [hw]
 repeat' (first | (refine And.intro ?_ ?_) | intro _)
 all_goals first | omega | exact hx.symm | exact h1 (by omega) | trivial
def ZgL (M P : Int → Int → Int → Int) (st m : List Int) : Nat → St → KE → Prop := goM 0 (prT st WR m st 0) (st.length = 8) (ZT 2 64 9 (fun i => i < 64) (fun i => i = 64) (fun _ => False) (fun _ => False) (fun i => prU st (U1 M P m st i)) (fun i => prU st (U1 M P m st i)) (fun i => prU st (U1 M P m st i)))
theorem Ze4 (st m : List Int) : ((E54 X7 X2).withL 138 2 (ZgL X7 X2 st m)).Ok := by
 unfold ZgL
 refine Za.withGoM (N := 20) (S := fun i => prT st WR m (U1 X7 X2 m st i) i) ZgK (by kernel_rfl) fun hC => ⟨rfl, fun i hi hgo => ?_⟩
 obtain ⟨x0, x1, x2, x3, x4, x5, x6, x7, e⟩ := eight _ (QI (M := X7) (P := X2) (m := m) hC i)
 show Zz _ 20 138 2 0 (prT st WR m (U1 X7 X2 m st i) i) (rdM 0 2 9 (prT st WR m (Z0F X7 X2 (WR.getD i 0) (m.getD i 0) (U1 X7 X2 m st i)) (i + 1)) _ _ _ _ _ _ _)
 rw [e]
 exact Zki X7 X2 st WR m _ x0 x1 x2 x3 x4 x5 x6 x7 i _ _ hi rfl (fun h => ⟨h, h⟩) (fun h => h)
def ZgM (st x : List Int) : Nat → St → KE → Prop := goM 0 (prV st x 0) (st.length = 8 ∧ x.length = 8) (ZT 4 8 9 (fun i => i < 8) (fun i => i = 8) (fun _ => False) (fun _ => False) (fun i => prU st (WS st x i)) (fun i => prU st (WS st x i)) (fun i => prU st (WS st x i)))
theorem Ze5 (st x : List Int) : (G0.withL 138 4 (ZgM st x)).Ok := by
 unfold ZgM
 refine Za.withGoM (N := 20) (S := fun i => prV st (WS st x i) i) Zv (by kernel_rfl) fun hC => ⟨rfl, fun i hi hgo => ?_⟩
 exact Zkj st (WS st x i) (WS st x (i + 1)) i _ _ hi (Z2l hC.2 i) hC.1 rfl (fun h => ⟨h, h⟩) (fun h => h)
noncomputable def ZgN (M P : Int → Int → Int → Int) (st bl m x : List Int) : Za := ((ZgJ st bl).withL 138 2 (ZgL M P st m)).withL 138 4 (ZgM st x)
theorem Ze6 (st bl m x : List Int) : (ZgN X7 X2 st bl m x).Ok := by
 unfold ZgN
 exact Za.withL_join (H := G0) (Za.withL_join (H := E54 X7 X2) (Ze3 st bl) rfl (Ze4 st m)) rfl (Ze5 st x)
@[irreducible] def Xq (st bl : List Int) : List Int := WS st (U1 X7 X2 (XO bl 64) st 64) 8
attribute [irreducible] XO U1 WS
theorem Zkk (M P : Int → Int → Int → Int) (st bl m x r : List Int) (hst : st.length = 8) (hm : m = XO bl 64) (hx : x = U1 M P m st 64) (hr : r = WS st x 8) :
  evF (ZgN M P st bl m x) 20 138 [.agg [.arr .u32 8 st], .agg [.arr .u8 64 bl]] ⟨0, []⟩ (Yd 0 [] (.agg [.arr .u32 8 r]) 0 []) := by
 refine @Eq.mpr _ ((0 : Int) :: (0 : Int) :: (0 : Int) :: (0 : Int) :: (0 : Int) :: (0 : Int) :: (0 : Int) :: (0 : Int) :: (0 : Int) :: (0 : Int) :: (0 : Int) :: (0 : Int) :: (0 : Int) :: (0 : Int) :: (0 : Int) :: (0 : Int) :: (0 : Int) :: (0 : Int) :: (0 : Int) :: (0 : Int) :: (0 : Int) :: (0 : Int) :: (0 : Int) :: (0 : Int) :: (0 : Int) :: (0 : Int) :: (0 : Int) :: (0 : Int) :: (0 : Int) :: (0 : Int) :: (0 : Int) :: (0 : Int) :: Z6 = (0 : Int) :: (0 : Int) :: (0 : Int) :: (0 : Int) :: (0 : Int) :: (0 : Int) :: (0 : Int) :: (0 : Int) :: (0 : Int) :: (0 : Int) :: (0 : Int) :: (0 : Int) :: (0 : Int) :: (0 : Int) :: (0 : Int) :: (0 : Int) :: (0 : Int) :: (0 : Int) :: (0 : Int) :: (0 : Int) :: (0 : Int) :: (0 : Int) :: (0 : Int) :: (0 : Int) :: (0 : Int) :: (0 : Int) :: (0 : Int) :: (0 : Int) :: (0 : Int) :: (0 : Int) :: (0 : Int) :: (0 : Int) :: Z6 ∧
 [(0 : Int), (0 : Int), (0 : Int), (0 : Int), (0 : Int), (0 : Int), (0 : Int), (0 : Int)] = [(0 : Int), (0 : Int), (0 : Int), (0 : Int), (0 : Int), (0 : Int), (0 : Int), (0 : Int)] ∧
 bl = bl ∧
 st = st ∧
 True ∧
 ∀ (i : Nat),
 i ≤ (64 : Nat) →
 (∀ (j : Nat), j < i → (fun (i : Nat) => i < (64 : Nat)) j) →
 (i = (64 : Nat) →
 st = st ∧
 [(1116352408 : Int), (1899447441 : Int), (3049323471 : Int), (3921009573 : Int), (961987163 : Int), (1508970993 : Int), (2453635748 : Int), (2870763221 : Int), (3624381080 : Int), (310598401 : Int), (607225278 : Int), (1426881987 : Int), (1925078388 : Int), (2162078206 : Int), (2614888103 : Int), (3248222580 : Int), (3835390401 : Int), (4022224774 : Int), (264347078 : Int), (604807628 : Int), (770255983 : Int), (1249150122 : Int), (1555081692 : Int), (1996064986 : Int), (2554220882 : Int), (2821834349 : Int), (2952996808 : Int), (3210313671 : Int), (3336571891 : Int), (3584528711 : Int), (113926993 : Int), (338241895 : Int), (666307205 : Int), (773529912 : Int), (1294757372 : Int), (1396182291 : Int), (1695183700 : Int), (1986661051 : Int), (2177026350 : Int), (2456956037 : Int), (2730485921 : Int), (2820302411 : Int), (3259730800 : Int), (3345764771 : Int), (3516065817 : Int), (3600352804 : Int), (4094571909 : Int), (275423344 : Int), (430227734 : Int), (506948616 : Int),
 (659060556 : Int), (883997877 : Int), (958139571 : Int), (1322822218 : Int), (1537002063 : Int), (1747873779 : Int), (1955562222 : Int), (2024104815 : Int), (2227730452 : Int), (2361852424 : Int), (2428436474 : Int), (2756734187 : Int), (3204031479 : Int), (3329325298 : Int)] =
 WR ∧
 XO bl i = m ∧
 [(0 : Int), (0 : Int), (0 : Int), (0 : Int), (0 : Int), (0 : Int), (0 : Int), (0 : Int)] = [(0 : Int), (0 : Int), (0 : Int), (0 : Int), (0 : Int), (0 : Int), (0 : Int), (0 : Int)] ∧ st = st ∧ List.length st = (8 : Nat) ∧ ∀ (i : Nat), i ≤ (64 : Nat) → (∀ (j : Nat), j < i → (fun (i : Nat) => i < (64 : Nat)) j) → (i = (64 : Nat) → U1 M P m st i = x ∧ [(0 : Int), (0 : Int), (0 : Int), (0 : Int), (0 : Int), (0 : Int), (0 : Int), (0 : Int)] = [(0 : Int), (0 : Int), (0 : Int), (0 : Int), (0 : Int), (0 : Int), (0 : Int), (0 : Int)] ∧ st = st ∧ (List.length st = (8 : Nat) ∧ List.length x = (8 : Nat)) ∧ ∀ (i : Nat), i ≤ (8 : Nat) → (∀ (j : Nat), j < i → (fun (i : Nat) => i < (8 : Nat)) j) → (i = (8 : Nat) → WS st x i = r ∧ True) ∧ (False → [(0 : Int), (0 : Int), (0 : Int), (0 : Int), (0 : Int), (0 : Int), (0 : Int), (0 : Int)] = r ∧ True) ∧ (False → False)) ∧ (False → [(0 : Int), (0 : Int), (0 : Int), (0 : Int), (0 : Int), (0 : Int), (0 : Int), (0 : Int)] = r ∧ True) ∧ (False → False)) ∧
 (False → [(0 : Int), (0 : Int), (0 : Int), (0 : Int), (0 : Int), (0 : Int), (0 : Int), (0 : Int)] = r ∧ True) ∧ (False → False)) (by kernel_rfl) ?_
 try simp only [Zc]
 try simp only [Zi]
 try simp only [Ze]
 try simp only [Zj]
 try simp only [Zk]
 try simp only [Zd]
 try simp only [Int.toNat_natCast, Nat.zero_add, true_and, and_true, Nat.le_refl]
 subst hm
 have hl : x.length = 8 := by rw [hx]; exact QI hst _
 exact fun i _ _ => ⟨fun he => ⟨by kernel_rfl, by rw [he], hst, fun j _ _ => ⟨fun hj => ⟨by rw [hj, hx], ⟨hst, hl⟩, fun q _ _ => ⟨fun hq => by rw [hq, hr], fun h => h.elim, fun h => h⟩⟩, fun h => h.elim, fun h => h⟩⟩, fun h => h.elim, fun h => h⟩
theorem Z5I (st bl : List Int) (h : st.length = 8) : ZB PP 138 [.agg [.arr .u32 8 st], .agg [.arr .u8 64 bl]] (.agg [.arr .u32 8 (Xq st bl)]) 0 [] := by
 unfold Xq
 exact .ev (Ze6 st bl _ _) (Zkk X7 X2 st bl _ _ _ h rfl rfl rfl)
theorem Z4v {st bl : List Int} (h : st.length = 8) : (Xq st bl).length = 8 := by unfold Xq; exact Z2l (QI h _) _
end Go.Tk
end
section
namespace Go.Tk
open IntKind (i64 u8 u32 u64 wrap)
def Ze7 (n i : Int) : Int := u8.wrap (Int.tmod (Zp .u64 (u64.wrap (u64.wrap n * 8)) (u64.wrap (i64.wrap (56 - i64.wrap (8 * i))))) 256)
def Xt (n : Int) : Nat → List Int
 | 0 => []
 | i + 1 => Xt n i ++ [Ze7 n i]
theorem Z2m (n : Int) : ∀ i, (Xt n i).length = i
 | 0 => rfl
 | i + 1 => by rw [Xt, List.length_append, Z2m n i]; rfl
def paS (bs ys : List Int) (n L i : Nat) : St := ⟨39, [(5, .int .i64 i), (4, .nslice ⟨3, 0, 0, 0, 0⟩ 1 L L), (0, .vints .u8 bs n)], ⟨4, [(3, .ints .u8 ys)]⟩, []⟩
theorem ZiT (bs ys zs : List Int) (n L L' i : Nat) (Z1 Z2 : Prop) (hi : i ≤ 8) (hL : ys.length = L) (hb : L < 10000000000000) (hz : zs = ys ++ [Ze7 n i]) (hL' : L' = zs.length) (h1 : i < 8 → Z1) (h2 : i = 8 → Z2) :
  Zz G0 20 137 0 0 (paS bs ys n L i) (rdM 0 0 9 (paS bs zs n L' (i + 1)) (paS bs ys n L i) (paS bs ys n L i) (paS bs ys n L i) Z1 Z2 False False) := by
 refine @Eq.mpr _ (let q1 := wrap u64 (wrap i64 (56 - wrap i64 (8 * (↑i : Int))));
 let q2 := ys ++ [wrap u8 (Int.tmod (Zp u64 (wrap u64 (wrap u64 (↑n : Int) * 8)) q1) 256)];
 let q3 := List.length q2;
 let q4 := decide (n = n);
 Z0 (decide ((↑i : Int) < 8)) (Z0 (decide (0 ≤ q1)) (Z0 (decide (u8 = u8 ∧ List.length ys = L)) (Z0 (decide (q3 * 1 ≤ 140737488355328)) (Z0 (decide (wrap i64 ((↑i : Int) + 1) = (↑(i + 1) : Int))) (Z0 (decide (q3 = L')) (Z0 (decide (L' ≤ q3)) (bs = bs ∧ Z0 q4 (q2 = zs ∧ Z1) False) False) False) False) False) False) False) (Z0 (decide ((↑i : Int) = (↑i : Int))) (Z0 (decide (L = L)) (Z0 (decide (L ≤ L)) (bs = bs ∧ Z0 q4 (ys = ys ∧ Z2) False) False) False) False)) (by kernel_rfl) ?_
 conv => zeta
 try simp only [Zc]
 try simp only [Zi]
 try simp only [Ze]
 try simp only [Zj]
 try simp only [Zk]
 try simp only [Zd]
 try simp only [Int.toNat_natCast, Nat.zero_add, true_and, and_true, Nat.le_refl]
 have hw : i64.wrap ((i : Int) + 1) = ((i + 1 : Nat) : Int) := w64 (by omega)
 refine ⟨fun hlt => ?_, fun hge => h2 (by omega)⟩
 have hz' : zs.length = L + 1 := by rw [hz, List.length_append, hL]; rfl
 have h0 : 0 ≤ u64.wrap (i64.wrap (56 - i64.wrap (8 * (i : Int)))) := by
  unfold wrap
  simp [IntKind.bits, IntKind.signed]
  omega
 simp only [List.length_append, List.length_cons, List.length_nil]
 rw [hw]
 repeat' (first | (refine And.intro ?_ ?_) | intro _)
 all_goals first | exact h0 | omega | exact hz.symm | exact h1 (by omega) | trivial
noncomputable def ZgO (bs y : List Int) (n : Nat) : Za := G0.withL 137 0 (goM 0 (paS bs (y ++ Xt n 0) n (y ++ Xt n 0).length 0) (y.length ≤ 1000000000000) (ZT 0 8 9 (fun i => i < 8) (fun i => i = 8) (fun _ => False) (fun _ => False) (fun i => paS bs (y ++ Xt n i) n (y ++ Xt n i).length i) (fun i => paS bs (y ++ Xt n i) n (y ++ Xt n i).length i) (fun i => paS bs (y ++ Xt n i) n (y ++ Xt n i).length i)))
theorem Ze8 (bs y : List Int) (n : Nat) : (ZgO bs y n).Ok := by
 unfold ZgO
 refine Za.withGoM (N := 20) (S := fun i => paS bs (y ++ Xt n i) n (y ++ Xt n i).length i) Zv (by kernel_rfl) fun hC => ⟨rfl, fun i hi hgo => ?_⟩
 have hl : (y ++ Xt n i).length = y.length + i := by rw [List.length_append, Z2m]
 exact ZiT bs (y ++ Xt n i) (y ++ Xt n (i + 1)) n _ _ i _ _ hi rfl (by omega) (by rw [Xt, List.append_assoc]) rfl (fun h => ⟨h, h⟩) (fun h => h)
def Z0R (n : Nat) : List Int := List.replicate (Int.tmod (i64.wrap (128 - Int.tmod (i64.wrap ((n : Int) + 9)) 64)) 64).toNat 0
@[irreducible] def U2 (bs : List Int) : List Int := (bs ++ [128] ++ Z0R bs.length) ++ Xt bs.length 8
theorem Ze9 (n : Nat) (h : n ≤ 100000000000) : Int.tmod (i64.wrap (128 - Int.tmod (i64.wrap ((n : Int) + 9)) 64)) 64 = (128 - ((n : Int) + 9) % 64) % 64 := by
 have e1 : i64.wrap ((n : Int) + 9) = (n : Int) + 9 := w64 (by omega)
 have e2 : Int.tmod ((n : Int) + 9) 64 = ((n : Int) + 9) % 64 := tm (by omega)
 have e3 : i64.wrap (128 - ((n : Int) + 9) % 64) = 128 - ((n : Int) + 9) % 64 := w64 (by omega)
 rw [e1, e2, e3, tm (by omega)]
theorem ZbO (n : Nat) (h : n ≤ 100000000000) : (Z0R n).length ≤ 64 := by
 unfold Z0R
 rw [Ze9 n h, List.length_replicate]
 omega
theorem ZiU (bs y r : List Int) (n L : Nat) (hn : bs.length = n) (hb : n ≤ 100000000000) (hy : y = bs ++ [128] ++ Z0R n) (hr : r = y ++ Xt n 8) (hL : L = r.length) :
  evF (ZgO bs y n) 20 137 [.vints .u8 bs n] ⟨0, []⟩ (Ym 0 (.ret (.nslice ⟨0, 0, 0, 0, 0⟩ 1 L L)) 1 [(0, .ints .u8 r)]) := by
 refine @Eq.mpr _ (let q1 := [] ++ List.take n bs;
 let q2 := List.length q1;
 let q3 := q1 ++ [(128 : Int)];
 let q4 := List.length q3;
 let q5 := Int.tmod (wrap i64 (128 - Int.tmod (wrap i64 (↑n + 9)) 64)) 64;
 let q6 := Int.toNat q5;
 let q7 := q3 ++ List.replicate q6 0;
 let q8 := List.length q7;
 let q9 := y ++ Xt (↑n) 0;
 let q10 := List.length q9;
 Z0 (decide (q2 * 1 ≤ 140737488355328))
 (Z0 (decide (u8 = u8 ∧ q2 = q2))
 (Z0 (decide (q4 * 1 ≤ 140737488355328))
 (Z0 (decide (u8 = u8 ∧ q4 = q4))
 (Z0 (decide ((0 : Int) = 0 ∧ 0 ≤ q5 ∧ (q4 + q6) * 1 ≤ 140737488355328))
 (Z0 (decide (q8 = q10))
 (Z0 (decide (q10 ≤ q8))
 (bs = bs ∧
 Z0 (decide (n = n))
 (q7 = q9 ∧
 List.length y ≤ 1000000000000 ∧
 ∀ (i : Nat),
 let q21 := y ++ Xt (↑n) i;
 let q22 := List.length q21;
 i ≤ 8 → (∀ (j : Nat), j < i → (fun (i : Nat) => i < 8) j) → (i = 8 → Z0 (decide (q22 = L)) (Z0 (decide (L ≤ q22)) (q21 = r ∧ True) False) False) ∧ (False → False) ∧ (False → False))
 False)
 False)
 False)
 False)
 False)
 False)
 False)
 False) (by kernel_rfl) ?_
 conv => zeta
 try simp only [Zc]
 try simp only [Zi]
 try simp only [Ze]
 try simp only [Zj]
 try simp only [Zk]
 try simp only [Zd]
 try simp only [Int.toNat_natCast, Nat.zero_add, true_and, and_true, Nat.le_refl]
 have ht : List.take n bs = bs := by rw [← hn]; exact List.take_length
 have hz := ZbO n hb
 have hx := Ze9 n hb
 have e0 : [] ++ List.take n bs ++ [128] ++ List.replicate (Int.tmod (i64.wrap (128 - Int.tmod (i64.wrap ((n : Int) + 9)) 64)) 64).toNat 0 = y ++ Xt n 0 := by rw [ht, hy]; simp [Z0R, Xt]
 have hyl : y.length = n + 1 + (Z0R n).length := by rw [hy, List.length_append, List.length_append, hn]; rfl
 subst hL hr
 simp only [e0, ht, List.length_append, List.length_cons, List.length_nil, hn, List.nil_append]
 refine ⟨by omega, by omega, ⟨by omega, by omega⟩, ?_, ?_, ?_, by omega, fun i hi _ => ⟨fun he => by subst he; exact ⟨rfl, Nat.le_refl _, rfl⟩, fun h => h, fun h => h⟩⟩
 ·rw [hyl]; unfold Z0R Xt; rfl
 ·rw [hyl]; unfold Z0R Xt; exact Nat.le_refl _
 ·rw [hy]; simp [Z0R, Xt]
theorem Z9y (bs : List Int) (h : bs.length ≤ 100000000000) : ZB PP 137 [.vints .u8 bs bs.length] (.nslice ⟨0, 0, 0, 0, 0⟩ 1 (U2 bs).length (U2 bs).length) 1 [(0, .ints .u8 (U2 bs))] := .evM (Ze8 bs _ _) (ZiU bs _ _ _ _ rfl h rfl (by unfold U2; rfl) rfl)
def Zfw (P : List Int → List Int) (B : Nat) : Y6 := fun args h K => ZL none h true 20 args fun a => Vs a fun xs => Zs (xs.length ≤ B) (K (.ret (.nslice ⟨h.next, 0, 0, 0, 0⟩ 1 (P xs).length (P xs).length)) ⟨h.next + 1, (h.next, .ints .u8 (P xs)) :: h.bs⟩)
theorem ZbP (B : Nat) (hB : B ≤ 100000000000) (args : List AV) (h : Z7) (K : KO) (hl : Zfw U2 B args h K) : Zh PP 137 args h K := by
 refine ZB.fsumm (d := 20) (Zq _ _ _ _ _ hl fun a ha => ?_)
 obtain ⟨xs, rfl, hK⟩ := Xz ha
 obtain ⟨hx, hK⟩ := Z9 hK
 exact ⟨_, _, _, _, Z9y xs (Nat.le_trans hx hB), rfl, ⟨Nat.one_pos, .ints _ _, trivial⟩, hK⟩
def toE (x d : Int) : Int := u8.wrap (Int.tmod (u32.wrap (Int.tdiv x d)) 256)
def toN (x : List Int) : Nat → List Int
 | 0 => Z6
 | i + 1 => ((((toN x i).set (4 * i) (u8.wrap (u32.wrap (Int.tdiv (x.getD i 0) 16777216)))).set (4 * i + 1) (toE (x.getD i 0) 65536)).set (4 * i + 2) (toE (x.getD i 0) 256)).set (4 * i + 3) (u8.wrap (Int.tmod (x.getD i 0) 256))
theorem Z4w (x : List Int) : ∀ i, (toN x i).length = 32
 | 0 => rfl
 | i + 1 => by simp [toN, Z4w x i]
def toS (x h : List Int) (i : Nat) : St := ⟨47, [(4, .int .i64 i), (1, pt 0), (3, pt 2), (2, pt 1)], ⟨3, [(2, .flat [.arr .u8 32 h]), (1, .flat [.arr .u8 32 Z6]), (0, .flat [.arr .u32 8 x])]⟩, []⟩
theorem Zkl (x h h' : List Int) (i : Nat) (Z1 Z2 : Prop) (hi : i ≤ 8) (hl : h.length = 32) (hh : h' = (((h.set (4 * i) (u8.wrap (u32.wrap (Int.tdiv (x.getD i 0) 16777216)))).set (4 * i + 1) (toE (x.getD i 0) 65536)).set (4 * i + 2) (toE (x.getD i 0) 256)).set (4 * i + 3) (u8.wrap (Int.tmod (x.getD i 0) 256))) (h1 : i < 8 → Z1) (h2 : i = 8 → Z2) :
  Zz G0 20 139 0 0 (toS x h i) (rdM 0 0 9 (toS x h' (i + 1)) (toS x h i) (toS x h i) (toS x h i) Z1 Z2 False False) := by
 refine @Eq.mpr _ (let q1 := decide (0 ≤ (↑i : Int) ∧ (↑i : Int) < 8);
 let q2 := 0 + Int.toNat (↑i : Int);
 let q3 := decide (q2 < 8);
 let q4 := wrap i64 (4 * (↑i : Int));
 let q5 := 0 + Int.toNat q4;
 let q6 := wrap i64 (q4 + 1);
 let q7 := 0 + Int.toNat q6;
 let q8 := List.getD x q2 0;
 let q9 := List.set h q5 (wrap u8 (wrap u32 (Int.tdiv q8 16777216)));
 let q10 := wrap i64 (q4 + 2);
 let q11 := 0 + Int.toNat q10;
 let q12 := List.set q9 q7 (wrap u8 (Int.tmod (wrap u32 (Int.tdiv q8 65536)) 256));
 let q13 := wrap i64 (q4 + 3);
 let q14 := 0 + Int.toNat q13;
 let q15 := List.set q12 q11 (wrap u8 (Int.tmod (wrap u32 (Int.tdiv q8 256)) 256));
 Z0 (decide ((↑i : Int) < 8)) (Z0 q1 (Z0 q3 (Z0 (decide (0 ≤ q4 ∧ q4 < 32)) (Z0 (decide (u8 = u8 ∧ q5 < 32 ∧ q5 < List.length h)) (Z0 q1 (Z0 q3 (Z0 (decide (0 ≤ q6 ∧ q6 < 32)) (Z0 (decide (u8 = u8 ∧ q7 < 32 ∧ q7 < List.length q9)) (Z0 q1 (Z0 q3 (Z0 (decide (0 ≤ q10 ∧ q10 < 32)) (Z0 (decide (u8 = u8 ∧ q11 < 32 ∧ q11 < List.length q12)) (Z0 q1 (Z0 q3 (Z0 (decide (0 ≤ q13 ∧ q13 < 32)) (Z0 (decide (u8 = u8 ∧ q14 < 32 ∧ q14 < List.length q15)) (Z0 (decide (wrap i64 ((↑i : Int) + 1) = (↑(i + 1) : Int))) (List.set q15 q14 (wrap u8 (Int.tmod q8 256)) = h' ∧ Z6 = Z6 ∧ x = x ∧ Z1) False) False) False) False) False) False) False) False) False) False) False) False) False) False) False) False) False) (Z0 (decide ((↑i : Int) = (↑i : Int))) (h = h ∧ Z6 = Z6 ∧ x = x ∧ Z2) False)) (by kernel_rfl) ?_
 conv => zeta
 try simp only [Zc]
 try simp only [Zi]
 try simp only [Ze]
 try simp only [Zj]
 try simp only [Zk]
 try simp only [Zd]
 try simp only [Int.toNat_natCast, Nat.zero_add, true_and, and_true, Nat.le_refl]
 have hw : i64.wrap ((i : Int) + 1) = ((i + 1 : Nat) : Int) := w64 (by omega)
 refine ⟨fun hlt => ?_, fun hge => h2 (by omega)⟩
 have e0 : i64.wrap (4 * (i : Int)) = ((4 * i : Nat) : Int) := by rw [w64 (by omega)]; omega
 have e1 : i64.wrap (((4 * i : Nat) : Int) + 1) = ((4 * i + 1 : Nat) : Int) := by rw [w64 (by omega)]; omega
 have e2 : i64.wrap (((4 * i : Nat) : Int) + 2) = ((4 * i + 2 : Nat) : Int) := by rw [w64 (by omega)]; omega
 have e3 : i64.wrap (((4 * i : Nat) : Int) + 3) = ((4 * i + 3 : Nat) : Int) := by rw [w64 (by omega)]; omega
 simp only [e0, e1, e2, e3, hw, Int.toNat_natCast, List.length_set]
 repeat' (first | (refine And.intro ?_ ?_) | intro _)
 all_goals first | omega | exact hh.symm | exact h1 (by omega) | trivial
noncomputable def ZgP (x : List Int) : Za := G0.withL 139 0 (goM 0 (toS x Z6 0) True (ZT 0 8 9 (fun i => i < 8) (fun i => i = 8) (fun _ => False) (fun _ => False) (fun i => toS x (toN x i) i) (fun i => toS x (toN x i) i) (fun i => toS x (toN x i) i)))
theorem Zea (x : List Int) : (ZgP x).Ok := by
 unfold ZgP
 refine Za.withGoM (N := 20) (S := fun i => toS x (toN x i) i) Zv (by kernel_rfl) fun hC => ⟨rfl, fun i hi hgo => ?_⟩
 exact Zkl x (toN x i) (toN x (i + 1)) i _ _ hi (Z4w x i) rfl (fun h => ⟨h, h⟩) (fun h => h)
@[irreducible] def Vy (x : List Int) : List Int := toN x 8
attribute [irreducible] toN
theorem Zkm (x r : List Int) (hr : r = toN x 8) :
  evF (ZgP x) 20 139 [.agg [.arr .u32 8 x]] ⟨0, []⟩ (Yd 0 [] (.agg [.arr .u8 32 r]) 0 []) := by
 refine @Eq.mpr _ (Z6 = Z6 ∧ Z6 = Z6 ∧ x = x ∧ True ∧ ∀ (i : Nat), i ≤ 8 → (∀ (j : Nat), j < i → (fun (i : Nat) => i < 8) j) → (i = 8 → toN x i = r ∧ True) ∧ (False → Z6 = r ∧ True) ∧ (False → False)) (by kernel_rfl) ?_
 try simp only [Zc]
 try simp only [Zi]
 try simp only [Ze]
 try simp only [Zj]
 try simp only [Zk]
 try simp only [Zd]
 try simp only [Int.toNat_natCast, Nat.zero_add, true_and, and_true, Nat.le_refl]
 subst hr
 exact fun i hi _ => ⟨fun he => by subst he; rfl, fun h => h.elim, fun h => h⟩
def ZbQ (T : List Int → List Int) : ZW := fun args _ K => match args with
 | [.agg [.arr .u32 8 x]] => K (.agg [.arr .u8 32 (T x)])
 | _ => False
theorem ZbR (args : List AV) (h : Z7) (K : AV → Prop) (hl : ZbQ Vy args h K) : Zh PP 139 args h fun o h' => ∃ v, o = .ret v ∧ h' = h ∧ K v := by
 unfold ZbQ at hl
 split at hl
 ·rename_i x
  refine VX (d := 20) (K0 := fun l => l = [.agg [.arr .u32 8 x]]) ?_ fun l e => ⟨_, by rw [e]; exact (by unfold Vy; exact .ev (Zea x) (Zkm x _ rfl)), fun _ => rfl, hl⟩
  rfl
 ·exact hl.elim
end Go.Tk
end
section
namespace Go.Tk
open IntKind (i64 u8 u32 u64 wrap)
def Z4x (P : List Int → List Int → List Int) : ZW := fun args _ K => match args with
 | [.agg [.arr .u32 8 st], .agg [.arr .u8 64 bl]] => Zs (st.length = 8) (K (.agg [.arr .u32 8 (P st bl)]))
 | _ => False
structure Uq (P : List Int → List Int → List Int) : Prop where
 pure : ∀ st bl, st.length = 8 → ZB PP 138 [.agg [.arr .u32 8 st], .agg [.arr .u8 64 bl]] (.agg [.arr .u32 8 (P st bl)]) 0 []
 len : ∀ st bl, st.length = 8 → (P st bl).length = 8
theorem Z7m {P : List Int → List Int → List Int} (hP : Uq P) (args : List AV) (h : Z7) (K : AV → Prop) (hl : Z4x P args h K) : Zh PP 138 args h fun o h' => ∃ v, o = .ret v ∧ h' = h ∧ K v := by
 unfold Z4x at hl
 split at hl
 ·rename_i st bl
  obtain ⟨hs, hK⟩ := Z9 hl
  refine VX (d := 20) (K0 := fun l => l = [.agg [.arr .u32 8 st], .agg [.arr .u8 64 bl]]) ?_ fun l e => ⟨_, by rw [e]; exact hP.pure st bl hs, fun _ => rfl, hK⟩
  rfl
 ·exact hl.elim
noncomputable def E56 (P : List Int → List Int → List Int) (Q : List Int → List Int) (T : List Int → List Int) (B : Nat) : Za := ((G0.withP 138 (Z4x P)).withF 137 (Zfw Q B)).withP 139 (ZbQ T)
theorem ZgQ {P : List Int → List Int → List Int} (hP : Uq P) {B : Nat} (hB : B ≤ 100000000000) : (E56 P U2 Vy B).Ok := Za.withP_ok (Za.withF_ok (Za.withP_ok Zv (Z7m hP)) (ZbP B hB)) ZbR
def Zeb (ys st : List Int) (o n : Nat) : St := ⟨21, [(4, .nslice ⟨3, 0, 0, 0, o⟩ 1 n n), (3, pt 2), (2, pt 0)], ⟨4, [(3, .ints .u8 ys), (2, .flat [.arr .u32 8 st]), (0, .flat [.arr .u8 32 Z6])]⟩, []⟩
def Z9z (st : List Int) : St := ⟨21, [(3, pt 2), (2, pt 0)], ⟨4, [(2, .flat [.arr .u32 8 st]), (0, .flat [.arr .u8 32 Z6])]⟩, []⟩
theorem ZiV (P : List Int → List Int → List Int) (Q : List Int → List Int) (T : List Int → List Int) (B : Nat) (ys st st' : List Int) (o o' n n' k i : Nat) (Z1 Z2 : Prop) (hi : i ≤ k) (hk : ys.length = 64 * k) (ho : o = 64 * i) (ho' : o' = 64 * (i + 1)) (hn : n = 64 * k - 64 * i) (hn' : n' = 64 * k - 64 * (i + 1)) (hs : st.length = 8) (hst : st' = P st ((ys.drop o).take 64)) (h1 : i < k → Z1) (h2 : i = k → Z2) :
  Zz (E56 P Q T B) 20 91 0 0 (Zeb ys st o n) (rdM 0 0 9 (Zeb ys st' o' n') (Z9z st) (Z9z st) (Z9z st) Z1 Z2 False False) := by
 refine @Eq.mpr _ (let q1 := decide (n ≤ n);
 let q2 := decide ((0 : Int) ≤ 64 ∧ 64 ≤ (↑n : Int));
 let q3 := Qs n (some 64);
 Z0 (decide ((↑n : Int) > 0)) (Z0 q1 (Z0 q2 (Z0 (decide (o + 0 + 64 ≤ List.length ys)) (Z0 (decide (List.length st = 8)) (Z0 q1 (Z0 q2 (Z0 (decide (o + 64 = o')) (Z0 (decide (q3 = n')) (Z0 (decide (n' ≤ q3)) (ys = ys ∧ P st (List.take 64 (List.drop (o + 0) ys)) = st' ∧ Z6 = Z6 ∧ Z1) False) False) False) False) False) False) False) False) False) (st = st ∧ Z6 = Z6 ∧ Z2)) (by kernel_rfl) ?_
 conv => zeta
 try simp only [Zc]
 try simp only [Zi]
 try simp only [Ze]
 try simp only [Zj]
 try simp only [Zk]
 try simp only [Zd]
 try simp only [Int.toNat_natCast, Nat.zero_add, true_and, and_true, Nat.le_refl]
 refine ⟨fun hlt => ?_, fun hge => h2 (by omega)⟩
 have e1 : n - 64 = n' := by omega
 have e2 : o + 64 = o' := by omega
 simp only [Qs, e1, e2, Nat.add_zero]
 repeat' (first | (refine And.intro ?_ ?_) | intro _)
 all_goals first | omega | exact hst.symm | exact h1 (by omega) | trivial
def UA (P : List Int → List Int → List Int) (ys : List Int) : Nat → List Int
 | 0 => Yh.st
 | i + 1 => P (UA P ys i) ((ys.drop (64 * i)).take 64)
theorem Z5J {P : List Int → List Int → List Int} (hP : Uq P) (ys : List Int) : ∀ i, (UA P ys i).length = 8
 | 0 => rfl
 | i + 1 => hP.len _ _ (Z5J hP ys i)
theorem Z3y (P : List Int → List Int → List Int) (ys : List Int) : UA P ys 0 = Yh.st := rfl
theorem Z3z (P : List Int → List Int → List Int) (ys : List Int) (i : Nat) : UA P ys (i + 1) = P (UA P ys i) ((ys.drop (64 * i)).take 64) := rfl
attribute [irreducible] UA
noncomputable def ZgR (P : List Int → List Int → List Int) (Q : List Int → List Int) (T : List Int → List Int) (B : Nat) (ys : List Int) (L k : Nat) : Za := (E56 P Q T B).withL 91 0 (goM 0 (Zeb ys [1779033703, 3144134277, 1013904242, 2773480762, 1359893119, 2600822924, 528734635, 1541459225] 0 L) (ys.length = 64 * k ∧ L = 64 * k) (ZT 0 k 9 (fun i => i < k) (fun i => i = k) (fun _ => False) (fun _ => False) (fun i => Z9z (UA P ys i)) (fun i => Z9z (UA P ys i)) (fun i => Z9z (UA P ys i))))
theorem Zec {P : List Int → List Int → List Int} (hP : Uq P) {B : Nat} (hB : B ≤ 100000000000) (ys : List Int) (L k : Nat) : (ZgR P U2 Vy B ys L k).Ok := by
 unfold ZgR
 refine Za.withGoM (N := 20) (S := fun i => Zeb ys (UA P ys i) (64 * i) (64 * k - 64 * i)) (ZgQ hP hB) (by kernel_rfl) fun hC => ⟨?_, fun i hi hgo => ?_⟩
 ·rw [hC.2, Z3y]; rfl
 ·exact ZiV P U2 Vy B ys (UA P ys i) (UA P ys (i + 1)) _ _ _ _ k i _ _ hi hC.1 rfl rfl rfl rfl (Z5J hP ys i) (Z3z _ _ _) (fun h => ⟨h, h⟩) (fun h => h)
theorem ZiW (P : List Int → List Int → List Int) (Q : List Int → List Int) (T : List Int → List Int) (B : Nat) (bs ys r : List Int) (n L k : Nat) (hn : n = bs.length) (hB : n ≤ B) (hy : ys = Q bs) (hL : L = ys.length) (hk : ys.length = 64 * k) (hr : r = T (UA P ys k)) :
  evF (ZgR P Q T B ys L k) 20 91 [.vints .u8 bs n] ⟨0, []⟩ (Yd 0 [] (.agg [.arr .u8 32 r]) 0 []) := by
 refine @Eq.mpr _ (let q1 := [(1779033703 : Int), 3144134277, 1013904242, 2773480762, 1359893119, 2600822924, 528734635, 1541459225];
 Z0 (decide (n = List.length bs)) (Z0 (decide (List.length bs ≤ B)) (Z0 (decide (List.length (Q bs) = L)) (Z0 (decide (L ≤ List.length (Q bs))) (Q bs = ys ∧ q1 = q1 ∧ Z6 = Z6 ∧ (List.length ys = 64 * k ∧ L = 64 * k) ∧ ∀ (i : Nat), i ≤ k → (∀ (j : Nat), j < i → (fun (i : Nat) => i < k) j) → (i = k → T (UA P ys i) = r ∧ True) ∧ (False → Z6 = r ∧ True) ∧ (False → False)) False) False) False) False) (by kernel_rfl) ?_
 conv => zeta
 try simp only [Zc]
 try simp only [Zi]
 try simp only [Ze]
 try simp only [Zj]
 try simp only [Zk]
 try simp only [Zd]
 try simp only [Int.toNat_natCast, Nat.zero_add, true_and, and_true, Nat.le_refl]
 subst hy hr
 refine ⟨hn, by omega, ?_⟩
 exact ⟨hL.symm, by omega, rfl, ⟨hk, by omega⟩, fun i hi _ => ⟨fun he => by rw [he], fun h => h.elim, fun h => h⟩⟩
theorem ZbS (bs : List Int) (h : bs.length ≤ 100000000000) : (U2 bs).length = 64 * ((U2 bs).length / 64) := by
 have : (U2 bs).length = bs.length + 1 + ((128 - ((bs.length : Int) + 9) % 64) % 64).toNat + 8 := by
  unfold U2 Z0R
  rw [Ze9 _ h]
  simp only [List.length_append, List.length_cons, List.length_nil, Z2m, List.length_replicate]
 omega
@[irreducible] def ZbT (P : List Int → List Int → List Int) (bs : List Int) : List Int := Vy (UA P (U2 bs) ((U2 bs).length / 64))
theorem Z9A {P : List Int → List Int → List Int} (hP : Uq P) (bs : List Int) (h : bs.length ≤ 100000000000) : ZB PP 91 [.vints .u8 bs bs.length] (.agg [.arr .u8 32 (ZbT P bs)]) 0 [] := by
 unfold ZbT
 exact .ev (Zec hP (Nat.le_refl _) _ _ _) (ZiW P U2 Vy 100000000000 bs _ _ _ _ _ rfl h rfl rfl (ZbS bs h) rfl)
def Z5K (H : List Int → List Int) (B : Nat) : ZW := fun args h K => ZL none h true 20 args fun a => Vs a fun xs => Zs (xs.length ≤ B) (K (.agg [.arr .u8 32 (H xs)]))
theorem Z5L {f : FuncId} {H : List Int → List Int} {B : Nat} (hp : ∀ xs : List Int, xs.length ≤ B → ZB PP f [.vints .u8 xs xs.length] (.agg [.arr .u8 32 (H xs)]) 0 []) (args : List AV) (h : Z7) (K : AV → Prop) (hl : Z5K H B args h K) : Zh PP f args h fun o h' => ∃ v, o = .ret v ∧ h' = h ∧ K v := by
 refine ZB.psumm (d := 20) (Zq _ _ _ _ _ hl fun a ha => ?_)
 obtain ⟨xs, rfl, hK⟩ := Xz ha
 obtain ⟨hx, hK⟩ := Z9 hK
 exact ⟨_, hp xs hx, fun _ => rfl, hK⟩
noncomputable def ZgS (H : List Int → List Int) (B : Nat) : Za := G0.withP 91 (Z5K H B)
theorem ZiX (H : List Int → List Int) (B : Nat) (bs r : List Int) (n : Nat) (hn : n = bs.length) (hb : n ≤ B) (h32 : 32 ≤ B) (hl : (H bs).length = 32) (hr : r = H (H bs)) :
  evF (ZgS H B) 20 86 [.vints .u8 bs n] ⟨0, []⟩ (Yd 0 [] (.agg [.arr .u8 32 r]) 0 []) := by
 refine @Eq.mpr _ (let q1 := List.length (H bs);
 Z0 (decide (n = List.length bs)) (Z0 (decide (List.length bs ≤ B)) (Z0 (decide (q1 = 32)) (Z0 (decide (32 = q1)) (Z0 (decide (q1 ≤ B)) (H (H bs) = r ∧ True) False) False) False) False) False) (by kernel_rfl) ?_
 conv => zeta
 try simp only [Zc]
 try simp only [Zi]
 try simp only [Ze]
 try simp only [Zj]
 try simp only [Zk]
 try simp only [Zd]
 try simp only [Int.toNat_natCast, Nat.zero_add, true_and, and_true, Nat.le_refl]
 subst hr
 exact ⟨hn, by omega, hl, hl.symm, by omega, rfl⟩
theorem Z8d {H : List Int → List Int} {B : Nat} (hp : ∀ xs : List Int, xs.length ≤ B → ZB PP 91 [.vints .u8 xs xs.length] (.agg [.arr .u8 32 (H xs)]) 0 []) : (ZgS H B).Ok := Za.withP_ok Zv (Z5L hp)
end Go.Tk
end
section
namespace Go.Tk
open IntKind (i64 u8 u32 u64 wrap)
def kxE (key : List Int) (c : Int) (i : Nat) : Int := if (i : Int) < 32 then Yr .u8 (key.getD i 0) c else c
def kxR (key : List Int) (c : Int) : Nat → List Int
 | 0 => []
 | i + 1 => kxR key c i ++ [kxE key c i]
theorem QJ (key : List Int) (c : Int) : ∀ i, (kxR key c i).length = i
 | 0 => rfl
 | i + 1 => by rw [kxR, List.length_append, QJ key c i]; rfl
def tgS (key ms xs ys : List Int) (i : Nat) : St := ⟨47, [(8, .int .i64 i), (0, .vints .u8 key 32), (6, .nslice ⟨1, 0, 0, 0, 0⟩ 1 i i), (7, .nslice ⟨2, 0, 0, 0, 0⟩ 1 i i), (1, .vints .u8 ms 32), (4, pt 0)], ⟨3, [(2, .ints .u8 ys), (1, .ints .u8 xs), (0, .flat [.arr .u8 32 Z6])]⟩, []⟩
def tgE (ms xs ys : List Int) (i : Nat) : St := ⟨47, [(6, .nslice ⟨1, 0, 0, 0, 0⟩ 1 i i), (7, .nslice ⟨2, 0, 0, 0, 0⟩ 1 i i), (1, .vints .u8 ms 32), (4, pt 0)], ⟨3, [(2, .ints .u8 ys), (1, .ints .u8 xs), (0, .flat [.arr .u8 32 Z6])]⟩, []⟩
theorem Zkn (key ms xs ys xs' ys' : List Int) (i : Nat) (Z1 Z2 : Prop) (hi : i ≤ 64) (hx : xs.length = i) (hy : ys.length = i) (hx' : xs' = xs ++ [kxE key 54 i]) (hy' : ys' = ys ++ [kxE key 92 i]) (h1 : i < 64 → Z1) (h2 : i = 64 → Z2) :
  Zz G0 20 90 0 0 (tgS key ms xs ys i) (rdM 0 0 9 (tgS key ms xs' ys' (i + 1)) (tgE ms xs ys i) (tgE ms xs ys i) (tgE ms xs ys i) Z1 Z2 False False) := by
 refine @Eq.mpr _ (let q1 := decide (u8 = u8 ∧ List.length xs = i);
 let q2 := List.getD key (Int.toNat (↑i : Int)) 0;
 let q3 := xs ++ [Yr u8 q2 54];
 let q4 := List.length q3;
 let q5 := decide (u8 = u8 ∧ List.length ys = i);
 let q6 := ys ++ [Yr u8 q2 92];
 let q7 := List.length q6;
 let q8 := i + 1;
 let q9 := decide (wrap i64 ((↑i : Int) + 1) = (↑q8 : Int));
 let q10 := xs ++ [(54 : Int)];
 let q11 := List.length q10;
 let q12 := ys ++ [(92 : Int)];
 let q13 := List.length q12;
 let q14 := decide (i = i);
 let q15 := decide (i ≤ i);
 Z0 (decide ((↑i : Int) < 64)) (Z0 (decide ((↑i : Int) < 32)) (Z0 (decide (0 ≤ (↑i : Int) ∧ (↑i : Int) < 32)) (Z0 q1 (Z0 (decide (q4 * 1 ≤ 140737488355328)) (Z0 q5 (Z0 (decide (q7 * 1 ≤ 140737488355328)) (Z0 q9 (key = key ∧ Z0 (decide (q4 = q8)) (Z0 (decide (q8 ≤ q4)) (Z0 (decide (q7 = q8)) (Z0 (decide (q8 ≤ q7)) (ms = ms ∧ q6 = ys' ∧ q3 = xs' ∧ Z6 = Z6 ∧ Z1) False) False) False) False) False) False) False) False) False) False) (Z0 q1 (Z0 (decide (q11 * 1 ≤ 140737488355328)) (Z0 q5 (Z0 (decide (q13 * 1 ≤ 140737488355328)) (Z0 q9 (key = key ∧ Z0 (decide (q11 = q8)) (Z0 (decide (q8 ≤ q11)) (Z0 (decide (q13 = q8)) (Z0 (decide (q8 ≤ q13)) (ms = ms ∧ q12 = ys' ∧ q10 = xs' ∧ Z6 = Z6 ∧ Z1) False) False) False) False) False) False) False) False) False)) (Z0 q14 (Z0 q15 (Z0 q14 (Z0 q15 (ms = ms ∧ ys = ys ∧ xs = xs ∧ Z6 = Z6 ∧ Z2) False) False) False) False)) (by kernel_rfl) ?_
 conv => zeta
 try simp only [Zc]
 try simp only [Zi]
 try simp only [Ze]
 try simp only [Zj]
 try simp only [Zk]
 try simp only [Zd]
 try simp only [Int.toNat_natCast, Nat.zero_add, true_and, and_true, Nat.le_refl]
 have hw : i64.wrap ((i : Int) + 1) = ((i + 1 : Nat) : Int) := w64 (by omega)
 refine ⟨fun hlt => ⟨fun h32 => ?_, fun h32 => ?_⟩, fun hge => ?_⟩
 ·unfold kxE at hx' hy'
  rw [if_pos h32] at hx' hy'
  simp only [hw, List.length_append, List.length_cons, List.length_nil, hx, hy]
  repeat' (first | (refine And.intro ?_ ?_) | intro _)
  all_goals first | omega | exact hx'.symm | exact hy'.symm | exact h1 (by omega) | trivial
 ·unfold kxE at hx' hy'
  rw [if_neg h32] at hx' hy'
  simp only [hw, List.length_append, List.length_cons, List.length_nil, hx, hy]
  repeat' (first | (refine And.intro ?_ ?_) | intro _)
  all_goals first | omega | exact hx'.symm | exact hy'.symm | exact h1 (by omega) | trivial
 ·exact h2 (by omega)
noncomputable def E57 (H : List Int → List Int) (B : Nat) (key ms : List Int) : Za := (ZgS H B).withL 90 0 (goM 0 (tgS key ms [] [] 0) True (ZT 0 64 9 (fun i => i < 64) (fun i => i = 64) (fun _ => False) (fun _ => False) (fun i => tgE ms (kxR key 54 i) (kxR key 92 i) i) (fun i => tgE ms (kxR key 54 i) (kxR key 92 i) i) (fun i => tgE ms (kxR key 54 i) (kxR key 92 i) i)))
theorem ZgT {H : List Int → List Int} {B : Nat} (hp : ∀ xs : List Int, xs.length ≤ B → ZB PP 91 [.vints .u8 xs xs.length] (.agg [.arr .u8 32 (H xs)]) 0 []) (key ms : List Int) : (E57 H B key ms).Ok := by
 unfold E57
 refine Za.withL_join (H := G0) (Z8d hp) rfl ?_
 refine Za.withGoM (N := 20) (S := fun i => tgS key ms (kxR key 54 i) (kxR key 92 i) i) Zv (by kernel_rfl) fun hC => ⟨rfl, fun i hi hgo => ?_⟩
 exact Zkn key ms _ _ (kxR key 54 (i + 1)) (kxR key 92 (i + 1)) i _ _ hi (QJ _ _ _) (QJ _ _ _) rfl rfl (fun h => ⟨h, h⟩) (fun h => h)
attribute [irreducible] kxR
theorem Z12 {xs : List Int} {n : Nat} (h : xs.length = n) : List.take n (Y3 0 xs) = xs := by subst h; rw [Ye, List.drop_zero, List.take_length]
theorem Zko (H : List Int → List Int) (B : Nat) (key ms r : List Int) (hk : key.length = 32) (hm : ms.length = 32) (hB : 128 ≤ B) (hl : ∀ x, (H x).length = 32) (hr : r = H (kxR key 92 64 ++ H (kxR key 54 64 ++ ms))) :
  evF (E57 H B key ms) 20 90 [.vints .u8 key 32, .vints .u8 ms 32] ⟨0, []⟩ (Yd 0 [] (.agg [.arr .u8 32 r]) 0 []) := by
 refine @Eq.mpr _ (key = key ∧
 ms = ms ∧
 ([] : List Int) = [] ∧
 ([] : List Int) = [] ∧
 Z6 = Z6 ∧
 True ∧
 ∀ (i : Nat),
 let q1 := [] ++ List.take i (Y3 0 (kxR key 54 i));
 let q2 := List.length q1;
 let q3 := q1 ++ List.take 32 ms;
 let q4 := List.length q3;
 let q5 := List.take q4 (Y3 0 q3);
 let q6 := List.length q5;
 let q7 := [] ++ List.take i (Y3 0 (kxR key 92 i));
 let q8 := List.length q7;
 let q9 := H q5;
 let q10 := q7 ++ q9;
 let q11 := List.length q10;
 let q12 := List.take q11 (Y3 0 q10);
 let q13 := List.length q12;
 i ≤ 64 → (∀ (j : Nat), j < i → (fun (i : Nat) => i < 64) j) → (i = 64 → Z0 (decide (u8 = u8 ∧ 0 + i ≤ List.length (kxR key 54 i))) (Z0 (decide (q2 * 1 ≤ 140737488355328)) (Z0 (decide (u8 = u8 ∧ q2 = q2)) (Z0 (decide (q4 * 1 ≤ 140737488355328)) (Z0 (decide (0 + q4 ≤ q4)) (Z0 (decide (q4 = q6)) (Z0 (decide (q6 ≤ B)) (Z0 (decide (u8 = u8 ∧ 0 + i ≤ List.length (kxR key 92 i))) (Z0 (decide (q8 * 1 ≤ 140737488355328)) (Z0 (decide (u8 = u8 ∧ List.length q9 = 32)) (Z0 (decide (u8 = u8 ∧ q8 = q8)) (Z0 (decide (q11 * 1 ≤ 140737488355328)) (Z0 (decide (0 + q11 ≤ q11)) (Z0 (decide (q11 = q13)) (Z0 (decide (q13 ≤ B)) (H q12 = r ∧ True) False) False) False) False) False) False) False) False) False) False) False) False) False) False) False) ∧ (False → Z6 = r ∧ True) ∧ (False → False)) (by kernel_rfl) ?_
 conv => zeta
 try simp only [Zc]
 try simp only [Zi]
 try simp only [Ze]
 try simp only [Zj]
 try simp only [Zk]
 try simp only [Zd]
 try simp only [Int.toNat_natCast, Nat.zero_add, true_and, and_true, Nat.le_refl]
 refine fun i hi _ => ⟨fun he => ?_, fun h => h.elim, fun h => h⟩
 subst he
 have a1 := QJ key 54 64
 have a2 := QJ key 92 64
 have e1 := Z12 a1
 have e2 := Z12 a2
 have e3 : List.take 32 ms = ms := by rw [← hm]; exact List.take_length
 simp only [e1, e2, e3, List.nil_append, Z12 rfl]
 have l1 := hl (kxR key 54 64 ++ ms)
 subst hr
 simp only [List.length_append, a1, a2, hm, l1]
 repeat' (first | (refine And.intro ?_ ?_) | intro _)
 all_goals first | omega | trivial
@[irreducible] def Z8e (H : List Int → List Int) (key ms : List Int) : List Int := H (kxR key 92 64 ++ H (kxR key 54 64 ++ ms))
theorem Z9B {H : List Int → List Int} {B : Nat} (hp : ∀ xs : List Int, xs.length ≤ B → ZB PP 91 [.vints .u8 xs xs.length] (.agg [.arr .u8 32 (H xs)]) 0 []) (hB : 128 ≤ B) (hl : ∀ x, (H x).length = 32) (key ms : List Int) (h1 : key.length = 32) (h2 : ms.length = 32) : ZB PP 90 [.vints .u8 key 32, .vints .u8 ms 32] (.agg [.arr .u8 32 (Z8e H key ms)]) 0 [] := by
 unfold Z8e
 exact .ev (ZgT hp _ _) (Zko H B _ _ _ h1 h2 hB hl rfl)
def ZbU (T : List Int → List Int → List Int) : ZW := fun args h K => ZL none h true 20 args fun a => match a with
 | [.vints .u8 key len, .vints .u8 ms len'] => Zs (key.length = 32 ∧ len = 32 ∧ ms.length = 32 ∧ len' = 32) (K (.agg [.arr .u8 32 (T key ms)]))
 | _ => False
theorem ZbV {H : List Int → List Int} {B : Nat} (hp : ∀ xs : List Int, xs.length ≤ B → ZB PP 91 [.vints .u8 xs xs.length] (.agg [.arr .u8 32 (H xs)]) 0 []) (hB : 128 ≤ B) (hl : ∀ x, (H x).length = 32) (args : List AV) (h : Z7) (K : AV → Prop) (hl' : ZbU (Z8e H) args h K) : Zh PP 90 args h fun o h' => ∃ v, o = .ret v ∧ h' = h ∧ K v := by
 refine ZB.psumm (d := 20) (Zq _ _ _ _ _ hl' fun a ha => ?_)
 split at ha
 ·obtain ⟨⟨h1, rfl, h2, rfl⟩, hK⟩ := Z9 ha
  exact ⟨_, Z9B hp hB hl _ _ h1 h2, fun _ => rfl, hK⟩
 ·exact ha.elim
@[irreducible] def Vv (H : List Int → List Int) (bs : List Int) : List Int := H (H bs)
theorem Z9C {H : List Int → List Int} {B : Nat} (hp : ∀ xs : List Int, xs.length ≤ B → ZB PP 91 [.vints .u8 xs xs.length] (.agg [.arr .u8 32 (H xs)]) 0 []) (hB : 128 ≤ B) (hl : ∀ x, (H x).length = 32) (args : List AV) (h : Z7) (K : AV → Prop) (hl' : Z5K (Vv H) B args h K) : Zh PP 86 args h fun o h' => ∃ v, o = .ret v ∧ h' = h ∧ K v := by
 refine Z5L (fun xs hx => ?_) args h K hl'
 unfold Vv
 exact .ev (Z8d hp) (ZiX H B xs _ _ rfl hx (by omega) (hl xs) rfl)
end Go.Tk
end
section
namespace Go.Tk
open IntKind (i64 u8 u32 u64 wrap)
def U32 (x : Int) : Prop := 0 ≤ x ∧ x < 4294967296
theorem Z5M (x : Int) : u32.wrap x = x % 4294967296 := by
 unfold wrap
 simp [IntKind.bits, IntKind.signed]
theorem Z0j (x : Int) : U32 (u32.wrap x) := by rw [Z5M]; unfold U32; omega
theorem Xr {x : Int} (h : U32 x) : u32.wrap x = x := by rw [Z5M]; unfold U32 at h; omega
theorem wr8 (x : Int) : u8.wrap x = x % 256 := by
 unfold wrap
 simp [IntKind.bits, IntKind.signed]
theorem ZiY (x y : Int) : U32 (bOr .u32 x y) := Z0j _
theorem Wq (x y : Nat) (hx : x < 4294967296) (hy : y < 4294967296) : Yr .u32 x y = ((x ^^^ y : Nat) : Int) := by
 unfold Yr
 rw [Xr]
 ·show (((BitVec.ofInt 32 (x : Int) ^^^ BitVec.ofInt 32 (y : Int)).toNat : Nat) : Int) = _
  rw [BitVec.toNat_xor, BitVec.ofInt_natCast, BitVec.ofInt_natCast, BitVec.toNat_ofNat, BitVec.toNat_ofNat, Nat.mod_eq_of_lt hx, Nat.mod_eq_of_lt hy]
 ·unfold U32
  have := (BitVec.ofInt u32.bits x ^^^ BitVec.ofInt u32.bits y).isLt
  simp only [IntKind.bits] at this
  simp only [IntKind.bits]
  omega
theorem Z4y (x y : Nat) (hx : x < 4294967296) (hy : y < 4294967296) : bOr .u32 x y = ((x ||| y : Nat) : Int) := by
 unfold bOr
 rw [Xr]
 ·show (((BitVec.ofInt 32 (x : Int) ||| BitVec.ofInt 32 (y : Int)).toNat : Nat) : Int) = _
  rw [BitVec.toNat_or, BitVec.ofInt_natCast, BitVec.ofInt_natCast, BitVec.toNat_ofNat, BitVec.toNat_ofNat, Nat.mod_eq_of_lt hx, Nat.mod_eq_of_lt hy]
 ·unfold U32
  have := (BitVec.ofInt u32.bits x ||| BitVec.ofInt u32.bits y).isLt
  simp only [IntKind.bits] at this
  simp only [IntKind.bits]
  omega
theorem Z2n (x y : Nat) (hx : x < 4294967296) (hy : y < 4294967296) : Z0K .u32 x y = ((x &&& y : Nat) : Int) := by
 unfold Z0K
 rw [Xr]
 ·show (((BitVec.ofInt 32 (x : Int) &&& BitVec.ofInt 32 (y : Int)).toNat : Nat) : Int) = _
  rw [BitVec.toNat_and, BitVec.ofInt_natCast, BitVec.ofInt_natCast, BitVec.toNat_ofNat, BitVec.toNat_ofNat, Nat.mod_eq_of_lt hx, Nat.mod_eq_of_lt hy]
 ·unfold U32
  have := (BitVec.ofInt u32.bits x &&& BitVec.ofInt u32.bits y).isLt
  simp only [IntKind.bits] at this
  simp only [IntKind.bits]
  omega
theorem U32.nat {x : Int} (h : U32 x) : ∃ n : Nat, x = n ∧ n < 4294967296 := ⟨x.toNat, by unfold U32 at h; omega, by unfold U32 at h; omega⟩
theorem U32.of {n : Nat} (h : n < 4294967296) : U32 (n : Int) := by unfold U32; omega
theorem Z9D {x y : Int} : Yr .u32 x y = Yr .u32 y x := by unfold Yr; rw [BitVec.xor_comm]
theorem Z7n {x y z : Int} (hx : U32 x) (hy : U32 y) (hz : U32 z) : Yr .u32 (Yr .u32 x y) z = Yr .u32 x (Yr .u32 y z) := by
 obtain ⟨x, rfl, gx⟩ := hx.nat
 obtain ⟨y, rfl, gy⟩ := hy.nat
 obtain ⟨z, rfl, gz⟩ := hz.nat
 rw [Wq x y gx gy, Wq y z gy gz, Wq _ z (Nat.xor_lt_two_pow (n := 32) gx gy) gz, Wq x _ gx (Nat.xor_lt_two_pow (n := 32) gy gz), Nat.xor_assoc]
theorem Z9E {x : Int} (hx : U32 x) : Yr .u32 0 x = x := by
 obtain ⟨x, rfl, gx⟩ := hx.nat
 have := Wq 0 x (by omega) gx
 simpa using this
theorem Z4z (x n : Nat) (hn : n ≤ 32) : Zp .u32 x n = ((x / 2 ^ n : Nat) : Int) := by
 unfold Zp
 have : min (n : Int).toNat u32.bits = n := by simp [IntKind.bits]; omega
 rw [this, Int.fdiv_eq_ediv_of_nonneg _ (Int.le_of_lt (Int.pow_pos (by decide)))]
 simp
theorem ZiZ {x : Int} (hx : U32 x) (n : Nat) (hn : n ≤ 32) : U32 (Zp .u32 x n) := by
 obtain ⟨x, rfl, gx⟩ := hx.nat
 rw [Z4z x n hn]
 exact U32.of (Nat.lt_of_le_of_lt (Nat.div_le_self x (2 ^ n)) gx)
theorem Z7o (w n : Int) : U32 (Z6P w n) := ZiY _ _
theorem Z8f {w : Int} (hw : U32 w) (a b c : Int) : sg3 a b c w = W4 32 [a, b, c] w := by
 obtain ⟨x, rfl, gx⟩ := hw.nat
 have h0 : Zp .u32 (x : Int) 32 = 0 := by
  rw [show (32 : Int) = ((32 : Nat) : Int) from rfl, Z4z x 32 (by omega), Nat.div_eq_of_lt gx]
  rfl
 unfold sg3 W4
 simp only [List.foldl_cons, List.foldl_nil, h0, Z9E (Z7o _ _)]
theorem Z8g {w : Int} (hw : U32 w) (a b : Int) (n : Nat) (hn : n ≤ 32) : rg3 a b n w = W4 n [a, b] w := by
 have hs := ZiZ hw n hn
 unfold rg3 W4
 simp only [List.foldl_cons, List.foldl_nil]
 rw [Z9D, Z7n hs (Z7o _ _) (Z7o _ _)]
theorem Wa (x i : Nat) (hi : i ≤ 32) : Int.tmod (Zp .u32 x i) 2 = (((x.testBit i).toNat : Nat) : Int) := by
 rw [Z4z x i hi]
 rw [Int.tmod_eq_emod_of_nonneg (Int.natCast_nonneg _), Nat.toNat_testBit]
 rfl
theorem Z4A (b : Bool) (i : Nat) (hi : i < 32) : ZH .u32 ((b.toNat : Nat) : Int) i = ((2 ^ i * b.toNat : Nat) : Int) := by
 unfold ZH
 have : min (i : Int).toNat u32.bits = i := by simp [IntKind.bits]; omega
 rw [this]
 have h2 : (2 : Nat) ^ i < 2 ^ 32 := Nat.pow_lt_pow_right (by decide) hi
 have h3 : ((2 : Nat) ^ i * b.toNat) < 4294967296 := by cases b <;> simp_all
 rw [show ((b.toNat : Nat) : Int) * 2 ^ i = ((2 ^ i * b.toNat : Nat) : Int) by push_cast; rw [Int.mul_comm]]
 exact Xr (U32.of h3)
theorem Z8h (x i : Nat) : x % 2 ^ (i + 1) = x % 2 ^ i + 2 ^ i * (x.testBit i).toNat := by
 rw [Nat.toNat_testBit, Nat.mod_pow_succ]
theorem Z8i (x i : Nat) (hx : x < 4294967296) (hi : i < 32) : u32.wrap (((x % 2 ^ i : Nat) : Int) + ((2 ^ i * (x.testBit i).toNat : Nat) : Int)) = ((x % 2 ^ (i + 1) : Nat) : Int) := by
 rw [Z8h]
 rw [Xr]
 ·push_cast; rfl
 ·rw [show ((x % 2 ^ i : Nat) : Int) + ((2 ^ i * (x.testBit i).toNat : Nat) : Int) = ((x % 2 ^ i + 2 ^ i * (x.testBit i).toNat : Nat) : Int) by push_cast; rfl, ← Z8h]
  exact U32.of (Nat.lt_of_le_of_lt (Nat.mod_le _ _) hx)
theorem Z3A (a b c : Nat) (ha : a < 4294967296) (hb : b < 4294967296) (hc : c < 4294967296) : ∀ i, i ≤ 32 → WI a b c i = (((a &&& (b ||| c) ||| b &&& c) % 2 ^ i : Nat) : Int)
 | 0, _ => by simp [WI, Nat.mod_one]
 | i + 1, hi => by
  have hm : (a &&& (b ||| c) ||| b &&& c) < 4294967296 := Nat.or_lt_two_pow (n := 32) (Nat.lt_of_le_of_lt Nat.and_le_left ha) (Nat.lt_of_le_of_lt Nat.and_le_left hb)
  rw [WI, Z3A a b c ha hb hc i (by omega), Wa a i (by omega), Wa b i (by omega), Wa c i (by omega), ← Z8i _ i hm (by omega)]
  have ht : (a &&& (b ||| c) ||| b &&& c).testBit i = (a.testBit i && (b.testBit i || c.testBit i) || b.testBit i && c.testBit i) := by simp
  rw [ht]
  have h1 := Z4A true i (by omega)
  have hx : u32.wrap (((a &&& (b ||| c) ||| b &&& c) % 2 ^ i : Nat) : Int) = (((a &&& (b ||| c) ||| b &&& c) % 2 ^ i : Nat) : Int) := Xr (U32.of (Nat.lt_of_le_of_lt (Nat.mod_le _ _) hm))
  rw [Z5M, Z5M]
  cases a.testBit i <;> cases b.testBit i <;> cases c.testBit i <;> simp at h1 hx ⊢ <;> first | rw [h1] | rw [hx]
theorem Zed {a b c : Int} (ha : U32 a) (hb : U32 b) (hc : U32 c) : X7 a b c = bOr .u32 (Z0K .u32 a (bOr .u32 b c)) (Z0K .u32 b c) := by
 obtain ⟨a, rfl, ga⟩ := ha.nat
 obtain ⟨b, rfl, gb⟩ := hb.nat
 obtain ⟨c, rfl, gc⟩ := hc.nat
 have h1 := Nat.or_lt_two_pow (n := 32) gb gc
 have h2 : a &&& (b ||| c) < 4294967296 := Nat.lt_of_le_of_lt Nat.and_le_left ga
 have h3 : b &&& c < 4294967296 := Nat.lt_of_le_of_lt Nat.and_le_left gb
 rw [Z4y b c gb gc, Z2n a _ ga h1, Z2n b c gb gc, Z4y _ _ h2 h3]
 unfold X7
 rw [Z3A a b c ga gb gc 32 (by omega), Nat.mod_eq_of_lt]
 exact Nat.or_lt_two_pow (n := 32) h2 h3
theorem Z3B (a b c : Nat) (ha : a < 4294967296) (hb : b < 4294967296) (hc : c < 4294967296) : ∀ i, i ≤ 32 → Vf a b c i = (((c ^^^ (a &&& (b ^^^ c))) % 2 ^ i : Nat) : Int)
 | 0, _ => by simp [Vf, Nat.mod_one]
 | i + 1, hi => by
  have hm : (c ^^^ (a &&& (b ^^^ c))) < 4294967296 := Nat.xor_lt_two_pow (n := 32) hc (Nat.lt_of_le_of_lt Nat.and_le_left ha)
  rw [Vf, Z3B a b c ha hb hc i (by omega), Wa a i (by omega), Wa b i (by omega), Wa c i (by omega), ← Z8i _ i hm (by omega)]
  have ht : (c ^^^ (a &&& (b ^^^ c))).testBit i = (c.testBit i ^^ (a.testBit i && (b.testBit i ^^ c.testBit i))) := by simp
  rw [ht]
  have h1 := Z4A true i (by omega)
  have h0 := Z4A false i (by omega)
  cases a.testBit i <;> cases b.testBit i <;> cases c.testBit i <;> simp at h1 h0 ⊢ <;> first | rw [h1] | rw [h0, Int.add_zero]
theorem Zee {a b c : Int} (ha : U32 a) (hb : U32 b) (hc : U32 c) : X2 a b c = Yr .u32 c (Z0K .u32 a (Yr .u32 b c)) := by
 obtain ⟨a, rfl, ga⟩ := ha.nat
 obtain ⟨b, rfl, gb⟩ := hb.nat
 obtain ⟨c, rfl, gc⟩ := hc.nat
 have h1 := Nat.xor_lt_two_pow (n := 32) gb gc
 have h2 : a &&& (b ^^^ c) < 4294967296 := Nat.lt_of_le_of_lt Nat.and_le_left ga
 rw [Wq b c gb gc, Z2n a _ ga h1, Wq _ _ gc h2]
 unfold X2
 rw [Z3B a b c ga gb gc 32 (by omega), Nat.mod_eq_of_lt]
 exact Nat.xor_lt_two_pow (n := 32) gc h2
theorem Z3C (bl : List Int) (t : Nat) : XO bl (t + 1) = (XO bl t).set t (if t < 16 then Z7l bl t else ZbN (XO bl t) t) := by rw [XO]
theorem Z3D (bl : List Int) (s t : Nat) (hs : s < t) : ∀ u, (XO bl (t + u)).getD s 0 = (XO bl t).getD s 0
 | 0 => rfl
 | u + 1 => by
  rw [← Nat.add_assoc, Z3C, ← Z3D bl s t hs u]
  simp only [List.getD_eq_getElem?_getD]
  rw [List.getElem?_set_ne (by omega)]
@[irreducible] def Z0S (bl : List Int) (t : Nat) : Int := (XO bl 64).getD t 0
theorem QK (bl : List Int) {s t : Nat} (hs : s < t) (ht : t ≤ 64) : (XO bl t).getD s 0 = Z0S bl s := by
 unfold Z0S
 have := Z3D bl s t hs (64 - t)
 rw [show t + (64 - t) = 64 by omega] at this
 exact this.symm
theorem Z8j (bl : List Int) {t : Nat} (ht : t < 64) : Z0S bl t = if t < 16 then Z7l bl t else ZbN (XO bl t) t := by
 rw [← QK bl (Nat.lt_succ_self t) (by omega), Z3C]
 simp only [List.getD_eq_getElem?_getD]
 rw [List.getElem?_set_self (by rw [Z2k]; omega)]
 rfl
theorem Z8k (bl : List Int) {t : Nat} (ht : t < 16) : Z0S bl t = Z7l bl t := by rw [Z8j bl (by omega), if_pos ht]
theorem Z8l (bl : List Int) {t : Nat} (h16 : 16 ≤ t) (ht : t < 64) : Z0S bl t = u32.wrap (u32.wrap (u32.wrap (rg3 17 19 10 (Z0S bl (t - 2)) + Z0S bl (t - 7)) + rg3 7 18 3 (Z0S bl (t - 15))) + Z0S bl (t - 16)) := by
 rw [Z8j bl (by omega), if_neg (by omega)]
 unfold ZbN
 rw [QK bl (by omega) (by omega), QK bl (by omega) (by omega), QK bl (by omega) (by omega), QK bl (by omega) (by omega)]
theorem ZbW (bl : List Int) {t : Nat} (ht : t < 64) : U32 (Z0S bl t) := by
 by_cases h : t < 16
 ·rw [Z8k bl h]; exact Z0j _
 ·rw [Z8l bl (by omega) ht]; exact Z0j _
theorem QL (t : Nat) : mAt (t : Int) = t % 16 := by
 unfold mAt
 rw [tm (by omega)]
 omega
theorem WJ (i t : Nat) (hi : i < 8) (ht : t ≤ 64) : atI (i : Int) (t : Int) = (i + 64 - t) % 8 := by
 unfold atI
 rw [w64 (x := (i : Int) + 64) (by omega), w64 (by omega), tm (by omega)]
 omega
theorem Z2o (l : List Int) (i j : Nat) (x : Int) (hi : i < l.length) : (l.set i x).getD j 0 = if i = j then x else l.getD j 0 := by
 simp only [List.getD_eq_getElem?_getD]
 by_cases h : i = j
 ·subst h
  rw [List.getElem?_set_self hi, if_pos rfl]; rfl
 ·rw [List.getElem?_set_ne h, if_neg h]
def Ring (bl r : List Int) (t : Nat) : Prop := r.length = 16 ∧ ∀ s, s < max 16 t → max 16 t ≤ s + 16 → r.getD (s % 16) 0 = Z0S bl s
theorem Ring.step {bl r : List Int} {t : Nat} (h : Ring bl r t) (ht : t < 64) : Ring bl (Qb t r) (t + 1) := by
 obtain ⟨hl, hr⟩ := h
 refine ⟨by rw [Z5w, hl], fun s h1 h2 => ?_⟩
 unfold Qb
 by_cases h16 : t < 16
 ·rw [if_neg (by omega)]
  exact hr s (by omega) (by omega)
 ·rw [if_pos (by omega)]
  have w1 : i64.wrap ((t : Int) + 1) = ((t + 1 : Nat) : Int) := by rw [w64 (by omega)]; omega
  have w9 : i64.wrap ((t : Int) + 9) = ((t + 9 : Nat) : Int) := by rw [w64 (by omega)]; omega
  have w14 : i64.wrap ((t : Int) + 14) = ((t + 14 : Nat) : Int) := by rw [w64 (by omega)]; omega
  have r0 := hr (t - 16) (by omega) (by omega)
  have r1 := hr (t - 15) (by omega) (by omega)
  have r9 := hr (t - 7) (by omega) (by omega)
  have r14 := hr (t - 2) (by omega) (by omega)
  rw [show (t - 16) % 16 = t % 16 by omega] at r0
  rw [show (t - 15) % 16 = (t + 1) % 16 by omega] at r1
  rw [show (t - 7) % 16 = (t + 9) % 16 by omega] at r9
  rw [show (t - 2) % 16 = (t + 14) % 16 by omega] at r14
  rw [w1, w9, w14, QL, QL, QL, QL, r0, r1, r9, r14, Z2o _ _ _ _ (by rw [hl]; omega)]
  by_cases hs : s = t
  ·subst hs
   rw [if_pos rfl, Z8l bl (by omega) ht]
   have e1 := Z8g (ZbW bl (t := s - 2) (by omega)) 17 19 10 (by omega)
   have e2 := Z8g (ZbW bl (t := s - 15) (by omega)) 7 18 3 (by omega)
   rw [show ((10 : Nat) : Int) = 10 from rfl] at e1
   rw [show ((3 : Nat) : Int) = 3 from rfl] at e2
   rw [e1, e2]
   simp only [Z5M]
   omega
  ·rw [if_neg (by omega)]
   exact hr s (by omega) (by omega)
def U8 (x : Int) : Prop := 0 ≤ x ∧ x < 256
theorem Z13 (x n : Nat) (hn : n ≤ 32) (h : x * 2 ^ n < 4294967296) : ZH .u32 x n = ((x * 2 ^ n : Nat) : Int) := by
 unfold ZH
 have : min (n : Int).toNat u32.bits = n := by simp [IntKind.bits]; omega
 rw [this, show (x : Int) * 2 ^ n = ((x * 2 ^ n : Nat) : Int) by push_cast; rfl]
 exact Xr (U32.of h)
theorem Z14 (x y : Nat) (hx : x < 16777216) (hy : y < 256) : bOr .u32 (ZH .u32 x 8) y = ((x * 256 + y : Nat) : Int) := by
 have := Z13 x 8 (by omega) (by omega)
 rw [show ((8 : Nat) : Int) = 8 from rfl] at this
 rw [this, Z4y _ _ (by omega) (by omega), ← Nat.shiftLeft_eq, ← Nat.shiftLeft_add_eq_or_of_lt (by omega), Nat.shiftLeft_eq]
theorem U3 {P : Int → Prop} {l : List Int} (h : ∀ x ∈ l, P x) (h0 : P 0) (i : Nat) : P (l.getD i 0) := by
 rw [List.getD_eq_getElem?_getD]
 cases hg : l[i]? with
 | none => exact h0
 | some x => exact h x (List.mem_of_getElem? hg)
theorem U8.nat {x : Int} (h : U8 x) : ∃ n : Nat, x = n ∧ n < 256 := ⟨x.toNat, by unfold U8 at h; omega, by unfold U8 at h; omega⟩
theorem Zef (bl : List Int) (hb : ∀ x ∈ bl, U8 x) (t : Nat) : Xu bl (4 * t) = Z7l bl t := by
 unfold Xu Z7l
 obtain ⟨a, ea, ha⟩ := (U3 (P := U8) hb (by unfold U8; omega) (4 * t)).nat
 obtain ⟨b, eb, hb'⟩ := (U3 (P := U8) hb (by unfold U8; omega) (4 * t + 1)).nat
 obtain ⟨c, ec, hc⟩ := (U3 (P := U8) hb (by unfold U8; omega) (4 * t + 2)).nat
 obtain ⟨d, ed, hd⟩ := (U3 (P := U8) hb (by unfold U8; omega) (4 * t + 3)).nat
 rw [ea, eb, ec, ed]
 rw [Xr (x := (a : Int)) (U32.of (by omega)), Xr (x := (b : Int)) (U32.of (by omega)), Xr (x := (c : Int)) (U32.of (by omega)), Xr (x := (d : Int)) (U32.of (by omega))]
 have z := Z14 0 a (by omega) ha
 have s0 : ZH .u32 0 8 = 0 := by decide
 rw [show ZH .u32 ((0 : Nat) : Int) 8 = 0 from s0] at z
 rw [z, Z14 _ b (by omega) hb', Z14 _ c (by omega) hc, Z14 _ d (by omega) hd]
 have g1 := Z13 a 24 (by omega) (by omega)
 have g2 := Z13 b 16 (by omega) (by omega)
 have g3 := Z13 c 8 (by omega) (by omega)
 rw [show ((24 : Nat) : Int) = 24 from rfl] at g1
 rw [show ((16 : Nat) : Int) = 16 from rfl] at g2
 rw [show ((8 : Nat) : Int) = 8 from rfl] at g3
 rw [g1, g2, g3]
 simp only [Z5M]
 omega
theorem Ring.first (bl : List Int) (hb : ∀ x ∈ bl, U8 x) : Ring bl (Wm bl) 0 := by
 refine ⟨rfl, fun s h1 _ => ?_⟩
 have h16 : s < 16 := by omega
 rw [Z8k bl h16, ← Zef bl hb, Nat.mod_eq_of_lt h16]
 have : s = 0 ∨ s = 1 ∨ s = 2 ∨ s = 3 ∨ s = 4 ∨ s = 5 ∨ s = 6 ∨ s = 7 ∨ s = 8 ∨ s = 9 ∨ s = 10 ∨ s = 11 ∨ s = 12 ∨ s = 13 ∨ s = 14 ∨ s = 15 := by omega
 rcases this with rfl | rfl | rfl | rfl | rfl | rfl | rfl | rfl | rfl | rfl | rfl | rfl | rfl | rfl | rfl | rfl <;> rfl
def Z2p (x y : List Int) (t : Nat) : Prop := x.length = 8 ∧ ∀ i, i < 8 → x.getD ((i + 64 - t) % 8) 0 = y.getD i 0
theorem Z2p.step {x y m : List Int} {w : Int} {t : Nat} (h : Z2p x y t) (hU : ∀ i, i < 8 → U32 (y.getD i 0)) (ht : t < 64) (hm : m.getD (t % 16) 0 = w) :
  Z2p (Z2M t m x) (Z0F X7 X2 (WR.getD t 0) w y) (t + 1) := by
 obtain ⟨hl, hr⟩ := h
 have a0 := WJ 0 t (by omega) (by omega)
 have a1 := WJ 1 t (by omega) (by omega)
 have a2 := WJ 2 t (by omega) (by omega)
 have a3 := WJ 3 t (by omega) (by omega)
 have a4 := WJ 4 t (by omega) (by omega)
 have a5 := WJ 5 t (by omega) (by omega)
 have a6 := WJ 6 t (by omega) (by omega)
 have a7 := WJ 7 t (by omega) (by omega)
 have h0 := hr 0 (by omega)
 have h1 := hr 1 (by omega)
 have h2 := hr 2 (by omega)
 have h3 := hr 3 (by omega)
 have h4 := hr 4 (by omega)
 have h5 := hr 5 (by omega)
 have h6 := hr 6 (by omega)
 have h7 := hr 7 (by omega)
 rw [← a0] at h0
 rw [← a1] at h1
 rw [← a2] at h2
 rw [← a3] at h3
 rw [← a4] at h4
 rw [← a5] at h5
 rw [← a6] at h6
 rw [← a7] at h7
 refine ⟨by rw [Z5x, hl], ?_⟩
 have hadd : Z0b t m x = u32.wrap (u32.wrap (u32.wrap (u32.wrap (y.getD 7 0 + sg3 6 11 25 (y.getD 4 0)) + X2 (y.getD 4 0) (y.getD 5 0) (y.getD 6 0)) + WR.getD t 0) + w) := by
  unfold Z0b
  rw [QL, hm]
  rw [show atI 7 (t : Int) = atI ((7 : Nat) : Int) t from rfl, show atI 4 (t : Int) = atI ((4 : Nat) : Int) t from rfl, show atI 5 (t : Int) = atI ((5 : Nat) : Int) t from rfl, show atI 6 (t : Int) = atI ((6 : Nat) : Int) t from rfl]
  rw [h4, h5, h6, h7, Z8f (hU 4 (by omega)), Zee (hU 4 (by omega)) (hU 5 (by omega)) (hU 6 (by omega))]
  rw [Nat.zero_add, Int.toNat_natCast]
 unfold Z2M
 rw [hadd]
 rw [show atI 7 (t : Int) = atI ((7 : Nat) : Int) t from rfl, show atI 3 (t : Int) = atI ((3 : Nat) : Int) t from rfl, show atI 0 (t : Int) = atI ((0 : Nat) : Int) t from rfl, show atI 1 (t : Int) = atI ((1 : Nat) : Int) t from rfl, show atI 2 (t : Int) = atI ((2 : Nat) : Int) t from rfl]
 rw [h0, h1, h2, h3, ← Zed (hU 0 (by omega)) (hU 1 (by omega)) (hU 2 (by omega)), ← Z8f (hU 0 (by omega)), a3, a7]
 intro i hi
 rw [Z2o _ _ _ _ (by rw [List.length_set, hl]; omega), Z2o _ _ _ _ (by rw [hl]; omega)]
 unfold Z0F
 have : i = 0 ∨ i = 1 ∨ i = 2 ∨ i = 3 ∨ i = 4 ∨ i = 5 ∨ i = 6 ∨ i = 7 := by omega
 rcases this with rfl | rfl | rfl | rfl | rfl | rfl | rfl | rfl
 ·rw [if_pos (by omega)]
  simp only [Z5M, List.getD_cons_zero]
  omega
 ·rw [if_neg (by omega), if_neg (by omega), show (1 + 64 - (t + 1)) % 8 = (0 + 64 - t) % 8 by omega, hr 0 (by omega)]; rfl
 ·rw [if_neg (by omega), if_neg (by omega), show (2 + 64 - (t + 1)) % 8 = (1 + 64 - t) % 8 by omega, hr 1 (by omega)]; rfl
 ·rw [if_neg (by omega), if_neg (by omega), show (3 + 64 - (t + 1)) % 8 = (2 + 64 - t) % 8 by omega, hr 2 (by omega)]; rfl
 ·rw [if_neg (by omega), if_pos (by omega)]; rfl
 ·rw [if_neg (by omega), if_neg (by omega), show (5 + 64 - (t + 1)) % 8 = (4 + 64 - t) % 8 by omega, hr 4 (by omega)]; rfl
 ·rw [if_neg (by omega), if_neg (by omega), show (6 + 64 - (t + 1)) % 8 = (5 + 64 - t) % 8 by omega, hr 5 (by omega)]; rfl
 ·rw [if_neg (by omega), if_neg (by omega), show (7 + 64 - (t + 1)) % 8 = (6 + 64 - t) % 8 by omega, hr 6 (by omega)]; rfl
theorem Zeg {k w : Int} {y : List Int} (hU : ∀ i, i < 8 → U32 (y.getD i 0)) : ∀ i, i < 8 → U32 ((Z0F X7 X2 k w y).getD i 0) := by
 intro i hi
 unfold Z0F
 have : i = 0 ∨ i = 1 ∨ i = 2 ∨ i = 3 ∨ i = 4 ∨ i = 5 ∨ i = 6 ∨ i = 7 := by omega
 rcases this with rfl | rfl | rfl | rfl | rfl | rfl | rfl | rfl
 ·exact Z0j _
 ·exact hU 0 (by omega)
 ·exact hU 1 (by omega)
 ·exact hU 2 (by omega)
 ·exact Z0j _
 ·exact hU 4 (by omega)
 ·exact hU 5 (by omega)
 ·exact hU 6 (by omega)
def W8 (st : List Int) : Prop := st.length = 8 ∧ ∀ x ∈ st, U32 x
theorem W8.get {st : List Int} (h : W8 st) (i : Nat) : U32 (st.getD i 0) := U3 h.2 (by unfold U32; omega) i
theorem Z5N (bl st : List Int) (hb : ∀ x ∈ bl, U8 x) (hs : W8 st) : ∀ t, t ≤ 64 → Ring bl (W5 (Wm bl) st t).1 t ∧ Z2p (W5 (Wm bl) st t).2 (U1 X7 X2 (XO bl 64) st t) t ∧ ∀ i, i < 8 → U32 ((U1 X7 X2 (XO bl 64) st t).getD i 0)
 | 0, _ => by
  rw [Z3e, Z9x]
  refine ⟨Ring.first bl hb, ⟨hs.1, fun i hi => ?_⟩, fun i _ => hs.get i⟩
  rw [show (i + 64 - 0) % 8 = i by omega]
 | t + 1, h => by
  obtain ⟨h1, h2, h3⟩ := Z5N bl st hb hs t (by omega)
  rw [Z3f, Z9w]
  have hR := h1.step (by omega)
  refine ⟨hR, h2.step h3 (by omega) ?_, Zeg h3⟩
  rw [hR.2 t (by omega) (by omega)]
  unfold Z0S
  rfl
theorem Z9F (st x : List Int) (i : Nat) : WS st x (i + 1) = (WS st x i).set i (u32.wrap ((WS st x i).getD i 0 + st.getD i 0)) := by rw [WS]
theorem Z9G (st x : List Int) : WS st x 0 = x := by rw [WS]
theorem Zeh (st x : List Int) (hs : st.length = 8) (hx : x.length = 8) : WS st x 8 = Z99 st x := by
 obtain ⟨a0, a1, a2, a3, a4, a5, a6, a7, rfl⟩ := eight st hs
 obtain ⟨b0, b1, b2, b3, b4, b5, b6, b7, rfl⟩ := eight x hx
 simp only [Z9F, Z9G]
 simp [Z99, List.set, Int.add_comm]
theorem Z7p {x y : List Int} (h : Z2p x y 64) (hy : y.length = 8) : y = x := by
 obtain ⟨h4, h5⟩ := h
 obtain ⟨a0, a1, a2, a3, a4, a5, a6, a7, rfl⟩ := eight _ hy
 obtain ⟨b0, b1, b2, b3, b4, b5, b6, b7, rfl⟩ := eight _ h4
 have g0 := h5 0 (by omega)
 have g1 := h5 1 (by omega)
 have g2 := h5 2 (by omega)
 have g3 := h5 3 (by omega)
 have g4 := h5 4 (by omega)
 have g5 := h5 5 (by omega)
 have g6 := h5 6 (by omega)
 have g7 := h5 7 (by omega)
 simp at g0 g1 g2 g3 g4 g5 g6 g7
 simp [g0, g1, g2, g3, g4, g5, g6, g7]
theorem Z5O (st bl : List Int) (hb : ∀ x ∈ bl, U8 x) (hs : W8 st) : Xq st bl = XI st bl := by
 obtain ⟨_, h2, h3⟩ := Z5N bl st hb hs 64 (by omega)
 have hl := QI (M := X7) (P := X2) (m := XO bl 64) hs.1 64
 unfold Xq XI
 rw [Zeh _ _ hs.1 hl]
 congr 1
 exact Z7p h2 hl
theorem Z5P (st bl : List Int) (hs : st.length = 8) : W8 (XI st bl) := by
 refine ⟨Z3g st bl hs, fun x hx => ?_⟩
 unfold XI Z99 at hx
 obtain ⟨i, hi, rfl⟩ := List.getElem_of_mem hx
 simp only [List.getElem_zipWith]
 exact Z0j _
def UB (P : List Int → List Int → List Int) : Nat → List Int → List Int → List Int
 | 0, st, _ => st
 | n + 1, st, ms => UB P n (P st (ms.take 64)) (ms.drop 64)
theorem Z0k (P : List Int → List Int → List Int) : ∀ (n : Nat) (st ms : List Int), UB P (n + 1) st ms = P (UB P n st ms) ((ms.drop (64 * n)).take 64)
 | 0, _, _ => rfl
 | n + 1, st, ms => by
  rw [UB, Z0k P n, List.drop_drop]
  rw [show 64 + 64 * n = 64 * (n + 1) by omega]
  rfl
theorem Z2q (P : List Int → List Int → List Int) : ∀ (n : Nat) (st ms more : List Int), 64 * n ≤ ms.length → UB P n st (ms ++ more) = UB P n st ms
 | 0, _, _, _, _ => rfl
 | n + 1, st, ms, more, h => by
  rw [UB, UB, List.take_append_of_le_length (by omega), List.drop_append_of_le_length (by omega), Z2q P n _ _ _ (by rw [List.length_drop]; omega)]
theorem Z2r : ∀ (n : Nat) (st ms : List Int), W8 st → (∀ x ∈ ms, U8 x) → UB Xq n st ms = UB XI n st ms
 | 0, _, _, _, _ => rfl
 | n + 1, st, ms, hs, hm => by
  rw [UB, UB, Z5O st _ (fun x hx => hm x (List.mem_of_mem_take hx)) hs]
  exact Z2r n _ _ (Z5P st _ hs.1) fun x hx => hm x (List.mem_of_mem_drop hx)
structure Rep (r : Zx) (ms : List Int) : Prop where
 came : r.came = ms.length
 st : r.st = UB XI (ms.length / 64) Yh.st ms
 len : r.part.length = 64
 part : r.part.take (ms.length % 64) = ms.drop (64 * (ms.length / 64))
theorem Rep.ok {r : Zx} {ms : List Int} (h : Rep r ms) (h8 : r.st.length = 8) : r.Ok := ⟨h8, h.len, by rw [h.came]; omega⟩
theorem Rep.one {r : Zx} {ms : List Int} (h : Rep r ms) (bs : List Int) : Rep (r.one bs) (ms ++ wTk r.came bs) := by
 have ha : wAt r.came = ms.length % 64 := by
  unfold wAt
  rw [h.came, tm (by omega)]
  omega
 have hk : (wTk r.came bs).length ≤ 64 - ms.length % 64 := by
  unfold wTk
  rw [ha, List.length_take]
  omega
 have hdl : (ms.drop (64 * (ms.length / 64))).length = ms.length % 64 := by rw [List.length_drop]; omega
 have hp : V7 r.part r.came bs = ms.drop (64 * (ms.length / 64)) ++ wTk r.came bs ++ r.part.drop (ms.length % 64 + (wTk r.came bs).length) := by
  unfold V7 spl
  rw [ha, h.part]
 have hl : (V7 r.part r.came bs).length = 64 := by
  rw [hp, List.length_append, List.length_append, hdl, List.length_drop, h.len]
  omega
 have hst : (r.one bs).st = if ms.length % 64 + (wTk r.came bs).length = 64 then XI r.st (V7 r.part r.came bs) else r.st := by
  show wSt _ _ _ _ = _
  unfold wSt
  rw [ha]
 have hca : (r.one bs).came = r.came + (wTk r.came bs).length := rfl
 have hpa : (r.one bs).part = V7 r.part r.came bs := rfl
 generalize wTk r.came bs = tk at *
 generalize V7 r.part r.came bs = pa at *
 have hal : (ms ++ tk).length = ms.length + tk.length := List.length_append
 refine ⟨by rw [hca, h.came, hal]; omega, ?_, by rw [hpa]; exact hl, ?_⟩
 ·rw [hst, h.st]
  by_cases h64 : ms.length % 64 + tk.length = 64
  ·rw [if_pos h64, hal, show (ms.length + tk.length) / 64 = ms.length / 64 + 1 by omega, Z0k, Z2q _ _ _ _ _ (by omega)]
   congr 1
   rw [List.drop_append_of_le_length (by omega), hp, show r.part.drop (ms.length % 64 + tk.length) = [] from List.drop_eq_nil_of_le (by rw [h.len]; omega), List.append_nil, List.take_of_length_le (by rw [List.length_append, hdl]; omega)]
  ·rw [if_neg h64, hal, show (ms.length + tk.length) / 64 = ms.length / 64 by omega, Z2q _ _ _ _ _ (by omega)]
 ·rw [hpa, hal]
  by_cases h64 : ms.length % 64 + tk.length = 64
  ·rw [show (ms.length + tk.length) % 64 = 0 by omega, List.take_zero, List.drop_eq_nil_of_le (by rw [hal]; omega)]
  ·rw [show (ms.length + tk.length) / 64 = ms.length / 64 by omega, show (ms.length + tk.length) % 64 = ms.length % 64 + tk.length by omega, hp, List.drop_append_of_le_length (by omega)]
   rw [List.take_append_of_le_length (by rw [List.length_append, hdl]; omega)]
   exact List.take_of_length_le (by rw [List.length_append, hdl]; omega)
theorem Rep.many : ∀ (n : Nat) (r : Zx) (ms bs : List Int), r.Ok → Rep r ms → bs.length ≤ n → Rep (Zx.many n r bs).1 (ms ++ bs)
 | 0, r, ms, bs, _, h, hn => by
  have : bs = [] := List.eq_nil_of_length_eq_zero (by omega)
  subst this
  rw [List.append_nil]
  exact h
 | n + 1, r, ms, bs, hr, h, hn => by
  unfold Zx.many
  split
  ·rw [List.append_nil]; exact h
  ·rename_i b bs
   have hp := Um hr (bs := b :: bs) (by simp)
   have hb : (b :: bs) = wTk r.came (b :: bs) ++ (b :: bs).drop (wTk r.came (b :: bs)).length := by
    unfold wTk
    rw [List.length_take]
    by_cases h : 64 - wAt r.came ≤ (b :: bs).length
    ·rw [Nat.min_eq_left h, List.take_append_drop]
    ·rw [Nat.min_eq_right (by omega), List.take_of_length_le (by omega), List.drop_length, List.append_nil]
   have := Rep.many n _ _ ((b :: bs).drop (wTk r.came (b :: bs)).length) (hr.one _) (h.one (b :: bs)) (by rw [List.length_drop]; simp only [List.length_cons] at hn ⊢; omega)
   rw [List.append_assoc, ← hb] at this
   exact this
theorem Rep.write {r : Zx} {ms : List Int} (hr : r.Ok) (h : Rep r ms) (bs : List Int) : Rep (r.write bs) (ms ++ bs) := by
 unfold Zx.write
 exact Rep.many _ _ _ _ hr h (Nat.le_refl _)
theorem Rep.init : Rep Yh [] := ⟨rfl, rfl, rfl, rfl⟩
def Z0l (bs : List Int) : List Int := bs ++ Ux bs.length ++ len8 bs.length
def Z7q (P : List Int → List Int → List Int) (bs : List Int) : List Int := Z3j (UB P ((Z0l bs).length / 64) Yh.st (Z0l bs))
theorem Rep.fin {r : Zx} {ms : List Int} (hr : r.Ok) (h : Rep r ms) : r.fin = Z7q XI ms := by
 have h1 := h.write hr (Ux r.came)
 have h2 := h1.write (XJ _ _ hr) (len8 r.came)
 unfold Zx.fin Z7q
 rw [h2.st, h.came]
 rfl
theorem Z5Q (bs : List Int) : Uy bs = Z7q XI bs := by
 unfold Uy
 have := Rep.init.write XK bs
 exact this.fin (XJ _ _ XK)
theorem Z5R : W8 Yh.st := by
 refine ⟨rfl, fun x hx => ?_⟩
 simp only [Yh, List.mem_cons, List.not_mem_nil, or_false] at hx
 unfold U32
 rcases hx with rfl | rfl | rfl | rfl | rfl | rfl | rfl | rfl <;> omega
theorem Zei (n : Int) : ∀ x ∈ Ux n, U8 x := by
 intro x hx
 unfold Ux at hx
 rcases List.mem_append.mp hx with h | h
 ·rw [List.mem_singleton] at h
  subst h
  unfold U8; omega
 ·rw [List.eq_of_mem_replicate h]
  unfold U8; omega
theorem ZbX (x : Int) : U8 (u8.wrap x) := by rw [wr8]; unfold U8; omega
theorem Zej (n : Int) : ∀ x ∈ len8 n, U8 x := by
 intro x hx
 unfold len8 UP at hx
 simp only [List.mem_cons, List.not_mem_nil, or_false] at hx
 rcases hx with h | h | h | h | h | h | h | h <;> rw [h] <;> exact ZbX _
theorem Z9H {bs : List Int} (h : ∀ x ∈ bs, U8 x) : ∀ x ∈ Z0l bs, U8 x := by
 intro x hx
 unfold Z0l at hx
 rcases List.mem_append.mp hx with h1 | h1
 ·rcases List.mem_append.mp h1 with h2 | h2
  ·exact h x h2
  ·exact Zei _ x h2
 ·exact Zej _ x h1
theorem ZbY (n : Int) : ∀ x ∈ WE n, U8 x := by
 intro x hx
 unfold WE at hx
 simp only [List.mem_cons, List.not_mem_nil, or_false] at hx
 rcases hx with h | h | h | h <;> rw [h] <;> exact ZbX _
theorem ZbZ (st : List Int) : ∀ x ∈ Z3j st, U8 x := by
 intro x hx
 unfold Z3j at hx
 simp only [List.mem_append] at hx
 rcases hx with (((((((h | h) | h) | h) | h) | h) | h) | h) <;> exact ZbY _ x h
theorem Zek (bs : List Int) : ∀ x ∈ Uy bs, U8 x := by rw [Z5Q]; exact ZbZ _
end Go.Tk
end
section
namespace Go.Tk
open IntKind (i64 u8 u32 u64 wrap)
theorem Zel : Uq Xq := ⟨fun st bl h => Z5I st bl h, fun _ _ h => Z4v h⟩
theorem Zc0 (x : List Int) (i : Nat) : toN x (i + 1) = ((((toN x i).set (4 * i) (u8.wrap (u32.wrap (Int.tdiv (x.getD i 0) 16777216)))).set (4 * i + 1) (toE (x.getD i 0) 65536)).set (4 * i + 2) (toE (x.getD i 0) 256)).set (4 * i + 3) (u8.wrap (Int.tmod (x.getD i 0) 256)) := by rw [toN]
theorem Zc1 (x : List Int) : toN x 0 = Z6 := by rw [toN]
def four (x : Int) : List Int := [u8.wrap (u32.wrap (Int.tdiv x 16777216)), toE x 65536, toE x 256, u8.wrap (Int.tmod x 256)]
theorem Z9I (x : List Int) : (Vy x).length = 32 := by unfold Vy; exact Z4w x 8
theorem Z7r (x : List Int) (h : x.length = 8) : Vy x = four (x.getD 0 0) ++ four (x.getD 1 0) ++ four (x.getD 2 0) ++ four (x.getD 3 0) ++ four (x.getD 4 0) ++ four (x.getD 5 0) ++ four (x.getD 6 0) ++ four (x.getD 7 0) := by
 unfold Vy
 simp only [Zc0, Zc1]
 generalize x.getD 0 0 = x0
 generalize x.getD 1 0 = x1
 generalize x.getD 2 0 = x2
 generalize x.getD 3 0 = x3
 generalize x.getD 4 0 = x4
 generalize x.getD 5 0 = x5
 generalize x.getD 6 0 = x6
 generalize x.getD 7 0 = x7
 kernel_rfl
theorem Zem (x : Int) : u64.wrap x = x % 18446744073709551616 := by
 unfold wrap
 simp [IntKind.bits, IntKind.signed]
theorem Z5S (x n : Nat) (hn : n ≤ 64) : Zp .u64 x n = ((x / 2 ^ n : Nat) : Int) := by
 unfold Zp
 have : min (n : Int).toNat u64.bits = n := by simp [IntKind.bits]; omega
 rw [this, Int.fdiv_eq_ediv_of_nonneg _ (Int.le_of_lt (Int.pow_pos (by decide)))]
 simp
theorem Xg {x : Int} (h : U32 x) : four x = WE (u64.wrap x) := by
 obtain ⟨x, rfl, gx⟩ := h.nat
 have e : u64.wrap (x : Int) = x := by rw [Zem]; omega
 have s24 := Z5S x 24 (by omega)
 have s16 := Z5S x 16 (by omega)
 have s8 := Z5S x 8 (by omega)
 have s0 := Z5S x 0 (by omega)
 rw [show ((24 : Nat) : Int) = 24 from rfl] at s24
 rw [show ((16 : Nat) : Int) = 16 from rfl] at s16
 rw [show ((8 : Nat) : Int) = 8 from rfl] at s8
 rw [show ((0 : Nat) : Int) = 0 from rfl] at s0
 have d1 : Int.tdiv (x : Int) 16777216 = (x : Int) / 16777216 := Int.tdiv_eq_ediv_of_nonneg (by omega)
 have d2 : Int.tdiv (x : Int) 65536 = (x : Int) / 65536 := Int.tdiv_eq_ediv_of_nonneg (by omega)
 have d3 : Int.tdiv (x : Int) 256 = (x : Int) / 256 := Int.tdiv_eq_ediv_of_nonneg (by omega)
 unfold four WE toE
 rw [e, s24, s16, s8, s0, d1, d2, d3]
 simp only [wr8, Z5M]
 rw [tm (a := (x : Int) / 65536 % 4294967296) (by omega), tm (a := (x : Int) / 256 % 4294967296) (by omega), tm (a := (x : Int)) (by omega)]
 simp only [List.cons.injEq, and_true]
 omega
theorem Z7s {x : List Int} (h : W8 x) : Vy x = Z3j x := by
 rw [Z7r x h.1]
 unfold Z3j
 rw [Xg (h.get 0), Xg (h.get 1), Xg (h.get 2), Xg (h.get 3), Xg (h.get 4), Xg (h.get 5), Xg (h.get 6), Xg (h.get 7)]
theorem Xh (n : Nat) (i : Nat) (hi : i < 8) : Ze7 n i = u8.wrap (Zp .u64 (u64.wrap (u64.wrap n * 8)) ((56 - 8 * i : Nat) : Int)) := by
 unfold Ze7
 have e1 : i64.wrap (8 * (i : Int)) = 8 * (i : Int) := w64 (by omega)
 have e2 : i64.wrap (56 - 8 * (i : Int)) = ((56 - 8 * i : Nat) : Int) := by rw [w64 (by omega)]; omega
 have e3 : u64.wrap ((56 - 8 * i : Nat) : Int) = ((56 - 8 * i : Nat) : Int) := by rw [Zem]; omega
 rw [e1, e2, e3]
 obtain ⟨m, hm⟩ : ∃ m : Nat, u64.wrap (u64.wrap n * 8) = m := ⟨(u64.wrap (u64.wrap n * 8)).toNat, by rw [Zem, Zem]; omega⟩
 rw [hm, Z5S m _ (by omega)]
 generalize m / 2 ^ (56 - 8 * i) = q
 rw [tm (by omega), wr8, wr8]
 omega
theorem Z9J (n : Nat) : Xt n 8 = len8 n := by
 simp only [Xt, List.nil_append, List.cons_append]
 unfold len8 UP
 rw [Xh n 0 (by omega), Xh n 1 (by omega), Xh n 2 (by omega), Xh n 3 (by omega), Xh n 4 (by omega), Xh n 5 (by omega), Xh n 6 (by omega), Xh n 7 (by omega)]
 rfl
theorem Z9K (n : Nat) (h : n ≤ 100000000000) : [128] ++ Z0R n = Ux n := by
 unfold Z0R Ux
 have e1 : Int.tmod (n : Int) 64 = (n : Int) % 64 := tm (by omega)
 have e2 : i64.wrap (119 - (n : Int) % 64) = 119 - (n : Int) % 64 := w64 (by omega)
 rw [Ze9 n h, e1, e2, tm (by omega)]
 congr 2
 omega
theorem Zc2 (bs : List Int) (h : bs.length ≤ 100000000000) : U2 bs = Z0l bs := by
 unfold U2 Z0l
 rw [Z9J, List.append_assoc bs, Z9K _ h]
theorem Z3E (P : List Int → List Int → List Int) (ys : List Int) : ∀ i, UA P ys i = UB P i Yh.st ys
 | 0 => Z3y P ys
 | i + 1 => by rw [Z3z, Z0k, Z3E P ys i]
theorem Z8m : ∀ (n : Nat) (st ms : List Int), W8 st → W8 (UB XI n st ms)
 | 0, _, _, h => h
 | n + 1, st, _, h => Z8m n _ _ (Z5P st _ h.1)
@[irreducible] def Z2s (bs : List Int) : List Int := ZbT Xq bs
theorem QM (bs : List Int) : (Z2s bs).length = 32 := by unfold Z2s ZbT; exact Z9I _
theorem Z8n {bs : List Int} (h : ∀ x ∈ bs, U8 x) (hl : bs.length ≤ 100000000000) : Z2s bs = Uy bs := by
 unfold Z2s ZbT
 rw [Z3E, Zc2 bs hl, Z2r _ _ _ Z5R (Z9H h), Z7s (Z8m _ _ _ Z5R), Z5Q]
 rfl
theorem Z3F (xs : List Int) (h : xs.length ≤ 100000000000) : ZB PP 91 [.vints .u8 xs xs.length] (.agg [.arr .u8 32 (Z2s xs)]) 0 [] := by
 unfold Z2s
 exact Z9A Zel xs h
theorem Zc3 {bs : List Int} (h : ∀ x ∈ bs, U8 x) (hl : bs.length ≤ 100000000000) : Vv Z2s bs = Z0z bs := by
 unfold Vv Z0z
 rw [Z8n h hl, Z8n (Zek _) (by rw [Z26]; decide)]
end Go.Tk
end
section
namespace Go.Tk
open IntKind (i64 u8 u32 u64 wrap)
noncomputable def E60 (R : TxS → Bool → List Int) (H : List Int → List Int) (T2 : List Int → List Int → List Int) (B : Nat) : Za := ((G0.withF 87 (Zbu R)).withP 86 (Z5K H B)).withP 90 (ZbU T2)
theorem Zj0 (R : TxS → Bool → List Int) (H : List Int → List Int) (T2 : List Int → List Int → List Int) (B : Nat) (t : TxS) (r : List Int) (ht : t.Fine) (hb : (R t true).length ≤ B) (hr : r = H (R t true)) :
  evF (E60 R H T2 B) 20 45 [.agg t.c] ⟨0, []⟩ (Ym 0 (.ret (.agg [.arr .u8 32 r])) 0 []) := by
 refine @Eq.mpr _ (let q1 := t.N;
 let q2 := t.M;
 ∃ (t_1 : TxS),
 let q5 := List.length (R t_1 true);
 let q6 := List.take q5 (Y3 0 (R t_1 true));
 let q7 := List.length q6;
 (t_1.num = t.num ∧ ((q1 = q1 ∧ t_1.N = q1) ∧ ∀ (i : Nat), i < q1 → Zf t.ins i = InS.c (t_1.ins i)) ∧ (q2 = q2 ∧ t_1.M = q2) ∧ ∀ (i : Nat), i < q2 → Zn t.outs i = ZF.c (t_1.outs i)) ∧ TxS.Fine t_1 ∧ Z0 (decide (0 + q5 ≤ q5)) (Z0 (decide (q5 = q7)) (Z0 (decide (q7 ≤ B)) (H q6 = r ∧ True) False) False) False) (by kernel_rfl) ?_
 conv => zeta
 try simp only [Zc]
 try simp only [Zi]
 try simp only [Ze]
 try simp only [Zj]
 try simp only [Zk]
 try simp only [Zd]
 try simp only [Int.toNat_natCast, Nat.zero_add, true_and, and_true, Nat.le_refl]
 refine ⟨t, ⟨rfl, ⟨rfl, fun _ _ => rfl⟩, rfl, fun _ _ => rfl⟩, ht, ?_⟩
 rw [Z12 rfl]
 exact ⟨rfl, hb, hr.symm⟩
def Z7t (Nm : TxS → List Int) : ZW := fun args h K => ZL none h true 20 args fun a => match a with
 | [.agg l] => ∃ t, Qj l t ∧ t.Fine ∧ K (.agg [.arr .u8 32 (Nm t)])
 | _ => False
structure Z4B (H : List Int → List Int) (T2 : List Int → List Int → List Int) : Prop where
 h : ∀ args h K, Z5K H 100000 args h K → Zh PP 86 args h fun o h' => ∃ v, o = .ret v ∧ h' = h ∧ K v
 t : ∀ args h K, ZbU T2 args h K → Zh PP 90 args h fun o h' => ∃ v, o = .ret v ∧ h' = h ∧ K v
 r : ∀ args h K, Zbu (Wt ZC) args h K → Zh PP 87 args h K
 hl : ∀ x, (H x).length = 32
theorem ZgU {H : List Int → List Int} {T2 : List Int → List Int → List Int} (hp : Z4B H T2) : (E60 (Wt ZC) H T2 100000).Ok := Za.withP_ok (Za.withP_ok (Za.withF_ok Zv hp.r) hp.h) hp.t
@[irreducible] def Z2t (H : List Int → List Int) (t : TxS) : List Int := H (Wt ZC t true)
theorem Z7u {H : List Int → List Int} {T2 : List Int → List Int → List Int} (hp : Z4B H T2) (t : TxS) (ht : t.Fine) : ZB PP 45 [.agg t.c] (.agg [.arr .u8 32 (Z2t H t)]) 0 [] := by
 unfold Z2t
 have := XN ht true (Nat.le_refl t.M)
 exact .evM (ZgU hp) (Zj0 (Wt ZC) H T2 100000 t _ ht (by have hb' : (Wt ZC t true).length ≤ 20000 := this; omega) rfl)
theorem Z9L {H : List Int → List Int} {T2 : List Int → List Int → List Int} (hp : Z4B H T2) (args : List AV) (h : Z7) (K : AV → Prop) (hl : Z7t (Z2t H) args h K) : Zh PP 45 args h fun o h' => ∃ v, o = .ret v ∧ h' = h ∧ K v := by
 refine ZB.psumm (d := 20) (Zq _ _ _ _ _ hl fun a ha => ?_)
 split at ha
 ·obtain ⟨t, h1, h2, hK⟩ := ha
  exact ⟨_, (Z7u hp t h2).conv fun E r hr => hr.head (fun _ hc => h1.rel hc) (fun _ hc => hc), fun _ => rfl, hK⟩
 ·exact ha.elim
end Go.Tk
end
section
namespace Go.Tk
open IntKind (i64 u8 u32 u64 wrap)
end Go.Tk
end
section
namespace Go.Tk
open IntKind (i64 u8 u32 u64 wrap)
theorem Bytes.u8 {xs : List Int} (h : Bytes xs) : ∀ x ∈ xs, U8 x := by
 intro x hx
 obtain ⟨i, hi, rfl⟩ := List.getElem_of_mem hx
 have := h.h i
 rw [List.getD_eq_getElem?_getD, List.getElem?_eq_getElem hi] at this
 simp at this
 unfold U8
 omega
theorem ZgV : Z4B (Vv Z2s) (Z8e Z2s) where
 h := fun args h K hl => Z9C (B := 100000) (fun xs hx => Z3F xs (by omega)) (by decide) QM args h K hl
 t := fun args h K hl => ZbV (B := 100000) (fun xs hx => Z3F xs (by omega)) (by decide) QM args h K hl
 r := Z7i
 hl := fun x => by unfold Vv; exact QM _
@[irreducible] def X8 (t : TxS) : List Int := Z2t (Vv Z2s) t
theorem Z0m (t : TxS) : (X8 t).length = 32 := by unfold X8 Z2t Vv; exact QM _
theorem Zc4 (args : List AV) (h : Z7) (K : AV → Prop) (hl : Z7t X8 args h K) : Zh PP 45 args h fun o h' => ∃ v, o = .ret v ∧ h' = h ∧ K v := Z9L ZgV args h K (by
 have e : X8 = Z2t (Vv Z2s) := by funext t; unfold X8; rfl
 rw [e] at hl; exact hl)
theorem Zc5 {t : TxS} (hf : t.Fine) (hb : Z3x t) : X8 t = Xo t := by
 have h1 := XN hf true (Nat.le_refl t.M)
 have h2 : (Wt ZC t true).length ≤ 20000 := h1
 unfold X8 Z2t Xo
 exact Zc3 (Z7k hb true).u8 (by omega)
end Go.Tk
end
section
namespace Go.Tk
open IntKind (i64 u8 u32 u64 wrap)
structure W0 where
 fund : List Int
 index : Int
 cap : Int
 dust : Int
 fee : Int
 delay : Int
 k0 : List Int
 k1 : List Int
def W0.c (t : W0) : List AV := [.arr .u8 32 t.fund, .int .i64 t.index, .int .i64 t.cap, .int .i64 t.dust, .int .i64 t.fee, .int .i64 t.delay, .arr .u8 32 t.k0, .arr .u8 32 t.k1]
structure W0.Ok (t : W0) : Prop where
 k0 : t.k0.length = 32
 k1 : t.k1.length = 32
 b0 : Bytes t.k0
 b1 : Bytes t.k1
def Z8o (t : W0) : Bool := decide (0 ≤ t.index ∧ t.index ≤ 23) && decide (1000 ≤ t.cap ∧ t.cap ≤ 1125899906842624) && decide (1 ≤ t.dust ∧ t.dust ≤ 500) && decide (0 ≤ t.fee ∧ t.fee ≤ 400) && decide (1 ≤ t.delay ∧ t.delay ≤ 1000) && (t.k0 != t.k1)
def inQ : ZW := fun args _ K => match args with
 | [.int .i64 n, .int .i64 a, .int .i64 b] => K (.bool (decide (a ≤ n ∧ n ≤ b)))
 | _ => False
def Z15 : ZW := fun args _ K => match args with
 | [] => K (.bool true)
 | _ => False
end Go.Tk
end
section
namespace Go.Tk
open IntKind (i64 u8 u32 u64 wrap)
def U4 {α : Type} (lt : α → α → Bool) (x : α) : List α → List α
 | [] => [x]
 | y :: r => match lt x y with
  | true => x :: y :: r
  | false => y :: U4 lt x r
def YE {α : Type} (lt : α → α → Bool) : List α → List α → List α
 | acc, [] => acc
 | acc, x :: r => YE lt (U4 lt x acc) r
def Xe {α : Type} (lt : α → α → Bool) (l : List α) : Prop := l.Pairwise fun a b => lt b a = false
structure WO {α : Type} (lt : α → α → Bool) : Prop where
 asym : ∀ x y, lt x y = true → lt y x = false
 neg : ∀ x y z, lt x y = true → lt z y = false → lt x z = true
theorem Z5T {α : Type} {lt : α → α → Bool} {x z : α} : ∀ {l : List α}, z ∈ U4 lt x l ↔ z = x ∨ z ∈ l
 | [] => by simp [U4]
 | y :: r => by
  unfold U4
  split
  ·simp
  ·simp only [List.mem_cons, Z5T (l := r)]
   constructor <;> (intro h; rcases h with h | h | h <;> simp [h])
theorem Z3G {α : Type} {lt : α → α → Bool} {x : α} : ∀ {l : List α}, (U4 lt x l).Perm (x :: l)
 | [] => .refl _
 | y :: r => by
  unfold U4
  split
  ·exact .refl _
  ·exact (List.Perm.cons y Z3G).trans (List.Perm.swap x y r)
theorem Z5U {α : Type} {lt : α → α → Bool} (wo : WO lt) {x : α} : ∀ {l : List α}, Xe lt l → Xe lt (U4 lt x l)
 | [], _ => by simp [U4, Xe]
 | y :: r, h => by
  unfold Xe at h
  rw [List.pairwise_cons] at h
  unfold U4
  split
  ·rename_i hx
   unfold Xe
   rw [List.pairwise_cons, List.pairwise_cons]
   refine ⟨fun z hz => ?_, h.1, h.2⟩
   rcases List.mem_cons.1 hz with rfl | hz
   ·exact wo.asym _ _ hx
   ·cases hzx : lt z x with
    | false => rfl
    | true =>
     have := h.1 z hz
     -- z < x < y, so z < y
     have h2 := wo.neg z x y hzx (wo.asym _ _ hx)
     rw [h2] at this; cases this
  ·rename_i hx
   unfold Xe
   rw [List.pairwise_cons]
   refine ⟨fun z hz => ?_, Z5U wo h.2⟩
   rcases Z5T.1 hz with rfl | hz
   ·exact hx
   ·exact h.1 z hz
theorem Z4C {α : Type} {lt : α → α → Bool} (wo : WO lt) {x : α} : ∀ {l : List α} {j : Nat}, Xe lt l → j ≤ l.length → (∀ y ∈ l.drop j, lt x y = true) → (∀ y, l[j - 1]? = some y → 0 < j → lt x y = false) →
  l.take j ++ x :: l.drop j = U4 lt x l
 | [], j, _, hj, _, _ => by simp at hj; simp [U4]
 | y :: r, 0, _, _, h1, _ => by
  have := h1 y (by simp)
  unfold U4
  rw [this]; simp
 | y :: r, j + 1, ho, hj, h1, h2 => by
  unfold Xe at ho
  rw [List.pairwise_cons] at ho
  have hy : lt x y = false := by
   cases hxy : lt x y with
   | false => rfl
   | true =>
    cases j with
    | zero => rw [h2 y (by simp) (by omega)] at hxy; cases hxy
    | succ k =>
     simp at hj
     have hk : k < r.length := by omega
     have h3 := h2 r[k] (by simp [hk]) (by omega)
     have h4 := ho.1 r[k] (List.getElem_mem hk)
     rw [wo.neg x y _ hxy h4] at h3; cases h3
  unfold U4
  rw [hy]
  simp only [List.take_succ_cons, List.drop_succ_cons, List.cons_append, List.cons.injEq, true_and]
  refine Z4C wo ho.2 (by simpa using hj) (by simpa using h1) fun z hz hj' => h2 z ?_ (by omega)
  cases j with
  | zero => omega
  | succ k => simpa using hz
theorem Ur {α : Type} {lt : α → α → Bool} (wo : WO lt) : ∀ {l acc : List α}, Xe lt acc → Xe lt (YE lt acc l)
 | [], _, h => h
 | _ :: _, _, h => by unfold YE; exact Ur wo (Z5U wo h)
theorem Wr {α : Type} {lt : α → α → Bool} : ∀ {l acc : List α}, (YE lt acc l).Perm (acc ++ l)
 | [], acc => by simp [YE]
 | x :: r, acc => by
  unfold YE
  refine Wr.trans ?_
  refine (List.Perm.append_right r Z3G).trans ?_
  rw [List.cons_append]
  exact List.perm_middle.symm
theorem Z0n {α : Type} {lt : α → α → Bool} {l acc : List α} : (YE lt acc l).length = acc.length + l.length := by
 rw [(Wr (lt := lt)).length_eq, List.length_append]
theorem Qm {α : Type} {lt : α → α → Bool} {x : α} : ∀ {l acc : List α}, YE lt acc (l ++ [x]) = U4 lt x (YE lt acc l)
 | [], acc => rfl
 | y :: r, acc => by
  simp only [List.cons_append, YE]
  exact Qm
theorem Z0G {α : Type} {lt : α → α → Bool} : ∀ {l m : List α}, l.Perm m → Xe lt l → Xe lt m → (∀ a ∈ l, ∀ b ∈ l, lt a b = false → lt b a = false → a = b) → l = m
 | [], m, hp, _, _, _ => by simpa using hp.symm
 | x :: r, [], hp, _, _, _ => by simp at hp
 | x :: r, y :: q, hp, hl, hm, hu => by
  unfold Xe at hl hm
  rw [List.pairwise_cons] at hl hm
  have hyx : y = x := by
   by_cases e : y = x
   ·exact e
   ·have hx : x ∈ q := by
     have := hp.subset (List.mem_cons_self ..)
     rcases List.mem_cons.1 this with h | h
     ·exact absurd h.symm e
     ·exact h
    have hy : y ∈ r := by
     have := hp.symm.subset (List.mem_cons_self ..)
     rcases List.mem_cons.1 this with h | h
     ·exact absurd h e
     ·exact h
    exact hu y (List.mem_cons_of_mem _ hy) x (List.mem_cons_self ..) (hl.1 y hy) (hm.1 x hx)
  subst hyx
  rw [List.perm_cons] at hp
  rw [Z0G hp hl.2 hm.2 fun a ha b hb => hu a (List.mem_cons_of_mem _ ha) b (List.mem_cons_of_mem _ hb)]
end Go.Tk
end
section
namespace Go.Tk
open IntKind (i64 u8 u32 u64 wrap)
def YT : List Int → Nat
 | [] => 0
 | a :: r => (Wh a).toNat * 256 ^ r.length + YT r
theorem Z4D : ∀ (x : List Int), YT x < 256 ^ x.length
 | [] => by simp [YT]
 | a :: r => by
  have h1 := Z4D r
  have h2 := (Wh a).toNat_lt
  simp only [YT, List.length_cons, Nat.pow_succ]
  have h3 : (Wh a).toNat * 256 ^ r.length ≤ 255 * 256 ^ r.length := Nat.mul_le_mul_right _ (by omega)
  omega
theorem Z5V : ∀ (x y : List Int), x.length = y.length → XG x y = if YT x < YT y then -1 else if YT y < YT x then 1 else 0
 | [], [], _ => by simp [XG, Lib.compareBytes, YT]
 | [], b :: s, h => by simp at h
 | a :: r, [], h => by simp at h
 | a :: r, b :: s, h => by
  have h' : r.length = s.length := by simpa using h
  have ih := Z5V r s h'
  have e1 : YT (a :: r) = (Wh a).toNat * 256 ^ r.length + YT r := rfl
  have e2 : YT (b :: s) = (Wh b).toNat * 256 ^ r.length + YT s := by rw [h']; rfl
  have e3 : XG (a :: r) (b :: s) = if (Wh a).toNat < (Wh b).toNat then -1 else if (Wh b).toNat < (Wh a).toNat then 1 else XG r s := by
   unfold XG; simp only [List.map_cons, Lib.compareBytes, UInt8.lt_iff_toNat_lt]
  have h1 := Z4D r
  have h2 := Z4D s
  rw [← h'] at h2
  rw [e3]
  generalize YT (a :: r) = A at *
  generalize YT (b :: s) = B at *
  generalize (Wh a).toNat = u at *
  generalize (Wh b).toNat = v at *
  generalize hM : 256 ^ r.length = M at *
  have hs : ∀ p q : Nat, p < q → p * M + M ≤ q * M := fun p q hpq => by
   have : (p + 1) * M ≤ q * M := Nat.mul_le_mul_right _ hpq
   rw [Nat.add_mul, Nat.one_mul] at this
   exact this
  by_cases c1 : u < v
  ·have := hs u v c1
   rw [if_pos c1, if_pos (by omega)]
  ·rw [if_neg c1]
   by_cases c2 : v < u
   ·have := hs v u c2
    rw [if_pos c2, if_neg (by omega), if_pos (by omega)]
   ·rw [if_neg c2, ih]
    have : u = v := by omega
    subst this
    simp only [show (A < B) = (YT r < YT s) from propext (by omega), show (B < A) = (YT s < YT r) from propext (by omega)]
structure Zr where
 o : ZF
 id : Int
 what : Int
def Zr.c (m : Zr) : List AV := [.int .i64 m.o.kind, .int .i64 m.o.amount, .arr .u8 32 m.o.owner, .arr .u8 32 m.o.other, .arr .u8 32 m.o.point, .arr .u8 32 m.o.hash, .int .i64 m.o.delay, .int .i64 m.o.expiry, .int .i64 m.id, .int .i64 m.what]
structure Zr.Ok (m : Zr) : Prop where
 owner : m.o.owner.length = 32
 other : m.o.other.length = 32
 point : m.o.point.length = 32
 hash : m.o.hash.length = 32
def Yt : Zr := ⟨⟨0, 0, [], [], [], [], 0, 0⟩, 0, 0⟩
def Vg (a b : Int) : Int := if a < b then -1 else if b < a then 1 else 0
def Z9M (a b : Zr) : Int :=
 if Vg a.o.amount b.o.amount ≠ 0 then Vg a.o.amount b.o.amount else
 if Vg a.o.kind b.o.kind ≠ 0 then Vg a.o.kind b.o.kind else
 if Vg a.o.expiry b.o.expiry ≠ 0 then Vg a.o.expiry b.o.expiry else
 if XG a.o.hash b.o.hash ≠ 0 then XG a.o.hash b.o.hash else Vg a.id b.id
def ltM (a b : Zr) : Bool := decide (a.o.amount < b.o.amount ∨ (a.o.amount = b.o.amount ∧ (a.o.kind < b.o.kind ∨ (a.o.kind = b.o.kind ∧ (a.o.expiry < b.o.expiry ∨ (a.o.expiry = b.o.expiry ∧ (YT a.o.hash < YT b.o.hash ∨ (YT a.o.hash = YT b.o.hash ∧ a.id < b.id))))))))
theorem Wb (a b : Int) : (a < b ∧ Vg a b = -1) ∨ (b < a ∧ Vg a b = 1) ∨ (a = b ∧ Vg a b = 0) := by unfold Vg; omega
theorem Z9N {x y : List Int} (h : x.length = y.length) : (YT x < YT y ∧ XG x y = -1) ∨ (YT y < YT x ∧ XG x y = 1) ∨ (YT x = YT y ∧ XG x y = 0) := by
 rw [Z5V x y h]; omega
theorem Zen {a b : Zr} (ha : a.Ok) (hb : b.Ok) : decide (Z9M a b < 0) = ltM a b := by
 unfold Z9M ltM
 have h1 := Wb a.o.amount b.o.amount
 have h2 := Wb a.o.kind b.o.kind
 have h3 := Wb a.o.expiry b.o.expiry
 have h4 := Z9N (ha.hash.trans hb.hash.symm)
 have h5 := Wb a.id b.id
 rw [decide_eq_decide]
 generalize Vg a.o.amount b.o.amount = c1 at *
 generalize Vg a.o.kind b.o.kind = c2 at *
 generalize Vg a.o.expiry b.o.expiry = c3 at *
 generalize XG a.o.hash b.o.hash = c4 at *
 generalize Vg a.id b.id = c5 at *
 generalize YT a.o.hash = v1 at *
 generalize YT b.o.hash = v2 at *
 omega
theorem Zc6 : WO ltM where
 asym x y h := by
  unfold ltM at *
  simp only [decide_eq_true_eq, decide_eq_false_iff_not] at *
  generalize YT x.o.hash = v1 at *
  generalize YT y.o.hash = v2 at *
  omega
 neg x y z h h2 := by
  unfold ltM at *
  simp only [decide_eq_true_eq, decide_eq_false_iff_not] at *
  generalize YT x.o.hash = v1 at *
  generalize YT y.o.hash = v2 at *
  generalize YT z.o.hash = v3 at *
  omega
def Z2u (l : List Zr) : List Zr := YE ltM [] l
def ZE (l : List Zr) (i : Nat) : List AV := (l.getD i Yt).c
end Go.Tk
end
section
namespace Go.Tk
open IntKind (i64 u8 u32 u64 wrap)
def byL : List AV := [.func (.func 107) [] [], .func (.func 109) [] [], .func (.func 111) [] [], .func (.func 112) [] [], .func (.func 113) [] []]
theorem Z5W {a b r c : Int} {P X Y : Prop} (hr : r = if Vg a b ≠ 0 then Vg a b else c) (hP : r = c → P) :
  Z0 (a != a) X (Z0 (b != b) Y (Z0 (decide (a < b)) (Z0 (decide (-1 = r)) True False) (Z0 (decide (a > b)) (Z0 (decide (1 = r)) True False) P))) := by
 rw [bne_self_eq_false, bne_self_eq_false]
 show Z0 (decide (a < b)) _ (Z0 (decide (a > b)) _ P)
 rcases Wb a b with ⟨h1, h2⟩ | ⟨h1, h2⟩ | ⟨h1, h2⟩
 ·rw [decide_eq_true h1, hr, h2]; trivial
 ·rw [decide_eq_false (by omega : ¬ a < b), decide_eq_true (show a > b from h1), hr, h2]; trivial
 ·rw [decide_eq_false (by omega : ¬ a < b), decide_eq_false (show ¬ a > b by omega)]
  exact hP (by rw [hr, h2]; rfl)
theorem Zj1 (a b : Zr) (r : Int) (ha : a.Ok) (hb : b.Ok) (hr : r = Z9M a b) :
  evF G0 20 151 [.agg a.c, .agg b.c, .pview [.vrows 1 5 (ZM byL 0 1) 5] 0] ⟨0, []⟩ (Ym 0 (.ret (.int .i64 r)) 0 []) := by
 refine @Eq.mpr _ (let q1 := a.o;
 let q2 := q1.amount;
 let q3 := b.o;
 let q4 := q3.amount;
 let q5 := q4 != q4;
 let q6 := q1.kind;
 let q7 := q3.kind;
 let q8 := q7 != q7;
 let q9 := q1.expiry;
 let q10 := q3.expiry;
 let q11 := q10 != q10;
 let q12 := q1.hash;
 let q13 := q3.hash;
 let q14 := XG q12 q13;
 let q15 := a.id;
 let q16 := b.id;
 let q17 := q16 != q16;
 let q18 := Z0 (decide (0 = r)) True False;
 let q19 := Z0 (decide (-1 = r)) True False;
 let q20 := Z0 (decide (1 = r)) True False;
 let q21 := Z0 (decide (u8 = u8 ∧ List.length q12 = 32)) (Z0 (decide (u8 = u8 ∧ List.length q13 = 32)) (Z0 (q14 != 0) (Z0 (decide (q14 = r)) True False) (Z0 (q15 != q15) (Z0 q17 q18 q19) (Z0 q17 q20 (Z0 (decide (q15 < q16)) q19 (Z0 (decide (q15 > q16)) q20 q18))))) False) False;
 let q22 := Z0 (q9 != q9) (Z0 q11 q21 q19) (Z0 q11 q20 (Z0 (decide (q9 < q10)) q19 (Z0 (decide (q9 > q10)) q20 q21)));
 let q23 := Z0 (q6 != q6) (Z0 q8 q22 q19) (Z0 q8 q20 (Z0 (decide (q6 < q7)) q19 (Z0 (decide (q6 > q7)) q20 q22)));
 Z0 (q2 != q2) (Z0 q5 q23 q19) (Z0 q5 q20 (Z0 (decide (q2 < q4)) q19 (Z0 (decide (q2 > q4)) q20 q23)))) (by kernel_rfl) ?_
 conv => zeta
 unfold Z9M at hr
 refine Z5W hr fun hr => Z5W hr fun hr => Z5W hr fun hr => ?_
 rw [decide_eq_true (show u8 = u8 ∧ a.o.hash.length = 32 from ⟨rfl, ha.hash⟩), decide_eq_true (show u8 = u8 ∧ b.o.hash.length = 32 from ⟨rfl, hb.hash⟩)]
 show Z0 (XG a.o.hash b.o.hash != 0) _ _
 by_cases h : XG a.o.hash b.o.hash = 0
 ·rw [h]
  rw [if_neg (by simp [h])] at hr
  refine Z5W (c := 0) ?_ fun hr => by rw [hr]; trivial
  rw [hr]; split <;> simp_all
 ·rw [if_pos h] at hr
  rw [bne_iff_ne.2 h, hr, decide_eq_true rfl]; trivial
def Zj2 : ZW := fun args h K => ZL none h true 20 args fun a => match a with
 | [.agg ca, .agg cb, .pview [.vrows 1 5 f 5] 0] => ∃ a b, ca = Zr.c a ∧ cb = Zr.c b ∧ f = ZM byL 0 1 ∧ (a.Ok ∧ b.Ok) ∧ K (.int .i64 (Z9M a b))
 | _ => False
theorem Zeo (args : List AV) (h : Z7) (K : AV → Prop) (hl : Zj2 args h K) : Zh PP 151 args h fun o h' => ∃ v, o = .ret v ∧ h' = h ∧ K v := by
 refine ZB.psumm (d := 20) (Zq _ _ _ _ _ hl fun a ha => ?_)
 split at ha
 ·obtain ⟨a, b, rfl, rfl, rfl, ⟨h1, h2⟩, hK⟩ := ha
  exact ⟨_, .evM Zv (Zj1 a b _ h1 h2 rfl), fun _ => rfl, hK⟩
 ·exact ha.elim
end Go.Tk
end
section
namespace Go.Tk
open IntKind (i64 u8 u32 u64 wrap)
theorem and_mk {a b : Bool} (h1 : a = true) (h2 : b = true) : (a && b) = true := by rw [h1, h2]; rfl
theorem Zc7 {E : Env} {w : World} {sz n : Nat} {g g' : Nat → List AV} (hg : ∀ i, i < n → g' i = g i) (he : Emb E ⟨1, [(0, .rows sz n g')]⟩ w) : Emb E ⟨1, [(0, .rows sz n g)]⟩ w := by
 have hget : ∀ (f : Nat → List AV) x B, (Z7.mk 1 [(0, .rows sz n f)]).get x = some B → x = 0 ∧ B = .rows sz n f := fun f x B hx => by
  simp only [Z7.get, ZK] at hx
  split at hx
  ·rename_i hb
   cases hx
   exact ⟨(Nat.eq_of_beq_eq_true hb).symm, rfl⟩
  ·cases hx
 have h0 : ∀ f : Nat → List AV, (Z7.mk 1 [(0, .rows sz n f)]).get 0 = some (.rows sz n f) := fun f => rfl
 refine ⟨he.fresh, fun x B hx => ?_, fun x B hx => ?_, fun x y B B' b N N' hx hy h1 h2 => ?_, he.imm, fun a c x B N hi hx hb => ?_⟩
 ·obtain ⟨rfl, rfl⟩ := hget _ _ _ hx; exact he.lt 0 _ (h0 _)
 ·obtain ⟨rfl, rfl⟩ := hget _ _ _ hx
  have := he.own 0 _ (h0 g')
  cases this with
  | rows0 _ _ _ hn hb => exact .rows0 _ _ _ hn hb
  | rows _ _ _ b cells elem fr gv hb hw hf hc hl hv => exact .rows _ _ _ b cells elem fr gv hb hw hf (fun i hi => hg i hi ▸ hc i hi) hl hv
 ·obtain ⟨rfl, rfl⟩ := hget _ _ _ hx
  obtain ⟨rfl, rfl⟩ := hget _ _ _ hy
  rfl
 ·obtain ⟨rfl, rfl⟩ := hget _ _ _ hx
  exact he.sep a c 0 _ N hi (h0 g') hb
theorem Spec.rows {P : Program} {f : FuncId} {args : List AV} {sz n : Nat} {g g' : Nat → List AV} {o : Out} {nx : Nat} {bs : List (Nat × Blk)} (hg : ∀ i, i < n → g' i = g i) (h : Spec P f args ⟨1, [(0, .rows sz n g)]⟩ o nx bs) : Spec P f args ⟨1, [(0, .rows sz n g')]⟩ o nx bs := by
 intro E w rs he hl
 have he' := Zc7 hg he
 refine (h E w rs he' hl).mono ?_
 rintro e w' ⟨E', hev, ho⟩
 have own : ∀ b, Wu E ⟨1, [(0, .rows sz n g)]⟩ b ↔ Wu E ⟨1, [(0, .rows sz n g')]⟩ b := fun b => by
  unfold Wu
  constructor
  ·rintro ⟨x, B, N, hx, hb⟩
   simp only [Z7.get, ZK] at hx
   split at hx
   ·rename_i hq; have := Nat.eq_of_beq_eq_true hq; subst this; exact ⟨0, _, N, rfl, hb⟩
   ·cases hx
  ·rintro ⟨x, B, N, hx, hb⟩
   simp only [Z7.get, ZK] at hx
   split at hx
   ·rename_i hq; have := Nat.eq_of_beq_eq_true hq; subst this; exact ⟨0, _, N, rfl, hb⟩
   ·cases hx
 exact ⟨E', ⟨hev.le, hev.emb, hev.size, hev.os, hev.tape, hev.output, fun b hb hn => hev.keep b hb (fun h => hn ((own b).1 h)), fun b hb => (hev.own b hb).imp (own b).1 id, hev.imm⟩, ho⟩
theorem Zep {blk sz n len lo d : Nat} {f : Nat → List AV} {h : Z7} {K0 : List Blk → List AV → Prop} (hg : h.get blk = some (.rows sz n f)) (hp : ∀ i, i < n → plainC (f i) = true)
  (hK : K0 [.rows sz n f] [.nslice ⟨0, 0, sz, 0, 0⟩ sz len lo]) : frA [blk] h (d + 3) [.nslice ⟨blk, 0, sz, 0, 0⟩ sz len lo] K0 := by
 unfold frA
 have h1 : (hasB h [blk] && Z0A [blk]) = true := by simp [hasB, hg, Z0A, Xd]
 rw [h1]
 simp only [Zb2, hg, vwB]
 refine ⟨hp, ?_⟩
 simp only [vwL, vwV, Xd, Nat.beq_refl]
 exact hK
end Go.Tk
end
section
namespace Go.Tk
open IntKind (i64 u8 u32 u64 wrap)
noncomputable def E82 : Za := G0.withP 151 Zj2
theorem Zc8 : E82.Ok := Za.withP_ok Zv Zeo
def Zeq : AV := .func (.func 151) [] [.pview [.vrows 1 5 (ZM byL 0 1) 5] 0]
def isH (n : Nat) (L : List Zr) : Z7 := ⟨1, [(0, .rows 134 n (ZE L))]⟩
def isT (n lo : Nat) (A B : Int) (l : ZO) : ZO := l ++ [(2, .int .i64 B), (1, .int .i64 A), (3, Zeq), (0, .nslice ⟨0, 0, 134, 0, 0⟩ 134 n lo)]
def Z2Q (n lo : Nat) (A B I : Int) (L : List Zr) : St := ⟨53, isT n lo A B [(8, .int .i64 I)], isH n L, []⟩
def Zer (n lo : Nat) (A B I J : Int) (L : List Zr) : St := ⟨53, isT n lo A B [(9, .int .i64 J), (8, .int .i64 I)], isH n L, []⟩
theorem XP (L : List Zr) (i : Nat) : plainC (ZE L i) = true := rfl
theorem Yy {k : Nat} {τ : Ren} {n : Nat} {L : List Zr} {f : Nat → List AV} (h : ∀ i, i < n → f i = ZE L i) : Zg k τ n (ZE L) f :=
 V9 h (fun i _ => XP L i) (fun i _ v hv => by
  simp only [ZE, Zr.c, List.mem_cons, List.not_mem_nil, or_false] at hv
  rcases hv with rfl | rfl | rfl | rfl | rfl | rfl | rfl | rfl | rfl | rfl <;> first | exact .inl rfl | exact .inr ⟨_, _, _, rfl⟩)
theorem Z8p {L : List Zr} (h : ∀ m ∈ L, m.Ok) {i : Nat} (hi : i < L.length) : (L.getD i Yt).Ok := by
 rw [List.getD_eq_getElem?_getD, List.getElem?_eq_getElem hi]
 exact h _ (List.getElem_mem hi)
theorem Zc9 {f : Nat → List AV} {J J1 i : Nat} {x y : List AV} (hx : x = f J) (hy : y = f J1) : Xv (Xv f J y) J1 x i = if i = J1 then f J else if i = J then f J1 else f i := by
 rw [Xa, Xa]
 by_cases h1 : i = J1
 ·subst h1; rw [Nat.beq_refl, if_pos rfl, hx]
 ·rw [Zo h1, if_neg h1]
  by_cases h2 : i = J
  ·subst h2; rw [Nat.beq_refl, if_pos rfl, hy]
  ·rw [Zo h2, if_neg h2]
theorem Zkp (n lo A B I J : Nat) (L L1 : List Zr) (Z1 Z2 : Prop) (hn : n < 900000000000) (hJ : J < n) (hL : L.length = n) (hok : ∀ m ∈ L, m.Ok) (hsw : A < J → ∀ i, i < n → ZE L1 i = if i = J - 1 then ZE L J else if i = J then ZE L (J - 1) else ZE L i) (h1 : A < J → ltM (L.getD J Yt) (L.getD (J - 1) Yt) = true → Z1) (h2 : J ≤ A ∨ ltM (L.getD J Yt) (L.getD (J - 1) Yt) = false → Z2) :
  Zz E82 20 203 2 1 (Zer n lo A B I J L) (rdM 1 2 9 (Zer n lo A B I ((J - 1 : Nat) : Int) L1) (Z2Q n lo A B I L) (Z2Q n lo A B I L) (Z2Q n lo A B I L) Z1 Z2 False False) := by
 refine @Eq.mpr _ (let q1 := decide (0 ≤ (↑J : Int) ∧ (↑J : Int) < (↑n : Int));
 let q2 := 0 + Int.toNat (↑J : Int);
 let q3 := wrap i64 ((↑J : Int) - 1);
 let q4 := decide (0 ≤ q3 ∧ q3 < (↑n : Int));
 let q5 := 0 + Int.toNat q3;
 let q6 := List.getD L q2 Yt;
 let q7 := q6.o;
 let q8 := [AV.int i64 q7.kind, AV.int i64 q7.amount, AV.arr u8 32 q7.owner, AV.arr u8 32 q7.other, AV.arr u8 32 q7.point, AV.arr u8 32 q7.hash, AV.int i64 q7.delay, AV.int i64 q7.expiry, AV.int i64 q6.id, AV.int i64 q6.what];
 let q9 := List.getD L q5 Yt;
 let q10 := q9.o;
 let q11 := [AV.int i64 q10.kind, AV.int i64 q10.amount, AV.arr u8 32 q10.owner, AV.arr u8 32 q10.other, AV.arr u8 32 q10.point, AV.arr u8 32 q10.hash, AV.int i64 q10.delay, AV.int i64 q10.expiry, AV.int i64 q9.id, AV.int i64 q9.what];
 let q12 := ZM byL 0 1;
 let q13 := decide ((↑I : Int) = (↑I : Int));
 let q14 := decide ((↑B : Int) = (↑B : Int));
 let q15 := decide ((↑A : Int) = (↑A : Int));
 let q16 := [AV.vrows 1 5 q12 5];
 let q17 := q16 = q16;
 let q18 := decide (n = n);
 let q19 := decide (lo ≤ lo);
 let q20 := ZE L;
 let q21 := Z0 q13 (Z0 q14 (Z0 q15 (q17 ∧ Z0 q18 (Z0 q19 (Z0 q18 (Zg 1 [] n q20 q20 ∧ Z2) False) False) False) False) False) False;
 Z0 (decide ((↑J : Int) > (↑A : Int))) (Z0 q1 (Z0 (decide (q2 < n)) (Z0 q4 (Z0 (decide (q5 < n)) (∃ (a : Zr), ∃ (b : Zr), q8 = Zr.c a ∧ q11 = Zr.c b ∧ q12 = q12 ∧ (Zr.Ok a ∧ Zr.Ok b) ∧ Z0 (decide (Z9M a b < 0)) (Z0 q4 (Z0 (decide (q5 < n)) (Z0 q1 (Z0 (decide (q2 < n)) (Z0 q1 (Z0 (decide (q2 < n)) (Z0 q4 (Z0 (decide (q5 < n)) (Z0 (decide (q3 = (↑(J - 1) : Int))) (Z0 q13 (Z0 q14 (Z0 q15 (q17 ∧ Z0 q18 (Z0 q19 (Z0 q18 (Zg 1 [] n (ZE L1) (Xv (Xv q20 q2 q11) q5 q8) ∧ Z1) False) False) False) False) False) False) False) False) False) False) False) False) False) False) False) q21) False) False) False) False) q21) (by kernel_rfl) ?_
 conv => zeta
 try simp only [Zc]
 try simp only [Zi]
 try simp only [Ze]
 try simp only [Zj]
 try simp only [Zk]
 try simp only [Zd]
 try simp only [Int.toNat_natCast, Nat.zero_add, true_and, and_true, Nat.le_refl]
 refine ⟨fun hc => ?_, fun hc => ⟨Yy fun _ _ => rfl, h2 (.inl (by omega))⟩⟩
 have key : i64.wrap ((J : Int) - 1) = ((J - 1 : Nat) : Int) := by rw [w64 (by omega)]; omega
 rw [key]
 simp only [Int.toNat_natCast]
 have o1 : (L.getD J Yt).Ok := Z8p hok (by omega)
 have o2 : (L.getD (J - 1) Yt).Ok := Z8p hok (by omega)
 have hlt := Zen o1 o2
 refine ⟨by omega, by omega, by omega, by omega, L.getD J Yt, L.getD (J - 1) Yt, rfl, rfl, ⟨o1, o2⟩, fun hm => ?_, fun hm => ⟨Yy fun _ _ => rfl, h2 (.inr (by rw [← hlt]; simpa using hm))⟩⟩
 refine ⟨by omega, by omega, by omega, by omega, by omega, by omega, by omega, by omega, trivial, Yy fun i hi => ?_, h1 (by omega) (by rw [← hlt]; simpa using hm)⟩
 rw [hsw (by omega) i hi]
 exact Zc9 rfl rfl
def isL (a p : List Zr) (x : Zr) (r : List Zr) (m : Nat) : List Zr := a ++ (p.take (p.length - m) ++ x :: (p.drop (p.length - m) ++ r))
theorem Zes {a p r : List Zr} {x : Zr} {m : Nat} : (isL a p x r m).length = a.length + p.length + 1 + r.length := by
 unfold isL
 simp only [List.length_append, List.length_cons, List.length_take, List.length_drop]
 omega
theorem Z8q {a p r : List Zr} {x : Zr} {m : Nat} {z : Zr} : z ∈ isL a p x r m ↔ z ∈ a ∨ z ∈ p ∨ z = x ∨ z ∈ r := by
 unfold isL
 have e : z ∈ p ↔ z ∈ p.take (p.length - m) ∨ z ∈ p.drop (p.length - m) := by
  rw [← List.mem_append, List.take_append_drop]
 rw [e]
 simp only [List.mem_append, List.mem_cons]
 constructor
 ·rintro (h | h | h | h | h) <;> simp [h]
 ·rintro (h | (h | h) | h | h) <;> simp [h]
theorem Zca {a p r : List Zr} {x : Zr} {m : Nat} (hm : m ≤ p.length) : (isL a p x r m).getD (a.length + p.length - m) Yt = x := by
 unfold isL
 rw [List.getD_eq_getElem?_getD, List.getElem?_append_right (by omega), List.getElem?_append_right (by rw [List.length_take]; omega)]
 have : a.length + p.length - m - a.length - (p.take (p.length - m)).length = 0 := by rw [List.length_take]; omega
 rw [this]; rfl
theorem Zcb {a p r : List Zr} {x : Zr} {m : Nat} (hm : m < p.length) : (isL a p x r m).getD (a.length + p.length - m - 1) Yt = p.getD (p.length - m - 1) Yt := by
 unfold isL
 rw [List.getD_eq_getElem?_getD, List.getElem?_append_right (by omega), List.getElem?_append_left (by rw [List.length_take]; omega), List.getElem?_take, if_pos (by omega), ← List.getD_eq_getElem?_getD]
 congr 1
 omega
theorem Zcc {a p r : List Zr} {x : Zr} {m : Nat} (hm : m < p.length) (i : Nat) : ZE (isL a p x r (m + 1)) i = if i = a.length + p.length - m - 1 then ZE (isL a p x r m) (a.length + p.length - m) else if i = a.length + p.length - m then ZE (isL a p x r m) (a.length + p.length - m - 1) else ZE (isL a p x r m) i := by
 unfold ZE
 rw [Zca (by omega), Zcb hm]
 have hx := Zca (a := a) (p := p) (r := r) (x := x) (m := m + 1) (by omega)
 by_cases h1 : i = a.length + p.length - m - 1
 ·rw [if_pos h1, h1, show a.length + p.length - m - 1 = a.length + p.length - (m + 1) by omega, hx]
 ·rw [if_neg h1]
  have e : p.length - m = (p.length - (m + 1)) + 1 := by omega
  have hd : p.drop (p.length - (m + 1)) = p.getD (p.length - m - 1) Yt :: p.drop (p.length - m) := by
   rw [List.drop_eq_getElem_cons (by omega), show p.length - (m + 1) + 1 = p.length - m by omega]
   congr 1
   rw [List.getD_eq_getElem?_getD, List.getElem?_eq_getElem (by omega)]
   simp only [Option.getD_some]
   congr 1
  have ht : p.take (p.length - m) = p.take (p.length - (m + 1)) ++ [p.getD (p.length - m - 1) Yt] := by
   rw [e, List.take_succ_eq_append_getElem (by omega)]
   congr 2
   rw [List.getD_eq_getElem?_getD, List.getElem?_eq_getElem (by omega)]
   simp only [Option.getD_some]
   congr 1
  have l1 : (p.take (p.length - (m + 1))).length = p.length - (m + 1) := by rw [List.length_take]; omega
  generalize p.getD (p.length - m - 1) Yt = y at *
  have hm1 : isL a p x r (m + 1) = (a ++ p.take (p.length - (m + 1))) ++ (x :: y :: (p.drop (p.length - m) ++ r)) := by
   unfold isL; rw [hd]; simp
  have hm0 : isL a p x r m = (a ++ p.take (p.length - (m + 1))) ++ (y :: x :: (p.drop (p.length - m) ++ r)) := by
   unfold isL; rw [ht]; simp
  rw [hm1, hm0]
  have l2 : (a ++ p.take (p.length - (m + 1))).length = a.length + p.length - m - 1 := by rw [List.length_append, l1]; omega
  generalize a ++ p.take (p.length - (m + 1)) = U at *
  generalize p.drop (p.length - m) ++ r = V at *
  by_cases h2 : i = a.length + p.length - m
  ·rw [if_pos h2, List.getD_eq_getElem?_getD, List.getElem?_append_right (by omega), show i - U.length = 1 by omega]
   rfl
  ·rw [if_neg h2]
   rcases Nat.lt_or_ge i U.length with h3 | h3
   ·rw [List.getD_eq_getElem?_getD, List.getD_eq_getElem?_getD, List.getElem?_append_left h3, List.getElem?_append_left h3]
   ·rw [List.getD_eq_getElem?_getD, List.getD_eq_getElem?_getD, List.getElem?_append_right h3, List.getElem?_append_right h3]
    obtain ⟨q, hq⟩ : ∃ q, i - U.length = q + 2 := ⟨i - U.length - 2, by omega⟩
    rw [hq]; rfl
def isGo (p : List Zr) (x : Zr) (m : Nat) : Prop := m < p.length ∧ ltM x (p.getD (p.length - m - 1) Yt) = true
def Zj3 (p : List Zr) (x : Zr) (m : Nat) : Prop := m = p.length ∨ (m < p.length ∧ ltM x (p.getD (p.length - m - 1) Yt) = false)
theorem Zet {a p r : List Zr} {x : Zr} {m : Nat} (ho : Xe ltM p) (hm : m ≤ p.length) (hgo : ∀ j, j < m → isGo p x j) (hex : Zj3 p x m) : isL a p x r m = a ++ (U4 ltM x p ++ r) := by
 have h := Z4C Zc6 (x := x) (l := p) (j := p.length - m) ho (by omega) (fun y hy => ?_) (fun y hy hj => ?_)
 ·unfold isL
  rw [← h]; simp
 ·obtain ⟨q, hq⟩ := List.mem_iff_getElem?.1 hy
  rw [List.getElem?_drop] at hq
  obtain ⟨hlt, he⟩ := List.getElem?_eq_some_iff.1 hq
  have := (hgo (p.length - 1 - (p.length - m + q)) (by omega)).2
  rw [List.getD_eq_getElem?_getD, show p.length - (p.length - 1 - (p.length - m + q)) - 1 = p.length - m + q by omega, hq] at this
  exact this
 ·rcases hex with hex | ⟨_, hex⟩
  ·omega
  ·rw [List.getD_eq_getElem?_getD, hy] at hex
   exact hex
structure IsQ where
 a : List Zr
 p : List Zr
 x : Zr
 r : List Zr
def IsQ.n (q : IsQ) : Nat := q.a.length + q.p.length + 1 + q.r.length
def IsQ.I (q : IsQ) : Nat := q.a.length + q.p.length
def IsQ.L (q : IsQ) (m : Nat) : List Zr := isL q.a q.p q.x q.r m
structure IsQ.Ok (q : IsQ) (n : Nat) (A : Nat) : Prop where
 hn : q.n = n
 hA : q.a.length = A
 le : n < 900000000000
 ok : ∀ m ∈ q.L 0, m.Ok
def IsQ.go (q : IsQ) : Nat → Prop := isGo q.p q.x
def IsQ.ex (q : IsQ) : Nat → Prop := Zj3 q.p q.x
def IsQ.len (q : IsQ) : Nat := q.p.length
noncomputable def ZgW (n lo A B : Nat) : Za := E82.withL 203 2 (Z9r fun q : IsQ => goM 1 (Zer n lo A B q.I q.I (q.L 0)) (q.Ok n A) (ZT 2 q.len 9 q.go q.ex (fun _ => False) (fun _ => False) (fun m => Z2Q n lo A B q.I (q.L m)) (fun m => Z2Q n lo A B q.I (q.L m)) (fun m => Z2Q n lo A B q.I (q.L m))))
theorem Zeu (n lo A B : Nat) : (ZgW n lo A B).Ok :=
 Za.withL_ex Zc8 fun q => Za.withGoM (N := 20) (S := fun m => Zer n lo A B q.I ((q.I - m : Nat) : Int) (q.L m)) Zc8 (by kernel_rfl) fun hC => ⟨by simp, fun m hm hgo => by
  obtain ⟨h1, h2, h3, h4⟩ := hC
  have l1 : (q.L m).length = n := by rw [← h1]; exact Zes
  have hI : q.I = q.a.length + q.p.length := rfl
  have hm' : m ≤ q.p.length := hm
  have hnn : q.n = q.a.length + q.p.length + 1 + q.r.length := rfl
  have hx : (q.L m).getD (q.I - m) Yt = q.x := Zca hm'
  have hok : ∀ z ∈ q.L m, z.Ok := fun z hz => h4 z (Z8q.2 (Z8q.1 hz))
  have := Zkp n lo A B q.I (q.I - m) (q.L m) (q.L (m + 1)) (q.go m ∧ m < q.len) (q.ex m) h3 (by omega) l1 hok (fun hlt i hi => ?_) (fun hlt hc => ?_) (fun hc => ?_)
  ·rw [show q.I - (m + 1) = q.I - m - 1 by omega]
   exact this
  ·have hmp : m < q.p.length := by omega
   exact Zcc hmp i
  ·have hmp : m < q.p.length := by omega
   rw [hx, show (q.L m).getD (q.I - m - 1) Yt = _ from Zcb hmp] at hc
   exact ⟨⟨hmp, hc⟩, hmp⟩
  ·rcases Nat.lt_or_ge m q.p.length with hmp | hmp
   ·rcases hc with hc | hc
    ·omega
    ·rw [hx, show (q.L m).getD (q.I - m - 1) Yt = _ from Zcb hmp] at hc
     exact .inr ⟨hmp, hc⟩
   ·exact .inl (show m = q.p.length by omega)⟩
theorem Zkq (n lo A B I : Nat) (L L1 : List Zr) (q : IsQ) (Z1 Z2 : Prop) (hn : n < 900000000000) (hI : I < 900000000001) (hq : I < B → q.I = I ∧ q.L 0 = L ∧ q.Ok n A) (hnext : I < B → ∀ m, m ≤ q.len → (∀ j, j < m → q.go j) → q.ex m → L1 = q.L m ∧ Z1) (h2 : ¬ I < B → Z2) :
  Zz (ZgW n lo A B) 20 203 0 1 (Z2Q n lo A B I L) (rdM 1 0 9 (Z2Q n lo A B ((I + 1 : Nat) : Int) L1) ⟨53, [], isH n L, []⟩ ⟨53, [], isH n L, []⟩ ⟨53, [], isH n L, []⟩ Z1 Z2 False False) := by
 refine @Eq.mpr _ (let q1 := decide ((↑B : Int) = (↑B : Int));
 let q2 := decide ((↑A : Int) = (↑A : Int));
 let q3 := [AV.vrows 1 5 (ZM byL 0 1) 5];
 let q4 := q3 = q3;
 let q5 := decide (n = n);
 let q6 := decide (lo ≤ lo);
 let q7 := ZE L;
 Z0 (decide ((↑I : Int) < (↑B : Int)))
 (∃ (i : IsQ),
 let q15 := (↑(IsQ.I i) : Int);
 let q16 := decide ((↑I : Int) = q15);
 Z0 q16
 (Z0 q16
 (Z0 q1
 (Z0 q2
 (q4 ∧
 Z0 q5
 (Z0 q6
 (Z0 q5
 (Zg 1 [] n (ZE (IsQ.L i 0)) q7 ∧
 IsQ.Ok i n A ∧
 ∀ (i_1 : Nat),
 let q19 := ZE (IsQ.L i i_1);
 i_1 ≤ IsQ.len i → (∀ (j : Nat), j < i_1 → IsQ.go i j) → (IsQ.ex i i_1 → Z0 (decide (wrap i64 (q15 + 1) = (↑(I + 1) : Int))) (Z0 q1 (Z0 q2 (q4 ∧ Z0 q5 (Z0 q6 (Z0 q5 (Zg 1 [] n (ZE L1) q19 ∧ Z1) False) False) False) False) False) False) ∧ (False → Z0 q5 (Zg 1 [] n q7 q19 ∧ False) False) ∧ (False → Z0 q5 (Zg 1 [] n q7 q19 ∧ False) False))
 False)
 False)
 False)
 False)
 False)
 False)
 False)
 (Z0 q5 (Zg 1 [] n q7 q7 ∧ Z2) False)) (by kernel_rfl) ?_
 conv => zeta
 try simp only [Zc]
 try simp only [Zi]
 try simp only [Ze]
 try simp only [Zj]
 try simp only [Zk]
 try simp only [Zd]
 try simp only [Int.toNat_natCast, Nat.zero_add, true_and, and_true, Nat.le_refl]
 refine ⟨fun hc => ?_, fun hc => ⟨Yy fun _ _ => rfl, h2 (by omega)⟩⟩
 obtain ⟨e1, e2, e3⟩ := hq (by omega)
 refine ⟨q, by omega, by omega, Yy (fun _ _ => by rw [e2]), e3, fun m hm hgo => ⟨fun hex => ?_, fun h => h.elim, fun h => h.elim⟩⟩
 obtain ⟨e4, hZ⟩ := hnext (by omega) m hm hgo hex
 exact ⟨by rw [w64 (by omega)]; omega, Yy (fun _ _ => by rw [e4]), hZ⟩
structure IsP where
 a : List Zr
 M : List Zr
 c : List Zr
def IsP.L (q : IsP) (t : Nat) : List Zr := q.a ++ (YE ltM [] (q.M.take (t + 1)) ++ (q.M.drop (t + 1) ++ q.c))
def IsP.N (q : IsP) : Nat := q.M.length - 1
def IsP.all (q : IsP) : List Zr := q.a ++ (q.M ++ q.c)
def IsP.done (q : IsP) : List Zr := q.a ++ (Z2u q.M ++ q.c)
structure IsP.Ok (q : IsP) (n A B : Nat) : Prop where
 hn : q.a.length + q.M.length + q.c.length = n
 hA : q.a.length = A
 hB : q.a.length + q.M.length = B
 le : n < 900000000000
 ok : ∀ m ∈ q.all, m.Ok
theorem IsP.L0 (q : IsP) : q.L 0 = q.all := by
 unfold IsP.L IsP.all
 cases h : q.M with
 | nil => rfl
 | cons x r => rfl
theorem IsP.LN (q : IsP) : q.L q.N = q.done := by
 unfold IsP.L IsP.done IsP.N
 rw [List.take_of_length_le (by omega), List.drop_of_length_le (by omega)]; rfl
theorem Z9O {l acc : List Zr} {z : Zr} : z ∈ YE ltM acc l ↔ z ∈ acc ∨ z ∈ l := by
 rw [(Wr (lt := ltM)).mem_iff, List.mem_append]
noncomputable def Zj4 (q : IsP) (n lo A B : Nat) : Za := (ZgW n lo A B).withL 203 0 (goM 1 (Z2Q n lo A B ((A + 1 : Nat) : Int) (q.L 0)) (q.Ok n A B) (ZT 0 q.N 9 (fun t => t < q.N) (fun t => t = q.N) (fun _ => False) (fun _ => False) (fun t => ⟨53, [], isH n (q.L t), []⟩) (fun t => ⟨53, [], isH n (q.L t), []⟩) (fun t => ⟨53, [], isH n (q.L t), []⟩)))
theorem Zev (q : IsP) (n lo A B : Nat) : (Zj4 q n lo A B).Ok :=
 Za.withGoM (N := 20) (S := fun t => Z2Q n lo A B ((A + 1 + t : Nat) : Int) (q.L t)) (Zeu n lo A B) (by kernel_rfl) fun hC => ⟨rfl, fun t ht hgo => by
  obtain ⟨h1, h2, h3, h4, h5⟩ := hC
  have hN : q.N = q.M.length - 1 := rfl
  have hMl : q.M.length ≤ n := by omega
  have := Zkq n lo A B (A + 1 + t) (q.L t) (q.L (t + 1)) ⟨q.a, YE ltM [] (q.M.take (t + 1)), q.M.getD (t + 1) Yt, q.M.drop (t + 2) ++ q.c⟩ (t < q.N ∧ t < q.N) (t = q.N) h4 (by omega) (fun hlt => ?_) (fun hlt m hm hg he => ?_) (fun hc => by omega)
  ·rw [show A + 1 + (t + 1) = A + 1 + t + 1 by omega]; exact this
  ·have hl : (YE ltM [] (q.M.take (t + 1))).length = t + 1 := by rw [Z0n, List.length_take]; simp; omega
   have e0 : q.L t = isL q.a (YE ltM [] (q.M.take (t + 1))) (q.M.getD (t + 1) Yt) (q.M.drop (t + 2) ++ q.c) 0 := by
    unfold isL IsP.L
    rw [Nat.sub_zero, List.take_length, List.drop_length, List.drop_eq_getElem_cons (show t + 1 < q.M.length by omega), List.getD_eq_getElem?_getD, List.getElem?_eq_getElem (show t + 1 < q.M.length by omega)]
    rfl
   refine ⟨?_, e0.symm, ?_, h2, h4, fun z hz => ?_⟩
   ·show q.a.length + (YE ltM [] (q.M.take (t + 1))).length = _
    rw [hl, h2]; omega
   ·show q.a.length + (YE ltM [] (q.M.take (t + 1))).length + 1 + (q.M.drop (t + 2) ++ q.c).length = n
    rw [hl, List.length_append, List.length_drop]; omega
   ·have hz : z ∈ isL q.a (YE ltM [] (q.M.take (t + 1))) (q.M.getD (t + 1) Yt) (q.M.drop (t + 2) ++ q.c) 0 := hz
    refine h5 z ?_
    rw [← e0] at hz
    unfold IsP.L at hz
    unfold IsP.all
    rw [List.mem_append, List.mem_append, Z9O, List.mem_append] at hz
    rw [List.mem_append, List.mem_append]
    rcases hz with hz | (hz | hz) | hz | hz
    ·exact .inl hz
    ·simp at hz
    ·exact .inr (.inl (List.mem_of_mem_take hz))
    ·exact .inr (.inl (List.mem_of_mem_drop hz))
    ·exact .inr (.inr hz)
  ·refine ⟨?_, by omega⟩
   have := Zet (a := q.a) (r := q.M.drop (t + 2) ++ q.c) (x := q.M.getD (t + 1) Yt) (m := m) (Ur Zc6 (l := q.M.take (t + 1)) (acc := []) .nil) hm hg he
   show _ = isL q.a _ _ _ m
   rw [this]
   unfold IsP.L
   have e2 : q.M.take (t + 1 + 1) = q.M.take (t + 1) ++ [q.M.getD (t + 1) Yt] := by
    rw [List.take_succ_eq_append_getElem (by omega), List.getD_eq_getElem?_getD, List.getElem?_eq_getElem (show t + 1 < q.M.length by omega)]
    rfl
   rw [e2, Qm]⟩
theorem Zkr (q : IsP) (n lo A B : Nat) (L0 L1 : List Zr) (hq : q.Ok n A B) (hL : L0 = q.all) (hL1 : L1 = q.done) :
  evF (Zj4 q n lo A B) 20 203 [.nslice ⟨0, 0, 134, 0, 0⟩ 134 n lo, .int .i64 A, .int .i64 B, Zeq] (isH n L0) (Ym 1 (.ret (.tuple [])) 1 [(0, .rows 134 n (ZE L1))]) := by
 refine @Eq.mpr _ (let q1 := [AV.vrows 1 5 (ZM byL 0 1) 5];
 let q2 := decide (n = n);
 let q3 := IsP.N q;
 Z0 (decide (wrap i64 ((↑A : Int) + 1) = (↑(A + 1) : Int)))
 (Z0 (decide ((↑B : Int) = (↑B : Int)))
 (Z0 (decide ((↑A : Int) = (↑A : Int)))
 (q1 = q1 ∧
 Z0 q2
 (Z0 (decide (lo ≤ lo))
 (Z0 q2
 (Zg 1 [] n (ZE (IsP.L q 0)) (ZE L0) ∧
 IsP.Ok q n A B ∧
 ∀ (i : Nat),
 let q7 := Z0 q2 (Zg 1 [] n (ZE L1) (ZE (IsP.L q i)) ∧ True) False;
 i ≤ q3 → (∀ (j : Nat), j < i → (fun (t : Nat) => t < q3) j) → (i = q3 → q7) ∧ (False → q7) ∧ (False → False))
 False)
 False)
 False)
 False)
 False)
 False) (by kernel_rfl) ?_
 conv => zeta
 try simp only [Zc]
 try simp only [Zi]
 try simp only [Ze]
 try simp only [Zj]
 try simp only [Zk]
 try simp only [Zd]
 try simp only [Int.toNat_natCast, Nat.zero_add, true_and, and_true, Nat.le_refl]
 refine ⟨by rw [w64 (by have := hq.hn; have := hq.hA; have := hq.le; omega)]; omega, Yy (fun _ _ => by rw [hL, q.L0]), hq, fun i hi hg => ⟨fun he => ?_, fun h => h.elim, fun h => h.elim⟩⟩
 subst he
 exact Yy fun _ _ => by rw [hL1, q.LN]
def isF : Y6 := fun args h K => match args with
 | .nslice p esz len lo :: r => frA [p.blk] h 20 (.nslice p esz len lo :: r) fun Bs a => match Bs, a with
  | [.rows 134 m f], [.nslice ⟨0, 0, 134, 0, 0⟩ 134 n lo, .int .i64 A, .int .i64 B, .func (.func 151) [] [.pview [.vrows 1 5 g 5] 0]] => ∃ (q : IsP) (a b : Nat), (m = n ∧ A = (a : Int) ∧ B = (b : Int)) ∧ q.Ok n a b ∧ g = ZM byL 0 1 ∧ f = ZE q.all ∧ K (.ret (.tuple [])) ⟨h.next, (p.blk, .rows 134 n (ZE q.done)) :: Xb h.bs p.blk⟩
  | _, _ => False
 | _ => False
theorem ZgX (args : List AV) (h : Z7) (K : KO) (hl : isF args h K) : Zh PP 203 args h K := by
 unfold isF at hl
 split at hl
 ·rename_i p esz len lo r
  refine Spec.fsumm (σ := [p.blk]) (d := 20) hl fun Bs a₀ hlen h0 => ?_
  split at h0
  ·obtain ⟨q, a, b, ⟨rfl, rfl, rfl⟩, hq, rfl, rfl, hK⟩ := h0
   exact ⟨_, _, _, _, _, .evM (Zev _ _ _ _ _) (Zkr q _ _ a b _ _ hq rfl rfl), Nat.le_refl 1, .ret _ _ rfl, .cons 0 _ _ _ _ _ rfl (.rows _ _ _ fun i _ => XP _ i) .nil, hK⟩
  ·exact h0.elim
 ·exact hl.elim
def noF : Y6 := fun _ _ _ => False
theorem Z7v {f : FuncId} (args : List AV) (h : Z7) (K : KO) (hl : noF args h K) : Zh PP f args h K := hl.elim
noncomputable def Z7w : Za := (G0.withF 203 isF).withF 204 noF
theorem Z8r : Z7w.Ok := Za.withF_ok (Za.withF_ok Zv ZgX) Z7v
def ssT (n lo : Nat) (l : ZO) : ZO := l ++ [(2, Zeq), (1, .int .i64 n), (0, .nslice ⟨0, 0, 134, 0, 0⟩ 134 n lo)]
def Zcd (n lo : Nat) (L : List Zr) : St := ⟨63, ssT n lo [(8, .int .i64 20), (7, .int .i64 0), (6, .int .i64 20)], isH n L, []⟩
def Z4E (n lo : Nat) (L : List Zr) : St := ⟨63, ssT n lo [(7, .int .i64 0), (6, .int .i64 20)], isH n L, []⟩
def Zce (n lo : Nat) (L : List Zr) : St := ⟨63, ssT n lo [(6, .int .i64 20)], isH n L, []⟩
def Z4F (n lo : Nat) (L : List Zr) : St := ⟨63, [], isH n L, []⟩
theorem Zks (n lo : Nat) (L : List Zr) (Z : Prop) (hn : n < 20) (hZ : Z) :
  Zz Z7w 20 185 0 1 (Zcd n lo L) (rdM 1 0 9 (Zcd n lo L) (Z4E n lo L) (Z4E n lo L) (Z4E n lo L) False Z False False) := by
 refine @Eq.mpr _ (let q1 := ZM byL 0 1;
 let q2 := ZE L;
 let q3 := [AV.vrows 1 5 q1 5];
 let q4 := decide (n = n);
 Z0 (decide (20 ≤ (↑n : Int))) ((∀ (i : Nat), i < n → true = true) ∧ ∃ (q : IsP), ∃ (a : Nat), ∃ (b : Nat), (n = n ∧ 0 = (↑a : Int) ∧ 20 = (↑b : Int)) ∧ IsP.Ok q n a b ∧ q1 = q1 ∧ q2 = ZE (IsP.all q) ∧ False) (q3 = q3 ∧ Z0 (decide ((↑n : Int) = (↑n : Int))) (Z0 q4 (Z0 (decide (lo ≤ lo)) (Z0 q4 (Zg 1 [] n q2 q2 ∧ Z) False) False) False) False)) (by kernel_rfl) ?_
 conv => zeta
 try simp only [Zc]
 try simp only [Zi]
 try simp only [Ze]
 try simp only [Zj]
 try simp only [Zk]
 try simp only [Zd]
 try simp only [Int.toNat_natCast, Nat.zero_add, true_and, and_true, Nat.le_refl]
 exact ⟨fun h => by omega, fun _ => ⟨Yy fun _ _ => rfl, hZ⟩⟩
theorem Zkt (n lo : Nat) (L : List Zr) (Z : Prop) (hn : n < 20) (hZ : Z) :
  Zz Z7w 20 185 2 1 (Zce n lo L) (rdM 1 2 9 (Zce n lo L) (Z4F n lo L) (Z4F n lo L) (Z4F n lo L) False Z False False) := by
 refine @Eq.mpr _ (Z0 (decide (20 < (↑n : Int))) (Z0 (decide (40 ≤ (↑n : Int))) False (Z0 (decide (20 < (↑n : Int))) False False)) (Z0 (decide (n = n)) (Zg 1 [] n (ZE L) (ZE L) ∧ Z) False)) (by kernel_rfl) ?_
 try simp only [Zc]
 try simp only [Zi]
 try simp only [Ze]
 try simp only [Zj]
 try simp only [Zk]
 try simp only [Zd]
 try simp only [Int.toNat_natCast, Nat.zero_add, true_and, and_true, Nat.le_refl]
 exact ⟨fun h => absurd h (by omega), fun _ => ⟨Yy fun _ _ => rfl, hZ⟩⟩
noncomputable def Zj5 (n lo : Nat) (L L1 : List Zr) : Za := (Z7w.withL 185 0 (goM 1 (Zcd n lo L) (n < 20) (ZT 0 0 9 (fun _ => False) (fun _ => True) (fun _ => False) (fun _ => False) (fun _ => Z4E n lo L) (fun _ => Z4E n lo L) (fun _ => Z4E n lo L)))).withL 185 2 (goM 1 (Zce n lo L1) (n < 20) (ZT 2 0 9 (fun _ => False) (fun _ => True) (fun _ => False) (fun _ => False) (fun _ => Z4F n lo L1) (fun _ => Z4F n lo L1) (fun _ => Z4F n lo L1)))
theorem Zew (n lo : Nat) (L L1 : List Zr) : (Zj5 n lo L L1).Ok := by
 have h0 : (Z7w.withL 185 0 _).Ok := Za.withGoM (N := 20) (S := fun _ => Zcd n lo L) (S0 := Zcd n lo L) (C := n < 20) (n := 0) (l := 9) (go := fun _ => False) (ex := fun _ => True) (re := fun _ => False) (jm := fun _ => False) (En := fun _ => Z4E n lo L) (Rn := fun _ => Z4E n lo L) (Jn := fun _ => Z4E n lo L) Z8r (by kernel_rfl) fun hC => ⟨rfl, fun t _ _ => (by
  have := Zks n lo L True hC trivial
  simpa only [false_and] using this)⟩
 have h2 : (Z7w.withL 185 2 _).Ok := Za.withGoM (N := 20) (S := fun _ => Zce n lo L1) (S0 := Zce n lo L1) (C := n < 20) (n := 0) (l := 9) (go := fun _ => False) (ex := fun _ => True) (re := fun _ => False) (jm := fun _ => False) (En := fun _ => Z4F n lo L1) (Rn := fun _ => Z4F n lo L1) (Jn := fun _ => Z4F n lo L1) Z8r (by kernel_rfl) fun hC => ⟨rfl, fun t _ _ => (by
  have := Zkt n lo L1 True hC trivial
  simpa only [false_and] using this)⟩
 exact Za.withL_join (H := Z7w) h0 rfl h2
theorem Zku (n lo : Nat) (L L1 : List Zr) (hn : n < 20) (hl : L.length = n) (hok : ∀ m ∈ L, m.Ok) (hL : L1 = Z2u L) :
  evF (Zj5 n lo L L1) 20 150 [.nslice ⟨0, 0, 134, 0, 0⟩ 134 n lo, Zeq] (isH n L) (Ym 1 (.ret (.tuple [])) 1 [(0, .rows 134 n (ZE L1))]) := by
 refine @Eq.mpr _ (let q1 := ZM byL 0 1;
 let q2 := [AV.vrows 1 5 q1 5];
 let q3 := q2 = q2;
 let q4 := decide ((↑n : Int) = (↑n : Int));
 let q5 := decide (n = n);
 let q6 := decide (lo ≤ lo);
 let q7 := ZE L;
 let q8 := ZE L1;
 let q9 := Z0 q5 (Zg 1 [] n q8 q8 ∧ True) False;
 q3 ∧ Z0 q4 (Z0 q5 (Z0 q6 (Z0 q5 (Zg 1 [] n q7 q7 ∧ n < 20 ∧ ∀ (i : Nat), i ≤ 0 → (∀ (j : Nat), j < i → (fun (x : Nat) => False) j) → (True → (∀ (i : Nat), i < n → true = true) ∧ ∃ (q : IsP), ∃ (a : Nat), ∃ (b : Nat), (n = n ∧ 0 = (↑a : Int) ∧ (↑n : Int) = (↑b : Int)) ∧ IsP.Ok q n a b ∧ q1 = q1 ∧ q7 = ZE (IsP.all q) ∧ q3 ∧ Z0 q4 (Z0 q5 (Z0 q6 (Z0 q5 (Zg 1 [] n q8 (ZE (IsP.done q)) ∧ n < 20 ∧ ∀ (i : Nat), i ≤ 0 → (∀ (j : Nat), j < i → (fun (x : Nat) => False) j) → (True → q9) ∧ (False → q9) ∧ (False → False)) False) False) False) False) ∧ (False → Z0 q5 (Zg 1 [] n q8 q7 ∧ True) False) ∧ (False → False)) False) False) False) False) (by kernel_rfl) ?_
 conv => zeta
 try simp only [Zc]
 try simp only [Zi]
 try simp only [Ze]
 try simp only [Zj]
 try simp only [Zk]
 try simp only [Zd]
 try simp only [Int.toNat_natCast, Nat.zero_add, true_and, and_true, Nat.le_refl]
 refine ⟨Yy fun _ _ => rfl, hn, fun i _ _ => ⟨fun _ => ⟨fun _ _ => trivial, ⟨[], L, []⟩, 0, n, ⟨rfl, rfl⟩, ⟨by simp [hl], rfl, by simp [hl], by omega, fun m hm => hok m (by simpa [IsP.all] using hm)⟩, by simp [IsP.all], Yy fun _ _ => by simp [IsP.done, hL], hn, fun j _ _ => ⟨fun _ => Yy fun _ _ => rfl, fun h => h.elim, fun h => h.elim⟩⟩, fun h => h.elim, fun h => h.elim⟩⟩
def stF : Y6 := fun args h K => match args with
 | .nslice p esz len lo :: r => frA [p.blk] h 20 (.nslice p esz len lo :: r) fun Bs a => match Bs, a with
  | [.rows 134 m f], [.nslice ⟨0, 0, 134, 0, 0⟩ 134 n lo, .func (.func 151) [] [.pview [.vrows 1 5 g 5] 0]] => ∃ (L : List Zr), (m = n ∧ n < 20 ∧ L.length = n) ∧ (∀ m ∈ L, m.Ok) ∧ g = ZM byL 0 1 ∧ f = ZE L ∧ K (.ret (.tuple [])) ⟨h.next, (p.blk, .rows 134 n (ZE (Z2u L))) :: Xb h.bs p.blk⟩
  | _, _ => False
 | _ => False
theorem ZgY (args : List AV) (h : Z7) (K : KO) (hl : stF args h K) : Zh PP 150 args h K := by
 unfold stF at hl
 split at hl
 ·rename_i p esz len lo r
  refine Spec.fsumm (σ := [p.blk]) (d := 20) hl fun Bs a₀ hlen h0 => ?_
  split at h0
  ·obtain ⟨L, ⟨rfl, hn, hll⟩, hok, rfl, rfl, hK⟩ := h0
   exact ⟨_, _, _, _, _, .evM (Zew _ _ _ _) (Zku _ _ L _ hn hll hok rfl), Nat.le_refl 1, .ret _ _ rfl, .cons 0 _ _ _ _ _ rfl (.rows _ _ _ fun i _ => XP _ i) .nil, hK⟩
  ·exact h0.elim
 ·exact hl.elim
noncomputable def Zj6 : Za := G0.withF 150 stF
theorem Zex : Zj6.Ok := Za.withF_ok Zv ZgY
theorem Zkv (n lo : Nat) (L L1 : List Zr) (hn : n < 20) (hl : L.length = n) (hok : ∀ m ∈ L, m.Ok) (hL : L1 = Z2u L) :
  evF Zj6 20 58 [.nslice ⟨0, 0, 134, 0, 0⟩ 134 n lo] (isH n L) (Ym 1 (.ret (.nslice ⟨0, 0, 134, 0, 0⟩ 134 n lo)) 1 [(0, .rows 134 n (ZE L1))]) := by
 refine @Eq.mpr _ (let q1 := decide (n = n);
 (∀ (i : Nat), i < n → true = true) ∧ ∃ (L_1 : List Zr), (n = n ∧ n < (20 : Nat) ∧ List.length L_1 = n) ∧ (∀ (m : Zr), List.Mem m L_1 → Zr.Ok m) ∧ ZM [AV.func (Fn.func (107 : Nat)) [] [], AV.func (Fn.func (109 : Nat)) [] [], AV.func (Fn.func (111 : Nat)) [] [], AV.func (Fn.func (112 : Nat)) [] [], AV.func (Fn.func (113 : Nat)) [] []] (0 : Nat) (1 : Nat) = ZM byL (0 : Nat) (1 : Nat) ∧ ZE L = ZE L_1 ∧ Z0 q1 (Z0 (decide (lo ≤ lo)) (Z0 q1 (Zg (1 : Nat) [] n (ZE L1) (ZE (Z2u L_1)) ∧ True) False) False) False) (by kernel_rfl) ?_
 conv => zeta
 try simp only [Zc]
 try simp only [Zi]
 try simp only [Ze]
 try simp only [Zj]
 try simp only [Zk]
 try simp only [Zd]
 try simp only [Int.toNat_natCast, Nat.zero_add, true_and, and_true, Nat.le_refl]
 exact ⟨fun _ _ => trivial, L, ⟨hn, hl⟩, hok, rfl, rfl, Yy fun _ _ => by rw [hL]⟩
theorem Zkw (X : Nat) (hn : X = X) :
  evF G0 20 58 [.nilslice] ⟨0, []⟩ (Ym 0 (.ret .nilslice) 0 []) := by
 refine @Eq.mpr _ (True) (by kernel_rfl) ?_
 trivial
def orF : Y6 := fun args h K => match args with
 | [.nilslice] => K (.ret .nilslice) h
 | [.nslice p esz len lo] => frA [p.blk] h 20 [.nslice p esz len lo] fun Bs a => match Bs, a with
  | [.rows 134 m f], [.nslice ⟨0, 0, 134, 0, 0⟩ 134 n lo] => ∃ (L : List Zr), (m = n ∧ n < 20 ∧ L.length = n) ∧ (∀ m ∈ L, m.Ok) ∧ (∀ i, i < n → f i = ZE L i) ∧ K (.ret (.nslice ⟨p.blk, 0, 134, 0, 0⟩ 134 n lo)) ⟨h.next, (p.blk, .rows 134 n (ZE (Z2u L))) :: Xb h.bs p.blk⟩
  | _, _ => False
 | _ => False
theorem ZgZ (args : List AV) (h : Z7) (K : KO) (hl : orF args h K) : Zh PP 58 args h K := by
 unfold orF at hl
 split at hl
 ·exact (ZB.evM Zv (Zkw 0 rfl)).calls (fun E w rs he hr => by
   cases hr with
   | cons v r vs rs h1 h2 => cases h2; exact .cons _ _ _ _ (h1.plain rfl) .nil) rfl trivial hl
 ·rename_i p esz len lo
  refine Spec.fsumm (σ := [p.blk]) (d := 20) hl fun Bs a₀ hlen h0 => ?_
  split at h0
  ·obtain ⟨L, ⟨rfl, hn, hll⟩, hok, hf, hK⟩ := h0
   exact ⟨_, _, _, _, _, .rows hf (.evM Zex (Zkv _ _ L _ hn hll hok rfl)), Nat.le_refl 1, .ret _ _ rfl, .cons 0 _ _ _ _ _ rfl (.rows _ _ _ fun i _ => XP _ i) .nil, hK⟩
  ·exact h0.elim
 ·exact hl.elim
end Go.Tk
end
section
namespace Go.Tk
open IntKind (i64 u8 u32 u64 wrap)
def Z4G : Nat → List AV := fun _ => []
theorem Zj7 (X : Nat) (hn : X = X) :
  evF G0 20 67 [.nilslice] ⟨0, []⟩ (Ym 0 (.ret (.nslice ⟨0, 0, 34, 0, 0⟩ 34 0 0)) 1 [(0, .rows 34 0 Z4G)]) := by
 refine @Eq.mpr _ (True) (by kernel_rfl) ?_
 trivial
theorem Zj8 (X : Nat) (hn : X = X) :
  evF G0 20 67 [.fslice] ⟨0, []⟩ (Ym 0 (.ret (.nslice ⟨0, 0, 34, 0, 0⟩ 34 0 0)) 1 [(0, .rows 34 0 Z4G)]) := by
 refine @Eq.mpr _ (Zg 0 [(0, 0)] 0 Z4G (YF 0 (fun (x : Nat) => []) fun (x : Nat) => []) ∧ True) (by kernel_rfl) ?_
 exact ⟨⟨fun i hi => absurd hi (Nat.not_lt_zero i)⟩, trivial⟩
def Zh0 : Y6 := fun args h K => match args with
 | [.eslice] => K (.ret (.nslice ⟨h.next, 0, 34, 0, 0⟩ 34 0 0)) ⟨h.next + 1, (h.next, .rows 34 0 Z4G) :: h.bs⟩
 | _ => False
theorem Zey (args : List AV) (h : Z7) (K : KO) (hl : Zh0 args h K) : Zh PP 67 args h K := by
 unfold Zh0 at hl
 split at hl
 ·refine Zh.eslice ?_ ?_
  ·exact (ZB.evM Zv (Zj7 0 rfl)).calls (fun E w rs he hr => by
    cases hr with
    | cons v r vs rs h1 h2 => cases h2; exact .cons _ _ _ _ (h1.plain rfl) .nil) rfl ⟨Nat.one_pos, .rows _ _ _ (fun i hi => absurd hi (Nat.not_lt_zero i)), trivial⟩ hl
  ·exact (ZB.evM Zv (Zj8 0 rfl)).calls (fun E w rs he hr => by
    cases hr with
    | cons v r vs rs h1 h2 => cases h2; exact .cons _ _ _ _ (h1.plain rfl) .nil) rfl ⟨Nat.one_pos, .rows _ _ _ (fun i hi => absurd hi (Nat.not_lt_zero i)), trivial⟩ hl
 ·exact hl.elim
end Go.Tk
end
section
namespace Go.Tk
open IntKind (i64 u8 u32 u64 wrap)
theorem ZhC {O P : List Zr} {c i : Nat} (hc : O.length = c) : YF c (ZE O) (ZE P) i = ZE (O ++ P) i := by
 unfold ZE
 rcases Nat.lt_or_ge i c with h | h
 ·rw [Z4p h, List.getD_eq_getElem?_getD, List.getD_eq_getElem?_getD, List.getElem?_append_left (by omega)]
 ·rw [QG h, List.getD_eq_getElem?_getD, List.getD_eq_getElem?_getD, List.getElem?_append_right (by omega), hc]
theorem XC {f : Nat → List AV} {O : List Zr} {x : Zr} {c i : Nat} (hc : O.length = c) (hf : ∀ i, i < c → f i = ZE O i) (hi : i < c + 1) : YF c f (ZM (Zr.c x) 0 134) i = ZE (O ++ [x]) i := by
 rcases Nat.lt_or_ge i c with h | h
 ·rw [Z4p h, hf i h]
  unfold ZE
  rw [List.getD_eq_getElem?_getD, List.getD_eq_getElem?_getD, List.getElem?_append_left (by omega)]
 ·have e : i = c := by omega
  subst e
  rw [QG (Nat.le_refl _), Nat.sub_self]
  unfold ZE
  rw [List.getD_eq_getElem?_getD, List.getElem?_append_right (by omega), hc, Nat.sub_self]
  rfl
end Go.Tk
end
section
namespace Go.Tk
open IntKind (i64 u8 u32 u64 wrap)
def Z2v (t : W0) : InS := ⟨t.fund, t.index, 1, Z6, Z6, Z6⟩
def txZ : List AV := [.int .i64 0, .nilslice, .nilslice]
end Go.Tk
end
section
namespace Go.Tk
open IntKind (i64 u8 u32 u64 wrap)
theorem Us (x : Zr) (i : Nat) (hi : i < 1) : YF 0 (fun _ => []) (ZM (Zr.c x) 0 134) i = ZE [x] i := XC (O := []) rfl (fun k hk => absurd hk (Nat.not_lt_zero k)) hi
theorem X9 (x y : Zr) (i : Nat) (hi : i < 2) : YF 1 (YF 0 (fun _ => []) (ZM (Zr.c x) 0 134)) (ZM (Zr.c y) 0 134) i = ZE [x, y] i := XC (O := [x]) rfl (fun k hk => Us x k hk) hi
end Go.Tk
end
section
namespace Go.Tk
open IntKind (i64 u8 u32 u64 wrap)
theorem Z2w (t : TxS) : XZ t t = true := by
 unfold XZ Z7b Z9p
 simp [Z0P, Vx]
def tx0 : TxS := ⟨0, 0, fun _ => inZ, 0, fun _ => ZiD⟩
theorem Zcf : tx0.Ok := ⟨by decide, by decide, fun i hi => absurd hi (Nat.not_lt_zero i), fun i hi => absurd hi (Nat.not_lt_zero i)⟩
end Go.Tk
end
section
namespace Go.Tk
open IntKind (i64 u8 u32 u64 wrap)
def hsh (n : Int) : List Int := n :: List.replicate 31 0
def t8 : W0 := ⟨Z6, 0, 1000, 10, 5, 3, hsh 1, hsh 2⟩
def Zh1 : List AV := [.int .i64 0, .int .i64 0, .arr .u8 32 Z6, .arr .i64 2 [600, 400], .nilslice]
def mA1 : Zr := ⟨⟨3, 595, hsh 1, Z6, Z6, Z6, 3, 0⟩, 0, -1⟩
def mA2 : Zr := ⟨⟨1, 400, hsh 2, Z6, Z6, Z6, 0, 0⟩, 0, -2⟩
def mB1 : Zr := ⟨⟨3, 380, hsh 2, Z6, Z6, Z6, 3, 0⟩, 0, -1⟩
def mB2 : Zr := ⟨⟨1, 595, hsh 1, Z6, Z6, Z6, 0, 0⟩, 0, -2⟩
def mB3 : Zr := ⟨⟨5, 20, hsh 2, hsh 1, Z6, Z6, 3, 9⟩, 0, 0⟩
def mC1 : Zr := ⟨⟨1, 400, hsh 2, Z6, Z6, Z6, 0, 0⟩, 1, 0⟩
def Zh2 : Y6 := fun args h K => match args with
 | [.nslice p esz len lo] => match h.get p.blk with
  | some (.rows 134 m f) => match Nat.beq m len && Nat.beq p.row 0 && Nat.beq p.sz 134 && Nat.beq p.off 0 && Nat.beq p.inn 0 && Nat.beq esz 134 with
   | true => match m with
    | 1 => (∀ i, i < 1 → f i = ZE [mC1] i) ∧ K (.ret (.nslice ⟨p.blk, 0, 134, 0, 0⟩ 134 1 lo)) ⟨h.next, (p.blk, .rows 134 1 (ZE [mC1])) :: Xb h.bs p.blk⟩
    | 2 => (∀ i, i < 2 → f i = ZE [mA1, mA2] i) ∧ K (.ret (.nslice ⟨p.blk, 0, 134, 0, 0⟩ 134 2 lo)) ⟨h.next, (p.blk, .rows 134 2 (ZE [mA2, mA1])) :: Xb h.bs p.blk⟩
    | 3 => (∀ i, i < 3 → f i = ZE [mB1, mB2, mB3] i) ∧ K (.ret (.nslice ⟨p.blk, 0, 134, 0, 0⟩ 134 3 lo)) ⟨h.next, (p.blk, .rows 134 3 (ZE [mB3, mB1, mB2])) :: Xb h.bs p.blk⟩
    | _ => False
   | false => False
  | _ => False
 | _ => False
theorem Zh3 (args : List AV) (h : Z7) (K : KO) (hl : Zh2 args h K) : Zh PP 58 args h K := by
 unfold Zh2 at hl
 split at hl
 ·rename_i p esz len lo
  split at hl
  ·rename_i m f hg
   split at hl
   ·rename_i hb
    simp only [Bool.and_eq_true] at hb
    obtain ⟨⟨⟨⟨⟨h1, h2⟩, h3⟩, h4⟩, h5⟩, h6⟩ := hb
    have g1 := Nat.eq_of_beq_eq_true h1
    clear h1
    have g2 := Nat.eq_of_beq_eq_true h2
    clear h2
    have g3 := Nat.eq_of_beq_eq_true h3
    clear h3
    have g4 := Nat.eq_of_beq_eq_true h4
    clear h4
    have g5 := Nat.eq_of_beq_eq_true h5
    clear h5
    have g6 := Nat.eq_of_beq_eq_true h6
    clear h6
    obtain ⟨blk, row, sz, off, inn⟩ := p
    simp only at g2 g3 g4 g5 hg
    subst g1 g2 g3 g4 g5 g6
    have key : ∀ (L L' : List Zr), L.length = m → m < 20 → (∀ x ∈ L, x.Ok) → Z2u L = L' → (∀ i, i < m → f i = ZE L i) → K (.ret (.nslice ⟨blk, 0, 134, 0, 0⟩ 134 m lo)) ⟨h.next, (blk, .rows 134 m (ZE L')) :: Xb h.bs blk⟩ → Zh PP 58 [.nslice ⟨blk, 0, 134, 0, 0⟩ 134 m lo] h K := by
     intro L L' k1 k2 k3 k4 k5 hK
     subst k4
     refine ZgZ _ _ _ ?_
     unfold orF
     refine Zep hg (fun i hi => by rw [k5 i hi]; exact XP L i) ?_
     exact ⟨L, ⟨rfl, k2, k1⟩, k3, k5, hK⟩
    have z32 : Z6.length = 32 := rfl
    have l1 : (hsh 1).length = 32 := rfl
    have l2 : (hsh 2).length = 32 := rfl
    split at hl
    ·exact key [mC1] [mC1] rfl (by decide) (fun x hx => by simp only [List.mem_cons, List.not_mem_nil, or_false] at hx; subst hx; exact ⟨l2, z32, z32, z32⟩) rfl hl.1 hl.2
    ·exact key [mA1, mA2] [mA2, mA1] rfl (by decide) (fun x hx => by simp only [List.mem_cons, List.not_mem_nil, or_false] at hx; rcases hx with rfl | rfl <;> exact ⟨by assumption, z32, z32, z32⟩) rfl hl.1 hl.2
    ·exact key [mB1, mB2, mB3] [mB3, mB1, mB2] rfl (by decide) (fun x hx => by simp only [List.mem_cons, List.not_mem_nil, or_false] at hx; rcases hx with rfl | rfl | rfl <;> exact ⟨by assumption, by assumption, z32, z32⟩) rfl hl.1 hl.2
    ·exact hl.elim
   ·exact hl.elim
  ·exact hl.elim
 ·exact hl.elim
noncomputable def E88 : Za := G0.withF 58 Zh2
theorem Z2x : E88.Ok := Za.withF_ok Zv Zh3
theorem coA (X : Nat) (hx : X = X) :
  evF E88 20 9 [.agg t8.c, .agg Zh1] ⟨0, []⟩ (Ym 0 (.ret (.tuple [.agg [.int .i64 0, .nslice ⟨0, 0, 0, 0, 0⟩ 130 1 1, .nslice ⟨1, 0, 132, 0, 0⟩ 132 2 2], .int .i64 0])) 2 [(0, .flat (InS.c (Z2v t8))), (1, .rows 132 2 (Zn (fun i => match i with | 0 => ⟨1, 400, hsh 2, Z6, Z6, Z6, 0, 0⟩ | _ => ⟨3, 595, hsh 1, Z6, Z6, Z6, 3, 0⟩)))]) := by
 refine @Eq.mpr _ (let q1 := t8.k1;
 let q2 := q1 = q1;
 let q3 := t8.k0;
 let q4 := q3 = q3;
 let q5 := AV.arr u8 32 Z6;
 let q6 := AV.int i64 0;
 let q7 := t8.fund;
 let q8 := Z2v t8;
 let q9 := mA2.o;
 let q10 := mA1.o;
 q2 ∧
 q4 ∧
 q2 ∧
 q4 ∧
 q2 ∧
 q4 ∧
 q2 ∧
 q4 ∧
 q2 ∧
 q4 ∧
 q2 ∧
 q2 ∧
 q2 ∧
 (∀ (i : Nat), i < 2 → YF 1 (YF 0 (fun (x : Nat) => []) (ZM [AV.int i64 3, AV.int i64 595, AV.arr u8 32 q3, q5, q5, q5, AV.int i64 t8.delay, q6, q6, AV.int i64 (-1)] 0 134)) (ZM [AV.int i64 1, AV.int i64 400, AV.arr u8 32 q1, q5, q5, q5, q6, q6, q6, AV.int i64 (-2)] 0 134) i = ZE [mA1, mA2] i) ∧
 q7 = q7 ∧
 q4 ∧
 q2 ∧
 q7 = q8.name ∧
 Z6 = q8.tag ∧
 Z6 = q8.also ∧
 Z6 = q8.secret ∧
 Zg 0 [(1, 34), (0, 27)] 2
 (Zn fun (i : Nat) =>
 match i with
 | 0 => ZF.mk 1 400 (hsh 2) Z6 Z6 Z6 0 0
 | x => ZF.mk 3 595 (hsh 1) Z6 Z6 Z6 3 0)
 (YF 1 (YF 0 (fun (x : Nat) => []) (ZM [AV.int i64 q9.kind, AV.int i64 q9.amount, AV.arr u8 32 q9.owner, AV.arr u8 32 q9.other, AV.arr u8 32 q9.point, AV.arr u8 32 q9.hash, AV.int i64 q9.delay, AV.int i64 q9.expiry] 0 132)) (ZM [AV.int i64 q10.kind, AV.int i64 q10.amount, AV.arr u8 32 q10.owner, AV.arr u8 32 q10.other, AV.arr u8 32 q10.point, AV.arr u8 32 q10.hash, AV.int i64 q10.delay, AV.int i64 q10.expiry] 0 132)) ∧
 True) (by kernel_rfl) ?_
 conv => zeta
 have e3 : ∀ i : Nat, i < 3 → i = 0 ∨ i = 1 ∨ i = 2 := by omega
 and_intros
 all_goals first
  | rfl
  | trivial
  | (intro i hi; exact Us mC1 i hi)
  | (intro i hi; exact X9 mA1 mA2 i hi)
  | (intro i hi; exact XC (O := [mB1, mB2]) (x := mB3) (c := 2) rfl (fun k hk => X9 mB1 mB2 k hk) hi)
  | (refine Va fun i hi => ?_; rcases e3 i (by omega) with rfl | rfl | rfl <;> first | rfl | omega)
def pdC : List AV := [.int .i64 0, .int .i64 0, .int .i64 20, .arr .u8 32 Z6, .int .i64 9]
def Z9P : List AV := [.int .i64 0, .int .i64 1, .arr .u8 32 Z6, .arr .i64 2 [600, 380], .vrows 36 1 (ZM pdC 0 36) 1]
def Zh4 : List AV := [.int .i64 0, .int .i64 0, .arr .u8 32 Z6, .arr .i64 2 [600, 401], .nilslice]
theorem coB (X : Nat) (hx : X = X) :
  evF E88 20 9 [.agg t8.c, .agg Z9P] ⟨0, []⟩ (Ym 0 (.ret (.tuple [.agg [.int .i64 0, .nslice ⟨0, 0, 0, 0, 0⟩ 130 1 1, .nslice ⟨1, 0, 132, 0, 0⟩ 132 3 3], .int .i64 0])) 2 [(0, .flat (InS.c (Z2v t8))), (1, .rows 132 3 (Zn (fun i => match i with | 0 => ⟨5, 20, hsh 2, hsh 1, Z6, Z6, 3, 9⟩ | 1 => ⟨3, 380, hsh 2, Z6, Z6, Z6, 3, 0⟩ | _ => ⟨1, 595, hsh 1, Z6, Z6, Z6, 0, 0⟩)))]) := by
 refine @Eq.mpr _ (let q1 := t8.k1;
 let q2 := q1 = q1;
 let q3 := t8.k0;
 let q4 := q3 = q3;
 let q5 := AV.arr u8 32 q1;
 let q6 := AV.arr u8 32 Z6;
 let q7 := AV.int i64 t8.delay;
 let q8 := AV.int i64 0;
 let q9 := AV.arr u8 32 q3;
 let q10 := t8.fund;
 let q11 := Z2v t8;
 let q12 := mB3.o;
 let q13 := mB1.o;
 let q14 := mB2.o;
 q2 ∧
 q4 ∧
 q2 ∧
 q4 ∧
 q2 ∧
 q4 ∧
 q2 ∧
 q4 ∧
 q2 ∧
 q4 ∧
 q4 ∧
 q4 ∧
 q4 ∧
 (∀ (i : Nat), i < 3 → YF 2 (YF 1 (YF 0 (fun (x : Nat) => []) (ZM [AV.int i64 3, AV.int i64 380, q5, q6, q6, q6, q7, q8, q8, AV.int i64 (-1)] 0 134)) (ZM [AV.int i64 1, AV.int i64 595, q9, q6, q6, q6, q8, q8, q8, AV.int i64 (-2)] 0 134)) (ZM [AV.int i64 5, AV.int i64 20, q5, q9, q6, q6, q7, AV.int i64 9, q8, q8] 0 134) i = ZE [mB1, mB2, mB3] i) ∧
 q10 = q10 ∧
 q4 ∧
 q2 ∧
 q10 = q11.name ∧
 Z6 = q11.tag ∧
 Z6 = q11.also ∧
 Z6 = q11.secret ∧
 Zg 0 [(1, 47), (0, 37)] 3
 (Zn fun (i : Nat) =>
 match i with
 | 0 => ZF.mk 5 20 (hsh 2) (hsh 1) Z6 Z6 3 9
 | 1 => ZF.mk 3 380 (hsh 2) Z6 Z6 Z6 3 0
 | x => ZF.mk 1 595 (hsh 1) Z6 Z6 Z6 0 0)
 (YF 2 (YF 1 (YF 0 (fun (x : Nat) => []) (ZM [AV.int i64 q12.kind, AV.int i64 q12.amount, AV.arr u8 32 q12.owner, AV.arr u8 32 q12.other, AV.arr u8 32 q12.point, AV.arr u8 32 q12.hash, AV.int i64 q12.delay, AV.int i64 q12.expiry] 0 132)) (ZM [AV.int i64 q13.kind, AV.int i64 q13.amount, AV.arr u8 32 q13.owner, AV.arr u8 32 q13.other, AV.arr u8 32 q13.point, AV.arr u8 32 q13.hash, AV.int i64 q13.delay, AV.int i64 q13.expiry] 0 132)) (ZM [AV.int i64 q14.kind, AV.int i64 q14.amount, AV.arr u8 32 q14.owner, AV.arr u8 32 q14.other, AV.arr u8 32 q14.point, AV.arr u8 32 q14.hash, AV.int i64 q14.delay, AV.int i64 q14.expiry] 0 132)) ∧
 True) (by kernel_rfl) ?_
 conv => zeta
 have e3 : ∀ i : Nat, i < 3 → i = 0 ∨ i = 1 ∨ i = 2 := by omega
 and_intros
 all_goals first
  | rfl
  | trivial
  | (intro i hi; exact Us mC1 i hi)
  | (intro i hi; exact X9 mA1 mA2 i hi)
  | (intro i hi; exact XC (O := [mB1, mB2]) (x := mB3) (c := 2) rfl (fun k hk => X9 mB1 mB2 k hk) hi)
  | (refine Va fun i hi => ?_; rcases e3 i (by omega) with rfl | rfl | rfl <;> first | rfl | omega)
theorem coC (X : Nat) (hx : X = X) :
  evF E88 20 9 [.agg t8.c, .agg Zh4] ⟨0, []⟩ (Ym 0 (.ret (.tuple [.agg txZ, .int .i64 2])) 0 []) := by
 refine @Eq.mpr _ (let q1 := t8.k1 = t8.k1;
 let q2 := t8.k0 = t8.k0;
 q1 ∧ q2 ∧ q1 ∧ q2 ∧ q1 ∧ q2 ∧ q1 ∧ q2 ∧ q1 ∧ q2 ∧ True) (by kernel_rfl) ?_
 conv => zeta
 have e3 : ∀ i : Nat, i < 3 → i = 0 ∨ i = 1 ∨ i = 2 := by omega
 and_intros
 all_goals first
  | rfl
  | trivial
  | (intro i hi; exact Us mC1 i hi)
  | (intro i hi; exact X9 mA1 mA2 i hi)
  | (intro i hi; exact XC (O := [mB1, mB2]) (x := mB3) (c := 2) rfl (fun k hk => X9 mB1 mB2 k hk) hi)
  | (refine Va fun i hi => ?_; rcases e3 i (by omega) with rfl | rfl | rfl <;> first | rfl | omega)
theorem plB (X : Nat) (hx : X = X) :
  evF E88 20 10 [.agg t8.c, .agg Z9P] ⟨0, []⟩ (Ym 0 (.ret (.tuple [.nslice ⟨0, 0, 0, 0, 0⟩ 1 1 1, .int .i64 1, .int .i64 2, .int .i64 0])) 1 [(0, .ints .i64 [0])]) := by
 refine @Eq.mpr _ (let q1 := t8.k1;
 let q2 := q1 = q1;
 let q3 := t8.k0;
 let q4 := q3 = q3;
 let q5 := AV.arr u8 32 q1;
 let q6 := AV.arr u8 32 Z6;
 let q7 := AV.int i64 t8.delay;
 let q8 := AV.int i64 0;
 let q9 := AV.arr u8 32 q3;
 q2 ∧
 q4 ∧
 q2 ∧
 q4 ∧ q2 ∧ q4 ∧ q2 ∧ q4 ∧ q2 ∧ q4 ∧ q4 ∧ q4 ∧ q4 ∧ (∀ (i : Nat), i < 3 → YF 2 (YF 1 (YF 0 (fun (x : Nat) => []) (ZM [AV.int i64 3, AV.int i64 380, q5, q6, q6, q6, q7, q8, q8, AV.int i64 (-1)] 0 134)) (ZM [AV.int i64 1, AV.int i64 595, q9, q6, q6, q6, q8, q8, q8, AV.int i64 (-2)] 0 134)) (ZM [AV.int i64 5, AV.int i64 20, q5, q9, q6, q6, q7, AV.int i64 9, q8, q8] 0 134) i = ZE [mB1, mB2, mB3] i) ∧ t8.fund = t8.fund ∧ q4 ∧ q2 ∧ q4 ∧ q4 ∧ q4 ∧ (∀ (i : Nat), i < 3 → YF 2 (YF 1 (YF 0 (fun (x : Nat) => []) (ZM [AV.int i64 3, AV.int i64 380, q5, q6, q6, q6, q7, q8, q8, AV.int i64 (-1)] 0 134)) (ZM [AV.int i64 1, AV.int i64 595, q9, q6, q6, q6, q8, q8, q8, AV.int i64 (-2)] 0 134)) (ZM [AV.int i64 5, AV.int i64 20, q5, q9, q6, q6, q7, AV.int i64 9, q8, q8] 0 134) i = ZE [mB1, mB2, mB3] i) ∧ [(0 : Int)] = [(0 : Int)] ∧ True) (by kernel_rfl) ?_
 conv => zeta
 have e3 : ∀ i : Nat, i < 3 → i = 0 ∨ i = 1 ∨ i = 2 := by omega
 and_intros
 all_goals first
  | rfl
  | trivial
  | (intro i hi; exact Us mC1 i hi)
  | (intro i hi; exact X9 mA1 mA2 i hi)
  | (intro i hi; exact XC (O := [mB1, mB2]) (x := mB3) (c := 2) rfl (fun k hk => X9 mB1 mB2 k hk) hi)
  | (refine Va fun i hi => ?_; rcases e3 i (by omega) with rfl | rfl | rfl <;> first | rfl | omega)
theorem clA (X : Nat) (hx : X = X) :
  evF E88 20 26 [.agg t8.c, .agg [.arr .i64 2 [600, 400]], .int .i64 600] ⟨0, []⟩ (Ym 0 (.ret (.tuple [.agg [.int .i64 2147483647, .nslice ⟨0, 0, 0, 0, 0⟩ 130 1 1, .nslice ⟨1, 0, 132, 0, 0⟩ 132 1 1], .int .i64 0])) 2 [(0, .flat (InS.c (Z2v t8))), (1, .rows 132 1 (Zn (fun _ => ⟨1, 400, hsh 2, Z6, Z6, Z6, 0, 0⟩)))]) := by
 refine @Eq.mpr _ (let q1 := t8.k1;
 let q2 := q1 = q1;
 let q3 := t8.k0 = t8.k0;
 let q4 := AV.arr u8 32 Z6;
 let q5 := AV.int i64 0;
 let q6 := t8.fund;
 let q7 := Z2v t8;
 let q8 := mC1.o;
 q2 ∧ q3 ∧ q2 ∧ q3 ∧ q2 ∧ q3 ∧ q2 ∧ q3 ∧ q2 ∧ q3 ∧ (∀ (i : Nat), i < 1 → YF 0 (fun (x : Nat) => []) (ZM [AV.int i64 1, AV.int i64 400, AV.arr u8 32 q1, q4, q4, q4, q5, q5, AV.int i64 1, q5] 0 134) i = ZE [mC1] i) ∧ q6 = q6 ∧ q3 ∧ q2 ∧ q6 = q7.name ∧ Z6 = q7.tag ∧ Z6 = q7.also ∧ Z6 = q7.secret ∧ Zg 0 [(1, 15), (0, 11)] 1 (Zn fun (x : Nat) => ZF.mk 1 400 (hsh 2) Z6 Z6 Z6 0 0) (YF 0 (fun (x : Nat) => []) (ZM [AV.int i64 q8.kind, AV.int i64 q8.amount, AV.arr u8 32 q8.owner, AV.arr u8 32 q8.other, AV.arr u8 32 q8.point, AV.arr u8 32 q8.hash, AV.int i64 q8.delay, AV.int i64 q8.expiry] 0 132)) ∧ True) (by kernel_rfl) ?_
 conv => zeta
 have e3 : ∀ i : Nat, i < 3 → i = 0 ∨ i = 1 ∨ i = 2 := by omega
 and_intros
 all_goals first
  | rfl
  | trivial
  | (intro i hi; exact Us mC1 i hi)
  | (intro i hi; exact X9 mA1 mA2 i hi)
  | (intro i hi; exact XC (O := [mB1, mB2]) (x := mB3) (c := 2) rfl (fun k hk => X9 mB1 mB2 k hk) hi)
  | (refine Va fun i hi => ?_; rcases e3 i (by omega) with rfl | rfl | rfl <;> first | rfl | omega)
def Zj9 : Y6 := fun args h K => ZL none h true 20 args fun a => match a with
 | [ct, .agg [nu, ow, po, .arr .i64 2 [x, y], pe]] => match decide (y = 400) with
  | true => ct = .agg t8.c ∧ AV.agg [nu, ow, po, .arr .i64 2 [x, y], pe] = .agg Zh1 ∧ K (.ret (.tuple [.agg [.int .i64 0, .nslice ⟨h.next, 0, 0, 0, 0⟩ 130 1 1, .nslice ⟨h.next + 1, 0, 132, 0, 0⟩ 132 2 2], .int .i64 0])) ⟨h.next + 2, (h.next, .flat (InS.c (Z2v t8))) :: (h.next + 1, .rows 132 2 (Zn (fun i => match i with | 0 => ⟨1, 400, hsh 2, Z6, Z6, Z6, 0, 0⟩ | _ => ⟨3, 595, hsh 1, Z6, Z6, Z6, 3, 0⟩))) :: h.bs⟩
  | false => match decide (y = 380) with
   | true => ct = .agg t8.c ∧ AV.agg [nu, ow, po, .arr .i64 2 [x, y], pe] = .agg Z9P ∧ K (.ret (.tuple [.agg [.int .i64 0, .nslice ⟨h.next, 0, 0, 0, 0⟩ 130 1 1, .nslice ⟨h.next + 1, 0, 132, 0, 0⟩ 132 3 3], .int .i64 0])) ⟨h.next + 2, (h.next, .flat (InS.c (Z2v t8))) :: (h.next + 1, .rows 132 3 (Zn (fun i => match i with | 0 => ⟨5, 20, hsh 2, hsh 1, Z6, Z6, 3, 9⟩ | 1 => ⟨3, 380, hsh 2, Z6, Z6, Z6, 3, 0⟩ | _ => ⟨1, 595, hsh 1, Z6, Z6, Z6, 0, 0⟩))) :: h.bs⟩
   | false => ct = .agg t8.c ∧ AV.agg [nu, ow, po, .arr .i64 2 [x, y], pe] = .agg Zh4 ∧ K (.ret (.tuple [.agg txZ, .int .i64 2])) h
 | _ => False
theorem Zh5 (args : List AV) (h : Z7) (K : KO) (hl : Zj9 args h K) : Zh PP 9 args h K := by
 refine ZB.fsumm (d := 20) (Zq _ _ _ _ _ hl fun a ha => ?_)
 split at ha
 ·split at ha
  ·obtain ⟨rfl, e, hK⟩ := ha
   rw [e]
   exact ⟨_, _, _, _, .evM Z2x (coA 0 rfl), rfl, ⟨by decide, .flat _ rfl, by decide, .rows _ _ _ (fun i _ => ZF.plainC _), trivial⟩, hK⟩
  ·split at ha
   ·obtain ⟨rfl, e, hK⟩ := ha
    rw [e]
    exact ⟨_, _, _, _, .evM Z2x (coB 0 rfl), rfl, ⟨by decide, .flat _ rfl, by decide, .rows _ _ _ (fun i _ => ZF.plainC _), trivial⟩, hK⟩
   ·obtain ⟨rfl, e, hK⟩ := ha
    rw [e]
    exact ⟨_, _, _, _, .evM Z2x (coC 0 rfl), rfl, trivial, hK⟩
 ·exact ha.elim
def Zja : Y6 := fun args h K => ZL none h true 20 args fun a => a = [.agg t8.c, .agg Z9P] ∧ K (.ret (.tuple [.nslice ⟨h.next, 0, 0, 0, 0⟩ 1 1 1, .int .i64 1, .int .i64 2, .int .i64 0])) ⟨h.next + 1, (h.next, .ints .i64 [0]) :: h.bs⟩
theorem Zh6 (args : List AV) (h : Z7) (K : KO) (hl : Zja args h K) : Zh PP 10 args h K := by
 refine ZB.fsumm (d := 20) (Zq _ _ _ _ _ hl fun a ha => ?_)
 obtain ⟨rfl, hK⟩ := ha
 exact ⟨_, _, _, _, .evM Z2x (plB 0 rfl), rfl, ⟨by decide, .ints _ _, trivial⟩, hK⟩
def Zjb : Y6 := fun args h K => ZL none h true 20 args fun a => a = [.agg t8.c, .agg [.arr .i64 2 [600, 400]], .int .i64 600] ∧ K (.ret (.tuple [.agg [.int .i64 2147483647, .nslice ⟨h.next, 0, 0, 0, 0⟩ 130 1 1, .nslice ⟨h.next + 1, 0, 132, 0, 0⟩ 132 1 1], .int .i64 0])) ⟨h.next + 2, (h.next, .flat (InS.c (Z2v t8))) :: (h.next + 1, .rows 132 1 (Zn (fun _ => ⟨1, 400, hsh 2, Z6, Z6, Z6, 0, 0⟩))) :: h.bs⟩
theorem Zh7 (args : List AV) (h : Z7) (K : KO) (hl : Zjb args h K) : Zh PP 26 args h K := by
 refine ZB.fsumm (d := 20) (Zq _ _ _ _ _ hl fun a ha => ?_)
 obtain ⟨rfl, hK⟩ := ha
 exact ⟨_, _, _, _, .evM Z2x (clA 0 rfl), rfl, ⟨by decide, .flat _ rfl, by decide, .rows _ _ _ (fun i _ => ZF.plainC _), trivial⟩, hK⟩
noncomputable def Zjc (A : List Int → Int × Int) (Nm : TxS → List Int) : Za := (((((G0.withP 41 (Z8b A Nm)).withP 43 (ckS A)).withF 67 Zh0).withF 9 Zj9).withF 10 Zja).withF 26 Zjb
theorem Zez : (Zjc Y0 Xo).Ok := Za.withF_ok (Za.withF_ok (Za.withF_ok (Za.withF_ok (Za.withP_ok (Za.withP_ok Zv Z5G) Z77) Zey) Zh5) Zh6) Zh7
theorem Zkx (A : List Int → Int × Int) (Nm : TxS → List Int) (b : Bool) (hA : A = Y0) (hN : Nm = Xo) (hb : b = true) :
  evF (Zjc A Nm) 20 8 [] ⟨0, []⟩ (Z2P (fun v => v = .bool b)) := by
 refine @Eq.mpr _ (let q1 := AV.arr u8 32 Z6;
 let q2 := AV.int i64 0;
 let q3 := [(0 : Int), 0, 0, 0, 0, 0, 0, 0, 0, 0, 0, 0, 0, 0, 0, 0, 0, 0, 0, 0, 0, 0, 0, 0, 0, 0, 0, 0, 0, 0, 0];
 let q4 := AV.agg [q1, q2, AV.int i64 1000, AV.int i64 10, AV.int i64 5, AV.int i64 3, AV.arr u8 32 ((1 : Int) :: q3), AV.arr u8 32 ((2 : Int) :: q3)];
 let q5 := AV.agg (W0.c t8);
 let q6 := q4 = q5;
 let q7 := AV.arr i64 2 [(600 : Int), 400];
 let q8 := AV.agg [q2, AV.int i64 1, q1, AV.arr i64 2 [(600 : Int), 380], AV.vrows 36 1 (ZM [q2, q2, AV.int i64 20, q1, AV.int i64 9] 0 36) 1];
 let q9 := [AV.agg [q7], AV.int i64 600];
 let q10 := Z2v t8;
 let q11 := AV.bool true = AV.bool b;
 q6 ∧
 AV.agg [q2, q2, q1, q7, AV.nilslice] = AV.agg Zh1 ∧
 q6 ∧
 q8 = AV.agg Z9P ∧
 [q4, q8] = [q5, AV.agg Z9P] ∧
 q4 :: q9 = q5 :: q9 ∧
 q6 ∧
 AV.agg [q2, q2, q1, AV.arr i64 2 [(600 : Int), 401], AV.nilslice] = AV.agg Zh4 ∧
 (∀ (i : Nat), i < 2 → true = true) ∧
 ∃ (t : TxS),
 (t.num = 0 ∧
 (((1 : Nat) = 1 ∧ t.N = 1) ∧ ∀ (i : Nat), i < 1 → ZM [AV.arr u8 32 q10.name, AV.int i64 q10.index, AV.int i64 q10.way, AV.arr u8 32 q10.tag, AV.arr u8 32 q10.also, AV.arr u8 32 q10.secret] 0 130 i = InS.c (t.ins i)) ∧
 ((2 : Nat) = 2 ∧ t.M = 2) ∧
 ∀ (i : Nat),
 let q23 :=
 match i with
 | 0 => ZF.mk 1 400 (hsh 2) Z6 Z6 Z6 0 0
 | x => ZF.mk 3 595 (hsh 1) Z6 Z6 Z6 3 0;
 i < 2 → [AV.int i64 q23.kind, AV.int i64 q23.amount, AV.arr u8 32 q23.owner, AV.arr u8 32 q23.other, AV.arr u8 32 q23.point, AV.arr u8 32 q23.hash, AV.int i64 q23.delay, AV.int i64 q23.expiry] = ZF.c (t.outs i)) ∧
 TxS.Ok t ∧ Z0 (ZR A t) (∃ (t : TxS), (t.num = 0 ∧ t.N = 0 ∧ ((1 : Nat) = 1 ∧ t.M = 1) ∧ ∀ (i : Nat), i < 1 → ZM [AV.int i64 1, q2, q1, q1, q1, q1, q2, q2] 0 132 i = ZF.c (t.outs i)) ∧ TxS.Ok t ∧ Z0 (ZR A t) (AV.bool false = AV.bool b) q11) q11) (by kernel_rfl) ?_
 conv => zeta
 try simp only [Zc]
 try simp only [Zi]
 try simp only [Ze]
 try simp only [Zj]
 try simp only [Zk]
 try simp only [Zd]
 try simp only [Int.toNat_natCast, Nat.zero_add, true_and, and_true, Nat.le_refl]
 subst hA
 have i0 : ∀ i : Nat, i < 1 → i = 0 := by omega
 have hT : (⟨0, 1, fun _ => Z2v t8, 2, fun i => match i with | 0 => ⟨1, 400, hsh 2, Z6, Z6, Z6, 0, 0⟩ | _ => ⟨3, 595, hsh 1, Z6, Z6, Z6, 3, 0⟩⟩ : TxS).Ok :=
  ⟨by show 1 < _; decide, by show 2 < _; decide, fun _ _ => ⟨rfl, rfl, rfl, rfl⟩, fun i _ => by cases i <;> exact ⟨rfl, rfl, rfl, rfl⟩⟩
 have hU : (⟨0, 0, fun _ => inZ, 1, fun _ => ⟨1, 0, Z6, Z6, Z6, Z6, 0, 0⟩⟩ : TxS).Ok :=
  ⟨by show 0 < _; decide, by show 1 < _; decide, fun i hi => absurd hi (Nat.not_lt_zero i), fun _ _ => ⟨rfl, rfl, rfl, rfl⟩⟩
 refine ⟨rfl, rfl, rfl, rfl, rfl, rfl, rfl, rfl, fun _ _ => trivial, _, ⟨rfl, ⟨rfl, fun i hi => ?_⟩, rfl, fun i hi => rfl⟩, hT, fun _ => ⟨_, ⟨rfl, rfl, rfl, fun i hi => ?_⟩, hU, fun hc => ?_, fun _ => by rw [hb]⟩, fun _ => by rw [hb]⟩
 ·rw [i0 i hi]; rfl
 ·rw [i0 i hi]; rfl
 ·rw [← Z0i] at hc
  unfold X4 at hc
  simp at hc
theorem Z3H (args : List AV) (h : Z7) (K : AV → Prop) (hl : Z15 args h K) : Zh PP 8 args h fun o h' => ∃ v, o = .ret v ∧ h' = h ∧ K v := by
 unfold Z15 at hl
 split at hl
 ·exact Vu Zez rfl (Zkx _ _ _ rfl rfl rfl) (fun u hu => hu ▸ hl)
 ·exact hl.elim
end Go.Tk
end
section
namespace Go.Tk
open IntKind (i64 u8 u32 u64 wrap)
end Go.Tk
end
section
namespace Go.Tk
open IntKind (i64 u8 u32 u64 wrap)
end Go.Tk
end
section
namespace Go.Tk
open IntKind (i64 u8 u32 u64 wrap)
structure ClS where
 index : Int
 way : Int
 secret : List Int
def ClS.c (x : ClS) : List AV := [.int .i64 x.index, .int .i64 x.way, .arr .u8 32 x.secret]
structure ClS.Ok (x : ClS) : Prop where
 secret : x.secret.length = 32
def cl0 : ClS := ⟨0, 0, []⟩
def ltC (a b : ClS) : Bool := decide (a.index < b.index)
def Z4H (a b : ClS) : Int := if Vg a.index b.index ≠ 0 then Vg a.index b.index else 0
theorem Z16 {a b : ClS} (_ : a.Ok) (_ : b.Ok) : decide (Z4H a b < 0) = ltC a b := by
 unfold Z4H ltC
 have h1 := Wb a.index b.index
 rw [decide_eq_decide]
 generalize Vg a.index b.index = c1 at *
 split <;> omega
theorem Z4I : WO ltC where
 asym x y h := by
  unfold ltC at *
  simp only [decide_eq_true_eq, decide_eq_false_iff_not] at *
  omega
 neg x y z h h2 := by
  unfold ltC at *
  simp only [decide_eq_true_eq, decide_eq_false_iff_not] at *
  omega
def YP (l : List ClS) : List ClS := YE ltC [] l
def Zm (l : List ClS) (i : Nat) : List AV := (l.getD i cl0).c
def byC : List AV := [.func (.func 68) [] []]
theorem Zh8 (a b : ClS) (r : Int) (ha : a.Ok) (hb : b.Ok) (hr : r = Z4H a b) :
  evF G0 20 124 [.agg a.c, .agg b.c, .pview [.vrows 1 1 (ZM byC 0 1) 1] 0] ⟨0, []⟩ (Ym 0 (.ret (.int .i64 r)) 0 []) := by
 refine @Eq.mpr _ (let q1 := a.index;
 let q2 := b.index;
 let q3 := q2 != q2;
 let q4 := Z0 (decide (0 = r)) True False;
 let q5 := Z0 (decide (-1 = r)) True False;
 let q6 := Z0 (decide (1 = r)) True False;
 Z0 (q1 != q1) (Z0 q3 q4 q5) (Z0 q3 q6 (Z0 (decide (q1 < q2)) q5 (Z0 (decide (q1 > q2)) q6 q4)))) (by kernel_rfl) ?_
 conv => zeta
 unfold Z4H at hr
 exact Z5W hr fun hr => by rw [hr]; trivial
def Zfx : ZW := fun args h K => ZL none h true 20 args fun a => match a with
 | [.agg ca, .agg cb, .pview [.vrows 1 1 f 1] 0] => ∃ a b, ca = ClS.c a ∧ cb = ClS.c b ∧ f = ZM byC 0 1 ∧ (a.Ok ∧ b.Ok) ∧ K (.int .i64 (Z4H a b))
 | _ => False
theorem Zcg (args : List AV) (h : Z7) (K : AV → Prop) (hl : Zfx args h K) : Zh PP 124 args h fun o h' => ∃ v, o = .ret v ∧ h' = h ∧ K v := by
 refine ZB.psumm (d := 20) (Zq _ _ _ _ _ hl fun a ha => ?_)
 split at ha
 ·obtain ⟨a, b, rfl, rfl, rfl, ⟨h1, h2⟩, hK⟩ := ha
  exact ⟨_, .evM Zv (Zh8 a b _ h1 h2 rfl), fun _ => rfl, hK⟩
 ·exact ha.elim
end Go.Tk
end
section
namespace Go.Tk
open IntKind (i64 u8 u32 u64 wrap)
noncomputable def ZeA : Za := G0.withP 124 Zfx
theorem Z4J : ZeA.Ok := Za.withP_ok Zv Zcg
def W1 : AV := .func (.func 124) [] [.pview [.vrows 1 1 (ZM byC 0 1) 1] 0]
def VA (n : Nat) (L : List ClS) : Z7 := ⟨1, [(0, .rows 34 n (Zm L))]⟩
def Zjd (n lo : Nat) (A B : Int) (l : ZO) : ZO := l ++ [(2, .int .i64 B), (1, .int .i64 A), (3, W1), (0, .nslice ⟨0, 0, 34, 0, 0⟩ 34 n lo)]
def US (n lo : Nat) (A B I : Int) (L : List ClS) : St := ⟨53, Zjd n lo A B [(8, .int .i64 I)], VA n L, []⟩
def Z8s (n lo : Nat) (A B I J : Int) (L : List ClS) : St := ⟨53, Zjd n lo A B [(9, .int .i64 J), (8, .int .i64 I)], VA n L, []⟩
theorem XQ (L : List ClS) (i : Nat) : plainC (Zm L i) = true := rfl
theorem ZS {k : Nat} {τ : Ren} {n : Nat} {L : List ClS} {f : Nat → List AV} (h : ∀ i, i < n → f i = Zm L i) : Zg k τ n (Zm L) f :=
 V9 h (fun i _ => XQ L i) (fun i _ v hv => by
  simp only [Zm, ClS.c, List.mem_cons, List.not_mem_nil, or_false] at hv
  rcases hv with rfl | rfl | rfl <;> first | exact .inl rfl | exact .inr ⟨_, _, _, rfl⟩)
theorem Zch {L : List ClS} (h : ∀ m ∈ L, m.Ok) {i : Nat} (hi : i < L.length) : (L.getD i cl0).Ok := by
 rw [List.getD_eq_getElem?_getD, List.getElem?_eq_getElem hi]
 exact h _ (List.getElem_mem hi)
theorem Z9Q {f : Nat → List AV} {J J1 i : Nat} {x y : List AV} (hx : x = f J) (hy : y = f J1) : Xv (Xv f J y) J1 x i = if i = J1 then f J else if i = J then f J1 else f i := by
 rw [Xa, Xa]
 by_cases h1 : i = J1
 ·subst h1; rw [Nat.beq_refl, if_pos rfl, hx]
 ·rw [Zo h1, if_neg h1]
  by_cases h2 : i = J
  ·subst h2; rw [Nat.beq_refl, if_pos rfl, hy]
  ·rw [Zo h2, if_neg h2]
theorem Zje (n lo A B I J : Nat) (L L1 : List ClS) (Z1 Z2 : Prop) (hn : n < 900000000000) (hJ : J < n) (hL : L.length = n) (hok : ∀ m ∈ L, m.Ok) (hsw : A < J → ∀ i, i < n → Zm L1 i = if i = J - 1 then Zm L J else if i = J then Zm L (J - 1) else Zm L i) (h1 : A < J → ltC (L.getD J cl0) (L.getD (J - 1) cl0) = true → Z1) (h2 : J ≤ A ∨ ltC (L.getD J cl0) (L.getD (J - 1) cl0) = false → Z2) :
  Zz ZeA 20 195 2 1 (Z8s n lo A B I J L) (rdM 1 2 9 (Z8s n lo A B I ((J - 1 : Nat) : Int) L1) (US n lo A B I L) (US n lo A B I L) (US n lo A B I L) Z1 Z2 False False) := by
 refine @Eq.mpr _ (let q1 := decide (0 ≤ (↑J : Int) ∧ (↑J : Int) < (↑n : Int));
 let q2 := 0 + Int.toNat (↑J : Int);
 let q3 := wrap i64 ((↑J : Int) - 1);
 let q4 := decide (0 ≤ q3 ∧ q3 < (↑n : Int));
 let q5 := 0 + Int.toNat q3;
 let q6 := List.getD L q2 cl0;
 let q7 := [AV.int i64 q6.index, AV.int i64 q6.way, AV.arr u8 32 q6.secret];
 let q8 := List.getD L q5 cl0;
 let q9 := [AV.int i64 q8.index, AV.int i64 q8.way, AV.arr u8 32 q8.secret];
 let q10 := ZM byC 0 1;
 let q11 := decide ((↑I : Int) = (↑I : Int));
 let q12 := decide ((↑B : Int) = (↑B : Int));
 let q13 := decide ((↑A : Int) = (↑A : Int));
 let q14 := [AV.vrows 1 1 q10 1];
 let q15 := q14 = q14;
 let q16 := decide (n = n);
 let q17 := decide (lo ≤ lo);
 let q18 := Zm L;
 let q19 := Z0 q11 (Z0 q12 (Z0 q13 (q15 ∧ Z0 q16 (Z0 q17 (Z0 q16 (Zg 1 [] n q18 q18 ∧ Z2) False) False) False) False) False) False;
 Z0 (decide ((↑J : Int) > (↑A : Int))) (Z0 q1 (Z0 (decide (q2 < n)) (Z0 q4 (Z0 (decide (q5 < n)) (∃ (a : ClS), ∃ (b : ClS), q7 = ClS.c a ∧ q9 = ClS.c b ∧ q10 = q10 ∧ (ClS.Ok a ∧ ClS.Ok b) ∧ Z0 (decide (Z4H a b < 0)) (Z0 q4 (Z0 (decide (q5 < n)) (Z0 q1 (Z0 (decide (q2 < n)) (Z0 q1 (Z0 (decide (q2 < n)) (Z0 q4 (Z0 (decide (q5 < n)) (Z0 (decide (q3 = (↑(J - 1) : Int))) (Z0 q11 (Z0 q12 (Z0 q13 (q15 ∧ Z0 q16 (Z0 q17 (Z0 q16 (Zg 1 [] n (Zm L1) (Xv (Xv q18 q2 q9) q5 q7) ∧ Z1) False) False) False) False) False) False) False) False) False) False) False) False) False) False) False) q19) False) False) False) False) q19) (by kernel_rfl) ?_
 conv => zeta
 try simp only [Zc]
 try simp only [Zi]
 try simp only [Ze]
 try simp only [Zj]
 try simp only [Zk]
 try simp only [Zd]
 try simp only [Int.toNat_natCast, Nat.zero_add, true_and, and_true, Nat.le_refl]
 refine ⟨fun hc => ?_, fun hc => ⟨ZS fun _ _ => rfl, h2 (.inl (by omega))⟩⟩
 have key : i64.wrap ((J : Int) - 1) = ((J - 1 : Nat) : Int) := by rw [w64 (by omega)]; omega
 rw [key]
 simp only [Int.toNat_natCast]
 have o1 : (L.getD J cl0).Ok := Zch hok (by omega)
 have o2 : (L.getD (J - 1) cl0).Ok := Zch hok (by omega)
 have hlt := Z16 o1 o2
 refine ⟨by omega, by omega, by omega, by omega, L.getD J cl0, L.getD (J - 1) cl0, rfl, rfl, ⟨o1, o2⟩, fun hm => ?_, fun hm => ⟨ZS fun _ _ => rfl, h2 (.inr (by rw [← hlt]; simpa using hm))⟩⟩
 refine ⟨by omega, by omega, by omega, by omega, by omega, by omega, by omega, by omega, trivial, ZS fun i hi => ?_, h1 (by omega) (by rw [← hlt]; simpa using hm)⟩
 rw [hsw (by omega) i hi]
 exact Z9Q rfl rfl
def Ws (a p : List ClS) (x : ClS) (r : List ClS) (m : Nat) : List ClS := a ++ (p.take (p.length - m) ++ x :: (p.drop (p.length - m) ++ r))
theorem Zci {a p r : List ClS} {x : ClS} {m : Nat} : (Ws a p x r m).length = a.length + p.length + 1 + r.length := by
 unfold Ws
 simp only [List.length_append, List.length_cons, List.length_take, List.length_drop]
 omega
theorem Z5X {a p r : List ClS} {x : ClS} {m : Nat} {z : ClS} : z ∈ Ws a p x r m ↔ z ∈ a ∨ z ∈ p ∨ z = x ∨ z ∈ r := by
 unfold Ws
 have e : z ∈ p ↔ z ∈ p.take (p.length - m) ∨ z ∈ p.drop (p.length - m) := by
  rw [← List.mem_append, List.take_append_drop]
 rw [e]
 simp only [List.mem_append, List.mem_cons]
 constructor
 ·rintro (h | h | h | h | h) <;> simp [h]
 ·rintro (h | (h | h) | h | h) <;> simp [h]
theorem Z7x {a p r : List ClS} {x : ClS} {m : Nat} (hm : m ≤ p.length) : (Ws a p x r m).getD (a.length + p.length - m) cl0 = x := by
 unfold Ws
 rw [List.getD_eq_getElem?_getD, List.getElem?_append_right (by omega), List.getElem?_append_right (by rw [List.length_take]; omega)]
 have : a.length + p.length - m - a.length - (p.take (p.length - m)).length = 0 := by rw [List.length_take]; omega
 rw [this]; rfl
theorem Z7y {a p r : List ClS} {x : ClS} {m : Nat} (hm : m < p.length) : (Ws a p x r m).getD (a.length + p.length - m - 1) cl0 = p.getD (p.length - m - 1) cl0 := by
 unfold Ws
 rw [List.getD_eq_getElem?_getD, List.getElem?_append_right (by omega), List.getElem?_append_left (by rw [List.length_take]; omega), List.getElem?_take, if_pos (by omega), ← List.getD_eq_getElem?_getD]
 congr 1
 omega
theorem Z9R {a p r : List ClS} {x : ClS} {m : Nat} (hm : m < p.length) (i : Nat) : Zm (Ws a p x r (m + 1)) i = if i = a.length + p.length - m - 1 then Zm (Ws a p x r m) (a.length + p.length - m) else if i = a.length + p.length - m then Zm (Ws a p x r m) (a.length + p.length - m - 1) else Zm (Ws a p x r m) i := by
 unfold Zm
 rw [Z7x (by omega), Z7y hm]
 have hx := Z7x (a := a) (p := p) (r := r) (x := x) (m := m + 1) (by omega)
 by_cases h1 : i = a.length + p.length - m - 1
 ·rw [if_pos h1, h1, show a.length + p.length - m - 1 = a.length + p.length - (m + 1) by omega, hx]
 ·rw [if_neg h1]
  have e : p.length - m = (p.length - (m + 1)) + 1 := by omega
  have hd : p.drop (p.length - (m + 1)) = p.getD (p.length - m - 1) cl0 :: p.drop (p.length - m) := by
   rw [List.drop_eq_getElem_cons (by omega), show p.length - (m + 1) + 1 = p.length - m by omega]
   congr 1
   rw [List.getD_eq_getElem?_getD, List.getElem?_eq_getElem (by omega)]
   simp only [Option.getD_some]
   congr 1
  have ht : p.take (p.length - m) = p.take (p.length - (m + 1)) ++ [p.getD (p.length - m - 1) cl0] := by
   rw [e, List.take_succ_eq_append_getElem (by omega)]
   congr 2
   rw [List.getD_eq_getElem?_getD, List.getElem?_eq_getElem (by omega)]
   simp only [Option.getD_some]
   congr 1
  have l1 : (p.take (p.length - (m + 1))).length = p.length - (m + 1) := by rw [List.length_take]; omega
  generalize p.getD (p.length - m - 1) cl0 = y at *
  have hm1 : Ws a p x r (m + 1) = (a ++ p.take (p.length - (m + 1))) ++ (x :: y :: (p.drop (p.length - m) ++ r)) := by
   unfold Ws; rw [hd]; simp
  have hm0 : Ws a p x r m = (a ++ p.take (p.length - (m + 1))) ++ (y :: x :: (p.drop (p.length - m) ++ r)) := by
   unfold Ws; rw [ht]; simp
  rw [hm1, hm0]
  have l2 : (a ++ p.take (p.length - (m + 1))).length = a.length + p.length - m - 1 := by rw [List.length_append, l1]; omega
  generalize a ++ p.take (p.length - (m + 1)) = U at *
  generalize p.drop (p.length - m) ++ r = V at *
  by_cases h2 : i = a.length + p.length - m
  ·rw [if_pos h2, List.getD_eq_getElem?_getD, List.getElem?_append_right (by omega), show i - U.length = 1 by omega]
   rfl
  ·rw [if_neg h2]
   rcases Nat.lt_or_ge i U.length with h3 | h3
   ·rw [List.getD_eq_getElem?_getD, List.getD_eq_getElem?_getD, List.getElem?_append_left h3, List.getElem?_append_left h3]
   ·rw [List.getD_eq_getElem?_getD, List.getD_eq_getElem?_getD, List.getElem?_append_right h3, List.getElem?_append_right h3]
    obtain ⟨q, hq⟩ : ∃ q, i - U.length = q + 2 := ⟨i - U.length - 2, by omega⟩
    rw [hq]; rfl
def Zfy (p : List ClS) (x : ClS) (m : Nat) : Prop := m < p.length ∧ ltC x (p.getD (p.length - m - 1) cl0) = true
def Zfz (p : List ClS) (x : ClS) (m : Nat) : Prop := m = p.length ∨ (m < p.length ∧ ltC x (p.getD (p.length - m - 1) cl0) = false)
theorem Zcj {a p r : List ClS} {x : ClS} {m : Nat} (ho : Xe ltC p) (hm : m ≤ p.length) (hgo : ∀ j, j < m → Zfy p x j) (hex : Zfz p x m) : Ws a p x r m = a ++ (U4 ltC x p ++ r) := by
 have h := Z4C Z4I (x := x) (l := p) (j := p.length - m) ho (by omega) (fun y hy => ?_) (fun y hy hj => ?_)
 ·unfold Ws
  rw [← h]; simp
 ·obtain ⟨q, hq⟩ := List.mem_iff_getElem?.1 hy
  rw [List.getElem?_drop] at hq
  obtain ⟨hlt, he⟩ := List.getElem?_eq_some_iff.1 hq
  have := (hgo (p.length - 1 - (p.length - m + q)) (by omega)).2
  rw [List.getD_eq_getElem?_getD, show p.length - (p.length - 1 - (p.length - m + q)) - 1 = p.length - m + q by omega, hq] at this
  exact this
 ·rcases hex with hex | ⟨_, hex⟩
  ·omega
  ·rw [List.getD_eq_getElem?_getD, hy] at hex
   exact hex
structure IcQ where
 a : List ClS
 p : List ClS
 x : ClS
 r : List ClS
def IcQ.n (q : IcQ) : Nat := q.a.length + q.p.length + 1 + q.r.length
def IcQ.I (q : IcQ) : Nat := q.a.length + q.p.length
def IcQ.L (q : IcQ) (m : Nat) : List ClS := Ws q.a q.p q.x q.r m
structure IcQ.Ok (q : IcQ) (n : Nat) (A : Nat) : Prop where
 hn : q.n = n
 hA : q.a.length = A
 le : n < 900000000000
 ok : ∀ m ∈ q.L 0, m.Ok
def IcQ.go (q : IcQ) : Nat → Prop := Zfy q.p q.x
def IcQ.ex (q : IcQ) : Nat → Prop := Zfz q.p q.x
def IcQ.len (q : IcQ) : Nat := q.p.length
noncomputable def Zck (n lo A B : Nat) : Za := ZeA.withL 195 2 (Z9r fun q : IcQ => goM 1 (Z8s n lo A B q.I q.I (q.L 0)) (q.Ok n A) (ZT 2 q.len 9 q.go q.ex (fun _ => False) (fun _ => False) (fun m => US n lo A B q.I (q.L m)) (fun m => US n lo A B q.I (q.L m)) (fun m => US n lo A B q.I (q.L m))))
theorem Zcl (n lo A B : Nat) : (Zck n lo A B).Ok :=
 Za.withL_ex Z4J fun q => Za.withGoM (N := 20) (S := fun m => Z8s n lo A B q.I ((q.I - m : Nat) : Int) (q.L m)) Z4J (by kernel_rfl) fun hC => ⟨by simp, fun m hm hgo => by
  obtain ⟨h1, h2, h3, h4⟩ := hC
  have l1 : (q.L m).length = n := by rw [← h1]; exact Zci
  have hI : q.I = q.a.length + q.p.length := rfl
  have hm' : m ≤ q.p.length := hm
  have hnn : q.n = q.a.length + q.p.length + 1 + q.r.length := rfl
  have hx : (q.L m).getD (q.I - m) cl0 = q.x := Z7x hm'
  have hok : ∀ z ∈ q.L m, z.Ok := fun z hz => h4 z (Z5X.2 (Z5X.1 hz))
  have := Zje n lo A B q.I (q.I - m) (q.L m) (q.L (m + 1)) (q.go m ∧ m < q.len) (q.ex m) h3 (by omega) l1 hok (fun hlt i hi => ?_) (fun hlt hc => ?_) (fun hc => ?_)
  ·rw [show q.I - (m + 1) = q.I - m - 1 by omega]
   exact this
  ·have hmp : m < q.p.length := by omega
   exact Z9R hmp i
  ·have hmp : m < q.p.length := by omega
   rw [hx, show (q.L m).getD (q.I - m - 1) cl0 = _ from Z7y hmp] at hc
   exact ⟨⟨hmp, hc⟩, hmp⟩
  ·rcases Nat.lt_or_ge m q.p.length with hmp | hmp
   ·rcases hc with hc | hc
    ·omega
    ·rw [hx, show (q.L m).getD (q.I - m - 1) cl0 = _ from Z7y hmp] at hc
     exact .inr ⟨hmp, hc⟩
   ·exact .inl (show m = q.p.length by omega)⟩
theorem Zjf (n lo A B I : Nat) (L L1 : List ClS) (q : IcQ) (Z1 Z2 : Prop) (hn : n < 900000000000) (hI : I < 900000000001) (hq : I < B → q.I = I ∧ q.L 0 = L ∧ q.Ok n A) (hnext : I < B → ∀ m, m ≤ q.len → (∀ j, j < m → q.go j) → q.ex m → L1 = q.L m ∧ Z1) (h2 : ¬ I < B → Z2) :
  Zz (Zck n lo A B) 20 195 0 1 (US n lo A B I L) (rdM 1 0 9 (US n lo A B ((I + 1 : Nat) : Int) L1) ⟨53, [], VA n L, []⟩ ⟨53, [], VA n L, []⟩ ⟨53, [], VA n L, []⟩ Z1 Z2 False False) := by
 refine @Eq.mpr _ (let q1 := decide ((↑B : Int) = (↑B : Int));
 let q2 := decide ((↑A : Int) = (↑A : Int));
 let q3 := [AV.vrows 1 1 (ZM byC 0 1) 1];
 let q4 := q3 = q3;
 let q5 := decide (n = n);
 let q6 := decide (lo ≤ lo);
 let q7 := Zm L;
 Z0 (decide ((↑I : Int) < (↑B : Int)))
 (∃ (i : IcQ),
 let q15 := (↑(IcQ.I i) : Int);
 let q16 := decide ((↑I : Int) = q15);
 Z0 q16
 (Z0 q16
 (Z0 q1
 (Z0 q2
 (q4 ∧
 Z0 q5
 (Z0 q6
 (Z0 q5
 (Zg 1 [] n (Zm (IcQ.L i 0)) q7 ∧
 IcQ.Ok i n A ∧
 ∀ (i_1 : Nat),
 let q19 := Zm (IcQ.L i i_1);
 i_1 ≤ IcQ.len i → (∀ (j : Nat), j < i_1 → IcQ.go i j) → (IcQ.ex i i_1 → Z0 (decide (wrap i64 (q15 + 1) = (↑(I + 1) : Int))) (Z0 q1 (Z0 q2 (q4 ∧ Z0 q5 (Z0 q6 (Z0 q5 (Zg 1 [] n (Zm L1) q19 ∧ Z1) False) False) False) False) False) False) ∧ (False → Z0 q5 (Zg 1 [] n q7 q19 ∧ False) False) ∧ (False → Z0 q5 (Zg 1 [] n q7 q19 ∧ False) False))
 False)
 False)
 False)
 False)
 False)
 False)
 False)
 (Z0 q5 (Zg 1 [] n q7 q7 ∧ Z2) False)) (by kernel_rfl) ?_
 conv => zeta
 try simp only [Zc]
 try simp only [Zi]
 try simp only [Ze]
 try simp only [Zj]
 try simp only [Zk]
 try simp only [Zd]
 try simp only [Int.toNat_natCast, Nat.zero_add, true_and, and_true, Nat.le_refl]
 refine ⟨fun hc => ?_, fun hc => ⟨ZS fun _ _ => rfl, h2 (by omega)⟩⟩
 obtain ⟨e1, e2, e3⟩ := hq (by omega)
 refine ⟨q, by omega, by omega, ZS (fun _ _ => by rw [e2]), e3, fun m hm hgo => ⟨fun hex => ?_, fun h => h.elim, fun h => h.elim⟩⟩
 obtain ⟨e4, hZ⟩ := hnext (by omega) m hm hgo hex
 exact ⟨by rw [w64 (by omega)]; omega, ZS (fun _ _ => by rw [e4]), hZ⟩
structure IcP where
 a : List ClS
 M : List ClS
 c : List ClS
def IcP.L (q : IcP) (t : Nat) : List ClS := q.a ++ (YE ltC [] (q.M.take (t + 1)) ++ (q.M.drop (t + 1) ++ q.c))
def IcP.N (q : IcP) : Nat := q.M.length - 1
def IcP.all (q : IcP) : List ClS := q.a ++ (q.M ++ q.c)
def IcP.done (q : IcP) : List ClS := q.a ++ (YP q.M ++ q.c)
structure IcP.Ok (q : IcP) (n A B : Nat) : Prop where
 hn : q.a.length + q.M.length + q.c.length = n
 hA : q.a.length = A
 hB : q.a.length + q.M.length = B
 le : n < 900000000000
 ok : ∀ m ∈ q.all, m.Ok
theorem IcP.L0 (q : IcP) : q.L 0 = q.all := by
 unfold IcP.L IcP.all
 cases h : q.M with
 | nil => rfl
 | cons x r => rfl
theorem IcP.LN (q : IcP) : q.L q.N = q.done := by
 unfold IcP.L IcP.done IcP.N
 rw [List.take_of_length_le (by omega), List.drop_of_length_le (by omega)]; rfl
theorem Z2y {l acc : List ClS} {z : ClS} : z ∈ YE ltC acc l ↔ z ∈ acc ∨ z ∈ l := by
 rw [(Wr (lt := ltC)).mem_iff, List.mem_append]
noncomputable def ZfA (q : IcP) (n lo A B : Nat) : Za := (Zck n lo A B).withL 195 0 (goM 1 (US n lo A B ((A + 1 : Nat) : Int) (q.L 0)) (q.Ok n A B) (ZT 0 q.N 9 (fun t => t < q.N) (fun t => t = q.N) (fun _ => False) (fun _ => False) (fun t => ⟨53, [], VA n (q.L t), []⟩) (fun t => ⟨53, [], VA n (q.L t), []⟩) (fun t => ⟨53, [], VA n (q.L t), []⟩)))
theorem Zcm (q : IcP) (n lo A B : Nat) : (ZfA q n lo A B).Ok :=
 Za.withGoM (N := 20) (S := fun t => US n lo A B ((A + 1 + t : Nat) : Int) (q.L t)) (Zcl n lo A B) (by kernel_rfl) fun hC => ⟨rfl, fun t ht hgo => by
  obtain ⟨h1, h2, h3, h4, h5⟩ := hC
  have hN : q.N = q.M.length - 1 := rfl
  have hMl : q.M.length ≤ n := by omega
  have := Zjf n lo A B (A + 1 + t) (q.L t) (q.L (t + 1)) ⟨q.a, YE ltC [] (q.M.take (t + 1)), q.M.getD (t + 1) cl0, q.M.drop (t + 2) ++ q.c⟩ (t < q.N ∧ t < q.N) (t = q.N) h4 (by omega) (fun hlt => ?_) (fun hlt m hm hg he => ?_) (fun hc => by omega)
  ·rw [show A + 1 + (t + 1) = A + 1 + t + 1 by omega]; exact this
  ·have hl : (YE ltC [] (q.M.take (t + 1))).length = t + 1 := by rw [Z0n, List.length_take]; simp; omega
   have e0 : q.L t = Ws q.a (YE ltC [] (q.M.take (t + 1))) (q.M.getD (t + 1) cl0) (q.M.drop (t + 2) ++ q.c) 0 := by
    unfold Ws IcP.L
    rw [Nat.sub_zero, List.take_length, List.drop_length, List.drop_eq_getElem_cons (show t + 1 < q.M.length by omega), List.getD_eq_getElem?_getD, List.getElem?_eq_getElem (show t + 1 < q.M.length by omega)]
    rfl
   refine ⟨?_, e0.symm, ?_, h2, h4, fun z hz => ?_⟩
   ·show q.a.length + (YE ltC [] (q.M.take (t + 1))).length = _
    rw [hl, h2]; omega
   ·show q.a.length + (YE ltC [] (q.M.take (t + 1))).length + 1 + (q.M.drop (t + 2) ++ q.c).length = n
    rw [hl, List.length_append, List.length_drop]; omega
   ·have hz : z ∈ Ws q.a (YE ltC [] (q.M.take (t + 1))) (q.M.getD (t + 1) cl0) (q.M.drop (t + 2) ++ q.c) 0 := hz
    refine h5 z ?_
    rw [← e0] at hz
    unfold IcP.L at hz
    unfold IcP.all
    rw [List.mem_append, List.mem_append, Z2y, List.mem_append] at hz
    rw [List.mem_append, List.mem_append]
    rcases hz with hz | (hz | hz) | hz | hz
    ·exact .inl hz
    ·simp at hz
    ·exact .inr (.inl (List.mem_of_mem_take hz))
    ·exact .inr (.inl (List.mem_of_mem_drop hz))
    ·exact .inr (.inr hz)
  ·refine ⟨?_, by omega⟩
   have := Zcj (a := q.a) (r := q.M.drop (t + 2) ++ q.c) (x := q.M.getD (t + 1) cl0) (m := m) (Ur Z4I (l := q.M.take (t + 1)) (acc := []) .nil) hm hg he
   show _ = Ws q.a _ _ _ m
   rw [this]
   unfold IcP.L
   have e2 : q.M.take (t + 1 + 1) = q.M.take (t + 1) ++ [q.M.getD (t + 1) cl0] := by
    rw [List.take_succ_eq_append_getElem (by omega), List.getD_eq_getElem?_getD, List.getElem?_eq_getElem (show t + 1 < q.M.length by omega)]
    rfl
   rw [e2, Qm]⟩
theorem Zjg (q : IcP) (n lo A B : Nat) (L0 L1 : List ClS) (hq : q.Ok n A B) (hL : L0 = q.all) (hL1 : L1 = q.done) :
  evF (ZfA q n lo A B) 20 195 [.nslice ⟨0, 0, 34, 0, 0⟩ 34 n lo, .int .i64 A, .int .i64 B, W1] (VA n L0) (Ym 1 (.ret (.tuple [])) 1 [(0, .rows 34 n (Zm L1))]) := by
 refine @Eq.mpr _ (let q1 := [AV.vrows 1 1 (ZM byC 0 1) 1];
 let q2 := decide (n = n);
 let q3 := IcP.N q;
 Z0 (decide (wrap i64 ((↑A : Int) + 1) = (↑(A + 1) : Int)))
 (Z0 (decide ((↑B : Int) = (↑B : Int)))
 (Z0 (decide ((↑A : Int) = (↑A : Int)))
 (q1 = q1 ∧
 Z0 q2
 (Z0 (decide (lo ≤ lo))
 (Z0 q2
 (Zg 1 [] n (Zm (IcP.L q 0)) (Zm L0) ∧
 IcP.Ok q n A B ∧
 ∀ (i : Nat),
 let q7 := Z0 q2 (Zg 1 [] n (Zm L1) (Zm (IcP.L q i)) ∧ True) False;
 i ≤ q3 → (∀ (j : Nat), j < i → (fun (t : Nat) => t < q3) j) → (i = q3 → q7) ∧ (False → q7) ∧ (False → False))
 False)
 False)
 False)
 False)
 False)
 False) (by kernel_rfl) ?_
 conv => zeta
 try simp only [Zc]
 try simp only [Zi]
 try simp only [Ze]
 try simp only [Zj]
 try simp only [Zk]
 try simp only [Zd]
 try simp only [Int.toNat_natCast, Nat.zero_add, true_and, and_true, Nat.le_refl]
 refine ⟨by rw [w64 (by have := hq.hn; have := hq.hA; have := hq.le; omega)]; omega, ZS (fun _ _ => by rw [hL, q.L0]), hq, fun i hi hg => ⟨fun he => ?_, fun h => h.elim, fun h => h.elim⟩⟩
 subst he
 exact ZS fun _ _ => by rw [hL1, q.LN]
def ZeB : Y6 := fun args h K => match args with
 | .nslice p esz len lo :: r => frA [p.blk] h 20 (.nslice p esz len lo :: r) fun Bs a => match Bs, a with
  | [.rows 34 m f], [.nslice ⟨0, 0, 34, 0, 0⟩ 34 n lo, .int .i64 A, .int .i64 B, .func (.func 124) [] [.pview [.vrows 1 1 g 1] 0]] => ∃ (q : IcP) (a b : Nat), (m = n ∧ A = (a : Int) ∧ B = (b : Int)) ∧ q.Ok n a b ∧ g = ZM byC 0 1 ∧ f = Zm q.all ∧ K (.ret (.tuple [])) ⟨h.next, (p.blk, .rows 34 n (Zm q.done)) :: Xb h.bs p.blk⟩
  | _, _ => False
 | _ => False
theorem Z8t (args : List AV) (h : Z7) (K : KO) (hl : ZeB args h K) : Zh PP 195 args h K := by
 unfold ZeB at hl
 split at hl
 ·rename_i p esz len lo r
  refine Spec.fsumm (σ := [p.blk]) (d := 20) hl fun Bs a₀ hlen h0 => ?_
  split at h0
  ·obtain ⟨q, a, b, ⟨rfl, rfl, rfl⟩, hq, rfl, rfl, hK⟩ := h0
   exact ⟨_, _, _, _, _, .evM (Zcm _ _ _ _ _) (Zjg q _ _ a b _ _ hq rfl rfl), Nat.le_refl 1, .ret _ _ rfl, .cons 0 _ _ _ _ _ rfl (.rows _ _ _ fun i _ => XQ _ i) .nil, hK⟩
  ·exact h0.elim
 ·exact hl.elim
noncomputable def Z2z : Za := (G0.withF 195 ZeB).withF 196 noF
theorem Z5Y : Z2z.Ok := Za.withF_ok (Za.withF_ok Zv Z8t) Z7v
def Zh9 (n lo : Nat) (l : ZO) : ZO := l ++ [(2, W1), (1, .int .i64 n), (0, .nslice ⟨0, 0, 34, 0, 0⟩ 34 n lo)]
def Z5Z (n lo : Nat) (L : List ClS) : St := ⟨63, Zh9 n lo [(8, .int .i64 20), (7, .int .i64 0), (6, .int .i64 20)], VA n L, []⟩
def QN (n lo : Nat) (L : List ClS) : St := ⟨63, Zh9 n lo [(7, .int .i64 0), (6, .int .i64 20)], VA n L, []⟩
def Z60 (n lo : Nat) (L : List ClS) : St := ⟨63, Zh9 n lo [(6, .int .i64 20)], VA n L, []⟩
def QO (n lo : Nat) (L : List ClS) : St := ⟨63, [], VA n L, []⟩
theorem Zjh (n lo : Nat) (L : List ClS) (Z : Prop) (hn : n < 20) (hZ : Z) :
  Zz Z2z 20 167 0 1 (Z5Z n lo L) (rdM 1 0 9 (Z5Z n lo L) (QN n lo L) (QN n lo L) (QN n lo L) False Z False False) := by
 refine @Eq.mpr _ (let q1 := ZM byC 0 1;
 let q2 := Zm L;
 let q3 := [AV.vrows 1 1 q1 1];
 let q4 := decide (n = n);
 Z0 (decide (20 ≤ (↑n : Int))) ((∀ (i : Nat), i < n → true = true) ∧ ∃ (q : IcP), ∃ (a : Nat), ∃ (b : Nat), (n = n ∧ 0 = (↑a : Int) ∧ 20 = (↑b : Int)) ∧ IcP.Ok q n a b ∧ q1 = q1 ∧ q2 = Zm (IcP.all q) ∧ False) (q3 = q3 ∧ Z0 (decide ((↑n : Int) = (↑n : Int))) (Z0 q4 (Z0 (decide (lo ≤ lo)) (Z0 q4 (Zg 1 [] n q2 q2 ∧ Z) False) False) False) False)) (by kernel_rfl) ?_
 conv => zeta
 try simp only [Zc]
 try simp only [Zi]
 try simp only [Ze]
 try simp only [Zj]
 try simp only [Zk]
 try simp only [Zd]
 try simp only [Int.toNat_natCast, Nat.zero_add, true_and, and_true, Nat.le_refl]
 exact ⟨fun h => by omega, fun _ => ⟨ZS fun _ _ => rfl, hZ⟩⟩
theorem Zji (n lo : Nat) (L : List ClS) (Z : Prop) (hn : n < 20) (hZ : Z) :
  Zz Z2z 20 167 2 1 (Z60 n lo L) (rdM 1 2 9 (Z60 n lo L) (QO n lo L) (QO n lo L) (QO n lo L) False Z False False) := by
 refine @Eq.mpr _ (Z0 (decide (20 < (↑n : Int))) (Z0 (decide (40 ≤ (↑n : Int))) False (Z0 (decide (20 < (↑n : Int))) False False)) (Z0 (decide (n = n)) (Zg 1 [] n (Zm L) (Zm L) ∧ Z) False)) (by kernel_rfl) ?_
 try simp only [Zc]
 try simp only [Zi]
 try simp only [Ze]
 try simp only [Zj]
 try simp only [Zk]
 try simp only [Zd]
 try simp only [Int.toNat_natCast, Nat.zero_add, true_and, and_true, Nat.le_refl]
 exact ⟨fun h => absurd h (by omega), fun _ => ⟨ZS fun _ _ => rfl, hZ⟩⟩
noncomputable def ZfB (n lo : Nat) (L L1 : List ClS) : Za := (Z2z.withL 167 0 (goM 1 (Z5Z n lo L) (n < 20) (ZT 0 0 9 (fun _ => False) (fun _ => True) (fun _ => False) (fun _ => False) (fun _ => QN n lo L) (fun _ => QN n lo L) (fun _ => QN n lo L)))).withL 167 2 (goM 1 (Z60 n lo L1) (n < 20) (ZT 2 0 9 (fun _ => False) (fun _ => True) (fun _ => False) (fun _ => False) (fun _ => QO n lo L1) (fun _ => QO n lo L1) (fun _ => QO n lo L1)))
theorem Zcn (n lo : Nat) (L L1 : List ClS) : (ZfB n lo L L1).Ok := by
 have h0 : (Z2z.withL 167 0 _).Ok := Za.withGoM (N := 20) (S := fun _ => Z5Z n lo L) (S0 := Z5Z n lo L) (C := n < 20) (n := 0) (l := 9) (go := fun _ => False) (ex := fun _ => True) (re := fun _ => False) (jm := fun _ => False) (En := fun _ => QN n lo L) (Rn := fun _ => QN n lo L) (Jn := fun _ => QN n lo L) Z5Y (by kernel_rfl) fun hC => ⟨rfl, fun t _ _ => (by
  have := Zjh n lo L True hC trivial
  simpa only [false_and] using this)⟩
 have h2 : (Z2z.withL 167 2 _).Ok := Za.withGoM (N := 20) (S := fun _ => Z60 n lo L1) (S0 := Z60 n lo L1) (C := n < 20) (n := 0) (l := 9) (go := fun _ => False) (ex := fun _ => True) (re := fun _ => False) (jm := fun _ => False) (En := fun _ => QO n lo L1) (Rn := fun _ => QO n lo L1) (Jn := fun _ => QO n lo L1) Z5Y (by kernel_rfl) fun hC => ⟨rfl, fun t _ _ => (by
  have := Zji n lo L1 True hC trivial
  simpa only [false_and] using this)⟩
 exact Za.withL_join (H := Z2z) h0 rfl h2
theorem Zjj (n lo : Nat) (L L1 : List ClS) (hn : n < 20) (hl : L.length = n) (hok : ∀ m ∈ L, m.Ok) (hL : L1 = YP L) :
  evF (ZfB n lo L L1) 20 123 [.nslice ⟨0, 0, 34, 0, 0⟩ 34 n lo, W1] (VA n L) (Ym 1 (.ret (.tuple [])) 1 [(0, .rows 34 n (Zm L1))]) := by
 refine @Eq.mpr _ (let q1 := ZM byC 0 1;
 let q2 := [AV.vrows 1 1 q1 1];
 let q3 := q2 = q2;
 let q4 := decide ((↑n : Int) = (↑n : Int));
 let q5 := decide (n = n);
 let q6 := decide (lo ≤ lo);
 let q7 := Zm L;
 let q8 := Zm L1;
 let q9 := Z0 q5 (Zg 1 [] n q8 q8 ∧ True) False;
 q3 ∧ Z0 q4 (Z0 q5 (Z0 q6 (Z0 q5 (Zg 1 [] n q7 q7 ∧ n < 20 ∧ ∀ (i : Nat), i ≤ 0 → (∀ (j : Nat), j < i → (fun (x : Nat) => False) j) → (True → (∀ (i : Nat), i < n → true = true) ∧ ∃ (q : IcP), ∃ (a : Nat), ∃ (b : Nat), (n = n ∧ 0 = (↑a : Int) ∧ (↑n : Int) = (↑b : Int)) ∧ IcP.Ok q n a b ∧ q1 = q1 ∧ q7 = Zm (IcP.all q) ∧ q3 ∧ Z0 q4 (Z0 q5 (Z0 q6 (Z0 q5 (Zg 1 [] n q8 (Zm (IcP.done q)) ∧ n < 20 ∧ ∀ (i : Nat), i ≤ 0 → (∀ (j : Nat), j < i → (fun (x : Nat) => False) j) → (True → q9) ∧ (False → q9) ∧ (False → False)) False) False) False) False) ∧ (False → Z0 q5 (Zg 1 [] n q8 q7 ∧ True) False) ∧ (False → False)) False) False) False) False) (by kernel_rfl) ?_
 conv => zeta
 try simp only [Zc]
 try simp only [Zi]
 try simp only [Ze]
 try simp only [Zj]
 try simp only [Zk]
 try simp only [Zd]
 try simp only [Int.toNat_natCast, Nat.zero_add, true_and, and_true, Nat.le_refl]
 refine ⟨ZS fun _ _ => rfl, hn, fun i _ _ => ⟨fun _ => ⟨fun _ _ => trivial, ⟨[], L, []⟩, 0, n, ⟨rfl, rfl⟩, ⟨by simp [hl], rfl, by simp [hl], by omega, fun m hm => hok m (by simpa [IcP.all] using hm)⟩, by simp [IcP.all], ZS fun _ _ => by simp [IcP.done, hL], hn, fun j _ _ => ⟨fun _ => ZS fun _ _ => rfl, fun h => h.elim, fun h => h.elim⟩⟩, fun h => h.elim, fun h => h.elim⟩⟩
end Go.Tk
end
section
namespace Go.Tk
open IntKind (i64 u8 u32 u64 wrap)
def Z2R (v : AV) (N : Nat) (L : List ClS) : Prop := match v with
 | .vrows 34 n f m => (m = n ∧ N = n) ∧ ∀ i, i < n → f i = Zm L i
 | .nilslice => N = 0
 | .eslice => N = 0
 | .fslice => N = 0
 | _ => False
theorem Z2R.rel {v : AV} {N : Nat} {L : List ClS} (h : Z2R v N L) {E : Env} {r : Value} (hv : Zb E v r) : Zb E (.vrows 34 N (Zm L) N) r := by
 unfold Z2R at h
 split at h
 ·obtain ⟨⟨rfl, rfl⟩, hf⟩ := h
  exact hv.rowsC hf
 ·subst h; cases hv; exact .rows0 rfl (fun _ => rfl)
 ·subst h; cases hv with | eslice a => exact .rows0 rfl (fun _ => rfl)
 ·subst h; cases hv with | fslice a c => exact .rows0 rfl (fun h => by cases h)
 ·exact h.elim
theorem Zjk (m : Nat) (L : List ClS) (hm : m < 1000) :
  evF G0 20 67 [.vrows 34 (m + 1) (Zm L) (m + 1)] ⟨0, []⟩ (Ym 0 (.ret (.nslice ⟨0, 0, 34, 0, 0⟩ 34 (m + 1) (m + 1))) 1 [(0, .rows 34 (m + 1) (Zm L))]) := by
 refine @Eq.mpr _ (let q1 := m + 1;
 let q2 := 0 + q1;
 let q3 := decide (q2 = q1);
 Z0 (decide (q2 * 48 ≤ 140737488355328)) (Z0 q3 (Z0 (decide (q1 ≤ q2)) (Z0 q3 (Zg 0 [(0, 0)] q1 (Zm L) (YF 0 (fun (x : Nat) => []) (Zm L)) ∧ True) False) False) False) False) (by kernel_rfl) ?_
 conv => zeta
 try simp only [Zc]
 try simp only [Zi]
 try simp only [Ze]
 try simp only [Zj]
 try simp only [Zk]
 try simp only [Zd]
 try simp only [Int.toNat_natCast, Nat.zero_add, true_and, and_true, Nat.le_refl]
 exact ⟨by omega, ZS fun i _ => by rw [QG (Nat.zero_le _)]; rfl⟩
theorem Zjl (L : List ClS)  :
  evF G0 20 67 [.nilslice] ⟨0, []⟩ (Ym 0 (.ret (.nslice ⟨0, 0, 34, 0, 0⟩ 34 0 0)) 1 [(0, .rows 34 0 (Zm L))]) := by
 refine @Eq.mpr _ (True) (by kernel_rfl) ?_
 trivial
theorem Zjm (L : List ClS)  :
  evF G0 20 67 [.fslice] ⟨0, []⟩ (Ym 0 (.ret (.nslice ⟨0, 0, 34, 0, 0⟩ 34 0 0)) 1 [(0, .rows 34 0 (Zm L))]) := by
 refine @Eq.mpr _ (Zg 0 [(0, 0)] 0 (Zm L) (YF 0 (fun (x : Nat) => []) fun (x : Nat) => []) ∧ True) (by kernel_rfl) ?_
 try simp only [Zc]
 try simp only [Zi]
 try simp only [Ze]
 try simp only [Zj]
 try simp only [Zk]
 try simp only [Zd]
 try simp only [Int.toNat_natCast, Nat.zero_add, true_and, and_true, Nat.le_refl]
 exact ZS fun i hi => absurd hi (Nat.not_lt_zero i)
theorem Zco (n : Nat) (L : List ClS) (hn : n < 1000) : ZB PP 67 [.vrows 34 n (Zm L) n] (.nslice ⟨0, 0, 34, 0, 0⟩ 34 n n) 1 [(0, .rows 34 n (Zm L))] := by
 match n, hn with
 | 0, _ => exact ZB.vrows0 (.evM Zv (Zjl L)) (.evM Zv (Zjm L))
 | m + 1, h => exact .evM Zv (Zjk m L (by omega))
def Zjn : Y6 := fun args h K => ZL none h true 20 args fun a => match a with
 | [v] => ∃ N L, Z2R v N L ∧ N < 1000 ∧ K (.ret (.nslice ⟨h.next, 0, 34, 0, 0⟩ 34 N N)) ⟨h.next + 1, (h.next, .rows 34 N (Zm L)) :: h.bs⟩
 | _ => False
theorem ZeC (args : List AV) (h : Z7) (K : KO) (hl : Zjn args h K) : Zh PP 67 args h K := by
 refine ZB.fsumm (d := 20) (Zq _ _ _ _ _ hl fun a ha => ?_)
 split at ha
 ·obtain ⟨N, L, h1, h2, hK⟩ := ha
  exact ⟨_, _, _, _, (Zco N L h2).conv fun E r hr => hr.head (fun _ hc => h1.rel hc) (fun _ hc => hc), rfl, ⟨by decide, .rows _ _ _ (fun i _ => XQ L i), trivial⟩, hK⟩
 ·exact ha.elim
def ZeD (B : Nat) : Y6 := fun args h K => frA [] h 20 args fun _ a => match a with
 | [v] => ∃ N L, Z2R v N L ∧ (N < B ∧ L.length = N ∧ ∀ m ∈ L, m.Ok) ∧ ∀ L1, L1.Perm L → Xe ltC L1 → K (.ret (.func (.func 70) [] [.ptr (some ⟨h.next, 0, 0, 0, 0⟩)])) ⟨h.next + 2, (h.next, .flat [.nslice ⟨h.next + 1, 0, 34, 0, 0⟩ 34 N N]) :: (h.next + 1, .rows 34 N (Zm L1)) :: h.bs⟩
 | _ => False
end Go.Tk
end
section
namespace Go.Tk
open IntKind (i64 u8 u32 u64 wrap)
end Go.Tk
end
section
namespace Go.Tk
open IntKind (i64 u8 u32 u64 wrap)
theorem ZfC (G : Nat → InS) (x : InS) {i j : Nat} (hj : j < i + 1) : YF i (Zf G) (ZM x.c 0 130) j = (if j = i then x else G j).c := by
 by_cases e : j = i
 ·subst e; rw [if_pos rfl, QG (Nat.le_refl _), Nat.sub_self]; rfl
 ·rw [if_neg e, Z4p (by omega)]; rfl
end Go.Tk
end
section
namespace Go.Tk
open IntKind (i64 u8 u32 u64 wrap)
def ZfD (id n : Nat) (go ex bad : Nat → Prop) (En Bn : Nat → St) : KE → Prop := fun X =>
 ∀ i, i ≤ n → (∀ j, j < i → go j) → (ex i → X (.exit id) (En i)) ∧ (bad i → X (.exit id) (Bn i))
theorem Za.withGoX {G : Za} (hG : G.Ok) {f : FuncId} {id k N n : Nat} {S En Bn : Nat → St} {S0 : St} {C : Prop} {go ex bad : Nat → Prop} (h1 : Wk G.P f id = true) (hC : C → S 0 = S0 ∧
   ∀ i, i ≤ n → (∀ j, j < i → go j) → Zz G N f id k (S i) (rdM k id 9 (S (i + 1)) (En i) (En i) (En i) (go i ∧ i < n) (ex i) False False) ∨
    Zz G N f id k (S i) (rdM k id 9 (S (i + 1)) (Bn i) (Bn i) (Bn i) (go i ∧ i < n) (bad i) False False)) :
  (G.withL f id (goM k S0 C (ZfD id n go ex bad En Bn))).Ok := by
 refine Za.withL_ok hG h1 ?_
 intro k' s X hl
 unfold goM at hl
 split at hl
 ·rename_i hk
  have := Nat.eq_of_beq_eq_true hk
  subst this
  obtain ⟨⟨hc, hX⟩, hw⟩ := YO hl
  obtain ⟨e0, hr⟩ := hC hc
  refine ⟨{ t : Nat // t ≤ n ∧ ∀ j, j < t → go j }, fun t => n - t.1, fun t => S t.1, ⟨0, Nat.zero_le _, fun j hj => by omega⟩, N, by show VS k' s (S 0); rw [e0]; exact hw, ?_⟩
  rintro ⟨t, ht, hgo⟩
  rcases hr t ht hgo with hY0 | hY0
  all_goals
   refine ⟨_, hY0, ?_⟩
   intro e s' hY
   unfold rdM at hY
   split at hY
   ·obtain ⟨⟨hg, hlt⟩, hw'⟩ := YO hY
    refine ⟨⟨t + 1, hlt, fun j hj => ?_⟩, by show n - (t + 1) < n - t; omega, hw'⟩
    by_cases hjt : j = t
    ·rw [hjt]; exact hg
    ·exact hgo j (by omega)
   ·split at hY
    ·rename_i hi
     have := Nat.eq_of_beq_eq_true hi
     subst this
     obtain ⟨hex, hw'⟩ := YO hY
     first
      | exact ⟨_, hw', (hX t ht hgo).1 hex⟩
      | exact ⟨_, hw', (hX t ht hgo).2 hex⟩
    ·exact hY.elim
   ·exact (YO hY).1.elim
   ·split at hY
    ·exact (YO hY).1.elim
    ·exact hY.elim
   ·exact hY.elim
 ·exact hl.elim
end Go.Tk
end
