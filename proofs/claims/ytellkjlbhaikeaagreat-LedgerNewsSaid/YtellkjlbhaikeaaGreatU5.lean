/- U: part 5 of an engine (a symbolic evaluator, proved against the model) and of the walk by it. -/
import Derived.Test.YtellkjlbhaikeaaGreatU4
import Derived.Test.YtellkjlbhaikeaaGreatRows
import Derived.ChangeOld
set_option linter.unusedVariables false
set_option linter.unusedSimpArgs false
set_option maxRecDepth 100000
set_option maxHeartbeats 0
section
namespace Go.Tk
open IntKind (i64 u8 u32 u64 wrap)
def slB (b n : Nat) : AV := .nslice ⟨b, 0, 0, 0, 0⟩ 1 n n
noncomputable def Zbn (W : Int → List Int) : Zf := G0.withF 127 (Z6Y W)
theorem Z8W : (Zbn ZE).Ok := Zf.withF_ok Zv Z6Z
theorem Zbo (W : Int → List Int) (xs ys : List Int) (N L : Nat) (n : Int) (hN : xs.length = N) (hB : N < 80000000000000) (hW : W = ZE) (hn : 0 ≤ n) (hy : ys = xs ++ W n) (hL : L = ys.length) :
  evF (Zbn W) 20 93 [slB 0 N, .int .i64 n] ⟨1, [(0, .ints .u8 xs)]⟩ (YK 1 (.ret (slB 1 L)) 2 [(1, .ints .u8 ys)]) := by
 refine @Eq.mpr _ (let q1 := List.length (W n);
 let q2 := xs ++ List.take q1 (Yx 0 (W n));
 let q3 := List.length q2;
 Z0 (decide (0 ≤ n)) (Z0 (decide (u8 = u8 ∧ 0 + q1 ≤ q1)) (Z0 (decide (u8 = u8 ∧ List.length xs = N)) (Z0 (decide (q3 * 1 ≤ 140737488355328)) (Z0 (decide (q3 = L)) (Z0 (decide (L ≤ q3)) (q2 = ys ∧ True) False) False) False) False) False) False) (by kernel_rfl) ?_
 conv => zeta
 try simp only [Zk]
 try simp only [Zn]
 try simp only [Zl]
 try simp only [Zo]
 try simp only [Zp]
 try simp only [Zi]
 try simp only [Int.toNat_natCast, Nat.zero_add, true_and, and_true, Nat.le_refl]
 subst hW hN hy hL
 have e : List.take (ZE n).length (Yx 0 (ZE n)) = ZE n := by rw [Yg, List.drop_zero, List.take_length]
 have := ZA n
 rw [e]
 simp only [List.length_append]
 repeat' apply And.intro
 all_goals first | trivial | omega | rfl
theorem Zbp (xs hh ys : List Int) (N L : Nat) (hN : xs.length = N) (hB : N < 80000000000000) (hl : hh.length = 32) (hy : ys = xs ++ hh) (hL : L = ys.length) :
  evF G0 20 94 [slB 0 N, .agg [.arr .u8 32 hh]] ⟨1, [(0, .ints .u8 xs)]⟩ (YK 1 (.ret (slB 1 L)) 2 [(1, .ints .u8 ys)]) := by
 refine @Eq.mpr _ (let q1 := xs ++ hh;
 let q2 := List.length q1;
 Z0 (decide (u8 = u8 ∧ List.length hh = 32)) (Z0 (decide (u8 = u8 ∧ List.length xs = N)) (Z0 (decide (q2 * 1 ≤ 140737488355328)) (Z0 (decide (q2 = L)) (Z0 (decide (L ≤ q2)) (q1 = ys ∧ True) False) False) False) False) False) (by kernel_rfl) ?_
 conv => zeta
 try simp only [Zk]
 try simp only [Zn]
 try simp only [Zl]
 try simp only [Zo]
 try simp only [Zp]
 try simp only [Zi]
 try simp only [Int.toNat_natCast, Nat.zero_add, true_and, and_true, Nat.le_refl]
 subst hN hy hL
 simp only [List.length_append]
 repeat' apply And.intro
 all_goals first | trivial | omega | rfl
theorem Zbq (hh : List Int) (hl : hh.length = 32) :
  evF G0 20 94 [.nilslice, .agg [.arr .u8 32 hh]] ⟨0, []⟩ (YK 0 (.ret (slB 0 32)) 1 [(0, .ints .u8 hh)]) := by
 refine @Eq.mpr _ (let q1 := [] ++ hh;
 let q2 := List.length q1;
 Z0 (decide (u8 = u8 ∧ List.length hh = 32)) (Z0 (decide (q2 * 1 ≤ 140737488355328)) (Z0 (decide (q2 = 32)) (Z0 (decide (32 ≤ q2)) (q1 = hh ∧ True) False) False) False) False) (by kernel_rfl) ?_
 conv => zeta
 try simp only [Zk]
 try simp only [Zn]
 try simp only [Zl]
 try simp only [Zo]
 try simp only [Zp]
 try simp only [Zi]
 try simp only [Int.toNat_natCast, Nat.zero_add, true_and, and_true, Nat.le_refl]
 simp only [List.nil_append]
 repeat' apply And.intro
 all_goals first | trivial | omega | rfl
def Zbr (h : Z5) (b : Nat) (ys : List Int) : Z5 := ⟨h.next + 1, (h.next, .ints .u8 ys) :: Wv h.bs b⟩
def Zao (W : Int → List Int) (B : Nat) : Yz := fun args h K => match args with
 | [.nslice ⟨b, 0, 0, 0, 0⟩ 1 _ _, _] => frA [b] h 20 args fun Bs a => match Bs, a with
  | [.ints .u8 xs], [.nslice ⟨0, 0, 0, 0, 0⟩ 1 N M, .int .i64 n] => Zj (xs.length = N ∧ M = N ∧ N < B ∧ 0 ≤ n) (K (.ret (slB h.next (xs ++ W n).length)) (Zbr h b (xs ++ W n)))
  | _, _ => False
 | _ => False
theorem Z8X (args : List AV) (h : Z5) (K : KO) (hl : Zao ZE 80000000000000 args h K) : Zc PP 93 args h K := by
 unfold Zao at hl
 split at hl
 ·refine Spec.fsumm hl fun Bs a hlen hK0 => ?_
  split at hK0
  ·obtain ⟨⟨h1, rfl, h2, h3⟩, hK⟩ := Z7 hK0
   exact ⟨_, _, _, _, _, .evM Z8W (Zbo _ _ _ _ _ _ h1 h2 rfl h3 rfl rfl), by simp, .ret _ _ rfl, .cons _ _ _ _ _ _ rfl (.ints _ _) .nil, hK⟩
  ·exact hK0.elim
 ·exact hl.elim
def Z7I (B : Nat) : Yz := fun args h K => match args with
 | [.nslice ⟨b, 0, 0, 0, 0⟩ 1 _ _, _] => frA [b] h 20 args fun Bs a => match Bs, a with
  | [.ints .u8 xs], [.nslice ⟨0, 0, 0, 0, 0⟩ 1 N M, .agg [.arr .u8 32 hh]] => Zj (xs.length = N ∧ M = N ∧ N < B ∧ hh.length = 32) (K (.ret (slB h.next (xs ++ hh).length)) (Zbr h b (xs ++ hh)))
  | _, _ => False
 | [.nilslice, _] => frA [] h 20 args fun Bs a => match Bs, a with
  | [], [.nilslice, .agg [.arr .u8 32 hh]] => Zj (hh.length = 32) (K (.ret (slB h.next 32)) ⟨h.next + 1, (h.next, .ints .u8 hh) :: h.bs⟩)
  | _, _ => False
 | _ => False
theorem Z7J (args : List AV) (h : Z5) (K : KO) (hl : Z7I 80000000000000 args h K) : Zc PP 94 args h K := by
 unfold Z7I at hl
 split at hl
 ·refine Spec.fsumm hl fun Bs a hlen hK0 => ?_
  split at hK0
  ·obtain ⟨⟨h1, rfl, h2, h3⟩, hK⟩ := Z7 hK0
   exact ⟨_, _, _, _, _, .evM Zv (Zbp _ _ _ _ _ h1 h2 h3 rfl rfl), by simp, .ret _ _ rfl, .cons _ _ _ _ _ _ rfl (.ints _ _) .nil, hK⟩
  ·exact hK0.elim
 ·refine Spec.fsumm hl fun Bs a hlen hK0 => ?_
  split at hK0
  ·obtain ⟨h3, hK⟩ := Z7 hK0
   exact ⟨_, _, _, _, _, .evM Zv (Zbq _ h3), Nat.zero_le _, .ret _ _ rfl, .cons _ _ _ _ _ _ rfl (.ints _ _) .nil, hK⟩
  ·exact hK0.elim
 ·exact hl.elim
theorem Zbs (b : Bool) (ys : List Int) (hy : ys = [cond b 1 0]) :
  evF G0 20 95 [.bool b] ⟨0, []⟩ (YK 0 (.ret (slB 0 1)) 1 [(0, .ints .u8 ys)]) := by
 refine @Eq.mpr _ (Z0 b ([(1 : Int)] = ys ∧ True) ([(0 : Int)] = ys ∧ True)) (by kernel_rfl) ?_
 try simp only [Zk]
 try simp only [Zn]
 try simp only [Zl]
 try simp only [Zo]
 try simp only [Zp]
 try simp only [Zi]
 try simp only [Int.toNat_natCast, Nat.zero_add, true_and, and_true, Nat.le_refl]
 subst hy
 cases b <;> simp
def Z44 : Yz := fun args h K => match args with
 | [.bool b] => K (.ret (slB h.next 1)) ⟨h.next + 1, (h.next, .ints .u8 [cond b 1 0]) :: h.bs⟩
 | _ => False
theorem Z5J (args : List AV) (h : Z5) (K : KO) (hl : Z44 args h K) : Zc PP 95 args h K := by
 unfold Z44 at hl
 split at hl
 ·exact (Zx.evM Zv (Zbs _ _ rfl)).calls (fun E w rs he hr => by
   cases hr with
   | cons v r vs rs h1 h2 => cases h2; exact .cons _ _ _ _ (h1.plain rfl) .nil) rfl ⟨Nat.one_pos, .ints _ _, trivial⟩ hl
 ·exact hl.elim
noncomputable def Z4N (W : Int → List Int) (B : Nat) : Zf := ((G0.withF 93 (Zao W B)).withF 94 (Z7I B)).withF 95 Z44
theorem Z7K : (Z4N ZE 80000000000000).Ok := Zf.withF_ok (Zf.withF_ok (Zf.withF_ok Zv Z8X) Z7J) Z5J
def Z5K (X : Za) (i N : Nat) (xs : List Int) : St := ⟨113, [(4, .int .i64 i), (1, .ptr (some ⟨0, 0, 0, 0, 0⟩)), (3, slB 1 N)], ⟨2, [(0, .flat (X.c (.vrows 70 X.L.length (Ze X.L) X.L.length))), (1, .ints .u8 xs)]⟩, []⟩
def Z2U (N : Nat) (xs : List Int) : St := ⟨113, [(3, slB 0 N)], ⟨1, [(0, .ints .u8 xs)]⟩, []⟩
theorem Zbt (X : Za) (n i N N1 B : Nat) (xs ys : List Int) (x : Z9) (W : Int → List Int) (T : Int) (Z1 Z2 : Prop) (hn : n < 1000) (hL : X.L.length = n) (hi : i ≤ n) (hx : i < n → X.L.getD i Zd = x) (hN : xs.length = N) (hB : i < n → N + 1000 < B) (hB2 : B ≤ 80000000000000) (hW : W = ZE) (hr : i < n → Z8K T x) (hk : i < n → x.Ok) (hy : i < n → ys = Z0F W xs x) (hN1 : i < n → N1 = ys.length) (hZ1 : i < n → Z1) (hZ2 : i = n → Z2) :
  Ym (Z4N W B) 20 48 0 0 (Z5K X i N xs) (rdM 0 0 9 (Z5K X (i + 1) N1 ys) (Z2U N xs) (Z2U N xs) (Z2U N xs) Z1 Z2 False False) := by
 refine @Eq.mpr _ (let q1 := X.L;
 let q2 := List.length q1;
 let q3 := List.getD q1 (Int.toNat (↑i : Int)) Zd;
 let q4 := xs ++ [bif q3.own then 1 else 0];
 let q5 := List.length q4;
 let q6 := q3.id;
 let q7 := q3.fin;
 let q8 := decide (q7 = q7);
 let q9 := q3.stage;
 let q10 := decide (q9 = q9);
 let q11 := q3.expiry;
 let q12 := decide (q11 = q11);
 let q13 := q3.hash;
 let q14 := q13 = q13;
 let q15 := q3.amount;
 let q16 := q4 ++ W q6;
 let q17 := List.length q16;
 let q18 := q16 ++ W q15;
 let q19 := List.length q18;
 let q20 := q18 ++ q13;
 let q21 := List.length q20;
 let q22 := q20 ++ W q11;
 let q23 := List.length q22;
 let q24 := q22 ++ W q9;
 let q25 := List.length q24;
 let q26 := q24 ++ W q7;
 let q27 := List.length q26;
 let q28 := q3.secret;
 let q29 := decide (wrap i64 ((↑i : Int) + 1) = (↑(i + 1) : Int));
 let q30 := q26 ++ q28;
 let q31 := List.length q30;
 let q32 := X.t;
 let q33 := q32.fund;
 let q34 := q33 = q33;
 let q35 := q32.index;
 let q36 := decide (q35 = q35);
 let q37 := q32.cap;
 let q38 := decide (q37 = q37);
 let q39 := q32.dust;
 let q40 := decide (q39 = q39);
 let q41 := q32.fee;
 let q42 := decide (q41 = q41);
 let q43 := q32.delay;
 let q44 := decide (q43 = q43);
 let q45 := q32.k0;
 let q46 := q45 = q45;
 let q47 := q32.k1;
 let q48 := q47 = q47;
 let q49 := decide (X.side = X.side);
 let q50 := decide (X.res = X.res);
 let q51 := [X.a0, X.a1];
 let q52 := q51 = q51;
 let q53 := [X.i0, X.i1];
 let q54 := q53 = q53;
 let q55 := decide (q2 = q2);
 let q56 := Ze q1;
 let q57 := q56 = q56;
 Z0 (decide ((↑i : Int) < (↑q2 : Int)))
 (Z0 (decide (0 ≤ (↑i : Int) ∧ (↑i : Int) < (↑q2 : Int)))
 (Z0 (decide (u8 = u8 ∧ List.length xs = N))
 (Z0 (decide (q5 * 1 ≤ 140737488355328))
 (Z0 (decide (q5 = q5 ∧ q5 = q5 ∧ q5 < B ∧ 0 ≤ q6))
 (Z0 q8
 (Z0 q10
 (Z0 q12
 (q14 ∧
 Z0 (decide (q15 = q15))
 (Z0 (decide (q17 = q17 ∧ q17 = q17 ∧ q17 < B ∧ 0 ≤ q15))
 (Z0 q8
 (Z0 q10
 (Z0 q12
 (q14 ∧
 Z0 (decide (q19 = q19 ∧ q19 = q19 ∧ q19 < B ∧ List.length q13 = 32))
 (Z0 q8 (Z0 q10 (Z0 q12 (Z0 (decide (q21 = q21 ∧ q21 = q21 ∧ q21 < B ∧ 0 ≤ q11)) (Z0 q8 (Z0 q10 (Z0 (decide (q23 = q23 ∧ q23 = q23 ∧ q23 < B ∧ 0 ≤ q9)) (Z0 q8 (Z0 (decide (q25 = q25 ∧ q25 = q25 ∧ q25 < B ∧ 0 ≤ q7)) (Z0 (q7 == 1) (Z0 (decide (q27 = q27 ∧ q27 = q27 ∧ q27 < B ∧ List.length q28 = 32)) (Z0 q29 (Z0 (decide (q31 = N1)) (Z0 (decide (N1 ≤ q31)) (q34 ∧ Z0 q36 (Z0 q38 (Z0 q40 (Z0 q42 (Z0 q44 (q46 ∧ q48 ∧ Z0 q49 (Z0 q50 (q52 ∧ q54 ∧ Z0 q55 (q57 ∧ Z0 q55 (q30 = ys ∧ Z1) False) False) False) False) False) False) False) False) False) False) False) False) False) (Z0 q29 (Z0 (decide (q27 = N1)) (Z0 (decide (N1 ≤ q27)) (q34 ∧ Z0 q36 (Z0 q38 (Z0 q40 (Z0 q42 (Z0 q44 (q46 ∧ q48 ∧ Z0 q49 (Z0 q50 (q52 ∧ q54 ∧ Z0 q55 (q57 ∧ Z0 q55 (q26 = ys ∧ Z1) False) False) False) False) False) False) False) False) False) False) False) False)) False) False) False) False) False) False) False) False) False) False)
 False)
 False)
 False)
 False)
 False)
 False)
 False)
 False)
 False)
 False)
 False)
 False)
 (Z0 (decide (N = N)) (Z0 (decide (N ≤ N)) (xs = xs ∧ Z2) False) False)) (by kernel_rfl) ?_
 conv => zeta
 try simp only [Zk]
 try simp only [Zn]
 try simp only [Zl]
 try simp only [Zo]
 try simp only [Zp]
 try simp only [Zi]
 try simp only [Int.toNat_natCast, Nat.zero_add, true_and, and_true, Nat.le_refl]
 subst hL
 refine ⟨fun hc => ?_, fun hc => hZ2 (by omega)⟩
 have hlt : i < X.L.length := by omega
 rw [hx hlt]
 obtain ⟨⟨r1, _⟩, ⟨r2, _⟩, ⟨r3, _⟩, ⟨r4, _⟩, r5, _⟩ := hr hlt
 have hk := hk hlt
 have hB := hB hlt
 have hy := hy hlt
 have hN1 := hN1 hlt
 have hwr : i64.wrap ((i : Int) + 1) = ((i + 1 : Nat) : Int) := by rw [w64 (by omega)]; omega
 have k1 := hk.hash
 have k2 := hk.secret
 subst hW
 unfold Z0F at hy
 simp only [ZZ] at hy
 have l1 := ZA x.id
 have l2 := ZA x.amount
 have l3 := ZA x.expiry
 have l4 := ZA x.stage
 have l5 := ZA x.fin
 refine ⟨by omega, hN, ?_, ⟨?_, r1⟩, ⟨?_, r2⟩, ⟨?_, k1⟩, ⟨?_, r3⟩, ⟨?_, r4⟩, ⟨?_, r5⟩, fun hf => ?_, fun hf => ?_⟩
 case _ | _ | _ | _ | _ | _ | _ => simp only [List.length_append, List.length_cons, List.length_nil]; omega
 ·have hf : x.fin = 1 := by simpa using hf
  rw [if_pos hf] at hy
  rw [← hy, ← hN1]
  refine ⟨⟨?_, k2⟩, hwr, rfl, Nat.le_refl _, rfl, hZ1 hlt⟩
  simp only [List.length_append, List.length_cons, List.length_nil]; omega
 ·have hf : ¬ x.fin = 1 := by simpa using hf
  rw [if_neg hf] at hy
  rw [← hy, ← hN1]
  exact ⟨hwr, rfl, Nat.le_refl _, rfl, hZ1 hlt⟩
theorem Zbu (T : Int) (B : Nat) (X : Za) (n i : Nat) (hd : List Int) (hB2 : B ≤ 80000000000000) (hC : Z3Z T B X n hd) (hi : i ≤ n) : Ym (Z4N ZE B) 20 48 0 0 (Z5K X i (Yu X hd i).length (Yu X hd i)) (rdM 0 0 9 (Z5K X (i + 1) (Yu X hd (i + 1)).length (Yu X hd (i + 1))) (Z2U (Yu X hd i).length (Yu X hd i)) (Z2U (Yu X hd i).length (Yu X hd i)) (Z2U (Yu X hd i).length (Yu X hd i)) (i < n ∧ i < n) (i = n) False False) := by
 obtain ⟨h1, h2, h3, h4, h5⟩ := id hC
 have hlt : i < n → i < X.L.length := fun h => by omega
 have hl := Z0s (L := X.L.take i) (fun z hz => (h5 z (List.mem_of_mem_take hz)).2) hd
 have l0 : (X.L.take i).length ≤ 16 := by rw [List.length_take]; omega
 refine Zbt X n i _ _ B _ _ (X.L.getD i Zd) ZE T (i < n ∧ i < n) (i = n) (by omega) h1 hi (fun _ => rfl) rfl (fun _ => ?_) hB2 rfl (fun h => (h5 _ (ZU (hlt h))).1) (fun h => (h5 _ (ZU (hlt h))).2) (fun h => ?_) (fun _ => rfl) (fun h => ⟨h, h⟩) (fun h => h)
 ·unfold Yu; omega
 ·unfold Yu
  rw [Z2S (hlt h), List.foldl_append]; rfl
noncomputable def Z9w (W : Int → List Int) (B : Nat) (X : Za) (n N : Nat) (hd : List Int) (C : Prop) (E : Nat → St) : Zf := (Z4N W B).withL 48 0 (goM 0 (Z5K X 0 N hd) C (W6 0 n 9 (fun i => i < n) (fun i => i = n) (fun _ => False) (fun _ => False) E E E))
theorem Z7L (X : Za) (n : Nat) (hd : List Int) : (Z9w ZE 80000000000000 X n hd.length hd (Z3Z 4611686018427387904 80000000000000 X n hd) (fun i => Z2U (Yu X hd i).length (Yu X hd i))).Ok :=
 Zf.withGoM (N := 20) (S := fun i => Z5K X i (Yu X hd i).length (Yu X hd i)) Z7K (by kernel_rfl) fun hC => ⟨rfl, fun i hi _ => Zbu _ _ X n i hd (Nat.le_refl _) hC hi⟩
theorem Zbv (X : Za) (n N B l : Nat) (hd ys : List Int) (W : Int → List Int) (T : Int) (C : Prop) (XF : Nat → List Int) (hC : C) (hn : X.L.length = n) (hhd : hd = Xv W X) (hN : N = hd.length) (hy : ys = XF n) (hl : l = ys.length) (hf : X.t.fund.length = 32) (h0 : X.t.k0.length = 32) (h1 : X.t.k1.length = 32) (hB : 10000 ≤ B) (hW : W = ZE) (hT : Z7v T X) :
  evF (Z9w W B X n N hd C fun i => Z2U (XF i).length (XF i)) 20 48 [Z40 X] ⟨0, []⟩ (YK 0 (.ret (slB 0 l)) 1 [(0, .ints .u8 ys)]) := by
 refine @Eq.mpr _ (let q1 := X.t;
 let q2 := q1.fund;
 let q3 := q1.delay;
 let q4 := decide (q3 = q3);
 let q5 := q1.fee;
 let q6 := decide (q5 = q5);
 let q7 := q1.dust;
 let q8 := decide (q7 = q7);
 let q9 := q1.cap;
 let q10 := decide (q9 = q9);
 let q11 := q1.index;
 let q12 := decide (q11 = q11);
 let q13 := q2 ++ W q11;
 let q14 := List.length q13;
 let q15 := q13 ++ W q9;
 let q16 := List.length q15;
 let q17 := q15 ++ W q7;
 let q18 := List.length q17;
 let q19 := q17 ++ W q5;
 let q20 := List.length q19;
 let q21 := q19 ++ W q3;
 let q22 := List.length q21;
 let q23 := q1.k0;
 let q24 := X.res;
 let q25 := decide (q24 = q24);
 let q26 := X.side;
 let q27 := decide (q26 = q26);
 let q28 := q1.k1;
 let q29 := q28 = q28;
 let q30 := q21 ++ q23;
 let q31 := List.length q30;
 let q32 := q30 ++ q28;
 let q33 := List.length q32;
 let q34 := q32 ++ W q26;
 let q35 := List.length q34;
 let q36 := q34 ++ W q24;
 let q37 := List.length q36;
 let q38 := X.a0;
 let q39 := X.i1;
 let q40 := decide (q39 = q39);
 let q41 := X.i0;
 let q42 := decide (q41 = q41);
 let q43 := X.a1;
 let q44 := q36 ++ W q38;
 let q45 := List.length q44;
 let q46 := q44 ++ W q43;
 let q47 := List.length q46;
 let q48 := q46 ++ W q41;
 let q49 := List.length q48;
 let q50 := q48 ++ W q39;
 let q51 := List.length q50;
 let q52 := List.length X.L;
 let q53 := ↑q52;
 let q54 := q50 ++ W q53;
 let q55 := List.length q54;
 let q56 := [q38, q43];
 let q57 := [q41, q39];
 let q58 := decide (q52 = q52);
 let q59 := Ze X.L;
 Z0 (decide (List.length q2 = 32))
 (Z0 q4
 (Z0 q6
 (Z0 q8
 (Z0 q10
 (Z0 q12
 (Z0 (decide (List.length q2 = 32 ∧ (32 : Nat) = 32 ∧ 32 < B ∧ 0 ≤ q11))
 (Z0 q4
 (Z0 q6
 (Z0 q8
 (Z0 q10
 (Z0 (decide (q14 = q14 ∧ q14 = q14 ∧ q14 < B ∧ 0 ≤ q9))
 (Z0 q4
 (Z0 q6
 (Z0 q8
 (Z0 (decide (q16 = q16 ∧ q16 = q16 ∧ q16 < B ∧ 0 ≤ q7))
 (Z0 q4
 (Z0 q6
 (Z0 (decide (q18 = q18 ∧ q18 = q18 ∧ q18 < B ∧ 0 ≤ q5))
 (Z0 q4
 (Z0 (decide (q20 = q20 ∧ q20 = q20 ∧ q20 < B ∧ 0 ≤ q3))
 (Z0 (decide (q22 = q22 ∧ q22 = q22 ∧ q22 < B ∧ List.length q23 = 32))
 (Z0 q25
 (Z0 q27
 (q29 ∧
 Z0 (decide (q31 = q31 ∧ q31 = q31 ∧ q31 < B ∧ List.length q28 = 32))
 (Z0 q25
 (Z0 q27
 (Z0 (decide (q33 = q33 ∧ q33 = q33 ∧ q33 < B ∧ 0 ≤ q26))
 (Z0 q25
 (Z0 (decide (q35 = q35 ∧ q35 = q35 ∧ q35 < B ∧ 0 ≤ q24))
 (Z0 (decide (q37 = q37 ∧ q37 = q37 ∧ q37 < B ∧ 0 ≤ q38)) (Z0 q40 (Z0 q42 (Z0 (decide (q43 = q43)) (Z0 (decide (q45 = q45 ∧ q45 = q45 ∧ q45 < B ∧ 0 ≤ q43)) (Z0 q40 (Z0 q42 (Z0 (decide (q47 = q47 ∧ q47 = q47 ∧ q47 < B ∧ 0 ≤ q41)) (Z0 q40 (Z0 (decide (q49 = q49 ∧ q49 = q49 ∧ q49 < B ∧ 0 ≤ q39)) (Z0 (decide (q51 = q51 ∧ q51 = q51 ∧ q51 < B ∧ 0 ≤ q53)) (Z0 (decide (q55 = N)) (Z0 (decide (N ≤ q55)) (q2 = q2 ∧ Z0 q12 (Z0 q10 (Z0 q8 (Z0 q6 (Z0 q4 (q23 = q23 ∧ q29 ∧ Z0 q27 (Z0 q25 (q56 = q56 ∧ q57 = q57 ∧ Z0 q58 (q59 = q59 ∧ Z0 q58 (q54 = hd ∧ C ∧ ∀ (i : Nat), i ≤ n → (∀ (j : Nat), j < i → (fun (i : Nat) => i < n) j) → (i = n → Z0 (decide (List.length (XF i) = l)) (Z0 (decide (l ≤ List.length (XF i))) (XF i = ys ∧ True) False) False) ∧ (False → False) ∧ (False → False)) False) False) False) False) False) False) False) False) False) False) False) False) False) False) False) False) False) False) False) False) False) False) False)
 False)
 False)
 False)
 False)
 False)
 False)
 False)
 False)
 False)
 False)
 False)
 False)
 False)
 False)
 False)
 False)
 False)
 False)
 False)
 False)
 False)
 False)
 False)
 False)
 False)
 False)
 False)
 False)
 False) (by kernel_rfl) ?_
 conv => zeta
 try simp only [Zk]
 try simp only [Zn]
 try simp only [Zl]
 try simp only [Zo]
 try simp only [Zp]
 try simp only [Zi]
 try simp only [Int.toNat_natCast, Nat.zero_add, true_and, and_true, Nat.le_refl]
 subst hy hN hW
 obtain ⟨⟨t1, _⟩, ⟨t2, _⟩, ⟨t3, _⟩, ⟨t4, _⟩, ⟨t5, _⟩, ⟨t6, _⟩, ⟨t7, _⟩, ⟨t8, _⟩, ⟨t9, _⟩, ⟨t10, _⟩, ⟨t11, _⟩, t12, _⟩ := hT
 have hlen := Va hf h0 h1
 rw [← hhd] at hlen
 simp only [Xv, ZZ] at hhd
 rw [← hhd]
 rw [hhd] at hlen
 simp only [List.length_append] at hlen ⊢
 refine ⟨hf, ⟨hf, by omega, t1⟩, ⟨by omega, t2⟩, ⟨by omega, t3⟩, ⟨by omega, t4⟩, ⟨by omega, t5⟩, ⟨by omega, h0⟩, ⟨by omega, h1⟩, ⟨by omega, t6⟩, ⟨by omega, t7⟩, ⟨by omega, t8⟩, ⟨by omega, t9⟩, ⟨by omega, t10⟩, ⟨by omega, t11⟩, ⟨by omega, t12⟩, trivial, Nat.le_refl _, trivial, hC, fun i hi _ => ⟨fun he => ?_, fun h => h, fun h => h⟩⟩
 subst he
 exact ⟨hl.symm, Nat.le_of_eq hl, rfl⟩
def Z9x (W : Int → List Int) : Yz := fun args h K => ZI none h true 20 args fun a => match a with
 | [.agg cs] => ∃ X, LV cs X ∧ X.Inv Y0 ∧ X.t.fund.length = 32 ∧ K (.ret (slB h.next (W7 W X).length)) ⟨h.next + 1, (h.next, .ints .u8 (W7 W X)) :: h.bs⟩
 | _ => False
theorem Z7M (args : List AV) (h : Z5) (K : KO) (hl : Z9x ZE args h K) : Zc PP 48 args h K := by
 refine Zx.fsumm (d := 20) (Zq _ _ _ _ _ hl fun a ha => ?_)
 split at ha
 ·obtain ⟨X, hX, hI, hf, hK⟩ := ha
  have hv := Zbv X X.L.length _ 80000000000000 _ (Xv ZE X) (W7 ZE X) ZE 4611686018427387904 (Z3Z 4611686018427387904 80000000000000 X X.L.length (Xv ZE X)) (Yu X (Xv ZE X)) (hI.rw' hf) rfl rfl rfl (by unfold Yu; rw [List.take_length]; rfl) rfl hf hI.tok.k0 hI.tok.k1 (by decide) rfl hI.hdnum
  exact ⟨_, _, _, _, (Zx.evM (Z7L X _ _) hv).conv fun E r hr => hr.head (fun _ hc => Uz hX hc) fun _ hc => hc, rfl, ⟨Nat.one_pos, .ints _ _, trivial⟩, hK⟩
 ·exact ha.elim
end Go.Tk
end
section
namespace Go.Tk
open IntKind (i64 u8 u32 u64 wrap)
theorem Zbw (X : Za) (hc : X.t.cap ≠ 0) :
  evF G0 20 42 [XN X] ⟨0, []⟩ (Yn fun v => v = .bool false) := by
 refine @Eq.mpr _ (AV.bool (X.t.cap == 0) = AV.bool false) (by kernel_rfl) ?_
 have : (X.t.cap == 0) = false := by simpa using hc
 rw [this]
def Z9y : ZQ := fun args h K => ZI none h true 20 args fun a => match a with
 | [.pview cs 0] => ∃ X, LV cs X ∧ X.t.cap ≠ 0 ∧ K (.bool false)
 | _ => False
theorem Z7N (args : List AV) (h : Z5) (K : AV → Prop) (hl : Z9y args h K) : Zc PP 42 args h fun o h' => ∃ v, o = .ret v ∧ h' = h ∧ K v := by
 refine Zx.psumm (d := 20) (Zq _ _ _ _ _ hl fun a ha => ?_)
 split at ha
 ·obtain ⟨X, hX, hI, hK⟩ := ha
  exact ⟨_, (Zx.evV Zv (Zbw X hI)).conv fun E r hr => hr.head (fun _ hc => Xu hX hc) fun _ hc => hc, fun _ => rfl, hK⟩
 ·exact ha.elim
def Z7O : ZQ := fun args h K => ZI none h true 20 args fun a => match a with
 | [.pview cs 0, .bool own, .int .i64 id] => ∃ X y, LV cs X ∧ X.L.length < 1000 ∧ X.t.cap ≠ 0 ∧ fdH X.L own id = (y, true) ∧ K (.tuple [.agg y.c, .bool true])
 | _ => False
theorem Z5L (args : List AV) (h : Z5) (K : AV → Prop) (hl : Z7O args h K) : Zc PP 17 args h fun o h' => ∃ v, o = .ret v ∧ h' = h ∧ K v := by
 refine Z5E args h K (Zq _ _ _ _ _ hl fun a ha => ?_)
 split at ha
 ·obtain ⟨X, y, hX, h1, h2, h3, hK⟩ := ha
  exact ⟨X, hX, h1, h2, by rw [h3]; exact hK⟩
 ·exact ha.elim
noncomputable def Vb : Code := rfA PP 14 0
noncomputable def Vc : Code := rfB PP 14 0
noncomputable def Zap (W : Int → List Int) : Zf := (((((((((G0.withF 44 Zaf).withP 42 Z9y).withP 17 Z7O).withP 38 Z4M).withP 24 Z7F).withP 46 Z7E).withP 22 Z7t).withP 47 Z4L).withF 26 (Z9r W)).withF 48 (Z9x W)
theorem Z8Y : (Zap ZE).Ok := Zf.withF_ok (Zf.withF_ok (Zf.withP_ok (Zf.withP_ok (Zf.withP_ok (Zf.withP_ok (Zf.withP_ok (Zf.withP_ok (Zf.withP_ok (Zf.withF_ok Zv Z4G) Z7N) Z5L) Z43) Z5H) Z5G) Z5B) Z42) Z7x) Z7M
def Z8Z : St := ⟨17, [], ⟨0, []⟩, []⟩
def Zbx (X : Za) (i : Nat) : List (Nat × Blk) := [(10, .rows 70 i (Ze X.L)), (3, .flat [slH 10 i]), (2, .flat [.bool false]), (1, .flat (X.c (.vrows 70 X.L.length (Ze X.L) X.L.length))), (0, .flat [XN X])]
noncomputable def Z90 (X : Za) (i : Nat) : St := ⟨17, [(0, .yield 9), (5, slH 6 X.L.length), (6, .int .i64 X.L.length), (7, .int .i64 i)], ⟨11, (9, .loop ⟨.ready, none, 14, 102, [(2, pt 0), (3, pt 1), (4, pt 2), (5, pt 3)], [14], Vb, Vc, 8⟩) :: (8, .defd) :: (6, .rows 70 X.L.length (Ze X.L)) :: Zbx X i⟩, []⟩
noncomputable def Zby (X : Za) (i : Nat) : St := ⟨17, [(0, .yield 9)], ⟨11, (9, .loop ⟨.ready, none, 14, 102, [(2, pt 0), (3, pt 1), (4, pt 2), (5, pt 3)], [14], Vb, Vc, 8⟩) :: (8, .defd) :: Zbx X i⟩, []⟩
theorem Zci (X : Za) (n i : Nat) (x : Z9) (W : Int → List Int) (Z1 Z2 : Prop) (hn : n < 1000) (hL : X.L.length = n) (hi : i ≤ n) (hcap : X.t.cap ≠ 0) (hx : i < n → X.L.getD i Zd = x) (hk : i < n → x.Ok) (hfd : i < n → fdH X.L x.own x.id = (x, true)) (h1 : i < n → Z1) (h2 : i = n → Z2) :
  Ym (Zap W) 20 45 0 10 (Z90 X i) (rdM 10 0 9 (Z90 X (i + 1)) (Zby X i) Z8Z Z8Z Z1 Z2 False False) := by
 refine @Eq.mpr _ (let q1 := X.L;
 let q2 := List.length q1;
 let q3 := (↑q2 : Int);
 let q4 := 0 + Int.toNat (↑i : Int);
 let q5 := decide (i = i);
 let q6 := i + 1;
 let q7 := Ze q1;
 let q8 := Za.c X (AV.vrows 70 q2 q7 q2);
 let q9 := List.getD q1 q4 Zd;
 let q10 := q9.own;
 let q11 := q9.id;
 let q12 := q9.hash;
 let q13 := q9.secret;
 let q14 := q9.amount;
 let q15 := q9.expiry;
 let q16 := q9.stage;
 let q17 := q9.fin;
 let q18 := (14 : FuncId) = 14 ∧ (102 : Nat) = 102 ∧ [(14 : Nat)] = [(14 : Nat)] ∧ Vb = Vb ∧ Vc = Vc;
 let q19 := decide (q6 = i);
 let q20 := [(10, 14)];
 let q21 := Wb i q7 (US [AV.bool q10, AV.int i64 q11, AV.int i64 q14, AV.arr u8 32 q12, AV.int i64 q15, AV.int i64 q16, AV.int i64 q17, AV.arr u8 32 q13] 0 70);
 let q22 := X.t;
 let q23 := q22.fund;
 let q24 := q23 = q23;
 let q25 := q22.index;
 let q26 := decide (q25 = q25);
 let q27 := q22.cap;
 let q28 := decide (q27 = q27);
 let q29 := q22.dust;
 let q30 := decide (q29 = q29);
 let q31 := q22.fee;
 let q32 := decide (q31 = q31);
 let q33 := q22.delay;
 let q34 := decide (q33 = q33);
 let q35 := q22.k0;
 let q36 := q35 = q35;
 let q37 := q22.k1;
 let q38 := q37 = q37;
 let q39 := decide (X.side = X.side);
 let q40 := decide (X.res = X.res);
 let q41 := [X.a0, X.a1];
 let q42 := q41 = q41;
 let q43 := [X.i0, X.i1];
 let q44 := q43 = q43;
 let q45 := decide (q2 = q2);
 let q46 := q7 = q7;
 let q47 := q8 = q8;
 let q48 := q24 ∧ Z0 q26 (Z0 q28 (Z0 q30 (Z0 q32 (Z0 q34 (q36 ∧ q38 ∧ Z0 q39 (Z0 q40 (q42 ∧ q44 ∧ Z0 q45 (q46 ∧ Z0 q45 (q47 ∧ Z2) False) False) False) False) False) False) False) False) False;
 let q49 := LoopState.ready = LoopState.ready ∧ (none : Option Code) = none ∧ q18;
 let q50 := decide (q6 = q6);
 Z0 (decide ((↑i : Int) < q3))
 (Z0 (decide (0 ≤ (↑i : Int) ∧ (↑i : Int) < q3))
 (Z0 (decide (q4 < q2))
 (Z0 q5
 (Z0 (decide (q6 * 112 ≤ 140737488355328))
 (∃ (X_1 : Za),
 ∃ (y : Z9),
 LV q8 X_1 ∧
 List.length X_1.L < 1000 ∧
 X_1.t.cap ≠ 0 ∧
 fdH X_1.L q10 q11 = (y, true) ∧ Z0 (decide (List.length y.hash = 32 ∧ List.length q12 = 32)) (Z0 (decide (List.length y.secret = 32 ∧ List.length q13 = 32)) (Z0 (!(y.own == q10 && (y.id == q11 && (y.amount == q14 && (y.hash == q12 && (y.expiry == q15 && (y.stage == q16 && (y.fin == q17 && y.secret == q13)))))))) ((LoopState.done = LoopState.ready ∧ some Code.ret = none ∧ q18) ∧ Z0 q19 (Y3 10 q20 i q7 q21 ∧ Z0 q19 (Z0 (decide (i ≤ q6)) q48 False) False) False) (Z0 q45 (Z0 (decide (q2 ≤ q2)) (Z0 (decide (q3 = q3)) (Z0 (decide (wrap i64 ((↑i : Int) + 1) = (↑q6 : Int))) (q49 ∧ Z0 q45 (Y3 10 q20 q2 q7 q7 ∧ Z0 q50 (Y3 10 q20 q6 q7 q21 ∧ Z0 q50 (Z0 (decide (q6 ≤ q6)) (q24 ∧ Z0 q26 (Z0 q28 (Z0 q30 (Z0 q32 (Z0 q34 (q36 ∧ q38 ∧ Z0 q39 (Z0 q40 (q42 ∧ q44 ∧ Z0 q45 (q46 ∧ Z0 q45 (q47 ∧ Z1) False) False) False) False) False) False) False) False) False) False) False) False) False) False) False) False) False)) False) False)
 False)
 False)
 False)
 False)
 (q49 ∧ Z0 q5 (Y3 10 [(10, 10)] i q7 q7 ∧ Z0 q5 (Z0 (decide (i ≤ i)) q48 False) False) False)) (by kernel_rfl) ?_
 conv => zeta
 try simp only [Zk]
 try simp only [Zn]
 try simp only [Zl]
 try simp only [Zo]
 try simp only [Zp]
 try simp only [Zi]
 try simp only [Int.toNat_natCast, Nat.zero_add, true_and, and_true, Nat.le_refl]
 subst hL
 refine ⟨fun hc => ?_, fun hc => ?_⟩
 ·have hlt : i < X.L.length := by omega
  rw [hx hlt]
  have hk := hk hlt
  have hwr : i64.wrap ((i : Int) + 1) = ((i + 1 : Nat) : Int) := by rw [w64 (by omega)]; omega
  have hC : ∀ τ, Y3 10 τ (i + 1) (Ze X.L) (Wb i (Ze X.L) (US x.c 0 70)) := fun τ => ZW fun j hj => by
   rcases Nat.lt_or_ge j i with h | h
   ·rw [Z4w h]
   ·have e : j = i := by omega
    subst e
    rw [Z1T (Nat.le_refl _), Nat.sub_self]
    unfold Ze
    rw [hx hlt]; rfl
  refine ⟨by omega, hlt, by omega, X, x, .a rfl, hn, hcap, hfd hlt, ⟨hk.hash, hk.hash⟩, ⟨hk.secret, hk.secret⟩, fun h => absurd h (by simp), fun _ => ?_⟩
  repeat' apply And.intro
  all_goals first | omega | rfl | exact hwr | exact h1 hlt | exact hC _ | exact ZW fun _ _ => rfl
 ·repeat' apply And.intro
  all_goals first | omega | rfl | exact h2 (by omega) | exact ZW fun _ _ => rfl
theorem Z7P {own : Bool} {id : Int} {L : List Z9} {i : Nat} (hi : i < L.length) (h : isP own id (L.getD i Zd)) : X5 own id L ≤ i := by
 obtain ⟨h1, _, _⟩ := Wp (own := own) (id := id) (L := L)
 rcases Nat.lt_or_ge i (X5 own id L) with q | q
 ·exact absurd h (h1 i q)
 ·exact q
theorem Z91 {L : List Z9} (hl : L.Pairwise Z2Q) {i : Nat} (hi : i < L.length) : fdH L (L.getD i Zd).own (L.getD i Zd).id = (L.getD i Zd, true) := by
 have h0 : isP (L.getD i Zd).own (L.getD i Zd).id (L.getD i Zd) := ⟨rfl, rfl⟩
 have hle := Z7P hi h0
 obtain ⟨_, h2, _⟩ := Wp (own := (L.getD i Zd).own) (id := (L.getD i Zd).id) (L := L)
 have hlt : X5 (L.getD i Zd).own (L.getD i Zd).id L < L.length := by omega
 have he := h2 hlt
 have : X5 (L.getD i Zd).own (L.getD i Zd).id L = i := by
  rcases Nat.lt_or_ge (X5 (L.getD i Zd).own (L.getD i Zd).id L) i with q | q
  ·have hp := (List.pairwise_iff_getElem.1 hl) _ i hlt hi q
   generalize X5 (L.getD i Zd).own (L.getD i Zd).id L = j at *
   have e1 : L[j].own = L[i].own := by have := he.1; simpa [List.getD_eq_getElem?_getD, List.getElem?_eq_getElem hlt, List.getElem?_eq_getElem hi] using this
   have e2 : L[j].id = L[i].id := by have := he.2; simpa [List.getD_eq_getElem?_getD, List.getElem?_eq_getElem hlt, List.getElem?_eq_getElem hi] using this
   unfold Z2Q Wn at hp
   rw [e1, e2] at hp
   omega
  ·omega
 unfold fdH
 rw [this, if_pos hi]
def Zcj (X : Za) (n : Nat) : Prop := X.Inv Y0 ∧ X.L.length = n
noncomputable def Z9z (W : Int → List Int) (X : Za) (n : Nat) (C : Prop) : Zf := (Zap W).withL 45 0 (goM 10 (Z90 X 0) C (W6 0 n 9 (fun i => i < n) (fun i => i = n) (fun _ => False) (fun _ => False) (Zby X) (fun _ => Z8Z) (fun _ => Z8Z)))
theorem Z7Q (X : Za) (n : Nat) : (Z9z ZE X n (Zcj X n)).Ok :=
 Zf.withGoM (N := 20) (S := Z90 X) Z8Y (by kernel_rfl) fun hC => ⟨rfl, fun i hi _ => by
  obtain ⟨hI, hL⟩ := hC
  exact Zci X n i (X.L.getD i Zd) ZE _ _ (by have := hI.len; omega) hL hi (YZ hI.tb) (fun _ => rfl) (fun h => hI.ok _ (ZU (by omega))) (fun h => Z91 hI.less (by omega)) (fun h => ⟨h, h⟩) (fun h => h)⟩
theorem Zck (X : Za) (n : Nat) (W : Int → List Int) (C : Prop) (hC : C) (hI : X.Inv Y0) (hn : X.L.length = n) (hf : X.t.fund.length = 32) :
  evF (Z9z W X n C) 20 14 [XN X, Z40 X] ⟨0, []⟩ (Yn fun v => v = .bool true) := by
 refine @Eq.mpr _ (let q1 := List.length X.L;
 let q2 := Ze X.L;
 let q3 := AV.vrows 70 q1 q2 q1;
 let q4 := Za.c X q3;
 let q5 := q1 < 1000000;
 let q6 := decide (q1 = q1);
 let q7 := (↑q1 : Int);
 let q8 := X.t;
 let q9 := q8.fund;
 let q10 := q9 = q9;
 let q11 := q8.index;
 let q12 := decide (q11 = q11);
 let q13 := q8.cap;
 let q14 := decide (q13 = q13);
 let q15 := q8.dust;
 let q16 := decide (q15 = q15);
 let q17 := q8.fee;
 let q18 := decide (q17 = q17);
 let q19 := q8.delay;
 let q20 := decide (q19 = q19);
 let q21 := q8.k0;
 let q22 := q21 = q21;
 let q23 := q8.k1;
 let q24 := q23 = q23;
 let q25 := X.side;
 let q26 := decide (q25 = q25);
 let q27 := X.res;
 let q28 := decide (q27 = q27);
 let q29 := [X.a0, X.a1];
 let q30 := q29 = q29;
 let q31 := X.i0;
 let q32 := X.i1;
 let q33 := [q31, q32];
 let q34 := q33 = q33;
 let q35 := q2 = q2;
 let q36 := AV.bool false = AV.bool true;
 ∃ (X_1 : Za),
 LV q4 X_1 ∧
 X_1.t.cap ≠ 0 ∧
 ∃ (L : List Z9),
 q1 = q1 ∧
 q2 = Ze L ∧
 q5 ∧
 ∃ (X_2 : Za),
 LV q4 X_2 ∧
 X_2.t.cap ≠ 0 ∧
 ∃ (L_1 : List Z9),
 q1 = q1 ∧
 q2 = Ze L_1 ∧
 q5 ∧
 Z0 q6
 (Z0 (decide (q1 ≤ q1))
 (Z0 (decide (q7 = q7))
 ((LoopState.ready = LoopState.ready ∧ (none : Option Code) = none ∧ (14 : FuncId) = 14 ∧ (102 : Nat) = 102 ∧ [(14 : Nat)] = [(14 : Nat)] ∧ Vb = Vb ∧ Vc = Vc) ∧
 Z0 q6
 (Y3 10 [] q1 q2 (Ze L_1) ∧
 q10 ∧
 Z0 q12
 (Z0 q14
 (Z0 q16
 (Z0 q18
 (Z0 q20
 (q22 ∧
 q24 ∧
 Z0 q26
 (Z0 q28
 (q30 ∧
 q34 ∧
 Z0 q6
 (q35 ∧
 Z0 q6
 (q4 = q4 ∧
 C ∧
 ∀ (i : Nat),
 i ≤ n →
 (∀ (j : Nat), j < i → (fun (i : Nat) => i < n) j) →
 (i = n →
 Z0 (decide (0 + i ≤ i))
 ((∀ (i_1 : Nat), i_1 < i → true = true) ∧
 ∃ (A : List Z9),
 (i = List.length A ∧ i = i ∧ q1 = i ∧ q1 = i) ∧
 (W9 0 q2 = Ze A ∧ q2 = Ze A) ∧
 i < 1000 ∧
 (∀ (h : Z9), List.Mem h A → Z9.Ok h) ∧
 ∃ (X_3 : Za),
 LV q4 X_3 ∧
 X_3.t.cap ≠ 0 ∧
 q30 ∧
 Z0 (q29 == q29)
 (∃ (X_4 : Za),
 LV q4 X_4 ∧
 Za.Inv Y0 X_4 ∧
 ∃ (X_5 : Za),
 let q73 := [AV.arr u8 32 q9, AV.int i64 q11, AV.int i64 q13, AV.int i64 q15, AV.int i64 q17, AV.int i64 q19, AV.arr u8 32 q21, AV.arr u8 32 q23, AV.int i64 q25, AV.int i64 q27, AV.arr i64 2 q29, AV.arr i64 2 q33, q3];
 LV q73 X_5 ∧
 Za.Inv Y0 X_5 ∧
 Z0 (leftV X_4 0 == leftV X_5 0)
 (∃ (X_6 : Za),
 LV q4 X_6 ∧
 Za.Inv Y0 X_6 ∧
 ∃ (X_7 : Za),
 LV q73 X_7 ∧
 Za.Inv Y0 X_7 ∧
 Z0 (leftV X_6 1 == leftV X_7 1)
 (∃ (X_8 : Za),
 LV q4 X_8 ∧
 Za.Inv Y0 X_8 ∧
 ∃ (X_9 : Za),
 LV q4 X_9 ∧
 Za.Inv Y0 X_9 ∧
 ∃ (X_10 : Za),
 LV q4 X_10 ∧
 X_10.t.cap ≠ 0 ∧
 Z0 (decide (q31 = q31))
 (Z0 (q31 == q31)
 (∃ (X_11 : Za),
 LV q4 X_11 ∧
 X_11.t.cap ≠ 0 ∧
 Z0 (decide (q32 = q32))
 (Z0 (q32 == q32)
 (∃ (X_12 : Za),
 LV q4 X_12 ∧
 Za.Inv Y0 X_12 ∧
 ∃ (X_13 : Za),
 LV q73 X_13 ∧
 Za.Inv Y0 X_13 ∧
 Z0 (Xc X_12.L == Xc X_13.L)
 (∃ (X_14 : Za),
 let q75 := List.length (W7 W X_14);
 let q76 := decide (u8 = u8 ∧ 0 + q75 ≤ q75);
 let q77 := strOf (List.take q75 (Yx 0 (W7 W X_14)));
 LV q4 X_14 ∧
 Za.Inv Y0 X_14 ∧
 List.length X_14.t.fund = 32 ∧
 q10 ∧
 Z0 q12
 (Z0 q14
 (Z0 q16
 (Z0 q18
 (Z0 q20
 (q22 ∧
 q24 ∧
 Z0 q26
 (Z0 q28
 (q30 ∧
 q34 ∧
 Z0 q6
 (q35 ∧
 Z0 q6
 (Z0 q76
 (∃ (X_15 : Za),
 let q81 := List.length (W7 W X_15);
 LV q73 X_15 ∧ Za.Inv Y0 X_15 ∧ List.length X_15.t.fund = 32 ∧ Z0 q76 (q77 = q77 ∧ Z0 (decide (u8 = u8 ∧ 0 + q81 ≤ q81)) (AV.bool (ByteArray.toList q77 == ByteArray.toList (strOf (List.take q81 (Yx 0 (W7 W X_15))))) = AV.bool true) False) False)
 False)
 False)
 False)
 False)
 False)
 False)
 False)
 False)
 False)
 False)
 q36)
 q36)
 False)
 q36)
 False)
 q36)
 q36)
 q36)
 False) ∧
 (False → False) ∧ (False → False))
 False)
 False)
 False)
 False)
 False)
 False)
 False)
 False)
 False)
 False)
 False)
 False)
 False) (by kernel_rfl) ?_
 conv => zeta
 try simp only [Zk]
 try simp only [Zn]
 try simp only [Zl]
 try simp only [Zo]
 try simp only [Zp]
 try simp only [Zi]
 try simp only [Int.toNat_natCast, Nat.zero_add, true_and, and_true, Nat.le_refl]
 subst hn
 have hcap := YZ hI.tb
 have hlen := hI.am.n
 refine ⟨X, .a rfl, hcap, X.L, rfl, by omega, X, .a rfl, hcap, X.L, rfl, by omega, ZW fun _ _ => rfl, hC, fun i hi _ => ⟨fun he => ?_, fun h => h.elim, fun h => h.elim⟩⟩
 subst he
 refine ⟨fun _ _ => trivial, X.L, ⟨rfl, rfl, rfl⟩, ⟨rfl, rfl⟩, hlen, hI.ok, X, .a rfl, hcap, ?_⟩
 repeat' first
  | exact hI
  | exact hcap
  | exact hf
  | (intro h; simp at h; done)
  | intro _
  | refine Exists.intro X (And.intro (.a rfl) ?_)
  | apply And.intro
  | rfl
  | omega
  | exact congrArg AV.bool (beq_self_eq_true _)
def Zbz : ZQ := fun args h K => ZI none h true 20 args fun a => match a with
 | [.pview cs 0, .agg ws] => ∃ X, LV cs X ∧ LV ws X ∧ X.Inv Y0 ∧ X.t.fund.length = 32 ∧ K (.bool true)
 | _ => False
theorem Z92 (args : List AV) (h : Z5) (K : AV → Prop) (hl : Zbz args h K) : Zc PP 14 args h fun o h' => ∃ v, o = .ret v ∧ h' = h ∧ K v := by
 refine Zx.psumm (d := 20) (Zq _ _ _ _ _ hl fun a ha => ?_)
 split at ha
 ·obtain ⟨X, hX, hW, hI, hf, hK⟩ := ha
  exact ⟨_, (Zx.evV (Z7Q X X.L.length) (Zck X _ ZE _ ⟨hI, rfl⟩ hI rfl hf)).conv fun E r hr => hr.head (fun _ hc => Xu hX hc) fun _ hr => hr.head (fun _ hc => Uz hW hc) fun _ hc => hc, fun _ => rfl, hK⟩
 ·exact ha.elim
end Go.Tk
end
section
namespace Go.Tk
open IntKind (i64 u8 u32 u64 wrap)
structure Z93 where
 what : Int
 own : Bool
 off : Int
 amount : Int
 expiry : Int
 secret : List Int
 at' : Int
 move : Int
 ours : Bool
 number : Int
def Z93.c (a : Z93) : List AV := [.int .i64 a.what, .bool a.own, .int .i64 a.off, .int .i64 a.amount, .int .i64 a.expiry, .arr .u8 32 a.secret, .int .i64 a.at', .int .i64 a.move, .bool a.ours, .int .i64 a.number]
structure Z93.Ok (a : Z93) : Prop where
 secret : a.secret.length = 32
 sb : Bytes a.secret
end Go.Tk
end
section
namespace Go.Tk
open IntKind (i64 u8 u32 u64 wrap)
end Go.Tk
end
section
namespace Go.Tk
open IntKind (i64 u8 u32 u64 wrap)
noncomputable def ZbA : Zf := G0.withP 78 Z3R
theorem Z94 : ZbA.Ok := Zf.withP_ok Zv Z5p
theorem Z5M {H : List Int → List Int} {t : ZY} {side res a b : Int} : ZV H (Xx t side res a b) = true ↔ YS t = true ∧ (0 ≤ side ∧ side ≤ 1) ∧ (0 ≤ res ∧ res ≤ t.cap / 10) ∧ (0 ≤ a ∧ a ≤ t.cap) ∧ b = t.cap - a ∧ 0 ≤ a - res - t.fee := by
 rw [VM, Uv]
 have o : ∀ s, ZN (Xx t side res a b).side s (Xx t side res a b).L = [] := fun _ => rfl
 have e : Yt (Xx t side res a b) 0 = a - res - t.fee := by
  rw [WU, Z0p (o 0), if_pos rfl]
  show a - 0 - res - t.fee = _
  omega
 rw [o, o, e]
 constructor
 ·rintro ⟨⟨h1, h2, h3, h4, h5, _⟩, _, h6, _⟩
  exact ⟨h1, h2, h3, h4, h5, h6⟩
 ·rintro ⟨h1, h2, h3, h4, h5, h6⟩
  exact ⟨⟨h1, h2, h3, h4, h5, ⟨Int.le_refl 0, show (0 : Int) ≤ 2147483648 by decide⟩, ⟨Int.le_refl 0, show (0 : Int) ≤ 2147483648 by decide⟩, Nat.zero_le _, Nat.zero_le _⟩, fun i hi => absurd hi (Nat.not_lt_zero _), h6, .inl rfl⟩
theorem ZbB (t : ZY) (side res a b : Int) (X Y : Za) (e : Int) (H1 : List Int → List Int) (ht : t.Ok) (hX : X = Xx t side res a b) (hY : Y = cond (ZV H1 X) X Z0u) (he : e = cond (ZV H1 X) 0 2) :
  evF ZbA 20 10 [.agg t.c, .int .i64 side, .int .i64 res, .agg [.arr .i64 2 [a, b]]] ⟨0, []⟩ (Yn fun v => v = .tuple [.agg (Y.c .nilslice), .int .i64 e]) := by
 refine @Eq.mpr _ (let q1 := t.cap;
 let q2 := t.fee;
 let q3 := ZY.mk t.fund t.index q1 t.dust q2 t.delay t.k0 t.k1;
 let q4 := AV.arr u8 32 ZG;
 let q5 := AV.int i64 0;
 let q6 := AV.arr i64 2 [(0 : Int), 0];
 let q7 := [q6, AV.nilslice];
 let q8 := AV.tuple [AV.agg (Za.c Y AV.nilslice), AV.int i64 e];
 let q9 := AV.tuple [AV.agg (q4 :: q5 :: q5 :: q5 :: q5 :: q5 :: q4 :: q4 :: q5 :: q5 :: q6 :: q7), AV.int i64 2] = q8;
 let q10 := decide (res < 0);
 let q11 := decide (res > wrap i64 (Int.tdiv q1 10));
 let q12 := decide (a ≥ 0);
 let q13 := !decide (a ≤ 1125899906842624);
 let q14 := decide (b ≥ 0);
 let q15 := !decide (b ≤ 1125899906842624);
 let q16 := wrap i64 (a + b) != q1;
 let q17 := AV.tuple [AV.agg (AV.arr u8 32 t.fund :: AV.int i64 t.index :: AV.int i64 q1 :: AV.int i64 t.dust :: AV.int i64 q2 :: AV.int i64 t.delay :: AV.arr u8 32 t.k0 :: AV.arr u8 32 t.k1 :: AV.int i64 side :: AV.int i64 res :: AV.arr i64 2 [a, b] :: q7), q5] = q8;
 ZY.Ok q3 ∧ Z0 (!YS q3) q9 (Z0 (side != 0) (Z0 (side != 1) q9 (Z0 q10 q9 (Z0 q11 q9 (Z0 q12 (Z0 q13 q9 (Z0 q14 (Z0 q15 q9 (Z0 q16 q9 (Z0 (decide (wrap i64 (wrap i64 (wrap i64 (a - 0) - res) - q2) ≥ 0)) q17 q9))) q9)) q9)))) (Z0 q10 q9 (Z0 q11 q9 (Z0 q12 (Z0 q13 q9 (Z0 q14 (Z0 q15 q9 (Z0 q16 q9 (Z0 (decide (wrap i64 (wrap i64 (wrap i64 (a - 0) - res) - q2) ≥ 0)) q17 q9))) q9)) q9))))) (by kernel_rfl) ?_
 conv => zeta
 try simp only [Zk]
 try simp only [Zn]
 try simp only [Zl]
 try simp only [Zo]
 try simp only [Zp]
 try simp only [Zi]
 try simp only [Int.toNat_natCast, Nat.zero_add, true_and, and_true, Nat.le_refl]
 have e0 : ZY.mk t.fund t.index t.cap t.dust t.fee t.delay t.k0 t.k1 = t := rfl
 rw [e0]
 have hr := Z5M (H := H1) (t := t) (side := side) (res := res) (a := a) (b := b)
 rw [← hX] at hr
 have bad : ¬ (ZV H1 X = true) → AV.tuple [.agg (Z0u.c .nilslice), .int .i64 2] = AV.tuple [.agg (Y.c .nilslice), .int .i64 e] := fun h => by rw [hY, he, Bool.eq_false_iff.2 h]; rfl
 have good : ZV H1 X = true → AV.tuple [.agg (X.c .nilslice), .int .i64 0] = AV.tuple [.agg (Y.c .nilslice), .int .i64 e] := fun h => by rw [hY, he, h]; rfl
 refine ⟨ht, fun k => bad fun h => ?_, fun k1 => ?_⟩
 ·rw [(hr.1 h).1] at k; simp at k
 have k1 : YS t = true := by simpa using k1
 have tb := ZX k1
 have td : i64.wrap (Int.tdiv t.cap 10) = t.cap / 10 := by rw [Int.tdiv_eq_ediv_of_nonneg (by omega), w64 (by omega)]
 rw [td]
 have main : (0 ≤ side ∧ side ≤ 1) → (res < 0 → AV.tuple [.agg (Z0u.c .nilslice), .int .i64 2] = AV.tuple [.agg (Y.c .nilslice), .int .i64 e]) ∧ (¬ res < 0 → (res > t.cap / 10 → AV.tuple [.agg (Z0u.c .nilslice), .int .i64 2] = AV.tuple [.agg (Y.c .nilslice), .int .i64 e]) ∧ (¬ res > t.cap / 10 → (a ≥ 0 → ((!decide (a ≤ 1125899906842624)) = true → AV.tuple [.agg (Z0u.c .nilslice), .int .i64 2] = AV.tuple [.agg (Y.c .nilslice), .int .i64 e]) ∧ ((!decide (a ≤ 1125899906842624)) = false → (b ≥ 0 → ((!decide (b ≤ 1125899906842624)) = true → AV.tuple [.agg (Z0u.c .nilslice), .int .i64 2] = AV.tuple [.agg (Y.c .nilslice), .int .i64 e]) ∧ ((!decide (b ≤ 1125899906842624)) = false → ((i64.wrap (a + b) != t.cap) = true → AV.tuple [.agg (Z0u.c .nilslice), .int .i64 2] = AV.tuple [.agg (Y.c .nilslice), .int .i64 e]) ∧ ((i64.wrap (a + b) != t.cap) = false → (i64.wrap (i64.wrap (i64.wrap (a - 0) - res) - t.fee) ≥ 0 → AV.tuple [.agg (X.c .nilslice), .int .i64 0] = AV.tuple [.agg (Y.c .nilslice), .int .i64 e]) ∧ (¬ i64.wrap (i64.wrap (i64.wrap (a - 0) - res) - t.fee) ≥ 0 → AV.tuple [.agg (Z0u.c .nilslice), .int .i64 2] = AV.tuple [.agg (Y.c .nilslice), .int .i64 e])))) ∧ (¬ b ≥ 0 → AV.tuple [.agg (Z0u.c .nilslice), .int .i64 2] = AV.tuple [.agg (Y.c .nilslice), .int .i64 e]))) ∧ (¬ a ≥ 0 → AV.tuple [.agg (Z0u.c .nilslice), .int .i64 2] = AV.tuple [.agg (Y.c .nilslice), .int .i64 e]))) := fun hs => by
  refine ⟨fun k => bad fun h => ?_, fun k2 => ⟨fun k => bad fun h => ?_, fun k3 => ⟨fun k4 => ⟨fun k => bad fun h => ?_, fun k5 => ⟨fun k6 => ⟨fun k => bad fun h => ?_, fun k7 => ⟨fun k => bad fun h => ?_, fun k8 => ?_⟩⟩, fun k => bad fun h => ?_⟩⟩, fun k => bad fun h => ?_⟩⟩⟩
  ·have := (hr.1 h).2.2.1; omega
  ·have := (hr.1 h).2.2.1; omega
  ·have := (hr.1 h).2.2.2.1
   have : ¬ a ≤ 1125899906842624 := by simpa using k
   omega
  ·have := (hr.1 h).2.2.2
   have : ¬ b ≤ 1125899906842624 := by simpa using k
   omega
  ·have q := (hr.1 h).2.2.2
   have : ¬ i64.wrap (a + b) = t.cap := by simpa using k
   rw [w64 (by omega)] at this
   omega
  ·have k5 : a ≤ 1125899906842624 := by simpa using k5
   have k7 : b ≤ 1125899906842624 := by simpa using k7
   have k8 : i64.wrap (a + b) = t.cap := by simpa using k8
   rw [w64 (by omega)] at k8
   rw [w64 (x := a - 0) (by omega), w64 (x := a - 0 - res) (by omega), w64 (by omega)]
   refine ⟨fun k9 => good (hr.2 ⟨k1, hs, by omega, by omega, by omega, by omega⟩), fun k9 => bad fun h => ?_⟩
   have q := (hr.1 h).2.2.2.2.2
   omega
  ·have := (hr.1 h).2.2.2; omega
  ·have := (hr.1 h).2.2.2; omega
 rw [hX] at main
 refine ⟨fun h0 => ⟨fun h1 => bad fun h => ?_, fun h1 => main ?_⟩, fun h0 => main ?_⟩
 ·have := (hr.1 h).2.1
  have h0 : ¬ side = 0 := by simpa using h0
  have h1 : ¬ side = 1 := by simpa using h1
  omega
 ·have h1 : side = 1 := by simpa using h1
  omega
 ·have h0 : side = 0 := by simpa using h0
  omega
def Z9A (H : List Int → List Int) : ZQ := fun args h K => ZI none h true 20 args fun v => match v with
 | [.agg [.arr .u8 32 fu, .int .i64 ix, .int .i64 ca, .int .i64 du, .int .i64 fe, .int .i64 de, .arr .u8 32 k0, .arr .u8 32 k1], .int .i64 sd, .int .i64 rs, .agg [.arr .i64 2 [a, b]]] =>
  ZY.Ok ⟨fu, ix, ca, du, fe, de, k0, k1⟩ ∧ Z0 (ZV H (Xx ⟨fu, ix, ca, du, fe, de, k0, k1⟩ sd rs a b)) (K (.tuple [.agg ((Xx ⟨fu, ix, ca, du, fe, de, k0, k1⟩ sd rs a b).c .nilslice), .int .i64 0])) (K (.tuple [.agg (Z0u.c .nilslice), .int .i64 2]))
 | _ => False
theorem Z7R {H : List Int → List Int} (args : List AV) (h : Z5) (K : AV → Prop) (hl : Z9A H args h K) : Zc PP 10 args h fun o h' => ∃ v, o = .ret v ∧ h' = h ∧ K v := by
 refine Zx.psumm (d := 20) (Zq _ _ _ _ _ hl fun a ha => ?_)
 split at ha
 ·rename_i fu ix ca du fe de k0 k1 sd rs a b
  obtain ⟨ht, hK⟩ := ha
  refine ⟨_, Zx.evV Z94 (ZbB ⟨fu, ix, ca, du, fe, de, k0, k1⟩ sd rs a b _ _ _ H ht rfl rfl rfl), fun _ => ?_, ?_⟩
  ·cases ZV H (Xx ⟨fu, ix, ca, du, fe, de, k0, k1⟩ sd rs a b) <;> rfl
  ·cases hb : ZV H (Xx ⟨fu, ix, ca, du, fe, de, k0, k1⟩ sd rs a b) <;> rw [hb] at hK <;> exact hK
 ·exact ha.elim
def Zaq : ZQ := fun args _ K => match args with
 | [] => K (.bool true)
 | _ => False
end Go.Tk
end
section
namespace Go.Tk
open IntKind (i64 u8 u32 u64 wrap)
end Go.Tk
end
section
namespace Go.Tk
open IntKind (i64 u8 u32 u64 wrap)
theorem Z5N {x : Z9} : Z5x ltH [x] := by simp [Z5x]
def Z45 : Yz := fun args h K => match args with
 | [.nslice ⟨b, 0, 70, 0, 0⟩ 70 _ _, _] => frA [b] h 20 args fun Bs a => match Bs, a with
  | [.rows 70 1 f], [.nslice ⟨0, 0, 70, 0, 0⟩ 70 1 _, .func (.func 61) [] []] => match f 0 with
   | [.bool ow, .int .i64 id, .int .i64 am, .arr .u8 32 ha, .int .i64 ex, .int .i64 st, .int .i64 fi, .arr .u8 32 se] => K (.ret (.tuple [])) ⟨h.next, (b, .rows 70 1 (Ze [⟨ow, id, am, ha, ex, st, fi, se⟩])) :: Wv h.bs b⟩
   | _ => False
  | _, _ => False
 | _ => False
theorem Z5O (args : List AV) (h : Z5) (K : KO) (hl : Z45 args h K) : Zc PP 60 args h K := by
 unfold Z45 at hl
 split at hl
 ·refine Spec.fsumm hl fun Bs a hlen hK0 => ?_
  split at hK0
  ·split at hK0
   ·rename_i f _ _ ow id am ha ex st fi se hf
    have hs : Z7o [⟨ow, id, am, ha, ex, st, fi, se⟩] [⟨ow, id, am, ha, ex, st, fi, se⟩] 1 := ⟨rfl, by decide, by decide, .refl _, Z5N, fun a ha b hb _ _ => by
     simp only [List.mem_cons, List.not_mem_nil, or_false] at ha hb
     rw [ha, hb]⟩
    exact ⟨_, _, _, _, _, Zae (fun i hi => by
     have : i = 0 := by omega
     subst this; rw [hf]; rfl) hs, Nat.le_refl _, .ret _ _ rfl, .cons _ _ _ _ _ _ rfl (.rows _ _ _ (fun i _ => X6 _ i)) .nil, hK0⟩
   ·exact hK0.elim
  ·exact hK0.elim
 ·exact hl.elim
noncomputable def ZbC : Zf := G0.withF 60 Z45
theorem Z95 : ZbC.Ok := Zf.withF_ok Zv Z5O
theorem ZbD (u : Unit)  :
  evF ZbC 40 7 [] ⟨0, []⟩ (Yn fun v => v = .bool true) := by
 refine @Eq.mpr _ (let q1 := [(0 : Int), 0, 0, 0, 0, 0, 0, 0, 0, 0, 0, 0, 0, 0, 0, 0, 0, 0, 0, 0, 0, 0, 0, 0, 0, 0, 0, 0, 0, 0, 0];
 let q2 := (2 : Int) :: q1;
 let q3 := q2 = q2;
 let q4 := (1 : Int) :: q1;
 let q5 := q4 = q4;
 let q6 := AV.bool true;
 let q7 := AV.arr u8 32 ZG;
 let q8 := [(600 : Int), 400];
 let q9 := q8 = q8;
 let q10 := (∀ (i : Nat), i < 1 → YD (Wb 0 (fun (x : Nat) => []) (US [q6, AV.int i64 0, AV.int i64 545, q7, AV.int i64 9, AV.int i64 1, AV.int i64 0, q7] 0 70) i) = true) ∧ q9 ∧ ZG = ZG ∧ q9 ∧ ZG = ZG ∧ q6 = q6;
 q3 ∧ q5 ∧ q3 ∧ q5 ∧ q3 ∧ q5 ∧ q3 ∧ q5 ∧ q3 ∧ q5 ∧ (ZG = ZG ∧ ZG = ZG ∧ q10) ∧ q10) (by kernel_rfl) ?_
 conv => zeta
 trivial
end Go.Tk
end
section
namespace Go.Tk
open IntKind (i64 u8 u32 u64 wrap)
def termTy : List Ty := [.arr .u8 32, .int .i64, .int .i64, .int .i64, .int .i64, .int .i64, .arr .u8 32, .arr .u8 32]
theorem Z46 {a : AV} (h : Z14 true termTy a) : ∃ t : ZY, a = .agg t.c ∧ t.Ok ∧ t.fund.length = 32 := by
 cases h with | agg _ u h =>
 unfold termTy at h
 cases h with | cons _ a1 _ u h1 h =>
 cases h with | cons _ a2 _ u h2 h =>
 cases h with | cons _ a3 _ u h3 h =>
 cases h with | cons _ a4 _ u h4 h =>
 cases h with | cons _ a5 _ u h5 h =>
 cases h with | cons _ a6 _ u h6 h =>
 cases h with | cons _ a7 _ u h7 h =>
 cases h with | cons _ a8 _ u h8 h =>
 cases h; cases h1; cases h2; cases h3; cases h4; cases h5; cases h6; cases h7; cases h8
 rename_i x1 l1 w1 x2 w2 x3 w3 x4 w4 x5 w5 x6 w6 x7 l7 w7 x8 l8 w8
 exact ⟨⟨x1, x2, x3, x4, x5, x6, x7, x8⟩, rfl, ⟨l7, l8, Z2J l7 w7, Z2J l8 w8⟩, l1⟩
theorem fits_int {a : AV} (h : Z14 false [.int .i64] a) : ∃ n : Int, a = .int .i64 n := by
 cases h with | one _ _ h =>
 cases h
 exact ⟨_, rfl⟩
theorem Z96 (args : List AV) (h : Z5) (K : AV → Prop) (hl : Zaq args h K) : Zc PP 7 args h fun o h' => ∃ v, o = .ret v ∧ h' = h ∧ K v := by
 unfold Zaq at hl
 split at hl
 ·exact Ys Z95 rfl (ZbD ()) (fun u hu => hu ▸ hl)
 ·exact hl.elim
end Go.Tk
end
section
namespace Go.Tk
open IntKind (i64 u8 u32 u64 wrap)
noncomputable def ZbE (H : List Int → List Int) : Zf := (((G0.withF 8 (Z9o H)).withP 10 (Z9A H)).withP 14 Zbz).withP 7 Zaq
theorem Z97 : (ZbE Y0).Ok := Zf.withP_ok (Zf.withP_ok (Zf.withP_ok (Zf.withF_ok Zv Z7l) Z7R) Z92) Z96
theorem Zcl (t : ZY) (sd rs x y : Int) (H : List Int → List Int) (ht : t.Ok) (hf : t.fund.length = 32) (hI : ZV H (Xx t sd rs x y) = true → (Xx t sd rs x y).Inv Y0) :
  evF (ZbE H) 20 5 [.agg t.c, .int .i64 sd, .int .i64 rs, .int .i64 x, .int .i64 y] ⟨0, []⟩ (Yn fun v => v = .bool true) := by
 refine @Eq.mpr _ (let q1 := ZY.mk t.fund t.index t.cap t.dust t.fee t.delay t.k0 t.k1;
 let q2 := ZY.Ok q1;
 let q3 := Xx q1 sd rs x y;
 let q4 := ZV H q3;
 let q5 := Int.tmod rs 2 != 0;
 let q6 := q3.t;
 let q7 := AV.arr u8 32 q6.fund;
 let q8 := AV.int i64 q6.index;
 let q9 := q6.cap;
 let q10 := AV.int i64 q9;
 let q11 := AV.int i64 q6.dust;
 let q12 := AV.int i64 q6.fee;
 let q13 := AV.int i64 q6.delay;
 let q14 := AV.arr u8 32 q6.k0;
 let q15 := AV.arr u8 32 q6.k1;
 let q16 := AV.int i64 q3.side;
 let q17 := AV.int i64 q3.res;
 let q18 := AV.arr i64 2 [q3.a0, q3.a1];
 let q19 := AV.arr i64 2 [q3.i0, q3.i1];
 let q20 := q9 == 0;
 let q21 := AV.bool true;
 let q22 := AV.bool false = q21;
 let q23 := q21 = q21;
 let q24 := Z0 q20 q22 (Z0 (!q20) q23 q22);
 let q25 := (∀ (i : Nat), i < 0 → true = true) ∧ ∃ (X : Za), LV [q7, q8, q10, q11, q12, q13, q14, q15, q16, q17, q18, q19, AV.vrows 70 0 (W9 0 (Ze [])) 0] X ∧ LV [q7, q8, q10, q11, q12, q13, q14, q15, q16, q17, q18, q19, AV.nilslice] X ∧ Za.Inv Y0 X ∧ List.length X.t.fund = 32 ∧ Z0 q20 q24 q24;
 let q26 := Z0 q5 q22 q22;
 q2 ∧ Z0 q4 (q2 ∧ Z0 q4 (Z0 q5 q25 q25) q26) (q2 ∧ Z0 q4 q26 (Z0 q5 q23 q23))) (by kernel_rfl) ?_
 conv => zeta
 try simp only [Zk]
 try simp only [Zn]
 try simp only [Zl]
 try simp only [Zo]
 try simp only [Zp]
 try simp only [Zi]
 try simp only [Int.toNat_natCast, Nat.zero_add, true_and, and_true, Nat.le_refl]
 have e0 : ZY.mk t.fund t.index t.cap t.dust t.fee t.delay t.k0 t.k1 = t := rfl
 rw [e0]
 cases hb : ZV H (Xx t sd rs x y) with
 | true =>
  have hI := hI hb
  have hcap : ¬ ((Xx t sd rs x y).t.cap == 0) = true := by simpa using YZ hI.tb
  have hcap2 : ¬ (!((Xx t sd rs x y).t.cap == 0)) = false := by simpa using YZ hI.tb
  repeat' first
   | exact ht
   | exact hI
   | exact hf
   | (intro h; cases h; done)
   | (intro h; exact absurd h hcap)
   | (intro h; exact absurd h hcap2)
   | intro _
   | refine Exists.intro (Xx t sd rs x y) (And.intro (.a rfl) (And.intro (.b rfl rfl) ?_))
   | apply And.intro
   | trivial
   | rfl
   | omega
 | false =>
  repeat' first
   | exact ht
   | (intro h; cases h; done)
   | intro _
   | apply And.intro
   | trivial
   | rfl
   | omega
end Go.Tk
end
section
namespace Go.Tk
open IntKind (i64 u8 u32 u64 wrap)
theorem ledgernews_walk {us : List AV} (h : Z15 [(true, termTy), (false, [.int .i64]), (false, [.int .i64]), (false, [.int .i64]), (false, [.int .i64])] us) : Zc PP 5 us ⟨0, []⟩ fun o h' => ∃ v, o = .ret v ∧ h' = ⟨0, []⟩ ∧ v = .bool true := by
 cases h with | cons _ _ a _ _ h1 h =>
 cases h with | cons _ _ b _ _ h2 h =>
 cases h with | cons _ _ c _ _ h3 h =>
 cases h with | cons _ _ d _ _ h4 h =>
 cases h with | cons _ _ e _ _ h5 h =>
 cases h
 obtain ⟨t, rfl, ht, hf⟩ := Z46 h1
 obtain ⟨sd, rfl⟩ := fits_int h2
 obtain ⟨rs, rfl⟩ := fits_int h3
 obtain ⟨x, rfl⟩ := fits_int h4
 obtain ⟨y, rfl⟩ := fits_int h5
 have hv := Zcl t sd rs x y Y0 ht hf fun hb => (Z8r ht (fun h hh => by cases hh)).1 hb
 exact Ys (h := ⟨0, []⟩) Z97 rfl hv (fun u hu => hu)
end Go.Tk
namespace Go.Proofs.YtellkjlbhaikeaaGreat.ledgerNews
open Go.ChangeShapes Go.WideShapes Go.ChangeAt Go.RowKit
theorem own : ownKnob Tryz.prog.godebug = none := by kernel_rfl
theorem laidOut : laidOutB Tryz.prog = true := by kernel_rfl
theorem lifted (os : Os) (started : os.Started) (H : Type) (enc : TypeId × Value → H) :
  ReturnsInHanded {} Tryz.checked os 5 .any (Rows.ledgerNewsSpec.pre6 enc Tryz.prog Tryz.f5 Rows.ledgerNewsRow.domain false) (Rows.ledgerNewsSpec.post enc Tryz.prog Tryz.f5 false true false false) :=
 Go.Tk.lifted_gen (C := Tryz.checked) (m := 8) (τs := [(true, Go.Tk.termTy), (false, [.int .i64]), (false, [.int .i64]), (false, [.int .i64]), (false, [.int .i64])]) own laidOut started (by kernel_rfl) Tryz.func5
  (ChangeSpec.witness6 (enc := enc) (C := Tryz.checked) false ⟨#[], #[.agg (Array.replicate 32 (.int .u8 0) ++ #[.int .i64 0, .int .i64 0, .int .i64 0, .int .i64 0, .int .i64 0] ++ Array.replicate 64 (.int .u8 0)), .int .i64 0, .int .i64 0, .int .i64 0, .int .i64 0], []⟩ 8 (by kernel_rfl) (by kernel_rfl) (by kernel_rfl) (by kernel_rfl))
  rfl (tb := 4) rfl Tryz.underlying4 (by kernel_rfl) (by kernel_rfl) (fun ds h => by
   match ds, h with
   | [a, b, c, d, e], _ => rfl) fun us h => Go.Tk.ledgernews_walk h
theorem Zar : Tryz.pinned.checked.prog.funcNamed Rows.ledgerNewsRow.func = some 5 := by kernel_rfl
theorem closed : joinedFacts Tryz.pinned.checked.prog 5 Tryz.f5 Rows.ledgerNewsSpec Rows.ledgerNewsRow = true := by
 unfold joinedFacts
 repeat' with_reducible refine Go.Tk.and_mk ?_ ?_
 all_goals as_aux_lemma => kernel_rfl
theorem over : Rows.ledgerNewsRow.holds Tryz.pinned (OpenSpec.ofChange Rows.ledgerNewsSpec) :=
 OpenClaim.holds_of_wide 5 Tryz.f5 rfl rfl rfl rfl rfl rfl rfl ⟨rfl, rfl, rfl, rfl, rfl⟩ rfl rfl rfl rfl rfl Zar Tryz.func5 closed
  (of_decide_eq_true (by kernel_rfl)) (by unfold Func.isWrapper; first | (rw [if_pos (by decide +kernel)]; kernel_rfl) | (rw [if_neg (by decide +kernel)]; exact ⟨rfl, rfl⟩))
  (fun os started H enc _ => lifted os started H enc)
theorem proved : Rows.LedgerNewsSaid := over
end Go.Proofs.YtellkjlbhaikeaaGreat.ledgerNews
end
