/- T: part 5 of an engine (a symbolic evaluator, proved against the model) and of the walk by it. -/
import Derived.Test.YtbeiehggdcpdbaaGreatT4
set_option linter.unusedVariables false
set_option linter.unusedSimpArgs false
section
namespace Go.Tk
set_option maxRecDepth 100000 in
set_option maxHeartbeats 0 in
theorem rin45 (x : InS) (b : Bool) (hx : x.Ok) (hb : b = inRight x) :
    evF G0 20 84 [.agg x.c] ⟨0, []⟩ (outV (fun v => v = .bool b)) := by
  refine @Eq.mpr _ (let q1 := x.way;
 let q2 := q1 == 1;
 let q3 := q1 == 4;
 let q4 := decide (q1 ≥ 1);
 let q5 := decide (q1 ≤ 6);
 let q6 := x.name;
 let q7 := decide (List.length q6 = 32 ∧ List.length q6 = 32);
 let q8 := x.tag;
 let q9 := decide (List.length q8 = 32 ∧ List.length q8 = 32);
 let q10 := x.also;
 let q11 := decide (List.length q10 = 32 ∧ List.length q10 = 32);
 let q12 := x.secret;
 let q13 := decide (List.length q12 = 32 ∧ List.length q12 = 32);
 let q14 := q6 == q6;
 let q15 := x.index;
 let q16 := q15 == q15;
 let q17 := q1 == q1;
 let q18 := q8 == q8;
 let q19 := q10 == q10;
 let q20 := q12 == q12;
 let q21 := q19 && q20;
 let q22 := AV.bool false = AV.bool b;
 let q23 := iteB (decide (q15 ≥ 0)) (AV.bool (decide (q15 < 24)) = AV.bool b) q22;
 let q24 := iteB q4 (iteB q5 (iteB q7 (iteB q9 (iteB q11 (iteB q13 (iteB (q14 && (q16 && (q17 && (q18 && q21)))) q23 q22) False) False) False) False) q22) q22;
 let q25 := q1 == 5;
 let q26 := decide (List.length q12 = 32 ∧ (32 : Nat) = 32);
 let q27 := q12 == zero32;
 let q28 := q19 && q27;
 let q29 := decide (List.length q10 = 32 ∧ (32 : Nat) = 32);
 let q30 := q10 == zero32;
 let q31 := q30 && q20;
 let q32 := iteB q4 (iteB q5 (iteB q7 (iteB q9 (iteB q29 (iteB q13 (iteB (q14 && (q16 && (q17 && (q18 && q31)))) q23 q22) False) False) False) False) q22) q22;
 let q33 := q30 && q27;
 let q34 := decide (List.length q8 = 32 ∧ (32 : Nat) = 32);
 let q35 := q8 == zero32;
 let q36 := iteB q4 (iteB q5 (iteB q7 (iteB q34 (iteB q11 (iteB q13 (iteB (q14 && (q16 && (q17 && (q35 && q21)))) q23 q22) False) False) False) False) q22) q22;
 let q37 := iteB q4 (iteB q5 (iteB q7 (iteB q34 (iteB q29 (iteB q13 (iteB (q14 && (q16 && (q17 && (q35 && q31)))) q23 q22) False) False) False) False) q22) q22;
 iteB (q1 != 4) (iteB q2 (iteB q3 q24 (iteB q25 q24 (iteB q4 (iteB q5 (iteB q7 (iteB q9 (iteB q11 (iteB q26 (iteB (q14 && (q16 && (q17 && (q18 && q28)))) q23 q22) False) False) False) False) q22) q22))) (iteB q3 q32 (iteB q25 q32 (iteB q4 (iteB q5 (iteB q7 (iteB q9 (iteB q29 (iteB q26 (iteB (q14 && (q16 && (q17 && (q18 && q33)))) q23 q22) False) False) False) False) q22) q22)))) (iteB q2 (iteB q3 q36 (iteB q25 q36 (iteB q4 (iteB q5 (iteB q7 (iteB q34 (iteB q11 (iteB q26 (iteB (q14 && (q16 && (q17 && (q35 && q28)))) q23 q22) False) False) False) False) q22) q22))) (iteB q3 q37 (iteB q25 q37 (iteB q4 (iteB q5 (iteB q7 (iteB q34 (iteB q29 (iteB q26 (iteB (q14 && (q16 && (q17 && (q35 && q33)))) q23 q22) False) False) False) False) q22) q22))))) (by kernel_rfl) ?_
  conv => zeta
  obtain ⟨h1, h2, h3, h4⟩ := hx
  subst hb
  have hz : [(0 : Int), 0, 0, 0, 0, 0, 0, 0, 0, 0, 0, 0, 0, 0, 0, 0, 0, 0, 0, 0, 0, 0, 0, 0, 0, 0, 0, 0, 0, 0, 0, 0] = zero32 := rfl
  simp only [hz, iteB_eq]
  unfold inRight
  generalize (x.secret == zero32) = bs
  generalize (x.also == zero32) = ba
  generalize (x.tag == zero32) = bt
  by_cases w1 : x.way = 1
  · cases bs <;> simp [w1, h1, h2, h3, h4] <;> first | omega | grind
  by_cases w2 : x.way = 2
  · cases bs <;> cases ba <;> simp [w2, h1, h2, h3, h4] <;> first | omega | grind
  by_cases w3 : x.way = 3
  · cases bs <;> cases ba <;> simp [w3, h1, h2, h3, h4] <;> first | omega | grind
  by_cases w4 : x.way = 4
  · cases bt <;> cases ba <;> simp [w4, h1, h2, h3, h4] <;> first | omega | grind
  by_cases w5 : x.way = 5
  · cases ba <;> simp [w5, h1, h2, h3, h4] <;> first | omega | grind
  by_cases w6 : x.way = 6
  · cases bs <;> cases ba <;> simp [w6, h1, h2, h3, h4] <;> first | omega | grind
  cases bs <;> cases ba <;> simp [w1, w2, w3, w4, w5, w6, h1, h2, h3, h4] <;> first | omega | grind
theorem toU8_eq {a b : Int} (ha : 0 ≤ a ∧ a < 256) (hb : 0 ≤ b ∧ b < 256) : (toU8 a = toU8 b ↔ a = b) ∧ (toU8 a < toU8 b ↔ a < b) := by
  unfold toU8
  rw [← UInt8.toNat_inj, UInt8.lt_iff_toNat_lt]
  simp only [UInt8.toNat_ofNat']
  omega
theorem Bytes.getD {xs : List Int} (h : Bytes xs) (i : Nat) : 0 ≤ xs.getD i 0 ∧ xs.getD i 0 < 256 := by
  have := h.h i
  omega
theorem beh_go {x y : List Int} {b : Bool} {i : Nat} {P : Prop} (hx : i < x.length) (hy : i < y.length) (bx : Bytes x) (yb : Bytes y) (hb : b = decide (cmpI (x.drop i) (y.drop i) > 0)) (hP : b = decide (cmpI (x.drop (i + 1)) (y.drop (i + 1)) > 0) → P) :
    iteB (x.getD i 0 != y.getD i 0) (AV.bool (decide (x.getD i 0 > y.getD i 0)) = AV.bool b) P := by
  have e1 : x.drop i = x.getD i 0 :: x.drop (i + 1) := by rw [List.drop_eq_getElem_cons hx]; simp [List.getD_eq_getElem?_getD, hx]
  have e2 : y.drop i = y.getD i 0 :: y.drop (i + 1) := by rw [List.drop_eq_getElem_cons hy]; simp [List.getD_eq_getElem?_getD, hy]
  rw [e1, e2] at hb
  have k1 := toU8_eq (bx.getD i) (yb.getD i)
  have k2 := toU8_eq (yb.getD i) (bx.getD i)
  generalize x.getD i 0 = u at *
  generalize y.getD i 0 = v at *
  simp only [cmpI, List.map_cons, Lib.compareBytes, k1.2, k2.2] at hb
  rw [iteB_eq]
  constructor
  · intro h
    have h : u ≠ v := by simpa using h
    rw [hb]
    by_cases h1 : u < v
    · simp [h1]; omega
    · have : v < u := by omega
      simp [this, h1]
  · intro h
    have h : u = v := by simpa using h
    subst h
    simp only [Int.lt_irrefl, if_false] at hb
    exact hP hb
set_option maxRecDepth 100000 in
set_option maxHeartbeats 0 in
theorem beh96 (x y : List Int) (b : Bool) (hx : x.length = 32) (hy : y.length = 32) (bx : Bytes x) (yb : Bytes y) (hb : b = decide (cmpI (x.drop 0) (y.drop 0) > 0)) :
    evF G0 20 128 [.agg [.arr .u8 32 x], .agg [.arr .u8 32 y]] ⟨0, []⟩ (outV (fun v => v = .bool b)) := by
  refine @Eq.mpr _ (let q1 := AV.bool b;
 iteB (List.getD x 0 0 != List.getD y 0 0) (AV.bool (decide (List.getD x 0 0 > List.getD y 0 0)) = q1)
 (iteB (List.getD x 1 0 != List.getD y 1 0) (AV.bool (decide (List.getD x 1 0 > List.getD y 1 0)) = q1)
 (iteB (List.getD x 2 0 != List.getD y 2 0) (AV.bool (decide (List.getD x 2 0 > List.getD y 2 0)) = q1)
 (iteB (List.getD x 3 0 != List.getD y 3 0) (AV.bool (decide (List.getD x 3 0 > List.getD y 3 0)) = q1)
 (iteB (List.getD x 4 0 != List.getD y 4 0) (AV.bool (decide (List.getD x 4 0 > List.getD y 4 0)) = q1)
 (iteB (List.getD x 5 0 != List.getD y 5 0) (AV.bool (decide (List.getD x 5 0 > List.getD y 5 0)) = q1)
 (iteB (List.getD x 6 0 != List.getD y 6 0) (AV.bool (decide (List.getD x 6 0 > List.getD y 6 0)) = q1)
 (iteB (List.getD x 7 0 != List.getD y 7 0) (AV.bool (decide (List.getD x 7 0 > List.getD y 7 0)) = q1)
 (iteB (List.getD x 8 0 != List.getD y 8 0) (AV.bool (decide (List.getD x 8 0 > List.getD y 8 0)) = q1)
 (iteB (List.getD x 9 0 != List.getD y 9 0) (AV.bool (decide (List.getD x 9 0 > List.getD y 9 0)) = q1)
 (iteB (List.getD x 10 0 != List.getD y 10 0) (AV.bool (decide (List.getD x 10 0 > List.getD y 10 0)) = q1)
 (iteB (List.getD x 11 0 != List.getD y 11 0) (AV.bool (decide (List.getD x 11 0 > List.getD y 11 0)) = q1)
 (iteB (List.getD x 12 0 != List.getD y 12 0) (AV.bool (decide (List.getD x 12 0 > List.getD y 12 0)) = q1)
 (iteB (List.getD x 13 0 != List.getD y 13 0) (AV.bool (decide (List.getD x 13 0 > List.getD y 13 0)) = q1)
 (iteB (List.getD x 14 0 != List.getD y 14 0) (AV.bool (decide (List.getD x 14 0 > List.getD y 14 0)) = q1)
 (iteB (List.getD x 15 0 != List.getD y 15 0) (AV.bool (decide (List.getD x 15 0 > List.getD y 15 0)) = q1)
 (iteB (List.getD x 16 0 != List.getD y 16 0) (AV.bool (decide (List.getD x 16 0 > List.getD y 16 0)) = q1)
 (iteB (List.getD x 17 0 != List.getD y 17 0) (AV.bool (decide (List.getD x 17 0 > List.getD y 17 0)) = q1)
 (iteB (List.getD x 18 0 != List.getD y 18 0) (AV.bool (decide (List.getD x 18 0 > List.getD y 18 0)) = q1)
 (iteB (List.getD x 19 0 != List.getD y 19 0) (AV.bool (decide (List.getD x 19 0 > List.getD y 19 0)) = q1)
 (iteB (List.getD x 20 0 != List.getD y 20 0) (AV.bool (decide (List.getD x 20 0 > List.getD y 20 0)) = q1)
 (iteB (List.getD x 21 0 != List.getD y 21 0) (AV.bool (decide (List.getD x 21 0 > List.getD y 21 0)) = q1)
 (iteB (List.getD x 22 0 != List.getD y 22 0) (AV.bool (decide (List.getD x 22 0 > List.getD y 22 0)) = q1)
 (iteB (List.getD x 23 0 != List.getD y 23 0) (AV.bool (decide (List.getD x 23 0 > List.getD y 23 0)) = q1)
 (iteB (List.getD x 24 0 != List.getD y 24 0) (AV.bool (decide (List.getD x 24 0 > List.getD y 24 0)) = q1) (iteB (List.getD x 25 0 != List.getD y 25 0) (AV.bool (decide (List.getD x 25 0 > List.getD y 25 0)) = q1) (iteB (List.getD x 26 0 != List.getD y 26 0) (AV.bool (decide (List.getD x 26 0 > List.getD y 26 0)) = q1) (iteB (List.getD x 27 0 != List.getD y 27 0) (AV.bool (decide (List.getD x 27 0 > List.getD y 27 0)) = q1) (iteB (List.getD x 28 0 != List.getD y 28 0) (AV.bool (decide (List.getD x 28 0 > List.getD y 28 0)) = q1) (iteB (List.getD x 29 0 != List.getD y 29 0) (AV.bool (decide (List.getD x 29 0 > List.getD y 29 0)) = q1) (iteB (List.getD x 30 0 != List.getD y 30 0) (AV.bool (decide (List.getD x 30 0 > List.getD y 30 0)) = q1) (iteB (List.getD x 31 0 != List.getD y 31 0) (AV.bool (decide (List.getD x 31 0 > List.getD y 31 0)) = q1) (AV.bool false = q1))))))))))))))))))))))))))))))))) (by kernel_rfl) ?_
  conv => zeta
  iterate 32 refine beh_go (by omega) (by omega) bx yb hb fun hb => ?_
  rw [List.drop_eq_nil_of_le (by omega), List.drop_eq_nil_of_le (by omega)] at hb
  have h0 : cmpI [] [] = 0 := rfl
  simp [hb, h0, iteB]
theorem in45_ok (args : List AV) (h : Heap) (K : AV → Prop) (hl : inS inRight args h K) : CallsA PP 84 args h fun o h' => ∃ v, o = .ret v ∧ h' = h ∧ K v := by
  unfold inS at hl
  split at hl
  · rename_i n i w t a s
    obtain ⟨⟨h1, h2, h3, h4⟩, hK⟩ := need_ok hl
    exact outV_ev G0_ok rfl (rin45 ⟨n, i, w, t, a, s⟩ _ ⟨h1, h2, h3, h4⟩ rfl) (fun u hu => hu ▸ hK)
  · exact hl.elim
def behS : PSumm := fun args _ K => match args with
  | [.agg [.arr .u8 32 x], .agg [.arr .u8 32 y]] => (x.length = 32 ∧ y.length = 32) ∧ Bytes x ∧ Bytes y ∧ K (.bool (decide (cmpI x y > 0)))
  | _ => False
noncomputable def E35a : Env2 := G0.withP 128 behS
set_option maxRecDepth 100000 in
set_option maxHeartbeats 0 in
theorem rout46 (o : OutS) (b : Bool) (ho : o.Ok) (b1 : Bytes o.owner) (b2 : Bytes o.other) (hb : b = outRight o) :
    evF E35a 20 85 [.agg o.c] ⟨0, []⟩ (outV (fun v => v = .bool b)) := by
  refine @Eq.mpr _ (let q1 := o.kind;
 let q2 := q1 == 2;
 let q3 := decide (q1 ≥ 3);
 let q4 := o.delay;
 let q5 := decide (q4 = q4);
 let q6 := decide (q1 ≥ 4);
 let q7 := o.expiry;
 let q8 := decide (q7 = q7);
 let q9 := decide (q1 ≥ 1);
 let q10 := decide (q1 ≤ 5);
 let q11 := o.owner;
 let q12 := decide (List.length q11 = 32 ∧ List.length q11 = 32);
 let q13 := o.other;
 let q14 := decide (List.length q13 = 32 ∧ List.length q13 = 32);
 let q15 := o.point;
 let q16 := decide (List.length q15 = 32 ∧ List.length q15 = 32);
 let q17 := o.hash;
 let q18 := decide (List.length q17 = 32 ∧ List.length q17 = 32);
 let q19 := q1 == q1;
 let q20 := o.amount;
 let q21 := q20 == q20;
 let q22 := q11 == q11;
 let q23 := q13 == q13;
 let q24 := q15 == q15;
 let q25 := q17 == q17;
 let q26 := q4 == q4;
 let q27 := q7 == q7;
 let q28 := q24 && (q25 && (q26 && q27));
 let q29 := AV.bool b;
 let q30 := AV.bool false = q29;
 let q31 := iteB (decide (q20 > 0)) (iteB (decide (q20 ≥ 0)) (iteB (decide (q20 ≤ 1125899906842624)) (iteB (decide (q4 ≥ 0)) (iteB (decide (q4 ≤ 2147483647)) (iteB (decide (q7 ≥ 0)) (iteB (decide (q7 ≤ 2147483647)) (iteB q2 ((List.length q11 = 32 ∧ List.length q13 = 32) ∧ Bytes q11 ∧ Bytes q13 ∧ (AV.bool !decide (cmpI q11 q13 > 0)) = q29) (AV.bool true = q29)) q30) q30) q30) q30) q30) q30) q30;
 let q32 := decide (List.length q17 = 32 ∧ (32 : Nat) = 32);
 let q33 := q17 == zero32;
 let q34 := q7 == 0;
 let q35 := q24 && (q33 && (q26 && q34));
 let q36 := decide (List.length q15 = 32 ∧ (32 : Nat) = 32);
 let q37 := q15 == zero32;
 let q38 := q4 == 0;
 let q39 := q37 && (q25 && (q38 && q27));
 let q40 := q37 && (q33 && (q38 && q34));
 let q41 := iteB q3 (iteB q5 (iteB q6 (iteB q8 (iteB q9 (iteB q10 (iteB q12 (iteB q14 (iteB q16 (iteB q18 (iteB (q19 && (q21 && (q22 && (q23 && q28)))) q31 q30) False) False) False) False) q30) q30) False) (iteB q9 (iteB q10 (iteB q12 (iteB q14 (iteB q16 (iteB q32 (iteB (q19 && (q21 && (q22 && (q23 && q35)))) q31 q30) False) False) False) False) q30) q30)) False) (iteB q6 (iteB q8 (iteB q9 (iteB q10 (iteB q12 (iteB q14 (iteB q36 (iteB q18 (iteB (q19 && (q21 && (q22 && (q23 && q39)))) q31 q30) False) False) False) False) q30) q30) False) (iteB q9 (iteB q10 (iteB q12 (iteB q14 (iteB q36 (iteB q32 (iteB (q19 && (q21 && (q22 && (q23 && q40)))) q31 q30) False) False) False) False) q30) q30));
 let q42 := decide (List.length q13 = 32 ∧ (32 : Nat) = 32);
 let q43 := q13 == zero32;
 iteB q2 q41 (iteB (q1 == 4) q41 (iteB (q1 == 5) q41 (iteB q3 (iteB q5 (iteB q6 (iteB q8 (iteB q9 (iteB q10 (iteB q12 (iteB q42 (iteB q16 (iteB q18 (iteB (q19 && (q21 && (q22 && (q43 && q28)))) q31 q30) False) False) False) False) q30) q30) False) (iteB q9 (iteB q10 (iteB q12 (iteB q42 (iteB q16 (iteB q32 (iteB (q19 && (q21 && (q22 && (q43 && q35)))) q31 q30) False) False) False) False) q30) q30)) False) (iteB q6 (iteB q8 (iteB q9 (iteB q10 (iteB q12 (iteB q42 (iteB q36 (iteB q18 (iteB (q19 && (q21 && (q22 && (q43 && q39)))) q31 q30) False) False) False) False) q30) q30) False) (iteB q9 (iteB q10 (iteB q12 (iteB q42 (iteB q36 (iteB q32 (iteB (q19 && (q21 && (q22 && (q43 && q40)))) q31 q30) False) False) False) False) q30) q30)))))) (by kernel_rfl) ?_
  conv => zeta
  obtain ⟨h1, h2, h3, h4⟩ := ho
  subst hb
  have hz : [(0 : Int), 0, 0, 0, 0, 0, 0, 0, 0, 0, 0, 0, 0, 0, 0, 0, 0, 0, 0, 0, 0, 0, 0, 0, 0, 0, 0, 0, 0, 0, 0, 0] = zero32 := rfl
  simp only [hz, iteB_eq, need_eq]
  unfold outRight
  generalize (o.other == zero32) = bo
  generalize (o.point == zero32) = bp
  generalize (o.hash == zero32) = bh
  generalize cmpI o.owner o.other = cc
  by_cases k1 : o.kind = 1
  · cases bo <;> cases bp <;> cases bh <;> simp [k1, h1, h2, h3, h4, b1, b2] <;> first | omega | grind
  by_cases k2 : o.kind = 2
  · cases bp <;> cases bh <;> simp [k2, h1, h2, h3, h4, b1, b2] <;> first | omega | grind
  by_cases k3 : o.kind = 3
  · cases bo <;> cases bh <;> simp [k3, h1, h2, h3, h4, b1, b2] <;> first | omega | grind
  by_cases k4 : o.kind = 4
  · simp [k4, h1, h2, h3, h4, b1, b2] <;> first | omega | grind
  by_cases k5 : o.kind = 5
  · simp [k5, h1, h2, h3, h4, b1, b2] <;> first | omega | grind
  cases bo <;> cases bp <;> cases bh <;> simp [k1, k2, k3, k4, k5, h1, h2, h3, h4, b1, b2] <;> first | omega | grind
theorem beh96_ok (args : List AV) (h : Heap) (K : AV → Prop) (hl : behS args h K) : CallsA PP 128 args h fun o h' => ∃ v, o = .ret v ∧ h' = h ∧ K v := by
  unfold behS at hl
  split at hl
  · obtain ⟨⟨h1, h2⟩, b1, b2, hK⟩ := hl
    exact outV_ev G0_ok rfl (beh96 _ _ _ h1 h2 b1 b2 rfl) (fun u hu => hu ▸ hK)
  · exact hl.elim
theorem E35a_ok : E35a.Ok := Env2.withP_ok G0_ok beh96_ok
def out46S (R : OutS → Bool) : PSumm := fun args _ K => match args with
  | [.agg [.int .i64 kd, .int .i64 am, .arr .u8 32 ow, .arr .u8 32 ot, .arr .u8 32 po, .arr .u8 32 ha, .int .i64 de, .int .i64 ex]] => need (ow.length = 32 ∧ ot.length = 32 ∧ po.length = 32 ∧ ha.length = 32) ((Bytes ow ∧ Bytes ot) ∧ K (.bool (R ⟨kd, am, ow, ot, po, ha, de, ex⟩)))
  | _ => False
theorem out46_ok (args : List AV) (h : Heap) (K : AV → Prop) (hl : out46S outRight args h K) : CallsA PP 85 args h fun o h' => ∃ v, o = .ret v ∧ h' = h ∧ K v := by
  unfold out46S at hl
  split at hl
  · rename_i kd am ow ot po ha de ex
    obtain ⟨⟨h1, h2, h3, h4⟩, ⟨b1, b2⟩, hK⟩ := need_ok hl
    exact outV_ev E35a_ok rfl (rout46 ⟨kd, am, ow, ot, po, ha, de, ex⟩ _ ⟨h1, h2, h3, h4⟩ b1 b2 rfl) (fun u hu => hu ▸ hK)
  · exact hl.elim
noncomputable def E35 : Env2 := (G0.withP 84 (inS inRight)).withP 85 (out46S outRight)
theorem E35_ok : E35.Ok := Env2.withP_ok (Env2.withP_ok G0_ok in45_ok) out46_ok
end Go.Tk
end
section
namespace Go.Tk
def exLo {ι : Type} (S : ι → Nat → St → KE → Prop) : Nat → St → KE → Prop := fun k s X => ∃ i, S i k s X
theorem Env2.withL_ex {ι : Type} {G : Env2} (hG : G.Ok) {f : FuncId} {id : Nat} {S : ι → Nat → St → KE → Prop} (h1 : ∀ i, (G.withL f id (S i)).Ok) : (G.withL f id (exLo S)).Ok where
  draw := hG.draw
  psumm := hG.psumm
  fsumm := hG.fsumm
  lsumm := fun f' id' S' fn c body hS hf hb hm k s X hs => by
    have hS0 := hS
    simp only [Env2.withL] at hS
    split at hS
    · rename_i hq
      cases hS
      obtain ⟨i, hs⟩ := hs
      have a1 := (h1 i).lsumm f' id' (S i) fn c body
      simp only [Env2.withL, hq] at a1
      exact a1 trivial hf hb hm k s X hs
    · exact hG.lsumm f' id' S' fn c body hS hf hb hm k s X hs
def rgH (t : TxS) : Heap := ⟨1, [(0, .flat t.c)]⟩
def rgP : AV := .ptr (some ⟨0, 0, 0, 0, 0⟩)
def rgS0 (t : TxS) (i : Nat) : St := ⟨106, [(3, .int .i64 i), (1, rgP)], rgH t, []⟩
def rgS2 (t : TxS) (i k : Nat) : St := ⟨106, [(4, .int .i64 k), (3, .int .i64 i), (1, rgP)], rgH t, []⟩
def rgR (t : TxS) : St := ⟨106, [(2, .bool false), (1, rgP)], rgH t, []⟩
def rgE0 (t : TxS) : St := ⟨106, [(1, rgP)], rgH t, []⟩
def rgS4 (t : TxS) (i : Nat) (n : Int) : St := ⟨106, [(6, .int .i64 i), (5, .int .i64 n), (1, rgP)], rgH t, []⟩
def rgE4 (t : TxS) (n : Int) : St := ⟨106, [(5, .int .i64 n), (1, rgP)], rgH t, []⟩
set_option maxRecDepth 100000 in
set_option maxHeartbeats 0 in
theorem rg_2 (t : TxS) (i k : Nat) (Z1 Z2 Z3 : Prop) (hi : i < t.N) (hN : t.N ≤ 24) (hk : k ≤ i) (ht : t.Ok) (h1 : k < i → sameAt t.ins (t.ins i) k = false → Z1) (h2 : k = i → Z2) (h3 : k < i → sameAt t.ins (t.ins i) k = true → Z3) :
    roundE E35 20 44 2 0 (rgS2 t i k) (rdM 0 2 9 (rgS2 t i (k + 1)) (rgS0 t i) (rgR t) (rgR t) Z1 Z2 Z3 False) := by
  refine @Eq.mpr _ (let q1 := t.N;
 let q2 := (↑q1 : Int);
 let q3 := decide (0 ≤ (↑k : Int) ∧ (↑k : Int) < q2);
 let q4 := decide (0 ≤ (↑i : Int) ∧ (↑i : Int) < q2);
 let q5 := t.ins (Int.toNat (↑k : Int));
 let q6 := q5.name;
 let q7 := t.ins (Int.toNat (↑i : Int));
 let q8 := q7.name;
 let q9 := decide (t.num = t.num);
 let q10 := decide (q1 = q1);
 let q11 := inRows t.ins;
 let q12 := q11 = q11;
 let q13 := decide (t.M = t.M);
 let q14 := outRows t.outs;
 let q15 := q14 = q14;
 let q16 := decide ((↑i : Int) = (↑i : Int));
 let q17 := iteB (decide (IntKind.wrap IntKind.i64 ((↑k : Int) + 1) = (↑(k + 1) : Int))) (iteB q16 (iteB q9 (iteB q10 (q12 ∧ iteB q10 (iteB q13 (q15 ∧ iteB q13 Z1 False) False) False) False) False) False) False;
 iteB (decide ((↑k : Int) < (↑i : Int))) (iteB q3 (iteB q4 (iteB (decide (List.length q6 = 32 ∧ List.length q8 = 32)) (iteB (q6 == q8) (iteB q3 (iteB q4 (iteB (q5.index == q7.index) (iteB q9 (iteB q10 (q12 ∧ iteB q10 (iteB q13 (q15 ∧ iteB q13 Z3 False) False) False) False) False) q17) False) False) q17) False) False) False) (iteB q16 (iteB q9 (iteB q10 (q12 ∧ iteB q10 (iteB q13 (q15 ∧ iteB q13 Z2 False) False) False) False) False) False)) (by kernel_rfl) ?_
  conv => zeta
  try simp only [need_eq]
  try simp only [nope_eq]
  try simp only [iteD_eq]
  try simp only [iteT_eq]
  try simp only [iteF_eq]
  try simp only [iteE_eq]
  try simp only [Int.toNat_natCast, Nat.zero_add, true_and, and_true, Nat.le_refl]
  have e1 := (ht.ins i hi).name
  have e2 : k < t.N → (t.ins k).name.length = 32 := fun h => (ht.ins k h).name
  have hw : IntKind.i64.wrap ((k : Int) + 1) = ((k + 1 : Nat) : Int) := w64 (by omega)
  rw [hw]
  unfold sameAt sameO at h1 h3
  refine ⟨fun hlt => ?_, fun hge => ?_⟩
  · have hlt : k < i := by omega
    have h1 := h1 hlt
    have h3 := h3 hlt
    have e2 := e2 (by omega)
    refine ⟨by omega, by omega, ⟨e2, e1⟩, fun q1 => ⟨by omega, by omega, fun q2 => h3 (by rw [q1, q2]; rfl), fun q2 => ⟨rfl, h1 (by rw [q2, Bool.and_false])⟩⟩, fun q1 => ⟨rfl, h1 (by rw [q1, Bool.false_and])⟩⟩
  · simp [h2 (by omega)]
set_option maxRecDepth 100000 in
set_option maxHeartbeats 0 in
theorem rg_4 (t : TxS) (i : Nat) (n : Int) (Z1 Z2 Z3 : Prop) (hM : t.M ≤ 24) (hi : i ≤ t.M) (ht : t.Ok) (hn : 0 ≤ n ∧ n ≤ i * 1125899906842624) (hB : i < t.M → Bytes (t.outs i).owner ∧ Bytes (t.outs i).other) (h1 : i < t.M → outRight (t.outs i) = true → Z1) (h2 : i = t.M → Z2) (h3 : i < t.M → outRight (t.outs i) = false → Z3) :
    roundE E35 20 44 4 0 (rgS4 t i n) (rdM 0 4 9 (rgS4 t (i + 1) (n + (t.outs i).amount)) (rgE4 t n) (rgR t) (rgR t) Z1 Z2 Z3 False) := by
  refine @Eq.mpr _ (let q1 := t.M;
 let q2 := decide (0 ≤ (↑i : Int) ∧ (↑i : Int) < (↑q1 : Int));
 let q3 := t.outs (Int.toNat (↑i : Int));
 let q4 := q3.owner;
 let q5 := q3.other;
 let q6 := q3.point;
 let q7 := q3.hash;
 let q8 := q3.amount;
 let q9 := decide (t.num = t.num);
 let q10 := decide (t.N = t.N);
 let q11 := inRows t.ins;
 let q12 := q11 = q11;
 let q13 := decide (q1 = q1);
 let q14 := outRows t.outs;
 let q15 := q14 = q14;
 iteB (decide ((↑i : Int) < (↑q1 : Int))) (iteB q2 (iteB (decide (List.length q4 = 32 ∧ List.length q5 = 32 ∧ List.length q6 = 32 ∧ List.length q7 = 32)) ((Bytes q4 ∧ Bytes q5) ∧ iteB (!outRight (OutS.mk q3.kind q8 q4 q5 q6 q7 q3.delay q3.expiry)) (iteB q9 (iteB q10 (q12 ∧ iteB q10 (iteB q13 (q15 ∧ iteB q13 Z3 False) False) False) False) False) (iteB q2 (iteB (decide (IntKind.wrap IntKind.i64 ((↑i : Int) + 1) = (↑(i + 1) : Int))) (iteB (decide (IntKind.wrap IntKind.i64 (n + q8) = n + (t.outs i).amount)) (iteB q9 (iteB q10 (q12 ∧ iteB q10 (iteB q13 (q15 ∧ iteB q13 Z1 False) False) False) False) False) False) False) False)) False) False) (iteB (decide (n = n)) (iteB q9 (iteB q10 (q12 ∧ iteB q10 (iteB q13 (q15 ∧ iteB q13 Z2 False) False) False) False) False) False)) (by kernel_rfl) ?_
  conv => zeta
  try simp only [need_eq]
  try simp only [nope_eq]
  try simp only [iteD_eq]
  try simp only [iteT_eq]
  try simp only [iteF_eq]
  try simp only [iteE_eq]
  try simp only [Int.toNat_natCast, Nat.zero_add, true_and, and_true, Nat.le_refl]
  have hw : IntKind.i64.wrap ((i : Int) + 1) = ((i + 1 : Nat) : Int) := w64 (by omega)
  rw [hw]
  refine ⟨fun hlt => ?_, fun hge => ?_⟩
  · have hlt : i < t.M := by omega
    obtain ⟨e1, e2, e3, e4⟩ := ht.outs i hlt
    obtain ⟨b1, b2⟩ := hB hlt
    have h1 := h1 hlt
    have h3 := h3 hlt
    have hw2 : outRight (t.outs i) = true → IntKind.i64.wrap (n + (t.outs i).amount) = n + (t.outs i).amount := fun h => by
      have := (outRight_facts h).2
      exact w64 (by omega)
    refine ⟨by omega, ⟨e1, e2, e3, e4⟩, ⟨b1, b2⟩, fun q => h3 (by simpa using q), fun q => ⟨by omega, rfl, hw2 (by simpa using q), h1 (by simpa using q)⟩⟩
  · simp [h2 (by omega)]
noncomputable def E36a (t : TxS) : Env2 := E35.withL 44 2 (exLo fun i : Nat => goM 0 (rgS2 t i 0) (i < t.N ∧ t.N ≤ 24 ∧ t.Ok) (endsJ 2 i 9 (fun k => sameAt t.ins (t.ins i) k = false) (fun k => k = i) (fun k => k < i ∧ sameAt t.ins (t.ins i) k = true) (fun _ => False) (fun _ => rgS0 t i) (fun _ => rgR t) (fun _ => rgR t)))
theorem E36a_ok (t : TxS) : (E36a t).Ok :=
  Env2.withL_ex E35_ok fun i => Env2.withGoM (N := 20) E35_ok (by kernel_rfl) fun hC => ⟨rfl, fun k hk hgo => rg_2 t i k _ _ _ hC.1 hC.2.1 hk hC.2.2 (fun h1 h2 => ⟨h2, h1⟩) (fun h => h) (fun h1 h2 => ⟨h1, h2⟩)⟩
def okI (t : TxS) (i : Nat) : Bool := inRight (t.ins i) && !((List.range i).any (sameAt t.ins (t.ins i)))
set_option maxRecDepth 100000 in
set_option maxHeartbeats 0 in
theorem rg_0 (t : TxS) (i : Nat) (Z1 Z2 Z3 : Prop) (hi : i ≤ t.N) (hN : t.N ≤ 24) (ht : t.Ok) (h1 : i < t.N → okI t i = true → Z1) (h2 : i = t.N → Z2) (h3 : i < t.N → okI t i = false → Z3) :
    roundE (E36a t) 20 44 0 0 (rgS0 t i) (rdM 0 0 9 (rgS0 t (i + 1)) (rgE0 t) (rgR t) (rgR t) Z1 Z2 Z3 False) := by
  refine @Eq.mpr _ (let q1 := t.N;
 let q2 := t.ins (Int.toNat (↑i : Int));
 let q3 := q2.name;
 let q4 := q2.tag;
 let q5 := q2.also;
 let q6 := q2.secret;
 let q7 := decide (t.num = t.num);
 let q8 := decide (q1 = q1);
 let q9 := t.ins;
 let q10 := inRows q9;
 let q11 := q10 = q10;
 let q12 := decide (t.M = t.M);
 let q13 := outRows t.outs;
 let q14 := q13 = q13;
 let q15 := iteB q7 (iteB q8 (q11 ∧ iteB q8 (iteB q12 (q14 ∧ iteB q12 Z3 False) False) False) False) False;
 iteB (decide ((↑i : Int) < (↑q1 : Int))) (iteB (decide (0 ≤ (↑i : Int) ∧ (↑i : Int) < (↑q1 : Int))) (iteB (decide (List.length q3 = 32 ∧ List.length q4 = 32 ∧ List.length q5 = 32 ∧ List.length q6 = 32)) (iteB (!inRight (InS.mk q3 q2.index q2.way q4 q5 q6)) q15 (∃ (i_1 : Nat), iteB (decide ((↑i : Int) = (↑i_1 : Int))) (iteB q7 (iteB q8 (q11 ∧ iteB q8 (iteB q12 (q14 ∧ iteB q12 ((i_1 < q1 ∧ q1 ≤ 24 ∧ TxS.Ok t) ∧ ∀ (i_2 : Nat), i_2 ≤ i_1 → (∀ (j : Nat), j < i_2 → (fun (k : Nat) => sameAt q9 (q9 i_1) k = false) j) → (i_2 = i_1 → iteB (decide (IntKind.wrap IntKind.i64 ((↑i_1 : Int) + 1) = (↑(i + 1) : Int))) (iteB q7 (iteB q8 (q11 ∧ iteB q8 (iteB q12 (q14 ∧ iteB q12 Z1 False) False) False) False) False) False) ∧ (i_2 < i_1 ∧ sameAt q9 (q9 i_1) i_2 = true → q15) ∧ (False → iteB q7 (iteB q8 (q11 ∧ iteB q8 (iteB q12 (q14 ∧ iteB q12 False False) False) False) False) False)) False) False) False) False) False) False)) False) False)
 (iteB q7 (iteB q8 (q11 ∧ iteB q8 (iteB q12 (q14 ∧ iteB q12 Z2 False) False) False) False) False)) (by kernel_rfl) ?_
  conv => zeta
  try simp only [need_eq]
  try simp only [nope_eq]
  try simp only [iteD_eq]
  try simp only [iteT_eq]
  try simp only [iteF_eq]
  try simp only [iteE_eq]
  try simp only [Int.toNat_natCast, Nat.zero_add, true_and, and_true, Nat.le_refl]
  unfold okI at h1 h3
  refine ⟨fun hlt => ?_, fun hge => h2 (by omega)⟩
  have hlt : i < t.N := by omega
  obtain ⟨e1, e2, e3, e4⟩ := ht.ins i hlt
  have h1 := h1 hlt
  have h3 := h3 hlt
  refine ⟨by omega, ⟨e1, e2, e3, e4⟩, fun q => h3 ?_, fun q => ⟨i, rfl, ⟨hlt, hN, ht⟩, fun m hm hgo => ⟨fun hq => ⟨w64 (by omega), h1 ?_⟩, fun hq => h3 ?_, fun h => h⟩⟩⟩
  · have q : inRight (t.ins i) = false := by simpa using q
    rw [q, Bool.false_and]
  · subst hq
    have q : inRight (t.ins m) = true := by simpa using q
    rw [q, Bool.true_and]
    simp only [Bool.not_eq_true', List.any_eq_false, List.mem_range]
    intro j hj
    rw [hgo j hj]
    decide
  · have : (List.range i).any (sameAt t.ins (t.ins i)) = true := by
      rw [List.any_eq_true]
      exact ⟨m, by simpa using hq.1, hq.2⟩
    rw [this, Bool.not_true, Bool.and_false]
def sumO (t : TxS) (i : Nat) : Int := (amL t.outs i).sum
structure TxB (t : TxS) : Prop where
  h : ∀ i, i < t.M → Bytes (t.outs i).owner ∧ Bytes (t.outs i).other
theorem sumO_le {t : TxS} : ∀ i, (∀ j, j < i → outRight (t.outs j) = true) → 0 ≤ sumO t i ∧ sumO t i ≤ i * 1125899906842624
  | 0, _ => by simp [sumO, amL]
  | i + 1, h => by
    have h1 := sumO_le i (fun j hj => h j (by omega))
    have h2 := (outRight_facts (h i (by omega))).2.1
    have e : sumO t (i + 1) = sumO t i + (t.outs i).amount := by unfold sumO; rw [amL_succ]; simp
    omega
theorem sumO_succ (t : TxS) (i : Nat) : sumO t (i + 1) = sumO t i + (t.outs i).amount := by unfold sumO; rw [amL_succ]; simp
def rgL0 (t : TxS) : Nat → St → KE → Prop := goM 0 (rgS0 t 0) (t.N ≤ 24 ∧ t.Ok) (endsJ 0 t.N 9 (fun i => okI t i = true) (fun i => i = t.N) (fun i => i < t.N ∧ okI t i = false) (fun _ => False) (fun _ => rgE0 t) (fun _ => rgR t) (fun _ => rgR t))
def rgL4 (t : TxS) : Nat → St → KE → Prop := goM 0 (rgS4 t 0 0) (t.M ≤ 24 ∧ t.Ok ∧ TxB t) (endsJ 4 t.M 9 (fun i => outRight (t.outs i) = true) (fun i => i = t.M) (fun i => i < t.M ∧ outRight (t.outs i) = false) (fun _ => False) (fun i => rgE4 t (sumO t i)) (fun _ => rgR t) (fun _ => rgR t))
noncomputable def E36b (t : TxS) : Env2 := ((E36a t).withL 44 0 (rgL0 t)).withL 44 4
  (rgL4 t)
theorem E36b_ok (t : TxS) : (E36b t).Ok := by
  have h1 : ((E36a t).withL 44 0 (rgL0 t)).Ok :=
    Env2.withGoM (N := 20) (S := rgS0 t) (E36a_ok t) (by kernel_rfl) fun hC => ⟨rfl, fun i hi hgo => rg_0 t i _ _ _ hi hC.1 hC.2 (fun h1 h2 => ⟨h2, h1⟩) (fun h => h) (fun h1 h2 => ⟨h1, h2⟩)⟩
  have h2 : (E35.withL 44 4 (rgL4 t)).Ok := by
    refine Env2.withGoM (N := 20) (S := fun i => rgS4 t i (sumO t i)) E35_ok (by kernel_rfl) fun hC => ⟨by show rgS4 t 0 (sumO t 0) = _; unfold sumO amL; rfl, fun i hi hgo => ?_⟩
    show roundE E35 20 44 4 0 (rgS4 t i (sumO t i)) (rdM 0 4 9 (rgS4 t (i + 1) (sumO t (i + 1))) _ _ _ _ _ _ _)
    rw [sumO_succ]
    exact rg_4 t i (sumO t i) _ _ _ hC.1 hi hC.2.1 (sumO_le i hgo) (fun h => hC.2.2.h i h) (fun h1 h2 => ⟨h2, h1⟩) (fun h => h) (fun h1 h2 => ⟨h1, h2⟩)
  exact Env2.withL_join (H := E35) h1 rfl h2
def rightR (t : TxS) : Bool := decide (0 ≤ t.num ∧ t.num ≤ 2147483647) && decide (1 ≤ t.N ∧ t.N ≤ 24) && decide (1 ≤ t.M ∧ t.M ≤ 24) && (List.range t.N).all (okI t) && (List.range t.M).all (fun i => outRight (t.outs i)) && decide (sumO t t.M ≤ 1125899906842624)
set_option maxRecDepth 100000 in
set_option maxHeartbeats 0 in
theorem rg_t (t : TxS) (b : Bool) (ht : t.Ok) (hb : TxB t) (h : b = rightR t) :
    evF (E36b t) 20 44 [.agg t.c] ⟨0, []⟩ (outK 0 [] (.bool b) 0 []) := by
  refine @Eq.mpr _ (let q1 := t.num;
 let q2 := iteB (decide (false = b)) True False;
 let q3 := t.N;
 let q4 := (↑q3 : Int);
 let q5 := t.M;
 let q6 := (↑q5 : Int);
 let q7 := decide (q1 = q1);
 let q8 := decide (q3 = q3);
 let q9 := inRows t.ins;
 let q10 := q9 = q9;
 let q11 := decide (q5 = q5);
 let q12 := outRows t.outs;
 let q13 := q12 = q12;
 iteB (decide (q1 ≥ 0)) (iteB (!decide (q1 ≤ 2147483647)) q2 (iteB (decide (q4 < 1)) q2 (iteB (decide (q4 > 24)) q2 (iteB (decide (q6 < 1)) q2 (iteB (decide (q6 > 24)) q2 (iteB q7 (iteB q8 (q10 ∧ iteB q8 (iteB q11 (q13 ∧ iteB q11 ((q3 ≤ 24 ∧ TxS.Ok t) ∧ ∀ (i : Nat), i ≤ q3 → (∀ (j : Nat), j < i → (fun (i : Nat) => okI t i = true) j) → (i = q3 → iteB q7 (iteB q8 (q10 ∧ iteB q8 (iteB q11 (q13 ∧ iteB q11 ((q5 ≤ 24 ∧ TxS.Ok t ∧ TxB t) ∧ ∀ (i : Nat), i ≤ q5 → (∀ (j : Nat), j < i → (fun (i : Nat) => outRight (t.outs i) = true) j) → (i = q5 → iteB (decide (sumO t i ≥ 0)) (iteB (decide (decide (sumO t i ≤ 1125899906842624) = b)) True False) q2) ∧ (i < q5 ∧ outRight (t.outs i) = false → q2) ∧ (False → False)) False) False) False) False) False) ∧ (i < q3 ∧ okI t i = false → q2) ∧ (False → False)) False) False) False) False) False)))))) q2) (by kernel_rfl) ?_
  conv => zeta
  try simp only [need_eq]
  try simp only [nope_eq]
  try simp only [iteD_eq]
  try simp only [iteT_eq]
  try simp only [iteF_eq]
  try simp only [iteE_eq]
  try simp only [Int.toNat_natCast, Nat.zero_add, true_and, and_true, Nat.le_refl]
  subst h
  have hF : rightR t = false → false = rightR t := fun h => by rw [h]
  refine ⟨fun a1 => ⟨fun a2 => hF ?_, fun a2 => ⟨fun a3 => hF ?_, fun a3 => ⟨fun a4 => hF ?_, fun a4 => ⟨fun a5 => hF ?_, fun a5 => ⟨fun a6 => hF ?_, fun a6 => ⟨⟨by omega, ht⟩, fun i hi hgo => ⟨fun hq => ⟨⟨by omega, ht, hb⟩, fun m hm hgm => ⟨fun hr => ⟨fun a7 => ?_, fun a7 => ?_⟩, fun hr => hF ?_, fun h => h⟩⟩, fun hq => hF ?_, fun h => h⟩⟩⟩⟩⟩⟩⟩, fun a1 => hF ?_⟩
  · unfold rightR; rw [decide_eq_false (p := 0 ≤ t.num ∧ _) (by simp at a2; omega)]; simp
  · unfold rightR; rw [decide_eq_false (p := 1 ≤ t.N ∧ _) (by omega)]; simp
  · unfold rightR; rw [decide_eq_false (p := 1 ≤ t.N ∧ _) (by omega)]; simp
  · unfold rightR; rw [decide_eq_false (p := 1 ≤ t.M ∧ _) (by omega)]; simp
  · unfold rightR; rw [decide_eq_false (p := 1 ≤ t.M ∧ _) (by omega)]; simp
  · subst hq hr
    have e1 : (List.range t.N).all (okI t) = true := by
      rw [List.all_eq_true]; intro j hj; exact hgo j (by simpa using hj)
    have e2 : (List.range t.M).all (fun i => outRight (t.outs i)) = true := by
      rw [List.all_eq_true]; intro j hj; exact hgm j (by simpa using hj)
    unfold rightR
    rw [e1, e2, decide_eq_true (p := 0 ≤ t.num ∧ _) (by simp at a2; omega), decide_eq_true (p := 1 ≤ t.N ∧ _) (by omega), decide_eq_true (p := 1 ≤ t.M ∧ _) (by omega)]
    simp
  · exact absurd (sumO_le m hgm).1 a7
  · unfold rightR
    have : (List.range t.M).all (fun i => outRight (t.outs i)) = false := by
      rw [List.all_eq_false]; exact ⟨m, by simpa using hr.1, by simp [hr.2]⟩
    rw [this]; simp
  · unfold rightR
    have : (List.range t.N).all (okI t) = false := by
      rw [List.all_eq_false]; exact ⟨i, by simpa using hq.1, by simp [hq.2]⟩
    rw [this]; simp
  · unfold rightR; rw [decide_eq_false (p := 0 ≤ t.num ∧ _) (by omega)]; simp
theorem sameAt_iff {g : Nat → InS} {x : InS} {j : Nat} : sameAt g x j = true ↔ (g j).name = x.name ∧ (g j).index = x.index := by
  unfold sameAt sameO; simp
theorem twiceI_iff {N : Nat} {g : Nat → InS} {i : Nat} (hi : i < N) : twiceI N g (g i) = true ↔ ∃ j, j < N ∧ j ≠ i ∧ sameAt g (g i) j = true := by
  have hself : sameAt g (g i) i = true := sameAt_iff.2 ⟨rfl, rfl⟩
  unfold twiceI
  rcases findP_cases (sameAt g (g i)) N with ⟨_, hn⟩ | ⟨f, hf, ef, pf, hb⟩
  · rw [hn i hi] at hself; cases hself
  rcases findP_cases (sameAt (revI N g) (g i)) N with ⟨_, hn⟩ | ⟨l, hl, el, pl, hb'⟩
  · have := hn (N - 1 - i) (by omega)
    have e : sameAt (revI N g) (g i) (N - 1 - i) = sameAt g (g i) i := by unfold sameAt revI; congr 1; congr 1; omega
    rw [e, hself] at this; cases this
  have er : ∀ q, q < N → sameAt (revI N g) (g i) q = sameAt g (g i) (N - 1 - q) := fun q _ => rfl
  rw [er l hl] at pl
  rw [ef, el, bne_iff_ne]
  have hfi : f ≤ i := by
    rcases Nat.lt_or_ge i f with h | h
    · rw [hb i h] at hself; cases hself
    · exact h
  have hli : i ≤ N - 1 - l := by
    rcases Nat.lt_or_ge (N - 1 - i) l with h | h
    · have := hb' _ h
      rw [er _ (by omega), show N - 1 - (N - 1 - i) = i by omega, hself] at this; cases this
    · omega
  constructor
  · intro h
    rcases Nat.lt_or_ge f i with h1 | h1
    · exact ⟨f, hf, by omega, pf⟩
    · exact ⟨N - 1 - l, by omega, by omega, pl⟩
  · rintro ⟨j, hj, hne, pj⟩ h
    rcases Nat.lt_or_ge j f with h1 | h1
    · rw [hb j h1] at pj; cases pj
    · have := hb' (N - 1 - j) (by omega)
      rw [er _ (by omega), show N - 1 - (N - 1 - j) = j by omega, pj] at this; cases this
theorem allIn_amL {t : TxS} (h : ∀ j, j < t.M → outRight (t.outs j) = true) : allIn 1125899906842624 (amL t.outs t.M) = true := by
  unfold allIn
  rw [Bool.not_eq_true', List.any_eq_false]
  intro j hj
  have hj : j < t.M := by simpa [amL_len] using hj
  have := (outRight_facts (h j hj)).2.1
  have e : (amL t.outs t.M).getD j 0 = (t.outs j).amount := by simp [amL, List.getD_eq_getElem?_getD, hj]
  unfold overAt
  rw [e]
  unfold overI
  simp
  omega
theorem rightR_ck (t : TxS) : rightR t = ckTx addM t := by
  rw [Bool.eq_iff_iff]
  unfold rightR ckTx
  simp only [Bool.and_eq_true, decide_eq_true_eq, List.all_eq_true, List.mem_range, Bool.not_eq_true', List.any_eq_false, beq_iff_eq]
  constructor
  · rintro ⟨⟨⟨⟨⟨h1, h2⟩, h3⟩, h4⟩, h5⟩, h6⟩
    refine ⟨⟨⟨⟨⟨h1, h2⟩, h3⟩, fun i hi => ?_⟩, fun i hi => ?_⟩, ?_⟩
    · have h := h4 i hi
      unfold okI at h
      simp only [Bool.and_eq_true, Bool.not_eq_true', List.any_eq_false, List.mem_range] at h
      unfold wrongAt wrongI
      rw [h.1, Bool.not_true, Bool.false_or]
      intro hq
      obtain ⟨j, hj, hne, hs⟩ := (twiceI_iff hi).1 hq
      rcases Nat.lt_or_gt_of_ne hne with h0 | h0
      · exact h.2 j h0 hs
      · have h' := h4 j hj
        unfold okI at h'
        simp only [Bool.and_eq_true, Bool.not_eq_true', List.any_eq_false, List.mem_range] at h'
        refine h'.2 i h0 ?_
        rw [sameAt_iff] at hs ⊢
        exact ⟨hs.1.symm, hs.2.symm⟩
    · unfold wrongOAt wrongO
      rw [h5 i hi]
      decide
    · unfold addM
      unfold sumO at h6; rw [if_pos (allIn_amL h5), if_pos h6]
  · rintro ⟨⟨⟨⟨⟨h1, h2⟩, h3⟩, h4⟩, h5⟩, h6⟩
    have h5' : ∀ j, j < t.M → outRight (t.outs j) = true := fun j hj => by
      have := h5 j hj
      unfold wrongOAt wrongO at this
      simpa using this
    refine ⟨⟨⟨⟨⟨h1, h2⟩, h3⟩, fun i hi => ?_⟩, h5'⟩, ?_⟩
    · have h := h4 i hi
      unfold wrongAt wrongI at h
      simp only [Bool.or_eq_true, not_or, Bool.not_eq_true', Bool.not_eq_false, Bool.not_eq_true] at h
      unfold okI
      rw [h.1, Bool.true_and]
      simp only [Bool.not_eq_true', List.any_eq_false, List.mem_range]
      intro j hj hs
      have := (twiceI_iff hi).2 ⟨j, by omega, by omega, hs⟩
      rw [h.2] at this; cases this
    · unfold addM at h6
      rw [if_pos (allIn_amL h5')] at h6
      split at h6
      · assumption
      · cases h6
def rightS (A : List Int → Int × Int) : PSumm := fun args h K => viewL none h true 20 args fun a => match a with
  | [.agg l] => ∃ t, isTx l t ∧ t.Ok ∧ TxB t ∧ K (.bool (ckTx A t))
  | _ => False
theorem rightS_ok (args : List AV) (h : Heap) (K : AV → Prop) (hl : rightS addM args h K) : CallsA PP 44 args h fun o h' => ∃ v, o = .ret v ∧ h' = h ∧ K v := by
  refine Pure.psumm (d := 20) (viewL_weak _ _ _ _ _ hl fun a ha => ?_)
  split at ha
  · obtain ⟨t, h1, h2, h3, hK⟩ := ha
    refine ⟨_, (Pure.ev (E36b_ok t) (rg_t t _ h2 h3 rfl)).conv fun E r hr => hr.head (fun _ hc => h1.rel hc) (fun _ hc => hc), fun _ => rfl, ?_⟩
    rw [rightR_ck]
    exact hK
  · exact ha.elim
end Go.Tk
end
section
namespace Go.Tk
def smH (a b : TxS) : Heap := ⟨2, [(0, .flat a.c), (1, .flat b.c)]⟩
def smP (l : Tmps) : Tmps := l ++ [(2, .ptr (some ⟨0, 0, 0, 0, 0⟩)), (3, .ptr (some ⟨1, 0, 0, 0, 0⟩))]
def smS1 (a b : TxS) (i : Nat) : St := ⟨66, smP [(5, .int .i64 i)], smH a b, []⟩
def smS2 (a b : TxS) (i : Nat) : St := ⟨66, smP [(6, .int .i64 i)], smH a b, []⟩
def smE (a b : TxS) : St := ⟨66, smP [], smH a b, []⟩
def smR (a b : TxS) : St := ⟨66, smP [(4, .bool false)], smH a b, []⟩
set_option maxRecDepth 100000 in
set_option maxHeartbeats 0 in
theorem sm_1 (a b : TxS) (i : Nat) (Z1 Z2 Z3 : Prop) (ha : a.Ok) (hb : b.Ok) (hN : a.N = b.N) (hi : i ≤ a.N) (h1 : i < a.N → eqIn (a.ins i) (b.ins i) = true → Z1) (h2 : i = a.N → Z2) (h3 : i < a.N → eqIn (a.ins i) (b.ins i) = false → Z3) :
    roundE G0 20 16 0 0 (smS1 a b i) (rdM 0 0 9 (smS1 a b (i + 1)) (smE a b) (smR a b) (smR a b) Z1 Z2 Z3 False) := by
  refine @Eq.mpr _ (let q1 := a.N;
 let q2 := b.N;
 let q3 := a.ins (Int.toNat (↑i : Int));
 let q4 := q3.name;
 let q5 := b.ins (Int.toNat (↑i : Int));
 let q6 := q5.name;
 let q7 := q3.tag;
 let q8 := q5.tag;
 let q9 := q3.also;
 let q10 := q5.also;
 let q11 := q3.secret;
 let q12 := q5.secret;
 let q13 := decide (a.num = a.num);
 let q14 := decide (q1 = q1);
 let q15 := inRows a.ins;
 let q16 := q15 = q15;
 let q17 := decide (a.M = a.M);
 let q18 := outRows a.outs;
 let q19 := q18 = q18;
 let q20 := decide (b.num = b.num);
 let q21 := decide (q2 = q2);
 let q22 := inRows b.ins;
 let q23 := q22 = q22;
 let q24 := decide (b.M = b.M);
 let q25 := outRows b.outs;
 let q26 := q25 = q25;
 iteB (decide ((↑i : Int) < (↑q1 : Int)))
 (iteB (decide (0 ≤ (↑i : Int) ∧ (↑i : Int) < (↑q1 : Int))) (iteB (decide (0 ≤ (↑i : Int) ∧ (↑i : Int) < (↑q2 : Int))) (iteB (decide (List.length q4 = 32 ∧ List.length q6 = 32)) (iteB (decide (List.length q7 = 32 ∧ List.length q8 = 32)) (iteB (decide (List.length q9 = 32 ∧ List.length q10 = 32)) (iteB (decide (List.length q11 = 32 ∧ List.length q12 = 32)) (iteB (!(q4 == q6 && (q3.index == q5.index && (q3.way == q5.way && (q7 == q8 && (q9 == q10 && q11 == q12)))))) (iteB q13 (iteB q14 (q16 ∧ iteB q14 (iteB q17 (q19 ∧ iteB q17 (iteB q20 (iteB q21 (q23 ∧ iteB q21 (iteB q24 (q26 ∧ iteB q24 Z3 False) False) False) False) False) False) False) False) False) False) (iteB (decide (IntKind.wrap IntKind.i64 ((↑i : Int) + 1) = (↑(i + 1) : Int))) (iteB q13 (iteB q14 (q16 ∧ iteB q14 (iteB q17 (q19 ∧ iteB q17 (iteB q20 (iteB q21 (q23 ∧ iteB q21 (iteB q24 (q26 ∧ iteB q24 Z1 False) False) False) False) False) False) False) False) False) False) False)) False) False) False) False) False) False)
 (iteB q13 (iteB q14 (q16 ∧ iteB q14 (iteB q17 (q19 ∧ iteB q17 (iteB q20 (iteB q21 (q23 ∧ iteB q21 (iteB q24 (q26 ∧ iteB q24 Z2 False) False) False) False) False) False) False) False) False) False)) (by kernel_rfl) ?_
  conv => zeta
  try simp only [need_eq]
  try simp only [nope_eq]
  try simp only [iteD_eq]
  try simp only [iteT_eq]
  try simp only [iteF_eq]
  try simp only [iteE_eq]
  try simp only [Int.toNat_natCast, Nat.zero_add, true_and, and_true, Nat.le_refl]
  refine ⟨fun hlt => ?_, fun hge => h2 (by omega)⟩
  have hlt : i < a.N := by omega
  have h1 := h1 hlt
  have h3 := h3 hlt
  obtain ⟨e1, e2, e3, e4⟩ := ha.ins i hlt
  obtain ⟨d1, d2, d3, d4⟩ := hb.ins i (by omega)
  have hN0 := ha.n
  refine ⟨by omega, by omega, ⟨e1, d1⟩, ⟨e2, d2⟩, ⟨e3, d3⟩, ⟨e4, d4⟩, fun q => h3 ?_, fun q => ⟨w64 (by omega), h1 ?_⟩⟩
  · unfold eqIn
    rw [Bool.not_eq_true'] at q
    simp only [Bool.and_assoc]
    exact q
  · unfold eqIn
    rw [Bool.not_eq_false'] at q
    simp only [Bool.and_assoc]
    exact q
set_option maxRecDepth 100000 in
set_option maxHeartbeats 0 in
theorem sm_2 (a b : TxS) (i : Nat) (Z1 Z2 Z3 : Prop) (ha : a.Ok) (hb : b.Ok) (hN : a.M = b.M) (hi : i ≤ a.M) (h1 : i < a.M → eqOut (a.outs i) (b.outs i) = true → Z1) (h2 : i = a.M → Z2) (h3 : i < a.M → eqOut (a.outs i) (b.outs i) = false → Z3) :
    roundE G0 20 16 2 0 (smS2 a b i) (rdM 0 2 9 (smS2 a b (i + 1)) (smE a b) (smR a b) (smR a b) Z1 Z2 Z3 False) := by
  refine @Eq.mpr _ (let q1 := a.M;
 let q2 := b.M;
 let q3 := a.outs (Int.toNat (↑i : Int));
 let q4 := q3.owner;
 let q5 := b.outs (Int.toNat (↑i : Int));
 let q6 := q5.owner;
 let q7 := q3.other;
 let q8 := q5.other;
 let q9 := q3.point;
 let q10 := q5.point;
 let q11 := q3.hash;
 let q12 := q5.hash;
 let q13 := decide (a.num = a.num);
 let q14 := decide (a.N = a.N);
 let q15 := inRows a.ins;
 let q16 := q15 = q15;
 let q17 := decide (q1 = q1);
 let q18 := outRows a.outs;
 let q19 := q18 = q18;
 let q20 := decide (b.num = b.num);
 let q21 := decide (b.N = b.N);
 let q22 := inRows b.ins;
 let q23 := q22 = q22;
 let q24 := decide (q2 = q2);
 let q25 := outRows b.outs;
 let q26 := q25 = q25;
 iteB (decide ((↑i : Int) < (↑q1 : Int)))
 (iteB (decide (0 ≤ (↑i : Int) ∧ (↑i : Int) < (↑q1 : Int)))
 (iteB (decide (0 ≤ (↑i : Int) ∧ (↑i : Int) < (↑q2 : Int))) (iteB (decide (List.length q4 = 32 ∧ List.length q6 = 32)) (iteB (decide (List.length q7 = 32 ∧ List.length q8 = 32)) (iteB (decide (List.length q9 = 32 ∧ List.length q10 = 32)) (iteB (decide (List.length q11 = 32 ∧ List.length q12 = 32)) (iteB (!(q3.kind == q5.kind && (q3.amount == q5.amount && (q4 == q6 && (q7 == q8 && (q9 == q10 && (q11 == q12 && (q3.delay == q5.delay && q3.expiry == q5.expiry)))))))) (iteB q13 (iteB q14 (q16 ∧ iteB q14 (iteB q17 (q19 ∧ iteB q17 (iteB q20 (iteB q21 (q23 ∧ iteB q21 (iteB q24 (q26 ∧ iteB q24 Z3 False) False) False) False) False) False) False) False) False) False) (iteB (decide (IntKind.wrap IntKind.i64 ((↑i : Int) + 1) = (↑(i + 1) : Int))) (iteB q13 (iteB q14 (q16 ∧ iteB q14 (iteB q17 (q19 ∧ iteB q17 (iteB q20 (iteB q21 (q23 ∧ iteB q21 (iteB q24 (q26 ∧ iteB q24 Z1 False) False) False) False) False) False) False) False) False) False) False)) False) False) False) False) False) False)
 (iteB q13 (iteB q14 (q16 ∧ iteB q14 (iteB q17 (q19 ∧ iteB q17 (iteB q20 (iteB q21 (q23 ∧ iteB q21 (iteB q24 (q26 ∧ iteB q24 Z2 False) False) False) False) False) False) False) False) False) False)) (by kernel_rfl) ?_
  conv => zeta
  try simp only [need_eq]
  try simp only [nope_eq]
  try simp only [iteD_eq]
  try simp only [iteT_eq]
  try simp only [iteF_eq]
  try simp only [iteE_eq]
  try simp only [Int.toNat_natCast, Nat.zero_add, true_and, and_true, Nat.le_refl]
  refine ⟨fun hlt => ?_, fun hge => h2 (by omega)⟩
  have hlt : i < a.M := by omega
  have h1 := h1 hlt
  have h3 := h3 hlt
  obtain ⟨e1, e2, e3, e4⟩ := ha.outs i hlt
  obtain ⟨d1, d2, d3, d4⟩ := hb.outs i (by omega)
  have hN0 := ha.m
  refine ⟨by omega, by omega, ⟨e1, d1⟩, ⟨e2, d2⟩, ⟨e3, d3⟩, ⟨e4, d4⟩, fun q => h3 ?_, fun q => ⟨w64 (by omega), h1 ?_⟩⟩
  · unfold eqOut
    rw [Bool.not_eq_true'] at q
    simp only [Bool.and_assoc]
    exact q
  · unfold eqOut
    rw [Bool.not_eq_false'] at q
    simp only [Bool.and_assoc]
    exact q
def smL1 (a b : TxS) : Nat → St → KE → Prop := goM 0 (smS1 a b 0) (a.Ok ∧ b.Ok ∧ a.N = b.N) (endsJ 0 a.N 9 (fun i => eqIn (a.ins i) (b.ins i) = true) (fun i => i = a.N) (fun i => i < a.N ∧ eqIn (a.ins i) (b.ins i) = false) (fun _ => False) (fun _ => smE a b) (fun _ => smR a b) (fun _ => smR a b))
def smL2 (a b : TxS) : Nat → St → KE → Prop := goM 0 (smS2 a b 0) (a.Ok ∧ b.Ok ∧ a.M = b.M) (endsJ 2 a.M 9 (fun i => eqOut (a.outs i) (b.outs i) = true) (fun i => i = a.M) (fun i => i < a.M ∧ eqOut (a.outs i) (b.outs i) = false) (fun _ => False) (fun _ => smE a b) (fun _ => smR a b) (fun _ => smR a b))
noncomputable def E40 (a b : TxS) : Env2 := (G0.withL 16 0 (smL1 a b)).withL 16 2 (smL2 a b)
theorem E40_ok (a b : TxS) : (E40 a b).Ok := by
  have h1 : (G0.withL 16 0 (smL1 a b)).Ok := Env2.withGoM (N := 20) (S := smS1 a b) G0_ok (by kernel_rfl) fun hC => ⟨rfl, fun i hi hgo => sm_1 a b i _ _ _ hC.1 hC.2.1 hC.2.2 hi (fun h1 h2 => ⟨h2, h1⟩) (fun h => h) (fun h1 h2 => ⟨h1, h2⟩)⟩
  have h2 : (G0.withL 16 2 (smL2 a b)).Ok := Env2.withGoM (N := 20) (S := smS2 a b) G0_ok (by kernel_rfl) fun hC => ⟨rfl, fun i hi hgo => sm_2 a b i _ _ _ hC.1 hC.2.1 hC.2.2 hi (fun h1 h2 => ⟨h2, h1⟩) (fun h => h) (fun h1 h2 => ⟨h1, h2⟩)⟩
  exact Env2.withL_join (H := G0) h1 rfl h2
set_option maxRecDepth 100000 in
set_option maxHeartbeats 0 in
theorem sm_t (a b : TxS) (F : Bool) (ha : a.Ok) (hb : b.Ok) (hF : F = sameT a b) :
    evF (E40 a b) 20 16 [.agg a.c, .agg b.c] ⟨0, []⟩ (outK 0 [] (.bool F) 0 []) := by
  refine @Eq.mpr _ (let q1 := a.num;
 let q2 := b.num;
 let q3 := iteB (decide (false = F)) True False;
 let q4 := a.N;
 let q5 := b.N;
 let q6 := a.M;
 let q7 := b.M;
 let q8 := decide (q1 = q1);
 let q9 := decide (q4 = q4);
 let q10 := inRows a.ins;
 let q11 := q10 = q10;
 let q12 := decide (q6 = q6);
 let q13 := outRows a.outs;
 let q14 := q13 = q13;
 let q15 := decide (q2 = q2);
 let q16 := decide (q5 = q5);
 let q17 := inRows b.ins;
 let q18 := q17 = q17;
 let q19 := decide (q7 = q7);
 let q20 := outRows b.outs;
 let q21 := q20 = q20;
 iteB (q1 != q2) q3 (iteB ((↑q4 : Int) != (↑q5 : Int)) q3 (iteB ((↑q6 : Int) != (↑q7 : Int)) q3 (iteB q8 (iteB q9 (q11 ∧ iteB q9 (iteB q12 (q14 ∧ iteB q12 (iteB q15 (iteB q16 (q18 ∧ iteB q16 (iteB q19 (q21 ∧ iteB q19 ((TxS.Ok a ∧ TxS.Ok b ∧ q4 = q5) ∧ ∀ (i : Nat), i ≤ q4 → (∀ (j : Nat), j < i → (fun (i : Nat) => eqIn (a.ins i) (b.ins i) = true) j) → (i = q4 → iteB q8 (iteB q9 (q11 ∧ iteB q9 (iteB q12 (q14 ∧ iteB q12 (iteB q15 (iteB q16 (q18 ∧ iteB q16 (iteB q19 (q21 ∧ iteB q19 ((TxS.Ok a ∧ TxS.Ok b ∧ q6 = q7) ∧ ∀ (i : Nat), i ≤ q6 → (∀ (j : Nat), j < i → (fun (i : Nat) => eqOut (a.outs i) (b.outs i) = true) j) → (i = q6 → iteB (decide (true = F)) True False) ∧ (i < q6 ∧ eqOut (a.outs i) (b.outs i) = false → q3) ∧ (False → False)) False) False) False) False) False) False) False) False) False) False) ∧ (i < q4 ∧ eqIn (a.ins i) (b.ins i) = false → q3) ∧ (False → False)) False) False) False) False) False) False) False) False) False) False)))) (by kernel_rfl) ?_
  conv => zeta
  try simp only [need_eq]
  try simp only [nope_eq]
  try simp only [iteD_eq]
  try simp only [iteT_eq]
  try simp only [iteF_eq]
  try simp only [iteE_eq]
  try simp only [Int.toNat_natCast, Nat.zero_add, true_and, and_true, Nat.le_refl]
  have hn : a.num ≠ b.num → false = sameT a b := fun h => by
    unfold sameT; rw [beq_eq_false_iff_ne.2 h]; rfl
  have hi : eqiL a.N a.ins b.N b.ins = false → false = sameT a b := fun h => by
    unfold sameT; rw [h, Bool.false_and, Bool.and_false]
  have ho : eqoL a.M a.outs b.M b.outs = false → false = sameT a b := fun h => by
    unfold sameT; rw [h, Bool.and_false, Bool.and_false]
  subst hF
  refine ⟨fun h => hn (by simpa using h), fun h0 => ⟨fun h => hi ?_, fun h1 => ⟨fun h => ho ?_, fun h2 => ?_⟩⟩⟩
  · have h : a.N ≠ b.N := fun e => by rw [e] at h; simp at h
    unfold eqiL; rw [decide_eq_false h, Bool.false_and]
  · have h : a.M ≠ b.M := fun e => by rw [e] at h; simp at h
    unfold eqoL; rw [decide_eq_false h, Bool.false_and]
  have h0 : a.num = b.num := by simpa using h0
  have h1 : a.N = b.N := by have : (a.N : Int) = b.N := by simpa using h1
                            omega
  have h2 : a.M = b.M := by have : (a.M : Int) = b.M := by simpa using h2
                            omega
  refine ⟨⟨ha, hb, h1⟩, fun i hi' hgo => ⟨fun hx => ⟨⟨ha, hb, h2⟩, fun k hk hgo2 => ⟨fun hx2 => ?_, fun hx2 => ho ?_, fun h => h⟩⟩, fun hx => hi ?_, fun h => h⟩⟩
  · subst hx hx2
    have e1 : (List.range a.N).all (fun i => eqIn (a.ins i) (b.ins i)) = true := by
      rw [List.all_eq_true]; intro j hj; exact hgo j (by simpa using hj)
    have e2 : (List.range a.M).all (fun i => eqOut (a.outs i) (b.outs i)) = true := by
      rw [List.all_eq_true]; intro j hj; exact hgo2 j (by simpa using hj)
    unfold sameT eqiL eqoL
    rw [e1, e2, decide_eq_true h1, decide_eq_true h2, h0, beq_self_eq_true]; rfl
  · have e2 : (List.range a.M).all (fun i => eqOut (a.outs i) (b.outs i)) = false := by
      rw [List.all_eq_false]; exact ⟨k, by simpa using hx2.1, by simp [hx2.2]⟩
    unfold eqoL; rw [e2, Bool.and_false]
  · have e1 : (List.range a.N).all (fun i => eqIn (a.ins i) (b.ins i)) = false := by
      rw [List.all_eq_false]; exact ⟨i, by simpa using hx.1, by simp [hx.2]⟩
    unfold eqiL; rw [e1, Bool.and_false]
theorem samer_ok (args : List AV) (h : Heap) (K : AV → Prop) (hl : sametS sameT args h K) : CallsA PP 16 args h fun o h' => ∃ v, o = .ret v ∧ h' = h ∧ K v := by
  refine Pure.psumm (d := 20) (viewL_weak _ _ _ _ _ hl fun a ha => ?_)
  split at ha
  · obtain ⟨a, b, h1, h2, ⟨h3, h4⟩, hK⟩ := ha
    exact ⟨_, (Pure.ev (E40_ok a b) (sm_t a b _ h3 h4 rfl)).conv fun E r hr => hr.head (fun _ hc => h1.rel hc) (fun _ hc => hc.head (fun _ hc => h2.rel hc) (fun _ hc => hc)), fun _ => rfl, hK⟩
  · exact ha.elim
end Go.Tk
end
section
namespace Go.Tk
noncomputable def E44 (W : Int → List Int) : Env2 := G0.withF 168 (numRS W)
theorem E44_ok : (E44 numW).Ok := Env2.withF_ok G0_ok numRS_ok
def rbS (t : TxS) (core : Bool) (i : Nat) (xs : List Int) (n : Nat) : St := ⟨133, [(6, .int .i64 i), (2, .ptr (some ⟨0, 0, 0, 0, 0⟩)), (5, .nslice ⟨4, 0, 0, 0, 0⟩ 1 n n), (1, .bool core)], ⟨5, [(4, .ints .u8 xs), (0, .flat t.c)]⟩, []⟩
def rbR (t : TxS) (xs : List Int) (n : Nat) : St := ⟨133, [(2, .ptr (some ⟨0, 0, 0, 0, 0⟩)), (5, .nslice ⟨4, 0, 0, 0, 0⟩ 1 n n)], ⟨5, [(4, .ints .u8 xs), (0, .flat t.c)]⟩, []⟩
def rbS2 (t : TxS) (i : Nat) (xs : List Int) (n : Nat) : St := ⟨133, [(9, .int .i64 i), (2, .ptr (some ⟨0, 0, 0, 0, 0⟩)), (5, .nslice ⟨4, 0, 0, 0, 0⟩ 1 n n)], ⟨5, [(4, .ints .u8 xs), (0, .flat t.c)]⟩, []⟩
theorem take_dropZ0 (xs : List Int) : List.take xs.length (dropZ 0 xs) = xs := by rw [dropZ_eq, List.drop_zero, List.take_length]
set_option maxRecDepth 100000 in
set_option maxHeartbeats 0 in
theorem rbi_1 (W : Int → List Int) (t : TxS) (i : Nat) (xs ys : List Int) (n m : Nat) (Z1 Z2 : Prop) (ht : t.Ok) (hi : i ≤ t.N) (hr : ∀ j, j < t.N → inRight (t.ins j) = true) (hW : W = numW) (hn : xs.length = n) (hs : n < 10000000000000) (hy : ys = xs ++ inW W true (t.ins i)) (hm : ys.length = m) (h1 : i < t.N → Z1) (h2 : i = t.N → Z2) :
    roundE (E44 W) 20 87 0 0 (rbS t true i xs n) (rdM 0 0 9 (rbS t true (i + 1) ys m) (rbR t xs n) (rbR t xs n) (rbR t xs n) Z1 Z2 False False) := by
  refine @Eq.mpr _ (let q1 := t.N;
 let q2 := t.ins (Int.toNat (↑i : Int));
 let q3 := q2.name;
 let q4 := xs ++ q3;
 let q5 := List.length q4;
 let q6 := q2.index;
 let q7 := W q6;
 let q8 := List.length q7;
 let q9 := q4 ++ List.take q8 (dropZ 0 q7);
 let q10 := List.length q9;
 let q11 := decide (t.num = t.num);
 let q12 := decide (q1 = q1);
 let q13 := inRows t.ins;
 let q14 := q13 = q13;
 let q15 := decide (t.M = t.M);
 let q16 := outRows t.outs;
 let q17 := q16 = q16;
 iteB (decide ((↑i : Int) < (↑q1 : Int))) (iteB (decide (0 ≤ (↑i : Int) ∧ (↑i : Int) < (↑q1 : Int))) (iteB (decide (IntKind.u8 = IntKind.u8 ∧ List.length q3 = 32)) (iteB (decide (IntKind.u8 = IntKind.u8 ∧ List.length xs = n)) (iteB (decide (q5 * 1 ≤ 140737488355328)) (iteB (decide (q6 = q6)) (iteB (decide (0 ≤ q6)) (iteB (decide (IntKind.u8 = IntKind.u8 ∧ 0 + q8 ≤ q8)) (iteB (decide (IntKind.u8 = IntKind.u8 ∧ q5 = q5)) (iteB (decide (q10 * 1 ≤ 140737488355328)) (iteB (decide (IntKind.wrap IntKind.i64 ((↑i : Int) + 1) = (↑(i + 1) : Int))) (iteB (decide (q10 = m)) (iteB (decide (m ≤ q10)) (q9 = ys ∧ iteB q11 (iteB q12 (q14 ∧ iteB q12 (iteB q15 (q17 ∧ iteB q15 Z1 False) False) False) False) False) False) False) False) False) False) False) False) False) False) False) False) False) (iteB (decide (n = n)) (iteB (decide (n ≤ n)) (xs = xs ∧ iteB q11 (iteB q12 (q14 ∧ iteB q12 (iteB q15 (q17 ∧ iteB q15 Z2 False) False) False) False) False) False) False)) (by kernel_rfl) ?_
  conv => zeta
  try simp only [need_eq]
  try simp only [nope_eq]
  try simp only [iteD_eq]
  try simp only [iteT_eq]
  try simp only [iteF_eq]
  try simp only [iteE_eq]
  try simp only [Int.toNat_natCast, Nat.zero_add, true_and, and_true, Nat.le_refl]
  refine ⟨fun hlt => ?_, fun hge => h2 (by omega)⟩
  obtain ⟨⟨w1, w2⟩, w3, w4⟩ := inRight_way (hr i (by omega))
  obtain ⟨l1, l2, l3, l4⟩ := ht.ins i (by omega)
  have hw := h1 (by omega)
  have hnn := ht.n
  have hwr : IntKind.i64.wrap ((i : Int) + 1) = ((i + 1 : Nat) : Int) := w64 (by omega)
  have u1 := numW_len (t.ins i).index
  have u2 := numW_len (t.ins i).way
  subst hW
  rw [hwr]
  unfold inW at hy
  generalize t.ins i = x at *
  simp only [List.length_append, take_dropZ0]
  repeat' (first | (refine And.intro ?_ ?_) | intro _)
  all_goals (try simp only [beq_iff_eq, bne_iff_ne, ne_eq, beq_eq_false_iff_ne, bne_eq_false_iff_eq] at *)
  all_goals first | omega | assumption | trivial | skip
  all_goals first | (rw [hy]; simp [*]; done) | (rw [← hm, hy]; simp [*]; try omega; done) | skip
set_option maxRecDepth 100000 in
set_option maxHeartbeats 0 in
theorem rbi_2 (W : Int → List Int) (t : TxS) (i : Nat) (xs ys : List Int) (n m : Nat) (Z1 Z2 : Prop) (ht : t.Ok) (hi : i ≤ t.N) (hr : ∀ j, j < t.N → inRight (t.ins j) = true) (hW : W = numW) (hn : xs.length = n) (hs : n < 10000000000000) (hy : ys = xs ++ inW W false (t.ins i)) (hm : ys.length = m) (h1 : i < t.N → Z1) (h2 : i = t.N → Z2) :
    roundE (E44 W) 20 87 0 0 (rbS t false i xs n) (rdM 0 0 9 (rbS t false (i + 1) ys m) (rbR t xs n) (rbR t xs n) (rbR t xs n) Z1 Z2 False False) := by
  refine @Eq.mpr _ (let q1 := t.N;
 let q2 := t.ins (Int.toNat (↑i : Int));
 let q3 := q2.name;
 let q4 := xs ++ q3;
 let q5 := List.length q4;
 let q6 := q2.index;
 let q7 := W q6;
 let q8 := List.length q7;
 let q9 := q4 ++ List.take q8 (dropZ 0 q7);
 let q10 := List.length q9;
 let q11 := q2.way;
 let q12 := W q11;
 let q13 := List.length q12;
 let q14 := q9 ++ List.take q13 (dropZ 0 q12);
 let q15 := List.length q14;
 let q16 := q2.tag;
 let q17 := decide (IntKind.u8 = IntKind.u8 ∧ q15 = q15);
 let q18 := q14 ++ q16;
 let q19 := List.length q18;
 let q20 := q11 == 1;
 let q21 := q2.also;
 let q22 := decide (IntKind.u8 = IntKind.u8 ∧ List.length q21 = 32);
 let q23 := decide (IntKind.u8 = IntKind.u8 ∧ q19 = q19);
 let q24 := q18 ++ q21;
 let q25 := List.length q24;
 let q26 := q11 == 4;
 let q27 := q2.secret;
 let q28 := decide (IntKind.u8 = IntKind.u8 ∧ List.length q27 = 32);
 let q29 := q24 ++ q27;
 let q30 := List.length q29;
 let q31 := decide (IntKind.wrap IntKind.i64 ((↑i : Int) + 1) = (↑(i + 1) : Int));
 let q32 := decide (t.num = t.num);
 let q33 := decide (q1 = q1);
 let q34 := inRows t.ins;
 let q35 := q34 = q34;
 let q36 := decide (t.M = t.M);
 let q37 := outRows t.outs;
 let q38 := q37 = q37;
 let q39 := iteB q32 (iteB q33 (q35 ∧ iteB q33 (iteB q36 (q38 ∧ iteB q36 Z1 False) False) False) False) False;
 let q40 := iteB q28 (iteB (decide (IntKind.u8 = IntKind.u8 ∧ q25 = q25)) (iteB (decide (q30 * 1 ≤ 140737488355328)) (iteB q31 (iteB (decide (q30 = m)) (iteB (decide (m ≤ q30)) (q29 = ys ∧ q39) False) False) False) False) False) False;
 let q41 := q11 == 5;
 let q42 := q18 ++ q27;
 let q43 := List.length q42;
 let q44 := iteB q28 (iteB q23 (iteB (decide (q43 * 1 ≤ 140737488355328)) (iteB q31 (iteB (decide (q43 = m)) (iteB (decide (m ≤ q43)) (q42 = ys ∧ q39) False) False) False) False) False) False;
 let q45 := q14 ++ q21;
 let q46 := List.length q45;
 let q47 := q45 ++ q27;
 let q48 := List.length q47;
 let q49 := iteB q28 (iteB (decide (IntKind.u8 = IntKind.u8 ∧ q46 = q46)) (iteB (decide (q48 * 1 ≤ 140737488355328)) (iteB q31 (iteB (decide (q48 = m)) (iteB (decide (m ≤ q48)) (q47 = ys ∧ q39) False) False) False) False) False) False;
 let q50 := q14 ++ q27;
 let q51 := List.length q50;
 let q52 := iteB q28 (iteB q17 (iteB (decide (q51 * 1 ≤ 140737488355328)) (iteB q31 (iteB (decide (q51 = m)) (iteB (decide (m ≤ q51)) (q50 = ys ∧ q39) False) False) False) False) False) False;
 iteB (decide ((↑i : Int) < (↑q1 : Int)))
 (iteB (decide (0 ≤ (↑i : Int) ∧ (↑i : Int) < (↑q1 : Int)))
 (iteB (decide (IntKind.u8 = IntKind.u8 ∧ List.length q3 = 32))
 (iteB (decide (IntKind.u8 = IntKind.u8 ∧ List.length xs = n))
 (iteB (decide (q5 * 1 ≤ 140737488355328))
 (iteB (decide (q6 = q6))
 (iteB (decide (0 ≤ q6))
 (iteB (decide (IntKind.u8 = IntKind.u8 ∧ 0 + q8 ≤ q8))
 (iteB (decide (IntKind.u8 = IntKind.u8 ∧ q5 = q5))
 (iteB (decide (q10 * 1 ≤ 140737488355328))
 (iteB (decide (0 ≤ q11))
 (iteB (decide (IntKind.u8 = IntKind.u8 ∧ 0 + q13 ≤ q13))
 (iteB (decide (IntKind.u8 = IntKind.u8 ∧ q10 = q10)) (iteB (decide (q15 * 1 ≤ 140737488355328)) (iteB (q11 != 4) (iteB (decide (IntKind.u8 = IntKind.u8 ∧ List.length q16 = 32)) (iteB q17 (iteB (decide (q19 * 1 ≤ 140737488355328)) (iteB q20 (iteB q22 (iteB q23 (iteB (decide (q25 * 1 ≤ 140737488355328)) (iteB q26 q40 (iteB q41 q40 (iteB q31 (iteB (decide (q25 = m)) (iteB (decide (m ≤ q25)) (q24 = ys ∧ q39) False) False) False))) False) False) False) (iteB q26 q44 (iteB q41 q44 (iteB q31 (iteB (decide (q19 = m)) (iteB (decide (m ≤ q19)) (q18 = ys ∧ q39) False) False) False)))) False) False) False) (iteB q20 (iteB q22 (iteB q17 (iteB (decide (q46 * 1 ≤ 140737488355328)) (iteB q26 q49 (iteB q41 q49 (iteB q31 (iteB (decide (q46 = m)) (iteB (decide (m ≤ q46)) (q45 = ys ∧ q39) False) False) False))) False) False) False) (iteB q26 q52 (iteB q41 q52 (iteB q31 (iteB (decide (q15 = m)) (iteB (decide (m ≤ q15)) (q14 = ys ∧ q39) False) False) False))))) False) False) False)
 False)
 False)
 False)
 False)
 False)
 False)
 False)
 False)
 False)
 False)
 (iteB (decide (n = n)) (iteB (decide (n ≤ n)) (xs = xs ∧ iteB q32 (iteB q33 (q35 ∧ iteB q33 (iteB q36 (q38 ∧ iteB q36 Z2 False) False) False) False) False) False) False)) (by kernel_rfl) ?_
  conv => zeta
  try simp only [need_eq]
  try simp only [nope_eq]
  try simp only [iteD_eq]
  try simp only [iteT_eq]
  try simp only [iteF_eq]
  try simp only [iteE_eq]
  try simp only [Int.toNat_natCast, Nat.zero_add, true_and, and_true, Nat.le_refl]
  refine ⟨fun hlt => ?_, fun hge => h2 (by omega)⟩
  obtain ⟨⟨w1, w2⟩, w3, w4⟩ := inRight_way (hr i (by omega))
  obtain ⟨l1, l2, l3, l4⟩ := ht.ins i (by omega)
  have hw := h1 (by omega)
  have hnn := ht.n
  have hwr : IntKind.i64.wrap ((i : Int) + 1) = ((i + 1 : Nat) : Int) := w64 (by omega)
  have u1 := numW_len (t.ins i).index
  have u2 := numW_len (t.ins i).way
  subst hW
  rw [hwr]
  unfold inW at hy
  generalize t.ins i = x at *
  simp only [List.length_append, take_dropZ0]
  repeat' (first | (refine And.intro ?_ ?_) | intro _)
  all_goals (try simp only [beq_iff_eq, bne_iff_ne, ne_eq, beq_eq_false_iff_ne, bne_eq_false_iff_eq] at *)
  all_goals first | omega | assumption | trivial | skip
  all_goals first | (rw [hy]; simp [*]; done) | (rw [← hm, hy]; simp [*]; try omega; done) | skip
set_option maxRecDepth 100000 in
set_option maxHeartbeats 0 in
theorem rbo_1 (W : Int → List Int) (t : TxS) (i : Nat) (xs ys : List Int) (n m : Nat) (Z1 Z2 : Prop) (ht : t.Ok) (hi : i ≤ t.M) (hr : ∀ j, j < t.M → outRight (t.outs j) = true) (hW : W = numW) (hn : xs.length = n) (hs : n < 10000000000000) (hy : ys = xs ++ outW W (t.outs i)) (hm : ys.length = m) (h1 : i < t.M → Z1) (h2 : i = t.M → Z2) :
    roundE (E44 W) 20 87 2 0 (rbS2 t i xs n) (rdM 0 2 9 (rbS2 t (i + 1) ys m) (rbR t xs n) (rbR t xs n) (rbR t xs n) Z1 Z2 False False) := by
  refine @Eq.mpr _ (let q1 := t.M;
 let q2 := t.outs (Int.toNat (↑i : Int));
 let q3 := q2.kind;
 let q4 := W q3;
 let q5 := List.length q4;
 let q6 := xs ++ List.take q5 (dropZ 0 q4);
 let q7 := List.length q6;
 let q8 := q2.owner;
 let q9 := q8 = q8;
 let q10 := q2.amount;
 let q11 := W q10;
 let q12 := List.length q11;
 let q13 := q6 ++ List.take q12 (dropZ 0 q11);
 let q14 := List.length q13;
 let q15 := q13 ++ q8;
 let q16 := List.length q15;
 let q17 := q2.other;
 let q18 := decide (IntKind.u8 = IntKind.u8 ∧ List.length q17 = 32);
 let q19 := decide (IntKind.u8 = IntKind.u8 ∧ q16 = q16);
 let q20 := q15 ++ q17;
 let q21 := List.length q20;
 let q22 := decide (q21 * 1 ≤ 140737488355328);
 let q23 := decide (q3 ≥ 3);
 let q24 := q2.point;
 let q25 := decide (IntKind.u8 = IntKind.u8 ∧ List.length q24 = 32);
 let q26 := decide (IntKind.u8 = IntKind.u8 ∧ q21 = q21);
 let q27 := q20 ++ q24;
 let q28 := List.length q27;
 let q29 := decide (q28 * 1 ≤ 140737488355328);
 let q30 := decide (q3 ≥ 4);
 let q31 := q2.hash;
 let q32 := decide (IntKind.u8 = IntKind.u8 ∧ List.length q31 = 32);
 let q33 := decide (IntKind.u8 = IntKind.u8 ∧ q28 = q28);
 let q34 := q27 ++ q31;
 let q35 := List.length q34;
 let q36 := decide (q35 * 1 ≤ 140737488355328);
 let q37 := q2.delay;
 let q38 := decide (0 ≤ q37);
 let q39 := W q37;
 let q40 := List.length q39;
 let q41 := decide (IntKind.u8 = IntKind.u8 ∧ q35 = q35);
 let q42 := List.take q40 (dropZ 0 q39);
 let q43 := q34 ++ q42;
 let q44 := List.length q43;
 let q45 := q2.expiry;
 let q46 := decide (0 ≤ q45);
 let q47 := W q45;
 let q48 := List.length q47;
 let q49 := List.take q48 (dropZ 0 q47);
 let q50 := q43 ++ q49;
 let q51 := List.length q50;
 let q52 := decide (IntKind.wrap IntKind.i64 ((↑i : Int) + 1) = (↑(i + 1) : Int));
 let q53 := decide (t.num = t.num);
 let q54 := decide (t.N = t.N);
 let q55 := inRows t.ins;
 let q56 := q55 = q55;
 let q57 := decide (q1 = q1);
 let q58 := outRows t.outs;
 let q59 := q58 = q58;
 let q60 := iteB q53 (iteB q54 (q56 ∧ iteB q54 (iteB q57 (q59 ∧ iteB q57 Z1 False) False) False) False) False;
 let q61 := q50 = ys ∧ q60;
 let q62 := q43 = ys ∧ q60;
 let q63 := q34 ++ q49;
 let q64 := List.length q63;
 let q65 := q63 = ys ∧ q60;
 let q66 := iteB q52 (iteB (decide (q35 = m)) (iteB (decide (m ≤ q35)) (q34 = ys ∧ q60) False) False) False;
 let q67 := q27 ++ q42;
 let q68 := List.length q67;
 let q69 := q67 ++ q49;
 let q70 := List.length q69;
 let q71 := q69 = ys ∧ q60;
 let q72 := q67 = ys ∧ q60;
 let q73 := q27 ++ q49;
 let q74 := List.length q73;
 let q75 := q73 = ys ∧ q60;
 let q76 := iteB q52 (iteB (decide (q28 = m)) (iteB (decide (m ≤ q28)) (q27 = ys ∧ q60) False) False) False;
 let q77 := q20 ++ q31;
 let q78 := List.length q77;
 let q79 := decide (q78 * 1 ≤ 140737488355328);
 let q80 := decide (IntKind.u8 = IntKind.u8 ∧ q78 = q78);
 let q81 := q77 ++ q42;
 let q82 := List.length q81;
 let q83 := q81 ++ q49;
 let q84 := List.length q83;
 let q85 := q83 = ys ∧ q60;
 let q86 := q81 = ys ∧ q60;
 let q87 := q77 ++ q49;
 let q88 := List.length q87;
 let q89 := q87 = ys ∧ q60;
 let q90 := iteB q52 (iteB (decide (q78 = m)) (iteB (decide (m ≤ q78)) (q77 = ys ∧ q60) False) False) False;
 let q91 := q20 ++ q42;
 let q92 := List.length q91;
 let q93 := q91 ++ q49;
 let q94 := List.length q93;
 let q95 := q93 = ys ∧ q60;
 let q96 := q91 = ys ∧ q60;
 let q97 := q20 ++ q49;
 let q98 := List.length q97;
 let q99 := q97 = ys ∧ q60;
 let q100 := iteB q52 (iteB (decide (q21 = m)) (iteB (decide (m ≤ q21)) (q20 = ys ∧ q60) False) False) False;
 let q101 := q15 ++ q24;
 let q102 := List.length q101;
 let q103 := decide (IntKind.u8 = IntKind.u8 ∧ q102 = q102);
 let q104 := q101 ++ q31;
 let q105 := List.length q104;
 let q106 := decide (IntKind.u8 = IntKind.u8 ∧ q105 = q105);
 let q107 := q104 ++ q42;
 let q108 := List.length q107;
 let q109 := q107 ++ q49;
 let q110 := List.length q109;
 let q111 := q104 ++ q49;
 let q112 := List.length q111;
 let q113 := q101 ++ q42;
 let q114 := List.length q113;
 let q115 := q113 ++ q49;
 let q116 := List.length q115;
 let q117 := q101 ++ q49;
 let q118 := List.length q117;
 let q119 := q15 ++ q31;
 let q120 := List.length q119;
 let q121 := decide (IntKind.u8 = IntKind.u8 ∧ q120 = q120);
 let q122 := q119 ++ q42;
 let q123 := List.length q122;
 let q124 := q122 ++ q49;
 let q125 := List.length q124;
 let q126 := q119 ++ q49;
 let q127 := List.length q126;
 let q128 := q15 ++ q42;
 let q129 := List.length q128;
 let q130 := q128 ++ q49;
 let q131 := List.length q130;
 let q132 := q15 ++ q49;
 let q133 := List.length q132;
 iteB (decide ((↑i : Int) < (↑q1 : Int)))
 (iteB (decide (0 ≤ (↑i : Int) ∧ (↑i : Int) < (↑q1 : Int)))
 (iteB (decide (0 ≤ q3))
 (iteB (decide (IntKind.u8 = IntKind.u8 ∧ 0 + q5 ≤ q5))
 (iteB (decide (IntKind.u8 = IntKind.u8 ∧ List.length xs = n))
 (iteB (decide (q7 * 1 ≤ 140737488355328))
 (q9 ∧
 iteB (decide (q10 = q10))
 (iteB (decide (0 ≤ q10))
 (iteB (decide (IntKind.u8 = IntKind.u8 ∧ 0 + q12 ≤ q12))
 (iteB (decide (IntKind.u8 = IntKind.u8 ∧ q7 = q7))
 (iteB (decide (q14 * 1 ≤ 140737488355328))
 (q9 ∧
 iteB (decide (IntKind.u8 = IntKind.u8 ∧ List.length q8 = 32))
 (iteB (decide (IntKind.u8 = IntKind.u8 ∧ q14 = q14))
 (iteB (decide (q16 * 1 ≤ 140737488355328))
 (iteB (q3 == 2)
 (iteB q18
 (iteB q19
 (iteB q22
 (iteB q23
 (iteB q25
 (iteB q26
 (iteB q29
 (iteB q30 (iteB q32 (iteB q33 (iteB q36 (iteB q23 (iteB q38 (iteB (decide (IntKind.u8 = IntKind.u8 ∧ 0 + q40 ≤ q40)) (iteB q41 (iteB (decide (q44 * 1 ≤ 140737488355328)) (iteB q30 (iteB q46 (iteB (decide (IntKind.u8 = IntKind.u8 ∧ 0 + q48 ≤ q48)) (iteB (decide (IntKind.u8 = IntKind.u8 ∧ q44 = q44)) (iteB (decide (q51 * 1 ≤ 140737488355328)) (iteB q52 (iteB (decide (q51 = m)) (iteB (decide (m ≤ q51)) q61 False) False) False) False) False) False) False) (iteB q52 (iteB (decide (q44 = m)) (iteB (decide (m ≤ q44)) q62 False) False) False)) False) False) False) False) (iteB q30 (iteB q46 (iteB (decide (IntKind.u8 = IntKind.u8 ∧ 0 + q48 ≤ q48)) (iteB q41 (iteB (decide (q64 * 1 ≤ 140737488355328)) (iteB q52 (iteB (decide (q64 = m)) (iteB (decide (m ≤ q64)) q65 False) False) False) False) False) False) False) q66)) False) False) False)
 (iteB q23 (iteB q38 (iteB (decide (IntKind.u8 = IntKind.u8 ∧ 0 + q40 ≤ q40)) (iteB q33 (iteB (decide (q68 * 1 ≤ 140737488355328)) (iteB q30 (iteB q46 (iteB (decide (IntKind.u8 = IntKind.u8 ∧ 0 + q48 ≤ q48)) (iteB (decide (IntKind.u8 = IntKind.u8 ∧ q68 = q68)) (iteB (decide (q70 * 1 ≤ 140737488355328)) (iteB q52 (iteB (decide (q70 = m)) (iteB (decide (m ≤ q70)) q71 False) False) False) False) False) False) False) (iteB q52 (iteB (decide (q68 = m)) (iteB (decide (m ≤ q68)) q72 False) False) False)) False) False) False) False) (iteB q30 (iteB q46 (iteB (decide (IntKind.u8 = IntKind.u8 ∧ 0 + q48 ≤ q48)) (iteB q33 (iteB (decide (q74 * 1 ≤ 140737488355328)) (iteB q52 (iteB (decide (q74 = m)) (iteB (decide (m ≤ q74)) q75 False) False) False) False) False) False) False) q76)))
 False)
 False)
 False)
 (iteB q30 (iteB q32 (iteB q26 (iteB q79 (iteB q23 (iteB q38 (iteB (decide (IntKind.u8 = IntKind.u8 ∧ 0 + q40 ≤ q40)) (iteB q80 (iteB (decide (q82 * 1 ≤ 140737488355328)) (iteB q30 (iteB q46 (iteB (decide (IntKind.u8 = IntKind.u8 ∧ 0 + q48 ≤ q48)) (iteB (decide (IntKind.u8 = IntKind.u8 ∧ q82 = q82)) (iteB (decide (q84 * 1 ≤ 140737488355328)) (iteB q52 (iteB (decide (q84 = m)) (iteB (decide (m ≤ q84)) q85 False) False) False) False) False) False) False) (iteB q52 (iteB (decide (q82 = m)) (iteB (decide (m ≤ q82)) q86 False) False) False)) False) False) False) False) (iteB q30 (iteB q46 (iteB (decide (IntKind.u8 = IntKind.u8 ∧ 0 + q48 ≤ q48)) (iteB q80 (iteB (decide (q88 * 1 ≤ 140737488355328)) (iteB q52 (iteB (decide (q88 = m)) (iteB (decide (m ≤ q88)) q89 False) False) False) False) False) False) False) q90)) False) False) False)
 (iteB q23 (iteB q38 (iteB (decide (IntKind.u8 = IntKind.u8 ∧ 0 + q40 ≤ q40)) (iteB q26 (iteB (decide (q92 * 1 ≤ 140737488355328)) (iteB q30 (iteB q46 (iteB (decide (IntKind.u8 = IntKind.u8 ∧ 0 + q48 ≤ q48)) (iteB (decide (IntKind.u8 = IntKind.u8 ∧ q92 = q92)) (iteB (decide (q94 * 1 ≤ 140737488355328)) (iteB q52 (iteB (decide (q94 = m)) (iteB (decide (m ≤ q94)) q95 False) False) False) False) False) False) False) (iteB q52 (iteB (decide (q92 = m)) (iteB (decide (m ≤ q92)) q96 False) False) False)) False) False) False) False) (iteB q30 (iteB q46 (iteB (decide (IntKind.u8 = IntKind.u8 ∧ 0 + q48 ≤ q48)) (iteB q26 (iteB (decide (q98 * 1 ≤ 140737488355328)) (iteB q52 (iteB (decide (q98 = m)) (iteB (decide (m ≤ q98)) q99 False) False) False) False) False) False) False) q100))))
 False)
 False)
 False)
 (iteB (q3 == 4)
 (iteB q18
 (iteB q19
 (iteB q22
 (iteB q23
 (iteB q25
 (iteB q26
 (iteB q29
 (iteB q30 (iteB q32 (iteB q33 (iteB q36 (iteB q23 (iteB q38 (iteB (decide (IntKind.u8 = IntKind.u8 ∧ 0 + q40 ≤ q40)) (iteB q41 (iteB (decide (q44 * 1 ≤ 140737488355328)) (iteB q30 (iteB q46 (iteB (decide (IntKind.u8 = IntKind.u8 ∧ 0 + q48 ≤ q48)) (iteB (decide (IntKind.u8 = IntKind.u8 ∧ q44 = q44)) (iteB (decide (q51 * 1 ≤ 140737488355328)) (iteB q52 (iteB (decide (q51 = m)) (iteB (decide (m ≤ q51)) q61 False) False) False) False) False) False) False) (iteB q52 (iteB (decide (q44 = m)) (iteB (decide (m ≤ q44)) q62 False) False) False)) False) False) False) False) (iteB q30 (iteB q46 (iteB (decide (IntKind.u8 = IntKind.u8 ∧ 0 + q48 ≤ q48)) (iteB q41 (iteB (decide (q64 * 1 ≤ 140737488355328)) (iteB q52 (iteB (decide (q64 = m)) (iteB (decide (m ≤ q64)) q65 False) False) False) False) False) False) False) q66)) False) False) False)
 (iteB q23 (iteB q38 (iteB (decide (IntKind.u8 = IntKind.u8 ∧ 0 + q40 ≤ q40)) (iteB q33 (iteB (decide (q68 * 1 ≤ 140737488355328)) (iteB q30 (iteB q46 (iteB (decide (IntKind.u8 = IntKind.u8 ∧ 0 + q48 ≤ q48)) (iteB (decide (IntKind.u8 = IntKind.u8 ∧ q68 = q68)) (iteB (decide (q70 * 1 ≤ 140737488355328)) (iteB q52 (iteB (decide (q70 = m)) (iteB (decide (m ≤ q70)) q71 False) False) False) False) False) False) False) (iteB q52 (iteB (decide (q68 = m)) (iteB (decide (m ≤ q68)) q72 False) False) False)) False) False) False) False) (iteB q30 (iteB q46 (iteB (decide (IntKind.u8 = IntKind.u8 ∧ 0 + q48 ≤ q48)) (iteB q33 (iteB (decide (q74 * 1 ≤ 140737488355328)) (iteB q52 (iteB (decide (q74 = m)) (iteB (decide (m ≤ q74)) q75 False) False) False) False) False) False) False) q76)))
 False)
 False)
 False)
 (iteB q30 (iteB q32 (iteB q26 (iteB q79 (iteB q23 (iteB q38 (iteB (decide (IntKind.u8 = IntKind.u8 ∧ 0 + q40 ≤ q40)) (iteB q80 (iteB (decide (q82 * 1 ≤ 140737488355328)) (iteB q30 (iteB q46 (iteB (decide (IntKind.u8 = IntKind.u8 ∧ 0 + q48 ≤ q48)) (iteB (decide (IntKind.u8 = IntKind.u8 ∧ q82 = q82)) (iteB (decide (q84 * 1 ≤ 140737488355328)) (iteB q52 (iteB (decide (q84 = m)) (iteB (decide (m ≤ q84)) q85 False) False) False) False) False) False) False) (iteB q52 (iteB (decide (q82 = m)) (iteB (decide (m ≤ q82)) q86 False) False) False)) False) False) False) False) (iteB q30 (iteB q46 (iteB (decide (IntKind.u8 = IntKind.u8 ∧ 0 + q48 ≤ q48)) (iteB q80 (iteB (decide (q88 * 1 ≤ 140737488355328)) (iteB q52 (iteB (decide (q88 = m)) (iteB (decide (m ≤ q88)) q89 False) False) False) False) False) False) False) q90)) False) False) False)
 (iteB q23 (iteB q38 (iteB (decide (IntKind.u8 = IntKind.u8 ∧ 0 + q40 ≤ q40)) (iteB q26 (iteB (decide (q92 * 1 ≤ 140737488355328)) (iteB q30 (iteB q46 (iteB (decide (IntKind.u8 = IntKind.u8 ∧ 0 + q48 ≤ q48)) (iteB (decide (IntKind.u8 = IntKind.u8 ∧ q92 = q92)) (iteB (decide (q94 * 1 ≤ 140737488355328)) (iteB q52 (iteB (decide (q94 = m)) (iteB (decide (m ≤ q94)) q95 False) False) False) False) False) False) False) (iteB q52 (iteB (decide (q92 = m)) (iteB (decide (m ≤ q92)) q96 False) False) False)) False) False) False) False) (iteB q30 (iteB q46 (iteB (decide (IntKind.u8 = IntKind.u8 ∧ 0 + q48 ≤ q48)) (iteB q26 (iteB (decide (q98 * 1 ≤ 140737488355328)) (iteB q52 (iteB (decide (q98 = m)) (iteB (decide (m ≤ q98)) q99 False) False) False) False) False) False) False) q100))))
 False)
 False)
 False)
 (iteB (q3 == 5)
 (iteB q18
 (iteB q19
 (iteB q22
 (iteB q23
 (iteB q25
 (iteB q26
 (iteB q29
 (iteB q30 (iteB q32 (iteB q33 (iteB q36 (iteB q23 (iteB q38 (iteB (decide (IntKind.u8 = IntKind.u8 ∧ 0 + q40 ≤ q40)) (iteB q41 (iteB (decide (q44 * 1 ≤ 140737488355328)) (iteB q30 (iteB q46 (iteB (decide (IntKind.u8 = IntKind.u8 ∧ 0 + q48 ≤ q48)) (iteB (decide (IntKind.u8 = IntKind.u8 ∧ q44 = q44)) (iteB (decide (q51 * 1 ≤ 140737488355328)) (iteB q52 (iteB (decide (q51 = m)) (iteB (decide (m ≤ q51)) q61 False) False) False) False) False) False) False) (iteB q52 (iteB (decide (q44 = m)) (iteB (decide (m ≤ q44)) q62 False) False) False)) False) False) False) False) (iteB q30 (iteB q46 (iteB (decide (IntKind.u8 = IntKind.u8 ∧ 0 + q48 ≤ q48)) (iteB q41 (iteB (decide (q64 * 1 ≤ 140737488355328)) (iteB q52 (iteB (decide (q64 = m)) (iteB (decide (m ≤ q64)) q65 False) False) False) False) False) False) False) q66)) False) False) False)
 (iteB q23 (iteB q38 (iteB (decide (IntKind.u8 = IntKind.u8 ∧ 0 + q40 ≤ q40)) (iteB q33 (iteB (decide (q68 * 1 ≤ 140737488355328)) (iteB q30 (iteB q46 (iteB (decide (IntKind.u8 = IntKind.u8 ∧ 0 + q48 ≤ q48)) (iteB (decide (IntKind.u8 = IntKind.u8 ∧ q68 = q68)) (iteB (decide (q70 * 1 ≤ 140737488355328)) (iteB q52 (iteB (decide (q70 = m)) (iteB (decide (m ≤ q70)) q71 False) False) False) False) False) False) False) (iteB q52 (iteB (decide (q68 = m)) (iteB (decide (m ≤ q68)) q72 False) False) False)) False) False) False) False) (iteB q30 (iteB q46 (iteB (decide (IntKind.u8 = IntKind.u8 ∧ 0 + q48 ≤ q48)) (iteB q33 (iteB (decide (q74 * 1 ≤ 140737488355328)) (iteB q52 (iteB (decide (q74 = m)) (iteB (decide (m ≤ q74)) q75 False) False) False) False) False) False) False) q76)))
 False)
 False)
 False)
 (iteB q30 (iteB q32 (iteB q26 (iteB q79 (iteB q23 (iteB q38 (iteB (decide (IntKind.u8 = IntKind.u8 ∧ 0 + q40 ≤ q40)) (iteB q80 (iteB (decide (q82 * 1 ≤ 140737488355328)) (iteB q30 (iteB q46 (iteB (decide (IntKind.u8 = IntKind.u8 ∧ 0 + q48 ≤ q48)) (iteB (decide (IntKind.u8 = IntKind.u8 ∧ q82 = q82)) (iteB (decide (q84 * 1 ≤ 140737488355328)) (iteB q52 (iteB (decide (q84 = m)) (iteB (decide (m ≤ q84)) q85 False) False) False) False) False) False) False) (iteB q52 (iteB (decide (q82 = m)) (iteB (decide (m ≤ q82)) q86 False) False) False)) False) False) False) False) (iteB q30 (iteB q46 (iteB (decide (IntKind.u8 = IntKind.u8 ∧ 0 + q48 ≤ q48)) (iteB q80 (iteB (decide (q88 * 1 ≤ 140737488355328)) (iteB q52 (iteB (decide (q88 = m)) (iteB (decide (m ≤ q88)) q89 False) False) False) False) False) False) False) q90)) False) False) False)
 (iteB q23 (iteB q38 (iteB (decide (IntKind.u8 = IntKind.u8 ∧ 0 + q40 ≤ q40)) (iteB q26 (iteB (decide (q92 * 1 ≤ 140737488355328)) (iteB q30 (iteB q46 (iteB (decide (IntKind.u8 = IntKind.u8 ∧ 0 + q48 ≤ q48)) (iteB (decide (IntKind.u8 = IntKind.u8 ∧ q92 = q92)) (iteB (decide (q94 * 1 ≤ 140737488355328)) (iteB q52 (iteB (decide (q94 = m)) (iteB (decide (m ≤ q94)) q95 False) False) False) False) False) False) False) (iteB q52 (iteB (decide (q92 = m)) (iteB (decide (m ≤ q92)) q96 False) False) False)) False) False) False) False) (iteB q30 (iteB q46 (iteB (decide (IntKind.u8 = IntKind.u8 ∧ 0 + q48 ≤ q48)) (iteB q26 (iteB (decide (q98 * 1 ≤ 140737488355328)) (iteB q52 (iteB (decide (q98 = m)) (iteB (decide (m ≤ q98)) q99 False) False) False) False) False) False) False) q100))))
 False)
 False)
 False)
 (iteB q23
 (iteB q25
 (iteB q19
 (iteB (decide (q102 * 1 ≤ 140737488355328))
 (iteB q30
 (iteB q32
 (iteB q103 (iteB (decide (q105 * 1 ≤ 140737488355328)) (iteB q23 (iteB q38 (iteB (decide (IntKind.u8 = IntKind.u8 ∧ 0 + q40 ≤ q40)) (iteB q106 (iteB (decide (q108 * 1 ≤ 140737488355328)) (iteB q30 (iteB q46 (iteB (decide (IntKind.u8 = IntKind.u8 ∧ 0 + q48 ≤ q48)) (iteB (decide (IntKind.u8 = IntKind.u8 ∧ q108 = q108)) (iteB (decide (q110 * 1 ≤ 140737488355328)) (iteB q52 (iteB (decide (q110 = m)) (iteB (decide (m ≤ q110)) (q109 = ys ∧ q60) False) False) False) False) False) False) False) (iteB q52 (iteB (decide (q108 = m)) (iteB (decide (m ≤ q108)) (q107 = ys ∧ q60) False) False) False)) False) False) False) False) (iteB q30 (iteB q46 (iteB (decide (IntKind.u8 = IntKind.u8 ∧ 0 + q48 ≤ q48)) (iteB q106 (iteB (decide (q112 * 1 ≤ 140737488355328)) (iteB q52 (iteB (decide (q112 = m)) (iteB (decide (m ≤ q112)) (q111 = ys ∧ q60) False) False) False) False) False) False) False) (iteB q52 (iteB (decide (q105 = m)) (iteB (decide (m ≤ q105)) (q104 = ys ∧ q60) False) False) False))) False) False)
 False)
 (iteB q23 (iteB q38 (iteB (decide (IntKind.u8 = IntKind.u8 ∧ 0 + q40 ≤ q40)) (iteB q103 (iteB (decide (q114 * 1 ≤ 140737488355328)) (iteB q30 (iteB q46 (iteB (decide (IntKind.u8 = IntKind.u8 ∧ 0 + q48 ≤ q48)) (iteB (decide (IntKind.u8 = IntKind.u8 ∧ q114 = q114)) (iteB (decide (q116 * 1 ≤ 140737488355328)) (iteB q52 (iteB (decide (q116 = m)) (iteB (decide (m ≤ q116)) (q115 = ys ∧ q60) False) False) False) False) False) False) False) (iteB q52 (iteB (decide (q114 = m)) (iteB (decide (m ≤ q114)) (q113 = ys ∧ q60) False) False) False)) False) False) False) False) (iteB q30 (iteB q46 (iteB (decide (IntKind.u8 = IntKind.u8 ∧ 0 + q48 ≤ q48)) (iteB q103 (iteB (decide (q118 * 1 ≤ 140737488355328)) (iteB q52 (iteB (decide (q118 = m)) (iteB (decide (m ≤ q118)) (q117 = ys ∧ q60) False) False) False) False) False) False) False) (iteB q52 (iteB (decide (q102 = m)) (iteB (decide (m ≤ q102)) (q101 = ys ∧ q60) False) False) False))))
 False)
 False)
 False)
 (iteB q30
 (iteB q32
 (iteB q19 (iteB (decide (q120 * 1 ≤ 140737488355328)) (iteB q23 (iteB q38 (iteB (decide (IntKind.u8 = IntKind.u8 ∧ 0 + q40 ≤ q40)) (iteB q121 (iteB (decide (q123 * 1 ≤ 140737488355328)) (iteB q30 (iteB q46 (iteB (decide (IntKind.u8 = IntKind.u8 ∧ 0 + q48 ≤ q48)) (iteB (decide (IntKind.u8 = IntKind.u8 ∧ q123 = q123)) (iteB (decide (q125 * 1 ≤ 140737488355328)) (iteB q52 (iteB (decide (q125 = m)) (iteB (decide (m ≤ q125)) (q124 = ys ∧ q60) False) False) False) False) False) False) False) (iteB q52 (iteB (decide (q123 = m)) (iteB (decide (m ≤ q123)) (q122 = ys ∧ q60) False) False) False)) False) False) False) False) (iteB q30 (iteB q46 (iteB (decide (IntKind.u8 = IntKind.u8 ∧ 0 + q48 ≤ q48)) (iteB q121 (iteB (decide (q127 * 1 ≤ 140737488355328)) (iteB q52 (iteB (decide (q127 = m)) (iteB (decide (m ≤ q127)) (q126 = ys ∧ q60) False) False) False) False) False) False) False) (iteB q52 (iteB (decide (q120 = m)) (iteB (decide (m ≤ q120)) (q119 = ys ∧ q60) False) False) False))) False) False)
 False)
 (iteB q23 (iteB q38 (iteB (decide (IntKind.u8 = IntKind.u8 ∧ 0 + q40 ≤ q40)) (iteB q19 (iteB (decide (q129 * 1 ≤ 140737488355328)) (iteB q30 (iteB q46 (iteB (decide (IntKind.u8 = IntKind.u8 ∧ 0 + q48 ≤ q48)) (iteB (decide (IntKind.u8 = IntKind.u8 ∧ q129 = q129)) (iteB (decide (q131 * 1 ≤ 140737488355328)) (iteB q52 (iteB (decide (q131 = m)) (iteB (decide (m ≤ q131)) (q130 = ys ∧ q60) False) False) False) False) False) False) False) (iteB q52 (iteB (decide (q129 = m)) (iteB (decide (m ≤ q129)) (q128 = ys ∧ q60) False) False) False)) False) False) False) False) (iteB q30 (iteB q46 (iteB (decide (IntKind.u8 = IntKind.u8 ∧ 0 + q48 ≤ q48)) (iteB q19 (iteB (decide (q133 * 1 ≤ 140737488355328)) (iteB q52 (iteB (decide (q133 = m)) (iteB (decide (m ≤ q133)) (q132 = ys ∧ q60) False) False) False) False) False) False) False) (iteB q52 (iteB (decide (q16 = m)) (iteB (decide (m ≤ q16)) (q15 = ys ∧ q60) False) False) False))))))))
 False)
 False)
 False)
 False)
 False)
 False)
 False)
 False)
 False)
 False)
 False)
 False)
 False)
 (iteB (decide (n = n)) (iteB (decide (n ≤ n)) (xs = xs ∧ iteB q53 (iteB q54 (q56 ∧ iteB q54 (iteB q57 (q59 ∧ iteB q57 Z2 False) False) False) False) False) False) False)) (by kernel_rfl) ?_
  conv => zeta
  try simp only [need_eq]
  try simp only [nope_eq]
  try simp only [iteD_eq]
  try simp only [iteT_eq]
  try simp only [iteF_eq]
  try simp only [iteE_eq]
  try simp only [Int.toNat_natCast, Nat.zero_add, true_and, and_true, Nat.le_refl]
  refine ⟨fun hlt => ?_, fun hge => h2 (by omega)⟩
  obtain ⟨⟨w1, w2⟩, ⟨w3, w4⟩, ⟨w5, w6⟩, w7, w8⟩ := outRight_facts (hr i (by omega))
  obtain ⟨l1, l2, l3, l4⟩ := ht.outs i (by omega)
  have hw := h1 (by omega)
  have hnn := ht.m
  have hwr : IntKind.i64.wrap ((i : Int) + 1) = ((i + 1 : Nat) : Int) := w64 (by omega)
  have u1 := numW_len (t.outs i).kind
  have u2 := numW_len (t.outs i).amount
  have u3 := numW_len (t.outs i).delay
  have u4 := numW_len (t.outs i).expiry
  subst hW
  rw [hwr]
  unfold outW at hy
  generalize t.outs i = x at *
  simp only [List.length_append, take_dropZ0]
  repeat' (first | (refine And.intro ?_ ?_) | intro _)
  all_goals (try simp only [beq_iff_eq, bne_iff_ne, ne_eq, beq_eq_false_iff_ne, bne_eq_false_iff_eq] at *)
  all_goals first | omega | assumption | trivial | skip
  all_goals first | (rw [hy]; simp [*]; done) | (rw [← hm, hy]; simp [*]; try omega; done) | skip
noncomputable def E44c (W : Int → List Int) (t : TxS) (core : Bool) : Env2 :=
  (E44 W).withL 87 0 (goM 0 (rbS t core 0 (rawI W t core 0) (rawI W t core 0).length) t.Fine (endsJ 0 t.N 9 (fun i => i < t.N) (fun i => i = t.N) (fun _ => False) (fun _ => False) (fun i => rbR t (rawI W t core i) (rawI W t core i).length) (fun i => rbR t (rawI W t core i) (rawI W t core i).length) (fun i => rbR t (rawI W t core i) (rawI W t core i).length)))
noncomputable def E44d (W : Int → List Int) (t : TxS) (core : Bool) : Env2 :=
  (E44 W).withL 87 2 (goM 0 (rbS2 t 0 (rawO W t core 0) (rawO W t core 0).length) t.Fine (endsJ 2 t.M 9 (fun i => i < t.M) (fun i => i = t.M) (fun _ => False) (fun _ => False) (fun i => rbR t (rawO W t core i) (rawO W t core i).length) (fun i => rbR t (rawO W t core i) (rawO W t core i).length) (fun i => rbR t (rawO W t core i) (rawO W t core i).length)))
theorem E44c_ok (t : TxS) (core : Bool) : (E44c numW t core).Ok := by
  unfold E44c
  refine Env2.withGoM (N := 20) (S := fun i => rbS t core i (rawI numW t core i) (rawI numW t core i).length) E44_ok (by kernel_rfl) fun hC => ⟨rfl, fun i hi hgo => ?_⟩
  have h1 := rawI_len hC core hi
  cases core
  · exact rbi_2 numW t i (rawI numW t false i) (rawI numW t false (i + 1)) _ _ _ _ hC.ok hi hC.ins rfl rfl (by omega) (rawI_succ _ _ _ _) rfl (fun h => ⟨h, h⟩) (fun h => h)
  · exact rbi_1 numW t i (rawI numW t true i) (rawI numW t true (i + 1)) _ _ _ _ hC.ok hi hC.ins rfl rfl (by omega) (rawI_succ _ _ _ _) rfl (fun h => ⟨h, h⟩) (fun h => h)
theorem E44d_ok (t : TxS) (core : Bool) : (E44d numW t core).Ok := by
  unfold E44d
  refine Env2.withGoM (N := 20) (S := fun i => rbS2 t i (rawO numW t core i) (rawO numW t core i).length) E44_ok (by kernel_rfl) fun hC => ⟨rfl, fun i hi hgo => ?_⟩
  have h1 := rawO_len hC core hi
  exact rbo_1 numW t i (rawO numW t core i) (rawO numW t core (i + 1)) _ _ _ _ hC.ok hi hC.outs rfl rfl (by omega) (rawO_succ _ _ _ _) rfl (fun h => ⟨h, h⟩) (fun h => h)
noncomputable def E44b (W : Int → List Int) (t : TxS) (core : Bool) : Env2 :=
  (E44c W t core).withL 87 2 (goM 0 (rbS2 t 0 (rawO W t core 0) (rawO W t core 0).length) t.Fine (endsJ 2 t.M 9 (fun i => i < t.M) (fun i => i = t.M) (fun _ => False) (fun _ => False) (fun i => rbR t (rawO W t core i) (rawO W t core i).length) (fun i => rbR t (rawO W t core i) (rawO W t core i).length) (fun i => rbR t (rawO W t core i) (rawO W t core i).length)))
set_option maxRecDepth 100000 in
set_option maxHeartbeats 0 in
theorem bytesr_1 (W : Int → List Int) (t : TxS) (core : Bool) (ys : List Int) (L : Nat) (hW : W = numW) (ht : t.Fine) (hy : ys = rawT W t core) (hL : L = ys.length) :
    evF (E44b W t core) 20 87 [.agg t.c, .bool core] ⟨0, []⟩ (outM 0 (.ret (.nslice ⟨0, 0, 0, 0, 0⟩ 1 L L)) 1 [(0, .ints .u8 ys)]) := by
  refine @Eq.mpr _ (let q1 := t.num;
 let q2 := List.length (W q1);
 let q3 := [] ++ List.take q2 (dropZ 0 (W q1));
 let q4 := List.length q3;
 let q5 := t.N;
 let q6 := ↑q5;
 let q7 := decide (q5 = q5);
 let q8 := inRows t.ins;
 let q9 := q8 = q8;
 let q10 := W q6;
 let q11 := List.length q10;
 let q12 := q3 ++ List.take q11 (dropZ 0 q10);
 let q13 := List.length q12;
 let q14 := rawI W t core 0;
 let q15 := List.length q14;
 let q16 := decide (q1 = q1);
 let q17 := t.M;
 let q18 := decide (q17 = q17);
 let q19 := outRows t.outs;
 let q20 := q19 = q19;
 let q21 := W ↑q17;
 let q22 := List.length q21;
 let q23 := rawO W t core 0;
 let q24 := List.length q23;
 let q25 := (False → False) ∧ (False → False);
 iteB (decide (0 ≤ q1))
 (iteB (decide (IntKind.u8 = IntKind.u8 ∧ 0 + q2 ≤ q2))
 (iteB (decide (q4 * 1 ≤ 140737488355328))
 (iteB (decide (q6 = q6))
 (iteB q7
 (q9 ∧
 iteB q7
 (iteB (decide (IntKind.u8 = IntKind.u8 ∧ 0 + q11 ≤ q11))
 (iteB (decide (IntKind.u8 = IntKind.u8 ∧ q4 = q4))
 (iteB (decide (q13 * 1 ≤ 140737488355328))
 (iteB (decide (q13 = q15))
 (iteB (decide (q15 ≤ q13))
 (iteB (decide (core = core))
 (q12 = q14 ∧
 iteB q16
 (iteB q7
 (q9 ∧
 iteB q7
 (iteB q18
 (q20 ∧
 iteB q18
 (TxS.Fine t ∧
 ∀ (i : Nat),
 let q51 := rawI W t core i;
 let q52 := List.length q51;
 let q53 := q51 ++ List.take q22 (dropZ 0 q21);
 let q54 := List.length q53;
 i ≤ q5 →
 (∀ (j : Nat), j < i → (fun (i : Nat) => i < q5) j) →
 (i = q5 →
 iteB (decide (IntKind.u8 = IntKind.u8 ∧ 0 + q22 ≤ q22))
 (iteB (decide (IntKind.u8 = IntKind.u8 ∧ q52 = q52))
 (iteB (decide (q54 * 1 ≤ 140737488355328))
 (iteB (decide (q54 = q24))
 (iteB (decide (q24 ≤ q54))
 (q53 = q23 ∧
 iteB q16
 (iteB q7
 (q9 ∧
 iteB q7
 (iteB q18
 (q20 ∧
 iteB q18
 (TxS.Fine t ∧
 ∀ (i : Nat),
 let q59 := rawO W t core i;
 let q60 := List.length q59;
 i ≤ q17 → (∀ (j : Nat), j < i → (fun (i : Nat) => i < q17) j) → (i = q17 → iteB (decide (q60 = L)) (iteB (decide (L ≤ q60)) (q59 = ys ∧ True) False) False) ∧ q25)
 False)
 False)
 False)
 False)
 False)
 False)
 False)
 False)
 False)
 False) ∧
 q25)
 False)
 False)
 False)
 False)
 False)
 False)
 False)
 False)
 False)
 False)
 False)
 False)
 False)
 False)
 False)
 False)
 False) (by kernel_rfl) ?_
  conv => zeta
  try simp only [need_eq]
  try simp only [nope_eq]
  try simp only [iteD_eq]
  try simp only [iteT_eq]
  try simp only [iteF_eq]
  try simp only [iteE_eq]
  try simp only [Int.toNat_natCast, Nat.zero_add, true_and, and_true, Nat.le_refl]
  subst hW hy hL
  have e1 : numW t.num ++ numW ↑t.N = rawI numW t core 0 := by unfold rawI; simp [catL]
  have e2 : rawI numW t core t.N ++ numW ↑t.M = rawO numW t core 0 := by unfold rawO; simp [catL]
  have b1 := rawI_len ht core (Nat.le_refl t.N)
  have b2 := rawO_len ht core (Nat.le_refl t.M)
  have hN := ht.n
  have hM := ht.m
  have hq := ht.num
  simp only [take_dropZ0, List.nil_append, e1, Nat.mul_one]
  have b0 := rawI_len ht core (Nat.zero_le t.N)
  have c0 := rawO_len ht core (Nat.zero_le t.M)
  have d1 := numW_len t.num
  refine ⟨hq.1, by omega, by omega, trivial, Nat.le_refl _, trivial, ht, fun i hi _ => ⟨fun he => ?_, fun h => h, fun h => h⟩⟩
  subst he
  rw [e2]
  refine ⟨by omega, rfl, Nat.le_refl _, rfl, ht, fun i hi _ => ⟨fun he => ?_, fun h => h, fun h => h⟩⟩
  subst he
  exact ⟨rfl, Nat.le_refl _, rfl⟩
theorem E44b_ok (t : TxS) (core : Bool) : (E44b numW t core).Ok := by
  unfold E44b
  exact Env2.withL_join (G := E44c numW t core) (H := E44 numW) (E44c_ok t core) rfl (E44d_ok t core)
theorem bytesr_pure (t : TxS) (core : Bool) (ht : t.Fine) : Pure PP 87 [.agg t.c, .bool core] (.nslice ⟨0, 0, 0, 0, 0⟩ 1 (rawT numW t core).length (rawT numW t core).length) 1 [(0, .ints .u8 (rawT numW t core))] := .evM (E44b_ok t core) (bytesr_1 _ t core _ _ rfl ht rfl rfl)
theorem bytesrF_ok (args : List AV) (h : Heap) (K : KO) (hl : rawF (rawT numW) args h K) : CallsA PP 87 args h K := by
  refine Pure.fsumm (d := 20) (viewL_weak _ _ _ _ _ hl fun a ha => ?_)
  split at ha
  · obtain ⟨t, h1, h2, hK⟩ := ha
    exact ⟨_, _, _, _, (bytesr_pure t _ h2).conv fun E r hr => hr.head (fun _ hc => h1.rel hc) (fun _ hc => hc), rfl, ⟨Nat.one_pos, .ints _ _, trivial⟩, hK⟩
  · exact ha.elim
end Go.Tk
end
section
namespace Go.Tk
def inTy : List Ty := [.arr .u8 32, .int .i64, .int .i64, .arr .u8 32, .arr .u8 32, .arr .u8 32]
def outTy : List Ty := [.int .i64, .int .i64, .arr .u8 32, .arr .u8 32, .arr .u8 32, .arr .u8 32, .int .i64, .int .i64]
def txTy : List Ty := [.int .i64, .rows 130 inTy, .rows 132 outTy]
theorem bytes_of {n : Nat} {xs : List Int} (h : xs.length = n) (hw : ∀ i, i < n → (Lit.int .u8 (xs.getD i 0)).wf = true) : Bytes xs := ⟨fun i => by
  by_cases hi : i < n
  · have := hw i hi
    simp [Lit.wf] at this
    have m1 : IntKind.u8.min = 0 := rfl
    have m2 : IntKind.u8.max = 255 := rfl
    simp
    omega
  · rw [List.getD_eq_getElem?_getD, List.getElem?_eq_none (by omega)]; simp⟩
structure InS.By (x : InS) : Prop where
  name : Bytes x.name
  tag : Bytes x.tag
  also : Bytes x.also
  secret : Bytes x.secret
structure OutS.By (x : OutS) : Prop where
  owner : Bytes x.owner
  other : Bytes x.other
  point : Bytes x.point
  hash : Bytes x.hash
structure TxAll (t : TxS) : Prop where
  ins : ∀ i, i < t.N → (t.ins i).By
  outs : ∀ i, i < t.M → (t.outs i).By
theorem TxAll.b {t : TxS} (h : TxAll t) : TxB t := ⟨fun i hi => ⟨(h.outs i hi).owner, (h.outs i hi).other⟩⟩
theorem fits_in {l : List AV} (h : Fits inTy l) : ∃ x : InS, l = x.c ∧ x.Ok ∧ x.By := by
  unfold inTy at h
  cases h with | cons _ a _ u h1 h =>
  cases h with | cons _ b _ u h2 h =>
  cases h with | cons _ c _ u h3 h =>
  cases h with | cons _ d _ u h4 h =>
  cases h with | cons _ e _ u h5 h =>
  cases h with | cons _ f _ u h6 h =>
  cases h; cases h1; cases h2; cases h3; cases h4; cases h5; cases h6
  rename_i x1 l1 w1 x2 w2 x3 w3 x4 l4 w4 x5 l5 w5 x6 l6 w6
  exact ⟨⟨x1, x2, x3, x4, x5, x6⟩, rfl, ⟨l1, l4, l5, l6⟩, ⟨bytes_of l1 w1, bytes_of l4 w4, bytes_of l5 w5, bytes_of l6 w6⟩⟩
theorem fits_out {l : List AV} (h : Fits outTy l) : ∃ x : OutS, l = x.c ∧ x.Ok ∧ x.By := by
  unfold outTy at h
  cases h with | cons _ a _ u h1 h =>
  cases h with | cons _ b _ u h2 h =>
  cases h with | cons _ c _ u h3 h =>
  cases h with | cons _ d _ u h4 h =>
  cases h with | cons _ e _ u h5 h =>
  cases h with | cons _ f _ u h6 h =>
  cases h with | cons _ g _ u h7 h =>
  cases h with | cons _ i _ u h8 h =>
  cases h; cases h1; cases h2; cases h3; cases h4; cases h5; cases h6; cases h7; cases h8
  rename_i x1 w1 x2 w2 x3 l3 w3 x4 l4 w4 x5 l5 w5 x6 l6 w6 x7 w7 x8 w8
  exact ⟨⟨x1, x2, x3, x4, x5, x6, x7, x8⟩, rfl, ⟨l3, l4, l5, l6⟩, ⟨bytes_of l3 w3, bytes_of l4 w4, bytes_of l5 w5, bytes_of l6 w6⟩⟩
theorem pick {α : Type} [Inhabited α] {n : Nat} {p : Nat → α → Prop} (h : ∀ i, i < n → ∃ a, p i a) : ∃ f : Nat → α, ∀ i, i < n → p i (f i) :=
  ⟨fun i => if hi : i < n then Classical.choose (h i hi) else default, fun i hi => by
    simp only [hi, dite_true]
    exact Classical.choose_spec (h i hi)⟩
instance : Inhabited InS := ⟨inZ⟩
instance : Inhabited OutS := ⟨outZ⟩
theorem fits_tx {a : AV} (h : FitsA true txTy a) : ∃ (l : List AV) (t : TxS), a = .agg l ∧ isTx l t ∧ (t.N < 900000000000 → t.M < 900000000000 → t.Ok) ∧ TxAll t := by
  cases h with | agg _ u h =>
  unfold txTy at h
  cases h with | cons _ a _ u h1 h =>
  cases h with | cons _ b _ u h2 h =>
  cases h with | cons _ c _ u h3 h =>
  cases h; cases h1; cases h2; cases h3
  rename_i x1 w1 n f hn hf m g hm hg
  obtain ⟨ins, hi⟩ := pick fun i hi => fits_in (hf i hi)
  obtain ⟨outs, ho⟩ := pick fun i hi => fits_out (hg i hi)
  exact ⟨_, ⟨x1, n, ins, m, outs⟩, rfl, ⟨rfl, ⟨⟨rfl, rfl⟩, fun i h => (hi i h).1⟩, ⟨⟨rfl, rfl⟩, fun i h => (ho i h).1⟩⟩, fun h1 h2 => ⟨h1, h2, fun i h => (hi i h).2.1, fun i h => (ho i h).2.1⟩, ⟨fun i h => (hi i h).2.2, fun i h => (ho i h).2.2⟩⟩
theorem CallsA.conv {P : Program} {f : FuncId} {us bs : List AV} {h : Heap} {K : KO} (hc : CallsA P f bs h K) (hr : ∀ E rs, LRel E us rs → LRel E bs rs) : CallsA P f us h K :=
  fun E w rs he hl => hc E w rs he (hr E rs hl)
theorem Bytes.nil : Bytes [] := ⟨fun i => by simp⟩
theorem Bytes.cons {x : Int} {xs : List Int} (hx : 0 ≤ x ∧ x ≤ 255) (h : Bytes xs) : Bytes (x :: xs) := ⟨fun i => by
  cases i with
  | zero => simpa using hx
  | succ i => have := h.h i; simpa using this⟩
theorem Bytes.append {xs ys : List Int} (h : Bytes xs) (k : Bytes ys) : Bytes (xs ++ ys) := ⟨fun i => by
  rw [List.getD_eq_getElem?_getD, List.getElem?_append]
  split
  · have := h.h i; rwa [List.getD_eq_getElem?_getD] at this
  · have := k.h (i - xs.length); rwa [List.getD_eq_getElem?_getD] at this⟩
theorem Bytes.ite {p : Prop} [Decidable p] {xs ys : List Int} (h : Bytes xs) (k : Bytes ys) : Bytes (if p then xs else ys) := by split <;> assumption
theorem wu8r (x : Int) : 0 ≤ IntKind.u8.wrap x ∧ IntKind.u8.wrap x ≤ 255 := by
  unfold IntKind.wrap
  simp [IntKind.bits, IntKind.signed]
  omega
theorem numW_bytes (n : Int) : Bytes (numW n) := by
  have hb : ∀ k, 0 ≤ b8 n k ∧ b8 n k ≤ 255 := fun k => wu8r _
  unfold numW
  split
  · exact .cons (wu8r _) .nil
  split
  · exact .cons (by omega) (.cons (hb _) (.cons (hb _) .nil))
  split
  · exact .cons (by omega) (.cons (hb _) (.cons (hb _) (.cons (hb _) (.cons (hb _) .nil))))
  · exact .cons (by omega) (.cons (hb _) (.cons (hb _) (.cons (hb _) (.cons (hb _) (.cons (hb _) (.cons (hb _) (.cons (hb _) (.cons (hb _) .nil))))))))
theorem inW_bytes {x : InS} (h : x.By) (core : Bool) : Bytes (inW numW core x) := by
  unfold inW
  refine (h.name.append (numW_bytes _)).append ?_
  cases core
  · exact (numW_bytes _).append (((Bytes.nil.ite h.tag).append (h.also.ite .nil)).append (h.secret.ite .nil))
  · exact .nil
theorem outW_bytes {x : OutS} (h : x.By) : Bytes (outW numW x) := by
  unfold outW
  exact (((((((numW_bytes _).append (numW_bytes _)).append h.owner).append (h.other.ite .nil)).append (h.point.ite .nil)).append (h.hash.ite .nil)).append ((numW_bytes _).ite .nil)).append ((numW_bytes _).ite .nil)
theorem catL_bytes {f : Nat → List Int} : ∀ n, (∀ i, i < n → Bytes (f i)) → Bytes (catL f n)
  | 0, _ => .nil
  | n + 1, h => (catL_bytes n fun i hi => h i (by omega)).append (h n (by omega))
theorem rawT_bytes {t : TxS} (h : TxAll t) (core : Bool) : Bytes (rawT numW t core) := by
  unfold rawT rawO rawI
  exact ((((numW_bytes _).append (numW_bytes _)).append (catL_bytes _ fun i hi => inW_bytes (h.ins i hi) core)).append (numW_bytes _)).append (catL_bytes _ fun i hi => outW_bytes (h.outs i hi))
end Go.Tk
end
section
namespace Go.Tk
end Go.Tk
end
section
namespace Go.Tk
def mostO (a b c : Int) : Nat → Int
  | 0 => 0
  | i + 1 => if 2 ≤ IntKind.u32.wrap (IntKind.u32.wrap (Int.tmod (shrI .u32 a i) 2 + Int.tmod (shrI .u32 b i) 2) + Int.tmod (shrI .u32 c i) 2) then IntKind.u32.wrap (mostO a b c i + shlI .u32 1 i) else mostO a b c i
def pickO (a b c : Int) : Nat → Int
  | 0 => 0
  | i + 1 => IntKind.u32.wrap (pickO a b c i + shlI .u32 (if Int.tmod (shrI .u32 a i) 2 = 1 then Int.tmod (shrI .u32 b i) 2 else Int.tmod (shrI .u32 c i) 2) i)
def moS (a b c : Int) (o : Int) (i : Nat) : St := ⟨33, [(8, .int .u64 i), (0, .int .u32 a), (1, .int .u32 b), (2, .int .u32 c), (7, .int .u32 o)], ⟨0, []⟩, []⟩
def moR (o : Int) : St := ⟨33, [(7, .int .u32 o)], ⟨0, []⟩, []⟩
theorem wu64x {x : Int} (h : 0 ≤ x ∧ x < 18446744073709551616) : IntKind.u64.wrap x = x := by
  unfold IntKind.wrap
  simp [IntKind.bits, IntKind.signed]
  omega
set_option maxRecDepth 100000 in
set_option maxHeartbeats 0 in
theorem most_0 (a b c o o' : Int) (i : Nat) (Z1 Z2 : Prop) (hi : i ≤ 32) (ho : o' = if 2 ≤ IntKind.u32.wrap (IntKind.u32.wrap (Int.tmod (shrI .u32 a i) 2 + Int.tmod (shrI .u32 b i) 2) + Int.tmod (shrI .u32 c i) 2) then IntKind.u32.wrap (o + shlI .u32 1 i) else o) (h1 : i < 32 → Z1) (h2 : i = 32 → Z2) :
    roundE G0 20 176 0 0 (moS a b c o i) (rdM 0 0 9 (moS a b c o' (i + 1)) (moR o) (moR o) (moR o) Z1 Z2 False False) := by
  refine @Eq.mpr _ (let q1 := decide (IntKind.wrap IntKind.u64 ((↑i : Int) + 1) = (↑(i + 1) : Int));
 let q2 := decide (a = a);
 let q3 := decide (b = b);
 let q4 := decide (c = c);
 iteB (decide ((↑i : Int) < 32)) (iteB (decide (IntKind.wrap IntKind.u32 (IntKind.wrap IntKind.u32 (Int.tmod (shrI IntKind.u32 a (↑i : Int)) 2 + Int.tmod (shrI IntKind.u32 b (↑i : Int)) 2) + Int.tmod (shrI IntKind.u32 c (↑i : Int)) 2) ≥ 2)) (iteB q1 (iteB q2 (iteB q3 (iteB q4 (iteB (decide (IntKind.wrap IntKind.u32 (o + shlI IntKind.u32 1 (↑i : Int)) = o')) Z1 False) False) False) False) False) (iteB q1 (iteB q2 (iteB q3 (iteB q4 (iteB (decide (o = o')) Z1 False) False) False) False) False)) (iteB (decide (o = o)) Z2 False)) (by kernel_rfl) ?_
  conv => zeta
  try simp only [need_eq]
  try simp only [nope_eq]
  try simp only [iteD_eq]
  try simp only [iteT_eq]
  try simp only [iteF_eq]
  try simp only [iteE_eq]
  try simp only [Int.toNat_natCast, Nat.zero_add, true_and, and_true, Nat.le_refl]
  have hw : IntKind.u64.wrap ((i : Int) + 1) = ((i + 1 : Nat) : Int) := wu64x (by omega)
  refine ⟨fun hlt => ⟨fun hc => ?_, fun hc => ?_⟩, fun hge => h2 (by omega)⟩
  · rw [if_pos hc] at ho
    exact ⟨hw, ho.symm, h1 (by omega)⟩
  · rw [if_neg hc] at ho
    exact ⟨hw, ho.symm, h1 (by omega)⟩
set_option maxRecDepth 100000 in
set_option maxHeartbeats 0 in
theorem pick_0 (a b c o o' : Int) (i : Nat) (Z1 Z2 : Prop) (hi : i ≤ 32) (ho : o' = IntKind.u32.wrap (o + shlI .u32 (if Int.tmod (shrI .u32 a i) 2 = 1 then Int.tmod (shrI .u32 b i) 2 else Int.tmod (shrI .u32 c i) 2) i)) (h1 : i < 32 → Z1) (h2 : i = 32 → Z2) :
    roundE G0 20 175 0 0 (moS a b c o i) (rdM 0 0 9 (moS a b c o' (i + 1)) (moR o) (moR o) (moR o) Z1 Z2 False False) := by
  refine @Eq.mpr _ (let q1 := decide (IntKind.wrap IntKind.u64 ((↑i : Int) + 1) = (↑(i + 1) : Int));
 let q2 := decide (a = a);
 let q3 := decide (b = b);
 let q4 := decide (c = c);
 iteB (decide ((↑i : Int) < 32)) (iteB (Int.tmod (shrI IntKind.u32 a (↑i : Int)) 2 == 1) (iteB q1 (iteB q2 (iteB q3 (iteB q4 (iteB (decide (IntKind.wrap IntKind.u32 (o + shlI IntKind.u32 (Int.tmod (shrI IntKind.u32 b (↑i : Int)) 2) (↑i : Int)) = o')) Z1 False) False) False) False) False) (iteB q1 (iteB q2 (iteB q3 (iteB q4 (iteB (decide (IntKind.wrap IntKind.u32 (o + shlI IntKind.u32 (Int.tmod (shrI IntKind.u32 c (↑i : Int)) 2) (↑i : Int)) = o')) Z1 False) False) False) False) False)) (iteB (decide (o = o)) Z2 False)) (by kernel_rfl) ?_
  conv => zeta
  try simp only [need_eq]
  try simp only [nope_eq]
  try simp only [iteD_eq]
  try simp only [iteT_eq]
  try simp only [iteF_eq]
  try simp only [iteE_eq]
  try simp only [Int.toNat_natCast, Nat.zero_add, true_and, and_true, Nat.le_refl]
  have hw : IntKind.u64.wrap ((i : Int) + 1) = ((i + 1 : Nat) : Int) := wu64x (by omega)
  refine ⟨fun hlt => ⟨fun hc => ?_, fun hc => ?_⟩, fun hge => h2 (by omega)⟩
  · rw [if_pos (by simpa using hc)] at ho
    exact ⟨hw, ho.symm, h1 (by omega)⟩
  · rw [if_neg (by simpa using hc)] at ho
    exact ⟨hw, ho.symm, h1 (by omega)⟩
@[irreducible] def mostR (a b c : Int) : Int := mostO a b c 32
@[irreducible] def pickR (a b c : Int) : Int := pickO a b c 32
noncomputable def E53m (a b c : Int) : Env2 := G0.withL 176 0 (goM 0 (moS a b c 0 0) True (endsJ 0 32 9 (fun i => i < 32) (fun i => i = 32) (fun _ => False) (fun _ => False) (fun i => moR (mostO a b c i)) (fun i => moR (mostO a b c i)) (fun i => moR (mostO a b c i))))
theorem E53m_ok (a b c : Int) : (E53m a b c).Ok := by
  unfold E53m
  refine Env2.withGoM (N := 20) (S := fun i => moS a b c (mostO a b c i) i) G0_ok (by kernel_rfl) fun hC => ⟨rfl, fun i hi hgo => ?_⟩
  exact most_0 a b c (mostO a b c i) (mostO a b c (i + 1)) i _ _ hi rfl (fun h => ⟨h, h⟩) (fun h => h)
noncomputable def E53p (a b c : Int) : Env2 := G0.withL 175 0 (goM 0 (moS a b c 0 0) True (endsJ 0 32 9 (fun i => i < 32) (fun i => i = 32) (fun _ => False) (fun _ => False) (fun i => moR (pickO a b c i)) (fun i => moR (pickO a b c i)) (fun i => moR (pickO a b c i))))
theorem E53p_ok (a b c : Int) : (E53p a b c).Ok := by
  unfold E53p
  refine Env2.withGoM (N := 20) (S := fun i => moS a b c (pickO a b c i) i) G0_ok (by kernel_rfl) fun hC => ⟨rfl, fun i hi hgo => ?_⟩
  exact pick_0 a b c (pickO a b c i) (pickO a b c (i + 1)) i _ _ hi rfl (fun h => ⟨h, h⟩) (fun h => h)
set_option maxRecDepth 100000 in
set_option maxHeartbeats 0 in
theorem most_1 (a b c : Int) (o : Int) (ho : o = mostO a b c 32) :
    evF (E53m a b c) 20 176 [.int .u32 a, .int .u32 b, .int .u32 c] ⟨0, []⟩ (outK 0 [] (.int .u32 o) 0 []) := by
  refine @Eq.mpr _ (iteB (decide (a = a)) (iteB (decide (b = b)) (iteB (decide (c = c)) (True ∧ ∀ (i : Nat), i ≤ 32 → (∀ (j : Nat), j < i → (fun (i : Nat) => i < 32) j) → (i = 32 → iteB (decide (mostO a b c i = o)) True False) ∧ (False → False) ∧ (False → False)) False) False) False) (by kernel_rfl) ?_
  try simp only [need_eq]
  try simp only [nope_eq]
  try simp only [iteD_eq]
  try simp only [iteT_eq]
  try simp only [iteF_eq]
  try simp only [iteE_eq]
  try simp only [Int.toNat_natCast, Nat.zero_add, true_and, and_true, Nat.le_refl]
  subst ho
  exact fun i hi _ => ⟨fun he => by subst he; rfl, fun h => h, fun h => h⟩
set_option maxRecDepth 100000 in
set_option maxHeartbeats 0 in
theorem pick_1 (a b c : Int) (o : Int) (ho : o = pickO a b c 32) :
    evF (E53p a b c) 20 175 [.int .u32 a, .int .u32 b, .int .u32 c] ⟨0, []⟩ (outK 0 [] (.int .u32 o) 0 []) := by
  refine @Eq.mpr _ (iteB (decide (a = a)) (iteB (decide (b = b)) (iteB (decide (c = c)) (True ∧ ∀ (i : Nat), i ≤ 32 → (∀ (j : Nat), j < i → (fun (i : Nat) => i < 32) j) → (i = 32 → iteB (decide (pickO a b c i = o)) True False) ∧ (False → False) ∧ (False → False)) False) False) False) (by kernel_rfl) ?_
  try simp only [need_eq]
  try simp only [nope_eq]
  try simp only [iteD_eq]
  try simp only [iteT_eq]
  try simp only [iteF_eq]
  try simp only [iteE_eq]
  try simp only [Int.toNat_natCast, Nat.zero_add, true_and, and_true, Nat.le_refl]
  subst ho
  exact fun i hi _ => ⟨fun he => by subst he; rfl, fun h => h, fun h => h⟩
def three32 (F : Int → Int → Int → Int) : PSumm := fun args _ K => match args with
  | [.int .u32 a, .int .u32 b, .int .u32 c] => K (.int .u32 (F a b c))
  | _ => False
theorem three32_ok {f : FuncId} {F : Int → Int → Int → Int} (hp : ∀ a b c, Pure PP f [.int .u32 a, .int .u32 b, .int .u32 c] (.int .u32 (F a b c)) 0 []) (args : List AV) (h : Heap) (K : AV → Prop) (hl : three32 F args h K) : CallsA PP f args h fun o h' => ∃ v, o = .ret v ∧ h' = h ∧ K v := by
  unfold three32 at hl
  split at hl
  · rename_i a b c
    refine psumm_of (d := 20) (K0 := fun l => l = [.int .u32 a, .int .u32 b, .int .u32 c]) ?_ fun l e => ⟨_, by rw [e]; exact hp a b c, fun _ => rfl, hl⟩
    rfl
  · exact hl.elim
end Go.Tk
end
section
namespace Go.Tk
def sg3 (a b c : Int) (w : Int) : Int := bXor .u32 (bXor .u32 (rotI w (32 - a)) (rotI w (32 - b))) (rotI w (32 - c))
def rg3 (a b n : Int) (w : Int) : Int := bXor .u32 (bXor .u32 (rotI w (32 - a)) (rotI w (32 - b))) (shrI .u32 w n)
def refB (bl : List Int) (t : Nat) : Int := IntKind.u32.wrap (IntKind.u32.wrap (IntKind.u32.wrap (shlI .u32 (IntKind.u32.wrap (bl.getD (4 * t) 0)) 24 + shlI .u32 (IntKind.u32.wrap (bl.getD (4 * t + 1) 0)) 16) + shlI .u32 (IntKind.u32.wrap (bl.getD (4 * t + 2) 0)) 8) + IntKind.u32.wrap (bl.getD (4 * t + 3) 0))
def refW (m : List Int) (t : Nat) : Int := IntKind.u32.wrap (IntKind.u32.wrap (IntKind.u32.wrap (rg3 17 19 10 (m.getD (t - 2) 0) + m.getD (t - 7) 0) + rg3 7 18 3 (m.getD (t - 15) 0)) + m.getD (t - 16) 0)
def refM (bl : List Int) : Nat → List Int
  | 0 => List.replicate 64 0
  | t + 1 => (refM bl t).set t (if t < 16 then refB bl t else refW (refM bl t) t)
theorem refM_len (bl : List Int) : ∀ t, (refM bl t).length = 64
  | 0 => rfl
  | t + 1 => by simp [refM, refM_len bl t]
def prS (st bl m : List Int) (i : Nat) : St := ⟨146, [(6, .int .i64 i), (3, pt 1), (5, pt 3), (2, pt 0), (4, pt 2)], ⟨4, [(3, .flat [.arr .u32 64 m]), (2, .flat [.arr .u32 8 [0, 0, 0, 0, 0, 0, 0, 0]]), (1, .flat [.arr .u8 64 bl]), (0, .flat [.arr .u32 8 st])]⟩, []⟩
set_option maxRecDepth 100000 in
set_option maxHeartbeats 0 in
theorem pr_0 (st bl m m' : List Int) (i : Nat) (Z1 Z2 : Prop) (hi : i ≤ 64) (hm : m.length = 64) (hm' : m' = m.set i (if i < 16 then refB bl i else refW m i)) (h1 : i < 64 → Z1) (h2 : i = 64 → Z2) :
    roundE G0 20 138 0 0 (prS st bl m i) (rdM 0 0 9 (prS st bl m' (i + 1)) (prS st bl m i) (prS st bl m i) (prS st bl m i) Z1 Z2 False False) := by
  refine @Eq.mpr _ (let q1 := IntKind.wrap IntKind.i64 (4 * (↑i : Int));
 let q2 := 0 + Int.toNat q1;
 let q3 := IntKind.wrap IntKind.i64 (q1 + 1);
 let q4 := 0 + Int.toNat q3;
 let q5 := IntKind.wrap IntKind.i64 (q1 + 2);
 let q6 := 0 + Int.toNat q5;
 let q7 := IntKind.wrap IntKind.i64 (q1 + 3);
 let q8 := 0 + Int.toNat q7;
 let q9 := decide (0 ≤ (↑i : Int) ∧ (↑i : Int) < 64);
 let q10 := 0 + Int.toNat (↑i : Int);
 let q11 := decide (IntKind.u32 = IntKind.u32 ∧ q10 < 64 ∧ q10 < List.length m);
 let q12 := decide (IntKind.wrap IntKind.i64 ((↑i : Int) + 1) = (↑(i + 1) : Int));
 let q13 := [(0 : Int), 0, 0, 0, 0, 0, 0, 0];
 let q14 := q13 = q13;
 let q15 := q14 ∧ bl = bl ∧ st = st ∧ Z1;
 let q16 := IntKind.wrap IntKind.i64 ((↑i : Int) - 2);
 let q17 := 0 + Int.toNat q16;
 let q18 := IntKind.wrap IntKind.i64 ((↑i : Int) - 7);
 let q19 := 0 + Int.toNat q18;
 let q20 := decide (q19 < 64);
 let q21 := IntKind.wrap IntKind.i64 ((↑i : Int) - 15);
 let q22 := 0 + Int.toNat q21;
 let q23 := decide (q22 < 64);
 let q24 := IntKind.wrap IntKind.i64 ((↑i : Int) - 16);
 let q25 := 0 + Int.toNat q24;
 let q26 := decide (q25 < 64);
 let q27 := List.getD m q25 0;
 let q28 := decide (q27 = q27);
 let q29 := List.getD m q22 0;
 let q30 := List.getD m q19 0;
 let q31 := decide (q30 = q30);
 let q32 := List.getD m q17 0;
 iteB (decide ((↑i : Int) < 64))
 (iteB (decide ((↑i : Int) < 16)) (iteB (decide (0 ≤ q1 ∧ q1 < 64)) (iteB (decide (q2 < 64)) (iteB (decide (0 ≤ q3 ∧ q3 < 64)) (iteB (decide (q4 < 64)) (iteB (decide (0 ≤ q5 ∧ q5 < 64)) (iteB (decide (q6 < 64)) (iteB (decide (0 ≤ q7 ∧ q7 < 64)) (iteB (decide (q8 < 64)) (iteB q9 (iteB q11 (iteB q12 (List.set m q10 (IntKind.wrap IntKind.u32 (IntKind.wrap IntKind.u32 (IntKind.wrap IntKind.u32 (shlI IntKind.u32 (IntKind.wrap IntKind.u32 (List.getD bl q2 0)) 24 + shlI IntKind.u32 (IntKind.wrap IntKind.u32 (List.getD bl q4 0)) 16) + shlI IntKind.u32 (IntKind.wrap IntKind.u32 (List.getD bl q6 0)) 8) + IntKind.wrap IntKind.u32 (List.getD bl q8 0))) = m' ∧ q15) False) False) False) False) False) False) False) False) False) False) False)
 (iteB (decide (0 ≤ q16 ∧ q16 < 64))
 (iteB (decide (q17 < 64)) (iteB (decide (0 ≤ q18 ∧ q18 < 64)) (iteB q20 (iteB (decide (0 ≤ q21 ∧ q21 < 64)) (iteB q23 (iteB (decide (0 ≤ q24 ∧ q24 < 64)) (iteB q26 (iteB q26 (iteB q28 (iteB q23 (iteB (decide (q29 = q29)) (iteB q20 (iteB q31 (iteB q26 (iteB q28 (iteB q20 (iteB q31 (iteB q9 (iteB q11 (iteB q12 (List.set m q10 (IntKind.wrap IntKind.u32 (IntKind.wrap IntKind.u32 (IntKind.wrap IntKind.u32 (bXor IntKind.u32 (bXor IntKind.u32 (bOr IntKind.u32 (shlI IntKind.u32 q32 15) (shrI IntKind.u32 q32 17)) (bOr IntKind.u32 (shlI IntKind.u32 q32 13) (shrI IntKind.u32 q32 19))) (shrI IntKind.u32 q32 10) + q30) + bXor IntKind.u32 (bXor IntKind.u32 (bOr IntKind.u32 (shlI IntKind.u32 q29 25) (shrI IntKind.u32 q29 7)) (bOr IntKind.u32 (shlI IntKind.u32 q29 14) (shrI IntKind.u32 q29 18))) (shrI IntKind.u32 q29 3)) + q27)) = m' ∧ q15) False) False) False) False) False) False) False) False) False) False) False) False) False) False) False) False) False) False) False) False) False))
 (iteB (decide ((↑i : Int) = (↑i : Int))) (m = m ∧ q14 ∧ bl = bl ∧ st = st ∧ Z2) False)) (by kernel_rfl) ?_
  conv => zeta
  try simp only [need_eq]
  try simp only [nope_eq]
  try simp only [iteD_eq]
  try simp only [iteT_eq]
  try simp only [iteF_eq]
  try simp only [iteE_eq]
  try simp only [Int.toNat_natCast, Nat.zero_add, true_and, and_true, Nat.le_refl]
  have hw : IntKind.i64.wrap ((i : Int) + 1) = ((i + 1 : Nat) : Int) := w64 (by omega)
  refine ⟨fun hlt => ⟨fun h16 => ?_, fun h16 => ?_⟩, fun hge => h2 (by omega)⟩
  · have e0 : IntKind.i64.wrap (4 * (i : Int)) = ((4 * i : Nat) : Int) := by rw [w64 (by omega)]; omega
    have e1 : IntKind.i64.wrap (((4 * i : Nat) : Int) + 1) = ((4 * i + 1 : Nat) : Int) := by rw [w64 (by omega)]; omega
    have e2 : IntKind.i64.wrap (((4 * i : Nat) : Int) + 2) = ((4 * i + 2 : Nat) : Int) := by rw [w64 (by omega)]; omega
    have e3 : IntKind.i64.wrap (((4 * i : Nat) : Int) + 3) = ((4 * i + 3 : Nat) : Int) := by rw [w64 (by omega)]; omega
    rw [if_pos (by omega)] at hm'
    simp only [e0, e1, e2, e3, hw, Int.toNat_natCast]
    repeat' (first | (refine And.intro ?_ ?_) | intro _)
    all_goals first | omega | exact hm'.symm | exact h1 (by omega) | trivial
  · have e0 : IntKind.i64.wrap ((i : Int) - 2) = ((i - 2 : Nat) : Int) := by rw [w64 (by omega)]; omega
    have e1 : IntKind.i64.wrap ((i : Int) - 7) = ((i - 7 : Nat) : Int) := by rw [w64 (by omega)]; omega
    have e2 : IntKind.i64.wrap ((i : Int) - 15) = ((i - 15 : Nat) : Int) := by rw [w64 (by omega)]; omega
    have e3 : IntKind.i64.wrap ((i : Int) - 16) = ((i - 16 : Nat) : Int) := by rw [w64 (by omega)]; omega
    rw [if_neg (by omega)] at hm'
    simp only [e0, e1, e2, e3, hw, Int.toNat_natCast]
    repeat' (first | (refine And.intro ?_ ?_) | intro _)
    all_goals first | omega | exact hm'.symm | exact h1 (by omega) | trivial
noncomputable def E54a (st bl : List Int) : Env2 := G0.withL 138 0 (goM 0 (prS st bl (List.replicate 64 0) 0) True (endsJ 0 64 9 (fun i => i < 64) (fun i => i = 64) (fun _ => False) (fun _ => False) (fun i => prS st bl (refM bl i) i) (fun i => prS st bl (refM bl i) i) (fun i => prS st bl (refM bl i) i)))
theorem E54a_ok (st bl : List Int) : (E54a st bl).Ok := by
  unfold E54a
  refine Env2.withGoM (N := 20) (S := fun i => prS st bl (refM bl i) i) G0_ok (by kernel_rfl) fun hC => ⟨rfl, fun i hi hgo => ?_⟩
  exact pr_0 st bl (refM bl i) (refM bl (i + 1)) i _ _ hi (refM_len bl i) rfl (fun h => ⟨h, h⟩) (fun h => h)
noncomputable def E54 (M P : Int → Int → Int → Int) : Env2 := (G0.withP 176 (three32 M)).withP 175 (three32 P)
theorem E54_ok : (E54 mostR pickR).Ok := Env2.withP_ok (Env2.withP_ok G0_ok (three32_ok fun a b c => by unfold mostR; exact .ev (E53m_ok a b c) (most_1 a b c _ rfl))) (three32_ok fun a b c => by unfold pickR; exact .ev (E53p_ok a b c) (pick_1 a b c _ rfl))
def stepX (M P : Int → Int → Int → Int) (k m : Int) (x : List Int) : List Int :=
  let one := IntKind.u32.wrap (IntKind.u32.wrap (IntKind.u32.wrap (IntKind.u32.wrap (x.getD 7 0 + sg3 6 11 25 (x.getD 4 0)) + P (x.getD 4 0) (x.getD 5 0) (x.getD 6 0)) + k) + m)
  [IntKind.u32.wrap (one + IntKind.u32.wrap (sg3 2 13 22 (x.getD 0 0) + M (x.getD 0 0) (x.getD 1 0) (x.getD 2 0))), x.getD 0 0, x.getD 1 0, x.getD 2 0, IntKind.u32.wrap (x.getD 3 0 + one), x.getD 4 0, x.getD 5 0, x.getD 6 0]
def refX (M P : Int → Int → Int → Int) (m st : List Int) : Nat → List Int
  | 0 => st
  | t + 1 => stepX M P (shaK.getD t 0) (m.getD t 0) (refX M P m st t)
theorem refX_succ (M P : Int → Int → Int → Int) (m st : List Int) (t : Nat) : refX M P m st (t + 1) = stepX M P (shaK.getD t 0) (m.getD t 0) (refX M P m st t) := rfl
theorem refX_zero (M P : Int → Int → Int → Int) (m st : List Int) : refX M P m st 0 = st := rfl
theorem refX_len {M P : Int → Int → Int → Int} {m st : List Int} (h : st.length = 8) : ∀ t, (refX M P m st t).length = 8
  | 0 => h
  | _ + 1 => rfl
def prT (st k m x : List Int) (i : Nat) : St := ⟨146, [(9, .int .i64 i), (8, pt 6), (7, pt 5), (5, pt 3), (2, pt 0), (4, pt 2)], ⟨7, [(6, .flat [.arr .u32 8 x]), (5, .flat [.arr .u32 64 k]), (3, .flat [.arr .u32 64 m]), (2, .flat [.arr .u32 8 [0, 0, 0, 0, 0, 0, 0, 0]]), (0, .flat [.arr .u32 8 st])]⟩, []⟩
def prU (st x : List Int) : St := ⟨146, [(8, pt 6), (2, pt 0), (4, pt 2)], ⟨7, [(6, .flat [.arr .u32 8 x]), (2, .flat [.arr .u32 8 [0, 0, 0, 0, 0, 0, 0, 0]]), (0, .flat [.arr .u32 8 st])]⟩, []⟩
set_option maxRecDepth 100000 in
set_option maxHeartbeats 0 in
theorem pr_2 (M P : Int → Int → Int → Int) (st k m x' : List Int) (x0 x1 x2 x3 x4 x5 x6 x7 : Int) (i : Nat) (Z1 Z2 : Prop) (hi : i ≤ 64) (hx : x' = stepX M P (k.getD i 0) (m.getD i 0) [x0, x1, x2, x3, x4, x5, x6, x7]) (h1 : i < 64 → Z1) (h2 : i = 64 → Z2) :
    roundE (E54 M P) 20 138 2 0 (prT st k m [x0, x1, x2, x3, x4, x5, x6, x7] i) (rdM 0 2 9 (prT st k m x' (i + 1)) (prU st [x0, x1, x2, x3, x4, x5, x6, x7]) (prU st [x0, x1, x2, x3, x4, x5, x6, x7]) (prU st [x0, x1, x2, x3, x4, x5, x6, x7]) Z1 Z2 False False) := by
  refine @Eq.mpr _ (let q1 := decide (0 ≤ (↑i : Int) ∧ (↑i : Int) < 64);
 let q2 := 0 + Int.toNat (↑i : Int);
 let q3 := decide (q2 < 64);
 let q4 := decide (q2 < 64);
 let q5 := List.getD m q2 0;
 let q6 := List.getD k q2 0;
 let q7 := IntKind.wrap IntKind.u32 (IntKind.wrap IntKind.u32 (IntKind.wrap IntKind.u32 (IntKind.wrap IntKind.u32 (x7 + bXor IntKind.u32 (bXor IntKind.u32 (bOr IntKind.u32 (shlI IntKind.u32 x4 26) (shrI IntKind.u32 x4 6)) (bOr IntKind.u32 (shlI IntKind.u32 x4 21) (shrI IntKind.u32 x4 11))) (bOr IntKind.u32 (shlI IntKind.u32 x4 7) (shrI IntKind.u32 x4 25))) + P x4 x5 x6) + q6) + q5);
 let q8 := [(0 : Int), 0, 0, 0, 0, 0, 0, 0];
 let q9 := q8 = q8;
 let q10 := [x0, x1, x2, x3, x4, x5, x6, x7];
 iteB (decide ((↑i : Int) < 64)) (iteB q1 (iteB q3 (iteB q1 (iteB q4 (iteB q4 (iteB (decide (q5 = q5)) (iteB q3 (iteB (decide (q6 = q6)) (iteB (decide (x6 = x6)) (iteB (decide (x5 = x5)) (iteB (decide (x4 = x4)) (iteB (decide (x7 = x7)) (iteB (decide (x2 = x2)) (iteB (decide (x1 = x1)) (iteB (decide (x0 = x0)) (iteB (decide (IntKind.wrap IntKind.i64 ((↑i : Int) + 1) = (↑(i + 1) : Int))) ([IntKind.wrap IntKind.u32 (q7 + IntKind.wrap IntKind.u32 (bXor IntKind.u32 (bXor IntKind.u32 (bOr IntKind.u32 (shlI IntKind.u32 x0 30) (shrI IntKind.u32 x0 2)) (bOr IntKind.u32 (shlI IntKind.u32 x0 19) (shrI IntKind.u32 x0 13))) (bOr IntKind.u32 (shlI IntKind.u32 x0 10) (shrI IntKind.u32 x0 22)) + M x0 x1 x2)), x0, x1, x2, IntKind.wrap IntKind.u32 (x3 + q7), x4, x5, x6] = x' ∧ k = k ∧ m = m ∧ q9 ∧ st = st ∧ Z1) False) False) False) False) False) False) False) False) False) False) False) False) False) False) False) False) (q10 = q10 ∧ q9 ∧ st = st ∧ Z2)) (by kernel_rfl) ?_
  conv => zeta
  try simp only [need_eq]
  try simp only [nope_eq]
  try simp only [iteD_eq]
  try simp only [iteT_eq]
  try simp only [iteF_eq]
  try simp only [iteE_eq]
  try simp only [Int.toNat_natCast, Nat.zero_add, true_and, and_true, Nat.le_refl]
  have hw : IntKind.i64.wrap ((i : Int) + 1) = ((i + 1 : Nat) : Int) := w64 (by omega)
  refine ⟨fun hlt => ?_, fun hge => h2 (by omega)⟩
  rw [hw]
  repeat' (first | (refine And.intro ?_ ?_) | intro _)
  all_goals first | omega | exact hx.symm | exact h1 (by omega) | trivial
def prV (st x : List Int) (i : Nat) : St := ⟨146, [(12, .int .i64 i), (8, pt 6), (2, pt 0), (4, pt 2)], ⟨7, [(6, .flat [.arr .u32 8 x]), (2, .flat [.arr .u32 8 [0, 0, 0, 0, 0, 0, 0, 0]]), (0, .flat [.arr .u32 8 st])]⟩, []⟩
def refA (st x : List Int) : Nat → List Int
  | 0 => x
  | i + 1 => (refA st x i).set i (IntKind.u32.wrap ((refA st x i).getD i 0 + st.getD i 0))
theorem refA_len {st x : List Int} (h : x.length = 8) : ∀ i, (refA st x i).length = 8
  | 0 => h
  | i + 1 => by simp [refA, refA_len h i]
set_option maxRecDepth 100000 in
set_option maxHeartbeats 0 in
theorem pr_4 (st x x' : List Int) (i : Nat) (Z1 Z2 : Prop) (hi : i ≤ 8) (hl : x.length = 8) (hs : st.length = 8) (hx : x' = x.set i (IntKind.u32.wrap (x.getD i 0 + st.getD i 0))) (h1 : i < 8 → Z1) (h2 : i = 8 → Z2) :
    roundE G0 20 138 4 0 (prV st x i) (rdM 0 4 9 (prV st x' (i + 1)) (prU st x) (prU st x) (prU st x) Z1 Z2 False False) := by
  refine @Eq.mpr _ (let q1 := decide (0 ≤ (↑i : Int) ∧ (↑i : Int) < 8);
 let q2 := 0 + Int.toNat (↑i : Int);
 let q3 := [(0 : Int), 0, 0, 0, 0, 0, 0, 0];
 let q4 := q3 = q3;
 iteB (decide ((↑i : Int) < 8)) (iteB q1 (iteB (decide (q2 < 8)) (iteB q1 (iteB (decide (q2 < 8)) (iteB q1 (iteB (decide (IntKind.u32 = IntKind.u32 ∧ q2 < 8 ∧ q2 < List.length x)) (iteB (decide (IntKind.wrap IntKind.i64 ((↑i : Int) + 1) = (↑(i + 1) : Int))) (List.set x q2 (IntKind.wrap IntKind.u32 (List.getD x q2 0 + List.getD st q2 0)) = x' ∧ q4 ∧ st = st ∧ Z1) False) False) False) False) False) False) False) (x = x ∧ q4 ∧ st = st ∧ Z2)) (by kernel_rfl) ?_
  conv => zeta
  try simp only [need_eq]
  try simp only [nope_eq]
  try simp only [iteD_eq]
  try simp only [iteT_eq]
  try simp only [iteF_eq]
  try simp only [iteE_eq]
  try simp only [Int.toNat_natCast, Nat.zero_add, true_and, and_true, Nat.le_refl]
  have hw : IntKind.i64.wrap ((i : Int) + 1) = ((i + 1 : Nat) : Int) := w64 (by omega)
  refine ⟨fun hlt => ?_, fun hge => h2 (by omega)⟩
  rw [hw]
  repeat' (first | (refine And.intro ?_ ?_) | intro _)
  all_goals first | omega | exact hx.symm | exact h1 (by omega) | trivial
def L54b (M P : Int → Int → Int → Int) (st m : List Int) : Nat → St → KE → Prop := goM 0 (prT st shaK m st 0) (st.length = 8) (endsJ 2 64 9 (fun i => i < 64) (fun i => i = 64) (fun _ => False) (fun _ => False) (fun i => prU st (refX M P m st i)) (fun i => prU st (refX M P m st i)) (fun i => prU st (refX M P m st i)))
theorem L54b_ok (st m : List Int) : ((E54 mostR pickR).withL 138 2 (L54b mostR pickR st m)).Ok := by
  unfold L54b
  refine Env2.withGoM (N := 20) (S := fun i => prT st shaK m (refX mostR pickR m st i) i) E54_ok (by kernel_rfl) fun hC => ⟨rfl, fun i hi hgo => ?_⟩
  obtain ⟨x0, x1, x2, x3, x4, x5, x6, x7, e⟩ := eight _ (refX_len (M := mostR) (P := pickR) (m := m) hC i)
  show roundE _ 20 138 2 0 (prT st shaK m (refX mostR pickR m st i) i) (rdM 0 2 9 (prT st shaK m (stepX mostR pickR (shaK.getD i 0) (m.getD i 0) (refX mostR pickR m st i)) (i + 1)) _ _ _ _ _ _ _)
  rw [e]
  exact pr_2 mostR pickR st shaK m _ x0 x1 x2 x3 x4 x5 x6 x7 i _ _ hi rfl (fun h => ⟨h, h⟩) (fun h => h)
def L54c (st x : List Int) : Nat → St → KE → Prop := goM 0 (prV st x 0) (st.length = 8 ∧ x.length = 8) (endsJ 4 8 9 (fun i => i < 8) (fun i => i = 8) (fun _ => False) (fun _ => False) (fun i => prU st (refA st x i)) (fun i => prU st (refA st x i)) (fun i => prU st (refA st x i)))
theorem L54c_ok (st x : List Int) : (G0.withL 138 4 (L54c st x)).Ok := by
  unfold L54c
  refine Env2.withGoM (N := 20) (S := fun i => prV st (refA st x i) i) G0_ok (by kernel_rfl) fun hC => ⟨rfl, fun i hi hgo => ?_⟩
  exact pr_4 st (refA st x i) (refA st x (i + 1)) i _ _ hi (refA_len hC.2 i) hC.1 rfl (fun h => ⟨h, h⟩) (fun h => h)
noncomputable def E54d (M P : Int → Int → Int → Int) (st bl m x : List Int) : Env2 := ((E54a st bl).withL 138 2 (L54b M P st m)).withL 138 4 (L54c st x)
theorem E54d_ok (st bl m x : List Int) : (E54d mostR pickR st bl m x).Ok := by
  unfold E54d
  exact Env2.withL_join (H := G0) (Env2.withL_join (H := E54 mostR pickR) (E54a_ok st bl) rfl (L54b_ok st m)) rfl (L54c_ok st x)
@[irreducible] def refPress (st bl : List Int) : List Int := refA st (refX mostR pickR (refM bl 64) st 64) 8
attribute [irreducible] refM refX refA
set_option maxRecDepth 100000 in
set_option maxHeartbeats 0 in
theorem pr_t (M P : Int → Int → Int → Int) (st bl m x r : List Int) (hst : st.length = 8) (hm : m = refM bl 64) (hx : x = refX M P m st 64) (hr : r = refA st x 8) :
    evF (E54d M P st bl m x) 20 138 [.agg [.arr .u32 8 st], .agg [.arr .u8 64 bl]] ⟨0, []⟩ (outK 0 [] (.agg [.arr .u32 8 r]) 0 []) := by
  refine @Eq.mpr _ ((0 : Int) :: (0 : Int) :: (0 : Int) :: (0 : Int) :: (0 : Int) :: (0 : Int) :: (0 : Int) :: (0 : Int) :: (0 : Int) :: (0 : Int) :: (0 : Int) :: (0 : Int) :: (0 : Int) :: (0 : Int) :: (0 : Int) :: (0 : Int) :: (0 : Int) :: (0 : Int) :: (0 : Int) :: (0 : Int) :: (0 : Int) :: (0 : Int) :: (0 : Int) :: (0 : Int) :: (0 : Int) :: (0 : Int) :: (0 : Int) :: (0 : Int) :: (0 : Int) :: (0 : Int) :: (0 : Int) :: (0 : Int) :: zero32 = (0 : Int) :: (0 : Int) :: (0 : Int) :: (0 : Int) :: (0 : Int) :: (0 : Int) :: (0 : Int) :: (0 : Int) :: (0 : Int) :: (0 : Int) :: (0 : Int) :: (0 : Int) :: (0 : Int) :: (0 : Int) :: (0 : Int) :: (0 : Int) :: (0 : Int) :: (0 : Int) :: (0 : Int) :: (0 : Int) :: (0 : Int) :: (0 : Int) :: (0 : Int) :: (0 : Int) :: (0 : Int) :: (0 : Int) :: (0 : Int) :: (0 : Int) :: (0 : Int) :: (0 : Int) :: (0 : Int) :: (0 : Int) :: zero32 ∧
 [(0 : Int), (0 : Int), (0 : Int), (0 : Int), (0 : Int), (0 : Int), (0 : Int), (0 : Int)] = [(0 : Int), (0 : Int), (0 : Int), (0 : Int), (0 : Int), (0 : Int), (0 : Int), (0 : Int)] ∧
 bl = bl ∧
 st = st ∧
 True ∧
 ∀ (i : Nat),
 i ≤ (64 : Nat) →
 (∀ (j : Nat), j < i → (fun (i : Nat) => i < (64 : Nat)) j) →
 (i = (64 : Nat) →
 st = st ∧
 [(1116352408 : Int), (1899447441 : Int), (3049323471 : Int), (3921009573 : Int), (961987163 : Int), (1508970993 : Int), (2453635748 : Int), (2870763221 : Int), (3624381080 : Int), (310598401 : Int), (607225278 : Int), (1426881987 : Int), (1925078388 : Int), (2162078206 : Int), (2614888103 : Int), (3248222580 : Int), (3835390401 : Int), (4022224774 : Int), (264347078 : Int), (604807628 : Int), (770255983 : Int), (1249150122 : Int), (1555081692 : Int), (1996064986 : Int), (2554220882 : Int), (2821834349 : Int), (2952996808 : Int), (3210313671 : Int), (3336571891 : Int), (3584528711 : Int), (113926993 : Int), (338241895 : Int), (666307205 : Int), (773529912 : Int), (1294757372 : Int), (1396182291 : Int), (1695183700 : Int), (1986661051 : Int), (2177026350 : Int), (2456956037 : Int), (2730485921 : Int), (2820302411 : Int), (3259730800 : Int), (3345764771 : Int), (3516065817 : Int), (3600352804 : Int), (4094571909 : Int), (275423344 : Int), (430227734 : Int), (506948616 : Int),
 (659060556 : Int), (883997877 : Int), (958139571 : Int), (1322822218 : Int), (1537002063 : Int), (1747873779 : Int), (1955562222 : Int), (2024104815 : Int), (2227730452 : Int), (2361852424 : Int), (2428436474 : Int), (2756734187 : Int), (3204031479 : Int), (3329325298 : Int)] =
 shaK ∧
 refM bl i = m ∧
 [(0 : Int), (0 : Int), (0 : Int), (0 : Int), (0 : Int), (0 : Int), (0 : Int), (0 : Int)] = [(0 : Int), (0 : Int), (0 : Int), (0 : Int), (0 : Int), (0 : Int), (0 : Int), (0 : Int)] ∧ st = st ∧ List.length st = (8 : Nat) ∧ ∀ (i : Nat), i ≤ (64 : Nat) → (∀ (j : Nat), j < i → (fun (i : Nat) => i < (64 : Nat)) j) → (i = (64 : Nat) → refX M P m st i = x ∧ [(0 : Int), (0 : Int), (0 : Int), (0 : Int), (0 : Int), (0 : Int), (0 : Int), (0 : Int)] = [(0 : Int), (0 : Int), (0 : Int), (0 : Int), (0 : Int), (0 : Int), (0 : Int), (0 : Int)] ∧ st = st ∧ (List.length st = (8 : Nat) ∧ List.length x = (8 : Nat)) ∧ ∀ (i : Nat), i ≤ (8 : Nat) → (∀ (j : Nat), j < i → (fun (i : Nat) => i < (8 : Nat)) j) → (i = (8 : Nat) → refA st x i = r ∧ True) ∧ (False → [(0 : Int), (0 : Int), (0 : Int), (0 : Int), (0 : Int), (0 : Int), (0 : Int), (0 : Int)] = r ∧ True) ∧ (False → False)) ∧ (False → [(0 : Int), (0 : Int), (0 : Int), (0 : Int), (0 : Int), (0 : Int), (0 : Int), (0 : Int)] = r ∧ True) ∧ (False → False)) ∧
 (False → [(0 : Int), (0 : Int), (0 : Int), (0 : Int), (0 : Int), (0 : Int), (0 : Int), (0 : Int)] = r ∧ True) ∧ (False → False)) (by kernel_rfl) ?_
  try simp only [need_eq]
  try simp only [nope_eq]
  try simp only [iteD_eq]
  try simp only [iteT_eq]
  try simp only [iteF_eq]
  try simp only [iteE_eq]
  try simp only [Int.toNat_natCast, Nat.zero_add, true_and, and_true, Nat.le_refl]
  subst hm
  have hl : x.length = 8 := by rw [hx]; exact refX_len hst _
  exact fun i _ _ => ⟨fun he => ⟨by kernel_rfl, by rw [he], hst, fun j _ _ => ⟨fun hj => ⟨by rw [hj, hx], ⟨hst, hl⟩, fun q _ _ => ⟨fun hq => by rw [hq, hr], fun h => h.elim, fun h => h⟩⟩, fun h => h.elim, fun h => h⟩⟩, fun h => h.elim, fun h => h⟩
theorem pressr_pure (st bl : List Int) (h : st.length = 8) : Pure PP 138 [.agg [.arr .u32 8 st], .agg [.arr .u8 64 bl]] (.agg [.arr .u32 8 (refPress st bl)]) 0 [] := by
  unfold refPress
  exact .ev (E54d_ok st bl _ _) (pr_t mostR pickR st bl _ _ _ h rfl rfl rfl)
theorem refPress_len {st bl : List Int} (h : st.length = 8) : (refPress st bl).length = 8 := by unfold refPress; exact refA_len (refX_len h _) _
end Go.Tk
end
section
namespace Go.Tk
def padE (n i : Int) : Int := IntKind.u8.wrap (Int.tmod (shrI .u64 (IntKind.u64.wrap (IntKind.u64.wrap n * 8)) (IntKind.u64.wrap (IntKind.i64.wrap (56 - IntKind.i64.wrap (8 * i))))) 256)
def padN (n : Int) : Nat → List Int
  | 0 => []
  | i + 1 => padN n i ++ [padE n i]
theorem padN_len (n : Int) : ∀ i, (padN n i).length = i
  | 0 => rfl
  | i + 1 => by rw [padN, List.length_append, padN_len n i]; rfl
def paS (bs ys : List Int) (n L i : Nat) : St := ⟨39, [(5, .int .i64 i), (4, .nslice ⟨3, 0, 0, 0, 0⟩ 1 L L), (0, .vints .u8 bs n)], ⟨4, [(3, .ints .u8 ys)]⟩, []⟩
set_option maxRecDepth 100000 in
set_option maxHeartbeats 0 in
theorem pad_0 (bs ys zs : List Int) (n L L' i : Nat) (Z1 Z2 : Prop) (hi : i ≤ 8) (hL : ys.length = L) (hb : L < 10000000000000) (hz : zs = ys ++ [padE n i]) (hL' : L' = zs.length) (h1 : i < 8 → Z1) (h2 : i = 8 → Z2) :
    roundE G0 20 137 0 0 (paS bs ys n L i) (rdM 0 0 9 (paS bs zs n L' (i + 1)) (paS bs ys n L i) (paS bs ys n L i) (paS bs ys n L i) Z1 Z2 False False) := by
  refine @Eq.mpr _ (let q1 := IntKind.wrap IntKind.u64 (IntKind.wrap IntKind.i64 (56 - IntKind.wrap IntKind.i64 (8 * (↑i : Int))));
 let q2 := ys ++ [IntKind.wrap IntKind.u8 (Int.tmod (shrI IntKind.u64 (IntKind.wrap IntKind.u64 (IntKind.wrap IntKind.u64 (↑n : Int) * 8)) q1) 256)];
 let q3 := List.length q2;
 let q4 := decide (n = n);
 iteB (decide ((↑i : Int) < 8)) (iteB (decide (0 ≤ q1)) (iteB (decide (IntKind.u8 = IntKind.u8 ∧ List.length ys = L)) (iteB (decide (q3 * 1 ≤ 140737488355328)) (iteB (decide (IntKind.wrap IntKind.i64 ((↑i : Int) + 1) = (↑(i + 1) : Int))) (iteB (decide (q3 = L')) (iteB (decide (L' ≤ q3)) (bs = bs ∧ iteB q4 (q2 = zs ∧ Z1) False) False) False) False) False) False) False) (iteB (decide ((↑i : Int) = (↑i : Int))) (iteB (decide (L = L)) (iteB (decide (L ≤ L)) (bs = bs ∧ iteB q4 (ys = ys ∧ Z2) False) False) False) False)) (by kernel_rfl) ?_
  conv => zeta
  try simp only [need_eq]
  try simp only [nope_eq]
  try simp only [iteD_eq]
  try simp only [iteT_eq]
  try simp only [iteF_eq]
  try simp only [iteE_eq]
  try simp only [Int.toNat_natCast, Nat.zero_add, true_and, and_true, Nat.le_refl]
  have hw : IntKind.i64.wrap ((i : Int) + 1) = ((i + 1 : Nat) : Int) := w64 (by omega)
  refine ⟨fun hlt => ?_, fun hge => h2 (by omega)⟩
  have hz' : zs.length = L + 1 := by rw [hz, List.length_append, hL]; rfl
  have h0 : 0 ≤ IntKind.u64.wrap (IntKind.i64.wrap (56 - IntKind.i64.wrap (8 * (i : Int)))) := by
    unfold IntKind.wrap
    simp [IntKind.bits, IntKind.signed]
    omega
  simp only [List.length_append, List.length_cons, List.length_nil]
  rw [hw]
  repeat' (first | (refine And.intro ?_ ?_) | intro _)
  all_goals first | exact h0 | omega | exact hz.symm | exact h1 (by omega) | trivial
noncomputable def E55a (bs y : List Int) (n : Nat) : Env2 := G0.withL 137 0 (goM 0 (paS bs (y ++ padN n 0) n (y ++ padN n 0).length 0) (y.length ≤ 1000000000000) (endsJ 0 8 9 (fun i => i < 8) (fun i => i = 8) (fun _ => False) (fun _ => False) (fun i => paS bs (y ++ padN n i) n (y ++ padN n i).length i) (fun i => paS bs (y ++ padN n i) n (y ++ padN n i).length i) (fun i => paS bs (y ++ padN n i) n (y ++ padN n i).length i)))
theorem E55a_ok (bs y : List Int) (n : Nat) : (E55a bs y n).Ok := by
  unfold E55a
  refine Env2.withGoM (N := 20) (S := fun i => paS bs (y ++ padN n i) n (y ++ padN n i).length i) G0_ok (by kernel_rfl) fun hC => ⟨rfl, fun i hi hgo => ?_⟩
  have hl : (y ++ padN n i).length = y.length + i := by rw [List.length_append, padN_len]
  exact pad_0 bs (y ++ padN n i) (y ++ padN n (i + 1)) n _ _ i _ _ hi rfl (by omega) (by rw [padN, List.append_assoc]) rfl (fun h => ⟨h, h⟩) (fun h => h)
def padZ (n : Nat) : List Int := List.replicate (Int.tmod (IntKind.i64.wrap (128 - Int.tmod (IntKind.i64.wrap ((n : Int) + 9)) 64)) 64).toNat 0
@[irreducible] def padR (bs : List Int) : List Int := (bs ++ [128] ++ padZ bs.length) ++ padN bs.length 8
theorem padX (n : Nat) (h : n ≤ 100000000000) : Int.tmod (IntKind.i64.wrap (128 - Int.tmod (IntKind.i64.wrap ((n : Int) + 9)) 64)) 64 = (128 - ((n : Int) + 9) % 64) % 64 := by
  have e1 : IntKind.i64.wrap ((n : Int) + 9) = (n : Int) + 9 := w64 (by omega)
  have e2 : Int.tmod ((n : Int) + 9) 64 = ((n : Int) + 9) % 64 := tm (by omega)
  have e3 : IntKind.i64.wrap (128 - ((n : Int) + 9) % 64) = 128 - ((n : Int) + 9) % 64 := w64 (by omega)
  rw [e1, e2, e3, tm (by omega)]
theorem padZ_len (n : Nat) (h : n ≤ 100000000000) : (padZ n).length ≤ 64 := by
  unfold padZ
  rw [padX n h, List.length_replicate]
  omega
set_option maxRecDepth 100000 in
set_option maxHeartbeats 0 in
theorem pad_1 (bs y r : List Int) (n L : Nat) (hn : bs.length = n) (hb : n ≤ 100000000000) (hy : y = bs ++ [128] ++ padZ n) (hr : r = y ++ padN n 8) (hL : L = r.length) :
    evF (E55a bs y n) 20 137 [.vints .u8 bs n] ⟨0, []⟩ (outM 0 (.ret (.nslice ⟨0, 0, 0, 0, 0⟩ 1 L L)) 1 [(0, .ints .u8 r)]) := by
  refine @Eq.mpr _ (let q1 := [] ++ List.take n bs;
 let q2 := List.length q1;
 let q3 := q1 ++ [(128 : Int)];
 let q4 := List.length q3;
 let q5 := Int.tmod (IntKind.wrap IntKind.i64 (128 - Int.tmod (IntKind.wrap IntKind.i64 (↑n + 9)) 64)) 64;
 let q6 := Int.toNat q5;
 let q7 := q3 ++ List.replicate q6 0;
 let q8 := List.length q7;
 let q9 := y ++ padN (↑n) 0;
 let q10 := List.length q9;
 iteB (decide (q2 * 1 ≤ 140737488355328))
 (iteB (decide (IntKind.u8 = IntKind.u8 ∧ q2 = q2))
 (iteB (decide (q4 * 1 ≤ 140737488355328))
 (iteB (decide (IntKind.u8 = IntKind.u8 ∧ q4 = q4))
 (iteB (decide ((0 : Int) = 0 ∧ 0 ≤ q5 ∧ (q4 + q6) * 1 ≤ 140737488355328))
 (iteB (decide (q8 = q10))
 (iteB (decide (q10 ≤ q8))
 (bs = bs ∧
 iteB (decide (n = n))
 (q7 = q9 ∧
 List.length y ≤ 1000000000000 ∧
 ∀ (i : Nat),
 let q21 := y ++ padN (↑n) i;
 let q22 := List.length q21;
 i ≤ 8 → (∀ (j : Nat), j < i → (fun (i : Nat) => i < 8) j) → (i = 8 → iteB (decide (q22 = L)) (iteB (decide (L ≤ q22)) (q21 = r ∧ True) False) False) ∧ (False → False) ∧ (False → False))
 False)
 False)
 False)
 False)
 False)
 False)
 False)
 False) (by kernel_rfl) ?_
  conv => zeta
  try simp only [need_eq]
  try simp only [nope_eq]
  try simp only [iteD_eq]
  try simp only [iteT_eq]
  try simp only [iteF_eq]
  try simp only [iteE_eq]
  try simp only [Int.toNat_natCast, Nat.zero_add, true_and, and_true, Nat.le_refl]
  have ht : List.take n bs = bs := by rw [← hn]; exact List.take_length
  have hz := padZ_len n hb
  have hx := padX n hb
  have e0 : [] ++ List.take n bs ++ [128] ++ List.replicate (Int.tmod (IntKind.i64.wrap (128 - Int.tmod (IntKind.i64.wrap ((n : Int) + 9)) 64)) 64).toNat 0 = y ++ padN n 0 := by rw [ht, hy]; simp [padZ, padN]
  have hyl : y.length = n + 1 + (padZ n).length := by rw [hy, List.length_append, List.length_append, hn]; rfl
  subst hL hr
  simp only [e0, ht, List.length_append, List.length_cons, List.length_nil, hn, List.nil_append]
  refine ⟨by omega, by omega, ⟨by omega, by omega⟩, ?_, ?_, ?_, by omega, fun i hi _ => ⟨fun he => by subst he; exact ⟨rfl, Nat.le_refl _, rfl⟩, fun h => h, fun h => h⟩⟩
  · rw [hyl]; unfold padZ padN; rfl
  · rw [hyl]; unfold padZ padN; exact Nat.le_refl _
  · rw [hy]; simp [padZ, padN]
theorem padr_pure (bs : List Int) (h : bs.length ≤ 100000000000) : Pure PP 137 [.vints .u8 bs bs.length] (.nslice ⟨0, 0, 0, 0, 0⟩ 1 (padR bs).length (padR bs).length) 1 [(0, .ints .u8 (padR bs))] := .evM (E55a_ok bs _ _) (pad_1 bs _ _ _ _ rfl h rfl (by unfold padR; rfl) rfl)
def padRF (P : List Int → List Int) (B : Nat) : FSumm := fun args h K => viewL none h true 20 args fun a => bytesC a fun xs => need (xs.length ≤ B) (K (.ret (.nslice ⟨h.next, 0, 0, 0, 0⟩ 1 (P xs).length (P xs).length)) ⟨h.next + 1, (h.next, .ints .u8 (P xs)) :: h.bs⟩)
theorem padRF_ok (B : Nat) (hB : B ≤ 100000000000) (args : List AV) (h : Heap) (K : KO) (hl : padRF padR B args h K) : CallsA PP 137 args h K := by
  refine Pure.fsumm (d := 20) (viewL_weak _ _ _ _ _ hl fun a ha => ?_)
  obtain ⟨xs, rfl, hK⟩ := bytesC_ok ha
  obtain ⟨hx, hK⟩ := need_ok hK
  exact ⟨_, _, _, _, padr_pure xs (Nat.le_trans hx hB), rfl, ⟨Nat.one_pos, .ints _ _, trivial⟩, hK⟩
def toE (x d : Int) : Int := IntKind.u8.wrap (Int.tmod (IntKind.u32.wrap (Int.tdiv x d)) 256)
def toN (x : List Int) : Nat → List Int
  | 0 => zero32
  | i + 1 => ((((toN x i).set (4 * i) (IntKind.u8.wrap (IntKind.u32.wrap (Int.tdiv (x.getD i 0) 16777216)))).set (4 * i + 1) (toE (x.getD i 0) 65536)).set (4 * i + 2) (toE (x.getD i 0) 256)).set (4 * i + 3) (IntKind.u8.wrap (Int.tmod (x.getD i 0) 256))
theorem toN_len (x : List Int) : ∀ i, (toN x i).length = 32
  | 0 => rfl
  | i + 1 => by simp [toN, toN_len x i]
def toS (x h : List Int) (i : Nat) : St := ⟨47, [(4, .int .i64 i), (1, pt 0), (3, pt 2), (2, pt 1)], ⟨3, [(2, .flat [.arr .u8 32 h]), (1, .flat [.arr .u8 32 zero32]), (0, .flat [.arr .u32 8 x])]⟩, []⟩
set_option maxRecDepth 100000 in
set_option maxHeartbeats 0 in
theorem to_0 (x h h' : List Int) (i : Nat) (Z1 Z2 : Prop) (hi : i ≤ 8) (hl : h.length = 32) (hh : h' = (((h.set (4 * i) (IntKind.u8.wrap (IntKind.u32.wrap (Int.tdiv (x.getD i 0) 16777216)))).set (4 * i + 1) (toE (x.getD i 0) 65536)).set (4 * i + 2) (toE (x.getD i 0) 256)).set (4 * i + 3) (IntKind.u8.wrap (Int.tmod (x.getD i 0) 256))) (h1 : i < 8 → Z1) (h2 : i = 8 → Z2) :
    roundE G0 20 139 0 0 (toS x h i) (rdM 0 0 9 (toS x h' (i + 1)) (toS x h i) (toS x h i) (toS x h i) Z1 Z2 False False) := by
  refine @Eq.mpr _ (let q1 := decide (0 ≤ (↑i : Int) ∧ (↑i : Int) < 8);
 let q2 := 0 + Int.toNat (↑i : Int);
 let q3 := decide (q2 < 8);
 let q4 := IntKind.wrap IntKind.i64 (4 * (↑i : Int));
 let q5 := 0 + Int.toNat q4;
 let q6 := IntKind.wrap IntKind.i64 (q4 + 1);
 let q7 := 0 + Int.toNat q6;
 let q8 := List.getD x q2 0;
 let q9 := List.set h q5 (IntKind.wrap IntKind.u8 (IntKind.wrap IntKind.u32 (Int.tdiv q8 16777216)));
 let q10 := IntKind.wrap IntKind.i64 (q4 + 2);
 let q11 := 0 + Int.toNat q10;
 let q12 := List.set q9 q7 (IntKind.wrap IntKind.u8 (Int.tmod (IntKind.wrap IntKind.u32 (Int.tdiv q8 65536)) 256));
 let q13 := IntKind.wrap IntKind.i64 (q4 + 3);
 let q14 := 0 + Int.toNat q13;
 let q15 := List.set q12 q11 (IntKind.wrap IntKind.u8 (Int.tmod (IntKind.wrap IntKind.u32 (Int.tdiv q8 256)) 256));
 iteB (decide ((↑i : Int) < 8)) (iteB q1 (iteB q3 (iteB (decide (0 ≤ q4 ∧ q4 < 32)) (iteB (decide (IntKind.u8 = IntKind.u8 ∧ q5 < 32 ∧ q5 < List.length h)) (iteB q1 (iteB q3 (iteB (decide (0 ≤ q6 ∧ q6 < 32)) (iteB (decide (IntKind.u8 = IntKind.u8 ∧ q7 < 32 ∧ q7 < List.length q9)) (iteB q1 (iteB q3 (iteB (decide (0 ≤ q10 ∧ q10 < 32)) (iteB (decide (IntKind.u8 = IntKind.u8 ∧ q11 < 32 ∧ q11 < List.length q12)) (iteB q1 (iteB q3 (iteB (decide (0 ≤ q13 ∧ q13 < 32)) (iteB (decide (IntKind.u8 = IntKind.u8 ∧ q14 < 32 ∧ q14 < List.length q15)) (iteB (decide (IntKind.wrap IntKind.i64 ((↑i : Int) + 1) = (↑(i + 1) : Int))) (List.set q15 q14 (IntKind.wrap IntKind.u8 (Int.tmod q8 256)) = h' ∧ zero32 = zero32 ∧ x = x ∧ Z1) False) False) False) False) False) False) False) False) False) False) False) False) False) False) False) False) False) (iteB (decide ((↑i : Int) = (↑i : Int))) (h = h ∧ zero32 = zero32 ∧ x = x ∧ Z2) False)) (by kernel_rfl) ?_
  conv => zeta
  try simp only [need_eq]
  try simp only [nope_eq]
  try simp only [iteD_eq]
  try simp only [iteT_eq]
  try simp only [iteF_eq]
  try simp only [iteE_eq]
  try simp only [Int.toNat_natCast, Nat.zero_add, true_and, and_true, Nat.le_refl]
  have hw : IntKind.i64.wrap ((i : Int) + 1) = ((i + 1 : Nat) : Int) := w64 (by omega)
  refine ⟨fun hlt => ?_, fun hge => h2 (by omega)⟩
  have e0 : IntKind.i64.wrap (4 * (i : Int)) = ((4 * i : Nat) : Int) := by rw [w64 (by omega)]; omega
  have e1 : IntKind.i64.wrap (((4 * i : Nat) : Int) + 1) = ((4 * i + 1 : Nat) : Int) := by rw [w64 (by omega)]; omega
  have e2 : IntKind.i64.wrap (((4 * i : Nat) : Int) + 2) = ((4 * i + 2 : Nat) : Int) := by rw [w64 (by omega)]; omega
  have e3 : IntKind.i64.wrap (((4 * i : Nat) : Int) + 3) = ((4 * i + 3 : Nat) : Int) := by rw [w64 (by omega)]; omega
  simp only [e0, e1, e2, e3, hw, Int.toNat_natCast, List.length_set]
  repeat' (first | (refine And.intro ?_ ?_) | intro _)
  all_goals first | omega | exact hh.symm | exact h1 (by omega) | trivial
noncomputable def E55t (x : List Int) : Env2 := G0.withL 139 0 (goM 0 (toS x zero32 0) True (endsJ 0 8 9 (fun i => i < 8) (fun i => i = 8) (fun _ => False) (fun _ => False) (fun i => toS x (toN x i) i) (fun i => toS x (toN x i) i) (fun i => toS x (toN x i) i)))
theorem E55t_ok (x : List Int) : (E55t x).Ok := by
  unfold E55t
  refine Env2.withGoM (N := 20) (S := fun i => toS x (toN x i) i) G0_ok (by kernel_rfl) fun hC => ⟨rfl, fun i hi hgo => ?_⟩
  exact to_0 x (toN x i) (toN x (i + 1)) i _ _ hi (toN_len x i) rfl (fun h => ⟨h, h⟩) (fun h => h)
@[irreducible] def toldX (x : List Int) : List Int := toN x 8
attribute [irreducible] toN
set_option maxRecDepth 100000 in
set_option maxHeartbeats 0 in
theorem to_1 (x r : List Int) (hr : r = toN x 8) :
    evF (E55t x) 20 139 [.agg [.arr .u32 8 x]] ⟨0, []⟩ (outK 0 [] (.agg [.arr .u8 32 r]) 0 []) := by
  refine @Eq.mpr _ (zero32 = zero32 ∧ zero32 = zero32 ∧ x = x ∧ True ∧ ∀ (i : Nat), i ≤ 8 → (∀ (j : Nat), j < i → (fun (i : Nat) => i < 8) j) → (i = 8 → toN x i = r ∧ True) ∧ (False → zero32 = r ∧ True) ∧ (False → False)) (by kernel_rfl) ?_
  try simp only [need_eq]
  try simp only [nope_eq]
  try simp only [iteD_eq]
  try simp only [iteT_eq]
  try simp only [iteF_eq]
  try simp only [iteE_eq]
  try simp only [Int.toNat_natCast, Nat.zero_add, true_and, and_true, Nat.le_refl]
  subst hr
  exact fun i hi _ => ⟨fun he => by subst he; rfl, fun h => h.elim, fun h => h⟩
def toldS (T : List Int → List Int) : PSumm := fun args _ K => match args with
  | [.agg [.arr .u32 8 x]] => K (.agg [.arr .u8 32 (T x)])
  | _ => False
theorem toldS_ok (args : List AV) (h : Heap) (K : AV → Prop) (hl : toldS toldX args h K) : CallsA PP 139 args h fun o h' => ∃ v, o = .ret v ∧ h' = h ∧ K v := by
  unfold toldS at hl
  split at hl
  · rename_i x
    refine psumm_of (d := 20) (K0 := fun l => l = [.agg [.arr .u32 8 x]]) ?_ fun l e => ⟨_, by rw [e]; exact (by unfold toldX; exact .ev (E55t_ok x) (to_1 x _ rfl)), fun _ => rfl, hl⟩
    rfl
  · exact hl.elim
end Go.Tk
end
section
namespace Go.Tk
def pressRS (P : List Int → List Int → List Int) : PSumm := fun args _ K => match args with
  | [.agg [.arr .u32 8 st], .agg [.arr .u8 64 bl]] => need (st.length = 8) (K (.agg [.arr .u32 8 (P st bl)]))
  | _ => False
structure PressOk (P : List Int → List Int → List Int) : Prop where
  pure : ∀ st bl, st.length = 8 → Pure PP 138 [.agg [.arr .u32 8 st], .agg [.arr .u8 64 bl]] (.agg [.arr .u32 8 (P st bl)]) 0 []
  len : ∀ st bl, st.length = 8 → (P st bl).length = 8
theorem pressRS_ok {P : List Int → List Int → List Int} (hP : PressOk P) (args : List AV) (h : Heap) (K : AV → Prop) (hl : pressRS P args h K) : CallsA PP 138 args h fun o h' => ∃ v, o = .ret v ∧ h' = h ∧ K v := by
  unfold pressRS at hl
  split at hl
  · rename_i st bl
    obtain ⟨hs, hK⟩ := need_ok hl
    refine psumm_of (d := 20) (K0 := fun l => l = [.agg [.arr .u32 8 st], .agg [.arr .u8 64 bl]]) ?_ fun l e => ⟨_, by rw [e]; exact hP.pure st bl hs, fun _ => rfl, hK⟩
    rfl
  · exact hl.elim
noncomputable def E56 (P : List Int → List Int → List Int) (Q : List Int → List Int) (T : List Int → List Int) (B : Nat) : Env2 := ((G0.withP 138 (pressRS P)).withF 137 (padRF Q B)).withP 139 (toldS T)
theorem E56_ok {P : List Int → List Int → List Int} (hP : PressOk P) {B : Nat} (hB : B ≤ 100000000000) : (E56 P padR toldX B).Ok := Env2.withP_ok (Env2.withF_ok (Env2.withP_ok G0_ok (pressRS_ok hP)) (padRF_ok B hB)) toldS_ok
def smrS (ys st : List Int) (o n : Nat) : St := ⟨21, [(4, .nslice ⟨3, 0, 0, 0, o⟩ 1 n n), (3, pt 2), (2, pt 0)], ⟨4, [(3, .ints .u8 ys), (2, .flat [.arr .u32 8 st]), (0, .flat [.arr .u8 32 zero32])]⟩, []⟩
def smrE (st : List Int) : St := ⟨21, [(3, pt 2), (2, pt 0)], ⟨4, [(2, .flat [.arr .u32 8 st]), (0, .flat [.arr .u8 32 zero32])]⟩, []⟩
set_option maxRecDepth 100000 in
set_option maxHeartbeats 0 in
theorem smr_0 (P : List Int → List Int → List Int) (Q : List Int → List Int) (T : List Int → List Int) (B : Nat) (ys st st' : List Int) (o o' n n' k i : Nat) (Z1 Z2 : Prop) (hi : i ≤ k) (hk : ys.length = 64 * k) (ho : o = 64 * i) (ho' : o' = 64 * (i + 1)) (hn : n = 64 * k - 64 * i) (hn' : n' = 64 * k - 64 * (i + 1)) (hs : st.length = 8) (hst : st' = P st ((ys.drop o).take 64)) (h1 : i < k → Z1) (h2 : i = k → Z2) :
    roundE (E56 P Q T B) 20 91 0 0 (smrS ys st o n) (rdM 0 0 9 (smrS ys st' o' n') (smrE st) (smrE st) (smrE st) Z1 Z2 False False) := by
  refine @Eq.mpr _ (let q1 := decide (n ≤ n);
 let q2 := decide ((0 : Int) ≤ 64 ∧ 64 ≤ (↑n : Int));
 let q3 := subO n (some 64);
 iteB (decide ((↑n : Int) > 0)) (iteB q1 (iteB q2 (iteB (decide (o + 0 + 64 ≤ List.length ys)) (iteB (decide (List.length st = 8)) (iteB q1 (iteB q2 (iteB (decide (o + 64 = o')) (iteB (decide (q3 = n')) (iteB (decide (n' ≤ q3)) (ys = ys ∧ P st (List.take 64 (List.drop (o + 0) ys)) = st' ∧ zero32 = zero32 ∧ Z1) False) False) False) False) False) False) False) False) False) (st = st ∧ zero32 = zero32 ∧ Z2)) (by kernel_rfl) ?_
  conv => zeta
  try simp only [need_eq]
  try simp only [nope_eq]
  try simp only [iteD_eq]
  try simp only [iteT_eq]
  try simp only [iteF_eq]
  try simp only [iteE_eq]
  try simp only [Int.toNat_natCast, Nat.zero_add, true_and, and_true, Nat.le_refl]
  refine ⟨fun hlt => ?_, fun hge => h2 (by omega)⟩
  have e1 : n - 64 = n' := by omega
  have e2 : o + 64 = o' := by omega
  simp only [subO, e1, e2, Nat.add_zero]
  repeat' (first | (refine And.intro ?_ ?_) | intro _)
  all_goals first | omega | exact hst.symm | exact h1 (by omega) | trivial
def sumN (P : List Int → List Int → List Int) (ys : List Int) : Nat → List Int
  | 0 => initR.st
  | i + 1 => P (sumN P ys i) ((ys.drop (64 * i)).take 64)
theorem sumN_len {P : List Int → List Int → List Int} (hP : PressOk P) (ys : List Int) : ∀ i, (sumN P ys i).length = 8
  | 0 => rfl
  | i + 1 => hP.len _ _ (sumN_len hP ys i)
theorem sumN_zero (P : List Int → List Int → List Int) (ys : List Int) : sumN P ys 0 = initR.st := rfl
theorem sumN_succ (P : List Int → List Int → List Int) (ys : List Int) (i : Nat) : sumN P ys (i + 1) = P (sumN P ys i) ((ys.drop (64 * i)).take 64) := rfl
attribute [irreducible] sumN
noncomputable def E56b (P : List Int → List Int → List Int) (Q : List Int → List Int) (T : List Int → List Int) (B : Nat) (ys : List Int) (L k : Nat) : Env2 := (E56 P Q T B).withL 91 0 (goM 0 (smrS ys [1779033703, 3144134277, 1013904242, 2773480762, 1359893119, 2600822924, 528734635, 1541459225] 0 L) (ys.length = 64 * k ∧ L = 64 * k) (endsJ 0 k 9 (fun i => i < k) (fun i => i = k) (fun _ => False) (fun _ => False) (fun i => smrE (sumN P ys i)) (fun i => smrE (sumN P ys i)) (fun i => smrE (sumN P ys i))))
theorem E56b_ok {P : List Int → List Int → List Int} (hP : PressOk P) {B : Nat} (hB : B ≤ 100000000000) (ys : List Int) (L k : Nat) : (E56b P padR toldX B ys L k).Ok := by
  unfold E56b
  refine Env2.withGoM (N := 20) (S := fun i => smrS ys (sumN P ys i) (64 * i) (64 * k - 64 * i)) (E56_ok hP hB) (by kernel_rfl) fun hC => ⟨?_, fun i hi hgo => ?_⟩
  · rw [hC.2, sumN_zero]; rfl
  · exact smr_0 P padR toldX B ys (sumN P ys i) (sumN P ys (i + 1)) _ _ _ _ k i _ _ hi hC.1 rfl rfl rfl rfl (sumN_len hP ys i) (sumN_succ _ _ _) (fun h => ⟨h, h⟩) (fun h => h)
set_option maxRecDepth 100000 in
set_option maxHeartbeats 0 in
theorem smr_1 (P : List Int → List Int → List Int) (Q : List Int → List Int) (T : List Int → List Int) (B : Nat) (bs ys r : List Int) (n L k : Nat) (hn : n = bs.length) (hB : n ≤ B) (hy : ys = Q bs) (hL : L = ys.length) (hk : ys.length = 64 * k) (hr : r = T (sumN P ys k)) :
    evF (E56b P Q T B ys L k) 20 91 [.vints .u8 bs n] ⟨0, []⟩ (outK 0 [] (.agg [.arr .u8 32 r]) 0 []) := by
  refine @Eq.mpr _ (let q1 := [(1779033703 : Int), 3144134277, 1013904242, 2773480762, 1359893119, 2600822924, 528734635, 1541459225];
 iteB (decide (n = List.length bs)) (iteB (decide (List.length bs ≤ B)) (iteB (decide (List.length (Q bs) = L)) (iteB (decide (L ≤ List.length (Q bs))) (Q bs = ys ∧ q1 = q1 ∧ zero32 = zero32 ∧ (List.length ys = 64 * k ∧ L = 64 * k) ∧ ∀ (i : Nat), i ≤ k → (∀ (j : Nat), j < i → (fun (i : Nat) => i < k) j) → (i = k → T (sumN P ys i) = r ∧ True) ∧ (False → zero32 = r ∧ True) ∧ (False → False)) False) False) False) False) (by kernel_rfl) ?_
  conv => zeta
  try simp only [need_eq]
  try simp only [nope_eq]
  try simp only [iteD_eq]
  try simp only [iteT_eq]
  try simp only [iteF_eq]
  try simp only [iteE_eq]
  try simp only [Int.toNat_natCast, Nat.zero_add, true_and, and_true, Nat.le_refl]
  subst hy hr
  refine ⟨hn, by omega, ?_⟩
  exact ⟨hL.symm, by omega, rfl, ⟨hk, by omega⟩, fun i hi _ => ⟨fun he => by rw [he], fun h => h.elim, fun h => h⟩⟩
theorem padR_mod (bs : List Int) (h : bs.length ≤ 100000000000) : (padR bs).length = 64 * ((padR bs).length / 64) := by
  have : (padR bs).length = bs.length + 1 + ((128 - ((bs.length : Int) + 9) % 64) % 64).toNat + 8 := by
    unfold padR padZ
    rw [padX _ h]
    simp only [List.length_append, List.length_cons, List.length_nil, padN_len, List.length_replicate]
  omega
@[irreducible] def rSum (P : List Int → List Int → List Int) (bs : List Int) : List Int := toldX (sumN P (padR bs) ((padR bs).length / 64))
theorem sumr_pure {P : List Int → List Int → List Int} (hP : PressOk P) (bs : List Int) (h : bs.length ≤ 100000000000) : Pure PP 91 [.vints .u8 bs bs.length] (.agg [.arr .u8 32 (rSum P bs)]) 0 [] := by
  unfold rSum
  exact .ev (E56b_ok hP (Nat.le_refl _) _ _ _) (smr_1 P padR toldX 100000000000 bs _ _ _ _ _ rfl h rfl rfl (padR_mod bs h) rfl)
def hashS (H : List Int → List Int) (B : Nat) : PSumm := fun args h K => viewL none h true 20 args fun a => bytesC a fun xs => need (xs.length ≤ B) (K (.agg [.arr .u8 32 (H xs)]))
theorem hashS_ok {f : FuncId} {H : List Int → List Int} {B : Nat} (hp : ∀ xs : List Int, xs.length ≤ B → Pure PP f [.vints .u8 xs xs.length] (.agg [.arr .u8 32 (H xs)]) 0 []) (args : List AV) (h : Heap) (K : AV → Prop) (hl : hashS H B args h K) : CallsA PP f args h fun o h' => ∃ v, o = .ret v ∧ h' = h ∧ K v := by
  refine Pure.psumm (d := 20) (viewL_weak _ _ _ _ _ hl fun a ha => ?_)
  obtain ⟨xs, rfl, hK⟩ := bytesC_ok ha
  obtain ⟨hx, hK⟩ := need_ok hK
  exact ⟨_, hp xs hx, fun _ => rfl, hK⟩
noncomputable def E56h (H : List Int → List Int) (B : Nat) : Env2 := G0.withP 91 (hashS H B)
set_option maxRecDepth 100000 in
set_option maxHeartbeats 0 in
theorem twr_0 (H : List Int → List Int) (B : Nat) (bs r : List Int) (n : Nat) (hn : n = bs.length) (hb : n ≤ B) (h32 : 32 ≤ B) (hl : (H bs).length = 32) (hr : r = H (H bs)) :
    evF (E56h H B) 20 86 [.vints .u8 bs n] ⟨0, []⟩ (outK 0 [] (.agg [.arr .u8 32 r]) 0 []) := by
  refine @Eq.mpr _ (let q1 := List.length (H bs);
 iteB (decide (n = List.length bs)) (iteB (decide (List.length bs ≤ B)) (iteB (decide (q1 = 32)) (iteB (decide (32 = q1)) (iteB (decide (q1 ≤ B)) (H (H bs) = r ∧ True) False) False) False) False) False) (by kernel_rfl) ?_
  conv => zeta
  try simp only [need_eq]
  try simp only [nope_eq]
  try simp only [iteD_eq]
  try simp only [iteT_eq]
  try simp only [iteF_eq]
  try simp only [iteE_eq]
  try simp only [Int.toNat_natCast, Nat.zero_add, true_and, and_true, Nat.le_refl]
  subst hr
  exact ⟨hn, by omega, hl, hl.symm, by omega, rfl⟩
theorem E56h_ok {H : List Int → List Int} {B : Nat} (hp : ∀ xs : List Int, xs.length ≤ B → Pure PP 91 [.vints .u8 xs xs.length] (.agg [.arr .u8 32 (H xs)]) 0 []) : (E56h H B).Ok := Env2.withP_ok G0_ok (hashS_ok hp)
end Go.Tk
end
section
namespace Go.Tk
def kxE (key : List Int) (c : Int) (i : Nat) : Int := if (i : Int) < 32 then bXor .u8 (key.getD i 0) c else c
def kxR (key : List Int) (c : Int) : Nat → List Int
  | 0 => []
  | i + 1 => kxR key c i ++ [kxE key c i]
theorem kxR_len (key : List Int) (c : Int) : ∀ i, (kxR key c i).length = i
  | 0 => rfl
  | i + 1 => by rw [kxR, List.length_append, kxR_len key c i]; rfl
def tgS (key ms xs ys : List Int) (i : Nat) : St := ⟨47, [(8, .int .i64 i), (0, .vints .u8 key 32), (6, .nslice ⟨1, 0, 0, 0, 0⟩ 1 i i), (7, .nslice ⟨2, 0, 0, 0, 0⟩ 1 i i), (1, .vints .u8 ms 32), (4, pt 0)], ⟨3, [(2, .ints .u8 ys), (1, .ints .u8 xs), (0, .flat [.arr .u8 32 zero32])]⟩, []⟩
def tgE (ms xs ys : List Int) (i : Nat) : St := ⟨47, [(6, .nslice ⟨1, 0, 0, 0, 0⟩ 1 i i), (7, .nslice ⟨2, 0, 0, 0, 0⟩ 1 i i), (1, .vints .u8 ms 32), (4, pt 0)], ⟨3, [(2, .ints .u8 ys), (1, .ints .u8 xs), (0, .flat [.arr .u8 32 zero32])]⟩, []⟩
set_option maxRecDepth 100000 in
set_option maxHeartbeats 0 in
theorem tg_0 (key ms xs ys xs' ys' : List Int) (i : Nat) (Z1 Z2 : Prop) (hi : i ≤ 64) (hx : xs.length = i) (hy : ys.length = i) (hx' : xs' = xs ++ [kxE key 54 i]) (hy' : ys' = ys ++ [kxE key 92 i]) (h1 : i < 64 → Z1) (h2 : i = 64 → Z2) :
    roundE G0 20 90 0 0 (tgS key ms xs ys i) (rdM 0 0 9 (tgS key ms xs' ys' (i + 1)) (tgE ms xs ys i) (tgE ms xs ys i) (tgE ms xs ys i) Z1 Z2 False False) := by
  refine @Eq.mpr _ (let q1 := decide (IntKind.u8 = IntKind.u8 ∧ List.length xs = i);
 let q2 := List.getD key (Int.toNat (↑i : Int)) 0;
 let q3 := xs ++ [bXor IntKind.u8 q2 54];
 let q4 := List.length q3;
 let q5 := decide (IntKind.u8 = IntKind.u8 ∧ List.length ys = i);
 let q6 := ys ++ [bXor IntKind.u8 q2 92];
 let q7 := List.length q6;
 let q8 := i + 1;
 let q9 := decide (IntKind.wrap IntKind.i64 ((↑i : Int) + 1) = (↑q8 : Int));
 let q10 := xs ++ [(54 : Int)];
 let q11 := List.length q10;
 let q12 := ys ++ [(92 : Int)];
 let q13 := List.length q12;
 let q14 := decide (i = i);
 let q15 := decide (i ≤ i);
 iteB (decide ((↑i : Int) < 64)) (iteB (decide ((↑i : Int) < 32)) (iteB (decide (0 ≤ (↑i : Int) ∧ (↑i : Int) < 32)) (iteB q1 (iteB (decide (q4 * 1 ≤ 140737488355328)) (iteB q5 (iteB (decide (q7 * 1 ≤ 140737488355328)) (iteB q9 (key = key ∧ iteB (decide (q4 = q8)) (iteB (decide (q8 ≤ q4)) (iteB (decide (q7 = q8)) (iteB (decide (q8 ≤ q7)) (ms = ms ∧ q6 = ys' ∧ q3 = xs' ∧ zero32 = zero32 ∧ Z1) False) False) False) False) False) False) False) False) False) False) (iteB q1 (iteB (decide (q11 * 1 ≤ 140737488355328)) (iteB q5 (iteB (decide (q13 * 1 ≤ 140737488355328)) (iteB q9 (key = key ∧ iteB (decide (q11 = q8)) (iteB (decide (q8 ≤ q11)) (iteB (decide (q13 = q8)) (iteB (decide (q8 ≤ q13)) (ms = ms ∧ q12 = ys' ∧ q10 = xs' ∧ zero32 = zero32 ∧ Z1) False) False) False) False) False) False) False) False) False)) (iteB q14 (iteB q15 (iteB q14 (iteB q15 (ms = ms ∧ ys = ys ∧ xs = xs ∧ zero32 = zero32 ∧ Z2) False) False) False) False)) (by kernel_rfl) ?_
  conv => zeta
  try simp only [need_eq]
  try simp only [nope_eq]
  try simp only [iteD_eq]
  try simp only [iteT_eq]
  try simp only [iteF_eq]
  try simp only [iteE_eq]
  try simp only [Int.toNat_natCast, Nat.zero_add, true_and, and_true, Nat.le_refl]
  have hw : IntKind.i64.wrap ((i : Int) + 1) = ((i + 1 : Nat) : Int) := w64 (by omega)
  refine ⟨fun hlt => ⟨fun h32 => ?_, fun h32 => ?_⟩, fun hge => ?_⟩
  · unfold kxE at hx' hy'
    rw [if_pos h32] at hx' hy'
    simp only [hw, List.length_append, List.length_cons, List.length_nil, hx, hy]
    repeat' (first | (refine And.intro ?_ ?_) | intro _)
    all_goals first | omega | exact hx'.symm | exact hy'.symm | exact h1 (by omega) | trivial
  · unfold kxE at hx' hy'
    rw [if_neg h32] at hx' hy'
    simp only [hw, List.length_append, List.length_cons, List.length_nil, hx, hy]
    repeat' (first | (refine And.intro ?_ ?_) | intro _)
    all_goals first | omega | exact hx'.symm | exact hy'.symm | exact h1 (by omega) | trivial
  · exact h2 (by omega)
noncomputable def E57 (H : List Int → List Int) (B : Nat) (key ms : List Int) : Env2 := (E56h H B).withL 90 0 (goM 0 (tgS key ms [] [] 0) True (endsJ 0 64 9 (fun i => i < 64) (fun i => i = 64) (fun _ => False) (fun _ => False) (fun i => tgE ms (kxR key 54 i) (kxR key 92 i) i) (fun i => tgE ms (kxR key 54 i) (kxR key 92 i) i) (fun i => tgE ms (kxR key 54 i) (kxR key 92 i) i)))
theorem E57_ok {H : List Int → List Int} {B : Nat} (hp : ∀ xs : List Int, xs.length ≤ B → Pure PP 91 [.vints .u8 xs xs.length] (.agg [.arr .u8 32 (H xs)]) 0 []) (key ms : List Int) : (E57 H B key ms).Ok := by
  unfold E57
  refine Env2.withL_join (H := G0) (E56h_ok hp) rfl ?_
  refine Env2.withGoM (N := 20) (S := fun i => tgS key ms (kxR key 54 i) (kxR key 92 i) i) G0_ok (by kernel_rfl) fun hC => ⟨rfl, fun i hi hgo => ?_⟩
  exact tg_0 key ms _ _ (kxR key 54 (i + 1)) (kxR key 92 (i + 1)) i _ _ hi (kxR_len _ _ _) (kxR_len _ _ _) rfl rfl (fun h => ⟨h, h⟩) (fun h => h)
attribute [irreducible] kxR
theorem take_dz {xs : List Int} {n : Nat} (h : xs.length = n) : List.take n (dropZ 0 xs) = xs := by subst h; rw [dropZ_eq, List.drop_zero, List.take_length]
set_option maxRecDepth 100000 in
set_option maxHeartbeats 0 in
theorem tg_1 (H : List Int → List Int) (B : Nat) (key ms r : List Int) (hk : key.length = 32) (hm : ms.length = 32) (hB : 128 ≤ B) (hl : ∀ x, (H x).length = 32) (hr : r = H (kxR key 92 64 ++ H (kxR key 54 64 ++ ms))) :
    evF (E57 H B key ms) 20 90 [.vints .u8 key 32, .vints .u8 ms 32] ⟨0, []⟩ (outK 0 [] (.agg [.arr .u8 32 r]) 0 []) := by
  refine @Eq.mpr _ (key = key ∧
 ms = ms ∧
 ([] : List Int) = [] ∧
 ([] : List Int) = [] ∧
 zero32 = zero32 ∧
 True ∧
 ∀ (i : Nat),
 let q1 := [] ++ List.take i (dropZ 0 (kxR key 54 i));
 let q2 := List.length q1;
 let q3 := q1 ++ List.take 32 ms;
 let q4 := List.length q3;
 let q5 := List.take q4 (dropZ 0 q3);
 let q6 := List.length q5;
 let q7 := [] ++ List.take i (dropZ 0 (kxR key 92 i));
 let q8 := List.length q7;
 let q9 := H q5;
 let q10 := q7 ++ q9;
 let q11 := List.length q10;
 let q12 := List.take q11 (dropZ 0 q10);
 let q13 := List.length q12;
 i ≤ 64 → (∀ (j : Nat), j < i → (fun (i : Nat) => i < 64) j) → (i = 64 → iteB (decide (IntKind.u8 = IntKind.u8 ∧ 0 + i ≤ List.length (kxR key 54 i))) (iteB (decide (q2 * 1 ≤ 140737488355328)) (iteB (decide (IntKind.u8 = IntKind.u8 ∧ q2 = q2)) (iteB (decide (q4 * 1 ≤ 140737488355328)) (iteB (decide (0 + q4 ≤ q4)) (iteB (decide (q4 = q6)) (iteB (decide (q6 ≤ B)) (iteB (decide (IntKind.u8 = IntKind.u8 ∧ 0 + i ≤ List.length (kxR key 92 i))) (iteB (decide (q8 * 1 ≤ 140737488355328)) (iteB (decide (IntKind.u8 = IntKind.u8 ∧ List.length q9 = 32)) (iteB (decide (IntKind.u8 = IntKind.u8 ∧ q8 = q8)) (iteB (decide (q11 * 1 ≤ 140737488355328)) (iteB (decide (0 + q11 ≤ q11)) (iteB (decide (q11 = q13)) (iteB (decide (q13 ≤ B)) (H q12 = r ∧ True) False) False) False) False) False) False) False) False) False) False) False) False) False) False) False) ∧ (False → zero32 = r ∧ True) ∧ (False → False)) (by kernel_rfl) ?_
  conv => zeta
  try simp only [need_eq]
  try simp only [nope_eq]
  try simp only [iteD_eq]
  try simp only [iteT_eq]
  try simp only [iteF_eq]
  try simp only [iteE_eq]
  try simp only [Int.toNat_natCast, Nat.zero_add, true_and, and_true, Nat.le_refl]
  refine fun i hi _ => ⟨fun he => ?_, fun h => h.elim, fun h => h⟩
  subst he
  have a1 := kxR_len key 54 64
  have a2 := kxR_len key 92 64
  have e1 := take_dz a1
  have e2 := take_dz a2
  have e3 : List.take 32 ms = ms := by rw [← hm]; exact List.take_length
  simp only [e1, e2, e3, List.nil_append, take_dz rfl]
  have l1 := hl (kxR key 54 64 ++ ms)
  subst hr
  simp only [List.length_append, a1, a2, hm, l1]
  repeat' (first | (refine And.intro ?_ ?_) | intro _)
  all_goals first | omega | trivial
@[irreducible] def hmacR (H : List Int → List Int) (key ms : List Int) : List Int := H (kxR key 92 64 ++ H (kxR key 54 64 ++ ms))
theorem tagr_pure {H : List Int → List Int} {B : Nat} (hp : ∀ xs : List Int, xs.length ≤ B → Pure PP 91 [.vints .u8 xs xs.length] (.agg [.arr .u8 32 (H xs)]) 0 []) (hB : 128 ≤ B) (hl : ∀ x, (H x).length = 32) (key ms : List Int) (h1 : key.length = 32) (h2 : ms.length = 32) : Pure PP 90 [.vints .u8 key 32, .vints .u8 ms 32] (.agg [.arr .u8 32 (hmacR H key ms)]) 0 [] := by
  unfold hmacR
  exact .ev (E57_ok hp _ _) (tg_1 H B _ _ _ h1 h2 hB hl rfl)
def tagRS (T : List Int → List Int → List Int) : PSumm := fun args h K => viewL none h true 20 args fun a => match a with
  | [.vints .u8 key len, .vints .u8 ms len'] => need (key.length = 32 ∧ len = 32 ∧ ms.length = 32 ∧ len' = 32) (K (.agg [.arr .u8 32 (T key ms)]))
  | _ => False
theorem tagRS_ok {H : List Int → List Int} {B : Nat} (hp : ∀ xs : List Int, xs.length ≤ B → Pure PP 91 [.vints .u8 xs xs.length] (.agg [.arr .u8 32 (H xs)]) 0 []) (hB : 128 ≤ B) (hl : ∀ x, (H x).length = 32) (args : List AV) (h : Heap) (K : AV → Prop) (hl' : tagRS (hmacR H) args h K) : CallsA PP 90 args h fun o h' => ∃ v, o = .ret v ∧ h' = h ∧ K v := by
  refine Pure.psumm (d := 20) (viewL_weak _ _ _ _ _ hl' fun a ha => ?_)
  split at ha
  · obtain ⟨⟨h1, rfl, h2, rfl⟩, hK⟩ := need_ok ha
    exact ⟨_, tagr_pure hp hB hl _ _ h1 h2, fun _ => rfl, hK⟩
  · exact ha.elim
@[irreducible] def twiceR (H : List Int → List Int) (bs : List Int) : List Int := H (H bs)
theorem twiceR_ok {H : List Int → List Int} {B : Nat} (hp : ∀ xs : List Int, xs.length ≤ B → Pure PP 91 [.vints .u8 xs xs.length] (.agg [.arr .u8 32 (H xs)]) 0 []) (hB : 128 ≤ B) (hl : ∀ x, (H x).length = 32) (args : List AV) (h : Heap) (K : AV → Prop) (hl' : hashS (twiceR H) B args h K) : CallsA PP 86 args h fun o h' => ∃ v, o = .ret v ∧ h' = h ∧ K v := by
  refine hashS_ok (fun xs hx => ?_) args h K hl'
  unfold twiceR
  exact .ev (E56h_ok hp) (twr_0 H B xs _ _ rfl hx (by omega) (hl xs) rfl)
end Go.Tk
end
section
namespace Go.Tk
def U32 (x : Int) : Prop := 0 ≤ x ∧ x < 4294967296
theorem wr32 (x : Int) : IntKind.u32.wrap x = x % 4294967296 := by
  unfold IntKind.wrap
  simp [IntKind.bits, IntKind.signed]
theorem wr32_U (x : Int) : U32 (IntKind.u32.wrap x) := by rw [wr32]; unfold U32; omega
theorem wr32_id {x : Int} (h : U32 x) : IntKind.u32.wrap x = x := by rw [wr32]; unfold U32 at h; omega
theorem wr8 (x : Int) : IntKind.u8.wrap x = x % 256 := by
  unfold IntKind.wrap
  simp [IntKind.bits, IntKind.signed]
theorem bOr_U (x y : Int) : U32 (bOr .u32 x y) := wr32_U _
theorem bXor_nat (x y : Nat) (hx : x < 4294967296) (hy : y < 4294967296) : bXor .u32 x y = ((x ^^^ y : Nat) : Int) := by
  unfold bXor
  rw [wr32_id]
  · show (((BitVec.ofInt 32 (x : Int) ^^^ BitVec.ofInt 32 (y : Int)).toNat : Nat) : Int) = _
    rw [BitVec.toNat_xor, BitVec.ofInt_natCast, BitVec.ofInt_natCast, BitVec.toNat_ofNat, BitVec.toNat_ofNat, Nat.mod_eq_of_lt hx, Nat.mod_eq_of_lt hy]
  · unfold U32
    have := (BitVec.ofInt IntKind.u32.bits x ^^^ BitVec.ofInt IntKind.u32.bits y).isLt
    simp only [IntKind.bits] at this
    simp only [IntKind.bits]
    omega
theorem bOr_nat (x y : Nat) (hx : x < 4294967296) (hy : y < 4294967296) : bOr .u32 x y = ((x ||| y : Nat) : Int) := by
  unfold bOr
  rw [wr32_id]
  · show (((BitVec.ofInt 32 (x : Int) ||| BitVec.ofInt 32 (y : Int)).toNat : Nat) : Int) = _
    rw [BitVec.toNat_or, BitVec.ofInt_natCast, BitVec.ofInt_natCast, BitVec.toNat_ofNat, BitVec.toNat_ofNat, Nat.mod_eq_of_lt hx, Nat.mod_eq_of_lt hy]
  · unfold U32
    have := (BitVec.ofInt IntKind.u32.bits x ||| BitVec.ofInt IntKind.u32.bits y).isLt
    simp only [IntKind.bits] at this
    simp only [IntKind.bits]
    omega
theorem bAnd_nat (x y : Nat) (hx : x < 4294967296) (hy : y < 4294967296) : bAnd .u32 x y = ((x &&& y : Nat) : Int) := by
  unfold bAnd
  rw [wr32_id]
  · show (((BitVec.ofInt 32 (x : Int) &&& BitVec.ofInt 32 (y : Int)).toNat : Nat) : Int) = _
    rw [BitVec.toNat_and, BitVec.ofInt_natCast, BitVec.ofInt_natCast, BitVec.toNat_ofNat, BitVec.toNat_ofNat, Nat.mod_eq_of_lt hx, Nat.mod_eq_of_lt hy]
  · unfold U32
    have := (BitVec.ofInt IntKind.u32.bits x &&& BitVec.ofInt IntKind.u32.bits y).isLt
    simp only [IntKind.bits] at this
    simp only [IntKind.bits]
    omega
theorem U32.nat {x : Int} (h : U32 x) : ∃ n : Nat, x = n ∧ n < 4294967296 := ⟨x.toNat, by unfold U32 at h; omega, by unfold U32 at h; omega⟩
theorem U32.of {n : Nat} (h : n < 4294967296) : U32 (n : Int) := by unfold U32; omega
theorem bXor_comm {x y : Int} : bXor .u32 x y = bXor .u32 y x := by unfold bXor; rw [BitVec.xor_comm]
theorem bXor_assoc {x y z : Int} (hx : U32 x) (hy : U32 y) (hz : U32 z) : bXor .u32 (bXor .u32 x y) z = bXor .u32 x (bXor .u32 y z) := by
  obtain ⟨x, rfl, gx⟩ := hx.nat
  obtain ⟨y, rfl, gy⟩ := hy.nat
  obtain ⟨z, rfl, gz⟩ := hz.nat
  rw [bXor_nat x y gx gy, bXor_nat y z gy gz, bXor_nat _ z (Nat.xor_lt_two_pow (n := 32) gx gy) gz, bXor_nat x _ gx (Nat.xor_lt_two_pow (n := 32) gy gz), Nat.xor_assoc]
theorem bXor_zero {x : Int} (hx : U32 x) : bXor .u32 0 x = x := by
  obtain ⟨x, rfl, gx⟩ := hx.nat
  have := bXor_nat 0 x (by omega) gx
  simpa using this
theorem shr_nat (x n : Nat) (hn : n ≤ 32) : shrI .u32 x n = ((x / 2 ^ n : Nat) : Int) := by
  unfold shrI
  have : min (n : Int).toNat IntKind.u32.bits = n := by simp [IntKind.bits]; omega
  rw [this, Int.fdiv_eq_ediv_of_nonneg _ (Int.le_of_lt (Int.pow_pos (by decide)))]
  simp
theorem shr_U {x : Int} (hx : U32 x) (n : Nat) (hn : n ≤ 32) : U32 (shrI .u32 x n) := by
  obtain ⟨x, rfl, gx⟩ := hx.nat
  rw [shr_nat x n hn]
  exact U32.of (Nat.lt_of_le_of_lt (Nat.div_le_self x (2 ^ n)) gx)
theorem rotI_U (w n : Int) : U32 (rotI w n) := bOr_U _ _
theorem sg3_sig {w : Int} (hw : U32 w) (a b c : Int) : sg3 a b c w = sigI 32 [a, b, c] w := by
  obtain ⟨x, rfl, gx⟩ := hw.nat
  have h0 : shrI .u32 (x : Int) 32 = 0 := by
    rw [show (32 : Int) = ((32 : Nat) : Int) from rfl, shr_nat x 32 (by omega), Nat.div_eq_of_lt gx]
    rfl
  unfold sg3 sigI
  simp only [List.foldl_cons, List.foldl_nil, h0, bXor_zero (rotI_U _ _)]
theorem rg3_sig {w : Int} (hw : U32 w) (a b : Int) (n : Nat) (hn : n ≤ 32) : rg3 a b n w = sigI n [a, b] w := by
  have hs := shr_U hw n hn
  unfold rg3 sigI
  simp only [List.foldl_cons, List.foldl_nil]
  rw [bXor_comm, bXor_assoc hs (rotI_U _ _) (rotI_U _ _)]
theorem div_tmod2 (x i : Nat) (hi : i ≤ 32) : Int.tmod (shrI .u32 x i) 2 = (((x.testBit i).toNat : Nat) : Int) := by
  rw [shr_nat x i hi]
  rw [Int.tmod_eq_emod_of_nonneg (Int.natCast_nonneg _), Nat.toNat_testBit]
  rfl
theorem shl_bit (b : Bool) (i : Nat) (hi : i < 32) : shlI .u32 ((b.toNat : Nat) : Int) i = ((2 ^ i * b.toNat : Nat) : Int) := by
  unfold shlI
  have : min (i : Int).toNat IntKind.u32.bits = i := by simp [IntKind.bits]; omega
  rw [this]
  have h2 : (2 : Nat) ^ i < 2 ^ 32 := Nat.pow_lt_pow_right (by decide) hi
  have h3 : ((2 : Nat) ^ i * b.toNat) < 4294967296 := by cases b <;> simp_all
  rw [show ((b.toNat : Nat) : Int) * 2 ^ i = ((2 ^ i * b.toNat : Nat) : Int) by push_cast; rw [Int.mul_comm]]
  exact wr32_id (U32.of h3)
theorem mod_bit (x i : Nat) : x % 2 ^ (i + 1) = x % 2 ^ i + 2 ^ i * (x.testBit i).toNat := by
  rw [Nat.toNat_testBit, Nat.mod_pow_succ]
theorem add_bit (x i : Nat) (hx : x < 4294967296) (hi : i < 32) : IntKind.u32.wrap (((x % 2 ^ i : Nat) : Int) + ((2 ^ i * (x.testBit i).toNat : Nat) : Int)) = ((x % 2 ^ (i + 1) : Nat) : Int) := by
  rw [mod_bit]
  rw [wr32_id]
  · push_cast; rfl
  · rw [show ((x % 2 ^ i : Nat) : Int) + ((2 ^ i * (x.testBit i).toNat : Nat) : Int) = ((x % 2 ^ i + 2 ^ i * (x.testBit i).toNat : Nat) : Int) by push_cast; rfl, ← mod_bit]
    exact U32.of (Nat.lt_of_le_of_lt (Nat.mod_le _ _) hx)
theorem most_bits (a b c : Nat) (ha : a < 4294967296) (hb : b < 4294967296) (hc : c < 4294967296) : ∀ i, i ≤ 32 → mostO a b c i = (((a &&& (b ||| c) ||| b &&& c) % 2 ^ i : Nat) : Int)
  | 0, _ => by simp [mostO, Nat.mod_one]
  | i + 1, hi => by
    have hm : (a &&& (b ||| c) ||| b &&& c) < 4294967296 := Nat.or_lt_two_pow (n := 32) (Nat.lt_of_le_of_lt Nat.and_le_left ha) (Nat.lt_of_le_of_lt Nat.and_le_left hb)
    rw [mostO, most_bits a b c ha hb hc i (by omega), div_tmod2 a i (by omega), div_tmod2 b i (by omega), div_tmod2 c i (by omega), ← add_bit _ i hm (by omega)]
    have ht : (a &&& (b ||| c) ||| b &&& c).testBit i = (a.testBit i && (b.testBit i || c.testBit i) || b.testBit i && c.testBit i) := by simp
    rw [ht]
    have h1 := shl_bit true i (by omega)
    have hx : IntKind.u32.wrap (((a &&& (b ||| c) ||| b &&& c) % 2 ^ i : Nat) : Int) = (((a &&& (b ||| c) ||| b &&& c) % 2 ^ i : Nat) : Int) := wr32_id (U32.of (Nat.lt_of_le_of_lt (Nat.mod_le _ _) hm))
    rw [wr32, wr32]
    cases a.testBit i <;> cases b.testBit i <;> cases c.testBit i <;> simp at h1 hx ⊢ <;> first | rw [h1] | rw [hx]
theorem most_eq {a b c : Int} (ha : U32 a) (hb : U32 b) (hc : U32 c) : mostR a b c = bOr .u32 (bAnd .u32 a (bOr .u32 b c)) (bAnd .u32 b c) := by
  obtain ⟨a, rfl, ga⟩ := ha.nat
  obtain ⟨b, rfl, gb⟩ := hb.nat
  obtain ⟨c, rfl, gc⟩ := hc.nat
  have h1 := Nat.or_lt_two_pow (n := 32) gb gc
  have h2 : a &&& (b ||| c) < 4294967296 := Nat.lt_of_le_of_lt Nat.and_le_left ga
  have h3 : b &&& c < 4294967296 := Nat.lt_of_le_of_lt Nat.and_le_left gb
  rw [bOr_nat b c gb gc, bAnd_nat a _ ga h1, bAnd_nat b c gb gc, bOr_nat _ _ h2 h3]
  unfold mostR
  rw [most_bits a b c ga gb gc 32 (by omega), Nat.mod_eq_of_lt]
  exact Nat.or_lt_two_pow (n := 32) h2 h3
theorem pick_bits (a b c : Nat) (ha : a < 4294967296) (hb : b < 4294967296) (hc : c < 4294967296) : ∀ i, i ≤ 32 → pickO a b c i = (((c ^^^ (a &&& (b ^^^ c))) % 2 ^ i : Nat) : Int)
  | 0, _ => by simp [pickO, Nat.mod_one]
  | i + 1, hi => by
    have hm : (c ^^^ (a &&& (b ^^^ c))) < 4294967296 := Nat.xor_lt_two_pow (n := 32) hc (Nat.lt_of_le_of_lt Nat.and_le_left ha)
    rw [pickO, pick_bits a b c ha hb hc i (by omega), div_tmod2 a i (by omega), div_tmod2 b i (by omega), div_tmod2 c i (by omega), ← add_bit _ i hm (by omega)]
    have ht : (c ^^^ (a &&& (b ^^^ c))).testBit i = (c.testBit i ^^ (a.testBit i && (b.testBit i ^^ c.testBit i))) := by simp
    rw [ht]
    have h1 := shl_bit true i (by omega)
    have h0 := shl_bit false i (by omega)
    cases a.testBit i <;> cases b.testBit i <;> cases c.testBit i <;> simp at h1 h0 ⊢ <;> first | rw [h1] | rw [h0, Int.add_zero]
theorem pick_eq {a b c : Int} (ha : U32 a) (hb : U32 b) (hc : U32 c) : pickR a b c = bXor .u32 c (bAnd .u32 a (bXor .u32 b c)) := by
  obtain ⟨a, rfl, ga⟩ := ha.nat
  obtain ⟨b, rfl, gb⟩ := hb.nat
  obtain ⟨c, rfl, gc⟩ := hc.nat
  have h1 := Nat.xor_lt_two_pow (n := 32) gb gc
  have h2 : a &&& (b ^^^ c) < 4294967296 := Nat.lt_of_le_of_lt Nat.and_le_left ga
  rw [bXor_nat b c gb gc, bAnd_nat a _ ga h1, bXor_nat _ _ gc h2]
  unfold pickR
  rw [pick_bits a b c ga gb gc 32 (by omega), Nat.mod_eq_of_lt]
  exact Nat.xor_lt_two_pow (n := 32) gc h2
theorem refM_succ (bl : List Int) (t : Nat) : refM bl (t + 1) = (refM bl t).set t (if t < 16 then refB bl t else refW (refM bl t) t) := by rw [refM]
theorem refM_keep (bl : List Int) (s t : Nat) (hs : s < t) : ∀ u, (refM bl (t + u)).getD s 0 = (refM bl t).getD s 0
  | 0 => rfl
  | u + 1 => by
    rw [← Nat.add_assoc, refM_succ, ← refM_keep bl s t hs u]
    simp only [List.getD_eq_getElem?_getD]
    rw [List.getElem?_set_ne (by omega)]
@[irreducible] def schW (bl : List Int) (t : Nat) : Int := (refM bl 64).getD t 0
theorem schW_of (bl : List Int) {s t : Nat} (hs : s < t) (ht : t ≤ 64) : (refM bl t).getD s 0 = schW bl s := by
  unfold schW
  have := refM_keep bl s t hs (64 - t)
  rw [show t + (64 - t) = 64 by omega] at this
  exact this.symm
theorem schW_eq (bl : List Int) {t : Nat} (ht : t < 64) : schW bl t = if t < 16 then refB bl t else refW (refM bl t) t := by
  rw [← schW_of bl (Nat.lt_succ_self t) (by omega), refM_succ]
  simp only [List.getD_eq_getElem?_getD]
  rw [List.getElem?_set_self (by rw [refM_len]; omega)]
  rfl
theorem schW_lo (bl : List Int) {t : Nat} (ht : t < 16) : schW bl t = refB bl t := by rw [schW_eq bl (by omega), if_pos ht]
theorem schW_hi (bl : List Int) {t : Nat} (h16 : 16 ≤ t) (ht : t < 64) : schW bl t = IntKind.u32.wrap (IntKind.u32.wrap (IntKind.u32.wrap (rg3 17 19 10 (schW bl (t - 2)) + schW bl (t - 7)) + rg3 7 18 3 (schW bl (t - 15))) + schW bl (t - 16)) := by
  rw [schW_eq bl (by omega), if_neg (by omega)]
  unfold refW
  rw [schW_of bl (by omega) (by omega), schW_of bl (by omega) (by omega), schW_of bl (by omega) (by omega), schW_of bl (by omega) (by omega)]
theorem schW_U (bl : List Int) {t : Nat} (ht : t < 64) : U32 (schW bl t) := by
  by_cases h : t < 16
  · rw [schW_lo bl h]; exact wr32_U _
  · rw [schW_hi bl (by omega) ht]; exact wr32_U _
theorem mAt_nat (t : Nat) : mAt (t : Int) = t % 16 := by
  unfold mAt
  rw [tm (by omega)]
  omega
theorem atI_nat (i t : Nat) (hi : i < 8) (ht : t ≤ 64) : atI (i : Int) (t : Int) = (i + 64 - t) % 8 := by
  unfold atI
  rw [w64 (x := (i : Int) + 64) (by omega), w64 (by omega), tm (by omega)]
  omega
theorem getD_set (l : List Int) (i j : Nat) (x : Int) (hi : i < l.length) : (l.set i x).getD j 0 = if i = j then x else l.getD j 0 := by
  simp only [List.getD_eq_getElem?_getD]
  by_cases h : i = j
  · subst h
    rw [List.getElem?_set_self hi, if_pos rfl]; rfl
  · rw [List.getElem?_set_ne h, if_neg h]
def Ring (bl r : List Int) (t : Nat) : Prop := r.length = 16 ∧ ∀ s, s < max 16 t → max 16 t ≤ s + 16 → r.getD (s % 16) 0 = schW bl s
theorem Ring.step {bl r : List Int} {t : Nat} (h : Ring bl r t) (ht : t < 64) : Ring bl (shaM t r) (t + 1) := by
  obtain ⟨hl, hr⟩ := h
  refine ⟨by rw [shaM_len, hl], fun s h1 h2 => ?_⟩
  unfold shaM
  by_cases h16 : t < 16
  · rw [if_neg (by omega)]
    exact hr s (by omega) (by omega)
  · rw [if_pos (by omega)]
    have w1 : IntKind.i64.wrap ((t : Int) + 1) = ((t + 1 : Nat) : Int) := by rw [w64 (by omega)]; omega
    have w9 : IntKind.i64.wrap ((t : Int) + 9) = ((t + 9 : Nat) : Int) := by rw [w64 (by omega)]; omega
    have w14 : IntKind.i64.wrap ((t : Int) + 14) = ((t + 14 : Nat) : Int) := by rw [w64 (by omega)]; omega
    have r0 := hr (t - 16) (by omega) (by omega)
    have r1 := hr (t - 15) (by omega) (by omega)
    have r9 := hr (t - 7) (by omega) (by omega)
    have r14 := hr (t - 2) (by omega) (by omega)
    rw [show (t - 16) % 16 = t % 16 by omega] at r0
    rw [show (t - 15) % 16 = (t + 1) % 16 by omega] at r1
    rw [show (t - 7) % 16 = (t + 9) % 16 by omega] at r9
    rw [show (t - 2) % 16 = (t + 14) % 16 by omega] at r14
    rw [w1, w9, w14, mAt_nat, mAt_nat, mAt_nat, mAt_nat, r0, r1, r9, r14, getD_set _ _ _ _ (by rw [hl]; omega)]
    by_cases hs : s = t
    · subst hs
      rw [if_pos rfl, schW_hi bl (by omega) ht]
      have e1 := rg3_sig (schW_U bl (t := s - 2) (by omega)) 17 19 10 (by omega)
      have e2 := rg3_sig (schW_U bl (t := s - 15) (by omega)) 7 18 3 (by omega)
      rw [show ((10 : Nat) : Int) = 10 from rfl] at e1
      rw [show ((3 : Nat) : Int) = 3 from rfl] at e2
      rw [e1, e2]
      simp only [wr32]
      omega
    · rw [if_neg (by omega)]
      exact hr s (by omega) (by omega)
def U8 (x : Int) : Prop := 0 ≤ x ∧ x < 256
theorem shlI_32 (x n : Nat) (hn : n ≤ 32) (h : x * 2 ^ n < 4294967296) : shlI .u32 x n = ((x * 2 ^ n : Nat) : Int) := by
  unfold shlI
  have : min (n : Int).toNat IntKind.u32.bits = n := by simp [IntKind.bits]; omega
  rw [this, show (x : Int) * 2 ^ n = ((x * 2 ^ n : Nat) : Int) by push_cast; rfl]
  exact wr32_id (U32.of h)
theorem or_shl8 (x y : Nat) (hx : x < 16777216) (hy : y < 256) : bOr .u32 (shlI .u32 x 8) y = ((x * 256 + y : Nat) : Int) := by
  have := shlI_32 x 8 (by omega) (by omega)
  rw [show ((8 : Nat) : Int) = 8 from rfl] at this
  rw [this, bOr_nat _ _ (by omega) (by omega), ← Nat.shiftLeft_eq, ← Nat.shiftLeft_add_eq_or_of_lt (by omega), Nat.shiftLeft_eq]
theorem getD_all {P : Int → Prop} {l : List Int} (h : ∀ x ∈ l, P x) (h0 : P 0) (i : Nat) : P (l.getD i 0) := by
  rw [List.getD_eq_getElem?_getD]
  cases hg : l[i]? with
  | none => exact h0
  | some x => exact h x (List.mem_of_getElem? hg)
theorem U8.nat {x : Int} (h : U8 x) : ∃ n : Nat, x = n ∧ n < 256 := ⟨x.toNat, by unfold U8 at h; omega, by unfold U8 at h; omega⟩
theorem word_eq (bl : List Int) (hb : ∀ x ∈ bl, U8 x) (t : Nat) : word4 bl (4 * t) = refB bl t := by
  unfold word4 refB
  obtain ⟨a, ea, ha⟩ := (getD_all (P := U8) hb (by unfold U8; omega) (4 * t)).nat
  obtain ⟨b, eb, hb'⟩ := (getD_all (P := U8) hb (by unfold U8; omega) (4 * t + 1)).nat
  obtain ⟨c, ec, hc⟩ := (getD_all (P := U8) hb (by unfold U8; omega) (4 * t + 2)).nat
  obtain ⟨d, ed, hd⟩ := (getD_all (P := U8) hb (by unfold U8; omega) (4 * t + 3)).nat
  rw [ea, eb, ec, ed]
  rw [wr32_id (x := (a : Int)) (U32.of (by omega)), wr32_id (x := (b : Int)) (U32.of (by omega)), wr32_id (x := (c : Int)) (U32.of (by omega)), wr32_id (x := (d : Int)) (U32.of (by omega))]
  have z := or_shl8 0 a (by omega) ha
  have s0 : shlI .u32 0 8 = 0 := by decide
  rw [show shlI .u32 ((0 : Nat) : Int) 8 = 0 from s0] at z
  rw [z, or_shl8 _ b (by omega) hb', or_shl8 _ c (by omega) hc, or_shl8 _ d (by omega) hd]
  have g1 := shlI_32 a 24 (by omega) (by omega)
  have g2 := shlI_32 b 16 (by omega) (by omega)
  have g3 := shlI_32 c 8 (by omega) (by omega)
  rw [show ((24 : Nat) : Int) = 24 from rfl] at g1
  rw [show ((16 : Nat) : Int) = 16 from rfl] at g2
  rw [show ((8 : Nat) : Int) = 8 from rfl] at g3
  rw [g1, g2, g3]
  simp only [wr32]
  omega
theorem Ring.first (bl : List Int) (hb : ∀ x ∈ bl, U8 x) : Ring bl (words4 bl) 0 := by
  refine ⟨rfl, fun s h1 _ => ?_⟩
  have h16 : s < 16 := by omega
  rw [schW_lo bl h16, ← word_eq bl hb, Nat.mod_eq_of_lt h16]
  have : s = 0 ∨ s = 1 ∨ s = 2 ∨ s = 3 ∨ s = 4 ∨ s = 5 ∨ s = 6 ∨ s = 7 ∨ s = 8 ∨ s = 9 ∨ s = 10 ∨ s = 11 ∨ s = 12 ∨ s = 13 ∨ s = 14 ∨ s = 15 := by omega
  rcases this with rfl | rfl | rfl | rfl | rfl | rfl | rfl | rfl | rfl | rfl | rfl | rfl | rfl | rfl | rfl | rfl <;> rfl
def Turned (x y : List Int) (t : Nat) : Prop := x.length = 8 ∧ ∀ i, i < 8 → x.getD ((i + 64 - t) % 8) 0 = y.getD i 0
theorem Turned.step {x y m : List Int} {w : Int} {t : Nat} (h : Turned x y t) (hU : ∀ i, i < 8 → U32 (y.getD i 0)) (ht : t < 64) (hm : m.getD (t % 16) 0 = w) :
    Turned (shaX t m x) (stepX mostR pickR (shaK.getD t 0) w y) (t + 1) := by
  obtain ⟨hl, hr⟩ := h
  have a0 := atI_nat 0 t (by omega) (by omega)
  have a1 := atI_nat 1 t (by omega) (by omega)
  have a2 := atI_nat 2 t (by omega) (by omega)
  have a3 := atI_nat 3 t (by omega) (by omega)
  have a4 := atI_nat 4 t (by omega) (by omega)
  have a5 := atI_nat 5 t (by omega) (by omega)
  have a6 := atI_nat 6 t (by omega) (by omega)
  have a7 := atI_nat 7 t (by omega) (by omega)
  have h0 := hr 0 (by omega)
  have h1 := hr 1 (by omega)
  have h2 := hr 2 (by omega)
  have h3 := hr 3 (by omega)
  have h4 := hr 4 (by omega)
  have h5 := hr 5 (by omega)
  have h6 := hr 6 (by omega)
  have h7 := hr 7 (by omega)
  rw [← a0] at h0
  rw [← a1] at h1
  rw [← a2] at h2
  rw [← a3] at h3
  rw [← a4] at h4
  rw [← a5] at h5
  rw [← a6] at h6
  rw [← a7] at h7
  refine ⟨by rw [shaX_len, hl], ?_⟩
  have hadd : shaAdd t m x = IntKind.u32.wrap (IntKind.u32.wrap (IntKind.u32.wrap (IntKind.u32.wrap (y.getD 7 0 + sg3 6 11 25 (y.getD 4 0)) + pickR (y.getD 4 0) (y.getD 5 0) (y.getD 6 0)) + shaK.getD t 0) + w) := by
    unfold shaAdd
    rw [mAt_nat, hm]
    rw [show atI 7 (t : Int) = atI ((7 : Nat) : Int) t from rfl, show atI 4 (t : Int) = atI ((4 : Nat) : Int) t from rfl, show atI 5 (t : Int) = atI ((5 : Nat) : Int) t from rfl, show atI 6 (t : Int) = atI ((6 : Nat) : Int) t from rfl]
    rw [h4, h5, h6, h7, sg3_sig (hU 4 (by omega)), pick_eq (hU 4 (by omega)) (hU 5 (by omega)) (hU 6 (by omega))]
    rw [Nat.zero_add, Int.toNat_natCast]
  unfold shaX
  rw [hadd]
  rw [show atI 7 (t : Int) = atI ((7 : Nat) : Int) t from rfl, show atI 3 (t : Int) = atI ((3 : Nat) : Int) t from rfl, show atI 0 (t : Int) = atI ((0 : Nat) : Int) t from rfl, show atI 1 (t : Int) = atI ((1 : Nat) : Int) t from rfl, show atI 2 (t : Int) = atI ((2 : Nat) : Int) t from rfl]
  rw [h0, h1, h2, h3, ← most_eq (hU 0 (by omega)) (hU 1 (by omega)) (hU 2 (by omega)), ← sg3_sig (hU 0 (by omega)), a3, a7]
  intro i hi
  rw [getD_set _ _ _ _ (by rw [List.length_set, hl]; omega), getD_set _ _ _ _ (by rw [hl]; omega)]
  unfold stepX
  have : i = 0 ∨ i = 1 ∨ i = 2 ∨ i = 3 ∨ i = 4 ∨ i = 5 ∨ i = 6 ∨ i = 7 := by omega
  rcases this with rfl | rfl | rfl | rfl | rfl | rfl | rfl | rfl
  · rw [if_pos (by omega)]
    simp only [wr32, List.getD_cons_zero]
    omega
  · rw [if_neg (by omega), if_neg (by omega), show (1 + 64 - (t + 1)) % 8 = (0 + 64 - t) % 8 by omega, hr 0 (by omega)]; rfl
  · rw [if_neg (by omega), if_neg (by omega), show (2 + 64 - (t + 1)) % 8 = (1 + 64 - t) % 8 by omega, hr 1 (by omega)]; rfl
  · rw [if_neg (by omega), if_neg (by omega), show (3 + 64 - (t + 1)) % 8 = (2 + 64 - t) % 8 by omega, hr 2 (by omega)]; rfl
  · rw [if_neg (by omega), if_pos (by omega)]; rfl
  · rw [if_neg (by omega), if_neg (by omega), show (5 + 64 - (t + 1)) % 8 = (4 + 64 - t) % 8 by omega, hr 4 (by omega)]; rfl
  · rw [if_neg (by omega), if_neg (by omega), show (6 + 64 - (t + 1)) % 8 = (5 + 64 - t) % 8 by omega, hr 5 (by omega)]; rfl
  · rw [if_neg (by omega), if_neg (by omega), show (7 + 64 - (t + 1)) % 8 = (6 + 64 - t) % 8 by omega, hr 6 (by omega)]; rfl
theorem stepX_U {k w : Int} {y : List Int} (hU : ∀ i, i < 8 → U32 (y.getD i 0)) : ∀ i, i < 8 → U32 ((stepX mostR pickR k w y).getD i 0) := by
  intro i hi
  unfold stepX
  have : i = 0 ∨ i = 1 ∨ i = 2 ∨ i = 3 ∨ i = 4 ∨ i = 5 ∨ i = 6 ∨ i = 7 := by omega
  rcases this with rfl | rfl | rfl | rfl | rfl | rfl | rfl | rfl
  · exact wr32_U _
  · exact hU 0 (by omega)
  · exact hU 1 (by omega)
  · exact hU 2 (by omega)
  · exact wr32_U _
  · exact hU 4 (by omega)
  · exact hU 5 (by omega)
  · exact hU 6 (by omega)
def W8 (st : List Int) : Prop := st.length = 8 ∧ ∀ x ∈ st, U32 x
theorem W8.get {st : List Int} (h : W8 st) (i : Nat) : U32 (st.getD i 0) := getD_all h.2 (by unfold U32; omega) i
theorem turns_eq (bl st : List Int) (hb : ∀ x ∈ bl, U8 x) (hs : W8 st) : ∀ t, t ≤ 64 → Ring bl (shaT (words4 bl) st t).1 t ∧ Turned (shaT (words4 bl) st t).2 (refX mostR pickR (refM bl 64) st t) t ∧ ∀ i, i < 8 → U32 ((refX mostR pickR (refM bl 64) st t).getD i 0)
  | 0, _ => by
    rw [shaT_zero, refX_zero]
    refine ⟨Ring.first bl hb, ⟨hs.1, fun i hi => ?_⟩, fun i _ => hs.get i⟩
    rw [show (i + 64 - 0) % 8 = i by omega]
  | t + 1, h => by
    obtain ⟨h1, h2, h3⟩ := turns_eq bl st hb hs t (by omega)
    rw [shaT_succ, refX_succ]
    have hR := h1.step (by omega)
    refine ⟨hR, h2.step h3 (by omega) ?_, stepX_U h3⟩
    rw [hR.2 t (by omega) (by omega)]
    unfold schW
    rfl
theorem refA_succ (st x : List Int) (i : Nat) : refA st x (i + 1) = (refA st x i).set i (IntKind.u32.wrap ((refA st x i).getD i 0 + st.getD i 0)) := by rw [refA]
theorem refA_zero (st x : List Int) : refA st x 0 = x := by rw [refA]
theorem refA_eq (st x : List Int) (hs : st.length = 8) (hx : x.length = 8) : refA st x 8 = addS st x := by
  obtain ⟨a0, a1, a2, a3, a4, a5, a6, a7, rfl⟩ := eight st hs
  obtain ⟨b0, b1, b2, b3, b4, b5, b6, b7, rfl⟩ := eight x hx
  simp only [refA_succ, refA_zero]
  simp [addS, List.set, Int.add_comm]
theorem turned_end {x y : List Int} (h : Turned x y 64) (hy : y.length = 8) : y = x := by
  obtain ⟨h4, h5⟩ := h
  obtain ⟨a0, a1, a2, a3, a4, a5, a6, a7, rfl⟩ := eight _ hy
  obtain ⟨b0, b1, b2, b3, b4, b5, b6, b7, rfl⟩ := eight _ h4
  have g0 := h5 0 (by omega)
  have g1 := h5 1 (by omega)
  have g2 := h5 2 (by omega)
  have g3 := h5 3 (by omega)
  have g4 := h5 4 (by omega)
  have g5 := h5 5 (by omega)
  have g6 := h5 6 (by omega)
  have g7 := h5 7 (by omega)
  simp at g0 g1 g2 g3 g4 g5 g6 g7
  simp [g0, g1, g2, g3, g4, g5, g6, g7]
theorem refPress_eq (st bl : List Int) (hb : ∀ x ∈ bl, U8 x) (hs : W8 st) : refPress st bl = press st bl := by
  obtain ⟨_, h2, h3⟩ := turns_eq bl st hb hs 64 (by omega)
  have hl := refX_len (M := mostR) (P := pickR) (m := refM bl 64) hs.1 64
  unfold refPress press
  rw [refA_eq _ _ hs.1 hl]
  congr 1
  exact turned_end h2 hl
theorem press_W8 (st bl : List Int) (hs : st.length = 8) : W8 (press st bl) := by
  refine ⟨press_len st bl hs, fun x hx => ?_⟩
  unfold press addS at hx
  obtain ⟨i, hi, rfl⟩ := List.getElem_of_mem hx
  simp only [List.getElem_zipWith]
  exact wr32_U _
def blks (P : List Int → List Int → List Int) : Nat → List Int → List Int → List Int
  | 0, st, _ => st
  | n + 1, st, ms => blks P n (P st (ms.take 64)) (ms.drop 64)
theorem blks_succ (P : List Int → List Int → List Int) : ∀ (n : Nat) (st ms : List Int), blks P (n + 1) st ms = P (blks P n st ms) ((ms.drop (64 * n)).take 64)
  | 0, _, _ => rfl
  | n + 1, st, ms => by
    rw [blks, blks_succ P n, List.drop_drop]
    rw [show 64 + 64 * n = 64 * (n + 1) by omega]
    rfl
theorem blks_app (P : List Int → List Int → List Int) : ∀ (n : Nat) (st ms more : List Int), 64 * n ≤ ms.length → blks P n st (ms ++ more) = blks P n st ms
  | 0, _, _, _, _ => rfl
  | n + 1, st, ms, more, h => by
    rw [blks, blks, List.take_append_of_le_length (by omega), List.drop_append_of_le_length (by omega), blks_app P n _ _ _ (by rw [List.length_drop]; omega)]
theorem blks_congr : ∀ (n : Nat) (st ms : List Int), W8 st → (∀ x ∈ ms, U8 x) → blks refPress n st ms = blks press n st ms
  | 0, _, _, _, _ => rfl
  | n + 1, st, ms, hs, hm => by
    rw [blks, blks, refPress_eq st _ (fun x hx => hm x (List.mem_of_mem_take hx)) hs]
    exact blks_congr n _ _ (press_W8 st _ hs.1) fun x hx => hm x (List.mem_of_mem_drop hx)
structure Rep (r : RunS) (ms : List Int) : Prop where
  came : r.came = ms.length
  st : r.st = blks press (ms.length / 64) initR.st ms
  len : r.part.length = 64
  part : r.part.take (ms.length % 64) = ms.drop (64 * (ms.length / 64))
theorem Rep.ok {r : RunS} {ms : List Int} (h : Rep r ms) (h8 : r.st.length = 8) : r.Ok := ⟨h8, h.len, by rw [h.came]; omega⟩
theorem Rep.one {r : RunS} {ms : List Int} (h : Rep r ms) (bs : List Int) : Rep (r.one bs) (ms ++ wTk r.came bs) := by
  have ha : wAt r.came = ms.length % 64 := by
    unfold wAt
    rw [h.came, tm (by omega)]
    omega
  have hk : (wTk r.came bs).length ≤ 64 - ms.length % 64 := by
    unfold wTk
    rw [ha, List.length_take]
    omega
  have hdl : (ms.drop (64 * (ms.length / 64))).length = ms.length % 64 := by rw [List.length_drop]; omega
  have hp : wPart r.part r.came bs = ms.drop (64 * (ms.length / 64)) ++ wTk r.came bs ++ r.part.drop (ms.length % 64 + (wTk r.came bs).length) := by
    unfold wPart spl
    rw [ha, h.part]
  have hl : (wPart r.part r.came bs).length = 64 := by
    rw [hp, List.length_append, List.length_append, hdl, List.length_drop, h.len]
    omega
  have hst : (r.one bs).st = if ms.length % 64 + (wTk r.came bs).length = 64 then press r.st (wPart r.part r.came bs) else r.st := by
    show wSt _ _ _ _ = _
    unfold wSt
    rw [ha]
  have hca : (r.one bs).came = r.came + (wTk r.came bs).length := rfl
  have hpa : (r.one bs).part = wPart r.part r.came bs := rfl
  generalize wTk r.came bs = tk at *
  generalize wPart r.part r.came bs = pa at *
  have hal : (ms ++ tk).length = ms.length + tk.length := List.length_append
  refine ⟨by rw [hca, h.came, hal]; omega, ?_, by rw [hpa]; exact hl, ?_⟩
  · rw [hst, h.st]
    by_cases h64 : ms.length % 64 + tk.length = 64
    · rw [if_pos h64, hal, show (ms.length + tk.length) / 64 = ms.length / 64 + 1 by omega, blks_succ, blks_app _ _ _ _ _ (by omega)]
      congr 1
      rw [List.drop_append_of_le_length (by omega), hp, show r.part.drop (ms.length % 64 + tk.length) = [] from List.drop_eq_nil_of_le (by rw [h.len]; omega), List.append_nil, List.take_of_length_le (by rw [List.length_append, hdl]; omega)]
    · rw [if_neg h64, hal, show (ms.length + tk.length) / 64 = ms.length / 64 by omega, blks_app _ _ _ _ _ (by omega)]
  · rw [hpa, hal]
    by_cases h64 : ms.length % 64 + tk.length = 64
    · rw [show (ms.length + tk.length) % 64 = 0 by omega, List.take_zero, List.drop_eq_nil_of_le (by rw [hal]; omega)]
    · rw [show (ms.length + tk.length) / 64 = ms.length / 64 by omega, show (ms.length + tk.length) % 64 = ms.length % 64 + tk.length by omega, hp, List.drop_append_of_le_length (by omega)]
      rw [List.take_append_of_le_length (by rw [List.length_append, hdl]; omega)]
      exact List.take_of_length_le (by rw [List.length_append, hdl]; omega)
theorem Rep.many : ∀ (n : Nat) (r : RunS) (ms bs : List Int), r.Ok → Rep r ms → bs.length ≤ n → Rep (RunS.many n r bs).1 (ms ++ bs)
  | 0, r, ms, bs, _, h, hn => by
    have : bs = [] := List.eq_nil_of_length_eq_zero (by omega)
    subst this
    rw [List.append_nil]
    exact h
  | n + 1, r, ms, bs, hr, h, hn => by
    unfold RunS.many
    split
    · rw [List.append_nil]; exact h
    · rename_i b bs
      have hp := wTk_pos hr (bs := b :: bs) (by simp)
      have hb : (b :: bs) = wTk r.came (b :: bs) ++ (b :: bs).drop (wTk r.came (b :: bs)).length := by
        unfold wTk
        rw [List.length_take]
        by_cases h : 64 - wAt r.came ≤ (b :: bs).length
        · rw [Nat.min_eq_left h, List.take_append_drop]
        · rw [Nat.min_eq_right (by omega), List.take_of_length_le (by omega), List.drop_length, List.append_nil]
      have := Rep.many n _ _ ((b :: bs).drop (wTk r.came (b :: bs)).length) (hr.one _) (h.one (b :: bs)) (by rw [List.length_drop]; simp only [List.length_cons] at hn ⊢; omega)
      rw [List.append_assoc, ← hb] at this
      exact this
theorem Rep.write {r : RunS} {ms : List Int} (hr : r.Ok) (h : Rep r ms) (bs : List Int) : Rep (r.write bs) (ms ++ bs) := by
  unfold RunS.write
  exact Rep.many _ _ _ _ hr h (Nat.le_refl _)
theorem Rep.init : Rep initR [] := ⟨rfl, rfl, rfl, rfl⟩
def refPad (bs : List Int) : List Int := bs ++ padB bs.length ++ len8 bs.length
def shaAll (P : List Int → List Int → List Int) (bs : List Int) : List Int := hashB (blks P ((refPad bs).length / 64) initR.st (refPad bs))
theorem Rep.fin {r : RunS} {ms : List Int} (hr : r.Ok) (h : Rep r ms) : r.fin = shaAll press ms := by
  have h1 := h.write hr (padB r.came)
  have h2 := h1.write (write_ok _ _ hr) (len8 r.came)
  unfold RunS.fin shaAll
  rw [h2.st, h.came]
  rfl
theorem sha1_all (bs : List Int) : sha1 bs = shaAll press bs := by
  unfold sha1
  have := Rep.init.write initR_ok bs
  exact this.fin (write_ok _ _ initR_ok)
theorem sha2_all (a b : List Int) : sha2 a b = sha1 (a ++ b) := by
  rw [sha1_all]
  unfold sha2
  have h1 := Rep.init.write initR_ok a
  have h2 := h1.write (write_ok _ _ initR_ok) b
  exact h2.fin (write_ok _ _ (write_ok _ _ initR_ok))
theorem initR_W8 : W8 initR.st := by
  refine ⟨rfl, fun x hx => ?_⟩
  simp only [initR, List.mem_cons, List.not_mem_nil, or_false] at hx
  unfold U32
  rcases hx with rfl | rfl | rfl | rfl | rfl | rfl | rfl | rfl <;> omega
theorem padB_U8 (n : Int) : ∀ x ∈ padB n, U8 x := by
  intro x hx
  unfold padB at hx
  rcases List.mem_append.mp hx with h | h
  · rw [List.mem_singleton] at h
    subst h
    unfold U8; omega
  · rw [List.eq_of_mem_replicate h]
    unfold U8; omega
theorem wr8_U8 (x : Int) : U8 (IntKind.u8.wrap x) := by rw [wr8]; unfold U8; omega
theorem len8_U8 (n : Int) : ∀ x ∈ len8 n, U8 x := by
  intro x hx
  unfold len8 told8 at hx
  simp only [List.mem_cons, List.not_mem_nil, or_false] at hx
  rcases hx with h | h | h | h | h | h | h | h <;> rw [h] <;> exact wr8_U8 _
theorem refPad_U8 {bs : List Int} (h : ∀ x ∈ bs, U8 x) : ∀ x ∈ refPad bs, U8 x := by
  intro x hx
  unfold refPad at hx
  rcases List.mem_append.mp hx with h1 | h1
  · rcases List.mem_append.mp h1 with h2 | h2
    · exact h x h2
    · exact padB_U8 _ x h2
  · exact len8_U8 _ x h1
theorem told4_U8 (n : Int) : ∀ x ∈ told4 n, U8 x := by
  intro x hx
  unfold told4 at hx
  simp only [List.mem_cons, List.not_mem_nil, or_false] at hx
  rcases hx with h | h | h | h <;> rw [h] <;> exact wr8_U8 _
theorem hashB_U8 (st : List Int) : ∀ x ∈ hashB st, U8 x := by
  intro x hx
  unfold hashB at hx
  simp only [List.mem_append] at hx
  rcases hx with (((((((h | h) | h) | h) | h) | h) | h) | h) <;> exact told4_U8 _ x h
theorem sha1_U8 (bs : List Int) : ∀ x ∈ sha1 bs, U8 x := by rw [sha1_all]; exact hashB_U8 _
end Go.Tk
end
section
namespace Go.Tk
theorem pressOk : PressOk refPress := ⟨fun st bl h => pressr_pure st bl h, fun _ _ h => refPress_len h⟩
theorem toN_succ (x : List Int) (i : Nat) : toN x (i + 1) = ((((toN x i).set (4 * i) (IntKind.u8.wrap (IntKind.u32.wrap (Int.tdiv (x.getD i 0) 16777216)))).set (4 * i + 1) (toE (x.getD i 0) 65536)).set (4 * i + 2) (toE (x.getD i 0) 256)).set (4 * i + 3) (IntKind.u8.wrap (Int.tmod (x.getD i 0) 256)) := by rw [toN]
theorem toN_zero (x : List Int) : toN x 0 = zero32 := by rw [toN]
def four (x : Int) : List Int := [IntKind.u8.wrap (IntKind.u32.wrap (Int.tdiv x 16777216)), toE x 65536, toE x 256, IntKind.u8.wrap (Int.tmod x 256)]
theorem toldX_len (x : List Int) : (toldX x).length = 32 := by unfold toldX; exact toN_len x 8
theorem toldX_four (x : List Int) (h : x.length = 8) : toldX x = four (x.getD 0 0) ++ four (x.getD 1 0) ++ four (x.getD 2 0) ++ four (x.getD 3 0) ++ four (x.getD 4 0) ++ four (x.getD 5 0) ++ four (x.getD 6 0) ++ four (x.getD 7 0) := by
  unfold toldX
  simp only [toN_succ, toN_zero]
  generalize x.getD 0 0 = x0
  generalize x.getD 1 0 = x1
  generalize x.getD 2 0 = x2
  generalize x.getD 3 0 = x3
  generalize x.getD 4 0 = x4
  generalize x.getD 5 0 = x5
  generalize x.getD 6 0 = x6
  generalize x.getD 7 0 = x7
  kernel_rfl
theorem wr64 (x : Int) : IntKind.u64.wrap x = x % 18446744073709551616 := by
  unfold IntKind.wrap
  simp [IntKind.bits, IntKind.signed]
theorem shr64 (x n : Nat) (hn : n ≤ 64) : shrI .u64 x n = ((x / 2 ^ n : Nat) : Int) := by
  unfold shrI
  have : min (n : Int).toNat IntKind.u64.bits = n := by simp [IntKind.bits]; omega
  rw [this, Int.fdiv_eq_ediv_of_nonneg _ (Int.le_of_lt (Int.pow_pos (by decide)))]
  simp
theorem four_told {x : Int} (h : U32 x) : four x = told4 (IntKind.u64.wrap x) := by
  obtain ⟨x, rfl, gx⟩ := h.nat
  have e : IntKind.u64.wrap (x : Int) = x := by rw [wr64]; omega
  have s24 := shr64 x 24 (by omega)
  have s16 := shr64 x 16 (by omega)
  have s8 := shr64 x 8 (by omega)
  have s0 := shr64 x 0 (by omega)
  rw [show ((24 : Nat) : Int) = 24 from rfl] at s24
  rw [show ((16 : Nat) : Int) = 16 from rfl] at s16
  rw [show ((8 : Nat) : Int) = 8 from rfl] at s8
  rw [show ((0 : Nat) : Int) = 0 from rfl] at s0
  have d1 : Int.tdiv (x : Int) 16777216 = (x : Int) / 16777216 := Int.tdiv_eq_ediv_of_nonneg (by omega)
  have d2 : Int.tdiv (x : Int) 65536 = (x : Int) / 65536 := Int.tdiv_eq_ediv_of_nonneg (by omega)
  have d3 : Int.tdiv (x : Int) 256 = (x : Int) / 256 := Int.tdiv_eq_ediv_of_nonneg (by omega)
  unfold four told4 toE
  rw [e, s24, s16, s8, s0, d1, d2, d3]
  simp only [wr8, wr32]
  rw [tm (a := (x : Int) / 65536 % 4294967296) (by omega), tm (a := (x : Int) / 256 % 4294967296) (by omega), tm (a := (x : Int)) (by omega)]
  simp only [List.cons.injEq, and_true]
  omega
theorem toldX_hash {x : List Int} (h : W8 x) : toldX x = hashB x := by
  rw [toldX_four x h.1]
  unfold hashB
  rw [four_told (h.get 0), four_told (h.get 1), four_told (h.get 2), four_told (h.get 3), four_told (h.get 4), four_told (h.get 5), four_told (h.get 6), four_told (h.get 7)]
theorem padE_told (n : Nat) (i : Nat) (hi : i < 8) : padE n i = IntKind.u8.wrap (shrI .u64 (IntKind.u64.wrap (IntKind.u64.wrap n * 8)) ((56 - 8 * i : Nat) : Int)) := by
  unfold padE
  have e1 : IntKind.i64.wrap (8 * (i : Int)) = 8 * (i : Int) := w64 (by omega)
  have e2 : IntKind.i64.wrap (56 - 8 * (i : Int)) = ((56 - 8 * i : Nat) : Int) := by rw [w64 (by omega)]; omega
  have e3 : IntKind.u64.wrap ((56 - 8 * i : Nat) : Int) = ((56 - 8 * i : Nat) : Int) := by rw [wr64]; omega
  rw [e1, e2, e3]
  obtain ⟨m, hm⟩ : ∃ m : Nat, IntKind.u64.wrap (IntKind.u64.wrap n * 8) = m := ⟨(IntKind.u64.wrap (IntKind.u64.wrap n * 8)).toNat, by rw [wr64, wr64]; omega⟩
  rw [hm, shr64 m _ (by omega)]
  generalize m / 2 ^ (56 - 8 * i) = q
  rw [tm (by omega), wr8, wr8]
  omega
theorem padN_len8 (n : Nat) : padN n 8 = len8 n := by
  simp only [padN, List.nil_append, List.cons_append]
  unfold len8 told8
  rw [padE_told n 0 (by omega), padE_told n 1 (by omega), padE_told n 2 (by omega), padE_told n 3 (by omega), padE_told n 4 (by omega), padE_told n 5 (by omega), padE_told n 6 (by omega), padE_told n 7 (by omega)]
  rfl
theorem padZ_padB (n : Nat) (h : n ≤ 100000000000) : [128] ++ padZ n = padB n := by
  unfold padZ padB
  have e1 : Int.tmod (n : Int) 64 = (n : Int) % 64 := tm (by omega)
  have e2 : IntKind.i64.wrap (119 - (n : Int) % 64) = 119 - (n : Int) % 64 := w64 (by omega)
  rw [padX n h, e1, e2, tm (by omega)]
  congr 2
  omega
theorem padR_pad (bs : List Int) (h : bs.length ≤ 100000000000) : padR bs = refPad bs := by
  unfold padR refPad
  rw [padN_len8, List.append_assoc bs, padZ_padB _ h]
theorem sumN_blks (P : List Int → List Int → List Int) (ys : List Int) : ∀ i, sumN P ys i = blks P i initR.st ys
  | 0 => sumN_zero P ys
  | i + 1 => by rw [sumN_succ, blks_succ, sumN_blks P ys i]
theorem blks_W8 : ∀ (n : Nat) (st ms : List Int), W8 st → W8 (blks press n st ms)
  | 0, _, _, h => h
  | n + 1, st, _, h => blks_W8 n _ _ (press_W8 st _ h.1)
@[irreducible] def sumD (bs : List Int) : List Int := rSum refPress bs
theorem sumD_len (bs : List Int) : (sumD bs).length = 32 := by unfold sumD rSum; exact toldX_len _
theorem sumD_eq {bs : List Int} (h : ∀ x ∈ bs, U8 x) (hl : bs.length ≤ 100000000000) : sumD bs = sha1 bs := by
  unfold sumD rSum
  rw [sumN_blks, padR_pad bs hl, blks_congr _ _ _ initR_W8 (refPad_U8 h), toldX_hash (blks_W8 _ _ _ initR_W8), sha1_all]
  rfl
theorem sumD_pure (xs : List Int) (h : xs.length ≤ 100000000000) : Pure PP 91 [.vints .u8 xs xs.length] (.agg [.arr .u8 32 (sumD xs)]) 0 [] := by
  unfold sumD
  exact sumr_pure pressOk xs h
theorem xorN_eq (c : Int) (b : List Int) : ∀ i, i ≤ b.length → xorN c b i = (b.take i).map (fun x => bXor .u8 x c) ++ b.drop i
  | 0, _ => by rw [xorN_zero]; simp
  | i + 1, h => by
    rw [xorN_succ, xorN_eq c b i (by omega)]
    unfold xorAt
    have hl : ((b.take i).map (fun x => bXor .u8 x c)).length = i := by rw [List.length_map, List.length_take]; omega
    obtain ⟨y, hy⟩ : ∃ y, b[i]? = some y := ⟨b[i], List.getElem?_eq_getElem (by omega)⟩
    have hd : b.drop i = y :: b.drop (i + 1) := by
      rw [List.drop_eq_getElem_cons (by omega)]
      congr 1
      have := List.getElem?_eq_getElem (l := b) (i := i) (by omega)
      rw [this] at hy
      exact Option.some.inj hy
    rw [hd, Nat.zero_add, List.getD_eq_getElem?_getD, List.getElem?_append_right (by omega), hl, Nat.sub_self, List.set_append_right _ _ (by omega), hl, Nat.sub_self]
    rw [List.take_add_one, hy]
    simp
theorem xorL_map (c : Int) (b : List Int) (h : b.length = 64) : xorL c b = b.map (fun x => bXor .u8 x c) := by
  unfold xorL
  rw [xorN_eq c b 64 (by omega), ← h, List.take_length, List.drop_length, List.append_nil]
theorem kxR_map (key : List Int) (c : Int) (hk : key.length = 32) (h0 : bXor .u8 0 c = c) : ∀ i, i ≤ 64 → kxR key c i = ((key ++ List.replicate 32 0).take i).map (fun x => bXor .u8 x c)
  | 0, _ => by rw [kxR]; rfl
  | i + 1, h => by
    rw [kxR, kxR_map key c hk h0 i (by omega), List.take_add_one, List.map_append]
    congr 1
    unfold kxE
    by_cases hi : i < 32
    · rw [if_pos (by omega), List.getElem?_append_left (by omega), List.getD_eq_getElem?_getD, List.getElem?_eq_getElem (by omega)]
      rfl
    · rw [if_neg (by omega), List.getElem?_append_right (by omega), List.getElem?_replicate, if_pos (by omega)]
      simp [h0]
theorem keyB_app (key : List Int) (hk : key.length = 32) : keyB key = key ++ List.replicate 32 0 := by
  have e1 : List.take 32 key = key := List.take_of_length_le (by rw [hk]; exact Nat.le_refl _)
  have e2 : List.take 64 key = key := List.take_of_length_le (by rw [hk]; omega)
  unfold keyB spl
  rw [e1, e2, hk]
  rfl
theorem kx_xor (key : List Int) (c : Int) (hk : key.length = 32) (h0 : bXor .u8 0 c = c) : kxR key c 64 = xorL c (keyB key) := by
  rw [xorL_map c _ (keyB_len key), kxR_map key c hk h0 64 (by omega), keyB_app key hk, List.take_of_length_le (by simp [hk])]
theorem map_U8 (c : Int) (b : List Int) : ∀ x ∈ b.map (fun x => bXor .u8 x c), U8 x := by
  intro x hx
  obtain ⟨y, _, rfl⟩ := List.mem_map.mp hx
  exact wr8_U8 _
theorem app_U8 {a b : List Int} (ha : ∀ x ∈ a, U8 x) (hb : ∀ x ∈ b, U8 x) : ∀ x ∈ a ++ b, U8 x := fun x hx => (List.mem_append.mp hx).elim (ha x) (hb x)
theorem hmac_eq {key ms : List Int} (hk : key.length = 32) (hm : ms.length = 32) (hU : ∀ x ∈ ms, U8 x) : hmacR sumD key ms = hmac1 key ms := by
  have k1 := kx_xor key 92 hk (by decide)
  have k2 := kx_xor key 54 hk (by decide)
  have l1 := xorL_len 92 _ (keyB_len key)
  have l2 := xorL_len 54 _ (keyB_len key)
  have u1 : ∀ x ∈ xorL 92 (keyB key), U8 x := by rw [xorL_map _ _ (keyB_len key)]; exact map_U8 _ _
  have u2 : ∀ x ∈ xorL 54 (keyB key), U8 x := by rw [xorL_map _ _ (keyB_len key)]; exact map_U8 _ _
  unfold hmacR hmac1
  rw [k1, k2, sha2_all]
  have h2 : ((initR.write (xorL 54 (keyB key))).write ms).fin = sha1 (xorL 54 (keyB key) ++ ms) := by
    rw [← sha2_all]; unfold sha2; rfl
  rw [h2, sumD_eq (bs := xorL 54 (keyB key) ++ ms) (app_U8 u2 hU) (by rw [List.length_append, l2, hm]; decide)]
  rw [sumD_eq (app_U8 u1 (sha1_U8 _)) (by rw [List.length_append, l1, sha1_len]; decide)]
theorem twice_eq {bs : List Int} (h : ∀ x ∈ bs, U8 x) (hl : bs.length ≤ 100000000000) : twiceR sumD bs = shaT2 bs := by
  unfold twiceR shaT2
  rw [sumD_eq h hl, sumD_eq (sha1_U8 _) (by rw [sha1_len]; decide)]
end Go.Tk
end
section
namespace Go.Tk
noncomputable def E60 (R : TxS → Bool → List Int) (H : List Int → List Int) (T2 : List Int → List Int → List Int) (B : Nat) : Env2 := ((G0.withF 87 (rawF R)).withP 86 (hashS H B)).withP 90 (tagRS T2)
set_option maxRecDepth 100000 in
set_option maxHeartbeats 0 in
theorem nmr_1 (R : TxS → Bool → List Int) (H : List Int → List Int) (T2 : List Int → List Int → List Int) (B : Nat) (t : TxS) (r : List Int) (ht : t.Fine) (hb : (R t true).length ≤ B) (hr : r = H (R t true)) :
    evF (E60 R H T2 B) 20 45 [.agg t.c] ⟨0, []⟩ (outM 0 (.ret (.agg [.arr .u8 32 r])) 0 []) := by
  refine @Eq.mpr _ (let q1 := t.N;
 let q2 := t.M;
 ∃ (t_1 : TxS),
 let q5 := List.length (R t_1 true);
 let q6 := List.take q5 (dropZ 0 (R t_1 true));
 let q7 := List.length q6;
 (t_1.num = t.num ∧ ((q1 = q1 ∧ t_1.N = q1) ∧ ∀ (i : Nat), i < q1 → inRows t.ins i = InS.c (t_1.ins i)) ∧ (q2 = q2 ∧ t_1.M = q2) ∧ ∀ (i : Nat), i < q2 → outRows t.outs i = OutS.c (t_1.outs i)) ∧ TxS.Fine t_1 ∧ iteB (decide (0 + q5 ≤ q5)) (iteB (decide (q5 = q7)) (iteB (decide (q7 ≤ B)) (H q6 = r ∧ True) False) False) False) (by kernel_rfl) ?_
  conv => zeta
  try simp only [need_eq]
  try simp only [nope_eq]
  try simp only [iteD_eq]
  try simp only [iteT_eq]
  try simp only [iteF_eq]
  try simp only [iteE_eq]
  try simp only [Int.toNat_natCast, Nat.zero_add, true_and, and_true, Nat.le_refl]
  refine ⟨t, ⟨rfl, ⟨rfl, fun _ _ => rfl⟩, rfl, fun _ _ => rfl⟩, ht, ?_⟩
  rw [take_dz rfl]
  exact ⟨rfl, hb, hr.symm⟩
set_option maxRecDepth 100000 in
set_option maxHeartbeats 0 in
theorem tgr_1 (R : TxS → Bool → List Int) (H : List Int → List Int) (T2 : List Int → List Int → List Int) (B : Nat) (t : TxS) (key r : List Int) (ht : t.Fine) (hk : key.length = 32) (hb : (R t true).length ≤ B) (hl : (H (R t true)).length = 32) (hr : r = T2 key (H (R t true))) :
    evF (E60 R H T2 B) 20 52 [.agg t.c, .agg [.arr .u8 32 key]] ⟨0, []⟩ (outM 0 (.ret (.agg [.arr .u8 32 r])) 0 []) := by
  refine @Eq.mpr _ (let q1 := t.N;
 let q2 := t.M;
 ∃ (t_1 : TxS),
 let q5 := List.length (R t_1 true);
 let q6 := List.take q5 (dropZ 0 (R t_1 true));
 let q7 := List.length q6;
 let q8 := H q6;
 (t_1.num = t.num ∧ ((q1 = q1 ∧ t_1.N = q1) ∧ ∀ (i : Nat), i < q1 → inRows t.ins i = InS.c (t_1.ins i)) ∧ (q2 = q2 ∧ t_1.M = q2) ∧ ∀ (i : Nat), i < q2 → outRows t.outs i = OutS.c (t_1.outs i)) ∧ TxS.Fine t_1 ∧ iteB (decide (0 + q5 ≤ q5)) (iteB (decide (q5 = q7)) (iteB (decide (q7 ≤ B)) (iteB (decide (List.length key = 32)) (iteB (decide (List.length q8 = 32)) (iteB (decide (List.length key = 32 ∧ (32 : Nat) = 32 ∧ List.length q8 = 32 ∧ (32 : Nat) = 32)) (T2 key q8 = r ∧ True) False) False) False) False) False) False) (by kernel_rfl) ?_
  conv => zeta
  try simp only [need_eq]
  try simp only [nope_eq]
  try simp only [iteD_eq]
  try simp only [iteT_eq]
  try simp only [iteF_eq]
  try simp only [iteE_eq]
  try simp only [Int.toNat_natCast, Nat.zero_add, true_and, and_true, Nat.le_refl]
  refine ⟨t, ⟨rfl, ⟨rfl, fun _ _ => rfl⟩, rfl, fun _ _ => rfl⟩, ht, ?_⟩
  rw [take_dz rfl]
  repeat' (first | (refine And.intro ?_ ?_) | intro _)
  all_goals first | omega | assumption | trivial | exact hr.symm
def nameRS (Nm : TxS → List Int) : PSumm := fun args h K => viewL none h true 20 args fun a => match a with
  | [.agg l] => ∃ t, isTx l t ∧ t.Fine ∧ K (.agg [.arr .u8 32 (Nm t)])
  | _ => False
def tagtRS (Tg : List Int → TxS → List Int) : PSumm := fun args h K => viewL none h true 20 args fun a => match a with
  | [.agg l, .agg [.arr .u8 32 key]] => ∃ t, isTx l t ∧ (t.Fine ∧ key.length = 32) ∧ K (.agg [.arr .u8 32 (Tg key t)])
  | _ => False
structure HashOk (H : List Int → List Int) (T2 : List Int → List Int → List Int) : Prop where
  h : ∀ args h K, hashS H 100000 args h K → CallsA PP 86 args h fun o h' => ∃ v, o = .ret v ∧ h' = h ∧ K v
  t : ∀ args h K, tagRS T2 args h K → CallsA PP 90 args h fun o h' => ∃ v, o = .ret v ∧ h' = h ∧ K v
  r : ∀ args h K, rawF (rawT numW) args h K → CallsA PP 87 args h K
  hl : ∀ x, (H x).length = 32
theorem E60_ok {H : List Int → List Int} {T2 : List Int → List Int → List Int} (hp : HashOk H T2) : (E60 (rawT numW) H T2 100000).Ok := Env2.withP_ok (Env2.withP_ok (Env2.withF_ok G0_ok hp.r) hp.h) hp.t
@[irreducible] def nameR (H : List Int → List Int) (t : TxS) : List Int := H (rawT numW t true)
@[irreducible] def tagtR (H : List Int → List Int) (T2 : List Int → List Int → List Int) (key : List Int) (t : TxS) : List Int := T2 key (H (rawT numW t true))
theorem tagr1_pure {H : List Int → List Int} {T2 : List Int → List Int → List Int} (hp : HashOk H T2) (t : TxS) (key : List Int) (ht : t.Fine) (hk : key.length = 32) : Pure PP 52 [.agg t.c, .agg [.arr .u8 32 key]] (.agg [.arr .u8 32 (tagtR H T2 key t)]) 0 [] := by
  unfold tagtR
  have := rawO_len ht true (Nat.le_refl t.M)
  exact .evM (E60_ok hp) (tgr_1 (rawT numW) H T2 100000 t key _ ht hk (by have hb' : (rawT numW t true).length ≤ 20000 := this; omega) (hp.hl _) rfl)
theorem tagtRS_ok {H : List Int → List Int} {T2 : List Int → List Int → List Int} (hp : HashOk H T2) (args : List AV) (h : Heap) (K : AV → Prop) (hl : tagtRS (tagtR H T2) args h K) : CallsA PP 52 args h fun o h' => ∃ v, o = .ret v ∧ h' = h ∧ K v := by
  refine Pure.psumm (d := 20) (viewL_weak _ _ _ _ _ hl fun a ha => ?_)
  split at ha
  · obtain ⟨t, h1, ⟨h2, h3⟩, hK⟩ := ha
    exact ⟨_, (tagr1_pure hp t _ h2 h3).conv fun E r hr => hr.head (fun _ hc => h1.rel hc) (fun _ hc => hc), fun _ => rfl, hK⟩
  · exact ha.elim
end Go.Tk
end
section
namespace Go.Tk
end Go.Tk
end
section
namespace Go.Tk
theorem Bytes.u8 {xs : List Int} (h : Bytes xs) : ∀ x ∈ xs, U8 x := by
  intro x hx
  obtain ⟨i, hi, rfl⟩ := List.getElem_of_mem hx
  have := h.h i
  rw [List.getD_eq_getElem?_getD, List.getElem?_eq_getElem hi] at this
  simp at this
  unfold U8
  omega
theorem Bytes.of {xs : List Int} (h : ∀ x ∈ xs, U8 x) : Bytes xs := ⟨fun i => by
  have := getD_all (P := U8) h (by unfold U8; omega) i
  unfold U8 at this
  omega⟩
theorem hashOk : HashOk (twiceR sumD) (hmacR sumD) where
  h := fun args h K hl => twiceR_ok (B := 100000) (fun xs hx => sumD_pure xs (by omega)) (by decide) sumD_len args h K hl
  t := fun args h K hl => tagRS_ok (B := 100000) (fun xs hx => sumD_pure xs (by omega)) (by decide) sumD_len args h K hl
  r := bytesrF_ok
  hl := fun x => by unfold twiceR; exact sumD_len _
@[irreducible] def nameD (t : TxS) : List Int := nameR (twiceR sumD) t
@[irreducible] def tagD (key : List Int) (t : TxS) : List Int := tagtR (twiceR sumD) (hmacR sumD) key t
theorem tagD_ok (args : List AV) (h : Heap) (K : AV → Prop) (hl : tagtRS tagD args h K) : CallsA PP 52 args h fun o h' => ∃ v, o = .ret v ∧ h' = h ∧ K v := tagtRS_ok hashOk args h K (by
  have e : tagD = tagtR (twiceR sumD) (hmacR sumD) := by funext k t; unfold tagD; rfl
  rw [e] at hl; exact hl)
theorem nameD_eq {t : TxS} (hf : t.Fine) (hb : TxAll t) : nameD t = nameT t := by
  have h1 := rawO_len hf true (Nat.le_refl t.M)
  have h2 : (rawT numW t true).length ≤ 20000 := h1
  unfold nameD nameR nameT
  exact twice_eq (rawT_bytes hb true).u8 (by omega)
theorem shaT2_U8 (bs : List Int) : ∀ x ∈ shaT2 bs, U8 x := by unfold shaT2; exact sha1_U8 _
theorem nameT_U8 (t : TxS) : ∀ x ∈ nameT t, U8 x := by unfold nameT; exact shaT2_U8 _
theorem tagD_hmac (key : List Int) (t : TxS) : tagD key t = hmacR sumD key (nameD t) := by unfold tagD tagtR nameD nameR; rfl
theorem tagT'_hmac (key : List Int) (t : TxS) : tagT' key t = hmac1 key (nameT t) := by unfold tagT' nameT; rfl
theorem tagD_eq {key : List Int} {t : TxS} (hf : t.Fine) (hb : TxAll t) (hk : key.length = 32) : tagD key t = tagT' key t := by
  rw [tagD_hmac, tagT'_hmac, nameD_eq hf hb, hmac_eq hk (nameT_len t) (nameT_U8 t)]
end Go.Tk
end
section
namespace Go.Tk
structure TermS where
  fund : List Int
  index : Int
  cap : Int
  dust : Int
  fee : Int
  delay : Int
  k0 : List Int
  k1 : List Int
def TermS.c (t : TermS) : List AV := [.arr .u8 32 t.fund, .int .i64 t.index, .int .i64 t.cap, .int .i64 t.dust, .int .i64 t.fee, .int .i64 t.delay, .arr .u8 32 t.k0, .arr .u8 32 t.k1]
structure TermS.Ok (t : TermS) : Prop where
  k0 : t.k0.length = 32
  k1 : t.k1.length = 32
  b0 : Bytes t.k0
  b1 : Bytes t.k1
def termB (t : TermS) : Bool := decide (0 ≤ t.index ∧ t.index ≤ 23) && decide (1000 ≤ t.cap ∧ t.cap ≤ 1125899906842624) && decide (1 ≤ t.dust ∧ t.dust ≤ 500) && decide (0 ≤ t.fee ∧ t.fee ≤ 400) && decide (1 ≤ t.delay ∧ t.delay ≤ 1000) && (t.k0 != t.k1)
def inQ : PSumm := fun args _ K => match args with
  | [.int .i64 n, .int .i64 a, .int .i64 b] => K (.bool (decide (a ≤ n ∧ n ≤ b)))
  | _ => False
theorem iteB_eq' (b : Bool) (x y : Prop) : iteB b x y = ((b = true → x) ∧ (b = false → y)) := by cases b <;> simp [iteB]
theorem ord_go {x y : List Int} {b : Int} {i : Nat} {P : Prop} (hx : i < x.length) (hy : i < y.length) (bx : Bytes x) (yb : Bytes y) (hb : b = cmpI (x.drop i) (y.drop i)) (hP : b = cmpI (x.drop (i + 1)) (y.drop (i + 1)) → P) :
    iteB (decide (x.getD i 0 < y.getD i 0)) (AV.int .i64 (-1) = AV.int .i64 b) (iteB (decide (x.getD i 0 > y.getD i 0)) (AV.int .i64 1 = AV.int .i64 b) P) := by
  have e1 : x.drop i = x.getD i 0 :: x.drop (i + 1) := by rw [List.drop_eq_getElem_cons hx]; simp [List.getD_eq_getElem?_getD, hx]
  have e2 : y.drop i = y.getD i 0 :: y.drop (i + 1) := by rw [List.drop_eq_getElem_cons hy]; simp [List.getD_eq_getElem?_getD, hy]
  rw [e1, e2] at hb
  have k1 := toU8_eq (bx.getD i) (yb.getD i)
  have k2 := toU8_eq (yb.getD i) (bx.getD i)
  generalize x.getD i 0 = u at *
  generalize y.getD i 0 = v at *
  simp only [cmpI, List.map_cons, Lib.compareBytes, k1.2, k2.2] at hb
  rw [iteB_eq', iteB_eq']
  refine ⟨fun h => ?_, fun h => ⟨fun h' => ?_, fun h' => ?_⟩⟩
  · have h : u < v := by simpa using h
    rw [hb, if_pos h]
  · have h : ¬ u < v := by simpa using h
    have h' : v < u := by simpa using h'
    rw [hb, if_neg h, if_pos h']
  · have h : ¬ u < v := by simpa using h
    have h' : ¬ v < u := by simpa using h'
    rw [if_neg h, if_neg h'] at hb
    exact hP hb
set_option maxRecDepth 100000 in
set_option maxHeartbeats 0 in
theorem or_50 (x y : List Int) (b : Int) (hx : x.length = 32) (hy : y.length = 32) (bx : Bytes x) (yb : Bytes y) (hb : b = cmpI (x.drop 0) (y.drop 0)) :
    evF G0 20 51 [.agg [.arr .u8 32 x], .agg [.arr .u8 32 y]] ⟨0, []⟩ (outV (fun v => v = .int .i64 b)) := by
  refine @Eq.mpr _ (let q1 := AV.int IntKind.i64 b;
 let q2 := AV.int IntKind.i64 (-1) = q1;
 let q3 := AV.int IntKind.i64 1 = q1;
 iteB (decide (List.getD x 0 0 < List.getD y 0 0)) q2
 (iteB (decide (List.getD x 0 0 > List.getD y 0 0)) q3
 (iteB (decide (List.getD x 1 0 < List.getD y 1 0)) q2
 (iteB (decide (List.getD x 1 0 > List.getD y 1 0)) q3
 (iteB (decide (List.getD x 2 0 < List.getD y 2 0)) q2
 (iteB (decide (List.getD x 2 0 > List.getD y 2 0)) q3
 (iteB (decide (List.getD x 3 0 < List.getD y 3 0)) q2
 (iteB (decide (List.getD x 3 0 > List.getD y 3 0)) q3
 (iteB (decide (List.getD x 4 0 < List.getD y 4 0)) q2
 (iteB (decide (List.getD x 4 0 > List.getD y 4 0)) q3
 (iteB (decide (List.getD x 5 0 < List.getD y 5 0)) q2
 (iteB (decide (List.getD x 5 0 > List.getD y 5 0)) q3
 (iteB (decide (List.getD x 6 0 < List.getD y 6 0)) q2
 (iteB (decide (List.getD x 6 0 > List.getD y 6 0)) q3
 (iteB (decide (List.getD x 7 0 < List.getD y 7 0)) q2
 (iteB (decide (List.getD x 7 0 > List.getD y 7 0)) q3
 (iteB (decide (List.getD x 8 0 < List.getD y 8 0)) q2
 (iteB (decide (List.getD x 8 0 > List.getD y 8 0)) q3
 (iteB (decide (List.getD x 9 0 < List.getD y 9 0)) q2
 (iteB (decide (List.getD x 9 0 > List.getD y 9 0)) q3
 (iteB (decide (List.getD x 10 0 < List.getD y 10 0)) q2
 (iteB (decide (List.getD x 10 0 > List.getD y 10 0)) q3
 (iteB (decide (List.getD x 11 0 < List.getD y 11 0)) q2
 (iteB (decide (List.getD x 11 0 > List.getD y 11 0)) q3
 (iteB (decide (List.getD x 12 0 < List.getD y 12 0)) q2
 (iteB (decide (List.getD x 12 0 > List.getD y 12 0)) q3
 (iteB (decide (List.getD x 13 0 < List.getD y 13 0)) q2
 (iteB (decide (List.getD x 13 0 > List.getD y 13 0)) q3
 (iteB (decide (List.getD x 14 0 < List.getD y 14 0)) q2
 (iteB (decide (List.getD x 14 0 > List.getD y 14 0)) q3
 (iteB (decide (List.getD x 15 0 < List.getD y 15 0)) q2
 (iteB (decide (List.getD x 15 0 > List.getD y 15 0)) q3
 (iteB (decide (List.getD x 16 0 < List.getD y 16 0)) q2
 (iteB (decide (List.getD x 16 0 > List.getD y 16 0)) q3
 (iteB (decide (List.getD x 17 0 < List.getD y 17 0)) q2
 (iteB (decide (List.getD x 17 0 > List.getD y 17 0)) q3
 (iteB (decide (List.getD x 18 0 < List.getD y 18 0)) q2
 (iteB (decide (List.getD x 18 0 > List.getD y 18 0)) q3
 (iteB (decide (List.getD x 19 0 < List.getD y 19 0)) q2
 (iteB (decide (List.getD x 19 0 > List.getD y 19 0)) q3
 (iteB (decide (List.getD x 20 0 < List.getD y 20 0)) q2
 (iteB (decide (List.getD x 20 0 > List.getD y 20 0)) q3
 (iteB (decide (List.getD x 21 0 < List.getD y 21 0)) q2
 (iteB (decide (List.getD x 21 0 > List.getD y 21 0)) q3
 (iteB (decide (List.getD x 22 0 < List.getD y 22 0)) q2
 (iteB (decide (List.getD x 22 0 > List.getD y 22 0)) q3
 (iteB (decide (List.getD x 23 0 < List.getD y 23 0)) q2
 (iteB (decide (List.getD x 23 0 > List.getD y 23 0)) q3
 (iteB (decide (List.getD x 24 0 < List.getD y 24 0)) q2 (iteB (decide (List.getD x 24 0 > List.getD y 24 0)) q3 (iteB (decide (List.getD x 25 0 < List.getD y 25 0)) q2 (iteB (decide (List.getD x 25 0 > List.getD y 25 0)) q3 (iteB (decide (List.getD x 26 0 < List.getD y 26 0)) q2 (iteB (decide (List.getD x 26 0 > List.getD y 26 0)) q3 (iteB (decide (List.getD x 27 0 < List.getD y 27 0)) q2 (iteB (decide (List.getD x 27 0 > List.getD y 27 0)) q3 (iteB (decide (List.getD x 28 0 < List.getD y 28 0)) q2 (iteB (decide (List.getD x 28 0 > List.getD y 28 0)) q3 (iteB (decide (List.getD x 29 0 < List.getD y 29 0)) q2 (iteB (decide (List.getD x 29 0 > List.getD y 29 0)) q3 (iteB (decide (List.getD x 30 0 < List.getD y 30 0)) q2 (iteB (decide (List.getD x 30 0 > List.getD y 30 0)) q3 (iteB (decide (List.getD x 31 0 < List.getD y 31 0)) q2 (iteB (decide (List.getD x 31 0 > List.getD y 31 0)) q3 (AV.int IntKind.i64 0 = q1))))))))))))))))))))))))))))))))))))))))))))))))))))))))))))))))) (by kernel_rfl) ?_
  conv => zeta
  iterate 32 refine ord_go (by omega) (by omega) bx yb hb fun hb => ?_
  rw [List.drop_eq_nil_of_le (by omega), List.drop_eq_nil_of_le (by omega)] at hb
  have h0 : cmpI [] [] = 0 := rfl
  rw [hb, h0]
def termS : PSumm := fun args _ K => match args with
  | [.agg [.arr .u8 32 fu, .int .i64 ix, .int .i64 ca, .int .i64 du, .int .i64 fe, .int .i64 de, .arr .u8 32 k0, .arr .u8 32 k1]] => (TermS.Ok ⟨fu, ix, ca, du, fe, de, k0, k1⟩) ∧ K (.int .i64 (if termB ⟨fu, ix, ca, du, fe, de, k0, k1⟩ = true then 0 else 2))
  | _ => False
def ordS : PSumm := fun args _ K => match args with
  | [.agg [.arr .u8 32 x], .agg [.arr .u8 32 y]] => (x.length = 32 ∧ y.length = 32) ∧ Bytes x ∧ Bytes y ∧ K (.int .i64 (cmpI x y))
  | _ => False
theorem ordS_ok (args : List AV) (h : Heap) (K : AV → Prop) (hl : ordS args h K) : CallsA PP 51 args h fun o h' => ∃ v, o = .ret v ∧ h' = h ∧ K v := by
  unfold ordS at hl
  split at hl
  · obtain ⟨⟨h1, h2⟩, b1, b2, hK⟩ := hl
    exact outV_ev G0_ok rfl (or_50 _ _ _ h1 h2 b1 b2 rfl) (fun u hu => hu ▸ hK)
  · exact hl.elim
def works8S : PSumm := fun args _ K => match args with
  | [] => K (.bool true)
  | _ => False
end Go.Tk
end
section
namespace Go.Tk
def insL {α : Type} (lt : α → α → Bool) (x : α) : List α → List α
  | [] => [x]
  | y :: r => match lt x y with
    | true => x :: y :: r
    | false => y :: insL lt x r
def sortL {α : Type} (lt : α → α → Bool) : List α → List α → List α
  | acc, [] => acc
  | acc, x :: r => sortL lt (insL lt x acc) r
def OrdL {α : Type} (lt : α → α → Bool) (l : List α) : Prop := l.Pairwise fun a b => lt b a = false
structure WO {α : Type} (lt : α → α → Bool) : Prop where
  asym : ∀ x y, lt x y = true → lt y x = false
  neg : ∀ x y z, lt x y = true → lt z y = false → lt x z = true
theorem insL_mem {α : Type} {lt : α → α → Bool} {x z : α} : ∀ {l : List α}, z ∈ insL lt x l ↔ z = x ∨ z ∈ l
  | [] => by simp [insL]
  | y :: r => by
    unfold insL
    split
    · simp
    · simp only [List.mem_cons, insL_mem (l := r)]
      constructor <;> (intro h; rcases h with h | h | h <;> simp [h])
theorem insL_perm {α : Type} {lt : α → α → Bool} {x : α} : ∀ {l : List α}, (insL lt x l).Perm (x :: l)
  | [] => .refl _
  | y :: r => by
    unfold insL
    split
    · exact .refl _
    · exact (List.Perm.cons y insL_perm).trans (List.Perm.swap x y r)
theorem insL_ord {α : Type} {lt : α → α → Bool} (wo : WO lt) {x : α} : ∀ {l : List α}, OrdL lt l → OrdL lt (insL lt x l)
  | [], _ => by simp [insL, OrdL]
  | y :: r, h => by
    unfold OrdL at h
    rw [List.pairwise_cons] at h
    unfold insL
    split
    · rename_i hx
      unfold OrdL
      rw [List.pairwise_cons, List.pairwise_cons]
      refine ⟨fun z hz => ?_, h.1, h.2⟩
      rcases List.mem_cons.1 hz with rfl | hz
      · exact wo.asym _ _ hx
      · cases hzx : lt z x with
        | false => rfl
        | true =>
          have := h.1 z hz
          -- z < x < y, so z < y
          have h2 := wo.neg z x y hzx (wo.asym _ _ hx)
          rw [h2] at this; cases this
    · rename_i hx
      unfold OrdL
      rw [List.pairwise_cons]
      refine ⟨fun z hz => ?_, insL_ord wo h.2⟩
      rcases insL_mem.1 hz with rfl | hz
      · exact hx
      · exact h.1 z hz
theorem insL_at {α : Type} {lt : α → α → Bool} (wo : WO lt) {x : α} : ∀ {l : List α} {j : Nat}, OrdL lt l → j ≤ l.length → (∀ y ∈ l.drop j, lt x y = true) → (∀ y, l[j - 1]? = some y → 0 < j → lt x y = false) →
    l.take j ++ x :: l.drop j = insL lt x l
  | [], j, _, hj, _, _ => by simp at hj; simp [insL]
  | y :: r, 0, _, _, h1, _ => by
    have := h1 y (by simp)
    unfold insL
    rw [this]; simp
  | y :: r, j + 1, ho, hj, h1, h2 => by
    unfold OrdL at ho
    rw [List.pairwise_cons] at ho
    have hy : lt x y = false := by
      cases hxy : lt x y with
      | false => rfl
      | true =>
        cases j with
        | zero => rw [h2 y (by simp) (by omega)] at hxy; cases hxy
        | succ k =>
          simp at hj
          have hk : k < r.length := by omega
          have h3 := h2 r[k] (by simp [hk]) (by omega)
          have h4 := ho.1 r[k] (List.getElem_mem hk)
          rw [wo.neg x y _ hxy h4] at h3; cases h3
    unfold insL
    rw [hy]
    simp only [List.take_succ_cons, List.drop_succ_cons, List.cons_append, List.cons.injEq, true_and]
    refine insL_at wo ho.2 (by simpa using hj) (by simpa using h1) fun z hz hj' => h2 z ?_ (by omega)
    cases j with
    | zero => omega
    | succ k => simpa using hz
theorem sortL_ord {α : Type} {lt : α → α → Bool} (wo : WO lt) : ∀ {l acc : List α}, OrdL lt acc → OrdL lt (sortL lt acc l)
  | [], _, h => h
  | _ :: _, _, h => by unfold sortL; exact sortL_ord wo (insL_ord wo h)
theorem sortL_perm {α : Type} {lt : α → α → Bool} : ∀ {l acc : List α}, (sortL lt acc l).Perm (acc ++ l)
  | [], acc => by simp [sortL]
  | x :: r, acc => by
    unfold sortL
    refine sortL_perm.trans ?_
    refine (List.Perm.append_right r insL_perm).trans ?_
    rw [List.cons_append]
    exact List.perm_middle.symm
theorem sortL_len {α : Type} {lt : α → α → Bool} {l acc : List α} : (sortL lt acc l).length = acc.length + l.length := by
  rw [(sortL_perm (lt := lt)).length_eq, List.length_append]
theorem sortL_snoc {α : Type} {lt : α → α → Bool} {x : α} : ∀ {l acc : List α}, sortL lt acc (l ++ [x]) = insL lt x (sortL lt acc l)
  | [], acc => rfl
  | y :: r, acc => by
    simp only [List.cons_append, sortL]
    exact sortL_snoc
end Go.Tk
end
section
namespace Go.Tk
def valU : List Int → Nat
  | [] => 0
  | a :: r => (toU8 a).toNat * 256 ^ r.length + valU r
theorem valU_lt : ∀ (x : List Int), valU x < 256 ^ x.length
  | [] => by simp [valU]
  | a :: r => by
    have h1 := valU_lt r
    have h2 := (toU8 a).toNat_lt
    simp only [valU, List.length_cons, Nat.pow_succ]
    have h3 : (toU8 a).toNat * 256 ^ r.length ≤ 255 * 256 ^ r.length := Nat.mul_le_mul_right _ (by omega)
    omega
theorem cmpI_val : ∀ (x y : List Int), x.length = y.length → cmpI x y = if valU x < valU y then -1 else if valU y < valU x then 1 else 0
  | [], [], _ => by simp [cmpI, Lib.compareBytes, valU]
  | [], b :: s, h => by simp at h
  | a :: r, [], h => by simp at h
  | a :: r, b :: s, h => by
    have h' : r.length = s.length := by simpa using h
    have ih := cmpI_val r s h'
    have e1 : valU (a :: r) = (toU8 a).toNat * 256 ^ r.length + valU r := rfl
    have e2 : valU (b :: s) = (toU8 b).toNat * 256 ^ r.length + valU s := by rw [h']; rfl
    have e3 : cmpI (a :: r) (b :: s) = if (toU8 a).toNat < (toU8 b).toNat then -1 else if (toU8 b).toNat < (toU8 a).toNat then 1 else cmpI r s := by
      unfold cmpI; simp only [List.map_cons, Lib.compareBytes, UInt8.lt_iff_toNat_lt]
    have h1 := valU_lt r
    have h2 := valU_lt s
    rw [← h'] at h2
    rw [e3]
    generalize valU (a :: r) = A at *
    generalize valU (b :: s) = B at *
    generalize (toU8 a).toNat = u at *
    generalize (toU8 b).toNat = v at *
    generalize hM : 256 ^ r.length = M at *
    have hs : ∀ p q : Nat, p < q → p * M + M ≤ q * M := fun p q hpq => by
      have : (p + 1) * M ≤ q * M := Nat.mul_le_mul_right _ hpq
      rw [Nat.add_mul, Nat.one_mul] at this
      exact this
    by_cases c1 : u < v
    · have := hs u v c1
      rw [if_pos c1, if_pos (by omega)]
    · rw [if_neg c1]
      by_cases c2 : v < u
      · have := hs v u c2
        rw [if_pos c2, if_neg (by omega), if_pos (by omega)]
      · rw [if_neg c2, ih]
        have : u = v := by omega
        subst this
        simp only [show (A < B) = (valU r < valU s) from propext (by omega), show (B < A) = (valU s < valU r) from propext (by omega)]
structure MadeS where
  o : OutS
  id : Int
  what : Int
def MadeS.c (m : MadeS) : List AV := [.int .i64 m.o.kind, .int .i64 m.o.amount, .arr .u8 32 m.o.owner, .arr .u8 32 m.o.other, .arr .u8 32 m.o.point, .arr .u8 32 m.o.hash, .int .i64 m.o.delay, .int .i64 m.o.expiry, .int .i64 m.id, .int .i64 m.what]
structure MadeS.Ok (m : MadeS) : Prop where
  owner : m.o.owner.length = 32
  other : m.o.other.length = 32
  point : m.o.point.length = 32
  hash : m.o.hash.length = 32
def made0 : MadeS := ⟨⟨0, 0, [], [], [], [], 0, 0⟩, 0, 0⟩
def cmpZ (a b : Int) : Int := if a < b then -1 else if b < a then 1 else 0
def cmpM (a b : MadeS) : Int :=
  if cmpZ a.o.amount b.o.amount ≠ 0 then cmpZ a.o.amount b.o.amount else
  if cmpZ a.o.kind b.o.kind ≠ 0 then cmpZ a.o.kind b.o.kind else
  if cmpZ a.o.expiry b.o.expiry ≠ 0 then cmpZ a.o.expiry b.o.expiry else
  if cmpI a.o.hash b.o.hash ≠ 0 then cmpI a.o.hash b.o.hash else cmpZ a.id b.id
def ltM (a b : MadeS) : Bool := decide (a.o.amount < b.o.amount ∨ (a.o.amount = b.o.amount ∧ (a.o.kind < b.o.kind ∨ (a.o.kind = b.o.kind ∧ (a.o.expiry < b.o.expiry ∨ (a.o.expiry = b.o.expiry ∧ (valU a.o.hash < valU b.o.hash ∨ (valU a.o.hash = valU b.o.hash ∧ a.id < b.id))))))))
theorem cmpZ_spec (a b : Int) : (a < b ∧ cmpZ a b = -1) ∨ (b < a ∧ cmpZ a b = 1) ∨ (a = b ∧ cmpZ a b = 0) := by unfold cmpZ; omega
theorem cmpI_spec {x y : List Int} (h : x.length = y.length) : (valU x < valU y ∧ cmpI x y = -1) ∨ (valU y < valU x ∧ cmpI x y = 1) ∨ (valU x = valU y ∧ cmpI x y = 0) := by
  rw [cmpI_val x y h]; omega
theorem cmpM_lt {a b : MadeS} (ha : a.Ok) (hb : b.Ok) : decide (cmpM a b < 0) = ltM a b := by
  unfold cmpM ltM
  have h1 := cmpZ_spec a.o.amount b.o.amount
  have h2 := cmpZ_spec a.o.kind b.o.kind
  have h3 := cmpZ_spec a.o.expiry b.o.expiry
  have h4 := cmpI_spec (ha.hash.trans hb.hash.symm)
  have h5 := cmpZ_spec a.id b.id
  rw [decide_eq_decide]
  generalize cmpZ a.o.amount b.o.amount = c1 at *
  generalize cmpZ a.o.kind b.o.kind = c2 at *
  generalize cmpZ a.o.expiry b.o.expiry = c3 at *
  generalize cmpI a.o.hash b.o.hash = c4 at *
  generalize cmpZ a.id b.id = c5 at *
  generalize valU a.o.hash = v1 at *
  generalize valU b.o.hash = v2 at *
  omega
theorem ltM_wo : WO ltM where
  asym x y h := by
    unfold ltM at *
    simp only [decide_eq_true_eq, decide_eq_false_iff_not] at *
    generalize valU x.o.hash = v1 at *
    generalize valU y.o.hash = v2 at *
    omega
  neg x y z h h2 := by
    unfold ltM at *
    simp only [decide_eq_true_eq, decide_eq_false_iff_not] at *
    generalize valU x.o.hash = v1 at *
    generalize valU y.o.hash = v2 at *
    generalize valU z.o.hash = v3 at *
    omega
def sortM (l : List MadeS) : List MadeS := sortL ltM [] l
def mRows (l : List MadeS) (i : Nat) : List AV := (l.getD i made0).c
end Go.Tk
end
section
namespace Go.Tk
def byL : List AV := [.func (.func 107) [] [], .func (.func 109) [] [], .func (.func 111) [] [], .func (.func 112) [] [], .func (.func 113) [] []]
theorem cz_go {a b r c : Int} {P X Y : Prop} (hr : r = if cmpZ a b ≠ 0 then cmpZ a b else c) (hP : r = c → P) :
    iteB (a != a) X (iteB (b != b) Y (iteB (decide (a < b)) (iteB (decide (-1 = r)) True False) (iteB (decide (a > b)) (iteB (decide (1 = r)) True False) P))) := by
  rw [bne_self_eq_false, bne_self_eq_false]
  show iteB (decide (a < b)) _ (iteB (decide (a > b)) _ P)
  rcases cmpZ_spec a b with ⟨h1, h2⟩ | ⟨h1, h2⟩ | ⟨h1, h2⟩
  · rw [decide_eq_true h1, hr, h2]; trivial
  · rw [decide_eq_false (by omega : ¬ a < b), decide_eq_true (show a > b from h1), hr, h2]; trivial
  · rw [decide_eq_false (by omega : ¬ a < b), decide_eq_false (show ¬ a > b by omega)]
    exact hP (by rw [hr, h2]; rfl)
set_option maxRecDepth 100000 in
set_option maxHeartbeats 0 in
theorem cmp_1 (a b : MadeS) (r : Int) (ha : a.Ok) (hb : b.Ok) (hr : r = cmpM a b) :
    evF G0 20 151 [.agg a.c, .agg b.c, .pview [.vrows 1 5 (rowC byL 0 1) 5] 0] ⟨0, []⟩ (outM 0 (.ret (.int .i64 r)) 0 []) := by
  refine @Eq.mpr _ (let q1 := a.o;
 let q2 := q1.amount;
 let q3 := b.o;
 let q4 := q3.amount;
 let q5 := q4 != q4;
 let q6 := q1.kind;
 let q7 := q3.kind;
 let q8 := q7 != q7;
 let q9 := q1.expiry;
 let q10 := q3.expiry;
 let q11 := q10 != q10;
 let q12 := q1.hash;
 let q13 := q3.hash;
 let q14 := cmpI q12 q13;
 let q15 := a.id;
 let q16 := b.id;
 let q17 := q16 != q16;
 let q18 := iteB (decide (0 = r)) True False;
 let q19 := iteB (decide (-1 = r)) True False;
 let q20 := iteB (decide (1 = r)) True False;
 let q21 := iteB (decide (IntKind.u8 = IntKind.u8 ∧ List.length q12 = 32)) (iteB (decide (IntKind.u8 = IntKind.u8 ∧ List.length q13 = 32)) (iteB (q14 != 0) (iteB (decide (q14 = r)) True False) (iteB (q15 != q15) (iteB q17 q18 q19) (iteB q17 q20 (iteB (decide (q15 < q16)) q19 (iteB (decide (q15 > q16)) q20 q18))))) False) False;
 let q22 := iteB (q9 != q9) (iteB q11 q21 q19) (iteB q11 q20 (iteB (decide (q9 < q10)) q19 (iteB (decide (q9 > q10)) q20 q21)));
 let q23 := iteB (q6 != q6) (iteB q8 q22 q19) (iteB q8 q20 (iteB (decide (q6 < q7)) q19 (iteB (decide (q6 > q7)) q20 q22)));
 iteB (q2 != q2) (iteB q5 q23 q19) (iteB q5 q20 (iteB (decide (q2 < q4)) q19 (iteB (decide (q2 > q4)) q20 q23)))) (by kernel_rfl) ?_
  conv => zeta
  unfold cmpM at hr
  refine cz_go hr fun hr => cz_go hr fun hr => cz_go hr fun hr => ?_
  rw [decide_eq_true (show IntKind.u8 = IntKind.u8 ∧ a.o.hash.length = 32 from ⟨rfl, ha.hash⟩), decide_eq_true (show IntKind.u8 = IntKind.u8 ∧ b.o.hash.length = 32 from ⟨rfl, hb.hash⟩)]
  show iteB (cmpI a.o.hash b.o.hash != 0) _ _
  by_cases h : cmpI a.o.hash b.o.hash = 0
  · rw [h]
    rw [if_neg (by simp [h])] at hr
    refine cz_go (c := 0) ?_ fun hr => by rw [hr]; trivial
    rw [hr]; split <;> simp_all
  · rw [if_pos h] at hr
    rw [bne_iff_ne.2 h, hr, decide_eq_true rfl]; trivial
def cmpS : PSumm := fun args h K => viewL none h true 20 args fun a => match a with
  | [.agg ca, .agg cb, .pview [.vrows 1 5 f 5] 0] => ∃ a b, ca = MadeS.c a ∧ cb = MadeS.c b ∧ f = rowC byL 0 1 ∧ (a.Ok ∧ b.Ok) ∧ K (.int .i64 (cmpM a b))
  | _ => False
theorem cmpS_ok (args : List AV) (h : Heap) (K : AV → Prop) (hl : cmpS args h K) : CallsA PP 151 args h fun o h' => ∃ v, o = .ret v ∧ h' = h ∧ K v := by
  refine Pure.psumm (d := 20) (viewL_weak _ _ _ _ _ hl fun a ha => ?_)
  split at ha
  · obtain ⟨a, b, rfl, rfl, rfl, ⟨h1, h2⟩, hK⟩ := ha
    exact ⟨_, .evM G0_ok (cmp_1 a b _ h1 h2 rfl), fun _ => rfl, hK⟩
  · exact ha.elim
end Go.Tk
end
section
namespace Go.Tk
theorem and_mk {a b : Bool} (h1 : a = true) (h2 : b = true) : (a && b) = true := by rw [h1, h2]; rfl
theorem emb_rows {E : Env} {w : World} {sz n : Nat} {g g' : Nat → List AV} (hg : ∀ i, i < n → g' i = g i) (he : Emb E ⟨1, [(0, .rows sz n g')]⟩ w) : Emb E ⟨1, [(0, .rows sz n g)]⟩ w := by
  have hget : ∀ (f : Nat → List AV) x B, (Heap.mk 1 [(0, .rows sz n f)]).get x = some B → x = 0 ∧ B = .rows sz n f := fun f x B hx => by
    simp only [Heap.get, getB] at hx
    split at hx
    · rename_i hb
      cases hx
      exact ⟨(Nat.eq_of_beq_eq_true hb).symm, rfl⟩
    · cases hx
  have h0 : ∀ f : Nat → List AV, (Heap.mk 1 [(0, .rows sz n f)]).get 0 = some (.rows sz n f) := fun f => rfl
  refine ⟨he.fresh, fun x B hx => ?_, fun x B hx => ?_, fun x y B B' b N N' hx hy h1 h2 => ?_, he.imm, fun a c x B N hi hx hb => ?_⟩
  · obtain ⟨rfl, rfl⟩ := hget _ _ _ hx; exact he.lt 0 _ (h0 _)
  · obtain ⟨rfl, rfl⟩ := hget _ _ _ hx
    have := he.own 0 _ (h0 g')
    cases this with
    | rows0 _ _ _ hn hb => exact .rows0 _ _ _ hn hb
    | rows _ _ _ b cells elem fr gv hb hw hf hc hl hv => exact .rows _ _ _ b cells elem fr gv hb hw hf (fun i hi => hg i hi ▸ hc i hi) hl hv
  · obtain ⟨rfl, rfl⟩ := hget _ _ _ hx
    obtain ⟨rfl, rfl⟩ := hget _ _ _ hy
    rfl
  · obtain ⟨rfl, rfl⟩ := hget _ _ _ hx
    exact he.sep a c 0 _ N hi (h0 g') hb
theorem Spec.rows {P : Program} {f : FuncId} {args : List AV} {sz n : Nat} {g g' : Nat → List AV} {o : Out} {nx : Nat} {bs : List (Nat × Blk)} (hg : ∀ i, i < n → g' i = g i) (h : Spec P f args ⟨1, [(0, .rows sz n g)]⟩ o nx bs) : Spec P f args ⟨1, [(0, .rows sz n g')]⟩ o nx bs := by
  intro E w rs he hl
  have he' := emb_rows hg he
  refine (h E w rs he' hl).mono ?_
  rintro e w' ⟨E', hev, ho⟩
  have own : ∀ b, Owned E ⟨1, [(0, .rows sz n g)]⟩ b ↔ Owned E ⟨1, [(0, .rows sz n g')]⟩ b := fun b => by
    unfold Owned
    constructor
    · rintro ⟨x, B, N, hx, hb⟩
      simp only [Heap.get, getB] at hx
      split at hx
      · rename_i hq; have := Nat.eq_of_beq_eq_true hq; subst this; exact ⟨0, _, N, rfl, hb⟩
      · cases hx
    · rintro ⟨x, B, N, hx, hb⟩
      simp only [Heap.get, getB] at hx
      split at hx
      · rename_i hq; have := Nat.eq_of_beq_eq_true hq; subst this; exact ⟨0, _, N, rfl, hb⟩
      · cases hx
  exact ⟨E', ⟨hev.le, hev.emb, hev.size, hev.os, hev.tape, hev.output, fun b hb hn => hev.keep b hb (fun h => hn ((own b).1 h)), fun b hb => (hev.own b hb).imp (own b).1 id, hev.imm⟩, ho⟩
theorem frA_one {blk sz n len lo d : Nat} {f : Nat → List AV} {h : Heap} {K0 : List Blk → List AV → Prop} (hg : h.get blk = some (.rows sz n f)) (hp : ∀ i, i < n → plainC (f i) = true)
    (hK : K0 [.rows sz n f] [.nslice ⟨0, 0, sz, 0, 0⟩ sz len lo]) : frA [blk] h (d + 3) [.nslice ⟨blk, 0, sz, 0, 0⟩ sz len lo] K0 := by
  unfold frA
  have h1 : (hasB h [blk] && distN [blk]) = true := by simp [hasB, hg, distN, idxN]
  rw [h1]
  simp only [vwBs, hg, vwB]
  refine ⟨hp, ?_⟩
  simp only [vwL, vwV, idxN, Nat.beq_refl]
  exact hK
end Go.Tk
end
