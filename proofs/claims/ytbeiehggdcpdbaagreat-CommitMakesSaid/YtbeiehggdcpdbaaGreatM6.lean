/- M: part 6 of an engine (a symbolic evaluator, proved against the model) and of the walk by it. -/
import Derived.Test.YtbeiehggdcpdbaaGreatM5
import Derived.Test.YtbeiehggdcpdbaaGreatRows
import Derived.ChangeOld
set_option linter.unusedVariables false
set_option linter.unusedSimpArgs false
section
namespace Go.Tk
def rsH (t : TermS) (s : ShS) (M : List Int) : Heap := ⟨3, [(0, .flat t.c), (1, .flat s.c), (2, .flat [.arr .i64 2 M])]⟩
def rsH2 (t : TermS) (s : ShS) (M : List Int) (i : Nat) : Heap := ⟨4, [(0, .flat t.c), (1, .flat s.c), (2, .flat [.arr .i64 2 M]), (3, .flat (s.g i).c)]⟩
def rs0 (t : TermS) (s : ShS) (M : List Int) (i : Nat) : St := ⟨132, [(7, .int .i64 i), (3, .ptr (some ⟨1, 0, 0, 0, 0⟩)), (5, .int .i64 (shSum s i)), (2, .ptr (some ⟨0, 0, 0, 0, 0⟩)), (6, .ptr (some ⟨2, 0, 0, 0, 0⟩))], rsH t s M, []⟩
def rs0E (t : TermS) (s : ShS) (M : List Int) (i : Nat) : St := ⟨132, [(5, .int .i64 (shSum s i)), (2, .ptr (some ⟨0, 0, 0, 0, 0⟩)), (6, .ptr (some ⟨1, 0, 0, 0, 0⟩))], ⟨2, [(0, .flat t.c), (1, .flat [.arr .i64 2 M])]⟩, []⟩
def rs2 (t : TermS) (s : ShS) (M : List Int) (i k : Nat) : St := ⟨132, [(9, .int .i64 k), (7, .int .i64 i), (3, .ptr (some ⟨1, 0, 0, 0, 0⟩)), (8, .ptr (some ⟨3, 0, 0, 0, 0⟩)), (6, .ptr (some ⟨2, 0, 0, 0, 0⟩)), (5, .int .i64 (shSum s i)), (2, .ptr (some ⟨0, 0, 0, 0, 0⟩))], rsH2 t s M i, []⟩
def rs2E (t : TermS) (s : ShS) (M : List Int) (i : Nat) : St := ⟨132, [(7, .int .i64 i), (3, .ptr (some ⟨1, 0, 0, 0, 0⟩)), (8, .ptr (some ⟨3, 0, 0, 0, 0⟩)), (6, .ptr (some ⟨2, 0, 0, 0, 0⟩)), (5, .int .i64 (shSum s i)), (2, .ptr (some ⟨0, 0, 0, 0, 0⟩))], rsH2 t s M i, []⟩
def rsR : St := ⟨132, [(4, .bool false)], ⟨0, []⟩, []⟩
noncomputable def E101 : Env2 := (G0.withP 32 termRS).withP 34 pendS
theorem E101_ok : E101.Ok := Env2.withP_ok (Env2.withP_ok G0_ok termRS_ok) pendR_ok
set_option maxRecDepth 100000 in
set_option maxHeartbeats 0 in
theorem rs_2 (t : TermS) (s : ShS) (M : List Int) (i k : Nat) (Z1 Z2 Z3 : Prop) (hn : s.n < 1000) (hi : i < s.n) (hk : k ≤ i) (h1 : k < i → dupAt s.g i k = false → Z1) (h2 : k = i → Z2) (h3 : k < i → dupAt s.g i k = true → Z3) :
    roundE E101 20 13 2 0 (rs2 t s M i k) (rdM 0 2 9 (rs2 t s M i (k + 1)) (rs2E t s M i) rsR rsR Z1 Z2 Z3 False) := by
  refine @Eq.mpr _ (let q1 := s.n;
 let q2 := decide (0 ≤ (↑k : Int) ∧ (↑k : Int) < (↑q1 : Int));
 let q3 := s.g (Int.toNat (↑k : Int));
 let q4 := s.g i;
 let q5 := q4.frm;
 let q6 := q4.id;
 let q7 := decide ((↑i : Int) = (↑i : Int));
 let q8 := decide (shSum s i = shSum s i);
 let q9 := t.fund = t.fund;
 let q10 := decide (t.index = t.index);
 let q11 := decide (t.cap = t.cap);
 let q12 := decide (t.dust = t.dust);
 let q13 := decide (t.fee = t.fee);
 let q14 := decide (t.delay = t.delay);
 let q15 := t.k0 = t.k0;
 let q16 := t.k1 = t.k1;
 let q17 := decide (s.num = s.num);
 let q18 := decide (s.owner = s.owner);
 let q19 := s.point = s.point;
 let q20 := [s.a0, s.a1];
 let q21 := q20 = q20;
 let q22 := decide (q1 = q1);
 let q23 := pRows s.g;
 let q24 := q23 = q23;
 let q25 := decide (q5 = q5);
 let q26 := decide (q6 = q6);
 let q27 := q4.amount;
 let q28 := decide (q27 = q27);
 let q29 := q4.hash;
 let q30 := q29 = q29;
 let q31 := q4.expiry;
 let q32 := decide (q31 = q31);
 let q33 := iteB (decide (IntKind.wrap IntKind.i64 ((↑k : Int) + 1) = (↑(k + 1) : Int))) (iteB q7 (iteB q8 (q9 ∧ iteB q10 (iteB q11 (iteB q12 (iteB q13 (iteB q14 (q15 ∧ q16 ∧ iteB q17 (iteB q18 (q19 ∧ q21 ∧ iteB q22 (q24 ∧ iteB q22 (M = M ∧ iteB q25 (iteB q26 (iteB q28 (q30 ∧ iteB q32 Z1 False) False) False) False) False) False) False) False) False) False) False) False) False) False) False) False;
 iteB (decide ((↑k : Int) < (↑i : Int))) (iteB q2 (iteB (q3.frm == q5) (iteB q2 (iteB (q3.id == q6) Z3 q33) False) q33) False) (iteB q7 (iteB q8 (q9 ∧ iteB q10 (iteB q11 (iteB q12 (iteB q13 (iteB q14 (q15 ∧ q16 ∧ iteB q17 (iteB q18 (q19 ∧ q21 ∧ iteB q22 (q24 ∧ iteB q22 (M = M ∧ iteB q25 (iteB q26 (iteB q28 (q30 ∧ iteB q32 Z2 False) False) False) False) False) False) False) False) False) False) False) False) False) False) False)) (by kernel_rfl) ?_
  conv => zeta
  try simp only [need_eq]
  try simp only [nope_eq]
  try simp only [iteD_eq]
  try simp only [iteT_eq]
  try simp only [iteF_eq]
  try simp only [iteE_eq]
  try simp only [Int.toNat_natCast, Nat.zero_add, true_and, and_true, Nat.le_refl]
  refine ⟨fun hc => ?_, fun hc => h2 (by omega)⟩
  have hlt : k < i := by omega
  have hwr : IntKind.i64.wrap ((k : Int) + 1) = ((k + 1 : Nat) : Int) := by rw [w64 (by omega)]; omega
  unfold dupAt at h1 h3
  refine ⟨by omega, fun k1 => ⟨by omega, fun k2 => h3 hlt ?_, fun k2 => ⟨hwr, h1 hlt ?_⟩⟩, fun k1 => ⟨hwr, h1 hlt ?_⟩⟩
  all_goals
    simp only [beq_iff_eq, beq_eq_false_iff_ne, ne_eq] at k1
    try simp only [beq_iff_eq, beq_eq_false_iff_ne, ne_eq] at k2
    simp [*]
noncomputable def E101a (t : TermS) (s : ShS) : Env2 := E101.withL 13 2 (exLo fun p : Nat × List Int => goM 0 (rs2 t s p.2 p.1 0) (p.1 < s.n ∧ s.n < 1000) (endsJ 2 p.1 9 (fun k => dupAt s.g p.1 k = false) (fun k => k = p.1) (fun k => k < p.1 ∧ dupAt s.g p.1 k = true) (fun _ => False) (fun _ => rs2E t s p.2 p.1) (fun _ => rsR) (fun _ => rsR)))
theorem E101a_ok (t : TermS) (s : ShS) : (E101a t s).Ok :=
  Env2.withL_ex E101_ok fun p => Env2.withGoM (N := 20) (S := fun k => rs2 t s p.2 p.1 k) E101_ok (by kernel_rfl) fun hC => ⟨rfl, fun k hk hgo => rs_2 t s p.2 p.1 k _ _ _ hC.2 hC.1 hk (fun h1 h2 => ⟨h2, h1⟩) (fun h => h) (fun h1 h2 => ⟨h1, h2⟩)⟩
set_option maxRecDepth 100000 in
set_option maxHeartbeats 0 in
theorem rs_0 (t : TermS) (s : ShS) (M M1 : List Int) (i : Nat) (Z1 Z2 Z3 : Prop) (hn : s.n < 1000) (hi : i ≤ s.n) (hMl : M.length = 2) (hM1 : M1 = M.set (s.g i).frm.toNat (IntKind.i64.wrap (M.getD (s.g i).frm.toNat 0 + 1))) (hM0 : 0 ≤ M.getD 0 0 ∧ M.getD 0 0 ≤ i) (hs : 0 ≤ shSum s i ∧ shSum s i ≤ 2251799813685248) (h1 : i < s.n → shRgo t s i → Z1) (h2 : i = s.n → Z2) (h3 : i < s.n → ¬ shRgo t s i → Z3) :
    roundE (E101a t s) 20 13 0 0 (rs0 t s M i) (rdM 0 0 9 (rs0 t s M1 (i + 1)) (rs0E t s M i) rsR rsR Z1 Z2 Z3 False) := by
  refine @Eq.mpr _ (let q1 := s.n;
 let q2 := s.g (Int.toNat (↑i : Int));
 let q3 := q2.frm;
 let q4 := q2.id;
 let q5 := q2.amount;
 let q6 := q2.hash;
 let q7 := q2.expiry;
 let q8 := shSum s i;
 let q9 := t.cap;
 let q10 := t.fund = t.fund;
 let q11 := decide (t.index = t.index);
 let q12 := decide (q9 = q9);
 let q13 := decide (t.dust = t.dust);
 let q14 := decide (t.fee = t.fee);
 let q15 := decide (t.delay = t.delay);
 let q16 := t.k0 = t.k0;
 let q17 := t.k1 = t.k1;
 let q18 := decide (s.num = s.num);
 let q19 := decide (s.owner = s.owner);
 let q20 := s.point = s.point;
 let q21 := [s.a0, s.a1];
 let q22 := q21 = q21;
 let q23 := decide (q1 = q1);
 let q24 := s.g;
 let q25 := pRows q24;
 let q26 := q25 = q25;
 iteB (decide ((↑i : Int) < (↑q1 : Int)))
 (iteB (decide (0 ≤ (↑i : Int) ∧ (↑i : Int) < (↑q1 : Int)))
 (iteB (!pendB (PendS.mk q3 q4 q5 q6 q7)) Z3
 (iteB (decide (q8 > q9)) Z3
 (∃ (i_1 : Nat × List Int),
 let q53 := shSum s i_1.fst;
 let q54 := q24 i_1.fst;
 let q55 := q54.frm;
 let q56 := q54.amount;
 let q57 := decide (0 ≤ q55 ∧ q55 < 2);
 let q58 := 0 + Int.toNat q55;
 iteB (decide ((↑i : Int) = (↑i_1.fst : Int)))
 (iteB (decide (q8 = q53))
 (q10 ∧
 iteB q11
 (iteB q12
 (iteB q13
 (iteB q14
 (iteB q15
 (q16 ∧
 q17 ∧
 iteB q18
 (iteB q19
 (q20 ∧
 q22 ∧
 iteB q23
 (q26 ∧
 iteB q23
 (M = i_1.snd ∧ iteB (decide (q3 = q55)) (iteB (decide (q4 = q54.id)) (iteB (decide (q5 = q56)) (q6 = q54.hash ∧ iteB (decide (q7 = q54.expiry)) ((i_1.fst < q1 ∧ q1 < 1000) ∧ ∀ (i_2 : Nat), i_2 ≤ i_1.fst → (∀ (j : Nat), j < i_2 → (fun (k : Nat) => dupAt q24 i_1.fst k = false) j) → (i_2 = i_1.fst → iteB q57 (iteB (decide (q58 < 2)) (iteB q57 (iteB (decide (IntKind.i64 = IntKind.i64 ∧ q58 < 2 ∧ q58 < List.length i_1.snd)) (iteB (decide (IntKind.wrap IntKind.i64 ((↑i_1.fst : Int) + 1) = (↑(i + 1) : Int))) (iteB (decide (IntKind.wrap IntKind.i64 (q53 + q56) = shSum s (i + 1))) (q10 ∧ iteB q11 (iteB q12 (iteB q13 (iteB q14 (iteB q15 (q16 ∧ q17 ∧ iteB q18 (iteB q19 (q20 ∧ q22 ∧ iteB q23 (q26 ∧ iteB q23 (List.set i_1.snd q58 (IntKind.wrap IntKind.i64 (List.getD i_1.snd q58 0 + 1)) = M1 ∧ Z1) False) False) False) False) False) False) False) False) False) False) False) False) False) False) False) ∧ (i_2 < i_1.fst ∧ dupAt q24 i_1.fst i_2 = true → Z3) ∧ (False → False)) False) False) False) False)
 False)
 False)
 False)
 False)
 False)
 False)
 False)
 False)
 False)
 False)
 False)))
 False)
 (iteB (decide (q8 = q8)) (q10 ∧ iteB q11 (iteB q12 (iteB q13 (iteB q14 (iteB q15 (q16 ∧ q17 ∧ M = M ∧ Z2) False) False) False) False) False) False)) (by kernel_rfl) ?_
  conv => zeta
  try simp only [need_eq]
  try simp only [nope_eq]
  try simp only [iteD_eq]
  try simp only [iteT_eq]
  try simp only [iteF_eq]
  try simp only [iteE_eq]
  try simp only [Int.toNat_natCast, Nat.zero_add, true_and, and_true, Nat.le_refl]
  have e0 : (PendS.mk (s.g i).frm (s.g i).id (s.g i).amount (s.g i).hash (s.g i).expiry) = s.g i := rfl
  rw [e0]
  refine ⟨fun hc => ?_, fun hc => h2 (by omega)⟩
  have hlt : i < s.n := by omega
  have hwr : IntKind.i64.wrap ((i : Int) + 1) = ((i + 1 : Nat) : Int) := by rw [w64 (by omega)]; omega
  refine ⟨by omega, fun k1 => h3 hlt fun h => ?_, fun k1 => ⟨fun k2 => h3 hlt fun h => ?_, fun k2 => ⟨(i, M), rfl, rfl, rfl, rfl, rfl, rfl, rfl, rfl, ⟨hlt, hn⟩, fun m hm hd => ⟨fun hq => ?_, fun hq => h3 hlt fun h => ?_, fun h => h.elim⟩⟩⟩⟩
  · rw [h.p] at k1; cases k1
  · have := h.sum; omega
  · subst hq
    have kp : pendB (s.g m) = true := by simpa using k1
    have kb := pendB_pos kp
    have hf : 0 ≤ (s.g m).frm ∧ (s.g m).frm < 2 := by omega
    have e5 : IntKind.i64.wrap (shSum s m + (s.g m).amount) = shSum s (m + 1) := by rw [w64 (by omega)]; rfl
    exact ⟨hf, by show (s.g m).frm.toNat < 2; omega, hf, ⟨by show (s.g m).frm.toNat < 2; omega, by show (s.g m).frm.toNat < M.length; omega⟩, hwr, e5, hM1.symm, h1 hlt ⟨kp, by omega, hd⟩⟩
  · have := h.dup m hq.1
    rw [hq.2] at this; cases this
noncomputable def E101b (t : TermS) (s : ShS) : Env2 := (E101a t s).withL 13 0 (goM 0 (rs0 t s [0, 0] 0) (s.n < 1000 ∧ t.cap ≤ 1125899906842624 ∧ (0 ≤ s.a0 ∧ s.a0 ≤ 1125899906842624) ∧ (0 ≤ s.a1 ∧ s.a1 ≤ 1125899906842624)) (endsJ 0 s.n 9 (fun i => shRgo t s i) (fun i => i = s.n) (fun i => i < s.n ∧ ¬ shRgo t s i) (fun _ => False) (fun i => rs0E t s (shM s.g i) i) (fun _ => rsR) (fun _ => rsR)))
theorem E101b_ok (t : TermS) (s : ShS) : (E101b t s).Ok :=
  Env2.withGoM (N := 20) (S := fun i => rs0 t s (shM s.g i) i) (E101a_ok t s) (by kernel_rfl) fun hC => ⟨rfl, fun i hi hgo => by
    obtain ⟨c1, c2, c3, c4⟩ := hC
    have hM := shM_sum (g := s.g) i (by omega) (fun j hj => (hgo j hj).p)
    have hS := shSum_lo c3 c4 i hgo
    exact rs_0 t s (shM s.g i) _ i _ _ _ c1 hi (shM_len s.g i) rfl (by omega) (by rcases Nat.eq_zero_or_pos i with h0 | h0 <;> omega) (fun h1 h2 => ⟨h2, h1⟩) (fun h => h) (fun h1 h2 => ⟨h1, h2⟩)⟩
set_option maxRecDepth 100000 in
set_option maxHeartbeats 0 in
theorem rsf_1 (t : TermS) (s : ShS) (b : Bool) (ht : t.Ok) (hn : s.n < 1000) (hb : b = shB addM t s) :
    evF (E101b t s) 20 13 [.agg t.c, .agg s.c] ⟨0, []⟩ (outM 0 (.ret (.bool b)) 0 []) := by
  refine @Eq.mpr _ (TermS.Ok (TermS.mk t.fund t.index t.cap t.dust t.fee t.delay t.k0 t.k1) ∧
 iteB (!termB (TermS.mk t.fund t.index t.cap t.dust t.fee t.delay t.k0 t.k1)) (iteB (decide (false = b)) True False)
 (iteB (decide (s.num < 0)) (iteB (decide (false = b)) True False)
 (iteB (decide (s.num > 2147483647)) (iteB (decide (false = b)) True False)
 (iteB (s.owner != 0)
 (iteB (s.owner != 1) (iteB (decide (false = b)) True False)
 (iteB (decide (s.a0 ≥ 0))
 (iteB (!decide (s.a0 ≤ 1125899906842624)) (iteB (decide (false = b)) True False)
 (iteB (decide (s.a1 ≥ 0))
 (iteB (!decide (s.a1 ≤ 1125899906842624)) (iteB (decide (false = b)) True False)
 (iteB (decide (s.a0 < t.fee)) (iteB (decide (false = b)) True False)
 (iteB (decide (IntKind.wrap IntKind.i64 (s.a0 + s.a1) = shSum s 0))
 (t.fund = t.fund ∧
 iteB (decide (t.index = t.index)) (iteB (decide (t.cap = t.cap)) (iteB (decide (t.dust = t.dust)) (iteB (decide (t.fee = t.fee)) (iteB (decide (t.delay = t.delay)) (t.k0 = t.k0 ∧ t.k1 = t.k1 ∧ iteB (decide (s.num = s.num)) (iteB (decide (s.owner = s.owner)) (s.point = s.point ∧ [s.a0, s.a1] = [s.a0, s.a1] ∧ iteB (decide (s.n = s.n)) (pRows s.g = pRows s.g ∧ iteB (decide (s.n = s.n)) ([(0 : Int), 0] = [(0 : Int), 0] ∧ (s.n < 1000 ∧ t.cap ≤ 1125899906842624 ∧ (0 ≤ s.a0 ∧ s.a0 ≤ 1125899906842624) ∧ 0 ≤ s.a1 ∧ s.a1 ≤ 1125899906842624) ∧ ∀ (i : Nat), i ≤ s.n → (∀ (j : Nat), j < i → (fun (i : Nat) => shRgo t s i) j) → (i = s.n → iteB (shSum s i == t.cap) (iteB (decide (List.getD (shM s.g i) 0 0 ≤ 8)) (iteB (decide (decide (List.getD (shM s.g i) 1 0 ≤ 8) = b)) True False) (iteB (decide (false = b)) True False)) (iteB (decide (false = b)) True False)) ∧ (i < s.n ∧ ¬shRgo t s i → iteB (decide (false = b)) True False) ∧ (False → False)) False) False) False) False) False) False) False) False)
 False)
 False)))
 (iteB (decide (false = b)) True False)))
 (iteB (decide (false = b)) True False)))
 (iteB (decide (s.a0 ≥ 0))
 (iteB (!decide (s.a0 ≤ 1125899906842624)) (iteB (decide (false = b)) True False)
 (iteB (decide (s.a1 ≥ 0))
 (iteB (!decide (s.a1 ≤ 1125899906842624)) (iteB (decide (false = b)) True False)
 (iteB (decide (s.a0 < t.fee)) (iteB (decide (false = b)) True False)
 (iteB (decide (IntKind.wrap IntKind.i64 (s.a0 + s.a1) = shSum s 0))
 (t.fund = t.fund ∧
 iteB (decide (t.index = t.index)) (iteB (decide (t.cap = t.cap)) (iteB (decide (t.dust = t.dust)) (iteB (decide (t.fee = t.fee)) (iteB (decide (t.delay = t.delay)) (t.k0 = t.k0 ∧ t.k1 = t.k1 ∧ iteB (decide (s.num = s.num)) (iteB (decide (s.owner = s.owner)) (s.point = s.point ∧ [s.a0, s.a1] = [s.a0, s.a1] ∧ iteB (decide (s.n = s.n)) (pRows s.g = pRows s.g ∧ iteB (decide (s.n = s.n)) ([(0 : Int), 0] = [(0 : Int), 0] ∧ (s.n < 1000 ∧ t.cap ≤ 1125899906842624 ∧ (0 ≤ s.a0 ∧ s.a0 ≤ 1125899906842624) ∧ 0 ≤ s.a1 ∧ s.a1 ≤ 1125899906842624) ∧ ∀ (i : Nat), i ≤ s.n → (∀ (j : Nat), j < i → (fun (i : Nat) => shRgo t s i) j) → (i = s.n → iteB (shSum s i == t.cap) (iteB (decide (List.getD (shM s.g i) 0 0 ≤ 8)) (iteB (decide (decide (List.getD (shM s.g i) 1 0 ≤ 8) = b)) True False) (iteB (decide (false = b)) True False)) (iteB (decide (false = b)) True False)) ∧ (i < s.n ∧ ¬shRgo t s i → iteB (decide (false = b)) True False) ∧ (False → False)) False) False) False) False) False) False) False) False)
 False)
 False)))
 (iteB (decide (false = b)) True False)))
 (iteB (decide (false = b)) True False)))))) (by kernel_rfl) ?_
  try simp only [need_eq]
  try simp only [nope_eq]
  try simp only [iteD_eq]
  try simp only [iteT_eq]
  try simp only [iteF_eq]
  try simp only [iteE_eq]
  try simp only [Int.toNat_natCast, Nat.zero_add, true_and, and_true, Nat.le_refl]
  have e0 : (TermS.mk t.fund t.index t.cap t.dust t.fee t.delay t.k0 t.k1) = t := rfl
  rw [e0]
  have hR := shR_iff (t := t) (s := s)
  have no : ¬ (shB addM t s = true) → false = b := fun h => by rw [hb]; simpa using h
  refine ⟨ht, fun k1 => no fun h => ?_, fun k1 => ⟨fun k2 => no fun h => ?_, fun k2 => ⟨fun k3 => no fun h => ?_, fun k3 => ⟨fun k4 => ⟨fun k5 => no fun h => ?_, fun k5 => ?_⟩, fun k4 => ?_⟩⟩⟩⟩
  · have := (hR.1 h).1; rw [this] at k1; cases k1
  · have := (hR.1 h).2.1; omega
  · have := (hR.1 h).2.1; omega
  · have := (hR.1 h).2.2.1
    simp only [bne_iff_ne, ne_eq] at k4 k5
    omega
  all_goals
    have ow : 0 ≤ s.owner ∧ s.owner ≤ 1 := by
      first
        | (simp only [bne_eq_false_iff_eq] at k5; omega)
        | (simp only [bne_eq_false_iff_eq] at k4; omega)
    have kt : termB t = true := by simpa using k1
    have kc : t.cap ≤ 1125899906842624 := by
      have := kt
      unfold termB at this
      simp only [Bool.and_eq_true, decide_eq_true_eq] at this
      omega
    refine ⟨fun a1 => ⟨fun a2 => no fun h => ?_, fun a2 => ⟨fun a3 => ⟨fun a4 => no fun h => ?_, fun a4 => ⟨fun a5 => no fun h => ?_, fun a5 => ⟨?_, ⟨hn, kc, ?_, ?_⟩, fun i hi hgo => ⟨fun hq => ⟨fun c1 => ⟨fun c2 => ?_, fun c2 => no fun h => ?_⟩, fun c1 => no fun h => ?_⟩, fun hq => no fun h => ?_, fun h => h.elim⟩⟩⟩⟩, fun a3 => no fun h => ?_⟩⟩, fun a1 => no fun h => ?_⟩
    · have := (hR.1 h).2.2.2.1; simp at a2; omega
    · have := (hR.1 h).2.2.2.2.1; simp at a4; omega
    · have := (hR.1 h).2.2.2.2.2.1; omega
    · simp at a2 a4; rw [w64 (by omega)]; rfl
    · simp at a2; omega
    · simp at a4; omega
    · subst hq
      have c1 : shSum s s.n = t.cap := by simpa using c1
      simp at a2 a4
      rw [hb, Bool.eq_iff_iff, decide_eq_true_eq, hR]
      exact ⟨fun h => ⟨kt, by omega, ow, by omega, by omega, by omega, hgo, c1, c2, h⟩, fun h => h.2.2.2.2.2.2.2.2.2⟩
    · subst hq; have := (hR.1 h).2.2.2.2.2.2.2.2.1; omega
    · subst hq
      have := (hR.1 h).2.2.2.2.2.2.2.1
      rw [this] at c1; simp at c1
    · exact hq.2 ((hR.1 h).2.2.2.2.2.2.1 i hq.1)
    · have := (hR.1 h).2.2.2.2.1; omega
    · have := (hR.1 h).2.2.2.1; omega
def shrF (A : List Int → Int × Int) : PSumm := fun args h K => viewL none h true 20 args fun a => match a with
  | [.agg [.arr .u8 32 fu, .int .i64 ix, .int .i64 ca, .int .i64 du, .int .i64 fe, .int .i64 de, .arr .u8 32 k0, .arr .u8 32 k1], .agg l] => (TermS.Ok ⟨fu, ix, ca, du, fe, de, k0, k1⟩) ∧ ∃ s, isSh l s ∧ s.n < 1000 ∧ K (.bool (shB A ⟨fu, ix, ca, du, fe, de, k0, k1⟩ s))
  | _ => False
theorem shrF_ok (args : List AV) (h : Heap) (K : AV → Prop) (hl : shrF addM args h K) : CallsA PP 13 args h fun o h' => ∃ v, o = .ret v ∧ h' = h ∧ K v := by
  refine Pure.psumm (d := 20) (viewL_weak _ _ _ _ _ hl fun a ha => ?_)
  split at ha
  · obtain ⟨ht, s, hs, hn, hK⟩ := ha
    exact ⟨_, (Pure.evM (E101b_ok _ _) (rsf_1 ⟨_, _, _, _, _, _, _, _⟩ s _ ht hn rfl)).conv fun E r hr => hr.head (fun _ hc => hc) (fun _ hc => hc.head (fun _ hc => hs.rel hc) (fun _ hc => hc)), fun _ => rfl, hK⟩
  · exact ha.elim
end Go.Tk
end
section
namespace Go.Tk
def ouS (t : TermS) (s : ShS) (own other : List Int) (L : List MadeS) (c i : Nat) : St := ⟨109, [(11, .int .i64 i), (3, .ptr (some ⟨1, 0, 0, 0, 0⟩)), (2, .ptr (some ⟨0, 0, 0, 0, 0⟩)), (5, .nslice ⟨4, 0, 134, 0, 0⟩ 134 c c), (6, .ptr (some ⟨2, 0, 0, 0, 0⟩)), (7, .ptr (some ⟨3, 0, 0, 0, 0⟩))], ⟨5, [(0, .flat t.c), (1, .flat s.c), (2, .flat [.arr .u8 32 own]), (3, .flat [.arr .u8 32 other]), (4, .rows 134 c (mRows L))]⟩, []⟩
def ouE (L : List MadeS) (c : Nat) : St := ⟨109, [(5, .nslice ⟨0, 0, 134, 0, 0⟩ 134 c c)], ⟨1, [(0, .rows 134 c (mRows L))]⟩, []⟩
noncomputable def E102 : Env2 := G0.withF 60 puF
theorem E102_ok : E102.Ok := Env2.withF_ok G0_ok puF_ok
set_option maxRecDepth 100000 in
set_option maxHeartbeats 0 in
theorem ou_1 (t : TermS) (s : ShS) (own other : List Int) (L L1 : List MadeS) (c c1 i : Nat) (Z1 Z2 : Prop) (hn : s.n < 500) (hi : i ≤ s.n) (hL : L.length = c) (hci : c ≤ i + 2) (hL1 : i < s.n → L1 = (if t.dust ≤ (s.g i).amount then insL ltM (pMade t s own other i) L else L)) (hc1 : c1 = L1.length) (hok : ∀ m ∈ L, m.Okb) (hp : i < s.n → (pMade t s own other i).Okb) (h1 : i < s.n → Z1) (h2 : i = s.n → Z2) :
    roundE E102 20 31 0 0 (ouS t s own other L c i) (rdM 0 0 9 (ouS t s own other L1 c1 (i + 1)) (ouE L c) (ouE L c) (ouE L c) Z1 Z2 False False) := by
  refine @Eq.mpr _ (let q1 := s.n;
 let q2 := s.g (Int.toNat (↑i : Int));
 let q3 := q2.amount;
 let q4 := t.dust;
 let q5 := decide (IntKind.wrap IntKind.i64 ((↑i : Int) + 1) = (↑(i + 1) : Int));
 let q6 := decide (c = c1);
 let q7 := t.fund = t.fund;
 let q8 := decide (t.index = t.index);
 let q9 := decide (t.cap = t.cap);
 let q10 := decide (q4 = q4);
 let q11 := decide (t.fee = t.fee);
 let q12 := t.delay;
 let q13 := decide (q12 = q12);
 let q14 := t.k0 = t.k0;
 let q15 := t.k1 = t.k1;
 let q16 := decide (s.num = s.num);
 let q17 := s.owner;
 let q18 := decide (q17 = q17);
 let q19 := s.point;
 let q20 := q19 = q19;
 let q21 := [s.a0, s.a1];
 let q22 := q21 = q21;
 let q23 := decide (q1 = q1);
 let q24 := pRows s.g;
 let q25 := q24 = q24;
 let q26 := [(0, 0), (1, 1)];
 let q27 := mRows L;
 let q28 := decide (0 + c ≤ c);
 let q29 := [AV.int IntKind.i64 q3, AV.arr IntKind.u8 32 own, AV.arr IntKind.u8 32 other, AV.arr IntKind.u8 32 q19, AV.arr IntKind.u8 32 q2.hash, AV.int IntKind.i64 q12, AV.int IntKind.i64 q2.expiry, AV.int IntKind.i64 q2.id, AV.int IntKind.i64 (↑i : Int)];
 let q30 := decide (c + 1 = c1);
 let q31 := decide (c = c);
 iteB (decide ((↑i : Int) < (↑q1 : Int)))
 (iteB (decide (0 ≤ (↑i : Int) ∧ (↑i : Int) < (↑q1 : Int)))
 (iteB (decide (q3 < q4)) (iteB q5 (iteB q6 (iteB (decide (c1 ≤ c)) (q7 ∧ iteB q8 (iteB q9 (iteB q10 (iteB q11 (iteB q13 (q14 ∧ q15 ∧ iteB q16 (iteB q18 (q20 ∧ q22 ∧ iteB q23 (q25 ∧ iteB q23 (own = own ∧ other = other ∧ iteB q6 (RowsEq 0 ((3, 3) :: (2, 2) :: (4, 4) :: q26) c1 (mRows L1) q27 ∧ Z1) False) False) False) False) False) False) False) False) False) False) False) False) False)
 (iteB (q2.frm == q17) (iteB q28 ((∀ (i : Nat), i < c → true = true) ∧ ∃ (L : List MadeS), ∃ (m : MadeS), c = c ∧ shiftZ 0 q27 = mRows L ∧ AV.int IntKind.i64 4 :: q29 = MadeS.c m ∧ PuOk c L m ∧ iteB q5 (iteB q30 (iteB (decide (c1 ≤ c + 1)) (q7 ∧ iteB q8 (iteB q9 (iteB q10 (iteB q11 (iteB q13 (q14 ∧ q15 ∧ iteB q16 (iteB q18 (q20 ∧ q22 ∧ iteB q23 (q25 ∧ iteB q23 (own = own ∧ other = other ∧ iteB q30 (RowsEq 0 ((3, 3) :: (2, 2) :: (4, 6) :: q26) c1 (mRows L1) (mRows (insL ltM m L)) ∧ Z1) False) False) False) False) False) False) False) False) False) False) False) False) False) False)
 (iteB q28 ((∀ (i : Nat), i < c → true = true) ∧ ∃ (L : List MadeS), ∃ (m : MadeS), c = c ∧ shiftZ 0 q27 = mRows L ∧ AV.int IntKind.i64 5 :: q29 = MadeS.c m ∧ PuOk c L m ∧ iteB q5 (iteB q30 (iteB (decide (c1 ≤ c + 1)) (q7 ∧ iteB q8 (iteB q9 (iteB q10 (iteB q11 (iteB q13 (q14 ∧ q15 ∧ iteB q16 (iteB q18 (q20 ∧ q22 ∧ iteB q23 (q25 ∧ iteB q23 (own = own ∧ other = other ∧ iteB q30 (RowsEq 0 ((3, 3) :: (2, 2) :: (4, 6) :: q26) c1 (mRows L1) (mRows (insL ltM m L)) ∧ Z1) False) False) False) False) False) False) False) False) False) False) False) False) False) False)))
 False)
 (iteB q31 (iteB (decide (c ≤ c)) (iteB q31 (RowsEq 0 [(0, 4)] c q27 q27 ∧ Z2) False) False) False)) (by kernel_rfl) ?_
  conv => zeta
  try simp only [need_eq]
  try simp only [nope_eq]
  try simp only [iteD_eq]
  try simp only [iteT_eq]
  try simp only [iteF_eq]
  try simp only [iteE_eq]
  try simp only [Int.toNat_natCast, Nat.zero_add, true_and, and_true, Nat.le_refl]
  refine ⟨fun hc => ?_, fun hc => ⟨mRows_eq fun _ _ => rfl, h2 (by omega)⟩⟩
  have hlt : i < s.n := by omega
  have hwr : IntKind.i64.wrap ((i : Int) + 1) = ((i + 1 : Nat) : Int) := by rw [w64 (by omega)]; omega
  have hL1 := hL1 hlt
  have hp := hp hlt
  refine ⟨by omega, fun k => ?_, fun k => ⟨fun k2 => ?_, fun k2 => ?_⟩⟩
  · rw [if_neg (by omega)] at hL1
    have e : c = c1 := by rw [hc1, hL1, hL]
    exact ⟨hwr, e, by omega, e, mRows_eq fun _ _ => by rw [hL1], h1 hlt⟩
  all_goals
    rw [if_pos (by omega)] at hL1
    have e : c + 1 = c1 := by rw [hc1, hL1, insL_len, hL]
    refine ⟨fun _ _ => trivial, L, pMade t s own other i, rfl, ?_, ⟨by omega, hL, hp, hok⟩, hwr, e, by omega, e, mRows_eq fun _ _ => by rw [hL1], h1 hlt⟩
    simp only [beq_iff_eq, beq_eq_false_iff_ne, ne_eq] at k2
    unfold pMade
    first | (rw [if_pos k2]; rfl) | (rw [if_neg k2]; rfl)
theorem osInit_okb {t : TermS} {point own other : List Int} {a b : Int} (h1 : point.length = 32) (h2 : own.length = 32) (h3 : other.length = 32) : ∀ m ∈ osInit t point own other a b, m.Okb := fun m hm => by
  refine ⟨osInit_mem h1 h2 h3 m hm, ?_⟩
  unfold osInit at hm
  rw [List.mem_append] at hm
  rcases hm with hm | hm
  · split at hm
    · rw [List.mem_singleton] at hm; subst hm; exact bytes_zero
    · cases hm
  · split at hm
    · rw [List.mem_singleton] at hm; subst hm; exact bytes_zero
    · cases hm
theorem pMade_okb {t : TermS} {s : ShS} {own other : List Int} {i : Nat} (hs : s.Ok) (h2 : own.length = 32) (h3 : other.length = 32) (hi : i < s.n) : (pMade t s own other i).Okb := ⟨⟨h2, h3, hs.point, (hs.g i hi).hash⟩, (hs.g i hi).hb⟩
theorem osList_okb {t : TermS} {s : ShS} {own other : List Int} {O0 : List MadeS} (h0 : ∀ m ∈ O0, m.Okb) (hs : s.Ok) (h2 : own.length = 32) (h3 : other.length = 32) : ∀ i, i ≤ s.n → ∀ m ∈ osList t s own other O0 i, m.Okb
  | 0, _ => h0
  | i + 1, hi => fun m hm => by
    simp only [osList, List.mem_append] at hm
    rcases hm with hm | hm
    · exact osList_okb h0 hs h2 h3 i (by omega) m hm
    · split at hm
      · rw [List.mem_singleton] at hm; subst hm
        exact pMade_okb hs h2 h3 (by omega)
      · cases hm
theorem sortM_mem {L : List MadeS} {P : MadeS → Prop} (h : ∀ m ∈ L, P m) : ∀ m ∈ sortM L, P m := fun m hm => by
  rcases (sortL_mem (acc := [])).1 hm with h0 | h0
  · cases h0
  · exact h m h0
structure OuC (t : TermS) (s : ShS) (own other : List Int) (O0 L0 : List MadeS) (c0 : Nat) (Ll : Nat → List MadeS) : Prop where
  hn : s.n < 500
  hl : L0 = sortM O0
  hc : c0 = L0.length
  c2 : O0.length ≤ 2
  okb : ∀ m ∈ O0, m.Okb
  hs : s.Ok
  ho1 : own.length = 32
  ho2 : other.length = 32
  hL : Ll = fun i => sortM (osList t s own other O0 i)
noncomputable def E102b (t : TermS) (s : ShS) (own other : List Int) (O0 L0 : List MadeS) (c0 : Nat) (Ll : Nat → List MadeS) : Env2 := E102.withL 31 0 (goM 0 (ouS t s own other L0 c0 0) (OuC t s own other O0 L0 c0 Ll) (endsJ 0 s.n 9 (fun i => i < s.n) (fun i => i = s.n) (fun _ => False) (fun _ => False) (fun i => ouE (Ll i) (Ll i).length) (fun i => ouE (Ll i) (Ll i).length) (fun i => ouE (Ll i) (Ll i).length)))
theorem E102b_ok (t : TermS) (s : ShS) (own other : List Int) (O0 L0 : List MadeS) (c0 : Nat) (Ll : Nat → List MadeS) : (E102b t s own other O0 L0 c0 Ll).Ok :=
  Env2.withGoM (N := 20) (S := fun i => ouS t s own other (sortM (osList t s own other O0 i)) (sortM (osList t s own other O0 i)).length i) E102_ok (by kernel_rfl) fun hC => ⟨by
    show ouS t s own other (sortM O0) (sortM O0).length 0 = _
    rw [hC.hc, hC.hl], fun i hi _ => by
    rw [hC.hL]
    have h1 := osList_len (t := t) (s := s) (own := own) (other := other) (O0 := O0) i
    have h2 := hC.c2
    refine ou_1 t s own other _ _ _ _ i _ _ hC.hn hi rfl (by rw [sortM_len]; omega) (fun hlt => ?_) rfl (sortM_mem (osList_okb hC.okb hC.hs hC.ho1 hC.ho2 i hi)) (fun hlt => pMade_okb hC.hs hC.ho1 hC.ho2 hlt) (fun h => ⟨h, h⟩) (fun h => h)
    simp only [osList]
    split
    · unfold sortM; rw [sortL_snoc]
    · rw [List.append_nil]⟩
set_option maxRecDepth 100000 in
set_option maxHeartbeats 0 in
theorem ouf_0 (t : TermS) (num : Int) (point : List Int) (a0 a1 : Int) (n : Nat) (g : Nat → PendS) (O0 L0 : List MadeS) (c0 : Nat) (Ll : Nat → List MadeS) (b0 : Int) (L1 : List MadeS) (c : Nat) (hwr : IntKind.i64.wrap (a0 - t.fee) = b0) (hO0 : O0 = osInit t point t.k0 t.k1 b0 a1) (hC : OuC t ⟨num, 0, point, a0, a1, n, g⟩ t.k0 t.k1 O0 L0 c0 Ll) (hL1 : L1 = Ll n) (hc : c = L1.length) :
    evF (E102b t ⟨num, 0, point, a0, a1, n, g⟩ t.k0 t.k1 O0 L0 c0 Ll) 20 31 [.agg t.c, .agg (ShS.c ⟨num, 0, point, a0, a1, n, g⟩)] ⟨0, []⟩ (outM 0 (.ret (.nslice ⟨0, 0, 134, 0, 0⟩ 134 c c)) 1 [(0, .rows 134 c (mRows L1))]) := by
  refine @Eq.mpr _ (let q1 := t.k1;
 let q2 := q1 = q1;
 let q3 := ShS.mk num 0 point a0 a1 n g;
 let q4 := q3.a0;
 let q5 := t.fee;
 let q6 := IntKind.wrap IntKind.i64 (q4 - q5);
 let q7 := t.dust;
 let q8 := t.k0;
 let q9 := AV.arr IntKind.u8 32 zero32;
 let q10 := q3.point;
 let q11 := t.delay;
 let q12 := AV.int IntKind.i64 0;
 let q13 := q3.a1;
 let q14 := decide (q13 ≥ q7);
 let q15 := decide (2 = c0);
 let q16 := t.fund = t.fund;
 let q17 := decide (t.index = t.index);
 let q18 := decide (t.cap = t.cap);
 let q19 := decide (q7 = q7);
 let q20 := decide (q5 = q5);
 let q21 := decide (q11 = q11);
 let q22 := q8 = q8;
 let q23 := q3.num;
 let q24 := decide (q23 = q23);
 let q25 := q10 = q10;
 let q26 := [q4, q13];
 let q27 := q26 = q26;
 let q28 := q3.n;
 let q29 := decide (q28 = q28);
 let q30 := pRows q3.g;
 let q31 := q30 = q30;
 let q32 := [(0, 0), (1, 1)];
 let q33 := OuC t q3 q8 q1 O0 L0 c0 Ll ∧ ∀ (i : Nat), i ≤ q28 → (∀ (j : Nat), j < i → (fun (i : Nat) => i < q28) j) → (i = q28 → iteB (decide (List.length (Ll i) = c)) (iteB (decide (c ≤ List.length (Ll i))) (iteB (decide (List.length (Ll i) = c)) (RowsEq 0 [(0, 0)] c (mRows L1) (mRows (Ll i)) ∧ True) False) False) False) ∧ (False → False) ∧ (False → False);
 let q34 := decide (1 = c0);
 let q35 := decide (c0 = 0);
 q2 ∧
 q2 ∧
 q2 ∧
 iteB (decide (q6 ≥ q7))
 (∃ (m : MadeS),
 let q71 := mRows (insL ltM m []);
 [AV.int IntKind.i64 3, AV.int IntKind.i64 q6, AV.arr IntKind.u8 32 q8, q9, AV.arr IntKind.u8 32 q10, q9, AV.int IntKind.i64 q11, q12, q12, AV.int IntKind.i64 (-1)] = MadeS.c m ∧
 iteB q14 ((∀ (i : Nat), i < 1 → true = true) ∧ ∃ (L : List MadeS), ∃ (m : MadeS), (1 : Nat) = 1 ∧ shiftZ 0 q71 = mRows L ∧ [AV.int IntKind.i64 1, AV.int IntKind.i64 q13, AV.arr IntKind.u8 32 q1, q9, q9, q9, q12, q12, q12, AV.int IntKind.i64 (-2)] = MadeS.c m ∧ PuOk 1 L m ∧ iteB q15 (iteB (decide (c0 ≤ 2)) (q16 ∧ iteB q17 (iteB q18 (iteB q19 (iteB q20 (iteB q21 (q22 ∧ q2 ∧ iteB q24 (q25 ∧ q27 ∧ iteB q29 (q31 ∧ iteB q29 (q22 ∧ q2 ∧ iteB q15 (RowsEq 0 ((3, 3) :: (2, 2) :: (4, 6) :: q32) c0 (mRows L0) (mRows (insL ltM m L)) ∧ q33) False) False) False) False) False) False) False) False) False) False) False) (iteB q34 (iteB (decide (c0 ≤ 1)) (q16 ∧ iteB q17 (iteB q18 (iteB q19 (iteB q20 (iteB q21 (q22 ∧ q2 ∧ iteB q24 (q25 ∧ q27 ∧ iteB q29 (q31 ∧ iteB q29 (q22 ∧ q2 ∧ iteB q34 (RowsEq 0 ((3, 3) :: (2, 2) :: (4, 5) :: q32) c0 (mRows L0) q71 ∧ q33) False) False) False) False) False) False) False) False) False) False) False))
 (iteB q14 (∃ (m : MadeS), [AV.int IntKind.i64 1, AV.int IntKind.i64 q13, AV.arr IntKind.u8 32 q1, q9, q9, q9, q12, q12, q12, AV.int IntKind.i64 (-2)] = MadeS.c m ∧ iteB q34 (iteB (decide (c0 ≤ 1)) (q16 ∧ iteB q17 (iteB q18 (iteB q19 (iteB q20 (iteB q21 (q22 ∧ q2 ∧ iteB q24 (q25 ∧ q27 ∧ iteB q29 (q31 ∧ iteB q29 (q22 ∧ q2 ∧ iteB q34 (RowsEq 0 ((3, 3) :: (2, 2) :: (4, 5) :: q32) c0 (mRows L0) (mRows (insL ltM m [])) ∧ q33) False) False) False) False) False) False) False) False) False) False) False) (iteB q35 (iteB q35 (q16 ∧ iteB q17 (iteB q18 (iteB q19 (iteB q20 (iteB q21 (q22 ∧ q2 ∧ iteB q24 (q25 ∧ q27 ∧ iteB q29 (q31 ∧ iteB q29 (q22 ∧ q2 ∧ iteB q35 q33 False) False) False) False) False) False) False) False) False) False) False))) (by kernel_rfl) ?_
  conv => zeta
  try simp only [need_eq]
  try simp only [nope_eq]
  try simp only [iteD_eq]
  try simp only [iteT_eq]
  try simp only [iteF_eq]
  try simp only [iteE_eq]
  try simp only [Int.toNat_natCast, Nat.zero_add, true_and, and_true, Nat.le_refl]
  rw [hwr]
  have z32 : zero32.length = 32 := rfl
  have okX : (⟨⟨3, b0, t.k0, zero32, point, zero32, t.delay, 0⟩, 0, -1⟩ : MadeS).Okb := ⟨⟨hC.ho1, z32, hC.hs.point, z32⟩, bytes_zero⟩
  have okY : (⟨⟨1, a1, t.k1, zero32, zero32, zero32, 0, 0⟩, 0, -2⟩ : MadeS).Okb := ⟨⟨hC.ho2, z32, z32, z32⟩, bytes_zero⟩
  have hfin : ∀ i, i ≤ n → (∀ j, j < i → j < n) → (i = n → (Ll i).length = c ∧ c ≤ (Ll i).length ∧ (Ll i).length = c ∧ RowsEq 0 [(0, 0)] c (mRows L1) (mRows (Ll i))) ∧ (False → False) ∧ (False → False) := fun i _ _ => ⟨fun he => by
    subst he
    have e : (Ll i).length = c := by rw [hc, hL1]
    exact ⟨e, by omega, e, mRows_eq fun _ _ => by rw [hL1]⟩, fun h => h, fun h => h⟩
  have hl0 := hC.hl
  rw [hO0] at hl0
  unfold osInit at hl0
  have hc0 := hC.hc
  refine ⟨fun k1 => ⟨⟨⟨3, b0, t.k0, zero32, point, zero32, t.delay, 0⟩, 0, -1⟩, rfl, fun k2 => ?_, fun k2 => ?_⟩, fun k1 => ⟨fun k2 => ?_, fun k2 => ?_⟩⟩
  · rw [if_pos k1, if_pos k2] at hl0
    have e : 2 = c0 := by rw [hc0, hl0]; unfold sortM; rw [sortL_len]; rfl
    exact ⟨fun _ _ => trivial, insL ltM ⟨⟨3, b0, t.k0, zero32, point, zero32, t.delay, 0⟩, 0, -1⟩ [], ⟨⟨1, a1, t.k1, zero32, zero32, zero32, 0, 0⟩, 0, -2⟩, rfl, rfl, ⟨by decide, rfl, okY, fun x hx => by rcases List.mem_cons.1 hx with rfl | hx; exact okX; cases hx⟩, e, by omega, e, mRows_eq fun _ _ => by rw [hl0]; rfl, hC, hfin⟩
  · rw [if_pos k1, if_neg k2] at hl0
    have e : 1 = c0 := by rw [hc0, hl0]; unfold sortM; rw [sortL_len]; rfl
    exact ⟨e, by omega, e, mRows_eq fun _ _ => by rw [hl0]; rfl, hC, hfin⟩
  · rw [if_neg k1, if_pos k2] at hl0
    have e : 1 = c0 := by rw [hc0, hl0]; unfold sortM; rw [sortL_len]; rfl
    exact ⟨⟨⟨1, a1, t.k1, zero32, zero32, zero32, 0, 0⟩, 0, -2⟩, rfl, e, by omega, e, mRows_eq fun _ _ => by rw [hl0]; rfl, hC, hfin⟩
  · rw [if_neg k1, if_neg k2] at hl0
    have e : 0 = c0 := by rw [hc0, hl0]; rfl
    and_intros
    all_goals first | exact hC | exact hfin | omega | exact mRows_eq fun j hj => absurd hj (by omega) | rfl
set_option maxRecDepth 100000 in
set_option maxHeartbeats 0 in
theorem ouf_1 (t : TermS) (num : Int) (point : List Int) (a0 a1 : Int) (n : Nat) (g : Nat → PendS) (O0 L0 : List MadeS) (c0 : Nat) (Ll : Nat → List MadeS) (b0 : Int) (L1 : List MadeS) (c : Nat) (hwr : IntKind.i64.wrap (a0 - t.fee) = b0) (hO0 : O0 = osInit t point t.k1 t.k0 a1 b0) (hC : OuC t ⟨num, 1, point, a0, a1, n, g⟩ t.k1 t.k0 O0 L0 c0 Ll) (hL1 : L1 = Ll n) (hc : c = L1.length) :
    evF (E102b t ⟨num, 1, point, a0, a1, n, g⟩ t.k1 t.k0 O0 L0 c0 Ll) 20 31 [.agg t.c, .agg (ShS.c ⟨num, 1, point, a0, a1, n, g⟩)] ⟨0, []⟩ (outM 0 (.ret (.nslice ⟨0, 0, 134, 0, 0⟩ 134 c c)) 1 [(0, .rows 134 c (mRows L1))]) := by
  refine @Eq.mpr _ (let q1 := t.k0;
 let q2 := q1 = q1;
 let q3 := ShS.mk num 1 point a0 a1 n g;
 let q4 := q3.a1;
 let q5 := t.dust;
 let q6 := t.k1;
 let q7 := AV.arr IntKind.u8 32 zero32;
 let q8 := q3.point;
 let q9 := t.delay;
 let q10 := AV.int IntKind.i64 0;
 let q11 := q3.a0;
 let q12 := t.fee;
 let q13 := IntKind.wrap IntKind.i64 (q11 - q12);
 let q14 := decide (q13 ≥ q5);
 let q15 := decide (2 = c0);
 let q16 := t.fund = t.fund;
 let q17 := decide (t.index = t.index);
 let q18 := decide (t.cap = t.cap);
 let q19 := decide (q5 = q5);
 let q20 := decide (q12 = q12);
 let q21 := decide (q9 = q9);
 let q22 := q6 = q6;
 let q23 := q3.num;
 let q24 := decide (q23 = q23);
 let q25 := q8 = q8;
 let q26 := [q11, q4];
 let q27 := q26 = q26;
 let q28 := q3.n;
 let q29 := decide (q28 = q28);
 let q30 := pRows q3.g;
 let q31 := q30 = q30;
 let q32 := [(0, 0), (1, 1)];
 let q33 := OuC t q3 q6 q1 O0 L0 c0 Ll ∧ ∀ (i : Nat), i ≤ q28 → (∀ (j : Nat), j < i → (fun (i : Nat) => i < q28) j) → (i = q28 → iteB (decide (List.length (Ll i) = c)) (iteB (decide (c ≤ List.length (Ll i))) (iteB (decide (List.length (Ll i) = c)) (RowsEq 0 [(0, 0)] c (mRows L1) (mRows (Ll i)) ∧ True) False) False) False) ∧ (False → False) ∧ (False → False);
 let q34 := decide (1 = c0);
 let q35 := decide (c0 = 0);
 q2 ∧
 q2 ∧
 q2 ∧
 iteB (decide (q4 ≥ q5))
 (∃ (m : MadeS),
 let q71 := mRows (insL ltM m []);
 [AV.int IntKind.i64 3, AV.int IntKind.i64 q4, AV.arr IntKind.u8 32 q6, q7, AV.arr IntKind.u8 32 q8, q7, AV.int IntKind.i64 q9, q10, q10, AV.int IntKind.i64 (-1)] = MadeS.c m ∧
 iteB q14 ((∀ (i : Nat), i < 1 → true = true) ∧ ∃ (L : List MadeS), ∃ (m : MadeS), (1 : Nat) = 1 ∧ shiftZ 0 q71 = mRows L ∧ [AV.int IntKind.i64 1, AV.int IntKind.i64 q13, AV.arr IntKind.u8 32 q1, q7, q7, q7, q10, q10, q10, AV.int IntKind.i64 (-2)] = MadeS.c m ∧ PuOk 1 L m ∧ iteB q15 (iteB (decide (c0 ≤ 2)) (q16 ∧ iteB q17 (iteB q18 (iteB q19 (iteB q20 (iteB q21 (q2 ∧ q22 ∧ iteB q24 (q25 ∧ q27 ∧ iteB q29 (q31 ∧ iteB q29 (q22 ∧ q2 ∧ iteB q15 (RowsEq 0 ((3, 3) :: (2, 2) :: (4, 6) :: q32) c0 (mRows L0) (mRows (insL ltM m L)) ∧ q33) False) False) False) False) False) False) False) False) False) False) False) (iteB q34 (iteB (decide (c0 ≤ 1)) (q16 ∧ iteB q17 (iteB q18 (iteB q19 (iteB q20 (iteB q21 (q2 ∧ q22 ∧ iteB q24 (q25 ∧ q27 ∧ iteB q29 (q31 ∧ iteB q29 (q22 ∧ q2 ∧ iteB q34 (RowsEq 0 ((3, 3) :: (2, 2) :: (4, 5) :: q32) c0 (mRows L0) q71 ∧ q33) False) False) False) False) False) False) False) False) False) False) False))
 (iteB q14 (∃ (m : MadeS), [AV.int IntKind.i64 1, AV.int IntKind.i64 q13, AV.arr IntKind.u8 32 q1, q7, q7, q7, q10, q10, q10, AV.int IntKind.i64 (-2)] = MadeS.c m ∧ iteB q34 (iteB (decide (c0 ≤ 1)) (q16 ∧ iteB q17 (iteB q18 (iteB q19 (iteB q20 (iteB q21 (q2 ∧ q22 ∧ iteB q24 (q25 ∧ q27 ∧ iteB q29 (q31 ∧ iteB q29 (q22 ∧ q2 ∧ iteB q34 (RowsEq 0 ((3, 3) :: (2, 2) :: (4, 5) :: q32) c0 (mRows L0) (mRows (insL ltM m [])) ∧ q33) False) False) False) False) False) False) False) False) False) False) False) (iteB q35 (iteB q35 (q16 ∧ iteB q17 (iteB q18 (iteB q19 (iteB q20 (iteB q21 (q2 ∧ q22 ∧ iteB q24 (q25 ∧ q27 ∧ iteB q29 (q31 ∧ iteB q29 (q22 ∧ q2 ∧ iteB q35 q33 False) False) False) False) False) False) False) False) False) False) False))) (by kernel_rfl) ?_
  conv => zeta
  try simp only [need_eq]
  try simp only [nope_eq]
  try simp only [iteD_eq]
  try simp only [iteT_eq]
  try simp only [iteF_eq]
  try simp only [iteE_eq]
  try simp only [Int.toNat_natCast, Nat.zero_add, true_and, and_true, Nat.le_refl]
  rw [hwr]
  have z32 : zero32.length = 32 := rfl
  have okX : (⟨⟨3, a1, t.k1, zero32, point, zero32, t.delay, 0⟩, 0, -1⟩ : MadeS).Okb := ⟨⟨hC.ho1, z32, hC.hs.point, z32⟩, bytes_zero⟩
  have okY : (⟨⟨1, b0, t.k0, zero32, zero32, zero32, 0, 0⟩, 0, -2⟩ : MadeS).Okb := ⟨⟨hC.ho2, z32, z32, z32⟩, bytes_zero⟩
  have hfin : ∀ i, i ≤ n → (∀ j, j < i → j < n) → (i = n → (Ll i).length = c ∧ c ≤ (Ll i).length ∧ (Ll i).length = c ∧ RowsEq 0 [(0, 0)] c (mRows L1) (mRows (Ll i))) ∧ (False → False) ∧ (False → False) := fun i _ _ => ⟨fun he => by
    subst he
    have e : (Ll i).length = c := by rw [hc, hL1]
    exact ⟨e, by omega, e, mRows_eq fun _ _ => by rw [hL1]⟩, fun h => h, fun h => h⟩
  have hl0 := hC.hl
  rw [hO0] at hl0
  unfold osInit at hl0
  have hc0 := hC.hc
  refine ⟨fun k1 => ⟨⟨⟨3, a1, t.k1, zero32, point, zero32, t.delay, 0⟩, 0, -1⟩, rfl, fun k2 => ?_, fun k2 => ?_⟩, fun k1 => ⟨fun k2 => ?_, fun k2 => ?_⟩⟩
  · rw [if_pos k1, if_pos k2] at hl0
    have e : 2 = c0 := by rw [hc0, hl0]; unfold sortM; rw [sortL_len]; rfl
    exact ⟨fun _ _ => trivial, insL ltM ⟨⟨3, a1, t.k1, zero32, point, zero32, t.delay, 0⟩, 0, -1⟩ [], ⟨⟨1, b0, t.k0, zero32, zero32, zero32, 0, 0⟩, 0, -2⟩, rfl, rfl, ⟨by decide, rfl, okY, fun x hx => by rcases List.mem_cons.1 hx with rfl | hx; exact okX; cases hx⟩, e, by omega, e, mRows_eq fun _ _ => by rw [hl0]; rfl, hC, hfin⟩
  · rw [if_pos k1, if_neg k2] at hl0
    have e : 1 = c0 := by rw [hc0, hl0]; unfold sortM; rw [sortL_len]; rfl
    exact ⟨e, by omega, e, mRows_eq fun _ _ => by rw [hl0]; rfl, hC, hfin⟩
  · rw [if_neg k1, if_pos k2] at hl0
    have e : 1 = c0 := by rw [hc0, hl0]; unfold sortM; rw [sortL_len]; rfl
    exact ⟨⟨⟨1, b0, t.k0, zero32, zero32, zero32, 0, 0⟩, 0, -2⟩, rfl, e, by omega, e, mRows_eq fun _ _ => by rw [hl0]; rfl, hC, hfin⟩
  · rw [if_neg k1, if_neg k2] at hl0
    have e : 0 = c0 := by rw [hc0, hl0]; rfl
    and_intros
    all_goals first | exact hC | exact hfin | omega | exact mRows_eq fun j hj => absurd hj (by omega) | rfl
end Go.Tk
end
section
namespace Go.Tk
theorem sh16 {A : List Int → Int × Int} {t : TermS} {s : ShS} (hn : s.n < 1000) (h : shB A t s = true) : s.n ≤ 16 := by
  obtain ⟨g1, g2, g3, g4, g5, g6, g7, _⟩ := shB_iff.1 h
  obtain ⟨h1, h2, h3⟩ := shM_sum s.n hn (fun j hj => (g5 j hj).1)
  omega
structure RouC (t : TermS) (s : ShS) : Prop where
  o : OutsOk t s
  hs : s.Ok
  ht : t.Ok
  hn : s.n ≤ 16
def rouF : FSumm := fun args h K => viewL none h true 20 args fun a => match a with
  | [.agg [.arr .u8 32 fu, .int .i64 ix, .int .i64 ca, .int .i64 du, .int .i64 fe, .int .i64 de, .arr .u8 32 k0, .arr .u8 32 k1], .agg l] => ∃ s, isSh l s ∧ RouC ⟨fu, ix, ca, du, fe, de, k0, k1⟩ s ∧
    ∀ n L, L = sortM (osAll ⟨fu, ix, ca, du, fe, de, k0, k1⟩ s) → n = L.length → K (.ret (.nslice ⟨h.next, 0, 134, 0, 0⟩ 134 n n)) ⟨h.next + 1, (h.next, .rows 134 n (mRows L)) :: h.bs⟩
  | _ => False
theorem rouF_ok (args : List AV) (h : Heap) (K : KO) (hl : rouF args h K) : CallsA PP 31 args h K := by
  refine Pure.fsumm (d := 20) (viewL_weak _ _ _ _ _ hl fun a ha => ?_)
  split at ha
  · rename_i fu ix ca du fe de k0 k1 l
    obtain ⟨s, hs, ⟨ho, hsok, ht, hn⟩, hK⟩ := ha
    have hK := hK _ _ rfl rfl
    have hfee := ho.fee
    rcases ho.ow with ow | ow
    · obtain ⟨num, owner, point, a0, a1, n, g⟩ := s
      simp only at ow hn
      subst ow
      unfold osAll at hK
      rw [if_pos rfl] at hK
      have hC : OuC ⟨fu, ix, ca, du, fe, de, k0, k1⟩ ⟨num, 0, point, a0, a1, n, g⟩ k0 k1 (osInit ⟨fu, ix, ca, du, fe, de, k0, k1⟩ point k0 k1 (a0 - fe) a1) _ _ _ := ⟨by show n < 500; omega, rfl, rfl, osInit_len, osInit_okb hsok.point ht.k0 ht.k1, hsok, ht.k0, ht.k1, rfl⟩
      exact ⟨_, _, _, _, (Pure.evM (E102b_ok _ _ _ _ _ _ _ _) (ouf_0 ⟨fu, ix, ca, du, fe, de, k0, k1⟩ num point a0 a1 n g _ _ _ _ _ _ _ (w64 hfee) rfl hC rfl rfl)).conv (fun E r hr => hr.head (fun _ hc => hc) (fun _ hc => hc.head (fun _ hc => hs.rel hc) (fun _ hc => hc))), rfl, ⟨Nat.one_pos, .rows _ _ _ (fun i _ => mRows_plain _ i), trivial⟩, hK⟩
    · obtain ⟨num, owner, point, a0, a1, n, g⟩ := s
      simp only at ow hn
      subst ow
      unfold osAll at hK
      rw [if_neg (show ¬ (1 : Int) = 0 by decide)] at hK
      have hC : OuC ⟨fu, ix, ca, du, fe, de, k0, k1⟩ ⟨num, 1, point, a0, a1, n, g⟩ k1 k0 (osInit ⟨fu, ix, ca, du, fe, de, k0, k1⟩ point k1 k0 a1 (a0 - fe)) _ _ _ := ⟨by show n < 500; omega, rfl, rfl, osInit_len, osInit_okb hsok.point ht.k1 ht.k0, hsok, ht.k1, ht.k0, rfl⟩
      exact ⟨_, _, _, _, (Pure.evM (E102b_ok _ _ _ _ _ _ _ _) (ouf_1 ⟨fu, ix, ca, du, fe, de, k0, k1⟩ num point a0 a1 n g _ _ _ _ _ _ _ (w64 hfee) rfl hC rfl rfl)).conv (fun E r hr => hr.head (fun _ hc => hc) (fun _ hc => hc.head (fun _ hc => hs.rel hc) (fun _ hc => hc))), rfl, ⟨Nat.one_pos, .rows _ _ _ (fun i _ => mRows_plain _ i), trivial⟩, hK⟩
  · exact ha.elim
noncomputable def E103 (A : List Int → Int × Int) : Env2 := ((G0.withP 13 (shrF A)).withF 31 rouF).withF 30 mxG
theorem E103_ok : (E103 addM).Ok := Env2.withF_ok (Env2.withF_ok (Env2.withP_ok G0_ok shrF_ok) rouF_ok) mxrG_ok
set_option maxRecDepth 100000 in
set_option maxHeartbeats 0 in
theorem cor_1 (A : List Int → Int × Int) (t : TermS) (s : ShS) (ht : t.Ok) (hn : s.n < 1000) (hb : shB A t s = false) :
    evF (E103 A) 20 11 [.agg t.c, .agg s.c] ⟨0, []⟩ (outM 0 (.ret (.tuple [.agg txZ, .int .i64 2])) 0 []) := by
  refine @Eq.mpr _ (let q1 := t.fund;
 let q2 := t.index;
 let q3 := t.cap;
 let q4 := t.dust;
 let q5 := t.fee;
 let q6 := t.delay;
 let q7 := t.k0;
 let q8 := t.k1;
 let q9 := TermS.mk q1 q2 q3 q4 q5 q6 q7 q8;
 let q10 := s.num;
 let q11 := s.n;
 TermS.Ok q9 ∧
 ∃ (s_1 : ShS),
 let q23 := [s.a0, s.a1];
 ((s_1.num = q10 ∧ s_1.owner = s.owner ∧ s_1.point = s.point ∧ q23 = [s_1.a0, s_1.a1]) ∧ (q11 = q11 ∧ s_1.n = q11) ∧ ∀ (i : Nat), i < q11 → pRows s.g i = PendS.c (s_1.g i)) ∧ s_1.n < 1000 ∧ iteB (!shB A q9 s_1) True (∃ (s_2 : ShS), ((s_2.num = q10 ∧ s_2.owner = s.owner ∧ s_2.point = s.point ∧ q23 = [s_2.a0, s_2.a1]) ∧ (q11 = q11 ∧ s_2.n = q11) ∧ ∀ (i : Nat), i < q11 → pRows s.g i = PendS.c (s_2.g i)) ∧ RouC q9 s_2 ∧ ∀ (n : Nat) (L : List MadeS), L = sortM (osAll q9 s_2) → n = List.length L → iteB (decide (q10 = q10)) (q1 = q1 ∧ iteB (decide (q2 = q2)) (iteB (decide (q3 = q3)) (iteB (decide (q4 = q4)) (iteB (decide (q5 = q5)) (iteB (decide (q6 = q6)) (q7 = q7 ∧ q8 = q8 ∧ iteB (decide (0 + n ≤ n)) ((∀ (i : Nat), i < n → true = true) ∧ ∃ (L_1 : List MadeS), n = n ∧ shiftZ 0 (mRows L) = mRows L_1 ∧ n < 1000 ∧ (n = 0 → False) ∧ (n ≠ 0 → iteB (decide (q10 = 0)) False False)) False) False) False) False) False) False) False)) (by kernel_rfl) ?_
  conv => zeta
  try simp only [need_eq]
  try simp only [nope_eq]
  try simp only [iteD_eq]
  try simp only [iteT_eq]
  try simp only [iteF_eq]
  try simp only [iteE_eq]
  try simp only [Int.toNat_natCast, Nat.zero_add, true_and, and_true, Nat.le_refl]
  have e0 : (TermS.mk t.fund t.index t.cap t.dust t.fee t.delay t.k0 t.k1) = t := rfl
  rw [e0]
  refine ⟨ht, s, ⟨⟨rfl, rfl, rfl, rfl⟩, rfl, fun _ _ => rfl⟩, hn, fun _ => trivial, fun k => ?_⟩
  rw [hb] at k; cases k
set_option maxRecDepth 100000 in
set_option maxHeartbeats 0 in
theorem cor_2 (A : List Int → Int × Int) (t : TermS) (s : ShS) (n : Nat) (L1 : List MadeS) (ht : t.Ok) (hn : s.n < 1000) (hb : shB A t s = true) (ho : RouC t s) (hL : L1 = sortM (osAll t s)) (hl : n = L1.length) (h0 : n = 0) :
    evF (E103 A) 20 11 [.agg t.c, .agg s.c] ⟨0, []⟩ (outM 0 (.ret (.tuple [.agg txZ, .int .i64 180])) 0 []) := by
  refine @Eq.mpr _ (let q1 := t.fund;
 let q2 := t.index;
 let q3 := t.cap;
 let q4 := t.dust;
 let q5 := t.fee;
 let q6 := t.delay;
 let q7 := t.k0;
 let q8 := t.k1;
 let q9 := TermS.mk q1 q2 q3 q4 q5 q6 q7 q8;
 let q10 := s.num;
 let q11 := s.n;
 TermS.Ok q9 ∧
 ∃ (s_1 : ShS),
 let q23 := [s.a0, s.a1];
 ((s_1.num = q10 ∧ s_1.owner = s.owner ∧ s_1.point = s.point ∧ q23 = [s_1.a0, s_1.a1]) ∧ (q11 = q11 ∧ s_1.n = q11) ∧ ∀ (i : Nat), i < q11 → pRows s.g i = PendS.c (s_1.g i)) ∧ s_1.n < 1000 ∧ iteB (!shB A q9 s_1) False (∃ (s_2 : ShS), ((s_2.num = q10 ∧ s_2.owner = s.owner ∧ s_2.point = s.point ∧ q23 = [s_2.a0, s_2.a1]) ∧ (q11 = q11 ∧ s_2.n = q11) ∧ ∀ (i : Nat), i < q11 → pRows s.g i = PendS.c (s_2.g i)) ∧ RouC q9 s_2 ∧ ∀ (n : Nat) (L : List MadeS), L = sortM (osAll q9 s_2) → n = List.length L → iteB (decide (q10 = q10)) (q1 = q1 ∧ iteB (decide (q2 = q2)) (iteB (decide (q3 = q3)) (iteB (decide (q4 = q4)) (iteB (decide (q5 = q5)) (iteB (decide (q6 = q6)) (q7 = q7 ∧ q8 = q8 ∧ iteB (decide (0 + n ≤ n)) ((∀ (i : Nat), i < n → true = true) ∧ ∃ (L_1 : List MadeS), n = n ∧ shiftZ 0 (mRows L) = mRows L_1 ∧ n < 1000 ∧ (n = 0 → True) ∧ (n ≠ 0 → iteB (decide (q10 = 0)) False False)) False) False) False) False) False) False) False)) (by kernel_rfl) ?_
  conv => zeta
  try simp only [need_eq]
  try simp only [nope_eq]
  try simp only [iteD_eq]
  try simp only [iteT_eq]
  try simp only [iteF_eq]
  try simp only [iteE_eq]
  try simp only [Int.toNat_natCast, Nat.zero_add, true_and, and_true, Nat.le_refl]
  have e0 : (TermS.mk t.fund t.index t.cap t.dust t.fee t.delay t.k0 t.k1) = t := rfl
  rw [e0]
  refine ⟨ht, s, ⟨⟨rfl, rfl, rfl, rfl⟩, rfl, fun _ _ => rfl⟩, hn, by rw [hb]; rfl, s, ⟨⟨rfl, rfl, rfl, rfl⟩, rfl, fun _ _ => rfl⟩, ho, fun m L hL' hm => ?_⟩
  · have e1 : L = L1 := hL'.trans hL.symm
    subst e1
    have e2 : m = n := hm.trans hl.symm
    subst e2
    have hlen := ho.o.len
    rw [hl, hL, sortM_len] at h0
    have h20 : m < 1000 := by rw [hl, hL, sortM_len]; omega
    refine ⟨fun _ _ => trivial, L, rfl, h20, fun _ => ?_, fun h => ?_⟩
    · first | trivial | rfl
    · exfalso; rw [hl, hL, sortM_len] at h; exact h h0
set_option maxRecDepth 100000 in
set_option maxHeartbeats 0 in
theorem cor_3 (A : List Int → Int × Int) (t : TermS) (s : ShS) (n : Nat) (L1 : List MadeS) (ht : t.Ok) (hn : s.n < 1000) (hb : shB A t s = true) (ho : RouC t s) (hL : L1 = sortM (osAll t s)) (hl : n = L1.length) (h0 : n ≠ 0) :
    evF (E103 A) 20 11 [.agg t.c, .agg s.c] ⟨0, []⟩ (outM 0 (.ret (.tuple [.agg [.int .i64 s.num, .nslice ⟨0, 0, 0, 0, 0⟩ 130 1 1, .nslice ⟨1, 0, 132, 0, 0⟩ 132 n n], .int .i64 0])) 2 [(0, .flat (InS.c (inOf t))), (1, .rows 132 n (outRows (mOuts L1)))]) := by
  refine @Eq.mpr _ (let q1 := t.fund;
 let q2 := t.index;
 let q3 := t.cap;
 let q4 := t.dust;
 let q5 := t.fee;
 let q6 := t.delay;
 let q7 := t.k0;
 let q8 := t.k1;
 let q9 := TermS.mk q1 q2 q3 q4 q5 q6 q7 q8;
 let q10 := s.num;
 let q11 := s.n;
 let q12 := iteB (decide (0 = q10)) False False;
 let q13 := decide (q10 = q10);
 let q14 := InS.mk q1 q2 1 zero32 zero32 zero32;
 let q15 := inOf t;
 TermS.Ok q9 ∧
 ∃ (s_1 : ShS),
 let q31 := [s.a0, s.a1];
 ((s_1.num = q10 ∧ s_1.owner = s.owner ∧ s_1.point = s.point ∧ q31 = [s_1.a0, s_1.a1]) ∧ (q11 = q11 ∧ s_1.n = q11) ∧ ∀ (i : Nat), i < q11 → pRows s.g i = PendS.c (s_1.g i)) ∧
 s_1.n < 1000 ∧
 iteB (!shB A q9 s_1) q12
 (∃ (s_2 : ShS),
 ((s_2.num = q10 ∧ s_2.owner = s.owner ∧ s_2.point = s.point ∧ q31 = [s_2.a0, s_2.a1]) ∧ (q11 = q11 ∧ s_2.n = q11) ∧ ∀ (i : Nat), i < q11 → pRows s.g i = PendS.c (s_2.g i)) ∧
 RouC q9 s_2 ∧
 ∀ (n_1 : Nat),
 let q33 := decide (n_1 = n);
 ∀ (L : List MadeS), L = sortM (osAll q9 s_2) → n_1 = List.length L → iteB q13 (q1 = q1 ∧ iteB (decide (q2 = q2)) (iteB (decide (q3 = q3)) (iteB (decide (q4 = q4)) (iteB (decide (q5 = q5)) (iteB (decide (q6 = q6)) (q7 = q7 ∧ q8 = q8 ∧ iteB (decide (0 + n_1 ≤ n_1)) ((∀ (i : Nat), i < n_1 → true = true) ∧ ∃ (L_1 : List MadeS), n_1 = n_1 ∧ shiftZ 0 (mRows L) = mRows L_1 ∧ n_1 < 1000 ∧ (n_1 = 0 → q12) ∧ (n_1 ≠ 0 → iteB q13 (iteB q33 (iteB (decide (n ≤ n_1)) (q14.name = q15.name ∧ iteB (decide (q14.index = q15.index)) (q14.tag = q15.tag ∧ q14.also = q15.also ∧ q14.secret = q15.secret ∧ iteB q33 (RowsEq 0 [(1, 5), (0, 4)] n (outRows (mOuts L1)) (outRows (mOuts L_1)) ∧ True) False) False) False) False) False)) False) False) False) False) False) False) False)) (by kernel_rfl) ?_
  conv => zeta
  try simp only [need_eq]
  try simp only [nope_eq]
  try simp only [iteD_eq]
  try simp only [iteT_eq]
  try simp only [iteF_eq]
  try simp only [iteE_eq]
  try simp only [Int.toNat_natCast, Nat.zero_add, true_and, and_true, Nat.le_refl]
  have e0 : (TermS.mk t.fund t.index t.cap t.dust t.fee t.delay t.k0 t.k1) = t := rfl
  rw [e0]
  refine ⟨ht, s, ⟨⟨rfl, rfl, rfl, rfl⟩, rfl, fun _ _ => rfl⟩, hn, fun k => ?_, fun _ => ⟨s, ⟨⟨rfl, rfl, rfl, rfl⟩, rfl, fun _ _ => rfl⟩, ho, fun m L hL' hm => ?_⟩⟩
  · rw [hb] at k; cases k
  · have e1 : L = L1 := hL'.trans hL.symm
    subst e1
    have e2 : m = n := hm.trans hl.symm
    subst e2
    have hlen := ho.o.len
    rw [hl, hL, sortM_len] at h0
    have h20 : m < 1000 := by rw [hl, hL, sortM_len]; omega
    refine ⟨fun _ _ => trivial, L, rfl, h20, fun h => ?_, fun _ => ⟨rfl, Nat.le_refl _, rfl, rfl, rfl, rfl, rfl, rfl, outRowsEq fun _ _ => rfl⟩⟩
    exfalso
    rw [hl, hL, sortM_len] at h
    exact h0 h
theorem corF_ok (args : List AV) (h : Heap) (K : KO) (hl : coF addM args h K) : CallsA PP 11 args h K := by
  refine Pure.fsumm (d := 20) (viewL_weak _ _ _ _ _ hl fun a ha => ?_)
  split at ha
  · rename_i fu ix ca du fe de k0 k1 l
    obtain ⟨ht, s, hs, hsok, hn, h1, h2⟩ := ha
    cases hc : shB addM ⟨fu, ix, ca, du, fe, de, k0, k1⟩ s with
    | false => exact ⟨_, _, _, _, (Pure.evM E103_ok (cor_1 _ ⟨_, _, _, _, _, _, _, _⟩ s ht hn hc)).conv (fun E r hr => hr.head (fun _ hc => hc) (fun _ hc => hc.head (fun _ hc => hs.rel hc) (fun _ hc => hc))), rfl, trivial, h1 hc⟩
    | true =>
      obtain ⟨h2, h3⟩ := h2 hc
      have ho : RouC ⟨fu, ix, ca, du, fe, de, k0, k1⟩ s := ⟨outsOk ht hsok hn hc, hsok, ht, sh16 hn hc⟩
      rcases Nat.eq_zero_or_pos (osAll ⟨fu, ix, ca, du, fe, de, k0, k1⟩ s).length with h0 | h0
      · exact ⟨_, _, _, _, (Pure.evM E103_ok (cor_2 _ ⟨_, _, _, _, _, _, _, _⟩ s _ _ ht hn hc ho rfl rfl (by rw [sortM_len]; exact h0))).conv (fun E r hr => hr.head (fun _ hc => hc) (fun _ hc => hc.head (fun _ hc => hs.rel hc) (fun _ hc => hc))), rfl, trivial, h2 h0⟩
      · have hn0 : (sortM (osAll ⟨fu, ix, ca, du, fe, de, k0, k1⟩ s)).length ≠ 0 := by rw [sortM_len]; omega
        exact ⟨_, _, _, _, (Pure.evM E103_ok (cor_3 _ ⟨_, _, _, _, _, _, _, _⟩ s _ _ ht hn hc ho rfl rfl hn0)).conv (fun E r hr => hr.head (fun _ hc => hc) (fun _ hc => hc.head (fun _ hc => hs.rel hc) (fun _ hc => hc))), rfl, ⟨by decide, .flat _ rfl, by decide, .rows _ _ _ (fun i _ => (mOuts _ i).plainC), trivial⟩, h3 _ _ rfl rfl hn0⟩
  · exact ha.elim
end Go.Tk
end
section
namespace Go.Tk
def rp0S (s : ShS) (L : List MadeS) (c i : Nat) : St := ⟨66, [(14, .int .i64 i), (3, .ptr (some ⟨0, 0, 0, 0, 0⟩)), (11, .nslice ⟨2, 0, 0, 0, 0⟩ 1 i i), (10, .nslice ⟨1, 0, 134, 0, 0⟩ 134 c c), (13, .int .i64 (-1)), (12, .int .i64 (-1))], ⟨3, [(0, .flat s.c), (1, .rows 134 c (mRows L)), (2, .ints .i64 (List.replicate i (-1)))]⟩, []⟩
def rp0E (L : List MadeS) (c i : Nat) : St := ⟨66, [(11, .nslice ⟨1, 0, 0, 0, 0⟩ 1 i i), (10, .nslice ⟨0, 0, 134, 0, 0⟩ 134 c c), (13, .int .i64 (-1)), (12, .int .i64 (-1))], ⟨2, [(0, .rows 134 c (mRows L)), (1, .ints .i64 (List.replicate i (-1)))]⟩, []⟩
def rp2S (L : List MadeS) (c m : Nat) (X : List Int) (own other : Int) (i : Nat) : St := ⟨66, [(15, .int .i64 i), (10, .nslice ⟨0, 0, 134, 0, 0⟩ 134 c c), (11, .nslice ⟨1, 0, 0, 0, 0⟩ 1 m m), (13, .int .i64 other), (12, .int .i64 own)], ⟨2, [(0, .rows 134 c (mRows L)), (1, .ints .i64 X)]⟩, []⟩
def rp2E (m : Nat) (X : List Int) (own other : Int) : St := ⟨66, [(11, .nslice ⟨0, 0, 0, 0, 0⟩ 1 m m), (13, .int .i64 other), (12, .int .i64 own)], ⟨1, [(0, .ints .i64 X)]⟩, []⟩
set_option maxRecDepth 100000 in
set_option maxHeartbeats 0 in
theorem rp_0 (s : ShS) (L : List MadeS) (c i : Nat) (X X1 : List Int) (Z1 Z2 : Prop) (hn : s.n < 1000) (hi : i ≤ s.n) (h1 : i < s.n → Z1) (h2 : i = s.n → Z2) :
    roundE G0 20 12 0 0 (rp0S s L c i) (rdM 0 0 9 (rp0S s L c (i + 1)) (rp0E L c i) (rp0E L c i) (rp0E L c i) Z1 Z2 False False) := by
  refine @Eq.mpr _ (let q1 := s.n;
 let q2 := List.replicate i (-1);
 let q3 := q2 ++ [(-1 : Int)];
 let q4 := List.length q3;
 let q5 := i + 1;
 let q6 := decide (c = c);
 let q7 := decide (c ≤ c);
 let q8 := [s.a0, s.a1];
 let q9 := decide (q1 = q1);
 let q10 := pRows s.g;
 let q11 := mRows L;
 iteB (decide ((↑i : Int) < (↑q1 : Int))) (iteB (decide (IntKind.i64 = IntKind.i64 ∧ List.length q2 = i)) (iteB (decide (q4 * 8 ≤ 140737488355328)) (iteB (decide (IntKind.wrap IntKind.i64 ((↑i : Int) + 1) = (↑q5 : Int))) (iteB (decide (q4 = q5)) (iteB (decide (q5 ≤ q4)) (iteB q6 (iteB q7 (iteB (decide (s.num = s.num)) (iteB (decide (s.owner = s.owner)) (s.point = s.point ∧ q8 = q8 ∧ iteB q9 (q10 = q10 ∧ iteB q9 (iteB q6 (RowsEq 0 [(1, 1), (2, 4), (0, 0)] c q11 q11 ∧ q3 = List.replicate q5 (-1) ∧ Z1) False) False) False) False) False) False) False) False) False) False) False) False) (iteB (decide (i = i)) (iteB (decide (i ≤ i)) (iteB q6 (iteB q7 (iteB q6 (RowsEq 0 [(0, 1), (1, 2)] c q11 q11 ∧ q2 = q2 ∧ Z2) False) False) False) False) False)) (by kernel_rfl) ?_
  conv => zeta
  try simp only [need_eq]
  try simp only [nope_eq]
  try simp only [iteD_eq]
  try simp only [iteT_eq]
  try simp only [iteF_eq]
  try simp only [iteE_eq]
  try simp only [Int.toNat_natCast, Nat.zero_add, true_and, and_true, Nat.le_refl]
  have e : List.replicate i (-1 : Int) ++ [-1] = List.replicate (i + 1) (-1) := by rw [List.replicate_succ']
  rw [e]
  refine ⟨fun hc => ?_, fun hc => ⟨mRows_eq fun _ _ => rfl, h2 (by omega)⟩⟩
  have hwr : IntKind.i64.wrap ((i : Int) + 1) = ((i + 1 : Nat) : Int) := by rw [w64 (by omega)]; omega
  exact ⟨by simp, by simp; omega, hwr, by simp, by simp, mRows_eq fun _ _ => rfl, rfl, h1 (by omega)⟩
theorem plN_ne {L : List MadeS} {w : Int} {i : Nat} (h : (L.getD i made0).what ≠ w) : plN L w (i + 1) = plN L w i := by
  show (if (L.getD i made0).what = w then (i : Int) else plN L w i) = _
  rw [if_neg h]
theorem plN_at {L : List MadeS} {w : Int} {i : Nat} (h : (L.getD i made0).what = w) : plN L w (i + 1) = i := by
  show (if (L.getD i made0).what = w then (i : Int) else plN L w i) = _
  rw [if_pos h]
theorem plX_neg {L : List MadeS} {i m : Nat} (h : (L.getD i made0).what < 0) : plX L (i + 1) m = plX L i m := by
  unfold plX
  refine List.map_congr_left fun w hw => plN_ne (by omega)
theorem plX_set {L : List MadeS} {i m : Nat} (h : 0 ≤ (L.getD i made0).what) : (plX L i m).set (L.getD i made0).what.toNat i = plX L (i + 1) m := by
  unfold plX
  refine List.ext_getElem (by simp) fun k h1 h2 => ?_
  rw [List.getElem_set]
  simp only [List.getElem_map, List.getElem_range]
  split
  · rename_i e
    rw [plN_at (by omega)]
  · rename_i e
    rw [plN_ne (by omega)]
set_option maxRecDepth 100000 in
set_option maxHeartbeats 0 in
theorem rp_2 (L : List MadeS) (c m i : Nat) (X X1 : List Int) (ow ot ow1 ot1 w : Int) (Z1 Z2 : Prop) (hc : c < 1000) (hi : i ≤ c) (hm : m < 1000) (hX : X = plX L i m) (hX1 : X1 = plX L (i + 1) m) (how : ow = plN L (-1) i) (how1 : ow1 = plN L (-1) (i + 1)) (hot : ot = plN L (-2) i) (hot1 : ot1 = plN L (-2) (i + 1)) (hlo : i < c → -2 ≤ (L.getD i made0).what ∧ (L.getD i made0).what < m) (h1 : i < c → Z1) (h2 : i = c → Z2) :
    roundE G0 20 12 2 0 (rp2S L c m X ow ot i) (rdM 0 2 9 (rp2S L c m X1 ow1 ot1 (i + 1)) (rp2E m X ow ot) (rp2E m X ow ot) (rp2E m X ow ot) Z1 Z2 False False) := by
  refine @Eq.mpr _ (let q1 := decide (0 ≤ (↑i : Int) ∧ (↑i : Int) < (↑c : Int));
 let q2 := 0 + Int.toNat (↑i : Int);
 let q3 := (List.getD L q2 made0).what;
 let q4 := decide (IntKind.wrap IntKind.i64 ((↑i : Int) + 1) = (↑(i + 1) : Int));
 let q5 := decide (c = c);
 let q6 := decide (c ≤ c);
 let q7 := decide (m = m);
 let q8 := decide (m ≤ m);
 let q9 := decide (ot = ot1);
 let q10 := RowsEq 0 [(1, 1), (0, 0)] c (mRows L) (mRows L);
 let q11 := iteB q5 (q10 ∧ X = X1 ∧ Z1) False;
 let q12 := decide (ow = ow1);
 let q13 := 0 + Int.toNat q3;
 iteB (decide ((↑i : Int) < (↑c : Int))) (iteB q1 (iteB (decide (q2 < c)) (iteB (q3 == -1) (iteB q4 (iteB q5 (iteB q6 (iteB q7 (iteB q8 (iteB q9 (iteB (decide ((↑i : Int) = ow1)) q11 False) False) False) False) False) False) False) (iteB (q3 == -2) (iteB q4 (iteB q5 (iteB q6 (iteB q7 (iteB q8 (iteB (decide ((↑i : Int) = ot1)) (iteB q12 q11 False) False) False) False) False) False) False) (iteB q1 (iteB (decide (q2 < c)) (iteB (decide (0 ≤ q3 ∧ q3 < (↑m : Int))) (iteB (decide (IntKind.i64 = IntKind.i64 ∧ q13 < List.length X)) (iteB q4 (iteB q5 (iteB q6 (iteB q7 (iteB q8 (iteB q9 (iteB q12 (iteB q5 (q10 ∧ List.set X q13 (↑i : Int) = X1 ∧ Z1) False) False) False) False) False) False) False) False) False) False) False) False))) False) False) (iteB q7 (iteB q8 (iteB (decide (ot = ot)) (iteB (decide (ow = ow)) (X = X ∧ Z2) False) False) False) False)) (by kernel_rfl) ?_
  conv => zeta
  try simp only [need_eq]
  try simp only [nope_eq]
  try simp only [iteD_eq]
  try simp only [iteT_eq]
  try simp only [iteF_eq]
  try simp only [iteE_eq]
  try simp only [Int.toNat_natCast, Nat.zero_add, true_and, and_true, Nat.le_refl]
  refine ⟨fun hc' => ?_, fun hc => h2 (by omega)⟩
  have hlt : i < c := by omega
  have hwr : IntKind.i64.wrap ((i : Int) + 1) = ((i + 1 : Nat) : Int) := by rw [w64 (by omega)]; omega
  have hlo := hlo hlt
  have hZ := h1 hlt
  refine ⟨by omega, hlt, fun k1 => ?_, fun k1 => ⟨fun k2 => ?_, fun k2 => ?_⟩⟩
  · have k1 : (L.getD i made0).what = -1 := by simpa using k1
    exact ⟨hwr, by rw [hot, hot1, plN_ne (by omega)], by rw [how1, plN_at k1], mRows_eq fun _ _ => rfl, by rw [hX, hX1, plX_neg (by omega)], hZ⟩
  · have k2 : (L.getD i made0).what = -2 := by simpa using k2
    exact ⟨hwr, by rw [hot1, plN_at k2], by rw [how, how1, plN_ne (by omega)], mRows_eq fun _ _ => rfl, by rw [hX, hX1, plX_neg (by omega)], hZ⟩
  · have k1 : ¬ (L.getD i made0).what = -1 := by simpa using k1
    have k2 : ¬ (L.getD i made0).what = -2 := by simpa using k2
    have h0 : 0 ≤ (L.getD i made0).what := by omega
    exact ⟨by omega, hlt, by omega, by rw [hX, plX_len]; omega, hwr, by rw [hot, hot1, plN_ne k2], by rw [how, how1, plN_ne k1], mRows_eq fun _ _ => rfl, by rw [hX, hX1, plX_set h0], hZ⟩
def rpL0 (s : ShS) (L : List MadeS) (c : Nat) : Nat → St → KE → Prop := goM 0 (rp0S s L c 0) (s.n < 1000) (endsJ 0 s.n 9 (fun i => i < s.n) (fun i => i = s.n) (fun _ => False) (fun _ => False) (fun i => rp0E L c i) (fun i => rp0E L c i) (fun i => rp0E L c i))
def rpL2 (s : ShS) (L : List MadeS) (c : Nat) : Nat → St → KE → Prop := goM 0 (rp2S L c s.n (List.replicate s.n (-1)) (-1) (-1) 0) (c < 1000 ∧ s.n < 1000 ∧ c = L.length ∧ WhatOk L s.n) (endsJ 2 c 9 (fun i => i < c) (fun i => i = c) (fun _ => False) (fun _ => False) (fun i => rp2E s.n (plX L i s.n) (plN L (-1) i) (plN L (-2) i)) (fun i => rp2E s.n (plX L i s.n) (plN L (-1) i) (plN L (-2) i)) (fun i => rp2E s.n (plX L i s.n) (plN L (-1) i) (plN L (-2) i)))
noncomputable def E104 (t : TermS) (s : ShS) (A : List Int → Int × Int) (L : List MadeS) (n : Nat) : Env2 := (((G0.withF 11 (coF A)).withF 31 rouF).withL 12 0 (rpL0 s L n)).withL 12 2 (rpL2 s L n)
theorem plX_zero (L : List MadeS) (m : Nat) : plX L 0 m = List.replicate m (-1) := by
  unfold plX
  refine List.ext_getElem (by simp) fun k h1 h2 => ?_
  simp [plN]
theorem E104_ok (t : TermS) (s : ShS) (L : List MadeS) (n : Nat) : (E104 t s addM L n).Ok := by
  have h0 : ((G0.withF 11 (coF addM)).withF 31 rouF).Ok := Env2.withF_ok (Env2.withF_ok G0_ok corF_ok) rouF_ok
  have h1 := Env2.withL_join (H := G0) (S := rpL0 s L n) h0 rfl (Env2.withGoM (f := 12) (id := 0) (N := 20) (S := fun i => rp0S s L n i) G0_ok (by kernel_rfl) fun hC => ⟨rfl, fun i hi _ => rp_0 s L n i [] [] _ _ hC hi (fun h => ⟨h, h⟩) (fun h => h)⟩)
  refine Env2.withL_join (H := G0) h1 rfl ?_
  exact Env2.withGoM (N := 20) (S := fun i => rp2S L n s.n (plX L i s.n) (plN L (-1) i) (plN L (-2) i) i) G0_ok (by kernel_rfl) fun hC => ⟨by
    show rp2S L n s.n (plX L 0 s.n) (-1) (-1) 0 = _
    rw [plX_zero], fun i hi _ => rp_2 L n s.n i _ _ _ _ _ _ 0 _ _ hC.1 hi hC.2.1 rfl rfl rfl rfl rfl rfl (fun hlt => hC.2.2.2.lo' (by omega)) (fun h => ⟨h, h⟩) (fun h => h)⟩
set_option maxRecDepth 100000 in
set_option maxHeartbeats 0 in
theorem rpf_1 (A : List Int → Int × Int) (t : TermS) (s : ShS) (L : List MadeS) (n : Nat) (ht : t.Ok) (hs : s.Ok) (hn : s.n < 1000) (hb : shB A t s = false) :
    evF (E104 t s A L n) 20 12 [.agg t.c, .agg s.c] ⟨0, []⟩ (outM 0 (.ret (.tuple [.nilslice, .int .i64 0, .int .i64 0, .int .i64 2])) 0 []) := by
  refine @Eq.mpr _ (let q1 := TermS.mk t.fund t.index t.cap t.dust t.fee t.delay t.k0 t.k1;
 let q2 := s.num;
 let q3 := s.owner;
 let q4 := s.point;
 let q5 := [s.a0, s.a1];
 let q6 := s.n;
 let q7 := decide (q6 = q6);
 let q8 := pRows s.g;
 let q9 := mRows L;
 let q10 := q6 < 1000;
 let q11 := decide (n = n);
 let q12 := (False → False) ∧ (False → False);
 TermS.Ok q1 ∧
 ∃ (s : ShS),
 ((s.num = q2 ∧ s.owner = q3 ∧ s.point = q4 ∧ q5 = [s.a0, s.a1]) ∧ (q6 = q6 ∧ s.n = q6) ∧ ∀ (i : Nat), i < q6 → q8 i = PendS.c (s.g i)) ∧
 ShS.Ok s ∧
 s.n < 1000 ∧
 (shB A q1 s = false → True) ∧
 (shB A q1 s = true →
 (List.length (osAll q1 s) = 0 → False) ∧
 ∀ (n_1 : Nat) (L_1 : List MadeS),
 L_1 = sortM (osAll q1 s) →
 n_1 = List.length L_1 →
 n_1 ≠ 0 →
 ∃ (s : ShS),
 ((s.num = q2 ∧ s.owner = q3 ∧ s.point = q4 ∧ q5 = [s.a0, s.a1]) ∧ (q6 = q6 ∧ s.n = q6) ∧ ∀ (i : Nat), i < q6 → q8 i = PendS.c (s.g i)) ∧
 RouC q1 s ∧
 ∀ (n_2 : Nat),
 let q25 := decide (n_2 = n);
 ∀ (L_2 : List MadeS), L_2 = sortM (osAll q1 s) → n_2 = List.length L_2 → iteB q25 (iteB (decide (n ≤ n_2)) (iteB (decide (q2 = q2)) (iteB (decide (q3 = q3)) (q4 = q4 ∧ q5 = q5 ∧ iteB q7 (q8 = q8 ∧ iteB q7 (iteB q25 (RowsEq 0 [(1, 5), (0, 1)] n q9 (mRows L_2) ∧ ([] : List Int) = [] ∧ q10 ∧ ∀ (i : Nat), i ≤ q6 → (∀ (j : Nat), j < i → (fun (i : Nat) => i < q6) j) → (i = q6 → iteB q11 (iteB (decide (n ≤ n)) (iteB (decide (i = q6)) (iteB (decide (q6 ≤ i)) (iteB q11 (RowsEq 0 [(1, 1), (0, 0)] n q9 q9 ∧ List.replicate i (-1) = List.replicate q6 (-1) ∧ (n < 1000 ∧ q10 ∧ n = List.length L ∧ WhatOk L q6) ∧ ∀ (i : Nat), i ≤ n → (∀ (j : Nat), j < i → (fun (i : Nat) => i < n) j) → (i = n → False) ∧ q12) False) False) False) False) False) ∧ q12) False) False) False) False) False) False) False)) (by kernel_rfl) ?_
  conv => zeta
  try simp only [need_eq]
  try simp only [nope_eq]
  try simp only [iteD_eq]
  try simp only [iteT_eq]
  try simp only [iteF_eq]
  try simp only [iteE_eq]
  try simp only [Int.toNat_natCast, Nat.zero_add, true_and, and_true, Nat.le_refl]
  have e0 : (TermS.mk t.fund t.index t.cap t.dust t.fee t.delay t.k0 t.k1) = t := rfl
  rw [e0]
  refine ⟨ht, s, ⟨⟨rfl, rfl, rfl, rfl⟩, rfl, fun _ _ => rfl⟩, hs, hn, fun _ => trivial, fun k => ?_⟩
  rw [hb] at k; cases k
set_option maxRecDepth 100000 in
set_option maxHeartbeats 0 in
theorem rpf_2 (A : List Int → Int × Int) (t : TermS) (s : ShS) (L : List MadeS) (n : Nat) (ht : t.Ok) (hs : s.Ok) (hn : s.n < 1000) (hb : shB A t s = true) (h0 : (osAll t s).length = 0) :
    evF (E104 t s A L n) 20 12 [.agg t.c, .agg s.c] ⟨0, []⟩ (outM 0 (.ret (.tuple [.nilslice, .int .i64 0, .int .i64 0, .int .i64 180])) 0 []) := by
  refine @Eq.mpr _ (let q1 := TermS.mk t.fund t.index t.cap t.dust t.fee t.delay t.k0 t.k1;
 let q2 := s.num;
 let q3 := s.owner;
 let q4 := s.point;
 let q5 := [s.a0, s.a1];
 let q6 := s.n;
 let q7 := decide (q6 = q6);
 let q8 := pRows s.g;
 let q9 := mRows L;
 let q10 := q6 < 1000;
 let q11 := decide (n = n);
 let q12 := (False → False) ∧ (False → False);
 TermS.Ok q1 ∧
 ∃ (s : ShS),
 ((s.num = q2 ∧ s.owner = q3 ∧ s.point = q4 ∧ q5 = [s.a0, s.a1]) ∧ (q6 = q6 ∧ s.n = q6) ∧ ∀ (i : Nat), i < q6 → q8 i = PendS.c (s.g i)) ∧
 ShS.Ok s ∧
 s.n < 1000 ∧
 (shB A q1 s = false → False) ∧
 (shB A q1 s = true →
 (List.length (osAll q1 s) = 0 → True) ∧
 ∀ (n_1 : Nat) (L_1 : List MadeS),
 L_1 = sortM (osAll q1 s) →
 n_1 = List.length L_1 →
 n_1 ≠ 0 →
 ∃ (s : ShS),
 ((s.num = q2 ∧ s.owner = q3 ∧ s.point = q4 ∧ q5 = [s.a0, s.a1]) ∧ (q6 = q6 ∧ s.n = q6) ∧ ∀ (i : Nat), i < q6 → q8 i = PendS.c (s.g i)) ∧
 RouC q1 s ∧
 ∀ (n_2 : Nat),
 let q25 := decide (n_2 = n);
 ∀ (L_2 : List MadeS), L_2 = sortM (osAll q1 s) → n_2 = List.length L_2 → iteB q25 (iteB (decide (n ≤ n_2)) (iteB (decide (q2 = q2)) (iteB (decide (q3 = q3)) (q4 = q4 ∧ q5 = q5 ∧ iteB q7 (q8 = q8 ∧ iteB q7 (iteB q25 (RowsEq 0 [(1, 5), (0, 1)] n q9 (mRows L_2) ∧ ([] : List Int) = [] ∧ q10 ∧ ∀ (i : Nat), i ≤ q6 → (∀ (j : Nat), j < i → (fun (i : Nat) => i < q6) j) → (i = q6 → iteB q11 (iteB (decide (n ≤ n)) (iteB (decide (i = q6)) (iteB (decide (q6 ≤ i)) (iteB q11 (RowsEq 0 [(1, 1), (0, 0)] n q9 q9 ∧ List.replicate i (-1) = List.replicate q6 (-1) ∧ (n < 1000 ∧ q10 ∧ n = List.length L ∧ WhatOk L q6) ∧ ∀ (i : Nat), i ≤ n → (∀ (j : Nat), j < i → (fun (i : Nat) => i < n) j) → (i = n → False) ∧ q12) False) False) False) False) False) ∧ q12) False) False) False) False) False) False) False)) (by kernel_rfl) ?_
  conv => zeta
  try simp only [need_eq]
  try simp only [nope_eq]
  try simp only [iteD_eq]
  try simp only [iteT_eq]
  try simp only [iteF_eq]
  try simp only [iteE_eq]
  try simp only [Int.toNat_natCast, Nat.zero_add, true_and, and_true, Nat.le_refl]
  have e0 : (TermS.mk t.fund t.index t.cap t.dust t.fee t.delay t.k0 t.k1) = t := rfl
  rw [e0]
  refine ⟨ht, s, ⟨⟨rfl, rfl, rfl, rfl⟩, rfl, fun _ _ => rfl⟩, hs, hn, fun k => ?_, fun _ => ⟨fun _ => trivial, fun n1 L1 e1 e2 e3 => ?_⟩⟩
  · rw [hb] at k; cases k
  · exact absurd (by rw [e2, e1, sortM_len, h0]) e3
set_option maxRecDepth 100000 in
set_option maxHeartbeats 0 in
theorem rpf_3 (A : List Int → Int × Int) (t : TermS) (s : ShS) (L : List MadeS) (n : Nat) (a b : Int) (X : List Int) (ht : t.Ok) (hs : s.Ok) (hn : s.n < 1000) (hb : shB A t s = true) (ho : RouC t s) (hL : L = sortM (osAll t s)) (hl : n = L.length) (h0 : n ≠ 0) (ha : a = plN L (-1) n) (hb' : b = plN L (-2) n) (hX : X = plX L n s.n) :
    evF (E104 t s A L n) 20 12 [.agg t.c, .agg s.c] ⟨0, []⟩ (outM 0 (.ret (.tuple [.nslice ⟨0, 0, 0, 0, 0⟩ 1 s.n s.n, .int .i64 a, .int .i64 b, .int .i64 0])) 1 [(0, .ints .i64 X)]) := by
  refine @Eq.mpr _ (let q1 := TermS.mk t.fund t.index t.cap t.dust t.fee t.delay t.k0 t.k1;
 let q2 := s.num;
 let q3 := s.owner;
 let q4 := s.point;
 let q5 := [s.a0, s.a1];
 let q6 := s.n;
 let q7 := decide (q6 = 0);
 let q8 := iteB q7 (iteB q7 (iteB (decide (0 = a)) (iteB (decide (0 = b)) False False) False) False) False;
 let q9 := decide (q6 = q6);
 let q10 := pRows s.g;
 let q11 := mRows L;
 let q12 := q6 < 1000;
 let q13 := decide (n = n);
 let q14 := (False → False) ∧ (False → False);
 TermS.Ok q1 ∧
 ∃ (s : ShS),
 ((s.num = q2 ∧ s.owner = q3 ∧ s.point = q4 ∧ q5 = [s.a0, s.a1]) ∧ (q6 = q6 ∧ s.n = q6) ∧ ∀ (i : Nat), i < q6 → q10 i = PendS.c (s.g i)) ∧
 ShS.Ok s ∧
 s.n < 1000 ∧
 (shB A q1 s = false → q8) ∧
 (shB A q1 s = true →
 (List.length (osAll q1 s) = 0 → q8) ∧
 ∀ (n_1 : Nat) (L_1 : List MadeS),
 L_1 = sortM (osAll q1 s) →
 n_1 = List.length L_1 →
 n_1 ≠ 0 →
 ∃ (s : ShS),
 ((s.num = q2 ∧ s.owner = q3 ∧ s.point = q4 ∧ q5 = [s.a0, s.a1]) ∧ (q6 = q6 ∧ s.n = q6) ∧ ∀ (i : Nat), i < q6 → q10 i = PendS.c (s.g i)) ∧
 RouC q1 s ∧
 ∀ (n_2 : Nat),
 let q29 := decide (n_2 = n);
 ∀ (L_2 : List MadeS), L_2 = sortM (osAll q1 s) → n_2 = List.length L_2 → iteB q29 (iteB (decide (n ≤ n_2)) (iteB (decide (q2 = q2)) (iteB (decide (q3 = q3)) (q4 = q4 ∧ q5 = q5 ∧ iteB q9 (q10 = q10 ∧ iteB q9 (iteB q29 (RowsEq 0 [(1, 5), (0, 1)] n q11 (mRows L_2) ∧ ([] : List Int) = [] ∧ q12 ∧ ∀ (i : Nat), i ≤ q6 → (∀ (j : Nat), j < i → (fun (i : Nat) => i < q6) j) → (i = q6 → iteB q13 (iteB (decide (n ≤ n)) (iteB (decide (i = q6)) (iteB (decide (q6 ≤ i)) (iteB q13 (RowsEq 0 [(1, 1), (0, 0)] n q11 q11 ∧ List.replicate i (-1) = List.replicate q6 (-1) ∧ (n < 1000 ∧ q12 ∧ n = List.length L ∧ WhatOk L q6) ∧ ∀ (i : Nat), i ≤ n → (∀ (j : Nat), j < i → (fun (i : Nat) => i < n) j) → (i = n → iteB q9 (iteB (decide (q6 ≤ q6)) (iteB (decide (plN L (-1) i = a)) (iteB (decide (plN L (-2) i = b)) (plX L i q6 = X ∧ True) False) False) False) False) ∧ q14) False) False) False) False) False) ∧ q14) False) False) False) False) False) False) False)) (by kernel_rfl) ?_
  conv => zeta
  try simp only [need_eq]
  try simp only [nope_eq]
  try simp only [iteD_eq]
  try simp only [iteT_eq]
  try simp only [iteF_eq]
  try simp only [iteE_eq]
  try simp only [Int.toNat_natCast, Nat.zero_add, true_and, and_true, Nat.le_refl]
  have e0 : (TermS.mk t.fund t.index t.cap t.dust t.fee t.delay t.k0 t.k1) = t := rfl
  rw [e0]
  have hw : WhatOk L s.n := by rw [hL]; exact sortM_what (osAll_what t s)
  have h20 : n < 20 := by rw [hl, hL, sortM_len]; exact ho.o.len
  refine ⟨ht, s, ⟨⟨rfl, rfl, rfl, rfl⟩, rfl, fun _ _ => rfl⟩, hs, hn, fun k => ?_, fun _ => ⟨fun k => ?_, fun n1 L1 f1 f2 f3 => ⟨s, ⟨⟨rfl, rfl, rfl, rfl⟩, rfl, fun _ _ => rfl⟩, ho, fun m M g1 g2 => ?_⟩⟩⟩
  · rw [hb] at k; cases k
  · exact absurd (by rw [hl, hL, sortM_len, k]) h0
  · have k1 : M = L := g1.trans hL.symm
    subst k1
    have k2 : m = n := g2.trans hl.symm
    subst k2
    refine ⟨rfl, Nat.le_refl _, rfl, mRows_eq fun _ _ => rfl, hn, fun i hi _ => ⟨fun he => ?_, fun h => h, fun h => h⟩⟩
    subst he
    refine ⟨rfl, Nat.le_refl _, mRows_eq fun _ _ => rfl, rfl, ⟨by omega, hn, hl, hw⟩, fun j hj _ => ⟨fun hq => ?_, fun h => h, fun h => h⟩⟩
    subst hq
    exact ⟨ha.symm, hb'.symm, hX.symm⟩
theorem plcrF_ok (args : List AV) (h : Heap) (K : KO) (hl : plcF addM args h K) : CallsA PP 12 args h K := by
  refine Pure.fsumm (d := 20) (viewL_weak _ _ _ _ _ hl fun a ha => ?_)
  split at ha
  · rename_i fu ix ca du fe de k0 k1 l
    obtain ⟨ht, s, hs, hsok, hn, h1, h2⟩ := ha
    cases hc : shB addM ⟨fu, ix, ca, du, fe, de, k0, k1⟩ s with
    | false => exact ⟨_, _, _, _, (Pure.evM (E104_ok ⟨fu, ix, ca, du, fe, de, k0, k1⟩ s [] 0) (rpf_1 _ ⟨_, _, _, _, _, _, _, _⟩ s _ _ ht hsok hn hc)).conv (fun E r hr => hr.head (fun _ hc => hc) (fun _ hc => hc.head (fun _ hc => hs.rel hc) (fun _ hc => hc))), rfl, trivial, h1 hc⟩
    | true =>
      obtain ⟨h2, h3⟩ := h2 hc
      have ho : RouC ⟨fu, ix, ca, du, fe, de, k0, k1⟩ s := ⟨outsOk ht hsok hn hc, hsok, ht, sh16 hn hc⟩
      rcases Nat.eq_zero_or_pos (osAll ⟨fu, ix, ca, du, fe, de, k0, k1⟩ s).length with h0 | h0
      · exact ⟨_, _, _, _, (Pure.evM (E104_ok ⟨fu, ix, ca, du, fe, de, k0, k1⟩ s [] 0) (rpf_2 _ ⟨_, _, _, _, _, _, _, _⟩ s _ _ ht hsok hn hc h0)).conv (fun E r hr => hr.head (fun _ hc => hc) (fun _ hc => hc.head (fun _ hc => hs.rel hc) (fun _ hc => hc))), rfl, trivial, h2 h0⟩
      · have hn0 : (sortM (osAll ⟨fu, ix, ca, du, fe, de, k0, k1⟩ s)).length ≠ 0 := by rw [sortM_len]; omega
        exact ⟨_, _, _, _, (Pure.evM (E104_ok ⟨fu, ix, ca, du, fe, de, k0, k1⟩ s _ _) (rpf_3 _ ⟨_, _, _, _, _, _, _, _⟩ s _ _ _ _ _ ht hsok hn hc ho rfl rfl hn0 rfl rfl rfl)).conv (fun E r hr => hr.head (fun _ hc => hc) (fun _ hc => hc.head (fun _ hc => hs.rel hc) (fun _ hc => hc))), rfl, ⟨by decide, .ints _ _, trivial⟩, h3 _ _ _ _ _ _ rfl rfl hn0 rfl rfl rfl rfl⟩
  · exact ha.elim
end Go.Tk
end
section
namespace Go.Tk
def hsh (n : Int) : List Int := n :: List.replicate 31 0
def t8 : TermS := ⟨zero32, 0, 1000, 10, 5, 3, hsh 1, hsh 2⟩
def sh8A : List AV := [.int .i64 0, .int .i64 0, .arr .u8 32 zero32, .arr .i64 2 [600, 400], .nilslice]
def mA1 : MadeS := ⟨⟨3, 595, hsh 1, zero32, zero32, zero32, 3, 0⟩, 0, -1⟩
def mA2 : MadeS := ⟨⟨1, 400, hsh 2, zero32, zero32, zero32, 0, 0⟩, 0, -2⟩
def mB1 : MadeS := ⟨⟨3, 380, hsh 2, zero32, zero32, zero32, 3, 0⟩, 0, -1⟩
def mB2 : MadeS := ⟨⟨1, 595, hsh 1, zero32, zero32, zero32, 0, 0⟩, 0, -2⟩
def mB3 : MadeS := ⟨⟨5, 20, hsh 2, hsh 1, zero32, zero32, 3, 9⟩, 0, 0⟩
def mC1 : MadeS := ⟨⟨1, 400, hsh 2, zero32, zero32, zero32, 0, 0⟩, 1, 0⟩
def or8F : FSumm := fun args h K => match args with
  | [.nslice p esz len lo] => match h.get p.blk with
    | some (.rows 134 m f) => match Nat.beq m len && Nat.beq p.row 0 && Nat.beq p.sz 134 && Nat.beq p.off 0 && Nat.beq p.inn 0 && Nat.beq esz 134 with
      | true => match m with
        | 1 => (∀ i, i < 1 → f i = mRows [mC1] i) ∧ K (.ret (.nslice ⟨p.blk, 0, 134, 0, 0⟩ 134 1 lo)) ⟨h.next, (p.blk, .rows 134 1 (mRows [mC1])) :: delB h.bs p.blk⟩
        | 2 => (∀ i, i < 2 → f i = mRows [mA1, mA2] i) ∧ K (.ret (.nslice ⟨p.blk, 0, 134, 0, 0⟩ 134 2 lo)) ⟨h.next, (p.blk, .rows 134 2 (mRows [mA2, mA1])) :: delB h.bs p.blk⟩
        | 3 => (∀ i, i < 3 → f i = mRows [mB1, mB2, mB3] i) ∧ K (.ret (.nslice ⟨p.blk, 0, 134, 0, 0⟩ 134 3 lo)) ⟨h.next, (p.blk, .rows 134 3 (mRows [mB3, mB1, mB2])) :: delB h.bs p.blk⟩
        | _ => False
      | false => False
    | _ => False
  | _ => False
theorem or8_ok (args : List AV) (h : Heap) (K : KO) (hl : or8F args h K) : CallsA PP 58 args h K := by
  unfold or8F at hl
  split at hl
  · rename_i p esz len lo
    split at hl
    · rename_i m f hg
      split at hl
      · rename_i hb
        simp only [Bool.and_eq_true] at hb
        obtain ⟨⟨⟨⟨⟨h1, h2⟩, h3⟩, h4⟩, h5⟩, h6⟩ := hb
        have g1 := Nat.eq_of_beq_eq_true h1
        clear h1
        have g2 := Nat.eq_of_beq_eq_true h2
        clear h2
        have g3 := Nat.eq_of_beq_eq_true h3
        clear h3
        have g4 := Nat.eq_of_beq_eq_true h4
        clear h4
        have g5 := Nat.eq_of_beq_eq_true h5
        clear h5
        have g6 := Nat.eq_of_beq_eq_true h6
        clear h6
        obtain ⟨blk, row, sz, off, inn⟩ := p
        simp only at g2 g3 g4 g5 hg
        subst g1 g2 g3 g4 g5 g6
        have key : ∀ (L L' : List MadeS), L.length = m → m < 20 → (∀ x ∈ L, x.Ok) → sortM L = L' → (∀ i, i < m → f i = mRows L i) → K (.ret (.nslice ⟨blk, 0, 134, 0, 0⟩ 134 m lo)) ⟨h.next, (blk, .rows 134 m (mRows L')) :: delB h.bs blk⟩ → CallsA PP 58 [.nslice ⟨blk, 0, 134, 0, 0⟩ 134 m lo] h K := by
          intro L L' k1 k2 k3 k4 k5 hK
          subst k4
          refine orF_ok _ _ _ ?_
          unfold orF
          refine frA_one hg (fun i hi => by rw [k5 i hi]; exact mRows_plain L i) ?_
          exact ⟨L, ⟨rfl, k2, k1⟩, k3, k5, hK⟩
        have z32 : zero32.length = 32 := rfl
        have l1 : (hsh 1).length = 32 := rfl
        have l2 : (hsh 2).length = 32 := rfl
        split at hl
        · exact key [mC1] [mC1] rfl (by decide) (fun x hx => by simp only [List.mem_cons, List.not_mem_nil, or_false] at hx; subst hx; exact ⟨l2, z32, z32, z32⟩) rfl hl.1 hl.2
        · exact key [mA1, mA2] [mA2, mA1] rfl (by decide) (fun x hx => by simp only [List.mem_cons, List.not_mem_nil, or_false] at hx; rcases hx with rfl | rfl <;> exact ⟨by assumption, z32, z32, z32⟩) rfl hl.1 hl.2
        · exact key [mB1, mB2, mB3] [mB3, mB1, mB2] rfl (by decide) (fun x hx => by simp only [List.mem_cons, List.not_mem_nil, or_false] at hx; rcases hx with rfl | rfl | rfl <;> exact ⟨by assumption, by assumption, z32, z32⟩) rfl hl.1 hl.2
        · exact hl.elim
      · exact hl.elim
    · exact hl.elim
  · exact hl.elim
noncomputable def E88 : Env2 := G0.withF 58 or8F
theorem E88_ok : E88.Ok := Env2.withF_ok G0_ok or8_ok
set_option maxRecDepth 100000 in
set_option maxHeartbeats 0 in
theorem coA (X : Nat) (hx : X = X) :
    evF E88 20 9 [.agg t8.c, .agg sh8A] ⟨0, []⟩ (outM 0 (.ret (.tuple [.agg [.int .i64 0, .nslice ⟨0, 0, 0, 0, 0⟩ 130 1 1, .nslice ⟨1, 0, 132, 0, 0⟩ 132 2 2], .int .i64 0])) 2 [(0, .flat (InS.c (inOf t8))), (1, .rows 132 2 (outRows (fun i => match i with | 0 => ⟨1, 400, hsh 2, zero32, zero32, zero32, 0, 0⟩ | _ => ⟨3, 595, hsh 1, zero32, zero32, zero32, 3, 0⟩)))]) := by
  refine @Eq.mpr _ (let q1 := t8.k1;
 let q2 := q1 = q1;
 let q3 := t8.k0;
 let q4 := q3 = q3;
 let q5 := AV.arr IntKind.u8 32 zero32;
 let q6 := AV.int IntKind.i64 0;
 let q7 := t8.fund;
 let q8 := inOf t8;
 let q9 := mA2.o;
 let q10 := mA1.o;
 q2 ∧
 q4 ∧
 q2 ∧
 q4 ∧
 q2 ∧
 q4 ∧
 q2 ∧
 q4 ∧
 q2 ∧
 q4 ∧
 q2 ∧
 q2 ∧
 q2 ∧
 (∀ (i : Nat), i < 2 → catF 1 (catF 0 (fun (x : Nat) => []) (rowC [AV.int IntKind.i64 3, AV.int IntKind.i64 595, AV.arr IntKind.u8 32 q3, q5, q5, q5, AV.int IntKind.i64 t8.delay, q6, q6, AV.int IntKind.i64 (-1)] 0 134)) (rowC [AV.int IntKind.i64 1, AV.int IntKind.i64 400, AV.arr IntKind.u8 32 q1, q5, q5, q5, q6, q6, q6, AV.int IntKind.i64 (-2)] 0 134) i = mRows [mA1, mA2] i) ∧
 q7 = q7 ∧
 q4 ∧
 q2 ∧
 q7 = q8.name ∧
 zero32 = q8.tag ∧
 zero32 = q8.also ∧
 zero32 = q8.secret ∧
 RowsEq 0 [(1, 34), (0, 27)] 2
 (outRows fun (i : Nat) =>
 match i with
 | 0 => OutS.mk 1 400 (hsh 2) zero32 zero32 zero32 0 0
 | x => OutS.mk 3 595 (hsh 1) zero32 zero32 zero32 3 0)
 (catF 1 (catF 0 (fun (x : Nat) => []) (rowC [AV.int IntKind.i64 q9.kind, AV.int IntKind.i64 q9.amount, AV.arr IntKind.u8 32 q9.owner, AV.arr IntKind.u8 32 q9.other, AV.arr IntKind.u8 32 q9.point, AV.arr IntKind.u8 32 q9.hash, AV.int IntKind.i64 q9.delay, AV.int IntKind.i64 q9.expiry] 0 132)) (rowC [AV.int IntKind.i64 q10.kind, AV.int IntKind.i64 q10.amount, AV.arr IntKind.u8 32 q10.owner, AV.arr IntKind.u8 32 q10.other, AV.arr IntKind.u8 32 q10.point, AV.arr IntKind.u8 32 q10.hash, AV.int IntKind.i64 q10.delay, AV.int IntKind.i64 q10.expiry] 0 132)) ∧
 True) (by kernel_rfl) ?_
  conv => zeta
  have e3 : ∀ i : Nat, i < 3 → i = 0 ∨ i = 1 ∨ i = 2 := by omega
  and_intros
  all_goals first
    | rfl
    | trivial
    | (intro i hi; exact one_row mC1 i hi)
    | (intro i hi; exact two_rows mA1 mA2 i hi)
    | (intro i hi; exact rows_snoc (O := [mB1, mB2]) (x := mB3) (c := 2) rfl (fun k hk => two_rows mB1 mB2 k hk) hi)
    | (refine outRowsEq fun i hi => ?_; rcases e3 i (by omega) with rfl | rfl | rfl <;> first | rfl | omega)
def pdC : List AV := [.int .i64 0, .int .i64 0, .int .i64 20, .arr .u8 32 zero32, .int .i64 9]
def sh8B : List AV := [.int .i64 0, .int .i64 1, .arr .u8 32 zero32, .arr .i64 2 [600, 380], .vrows 36 1 (rowC pdC 0 36) 1]
def sh8C : List AV := [.int .i64 0, .int .i64 0, .arr .u8 32 zero32, .arr .i64 2 [600, 401], .nilslice]
set_option maxRecDepth 100000 in
set_option maxHeartbeats 0 in
theorem coB (X : Nat) (hx : X = X) :
    evF E88 20 9 [.agg t8.c, .agg sh8B] ⟨0, []⟩ (outM 0 (.ret (.tuple [.agg [.int .i64 0, .nslice ⟨0, 0, 0, 0, 0⟩ 130 1 1, .nslice ⟨1, 0, 132, 0, 0⟩ 132 3 3], .int .i64 0])) 2 [(0, .flat (InS.c (inOf t8))), (1, .rows 132 3 (outRows (fun i => match i with | 0 => ⟨5, 20, hsh 2, hsh 1, zero32, zero32, 3, 9⟩ | 1 => ⟨3, 380, hsh 2, zero32, zero32, zero32, 3, 0⟩ | _ => ⟨1, 595, hsh 1, zero32, zero32, zero32, 0, 0⟩)))]) := by
  refine @Eq.mpr _ (let q1 := t8.k1;
 let q2 := q1 = q1;
 let q3 := t8.k0;
 let q4 := q3 = q3;
 let q5 := AV.arr IntKind.u8 32 q1;
 let q6 := AV.arr IntKind.u8 32 zero32;
 let q7 := AV.int IntKind.i64 t8.delay;
 let q8 := AV.int IntKind.i64 0;
 let q9 := AV.arr IntKind.u8 32 q3;
 let q10 := t8.fund;
 let q11 := inOf t8;
 let q12 := mB3.o;
 let q13 := mB1.o;
 let q14 := mB2.o;
 q2 ∧
 q4 ∧
 q2 ∧
 q4 ∧
 q2 ∧
 q4 ∧
 q2 ∧
 q4 ∧
 q2 ∧
 q4 ∧
 q4 ∧
 q4 ∧
 q4 ∧
 (∀ (i : Nat), i < 3 → catF 2 (catF 1 (catF 0 (fun (x : Nat) => []) (rowC [AV.int IntKind.i64 3, AV.int IntKind.i64 380, q5, q6, q6, q6, q7, q8, q8, AV.int IntKind.i64 (-1)] 0 134)) (rowC [AV.int IntKind.i64 1, AV.int IntKind.i64 595, q9, q6, q6, q6, q8, q8, q8, AV.int IntKind.i64 (-2)] 0 134)) (rowC [AV.int IntKind.i64 5, AV.int IntKind.i64 20, q5, q9, q6, q6, q7, AV.int IntKind.i64 9, q8, q8] 0 134) i = mRows [mB1, mB2, mB3] i) ∧
 q10 = q10 ∧
 q4 ∧
 q2 ∧
 q10 = q11.name ∧
 zero32 = q11.tag ∧
 zero32 = q11.also ∧
 zero32 = q11.secret ∧
 RowsEq 0 [(1, 47), (0, 37)] 3
 (outRows fun (i : Nat) =>
 match i with
 | 0 => OutS.mk 5 20 (hsh 2) (hsh 1) zero32 zero32 3 9
 | 1 => OutS.mk 3 380 (hsh 2) zero32 zero32 zero32 3 0
 | x => OutS.mk 1 595 (hsh 1) zero32 zero32 zero32 0 0)
 (catF 2 (catF 1 (catF 0 (fun (x : Nat) => []) (rowC [AV.int IntKind.i64 q12.kind, AV.int IntKind.i64 q12.amount, AV.arr IntKind.u8 32 q12.owner, AV.arr IntKind.u8 32 q12.other, AV.arr IntKind.u8 32 q12.point, AV.arr IntKind.u8 32 q12.hash, AV.int IntKind.i64 q12.delay, AV.int IntKind.i64 q12.expiry] 0 132)) (rowC [AV.int IntKind.i64 q13.kind, AV.int IntKind.i64 q13.amount, AV.arr IntKind.u8 32 q13.owner, AV.arr IntKind.u8 32 q13.other, AV.arr IntKind.u8 32 q13.point, AV.arr IntKind.u8 32 q13.hash, AV.int IntKind.i64 q13.delay, AV.int IntKind.i64 q13.expiry] 0 132)) (rowC [AV.int IntKind.i64 q14.kind, AV.int IntKind.i64 q14.amount, AV.arr IntKind.u8 32 q14.owner, AV.arr IntKind.u8 32 q14.other, AV.arr IntKind.u8 32 q14.point, AV.arr IntKind.u8 32 q14.hash, AV.int IntKind.i64 q14.delay, AV.int IntKind.i64 q14.expiry] 0 132)) ∧
 True) (by kernel_rfl) ?_
  conv => zeta
  have e3 : ∀ i : Nat, i < 3 → i = 0 ∨ i = 1 ∨ i = 2 := by omega
  and_intros
  all_goals first
    | rfl
    | trivial
    | (intro i hi; exact one_row mC1 i hi)
    | (intro i hi; exact two_rows mA1 mA2 i hi)
    | (intro i hi; exact rows_snoc (O := [mB1, mB2]) (x := mB3) (c := 2) rfl (fun k hk => two_rows mB1 mB2 k hk) hi)
    | (refine outRowsEq fun i hi => ?_; rcases e3 i (by omega) with rfl | rfl | rfl <;> first | rfl | omega)
set_option maxRecDepth 100000 in
set_option maxHeartbeats 0 in
theorem coC (X : Nat) (hx : X = X) :
    evF E88 20 9 [.agg t8.c, .agg sh8C] ⟨0, []⟩ (outM 0 (.ret (.tuple [.agg txZ, .int .i64 2])) 0 []) := by
  refine @Eq.mpr _ (let q1 := t8.k1 = t8.k1;
 let q2 := t8.k0 = t8.k0;
 q1 ∧ q2 ∧ q1 ∧ q2 ∧ q1 ∧ q2 ∧ q1 ∧ q2 ∧ q1 ∧ q2 ∧ True) (by kernel_rfl) ?_
  conv => zeta
  have e3 : ∀ i : Nat, i < 3 → i = 0 ∨ i = 1 ∨ i = 2 := by omega
  and_intros
  all_goals first
    | rfl
    | trivial
    | (intro i hi; exact one_row mC1 i hi)
    | (intro i hi; exact two_rows mA1 mA2 i hi)
    | (intro i hi; exact rows_snoc (O := [mB1, mB2]) (x := mB3) (c := 2) rfl (fun k hk => two_rows mB1 mB2 k hk) hi)
    | (refine outRowsEq fun i hi => ?_; rcases e3 i (by omega) with rfl | rfl | rfl <;> first | rfl | omega)
set_option maxRecDepth 100000 in
set_option maxHeartbeats 0 in
theorem plB (X : Nat) (hx : X = X) :
    evF E88 20 10 [.agg t8.c, .agg sh8B] ⟨0, []⟩ (outM 0 (.ret (.tuple [.nslice ⟨0, 0, 0, 0, 0⟩ 1 1 1, .int .i64 1, .int .i64 2, .int .i64 0])) 1 [(0, .ints .i64 [0])]) := by
  refine @Eq.mpr _ (let q1 := t8.k1;
 let q2 := q1 = q1;
 let q3 := t8.k0;
 let q4 := q3 = q3;
 let q5 := AV.arr IntKind.u8 32 q1;
 let q6 := AV.arr IntKind.u8 32 zero32;
 let q7 := AV.int IntKind.i64 t8.delay;
 let q8 := AV.int IntKind.i64 0;
 let q9 := AV.arr IntKind.u8 32 q3;
 q2 ∧
 q4 ∧
 q2 ∧
 q4 ∧ q2 ∧ q4 ∧ q2 ∧ q4 ∧ q2 ∧ q4 ∧ q4 ∧ q4 ∧ q4 ∧ (∀ (i : Nat), i < 3 → catF 2 (catF 1 (catF 0 (fun (x : Nat) => []) (rowC [AV.int IntKind.i64 3, AV.int IntKind.i64 380, q5, q6, q6, q6, q7, q8, q8, AV.int IntKind.i64 (-1)] 0 134)) (rowC [AV.int IntKind.i64 1, AV.int IntKind.i64 595, q9, q6, q6, q6, q8, q8, q8, AV.int IntKind.i64 (-2)] 0 134)) (rowC [AV.int IntKind.i64 5, AV.int IntKind.i64 20, q5, q9, q6, q6, q7, AV.int IntKind.i64 9, q8, q8] 0 134) i = mRows [mB1, mB2, mB3] i) ∧ t8.fund = t8.fund ∧ q4 ∧ q2 ∧ q4 ∧ q4 ∧ q4 ∧ (∀ (i : Nat), i < 3 → catF 2 (catF 1 (catF 0 (fun (x : Nat) => []) (rowC [AV.int IntKind.i64 3, AV.int IntKind.i64 380, q5, q6, q6, q6, q7, q8, q8, AV.int IntKind.i64 (-1)] 0 134)) (rowC [AV.int IntKind.i64 1, AV.int IntKind.i64 595, q9, q6, q6, q6, q8, q8, q8, AV.int IntKind.i64 (-2)] 0 134)) (rowC [AV.int IntKind.i64 5, AV.int IntKind.i64 20, q5, q9, q6, q6, q7, AV.int IntKind.i64 9, q8, q8] 0 134) i = mRows [mB1, mB2, mB3] i) ∧ [(0 : Int)] = [(0 : Int)] ∧ True) (by kernel_rfl) ?_
  conv => zeta
  have e3 : ∀ i : Nat, i < 3 → i = 0 ∨ i = 1 ∨ i = 2 := by omega
  and_intros
  all_goals first
    | rfl
    | trivial
    | (intro i hi; exact one_row mC1 i hi)
    | (intro i hi; exact two_rows mA1 mA2 i hi)
    | (intro i hi; exact rows_snoc (O := [mB1, mB2]) (x := mB3) (c := 2) rfl (fun k hk => two_rows mB1 mB2 k hk) hi)
    | (refine outRowsEq fun i hi => ?_; rcases e3 i (by omega) with rfl | rfl | rfl <;> first | rfl | omega)
set_option maxRecDepth 100000 in
set_option maxHeartbeats 0 in
theorem clA (X : Nat) (hx : X = X) :
    evF E88 20 26 [.agg t8.c, .agg [.arr .i64 2 [600, 400]], .int .i64 600] ⟨0, []⟩ (outM 0 (.ret (.tuple [.agg [.int .i64 2147483647, .nslice ⟨0, 0, 0, 0, 0⟩ 130 1 1, .nslice ⟨1, 0, 132, 0, 0⟩ 132 1 1], .int .i64 0])) 2 [(0, .flat (InS.c (inOf t8))), (1, .rows 132 1 (outRows (fun _ => ⟨1, 400, hsh 2, zero32, zero32, zero32, 0, 0⟩)))]) := by
  refine @Eq.mpr _ (let q1 := t8.k1;
 let q2 := q1 = q1;
 let q3 := t8.k0 = t8.k0;
 let q4 := AV.arr IntKind.u8 32 zero32;
 let q5 := AV.int IntKind.i64 0;
 let q6 := t8.fund;
 let q7 := inOf t8;
 let q8 := mC1.o;
 q2 ∧ q3 ∧ q2 ∧ q3 ∧ q2 ∧ q3 ∧ q2 ∧ q3 ∧ q2 ∧ q3 ∧ (∀ (i : Nat), i < 1 → catF 0 (fun (x : Nat) => []) (rowC [AV.int IntKind.i64 1, AV.int IntKind.i64 400, AV.arr IntKind.u8 32 q1, q4, q4, q4, q5, q5, AV.int IntKind.i64 1, q5] 0 134) i = mRows [mC1] i) ∧ q6 = q6 ∧ q3 ∧ q2 ∧ q6 = q7.name ∧ zero32 = q7.tag ∧ zero32 = q7.also ∧ zero32 = q7.secret ∧ RowsEq 0 [(1, 15), (0, 11)] 1 (outRows fun (x : Nat) => OutS.mk 1 400 (hsh 2) zero32 zero32 zero32 0 0) (catF 0 (fun (x : Nat) => []) (rowC [AV.int IntKind.i64 q8.kind, AV.int IntKind.i64 q8.amount, AV.arr IntKind.u8 32 q8.owner, AV.arr IntKind.u8 32 q8.other, AV.arr IntKind.u8 32 q8.point, AV.arr IntKind.u8 32 q8.hash, AV.int IntKind.i64 q8.delay, AV.int IntKind.i64 q8.expiry] 0 132)) ∧ True) (by kernel_rfl) ?_
  conv => zeta
  have e3 : ∀ i : Nat, i < 3 → i = 0 ∨ i = 1 ∨ i = 2 := by omega
  and_intros
  all_goals first
    | rfl
    | trivial
    | (intro i hi; exact one_row mC1 i hi)
    | (intro i hi; exact two_rows mA1 mA2 i hi)
    | (intro i hi; exact rows_snoc (O := [mB1, mB2]) (x := mB3) (c := 2) rfl (fun k hk => two_rows mB1 mB2 k hk) hi)
    | (refine outRowsEq fun i hi => ?_; rcases e3 i (by omega) with rfl | rfl | rfl <;> first | rfl | omega)
def co8F : FSumm := fun args h K => viewL none h true 20 args fun a => match a with
  | [ct, .agg [nu, ow, po, .arr .i64 2 [x, y], pe]] => match decide (y = 400) with
    | true => ct = .agg t8.c ∧ AV.agg [nu, ow, po, .arr .i64 2 [x, y], pe] = .agg sh8A ∧ K (.ret (.tuple [.agg [.int .i64 0, .nslice ⟨h.next, 0, 0, 0, 0⟩ 130 1 1, .nslice ⟨h.next + 1, 0, 132, 0, 0⟩ 132 2 2], .int .i64 0])) ⟨h.next + 2, (h.next, .flat (InS.c (inOf t8))) :: (h.next + 1, .rows 132 2 (outRows (fun i => match i with | 0 => ⟨1, 400, hsh 2, zero32, zero32, zero32, 0, 0⟩ | _ => ⟨3, 595, hsh 1, zero32, zero32, zero32, 3, 0⟩))) :: h.bs⟩
    | false => match decide (y = 380) with
      | true => ct = .agg t8.c ∧ AV.agg [nu, ow, po, .arr .i64 2 [x, y], pe] = .agg sh8B ∧ K (.ret (.tuple [.agg [.int .i64 0, .nslice ⟨h.next, 0, 0, 0, 0⟩ 130 1 1, .nslice ⟨h.next + 1, 0, 132, 0, 0⟩ 132 3 3], .int .i64 0])) ⟨h.next + 2, (h.next, .flat (InS.c (inOf t8))) :: (h.next + 1, .rows 132 3 (outRows (fun i => match i with | 0 => ⟨5, 20, hsh 2, hsh 1, zero32, zero32, 3, 9⟩ | 1 => ⟨3, 380, hsh 2, zero32, zero32, zero32, 3, 0⟩ | _ => ⟨1, 595, hsh 1, zero32, zero32, zero32, 0, 0⟩))) :: h.bs⟩
      | false => ct = .agg t8.c ∧ AV.agg [nu, ow, po, .arr .i64 2 [x, y], pe] = .agg sh8C ∧ K (.ret (.tuple [.agg txZ, .int .i64 2])) h
  | _ => False
theorem co8_ok (args : List AV) (h : Heap) (K : KO) (hl : co8F args h K) : CallsA PP 9 args h K := by
  refine Pure.fsumm (d := 20) (viewL_weak _ _ _ _ _ hl fun a ha => ?_)
  split at ha
  · split at ha
    · obtain ⟨rfl, e, hK⟩ := ha
      rw [e]
      exact ⟨_, _, _, _, .evM E88_ok (coA 0 rfl), rfl, ⟨by decide, .flat _ rfl, by decide, .rows _ _ _ (fun i _ => OutS.plainC _), trivial⟩, hK⟩
    · split at ha
      · obtain ⟨rfl, e, hK⟩ := ha
        rw [e]
        exact ⟨_, _, _, _, .evM E88_ok (coB 0 rfl), rfl, ⟨by decide, .flat _ rfl, by decide, .rows _ _ _ (fun i _ => OutS.plainC _), trivial⟩, hK⟩
      · obtain ⟨rfl, e, hK⟩ := ha
        rw [e]
        exact ⟨_, _, _, _, .evM E88_ok (coC 0 rfl), rfl, trivial, hK⟩
  · exact ha.elim
def pl8F : FSumm := fun args h K => viewL none h true 20 args fun a => a = [.agg t8.c, .agg sh8B] ∧ K (.ret (.tuple [.nslice ⟨h.next, 0, 0, 0, 0⟩ 1 1 1, .int .i64 1, .int .i64 2, .int .i64 0])) ⟨h.next + 1, (h.next, .ints .i64 [0]) :: h.bs⟩
theorem pl8_ok (args : List AV) (h : Heap) (K : KO) (hl : pl8F args h K) : CallsA PP 10 args h K := by
  refine Pure.fsumm (d := 20) (viewL_weak _ _ _ _ _ hl fun a ha => ?_)
  obtain ⟨rfl, hK⟩ := ha
  exact ⟨_, _, _, _, .evM E88_ok (plB 0 rfl), rfl, ⟨by decide, .ints _ _, trivial⟩, hK⟩
def cl8F : FSumm := fun args h K => viewL none h true 20 args fun a => a = [.agg t8.c, .agg [.arr .i64 2 [600, 400]], .int .i64 600] ∧ K (.ret (.tuple [.agg [.int .i64 2147483647, .nslice ⟨h.next, 0, 0, 0, 0⟩ 130 1 1, .nslice ⟨h.next + 1, 0, 132, 0, 0⟩ 132 1 1], .int .i64 0])) ⟨h.next + 2, (h.next, .flat (InS.c (inOf t8))) :: (h.next + 1, .rows 132 1 (outRows (fun _ => ⟨1, 400, hsh 2, zero32, zero32, zero32, 0, 0⟩))) :: h.bs⟩
theorem cl8_ok (args : List AV) (h : Heap) (K : KO) (hl : cl8F args h K) : CallsA PP 26 args h K := by
  refine Pure.fsumm (d := 20) (viewL_weak _ _ _ _ _ hl fun a ha => ?_)
  obtain ⟨rfl, hK⟩ := ha
  exact ⟨_, _, _, _, .evM E88_ok (clA 0 rfl), rfl, ⟨by decide, .flat _ rfl, by decide, .rows _ _ _ (fun i _ => OutS.plainC _), trivial⟩, hK⟩
noncomputable def E88b (A : List Int → Int × Int) (Nm : TxS → List Int) : Env2 := (((((G0.withP 41 (nameS A Nm)).withP 43 (ckS A)).withF 67 cleF).withF 9 co8F).withF 10 pl8F).withF 26 cl8F
theorem E88b_ok : (E88b addM nameT).Ok := Env2.withF_ok (Env2.withF_ok (Env2.withF_ok (Env2.withF_ok (Env2.withP_ok (Env2.withP_ok G0_ok nameS_ok) ckS_ok) cleF_ok) co8_ok) pl8_ok) cl8_ok
set_option maxRecDepth 100000 in
set_option maxHeartbeats 0 in
theorem wk_1 (A : List Int → Int × Int) (Nm : TxS → List Int) (b : Bool) (hA : A = addM) (hN : Nm = nameT) (hb : b = true) :
    evF (E88b A Nm) 20 8 [] ⟨0, []⟩ (outV (fun v => v = .bool b)) := by
  refine @Eq.mpr _ (let q1 := AV.arr IntKind.u8 32 zero32;
 let q2 := AV.int IntKind.i64 0;
 let q3 := [(0 : Int), 0, 0, 0, 0, 0, 0, 0, 0, 0, 0, 0, 0, 0, 0, 0, 0, 0, 0, 0, 0, 0, 0, 0, 0, 0, 0, 0, 0, 0, 0];
 let q4 := AV.agg [q1, q2, AV.int IntKind.i64 1000, AV.int IntKind.i64 10, AV.int IntKind.i64 5, AV.int IntKind.i64 3, AV.arr IntKind.u8 32 ((1 : Int) :: q3), AV.arr IntKind.u8 32 ((2 : Int) :: q3)];
 let q5 := AV.agg (TermS.c t8);
 let q6 := q4 = q5;
 let q7 := AV.arr IntKind.i64 2 [(600 : Int), 400];
 let q8 := AV.agg [q2, AV.int IntKind.i64 1, q1, AV.arr IntKind.i64 2 [(600 : Int), 380], AV.vrows 36 1 (rowC [q2, q2, AV.int IntKind.i64 20, q1, AV.int IntKind.i64 9] 0 36) 1];
 let q9 := [AV.agg [q7], AV.int IntKind.i64 600];
 let q10 := inOf t8;
 let q11 := AV.bool true = AV.bool b;
 q6 ∧
 AV.agg [q2, q2, q1, q7, AV.nilslice] = AV.agg sh8A ∧
 q6 ∧
 q8 = AV.agg sh8B ∧
 [q4, q8] = [q5, AV.agg sh8B] ∧
 q4 :: q9 = q5 :: q9 ∧
 q6 ∧
 AV.agg [q2, q2, q1, AV.arr IntKind.i64 2 [(600 : Int), 401], AV.nilslice] = AV.agg sh8C ∧
 (∀ (i : Nat), i < 2 → true = true) ∧
 ∃ (t : TxS),
 (t.num = 0 ∧
 (((1 : Nat) = 1 ∧ t.N = 1) ∧ ∀ (i : Nat), i < 1 → rowC [AV.arr IntKind.u8 32 q10.name, AV.int IntKind.i64 q10.index, AV.int IntKind.i64 q10.way, AV.arr IntKind.u8 32 q10.tag, AV.arr IntKind.u8 32 q10.also, AV.arr IntKind.u8 32 q10.secret] 0 130 i = InS.c (t.ins i)) ∧
 ((2 : Nat) = 2 ∧ t.M = 2) ∧
 ∀ (i : Nat),
 let q23 :=
 match i with
 | 0 => OutS.mk 1 400 (hsh 2) zero32 zero32 zero32 0 0
 | x => OutS.mk 3 595 (hsh 1) zero32 zero32 zero32 3 0;
 i < 2 → [AV.int IntKind.i64 q23.kind, AV.int IntKind.i64 q23.amount, AV.arr IntKind.u8 32 q23.owner, AV.arr IntKind.u8 32 q23.other, AV.arr IntKind.u8 32 q23.point, AV.arr IntKind.u8 32 q23.hash, AV.int IntKind.i64 q23.delay, AV.int IntKind.i64 q23.expiry] = OutS.c (t.outs i)) ∧
 TxS.Ok t ∧ iteB (ckTx A t) (∃ (t : TxS), (t.num = 0 ∧ t.N = 0 ∧ ((1 : Nat) = 1 ∧ t.M = 1) ∧ ∀ (i : Nat), i < 1 → rowC [AV.int IntKind.i64 1, q2, q1, q1, q1, q1, q2, q2] 0 132 i = OutS.c (t.outs i)) ∧ TxS.Ok t ∧ iteB (ckTx A t) (AV.bool false = AV.bool b) q11) q11) (by kernel_rfl) ?_
  conv => zeta
  try simp only [need_eq]
  try simp only [nope_eq]
  try simp only [iteD_eq]
  try simp only [iteT_eq]
  try simp only [iteF_eq]
  try simp only [iteE_eq]
  try simp only [Int.toNat_natCast, Nat.zero_add, true_and, and_true, Nat.le_refl]
  subst hA
  have i0 : ∀ i : Nat, i < 1 → i = 0 := by omega
  have hT : (⟨0, 1, fun _ => inOf t8, 2, fun i => match i with | 0 => ⟨1, 400, hsh 2, zero32, zero32, zero32, 0, 0⟩ | _ => ⟨3, 595, hsh 1, zero32, zero32, zero32, 3, 0⟩⟩ : TxS).Ok :=
    ⟨by show 1 < _; decide, by show 2 < _; decide, fun _ _ => ⟨rfl, rfl, rfl, rfl⟩, fun i _ => by cases i <;> exact ⟨rfl, rfl, rfl, rfl⟩⟩
  have hU : (⟨0, 0, fun _ => inZ, 1, fun _ => ⟨1, 0, zero32, zero32, zero32, zero32, 0, 0⟩⟩ : TxS).Ok :=
    ⟨by show 0 < _; decide, by show 1 < _; decide, fun i hi => absurd hi (Nat.not_lt_zero i), fun _ _ => ⟨rfl, rfl, rfl, rfl⟩⟩
  refine ⟨rfl, rfl, rfl, rfl, rfl, rfl, rfl, rfl, fun _ _ => trivial, _, ⟨rfl, ⟨rfl, fun i hi => ?_⟩, rfl, fun i hi => rfl⟩, hT, fun _ => ⟨_, ⟨rfl, rfl, rfl, fun i hi => ?_⟩, hU, fun hc => ?_, fun _ => by rw [hb]⟩, fun _ => by rw [hb]⟩
  · rw [i0 i hi]; rfl
  · rw [i0 i hi]; rfl
  · rw [← rightR_ck] at hc
    unfold rightR at hc
    simp at hc
theorem works8_ok (args : List AV) (h : Heap) (K : AV → Prop) (hl : works8S args h K) : CallsA PP 8 args h fun o h' => ∃ v, o = .ret v ∧ h' = h ∧ K v := by
  unfold works8S at hl
  split at hl
  · exact outV_ev E88b_ok rfl (wk_1 _ _ _ rfl rfl rfl) (fun u hu => hu ▸ hl)
  · exact hl.elim
end Go.Tk
end
section
namespace Go.Tk
def termTy : List Ty := [.arr .u8 32, .int .i64, .int .i64, .int .i64, .int .i64, .int .i64, .arr .u8 32, .arr .u8 32]
theorem bytes_of8 {n : Nat} {xs : List Int} (h : xs.length = n) (hw : ∀ i, i < n → (Lit.int .u8 (xs.getD i 0)).wf = true) : Bytes xs := ⟨fun i => by
  by_cases hi : i < n
  · have := hw i hi
    simp [Lit.wf] at this
    have m1 : IntKind.u8.min = 0 := rfl
    have m2 : IntKind.u8.max = 255 := rfl
    simp
    omega
  · rw [List.getD_eq_getElem?_getD, List.getElem?_eq_none (by omega)]; simp⟩
theorem fits_terms {a : AV} (h : FitsA true termTy a) : ∃ t : TermS, a = .agg t.c ∧ t.Ok ∧ t.fund.length = 32 := by
  cases h with | agg _ u h =>
  unfold termTy at h
  cases h with | cons _ a1 _ u h1 h =>
  cases h with | cons _ a2 _ u h2 h =>
  cases h with | cons _ a3 _ u h3 h =>
  cases h with | cons _ a4 _ u h4 h =>
  cases h with | cons _ a5 _ u h5 h =>
  cases h with | cons _ a6 _ u h6 h =>
  cases h with | cons _ a7 _ u h7 h =>
  cases h with | cons _ a8 _ u h8 h =>
  cases h; cases h1; cases h2; cases h3; cases h4; cases h5; cases h6; cases h7; cases h8
  rename_i x1 l1 w1 x2 w2 x3 w3 x4 w4 x5 w5 x6 w6 x7 l7 w7 x8 l8 w8
  exact ⟨⟨x1, x2, x3, x4, x5, x6, x7, x8⟩, rfl, ⟨l7, l8, bytes_of8 l7 w7, bytes_of8 l8 w8⟩, l1⟩
end Go.Tk
end
section
namespace Go.Tk
def p77 : PendS := ⟨0, 77, 0, zero32, 0⟩
def cmB (s : ShS) (x : Nat) : List AV := [.int .i64 s.num, .int .i64 s.owner, .arr .u8 32 s.point, .arr .i64 2 [s.a0, s.a1], .nslice ⟨x, 0, 36, 0, 0⟩ 36 s.n (s.n + 1)]
def cm0 (s : ShS) (R : Nat → PendS) (M : Nat) (X : List Int) (i : Nat) : St := ⟨160, [(19, .int .i64 i), (8, .nslice ⟨3, 0, 0, 0, 0⟩ 1 M M), (14, .nslice ⟨4, 0, 0, 0, 0⟩ 1 M M), (3, .ptr (some ⟨0, 0, 0, 0, 0⟩)), (5, .ptr (some ⟨1, 0, 0, 0, 0⟩))], ⟨5, [(0, .flat s.c), (1, .flat (cmB s 2)), (2, .rows 36 (s.n + 1) (pRows R)), (3, .ints .i64 X), (4, .ints .i64 X)]⟩, []⟩
def cmE (s : ShS) (R : Nat → PendS) : St := ⟨160, [(3, .ptr (some ⟨0, 0, 0, 0, 0⟩)), (5, .ptr (some ⟨1, 0, 0, 0, 0⟩))], ⟨3, [(0, .flat s.c), (1, .flat (cmB s 2)), (2, .rows 36 (s.n + 1) (pRows R))]⟩, []⟩
def cm2 (s : ShS) (R : Nat → PendS) (i : Nat) : St := ⟨160, [(20, .int .i64 i), (3, .ptr (some ⟨0, 0, 0, 0, 0⟩)), (5, .ptr (some ⟨1, 0, 0, 0, 0⟩))], ⟨3, [(0, .flat s.c), (1, .flat (cmB s 2)), (2, .rows 36 (s.n + 1) (pRows R))]⟩, []⟩
theorem pRowsEq {k : Nat} {τ : Ren} {n : Nat} {f : Nat → List AV} {g : Nat → PendS} (h : ∀ i, i < n → f i = (g i).c) : RowsEq k τ n (pRows g) f := rowsEq_of h (fun _ _ => rfl) (fun i _ v hv => by
  simp only [pRows, PendS.c, List.mem_cons, List.not_mem_nil, or_false] at hv
  rcases hv with rfl | rfl | rfl | rfl | rfl
  · exact .inl rfl
  · exact .inl rfl
  · exact .inl rfl
  · exact .inr ⟨_, _, _, rfl⟩
  · exact .inl rfl)
set_option maxRecDepth 100000 in
set_option maxHeartbeats 0 in
theorem cm_0 (s : ShS) (R : Nat → PendS) (M : Nat) (X : List Int) (i : Nat) (Z1 Z2 : Prop) (hn : s.n ≤ 20) (hM : M < 1000) (hX : X.length = M) (hi : i ≤ M) (h1 : i < M → Z1) (h2 : i = M → Z2) :
    roundE G0 20 3 0 0 (cm0 s R M X i) (rdM 0 0 9 (cm0 s R M X (i + 1)) (cmE s R) (cmE s R) (cmE s R) Z1 Z2 False False) := by
  refine @Eq.mpr _ (let q1 := decide (0 ≤ (↑i : Int) ∧ (↑i : Int) < (↑M : Int));
 let q2 := 0 + Int.toNat (↑i : Int);
 let q3 := List.getD X q2 0;
 let q4 := decide (s.num = s.num);
 let q5 := decide (s.owner = s.owner);
 let q6 := s.point = s.point;
 let q7 := [s.a0, s.a1];
 let q8 := q7 = q7;
 let q9 := s.n;
 let q10 := decide (q9 = q9);
 let q11 := pRows s.g;
 let q12 := q11 = q11;
 let q13 := q9 + 1;
 let q14 := decide (q13 ≤ q13);
 let q15 := decide (q13 = q13);
 let q16 := pRows R;
 let q17 := RowsEq 0 [(2, 2), (1, 1), (0, 0)] q13 q16 q16;
 let q18 := decide (M = M);
 let q19 := decide (M ≤ M);
 iteB (decide ((↑i : Int) < (↑M : Int))) (iteB q1 (iteB (decide (q2 < List.length X)) (iteB q1 (iteB (decide (q2 < List.length X)) (iteB (q3 != q3) (iteB q4 (iteB q5 (q6 ∧ q8 ∧ iteB q10 (q12 ∧ iteB q10 (iteB q4 (iteB q5 (q6 ∧ q8 ∧ iteB q10 (iteB q14 (iteB q15 (q17 ∧ False) False) False) False) False) False) False) False) False) False) (iteB (decide (IntKind.wrap IntKind.i64 ((↑i : Int) + 1) = (↑(i + 1) : Int))) (iteB q18 (iteB q19 (iteB q18 (iteB q19 (iteB q4 (iteB q5 (q6 ∧ q8 ∧ iteB q10 (q12 ∧ iteB q10 (iteB q4 (iteB q5 (q6 ∧ q8 ∧ iteB q10 (iteB q14 (iteB q15 (RowsEq 0 [(2, 2), (1, 1), (0, 0), (4, 4), (3, 3)] q13 q16 q16 ∧ X = X ∧ X = X ∧ Z1) False) False) False) False) False) False) False) False) False) False) False) False) False) False)) False) False) False) False) (iteB q4 (iteB q5 (q6 ∧ q8 ∧ iteB q10 (q12 ∧ iteB q10 (iteB q4 (iteB q5 (q6 ∧ q8 ∧ iteB q10 (iteB q14 (iteB q15 (q17 ∧ Z2) False) False) False) False) False) False) False) False) False)) (by kernel_rfl) ?_
  conv => zeta
  try simp only [need_eq]
  try simp only [nope_eq]
  try simp only [iteD_eq]
  try simp only [iteT_eq]
  try simp only [iteF_eq]
  try simp only [iteE_eq]
  try simp only [Int.toNat_natCast, Nat.zero_add, true_and, and_true, Nat.le_refl]
  refine ⟨fun hc => ?_, fun hc => ⟨pRowsEq fun _ _ => rfl, h2 (by omega)⟩⟩
  have hwr : IntKind.i64.wrap ((i : Int) + 1) = ((i + 1 : Nat) : Int) := by rw [w64 (by omega)]; omega
  exact ⟨by omega, by omega, by omega, by omega, fun k => by simp at k, fun _ => ⟨hwr, pRowsEq fun _ _ => rfl, h1 (by omega)⟩⟩
set_option maxRecDepth 100000 in
set_option maxHeartbeats 0 in
theorem cm_2 (s : ShS) (R : Nat → PendS) (i : Nat) (Z1 Z2 : Prop) (hn : s.n ≤ 20) (hs : s.Ok) (hR : ∀ j, j < s.n → R j = s.g j) (hi : i ≤ s.n) (h1 : i < s.n → Z1) (h2 : i = s.n → Z2) :
    roundE G0 20 3 2 0 (cm2 s R i) (rdM 0 2 9 (cm2 s R (i + 1)) (cmE s R) (cmE s R) (cmE s R) Z1 Z2 False False) := by
  refine @Eq.mpr _ (let q1 := s.n;
 let q2 := decide (0 ≤ (↑i : Int) ∧ (↑i : Int) < (↑q1 : Int));
 let q3 := 0 + Int.toNat (↑i : Int);
 let q4 := q1 + 1;
 let q5 := R q3;
 let q6 := q5.hash;
 let q7 := s.g (Int.toNat (↑i : Int));
 let q8 := q7.hash;
 let q9 := decide (s.num = s.num);
 let q10 := decide (s.owner = s.owner);
 let q11 := s.point = s.point;
 let q12 := [s.a0, s.a1];
 let q13 := q12 = q12;
 let q14 := decide (q1 = q1);
 let q15 := pRows s.g;
 let q16 := q15 = q15;
 let q17 := decide (q4 ≤ q4);
 let q18 := decide (q4 = q4);
 let q19 := RowsEq 0 [(2, 2), (1, 1), (0, 0)] q4 (pRows R) (pRows R);
 iteB (decide ((↑i : Int) < (↑q1 : Int))) (iteB q2 (iteB (decide (q3 < q4)) (iteB q2 (iteB (decide (List.length q6 = 32 ∧ List.length q8 = 32)) (iteB (!(q5.frm == q7.frm && (q5.id == q7.id && (q5.amount == q7.amount && (q6 == q8 && q5.expiry == q7.expiry))))) (iteB q9 (iteB q10 (q11 ∧ q13 ∧ iteB q14 (q16 ∧ iteB q14 (iteB q9 (iteB q10 (q11 ∧ q13 ∧ iteB q14 (iteB q17 (iteB q18 (q19 ∧ False) False) False) False) False) False) False) False) False) False) (iteB (decide (IntKind.wrap IntKind.i64 ((↑i : Int) + 1) = (↑(i + 1) : Int))) (iteB q9 (iteB q10 (q11 ∧ q13 ∧ iteB q14 (q16 ∧ iteB q14 (iteB q9 (iteB q10 (q11 ∧ q13 ∧ iteB q14 (iteB q17 (iteB q18 (q19 ∧ Z1) False) False) False) False) False) False) False) False) False) False)) False) False) False) False) (iteB q9 (iteB q10 (q11 ∧ q13 ∧ iteB q14 (q16 ∧ iteB q14 (iteB q9 (iteB q10 (q11 ∧ q13 ∧ iteB q14 (iteB q17 (iteB q18 (q19 ∧ Z2) False) False) False) False) False) False) False) False) False)) (by kernel_rfl) ?_
  conv => zeta
  try simp only [need_eq]
  try simp only [nope_eq]
  try simp only [iteD_eq]
  try simp only [iteT_eq]
  try simp only [iteF_eq]
  try simp only [iteE_eq]
  try simp only [Int.toNat_natCast, Nat.zero_add, true_and, and_true, Nat.le_refl]
  refine ⟨fun hc => ?_, fun hc => ⟨pRowsEq fun _ _ => rfl, h2 (by omega)⟩⟩
  have hwr : IntKind.i64.wrap ((i : Int) + 1) = ((i + 1 : Nat) : Int) := by rw [w64 (by omega)]; omega
  have hlt : i < s.n := by omega
  have h32 := (hs.g i hlt).hash
  rw [hR i hlt]
  exact ⟨by omega, by omega, by omega, ⟨h32, h32⟩, fun k => by simp at k, fun _ => ⟨hwr, pRowsEq fun _ _ => rfl, h1 hlt⟩⟩
def cmL0 (s : ShS) (R : Nat → PendS) (M : Nat) (X : List Int) : Nat → St → KE → Prop := goM 0 (cm0 s R M X 0) (s.n ≤ 20 ∧ M < 1000 ∧ X.length = M) (endsJ 0 M 9 (fun i => i < M) (fun i => i = M) (fun _ => False) (fun _ => False) (fun _ => cmE s R) (fun _ => cmE s R) (fun _ => cmE s R))
def cmL2 (s : ShS) (R : Nat → PendS) : Nat → St → KE → Prop := goM 0 (cm2 s R 0) (s.n ≤ 20 ∧ s.Ok ∧ ∀ j, j < s.n → R j = s.g j) (endsJ 2 s.n 9 (fun i => i < s.n) (fun i => i = s.n) (fun _ => False) (fun _ => False) (fun _ => cmE s R) (fun _ => cmE s R) (fun _ => cmE s R))
def comN (A : List Int → Int × Int) : FSumm := fun args h K => viewL none h true 20 args fun a => match a with
  | [.agg [.arr .u8 32 fu, .int .i64 ix, .int .i64 ca, .int .i64 du, .int .i64 fe, .int .i64 de, .arr .u8 32 k0, .arr .u8 32 k1], .agg l] => (TermS.Ok ⟨fu, ix, ca, du, fe, de, k0, k1⟩) ∧ ∃ s, isSh l s ∧ s.Ok ∧ s.n < 1000 ∧ shB A ⟨fu, ix, ca, du, fe, de, k0, k1⟩ s = false ∧ K (.ret (.tuple [.agg txZ, .int .i64 2])) h
  | _ => False
def comB (A : List Int → Int × Int) : FSumm := fun args h K => viewL none h true 20 args fun a => match a with
  | [.agg [.arr .u8 32 fu, .int .i64 ix, .int .i64 ca, .int .i64 du, .int .i64 fe, .int .i64 de, .arr .u8 32 k0, .arr .u8 32 k1], .agg l] => (TermS.Ok ⟨fu, ix, ca, du, fe, de, k0, k1⟩) ∧ ∃ s, isSh l s ∧ s.Ok ∧ s.n < 1000 ∧ shB A ⟨fu, ix, ca, du, fe, de, k0, k1⟩ s = true ∧ (osAll ⟨fu, ix, ca, du, fe, de, k0, k1⟩ s).length = 0 ∧ K (.ret (.tuple [.agg txZ, .int .i64 180])) h
  | _ => False
def comY (A : List Int → Int × Int) : FSumm := fun args h K => viewL none h true 20 args fun a => match a with
  | [.agg [.arr .u8 32 fu, .int .i64 ix, .int .i64 ca, .int .i64 du, .int .i64 fe, .int .i64 de, .arr .u8 32 k0, .arr .u8 32 k1], .agg l] => (TermS.Ok ⟨fu, ix, ca, du, fe, de, k0, k1⟩) ∧ ∃ s n L, isSh l s ∧ s.Ok ∧ s.n < 1000 ∧ shB A ⟨fu, ix, ca, du, fe, de, k0, k1⟩ s = true ∧ (L = sortM (osAll ⟨fu, ix, ca, du, fe, de, k0, k1⟩ s) ∧ n = L.length ∧ n ≠ 0) ∧ K (.ret (.tuple [.agg [.int .i64 s.num, .nslice ⟨h.next, 0, 0, 0, 0⟩ 130 1 1, .nslice ⟨h.next + 1, 0, 132, 0, 0⟩ 132 n n], .int .i64 0])) ⟨h.next + 2, (h.next, .flat (InS.c ⟨fu, ix, 1, zero32, zero32, zero32⟩)) :: (h.next + 1, .rows 132 n (outRows (mOuts L))) :: h.bs⟩
  | _ => False
theorem comN_imp {A : List Int → Int × Int} {args : List AV} {h : Heap} {K : KO} (hl : comN A args h K) : coF A args h K := viewL_weak _ _ _ _ _ hl fun a ha => by
  split at ha
  · obtain ⟨ht, s, hs, ho, hn, hb, hK⟩ := ha
    exact ⟨ht, s, hs, ho, hn, fun _ => hK, fun h => by rw [hb] at h; cases h⟩
  · exact ha.elim
theorem comB_imp {A : List Int → Int × Int} {args : List AV} {h : Heap} {K : KO} (hl : comB A args h K) : coF A args h K := viewL_weak _ _ _ _ _ hl fun a ha => by
  split at ha
  · obtain ⟨ht, s, hs, ho, hn, hb, h0, hK⟩ := ha
    exact ⟨ht, s, hs, ho, hn, (fun h => by rw [hb] at h; cases h), fun _ => ⟨fun _ => hK, fun n L e1 e2 e3 => absurd (by rw [e2, e1, sortM_len]; exact h0) e3⟩⟩
  · exact ha.elim
theorem comY_imp {A : List Int → Int × Int} {args : List AV} {h : Heap} {K : KO} (hl : comY A args h K) : coF A args h K := viewL_weak _ _ _ _ _ hl fun a ha => by
  split at ha
  · obtain ⟨ht, s, n, L, hs, ho, hn, hb, ⟨e1, e2, e3⟩, hK⟩ := ha
    exact ⟨ht, s, hs, ho, hn, (fun h => by rw [hb] at h; cases h), fun _ => ⟨fun h0 => absurd (by rw [e2, e1, sortM_len]; exact h0) e3, fun n' L' f1 f2 _ => by rw [f2, f1, ← e1, ← e2]; exact hK⟩⟩
  · exact ha.elim
def plcN (A : List Int → Int × Int) : FSumm := fun args h K => viewL none h true 20 args fun a => match a with
  | [.agg [.arr .u8 32 fu, .int .i64 ix, .int .i64 ca, .int .i64 du, .int .i64 fe, .int .i64 de, .arr .u8 32 k0, .arr .u8 32 k1], .agg l] => (TermS.Ok ⟨fu, ix, ca, du, fe, de, k0, k1⟩) ∧ ∃ s, isSh l s ∧ s.Ok ∧ s.n < 1000 ∧ shB A ⟨fu, ix, ca, du, fe, de, k0, k1⟩ s = false ∧ K (.ret (.tuple [.nilslice, .int .i64 0, .int .i64 0, .int .i64 2])) h
  | _ => False
def plcB (A : List Int → Int × Int) : FSumm := fun args h K => viewL none h true 20 args fun a => match a with
  | [.agg [.arr .u8 32 fu, .int .i64 ix, .int .i64 ca, .int .i64 du, .int .i64 fe, .int .i64 de, .arr .u8 32 k0, .arr .u8 32 k1], .agg l] => (TermS.Ok ⟨fu, ix, ca, du, fe, de, k0, k1⟩) ∧ ∃ s, isSh l s ∧ s.Ok ∧ s.n < 1000 ∧ shB A ⟨fu, ix, ca, du, fe, de, k0, k1⟩ s = true ∧ (osAll ⟨fu, ix, ca, du, fe, de, k0, k1⟩ s).length = 0 ∧ K (.ret (.tuple [.nilslice, .int .i64 0, .int .i64 0, .int .i64 180])) h
  | _ => False
def plcY (A : List Int → Int × Int) : FSumm := fun args h K => viewL none h true 20 args fun a => match a with
  | [.agg [.arr .u8 32 fu, .int .i64 ix, .int .i64 ca, .int .i64 du, .int .i64 fe, .int .i64 de, .arr .u8 32 k0, .arr .u8 32 k1], .agg l] => (TermS.Ok ⟨fu, ix, ca, du, fe, de, k0, k1⟩) ∧ ∃ s n m L X a b, isSh l s ∧ s.Ok ∧ s.n < 1000 ∧ shB A ⟨fu, ix, ca, du, fe, de, k0, k1⟩ s = true ∧ (L = sortM (osAll ⟨fu, ix, ca, du, fe, de, k0, k1⟩ s) ∧ n = L.length ∧ n ≠ 0 ∧ m = s.n ∧ X = plX L n m ∧ a = plN L (-1) n ∧ b = plN L (-2) n) ∧ K (.ret (.tuple [.nslice ⟨h.next, 0, 0, 0, 0⟩ 1 m m, .int .i64 a, .int .i64 b, .int .i64 0])) ⟨h.next + 1, (h.next, .ints .i64 X) :: h.bs⟩
  | _ => False
theorem plcN_imp {A : List Int → Int × Int} {args : List AV} {h : Heap} {K : KO} (hl : plcN A args h K) : plcF A args h K := viewL_weak _ _ _ _ _ hl fun a ha => by
  split at ha
  · obtain ⟨ht, s, hs, ho, hn, hb, hK⟩ := ha
    exact ⟨ht, s, hs, ho, hn, fun _ => hK, fun h => by rw [hb] at h; cases h⟩
  · exact ha.elim
theorem plcB_imp {A : List Int → Int × Int} {args : List AV} {h : Heap} {K : KO} (hl : plcB A args h K) : plcF A args h K := viewL_weak _ _ _ _ _ hl fun a ha => by
  split at ha
  · obtain ⟨ht, s, hs, ho, hn, hb, h0, hK⟩ := ha
    exact ⟨ht, s, hs, ho, hn, (fun h => by rw [hb] at h; cases h), fun _ => ⟨fun _ => hK, fun n m L X a b e1 e2 e3 => absurd (by rw [e2, e1, sortM_len]; exact h0) e3⟩⟩
  · exact ha.elim
theorem plcY_imp {A : List Int → Int × Int} {args : List AV} {h : Heap} {K : KO} (hl : plcY A args h K) : plcF A args h K := viewL_weak _ _ _ _ _ hl fun a ha => by
  split at ha
  · obtain ⟨ht, s, n, m, L, X, a, b, hs, ho, hn, hb, ⟨e1, e2, e3, e4, e5, e6, e7⟩, hK⟩ := ha
    exact ⟨ht, s, hs, ho, hn, (fun h => by rw [hb] at h; cases h), fun _ => ⟨fun h0 => absurd (by rw [e2, e1, sortM_len]; exact h0) e3, fun n' m' L' X' a' b' f1 f2 _ f4 f5 f6 f7 => by rw [f7, f6, f5, f4, f2, f1, ← e1, ← e2, ← e4, ← e5, ← e6, ← e7]; exact hK⟩⟩
  · exact ha.elim
noncomputable def E105 (A : List Int → Int × Int) (F : TxS → TxS → Bool) (s : ShS) (R : Nat → PendS) (M : Nat) (X : List Int) (C P : FSumm) : Env2 := (((((((((G0.withP 8 works8S).withP 16 (sametS F)).withP 15 (shF A)).withP 13 (shrF A)).withF 9 C).withF 11 C).withF 10 P).withF 12 P).withL 3 0 (cmL0 s R M X)).withL 3 2 (cmL2 s R)
theorem E105_ok (s : ShS) (R : Nat → PendS) (M : Nat) (X : List Int) {C P : FSumm} (hC : ∀ args h K, C args h K → coF addM args h K) (hP : ∀ args h K, P args h K → plcF addM args h K) : (E105 addM sameT s R M X C P).Ok := by
  have h0 : ((((((((G0.withP 8 works8S).withP 16 (sametS sameT)).withP 15 (shF addM)).withP 13 (shrF addM)).withF 9 C).withF 11 C).withF 10 P).withF 12 P).Ok :=
    Env2.withF_ok (Env2.withF_ok (Env2.withF_ok (Env2.withF_ok (Env2.withP_ok (Env2.withP_ok (Env2.withP_ok (Env2.withP_ok G0_ok works8_ok) samer_ok) shF_ok) shrF_ok) (fun a h K hl => coF_ok a h K (hC a h K hl))) (fun a h K hl => corF_ok a h K (hC a h K hl))) (fun a h K hl => plcF_ok a h K (hP a h K hl))) (fun a h K hl => plcrF_ok a h K (hP a h K hl))
  have h1 := Env2.withL_join (H := G0) (S := cmL0 s R M X) h0 rfl (Env2.withGoM (f := 3) (id := 0) (N := 20) (S := fun i => cm0 s R M X i) G0_ok (by kernel_rfl) fun hC => ⟨rfl, fun i hi _ => cm_0 s R M X i _ _ hC.1 hC.2.1 hC.2.2 hi (fun h => ⟨h, h⟩) (fun h => h)⟩)
  refine Env2.withL_join (H := G0) h1 rfl ?_
  exact Env2.withGoM (N := 20) (S := fun i => cm2 s R i) G0_ok (by kernel_rfl) fun hC => ⟨rfl, fun i hi _ => cm_2 s R i _ _ hC.1 hC.2.1 hC.2.2 hi (fun h => ⟨h, h⟩) (fun h => h)⟩
end Go.Tk
end
section
namespace Go.Tk
structure CmC (s : ShS) (R : Nat → PendS) : Prop where
  n20 : s.n ≤ 20
  hs : s.Ok
  hR : ∀ j, j < s.n → R j = s.g j
  hE : R s.n = p77
def cmJ (t : TermS) (s : ShS) (R : Nat → PendS) (e ow ot : Int) (P Q : AV) (T1 T2 : List AV) (nx : Nat) (bs : List (Nat × Blk)) (tl : Tmps) : St := ⟨160, (2, .ptr (some ⟨0, 0, 0, 0, 0⟩)) :: (3, .ptr (some ⟨1, 0, 0, 0, 0⟩)) :: (5, .ptr (some ⟨2, 0, 0, 0, 0⟩)) :: (6, .ptr (some ⟨4, 0, 0, 0, 0⟩)) :: (7, .int .i64 e) :: (8, P) :: (9, .int .i64 ow) :: (10, .int .i64 ot) :: (11, .int .i64 e) :: (12, .ptr (some ⟨5, 0, 0, 0, 0⟩)) :: (13, .int .i64 e) :: (14, Q) :: (15, .int .i64 ow) :: (16, .int .i64 ot) :: (17, .int .i64 e) :: tl,
  ⟨nx, (0, .flat t.c) :: (1, .flat s.c) :: (2, .flat (cmB s 3)) :: (3, .rows 36 (s.n + 1) (pRows R)) :: (4, .flat T1) :: (5, .flat T2) :: bs⟩, []⟩
def cmN (t : TermS) (s : ShS) (R : Nat → PendS) (e : Int) (tl : Tmps) : St := cmJ t s R e 0 0 .nilslice .nilslice txZ txZ 6 [] tl
def cmY (t : TermS) (s : ShS) (R : Nat → PendS) (n M : Nat) (L : List MadeS) (X : List Int) (ow ot : Int) (tl : Tmps) : St := cmJ t s R 0 ow ot (.nslice ⟨10, 0, 0, 0, 0⟩ 1 M M) (.nslice ⟨11, 0, 0, 0, 0⟩ 1 M M) [.int .i64 s.num, .nslice ⟨6, 0, 0, 0, 0⟩ 130 1 1, .nslice ⟨7, 0, 132, 0, 0⟩ 132 n n] [.int .i64 s.num, .nslice ⟨8, 0, 0, 0, 0⟩ 130 1 1, .nslice ⟨9, 0, 132, 0, 0⟩ 132 n n] 12
  [(6, .flat (InS.c (inOf t))), (7, .rows 132 n (outRows (mOuts L))), (8, .flat (InS.c (inOf t))), (9, .rows 132 n (outRows (mOuts L))), (10, .ints .i64 X), (11, .ints .i64 X)] tl
set_option maxRecDepth 100000 in
set_option maxHeartbeats 0 in
theorem cmj_N (t : TermS) (s : ShS) (R : Nat → PendS) (e r : Int) (b : Bool) (hr : r = if b = true then 0 else 2) :
    codeE G0 20 3 100068 0 (cmN t s R e [(18, .int .i64 2), (68, .bool b)]) (jnM 0 (cmN t s R e [(18, .int .i64 r)])) := by
  refine @Eq.mpr _ (let q1 := decide (e = e);
 let q2 := decide (s.num = s.num);
 let q3 := decide (s.owner = s.owner);
 let q4 := s.point = s.point;
 let q5 := [s.a0, s.a1];
 let q6 := q5 = q5;
 let q7 := s.n;
 let q8 := decide (q7 = q7);
 let q9 := pRows s.g;
 let q10 := q7 + 1;
 let q11 := t.fund = t.fund ∧ iteB (decide (t.index = t.index)) (iteB (decide (t.cap = t.cap)) (iteB (decide (t.dust = t.dust)) (iteB (decide (t.fee = t.fee)) (iteB (decide (t.delay = t.delay)) (t.k0 = t.k0 ∧ t.k1 = t.k1 ∧ iteB q2 (iteB q3 (q4 ∧ q6 ∧ iteB q8 (q9 = q9 ∧ iteB q8 (iteB q2 (iteB q3 (q4 ∧ q6 ∧ iteB q8 (iteB (decide (q10 ≤ q10)) (iteB (decide (q10 = q10)) (RowsEq 0 [(3, 3), (5, 5), (4, 4), (2, 2), (1, 1), (0, 0)] q10 (pRows R) (pRows R) ∧ True) False) False) False) False) False) False) False) False) False) False) False) False) False) False;
 iteB b (iteB q1 (iteB q1 (iteB q1 (iteB q1 (iteB (decide (0 = r)) q11 False) False) False) False) False) (iteB q1 (iteB q1 (iteB q1 (iteB q1 (iteB (decide (2 = r)) q11 False) False) False) False) False)) (by kernel_rfl) ?_
  conv => zeta
  try simp only [need_eq]
  try simp only [nope_eq]
  try simp only [iteD_eq]
  try simp only [iteT_eq]
  try simp only [iteF_eq]
  try simp only [iteE_eq]
  try simp only [Int.toNat_natCast, Nat.zero_add, true_and, and_true, Nat.le_refl]
  exact ⟨fun h => ⟨by rw [hr, if_pos h], pRowsEq fun _ _ => rfl⟩, fun h => ⟨by rw [hr, h]; rfl, pRowsEq fun _ _ => rfl⟩⟩
set_option maxRecDepth 100000 in
set_option maxHeartbeats 0 in
theorem cmj_Y (t : TermS) (s : ShS) (R : Nat → PendS) (n M : Nat) (L : List MadeS) (X : List Int) (ow ot r : Int) (b : Bool) (hr : r = if b = true then 0 else 2) :
    codeE G0 20 3 100068 0 (cmY t s R n M L X ow ot [(18, .int .i64 2), (68, .bool b)]) (jnM 0 (cmY t s R n M L X ow ot [(18, .int .i64 r)])) := by
  refine @Eq.mpr _ (let q1 := decide (M = M);
 let q2 := decide (M ≤ M);
 let q3 := decide (ow = ow);
 let q4 := decide (ot = ot);
 let q5 := decide (s.num = s.num);
 let q6 := decide (s.owner = s.owner);
 let q7 := s.point = s.point;
 let q8 := [s.a0, s.a1];
 let q9 := q8 = q8;
 let q10 := s.n;
 let q11 := decide (q10 = q10);
 let q12 := pRows s.g;
 let q13 := q10 + 1;
 let q14 := [(9, 9), (8, 8), (7, 7), (6, 6), (3, 3), (11, 11), (5, 5), (10, 10), (4, 4), (2, 2), (1, 1), (0, 0)];
 let q15 := decide (n = n);
 let q16 := decide (n ≤ n);
 let q17 := inOf t;
 let q18 := q17.name;
 let q19 := q18 = q18;
 let q20 := q17.index;
 let q21 := decide (q20 = q20);
 let q22 := q17.tag;
 let q23 := q22 = q22;
 let q24 := q17.also;
 let q25 := q24 = q24;
 let q26 := q17.secret;
 let q27 := q26 = q26;
 let q28 := outRows (mOuts L);
 let q29 := RowsEq 0 q14 n q28 q28;
 let q30 := t.fund = t.fund ∧ iteB (decide (t.index = t.index)) (iteB (decide (t.cap = t.cap)) (iteB (decide (t.dust = t.dust)) (iteB (decide (t.fee = t.fee)) (iteB (decide (t.delay = t.delay)) (t.k0 = t.k0 ∧ t.k1 = t.k1 ∧ iteB q5 (iteB q6 (q7 ∧ q9 ∧ iteB q11 (q12 = q12 ∧ iteB q11 (iteB q5 (iteB q6 (q7 ∧ q9 ∧ iteB q11 (iteB (decide (q13 ≤ q13)) (iteB (decide (q13 = q13)) (RowsEq 0 q14 q13 (pRows R) (pRows R) ∧ iteB q5 (iteB q15 (iteB q16 (iteB q5 (iteB q15 (iteB q16 (q19 ∧ iteB q21 (q23 ∧ q25 ∧ q27 ∧ iteB q15 (q29 ∧ q19 ∧ iteB q21 (q23 ∧ q25 ∧ q27 ∧ iteB q15 (q29 ∧ X = X ∧ X = X ∧ True) False) False) False) False) False) False) False) False) False) False) False) False) False) False) False) False) False) False) False) False) False) False) False) False;
 iteB b (iteB q1 (iteB q2 (iteB q3 (iteB q4 (iteB q1 (iteB q2 (iteB q3 (iteB q4 (iteB (decide (0 = r)) q30 False) False) False) False) False) False) False) False) False) (iteB q1 (iteB q2 (iteB q3 (iteB q4 (iteB q1 (iteB q2 (iteB q3 (iteB q4 (iteB (decide (2 = r)) q30 False) False) False) False) False) False) False) False) False)) (by kernel_rfl) ?_
  conv => zeta
  try simp only [need_eq]
  try simp only [nope_eq]
  try simp only [iteD_eq]
  try simp only [iteT_eq]
  try simp only [iteF_eq]
  try simp only [iteE_eq]
  try simp only [Int.toNat_natCast, Nat.zero_add, true_and, and_true, Nat.le_refl]
  exact ⟨fun h => ⟨by rw [hr, if_pos h], pRowsEq fun _ _ => rfl, outRowsEq fun _ _ => rfl, outRowsEq fun _ _ => rfl⟩, fun h => ⟨by rw [hr, h]; rfl, pRowsEq fun _ _ => rfl, outRowsEq fun _ _ => rfl, outRowsEq fun _ _ => rfl⟩⟩
def cmJN (t : TermS) (s : ShS) (R : Nat → PendS) (e r : Int) (b : Bool) : Nat → St → KE → Prop := joinM 0 (cmN t s R e [(18, .int .i64 2), (68, .bool b)]) (cmN t s R e [(18, .int .i64 r)]) (r = if b = true then 0 else 2)
def cmJY (t : TermS) (s : ShS) (R : Nat → PendS) (n M : Nat) (L : List MadeS) (X : List Int) (ow ot r : Int) (b : Bool) : Nat → St → KE → Prop := joinM 0 (cmY t s R n M L X ow ot [(18, .int .i64 2), (68, .bool b)]) (cmY t s R n M L X ow ot [(18, .int .i64 r)]) (r = if b = true then 0 else 2)
noncomputable def E106 (A : List Int → Int × Int) (F : TxS → TxS → Bool) (s : ShS) (R : Nat → PendS) (M : Nat) (X : List Int) (C P : FSumm) (J : Nat → St → KE → Prop) : Env2 := (E105 A F s R M X C P).withL 3 100068 J
theorem E106N_ok (t : TermS) (s : ShS) (R : Nat → PendS) (M : Nat) (X : List Int) {C P : FSumm} (hC : ∀ args h K, C args h K → coF addM args h K) (hP : ∀ args h K, P args h K → plcF addM args h K) (e r : Int) (b : Bool) : (E106 addM sameT s R M X C P (cmJN t s R e r b)).Ok :=
  Env2.withL_join (H := G0) (E105_ok s R M X hC hP) rfl (Env2.withJ (N := 20) G0_ok (by kernel_rfl) fun h => cmj_N t s R e r b h)
theorem E106Y_ok (t : TermS) (s : ShS) (R : Nat → PendS) (M : Nat) (X : List Int) {C P : FSumm} (hC : ∀ args h K, C args h K → coF addM args h K) (hP : ∀ args h K, P args h K → plcF addM args h K) (n : Nat) (L : List MadeS) (ow ot r : Int) (b : Bool) : (E106 addM sameT s R M X C P (cmJY t s R n M L X ow ot r b)).Ok :=
  Env2.withL_join (H := G0) (E105_ok s R M X hC hP) rfl (Env2.withJ (N := 20) G0_ok (by kernel_rfl) fun h => cmj_Y t s R n M L X ow ot r b h)
end Go.Tk
end
section
namespace Go.Tk
def cmW (s : ShS) : Nat → List AV := catF s.n (catF 0 (fun _ => []) (pRows s.g)) (rowC [.int .i64 0, .int .i64 77, .int .i64 0, .arr .u8 32 zero32, .int .i64 0] 0 36)
theorem cmW_lt (s : ShS) {i : Nat} (h : i < s.n) : cmW s i = (s.g i).c := by
  unfold cmW
  rw [catF_lt h, catF_ge (Nat.zero_le _)]
  rfl
theorem cmW_eq {s : ShS} {R : Nat → PendS} (h : CmC s R) {i : Nat} (hi : i < s.n + 1) : cmW s i = (R i).c := by
  rcases Nat.lt_or_ge i s.n with h1 | h1
  · rw [cmW_lt s h1, h.hR i h1]
  · have e : i = s.n := by omega
    subst e
    rw [h.hE]
    unfold cmW
    rw [catF_ge (Nat.le_refl _), Nat.sub_self]
    rfl
set_option maxRecDepth 100000 in
set_option maxHeartbeats 0 in
theorem cmk_0 (s : ShS) (t : TermS) (hn : ¬ s.n ≤ 20) :
    evF ((G0.withP 8 works8S).withF 9 noF) 20 3 [.agg t.c, .agg s.c] ⟨0, []⟩ (outV (fun v => v = .bool true)) := by
  refine @Eq.mpr _ (let q1 := s.n;
 let q2 := (↑q1 : Int);
 let q3 := decide (q2 = q2);
 let q4 := decide (q1 = q1);
 let q5 := pRows s.g;
 let q6 := q5 = q5;
 let q7 := 0 + q1;
 let q8 := decide (q7 * 64 ≤ 140737488355328);
 let q9 := q7 + 1;
 let q10 := iteB q3 (iteB q4 (q6 ∧ iteB q4 (iteB (decide (q7 = q7)) (iteB (decide (q9 * 64 ≤ 140737488355328)) (iteB q3 (iteB q4 (q6 ∧ iteB q4 (iteB (decide (q9 ≤ q9)) (iteB (decide (0 ≤ q2 ∧ q2 ≤ (↑q9 : Int))) False False) False) False) False) False) False) False) False) False) False;
 let q11 := iteB q3 (iteB q4 (q6 ∧ iteB q4 (iteB q4 (q6 ∧ iteB q4 (iteB q8 q10 False) False) False) False) False) False;
 iteB (!decide (q2 ≤ 20)) (AV.bool true = AV.bool true) (iteB q3 (iteB q4 (q6 ∧ iteB q4 (iteB q4 (q6 ∧ iteB q4 (iteB q8 (iteB q3 (iteB q4 (q6 ∧ iteB q4 q10 False) False) False) False ∧ q11) False) False) False) False) False ∧ iteB q3 (iteB q4 (q6 ∧ iteB q4 (iteB q4 (q6 ∧ iteB q4 q11 False) False) False) False) False)) (by kernel_rfl) ?_
  conv => zeta
  try simp only [need_eq]
  try simp only [nope_eq]
  try simp only [iteD_eq]
  try simp only [iteT_eq]
  try simp only [iteF_eq]
  try simp only [iteE_eq]
  try simp only [Int.toNat_natCast, Nat.zero_add, true_and, and_true, Nat.le_refl]
  exact ⟨fun _ => trivial, fun h => absurd (by simpa using h) (show ¬ (s.n : Int) ≤ 20 by omega)⟩
set_option maxRecDepth 100000 in
set_option maxHeartbeats 0 in
theorem cmk_N (A : List Int → Int × Int) (F : TxS → TxS → Bool) (t : TermS) (s : ShS) (R : Nat → PendS) (M : Nat) (X : List Int) (r : Int) (b : Bool) (ht : t.Ok) (hC : CmC s R) (hF : F = sameT) (hM : M = 0) (hX : X = []) (hsb : shB A t s = false) (hb : b = false) (hr : r = 2) :
    evF (E106 A F s R M X (comN A) (plcN A) (cmJN t s R 2 r b)) 20 3 [.agg t.c, .agg s.c] ⟨0, []⟩ (outV (fun v => v = .bool true)) := by
  refine @Eq.mpr _ (iteB (!decide ((↑s.n : Int) ≤ 20)) (AV.bool true = AV.bool true)
 (iteB (decide ((↑s.n : Int) = (↑s.n : Int)))
 (iteB (decide (s.n = s.n))
 (pRows s.g = pRows s.g ∧
 iteB (decide (s.n = s.n))
 (iteB (decide (s.n = s.n))
 (pRows s.g = pRows s.g ∧
 iteB (decide (s.n = s.n))
 (iteB (decide ((0 + s.n) * 64 ≤ 140737488355328))
 (iteB (decide ((↑s.n : Int) = (↑s.n : Int)))
 (iteB (decide (s.n = s.n))
 (pRows s.g = pRows s.g ∧
 iteB (decide (s.n = s.n))
 (iteB (decide ((↑s.n : Int) = (↑s.n : Int)))
 (iteB (decide (s.n = s.n))
 (pRows s.g = pRows s.g ∧
 iteB (decide (s.n = s.n))
 (iteB (decide (0 + s.n = 0 + s.n))
 (iteB (decide ((0 + s.n + 1) * 64 ≤ 140737488355328))
 (iteB (decide ((↑s.n : Int) = (↑s.n : Int)))
 (iteB (decide (s.n = s.n))
 (pRows s.g = pRows s.g ∧
 iteB (decide (s.n = s.n))
 (iteB (decide (0 + s.n + 1 ≤ 0 + s.n + 1))
 (iteB (decide (0 ≤ (↑s.n : Int) ∧ (↑s.n : Int) ≤ (↑(0 + s.n + 1) : Int)))
 (iteB (decide (0 + subO (Int.toNat (↑s.n : Int)) none ≤ 0 + s.n + 1))
 ((∀ (i : Nat), i < subO (Int.toNat (↑s.n : Int)) none → plainC (shiftZ 0 (catF (0 + s.n) (catF 0 (fun (x : Nat) => []) (pRows s.g)) (rowC [AV.int IntKind.i64 0, AV.int IntKind.i64 77, AV.int IntKind.i64 0, AV.arr IntKind.u8 32 zero32, AV.int IntKind.i64 0] 0 36)) i) = true) ∧
 TermS.Ok (TermS.mk t.fund t.index t.cap t.dust t.fee t.delay t.k0 t.k1) ∧
 ∃ (s_1 : ShS),
 ((s_1.num = s.num ∧ s_1.owner = s.owner ∧ s_1.point = s.point ∧ [s.a0, s.a1] = [s_1.a0, s_1.a1]) ∧ (subO (Int.toNat (↑s.n : Int)) none = subO (Int.toNat (↑s.n : Int)) none ∧ s_1.n = subO (Int.toNat (↑s.n : Int)) none) ∧ ∀ (i : Nat), i < subO (Int.toNat (↑s.n : Int)) none → shiftZ 0 (catF (0 + s.n) (catF 0 (fun (x : Nat) => []) (pRows s.g)) (rowC [AV.int IntKind.i64 0, AV.int IntKind.i64 77, AV.int IntKind.i64 0, AV.arr IntKind.u8 32 zero32, AV.int IntKind.i64 0] 0 36)) i = PendS.c (s_1.g i)) ∧
 ShS.Ok s_1 ∧
 s_1.n < 1000 ∧
 shB A (TermS.mk t.fund t.index t.cap t.dust t.fee t.delay t.k0 t.k1) s_1 = false ∧
 iteB (decide (0 + subO (Int.toNat (↑s.n : Int)) none ≤ 0 + s.n + 1))
 ((∀ (i : Nat), i < subO (Int.toNat (↑s.n : Int)) none → plainC (shiftZ 0 (catF (0 + s.n) (catF 0 (fun (x : Nat) => []) (pRows s.g)) (rowC [AV.int IntKind.i64 0, AV.int IntKind.i64 77, AV.int IntKind.i64 0, AV.arr IntKind.u8 32 zero32, AV.int IntKind.i64 0] 0 36)) i) = true) ∧
 TermS.Ok (TermS.mk t.fund t.index t.cap t.dust t.fee t.delay t.k0 t.k1) ∧
 ∃ (s_2 : ShS),
 ((s_2.num = s.num ∧ s_2.owner = s.owner ∧ s_2.point = s.point ∧ [s.a0, s.a1] = [s_2.a0, s_2.a1]) ∧ (subO (Int.toNat (↑s.n : Int)) none = subO (Int.toNat (↑s.n : Int)) none ∧ s_2.n = subO (Int.toNat (↑s.n : Int)) none) ∧ ∀ (i : Nat), i < subO (Int.toNat (↑s.n : Int)) none → shiftZ 0 (catF (0 + s.n) (catF 0 (fun (x : Nat) => []) (pRows s.g)) (rowC [AV.int IntKind.i64 0, AV.int IntKind.i64 77, AV.int IntKind.i64 0, AV.arr IntKind.u8 32 zero32, AV.int IntKind.i64 0] 0 36)) i = PendS.c (s_2.g i)) ∧
 ShS.Ok s_2 ∧
 s_2.n < 1000 ∧
 shB A (TermS.mk t.fund t.index t.cap t.dust t.fee t.delay t.k0 t.k1) s_2 = false ∧
 TermS.Ok (TermS.mk t.fund t.index t.cap t.dust t.fee t.delay t.k0 t.k1) ∧
 ∃ (s_3 : ShS),
 ((s_3.num = s.num ∧ s_3.owner = s.owner ∧ s_3.point = s.point ∧ [s.a0, s.a1] = [s_3.a0, s_3.a1]) ∧ (s.n = s.n ∧ s_3.n = s.n) ∧ ∀ (i : Nat), i < s.n → pRows s.g i = PendS.c (s_3.g i)) ∧
 ShS.Ok s_3 ∧
 s_3.n < 1000 ∧
 shB A (TermS.mk t.fund t.index t.cap t.dust t.fee t.delay t.k0 t.k1) s_3 = false ∧
 TermS.Ok (TermS.mk t.fund t.index t.cap t.dust t.fee t.delay t.k0 t.k1) ∧
 ∃ (s_4 : ShS),
 ((s_4.num = s.num ∧ s_4.owner = s.owner ∧ s_4.point = s.point ∧ [s.a0, s.a1] = [s_4.a0, s_4.a1]) ∧ (s.n = s.n ∧ s_4.n = s.n) ∧ ∀ (i : Nat), i < s.n → pRows s.g i = PendS.c (s_4.g i)) ∧
 ShS.Ok s_4 ∧
 s_4.n < 1000 ∧
 shB A (TermS.mk t.fund t.index t.cap t.dust t.fee t.delay t.k0 t.k1) s_4 = false ∧
 TermS.Ok (TermS.mk t.fund t.index t.cap t.dust t.fee t.delay t.k0 t.k1) ∧
 ∃ (s_5 : ShS),
 ((s_5.num = s.num ∧ s_5.owner = s.owner ∧ s_5.point = s.point ∧ [s.a0, s.a1] = [s_5.a0, s_5.a1]) ∧ (s.n = s.n ∧ s_5.n = s.n) ∧ ∀ (i : Nat), i < s.n → pRows s.g i = PendS.c (s_5.g i)) ∧
 s_5.n < 1000 ∧
 iteB (decide (shB A (TermS.mk t.fund t.index t.cap t.dust t.fee t.delay t.k0 t.k1) s_5 = b))
 (t.fund = t.fund ∧
 iteB (decide (t.index = t.index))
 (iteB (decide (t.cap = t.cap))
 (iteB (decide (t.dust = t.dust))
 (iteB (decide (t.fee = t.fee))
 (iteB (decide (t.delay = t.delay))
 (t.k0 = t.k0 ∧
 t.k1 = t.k1 ∧
 iteB (decide (s.num = s.num))
 (iteB (decide (s.owner = s.owner))
 (s.point = s.point ∧
 [s.a0, s.a1] = [s.a0, s.a1] ∧
 iteB (decide (s.n = s.n))
 (pRows s.g = pRows s.g ∧
 iteB (decide (s.n = s.n))
 (iteB (decide (s.num = s.num))
 (iteB (decide (s.owner = s.owner))
 (s.point = s.point ∧
 [s.a0, s.a1] = [s.a0, s.a1] ∧
 iteB (decide (subO (Int.toNat (↑s.n : Int)) none = s.n))
 (iteB (decide (s.n + 1 ≤ subO (0 + s.n + 1) none))
 (iteB (decide (0 + s.n + 1 = s.n + 1))
 (RowsEq 0 [(3, 6), (5, 8), (4, 7), (2, 3), (1, 1), (0, 0)] (s.n + 1) (pRows R) (catF (0 + s.n) (catF 0 (fun (x : Nat) => []) (pRows s.g)) (rowC [AV.int IntKind.i64 0, AV.int IntKind.i64 77, AV.int IntKind.i64 0, AV.arr IntKind.u8 32 zero32, AV.int IntKind.i64 0] 0 36)) ∧
 (r = if b = true then 0 else 2) ∧
 iteB (decide (0 + s.n ≤ s.n + 1))
 ((∀ (i : Nat), i < s.n → true = true) ∧
 TermS.Ok (TermS.mk t.fund t.index t.cap t.dust t.fee t.delay t.k0 t.k1) ∧
 ∃ (s_6 : ShS),
 ((s_6.num = s.num ∧ s_6.owner = s.owner ∧ s_6.point = s.point ∧ [s.a0, s.a1] = [s_6.a0, s_6.a1]) ∧ (s.n = s.n ∧ s_6.n = s.n) ∧ ∀ (i : Nat), i < s.n → [AV.int IntKind.i64 (R i).frm, AV.int IntKind.i64 (R i).id, AV.int IntKind.i64 (R i).amount, AV.arr IntKind.u8 32 (R i).hash, AV.int IntKind.i64 (R i).expiry] = PendS.c (s_6.g i)) ∧
 s_6.n < 1000 ∧
 iteB ((if shB A (TermS.mk t.fund t.index t.cap t.dust t.fee t.delay t.k0 t.k1) s_6 = true then 0 else 2) != r) (AV.bool false = AV.bool true)
 (∃ (a : TxS),
 ∃ (b : TxS),
 (a.num = 0 ∧ a.N = 0 ∧ a.M = 0) ∧
 (b.num = 0 ∧ b.N = 0 ∧ b.M = 0) ∧
 (TxS.Ok a ∧ TxS.Ok b) ∧
 iteB (!F a b) (AV.bool false = AV.bool true)
 (iteB (decide (M = 0))
 (iteB (decide (M = 0))
 (iteB (decide (M = 0))
 (iteB (decide (M = 0))
 (iteB (decide (s.num = s.num))
 (iteB (decide (s.owner = s.owner))
 (s.point = s.point ∧
 [s.a0, s.a1] = [s.a0, s.a1] ∧
 iteB (decide (s.n = s.n))
 (pRows s.g = pRows s.g ∧
 iteB (decide (s.n = s.n))
 (iteB (decide (s.num = s.num))
 (iteB (decide (s.owner = s.owner))
 (s.point = s.point ∧
 [s.a0, s.a1] = [s.a0, s.a1] ∧
 iteB (decide (s.n = s.n))
 (iteB (decide (s.n + 1 ≤ s.n + 1))
 (iteB (decide (s.n + 1 = s.n + 1))
 (RowsEq 0 [(2, 3), (1, 2), (0, 1)] (s.n + 1) (pRows R) (pRows R) ∧
 X = [] ∧
 X = [] ∧
 (s.n ≤ 20 ∧ M < 1000 ∧ List.length X = M) ∧
 ∀ (i : Nat),
 i ≤ M →
 (∀ (j : Nat), j < i → (fun (i : Nat) => i < M) j) →
 (i = M →
 iteB (decide (s.num = s.num))
 (iteB (decide (s.owner = s.owner))
 (s.point = s.point ∧
 [s.a0, s.a1] = [s.a0, s.a1] ∧
 iteB (decide (s.n = s.n))
 (pRows s.g = pRows s.g ∧
 iteB (decide (s.n = s.n))
 (iteB (decide (s.num = s.num)) (iteB (decide (s.owner = s.owner)) (s.point = s.point ∧ [s.a0, s.a1] = [s.a0, s.a1] ∧ iteB (decide (s.n = s.n)) (iteB (decide (s.n + 1 ≤ s.n + 1)) (iteB (decide (s.n + 1 = s.n + 1)) (RowsEq 0 [(2, 2), (1, 1), (0, 0)] (s.n + 1) (pRows R) (pRows R) ∧ (s.n ≤ 20 ∧ ShS.Ok s ∧ ∀ (j : Nat), j < s.n → R j = s.g j) ∧ ∀ (i : Nat), i ≤ s.n → (∀ (j : Nat), j < i → (fun (i : Nat) => i < s.n) j) → (i = s.n → iteB (decide (s.n ≤ s.n + 1)) (iteB (decide (0 ≤ IntKind.wrap IntKind.i64 ((↑s.n : Int) + 1) ∧ IntKind.wrap IntKind.i64 ((↑s.n : Int) + 1) ≤ (↑(s.n + 1) : Int))) (iteB (decide (0 ≤ (↑s.n : Int) ∧ (↑s.n : Int) < (↑(subO (Int.toNat (IntKind.wrap IntKind.i64 ((↑s.n : Int) + 1))) none) : Int))) (iteB (decide (0 + Int.toNat (↑s.n : Int) < s.n + 1)) (iteB ((R (0 + Int.toNat (↑s.n : Int))).id == 77) (AV.bool true = AV.bool true) (AV.bool false = AV.bool true)) False) False) False) False) ∧ (False → False) ∧ (False → False)) False) False) False) False) False) False)
 False)
 False)
 False) ∧
 (False → False) ∧ (False → False))
 False)
 False)
 False)
 False)
 False)
 False)
 False)
 False)
 False)
 False)
 False)
 False)
 False)))
 False)
 False)
 False)
 False)
 False)
 False)
 False)
 False)
 False)
 False)
 False)
 False)
 False)
 False)
 False)
 False)
 False)
 False)
 False)
 False)
 False)
 False)
 False)
 False)
 False)
 False)
 False)
 False)
 False)
 False)
 False)
 False ∧
 iteB (decide ((↑s.n : Int) = (↑s.n : Int)))
 (iteB (decide (s.n = s.n))
 (pRows s.g = pRows s.g ∧
 iteB (decide (s.n = s.n))
 (iteB (decide (s.n = s.n))
 (pRows s.g = pRows s.g ∧
 iteB (decide (s.n = s.n))
 (iteB (decide ((0 + s.n) * 64 ≤ 140737488355328))
 (iteB (decide ((↑s.n : Int) = (↑s.n : Int)))
 (iteB (decide (s.n = s.n))
 (pRows s.g = pRows s.g ∧
 iteB (decide (s.n = s.n))
 (iteB (decide (0 + s.n = 0 + s.n))
 (iteB (decide ((0 + s.n + 1) * 64 ≤ 140737488355328))
 (iteB (decide ((↑s.n : Int) = (↑s.n : Int)))
 (iteB (decide (s.n = s.n))
 (pRows s.g = pRows s.g ∧
 iteB (decide (s.n = s.n))
 (iteB (decide (0 + s.n + 1 ≤ 0 + s.n + 1))
 (iteB (decide (0 ≤ (↑s.n : Int) ∧ (↑s.n : Int) ≤ (↑(0 + s.n + 1) : Int)))
 (iteB (decide (0 + subO (Int.toNat (↑s.n : Int)) none ≤ 0 + s.n + 1))
 ((∀ (i : Nat), i < subO (Int.toNat (↑s.n : Int)) none → plainC (shiftZ 0 (catF (0 + s.n) (catF 0 (fun (x : Nat) => []) (pRows s.g)) (rowC [AV.int IntKind.i64 0, AV.int IntKind.i64 77, AV.int IntKind.i64 0, AV.arr IntKind.u8 32 zero32, AV.int IntKind.i64 0] 0 36)) i) = true) ∧
 TermS.Ok (TermS.mk t.fund t.index t.cap t.dust t.fee t.delay t.k0 t.k1) ∧
 ∃ (s_1 : ShS),
 ((s_1.num = s.num ∧ s_1.owner = s.owner ∧ s_1.point = s.point ∧ [s.a0, s.a1] = [s_1.a0, s_1.a1]) ∧ (subO (Int.toNat (↑s.n : Int)) none = subO (Int.toNat (↑s.n : Int)) none ∧ s_1.n = subO (Int.toNat (↑s.n : Int)) none) ∧ ∀ (i : Nat), i < subO (Int.toNat (↑s.n : Int)) none → shiftZ 0 (catF (0 + s.n) (catF 0 (fun (x : Nat) => []) (pRows s.g)) (rowC [AV.int IntKind.i64 0, AV.int IntKind.i64 77, AV.int IntKind.i64 0, AV.arr IntKind.u8 32 zero32, AV.int IntKind.i64 0] 0 36)) i = PendS.c (s_1.g i)) ∧
 ShS.Ok s_1 ∧
 s_1.n < 1000 ∧
 shB A (TermS.mk t.fund t.index t.cap t.dust t.fee t.delay t.k0 t.k1) s_1 = false ∧
 iteB (decide (0 + subO (Int.toNat (↑s.n : Int)) none ≤ 0 + s.n + 1))
 ((∀ (i : Nat), i < subO (Int.toNat (↑s.n : Int)) none → plainC (shiftZ 0 (catF (0 + s.n) (catF 0 (fun (x : Nat) => []) (pRows s.g)) (rowC [AV.int IntKind.i64 0, AV.int IntKind.i64 77, AV.int IntKind.i64 0, AV.arr IntKind.u8 32 zero32, AV.int IntKind.i64 0] 0 36)) i) = true) ∧
 TermS.Ok (TermS.mk t.fund t.index t.cap t.dust t.fee t.delay t.k0 t.k1) ∧
 ∃ (s_2 : ShS),
 ((s_2.num = s.num ∧ s_2.owner = s.owner ∧ s_2.point = s.point ∧ [s.a0, s.a1] = [s_2.a0, s_2.a1]) ∧ (subO (Int.toNat (↑s.n : Int)) none = subO (Int.toNat (↑s.n : Int)) none ∧ s_2.n = subO (Int.toNat (↑s.n : Int)) none) ∧ ∀ (i : Nat), i < subO (Int.toNat (↑s.n : Int)) none → shiftZ 0 (catF (0 + s.n) (catF 0 (fun (x : Nat) => []) (pRows s.g)) (rowC [AV.int IntKind.i64 0, AV.int IntKind.i64 77, AV.int IntKind.i64 0, AV.arr IntKind.u8 32 zero32, AV.int IntKind.i64 0] 0 36)) i = PendS.c (s_2.g i)) ∧
 ShS.Ok s_2 ∧
 s_2.n < 1000 ∧
 shB A (TermS.mk t.fund t.index t.cap t.dust t.fee t.delay t.k0 t.k1) s_2 = false ∧
 TermS.Ok (TermS.mk t.fund t.index t.cap t.dust t.fee t.delay t.k0 t.k1) ∧
 ∃ (s_3 : ShS),
 ((s_3.num = s.num ∧ s_3.owner = s.owner ∧ s_3.point = s.point ∧ [s.a0, s.a1] = [s_3.a0, s_3.a1]) ∧ (s.n = s.n ∧ s_3.n = s.n) ∧ ∀ (i : Nat), i < s.n → pRows s.g i = PendS.c (s_3.g i)) ∧
 ShS.Ok s_3 ∧
 s_3.n < 1000 ∧
 shB A (TermS.mk t.fund t.index t.cap t.dust t.fee t.delay t.k0 t.k1) s_3 = false ∧
 TermS.Ok (TermS.mk t.fund t.index t.cap t.dust t.fee t.delay t.k0 t.k1) ∧
 ∃ (s_4 : ShS),
 ((s_4.num = s.num ∧ s_4.owner = s.owner ∧ s_4.point = s.point ∧ [s.a0, s.a1] = [s_4.a0, s_4.a1]) ∧ (s.n = s.n ∧ s_4.n = s.n) ∧ ∀ (i : Nat), i < s.n → pRows s.g i = PendS.c (s_4.g i)) ∧
 ShS.Ok s_4 ∧
 s_4.n < 1000 ∧
 shB A (TermS.mk t.fund t.index t.cap t.dust t.fee t.delay t.k0 t.k1) s_4 = false ∧
 TermS.Ok (TermS.mk t.fund t.index t.cap t.dust t.fee t.delay t.k0 t.k1) ∧
 ∃ (s_5 : ShS),
 ((s_5.num = s.num ∧ s_5.owner = s.owner ∧ s_5.point = s.point ∧ [s.a0, s.a1] = [s_5.a0, s_5.a1]) ∧ (s.n = s.n ∧ s_5.n = s.n) ∧ ∀ (i : Nat), i < s.n → pRows s.g i = PendS.c (s_5.g i)) ∧
 s_5.n < 1000 ∧
 iteB (decide (shB A (TermS.mk t.fund t.index t.cap t.dust t.fee t.delay t.k0 t.k1) s_5 = b))
 (t.fund = t.fund ∧
 iteB (decide (t.index = t.index))
 (iteB (decide (t.cap = t.cap))
 (iteB (decide (t.dust = t.dust))
 (iteB (decide (t.fee = t.fee))
 (iteB (decide (t.delay = t.delay))
 (t.k0 = t.k0 ∧
 t.k1 = t.k1 ∧
 iteB (decide (s.num = s.num))
 (iteB (decide (s.owner = s.owner))
 (s.point = s.point ∧
 [s.a0, s.a1] = [s.a0, s.a1] ∧
 iteB (decide (s.n = s.n))
 (pRows s.g = pRows s.g ∧
 iteB (decide (s.n = s.n))
 (iteB (decide (s.num = s.num))
 (iteB (decide (s.owner = s.owner))
 (s.point = s.point ∧
 [s.a0, s.a1] = [s.a0, s.a1] ∧
 iteB (decide (subO (Int.toNat (↑s.n : Int)) none = s.n))
 (iteB (decide (s.n + 1 ≤ subO (0 + s.n + 1) none))
 (iteB (decide (0 + s.n + 1 = s.n + 1))
 (RowsEq 0 [(3, 6), (5, 8), (4, 7), (2, 3), (1, 1), (0, 0)] (s.n + 1) (pRows R) (catF (0 + s.n) (catF 0 (fun (x : Nat) => []) (pRows s.g)) (rowC [AV.int IntKind.i64 0, AV.int IntKind.i64 77, AV.int IntKind.i64 0, AV.arr IntKind.u8 32 zero32, AV.int IntKind.i64 0] 0 36)) ∧
 (r = if b = true then 0 else 2) ∧
 iteB (decide (0 + s.n ≤ s.n + 1))
 ((∀ (i : Nat), i < s.n → true = true) ∧
 TermS.Ok (TermS.mk t.fund t.index t.cap t.dust t.fee t.delay t.k0 t.k1) ∧
 ∃ (s_6 : ShS),
 ((s_6.num = s.num ∧ s_6.owner = s.owner ∧ s_6.point = s.point ∧ [s.a0, s.a1] = [s_6.a0, s_6.a1]) ∧ (s.n = s.n ∧ s_6.n = s.n) ∧ ∀ (i : Nat), i < s.n → [AV.int IntKind.i64 (R i).frm, AV.int IntKind.i64 (R i).id, AV.int IntKind.i64 (R i).amount, AV.arr IntKind.u8 32 (R i).hash, AV.int IntKind.i64 (R i).expiry] = PendS.c (s_6.g i)) ∧
 s_6.n < 1000 ∧
 iteB ((if shB A (TermS.mk t.fund t.index t.cap t.dust t.fee t.delay t.k0 t.k1) s_6 = true then 0 else 2) != r) (AV.bool false = AV.bool true)
 (∃ (a : TxS),
 ∃ (b : TxS),
 (a.num = 0 ∧ a.N = 0 ∧ a.M = 0) ∧
 (b.num = 0 ∧ b.N = 0 ∧ b.M = 0) ∧
 (TxS.Ok a ∧ TxS.Ok b) ∧
 iteB (!F a b) (AV.bool false = AV.bool true)
 (iteB (decide (M = 0))
 (iteB (decide (M = 0))
 (iteB (decide (M = 0))
 (iteB (decide (M = 0))
 (iteB (decide (s.num = s.num))
 (iteB (decide (s.owner = s.owner))
 (s.point = s.point ∧
 [s.a0, s.a1] = [s.a0, s.a1] ∧
 iteB (decide (s.n = s.n))
 (pRows s.g = pRows s.g ∧
 iteB (decide (s.n = s.n))
 (iteB (decide (s.num = s.num))
 (iteB (decide (s.owner = s.owner))
 (s.point = s.point ∧
 [s.a0, s.a1] = [s.a0, s.a1] ∧
 iteB (decide (s.n = s.n))
 (iteB (decide (s.n + 1 ≤ s.n + 1))
 (iteB (decide (s.n + 1 = s.n + 1))
 (RowsEq 0 [(2, 3), (1, 2), (0, 1)] (s.n + 1) (pRows R) (pRows R) ∧
 X = [] ∧
 X = [] ∧
 (s.n ≤ 20 ∧ M < 1000 ∧ List.length X = M) ∧
 ∀ (i : Nat),
 i ≤ M →
 (∀ (j : Nat), j < i → (fun (i : Nat) => i < M) j) →
 (i = M →
 iteB (decide (s.num = s.num))
 (iteB (decide (s.owner = s.owner))
 (s.point = s.point ∧
 [s.a0, s.a1] = [s.a0, s.a1] ∧
 iteB (decide (s.n = s.n))
 (pRows s.g = pRows s.g ∧
 iteB (decide (s.n = s.n))
 (iteB (decide (s.num = s.num)) (iteB (decide (s.owner = s.owner)) (s.point = s.point ∧ [s.a0, s.a1] = [s.a0, s.a1] ∧ iteB (decide (s.n = s.n)) (iteB (decide (s.n + 1 ≤ s.n + 1)) (iteB (decide (s.n + 1 = s.n + 1)) (RowsEq 0 [(2, 2), (1, 1), (0, 0)] (s.n + 1) (pRows R) (pRows R) ∧ (s.n ≤ 20 ∧ ShS.Ok s ∧ ∀ (j : Nat), j < s.n → R j = s.g j) ∧ ∀ (i : Nat), i ≤ s.n → (∀ (j : Nat), j < i → (fun (i : Nat) => i < s.n) j) → (i = s.n → iteB (decide (s.n ≤ s.n + 1)) (iteB (decide (0 ≤ IntKind.wrap IntKind.i64 ((↑s.n : Int) + 1) ∧ IntKind.wrap IntKind.i64 ((↑s.n : Int) + 1) ≤ (↑(s.n + 1) : Int))) (iteB (decide (0 ≤ (↑s.n : Int) ∧ (↑s.n : Int) < (↑(subO (Int.toNat (IntKind.wrap IntKind.i64 ((↑s.n : Int) + 1))) none) : Int))) (iteB (decide (0 + Int.toNat (↑s.n : Int) < s.n + 1)) (iteB ((R (0 + Int.toNat (↑s.n : Int))).id == 77) (AV.bool true = AV.bool true) (AV.bool false = AV.bool true)) False) False) False) False) ∧ (False → False) ∧ (False → False)) False) False) False) False) False) False)
 False)
 False)
 False) ∧
 (False → False) ∧ (False → False))
 False)
 False)
 False)
 False)
 False)
 False)
 False)
 False)
 False)
 False)
 False)
 False)
 False)))
 False)
 False)
 False)
 False)
 False)
 False)
 False)
 False)
 False)
 False)
 False)
 False)
 False)
 False)
 False)
 False)
 False)
 False)
 False)
 False)
 False)
 False)
 False)
 False)
 False)
 False)
 False)
 False)
 False)
 False)
 False)
 False)
 False)
 False)
 False)
 False)
 False)
 False)
 False ∧
 iteB (decide ((↑s.n : Int) = (↑s.n : Int)))
 (iteB (decide (s.n = s.n))
 (pRows s.g = pRows s.g ∧
 iteB (decide (s.n = s.n))
 (iteB (decide (s.n = s.n))
 (pRows s.g = pRows s.g ∧
 iteB (decide (s.n = s.n))
 (iteB (decide ((↑s.n : Int) = (↑s.n : Int)))
 (iteB (decide (s.n = s.n))
 (pRows s.g = pRows s.g ∧
 iteB (decide (s.n = s.n))
 (iteB (decide (s.n = s.n))
 (pRows s.g = pRows s.g ∧
 iteB (decide (s.n = s.n))
 (iteB (decide ((0 + s.n) * 64 ≤ 140737488355328))
 (iteB (decide ((↑s.n : Int) = (↑s.n : Int)))
 (iteB (decide (s.n = s.n))
 (pRows s.g = pRows s.g ∧
 iteB (decide (s.n = s.n))
 (iteB (decide (0 + s.n = 0 + s.n))
 (iteB (decide ((0 + s.n + 1) * 64 ≤ 140737488355328))
 (iteB (decide ((↑s.n : Int) = (↑s.n : Int)))
 (iteB (decide (s.n = s.n))
 (pRows s.g = pRows s.g ∧
 iteB (decide (s.n = s.n))
 (iteB (decide (0 + s.n + 1 ≤ 0 + s.n + 1))
 (iteB (decide (0 ≤ (↑s.n : Int) ∧ (↑s.n : Int) ≤ (↑(0 + s.n + 1) : Int)))
 (iteB (decide (0 + subO (Int.toNat (↑s.n : Int)) none ≤ 0 + s.n + 1))
 ((∀ (i : Nat), i < subO (Int.toNat (↑s.n : Int)) none → plainC (shiftZ 0 (catF (0 + s.n) (catF 0 (fun (x : Nat) => []) (pRows s.g)) (rowC [AV.int IntKind.i64 0, AV.int IntKind.i64 77, AV.int IntKind.i64 0, AV.arr IntKind.u8 32 zero32, AV.int IntKind.i64 0] 0 36)) i) = true) ∧
 TermS.Ok (TermS.mk t.fund t.index t.cap t.dust t.fee t.delay t.k0 t.k1) ∧
 ∃ (s_1 : ShS),
 ((s_1.num = s.num ∧ s_1.owner = s.owner ∧ s_1.point = s.point ∧ [s.a0, s.a1] = [s_1.a0, s_1.a1]) ∧ (subO (Int.toNat (↑s.n : Int)) none = subO (Int.toNat (↑s.n : Int)) none ∧ s_1.n = subO (Int.toNat (↑s.n : Int)) none) ∧ ∀ (i : Nat), i < subO (Int.toNat (↑s.n : Int)) none → shiftZ 0 (catF (0 + s.n) (catF 0 (fun (x : Nat) => []) (pRows s.g)) (rowC [AV.int IntKind.i64 0, AV.int IntKind.i64 77, AV.int IntKind.i64 0, AV.arr IntKind.u8 32 zero32, AV.int IntKind.i64 0] 0 36)) i = PendS.c (s_1.g i)) ∧
 ShS.Ok s_1 ∧
 s_1.n < 1000 ∧
 shB A (TermS.mk t.fund t.index t.cap t.dust t.fee t.delay t.k0 t.k1) s_1 = false ∧
 iteB (decide (0 + subO (Int.toNat (↑s.n : Int)) none ≤ 0 + s.n + 1))
 ((∀ (i : Nat), i < subO (Int.toNat (↑s.n : Int)) none → plainC (shiftZ 0 (catF (0 + s.n) (catF 0 (fun (x : Nat) => []) (pRows s.g)) (rowC [AV.int IntKind.i64 0, AV.int IntKind.i64 77, AV.int IntKind.i64 0, AV.arr IntKind.u8 32 zero32, AV.int IntKind.i64 0] 0 36)) i) = true) ∧
 TermS.Ok (TermS.mk t.fund t.index t.cap t.dust t.fee t.delay t.k0 t.k1) ∧
 ∃ (s_2 : ShS),
 ((s_2.num = s.num ∧ s_2.owner = s.owner ∧ s_2.point = s.point ∧ [s.a0, s.a1] = [s_2.a0, s_2.a1]) ∧ (subO (Int.toNat (↑s.n : Int)) none = subO (Int.toNat (↑s.n : Int)) none ∧ s_2.n = subO (Int.toNat (↑s.n : Int)) none) ∧ ∀ (i : Nat), i < subO (Int.toNat (↑s.n : Int)) none → shiftZ 0 (catF (0 + s.n) (catF 0 (fun (x : Nat) => []) (pRows s.g)) (rowC [AV.int IntKind.i64 0, AV.int IntKind.i64 77, AV.int IntKind.i64 0, AV.arr IntKind.u8 32 zero32, AV.int IntKind.i64 0] 0 36)) i = PendS.c (s_2.g i)) ∧
 ShS.Ok s_2 ∧
 s_2.n < 1000 ∧
 shB A (TermS.mk t.fund t.index t.cap t.dust t.fee t.delay t.k0 t.k1) s_2 = false ∧
 TermS.Ok (TermS.mk t.fund t.index t.cap t.dust t.fee t.delay t.k0 t.k1) ∧
 ∃ (s_3 : ShS),
 ((s_3.num = s.num ∧ s_3.owner = s.owner ∧ s_3.point = s.point ∧ [s.a0, s.a1] = [s_3.a0, s_3.a1]) ∧ (s.n = s.n ∧ s_3.n = s.n) ∧ ∀ (i : Nat), i < s.n → pRows s.g i = PendS.c (s_3.g i)) ∧
 ShS.Ok s_3 ∧
 s_3.n < 1000 ∧
 shB A (TermS.mk t.fund t.index t.cap t.dust t.fee t.delay t.k0 t.k1) s_3 = false ∧
 TermS.Ok (TermS.mk t.fund t.index t.cap t.dust t.fee t.delay t.k0 t.k1) ∧
 ∃ (s_4 : ShS),
 ((s_4.num = s.num ∧ s_4.owner = s.owner ∧ s_4.point = s.point ∧ [s.a0, s.a1] = [s_4.a0, s_4.a1]) ∧ (s.n = s.n ∧ s_4.n = s.n) ∧ ∀ (i : Nat), i < s.n → pRows s.g i = PendS.c (s_4.g i)) ∧
 ShS.Ok s_4 ∧
 s_4.n < 1000 ∧
 shB A (TermS.mk t.fund t.index t.cap t.dust t.fee t.delay t.k0 t.k1) s_4 = false ∧
 TermS.Ok (TermS.mk t.fund t.index t.cap t.dust t.fee t.delay t.k0 t.k1) ∧
 ∃ (s_5 : ShS),
 ((s_5.num = s.num ∧ s_5.owner = s.owner ∧ s_5.point = s.point ∧ [s.a0, s.a1] = [s_5.a0, s_5.a1]) ∧ (s.n = s.n ∧ s_5.n = s.n) ∧ ∀ (i : Nat), i < s.n → pRows s.g i = PendS.c (s_5.g i)) ∧
 s_5.n < 1000 ∧
 iteB (decide (shB A (TermS.mk t.fund t.index t.cap t.dust t.fee t.delay t.k0 t.k1) s_5 = b))
 (t.fund = t.fund ∧
 iteB (decide (t.index = t.index))
 (iteB (decide (t.cap = t.cap))
 (iteB (decide (t.dust = t.dust))
 (iteB (decide (t.fee = t.fee))
 (iteB (decide (t.delay = t.delay))
 (t.k0 = t.k0 ∧
 t.k1 = t.k1 ∧
 iteB (decide (s.num = s.num))
 (iteB (decide (s.owner = s.owner))
 (s.point = s.point ∧
 [s.a0, s.a1] = [s.a0, s.a1] ∧
 iteB (decide (s.n = s.n))
 (pRows s.g = pRows s.g ∧
 iteB (decide (s.n = s.n))
 (iteB (decide (s.num = s.num))
 (iteB (decide (s.owner = s.owner))
 (s.point = s.point ∧
 [s.a0, s.a1] = [s.a0, s.a1] ∧
 iteB (decide (subO (Int.toNat (↑s.n : Int)) none = s.n))
 (iteB (decide (s.n + 1 ≤ subO (0 + s.n + 1) none))
 (iteB (decide (0 + s.n + 1 = s.n + 1))
 (RowsEq 0 [(3, 6), (5, 8), (4, 7), (2, 3), (1, 1), (0, 0)] (s.n + 1) (pRows R) (catF (0 + s.n) (catF 0 (fun (x : Nat) => []) (pRows s.g)) (rowC [AV.int IntKind.i64 0, AV.int IntKind.i64 77, AV.int IntKind.i64 0, AV.arr IntKind.u8 32 zero32, AV.int IntKind.i64 0] 0 36)) ∧
 (r = if b = true then 0 else 2) ∧
 iteB (decide (0 + s.n ≤ s.n + 1))
 ((∀ (i : Nat), i < s.n → true = true) ∧
 TermS.Ok (TermS.mk t.fund t.index t.cap t.dust t.fee t.delay t.k0 t.k1) ∧
 ∃ (s_6 : ShS),
 ((s_6.num = s.num ∧ s_6.owner = s.owner ∧ s_6.point = s.point ∧ [s.a0, s.a1] = [s_6.a0, s_6.a1]) ∧ (s.n = s.n ∧ s_6.n = s.n) ∧ ∀ (i : Nat), i < s.n → [AV.int IntKind.i64 (R i).frm, AV.int IntKind.i64 (R i).id, AV.int IntKind.i64 (R i).amount, AV.arr IntKind.u8 32 (R i).hash, AV.int IntKind.i64 (R i).expiry] = PendS.c (s_6.g i)) ∧
 s_6.n < 1000 ∧
 iteB ((if shB A (TermS.mk t.fund t.index t.cap t.dust t.fee t.delay t.k0 t.k1) s_6 = true then 0 else 2) != r) (AV.bool false = AV.bool true)
 (∃ (a : TxS),
 ∃ (b : TxS),
 (a.num = 0 ∧ a.N = 0 ∧ a.M = 0) ∧
 (b.num = 0 ∧ b.N = 0 ∧ b.M = 0) ∧
 (TxS.Ok a ∧ TxS.Ok b) ∧
 iteB (!F a b) (AV.bool false = AV.bool true)
 (iteB (decide (M = 0))
 (iteB (decide (M = 0))
 (iteB (decide (M = 0))
 (iteB (decide (M = 0))
 (iteB (decide (s.num = s.num))
 (iteB (decide (s.owner = s.owner))
 (s.point = s.point ∧
 [s.a0, s.a1] = [s.a0, s.a1] ∧
 iteB (decide (s.n = s.n))
 (pRows s.g = pRows s.g ∧
 iteB (decide (s.n = s.n))
 (iteB (decide (s.num = s.num))
 (iteB (decide (s.owner = s.owner))
 (s.point = s.point ∧
 [s.a0, s.a1] = [s.a0, s.a1] ∧
 iteB (decide (s.n = s.n))
 (iteB (decide (s.n + 1 ≤ s.n + 1))
 (iteB (decide (s.n + 1 = s.n + 1))
 (RowsEq 0 [(2, 3), (1, 2), (0, 1)] (s.n + 1) (pRows R) (pRows R) ∧
 X = [] ∧
 X = [] ∧
 (s.n ≤ 20 ∧ M < 1000 ∧ List.length X = M) ∧
 ∀ (i : Nat),
 i ≤ M →
 (∀ (j : Nat), j < i → (fun (i : Nat) => i < M) j) →
 (i = M →
 iteB (decide (s.num = s.num))
 (iteB (decide (s.owner = s.owner))
 (s.point = s.point ∧
 [s.a0, s.a1] = [s.a0, s.a1] ∧
 iteB (decide (s.n = s.n))
 (pRows s.g = pRows s.g ∧
 iteB (decide (s.n = s.n))
 (iteB (decide (s.num = s.num)) (iteB (decide (s.owner = s.owner)) (s.point = s.point ∧ [s.a0, s.a1] = [s.a0, s.a1] ∧ iteB (decide (s.n = s.n)) (iteB (decide (s.n + 1 ≤ s.n + 1)) (iteB (decide (s.n + 1 = s.n + 1)) (RowsEq 0 [(2, 2), (1, 1), (0, 0)] (s.n + 1) (pRows R) (pRows R) ∧ (s.n ≤ 20 ∧ ShS.Ok s ∧ ∀ (j : Nat), j < s.n → R j = s.g j) ∧ ∀ (i : Nat), i ≤ s.n → (∀ (j : Nat), j < i → (fun (i : Nat) => i < s.n) j) → (i = s.n → iteB (decide (s.n ≤ s.n + 1)) (iteB (decide (0 ≤ IntKind.wrap IntKind.i64 ((↑s.n : Int) + 1) ∧ IntKind.wrap IntKind.i64 ((↑s.n : Int) + 1) ≤ (↑(s.n + 1) : Int))) (iteB (decide (0 ≤ (↑s.n : Int) ∧ (↑s.n : Int) < (↑(subO (Int.toNat (IntKind.wrap IntKind.i64 ((↑s.n : Int) + 1))) none) : Int))) (iteB (decide (0 + Int.toNat (↑s.n : Int) < s.n + 1)) (iteB ((R (0 + Int.toNat (↑s.n : Int))).id == 77) (AV.bool true = AV.bool true) (AV.bool false = AV.bool true)) False) False) False) False) ∧ (False → False) ∧ (False → False)) False) False) False) False) False) False)
 False)
 False)
 False) ∧
 (False → False) ∧ (False → False))
 False)
 False)
 False)
 False)
 False)
 False)
 False)
 False)
 False)
 False)
 False)
 False)
 False)))
 False)
 False)
 False)
 False)
 False)
 False)
 False)
 False)
 False)
 False)
 False)
 False)
 False)
 False)
 False)
 False)
 False)
 False)
 False)
 False)
 False)
 False)
 False)
 False)
 False)
 False)
 False)
 False)
 False)
 False)
 False)
 False)
 False)
 False)
 False)
 False)
 False)
 False)
 False)) (by kernel_rfl) ?_
  try simp only [need_eq]
  try simp only [nope_eq]
  try simp only [iteD_eq]
  try simp only [iteT_eq]
  try simp only [iteF_eq]
  try simp only [iteE_eq]
  try simp only [Int.toNat_natCast, Nat.zero_add, true_and, and_true, Nat.le_refl]
  have e0 : (TermS.mk t.fund t.index t.cap t.dust t.fee t.delay t.k0 t.k1) = t := rfl
  rw [e0]
  have n20 := hC.n20
  have w1 : IntKind.i64.wrap ((s.n : Int) + 1) = ((s.n + 1 : Nat) : Int) := by rw [w64 (by omega)]; omega
  simp only [subO_none, w1]
  have hp : ∀ i, i < s.n → plainC (shiftZ 0 (cmW s) i) = true := fun i hi => by
    show plainC (cmW s i) = true
    rw [cmW_lt s hi]; rfl
  have hW : ∀ i, i < s.n → shiftZ 0 (cmW s) i = (s.g i).c := fun i hi => cmW_lt s hi
  have hR : ∀ τ, RowsEq 0 τ (s.n + 1) (pRows R) (cmW s) := fun τ => pRowsEq fun i hi => cmW_eq hC hi
  have hR2 : ∀ τ, RowsEq 0 τ (s.n + 1) (pRows R) (pRows R) := fun τ => pRowsEq fun i hi => rfl
  have hr' : r = if b = true then 0 else 2 := by rw [hr, hb]; rfl
  have hR3 : ∀ i, i < s.n → PendS.c (R i) = (s.g i).c := fun i hi => by rw [hC.hR i hi]
  have hc1 : ¬ ((if shB A t s = true then (0 : Int) else 2) != r) = true := by rw [hsb, hr]; simp
  have hc3 : ¬ ((R s.n).id == 77) = false := by rw [hC.hE]; decide
  have hc2 : ¬ (!F tx0 tx0) = true := by subst hF; rw [sameT_refl]; simp
  refine ⟨fun _ => trivial, fun _ => ⟨?_, ?_⟩⟩
  all_goals
    repeat' (first
      | exact hsb.trans hb.symm
      | exact hr'
      | exact fun _ _ => trivial
      | exact fun h => absurd h hc1
      | exact fun h => absurd h hc2
      | exact fun h => absurd h hc3
      | exact hM
      | exact hX
      | exact ⟨n20, by omega, by rw [hX, hM]; rfl⟩
      | exact ⟨n20, hC.hs, hC.hR⟩
      | (refine ⟨s, ⟨⟨rfl, rfl, rfl, rfl⟩, rfl, hR3⟩, ?_⟩)
      | exact ht
      | exact hC.hs
      | exact hsb
      | exact hp
      | exact hR _
      | exact hR2 _
      | exact trivial
      | (refine ⟨s, ⟨⟨rfl, rfl, rfl, rfl⟩, rfl, hW⟩, ?_⟩)
      | (refine ⟨s, ⟨⟨rfl, rfl, rfl, rfl⟩, rfl, fun _ _ => rfl⟩, ?_⟩)
      | (refine ⟨tx0, tx0, ⟨rfl, rfl, rfl⟩, ⟨rfl, rfl, rfl⟩, ⟨tx0_ok, tx0_ok⟩, ?_⟩)
      | refine And.intro ?_ ?_
      | omega
      | rfl
      | intro _)
set_option maxRecDepth 100000 in
set_option maxHeartbeats 0 in
theorem cmk_B (A : List Int → Int × Int) (F : TxS → TxS → Bool) (t : TermS) (s : ShS) (R : Nat → PendS) (M : Nat) (X : List Int) (r : Int) (b : Bool) (ht : t.Ok) (hC : CmC s R) (hF : F = sameT) (hM : M = 0) (hX : X = []) (hsb : shB A t s = true) (hb : b = true) (hr : r = 0) (h0 : (osAll t s).length = 0) :
    evF (E106 A F s R M X (comB A) (plcB A) (cmJN t s R 180 r b)) 20 3 [.agg t.c, .agg s.c] ⟨0, []⟩ (outV (fun v => v = .bool true)) := by
  refine @Eq.mpr _ (iteB (!decide ((↑s.n : Int) ≤ 20)) (AV.bool true = AV.bool true)
 (iteB (decide ((↑s.n : Int) = (↑s.n : Int)))
 (iteB (decide (s.n = s.n))
 (pRows s.g = pRows s.g ∧
 iteB (decide (s.n = s.n))
 (iteB (decide (s.n = s.n))
 (pRows s.g = pRows s.g ∧
 iteB (decide (s.n = s.n))
 (iteB (decide ((0 + s.n) * 64 ≤ 140737488355328))
 (iteB (decide ((↑s.n : Int) = (↑s.n : Int)))
 (iteB (decide (s.n = s.n))
 (pRows s.g = pRows s.g ∧
 iteB (decide (s.n = s.n))
 (iteB (decide ((↑s.n : Int) = (↑s.n : Int)))
 (iteB (decide (s.n = s.n))
 (pRows s.g = pRows s.g ∧
 iteB (decide (s.n = s.n))
 (iteB (decide (0 + s.n = 0 + s.n))
 (iteB (decide ((0 + s.n + 1) * 64 ≤ 140737488355328))
 (iteB (decide ((↑s.n : Int) = (↑s.n : Int)))
 (iteB (decide (s.n = s.n))
 (pRows s.g = pRows s.g ∧
 iteB (decide (s.n = s.n))
 (iteB (decide (0 + s.n + 1 ≤ 0 + s.n + 1))
 (iteB (decide (0 ≤ (↑s.n : Int) ∧ (↑s.n : Int) ≤ (↑(0 + s.n + 1) : Int)))
 (iteB (decide (0 + subO (Int.toNat (↑s.n : Int)) none ≤ 0 + s.n + 1))
 ((∀ (i : Nat), i < subO (Int.toNat (↑s.n : Int)) none → plainC (shiftZ 0 (catF (0 + s.n) (catF 0 (fun (x : Nat) => []) (pRows s.g)) (rowC [AV.int IntKind.i64 0, AV.int IntKind.i64 77, AV.int IntKind.i64 0, AV.arr IntKind.u8 32 zero32, AV.int IntKind.i64 0] 0 36)) i) = true) ∧
 TermS.Ok (TermS.mk t.fund t.index t.cap t.dust t.fee t.delay t.k0 t.k1) ∧
 ∃ (s_1 : ShS),
 ((s_1.num = s.num ∧ s_1.owner = s.owner ∧ s_1.point = s.point ∧ [s.a0, s.a1] = [s_1.a0, s_1.a1]) ∧ (subO (Int.toNat (↑s.n : Int)) none = subO (Int.toNat (↑s.n : Int)) none ∧ s_1.n = subO (Int.toNat (↑s.n : Int)) none) ∧ ∀ (i : Nat), i < subO (Int.toNat (↑s.n : Int)) none → shiftZ 0 (catF (0 + s.n) (catF 0 (fun (x : Nat) => []) (pRows s.g)) (rowC [AV.int IntKind.i64 0, AV.int IntKind.i64 77, AV.int IntKind.i64 0, AV.arr IntKind.u8 32 zero32, AV.int IntKind.i64 0] 0 36)) i = PendS.c (s_1.g i)) ∧
 ShS.Ok s_1 ∧
 s_1.n < 1000 ∧
 shB A (TermS.mk t.fund t.index t.cap t.dust t.fee t.delay t.k0 t.k1) s_1 = true ∧
 List.length (osAll (TermS.mk t.fund t.index t.cap t.dust t.fee t.delay t.k0 t.k1) s_1) = 0 ∧
 iteB (decide (0 + subO (Int.toNat (↑s.n : Int)) none ≤ 0 + s.n + 1))
 ((∀ (i : Nat), i < subO (Int.toNat (↑s.n : Int)) none → plainC (shiftZ 0 (catF (0 + s.n) (catF 0 (fun (x : Nat) => []) (pRows s.g)) (rowC [AV.int IntKind.i64 0, AV.int IntKind.i64 77, AV.int IntKind.i64 0, AV.arr IntKind.u8 32 zero32, AV.int IntKind.i64 0] 0 36)) i) = true) ∧
 TermS.Ok (TermS.mk t.fund t.index t.cap t.dust t.fee t.delay t.k0 t.k1) ∧
 ∃ (s_2 : ShS),
 ((s_2.num = s.num ∧ s_2.owner = s.owner ∧ s_2.point = s.point ∧ [s.a0, s.a1] = [s_2.a0, s_2.a1]) ∧ (subO (Int.toNat (↑s.n : Int)) none = subO (Int.toNat (↑s.n : Int)) none ∧ s_2.n = subO (Int.toNat (↑s.n : Int)) none) ∧ ∀ (i : Nat), i < subO (Int.toNat (↑s.n : Int)) none → shiftZ 0 (catF (0 + s.n) (catF 0 (fun (x : Nat) => []) (pRows s.g)) (rowC [AV.int IntKind.i64 0, AV.int IntKind.i64 77, AV.int IntKind.i64 0, AV.arr IntKind.u8 32 zero32, AV.int IntKind.i64 0] 0 36)) i = PendS.c (s_2.g i)) ∧
 ShS.Ok s_2 ∧
 s_2.n < 1000 ∧
 shB A (TermS.mk t.fund t.index t.cap t.dust t.fee t.delay t.k0 t.k1) s_2 = true ∧
 List.length (osAll (TermS.mk t.fund t.index t.cap t.dust t.fee t.delay t.k0 t.k1) s_2) = 0 ∧
 TermS.Ok (TermS.mk t.fund t.index t.cap t.dust t.fee t.delay t.k0 t.k1) ∧
 ∃ (s_3 : ShS),
 ((s_3.num = s.num ∧ s_3.owner = s.owner ∧ s_3.point = s.point ∧ [s.a0, s.a1] = [s_3.a0, s_3.a1]) ∧ (s.n = s.n ∧ s_3.n = s.n) ∧ ∀ (i : Nat), i < s.n → pRows s.g i = PendS.c (s_3.g i)) ∧
 ShS.Ok s_3 ∧
 s_3.n < 1000 ∧
 shB A (TermS.mk t.fund t.index t.cap t.dust t.fee t.delay t.k0 t.k1) s_3 = true ∧
 List.length (osAll (TermS.mk t.fund t.index t.cap t.dust t.fee t.delay t.k0 t.k1) s_3) = 0 ∧
 TermS.Ok (TermS.mk t.fund t.index t.cap t.dust t.fee t.delay t.k0 t.k1) ∧
 ∃ (s_4 : ShS),
 ((s_4.num = s.num ∧ s_4.owner = s.owner ∧ s_4.point = s.point ∧ [s.a0, s.a1] = [s_4.a0, s_4.a1]) ∧ (s.n = s.n ∧ s_4.n = s.n) ∧ ∀ (i : Nat), i < s.n → pRows s.g i = PendS.c (s_4.g i)) ∧
 ShS.Ok s_4 ∧
 s_4.n < 1000 ∧
 shB A (TermS.mk t.fund t.index t.cap t.dust t.fee t.delay t.k0 t.k1) s_4 = true ∧
 List.length (osAll (TermS.mk t.fund t.index t.cap t.dust t.fee t.delay t.k0 t.k1) s_4) = 0 ∧
 TermS.Ok (TermS.mk t.fund t.index t.cap t.dust t.fee t.delay t.k0 t.k1) ∧
 ∃ (s_5 : ShS),
 ((s_5.num = s.num ∧ s_5.owner = s.owner ∧ s_5.point = s.point ∧ [s.a0, s.a1] = [s_5.a0, s_5.a1]) ∧ (s.n = s.n ∧ s_5.n = s.n) ∧ ∀ (i : Nat), i < s.n → pRows s.g i = PendS.c (s_5.g i)) ∧
 s_5.n < 1000 ∧
 iteB (decide (shB A (TermS.mk t.fund t.index t.cap t.dust t.fee t.delay t.k0 t.k1) s_5 = b))
 (t.fund = t.fund ∧
 iteB (decide (t.index = t.index))
 (iteB (decide (t.cap = t.cap))
 (iteB (decide (t.dust = t.dust))
 (iteB (decide (t.fee = t.fee))
 (iteB (decide (t.delay = t.delay))
 (t.k0 = t.k0 ∧
 t.k1 = t.k1 ∧
 iteB (decide (s.num = s.num))
 (iteB (decide (s.owner = s.owner))
 (s.point = s.point ∧
 [s.a0, s.a1] = [s.a0, s.a1] ∧
 iteB (decide (s.n = s.n))
 (pRows s.g = pRows s.g ∧
 iteB (decide (s.n = s.n))
 (iteB (decide (s.num = s.num))
 (iteB (decide (s.owner = s.owner))
 (s.point = s.point ∧
 [s.a0, s.a1] = [s.a0, s.a1] ∧
 iteB (decide (subO (Int.toNat (↑s.n : Int)) none = s.n))
 (iteB (decide (s.n + 1 ≤ subO (0 + s.n + 1) none))
 (iteB (decide (0 + s.n + 1 = s.n + 1))
 (RowsEq 0 [(3, 6), (5, 8), (4, 7), (2, 3), (1, 1), (0, 0)] (s.n + 1) (pRows R) (catF (0 + s.n) (catF 0 (fun (x : Nat) => []) (pRows s.g)) (rowC [AV.int IntKind.i64 0, AV.int IntKind.i64 77, AV.int IntKind.i64 0, AV.arr IntKind.u8 32 zero32, AV.int IntKind.i64 0] 0 36)) ∧
 (r = if b = true then 0 else 2) ∧
 iteB (decide (0 + s.n ≤ s.n + 1))
 ((∀ (i : Nat), i < s.n → true = true) ∧
 TermS.Ok (TermS.mk t.fund t.index t.cap t.dust t.fee t.delay t.k0 t.k1) ∧
 ∃ (s_6 : ShS),
 ((s_6.num = s.num ∧ s_6.owner = s.owner ∧ s_6.point = s.point ∧ [s.a0, s.a1] = [s_6.a0, s_6.a1]) ∧ (s.n = s.n ∧ s_6.n = s.n) ∧ ∀ (i : Nat), i < s.n → [AV.int IntKind.i64 (R i).frm, AV.int IntKind.i64 (R i).id, AV.int IntKind.i64 (R i).amount, AV.arr IntKind.u8 32 (R i).hash, AV.int IntKind.i64 (R i).expiry] = PendS.c (s_6.g i)) ∧
 s_6.n < 1000 ∧
 iteB ((if shB A (TermS.mk t.fund t.index t.cap t.dust t.fee t.delay t.k0 t.k1) s_6 = true then 0 else 2) != r) (AV.bool false = AV.bool true)
 (∃ (a : TxS),
 ∃ (b : TxS),
 (a.num = 0 ∧ a.N = 0 ∧ a.M = 0) ∧
 (b.num = 0 ∧ b.N = 0 ∧ b.M = 0) ∧
 (TxS.Ok a ∧ TxS.Ok b) ∧
 iteB (!F a b) (AV.bool false = AV.bool true)
 (iteB (decide (M = 0))
 (iteB (decide (M = 0))
 (iteB (decide (M = 0))
 (iteB (decide (M = 0))
 (iteB (decide (s.num = s.num))
 (iteB (decide (s.owner = s.owner))
 (s.point = s.point ∧
 [s.a0, s.a1] = [s.a0, s.a1] ∧
 iteB (decide (s.n = s.n))
 (pRows s.g = pRows s.g ∧
 iteB (decide (s.n = s.n))
 (iteB (decide (s.num = s.num))
 (iteB (decide (s.owner = s.owner))
 (s.point = s.point ∧
 [s.a0, s.a1] = [s.a0, s.a1] ∧
 iteB (decide (s.n = s.n))
 (iteB (decide (s.n + 1 ≤ s.n + 1))
 (iteB (decide (s.n + 1 = s.n + 1))
 (RowsEq 0 [(2, 3), (1, 2), (0, 1)] (s.n + 1) (pRows R) (pRows R) ∧
 X = [] ∧
 X = [] ∧
 (s.n ≤ 20 ∧ M < 1000 ∧ List.length X = M) ∧
 ∀ (i : Nat),
 i ≤ M →
 (∀ (j : Nat), j < i → (fun (i : Nat) => i < M) j) →
 (i = M →
 iteB (decide (s.num = s.num))
 (iteB (decide (s.owner = s.owner))
 (s.point = s.point ∧
 [s.a0, s.a1] = [s.a0, s.a1] ∧
 iteB (decide (s.n = s.n))
 (pRows s.g = pRows s.g ∧
 iteB (decide (s.n = s.n))
 (iteB (decide (s.num = s.num)) (iteB (decide (s.owner = s.owner)) (s.point = s.point ∧ [s.a0, s.a1] = [s.a0, s.a1] ∧ iteB (decide (s.n = s.n)) (iteB (decide (s.n + 1 ≤ s.n + 1)) (iteB (decide (s.n + 1 = s.n + 1)) (RowsEq 0 [(2, 2), (1, 1), (0, 0)] (s.n + 1) (pRows R) (pRows R) ∧ (s.n ≤ 20 ∧ ShS.Ok s ∧ ∀ (j : Nat), j < s.n → R j = s.g j) ∧ ∀ (i : Nat), i ≤ s.n → (∀ (j : Nat), j < i → (fun (i : Nat) => i < s.n) j) → (i = s.n → iteB (decide (s.n ≤ s.n + 1)) (iteB (decide (0 ≤ IntKind.wrap IntKind.i64 ((↑s.n : Int) + 1) ∧ IntKind.wrap IntKind.i64 ((↑s.n : Int) + 1) ≤ (↑(s.n + 1) : Int))) (iteB (decide (0 ≤ (↑s.n : Int) ∧ (↑s.n : Int) < (↑(subO (Int.toNat (IntKind.wrap IntKind.i64 ((↑s.n : Int) + 1))) none) : Int))) (iteB (decide (0 + Int.toNat (↑s.n : Int) < s.n + 1)) (iteB ((R (0 + Int.toNat (↑s.n : Int))).id == 77) (AV.bool true = AV.bool true) (AV.bool false = AV.bool true)) False) False) False) False) ∧ (False → False) ∧ (False → False)) False) False) False) False) False) False)
 False)
 False)
 False) ∧
 (False → False) ∧ (False → False))
 False)
 False)
 False)
 False)
 False)
 False)
 False)
 False)
 False)
 False)
 False)
 False)
 False)))
 False)
 False)
 False)
 False)
 False)
 False)
 False)
 False)
 False)
 False)
 False)
 False)
 False)
 False)
 False)
 False)
 False)
 False)
 False)
 False)
 False)
 False)
 False)
 False)
 False)
 False)
 False)
 False)
 False)
 False)
 False)
 False ∧
 iteB (decide ((↑s.n : Int) = (↑s.n : Int)))
 (iteB (decide (s.n = s.n))
 (pRows s.g = pRows s.g ∧
 iteB (decide (s.n = s.n))
 (iteB (decide (s.n = s.n))
 (pRows s.g = pRows s.g ∧
 iteB (decide (s.n = s.n))
 (iteB (decide ((0 + s.n) * 64 ≤ 140737488355328))
 (iteB (decide ((↑s.n : Int) = (↑s.n : Int)))
 (iteB (decide (s.n = s.n))
 (pRows s.g = pRows s.g ∧
 iteB (decide (s.n = s.n))
 (iteB (decide (0 + s.n = 0 + s.n))
 (iteB (decide ((0 + s.n + 1) * 64 ≤ 140737488355328))
 (iteB (decide ((↑s.n : Int) = (↑s.n : Int)))
 (iteB (decide (s.n = s.n))
 (pRows s.g = pRows s.g ∧
 iteB (decide (s.n = s.n))
 (iteB (decide (0 + s.n + 1 ≤ 0 + s.n + 1))
 (iteB (decide (0 ≤ (↑s.n : Int) ∧ (↑s.n : Int) ≤ (↑(0 + s.n + 1) : Int)))
 (iteB (decide (0 + subO (Int.toNat (↑s.n : Int)) none ≤ 0 + s.n + 1))
 ((∀ (i : Nat), i < subO (Int.toNat (↑s.n : Int)) none → plainC (shiftZ 0 (catF (0 + s.n) (catF 0 (fun (x : Nat) => []) (pRows s.g)) (rowC [AV.int IntKind.i64 0, AV.int IntKind.i64 77, AV.int IntKind.i64 0, AV.arr IntKind.u8 32 zero32, AV.int IntKind.i64 0] 0 36)) i) = true) ∧
 TermS.Ok (TermS.mk t.fund t.index t.cap t.dust t.fee t.delay t.k0 t.k1) ∧
 ∃ (s_1 : ShS),
 ((s_1.num = s.num ∧ s_1.owner = s.owner ∧ s_1.point = s.point ∧ [s.a0, s.a1] = [s_1.a0, s_1.a1]) ∧ (subO (Int.toNat (↑s.n : Int)) none = subO (Int.toNat (↑s.n : Int)) none ∧ s_1.n = subO (Int.toNat (↑s.n : Int)) none) ∧ ∀ (i : Nat), i < subO (Int.toNat (↑s.n : Int)) none → shiftZ 0 (catF (0 + s.n) (catF 0 (fun (x : Nat) => []) (pRows s.g)) (rowC [AV.int IntKind.i64 0, AV.int IntKind.i64 77, AV.int IntKind.i64 0, AV.arr IntKind.u8 32 zero32, AV.int IntKind.i64 0] 0 36)) i = PendS.c (s_1.g i)) ∧
 ShS.Ok s_1 ∧
 s_1.n < 1000 ∧
 shB A (TermS.mk t.fund t.index t.cap t.dust t.fee t.delay t.k0 t.k1) s_1 = true ∧
 List.length (osAll (TermS.mk t.fund t.index t.cap t.dust t.fee t.delay t.k0 t.k1) s_1) = 0 ∧
 iteB (decide (0 + subO (Int.toNat (↑s.n : Int)) none ≤ 0 + s.n + 1))
 ((∀ (i : Nat), i < subO (Int.toNat (↑s.n : Int)) none → plainC (shiftZ 0 (catF (0 + s.n) (catF 0 (fun (x : Nat) => []) (pRows s.g)) (rowC [AV.int IntKind.i64 0, AV.int IntKind.i64 77, AV.int IntKind.i64 0, AV.arr IntKind.u8 32 zero32, AV.int IntKind.i64 0] 0 36)) i) = true) ∧
 TermS.Ok (TermS.mk t.fund t.index t.cap t.dust t.fee t.delay t.k0 t.k1) ∧
 ∃ (s_2 : ShS),
 ((s_2.num = s.num ∧ s_2.owner = s.owner ∧ s_2.point = s.point ∧ [s.a0, s.a1] = [s_2.a0, s_2.a1]) ∧ (subO (Int.toNat (↑s.n : Int)) none = subO (Int.toNat (↑s.n : Int)) none ∧ s_2.n = subO (Int.toNat (↑s.n : Int)) none) ∧ ∀ (i : Nat), i < subO (Int.toNat (↑s.n : Int)) none → shiftZ 0 (catF (0 + s.n) (catF 0 (fun (x : Nat) => []) (pRows s.g)) (rowC [AV.int IntKind.i64 0, AV.int IntKind.i64 77, AV.int IntKind.i64 0, AV.arr IntKind.u8 32 zero32, AV.int IntKind.i64 0] 0 36)) i = PendS.c (s_2.g i)) ∧
 ShS.Ok s_2 ∧
 s_2.n < 1000 ∧
 shB A (TermS.mk t.fund t.index t.cap t.dust t.fee t.delay t.k0 t.k1) s_2 = true ∧
 List.length (osAll (TermS.mk t.fund t.index t.cap t.dust t.fee t.delay t.k0 t.k1) s_2) = 0 ∧
 TermS.Ok (TermS.mk t.fund t.index t.cap t.dust t.fee t.delay t.k0 t.k1) ∧
 ∃ (s_3 : ShS),
 ((s_3.num = s.num ∧ s_3.owner = s.owner ∧ s_3.point = s.point ∧ [s.a0, s.a1] = [s_3.a0, s_3.a1]) ∧ (s.n = s.n ∧ s_3.n = s.n) ∧ ∀ (i : Nat), i < s.n → pRows s.g i = PendS.c (s_3.g i)) ∧
 ShS.Ok s_3 ∧
 s_3.n < 1000 ∧
 shB A (TermS.mk t.fund t.index t.cap t.dust t.fee t.delay t.k0 t.k1) s_3 = true ∧
 List.length (osAll (TermS.mk t.fund t.index t.cap t.dust t.fee t.delay t.k0 t.k1) s_3) = 0 ∧
 TermS.Ok (TermS.mk t.fund t.index t.cap t.dust t.fee t.delay t.k0 t.k1) ∧
 ∃ (s_4 : ShS),
 ((s_4.num = s.num ∧ s_4.owner = s.owner ∧ s_4.point = s.point ∧ [s.a0, s.a1] = [s_4.a0, s_4.a1]) ∧ (s.n = s.n ∧ s_4.n = s.n) ∧ ∀ (i : Nat), i < s.n → pRows s.g i = PendS.c (s_4.g i)) ∧
 ShS.Ok s_4 ∧
 s_4.n < 1000 ∧
 shB A (TermS.mk t.fund t.index t.cap t.dust t.fee t.delay t.k0 t.k1) s_4 = true ∧
 List.length (osAll (TermS.mk t.fund t.index t.cap t.dust t.fee t.delay t.k0 t.k1) s_4) = 0 ∧
 TermS.Ok (TermS.mk t.fund t.index t.cap t.dust t.fee t.delay t.k0 t.k1) ∧
 ∃ (s_5 : ShS),
 ((s_5.num = s.num ∧ s_5.owner = s.owner ∧ s_5.point = s.point ∧ [s.a0, s.a1] = [s_5.a0, s_5.a1]) ∧ (s.n = s.n ∧ s_5.n = s.n) ∧ ∀ (i : Nat), i < s.n → pRows s.g i = PendS.c (s_5.g i)) ∧
 s_5.n < 1000 ∧
 iteB (decide (shB A (TermS.mk t.fund t.index t.cap t.dust t.fee t.delay t.k0 t.k1) s_5 = b))
 (t.fund = t.fund ∧
 iteB (decide (t.index = t.index))
 (iteB (decide (t.cap = t.cap))
 (iteB (decide (t.dust = t.dust))
 (iteB (decide (t.fee = t.fee))
 (iteB (decide (t.delay = t.delay))
 (t.k0 = t.k0 ∧
 t.k1 = t.k1 ∧
 iteB (decide (s.num = s.num))
 (iteB (decide (s.owner = s.owner))
 (s.point = s.point ∧
 [s.a0, s.a1] = [s.a0, s.a1] ∧
 iteB (decide (s.n = s.n))
 (pRows s.g = pRows s.g ∧
 iteB (decide (s.n = s.n))
 (iteB (decide (s.num = s.num))
 (iteB (decide (s.owner = s.owner))
 (s.point = s.point ∧
 [s.a0, s.a1] = [s.a0, s.a1] ∧
 iteB (decide (subO (Int.toNat (↑s.n : Int)) none = s.n))
 (iteB (decide (s.n + 1 ≤ subO (0 + s.n + 1) none))
 (iteB (decide (0 + s.n + 1 = s.n + 1))
 (RowsEq 0 [(3, 6), (5, 8), (4, 7), (2, 3), (1, 1), (0, 0)] (s.n + 1) (pRows R) (catF (0 + s.n) (catF 0 (fun (x : Nat) => []) (pRows s.g)) (rowC [AV.int IntKind.i64 0, AV.int IntKind.i64 77, AV.int IntKind.i64 0, AV.arr IntKind.u8 32 zero32, AV.int IntKind.i64 0] 0 36)) ∧
 (r = if b = true then 0 else 2) ∧
 iteB (decide (0 + s.n ≤ s.n + 1))
 ((∀ (i : Nat), i < s.n → true = true) ∧
 TermS.Ok (TermS.mk t.fund t.index t.cap t.dust t.fee t.delay t.k0 t.k1) ∧
 ∃ (s_6 : ShS),
 ((s_6.num = s.num ∧ s_6.owner = s.owner ∧ s_6.point = s.point ∧ [s.a0, s.a1] = [s_6.a0, s_6.a1]) ∧ (s.n = s.n ∧ s_6.n = s.n) ∧ ∀ (i : Nat), i < s.n → [AV.int IntKind.i64 (R i).frm, AV.int IntKind.i64 (R i).id, AV.int IntKind.i64 (R i).amount, AV.arr IntKind.u8 32 (R i).hash, AV.int IntKind.i64 (R i).expiry] = PendS.c (s_6.g i)) ∧
 s_6.n < 1000 ∧
 iteB ((if shB A (TermS.mk t.fund t.index t.cap t.dust t.fee t.delay t.k0 t.k1) s_6 = true then 0 else 2) != r) (AV.bool false = AV.bool true)
 (∃ (a : TxS),
 ∃ (b : TxS),
 (a.num = 0 ∧ a.N = 0 ∧ a.M = 0) ∧
 (b.num = 0 ∧ b.N = 0 ∧ b.M = 0) ∧
 (TxS.Ok a ∧ TxS.Ok b) ∧
 iteB (!F a b) (AV.bool false = AV.bool true)
 (iteB (decide (M = 0))
 (iteB (decide (M = 0))
 (iteB (decide (M = 0))
 (iteB (decide (M = 0))
 (iteB (decide (s.num = s.num))
 (iteB (decide (s.owner = s.owner))
 (s.point = s.point ∧
 [s.a0, s.a1] = [s.a0, s.a1] ∧
 iteB (decide (s.n = s.n))
 (pRows s.g = pRows s.g ∧
 iteB (decide (s.n = s.n))
 (iteB (decide (s.num = s.num))
 (iteB (decide (s.owner = s.owner))
 (s.point = s.point ∧
 [s.a0, s.a1] = [s.a0, s.a1] ∧
 iteB (decide (s.n = s.n))
 (iteB (decide (s.n + 1 ≤ s.n + 1))
 (iteB (decide (s.n + 1 = s.n + 1))
 (RowsEq 0 [(2, 3), (1, 2), (0, 1)] (s.n + 1) (pRows R) (pRows R) ∧
 X = [] ∧
 X = [] ∧
 (s.n ≤ 20 ∧ M < 1000 ∧ List.length X = M) ∧
 ∀ (i : Nat),
 i ≤ M →
 (∀ (j : Nat), j < i → (fun (i : Nat) => i < M) j) →
 (i = M →
 iteB (decide (s.num = s.num))
 (iteB (decide (s.owner = s.owner))
 (s.point = s.point ∧
 [s.a0, s.a1] = [s.a0, s.a1] ∧
 iteB (decide (s.n = s.n))
 (pRows s.g = pRows s.g ∧
 iteB (decide (s.n = s.n))
 (iteB (decide (s.num = s.num)) (iteB (decide (s.owner = s.owner)) (s.point = s.point ∧ [s.a0, s.a1] = [s.a0, s.a1] ∧ iteB (decide (s.n = s.n)) (iteB (decide (s.n + 1 ≤ s.n + 1)) (iteB (decide (s.n + 1 = s.n + 1)) (RowsEq 0 [(2, 2), (1, 1), (0, 0)] (s.n + 1) (pRows R) (pRows R) ∧ (s.n ≤ 20 ∧ ShS.Ok s ∧ ∀ (j : Nat), j < s.n → R j = s.g j) ∧ ∀ (i : Nat), i ≤ s.n → (∀ (j : Nat), j < i → (fun (i : Nat) => i < s.n) j) → (i = s.n → iteB (decide (s.n ≤ s.n + 1)) (iteB (decide (0 ≤ IntKind.wrap IntKind.i64 ((↑s.n : Int) + 1) ∧ IntKind.wrap IntKind.i64 ((↑s.n : Int) + 1) ≤ (↑(s.n + 1) : Int))) (iteB (decide (0 ≤ (↑s.n : Int) ∧ (↑s.n : Int) < (↑(subO (Int.toNat (IntKind.wrap IntKind.i64 ((↑s.n : Int) + 1))) none) : Int))) (iteB (decide (0 + Int.toNat (↑s.n : Int) < s.n + 1)) (iteB ((R (0 + Int.toNat (↑s.n : Int))).id == 77) (AV.bool true = AV.bool true) (AV.bool false = AV.bool true)) False) False) False) False) ∧ (False → False) ∧ (False → False)) False) False) False) False) False) False)
 False)
 False)
 False) ∧
 (False → False) ∧ (False → False))
 False)
 False)
 False)
 False)
 False)
 False)
 False)
 False)
 False)
 False)
 False)
 False)
 False)))
 False)
 False)
 False)
 False)
 False)
 False)
 False)
 False)
 False)
 False)
 False)
 False)
 False)
 False)
 False)
 False)
 False)
 False)
 False)
 False)
 False)
 False)
 False)
 False)
 False)
 False)
 False)
 False)
 False)
 False)
 False)
 False)
 False)
 False)
 False)
 False)
 False)
 False)
 False ∧
 iteB (decide ((↑s.n : Int) = (↑s.n : Int)))
 (iteB (decide (s.n = s.n))
 (pRows s.g = pRows s.g ∧
 iteB (decide (s.n = s.n))
 (iteB (decide (s.n = s.n))
 (pRows s.g = pRows s.g ∧
 iteB (decide (s.n = s.n))
 (iteB (decide ((↑s.n : Int) = (↑s.n : Int)))
 (iteB (decide (s.n = s.n))
 (pRows s.g = pRows s.g ∧
 iteB (decide (s.n = s.n))
 (iteB (decide (s.n = s.n))
 (pRows s.g = pRows s.g ∧
 iteB (decide (s.n = s.n))
 (iteB (decide ((0 + s.n) * 64 ≤ 140737488355328))
 (iteB (decide ((↑s.n : Int) = (↑s.n : Int)))
 (iteB (decide (s.n = s.n))
 (pRows s.g = pRows s.g ∧
 iteB (decide (s.n = s.n))
 (iteB (decide (0 + s.n = 0 + s.n))
 (iteB (decide ((0 + s.n + 1) * 64 ≤ 140737488355328))
 (iteB (decide ((↑s.n : Int) = (↑s.n : Int)))
 (iteB (decide (s.n = s.n))
 (pRows s.g = pRows s.g ∧
 iteB (decide (s.n = s.n))
 (iteB (decide (0 + s.n + 1 ≤ 0 + s.n + 1))
 (iteB (decide (0 ≤ (↑s.n : Int) ∧ (↑s.n : Int) ≤ (↑(0 + s.n + 1) : Int)))
 (iteB (decide (0 + subO (Int.toNat (↑s.n : Int)) none ≤ 0 + s.n + 1))
 ((∀ (i : Nat), i < subO (Int.toNat (↑s.n : Int)) none → plainC (shiftZ 0 (catF (0 + s.n) (catF 0 (fun (x : Nat) => []) (pRows s.g)) (rowC [AV.int IntKind.i64 0, AV.int IntKind.i64 77, AV.int IntKind.i64 0, AV.arr IntKind.u8 32 zero32, AV.int IntKind.i64 0] 0 36)) i) = true) ∧
 TermS.Ok (TermS.mk t.fund t.index t.cap t.dust t.fee t.delay t.k0 t.k1) ∧
 ∃ (s_1 : ShS),
 ((s_1.num = s.num ∧ s_1.owner = s.owner ∧ s_1.point = s.point ∧ [s.a0, s.a1] = [s_1.a0, s_1.a1]) ∧ (subO (Int.toNat (↑s.n : Int)) none = subO (Int.toNat (↑s.n : Int)) none ∧ s_1.n = subO (Int.toNat (↑s.n : Int)) none) ∧ ∀ (i : Nat), i < subO (Int.toNat (↑s.n : Int)) none → shiftZ 0 (catF (0 + s.n) (catF 0 (fun (x : Nat) => []) (pRows s.g)) (rowC [AV.int IntKind.i64 0, AV.int IntKind.i64 77, AV.int IntKind.i64 0, AV.arr IntKind.u8 32 zero32, AV.int IntKind.i64 0] 0 36)) i = PendS.c (s_1.g i)) ∧
 ShS.Ok s_1 ∧
 s_1.n < 1000 ∧
 shB A (TermS.mk t.fund t.index t.cap t.dust t.fee t.delay t.k0 t.k1) s_1 = true ∧
 List.length (osAll (TermS.mk t.fund t.index t.cap t.dust t.fee t.delay t.k0 t.k1) s_1) = 0 ∧
 iteB (decide (0 + subO (Int.toNat (↑s.n : Int)) none ≤ 0 + s.n + 1))
 ((∀ (i : Nat), i < subO (Int.toNat (↑s.n : Int)) none → plainC (shiftZ 0 (catF (0 + s.n) (catF 0 (fun (x : Nat) => []) (pRows s.g)) (rowC [AV.int IntKind.i64 0, AV.int IntKind.i64 77, AV.int IntKind.i64 0, AV.arr IntKind.u8 32 zero32, AV.int IntKind.i64 0] 0 36)) i) = true) ∧
 TermS.Ok (TermS.mk t.fund t.index t.cap t.dust t.fee t.delay t.k0 t.k1) ∧
 ∃ (s_2 : ShS),
 ((s_2.num = s.num ∧ s_2.owner = s.owner ∧ s_2.point = s.point ∧ [s.a0, s.a1] = [s_2.a0, s_2.a1]) ∧ (subO (Int.toNat (↑s.n : Int)) none = subO (Int.toNat (↑s.n : Int)) none ∧ s_2.n = subO (Int.toNat (↑s.n : Int)) none) ∧ ∀ (i : Nat), i < subO (Int.toNat (↑s.n : Int)) none → shiftZ 0 (catF (0 + s.n) (catF 0 (fun (x : Nat) => []) (pRows s.g)) (rowC [AV.int IntKind.i64 0, AV.int IntKind.i64 77, AV.int IntKind.i64 0, AV.arr IntKind.u8 32 zero32, AV.int IntKind.i64 0] 0 36)) i = PendS.c (s_2.g i)) ∧
 ShS.Ok s_2 ∧
 s_2.n < 1000 ∧
 shB A (TermS.mk t.fund t.index t.cap t.dust t.fee t.delay t.k0 t.k1) s_2 = true ∧
 List.length (osAll (TermS.mk t.fund t.index t.cap t.dust t.fee t.delay t.k0 t.k1) s_2) = 0 ∧
 TermS.Ok (TermS.mk t.fund t.index t.cap t.dust t.fee t.delay t.k0 t.k1) ∧
 ∃ (s_3 : ShS),
 ((s_3.num = s.num ∧ s_3.owner = s.owner ∧ s_3.point = s.point ∧ [s.a0, s.a1] = [s_3.a0, s_3.a1]) ∧ (s.n = s.n ∧ s_3.n = s.n) ∧ ∀ (i : Nat), i < s.n → pRows s.g i = PendS.c (s_3.g i)) ∧
 ShS.Ok s_3 ∧
 s_3.n < 1000 ∧
 shB A (TermS.mk t.fund t.index t.cap t.dust t.fee t.delay t.k0 t.k1) s_3 = true ∧
 List.length (osAll (TermS.mk t.fund t.index t.cap t.dust t.fee t.delay t.k0 t.k1) s_3) = 0 ∧
 TermS.Ok (TermS.mk t.fund t.index t.cap t.dust t.fee t.delay t.k0 t.k1) ∧
 ∃ (s_4 : ShS),
 ((s_4.num = s.num ∧ s_4.owner = s.owner ∧ s_4.point = s.point ∧ [s.a0, s.a1] = [s_4.a0, s_4.a1]) ∧ (s.n = s.n ∧ s_4.n = s.n) ∧ ∀ (i : Nat), i < s.n → pRows s.g i = PendS.c (s_4.g i)) ∧
 ShS.Ok s_4 ∧
 s_4.n < 1000 ∧
 shB A (TermS.mk t.fund t.index t.cap t.dust t.fee t.delay t.k0 t.k1) s_4 = true ∧
 List.length (osAll (TermS.mk t.fund t.index t.cap t.dust t.fee t.delay t.k0 t.k1) s_4) = 0 ∧
 TermS.Ok (TermS.mk t.fund t.index t.cap t.dust t.fee t.delay t.k0 t.k1) ∧
 ∃ (s_5 : ShS),
 ((s_5.num = s.num ∧ s_5.owner = s.owner ∧ s_5.point = s.point ∧ [s.a0, s.a1] = [s_5.a0, s_5.a1]) ∧ (s.n = s.n ∧ s_5.n = s.n) ∧ ∀ (i : Nat), i < s.n → pRows s.g i = PendS.c (s_5.g i)) ∧
 s_5.n < 1000 ∧
 iteB (decide (shB A (TermS.mk t.fund t.index t.cap t.dust t.fee t.delay t.k0 t.k1) s_5 = b))
 (t.fund = t.fund ∧
 iteB (decide (t.index = t.index))
 (iteB (decide (t.cap = t.cap))
 (iteB (decide (t.dust = t.dust))
 (iteB (decide (t.fee = t.fee))
 (iteB (decide (t.delay = t.delay))
 (t.k0 = t.k0 ∧
 t.k1 = t.k1 ∧
 iteB (decide (s.num = s.num))
 (iteB (decide (s.owner = s.owner))
 (s.point = s.point ∧
 [s.a0, s.a1] = [s.a0, s.a1] ∧
 iteB (decide (s.n = s.n))
 (pRows s.g = pRows s.g ∧
 iteB (decide (s.n = s.n))
 (iteB (decide (s.num = s.num))
 (iteB (decide (s.owner = s.owner))
 (s.point = s.point ∧
 [s.a0, s.a1] = [s.a0, s.a1] ∧
 iteB (decide (subO (Int.toNat (↑s.n : Int)) none = s.n))
 (iteB (decide (s.n + 1 ≤ subO (0 + s.n + 1) none))
 (iteB (decide (0 + s.n + 1 = s.n + 1))
 (RowsEq 0 [(3, 6), (5, 8), (4, 7), (2, 3), (1, 1), (0, 0)] (s.n + 1) (pRows R) (catF (0 + s.n) (catF 0 (fun (x : Nat) => []) (pRows s.g)) (rowC [AV.int IntKind.i64 0, AV.int IntKind.i64 77, AV.int IntKind.i64 0, AV.arr IntKind.u8 32 zero32, AV.int IntKind.i64 0] 0 36)) ∧
 (r = if b = true then 0 else 2) ∧
 iteB (decide (0 + s.n ≤ s.n + 1))
 ((∀ (i : Nat), i < s.n → true = true) ∧
 TermS.Ok (TermS.mk t.fund t.index t.cap t.dust t.fee t.delay t.k0 t.k1) ∧
 ∃ (s_6 : ShS),
 ((s_6.num = s.num ∧ s_6.owner = s.owner ∧ s_6.point = s.point ∧ [s.a0, s.a1] = [s_6.a0, s_6.a1]) ∧ (s.n = s.n ∧ s_6.n = s.n) ∧ ∀ (i : Nat), i < s.n → [AV.int IntKind.i64 (R i).frm, AV.int IntKind.i64 (R i).id, AV.int IntKind.i64 (R i).amount, AV.arr IntKind.u8 32 (R i).hash, AV.int IntKind.i64 (R i).expiry] = PendS.c (s_6.g i)) ∧
 s_6.n < 1000 ∧
 iteB ((if shB A (TermS.mk t.fund t.index t.cap t.dust t.fee t.delay t.k0 t.k1) s_6 = true then 0 else 2) != r) (AV.bool false = AV.bool true)
 (∃ (a : TxS),
 ∃ (b : TxS),
 (a.num = 0 ∧ a.N = 0 ∧ a.M = 0) ∧
 (b.num = 0 ∧ b.N = 0 ∧ b.M = 0) ∧
 (TxS.Ok a ∧ TxS.Ok b) ∧
 iteB (!F a b) (AV.bool false = AV.bool true)
 (iteB (decide (M = 0))
 (iteB (decide (M = 0))
 (iteB (decide (M = 0))
 (iteB (decide (M = 0))
 (iteB (decide (s.num = s.num))
 (iteB (decide (s.owner = s.owner))
 (s.point = s.point ∧
 [s.a0, s.a1] = [s.a0, s.a1] ∧
 iteB (decide (s.n = s.n))
 (pRows s.g = pRows s.g ∧
 iteB (decide (s.n = s.n))
 (iteB (decide (s.num = s.num))
 (iteB (decide (s.owner = s.owner))
 (s.point = s.point ∧
 [s.a0, s.a1] = [s.a0, s.a1] ∧
 iteB (decide (s.n = s.n))
 (iteB (decide (s.n + 1 ≤ s.n + 1))
 (iteB (decide (s.n + 1 = s.n + 1))
 (RowsEq 0 [(2, 3), (1, 2), (0, 1)] (s.n + 1) (pRows R) (pRows R) ∧
 X = [] ∧
 X = [] ∧
 (s.n ≤ 20 ∧ M < 1000 ∧ List.length X = M) ∧
 ∀ (i : Nat),
 i ≤ M →
 (∀ (j : Nat), j < i → (fun (i : Nat) => i < M) j) →
 (i = M →
 iteB (decide (s.num = s.num))
 (iteB (decide (s.owner = s.owner))
 (s.point = s.point ∧
 [s.a0, s.a1] = [s.a0, s.a1] ∧
 iteB (decide (s.n = s.n))
 (pRows s.g = pRows s.g ∧
 iteB (decide (s.n = s.n))
 (iteB (decide (s.num = s.num)) (iteB (decide (s.owner = s.owner)) (s.point = s.point ∧ [s.a0, s.a1] = [s.a0, s.a1] ∧ iteB (decide (s.n = s.n)) (iteB (decide (s.n + 1 ≤ s.n + 1)) (iteB (decide (s.n + 1 = s.n + 1)) (RowsEq 0 [(2, 2), (1, 1), (0, 0)] (s.n + 1) (pRows R) (pRows R) ∧ (s.n ≤ 20 ∧ ShS.Ok s ∧ ∀ (j : Nat), j < s.n → R j = s.g j) ∧ ∀ (i : Nat), i ≤ s.n → (∀ (j : Nat), j < i → (fun (i : Nat) => i < s.n) j) → (i = s.n → iteB (decide (s.n ≤ s.n + 1)) (iteB (decide (0 ≤ IntKind.wrap IntKind.i64 ((↑s.n : Int) + 1) ∧ IntKind.wrap IntKind.i64 ((↑s.n : Int) + 1) ≤ (↑(s.n + 1) : Int))) (iteB (decide (0 ≤ (↑s.n : Int) ∧ (↑s.n : Int) < (↑(subO (Int.toNat (IntKind.wrap IntKind.i64 ((↑s.n : Int) + 1))) none) : Int))) (iteB (decide (0 + Int.toNat (↑s.n : Int) < s.n + 1)) (iteB ((R (0 + Int.toNat (↑s.n : Int))).id == 77) (AV.bool true = AV.bool true) (AV.bool false = AV.bool true)) False) False) False) False) ∧ (False → False) ∧ (False → False)) False) False) False) False) False) False)
 False)
 False)
 False) ∧
 (False → False) ∧ (False → False))
 False)
 False)
 False)
 False)
 False)
 False)
 False)
 False)
 False)
 False)
 False)
 False)
 False)))
 False)
 False)
 False)
 False)
 False)
 False)
 False)
 False)
 False)
 False)
 False)
 False)
 False)
 False)
 False)
 False)
 False)
 False)
 False)
 False)
 False)
 False)
 False)
 False)
 False)
 False)
 False)
 False)
 False)
 False)
 False)
 False)
 False)
 False)
 False)
 False)
 False)
 False)
 False)) (by kernel_rfl) ?_
  try simp only [need_eq]
  try simp only [nope_eq]
  try simp only [iteD_eq]
  try simp only [iteT_eq]
  try simp only [iteF_eq]
  try simp only [iteE_eq]
  try simp only [Int.toNat_natCast, Nat.zero_add, true_and, and_true, Nat.le_refl]
  have e0 : (TermS.mk t.fund t.index t.cap t.dust t.fee t.delay t.k0 t.k1) = t := rfl
  rw [e0]
  have n20 := hC.n20
  have w1 : IntKind.i64.wrap ((s.n : Int) + 1) = ((s.n + 1 : Nat) : Int) := by rw [w64 (by omega)]; omega
  simp only [subO_none, w1]
  have hp : ∀ i, i < s.n → plainC (shiftZ 0 (cmW s) i) = true := fun i hi => by
    show plainC (cmW s i) = true
    rw [cmW_lt s hi]; rfl
  have hW : ∀ i, i < s.n → shiftZ 0 (cmW s) i = (s.g i).c := fun i hi => cmW_lt s hi
  have hR : ∀ τ, RowsEq 0 τ (s.n + 1) (pRows R) (cmW s) := fun τ => pRowsEq fun i hi => cmW_eq hC hi
  have hR2 : ∀ τ, RowsEq 0 τ (s.n + 1) (pRows R) (pRows R) := fun τ => pRowsEq fun i hi => rfl
  have hr' : r = if b = true then 0 else 2 := by rw [hr, hb]; rfl
  have hR3 : ∀ i, i < s.n → PendS.c (R i) = (s.g i).c := fun i hi => by rw [hC.hR i hi]
  have hc1 : ¬ ((if shB A t s = true then (0 : Int) else 2) != r) = true := by rw [hsb, hr]; simp
  have hc3 : ¬ ((R s.n).id == 77) = false := by rw [hC.hE]; decide
  have hc2 : ¬ (!F tx0 tx0) = true := by subst hF; rw [sameT_refl]; simp
  refine ⟨fun _ => trivial, fun _ => ⟨?_, ?_⟩⟩
  all_goals
    repeat' (first
      | exact hsb.trans hb.symm
      | exact hr'
      | exact fun _ _ => trivial
      | exact fun h => absurd h hc1
      | exact fun h => absurd h hc2
      | exact fun h => absurd h hc3
      | exact hM
      | exact hX
      | exact ⟨n20, by omega, by rw [hX, hM]; rfl⟩
      | exact ⟨n20, hC.hs, hC.hR⟩
      | (refine ⟨s, ⟨⟨rfl, rfl, rfl, rfl⟩, rfl, hR3⟩, ?_⟩)
      | exact ht
      | exact hC.hs
      | exact hsb
      | exact h0
      | exact hp
      | exact hR _
      | exact hR2 _
      | exact trivial
      | (refine ⟨s, ⟨⟨rfl, rfl, rfl, rfl⟩, rfl, hW⟩, ?_⟩)
      | (refine ⟨s, ⟨⟨rfl, rfl, rfl, rfl⟩, rfl, fun _ _ => rfl⟩, ?_⟩)
      | (refine ⟨tx0, tx0, ⟨rfl, rfl, rfl⟩, ⟨rfl, rfl, rfl⟩, ⟨tx0_ok, tx0_ok⟩, ?_⟩)
      | refine And.intro ?_ ?_
      | omega
      | rfl
      | intro _)
set_option maxRecDepth 100000 in
set_option maxHeartbeats 0 in
theorem cmk_Y (A : List Int → Int × Int) (F : TxS → TxS → Bool) (t : TermS) (s : ShS) (R : Nat → PendS) (M : Nat) (X : List Int) (n : Nat) (L : List MadeS) (ow ot r : Int) (b : Bool) (ht : t.Ok) (hfu : t.fund.length = 32) (hC : CmC s R) (hF : F = sameT) (hL : L = sortM (osAll t s)) (hn : n = L.length) (h0 : n ≠ 0) (hLok : ∀ m ∈ L, m.Ok) (h20 : n < 20) (hM : M = s.n) (hX : X = plX L n s.n) (hsb : shB A t s = true) (hb : b = true) (hr : r = 0) (how : ow = plN L (-1) n) (hot : ot = plN L (-2) n) :
    evF (E106 A F s R M X (comY A) (plcY A) (cmJY t s R n M L X ow ot r b)) 20 3 [.agg t.c, .agg s.c] ⟨0, []⟩ (outV (fun v => v = .bool true)) := by
  refine @Eq.mpr _ (let q1 := s.n;
 let q2 := (↑q1 : Int);
 let q3 := AV.bool true;
 let q4 := q3 = q3;
 let q5 := decide (q2 = q2);
 let q6 := decide (q1 = q1);
 let q7 := pRows s.g;
 let q8 := q7 = q7;
 let q9 := 0 + q1;
 let q10 := decide (q9 * 64 ≤ 140737488355328);
 let q11 := decide (q9 = q9);
 let q12 := q9 + 1;
 let q13 := decide (q12 * 64 ≤ 140737488355328);
 let q14 := decide (q12 ≤ q12);
 let q15 := decide (0 ≤ q2 ∧ q2 ≤ (↑q12 : Int));
 let q16 := Int.toNat q2;
 let q17 := subO q16 none;
 let q18 := decide (0 + q17 ≤ q12);
 let q19 := AV.int IntKind.i64 0;
 let q20 := catF q9 (catF 0 (fun (x : Nat) => []) q7) (rowC [q19, AV.int IntKind.i64 77, q19, AV.arr IntKind.u8 32 zero32, q19] 0 36);
 let q21 := t.fund;
 let q22 := t.index;
 let q23 := t.cap;
 let q24 := t.dust;
 let q25 := t.fee;
 let q26 := t.delay;
 let q27 := t.k0;
 let q28 := t.k1;
 let q29 := TermS.mk q21 q22 q23 q24 q25 q26 q27 q28;
 let q30 := TermS.Ok q29;
 let q31 := s.num;
 let q32 := s.owner;
 let q33 := s.point;
 let q34 := [s.a0, s.a1];
 let q35 := q17 = q17;
 let q36 := decide (q31 = q31);
 let q37 := decide (q32 = q32);
 let q38 := q33 = q33;
 let q39 := q34 = q34;
 let q40 := q1 + 1;
 let q41 := [(1, 1), (0, 0)];
 let q42 := (9, 12) :: (8, 11) :: (7, 8) :: (6, 7) :: (3, 6) :: (11, 14) :: (5, 13) :: (10, 10) :: (4, 9) :: (2, 3) :: q41;
 let q43 := pRows R;
 let q44 := InS.mk q21 q22 1 zero32 zero32 zero32;
 let q45 := inOf t;
 let q46 := q45.name;
 let q47 := q44.name = q46;
 let q48 := q45.index;
 let q49 := decide (q44.index = q48);
 let q50 := q45.tag;
 let q51 := q44.tag = q50;
 let q52 := q45.also;
 let q53 := q44.also = q52;
 let q54 := q45.secret;
 let q55 := q44.secret = q54;
 let q56 := outRows (mOuts L);
 let q57 := AV.bool false = q3;
 let q58 := decide (M = M);
 let q59 := decide (M ≤ M);
 let q60 := decide (q40 ≤ q40);
 let q61 := decide (q40 = q40);
 let q62 := q1 ≤ 20;
 let q63 := IntKind.wrap IntKind.i64 (q2 + 1);
 let q64 := 0 + q16;
 let q65 := (False → False) ∧ (False → False);
 let q66 := decide (0 + q17 ≤ q12);
 let q67 := decide (0 + q17 ≤ q12);
 iteB (!decide (q2 ≤ 20)) q4
 (iteB q5
 (iteB q6
 (q8 ∧
 iteB q6
 (iteB q6
 (q8 ∧
 iteB q6
 (iteB q10
 (iteB q5
 (iteB q6
 (q8 ∧
 iteB q6
 (iteB q5
 (iteB q6
 (q8 ∧
 iteB q6
 (iteB q11
 (iteB q13
 (iteB q5
 (iteB q6
 (q8 ∧
 iteB q6
 (iteB q14
 (iteB q15
 (iteB q18
 ((∀ (i : Nat), i < q17 → plainC (shiftZ 0 q20 i) = true) ∧
 q30 ∧
 ∃ (s_1 : ShS),
 ∃ (n_1 : Nat),
 let q135 := decide (n_1 = n);
 ∃ (L_1 : List MadeS),
 ((s_1.num = q31 ∧ s_1.owner = q32 ∧ s_1.point = q33 ∧ q34 = [s_1.a0, s_1.a1]) ∧ (q35 ∧ s_1.n = q17) ∧ ∀ (i : Nat), i < q17 → shiftZ 0 q20 i = PendS.c (s_1.g i)) ∧
 ShS.Ok s_1 ∧
 s_1.n < 1000 ∧
 shB A q29 s_1 = true ∧
 (L_1 = sortM (osAll q29 s_1) ∧ n_1 = List.length L_1 ∧ n_1 ≠ 0) ∧
 iteB q18
 ((∀ (i : Nat), i < q17 → plainC (shiftZ 0 q20 i) = true) ∧
 q30 ∧
 ∃ (s_2 : ShS),
 let q137 := s_2.n;
 ∃ (n_2 : Nat),
 ∃ (m : Nat),
 ∃ (L_2 : List MadeS),
 ∃ (X_1 : List Int),
 ∃ (a : Int),
 ∃ (b_1 : Int),
 ((s_2.num = q31 ∧ s_2.owner = q32 ∧ s_2.point = q33 ∧ q34 = [s_2.a0, s_2.a1]) ∧ (q35 ∧ q137 = q17) ∧ ∀ (i : Nat), i < q17 → shiftZ 0 q20 i = PendS.c (s_2.g i)) ∧
 ShS.Ok s_2 ∧
 q137 < 1000 ∧
 shB A q29 s_2 = true ∧
 (L_2 = sortM (osAll q29 s_2) ∧ n_2 = List.length L_2 ∧ n_2 ≠ 0 ∧ m = q137 ∧ X_1 = plX L_2 n_2 m ∧ a = plN L_2 (-1) n_2 ∧ b_1 = plN L_2 (-2) n_2) ∧
 q30 ∧
 ∃ (s_3 : ShS),
 ∃ (n_3 : Nat),
 let q139 := decide (n_3 = n);
 ∃ (L_3 : List MadeS),
 ((s_3.num = q31 ∧ s_3.owner = q32 ∧ s_3.point = q33 ∧ q34 = [s_3.a0, s_3.a1]) ∧ (q1 = q1 ∧ s_3.n = q1) ∧ ∀ (i : Nat), i < q1 → q7 i = PendS.c (s_3.g i)) ∧
 ShS.Ok s_3 ∧
 s_3.n < 1000 ∧
 shB A q29 s_3 = true ∧
 (L_3 = sortM (osAll q29 s_3) ∧ n_3 = List.length L_3 ∧ n_3 ≠ 0) ∧
 q30 ∧
 ∃ (s_4 : ShS),
 let q141 := s_4.n;
 ∃ (n_4 : Nat),
 ∃ (m_1 : Nat),
 ∃ (L_4 : List MadeS),
 ∃ (X_2 : List Int),
 ∃ (a_1 : Int),
 ∃ (b_2 : Int),
 ((s_4.num = q31 ∧ s_4.owner = q32 ∧ s_4.point = q33 ∧ q34 = [s_4.a0, s_4.a1]) ∧ (q1 = q1 ∧ q141 = q1) ∧ ∀ (i : Nat), i < q1 → q7 i = PendS.c (s_4.g i)) ∧
 ShS.Ok s_4 ∧
 q141 < 1000 ∧
 shB A q29 s_4 = true ∧
 (L_4 = sortM (osAll q29 s_4) ∧ n_4 = List.length L_4 ∧ n_4 ≠ 0 ∧ m_1 = q141 ∧ X_2 = plX L_4 n_4 m_1 ∧ a_1 = plN L_4 (-1) n_4 ∧ b_2 = plN L_4 (-2) n_4) ∧
 q30 ∧
 ∃ (s_5 : ShS),
 ((s_5.num = q31 ∧ s_5.owner = q32 ∧ s_5.point = q33 ∧ q34 = [s_5.a0, s_5.a1]) ∧ (q1 = q1 ∧ s_5.n = q1) ∧ ∀ (i : Nat), i < q1 → q7 i = PendS.c (s_5.g i)) ∧
 s_5.n < 1000 ∧
 iteB (decide (m = M))
 (iteB (decide (M ≤ m))
 (iteB (decide (a = ow))
 (iteB (decide (b_1 = ot))
 (iteB (decide (m_1 = M))
 (iteB (decide (M ≤ m_1))
 (iteB (decide (a_1 = ow))
 (iteB (decide (b_2 = ot))
 (iteB (decide (shB A q29 s_5 = b))
 (q21 = q21 ∧
 iteB (decide (q22 = q22))
 (iteB (decide (q23 = q23))
 (iteB (decide (q24 = q24))
 (iteB (decide (q25 = q25))
 (iteB (decide (q26 = q26))
 (q27 = q27 ∧
 q28 = q28 ∧
 iteB q36
 (iteB q37
 (q38 ∧
 q39 ∧
 iteB q6
 (q8 ∧
 iteB q6
 (iteB q36
 (iteB q37
 (q38 ∧
 q39 ∧
 iteB (decide (q17 = q1))
 (iteB (decide (q40 ≤ subO q12 none))
 (iteB (decide (q12 = q40))
 (RowsEq 0 q42 q40 q43 q20 ∧
 iteB (decide (s_1.num = q31))
 (iteB q135
 (iteB (decide (n ≤ n_1))
 (iteB (decide (s_3.num = q31))
 (iteB q139
 (iteB (decide (n ≤ n_3))
 (q47 ∧
 iteB q49
 (q51 ∧
 q53 ∧
 q55 ∧
 iteB q135
 (RowsEq 0 q42 n q56 (outRows (mOuts L_1)) ∧
 q47 ∧
 iteB q49
 (q51 ∧
 q53 ∧
 q55 ∧
 iteB q139
 (RowsEq 0 q42 n q56 (outRows (mOuts L_3)) ∧
 X_1 = X ∧
 X_2 = X ∧
 (r = if b = true then 0 else 2) ∧
 iteB (decide (q9 ≤ q40))
 ((∀ (i : Nat), i < q1 → true = true) ∧
 q30 ∧
 ∃ (s_6 : ShS),
 ((s_6.num = q31 ∧ s_6.owner = q32 ∧ s_6.point = q33 ∧ q34 = [s_6.a0, s_6.a1]) ∧ (q1 = q1 ∧ s_6.n = q1) ∧ ∀ (i : Nat), i < q1 → [AV.int IntKind.i64 (R i).frm, AV.int IntKind.i64 (R i).id, AV.int IntKind.i64 (R i).amount, AV.arr IntKind.u8 32 (R i).hash, AV.int IntKind.i64 (R i).expiry] = PendS.c (s_6.g i)) ∧
 s_6.n < 1000 ∧
 iteB ((if shB A q29 s_6 = true then 0 else 2) != r) q57
 (iteB (decide (0 + n ≤ n))
 ((∀ (i : Nat), i < n → true = true) ∧
 iteB (decide (0 + n ≤ n))
 ((∀ (i : Nat), i < n → true = true) ∧
 ∃ (a : TxS),
 ∃ (b : TxS),
 (a.num = q31 ∧
 (((1 : Nat) = 1 ∧ a.N = 1) ∧ ∀ (i : Nat), i < 1 → rowC [AV.arr IntKind.u8 32 q46, AV.int IntKind.i64 q48, AV.int IntKind.i64 q45.way, AV.arr IntKind.u8 32 q50, AV.arr IntKind.u8 32 q52, AV.arr IntKind.u8 32 q54] 0 130 i = InS.c (a.ins i)) ∧
 (n = n ∧ a.M = n) ∧
 ∀ (i : Nat),
 let q143 := mOuts L i;
 i < n → [AV.int IntKind.i64 q143.kind, AV.int IntKind.i64 q143.amount, AV.arr IntKind.u8 32 q143.owner, AV.arr IntKind.u8 32 q143.other, AV.arr IntKind.u8 32 q143.point, AV.arr IntKind.u8 32 q143.hash, AV.int IntKind.i64 q143.delay, AV.int IntKind.i64 q143.expiry] = OutS.c (a.outs i)) ∧
 (b.num = q31 ∧
 (((1 : Nat) = 1 ∧ b.N = 1) ∧ ∀ (i : Nat), i < 1 → rowC [AV.arr IntKind.u8 32 q46, AV.int IntKind.i64 q48, AV.int IntKind.i64 q45.way, AV.arr IntKind.u8 32 q50, AV.arr IntKind.u8 32 q52, AV.arr IntKind.u8 32 q54] 0 130 i = InS.c (b.ins i)) ∧
 (n = n ∧ b.M = n) ∧
 ∀ (i : Nat),
 let q143 := mOuts L i;
 i < n → [AV.int IntKind.i64 q143.kind, AV.int IntKind.i64 q143.amount, AV.arr IntKind.u8 32 q143.owner, AV.arr IntKind.u8 32 q143.other, AV.arr IntKind.u8 32 q143.point, AV.arr IntKind.u8 32 q143.hash, AV.int IntKind.i64 q143.delay, AV.int IntKind.i64 q143.expiry] = OutS.c (b.outs i)) ∧
 (TxS.Ok a ∧ TxS.Ok b) ∧
 iteB (!F a b) q57
 (iteB ((↑M : Int) != (↑M : Int)) q57
 (iteB (ow != ow) q57
 (iteB (ot != ot) q57
 (iteB q58
 (iteB q59
 (iteB q58
 (iteB q59 (iteB q36 (iteB q37 (q38 ∧ q39 ∧ iteB q6 (q8 ∧ iteB q6 (iteB q36 (iteB q37 (q38 ∧ q39 ∧ iteB q6 (iteB q60 (iteB q61 (RowsEq 0 [(2, 3), (1, 2), (0, 1), (4, 11), (3, 10)] q40 q43 q43 ∧ X = X ∧ X = X ∧ (q62 ∧ M < 1000 ∧ List.length X = M) ∧ ∀ (i : Nat), i ≤ M → (∀ (j : Nat), j < i → (fun (i : Nat) => i < M) j) → (i = M → iteB q36 (iteB q37 (q38 ∧ q39 ∧ iteB q6 (q8 ∧ iteB q6 (iteB q36 (iteB q37 (q38 ∧ q39 ∧ iteB q6 (iteB q60 (iteB q61 (RowsEq 0 ((2, 2) :: q41) q40 q43 q43 ∧ (q62 ∧ ShS.Ok s ∧ ∀ (j : Nat), j < q1 → R j = s.g j) ∧ ∀ (i : Nat), i ≤ q1 → (∀ (j : Nat), j < i → (fun (i : Nat) => i < q1) j) → (i = q1 → iteB (decide (q1 ≤ q40)) (iteB (decide (0 ≤ q63 ∧ q63 ≤ (↑q40 : Int))) (iteB (decide (0 ≤ q2 ∧ q2 < (↑(subO (Int.toNat q63) none) : Int))) (iteB (decide (q64 < q40)) (iteB ((R q64).id == 77) q4 q57) False) False) False) False) ∧ q65) False) False) False) False) False) False) False) False) False) ∧ q65) False) False) False) False) False) False) False) False) False) False)
 False)
 False)
 False)))))
 False)
 False))
 False)
 False)
 False)
 False)
 False)
 False)
 False)
 False)
 False)
 False)
 False)
 False)
 False)
 False)
 False)
 False)
 False)
 False)
 False)
 False)
 False)
 False)
 False)
 False)
 False)
 False)
 False)
 False)
 False)
 False)
 False)
 False)
 False)
 False)
 False)
 False)
 False)
 False)
 False)
 False)
 False)
 False)
 False)
 False)
 False)
 False)
 False)
 False)
 False)
 False ∧
 iteB q5
 (iteB q6
 (q8 ∧
 iteB q6
 (iteB q6
 (q8 ∧
 iteB q6
 (iteB q10
 (iteB q5
 (iteB q6
 (q8 ∧
 iteB q6
 (iteB q11
 (iteB q13
 (iteB q5
 (iteB q6
 (q8 ∧
 iteB q6
 (iteB q14
 (iteB q15
 (iteB q66
 ((∀ (i : Nat), i < q17 → plainC (shiftZ 0 q20 i) = true) ∧
 q30 ∧
 ∃ (s_1 : ShS),
 ∃ (n_1 : Nat),
 let q135 := decide (n_1 = n);
 ∃ (L_1 : List MadeS),
 ((s_1.num = q31 ∧ s_1.owner = q32 ∧ s_1.point = q33 ∧ q34 = [s_1.a0, s_1.a1]) ∧ (q35 ∧ s_1.n = q17) ∧ ∀ (i : Nat), i < q17 → shiftZ 0 q20 i = PendS.c (s_1.g i)) ∧
 ShS.Ok s_1 ∧
 s_1.n < 1000 ∧
 shB A q29 s_1 = true ∧
 (L_1 = sortM (osAll q29 s_1) ∧ n_1 = List.length L_1 ∧ n_1 ≠ 0) ∧
 iteB q66
 ((∀ (i : Nat), i < q17 → plainC (shiftZ 0 q20 i) = true) ∧
 q30 ∧
 ∃ (s_2 : ShS),
 let q137 := s_2.n;
 ∃ (n_2 : Nat),
 ∃ (m : Nat),
 ∃ (L_2 : List MadeS),
 ∃ (X_1 : List Int),
 ∃ (a : Int),
 ∃ (b_1 : Int),
 ((s_2.num = q31 ∧ s_2.owner = q32 ∧ s_2.point = q33 ∧ q34 = [s_2.a0, s_2.a1]) ∧ (q35 ∧ q137 = q17) ∧ ∀ (i : Nat), i < q17 → shiftZ 0 q20 i = PendS.c (s_2.g i)) ∧
 ShS.Ok s_2 ∧
 q137 < 1000 ∧
 shB A q29 s_2 = true ∧
 (L_2 = sortM (osAll q29 s_2) ∧ n_2 = List.length L_2 ∧ n_2 ≠ 0 ∧ m = q137 ∧ X_1 = plX L_2 n_2 m ∧ a = plN L_2 (-1) n_2 ∧ b_1 = plN L_2 (-2) n_2) ∧
 q30 ∧
 ∃ (s_3 : ShS),
 ∃ (n_3 : Nat),
 let q139 := decide (n_3 = n);
 ∃ (L_3 : List MadeS),
 ((s_3.num = q31 ∧ s_3.owner = q32 ∧ s_3.point = q33 ∧ q34 = [s_3.a0, s_3.a1]) ∧ (q1 = q1 ∧ s_3.n = q1) ∧ ∀ (i : Nat), i < q1 → q7 i = PendS.c (s_3.g i)) ∧
 ShS.Ok s_3 ∧
 s_3.n < 1000 ∧
 shB A q29 s_3 = true ∧
 (L_3 = sortM (osAll q29 s_3) ∧ n_3 = List.length L_3 ∧ n_3 ≠ 0) ∧
 q30 ∧
 ∃ (s_4 : ShS),
 let q141 := s_4.n;
 ∃ (n_4 : Nat),
 ∃ (m_1 : Nat),
 ∃ (L_4 : List MadeS),
 ∃ (X_2 : List Int),
 ∃ (a_1 : Int),
 ∃ (b_2 : Int),
 ((s_4.num = q31 ∧ s_4.owner = q32 ∧ s_4.point = q33 ∧ q34 = [s_4.a0, s_4.a1]) ∧ (q1 = q1 ∧ q141 = q1) ∧ ∀ (i : Nat), i < q1 → q7 i = PendS.c (s_4.g i)) ∧
 ShS.Ok s_4 ∧
 q141 < 1000 ∧
 shB A q29 s_4 = true ∧
 (L_4 = sortM (osAll q29 s_4) ∧ n_4 = List.length L_4 ∧ n_4 ≠ 0 ∧ m_1 = q141 ∧ X_2 = plX L_4 n_4 m_1 ∧ a_1 = plN L_4 (-1) n_4 ∧ b_2 = plN L_4 (-2) n_4) ∧
 q30 ∧
 ∃ (s_5 : ShS),
 ((s_5.num = q31 ∧ s_5.owner = q32 ∧ s_5.point = q33 ∧ q34 = [s_5.a0, s_5.a1]) ∧ (q1 = q1 ∧ s_5.n = q1) ∧ ∀ (i : Nat), i < q1 → q7 i = PendS.c (s_5.g i)) ∧
 s_5.n < 1000 ∧
 iteB (decide (m = M))
 (iteB (decide (M ≤ m))
 (iteB (decide (a = ow))
 (iteB (decide (b_1 = ot))
 (iteB (decide (m_1 = M))
 (iteB (decide (M ≤ m_1))
 (iteB (decide (a_1 = ow))
 (iteB (decide (b_2 = ot))
 (iteB (decide (shB A q29 s_5 = b))
 (q21 = q21 ∧
 iteB (decide (q22 = q22))
 (iteB (decide (q23 = q23))
 (iteB (decide (q24 = q24))
 (iteB (decide (q25 = q25))
 (iteB (decide (q26 = q26))
 (q27 = q27 ∧
 q28 = q28 ∧
 iteB q36
 (iteB q37
 (q38 ∧
 q39 ∧
 iteB q6
 (q8 ∧
 iteB q6
 (iteB q36
 (iteB q37
 (q38 ∧
 q39 ∧
 iteB (decide (q17 = q1))
 (iteB (decide (q40 ≤ subO q12 none))
 (iteB (decide (q12 = q40))
 (RowsEq 0 q42 q40 q43 q20 ∧
 iteB (decide (s_1.num = q31))
 (iteB q135
 (iteB (decide (n ≤ n_1))
 (iteB (decide (s_3.num = q31))
 (iteB q139
 (iteB (decide (n ≤ n_3))
 (q47 ∧
 iteB q49
 (q51 ∧
 q53 ∧
 q55 ∧
 iteB q135
 (RowsEq 0 q42 n q56 (outRows (mOuts L_1)) ∧
 q47 ∧
 iteB q49
 (q51 ∧
 q53 ∧
 q55 ∧
 iteB q139
 (RowsEq 0 q42 n q56 (outRows (mOuts L_3)) ∧
 X_1 = X ∧
 X_2 = X ∧
 (r = if b = true then 0 else 2) ∧
 iteB (decide (q9 ≤ q40))
 ((∀ (i : Nat), i < q1 → true = true) ∧
 q30 ∧
 ∃ (s_6 : ShS),
 ((s_6.num = q31 ∧ s_6.owner = q32 ∧ s_6.point = q33 ∧ q34 = [s_6.a0, s_6.a1]) ∧ (q1 = q1 ∧ s_6.n = q1) ∧ ∀ (i : Nat), i < q1 → [AV.int IntKind.i64 (R i).frm, AV.int IntKind.i64 (R i).id, AV.int IntKind.i64 (R i).amount, AV.arr IntKind.u8 32 (R i).hash, AV.int IntKind.i64 (R i).expiry] = PendS.c (s_6.g i)) ∧
 s_6.n < 1000 ∧
 iteB ((if shB A q29 s_6 = true then 0 else 2) != r) q57
 (iteB (decide (0 + n ≤ n))
 ((∀ (i : Nat), i < n → true = true) ∧
 iteB (decide (0 + n ≤ n))
 ((∀ (i : Nat), i < n → true = true) ∧
 ∃ (a : TxS),
 ∃ (b : TxS),
 (a.num = q31 ∧
 (((1 : Nat) = 1 ∧ a.N = 1) ∧ ∀ (i : Nat), i < 1 → rowC [AV.arr IntKind.u8 32 q46, AV.int IntKind.i64 q48, AV.int IntKind.i64 q45.way, AV.arr IntKind.u8 32 q50, AV.arr IntKind.u8 32 q52, AV.arr IntKind.u8 32 q54] 0 130 i = InS.c (a.ins i)) ∧
 (n = n ∧ a.M = n) ∧
 ∀ (i : Nat),
 let q143 := mOuts L i;
 i < n → [AV.int IntKind.i64 q143.kind, AV.int IntKind.i64 q143.amount, AV.arr IntKind.u8 32 q143.owner, AV.arr IntKind.u8 32 q143.other, AV.arr IntKind.u8 32 q143.point, AV.arr IntKind.u8 32 q143.hash, AV.int IntKind.i64 q143.delay, AV.int IntKind.i64 q143.expiry] = OutS.c (a.outs i)) ∧
 (b.num = q31 ∧
 (((1 : Nat) = 1 ∧ b.N = 1) ∧ ∀ (i : Nat), i < 1 → rowC [AV.arr IntKind.u8 32 q46, AV.int IntKind.i64 q48, AV.int IntKind.i64 q45.way, AV.arr IntKind.u8 32 q50, AV.arr IntKind.u8 32 q52, AV.arr IntKind.u8 32 q54] 0 130 i = InS.c (b.ins i)) ∧
 (n = n ∧ b.M = n) ∧
 ∀ (i : Nat),
 let q143 := mOuts L i;
 i < n → [AV.int IntKind.i64 q143.kind, AV.int IntKind.i64 q143.amount, AV.arr IntKind.u8 32 q143.owner, AV.arr IntKind.u8 32 q143.other, AV.arr IntKind.u8 32 q143.point, AV.arr IntKind.u8 32 q143.hash, AV.int IntKind.i64 q143.delay, AV.int IntKind.i64 q143.expiry] = OutS.c (b.outs i)) ∧
 (TxS.Ok a ∧ TxS.Ok b) ∧
 iteB (!F a b) q57
 (iteB ((↑M : Int) != (↑M : Int)) q57
 (iteB (ow != ow) q57
 (iteB (ot != ot) q57
 (iteB q58
 (iteB q59
 (iteB q58
 (iteB q59 (iteB q36 (iteB q37 (q38 ∧ q39 ∧ iteB q6 (q8 ∧ iteB q6 (iteB q36 (iteB q37 (q38 ∧ q39 ∧ iteB q6 (iteB q60 (iteB q61 (RowsEq 0 [(2, 3), (1, 2), (0, 1), (4, 11), (3, 10)] q40 q43 q43 ∧ X = X ∧ X = X ∧ (q62 ∧ M < 1000 ∧ List.length X = M) ∧ ∀ (i : Nat), i ≤ M → (∀ (j : Nat), j < i → (fun (i : Nat) => i < M) j) → (i = M → iteB q36 (iteB q37 (q38 ∧ q39 ∧ iteB q6 (q8 ∧ iteB q6 (iteB q36 (iteB q37 (q38 ∧ q39 ∧ iteB q6 (iteB q60 (iteB q61 (RowsEq 0 ((2, 2) :: q41) q40 q43 q43 ∧ (q62 ∧ ShS.Ok s ∧ ∀ (j : Nat), j < q1 → R j = s.g j) ∧ ∀ (i : Nat), i ≤ q1 → (∀ (j : Nat), j < i → (fun (i : Nat) => i < q1) j) → (i = q1 → iteB (decide (q1 ≤ q40)) (iteB (decide (0 ≤ q63 ∧ q63 ≤ (↑q40 : Int))) (iteB (decide (0 ≤ q2 ∧ q2 < (↑(subO (Int.toNat q63) none) : Int))) (iteB (decide (q64 < q40)) (iteB ((R q64).id == 77) q4 q57) False) False) False) False) ∧ q65) False) False) False) False) False) False) False) False) False) ∧ q65) False) False) False) False) False) False) False) False) False) False)
 False)
 False)
 False)))))
 False)
 False))
 False)
 False)
 False)
 False)
 False)
 False)
 False)
 False)
 False)
 False)
 False)
 False)
 False)
 False)
 False)
 False)
 False)
 False)
 False)
 False)
 False)
 False)
 False)
 False)
 False)
 False)
 False)
 False)
 False)
 False)
 False)
 False)
 False)
 False)
 False)
 False)
 False)
 False)
 False)
 False)
 False)
 False)
 False)
 False)
 False)
 False)
 False)
 False)
 False)
 False)
 False)
 False)
 False)
 False)
 False)
 False)
 False ∧
 iteB q5
 (iteB q6
 (q8 ∧
 iteB q6
 (iteB q6
 (q8 ∧
 iteB q6
 (iteB q5
 (iteB q6
 (q8 ∧
 iteB q6
 (iteB q6
 (q8 ∧
 iteB q6
 (iteB q10
 (iteB q5
 (iteB q6
 (q8 ∧
 iteB q6
 (iteB q11
 (iteB q13
 (iteB q5
 (iteB q6
 (q8 ∧
 iteB q6
 (iteB q14
 (iteB q15
 (iteB q67
 ((∀ (i : Nat), i < q17 → plainC (shiftZ 0 q20 i) = true) ∧
 q30 ∧
 ∃ (s_1 : ShS),
 ∃ (n_1 : Nat),
 let q135 := decide (n_1 = n);
 ∃ (L_1 : List MadeS),
 ((s_1.num = q31 ∧ s_1.owner = q32 ∧ s_1.point = q33 ∧ q34 = [s_1.a0, s_1.a1]) ∧ (q35 ∧ s_1.n = q17) ∧ ∀ (i : Nat), i < q17 → shiftZ 0 q20 i = PendS.c (s_1.g i)) ∧
 ShS.Ok s_1 ∧
 s_1.n < 1000 ∧
 shB A q29 s_1 = true ∧
 (L_1 = sortM (osAll q29 s_1) ∧ n_1 = List.length L_1 ∧ n_1 ≠ 0) ∧
 iteB q67
 ((∀ (i : Nat), i < q17 → plainC (shiftZ 0 q20 i) = true) ∧
 q30 ∧
 ∃ (s_2 : ShS),
 let q137 := s_2.n;
 ∃ (n_2 : Nat),
 ∃ (m : Nat),
 ∃ (L_2 : List MadeS),
 ∃ (X_1 : List Int),
 ∃ (a : Int),
 ∃ (b_1 : Int),
 ((s_2.num = q31 ∧ s_2.owner = q32 ∧ s_2.point = q33 ∧ q34 = [s_2.a0, s_2.a1]) ∧ (q35 ∧ q137 = q17) ∧ ∀ (i : Nat), i < q17 → shiftZ 0 q20 i = PendS.c (s_2.g i)) ∧
 ShS.Ok s_2 ∧
 q137 < 1000 ∧
 shB A q29 s_2 = true ∧
 (L_2 = sortM (osAll q29 s_2) ∧ n_2 = List.length L_2 ∧ n_2 ≠ 0 ∧ m = q137 ∧ X_1 = plX L_2 n_2 m ∧ a = plN L_2 (-1) n_2 ∧ b_1 = plN L_2 (-2) n_2) ∧
 q30 ∧
 ∃ (s_3 : ShS),
 ∃ (n_3 : Nat),
 let q139 := decide (n_3 = n);
 ∃ (L_3 : List MadeS),
 ((s_3.num = q31 ∧ s_3.owner = q32 ∧ s_3.point = q33 ∧ q34 = [s_3.a0, s_3.a1]) ∧ (q1 = q1 ∧ s_3.n = q1) ∧ ∀ (i : Nat), i < q1 → q7 i = PendS.c (s_3.g i)) ∧
 ShS.Ok s_3 ∧
 s_3.n < 1000 ∧
 shB A q29 s_3 = true ∧
 (L_3 = sortM (osAll q29 s_3) ∧ n_3 = List.length L_3 ∧ n_3 ≠ 0) ∧
 q30 ∧
 ∃ (s_4 : ShS),
 let q141 := s_4.n;
 ∃ (n_4 : Nat),
 ∃ (m_1 : Nat),
 ∃ (L_4 : List MadeS),
 ∃ (X_2 : List Int),
 ∃ (a_1 : Int),
 ∃ (b_2 : Int),
 ((s_4.num = q31 ∧ s_4.owner = q32 ∧ s_4.point = q33 ∧ q34 = [s_4.a0, s_4.a1]) ∧ (q1 = q1 ∧ q141 = q1) ∧ ∀ (i : Nat), i < q1 → q7 i = PendS.c (s_4.g i)) ∧
 ShS.Ok s_4 ∧
 q141 < 1000 ∧
 shB A q29 s_4 = true ∧
 (L_4 = sortM (osAll q29 s_4) ∧ n_4 = List.length L_4 ∧ n_4 ≠ 0 ∧ m_1 = q141 ∧ X_2 = plX L_4 n_4 m_1 ∧ a_1 = plN L_4 (-1) n_4 ∧ b_2 = plN L_4 (-2) n_4) ∧
 q30 ∧
 ∃ (s_5 : ShS),
 ((s_5.num = q31 ∧ s_5.owner = q32 ∧ s_5.point = q33 ∧ q34 = [s_5.a0, s_5.a1]) ∧ (q1 = q1 ∧ s_5.n = q1) ∧ ∀ (i : Nat), i < q1 → q7 i = PendS.c (s_5.g i)) ∧
 s_5.n < 1000 ∧
 iteB (decide (m = M))
 (iteB (decide (M ≤ m))
 (iteB (decide (a = ow))
 (iteB (decide (b_1 = ot))
 (iteB (decide (m_1 = M))
 (iteB (decide (M ≤ m_1))
 (iteB (decide (a_1 = ow))
 (iteB (decide (b_2 = ot))
 (iteB (decide (shB A q29 s_5 = b))
 (q21 = q21 ∧
 iteB (decide (q22 = q22))
 (iteB (decide (q23 = q23))
 (iteB (decide (q24 = q24))
 (iteB (decide (q25 = q25))
 (iteB (decide (q26 = q26))
 (q27 = q27 ∧
 q28 = q28 ∧
 iteB q36
 (iteB q37
 (q38 ∧
 q39 ∧
 iteB q6
 (q8 ∧
 iteB q6
 (iteB q36
 (iteB q37
 (q38 ∧
 q39 ∧
 iteB (decide (q17 = q1))
 (iteB (decide (q40 ≤ subO q12 none))
 (iteB (decide (q12 = q40))
 (RowsEq 0 q42 q40 q43 q20 ∧
 iteB (decide (s_1.num = q31))
 (iteB q135
 (iteB (decide (n ≤ n_1))
 (iteB (decide (s_3.num = q31))
 (iteB q139
 (iteB (decide (n ≤ n_3))
 (q47 ∧
 iteB q49
 (q51 ∧
 q53 ∧
 q55 ∧
 iteB q135
 (RowsEq 0 q42 n q56 (outRows (mOuts L_1)) ∧
 q47 ∧
 iteB q49
 (q51 ∧
 q53 ∧
 q55 ∧
 iteB q139
 (RowsEq 0 q42 n q56 (outRows (mOuts L_3)) ∧
 X_1 = X ∧
 X_2 = X ∧
 (r = if b = true then 0 else 2) ∧
 iteB (decide (q9 ≤ q40))
 ((∀ (i : Nat), i < q1 → true = true) ∧
 q30 ∧
 ∃ (s_6 : ShS),
 ((s_6.num = q31 ∧ s_6.owner = q32 ∧ s_6.point = q33 ∧ q34 = [s_6.a0, s_6.a1]) ∧ (q1 = q1 ∧ s_6.n = q1) ∧ ∀ (i : Nat), i < q1 → [AV.int IntKind.i64 (R i).frm, AV.int IntKind.i64 (R i).id, AV.int IntKind.i64 (R i).amount, AV.arr IntKind.u8 32 (R i).hash, AV.int IntKind.i64 (R i).expiry] = PendS.c (s_6.g i)) ∧
 s_6.n < 1000 ∧
 iteB ((if shB A q29 s_6 = true then 0 else 2) != r) q57
 (iteB (decide (0 + n ≤ n))
 ((∀ (i : Nat), i < n → true = true) ∧
 iteB (decide (0 + n ≤ n))
 ((∀ (i : Nat), i < n → true = true) ∧
 ∃ (a : TxS),
 ∃ (b : TxS),
 (a.num = q31 ∧
 (((1 : Nat) = 1 ∧ a.N = 1) ∧ ∀ (i : Nat), i < 1 → rowC [AV.arr IntKind.u8 32 q46, AV.int IntKind.i64 q48, AV.int IntKind.i64 q45.way, AV.arr IntKind.u8 32 q50, AV.arr IntKind.u8 32 q52, AV.arr IntKind.u8 32 q54] 0 130 i = InS.c (a.ins i)) ∧
 (n = n ∧ a.M = n) ∧
 ∀ (i : Nat),
 let q143 := mOuts L i;
 i < n → [AV.int IntKind.i64 q143.kind, AV.int IntKind.i64 q143.amount, AV.arr IntKind.u8 32 q143.owner, AV.arr IntKind.u8 32 q143.other, AV.arr IntKind.u8 32 q143.point, AV.arr IntKind.u8 32 q143.hash, AV.int IntKind.i64 q143.delay, AV.int IntKind.i64 q143.expiry] = OutS.c (a.outs i)) ∧
 (b.num = q31 ∧
 (((1 : Nat) = 1 ∧ b.N = 1) ∧ ∀ (i : Nat), i < 1 → rowC [AV.arr IntKind.u8 32 q46, AV.int IntKind.i64 q48, AV.int IntKind.i64 q45.way, AV.arr IntKind.u8 32 q50, AV.arr IntKind.u8 32 q52, AV.arr IntKind.u8 32 q54] 0 130 i = InS.c (b.ins i)) ∧
 (n = n ∧ b.M = n) ∧
 ∀ (i : Nat),
 let q143 := mOuts L i;
 i < n → [AV.int IntKind.i64 q143.kind, AV.int IntKind.i64 q143.amount, AV.arr IntKind.u8 32 q143.owner, AV.arr IntKind.u8 32 q143.other, AV.arr IntKind.u8 32 q143.point, AV.arr IntKind.u8 32 q143.hash, AV.int IntKind.i64 q143.delay, AV.int IntKind.i64 q143.expiry] = OutS.c (b.outs i)) ∧
 (TxS.Ok a ∧ TxS.Ok b) ∧
 iteB (!F a b) q57
 (iteB ((↑M : Int) != (↑M : Int)) q57
 (iteB (ow != ow) q57
 (iteB (ot != ot) q57
 (iteB q58
 (iteB q59
 (iteB q58
 (iteB q59 (iteB q36 (iteB q37 (q38 ∧ q39 ∧ iteB q6 (q8 ∧ iteB q6 (iteB q36 (iteB q37 (q38 ∧ q39 ∧ iteB q6 (iteB q60 (iteB q61 (RowsEq 0 [(2, 3), (1, 2), (0, 1), (4, 11), (3, 10)] q40 q43 q43 ∧ X = X ∧ X = X ∧ (q62 ∧ M < 1000 ∧ List.length X = M) ∧ ∀ (i : Nat), i ≤ M → (∀ (j : Nat), j < i → (fun (i : Nat) => i < M) j) → (i = M → iteB q36 (iteB q37 (q38 ∧ q39 ∧ iteB q6 (q8 ∧ iteB q6 (iteB q36 (iteB q37 (q38 ∧ q39 ∧ iteB q6 (iteB q60 (iteB q61 (RowsEq 0 ((2, 2) :: q41) q40 q43 q43 ∧ (q62 ∧ ShS.Ok s ∧ ∀ (j : Nat), j < q1 → R j = s.g j) ∧ ∀ (i : Nat), i ≤ q1 → (∀ (j : Nat), j < i → (fun (i : Nat) => i < q1) j) → (i = q1 → iteB (decide (q1 ≤ q40)) (iteB (decide (0 ≤ q63 ∧ q63 ≤ (↑q40 : Int))) (iteB (decide (0 ≤ q2 ∧ q2 < (↑(subO (Int.toNat q63) none) : Int))) (iteB (decide (q64 < q40)) (iteB ((R q64).id == 77) q4 q57) False) False) False) False) ∧ q65) False) False) False) False) False) False) False) False) False) ∧ q65) False) False) False) False) False) False) False) False) False) False)
 False)
 False)
 False)))))
 False)
 False))
 False)
 False)
 False)
 False)
 False)
 False)
 False)
 False)
 False)
 False)
 False)
 False)
 False)
 False)
 False)
 False)
 False)
 False)
 False)
 False)
 False)
 False)
 False)
 False)
 False)
 False)
 False)
 False)
 False)
 False)
 False)
 False)
 False)
 False)
 False)
 False)
 False)
 False)
 False)
 False)
 False)
 False)
 False)
 False)
 False)
 False)
 False)
 False)
 False)
 False)
 False)
 False)
 False)
 False)
 False)
 False)
 False)) (by kernel_rfl) ?_
  conv => zeta
  try simp only [need_eq]
  try simp only [nope_eq]
  try simp only [iteD_eq]
  try simp only [iteT_eq]
  try simp only [iteF_eq]
  try simp only [iteE_eq]
  try simp only [Int.toNat_natCast, Nat.zero_add, true_and, and_true, Nat.le_refl]
  have e0 : (TermS.mk t.fund t.index t.cap t.dust t.fee t.delay t.k0 t.k1) = t := rfl
  rw [e0]
  have n20 := hC.n20
  have w1 : IntKind.i64.wrap ((s.n : Int) + 1) = ((s.n + 1 : Nat) : Int) := by rw [w64 (by omega)]; omega
  simp only [subO_none, w1]
  have hp : ∀ i, i < s.n → plainC (shiftZ 0 (cmW s) i) = true := fun i hi => by
    show plainC (cmW s i) = true
    rw [cmW_lt s hi]; rfl
  have hW : ∀ i, i < s.n → shiftZ 0 (cmW s) i = (s.g i).c := fun i hi => cmW_lt s hi
  have hR : ∀ τ, RowsEq 0 τ (s.n + 1) (pRows R) (cmW s) := fun τ => pRowsEq fun i hi => cmW_eq hC hi
  have hR2 : ∀ τ, RowsEq 0 τ (s.n + 1) (pRows R) (pRows R) := fun τ => pRowsEq fun i hi => rfl
  have hr' : r = if b = true then 0 else 2 := by rw [hr, hb]; rfl
  have hR3 : ∀ i, i < s.n → PendS.c (R i) = (s.g i).c := fun i hi => by rw [hC.hR i hi]
  have hc1 : ¬ ((if shB A t s = true then (0 : Int) else 2) != r) = true := by rw [hsb, hr]; simp
  have hc3 : ¬ ((R s.n).id == 77) = false := by rw [hC.hE]; decide
  have hne : ∀ x : Int, ¬ (x != x) = true := fun x => by simp
  have hk1 : L = sortM (osAll t s) ∧ n = L.length ∧ n ≠ 0 := ⟨hL, hn, h0⟩
  have hk2 : L = sortM (osAll t s) ∧ n = L.length ∧ n ≠ 0 ∧ M = s.n ∧ X = plX L n M ∧ ow = plN L (-1) n ∧ ot = plN L (-2) n := ⟨hL, hn, h0, hM, by rw [hM]; exact hX, how, hot⟩
  have hTx : (txM t s.num L).Ok := txM_ok hfu (by omega) hLok
  have hO : ∀ τ, RowsEq 0 τ n (outRows (mOuts L)) (outRows (mOuts L)) := fun τ => outRowsEq fun _ _ => rfl
  have hI : ∀ i, i < 1 → rowC (InS.c (inOf t)) 0 130 i = InS.c ((txM t s.num L).ins i) := fun i hi => by
    have e : i = 0 := by omega
    subst e; rfl
  have hc2 : ¬ (!F (txM t s.num L) (txM t s.num L)) = true := by subst hF; rw [sameT_refl]; simp
  refine ⟨fun _ => trivial, fun _ => ⟨?_, ?_⟩⟩
  all_goals
    repeat' (first
      | exact hsb.trans hb.symm
      | exact hr'
      | exact fun _ _ => trivial
      | exact fun h => absurd h hc1
      | exact fun h => absurd h hc2
      | exact fun h => absurd h hc3
      | exact ⟨n20, by omega, by rw [hX, hM, plX_len]⟩
      | exact ⟨n20, hC.hs, hC.hR⟩
      | (refine ⟨s, ⟨⟨rfl, rfl, rfl, rfl⟩, rfl, hR3⟩, ?_⟩)
      | exact ht
      | exact hC.hs
      | exact hsb
      | exact hp
      | exact hR _
      | exact hR2 _
      | exact trivial
      | exact fun h => absurd h (hne _)
      | exact hk1
      | exact hk2
      | exact hO _
      | (refine ⟨s, n, L, ⟨⟨rfl, rfl, rfl, rfl⟩, rfl, hW⟩, ?_⟩)
      | (refine ⟨s, n, L, ⟨⟨rfl, rfl, rfl, rfl⟩, rfl, fun _ _ => rfl⟩, ?_⟩)
      | (refine ⟨s, n, M, L, X, ow, ot, ⟨⟨rfl, rfl, rfl, rfl⟩, rfl, hW⟩, ?_⟩)
      | (refine ⟨s, n, M, L, X, ow, ot, ⟨⟨rfl, rfl, rfl, rfl⟩, rfl, fun _ _ => rfl⟩, ?_⟩)
      | (refine ⟨s, ⟨⟨rfl, rfl, rfl, rfl⟩, rfl, hW⟩, ?_⟩)
      | (refine ⟨s, ⟨⟨rfl, rfl, rfl, rfl⟩, rfl, fun _ _ => rfl⟩, ?_⟩)
      | (refine ⟨txM t s.num L, txM t s.num L, ⟨rfl, ⟨rfl, hI⟩, hn.symm, fun _ _ => rfl⟩, ⟨rfl, ⟨rfl, hI⟩, hn.symm, fun _ _ => rfl⟩, ⟨hTx, hTx⟩, ?_⟩)
      | refine And.intro ?_ ?_
      | omega
      | rfl
      | intro _)
end Go.Tk
end
section
namespace Go.Tk
def pendTy : List Ty := [.int .i64, .int .i64, .int .i64, .arr .u8 32, .int .i64]
def sharesTy : List Ty := [.int .i64, .int .i64, .arr .u8 32, .arr .i64 2, .rows 36 pendTy]
theorem fits_pend {l : List AV} (h : Fits pendTy l) : ∃ x : PendS, l = x.c ∧ x.Ok := by
  unfold pendTy at h
  cases h with | cons _ a _ u h1 h =>
  cases h with | cons _ b _ u h2 h =>
  cases h with | cons _ c _ u h3 h =>
  cases h with | cons _ d _ u h4 h =>
  cases h with | cons _ e _ u h5 h =>
  cases h; cases h1; cases h2; cases h3; cases h4; cases h5
  rename_i x1 w1 x2 w2 x3 w3 x4 l4 w4 x5 w5
  exact ⟨⟨x1, x2, x3, x4, x5⟩, rfl, ⟨l4, bytes_of8 l4 w4⟩⟩
instance : Inhabited PendS := ⟨p77⟩
theorem pickP {n : Nat} {p : Nat → PendS → Prop} (h : ∀ i, i < n → ∃ a, p i a) : ∃ f : Nat → PendS, ∀ i, i < n → p i (f i) :=
  ⟨fun i => if hi : i < n then Classical.choose (h i hi) else p77, fun i hi => by
    simp only [hi, dite_true]
    exact Classical.choose_spec (h i hi)⟩
theorem fits_shares {a : AV} (h : FitsA true sharesTy a) : ∃ (l : List AV) (s : ShS), a = .agg l ∧ isSh l s ∧ s.Ok := by
  cases h with | agg _ u h =>
  unfold sharesTy at h
  cases h with | cons _ a _ u h1 h =>
  cases h with | cons _ b _ u h2 h =>
  cases h with | cons _ c _ u h3 h =>
  cases h with | cons _ d _ u h4 h =>
  cases h with | cons _ e _ u h5 h =>
  cases h; cases h1; cases h2; cases h3; cases h4; cases h5
  rename_i x1 w1 x2 w2 x3 l3 w3 x4 l4 w4 n f hn hf
  obtain ⟨g, hg⟩ := pickP fun i hi => fits_pend (hf i hi)
  match x4, l4 with
  | [y, z], _ =>
    have hy := w4 0 (by decide)
    simp [Lit.wf] at hy
    have m1 : IntKind.i64.min = -9223372036854775808 := rfl
    have m2 : IntKind.i64.max = 9223372036854775807 := rfl
    exact ⟨_, ⟨x1, x2, x3, y, z, n, g⟩, rfl, ⟨⟨rfl, rfl, rfl, rfl⟩, ⟨rfl, rfl⟩, fun i hi => (hg i hi).1⟩, ⟨l3, by show _ ≤ y ∧ y < _; omega, fun i hi => (hg i hi).2⟩⟩
theorem cmk_calls {t : TermS} {s : ShS} (ht : t.Ok) (hf : t.fund.length = 32) (hs : s.Ok) : CallsA PP 3 [.agg t.c, .agg s.c] ⟨0, []⟩ fun o h' => ∃ v, o = .ret v ∧ h' = ⟨0, []⟩ ∧ v = .bool true := by
  by_cases hn : s.n ≤ 20
  · have hC : CmC s (fun i => if i = s.n then p77 else s.g i) := ⟨hn, hs, fun j hj => if_neg (by omega), if_pos rfl⟩
    cases hb : shB addM t s with
    | false => exact outV_ev (h := ⟨0, []⟩) (E106N_ok t s _ 0 [] (fun _ _ _ => comN_imp) (fun _ _ _ => plcN_imp) 2 2 false) rfl (cmk_N addM sameT t s _ 0 [] 2 false ht hC rfl rfl rfl hb rfl rfl) (fun u hu => hu)
    | true =>
      have ho := outsOk ht hs (by omega) hb
      rcases Nat.eq_zero_or_pos (osAll t s).length with h0 | h0
      · exact outV_ev (h := ⟨0, []⟩) (E106N_ok t s _ 0 [] (fun _ _ _ => comB_imp) (fun _ _ _ => plcB_imp) 180 0 true) rfl (cmk_B addM sameT t s _ 0 [] 0 true ht hC rfl rfl rfl hb rfl rfl h0) (fun u hu => hu)
      · have hn0 : (sortM (osAll t s)).length ≠ 0 := by rw [sortM_len]; omega
        have h20 : (sortM (osAll t s)).length < 20 := by rw [sortM_len]; exact ho.len
        exact outV_ev (h := ⟨0, []⟩) (E106Y_ok t s _ s.n _ (fun _ _ _ => comY_imp) (fun _ _ _ => plcY_imp) _ _ _ _ 0 true) rfl (cmk_Y addM sameT t s _ s.n _ _ _ _ _ 0 true ht hf hC rfl rfl rfl hn0 (sortM_mem ho.ok) h20 rfl rfl hb rfl rfl rfl rfl) (fun u hu => hu)
  · exact outV_ev (h := ⟨0, []⟩) (Env2.withF_ok (Env2.withP_ok G0_ok works8_ok) noF_ok) rfl (cmk_0 s t hn) (fun u hu => hu)
end Go.Tk
end
section
namespace Go.Tk
theorem commitmakes_walk {us : List AV} (h : FitsL [(true, termTy), (true, sharesTy)] us) : CallsA PP 3 us ⟨0, []⟩ fun o h' => ∃ v, o = .ret v ∧ h' = ⟨0, []⟩ ∧ v = .bool true := by
  cases h with | cons _ _ a _ _ h1 h =>
  cases h with | cons _ _ b _ _ h2 h =>
  cases h
  obtain ⟨t, rfl, ht, hf⟩ := fits_terms h1
  obtain ⟨l, s, rfl, hs, ho⟩ := fits_shares h2
  exact (cmk_calls ht hf ho).conv fun E r hr => hr.head (fun _ hc => hc) (fun _ hc => hc.head (fun _ hc => hs.rel hc) (fun _ hc => hc))
end Go.Tk
namespace Go.Proofs.YtbeiehggdcpdbaaGreat.commitMakes
open Go.ChangeShapes Go.WideShapes Go.ChangeAt Go.RowKit
theorem own : ownKnob Tryz.prog.godebug = none := by kernel_rfl
theorem laidOut : laidOutB Tryz.prog = true := by kernel_rfl
set_option maxRecDepth 100000 in
theorem lifted (os : Os) (started : os.Started) (H : Type) (enc : TypeId × Value → H) :
    ReturnsInHanded {} Tryz.checked os 3 .any (Rows.commitMakesSpec.pre6 enc Tryz.prog Tryz.f3 Rows.commitMakesRow.domain false) (Rows.commitMakesSpec.post enc Tryz.prog Tryz.f3 false true false false) :=
  Go.Tk.lifted_gen (C := Tryz.checked) (m := 8) (τs := [(true, Go.Tk.termTy), (true, Go.Tk.sharesTy)]) own laidOut started (by kernel_rfl) Tryz.func3
    (ChangeSpec.witness6 (enc := enc) (C := Tryz.checked) false ⟨#[], #[.agg (Array.replicate 32 (.int .u8 0) ++ #[.int .i64 0, .int .i64 0, .int .i64 0, .int .i64 0, .int .i64 0] ++ Array.replicate 64 (.int .u8 0)), .agg (#[.int .i64 0, .int .i64 0] ++ Array.replicate 32 (.int .u8 0) ++ #[.int .i64 0, .int .i64 0, .slice none 0 0])], []⟩ 8 (by kernel_rfl) (by kernel_rfl) (by kernel_rfl) (by kernel_rfl))
    rfl (tb := 4) rfl Tryz.underlying4 (by kernel_rfl) (by kernel_rfl) (fun ds h => by
      match ds, h with
      | [a, b], _ => rfl) fun us h => Go.Tk.commitmakes_walk h
theorem fnamed : Tryz.pinned.checked.prog.funcNamed Rows.commitMakesRow.func = some 3 := by kernel_rfl
set_option maxHeartbeats 0 in
theorem closed : joinedFacts Tryz.pinned.checked.prog 3 Tryz.f3 Rows.commitMakesSpec Rows.commitMakesRow = true := by
  unfold joinedFacts
  repeat' with_reducible refine Go.Tk.and_mk ?_ ?_
  all_goals as_aux_lemma => kernel_rfl
theorem over : Rows.commitMakesRow.holds Tryz.pinned (OpenSpec.ofChange Rows.commitMakesSpec) :=
  OpenClaim.holds_of_wide 3 Tryz.f3 rfl rfl rfl rfl rfl rfl rfl ⟨rfl, rfl, rfl, rfl, rfl⟩ rfl rfl rfl rfl rfl fnamed Tryz.func3 closed
    (of_decide_eq_true (by kernel_rfl)) (by unfold Func.isWrapper; first | (rw [if_pos (by decide +kernel)]; kernel_rfl) | (rw [if_neg (by decide +kernel)]; exact ⟨rfl, rfl⟩))
    (fun os started H enc _ => lifted os started H enc)
theorem proved : Rows.CommitMakesSaid := over
end Go.Proofs.YtbeiehggdcpdbaaGreat.commitMakes
end
