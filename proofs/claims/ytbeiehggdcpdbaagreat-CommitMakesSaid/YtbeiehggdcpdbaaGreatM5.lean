/- M: part 5 of an engine (a symbolic evaluator, proved against the model) and of the walk by it. -/
import Derived.Test.YtbeiehggdcpdbaaGreatM4
set_option linter.unusedVariables false
set_option linter.unusedSimpArgs false
section
namespace Go.Tk
def smH (a b : TxS) : Heap := ⟨2, [(0, .flat a.c), (1, .flat b.c)]⟩
def smP (l : Tmps) : Tmps := l ++ [(2, .ptr (some ⟨0, 0, 0, 0, 0⟩)), (3, .ptr (some ⟨1, 0, 0, 0, 0⟩))]
def smS1 (a b : TxS) (i : Nat) : St := ⟨66, smP [(5, .int .i64 i)], smH a b, []⟩
def smS2 (a b : TxS) (i : Nat) : St := ⟨66, smP [(6, .int .i64 i)], smH a b, []⟩
def smE (a b : TxS) : St := ⟨66, smP [], smH a b, []⟩
def smR (a b : TxS) : St := ⟨66, smP [(4, .bool false)], smH a b, []⟩
set_option maxRecDepth 100000 in
set_option maxHeartbeats 0 in
theorem sm_1 (a b : TxS) (i : Nat) (Z1 Z2 Z3 : Prop) (ha : a.Ok) (hb : b.Ok) (hN : a.N = b.N) (hi : i ≤ a.N) (h1 : i < a.N → eqIn (a.ins i) (b.ins i) = true → Z1) (h2 : i = a.N → Z2) (h3 : i < a.N → eqIn (a.ins i) (b.ins i) = false → Z3) :
    roundE G0 20 16 0 0 (smS1 a b i) (rdM 0 0 9 (smS1 a b (i + 1)) (smE a b) (smR a b) (smR a b) Z1 Z2 Z3 False) := by
  refine @Eq.mpr _ (let q1 := a.N;
 let q2 := b.N;
 let q3 := a.ins (Int.toNat (↑i : Int));
 let q4 := q3.name;
 let q5 := b.ins (Int.toNat (↑i : Int));
 let q6 := q5.name;
 let q7 := q3.tag;
 let q8 := q5.tag;
 let q9 := q3.also;
 let q10 := q5.also;
 let q11 := q3.secret;
 let q12 := q5.secret;
 let q13 := decide (a.num = a.num);
 let q14 := decide (q1 = q1);
 let q15 := inRows a.ins;
 let q16 := q15 = q15;
 let q17 := decide (a.M = a.M);
 let q18 := outRows a.outs;
 let q19 := q18 = q18;
 let q20 := decide (b.num = b.num);
 let q21 := decide (q2 = q2);
 let q22 := inRows b.ins;
 let q23 := q22 = q22;
 let q24 := decide (b.M = b.M);
 let q25 := outRows b.outs;
 let q26 := q25 = q25;
 iteB (decide ((↑i : Int) < (↑q1 : Int)))
 (iteB (decide (0 ≤ (↑i : Int) ∧ (↑i : Int) < (↑q1 : Int))) (iteB (decide (0 ≤ (↑i : Int) ∧ (↑i : Int) < (↑q2 : Int))) (iteB (decide (List.length q4 = 32 ∧ List.length q6 = 32)) (iteB (decide (List.length q7 = 32 ∧ List.length q8 = 32)) (iteB (decide (List.length q9 = 32 ∧ List.length q10 = 32)) (iteB (decide (List.length q11 = 32 ∧ List.length q12 = 32)) (iteB (!(q4 == q6 && (q3.index == q5.index && (q3.way == q5.way && (q7 == q8 && (q9 == q10 && q11 == q12)))))) (iteB q13 (iteB q14 (q16 ∧ iteB q14 (iteB q17 (q19 ∧ iteB q17 (iteB q20 (iteB q21 (q23 ∧ iteB q21 (iteB q24 (q26 ∧ iteB q24 Z3 False) False) False) False) False) False) False) False) False) False) (iteB (decide (IntKind.wrap IntKind.i64 ((↑i : Int) + 1) = (↑(i + 1) : Int))) (iteB q13 (iteB q14 (q16 ∧ iteB q14 (iteB q17 (q19 ∧ iteB q17 (iteB q20 (iteB q21 (q23 ∧ iteB q21 (iteB q24 (q26 ∧ iteB q24 Z1 False) False) False) False) False) False) False) False) False) False) False)) False) False) False) False) False) False)
 (iteB q13 (iteB q14 (q16 ∧ iteB q14 (iteB q17 (q19 ∧ iteB q17 (iteB q20 (iteB q21 (q23 ∧ iteB q21 (iteB q24 (q26 ∧ iteB q24 Z2 False) False) False) False) False) False) False) False) False) False)) (by kernel_rfl) ?_
  conv => zeta
  try simp only [need_eq]
  try simp only [nope_eq]
  try simp only [iteD_eq]
  try simp only [iteT_eq]
  try simp only [iteF_eq]
  try simp only [iteE_eq]
  try simp only [Int.toNat_natCast, Nat.zero_add, true_and, and_true, Nat.le_refl]
  refine ⟨fun hlt => ?_, fun hge => h2 (by omega)⟩
  have hlt : i < a.N := by omega
  have h1 := h1 hlt
  have h3 := h3 hlt
  obtain ⟨e1, e2, e3, e4⟩ := ha.ins i hlt
  obtain ⟨d1, d2, d3, d4⟩ := hb.ins i (by omega)
  have hN0 := ha.n
  refine ⟨by omega, by omega, ⟨e1, d1⟩, ⟨e2, d2⟩, ⟨e3, d3⟩, ⟨e4, d4⟩, fun q => h3 ?_, fun q => ⟨w64 (by omega), h1 ?_⟩⟩
  · unfold eqIn
    rw [Bool.not_eq_true'] at q
    simp only [Bool.and_assoc]
    exact q
  · unfold eqIn
    rw [Bool.not_eq_false'] at q
    simp only [Bool.and_assoc]
    exact q
set_option maxRecDepth 100000 in
set_option maxHeartbeats 0 in
theorem sm_2 (a b : TxS) (i : Nat) (Z1 Z2 Z3 : Prop) (ha : a.Ok) (hb : b.Ok) (hN : a.M = b.M) (hi : i ≤ a.M) (h1 : i < a.M → eqOut (a.outs i) (b.outs i) = true → Z1) (h2 : i = a.M → Z2) (h3 : i < a.M → eqOut (a.outs i) (b.outs i) = false → Z3) :
    roundE G0 20 16 2 0 (smS2 a b i) (rdM 0 2 9 (smS2 a b (i + 1)) (smE a b) (smR a b) (smR a b) Z1 Z2 Z3 False) := by
  refine @Eq.mpr _ (let q1 := a.M;
 let q2 := b.M;
 let q3 := a.outs (Int.toNat (↑i : Int));
 let q4 := q3.owner;
 let q5 := b.outs (Int.toNat (↑i : Int));
 let q6 := q5.owner;
 let q7 := q3.other;
 let q8 := q5.other;
 let q9 := q3.point;
 let q10 := q5.point;
 let q11 := q3.hash;
 let q12 := q5.hash;
 let q13 := decide (a.num = a.num);
 let q14 := decide (a.N = a.N);
 let q15 := inRows a.ins;
 let q16 := q15 = q15;
 let q17 := decide (q1 = q1);
 let q18 := outRows a.outs;
 let q19 := q18 = q18;
 let q20 := decide (b.num = b.num);
 let q21 := decide (b.N = b.N);
 let q22 := inRows b.ins;
 let q23 := q22 = q22;
 let q24 := decide (q2 = q2);
 let q25 := outRows b.outs;
 let q26 := q25 = q25;
 iteB (decide ((↑i : Int) < (↑q1 : Int)))
 (iteB (decide (0 ≤ (↑i : Int) ∧ (↑i : Int) < (↑q1 : Int)))
 (iteB (decide (0 ≤ (↑i : Int) ∧ (↑i : Int) < (↑q2 : Int))) (iteB (decide (List.length q4 = 32 ∧ List.length q6 = 32)) (iteB (decide (List.length q7 = 32 ∧ List.length q8 = 32)) (iteB (decide (List.length q9 = 32 ∧ List.length q10 = 32)) (iteB (decide (List.length q11 = 32 ∧ List.length q12 = 32)) (iteB (!(q3.kind == q5.kind && (q3.amount == q5.amount && (q4 == q6 && (q7 == q8 && (q9 == q10 && (q11 == q12 && (q3.delay == q5.delay && q3.expiry == q5.expiry)))))))) (iteB q13 (iteB q14 (q16 ∧ iteB q14 (iteB q17 (q19 ∧ iteB q17 (iteB q20 (iteB q21 (q23 ∧ iteB q21 (iteB q24 (q26 ∧ iteB q24 Z3 False) False) False) False) False) False) False) False) False) False) (iteB (decide (IntKind.wrap IntKind.i64 ((↑i : Int) + 1) = (↑(i + 1) : Int))) (iteB q13 (iteB q14 (q16 ∧ iteB q14 (iteB q17 (q19 ∧ iteB q17 (iteB q20 (iteB q21 (q23 ∧ iteB q21 (iteB q24 (q26 ∧ iteB q24 Z1 False) False) False) False) False) False) False) False) False) False) False)) False) False) False) False) False) False)
 (iteB q13 (iteB q14 (q16 ∧ iteB q14 (iteB q17 (q19 ∧ iteB q17 (iteB q20 (iteB q21 (q23 ∧ iteB q21 (iteB q24 (q26 ∧ iteB q24 Z2 False) False) False) False) False) False) False) False) False) False)) (by kernel_rfl) ?_
  conv => zeta
  try simp only [need_eq]
  try simp only [nope_eq]
  try simp only [iteD_eq]
  try simp only [iteT_eq]
  try simp only [iteF_eq]
  try simp only [iteE_eq]
  try simp only [Int.toNat_natCast, Nat.zero_add, true_and, and_true, Nat.le_refl]
  refine ⟨fun hlt => ?_, fun hge => h2 (by omega)⟩
  have hlt : i < a.M := by omega
  have h1 := h1 hlt
  have h3 := h3 hlt
  obtain ⟨e1, e2, e3, e4⟩ := ha.outs i hlt
  obtain ⟨d1, d2, d3, d4⟩ := hb.outs i (by omega)
  have hN0 := ha.m
  refine ⟨by omega, by omega, ⟨e1, d1⟩, ⟨e2, d2⟩, ⟨e3, d3⟩, ⟨e4, d4⟩, fun q => h3 ?_, fun q => ⟨w64 (by omega), h1 ?_⟩⟩
  · unfold eqOut
    rw [Bool.not_eq_true'] at q
    simp only [Bool.and_assoc]
    exact q
  · unfold eqOut
    rw [Bool.not_eq_false'] at q
    simp only [Bool.and_assoc]
    exact q
def smL1 (a b : TxS) : Nat → St → KE → Prop := goM 0 (smS1 a b 0) (a.Ok ∧ b.Ok ∧ a.N = b.N) (endsJ 0 a.N 9 (fun i => eqIn (a.ins i) (b.ins i) = true) (fun i => i = a.N) (fun i => i < a.N ∧ eqIn (a.ins i) (b.ins i) = false) (fun _ => False) (fun _ => smE a b) (fun _ => smR a b) (fun _ => smR a b))
def smL2 (a b : TxS) : Nat → St → KE → Prop := goM 0 (smS2 a b 0) (a.Ok ∧ b.Ok ∧ a.M = b.M) (endsJ 2 a.M 9 (fun i => eqOut (a.outs i) (b.outs i) = true) (fun i => i = a.M) (fun i => i < a.M ∧ eqOut (a.outs i) (b.outs i) = false) (fun _ => False) (fun _ => smE a b) (fun _ => smR a b) (fun _ => smR a b))
noncomputable def E40 (a b : TxS) : Env2 := (G0.withL 16 0 (smL1 a b)).withL 16 2 (smL2 a b)
theorem E40_ok (a b : TxS) : (E40 a b).Ok := by
  have h1 : (G0.withL 16 0 (smL1 a b)).Ok := Env2.withGoM (N := 20) (S := smS1 a b) G0_ok (by kernel_rfl) fun hC => ⟨rfl, fun i hi hgo => sm_1 a b i _ _ _ hC.1 hC.2.1 hC.2.2 hi (fun h1 h2 => ⟨h2, h1⟩) (fun h => h) (fun h1 h2 => ⟨h1, h2⟩)⟩
  have h2 : (G0.withL 16 2 (smL2 a b)).Ok := Env2.withGoM (N := 20) (S := smS2 a b) G0_ok (by kernel_rfl) fun hC => ⟨rfl, fun i hi hgo => sm_2 a b i _ _ _ hC.1 hC.2.1 hC.2.2 hi (fun h1 h2 => ⟨h2, h1⟩) (fun h => h) (fun h1 h2 => ⟨h1, h2⟩)⟩
  exact Env2.withL_join (H := G0) h1 rfl h2
set_option maxRecDepth 100000 in
set_option maxHeartbeats 0 in
theorem sm_t (a b : TxS) (F : Bool) (ha : a.Ok) (hb : b.Ok) (hF : F = sameT a b) :
    evF (E40 a b) 20 16 [.agg a.c, .agg b.c] ⟨0, []⟩ (outK 0 [] (.bool F) 0 []) := by
  refine @Eq.mpr _ (let q1 := a.num;
 let q2 := b.num;
 let q3 := iteB (decide (false = F)) True False;
 let q4 := a.N;
 let q5 := b.N;
 let q6 := a.M;
 let q7 := b.M;
 let q8 := decide (q1 = q1);
 let q9 := decide (q4 = q4);
 let q10 := inRows a.ins;
 let q11 := q10 = q10;
 let q12 := decide (q6 = q6);
 let q13 := outRows a.outs;
 let q14 := q13 = q13;
 let q15 := decide (q2 = q2);
 let q16 := decide (q5 = q5);
 let q17 := inRows b.ins;
 let q18 := q17 = q17;
 let q19 := decide (q7 = q7);
 let q20 := outRows b.outs;
 let q21 := q20 = q20;
 iteB (q1 != q2) q3 (iteB ((↑q4 : Int) != (↑q5 : Int)) q3 (iteB ((↑q6 : Int) != (↑q7 : Int)) q3 (iteB q8 (iteB q9 (q11 ∧ iteB q9 (iteB q12 (q14 ∧ iteB q12 (iteB q15 (iteB q16 (q18 ∧ iteB q16 (iteB q19 (q21 ∧ iteB q19 ((TxS.Ok a ∧ TxS.Ok b ∧ q4 = q5) ∧ ∀ (i : Nat), i ≤ q4 → (∀ (j : Nat), j < i → (fun (i : Nat) => eqIn (a.ins i) (b.ins i) = true) j) → (i = q4 → iteB q8 (iteB q9 (q11 ∧ iteB q9 (iteB q12 (q14 ∧ iteB q12 (iteB q15 (iteB q16 (q18 ∧ iteB q16 (iteB q19 (q21 ∧ iteB q19 ((TxS.Ok a ∧ TxS.Ok b ∧ q6 = q7) ∧ ∀ (i : Nat), i ≤ q6 → (∀ (j : Nat), j < i → (fun (i : Nat) => eqOut (a.outs i) (b.outs i) = true) j) → (i = q6 → iteB (decide (true = F)) True False) ∧ (i < q6 ∧ eqOut (a.outs i) (b.outs i) = false → q3) ∧ (False → False)) False) False) False) False) False) False) False) False) False) False) ∧ (i < q4 ∧ eqIn (a.ins i) (b.ins i) = false → q3) ∧ (False → False)) False) False) False) False) False) False) False) False) False) False)))) (by kernel_rfl) ?_
  conv => zeta
  try simp only [need_eq]
  try simp only [nope_eq]
  try simp only [iteD_eq]
  try simp only [iteT_eq]
  try simp only [iteF_eq]
  try simp only [iteE_eq]
  try simp only [Int.toNat_natCast, Nat.zero_add, true_and, and_true, Nat.le_refl]
  have hn : a.num ≠ b.num → false = sameT a b := fun h => by
    unfold sameT; rw [beq_eq_false_iff_ne.2 h]; rfl
  have hi : eqiL a.N a.ins b.N b.ins = false → false = sameT a b := fun h => by
    unfold sameT; rw [h, Bool.false_and, Bool.and_false]
  have ho : eqoL a.M a.outs b.M b.outs = false → false = sameT a b := fun h => by
    unfold sameT; rw [h, Bool.and_false, Bool.and_false]
  subst hF
  refine ⟨fun h => hn (by simpa using h), fun h0 => ⟨fun h => hi ?_, fun h1 => ⟨fun h => ho ?_, fun h2 => ?_⟩⟩⟩
  · have h : a.N ≠ b.N := fun e => by rw [e] at h; simp at h
    unfold eqiL; rw [decide_eq_false h, Bool.false_and]
  · have h : a.M ≠ b.M := fun e => by rw [e] at h; simp at h
    unfold eqoL; rw [decide_eq_false h, Bool.false_and]
  have h0 : a.num = b.num := by simpa using h0
  have h1 : a.N = b.N := by have : (a.N : Int) = b.N := by simpa using h1
                            omega
  have h2 : a.M = b.M := by have : (a.M : Int) = b.M := by simpa using h2
                            omega
  refine ⟨⟨ha, hb, h1⟩, fun i hi' hgo => ⟨fun hx => ⟨⟨ha, hb, h2⟩, fun k hk hgo2 => ⟨fun hx2 => ?_, fun hx2 => ho ?_, fun h => h⟩⟩, fun hx => hi ?_, fun h => h⟩⟩
  · subst hx hx2
    have e1 : (List.range a.N).all (fun i => eqIn (a.ins i) (b.ins i)) = true := by
      rw [List.all_eq_true]; intro j hj; exact hgo j (by simpa using hj)
    have e2 : (List.range a.M).all (fun i => eqOut (a.outs i) (b.outs i)) = true := by
      rw [List.all_eq_true]; intro j hj; exact hgo2 j (by simpa using hj)
    unfold sameT eqiL eqoL
    rw [e1, e2, decide_eq_true h1, decide_eq_true h2, h0, beq_self_eq_true]; rfl
  · have e2 : (List.range a.M).all (fun i => eqOut (a.outs i) (b.outs i)) = false := by
      rw [List.all_eq_false]; exact ⟨k, by simpa using hx2.1, by simp [hx2.2]⟩
    unfold eqoL; rw [e2, Bool.and_false]
  · have e1 : (List.range a.N).all (fun i => eqIn (a.ins i) (b.ins i)) = false := by
      rw [List.all_eq_false]; exact ⟨i, by simpa using hx.1, by simp [hx.2]⟩
    unfold eqiL; rw [e1, Bool.and_false]
theorem samer_ok (args : List AV) (h : Heap) (K : AV → Prop) (hl : sametS sameT args h K) : CallsA PP 16 args h fun o h' => ∃ v, o = .ret v ∧ h' = h ∧ K v := by
  refine Pure.psumm (d := 20) (viewL_weak _ _ _ _ _ hl fun a ha => ?_)
  split at ha
  · obtain ⟨a, b, h1, h2, ⟨h3, h4⟩, hK⟩ := ha
    exact ⟨_, (Pure.ev (E40_ok a b) (sm_t a b _ h3 h4 rfl)).conv fun E r hr => hr.head (fun _ hc => h1.rel hc) (fun _ hc => hc.head (fun _ hc => h2.rel hc) (fun _ hc => hc)), fun _ => rfl, hK⟩
  · exact ha.elim
end Go.Tk
end
section
namespace Go.Tk
end Go.Tk
end
section
namespace Go.Tk
structure InS.By (x : InS) : Prop where
  name : Bytes x.name
  tag : Bytes x.tag
  also : Bytes x.also
  secret : Bytes x.secret
structure OutS.By (x : OutS) : Prop where
  owner : Bytes x.owner
  other : Bytes x.other
  point : Bytes x.point
  hash : Bytes x.hash
structure TxAll (t : TxS) : Prop where
  ins : ∀ i, i < t.N → (t.ins i).By
  outs : ∀ i, i < t.M → (t.outs i).By
theorem TxAll.b {t : TxS} (h : TxAll t) : TxB t := ⟨fun i hi => ⟨(h.outs i hi).owner, (h.outs i hi).other⟩⟩
theorem pick {α : Type} [Inhabited α] {n : Nat} {p : Nat → α → Prop} (h : ∀ i, i < n → ∃ a, p i a) : ∃ f : Nat → α, ∀ i, i < n → p i (f i) :=
  ⟨fun i => if hi : i < n then Classical.choose (h i hi) else default, fun i hi => by
    simp only [hi, dite_true]
    exact Classical.choose_spec (h i hi)⟩
instance : Inhabited InS := ⟨inZ⟩
instance : Inhabited OutS := ⟨outZ⟩
theorem CallsA.conv {P : Program} {f : FuncId} {us bs : List AV} {h : Heap} {K : KO} (hc : CallsA P f bs h K) (hr : ∀ E rs, LRel E us rs → LRel E bs rs) : CallsA P f us h K :=
  fun E w rs he hl => hc E w rs he (hr E rs hl)
theorem Bytes.nil : Bytes [] := ⟨fun i => by simp⟩
theorem Bytes.cons {x : Int} {xs : List Int} (hx : 0 ≤ x ∧ x ≤ 255) (h : Bytes xs) : Bytes (x :: xs) := ⟨fun i => by
  cases i with
  | zero => simpa using hx
  | succ i => have := h.h i; simpa using this⟩
theorem Bytes.append {xs ys : List Int} (h : Bytes xs) (k : Bytes ys) : Bytes (xs ++ ys) := ⟨fun i => by
  rw [List.getD_eq_getElem?_getD, List.getElem?_append]
  split
  · have := h.h i; rwa [List.getD_eq_getElem?_getD] at this
  · have := k.h (i - xs.length); rwa [List.getD_eq_getElem?_getD] at this⟩
theorem subO_none (a : Nat) : subO a none = a := rfl
end Go.Tk
end
section
namespace Go.Tk
end Go.Tk
end
section
namespace Go.Tk
def mostO (a b c : Int) : Nat → Int
  | 0 => 0
  | i + 1 => if 2 ≤ IntKind.u32.wrap (IntKind.u32.wrap (Int.tmod (shrI .u32 a i) 2 + Int.tmod (shrI .u32 b i) 2) + Int.tmod (shrI .u32 c i) 2) then IntKind.u32.wrap (mostO a b c i + shlI .u32 1 i) else mostO a b c i
def pickO (a b c : Int) : Nat → Int
  | 0 => 0
  | i + 1 => IntKind.u32.wrap (pickO a b c i + shlI .u32 (if Int.tmod (shrI .u32 a i) 2 = 1 then Int.tmod (shrI .u32 b i) 2 else Int.tmod (shrI .u32 c i) 2) i)
@[irreducible] def mostR (a b c : Int) : Int := mostO a b c 32
@[irreducible] def pickR (a b c : Int) : Int := pickO a b c 32
end Go.Tk
end
section
namespace Go.Tk
def sg3 (a b c : Int) (w : Int) : Int := bXor .u32 (bXor .u32 (rotI w (32 - a)) (rotI w (32 - b))) (rotI w (32 - c))
def rg3 (a b n : Int) (w : Int) : Int := bXor .u32 (bXor .u32 (rotI w (32 - a)) (rotI w (32 - b))) (shrI .u32 w n)
def refB (bl : List Int) (t : Nat) : Int := IntKind.u32.wrap (IntKind.u32.wrap (IntKind.u32.wrap (shlI .u32 (IntKind.u32.wrap (bl.getD (4 * t) 0)) 24 + shlI .u32 (IntKind.u32.wrap (bl.getD (4 * t + 1) 0)) 16) + shlI .u32 (IntKind.u32.wrap (bl.getD (4 * t + 2) 0)) 8) + IntKind.u32.wrap (bl.getD (4 * t + 3) 0))
def refW (m : List Int) (t : Nat) : Int := IntKind.u32.wrap (IntKind.u32.wrap (IntKind.u32.wrap (rg3 17 19 10 (m.getD (t - 2) 0) + m.getD (t - 7) 0) + rg3 7 18 3 (m.getD (t - 15) 0)) + m.getD (t - 16) 0)
def refM (bl : List Int) : Nat → List Int
  | 0 => List.replicate 64 0
  | t + 1 => (refM bl t).set t (if t < 16 then refB bl t else refW (refM bl t) t)
theorem refM_len (bl : List Int) : ∀ t, (refM bl t).length = 64
  | 0 => rfl
  | t + 1 => by simp [refM, refM_len bl t]
def stepX (M P : Int → Int → Int → Int) (k m : Int) (x : List Int) : List Int :=
  let one := IntKind.u32.wrap (IntKind.u32.wrap (IntKind.u32.wrap (IntKind.u32.wrap (x.getD 7 0 + sg3 6 11 25 (x.getD 4 0)) + P (x.getD 4 0) (x.getD 5 0) (x.getD 6 0)) + k) + m)
  [IntKind.u32.wrap (one + IntKind.u32.wrap (sg3 2 13 22 (x.getD 0 0) + M (x.getD 0 0) (x.getD 1 0) (x.getD 2 0))), x.getD 0 0, x.getD 1 0, x.getD 2 0, IntKind.u32.wrap (x.getD 3 0 + one), x.getD 4 0, x.getD 5 0, x.getD 6 0]
attribute [irreducible] refM
end Go.Tk
end
section
namespace Go.Tk
end Go.Tk
end
section
namespace Go.Tk
end Go.Tk
end
section
namespace Go.Tk
end Go.Tk
end
section
namespace Go.Tk
def U32 (x : Int) : Prop := 0 ≤ x ∧ x < 4294967296
theorem wr32 (x : Int) : IntKind.u32.wrap x = x % 4294967296 := by
  unfold IntKind.wrap
  simp [IntKind.bits, IntKind.signed]
theorem wr32_U (x : Int) : U32 (IntKind.u32.wrap x) := by rw [wr32]; unfold U32; omega
theorem wr32_id {x : Int} (h : U32 x) : IntKind.u32.wrap x = x := by rw [wr32]; unfold U32 at h; omega
theorem bOr_U (x y : Int) : U32 (bOr .u32 x y) := wr32_U _
theorem bXor_nat (x y : Nat) (hx : x < 4294967296) (hy : y < 4294967296) : bXor .u32 x y = ((x ^^^ y : Nat) : Int) := by
  unfold bXor
  rw [wr32_id]
  · show (((BitVec.ofInt 32 (x : Int) ^^^ BitVec.ofInt 32 (y : Int)).toNat : Nat) : Int) = _
    rw [BitVec.toNat_xor, BitVec.ofInt_natCast, BitVec.ofInt_natCast, BitVec.toNat_ofNat, BitVec.toNat_ofNat, Nat.mod_eq_of_lt hx, Nat.mod_eq_of_lt hy]
  · unfold U32
    have := (BitVec.ofInt IntKind.u32.bits x ^^^ BitVec.ofInt IntKind.u32.bits y).isLt
    simp only [IntKind.bits] at this
    simp only [IntKind.bits]
    omega
theorem bOr_nat (x y : Nat) (hx : x < 4294967296) (hy : y < 4294967296) : bOr .u32 x y = ((x ||| y : Nat) : Int) := by
  unfold bOr
  rw [wr32_id]
  · show (((BitVec.ofInt 32 (x : Int) ||| BitVec.ofInt 32 (y : Int)).toNat : Nat) : Int) = _
    rw [BitVec.toNat_or, BitVec.ofInt_natCast, BitVec.ofInt_natCast, BitVec.toNat_ofNat, BitVec.toNat_ofNat, Nat.mod_eq_of_lt hx, Nat.mod_eq_of_lt hy]
  · unfold U32
    have := (BitVec.ofInt IntKind.u32.bits x ||| BitVec.ofInt IntKind.u32.bits y).isLt
    simp only [IntKind.bits] at this
    simp only [IntKind.bits]
    omega
theorem bAnd_nat (x y : Nat) (hx : x < 4294967296) (hy : y < 4294967296) : bAnd .u32 x y = ((x &&& y : Nat) : Int) := by
  unfold bAnd
  rw [wr32_id]
  · show (((BitVec.ofInt 32 (x : Int) &&& BitVec.ofInt 32 (y : Int)).toNat : Nat) : Int) = _
    rw [BitVec.toNat_and, BitVec.ofInt_natCast, BitVec.ofInt_natCast, BitVec.toNat_ofNat, BitVec.toNat_ofNat, Nat.mod_eq_of_lt hx, Nat.mod_eq_of_lt hy]
  · unfold U32
    have := (BitVec.ofInt IntKind.u32.bits x &&& BitVec.ofInt IntKind.u32.bits y).isLt
    simp only [IntKind.bits] at this
    simp only [IntKind.bits]
    omega
theorem U32.nat {x : Int} (h : U32 x) : ∃ n : Nat, x = n ∧ n < 4294967296 := ⟨x.toNat, by unfold U32 at h; omega, by unfold U32 at h; omega⟩
theorem U32.of {n : Nat} (h : n < 4294967296) : U32 (n : Int) := by unfold U32; omega
theorem bXor_comm {x y : Int} : bXor .u32 x y = bXor .u32 y x := by unfold bXor; rw [BitVec.xor_comm]
theorem bXor_assoc {x y z : Int} (hx : U32 x) (hy : U32 y) (hz : U32 z) : bXor .u32 (bXor .u32 x y) z = bXor .u32 x (bXor .u32 y z) := by
  obtain ⟨x, rfl, gx⟩ := hx.nat
  obtain ⟨y, rfl, gy⟩ := hy.nat
  obtain ⟨z, rfl, gz⟩ := hz.nat
  rw [bXor_nat x y gx gy, bXor_nat y z gy gz, bXor_nat _ z (Nat.xor_lt_two_pow (n := 32) gx gy) gz, bXor_nat x _ gx (Nat.xor_lt_two_pow (n := 32) gy gz), Nat.xor_assoc]
theorem bXor_zero {x : Int} (hx : U32 x) : bXor .u32 0 x = x := by
  obtain ⟨x, rfl, gx⟩ := hx.nat
  have := bXor_nat 0 x (by omega) gx
  simpa using this
theorem shr_nat (x n : Nat) (hn : n ≤ 32) : shrI .u32 x n = ((x / 2 ^ n : Nat) : Int) := by
  unfold shrI
  have : min (n : Int).toNat IntKind.u32.bits = n := by simp [IntKind.bits]; omega
  rw [this, Int.fdiv_eq_ediv_of_nonneg _ (Int.le_of_lt (Int.pow_pos (by decide)))]
  simp
theorem shr_U {x : Int} (hx : U32 x) (n : Nat) (hn : n ≤ 32) : U32 (shrI .u32 x n) := by
  obtain ⟨x, rfl, gx⟩ := hx.nat
  rw [shr_nat x n hn]
  exact U32.of (Nat.lt_of_le_of_lt (Nat.div_le_self x (2 ^ n)) gx)
theorem rotI_U (w n : Int) : U32 (rotI w n) := bOr_U _ _
theorem sg3_sig {w : Int} (hw : U32 w) (a b c : Int) : sg3 a b c w = sigI 32 [a, b, c] w := by
  obtain ⟨x, rfl, gx⟩ := hw.nat
  have h0 : shrI .u32 (x : Int) 32 = 0 := by
    rw [show (32 : Int) = ((32 : Nat) : Int) from rfl, shr_nat x 32 (by omega), Nat.div_eq_of_lt gx]
    rfl
  unfold sg3 sigI
  simp only [List.foldl_cons, List.foldl_nil, h0, bXor_zero (rotI_U _ _)]
theorem rg3_sig {w : Int} (hw : U32 w) (a b : Int) (n : Nat) (hn : n ≤ 32) : rg3 a b n w = sigI n [a, b] w := by
  have hs := shr_U hw n hn
  unfold rg3 sigI
  simp only [List.foldl_cons, List.foldl_nil]
  rw [bXor_comm, bXor_assoc hs (rotI_U _ _) (rotI_U _ _)]
theorem div_tmod2 (x i : Nat) (hi : i ≤ 32) : Int.tmod (shrI .u32 x i) 2 = (((x.testBit i).toNat : Nat) : Int) := by
  rw [shr_nat x i hi]
  rw [Int.tmod_eq_emod_of_nonneg (Int.natCast_nonneg _), Nat.toNat_testBit]
  rfl
theorem shl_bit (b : Bool) (i : Nat) (hi : i < 32) : shlI .u32 ((b.toNat : Nat) : Int) i = ((2 ^ i * b.toNat : Nat) : Int) := by
  unfold shlI
  have : min (i : Int).toNat IntKind.u32.bits = i := by simp [IntKind.bits]; omega
  rw [this]
  have h2 : (2 : Nat) ^ i < 2 ^ 32 := Nat.pow_lt_pow_right (by decide) hi
  have h3 : ((2 : Nat) ^ i * b.toNat) < 4294967296 := by cases b <;> simp_all
  rw [show ((b.toNat : Nat) : Int) * 2 ^ i = ((2 ^ i * b.toNat : Nat) : Int) by push_cast; rw [Int.mul_comm]]
  exact wr32_id (U32.of h3)
theorem mod_bit (x i : Nat) : x % 2 ^ (i + 1) = x % 2 ^ i + 2 ^ i * (x.testBit i).toNat := by
  rw [Nat.toNat_testBit, Nat.mod_pow_succ]
theorem add_bit (x i : Nat) (hx : x < 4294967296) (hi : i < 32) : IntKind.u32.wrap (((x % 2 ^ i : Nat) : Int) + ((2 ^ i * (x.testBit i).toNat : Nat) : Int)) = ((x % 2 ^ (i + 1) : Nat) : Int) := by
  rw [mod_bit]
  rw [wr32_id]
  · push_cast; rfl
  · rw [show ((x % 2 ^ i : Nat) : Int) + ((2 ^ i * (x.testBit i).toNat : Nat) : Int) = ((x % 2 ^ i + 2 ^ i * (x.testBit i).toNat : Nat) : Int) by push_cast; rfl, ← mod_bit]
    exact U32.of (Nat.lt_of_le_of_lt (Nat.mod_le _ _) hx)
theorem most_bits (a b c : Nat) (ha : a < 4294967296) (hb : b < 4294967296) (hc : c < 4294967296) : ∀ i, i ≤ 32 → mostO a b c i = (((a &&& (b ||| c) ||| b &&& c) % 2 ^ i : Nat) : Int)
  | 0, _ => by simp [mostO, Nat.mod_one]
  | i + 1, hi => by
    have hm : (a &&& (b ||| c) ||| b &&& c) < 4294967296 := Nat.or_lt_two_pow (n := 32) (Nat.lt_of_le_of_lt Nat.and_le_left ha) (Nat.lt_of_le_of_lt Nat.and_le_left hb)
    rw [mostO, most_bits a b c ha hb hc i (by omega), div_tmod2 a i (by omega), div_tmod2 b i (by omega), div_tmod2 c i (by omega), ← add_bit _ i hm (by omega)]
    have ht : (a &&& (b ||| c) ||| b &&& c).testBit i = (a.testBit i && (b.testBit i || c.testBit i) || b.testBit i && c.testBit i) := by simp
    rw [ht]
    have h1 := shl_bit true i (by omega)
    have hx : IntKind.u32.wrap (((a &&& (b ||| c) ||| b &&& c) % 2 ^ i : Nat) : Int) = (((a &&& (b ||| c) ||| b &&& c) % 2 ^ i : Nat) : Int) := wr32_id (U32.of (Nat.lt_of_le_of_lt (Nat.mod_le _ _) hm))
    rw [wr32, wr32]
    cases a.testBit i <;> cases b.testBit i <;> cases c.testBit i <;> simp at h1 hx ⊢ <;> first | rw [h1] | rw [hx]
theorem most_eq {a b c : Int} (ha : U32 a) (hb : U32 b) (hc : U32 c) : mostR a b c = bOr .u32 (bAnd .u32 a (bOr .u32 b c)) (bAnd .u32 b c) := by
  obtain ⟨a, rfl, ga⟩ := ha.nat
  obtain ⟨b, rfl, gb⟩ := hb.nat
  obtain ⟨c, rfl, gc⟩ := hc.nat
  have h1 := Nat.or_lt_two_pow (n := 32) gb gc
  have h2 : a &&& (b ||| c) < 4294967296 := Nat.lt_of_le_of_lt Nat.and_le_left ga
  have h3 : b &&& c < 4294967296 := Nat.lt_of_le_of_lt Nat.and_le_left gb
  rw [bOr_nat b c gb gc, bAnd_nat a _ ga h1, bAnd_nat b c gb gc, bOr_nat _ _ h2 h3]
  unfold mostR
  rw [most_bits a b c ga gb gc 32 (by omega), Nat.mod_eq_of_lt]
  exact Nat.or_lt_two_pow (n := 32) h2 h3
theorem pick_bits (a b c : Nat) (ha : a < 4294967296) (hb : b < 4294967296) (hc : c < 4294967296) : ∀ i, i ≤ 32 → pickO a b c i = (((c ^^^ (a &&& (b ^^^ c))) % 2 ^ i : Nat) : Int)
  | 0, _ => by simp [pickO, Nat.mod_one]
  | i + 1, hi => by
    have hm : (c ^^^ (a &&& (b ^^^ c))) < 4294967296 := Nat.xor_lt_two_pow (n := 32) hc (Nat.lt_of_le_of_lt Nat.and_le_left ha)
    rw [pickO, pick_bits a b c ha hb hc i (by omega), div_tmod2 a i (by omega), div_tmod2 b i (by omega), div_tmod2 c i (by omega), ← add_bit _ i hm (by omega)]
    have ht : (c ^^^ (a &&& (b ^^^ c))).testBit i = (c.testBit i ^^ (a.testBit i && (b.testBit i ^^ c.testBit i))) := by simp
    rw [ht]
    have h1 := shl_bit true i (by omega)
    have h0 := shl_bit false i (by omega)
    cases a.testBit i <;> cases b.testBit i <;> cases c.testBit i <;> simp at h1 h0 ⊢ <;> first | rw [h1] | rw [h0, Int.add_zero]
theorem pick_eq {a b c : Int} (ha : U32 a) (hb : U32 b) (hc : U32 c) : pickR a b c = bXor .u32 c (bAnd .u32 a (bXor .u32 b c)) := by
  obtain ⟨a, rfl, ga⟩ := ha.nat
  obtain ⟨b, rfl, gb⟩ := hb.nat
  obtain ⟨c, rfl, gc⟩ := hc.nat
  have h1 := Nat.xor_lt_two_pow (n := 32) gb gc
  have h2 : a &&& (b ^^^ c) < 4294967296 := Nat.lt_of_le_of_lt Nat.and_le_left ga
  rw [bXor_nat b c gb gc, bAnd_nat a _ ga h1, bXor_nat _ _ gc h2]
  unfold pickR
  rw [pick_bits a b c ga gb gc 32 (by omega), Nat.mod_eq_of_lt]
  exact Nat.xor_lt_two_pow (n := 32) gc h2
theorem refM_succ (bl : List Int) (t : Nat) : refM bl (t + 1) = (refM bl t).set t (if t < 16 then refB bl t else refW (refM bl t) t) := by rw [refM]
theorem refM_keep (bl : List Int) (s t : Nat) (hs : s < t) : ∀ u, (refM bl (t + u)).getD s 0 = (refM bl t).getD s 0
  | 0 => rfl
  | u + 1 => by
    rw [← Nat.add_assoc, refM_succ, ← refM_keep bl s t hs u]
    simp only [List.getD_eq_getElem?_getD]
    rw [List.getElem?_set_ne (by omega)]
@[irreducible] def schW (bl : List Int) (t : Nat) : Int := (refM bl 64).getD t 0
theorem schW_of (bl : List Int) {s t : Nat} (hs : s < t) (ht : t ≤ 64) : (refM bl t).getD s 0 = schW bl s := by
  unfold schW
  have := refM_keep bl s t hs (64 - t)
  rw [show t + (64 - t) = 64 by omega] at this
  exact this.symm
theorem schW_eq (bl : List Int) {t : Nat} (ht : t < 64) : schW bl t = if t < 16 then refB bl t else refW (refM bl t) t := by
  rw [← schW_of bl (Nat.lt_succ_self t) (by omega), refM_succ]
  simp only [List.getD_eq_getElem?_getD]
  rw [List.getElem?_set_self (by rw [refM_len]; omega)]
  rfl
theorem schW_lo (bl : List Int) {t : Nat} (ht : t < 16) : schW bl t = refB bl t := by rw [schW_eq bl (by omega), if_pos ht]
theorem schW_hi (bl : List Int) {t : Nat} (h16 : 16 ≤ t) (ht : t < 64) : schW bl t = IntKind.u32.wrap (IntKind.u32.wrap (IntKind.u32.wrap (rg3 17 19 10 (schW bl (t - 2)) + schW bl (t - 7)) + rg3 7 18 3 (schW bl (t - 15))) + schW bl (t - 16)) := by
  rw [schW_eq bl (by omega), if_neg (by omega)]
  unfold refW
  rw [schW_of bl (by omega) (by omega), schW_of bl (by omega) (by omega), schW_of bl (by omega) (by omega), schW_of bl (by omega) (by omega)]
theorem schW_U (bl : List Int) {t : Nat} (ht : t < 64) : U32 (schW bl t) := by
  by_cases h : t < 16
  · rw [schW_lo bl h]; exact wr32_U _
  · rw [schW_hi bl (by omega) ht]; exact wr32_U _
theorem mAt_nat (t : Nat) : mAt (t : Int) = t % 16 := by
  unfold mAt
  rw [tm (by omega)]
  omega
theorem atI_nat (i t : Nat) (hi : i < 8) (ht : t ≤ 64) : atI (i : Int) (t : Int) = (i + 64 - t) % 8 := by
  unfold atI
  rw [w64 (x := (i : Int) + 64) (by omega), w64 (by omega), tm (by omega)]
  omega
theorem getD_set (l : List Int) (i j : Nat) (x : Int) (hi : i < l.length) : (l.set i x).getD j 0 = if i = j then x else l.getD j 0 := by
  simp only [List.getD_eq_getElem?_getD]
  by_cases h : i = j
  · subst h
    rw [List.getElem?_set_self hi, if_pos rfl]; rfl
  · rw [List.getElem?_set_ne h, if_neg h]
def Ring (bl r : List Int) (t : Nat) : Prop := r.length = 16 ∧ ∀ s, s < max 16 t → max 16 t ≤ s + 16 → r.getD (s % 16) 0 = schW bl s
theorem Ring.step {bl r : List Int} {t : Nat} (h : Ring bl r t) (ht : t < 64) : Ring bl (shaM t r) (t + 1) := by
  obtain ⟨hl, hr⟩ := h
  refine ⟨by rw [shaM_len, hl], fun s h1 h2 => ?_⟩
  unfold shaM
  by_cases h16 : t < 16
  · rw [if_neg (by omega)]
    exact hr s (by omega) (by omega)
  · rw [if_pos (by omega)]
    have w1 : IntKind.i64.wrap ((t : Int) + 1) = ((t + 1 : Nat) : Int) := by rw [w64 (by omega)]; omega
    have w9 : IntKind.i64.wrap ((t : Int) + 9) = ((t + 9 : Nat) : Int) := by rw [w64 (by omega)]; omega
    have w14 : IntKind.i64.wrap ((t : Int) + 14) = ((t + 14 : Nat) : Int) := by rw [w64 (by omega)]; omega
    have r0 := hr (t - 16) (by omega) (by omega)
    have r1 := hr (t - 15) (by omega) (by omega)
    have r9 := hr (t - 7) (by omega) (by omega)
    have r14 := hr (t - 2) (by omega) (by omega)
    rw [show (t - 16) % 16 = t % 16 by omega] at r0
    rw [show (t - 15) % 16 = (t + 1) % 16 by omega] at r1
    rw [show (t - 7) % 16 = (t + 9) % 16 by omega] at r9
    rw [show (t - 2) % 16 = (t + 14) % 16 by omega] at r14
    rw [w1, w9, w14, mAt_nat, mAt_nat, mAt_nat, mAt_nat, r0, r1, r9, r14, getD_set _ _ _ _ (by rw [hl]; omega)]
    by_cases hs : s = t
    · subst hs
      rw [if_pos rfl, schW_hi bl (by omega) ht]
      have e1 := rg3_sig (schW_U bl (t := s - 2) (by omega)) 17 19 10 (by omega)
      have e2 := rg3_sig (schW_U bl (t := s - 15) (by omega)) 7 18 3 (by omega)
      rw [show ((10 : Nat) : Int) = 10 from rfl] at e1
      rw [show ((3 : Nat) : Int) = 3 from rfl] at e2
      rw [e1, e2]
      simp only [wr32]
      omega
    · rw [if_neg (by omega)]
      exact hr s (by omega) (by omega)
def U8 (x : Int) : Prop := 0 ≤ x ∧ x < 256
theorem shlI_32 (x n : Nat) (hn : n ≤ 32) (h : x * 2 ^ n < 4294967296) : shlI .u32 x n = ((x * 2 ^ n : Nat) : Int) := by
  unfold shlI
  have : min (n : Int).toNat IntKind.u32.bits = n := by simp [IntKind.bits]; omega
  rw [this, show (x : Int) * 2 ^ n = ((x * 2 ^ n : Nat) : Int) by push_cast; rfl]
  exact wr32_id (U32.of h)
theorem or_shl8 (x y : Nat) (hx : x < 16777216) (hy : y < 256) : bOr .u32 (shlI .u32 x 8) y = ((x * 256 + y : Nat) : Int) := by
  have := shlI_32 x 8 (by omega) (by omega)
  rw [show ((8 : Nat) : Int) = 8 from rfl] at this
  rw [this, bOr_nat _ _ (by omega) (by omega), ← Nat.shiftLeft_eq, ← Nat.shiftLeft_add_eq_or_of_lt (by omega), Nat.shiftLeft_eq]
theorem getD_all {P : Int → Prop} {l : List Int} (h : ∀ x ∈ l, P x) (h0 : P 0) (i : Nat) : P (l.getD i 0) := by
  rw [List.getD_eq_getElem?_getD]
  cases hg : l[i]? with
  | none => exact h0
  | some x => exact h x (List.mem_of_getElem? hg)
theorem U8.nat {x : Int} (h : U8 x) : ∃ n : Nat, x = n ∧ n < 256 := ⟨x.toNat, by unfold U8 at h; omega, by unfold U8 at h; omega⟩
theorem word_eq (bl : List Int) (hb : ∀ x ∈ bl, U8 x) (t : Nat) : word4 bl (4 * t) = refB bl t := by
  unfold word4 refB
  obtain ⟨a, ea, ha⟩ := (getD_all (P := U8) hb (by unfold U8; omega) (4 * t)).nat
  obtain ⟨b, eb, hb'⟩ := (getD_all (P := U8) hb (by unfold U8; omega) (4 * t + 1)).nat
  obtain ⟨c, ec, hc⟩ := (getD_all (P := U8) hb (by unfold U8; omega) (4 * t + 2)).nat
  obtain ⟨d, ed, hd⟩ := (getD_all (P := U8) hb (by unfold U8; omega) (4 * t + 3)).nat
  rw [ea, eb, ec, ed]
  rw [wr32_id (x := (a : Int)) (U32.of (by omega)), wr32_id (x := (b : Int)) (U32.of (by omega)), wr32_id (x := (c : Int)) (U32.of (by omega)), wr32_id (x := (d : Int)) (U32.of (by omega))]
  have z := or_shl8 0 a (by omega) ha
  have s0 : shlI .u32 0 8 = 0 := by decide
  rw [show shlI .u32 ((0 : Nat) : Int) 8 = 0 from s0] at z
  rw [z, or_shl8 _ b (by omega) hb', or_shl8 _ c (by omega) hc, or_shl8 _ d (by omega) hd]
  have g1 := shlI_32 a 24 (by omega) (by omega)
  have g2 := shlI_32 b 16 (by omega) (by omega)
  have g3 := shlI_32 c 8 (by omega) (by omega)
  rw [show ((24 : Nat) : Int) = 24 from rfl] at g1
  rw [show ((16 : Nat) : Int) = 16 from rfl] at g2
  rw [show ((8 : Nat) : Int) = 8 from rfl] at g3
  rw [g1, g2, g3]
  simp only [wr32]
  omega
theorem Ring.first (bl : List Int) (hb : ∀ x ∈ bl, U8 x) : Ring bl (words4 bl) 0 := by
  refine ⟨rfl, fun s h1 _ => ?_⟩
  have h16 : s < 16 := by omega
  rw [schW_lo bl h16, ← word_eq bl hb, Nat.mod_eq_of_lt h16]
  have : s = 0 ∨ s = 1 ∨ s = 2 ∨ s = 3 ∨ s = 4 ∨ s = 5 ∨ s = 6 ∨ s = 7 ∨ s = 8 ∨ s = 9 ∨ s = 10 ∨ s = 11 ∨ s = 12 ∨ s = 13 ∨ s = 14 ∨ s = 15 := by omega
  rcases this with rfl | rfl | rfl | rfl | rfl | rfl | rfl | rfl | rfl | rfl | rfl | rfl | rfl | rfl | rfl | rfl <;> rfl
def Turned (x y : List Int) (t : Nat) : Prop := x.length = 8 ∧ ∀ i, i < 8 → x.getD ((i + 64 - t) % 8) 0 = y.getD i 0
theorem Turned.step {x y m : List Int} {w : Int} {t : Nat} (h : Turned x y t) (hU : ∀ i, i < 8 → U32 (y.getD i 0)) (ht : t < 64) (hm : m.getD (t % 16) 0 = w) :
    Turned (shaX t m x) (stepX mostR pickR (shaK.getD t 0) w y) (t + 1) := by
  obtain ⟨hl, hr⟩ := h
  have a0 := atI_nat 0 t (by omega) (by omega)
  have a1 := atI_nat 1 t (by omega) (by omega)
  have a2 := atI_nat 2 t (by omega) (by omega)
  have a3 := atI_nat 3 t (by omega) (by omega)
  have a4 := atI_nat 4 t (by omega) (by omega)
  have a5 := atI_nat 5 t (by omega) (by omega)
  have a6 := atI_nat 6 t (by omega) (by omega)
  have a7 := atI_nat 7 t (by omega) (by omega)
  have h0 := hr 0 (by omega)
  have h1 := hr 1 (by omega)
  have h2 := hr 2 (by omega)
  have h3 := hr 3 (by omega)
  have h4 := hr 4 (by omega)
  have h5 := hr 5 (by omega)
  have h6 := hr 6 (by omega)
  have h7 := hr 7 (by omega)
  rw [← a0] at h0
  rw [← a1] at h1
  rw [← a2] at h2
  rw [← a3] at h3
  rw [← a4] at h4
  rw [← a5] at h5
  rw [← a6] at h6
  rw [← a7] at h7
  refine ⟨by rw [shaX_len, hl], ?_⟩
  have hadd : shaAdd t m x = IntKind.u32.wrap (IntKind.u32.wrap (IntKind.u32.wrap (IntKind.u32.wrap (y.getD 7 0 + sg3 6 11 25 (y.getD 4 0)) + pickR (y.getD 4 0) (y.getD 5 0) (y.getD 6 0)) + shaK.getD t 0) + w) := by
    unfold shaAdd
    rw [mAt_nat, hm]
    rw [show atI 7 (t : Int) = atI ((7 : Nat) : Int) t from rfl, show atI 4 (t : Int) = atI ((4 : Nat) : Int) t from rfl, show atI 5 (t : Int) = atI ((5 : Nat) : Int) t from rfl, show atI 6 (t : Int) = atI ((6 : Nat) : Int) t from rfl]
    rw [h4, h5, h6, h7, sg3_sig (hU 4 (by omega)), pick_eq (hU 4 (by omega)) (hU 5 (by omega)) (hU 6 (by omega))]
    rw [Nat.zero_add, Int.toNat_natCast]
  unfold shaX
  rw [hadd]
  rw [show atI 7 (t : Int) = atI ((7 : Nat) : Int) t from rfl, show atI 3 (t : Int) = atI ((3 : Nat) : Int) t from rfl, show atI 0 (t : Int) = atI ((0 : Nat) : Int) t from rfl, show atI 1 (t : Int) = atI ((1 : Nat) : Int) t from rfl, show atI 2 (t : Int) = atI ((2 : Nat) : Int) t from rfl]
  rw [h0, h1, h2, h3, ← most_eq (hU 0 (by omega)) (hU 1 (by omega)) (hU 2 (by omega)), ← sg3_sig (hU 0 (by omega)), a3, a7]
  intro i hi
  rw [getD_set _ _ _ _ (by rw [List.length_set, hl]; omega), getD_set _ _ _ _ (by rw [hl]; omega)]
  unfold stepX
  have : i = 0 ∨ i = 1 ∨ i = 2 ∨ i = 3 ∨ i = 4 ∨ i = 5 ∨ i = 6 ∨ i = 7 := by omega
  rcases this with rfl | rfl | rfl | rfl | rfl | rfl | rfl | rfl
  · rw [if_pos (by omega)]
    simp only [wr32, List.getD_cons_zero]
    omega
  · rw [if_neg (by omega), if_neg (by omega), show (1 + 64 - (t + 1)) % 8 = (0 + 64 - t) % 8 by omega, hr 0 (by omega)]; rfl
  · rw [if_neg (by omega), if_neg (by omega), show (2 + 64 - (t + 1)) % 8 = (1 + 64 - t) % 8 by omega, hr 1 (by omega)]; rfl
  · rw [if_neg (by omega), if_neg (by omega), show (3 + 64 - (t + 1)) % 8 = (2 + 64 - t) % 8 by omega, hr 2 (by omega)]; rfl
  · rw [if_neg (by omega), if_pos (by omega)]; rfl
  · rw [if_neg (by omega), if_neg (by omega), show (5 + 64 - (t + 1)) % 8 = (4 + 64 - t) % 8 by omega, hr 4 (by omega)]; rfl
  · rw [if_neg (by omega), if_neg (by omega), show (6 + 64 - (t + 1)) % 8 = (5 + 64 - t) % 8 by omega, hr 5 (by omega)]; rfl
  · rw [if_neg (by omega), if_neg (by omega), show (7 + 64 - (t + 1)) % 8 = (6 + 64 - t) % 8 by omega, hr 6 (by omega)]; rfl
def W8 (st : List Int) : Prop := st.length = 8 ∧ ∀ x ∈ st, U32 x
theorem W8.get {st : List Int} (h : W8 st) (i : Nat) : U32 (st.getD i 0) := getD_all h.2 (by unfold U32; omega) i
def blks (P : List Int → List Int → List Int) : Nat → List Int → List Int → List Int
  | 0, st, _ => st
  | n + 1, st, ms => blks P n (P st (ms.take 64)) (ms.drop 64)
theorem blks_succ (P : List Int → List Int → List Int) : ∀ (n : Nat) (st ms : List Int), blks P (n + 1) st ms = P (blks P n st ms) ((ms.drop (64 * n)).take 64)
  | 0, _, _ => rfl
  | n + 1, st, ms => by
    rw [blks, blks_succ P n, List.drop_drop]
    rw [show 64 + 64 * n = 64 * (n + 1) by omega]
    rfl
theorem blks_app (P : List Int → List Int → List Int) : ∀ (n : Nat) (st ms more : List Int), 64 * n ≤ ms.length → blks P n st (ms ++ more) = blks P n st ms
  | 0, _, _, _, _ => rfl
  | n + 1, st, ms, more, h => by
    rw [blks, blks, List.take_append_of_le_length (by omega), List.drop_append_of_le_length (by omega), blks_app P n _ _ _ (by rw [List.length_drop]; omega)]
structure Rep (r : RunS) (ms : List Int) : Prop where
  came : r.came = ms.length
  st : r.st = blks press (ms.length / 64) initR.st ms
  len : r.part.length = 64
  part : r.part.take (ms.length % 64) = ms.drop (64 * (ms.length / 64))
theorem Rep.ok {r : RunS} {ms : List Int} (h : Rep r ms) (h8 : r.st.length = 8) : r.Ok := ⟨h8, h.len, by rw [h.came]; omega⟩
theorem Rep.one {r : RunS} {ms : List Int} (h : Rep r ms) (bs : List Int) : Rep (r.one bs) (ms ++ wTk r.came bs) := by
  have ha : wAt r.came = ms.length % 64 := by
    unfold wAt
    rw [h.came, tm (by omega)]
    omega
  have hk : (wTk r.came bs).length ≤ 64 - ms.length % 64 := by
    unfold wTk
    rw [ha, List.length_take]
    omega
  have hdl : (ms.drop (64 * (ms.length / 64))).length = ms.length % 64 := by rw [List.length_drop]; omega
  have hp : wPart r.part r.came bs = ms.drop (64 * (ms.length / 64)) ++ wTk r.came bs ++ r.part.drop (ms.length % 64 + (wTk r.came bs).length) := by
    unfold wPart spl
    rw [ha, h.part]
  have hl : (wPart r.part r.came bs).length = 64 := by
    rw [hp, List.length_append, List.length_append, hdl, List.length_drop, h.len]
    omega
  have hst : (r.one bs).st = if ms.length % 64 + (wTk r.came bs).length = 64 then press r.st (wPart r.part r.came bs) else r.st := by
    show wSt _ _ _ _ = _
    unfold wSt
    rw [ha]
  have hca : (r.one bs).came = r.came + (wTk r.came bs).length := rfl
  have hpa : (r.one bs).part = wPart r.part r.came bs := rfl
  generalize wTk r.came bs = tk at *
  generalize wPart r.part r.came bs = pa at *
  have hal : (ms ++ tk).length = ms.length + tk.length := List.length_append
  refine ⟨by rw [hca, h.came, hal]; omega, ?_, by rw [hpa]; exact hl, ?_⟩
  · rw [hst, h.st]
    by_cases h64 : ms.length % 64 + tk.length = 64
    · rw [if_pos h64, hal, show (ms.length + tk.length) / 64 = ms.length / 64 + 1 by omega, blks_succ, blks_app _ _ _ _ _ (by omega)]
      congr 1
      rw [List.drop_append_of_le_length (by omega), hp, show r.part.drop (ms.length % 64 + tk.length) = [] from List.drop_eq_nil_of_le (by rw [h.len]; omega), List.append_nil, List.take_of_length_le (by rw [List.length_append, hdl]; omega)]
    · rw [if_neg h64, hal, show (ms.length + tk.length) / 64 = ms.length / 64 by omega, blks_app _ _ _ _ _ (by omega)]
  · rw [hpa, hal]
    by_cases h64 : ms.length % 64 + tk.length = 64
    · rw [show (ms.length + tk.length) % 64 = 0 by omega, List.take_zero, List.drop_eq_nil_of_le (by rw [hal]; omega)]
    · rw [show (ms.length + tk.length) / 64 = ms.length / 64 by omega, show (ms.length + tk.length) % 64 = ms.length % 64 + tk.length by omega, hp, List.drop_append_of_le_length (by omega)]
      rw [List.take_append_of_le_length (by rw [List.length_append, hdl]; omega)]
      exact List.take_of_length_le (by rw [List.length_append, hdl]; omega)
theorem Rep.many : ∀ (n : Nat) (r : RunS) (ms bs : List Int), r.Ok → Rep r ms → bs.length ≤ n → Rep (RunS.many n r bs).1 (ms ++ bs)
  | 0, r, ms, bs, _, h, hn => by
    have : bs = [] := List.eq_nil_of_length_eq_zero (by omega)
    subst this
    rw [List.append_nil]
    exact h
  | n + 1, r, ms, bs, hr, h, hn => by
    unfold RunS.many
    split
    · rw [List.append_nil]; exact h
    · rename_i b bs
      have hp := wTk_pos hr (bs := b :: bs) (by simp)
      have hb : (b :: bs) = wTk r.came (b :: bs) ++ (b :: bs).drop (wTk r.came (b :: bs)).length := by
        unfold wTk
        rw [List.length_take]
        by_cases h : 64 - wAt r.came ≤ (b :: bs).length
        · rw [Nat.min_eq_left h, List.take_append_drop]
        · rw [Nat.min_eq_right (by omega), List.take_of_length_le (by omega), List.drop_length, List.append_nil]
      have := Rep.many n _ _ ((b :: bs).drop (wTk r.came (b :: bs)).length) (hr.one _) (h.one (b :: bs)) (by rw [List.length_drop]; simp only [List.length_cons] at hn ⊢; omega)
      rw [List.append_assoc, ← hb] at this
      exact this
theorem Rep.write {r : RunS} {ms : List Int} (hr : r.Ok) (h : Rep r ms) (bs : List Int) : Rep (r.write bs) (ms ++ bs) := by
  unfold RunS.write
  exact Rep.many _ _ _ _ hr h (Nat.le_refl _)
def refPad (bs : List Int) : List Int := bs ++ padB bs.length ++ len8 bs.length
def shaAll (P : List Int → List Int → List Int) (bs : List Int) : List Int := hashB (blks P ((refPad bs).length / 64) initR.st (refPad bs))
theorem Rep.fin {r : RunS} {ms : List Int} (hr : r.Ok) (h : Rep r ms) : r.fin = shaAll press ms := by
  have h1 := h.write hr (padB r.came)
  have h2 := h1.write (write_ok _ _ hr) (len8 r.came)
  unfold RunS.fin shaAll
  rw [h2.st, h.came]
  rfl
end Go.Tk
end
section
namespace Go.Tk
end Go.Tk
end
section
namespace Go.Tk
end Go.Tk
end
section
namespace Go.Tk
end Go.Tk
end
section
namespace Go.Tk
theorem Bytes.u8 {xs : List Int} (h : Bytes xs) : ∀ x ∈ xs, U8 x := by
  intro x hx
  obtain ⟨i, hi, rfl⟩ := List.getElem_of_mem hx
  have := h.h i
  rw [List.getD_eq_getElem?_getD, List.getElem?_eq_getElem hi] at this
  simp at this
  unfold U8
  omega
theorem Bytes.of {xs : List Int} (h : ∀ x ∈ xs, U8 x) : Bytes xs := ⟨fun i => by
  have := getD_all (P := U8) h (by unfold U8; omega) i
  unfold U8 at this
  omega⟩
end Go.Tk
end
section
namespace Go.Tk
structure TermS where
  fund : List Int
  index : Int
  cap : Int
  dust : Int
  fee : Int
  delay : Int
  k0 : List Int
  k1 : List Int
def TermS.c (t : TermS) : List AV := [.arr .u8 32 t.fund, .int .i64 t.index, .int .i64 t.cap, .int .i64 t.dust, .int .i64 t.fee, .int .i64 t.delay, .arr .u8 32 t.k0, .arr .u8 32 t.k1]
structure TermS.Ok (t : TermS) : Prop where
  k0 : t.k0.length = 32
  k1 : t.k1.length = 32
  b0 : Bytes t.k0
  b1 : Bytes t.k1
def termB (t : TermS) : Bool := decide (0 ≤ t.index ∧ t.index ≤ 23) && decide (1000 ≤ t.cap ∧ t.cap ≤ 1125899906842624) && decide (1 ≤ t.dust ∧ t.dust ≤ 500) && decide (0 ≤ t.fee ∧ t.fee ≤ 400) && decide (1 ≤ t.delay ∧ t.delay ≤ 1000) && (t.k0 != t.k1)
theorem iteB_eq2 (b : Bool) (x y : Prop) : iteB b x y = ((b = true → x) ∧ (b = false → y)) := by cases b <;> simp [iteB]
set_option maxRecDepth 100000 in
set_option maxHeartbeats 0 in
theorem in_37 (n a b : Int) (r : Bool) (hr : r = decide (a ≤ n ∧ n ≤ b)) :
    evF G0 20 37 [.int .i64 n, .int .i64 a, .int .i64 b] ⟨0, []⟩ (outV (fun v => v = .bool r)) := by
  refine @Eq.mpr _ (iteB (decide (a ≤ n)) (AV.bool (decide (n ≤ b)) = AV.bool r) (AV.bool false = AV.bool r)) (by kernel_rfl) ?_
  simp only [iteB_eq2]
  subst hr
  by_cases h1 : a ≤ n <;> by_cases h2 : n ≤ b <;> simp [h1, h2]
def inQ : PSumm := fun args _ K => match args with
  | [.int .i64 n, .int .i64 a, .int .i64 b] => K (.bool (decide (a ≤ n ∧ n ≤ b)))
  | _ => False
theorem inQ_ok (args : List AV) (h : Heap) (K : AV → Prop) (hl : inQ args h K) : CallsA PP 37 args h fun o h' => ∃ v, o = .ret v ∧ h' = h ∧ K v := by
  unfold inQ at hl
  split at hl
  · exact outV_ev G0_ok rfl (in_37 _ _ _ _ rfl) (fun u hu => hu ▸ hl)
  · exact hl.elim
noncomputable def E71 : Env2 := G0.withP 37 inQ
theorem E71_ok : E71.Ok := Env2.withP_ok G0_ok inQ_ok
set_option maxRecDepth 100000 in
set_option maxHeartbeats 0 in
theorem te_24 (t : TermS) (e : Int) (ht : t.Ok) (he : e = if termB t = true then 0 else 2) :
    evF E71 20 35 [.agg t.c] ⟨0, []⟩ (outV (fun v => v = .int .i64 e)) := by
  refine @Eq.mpr _ (let q1 := AV.int IntKind.i64 2 = AV.int IntKind.i64 e;
 iteB (decide (List.length t.k0 = 32 ∧ List.length t.k1 = 32)) (iteB (false == decide (0 ≤ t.index ∧ t.index ≤ 23)) q1 (iteB (false == decide (1000 ≤ t.cap ∧ t.cap ≤ 1125899906842624)) q1 (iteB (false == decide (1 ≤ t.dust ∧ t.dust ≤ 500)) q1 (iteB (false == decide (0 ≤ t.fee ∧ t.fee ≤ 400)) q1 (iteB (false == decide (1 ≤ t.delay ∧ t.delay ≤ 1000)) q1 (iteB (false == !t.k0 == t.k1) q1 (AV.int IntKind.i64 0 = AV.int IntKind.i64 e))))))) False) (by kernel_rfl) ?_
  conv => zeta
  try simp only [need_eq]
  try simp only [nope_eq]
  try simp only [iteD_eq]
  try simp only [iteT_eq]
  try simp only [iteF_eq]
  try simp only [iteE_eq]
  try simp only [Int.toNat_natCast, Nat.zero_add, true_and, and_true, Nat.le_refl]
  unfold termB at he
  refine ⟨⟨ht.k0, ht.k1⟩, ?_⟩
  generalize decide (0 ≤ t.index ∧ t.index ≤ 23) = c1 at *
  generalize decide (1000 ≤ t.cap ∧ t.cap ≤ 1125899906842624) = c2 at *
  generalize decide (1 ≤ t.dust ∧ t.dust ≤ 500) = c3 at *
  generalize decide (0 ≤ t.fee ∧ t.fee ≤ 400) = c4 at *
  generalize decide (1 ≤ t.delay ∧ t.delay ≤ 1000) = c5 at *
  have h6 : (t.k0 != t.k1) = !(t.k0 == t.k1) := rfl
  rw [h6] at he
  generalize (t.k0 == t.k1) = c6 at *
  cases c1 <;> cases c2 <;> cases c3 <;> cases c4 <;> cases c5 <;> cases c6 <;> simp_all
set_option maxRecDepth 100000 in
set_option maxHeartbeats 0 in
theorem te_23 (t : TermS) (b : Bool) (ht : t.Ok) (hb : b = termB t) :
    evF G0 20 32 [.agg t.c] ⟨0, []⟩ (outV (fun v => v = .bool b)) := by
  refine @Eq.mpr _ (let q1 := t.cap;
 let q2 := AV.bool false = AV.bool b;
 iteB (decide (t.index ≥ 0)) (iteB (decide (t.index < 24)) (iteB (decide (q1 ≥ 1000)) (iteB (decide (q1 ≥ 0)) (iteB (decide (q1 ≤ 1125899906842624)) (iteB (decide (t.dust ≥ 1)) (iteB (decide (t.dust ≤ 500)) (iteB (decide (t.fee ≥ 0)) (iteB (decide (t.fee ≤ 400)) (iteB (decide (t.delay ≥ 1)) (iteB (decide (t.delay ≤ 1000)) (iteB (decide (List.length t.k0 = 32 ∧ List.length t.k1 = 32)) ((AV.bool !t.k0 == t.k1) = AV.bool b) False) q2) q2) q2) q2) q2) q2) q2) q2) q2) q2) q2) (by kernel_rfl) ?_
  conv => zeta
  try simp only [need_eq]
  try simp only [nope_eq]
  try simp only [iteD_eq]
  try simp only [iteT_eq]
  try simp only [iteF_eq]
  try simp only [iteE_eq]
  try simp only [Int.toNat_natCast, Nat.zero_add, true_and, and_true, Nat.le_refl]
  subst hb
  unfold termB
  repeat' (first | (refine And.intro ?_ ?_) | intro _ | fail)
  all_goals first
    | exact ht.k0
    | exact ht.k1
    | (congr 1; symm; rw [Bool.eq_false_iff]; simp only [ne_eq, Bool.and_eq_true, decide_eq_true_eq]; intro h; omega)
    | (congr 1; have h1 : (0 ≤ t.index ∧ t.index ≤ 23) := (by omega); have h2 : (1000 ≤ t.cap ∧ t.cap ≤ 1125899906842624) := (by omega); have h3 : (1 ≤ t.dust ∧ t.dust ≤ 500) := (by omega); have h4 : (0 ≤ t.fee ∧ t.fee ≤ 400) := (by omega); have h5 : (1 ≤ t.delay ∧ t.delay ≤ 1000) := (by omega); rw [decide_eq_true h1, decide_eq_true h2, decide_eq_true h3, decide_eq_true h4, decide_eq_true h5]; rfl)
theorem iteB_eq' (b : Bool) (x y : Prop) : iteB b x y = ((b = true → x) ∧ (b = false → y)) := by cases b <;> simp [iteB]
theorem ord_go {x y : List Int} {b : Int} {i : Nat} {P : Prop} (hx : i < x.length) (hy : i < y.length) (bx : Bytes x) (yb : Bytes y) (hb : b = cmpI (x.drop i) (y.drop i)) (hP : b = cmpI (x.drop (i + 1)) (y.drop (i + 1)) → P) :
    iteB (decide (x.getD i 0 < y.getD i 0)) (AV.int .i64 (-1) = AV.int .i64 b) (iteB (decide (x.getD i 0 > y.getD i 0)) (AV.int .i64 1 = AV.int .i64 b) P) := by
  have e1 : x.drop i = x.getD i 0 :: x.drop (i + 1) := by rw [List.drop_eq_getElem_cons hx]; simp [List.getD_eq_getElem?_getD, hx]
  have e2 : y.drop i = y.getD i 0 :: y.drop (i + 1) := by rw [List.drop_eq_getElem_cons hy]; simp [List.getD_eq_getElem?_getD, hy]
  rw [e1, e2] at hb
  have k1 := toU8_eq (bx.getD i) (yb.getD i)
  have k2 := toU8_eq (yb.getD i) (bx.getD i)
  generalize x.getD i 0 = u at *
  generalize y.getD i 0 = v at *
  simp only [cmpI, List.map_cons, Lib.compareBytes, k1.2, k2.2] at hb
  rw [iteB_eq', iteB_eq']
  refine ⟨fun h => ?_, fun h => ⟨fun h' => ?_, fun h' => ?_⟩⟩
  · have h : u < v := by simpa using h
    rw [hb, if_pos h]
  · have h : ¬ u < v := by simpa using h
    have h' : v < u := by simpa using h'
    rw [hb, if_neg h, if_pos h']
  · have h : ¬ u < v := by simpa using h
    have h' : ¬ v < u := by simpa using h'
    rw [if_neg h, if_neg h'] at hb
    exact hP hb
set_option maxRecDepth 100000 in
set_option maxHeartbeats 0 in
theorem or_50 (x y : List Int) (b : Int) (hx : x.length = 32) (hy : y.length = 32) (bx : Bytes x) (yb : Bytes y) (hb : b = cmpI (x.drop 0) (y.drop 0)) :
    evF G0 20 51 [.agg [.arr .u8 32 x], .agg [.arr .u8 32 y]] ⟨0, []⟩ (outV (fun v => v = .int .i64 b)) := by
  refine @Eq.mpr _ (let q1 := AV.int IntKind.i64 b;
 let q2 := AV.int IntKind.i64 (-1) = q1;
 let q3 := AV.int IntKind.i64 1 = q1;
 iteB (decide (List.getD x 0 0 < List.getD y 0 0)) q2
 (iteB (decide (List.getD x 0 0 > List.getD y 0 0)) q3
 (iteB (decide (List.getD x 1 0 < List.getD y 1 0)) q2
 (iteB (decide (List.getD x 1 0 > List.getD y 1 0)) q3
 (iteB (decide (List.getD x 2 0 < List.getD y 2 0)) q2
 (iteB (decide (List.getD x 2 0 > List.getD y 2 0)) q3
 (iteB (decide (List.getD x 3 0 < List.getD y 3 0)) q2
 (iteB (decide (List.getD x 3 0 > List.getD y 3 0)) q3
 (iteB (decide (List.getD x 4 0 < List.getD y 4 0)) q2
 (iteB (decide (List.getD x 4 0 > List.getD y 4 0)) q3
 (iteB (decide (List.getD x 5 0 < List.getD y 5 0)) q2
 (iteB (decide (List.getD x 5 0 > List.getD y 5 0)) q3
 (iteB (decide (List.getD x 6 0 < List.getD y 6 0)) q2
 (iteB (decide (List.getD x 6 0 > List.getD y 6 0)) q3
 (iteB (decide (List.getD x 7 0 < List.getD y 7 0)) q2
 (iteB (decide (List.getD x 7 0 > List.getD y 7 0)) q3
 (iteB (decide (List.getD x 8 0 < List.getD y 8 0)) q2
 (iteB (decide (List.getD x 8 0 > List.getD y 8 0)) q3
 (iteB (decide (List.getD x 9 0 < List.getD y 9 0)) q2
 (iteB (decide (List.getD x 9 0 > List.getD y 9 0)) q3
 (iteB (decide (List.getD x 10 0 < List.getD y 10 0)) q2
 (iteB (decide (List.getD x 10 0 > List.getD y 10 0)) q3
 (iteB (decide (List.getD x 11 0 < List.getD y 11 0)) q2
 (iteB (decide (List.getD x 11 0 > List.getD y 11 0)) q3
 (iteB (decide (List.getD x 12 0 < List.getD y 12 0)) q2
 (iteB (decide (List.getD x 12 0 > List.getD y 12 0)) q3
 (iteB (decide (List.getD x 13 0 < List.getD y 13 0)) q2
 (iteB (decide (List.getD x 13 0 > List.getD y 13 0)) q3
 (iteB (decide (List.getD x 14 0 < List.getD y 14 0)) q2
 (iteB (decide (List.getD x 14 0 > List.getD y 14 0)) q3
 (iteB (decide (List.getD x 15 0 < List.getD y 15 0)) q2
 (iteB (decide (List.getD x 15 0 > List.getD y 15 0)) q3
 (iteB (decide (List.getD x 16 0 < List.getD y 16 0)) q2
 (iteB (decide (List.getD x 16 0 > List.getD y 16 0)) q3
 (iteB (decide (List.getD x 17 0 < List.getD y 17 0)) q2
 (iteB (decide (List.getD x 17 0 > List.getD y 17 0)) q3
 (iteB (decide (List.getD x 18 0 < List.getD y 18 0)) q2
 (iteB (decide (List.getD x 18 0 > List.getD y 18 0)) q3
 (iteB (decide (List.getD x 19 0 < List.getD y 19 0)) q2
 (iteB (decide (List.getD x 19 0 > List.getD y 19 0)) q3
 (iteB (decide (List.getD x 20 0 < List.getD y 20 0)) q2
 (iteB (decide (List.getD x 20 0 > List.getD y 20 0)) q3
 (iteB (decide (List.getD x 21 0 < List.getD y 21 0)) q2
 (iteB (decide (List.getD x 21 0 > List.getD y 21 0)) q3
 (iteB (decide (List.getD x 22 0 < List.getD y 22 0)) q2
 (iteB (decide (List.getD x 22 0 > List.getD y 22 0)) q3
 (iteB (decide (List.getD x 23 0 < List.getD y 23 0)) q2
 (iteB (decide (List.getD x 23 0 > List.getD y 23 0)) q3
 (iteB (decide (List.getD x 24 0 < List.getD y 24 0)) q2 (iteB (decide (List.getD x 24 0 > List.getD y 24 0)) q3 (iteB (decide (List.getD x 25 0 < List.getD y 25 0)) q2 (iteB (decide (List.getD x 25 0 > List.getD y 25 0)) q3 (iteB (decide (List.getD x 26 0 < List.getD y 26 0)) q2 (iteB (decide (List.getD x 26 0 > List.getD y 26 0)) q3 (iteB (decide (List.getD x 27 0 < List.getD y 27 0)) q2 (iteB (decide (List.getD x 27 0 > List.getD y 27 0)) q3 (iteB (decide (List.getD x 28 0 < List.getD y 28 0)) q2 (iteB (decide (List.getD x 28 0 > List.getD y 28 0)) q3 (iteB (decide (List.getD x 29 0 < List.getD y 29 0)) q2 (iteB (decide (List.getD x 29 0 > List.getD y 29 0)) q3 (iteB (decide (List.getD x 30 0 < List.getD y 30 0)) q2 (iteB (decide (List.getD x 30 0 > List.getD y 30 0)) q3 (iteB (decide (List.getD x 31 0 < List.getD y 31 0)) q2 (iteB (decide (List.getD x 31 0 > List.getD y 31 0)) q3 (AV.int IntKind.i64 0 = q1))))))))))))))))))))))))))))))))))))))))))))))))))))))))))))))))) (by kernel_rfl) ?_
  conv => zeta
  iterate 32 refine ord_go (by omega) (by omega) bx yb hb fun hb => ?_
  rw [List.drop_eq_nil_of_le (by omega), List.drop_eq_nil_of_le (by omega)] at hb
  have h0 : cmpI [] [] = 0 := rfl
  rw [hb, h0]
def termS : PSumm := fun args _ K => match args with
  | [.agg [.arr .u8 32 fu, .int .i64 ix, .int .i64 ca, .int .i64 du, .int .i64 fe, .int .i64 de, .arr .u8 32 k0, .arr .u8 32 k1]] => (TermS.Ok ⟨fu, ix, ca, du, fe, de, k0, k1⟩) ∧ K (.int .i64 (if termB ⟨fu, ix, ca, du, fe, de, k0, k1⟩ = true then 0 else 2))
  | _ => False
theorem termS_ok (args : List AV) (h : Heap) (K : AV → Prop) (hl : termS args h K) : CallsA PP 35 args h fun o h' => ∃ v, o = .ret v ∧ h' = h ∧ K v := by
  unfold termS at hl
  split at hl
  · obtain ⟨ht, hK⟩ := hl
    exact outV_ev E71_ok rfl (te_24 ⟨_, _, _, _, _, _, _, _⟩ _ ht rfl) (fun u hu => hu ▸ hK)
  · exact hl.elim
def termRS : PSumm := fun args _ K => match args with
  | [.agg [.arr .u8 32 fu, .int .i64 ix, .int .i64 ca, .int .i64 du, .int .i64 fe, .int .i64 de, .arr .u8 32 k0, .arr .u8 32 k1]] => (TermS.Ok ⟨fu, ix, ca, du, fe, de, k0, k1⟩) ∧ K (.bool (termB ⟨fu, ix, ca, du, fe, de, k0, k1⟩))
  | _ => False
theorem termRS_ok (args : List AV) (h : Heap) (K : AV → Prop) (hl : termRS args h K) : CallsA PP 32 args h fun o h' => ∃ v, o = .ret v ∧ h' = h ∧ K v := by
  unfold termRS at hl
  split at hl
  · obtain ⟨ht, hK⟩ := hl
    exact outV_ev G0_ok rfl (te_23 ⟨_, _, _, _, _, _, _, _⟩ _ ht rfl) (fun u hu => hu ▸ hK)
  · exact hl.elim
def ordS : PSumm := fun args _ K => match args with
  | [.agg [.arr .u8 32 x], .agg [.arr .u8 32 y]] => (x.length = 32 ∧ y.length = 32) ∧ Bytes x ∧ Bytes y ∧ K (.int .i64 (cmpI x y))
  | _ => False
theorem ordS_ok (args : List AV) (h : Heap) (K : AV → Prop) (hl : ordS args h K) : CallsA PP 51 args h fun o h' => ∃ v, o = .ret v ∧ h' = h ∧ K v := by
  unfold ordS at hl
  split at hl
  · obtain ⟨⟨h1, h2⟩, b1, b2, hK⟩ := hl
    exact outV_ev G0_ok rfl (or_50 _ _ _ h1 h2 b1 b2 rfl) (fun u hu => hu ▸ hK)
  · exact hl.elim
def works8S : PSumm := fun args _ K => match args with
  | [] => K (.bool true)
  | _ => False
end Go.Tk
end
section
namespace Go.Tk
def insL {α : Type} (lt : α → α → Bool) (x : α) : List α → List α
  | [] => [x]
  | y :: r => match lt x y with
    | true => x :: y :: r
    | false => y :: insL lt x r
def sortL {α : Type} (lt : α → α → Bool) : List α → List α → List α
  | acc, [] => acc
  | acc, x :: r => sortL lt (insL lt x acc) r
def OrdL {α : Type} (lt : α → α → Bool) (l : List α) : Prop := l.Pairwise fun a b => lt b a = false
structure WO {α : Type} (lt : α → α → Bool) : Prop where
  asym : ∀ x y, lt x y = true → lt y x = false
  neg : ∀ x y z, lt x y = true → lt z y = false → lt x z = true
theorem insL_mem {α : Type} {lt : α → α → Bool} {x z : α} : ∀ {l : List α}, z ∈ insL lt x l ↔ z = x ∨ z ∈ l
  | [] => by simp [insL]
  | y :: r => by
    unfold insL
    split
    · simp
    · simp only [List.mem_cons, insL_mem (l := r)]
      constructor <;> (intro h; rcases h with h | h | h <;> simp [h])
theorem insL_len {α : Type} {lt : α → α → Bool} {x : α} : ∀ {l : List α}, (insL lt x l).length = l.length + 1
  | [] => rfl
  | y :: r => by
    unfold insL
    split
    · simp
    · simp [insL_len (l := r)]
theorem insL_perm {α : Type} {lt : α → α → Bool} {x : α} : ∀ {l : List α}, (insL lt x l).Perm (x :: l)
  | [] => .refl _
  | y :: r => by
    unfold insL
    split
    · exact .refl _
    · exact (List.Perm.cons y insL_perm).trans (List.Perm.swap x y r)
theorem insL_ord {α : Type} {lt : α → α → Bool} (wo : WO lt) {x : α} : ∀ {l : List α}, OrdL lt l → OrdL lt (insL lt x l)
  | [], _ => by simp [insL, OrdL]
  | y :: r, h => by
    unfold OrdL at h
    rw [List.pairwise_cons] at h
    unfold insL
    split
    · rename_i hx
      unfold OrdL
      rw [List.pairwise_cons, List.pairwise_cons]
      refine ⟨fun z hz => ?_, h.1, h.2⟩
      rcases List.mem_cons.1 hz with rfl | hz
      · exact wo.asym _ _ hx
      · cases hzx : lt z x with
        | false => rfl
        | true =>
          have := h.1 z hz
          -- z < x < y, so z < y
          have h2 := wo.neg z x y hzx (wo.asym _ _ hx)
          rw [h2] at this; cases this
    · rename_i hx
      unfold OrdL
      rw [List.pairwise_cons]
      refine ⟨fun z hz => ?_, insL_ord wo h.2⟩
      rcases insL_mem.1 hz with rfl | hz
      · exact hx
      · exact h.1 z hz
theorem insL_at {α : Type} {lt : α → α → Bool} (wo : WO lt) {x : α} : ∀ {l : List α} {j : Nat}, OrdL lt l → j ≤ l.length → (∀ y ∈ l.drop j, lt x y = true) → (∀ y, l[j - 1]? = some y → 0 < j → lt x y = false) →
    l.take j ++ x :: l.drop j = insL lt x l
  | [], j, _, hj, _, _ => by simp at hj; simp [insL]
  | y :: r, 0, _, _, h1, _ => by
    have := h1 y (by simp)
    unfold insL
    rw [this]; simp
  | y :: r, j + 1, ho, hj, h1, h2 => by
    unfold OrdL at ho
    rw [List.pairwise_cons] at ho
    have hy : lt x y = false := by
      cases hxy : lt x y with
      | false => rfl
      | true =>
        cases j with
        | zero => rw [h2 y (by simp) (by omega)] at hxy; cases hxy
        | succ k =>
          simp at hj
          have hk : k < r.length := by omega
          have h3 := h2 r[k] (by simp [hk]) (by omega)
          have h4 := ho.1 r[k] (List.getElem_mem hk)
          rw [wo.neg x y _ hxy h4] at h3; cases h3
    unfold insL
    rw [hy]
    simp only [List.take_succ_cons, List.drop_succ_cons, List.cons_append, List.cons.injEq, true_and]
    refine insL_at wo ho.2 (by simpa using hj) (by simpa using h1) fun z hz hj' => h2 z ?_ (by omega)
    cases j with
    | zero => omega
    | succ k => simpa using hz
theorem sortL_ord {α : Type} {lt : α → α → Bool} (wo : WO lt) : ∀ {l acc : List α}, OrdL lt acc → OrdL lt (sortL lt acc l)
  | [], _, h => h
  | _ :: _, _, h => by unfold sortL; exact sortL_ord wo (insL_ord wo h)
theorem sortL_perm {α : Type} {lt : α → α → Bool} : ∀ {l acc : List α}, (sortL lt acc l).Perm (acc ++ l)
  | [], acc => by simp [sortL]
  | x :: r, acc => by
    unfold sortL
    refine sortL_perm.trans ?_
    refine (List.Perm.append_right r insL_perm).trans ?_
    rw [List.cons_append]
    exact List.perm_middle.symm
theorem sortL_len {α : Type} {lt : α → α → Bool} {l acc : List α} : (sortL lt acc l).length = acc.length + l.length := by
  rw [(sortL_perm (lt := lt)).length_eq, List.length_append]
theorem sortL_snoc {α : Type} {lt : α → α → Bool} {x : α} : ∀ {l acc : List α}, sortL lt acc (l ++ [x]) = insL lt x (sortL lt acc l)
  | [], acc => rfl
  | y :: r, acc => by
    simp only [List.cons_append, sortL]
    exact sortL_snoc
end Go.Tk
end
section
namespace Go.Tk
def valU : List Int → Nat
  | [] => 0
  | a :: r => (toU8 a).toNat * 256 ^ r.length + valU r
theorem valU_lt : ∀ (x : List Int), valU x < 256 ^ x.length
  | [] => by simp [valU]
  | a :: r => by
    have h1 := valU_lt r
    have h2 := (toU8 a).toNat_lt
    simp only [valU, List.length_cons, Nat.pow_succ]
    have h3 : (toU8 a).toNat * 256 ^ r.length ≤ 255 * 256 ^ r.length := Nat.mul_le_mul_right _ (by omega)
    omega
theorem cmpI_val : ∀ (x y : List Int), x.length = y.length → cmpI x y = if valU x < valU y then -1 else if valU y < valU x then 1 else 0
  | [], [], _ => by simp [cmpI, Lib.compareBytes, valU]
  | [], b :: s, h => by simp at h
  | a :: r, [], h => by simp at h
  | a :: r, b :: s, h => by
    have h' : r.length = s.length := by simpa using h
    have ih := cmpI_val r s h'
    have e1 : valU (a :: r) = (toU8 a).toNat * 256 ^ r.length + valU r := rfl
    have e2 : valU (b :: s) = (toU8 b).toNat * 256 ^ r.length + valU s := by rw [h']; rfl
    have e3 : cmpI (a :: r) (b :: s) = if (toU8 a).toNat < (toU8 b).toNat then -1 else if (toU8 b).toNat < (toU8 a).toNat then 1 else cmpI r s := by
      unfold cmpI; simp only [List.map_cons, Lib.compareBytes, UInt8.lt_iff_toNat_lt]
    have h1 := valU_lt r
    have h2 := valU_lt s
    rw [← h'] at h2
    rw [e3]
    generalize valU (a :: r) = A at *
    generalize valU (b :: s) = B at *
    generalize (toU8 a).toNat = u at *
    generalize (toU8 b).toNat = v at *
    generalize hM : 256 ^ r.length = M at *
    have hs : ∀ p q : Nat, p < q → p * M + M ≤ q * M := fun p q hpq => by
      have : (p + 1) * M ≤ q * M := Nat.mul_le_mul_right _ hpq
      rw [Nat.add_mul, Nat.one_mul] at this
      exact this
    by_cases c1 : u < v
    · have := hs u v c1
      rw [if_pos c1, if_pos (by omega)]
    · rw [if_neg c1]
      by_cases c2 : v < u
      · have := hs v u c2
        rw [if_pos c2, if_neg (by omega), if_pos (by omega)]
      · rw [if_neg c2, ih]
        have : u = v := by omega
        subst this
        simp only [show (A < B) = (valU r < valU s) from propext (by omega), show (B < A) = (valU s < valU r) from propext (by omega)]
structure MadeS where
  o : OutS
  id : Int
  what : Int
def MadeS.c (m : MadeS) : List AV := [.int .i64 m.o.kind, .int .i64 m.o.amount, .arr .u8 32 m.o.owner, .arr .u8 32 m.o.other, .arr .u8 32 m.o.point, .arr .u8 32 m.o.hash, .int .i64 m.o.delay, .int .i64 m.o.expiry, .int .i64 m.id, .int .i64 m.what]
structure MadeS.Ok (m : MadeS) : Prop where
  owner : m.o.owner.length = 32
  other : m.o.other.length = 32
  point : m.o.point.length = 32
  hash : m.o.hash.length = 32
def made0 : MadeS := ⟨⟨0, 0, [], [], [], [], 0, 0⟩, 0, 0⟩
def cmpZ (a b : Int) : Int := if a < b then -1 else if b < a then 1 else 0
def cmpM (a b : MadeS) : Int :=
  if cmpZ a.o.amount b.o.amount ≠ 0 then cmpZ a.o.amount b.o.amount else
  if cmpZ a.o.kind b.o.kind ≠ 0 then cmpZ a.o.kind b.o.kind else
  if cmpZ a.o.expiry b.o.expiry ≠ 0 then cmpZ a.o.expiry b.o.expiry else
  if cmpI a.o.hash b.o.hash ≠ 0 then cmpI a.o.hash b.o.hash else cmpZ a.id b.id
def ltM (a b : MadeS) : Bool := decide (a.o.amount < b.o.amount ∨ (a.o.amount = b.o.amount ∧ (a.o.kind < b.o.kind ∨ (a.o.kind = b.o.kind ∧ (a.o.expiry < b.o.expiry ∨ (a.o.expiry = b.o.expiry ∧ (valU a.o.hash < valU b.o.hash ∨ (valU a.o.hash = valU b.o.hash ∧ a.id < b.id))))))))
theorem cmpZ_spec (a b : Int) : (a < b ∧ cmpZ a b = -1) ∨ (b < a ∧ cmpZ a b = 1) ∨ (a = b ∧ cmpZ a b = 0) := by unfold cmpZ; omega
theorem cmpI_spec {x y : List Int} (h : x.length = y.length) : (valU x < valU y ∧ cmpI x y = -1) ∨ (valU y < valU x ∧ cmpI x y = 1) ∨ (valU x = valU y ∧ cmpI x y = 0) := by
  rw [cmpI_val x y h]; omega
theorem cmpM_lt {a b : MadeS} (ha : a.Ok) (hb : b.Ok) : decide (cmpM a b < 0) = ltM a b := by
  unfold cmpM ltM
  have h1 := cmpZ_spec a.o.amount b.o.amount
  have h2 := cmpZ_spec a.o.kind b.o.kind
  have h3 := cmpZ_spec a.o.expiry b.o.expiry
  have h4 := cmpI_spec (ha.hash.trans hb.hash.symm)
  have h5 := cmpZ_spec a.id b.id
  rw [decide_eq_decide]
  generalize cmpZ a.o.amount b.o.amount = c1 at *
  generalize cmpZ a.o.kind b.o.kind = c2 at *
  generalize cmpZ a.o.expiry b.o.expiry = c3 at *
  generalize cmpI a.o.hash b.o.hash = c4 at *
  generalize cmpZ a.id b.id = c5 at *
  generalize valU a.o.hash = v1 at *
  generalize valU b.o.hash = v2 at *
  omega
theorem ltM_wo : WO ltM where
  asym x y h := by
    unfold ltM at *
    simp only [decide_eq_true_eq, decide_eq_false_iff_not] at *
    generalize valU x.o.hash = v1 at *
    generalize valU y.o.hash = v2 at *
    omega
  neg x y z h h2 := by
    unfold ltM at *
    simp only [decide_eq_true_eq, decide_eq_false_iff_not] at *
    generalize valU x.o.hash = v1 at *
    generalize valU y.o.hash = v2 at *
    generalize valU z.o.hash = v3 at *
    omega
def sortM (l : List MadeS) : List MadeS := sortL ltM [] l
def mRows (l : List MadeS) (i : Nat) : List AV := (l.getD i made0).c
end Go.Tk
end
section
namespace Go.Tk
def byL : List AV := [.func (.func 107) [] [], .func (.func 109) [] [], .func (.func 111) [] [], .func (.func 112) [] [], .func (.func 113) [] []]
theorem cz_go {a b r c : Int} {P X Y : Prop} (hr : r = if cmpZ a b ≠ 0 then cmpZ a b else c) (hP : r = c → P) :
    iteB (a != a) X (iteB (b != b) Y (iteB (decide (a < b)) (iteB (decide (-1 = r)) True False) (iteB (decide (a > b)) (iteB (decide (1 = r)) True False) P))) := by
  rw [bne_self_eq_false, bne_self_eq_false]
  show iteB (decide (a < b)) _ (iteB (decide (a > b)) _ P)
  rcases cmpZ_spec a b with ⟨h1, h2⟩ | ⟨h1, h2⟩ | ⟨h1, h2⟩
  · rw [decide_eq_true h1, hr, h2]; trivial
  · rw [decide_eq_false (by omega : ¬ a < b), decide_eq_true (show a > b from h1), hr, h2]; trivial
  · rw [decide_eq_false (by omega : ¬ a < b), decide_eq_false (show ¬ a > b by omega)]
    exact hP (by rw [hr, h2]; rfl)
set_option maxRecDepth 100000 in
set_option maxHeartbeats 0 in
theorem cmp_1 (a b : MadeS) (r : Int) (ha : a.Ok) (hb : b.Ok) (hr : r = cmpM a b) :
    evF G0 20 151 [.agg a.c, .agg b.c, .pview [.vrows 1 5 (rowC byL 0 1) 5] 0] ⟨0, []⟩ (outM 0 (.ret (.int .i64 r)) 0 []) := by
  refine @Eq.mpr _ (let q1 := a.o;
 let q2 := q1.amount;
 let q3 := b.o;
 let q4 := q3.amount;
 let q5 := q4 != q4;
 let q6 := q1.kind;
 let q7 := q3.kind;
 let q8 := q7 != q7;
 let q9 := q1.expiry;
 let q10 := q3.expiry;
 let q11 := q10 != q10;
 let q12 := q1.hash;
 let q13 := q3.hash;
 let q14 := cmpI q12 q13;
 let q15 := a.id;
 let q16 := b.id;
 let q17 := q16 != q16;
 let q18 := iteB (decide (0 = r)) True False;
 let q19 := iteB (decide (-1 = r)) True False;
 let q20 := iteB (decide (1 = r)) True False;
 let q21 := iteB (decide (IntKind.u8 = IntKind.u8 ∧ List.length q12 = 32)) (iteB (decide (IntKind.u8 = IntKind.u8 ∧ List.length q13 = 32)) (iteB (q14 != 0) (iteB (decide (q14 = r)) True False) (iteB (q15 != q15) (iteB q17 q18 q19) (iteB q17 q20 (iteB (decide (q15 < q16)) q19 (iteB (decide (q15 > q16)) q20 q18))))) False) False;
 let q22 := iteB (q9 != q9) (iteB q11 q21 q19) (iteB q11 q20 (iteB (decide (q9 < q10)) q19 (iteB (decide (q9 > q10)) q20 q21)));
 let q23 := iteB (q6 != q6) (iteB q8 q22 q19) (iteB q8 q20 (iteB (decide (q6 < q7)) q19 (iteB (decide (q6 > q7)) q20 q22)));
 iteB (q2 != q2) (iteB q5 q23 q19) (iteB q5 q20 (iteB (decide (q2 < q4)) q19 (iteB (decide (q2 > q4)) q20 q23)))) (by kernel_rfl) ?_
  conv => zeta
  unfold cmpM at hr
  refine cz_go hr fun hr => cz_go hr fun hr => cz_go hr fun hr => ?_
  rw [decide_eq_true (show IntKind.u8 = IntKind.u8 ∧ a.o.hash.length = 32 from ⟨rfl, ha.hash⟩), decide_eq_true (show IntKind.u8 = IntKind.u8 ∧ b.o.hash.length = 32 from ⟨rfl, hb.hash⟩)]
  show iteB (cmpI a.o.hash b.o.hash != 0) _ _
  by_cases h : cmpI a.o.hash b.o.hash = 0
  · rw [h]
    rw [if_neg (by simp [h])] at hr
    refine cz_go (c := 0) ?_ fun hr => by rw [hr]; trivial
    rw [hr]; split <;> simp_all
  · rw [if_pos h] at hr
    rw [bne_iff_ne.2 h, hr, decide_eq_true rfl]; trivial
def cmpS : PSumm := fun args h K => viewL none h true 20 args fun a => match a with
  | [.agg ca, .agg cb, .pview [.vrows 1 5 f 5] 0] => ∃ a b, ca = MadeS.c a ∧ cb = MadeS.c b ∧ f = rowC byL 0 1 ∧ (a.Ok ∧ b.Ok) ∧ K (.int .i64 (cmpM a b))
  | _ => False
theorem cmpS_ok (args : List AV) (h : Heap) (K : AV → Prop) (hl : cmpS args h K) : CallsA PP 151 args h fun o h' => ∃ v, o = .ret v ∧ h' = h ∧ K v := by
  refine Pure.psumm (d := 20) (viewL_weak _ _ _ _ _ hl fun a ha => ?_)
  split at ha
  · obtain ⟨a, b, rfl, rfl, rfl, ⟨h1, h2⟩, hK⟩ := ha
    exact ⟨_, .evM G0_ok (cmp_1 a b _ h1 h2 rfl), fun _ => rfl, hK⟩
  · exact ha.elim
end Go.Tk
end
section
namespace Go.Tk
theorem and_mk {a b : Bool} (h1 : a = true) (h2 : b = true) : (a && b) = true := by rw [h1, h2]; rfl
theorem emb_rows {E : Env} {w : World} {sz n : Nat} {g g' : Nat → List AV} (hg : ∀ i, i < n → g' i = g i) (he : Emb E ⟨1, [(0, .rows sz n g')]⟩ w) : Emb E ⟨1, [(0, .rows sz n g)]⟩ w := by
  have hget : ∀ (f : Nat → List AV) x B, (Heap.mk 1 [(0, .rows sz n f)]).get x = some B → x = 0 ∧ B = .rows sz n f := fun f x B hx => by
    simp only [Heap.get, getB] at hx
    split at hx
    · rename_i hb
      cases hx
      exact ⟨(Nat.eq_of_beq_eq_true hb).symm, rfl⟩
    · cases hx
  have h0 : ∀ f : Nat → List AV, (Heap.mk 1 [(0, .rows sz n f)]).get 0 = some (.rows sz n f) := fun f => rfl
  refine ⟨he.fresh, fun x B hx => ?_, fun x B hx => ?_, fun x y B B' b N N' hx hy h1 h2 => ?_, he.imm, fun a c x B N hi hx hb => ?_⟩
  · obtain ⟨rfl, rfl⟩ := hget _ _ _ hx; exact he.lt 0 _ (h0 _)
  · obtain ⟨rfl, rfl⟩ := hget _ _ _ hx
    have := he.own 0 _ (h0 g')
    cases this with
    | rows0 _ _ _ hn hb => exact .rows0 _ _ _ hn hb
    | rows _ _ _ b cells elem fr gv hb hw hf hc hl hv => exact .rows _ _ _ b cells elem fr gv hb hw hf (fun i hi => hg i hi ▸ hc i hi) hl hv
  · obtain ⟨rfl, rfl⟩ := hget _ _ _ hx
    obtain ⟨rfl, rfl⟩ := hget _ _ _ hy
    rfl
  · obtain ⟨rfl, rfl⟩ := hget _ _ _ hx
    exact he.sep a c 0 _ N hi (h0 g') hb
theorem Spec.rows {P : Program} {f : FuncId} {args : List AV} {sz n : Nat} {g g' : Nat → List AV} {o : Out} {nx : Nat} {bs : List (Nat × Blk)} (hg : ∀ i, i < n → g' i = g i) (h : Spec P f args ⟨1, [(0, .rows sz n g)]⟩ o nx bs) : Spec P f args ⟨1, [(0, .rows sz n g')]⟩ o nx bs := by
  intro E w rs he hl
  have he' := emb_rows hg he
  refine (h E w rs he' hl).mono ?_
  rintro e w' ⟨E', hev, ho⟩
  have own : ∀ b, Owned E ⟨1, [(0, .rows sz n g)]⟩ b ↔ Owned E ⟨1, [(0, .rows sz n g')]⟩ b := fun b => by
    unfold Owned
    constructor
    · rintro ⟨x, B, N, hx, hb⟩
      simp only [Heap.get, getB] at hx
      split at hx
      · rename_i hq; have := Nat.eq_of_beq_eq_true hq; subst this; exact ⟨0, _, N, rfl, hb⟩
      · cases hx
    · rintro ⟨x, B, N, hx, hb⟩
      simp only [Heap.get, getB] at hx
      split at hx
      · rename_i hq; have := Nat.eq_of_beq_eq_true hq; subst this; exact ⟨0, _, N, rfl, hb⟩
      · cases hx
  exact ⟨E', ⟨hev.le, hev.emb, hev.size, hev.os, hev.tape, hev.output, fun b hb hn => hev.keep b hb (fun h => hn ((own b).1 h)), fun b hb => (hev.own b hb).imp (own b).1 id, hev.imm⟩, ho⟩
theorem frA_one {blk sz n len lo d : Nat} {f : Nat → List AV} {h : Heap} {K0 : List Blk → List AV → Prop} (hg : h.get blk = some (.rows sz n f)) (hp : ∀ i, i < n → plainC (f i) = true)
    (hK : K0 [.rows sz n f] [.nslice ⟨0, 0, sz, 0, 0⟩ sz len lo]) : frA [blk] h (d + 3) [.nslice ⟨blk, 0, sz, 0, 0⟩ sz len lo] K0 := by
  unfold frA
  have h1 : (hasB h [blk] && distN [blk]) = true := by simp [hasB, hg, distN, idxN]
  rw [h1]
  simp only [vwBs, hg, vwB]
  refine ⟨hp, ?_⟩
  simp only [vwL, vwV, idxN, Nat.beq_refl]
  exact hK
end Go.Tk
end
section
namespace Go.Tk
noncomputable def E82 : Env2 := G0.withP 151 cmpS
theorem E82_ok : E82.Ok := Env2.withP_ok G0_ok cmpS_ok
def cmpF : AV := .func (.func 151) [] [.pview [.vrows 1 5 (rowC byL 0 1) 5] 0]
def isH (n : Nat) (L : List MadeS) : Heap := ⟨1, [(0, .rows 134 n (mRows L))]⟩
def isT (n lo : Nat) (A B : Int) (l : Tmps) : Tmps := l ++ [(2, .int .i64 B), (1, .int .i64 A), (3, cmpF), (0, .nslice ⟨0, 0, 134, 0, 0⟩ 134 n lo)]
def isS0 (n lo : Nat) (A B I : Int) (L : List MadeS) : St := ⟨53, isT n lo A B [(8, .int .i64 I)], isH n L, []⟩
def isS2 (n lo : Nat) (A B I J : Int) (L : List MadeS) : St := ⟨53, isT n lo A B [(9, .int .i64 J), (8, .int .i64 I)], isH n L, []⟩
theorem mRows_plain (L : List MadeS) (i : Nat) : plainC (mRows L i) = true := rfl
theorem mRows_eq {k : Nat} {τ : Ren} {n : Nat} {L : List MadeS} {f : Nat → List AV} (h : ∀ i, i < n → f i = mRows L i) : RowsEq k τ n (mRows L) f :=
  rowsEq_of h (fun i _ => mRows_plain L i) (fun i _ v hv => by
    simp only [mRows, MadeS.c, List.mem_cons, List.not_mem_nil, or_false] at hv
    rcases hv with rfl | rfl | rfl | rfl | rfl | rfl | rfl | rfl | rfl | rfl <;> first | exact .inl rfl | exact .inr ⟨_, _, _, rfl⟩)
theorem made_at {L : List MadeS} (h : ∀ m ∈ L, m.Ok) {i : Nat} (hi : i < L.length) : (L.getD i made0).Ok := by
  rw [List.getD_eq_getElem?_getD, List.getElem?_eq_getElem hi]
  exact h _ (List.getElem_mem hi)
theorem swap_upd {f : Nat → List AV} {J J1 i : Nat} {x y : List AV} (hx : x = f J) (hy : y = f J1) : updF (updF f J y) J1 x i = if i = J1 then f J else if i = J then f J1 else f i := by
  rw [updF_eq, updF_eq]
  by_cases h1 : i = J1
  · subst h1; rw [Nat.beq_refl, if_pos rfl, hx]
  · rw [beq_false_of_ne h1, if_neg h1]
    by_cases h2 : i = J
    · subst h2; rw [Nat.beq_refl, if_pos rfl, hy]
    · rw [beq_false_of_ne h2, if_neg h2]
set_option maxRecDepth 100000 in
set_option maxHeartbeats 0 in
theorem is_2 (n lo A B I J : Nat) (L L1 : List MadeS) (Z1 Z2 : Prop) (hn : n < 900000000000) (hJ : J < n) (hL : L.length = n) (hok : ∀ m ∈ L, m.Ok) (hsw : A < J → ∀ i, i < n → mRows L1 i = if i = J - 1 then mRows L J else if i = J then mRows L (J - 1) else mRows L i) (h1 : A < J → ltM (L.getD J made0) (L.getD (J - 1) made0) = true → Z1) (h2 : J ≤ A ∨ ltM (L.getD J made0) (L.getD (J - 1) made0) = false → Z2) :
    roundE E82 20 203 2 1 (isS2 n lo A B I J L) (rdM 1 2 9 (isS2 n lo A B I ((J - 1 : Nat) : Int) L1) (isS0 n lo A B I L) (isS0 n lo A B I L) (isS0 n lo A B I L) Z1 Z2 False False) := by
  refine @Eq.mpr _ (let q1 := decide (0 ≤ (↑J : Int) ∧ (↑J : Int) < (↑n : Int));
 let q2 := 0 + Int.toNat (↑J : Int);
 let q3 := IntKind.wrap IntKind.i64 ((↑J : Int) - 1);
 let q4 := decide (0 ≤ q3 ∧ q3 < (↑n : Int));
 let q5 := 0 + Int.toNat q3;
 let q6 := List.getD L q2 made0;
 let q7 := q6.o;
 let q8 := [AV.int IntKind.i64 q7.kind, AV.int IntKind.i64 q7.amount, AV.arr IntKind.u8 32 q7.owner, AV.arr IntKind.u8 32 q7.other, AV.arr IntKind.u8 32 q7.point, AV.arr IntKind.u8 32 q7.hash, AV.int IntKind.i64 q7.delay, AV.int IntKind.i64 q7.expiry, AV.int IntKind.i64 q6.id, AV.int IntKind.i64 q6.what];
 let q9 := List.getD L q5 made0;
 let q10 := q9.o;
 let q11 := [AV.int IntKind.i64 q10.kind, AV.int IntKind.i64 q10.amount, AV.arr IntKind.u8 32 q10.owner, AV.arr IntKind.u8 32 q10.other, AV.arr IntKind.u8 32 q10.point, AV.arr IntKind.u8 32 q10.hash, AV.int IntKind.i64 q10.delay, AV.int IntKind.i64 q10.expiry, AV.int IntKind.i64 q9.id, AV.int IntKind.i64 q9.what];
 let q12 := rowC byL 0 1;
 let q13 := decide ((↑I : Int) = (↑I : Int));
 let q14 := decide ((↑B : Int) = (↑B : Int));
 let q15 := decide ((↑A : Int) = (↑A : Int));
 let q16 := [AV.vrows 1 5 q12 5];
 let q17 := q16 = q16;
 let q18 := decide (n = n);
 let q19 := decide (lo ≤ lo);
 let q20 := mRows L;
 let q21 := iteB q13 (iteB q14 (iteB q15 (q17 ∧ iteB q18 (iteB q19 (iteB q18 (RowsEq 1 [] n q20 q20 ∧ Z2) False) False) False) False) False) False;
 iteB (decide ((↑J : Int) > (↑A : Int))) (iteB q1 (iteB (decide (q2 < n)) (iteB q4 (iteB (decide (q5 < n)) (∃ (a : MadeS), ∃ (b : MadeS), q8 = MadeS.c a ∧ q11 = MadeS.c b ∧ q12 = q12 ∧ (MadeS.Ok a ∧ MadeS.Ok b) ∧ iteB (decide (cmpM a b < 0)) (iteB q4 (iteB (decide (q5 < n)) (iteB q1 (iteB (decide (q2 < n)) (iteB q1 (iteB (decide (q2 < n)) (iteB q4 (iteB (decide (q5 < n)) (iteB (decide (q3 = (↑(J - 1) : Int))) (iteB q13 (iteB q14 (iteB q15 (q17 ∧ iteB q18 (iteB q19 (iteB q18 (RowsEq 1 [] n (mRows L1) (updF (updF q20 q2 q11) q5 q8) ∧ Z1) False) False) False) False) False) False) False) False) False) False) False) False) False) False) False) q21) False) False) False) False) q21) (by kernel_rfl) ?_
  conv => zeta
  try simp only [need_eq]
  try simp only [nope_eq]
  try simp only [iteD_eq]
  try simp only [iteT_eq]
  try simp only [iteF_eq]
  try simp only [iteE_eq]
  try simp only [Int.toNat_natCast, Nat.zero_add, true_and, and_true, Nat.le_refl]
  refine ⟨fun hc => ?_, fun hc => ⟨mRows_eq fun _ _ => rfl, h2 (.inl (by omega))⟩⟩
  have key : IntKind.i64.wrap ((J : Int) - 1) = ((J - 1 : Nat) : Int) := by rw [w64 (by omega)]; omega
  rw [key]
  simp only [Int.toNat_natCast]
  have o1 : (L.getD J made0).Ok := made_at hok (by omega)
  have o2 : (L.getD (J - 1) made0).Ok := made_at hok (by omega)
  have hlt := cmpM_lt o1 o2
  refine ⟨by omega, by omega, by omega, by omega, L.getD J made0, L.getD (J - 1) made0, rfl, rfl, ⟨o1, o2⟩, fun hm => ?_, fun hm => ⟨mRows_eq fun _ _ => rfl, h2 (.inr (by rw [← hlt]; simpa using hm))⟩⟩
  refine ⟨by omega, by omega, by omega, by omega, by omega, by omega, by omega, by omega, trivial, mRows_eq fun i hi => ?_, h1 (by omega) (by rw [← hlt]; simpa using hm)⟩
  rw [hsw (by omega) i hi]
  exact swap_upd rfl rfl
def isL (a p : List MadeS) (x : MadeS) (r : List MadeS) (m : Nat) : List MadeS := a ++ (p.take (p.length - m) ++ x :: (p.drop (p.length - m) ++ r))
theorem isL_len {a p r : List MadeS} {x : MadeS} {m : Nat} : (isL a p x r m).length = a.length + p.length + 1 + r.length := by
  unfold isL
  simp only [List.length_append, List.length_cons, List.length_take, List.length_drop]
  omega
theorem isL_mem {a p r : List MadeS} {x : MadeS} {m : Nat} {z : MadeS} : z ∈ isL a p x r m ↔ z ∈ a ∨ z ∈ p ∨ z = x ∨ z ∈ r := by
  unfold isL
  have e : z ∈ p ↔ z ∈ p.take (p.length - m) ∨ z ∈ p.drop (p.length - m) := by
    rw [← List.mem_append, List.take_append_drop]
  rw [e]
  simp only [List.mem_append, List.mem_cons]
  constructor
  · rintro (h | h | h | h | h) <;> simp [h]
  · rintro (h | (h | h) | h | h) <;> simp [h]
theorem isL_x {a p r : List MadeS} {x : MadeS} {m : Nat} (hm : m ≤ p.length) : (isL a p x r m).getD (a.length + p.length - m) made0 = x := by
  unfold isL
  rw [List.getD_eq_getElem?_getD, List.getElem?_append_right (by omega), List.getElem?_append_right (by rw [List.length_take]; omega)]
  have : a.length + p.length - m - a.length - (p.take (p.length - m)).length = 0 := by rw [List.length_take]; omega
  rw [this]; rfl
theorem isL_p {a p r : List MadeS} {x : MadeS} {m : Nat} (hm : m < p.length) : (isL a p x r m).getD (a.length + p.length - m - 1) made0 = p.getD (p.length - m - 1) made0 := by
  unfold isL
  rw [List.getD_eq_getElem?_getD, List.getElem?_append_right (by omega), List.getElem?_append_left (by rw [List.length_take]; omega), List.getElem?_take, if_pos (by omega), ← List.getD_eq_getElem?_getD]
  congr 1
  omega
theorem isL_swap {a p r : List MadeS} {x : MadeS} {m : Nat} (hm : m < p.length) (i : Nat) : mRows (isL a p x r (m + 1)) i = if i = a.length + p.length - m - 1 then mRows (isL a p x r m) (a.length + p.length - m) else if i = a.length + p.length - m then mRows (isL a p x r m) (a.length + p.length - m - 1) else mRows (isL a p x r m) i := by
  unfold mRows
  rw [isL_x (by omega), isL_p hm]
  have hx := isL_x (a := a) (p := p) (r := r) (x := x) (m := m + 1) (by omega)
  by_cases h1 : i = a.length + p.length - m - 1
  · rw [if_pos h1, h1, show a.length + p.length - m - 1 = a.length + p.length - (m + 1) by omega, hx]
  · rw [if_neg h1]
    have e : p.length - m = (p.length - (m + 1)) + 1 := by omega
    have hd : p.drop (p.length - (m + 1)) = p.getD (p.length - m - 1) made0 :: p.drop (p.length - m) := by
      rw [List.drop_eq_getElem_cons (by omega), show p.length - (m + 1) + 1 = p.length - m by omega]
      congr 1
      rw [List.getD_eq_getElem?_getD, List.getElem?_eq_getElem (by omega)]
      simp only [Option.getD_some]
      congr 1
    have ht : p.take (p.length - m) = p.take (p.length - (m + 1)) ++ [p.getD (p.length - m - 1) made0] := by
      rw [e, List.take_succ_eq_append_getElem (by omega)]
      congr 2
      rw [List.getD_eq_getElem?_getD, List.getElem?_eq_getElem (by omega)]
      simp only [Option.getD_some]
      congr 1
    have l1 : (p.take (p.length - (m + 1))).length = p.length - (m + 1) := by rw [List.length_take]; omega
    generalize p.getD (p.length - m - 1) made0 = y at *
    have hm1 : isL a p x r (m + 1) = (a ++ p.take (p.length - (m + 1))) ++ (x :: y :: (p.drop (p.length - m) ++ r)) := by
      unfold isL; rw [hd]; simp
    have hm0 : isL a p x r m = (a ++ p.take (p.length - (m + 1))) ++ (y :: x :: (p.drop (p.length - m) ++ r)) := by
      unfold isL; rw [ht]; simp
    rw [hm1, hm0]
    have l2 : (a ++ p.take (p.length - (m + 1))).length = a.length + p.length - m - 1 := by rw [List.length_append, l1]; omega
    generalize a ++ p.take (p.length - (m + 1)) = U at *
    generalize p.drop (p.length - m) ++ r = V at *
    by_cases h2 : i = a.length + p.length - m
    · rw [if_pos h2, List.getD_eq_getElem?_getD, List.getElem?_append_right (by omega), show i - U.length = 1 by omega]
      rfl
    · rw [if_neg h2]
      rcases Nat.lt_or_ge i U.length with h3 | h3
      · rw [List.getD_eq_getElem?_getD, List.getD_eq_getElem?_getD, List.getElem?_append_left h3, List.getElem?_append_left h3]
      · rw [List.getD_eq_getElem?_getD, List.getD_eq_getElem?_getD, List.getElem?_append_right h3, List.getElem?_append_right h3]
        obtain ⟨q, hq⟩ : ∃ q, i - U.length = q + 2 := ⟨i - U.length - 2, by omega⟩
        rw [hq]; rfl
def isGo (p : List MadeS) (x : MadeS) (m : Nat) : Prop := m < p.length ∧ ltM x (p.getD (p.length - m - 1) made0) = true
def isEx (p : List MadeS) (x : MadeS) (m : Nat) : Prop := m = p.length ∨ (m < p.length ∧ ltM x (p.getD (p.length - m - 1) made0) = false)
theorem isL_end {a p r : List MadeS} {x : MadeS} {m : Nat} (ho : OrdL ltM p) (hm : m ≤ p.length) (hgo : ∀ j, j < m → isGo p x j) (hex : isEx p x m) : isL a p x r m = a ++ (insL ltM x p ++ r) := by
  have h := insL_at ltM_wo (x := x) (l := p) (j := p.length - m) ho (by omega) (fun y hy => ?_) (fun y hy hj => ?_)
  · unfold isL
    rw [← h]; simp
  · obtain ⟨q, hq⟩ := List.mem_iff_getElem?.1 hy
    rw [List.getElem?_drop] at hq
    obtain ⟨hlt, he⟩ := List.getElem?_eq_some_iff.1 hq
    have := (hgo (p.length - 1 - (p.length - m + q)) (by omega)).2
    rw [List.getD_eq_getElem?_getD, show p.length - (p.length - 1 - (p.length - m + q)) - 1 = p.length - m + q by omega, hq] at this
    exact this
  · rcases hex with hex | ⟨_, hex⟩
    · omega
    · rw [List.getD_eq_getElem?_getD, hy] at hex
      exact hex
structure IsQ where
  a : List MadeS
  p : List MadeS
  x : MadeS
  r : List MadeS
def IsQ.n (q : IsQ) : Nat := q.a.length + q.p.length + 1 + q.r.length
def IsQ.I (q : IsQ) : Nat := q.a.length + q.p.length
def IsQ.L (q : IsQ) (m : Nat) : List MadeS := isL q.a q.p q.x q.r m
structure IsQ.Ok (q : IsQ) (n : Nat) (A : Nat) : Prop where
  hn : q.n = n
  hA : q.a.length = A
  le : n < 900000000000
  ok : ∀ m ∈ q.L 0, m.Ok
def IsQ.go (q : IsQ) : Nat → Prop := isGo q.p q.x
def IsQ.ex (q : IsQ) : Nat → Prop := isEx q.p q.x
def IsQ.len (q : IsQ) : Nat := q.p.length
noncomputable def E82b (n lo A B : Nat) : Env2 := E82.withL 203 2 (exLo fun q : IsQ => goM 1 (isS2 n lo A B q.I q.I (q.L 0)) (q.Ok n A) (endsJ 2 q.len 9 q.go q.ex (fun _ => False) (fun _ => False) (fun m => isS0 n lo A B q.I (q.L m)) (fun m => isS0 n lo A B q.I (q.L m)) (fun m => isS0 n lo A B q.I (q.L m))))
theorem E82b_ok (n lo A B : Nat) : (E82b n lo A B).Ok :=
  Env2.withL_ex E82_ok fun q => Env2.withGoM (N := 20) (S := fun m => isS2 n lo A B q.I ((q.I - m : Nat) : Int) (q.L m)) E82_ok (by kernel_rfl) fun hC => ⟨by simp, fun m hm hgo => by
    obtain ⟨h1, h2, h3, h4⟩ := hC
    have l1 : (q.L m).length = n := by rw [← h1]; exact isL_len
    have hI : q.I = q.a.length + q.p.length := rfl
    have hm' : m ≤ q.p.length := hm
    have hnn : q.n = q.a.length + q.p.length + 1 + q.r.length := rfl
    have hx : (q.L m).getD (q.I - m) made0 = q.x := isL_x hm'
    have hok : ∀ z ∈ q.L m, z.Ok := fun z hz => h4 z (isL_mem.2 (isL_mem.1 hz))
    have := is_2 n lo A B q.I (q.I - m) (q.L m) (q.L (m + 1)) (q.go m ∧ m < q.len) (q.ex m) h3 (by omega) l1 hok (fun hlt i hi => ?_) (fun hlt hc => ?_) (fun hc => ?_)
    · rw [show q.I - (m + 1) = q.I - m - 1 by omega]
      exact this
    · have hmp : m < q.p.length := by omega
      exact isL_swap hmp i
    · have hmp : m < q.p.length := by omega
      rw [hx, show (q.L m).getD (q.I - m - 1) made0 = _ from isL_p hmp] at hc
      exact ⟨⟨hmp, hc⟩, hmp⟩
    · rcases Nat.lt_or_ge m q.p.length with hmp | hmp
      · rcases hc with hc | hc
        · omega
        · rw [hx, show (q.L m).getD (q.I - m - 1) made0 = _ from isL_p hmp] at hc
          exact .inr ⟨hmp, hc⟩
      · exact .inl (show m = q.p.length by omega)⟩
set_option maxRecDepth 100000 in
set_option maxHeartbeats 0 in
theorem is_0 (n lo A B I : Nat) (L L1 : List MadeS) (q : IsQ) (Z1 Z2 : Prop) (hn : n < 900000000000) (hI : I < 900000000001) (hq : I < B → q.I = I ∧ q.L 0 = L ∧ q.Ok n A) (hnext : I < B → ∀ m, m ≤ q.len → (∀ j, j < m → q.go j) → q.ex m → L1 = q.L m ∧ Z1) (h2 : ¬ I < B → Z2) :
    roundE (E82b n lo A B) 20 203 0 1 (isS0 n lo A B I L) (rdM 1 0 9 (isS0 n lo A B ((I + 1 : Nat) : Int) L1) ⟨53, [], isH n L, []⟩ ⟨53, [], isH n L, []⟩ ⟨53, [], isH n L, []⟩ Z1 Z2 False False) := by
  refine @Eq.mpr _ (let q1 := decide ((↑B : Int) = (↑B : Int));
 let q2 := decide ((↑A : Int) = (↑A : Int));
 let q3 := [AV.vrows 1 5 (rowC byL 0 1) 5];
 let q4 := q3 = q3;
 let q5 := decide (n = n);
 let q6 := decide (lo ≤ lo);
 let q7 := mRows L;
 iteB (decide ((↑I : Int) < (↑B : Int)))
 (∃ (i : IsQ),
 let q15 := (↑(IsQ.I i) : Int);
 let q16 := decide ((↑I : Int) = q15);
 iteB q16
 (iteB q16
 (iteB q1
 (iteB q2
 (q4 ∧
 iteB q5
 (iteB q6
 (iteB q5
 (RowsEq 1 [] n (mRows (IsQ.L i 0)) q7 ∧
 IsQ.Ok i n A ∧
 ∀ (i_1 : Nat),
 let q19 := mRows (IsQ.L i i_1);
 i_1 ≤ IsQ.len i → (∀ (j : Nat), j < i_1 → IsQ.go i j) → (IsQ.ex i i_1 → iteB (decide (IntKind.wrap IntKind.i64 (q15 + 1) = (↑(I + 1) : Int))) (iteB q1 (iteB q2 (q4 ∧ iteB q5 (iteB q6 (iteB q5 (RowsEq 1 [] n (mRows L1) q19 ∧ Z1) False) False) False) False) False) False) ∧ (False → iteB q5 (RowsEq 1 [] n q7 q19 ∧ False) False) ∧ (False → iteB q5 (RowsEq 1 [] n q7 q19 ∧ False) False))
 False)
 False)
 False)
 False)
 False)
 False)
 False)
 (iteB q5 (RowsEq 1 [] n q7 q7 ∧ Z2) False)) (by kernel_rfl) ?_
  conv => zeta
  try simp only [need_eq]
  try simp only [nope_eq]
  try simp only [iteD_eq]
  try simp only [iteT_eq]
  try simp only [iteF_eq]
  try simp only [iteE_eq]
  try simp only [Int.toNat_natCast, Nat.zero_add, true_and, and_true, Nat.le_refl]
  refine ⟨fun hc => ?_, fun hc => ⟨mRows_eq fun _ _ => rfl, h2 (by omega)⟩⟩
  obtain ⟨e1, e2, e3⟩ := hq (by omega)
  refine ⟨q, by omega, by omega, mRows_eq (fun _ _ => by rw [e2]), e3, fun m hm hgo => ⟨fun hex => ?_, fun h => h.elim, fun h => h.elim⟩⟩
  obtain ⟨e4, hZ⟩ := hnext (by omega) m hm hgo hex
  exact ⟨by rw [w64 (by omega)]; omega, mRows_eq (fun _ _ => by rw [e4]), hZ⟩
structure IsP where
  a : List MadeS
  M : List MadeS
  c : List MadeS
def IsP.L (q : IsP) (t : Nat) : List MadeS := q.a ++ (sortL ltM [] (q.M.take (t + 1)) ++ (q.M.drop (t + 1) ++ q.c))
def IsP.N (q : IsP) : Nat := q.M.length - 1
def IsP.all (q : IsP) : List MadeS := q.a ++ (q.M ++ q.c)
def IsP.done (q : IsP) : List MadeS := q.a ++ (sortM q.M ++ q.c)
structure IsP.Ok (q : IsP) (n A B : Nat) : Prop where
  hn : q.a.length + q.M.length + q.c.length = n
  hA : q.a.length = A
  hB : q.a.length + q.M.length = B
  le : n < 900000000000
  ok : ∀ m ∈ q.all, m.Ok
theorem IsP.L0 (q : IsP) : q.L 0 = q.all := by
  unfold IsP.L IsP.all
  cases h : q.M with
  | nil => rfl
  | cons x r => rfl
theorem IsP.LN (q : IsP) : q.L q.N = q.done := by
  unfold IsP.L IsP.done IsP.N
  rw [List.take_of_length_le (by omega), List.drop_of_length_le (by omega)]; rfl
theorem sortL_mem {l acc : List MadeS} {z : MadeS} : z ∈ sortL ltM acc l ↔ z ∈ acc ∨ z ∈ l := by
  rw [(sortL_perm (lt := ltM)).mem_iff, List.mem_append]
noncomputable def E82c (q : IsP) (n lo A B : Nat) : Env2 := (E82b n lo A B).withL 203 0 (goM 1 (isS0 n lo A B ((A + 1 : Nat) : Int) (q.L 0)) (q.Ok n A B) (endsJ 0 q.N 9 (fun t => t < q.N) (fun t => t = q.N) (fun _ => False) (fun _ => False) (fun t => ⟨53, [], isH n (q.L t), []⟩) (fun t => ⟨53, [], isH n (q.L t), []⟩) (fun t => ⟨53, [], isH n (q.L t), []⟩)))
theorem E82c_ok (q : IsP) (n lo A B : Nat) : (E82c q n lo A B).Ok :=
  Env2.withGoM (N := 20) (S := fun t => isS0 n lo A B ((A + 1 + t : Nat) : Int) (q.L t)) (E82b_ok n lo A B) (by kernel_rfl) fun hC => ⟨rfl, fun t ht hgo => by
    obtain ⟨h1, h2, h3, h4, h5⟩ := hC
    have hN : q.N = q.M.length - 1 := rfl
    have hMl : q.M.length ≤ n := by omega
    have := is_0 n lo A B (A + 1 + t) (q.L t) (q.L (t + 1)) ⟨q.a, sortL ltM [] (q.M.take (t + 1)), q.M.getD (t + 1) made0, q.M.drop (t + 2) ++ q.c⟩ (t < q.N ∧ t < q.N) (t = q.N) h4 (by omega) (fun hlt => ?_) (fun hlt m hm hg he => ?_) (fun hc => by omega)
    · rw [show A + 1 + (t + 1) = A + 1 + t + 1 by omega]; exact this
    · have hl : (sortL ltM [] (q.M.take (t + 1))).length = t + 1 := by rw [sortL_len, List.length_take]; simp; omega
      have e0 : q.L t = isL q.a (sortL ltM [] (q.M.take (t + 1))) (q.M.getD (t + 1) made0) (q.M.drop (t + 2) ++ q.c) 0 := by
        unfold isL IsP.L
        rw [Nat.sub_zero, List.take_length, List.drop_length, List.drop_eq_getElem_cons (show t + 1 < q.M.length by omega), List.getD_eq_getElem?_getD, List.getElem?_eq_getElem (show t + 1 < q.M.length by omega)]
        rfl
      refine ⟨?_, e0.symm, ?_, h2, h4, fun z hz => ?_⟩
      · show q.a.length + (sortL ltM [] (q.M.take (t + 1))).length = _
        rw [hl, h2]; omega
      · show q.a.length + (sortL ltM [] (q.M.take (t + 1))).length + 1 + (q.M.drop (t + 2) ++ q.c).length = n
        rw [hl, List.length_append, List.length_drop]; omega
      · have hz : z ∈ isL q.a (sortL ltM [] (q.M.take (t + 1))) (q.M.getD (t + 1) made0) (q.M.drop (t + 2) ++ q.c) 0 := hz
        refine h5 z ?_
        rw [← e0] at hz
        unfold IsP.L at hz
        unfold IsP.all
        rw [List.mem_append, List.mem_append, sortL_mem, List.mem_append] at hz
        rw [List.mem_append, List.mem_append]
        rcases hz with hz | (hz | hz) | hz | hz
        · exact .inl hz
        · simp at hz
        · exact .inr (.inl (List.mem_of_mem_take hz))
        · exact .inr (.inl (List.mem_of_mem_drop hz))
        · exact .inr (.inr hz)
    · refine ⟨?_, by omega⟩
      have := isL_end (a := q.a) (r := q.M.drop (t + 2) ++ q.c) (x := q.M.getD (t + 1) made0) (m := m) (sortL_ord ltM_wo (l := q.M.take (t + 1)) (acc := []) .nil) hm hg he
      show _ = isL q.a _ _ _ m
      rw [this]
      unfold IsP.L
      have e2 : q.M.take (t + 1 + 1) = q.M.take (t + 1) ++ [q.M.getD (t + 1) made0] := by
        rw [List.take_succ_eq_append_getElem (by omega), List.getD_eq_getElem?_getD, List.getElem?_eq_getElem (show t + 1 < q.M.length by omega)]
        rfl
      rw [e2, sortL_snoc]⟩
set_option maxRecDepth 100000 in
set_option maxHeartbeats 0 in
theorem is_f (q : IsP) (n lo A B : Nat) (L0 L1 : List MadeS) (hq : q.Ok n A B) (hL : L0 = q.all) (hL1 : L1 = q.done) :
    evF (E82c q n lo A B) 20 203 [.nslice ⟨0, 0, 134, 0, 0⟩ 134 n lo, .int .i64 A, .int .i64 B, cmpF] (isH n L0) (outM 1 (.ret (.tuple [])) 1 [(0, .rows 134 n (mRows L1))]) := by
  refine @Eq.mpr _ (let q1 := [AV.vrows 1 5 (rowC byL 0 1) 5];
 let q2 := decide (n = n);
 let q3 := IsP.N q;
 iteB (decide (IntKind.wrap IntKind.i64 ((↑A : Int) + 1) = (↑(A + 1) : Int)))
 (iteB (decide ((↑B : Int) = (↑B : Int)))
 (iteB (decide ((↑A : Int) = (↑A : Int)))
 (q1 = q1 ∧
 iteB q2
 (iteB (decide (lo ≤ lo))
 (iteB q2
 (RowsEq 1 [] n (mRows (IsP.L q 0)) (mRows L0) ∧
 IsP.Ok q n A B ∧
 ∀ (i : Nat),
 let q7 := iteB q2 (RowsEq 1 [] n (mRows L1) (mRows (IsP.L q i)) ∧ True) False;
 i ≤ q3 → (∀ (j : Nat), j < i → (fun (t : Nat) => t < q3) j) → (i = q3 → q7) ∧ (False → q7) ∧ (False → False))
 False)
 False)
 False)
 False)
 False)
 False) (by kernel_rfl) ?_
  conv => zeta
  try simp only [need_eq]
  try simp only [nope_eq]
  try simp only [iteD_eq]
  try simp only [iteT_eq]
  try simp only [iteF_eq]
  try simp only [iteE_eq]
  try simp only [Int.toNat_natCast, Nat.zero_add, true_and, and_true, Nat.le_refl]
  refine ⟨by rw [w64 (by have := hq.hn; have := hq.hA; have := hq.le; omega)]; omega, mRows_eq (fun _ _ => by rw [hL, q.L0]), hq, fun i hi hg => ⟨fun he => ?_, fun h => h.elim, fun h => h.elim⟩⟩
  subst he
  exact mRows_eq fun _ _ => by rw [hL1, q.LN]
def isF : FSumm := fun args h K => match args with
  | .nslice p esz len lo :: r => frA [p.blk] h 20 (.nslice p esz len lo :: r) fun Bs a => match Bs, a with
    | [.rows 134 m f], [.nslice ⟨0, 0, 134, 0, 0⟩ 134 n lo, .int .i64 A, .int .i64 B, .func (.func 151) [] [.pview [.vrows 1 5 g 5] 0]] => ∃ (q : IsP) (a b : Nat), (m = n ∧ A = (a : Int) ∧ B = (b : Int)) ∧ q.Ok n a b ∧ g = rowC byL 0 1 ∧ f = mRows q.all ∧ K (.ret (.tuple [])) ⟨h.next, (p.blk, .rows 134 n (mRows q.done)) :: delB h.bs p.blk⟩
    | _, _ => False
  | _ => False
theorem isF_ok (args : List AV) (h : Heap) (K : KO) (hl : isF args h K) : CallsA PP 203 args h K := by
  unfold isF at hl
  split at hl
  · rename_i p esz len lo r
    refine Spec.fsumm (σ := [p.blk]) (d := 20) hl fun Bs a₀ hlen h0 => ?_
    split at h0
    · obtain ⟨q, a, b, ⟨rfl, rfl, rfl⟩, hq, rfl, rfl, hK⟩ := h0
      exact ⟨_, _, _, _, _, .evM (E82c_ok _ _ _ _ _) (is_f q _ _ a b _ _ hq rfl rfl), Nat.le_refl 1, .ret _ _ rfl, .cons 0 _ _ _ _ _ rfl (.rows _ _ _ fun i _ => mRows_plain _ i) .nil, hK⟩
    · exact h0.elim
  · exact hl.elim
def noF : FSumm := fun _ _ _ => False
theorem noF_ok {f : FuncId} (args : List AV) (h : Heap) (K : KO) (hl : noF args h K) : CallsA PP f args h K := hl.elim
noncomputable def E82d : Env2 := (G0.withF 203 isF).withF 204 noF
theorem E82d_ok : E82d.Ok := Env2.withF_ok (Env2.withF_ok G0_ok isF_ok) noF_ok
def ssT (n lo : Nat) (l : Tmps) : Tmps := l ++ [(2, cmpF), (1, .int .i64 n), (0, .nslice ⟨0, 0, 134, 0, 0⟩ 134 n lo)]
def ssS0 (n lo : Nat) (L : List MadeS) : St := ⟨63, ssT n lo [(8, .int .i64 20), (7, .int .i64 0), (6, .int .i64 20)], isH n L, []⟩
def ssE0 (n lo : Nat) (L : List MadeS) : St := ⟨63, ssT n lo [(7, .int .i64 0), (6, .int .i64 20)], isH n L, []⟩
def ssS2 (n lo : Nat) (L : List MadeS) : St := ⟨63, ssT n lo [(6, .int .i64 20)], isH n L, []⟩
def ssE2 (n lo : Nat) (L : List MadeS) : St := ⟨63, [], isH n L, []⟩
set_option maxRecDepth 100000 in
set_option maxHeartbeats 0 in
theorem ss_0 (n lo : Nat) (L : List MadeS) (Z : Prop) (hn : n < 20) (hZ : Z) :
    roundE E82d 20 185 0 1 (ssS0 n lo L) (rdM 1 0 9 (ssS0 n lo L) (ssE0 n lo L) (ssE0 n lo L) (ssE0 n lo L) False Z False False) := by
  refine @Eq.mpr _ (let q1 := rowC byL 0 1;
 let q2 := mRows L;
 let q3 := [AV.vrows 1 5 q1 5];
 let q4 := decide (n = n);
 iteB (decide (20 ≤ (↑n : Int))) ((∀ (i : Nat), i < n → true = true) ∧ ∃ (q : IsP), ∃ (a : Nat), ∃ (b : Nat), (n = n ∧ 0 = (↑a : Int) ∧ 20 = (↑b : Int)) ∧ IsP.Ok q n a b ∧ q1 = q1 ∧ q2 = mRows (IsP.all q) ∧ False) (q3 = q3 ∧ iteB (decide ((↑n : Int) = (↑n : Int))) (iteB q4 (iteB (decide (lo ≤ lo)) (iteB q4 (RowsEq 1 [] n q2 q2 ∧ Z) False) False) False) False)) (by kernel_rfl) ?_
  conv => zeta
  try simp only [need_eq]
  try simp only [nope_eq]
  try simp only [iteD_eq]
  try simp only [iteT_eq]
  try simp only [iteF_eq]
  try simp only [iteE_eq]
  try simp only [Int.toNat_natCast, Nat.zero_add, true_and, and_true, Nat.le_refl]
  exact ⟨fun h => by omega, fun _ => ⟨mRows_eq fun _ _ => rfl, hZ⟩⟩
set_option maxRecDepth 100000 in
set_option maxHeartbeats 0 in
theorem ss_2 (n lo : Nat) (L : List MadeS) (Z : Prop) (hn : n < 20) (hZ : Z) :
    roundE E82d 20 185 2 1 (ssS2 n lo L) (rdM 1 2 9 (ssS2 n lo L) (ssE2 n lo L) (ssE2 n lo L) (ssE2 n lo L) False Z False False) := by
  refine @Eq.mpr _ (iteB (decide (20 < (↑n : Int))) (iteB (decide (40 ≤ (↑n : Int))) False (iteB (decide (20 < (↑n : Int))) False False)) (iteB (decide (n = n)) (RowsEq 1 [] n (mRows L) (mRows L) ∧ Z) False)) (by kernel_rfl) ?_
  try simp only [need_eq]
  try simp only [nope_eq]
  try simp only [iteD_eq]
  try simp only [iteT_eq]
  try simp only [iteF_eq]
  try simp only [iteE_eq]
  try simp only [Int.toNat_natCast, Nat.zero_add, true_and, and_true, Nat.le_refl]
  exact ⟨fun h => absurd h (by omega), fun _ => ⟨mRows_eq fun _ _ => rfl, hZ⟩⟩
noncomputable def E82e (n lo : Nat) (L L1 : List MadeS) : Env2 := (E82d.withL 185 0 (goM 1 (ssS0 n lo L) (n < 20) (endsJ 0 0 9 (fun _ => False) (fun _ => True) (fun _ => False) (fun _ => False) (fun _ => ssE0 n lo L) (fun _ => ssE0 n lo L) (fun _ => ssE0 n lo L)))).withL 185 2 (goM 1 (ssS2 n lo L1) (n < 20) (endsJ 2 0 9 (fun _ => False) (fun _ => True) (fun _ => False) (fun _ => False) (fun _ => ssE2 n lo L1) (fun _ => ssE2 n lo L1) (fun _ => ssE2 n lo L1)))
theorem E82e_ok (n lo : Nat) (L L1 : List MadeS) : (E82e n lo L L1).Ok := by
  have h0 : (E82d.withL 185 0 _).Ok := Env2.withGoM (N := 20) (S := fun _ => ssS0 n lo L) (S0 := ssS0 n lo L) (C := n < 20) (n := 0) (l := 9) (go := fun _ => False) (ex := fun _ => True) (re := fun _ => False) (jm := fun _ => False) (En := fun _ => ssE0 n lo L) (Rn := fun _ => ssE0 n lo L) (Jn := fun _ => ssE0 n lo L) E82d_ok (by kernel_rfl) fun hC => ⟨rfl, fun t _ _ => (by
    have := ss_0 n lo L True hC trivial
    simpa only [false_and] using this)⟩
  have h2 : (E82d.withL 185 2 _).Ok := Env2.withGoM (N := 20) (S := fun _ => ssS2 n lo L1) (S0 := ssS2 n lo L1) (C := n < 20) (n := 0) (l := 9) (go := fun _ => False) (ex := fun _ => True) (re := fun _ => False) (jm := fun _ => False) (En := fun _ => ssE2 n lo L1) (Rn := fun _ => ssE2 n lo L1) (Jn := fun _ => ssE2 n lo L1) E82d_ok (by kernel_rfl) fun hC => ⟨rfl, fun t _ _ => (by
    have := ss_2 n lo L1 True hC trivial
    simpa only [false_and] using this)⟩
  exact Env2.withL_join (H := E82d) h0 rfl h2
set_option maxRecDepth 100000 in
set_option maxHeartbeats 0 in
theorem st_1 (n lo : Nat) (L L1 : List MadeS) (hn : n < 20) (hl : L.length = n) (hok : ∀ m ∈ L, m.Ok) (hL : L1 = sortM L) :
    evF (E82e n lo L L1) 20 150 [.nslice ⟨0, 0, 134, 0, 0⟩ 134 n lo, cmpF] (isH n L) (outM 1 (.ret (.tuple [])) 1 [(0, .rows 134 n (mRows L1))]) := by
  refine @Eq.mpr _ (let q1 := rowC byL 0 1;
 let q2 := [AV.vrows 1 5 q1 5];
 let q3 := q2 = q2;
 let q4 := decide ((↑n : Int) = (↑n : Int));
 let q5 := decide (n = n);
 let q6 := decide (lo ≤ lo);
 let q7 := mRows L;
 let q8 := mRows L1;
 let q9 := iteB q5 (RowsEq 1 [] n q8 q8 ∧ True) False;
 q3 ∧ iteB q4 (iteB q5 (iteB q6 (iteB q5 (RowsEq 1 [] n q7 q7 ∧ n < 20 ∧ ∀ (i : Nat), i ≤ 0 → (∀ (j : Nat), j < i → (fun (x : Nat) => False) j) → (True → (∀ (i : Nat), i < n → true = true) ∧ ∃ (q : IsP), ∃ (a : Nat), ∃ (b : Nat), (n = n ∧ 0 = (↑a : Int) ∧ (↑n : Int) = (↑b : Int)) ∧ IsP.Ok q n a b ∧ q1 = q1 ∧ q7 = mRows (IsP.all q) ∧ q3 ∧ iteB q4 (iteB q5 (iteB q6 (iteB q5 (RowsEq 1 [] n q8 (mRows (IsP.done q)) ∧ n < 20 ∧ ∀ (i : Nat), i ≤ 0 → (∀ (j : Nat), j < i → (fun (x : Nat) => False) j) → (True → q9) ∧ (False → q9) ∧ (False → False)) False) False) False) False) ∧ (False → iteB q5 (RowsEq 1 [] n q8 q7 ∧ True) False) ∧ (False → False)) False) False) False) False) (by kernel_rfl) ?_
  conv => zeta
  try simp only [need_eq]
  try simp only [nope_eq]
  try simp only [iteD_eq]
  try simp only [iteT_eq]
  try simp only [iteF_eq]
  try simp only [iteE_eq]
  try simp only [Int.toNat_natCast, Nat.zero_add, true_and, and_true, Nat.le_refl]
  refine ⟨mRows_eq fun _ _ => rfl, hn, fun i _ _ => ⟨fun _ => ⟨fun _ _ => trivial, ⟨[], L, []⟩, 0, n, ⟨rfl, rfl⟩, ⟨by simp [hl], rfl, by simp [hl], by omega, fun m hm => hok m (by simpa [IsP.all] using hm)⟩, by simp [IsP.all], mRows_eq fun _ _ => by simp [IsP.done, hL], hn, fun j _ _ => ⟨fun _ => mRows_eq fun _ _ => rfl, fun h => h.elim, fun h => h.elim⟩⟩, fun h => h.elim, fun h => h.elim⟩⟩
def stF : FSumm := fun args h K => match args with
  | .nslice p esz len lo :: r => frA [p.blk] h 20 (.nslice p esz len lo :: r) fun Bs a => match Bs, a with
    | [.rows 134 m f], [.nslice ⟨0, 0, 134, 0, 0⟩ 134 n lo, .func (.func 151) [] [.pview [.vrows 1 5 g 5] 0]] => ∃ (L : List MadeS), (m = n ∧ n < 20 ∧ L.length = n) ∧ (∀ m ∈ L, m.Ok) ∧ g = rowC byL 0 1 ∧ f = mRows L ∧ K (.ret (.tuple [])) ⟨h.next, (p.blk, .rows 134 n (mRows (sortM L))) :: delB h.bs p.blk⟩
    | _, _ => False
  | _ => False
theorem stF_ok (args : List AV) (h : Heap) (K : KO) (hl : stF args h K) : CallsA PP 150 args h K := by
  unfold stF at hl
  split at hl
  · rename_i p esz len lo r
    refine Spec.fsumm (σ := [p.blk]) (d := 20) hl fun Bs a₀ hlen h0 => ?_
    split at h0
    · obtain ⟨L, ⟨rfl, hn, hll⟩, hok, rfl, rfl, hK⟩ := h0
      exact ⟨_, _, _, _, _, .evM (E82e_ok _ _ _ _) (st_1 _ _ L _ hn hll hok rfl), Nat.le_refl 1, .ret _ _ rfl, .cons 0 _ _ _ _ _ rfl (.rows _ _ _ fun i _ => mRows_plain _ i) .nil, hK⟩
    · exact h0.elim
  · exact hl.elim
noncomputable def E82f : Env2 := G0.withF 150 stF
theorem E82f_ok : E82f.Ok := Env2.withF_ok G0_ok stF_ok
set_option maxRecDepth 100000 in
set_option maxHeartbeats 0 in
theorem od_1 (n lo : Nat) (L L1 : List MadeS) (hn : n < 20) (hl : L.length = n) (hok : ∀ m ∈ L, m.Ok) (hL : L1 = sortM L) :
    evF E82f 20 58 [.nslice ⟨0, 0, 134, 0, 0⟩ 134 n lo] (isH n L) (outM 1 (.ret (.nslice ⟨0, 0, 134, 0, 0⟩ 134 n lo)) 1 [(0, .rows 134 n (mRows L1))]) := by
  refine @Eq.mpr _ (let q1 := decide (n = n);
 (∀ (i : Nat), i < n → true = true) ∧ ∃ (L_1 : List MadeS), (n = n ∧ n < (20 : Nat) ∧ List.length L_1 = n) ∧ (∀ (m : MadeS), List.Mem m L_1 → MadeS.Ok m) ∧ rowC [AV.func (Fn.func (107 : Nat)) [] [], AV.func (Fn.func (109 : Nat)) [] [], AV.func (Fn.func (111 : Nat)) [] [], AV.func (Fn.func (112 : Nat)) [] [], AV.func (Fn.func (113 : Nat)) [] []] (0 : Nat) (1 : Nat) = rowC byL (0 : Nat) (1 : Nat) ∧ mRows L = mRows L_1 ∧ iteB q1 (iteB (decide (lo ≤ lo)) (iteB q1 (RowsEq (1 : Nat) [] n (mRows L1) (mRows (sortM L_1)) ∧ True) False) False) False) (by kernel_rfl) ?_
  conv => zeta
  try simp only [need_eq]
  try simp only [nope_eq]
  try simp only [iteD_eq]
  try simp only [iteT_eq]
  try simp only [iteF_eq]
  try simp only [iteE_eq]
  try simp only [Int.toNat_natCast, Nat.zero_add, true_and, and_true, Nat.le_refl]
  exact ⟨fun _ _ => trivial, L, ⟨hn, hl⟩, hok, rfl, rfl, mRows_eq fun _ _ => by rw [hL]⟩
set_option maxRecDepth 100000 in
set_option maxHeartbeats 0 in
theorem od_0 (X : Nat) (hn : X = X) :
    evF G0 20 58 [.nilslice] ⟨0, []⟩ (outM 0 (.ret .nilslice) 0 []) := by
  refine @Eq.mpr _ (True) (by kernel_rfl) ?_
  trivial
def orF : FSumm := fun args h K => match args with
  | [.nilslice] => K (.ret .nilslice) h
  | [.nslice p esz len lo] => frA [p.blk] h 20 [.nslice p esz len lo] fun Bs a => match Bs, a with
    | [.rows 134 m f], [.nslice ⟨0, 0, 134, 0, 0⟩ 134 n lo] => ∃ (L : List MadeS), (m = n ∧ n < 20 ∧ L.length = n) ∧ (∀ m ∈ L, m.Ok) ∧ (∀ i, i < n → f i = mRows L i) ∧ K (.ret (.nslice ⟨p.blk, 0, 134, 0, 0⟩ 134 n lo)) ⟨h.next, (p.blk, .rows 134 n (mRows (sortM L))) :: delB h.bs p.blk⟩
    | _, _ => False
  | _ => False
theorem orF_ok (args : List AV) (h : Heap) (K : KO) (hl : orF args h K) : CallsA PP 58 args h K := by
  unfold orF at hl
  split at hl
  · exact (Pure.evM G0_ok (od_0 0 rfl)).calls (fun E w rs he hr => by
      cases hr with
      | cons v r vs rs h1 h2 => cases h2; exact .cons _ _ _ _ (h1.plain rfl) .nil) rfl trivial hl
  · rename_i p esz len lo
    refine Spec.fsumm (σ := [p.blk]) (d := 20) hl fun Bs a₀ hlen h0 => ?_
    split at h0
    · obtain ⟨L, ⟨rfl, hn, hll⟩, hok, hf, hK⟩ := h0
      exact ⟨_, _, _, _, _, .rows hf (.evM E82f_ok (od_1 _ _ L _ hn hll hok rfl)), Nat.le_refl 1, .ret _ _ rfl, .cons 0 _ _ _ _ _ rfl (.rows _ _ _ fun i _ => mRows_plain _ i) .nil, hK⟩
    · exact h0.elim
  · exact hl.elim
end Go.Tk
end
section
namespace Go.Tk
def noRows : Nat → List AV := fun _ => []
set_option maxRecDepth 100000 in
set_option maxHeartbeats 0 in
theorem cle_0 (X : Nat) (hn : X = X) :
    evF G0 20 67 [.nilslice] ⟨0, []⟩ (outM 0 (.ret (.nslice ⟨0, 0, 34, 0, 0⟩ 34 0 0)) 1 [(0, .rows 34 0 noRows)]) := by
  refine @Eq.mpr _ (True) (by kernel_rfl) ?_
  trivial
set_option maxRecDepth 100000 in
set_option maxHeartbeats 0 in
theorem cle_1 (X : Nat) (hn : X = X) :
    evF G0 20 67 [.fslice] ⟨0, []⟩ (outM 0 (.ret (.nslice ⟨0, 0, 34, 0, 0⟩ 34 0 0)) 1 [(0, .rows 34 0 noRows)]) := by
  refine @Eq.mpr _ (RowsEq 0 [(0, 0)] 0 noRows (catF 0 (fun (x : Nat) => []) fun (x : Nat) => []) ∧ True) (by kernel_rfl) ?_
  exact ⟨⟨fun i hi => absurd hi (Nat.not_lt_zero i)⟩, trivial⟩
def cleF : FSumm := fun args h K => match args with
  | [.eslice] => K (.ret (.nslice ⟨h.next, 0, 34, 0, 0⟩ 34 0 0)) ⟨h.next + 1, (h.next, .rows 34 0 noRows) :: h.bs⟩
  | _ => False
theorem cleF_ok (args : List AV) (h : Heap) (K : KO) (hl : cleF args h K) : CallsA PP 67 args h K := by
  unfold cleF at hl
  split at hl
  · refine CallsA.eslice ?_ ?_
    · exact (Pure.evM G0_ok (cle_0 0 rfl)).calls (fun E w rs he hr => by
        cases hr with
        | cons v r vs rs h1 h2 => cases h2; exact .cons _ _ _ _ (h1.plain rfl) .nil) rfl ⟨Nat.one_pos, .rows _ _ _ (fun i hi => absurd hi (Nat.not_lt_zero i)), trivial⟩ hl
    · exact (Pure.evM G0_ok (cle_1 0 rfl)).calls (fun E w rs he hr => by
        cases hr with
        | cons v r vs rs h1 h2 => cases h2; exact .cons _ _ _ _ (h1.plain rfl) .nil) rfl ⟨Nat.one_pos, .rows _ _ _ (fun i hi => absurd hi (Nat.not_lt_zero i)), trivial⟩ hl
  · exact hl.elim
end Go.Tk
end
section
namespace Go.Tk
structure MadeS.Okb (m : MadeS) : Prop where
  ok : m.Ok
  hb : Bytes m.o.hash
set_option maxRecDepth 100000 in
set_option maxHeartbeats 0 in
theorem le_1 (a b : MadeS) (r : Bool) (ha : a.Okb) (hb : b.Okb) (hr : r = ltM a b) :
    evF (G0.withP 51 ordS) 20 114 [.agg a.c, .agg b.c] ⟨0, []⟩ (outV (fun v => v = .bool r)) := by
  refine @Eq.mpr _ (let q1 := a.o;
 let q2 := q1.amount;
 let q3 := b.o;
 let q4 := q3.amount;
 let q5 := AV.bool r;
 let q6 := q1.kind;
 let q7 := q3.kind;
 let q8 := q1.expiry;
 let q9 := q3.expiry;
 let q10 := q1.hash;
 let q11 := q3.hash;
 let q12 := cmpI q10 q11;
 iteB (q2 != q4) (AV.bool (decide (q2 < q4)) = q5) (iteB (q6 != q7) (AV.bool (decide (q6 < q7)) = q5) (iteB (q8 != q9) (AV.bool (decide (q8 < q9)) = q5) ((List.length q10 = 32 ∧ List.length q11 = 32) ∧ Bytes q10 ∧ Bytes q11 ∧ iteB (q12 != 0) (AV.bool (decide (q12 < 0)) = q5) (AV.bool (decide (a.id < b.id)) = q5))))) (by kernel_rfl) ?_
  conv => zeta
  try simp only [need_eq]
  try simp only [nope_eq]
  try simp only [iteD_eq]
  try simp only [iteT_eq]
  try simp only [iteF_eq]
  try simp only [iteE_eq]
  try simp only [Int.toNat_natCast, Nat.zero_add, true_and, and_true, Nat.le_refl]
  have h4 := cmpI_spec (ha.ok.hash.trans hb.ok.hash.symm)
  have k1 := ha.ok.hash
  have k2 := hb.ok.hash
  have k3 := ha.hb
  have k4 := hb.hb
  subst hr
  unfold ltM
  generalize cmpI a.o.hash b.o.hash = c4 at *
  generalize valU a.o.hash = v1 at *
  generalize valU b.o.hash = v2 at *
  refine ⟨fun h1 => ?_, fun h1 => ⟨fun h2 => ?_, fun h2 => ⟨fun h3 => ?_, fun h3 => ⟨⟨k1, k2⟩, k3, k4, fun h5 => ?_, fun h5 => ?_⟩⟩⟩⟩
  all_goals
    simp only [bne_iff_ne, ne_eq, bne_eq_false_iff_eq] at *
    congr 1
    rw [decide_eq_decide]
    omega
def lessS : PSumm := fun args _ K => match args with
  | [.agg ca, .agg cb] => ∃ a b, ca = MadeS.c a ∧ cb = MadeS.c b ∧ (a.Okb ∧ b.Okb) ∧ K (.bool (ltM a b))
  | _ => False
theorem lessS_ok (args : List AV) (h : Heap) (K : AV → Prop) (hl : lessS args h K) : CallsA PP 114 args h fun o h' => ∃ v, o = .ret v ∧ h' = h ∧ K v := by
  unfold lessS at hl
  split at hl
  · obtain ⟨a, b, rfl, rfl, ⟨h1, h2⟩, hK⟩ := hl
    exact outV_ev (Env2.withP_ok G0_ok ordS_ok) rfl (le_1 a b _ h1 h2 rfl) (fun u hu => hu ▸ hK)
  · exact hl.elim
def puStep (m : MadeS) (s : List MadeS × Bool) (x : MadeS) : List MadeS × Bool := match !s.2 && ltM m x with
  | true => (s.1 ++ [m] ++ [x], true)
  | false => (s.1 ++ [x], s.2)
def puN (m : MadeS) (L : List MadeS) (i : Nat) : List MadeS × Bool := (L.take i).foldl (puStep m) ([], false)
def puFin (m : MadeS) (s : List MadeS × Bool) : List MadeS := match s.2 with
  | true => s.1
  | false => s.1 ++ [m]
theorem puN_succ (m : MadeS) (L : List MadeS) {i : Nat} (hi : i < L.length) : puN m L (i + 1) = puStep m (puN m L i) (L.getD i made0) := by
  unfold puN
  rw [List.take_succ_eq_append_getElem hi, List.foldl_append, List.getD_eq_getElem?_getD, List.getElem?_eq_getElem hi]
  rfl
theorem puF_true (m : MadeS) : ∀ (L O : List MadeS), L.foldl (puStep m) (O, true) = (O ++ L, true)
  | [], O => by simp
  | x :: r, O => by
    rw [List.foldl_cons]
    show List.foldl (puStep m) (O ++ [x], true) r = _
    rw [puF_true m r]; simp
theorem puF_fin (m : MadeS) : ∀ (L O : List MadeS), puFin m (L.foldl (puStep m) (O, false)) = O ++ insL ltM m L
  | [], O => rfl
  | x :: r, O => by
    rw [List.foldl_cons]
    unfold insL
    cases h : ltM m x with
    | true =>
      have : puStep m (O, false) x = (O ++ [m] ++ [x], true) := by unfold puStep; rw [h]; rfl
      rw [this, puF_true]
      simp [puFin]
    | false =>
      have : puStep m (O, false) x = (O ++ [x], false) := by unfold puStep; rw [h]; rfl
      rw [this, puF_fin m r]
      simp
theorem puN_fin (m : MadeS) (L : List MadeS) : puFin m (puN m L L.length) = insL ltM m L := by
  unfold puN
  rw [List.take_length, puF_fin]; rfl
theorem mRows_cat {O P : List MadeS} {c i : Nat} (hc : O.length = c) : catF c (mRows O) (mRows P) i = mRows (O ++ P) i := by
  unfold mRows
  rcases Nat.lt_or_ge i c with h | h
  · rw [catF_lt h, List.getD_eq_getElem?_getD, List.getD_eq_getElem?_getD, List.getElem?_append_left (by omega)]
  · rw [catF_ge h, List.getD_eq_getElem?_getD, List.getD_eq_getElem?_getD, List.getElem?_append_right (by omega), hc]
theorem puN_len (m : MadeS) (L : List MadeS) : ∀ i, i ≤ L.length → (puN m L i).1.length ≤ i + 1 ∧ ((puN m L i).2 = false → (puN m L i).1.length = i)
  | 0, _ => by simp [puN]
  | i + 1, h => by
    obtain ⟨h1, h2⟩ := puN_len m L i (by omega)
    rw [puN_succ m L (by omega)]
    unfold puStep
    cases hd : (puN m L i).2 with
    | true => simp; omega
    | false =>
      have := h2 hd
      cases ltM m (L.getD i made0) <;> simp <;> omega
def puS (n : Nat) (L : List MadeS) (m : MadeS) (i c : Nat) (D : Bool) (O : List MadeS) : St := ⟨42, [(7, .int .i64 i), (0, .vrows 134 n (mRows L) n), (6, .bool D), (3, .ptr (some ⟨0, 0, 0, 0, 0⟩)), (5, .nslice ⟨1, 0, 134, 0, 0⟩ 134 c c)], ⟨2, [(0, .flat m.c), (1, .rows 134 c (mRows O))]⟩, []⟩
def puE (m : MadeS) (c : Nat) (D : Bool) (O : List MadeS) : St := ⟨42, [(6, .bool D), (3, .ptr (some ⟨0, 0, 0, 0, 0⟩)), (5, .nslice ⟨1, 0, 134, 0, 0⟩ 134 c c)], ⟨2, [(0, .flat m.c), (1, .rows 134 c (mRows O))]⟩, []⟩
noncomputable def E84 : Env2 := G0.withP 114 lessS
theorem E84_ok : E84.Ok := Env2.withP_ok G0_ok lessS_ok
theorem rows_snoc {f : Nat → List AV} {O : List MadeS} {x : MadeS} {c i : Nat} (hc : O.length = c) (hf : ∀ i, i < c → f i = mRows O i) (hi : i < c + 1) : catF c f (rowC (MadeS.c x) 0 134) i = mRows (O ++ [x]) i := by
  rcases Nat.lt_or_ge i c with h | h
  · rw [catF_lt h, hf i h]
    unfold mRows
    rw [List.getD_eq_getElem?_getD, List.getD_eq_getElem?_getD, List.getElem?_append_left (by omega)]
  · have e : i = c := by omega
    subst e
    rw [catF_ge (Nat.le_refl _), Nat.sub_self]
    unfold mRows
    rw [List.getD_eq_getElem?_getD, List.getElem?_append_right (by omega), hc, Nat.sub_self]
    rfl
set_option maxRecDepth 100000 in
set_option maxHeartbeats 0 in
theorem pu_1 (n i c c1 : Nat) (L O O1 : List MadeS) (m : MadeS) (D D1 : Bool) (Z1 Z2 : Prop) (hn : n < 1000) (hL : L.length = n) (hi : i ≤ n) (hO : O.length = c) (hci : c ≤ i + 1) (hm : m.Okb) (hok : ∀ x ∈ L, x.Okb) (h1 : i < n → puStep m (O, D) (L.getD i made0) = (O1, D1)) (hc1 : c1 = O1.length) (hZ1 : i < n → Z1) (hZ2 : i = n → Z2) :
    roundE E84 20 60 0 0 (puS n L m i c D O) (rdM 0 0 9 (puS n L m (i + 1) c1 D1 O1) (puE m c D O) (puE m c D O) (puE m c D O) Z1 Z2 False False) := by
  refine @Eq.mpr _ (let q1 := decide (0 ≤ (↑i : Int) ∧ (↑i : Int) < (↑n : Int));
 let q2 := m.o;
 let q3 := q2.kind;
 let q4 := q2.amount;
 let q5 := q2.owner;
 let q6 := q2.other;
 let q7 := q2.point;
 let q8 := q2.hash;
 let q9 := q2.delay;
 let q10 := q2.expiry;
 let q11 := m.id;
 let q12 := m.what;
 let q13 := [AV.int IntKind.i64 q3, AV.int IntKind.i64 q4, AV.arr IntKind.u8 32 q5, AV.arr IntKind.u8 32 q6, AV.arr IntKind.u8 32 q7, AV.arr IntKind.u8 32 q8, AV.int IntKind.i64 q9, AV.int IntKind.i64 q10, AV.int IntKind.i64 q11, AV.int IntKind.i64 q12];
 let q14 := List.getD L (Int.toNat (↑i : Int)) made0;
 let q15 := q14.o;
 let q16 := [AV.int IntKind.i64 q15.kind, AV.int IntKind.i64 q15.amount, AV.arr IntKind.u8 32 q15.owner, AV.arr IntKind.u8 32 q15.other, AV.arr IntKind.u8 32 q15.point, AV.arr IntKind.u8 32 q15.hash, AV.int IntKind.i64 q15.delay, AV.int IntKind.i64 q15.expiry, AV.int IntKind.i64 q14.id, AV.int IntKind.i64 q14.what];
 let q17 := decide (c = c);
 let q18 := c + 1;
 let q19 := decide (q18 * 176 ≤ 140737488355328);
 let q20 := q18 + 1;
 let q21 := decide (IntKind.wrap IntKind.i64 ((↑i : Int) + 1) = (↑(i + 1) : Int));
 let q22 := decide (n = n);
 let q23 := mRows L = mRows L;
 let q24 := decide (q20 = c1);
 let q25 := decide (q3 = q3);
 let q26 := decide (q4 = q4);
 let q27 := q5 = q5;
 let q28 := q6 = q6;
 let q29 := q7 = q7;
 let q30 := q8 = q8;
 let q31 := decide (q9 = q9);
 let q32 := decide (q10 = q10);
 let q33 := decide (q11 = q11);
 let q34 := decide (q12 = q12);
 let q35 := [(0, 0)];
 let q36 := mRows O;
 let q37 := rowC q16 0 134;
 let q38 := decide (q18 = c1);
 let q39 := iteB q1 (iteB q17 (iteB q19 (iteB q21 (iteB q22 (q23 ∧ iteB q22 (iteB (decide (D = D1)) (iteB q38 (iteB (decide (c1 ≤ q18)) (iteB q25 (iteB q26 (q27 ∧ q28 ∧ q29 ∧ q30 ∧ iteB q31 (iteB q32 (iteB q33 (iteB q34 (iteB q38 (RowsEq 0 ((1, 3) :: q35) c1 (mRows O1) (catF c q36 q37) ∧ Z1) False) False) False) False) False) False) False) False) False) False) False) False) False) False) False) False;
 iteB (decide ((↑i : Int) < (↑n : Int))) (iteB (!D) (iteB q1 (∃ (a : MadeS), ∃ (b : MadeS), q13 = MadeS.c a ∧ q16 = MadeS.c b ∧ (MadeS.Okb a ∧ MadeS.Okb b) ∧ iteB (ltM a b) (iteB q17 (iteB q19 (iteB q1 (iteB (decide (q18 = q18)) (iteB (decide (q20 * 176 ≤ 140737488355328)) (iteB q21 (iteB q22 (q23 ∧ iteB q22 (iteB (decide (true = D1)) (iteB q24 (iteB (decide (c1 ≤ q20)) (iteB q25 (iteB q26 (q27 ∧ q28 ∧ q29 ∧ q30 ∧ iteB q31 (iteB q32 (iteB q33 (iteB q34 (iteB q24 (RowsEq 0 ((1, 5) :: q35) c1 (mRows O1) (catF q18 (catF c q36 (rowC q13 0 134)) q37) ∧ Z1) False) False) False) False) False) False) False) False) False) False) False) False) False) False) False) False) False) False) q39) False) q39) (iteB (decide (D = D)) (iteB q17 (iteB (decide (c ≤ c)) (iteB q25 (iteB q26 (q27 ∧ q28 ∧ q29 ∧ q30 ∧ iteB q31 (iteB q32 (iteB q33 (iteB q34 (iteB q17 (RowsEq 0 ((1, 1) :: q35) c q36 q36 ∧ Z2) False) False) False) False) False) False) False) False) False) False)) (by kernel_rfl) ?_
  conv => zeta
  try simp only [need_eq]
  try simp only [nope_eq]
  try simp only [iteD_eq]
  try simp only [iteT_eq]
  try simp only [iteF_eq]
  try simp only [iteE_eq]
  try simp only [Int.toNat_natCast, Nat.zero_add, true_and, and_true, Nat.le_refl]
  refine ⟨fun hc => ?_, fun hc => ⟨mRows_eq fun _ _ => rfl, hZ2 (by omega)⟩⟩
  have hlt : i < n := by omega
  have h1 := h1 hlt
  have hwr : IntKind.i64.wrap ((i : Int) + 1) = ((i + 1 : Nat) : Int) := by rw [w64 (by omega)]; omega
  have hx : (L.getD i made0).Okb := hok _ (by rw [List.getD_eq_getElem?_getD, List.getElem?_eq_getElem (show i < L.length by omega)]; exact List.getElem_mem _)
  generalize L.getD i made0 = x at *
  unfold puStep at h1
  refine ⟨fun hD => ?_, fun hD => ?_⟩
  · have hD : D = false := by simpa using hD
    refine ⟨by omega, m, x, rfl, rfl, ⟨hm, hx⟩, fun hlt => ?_, fun hlt => ?_⟩
    · rw [hD, hlt] at h1
      simp only [Bool.not_false, Bool.and_self, Prod.mk.injEq] at h1
      obtain ⟨h1, h2⟩ := h1
      subst h1 h2
      have hl : c1 = c + 1 + 1 := by rw [hc1]; simp [hO]
      subst hl
      refine ⟨by omega, by omega, by omega, hwr, rfl, rfl, Nat.le_refl _, rfl, mRows_eq fun j hj => ?_, hZ1 (by omega)⟩
      exact rows_snoc (by simp [hO]) (fun k hk => rows_snoc hO (fun _ _ => rfl) hk) hj
    · rw [hD, hlt] at h1
      simp only [Bool.not_false, Bool.and_false, Prod.mk.injEq] at h1
      obtain ⟨h1, h2⟩ := h1
      subst h1 h2
      have hl : c1 = c + 1 := by rw [hc1]; simp [hO]
      subst hl
      exact ⟨by omega, by omega, hwr, hD, rfl, Nat.le_refl _, rfl, mRows_eq fun j hj => rows_snoc hO (fun _ _ => rfl) hj, hZ1 (by omega)⟩
  · have hD : D = true := by simpa using hD
    rw [hD] at h1
    simp only [Bool.not_true, Bool.false_and, Prod.mk.injEq] at h1
    obtain ⟨h1, h2⟩ := h1
    subst h1 h2
    have hl : c1 = c + 1 := by rw [hc1]; simp [hO]
    subst hl
    exact ⟨by omega, by omega, hwr, hD, rfl, Nat.le_refl _, rfl, mRows_eq fun j hj => rows_snoc hO (fun _ _ => rfl) hj, hZ1 (by omega)⟩
structure PuOk (n : Nat) (L : List MadeS) (m : MadeS) : Prop where
  hn : n < 1000
  hl : L.length = n
  hm : m.Okb
  ok : ∀ x ∈ L, x.Okb
noncomputable def E84b (n : Nat) (L : List MadeS) (m : MadeS) : Env2 := E84.withL 60 0 (goM 0 (puS n L m 0 0 false []) (PuOk n L m) (endsJ 0 n 9 (fun i => i < n) (fun i => i = n) (fun _ => False) (fun _ => False) (fun i => puE m (puN m L i).1.length (puN m L i).2 (puN m L i).1) (fun i => puE m (puN m L i).1.length (puN m L i).2 (puN m L i).1) (fun i => puE m (puN m L i).1.length (puN m L i).2 (puN m L i).1)))
theorem E84b_ok (n : Nat) (L : List MadeS) (m : MadeS) : (E84b n L m).Ok :=
  Env2.withGoM (N := 20) (S := fun i => puS n L m i (puN m L i).1.length (puN m L i).2 (puN m L i).1) E84_ok (by kernel_rfl) fun hC => ⟨rfl, fun i hi _ => by
    obtain ⟨h1, h2, h3, h4⟩ := hC
    exact pu_1 n i _ _ L _ _ m _ _ (i < n ∧ i < n) (i = n) h1 h2 hi rfl (puN_len m L i (by omega)).1 h3 h4 (fun hlt => by rw [puN_succ m L (by omega)]) rfl (fun h => ⟨h, h⟩) (fun h => h)⟩
set_option maxRecDepth 100000 in
set_option maxHeartbeats 0 in
theorem pu_f (n : Nat) (L L1 : List MadeS) (m : MadeS) (h : PuOk n L m) (hL1 : L1 = insL ltM m L) :
    evF (E84b n L m) 20 60 [.vrows 134 n (mRows L) n, .agg m.c] ⟨0, []⟩ (outM 0 (.ret (.nslice ⟨0, 0, 134, 0, 0⟩ 134 (n + 1) (n + 1))) 1 [(0, .rows 134 (n + 1) (mRows L1))]) := by
  refine @Eq.mpr _ (let q1 := decide (n = n);
 let q2 := m.o;
 let q3 := q2.kind;
 let q4 := q2.amount;
 let q5 := q2.owner;
 let q6 := q2.other;
 let q7 := q2.point;
 let q8 := q2.hash;
 let q9 := q2.delay;
 let q10 := q2.expiry;
 let q11 := m.id;
 let q12 := m.what;
 let q13 := n + 1;
 iteB q1
 (mRows L = mRows L ∧
 iteB q1
 (iteB (decide (q3 = q3))
 (iteB (decide (q4 = q4))
 (q5 = q5 ∧
 q6 = q6 ∧
 q7 = q7 ∧
 q8 = q8 ∧
 iteB (decide (q9 = q9))
 (iteB (decide (q10 = q10))
 (iteB (decide (q11 = q11))
 (iteB (decide (q12 = q12))
 (PuOk n L m ∧
 ∀ (i : Nat),
 let q27 := (puN m L i).fst;
 let q28 := List.length q27;
 let q29 := q28 + 1;
 let q30 := decide (q29 = q13);
 let q31 := mRows q27;
 let q32 := decide (q28 = q13);
 i ≤ n → (∀ (j : Nat), j < i → (fun (i : Nat) => i < n) j) → (i = n → iteB (!(puN m L i).snd) (iteB (decide (q28 = q28)) (iteB (decide (q29 * 176 ≤ 140737488355328)) (iteB q30 (iteB (decide (q13 ≤ q29)) (iteB q30 (RowsEq 0 [(0, 3)] q13 (mRows L1) (catF q28 q31 (rowC [AV.int IntKind.i64 q3, AV.int IntKind.i64 q4, AV.arr IntKind.u8 32 q5, AV.arr IntKind.u8 32 q6, AV.arr IntKind.u8 32 q7, AV.arr IntKind.u8 32 q8, AV.int IntKind.i64 q9, AV.int IntKind.i64 q10, AV.int IntKind.i64 q11, AV.int IntKind.i64 q12] 0 134)) ∧ True) False) False) False) False) False) (iteB q32 (iteB (decide (q13 ≤ q28)) (iteB q32 (RowsEq 0 [(0, 1)] q13 (mRows L1) q31 ∧ True) False) False) False)) ∧ (False → False) ∧ (False → False))
 False)
 False)
 False)
 False)
 False)
 False)
 False)
 False) (by kernel_rfl) ?_
  conv => zeta
  try simp only [need_eq]
  try simp only [nope_eq]
  try simp only [iteD_eq]
  try simp only [iteT_eq]
  try simp only [iteF_eq]
  try simp only [iteE_eq]
  try simp only [Int.toNat_natCast, Nat.zero_add, true_and, and_true, Nat.le_refl]
  refine ⟨h, fun i hi _ => ⟨fun he => ?_, fun h => h.elim, fun h => h.elim⟩⟩
  subst he
  have hfin := puN_fin m L
  obtain ⟨g1, g2⟩ := puN_len m L i (by rw [h.hl]; exact Nat.le_refl _)
  rw [h.hl] at hfin
  have hn := h.hn
  have hl1 : L1.length = i + 1 := by rw [hL1, insL_len, h.hl]
  unfold puFin at hfin
  refine ⟨fun hD => ?_, fun hD => ?_⟩
  · have hD : (puN m L i).2 = false := by simpa using hD
    rw [hD] at hfin
    simp only at hfin
    have hl := g2 hD
    exact ⟨by omega, by omega, by omega, by omega, mRows_eq fun j hj => by rw [hL1, ← hfin]; exact rows_snoc rfl (fun _ _ => rfl) (by omega)⟩
  · have hD : (puN m L i).2 = true := by simpa using hD
    rw [hD] at hfin
    simp only at hfin
    rw [hfin]
    rw [hL1] at hl1
    exact ⟨by omega, by omega, by omega, mRows_eq fun j hj => by rw [hL1]⟩
set_option maxRecDepth 100000 in
set_option maxHeartbeats 0 in
theorem pu_n (m : MadeS) (L1 : List MadeS) (hL : L1 = [m]) :
    evF G0 20 60 [.nilslice, .agg m.c] ⟨0, []⟩ (outM 0 (.ret (.nslice ⟨0, 0, 134, 0, 0⟩ 134 1 1)) 1 [(0, .rows 134 1 (mRows L1))]) := by
  refine @Eq.mpr _ (let q1 := m.o;
 RowsEq 0 [(0, 2)] 1 (mRows L1) (catF 0 (fun (x : Nat) => []) (rowC [AV.int IntKind.i64 q1.kind, AV.int IntKind.i64 q1.amount, AV.arr IntKind.u8 32 q1.owner, AV.arr IntKind.u8 32 q1.other, AV.arr IntKind.u8 32 q1.point, AV.arr IntKind.u8 32 q1.hash, AV.int IntKind.i64 q1.delay, AV.int IntKind.i64 q1.expiry, AV.int IntKind.i64 m.id, AV.int IntKind.i64 m.what] 0 134)) ∧ True) (by kernel_rfl) ?_
  conv => zeta
  try simp only [need_eq]
  try simp only [nope_eq]
  try simp only [iteD_eq]
  try simp only [iteT_eq]
  try simp only [iteF_eq]
  try simp only [iteE_eq]
  try simp only [Int.toNat_natCast, Nat.zero_add, true_and, and_true, Nat.le_refl]
  refine mRows_eq fun i hi => ?_
  subst hL
  have e : i = 0 := by omega
  subst e
  rfl
def puF : FSumm := fun args h K => viewL none h true 20 args fun a => match a with
  | [.nilslice, .agg cm] => ∃ m, cm = MadeS.c m ∧ K (.ret (.nslice ⟨h.next, 0, 134, 0, 0⟩ 134 1 1)) ⟨h.next + 1, (h.next, .rows 134 1 (mRows (insL ltM m []))) :: h.bs⟩
  | [.vrows 134 n f n', .agg cm] => ∃ L m, n' = n ∧ f = mRows L ∧ cm = MadeS.c m ∧ PuOk n L m ∧ K (.ret (.nslice ⟨h.next, 0, 134, 0, 0⟩ 134 (n + 1) (n + 1))) ⟨h.next + 1, (h.next, .rows 134 (n + 1) (mRows (insL ltM m L))) :: h.bs⟩
  | _ => False
theorem puF_ok (args : List AV) (h : Heap) (K : KO) (hl : puF args h K) : CallsA PP 60 args h K := by
  refine Pure.fsumm (d := 20) (viewL_weak _ _ _ _ _ hl fun a ha => ?_)
  split at ha
  · obtain ⟨m, rfl, hK⟩ := ha
    exact ⟨_, _, _, _, .evM G0_ok (pu_n m _ rfl), rfl, ⟨Nat.one_pos, .rows _ _ _ (fun i _ => mRows_plain _ i), trivial⟩, hK⟩
  · obtain ⟨L, m, rfl, rfl, rfl, hp, hK⟩ := ha
    exact ⟨_, _, _, _, .evM (E84b_ok _ L m) (pu_f _ L _ m hp rfl), rfl, ⟨Nat.one_pos, .rows _ _ _ (fun i _ => mRows_plain _ i), trivial⟩, hK⟩
  · exact ha.elim
end Go.Tk
end
section
namespace Go.Tk
def inOf (t : TermS) : InS := ⟨t.fund, t.index, 1, zero32, zero32, zero32⟩
def mOuts (L : List MadeS) : Nat → OutS := fun i => (L.getD i made0).o
def txZ : List AV := [.int .i64 0, .nilslice, .nilslice]
def mxH (t : TermS) (num : Int) (L : List MadeS) (i : Nat) : Heap := ⟨4, [(0, .flat txZ), (1, .flat (InS.c (inOf t))), (2, .flat [.int .i64 num, .nslice ⟨1, 0, 0, 0, 0⟩ 130 1 1, .nslice ⟨3, 0, 132, 0, 0⟩ 132 i i]), (3, .rows 132 i (outRows (mOuts L)))]⟩
def mxS (t : TermS) (num : Int) (L : List MadeS) (n i : Nat) : St := ⟨40, [(27, .int .i64 i), (26, .int .i64 n), (25, .vrows 134 n (mRows L) n), (8, .ptr (some ⟨2, 0, 0, 0, 0⟩)), (6, .ptr (some ⟨0, 0, 0, 0, 0⟩))], mxH t num L i, []⟩
def mxE (t : TermS) (num : Int) (L : List MadeS) (i : Nat) : St := ⟨40, [(8, .ptr (some ⟨2, 0, 0, 0, 0⟩)), (6, .ptr (some ⟨0, 0, 0, 0, 0⟩))], mxH t num L i, []⟩
def mxrS (t : TermS) (num : Int) (L : List MadeS) (n i : Nat) : St := ⟨39, [(9, .int .i64 i), (2, .vrows 134 n (mRows L) n), (8, .ptr (some ⟨2, 0, 0, 0, 0⟩)), (6, .ptr (some ⟨0, 0, 0, 0, 0⟩))], mxH t num L i, []⟩
def mxrE (t : TermS) (num : Int) (L : List MadeS) (i : Nat) : St := ⟨39, [(8, .ptr (some ⟨2, 0, 0, 0, 0⟩)), (6, .ptr (some ⟨0, 0, 0, 0, 0⟩))], mxH t num L i, []⟩
theorem orows_snoc {L : List MadeS} {i j : Nat} (hj : j < i + 1) : catF i (outRows (mOuts L)) (rowC (OutS.c (L.getD i made0).o) 0 132) j = (mOuts L j).c := by
  rcases Nat.lt_or_ge j i with h | h
  · rw [catF_lt h]; rfl
  · have e : j = i := by omega
    subst e
    rw [catF_ge (Nat.le_refl _), Nat.sub_self]
    rfl
set_option maxRecDepth 100000 in
set_option maxHeartbeats 0 in
theorem mx_1 (t : TermS) (num : Int) (L : List MadeS) (n i : Nat) (Z1 Z2 : Prop) (hn : n < 1000) (hi : i ≤ n) (h1 : i < n → Z1) (h2 : i = n → Z2) :
    roundE G0 20 28 0 0 (mxS t num L n i) (rdM 0 0 9 (mxS t num L n (i + 1)) (mxE t num L i) (mxE t num L i) (mxE t num L i) Z1 Z2 False False) := by
  refine @Eq.mpr _ (let q1 := decide (i = i);
 let q2 := i + 1;
 let q3 := decide (n = n);
 let q4 := inOf t;
 let q5 := q4.name;
 let q6 := q5 = q5;
 let q7 := q4.index;
 let q8 := decide (q7 = q7);
 let q9 := q4.tag;
 let q10 := q9 = q9;
 let q11 := q4.also;
 let q12 := q11 = q11;
 let q13 := q4.secret;
 let q14 := q13 = q13;
 let q15 := decide (num = num);
 let q16 := decide (q2 = q2);
 let q17 := [(1, 1), (0, 0), (2, 2)];
 let q18 := outRows (mOuts L);
 let q19 := (List.getD L (Int.toNat (↑i : Int)) made0).o;
 iteB (decide ((↑i : Int) < (↑n : Int))) (iteB (decide (0 ≤ (↑i : Int) ∧ (↑i : Int) < (↑n : Int))) (iteB q1 (iteB (decide (q2 * 160 ≤ 140737488355328)) (iteB (decide (IntKind.wrap IntKind.i64 ((↑i : Int) + 1) = (↑q2 : Int))) (iteB (decide ((↑n : Int) = (↑n : Int))) (iteB q3 (mRows L = mRows L ∧ iteB q3 (q6 ∧ iteB q8 (q10 ∧ q12 ∧ q14 ∧ iteB q15 (iteB q16 (iteB (decide (q2 ≤ q2)) (iteB q16 (RowsEq 0 ((3, 6) :: q17) q2 q18 (catF i q18 (rowC [AV.int IntKind.i64 q19.kind, AV.int IntKind.i64 q19.amount, AV.arr IntKind.u8 32 q19.owner, AV.arr IntKind.u8 32 q19.other, AV.arr IntKind.u8 32 q19.point, AV.arr IntKind.u8 32 q19.hash, AV.int IntKind.i64 q19.delay, AV.int IntKind.i64 q19.expiry] 0 132)) ∧ Z1) False) False) False) False) False) False) False) False) False) False) False) False) (q6 ∧ iteB q8 (q10 ∧ q12 ∧ q14 ∧ iteB q15 (iteB q1 (iteB (decide (i ≤ i)) (iteB q1 (RowsEq 0 ((3, 3) :: q17) i q18 q18 ∧ Z2) False) False) False) False) False)) (by kernel_rfl) ?_
  conv => zeta
  try simp only [need_eq]
  try simp only [nope_eq]
  try simp only [iteD_eq]
  try simp only [iteT_eq]
  try simp only [iteF_eq]
  try simp only [iteE_eq]
  try simp only [Int.toNat_natCast, Nat.zero_add, true_and, and_true, Nat.le_refl]
  refine ⟨fun hc => ?_, fun hc => ⟨outRowsEq fun _ _ => rfl, h2 (by omega)⟩⟩
  exact ⟨by omega, by omega, by rw [w64 (by omega)]; omega, outRowsEq fun j hj => orows_snoc hj, h1 (by omega)⟩
set_option maxRecDepth 100000 in
set_option maxHeartbeats 0 in
theorem mxr_1 (t : TermS) (num : Int) (L : List MadeS) (n i : Nat) (Z1 Z2 : Prop) (hn : n < 1000) (hi : i ≤ n) (h1 : i < n → Z1) (h2 : i = n → Z2) :
    roundE G0 20 30 0 0 (mxrS t num L n i) (rdM 0 0 9 (mxrS t num L n (i + 1)) (mxrE t num L i) (mxrE t num L i) (mxrE t num L i) Z1 Z2 False False) := by
  refine @Eq.mpr _ (let q1 := decide (i = i);
 let q2 := i + 1;
 let q3 := decide (n = n);
 let q4 := inOf t;
 let q5 := q4.name;
 let q6 := q5 = q5;
 let q7 := q4.index;
 let q8 := decide (q7 = q7);
 let q9 := q4.tag;
 let q10 := q9 = q9;
 let q11 := q4.also;
 let q12 := q11 = q11;
 let q13 := q4.secret;
 let q14 := q13 = q13;
 let q15 := decide (num = num);
 let q16 := decide (q2 = q2);
 let q17 := [(1, 1), (0, 0), (2, 2)];
 let q18 := outRows (mOuts L);
 let q19 := (List.getD L (Int.toNat (↑i : Int)) made0).o;
 iteB (decide ((↑i : Int) < (↑n : Int))) (iteB (decide (0 ≤ (↑i : Int) ∧ (↑i : Int) < (↑n : Int))) (iteB q1 (iteB q1 (iteB q1 (iteB (decide (q2 * 160 ≤ 140737488355328)) (iteB (decide (IntKind.wrap IntKind.i64 ((↑i : Int) + 1) = (↑q2 : Int))) (iteB q3 (mRows L = mRows L ∧ iteB q3 (q6 ∧ iteB q8 (q10 ∧ q12 ∧ q14 ∧ iteB q15 (iteB q16 (iteB (decide (q2 ≤ q2)) (iteB q16 (RowsEq 0 ((3, 5) :: q17) q2 q18 (catF i q18 (rowC [AV.int IntKind.i64 q19.kind, AV.int IntKind.i64 q19.amount, AV.arr IntKind.u8 32 q19.owner, AV.arr IntKind.u8 32 q19.other, AV.arr IntKind.u8 32 q19.point, AV.arr IntKind.u8 32 q19.hash, AV.int IntKind.i64 q19.delay, AV.int IntKind.i64 q19.expiry] 0 132)) ∧ Z1) False) False) False) False) False) False) False) False) False) False) False) False) False) (q6 ∧ iteB q8 (q10 ∧ q12 ∧ q14 ∧ iteB q15 (iteB q1 (iteB (decide (i ≤ i)) (iteB q1 (RowsEq 0 ((3, 3) :: q17) i q18 q18 ∧ Z2) False) False) False) False) False)) (by kernel_rfl) ?_
  conv => zeta
  try simp only [need_eq]
  try simp only [nope_eq]
  try simp only [iteD_eq]
  try simp only [iteT_eq]
  try simp only [iteF_eq]
  try simp only [iteE_eq]
  try simp only [Int.toNat_natCast, Nat.zero_add, true_and, and_true, Nat.le_refl]
  refine ⟨fun hc => ?_, fun hc => ⟨outRowsEq fun _ _ => rfl, h2 (by omega)⟩⟩
  exact ⟨by omega, by omega, by rw [w64 (by omega)]; omega, outRowsEq fun j hj => orows_snoc hj, h1 (by omega)⟩
noncomputable def E85 (t : TermS) (num : Int) (L : List MadeS) (n : Nat) : Env2 := G0.withL 28 0 (goM 0 (mxS t num L n 0) (n < 1000) (endsJ 0 n 9 (fun i => i < n) (fun i => i = n) (fun _ => False) (fun _ => False) (fun i => mxE t num L i) (fun i => mxE t num L i) (fun i => mxE t num L i)))
theorem E85_ok (t : TermS) (num : Int) (L : List MadeS) (n : Nat) : (E85 t num L n).Ok :=
  Env2.withGoM (N := 20) (S := fun i => mxS t num L n i) G0_ok (by kernel_rfl) fun hC => ⟨rfl, fun i hi _ => mx_1 t num L n i _ _ hC hi (fun h => ⟨h, h⟩) (fun h => h)⟩
noncomputable def E85r (t : TermS) (num : Int) (L : List MadeS) (n : Nat) : Env2 := G0.withL 30 0 (goM 0 (mxrS t num L n 0) (n < 1000) (endsJ 0 n 9 (fun i => i < n) (fun i => i = n) (fun _ => False) (fun _ => False) (fun i => mxrE t num L i) (fun i => mxrE t num L i) (fun i => mxrE t num L i)))
theorem E85r_ok (t : TermS) (num : Int) (L : List MadeS) (n : Nat) : (E85r t num L n).Ok :=
  Env2.withGoM (N := 20) (S := fun i => mxrS t num L n i) G0_ok (by kernel_rfl) fun hC => ⟨rfl, fun i hi _ => mxr_1 t num L n i _ _ hC hi (fun h => ⟨h, h⟩) (fun h => h)⟩
set_option maxRecDepth 100000 in
set_option maxHeartbeats 0 in
theorem mx_f (t : TermS) (num : Int) (L : List MadeS) (n : Nat) (hn : n < 1000) (h0 : n ≠ 0) :
    evF (E85 t num L n) 20 28 [.agg t.c, .int .i64 num, .vrows 134 n (mRows L) n] ⟨0, []⟩ (outM 0 (.ret (.tuple [.agg [.int .i64 num, .nslice ⟨0, 0, 0, 0, 0⟩ 130 1 1, .nslice ⟨1, 0, 132, 0, 0⟩ 132 n n], .int .i64 0])) 2 [(0, .flat (InS.c (inOf t))), (1, .rows 132 n (outRows (mOuts L)))]) := by
  refine @Eq.mpr _ (let q1 := decide (n = n);
 let q2 := inOf t;
 let q3 := q2.name;
 let q4 := q2.index;
 let q5 := q2.tag;
 let q6 := q2.also;
 let q7 := q2.secret;
 let q8 := decide (num = num);
 let q9 := outRows (mOuts L);
 iteB ((↑n : Int) == 0) (iteB (decide (0 = num)) False False)
 (iteB (decide ((↑n : Int) = (↑n : Int)))
 (iteB q1
 (mRows L = mRows L ∧
 iteB q1
 (t.fund = q3 ∧
 iteB (decide (t.index = q4))
 (zero32 = q5 ∧
 zero32 = q6 ∧
 zero32 = q7 ∧
 iteB q8
 (n < 1000 ∧
 ∀ (i : Nat),
 let q19 := decide (i = n);
 i ≤ n → (∀ (j : Nat), j < i → (fun (i : Nat) => i < n) j) → (i = n → iteB q8 (iteB q19 (iteB (decide (n ≤ i)) (q3 = q3 ∧ iteB (decide (q4 = q4)) (q5 = q5 ∧ q6 = q6 ∧ q7 = q7 ∧ iteB q19 (RowsEq 0 [(1, 3), (0, 1)] n q9 q9 ∧ True) False) False) False) False) False) ∧ (False → False) ∧ (False → False))
 False)
 False)
 False)
 False)
 False)) (by kernel_rfl) ?_
  conv => zeta
  try simp only [need_eq]
  try simp only [nope_eq]
  try simp only [iteD_eq]
  try simp only [iteT_eq]
  try simp only [iteF_eq]
  try simp only [iteE_eq]
  try simp only [Int.toNat_natCast, Nat.zero_add, true_and, and_true, Nat.le_refl]
  refine ⟨fun h => ?_, fun _ => ⟨rfl, rfl, rfl, rfl, rfl, hn, fun i hi _ => ⟨fun he => ?_, fun h => h.elim, fun h => h.elim⟩⟩⟩
  · have : (n : Int) = 0 := by simpa using h
    omega
  · subst he
    exact ⟨rfl, Nat.le_refl _, rfl, outRowsEq fun _ _ => rfl⟩
set_option maxRecDepth 100000 in
set_option maxHeartbeats 0 in
theorem mxr_f (t : TermS) (num : Int) (L : List MadeS) (n : Nat) (hn : n < 1000) (h0 : n ≠ 0) :
    evF (E85r t num L n) 20 30 [.agg t.c, .int .i64 num, .vrows 134 n (mRows L) n] ⟨0, []⟩ (outM 0 (.ret (.tuple [.agg [.int .i64 num, .nslice ⟨0, 0, 0, 0, 0⟩ 130 1 1, .nslice ⟨1, 0, 132, 0, 0⟩ 132 n n], .int .i64 0])) 2 [(0, .flat (InS.c (inOf t))), (1, .rows 132 n (outRows (mOuts L)))]) := by
  refine @Eq.mpr _ (let q1 := decide (n = n);
 let q2 := inOf t;
 let q3 := q2.name;
 let q4 := q2.index;
 let q5 := q2.tag;
 let q6 := q2.also;
 let q7 := q2.secret;
 let q8 := decide (num = num);
 let q9 := outRows (mOuts L);
 iteB ((↑n : Int) == 0) (iteB (decide (0 = num)) False False)
 (iteB q1
 (mRows L = mRows L ∧
 iteB q1
 (t.fund = q3 ∧
 iteB (decide (t.index = q4))
 (zero32 = q5 ∧
 zero32 = q6 ∧
 zero32 = q7 ∧
 iteB q8
 (n < 1000 ∧
 ∀ (i : Nat),
 let q19 := decide (i = n);
 i ≤ n → (∀ (j : Nat), j < i → (fun (i : Nat) => i < n) j) → (i = n → iteB q8 (iteB q19 (iteB (decide (n ≤ i)) (q3 = q3 ∧ iteB (decide (q4 = q4)) (q5 = q5 ∧ q6 = q6 ∧ q7 = q7 ∧ iteB q19 (RowsEq 0 [(1, 3), (0, 1)] n q9 q9 ∧ True) False) False) False) False) False) ∧ (False → False) ∧ (False → False))
 False)
 False)
 False)
 False)) (by kernel_rfl) ?_
  conv => zeta
  try simp only [need_eq]
  try simp only [nope_eq]
  try simp only [iteD_eq]
  try simp only [iteT_eq]
  try simp only [iteF_eq]
  try simp only [iteE_eq]
  try simp only [Int.toNat_natCast, Nat.zero_add, true_and, and_true, Nat.le_refl]
  refine ⟨fun h => ?_, fun _ => ⟨rfl, rfl, rfl, rfl, rfl, hn, fun i hi _ => ⟨fun he => ?_, fun h => h.elim, fun h => h.elim⟩⟩⟩
  · have : (n : Int) = 0 := by simpa using h
    omega
  · subst he
    exact ⟨rfl, Nat.le_refl _, rfl, outRowsEq fun _ _ => rfl⟩
end Go.Tk
end
section
namespace Go.Tk
theorem sortM_len {l : List MadeS} : (sortM l).length = l.length := by unfold sortM; rw [sortL_len]; simp
theorem one_row (x : MadeS) (i : Nat) (hi : i < 1) : catF 0 (fun _ => []) (rowC (MadeS.c x) 0 134) i = mRows [x] i := rows_snoc (O := []) rfl (fun k hk => absurd hk (Nat.not_lt_zero k)) hi
theorem two_rows (x y : MadeS) (i : Nat) (hi : i < 2) : catF 1 (catF 0 (fun _ => []) (rowC (MadeS.c x) 0 134)) (rowC (MadeS.c y) 0 134) i = mRows [x, y] i := rows_snoc (O := [x]) rfl (fun k hk => one_row x k hk) hi
theorem ite_ne {c : Bool} : (((if c = true then (0 : Int) else 2) != 0) = true ↔ c = false) ∧ (((if c = true then (0 : Int) else 2) != 0) = false ↔ c = true) := by cases c <;> simp
theorem bytes_zero : Bytes zero32 := ⟨fun i => by
  have h : zero32 = List.replicate 32 0 := rfl
  rw [h, List.getD_eq_getElem?_getD, List.getElem?_replicate]
  split <;> simp⟩
end Go.Tk
end
section
namespace Go.Tk
theorem sameT_refl (t : TxS) : sameT t t = true := by
  unfold sameT eqiL eqoL
  simp [eqIn, eqOut]
def tx0 : TxS := ⟨0, 0, fun _ => inZ, 0, fun _ => outZ⟩
theorem tx0_ok : tx0.Ok := ⟨by decide, by decide, fun i hi => absurd hi (Nat.not_lt_zero i), fun i hi => absurd hi (Nat.not_lt_zero i)⟩
def txM (t : TermS) (num : Int) (L : List MadeS) : TxS := ⟨num, 1, fun _ => inOf t, L.length, mOuts L⟩
theorem txM_ok {t : TermS} {num : Int} {L : List MadeS} (hf : t.fund.length = 32) (hl : L.length < 1000) (hok : ∀ m ∈ L, m.Ok) : (txM t num L).Ok :=
  ⟨by show 1 < _; decide, by show L.length < _; omega, fun _ _ => ⟨hf, rfl, rfl, rfl⟩, fun i hi => by
    have := made_at hok (show i < L.length from hi)
    exact ⟨this.owner, this.other, this.point, this.hash⟩⟩
end Go.Tk
end
section
namespace Go.Tk
structure PendS where
  frm : Int
  id : Int
  amount : Int
  hash : List Int
  expiry : Int
def PendS.c (p : PendS) : List AV := [.int .i64 p.frm, .int .i64 p.id, .int .i64 p.amount, .arr .u8 32 p.hash, .int .i64 p.expiry]
def pRows (g : Nat → PendS) : Nat → List AV := fun i => (g i).c
structure PendS.Ok (p : PendS) : Prop where
  hash : p.hash.length = 32
  hb : Bytes p.hash
def pendB (p : PendS) : Bool := decide (0 ≤ p.frm ∧ p.frm ≤ 1) && decide (0 ≤ p.id ∧ p.id ≤ 2147483647) && decide (1 ≤ p.amount ∧ p.amount ≤ 1125899906842624) && decide (1 ≤ p.expiry ∧ p.expiry ≤ 2147483647)
set_option maxRecDepth 100000 in
set_option maxHeartbeats 0 in
theorem pe_1 (p : PendS) (b : Bool) (hb : b = pendB p) :
    evF E71 20 39 [.agg p.c] ⟨0, []⟩ (outV (fun v => v = .bool b)) := by
  refine @Eq.mpr _ (let q1 := p.expiry;
 let q2 := decide (q1 = q1);
 let q3 := p.amount;
 let q4 := decide (q3 = q3);
 let q5 := p.id;
 let q6 := decide (q5 = q5);
 let q7 := AV.bool false = AV.bool b;
 iteB (decide (0 ≤ p.frm)) (iteB q2 (iteB q4 (iteB q6 (iteB (false == decide (p.frm ≤ 1)) q7 (iteB (false == decide (0 ≤ q5 ∧ q5 ≤ 2147483647)) q7 (iteB (false == decide (1 ≤ q3 ∧ q3 ≤ 1125899906842624)) q7 (iteB (false == decide (1 ≤ q1 ∧ q1 ≤ 2147483647)) q7 (AV.bool true = AV.bool b))))) False) False) False) (iteB q2 (iteB q4 (iteB q6 q7 False) False) False)) (by kernel_rfl) ?_
  conv => zeta
  subst hb
  have h3 : (p.frm ≤ 1) = (p.frm ≤ 1) := rfl
  unfold pendB
  rw [Bool.decide_and (0 ≤ p.frm)]
  generalize decide (0 ≤ p.frm) = c1
  generalize decide (p.frm ≤ 1) = c2
  generalize decide (0 ≤ p.id ∧ p.id ≤ 2147483647) = c3
  generalize decide (1 ≤ p.amount ∧ p.amount ≤ 1125899906842624) = c4
  generalize decide (1 ≤ p.expiry ∧ p.expiry ≤ 2147483647) = c5
  rw [decide_eq_true (rfl : p.expiry = p.expiry), decide_eq_true (rfl : p.amount = p.amount), decide_eq_true (rfl : p.id = p.id)]
  cases c1 <;> cases c2 <;> cases c3 <;> cases c4 <;> cases c5 <;> rfl
set_option maxRecDepth 100000 in
set_option maxHeartbeats 0 in
theorem per_1 (p : PendS) (b : Bool) (hb : b = pendB p) :
    evF G0 20 34 [.agg p.c] ⟨0, []⟩ (outV (fun v => v = .bool b)) := by
  refine @Eq.mpr _ (let q1 := p.amount;
 let q2 := AV.bool false = AV.bool b;
 let q3 := iteB (decide (p.id ≥ 0)) (iteB (decide (p.id ≤ 2147483647)) (iteB (decide (q1 > 0)) (iteB (decide (q1 ≥ 0)) (iteB (decide (q1 ≤ 1125899906842624)) (iteB (decide (p.expiry ≥ 1)) (AV.bool (decide (p.expiry ≤ 2147483647)) = AV.bool b) q2) q2) q2) q2) q2) q2;
 iteB (p.frm == 0) q3 (iteB (p.frm == 1) q3 q2)) (by kernel_rfl) ?_
  conv => zeta
  subst hb
  simp only [iteB_eq2, AV.bool.injEq]
  unfold pendB
  refine ⟨fun k1 => ?_, fun k1 => ⟨fun k2 => ?_, fun k2 => ?_⟩⟩
  all_goals
    simp only [beq_iff_eq, beq_eq_false_iff_ne, ne_eq] at k1
  · refine ⟨fun k3 => ⟨fun k4 => ⟨fun k5 => ⟨fun k6 => ⟨fun k7 => ⟨fun k8 => ?_, fun k8 => ?_⟩, fun k7 => ?_⟩, fun k6 => ?_⟩, fun k5 => ?_⟩, fun k4 => ?_⟩, fun k3 => ?_⟩
    all_goals
      rw [Bool.eq_iff_iff]
      simp only [decide_eq_true_eq, decide_eq_false_iff_not, Bool.and_eq_true, Bool.false_eq_true] at *
      first | omega | exact ⟨fun h => h.elim, fun h => by omega⟩
  · simp only [beq_iff_eq] at k2
    refine ⟨fun k3 => ⟨fun k4 => ⟨fun k5 => ⟨fun k6 => ⟨fun k7 => ⟨fun k8 => ?_, fun k8 => ?_⟩, fun k7 => ?_⟩, fun k6 => ?_⟩, fun k5 => ?_⟩, fun k4 => ?_⟩, fun k3 => ?_⟩
    all_goals
      rw [Bool.eq_iff_iff]
      simp only [decide_eq_true_eq, decide_eq_false_iff_not, Bool.and_eq_true, Bool.false_eq_true] at *
      first | omega | exact ⟨fun h => h.elim, fun h => by omega⟩
  · simp only [beq_eq_false_iff_ne, ne_eq] at k2
    rw [Bool.eq_iff_iff]
    simp only [decide_eq_true_eq, Bool.and_eq_true, Bool.false_eq_true]
    constructor
    · intro h; exact h.elim
    · intro h; omega
def pendS : PSumm := fun args _ K => match args with
  | [.agg [.int .i64 fr, .int .i64 id, .int .i64 am, .arr .u8 32 ha, .int .i64 ex]] => K (.bool (pendB ⟨fr, id, am, ha, ex⟩))
  | _ => False
def pKey (p : PendS) : AV := .agg [.arr .i64 2 [p.frm, p.id]]
def shX (a0 a1 : Int) (g : Nat → PendS) (i : Nat) : List Int := a0 :: a1 :: (List.range i).map fun j => (g j).amount
structure ShS where
  num : Int
  owner : Int
  point : List Int
  a0 : Int
  a1 : Int
  n : Nat
  g : Nat → PendS
def ShS.c (s : ShS) : List AV := [.int .i64 s.num, .int .i64 s.owner, .arr .u8 32 s.point, .arr .i64 2 [s.a0, s.a1], .vrows 36 s.n (pRows s.g) s.n]
def shvH (t : TermS) (X M : List Int) (i : Nat) (g : Nat → PendS) : Heap := ⟨4, [(0, .flat t.c), (1, .flat [.arr .i64 2 M]), (2, .fmap i (fun j => pKey (g j)) (fun _ => .bool true)), (3, .ints .i64 X)]⟩
def shvS (t : TermS) (n : Nat) (g : Nat → PendS) (X M : List Int) (i : Nat) : St := ⟨89, [(39, .int .i64 i), (38, .int .i64 n), (37, .vrows 36 n (pRows g) n), (8, .map (some 2)), (6, .ptr (some ⟨1, 0, 0, 0, 0⟩)), (5, .nslice ⟨3, 0, 0, 0, 0⟩ 1 X.length X.length), (2, .ptr (some ⟨0, 0, 0, 0, 0⟩))], shvH t X M i g, []⟩
def shvE (t : TermS) (X M : List Int) : St := ⟨89, [(6, .ptr (some ⟨1, 0, 0, 0, 0⟩)), (5, .nslice ⟨2, 0, 0, 0, 0⟩ 1 X.length X.length), (2, .ptr (some ⟨0, 0, 0, 0, 0⟩))], ⟨3, [(0, .flat t.c), (1, .flat [.arr .i64 2 M]), (2, .ints .i64 X)]⟩, []⟩
def shvJ : St := ⟨89, [], ⟨0, []⟩, []⟩
def pDup (g : Nat → PendS) (i : Nat) : Nat := firstN (fun j => eqKey (pKey (g i)) (pKey (g j))) i
theorem pendS_ok (args : List AV) (h : Heap) (K : AV → Prop) (hl : pendS args h K) : CallsA PP 39 args h fun o h' => ∃ v, o = .ret v ∧ h' = h ∧ K v := by
  unfold pendS at hl
  split at hl
  · exact outV_ev E71_ok rfl (pe_1 ⟨_, _, _, _, _⟩ _ rfl) (fun u hu => hu ▸ hl)
  · exact hl.elim
theorem pendR_ok (args : List AV) (h : Heap) (K : AV → Prop) (hl : pendS args h K) : CallsA PP 34 args h fun o h' => ∃ v, o = .ret v ∧ h' = h ∧ K v := by
  unfold pendS at hl
  split at hl
  · exact outV_ev G0_ok rfl (per_1 ⟨_, _, _, _, _⟩ _ rfl) (fun u hu => hu ▸ hl)
  · exact hl.elim
set_option maxRecDepth 100000 in
set_option maxHeartbeats 0 in
theorem key2 (a b c d : Int)  :
    KeyEq PP 27 (.agg [.arr .i64 2 [a, b]]) (.agg [.arr .i64 2 [c, d]]) := by
  refine @Eq.mpr _ (let q1 := [a, b];
 let q2 := [c, d];
 (q1 == q2) = eqKey (AV.agg [AV.arr IntKind.i64 2 q1]) (AV.agg [AV.arr IntKind.i64 2 q2])) (by kernel_rfl) ?_
  conv => zeta
  try simp only [need_eq]
  try simp only [nope_eq]
  try simp only [iteD_eq]
  try simp only [iteT_eq]
  try simp only [iteF_eq]
  try simp only [iteE_eq]
  try simp only [Int.toNat_natCast, Nat.zero_add, true_and, and_true, Nat.le_refl]
  simp [eqKey, eqCells, eqCell]
theorem keysAt2 (p : PendS) (g : Nat → PendS) (i : Nat) : KeysAt PP 27 (pKey p) i (fun j => pKey (g j)) := ⟨fun j _ => key2 _ _ _ _⟩
noncomputable def E91 : Env2 := G0.withP 39 pendS
theorem E91_ok : E91.Ok := Env2.withP_ok G0_ok pendS_ok
theorem pKey_eq {k : Nat} {τ : Ren} (p : PendS) {Z : Prop} (h : Z) : eqV k τ (pKey p) (pKey p) Z := by
  unfold pKey
  simp only [eqV, eqC]
  simp [h]
theorem maps_new {k : Nat} {τ : Ren} {i : Nat} {g : Nat → PendS} : MapsEq k τ (i + 1) (fun j => pKey (g j)) (fun _ => .bool true) (putF (fun j => pKey (g j)) i (pKey (g i))) (putF (fun _ => .bool true) i (.bool true)) := ⟨fun j hj => by
  unfold putF
  rcases Nat.lt_or_ge j i with h | h
  · rw [beq_false_of_ne (by omega)]
    exact ⟨pKey_eq _ trivial, by simp [eqV, need, iteB]⟩
  · have e : j = i := by omega
    subst e
    rw [Nat.beq_refl]
    exact ⟨pKey_eq _ trivial, by simp [eqV, need, iteB]⟩⟩
set_option maxRecDepth 100000 in
set_option maxHeartbeats 0 in
theorem shv_1 (t : TermS) (n i : Nat) (g : Nat → PendS) (X X1 M M1 : List Int) (Z1 Z2 Z3 : Prop) (hn : n < 1000) (hi : i ≤ n) (hX : X1 = X ++ [(g i).amount]) (hXl : X.length ≤ 1002) (hMl : M.length = 2) (hM1 : M1 = M.set (g i).frm.toNat (IntKind.i64.wrap (M.getD (g i).frm.toNat 0 + 1))) (h1 : i < n → pendB (g i) = true → pDup g i = i → Z1) (h2 : i = n → Z2) (h3 : i < n → (pendB (g i) = false ∨ pDup g i < i) → Z3) :
    roundE E91 20 15 0 0 (shvS t n g X M i) (rdM 0 0 0 (shvS t n g X1 M1 (i + 1)) (shvE t X M) shvJ shvJ Z1 Z2 False Z3) := by
  refine @Eq.mpr _ (let q1 := g (Int.toNat (↑i : Int));
 let q2 := q1.frm;
 let q3 := q1.id;
 let q4 := q1.amount;
 let q5 := AV.agg [AV.arr IntKind.i64 (2 : Nat) [q2, q3]];
 let q6 := KeysAt PP (27 : Nat) q5 i fun (j : Nat) => AV.agg [AV.arr IntKind.i64 (2 : Nat) [(g j).frm, (g j).id]];
 let q7 := firstN (fun (i : Nat) => eqKey q5 (AV.agg [AV.arr IntKind.i64 (2 : Nat) [(g i).frm, (g i).id]])) i;
 let q8 := Nat.blt q7 i;
 let q9 := decide ((0 : Int) ≤ q2 ∧ q2 < (2 : Int));
 let q10 := (0 : Nat) + Int.toNat q2;
 let q11 := decide (q10 < (2 : Nat));
 let q12 := decide (IntKind.i64 = IntKind.i64 ∧ q10 < (2 : Nat) ∧ q10 < List.length M);
 let q13 := List.length X;
 let q14 := decide (IntKind.i64 = IntKind.i64 ∧ q13 = q13);
 let q15 := X ++ [q4];
 let q16 := List.length q15;
 let q17 := i + (1 : Nat);
 let q18 := decide (IntKind.wrap IntKind.i64 ((↑i : Int) + (1 : Int)) = (↑q17 : Int));
 let q19 := decide ((↑n : Int) = (↑n : Int));
 let q20 := decide (n = n);
 let q21 := pRows g = pRows g;
 let q22 := t.fund = t.fund;
 let q23 := decide (t.index = t.index);
 let q24 := decide (t.cap = t.cap);
 let q25 := decide (t.dust = t.dust);
 let q26 := decide (t.fee = t.fee);
 let q27 := decide (t.delay = t.delay);
 let q28 := t.k0 = t.k0;
 let q29 := t.k1 = t.k1;
 let q30 := List.set M q10 (IntKind.wrap IntKind.i64 (List.getD M q10 (0 : Int) + (1 : Int))) = M1;
 let q31 := [((0 : Nat), (0 : Nat)), ((3 : Nat), (7 : Nat)), ((1 : Nat), (1 : Nat)), ((2 : Nat), (2 : Nat))];
 let q32 := AV.bool true;
 let q33 := q15 = X1 ∧ Z1;
 iteB (decide ((↑i : Int) < (↑n : Int)))
 (iteB (decide ((0 : Int) ≤ (↑i : Int) ∧ (↑i : Int) < (↑n : Int)))
 (iteB (!pendB (PendS.mk q2 q3 q4 q1.hash q1.expiry)) Z3
 (q6 ∧
 iteB q8 Z3
 (q6 ∧
 iteB q8 (iteB q9 (iteB q11 (iteB q9 (iteB q12 (iteB q14 (iteB (decide (q16 * (8 : Nat) ≤ (140737488355328 : Nat))) (iteB q18 (iteB q19 (iteB q20 (q21 ∧ iteB q20 (iteB (decide (q16 = List.length X1)) (iteB (decide (List.length X1 ≤ q16)) (q22 ∧ iteB q23 (iteB q24 (iteB q25 (iteB q26 (iteB q27 (q28 ∧ q29 ∧ q30 ∧ iteB (decide (i = q17)) (MapsEq (0 : Nat) q31 q17 (fun (j : Nat) => AV.agg [AV.arr IntKind.i64 (2 : Nat) [(g j).frm, (g j).id]]) (fun (x : Nat) => q32) (fun (j : Nat) => AV.agg [AV.arr IntKind.i64 (2 : Nat) [(g j).frm, (g j).id]]) (putF (fun (x : Nat) => q32) q7 q32) ∧ q33) False) False) False) False) False) False) False) False) False) False) False) False) False) False) False) False) False) False)
 (iteB q9 (iteB q11 (iteB q9 (iteB q12 (iteB q14 (iteB (decide (q16 * (8 : Nat) ≤ (140737488355328 : Nat))) (iteB q18 (iteB q19 (iteB q20 (q21 ∧ iteB q20 (iteB (decide (q16 = List.length X1)) (iteB (decide (List.length X1 ≤ q16)) (q22 ∧ iteB q23 (iteB q24 (iteB q25 (iteB q26 (iteB q27 (q28 ∧ q29 ∧ q30 ∧ iteB (decide (q17 = q17)) (MapsEq (0 : Nat) q31 q17 (fun (j : Nat) => AV.agg [AV.arr IntKind.i64 (2 : Nat) [(g j).frm, (g j).id]]) (fun (x : Nat) => q32) (putF (fun (j : Nat) => AV.agg [AV.arr IntKind.i64 (2 : Nat) [(g j).frm, (g j).id]]) i q5) (putF (fun (x : Nat) => q32) i q32) ∧ q33) False) False) False) False) False) False) False) False) False) False) False) False) False) False) False) False) False) False))))
 False)
 (iteB (decide (q13 = q13)) (iteB (decide (q13 ≤ q13)) (q22 ∧ iteB q23 (iteB q24 (iteB q25 (iteB q26 (iteB q27 (q28 ∧ q29 ∧ M = M ∧ X = X ∧ Z2) False) False) False) False) False) False) False)) (by kernel_rfl) ?_
  conv => zeta
  try simp only [need_eq]
  try simp only [nope_eq]
  try simp only [iteD_eq]
  try simp only [iteT_eq]
  try simp only [iteF_eq]
  try simp only [iteE_eq]
  try simp only [Int.toNat_natCast, Nat.zero_add, true_and, and_true, Nat.le_refl]
  refine ⟨fun hc => ?_, fun hc => h2 (by omega)⟩
  have hlt : i < n := by omega
  have e0 : (PendS.mk (g i).frm (g i).id (g i).amount (g i).hash (g i).expiry) = g i := rfl
  rw [e0]
  have hJ := firstN_cases (fun j => eqKey (pKey (g i)) (pKey (g j))) i
  refine ⟨by omega, fun hp => h3 hlt (.inl (by simpa using hp)), fun hp => ⟨keysAt2 _ _ _, fun hd => h3 hlt (.inr (of_blt hd)), fun hd => ⟨keysAt2 _ _ _, fun hd' => ?_, fun hd' => ?_⟩⟩⟩
  · have hd : Nat.blt (firstN (fun j => eqKey (pKey (g i)) (pKey (g j))) i) i = false := hd
    have hd' : Nat.blt (firstN (fun j => eqKey (pKey (g i)) (pKey (g j))) i) i = true := hd'
    rw [hd] at hd'; cases hd'
  · have hp : pendB (g i) = true := by simpa using hp
    have hf : 0 ≤ (g i).frm ∧ (g i).frm < 2 := by
      unfold pendB at hp
      simp only [Bool.and_eq_true, decide_eq_true_eq] at hp
      omega
    have hq : pDup g i = i := by
      rcases hJ with hJ | hJ
      · exact hJ.1
      · have hd2 : Nat.blt (firstN (fun j => eqKey (pKey (g i)) (pKey (g j))) i) i = false := hd
        rw [blt_of hJ.1] at hd2; cases hd2
    subst hX
    refine ⟨hf, by omega, hf, ⟨by omega, by omega⟩, by simp; omega, by rw [w64 (by omega)]; omega, rfl, Nat.le_refl _, hM1.symm, maps_new, rfl, h1 hlt hp hq⟩
def shM (g : Nat → PendS) : Nat → List Int
  | 0 => [0, 0]
  | i + 1 => (shM g i).set (g i).frm.toNat (IntKind.i64.wrap ((shM g i).getD (g i).frm.toNat 0 + 1))
theorem shM_len (g : Nat → PendS) : ∀ i, (shM g i).length = 2
  | 0 => rfl
  | i + 1 => by simp [shM, shM_len g i]
theorem shX_succ (a0 a1 : Int) (g : Nat → PendS) (i : Nat) : shX a0 a1 g (i + 1) = shX a0 a1 g i ++ [(g i).amount] := by simp [shX, List.range_succ]
theorem shX_len (a0 a1 : Int) (g : Nat → PendS) (i : Nat) : (shX a0 a1 g i).length = i + 2 := by simp [shX]
def shGo (g : Nat → PendS) (i : Nat) : Prop := pendB (g i) = true ∧ pDup g i = i
noncomputable def E91b (t : TermS) (n : Nat) (g : Nat → PendS) (a0 a1 : Int) (A : List Int → Int × Int) : Env2 := ((((E91.withP 35 termS).withP 37 inQ).withP 40 (addmS A))).withL 15 0 (goM 0 (shvS t n g (shX a0 a1 g 0) (shM g 0) 0) (n < 1000) (endsJ 0 n 0 (fun i => shGo g i ∧ i < n) (fun i => i = n) (fun _ => False) (fun i => i < n ∧ ¬ shGo g i) (fun i => shvE t (shX a0 a1 g i) (shM g i)) (fun _ => shvJ) (fun _ => shvJ)))
theorem E91b_ok (t : TermS) (n : Nat) (g : Nat → PendS) (a0 a1 : Int) : (E91b t n g a0 a1 addM).Ok := by
  have h0 : ((((E91.withP 35 termS).withP 37 inQ).withP 40 (addmS addM))).Ok := Env2.withP_ok (Env2.withP_ok (Env2.withP_ok E91_ok termS_ok) inQ_ok) addmS_ok
  refine Env2.withL_join (H := E91) h0 rfl ?_
  exact Env2.withGoM (N := 20) (S := fun i => shvS t n g (shX a0 a1 g i) (shM g i) i) E91_ok (by kernel_rfl) fun hC => ⟨rfl, fun i hi _ => shv_1 t n i g _ _ _ _ _ _ _ hC hi (shX_succ a0 a1 g i) (by rw [shX_len]; omega) (shM_len g i) rfl (fun a b c => ⟨⟨⟨b, c⟩, a⟩, a⟩) (fun h => h) (fun a b => ⟨a, fun hg => by
    rcases b with b | b
    · rw [hg.1] at b; cases b
    · have := hg.2; omega⟩)⟩
def shB (A : List Int → Int × Int) (t : TermS) (s : ShS) : Bool := termB t && decide (0 ≤ s.num ∧ s.num ≤ 2147483647) && decide (0 ≤ s.owner ∧ s.owner ≤ 1) && decide (t.fee ≤ s.a0) && (List.range s.n).all (fun i => pendB (s.g i) && Nat.beq (pDup s.g i) i) && decide ((shM s.g s.n).getD 0 0 ≤ 8) && decide ((shM s.g s.n).getD 1 0 ≤ 8) && decide ((A (shX s.a0 s.a1 s.g s.n)).2 = 0) && decide ((A (shX s.a0 s.a1 s.g s.n)).1 = t.cap)
theorem shB_iff {A : List Int → Int × Int} {t : TermS} {s : ShS} : shB A t s = true ↔ termB t = true ∧ (0 ≤ s.num ∧ s.num ≤ 2147483647) ∧ (0 ≤ s.owner ∧ s.owner ≤ 1) ∧ t.fee ≤ s.a0 ∧ (∀ i, i < s.n → shGo s.g i) ∧ (shM s.g s.n).getD 0 0 ≤ 8 ∧ (shM s.g s.n).getD 1 0 ≤ 8 ∧ (A (shX s.a0 s.a1 s.g s.n)).2 = 0 ∧ (A (shX s.a0 s.a1 s.g s.n)).1 = t.cap := by
  unfold shB
  simp only [Bool.and_eq_true, decide_eq_true_eq, and_assoc, List.all_eq_true, List.mem_range]
  have e : (∀ i, i < s.n → pendB (s.g i) = true ∧ Nat.beq (pDup s.g i) i = true) ↔ ∀ i, i < s.n → shGo s.g i := by
    constructor
    · intro h i hi; exact ⟨(h i hi).1, Nat.eq_of_beq_eq_true (h i hi).2⟩
    · intro h i hi; exact ⟨(h i hi).1, by rw [(h i hi).2]; exact Nat.beq_refl _⟩
  rw [e]
set_option maxRecDepth 100000 in
set_option maxHeartbeats 0 in
theorem shp_1 (t : TermS) (s : ShS) (A : List Int → Int × Int) (e : Int) (ht : t.Ok) (hn : s.n < 1000) (he : e = if shB A t s = true then 0 else 2) :
    evF (E91b t s.n s.g s.a0 s.a1 A) 20 15 [.agg t.c, .agg s.c] ⟨0, []⟩ (outM 0 (.ret (.int .i64 e)) 0 []) := by
  refine @Eq.mpr _ (let q1 := t.fund;
 let q2 := t.index;
 let q3 := t.cap;
 let q4 := t.dust;
 let q5 := t.fee;
 let q6 := t.delay;
 let q7 := t.k0;
 let q8 := t.k1;
 let q9 := TermS.mk q1 q2 q3 q4 q5 q6 q7 q8;
 let q10 := iteB (decide ((2 : Int) = e)) True False;
 let q11 := decide (q5 = q5);
 let q12 := s.a0;
 let q13 := decide (q12 = q12);
 let q14 := false == decide ((0 : Int) ≤ s.num ∧ s.num ≤ (2147483647 : Int));
 let q15 := s.n;
 let q16 := (↑q15 : Int);
 let q17 := decide (q15 = q15);
 let q18 := s.g;
 let q19 := pRows q18;
 let q20 := s.a1;
 TermS.Ok q9 ∧
 iteB ((if termB q9 = true then (0 : Int) else (2 : Int)) != (0 : Int)) q10
 (iteB (decide ((0 : Int) ≤ s.owner))
 (iteB q11
 (iteB q13
 (iteB q14 q10
 (iteB (false == decide (s.owner ≤ (1 : Int))) q10
 (iteB (false == decide (q12 ≥ q5)) q10
 (iteB (decide (q16 = q16))
 (iteB q17
 (q19 = q19 ∧
 iteB q17
 (q1 = q1 ∧
 iteB (decide (q2 = q2))
 (iteB (decide (q3 = q3))
 (iteB (decide (q4 = q4))
 (iteB q11
 (iteB (decide (q6 = q6))
 (q7 = q7 ∧
 q8 = q8 ∧
 [(0 : Int), (0 : Int)] = shM q18 (0 : Nat) ∧
 (MapsEq (0 : Nat) [((0 : Nat), (0 : Nat)), ((3 : Nat), (5 : Nat)), ((1 : Nat), (2 : Nat)), ((2 : Nat), (3 : Nat))] (0 : Nat) (fun (j : Nat) => AV.agg [AV.arr IntKind.i64 (2 : Nat) [(q18 j).frm, (q18 j).id]]) (fun (x : Nat) => AV.bool true) (fun (i : Nat) => AV.top) fun (i : Nat) => AV.top) ∧
 [q12, q20] = shX q12 q20 q18 (0 : Nat) ∧
 q15 < (1000 : Nat) ∧
 ∀ (i : Nat),
 let q41 := List.getD (shM q18 i) (1 : Nat) (0 : Int);
 let q42 := List.getD (shM q18 i) (0 : Nat) (0 : Int);
 let q43 := shX q12 q20 q18 i;
 let q44 := List.length q43;
 let q45 := List.take q44 (dropZ (0 : Nat) q43);
 let q46 := A q45;
 i ≤ q15 → (∀ (j : Nat), j < i → (fun (i : Nat) => shGo q18 i ∧ i < q15) j) → (i = q15 → iteB (decide ((if q41 > q42 then q41 else q42) > (8 : Int))) q10 (iteB (decide ((0 : Nat) + q44 ≤ q44)) (iteB (decide (q44 = List.length q45 ∧ q44 < (900000000000 : Nat))) (iteB (q46.snd != (0 : Int)) q10 (iteB (q46.fst != q3) q10 (iteB (decide ((0 : Int) = e)) True False))) False) False)) ∧ (False → False) ∧ (i < q15 ∧ ¬shGo q18 i → q10))
 False)
 False)
 False)
 False)
 False)
 False)
 False)
 False))))
 False)
 False)
 (iteB q11 (iteB q13 (iteB q14 q10 q10) False) False))) (by kernel_rfl) ?_
  conv => zeta
  try simp only [need_eq]
  try simp only [nope_eq]
  try simp only [iteD_eq]
  try simp only [iteT_eq]
  try simp only [iteF_eq]
  try simp only [iteE_eq]
  try simp only [Int.toNat_natCast, Nat.zero_add, true_and, and_true, Nat.le_refl]
  have e0 : (TermS.mk t.fund t.index t.cap t.dust t.fee t.delay t.k0 t.k1) = t := rfl
  rw [e0]
  have no : ¬ (shB A t s = true) → 2 = e := fun h => by rw [he, if_neg h]
  have hsh := shB_iff (A := A) (t := t) (s := s)
  have hX := shX_len s.a0 s.a1 s.g s.n
  have hdz : List.take (shX s.a0 s.a1 s.g s.n).length (dropZ 0 (shX s.a0 s.a1 s.g s.n)) = shX s.a0 s.a1 s.g s.n := by rw [dropZ_eq, List.drop_zero, List.take_length]
  refine ⟨ht, fun k => no fun h => ?_, fun k1 => ⟨fun k2 => ⟨fun k => no fun h => ?_, fun k3 => ⟨fun k => no fun h => ?_, fun k4 => ⟨fun k => no fun h => ?_, fun k5 => ⟨rfl, ⟨fun j hj => absurd hj (Nat.not_lt_zero j)⟩, rfl, hn, fun i hi hg => ⟨fun hin => ?_, fun h => h.elim, fun hng => no fun h => hng.2 ((hsh.1 h).2.2.2.2.1 i hng.1)⟩⟩⟩⟩⟩, fun k2 => ⟨fun k => no fun h => ?_, fun k => no fun h => ?_⟩⟩⟩
  · have := (hsh.1 h).1; rw [ite_ne.1, this] at k; cases k
  · have := (hsh.1 h).2.1; simp [this] at k
  · have := (hsh.1 h).2.2.1; simp at k; omega
  · have := (hsh.1 h).2.2.2.1; simp at k; omega
  · subst hin
    rw [hdz]
    have ht' : termB t = true := ite_ne.2.1 k1
    have k3 : 0 ≤ s.num ∧ s.num ≤ 2147483647 := by simpa using k3
    have k4 : s.owner ≤ 1 := by simpa using k4
    have k5 : t.fee ≤ s.a0 := by simpa using k5
    refine ⟨fun k6 => no fun h => ?_, fun k6 => ⟨⟨rfl, by omega⟩, fun k7 => no fun h => ?_, fun k7 => ⟨fun k8 => no fun h => ?_, fun k8 => ?_⟩⟩⟩
    · have := (hsh.1 h).2.2.2.2.2; split at k6 <;> omega
    · have := (hsh.1 h).2.2.2.2.2.2.2.1; simp [this] at k7
    · have := (hsh.1 h).2.2.2.2.2.2.2.2; simp [this] at k8
    · have : shB A t s = true := hsh.2 ⟨ht', k3, ⟨k2, k4⟩, k5, fun i hi => (hg i hi).1, by split at k6 <;> omega, by split at k6 <;> omega, by simpa using k7, by simpa using k8⟩
      rw [he, if_pos this]
  · have := (hsh.1 h).2.1; simp [this] at k
  · have := (hsh.1 h).2.2.1; omega
end Go.Tk
end
section
namespace Go.Tk
def isPd (v : AV) (N : Nat) (g : Nat → PendS) : Prop := match v with
  | .vrows 36 n f m => (m = n ∧ N = n) ∧ ∀ i, i < n → f i = (g i).c
  | .nilslice => N = 0
  | .eslice => N = 0
  | .fslice => N = 0
  | _ => False
theorem isPd.rel {v : AV} {N : Nat} {g : Nat → PendS} (h : isPd v N g) {E : Env} {r : Value} (hv : VRel E v r) : VRel E (.vrows 36 N (pRows g) N) r := by
  unfold isPd at h
  split at h
  · obtain ⟨⟨rfl, rfl⟩, hf⟩ := h
    exact hv.rowsC hf
  · subst h; cases hv; exact .rows0 rfl (fun _ => rfl)
  · subst h; cases hv with | eslice a => exact .rows0 rfl (fun _ => rfl)
  · subst h; cases hv with | fslice a c => exact .rows0 rfl (fun h => by cases h)
  · exact h.elim
theorem isPd.cell {v : AV} {N : Nat} {g : Nat → PendS} (h : isPd v N g) : v.isCell = true ∧ ∀ k n xs, v ≠ .arr k n xs := by
  unfold isPd at h; split at h <;> simp_all [AV.isCell]
def isSh (l : List AV) (s : ShS) : Prop := match l with
  | [.int .i64 nu, .int .i64 ow, .arr .u8 32 po, .arr .i64 2 am, b] => (s.num = nu ∧ s.owner = ow ∧ s.point = po ∧ am = [s.a0, s.a1]) ∧ isPd b s.n s.g
  | _ => False
theorem isSh.rel {l : List AV} {s : ShS} (h : isSh l s) {E : Env} {r : Value} (hv : VRel E (.agg l) r) : VRel E (.agg s.c) r := by
  unfold isSh at h
  split at h
  · rename_i nu ow po am b
    obtain ⟨⟨rfl, rfl, rfl, rfl⟩, h2⟩ := h
    cases hv with
    | agg cs vs hc =>
      obtain ⟨c1, ws, rfl, _, q1, p1, hc⟩ := CRel.cons_cell hc (fun _ _ _ h => by cases h)
      obtain ⟨c2, ws, rfl, _, q2, p2, hc⟩ := CRel.cons_cell hc (fun _ _ _ h => by cases h)
      obtain ⟨w3, e3, hc3⟩ := CRel.cons_arr hc
      obtain ⟨w4, e4, hc4⟩ := CRel.cons_arr hc3
      obtain ⟨c5, w5, e5, _, q5, p5, hc5⟩ := CRel.cons_cell hc4 h2.cell.2
      cases hc5
      subst e5 e4 e3
      exact .agg _ _ (.one _ _ _ _ rfl q1 p1 (.one _ _ _ _ rfl q2 p2 (.arr _ _ _ _ _ (.arr _ _ _ _ _ (.one _ _ _ _ rfl q5 (h2.rel p5) .nil)))))
  · exact h.elim
def shF (A : List Int → Int × Int) : PSumm := fun args h K => viewL none h true 20 args fun a => match a with
  | [.agg [.arr .u8 32 fu, .int .i64 ix, .int .i64 ca, .int .i64 du, .int .i64 fe, .int .i64 de, .arr .u8 32 k0, .arr .u8 32 k1], .agg l] => (TermS.Ok ⟨fu, ix, ca, du, fe, de, k0, k1⟩) ∧ ∃ s, isSh l s ∧ s.n < 1000 ∧ K (.int .i64 (if shB A ⟨fu, ix, ca, du, fe, de, k0, k1⟩ s = true then 0 else 2))
  | _ => False
theorem shF_ok (args : List AV) (h : Heap) (K : AV → Prop) (hl : shF addM args h K) : CallsA PP 15 args h fun o h' => ∃ v, o = .ret v ∧ h' = h ∧ K v := by
  refine Pure.psumm (d := 20) (viewL_weak _ _ _ _ _ hl fun a ha => ?_)
  split at ha
  · obtain ⟨ht, s, hs, hn, hK⟩ := ha
    exact ⟨_, (Pure.evM (E91b_ok _ _ _ _ _) (shp_1 ⟨_, _, _, _, _, _, _, _⟩ s addM _ ht hn rfl)).conv fun E r hr => hr.head (fun _ hc => hc) (fun _ hc => hc.head (fun _ hc => hs.rel hc) (fun _ hc => hc)), fun _ => rfl, hK⟩
  · exact ha.elim
end Go.Tk
end
section
namespace Go.Tk
def pMade (t : TermS) (s : ShS) (own other : List Int) (i : Nat) : MadeS := ⟨⟨if (s.g i).frm = s.owner then 4 else 5, (s.g i).amount, own, other, s.point, (s.g i).hash, t.delay, (s.g i).expiry⟩, (s.g i).id, i⟩
def osT (s : ShS) (a0 : Int) : List AV := [.int .i64 s.num, .int .i64 s.owner, .arr .u8 32 s.point, .arr .i64 2 [a0, s.a1], .vrows 36 s.n (pRows s.g) s.n]
def osS (t : TermS) (s : ShS) (a0 : Int) (own other : List Int) (O : List MadeS) (c i : Nat) : St :=
  ⟨98, [(64, .int .i64 i), (63, .int .i64 s.n), (62, .vrows 36 s.n (pRows s.g) s.n), (6, .func (.func 59) [] [.ptr (some ⟨0, 0, 0, 0, 0⟩), .ptr (some ⟨2, 0, 0, 0, 0⟩)]), (9, .map (some 6)), (3, .ptr (some ⟨1, 0, 0, 0, 0⟩)), (7, .ptr (some ⟨4, 0, 0, 0, 0⟩)), (8, .ptr (some ⟨5, 0, 0, 0, 0⟩)), (2, .ptr (some ⟨0, 0, 0, 0, 0⟩)), (5, .ptr (some ⟨2, 0, 0, 0, 0⟩))],
    ⟨7, [(0, .flat t.c), (1, .flat (osT s a0)), (2, .flat [.nslice ⟨3, 0, 134, 0, 0⟩ 134 c c]), (3, .rows 134 c (mRows O)), (4, .flat [.arr .u8 32 own]), (5, .flat [.arr .u8 32 other]), (6, .map [(.bool true, .int .i64 4), (.bool false, .int .i64 5)])]⟩, []⟩
def osE (O : List MadeS) (c : Nat) : St := ⟨98, [(5, .ptr (some ⟨0, 0, 0, 0, 0⟩))], ⟨2, [(0, .flat [.nslice ⟨1, 0, 134, 0, 0⟩ 134 c c]), (1, .rows 134 c (mRows O))]⟩, []⟩
set_option maxRecDepth 100000 in
set_option maxHeartbeats 0 in
theorem os_1 (t : TermS) (s : ShS) (a0 : Int) (own other : List Int) (O O1 : List MadeS) (c c1 i : Nat) (Z1 Z2 : Prop) (hn : s.n < 1000) (hi : i ≤ s.n) (hO : O.length = c) (hci : c ≤ i + 2) (hO1 : i < s.n → O1 = O ++ (if t.dust ≤ (s.g i).amount then [pMade t s own other i] else [])) (hc1 : c1 = O1.length) (h1 : i < s.n → Z1) (h2 : i = s.n → Z2) :
    roundE G0 20 29 0 0 (osS t s a0 own other O c i) (rdM 0 0 9 (osS t s a0 own other O1 c1 (i + 1)) (osE O c) (osE O c) (osE O c) Z1 Z2 False False) := by
  refine @Eq.mpr _ (let q1 := s.n;
 let q2 := (↑q1 : Int);
 let q3 := s.g (Int.toNat (↑i : Int));
 let q4 := s.owner;
 let q5 := q3.frm == q4;
 let q6 := q3.amount;
 let q7 := t.dust;
 let q8 := decide (q6 ≥ q7);
 let q9 := decide (c = c);
 let q10 := c + 1;
 let q11 := decide (q10 * 176 ≤ 140737488355328);
 let q12 := decide (IntKind.wrap IntKind.i64 ((↑i : Int) + 1) = (↑(i + 1) : Int));
 let q13 := decide (q2 = q2);
 let q14 := decide (q1 = q1);
 let q15 := pRows s.g;
 let q16 := q15 = q15;
 let q17 := t.fund = t.fund;
 let q18 := decide (t.index = t.index);
 let q19 := decide (t.cap = t.cap);
 let q20 := decide (q7 = q7);
 let q21 := decide (t.fee = t.fee);
 let q22 := t.delay;
 let q23 := decide (q22 = q22);
 let q24 := t.k0 = t.k0;
 let q25 := t.k1 = t.k1;
 let q26 := decide (s.num = s.num);
 let q27 := decide (q4 = q4);
 let q28 := s.point;
 let q29 := q28 = q28;
 let q30 := [a0, s.a1];
 let q31 := q30 = q30;
 let q32 := decide (q10 = c1);
 let q33 := decide (c1 ≤ q10);
 let q34 := [(5, 5), (4, 4), (1, 1), (6, 6), (2, 2), (0, 0)];
 let q35 := (3, 10) :: q34;
 let q36 := mRows O1;
 let q37 := mRows O;
 let q38 := [AV.int IntKind.i64 q6, AV.arr IntKind.u8 32 own, AV.arr IntKind.u8 32 other, AV.arr IntKind.u8 32 q28, AV.arr IntKind.u8 32 q3.hash, AV.int IntKind.i64 q22, AV.int IntKind.i64 q3.expiry, AV.int IntKind.i64 q3.id, AV.int IntKind.i64 (↑i : Int)];
 let q39 := own = own ∧ other = other ∧ Z1;
 let q40 := decide (c = c1);
 let q41 := iteB q12 (iteB q13 (iteB q14 (q16 ∧ iteB q14 (q17 ∧ iteB q18 (iteB q19 (iteB q20 (iteB q21 (iteB q23 (q24 ∧ q25 ∧ iteB q26 (iteB q27 (q29 ∧ q31 ∧ iteB q14 (q16 ∧ iteB q14 (iteB q40 (iteB (decide (c1 ≤ c)) (iteB q40 (RowsEq 0 ((3, 3) :: q34) c1 q36 q37 ∧ q39) False) False) False) False) False) False) False) False) False) False) False) False) False) False) False) False;
 iteB (decide ((↑i : Int) < q2))
 (iteB (decide (0 ≤ (↑i : Int) ∧ (↑i : Int) < q2))
 (iteB (q5 == true) (iteB q8 (iteB q9 (iteB q11 (iteB q12 (iteB q13 (iteB q14 (q16 ∧ iteB q14 (q17 ∧ iteB q18 (iteB q19 (iteB q20 (iteB q21 (iteB q23 (q24 ∧ q25 ∧ iteB q26 (iteB q27 (q29 ∧ q31 ∧ iteB q14 (q16 ∧ iteB q14 (iteB q32 (iteB q33 (iteB q32 (RowsEq 0 q35 c1 q36 (catF c q37 (rowC (AV.int IntKind.i64 4 :: q38) 0 134)) ∧ q39) False) False) False) False) False) False) False) False) False) False) False) False) False) False) False) False) False) False) q41)
 (iteB (q5 == false) (iteB q8 (iteB q9 (iteB q11 (iteB q12 (iteB q13 (iteB q14 (q16 ∧ iteB q14 (q17 ∧ iteB q18 (iteB q19 (iteB q20 (iteB q21 (iteB q23 (q24 ∧ q25 ∧ iteB q26 (iteB q27 (q29 ∧ q31 ∧ iteB q14 (q16 ∧ iteB q14 (iteB q32 (iteB q33 (iteB q32 (RowsEq 0 q35 c1 q36 (catF c q37 (rowC (AV.int IntKind.i64 5 :: q38) 0 134)) ∧ q39) False) False) False) False) False) False) False) False) False) False) False) False) False) False) False) False) False) False) q41) (iteB q8 (iteB q9 (iteB q11 (iteB q12 (iteB q13 (iteB q14 (q16 ∧ iteB q14 (q17 ∧ iteB q18 (iteB q19 (iteB q20 (iteB q21 (iteB q23 (q24 ∧ q25 ∧ iteB q26 (iteB q27 (q29 ∧ q31 ∧ iteB q14 (q16 ∧ iteB q14 (iteB q32 (iteB q33 (iteB q32 (RowsEq 0 q35 c1 q36 (catF c q37 (rowC (AV.int IntKind.i64 0 :: q38) 0 134)) ∧ q39) False) False) False) False) False) False) False) False) False) False) False) False) False) False) False) False) False) False) q41)))
 False)
 (iteB q9 (iteB (decide (c ≤ c)) (iteB q9 (RowsEq 0 [(1, 3), (0, 2)] c q37 q37 ∧ Z2) False) False) False)) (by kernel_rfl) ?_
  conv => zeta
  try simp only [need_eq]
  try simp only [nope_eq]
  try simp only [iteD_eq]
  try simp only [iteT_eq]
  try simp only [iteF_eq]
  try simp only [iteE_eq]
  try simp only [Int.toNat_natCast, Nat.zero_add, true_and, and_true, Nat.le_refl]
  refine ⟨fun hc => ?_, fun hc => ⟨mRows_eq fun _ _ => rfl, h2 (by omega)⟩⟩
  have hlt : i < s.n := by omega
  have hO1 := hO1 hlt
  have hZ := h1 hlt
  have hwr : IntKind.i64.wrap ((i : Int) + 1) = ((i + 1 : Nat) : Int) := by rw [w64 (by omega)]; omega
  have hsm : ¬ (s.g i).amount ≥ t.dust → c = c1 ∧ ∀ j, j < c1 → mRows O j = mRows O1 j := fun h => by
    rw [if_neg h, List.append_nil] at hO1
    subst hO1
    exact ⟨by rw [hc1, hO], fun _ _ => rfl⟩
  have hbig : (s.g i).amount ≥ t.dust → c + 1 = c1 ∧ O1 = O ++ [pMade t s own other i] := fun h => by
    rw [if_pos h] at hO1
    exact ⟨by rw [hc1, hO1]; simp [hO], hO1⟩
  refine ⟨by omega, fun k1 => ⟨fun k => ?_, fun k => ?_⟩, fun k1 => ⟨fun k2 => ⟨fun k => ?_, fun k => ?_⟩, fun k2 => ?_⟩⟩
  · obtain ⟨e1, e2⟩ := hbig k
    have k1 : (s.g i).frm = s.owner := by simpa using k1
    refine ⟨by omega, hwr, e1, by omega, e1, mRows_eq fun j hj => ?_, hZ⟩
    rw [e2]
    have := rows_snoc (f := mRows O) (O := O) (x := pMade t s own other i) (c := c) (i := j) hO (fun _ _ => rfl) (by omega)
    rw [← this]
    unfold pMade
    rw [if_pos k1]
    rfl
  · obtain ⟨e1, e2⟩ := hsm k
    exact ⟨hwr, e1, by omega, e1, mRows_eq e2, hZ⟩
  · obtain ⟨e1, e2⟩ := hbig k
    have k1 : ¬ (s.g i).frm = s.owner := by simpa using k1
    refine ⟨by omega, hwr, e1, by omega, e1, mRows_eq fun j hj => ?_, hZ⟩
    rw [e2]
    have := rows_snoc (f := mRows O) (O := O) (x := pMade t s own other i) (c := c) (i := j) hO (fun _ _ => rfl) (by omega)
    rw [← this]
    unfold pMade
    rw [if_neg k1]
    rfl
  · obtain ⟨e1, e2⟩ := hsm k
    exact ⟨hwr, e1, by omega, e1, mRows_eq e2, hZ⟩
  · exfalso
    cases h : ((s.g i).frm == s.owner) <;> rw [h] at k1 k2 <;> simp at k1 k2
def osList (t : TermS) (s : ShS) (own other : List Int) (O0 : List MadeS) : Nat → List MadeS
  | 0 => O0
  | i + 1 => osList t s own other O0 i ++ (if t.dust ≤ (s.g i).amount then [pMade t s own other i] else [])
theorem osList_len {t : TermS} {s : ShS} {own other : List Int} {O0 : List MadeS} : ∀ i, (osList t s own other O0 i).length ≤ i + O0.length
  | 0 => by simp [osList]
  | i + 1 => by
    have := osList_len (t := t) (s := s) (own := own) (other := other) (O0 := O0) i
    simp only [osList, List.length_append]
    split <;> simp <;> omega
def osInit (t : TermS) (point own other : List Int) (mine theirs : Int) : List MadeS :=
  (if t.dust ≤ mine then [⟨⟨3, mine, own, zero32, point, zero32, t.delay, 0⟩, 0, -1⟩] else []) ++ (if t.dust ≤ theirs then [⟨⟨1, theirs, other, zero32, zero32, zero32, 0, 0⟩, 0, -2⟩] else [])
noncomputable def E93 (t : TermS) (s : ShS) (a0 : Int) (own other : List Int) (O0 : List MadeS) (c0 : Nat) (Ol : Nat → List MadeS) : Env2 := (G0.withF 58 orF).withL 29 0 (goM 0 (osS t s a0 own other O0 c0 0) (s.n < 1000 ∧ c0 = O0.length ∧ c0 ≤ 2 ∧ Ol = osList t s own other O0) (endsJ 0 s.n 9 (fun i => i < s.n) (fun i => i = s.n) (fun _ => False) (fun _ => False) (fun i => osE (Ol i) (Ol i).length) (fun i => osE (Ol i) (Ol i).length) (fun i => osE (Ol i) (Ol i).length)))
theorem E93_ok (t : TermS) (s : ShS) (a0 : Int) (own other : List Int) (O0 : List MadeS) (c0 : Nat) (Ol : Nat → List MadeS) : (E93 t s a0 own other O0 c0 Ol).Ok := by
  refine Env2.withL_join (H := G0) (Env2.withF_ok G0_ok orF_ok) rfl ?_
  exact Env2.withGoM (N := 20) (S := fun i => osS t s a0 own other (osList t s own other O0 i) (osList t s own other O0 i).length i) G0_ok (by kernel_rfl) fun hC => by
    obtain ⟨h1, h2, h3, h4⟩ := hC
    subst h4
    refine ⟨by rw [h2]; rfl, fun i hi _ => os_1 t s a0 own other _ _ _ _ i _ _ h1 hi rfl ?_ (fun _ => rfl) rfl (fun h => ⟨h, h⟩) (fun h => h)⟩
    have := osList_len (t := t) (s := s) (own := own) (other := other) (O0 := O0) i
    omega
set_option maxRecDepth 100000 in
set_option maxHeartbeats 0 in
theorem os_f0 (t : TermS) (num : Int) (point : List Int) (a0 a1 : Int) (n : Nat) (g : Nat → PendS) (O0 : List MadeS) (c0 : Nat) (Ol : Nat → List MadeS) (b0 : Int) (L1 : List MadeS) (c : Nat) (hn : n < 1000) (hwr : IntKind.i64.wrap (a0 - t.fee) = b0) (hO0 : O0 = osInit t point t.k0 t.k1 b0 a1) (hc0 : c0 = O0.length) (hOl : Ol = osList t ⟨num, 0, point, a0, a1, n, g⟩ t.k0 t.k1 O0) (hL1 : L1 = sortM (Ol n)) (hc : c = L1.length) (h20 : c < 20) (hok : ∀ m ∈ Ol n, m.Ok) :
    evF (E93 t ⟨num, 0, point, a0, a1, n, g⟩ b0 t.k0 t.k1 O0 c0 Ol) 20 29 [.agg t.c, .agg (ShS.c ⟨num, 0, point, a0, a1, n, g⟩)] ⟨0, []⟩ (outM 0 (.ret (.nslice ⟨0, 0, 134, 0, 0⟩ 134 c c)) 1 [(0, .rows 134 c (mRows L1))]) := by
  refine @Eq.mpr _ (let q1 := t.k1;
 let q2 := q1 = q1;
 let q3 := ShS.mk num 0 point a0 a1 n g;
 let q4 := t.fee;
 let q5 := IntKind.wrap IntKind.i64 (q3.a0 - q4);
 let q6 := t.dust;
 let q7 := q3.a1;
 let q8 := decide (q7 ≥ q6);
 let q9 := q3.n;
 let q10 := (↑q9 : Int);
 let q11 := decide (q10 = q10);
 let q12 := decide (q9 = q9);
 let q13 := pRows q3.g;
 let q14 := q13 = q13;
 let q15 := t.fund = t.fund;
 let q16 := decide (t.index = t.index);
 let q17 := decide (t.cap = t.cap);
 let q18 := decide (q6 = q6);
 let q19 := decide (q4 = q4);
 let q20 := t.delay;
 let q21 := decide (q20 = q20);
 let q22 := t.k0;
 let q23 := q22 = q22;
 let q24 := q3.num;
 let q25 := decide (q24 = q24);
 let q26 := q3.point;
 let q27 := q26 = q26;
 let q28 := [q7];
 let q29 := q5 :: q28 = b0 :: q28;
 let q30 := decide (2 = c0);
 let q31 := [(2, 2), (0, 0)];
 let q32 := mRows O0;
 let q33 := AV.arr IntKind.u8 32 zero32;
 let q34 := AV.int IntKind.i64 0;
 let q35 := catF 0 (fun (x : Nat) => []) (rowC [AV.int IntKind.i64 3, AV.int IntKind.i64 q5, AV.arr IntKind.u8 32 q22, q33, AV.arr IntKind.u8 32 q26, q33, AV.int IntKind.i64 q20, q34, q34, AV.int IntKind.i64 (-1)] 0 134);
 let q36 := rowC [AV.int IntKind.i64 1, AV.int IntKind.i64 q7, AV.arr IntKind.u8 32 q1, q33, q33, q33, q34, q34, q34, AV.int IntKind.i64 (-2)] 0 134;
 let q37 := q23 ∧ q2 ∧ (q9 < 1000 ∧ c0 = List.length O0 ∧ c0 ≤ 2 ∧ Ol = osList t q3 q22 q1 O0) ∧ ∀ (i : Nat), i ≤ q9 → (∀ (j : Nat), j < i → (fun (i : Nat) => i < q9) j) → (i = q9 → (∀ (i_1 : Nat), i_1 < List.length (Ol i) → true = true) ∧ ∃ (L : List MadeS), (List.length (Ol i) = List.length (Ol i) ∧ List.length (Ol i) < 20 ∧ List.length L = List.length (Ol i)) ∧ (∀ (m : MadeS), List.Mem m L → MadeS.Ok m) ∧ (∀ (i_1 : Nat), i_1 < List.length (Ol i) → mRows (Ol i) i_1 = mRows L i_1) ∧ iteB (decide (List.length (Ol i) = c)) (iteB (decide (c ≤ List.length (Ol i))) (iteB (decide (List.length (Ol i) = c)) (RowsEq 0 [(0, 1)] c (mRows L1) (mRows (sortM L)) ∧ True) False) False) False) ∧ (False → False) ∧ (False → False);
 let q38 := decide (1 = c0);
 let q39 := decide (c0 ≤ 1);
 let q40 := (5, 4) :: (4, 3) :: (1, 1) :: (6, 9) :: q31;
 let q41 := decide (c0 = 0);
 q2 ∧
 q2 ∧
 q2 ∧
 iteB (decide (q5 ≥ q6)) (iteB q8 (iteB q11 (iteB q12 (q14 ∧ iteB q12 (q15 ∧ iteB q16 (iteB q17 (iteB q18 (iteB q19 (iteB q21 (q23 ∧ q2 ∧ iteB q25 (q27 ∧ q29 ∧ iteB q12 (q14 ∧ iteB q12 (iteB q30 (iteB (decide (c0 ≤ 2)) (iteB q30 (RowsEq 0 ((3, 10) :: (5, 4) :: (4, 3) :: (1, 1) :: (6, 11) :: q31) c0 q32 (catF 1 q35 q36) ∧ q37) False) False) False) False) False) False) False) False) False) False) False) False) False) False) (iteB q11 (iteB q12 (q14 ∧ iteB q12 (q15 ∧ iteB q16 (iteB q17 (iteB q18 (iteB q19 (iteB q21 (q23 ∧ q2 ∧ iteB q25 (q27 ∧ q29 ∧ iteB q12 (q14 ∧ iteB q12 (iteB q38 (iteB q39 (iteB q38 (RowsEq 0 ((3, 7) :: q40) c0 q32 q35 ∧ q37) False) False) False) False) False) False) False) False) False) False) False) False) False) False))
 (iteB q8 (iteB q11 (iteB q12 (q14 ∧ iteB q12 (q15 ∧ iteB q16 (iteB q17 (iteB q18 (iteB q19 (iteB q21 (q23 ∧ q2 ∧ iteB q25 (q27 ∧ q29 ∧ iteB q12 (q14 ∧ iteB q12 (iteB q38 (iteB q39 (iteB q38 (RowsEq 0 ((3, 8) :: q40) c0 q32 (catF 0 (fun (x : Nat) => []) q36) ∧ q37) False) False) False) False) False) False) False) False) False) False) False) False) False) False) (iteB q11 (iteB q12 (q14 ∧ iteB q12 (q15 ∧ iteB q16 (iteB q17 (iteB q18 (iteB q19 (iteB q21 (q23 ∧ q2 ∧ iteB q25 (q27 ∧ q29 ∧ iteB q12 (q14 ∧ iteB q12 (iteB q41 (iteB q41 (iteB q41 q37 False) False) False) False) False) False) False) False) False) False) False) False) False) False))) (by kernel_rfl) ?_
  conv => zeta
  try simp only [need_eq]
  try simp only [nope_eq]
  try simp only [iteD_eq]
  try simp only [iteT_eq]
  try simp only [iteF_eq]
  try simp only [iteE_eq]
  try simp only [Int.toNat_natCast, Nat.zero_add, true_and, and_true, Nat.le_refl]
  rw [hwr]
  have hlc : (Ol n).length = c := by rw [hc, hL1, sortM_len]
  have hc2 : c0 ≤ 2 := by rw [hc0, hO0]; unfold osInit; rw [List.length_append]; split <;> split <;> simp
  unfold osInit at hO0
  and_intros
  all_goals try rfl
  · intro k1
    refine ⟨fun k2 => ?_, fun k2 => ?_⟩
    all_goals
      first | rw [if_pos k1, if_pos k2] at hO0 | rw [if_pos k1, if_neg k2] at hO0
      have hl : c0 = O0.length := hc0
      rw [hO0] at hl
      simp only [List.length_append, List.length_cons, List.length_nil] at hl
      and_intros
      all_goals first
        | rfl
        | omega
        | exact hOl
        | exact hc0
        | (rw [hO0]; refine mRows_eq fun j hj => ?_; first | exact two_rows ⟨⟨3, b0, t.k0, zero32, point, zero32, t.delay, 0⟩, 0, -1⟩ ⟨⟨1, a1, t.k1, zero32, zero32, zero32, 0, 0⟩, 0, -2⟩ j (by omega) | exact one_row ⟨⟨3, b0, t.k0, zero32, point, zero32, t.delay, 0⟩, 0, -1⟩ j (by omega))
        | (intro i hi hg; refine ⟨fun he => ?_, fun h => h.elim, fun h => h.elim⟩; subst he; exact ⟨fun _ _ => trivial, _, ⟨by omega, rfl⟩, hok, fun _ _ => rfl, hlc, by omega, hlc, mRows_eq fun _ _ => by rw [hL1]⟩)
  · intro k1
    refine ⟨fun k2 => ?_, fun k2 => ?_⟩
    all_goals
      first | rw [if_neg k1, if_pos k2] at hO0 | rw [if_neg k1, if_neg k2] at hO0
      have hl : c0 = O0.length := hc0
      rw [hO0] at hl
      simp only [List.length_append, List.length_cons, List.length_nil] at hl
      and_intros
      all_goals first
        | rfl
        | omega
        | exact hOl
        | exact hc0
        | (rw [hO0]; refine mRows_eq fun j hj => ?_; exact one_row ⟨⟨1, a1, t.k1, zero32, zero32, zero32, 0, 0⟩, 0, -2⟩ j (by omega))
        | (intro i hi hg; refine ⟨fun he => ?_, fun h => h.elim, fun h => h.elim⟩; subst he; exact ⟨fun _ _ => trivial, _, ⟨by omega, rfl⟩, hok, fun _ _ => rfl, hlc, by omega, hlc, mRows_eq fun _ _ => by rw [hL1]⟩)
set_option maxRecDepth 100000 in
set_option maxHeartbeats 0 in
theorem os_f1 (t : TermS) (num : Int) (point : List Int) (a0 a1 : Int) (n : Nat) (g : Nat → PendS) (O0 : List MadeS) (c0 : Nat) (Ol : Nat → List MadeS) (b0 : Int) (L1 : List MadeS) (c : Nat) (hn : n < 1000) (hwr : IntKind.i64.wrap (a0 - t.fee) = b0) (hO0 : O0 = osInit t point t.k1 t.k0 a1 b0) (hc0 : c0 = O0.length) (hOl : Ol = osList t ⟨num, 1, point, a0, a1, n, g⟩ t.k1 t.k0 O0) (hL1 : L1 = sortM (Ol n)) (hc : c = L1.length) (h20 : c < 20) (hok : ∀ m ∈ Ol n, m.Ok) :
    evF (E93 t ⟨num, 1, point, a0, a1, n, g⟩ b0 t.k1 t.k0 O0 c0 Ol) 20 29 [.agg t.c, .agg (ShS.c ⟨num, 1, point, a0, a1, n, g⟩)] ⟨0, []⟩ (outM 0 (.ret (.nslice ⟨0, 0, 134, 0, 0⟩ 134 c c)) 1 [(0, .rows 134 c (mRows L1))]) := by
  refine @Eq.mpr _ (let q1 := t.k0;
 let q2 := q1 = q1;
 let q3 := ShS.mk num 1 point a0 a1 n g;
 let q4 := q3.a1;
 let q5 := t.dust;
 let q6 := t.fee;
 let q7 := IntKind.wrap IntKind.i64 (q3.a0 - q6);
 let q8 := decide (q7 ≥ q5);
 let q9 := q3.n;
 let q10 := (↑q9 : Int);
 let q11 := decide (q10 = q10);
 let q12 := decide (q9 = q9);
 let q13 := pRows q3.g;
 let q14 := q13 = q13;
 let q15 := t.fund = t.fund;
 let q16 := decide (t.index = t.index);
 let q17 := decide (t.cap = t.cap);
 let q18 := decide (q5 = q5);
 let q19 := decide (q6 = q6);
 let q20 := t.delay;
 let q21 := decide (q20 = q20);
 let q22 := t.k1;
 let q23 := q22 = q22;
 let q24 := q3.num;
 let q25 := decide (q24 = q24);
 let q26 := q3.point;
 let q27 := q26 = q26;
 let q28 := [q4];
 let q29 := q7 :: q28 = b0 :: q28;
 let q30 := decide (2 = c0);
 let q31 := [(2, 2), (0, 0)];
 let q32 := mRows O0;
 let q33 := AV.arr IntKind.u8 32 zero32;
 let q34 := AV.int IntKind.i64 0;
 let q35 := catF 0 (fun (x : Nat) => []) (rowC [AV.int IntKind.i64 3, AV.int IntKind.i64 q4, AV.arr IntKind.u8 32 q22, q33, AV.arr IntKind.u8 32 q26, q33, AV.int IntKind.i64 q20, q34, q34, AV.int IntKind.i64 (-1)] 0 134);
 let q36 := rowC [AV.int IntKind.i64 1, AV.int IntKind.i64 q7, AV.arr IntKind.u8 32 q1, q33, q33, q33, q34, q34, q34, AV.int IntKind.i64 (-2)] 0 134;
 let q37 := q23 ∧ q2 ∧ (q9 < 1000 ∧ c0 = List.length O0 ∧ c0 ≤ 2 ∧ Ol = osList t q3 q22 q1 O0) ∧ ∀ (i : Nat), i ≤ q9 → (∀ (j : Nat), j < i → (fun (i : Nat) => i < q9) j) → (i = q9 → (∀ (i_1 : Nat), i_1 < List.length (Ol i) → true = true) ∧ ∃ (L : List MadeS), (List.length (Ol i) = List.length (Ol i) ∧ List.length (Ol i) < 20 ∧ List.length L = List.length (Ol i)) ∧ (∀ (m : MadeS), List.Mem m L → MadeS.Ok m) ∧ (∀ (i_1 : Nat), i_1 < List.length (Ol i) → mRows (Ol i) i_1 = mRows L i_1) ∧ iteB (decide (List.length (Ol i) = c)) (iteB (decide (c ≤ List.length (Ol i))) (iteB (decide (List.length (Ol i) = c)) (RowsEq 0 [(0, 1)] c (mRows L1) (mRows (sortM L)) ∧ True) False) False) False) ∧ (False → False) ∧ (False → False);
 let q38 := decide (1 = c0);
 let q39 := decide (c0 ≤ 1);
 let q40 := (5, 4) :: (4, 3) :: (1, 1) :: (6, 9) :: q31;
 let q41 := decide (c0 = 0);
 q2 ∧
 q2 ∧
 q2 ∧
 iteB (decide (q4 ≥ q5)) (iteB q8 (iteB q11 (iteB q12 (q14 ∧ iteB q12 (q15 ∧ iteB q16 (iteB q17 (iteB q18 (iteB q19 (iteB q21 (q2 ∧ q23 ∧ iteB q25 (q27 ∧ q29 ∧ iteB q12 (q14 ∧ iteB q12 (iteB q30 (iteB (decide (c0 ≤ 2)) (iteB q30 (RowsEq 0 ((3, 10) :: (5, 4) :: (4, 3) :: (1, 1) :: (6, 11) :: q31) c0 q32 (catF 1 q35 q36) ∧ q37) False) False) False) False) False) False) False) False) False) False) False) False) False) False) (iteB q11 (iteB q12 (q14 ∧ iteB q12 (q15 ∧ iteB q16 (iteB q17 (iteB q18 (iteB q19 (iteB q21 (q2 ∧ q23 ∧ iteB q25 (q27 ∧ q29 ∧ iteB q12 (q14 ∧ iteB q12 (iteB q38 (iteB q39 (iteB q38 (RowsEq 0 ((3, 7) :: q40) c0 q32 q35 ∧ q37) False) False) False) False) False) False) False) False) False) False) False) False) False) False))
 (iteB q8 (iteB q11 (iteB q12 (q14 ∧ iteB q12 (q15 ∧ iteB q16 (iteB q17 (iteB q18 (iteB q19 (iteB q21 (q2 ∧ q23 ∧ iteB q25 (q27 ∧ q29 ∧ iteB q12 (q14 ∧ iteB q12 (iteB q38 (iteB q39 (iteB q38 (RowsEq 0 ((3, 8) :: q40) c0 q32 (catF 0 (fun (x : Nat) => []) q36) ∧ q37) False) False) False) False) False) False) False) False) False) False) False) False) False) False) (iteB q11 (iteB q12 (q14 ∧ iteB q12 (q15 ∧ iteB q16 (iteB q17 (iteB q18 (iteB q19 (iteB q21 (q2 ∧ q23 ∧ iteB q25 (q27 ∧ q29 ∧ iteB q12 (q14 ∧ iteB q12 (iteB q41 (iteB q41 (iteB q41 q37 False) False) False) False) False) False) False) False) False) False) False) False) False) False))) (by kernel_rfl) ?_
  conv => zeta
  try simp only [need_eq]
  try simp only [nope_eq]
  try simp only [iteD_eq]
  try simp only [iteT_eq]
  try simp only [iteF_eq]
  try simp only [iteE_eq]
  try simp only [Int.toNat_natCast, Nat.zero_add, true_and, and_true, Nat.le_refl]
  rw [hwr]
  have hlc : (Ol n).length = c := by rw [hc, hL1, sortM_len]
  have hc2 : c0 ≤ 2 := by rw [hc0, hO0]; unfold osInit; rw [List.length_append]; split <;> split <;> simp
  unfold osInit at hO0
  and_intros
  all_goals try rfl
  · intro k1
    refine ⟨fun k2 => ?_, fun k2 => ?_⟩
    all_goals
      first | rw [if_pos k1, if_pos k2] at hO0 | rw [if_pos k1, if_neg k2] at hO0
      have hl : c0 = O0.length := hc0
      rw [hO0] at hl
      simp only [List.length_append, List.length_cons, List.length_nil] at hl
      and_intros
      all_goals first
        | rfl
        | omega
        | exact hOl
        | exact hc0
        | (rw [hO0]; refine mRows_eq fun j hj => ?_; first | exact two_rows ⟨⟨3, a1, t.k1, zero32, point, zero32, t.delay, 0⟩, 0, -1⟩ ⟨⟨1, b0, t.k0, zero32, zero32, zero32, 0, 0⟩, 0, -2⟩ j (by omega) | exact one_row ⟨⟨3, a1, t.k1, zero32, point, zero32, t.delay, 0⟩, 0, -1⟩ j (by omega))
        | (intro i hi hg; refine ⟨fun he => ?_, fun h => h.elim, fun h => h.elim⟩; subst he; exact ⟨fun _ _ => trivial, _, ⟨by omega, rfl⟩, hok, fun _ _ => rfl, hlc, by omega, hlc, mRows_eq fun _ _ => by rw [hL1]⟩)
  · intro k1
    refine ⟨fun k2 => ?_, fun k2 => ?_⟩
    all_goals
      first | rw [if_neg k1, if_pos k2] at hO0 | rw [if_neg k1, if_neg k2] at hO0
      have hl : c0 = O0.length := hc0
      rw [hO0] at hl
      simp only [List.length_append, List.length_cons, List.length_nil] at hl
      and_intros
      all_goals first
        | rfl
        | omega
        | exact hOl
        | exact hc0
        | (rw [hO0]; refine mRows_eq fun j hj => ?_; exact one_row ⟨⟨1, b0, t.k0, zero32, zero32, zero32, 0, 0⟩, 0, -2⟩ j (by omega))
        | (intro i hi hg; refine ⟨fun he => ?_, fun h => h.elim, fun h => h.elim⟩; subst he; exact ⟨fun _ _ => trivial, _, ⟨by omega, rfl⟩, hok, fun _ _ => rfl, hlc, by omega, hlc, mRows_eq fun _ _ => by rw [hL1]⟩)
end Go.Tk
end
section
namespace Go.Tk
def osAll (t : TermS) (s : ShS) : List MadeS :=
  if s.owner = 0 then osList t s t.k0 t.k1 (osInit t s.point t.k0 t.k1 (s.a0 - t.fee) s.a1) s.n
  else osList t s t.k1 t.k0 (osInit t s.point t.k1 t.k0 s.a1 (s.a0 - t.fee)) s.n
structure OutsOk (t : TermS) (s : ShS) : Prop where
  ow : s.owner = 0 ∨ s.owner = 1
  n : s.n < 1000
  fee : -9223372036854775808 ≤ s.a0 - t.fee ∧ s.a0 - t.fee < 9223372036854775808
  len : (osAll t s).length < 20
  ok : ∀ m ∈ osAll t s, m.Ok
def ouF : FSumm := fun args h K => viewL none h true 20 args fun a => match a with
  | [.agg [.arr .u8 32 fu, .int .i64 ix, .int .i64 ca, .int .i64 du, .int .i64 fe, .int .i64 de, .arr .u8 32 k0, .arr .u8 32 k1], .agg l] => ∃ s, isSh l s ∧ OutsOk ⟨fu, ix, ca, du, fe, de, k0, k1⟩ s ∧
    ∀ n L, L = sortM (osAll ⟨fu, ix, ca, du, fe, de, k0, k1⟩ s) → n = L.length → K (.ret (.nslice ⟨h.next, 0, 134, 0, 0⟩ 134 n n)) ⟨h.next + 1, (h.next, .rows 134 n (mRows L)) :: h.bs⟩
  | _ => False
theorem ouF_ok (args : List AV) (h : Heap) (K : KO) (hl : ouF args h K) : CallsA PP 29 args h K := by
  refine Pure.fsumm (d := 20) (viewL_weak _ _ _ _ _ hl fun a ha => ?_)
  split at ha
  · rename_i fu ix ca du fe de k0 k1 l
    obtain ⟨s, hs, ho, hK⟩ := ha
    have hK := hK _ _ rfl rfl
    have hlen := ho.len
    have hok := ho.ok
    have hfee := ho.fee
    have hn := ho.n
    rcases ho.ow with ow | ow
    · obtain ⟨num, owner, point, a0, a1, n, g⟩ := s
      simp only at ow
      subst ow
      unfold osAll at hK hlen hok
      rw [if_pos rfl] at hK hlen hok
      exact ⟨_, _, _, _, (Pure.evM (E93_ok _ _ _ _ _ _ _ _) (os_f0 ⟨fu, ix, ca, du, fe, de, k0, k1⟩ num point a0 a1 n g _ _ _ _ _ _ hn (w64 hfee) rfl rfl rfl rfl rfl (by rw [sortM_len]; exact hlen) hok)).conv (fun E r hr => hr.head (fun _ hc => hc) (fun _ hc => hc.head (fun _ hc => hs.rel hc) (fun _ hc => hc))), rfl, ⟨Nat.one_pos, .rows _ _ _ (fun i _ => mRows_plain _ i), trivial⟩, hK⟩
    · obtain ⟨num, owner, point, a0, a1, n, g⟩ := s
      simp only at ow
      subst ow
      unfold osAll at hK hlen hok
      rw [if_neg (show ¬ (1 : Int) = 0 by decide)] at hK hlen hok
      exact ⟨_, _, _, _, (Pure.evM (E93_ok _ _ _ _ _ _ _ _) (os_f1 ⟨fu, ix, ca, du, fe, de, k0, k1⟩ num point a0 a1 n g _ _ _ _ _ _ hn (w64 hfee) rfl rfl rfl rfl rfl (by rw [sortM_len]; exact hlen) hok)).conv (fun E r hr => hr.head (fun _ hc => hc) (fun _ hc => hc.head (fun _ hc => hs.rel hc) (fun _ hc => hc))), rfl, ⟨Nat.one_pos, .rows _ _ _ (fun i _ => mRows_plain _ i), trivial⟩, hK⟩
  · exact ha.elim
end Go.Tk
end
section
namespace Go.Tk
structure ShS.Ok (s : ShS) : Prop where
  point : s.point.length = 32
  a0 : -9223372036854775808 ≤ s.a0 ∧ s.a0 < 9223372036854775808
  g : ∀ i, i < s.n → (s.g i).Ok
theorem shM_sum {g : Nat → PendS} : ∀ i, i < 1000 → (∀ j, j < i → pendB (g j) = true) → (shM g i).getD 0 0 + (shM g i).getD 1 0 = i ∧ 0 ≤ (shM g i).getD 0 0 ∧ 0 ≤ (shM g i).getD 1 0
  | 0, _, _ => by simp [shM]
  | i + 1, hi, h => by
    obtain ⟨h1, h2, h3⟩ := shM_sum i (by omega) (fun j hj => h j (by omega))
    have hl := shM_len g i
    have hp := h i (by omega)
    unfold pendB at hp
    simp only [Bool.and_eq_true, decide_eq_true_eq] at hp
    have hf : (g i).frm = 0 ∨ (g i).frm = 1 := by omega
    obtain ⟨x, y, hxy⟩ : ∃ x y, shM g i = [x, y] := by
      match hm : shM g i, hl with
      | [x, y], _ => exact ⟨x, y, rfl⟩
    rw [hxy] at h1 h2 h3
    simp only [shM, hxy]
    simp at h1 h2 h3
    rcases hf with hf | hf <;> rw [hf]
    · have e : IntKind.i64.wrap (x + 1) = x + 1 := w64 (by omega)
      simp [e]; omega
    · have e : IntKind.i64.wrap (y + 1) = y + 1 := w64 (by omega)
      simp [e]; omega
theorem osInit_mem {t : TermS} {point own other : List Int} {a b : Int} (h1 : point.length = 32) (h2 : own.length = 32) (h3 : other.length = 32) : ∀ m ∈ osInit t point own other a b, m.Ok := fun m hm => by
  have z32 : zero32.length = 32 := rfl
  unfold osInit at hm
  rw [List.mem_append] at hm
  rcases hm with hm | hm
  · split at hm
    · rw [List.mem_singleton] at hm; subst hm; exact ⟨h2, z32, h1, z32⟩
    · cases hm
  · split at hm
    · rw [List.mem_singleton] at hm; subst hm; exact ⟨h3, z32, z32, z32⟩
    · cases hm
theorem osList_mem {t : TermS} {s : ShS} {own other : List Int} {O0 : List MadeS} (h0 : ∀ m ∈ O0, m.Ok) (hs : s.Ok) (h2 : own.length = 32) (h3 : other.length = 32) : ∀ i, i ≤ s.n → ∀ m ∈ osList t s own other O0 i, m.Ok
  | 0, _ => h0
  | i + 1, hi => fun m hm => by
    simp only [osList, List.mem_append] at hm
    rcases hm with hm | hm
    · exact osList_mem h0 hs h2 h3 i (by omega) m hm
    · split at hm
      · rw [List.mem_singleton] at hm; subst hm
        exact ⟨h2, h3, hs.point, (hs.g i (by omega)).hash⟩
      · cases hm
theorem osInit_len {t : TermS} {point own other : List Int} {a b : Int} : (osInit t point own other a b).length ≤ 2 := by
  unfold osInit; rw [List.length_append]; split <;> split <;> simp
theorem outsOk {A : List Int → Int × Int} {t : TermS} {s : ShS} (ht : t.Ok) (hs : s.Ok) (hn : s.n < 1000) (h : shB A t s = true) : OutsOk t s := by
  obtain ⟨g1, g2, g3, g4, g5, g6, g7, _⟩ := shB_iff.1 h
  obtain ⟨h1, h2, h3⟩ := shM_sum s.n hn (fun j hj => (g5 j hj).1)
  have hf : 0 ≤ t.fee := by
    unfold termB at g1
    simp only [Bool.and_eq_true, decide_eq_true_eq] at g1
    omega
  have ha := hs.a0
  refine ⟨by omega, hn, by omega, ?_, ?_⟩
  · unfold osAll
    split
    · have k1 := osList_len (t := t) (s := s) (own := t.k0) (other := t.k1) (O0 := osInit t s.point t.k0 t.k1 (s.a0 - t.fee) s.a1) s.n
      have k2 := osInit_len (t := t) (point := s.point) (own := t.k0) (other := t.k1) (a := s.a0 - t.fee) (b := s.a1)
      omega
    · have k1 := osList_len (t := t) (s := s) (own := t.k1) (other := t.k0) (O0 := osInit t s.point t.k1 t.k0 s.a1 (s.a0 - t.fee)) s.n
      have k2 := osInit_len (t := t) (point := s.point) (own := t.k1) (other := t.k0) (a := s.a1) (b := s.a0 - t.fee)
      omega
  · unfold osAll
    split
    · exact osList_mem (osInit_mem hs.point ht.k0 ht.k1) hs ht.k0 ht.k1 s.n (Nat.le_refl _)
    · exact osList_mem (osInit_mem hs.point ht.k1 ht.k0) hs ht.k1 ht.k0 s.n (Nat.le_refl _)
set_option maxRecDepth 100000 in
set_option maxHeartbeats 0 in
theorem mx_z (t : TermS) (num : Int) (L : List MadeS)  :
    evF G0 20 28 [.agg t.c, .int .i64 num, .vrows 134 0 (mRows L) 0] ⟨0, []⟩ (outM 0 (.ret (.tuple [.agg txZ, .int .i64 180])) 0 []) := by
  refine @Eq.mpr _ (True) (by kernel_rfl) ?_
  trivial
set_option maxRecDepth 100000 in
set_option maxHeartbeats 0 in
theorem mxr_z (t : TermS) (num : Int) (L : List MadeS)  :
    evF G0 20 30 [.agg t.c, .int .i64 num, .vrows 134 0 (mRows L) 0] ⟨0, []⟩ (outM 0 (.ret (.tuple [.agg txZ, .int .i64 180])) 0 []) := by
  refine @Eq.mpr _ (True) (by kernel_rfl) ?_
  trivial
end Go.Tk
end
section
namespace Go.Tk
def mxG : FSumm := fun args h K => viewL none h true 20 args fun a => match a with
  | [.agg [.arr .u8 32 fu, .int .i64 ix, .int .i64 ca, .int .i64 du, .int .i64 fe, .int .i64 de, .arr .u8 32 k0, .arr .u8 32 k1], .int .i64 num, .vrows 134 n f n'] => ∃ L, n' = n ∧ f = mRows L ∧ n < 1000 ∧ (n = 0 → K (.ret (.tuple [.agg txZ, .int .i64 180])) h) ∧ (n ≠ 0 → K (.ret (.tuple [.agg [.int .i64 num, .nslice ⟨h.next, 0, 0, 0, 0⟩ 130 1 1, .nslice ⟨h.next + 1, 0, 132, 0, 0⟩ 132 n n], .int .i64 0])) ⟨h.next + 2, (h.next, .flat (InS.c ⟨fu, ix, 1, zero32, zero32, zero32⟩)) :: (h.next + 1, .rows 132 n (outRows (mOuts L))) :: h.bs⟩)
  | _ => False
theorem mxG_ok (args : List AV) (h : Heap) (K : KO) (hl : mxG args h K) : CallsA PP 28 args h K := by
  refine Pure.fsumm (d := 20) (viewL_weak _ _ _ _ _ hl fun a ha => ?_)
  split at ha
  · obtain ⟨L, rfl, rfl, h1, h2, hK⟩ := ha
    rename_i num n
    rcases Nat.eq_zero_or_pos n with h0 | h0
    · subst h0
      exact ⟨_, _, _, _, .evM G0_ok (mx_z ⟨_, _, _, _, _, _, _, _⟩ _ L), rfl, trivial, h2 rfl⟩
    · exact ⟨_, _, _, _, .evM (E85_ok _ _ _ _) (mx_f ⟨_, _, _, _, _, _, _, _⟩ _ L _ h1 (by omega)), rfl, ⟨by decide, .flat _ rfl, by decide, .rows _ _ _ (fun i _ => (mOuts L i).plainC), trivial⟩, hK (by omega)⟩
  · exact ha.elim
theorem mxrG_ok (args : List AV) (h : Heap) (K : KO) (hl : mxG args h K) : CallsA PP 30 args h K := by
  refine Pure.fsumm (d := 20) (viewL_weak _ _ _ _ _ hl fun a ha => ?_)
  split at ha
  · obtain ⟨L, rfl, rfl, h1, h2, hK⟩ := ha
    rename_i num n
    rcases Nat.eq_zero_or_pos n with h0 | h0
    · subst h0
      exact ⟨_, _, _, _, .evM G0_ok (mxr_z ⟨_, _, _, _, _, _, _, _⟩ _ L), rfl, trivial, h2 rfl⟩
    · exact ⟨_, _, _, _, .evM (E85r_ok _ _ _ _) (mxr_f ⟨_, _, _, _, _, _, _, _⟩ _ L _ h1 (by omega)), rfl, ⟨by decide, .flat _ rfl, by decide, .rows _ _ _ (fun i _ => (mOuts L i).plainC), trivial⟩, hK (by omega)⟩
  · exact ha.elim
noncomputable def E96 (A : List Int → Int × Int) : Env2 := ((G0.withP 15 (shF A)).withF 29 ouF).withF 28 mxG
theorem E96_ok : (E96 addM).Ok := Env2.withF_ok (Env2.withF_ok (Env2.withP_ok G0_ok shF_ok) ouF_ok) mxG_ok
set_option maxRecDepth 100000 in
set_option maxHeartbeats 0 in
theorem co_1 (A : List Int → Int × Int) (t : TermS) (s : ShS) (ht : t.Ok) (hn : s.n < 1000) (hb : shB A t s = false) :
    evF (E96 A) 20 9 [.agg t.c, .agg s.c] ⟨0, []⟩ (outM 0 (.ret (.tuple [.agg txZ, .int .i64 2])) 0 []) := by
  refine @Eq.mpr _ (let q1 := t.fund;
 let q2 := t.index;
 let q3 := t.cap;
 let q4 := t.dust;
 let q5 := t.fee;
 let q6 := t.delay;
 let q7 := t.k0;
 let q8 := t.k1;
 let q9 := TermS.mk q1 q2 q3 q4 q5 q6 q7 q8;
 let q10 := s.num;
 let q11 := s.n;
 TermS.Ok q9 ∧
 ∃ (s_1 : ShS),
 let q23 := [s.a0, s.a1];
 let q24 := if shB A q9 s_1 = true then (0 : Int) else (2 : Int);
 ((s_1.num = q10 ∧ s_1.owner = s.owner ∧ s_1.point = s.point ∧ q23 = [s_1.a0, s_1.a1]) ∧ (q11 = q11 ∧ s_1.n = q11) ∧ ∀ (i : Nat), i < q11 → pRows s.g i = PendS.c (s_1.g i)) ∧
 s_1.n < (1000 : Nat) ∧ iteB (q24 != (0 : Int)) (iteB (decide (q24 = (2 : Int))) True False) (∃ (s_2 : ShS), ((s_2.num = q10 ∧ s_2.owner = s.owner ∧ s_2.point = s.point ∧ q23 = [s_2.a0, s_2.a1]) ∧ (q11 = q11 ∧ s_2.n = q11) ∧ ∀ (i : Nat), i < q11 → pRows s.g i = PendS.c (s_2.g i)) ∧ OutsOk q9 s_2 ∧ ∀ (n : Nat) (L : List MadeS), L = sortM (osAll q9 s_2) → n = List.length L → iteB (decide (q10 = q10)) (q1 = q1 ∧ iteB (decide (q2 = q2)) (iteB (decide (q3 = q3)) (iteB (decide (q4 = q4)) (iteB (decide (q5 = q5)) (iteB (decide (q6 = q6)) (q7 = q7 ∧ q8 = q8 ∧ iteB (decide ((0 : Nat) + n ≤ n)) ((∀ (i : Nat), i < n → true = true) ∧ ∃ (L_1 : List MadeS), n = n ∧ shiftZ (0 : Nat) (mRows L) = mRows L_1 ∧ n < (1000 : Nat) ∧ (n = (0 : Nat) → False) ∧ (n ≠ (0 : Nat) → iteB (decide (q10 = (0 : Int))) False False)) False) False) False) False) False) False) False)) (by kernel_rfl) ?_
  conv => zeta
  try simp only [need_eq]
  try simp only [nope_eq]
  try simp only [iteD_eq]
  try simp only [iteT_eq]
  try simp only [iteF_eq]
  try simp only [iteE_eq]
  try simp only [Int.toNat_natCast, Nat.zero_add, true_and, and_true, Nat.le_refl]
  have e0 : (TermS.mk t.fund t.index t.cap t.dust t.fee t.delay t.k0 t.k1) = t := rfl
  rw [e0]
  refine ⟨ht, s, ⟨⟨rfl, rfl, rfl, rfl⟩, rfl, fun _ _ => rfl⟩, hn, fun _ => by rw [hb]; rfl, fun k => ?_⟩
  have := ite_ne.2.1 k
  rw [hb] at this; cases this
set_option maxRecDepth 100000 in
set_option maxHeartbeats 0 in
theorem co_2 (A : List Int → Int × Int) (t : TermS) (s : ShS) (n : Nat) (L1 : List MadeS) (ht : t.Ok) (hn : s.n < 1000) (hb : shB A t s = true) (ho : OutsOk t s) (hL : L1 = sortM (osAll t s)) (hl : n = L1.length) (h0 : n = 0) :
    evF (E96 A) 20 9 [.agg t.c, .agg s.c] ⟨0, []⟩ (outM 0 (.ret (.tuple [.agg txZ, .int .i64 180])) 0 []) := by
  refine @Eq.mpr _ (let q1 := t.fund;
 let q2 := t.index;
 let q3 := t.cap;
 let q4 := t.dust;
 let q5 := t.fee;
 let q6 := t.delay;
 let q7 := t.k0;
 let q8 := t.k1;
 let q9 := TermS.mk q1 q2 q3 q4 q5 q6 q7 q8;
 let q10 := s.num;
 let q11 := s.n;
 TermS.Ok q9 ∧
 ∃ (s_1 : ShS),
 let q23 := [s.a0, s.a1];
 let q24 := if shB A q9 s_1 = true then (0 : Int) else (2 : Int);
 ((s_1.num = q10 ∧ s_1.owner = s.owner ∧ s_1.point = s.point ∧ q23 = [s_1.a0, s_1.a1]) ∧ (q11 = q11 ∧ s_1.n = q11) ∧ ∀ (i : Nat), i < q11 → pRows s.g i = PendS.c (s_1.g i)) ∧
 s_1.n < (1000 : Nat) ∧ iteB (q24 != (0 : Int)) (iteB (decide (q24 = (180 : Int))) True False) (∃ (s_2 : ShS), ((s_2.num = q10 ∧ s_2.owner = s.owner ∧ s_2.point = s.point ∧ q23 = [s_2.a0, s_2.a1]) ∧ (q11 = q11 ∧ s_2.n = q11) ∧ ∀ (i : Nat), i < q11 → pRows s.g i = PendS.c (s_2.g i)) ∧ OutsOk q9 s_2 ∧ ∀ (n : Nat) (L : List MadeS), L = sortM (osAll q9 s_2) → n = List.length L → iteB (decide (q10 = q10)) (q1 = q1 ∧ iteB (decide (q2 = q2)) (iteB (decide (q3 = q3)) (iteB (decide (q4 = q4)) (iteB (decide (q5 = q5)) (iteB (decide (q6 = q6)) (q7 = q7 ∧ q8 = q8 ∧ iteB (decide ((0 : Nat) + n ≤ n)) ((∀ (i : Nat), i < n → true = true) ∧ ∃ (L_1 : List MadeS), n = n ∧ shiftZ (0 : Nat) (mRows L) = mRows L_1 ∧ n < (1000 : Nat) ∧ (n = (0 : Nat) → True) ∧ (n ≠ (0 : Nat) → iteB (decide (q10 = (0 : Int))) False False)) False) False) False) False) False) False) False)) (by kernel_rfl) ?_
  conv => zeta
  try simp only [need_eq]
  try simp only [nope_eq]
  try simp only [iteD_eq]
  try simp only [iteT_eq]
  try simp only [iteF_eq]
  try simp only [iteE_eq]
  try simp only [Int.toNat_natCast, Nat.zero_add, true_and, and_true, Nat.le_refl]
  have e0 : (TermS.mk t.fund t.index t.cap t.dust t.fee t.delay t.k0 t.k1) = t := rfl
  rw [e0]
  refine ⟨ht, s, ⟨⟨rfl, rfl, rfl, rfl⟩, rfl, fun _ _ => rfl⟩, hn, fun k => ?_, fun _ => ⟨s, ⟨⟨rfl, rfl, rfl, rfl⟩, rfl, fun _ _ => rfl⟩, ho, fun m L hL' hm => ?_⟩⟩
  · rw [ite_ne.1, hb] at k; cases k
  · have e1 : L = L1 := hL'.trans hL.symm
    subst e1
    have e2 : m = n := hm.trans hl.symm
    subst e2
    have hlen := ho.len
    rw [hl, hL, sortM_len] at h0
    have h20 : m < 1000 := by rw [hl, hL, sortM_len]; omega
    refine ⟨fun _ _ => trivial, L, rfl, h20, fun _ => ?_, fun h => ?_⟩
    · first | trivial | rfl
    · exfalso; rw [hl, hL, sortM_len] at h; exact h h0
set_option maxRecDepth 100000 in
set_option maxHeartbeats 0 in
theorem co_3 (A : List Int → Int × Int) (t : TermS) (s : ShS) (n : Nat) (L1 : List MadeS) (ht : t.Ok) (hn : s.n < 1000) (hb : shB A t s = true) (ho : OutsOk t s) (hL : L1 = sortM (osAll t s)) (hl : n = L1.length) (h0 : n ≠ 0) :
    evF (E96 A) 20 9 [.agg t.c, .agg s.c] ⟨0, []⟩ (outM 0 (.ret (.tuple [.agg [.int .i64 s.num, .nslice ⟨0, 0, 0, 0, 0⟩ 130 1 1, .nslice ⟨1, 0, 132, 0, 0⟩ 132 n n], .int .i64 0])) 2 [(0, .flat (InS.c (inOf t))), (1, .rows 132 n (outRows (mOuts L1)))]) := by
  refine @Eq.mpr _ (let q1 := t.fund;
 let q2 := t.index;
 let q3 := t.cap;
 let q4 := t.dust;
 let q5 := t.fee;
 let q6 := t.delay;
 let q7 := t.k0;
 let q8 := t.k1;
 let q9 := TermS.mk q1 q2 q3 q4 q5 q6 q7 q8;
 let q10 := s.num;
 let q11 := s.n;
 let q12 := iteB (decide ((0 : Int) = q10)) False False;
 let q13 := decide (q10 = q10);
 let q14 := InS.mk q1 q2 (1 : Int) zero32 zero32 zero32;
 let q15 := inOf t;
 TermS.Ok q9 ∧
 ∃ (s_1 : ShS),
 let q31 := [s.a0, s.a1];
 ((s_1.num = q10 ∧ s_1.owner = s.owner ∧ s_1.point = s.point ∧ q31 = [s_1.a0, s_1.a1]) ∧ (q11 = q11 ∧ s_1.n = q11) ∧ ∀ (i : Nat), i < q11 → pRows s.g i = PendS.c (s_1.g i)) ∧
 s_1.n < (1000 : Nat) ∧
 iteB ((if shB A q9 s_1 = true then (0 : Int) else (2 : Int)) != (0 : Int)) q12
 (∃ (s_2 : ShS),
 ((s_2.num = q10 ∧ s_2.owner = s.owner ∧ s_2.point = s.point ∧ q31 = [s_2.a0, s_2.a1]) ∧ (q11 = q11 ∧ s_2.n = q11) ∧ ∀ (i : Nat), i < q11 → pRows s.g i = PendS.c (s_2.g i)) ∧
 OutsOk q9 s_2 ∧
 ∀ (n_1 : Nat),
 let q33 := decide (n_1 = n);
 ∀ (L : List MadeS), L = sortM (osAll q9 s_2) → n_1 = List.length L → iteB q13 (q1 = q1 ∧ iteB (decide (q2 = q2)) (iteB (decide (q3 = q3)) (iteB (decide (q4 = q4)) (iteB (decide (q5 = q5)) (iteB (decide (q6 = q6)) (q7 = q7 ∧ q8 = q8 ∧ iteB (decide ((0 : Nat) + n_1 ≤ n_1)) ((∀ (i : Nat), i < n_1 → true = true) ∧ ∃ (L_1 : List MadeS), n_1 = n_1 ∧ shiftZ (0 : Nat) (mRows L) = mRows L_1 ∧ n_1 < (1000 : Nat) ∧ (n_1 = (0 : Nat) → q12) ∧ (n_1 ≠ (0 : Nat) → iteB q13 (iteB q33 (iteB (decide (n ≤ n_1)) (q14.name = q15.name ∧ iteB (decide (q14.index = q15.index)) (q14.tag = q15.tag ∧ q14.also = q15.also ∧ q14.secret = q15.secret ∧ iteB q33 (RowsEq (0 : Nat) [((1 : Nat), (5 : Nat)), ((0 : Nat), (4 : Nat))] n (outRows (mOuts L1)) (outRows (mOuts L_1)) ∧ True) False) False) False) False) False)) False) False) False) False) False) False) False)) (by kernel_rfl) ?_
  conv => zeta
  try simp only [need_eq]
  try simp only [nope_eq]
  try simp only [iteD_eq]
  try simp only [iteT_eq]
  try simp only [iteF_eq]
  try simp only [iteE_eq]
  try simp only [Int.toNat_natCast, Nat.zero_add, true_and, and_true, Nat.le_refl]
  have e0 : (TermS.mk t.fund t.index t.cap t.dust t.fee t.delay t.k0 t.k1) = t := rfl
  rw [e0]
  refine ⟨ht, s, ⟨⟨rfl, rfl, rfl, rfl⟩, rfl, fun _ _ => rfl⟩, hn, fun k => ?_, fun _ => ⟨s, ⟨⟨rfl, rfl, rfl, rfl⟩, rfl, fun _ _ => rfl⟩, ho, fun m L hL' hm => ?_⟩⟩
  · rw [ite_ne.1, hb] at k; cases k
  · have e1 : L = L1 := hL'.trans hL.symm
    subst e1
    have e2 : m = n := hm.trans hl.symm
    subst e2
    have hlen := ho.len
    rw [hl, hL, sortM_len] at h0
    have h20 : m < 1000 := by rw [hl, hL, sortM_len]; omega
    refine ⟨fun _ _ => trivial, L, rfl, h20, fun h => ?_, fun _ => ⟨rfl, Nat.le_refl _, rfl, rfl, rfl, rfl, rfl, rfl, outRowsEq fun _ _ => rfl⟩⟩
    exfalso
    rw [hl, hL, sortM_len] at h
    exact h0 h
def coF (A : List Int → Int × Int) : FSumm := fun args h K => viewL none h true 20 args fun a => match a with
  | [.agg [.arr .u8 32 fu, .int .i64 ix, .int .i64 ca, .int .i64 du, .int .i64 fe, .int .i64 de, .arr .u8 32 k0, .arr .u8 32 k1], .agg l] => (TermS.Ok ⟨fu, ix, ca, du, fe, de, k0, k1⟩) ∧ ∃ s, isSh l s ∧ s.Ok ∧ s.n < 1000 ∧ (shB A ⟨fu, ix, ca, du, fe, de, k0, k1⟩ s = false → K (.ret (.tuple [.agg txZ, .int .i64 2])) h) ∧
    (shB A ⟨fu, ix, ca, du, fe, de, k0, k1⟩ s = true → ((osAll ⟨fu, ix, ca, du, fe, de, k0, k1⟩ s).length = 0 → K (.ret (.tuple [.agg txZ, .int .i64 180])) h) ∧
      ∀ n L, L = sortM (osAll ⟨fu, ix, ca, du, fe, de, k0, k1⟩ s) → n = L.length → n ≠ 0 → K (.ret (.tuple [.agg [.int .i64 s.num, .nslice ⟨h.next, 0, 0, 0, 0⟩ 130 1 1, .nslice ⟨h.next + 1, 0, 132, 0, 0⟩ 132 n n], .int .i64 0])) ⟨h.next + 2, (h.next, .flat (InS.c ⟨fu, ix, 1, zero32, zero32, zero32⟩)) :: (h.next + 1, .rows 132 n (outRows (mOuts L))) :: h.bs⟩)
  | _ => False
theorem coF_ok (args : List AV) (h : Heap) (K : KO) (hl : coF addM args h K) : CallsA PP 9 args h K := by
  refine Pure.fsumm (d := 20) (viewL_weak _ _ _ _ _ hl fun a ha => ?_)
  split at ha
  · rename_i fu ix ca du fe de k0 k1 l
    obtain ⟨ht, s, hs, hsok, hn, h1, h2⟩ := ha
    cases hc : shB addM ⟨fu, ix, ca, du, fe, de, k0, k1⟩ s with
    | false => exact ⟨_, _, _, _, (Pure.evM E96_ok (co_1 _ ⟨_, _, _, _, _, _, _, _⟩ s ht hn hc)).conv (fun E r hr => hr.head (fun _ hc => hc) (fun _ hc => hc.head (fun _ hc => hs.rel hc) (fun _ hc => hc))), rfl, trivial, h1 hc⟩
    | true =>
      obtain ⟨h2, h3⟩ := h2 hc
      have ho := outsOk ht hsok hn hc
      rcases Nat.eq_zero_or_pos (osAll ⟨fu, ix, ca, du, fe, de, k0, k1⟩ s).length with h0 | h0
      · exact ⟨_, _, _, _, (Pure.evM E96_ok (co_2 _ ⟨_, _, _, _, _, _, _, _⟩ s _ _ ht hn hc ho rfl rfl (by rw [sortM_len]; exact h0))).conv (fun E r hr => hr.head (fun _ hc => hc) (fun _ hc => hc.head (fun _ hc => hs.rel hc) (fun _ hc => hc))), rfl, trivial, h2 h0⟩
      · have hn0 : (sortM (osAll ⟨fu, ix, ca, du, fe, de, k0, k1⟩ s)).length ≠ 0 := by rw [sortM_len]; omega
        exact ⟨_, _, _, _, (Pure.evM E96_ok (co_3 _ ⟨_, _, _, _, _, _, _, _⟩ s _ _ ht hn hc ho rfl rfl hn0)).conv (fun E r hr => hr.head (fun _ hc => hc) (fun _ hc => hc.head (fun _ hc => hs.rel hc) (fun _ hc => hc))), rfl, ⟨by decide, .flat _ rfl, by decide, .rows _ _ _ (fun i _ => (mOuts _ i).plainC), trivial⟩, h3 _ _ rfl rfl hn0⟩
  · exact ha.elim
end Go.Tk
end
section
namespace Go.Tk
def plK (L : List MadeS) : Nat → AV := fun j => .int .i64 (L.getD j made0).what
def plV : Nat → AV := fun j => .int .i64 ((j + 1 : Nat) : Int)
def pl1S (L : List MadeS) (n : Nat) (sh : List AV) (i : Nat) : St := ⟨59, [(27, .int .i64 i), (26, .int .i64 n), (25, .nslice ⟨2, 0, 134, 0, 0⟩ 134 n n), (8, .map (some 0)), (3, .ptr (some ⟨1, 0, 0, 0, 0⟩)), (4, .nilslice)], ⟨3, [(0, .fmap i (plK L) plV), (1, .flat sh), (2, .rows 134 n (mRows L))]⟩, []⟩
def pl1E (L : List MadeS) (sh : List AV) (i : Nat) : St := ⟨59, [(8, .map (some 0)), (3, .ptr (some ⟨1, 0, 0, 0, 0⟩)), (4, .nilslice)], ⟨2, [(0, .fmap i (plK L) plV), (1, .flat sh)]⟩, []⟩
set_option maxRecDepth 100000 in
set_option maxHeartbeats 0 in
theorem keyI (a b : Int)  :
    KeyEq PP 3 (.int .i64 a) (.int .i64 b) := by
  refine @Eq.mpr _ ((a == b) = eqKey (AV.int IntKind.i64 a) (AV.int IntKind.i64 b)) (by kernel_rfl) ?_
  try simp only [need_eq]
  try simp only [nope_eq]
  try simp only [iteD_eq]
  try simp only [iteT_eq]
  try simp only [iteF_eq]
  try simp only [iteE_eq]
  try simp only [Int.toNat_natCast, Nat.zero_add, true_and, and_true, Nat.le_refl]
  simp [eqKey, eqCell]
theorem keysAtI (x : Int) (f : Nat → Int) (i : Nat) : KeysAt PP 3 (.int .i64 x) i (fun j => .int .i64 (f j)) := ⟨fun _ _ => keyI _ _⟩
theorem plMaps {k : Nat} {τ : Ren} {n : Nat} {L : List MadeS} {kf vf : Nat → AV} (h : ∀ j, j < n → kf j = plK L j ∧ vf j = plV j) : MapsEq k τ n (plK L) plV kf vf := ⟨fun j hj => by
  obtain ⟨h1, h2⟩ := h j hj
  rw [h1, h2]
  unfold plK plV
  constructor <;> simp [eqV, need, iteB]⟩
set_option maxRecDepth 100000 in
set_option maxHeartbeats 0 in
theorem pl_1 (L : List MadeS) (n i : Nat) (s : ShS) (Z1 Z2 : Prop) (hn : n < 1000) (hi : i ≤ n) (hd : i < n → ∀ j, j < i → (L.getD j made0).what ≠ (L.getD i made0).what) (h1 : i < n → Z1) (h2 : i = n → Z2) :
    roundE G0 20 10 0 0 (pl1S L n s.c i) (rdM 0 0 9 (pl1S L n s.c (i + 1)) (pl1E L s.c i) (pl1E L s.c i) (pl1E L s.c i) Z1 Z2 False False) := by
  refine @Eq.mpr _ (let q1 := (0 : Nat) + Int.toNat (↑i : Int);
 let q2 := AV.int IntKind.i64 (List.getD L q1 made0).what;
 let q3 := plK L;
 let q4 := firstN (fun (i : Nat) => eqKey q2 (AV.int IntKind.i64 (List.getD L i made0).what)) i;
 let q5 := IntKind.wrap IntKind.i64 ((↑i : Int) + (1 : Int));
 let q6 := i + (1 : Nat);
 let q7 := decide (q5 = (↑q6 : Int));
 let q8 := decide ((↑n : Int) = (↑n : Int));
 let q9 := decide (n = n);
 let q10 := decide (n ≤ n);
 let q11 := [((1 : Nat), (1 : Nat)), ((0 : Nat), (0 : Nat)), ((2 : Nat), (2 : Nat))];
 let q12 := AV.int IntKind.i64 q5;
 let q13 := decide (s.num = s.num);
 let q14 := decide (s.owner = s.owner);
 let q15 := s.point = s.point;
 let q16 := [s.a0, s.a1];
 let q17 := q16 = q16;
 let q18 := decide (s.n = s.n);
 let q19 := pRows s.g;
 let q20 := q19 = q19;
 let q21 := iteB q13 (iteB q14 (q15 ∧ q17 ∧ iteB q18 (q20 ∧ iteB q18 (iteB q9 (RowsEq (0 : Nat) q11 n (mRows L) (mRows L) ∧ Z1) False) False) False) False) False;
 iteB (decide ((↑i : Int) < (↑n : Int))) (iteB (decide ((0 : Int) ≤ (↑i : Int) ∧ (↑i : Int) < (↑n : Int))) (iteB (decide (q1 < n)) (KeysAt PP (3 : Nat) q2 i q3 ∧ iteB (Nat.blt q4 i) (iteB q7 (iteB q8 (iteB q9 (iteB q10 (iteB (decide (i = q6)) (MapsEq (0 : Nat) q11 q6 q3 plV q3 (putF plV q4 q12) ∧ q21) False) False) False) False) False) (iteB q7 (iteB q8 (iteB q9 (iteB q10 (iteB (decide (q6 = q6)) (MapsEq (0 : Nat) q11 q6 q3 plV (putF q3 i q2) (putF plV i q12) ∧ q21) False) False) False) False) False)) False) False) (iteB (decide (i = i)) (MapsEq (0 : Nat) [((1 : Nat), (1 : Nat)), ((0 : Nat), (0 : Nat))] i q3 plV q3 plV ∧ iteB q13 (iteB q14 (q15 ∧ q17 ∧ iteB q18 (q20 ∧ iteB q18 Z2 False) False) False) False) False)) (by kernel_rfl) ?_
  conv => zeta
  try simp only [need_eq]
  try simp only [nope_eq]
  try simp only [iteD_eq]
  try simp only [iteT_eq]
  try simp only [iteF_eq]
  try simp only [iteE_eq]
  try simp only [Int.toNat_natCast, Nat.zero_add, true_and, and_true, Nat.le_refl]
  refine ⟨fun hc => ?_, fun hc => ⟨plMaps fun _ _ => ⟨rfl, rfl⟩, h2 (by omega)⟩⟩
  have hlt : i < n := by omega
  have hw : IntKind.i64.wrap ((i : Int) + 1) = ((i + 1 : Nat) : Int) := by rw [w64 (by omega)]; omega
  have hq : firstN (fun j => eqKey (.int .i64 (L.getD i made0).what) (.int .i64 (L.getD j made0).what)) i = i := firstN_none fun j hj => by
    have := hd hlt j hj
    simp only [eqKey, eqCell, decide_true, Bool.true_and, beq_eq_false_iff_ne, ne_eq]
    exact fun h => this h.symm
  refine ⟨by omega, by omega, keysAtI _ _ _, fun hb => ?_, fun _ => ⟨hw, plMaps fun j hj => ?_, mRows_eq fun _ _ => rfl, h1 hlt⟩⟩
  · have hb : Nat.blt (firstN (fun j => eqKey (.int .i64 (L.getD i made0).what) (.int .i64 (L.getD j made0).what)) i) i = true := hb
    rw [hq] at hb
    have := of_blt hb
    omega
  · rw [hw]
    unfold putF
    rcases Nat.lt_or_ge j i with h | h
    · rw [beq_false_of_ne (by omega)]; exact ⟨rfl, rfl⟩
    · have e : j = i := by omega
      subst e
      rw [Nat.beq_refl]
      exact ⟨rfl, rfl⟩
end Go.Tk
end
section
namespace Go.Tk
structure WhatOk (L : List MadeS) (n : Nat) : Prop where
  ne : L.Pairwise fun a b => a.what ≠ b.what
  lo : ∀ m ∈ L, -2 ≤ m.what ∧ m.what < n
theorem osInit_what {t : TermS} {point own other : List Int} {a b : Int} : WhatOk (osInit t point own other a b) 0 := by
  unfold osInit
  constructor
  · split <;> split <;> simp
  · intro m hm
    rw [List.mem_append] at hm
    rcases hm with hm | hm <;> split at hm <;> simp at hm <;> subst hm <;> simp
theorem osList_what {t : TermS} {s : ShS} {own other : List Int} {O0 : List MadeS} (h : WhatOk O0 0) : ∀ i, WhatOk (osList t s own other O0 i) i
  | 0 => h
  | i + 1 => by
    obtain ⟨h1, h2⟩ := osList_what (t := t) (s := s) (own := own) (other := other) h i
    simp only [osList]
    split
    · constructor
      · rw [List.pairwise_append]
        refine ⟨h1, by simp, fun a ha b hb => ?_⟩
        rw [List.mem_singleton] at hb
        subst hb
        have := (h2 a ha).2
        show a.what ≠ (i : Int)
        omega
      · intro m hm
        rw [List.mem_append, List.mem_singleton] at hm
        rcases hm with hm | hm
        · have := h2 m hm; omega
        · subst hm
          show -2 ≤ (i : Int) ∧ (i : Int) < _
          omega
    · rw [List.append_nil]
      exact ⟨h1, fun m hm => by have := h2 m hm; omega⟩
theorem osAll_what (t : TermS) (s : ShS) : WhatOk (osAll t s) s.n := by
  unfold osAll
  split
  · exact osList_what osInit_what _
  · exact osList_what osInit_what _
theorem sortM_what {L : List MadeS} {n : Nat} (h : WhatOk L n) : WhatOk (sortM L) n := by
  have hp : (sortM L).Perm L := by
    have := sortL_perm (lt := ltM) (l := L) (acc := [])
    rwa [List.nil_append] at this
  exact ⟨(hp.pairwise_iff (fun h => Ne.symm h)).2 h.ne, fun m hm => h.lo m (hp.mem_iff.1 hm)⟩
theorem WhatOk.at {L : List MadeS} {n : Nat} (h : WhatOk L n) {i j : Nat} (hj : j < i) (hi : i < L.length) : (L.getD j made0).what ≠ (L.getD i made0).what := by
  have := (List.pairwise_iff_getElem.1 h.ne) j i (by omega) hi hj
  rw [List.getD_eq_getElem?_getD, List.getD_eq_getElem?_getD, List.getElem?_eq_getElem hi, List.getElem?_eq_getElem (by omega)]
  exact this
theorem WhatOk.lo' {L : List MadeS} {n : Nat} (h : WhatOk L n) {i : Nat} (hi : i < L.length) : -2 ≤ (L.getD i made0).what ∧ (L.getD i made0).what < n := by
  rw [List.getD_eq_getElem?_getD, List.getElem?_eq_getElem hi]
  exact h.lo _ (List.getElem_mem _)
def plN (L : List MadeS) (w : Int) : Nat → Int
  | 0 => -1
  | i + 1 => if (L.getD i made0).what = w then (i : Int) else plN L w i
theorem plN_cases (L : List MadeS) (w : Int) : ∀ i, (plN L w i = -1 ∧ ∀ j, j < i → (L.getD j made0).what ≠ w) ∨ ∃ j, j < i ∧ (L.getD j made0).what = w ∧ plN L w i = j
  | 0 => .inl ⟨rfl, fun j hj => absurd hj (Nat.not_lt_zero j)⟩
  | i + 1 => by
    unfold plN
    by_cases h : (L.getD i made0).what = w
    · rw [if_pos h]; exact .inr ⟨i, Nat.lt_succ_self _, h, rfl⟩
    · rw [if_neg h]
      rcases plN_cases L w i with ⟨h1, h2⟩ | ⟨j, h1, h2, h3⟩
      · refine .inl ⟨h1, fun j hj => ?_⟩
        rcases Nat.lt_or_ge j i with h0 | h0
        · exact h2 j h0
        · have e : j = i := by omega
          rw [e]; exact h
      · exact .inr ⟨j, by omega, h2, h3⟩
def plF (L : List MadeS) (w : Int) (n : Nat) : Nat := firstN (fun j => eqKey (.int .i64 w) (plK L j)) n
theorem plK_eq {L : List MadeS} {w : Int} {j : Nat} : eqKey (.int .i64 w) (plK L j) = decide (w = (L.getD j made0).what) := by
  unfold plK
  rw [Bool.eq_iff_iff]
  simp [eqKey, eqCell]
theorem plF_lt {L : List MadeS} {w : Int} {n k : Nat} (h : WhatOk L k) (hn : n = L.length) (hl : plF L w n < n) : plN L w n = (plF L w n : Int) := by
  unfold plF at *
  rcases firstN_cases (fun j => eqKey (.int .i64 w) (plK L j)) n with ⟨h1, _⟩ | ⟨_, h2, _⟩
  · omega
  · rw [plK_eq] at h2
    have h2 := of_decide_eq_true h2
    rcases plN_cases L w n with ⟨_, h4⟩ | ⟨j, h4, h5, h6⟩
    · exact absurd h2.symm (h4 _ hl)
    · rw [h6]
      rcases Nat.lt_trichotomy j (firstN (fun j => eqKey (.int .i64 w) (plK L j)) n) with g | g | g
      · exact absurd (h5.trans h2) (h.at g (by omega))
      · rw [g]
      · exact absurd (h2.symm.trans h5.symm) (h.at g (by omega))
theorem plF_no {L : List MadeS} {w : Int} {n : Nat} (hl : ¬ plF L w n < n) : plN L w n = -1 := by
  unfold plF at *
  rcases firstN_cases (fun j => eqKey (.int .i64 w) (plK L j)) n with ⟨_, h1⟩ | ⟨h2, _⟩
  · rcases plN_cases L w n with ⟨h4, _⟩ | ⟨j, h4, h5, h6⟩
    · exact h4
    · have := h1 j h4
      rw [plK_eq] at this
      exact absurd h5.symm (of_decide_eq_false this)
  · exact absurd h2 hl
end Go.Tk
end
section
namespace Go.Tk
def shSum (s : ShS) : Nat → Int
  | 0 => s.a0 + s.a1
  | i + 1 => shSum s i + (s.g i).amount
def dupAt (g : Nat → PendS) (i k : Nat) : Bool := decide ((g k).frm = (g i).frm) && decide ((g k).id = (g i).id)
theorem dup_eq (g : Nat → PendS) (i k : Nat) : eqKey (pKey (g i)) (pKey (g k)) = dupAt g i k := by
  unfold pKey dupAt
  rw [Bool.eq_iff_iff]
  simp [eqKey, eqCells, eqCell]
  constructor
  · rintro ⟨h1, h2⟩; exact ⟨h1.symm, h2.symm⟩
  · rintro ⟨h1, h2⟩; exact ⟨h1.symm, h2.symm⟩
theorem pDup_iff (g : Nat → PendS) (i : Nat) : pDup g i = i ↔ ∀ k, k < i → dupAt g i k = false := by
  unfold pDup
  constructor
  · intro h k hk
    rcases firstN_cases (fun j => eqKey (pKey (g i)) (pKey (g j))) i with ⟨_, h2⟩ | ⟨h2, _⟩
    · rw [← dup_eq]; exact h2 k hk
    · omega
  · intro h
    exact firstN_none fun j hj => by rw [dup_eq]; exact h j hj
structure shRgo (t : TermS) (s : ShS) (i : Nat) : Prop where
  p : pendB (s.g i) = true
  sum : shSum s i ≤ t.cap
  dup : ∀ k, k < i → dupAt s.g i k = false
theorem pendB_pos {p : PendS} (h : pendB p = true) : 0 < p.amount ∧ p.amount ≤ 1125899906842624 ∧ (p.frm = 0 ∨ p.frm = 1) := by
  unfold pendB at h
  simp only [Bool.and_eq_true, decide_eq_true_eq] at h
  omega
theorem shSum_mono (s : ShS) : ∀ {i n : Nat}, i ≤ n → (∀ j, j < n → pendB (s.g j) = true) → shSum s i ≤ shSum s n
  | i, 0, h, _ => by have : i = 0 := by omega
                     subst this; exact Int.le_refl _
  | i, n + 1, h, hp => by
    rcases Nat.lt_or_ge n i with h1 | h1
    · have : i = n + 1 := by omega
      subst this; exact Int.le_refl _
    · have := shSum_mono s h1 (fun j hj => hp j (by omega))
      have h2 := pendB_pos (hp n (by omega))
      simp only [shSum]
      omega
theorem shX_sum (s : ShS) : ∀ n, (shX s.a0 s.a1 s.g n).sum = shSum s n
  | 0 => by simp [shX, shSum]
  | n + 1 => by
    rw [shX_succ, List.sum_append, shX_sum s n]
    simp [shSum]
theorem shX_get (a0 a1 : Int) (g : Nat → PendS) (n : Nat) : (∀ j, j < n + 2 → overAt 1125899906842624 (shX a0 a1 g n) j = false) ↔ (0 ≤ a0 ∧ a0 ≤ 1125899906842624) ∧ (0 ≤ a1 ∧ a1 ≤ 1125899906842624) ∧ ∀ i, i < n → (0 ≤ (g i).amount ∧ (g i).amount ≤ 1125899906842624) := by
  have e : ∀ j, overAt 1125899906842624 (shX a0 a1 g n) (j + 2) = overI 1125899906842624 (((List.range n).map fun j => (g j).amount).getD j 0) := fun j => by
    unfold overAt shX; simp
  have e0 : overAt 1125899906842624 (shX a0 a1 g n) 0 = overI 1125899906842624 a0 := by unfold overAt shX; simp
  have e1 : overAt 1125899906842624 (shX a0 a1 g n) 1 = overI 1125899906842624 a1 := by unfold overAt shX; simp
  have ov : ∀ x, overI 1125899906842624 x = false ↔ 0 ≤ x ∧ x ≤ 1125899906842624 := fun x => by
    unfold overI; rw [decide_eq_false_iff_not]; omega
  have eg : ∀ j, j < n → ((List.range n).map fun j => (g j).amount).getD j 0 = (g j).amount := fun j hj => by
    simp [List.getD_eq_getElem?_getD, hj]
  constructor
  · intro h
    refine ⟨(ov _).1 (e0 ▸ h 0 (by omega)), (ov _).1 (e1 ▸ h 1 (by omega)), fun i hi => ?_⟩
    have := h (i + 2) (by omega)
    rw [e, eg i hi] at this
    exact (ov _).1 this
  · rintro ⟨h1, h2, h3⟩ j hj
    match j with
    | 0 => rw [e0]; exact (ov _).2 h1
    | 1 => rw [e1]; exact (ov _).2 h2
    | j + 2 => rw [e, eg j (by omega)]; exact (ov _).2 (h3 j (by omega))
theorem shX_all (a0 a1 : Int) (g : Nat → PendS) (n : Nat) : allIn 1125899906842624 (shX a0 a1 g n) = true ↔ (0 ≤ a0 ∧ a0 ≤ 1125899906842624) ∧ (0 ≤ a1 ∧ a1 ≤ 1125899906842624) ∧ ∀ i, i < n → (0 ≤ (g i).amount ∧ (g i).amount ≤ 1125899906842624) := by
  rw [← shX_get]
  unfold allIn
  rw [Bool.not_eq_true', List.any_eq_false]
  simp only [List.mem_range, shX_len, Bool.not_eq_true]
theorem shR_iff {t : TermS} {s : ShS} : shB addM t s = true ↔ termB t = true ∧ (0 ≤ s.num ∧ s.num ≤ 2147483647) ∧ (0 ≤ s.owner ∧ s.owner ≤ 1) ∧ (0 ≤ s.a0 ∧ s.a0 ≤ 1125899906842624) ∧ (0 ≤ s.a1 ∧ s.a1 ≤ 1125899906842624) ∧ t.fee ≤ s.a0 ∧ (∀ i, i < s.n → shRgo t s i) ∧ shSum s s.n = t.cap ∧ (shM s.g s.n).getD 0 0 ≤ 8 ∧ (shM s.g s.n).getD 1 0 ≤ 8 := by
  rw [shB_iff]
  constructor
  · rintro ⟨h1, h2, h3, h4, h5, h6, h7, h8, h9⟩
    unfold addM at h8 h9
    by_cases ha : allIn 1125899906842624 (shX s.a0 s.a1 s.g s.n) = true
    · rw [if_pos ha] at h8 h9
      by_cases hb : (shX s.a0 s.a1 s.g s.n).sum ≤ 1125899906842624
      · rw [if_pos hb] at h9
        obtain ⟨a1, a2, a3⟩ := (shX_all _ _ _ _).1 ha
        rw [shX_sum] at h9
        have h9 : shSum s s.n = t.cap := h9
        exact ⟨h1, h2, h3, a1, a2, h4, fun i hi => ⟨(h5 i hi).1, by have := shSum_mono s (Nat.le_of_lt hi) (fun j hj => (h5 j hj).1); omega, (pDup_iff _ _).1 (h5 i hi).2⟩, h9, h6, h7⟩
      · rw [if_neg hb] at h8; simp at h8
    · rw [if_neg ha] at h8; simp at h8
  · rintro ⟨h1, h2, h3, a1, a2, h4, h5, h9, h6, h7⟩
    have ha : allIn 1125899906842624 (shX s.a0 s.a1 s.g s.n) = true := (shX_all _ _ _ _).2 ⟨a1, a2, fun i hi => by have := pendB_pos (h5 i hi).p; omega⟩
    have hc : t.cap ≤ 1125899906842624 := by
      unfold termB at h1
      simp only [Bool.and_eq_true, decide_eq_true_eq] at h1
      omega
    have hb : (shX s.a0 s.a1 s.g s.n).sum ≤ 1125899906842624 := by rw [shX_sum]; omega
    refine ⟨h1, h2, h3, h4, fun i hi => ⟨(h5 i hi).p, (pDup_iff _ _).2 (h5 i hi).dup⟩, h6, h7, ?_, ?_⟩
    · unfold addM; rw [if_pos ha, if_pos hb]
    · unfold addM; rw [if_pos ha, if_pos hb]; show (shX s.a0 s.a1 s.g s.n).sum = _; rw [shX_sum, h9]
theorem shSum_lo {t : TermS} {s : ShS} (h1 : 0 ≤ s.a0 ∧ s.a0 ≤ 1125899906842624) (h2 : 0 ≤ s.a1 ∧ s.a1 ≤ 1125899906842624) : ∀ i, (∀ j, j < i → shRgo t s j) → 0 ≤ shSum s i ∧ (0 < i → shSum s i ≤ t.cap + 1125899906842624) ∧ (i = 0 → shSum s i ≤ 2251799813685248)
  | 0, _ => by simp only [shSum]; omega
  | i + 1, h => by
    obtain ⟨k1, _⟩ := shSum_lo h1 h2 i (fun j hj => h j (by omega))
    have k2 := h i (by omega)
    have k3 := pendB_pos k2.p
    have k4 := k2.sum
    simp only [shSum]
    omega
end Go.Tk
end
section
namespace Go.Tk
def plX (L : List MadeS) (n i : Nat) : List Int := (List.range i).map fun w : Nat => plN L (w : Int) n
theorem plX_succ (L : List MadeS) (n i : Nat) : plX L n (i + 1) = plX L n i ++ [plN L (i : Int) n] := by simp [plX, List.range_succ]
theorem plX_len (L : List MadeS) (n i : Nat) : (plX L n i).length = i := by simp [plX]
def pl2S (L : List MadeS) (n m : Nat) (X : List Int) (i : Nat) : St := ⟨59, [(41, .int .i64 i), (40, .int .i64 m), (4, .nslice ⟨1, 0, 0, 0, 0⟩ 1 i i), (8, .map (some 0))], ⟨2, [(0, .fmap n (plK L) plV), (1, .ints .i64 X)]⟩, []⟩
def pl2E (L : List MadeS) (n : Nat) (X : List Int) (i : Nat) : St := ⟨59, [(4, .nslice ⟨1, 0, 0, 0, 0⟩ 1 i i), (8, .map (some 0))], ⟨2, [(0, .fmap n (plK L) plV), (1, .ints .i64 X)]⟩, []⟩
theorem plMaps' {k : Nat} {τ : Ren} {n : Nat} {L : List MadeS} : MapsEq k τ n (plK L) plV (plK L) plV := plMaps fun _ _ => ⟨rfl, rfl⟩
set_option maxRecDepth 100000 in
set_option maxHeartbeats 0 in
theorem pl_2 (L : List MadeS) (n m i : Nat) (X X1 : List Int) (x : Int) (Z1 Z2 : Prop) (hm : m < 1000) (hi : i ≤ m) (hn : n < 1000) (hnl : n = L.length) (hw : WhatOk L m) (hX : X.length = i) (hX1 : X1 = X ++ [x]) (hx : x = plN L (i : Int) n) (h1 : i < m → Z1) (h2 : i = m → Z2) :
    roundE G0 20 10 2 0 (pl2S L n m X i) (rdM 0 2 9 (pl2S L n m X1 (i + 1)) (pl2E L n X i) (pl2E L n X i) (pl2E L n X i) Z1 Z2 False False) := by
  refine @Eq.mpr _ (let q1 := AV.int IntKind.i64 (↑i : Int);
 let q2 := plK L;
 let q3 := firstN (fun (i : Nat) => eqKey q1 (AV.int IntKind.i64 (List.getD L i made0).what)) n;
 let q4 := decide (IntKind.i64 = IntKind.i64 ∧ List.length X = i);
 let q5 := X ++ [IntKind.wrap IntKind.i64 ((↑(q3 + (1 : Nat)) : Int) - (1 : Int))];
 let q6 := List.length q5;
 let q7 := i + (1 : Nat);
 let q8 := decide (IntKind.wrap IntKind.i64 ((↑i : Int) + (1 : Int)) = (↑q7 : Int));
 let q9 := decide ((↑m : Int) = (↑m : Int));
 let q10 := decide (n = n);
 let q11 := MapsEq (0 : Nat) [((0 : Nat), (0 : Nat)), ((1 : Nat), (3 : Nat))] n q2 plV q2 plV;
 let q12 := X ++ [(-1 : Int)];
 let q13 := List.length q12;
 iteB (decide ((↑i : Int) < (↑m : Int))) (KeysAt PP (3 : Nat) q1 n q2 ∧ iteB (Nat.blt q3 n) (iteB q4 (iteB (decide (q6 * (8 : Nat) ≤ (140737488355328 : Nat))) (iteB q8 (iteB q9 (iteB (decide (q6 = q7)) (iteB (decide (q7 ≤ q6)) (iteB q10 (q11 ∧ q5 = X1 ∧ Z1) False) False) False) False) False) False) False) (iteB q4 (iteB (decide (q13 * (8 : Nat) ≤ (140737488355328 : Nat))) (iteB q8 (iteB q9 (iteB (decide (q13 = q7)) (iteB (decide (q7 ≤ q13)) (iteB q10 (q11 ∧ q12 = X1 ∧ Z1) False) False) False) False) False) False) False)) (iteB (decide (i = i)) (iteB (decide (i ≤ i)) (iteB q10 (MapsEq (0 : Nat) [((0 : Nat), (0 : Nat)), ((1 : Nat), (1 : Nat))] n q2 plV q2 plV ∧ X = X ∧ Z2) False) False) False)) (by kernel_rfl) ?_
  conv => zeta
  try simp only [need_eq]
  try simp only [nope_eq]
  try simp only [iteD_eq]
  try simp only [iteT_eq]
  try simp only [iteF_eq]
  try simp only [iteE_eq]
  try simp only [Int.toNat_natCast, Nat.zero_add, true_and, and_true, Nat.le_refl]
  have e : firstN (fun j => eqKey (AV.int .i64 (i : Int)) (AV.int .i64 (L.getD j made0).what)) n = plF L (i : Int) n := rfl
  rw [e]
  refine ⟨fun hc => ?_, fun hc => ⟨plMaps', h2 (by omega)⟩⟩
  have hlt : i < m := by omega
  have hwr : IntKind.i64.wrap ((i : Int) + 1) = ((i + 1 : Nat) : Int) := by rw [w64 (by omega)]; omega
  refine ⟨keysAtI _ _ _, fun hb => ?_, fun hb => ?_⟩
  · have hb := of_blt hb
    have h3 := plF_lt hw hnl hb
    have e2 : IntKind.i64.wrap (((plF L (i : Int) n + 1 : Nat) : Int) - 1) = x := by rw [w64 (by omega)]; omega
    rw [e2]
    exact ⟨hX, by simp; omega, hwr, by simp [hX], by simp [hX], plMaps', hX1.symm, h1 hlt⟩
  · have hb : ¬ plF L (i : Int) n < n := fun h => by rw [blt_of h] at hb; cases hb
    have h3 := plF_no hb
    have e2 : x = -1 := by omega
    subst e2
    exact ⟨hX, by simp; omega, hwr, by simp [hX], by simp [hX], plMaps', hX1.symm, h1 hlt⟩
noncomputable def E100 (t : TermS) (s : ShS) (A : List Int → Int × Int) (L : List MadeS) (n : Nat) : Env2 := ((((G0.withF 9 (coF A)).withF 29 ouF).withL 10 0 (goM 0 (pl1S L n s.c 0) (n < 1000 ∧ n = L.length ∧ WhatOk L s.n) (endsJ 0 n 9 (fun i => i < n) (fun i => i = n) (fun _ => False) (fun _ => False) (fun i => pl1E L s.c i) (fun i => pl1E L s.c i) (fun i => pl1E L s.c i)))).withL 10 2 (goM 0 (pl2S L n s.n [] 0) (n < 1000 ∧ n = L.length ∧ WhatOk L s.n ∧ s.n < 1000) (endsJ 2 s.n 9 (fun i => i < s.n) (fun i => i = s.n) (fun _ => False) (fun _ => False) (fun i => pl2E L n (plX L n i) i) (fun i => pl2E L n (plX L n i) i) (fun i => pl2E L n (plX L n i) i))))
theorem E100_ok (t : TermS) (s : ShS) (L : List MadeS) (n : Nat) : (E100 t s addM L n).Ok := by
  have h0 : ((G0.withF 9 (coF addM)).withF 29 ouF).Ok := Env2.withF_ok (Env2.withF_ok G0_ok coF_ok) ouF_ok
  have h1 := Env2.withL_join (H := G0) (S := goM 0 (pl1S L n s.c 0) (n < 1000 ∧ n = L.length ∧ WhatOk L s.n) (endsJ 0 n 9 (fun i => i < n) (fun i => i = n) (fun _ => False) (fun _ => False) (fun i => pl1E L s.c i) (fun i => pl1E L s.c i) (fun i => pl1E L s.c i))) h0 rfl (Env2.withGoM (f := 10) (id := 0) (N := 20) (S := fun i => pl1S L n s.c i) G0_ok (by kernel_rfl) fun hC => ⟨rfl, fun i hi _ => pl_1 L n i s _ _ hC.1 hi (fun hlt j hj => hC.2.2.at hj (by omega)) (fun h => ⟨h, h⟩) (fun h => h)⟩)
  refine Env2.withL_join (H := G0) h1 rfl ?_
  exact Env2.withGoM (N := 20) (S := fun i => pl2S L n s.n (plX L n i) i) G0_ok (by kernel_rfl) fun hC => ⟨rfl, fun i hi _ => pl_2 L n s.n i _ _ _ _ _ hC.2.2.2 hi hC.1 hC.2.1 hC.2.2.1 (plX_len L n i) (plX_succ L n i) rfl (fun h => ⟨h, h⟩) (fun h => h)⟩
set_option maxRecDepth 100000 in
set_option maxHeartbeats 0 in
theorem pf_1 (A : List Int → Int × Int) (t : TermS) (s : ShS) (L : List MadeS) (n : Nat) (ht : t.Ok) (hs : s.Ok) (hn : s.n < 1000) (hb : shB A t s = false) :
    evF (E100 t s A L n) 20 10 [.agg t.c, .agg s.c] ⟨0, []⟩ (outM 0 (.ret (.tuple [.nilslice, .int .i64 0, .int .i64 0, .int .i64 2])) 0 []) := by
  refine @Eq.mpr _ (let q1 := TermS.mk t.fund t.index t.cap t.dust t.fee t.delay t.k0 t.k1;
 let q2 := s.num;
 let q3 := s.owner;
 let q4 := s.point;
 let q5 := [s.a0, s.a1];
 let q6 := s.n;
 let q7 := [((1 : Nat), (1 : Nat)), ((0 : Nat), (4 : Nat)), ((2 : Nat), (5 : Nat))];
 let q8 := plK L;
 let q9 := decide (q6 = q6);
 let q10 := pRows s.g;
 let q11 := WhatOk L q6;
 let q12 := (↑q6 : Int);
 let q13 := AV.int IntKind.i64 (-1 : Int);
 let q14 := KeysAt PP (3 : Nat) q13 n q8;
 let q15 := firstN (fun (i : Nat) => eqKey q13 (AV.int IntKind.i64 (List.getD L i made0).what)) n;
 let q16 := Nat.blt q15 n;
 let q17 := AV.int IntKind.i64 (-2 : Int);
 let q18 := KeysAt PP (3 : Nat) q17 n q8;
 let q19 := firstN (fun (i : Nat) => eqKey q17 (AV.int IntKind.i64 (List.getD L i made0).what)) n;
 let q20 := Nat.blt q19 n;
 let q21 := (↑(q19 + (1 : Nat)) : Int);
 let q22 := (↑(q15 + (1 : Nat)) : Int);
 let q23 := q18 ∧ iteB q20 False False;
 let q24 := (False → False) ∧ (False → False);
 TermS.Ok q1 ∧
 ∃ (s : ShS),
 ((s.num = q2 ∧ s.owner = q3 ∧ s.point = q4 ∧ q5 = [s.a0, s.a1]) ∧ (q6 = q6 ∧ s.n = q6) ∧ ∀ (i : Nat), i < q6 → q10 i = PendS.c (s.g i)) ∧
 ShS.Ok s ∧
 s.n < (1000 : Nat) ∧
 (shB A q1 s = false → True) ∧
 (shB A q1 s = true →
 (List.length (osAll q1 s) = (0 : Nat) → False) ∧
 ∀ (n_1 : Nat) (L_1 : List MadeS),
 L_1 = sortM (osAll q1 s) →
 n_1 = List.length L_1 →
 n_1 ≠ (0 : Nat) →
 ∃ (s : ShS),
 ((s.num = q2 ∧ s.owner = q3 ∧ s.point = q4 ∧ q5 = [s.a0, s.a1]) ∧ (q6 = q6 ∧ s.n = q6) ∧ ∀ (i : Nat), i < q6 → q10 i = PendS.c (s.g i)) ∧
 OutsOk q1 s ∧
 ∀ (n_2 : Nat),
 let q49 := decide (n_2 = n);
 ∀ (L_2 : List MadeS),
 L_2 = sortM (osAll q1 s) →
 n_2 = List.length L_2 →
 iteB (decide ((↑n_2 : Int) = (↑n : Int)))
 (iteB q49
 (iteB (decide (n ≤ n_2))
 ((MapsEq (0 : Nat) q7 (0 : Nat) q8 plV (fun (i : Nat) => AV.top) fun (i : Nat) => AV.top) ∧
 iteB (decide (q2 = q2))
 (iteB (decide (q3 = q3))
 (q4 = q4 ∧
 q5 = q5 ∧
 iteB q9
 (q10 = q10 ∧
 iteB q9
 (iteB q49 (RowsEq (0 : Nat) q7 n (mRows L) (mRows L_2) ∧ (n < (1000 : Nat) ∧ n = List.length L ∧ q11) ∧ ∀ (i : Nat), i ≤ n → (∀ (j : Nat), j < i → (fun (i : Nat) => i < n) j) → (i = n → iteB (decide (q12 = q12)) (iteB (decide (i = n)) (MapsEq (0 : Nat) [((0 : Nat), (0 : Nat))] n q8 plV q8 plV ∧ ([] : List Int) = [] ∧ (n < (1000 : Nat) ∧ n = List.length L ∧ q11 ∧ q6 < (1000 : Nat)) ∧ ∀ (i : Nat), i ≤ q6 → (∀ (j : Nat), j < i → (fun (i : Nat) => i < q6) j) → (i = q6 → q14 ∧ iteB q16 (q18 ∧ iteB q20 (q18 ∧ iteB q20 (iteB (decide (q21 = q21)) (q14 ∧ iteB q16 (iteB (decide (q22 = q22)) (q18 ∧ iteB q20 (iteB (decide (q21 = q21)) False False) False) False) False) False) False) (q18 ∧ iteB q20 False (q14 ∧ iteB q16 (iteB (decide (q22 = q22)) q23 False) False))) (q18 ∧ iteB q20 (q18 ∧ iteB q20 (iteB (decide (q21 = q21)) (q14 ∧ iteB q16 False (q18 ∧ iteB q20 (iteB (decide (q21 = q21)) False False) False)) False) False) (q18 ∧ iteB q20 False (q14 ∧ iteB q16 False q23)))) ∧ q24) False) False) ∧ q24) False)
 False)
 False)
 False)
 False)
 False)
 False)
 False)) (by kernel_rfl) ?_
  conv => zeta
  try simp only [need_eq]
  try simp only [nope_eq]
  try simp only [iteD_eq]
  try simp only [iteT_eq]
  try simp only [iteF_eq]
  try simp only [iteE_eq]
  try simp only [Int.toNat_natCast, Nat.zero_add, true_and, and_true, Nat.le_refl]
  have e0 : (TermS.mk t.fund t.index t.cap t.dust t.fee t.delay t.k0 t.k1) = t := rfl
  rw [e0]
  refine ⟨ht, s, ⟨⟨rfl, rfl, rfl, rfl⟩, rfl, fun _ _ => rfl⟩, hs, hn, fun _ => trivial, fun k => ?_⟩
  rw [hb] at k; cases k
set_option maxRecDepth 100000 in
set_option maxHeartbeats 0 in
theorem pf_2 (A : List Int → Int × Int) (t : TermS) (s : ShS) (L : List MadeS) (n : Nat) (ht : t.Ok) (hs : s.Ok) (hn : s.n < 1000) (hb : shB A t s = true) (h0 : (osAll t s).length = 0) :
    evF (E100 t s A L n) 20 10 [.agg t.c, .agg s.c] ⟨0, []⟩ (outM 0 (.ret (.tuple [.nilslice, .int .i64 0, .int .i64 0, .int .i64 180])) 0 []) := by
  refine @Eq.mpr _ (let q1 := TermS.mk t.fund t.index t.cap t.dust t.fee t.delay t.k0 t.k1;
 let q2 := s.num;
 let q3 := s.owner;
 let q4 := s.point;
 let q5 := [s.a0, s.a1];
 let q6 := s.n;
 let q7 := [((1 : Nat), (1 : Nat)), ((0 : Nat), (4 : Nat)), ((2 : Nat), (5 : Nat))];
 let q8 := plK L;
 let q9 := decide (q6 = q6);
 let q10 := pRows s.g;
 let q11 := WhatOk L q6;
 let q12 := (↑q6 : Int);
 let q13 := AV.int IntKind.i64 (-1 : Int);
 let q14 := KeysAt PP (3 : Nat) q13 n q8;
 let q15 := firstN (fun (i : Nat) => eqKey q13 (AV.int IntKind.i64 (List.getD L i made0).what)) n;
 let q16 := Nat.blt q15 n;
 let q17 := AV.int IntKind.i64 (-2 : Int);
 let q18 := KeysAt PP (3 : Nat) q17 n q8;
 let q19 := firstN (fun (i : Nat) => eqKey q17 (AV.int IntKind.i64 (List.getD L i made0).what)) n;
 let q20 := Nat.blt q19 n;
 let q21 := (↑(q19 + (1 : Nat)) : Int);
 let q22 := (↑(q15 + (1 : Nat)) : Int);
 let q23 := q18 ∧ iteB q20 False False;
 let q24 := (False → False) ∧ (False → False);
 TermS.Ok q1 ∧
 ∃ (s : ShS),
 ((s.num = q2 ∧ s.owner = q3 ∧ s.point = q4 ∧ q5 = [s.a0, s.a1]) ∧ (q6 = q6 ∧ s.n = q6) ∧ ∀ (i : Nat), i < q6 → q10 i = PendS.c (s.g i)) ∧
 ShS.Ok s ∧
 s.n < (1000 : Nat) ∧
 (shB A q1 s = false → False) ∧
 (shB A q1 s = true →
 (List.length (osAll q1 s) = (0 : Nat) → True) ∧
 ∀ (n_1 : Nat) (L_1 : List MadeS),
 L_1 = sortM (osAll q1 s) →
 n_1 = List.length L_1 →
 n_1 ≠ (0 : Nat) →
 ∃ (s : ShS),
 ((s.num = q2 ∧ s.owner = q3 ∧ s.point = q4 ∧ q5 = [s.a0, s.a1]) ∧ (q6 = q6 ∧ s.n = q6) ∧ ∀ (i : Nat), i < q6 → q10 i = PendS.c (s.g i)) ∧
 OutsOk q1 s ∧
 ∀ (n_2 : Nat),
 let q49 := decide (n_2 = n);
 ∀ (L_2 : List MadeS),
 L_2 = sortM (osAll q1 s) →
 n_2 = List.length L_2 →
 iteB (decide ((↑n_2 : Int) = (↑n : Int)))
 (iteB q49
 (iteB (decide (n ≤ n_2))
 ((MapsEq (0 : Nat) q7 (0 : Nat) q8 plV (fun (i : Nat) => AV.top) fun (i : Nat) => AV.top) ∧
 iteB (decide (q2 = q2))
 (iteB (decide (q3 = q3))
 (q4 = q4 ∧
 q5 = q5 ∧
 iteB q9
 (q10 = q10 ∧
 iteB q9
 (iteB q49 (RowsEq (0 : Nat) q7 n (mRows L) (mRows L_2) ∧ (n < (1000 : Nat) ∧ n = List.length L ∧ q11) ∧ ∀ (i : Nat), i ≤ n → (∀ (j : Nat), j < i → (fun (i : Nat) => i < n) j) → (i = n → iteB (decide (q12 = q12)) (iteB (decide (i = n)) (MapsEq (0 : Nat) [((0 : Nat), (0 : Nat))] n q8 plV q8 plV ∧ ([] : List Int) = [] ∧ (n < (1000 : Nat) ∧ n = List.length L ∧ q11 ∧ q6 < (1000 : Nat)) ∧ ∀ (i : Nat), i ≤ q6 → (∀ (j : Nat), j < i → (fun (i : Nat) => i < q6) j) → (i = q6 → q14 ∧ iteB q16 (q18 ∧ iteB q20 (q18 ∧ iteB q20 (iteB (decide (q21 = q21)) (q14 ∧ iteB q16 (iteB (decide (q22 = q22)) (q18 ∧ iteB q20 (iteB (decide (q21 = q21)) False False) False) False) False) False) False) (q18 ∧ iteB q20 False (q14 ∧ iteB q16 (iteB (decide (q22 = q22)) q23 False) False))) (q18 ∧ iteB q20 (q18 ∧ iteB q20 (iteB (decide (q21 = q21)) (q14 ∧ iteB q16 False (q18 ∧ iteB q20 (iteB (decide (q21 = q21)) False False) False)) False) False) (q18 ∧ iteB q20 False (q14 ∧ iteB q16 False q23)))) ∧ q24) False) False) ∧ q24) False)
 False)
 False)
 False)
 False)
 False)
 False)
 False)) (by kernel_rfl) ?_
  conv => zeta
  try simp only [need_eq]
  try simp only [nope_eq]
  try simp only [iteD_eq]
  try simp only [iteT_eq]
  try simp only [iteF_eq]
  try simp only [iteE_eq]
  try simp only [Int.toNat_natCast, Nat.zero_add, true_and, and_true, Nat.le_refl]
  have e0 : (TermS.mk t.fund t.index t.cap t.dust t.fee t.delay t.k0 t.k1) = t := rfl
  rw [e0]
  refine ⟨ht, s, ⟨⟨rfl, rfl, rfl, rfl⟩, rfl, fun _ _ => rfl⟩, hs, hn, fun k => ?_, fun _ => ⟨fun _ => trivial, fun n1 L1 e1 e2 e3 => ?_⟩⟩
  · rw [hb] at k; cases k
  · exact absurd (by rw [e2, e1, sortM_len, h0]) e3
set_option maxRecDepth 100000 in
set_option maxHeartbeats 0 in
theorem pf_3 (A : List Int → Int × Int) (t : TermS) (s : ShS) (L : List MadeS) (n : Nat) (a b : Int) (X : List Int) (ht : t.Ok) (hs : s.Ok) (hn : s.n < 1000) (hb : shB A t s = true) (ho : OutsOk t s) (hL : L = sortM (osAll t s)) (hl : n = L.length) (h0 : n ≠ 0) (ha : a = plN L (-1) n) (hb' : b = plN L (-2) n) (hX : X = plX L n s.n) :
    evF (E100 t s A L n) 20 10 [.agg t.c, .agg s.c] ⟨0, []⟩ (outM 0 (.ret (.tuple [.nslice ⟨0, 0, 0, 0, 0⟩ 1 s.n s.n, .int .i64 a, .int .i64 b, .int .i64 0])) 1 [(0, .ints .i64 X)]) := by
  refine @Eq.mpr _ (let q1 := TermS.mk t.fund t.index t.cap t.dust t.fee t.delay t.k0 t.k1;
 let q2 := s.num;
 let q3 := s.owner;
 let q4 := s.point;
 let q5 := [s.a0, s.a1];
 let q6 := s.n;
 let q7 := decide (q6 = (0 : Nat));
 let q8 := iteB q7 (iteB q7 (iteB (decide ((0 : Int) = a)) (iteB (decide ((0 : Int) = b)) False False) False) False) False;
 let q9 := [((1 : Nat), (1 : Nat)), ((0 : Nat), (4 : Nat)), ((2 : Nat), (5 : Nat))];
 let q10 := plK L;
 let q11 := decide (q6 = q6);
 let q12 := pRows s.g;
 let q13 := WhatOk L q6;
 let q14 := (↑q6 : Int);
 let q15 := AV.int IntKind.i64 (-1 : Int);
 let q16 := KeysAt PP (3 : Nat) q15 n q10;
 let q17 := firstN (fun (i : Nat) => eqKey q15 (AV.int IntKind.i64 (List.getD L i made0).what)) n;
 let q18 := Nat.blt q17 n;
 let q19 := AV.int IntKind.i64 (-2 : Int);
 let q20 := KeysAt PP (3 : Nat) q19 n q10;
 let q21 := firstN (fun (i : Nat) => eqKey q19 (AV.int IntKind.i64 (List.getD L i made0).what)) n;
 let q22 := Nat.blt q21 n;
 let q23 := (↑(q21 + (1 : Nat)) : Int);
 let q24 := (↑(q17 + (1 : Nat)) : Int);
 let q25 := decide ((-1 : Int) = a);
 let q26 := (False → False) ∧ (False → False);
 TermS.Ok q1 ∧
 ∃ (s : ShS),
 ((s.num = q2 ∧ s.owner = q3 ∧ s.point = q4 ∧ q5 = [s.a0, s.a1]) ∧ (q6 = q6 ∧ s.n = q6) ∧ ∀ (i : Nat), i < q6 → q12 i = PendS.c (s.g i)) ∧
 ShS.Ok s ∧
 s.n < (1000 : Nat) ∧
 (shB A q1 s = false → q8) ∧
 (shB A q1 s = true →
 (List.length (osAll q1 s) = (0 : Nat) → q8) ∧
 ∀ (n_1 : Nat) (L_1 : List MadeS),
 L_1 = sortM (osAll q1 s) →
 n_1 = List.length L_1 →
 n_1 ≠ (0 : Nat) →
 ∃ (s : ShS),
 ((s.num = q2 ∧ s.owner = q3 ∧ s.point = q4 ∧ q5 = [s.a0, s.a1]) ∧ (q6 = q6 ∧ s.n = q6) ∧ ∀ (i : Nat), i < q6 → q12 i = PendS.c (s.g i)) ∧
 OutsOk q1 s ∧
 ∀ (n_2 : Nat),
 let q53 := decide (n_2 = n);
 ∀ (L_2 : List MadeS),
 L_2 = sortM (osAll q1 s) →
 n_2 = List.length L_2 →
 iteB (decide ((↑n_2 : Int) = (↑n : Int)))
 (iteB q53
 (iteB (decide (n ≤ n_2))
 ((MapsEq (0 : Nat) q9 (0 : Nat) q10 plV (fun (i : Nat) => AV.top) fun (i : Nat) => AV.top) ∧
 iteB (decide (q2 = q2))
 (iteB (decide (q3 = q3))
 (q4 = q4 ∧
 q5 = q5 ∧
 iteB q11
 (q12 = q12 ∧
 iteB q11
 (iteB q53
 (RowsEq (0 : Nat) q9 n (mRows L) (mRows L_2) ∧
 (n < (1000 : Nat) ∧ n = List.length L ∧ q13) ∧
 ∀ (i : Nat),
 i ≤ n →
 (∀ (j : Nat), j < i → (fun (i : Nat) => i < n) j) →
 (i = n →
 iteB (decide (q14 = q14))
 (iteB (decide (i = n))
 (MapsEq (0 : Nat) [((0 : Nat), (0 : Nat))] n q10 plV q10 plV ∧
 ([] : List Int) = [] ∧
 (n < (1000 : Nat) ∧ n = List.length L ∧ q13 ∧ q6 < (1000 : Nat)) ∧
 ∀ (i : Nat),
 let q55 := decide (i = q6);
 let q56 := decide (q6 ≤ i);
 let q57 := decide (IntKind.wrap IntKind.i64 (q24 - (1 : Int)) = a);
 let q58 := plX L n i = X ∧ True;
 let q59 := iteB (decide ((-1 : Int) = b)) q58 False;
 i ≤ q6 → (∀ (j : Nat), j < i → (fun (i : Nat) => i < q6) j) → (i = q6 → q16 ∧ iteB q18 (q20 ∧ iteB q22 (q20 ∧ iteB q22 (iteB (decide (q23 = q23)) (q16 ∧ iteB q18 (iteB (decide (q24 = q24)) (q20 ∧ iteB q22 (iteB (decide (q23 = q23)) (iteB q55 (iteB q56 (iteB q57 (iteB (decide (IntKind.wrap IntKind.i64 (q23 - (1 : Int)) = b)) q58 False) False) False) False) False) False) False) False) False) False) (q20 ∧ iteB q22 False (q16 ∧ iteB q18 (iteB (decide (q24 = q24)) (q20 ∧ iteB q22 False (iteB q55 (iteB q56 (iteB q57 q59 False) False) False)) False) False))) (q20 ∧ iteB q22 (q20 ∧ iteB q22 (iteB (decide (q23 = q23)) (q16 ∧ iteB q18 False (q20 ∧ iteB q22 (iteB (decide (q23 = q23)) (iteB q55 (iteB q56 (iteB q25 (iteB (decide (IntKind.wrap IntKind.i64 (q23 - (1 : Int)) = b)) q58 False) False) False) False) False) False)) False) False) (q20 ∧ iteB q22 False (q16 ∧ iteB q18 False (q20 ∧ iteB q22 False (iteB q55 (iteB q56 (iteB q25 q59 False) False) False)))))) ∧ q26)
 False)
 False) ∧
 q26)
 False)
 False)
 False)
 False)
 False)
 False)
 False)
 False)) (by kernel_rfl) ?_
  conv => zeta
  try simp only [need_eq]
  try simp only [nope_eq]
  try simp only [iteD_eq]
  try simp only [iteT_eq]
  try simp only [iteF_eq]
  try simp only [iteE_eq]
  try simp only [Int.toNat_natCast, Nat.zero_add, true_and, and_true, Nat.le_refl]
  have e0 : (TermS.mk t.fund t.index t.cap t.dust t.fee t.delay t.k0 t.k1) = t := rfl
  rw [e0]
  have hw : WhatOk L s.n := by rw [hL]; exact sortM_what (osAll_what t s)
  have h20 : n < 20 := by rw [hl, hL, sortM_len]; exact ho.len
  have e1 : firstN (fun j => eqKey (AV.int .i64 (-1)) (AV.int .i64 (L.getD j made0).what)) n = plF L (-1) n := rfl
  have e2 : firstN (fun j => eqKey (AV.int .i64 (-2)) (AV.int .i64 (L.getD j made0).what)) n = plF L (-2) n := rfl
  rw [e1, e2]
  refine ⟨ht, s, ⟨⟨rfl, rfl, rfl, rfl⟩, rfl, fun _ _ => rfl⟩, hs, hn, fun k => ?_, fun _ => ⟨fun k => ?_, fun n1 L1 f1 f2 f3 => ⟨s, ⟨⟨rfl, rfl, rfl, rfl⟩, rfl, fun _ _ => rfl⟩, ho, fun m M g1 g2 => ?_⟩⟩⟩
  · rw [hb] at k; cases k
  · exact absurd (by rw [hl, hL, sortM_len, k]) h0
  · have k1 : M = L := g1.trans hL.symm
    subst k1
    have k2 : m = n := g2.trans hl.symm
    subst k2
    refine ⟨rfl, rfl, Nat.le_refl _, ⟨fun j hj => absurd hj (Nat.not_lt_zero _)⟩, rfl, mRows_eq fun _ _ => rfl, ⟨by omega, hl, hw⟩, fun i hi _ => ⟨fun he => ⟨he, plMaps', ⟨by omega, hl, hw, hn⟩, fun j hj _ => ⟨fun hq => ?_, fun h => h.elim, fun h => h.elim⟩⟩, fun h => h.elim, fun h => h.elim⟩⟩
    subst hq
    have la : Nat.blt (plF M (-1) m) m = true → IntKind.i64.wrap (((plF M (-1) m + 1 : Nat) : Int) - 1) = a := fun h => by
      have k := of_blt h
      have := plF_lt hw hl k
      rw [w64 (by omega)]; omega
    have lb : Nat.blt (plF M (-2) m) m = true → IntKind.i64.wrap (((plF M (-2) m + 1 : Nat) : Int) - 1) = b := fun h => by
      have k := of_blt h
      have := plF_lt hw hl k
      rw [w64 (by omega)]; omega
    have na : Nat.blt (plF M (-1) m) m = false → -1 = a := fun h => by
      have := plF_no (L := M) (w := -1) (n := m) (fun k => by rw [blt_of k] at h; cases h)
      omega
    have nb : Nat.blt (plF M (-2) m) m = false → -1 = b := fun h => by
      have := plF_no (L := M) (w := -2) (n := m) (fun k => by rw [blt_of k] at h; cases h)
      omega
    have ky : ∀ x : Int, KeysAt PP 3 (.int .i64 x) m (plK M) := fun x => keysAtI x _ m
    exact ⟨ky _, fun k1 => ⟨ky _, fun k2 => ⟨ky _, k2, ky _, k1, ky _, k2, rfl, Nat.le_refl _, la k1, lb k2, hX.symm⟩, fun k2 => ⟨ky _, k2, ky _, k1, ky _, k2, rfl, Nat.le_refl _, la k1, nb k2, hX.symm⟩⟩, fun k1 => ⟨ky _, fun k2 => ⟨ky _, k2, ky _, k1, ky _, k2, rfl, Nat.le_refl _, na k1, lb k2, hX.symm⟩, fun k2 => ⟨ky _, k2, ky _, k1, ky _, k2, rfl, Nat.le_refl _, na k1, nb k2, hX.symm⟩⟩⟩
def plcF (A : List Int → Int × Int) : FSumm := fun args h K => viewL none h true 20 args fun a => match a with
  | [.agg [.arr .u8 32 fu, .int .i64 ix, .int .i64 ca, .int .i64 du, .int .i64 fe, .int .i64 de, .arr .u8 32 k0, .arr .u8 32 k1], .agg l] => (TermS.Ok ⟨fu, ix, ca, du, fe, de, k0, k1⟩) ∧ ∃ s, isSh l s ∧ s.Ok ∧ s.n < 1000 ∧ (shB A ⟨fu, ix, ca, du, fe, de, k0, k1⟩ s = false → K (.ret (.tuple [.nilslice, .int .i64 0, .int .i64 0, .int .i64 2])) h) ∧
    (shB A ⟨fu, ix, ca, du, fe, de, k0, k1⟩ s = true → ((osAll ⟨fu, ix, ca, du, fe, de, k0, k1⟩ s).length = 0 → K (.ret (.tuple [.nilslice, .int .i64 0, .int .i64 0, .int .i64 180])) h) ∧
      ∀ n m L X a b, L = sortM (osAll ⟨fu, ix, ca, du, fe, de, k0, k1⟩ s) → n = L.length → n ≠ 0 → m = s.n → X = plX L n m → a = plN L (-1) n → b = plN L (-2) n → K (.ret (.tuple [.nslice ⟨h.next, 0, 0, 0, 0⟩ 1 m m, .int .i64 a, .int .i64 b, .int .i64 0])) ⟨h.next + 1, (h.next, .ints .i64 X) :: h.bs⟩)
  | _ => False
theorem plcF_ok (args : List AV) (h : Heap) (K : KO) (hl : plcF addM args h K) : CallsA PP 10 args h K := by
  refine Pure.fsumm (d := 20) (viewL_weak _ _ _ _ _ hl fun a ha => ?_)
  split at ha
  · rename_i fu ix ca du fe de k0 k1 l
    obtain ⟨ht, s, hs, hsok, hn, h1, h2⟩ := ha
    cases hc : shB addM ⟨fu, ix, ca, du, fe, de, k0, k1⟩ s with
    | false => exact ⟨_, _, _, _, (Pure.evM (E100_ok ⟨fu, ix, ca, du, fe, de, k0, k1⟩ s [] 0) (pf_1 _ ⟨_, _, _, _, _, _, _, _⟩ s _ _ ht hsok hn hc)).conv (fun E r hr => hr.head (fun _ hc => hc) (fun _ hc => hc.head (fun _ hc => hs.rel hc) (fun _ hc => hc))), rfl, trivial, h1 hc⟩
    | true =>
      obtain ⟨h2, h3⟩ := h2 hc
      have ho := outsOk ht hsok hn hc
      rcases Nat.eq_zero_or_pos (osAll ⟨fu, ix, ca, du, fe, de, k0, k1⟩ s).length with h0 | h0
      · exact ⟨_, _, _, _, (Pure.evM (E100_ok ⟨fu, ix, ca, du, fe, de, k0, k1⟩ s [] 0) (pf_2 _ ⟨_, _, _, _, _, _, _, _⟩ s _ _ ht hsok hn hc h0)).conv (fun E r hr => hr.head (fun _ hc => hc) (fun _ hc => hc.head (fun _ hc => hs.rel hc) (fun _ hc => hc))), rfl, trivial, h2 h0⟩
      · have hn0 : (sortM (osAll ⟨fu, ix, ca, du, fe, de, k0, k1⟩ s)).length ≠ 0 := by rw [sortM_len]; omega
        exact ⟨_, _, _, _, (Pure.evM (E100_ok ⟨fu, ix, ca, du, fe, de, k0, k1⟩ s _ _) (pf_3 _ ⟨_, _, _, _, _, _, _, _⟩ s _ _ _ _ _ ht hsok hn hc ho rfl rfl hn0 rfl rfl rfl)).conv (fun E r hr => hr.head (fun _ hc => hc) (fun _ hc => hc.head (fun _ hc => hs.rel hc) (fun _ hc => hc))), rfl, ⟨by decide, .ints _ _, trivial⟩, h3 _ _ _ _ _ _ rfl rfl hn0 rfl rfl rfl rfl⟩
  · exact ha.elim
end Go.Tk
end
