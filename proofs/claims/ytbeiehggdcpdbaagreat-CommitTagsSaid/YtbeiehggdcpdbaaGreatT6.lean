/- T: part 6 of an engine (a symbolic evaluator, proved against the model) and of the walk by it. -/
import Derived.Test.YtbeiehggdcpdbaaGreatT5
import Derived.Test.YtbeiehggdcpdbaaGreatRows
import Derived.ChangeOld
set_option linter.unusedVariables false
set_option linter.unusedSimpArgs false
section
namespace Go.Tk
noncomputable def E82 : Env2 := G0.withP 151 cmpS
theorem E82_ok : E82.Ok := Env2.withP_ok G0_ok cmpS_ok
def cmpF : AV := .func (.func 151) [] [.pview [.vrows 1 5 (rowC byL 0 1) 5] 0]
def isH (n : Nat) (L : List MadeS) : Heap := ⟨1, [(0, .rows 134 n (mRows L))]⟩
def isT (n lo : Nat) (A B : Int) (l : Tmps) : Tmps := l ++ [(2, .int .i64 B), (1, .int .i64 A), (3, cmpF), (0, .nslice ⟨0, 0, 134, 0, 0⟩ 134 n lo)]
def isS0 (n lo : Nat) (A B I : Int) (L : List MadeS) : St := ⟨53, isT n lo A B [(8, .int .i64 I)], isH n L, []⟩
def isS2 (n lo : Nat) (A B I J : Int) (L : List MadeS) : St := ⟨53, isT n lo A B [(9, .int .i64 J), (8, .int .i64 I)], isH n L, []⟩
theorem mRows_plain (L : List MadeS) (i : Nat) : plainC (mRows L i) = true := rfl
theorem mRows_eq {k : Nat} {τ : Ren} {n : Nat} {L : List MadeS} {f : Nat → List AV} (h : ∀ i, i < n → f i = mRows L i) : RowsEq k τ n (mRows L) f :=
  rowsEq_of h (fun i _ => mRows_plain L i) (fun i _ v hv => by
    simp only [mRows, MadeS.c, List.mem_cons, List.not_mem_nil, or_false] at hv
    rcases hv with rfl | rfl | rfl | rfl | rfl | rfl | rfl | rfl | rfl | rfl <;> first | exact .inl rfl | exact .inr ⟨_, _, _, rfl⟩)
theorem made_at {L : List MadeS} (h : ∀ m ∈ L, m.Ok) {i : Nat} (hi : i < L.length) : (L.getD i made0).Ok := by
  rw [List.getD_eq_getElem?_getD, List.getElem?_eq_getElem hi]
  exact h _ (List.getElem_mem hi)
theorem swap_upd {f : Nat → List AV} {J J1 i : Nat} {x y : List AV} (hx : x = f J) (hy : y = f J1) : updF (updF f J y) J1 x i = if i = J1 then f J else if i = J then f J1 else f i := by
  rw [updF_eq, updF_eq]
  by_cases h1 : i = J1
  · subst h1; rw [Nat.beq_refl, if_pos rfl, hx]
  · rw [beq_false_of_ne h1, if_neg h1]
    by_cases h2 : i = J
    · subst h2; rw [Nat.beq_refl, if_pos rfl, hy]
    · rw [beq_false_of_ne h2, if_neg h2]
set_option maxRecDepth 100000 in
set_option maxHeartbeats 0 in
theorem is_2 (n lo A B I J : Nat) (L L1 : List MadeS) (Z1 Z2 : Prop) (hn : n < 900000000000) (hJ : J < n) (hL : L.length = n) (hok : ∀ m ∈ L, m.Ok) (hsw : A < J → ∀ i, i < n → mRows L1 i = if i = J - 1 then mRows L J else if i = J then mRows L (J - 1) else mRows L i) (h1 : A < J → ltM (L.getD J made0) (L.getD (J - 1) made0) = true → Z1) (h2 : J ≤ A ∨ ltM (L.getD J made0) (L.getD (J - 1) made0) = false → Z2) :
    roundE E82 20 203 2 1 (isS2 n lo A B I J L) (rdM 1 2 9 (isS2 n lo A B I ((J - 1 : Nat) : Int) L1) (isS0 n lo A B I L) (isS0 n lo A B I L) (isS0 n lo A B I L) Z1 Z2 False False) := by
  refine @Eq.mpr _ (let q1 := decide (0 ≤ (↑J : Int) ∧ (↑J : Int) < (↑n : Int));
 let q2 := 0 + Int.toNat (↑J : Int);
 let q3 := IntKind.wrap IntKind.i64 ((↑J : Int) - 1);
 let q4 := decide (0 ≤ q3 ∧ q3 < (↑n : Int));
 let q5 := 0 + Int.toNat q3;
 let q6 := List.getD L q2 made0;
 let q7 := q6.o;
 let q8 := [AV.int IntKind.i64 q7.kind, AV.int IntKind.i64 q7.amount, AV.arr IntKind.u8 32 q7.owner, AV.arr IntKind.u8 32 q7.other, AV.arr IntKind.u8 32 q7.point, AV.arr IntKind.u8 32 q7.hash, AV.int IntKind.i64 q7.delay, AV.int IntKind.i64 q7.expiry, AV.int IntKind.i64 q6.id, AV.int IntKind.i64 q6.what];
 let q9 := List.getD L q5 made0;
 let q10 := q9.o;
 let q11 := [AV.int IntKind.i64 q10.kind, AV.int IntKind.i64 q10.amount, AV.arr IntKind.u8 32 q10.owner, AV.arr IntKind.u8 32 q10.other, AV.arr IntKind.u8 32 q10.point, AV.arr IntKind.u8 32 q10.hash, AV.int IntKind.i64 q10.delay, AV.int IntKind.i64 q10.expiry, AV.int IntKind.i64 q9.id, AV.int IntKind.i64 q9.what];
 let q12 := rowC byL 0 1;
 let q13 := decide ((↑I : Int) = (↑I : Int));
 let q14 := decide ((↑B : Int) = (↑B : Int));
 let q15 := decide ((↑A : Int) = (↑A : Int));
 let q16 := [AV.vrows 1 5 q12 5];
 let q17 := q16 = q16;
 let q18 := decide (n = n);
 let q19 := decide (lo ≤ lo);
 let q20 := mRows L;
 let q21 := iteB q13 (iteB q14 (iteB q15 (q17 ∧ iteB q18 (iteB q19 (iteB q18 (RowsEq 1 [] n q20 q20 ∧ Z2) False) False) False) False) False) False;
 iteB (decide ((↑J : Int) > (↑A : Int))) (iteB q1 (iteB (decide (q2 < n)) (iteB q4 (iteB (decide (q5 < n)) (∃ (a : MadeS), ∃ (b : MadeS), q8 = MadeS.c a ∧ q11 = MadeS.c b ∧ q12 = q12 ∧ (MadeS.Ok a ∧ MadeS.Ok b) ∧ iteB (decide (cmpM a b < 0)) (iteB q4 (iteB (decide (q5 < n)) (iteB q1 (iteB (decide (q2 < n)) (iteB q1 (iteB (decide (q2 < n)) (iteB q4 (iteB (decide (q5 < n)) (iteB (decide (q3 = (↑(J - 1) : Int))) (iteB q13 (iteB q14 (iteB q15 (q17 ∧ iteB q18 (iteB q19 (iteB q18 (RowsEq 1 [] n (mRows L1) (updF (updF q20 q2 q11) q5 q8) ∧ Z1) False) False) False) False) False) False) False) False) False) False) False) False) False) False) False) q21) False) False) False) False) q21) (by kernel_rfl) ?_
  conv => zeta
  try simp only [need_eq]
  try simp only [nope_eq]
  try simp only [iteD_eq]
  try simp only [iteT_eq]
  try simp only [iteF_eq]
  try simp only [iteE_eq]
  try simp only [Int.toNat_natCast, Nat.zero_add, true_and, and_true, Nat.le_refl]
  refine ⟨fun hc => ?_, fun hc => ⟨mRows_eq fun _ _ => rfl, h2 (.inl (by omega))⟩⟩
  have key : IntKind.i64.wrap ((J : Int) - 1) = ((J - 1 : Nat) : Int) := by rw [w64 (by omega)]; omega
  rw [key]
  simp only [Int.toNat_natCast]
  have o1 : (L.getD J made0).Ok := made_at hok (by omega)
  have o2 : (L.getD (J - 1) made0).Ok := made_at hok (by omega)
  have hlt := cmpM_lt o1 o2
  refine ⟨by omega, by omega, by omega, by omega, L.getD J made0, L.getD (J - 1) made0, rfl, rfl, ⟨o1, o2⟩, fun hm => ?_, fun hm => ⟨mRows_eq fun _ _ => rfl, h2 (.inr (by rw [← hlt]; simpa using hm))⟩⟩
  refine ⟨by omega, by omega, by omega, by omega, by omega, by omega, by omega, by omega, trivial, mRows_eq fun i hi => ?_, h1 (by omega) (by rw [← hlt]; simpa using hm)⟩
  rw [hsw (by omega) i hi]
  exact swap_upd rfl rfl
def isL (a p : List MadeS) (x : MadeS) (r : List MadeS) (m : Nat) : List MadeS := a ++ (p.take (p.length - m) ++ x :: (p.drop (p.length - m) ++ r))
theorem isL_len {a p r : List MadeS} {x : MadeS} {m : Nat} : (isL a p x r m).length = a.length + p.length + 1 + r.length := by
  unfold isL
  simp only [List.length_append, List.length_cons, List.length_take, List.length_drop]
  omega
theorem isL_mem {a p r : List MadeS} {x : MadeS} {m : Nat} {z : MadeS} : z ∈ isL a p x r m ↔ z ∈ a ∨ z ∈ p ∨ z = x ∨ z ∈ r := by
  unfold isL
  have e : z ∈ p ↔ z ∈ p.take (p.length - m) ∨ z ∈ p.drop (p.length - m) := by
    rw [← List.mem_append, List.take_append_drop]
  rw [e]
  simp only [List.mem_append, List.mem_cons]
  constructor
  · rintro (h | h | h | h | h) <;> simp [h]
  · rintro (h | (h | h) | h | h) <;> simp [h]
theorem isL_x {a p r : List MadeS} {x : MadeS} {m : Nat} (hm : m ≤ p.length) : (isL a p x r m).getD (a.length + p.length - m) made0 = x := by
  unfold isL
  rw [List.getD_eq_getElem?_getD, List.getElem?_append_right (by omega), List.getElem?_append_right (by rw [List.length_take]; omega)]
  have : a.length + p.length - m - a.length - (p.take (p.length - m)).length = 0 := by rw [List.length_take]; omega
  rw [this]; rfl
theorem isL_p {a p r : List MadeS} {x : MadeS} {m : Nat} (hm : m < p.length) : (isL a p x r m).getD (a.length + p.length - m - 1) made0 = p.getD (p.length - m - 1) made0 := by
  unfold isL
  rw [List.getD_eq_getElem?_getD, List.getElem?_append_right (by omega), List.getElem?_append_left (by rw [List.length_take]; omega), List.getElem?_take, if_pos (by omega), ← List.getD_eq_getElem?_getD]
  congr 1
  omega
theorem isL_swap {a p r : List MadeS} {x : MadeS} {m : Nat} (hm : m < p.length) (i : Nat) : mRows (isL a p x r (m + 1)) i = if i = a.length + p.length - m - 1 then mRows (isL a p x r m) (a.length + p.length - m) else if i = a.length + p.length - m then mRows (isL a p x r m) (a.length + p.length - m - 1) else mRows (isL a p x r m) i := by
  unfold mRows
  rw [isL_x (by omega), isL_p hm]
  have hx := isL_x (a := a) (p := p) (r := r) (x := x) (m := m + 1) (by omega)
  by_cases h1 : i = a.length + p.length - m - 1
  · rw [if_pos h1, h1, show a.length + p.length - m - 1 = a.length + p.length - (m + 1) by omega, hx]
  · rw [if_neg h1]
    have e : p.length - m = (p.length - (m + 1)) + 1 := by omega
    have hd : p.drop (p.length - (m + 1)) = p.getD (p.length - m - 1) made0 :: p.drop (p.length - m) := by
      rw [List.drop_eq_getElem_cons (by omega), show p.length - (m + 1) + 1 = p.length - m by omega]
      congr 1
      rw [List.getD_eq_getElem?_getD, List.getElem?_eq_getElem (by omega)]
      simp only [Option.getD_some]
      congr 1
    have ht : p.take (p.length - m) = p.take (p.length - (m + 1)) ++ [p.getD (p.length - m - 1) made0] := by
      rw [e, List.take_succ_eq_append_getElem (by omega)]
      congr 2
      rw [List.getD_eq_getElem?_getD, List.getElem?_eq_getElem (by omega)]
      simp only [Option.getD_some]
      congr 1
    have l1 : (p.take (p.length - (m + 1))).length = p.length - (m + 1) := by rw [List.length_take]; omega
    generalize p.getD (p.length - m - 1) made0 = y at *
    have hm1 : isL a p x r (m + 1) = (a ++ p.take (p.length - (m + 1))) ++ (x :: y :: (p.drop (p.length - m) ++ r)) := by
      unfold isL; rw [hd]; simp
    have hm0 : isL a p x r m = (a ++ p.take (p.length - (m + 1))) ++ (y :: x :: (p.drop (p.length - m) ++ r)) := by
      unfold isL; rw [ht]; simp
    rw [hm1, hm0]
    have l2 : (a ++ p.take (p.length - (m + 1))).length = a.length + p.length - m - 1 := by rw [List.length_append, l1]; omega
    generalize a ++ p.take (p.length - (m + 1)) = U at *
    generalize p.drop (p.length - m) ++ r = V at *
    by_cases h2 : i = a.length + p.length - m
    · rw [if_pos h2, List.getD_eq_getElem?_getD, List.getElem?_append_right (by omega), show i - U.length = 1 by omega]
      rfl
    · rw [if_neg h2]
      rcases Nat.lt_or_ge i U.length with h3 | h3
      · rw [List.getD_eq_getElem?_getD, List.getD_eq_getElem?_getD, List.getElem?_append_left h3, List.getElem?_append_left h3]
      · rw [List.getD_eq_getElem?_getD, List.getD_eq_getElem?_getD, List.getElem?_append_right h3, List.getElem?_append_right h3]
        obtain ⟨q, hq⟩ : ∃ q, i - U.length = q + 2 := ⟨i - U.length - 2, by omega⟩
        rw [hq]; rfl
def isGo (p : List MadeS) (x : MadeS) (m : Nat) : Prop := m < p.length ∧ ltM x (p.getD (p.length - m - 1) made0) = true
def isEx (p : List MadeS) (x : MadeS) (m : Nat) : Prop := m = p.length ∨ (m < p.length ∧ ltM x (p.getD (p.length - m - 1) made0) = false)
theorem isL_end {a p r : List MadeS} {x : MadeS} {m : Nat} (ho : OrdL ltM p) (hm : m ≤ p.length) (hgo : ∀ j, j < m → isGo p x j) (hex : isEx p x m) : isL a p x r m = a ++ (insL ltM x p ++ r) := by
  have h := insL_at ltM_wo (x := x) (l := p) (j := p.length - m) ho (by omega) (fun y hy => ?_) (fun y hy hj => ?_)
  · unfold isL
    rw [← h]; simp
  · obtain ⟨q, hq⟩ := List.mem_iff_getElem?.1 hy
    rw [List.getElem?_drop] at hq
    obtain ⟨hlt, he⟩ := List.getElem?_eq_some_iff.1 hq
    have := (hgo (p.length - 1 - (p.length - m + q)) (by omega)).2
    rw [List.getD_eq_getElem?_getD, show p.length - (p.length - 1 - (p.length - m + q)) - 1 = p.length - m + q by omega, hq] at this
    exact this
  · rcases hex with hex | ⟨_, hex⟩
    · omega
    · rw [List.getD_eq_getElem?_getD, hy] at hex
      exact hex
structure IsQ where
  a : List MadeS
  p : List MadeS
  x : MadeS
  r : List MadeS
def IsQ.n (q : IsQ) : Nat := q.a.length + q.p.length + 1 + q.r.length
def IsQ.I (q : IsQ) : Nat := q.a.length + q.p.length
def IsQ.L (q : IsQ) (m : Nat) : List MadeS := isL q.a q.p q.x q.r m
structure IsQ.Ok (q : IsQ) (n : Nat) (A : Nat) : Prop where
  hn : q.n = n
  hA : q.a.length = A
  le : n < 900000000000
  ok : ∀ m ∈ q.L 0, m.Ok
def IsQ.go (q : IsQ) : Nat → Prop := isGo q.p q.x
def IsQ.ex (q : IsQ) : Nat → Prop := isEx q.p q.x
def IsQ.len (q : IsQ) : Nat := q.p.length
noncomputable def E82b (n lo A B : Nat) : Env2 := E82.withL 203 2 (exLo fun q : IsQ => goM 1 (isS2 n lo A B q.I q.I (q.L 0)) (q.Ok n A) (endsJ 2 q.len 9 q.go q.ex (fun _ => False) (fun _ => False) (fun m => isS0 n lo A B q.I (q.L m)) (fun m => isS0 n lo A B q.I (q.L m)) (fun m => isS0 n lo A B q.I (q.L m))))
theorem E82b_ok (n lo A B : Nat) : (E82b n lo A B).Ok :=
  Env2.withL_ex E82_ok fun q => Env2.withGoM (N := 20) (S := fun m => isS2 n lo A B q.I ((q.I - m : Nat) : Int) (q.L m)) E82_ok (by kernel_rfl) fun hC => ⟨by simp, fun m hm hgo => by
    obtain ⟨h1, h2, h3, h4⟩ := hC
    have l1 : (q.L m).length = n := by rw [← h1]; exact isL_len
    have hI : q.I = q.a.length + q.p.length := rfl
    have hm' : m ≤ q.p.length := hm
    have hnn : q.n = q.a.length + q.p.length + 1 + q.r.length := rfl
    have hx : (q.L m).getD (q.I - m) made0 = q.x := isL_x hm'
    have hok : ∀ z ∈ q.L m, z.Ok := fun z hz => h4 z (isL_mem.2 (isL_mem.1 hz))
    have := is_2 n lo A B q.I (q.I - m) (q.L m) (q.L (m + 1)) (q.go m ∧ m < q.len) (q.ex m) h3 (by omega) l1 hok (fun hlt i hi => ?_) (fun hlt hc => ?_) (fun hc => ?_)
    · rw [show q.I - (m + 1) = q.I - m - 1 by omega]
      exact this
    · have hmp : m < q.p.length := by omega
      exact isL_swap hmp i
    · have hmp : m < q.p.length := by omega
      rw [hx, show (q.L m).getD (q.I - m - 1) made0 = _ from isL_p hmp] at hc
      exact ⟨⟨hmp, hc⟩, hmp⟩
    · rcases Nat.lt_or_ge m q.p.length with hmp | hmp
      · rcases hc with hc | hc
        · omega
        · rw [hx, show (q.L m).getD (q.I - m - 1) made0 = _ from isL_p hmp] at hc
          exact .inr ⟨hmp, hc⟩
      · exact .inl (show m = q.p.length by omega)⟩
set_option maxRecDepth 100000 in
set_option maxHeartbeats 0 in
theorem is_0 (n lo A B I : Nat) (L L1 : List MadeS) (q : IsQ) (Z1 Z2 : Prop) (hn : n < 900000000000) (hI : I < 900000000001) (hq : I < B → q.I = I ∧ q.L 0 = L ∧ q.Ok n A) (hnext : I < B → ∀ m, m ≤ q.len → (∀ j, j < m → q.go j) → q.ex m → L1 = q.L m ∧ Z1) (h2 : ¬ I < B → Z2) :
    roundE (E82b n lo A B) 20 203 0 1 (isS0 n lo A B I L) (rdM 1 0 9 (isS0 n lo A B ((I + 1 : Nat) : Int) L1) ⟨53, [], isH n L, []⟩ ⟨53, [], isH n L, []⟩ ⟨53, [], isH n L, []⟩ Z1 Z2 False False) := by
  refine @Eq.mpr _ (let q1 := decide ((↑B : Int) = (↑B : Int));
 let q2 := decide ((↑A : Int) = (↑A : Int));
 let q3 := [AV.vrows 1 5 (rowC byL 0 1) 5];
 let q4 := q3 = q3;
 let q5 := decide (n = n);
 let q6 := decide (lo ≤ lo);
 let q7 := mRows L;
 iteB (decide ((↑I : Int) < (↑B : Int)))
 (∃ (i : IsQ),
 let q15 := (↑(IsQ.I i) : Int);
 let q16 := decide ((↑I : Int) = q15);
 iteB q16
 (iteB q16
 (iteB q1
 (iteB q2
 (q4 ∧
 iteB q5
 (iteB q6
 (iteB q5
 (RowsEq 1 [] n (mRows (IsQ.L i 0)) q7 ∧
 IsQ.Ok i n A ∧
 ∀ (i_1 : Nat),
 let q19 := mRows (IsQ.L i i_1);
 i_1 ≤ IsQ.len i → (∀ (j : Nat), j < i_1 → IsQ.go i j) → (IsQ.ex i i_1 → iteB (decide (IntKind.wrap IntKind.i64 (q15 + 1) = (↑(I + 1) : Int))) (iteB q1 (iteB q2 (q4 ∧ iteB q5 (iteB q6 (iteB q5 (RowsEq 1 [] n (mRows L1) q19 ∧ Z1) False) False) False) False) False) False) ∧ (False → iteB q5 (RowsEq 1 [] n q7 q19 ∧ False) False) ∧ (False → iteB q5 (RowsEq 1 [] n q7 q19 ∧ False) False))
 False)
 False)
 False)
 False)
 False)
 False)
 False)
 (iteB q5 (RowsEq 1 [] n q7 q7 ∧ Z2) False)) (by kernel_rfl) ?_
  conv => zeta
  try simp only [need_eq]
  try simp only [nope_eq]
  try simp only [iteD_eq]
  try simp only [iteT_eq]
  try simp only [iteF_eq]
  try simp only [iteE_eq]
  try simp only [Int.toNat_natCast, Nat.zero_add, true_and, and_true, Nat.le_refl]
  refine ⟨fun hc => ?_, fun hc => ⟨mRows_eq fun _ _ => rfl, h2 (by omega)⟩⟩
  obtain ⟨e1, e2, e3⟩ := hq (by omega)
  refine ⟨q, by omega, by omega, mRows_eq (fun _ _ => by rw [e2]), e3, fun m hm hgo => ⟨fun hex => ?_, fun h => h.elim, fun h => h.elim⟩⟩
  obtain ⟨e4, hZ⟩ := hnext (by omega) m hm hgo hex
  exact ⟨by rw [w64 (by omega)]; omega, mRows_eq (fun _ _ => by rw [e4]), hZ⟩
structure IsP where
  a : List MadeS
  M : List MadeS
  c : List MadeS
def IsP.L (q : IsP) (t : Nat) : List MadeS := q.a ++ (sortL ltM [] (q.M.take (t + 1)) ++ (q.M.drop (t + 1) ++ q.c))
def IsP.N (q : IsP) : Nat := q.M.length - 1
def IsP.all (q : IsP) : List MadeS := q.a ++ (q.M ++ q.c)
def IsP.done (q : IsP) : List MadeS := q.a ++ (sortM q.M ++ q.c)
structure IsP.Ok (q : IsP) (n A B : Nat) : Prop where
  hn : q.a.length + q.M.length + q.c.length = n
  hA : q.a.length = A
  hB : q.a.length + q.M.length = B
  le : n < 900000000000
  ok : ∀ m ∈ q.all, m.Ok
theorem IsP.L0 (q : IsP) : q.L 0 = q.all := by
  unfold IsP.L IsP.all
  cases h : q.M with
  | nil => rfl
  | cons x r => rfl
theorem IsP.LN (q : IsP) : q.L q.N = q.done := by
  unfold IsP.L IsP.done IsP.N
  rw [List.take_of_length_le (by omega), List.drop_of_length_le (by omega)]; rfl
theorem sortL_mem {l acc : List MadeS} {z : MadeS} : z ∈ sortL ltM acc l ↔ z ∈ acc ∨ z ∈ l := by
  rw [(sortL_perm (lt := ltM)).mem_iff, List.mem_append]
noncomputable def E82c (q : IsP) (n lo A B : Nat) : Env2 := (E82b n lo A B).withL 203 0 (goM 1 (isS0 n lo A B ((A + 1 : Nat) : Int) (q.L 0)) (q.Ok n A B) (endsJ 0 q.N 9 (fun t => t < q.N) (fun t => t = q.N) (fun _ => False) (fun _ => False) (fun t => ⟨53, [], isH n (q.L t), []⟩) (fun t => ⟨53, [], isH n (q.L t), []⟩) (fun t => ⟨53, [], isH n (q.L t), []⟩)))
theorem E82c_ok (q : IsP) (n lo A B : Nat) : (E82c q n lo A B).Ok :=
  Env2.withGoM (N := 20) (S := fun t => isS0 n lo A B ((A + 1 + t : Nat) : Int) (q.L t)) (E82b_ok n lo A B) (by kernel_rfl) fun hC => ⟨rfl, fun t ht hgo => by
    obtain ⟨h1, h2, h3, h4, h5⟩ := hC
    have hN : q.N = q.M.length - 1 := rfl
    have hMl : q.M.length ≤ n := by omega
    have := is_0 n lo A B (A + 1 + t) (q.L t) (q.L (t + 1)) ⟨q.a, sortL ltM [] (q.M.take (t + 1)), q.M.getD (t + 1) made0, q.M.drop (t + 2) ++ q.c⟩ (t < q.N ∧ t < q.N) (t = q.N) h4 (by omega) (fun hlt => ?_) (fun hlt m hm hg he => ?_) (fun hc => by omega)
    · rw [show A + 1 + (t + 1) = A + 1 + t + 1 by omega]; exact this
    · have hl : (sortL ltM [] (q.M.take (t + 1))).length = t + 1 := by rw [sortL_len, List.length_take]; simp; omega
      have e0 : q.L t = isL q.a (sortL ltM [] (q.M.take (t + 1))) (q.M.getD (t + 1) made0) (q.M.drop (t + 2) ++ q.c) 0 := by
        unfold isL IsP.L
        rw [Nat.sub_zero, List.take_length, List.drop_length, List.drop_eq_getElem_cons (show t + 1 < q.M.length by omega), List.getD_eq_getElem?_getD, List.getElem?_eq_getElem (show t + 1 < q.M.length by omega)]
        rfl
      refine ⟨?_, e0.symm, ?_, h2, h4, fun z hz => ?_⟩
      · show q.a.length + (sortL ltM [] (q.M.take (t + 1))).length = _
        rw [hl, h2]; omega
      · show q.a.length + (sortL ltM [] (q.M.take (t + 1))).length + 1 + (q.M.drop (t + 2) ++ q.c).length = n
        rw [hl, List.length_append, List.length_drop]; omega
      · have hz : z ∈ isL q.a (sortL ltM [] (q.M.take (t + 1))) (q.M.getD (t + 1) made0) (q.M.drop (t + 2) ++ q.c) 0 := hz
        refine h5 z ?_
        rw [← e0] at hz
        unfold IsP.L at hz
        unfold IsP.all
        rw [List.mem_append, List.mem_append, sortL_mem, List.mem_append] at hz
        rw [List.mem_append, List.mem_append]
        rcases hz with hz | (hz | hz) | hz | hz
        · exact .inl hz
        · simp at hz
        · exact .inr (.inl (List.mem_of_mem_take hz))
        · exact .inr (.inl (List.mem_of_mem_drop hz))
        · exact .inr (.inr hz)
    · refine ⟨?_, by omega⟩
      have := isL_end (a := q.a) (r := q.M.drop (t + 2) ++ q.c) (x := q.M.getD (t + 1) made0) (m := m) (sortL_ord ltM_wo (l := q.M.take (t + 1)) (acc := []) .nil) hm hg he
      show _ = isL q.a _ _ _ m
      rw [this]
      unfold IsP.L
      have e2 : q.M.take (t + 1 + 1) = q.M.take (t + 1) ++ [q.M.getD (t + 1) made0] := by
        rw [List.take_succ_eq_append_getElem (by omega), List.getD_eq_getElem?_getD, List.getElem?_eq_getElem (show t + 1 < q.M.length by omega)]
        rfl
      rw [e2, sortL_snoc]⟩
set_option maxRecDepth 100000 in
set_option maxHeartbeats 0 in
theorem is_f (q : IsP) (n lo A B : Nat) (L0 L1 : List MadeS) (hq : q.Ok n A B) (hL : L0 = q.all) (hL1 : L1 = q.done) :
    evF (E82c q n lo A B) 20 203 [.nslice ⟨0, 0, 134, 0, 0⟩ 134 n lo, .int .i64 A, .int .i64 B, cmpF] (isH n L0) (outM 1 (.ret (.tuple [])) 1 [(0, .rows 134 n (mRows L1))]) := by
  refine @Eq.mpr _ (let q1 := [AV.vrows 1 5 (rowC byL 0 1) 5];
 let q2 := decide (n = n);
 let q3 := IsP.N q;
 iteB (decide (IntKind.wrap IntKind.i64 ((↑A : Int) + 1) = (↑(A + 1) : Int)))
 (iteB (decide ((↑B : Int) = (↑B : Int)))
 (iteB (decide ((↑A : Int) = (↑A : Int)))
 (q1 = q1 ∧
 iteB q2
 (iteB (decide (lo ≤ lo))
 (iteB q2
 (RowsEq 1 [] n (mRows (IsP.L q 0)) (mRows L0) ∧
 IsP.Ok q n A B ∧
 ∀ (i : Nat),
 let q7 := iteB q2 (RowsEq 1 [] n (mRows L1) (mRows (IsP.L q i)) ∧ True) False;
 i ≤ q3 → (∀ (j : Nat), j < i → (fun (t : Nat) => t < q3) j) → (i = q3 → q7) ∧ (False → q7) ∧ (False → False))
 False)
 False)
 False)
 False)
 False)
 False) (by kernel_rfl) ?_
  conv => zeta
  try simp only [need_eq]
  try simp only [nope_eq]
  try simp only [iteD_eq]
  try simp only [iteT_eq]
  try simp only [iteF_eq]
  try simp only [iteE_eq]
  try simp only [Int.toNat_natCast, Nat.zero_add, true_and, and_true, Nat.le_refl]
  refine ⟨by rw [w64 (by have := hq.hn; have := hq.hA; have := hq.le; omega)]; omega, mRows_eq (fun _ _ => by rw [hL, q.L0]), hq, fun i hi hg => ⟨fun he => ?_, fun h => h.elim, fun h => h.elim⟩⟩
  subst he
  exact mRows_eq fun _ _ => by rw [hL1, q.LN]
def isF : FSumm := fun args h K => match args with
  | .nslice p esz len lo :: r => frA [p.blk] h 20 (.nslice p esz len lo :: r) fun Bs a => match Bs, a with
    | [.rows 134 m f], [.nslice ⟨0, 0, 134, 0, 0⟩ 134 n lo, .int .i64 A, .int .i64 B, .func (.func 151) [] [.pview [.vrows 1 5 g 5] 0]] => ∃ (q : IsP) (a b : Nat), (m = n ∧ A = (a : Int) ∧ B = (b : Int)) ∧ q.Ok n a b ∧ g = rowC byL 0 1 ∧ f = mRows q.all ∧ K (.ret (.tuple [])) ⟨h.next, (p.blk, .rows 134 n (mRows q.done)) :: delB h.bs p.blk⟩
    | _, _ => False
  | _ => False
theorem isF_ok (args : List AV) (h : Heap) (K : KO) (hl : isF args h K) : CallsA PP 203 args h K := by
  unfold isF at hl
  split at hl
  · rename_i p esz len lo r
    refine Spec.fsumm (σ := [p.blk]) (d := 20) hl fun Bs a₀ hlen h0 => ?_
    split at h0
    · obtain ⟨q, a, b, ⟨rfl, rfl, rfl⟩, hq, rfl, rfl, hK⟩ := h0
      exact ⟨_, _, _, _, _, .evM (E82c_ok _ _ _ _ _) (is_f q _ _ a b _ _ hq rfl rfl), Nat.le_refl 1, .ret _ _ rfl, .cons 0 _ _ _ _ _ rfl (.rows _ _ _ fun i _ => mRows_plain _ i) .nil, hK⟩
    · exact h0.elim
  · exact hl.elim
def noF : FSumm := fun _ _ _ => False
theorem noF_ok {f : FuncId} (args : List AV) (h : Heap) (K : KO) (hl : noF args h K) : CallsA PP f args h K := hl.elim
noncomputable def E82d : Env2 := (G0.withF 203 isF).withF 204 noF
theorem E82d_ok : E82d.Ok := Env2.withF_ok (Env2.withF_ok G0_ok isF_ok) noF_ok
def ssT (n lo : Nat) (l : Tmps) : Tmps := l ++ [(2, cmpF), (1, .int .i64 n), (0, .nslice ⟨0, 0, 134, 0, 0⟩ 134 n lo)]
def ssS0 (n lo : Nat) (L : List MadeS) : St := ⟨63, ssT n lo [(8, .int .i64 20), (7, .int .i64 0), (6, .int .i64 20)], isH n L, []⟩
def ssE0 (n lo : Nat) (L : List MadeS) : St := ⟨63, ssT n lo [(7, .int .i64 0), (6, .int .i64 20)], isH n L, []⟩
def ssS2 (n lo : Nat) (L : List MadeS) : St := ⟨63, ssT n lo [(6, .int .i64 20)], isH n L, []⟩
def ssE2 (n lo : Nat) (L : List MadeS) : St := ⟨63, [], isH n L, []⟩
set_option maxRecDepth 100000 in
set_option maxHeartbeats 0 in
theorem ss_0 (n lo : Nat) (L : List MadeS) (Z : Prop) (hn : n < 20) (hZ : Z) :
    roundE E82d 20 185 0 1 (ssS0 n lo L) (rdM 1 0 9 (ssS0 n lo L) (ssE0 n lo L) (ssE0 n lo L) (ssE0 n lo L) False Z False False) := by
  refine @Eq.mpr _ (let q1 := rowC byL 0 1;
 let q2 := mRows L;
 let q3 := [AV.vrows 1 5 q1 5];
 let q4 := decide (n = n);
 iteB (decide (20 ≤ (↑n : Int))) ((∀ (i : Nat), i < n → true = true) ∧ ∃ (q : IsP), ∃ (a : Nat), ∃ (b : Nat), (n = n ∧ 0 = (↑a : Int) ∧ 20 = (↑b : Int)) ∧ IsP.Ok q n a b ∧ q1 = q1 ∧ q2 = mRows (IsP.all q) ∧ False) (q3 = q3 ∧ iteB (decide ((↑n : Int) = (↑n : Int))) (iteB q4 (iteB (decide (lo ≤ lo)) (iteB q4 (RowsEq 1 [] n q2 q2 ∧ Z) False) False) False) False)) (by kernel_rfl) ?_
  conv => zeta
  try simp only [need_eq]
  try simp only [nope_eq]
  try simp only [iteD_eq]
  try simp only [iteT_eq]
  try simp only [iteF_eq]
  try simp only [iteE_eq]
  try simp only [Int.toNat_natCast, Nat.zero_add, true_and, and_true, Nat.le_refl]
  exact ⟨fun h => by omega, fun _ => ⟨mRows_eq fun _ _ => rfl, hZ⟩⟩
set_option maxRecDepth 100000 in
set_option maxHeartbeats 0 in
theorem ss_2 (n lo : Nat) (L : List MadeS) (Z : Prop) (hn : n < 20) (hZ : Z) :
    roundE E82d 20 185 2 1 (ssS2 n lo L) (rdM 1 2 9 (ssS2 n lo L) (ssE2 n lo L) (ssE2 n lo L) (ssE2 n lo L) False Z False False) := by
  refine @Eq.mpr _ (iteB (decide (20 < (↑n : Int))) (iteB (decide (40 ≤ (↑n : Int))) False (iteB (decide (20 < (↑n : Int))) False False)) (iteB (decide (n = n)) (RowsEq 1 [] n (mRows L) (mRows L) ∧ Z) False)) (by kernel_rfl) ?_
  try simp only [need_eq]
  try simp only [nope_eq]
  try simp only [iteD_eq]
  try simp only [iteT_eq]
  try simp only [iteF_eq]
  try simp only [iteE_eq]
  try simp only [Int.toNat_natCast, Nat.zero_add, true_and, and_true, Nat.le_refl]
  exact ⟨fun h => absurd h (by omega), fun _ => ⟨mRows_eq fun _ _ => rfl, hZ⟩⟩
noncomputable def E82e (n lo : Nat) (L L1 : List MadeS) : Env2 := (E82d.withL 185 0 (goM 1 (ssS0 n lo L) (n < 20) (endsJ 0 0 9 (fun _ => False) (fun _ => True) (fun _ => False) (fun _ => False) (fun _ => ssE0 n lo L) (fun _ => ssE0 n lo L) (fun _ => ssE0 n lo L)))).withL 185 2 (goM 1 (ssS2 n lo L1) (n < 20) (endsJ 2 0 9 (fun _ => False) (fun _ => True) (fun _ => False) (fun _ => False) (fun _ => ssE2 n lo L1) (fun _ => ssE2 n lo L1) (fun _ => ssE2 n lo L1)))
theorem E82e_ok (n lo : Nat) (L L1 : List MadeS) : (E82e n lo L L1).Ok := by
  have h0 : (E82d.withL 185 0 _).Ok := Env2.withGoM (N := 20) (S := fun _ => ssS0 n lo L) (S0 := ssS0 n lo L) (C := n < 20) (n := 0) (l := 9) (go := fun _ => False) (ex := fun _ => True) (re := fun _ => False) (jm := fun _ => False) (En := fun _ => ssE0 n lo L) (Rn := fun _ => ssE0 n lo L) (Jn := fun _ => ssE0 n lo L) E82d_ok (by kernel_rfl) fun hC => ⟨rfl, fun t _ _ => (by
    have := ss_0 n lo L True hC trivial
    simpa only [false_and] using this)⟩
  have h2 : (E82d.withL 185 2 _).Ok := Env2.withGoM (N := 20) (S := fun _ => ssS2 n lo L1) (S0 := ssS2 n lo L1) (C := n < 20) (n := 0) (l := 9) (go := fun _ => False) (ex := fun _ => True) (re := fun _ => False) (jm := fun _ => False) (En := fun _ => ssE2 n lo L1) (Rn := fun _ => ssE2 n lo L1) (Jn := fun _ => ssE2 n lo L1) E82d_ok (by kernel_rfl) fun hC => ⟨rfl, fun t _ _ => (by
    have := ss_2 n lo L1 True hC trivial
    simpa only [false_and] using this)⟩
  exact Env2.withL_join (H := E82d) h0 rfl h2
set_option maxRecDepth 100000 in
set_option maxHeartbeats 0 in
theorem st_1 (n lo : Nat) (L L1 : List MadeS) (hn : n < 20) (hl : L.length = n) (hok : ∀ m ∈ L, m.Ok) (hL : L1 = sortM L) :
    evF (E82e n lo L L1) 20 150 [.nslice ⟨0, 0, 134, 0, 0⟩ 134 n lo, cmpF] (isH n L) (outM 1 (.ret (.tuple [])) 1 [(0, .rows 134 n (mRows L1))]) := by
  refine @Eq.mpr _ (let q1 := rowC byL 0 1;
 let q2 := [AV.vrows 1 5 q1 5];
 let q3 := q2 = q2;
 let q4 := decide ((↑n : Int) = (↑n : Int));
 let q5 := decide (n = n);
 let q6 := decide (lo ≤ lo);
 let q7 := mRows L;
 let q8 := mRows L1;
 let q9 := iteB q5 (RowsEq 1 [] n q8 q8 ∧ True) False;
 q3 ∧ iteB q4 (iteB q5 (iteB q6 (iteB q5 (RowsEq 1 [] n q7 q7 ∧ n < 20 ∧ ∀ (i : Nat), i ≤ 0 → (∀ (j : Nat), j < i → (fun (x : Nat) => False) j) → (True → (∀ (i : Nat), i < n → true = true) ∧ ∃ (q : IsP), ∃ (a : Nat), ∃ (b : Nat), (n = n ∧ 0 = (↑a : Int) ∧ (↑n : Int) = (↑b : Int)) ∧ IsP.Ok q n a b ∧ q1 = q1 ∧ q7 = mRows (IsP.all q) ∧ q3 ∧ iteB q4 (iteB q5 (iteB q6 (iteB q5 (RowsEq 1 [] n q8 (mRows (IsP.done q)) ∧ n < 20 ∧ ∀ (i : Nat), i ≤ 0 → (∀ (j : Nat), j < i → (fun (x : Nat) => False) j) → (True → q9) ∧ (False → q9) ∧ (False → False)) False) False) False) False) ∧ (False → iteB q5 (RowsEq 1 [] n q8 q7 ∧ True) False) ∧ (False → False)) False) False) False) False) (by kernel_rfl) ?_
  conv => zeta
  try simp only [need_eq]
  try simp only [nope_eq]
  try simp only [iteD_eq]
  try simp only [iteT_eq]
  try simp only [iteF_eq]
  try simp only [iteE_eq]
  try simp only [Int.toNat_natCast, Nat.zero_add, true_and, and_true, Nat.le_refl]
  refine ⟨mRows_eq fun _ _ => rfl, hn, fun i _ _ => ⟨fun _ => ⟨fun _ _ => trivial, ⟨[], L, []⟩, 0, n, ⟨rfl, rfl⟩, ⟨by simp [hl], rfl, by simp [hl], by omega, fun m hm => hok m (by simpa [IsP.all] using hm)⟩, by simp [IsP.all], mRows_eq fun _ _ => by simp [IsP.done, hL], hn, fun j _ _ => ⟨fun _ => mRows_eq fun _ _ => rfl, fun h => h.elim, fun h => h.elim⟩⟩, fun h => h.elim, fun h => h.elim⟩⟩
def stF : FSumm := fun args h K => match args with
  | .nslice p esz len lo :: r => frA [p.blk] h 20 (.nslice p esz len lo :: r) fun Bs a => match Bs, a with
    | [.rows 134 m f], [.nslice ⟨0, 0, 134, 0, 0⟩ 134 n lo, .func (.func 151) [] [.pview [.vrows 1 5 g 5] 0]] => ∃ (L : List MadeS), (m = n ∧ n < 20 ∧ L.length = n) ∧ (∀ m ∈ L, m.Ok) ∧ g = rowC byL 0 1 ∧ f = mRows L ∧ K (.ret (.tuple [])) ⟨h.next, (p.blk, .rows 134 n (mRows (sortM L))) :: delB h.bs p.blk⟩
    | _, _ => False
  | _ => False
theorem stF_ok (args : List AV) (h : Heap) (K : KO) (hl : stF args h K) : CallsA PP 150 args h K := by
  unfold stF at hl
  split at hl
  · rename_i p esz len lo r
    refine Spec.fsumm (σ := [p.blk]) (d := 20) hl fun Bs a₀ hlen h0 => ?_
    split at h0
    · obtain ⟨L, ⟨rfl, hn, hll⟩, hok, rfl, rfl, hK⟩ := h0
      exact ⟨_, _, _, _, _, .evM (E82e_ok _ _ _ _) (st_1 _ _ L _ hn hll hok rfl), Nat.le_refl 1, .ret _ _ rfl, .cons 0 _ _ _ _ _ rfl (.rows _ _ _ fun i _ => mRows_plain _ i) .nil, hK⟩
    · exact h0.elim
  · exact hl.elim
noncomputable def E82f : Env2 := G0.withF 150 stF
theorem E82f_ok : E82f.Ok := Env2.withF_ok G0_ok stF_ok
set_option maxRecDepth 100000 in
set_option maxHeartbeats 0 in
theorem od_1 (n lo : Nat) (L L1 : List MadeS) (hn : n < 20) (hl : L.length = n) (hok : ∀ m ∈ L, m.Ok) (hL : L1 = sortM L) :
    evF E82f 20 58 [.nslice ⟨0, 0, 134, 0, 0⟩ 134 n lo] (isH n L) (outM 1 (.ret (.nslice ⟨0, 0, 134, 0, 0⟩ 134 n lo)) 1 [(0, .rows 134 n (mRows L1))]) := by
  refine @Eq.mpr _ (let q1 := decide (n = n);
 (∀ (i : Nat), i < n → true = true) ∧ ∃ (L_1 : List MadeS), (n = n ∧ n < (20 : Nat) ∧ List.length L_1 = n) ∧ (∀ (m : MadeS), List.Mem m L_1 → MadeS.Ok m) ∧ rowC [AV.func (Fn.func (107 : Nat)) [] [], AV.func (Fn.func (109 : Nat)) [] [], AV.func (Fn.func (111 : Nat)) [] [], AV.func (Fn.func (112 : Nat)) [] [], AV.func (Fn.func (113 : Nat)) [] []] (0 : Nat) (1 : Nat) = rowC byL (0 : Nat) (1 : Nat) ∧ mRows L = mRows L_1 ∧ iteB q1 (iteB (decide (lo ≤ lo)) (iteB q1 (RowsEq (1 : Nat) [] n (mRows L1) (mRows (sortM L_1)) ∧ True) False) False) False) (by kernel_rfl) ?_
  conv => zeta
  try simp only [need_eq]
  try simp only [nope_eq]
  try simp only [iteD_eq]
  try simp only [iteT_eq]
  try simp only [iteF_eq]
  try simp only [iteE_eq]
  try simp only [Int.toNat_natCast, Nat.zero_add, true_and, and_true, Nat.le_refl]
  exact ⟨fun _ _ => trivial, L, ⟨hn, hl⟩, hok, rfl, rfl, mRows_eq fun _ _ => by rw [hL]⟩
set_option maxRecDepth 100000 in
set_option maxHeartbeats 0 in
theorem od_0 (X : Nat) (hn : X = X) :
    evF G0 20 58 [.nilslice] ⟨0, []⟩ (outM 0 (.ret .nilslice) 0 []) := by
  refine @Eq.mpr _ (True) (by kernel_rfl) ?_
  trivial
def orF : FSumm := fun args h K => match args with
  | [.nilslice] => K (.ret .nilslice) h
  | [.nslice p esz len lo] => frA [p.blk] h 20 [.nslice p esz len lo] fun Bs a => match Bs, a with
    | [.rows 134 m f], [.nslice ⟨0, 0, 134, 0, 0⟩ 134 n lo] => ∃ (L : List MadeS), (m = n ∧ n < 20 ∧ L.length = n) ∧ (∀ m ∈ L, m.Ok) ∧ (∀ i, i < n → f i = mRows L i) ∧ K (.ret (.nslice ⟨p.blk, 0, 134, 0, 0⟩ 134 n lo)) ⟨h.next, (p.blk, .rows 134 n (mRows (sortM L))) :: delB h.bs p.blk⟩
    | _, _ => False
  | _ => False
theorem orF_ok (args : List AV) (h : Heap) (K : KO) (hl : orF args h K) : CallsA PP 58 args h K := by
  unfold orF at hl
  split at hl
  · exact (Pure.evM G0_ok (od_0 0 rfl)).calls (fun E w rs he hr => by
      cases hr with
      | cons v r vs rs h1 h2 => cases h2; exact .cons _ _ _ _ (h1.plain rfl) .nil) rfl trivial hl
  · rename_i p esz len lo
    refine Spec.fsumm (σ := [p.blk]) (d := 20) hl fun Bs a₀ hlen h0 => ?_
    split at h0
    · obtain ⟨L, ⟨rfl, hn, hll⟩, hok, hf, hK⟩ := h0
      exact ⟨_, _, _, _, _, .rows hf (.evM E82f_ok (od_1 _ _ L _ hn hll hok rfl)), Nat.le_refl 1, .ret _ _ rfl, .cons 0 _ _ _ _ _ rfl (.rows _ _ _ fun i _ => mRows_plain _ i) .nil, hK⟩
    · exact h0.elim
  · exact hl.elim
end Go.Tk
end
section
namespace Go.Tk
def noRows : Nat → List AV := fun _ => []
set_option maxRecDepth 100000 in
set_option maxHeartbeats 0 in
theorem cle_0 (X : Nat) (hn : X = X) :
    evF G0 20 67 [.nilslice] ⟨0, []⟩ (outM 0 (.ret (.nslice ⟨0, 0, 34, 0, 0⟩ 34 0 0)) 1 [(0, .rows 34 0 noRows)]) := by
  refine @Eq.mpr _ (True) (by kernel_rfl) ?_
  trivial
set_option maxRecDepth 100000 in
set_option maxHeartbeats 0 in
theorem cle_1 (X : Nat) (hn : X = X) :
    evF G0 20 67 [.fslice] ⟨0, []⟩ (outM 0 (.ret (.nslice ⟨0, 0, 34, 0, 0⟩ 34 0 0)) 1 [(0, .rows 34 0 noRows)]) := by
  refine @Eq.mpr _ (RowsEq 0 [(0, 0)] 0 noRows (catF 0 (fun (x : Nat) => []) fun (x : Nat) => []) ∧ True) (by kernel_rfl) ?_
  exact ⟨⟨fun i hi => absurd hi (Nat.not_lt_zero i)⟩, trivial⟩
def cleF : FSumm := fun args h K => match args with
  | [.eslice] => K (.ret (.nslice ⟨h.next, 0, 34, 0, 0⟩ 34 0 0)) ⟨h.next + 1, (h.next, .rows 34 0 noRows) :: h.bs⟩
  | _ => False
theorem cleF_ok (args : List AV) (h : Heap) (K : KO) (hl : cleF args h K) : CallsA PP 67 args h K := by
  unfold cleF at hl
  split at hl
  · refine CallsA.eslice ?_ ?_
    · exact (Pure.evM G0_ok (cle_0 0 rfl)).calls (fun E w rs he hr => by
        cases hr with
        | cons v r vs rs h1 h2 => cases h2; exact .cons _ _ _ _ (h1.plain rfl) .nil) rfl ⟨Nat.one_pos, .rows _ _ _ (fun i hi => absurd hi (Nat.not_lt_zero i)), trivial⟩ hl
    · exact (Pure.evM G0_ok (cle_1 0 rfl)).calls (fun E w rs he hr => by
        cases hr with
        | cons v r vs rs h1 h2 => cases h2; exact .cons _ _ _ _ (h1.plain rfl) .nil) rfl ⟨Nat.one_pos, .rows _ _ _ (fun i hi => absurd hi (Nat.not_lt_zero i)), trivial⟩ hl
  · exact hl.elim
end Go.Tk
end
section
namespace Go.Tk
theorem mRows_cat {O P : List MadeS} {c i : Nat} (hc : O.length = c) : catF c (mRows O) (mRows P) i = mRows (O ++ P) i := by
  unfold mRows
  rcases Nat.lt_or_ge i c with h | h
  · rw [catF_lt h, List.getD_eq_getElem?_getD, List.getD_eq_getElem?_getD, List.getElem?_append_left (by omega)]
  · rw [catF_ge h, List.getD_eq_getElem?_getD, List.getD_eq_getElem?_getD, List.getElem?_append_right (by omega), hc]
theorem rows_snoc {f : Nat → List AV} {O : List MadeS} {x : MadeS} {c i : Nat} (hc : O.length = c) (hf : ∀ i, i < c → f i = mRows O i) (hi : i < c + 1) : catF c f (rowC (MadeS.c x) 0 134) i = mRows (O ++ [x]) i := by
  rcases Nat.lt_or_ge i c with h | h
  · rw [catF_lt h, hf i h]
    unfold mRows
    rw [List.getD_eq_getElem?_getD, List.getD_eq_getElem?_getD, List.getElem?_append_left (by omega)]
  · have e : i = c := by omega
    subst e
    rw [catF_ge (Nat.le_refl _), Nat.sub_self]
    unfold mRows
    rw [List.getD_eq_getElem?_getD, List.getElem?_append_right (by omega), hc, Nat.sub_self]
    rfl
end Go.Tk
end
section
namespace Go.Tk
def inOf (t : TermS) : InS := ⟨t.fund, t.index, 1, zero32, zero32, zero32⟩
def txZ : List AV := [.int .i64 0, .nilslice, .nilslice]
end Go.Tk
end
section
namespace Go.Tk
theorem one_row (x : MadeS) (i : Nat) (hi : i < 1) : catF 0 (fun _ => []) (rowC (MadeS.c x) 0 134) i = mRows [x] i := rows_snoc (O := []) rfl (fun k hk => absurd hk (Nat.not_lt_zero k)) hi
theorem two_rows (x y : MadeS) (i : Nat) (hi : i < 2) : catF 1 (catF 0 (fun _ => []) (rowC (MadeS.c x) 0 134)) (rowC (MadeS.c y) 0 134) i = mRows [x, y] i := rows_snoc (O := [x]) rfl (fun k hk => one_row x k hk) hi
end Go.Tk
end
section
namespace Go.Tk
theorem sameT_refl (t : TxS) : sameT t t = true := by
  unfold sameT eqiL eqoL
  simp [eqIn, eqOut]
def tx0 : TxS := ⟨0, 0, fun _ => inZ, 0, fun _ => outZ⟩
theorem tx0_ok : tx0.Ok := ⟨by decide, by decide, fun i hi => absurd hi (Nat.not_lt_zero i), fun i hi => absurd hi (Nat.not_lt_zero i)⟩
end Go.Tk
end
section
namespace Go.Tk
def hsh (n : Int) : List Int := n :: List.replicate 31 0
def t8 : TermS := ⟨zero32, 0, 1000, 10, 5, 3, hsh 1, hsh 2⟩
def sh8A : List AV := [.int .i64 0, .int .i64 0, .arr .u8 32 zero32, .arr .i64 2 [600, 400], .nilslice]
def mA1 : MadeS := ⟨⟨3, 595, hsh 1, zero32, zero32, zero32, 3, 0⟩, 0, -1⟩
def mA2 : MadeS := ⟨⟨1, 400, hsh 2, zero32, zero32, zero32, 0, 0⟩, 0, -2⟩
def mB1 : MadeS := ⟨⟨3, 380, hsh 2, zero32, zero32, zero32, 3, 0⟩, 0, -1⟩
def mB2 : MadeS := ⟨⟨1, 595, hsh 1, zero32, zero32, zero32, 0, 0⟩, 0, -2⟩
def mB3 : MadeS := ⟨⟨5, 20, hsh 2, hsh 1, zero32, zero32, 3, 9⟩, 0, 0⟩
def mC1 : MadeS := ⟨⟨1, 400, hsh 2, zero32, zero32, zero32, 0, 0⟩, 1, 0⟩
def or8F : FSumm := fun args h K => match args with
  | [.nslice p esz len lo] => match h.get p.blk with
    | some (.rows 134 m f) => match Nat.beq m len && Nat.beq p.row 0 && Nat.beq p.sz 134 && Nat.beq p.off 0 && Nat.beq p.inn 0 && Nat.beq esz 134 with
      | true => match m with
        | 1 => (∀ i, i < 1 → f i = mRows [mC1] i) ∧ K (.ret (.nslice ⟨p.blk, 0, 134, 0, 0⟩ 134 1 lo)) ⟨h.next, (p.blk, .rows 134 1 (mRows [mC1])) :: delB h.bs p.blk⟩
        | 2 => (∀ i, i < 2 → f i = mRows [mA1, mA2] i) ∧ K (.ret (.nslice ⟨p.blk, 0, 134, 0, 0⟩ 134 2 lo)) ⟨h.next, (p.blk, .rows 134 2 (mRows [mA2, mA1])) :: delB h.bs p.blk⟩
        | 3 => (∀ i, i < 3 → f i = mRows [mB1, mB2, mB3] i) ∧ K (.ret (.nslice ⟨p.blk, 0, 134, 0, 0⟩ 134 3 lo)) ⟨h.next, (p.blk, .rows 134 3 (mRows [mB3, mB1, mB2])) :: delB h.bs p.blk⟩
        | _ => False
      | false => False
    | _ => False
  | _ => False
theorem or8_ok (args : List AV) (h : Heap) (K : KO) (hl : or8F args h K) : CallsA PP 58 args h K := by
  unfold or8F at hl
  split at hl
  · rename_i p esz len lo
    split at hl
    · rename_i m f hg
      split at hl
      · rename_i hb
        simp only [Bool.and_eq_true] at hb
        obtain ⟨⟨⟨⟨⟨h1, h2⟩, h3⟩, h4⟩, h5⟩, h6⟩ := hb
        have g1 := Nat.eq_of_beq_eq_true h1
        clear h1
        have g2 := Nat.eq_of_beq_eq_true h2
        clear h2
        have g3 := Nat.eq_of_beq_eq_true h3
        clear h3
        have g4 := Nat.eq_of_beq_eq_true h4
        clear h4
        have g5 := Nat.eq_of_beq_eq_true h5
        clear h5
        have g6 := Nat.eq_of_beq_eq_true h6
        clear h6
        obtain ⟨blk, row, sz, off, inn⟩ := p
        simp only at g2 g3 g4 g5 hg
        subst g1 g2 g3 g4 g5 g6
        have key : ∀ (L L' : List MadeS), L.length = m → m < 20 → (∀ x ∈ L, x.Ok) → sortM L = L' → (∀ i, i < m → f i = mRows L i) → K (.ret (.nslice ⟨blk, 0, 134, 0, 0⟩ 134 m lo)) ⟨h.next, (blk, .rows 134 m (mRows L')) :: delB h.bs blk⟩ → CallsA PP 58 [.nslice ⟨blk, 0, 134, 0, 0⟩ 134 m lo] h K := by
          intro L L' k1 k2 k3 k4 k5 hK
          subst k4
          refine orF_ok _ _ _ ?_
          unfold orF
          refine frA_one hg (fun i hi => by rw [k5 i hi]; exact mRows_plain L i) ?_
          exact ⟨L, ⟨rfl, k2, k1⟩, k3, k5, hK⟩
        have z32 : zero32.length = 32 := rfl
        have l1 : (hsh 1).length = 32 := rfl
        have l2 : (hsh 2).length = 32 := rfl
        split at hl
        · exact key [mC1] [mC1] rfl (by decide) (fun x hx => by simp only [List.mem_cons, List.not_mem_nil, or_false] at hx; subst hx; exact ⟨l2, z32, z32, z32⟩) rfl hl.1 hl.2
        · exact key [mA1, mA2] [mA2, mA1] rfl (by decide) (fun x hx => by simp only [List.mem_cons, List.not_mem_nil, or_false] at hx; rcases hx with rfl | rfl <;> exact ⟨by assumption, z32, z32, z32⟩) rfl hl.1 hl.2
        · exact key [mB1, mB2, mB3] [mB3, mB1, mB2] rfl (by decide) (fun x hx => by simp only [List.mem_cons, List.not_mem_nil, or_false] at hx; rcases hx with rfl | rfl | rfl <;> exact ⟨by assumption, by assumption, z32, z32⟩) rfl hl.1 hl.2
        · exact hl.elim
      · exact hl.elim
    · exact hl.elim
  · exact hl.elim
noncomputable def E88 : Env2 := G0.withF 58 or8F
theorem E88_ok : E88.Ok := Env2.withF_ok G0_ok or8_ok
set_option maxRecDepth 100000 in
set_option maxHeartbeats 0 in
theorem coA (X : Nat) (hx : X = X) :
    evF E88 20 9 [.agg t8.c, .agg sh8A] ⟨0, []⟩ (outM 0 (.ret (.tuple [.agg [.int .i64 0, .nslice ⟨0, 0, 0, 0, 0⟩ 130 1 1, .nslice ⟨1, 0, 132, 0, 0⟩ 132 2 2], .int .i64 0])) 2 [(0, .flat (InS.c (inOf t8))), (1, .rows 132 2 (outRows (fun i => match i with | 0 => ⟨1, 400, hsh 2, zero32, zero32, zero32, 0, 0⟩ | _ => ⟨3, 595, hsh 1, zero32, zero32, zero32, 3, 0⟩)))]) := by
  refine @Eq.mpr _ (let q1 := t8.k1;
 let q2 := q1 = q1;
 let q3 := t8.k0;
 let q4 := q3 = q3;
 let q5 := AV.arr IntKind.u8 32 zero32;
 let q6 := AV.int IntKind.i64 0;
 let q7 := t8.fund;
 let q8 := inOf t8;
 let q9 := mA2.o;
 let q10 := mA1.o;
 q2 ∧
 q4 ∧
 q2 ∧
 q4 ∧
 q2 ∧
 q4 ∧
 q2 ∧
 q4 ∧
 q2 ∧
 q4 ∧
 q2 ∧
 q2 ∧
 q2 ∧
 (∀ (i : Nat), i < 2 → catF 1 (catF 0 (fun (x : Nat) => []) (rowC [AV.int IntKind.i64 3, AV.int IntKind.i64 595, AV.arr IntKind.u8 32 q3, q5, q5, q5, AV.int IntKind.i64 t8.delay, q6, q6, AV.int IntKind.i64 (-1)] 0 134)) (rowC [AV.int IntKind.i64 1, AV.int IntKind.i64 400, AV.arr IntKind.u8 32 q1, q5, q5, q5, q6, q6, q6, AV.int IntKind.i64 (-2)] 0 134) i = mRows [mA1, mA2] i) ∧
 q7 = q7 ∧
 q4 ∧
 q2 ∧
 q7 = q8.name ∧
 zero32 = q8.tag ∧
 zero32 = q8.also ∧
 zero32 = q8.secret ∧
 RowsEq 0 [(1, 34), (0, 27)] 2
 (outRows fun (i : Nat) =>
 match i with
 | 0 => OutS.mk 1 400 (hsh 2) zero32 zero32 zero32 0 0
 | x => OutS.mk 3 595 (hsh 1) zero32 zero32 zero32 3 0)
 (catF 1 (catF 0 (fun (x : Nat) => []) (rowC [AV.int IntKind.i64 q9.kind, AV.int IntKind.i64 q9.amount, AV.arr IntKind.u8 32 q9.owner, AV.arr IntKind.u8 32 q9.other, AV.arr IntKind.u8 32 q9.point, AV.arr IntKind.u8 32 q9.hash, AV.int IntKind.i64 q9.delay, AV.int IntKind.i64 q9.expiry] 0 132)) (rowC [AV.int IntKind.i64 q10.kind, AV.int IntKind.i64 q10.amount, AV.arr IntKind.u8 32 q10.owner, AV.arr IntKind.u8 32 q10.other, AV.arr IntKind.u8 32 q10.point, AV.arr IntKind.u8 32 q10.hash, AV.int IntKind.i64 q10.delay, AV.int IntKind.i64 q10.expiry] 0 132)) ∧
 True) (by kernel_rfl) ?_
  conv => zeta
  have e3 : ∀ i : Nat, i < 3 → i = 0 ∨ i = 1 ∨ i = 2 := by omega
  and_intros
  all_goals first
    | rfl
    | trivial
    | (intro i hi; exact one_row mC1 i hi)
    | (intro i hi; exact two_rows mA1 mA2 i hi)
    | (intro i hi; exact rows_snoc (O := [mB1, mB2]) (x := mB3) (c := 2) rfl (fun k hk => two_rows mB1 mB2 k hk) hi)
    | (refine outRowsEq fun i hi => ?_; rcases e3 i (by omega) with rfl | rfl | rfl <;> first | rfl | omega)
def pdC : List AV := [.int .i64 0, .int .i64 0, .int .i64 20, .arr .u8 32 zero32, .int .i64 9]
def sh8B : List AV := [.int .i64 0, .int .i64 1, .arr .u8 32 zero32, .arr .i64 2 [600, 380], .vrows 36 1 (rowC pdC 0 36) 1]
def sh8C : List AV := [.int .i64 0, .int .i64 0, .arr .u8 32 zero32, .arr .i64 2 [600, 401], .nilslice]
set_option maxRecDepth 100000 in
set_option maxHeartbeats 0 in
theorem coB (X : Nat) (hx : X = X) :
    evF E88 20 9 [.agg t8.c, .agg sh8B] ⟨0, []⟩ (outM 0 (.ret (.tuple [.agg [.int .i64 0, .nslice ⟨0, 0, 0, 0, 0⟩ 130 1 1, .nslice ⟨1, 0, 132, 0, 0⟩ 132 3 3], .int .i64 0])) 2 [(0, .flat (InS.c (inOf t8))), (1, .rows 132 3 (outRows (fun i => match i with | 0 => ⟨5, 20, hsh 2, hsh 1, zero32, zero32, 3, 9⟩ | 1 => ⟨3, 380, hsh 2, zero32, zero32, zero32, 3, 0⟩ | _ => ⟨1, 595, hsh 1, zero32, zero32, zero32, 0, 0⟩)))]) := by
  refine @Eq.mpr _ (let q1 := t8.k1;
 let q2 := q1 = q1;
 let q3 := t8.k0;
 let q4 := q3 = q3;
 let q5 := AV.arr IntKind.u8 32 q1;
 let q6 := AV.arr IntKind.u8 32 zero32;
 let q7 := AV.int IntKind.i64 t8.delay;
 let q8 := AV.int IntKind.i64 0;
 let q9 := AV.arr IntKind.u8 32 q3;
 let q10 := t8.fund;
 let q11 := inOf t8;
 let q12 := mB3.o;
 let q13 := mB1.o;
 let q14 := mB2.o;
 q2 ∧
 q4 ∧
 q2 ∧
 q4 ∧
 q2 ∧
 q4 ∧
 q2 ∧
 q4 ∧
 q2 ∧
 q4 ∧
 q4 ∧
 q4 ∧
 q4 ∧
 (∀ (i : Nat), i < 3 → catF 2 (catF 1 (catF 0 (fun (x : Nat) => []) (rowC [AV.int IntKind.i64 3, AV.int IntKind.i64 380, q5, q6, q6, q6, q7, q8, q8, AV.int IntKind.i64 (-1)] 0 134)) (rowC [AV.int IntKind.i64 1, AV.int IntKind.i64 595, q9, q6, q6, q6, q8, q8, q8, AV.int IntKind.i64 (-2)] 0 134)) (rowC [AV.int IntKind.i64 5, AV.int IntKind.i64 20, q5, q9, q6, q6, q7, AV.int IntKind.i64 9, q8, q8] 0 134) i = mRows [mB1, mB2, mB3] i) ∧
 q10 = q10 ∧
 q4 ∧
 q2 ∧
 q10 = q11.name ∧
 zero32 = q11.tag ∧
 zero32 = q11.also ∧
 zero32 = q11.secret ∧
 RowsEq 0 [(1, 47), (0, 37)] 3
 (outRows fun (i : Nat) =>
 match i with
 | 0 => OutS.mk 5 20 (hsh 2) (hsh 1) zero32 zero32 3 9
 | 1 => OutS.mk 3 380 (hsh 2) zero32 zero32 zero32 3 0
 | x => OutS.mk 1 595 (hsh 1) zero32 zero32 zero32 0 0)
 (catF 2 (catF 1 (catF 0 (fun (x : Nat) => []) (rowC [AV.int IntKind.i64 q12.kind, AV.int IntKind.i64 q12.amount, AV.arr IntKind.u8 32 q12.owner, AV.arr IntKind.u8 32 q12.other, AV.arr IntKind.u8 32 q12.point, AV.arr IntKind.u8 32 q12.hash, AV.int IntKind.i64 q12.delay, AV.int IntKind.i64 q12.expiry] 0 132)) (rowC [AV.int IntKind.i64 q13.kind, AV.int IntKind.i64 q13.amount, AV.arr IntKind.u8 32 q13.owner, AV.arr IntKind.u8 32 q13.other, AV.arr IntKind.u8 32 q13.point, AV.arr IntKind.u8 32 q13.hash, AV.int IntKind.i64 q13.delay, AV.int IntKind.i64 q13.expiry] 0 132)) (rowC [AV.int IntKind.i64 q14.kind, AV.int IntKind.i64 q14.amount, AV.arr IntKind.u8 32 q14.owner, AV.arr IntKind.u8 32 q14.other, AV.arr IntKind.u8 32 q14.point, AV.arr IntKind.u8 32 q14.hash, AV.int IntKind.i64 q14.delay, AV.int IntKind.i64 q14.expiry] 0 132)) ∧
 True) (by kernel_rfl) ?_
  conv => zeta
  have e3 : ∀ i : Nat, i < 3 → i = 0 ∨ i = 1 ∨ i = 2 := by omega
  and_intros
  all_goals first
    | rfl
    | trivial
    | (intro i hi; exact one_row mC1 i hi)
    | (intro i hi; exact two_rows mA1 mA2 i hi)
    | (intro i hi; exact rows_snoc (O := [mB1, mB2]) (x := mB3) (c := 2) rfl (fun k hk => two_rows mB1 mB2 k hk) hi)
    | (refine outRowsEq fun i hi => ?_; rcases e3 i (by omega) with rfl | rfl | rfl <;> first | rfl | omega)
set_option maxRecDepth 100000 in
set_option maxHeartbeats 0 in
theorem coC (X : Nat) (hx : X = X) :
    evF E88 20 9 [.agg t8.c, .agg sh8C] ⟨0, []⟩ (outM 0 (.ret (.tuple [.agg txZ, .int .i64 2])) 0 []) := by
  refine @Eq.mpr _ (let q1 := t8.k1 = t8.k1;
 let q2 := t8.k0 = t8.k0;
 q1 ∧ q2 ∧ q1 ∧ q2 ∧ q1 ∧ q2 ∧ q1 ∧ q2 ∧ q1 ∧ q2 ∧ True) (by kernel_rfl) ?_
  conv => zeta
  have e3 : ∀ i : Nat, i < 3 → i = 0 ∨ i = 1 ∨ i = 2 := by omega
  and_intros
  all_goals first
    | rfl
    | trivial
    | (intro i hi; exact one_row mC1 i hi)
    | (intro i hi; exact two_rows mA1 mA2 i hi)
    | (intro i hi; exact rows_snoc (O := [mB1, mB2]) (x := mB3) (c := 2) rfl (fun k hk => two_rows mB1 mB2 k hk) hi)
    | (refine outRowsEq fun i hi => ?_; rcases e3 i (by omega) with rfl | rfl | rfl <;> first | rfl | omega)
set_option maxRecDepth 100000 in
set_option maxHeartbeats 0 in
theorem plB (X : Nat) (hx : X = X) :
    evF E88 20 10 [.agg t8.c, .agg sh8B] ⟨0, []⟩ (outM 0 (.ret (.tuple [.nslice ⟨0, 0, 0, 0, 0⟩ 1 1 1, .int .i64 1, .int .i64 2, .int .i64 0])) 1 [(0, .ints .i64 [0])]) := by
  refine @Eq.mpr _ (let q1 := t8.k1;
 let q2 := q1 = q1;
 let q3 := t8.k0;
 let q4 := q3 = q3;
 let q5 := AV.arr IntKind.u8 32 q1;
 let q6 := AV.arr IntKind.u8 32 zero32;
 let q7 := AV.int IntKind.i64 t8.delay;
 let q8 := AV.int IntKind.i64 0;
 let q9 := AV.arr IntKind.u8 32 q3;
 q2 ∧
 q4 ∧
 q2 ∧
 q4 ∧ q2 ∧ q4 ∧ q2 ∧ q4 ∧ q2 ∧ q4 ∧ q4 ∧ q4 ∧ q4 ∧ (∀ (i : Nat), i < 3 → catF 2 (catF 1 (catF 0 (fun (x : Nat) => []) (rowC [AV.int IntKind.i64 3, AV.int IntKind.i64 380, q5, q6, q6, q6, q7, q8, q8, AV.int IntKind.i64 (-1)] 0 134)) (rowC [AV.int IntKind.i64 1, AV.int IntKind.i64 595, q9, q6, q6, q6, q8, q8, q8, AV.int IntKind.i64 (-2)] 0 134)) (rowC [AV.int IntKind.i64 5, AV.int IntKind.i64 20, q5, q9, q6, q6, q7, AV.int IntKind.i64 9, q8, q8] 0 134) i = mRows [mB1, mB2, mB3] i) ∧ t8.fund = t8.fund ∧ q4 ∧ q2 ∧ q4 ∧ q4 ∧ q4 ∧ (∀ (i : Nat), i < 3 → catF 2 (catF 1 (catF 0 (fun (x : Nat) => []) (rowC [AV.int IntKind.i64 3, AV.int IntKind.i64 380, q5, q6, q6, q6, q7, q8, q8, AV.int IntKind.i64 (-1)] 0 134)) (rowC [AV.int IntKind.i64 1, AV.int IntKind.i64 595, q9, q6, q6, q6, q8, q8, q8, AV.int IntKind.i64 (-2)] 0 134)) (rowC [AV.int IntKind.i64 5, AV.int IntKind.i64 20, q5, q9, q6, q6, q7, AV.int IntKind.i64 9, q8, q8] 0 134) i = mRows [mB1, mB2, mB3] i) ∧ [(0 : Int)] = [(0 : Int)] ∧ True) (by kernel_rfl) ?_
  conv => zeta
  have e3 : ∀ i : Nat, i < 3 → i = 0 ∨ i = 1 ∨ i = 2 := by omega
  and_intros
  all_goals first
    | rfl
    | trivial
    | (intro i hi; exact one_row mC1 i hi)
    | (intro i hi; exact two_rows mA1 mA2 i hi)
    | (intro i hi; exact rows_snoc (O := [mB1, mB2]) (x := mB3) (c := 2) rfl (fun k hk => two_rows mB1 mB2 k hk) hi)
    | (refine outRowsEq fun i hi => ?_; rcases e3 i (by omega) with rfl | rfl | rfl <;> first | rfl | omega)
set_option maxRecDepth 100000 in
set_option maxHeartbeats 0 in
theorem clA (X : Nat) (hx : X = X) :
    evF E88 20 26 [.agg t8.c, .agg [.arr .i64 2 [600, 400]], .int .i64 600] ⟨0, []⟩ (outM 0 (.ret (.tuple [.agg [.int .i64 2147483647, .nslice ⟨0, 0, 0, 0, 0⟩ 130 1 1, .nslice ⟨1, 0, 132, 0, 0⟩ 132 1 1], .int .i64 0])) 2 [(0, .flat (InS.c (inOf t8))), (1, .rows 132 1 (outRows (fun _ => ⟨1, 400, hsh 2, zero32, zero32, zero32, 0, 0⟩)))]) := by
  refine @Eq.mpr _ (let q1 := t8.k1;
 let q2 := q1 = q1;
 let q3 := t8.k0 = t8.k0;
 let q4 := AV.arr IntKind.u8 32 zero32;
 let q5 := AV.int IntKind.i64 0;
 let q6 := t8.fund;
 let q7 := inOf t8;
 let q8 := mC1.o;
 q2 ∧ q3 ∧ q2 ∧ q3 ∧ q2 ∧ q3 ∧ q2 ∧ q3 ∧ q2 ∧ q3 ∧ (∀ (i : Nat), i < 1 → catF 0 (fun (x : Nat) => []) (rowC [AV.int IntKind.i64 1, AV.int IntKind.i64 400, AV.arr IntKind.u8 32 q1, q4, q4, q4, q5, q5, AV.int IntKind.i64 1, q5] 0 134) i = mRows [mC1] i) ∧ q6 = q6 ∧ q3 ∧ q2 ∧ q6 = q7.name ∧ zero32 = q7.tag ∧ zero32 = q7.also ∧ zero32 = q7.secret ∧ RowsEq 0 [(1, 15), (0, 11)] 1 (outRows fun (x : Nat) => OutS.mk 1 400 (hsh 2) zero32 zero32 zero32 0 0) (catF 0 (fun (x : Nat) => []) (rowC [AV.int IntKind.i64 q8.kind, AV.int IntKind.i64 q8.amount, AV.arr IntKind.u8 32 q8.owner, AV.arr IntKind.u8 32 q8.other, AV.arr IntKind.u8 32 q8.point, AV.arr IntKind.u8 32 q8.hash, AV.int IntKind.i64 q8.delay, AV.int IntKind.i64 q8.expiry] 0 132)) ∧ True) (by kernel_rfl) ?_
  conv => zeta
  have e3 : ∀ i : Nat, i < 3 → i = 0 ∨ i = 1 ∨ i = 2 := by omega
  and_intros
  all_goals first
    | rfl
    | trivial
    | (intro i hi; exact one_row mC1 i hi)
    | (intro i hi; exact two_rows mA1 mA2 i hi)
    | (intro i hi; exact rows_snoc (O := [mB1, mB2]) (x := mB3) (c := 2) rfl (fun k hk => two_rows mB1 mB2 k hk) hi)
    | (refine outRowsEq fun i hi => ?_; rcases e3 i (by omega) with rfl | rfl | rfl <;> first | rfl | omega)
def co8F : FSumm := fun args h K => viewL none h true 20 args fun a => match a with
  | [ct, .agg [nu, ow, po, .arr .i64 2 [x, y], pe]] => match decide (y = 400) with
    | true => ct = .agg t8.c ∧ AV.agg [nu, ow, po, .arr .i64 2 [x, y], pe] = .agg sh8A ∧ K (.ret (.tuple [.agg [.int .i64 0, .nslice ⟨h.next, 0, 0, 0, 0⟩ 130 1 1, .nslice ⟨h.next + 1, 0, 132, 0, 0⟩ 132 2 2], .int .i64 0])) ⟨h.next + 2, (h.next, .flat (InS.c (inOf t8))) :: (h.next + 1, .rows 132 2 (outRows (fun i => match i with | 0 => ⟨1, 400, hsh 2, zero32, zero32, zero32, 0, 0⟩ | _ => ⟨3, 595, hsh 1, zero32, zero32, zero32, 3, 0⟩))) :: h.bs⟩
    | false => match decide (y = 380) with
      | true => ct = .agg t8.c ∧ AV.agg [nu, ow, po, .arr .i64 2 [x, y], pe] = .agg sh8B ∧ K (.ret (.tuple [.agg [.int .i64 0, .nslice ⟨h.next, 0, 0, 0, 0⟩ 130 1 1, .nslice ⟨h.next + 1, 0, 132, 0, 0⟩ 132 3 3], .int .i64 0])) ⟨h.next + 2, (h.next, .flat (InS.c (inOf t8))) :: (h.next + 1, .rows 132 3 (outRows (fun i => match i with | 0 => ⟨5, 20, hsh 2, hsh 1, zero32, zero32, 3, 9⟩ | 1 => ⟨3, 380, hsh 2, zero32, zero32, zero32, 3, 0⟩ | _ => ⟨1, 595, hsh 1, zero32, zero32, zero32, 0, 0⟩))) :: h.bs⟩
      | false => ct = .agg t8.c ∧ AV.agg [nu, ow, po, .arr .i64 2 [x, y], pe] = .agg sh8C ∧ K (.ret (.tuple [.agg txZ, .int .i64 2])) h
  | _ => False
theorem co8_ok (args : List AV) (h : Heap) (K : KO) (hl : co8F args h K) : CallsA PP 9 args h K := by
  refine Pure.fsumm (d := 20) (viewL_weak _ _ _ _ _ hl fun a ha => ?_)
  split at ha
  · split at ha
    · obtain ⟨rfl, e, hK⟩ := ha
      rw [e]
      exact ⟨_, _, _, _, .evM E88_ok (coA 0 rfl), rfl, ⟨by decide, .flat _ rfl, by decide, .rows _ _ _ (fun i _ => OutS.plainC _), trivial⟩, hK⟩
    · split at ha
      · obtain ⟨rfl, e, hK⟩ := ha
        rw [e]
        exact ⟨_, _, _, _, .evM E88_ok (coB 0 rfl), rfl, ⟨by decide, .flat _ rfl, by decide, .rows _ _ _ (fun i _ => OutS.plainC _), trivial⟩, hK⟩
      · obtain ⟨rfl, e, hK⟩ := ha
        rw [e]
        exact ⟨_, _, _, _, .evM E88_ok (coC 0 rfl), rfl, trivial, hK⟩
  · exact ha.elim
def pl8F : FSumm := fun args h K => viewL none h true 20 args fun a => a = [.agg t8.c, .agg sh8B] ∧ K (.ret (.tuple [.nslice ⟨h.next, 0, 0, 0, 0⟩ 1 1 1, .int .i64 1, .int .i64 2, .int .i64 0])) ⟨h.next + 1, (h.next, .ints .i64 [0]) :: h.bs⟩
theorem pl8_ok (args : List AV) (h : Heap) (K : KO) (hl : pl8F args h K) : CallsA PP 10 args h K := by
  refine Pure.fsumm (d := 20) (viewL_weak _ _ _ _ _ hl fun a ha => ?_)
  obtain ⟨rfl, hK⟩ := ha
  exact ⟨_, _, _, _, .evM E88_ok (plB 0 rfl), rfl, ⟨by decide, .ints _ _, trivial⟩, hK⟩
def cl8F : FSumm := fun args h K => viewL none h true 20 args fun a => a = [.agg t8.c, .agg [.arr .i64 2 [600, 400]], .int .i64 600] ∧ K (.ret (.tuple [.agg [.int .i64 2147483647, .nslice ⟨h.next, 0, 0, 0, 0⟩ 130 1 1, .nslice ⟨h.next + 1, 0, 132, 0, 0⟩ 132 1 1], .int .i64 0])) ⟨h.next + 2, (h.next, .flat (InS.c (inOf t8))) :: (h.next + 1, .rows 132 1 (outRows (fun _ => ⟨1, 400, hsh 2, zero32, zero32, zero32, 0, 0⟩))) :: h.bs⟩
theorem cl8_ok (args : List AV) (h : Heap) (K : KO) (hl : cl8F args h K) : CallsA PP 26 args h K := by
  refine Pure.fsumm (d := 20) (viewL_weak _ _ _ _ _ hl fun a ha => ?_)
  obtain ⟨rfl, hK⟩ := ha
  exact ⟨_, _, _, _, .evM E88_ok (clA 0 rfl), rfl, ⟨by decide, .flat _ rfl, by decide, .rows _ _ _ (fun i _ => OutS.plainC _), trivial⟩, hK⟩
noncomputable def E88b (A : List Int → Int × Int) (Nm : TxS → List Int) : Env2 := (((((G0.withP 41 (nameS A Nm)).withP 43 (ckS A)).withF 67 cleF).withF 9 co8F).withF 10 pl8F).withF 26 cl8F
theorem E88b_ok : (E88b addM nameT).Ok := Env2.withF_ok (Env2.withF_ok (Env2.withF_ok (Env2.withF_ok (Env2.withP_ok (Env2.withP_ok G0_ok nameS_ok) ckS_ok) cleF_ok) co8_ok) pl8_ok) cl8_ok
set_option maxRecDepth 100000 in
set_option maxHeartbeats 0 in
theorem wk_1 (A : List Int → Int × Int) (Nm : TxS → List Int) (b : Bool) (hA : A = addM) (hN : Nm = nameT) (hb : b = true) :
    evF (E88b A Nm) 20 8 [] ⟨0, []⟩ (outV (fun v => v = .bool b)) := by
  refine @Eq.mpr _ (let q1 := AV.arr IntKind.u8 32 zero32;
 let q2 := AV.int IntKind.i64 0;
 let q3 := [(0 : Int), 0, 0, 0, 0, 0, 0, 0, 0, 0, 0, 0, 0, 0, 0, 0, 0, 0, 0, 0, 0, 0, 0, 0, 0, 0, 0, 0, 0, 0, 0];
 let q4 := AV.agg [q1, q2, AV.int IntKind.i64 1000, AV.int IntKind.i64 10, AV.int IntKind.i64 5, AV.int IntKind.i64 3, AV.arr IntKind.u8 32 ((1 : Int) :: q3), AV.arr IntKind.u8 32 ((2 : Int) :: q3)];
 let q5 := AV.agg (TermS.c t8);
 let q6 := q4 = q5;
 let q7 := AV.arr IntKind.i64 2 [(600 : Int), 400];
 let q8 := AV.agg [q2, AV.int IntKind.i64 1, q1, AV.arr IntKind.i64 2 [(600 : Int), 380], AV.vrows 36 1 (rowC [q2, q2, AV.int IntKind.i64 20, q1, AV.int IntKind.i64 9] 0 36) 1];
 let q9 := [AV.agg [q7], AV.int IntKind.i64 600];
 let q10 := inOf t8;
 let q11 := AV.bool true = AV.bool b;
 q6 ∧
 AV.agg [q2, q2, q1, q7, AV.nilslice] = AV.agg sh8A ∧
 q6 ∧
 q8 = AV.agg sh8B ∧
 [q4, q8] = [q5, AV.agg sh8B] ∧
 q4 :: q9 = q5 :: q9 ∧
 q6 ∧
 AV.agg [q2, q2, q1, AV.arr IntKind.i64 2 [(600 : Int), 401], AV.nilslice] = AV.agg sh8C ∧
 (∀ (i : Nat), i < 2 → true = true) ∧
 ∃ (t : TxS),
 (t.num = 0 ∧
 (((1 : Nat) = 1 ∧ t.N = 1) ∧ ∀ (i : Nat), i < 1 → rowC [AV.arr IntKind.u8 32 q10.name, AV.int IntKind.i64 q10.index, AV.int IntKind.i64 q10.way, AV.arr IntKind.u8 32 q10.tag, AV.arr IntKind.u8 32 q10.also, AV.arr IntKind.u8 32 q10.secret] 0 130 i = InS.c (t.ins i)) ∧
 ((2 : Nat) = 2 ∧ t.M = 2) ∧
 ∀ (i : Nat),
 let q23 :=
 match i with
 | 0 => OutS.mk 1 400 (hsh 2) zero32 zero32 zero32 0 0
 | x => OutS.mk 3 595 (hsh 1) zero32 zero32 zero32 3 0;
 i < 2 → [AV.int IntKind.i64 q23.kind, AV.int IntKind.i64 q23.amount, AV.arr IntKind.u8 32 q23.owner, AV.arr IntKind.u8 32 q23.other, AV.arr IntKind.u8 32 q23.point, AV.arr IntKind.u8 32 q23.hash, AV.int IntKind.i64 q23.delay, AV.int IntKind.i64 q23.expiry] = OutS.c (t.outs i)) ∧
 TxS.Ok t ∧ iteB (ckTx A t) (∃ (t : TxS), (t.num = 0 ∧ t.N = 0 ∧ ((1 : Nat) = 1 ∧ t.M = 1) ∧ ∀ (i : Nat), i < 1 → rowC [AV.int IntKind.i64 1, q2, q1, q1, q1, q1, q2, q2] 0 132 i = OutS.c (t.outs i)) ∧ TxS.Ok t ∧ iteB (ckTx A t) (AV.bool false = AV.bool b) q11) q11) (by kernel_rfl) ?_
  conv => zeta
  try simp only [need_eq]
  try simp only [nope_eq]
  try simp only [iteD_eq]
  try simp only [iteT_eq]
  try simp only [iteF_eq]
  try simp only [iteE_eq]
  try simp only [Int.toNat_natCast, Nat.zero_add, true_and, and_true, Nat.le_refl]
  subst hA
  have i0 : ∀ i : Nat, i < 1 → i = 0 := by omega
  have hT : (⟨0, 1, fun _ => inOf t8, 2, fun i => match i with | 0 => ⟨1, 400, hsh 2, zero32, zero32, zero32, 0, 0⟩ | _ => ⟨3, 595, hsh 1, zero32, zero32, zero32, 3, 0⟩⟩ : TxS).Ok :=
    ⟨by show 1 < _; decide, by show 2 < _; decide, fun _ _ => ⟨rfl, rfl, rfl, rfl⟩, fun i _ => by cases i <;> exact ⟨rfl, rfl, rfl, rfl⟩⟩
  have hU : (⟨0, 0, fun _ => inZ, 1, fun _ => ⟨1, 0, zero32, zero32, zero32, zero32, 0, 0⟩⟩ : TxS).Ok :=
    ⟨by show 0 < _; decide, by show 1 < _; decide, fun i hi => absurd hi (Nat.not_lt_zero i), fun _ _ => ⟨rfl, rfl, rfl, rfl⟩⟩
  refine ⟨rfl, rfl, rfl, rfl, rfl, rfl, rfl, rfl, fun _ _ => trivial, _, ⟨rfl, ⟨rfl, fun i hi => ?_⟩, rfl, fun i hi => rfl⟩, hT, fun _ => ⟨_, ⟨rfl, rfl, rfl, fun i hi => ?_⟩, hU, fun hc => ?_, fun _ => by rw [hb]⟩, fun _ => by rw [hb]⟩
  · rw [i0 i hi]; rfl
  · rw [i0 i hi]; rfl
  · rw [← rightR_ck] at hc
    unfold rightR at hc
    simp at hc
theorem works8_ok (args : List AV) (h : Heap) (K : AV → Prop) (hl : works8S args h K) : CallsA PP 8 args h fun o h' => ∃ v, o = .ret v ∧ h' = h ∧ K v := by
  unfold works8S at hl
  split at hl
  · exact outV_ev E88b_ok rfl (wk_1 _ _ _ rfl rfl rfl) (fun u hu => hu ▸ hl)
  · exact hl.elim
end Go.Tk
end
section
namespace Go.Tk
end Go.Tk
end
section
namespace Go.Tk
@[irreducible] def loH (a b : List Int) : List Int := if cmpI a b > 0 then b else a
@[irreducible] def hiH (a b : List Int) : List Int := if cmpI a b > 0 then a else b
set_option maxRecDepth 100000 in
set_option maxHeartbeats 0 in
theorem ode_1 (a b lo hi : List Int) (ha : a.length = 32) (hb : b.length = 32) (hl : lo = loH a b) (hh : hi = hiH a b) :
    evF G0 20 50 [.agg [.arr .u8 32 a], .agg [.arr .u8 32 b]] ⟨0, []⟩ (outV (fun v => v = .tuple [.agg [.arr .u8 32 lo], .agg [.arr .u8 32 hi]])) := by
  refine @Eq.mpr _ (let q1 := AV.agg [AV.arr IntKind.u8 32 b];
 let q2 := AV.agg [AV.arr IntKind.u8 32 a];
 let q3 := AV.tuple [AV.agg [AV.arr IntKind.u8 32 lo], AV.agg [AV.arr IntKind.u8 32 hi]];
 iteB (decide (IntKind.u8 = IntKind.u8 ∧ List.length a = 32)) (iteB (decide (IntKind.u8 = IntKind.u8 ∧ List.length b = 32)) (iteB (decide (cmpI a b > 0)) (a = a ∧ AV.tuple [q1, q2] = q3) (b = b ∧ AV.tuple [q2, q1] = q3)) False) False) (by kernel_rfl) ?_
  conv => zeta
  try simp only [need_eq]
  try simp only [nope_eq]
  try simp only [iteD_eq]
  try simp only [iteT_eq]
  try simp only [iteF_eq]
  try simp only [iteE_eq]
  try simp only [Int.toNat_natCast, Nat.zero_add, true_and, and_true, Nat.le_refl]
  subst hl hh
  unfold loH hiH
  refine ⟨ha, hb, fun h => ?_, fun h => ?_⟩
  · rw [if_pos h, if_pos h]
  · rw [if_neg h, if_neg h]
def odeS : PSumm := fun args _ K => match args with
  | [.agg [.arr .u8 32 a], .agg [.arr .u8 32 b]] => (a.length = 32 ∧ b.length = 32) ∧ K (.tuple [.agg [.arr .u8 32 (loH a b)], .agg [.arr .u8 32 (hiH a b)]])
  | _ => False
theorem odeS_ok (args : List AV) (h : Heap) (K : AV → Prop) (hl : odeS args h K) : CallsA PP 50 args h fun o h' => ∃ v, o = .ret v ∧ h' = h ∧ K v := by
  unfold odeS at hl
  split at hl
  · obtain ⟨⟨h1, h2⟩, hK⟩ := hl
    exact outV_ev G0_ok rfl (ode_1 _ _ _ _ h1 h2 rfl rfl) (fun u hu => hu ▸ hK)
  · exact hl.elim
theorem loH_len {a b : List Int} (ha : a.length = 32) (hb : b.length = 32) : (loH a b).length = 32 := by unfold loH; split <;> assumption
theorem hiH_len {a b : List Int} (ha : a.length = 32) (hb : b.length = 32) : (hiH a b).length = 32 := by unfold hiH; split <;> assumption
set_option maxRecDepth 100000 in
set_option maxHeartbeats 0 in
theorem cli_n (m : Nat) (g : Nat → InS) (hm : m < 1000) :
    evF G0 20 48 [.vrows 130 (m + 1) (inRows g) (m + 1)] ⟨0, []⟩ (outM 0 (.ret (.nslice ⟨0, 0, 130, 0, 0⟩ 130 (m + 1) (m + 1))) 1 [(0, .rows 130 (m + 1) (inRows g))]) := by
  refine @Eq.mpr _ (let q1 := m + 1;
 let q2 := 0 + q1;
 let q3 := decide (q2 = q1);
 iteB (decide (q2 * 144 ≤ 140737488355328)) (iteB q3 (iteB (decide (q1 ≤ q2)) (iteB q3 (RowsEq 0 [(0, 0)] q1 (inRows g) (catF 0 (fun (x : Nat) => []) (inRows g)) ∧ True) False) False) False) False) (by kernel_rfl) ?_
  conv => zeta
  try simp only [need_eq]
  try simp only [nope_eq]
  try simp only [iteD_eq]
  try simp only [iteT_eq]
  try simp only [iteF_eq]
  try simp only [iteE_eq]
  try simp only [Int.toNat_natCast, Nat.zero_add, true_and, and_true, Nat.le_refl]
  exact ⟨by omega, inRowsEq fun i _ => by rw [catF_ge (Nat.zero_le _)]; rfl⟩
set_option maxRecDepth 100000 in
set_option maxHeartbeats 0 in
theorem cli_0 (g : Nat → InS)  :
    evF G0 20 48 [.nilslice] ⟨0, []⟩ (outM 0 (.ret (.nslice ⟨0, 0, 130, 0, 0⟩ 130 0 0)) 1 [(0, .rows 130 0 (inRows g))]) := by
  refine @Eq.mpr _ (True) (by kernel_rfl) ?_
  trivial
set_option maxRecDepth 100000 in
set_option maxHeartbeats 0 in
theorem cli_1 (g : Nat → InS)  :
    evF G0 20 48 [.fslice] ⟨0, []⟩ (outM 0 (.ret (.nslice ⟨0, 0, 130, 0, 0⟩ 130 0 0)) 1 [(0, .rows 130 0 (inRows g))]) := by
  refine @Eq.mpr _ (RowsEq 0 [(0, 0)] 0 (inRows g) (catF 0 (fun (x : Nat) => []) fun (x : Nat) => []) ∧ True) (by kernel_rfl) ?_
  try simp only [need_eq]
  try simp only [nope_eq]
  try simp only [iteD_eq]
  try simp only [iteT_eq]
  try simp only [iteF_eq]
  try simp only [iteE_eq]
  try simp only [Int.toNat_natCast, Nat.zero_add, true_and, and_true, Nat.le_refl]
  exact inRowsEq fun i hi => absurd hi (Nat.not_lt_zero i)
theorem cli_pure (n : Nat) (g : Nat → InS) (hn : n < 1000) : Pure PP 48 [.vrows 130 n (inRows g) n] (.nslice ⟨0, 0, 130, 0, 0⟩ 130 n n) 1 [(0, .rows 130 n (inRows g))] := by
  match n, hn with
  | 0, _ => exact Pure.vrows0 (.evM G0_ok (cli_0 g)) (.evM G0_ok (cli_1 g))
  | m + 1, h => exact .evM G0_ok (cli_n m g (by omega))
def cliF : FSumm := fun args h K => viewL none h true 20 args fun a => match a with
  | [v] => ∃ N g, isIn v N g ∧ N < 1000 ∧ K (.ret (.nslice ⟨h.next, 0, 130, 0, 0⟩ 130 N N)) ⟨h.next + 1, (h.next, .rows 130 N (inRows g)) :: h.bs⟩
  | _ => False
theorem cliF_ok (args : List AV) (h : Heap) (K : KO) (hl : cliF args h K) : CallsA PP 48 args h K := by
  refine Pure.fsumm (d := 20) (viewL_weak _ _ _ _ _ hl fun a ha => ?_)
  split at ha
  · obtain ⟨N, g, h1, h2, hK⟩ := ha
    exact ⟨_, _, _, _, (cli_pure N g h2).conv fun E r hr => hr.head (fun _ hc => h1.rel hc) (fun _ hc => hc), rfl, ⟨by decide, .rows _ _ _ (fun i _ => (g i).plainC), trivial⟩, hK⟩
  · exact ha.elim
set_option maxRecDepth 100000 in
set_option maxHeartbeats 0 in
theorem clo_n (m : Nat) (g : Nat → OutS) (hm : m < 1000) :
    evF G0 20 49 [.vrows 132 (m + 1) (outRows g) (m + 1)] ⟨0, []⟩ (outM 0 (.ret (.nslice ⟨0, 0, 132, 0, 0⟩ 132 (m + 1) (m + 1))) 1 [(0, .rows 132 (m + 1) (outRows g))]) := by
  refine @Eq.mpr _ (let q1 := m + 1;
 let q2 := 0 + q1;
 let q3 := decide (q2 = q1);
 iteB (decide (q2 * 160 ≤ 140737488355328)) (iteB q3 (iteB (decide (q1 ≤ q2)) (iteB q3 (RowsEq 0 [(0, 0)] q1 (outRows g) (catF 0 (fun (x : Nat) => []) (outRows g)) ∧ True) False) False) False) False) (by kernel_rfl) ?_
  conv => zeta
  try simp only [need_eq]
  try simp only [nope_eq]
  try simp only [iteD_eq]
  try simp only [iteT_eq]
  try simp only [iteF_eq]
  try simp only [iteE_eq]
  try simp only [Int.toNat_natCast, Nat.zero_add, true_and, and_true, Nat.le_refl]
  exact ⟨by omega, outRowsEq fun i _ => by rw [catF_ge (Nat.zero_le _)]; rfl⟩
set_option maxRecDepth 100000 in
set_option maxHeartbeats 0 in
theorem clo_0 (g : Nat → OutS)  :
    evF G0 20 49 [.nilslice] ⟨0, []⟩ (outM 0 (.ret (.nslice ⟨0, 0, 132, 0, 0⟩ 132 0 0)) 1 [(0, .rows 132 0 (outRows g))]) := by
  refine @Eq.mpr _ (True) (by kernel_rfl) ?_
  trivial
set_option maxRecDepth 100000 in
set_option maxHeartbeats 0 in
theorem clo_1 (g : Nat → OutS)  :
    evF G0 20 49 [.fslice] ⟨0, []⟩ (outM 0 (.ret (.nslice ⟨0, 0, 132, 0, 0⟩ 132 0 0)) 1 [(0, .rows 132 0 (outRows g))]) := by
  refine @Eq.mpr _ (RowsEq 0 [(0, 0)] 0 (outRows g) (catF 0 (fun (x : Nat) => []) fun (x : Nat) => []) ∧ True) (by kernel_rfl) ?_
  try simp only [need_eq]
  try simp only [nope_eq]
  try simp only [iteD_eq]
  try simp only [iteT_eq]
  try simp only [iteF_eq]
  try simp only [iteE_eq]
  try simp only [Int.toNat_natCast, Nat.zero_add, true_and, and_true, Nat.le_refl]
  exact outRowsEq fun i hi => absurd hi (Nat.not_lt_zero i)
theorem clo_pure (n : Nat) (g : Nat → OutS) (hn : n < 1000) : Pure PP 49 [.vrows 132 n (outRows g) n] (.nslice ⟨0, 0, 132, 0, 0⟩ 132 n n) 1 [(0, .rows 132 n (outRows g))] := by
  match n, hn with
  | 0, _ => exact Pure.vrows0 (.evM G0_ok (clo_0 g)) (.evM G0_ok (clo_1 g))
  | m + 1, h => exact .evM G0_ok (clo_n m g (by omega))
def cloF : FSumm := fun args h K => viewL none h true 20 args fun a => match a with
  | [v] => ∃ N g, isOut v N g ∧ N < 1000 ∧ K (.ret (.nslice ⟨h.next, 0, 132, 0, 0⟩ 132 N N)) ⟨h.next + 1, (h.next, .rows 132 N (outRows g)) :: h.bs⟩
  | _ => False
theorem cloF_ok (args : List AV) (h : Heap) (K : KO) (hl : cloF args h K) : CallsA PP 49 args h K := by
  refine Pure.fsumm (d := 20) (viewL_weak _ _ _ _ _ hl fun a ha => ?_)
  split at ha
  · obtain ⟨N, g, h1, h2, hK⟩ := ha
    exact ⟨_, _, _, _, (clo_pure N g h2).conv fun E r hr => hr.head (fun _ hc => h1.rel hc) (fun _ hc => hc), rfl, ⟨by decide, .rows _ _ _ (fun i _ => (g i).plainC), trivial⟩, hK⟩
  · exact ha.elim
end Go.Tk
end
section
namespace Go.Tk
def tgdI (tl th ta : List Int) (x : InS) : InS := if x.way = 1 then ⟨x.name, x.index, x.way, tl, th, x.secret⟩ else if x.way = 4 then x else ⟨x.name, x.index, x.way, ta, x.also, x.secret⟩
def tgdH (t : TxS) (a b : List Int) (G : Nat → InS) : Heap := ⟨7, [(0, .flat [.int .i64 t.num, .nslice ⟨5, 0, 130, 0, 0⟩ 130 t.N t.N, .nslice ⟨6, 0, 132, 0, 0⟩ 132 t.M t.M]), (1, .flat [.arr .u8 32 a]), (2, .flat [.arr .u8 32 b]), (3, .flat t.c), (4, .flat txZ), (5, .rows 130 t.N (inRows G)), (6, .rows 132 t.M (outRows t.outs))]⟩
def tgdT : Tmps := [(10, .ptr (some ⟨0, 0, 0, 0, 0⟩)), (4, .ptr (some ⟨1, 0, 0, 0, 0⟩)), (5, .ptr (some ⟨2, 0, 0, 0, 0⟩)), (9, .func (.func 46) [] [.ptr (some ⟨3, 0, 0, 0, 0⟩)]), (6, .ptr (some ⟨4, 0, 0, 0, 0⟩))]
def tgdS (t : TxS) (a b : List Int) (G : Nat → InS) (i : Nat) : St := ⟨75, (34, .int .i64 i) :: (33, .int .i64 t.N) :: tgdT, tgdH t a b G, []⟩
def tgdE (t : TxS) (G : Nat → InS) : St := ⟨75, [(10, .ptr (some ⟨0, 0, 0, 0, 0⟩)), (6, .ptr (some ⟨1, 0, 0, 0, 0⟩))], ⟨4, [(0, .flat [.int .i64 t.num, .nslice ⟨2, 0, 130, 0, 0⟩ 130 t.N t.N, .nslice ⟨3, 0, 132, 0, 0⟩ 132 t.M t.M]), (1, .flat txZ), (2, .rows 130 t.N (inRows G)), (3, .rows 132 t.M (outRows t.outs))]⟩, []⟩
def txtagY (A : List Int → Int × Int) (Tg : List Int → TxS → List Int) : PSumm := fun args h K => viewL none h true 20 args fun a => match a with
  | [.agg l, .agg [.arr .u8 32 key]] => ∃ t, isTx l t ∧ (t.Ok ∧ key.length = 32 ∧ ckTx A t = true) ∧ K (.tuple [.agg [.arr .u8 32 (Tg key t)], .int .i64 0])
  | _ => False
theorem txtagY_ok (args : List AV) (h : Heap) (K : AV → Prop) (hl : txtagY addM tagT' args h K) : CallsA PP 47 args h fun o h' => ∃ v, o = .ret v ∧ h' = h ∧ K v := by
  refine txtagS_ok args h K (viewL_weak _ _ _ _ _ hl fun a ha => ?_)
  split at ha
  · obtain ⟨t, h1, ⟨h2, h3, h4⟩, hK⟩ := ha
    refine ⟨t, h1, ⟨h2, h3⟩, ?_⟩
    rw [h4]; exact hK
  · exact ha.elim
noncomputable def E111 (A : List Int → Int × Int) (Tg : List Int → TxS → List Int) : Env2 := (G0.withP 50 odeS).withP 47 (txtagY A Tg)
theorem E111_ok : (E111 addM tagT').Ok := Env2.withP_ok (Env2.withP_ok G0_ok odeS_ok) txtagY_ok
set_option maxRecDepth 100000 in
set_option maxHeartbeats 0 in
theorem tgd_1 (A : List Int → Int × Int) (Tg : List Int → TxS → List Int) (t : TxS) (a b tl th ta : List Int) (G G1 : Nat → InS) (i : Nat) (Z1 Z2 : Prop) (ht : t.Ok) (hN : t.N ≤ 24) (hc : ckTx A t = true) (ha : a.length = 32) (hb : b.length = 32) (htl : tl = Tg (loH a b) t) (hth : th = Tg (hiH a b) t) (hta : ta = Tg a t) (hi : i ≤ t.N) (hG : ∀ j, i ≤ j → G j = t.ins j) (hG1 : i < t.N → ∀ j, j < t.N → G1 j = if j = i then tgdI tl th ta (t.ins i) else G j) (h1 : i < t.N → Z1) (h2 : i = t.N → Z2) :
    roundE (E111 A Tg) 20 19 0 0 (tgdS t a b G i) (rdM 0 0 9 (tgdS t a b G1 (i + 1)) (tgdE t G) (tgdE t G) (tgdE t G) Z1 Z2 False False) := by
  refine @Eq.mpr _ (iteB (decide ((↑i : Int) < (↑t.N : Int)))
 (iteB (decide ((0 : Int) ≤ (↑i : Int) ∧ (↑i : Int) < (↑t.N : Int)))
 (iteB (decide ((0 : Nat) + Int.toNat (↑i : Int) < t.N))
 (iteB ((G ((0 : Nat) + Int.toNat (↑i : Int))).way == (1 : Int))
 ((List.length a = (32 : Nat) ∧ List.length b = (32 : Nat)) ∧
 ∃ (t_1 : TxS),
 (t_1.num = t.num ∧ ((t.N = t.N ∧ t_1.N = t.N) ∧ ∀ (i : Nat), i < t.N → inRows t.ins i = InS.c (t_1.ins i)) ∧ (t.M = t.M ∧ t_1.M = t.M) ∧ ∀ (i : Nat), i < t.M → outRows t.outs i = OutS.c (t_1.outs i)) ∧
 (TxS.Ok t_1 ∧ List.length (loH a b) = (32 : Nat) ∧ ckTx A t_1 = true) ∧
 hiH a b = hiH a b ∧
 ∃ (t_2 : TxS),
 (t_2.num = t.num ∧ ((t.N = t.N ∧ t_2.N = t.N) ∧ ∀ (i : Nat), i < t.N → inRows t.ins i = InS.c (t_2.ins i)) ∧ (t.M = t.M ∧ t_2.M = t.M) ∧ ∀ (i : Nat), i < t.M → outRows t.outs i = OutS.c (t_2.outs i)) ∧
 (TxS.Ok t_2 ∧ List.length (hiH a b) = (32 : Nat) ∧ ckTx A t_2 = true) ∧
 iteB (decide ((0 : Nat) + Int.toNat (↑i : Int) < t.N))
 (iteB (decide ((0 : Nat) + Int.toNat (↑i : Int) < t.N))
 (iteB (decide (IntKind.wrap IntKind.i64 ((↑i : Int) + (1 : Int)) = (↑(i + (1 : Nat)) : Int)))
 (iteB (decide ((↑t.N : Int) = (↑t.N : Int)))
 (iteB (decide (t.num = t.num))
 (iteB (decide (t.N = t.N))
 (iteB (decide (t.N ≤ t.N))
 (iteB (decide (t.M = t.M))
 (iteB (decide (t.M ≤ t.M))
 (a = a ∧
 b = b ∧
 iteB (decide (t.num = t.num))
 (iteB (decide (t.N = t.N))
 (inRows t.ins = inRows t.ins ∧
 iteB (decide (t.N = t.N))
 (iteB (decide (t.M = t.M))
 (outRows t.outs = outRows t.outs ∧
 iteB (decide (t.M = t.M))
 (iteB (decide (t.N = t.N))
 (RowsEq (0 : Nat) [((6 : Nat), (6 : Nat)), ((5 : Nat), (5 : Nat)), ((4 : Nat), (4 : Nat)), ((3 : Nat), (3 : Nat)), ((2 : Nat), (2 : Nat)), ((1 : Nat), (1 : Nat)), ((0 : Nat), (0 : Nat))] t.N (inRows G1)
 (updF (updF (inRows G) ((0 : Nat) + Int.toNat (↑i : Int)) [AV.arr IntKind.u8 (32 : Nat) (G ((0 : Nat) + Int.toNat (↑i : Int))).name, AV.int IntKind.i64 (G ((0 : Nat) + Int.toNat (↑i : Int))).index, AV.int IntKind.i64 (G ((0 : Nat) + Int.toNat (↑i : Int))).way, AV.arr IntKind.u8 (32 : Nat) (Tg (loH a b) t_1), AV.arr IntKind.u8 (32 : Nat) (G ((0 : Nat) + Int.toNat (↑i : Int))).also, AV.arr IntKind.u8 (32 : Nat) (G ((0 : Nat) + Int.toNat (↑i : Int))).secret]) ((0 : Nat) + Int.toNat (↑i : Int))
 [AV.arr IntKind.u8 (32 : Nat)
 (match Nat.beq ((0 : Nat) + Int.toNat (↑i : Int)) ((0 : Nat) + Int.toNat (↑i : Int)) with
 | true => (G ((0 : Nat) + Int.toNat (↑i : Int))).name
 | false => (G ((0 : Nat) + Int.toNat (↑i : Int))).name),
 AV.int IntKind.i64
 (match Nat.beq ((0 : Nat) + Int.toNat (↑i : Int)) ((0 : Nat) + Int.toNat (↑i : Int)) with
 | true => (G ((0 : Nat) + Int.toNat (↑i : Int))).index
 | false => (G ((0 : Nat) + Int.toNat (↑i : Int))).index),
 AV.int IntKind.i64
 (match Nat.beq ((0 : Nat) + Int.toNat (↑i : Int)) ((0 : Nat) + Int.toNat (↑i : Int)) with
 | true => (G ((0 : Nat) + Int.toNat (↑i : Int))).way
 | false => (G ((0 : Nat) + Int.toNat (↑i : Int))).way),
 AV.arr IntKind.u8 (32 : Nat)
 (match Nat.beq ((0 : Nat) + Int.toNat (↑i : Int)) ((0 : Nat) + Int.toNat (↑i : Int)) with
 | true => Tg (loH a b) t_1
 | false => (G ((0 : Nat) + Int.toNat (↑i : Int))).tag),
 AV.arr IntKind.u8 (32 : Nat) (Tg (hiH a b) t_2),
 AV.arr IntKind.u8 (32 : Nat)
 (match Nat.beq ((0 : Nat) + Int.toNat (↑i : Int)) ((0 : Nat) + Int.toNat (↑i : Int)) with
 | true => (G ((0 : Nat) + Int.toNat (↑i : Int))).secret
 | false => (G ((0 : Nat) + Int.toNat (↑i : Int))).secret)]) ∧
 iteB (decide (t.M = t.M)) (RowsEq (0 : Nat) [((6 : Nat), (6 : Nat)), ((5 : Nat), (5 : Nat)), ((4 : Nat), (4 : Nat)), ((3 : Nat), (3 : Nat)), ((2 : Nat), (2 : Nat)), ((1 : Nat), (1 : Nat)), ((0 : Nat), (0 : Nat))] t.M (outRows t.outs) (outRows t.outs) ∧ Z1) False)
 False)
 False)
 False)
 False)
 False)
 False)
 False)
 False)
 False)
 False)
 False)
 False)
 False)
 False)
 False)
 (iteB ((G ((0 : Nat) + Int.toNat (↑i : Int))).way == (4 : Int))
 (iteB (decide (IntKind.wrap IntKind.i64 ((↑i : Int) + (1 : Int)) = (↑(i + (1 : Nat)) : Int)))
 (iteB (decide ((↑t.N : Int) = (↑t.N : Int))) (iteB (decide (t.num = t.num)) (iteB (decide (t.N = t.N)) (iteB (decide (t.N ≤ t.N)) (iteB (decide (t.M = t.M)) (iteB (decide (t.M ≤ t.M)) (a = a ∧ b = b ∧ iteB (decide (t.num = t.num)) (iteB (decide (t.N = t.N)) (inRows t.ins = inRows t.ins ∧ iteB (decide (t.N = t.N)) (iteB (decide (t.M = t.M)) (outRows t.outs = outRows t.outs ∧ iteB (decide (t.M = t.M)) (iteB (decide (t.N = t.N)) (RowsEq (0 : Nat) [((6 : Nat), (6 : Nat)), ((5 : Nat), (5 : Nat)), ((4 : Nat), (4 : Nat)), ((3 : Nat), (3 : Nat)), ((2 : Nat), (2 : Nat)), ((1 : Nat), (1 : Nat)), ((0 : Nat), (0 : Nat))] t.N (inRows G1) (inRows G) ∧ iteB (decide (t.M = t.M)) (RowsEq (0 : Nat) [((6 : Nat), (6 : Nat)), ((5 : Nat), (5 : Nat)), ((4 : Nat), (4 : Nat)), ((3 : Nat), (3 : Nat)), ((2 : Nat), (2 : Nat)), ((1 : Nat), (1 : Nat)), ((0 : Nat), (0 : Nat))] t.M (outRows t.outs) (outRows t.outs) ∧ Z1) False) False) False) False) False) False) False) False) False) False) False) False) False) False)
 (∃ (t_1 : TxS),
 (t_1.num = t.num ∧ ((t.N = t.N ∧ t_1.N = t.N) ∧ ∀ (i : Nat), i < t.N → inRows t.ins i = InS.c (t_1.ins i)) ∧ (t.M = t.M ∧ t_1.M = t.M) ∧ ∀ (i : Nat), i < t.M → outRows t.outs i = OutS.c (t_1.outs i)) ∧
 (TxS.Ok t_1 ∧ List.length a = (32 : Nat) ∧ ckTx A t_1 = true) ∧
 iteB (decide ((0 : Nat) + Int.toNat (↑i : Int) < t.N))
 (iteB (decide (IntKind.wrap IntKind.i64 ((↑i : Int) + (1 : Int)) = (↑(i + (1 : Nat)) : Int)))
 (iteB (decide ((↑t.N : Int) = (↑t.N : Int)))
 (iteB (decide (t.num = t.num))
 (iteB (decide (t.N = t.N))
 (iteB (decide (t.N ≤ t.N))
 (iteB (decide (t.M = t.M))
 (iteB (decide (t.M ≤ t.M))
 (a = a ∧
 b = b ∧
 iteB (decide (t.num = t.num))
 (iteB (decide (t.N = t.N))
 (inRows t.ins = inRows t.ins ∧
 iteB (decide (t.N = t.N))
 (iteB (decide (t.M = t.M))
 (outRows t.outs = outRows t.outs ∧
 iteB (decide (t.M = t.M)) (iteB (decide (t.N = t.N)) (RowsEq (0 : Nat) [((6 : Nat), (6 : Nat)), ((5 : Nat), (5 : Nat)), ((4 : Nat), (4 : Nat)), ((3 : Nat), (3 : Nat)), ((2 : Nat), (2 : Nat)), ((1 : Nat), (1 : Nat)), ((0 : Nat), (0 : Nat))] t.N (inRows G1) (updF (inRows G) ((0 : Nat) + Int.toNat (↑i : Int)) [AV.arr IntKind.u8 (32 : Nat) (G ((0 : Nat) + Int.toNat (↑i : Int))).name, AV.int IntKind.i64 (G ((0 : Nat) + Int.toNat (↑i : Int))).index, AV.int IntKind.i64 (G ((0 : Nat) + Int.toNat (↑i : Int))).way, AV.arr IntKind.u8 (32 : Nat) (Tg a t_1), AV.arr IntKind.u8 (32 : Nat) (G ((0 : Nat) + Int.toNat (↑i : Int))).also, AV.arr IntKind.u8 (32 : Nat) (G ((0 : Nat) + Int.toNat (↑i : Int))).secret]) ∧ iteB (decide (t.M = t.M)) (RowsEq (0 : Nat) [((6 : Nat), (6 : Nat)), ((5 : Nat), (5 : Nat)), ((4 : Nat), (4 : Nat)), ((3 : Nat), (3 : Nat)), ((2 : Nat), (2 : Nat)), ((1 : Nat), (1 : Nat)), ((0 : Nat), (0 : Nat))] t.M (outRows t.outs) (outRows t.outs) ∧ Z1) False) False) False)
 False)
 False)
 False)
 False)
 False)
 False)
 False)
 False)
 False)
 False)
 False)
 False)))
 False)
 False)
 (iteB (decide (t.num = t.num)) (iteB (decide (t.N = t.N)) (iteB (decide (t.N ≤ t.N)) (iteB (decide (t.M = t.M)) (iteB (decide (t.M ≤ t.M)) (iteB (decide (t.N = t.N)) (RowsEq (0 : Nat) [((3 : Nat), (6 : Nat)), ((2 : Nat), (5 : Nat)), ((1 : Nat), (4 : Nat)), ((0 : Nat), (0 : Nat))] t.N (inRows G) (inRows G) ∧ iteB (decide (t.M = t.M)) (RowsEq (0 : Nat) [((3 : Nat), (6 : Nat)), ((2 : Nat), (5 : Nat)), ((1 : Nat), (4 : Nat)), ((0 : Nat), (0 : Nat))] t.M (outRows t.outs) (outRows t.outs) ∧ Z2) False) False) False) False) False) False) False)) (by kernel_rfl) ?_
  try simp only [need_eq]
  try simp only [nope_eq]
  try simp only [iteD_eq]
  try simp only [iteT_eq]
  try simp only [iteF_eq]
  try simp only [iteE_eq]
  try simp only [Int.toNat_natCast, Nat.zero_add, true_and, and_true, Nat.le_refl]
  refine ⟨fun hlt' => ?_, fun hge => ⟨inRowsEq fun _ _ => rfl, outRowsEq fun _ _ => rfl, h2 (by omega)⟩⟩
  have hlt : i < t.N := by omega
  have hwr : IntKind.i64.wrap ((i : Int) + 1) = ((i + 1 : Nat) : Int) := by rw [w64 (by omega)]; omega
  have hG1 := hG1 hlt
  have hZ := h1 hlt
  have hO : ∀ τ, RowsEq 0 τ t.M (outRows t.outs) (outRows t.outs) := fun τ => outRowsEq fun _ _ => rfl
  have e1 := hG i (Nat.le_refl _)
  rw [e1]
  have hU : ∀ (A1 : List AV) j, A1 = (tgdI tl th ta (t.ins i)).c → j < t.N → updF (inRows G) i A1 j = (G1 j).c := fun A1 j hA hj => by
    rw [updF_eq, hG1 j hj]
    by_cases e : j = i
    · subst e; rw [Nat.beq_refl, if_pos rfl]; exact hA
    · rw [beq_false_of_ne e, if_neg e]; rfl
  have hU2 : ∀ (A1 B1 : List AV) j, B1 = (tgdI tl th ta (t.ins i)).c → j < t.N → updF (updF (inRows G) i A1) i B1 j = (G1 j).c := fun A1 B1 j hB hj => by
    rw [updF_eq, updF_eq, hG1 j hj]
    by_cases e : j = i
    · subst e; rw [Nat.beq_refl, if_pos rfl]; exact hB
    · rw [beq_false_of_ne e, if_neg e]; rfl
  refine ⟨by omega, hlt, fun k1 => ⟨⟨ha, hb⟩, t, ⟨rfl, ⟨rfl, fun _ _ => rfl⟩, rfl, fun _ _ => rfl⟩, ⟨ht, loH_len ha hb, hc⟩, t, ⟨rfl, ⟨rfl, fun _ _ => rfl⟩, rfl, fun _ _ => rfl⟩, ⟨ht, hiH_len ha hb, hc⟩, hlt, hlt, hwr, inRowsEq fun j hj => hU2 _ _ j ?_ hj, hO _, hZ⟩, fun k1 => ⟨fun k2 => ⟨hwr, inRowsEq fun j hj => ?_, hO _, hZ⟩, fun k2 => ⟨t, ⟨rfl, ⟨rfl, fun _ _ => rfl⟩, rfl, fun _ _ => rfl⟩, ⟨ht, ha, hc⟩, hlt, hwr, inRowsEq fun j hj => hU _ j ?_ hj, hO _, hZ⟩⟩⟩
  · have k1 : (t.ins i).way = 1 := by simpa using k1
    unfold tgdI
    rw [if_pos k1, ← htl, ← hth]
    simp only [Nat.beq_refl]
    rfl
  · have k1 : ¬ (t.ins i).way = 1 := by simpa using k1
    have k2 : (t.ins i).way = 4 := by simpa using k2
    rw [hG1 j hj]
    split
    · rename_i e
      subst e
      unfold tgdI
      rw [if_neg k1, if_pos k2, ← e1]; rfl
    · rfl
  · have k1 : ¬ (t.ins i).way = 1 := by simpa using k1
    have k2 : ¬ (t.ins i).way = 4 := by simpa using k2
    unfold tgdI
    rw [if_neg k1, if_neg k2, ← hta]
    rfl
def tgdF (Tg : List Int → TxS → List Int) (t : TxS) (a b : List Int) (i j : Nat) : InS := if j < i then tgdI (Tg (loH a b) t) (Tg (hiH a b) t) (Tg a t) (t.ins j) else t.ins j
def tgdX (Tg : List Int → TxS → List Int) (t : TxS) (a b : List Int) : TxS := ⟨t.num, t.N, fun j => tgdI (Tg (loH a b) t) (Tg (hiH a b) t) (Tg a t) (t.ins j), t.M, t.outs⟩
structure TgdC (A : List Int → Int × Int) (Tg : List Int → TxS → List Int) (t : TxS) (a b : List Int) (G : Nat → Nat → InS) : Prop where
  ht : t.Ok
  hN : t.N ≤ 24
  hc : ckTx A t = true
  ha : a.length = 32
  hb : b.length = 32
  hG : G = tgdF Tg t a b
noncomputable def E111b (A : List Int → Int × Int) (Tg : List Int → TxS → List Int) (t : TxS) (a b : List Int) (G : Nat → Nat → InS) : Env2 := ((((E111 A Tg).withP 43 (ckS A)).withF 48 cliF).withF 49 cloF).withL 19 0 (goM 0 (tgdS t a b t.ins 0) (TgdC A Tg t a b G) (endsJ 0 t.N 9 (fun i => i < t.N) (fun i => i = t.N) (fun _ => False) (fun _ => False) (fun i => tgdE t (G i)) (fun i => tgdE t (G i)) (fun i => tgdE t (G i))))
theorem E111b_ok (t : TxS) (a b : List Int) (G : Nat → Nat → InS) : (E111b addM tagT' t a b G).Ok := by
  have h0 : ((((E111 addM tagT').withP 43 (ckS addM)).withF 48 cliF).withF 49 cloF).Ok := Env2.withF_ok (Env2.withF_ok (Env2.withP_ok E111_ok ckS_ok) cliF_ok) cloF_ok
  refine Env2.withL_join (H := E111 addM tagT') h0 rfl ?_
  exact Env2.withGoM (N := 20) (S := fun i => tgdS t a b (tgdF tagT' t a b i) i) E111_ok (by kernel_rfl) fun hC => by
    obtain ⟨c1, c2, c3, c4, c5, c6⟩ := hC
    subst c6
    refine ⟨?_, fun i hi _ => tgd_1 addM tagT' t a b _ _ _ _ _ i _ _ c1 c2 c3 c4 c5 rfl rfl rfl hi (fun j hj => if_neg (by omega)) (fun hlt j hj => ?_) (fun h => ⟨h, h⟩) (fun h => h)⟩
    · have e : tgdF tagT' t a b 0 = t.ins := funext fun j => if_neg (Nat.not_lt_zero j)
      rw [e]
    · unfold tgdF
      by_cases e : j = i
      · subst e; rw [if_pos (Nat.lt_succ_self _), if_pos rfl]
      · rw [if_neg e]
        by_cases h : j < i
        · rw [if_pos h, if_pos (by omega)]
        · rw [if_neg h, if_neg (by omega)]
set_option maxRecDepth 100000 in
set_option maxHeartbeats 0 in
theorem tgd_f (A : List Int → Int × Int) (Tg : List Int → TxS → List Int) (t : TxS) (a b : List Int) (G : Nat → Nat → InS) (ht : t.Ok) (hb : ckTx A t = false) :
    evF (E111b A Tg t a b G) 20 19 [.agg t.c, .agg [.arr .u8 32 a], .agg [.arr .u8 32 b]] ⟨0, []⟩ (outM 0 (.ret (.tuple [.agg txZ, .int .i64 2])) 0 []) := by
  refine @Eq.mpr _ (let q1 := t.num;
 let q2 := t.N;
 let q3 := t.M;
 let q4 := decide (q3 = q3);
 let q5 := outRows t.outs;
 let q6 := q5 = q5;
 let q7 := decide (q1 = q1);
 let q8 := decide (q2 = q2);
 let q9 := inRows t.ins;
 let q10 := [(6, 5), (5, 4), (4, 3), (3, 0), (2, 2), (1, 1), (0, 6)];
 ∃ (t_1 : TxS),
 (t_1.num = q1 ∧ ((q2 = q2 ∧ t_1.N = q2) ∧ ∀ (i : Nat), i < q2 → q9 i = InS.c (t_1.ins i)) ∧ (q3 = q3 ∧ t_1.M = q3) ∧ ∀ (i : Nat), i < q3 → q5 i = OutS.c (t_1.outs i)) ∧
 TxS.Ok t_1 ∧
 iteB (ckTx A t_1)
 (∃ (N : Nat),
 let q21 := decide (N = q2);
 ∃ (g : Nat → InS),
 ((q2 = q2 ∧ N = q2) ∧ ∀ (i : Nat), i < q2 → q9 i = InS.c (g i)) ∧
 N < 1000 ∧
 iteB q4
 (q6 ∧
 iteB q4
 (iteB q7
 (∃ (N_1 : Nat),
 let q23 := decide (N_1 = q3);
 ∃ (g_1 : Nat → OutS), ((q3 = q3 ∧ N_1 = q3) ∧ ∀ (i : Nat), i < q3 → q5 i = OutS.c (g_1 i)) ∧ N_1 < 1000 ∧ iteB q7 (iteB (decide ((↑N : Int) = (↑q2 : Int))) (iteB q7 (iteB q21 (iteB (decide (q2 ≤ N)) (iteB q23 (iteB (decide (q3 ≤ N_1)) (a = a ∧ b = b ∧ iteB q7 (iteB q8 (q9 = q9 ∧ iteB q8 (iteB q4 (q6 ∧ iteB q4 (iteB q21 (RowsEq 0 q10 q2 q9 (inRows g) ∧ iteB q23 (RowsEq 0 q10 q3 q5 (outRows g_1) ∧ TgdC A Tg t a b G ∧ ∀ (i : Nat), i ≤ q2 → (∀ (j : Nat), j < i → (fun (i : Nat) => i < q2) j) → (i = q2 → iteB (decide (q1 = 0)) False False) ∧ (False → False) ∧ (False → False)) False) False) False) False) False) False) False) False) False) False) False) False) False) False)
 False)
 False)
 False)
 True) (by kernel_rfl) ?_
  conv => zeta
  try simp only [need_eq]
  try simp only [nope_eq]
  try simp only [iteD_eq]
  try simp only [iteT_eq]
  try simp only [iteF_eq]
  try simp only [iteE_eq]
  try simp only [Int.toNat_natCast, Nat.zero_add, true_and, and_true, Nat.le_refl]
  exact ⟨t, ⟨rfl, ⟨rfl, fun _ _ => rfl⟩, rfl, fun _ _ => rfl⟩, ht, fun k => (by rw [hb] at k; cases k), fun _ => trivial⟩
set_option maxRecDepth 100000 in
set_option maxHeartbeats 0 in
theorem tgd_t (A : List Int → Int × Int) (Tg : List Int → TxS → List Int) (t : TxS) (a b : List Int) (G : Nat → Nat → InS) (g : Nat → InS) (hC : TgdC A Tg t a b G) (hM : t.M ≤ 24) (hg : g = G t.N) :
    evF (E111b A Tg t a b G) 20 19 [.agg t.c, .agg [.arr .u8 32 a], .agg [.arr .u8 32 b]] ⟨0, []⟩ (outM 0 (.ret (.tuple [.agg [.int .i64 t.num, .nslice ⟨0, 0, 130, 0, 0⟩ 130 t.N t.N, .nslice ⟨1, 0, 132, 0, 0⟩ 132 t.M t.M], .int .i64 0])) 2 [(0, .rows 130 t.N (inRows g)), (1, .rows 132 t.M (outRows t.outs))]) := by
  refine @Eq.mpr _ (let q1 := t.num;
 let q2 := t.N;
 let q3 := t.M;
 let q4 := decide (q3 = q3);
 let q5 := outRows t.outs;
 let q6 := q5 = q5;
 let q7 := decide (q1 = q1);
 let q8 := decide (q2 = q2);
 let q9 := inRows t.ins;
 let q10 := [(6, 5), (5, 4), (4, 3), (3, 0), (2, 2), (1, 1), (0, 6)];
 let q11 := [(1, 3), (0, 2)];
 let q12 := decide (q2 = 0);
 let q13 := decide (q3 = 0);
 ∃ (t_1 : TxS),
 (t_1.num = q1 ∧ ((q2 = q2 ∧ t_1.N = q2) ∧ ∀ (i : Nat), i < q2 → q9 i = InS.c (t_1.ins i)) ∧ (q3 = q3 ∧ t_1.M = q3) ∧ ∀ (i : Nat), i < q3 → q5 i = OutS.c (t_1.outs i)) ∧
 TxS.Ok t_1 ∧
 iteB (ckTx A t_1)
 (∃ (N : Nat),
 let q27 := decide (N = q2);
 ∃ (g_1 : Nat → InS),
 ((q2 = q2 ∧ N = q2) ∧ ∀ (i : Nat), i < q2 → q9 i = InS.c (g_1 i)) ∧
 N < 1000 ∧
 iteB q4
 (q6 ∧
 iteB q4
 (iteB q7
 (∃ (N_1 : Nat),
 let q29 := decide (N_1 = q3);
 ∃ (g_2 : Nat → OutS), ((q3 = q3 ∧ N_1 = q3) ∧ ∀ (i : Nat), i < q3 → q5 i = OutS.c (g_2 i)) ∧ N_1 < 1000 ∧ iteB q7 (iteB (decide ((↑N : Int) = (↑q2 : Int))) (iteB q7 (iteB q27 (iteB (decide (q2 ≤ N)) (iteB q29 (iteB (decide (q3 ≤ N_1)) (a = a ∧ b = b ∧ iteB q7 (iteB q8 (q9 = q9 ∧ iteB q8 (iteB q4 (q6 ∧ iteB q4 (iteB q27 (RowsEq 0 q10 q2 q9 (inRows g_1) ∧ iteB q29 (RowsEq 0 q10 q3 q5 (outRows g_2) ∧ TgdC A Tg t a b G ∧ ∀ (i : Nat), i ≤ q2 → (∀ (j : Nat), j < i → (fun (i : Nat) => i < q2) j) → (i = q2 → iteB q7 (iteB q8 (iteB (decide (q2 ≤ q2)) (iteB q4 (iteB (decide (q3 ≤ q3)) (iteB q8 (RowsEq 0 q11 q2 (inRows g) (inRows (G i)) ∧ iteB q4 (RowsEq 0 q11 q3 q5 q5 ∧ True) False) False) False) False) False) False) False) ∧ (False → False) ∧ (False → False)) False) False) False) False) False) False) False) False) False) False) False) False) False) False)
 False)
 False)
 False)
 (iteB (decide (0 = q1)) (iteB q12 (iteB q12 (iteB q13 (iteB q13 False False) False) False) False) False)) (by kernel_rfl) ?_
  conv => zeta
  try simp only [need_eq]
  try simp only [nope_eq]
  try simp only [iteD_eq]
  try simp only [iteT_eq]
  try simp only [iteF_eq]
  try simp only [iteE_eq]
  try simp only [Int.toNat_natCast, Nat.zero_add, true_and, and_true, Nat.le_refl]
  have hN := hC.hN
  refine ⟨t, ⟨rfl, ⟨rfl, fun _ _ => rfl⟩, rfl, fun _ _ => rfl⟩, hC.ht, fun _ => ⟨t.N, t.ins, ⟨rfl, fun _ _ => rfl⟩, by omega, t.M, t.outs, ⟨rfl, fun _ _ => rfl⟩, by omega, rfl, rfl, Nat.le_refl _, rfl, Nat.le_refl _, rfl, inRowsEq fun _ _ => rfl, rfl, outRowsEq fun _ _ => rfl, hC, fun i hi _ => ⟨fun he => ⟨inRowsEq fun _ _ => by rw [he, hg]; rfl, outRowsEq fun _ _ => rfl⟩, fun h => h, fun h => h⟩⟩, fun k => ?_⟩
  rw [hC.hc] at k; cases k
def tgdFS (A : List Int → Int × Int) (Tg : List Int → TxS → List Int) : FSumm := fun args h K => viewL none h true 20 args fun a => match a with
  | [.agg l, .agg [.arr .u8 32 a], .agg [.arr .u8 32 b]] => ∃ t, isTx l t ∧ (t.Ok ∧ a.length = 32 ∧ b.length = 32) ∧ (ckTx A t = false → K (.ret (.tuple [.agg txZ, .int .i64 2])) h) ∧
    (ckTx A t = true → K (.ret (.tuple [.agg [.int .i64 t.num, .nslice ⟨h.next, 0, 130, 0, 0⟩ 130 t.N t.N, .nslice ⟨h.next + 1, 0, 132, 0, 0⟩ 132 t.M t.M], .int .i64 0])) ⟨h.next + 2, (h.next, .rows 130 t.N (inRows (tgdF Tg t a b t.N))) :: (h.next + 1, .rows 132 t.M (outRows t.outs)) :: h.bs⟩)
  | _ => False
theorem tgdFS_ok (args : List AV) (h : Heap) (K : KO) (hl : tgdFS addM tagT' args h K) : CallsA PP 19 args h K := by
  refine Pure.fsumm (d := 20) (viewL_weak _ _ _ _ _ hl fun a ha => ?_)
  split at ha
  · obtain ⟨t, h1, ⟨h2, h3, h4⟩, k1, k2⟩ := ha
    cases hc : ckTx addM t with
    | false => exact ⟨_, _, _, _, (Pure.evM (E111b_ok t _ _ (fun _ => t.ins)) (tgd_f _ _ t _ _ _ h2 hc)).conv (fun E r hr => hr.head (fun _ hc => h1.rel hc) (fun _ hc => hc)), rfl, trivial, k1 hc⟩
    | true =>
      have hf := ckTx_fine h2 hc
      exact ⟨_, _, _, _, (Pure.evM (E111b_ok t _ _ _) (tgd_t _ _ t _ _ _ _ ⟨h2, hf.n, hc, h3, h4, rfl⟩ hf.m rfl)).conv (fun E r hr => hr.head (fun _ hc => h1.rel hc) (fun _ hc => hc)), rfl, ⟨by decide, .rows _ _ _ (fun i _ => (tgdF tagT' t _ _ t.N i).plainC), by decide, .rows _ _ _ (fun i _ => (t.outs i).plainC), trivial⟩, k2 hc⟩
  · exact ha.elim
end Go.Tk
end
section
namespace Go.Tk
def tgrH (t : TxS) (a lo hi : List Int) (G : Nat → InS) (i : Nat) : Heap := ⟨8, [(0, .flat t.c), (1, .flat [.arr .u8 32 lo]), (2, .flat [.arr .u8 32 hi]), (3, .flat [.int .i64 t.num, .nslice ⟨6, 0, 130, 0, 0⟩ 130 i i, .nslice ⟨7, 0, 132, 0, 0⟩ 132 t.M t.M]), (4, .flat [.arr .u8 32 a]), (5, .flat txZ), (6, .rows 130 i (inRows G)), (7, .rows 132 t.M (outRows t.outs))]⟩
def tgrT : Tmps := [(3, .ptr (some ⟨0, 0, 0, 0, 0⟩)), (8, .ptr (some ⟨1, 0, 0, 0, 0⟩)), (9, .ptr (some ⟨2, 0, 0, 0, 0⟩)), (10, .ptr (some ⟨3, 0, 0, 0, 0⟩)), (4, .ptr (some ⟨4, 0, 0, 0, 0⟩)), (6, .ptr (some ⟨5, 0, 0, 0, 0⟩))]
def tgrS (t : TxS) (a lo hi : List Int) (G : Nat → InS) (i : Nat) : St := ⟨69, (11, .int .i64 i) :: tgrT, tgrH t a lo hi G i, []⟩
def tgrE (t : TxS) (G : Nat → InS) (i : Nat) : St := ⟨69, [(10, .ptr (some ⟨0, 0, 0, 0, 0⟩)), (6, .ptr (some ⟨1, 0, 0, 0, 0⟩))], ⟨4, [(0, .flat [.int .i64 t.num, .nslice ⟨2, 0, 130, 0, 0⟩ 130 i i, .nslice ⟨3, 0, 132, 0, 0⟩ 132 t.M t.M]), (1, .flat txZ), (2, .rows 130 i (inRows G)), (3, .rows 132 t.M (outRows t.outs))]⟩, []⟩
noncomputable def E112 (Tg : List Int → TxS → List Int) : Env2 := G0.withP 52 (tagtRS Tg)
theorem E112_ok : (E112 tagD).Ok := Env2.withP_ok G0_ok tagD_ok
theorem rowsI (G : Nat → InS) (x : InS) {i j : Nat} (hj : j < i + 1) : catF i (inRows G) (rowC x.c 0 130) j = (if j = i then x else G j).c := by
  by_cases e : j = i
  · subst e; rw [if_pos rfl, catF_ge (Nat.le_refl _), Nat.sub_self]; rfl
  · rw [if_neg e, catF_lt (by omega)]; rfl
set_option maxRecDepth 100000 in
set_option maxHeartbeats 0 in
theorem tgr_i (Tg : List Int → TxS → List Int) (t : TxS) (a lo hj tl th ta : List Int) (G G1 : Nat → InS) (i : Nat) (Z1 Z2 : Prop) (ht : t.Fine) (ha : a.length = 32) (hlo : lo.length = 32) (hhj : hj.length = 32) (htl : tl = Tg lo t) (hth : th = Tg hj t) (hta : ta = Tg a t) (hi : i ≤ t.N) (hG1 : i < t.N → ∀ j, j < i + 1 → G1 j = if j = i then tgdI tl th ta (t.ins i) else G j) (h1 : i < t.N → Z1) (h2 : i = t.N → Z2) :
    roundE (E112 Tg) 20 20 0 0 (tgrS t a lo hj G i) (rdM 0 0 9 (tgrS t a lo hj G1 (i + 1)) (tgrE t G i) (tgrE t G i) (tgrE t G i) Z1 Z2 False False) := by
  refine @Eq.mpr _ (let q1 := t.N;
 let q2 := t.ins (Int.toNat (↑i : Int));
 let q3 := q2.way;
 let q4 := t.num;
 let q5 := t.M;
 let q6 := decide (i = i);
 let q7 := i + 1;
 let q8 := decide (q7 * 144 ≤ 140737488355328);
 let q9 := decide (IntKind.wrap IntKind.i64 ((↑i : Int) + 1) = (↑q7 : Int));
 let q10 := decide (q4 = q4);
 let q11 := decide (q1 = q1);
 let q12 := inRows t.ins;
 let q13 := q12 = q12;
 let q14 := decide (q5 = q5);
 let q15 := outRows t.outs;
 let q16 := q15 = q15;
 let q17 := decide (q7 = q7);
 let q18 := decide (q7 ≤ q7);
 let q19 := decide (q5 ≤ q5);
 let q20 := [(7, 7), (6, 10), (5, 5), (4, 4), (3, 3), (2, 2), (1, 1), (0, 0)];
 let q21 := inRows G1;
 let q22 := inRows G;
 let q23 := AV.arr IntKind.u8 32 q2.name;
 let q24 := AV.int IntKind.i64 q2.index;
 let q25 := AV.int IntKind.i64 q3;
 let q26 := [AV.arr IntKind.u8 32 q2.secret];
 let q27 := iteB q14 (RowsEq 0 q20 q5 q15 q15 ∧ Z1) False;
 let q28 := AV.arr IntKind.u8 32 q2.also :: q26;
 let q29 := [(3, 7), (2, 6), (1, 5), (0, 3)];
 iteB (decide ((↑i : Int) < (↑q1 : Int)))
 (iteB (decide (0 ≤ (↑i : Int) ∧ (↑i : Int) < (↑q1 : Int)))
 (iteB (q3 == 1) (∃ (t : TxS), (t.num = q4 ∧ ((q1 = q1 ∧ t.N = q1) ∧ ∀ (i : Nat), i < q1 → q12 i = InS.c (t.ins i)) ∧ (q5 = q5 ∧ t.M = q5) ∧ ∀ (i : Nat), i < q5 → q15 i = OutS.c (t.outs i)) ∧ (TxS.Fine t ∧ List.length lo = 32) ∧ ∃ (t_1 : TxS), (t_1.num = q4 ∧ ((q1 = q1 ∧ t_1.N = q1) ∧ ∀ (i : Nat), i < q1 → q12 i = InS.c (t_1.ins i)) ∧ (q5 = q5 ∧ t_1.M = q5) ∧ ∀ (i : Nat), i < q5 → q15 i = OutS.c (t_1.outs i)) ∧ (TxS.Fine t_1 ∧ List.length hj = 32) ∧ iteB q6 (iteB q8 (iteB q9 (iteB q10 (iteB q11 (q13 ∧ iteB q11 (iteB q14 (q16 ∧ iteB q14 (lo = lo ∧ hj = hj ∧ iteB q10 (iteB q17 (iteB q18 (iteB q14 (iteB q19 (a = a ∧ iteB q17 (RowsEq 0 q20 q7 q21 (catF i q22 (rowC (q23 :: q24 :: q25 :: AV.arr IntKind.u8 32 (Tg lo t) :: AV.arr IntKind.u8 32 (Tg hj t_1) :: q26) 0 130)) ∧ q27) False) False) False) False) False) False) False) False) False) False) False) False) False) False)
 (iteB (q3 == 4) (iteB q6 (iteB q8 (iteB q9 (iteB q10 (iteB q11 (q13 ∧ iteB q11 (iteB q14 (q16 ∧ iteB q14 (lo = lo ∧ hj = hj ∧ iteB q10 (iteB q17 (iteB q18 (iteB q14 (iteB q19 (a = a ∧ iteB q17 (RowsEq 0 q20 q7 q21 (catF i q22 (rowC (q23 :: q24 :: q25 :: AV.arr IntKind.u8 32 q2.tag :: q28) 0 130)) ∧ q27) False) False) False) False) False) False) False) False) False) False) False) False) False) False)
 (∃ (t : TxS), (t.num = q4 ∧ ((q1 = q1 ∧ t.N = q1) ∧ ∀ (i : Nat), i < q1 → q12 i = InS.c (t.ins i)) ∧ (q5 = q5 ∧ t.M = q5) ∧ ∀ (i : Nat), i < q5 → q15 i = OutS.c (t.outs i)) ∧ (TxS.Fine t ∧ List.length a = 32) ∧ iteB q6 (iteB q8 (iteB q9 (iteB q10 (iteB q11 (q13 ∧ iteB q11 (iteB q14 (q16 ∧ iteB q14 (lo = lo ∧ hj = hj ∧ iteB q10 (iteB q17 (iteB q18 (iteB q14 (iteB q19 (a = a ∧ iteB q17 (RowsEq 0 q20 q7 q21 (catF i q22 (rowC (q23 :: q24 :: q25 :: AV.arr IntKind.u8 32 (Tg a t) :: q28) 0 130)) ∧ q27) False) False) False) False) False) False) False) False) False) False) False) False) False) False)))
 False)
 (iteB q10 (iteB q6 (iteB (decide (i ≤ i)) (iteB q14 (iteB q19 (iteB q6 (RowsEq 0 q29 i q22 q22 ∧ iteB q14 (RowsEq 0 q29 q5 q15 q15 ∧ Z2) False) False) False) False) False) False) False)) (by kernel_rfl) ?_
  conv => zeta
  try simp only [need_eq]
  try simp only [nope_eq]
  try simp only [iteD_eq]
  try simp only [iteT_eq]
  try simp only [iteF_eq]
  try simp only [iteE_eq]
  try simp only [Int.toNat_natCast, Nat.zero_add, true_and, and_true, Nat.le_refl]
  refine ⟨fun hlt' => ?_, fun hge => ⟨inRowsEq fun _ _ => rfl, outRowsEq fun _ _ => rfl, h2 (by omega)⟩⟩
  have hlt : i < t.N := by omega
  have hN := ht.n
  have hwr : IntKind.i64.wrap ((i : Int) + 1) = ((i + 1 : Nat) : Int) := by rw [w64 (by omega)]; omega
  have hG1 := hG1 hlt
  have hZ := h1 hlt
  have hO : ∀ τ, RowsEq 0 τ t.M (outRows t.outs) (outRows t.outs) := fun τ => outRowsEq fun _ _ => rfl
  have hI : ∀ (τ : Ren) (X : List AV), X = (tgdI tl th ta (t.ins i)).c → RowsEq 0 τ (i + 1) (inRows G1) (catF i (inRows G) (rowC X 0 130)) := fun τ X hX => inRowsEq fun j hj => by
    rw [hX, rowsI G _ hj, hG1 j hj]
  refine ⟨by omega, fun k1 => ⟨t, ⟨rfl, ⟨rfl, fun _ _ => rfl⟩, rfl, fun _ _ => rfl⟩, ⟨ht, hlo⟩, t, ⟨rfl, ⟨rfl, fun _ _ => rfl⟩, rfl, fun _ _ => rfl⟩, ⟨ht, hhj⟩, by omega, hwr, hI _ _ ?_, hO _, hZ⟩, fun k1 => ⟨fun k2 => ⟨by omega, hwr, hI _ _ ?_, hO _, hZ⟩, fun k2 => ⟨t, ⟨rfl, ⟨rfl, fun _ _ => rfl⟩, rfl, fun _ _ => rfl⟩, ⟨ht, ha⟩, by omega, hwr, hI _ _ ?_, hO _, hZ⟩⟩⟩
  · have k1 : (t.ins i).way = 1 := by simpa using k1
    unfold tgdI
    rw [if_pos k1, ← htl, ← hth]; rfl
  · have k1 : ¬ (t.ins i).way = 1 := by simpa using k1
    have k2 : (t.ins i).way = 4 := by simpa using k2
    unfold tgdI
    rw [if_neg k1, if_pos k2]; rfl
  · have k1 : ¬ (t.ins i).way = 1 := by simpa using k1
    have k2 : ¬ (t.ins i).way = 4 := by simpa using k2
    unfold tgdI
    rw [if_neg k1, if_neg k2, ← hta]; rfl
structure TgrC (Tg : List Int → TxS → List Int) (t : TxS) (a b lo hj : List Int) (G : Nat → InS) : Prop where
  ht : t.Fine
  ha : a.length = 32
  hb : b.length = 32
  hlo : lo = loH a b
  hhj : hj = hiH a b
  hG : G = (tgdX Tg t a b).ins
noncomputable def E112b (A : List Int → Int × Int) (Tg : List Int → TxS → List Int) (t : TxS) (a b lo hj : List Int) (G : Nat → InS) : Env2 := (((E112 Tg).withP 44 (rightS A)).withP 51 ordS).withL 20 0 (goM 0 (tgrS t a lo hj G 0) (TgrC Tg t a b lo hj G) (endsJ 0 t.N 9 (fun i => i < t.N) (fun i => i = t.N) (fun _ => False) (fun _ => False) (fun i => tgrE t G i) (fun i => tgrE t G i) (fun i => tgrE t G i)))
theorem E112b_ok (t : TxS) (a b lo hj : List Int) (G : Nat → InS) : (E112b addM tagD t a b lo hj G).Ok := by
  have h0 : (((E112 tagD).withP 44 (rightS addM)).withP 51 ordS).Ok := Env2.withP_ok (Env2.withP_ok E112_ok rightS_ok) ordS_ok
  refine Env2.withL_join (H := E112 tagD) h0 rfl ?_
  exact Env2.withGoM (N := 20) (S := fun i => tgrS t a lo hj G i) E112_ok (by kernel_rfl) fun hC => ⟨rfl, fun i hi _ => by
    obtain ⟨c1, c2, c3, c4, c5, c6⟩ := hC
    subst c4 c5
    refine tgr_i tagD t a _ _ _ _ _ G _ i _ _ c1 c2 (loH_len c2 c3) (hiH_len c2 c3) rfl rfl rfl hi (fun hlt j hj => ?_) (fun h => ⟨h, h⟩) (fun h => h)
    by_cases e : j = i
    · rw [if_pos e, e, c6]; rfl
    · rw [if_neg e]⟩
set_option maxRecDepth 100000 in
set_option maxHeartbeats 0 in
theorem tgr_f (A : List Int → Int × Int) (Tg : List Int → TxS → List Int) (t : TxS) (a b lo hj : List Int) (G : Nat → InS) (ht : t.Ok) (hB : TxB t) (hb : ckTx A t = false) :
    evF (E112b A Tg t a b lo hj G) 20 20 [.agg t.c, .agg [.arr .u8 32 a], .agg [.arr .u8 32 b]] ⟨0, []⟩ (outM 0 (.ret (.tuple [.agg txZ, .int .i64 2])) 0 []) := by
  refine @Eq.mpr _ (let q1 := t.num;
 let q2 := t.N;
 let q3 := t.M;
 let q4 := decide (q3 = q3);
 let q5 := outRows t.outs;
 let q6 := q5 = q5;
 let q7 := decide (q1 = q1);
 let q8 := 0 + q3;
 let q9 := decide (q8 * 160 ≤ 140737488355328);
 let q10 := decide (q2 = q2);
 let q11 := inRows t.ins;
 let q12 := q11 = q11;
 let q13 := decide (q8 = q3);
 let q14 := iteB q7 (iteB q13 (iteB (decide (q3 ≤ q8)) (a = a ∧ iteB q13 (RowsEq 0 [(7, 6), (5, 3), (4, 1), (3, 7), (2, 5), (1, 4), (0, 0)] q3 q5 (catF 0 (fun (x : Nat) => []) q5) ∧ TgrC Tg t a b lo hj G ∧ ∀ (i : Nat), i ≤ q2 → (∀ (j : Nat), j < i → (fun (i : Nat) => i < q2) j) → (i = q2 → iteB (decide (q1 = 0)) False False) ∧ (False → False) ∧ (False → False)) False) False) False) False;
 ∃ (t : TxS), (t.num = q1 ∧ ((q2 = q2 ∧ t.N = q2) ∧ ∀ (i : Nat), i < q2 → q11 i = InS.c (t.ins i)) ∧ (q3 = q3 ∧ t.M = q3) ∧ ∀ (i : Nat), i < q3 → q5 i = OutS.c (t.outs i)) ∧ TxS.Ok t ∧ TxB t ∧ iteB (!ckTx A t) True (b = b ∧ b = b ∧ b = b ∧ (List.length a = 32 ∧ List.length b = 32) ∧ Bytes a ∧ Bytes b ∧ iteB (decide (cmpI a b > 0)) (a = a ∧ iteB q4 (q6 ∧ iteB q4 (iteB q7 (iteB q9 (iteB q7 (iteB q7 (iteB q10 (q12 ∧ iteB q10 (iteB q4 (q6 ∧ iteB q4 (b = lo ∧ a = hj ∧ q14) False) False) False) False) False) False) False) False) False) False) (iteB q4 (q6 ∧ iteB q4 (iteB q7 (iteB q9 (iteB q7 (iteB q7 (iteB q10 (q12 ∧ iteB q10 (iteB q4 (q6 ∧ iteB q4 (a = lo ∧ b = hj ∧ q14) False) False) False) False) False) False) False) False) False) False))) (by kernel_rfl) ?_
  conv => zeta
  try simp only [need_eq]
  try simp only [nope_eq]
  try simp only [iteD_eq]
  try simp only [iteT_eq]
  try simp only [iteF_eq]
  try simp only [iteE_eq]
  try simp only [Int.toNat_natCast, Nat.zero_add, true_and, and_true, Nat.le_refl]
  exact ⟨t, ⟨rfl, ⟨rfl, fun _ _ => rfl⟩, rfl, fun _ _ => rfl⟩, ht, hB, fun _ => trivial, fun k => by rw [hb] at k; cases k⟩
set_option maxRecDepth 100000 in
set_option maxHeartbeats 0 in
theorem tgr_t (A : List Int → Int × Int) (Tg : List Int → TxS → List Int) (t : TxS) (a b lo hj : List Int) (G : Nat → InS) (hC : TgrC Tg t a b lo hj G) (ht : t.Ok) (hB : TxB t) (hc : ckTx A t = true) (hba : Bytes a) (hbb : Bytes b) :
    evF (E112b A Tg t a b lo hj G) 20 20 [.agg t.c, .agg [.arr .u8 32 a], .agg [.arr .u8 32 b]] ⟨0, []⟩ (outM 0 (.ret (.tuple [.agg [.int .i64 t.num, .nslice ⟨0, 0, 130, 0, 0⟩ 130 t.N t.N, .nslice ⟨1, 0, 132, 0, 0⟩ 132 t.M t.M], .int .i64 0])) 2 [(0, .rows 130 t.N (inRows G)), (1, .rows 132 t.M (outRows t.outs))]) := by
  refine @Eq.mpr _ (let q1 := t.num;
 let q2 := t.N;
 let q3 := t.M;
 let q4 := decide (q2 = 0);
 let q5 := decide (q3 = 0);
 let q6 := decide (q3 = q3);
 let q7 := outRows t.outs;
 let q8 := q7 = q7;
 let q9 := decide (q1 = q1);
 let q10 := 0 + q3;
 let q11 := decide (q10 * 160 ≤ 140737488355328);
 let q12 := decide (q2 = q2);
 let q13 := inRows t.ins;
 let q14 := q13 = q13;
 let q15 := decide (q10 = q3);
 let q16 := [(1, 3), (0, 2)];
 let q17 := iteB q9 (iteB q15 (iteB (decide (q3 ≤ q10)) (a = a ∧ iteB q15 (RowsEq 0 [(7, 6), (5, 3), (4, 1), (3, 7), (2, 5), (1, 4), (0, 0)] q3 q7 (catF 0 (fun (x : Nat) => []) q7) ∧ TgrC Tg t a b lo hj G ∧ ∀ (i : Nat), i ≤ q2 → (∀ (j : Nat), j < i → (fun (i : Nat) => i < q2) j) → (i = q2 → iteB q9 (iteB (decide (i = q2)) (iteB (decide (q2 ≤ i)) (iteB q6 (iteB (decide (q3 ≤ q3)) (iteB (decide (i = q2)) (RowsEq 0 q16 q2 (inRows G) (inRows G) ∧ iteB q6 (RowsEq 0 q16 q3 q7 q7 ∧ True) False) False) False) False) False) False) False) ∧ (False → False) ∧ (False → False)) False) False) False) False;
 ∃ (t : TxS), (t.num = q1 ∧ ((q2 = q2 ∧ t.N = q2) ∧ ∀ (i : Nat), i < q2 → q13 i = InS.c (t.ins i)) ∧ (q3 = q3 ∧ t.M = q3) ∧ ∀ (i : Nat), i < q3 → q7 i = OutS.c (t.outs i)) ∧ TxS.Ok t ∧ TxB t ∧ iteB (!ckTx A t) (iteB (decide (0 = q1)) (iteB q4 (iteB q4 (iteB q5 (iteB q5 False False) False) False) False) False) (b = b ∧ b = b ∧ b = b ∧ (List.length a = 32 ∧ List.length b = 32) ∧ Bytes a ∧ Bytes b ∧ iteB (decide (cmpI a b > 0)) (a = a ∧ iteB q6 (q8 ∧ iteB q6 (iteB q9 (iteB q11 (iteB q9 (iteB q9 (iteB q12 (q14 ∧ iteB q12 (iteB q6 (q8 ∧ iteB q6 (b = lo ∧ a = hj ∧ q17) False) False) False) False) False) False) False) False) False) False) (iteB q6 (q8 ∧ iteB q6 (iteB q9 (iteB q11 (iteB q9 (iteB q9 (iteB q12 (q14 ∧ iteB q12 (iteB q6 (q8 ∧ iteB q6 (a = lo ∧ b = hj ∧ q17) False) False) False) False) False) False) False) False) False) False))) (by kernel_rfl) ?_
  conv => zeta
  try simp only [need_eq]
  try simp only [nope_eq]
  try simp only [iteD_eq]
  try simp only [iteT_eq]
  try simp only [iteF_eq]
  try simp only [iteE_eq]
  try simp only [Int.toNat_natCast, Nat.zero_add, true_and, and_true, Nat.le_refl]
  have hM := hC.ht.m
  have hlo := hC.hlo
  have hhj := hC.hhj
  unfold loH at hlo
  unfold hiH at hhj
  have hO : ∀ τ, RowsEq 0 τ t.M (outRows t.outs) (catF 0 (fun _ => []) (outRows t.outs)) := fun τ => outRowsEq fun j _ => by rw [catF_ge (Nat.zero_le _)]; rfl
  refine ⟨t, ⟨rfl, ⟨rfl, fun _ _ => rfl⟩, rfl, fun _ _ => rfl⟩, ht, hB, fun k => ?_, fun _ => ⟨⟨hC.ha, hC.hb⟩, hba, hbb, fun k => ?_, fun k => ?_⟩⟩
  · rw [hc] at k; cases k
  · rw [if_pos k] at hlo hhj
    exact ⟨by omega, hlo.symm, hhj.symm, hO _, hC, fun i hi _ => ⟨fun he => ⟨he, by omega, he, inRowsEq fun _ _ => rfl, outRowsEq fun _ _ => rfl⟩, fun h => h, fun h => h⟩⟩
  · rw [if_neg k] at hlo hhj
    exact ⟨by omega, hlo.symm, hhj.symm, hO _, hC, fun i hi _ => ⟨fun he => ⟨he, by omega, he, inRowsEq fun _ _ => rfl, outRowsEq fun _ _ => rfl⟩, fun h => h, fun h => h⟩⟩
theorem tgdX_eq {t : TxS} {a b : List Int} (hf : t.Fine) (hA : TxAll t) (ha : a.length = 32) (hb : b.length = 32) : tgdX tagD t a b = tgdX tagT' t a b := by
  unfold tgdX
  rw [tagD_eq hf hA ha, tagD_eq hf hA (loH_len ha hb), tagD_eq hf hA (hiH_len ha hb)]
def tgrFS (A : List Int → Int × Int) (Tg : List Int → TxS → List Int) : FSumm := fun args h K => viewL none h true 20 args fun a => match a with
  | [.agg l, .agg [.arr .u8 32 a], .agg [.arr .u8 32 b]] => ∃ t, isTx l t ∧ (t.Ok ∧ TxAll t ∧ (a.length = 32 ∧ b.length = 32) ∧ Bytes a ∧ Bytes b) ∧ (ckTx A t = false → K (.ret (.tuple [.agg txZ, .int .i64 2])) h) ∧
    (ckTx A t = true → K (.ret (.tuple [.agg [.int .i64 t.num, .nslice ⟨h.next, 0, 130, 0, 0⟩ 130 t.N t.N, .nslice ⟨h.next + 1, 0, 132, 0, 0⟩ 132 t.M t.M], .int .i64 0])) ⟨h.next + 2, (h.next, .rows 130 t.N (inRows (tgdX Tg t a b).ins)) :: (h.next + 1, .rows 132 t.M (outRows t.outs)) :: h.bs⟩)
  | _ => False
theorem tgrFS_ok (args : List AV) (h : Heap) (K : KO) (hl : tgrFS addM tagT' args h K) : CallsA PP 20 args h K := by
  refine Pure.fsumm (d := 20) (viewL_weak _ _ _ _ _ hl fun a ha => ?_)
  split at ha
  · rename_i l a b
    obtain ⟨t, h1, ⟨h2, h3, ⟨h4, h5⟩, h6, h7⟩, k1, k2⟩ := ha
    cases hc : ckTx addM t with
    | false => exact ⟨_, _, _, _, (Pure.evM (E112b_ok t a b (loH a b) (hiH a b) t.ins) (tgr_f _ _ t _ _ _ _ _ h2 h3.b hc)).conv (fun E r hr => hr.head (fun _ hc => h1.rel hc) (fun _ hc => hc)), rfl, trivial, k1 hc⟩
    | true =>
      have hf := ckTx_fine h2 hc
      refine ⟨_, _, _, _, (Pure.evM (E112b_ok t a b (loH a b) (hiH a b) _) (tgr_t _ _ t _ _ _ _ _ ⟨hf, h4, h5, rfl, rfl, rfl⟩ h2 h3.b hc h6 h7)).conv (fun E r hr => hr.head (fun _ hc => h1.rel hc) (fun _ hc => hc)), rfl, ⟨by decide, .rows _ _ _ (fun i _ => ((tgdX tagD t a b).ins i).plainC), by decide, .rows _ _ _ (fun i _ => (t.outs i).plainC), trivial⟩, ?_⟩
      rw [tgdX_eq hf h3 h4 h5]
      exact k2 hc
  · exact ha.elim
end Go.Tk
end
section
namespace Go.Tk
def bpI (x : InS) : InS := ⟨x.name, IntKind.i64.wrap (x.index + 1), x.way, x.tag, x.also, x.secret⟩
def bpO (x : OutS) : OutS := ⟨x.kind, IntKind.i64.wrap (x.amount + 1), x.owner, x.other, x.point, x.hash, x.delay, x.expiry⟩
def bpG (g : Nat → InS) (i j : Nat) : InS := if j < i then bpI (g j) else g j
def bpU (g : Nat → OutS) (i j : Nat) : OutS := if j < i then bpO (g j) else g j
def ctM (t : TxS) (x y : Nat) : List AV := [.int .i64 t.num, .nslice ⟨x, 0, 130, 0, 0⟩ 130 t.N t.N, .nslice ⟨y, 0, 132, 0, 0⟩ 132 t.M t.M]
def ctX (n : Int) (xN xM x y : Nat) : List AV := [.int .i64 n, .nslice ⟨x, 0, 130, 0, 0⟩ 130 xN xN, .nslice ⟨y, 0, 132, 0, 0⟩ 132 xM xM]
def ctB (t : TxS) (n : Int) (xN xM : Nat) (G : Nat → InS) (U : Nat → OutS) : Heap := ⟨7, [(0, .flat (ctX n xN xM 3 4)), (1, .flat (ctM t 5 6)), (2, .flat t.c), (3, .rows 130 xN (inRows G)), (4, .rows 132 xM (outRows U)), (5, .rows 130 t.N (inRows t.ins)), (6, .rows 132 t.M (outRows t.outs))]⟩
def ctT : Tmps := [(8, .ptr (some ⟨0, 0, 0, 0, 0⟩)), (12, .bool true), (7, .ptr (some ⟨1, 0, 0, 0, 0⟩)), (3, .ptr (some ⟨2, 0, 0, 0, 0⟩))]
def ct0 (t : TxS) (n : Int) (xN xM : Nat) (G : Nat → InS) (U : Nat → OutS) (i : Nat) : St := ⟨106, (13, .int .i64 i) :: ctT, ctB t n xN xM G U, []⟩
def ct0E (t : TxS) (n : Int) (xN xM : Nat) (G : Nat → InS) (U : Nat → OutS) : St := ⟨106, ctT, ctB t n xN xM G U, []⟩
def ct2 (t : TxS) (n : Int) (xN xM : Nat) (G : Nat → InS) (U : Nat → OutS) (i : Nat) : St := ⟨106, (14, .int .i64 i) :: ctT, ctB t n xN xM G U, []⟩
def ct2E (t : TxS) : St := ⟨106, [(12, .bool true), (7, .ptr (some ⟨0, 0, 0, 0, 0⟩)), (3, .ptr (some ⟨1, 0, 0, 0, 0⟩))], ⟨4, [(0, .flat (ctM t 2 3)), (1, .flat t.c), (2, .rows 130 t.N (inRows t.ins)), (3, .rows 132 t.M (outRows t.outs))]⟩, []⟩
set_option maxRecDepth 100000 in
set_option maxHeartbeats 0 in
theorem ctl_0 (t : TxS) (n : Int) (xN xM : Nat) (G G1 : Nat → InS) (U : Nat → OutS) (i : Nat) (Z1 Z2 : Prop) (hN : xN < 1000) (hi : i ≤ xN) (hG : i < xN → ∀ j, j < xN → G1 j = if j = i then bpI (G i) else G j) (h1 : i < xN → Z1) (h2 : i = xN → Z2) :
    roundE G0 20 5 0 0 (ct0 t n xN xM G U i) (rdM 0 0 9 (ct0 t n xN xM G1 U (i + 1)) (ct0E t n xN xM G U) (ct0E t n xN xM G U) (ct0E t n xN xM G U) Z1 Z2 False False) := by
  refine @Eq.mpr _ (let q1 := decide (0 ≤ (↑i : Int) ∧ (↑i : Int) < (↑xN : Int));
 let q2 := 0 + Int.toNat (↑i : Int);
 let q3 := decide (n = n);
 let q4 := decide (xN = xN);
 let q5 := decide (xN ≤ xN);
 let q6 := decide (xM = xM);
 let q7 := decide (xM ≤ xM);
 let q8 := decide (t.num = t.num);
 let q9 := t.N;
 let q10 := decide (q9 = q9);
 let q11 := decide (q9 ≤ q9);
 let q12 := t.M;
 let q13 := decide (q12 = q12);
 let q14 := decide (q12 ≤ q12);
 let q15 := inRows t.ins;
 let q16 := q15 = q15;
 let q17 := outRows t.outs;
 let q18 := q17 = q17;
 let q19 := [(6, 6), (5, 5), (4, 4), (3, 3), (2, 2), (1, 1), (0, 0)];
 let q20 := inRows G;
 let q21 := G q2;
 let q22 := RowsEq 0 q19 xM (outRows U) (outRows U);
 let q23 := RowsEq 0 q19 q9 q15 q15;
 let q24 := RowsEq 0 q19 q12 q17 q17;
 iteB (decide ((↑i : Int) < (↑xN : Int))) (iteB q1 (iteB (decide (q2 < xN)) (iteB q1 (iteB (decide (q2 < xN)) (iteB (decide (IntKind.wrap IntKind.i64 ((↑i : Int) + 1) = (↑(i + 1) : Int))) (iteB q3 (iteB q4 (iteB q5 (iteB q6 (iteB q7 (iteB q8 (iteB q10 (iteB q11 (iteB q13 (iteB q14 (iteB q8 (iteB q10 (q16 ∧ iteB q10 (iteB q13 (q18 ∧ iteB q13 (iteB q4 (RowsEq 0 q19 xN (inRows G1) (updF q20 q2 [AV.arr IntKind.u8 32 q21.name, AV.int IntKind.i64 (IntKind.wrap IntKind.i64 (q21.index + 1)), AV.int IntKind.i64 q21.way, AV.arr IntKind.u8 32 q21.tag, AV.arr IntKind.u8 32 q21.also, AV.arr IntKind.u8 32 q21.secret]) ∧ iteB q6 (q22 ∧ iteB q10 (q23 ∧ iteB q13 (q24 ∧ Z1) False) False) False) False) False) False) False) False) False) False) False) False) False) False) False) False) False) False) False) False) False) False) False) False)
 (iteB q3 (iteB q4 (iteB q5 (iteB q6 (iteB q7 (iteB q8 (iteB q10 (iteB q11 (iteB q13 (iteB q14 (iteB q8 (iteB q10 (q16 ∧ iteB q10 (iteB q13 (q18 ∧ iteB q13 (iteB q4 (RowsEq 0 q19 xN q20 q20 ∧ iteB q6 (q22 ∧ iteB q10 (q23 ∧ iteB q13 (q24 ∧ Z2) False) False) False) False) False) False) False) False) False) False) False) False) False) False) False) False) False) False) False)) (by kernel_rfl) ?_
  conv => zeta
  try simp only [need_eq]
  try simp only [nope_eq]
  try simp only [iteD_eq]
  try simp only [iteT_eq]
  try simp only [iteF_eq]
  try simp only [iteE_eq]
  try simp only [Int.toNat_natCast, Nat.zero_add, true_and, and_true, Nat.le_refl]
  have rI : ∀ τ n (f : Nat → InS), RowsEq 0 τ n (inRows f) (inRows f) := fun τ n f => inRowsEq fun _ _ => rfl
  have rO : ∀ τ n (f : Nat → OutS), RowsEq 0 τ n (outRows f) (outRows f) := fun τ n f => outRowsEq fun _ _ => rfl
  refine ⟨fun hc => ?_, fun hc => ⟨rI _ _ _, rO _ _ _, rI _ _ _, rO _ _ _, h2 (by omega)⟩⟩
  have hlt : i < xN := by omega
  have hwr : IntKind.i64.wrap ((i : Int) + 1) = ((i + 1 : Nat) : Int) := by rw [w64 (by omega)]; omega
  refine ⟨by omega, hlt, by omega, hlt, hwr, inRowsEq fun j hj => ?_, rO _ _ _, rI _ _ _, rO _ _ _, h1 hlt⟩
  rw [updF_eq, hG hlt j hj]
  by_cases e : j = i
  · subst e; rw [Nat.beq_refl, if_pos rfl]; rfl
  · rw [beq_false_of_ne e, if_neg e]; rfl
set_option maxRecDepth 100000 in
set_option maxHeartbeats 0 in
theorem ctl_2 (t : TxS) (n : Int) (xN xM : Nat) (G : Nat → InS) (U U1 : Nat → OutS) (i : Nat) (Z1 Z2 : Prop) (hN : xM < 1000) (hi : i ≤ xM) (hG : i < xM → ∀ j, j < xM → U1 j = if j = i then bpO (U i) else U j) (h1 : i < xM → Z1) (h2 : i = xM → Z2) :
    roundE G0 20 5 2 0 (ct2 t n xN xM G U i) (rdM 0 2 9 (ct2 t n xN xM G U1 (i + 1)) (ct2E t) (ct2E t) (ct2E t) Z1 Z2 False False) := by
  refine @Eq.mpr _ (let q1 := decide (0 ≤ (↑i : Int) ∧ (↑i : Int) < (↑xM : Int));
 let q2 := 0 + Int.toNat (↑i : Int);
 let q3 := decide (xN = xN);
 let q4 := decide (xM = xM);
 let q5 := decide (t.num = t.num);
 let q6 := t.N;
 let q7 := decide (q6 = q6);
 let q8 := decide (q6 ≤ q6);
 let q9 := t.M;
 let q10 := decide (q9 = q9);
 let q11 := decide (q9 ≤ q9);
 let q12 := inRows t.ins;
 let q13 := q12 = q12;
 let q14 := outRows t.outs;
 let q15 := q14 = q14;
 let q16 := [(6, 6), (5, 5), (4, 4), (3, 3), (2, 2), (1, 1), (0, 0)];
 let q17 := U q2;
 let q18 := [(3, 6), (2, 5), (1, 2), (0, 1)];
 iteB (decide ((↑i : Int) < (↑xM : Int)))
 (iteB q1 (iteB (decide (q2 < xM)) (iteB q1 (iteB (decide (q2 < xM)) (iteB (decide (IntKind.wrap IntKind.i64 ((↑i : Int) + 1) = (↑(i + 1) : Int))) (iteB (decide (n = n)) (iteB q3 (iteB (decide (xN ≤ xN)) (iteB q4 (iteB (decide (xM ≤ xM)) (iteB q5 (iteB q7 (iteB q8 (iteB q10 (iteB q11 (iteB q5 (iteB q7 (q13 ∧ iteB q7 (iteB q10 (q15 ∧ iteB q10 (iteB q3 (RowsEq 0 q16 xN (inRows G) (inRows G) ∧ iteB q4 (RowsEq 0 q16 xM (outRows U1) (updF (outRows U) q2 [AV.int IntKind.i64 q17.kind, AV.int IntKind.i64 (IntKind.wrap IntKind.i64 (q17.amount + 1)), AV.arr IntKind.u8 32 q17.owner, AV.arr IntKind.u8 32 q17.other, AV.arr IntKind.u8 32 q17.point, AV.arr IntKind.u8 32 q17.hash, AV.int IntKind.i64 q17.delay, AV.int IntKind.i64 q17.expiry]) ∧ iteB q7 (RowsEq 0 q16 q6 q12 q12 ∧ iteB q10 (RowsEq 0 q16 q9 q14 q14 ∧ Z1) False) False) False) False) False) False) False) False) False) False) False) False) False) False) False) False) False) False) False) False) False) False) False) False)
 (iteB q5 (iteB q7 (iteB q8 (iteB q10 (iteB q11 (iteB q5 (iteB q7 (q13 ∧ iteB q7 (iteB q10 (q15 ∧ iteB q10 (iteB q7 (RowsEq 0 q18 q6 q12 q12 ∧ iteB q10 (RowsEq 0 q18 q9 q14 q14 ∧ Z2) False) False) False) False) False) False) False) False) False) False) False) False)) (by kernel_rfl) ?_
  conv => zeta
  try simp only [need_eq]
  try simp only [nope_eq]
  try simp only [iteD_eq]
  try simp only [iteT_eq]
  try simp only [iteF_eq]
  try simp only [iteE_eq]
  try simp only [Int.toNat_natCast, Nat.zero_add, true_and, and_true, Nat.le_refl]
  have rI : ∀ τ n (f : Nat → InS), RowsEq 0 τ n (inRows f) (inRows f) := fun τ n f => inRowsEq fun _ _ => rfl
  have rO : ∀ τ n (f : Nat → OutS), RowsEq 0 τ n (outRows f) (outRows f) := fun τ n f => outRowsEq fun _ _ => rfl
  refine ⟨fun hc => ?_, fun hc => ⟨rI _ _ _, rO _ _ _, h2 (by omega)⟩⟩
  have hlt : i < xM := by omega
  have hwr : IntKind.i64.wrap ((i : Int) + 1) = ((i + 1 : Nat) : Int) := by rw [w64 (by omega)]; omega
  refine ⟨by omega, hlt, by omega, hlt, hwr, rI _ _ _, outRowsEq fun j hj => ?_, rI _ _ _, rO _ _ _, h1 hlt⟩
  rw [updF_eq, hG hlt j hj]
  by_cases e : j = i
  · subst e; rw [Nat.beq_refl, if_pos rfl]; rfl
  · rw [beq_false_of_ne e, if_neg e]; rfl
def ctL0 (t : TxS) (n : Int) (xN xM : Nat) (G : Nat → InS) (U : Nat → OutS) (H : Nat → Nat → InS) : Nat → St → KE → Prop := goM 0 (ct0 t n xN xM G U 0) (xN < 1000 ∧ H = bpG G) (endsJ 0 xN 9 (fun i => i < xN) (fun i => i = xN) (fun _ => False) (fun _ => False) (fun i => ct0E t n xN xM (H i) U) (fun i => ct0E t n xN xM (H i) U) (fun i => ct0E t n xN xM (H i) U))
def ctL2 (t : TxS) (n : Int) (xN xM : Nat) (U : Nat → OutS) (H : Nat → Nat → InS) : Nat → St → KE → Prop := goM 0 (ct2 t n xN xM (H xN) U 0) (xM < 1000) (endsJ 2 xM 9 (fun i => i < xM) (fun i => i = xM) (fun _ => False) (fun _ => False) (fun _ => ct2E t) (fun _ => ct2E t) (fun _ => ct2E t))
def tgN (A : List Int → Int × Int) : FSumm := fun args h K => viewL none h true 20 args fun a => match a with
  | [.agg l, .agg [.arr .u8 32 a], .agg [.arr .u8 32 b]] => ∃ t, isTx l t ∧ (t.Ok ∧ TxAll t ∧ (a.length = 32 ∧ b.length = 32) ∧ Bytes a ∧ Bytes b) ∧ ckTx A t = false ∧ K (.ret (.tuple [.agg txZ, .int .i64 2])) h
  | _ => False
def tgY (A : List Int → Int × Int) (X : TxS → List Int → List Int → Nat → InS) : FSumm := fun args h K => viewL none h true 20 args fun a => match a with
  | [.agg l, .agg [.arr .u8 32 a], .agg [.arr .u8 32 b]] => ∃ t, isTx l t ∧ (t.Ok ∧ TxAll t ∧ (a.length = 32 ∧ b.length = 32) ∧ Bytes a ∧ Bytes b) ∧ ckTx A t = true ∧ K (.ret (.tuple [.agg [.int .i64 t.num, .nslice ⟨h.next, 0, 130, 0, 0⟩ 130 t.N t.N, .nslice ⟨h.next + 1, 0, 132, 0, 0⟩ 132 t.M t.M], .int .i64 0])) ⟨h.next + 2, (h.next, .rows 130 t.N (inRows (X t a b))) :: (h.next + 1, .rows 132 t.M (outRows t.outs)) :: h.bs⟩
  | _ => False
def tgXp (t : TxS) (a b : List Int) : Nat → InS := tgdF tagT' t a b t.N
def tgXr (t : TxS) (a b : List Int) : Nat → InS := (tgdX tagT' t a b).ins
theorem tgN_ok (args : List AV) (h : Heap) (K : KO) (hl : tgN addM args h K) : CallsA PP 19 args h K := tgdFS_ok args h K (viewL_weak _ _ _ _ _ hl fun a ha => by
  split at ha
  · obtain ⟨t, h1, ⟨h2, h3, ⟨h4, h5⟩, h6, h7⟩, hc, hK⟩ := ha
    exact ⟨t, h1, ⟨h2, h4, h5⟩, fun _ => hK, fun h => by rw [hc] at h; cases h⟩
  · exact ha.elim)
theorem tgY_ok (args : List AV) (h : Heap) (K : KO) (hl : tgY addM tgXp args h K) : CallsA PP 19 args h K := tgdFS_ok args h K (viewL_weak _ _ _ _ _ hl fun a ha => by
  split at ha
  · obtain ⟨t, h1, ⟨h2, h3, ⟨h4, h5⟩, h6, h7⟩, hc, hK⟩ := ha
    exact ⟨t, h1, ⟨h2, h4, h5⟩, (fun h => by rw [hc] at h; cases h), fun _ => hK⟩
  · exact ha.elim)
theorem tgrN_ok (args : List AV) (h : Heap) (K : KO) (hl : tgN addM args h K) : CallsA PP 20 args h K := tgrFS_ok args h K (viewL_weak _ _ _ _ _ hl fun a ha => by
  split at ha
  · obtain ⟨t, h1, h2, hc, hK⟩ := ha
    exact ⟨t, h1, h2, fun _ => hK, fun h => by rw [hc] at h; cases h⟩
  · exact ha.elim)
theorem tgrY_ok (args : List AV) (h : Heap) (K : KO) (hl : tgY addM tgXr args h K) : CallsA PP 20 args h K := tgrFS_ok args h K (viewL_weak _ _ _ _ _ hl fun a ha => by
  split at ha
  · obtain ⟨t, h1, h2, hc, hK⟩ := ha
    exact ⟨t, h1, h2, (fun h => by rw [hc] at h; cases h), fun _ => hK⟩
  · exact ha.elim)
noncomputable def E113 (F : TxS → TxS → Bool) (t : TxS) (n : Int) (xN xM : Nat) (G : Nat → InS) (U : Nat → OutS) (H : Nat → Nat → InS) (C P : FSumm) : Env2 := (((((G0.withP 8 works8S).withP 16 (sametS F)).withF 19 C).withF 20 P).withL 5 0 (ctL0 t n xN xM G U H)).withL 5 2 (ctL2 t n xN xM U H)
theorem E113_ok (t : TxS) (n : Int) (xN xM : Nat) (G : Nat → InS) (U : Nat → OutS) (H : Nat → Nat → InS) {C P : FSumm} (hC : ∀ args h K, C args h K → CallsA PP 19 args h K) (hP : ∀ args h K, P args h K → CallsA PP 20 args h K) : (E113 sameT t n xN xM G U H C P).Ok := by
  have h0 : ((((G0.withP 8 works8S).withP 16 (sametS sameT)).withF 19 C).withF 20 P).Ok := Env2.withF_ok (Env2.withF_ok (Env2.withP_ok (Env2.withP_ok G0_ok works8_ok) samer_ok) hC) hP
  have h1 := Env2.withL_join (H := G0) (S := ctL0 t n xN xM G U H) h0 rfl (Env2.withGoM (f := 5) (id := 0) (N := 20) (S := fun i => ct0 t n xN xM (bpG G i) U i) G0_ok (by kernel_rfl) fun hC => ⟨by
    have e : bpG G 0 = G := funext fun j => if_neg (Nat.not_lt_zero j)
    rw [e], fun i hi _ => by
    obtain ⟨c1, c2⟩ := hC
    subst c2
    refine ctl_0 t n xN xM _ _ U i _ _ c1 hi (fun hlt j hj => ?_) (fun h => ⟨h, h⟩) (fun h => h)
    unfold bpG
    by_cases e : j = i
    · subst e; rw [if_pos (Nat.lt_succ_self _), if_pos rfl, if_neg (Nat.lt_irrefl _)]
    · rw [if_neg e]
      by_cases h : j < i
      · rw [if_pos h, if_pos (by omega)]
      · rw [if_neg h, if_neg (by omega)]⟩)
  refine Env2.withL_join (H := G0) h1 rfl ?_
  exact Env2.withGoM (N := 20) (S := fun i => ct2 t n xN xM (H xN) (bpU U i) i) G0_ok (by kernel_rfl) fun hC => ⟨by
    have e : bpU U 0 = U := funext fun j => if_neg (Nat.not_lt_zero j)
    rw [e], fun i hi _ => by
    refine ctl_2 t n xN xM _ _ _ i _ _ hC hi (fun hlt j hj => ?_) (fun h => ⟨h, h⟩) (fun h => h)
    unfold bpU
    by_cases e : j = i
    · subst e; rw [if_pos (Nat.lt_succ_self _), if_pos rfl, if_neg (Nat.lt_irrefl _)]
    · rw [if_neg e]
      by_cases h : j < i
      · rw [if_pos h, if_pos (by omega)]
      · rw [if_neg h, if_neg (by omega)]⟩
end Go.Tk
end
section
namespace Go.Tk
structure CtC (t : TxS) (a b : List Int) : Prop where
  ht : t.Ok
  hA : TxAll t
  hN : t.N ≤ 30
  hM : t.M ≤ 30
  ha : a.length = 32
  hb : b.length = 32
  ha' : Bytes a
  hb' : Bytes b
set_option maxRecDepth 100000 in
set_option maxHeartbeats 0 in
theorem cts_0 (t : TxS) (a b : List Int) (h : ¬ (t.N ≤ 30 ∧ t.M ≤ 30)) :
    evF ((G0.withP 8 works8S).withF 19 noF) 20 5 [.agg t.c, .agg [.arr .u8 32 a], .agg [.arr .u8 32 b]] ⟨0, []⟩ (outV (fun v => v = .bool true)) := by
  refine @Eq.mpr _ (let q1 := t.N;
 let q2 := AV.bool true = AV.bool true;
 let q3 := t.M;
 let q4 := decide (q3 = q3);
 let q5 := outRows t.outs;
 let q6 := q5 = q5;
 let q7 := decide (q1 = q1);
 let q8 := inRows t.ins;
 let q9 := q8 = q8;
 let q10 := decide (t.num = t.num);
 let q11 := decide ((0 + q1) * 144 ≤ 140737488355328);
 let q12 := iteB q4 (q6 ∧ iteB q4 (iteB q10 (iteB (decide ((0 + q3) * 160 ≤ 140737488355328)) (iteB q10 False False) False) False) False) False;
 let q13 := iteB q4 (q6 ∧ iteB q4 (iteB q7 (q9 ∧ iteB q7 (iteB q10 (iteB q11 q12 False) False) False) False) False) False;
 iteB (decide ((↑q1 : Int) > 30)) q2 (iteB (decide ((↑q3 : Int) > 30)) q2 (iteB q4 (q6 ∧ iteB q4 (iteB q7 (q9 ∧ iteB q7 (iteB q10 (iteB q11 (iteB q4 (q6 ∧ iteB q4 (iteB q10 q12 False) False) False) False ∧ q13) False) False) False) False) False ∧ iteB q4 (q6 ∧ iteB q4 (iteB q7 (q9 ∧ iteB q7 (iteB q10 q13 False) False) False) False) False))) (by kernel_rfl) ?_
  conv => zeta
  try simp only [need_eq]
  try simp only [nope_eq]
  try simp only [iteD_eq]
  try simp only [iteT_eq]
  try simp only [iteF_eq]
  try simp only [iteE_eq]
  try simp only [Int.toNat_natCast, Nat.zero_add, true_and, and_true, Nat.le_refl]
  exact ⟨fun _ => trivial, fun k1 => ⟨fun _ => trivial, fun k2 => absurd ⟨by omega, by omega⟩ h⟩⟩
set_option maxRecDepth 100000 in
set_option maxHeartbeats 0 in
theorem cts_N (A : List Int → Int × Int) (F : TxS → TxS → Bool) (t : TxS) (a b : List Int) (n : Int) (xN xM : Nat) (G : Nat → InS) (U : Nat → OutS) (H : Nat → Nat → InS) (hC : CtC t a b) (hF : F = sameT) (hc : ckTx A t = false) (hn : n = 0) (hxN : xN = 0) (hxM : xM = 0) (hH : H = bpG G) :
    evF (E113 F t n xN xM G U H (tgN A) (tgN A)) 20 5 [.agg t.c, .agg [.arr .u8 32 a], .agg [.arr .u8 32 b]] ⟨0, []⟩ (outV (fun v => v = .bool true)) := by
  refine @Eq.mpr _ (iteB (decide ((↑t.N : Int) > 30)) (AV.bool true = AV.bool true)
 (iteB (decide ((↑t.M : Int) > 30)) (AV.bool true = AV.bool true)
 (iteB (decide (t.M = t.M))
 (outRows t.outs = outRows t.outs ∧
 iteB (decide (t.M = t.M))
 (iteB (decide (t.N = t.N))
 (inRows t.ins = inRows t.ins ∧
 iteB (decide (t.N = t.N))
 (iteB (decide (t.num = t.num))
 (iteB (decide ((0 + t.N) * 144 ≤ 140737488355328))
 (iteB (decide (t.M = t.M))
 (outRows t.outs = outRows t.outs ∧
 iteB (decide (t.M = t.M))
 (iteB (decide (t.num = t.num))
 (iteB (decide (t.M = t.M))
 (outRows t.outs = outRows t.outs ∧
 iteB (decide (t.M = t.M))
 (iteB (decide (t.num = t.num))
 (iteB (decide ((0 + t.M) * 160 ≤ 140737488355328))
 (iteB (decide (t.num = t.num))
 (iteB (decide (0 + (0 + t.N) ≤ 0 + t.N))
 ((∀ (i : Nat), i < 0 + t.N → true = true) ∧
 iteB (decide (0 + (0 + t.M) ≤ 0 + t.M))
 ((∀ (i : Nat), i < 0 + t.M → true = true) ∧
 ∃ (t_1 : TxS),
 (t_1.num = t.num ∧ ((0 + t.N = 0 + t.N ∧ t_1.N = 0 + t.N) ∧ ∀ (i : Nat), i < 0 + t.N → [AV.arr IntKind.u8 32 (t.ins (i - 0)).name, AV.int IntKind.i64 (t.ins (i - 0)).index, AV.int IntKind.i64 (t.ins (i - 0)).way, AV.arr IntKind.u8 32 (t.ins (i - 0)).tag, AV.arr IntKind.u8 32 (t.ins (i - 0)).also, AV.arr IntKind.u8 32 (t.ins (i - 0)).secret] = InS.c (t_1.ins i)) ∧ (0 + t.M = 0 + t.M ∧ t_1.M = 0 + t.M) ∧ ∀ (i : Nat), i < 0 + t.M → [AV.int IntKind.i64 (t.outs (i - 0)).kind, AV.int IntKind.i64 (t.outs (i - 0)).amount, AV.arr IntKind.u8 32 (t.outs (i - 0)).owner, AV.arr IntKind.u8 32 (t.outs (i - 0)).other, AV.arr IntKind.u8 32 (t.outs (i - 0)).point, AV.arr IntKind.u8 32 (t.outs (i - 0)).hash, AV.int IntKind.i64 (t.outs (i - 0)).delay, AV.int IntKind.i64 (t.outs (i - 0)).expiry] = OutS.c (t_1.outs i)) ∧
 (TxS.Ok t_1 ∧ TxAll t_1 ∧ (List.length a = 32 ∧ List.length b = 32) ∧ Bytes a ∧ Bytes b) ∧
 ckTx A t_1 = false ∧
 ∃ (t_2 : TxS),
 (t_2.num = t.num ∧ ((t.N = t.N ∧ t_2.N = t.N) ∧ ∀ (i : Nat), i < t.N → inRows t.ins i = InS.c (t_2.ins i)) ∧ (t.M = t.M ∧ t_2.M = t.M) ∧ ∀ (i : Nat), i < t.M → outRows t.outs i = OutS.c (t_2.outs i)) ∧
 (TxS.Ok t_2 ∧ TxAll t_2 ∧ (List.length a = 32 ∧ List.length b = 32) ∧ Bytes a ∧ Bytes b) ∧
 ckTx A t_2 = false ∧
 ∃ (a_1 : TxS),
 ∃ (b_1 : TxS),
 (a_1.num = 0 ∧ a_1.N = 0 ∧ a_1.M = 0) ∧
 (b_1.num = 0 ∧ b_1.N = 0 ∧ b_1.M = 0) ∧
 (TxS.Ok a_1 ∧ TxS.Ok b_1) ∧
 iteB (F a_1 b_1)
 (iteB (decide (0 + (0 + t.N) ≤ 0 + t.N))
 ((∀ (i : Nat), i < 0 + t.N → true = true) ∧
 iteB (decide (0 + (0 + t.M) ≤ 0 + t.M))
 ((∀ (i : Nat), i < 0 + t.M → true = true) ∧
 ∃ (a : TxS),
 ∃ (b : TxS),
 (a.num = t.num ∧ ((0 + t.N = 0 + t.N ∧ a.N = 0 + t.N) ∧ ∀ (i : Nat), i < 0 + t.N → [AV.arr IntKind.u8 32 (t.ins (i - 0)).name, AV.int IntKind.i64 (t.ins (i - 0)).index, AV.int IntKind.i64 (t.ins (i - 0)).way, AV.arr IntKind.u8 32 (t.ins (i - 0)).tag, AV.arr IntKind.u8 32 (t.ins (i - 0)).also, AV.arr IntKind.u8 32 (t.ins (i - 0)).secret] = InS.c (a.ins i)) ∧ (0 + t.M = 0 + t.M ∧ a.M = 0 + t.M) ∧ ∀ (i : Nat), i < 0 + t.M → [AV.int IntKind.i64 (t.outs (i - 0)).kind, AV.int IntKind.i64 (t.outs (i - 0)).amount, AV.arr IntKind.u8 32 (t.outs (i - 0)).owner, AV.arr IntKind.u8 32 (t.outs (i - 0)).other, AV.arr IntKind.u8 32 (t.outs (i - 0)).point, AV.arr IntKind.u8 32 (t.outs (i - 0)).hash, AV.int IntKind.i64 (t.outs (i - 0)).delay, AV.int IntKind.i64 (t.outs (i - 0)).expiry] = OutS.c (a.outs i)) ∧
 (b.num = t.num ∧ ((t.N = t.N ∧ b.N = t.N) ∧ ∀ (i : Nat), i < t.N → inRows t.ins i = InS.c (b.ins i)) ∧ (t.M = t.M ∧ b.M = t.M) ∧ ∀ (i : Nat), i < t.M → outRows t.outs i = OutS.c (b.outs i)) ∧
 (TxS.Ok a ∧ TxS.Ok b) ∧
 iteB (decide (F a b = true))
 (iteB (decide (0 = n))
 (iteB (decide (xN = 0))
 (iteB (decide (xN = 0))
 (iteB (decide (xM = 0))
 (iteB (decide (xM = 0))
 (iteB (decide (t.num = t.num))
 (iteB (decide (0 + t.N = t.N))
 (iteB (decide (t.N ≤ 0 + t.N))
 (iteB (decide (0 + t.M = t.M))
 (iteB (decide (t.M ≤ 0 + t.M))
 (iteB (decide (t.num = t.num))
 (iteB (decide (t.N = t.N))
 (inRows t.ins = inRows t.ins ∧
 iteB (decide (t.N = t.N))
 (iteB (decide (t.M = t.M))
 (outRows t.outs = outRows t.outs ∧
 iteB (decide (t.M = t.M))
 (iteB (decide (xN = 0))
 (iteB (decide (xM = 0))
 (iteB (decide (0 + t.N = t.N))
 (RowsEq 0 [(6, 4), (5, 3), (2, 0), (1, 5), (0, 6)] t.N (inRows t.ins) (catF 0 (fun (x : Nat) => []) (inRows t.ins)) ∧
 iteB (decide (0 + t.M = t.M))
 (RowsEq 0 [(6, 4), (5, 3), (2, 0), (1, 5), (0, 6)] t.M (outRows t.outs) (catF 0 (fun (x : Nat) => []) (outRows t.outs)) ∧
 (xN < 1000 ∧ H = bpG G) ∧
 ∀ (i : Nat),
 i ≤ xN →
 (∀ (j : Nat), j < i → (fun (i : Nat) => i < xN) j) →
 (i = xN →
 iteB (decide (n = n))
 (iteB (decide (xN = xN))
 (iteB (decide (xN ≤ xN))
 (iteB (decide (xM = xM))
 (iteB (decide (xM ≤ xM))
 (iteB (decide (t.num = t.num))
 (iteB (decide (t.N = t.N))
 (iteB (decide (t.N ≤ t.N))
 (iteB (decide (t.M = t.M))
 (iteB (decide (t.M ≤ t.M))
 (iteB (decide (t.num = t.num))
 (iteB (decide (t.N = t.N))
 (inRows t.ins = inRows t.ins ∧
 iteB (decide (t.N = t.N))
 (iteB (decide (t.M = t.M))
 (outRows t.outs = outRows t.outs ∧
 iteB (decide (t.M = t.M))
 (iteB (decide (xN = xN))
 (RowsEq 0 [(6, 6), (5, 5), (4, 4), (3, 3), (2, 2), (1, 1), (0, 0)] xN (inRows (H xN)) (inRows (H i)) ∧
 iteB (decide (xM = xM))
 (RowsEq 0 [(6, 6), (5, 5), (4, 4), (3, 3), (2, 2), (1, 1), (0, 0)] xM (outRows U) (outRows U) ∧
 iteB (decide (t.N = t.N))
 (RowsEq 0 [(6, 6), (5, 5), (4, 4), (3, 3), (2, 2), (1, 1), (0, 0)] t.N (inRows t.ins) (inRows t.ins) ∧
 iteB (decide (t.M = t.M))
 (RowsEq 0 [(6, 6), (5, 5), (4, 4), (3, 3), (2, 2), (1, 1), (0, 0)] t.M (outRows t.outs) (outRows t.outs) ∧
 xM < 1000 ∧
 ∀ (i : Nat),
 i ≤ xM →
 (∀ (j : Nat), j < i → (fun (i : Nat) => i < xM) j) →
 (i = xM →
 iteB (decide (0 + t.N ≤ t.N))
 ((∀ (i : Nat), i < t.N → true = true) ∧
 iteB (decide (0 + t.M ≤ t.M))
 ((∀ (i : Nat), i < t.M → true = true) ∧
 ∃ (a : TxS),
 ∃ (b : TxS), (a.num = t.num ∧ ((t.N = t.N ∧ a.N = t.N) ∧ ∀ (i : Nat), i < t.N → [AV.arr IntKind.u8 32 (t.ins i).name, AV.int IntKind.i64 (t.ins i).index, AV.int IntKind.i64 (t.ins i).way, AV.arr IntKind.u8 32 (t.ins i).tag, AV.arr IntKind.u8 32 (t.ins i).also, AV.arr IntKind.u8 32 (t.ins i).secret] = InS.c (a.ins i)) ∧ (t.M = t.M ∧ a.M = t.M) ∧ ∀ (i : Nat), i < t.M → [AV.int IntKind.i64 (t.outs i).kind, AV.int IntKind.i64 (t.outs i).amount, AV.arr IntKind.u8 32 (t.outs i).owner, AV.arr IntKind.u8 32 (t.outs i).other, AV.arr IntKind.u8 32 (t.outs i).point, AV.arr IntKind.u8 32 (t.outs i).hash, AV.int IntKind.i64 (t.outs i).delay, AV.int IntKind.i64 (t.outs i).expiry] = OutS.c (a.outs i)) ∧ (b.num = t.num ∧ ((t.N = t.N ∧ b.N = t.N) ∧ ∀ (i : Nat), i < t.N → inRows t.ins i = InS.c (b.ins i)) ∧ (t.M = t.M ∧ b.M = t.M) ∧ ∀ (i : Nat), i < t.M → outRows t.outs i = OutS.c (b.outs i)) ∧ (TxS.Ok a ∧ TxS.Ok b) ∧ iteB (F a b) (AV.bool true = AV.bool true) (AV.bool false = AV.bool true))
 False)
 False) ∧
 (False → False) ∧ (False → False))
 False)
 False)
 False)
 False)
 False)
 False)
 False)
 False)
 False)
 False)
 False)
 False)
 False)
 False)
 False)
 False)
 False)
 False)
 False) ∧
 (False → False) ∧ (False → False))
 False)
 False)
 False)
 False)
 False)
 False)
 False)
 False)
 False)
 False)
 False)
 False)
 False)
 False)
 False)
 False)
 False)
 False)
 False)
 False)
 False)
 False)
 False)
 False)
 False)
 False)
 False)
 False)
 False)
 False)
 False)
 False)
 False)
 False ∧
 iteB (decide (t.M = t.M))
 (outRows t.outs = outRows t.outs ∧
 iteB (decide (t.M = t.M))
 (iteB (decide (t.N = t.N))
 (inRows t.ins = inRows t.ins ∧
 iteB (decide (t.N = t.N))
 (iteB (decide (t.num = t.num))
 (iteB (decide ((0 + t.N) * 144 ≤ 140737488355328))
 (iteB (decide (t.M = t.M))
 (outRows t.outs = outRows t.outs ∧
 iteB (decide (t.M = t.M))
 (iteB (decide (t.num = t.num))
 (iteB (decide ((0 + t.M) * 160 ≤ 140737488355328))
 (iteB (decide (t.num = t.num))
 (iteB (decide (0 + (0 + t.N) ≤ 0 + t.N))
 ((∀ (i : Nat), i < 0 + t.N → true = true) ∧
 iteB (decide (0 + (0 + t.M) ≤ 0 + t.M))
 ((∀ (i : Nat), i < 0 + t.M → true = true) ∧
 ∃ (t_1 : TxS),
 (t_1.num = t.num ∧ ((0 + t.N = 0 + t.N ∧ t_1.N = 0 + t.N) ∧ ∀ (i : Nat), i < 0 + t.N → [AV.arr IntKind.u8 32 (t.ins (i - 0)).name, AV.int IntKind.i64 (t.ins (i - 0)).index, AV.int IntKind.i64 (t.ins (i - 0)).way, AV.arr IntKind.u8 32 (t.ins (i - 0)).tag, AV.arr IntKind.u8 32 (t.ins (i - 0)).also, AV.arr IntKind.u8 32 (t.ins (i - 0)).secret] = InS.c (t_1.ins i)) ∧ (0 + t.M = 0 + t.M ∧ t_1.M = 0 + t.M) ∧ ∀ (i : Nat), i < 0 + t.M → [AV.int IntKind.i64 (t.outs (i - 0)).kind, AV.int IntKind.i64 (t.outs (i - 0)).amount, AV.arr IntKind.u8 32 (t.outs (i - 0)).owner, AV.arr IntKind.u8 32 (t.outs (i - 0)).other, AV.arr IntKind.u8 32 (t.outs (i - 0)).point, AV.arr IntKind.u8 32 (t.outs (i - 0)).hash, AV.int IntKind.i64 (t.outs (i - 0)).delay, AV.int IntKind.i64 (t.outs (i - 0)).expiry] = OutS.c (t_1.outs i)) ∧
 (TxS.Ok t_1 ∧ TxAll t_1 ∧ (List.length a = 32 ∧ List.length b = 32) ∧ Bytes a ∧ Bytes b) ∧
 ckTx A t_1 = false ∧
 ∃ (t_2 : TxS),
 (t_2.num = t.num ∧ ((t.N = t.N ∧ t_2.N = t.N) ∧ ∀ (i : Nat), i < t.N → inRows t.ins i = InS.c (t_2.ins i)) ∧ (t.M = t.M ∧ t_2.M = t.M) ∧ ∀ (i : Nat), i < t.M → outRows t.outs i = OutS.c (t_2.outs i)) ∧
 (TxS.Ok t_2 ∧ TxAll t_2 ∧ (List.length a = 32 ∧ List.length b = 32) ∧ Bytes a ∧ Bytes b) ∧
 ckTx A t_2 = false ∧
 ∃ (a_1 : TxS),
 ∃ (b_1 : TxS),
 (a_1.num = 0 ∧ a_1.N = 0 ∧ a_1.M = 0) ∧
 (b_1.num = 0 ∧ b_1.N = 0 ∧ b_1.M = 0) ∧
 (TxS.Ok a_1 ∧ TxS.Ok b_1) ∧
 iteB (F a_1 b_1)
 (iteB (decide (0 + (0 + t.N) ≤ 0 + t.N))
 ((∀ (i : Nat), i < 0 + t.N → true = true) ∧
 iteB (decide (0 + (0 + t.M) ≤ 0 + t.M))
 ((∀ (i : Nat), i < 0 + t.M → true = true) ∧
 ∃ (a : TxS),
 ∃ (b : TxS),
 (a.num = t.num ∧ ((0 + t.N = 0 + t.N ∧ a.N = 0 + t.N) ∧ ∀ (i : Nat), i < 0 + t.N → [AV.arr IntKind.u8 32 (t.ins (i - 0)).name, AV.int IntKind.i64 (t.ins (i - 0)).index, AV.int IntKind.i64 (t.ins (i - 0)).way, AV.arr IntKind.u8 32 (t.ins (i - 0)).tag, AV.arr IntKind.u8 32 (t.ins (i - 0)).also, AV.arr IntKind.u8 32 (t.ins (i - 0)).secret] = InS.c (a.ins i)) ∧ (0 + t.M = 0 + t.M ∧ a.M = 0 + t.M) ∧ ∀ (i : Nat), i < 0 + t.M → [AV.int IntKind.i64 (t.outs (i - 0)).kind, AV.int IntKind.i64 (t.outs (i - 0)).amount, AV.arr IntKind.u8 32 (t.outs (i - 0)).owner, AV.arr IntKind.u8 32 (t.outs (i - 0)).other, AV.arr IntKind.u8 32 (t.outs (i - 0)).point, AV.arr IntKind.u8 32 (t.outs (i - 0)).hash, AV.int IntKind.i64 (t.outs (i - 0)).delay, AV.int IntKind.i64 (t.outs (i - 0)).expiry] = OutS.c (a.outs i)) ∧
 (b.num = t.num ∧ ((t.N = t.N ∧ b.N = t.N) ∧ ∀ (i : Nat), i < t.N → inRows t.ins i = InS.c (b.ins i)) ∧ (t.M = t.M ∧ b.M = t.M) ∧ ∀ (i : Nat), i < t.M → outRows t.outs i = OutS.c (b.outs i)) ∧
 (TxS.Ok a ∧ TxS.Ok b) ∧
 iteB (decide (F a b = true))
 (iteB (decide (0 = n))
 (iteB (decide (xN = 0))
 (iteB (decide (xN = 0))
 (iteB (decide (xM = 0))
 (iteB (decide (xM = 0))
 (iteB (decide (t.num = t.num))
 (iteB (decide (0 + t.N = t.N))
 (iteB (decide (t.N ≤ 0 + t.N))
 (iteB (decide (0 + t.M = t.M))
 (iteB (decide (t.M ≤ 0 + t.M))
 (iteB (decide (t.num = t.num))
 (iteB (decide (t.N = t.N))
 (inRows t.ins = inRows t.ins ∧
 iteB (decide (t.N = t.N))
 (iteB (decide (t.M = t.M))
 (outRows t.outs = outRows t.outs ∧
 iteB (decide (t.M = t.M))
 (iteB (decide (xN = 0))
 (iteB (decide (xM = 0))
 (iteB (decide (0 + t.N = t.N))
 (RowsEq 0 [(6, 4), (5, 3), (2, 0), (1, 5), (0, 6)] t.N (inRows t.ins) (catF 0 (fun (x : Nat) => []) (inRows t.ins)) ∧
 iteB (decide (0 + t.M = t.M))
 (RowsEq 0 [(6, 4), (5, 3), (2, 0), (1, 5), (0, 6)] t.M (outRows t.outs) (catF 0 (fun (x : Nat) => []) (outRows t.outs)) ∧
 (xN < 1000 ∧ H = bpG G) ∧
 ∀ (i : Nat),
 i ≤ xN →
 (∀ (j : Nat), j < i → (fun (i : Nat) => i < xN) j) →
 (i = xN →
 iteB (decide (n = n))
 (iteB (decide (xN = xN))
 (iteB (decide (xN ≤ xN))
 (iteB (decide (xM = xM))
 (iteB (decide (xM ≤ xM))
 (iteB (decide (t.num = t.num))
 (iteB (decide (t.N = t.N))
 (iteB (decide (t.N ≤ t.N))
 (iteB (decide (t.M = t.M))
 (iteB (decide (t.M ≤ t.M))
 (iteB (decide (t.num = t.num))
 (iteB (decide (t.N = t.N))
 (inRows t.ins = inRows t.ins ∧
 iteB (decide (t.N = t.N))
 (iteB (decide (t.M = t.M))
 (outRows t.outs = outRows t.outs ∧
 iteB (decide (t.M = t.M))
 (iteB (decide (xN = xN))
 (RowsEq 0 [(6, 6), (5, 5), (4, 4), (3, 3), (2, 2), (1, 1), (0, 0)] xN (inRows (H xN)) (inRows (H i)) ∧
 iteB (decide (xM = xM))
 (RowsEq 0 [(6, 6), (5, 5), (4, 4), (3, 3), (2, 2), (1, 1), (0, 0)] xM (outRows U) (outRows U) ∧
 iteB (decide (t.N = t.N))
 (RowsEq 0 [(6, 6), (5, 5), (4, 4), (3, 3), (2, 2), (1, 1), (0, 0)] t.N (inRows t.ins) (inRows t.ins) ∧
 iteB (decide (t.M = t.M))
 (RowsEq 0 [(6, 6), (5, 5), (4, 4), (3, 3), (2, 2), (1, 1), (0, 0)] t.M (outRows t.outs) (outRows t.outs) ∧
 xM < 1000 ∧
 ∀ (i : Nat),
 i ≤ xM →
 (∀ (j : Nat), j < i → (fun (i : Nat) => i < xM) j) →
 (i = xM →
 iteB (decide (0 + t.N ≤ t.N))
 ((∀ (i : Nat), i < t.N → true = true) ∧
 iteB (decide (0 + t.M ≤ t.M))
 ((∀ (i : Nat), i < t.M → true = true) ∧
 ∃ (a : TxS),
 ∃ (b : TxS), (a.num = t.num ∧ ((t.N = t.N ∧ a.N = t.N) ∧ ∀ (i : Nat), i < t.N → [AV.arr IntKind.u8 32 (t.ins i).name, AV.int IntKind.i64 (t.ins i).index, AV.int IntKind.i64 (t.ins i).way, AV.arr IntKind.u8 32 (t.ins i).tag, AV.arr IntKind.u8 32 (t.ins i).also, AV.arr IntKind.u8 32 (t.ins i).secret] = InS.c (a.ins i)) ∧ (t.M = t.M ∧ a.M = t.M) ∧ ∀ (i : Nat), i < t.M → [AV.int IntKind.i64 (t.outs i).kind, AV.int IntKind.i64 (t.outs i).amount, AV.arr IntKind.u8 32 (t.outs i).owner, AV.arr IntKind.u8 32 (t.outs i).other, AV.arr IntKind.u8 32 (t.outs i).point, AV.arr IntKind.u8 32 (t.outs i).hash, AV.int IntKind.i64 (t.outs i).delay, AV.int IntKind.i64 (t.outs i).expiry] = OutS.c (a.outs i)) ∧ (b.num = t.num ∧ ((t.N = t.N ∧ b.N = t.N) ∧ ∀ (i : Nat), i < t.N → inRows t.ins i = InS.c (b.ins i)) ∧ (t.M = t.M ∧ b.M = t.M) ∧ ∀ (i : Nat), i < t.M → outRows t.outs i = OutS.c (b.outs i)) ∧ (TxS.Ok a ∧ TxS.Ok b) ∧ iteB (F a b) (AV.bool true = AV.bool true) (AV.bool false = AV.bool true))
 False)
 False) ∧
 (False → False) ∧ (False → False))
 False)
 False)
 False)
 False)
 False)
 False)
 False)
 False)
 False)
 False)
 False)
 False)
 False)
 False)
 False)
 False)
 False)
 False)
 False) ∧
 (False → False) ∧ (False → False))
 False)
 False)
 False)
 False)
 False)
 False)
 False)
 False)
 False)
 False)
 False)
 False)
 False)
 False)
 False)
 False)
 False)
 False)
 False)
 False)
 False)
 False)
 False)
 False)
 False)
 False)
 False)
 False)
 False)
 False)
 False)
 False)
 False)
 False)
 False)
 False)
 False)
 False)
 False)
 False)
 False ∧
 iteB (decide (t.M = t.M))
 (outRows t.outs = outRows t.outs ∧
 iteB (decide (t.M = t.M))
 (iteB (decide (t.N = t.N))
 (inRows t.ins = inRows t.ins ∧
 iteB (decide (t.N = t.N))
 (iteB (decide (t.num = t.num))
 (iteB (decide (t.M = t.M))
 (outRows t.outs = outRows t.outs ∧
 iteB (decide (t.M = t.M))
 (iteB (decide (t.N = t.N))
 (inRows t.ins = inRows t.ins ∧
 iteB (decide (t.N = t.N))
 (iteB (decide (t.num = t.num))
 (iteB (decide ((0 + t.N) * 144 ≤ 140737488355328))
 (iteB (decide (t.M = t.M))
 (outRows t.outs = outRows t.outs ∧
 iteB (decide (t.M = t.M))
 (iteB (decide (t.num = t.num))
 (iteB (decide ((0 + t.M) * 160 ≤ 140737488355328))
 (iteB (decide (t.num = t.num))
 (iteB (decide (0 + (0 + t.N) ≤ 0 + t.N))
 ((∀ (i : Nat), i < 0 + t.N → true = true) ∧
 iteB (decide (0 + (0 + t.M) ≤ 0 + t.M))
 ((∀ (i : Nat), i < 0 + t.M → true = true) ∧
 ∃ (t_1 : TxS),
 (t_1.num = t.num ∧ ((0 + t.N = 0 + t.N ∧ t_1.N = 0 + t.N) ∧ ∀ (i : Nat), i < 0 + t.N → [AV.arr IntKind.u8 32 (t.ins (i - 0)).name, AV.int IntKind.i64 (t.ins (i - 0)).index, AV.int IntKind.i64 (t.ins (i - 0)).way, AV.arr IntKind.u8 32 (t.ins (i - 0)).tag, AV.arr IntKind.u8 32 (t.ins (i - 0)).also, AV.arr IntKind.u8 32 (t.ins (i - 0)).secret] = InS.c (t_1.ins i)) ∧ (0 + t.M = 0 + t.M ∧ t_1.M = 0 + t.M) ∧ ∀ (i : Nat), i < 0 + t.M → [AV.int IntKind.i64 (t.outs (i - 0)).kind, AV.int IntKind.i64 (t.outs (i - 0)).amount, AV.arr IntKind.u8 32 (t.outs (i - 0)).owner, AV.arr IntKind.u8 32 (t.outs (i - 0)).other, AV.arr IntKind.u8 32 (t.outs (i - 0)).point, AV.arr IntKind.u8 32 (t.outs (i - 0)).hash, AV.int IntKind.i64 (t.outs (i - 0)).delay, AV.int IntKind.i64 (t.outs (i - 0)).expiry] = OutS.c (t_1.outs i)) ∧
 (TxS.Ok t_1 ∧ TxAll t_1 ∧ (List.length a = 32 ∧ List.length b = 32) ∧ Bytes a ∧ Bytes b) ∧
 ckTx A t_1 = false ∧
 ∃ (t_2 : TxS),
 (t_2.num = t.num ∧ ((t.N = t.N ∧ t_2.N = t.N) ∧ ∀ (i : Nat), i < t.N → inRows t.ins i = InS.c (t_2.ins i)) ∧ (t.M = t.M ∧ t_2.M = t.M) ∧ ∀ (i : Nat), i < t.M → outRows t.outs i = OutS.c (t_2.outs i)) ∧
 (TxS.Ok t_2 ∧ TxAll t_2 ∧ (List.length a = 32 ∧ List.length b = 32) ∧ Bytes a ∧ Bytes b) ∧
 ckTx A t_2 = false ∧
 ∃ (a_1 : TxS),
 ∃ (b_1 : TxS),
 (a_1.num = 0 ∧ a_1.N = 0 ∧ a_1.M = 0) ∧
 (b_1.num = 0 ∧ b_1.N = 0 ∧ b_1.M = 0) ∧
 (TxS.Ok a_1 ∧ TxS.Ok b_1) ∧
 iteB (F a_1 b_1)
 (iteB (decide (0 + (0 + t.N) ≤ 0 + t.N))
 ((∀ (i : Nat), i < 0 + t.N → true = true) ∧
 iteB (decide (0 + (0 + t.M) ≤ 0 + t.M))
 ((∀ (i : Nat), i < 0 + t.M → true = true) ∧
 ∃ (a : TxS),
 ∃ (b : TxS),
 (a.num = t.num ∧ ((0 + t.N = 0 + t.N ∧ a.N = 0 + t.N) ∧ ∀ (i : Nat), i < 0 + t.N → [AV.arr IntKind.u8 32 (t.ins (i - 0)).name, AV.int IntKind.i64 (t.ins (i - 0)).index, AV.int IntKind.i64 (t.ins (i - 0)).way, AV.arr IntKind.u8 32 (t.ins (i - 0)).tag, AV.arr IntKind.u8 32 (t.ins (i - 0)).also, AV.arr IntKind.u8 32 (t.ins (i - 0)).secret] = InS.c (a.ins i)) ∧ (0 + t.M = 0 + t.M ∧ a.M = 0 + t.M) ∧ ∀ (i : Nat), i < 0 + t.M → [AV.int IntKind.i64 (t.outs (i - 0)).kind, AV.int IntKind.i64 (t.outs (i - 0)).amount, AV.arr IntKind.u8 32 (t.outs (i - 0)).owner, AV.arr IntKind.u8 32 (t.outs (i - 0)).other, AV.arr IntKind.u8 32 (t.outs (i - 0)).point, AV.arr IntKind.u8 32 (t.outs (i - 0)).hash, AV.int IntKind.i64 (t.outs (i - 0)).delay, AV.int IntKind.i64 (t.outs (i - 0)).expiry] = OutS.c (a.outs i)) ∧
 (b.num = t.num ∧ ((t.N = t.N ∧ b.N = t.N) ∧ ∀ (i : Nat), i < t.N → inRows t.ins i = InS.c (b.ins i)) ∧ (t.M = t.M ∧ b.M = t.M) ∧ ∀ (i : Nat), i < t.M → outRows t.outs i = OutS.c (b.outs i)) ∧
 (TxS.Ok a ∧ TxS.Ok b) ∧
 iteB (decide (F a b = true))
 (iteB (decide (0 = n))
 (iteB (decide (xN = 0))
 (iteB (decide (xN = 0))
 (iteB (decide (xM = 0))
 (iteB (decide (xM = 0))
 (iteB (decide (t.num = t.num))
 (iteB (decide (0 + t.N = t.N))
 (iteB (decide (t.N ≤ 0 + t.N))
 (iteB (decide (0 + t.M = t.M))
 (iteB (decide (t.M ≤ 0 + t.M))
 (iteB (decide (t.num = t.num))
 (iteB (decide (t.N = t.N))
 (inRows t.ins = inRows t.ins ∧
 iteB (decide (t.N = t.N))
 (iteB (decide (t.M = t.M))
 (outRows t.outs = outRows t.outs ∧
 iteB (decide (t.M = t.M))
 (iteB (decide (xN = 0))
 (iteB (decide (xM = 0))
 (iteB (decide (0 + t.N = t.N))
 (RowsEq 0 [(6, 4), (5, 3), (2, 0), (1, 5), (0, 6)] t.N (inRows t.ins) (catF 0 (fun (x : Nat) => []) (inRows t.ins)) ∧
 iteB (decide (0 + t.M = t.M))
 (RowsEq 0 [(6, 4), (5, 3), (2, 0), (1, 5), (0, 6)] t.M (outRows t.outs) (catF 0 (fun (x : Nat) => []) (outRows t.outs)) ∧
 (xN < 1000 ∧ H = bpG G) ∧
 ∀ (i : Nat),
 i ≤ xN →
 (∀ (j : Nat), j < i → (fun (i : Nat) => i < xN) j) →
 (i = xN →
 iteB (decide (n = n))
 (iteB (decide (xN = xN))
 (iteB (decide (xN ≤ xN))
 (iteB (decide (xM = xM))
 (iteB (decide (xM ≤ xM))
 (iteB (decide (t.num = t.num))
 (iteB (decide (t.N = t.N))
 (iteB (decide (t.N ≤ t.N))
 (iteB (decide (t.M = t.M))
 (iteB (decide (t.M ≤ t.M))
 (iteB (decide (t.num = t.num))
 (iteB (decide (t.N = t.N))
 (inRows t.ins = inRows t.ins ∧
 iteB (decide (t.N = t.N))
 (iteB (decide (t.M = t.M))
 (outRows t.outs = outRows t.outs ∧
 iteB (decide (t.M = t.M))
 (iteB (decide (xN = xN))
 (RowsEq 0 [(6, 6), (5, 5), (4, 4), (3, 3), (2, 2), (1, 1), (0, 0)] xN (inRows (H xN)) (inRows (H i)) ∧
 iteB (decide (xM = xM))
 (RowsEq 0 [(6, 6), (5, 5), (4, 4), (3, 3), (2, 2), (1, 1), (0, 0)] xM (outRows U) (outRows U) ∧
 iteB (decide (t.N = t.N))
 (RowsEq 0 [(6, 6), (5, 5), (4, 4), (3, 3), (2, 2), (1, 1), (0, 0)] t.N (inRows t.ins) (inRows t.ins) ∧
 iteB (decide (t.M = t.M))
 (RowsEq 0 [(6, 6), (5, 5), (4, 4), (3, 3), (2, 2), (1, 1), (0, 0)] t.M (outRows t.outs) (outRows t.outs) ∧
 xM < 1000 ∧
 ∀ (i : Nat),
 i ≤ xM →
 (∀ (j : Nat), j < i → (fun (i : Nat) => i < xM) j) →
 (i = xM →
 iteB (decide (0 + t.N ≤ t.N))
 ((∀ (i : Nat), i < t.N → true = true) ∧
 iteB (decide (0 + t.M ≤ t.M))
 ((∀ (i : Nat), i < t.M → true = true) ∧
 ∃ (a : TxS),
 ∃ (b : TxS), (a.num = t.num ∧ ((t.N = t.N ∧ a.N = t.N) ∧ ∀ (i : Nat), i < t.N → [AV.arr IntKind.u8 32 (t.ins i).name, AV.int IntKind.i64 (t.ins i).index, AV.int IntKind.i64 (t.ins i).way, AV.arr IntKind.u8 32 (t.ins i).tag, AV.arr IntKind.u8 32 (t.ins i).also, AV.arr IntKind.u8 32 (t.ins i).secret] = InS.c (a.ins i)) ∧ (t.M = t.M ∧ a.M = t.M) ∧ ∀ (i : Nat), i < t.M → [AV.int IntKind.i64 (t.outs i).kind, AV.int IntKind.i64 (t.outs i).amount, AV.arr IntKind.u8 32 (t.outs i).owner, AV.arr IntKind.u8 32 (t.outs i).other, AV.arr IntKind.u8 32 (t.outs i).point, AV.arr IntKind.u8 32 (t.outs i).hash, AV.int IntKind.i64 (t.outs i).delay, AV.int IntKind.i64 (t.outs i).expiry] = OutS.c (a.outs i)) ∧ (b.num = t.num ∧ ((t.N = t.N ∧ b.N = t.N) ∧ ∀ (i : Nat), i < t.N → inRows t.ins i = InS.c (b.ins i)) ∧ (t.M = t.M ∧ b.M = t.M) ∧ ∀ (i : Nat), i < t.M → outRows t.outs i = OutS.c (b.outs i)) ∧ (TxS.Ok a ∧ TxS.Ok b) ∧ iteB (F a b) (AV.bool true = AV.bool true) (AV.bool false = AV.bool true))
 False)
 False) ∧
 (False → False) ∧ (False → False))
 False)
 False)
 False)
 False)
 False)
 False)
 False)
 False)
 False)
 False)
 False)
 False)
 False)
 False)
 False)
 False)
 False)
 False)
 False) ∧
 (False → False) ∧ (False → False))
 False)
 False)
 False)
 False)
 False)
 False)
 False)
 False)
 False)
 False)
 False)
 False)
 False)
 False)
 False)
 False)
 False)
 False)
 False)
 False)
 False)
 False)
 False)
 False)
 False)
 False)
 False)
 False)
 False)
 False)
 False)
 False)
 False)
 False)
 False)
 False)
 False)
 False)
 False)
 False)
 False))) (by kernel_rfl) ?_
  try simp only [need_eq]
  try simp only [nope_eq]
  try simp only [iteD_eq]
  try simp only [iteT_eq]
  try simp only [iteF_eq]
  try simp only [iteE_eq]
  try simp only [Int.toNat_natCast, Nat.zero_add, true_and, and_true, Nat.le_refl]
  obtain ⟨ht, hA, hN, hM, ha, hb, ha', hb'⟩ := hC
  have hF2 : ∀ x, F x x = true := fun x => by subst hF; exact sameT_refl x
  have hF3 : ∀ x, ¬ F x x = false := fun x => by rw [hF2]; simp
  have hk : t.Ok ∧ TxAll t ∧ (a.length = 32 ∧ b.length = 32) ∧ Bytes a ∧ Bytes b := ⟨ht, hA, ⟨ha, hb⟩, ha', hb'⟩
  have rI : ∀ τ n (f : Nat → InS), RowsEq 0 τ n (inRows f) (inRows f) := fun τ n f => inRowsEq fun _ _ => rfl
  have rO : ∀ τ n (f : Nat → OutS), RowsEq 0 τ n (outRows f) (outRows f) := fun τ n f => outRowsEq fun _ _ => rfl
  have rI2 : ∀ τ, RowsEq 0 τ t.N (inRows t.ins) (catF 0 (fun _ => []) (inRows t.ins)) := fun τ => inRowsEq fun j _ => by rw [catF_ge (Nat.zero_le _)]; rfl
  have rO2 : ∀ τ, RowsEq 0 τ t.M (outRows t.outs) (catF 0 (fun _ => []) (outRows t.outs)) := fun τ => outRowsEq fun j _ => by rw [catF_ge (Nat.zero_le _)]; rfl
  refine ⟨fun _ => trivial, fun k1 => ⟨fun _ => trivial, fun k2 => ⟨?_, ?_⟩⟩⟩
  all_goals
    repeat' (first
      | exact trivial
      | exact hk
      | exact hc
      | exact hF2 _
      | exact fun h => absurd h (hF3 _)
      | (rename_i h; rw [h]; exact rI _ _ _)
      | exact rI _ _ _
      | exact rO _ _ _
      | exact rI2 _
      | exact rO2 _
      | exact ⟨ht, ht⟩
      | exact fun _ _ => trivial
      | exact hH
      | (refine ⟨tx0, tx0, ⟨rfl, rfl, rfl⟩, ⟨rfl, rfl, rfl⟩, ⟨tx0_ok, tx0_ok⟩, ?_⟩)
      | (refine ⟨t, ⟨rfl, ⟨rfl, fun _ _ => rfl⟩, rfl, fun _ _ => rfl⟩, ?_⟩)
      | (refine ⟨t, t, ⟨rfl, ⟨rfl, fun _ _ => rfl⟩, rfl, fun _ _ => rfl⟩, ⟨rfl, ⟨rfl, fun _ _ => rfl⟩, rfl, fun _ _ => rfl⟩, ⟨ht, ht⟩, ?_⟩)
      | refine And.intro ?_ ?_
      | omega
      | rfl
      | intro _)
set_option maxRecDepth 100000 in
set_option maxHeartbeats 0 in
theorem cts_Y (A : List Int → Int × Int) (F : TxS → TxS → Bool) (Xp Xr : TxS → List Int → List Int → Nat → InS) (t : TxS) (a b : List Int) (n : Int) (xN xM : Nat) (G : Nat → InS) (U : Nat → OutS) (H : Nat → Nat → InS) (hC : CtC t a b) (hF : F = sameT) (hp : Xp = tgXp) (hr : Xr = tgXr) (hc : ckTx A t = true) (hn : n = t.num) (hxN : xN = t.N) (hxM : xM = t.M) (hG : G = Xp t a b) (hU : U = t.outs) (hH : H = bpG G) :
    evF (E113 F t n xN xM G U H (tgY A Xp) (tgY A Xr)) 20 5 [.agg t.c, .agg [.arr .u8 32 a], .agg [.arr .u8 32 b]] ⟨0, []⟩ (outV (fun v => v = .bool true)) := by
  refine @Eq.mpr _ (let q1 := t.N;
 let q2 := AV.bool true;
 let q3 := q2 = q2;
 let q4 := t.M;
 let q5 := decide (q4 = q4);
 let q6 := outRows t.outs;
 let q7 := q6 = q6;
 let q8 := decide (q1 = q1);
 let q9 := inRows t.ins;
 let q10 := q9 = q9;
 let q11 := t.num;
 let q12 := decide (q11 = q11);
 let q13 := 0 + q1;
 let q14 := decide (q13 * 144 ≤ 140737488355328);
 let q15 := 0 + q4;
 let q16 := decide (q15 * 160 ≤ 140737488355328);
 let q17 := decide (0 + q13 ≤ q13);
 let q18 := decide (0 + q15 ≤ q15);
 let q19 := q13 = q13;
 let q20 := q15 = q15;
 let q21 := decide (q13 = q1);
 let q22 := decide (q15 = q4);
 let q23 := [(6, 4), (5, 3), (4, 7), (3, 6), (2, 0), (1, 5), (0, 8)];
 let q24 := outRows U;
 let q25 := decide (xN = xN);
 let q26 := decide (xM = xM);
 let q27 := [(6, 6), (5, 5), (4, 4), (3, 3), (2, 2), (1, 1), (0, 0)];
 let q28 := (False → False) ∧ (False → False);
 let q29 := decide (0 + q13 ≤ q13);
 let q30 := decide (0 + q15 ≤ q15);
 let q31 := decide (0 + q13 ≤ q13);
 let q32 := decide (0 + q15 ≤ q15);
 iteB (decide ((↑q1 : Int) > 30)) q3
 (iteB (decide ((↑q4 : Int) > 30)) q3
 (iteB q5
 (q7 ∧
 iteB q5
 (iteB q8
 (q10 ∧
 iteB q8
 (iteB q12
 (iteB q14
 (iteB q5
 (q7 ∧
 iteB q5
 (iteB q12
 (iteB q5
 (q7 ∧
 iteB q5
 (iteB q12
 (iteB q16
 (iteB q12
 (iteB q17
 ((∀ (i : Nat), i < q13 → true = true) ∧
 iteB q18
 ((∀ (i : Nat), i < q15 → true = true) ∧
 ∃ (t_1 : TxS),
 let q65 := t_1.num;
 let q66 := t_1.N;
 let q67 := t_1.M;
 let q68 := (List.length a = 32 ∧ List.length b = 32) ∧ Bytes a ∧ Bytes b;
 let q69 := decide (q66 = xN);
 let q70 := decide (q67 = xM);
 (q65 = q11 ∧
 ((q19 ∧ q66 = q13) ∧
 ∀ (i : Nat),
 let q77 := t.ins (i - 0);
 i < q13 → [AV.arr IntKind.u8 32 q77.name, AV.int IntKind.i64 q77.index, AV.int IntKind.i64 q77.way, AV.arr IntKind.u8 32 q77.tag, AV.arr IntKind.u8 32 q77.also, AV.arr IntKind.u8 32 q77.secret] = InS.c (t_1.ins i)) ∧
 (q20 ∧ q67 = q15) ∧
 ∀ (i : Nat),
 let q77 := t.outs (i - 0);
 i < q15 → [AV.int IntKind.i64 q77.kind, AV.int IntKind.i64 q77.amount, AV.arr IntKind.u8 32 q77.owner, AV.arr IntKind.u8 32 q77.other, AV.arr IntKind.u8 32 q77.point, AV.arr IntKind.u8 32 q77.hash, AV.int IntKind.i64 q77.delay, AV.int IntKind.i64 q77.expiry] = OutS.c (t_1.outs i)) ∧
 (TxS.Ok t_1 ∧ TxAll t_1 ∧ q68) ∧
 ckTx A t_1 = true ∧
 ∃ (t_2 : TxS),
 let q77 := t_2.N;
 let q78 := t_2.M;
 (t_2.num = q11 ∧ ((q1 = q1 ∧ q77 = q1) ∧ ∀ (i : Nat), i < q1 → q9 i = InS.c (t_2.ins i)) ∧ (q4 = q4 ∧ q78 = q4) ∧ ∀ (i : Nat), i < q4 → q6 i = OutS.c (t_2.outs i)) ∧
 (TxS.Ok t_2 ∧ TxAll t_2 ∧ q68) ∧
 ckTx A t_2 = true ∧
 iteB (decide (0 + q66 ≤ q66))
 ((∀ (i : Nat), i < q66 → true = true) ∧
 iteB (decide (0 + q67 ≤ q67))
 ((∀ (i : Nat), i < q67 → true = true) ∧
 iteB (decide (0 + q77 ≤ q77))
 ((∀ (i : Nat), i < q77 → true = true) ∧
 iteB (decide (0 + q78 ≤ q78))
 ((∀ (i : Nat), i < q78 → true = true) ∧
 ∃ (a_1 : TxS),
 ∃ (b_1 : TxS),
 (a_1.num = q65 ∧
 ((q66 = q66 ∧ a_1.N = q66) ∧
 ∀ (i : Nat),
 let q81 := Xp t_1 a b i;
 i < q66 → [AV.arr IntKind.u8 32 q81.name, AV.int IntKind.i64 q81.index, AV.int IntKind.i64 q81.way, AV.arr IntKind.u8 32 q81.tag, AV.arr IntKind.u8 32 q81.also, AV.arr IntKind.u8 32 q81.secret] = InS.c (a_1.ins i)) ∧
 (q67 = q67 ∧ a_1.M = q67) ∧
 ∀ (i : Nat),
 let q81 := t_1.outs i;
 i < q67 → [AV.int IntKind.i64 q81.kind, AV.int IntKind.i64 q81.amount, AV.arr IntKind.u8 32 q81.owner, AV.arr IntKind.u8 32 q81.other, AV.arr IntKind.u8 32 q81.point, AV.arr IntKind.u8 32 q81.hash, AV.int IntKind.i64 q81.delay, AV.int IntKind.i64 q81.expiry] = OutS.c (a_1.outs i)) ∧
 (b_1.num = t_2.num ∧
 ((q77 = q77 ∧ b_1.N = q77) ∧
 ∀ (i : Nat),
 let q81 := Xr t_2 a b i;
 i < q77 → [AV.arr IntKind.u8 32 q81.name, AV.int IntKind.i64 q81.index, AV.int IntKind.i64 q81.way, AV.arr IntKind.u8 32 q81.tag, AV.arr IntKind.u8 32 q81.also, AV.arr IntKind.u8 32 q81.secret] = InS.c (b_1.ins i)) ∧
 (q78 = q78 ∧ b_1.M = q78) ∧
 ∀ (i : Nat),
 let q81 := t_2.outs i;
 i < q78 → [AV.int IntKind.i64 q81.kind, AV.int IntKind.i64 q81.amount, AV.arr IntKind.u8 32 q81.owner, AV.arr IntKind.u8 32 q81.other, AV.arr IntKind.u8 32 q81.point, AV.arr IntKind.u8 32 q81.hash, AV.int IntKind.i64 q81.delay, AV.int IntKind.i64 q81.expiry] = OutS.c (b_1.outs i)) ∧
 (TxS.Ok a_1 ∧ TxS.Ok b_1) ∧
 iteB (F a_1 b_1)
 (iteB q17
 ((∀ (i : Nat), i < q13 → true = true) ∧
 iteB q18
 ((∀ (i : Nat), i < q15 → true = true) ∧
 ∃ (a_2 : TxS),
 ∃ (b_2 : TxS),
 (a_2.num = q11 ∧
 ((q19 ∧ a_2.N = q13) ∧
 ∀ (i : Nat),
 let q81 := t.ins (i - 0);
 i < q13 → [AV.arr IntKind.u8 32 q81.name, AV.int IntKind.i64 q81.index, AV.int IntKind.i64 q81.way, AV.arr IntKind.u8 32 q81.tag, AV.arr IntKind.u8 32 q81.also, AV.arr IntKind.u8 32 q81.secret] = InS.c (a_2.ins i)) ∧
 (q20 ∧ a_2.M = q15) ∧
 ∀ (i : Nat),
 let q81 := t.outs (i - 0);
 i < q15 → [AV.int IntKind.i64 q81.kind, AV.int IntKind.i64 q81.amount, AV.arr IntKind.u8 32 q81.owner, AV.arr IntKind.u8 32 q81.other, AV.arr IntKind.u8 32 q81.point, AV.arr IntKind.u8 32 q81.hash, AV.int IntKind.i64 q81.delay, AV.int IntKind.i64 q81.expiry] = OutS.c (a_2.outs i)) ∧
 (b_2.num = q11 ∧ ((q1 = q1 ∧ b_2.N = q1) ∧ ∀ (i : Nat), i < q1 → q9 i = InS.c (b_2.ins i)) ∧ (q4 = q4 ∧ b_2.M = q4) ∧ ∀ (i : Nat), i < q4 → q6 i = OutS.c (b_2.outs i)) ∧
 (TxS.Ok a_2 ∧ TxS.Ok b_2) ∧
 iteB (decide (F a_2 b_2 = true))
 (iteB (decide (q65 = n))
 (iteB q69
 (iteB (decide (xN ≤ q66))
 (iteB q70
 (iteB (decide (xM ≤ q67))
 (iteB q12
 (iteB q21
 (iteB (decide (q1 ≤ q13))
 (iteB q22
 (iteB (decide (q4 ≤ q15))
 (iteB q12
 (iteB q8
 (q10 ∧
 iteB q8
 (iteB q5
 (q7 ∧
 iteB q5
 (iteB q69
 (RowsEq 0 q23 xN (inRows G) (inRows (Xp t_1 a b)) ∧
 iteB q70
 (RowsEq 0 q23 xM q24 (outRows t_1.outs) ∧
 iteB q21
 (RowsEq 0 q23 q1 q9 (catF 0 (fun (x : Nat) => []) q9) ∧
 iteB q22
 (RowsEq 0 q23 q4 q6 (catF 0 (fun (x : Nat) => []) q6) ∧
 (xN < 1000 ∧ H = bpG G) ∧
 ∀ (i : Nat),
 i ≤ xN →
 (∀ (j : Nat), j < i → (fun (i : Nat) => i < xN) j) →
 (i = xN →
 iteB (decide (n = n))
 (iteB q25
 (iteB (decide (xN ≤ xN))
 (iteB q26
 (iteB (decide (xM ≤ xM))
 (iteB q12
 (iteB q8
 (iteB (decide (q1 ≤ q1))
 (iteB q5
 (iteB (decide (q4 ≤ q4))
 (iteB q12
 (iteB q8
 (q10 ∧
 iteB q8
 (iteB q5
 (q7 ∧
 iteB q5
 (iteB q25
 (RowsEq 0 q27 xN (inRows (H xN)) (inRows (H i)) ∧
 iteB q26
 (RowsEq 0 q27 xM q24 q24 ∧
 iteB q8
 (RowsEq 0 q27 q1 q9 q9 ∧
 iteB q5
 (RowsEq 0 q27 q4 q6 q6 ∧
 xM < 1000 ∧
 ∀ (i : Nat),
 i ≤ xM →
 (∀ (j : Nat), j < i → (fun (i : Nat) => i < xM) j) →
 (i = xM →
 iteB (decide (q13 ≤ q1))
 ((∀ (i : Nat), i < q1 → true = true) ∧
 iteB (decide (q15 ≤ q4))
 ((∀ (i : Nat), i < q4 → true = true) ∧
 ∃ (a : TxS),
 ∃ (b : TxS),
 (a.num = q11 ∧
 ((q1 = q1 ∧ a.N = q1) ∧
 ∀ (i : Nat),
 let q81 := t.ins i;
 i < q1 → [AV.arr IntKind.u8 32 q81.name, AV.int IntKind.i64 q81.index, AV.int IntKind.i64 q81.way, AV.arr IntKind.u8 32 q81.tag, AV.arr IntKind.u8 32 q81.also, AV.arr IntKind.u8 32 q81.secret] = InS.c (a.ins i)) ∧
 (q4 = q4 ∧ a.M = q4) ∧
 ∀ (i : Nat),
 let q81 := t.outs i;
 i < q4 → [AV.int IntKind.i64 q81.kind, AV.int IntKind.i64 q81.amount, AV.arr IntKind.u8 32 q81.owner, AV.arr IntKind.u8 32 q81.other, AV.arr IntKind.u8 32 q81.point, AV.arr IntKind.u8 32 q81.hash, AV.int IntKind.i64 q81.delay, AV.int IntKind.i64 q81.expiry] = OutS.c (a.outs i)) ∧
 (b.num = q11 ∧ ((q1 = q1 ∧ b.N = q1) ∧ ∀ (i : Nat), i < q1 → q9 i = InS.c (b.ins i)) ∧ (q4 = q4 ∧ b.M = q4) ∧ ∀ (i : Nat), i < q4 → q6 i = OutS.c (b.outs i)) ∧ (TxS.Ok a ∧ TxS.Ok b) ∧ iteB (F a b) q3 (AV.bool false = q2))
 False)
 False) ∧
 q28)
 False)
 False)
 False)
 False)
 False)
 False)
 False)
 False)
 False)
 False)
 False)
 False)
 False)
 False)
 False)
 False)
 False)
 False)
 False) ∧
 q28)
 False)
 False)
 False)
 False)
 False)
 False)
 False)
 False)
 False)
 False)
 False)
 False)
 False)
 False)
 False)
 False)
 False)
 False)
 False)
 False)
 False)
 False)
 False)
 False)
 False)
 False)
 False)
 False)
 False)
 False)
 False)
 False)
 False)
 False)
 False)
 False)
 False)
 False ∧
 iteB q5
 (q7 ∧
 iteB q5
 (iteB q8
 (q10 ∧
 iteB q8
 (iteB q12
 (iteB q14
 (iteB q5
 (q7 ∧
 iteB q5
 (iteB q12
 (iteB q16
 (iteB q12
 (iteB q29
 ((∀ (i : Nat), i < q13 → true = true) ∧
 iteB q30
 ((∀ (i : Nat), i < q15 → true = true) ∧
 ∃ (t_1 : TxS),
 let q65 := t_1.num;
 let q66 := t_1.N;
 let q67 := t_1.M;
 let q68 := (List.length a = 32 ∧ List.length b = 32) ∧ Bytes a ∧ Bytes b;
 let q69 := decide (q66 = xN);
 let q70 := decide (q67 = xM);
 (q65 = q11 ∧
 ((q19 ∧ q66 = q13) ∧
 ∀ (i : Nat),
 let q77 := t.ins (i - 0);
 i < q13 → [AV.arr IntKind.u8 32 q77.name, AV.int IntKind.i64 q77.index, AV.int IntKind.i64 q77.way, AV.arr IntKind.u8 32 q77.tag, AV.arr IntKind.u8 32 q77.also, AV.arr IntKind.u8 32 q77.secret] = InS.c (t_1.ins i)) ∧
 (q20 ∧ q67 = q15) ∧
 ∀ (i : Nat),
 let q77 := t.outs (i - 0);
 i < q15 → [AV.int IntKind.i64 q77.kind, AV.int IntKind.i64 q77.amount, AV.arr IntKind.u8 32 q77.owner, AV.arr IntKind.u8 32 q77.other, AV.arr IntKind.u8 32 q77.point, AV.arr IntKind.u8 32 q77.hash, AV.int IntKind.i64 q77.delay, AV.int IntKind.i64 q77.expiry] = OutS.c (t_1.outs i)) ∧
 (TxS.Ok t_1 ∧ TxAll t_1 ∧ q68) ∧
 ckTx A t_1 = true ∧
 ∃ (t_2 : TxS),
 let q77 := t_2.N;
 let q78 := t_2.M;
 (t_2.num = q11 ∧ ((q1 = q1 ∧ q77 = q1) ∧ ∀ (i : Nat), i < q1 → q9 i = InS.c (t_2.ins i)) ∧ (q4 = q4 ∧ q78 = q4) ∧ ∀ (i : Nat), i < q4 → q6 i = OutS.c (t_2.outs i)) ∧
 (TxS.Ok t_2 ∧ TxAll t_2 ∧ q68) ∧
 ckTx A t_2 = true ∧
 iteB (decide (0 + q66 ≤ q66))
 ((∀ (i : Nat), i < q66 → true = true) ∧
 iteB (decide (0 + q67 ≤ q67))
 ((∀ (i : Nat), i < q67 → true = true) ∧
 iteB (decide (0 + q77 ≤ q77))
 ((∀ (i : Nat), i < q77 → true = true) ∧
 iteB (decide (0 + q78 ≤ q78))
 ((∀ (i : Nat), i < q78 → true = true) ∧
 ∃ (a_1 : TxS),
 ∃ (b_1 : TxS),
 (a_1.num = q65 ∧
 ((q66 = q66 ∧ a_1.N = q66) ∧
 ∀ (i : Nat),
 let q81 := Xp t_1 a b i;
 i < q66 → [AV.arr IntKind.u8 32 q81.name, AV.int IntKind.i64 q81.index, AV.int IntKind.i64 q81.way, AV.arr IntKind.u8 32 q81.tag, AV.arr IntKind.u8 32 q81.also, AV.arr IntKind.u8 32 q81.secret] = InS.c (a_1.ins i)) ∧
 (q67 = q67 ∧ a_1.M = q67) ∧
 ∀ (i : Nat),
 let q81 := t_1.outs i;
 i < q67 → [AV.int IntKind.i64 q81.kind, AV.int IntKind.i64 q81.amount, AV.arr IntKind.u8 32 q81.owner, AV.arr IntKind.u8 32 q81.other, AV.arr IntKind.u8 32 q81.point, AV.arr IntKind.u8 32 q81.hash, AV.int IntKind.i64 q81.delay, AV.int IntKind.i64 q81.expiry] = OutS.c (a_1.outs i)) ∧
 (b_1.num = t_2.num ∧
 ((q77 = q77 ∧ b_1.N = q77) ∧
 ∀ (i : Nat),
 let q81 := Xr t_2 a b i;
 i < q77 → [AV.arr IntKind.u8 32 q81.name, AV.int IntKind.i64 q81.index, AV.int IntKind.i64 q81.way, AV.arr IntKind.u8 32 q81.tag, AV.arr IntKind.u8 32 q81.also, AV.arr IntKind.u8 32 q81.secret] = InS.c (b_1.ins i)) ∧
 (q78 = q78 ∧ b_1.M = q78) ∧
 ∀ (i : Nat),
 let q81 := t_2.outs i;
 i < q78 → [AV.int IntKind.i64 q81.kind, AV.int IntKind.i64 q81.amount, AV.arr IntKind.u8 32 q81.owner, AV.arr IntKind.u8 32 q81.other, AV.arr IntKind.u8 32 q81.point, AV.arr IntKind.u8 32 q81.hash, AV.int IntKind.i64 q81.delay, AV.int IntKind.i64 q81.expiry] = OutS.c (b_1.outs i)) ∧
 (TxS.Ok a_1 ∧ TxS.Ok b_1) ∧
 iteB (F a_1 b_1)
 (iteB q29
 ((∀ (i : Nat), i < q13 → true = true) ∧
 iteB q30
 ((∀ (i : Nat), i < q15 → true = true) ∧
 ∃ (a_2 : TxS),
 ∃ (b_2 : TxS),
 (a_2.num = q11 ∧
 ((q19 ∧ a_2.N = q13) ∧
 ∀ (i : Nat),
 let q81 := t.ins (i - 0);
 i < q13 → [AV.arr IntKind.u8 32 q81.name, AV.int IntKind.i64 q81.index, AV.int IntKind.i64 q81.way, AV.arr IntKind.u8 32 q81.tag, AV.arr IntKind.u8 32 q81.also, AV.arr IntKind.u8 32 q81.secret] = InS.c (a_2.ins i)) ∧
 (q20 ∧ a_2.M = q15) ∧
 ∀ (i : Nat),
 let q81 := t.outs (i - 0);
 i < q15 → [AV.int IntKind.i64 q81.kind, AV.int IntKind.i64 q81.amount, AV.arr IntKind.u8 32 q81.owner, AV.arr IntKind.u8 32 q81.other, AV.arr IntKind.u8 32 q81.point, AV.arr IntKind.u8 32 q81.hash, AV.int IntKind.i64 q81.delay, AV.int IntKind.i64 q81.expiry] = OutS.c (a_2.outs i)) ∧
 (b_2.num = q11 ∧ ((q1 = q1 ∧ b_2.N = q1) ∧ ∀ (i : Nat), i < q1 → q9 i = InS.c (b_2.ins i)) ∧ (q4 = q4 ∧ b_2.M = q4) ∧ ∀ (i : Nat), i < q4 → q6 i = OutS.c (b_2.outs i)) ∧
 (TxS.Ok a_2 ∧ TxS.Ok b_2) ∧
 iteB (decide (F a_2 b_2 = true))
 (iteB (decide (q65 = n))
 (iteB q69
 (iteB (decide (xN ≤ q66))
 (iteB q70
 (iteB (decide (xM ≤ q67))
 (iteB q12
 (iteB q21
 (iteB (decide (q1 ≤ q13))
 (iteB q22
 (iteB (decide (q4 ≤ q15))
 (iteB q12
 (iteB q8
 (q10 ∧
 iteB q8
 (iteB q5
 (q7 ∧
 iteB q5
 (iteB q69
 (RowsEq 0 q23 xN (inRows G) (inRows (Xp t_1 a b)) ∧
 iteB q70
 (RowsEq 0 q23 xM q24 (outRows t_1.outs) ∧
 iteB q21
 (RowsEq 0 q23 q1 q9 (catF 0 (fun (x : Nat) => []) q9) ∧
 iteB q22
 (RowsEq 0 q23 q4 q6 (catF 0 (fun (x : Nat) => []) q6) ∧
 (xN < 1000 ∧ H = bpG G) ∧
 ∀ (i : Nat),
 i ≤ xN →
 (∀ (j : Nat), j < i → (fun (i : Nat) => i < xN) j) →
 (i = xN →
 iteB (decide (n = n))
 (iteB q25
 (iteB (decide (xN ≤ xN))
 (iteB q26
 (iteB (decide (xM ≤ xM))
 (iteB q12
 (iteB q8
 (iteB (decide (q1 ≤ q1))
 (iteB q5
 (iteB (decide (q4 ≤ q4))
 (iteB q12
 (iteB q8
 (q10 ∧
 iteB q8
 (iteB q5
 (q7 ∧
 iteB q5
 (iteB q25
 (RowsEq 0 q27 xN (inRows (H xN)) (inRows (H i)) ∧
 iteB q26
 (RowsEq 0 q27 xM q24 q24 ∧
 iteB q8
 (RowsEq 0 q27 q1 q9 q9 ∧
 iteB q5
 (RowsEq 0 q27 q4 q6 q6 ∧
 xM < 1000 ∧
 ∀ (i : Nat),
 i ≤ xM →
 (∀ (j : Nat), j < i → (fun (i : Nat) => i < xM) j) →
 (i = xM →
 iteB (decide (q13 ≤ q1))
 ((∀ (i : Nat), i < q1 → true = true) ∧
 iteB (decide (q15 ≤ q4))
 ((∀ (i : Nat), i < q4 → true = true) ∧
 ∃ (a : TxS),
 ∃ (b : TxS),
 (a.num = q11 ∧
 ((q1 = q1 ∧ a.N = q1) ∧
 ∀ (i : Nat),
 let q81 := t.ins i;
 i < q1 → [AV.arr IntKind.u8 32 q81.name, AV.int IntKind.i64 q81.index, AV.int IntKind.i64 q81.way, AV.arr IntKind.u8 32 q81.tag, AV.arr IntKind.u8 32 q81.also, AV.arr IntKind.u8 32 q81.secret] = InS.c (a.ins i)) ∧
 (q4 = q4 ∧ a.M = q4) ∧
 ∀ (i : Nat),
 let q81 := t.outs i;
 i < q4 → [AV.int IntKind.i64 q81.kind, AV.int IntKind.i64 q81.amount, AV.arr IntKind.u8 32 q81.owner, AV.arr IntKind.u8 32 q81.other, AV.arr IntKind.u8 32 q81.point, AV.arr IntKind.u8 32 q81.hash, AV.int IntKind.i64 q81.delay, AV.int IntKind.i64 q81.expiry] = OutS.c (a.outs i)) ∧
 (b.num = q11 ∧ ((q1 = q1 ∧ b.N = q1) ∧ ∀ (i : Nat), i < q1 → q9 i = InS.c (b.ins i)) ∧ (q4 = q4 ∧ b.M = q4) ∧ ∀ (i : Nat), i < q4 → q6 i = OutS.c (b.outs i)) ∧ (TxS.Ok a ∧ TxS.Ok b) ∧ iteB (F a b) q3 (AV.bool false = q2))
 False)
 False) ∧
 q28)
 False)
 False)
 False)
 False)
 False)
 False)
 False)
 False)
 False)
 False)
 False)
 False)
 False)
 False)
 False)
 False)
 False)
 False)
 False) ∧
 q28)
 False)
 False)
 False)
 False)
 False)
 False)
 False)
 False)
 False)
 False)
 False)
 False)
 False)
 False)
 False)
 False)
 False)
 False)
 False)
 False)
 False)
 False)
 False)
 False)
 False)
 False)
 False)
 False)
 False)
 False)
 False)
 False)
 False)
 False)
 False)
 False)
 False)
 False)
 False)
 False)
 False)
 False)
 False)
 False)
 False ∧
 iteB q5
 (q7 ∧
 iteB q5
 (iteB q8
 (q10 ∧
 iteB q8
 (iteB q12
 (iteB q5
 (q7 ∧
 iteB q5
 (iteB q8
 (q10 ∧
 iteB q8
 (iteB q12
 (iteB q14
 (iteB q5
 (q7 ∧
 iteB q5
 (iteB q12
 (iteB q16
 (iteB q12
 (iteB q31
 ((∀ (i : Nat), i < q13 → true = true) ∧
 iteB q32
 ((∀ (i : Nat), i < q15 → true = true) ∧
 ∃ (t_1 : TxS),
 let q65 := t_1.num;
 let q66 := t_1.N;
 let q67 := t_1.M;
 let q68 := (List.length a = 32 ∧ List.length b = 32) ∧ Bytes a ∧ Bytes b;
 let q69 := decide (q66 = xN);
 let q70 := decide (q67 = xM);
 (q65 = q11 ∧
 ((q19 ∧ q66 = q13) ∧
 ∀ (i : Nat),
 let q77 := t.ins (i - 0);
 i < q13 → [AV.arr IntKind.u8 32 q77.name, AV.int IntKind.i64 q77.index, AV.int IntKind.i64 q77.way, AV.arr IntKind.u8 32 q77.tag, AV.arr IntKind.u8 32 q77.also, AV.arr IntKind.u8 32 q77.secret] = InS.c (t_1.ins i)) ∧
 (q20 ∧ q67 = q15) ∧
 ∀ (i : Nat),
 let q77 := t.outs (i - 0);
 i < q15 → [AV.int IntKind.i64 q77.kind, AV.int IntKind.i64 q77.amount, AV.arr IntKind.u8 32 q77.owner, AV.arr IntKind.u8 32 q77.other, AV.arr IntKind.u8 32 q77.point, AV.arr IntKind.u8 32 q77.hash, AV.int IntKind.i64 q77.delay, AV.int IntKind.i64 q77.expiry] = OutS.c (t_1.outs i)) ∧
 (TxS.Ok t_1 ∧ TxAll t_1 ∧ q68) ∧
 ckTx A t_1 = true ∧
 ∃ (t_2 : TxS),
 let q77 := t_2.N;
 let q78 := t_2.M;
 (t_2.num = q11 ∧ ((q1 = q1 ∧ q77 = q1) ∧ ∀ (i : Nat), i < q1 → q9 i = InS.c (t_2.ins i)) ∧ (q4 = q4 ∧ q78 = q4) ∧ ∀ (i : Nat), i < q4 → q6 i = OutS.c (t_2.outs i)) ∧
 (TxS.Ok t_2 ∧ TxAll t_2 ∧ q68) ∧
 ckTx A t_2 = true ∧
 iteB (decide (0 + q66 ≤ q66))
 ((∀ (i : Nat), i < q66 → true = true) ∧
 iteB (decide (0 + q67 ≤ q67))
 ((∀ (i : Nat), i < q67 → true = true) ∧
 iteB (decide (0 + q77 ≤ q77))
 ((∀ (i : Nat), i < q77 → true = true) ∧
 iteB (decide (0 + q78 ≤ q78))
 ((∀ (i : Nat), i < q78 → true = true) ∧
 ∃ (a_1 : TxS),
 ∃ (b_1 : TxS),
 (a_1.num = q65 ∧
 ((q66 = q66 ∧ a_1.N = q66) ∧
 ∀ (i : Nat),
 let q81 := Xp t_1 a b i;
 i < q66 → [AV.arr IntKind.u8 32 q81.name, AV.int IntKind.i64 q81.index, AV.int IntKind.i64 q81.way, AV.arr IntKind.u8 32 q81.tag, AV.arr IntKind.u8 32 q81.also, AV.arr IntKind.u8 32 q81.secret] = InS.c (a_1.ins i)) ∧
 (q67 = q67 ∧ a_1.M = q67) ∧
 ∀ (i : Nat),
 let q81 := t_1.outs i;
 i < q67 → [AV.int IntKind.i64 q81.kind, AV.int IntKind.i64 q81.amount, AV.arr IntKind.u8 32 q81.owner, AV.arr IntKind.u8 32 q81.other, AV.arr IntKind.u8 32 q81.point, AV.arr IntKind.u8 32 q81.hash, AV.int IntKind.i64 q81.delay, AV.int IntKind.i64 q81.expiry] = OutS.c (a_1.outs i)) ∧
 (b_1.num = t_2.num ∧
 ((q77 = q77 ∧ b_1.N = q77) ∧
 ∀ (i : Nat),
 let q81 := Xr t_2 a b i;
 i < q77 → [AV.arr IntKind.u8 32 q81.name, AV.int IntKind.i64 q81.index, AV.int IntKind.i64 q81.way, AV.arr IntKind.u8 32 q81.tag, AV.arr IntKind.u8 32 q81.also, AV.arr IntKind.u8 32 q81.secret] = InS.c (b_1.ins i)) ∧
 (q78 = q78 ∧ b_1.M = q78) ∧
 ∀ (i : Nat),
 let q81 := t_2.outs i;
 i < q78 → [AV.int IntKind.i64 q81.kind, AV.int IntKind.i64 q81.amount, AV.arr IntKind.u8 32 q81.owner, AV.arr IntKind.u8 32 q81.other, AV.arr IntKind.u8 32 q81.point, AV.arr IntKind.u8 32 q81.hash, AV.int IntKind.i64 q81.delay, AV.int IntKind.i64 q81.expiry] = OutS.c (b_1.outs i)) ∧
 (TxS.Ok a_1 ∧ TxS.Ok b_1) ∧
 iteB (F a_1 b_1)
 (iteB q31
 ((∀ (i : Nat), i < q13 → true = true) ∧
 iteB q32
 ((∀ (i : Nat), i < q15 → true = true) ∧
 ∃ (a_2 : TxS),
 ∃ (b_2 : TxS),
 (a_2.num = q11 ∧
 ((q19 ∧ a_2.N = q13) ∧
 ∀ (i : Nat),
 let q81 := t.ins (i - 0);
 i < q13 → [AV.arr IntKind.u8 32 q81.name, AV.int IntKind.i64 q81.index, AV.int IntKind.i64 q81.way, AV.arr IntKind.u8 32 q81.tag, AV.arr IntKind.u8 32 q81.also, AV.arr IntKind.u8 32 q81.secret] = InS.c (a_2.ins i)) ∧
 (q20 ∧ a_2.M = q15) ∧
 ∀ (i : Nat),
 let q81 := t.outs (i - 0);
 i < q15 → [AV.int IntKind.i64 q81.kind, AV.int IntKind.i64 q81.amount, AV.arr IntKind.u8 32 q81.owner, AV.arr IntKind.u8 32 q81.other, AV.arr IntKind.u8 32 q81.point, AV.arr IntKind.u8 32 q81.hash, AV.int IntKind.i64 q81.delay, AV.int IntKind.i64 q81.expiry] = OutS.c (a_2.outs i)) ∧
 (b_2.num = q11 ∧ ((q1 = q1 ∧ b_2.N = q1) ∧ ∀ (i : Nat), i < q1 → q9 i = InS.c (b_2.ins i)) ∧ (q4 = q4 ∧ b_2.M = q4) ∧ ∀ (i : Nat), i < q4 → q6 i = OutS.c (b_2.outs i)) ∧
 (TxS.Ok a_2 ∧ TxS.Ok b_2) ∧
 iteB (decide (F a_2 b_2 = true))
 (iteB (decide (q65 = n))
 (iteB q69
 (iteB (decide (xN ≤ q66))
 (iteB q70
 (iteB (decide (xM ≤ q67))
 (iteB q12
 (iteB q21
 (iteB (decide (q1 ≤ q13))
 (iteB q22
 (iteB (decide (q4 ≤ q15))
 (iteB q12
 (iteB q8
 (q10 ∧
 iteB q8
 (iteB q5
 (q7 ∧
 iteB q5
 (iteB q69
 (RowsEq 0 q23 xN (inRows G) (inRows (Xp t_1 a b)) ∧
 iteB q70
 (RowsEq 0 q23 xM q24 (outRows t_1.outs) ∧
 iteB q21
 (RowsEq 0 q23 q1 q9 (catF 0 (fun (x : Nat) => []) q9) ∧
 iteB q22
 (RowsEq 0 q23 q4 q6 (catF 0 (fun (x : Nat) => []) q6) ∧
 (xN < 1000 ∧ H = bpG G) ∧
 ∀ (i : Nat),
 i ≤ xN →
 (∀ (j : Nat), j < i → (fun (i : Nat) => i < xN) j) →
 (i = xN →
 iteB (decide (n = n))
 (iteB q25
 (iteB (decide (xN ≤ xN))
 (iteB q26
 (iteB (decide (xM ≤ xM))
 (iteB q12
 (iteB q8
 (iteB (decide (q1 ≤ q1))
 (iteB q5
 (iteB (decide (q4 ≤ q4))
 (iteB q12
 (iteB q8
 (q10 ∧
 iteB q8
 (iteB q5
 (q7 ∧
 iteB q5
 (iteB q25
 (RowsEq 0 q27 xN (inRows (H xN)) (inRows (H i)) ∧
 iteB q26
 (RowsEq 0 q27 xM q24 q24 ∧
 iteB q8
 (RowsEq 0 q27 q1 q9 q9 ∧
 iteB q5
 (RowsEq 0 q27 q4 q6 q6 ∧
 xM < 1000 ∧
 ∀ (i : Nat),
 i ≤ xM →
 (∀ (j : Nat), j < i → (fun (i : Nat) => i < xM) j) →
 (i = xM →
 iteB (decide (q13 ≤ q1))
 ((∀ (i : Nat), i < q1 → true = true) ∧
 iteB (decide (q15 ≤ q4))
 ((∀ (i : Nat), i < q4 → true = true) ∧
 ∃ (a : TxS),
 ∃ (b : TxS),
 (a.num = q11 ∧
 ((q1 = q1 ∧ a.N = q1) ∧
 ∀ (i : Nat),
 let q81 := t.ins i;
 i < q1 → [AV.arr IntKind.u8 32 q81.name, AV.int IntKind.i64 q81.index, AV.int IntKind.i64 q81.way, AV.arr IntKind.u8 32 q81.tag, AV.arr IntKind.u8 32 q81.also, AV.arr IntKind.u8 32 q81.secret] = InS.c (a.ins i)) ∧
 (q4 = q4 ∧ a.M = q4) ∧
 ∀ (i : Nat),
 let q81 := t.outs i;
 i < q4 → [AV.int IntKind.i64 q81.kind, AV.int IntKind.i64 q81.amount, AV.arr IntKind.u8 32 q81.owner, AV.arr IntKind.u8 32 q81.other, AV.arr IntKind.u8 32 q81.point, AV.arr IntKind.u8 32 q81.hash, AV.int IntKind.i64 q81.delay, AV.int IntKind.i64 q81.expiry] = OutS.c (a.outs i)) ∧
 (b.num = q11 ∧ ((q1 = q1 ∧ b.N = q1) ∧ ∀ (i : Nat), i < q1 → q9 i = InS.c (b.ins i)) ∧ (q4 = q4 ∧ b.M = q4) ∧ ∀ (i : Nat), i < q4 → q6 i = OutS.c (b.outs i)) ∧ (TxS.Ok a ∧ TxS.Ok b) ∧ iteB (F a b) q3 (AV.bool false = q2))
 False)
 False) ∧
 q28)
 False)
 False)
 False)
 False)
 False)
 False)
 False)
 False)
 False)
 False)
 False)
 False)
 False)
 False)
 False)
 False)
 False)
 False)
 False) ∧
 q28)
 False)
 False)
 False)
 False)
 False)
 False)
 False)
 False)
 False)
 False)
 False)
 False)
 False)
 False)
 False)
 False)
 False)
 False)
 False)
 False)
 False)
 False)
 False)
 False)
 False)
 False)
 False)
 False)
 False)
 False)
 False)
 False)
 False)
 False)
 False)
 False)
 False)
 False)
 False)
 False)
 False)
 False)
 False)
 False)
 False))) (by kernel_rfl) ?_
  conv => zeta
  try simp only [need_eq]
  try simp only [nope_eq]
  try simp only [iteD_eq]
  try simp only [iteT_eq]
  try simp only [iteF_eq]
  try simp only [iteE_eq]
  try simp only [Int.toNat_natCast, Nat.zero_add, true_and, and_true, Nat.le_refl]
  obtain ⟨ht, hA, hN, hM, ha, hb, ha', hb'⟩ := hC
  have hF2 : ∀ x, F x x = true := fun x => by subst hF; exact sameT_refl x
  have hF3 : ∀ x, ¬ F x x = false := fun x => by rw [hF2]; simp
  have hk : t.Ok ∧ TxAll t ∧ (a.length = 32 ∧ b.length = 32) ∧ Bytes a ∧ Bytes b := ⟨ht, hA, ⟨ha, hb⟩, ha', hb'⟩
  have rI : ∀ τ n (f : Nat → InS), RowsEq 0 τ n (inRows f) (inRows f) := fun τ n f => inRowsEq fun _ _ => rfl
  have rO : ∀ τ n (f : Nat → OutS), RowsEq 0 τ n (outRows f) (outRows f) := fun τ n f => outRowsEq fun _ _ => rfl
  have rI2 : ∀ τ, RowsEq 0 τ t.N (inRows t.ins) (catF 0 (fun _ => []) (inRows t.ins)) := fun τ => inRowsEq fun j _ => by rw [catF_ge (Nat.zero_le _)]; rfl
  have rO2 : ∀ τ, RowsEq 0 τ t.M (outRows t.outs) (catF 0 (fun _ => []) (outRows t.outs)) := fun τ => outRowsEq fun j _ => by rw [catF_ge (Nat.zero_le _)]; rfl
  have hX : ∀ j, j < t.N → inRows (Xp t a b) j = ((tgdX tagT' t a b).ins j).c := fun j hj => by
    have e : tgXp t a b j = tgdI (tagT' (loH a b) t) (tagT' (hiH a b) t) (tagT' a t) (t.ins j) := if_pos hj
    rw [hp]
    show (tgXp t a b j).c = _
    rw [e]; rfl
  have hR : ∀ j, j < t.N → inRows (Xr t a b) j = ((tgdX tagT' t a b).ins j).c := fun j hj => by rw [hr]; rfl
  have hXk : (tgdX tagT' t a b).Ok := ⟨ht.n, ht.m, fun i hi => by
    have h0 := ht.ins i hi
    show (tgdI _ _ _ (t.ins i)).Ok
    unfold tgdI
    split
    · exact ⟨h0.name, tagT'_len _ _, tagT'_len _ _, h0.secret⟩
    · split
      · exact h0
      · exact ⟨h0.name, tagT'_len _ _, h0.also, h0.secret⟩, ht.outs⟩
  refine ⟨fun _ => trivial, fun k1 => ⟨fun _ => trivial, fun k2 => ⟨?_, ?_⟩⟩⟩
  all_goals
    repeat' (first
      | exact trivial
      | exact hk
      | exact hc
      | exact hF2 _
      | exact fun h => absurd h (hF3 _)
      | (rename_i h; rw [h]; exact rI _ _ _)
      | exact rI _ _ _
      | exact rO _ _ _
      | exact rI2 _
      | exact rO2 _
      | exact ⟨ht, ht⟩
      | exact fun _ _ => trivial
      | exact hH
      | exact hn.symm
      | (rw [hG]; exact rI _ _ _)
      | (rw [hU]; exact rO _ _ _)
      | (refine ⟨tgdX tagT' t a b, tgdX tagT' t a b, ⟨rfl, ⟨rfl, hX⟩, rfl, fun _ _ => rfl⟩, ⟨rfl, ⟨rfl, hR⟩, rfl, fun _ _ => rfl⟩, ⟨hXk, hXk⟩, ?_⟩)
      | (refine ⟨t, ⟨rfl, ⟨rfl, fun _ _ => rfl⟩, rfl, fun _ _ => rfl⟩, ?_⟩)
      | (refine ⟨t, t, ⟨rfl, ⟨rfl, fun _ _ => rfl⟩, rfl, fun _ _ => rfl⟩, ⟨rfl, ⟨rfl, fun _ _ => rfl⟩, rfl, fun _ _ => rfl⟩, ⟨ht, ht⟩, ?_⟩)
      | refine And.intro ?_ ?_
      | omega
      | rfl
      | intro _)
end Go.Tk
end
section
namespace Go.Tk
theorem fits_hash {a : AV} (h : FitsA true [.arr .u8 32] a) : ∃ xs : List Int, a = .agg [.arr .u8 32 xs] ∧ xs.length = 32 ∧ Bytes xs := by
  cases h with | agg _ u h =>
  cases h with | cons _ a _ u h1 h =>
  cases h; cases h1
  rename_i xs l w
  exact ⟨xs, by simp, l, bytes_of l w⟩
theorem committags_walk {us : List AV} (h : FitsL [(true, txTy), (true, [.arr .u8 32]), (true, [.arr .u8 32])] us) : CallsA PP 5 us ⟨0, []⟩ fun o h' => ∃ v, o = .ret v ∧ h' = ⟨0, []⟩ ∧ v = .bool true := by
  cases h with | cons _ _ a _ _ h1 h =>
  cases h with | cons _ _ b _ _ h2 h =>
  cases h with | cons _ _ c _ _ h3 h =>
  cases h
  obtain ⟨l, t, rfl, t1, t2, t3⟩ := fits_tx h1
  obtain ⟨a, rfl, a1, a2⟩ := fits_hash h2
  obtain ⟨b, rfl, b1, b2⟩ := fits_hash h3
  suffices hs : CallsA PP 5 [.agg t.c, .agg [.arr .u8 32 a], .agg [.arr .u8 32 b]] ⟨0, []⟩ fun o h' => ∃ v, o = .ret v ∧ h' = ⟨0, []⟩ ∧ v = .bool true from
    hs.conv fun E r hr => hr.head (fun _ hc => t1.rel hc) (fun _ hc => hc)
  by_cases hN : t.N ≤ 30 ∧ t.M ≤ 30
  · have hC : CtC t a b := ⟨t2 (by omega) (by omega), t3, hN.1, hN.2, a1, b1, a2, b2⟩
    cases hc : ckTx addM t with
    | false => exact outV_ev (h := ⟨0, []⟩) (E113_ok t 0 0 0 t.ins t.outs (bpG t.ins) tgN_ok tgrN_ok) rfl (cts_N addM sameT t a b 0 0 0 t.ins t.outs _ hC rfl hc rfl rfl rfl rfl) (fun u hu => hu)
    | true => exact outV_ev (h := ⟨0, []⟩) (E113_ok t t.num t.N t.M (tgXp t a b) t.outs (bpG (tgXp t a b)) tgY_ok tgrY_ok) rfl (cts_Y addM sameT tgXp tgXr t a b _ _ _ _ _ _ hC rfl rfl rfl hc rfl rfl rfl rfl rfl rfl) (fun u hu => hu)
  · exact outV_ev (h := ⟨0, []⟩) (Env2.withF_ok (Env2.withP_ok G0_ok works8_ok) noF_ok) rfl (cts_0 t a b hN) (fun u hu => hu)
end Go.Tk
namespace Go.Proofs.YtbeiehggdcpdbaaGreat.commitTags
open Go.ChangeShapes Go.WideShapes Go.ChangeAt Go.RowKit
theorem own : ownKnob Tryz.prog.godebug = none := by kernel_rfl
theorem laidOut : laidOutB Tryz.prog = true := by kernel_rfl
set_option maxRecDepth 100000 in
theorem lifted (os : Os) (started : os.Started) (H : Type) (enc : TypeId × Value → H) :
    ReturnsInHanded {} Tryz.checked os 5 .any (Rows.commitTagsSpec.pre6 enc Tryz.prog Tryz.f5 Rows.commitTagsRow.domain false) (Rows.commitTagsSpec.post enc Tryz.prog Tryz.f5 false true false false) :=
  Go.Tk.lifted_gen (C := Tryz.checked) (m := 8) (τs := [(true, Go.Tk.txTy), (true, [.arr .u8 32]), (true, [.arr .u8 32])]) own laidOut started (by kernel_rfl) Tryz.func5
    (ChangeSpec.witness6 (enc := enc) (C := Tryz.checked) false ⟨#[], #[.agg #[.int .i64 0, .slice none 0 0, .slice none 0 0], .agg (Array.replicate 32 (.int .u8 0)), .agg (Array.replicate 32 (.int .u8 0))], []⟩ 8 (by kernel_rfl) (by kernel_rfl) (by kernel_rfl) (by kernel_rfl))
    rfl (tb := 4) rfl Tryz.underlying4 (by kernel_rfl) (by kernel_rfl) (fun ds h => by
      match ds, h with
      | [a, b, c], _ => rfl) fun us h => Go.Tk.committags_walk h
theorem fnamed : Tryz.pinned.checked.prog.funcNamed Rows.commitTagsRow.func = some 5 := by kernel_rfl
set_option maxHeartbeats 0 in
theorem closed : joinedFacts Tryz.pinned.checked.prog 5 Tryz.f5 Rows.commitTagsSpec Rows.commitTagsRow = true := by
  unfold joinedFacts
  repeat' with_reducible refine Go.Tk.and_mk ?_ ?_
  all_goals as_aux_lemma => kernel_rfl
theorem over : Rows.commitTagsRow.holds Tryz.pinned (OpenSpec.ofChange Rows.commitTagsSpec) :=
  OpenClaim.holds_of_wide 5 Tryz.f5 rfl rfl rfl rfl rfl rfl rfl ⟨rfl, rfl, rfl, rfl, rfl⟩ rfl rfl rfl rfl rfl fnamed Tryz.func5 closed
    (of_decide_eq_true (by kernel_rfl)) (by unfold Func.isWrapper; first | (rw [if_pos (by decide +kernel)]; kernel_rfl) | (rw [if_neg (by decide +kernel)]; exact ⟨rfl, rfl⟩))
    (fun os started H enc _ => lifted os started H enc)
theorem proved : Rows.CommitTagsSaid := over
end Go.Proofs.YtbeiehggdcpdbaaGreat.commitTags
end
