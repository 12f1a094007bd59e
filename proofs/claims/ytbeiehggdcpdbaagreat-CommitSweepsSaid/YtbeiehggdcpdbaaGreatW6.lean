/- W: part 6 of an engine (a symbolic evaluator, proved against the model) and of the walk by it. -/
import Derived.Test.YtbeiehggdcpdbaaGreatW5
import Derived.Test.YtbeiehggdcpdbaaGreatRows
import Derived.ChangeOld
set_option linter.unusedVariables false
set_option linter.unusedSimpArgs false
set_option maxRecDepth 100000
set_option maxHeartbeats 0
section
namespace Go.Tk
open IntKind (i64 u8 u32 u64 wrap)
noncomputable def XR : Code := rfA PP 17 0
noncomputable def XS : Code := rfB PP 17 0
def pt0 (x : Nat) : AV := .ptr (some ⟨x, 0, 0, 0, 0⟩)
def swI (nm : List Int) (L : List ClS) (j : Nat) : InS := ⟨nm, (L.getD j cl0).index, (L.getD j cl0).way, Z6, Z6, (L.getD j cl0).secret⟩
def swV (t : TxS) (L : List ClS) (i : Nat) : List Int := (List.range i).map fun j => (t.outs (L.getD j cl0).index.toNat).amount
structure SwS where
 t : TxS
 key : List Int
 nm : List Int
 L : List ClS
 N : Nat
def SwS.hp (y : SwS) (e : Int) (n : Nat) (V : List Int) : List (Nat × Blk) := [(9, .defd), (8, .rows 34 y.N (Zm y.L)), (6, .flat [.nslice ⟨12, 0, 0, 0, 0⟩ 1 n n]), (5, .flat [.int .i64 0, .nslice ⟨11, 0, 130, 0, 0⟩ 130 n n, .nilslice]), (4, .flat [.arr .u8 32 y.nm]), (3, .flat [.int .i64 e]), (2, .flat txZ), (1, .flat [.arr .u8 32 y.key]), (0, .flat y.t.c), (11, .rows 130 n (Zf (swI y.nm y.L))), (12, .ints .i64 V)]
def Zjo : ZO := [(3, pt0 0), (4, pt0 1), (6, pt0 2), (7, pt0 3), (8, pt0 4), (10, pt0 5), (11, pt0 6)]
noncomputable def SwS.s (y : SwS) (i : Nat) (V : List Int) : St := ⟨16, [(7, .int .i64 i), (6, .int .i64 y.N), (5, .nslice ⟨8, 0, 34, 0, 0⟩ 34 y.N y.N), (0, .yield 10)], ⟨13, (10, .loop ⟨.ready, none, 17, 82, Zjo, [25], XR, XS, 9⟩) :: y.hp 0 i V⟩, []⟩
noncomputable def SwS.e (y : SwS) (ls : LoopState) (pe : Option Code) (e : Int) (i : Nat) (V : List Int) : St := ⟨16, [(0, .yield 10)], ⟨13, (10, .loop ⟨ls, pe, 17, 82, Zjo, [25], XR, XS, 9⟩) :: y.hp e i V⟩, []⟩
def XD (M : Nat) (c : ClS) : Prop := 0 ≤ c.index ∧ c.index ≤ (M : Int) - 1 ∧ c.way ≠ 1
theorem Zjp (y : SwS) (ls : LoopState) (pe : Option Code) (e : Int) (i : Nat) (V V1 : List Int) (Z1 Z2 : Prop) (hN : y.N ≤ 30) (hM : y.t.M ≤ 24) (hi : i ≤ y.N) (hL : y.L.length = y.N) (hV : V.length = i) (hV1 : i < y.N → V1 = V ++ [(y.t.outs (y.L.getD i cl0).index.toNat).amount]) (h1 : i < y.N → XD y.t.M (y.L.getD i cl0) → Z1) (h2 : i = y.N → (ls = .ready ∧ pe = none ∧ e = 0) ∧ Z2) (h3 : i < y.N → ¬ XD y.t.M (y.L.getD i cl0) → (ls = .done ∧ pe = some .ret ∧ e = 2) ∧ Z2) :
  Zz G0 20 70 0 11 (y.s i V) (rdM 11 0 9 (y.s (i + 1) V1) (y.e ls pe e i V) (y.e ls pe e i V) (y.e ls pe e i V) Z1 Z2 False False) := by
 refine @Eq.mpr _ (let q1 := y.N;
 let q2 := (↑q1 : Int);
 let q3 := 0 + Int.toNat (↑i : Int);
 let q4 := y.L;
 let q5 := List.getD q4 q3 cl0;
 let q6 := q5.index;
 let q7 := y.t;
 let q8 := q7.M;
 let q9 := (↑q8 : Int);
 let q10 := (17 : FuncId) = 17 ∧ (82 : Nat) = 82 ∧ [(25 : Nat)] = [(25 : Nat)] ∧ XR = XR ∧ XS = XS;
 let q11 := decide (q1 = q1);
 let q12 := [(11, 11), (12, 12)];
 let q13 := Zm q4;
 let q14 := Zg 11 q12 q1 q13 q13;
 let q15 := decide (i = i);
 let q16 := decide (i ≤ i);
 let q17 := y.nm;
 let q18 := q17 = q17;
 let q19 := y.key = y.key;
 let q20 := q7.num;
 let q21 := decide (q20 = q20);
 let q22 := q7.N;
 let q23 := decide (q22 = q22);
 let q24 := Zf q7.ins;
 let q25 := q24 = q24;
 let q26 := decide (q8 = q8);
 let q27 := Zn q7.outs;
 let q28 := q27 = q27;
 let q29 := Zf (swI q17 q4);
 let q30 := q19 ∧ Z0 q21 (Z0 q23 (q25 ∧ Z0 q23 (Z0 q26 (q28 ∧ Z0 q26 (Z0 q15 (Zg 11 q12 i q29 q29 ∧ V = V ∧ Z2) False) False) False) False) False) False;
 let q31 := (LoopState.done = ls ∧ some Code.ret = pe ∧ q10) ∧ Z0 q11 (q14 ∧ Z0 q15 (Z0 q16 (Z0 q15 (Z0 q16 (q18 ∧ Z0 (decide (2 = e)) q30 False) False) False) False) False) False;
 let q32 := q5.way;
 let q33 := i + 1;
 let q34 := V ++ [(q7.outs (Int.toNat q6)).amount];
 let q35 := List.length q34;
 let q36 := [(11, 16), (12, 18)];
 let q37 := decide (q33 = q33);
 let q38 := AV.arr u8 32 Z6;
 Z0 (decide ((↑i : Int) < q2))
 (Z0 (decide (0 ≤ (↑i : Int) ∧ (↑i : Int) < q2))
 (Z0 (decide (q3 < q1))
 (Z0 (decide (0 ≤ q6))
 (Z0 (!decide (q6 ≤ wrap i64 (q9 - 1))) q31
 (Z0 (q32 == 1) q31 (Z0 q15 (Z0 (decide (q33 * 144 ≤ 140737488355328)) (Z0 (decide (0 ≤ q6 ∧ q6 < q9)) (Z0 q15 (Z0 q15 (Z0 (decide (i64 = i64 ∧ List.length V = i)) (Z0 (decide (q35 * 8 ≤ 140737488355328)) (Z0 (decide (wrap i64 ((↑i : Int) + 1) = (↑q33 : Int))) (Z0 (decide (q2 = q2)) (Z0 q11 (Z0 (decide (q1 ≤ q1)) ((LoopState.ready = LoopState.ready ∧ (none : Option Code) = none ∧ q10) ∧ Z0 q11 (Zg 11 q36 q1 q13 q13 ∧ Z0 (decide (q35 = q33)) (Z0 (decide (q33 ≤ q35)) (Z0 q37 (Z0 (decide (q33 ≤ q33)) (q18 ∧ q19 ∧ Z0 q21 (Z0 q23 (q25 ∧ Z0 q23 (Z0 q26 (q28 ∧ Z0 q26 (Z0 q37 (Zg 11 q36 q33 q29 (YF i q29 (ZM [AV.arr u8 32 q17, AV.int i64 q6, AV.int i64 q32, q38, q38, AV.arr u8 32 q5.secret] 0 130)) ∧ q34 = V1 ∧ Z1) False) False) False) False) False) False) False) False) False) False) False) False) False) False) False) False) False) False) False) False) False) False)))
 q31)
 False)
 False)
 ((LoopState.ready = ls ∧ none = pe ∧ q10) ∧ Z0 q11 (q14 ∧ Z0 q15 (Z0 q16 (Z0 q15 (Z0 q16 (q18 ∧ Z0 (decide (0 = e)) q30 False) False) False) False) False) False)) (by kernel_rfl) ?_
 conv => zeta
 try simp only [Zc]
 try simp only [Zi]
 try simp only [Ze]
 try simp only [Zj]
 try simp only [Zk]
 try simp only [Zd]
 try simp only [Int.toNat_natCast, Nat.zero_add, true_and, and_true, Nat.le_refl]
 have rK : ∀ τ, Zg 11 τ y.N (Zm y.L) (Zm y.L) := fun τ => ZS fun _ _ => rfl
 have rI : ∀ τ, Zg 11 τ i (Zf (swI y.nm y.L)) (Zf (swI y.nm y.L)) := fun τ => Yi fun _ _ => rfl
 have hwM : i64.wrap ((y.t.M : Int) - 1) = (y.t.M : Int) - 1 := w64 (by omega)
 rw [hwM]
 refine ⟨fun hc => ?_, fun hc => ?_⟩
 ·have hlt : i < y.N := by omega
  have hwr : i64.wrap ((i : Int) + 1) = ((i + 1 : Nat) : Int) := by rw [w64 (by omega)]; omega
  have bad : ¬ XD y.t.M (y.L.getD i cl0) → (LoopState.done = ls ∧ some Code.ret = pe) ∧ Zg 11 [(11, 11), (12, 12)] y.N (Zm y.L) (Zm y.L) ∧ 2 = e ∧ Zg 11 [(11, 11), (12, 12)] i (Zf (swI y.nm y.L)) (Zf (swI y.nm y.L)) ∧ Z2 := fun hb => by
   obtain ⟨⟨x1, x2, x3⟩, hz⟩ := h3 hlt hb
   exact ⟨⟨x1.symm, x2.symm⟩, rK _, x3.symm, rI _, hz⟩
  refine ⟨by omega, hlt, fun k1 => ⟨fun k2 => bad fun hg => ?_, fun k2 => ⟨fun k3 => bad fun hg => ?_, fun k3 => ?_⟩⟩, fun k1 => bad fun hg => k1 hg.1⟩
  ·have := hg.2.1
   simp only [Bool.not_eq_true', decide_eq_false_iff_not] at k2
   exact k2 this
  ·have := hg.2.2
   simp only [beq_iff_eq] at k3
   exact this k3
  ·simp only [Bool.not_eq_false', decide_eq_true_eq] at k2
   simp only [beq_eq_false_iff_ne, ne_eq] at k3
   have e1 := hV1 hlt
   rw [← e1]
   have l1 : V1.length = i + 1 := by rw [e1]; simp [hV]
   exact ⟨by omega, by omega, hV, by omega, hwr, rK _, l1, by omega, Yi fun j hj => (ZfC (swI y.nm y.L) (swI y.nm y.L i) hj).trans (by split <;> simp_all), rfl, h1 hlt ⟨k1, k2, k3⟩⟩
 ·obtain ⟨⟨x1, x2, x3⟩, hz⟩ := h2 (by omega)
  exact ⟨⟨x1.symm, x2.symm⟩, rK _, x3.symm, rI _, hz⟩
theorem Z17 (t : TxS) (L : List ClS) (i : Nat) : (swV t L i).length = i := by simp [swV]
theorem Z61 (t : TxS) (L : List ClS) (i : Nat) : swV t L (i + 1) = swV t L i ++ [(t.outs (L.getD i cl0).index.toNat).amount] := by simp [swV, List.range_succ]
structure SwC (y : SwS) (V : Nat → List Int) : Prop where
 hN : y.N ≤ 30
 hM : y.t.M ≤ 24
 hL : y.L.length = y.N
 hV : V = swV y.t y.L
def swL (y : SwS) (V : Nat → List Int) : Nat → St → KE → Prop := goM 11 (y.s 0 []) (SwC y V) (ZfD 0 y.N (fun i => XD y.t.M (y.L.getD i cl0)) (fun i => i = y.N) (fun i => i < y.N ∧ ¬ XD y.t.M (y.L.getD i cl0)) (fun i => y.e .ready none 0 i (V i)) (fun i => y.e .done (some .ret) 2 i (V i)))
theorem Zha (y : SwS) (V : Nat → List Int) : (G0.withL 70 0 (swL y V)).Ok :=
 Za.withGoX (N := 20) (S := fun i => y.s i (swV y.t y.L i)) Zv (by kernel_rfl) fun hC => ⟨rfl, fun i hi hgo => by
  obtain ⟨c1, c2, c3, c4⟩ := hC
  subst c4
  by_cases h : i < y.N ∧ ¬ XD y.t.M (y.L.getD i cl0)
  ·exact .inr (Zjp y .done (some .ret) 2 i _ _ _ _ c1 c2 hi c3 (Z17 _ _ _) (fun _ => Z61 _ _ _) (fun h1 h2 => ⟨h2, h1⟩) (fun h1 => by omega) (fun h1 h2 => ⟨⟨rfl, rfl, rfl⟩, h1, h2⟩))
  ·exact .inl (Zjp y .ready none 0 i _ _ _ _ c1 c2 hi c3 (Z17 _ _ _) (fun _ => Z61 _ _ _) (fun h1 h2 => ⟨h2, h1⟩) (fun h1 => ⟨⟨rfl, rfl, rfl⟩, h1⟩) (fun h1 h2 => absurd ⟨h1, h2⟩ h))⟩
end Go.Tk
end
section
namespace Go.Tk
open IntKind (i64 u8 u32 u64 wrap)
def swO (key : List Int) (sum : Int) : ZF := ⟨1, sum, key, Z6, Z6, Z6, 0, 0⟩
def swX (nm key : List Int) (L : List ClS) (n : Nat) (sum : Int) : TxS := ⟨0, n, swI nm L, 1, fun _ => swO key sum⟩
structure ZeE (A : List Int → Int × Int) (Nm : TxS → List Int) (t : TxS) (key : List Int) (L : List ClS) (n : Nat) (sum : Int) : Prop where
 good : ∀ i, i < n → XD t.M (L.getD i cl0)
 add : A (swV t L n) = (sum, 0)
 ck : ZR A (swX (Nm t) key L n sum) = true
noncomputable def Zhb (A : List Int → Int × Int) (Nm : TxS → List Int) (B : Nat) : Za := ((((G0.withP 41 (Z8b A Nm)).withP 43 (ckS A)).withP 40 (Z88 A)).withF 42 (ZeD B)).withL 70 0 (Z9r fun p : SwS × (Nat → List Int) => swL p.1 p.2)
theorem Z8u {B : Nat} (hB : ∀ args h K, ZeD B args h K → Zh PP 42 args h K) : (Zhb Y0 Xo B).Ok := by
 have h0 : ((((G0.withP 41 (Z8b Y0 Xo)).withP 43 (ckS Y0)).withP 40 (Z88 Y0)).withF 42 (ZeD B)).Ok := Za.withF_ok (Za.withP_ok (Za.withP_ok (Za.withP_ok Zv Z5G) Z77) Z5D) hB
 exact Za.withL_join (H := G0) h0 rfl (Za.withL_ex Zv fun p => Zha p.1 p.2)
theorem Z2A {nm key : List Int} {L : List ClS} {n : Nat} {sum : Int} (hnm : nm.length = 32) (hk : key.length = 32) (hl : L.length = n) (hn : n ≤ 30) (hok : ∀ m ∈ L, m.Ok) : (swX nm key L n sum).Ok :=
 ⟨by show n < _; omega, by show 1 < _; decide, fun j hj => by
  have hj : j < n := hj
  have := hok _ (show L.getD j cl0 ∈ L by rw [List.getD_eq_getElem?_getD, List.getElem?_eq_getElem (by omega)]; exact List.getElem_mem _)
  exact ⟨hnm, rfl, rfl, this.secret⟩, fun _ _ => ⟨hk, rfl, rfl, rfl⟩⟩
theorem Zjq (A : List Int → Int × Int) (Nm : TxS → List Int) (B : Nat) (t : TxS) (key : List Int) (n : Nat) (L L0 : List ClS) (sum : Int) (ht : t.Ok) (hM : t.M ≤ 24) (hk : key.length = 32) (hnm : (Nm t).length = 32) (hn : n < B ∧ n ≤ 30) (hl : L.length = n) (hok : ∀ m ∈ L, m.Ok) (hc : ZR A t = true) (hu : ∀ L1, L1.Perm L → Xe ltC L1 → L1 = L0) (hg : ZeE A Nm t key L0 n sum) :
  evF (Zhb A Nm B) 20 17 [.agg t.c, .agg [.arr .u8 32 key], .vrows 34 n (Zm L) n] ⟨0, []⟩ (Ym 0 (.ret (.tuple [.agg [.int .i64 0, .nslice ⟨0, 0, 130, 0, 0⟩ 130 n n, .nslice ⟨1, 0, 0, 0, 0⟩ 132 1 1], .int .i64 0])) 2 [(0, .rows 130 n (Zf (swI (Nm t) L0))), (1, .flat (swO key sum).c)]) := by
 refine @Eq.mpr _ (let q1 := t.N;
 let q2 := t.M;
 let q3 := decide (n = 0);
 let q4 := Z0 q3 (Z0 q3 False False) False;
 let q5 := AV.arr u8 32 Z6;
 let q6 := swO key sum;
 ∃ (t_1 : TxS),
 (t_1.num = t.num ∧ ((q1 = q1 ∧ t_1.N = q1) ∧ ∀ (i : Nat), i < q1 → Zf t.ins i = InS.c (t_1.ins i)) ∧ (q2 = q2 ∧ t_1.M = q2) ∧ ∀ (i : Nat), i < q2 → Zn t.outs i = ZF.c (t_1.outs i)) ∧
 TxS.Ok t_1 ∧
 Z0 (ZR A t_1)
 (∃ (N : Nat),
 ∃ (L_1 : List ClS),
 ((n = n ∧ N = n) ∧ ∀ (i : Nat), i < n → Zm L i = Zm L_1 i) ∧
 (N < B ∧ List.length L_1 = N ∧ ∀ (m : ClS), List.Mem m L_1 → ClS.Ok m) ∧
 ∀ (L1 : List ClS),
 List.Perm L1 L_1 →
 Xe ltC L1 →
 ∃ (i : SwS × (Nat → List Int)),
 let q13 := i.fst.N;
 let q14 := decide (N = q13);
 let q15 := i.fst.L;
 let q16 := i.fst.nm;
 let q17 := i.fst.key;
 let q18 := i.fst.t;
 let q19 := decide (q1 = q18.N);
 let q20 := q18.M;
 let q21 := decide (q2 = q20);
 Z0 (decide ((↑N : Int) = (↑q13 : Int)))
 (Z0 q14
 (Z0 (decide (q13 ≤ N))
 ((LoopState.ready = LoopState.ready ∧ (none : Option Code) = none ∧ (17 : FuncId) = 17 ∧ (82 : Nat) = 82 ∧ [(25 : Nat)] = [(25 : Nat)] ∧ XR = XR ∧ XS = XS) ∧
 Z0 q14
 (Zg 11 [] q13 (Zm q15) (Zm L1) ∧
 Nm t_1 = q16 ∧
 key = q17 ∧
 Z0 (decide (t.num = q18.num))
 (Z0 q19
 (Zf t.ins = Zf q18.ins ∧
 Z0 q19
 (Z0 q21
 (Zn t.outs = Zn q18.outs ∧
 Z0 q21
 (([] : List Int) = [] ∧
 SwC i.fst i.snd ∧
 ∀ (i_1 : Nat),
 let q31 := List.take i_1 (Y3 0 (i.snd i_1));
 let q32 := A q31;
 let q33 := q32.fst;
 let q34 := decide (i_1 = n);
 i_1 ≤ q13 →
 (∀ (j : Nat), j < i_1 → (fun (i : Nat) => XD q20 (List.getD q15 i cl0)) j) →
 (i_1 = q13 →
 Z0 (decide (0 + i_1 ≤ List.length (i.snd i_1)))
 (Z0 (decide (i_1 = List.length q31 ∧ i_1 < 900000000000))
 (Z0 (q32.snd != 0) q4
 (Z0 (decide (0 + i_1 ≤ i_1))
 ((∀ (i : Nat), i < i_1 → true = true) ∧
 ∃ (t_2 : TxS),
 (t_2.num = 0 ∧
 ((i_1 = i_1 ∧ t_2.N = i_1) ∧
 ∀ (i : Nat),
 let q39 := swI q16 q15 i;
 i < i_1 → [AV.arr u8 32 q39.name, AV.int i64 q39.index, AV.int i64 q39.way, AV.arr u8 32 q39.tag, AV.arr u8 32 q39.also, AV.arr u8 32 q39.secret] = InS.c (t_2.ins i)) ∧
 ((1 : Nat) = 1 ∧ t_2.M = 1) ∧ ∀ (i : Nat), i < 1 → ZM [AV.int i64 1, AV.int i64 q33, AV.arr u8 32 q17, q5, q5, q5, AV.int i64 0, AV.int i64 0] 0 132 i = ZF.c (t_2.outs i)) ∧
 TxS.Ok t_2 ∧ Z0 (ZR A t_2) (Z0 q34 (Z0 (decide (n ≤ i_1)) (Z0 q34 (Zg 0 [(1, 13), (0, 11)] n (Zf (swI (Nm t) L0)) (Zf (swI q16 q15)) ∧ Z0 (decide (q33 = q6.amount)) (q17 = q6.owner ∧ Z6 = q6.other ∧ Z6 = q6.point ∧ Z6 = q6.hash ∧ True) False) False) False) False) q4)
 False))
 False)
 False) ∧
 (i_1 < q13 ∧ ¬XD q20 (List.getD q15 i_1 cl0) → q4))
 False)
 False)
 False)
 False)
 False)
 False)
 False)
 False)
 False)
 q4) (by kernel_rfl) ?_
 conv => zeta
 try simp only [Zc]
 try simp only [Zi]
 try simp only [Ze]
 try simp only [Zj]
 try simp only [Zk]
 try simp only [Zd]
 try simp only [Int.toNat_natCast, Nat.zero_add, true_and, and_true, Nat.le_refl]
 refine ⟨t, ⟨rfl, ⟨rfl, fun _ _ => rfl⟩, rfl, fun _ _ => rfl⟩, ht, fun _ => ⟨n, L, ⟨rfl, fun _ _ => rfl⟩, ⟨hn.1, hl, hok⟩, fun L1 hp ho => ?_⟩, fun k => by rw [hc] at k; cases k⟩
 have e := hu L1 hp ho
 subst e
 refine ⟨(⟨t, key, Nm t, L1, n⟩, swV t L1), rfl, rfl, Nat.le_refl _, rfl, ZS fun _ _ => rfl, rfl, rfl, rfl, rfl, rfl, rfl, rfl, rfl, rfl, ⟨hn.2, hM, by rw [hp.length_eq]; exact hl, rfl⟩, fun i hi hgo => ⟨fun he => ?_, fun hb => absurd (hg.good i hb.1) hb.2⟩⟩
 have he : i = n := he
 subst he
 have l1 := Z17 t L1 i
 have hdz : List.take i (Y3 0 (swV t L1 i)) = swV t L1 i := by rw [Ye, List.drop_zero, List.take_of_length_le (by omega)]
 show _ ≤ (swV t L1 i).length ∧ _
 rw [show ((⟨t, key, Nm t, L1, i⟩, swV t L1) : SwS × (Nat → List Int)).2 i = swV t L1 i from rfl, hdz, hg.add]
 have hX : (swX (Nm t) key L1 i sum).Ok := Z2A hnm hk (by rw [hp.length_eq]; exact hl) hn.2 (fun m hm => hok m (hp.mem_iff.1 hm))
 exact ⟨by omega, ⟨l1.symm, by omega⟩, fun k => by simp at k, fun _ => ⟨fun _ _ => trivial, swX (Nm t) key L1 i sum, ⟨rfl, ⟨rfl, fun _ _ => rfl⟩, rfl, fun j hj => by
  have e : j = 0 := by omega
  subst e; rfl⟩, hX, fun _ => ⟨rfl, Nat.le_refl _, rfl, Yi fun _ _ => rfl, rfl, rfl, rfl, rfl, rfl⟩, fun k => by rw [hg.ck] at k; cases k⟩⟩
theorem Zjr (A : List Int → Int × Int) (Nm : TxS → List Int) (B : Nat) (t : TxS) (key : List Int) (n : Nat) (L : List ClS) (ht : t.Ok) (hM : ZR A t = true → t.M ≤ 24) (hk : key.length = 32) (hnm : (Nm t).length = 32) (hn : n < B ∧ n ≤ 30) (hl : L.length = n) (hok : ∀ m ∈ L, m.Ok) (hg : ZR A t = true → ∀ L1, L1.Perm L → Xe ltC L1 → ∀ sum, ¬ ZeE A Nm t key L1 n sum) :
  evF (Zhb A Nm B) 20 17 [.agg t.c, .agg [.arr .u8 32 key], .vrows 34 n (Zm L) n] ⟨0, []⟩ (Ym 0 (.ret (.tuple [.agg txZ, .int .i64 2])) 0 []) := by
 refine @Eq.mpr _ (let q1 := t.N;
 let q2 := t.M;
 let q3 := AV.arr u8 32 Z6;
 ∃ (t_1 : TxS),
 (t_1.num = t.num ∧ ((q1 = q1 ∧ t_1.N = q1) ∧ ∀ (i : Nat), i < q1 → Zf t.ins i = InS.c (t_1.ins i)) ∧ (q2 = q2 ∧ t_1.M = q2) ∧ ∀ (i : Nat), i < q2 → Zn t.outs i = ZF.c (t_1.outs i)) ∧
 TxS.Ok t_1 ∧
 Z0 (ZR A t_1)
 (∃ (N : Nat),
 ∃ (L_1 : List ClS),
 ((n = n ∧ N = n) ∧ ∀ (i : Nat), i < n → Zm L i = Zm L_1 i) ∧
 (N < B ∧ List.length L_1 = N ∧ ∀ (m : ClS), List.Mem m L_1 → ClS.Ok m) ∧
 ∀ (L1 : List ClS),
 List.Perm L1 L_1 →
 Xe ltC L1 →
 ∃ (i : SwS × (Nat → List Int)),
 let q7 := i.fst.N;
 let q8 := decide (N = q7);
 let q9 := i.fst.L;
 let q10 := i.fst.nm;
 let q11 := i.fst.key;
 let q12 := i.fst.t;
 let q13 := decide (q1 = q12.N);
 let q14 := q12.M;
 let q15 := decide (q2 = q14);
 Z0 (decide ((↑N : Int) = (↑q7 : Int)))
 (Z0 q8
 (Z0 (decide (q7 ≤ N))
 ((LoopState.ready = LoopState.ready ∧ (none : Option Code) = none ∧ (17 : FuncId) = 17 ∧ (82 : Nat) = 82 ∧ [(25 : Nat)] = [(25 : Nat)] ∧ XR = XR ∧ XS = XS) ∧
 Z0 q8
 (Zg 11 [] q7 (Zm q9) (Zm L1) ∧
 Nm t_1 = q10 ∧
 key = q11 ∧
 Z0 (decide (t.num = q12.num))
 (Z0 q13
 (Zf t.ins = Zf q12.ins ∧
 Z0 q13
 (Z0 q15
 (Zn t.outs = Zn q12.outs ∧
 Z0 q15
 (([] : List Int) = [] ∧
 SwC i.fst i.snd ∧
 ∀ (i_1 : Nat),
 let q25 := List.take i_1 (Y3 0 (i.snd i_1));
 let q26 := A q25;
 i_1 ≤ q7 →
 (∀ (j : Nat), j < i_1 → (fun (i : Nat) => XD q14 (List.getD q9 i cl0)) j) →
 (i_1 = q7 →
 Z0 (decide (0 + i_1 ≤ List.length (i.snd i_1)))
 (Z0 (decide (i_1 = List.length q25 ∧ i_1 < 900000000000))
 (Z0 (q26.snd != 0) True
 (Z0 (decide (0 + i_1 ≤ i_1))
 ((∀ (i : Nat), i < i_1 → true = true) ∧
 ∃ (t : TxS),
 (t.num = 0 ∧
 ((i_1 = i_1 ∧ t.N = i_1) ∧
 ∀ (i : Nat),
 let q29 := swI q10 q9 i;
 i < i_1 → [AV.arr u8 32 q29.name, AV.int i64 q29.index, AV.int i64 q29.way, AV.arr u8 32 q29.tag, AV.arr u8 32 q29.also, AV.arr u8 32 q29.secret] = InS.c (t.ins i)) ∧
 ((1 : Nat) = 1 ∧ t.M = 1) ∧ ∀ (i : Nat), i < 1 → ZM [AV.int i64 1, AV.int i64 q26.fst, AV.arr u8 32 q11, q3, q3, q3, AV.int i64 0, AV.int i64 0] 0 132 i = ZF.c (t.outs i)) ∧
 TxS.Ok t ∧ Z0 (ZR A t) False True)
 False))
 False)
 False) ∧
 (i_1 < q7 ∧ ¬XD q14 (List.getD q9 i_1 cl0) → True))
 False)
 False)
 False)
 False)
 False)
 False)
 False)
 False)
 False)
 True) (by kernel_rfl) ?_
 conv => zeta
 try simp only [Zc]
 try simp only [Zi]
 try simp only [Ze]
 try simp only [Zj]
 try simp only [Zk]
 try simp only [Zd]
 try simp only [Int.toNat_natCast, Nat.zero_add, true_and, and_true, Nat.le_refl]
 refine ⟨t, ⟨rfl, ⟨rfl, fun _ _ => rfl⟩, rfl, fun _ _ => rfl⟩, ht, fun hc => ⟨n, L, ⟨rfl, fun _ _ => rfl⟩, ⟨hn.1, hl, hok⟩, fun L1 hp ho => ?_⟩, fun _ => trivial⟩
 have hg := hg hc L1 hp ho
 refine ⟨(⟨t, key, Nm t, L1, n⟩, swV t L1), rfl, rfl, Nat.le_refl _, rfl, ZS fun _ _ => rfl, rfl, rfl, rfl, rfl, rfl, rfl, rfl, rfl, rfl, ⟨hn.2, hM hc, by rw [hp.length_eq]; exact hl, rfl⟩, fun i hi hgo => ⟨fun he => ?_, fun hb => trivial⟩⟩
 have he : i = n := he
 subst he
 have l1 := Z17 t L1 i
 have hdz : List.take i (Y3 0 (swV t L1 i)) = swV t L1 i := by rw [Ye, List.drop_zero, List.take_of_length_le (by omega)]
 show _ ≤ (swV t L1 i).length ∧ _
 rw [show ((⟨t, key, Nm t, L1, i⟩, swV t L1) : SwS × (Nat → List Int)).2 i = swV t L1 i from rfl, hdz]
 have hX : (swX (Nm t) key L1 i (A (swV t L1 i)).1).Ok := Z2A hnm hk (by rw [hp.length_eq]; exact hl) hn.2 (fun m hm => hok m (hp.mem_iff.1 hm))
 refine ⟨by omega, ⟨l1.symm, by omega⟩, fun _ => trivial, fun k1 => ⟨fun _ _ => trivial, swX (Nm t) key L1 i (A (swV t L1 i)).1, ⟨rfl, ⟨rfl, fun _ _ => rfl⟩, rfl, fun j hj => ?_⟩, hX, ?_⟩⟩
 ·have e : j = 0 := by omega
  subst e; rfl
 ·have k1 : (A (swV t L1 i)).2 = 0 := by simpa using k1
  cases k : ZR A (swX (Nm t) key L1 i (A (swV t L1 i)).1) with
  | false => rfl
  | true => exact (hg (A (swV t L1 i)).1 ⟨hgo, Prod.ext rfl k1, k⟩).elim
end Go.Tk
end
section
namespace Go.Tk
open IntKind (i64 u8 u32 u64 wrap)
structure Xi where
 frm : Int
 id : Int
 amount : Int
 hash : List Int
 expiry : Int
def Xi.c (p : Xi) : List AV := [.int .i64 p.frm, .int .i64 p.id, .int .i64 p.amount, .arr .u8 32 p.hash, .int .i64 p.expiry]
def Zjs (g : Nat → Xi) : Nat → List AV := fun i => (g i).c
structure Xi.Ok (p : Xi) : Prop where
 hash : p.hash.length = 32
 hb : Bytes p.hash
def Z0H (p : Xi) : Bool := decide (0 ≤ p.frm ∧ p.frm ≤ 1) && decide (0 ≤ p.id ∧ p.id ≤ 2147483647) && decide (1 ≤ p.amount ∧ p.amount ≤ 1125899906842624) && decide (1 ≤ p.expiry ∧ p.expiry ≤ 2147483647)
def Z7z (p : Xi) : AV := .agg [.arr .i64 2 [p.frm, p.id]]
def shX (a0 a1 : Int) (g : Nat → Xi) (i : Nat) : List Int := a0 :: a1 :: (List.range i).map fun j => (g j).amount
structure ShS where
 num : Int
 owner : Int
 point : List Int
 a0 : Int
 a1 : Int
 n : Nat
 g : Nat → Xi
def ShS.c (s : ShS) : List AV := [.int .i64 s.num, .int .i64 s.owner, .arr .u8 32 s.point, .arr .i64 2 [s.a0, s.a1], .vrows 36 s.n (Zjs s.g) s.n]
def Zcp (g : Nat → Xi) (i : Nat) : Nat := Y2 (fun j => YD (Z7z (g i)) (Z7z (g j))) i
def shM (g : Nat → Xi) : Nat → List Int
 | 0 => [0, 0]
 | i + 1 => (shM g i).set (g i).frm.toNat (i64.wrap ((shM g i).getD (g i).frm.toNat 0 + 1))
theorem Zcq (a0 a1 : Int) (g : Nat → Xi) (i : Nat) : shX a0 a1 g (i + 1) = shX a0 a1 g i ++ [(g i).amount] := by simp [shX, List.range_succ]
theorem ZeF (a0 a1 : Int) (g : Nat → Xi) (i : Nat) : (shX a0 a1 g i).length = i + 2 := by simp [shX]
def Zjt (g : Nat → Xi) (i : Nat) : Prop := Z0H (g i) = true ∧ Zcp g i = i
def shB (A : List Int → Int × Int) (t : W0) (s : ShS) : Bool := Z8o t && decide (0 ≤ s.num ∧ s.num ≤ 2147483647) && decide (0 ≤ s.owner ∧ s.owner ≤ 1) && decide (t.fee ≤ s.a0) && (List.range s.n).all (fun i => Z0H (s.g i) && Nat.beq (Zcp s.g i) i) && decide ((shM s.g s.n).getD 0 0 ≤ 8) && decide ((shM s.g s.n).getD 1 0 ≤ 8) && decide ((A (shX s.a0 s.a1 s.g s.n)).2 = 0) && decide ((A (shX s.a0 s.a1 s.g s.n)).1 = t.cap)
theorem ZeG {A : List Int → Int × Int} {t : W0} {s : ShS} : shB A t s = true ↔ Z8o t = true ∧ (0 ≤ s.num ∧ s.num ≤ 2147483647) ∧ (0 ≤ s.owner ∧ s.owner ≤ 1) ∧ t.fee ≤ s.a0 ∧ (∀ i, i < s.n → Zjt s.g i) ∧ (shM s.g s.n).getD 0 0 ≤ 8 ∧ (shM s.g s.n).getD 1 0 ≤ 8 ∧ (A (shX s.a0 s.a1 s.g s.n)).2 = 0 ∧ (A (shX s.a0 s.a1 s.g s.n)).1 = t.cap := by
 unfold shB
 simp only [Bool.and_eq_true, decide_eq_true_eq, and_assoc, List.all_eq_true, List.mem_range]
 have e : (∀ i, i < s.n → Z0H (s.g i) = true ∧ Nat.beq (Zcp s.g i) i = true) ↔ ∀ i, i < s.n → Zjt s.g i := by
  constructor
  ·intro h i hi; exact ⟨(h i hi).1, Nat.eq_of_beq_eq_true (h i hi).2⟩
  ·intro h i hi; exact ⟨(h i hi).1, by rw [(h i hi).2]; exact Nat.beq_refl _⟩
 rw [e]
end Go.Tk
end
section
namespace Go.Tk
open IntKind (i64 u8 u32 u64 wrap)
end Go.Tk
end
section
namespace Go.Tk
open IntKind (i64 u8 u32 u64 wrap)
end Go.Tk
end
section
namespace Go.Tk
open IntKind (i64 u8 u32 u64 wrap)
end Go.Tk
end
section
namespace Go.Tk
open IntKind (i64 u8 u32 u64 wrap)
structure ShS.Ok (s : ShS) : Prop where
 point : s.point.length = 32
 a0 : -9223372036854775808 ≤ s.a0 ∧ s.a0 < 9223372036854775808
 g : ∀ i, i < s.n → (s.g i).Ok
end Go.Tk
end
section
namespace Go.Tk
open IntKind (i64 u8 u32 u64 wrap)
end Go.Tk
end
section
namespace Go.Tk
open IntKind (i64 u8 u32 u64 wrap)
end Go.Tk
end
section
namespace Go.Tk
open IntKind (i64 u8 u32 u64 wrap)
structure Zcr (L : List Zr) (n : Nat) : Prop where
 ne : L.Pairwise fun a b => a.what ≠ b.what
 lo : ∀ m ∈ L, -2 ≤ m.what ∧ m.what < n
theorem Zcr.at {L : List Zr} {n : Nat} (h : Zcr L n) {i j : Nat} (hj : j < i) (hi : i < L.length) : (L.getD j Yt).what ≠ (L.getD i Yt).what := by
 have := (List.pairwise_iff_getElem.1 h.ne) j i (by omega) hi hj
 rw [List.getD_eq_getElem?_getD, List.getD_eq_getElem?_getD, List.getElem?_eq_getElem hi, List.getElem?_eq_getElem (by omega)]
 exact this
end Go.Tk
end
section
namespace Go.Tk
open IntKind (i64 u8 u32 u64 wrap)
def U5 (s : ShS) : Nat → Int
 | 0 => s.a0 + s.a1
 | i + 1 => U5 s i + (s.g i).amount
def Z8v (g : Nat → Xi) (i k : Nat) : Bool := decide ((g k).frm = (g i).frm) && decide ((g k).id = (g i).id)
theorem Zcs (g : Nat → Xi) (i k : Nat) : YD (Z7z (g i)) (Z7z (g k)) = Z8v g i k := by
 unfold Z7z Z8v
 rw [Bool.eq_iff_iff]
 simp [YD, Uc, QZ]
 constructor
 ·rintro ⟨h1, h2⟩; exact ⟨h1.symm, h2.symm⟩
 ·rintro ⟨h1, h2⟩; exact ⟨h1.symm, h2.symm⟩
theorem Z62 (g : Nat → Xi) (i : Nat) : Zcp g i = i ↔ ∀ k, k < i → Z8v g i k = false := by
 unfold Zcp
 constructor
 ·intro h k hk
  rcases Z45 (fun j => YD (Z7z (g i)) (Z7z (g j))) i with ⟨_, h2⟩ | ⟨h2, _⟩
  ·rw [← Zcs]; exact h2 k hk
  ·omega
 ·intro h
  exact Z0s fun j hj => by rw [Zcs]; exact h j hj
structure Zju (t : W0) (s : ShS) (i : Nat) : Prop where
 p : Z0H (s.g i) = true
 sum : U5 s i ≤ t.cap
 dup : ∀ k, k < i → Z8v s.g i k = false
theorem Z3I {p : Xi} (h : Z0H p = true) : 0 < p.amount ∧ p.amount ≤ 1125899906842624 ∧ (p.frm = 0 ∨ p.frm = 1) := by
 unfold Z0H at h
 simp only [Bool.and_eq_true, decide_eq_true_eq] at h
 omega
theorem Z2B (s : ShS) : ∀ {i n : Nat}, i ≤ n → (∀ j, j < n → Z0H (s.g j) = true) → U5 s i ≤ U5 s n
 | i, 0, h, _ => by
  have : i = 0 := by omega
  subst this; exact Int.le_refl _
 | i, n + 1, h, hp => by
  rcases Nat.lt_or_ge n i with h1 | h1
  ·have : i = n + 1 := by omega
   subst this; exact Int.le_refl _
  ·have := Z2B s h1 (fun j hj => hp j (by omega))
   have h2 := Z3I (hp n (by omega))
   simp only [U5]
   omega
theorem Z18 (s : ShS) : ∀ n, (shX s.a0 s.a1 s.g n).sum = U5 s n
 | 0 => by simp [shX, U5]
 | n + 1 => by
  rw [Zcq, List.sum_append, Z18 s n]
  simp [U5]
theorem ZeH (a0 a1 : Int) (g : Nat → Xi) (n : Nat) : (∀ j, j < n + 2 → ZZ 1125899906842624 (shX a0 a1 g n) j = false) ↔ (0 ≤ a0 ∧ a0 ≤ 1125899906842624) ∧ (0 ≤ a1 ∧ a1 ≤ 1125899906842624) ∧ ∀ i, i < n → (0 ≤ (g i).amount ∧ (g i).amount ≤ 1125899906842624) := by
 have e : ∀ j, ZZ 1125899906842624 (shX a0 a1 g n) (j + 2) = XL 1125899906842624 (((List.range n).map fun j => (g j).amount).getD j 0) := fun j => by
  unfold ZZ shX; simp
 have e0 : ZZ 1125899906842624 (shX a0 a1 g n) 0 = XL 1125899906842624 a0 := by unfold ZZ shX; simp
 have e1 : ZZ 1125899906842624 (shX a0 a1 g n) 1 = XL 1125899906842624 a1 := by unfold ZZ shX; simp
 have ov : ∀ x, XL 1125899906842624 x = false ↔ 0 ≤ x ∧ x ≤ 1125899906842624 := fun x => by
  unfold XL; rw [decide_eq_false_iff_not]; omega
 have eg : ∀ j, j < n → ((List.range n).map fun j => (g j).amount).getD j 0 = (g j).amount := fun j hj => by
  simp [List.getD_eq_getElem?_getD, hj]
 constructor
 ·intro h
  refine ⟨(ov _).1 (e0 ▸ h 0 (by omega)), (ov _).1 (e1 ▸ h 1 (by omega)), fun i hi => ?_⟩
  have := h (i + 2) (by omega)
  rw [e, eg i hi] at this
  exact (ov _).1 this
 ·rintro ⟨h1, h2, h3⟩ j hj
  match j with
  | 0 => rw [e0]; exact (ov _).2 h1
  | 1 => rw [e1]; exact (ov _).2 h2
  | j + 2 => rw [e, eg j (by omega)]; exact (ov _).2 (h3 j (by omega))
theorem Z8w (a0 a1 : Int) (g : Nat → Xi) (n : Nat) : allIn 1125899906842624 (shX a0 a1 g n) = true ↔ (0 ≤ a0 ∧ a0 ≤ 1125899906842624) ∧ (0 ≤ a1 ∧ a1 ≤ 1125899906842624) ∧ ∀ i, i < n → (0 ≤ (g i).amount ∧ (g i).amount ≤ 1125899906842624) := by
 rw [← ZeH]
 unfold allIn
 rw [Bool.not_eq_true', List.any_eq_false]
 simp only [List.mem_range, ZeF, Bool.not_eq_true]
theorem ZeI {t : W0} {s : ShS} : shB Y0 t s = true ↔ Z8o t = true ∧ (0 ≤ s.num ∧ s.num ≤ 2147483647) ∧ (0 ≤ s.owner ∧ s.owner ≤ 1) ∧ (0 ≤ s.a0 ∧ s.a0 ≤ 1125899906842624) ∧ (0 ≤ s.a1 ∧ s.a1 ≤ 1125899906842624) ∧ t.fee ≤ s.a0 ∧ (∀ i, i < s.n → Zju t s i) ∧ U5 s s.n = t.cap ∧ (shM s.g s.n).getD 0 0 ≤ 8 ∧ (shM s.g s.n).getD 1 0 ≤ 8 := by
 rw [ZeG]
 constructor
 ·rintro ⟨h1, h2, h3, h4, h5, h6, h7, h8, h9⟩
  unfold Y0 at h8 h9
  by_cases ha : allIn 1125899906842624 (shX s.a0 s.a1 s.g s.n) = true
  ·rw [if_pos ha] at h8 h9
   by_cases hb : (shX s.a0 s.a1 s.g s.n).sum ≤ 1125899906842624
   ·rw [if_pos hb] at h9
    obtain ⟨a1, a2, a3⟩ := (Z8w _ _ _ _).1 ha
    rw [Z18] at h9
    have h9 : U5 s s.n = t.cap := h9
    exact ⟨h1, h2, h3, a1, a2, h4, fun i hi => ⟨(h5 i hi).1, by have := Z2B s (Nat.le_of_lt hi) (fun j hj => (h5 j hj).1); omega, (Z62 _ _).1 (h5 i hi).2⟩, h9, h6, h7⟩
   ·rw [if_neg hb] at h8; simp at h8
  ·rw [if_neg ha] at h8; simp at h8
 ·rintro ⟨h1, h2, h3, a1, a2, h4, h5, h9, h6, h7⟩
  have ha : allIn 1125899906842624 (shX s.a0 s.a1 s.g s.n) = true := (Z8w _ _ _ _).2 ⟨a1, a2, fun i hi => by have := Z3I (h5 i hi).p; omega⟩
  have hc : t.cap ≤ 1125899906842624 := by
   unfold Z8o at h1
   simp only [Bool.and_eq_true, decide_eq_true_eq] at h1
   omega
  have hb : (shX s.a0 s.a1 s.g s.n).sum ≤ 1125899906842624 := by rw [Z18]; omega
  refine ⟨h1, h2, h3, h4, fun i hi => ⟨(h5 i hi).p, (Z62 _ _).2 (h5 i hi).dup⟩, h6, h7, ?_, ?_⟩
  ·unfold Y0; rw [if_pos ha, if_pos hb]
  ·unfold Y0; rw [if_pos ha, if_pos hb]; show (shX s.a0 s.a1 s.g s.n).sum = _; rw [Z18, h9]
end Go.Tk
end
section
namespace Go.Tk
open IntKind (i64 u8 u32 u64 wrap)
end Go.Tk
end
section
namespace Go.Tk
open IntKind (i64 u8 u32 u64 wrap)
end Go.Tk
end
section
namespace Go.Tk
open IntKind (i64 u8 u32 u64 wrap)
end Go.Tk
end
section
namespace Go.Tk
open IntKind (i64 u8 u32 u64 wrap)
def Zky (t : W0) (s : ShS) (M : List Int) (i : Nat) : Z7 := ⟨4, [(0, .flat t.c), (1, .flat s.c), (2, .flat [.arr .i64 2 M]), (3, .flat (s.g i).c)]⟩
def rs2 (t : W0) (s : ShS) (M : List Int) (i k : Nat) : St := ⟨132, [(9, .int .i64 k), (7, .int .i64 i), (3, .ptr (some ⟨1, 0, 0, 0, 0⟩)), (8, .ptr (some ⟨3, 0, 0, 0, 0⟩)), (6, .ptr (some ⟨2, 0, 0, 0, 0⟩)), (5, .int .i64 (U5 s i)), (2, .ptr (some ⟨0, 0, 0, 0, 0⟩))], Zky t s M i, []⟩
end Go.Tk
end
section
namespace Go.Tk
open IntKind (i64 u8 u32 u64 wrap)
end Go.Tk
end
section
namespace Go.Tk
open IntKind (i64 u8 u32 u64 wrap)
structure HoC (t : W0) (s : ShS) : Prop where
 ht : t.Ok
 hf : t.fund.length = 32
 hs : s.Ok
 hn : s.n ≤ 20
 hb : shB Y0 t s = true
theorem HoC.pend {t : W0} {s : ShS} (h : HoC t s) {i : Nat} (hi : i < s.n) : Z0H (s.g i) = true := ((ZeI.1 h.hb).2.2.2.2.2.2.1 i hi).p
theorem ZeJ {xs : List Int} (h1 : ∀ x ∈ xs, 0 ≤ x ∧ x ≤ 1125899906842624) (h2 : xs.sum ≤ 1125899906842624) : Y0 xs = (xs.sum, 0) := by
 have : allIn 1125899906842624 xs = true := by
  unfold allIn
  rw [Bool.not_eq_true', List.any_eq_false]
  intro j hj
  have hj : j < xs.length := by simpa using hj
  unfold ZZ XL
  rw [List.getD_eq_getElem?_getD, List.getElem?_eq_getElem hj]
  have := h1 _ (List.getElem_mem hj)
  simp; omega
 unfold Y0
 rw [if_pos this, if_pos h2]
end Go.Tk
end
section
namespace Go.Tk
open IntKind (i64 u8 u32 u64 wrap)
def atP (L : List ClS) (p : Nat) : List ClS := L.filter fun c => decide (c.index = (p : Int))
def dwL (L : List ClS) : Nat → List ClS
 | 0 => []
 | m + 1 => dwL L m ++ atP L m
def inM (m : Nat) (c : ClS) : Bool := decide (0 ≤ c.index ∧ c.index < (m : Int))
theorem U6 (L : List ClS) : ∀ m, (dwL L m).Perm (L.filter (inM m))
 | 0 => by
  have : L.filter (inM 0) = [] := by
   rw [List.filter_eq_nil_iff]
   intro c _
   unfold inM
   simp
  rw [this]
  exact .refl _
 | m + 1 => by
  have ih := U6 L m
  show (dwL L m ++ atP L m).Perm _
  refine (ih.append_right _).trans ?_
  have e1 : L.filter (inM m) = (L.filter (inM (m + 1))).filter (inM m) := by
   rw [List.filter_filter]
   congr 1
   funext c
   unfold inM
   rw [← Bool.decide_and, decide_eq_decide]
   omega
  have e2 : atP L m = (L.filter (inM (m + 1))).filter (fun c => !inM m c) := by
   rw [List.filter_filter]
   unfold atP
   congr 1
   funext c
   unfold inM
   rw [← decide_not, ← Bool.decide_and, decide_eq_decide]
   omega
  rw [e1, e2]
  exact List.filter_append_perm _ _
theorem Ut {L : List ClS} {m : Nat} {c : ClS} : c ∈ dwL L m ↔ c ∈ L ∧ 0 ≤ c.index ∧ c.index < (m : Int) := by
 rw [(U6 L m).mem_iff, List.mem_filter]
 unfold inM
 rw [decide_eq_true_eq]
theorem Zct {α : Type} {R : α → α → Prop} : ∀ {l : List α}, (∀ x ∈ l, ∀ y ∈ l, R x y) → l.Pairwise R
 | [], _ => .nil
 | _ :: _, h => .cons (fun y hy => h _ (List.mem_cons_self ..) y (List.mem_cons_of_mem _ hy)) (Zct fun x hx y hy => h x (List.mem_cons_of_mem _ hx) y (List.mem_cons_of_mem _ hy))
theorem Z4K (L : List ClS) : ∀ m, Xe ltC (dwL L m)
 | 0 => .nil
 | m + 1 => by
  show List.Pairwise _ (dwL L m ++ atP L m)
  rw [List.pairwise_append]
  refine ⟨Z4K L m, ?_, fun x hx y hy => ?_⟩
  ·refine Zct fun x hx y hy => ?_
   have h1 := (List.mem_filter.1 hx).2
   have h2 := (List.mem_filter.1 hy).2
   simp only [decide_eq_true_eq] at h1 h2
   unfold ltC
   rw [decide_eq_false_iff_not]; omega
  ·have h1 := (Ut.1 hx).2.2
   have h2 := (List.mem_filter.1 hy).2
   simp only [decide_eq_true_eq] at h2
   unfold ltC
   rw [decide_eq_false_iff_not]; omega
theorem ZeK {L : List ClS} {m : Nat} (h : (dwL L m).length = L.length) : (dwL L m).Perm L ∧ ∀ c ∈ L, 0 ≤ c.index ∧ c.index < (m : Int) := by
 have hp := U6 L m
 have hl : (L.filter (inM m)).length = L.length := by rw [← hp.length_eq, h]
 have ha := List.length_filter_eq_length_iff.1 hl
 rw [List.filter_eq_self.2 ha] at hp
 refine ⟨hp, fun c hc => ?_⟩
 have := ha c hc
 unfold inM at this
 exact of_decide_eq_true this
theorem Zhc {L : List ClS} {m : Nat} (h : ∀ c ∈ L, 0 ≤ c.index ∧ c.index < (m : Int)) : (dwL L m).Perm L := by
 have hp := U6 L m
 rwa [List.filter_eq_self.2 fun c hc => by unfold inM; exact decide_eq_true (h c hc)] at hp
def Z7A (L : List ClS) : Prop := ∀ i j, i < L.length → j < i → (L.getD j cl0).index ≠ (L.getD i cl0).index
theorem Z7A.eq {L : List ClS} (h : Z7A L) {a b : ClS} (ha : a ∈ L) (hb : b ∈ L) (he : a.index = b.index) : a = b := by
 obtain ⟨i, hi, rfl⟩ := List.mem_iff_getElem.1 ha
 obtain ⟨j, hj, rfl⟩ := List.mem_iff_getElem.1 hb
 have g1 : L.getD i cl0 = L[i] := by rw [List.getD_eq_getElem?_getD, List.getElem?_eq_getElem hi]; rfl
 have g2 : L.getD j cl0 = L[j] := by rw [List.getD_eq_getElem?_getD, List.getElem?_eq_getElem hj]; rfl
 rcases Nat.lt_trichotomy i j with k | k | k
 ·exact absurd (by rw [g1, g2]; exact he) (h j i hj k)
 ·subst k; rfl
 ·exact absurd (by rw [g1, g2]; exact he.symm) (h i j hi k)
theorem Z7A.one {L L1 : List ClS} (h : Z7A L) (ho : Xe ltC L) (hp : L1.Perm L) (ho1 : Xe ltC L1) : L1 = L :=
 (Z0G hp.symm ho ho1 fun a ha b hb h1 h2 => h.eq ha hb (by
  unfold ltC at h1 h2
  rw [decide_eq_false_iff_not] at h1 h2
  omega)).symm
theorem QP {t : TxS} (h : ZR Y0 t = true) : (1 ≤ t.N ∧ t.N ≤ 24) ∧ (1 ≤ t.M ∧ t.M ≤ 24) ∧ (∀ i j, i < t.N → j < i → sameAt t.ins (t.ins i) j = false) ∧ ∀ j, j < t.M → ZG (t.outs j) = true := by
 rw [← Z0i] at h
 unfold X4 at h
 simp only [Bool.and_eq_true, decide_eq_true_eq, List.all_eq_true, List.mem_range] at h
 obtain ⟨⟨⟨⟨⟨h1, h2⟩, h3⟩, h4⟩, h5⟩, h6⟩ := h
 refine ⟨h2, h3, fun i j hi hj => ?_, h5⟩
 have h := h4 i hi
 unfold okI at h
 simp only [Bool.and_eq_true, Bool.not_eq_true', List.any_eq_false, List.mem_range, Bool.not_eq_true] at h
 exact h.2 j hj
def YK (t : TxS) (L : List ClS) : Int := L.foldl (fun s c => i64.wrap (s + (t.outs c.index.toNat).amount)) 0
theorem Z9S (t : TxS) (L : List ClS) (c : ClS) : YK t (L ++ [c]) = i64.wrap (YK t L + (t.outs c.index.toNat).amount) := by
 unfold YK
 rw [List.foldl_append]
 rfl
def amC (t : TxS) (L : List ClS) : List Int := L.map fun c => (t.outs c.index.toNat).amount
theorem Z8x (t : TxS) (L : List ClS) : swV t L L.length = amC t L := by
 unfold swV amC
 refine List.ext_getElem (by simp) fun i h1 h2 => ?_
 have hi : i < L.length := by simpa using h1
 simp only [List.getElem_map, List.getElem_range]
 rw [List.getD_eq_getElem?_getD, List.getElem?_eq_getElem hi]
 rfl
theorem Z8y {t : TxS} : ∀ (L : List ClS) (s : Int), (∀ c ∈ L, 0 ≤ (t.outs c.index.toNat).amount ∧ (t.outs c.index.toNat).amount ≤ 1125899906842624) → 0 ≤ s → s + L.length * 1125899906842624 < 9223372036854775808 → L.foldl (fun s c => i64.wrap (s + (t.outs c.index.toNat).amount)) s = s + (amC t L).sum
 | [], s, _, _, _ => by simp [amC]
 | c :: r, s, h, h0, hb => by
  have hc := h c (List.mem_cons_self ..)
  simp only [List.length_cons] at hb
  simp only [List.foldl_cons]
  have hw : i64.wrap (s + (t.outs c.index.toNat).amount) = s + (t.outs c.index.toNat).amount := w64 (by omega)
  rw [hw, Z8y r _ (fun c hc => h c (List.mem_cons_of_mem _ hc)) (by omega) (by omega)]
  simp only [amC, List.map_cons, List.sum_cons]
  omega
theorem Z8z {t : TxS} {L : List ClS} (h : ∀ c ∈ L, 0 ≤ (t.outs c.index.toNat).amount ∧ (t.outs c.index.toNat).amount ≤ 1125899906842624) (hl : L.length ≤ 30) : YK t L = (amC t L).sum := by
 unfold YK
 rw [Z8y L 0 h (by omega) (by omega)]
 omega
structure XT (Nm : TxS → List Int) (t : TxS) (key : List Int) (L : List ClS) (n : Nat) : Prop where
 n1 : 1 ≤ n
 n2 : n ≤ 24
 way : ∀ c ∈ L, c.way ≠ 1
 len : (dwL L t.M).length = n
 ck : ZR Y0 (swX (Nm t) key (dwL L t.M) n (YK t (dwL L t.M))) = true
theorem Z8A {nm key : List Int} {L : List ClS} {sum : Int} (h : ZR Y0 (swX nm key L L.length sum) = true) : Z7A L := fun i j hi hj he => by
 have := (QP h).2.2.1 i j hi hj
 have h2 : sameAt (swX nm key L L.length sum).ins ((swX nm key L L.length sum).ins i) j = true := Qk.2 ⟨rfl, he⟩
 rw [h2] at this; cases this
theorem Zcu {t : TxS} (h : ZR Y0 t = true) {c : ClS} (hc : 0 ≤ c.index ∧ c.index < (t.M : Int)) : 0 ≤ (t.outs c.index.toNat).amount ∧ (t.outs c.index.toNat).amount ≤ 1125899906842624 := by
 have := (Yp ((QP h).2.2.2 c.index.toNat (by omega))).2.1
 omega
theorem Zhd {Nm : TxS → List Int} {t : TxS} {key : List Int} {L : List ClS} {n : Nat} (ht : ZR Y0 t = true) (hl : L.length = n) (h : XT Nm t key L n) : (∀ L1, L1.Perm L → Xe ltC L1 → L1 = dwL L t.M) ∧ ZeE Y0 Nm t key (dwL L t.M) n (YK t (dwL L t.M)) := by
 obtain ⟨h1, h2, h3, h4, h5⟩ := h
 obtain ⟨hp, hr⟩ := ZeK (show (dwL L t.M).length = L.length by rw [h4, hl])
 have hs : Z7A (dwL L t.M) := by
  rw [← h4] at h5
  exact Z8A h5
 have hb : ∀ c ∈ dwL L t.M, 0 ≤ (t.outs c.index.toNat).amount ∧ (t.outs c.index.toNat).amount ≤ 1125899906842624 := fun c hc => Zcu ht (Ut.1 hc).2
 have hw := Z8z hb (by omega)
 refine ⟨fun L1 p1 o1 => hs.one (Z4K L t.M) (p1.trans hp.symm) o1, fun i hi => ?_, ?_, h5⟩
 ·have hm : (dwL L t.M).getD i cl0 ∈ dwL L t.M := by
   rw [List.getD_eq_getElem?_getD, List.getElem?_eq_getElem (show i < (dwL L t.M).length by omega)]
   exact List.getElem_mem _
  have := Ut.1 hm
  exact ⟨this.2.1, by omega, h3 _ this.1⟩
 ·have e : swV t (dwL L t.M) n = amC t (dwL L t.M) := by
   rw [← h4]; exact Z8x _ _
  rw [e, hw]
  refine ZeJ (fun x hx => ?_) ?_
  ·obtain ⟨c, hc, rfl⟩ := List.mem_map.1 hx
   exact hb c hc
  ·have := (Yp ((QP h5).2.2.2 0 (by show 0 < 1; decide))).2.1.2
   rw [← hw]; exact this
theorem Z7B {xs : List Int} {s : Int} (h : Y0 xs = (s, 0)) : s = xs.sum := by
 unfold Y0 at h
 split at h
 ·split at h
  ·exact (Prod.ext_iff.1 h).1.symm
  ·simp at h
 ·simp at h
theorem Zhe {Nm : TxS → List Int} {t : TxS} {key : List Int} {L L1 : List ClS} {n : Nat} {sum : Int} (ht : ZR Y0 t = true) (hl : L.length = n) (hp : L1.Perm L) (ho : Xe ltC L1) (h : ZeE Y0 Nm t key L1 n sum) : XT Nm t key L n := by
 obtain ⟨h1, h2, h3⟩ := h
 have l1 : L1.length = n := by rw [hp.length_eq, hl]
 have hn := (QP h3).1
 have hg : ∀ c ∈ L1, XD t.M c := fun c hc => by
  obtain ⟨i, hi, rfl⟩ := List.mem_iff_getElem.1 hc
  have := h1 i (by omega)
  rwa [List.getD_eq_getElem?_getD, List.getElem?_eq_getElem hi] at this
 have hL : ∀ c ∈ L, XD t.M c := fun c hc => hg c (hp.mem_iff.2 hc)
 have hd := Zhc (L := L) (m := t.M) fun c hc => ⟨(hL c hc).1, by have := (hL c hc).2.1; omega⟩
 have hs : Z7A L1 := by
  rw [← l1] at h3
  exact Z8A h3
 have e : dwL L t.M = L1 := hs.one ho (hd.trans hp.symm) (Z4K L t.M)
 refine ⟨hn.1, hn.2, fun c hc => (hL c hc).2.2, by rw [e, l1], ?_⟩
 have hw := Z8z (t := t) (L := L1) (fun c hc => Zcu ht ⟨(hg c hc).1, by have := (hg c hc).2.1; omega⟩) (by have := hn.2; show _ ≤ 30; have : n ≤ 24 := hn.2; omega)
 have e2 : swV t L1 n = amC t L1 := by
  rw [← l1]; exact Z8x _ _
 rw [e2] at h2
 rw [e, hw, ← Z7B h2]
 exact h3
end Go.Tk
end
section
namespace Go.Tk
open IntKind (i64 u8 u32 u64 wrap)
def sg {α : Type} (g : Nat → α) : Nat → Nat → List α
 | _, 0 => []
 | a, k + 1 => g a :: sg g (a + 1) k
theorem Zcv {α : Type} {g : Nat → α} : ∀ {k a : Nat}, (sg g a k).length = k
 | 0, _ => rfl
 | k + 1, a => by simp [sg, Zcv (k := k)]
theorem Z2C {α : Type} {g : Nat → α} {l : Nat} : ∀ {k a : Nat}, sg g a (k + l) = sg g a k ++ sg g (a + k) l
 | 0, a => by simp [sg]
 | k + 1, a => by
  rw [show k + 1 + l = (k + l) + 1 by omega]
  simp only [sg, List.cons_append]
  rw [Z2C (k := k), show a + 1 + k = a + (k + 1) by omega]
theorem QQ {α : Type} {g f : Nat → α} : ∀ {k a b : Nat}, (∀ i, i < k → g (a + i) = f (b + i)) → sg g a k = sg f b k
 | 0, _, _, _ => rfl
 | k + 1, a, b, h => by
  simp only [sg]
  rw [show g a = f b from h 0 (by omega), QQ (k := k) (a := a + 1) (b := b + 1) fun i hi => by
   have := h (i + 1) (by omega)
   rwa [show a + (i + 1) = a + 1 + i by omega, show b + (i + 1) = b + 1 + i by omega] at this]
theorem Z4L {α : Type} {g : Nat → α} {x : α} : ∀ {k a : Nat}, x ∈ sg g a k ↔ ∃ i, a ≤ i ∧ i < a + k ∧ g i = x
 | 0, a => by
  simp only [sg, List.not_mem_nil, false_iff]
  rintro ⟨i, h1, h2, _⟩; omega
 | k + 1, a => by
  simp only [sg, List.mem_cons, Z4L (k := k)]
  constructor
  ·rintro (h | ⟨i, h1, h2, h3⟩)
   ·exact ⟨a, by omega, by omega, h.symm⟩
   ·exact ⟨i, by omega, by omega, h3⟩
  ·rintro ⟨i, h1, h2, h3⟩
   by_cases h : i = a
   ·exact .inl (by rw [← h3, h])
   ·exact .inr ⟨i, by omega, by omega, h3⟩
theorem Zcw {α : Type} {lt : α → α → Bool} {g : Nat → α} : ∀ {k a : Nat}, (∀ i j, a ≤ i → i < j → j < a + k → lt (g j) (g i) = false) → Xe lt (sg g a k)
 | 0, _, _ => .nil
 | k + 1, a, h => .cons (fun y hy => by
   obtain ⟨i, h1, h2, rfl⟩ := Z4L.1 hy
   exact h a i (by omega) (by omega) (by omega)) (Zcw fun i j h1 h2 h3 => h i j (by omega) h2 (by omega))
def OnO {α : Type} (lt : α → α → Bool) (g : Nat → α) (a b : Nat) : Prop := ∀ i j, a ≤ i → i < j → j < b → lt (g j) (g i) = false
theorem OnO.cat {α : Type} {lt : α → α → Bool} {g : Nat → α} {a s b : Nat} (h1 : OnO lt g a s) (h2 : OnO lt g s b) (h : ∀ i j, a ≤ i → i < s → s ≤ j → j < b → lt (g j) (g i) = false) : OnO lt g a b := fun i j k1 k2 k3 => by
 by_cases c1 : j < s
 ·exact h1 i j k1 k2 c1
 ·by_cases c2 : s ≤ i
  ·exact h2 i j c2 k2 k3
  ·exact h i j k1 (by omega) (by omega) k3
theorem OnO.sub {α : Type} {lt : α → α → Bool} {g : Nat → α} {a b c d : Nat} (h : OnO lt g a b) (h1 : a ≤ c) (h2 : d ≤ b) : OnO lt g c d := fun i j k1 k2 k3 => h i j (by omega) k2 (by omega)
theorem OnO.one {α : Type} {lt : α → α → Bool} {g : Nat → α} {a b : Nat} (h : b ≤ a + 1) : OnO lt g a b := fun i j k1 k2 k3 => by omega
theorem OnO.shift {α : Type} {lt : α → α → Bool} {f g : Nat → α} {a b c d : Nat} (h : OnO lt f a b) (hl : d - c ≤ b - a) (he : ∀ k, c ≤ k → k < d → g k = f (k - c + a)) : OnO lt g c d := fun i j k1 k2 k3 => by
 rw [he i k1 (by omega), he j (by omega) k3]
 exact h _ _ (by omega) (by omega) (by omega)
def Yb {α : Type} (g : Nat → α) (a m b k : Nat) : α := if a ≤ k ∧ k < b then if k < a + (b - m) then g (k - a + m) else g (k - (b - m)) else g k
theorem Z63 {α : Type} {g : Nat → α} {m b : Nat} : Yb g m m b = g := by
 funext k
 unfold Yb
 split
 ·split
  ·congr 1; omega
  ·omega
 ·rfl
theorem Z64 {α : Type} {g : Nat → α} {a m : Nat} : Yb g a m m = g := by
 funext k
 unfold Yb
 split
 ·split
  ·omega
  ·congr 1; omega
 ·rfl
structure Prm {α : Type} (g : Nat → α) (a b : Nat) (f : Nat → α) : Prop where
 out : ∀ k, ¬ (a ≤ k ∧ k < b) → f k = g k
 perm : (sg f a (b - a)).Perm (sg g a (b - a))
theorem Prm.refl {α : Type} (g : Nat → α) (a b : Nat) : Prm g a b g := ⟨fun _ _ => rfl, .refl _⟩
theorem Prm.trans {α : Type} {g f e : Nat → α} {a b : Nat} (h1 : Prm g a b f) (h2 : Prm f a b e) : Prm g a b e :=
 ⟨fun k hk => (h2.out k hk).trans (h1.out k hk), h2.perm.trans h1.perm⟩
theorem Prm.wide {α : Type} {g f : Nat → α} {a b c d : Nat} (h : Prm g a b f) (h1 : c ≤ a) (h2 : a ≤ b) (h3 : b ≤ d) : Prm g c d f := by
 refine ⟨fun k hk => h.out k (by omega), ?_⟩
 have e : ∀ x : Nat → α, sg x c (d - c) = sg x c (a - c) ++ (sg x a (b - a) ++ sg x b (d - b)) := fun x => by
  rw [show d - c = (a - c) + ((b - a) + (d - b)) by omega, Z2C, Z2C, show c + (a - c) = a by omega, show a + (b - a) = b by omega]
 rw [e, e, QQ (g := f) (f := g) (k := a - c) (a := c) (b := c) fun i hi => h.out _ (by omega), QQ (g := f) (f := g) (k := d - b) (a := b) (b := b) fun i hi => h.out _ (by omega)]
 exact (List.Perm.refl _).append (h.perm.append (.refl _))
theorem Prm.mem {α : Type} {g f : Nat → α} {a b : Nat} (h : Prm g a b f) {k : Nat} (h1 : a ≤ k) (h2 : k < b) : ∃ i, a ≤ i ∧ i < b ∧ g i = f k := by
 have : f k ∈ sg g a (b - a) := h.perm.mem_iff.1 (Z4L.2 ⟨k, h1, by omega, rfl⟩)
 obtain ⟨i, k1, k2, k3⟩ := Z4L.1 this
 exact ⟨i, k1, by omega, k3⟩
theorem Z2D {α : Type} {g : Nat → α} {a m b : Nat} (h1 : a ≤ m) (h2 : m ≤ b) : Prm g a b (Yb g a m b) := by
 refine ⟨fun k hk => by unfold Yb; rw [if_neg hk], ?_⟩
 have e1 : sg (Yb g a m b) a (b - a) = sg g m (b - m) ++ sg g a (m - a) := by
  have q1 : sg (Yb g a m b) a (b - m) = sg g m (b - m) := QQ fun i hi => by
   show (if a ≤ a + i ∧ a + i < b then if a + i < a + (b - m) then g (a + i - a + m) else g (a + i - (b - m)) else g (a + i)) = _
   rw [if_pos (by omega), if_pos (by omega)]
   congr 1; omega
  have q2 : sg (Yb g a m b) (a + (b - m)) (m - a) = sg g a (m - a) := QQ fun i hi => by
   show (if a ≤ a + (b - m) + i ∧ a + (b - m) + i < b then if a + (b - m) + i < a + (b - m) then g (a + (b - m) + i - a + m) else g (a + (b - m) + i - (b - m)) else g (a + (b - m) + i)) = _
   rw [if_pos (by omega), if_neg (by omega)]
   congr 1; omega
  rw [show b - a = (b - m) + (m - a) by omega, Z2C, q1, q2]
 have e2 : sg g a (b - a) = sg g a (m - a) ++ sg g m (b - m) := by
  rw [show b - a = (m - a) + (b - m) by omega, Z2C, show a + (m - a) = m by omega]
 rw [e1, e2]
 exact List.perm_append_comm
def bsN (P : Nat → Bool) (p : Nat × Nat) : Nat × Nat := if p.1 < p.2 then if P ((p.1 + p.2) / 2) = true then ((p.1 + p.2) / 2 + 1, p.2) else (p.1, (p.1 + p.2) / 2) else p
def bsT (P : Nat → Bool) (p : Nat × Nat) : Nat → Nat × Nat
 | 0 => p
 | t + 1 => bsN P (bsT P p t)
def bsR (P : Nat → Bool) (i j : Nat) : Nat := (bsT P (i, j) (j - i)).1
structure BsI (P : Nat → Bool) (i j : Nat) (p : Nat × Nat) : Prop where
 lo : i ≤ p.1
 mid : p.1 ≤ p.2
 hi : p.2 ≤ j
 yes : i < p.1 → P (p.1 - 1) = true
 no : p.2 < j → P p.2 = false
theorem QR {P : Nat → Bool} {i j : Nat} (h : i ≤ j) : ∀ t, BsI P i j (bsT P (i, j) t)
 | 0 => ⟨Nat.le_refl _, h, Nat.le_refl _, fun h => absurd h (Nat.lt_irrefl _), fun h => absurd h (Nat.lt_irrefl _)⟩
 | t + 1 => by
  have ih := QR (P := P) h t
  show BsI P i j (bsN P (bsT P (i, j) t))
  obtain ⟨h1, h2, h3, h4, h5⟩ := ih
  generalize bsT P (i, j) t = p at *
  unfold bsN
  split
  ·split
   ·exact ⟨by show i ≤ _ + 1; omega, by show _ + 1 ≤ p.2; omega, h3, fun _ => by simpa using ‹P _ = true›, h5⟩
   ·exact ⟨h1, by show p.1 ≤ _ / 2; omega, by show _ / 2 ≤ j; omega, h4, fun _ => by simpa using ‹¬ P _ = true›⟩
  ·exact ⟨h1, h2, h3, h4, h5⟩
theorem Z7C {P : Nat → Bool} {i j : Nat} : ∀ t, (bsT P (i, j) t).2 - (bsT P (i, j) t).1 ≤ j - i - t
 | 0 => Nat.le_refl _
 | t + 1 => by
  have ih := Z7C (P := P) (i := i) (j := j) t
  show (bsN P _).2 - (bsN P _).1 ≤ _
  generalize bsT P (i, j) t = p at *
  unfold bsN
  split
  ·split
   ·show p.2 - ((p.1 + p.2) / 2 + 1) ≤ _; omega
   ·show (p.1 + p.2) / 2 - p.1 ≤ _; omega
  ·omega
theorem Z65 {P : Nat → Bool} {i j t : Nat} (h : ¬ (bsT P (i, j) t).1 < (bsT P (i, j) t).2) : ∀ s, bsT P (i, j) (t + s) = bsT P (i, j) t
 | 0 => rfl
 | s + 1 => by
  show bsN P (bsT P (i, j) (t + s)) = _
  rw [Z65 h s]
  unfold bsN
  rw [if_neg h]
theorem Z7D {P : Nat → Bool} {i j t : Nat} (ht : t ≤ j - i) (h : ¬ (bsT P (i, j) t).1 < (bsT P (i, j) t).2) : (bsT P (i, j) t).1 = bsR P i j := by
 unfold bsR
 have := Z65 h (j - i - t)
 rw [show t + (j - i - t) = j - i by omega] at this
 rw [this]
theorem XE {P : Nat → Bool} {i j : Nat} (h : i ≤ j) : (i ≤ bsR P i j ∧ bsR P i j ≤ j) ∧ (i < bsR P i j → P (bsR P i j - 1) = true) ∧ (bsR P i j < j → P (bsR P i j) = false) := by
 unfold bsR
 have h1 := QR (P := P) h (j - i)
 have h2 := Z7C (P := P) (i := i) (j := j) (j - i)
 generalize bsT P (i, j) (j - i) = p at *
 obtain ⟨k1, k2, k3, k4, k5⟩ := h1
 have e : p.2 = p.1 := by omega
 rw [e] at k5 k3
 exact ⟨⟨k1, k3⟩, k4, k5⟩
def UC {α : Type} (lt : α → α → Bool) (g : Nat → α) (a m b : Nat) : Nat :=
 if (a + b) / 2 < m then bsR (fun c => !lt (g ((a + b) / 2 + m - 1 - c)) (g c)) ((a + b) / 2 + m - b) ((a + b) / 2) else bsR (fun c => !lt (g ((a + b) / 2 + m - 1 - c)) (g c)) a m
def QS {α : Type} (F : (Nat → α) → Nat → Nat → Nat → Nat → α) (g : Nat → α) (a s c : Nat) : Nat → α := if a < s ∧ s < c then F g a s c else g
def Z7E {α : Type} (F : (Nat → α) → Nat → Nat → Nat → Nat → α) (g : Nat → α) (a m b c s : Nat) : Nat → α := QS F (QS F (Yb g s m (c + m - s)) a s c) c (c + m - s) b
def Xs {α : Type} (lt : α → α → Bool) : Nat → (Nat → α) → Nat → Nat → Nat → Nat → α
 | 0, g, _, _, _ => g
 | d + 1, g, a, m, b =>
  if m - a = 1 then Yb g a m (bsR (fun h => lt (g h) (g a)) m b)
  else if b - m = 1 then Yb g (bsR (fun h => !lt (g m) (g h)) a m) m b
  else Z7E (Xs lt d) g a m b ((a + b) / 2) (UC lt g a m b)
def Zcx {α : Type} (lt : α → α → Bool) (F : (Nat → α) → Nat → Nat → Nat → Nat → α) (d : Nat) : Prop := ∀ g a m b, b - a ≤ d → a < m → m < b → OnO lt g a m → OnO lt g m b → Prm g a b (F g a m b) ∧ OnO lt (F g a m b) a b
theorem Z8B {α : Type} {lt : α → α → Bool} {F : (Nat → α) → Nat → Nat → Nat → Nat → α} {d : Nat} (hF : Zcx lt F d) {g : Nat → α} {a s c : Nat} (hd : c - a ≤ d) (h1 : a ≤ s) (h2 : s ≤ c) (o1 : OnO lt g a s) (o2 : OnO lt g s c) : Prm g a c (QS F g a s c) ∧ OnO lt (QS F g a s c) a c := by
 unfold QS
 split
 ·exact hF g a s c hd (by omega) (by omega) o1 o2
 ·refine ⟨.refl _ _ _, ?_⟩
  by_cases h : a = s
  ·subst h; exact o2
  ·have : s = c := by omega
   subst this; exact o1
theorem Z0I {α : Type} {lt : α → α → Bool} (wo : WO lt) {x y z : α} (h1 : lt y x = false) (h2 : lt z y = false) : lt z x = false := by
 cases h : lt z x with
 | false => rfl
 | true => rw [wo.neg z x y h h1] at h2; cases h2
theorem ZeL {α : Type} {lt : α → α → Bool} (wo : WO lt) {g : Nat → α} {a m b c s : Nat} (h1 : a < m) (h2 : m < b) (hc : c = (a + b) / 2) (hs : s = UC lt g a m b) (o1 : OnO lt g a m) (o2 : OnO lt g m b) :
  (a ≤ s ∧ s ≤ m ∧ s ≤ c ∧ m ≤ c + m - s ∧ c + m - s ≤ b ∧ c ≤ c + m - s) ∧ (∀ i j, a ≤ i → i < s → c + m - s ≤ j → j < b → lt (g j) (g i) = false) ∧ (∀ i j, m ≤ i → i < c + m - s → s ≤ j → j < m → lt (g j) (g i) = false) := by
 subst hc
 have key : (a ≤ s ∧ s ≤ m ∧ s ≤ (a + b) / 2 ∧ m ≤ (a + b) / 2 + m - s ∧ (a + b) / 2 + m - s ≤ b ∧ (a + b) / 2 ≤ (a + b) / 2 + m - s) ∧ (a < s → (a + b) / 2 + m - s < b → lt (g ((a + b) / 2 + m - s)) (g (s - 1)) = false) ∧ (s < m → m < (a + b) / 2 + m - s → lt (g ((a + b) / 2 + m - s - 1)) (g s) = true) := by
  unfold UC at hs
  split at hs
  ·have hi : (a + b) / 2 + m - b ≤ (a + b) / 2 := by omega
   obtain ⟨⟨k1, k2⟩, k3, k4⟩ := XE (P := fun c => !lt (g ((a + b) / 2 + m - 1 - c)) (g c)) hi
   rw [← hs] at k1 k2 k3 k4
   refine ⟨by omega, fun q1 q2 => ?_, fun q1 q2 => ?_⟩
   ·have := k3 (by omega)
    simp only [Bool.not_eq_true'] at this
    rwa [show (a + b) / 2 + m - 1 - (s - 1) = (a + b) / 2 + m - s by omega] at this
   ·have := k4 (by omega)
    simp only [Bool.not_eq_false'] at this
    rwa [show (a + b) / 2 + m - 1 - s = (a + b) / 2 + m - s - 1 by omega] at this
  ·have hi : a ≤ m := by omega
   obtain ⟨⟨k1, k2⟩, k3, k4⟩ := XE (P := fun c => !lt (g ((a + b) / 2 + m - 1 - c)) (g c)) hi
   rw [← hs] at k1 k2 k3 k4
   refine ⟨by omega, fun q1 q2 => ?_, fun q1 q2 => ?_⟩
   ·have := k3 (by omega)
    simp only [Bool.not_eq_true'] at this
    rwa [show (a + b) / 2 + m - 1 - (s - 1) = (a + b) / 2 + m - s by omega] at this
   ·have := k4 (by omega)
    simp only [Bool.not_eq_false'] at this
    rwa [show (a + b) / 2 + m - 1 - s = (a + b) / 2 + m - s - 1 by omega] at this
 obtain ⟨kb, k1, k2⟩ := key
 refine ⟨kb, fun i j q1 q2 q3 q4 => ?_, fun i j q1 q2 q3 q4 => ?_⟩
 ·have e0 := k1 (by omega) (by omega)
  have e1 : lt (g (s - 1)) (g i) = false := by
   by_cases h : i = s - 1
   ·subst h
    cases hh : lt (g (s - 1)) (g (s - 1)) with
    | false => rfl
    | true => rw [wo.asym _ _ hh] at hh; cases hh
   ·exact o1 i (s - 1) q1 (by omega) (by omega)
  have e2 : lt (g j) (g ((a + b) / 2 + m - s)) = false := by
   by_cases h : j = (a + b) / 2 + m - s
   ·subst h
    cases hh : lt (g ((a + b) / 2 + m - s)) (g ((a + b) / 2 + m - s)) with
    | false => rfl
    | true => rw [wo.asym _ _ hh] at hh; cases hh
   ·exact o2 _ j (by omega) (by omega) q4
  exact Z0I wo (Z0I wo e1 e0) e2
 ·have e0 := wo.asym _ _ (k2 (by omega) (by omega))
  have e1 : lt (g ((a + b) / 2 + m - s - 1)) (g i) = false := by
   by_cases h : i = (a + b) / 2 + m - s - 1
   ·subst h
    cases hh : lt (g ((a + b) / 2 + m - s - 1)) (g ((a + b) / 2 + m - s - 1)) with
    | false => rfl
    | true => rw [wo.asym _ _ hh] at hh; cases hh
   ·exact o2 i _ q1 (by omega) (by omega)
  have e2 : lt (g j) (g s) = false := by
   by_cases h : j = s
   ·subst h
    cases hh : lt (g j) (g j) with
    | false => rfl
    | true => rw [wo.asym _ _ hh] at hh; cases hh
   ·exact o1 s j (by omega) (by omega) q4
  exact Z0I wo (Z0I wo e1 e0) e2
theorem ZeM {α : Type} {lt : α → α → Bool} (wo : WO lt) {F : (Nat → α) → Nat → Nat → Nat → Nat → α} {d : Nat} (hF : Zcx lt F d) {g : Nat → α} {a m b c s : Nat} (hd : b - a ≤ d + 1) (h1 : a + 1 < m) (h2 : m + 1 < b) (hc : c = (a + b) / 2) (hs : s = UC lt g a m b) (o1 : OnO lt g a m) (o2 : OnO lt g m b) : Prm g a b (Z7E F g a m b c s) ∧ OnO lt (Z7E F g a m b c s) a b := by
 obtain ⟨⟨b1, b2, b3, b4, b5, b6⟩, x1, x2⟩ := ZeL wo (show a < m by omega) (show m < b by omega) hc hs o1 o2
 unfold Z7E
 generalize he : c + m - s = e at *
 have r0 := (Z2D (g := g) b2 b4).wide b1 (by omega) b5
 have hr : ∀ k, Yb g s m e k = if s ≤ k ∧ k < e then if k < s + (e - m) then g (k - s + m) else g (k - (e - m)) else g k := fun k => rfl
 generalize Yb g s m e = g1 at *
 have p1 : OnO lt g1 a s := (o1.sub (Nat.le_refl _) b2).shift (Nat.le_refl _) fun k k1 k2 => by rw [hr, if_neg (by omega)]; congr 1; omega
 have p2 : OnO lt g1 s c := (o2.sub (Nat.le_refl m) (show e ≤ b from b5)).shift (by omega) fun k k1 k2 => by rw [hr, if_pos (by omega), if_pos (by omega)]
 have p3 : OnO lt g1 c e := (o1.sub (show a ≤ s from b1) (Nat.le_refl m)).shift (by omega) fun k k1 k2 => by rw [hr, if_pos (by omega), if_neg (by omega)]; congr 1; omega
 have p4 : OnO lt g1 e b := (o2.sub (show m ≤ e from b4) (Nat.le_refl b)).shift (Nat.le_refl _) fun k k1 k2 => by rw [hr, if_neg (by omega)]; congr 1; omega
 have x : ∀ i j, a ≤ i → i < c → c ≤ j → j < b → lt (g1 j) (g1 i) = false := fun i j q1 q2 q3 q4 => by
  rw [hr i, hr j]
  by_cases c1 : i < s
  ·rw [if_neg (show ¬ (s ≤ i ∧ i < e) by omega)]
   by_cases c2 : j < e
   ·rw [if_pos (show s ≤ j ∧ j < e by omega), if_neg (show ¬ j < s + (e - m) by omega)]
    exact o1 _ _ q1 (by omega) (by omega)
   ·rw [if_neg (show ¬ (s ≤ j ∧ j < e) by omega)]
    exact x1 _ _ q1 c1 (by omega) q4
  ·rw [if_pos (show s ≤ i ∧ i < e by omega), if_pos (show i < s + (e - m) by omega)]
   by_cases c2 : j < e
   ·rw [if_pos (show s ≤ j ∧ j < e by omega), if_neg (show ¬ j < s + (e - m) by omega)]
    exact x2 _ _ (by omega) (by omega) (by omega) (by omega)
   ·rw [if_neg (show ¬ (s ≤ j ∧ j < e) by omega)]
    exact o2 _ _ (by omega) (by omega) q4
 obtain ⟨r1, t1⟩ := Z8B hF (show c - a ≤ d by omega) b1 b3 p1 p2
 generalize QS F g1 a s c = g2 at *
 have p3' : OnO lt g2 c e := p3.shift (Nat.le_refl _) fun k k1 k2 => by rw [r1.out k (by omega)]; congr 1; omega
 have p4' : OnO lt g2 e b := p4.shift (Nat.le_refl _) fun k k1 k2 => by rw [r1.out k (by omega)]; congr 1; omega
 obtain ⟨r2, t2⟩ := Z8B hF (show b - c ≤ d by omega) b6 b5 p3' p4'
 generalize QS F g2 c e b = g3 at *
 refine ⟨r0.trans ((r1.wide (Nat.le_refl _) (by omega) (by omega)).trans (r2.wide (by omega) (by omega) (Nat.le_refl _))), ?_⟩
 have t1' : OnO lt g3 a c := t1.shift (Nat.le_refl _) fun k k1 k2 => by rw [r2.out k (by omega)]; congr 1; omega
 refine t1'.cat t2 fun i j q1 q2 q3 q4 => ?_
 rw [r2.out i (by omega)]
 obtain ⟨i', k1, k2, k3⟩ := r1.mem q1 q2
 obtain ⟨j', k4, k5, k6⟩ := r2.mem q3 q4
 rw [← k3, ← k6, r1.out j' (by omega)]
 exact x i' j' k1 k2 k4 k5
theorem Zhf {α : Type} {lt : α → α → Bool} (wo : WO lt) (x : α) : lt x x = false := by
 cases hh : lt x x with
 | false => rfl
 | true => rw [wo.asym _ _ hh] at hh; cases hh
theorem OnO.le {α : Type} {lt : α → α → Bool} (wo : WO lt) {g : Nat → α} {a b : Nat} (o : OnO lt g a b) {i j : Nat} (h1 : a ≤ i) (h2 : i ≤ j) (h3 : j < b) : lt (g j) (g i) = false := by
 by_cases h : i = j
 ·subst h; exact Zhf wo _
 ·exact o i j h1 (by omega) h3
theorem Z8C {α : Type} {lt : α → α → Bool} {g : Nat → α} {a m b u v : Nat} (h1 : u ≤ a) (h2 : a ≤ m) (h3 : m ≤ b) (h4 : b ≤ v) (o1 : OnO lt g u m) (o2 : OnO lt g m v) (x1 : ∀ i j, a ≤ i → i < m → b ≤ j → j < v → lt (g j) (g i) = false) (x2 : ∀ i j, m ≤ i → i < b → a ≤ j → j < m → lt (g j) (g i) = false) (x3 : ∀ i j, u ≤ i → i < a → m ≤ j → j < v → lt (g j) (g i) = false) : OnO lt (Yb g a m b) u v := fun i j k1 k2 k3 => by
 have hr : ∀ k, Yb g a m b k = if a ≤ k ∧ k < b then if k < a + (b - m) then g (k - a + m) else g (k - (b - m)) else g k := fun k => rfl
 rw [hr i, hr j]
 by_cases c1 : i < a
 ·rw [if_neg (show ¬ (a ≤ i ∧ i < b) by omega)]
  split
  ·split
   ·exact x3 _ _ k1 c1 (by omega) (by omega)
   ·exact o1 _ _ k1 (by omega) (by omega)
  ·by_cases c2 : j < m
   ·exact o1 _ _ k1 k2 c2
   ·exact x3 _ _ k1 c1 (by omega) k3
 ·by_cases c2 : i < b
  ·rw [if_pos (show a ≤ i ∧ i < b by omega)]
   by_cases c3 : i < a + (b - m)
   ·rw [if_pos c3]
    by_cases c4 : j < b
    ·rw [if_pos (show a ≤ j ∧ j < b by omega)]
     by_cases c5 : j < a + (b - m)
     ·rw [if_pos c5]
      exact o2 _ _ (by omega) (by omega) (by omega)
     ·rw [if_neg c5]
      exact x2 _ _ (by omega) (by omega) (by omega) (by omega)
    ·rw [if_neg (show ¬ (a ≤ j ∧ j < b) by omega)]
     exact o2 _ _ (by omega) (by omega) k3
   ·rw [if_neg c3]
    by_cases c4 : j < b
    ·rw [if_pos (show a ≤ j ∧ j < b by omega), if_neg (show ¬ j < a + (b - m) by omega)]
     exact o1 _ _ (by omega) (by omega) (by omega)
    ·rw [if_neg (show ¬ (a ≤ j ∧ j < b) by omega)]
     exact x1 _ _ (by omega) (by omega) (by omega) k3
  ·rw [if_neg (show ¬ (a ≤ i ∧ i < b) by omega), if_neg (by omega)]
   exact o2 _ _ (by omega) k2 k3
theorem Z8D {α : Type} {lt : α → α → Bool} (wo : WO lt) : ∀ d, Zcx lt (Xs lt d) d
 | 0 => fun g a m b h1 h2 h3 => by omega
 | d + 1 => fun g a m b h1 h2 h3 o1 o2 => by
  unfold Xs
  split
  ·obtain ⟨⟨k1, k2⟩, k3, k4⟩ := XE (P := fun h => lt (g h) (g a)) (show m ≤ b by omega)
   generalize bsR (fun h => lt (g h) (g a)) m b = s at *
   refine ⟨(Z2D (by omega) k1).wide (Nat.le_refl _) (by omega) k2, Z8C (Nat.le_refl _) (by omega) k1 k2 o1 o2 (fun i j q1 q2 q3 q4 => ?_) (fun i j q1 q2 q3 q4 => ?_) (fun i j q1 q2 => by omega)⟩
   ·rw [show i = a by omega]
    exact Z0I wo (k4 (by omega)) (o2.le wo k1 q3 q4)
   ·rw [show j = a by omega]
    have e := k3 (by omega)
    exact Z0I wo (o2.le wo q1 (show i ≤ s - 1 by omega) (by omega)) (wo.asym _ _ e)
  ·split
   ·obtain ⟨⟨k1, k2⟩, k3, k4⟩ := XE (P := fun h => !lt (g m) (g h)) (show a ≤ m by omega)
    generalize bsR (fun h => !lt (g m) (g h)) a m = s at *
    simp only [Bool.not_eq_true', Bool.not_eq_false'] at k3 k4
    refine ⟨(Z2D k2 (by omega)).wide k1 (by omega) (Nat.le_refl _), Z8C k1 k2 (by omega) (Nat.le_refl _) o1 o2 (fun i j q1 q2 q3 q4 => by omega) (fun i j q1 q2 q3 q4 => ?_) (fun i j q1 q2 q3 q4 => ?_)⟩
    ·rw [show i = m by omega]
     exact Z0I wo (wo.asym _ _ (k4 (by omega))) (o1.le wo k1 q3 q4)
    ·rw [show j = m by omega]
     exact Z0I wo (o1.le wo q1 (show i ≤ s - 1 by omega) (by omega)) (k3 (by omega))
   ·exact ZeM wo (Z8D wo d) h1 (by omega) (by omega) rfl rfl o1 o2
end Go.Tk
end
section
namespace Go.Tk
open IntKind (i64 u8 u32 u64 wrap)
def Zw (g : Nat → ClS) (i : Nat) : List AV := (g i).c
theorem WK (g : Nat → ClS) (i : Nat) : plainC (Zw g i) = true := rfl
theorem ZA {k : Nat} {τ : Ren} {n : Nat} {g : Nat → ClS} {f : Nat → List AV} (h : ∀ i, i < n → f i = Zw g i) : Zg k τ n (Zw g) f :=
 V9 h (fun i _ => WK g i) (fun i _ v hv => by
  simp only [Zw, ClS.c, List.mem_cons, List.not_mem_nil, or_false] at hv
  rcases hv with rfl | rfl | rfl <;> first | exact .inl rfl | exact .inr ⟨_, _, _, rfl⟩)
def gH (n : Nat) (g : Nat → ClS) : Z7 := ⟨1, [(0, .rows 34 n (Zw g))]⟩
def swR (g : Nat → ClS) (a b n k : Nat) : ClS := if a ≤ k ∧ k < a + n then g (k - a + b) else if b ≤ k ∧ k < b + n then g (k - b + a) else g k
theorem Zjv (g : Nat → ClS) (a b : Nat) : swR g a b 0 = g := by
 funext k
 unfold swR
 rw [if_neg (by omega), if_neg (by omega)]
theorem Zjw (g : Nat → ClS) (a b i : Nat) (h : a + i < b) (k : Nat) : swR g a b (i + 1) k = if k = b + i then swR g a b i (a + i) else if k = a + i then swR g a b i (b + i) else swR g a b i k := by
 unfold swR
 by_cases h1 : k = b + i
 ·subst h1
  rw [if_pos rfl, if_neg (by omega), if_pos (by omega), if_neg (by omega), if_neg (by omega)]
  congr 1; omega
 ·rw [if_neg h1]
  by_cases h2 : k = a + i
  ·subst h2
   rw [if_pos rfl, if_pos (by omega), if_neg (by omega), if_neg (by omega)]
   congr 1; omega
  ·rw [if_neg h2]
   by_cases h3 : a ≤ k ∧ k < a + i
   ·rw [if_pos (by omega), if_pos h3]
   ·rw [if_neg (by omega), if_neg h3]
    by_cases h4 : b ≤ k ∧ k < b + i
    ·rw [if_pos (by omega), if_pos h4]
    ·rw [if_neg (by omega), if_neg h4]
def swS (n lo a b k i : Nat) (g : Nat → ClS) : St := ⟨38, [(10, .int .i64 i), (3, .int .i64 k), (0, .nslice ⟨0, 0, 34, 0, 0⟩ 34 n lo), (1, .int .i64 a), (2, .int .i64 b)], gH n g, []⟩
theorem Zjx (n lo a b k i : Nat) (f f1 : Nat → ClS) (Z1 Z2 : Prop) (hn : n < 900000000000) (hk : a + k ≤ b ∧ b + k ≤ n) (hi : i ≤ k) (hf : i < k → ∀ x, f1 x = if x = b + i then f (a + i) else if x = a + i then f (b + i) else f x) (h1 : i < k → Z1) (h2 : i = k → Z2) :
  Zz G0 20 220 0 1 (swS n lo a b k i f) (rdM 1 0 9 (swS n lo a b k (i + 1) f1) ⟨38, [], gH n f, []⟩ ⟨38, [], gH n f, []⟩ ⟨38, [], gH n f, []⟩ Z1 Z2 False False) := by
 refine @Eq.mpr _ (let q1 := wrap i64 ((↑b : Int) + (↑i : Int));
 let q2 := decide (0 ≤ q1 ∧ q1 < (↑n : Int));
 let q3 := 0 + Int.toNat q1;
 let q4 := wrap i64 ((↑a : Int) + (↑i : Int));
 let q5 := decide (0 ≤ q4 ∧ q4 < (↑n : Int));
 let q6 := 0 + Int.toNat q4;
 let q7 := decide (n = n);
 let q8 := Zw f;
 let q9 := f q3;
 let q10 := f q6;
 Z0 (decide ((↑i : Int) < (↑k : Int))) (Z0 q2 (Z0 (decide (q3 < n)) (Z0 q5 (Z0 (decide (q6 < n)) (Z0 q5 (Z0 (decide (q6 < n)) (Z0 q2 (Z0 (decide (q3 < n)) (Z0 (decide (wrap i64 ((↑i : Int) + 1) = (↑(i + 1) : Int))) (Z0 (decide ((↑k : Int) = (↑k : Int))) (Z0 q7 (Z0 (decide (lo ≤ lo)) (Z0 (decide ((↑a : Int) = (↑a : Int))) (Z0 (decide ((↑b : Int) = (↑b : Int))) (Z0 q7 (Zg 1 [] n (Zw f1) (Xv (Xv q8 q6 [AV.int i64 q9.index, AV.int i64 q9.way, AV.arr u8 32 q9.secret]) q3 [AV.int i64 q10.index, AV.int i64 q10.way, AV.arr u8 32 q10.secret]) ∧ Z1) False) False) False) False) False) False) False) False) False) False) False) False) False) False) False) (Z0 q7 (Zg 1 [] n q8 q8 ∧ Z2) False)) (by kernel_rfl) ?_
 conv => zeta
 try simp only [Zc]
 try simp only [Zi]
 try simp only [Ze]
 try simp only [Zj]
 try simp only [Zk]
 try simp only [Zd]
 try simp only [Int.toNat_natCast, Nat.zero_add, true_and, and_true, Nat.le_refl]
 refine ⟨fun hc => ?_, fun hc => ⟨ZA fun _ _ => rfl, h2 (by omega)⟩⟩
 have hi : i < k := by omega
 have k1 : i64.wrap ((b : Int) + i) = ((b + i : Nat) : Int) := by rw [w64 (by omega)]; omega
 have k2 : i64.wrap ((a : Int) + i) = ((a + i : Nat) : Int) := by rw [w64 (by omega)]; omega
 rw [k1, k2]
 simp only [Int.toNat_natCast]
 have hR : Zg 1 [] n (Zw f1) (Xv (Xv (Zw f) (a + i) (f (b + i)).c) (b + i) (f (a + i)).c) := ZA fun x _ => by
  rw [Xa, Xa]
  unfold Zw
  rw [hf hi x]
  by_cases c1 : x = b + i
  ·subst c1; rw [Nat.beq_refl, if_pos rfl]
  ·rw [Zo c1, if_neg c1]
   by_cases c2 : x = a + i
   ·subst c2; rw [Nat.beq_refl, if_pos rfl]
   ·rw [Zo c2, if_neg c2]
 repeat' first | exact hR | exact h1 hi | exact w64 (by omega) | rfl | omega | apply And.intro
noncomputable def Zjy (n lo a b k : Nat) (g : Nat → ClS) : Za := G0.withL 220 0 (goM 1 (swS n lo a b k 0 g) (n < 900000000000 ∧ a + k ≤ b ∧ b + k ≤ n) (ZT 0 k 9 (fun t => t < k) (fun t => t = k) (fun _ => False) (fun _ => False) (fun t => ⟨38, [], gH n (swR g a b t), []⟩) (fun t => ⟨38, [], gH n (swR g a b t), []⟩) (fun t => ⟨38, [], gH n (swR g a b t), []⟩)))
theorem ZeN (n lo a b k : Nat) (g : Nat → ClS) : (Zjy n lo a b k g).Ok :=
 Za.withGoM (N := 20) (S := fun t => swS n lo a b k t (swR g a b t)) Zv (by kernel_rfl) fun hC => ⟨by rw [Zjv], fun t ht hgo =>
  Zjx n lo a b k t (swR g a b t) (swR g a b (t + 1)) (t < k ∧ t < k) (t = k) hC.1 hC.2 ht (fun h x => Zjw g a b t (by omega) x) (fun h => ⟨h, h⟩) (fun h => h)⟩
theorem Zjz (n lo a b k : Nat) (g g1 : Nat → ClS) (hn : n < 900000000000) (hk : a + k ≤ b ∧ b + k ≤ n) (hg : g1 = swR g a b k) :
  evF (Zjy n lo a b k g) 20 220 [.nslice ⟨0, 0, 34, 0, 0⟩ 34 n lo, .int .i64 a, .int .i64 b, .int .i64 k, W1] (gH n g) (Ym 1 (.ret (.tuple [])) 1 [(0, .rows 34 n (Zw g1))]) := by
 refine @Eq.mpr _ (let q1 := decide (n = n);
 Z0 (decide ((↑k : Int) = (↑k : Int)))
 (Z0 q1
 (Z0 (decide (lo ≤ lo))
 (Z0 (decide ((↑a : Int) = (↑a : Int)))
 (Z0 (decide ((↑b : Int) = (↑b : Int)))
 (Z0 q1
 (Zg 1 [] n (Zw g) (Zw g) ∧
 (n < 900000000000 ∧ a + k ≤ b ∧ b + k ≤ n) ∧
 ∀ (i : Nat),
 let q3 := Z0 q1 (Zg 1 [] n (Zw g1) (Zw (swR g a b i)) ∧ True) False;
 i ≤ k → (∀ (j : Nat), j < i → (fun (t : Nat) => t < k) j) → (i = k → q3) ∧ (False → q3) ∧ (False → False))
 False)
 False)
 False)
 False)
 False)
 False) (by kernel_rfl) ?_
 conv => zeta
 try simp only [Zc]
 try simp only [Zi]
 try simp only [Ze]
 try simp only [Zj]
 try simp only [Zk]
 try simp only [Zd]
 try simp only [Int.toNat_natCast, Nat.zero_add, true_and, and_true, Nat.le_refl]
 refine ⟨ZA fun _ _ => rfl, ⟨hn, hk⟩, fun i hi _ => ⟨fun he => ?_, fun h => h.elim, fun h => h.elim⟩⟩
 have he : i = k := he
 subst he
 exact ZA fun _ _ => by rw [hg]
def Zhg : Y6 := fun args h K => match args with
 | .nslice p esz len lo :: r => frA [p.blk] h 20 (.nslice p esz len lo :: r) fun Bs a => match Bs, a with
  | [.rows 34 m f], [.nslice ⟨0, 0, 34, 0, 0⟩ 34 n lo, .int .i64 A, .int .i64 B, .int .i64 C, .func (.func 124) [] [.pview [.vrows 1 1 e 1] 0]] => ∃ (g : Nat → ClS) (a b k : Nat), (m = n ∧ A = (a : Int) ∧ B = (b : Int) ∧ C = (k : Int)) ∧ (n < 900000000000 ∧ a + k ≤ b ∧ b + k ≤ n) ∧ e = ZM byC 0 1 ∧ f = Zw g ∧ K (.ret (.tuple [])) ⟨h.next, (p.blk, .rows 34 n (Zw (swR g a b k))) :: Xb h.bs p.blk⟩
  | _, _ => False
 | _ => False
theorem ZeO (args : List AV) (h : Z7) (K : KO) (hl : Zhg args h K) : Zh PP 220 args h K := by
 unfold Zhg at hl
 split at hl
 ·rename_i p esz len lo r
  refine Spec.fsumm (σ := [p.blk]) (d := 20) hl fun Bs a₀ hlen h0 => ?_
  split at h0
  ·obtain ⟨g, a, b, k, ⟨rfl, rfl, rfl, rfl⟩, ⟨hn, hk⟩, rfl, rfl, hK⟩ := h0
   exact ⟨_, _, _, _, _, .evM (ZeN _ _ a b k g) (Zjz _ _ a b k g _ hn hk rfl), Nat.le_refl 1, .ret _ _ rfl, .cons 0 _ _ _ _ _ rfl (.rows _ _ _ fun i _ => WK _ i) .nil, hK⟩
  ·exact h0.elim
 ·exact hl.elim
def rtN (m : Nat) (p : Nat × Nat × (Nat → ClS)) : Nat × Nat × (Nat → ClS) :=
 if p.1 = p.2.1 then p else if p.2.1 < p.1 then (p.1 - p.2.1, p.2.1, swR p.2.2 (m - p.1) m p.2.1) else (p.1, p.2.1 - p.1, swR p.2.2 (m - p.1) (m + p.2.1 - p.1) p.1)
def rtT (m : Nat) (p : Nat × Nat × (Nat → ClS)) : Nat → Nat × Nat × (Nat → ClS)
 | 0 => p
 | t + 1 => rtN m (rtT m p t)
theorem Zhh {g : Nat → ClS} {m i j : Nat} (hi : i ≤ m) (h : j < i) : Yb (swR g (m - i) m j) (m - (i - j)) m (m + j) = Yb g (m - i) m (m + j) := by
 funext k
 unfold Yb swR
 repeat' split
 all_goals first | rfl | omega | (congr 1; omega)
theorem Zhi {g : Nat → ClS} {m i j : Nat} (hi : i ≤ m) (h : i < j) : Yb (swR g (m - i) (m + j - i) i) (m - i) m (m + (j - i)) = Yb g (m - i) m (m + j) := by
 funext k
 unfold Yb swR
 repeat' split
 all_goals first | rfl | omega | (congr 1; omega)
theorem Zhj {g : Nat → ClS} {m i : Nat} (hi : i ≤ m) : swR g (m - i) m i = Yb g (m - i) m (m + i) := by
 funext k
 unfold Yb swR
 repeat' split
 all_goals first | rfl | omega | (congr 1; omega)
structure RtI (m i j : Nat) (g : Nat → ClS) (t : Nat) (p : Nat × Nat × (Nat → ClS)) : Prop where
 i0 : 0 < p.1
 j0 : 0 < p.2.1
 il : p.1 ≤ i
 jl : p.2.1 ≤ j
 tl : p.1 + p.2.1 + t ≤ i + j
 rot : Yb p.2.2 (m - p.1) m (m + p.2.1) = Yb g (m - i) m (m + j)
theorem Z4M {m i j : Nat} {g : Nat → ClS} (hi : 0 < i ∧ i ≤ m) (hj : 0 < j) : ∀ t, (∀ s, s < t → (rtT m (i, j, g) s).1 ≠ (rtT m (i, j, g) s).2.1) → RtI m i j g t (rtT m (i, j, g) t)
 | 0, _ => ⟨hi.1, hj, Nat.le_refl _, Nat.le_refl _, Nat.le_refl _, rfl⟩
 | t + 1, h => by
  have ih := Z4M hi hj t fun s hs => h s (by omega)
  have hne := h t (by omega)
  show RtI m i j g (t + 1) (rtN m (rtT m (i, j, g) t))
  obtain ⟨h1, h2, h3, h4, h5, h6⟩ := ih
  generalize rtT m (i, j, g) t = p at *
  unfold rtN
  rw [if_neg hne]
  by_cases c : p.2.1 < p.1
  ·rw [if_pos c]
   exact ⟨by show 0 < p.1 - p.2.1; omega, h2, by show p.1 - p.2.1 ≤ i; omega, h4, by show p.1 - p.2.1 + p.2.1 + (t + 1) ≤ _; omega, (Zhh (by omega) c).trans h6⟩
  ·rw [if_neg c]
   exact ⟨h1, by show 0 < p.2.1 - p.1; omega, h3, by show p.2.1 - p.1 ≤ j; omega, by show p.1 + (p.2.1 - p.1) + (t + 1) ≤ _; omega, (Zhi (by omega) (by omega)).trans h6⟩
noncomputable def Zhk : Za := G0.withF 220 Zhg
theorem ZeP : Zhk.Ok := Za.withF_ok Zv ZeO
def rtS (n lo m i j : Nat) (g : Nat → ClS) : St := ⟨58, [(10, .int .i64 i), (11, .int .i64 j), (0, .nslice ⟨0, 0, 34, 0, 0⟩ 34 n lo), (2, .int .i64 m), (4, W1)], gH n g, []⟩
def rtE (n lo m i : Nat) (g : Nat → ClS) : St := ⟨58, [(10, .int .i64 i), (0, .nslice ⟨0, 0, 34, 0, 0⟩ 34 n lo), (2, .int .i64 m), (4, W1)], gH n g, []⟩
theorem ZjA (n lo m i j i1 j1 : Nat) (f f1 : Nat → ClS) (Z1 Z2 : Prop) (hn : n < 900000000000) (hi : 0 < i ∧ i ≤ m) (hj : 0 < j ∧ m + j ≤ n) (hg : i ≠ j → j < i → i1 = i - j ∧ j1 = j ∧ f1 = swR f (m - i) m j) (hl : i ≠ j → ¬ j < i → i1 = i ∧ j1 = j - i ∧ f1 = swR f (m - i) (m + j - i) i) (h1 : i ≠ j → Z1) (h2 : i = j → Z2) :
  Zz Zhk 20 210 0 1 (rtS n lo m i j f) (rdM 1 0 9 (rtS n lo m i1 j1 f1) (rtE n lo m i f) (rtE n lo m i f) (rtE n lo m i f) Z1 Z2 False False) := by
 refine @Eq.mpr _ (let q1 := ZM byC 0 1;
 let q2 := q1 = q1;
 let q3 := Zw f;
 let q4 := decide (n = n);
 let q5 := decide (lo ≤ lo);
 let q6 := decide ((↑m : Int) = (↑m : Int));
 let q7 := [AV.vrows 1 1 q1 1];
 let q8 := q7 = q7;
 Z0 ((↑i : Int) != (↑j : Int))
 (Z0 (decide ((↑i : Int) > (↑j : Int))) ((∀ (i : Nat), i < n → true = true) ∧ ∃ (g : Nat → ClS), ∃ (a : Nat), ∃ (b : Nat), ∃ (k : Nat), (n = n ∧ wrap i64 ((↑m : Int) - (↑i : Int)) = (↑a : Int) ∧ (↑m : Int) = (↑b : Int) ∧ (↑j : Int) = (↑k : Int)) ∧ (n < 900000000000 ∧ a + k ≤ b ∧ b + k ≤ n) ∧ q2 ∧ q3 = Zw g ∧ Z0 (decide (wrap i64 ((↑i : Int) - (↑j : Int)) = (↑i1 : Int))) (Z0 (decide ((↑j : Int) = (↑j1 : Int))) (Z0 q4 (Z0 q5 (Z0 q6 (q8 ∧ Z0 q4 (Zg 1 [] n (Zw f1) (Zw (swR g a b k)) ∧ Z1) False) False) False) False) False) False)
 ((∀ (i : Nat), i < n → true = true) ∧ ∃ (g : Nat → ClS), ∃ (a : Nat), ∃ (b : Nat), ∃ (k : Nat), (n = n ∧ wrap i64 ((↑m : Int) - (↑i : Int)) = (↑a : Int) ∧ wrap i64 (wrap i64 ((↑m : Int) + (↑j : Int)) - (↑i : Int)) = (↑b : Int) ∧ (↑i : Int) = (↑k : Int)) ∧ (n < 900000000000 ∧ a + k ≤ b ∧ b + k ≤ n) ∧ q2 ∧ q3 = Zw g ∧ Z0 (decide ((↑i : Int) = (↑i1 : Int))) (Z0 (decide (wrap i64 ((↑j : Int) - (↑i : Int)) = (↑j1 : Int))) (Z0 q4 (Z0 q5 (Z0 q6 (q8 ∧ Z0 q4 (Zg 1 [] n (Zw f1) (Zw (swR g a b k)) ∧ Z1) False) False) False) False) False) False))
 (Z0 (decide ((↑i : Int) = (↑i : Int))) (Z0 q4 (Z0 q5 (Z0 q6 (q8 ∧ Z0 q4 (Zg 1 [] n q3 q3 ∧ Z2) False) False) False) False) False)) (by kernel_rfl) ?_
 conv => zeta
 try simp only [Zc]
 try simp only [Zi]
 try simp only [Ze]
 try simp only [Zj]
 try simp only [Zk]
 try simp only [Zd]
 try simp only [Int.toNat_natCast, Nat.zero_add, true_and, and_true, Nat.le_refl]
 have m1 : i64.wrap ((m : Int) - i) = ((m - i : Nat) : Int) := by rw [w64 (by omega)]; omega
 refine ⟨fun hc => ⟨fun hd => ⟨fun _ _ => trivial, f, m - i, m, j, ?_⟩, fun hd => ⟨fun _ _ => trivial, f, m - i, m + j - i, i, ?_⟩⟩, fun hc => ?_⟩
 ·have hc : ¬ (i : Int) = j := by simpa using hc
  have hc : i ≠ j := by omega
  obtain ⟨x1, x2, x3⟩ := hg hc (by omega)
  have x4 : i64.wrap ((i : Int) - j) = ((i - j : Nat) : Int) := by rw [w64 (by omega)]; omega
  subst x1 x2 x3
  repeat' first | exact ZA fun _ _ => rfl | exact h1 hc | exact m1 | exact x4 | rfl | omega | apply And.intro
 ·have hc : ¬ (i : Int) = j := by simpa using hc
  have hc : i ≠ j := by omega
  obtain ⟨x1, x2, x3⟩ := hl hc (by omega)
  have x4 : i64.wrap ((j : Int) - i) = ((j - i : Nat) : Int) := by rw [w64 (by omega)]; omega
  have x5 : i64.wrap (i64.wrap ((m : Int) + j) - i) = ((m + j - i : Nat) : Int) := by rw [w64 (x := (m : Int) + j) (by omega), w64 (by omega)]; omega
  subst x1 x2 x3
  repeat' first | exact ZA fun _ _ => rfl | exact h1 hc | exact m1 | exact x4 | exact x5 | rfl | omega | apply And.intro
 ·have hc : (i : Int) = j := by simpa using hc
  have hc : i = j := by omega
  exact ⟨ZA fun _ _ => rfl, h2 hc⟩
theorem Zcy {m i j : Nat} {g : Nat → ClS} {t : Nat} (h : (rtT m (i, j, g) t).1 ≠ (rtT m (i, j, g) t).2.1) : rtT m (i, j, g) (t + 1) = if (rtT m (i, j, g) t).2.1 < (rtT m (i, j, g) t).1 then ((rtT m (i, j, g) t).1 - (rtT m (i, j, g) t).2.1, (rtT m (i, j, g) t).2.1, swR (rtT m (i, j, g) t).2.2 (m - (rtT m (i, j, g) t).1) m (rtT m (i, j, g) t).2.1) else ((rtT m (i, j, g) t).1, (rtT m (i, j, g) t).2.1 - (rtT m (i, j, g) t).1, swR (rtT m (i, j, g) t).2.2 (m - (rtT m (i, j, g) t).1) (m + (rtT m (i, j, g) t).2.1 - (rtT m (i, j, g) t).1) (rtT m (i, j, g) t).1) := by
 show rtN m (rtT m (i, j, g) t) = _
 unfold rtN
 rw [if_neg h]
noncomputable def ZfE (n lo m i j : Nat) (g : Nat → ClS) : Za := Zhk.withL 210 0 (goM 1 (rtS n lo m i j g) (n < 900000000000 ∧ (0 < i ∧ i ≤ m) ∧ 0 < j ∧ m + j ≤ n) (ZT 0 (i + j) 9 (fun t => (rtT m (i, j, g) t).1 ≠ (rtT m (i, j, g) t).2.1) (fun t => (rtT m (i, j, g) t).1 = (rtT m (i, j, g) t).2.1) (fun _ => False) (fun _ => False) (fun t => rtE n lo m (rtT m (i, j, g) t).1 (rtT m (i, j, g) t).2.2) (fun t => rtE n lo m (rtT m (i, j, g) t).1 (rtT m (i, j, g) t).2.2) (fun t => rtE n lo m (rtT m (i, j, g) t).1 (rtT m (i, j, g) t).2.2)))
theorem Zcz (n lo m i j : Nat) (g : Nat → ClS) : (ZfE n lo m i j g).Ok :=
 Za.withGoM (N := 20) (S := fun t => rtS n lo m (rtT m (i, j, g) t).1 (rtT m (i, j, g) t).2.1 (rtT m (i, j, g) t).2.2) ZeP (by kernel_rfl) fun hC => ⟨rfl, fun t ht hgo => by
  obtain ⟨c1, c2, c3, c4⟩ := hC
  obtain ⟨v1, v2, v3, v4, v5, _⟩ := Z4M c2 c3 t hgo
  refine ZjA n lo m _ _ _ _ _ _ ((rtT m (i, j, g) t).1 ≠ (rtT m (i, j, g) t).2.1 ∧ t < i + j) ((rtT m (i, j, g) t).1 = (rtT m (i, j, g) t).2.1) c1 ⟨v1, by omega⟩ ⟨v2, by omega⟩ (fun h k => ?_) (fun h k => ?_) (fun h => ⟨h, by omega⟩) (fun h => h)
  ·rw [Zcy h, if_pos k]
   exact ⟨rfl, rfl, rfl⟩
  ·rw [Zcy h, if_neg k]
   exact ⟨rfl, rfl, rfl⟩⟩
theorem ZjB (n lo a m b i j : Nat) (g g1 : Nat → ClS) (hn : n < 900000000000) (hi : 0 < i ∧ i ≤ m) (hj : 0 < j ∧ m + j ≤ n) (ha : a = m - i) (hb : b = m + j) (hg : g1 = Yb g a m b) :
  evF (ZfE n lo m i j g) 20 210 [.nslice ⟨0, 0, 34, 0, 0⟩ 34 n lo, .int .i64 a, .int .i64 m, .int .i64 b, W1] (gH n g) (Ym 1 (.ret (.tuple [])) 1 [(0, .rows 34 n (Zw g1))]) := by
 refine @Eq.mpr _ (let q1 := decide (n = n);
 let q2 := ZM byC 0 1;
 let q3 := [AV.vrows 1 1 q2 1];
 let q4 := (i, j, g);
 Z0 (decide (wrap i64 ((↑m : Int) - (↑a : Int)) = (↑i : Int)))
 (Z0 (decide (wrap i64 ((↑b : Int) - (↑m : Int)) = (↑j : Int)))
 (Z0 q1
 (Z0 (decide (lo ≤ lo))
 (Z0 (decide ((↑m : Int) = (↑m : Int)))
 (q3 = q3 ∧
 Z0 q1
 (Zg 1 [] n (Zw g) (Zw g) ∧
 (n < 900000000000 ∧ (0 < i ∧ i ≤ m) ∧ 0 < j ∧ m + j ≤ n) ∧
 ∀ (i_1 : Nat),
 let q9 := (rtT m q4 i_1).fst;
 let q10 := (rtT m q4 i_1).snd;
 let q11 := (↑q9 : Int);
 let q12 := Zw q10.snd;
 i_1 ≤ i + j → (∀ (j : Nat), j < i_1 → (fun (t : Nat) => (rtT m q4 t).fst ≠ (rtT m q4 t).snd.fst) j) → (q9 = q10.fst → (∀ (i : Nat), i < n → true = true) ∧ ∃ (g : Nat → ClS), ∃ (a : Nat), ∃ (b : Nat), ∃ (k : Nat), (n = n ∧ wrap i64 ((↑m : Int) - q11) = (↑a : Int) ∧ (↑m : Int) = (↑b : Int) ∧ q11 = (↑k : Int)) ∧ (n < 900000000000 ∧ a + k ≤ b ∧ b + k ≤ n) ∧ q2 = q2 ∧ q12 = Zw g ∧ Z0 q1 (Zg 1 [] n (Zw g1) (Zw (swR g a b k)) ∧ True) False) ∧ (False → Z0 q1 (Zg 1 [] n (Zw g1) q12 ∧ True) False) ∧ (False → False))
 False)
 False)
 False)
 False)
 False)
 False) (by kernel_rfl) ?_
 conv => zeta
 try simp only [Zc]
 try simp only [Zi]
 try simp only [Ze]
 try simp only [Zj]
 try simp only [Zk]
 try simp only [Zd]
 try simp only [Int.toNat_natCast, Nat.zero_add, true_and, and_true, Nat.le_refl]
 refine ⟨by rw [w64 (by omega)]; omega, by rw [w64 (by omega)]; omega, ZA fun _ _ => rfl, ⟨hn, hi, hj⟩, fun t ht hgo => ⟨fun he => ?_, fun h => h.elim, fun h => h.elim⟩⟩
 obtain ⟨v1, v2, v3, v4, v5, v6⟩ := Z4M (g := g) hi hj.1 t hgo
 generalize rtT m (i, j, g) t = p at *
 refine ⟨fun _ _ => trivial, p.2.2, m - p.1, m, p.1, ⟨by rw [w64 (by omega)]; omega, rfl, rfl⟩, ⟨hn, by omega, by omega⟩, rfl, ZA fun x _ => ?_⟩
 rw [Zhj (by omega), hg, ha, hb, ← v6, ← he]
def Zhl : Y6 := fun args h K => match args with
 | .nslice p esz len lo :: r => frA [p.blk] h 20 (.nslice p esz len lo :: r) fun Bs a => match Bs, a with
  | [.rows 34 m f], [.nslice ⟨0, 0, 34, 0, 0⟩ 34 n lo, .int .i64 A, .int .i64 B, .int .i64 C, .func (.func 124) [] [.pview [.vrows 1 1 e 1] 0]] => ∃ (g : Nat → ClS) (a k b : Nat), (m = n ∧ A = (a : Int) ∧ B = (k : Int) ∧ C = (b : Int)) ∧ (n < 900000000000 ∧ a < k ∧ k < b ∧ b ≤ n) ∧ e = ZM byC 0 1 ∧ f = Zw g ∧ K (.ret (.tuple [])) ⟨h.next, (p.blk, .rows 34 n (Zw (Yb g a k b))) :: Xb h.bs p.blk⟩
  | _, _ => False
 | _ => False
theorem ZeQ (args : List AV) (h : Z7) (K : KO) (hl : Zhl args h K) : Zh PP 210 args h K := by
 unfold Zhl at hl
 split at hl
 ·rename_i p esz len lo r
  refine Spec.fsumm (σ := [p.blk]) (d := 20) hl fun Bs a₀ hlen h0 => ?_
  split at h0
  ·obtain ⟨g, a, k, b, ⟨rfl, rfl, rfl, rfl⟩, ⟨hn, h1, h2, h3⟩, rfl, rfl, hK⟩ := h0
   exact ⟨_, _, _, _, _, .evM (Zcz _ _ k (k - a) (b - k) g) (ZjB _ _ a k b (k - a) (b - k) g _ hn ⟨by omega, by omega⟩ ⟨by omega, by omega⟩ (by omega) (by omega) rfl), Nat.le_refl 1, .ret _ _ rfl, .cons 0 _ _ _ _ _ rfl (.rows _ _ _ fun i _ => WK _ i) .nil, hK⟩
  ·exact h0.elim
 ·exact hl.elim
end Go.Tk
end
section
namespace Go.Tk
open IntKind (i64 u8 u32 u64 wrap)
theorem Z19 {i j : Nat} (h : i + j < 9000000000000) : i64.wrap (Zp .u64 (u64.wrap (i64.wrap ((i : Int) + j))) 1) = (((i + j) / 2 : Nat) : Int) := by
 have e1 : i64.wrap ((i : Int) + j) = ((i + j : Nat) : Int) := by rw [w64 (by omega)]; omega
 have e2 : u64.wrap ((i + j : Nat) : Int) = ((i + j : Nat) : Int) := Zk9 (by omega)
 have e3 : Zp .u64 ((i + j : Nat) : Int) 1 = (((i + j) / 2 : Nat) : Int) := by
  unfold Zp
  rw [show (2 : Int) ^ (min (1 : Int).toNat (IntKind.bits .u64)) = 2 from rfl, Int.fdiv_eq_ediv_of_nonneg _ (by omega)]
  omega
 rw [e1, e2, e3, w64 (by omega)]
theorem Z3J {k : Nat} {τ : Ren} {n u v : Nat} {f f1 : Nat → ClS} (h : ∀ x, f1 x = if x = v then f u else if x = u then f v else f x) : Zg k τ n (Zw f1) (Xv (Xv (Zw f) u (f v).c) v (f u).c) := ZA fun x _ => by
 rw [Xa, Xa]
 unfold Zw
 rw [h x]
 by_cases c1 : x = v
 ·subst c1; rw [Nat.beq_refl, if_pos rfl]
 ·rw [Zo c1, if_neg c1]
  by_cases c2 : x = u
  ·subst c2; rw [Nat.beq_refl, if_pos rfl]
  ·rw [Zo c2, if_neg c2]
def OkN (n : Nat) (g : Nat → ClS) : Prop := ∀ x, x < n → (g x).Ok
theorem OkN.rot {n : Nat} {g : Nat → ClS} (h : OkN n g) {a m b : Nat} (h1 : a ≤ m) (h2 : m ≤ b) (h3 : b ≤ n) : OkN n (Yb g a m b) := fun x hx => by
 unfold Yb
 split
 ·split
  ·exact h _ (by omega)
  ·exact h _ (by omega)
 ·exact h _ hx
theorem Z8E {α : Type} {lt : α → α → Bool} {g : Nat → α} {a m b : Nat} (h1 : a < m) (h2 : m < b) : a ≤ UC lt g a m b ∧ UC lt g a m b ≤ m ∧ UC lt g a m b ≤ (a + b) / 2 ∧ m ≤ (a + b) / 2 + m - UC lt g a m b ∧ (a + b) / 2 + m - UC lt g a m b ≤ b := by
 unfold UC
 split
 ·obtain ⟨⟨k1, k2⟩, _⟩ := XE (P := fun c => !lt (g ((a + b) / 2 + m - 1 - c)) (g c)) (show (a + b) / 2 + m - b ≤ (a + b) / 2 by omega)
  omega
 ·obtain ⟨⟨k1, k2⟩, _⟩ := XE (P := fun c => !lt (g ((a + b) / 2 + m - 1 - c)) (g c)) (show a ≤ m by omega)
  omega
theorem Z66 {F : (Nat → ClS) → Nat → Nat → Nat → Nat → ClS} {n : Nat} (hF : ∀ g a m b, OkN n g → a < m → m < b → b ≤ n → OkN n (F g a m b)) {g : Nat → ClS} (h : OkN n g) {a s c : Nat} (hc : c ≤ n) : OkN n (QS F g a s c) := by
 unfold QS
 split
 ·exact hF _ _ _ _ h (by omega) (by omega) hc
 ·exact h
theorem Z2E {n : Nat} : ∀ (d : Nat) (g : Nat → ClS) (a m b : Nat), OkN n g → a < m → m < b → b ≤ n → OkN n (Xs ltC d g a m b)
 | 0, g, a, m, b, h, _, _, _ => h
 | d + 1, g, a, m, b, h, h1, h2, h3 => by
  unfold Xs
  split
  ·obtain ⟨⟨k1, k2⟩, _⟩ := XE (P := fun h => ltC (g h) (g a)) (show m ≤ b by omega)
   exact h.rot (by omega) k1 (by omega)
  ·split
   ·obtain ⟨⟨k1, k2⟩, _⟩ := XE (P := fun h => !ltC (g m) (g h)) (show a ≤ m by omega)
    exact h.rot k2 (by omega) (by omega)
   ·obtain ⟨k1, k2, k3, k4, k5⟩ := Z8E (lt := ltC) (g := g) h1 h2
    unfold Z7E
    exact Z66 (Z2E d) (Z66 (Z2E d) (h.rot k2 k4 (by omega)) (by omega)) (by omega)
noncomputable def U7 : Za := ZeA.withF 210 Zhl
theorem Uu : U7.Ok := Za.withF_ok Z4J ZeQ
def syD (n lo : Nat) : Nat × AV := (0, .nslice ⟨0, 0, 34, 0, 0⟩ 34 n lo)
def ZeR (n lo a i j : Nat) (g : Nat → ClS) : St := ⟨220, [(10, .int .i64 i), (11, .int .i64 j), (4, W1), syD n lo, (1, .int .i64 a)], gH n g, []⟩
def Z9T (n lo a i : Nat) (g : Nat → ClS) : St := ⟨220, [(10, .int .i64 i), syD n lo, (1, .int .i64 a)], gH n g, []⟩
def ZeS (n lo k i : Nat) (g : Nat → ClS) : St := ⟨220, [(13, .int .i64 k), (10, .int .i64 i), syD n lo], gH n g, []⟩
def syE (n : Nat) (g : Nat → ClS) : St := ⟨220, [], gH n g, []⟩
def ZeT (n lo m i j : Nat) (g : Nat → ClS) : St := ⟨220, [(14, .int .i64 i), (15, .int .i64 j), (4, W1), syD n lo, (2, .int .i64 m)], gH n g, []⟩
def Z9U (n lo m i : Nat) (g : Nat → ClS) : St := ⟨220, [(14, .int .i64 i), syD n lo, (2, .int .i64 m)], gH n g, []⟩
def ZeU (n lo k i : Nat) (g : Nat → ClS) : St := ⟨220, [(17, .int .i64 k), (14, .int .i64 i), syD n lo], gH n g, []⟩
def ZjC (n lo a m b c q : Nat) : ZO := [(4, W1), syD n lo, (22, .int .i64 (q - 1 : Nat)), (19, .int .i64 q), (2, .int .i64 m), (1, .int .i64 a), (18, .int .i64 c), (3, .int .i64 b)]
def ZeV (n lo a m b c q s r : Nat) (g : Nat → ClS) : St := ⟨220, (20, .int .i64 s) :: (21, .int .i64 r) :: ZjC n lo a m b c q, gH n g, []⟩
def Z9V (n lo a m b c q s : Nat) (g : Nat → ClS) : St := ⟨220, (20, .int .i64 s) :: ZjC n lo a m b c q, gH n g, []⟩
theorem Zkz (n lo a i j i1 j1 ie : Nat) (g : Nat → ClS) (Z1 Z2 : Prop) (hn : n < 900000000000) (ha : a < n) (hj : j ≤ n) (hok : OkN n g) (hy : i < j → ltC (g ((i + j) / 2)) (g a) = true → i1 = (i + j) / 2 + 1 ∧ j1 = j) (hie : ¬ i < j → ie = i) (hno : i < j → ltC (g ((i + j) / 2)) (g a) = false → i1 = i ∧ j1 = (i + j) / 2) (h1 : i < j → Z1) (h2 : ¬ i < j → Z2) :
  Zz U7 20 196 0 1 (ZeR n lo a i j g) (rdM 1 0 9 (ZeR n lo a i1 j1 g) (Z9T n lo a ie g) (Z9T n lo a ie g) (Z9T n lo a ie g) Z1 Z2 False False) := by
 refine @Eq.mpr _ (let q1 := wrap i64 (Zp u64 (wrap u64 (wrap i64 ((↑i : Int) + (↑j : Int)))) 1);
 let q2 := 0 + Int.toNat q1;
 let q3 := 0 + Int.toNat (↑a : Int);
 let q4 := g q2;
 let q5 := g q3;
 let q6 := ZM byC 0 1;
 let q7 := [AV.vrows 1 1 q6 1];
 let q8 := decide (n = n);
 let q9 := decide (lo ≤ lo);
 let q10 := decide ((↑a : Int) = (↑a : Int));
 let q11 := Zg 1 [] n (Zw g) (Zw g);
 let q12 := q7 = q7 ∧ Z0 q8 (Z0 q9 (Z0 q10 (Z0 q8 (q11 ∧ Z1) False) False) False) False;
 Z0 (decide ((↑i : Int) < (↑j : Int))) (Z0 (decide (0 ≤ q1 ∧ q1 < (↑n : Int))) (Z0 (decide (q2 < n)) (Z0 (decide (0 ≤ (↑a : Int) ∧ (↑a : Int) < (↑n : Int))) (Z0 (decide (q3 < n)) (∃ (a : ClS), ∃ (b : ClS), [AV.int i64 q4.index, AV.int i64 q4.way, AV.arr u8 32 q4.secret] = ClS.c a ∧ [AV.int i64 q5.index, AV.int i64 q5.way, AV.arr u8 32 q5.secret] = ClS.c b ∧ q6 = q6 ∧ (ClS.Ok a ∧ ClS.Ok b) ∧ Z0 (decide (Z4H a b < 0)) (Z0 (decide (wrap i64 (q1 + 1) = (↑i1 : Int))) (Z0 (decide ((↑j : Int) = (↑j1 : Int))) q12 False) False) (Z0 (decide ((↑i : Int) = (↑i1 : Int))) (Z0 (decide (q1 = (↑j1 : Int))) q12 False) False)) False) False) False) False) (Z0 (decide ((↑i : Int) = (↑ie : Int))) (Z0 q8 (Z0 q9 (Z0 q10 (Z0 q8 (q11 ∧ Z2) False) False) False) False) False)) (by kernel_rfl) ?_
 conv => zeta
 try simp only [Zc]
 try simp only [Zi]
 try simp only [Ze]
 try simp only [Zj]
 try simp only [Zk]
 try simp only [Zd]
 try simp only [Int.toNat_natCast, Nat.zero_add, true_and, and_true, Nat.le_refl]
 refine ⟨fun hc => ?_, fun hc => ⟨by rw [hie (by omega)], ZA fun _ _ => rfl, h2 (by omega)⟩⟩
 have hlt : i < j := by omega
 rw [Z19 (by omega)]
 simp only [Int.toNat_natCast]
 have o1 := hok ((i + j) / 2) (by omega)
 have o2 := hok a ha
 have hl := Z16 o1 o2
 refine ⟨by omega, by omega, by omega, by omega, g ((i + j) / 2), g a, rfl, rfl, ⟨o1, o2⟩, fun hm => ?_, fun hm => ?_⟩
 ·obtain ⟨rfl, rfl⟩ := hy hlt (by rw [← hl]; simpa using hm)
  exact ⟨by rw [w64 (by omega)]; omega, rfl, ZA fun _ _ => rfl, h1 hlt⟩
 ·obtain ⟨rfl, rfl⟩ := hno hlt (by rw [← hl]; simpa using hm)
  exact ⟨rfl, rfl, ZA fun _ _ => rfl, h1 hlt⟩
theorem ZkA (n lo m i j i1 j1 ie : Nat) (g : Nat → ClS) (Z1 Z2 : Prop) (hn : n < 900000000000) (ha : m < n) (hj : j ≤ n) (hok : OkN n g) (hy : i < j → ltC (g m) (g ((i + j) / 2)) = false → i1 = (i + j) / 2 + 1 ∧ j1 = j) (hie : ¬ i < j → ie = i) (hno : i < j → ltC (g m) (g ((i + j) / 2)) = true → i1 = i ∧ j1 = (i + j) / 2) (h1 : i < j → Z1) (h2 : ¬ i < j → Z2) :
  Zz U7 20 196 4 1 (ZeT n lo m i j g) (rdM 1 4 9 (ZeT n lo m i1 j1 g) (Z9U n lo m ie g) (Z9U n lo m ie g) (Z9U n lo m ie g) Z1 Z2 False False) := by
 refine @Eq.mpr _ (let q1 := 0 + Int.toNat (↑m : Int);
 let q2 := wrap i64 (Zp u64 (wrap u64 (wrap i64 ((↑i : Int) + (↑j : Int)))) 1);
 let q3 := 0 + Int.toNat q2;
 let q4 := g q1;
 let q5 := g q3;
 let q6 := ZM byC 0 1;
 let q7 := [AV.vrows 1 1 q6 1];
 let q8 := decide (n = n);
 let q9 := decide (lo ≤ lo);
 let q10 := decide ((↑m : Int) = (↑m : Int));
 let q11 := Zg 1 [] n (Zw g) (Zw g);
 let q12 := q7 = q7 ∧ Z0 q8 (Z0 q9 (Z0 q10 (Z0 q8 (q11 ∧ Z1) False) False) False) False;
 Z0 (decide ((↑i : Int) < (↑j : Int))) (Z0 (decide (0 ≤ (↑m : Int) ∧ (↑m : Int) < (↑n : Int))) (Z0 (decide (q1 < n)) (Z0 (decide (0 ≤ q2 ∧ q2 < (↑n : Int))) (Z0 (decide (q3 < n)) (∃ (a : ClS), ∃ (b : ClS), [AV.int i64 q4.index, AV.int i64 q4.way, AV.arr u8 32 q4.secret] = ClS.c a ∧ [AV.int i64 q5.index, AV.int i64 q5.way, AV.arr u8 32 q5.secret] = ClS.c b ∧ q6 = q6 ∧ (ClS.Ok a ∧ ClS.Ok b) ∧ Z0 (!decide (Z4H a b < 0)) (Z0 (decide (wrap i64 (q2 + 1) = (↑i1 : Int))) (Z0 (decide ((↑j : Int) = (↑j1 : Int))) q12 False) False) (Z0 (decide ((↑i : Int) = (↑i1 : Int))) (Z0 (decide (q2 = (↑j1 : Int))) q12 False) False)) False) False) False) False) (Z0 (decide ((↑i : Int) = (↑ie : Int))) (Z0 q8 (Z0 q9 (Z0 q10 (Z0 q8 (q11 ∧ Z2) False) False) False) False) False)) (by kernel_rfl) ?_
 conv => zeta
 try simp only [Zc]
 try simp only [Zi]
 try simp only [Ze]
 try simp only [Zj]
 try simp only [Zk]
 try simp only [Zd]
 try simp only [Int.toNat_natCast, Nat.zero_add, true_and, and_true, Nat.le_refl]
 refine ⟨fun hc => ?_, fun hc => ⟨by rw [hie (by omega)], ZA fun _ _ => rfl, h2 (by omega)⟩⟩
 have hlt : i < j := by omega
 rw [Z19 (by omega)]
 simp only [Int.toNat_natCast]
 have o1 := hok ((i + j) / 2) (by omega)
 have o2 := hok m ha
 have hl := Z16 o2 o1
 refine ⟨by omega, by omega, by omega, by omega, g m, g ((i + j) / 2), rfl, rfl, ⟨o2, o1⟩, fun hm => ?_, fun hm => ?_⟩
 ·obtain ⟨rfl, rfl⟩ := hy hlt (by rw [← hl]; simpa using hm)
  exact ⟨by rw [w64 (by omega)]; omega, rfl, ZA fun _ _ => rfl, h1 hlt⟩
 ·obtain ⟨rfl, rfl⟩ := hno hlt (by rw [← hl]; simpa using hm)
  exact ⟨rfl, rfl, ZA fun _ _ => rfl, h1 hlt⟩
theorem ZkB (n lo k i : Nat) (f f1 : Nat → ClS) (Z1 Z2 : Prop) (hn : n < 900000000000) (hi : 0 < i ∧ i ≤ n) (hf : k + 1 < i → ∀ x, f1 x = if x = k + 1 then f k else if x = k then f (k + 1) else f x) (h1 : k + 1 < i → Z1) (h2 : ¬ k + 1 < i → Z2) :
  Zz U7 20 196 2 1 (ZeS n lo k i f) (rdM 1 2 9 (ZeS n lo (k + 1) i f1) (syE n f) (syE n f) (syE n f) Z1 Z2 False False) := by
 refine @Eq.mpr _ (let q1 := wrap i64 ((↑k : Int) + 1);
 let q2 := decide (0 ≤ q1 ∧ q1 < (↑n : Int));
 let q3 := 0 + Int.toNat q1;
 let q4 := decide (0 ≤ (↑k : Int) ∧ (↑k : Int) < (↑n : Int));
 let q5 := 0 + Int.toNat (↑k : Int);
 let q6 := decide (n = n);
 let q7 := Zw f;
 let q8 := f q3;
 let q9 := f q5;
 Z0 (decide ((↑k : Int) < wrap i64 ((↑i : Int) - 1))) (Z0 q2 (Z0 (decide (q3 < n)) (Z0 q4 (Z0 (decide (q5 < n)) (Z0 q4 (Z0 (decide (q5 < n)) (Z0 q2 (Z0 (decide (q3 < n)) (Z0 (decide (q1 = (↑(k + 1) : Int))) (Z0 (decide ((↑i : Int) = (↑i : Int))) (Z0 q6 (Z0 (decide (lo ≤ lo)) (Z0 q6 (Zg 1 [] n (Zw f1) (Xv (Xv q7 q5 [AV.int i64 q8.index, AV.int i64 q8.way, AV.arr u8 32 q8.secret]) q3 [AV.int i64 q9.index, AV.int i64 q9.way, AV.arr u8 32 q9.secret]) ∧ Z1) False) False) False) False) False) False) False) False) False) False) False) False) False) (Z0 q6 (Zg 1 [] n q7 q7 ∧ Z2) False)) (by kernel_rfl) ?_
 conv => zeta
 try simp only [Zc]
 try simp only [Zi]
 try simp only [Ze]
 try simp only [Zj]
 try simp only [Zk]
 try simp only [Zd]
 try simp only [Int.toNat_natCast, Nat.zero_add, true_and, and_true, Nat.le_refl]
 have w1 : i64.wrap ((i : Int) - 1) = ((i - 1 : Nat) : Int) := by rw [w64 (by omega)]; omega
 rw [w1]
 refine ⟨fun hc => ?_, fun hc => ⟨ZA fun _ _ => rfl, h2 (by omega)⟩⟩
 have hlt : k + 1 < i := by omega
 have w2 : i64.wrap ((k : Int) + 1) = ((k + 1 : Nat) : Int) := by rw [w64 (by omega)]; omega
 rw [w2]
 simp only [Int.toNat_natCast]
 have hR : Zg 1 [] n (Zw f1) (Xv (Xv (Zw f) k (f (k + 1)).c) (k + 1) (f k).c) := Z3J (hf hlt)
 repeat' first | exact hR | exact h1 hlt | trivial | rfl | omega | apply And.intro
theorem ZkC (n lo k i : Nat) (f f1 : Nat → ClS) (Z1 Z2 : Prop) (hn : n < 900000000000) (hk : k < n) (hf : i < k → ∀ x, f1 x = if x = k - 1 then f k else if x = k then f (k - 1) else f x) (h1 : i < k → Z1) (h2 : ¬ i < k → Z2) :
  Zz U7 20 196 6 1 (ZeU n lo k i f) (rdM 1 6 9 (ZeU n lo (k - 1) i f1) (syE n f) (syE n f) (syE n f) Z1 Z2 False False) := by
 refine @Eq.mpr _ (let q1 := wrap i64 ((↑k : Int) - 1);
 let q2 := decide (0 ≤ q1 ∧ q1 < (↑n : Int));
 let q3 := 0 + Int.toNat q1;
 let q4 := decide (0 ≤ (↑k : Int) ∧ (↑k : Int) < (↑n : Int));
 let q5 := 0 + Int.toNat (↑k : Int);
 let q6 := decide (n = n);
 let q7 := Zw f;
 let q8 := f q3;
 let q9 := f q5;
 Z0 (decide ((↑k : Int) > (↑i : Int))) (Z0 q2 (Z0 (decide (q3 < n)) (Z0 q4 (Z0 (decide (q5 < n)) (Z0 q4 (Z0 (decide (q5 < n)) (Z0 q2 (Z0 (decide (q3 < n)) (Z0 (decide (q1 = (↑(k - 1) : Int))) (Z0 (decide ((↑i : Int) = (↑i : Int))) (Z0 q6 (Z0 (decide (lo ≤ lo)) (Z0 q6 (Zg 1 [] n (Zw f1) (Xv (Xv q7 q5 [AV.int i64 q8.index, AV.int i64 q8.way, AV.arr u8 32 q8.secret]) q3 [AV.int i64 q9.index, AV.int i64 q9.way, AV.arr u8 32 q9.secret]) ∧ Z1) False) False) False) False) False) False) False) False) False) False) False) False) False) (Z0 q6 (Zg 1 [] n q7 q7 ∧ Z2) False)) (by kernel_rfl) ?_
 conv => zeta
 try simp only [Zc]
 try simp only [Zi]
 try simp only [Ze]
 try simp only [Zj]
 try simp only [Zk]
 try simp only [Zd]
 try simp only [Int.toNat_natCast, Nat.zero_add, true_and, and_true, Nat.le_refl]
 refine ⟨fun hc => ?_, fun hc => ⟨ZA fun _ _ => rfl, h2 (by omega)⟩⟩
 have hlt : i < k := by omega
 have w2 : i64.wrap ((k : Int) - 1) = ((k - 1 : Nat) : Int) := by rw [w64 (by omega)]; omega
 rw [w2]
 simp only [Int.toNat_natCast]
 have hR : Zg 1 [] n (Zw f1) (Xv (Xv (Zw f) k (f (k - 1)).c) (k - 1) (f k).c) := Z3J (hf hlt)
 repeat' first | exact hR | exact h1 hlt | trivial | rfl | omega | apply And.intro
theorem ZkD (n lo a m b c q i j i1 j1 ie : Nat) (g : Nat → ClS) (Z1 Z2 : Prop) (hn : n < 900000000000) (hj : j < q ∧ q ≤ n + i ∧ j ≤ n) (hok : OkN n g) (hy : i < j → ltC (g (q - 1 - (i + j) / 2)) (g ((i + j) / 2)) = false → i1 = (i + j) / 2 + 1 ∧ j1 = j) (hie : ¬ i < j → ie = i) (hno : i < j → ltC (g (q - 1 - (i + j) / 2)) (g ((i + j) / 2)) = true → i1 = i ∧ j1 = (i + j) / 2) (h1 : i < j → Z1) (h2 : ¬ i < j → Z2) :
  Zz U7 20 196 8 1 (ZeV n lo a m b c q i j g) (rdM 1 8 9 (ZeV n lo a m b c q i1 j1 g) (Z9V n lo a m b c q ie g) (Z9V n lo a m b c q ie g) (Z9V n lo a m b c q ie g) Z1 Z2 False False) := by
 refine @Eq.mpr _ (let q1 := (↑(q - 1) : Int);
 let q2 := wrap i64 (Zp u64 (wrap u64 (wrap i64 ((↑i : Int) + (↑j : Int)))) 1);
 let q3 := wrap i64 (q1 - q2);
 let q4 := 0 + Int.toNat q3;
 let q5 := 0 + Int.toNat q2;
 let q6 := g q4;
 let q7 := g q5;
 let q8 := ZM byC 0 1;
 let q9 := [AV.vrows 1 1 q8 1];
 let q10 := q9 = q9;
 let q11 := decide (n = n);
 let q12 := decide (lo ≤ lo);
 let q13 := decide (q1 = q1);
 let q14 := decide ((↑q : Int) = (↑q : Int));
 let q15 := decide ((↑m : Int) = (↑m : Int));
 let q16 := decide ((↑a : Int) = (↑a : Int));
 let q17 := decide ((↑c : Int) = (↑c : Int));
 let q18 := decide ((↑b : Int) = (↑b : Int));
 let q19 := Zg 1 [] n (Zw g) (Zw g);
 let q20 := q10 ∧ Z0 q11 (Z0 q12 (Z0 q13 (Z0 q14 (Z0 q15 (Z0 q16 (Z0 q17 (Z0 q18 (Z0 q11 (q19 ∧ Z1) False) False) False) False) False) False) False) False) False;
 Z0 (decide ((↑i : Int) < (↑j : Int))) (Z0 (decide (0 ≤ q3 ∧ q3 < (↑n : Int))) (Z0 (decide (q4 < n)) (Z0 (decide (0 ≤ q2 ∧ q2 < (↑n : Int))) (Z0 (decide (q5 < n)) (∃ (a : ClS), ∃ (b : ClS), [AV.int i64 q6.index, AV.int i64 q6.way, AV.arr u8 32 q6.secret] = ClS.c a ∧ [AV.int i64 q7.index, AV.int i64 q7.way, AV.arr u8 32 q7.secret] = ClS.c b ∧ q8 = q8 ∧ (ClS.Ok a ∧ ClS.Ok b) ∧ Z0 (!decide (Z4H a b < 0)) (Z0 (decide (wrap i64 (q2 + 1) = (↑i1 : Int))) (Z0 (decide ((↑j : Int) = (↑j1 : Int))) q20 False) False) (Z0 (decide ((↑i : Int) = (↑i1 : Int))) (Z0 (decide (q2 = (↑j1 : Int))) q20 False) False)) False) False) False) False) (Z0 (decide ((↑i : Int) = (↑ie : Int))) (q10 ∧ Z0 q11 (Z0 q12 (Z0 q13 (Z0 q14 (Z0 q15 (Z0 q16 (Z0 q17 (Z0 q18 (Z0 q11 (q19 ∧ Z2) False) False) False) False) False) False) False) False) False) False)) (by kernel_rfl) ?_
 conv => zeta
 try simp only [Zc]
 try simp only [Zi]
 try simp only [Ze]
 try simp only [Zj]
 try simp only [Zk]
 try simp only [Zd]
 try simp only [Int.toNat_natCast, Nat.zero_add, true_and, and_true, Nat.le_refl]
 refine ⟨fun hc => ?_, fun hc => ⟨by rw [hie (by omega)], ZA fun _ _ => rfl, h2 (by omega)⟩⟩
 have hlt : i < j := by omega
 rw [Z19 (by omega)]
 have w1 : i64.wrap (((q - 1 : Nat) : Int) - ((i + j) / 2 : Nat)) = ((q - 1 - (i + j) / 2 : Nat) : Int) := by rw [w64 (by omega)]; omega
 rw [w1]
 simp only [Int.toNat_natCast]
 have o1 := hok ((i + j) / 2) (by omega)
 have o2 := hok (q - 1 - (i + j) / 2) (by omega)
 have hl := Z16 o2 o1
 refine ⟨by omega, by omega, by omega, by omega, g (q - 1 - (i + j) / 2), g ((i + j) / 2), rfl, rfl, ⟨o2, o1⟩, fun hm => ?_, fun hm => ?_⟩
 ·obtain ⟨rfl, rfl⟩ := hy hlt (by rw [← hl]; simpa using hm)
  exact ⟨by rw [w64 (by omega)]; omega, rfl, ZA fun _ _ => rfl, h1 hlt⟩
 ·obtain ⟨rfl, rfl⟩ := hno hlt (by rw [← hl]; simpa using hm)
  exact ⟨rfl, rfl, ZA fun _ _ => rfl, h1 hlt⟩
theorem ZcA {P : Nat → Bool} {i j t : Nat} (h : (bsT P (i, j) t).1 < (bsT P (i, j) t).2) (hp : P (((bsT P (i, j) t).1 + (bsT P (i, j) t).2) / 2) = true) : (bsT P (i, j) (t + 1)).1 = ((bsT P (i, j) t).1 + (bsT P (i, j) t).2) / 2 + 1 ∧ (bsT P (i, j) (t + 1)).2 = (bsT P (i, j) t).2 := by
 show (bsN P (bsT P (i, j) t)).1 = _ ∧ (bsN P (bsT P (i, j) t)).2 = _
 unfold bsN
 rw [if_pos h, if_pos hp]
 exact ⟨rfl, rfl⟩
theorem ZcB {P : Nat → Bool} {i j t : Nat} (h : (bsT P (i, j) t).1 < (bsT P (i, j) t).2) (hp : P (((bsT P (i, j) t).1 + (bsT P (i, j) t).2) / 2) = false) : (bsT P (i, j) (t + 1)).1 = (bsT P (i, j) t).1 ∧ (bsT P (i, j) (t + 1)).2 = ((bsT P (i, j) t).1 + (bsT P (i, j) t).2) / 2 := by
 show (bsN P (bsT P (i, j) t)).1 = _ ∧ (bsN P (bsT P (i, j) t)).2 = _
 unfold bsN
 rw [if_pos h, if_neg (by rw [hp]; decide)]
 exact ⟨rfl, rfl⟩
def bsGo (P : Nat → Bool) (i j t : Nat) : Prop := (bsT P (i, j) t).1 < (bsT P (i, j) t).2
theorem Z4N {P : Nat → Bool} {i j t : Nat} (h : bsGo P i j t) : t < j - i := by
 have := Z7C (P := P) (i := i) (j := j) t
 unfold bsGo at h
 omega
structure SyC (n a m b : Nat) (g : Nat → ClS) : Prop where
 hn : n < 900000000000
 h1 : a < m
 h2 : m < b
 h3 : b ≤ n
 ok : OkN n g
def QT (g : Nat → ClS) (a : Nat) (h : Nat) : Bool := ltC (g h) (g a)
def Vh (g : Nat → ClS) (m : Nat) (h : Nat) : Bool := !ltC (g m) (g h)
def Z0o (g : Nat → ClS) (a m b : Nat) (c : Nat) : Bool := !ltC (g ((a + b) / 2 + m - 1 - c)) (g c)
theorem Zhm {g : Nat → ClS} {m x : Nat} (h : ltC (g m) (g x) = false) : Vh g m x = true := by unfold Vh; rw [h]; rfl
theorem Zhn {g : Nat → ClS} {m x : Nat} (h : ltC (g m) (g x) = true) : Vh g m x = false := by unfold Vh; rw [h]; rfl
theorem Zho {g : Nat → ClS} {a m b q x : Nat} (hq : q = (a + b) / 2 + m) (h : ltC (g (q - 1 - x)) (g x) = false) : Z0o g a m b x = true := by subst hq; unfold Z0o; rw [h]; rfl
theorem Zhp {g : Nat → ClS} {a m b q x : Nat} (hq : q = (a + b) / 2 + m) (h : ltC (g (q - 1 - x)) (g x) = true) : Z0o g a m b x = false := by subst hq; unfold Z0o; rw [h]; rfl
def ZjD (n lo a m b : Nat) (g : Nat → ClS) : Nat → St → KE → Prop := goM 1 (ZeR n lo a m b g) (SyC n a m b g) (ZT 0 (b - m) 9 (bsGo (QT g a) m b) (fun t => ¬ bsGo (QT g a) m b t) (fun _ => False) (fun _ => False) (fun _ => Z9T n lo a (bsR (QT g a) m b) g) (fun _ => Z9T n lo a (bsR (QT g a) m b) g) (fun _ => Z9T n lo a (bsR (QT g a) m b) g))
theorem ZeW (n lo a m b : Nat) (g : Nat → ClS) : (U7.withL 196 0 (ZjD n lo a m b g)).Ok :=
 Za.withGoM (N := 20) (S := fun t => ZeR n lo a (bsT (QT g a) (m, b) t).1 (bsT (QT g a) (m, b) t).2 g) Uu (by kernel_rfl) fun hC => ⟨rfl, fun t ht hgo => by
  obtain ⟨c1, c2, c3, c4, c5⟩ := hC
  have hi := QR (P := QT g a) (i := m) (j := b) (by omega) t
  exact Zkz n lo a _ _ _ _ _ g (bsGo (QT g a) m b t ∧ t < b - m) (¬ bsGo (QT g a) m b t) c1 (by omega) (by have := hi.hi; omega) c5 (fun h k => ZcA h k) (fun h => (Z7D ht h).symm) (fun h k => ZcB h k) (fun h => ⟨h, Z4N h⟩) (fun h => h)⟩
def ZjE (n lo a m b : Nat) (g : Nat → ClS) : Nat → St → KE → Prop := goM 1 (ZeT n lo m a m g) (SyC n a m b g) (ZT 4 (m - a) 9 (bsGo (Vh g m) a m) (fun t => ¬ bsGo (Vh g m) a m t) (fun _ => False) (fun _ => False) (fun _ => Z9U n lo m (bsR (Vh g m) a m) g) (fun _ => Z9U n lo m (bsR (Vh g m) a m) g) (fun _ => Z9U n lo m (bsR (Vh g m) a m) g))
theorem ZeX (n lo a m b : Nat) (g : Nat → ClS) : (U7.withL 196 4 (ZjE n lo a m b g)).Ok :=
 Za.withGoM (N := 20) (S := fun t => ZeT n lo m (bsT (Vh g m) (a, m) t).1 (bsT (Vh g m) (a, m) t).2 g) Uu (by kernel_rfl) fun hC => ⟨rfl, fun t ht hgo => by
  obtain ⟨c1, c2, c3, c4, c5⟩ := hC
  have hi := QR (P := Vh g m) (i := a) (j := m) (by omega) t
  exact ZkA n lo m _ _ _ _ _ g (bsGo (Vh g m) a m t ∧ t < m - a) (¬ bsGo (Vh g m) a m t) c1 (by omega) (by have := hi.hi; omega) c5 (fun h k => ZcA h (Zhm k)) (fun h => (Z7D ht h).symm) (fun h k => ZcB h (Zhn k)) (fun h => ⟨h, Z4N h⟩) (fun h => h)⟩
theorem ZeY {g : Nat → ClS} {a t : Nat} (x : Nat) : Yb g a (a + 1) (a + (t + 1) + 1) x = if x = a + t + 1 then Yb g a (a + 1) (a + t + 1) (a + t) else if x = a + t then Yb g a (a + 1) (a + t + 1) (a + t + 1) else Yb g a (a + 1) (a + t + 1) x := by
 unfold Yb
 repeat' split
 all_goals first | rfl | omega | (congr 1; omega)
theorem ZeZ {g : Nat → ClS} {m t : Nat} (h : t < m) (x : Nat) : Yb g (m - (t + 1)) m (m + 1) x = if x = m - t - 1 then Yb g (m - t) m (m + 1) (m - t) else if x = m - t then Yb g (m - t) m (m + 1) (m - t - 1) else Yb g (m - t) m (m + 1) x := by
 unfold Yb
 repeat' split
 all_goals first | rfl | omega | (congr 1; omega)
def ZjF (n lo a i : Nat) (g : Nat → ClS) : Nat → St → KE → Prop := goM 1 (ZeS n lo a i g) (n < 900000000000 ∧ a < i ∧ i ≤ n) (ZT 2 (i - 1 - a) 9 (fun t => t < i - 1 - a) (fun t => t = i - 1 - a) (fun _ => False) (fun _ => False) (fun t => syE n (Yb g a (a + 1) (a + t + 1))) (fun t => syE n (Yb g a (a + 1) (a + t + 1))) (fun t => syE n (Yb g a (a + 1) (a + t + 1))))
theorem Zf0 (n lo a i : Nat) (g : Nat → ClS) : (U7.withL 196 2 (ZjF n lo a i g)).Ok :=
 Za.withGoM (N := 20) (S := fun t => ZeS n lo (a + t) i (Yb g a (a + 1) (a + t + 1))) Uu (by kernel_rfl) fun hC => ⟨by rw [Z64]; rfl, fun t ht hgo => by
  obtain ⟨c1, c2, c3⟩ := hC
  exact ZkB n lo (a + t) i _ _ (t < i - 1 - a ∧ t < i - 1 - a) (t = i - 1 - a) c1 ⟨by omega, c3⟩ (fun _ x => ZeY x) (fun h => ⟨by omega, by omega⟩) (fun h => by omega)⟩
def ZjG (n lo m i : Nat) (g : Nat → ClS) : Nat → St → KE → Prop := goM 1 (ZeU n lo m i g) (n < 900000000000 ∧ i ≤ m ∧ m < n) (ZT 6 (m - i) 9 (fun t => t < m - i) (fun t => t = m - i) (fun _ => False) (fun _ => False) (fun t => syE n (Yb g (m - t) m (m + 1))) (fun t => syE n (Yb g (m - t) m (m + 1))) (fun t => syE n (Yb g (m - t) m (m + 1))))
theorem Zf1 (n lo m i : Nat) (g : Nat → ClS) : (U7.withL 196 6 (ZjG n lo m i g)).Ok :=
 Za.withGoM (N := 20) (S := fun t => ZeU n lo (m - t) i (Yb g (m - t) m (m + 1))) Uu (by kernel_rfl) fun hC => ⟨by rw [Nat.sub_zero, Z63], fun t ht hgo => by
  obtain ⟨c1, c2, c3⟩ := hC
  exact ZkC n lo (m - t) i _ _ (t < m - i ∧ t < m - i) (t = m - i) c1 (by omega) (fun _ x => ZeZ (by omega) x) (fun h => ⟨by omega, by omega⟩) (fun h => by omega)⟩
def syI (a m b : Nat) : Nat := if (a + b) / 2 < m then (a + b) / 2 + m - b else a
def syJ (a m b : Nat) : Nat := if (a + b) / 2 < m then (a + b) / 2 else m
theorem Zhq {g : Nat → ClS} {a m b : Nat} : UC ltC g a m b = bsR (Z0o g a m b) (syI a m b) (syJ a m b) := by
 unfold UC syI syJ
 split <;> rfl
def ZjH (n lo a m b c q s : Nat) (g : Nat → ClS) : Nat → St → KE → Prop := goM 1 (ZeV n lo a m b c q (syI a m b) (syJ a m b) g) (SyC n a m b g ∧ q = (a + b) / 2 + m ∧ s = UC ltC g a m b) (ZT 8 (syJ a m b - syI a m b) 9 (bsGo (Z0o g a m b) (syI a m b) (syJ a m b)) (fun t => ¬ bsGo (Z0o g a m b) (syI a m b) (syJ a m b) t) (fun _ => False) (fun _ => False) (fun _ => Z9V n lo a m b c q s g) (fun _ => Z9V n lo a m b c q s g) (fun _ => Z9V n lo a m b c q s g))
theorem Zf2 (n lo a m b c q s : Nat) (g : Nat → ClS) : (U7.withL 196 8 (ZjH n lo a m b c q s g)).Ok :=
 Za.withGoM (N := 20) (S := fun t => ZeV n lo a m b c q (bsT (Z0o g a m b) (syI a m b, syJ a m b) t).1 (bsT (Z0o g a m b) (syI a m b, syJ a m b) t).2 g) Uu (by kernel_rfl) fun hC => ⟨rfl, fun t ht hgo => by
  obtain ⟨⟨c1, c2, c3, c4, c5⟩, c6, c7⟩ := hC
  have hij : syI a m b ≤ syJ a m b ∧ syJ a m b < q ∧ q ≤ n + syI a m b ∧ syJ a m b ≤ n := by
   unfold syI syJ
   split <;> omega
  have hi := QR (P := Z0o g a m b) hij.1 t
  exact ZkD n lo a m b c q _ _ _ _ _ g (bsGo (Z0o g a m b) (syI a m b) (syJ a m b) t ∧ t < syJ a m b - syI a m b) (¬ bsGo (Z0o g a m b) (syI a m b) (syJ a m b) t) c1 (by have := hi.hi; have := hi.lo; omega) c5 (fun h k => ZcA h (Zho c6 k)) (fun h => by rw [c7, Zhq]; exact (Z7D ht h).symm) (fun h k => ZcB h (Zhp c6 k)) (fun h => ⟨h, Z4N h⟩) (fun h => h)⟩
end Go.Tk
end
section
namespace Go.Tk
open IntKind (i64 u8 u32 u64 wrap)
def Za.bare (G : Za) : Za := { G with psumm := fun _ => none, fsumm := fun _ => none }
theorem Za.bare_ok {G : Za} (hG : G.Ok) : G.bare.Ok := ⟨hG.draw, fun _ _ _ _ _ h => by simp [Za.bare] at h, fun _ _ _ _ _ h => by simp [Za.bare] at h, hG.lsumm⟩
@[irreducible] def evR (G : Za) (n : Nat) (f : FuncId) (args : List AV) (h : Z7) (K : KO) : Prop := Z5l G.bare (Z1P G n) f args h K
theorem Zhr {G : Za} (hG : G.Ok) {n : Nat} {f : FuncId} {args : List AV} {h : Z7} {K : KO} (hl : evR G n f args h K) : Zh G.P f args h K := by
 unfold evR at hl
 exact Z1R (G := G.bare) (Za.bare_ok hG) (Uh hG n) hl
theorem Spec.evR {G : Za} (hG : G.Ok) {n : Nat} {f : FuncId} {args : List AV} {h0 : Z7} {v : AV} {nx : Nat} {bs : List (Nat × Blk)} (h : evR G n f args h0 (Ym h0.next (.ret v) nx bs)) : Spec G.P f args h0 (.ret v) nx bs := by
 intro E w rs he hl
 refine (Zhr hG h E w rs he hl).mono ?_
 rintro e w' ⟨E', o', h', hK, hev, hor⟩
 unfold Ym at hK
 cases hor with
 | ret u r hr =>
  obtain ⟨E₂, h1, h2⟩ := Z4m rfl hK he hev hr
  exact ⟨E₂, h1, .ret _ _ h2⟩
 | panic u r hr => exact hK.elim
def syF (d : Nat) : Y6 := fun args h K => match args with
 | .nslice p esz len lo :: r => frA [p.blk] h 20 (.nslice p esz len lo :: r) fun Bs a => match Bs, a with
  | [.rows 34 m f], [.nslice ⟨0, 0, 34, 0, 0⟩ 34 n lo, .int .i64 A, .int .i64 B, .int .i64 C, .func (.func 124) [] [.pview [.vrows 1 1 e 1] 0]] => ∃ (g : Nat → ClS) (a k b : Nat), (m = n ∧ A = (a : Int) ∧ B = (k : Int) ∧ C = (b : Int)) ∧ (SyC n a k b g ∧ b - a ≤ d) ∧ e = ZM byC 0 1 ∧ f = Zw g ∧ K (.ret (.tuple [])) ⟨h.next, (p.blk, .rows 34 n (Zw (Xs ltC d g a k b))) :: Xb h.bs p.blk⟩
  | _, _ => False
 | _ => False
def ZjI (n lo a m b c q : Nat) : ZO := [(4, W1), syD n lo, (19, .int .i64 q), (2, .int .i64 m), (1, .int .i64 a), (18, .int .i64 c), (3, .int .i64 b)]
def syA (n lo a m b c q : Nat) (B : Bool) (g : Nat → ClS) : St := ⟨220, (140, .bool B) :: ZjI n lo a m b c q, gH n g, []⟩
def syB (n lo a m b c q s r : Nat) (g : Nat → ClS) : St := ⟨220, (20, .int .i64 s) :: (21, .int .i64 r) :: ZjI n lo a m b c q, gH n g, []⟩
theorem ZkE (n lo a m b c q s r : Nat) (B : Bool) (g : Nat → ClS) (hq : (B = true → b ≤ q) ∧ q < 9000000000000) (hs : s = if B = true then q - b else a) (hr : r = if B = true then c else m) :
  ZbA G0 20 196 100140 1 (syA n lo a m b c q B g) (jnM 1 (syB n lo a m b c q s r g)) := by
 refine @Eq.mpr _ (let q1 := [AV.vrows 1 1 (ZM byC 0 1) 1];
 let q2 := decide (n = n);
 let q3 := q1 = q1 ∧ Z0 q2 (Z0 (decide (lo ≤ lo)) (Z0 (decide ((↑q : Int) = (↑q : Int))) (Z0 (decide ((↑m : Int) = (↑m : Int))) (Z0 (decide ((↑a : Int) = (↑a : Int))) (Z0 (decide ((↑c : Int) = (↑c : Int))) (Z0 (decide ((↑b : Int) = (↑b : Int))) (Z0 q2 (Zg 1 [] n (Zw g) (Zw g) ∧ True) False) False) False) False) False) False) False) False;
 Z0 B (Z0 (decide (wrap i64 ((↑q : Int) - (↑b : Int)) = (↑s : Int))) (Z0 (decide ((↑c : Int) = (↑r : Int))) q3 False) False) (Z0 (decide ((↑a : Int) = (↑s : Int))) (Z0 (decide ((↑m : Int) = (↑r : Int))) q3 False) False)) (by kernel_rfl) ?_
 conv => zeta
 try simp only [Zc]
 try simp only [Zi]
 try simp only [Ze]
 try simp only [Zj]
 try simp only [Zk]
 try simp only [Zd]
 try simp only [Int.toNat_natCast, Nat.zero_add, true_and, and_true, Nat.le_refl]
 subst hs hr
 refine ⟨fun h => ?_, fun h => ?_⟩
 ·subst h
  have hq0 := hq.1 rfl
  have e : i64.wrap ((q : Int) - b) = ((q - b : Nat) : Int) := by rw [w64 (by omega)]; omega
  repeat' first | exact ZA fun _ _ => rfl | exact e | rfl | apply And.intro
 ·subst h
  repeat' first | exact ZA fun _ _ => rfl | rfl | apply And.intro
def ZjJ (n lo a m b c q s r : Nat) (B : Bool) (g : Nat → ClS) : Nat → St → KE → Prop := ZbB 1 (syA n lo a m b c q B g) (syB n lo a m b c q s r g) (((B = true → b ≤ q) ∧ q < 9000000000000) ∧ (s = if B = true then q - b else a) ∧ r = if B = true then c else m)
theorem Zf3 (n lo a m b c q s r : Nat) (B : Bool) (g : Nat → ClS) : (G0.withL 196 100140 (ZjJ n lo a m b c q s r B g)).Ok :=
 Za.withJ (N := 20) Zv (by kernel_rfl) fun h => ZkE n lo a m b c q s r B g h.1 h.2.1 h.2.2
noncomputable def ZjK (n lo a m b c q s d : Nat) (B : Bool) (g : Nat → ClS) : Za := ((((((U7.withF 196 (syF d)).withL 196 0 (ZjD n lo a m b g)).withL 196 2 (ZjF n lo a (bsR (QT g a) m b) g)).withL 196 4 (ZjE n lo a m b g)).withL 196 6 (ZjG n lo m (bsR (Vh g m) a m) g)).withL 196 8 (ZjH n lo a m b c q s g)).withL 196 100140 (ZjJ n lo a m b c q (syI a m b) (syJ a m b) B g)
theorem Zf4 {d : Nat} (hF : ∀ args h K, syF d args h K → Zh PP 196 args h K) (n lo a m b c q s : Nat) (B : Bool) (g : Nat → ClS) : (ZjK n lo a m b c q s d B g).Ok :=
 Za.withL_join (H := G0) (Za.withL_join (H := U7) (Za.withL_join (H := U7) (Za.withL_join (H := U7) (Za.withL_join (H := U7) (Za.withL_join (H := U7) (Za.withF_ok Uu hF) rfl (ZeW n lo a m b g)) rfl (Zf0 n lo a _ g)) rfl (ZeX n lo a m b g)) rfl (Zf1 n lo m _ g)) rfl (Zf2 n lo a m b c q s g)) rfl (Zf3 n lo a m b c q _ _ B g)
theorem Zhs {d : Nat} {g : Nat → ClS} {a m b : Nat} (h : m - a = 1) : Xs ltC (d + 1) g a m b = Yb g a m (bsR (QT g a) m b) := by
 unfold Xs
 rw [if_pos h]
 rfl
theorem Zht {d : Nat} {g : Nat → ClS} {a m b : Nat} (h : ¬ m - a = 1) (h2 : b - m = 1) : Xs ltC (d + 1) g a m b = Yb g (bsR (Vh g m) a m) m b := by
 unfold Xs
 rw [if_neg h, if_pos h2]
 rfl
theorem Zhu {d : Nat} {g : Nat → ClS} {a m b : Nat} (h : ¬ m - a = 1) (h2 : ¬ b - m = 1) : Xs ltC (d + 1) g a m b = Z7E (Xs ltC d) g a m b ((a + b) / 2) (UC ltC g a m b) := by
 rw [Xs, if_neg h, if_neg h2]
theorem Zf5 {g : Nat → ClS} {a m b : Nat} (h1 : a ≤ m) (h2 : m ≤ b) (h : ¬ (a < m ∧ m < b)) : Yb g a m b = g := by
 rcases Nat.lt_or_ge a m with k | k
 ·rw [show b = m by omega]; exact Z64
 ·rw [show a = m by omega]; exact Z63
theorem ZkF (n lo a m b c q s d : Nat) (B : Bool) (g g1 : Nat → ClS) (hC : SyC n a m b g) (hd : b - a ≤ d + 1) (hB : B = decide ((a + b) / 2 < m)) (hc : c = (a + b) / 2) (hq : q = (a + b) / 2 + m) (hs : s = UC ltC g a m b) (hg : g1 = Xs ltC (d + 1) g a m b) :
  evR (ZjK n lo a m b c q s d B g) 20 196 [.nslice ⟨0, 0, 34, 0, 0⟩ 34 n lo, .int .i64 a, .int .i64 m, .int .i64 b, W1] (gH n g) (Ym 1 (.ret (.tuple [])) 1 [(0, .rows 34 n (Zw g1))]) := by
 refine @Eq.mpr _ (let q1 := decide ((↑m : Int) = (↑m : Int));
 let q2 := decide ((↑b : Int) = (↑b : Int));
 let q3 := ZM byC 0 1;
 let q4 := [AV.vrows 1 1 q3 1];
 let q5 := q4 = q4;
 let q6 := decide (n = n);
 let q7 := decide (lo ≤ lo);
 let q8 := decide ((↑a : Int) = (↑a : Int));
 let q9 := Zw g;
 let q10 := Zg 1 [] n q9 q9;
 let q11 := SyC n a m b g;
 let q12 := QT g a;
 let q13 := bsR q12 m b;
 let q14 := (↑q13 : Int);
 let q15 := q13 - 1 - a;
 let q16 := Zw g1;
 let q17 := Z0 q6 (Zg 1 [] n q16 q9 ∧ True) False;
 let q18 := (False → q17) ∧ (False → False);
 let q19 := Vh g m;
 let q20 := bsR q19 a m;
 let q21 := (↑q20 : Int);
 let q22 := m - q20;
 let q23 := wrap i64 (Zp u64 (wrap u64 (wrap i64 ((↑a : Int) + (↑b : Int)))) 1);
 let q24 := syI a m b;
 let q25 := syJ a m b;
 let q26 := (↑q24 : Int);
 let q27 := (↑q25 : Int);
 let q28 := Z0o g a m b;
 let q29 := wrap i64 ((↑q : Int) - (↑s : Int));
 let q30 := q3 = q3;
 let q31 := decide ((↑a : Int) < (↑s : Int));
 let q32 := decide ((↑s : Int) < (↑c : Int));
 let q33 := decide ((↑c : Int) < q29);
 let q34 := decide (q29 < (↑b : Int));
 let q35 := Z0 q33 (Z0 q34 ((∀ (i : Nat), i < n → true = true) ∧ ∃ (g : Nat → ClS), ∃ (a : Nat), ∃ (k : Nat), ∃ (b_1 : Nat), (n = n ∧ (↑c : Int) = (↑a : Int) ∧ q29 = (↑k : Int) ∧ (↑b : Int) = (↑b_1 : Int)) ∧ (SyC n a k b_1 g ∧ b_1 - a ≤ d) ∧ q30 ∧ q9 = Zw g ∧ Z0 q6 (Zg 1 [] n q16 (Zw (Xs ltC d g a k b_1)) ∧ True) False) q17) q17;
 let q36 := Z0 q31 (Z0 q32 ((∀ (i : Nat), i < n → true = true) ∧ ∃ (g : Nat → ClS), ∃ (a_1 : Nat), ∃ (k : Nat), ∃ (b_1 : Nat), (n = n ∧ (↑a : Int) = (↑a_1 : Int) ∧ (↑s : Int) = (↑k : Int) ∧ (↑c : Int) = (↑b_1 : Int)) ∧ (SyC n a_1 k b_1 g ∧ b_1 - a_1 ≤ d) ∧ q30 ∧ q9 = Zw g ∧ Z0 q33 (Z0 q34 ((∀ (i : Nat), i < n → true = true) ∧ ∃ (g_1 : Nat → ClS), ∃ (a : Nat), ∃ (k_1 : Nat), ∃ (b_2 : Nat), (n = n ∧ (↑c : Int) = (↑a : Int) ∧ q29 = (↑k_1 : Int) ∧ (↑b : Int) = (↑b_2 : Int)) ∧ (SyC n a k_1 b_2 g_1 ∧ b_2 - a ≤ d) ∧ q30 ∧ Zw (Xs ltC d g a_1 k b_1) = Zw g_1 ∧ Z0 q6 (Zg 1 [] n q16 (Zw (Xs ltC d g_1 a k_1 b_2)) ∧ True) False) (Z0 q6 (Zg 1 [] n q16 (Zw (Xs ltC d g a_1 k b_1)) ∧ True) False)) (Z0 q6 (Zg 1 [] n q16 (Zw (Xs ltC d g a_1 k b_1)) ∧ True) False)) q35) q35;
 Z0 (wrap i64 ((↑m : Int) - (↑a : Int)) == 1)
 (Z0 q1
 (Z0 q2
 (q5 ∧
 Z0 q6
 (Z0 q7
 (Z0 q8
 (Z0 q6
 (q10 ∧
 q11 ∧
 ∀ (i : Nat),
 i ≤ b - m →
 (∀ (j : Nat), j < i → bsGo q12 m b j) →
 (¬bsGo q12 m b i →
 Z0 q8
 (Z0 (decide (q14 = q14))
 (Z0 q6
 (Z0 q7
 (Z0 q6
 (q10 ∧
 (n < 900000000000 ∧ a < q13 ∧ q13 ≤ n) ∧
 ∀ (i : Nat),
 let q73 := Z0 q6 (Zg 1 [] n q16 (Zw (Yb g a (a + 1) (a + i + 1))) ∧ True) False;
 i ≤ q15 → (∀ (j : Nat), j < i → (fun (t : Nat) => t < q15) j) → (i = q15 → q73) ∧ (False → q73) ∧ (False → False))
 False)
 False)
 False)
 False)
 False) ∧
 q18)
 False)
 False)
 False)
 False)
 False)
 False)
 (Z0 (wrap i64 ((↑b : Int) - (↑m : Int)) == 1)
 (Z0 q8
 (Z0 q1
 (q5 ∧
 Z0 q6
 (Z0 q7
 (Z0 q1
 (Z0 q6
 (q10 ∧
 q11 ∧
 ∀ (i : Nat),
 i ≤ m - a →
 (∀ (j : Nat), j < i → bsGo q19 a m j) →
 (¬bsGo q19 a m i →
 Z0 q1
 (Z0 (decide (q21 = q21))
 (Z0 q6
 (Z0 q7
 (Z0 q6
 (q10 ∧
 (n < 900000000000 ∧ q20 ≤ m ∧ m < n) ∧
 ∀ (i : Nat),
 let q73 := Z0 q6 (Zg 1 [] n q16 (Zw (Yb g (m - i) m (m + 1))) ∧ True) False;
 i ≤ q22 → (∀ (j : Nat), j < i → (fun (t : Nat) => t < q22) j) → (i = q22 → q73) ∧ (False → q73) ∧ (False → False))
 False)
 False)
 False)
 False)
 False) ∧
 q18)
 False)
 False)
 False)
 False)
 False)
 False)
 (Z0 (decide (decide ((↑m : Int) > q23) = B))
 (q5 ∧
 Z0 q6
 (Z0 q7
 (Z0 (decide (wrap i64 (q23 + (↑m : Int)) = (↑q : Int)))
 (Z0 q1
 (Z0 q8
 (Z0 (decide (q23 = (↑c : Int)))
 (Z0 q2
 (Z0 q6
 (q10 ∧
 (((B = true → b ≤ q) ∧ q < 9000000000000) ∧ (q24 = if B = true then q - b else a) ∧ q25 = if B = true then c else m) ∧
 Z0 (decide (q26 = q26))
 (Z0 (decide (q27 = q27))
 (q5 ∧
 Z0 q6
 (Z0 q7
 (Z0 (decide (wrap i64 ((↑q : Int) - 1) = (↑(q - 1) : Int)))
 (Z0 (decide ((↑q : Int) = (↑q : Int)))
 (Z0 q1
 (Z0 q8
 (Z0 (decide ((↑c : Int) = (↑c : Int)))
 (Z0 q2
 (Z0 q6
 (q10 ∧
 (q11 ∧ q = (a + b) / 2 + m ∧ s = UC ltC g a m b) ∧
 ∀ (i : Nat),
 i ≤ q25 - q24 →
 (∀ (j : Nat), j < i → bsGo q28 q24 q25 j) →
 (¬bsGo q28 q24 q25 i →
 Z0 (decide ((↑s : Int) < (↑m : Int)))
 (Z0 (decide ((↑m : Int) < q29))
 ((∀ (i : Nat), i < n → true = true) ∧
 ∃ (g : Nat → ClS),
 ∃ (a_4 : Nat),
 ∃ (k : Nat),
 ∃ (b_1 : Nat),
 let q73 := Zw (Yb g a_4 k b_1);
 let q74 := Z0 q6 (Zg 1 [] n q16 q73 ∧ True) False;
 let q75 := Z0 q33 (Z0 q34 ((∀ (i : Nat), i < n → true = true) ∧ ∃ (g : Nat → ClS), ∃ (a : Nat), ∃ (k : Nat), ∃ (b_2 : Nat), (n = n ∧ (↑c : Int) = (↑a : Int) ∧ q29 = (↑k : Int) ∧ (↑b : Int) = (↑b_2 : Int)) ∧ (SyC n a k b_2 g ∧ b_2 - a ≤ d) ∧ q30 ∧ q73 = Zw g ∧ Z0 q6 (Zg 1 [] n q16 (Zw (Xs ltC d g a k b_2)) ∧ True) False) q74) q74;
 (n = n ∧ (↑s : Int) = (↑a_4 : Int) ∧ (↑m : Int) = (↑k : Int) ∧ q29 = (↑b_1 : Int)) ∧
 (n < 900000000000 ∧ a_4 < k ∧ k < b_1 ∧ b_1 ≤ n) ∧
 q30 ∧
 q9 = Zw g ∧
 Z0 q31
 (Z0 q32
 ((∀ (i : Nat), i < n → true = true) ∧
 ∃ (g : Nat → ClS),
 ∃ (a_5 : Nat),
 ∃ (k : Nat),
 ∃ (b_2 : Nat),
 let q79 := Zw (Xs ltC d g a_5 k b_2);
 let q80 := Z0 q6 (Zg 1 [] n q16 q79 ∧ True) False;
 (n = n ∧ (↑a : Int) = (↑a_5 : Int) ∧ (↑s : Int) = (↑k : Int) ∧ (↑c : Int) = (↑b_2 : Int)) ∧ (SyC n a_5 k b_2 g ∧ b_2 - a_5 ≤ d) ∧ q30 ∧ q73 = Zw g ∧ Z0 q33 (Z0 q34 ((∀ (i : Nat), i < n → true = true) ∧ ∃ (g : Nat → ClS), ∃ (a : Nat), ∃ (k : Nat), ∃ (b_3 : Nat), (n = n ∧ (↑c : Int) = (↑a : Int) ∧ q29 = (↑k : Int) ∧ (↑b : Int) = (↑b_3 : Int)) ∧ (SyC n a k b_3 g ∧ b_3 - a ≤ d) ∧ q30 ∧ q79 = Zw g ∧ Z0 q6 (Zg 1 [] n q16 (Zw (Xs ltC d g a k b_3)) ∧ True) False) q80) q80)
 q75)
 q75)
 q36)
 q36) ∧
 q18)
 False)
 False)
 False)
 False)
 False)
 False)
 False)
 False)
 False)
 False)
 False)
 False)
 False)
 False)
 False)
 False)
 False)
 False)
 False)
 False))) (by kernel_rfl) ?_
 conv => zeta
 try simp only [Zc]
 try simp only [Zi]
 try simp only [Ze]
 try simp only [Zj]
 try simp only [Zk]
 try simp only [Zd]
 try simp only [Int.toNat_natCast, Nat.zero_add, true_and, and_true, Nat.le_refl]
 obtain ⟨hn, h1, h2, h3, ok⟩ := hC
 have w1 : i64.wrap ((m : Int) - a) = ((m - a : Nat) : Int) := by rw [w64 (by omega)]; omega
 have w2 : i64.wrap ((b : Int) - m) = ((b - m : Nat) : Int) := by rw [w64 (by omega)]; omega
 rw [w1, w2, Z19 (by omega)]
 refine ⟨fun c1 => ?_, fun c1 => ⟨fun c2 => ?_, fun c2 => ?_⟩⟩
 ·have c1 : ((m - a : Nat) : Int) = 1 := by simpa using c1
  obtain ⟨⟨k1, k2⟩, _⟩ := XE (P := QT g a) (show m ≤ b by omega)
  rw [Zhs (by omega)] at hg
  have e : m = a + 1 := by omega
  refine ⟨ZA fun _ _ => rfl, ⟨hn, h1, h2, h3, ok⟩, fun i _ _ => ⟨fun _ => ⟨ZA fun _ _ => rfl, ⟨hn, by omega, by omega⟩, fun j _ _ => ⟨fun hj => ZA fun x _ => ?_, fun h => h.elim, fun h => h.elim⟩⟩, fun h => h.elim, fun h => h.elim⟩⟩
  rw [hg, hj]
  congr 2 <;> omega
 ·have c1 : ¬ ((m - a : Nat) : Int) = 1 := by simpa using c1
  have c2 : ((b - m : Nat) : Int) = 1 := by simpa using c2
  obtain ⟨⟨k1, k2⟩, _⟩ := XE (P := Vh g m) (show a ≤ m by omega)
  rw [Zht (by omega) (by omega)] at hg
  refine ⟨ZA fun _ _ => rfl, ⟨hn, h1, h2, h3, ok⟩, fun i _ _ => ⟨fun _ => ⟨ZA fun _ _ => rfl, ⟨hn, k2, by omega⟩, fun j _ _ => ⟨fun hj => ZA fun x _ => ?_, fun h => h.elim, fun h => h.elim⟩⟩, fun h => h.elim, fun h => h.elim⟩⟩
  rw [hg, hj, show m - (m - bsR (Vh g m) a m) = bsR (Vh g m) a m by omega, show m + 1 = b by omega]
 ·have c1 : ¬ ((m - a : Nat) : Int) = 1 := by simpa using c1
  have c2 : ¬ ((b - m : Nat) : Int) = 1 := by simpa using c2
  rw [Zhu (by omega) (by omega), ← hc, ← hs] at hg
  unfold Z7E at hg
  obtain ⟨k1, k2, k3, k4, k5⟩ := Z8E (lt := ltC) (g := g) h1 h2
  rw [← hs, ← hc] at k3 k4 k5
  rw [← hs] at k1 k2
  have hw : i64.wrap ((q : Int) - s) = ((c + m - s : Nat) : Int) := by rw [w64 (by omega)]; omega
  have hq1 : i64.wrap ((q : Int) - 1) = ((q - 1 : Nat) : Int) := by rw [w64 (by omega)]; omega
  have hq2 : i64.wrap ((((a + b) / 2 : Nat) : Int) + m) = q := by rw [w64 (by omega)]; omega
  rw [hw, hq1, hq2, ← hc]
  generalize c + m - s = e at *
  have cl1 : ∀ gx, OkN n gx → a < s → s < c → SyC n a s c gx ∧ c - a ≤ d := fun gx h y1 y2 => ⟨⟨hn, y1, y2, by omega, h⟩, by omega⟩
  have cl2 : ∀ gx, OkN n gx → c < e → e < b → SyC n c e b gx ∧ b - c ≤ d := fun gx h y1 y2 => ⟨⟨hn, y1, y2, h3, h⟩, by omega⟩
  refine ⟨by rw [hB, decide_eq_decide]; omega, rfl, rfl, ZA fun _ _ => rfl, ⟨⟨fun k => ?_, by omega⟩, ?_, ?_⟩, rfl, ZA fun _ _ => rfl, ⟨⟨hn, h1, h2, h3, ok⟩, by omega, hs⟩, fun i _ _ => ⟨fun _ => ?_, fun h => h.elim, fun h => h.elim⟩⟩
  ·rw [hB, decide_eq_true_eq] at k
   omega
  ·unfold syI
   rw [hB]
   by_cases y : (a + b) / 2 < m
   ·rw [if_pos y, if_pos (by rw [decide_eq_true y]), hq]
   ·rw [if_neg y, if_neg (by rw [decide_eq_false y]; decide)]
  ·unfold syJ
   rw [hB]
   by_cases y : (a + b) / 2 < m
   ·rw [if_pos y, if_pos (by rw [decide_eq_true y]), hc]
   ·rw [if_neg y, if_neg (by rw [decide_eq_false y]; decide)]
  ·refine ⟨fun x1 => ⟨fun x2 => ⟨fun _ _ => trivial, g, s, m, e, ⟨rfl, rfl, rfl⟩, ⟨hn, by omega, by omega, by omega⟩, rfl, ?_⟩, fun x2 => ?_⟩, fun x1 => ?_⟩
   all_goals first
    |have x3 : s < m ∧ m < e := by omega
     have okx := ok.rot k2 k4 (by omega)
     generalize Yb g s m e = gx at hg okx ⊢
    |have x3 : ¬ (s < m ∧ m < e) := by omega
     have okx := ok
     rw [Zf5 k2 k4 x3] at hg
     generalize g = gx at hg okx ⊢
   all_goals
    refine ⟨fun y1 => ⟨fun y2 => ⟨fun _ _ => trivial, gx, a, s, c, ⟨rfl, rfl, rfl⟩, cl1 gx okx (by omega) (by omega), rfl, ?_⟩, fun y2 => ?_⟩, fun y1 => ?_⟩
    all_goals first
     | (exfalso; omega)
     |have y : a < s ∧ s < c := by omega
      have oky := Z2E d gx a s c okx (by omega) (by omega) (by omega)
      have hgy : g1 = QS (Xs ltC d) (Xs ltC d gx a s c) c e b := by rw [hg]; unfold QS; rw [if_pos y]
      generalize Xs ltC d gx a s c = gy at hgy oky ⊢
     |have y : ¬ (a < s ∧ s < c) := by omega
      have oky := okx
      have hgy : g1 = QS (Xs ltC d) gx c e b := by rw [hg]; unfold QS; rw [if_neg y]
      obtain ⟨gy, ey⟩ : ∃ gy, gy = gx := ⟨_, rfl⟩
      subst ey
    all_goals
     refine ⟨fun z1 => ⟨fun z2 => ⟨fun _ _ => trivial, gy, c, e, b, ⟨rfl, rfl, rfl⟩, cl2 gy oky (by omega) (by omega), rfl, ZA fun x _ => ?_⟩, fun z2 => ZA fun x _ => ?_⟩, fun z1 => ZA fun x _ => ?_⟩
     all_goals rw [hgy]; unfold QS; first | (exfalso; omega) | rw [if_pos (show c < e ∧ e < b by omega)] | rw [if_neg (show ¬ (c < e ∧ e < b) by omega)]
theorem ZcC : ∀ (d : Nat) (args : List AV) (h : Z7) (K : KO), syF d args h K → Zh PP 196 args h K
 | d, args, h, K, hl => by
  unfold syF at hl
  split at hl
  ·rename_i p esz len lo r
   refine Spec.fsumm (σ := [p.blk]) (d := 20) hl fun Bs a₀ hlen h0 => ?_
   split at h0
   ·obtain ⟨g, a, k, b, ⟨rfl, rfl, rfl, rfl⟩, ⟨hC, hd⟩, rfl, rfl, hK⟩ := h0
    cases d with
    | zero => have := hC.h1; have := hC.h2; omega
    | succ d => exact ⟨_, _, _, _, _, .evR (Zf4 (ZcC d) _ _ _ _ _ _ _ _ _ _) (ZkF _ _ a k b _ _ _ d _ g _ hC hd rfl rfl rfl rfl rfl), Nat.le_refl 1, .ret _ _ rfl, .cons 0 _ _ _ _ _ rfl (.rows _ _ _ fun i _ => WK _ i) .nil, hK⟩
   ·exact h0.elim
  ·exact hl.elim
end Go.Tk
end
section
namespace Go.Tk
open IntKind (i64 u8 u32 u64 wrap)
noncomputable def Z9W : Za := (G0.withF 195 ZeB).withF 196 (syF 30)
theorem Z8F : Z9W.Ok := Za.withF_ok (Za.withF_ok Zv Z8t) (ZcC 30)
def kmT (n lo : Nat) (l : ZO) : ZO := l ++ [(2, W1), (1, .int .i64 n), (0, .nslice ⟨0, 0, 34, 0, 0⟩ 34 n lo)]
def ZcD (n lo A B : Nat) (L : List ClS) : St := ⟨63, kmT n lo [(8, .int .i64 B), (7, .int .i64 A), (6, .int .i64 20)], VA n L, []⟩
def Z4O (n lo A : Nat) (L : List ClS) : St := ⟨63, kmT n lo [(7, .int .i64 A), (6, .int .i64 20)], VA n L, []⟩
def ZcE (n lo X : Nat) (g : Nat → ClS) : St := ⟨63, kmT n lo [(6, .int .i64 X)], gH n g, []⟩
def Z4P (n : Nat) (g : Nat → ClS) : St := ⟨63, [], gH n g, []⟩
def Zf6 (n lo : Nat) (g : Nat → ClS) : St := ⟨63, kmT n lo [(8, .int .i64 40), (7, .int .i64 0), (6, .int .i64 20)], gH n g, []⟩
def Z9X (n lo : Nat) (g : Nat → ClS) : St := ⟨63, kmT n lo [(7, .int .i64 0), (6, .int .i64 20)], gH n g, []⟩
theorem ZjL (n lo A B A1 B1 : Nat) (L L1 : List ClS) (q : IcP) (Z1 Z2 : Prop) (hn : n < 40) (hB : B < 1000) (hq : B ≤ n → (A1 = B ∧ B1 = B + 20) ∧ q.Ok n A B ∧ q.all = L ∧ q.done = L1) (h1 : B ≤ n → Z1) (h2 : ¬ B ≤ n → Z2) :
  Zz Z9W 20 167 0 1 (ZcD n lo A B L) (rdM 1 0 9 (ZcD n lo A1 B1 L1) (Z4O n lo A L) (Z4O n lo A L) (Z4O n lo A L) Z1 Z2 False False) := by
 refine @Eq.mpr _ (let q1 := ZM byC 0 1;
 let q2 := Zm L;
 let q3 := [AV.vrows 1 1 q1 1];
 let q4 := q3 = q3;
 let q5 := decide ((↑n : Int) = (↑n : Int));
 let q6 := decide (n = n);
 let q7 := decide (lo ≤ lo);
 Z0 (decide ((↑B : Int) ≤ (↑n : Int))) ((∀ (i : Nat), i < n → true = true) ∧ ∃ (q : IcP), ∃ (a : Nat), ∃ (b : Nat), (n = n ∧ (↑A : Int) = (↑a : Int) ∧ (↑B : Int) = (↑b : Int)) ∧ IcP.Ok q n a b ∧ q1 = q1 ∧ q2 = Zm (IcP.all q) ∧ Z0 (decide (wrap i64 ((↑B : Int) + 20) = (↑B1 : Int))) (Z0 (decide ((↑B : Int) = (↑A1 : Int))) (q4 ∧ Z0 q5 (Z0 q6 (Z0 q7 (Z0 q6 (Zg 1 [] n (Zm L1) (Zm (IcP.done q)) ∧ Z1) False) False) False) False) False) False) (Z0 (decide ((↑A : Int) = (↑A : Int))) (q4 ∧ Z0 q5 (Z0 q6 (Z0 q7 (Z0 q6 (Zg 1 [] n q2 q2 ∧ Z2) False) False) False) False) False)) (by kernel_rfl) ?_
 conv => zeta
 try simp only [Zc]
 try simp only [Zi]
 try simp only [Ze]
 try simp only [Zj]
 try simp only [Zk]
 try simp only [Zd]
 try simp only [Int.toNat_natCast, Nat.zero_add, true_and, and_true, Nat.le_refl]
 refine ⟨fun hc => ?_, fun hc => ⟨ZS fun _ _ => rfl, h2 (by omega)⟩⟩
 obtain ⟨⟨rfl, rfl⟩, e2, e3, e4⟩ := hq (by omega)
 have w : i64.wrap ((A1 : Int) + 20) = ((A1 + 20 : Nat) : Int) := by rw [w64 (by omega)]; omega
 refine ⟨fun _ _ => trivial, q, A, A1, ⟨rfl, rfl⟩, e2, by rw [e3], w, rfl, ZS fun _ _ => by rw [e4], h1 (by omega)⟩
theorem ZkG (n lo : Nat) (g : Nat → ClS) (Z : Prop) (hn : n < 40) (hZ : Z) :
  Zz Z9W 20 167 4 1 (Zf6 n lo g) (rdM 1 4 9 (Zf6 n lo g) (Z9X n lo g) (Z9X n lo g) (Z9X n lo g) False Z False False) := by
 refine @Eq.mpr _ (let q1 := ZM byC 0 1;
 let q2 := Zw g;
 let q3 := [AV.vrows 1 1 q1 1];
 let q4 := decide (n = n);
 Z0 (decide (40 ≤ (↑n : Int))) ((∀ (i : Nat), i < n → true = true) ∧ ∃ (g : Nat → ClS), ∃ (a : Nat), ∃ (k : Nat), ∃ (b : Nat), (n = n ∧ 0 = (↑a : Int) ∧ 20 = (↑k : Int) ∧ 40 = (↑b : Int)) ∧ (SyC n a k b g ∧ b - a ≤ 30) ∧ q1 = q1 ∧ q2 = Zw g ∧ False) (q3 = q3 ∧ Z0 (decide ((↑n : Int) = (↑n : Int))) (Z0 q4 (Z0 (decide (lo ≤ lo)) (Z0 q4 (Zg 1 [] n q2 q2 ∧ Z) False) False) False) False)) (by kernel_rfl) ?_
 conv => zeta
 try simp only [Zc]
 try simp only [Zi]
 try simp only [Ze]
 try simp only [Zj]
 try simp only [Zk]
 try simp only [Zd]
 try simp only [Int.toNat_natCast, Nat.zero_add, true_and, and_true, Nat.le_refl]
 exact ⟨fun h => absurd h (by omega), fun _ => ⟨ZA fun _ _ => rfl, hZ⟩⟩
noncomputable def Z8G (n lo : Nat) (g : Nat → ClS) : Za := Z9W.withL 167 4 (goM 1 (Zf6 n lo g) (n < 40) (ZT 4 0 9 (fun _ => False) (fun _ => True) (fun _ => False) (fun _ => False) (fun _ => Z9X n lo g) (fun _ => Z9X n lo g) (fun _ => Z9X n lo g)))
theorem ZcF (n lo : Nat) (g : Nat → ClS) : (Z8G n lo g).Ok :=
 Za.withGoM (N := 20) (S := fun _ => Zf6 n lo g) Z8F (by kernel_rfl) fun hC => ⟨rfl, fun t _ _ => by
  have := ZkG n lo g True hC trivial
  simpa only [false_and] using this⟩
theorem ZjM (n lo X X1 : Nat) (g f f1 : Nat → ClS) (Z1 Z2 : Prop) (hn : n < 40) (hX : X < n → (X = 20 ∧ X1 = 40 ∧ f = g) ∧ SyC n 0 20 n g ∧ n ≤ 30 ∧ f1 = Xs ltC 30 g 0 20 n) (h1 : X < n → Z1) (h2 : ¬ X < n → Z2) :
  Zz (Z8G n lo g) 20 167 2 1 (ZcE n lo X f) (rdM 1 2 9 (ZcE n lo X1 f1) (Z4P n f) (Z4P n f) (Z4P n f) Z1 Z2 False False) := by
 refine @Eq.mpr _ (let q1 := ZM byC 0 1;
 let q2 := [AV.vrows 1 1 q1 1];
 let q3 := q2 = q2;
 let q4 := decide ((↑n : Int) = (↑n : Int));
 let q5 := decide (n = n);
 let q6 := decide (lo ≤ lo);
 let q7 := Zw g;
 let q8 := Zw f;
 let q9 := decide (40 = (↑X1 : Int));
 Z0 (decide ((↑X : Int) < (↑n : Int))) (Z0 (decide (wrap i64 (2 * (↑X : Int)) = 40)) (Z0 (decide ((↑X : Int) = 20)) (q3 ∧ Z0 q4 (Z0 q5 (Z0 q6 (Z0 q5 (Zg 1 [] n q7 q8 ∧ n < 40 ∧ ∀ (i : Nat), i ≤ 0 → (∀ (j : Nat), j < i → (fun (x : Nat) => False) j) → (True → Z0 (decide (20 < (↑n : Int))) ((∀ (i : Nat), i < n → true = true) ∧ ∃ (g : Nat → ClS), ∃ (a : Nat), ∃ (k : Nat), ∃ (b : Nat), (n = n ∧ 0 = (↑a : Int) ∧ 20 = (↑k : Int) ∧ (↑n : Int) = (↑b : Int)) ∧ (SyC n a k b g ∧ b - a ≤ 30) ∧ q1 = q1 ∧ q7 = Zw g ∧ Z0 q9 (q3 ∧ Z0 q4 (Z0 q5 (Z0 q6 (Z0 q5 (Zg 1 [] n (Zw f1) (Zw (Xs ltC 30 g a k b)) ∧ Z1) False) False) False) False) False) (Z0 q9 (q3 ∧ Z0 q4 (Z0 q5 (Z0 q6 (Z0 q5 (Zg 1 [] n (Zw f1) q7 ∧ Z1) False) False) False) False) False)) ∧ (False → Z0 q5 (Zg 1 [] n q8 q7 ∧ False) False) ∧ (False → Z0 q5 (Zg 1 [] n q8 q7 ∧ False) False)) False) False) False) False) False) False)
 (Z0 q5 (Zg 1 [] n q8 q8 ∧ Z2) False)) (by kernel_rfl) ?_
 conv => zeta
 try simp only [Zc]
 try simp only [Zi]
 try simp only [Ze]
 try simp only [Zj]
 try simp only [Zk]
 try simp only [Zd]
 try simp only [Int.toNat_natCast, Nat.zero_add, true_and, and_true, Nat.le_refl]
 refine ⟨fun hc => ?_, fun hc => ⟨ZA fun _ _ => rfl, h2 (by omega)⟩⟩
 obtain ⟨⟨rfl, rfl, rfl⟩, e2, e3, rfl⟩ := hX (by omega)
 refine ⟨rfl, rfl, ZA fun _ _ => rfl, hn, fun i _ _ => ⟨fun _ => ⟨fun k => ⟨fun _ _ => trivial, f, 0, 20, n, ⟨rfl, rfl, rfl⟩, ⟨e2, by omega⟩, rfl, rfl, ZA fun _ _ => rfl, h1 (by omega)⟩, fun k => absurd hc (by omega)⟩, fun h => h.elim, fun h => h.elim⟩⟩
def Z9Y (L : List ClS) : IcP := ⟨[], L.take 20, L.drop 20⟩
def Zf7 (L : List ClS) : IcP := ⟨YP (L.take 20), L.drop 20, []⟩
def Z9Z (L : List ClS) : List ClS := (Zf7 L).done
def kmG (L : List ClS) (i : Nat) : ClS := (Z9Z L).getD i cl0
def kmF (L : List ClS) (n : Nat) : Nat → Nat → ClS
 | 0 => kmG L
 | _ => Xs ltC 30 (kmG L) 0 20 n
def kmA (L : List ClS) : Nat → List ClS
 | 0 => L
 | _ => (Z9Y L).done
def kmX : Nat → Nat
 | 0 => 20
 | _ => 40
structure KmC (n : Nat) (L : List ClS) : Prop where
 lo : 20 ≤ n
 hi : n ≤ 30
 len : L.length = n
 ok : ∀ m ∈ L, m.Ok
theorem KmC.q1 {n : Nat} {L : List ClS} (h : KmC n L) : (Z9Y L).Ok n 0 20 := by
 obtain ⟨h1, h2, h3, h4⟩ := h
 refine ⟨?_, rfl, ?_, by omega, fun m hm => h4 m ?_⟩
 ·show 0 + (L.take 20).length + (L.drop 20).length = n
  rw [List.length_take, List.length_drop]; omega
 ·show 0 + (L.take 20).length = 20
  rw [List.length_take]; omega
 ·have hm : m ∈ [] ++ (L.take 20 ++ L.drop 20) := hm
  rwa [List.nil_append, List.take_append_drop] at hm
theorem ZcG (L : List ClS) : (Z9Y L).all = L := by
 show [] ++ (L.take 20 ++ L.drop 20) = L
 rw [List.nil_append, List.take_append_drop]
theorem ZcH (L : List ClS) : (Zf7 L).all = (Z9Y L).done := by
 show YP (L.take 20) ++ (L.drop 20 ++ []) = [] ++ (YP (L.take 20) ++ L.drop 20)
 simp
theorem Z0p (l : List ClS) : (YP l).length = l.length := by
 unfold YP
 rw [Z0n]; simp
theorem Za0 {l : List ClS} {z : ClS} : z ∈ YP l ↔ z ∈ l := by
 unfold YP
 rw [Z2y]; simp
theorem Qn (l : List ClS) : (YP l).Perm l := by
 have := Wr (lt := ltC) (l := l) (acc := [])
 rwa [List.nil_append] at this
theorem KmC.q2 {n : Nat} {L : List ClS} (h : KmC n L) : (Zf7 L).Ok n 20 n := by
 obtain ⟨h1, h2, h3, h4⟩ := h
 have l1 : (YP (L.take 20)).length = 20 := by rw [Z0p, List.length_take]; omega
 refine ⟨?_, l1, ?_, by omega, fun m hm => h4 m ?_⟩
 ·show (YP (L.take 20)).length + (L.drop 20).length + 0 = n
  rw [l1, List.length_drop]; omega
 ·show (YP (L.take 20)).length + (L.drop 20).length = n
  rw [l1, List.length_drop]; omega
 ·have hm : m ∈ YP (L.take 20) ++ (L.drop 20 ++ []) := hm
  rw [List.append_nil, List.mem_append, Za0] at hm
  rcases hm with hm | hm
  ·exact List.mem_of_mem_take hm
  ·exact List.mem_of_mem_drop hm
theorem Z1a (L : List ClS) : Z9Z L = YP (L.take 20) ++ YP (L.drop 20) := by
 show YP (L.take 20) ++ (YP (L.drop 20) ++ []) = _
 rw [List.append_nil]
theorem Uv (L : List ClS) : (Z9Z L).Perm L := by
 rw [Z1a]
 have := (Qn (L.take 20)).append (Qn (L.drop 20))
 rwa [List.take_append_drop] at this
theorem KmC.len3 {n : Nat} {L : List ClS} (h : KmC n L) : (Z9Z L).length = n := by rw [(Uv L).length_eq, h.len]
theorem KmC.okN {n : Nat} {L : List ClS} (h : KmC n L) : OkN n (kmG L) := fun x hx => by
 refine Zch (fun m hm => h.ok m ((Uv L).mem_iff.1 hm)) ?_
 rw [h.len3]; exact hx
theorem KmC.sy {n : Nat} {L : List ClS} (h : KmC n L) (hn : 20 < n) : SyC n 0 20 n (kmG L) := ⟨by have := h.hi; omega, by omega, hn, Nat.le_refl _, h.okN⟩
def kmE (L : List ClS) (n : Nat) : List ClS := if 20 < n then sg (kmF L n 1) 0 n else Z9Z L
theorem Z7F {α : Type} {f : Nat → α} {d : α} : ∀ {k a i : Nat}, i < k → (sg f a k).getD i d = f (a + i)
 | 0, _, _, h => by omega
 | k + 1, a, 0, _ => rfl
 | k + 1, a, i + 1, h => by
  show (sg f (a + 1) k).getD i d = _
  rw [Z7F (by omega), show a + 1 + i = a + (i + 1) by omega]
theorem Zf8 (l : List ClS) : sg (fun i => l.getD i cl0) 0 l.length = l := by
 refine List.ext_getElem (by rw [Zcv]) fun i h1 h2 => ?_
 have := Z7F (f := fun i => l.getD i cl0) (d := cl0) (k := l.length) (a := 0) h2
 rw [List.getD_eq_getElem?_getD, List.getElem?_eq_getElem h1] at this
 simp only [Option.getD_some, Nat.zero_add] at this
 rw [this, List.getD_eq_getElem?_getD, List.getElem?_eq_getElem h2]
 rfl
theorem Z8H {l : List ClS} (h : Xe ltC l) {i j : Nat} (h1 : i < j) (h2 : j < l.length) : ltC (l.getD j cl0) (l.getD i cl0) = false := by
 have := List.pairwise_iff_getElem.1 h i j (by omega) h2 h1
 rwa [List.getD_eq_getElem?_getD, List.getElem?_eq_getElem h2, List.getD_eq_getElem?_getD, List.getElem?_eq_getElem (show i < l.length by omega)]
theorem Uw (l : List ClS) : Xe ltC (YP l) := Ur Z4I .nil
theorem Zhv {n : Nat} {L : List ClS} (h : KmC n L) : (kmE L n).Perm L ∧ Xe ltC (kmE L n) := by
 have l1 : (YP (L.take 20)).length = 20 := by rw [Z0p, List.length_take, h.len]; have := h.lo; omega
 have l2 : (YP (L.drop 20)).length = n - 20 := by rw [Z0p, List.length_drop, h.len]
 have hg1 : ∀ i, i < 20 → kmG L i = (YP (L.take 20)).getD i cl0 := fun i hi => by
  unfold kmG
  rw [Z1a, List.getD_eq_getElem?_getD, List.getElem?_append_left (by omega), ← List.getD_eq_getElem?_getD]
 have hg2 : ∀ i, 20 ≤ i → kmG L i = (YP (L.drop 20)).getD (i - 20) cl0 := fun i hi => by
  unfold kmG
  rw [Z1a, List.getD_eq_getElem?_getD, List.getElem?_append_right (by omega), l1, ← List.getD_eq_getElem?_getD]
 unfold kmE
 split
 ·rename_i hn
  have o1 : OnO ltC (kmG L) 0 20 := fun i j _ k2 k3 => by
   rw [hg1 i (by omega), hg1 j k3]
   exact Z8H (Uw _) k2 (by omega)
  have o2 : OnO ltC (kmG L) 20 n := fun i j k1 k2 k3 => by
   rw [hg2 i k1, hg2 j (by omega)]
   exact Z8H (Uw _) (by omega) (by omega)
  obtain ⟨q1, q2⟩ := Z8D Z4I 30 (kmG L) 0 20 n (by have := h.hi; omega) (by omega) hn o1 o2
  refine ⟨?_, Zcw fun i j k1 k2 k3 => q2 i j k1 k2 (by omega)⟩
  have hp := q1.perm
  rw [Nat.sub_zero] at hp
  have e : sg (kmG L) 0 n = Z9Z L := by rw [← h.len3]; exact Zf8 _
  rw [e] at hp
  exact hp.trans (Uv L)
 ·rename_i hn
  refine ⟨Uv L, ?_⟩
  have : L.drop 20 = [] := List.drop_of_length_le (by rw [h.len]; omega)
  rw [Z1a, this]
  show Xe ltC (YP (L.take 20) ++ [])
  rw [List.append_nil]
  exact Uw _
noncomputable def ZfF (n lo : Nat) (L : List ClS) : Za := (Z9W.withL 167 0 (goM 1 (ZcD n lo 0 20 L) (KmC n L) (ZT 0 1 9 (fun t => t = 0) (fun t => t = 1) (fun _ => False) (fun _ => False) (fun t => Z4O n lo (20 * t) (kmA L t)) (fun t => Z4O n lo (20 * t) (kmA L t)) (fun t => Z4O n lo (20 * t) (kmA L t))))).withL 167 2 (goM 1 (ZcE n lo 20 (kmG L)) (KmC n L) (ZT 2 1 9 (fun t => t = 0 ∧ 20 < n) (fun t => ¬ (t = 0 ∧ 20 < n)) (fun _ => False) (fun _ => False) (fun t => Z4P n (kmF L n t)) (fun t => Z4P n (kmF L n t)) (fun t => Z4P n (kmF L n t))))
theorem ZcI (n lo : Nat) (L : List ClS) : (ZfF n lo L).Ok := by
 have h0 : (Z9W.withL 167 0 (goM 1 (ZcD n lo 0 20 L) (KmC n L) (ZT 0 1 9 (fun t => t = 0) (fun t => t = 1) (fun _ => False) (fun _ => False) (fun t => Z4O n lo (20 * t) (kmA L t)) (fun t => Z4O n lo (20 * t) (kmA L t)) (fun t => Z4O n lo (20 * t) (kmA L t))))).Ok :=
  Za.withGoM (N := 20) (S := fun t => ZcD n lo (20 * t) (20 * (t + 1)) (kmA L t)) Z8F (by kernel_rfl) fun hC => ⟨rfl, fun t ht _ => by
   have h1 := hC.lo; have h2 := hC.hi
   match t, ht with
   | 0, _ => exact ZjL n lo 0 20 20 40 L (kmA L 1) (Z9Y L) (0 = 0 ∧ 0 < 1) (0 = 1) (by omega) (by omega) (fun _ => ⟨⟨rfl, rfl⟩, hC.q1, ZcG L, rfl⟩) (fun _ => ⟨rfl, by omega⟩) (fun h => by omega)
   | 1, _ => exact ZjL n lo 20 40 40 60 (kmA L 1) (kmA L 2) (Z9Y L) (1 = 0 ∧ 1 < 1) (1 = 1) (by omega) (by omega) (fun _ => by omega) (fun _ => by omega) (fun _ => rfl)⟩
 have h2 : ((Z8G n lo (kmG L)).withL 167 2 (goM 1 (ZcE n lo 20 (kmG L)) (KmC n L) (ZT 2 1 9 (fun t => t = 0 ∧ 20 < n) (fun t => ¬ (t = 0 ∧ 20 < n)) (fun _ => False) (fun _ => False) (fun t => Z4P n (kmF L n t)) (fun t => Z4P n (kmF L n t)) (fun t => Z4P n (kmF L n t))))).Ok :=
  Za.withGoM (N := 20) (S := fun t => ZcE n lo (kmX t) (kmF L n t)) (ZcF n lo (kmG L)) (by kernel_rfl) fun hC => ⟨rfl, fun t ht _ => by
   have h1 := hC.lo; have h2 := hC.hi
   match t, ht with
   | 0, _ => exact ZjM n lo 20 40 (kmG L) (kmG L) (kmF L n 1) ((0 = 0 ∧ 20 < n) ∧ 0 < 1) (¬ (0 = 0 ∧ 20 < n)) (by omega) (fun h => ⟨⟨rfl, rfl, rfl⟩, hC.sy h, h2, rfl⟩) (fun h => ⟨⟨rfl, h⟩, by omega⟩) (fun h => fun k => h k.2)
   | 1, _ => exact ZjM n lo 40 40 (kmG L) (kmF L n 1) (kmF L n 2) ((1 = 0 ∧ 20 < n) ∧ 1 < 1) (¬ (1 = 0 ∧ 20 < n)) (by omega) (fun h => by omega) (fun h => by omega) (fun _ => fun k => by omega)⟩
 exact Za.withL_join (H := Z8G n lo (kmG L)) h0 rfl h2
theorem Zf9 {n : Nat} {L : List ClS} (h : KmC n L) {t : Nat} (ht : t ≤ 1) (hgo : ∀ j, j < t → j = 0 ∧ 20 < n) (he : ¬ (t = 0 ∧ 20 < n)) (i : Nat) (hi : i < n) : Zw (kmF L n t) i = Zm (kmE L n) i := by
 unfold kmE Zw Zm
 rcases Nat.lt_or_ge 20 n with hn | hn
 ·rw [if_pos hn, Z7F hi, Nat.zero_add]
  match t, ht with
  | 0, _ => omega
  | 1, _ => rfl
 ·rw [if_neg (by omega)]
  match t, ht with
  | 0, _ => rfl
  | 1, _ => have := hgo 0 (by omega); omega
theorem ZkH (n lo : Nat) (L L1 : List ClS) (hC : KmC n L) (hL : L1 = kmE L n) :
  evF (ZfF n lo L) 20 123 [.nslice ⟨0, 0, 34, 0, 0⟩ 34 n lo, W1] (VA n L) (Ym 1 (.ret (.tuple [])) 1 [(0, .rows 34 n (Zm L1))]) := by
 refine @Eq.mpr _ (let q1 := ZM byC 0 1;
 let q2 := [AV.vrows 1 1 q1 1];
 let q3 := q2 = q2;
 let q4 := decide ((↑n : Int) = (↑n : Int));
 let q5 := decide (n = n);
 let q6 := decide (lo ≤ lo);
 q3 ∧
 Z0 q4
 (Z0 q5
 (Z0 q6
 (Z0 q5
 (Zg 1 [] n (Zm L) (Zm L) ∧
 KmC n L ∧
 ∀ (i : Nat),
 let q13 := Zm (kmA L i);
 i ≤ 1 →
 (∀ (j : Nat), j < i → (fun (t : Nat) => t = 0) j) →
 (i = 1 →
 (∀ (i : Nat), i < n → true = true) ∧
 ∃ (q : IcP),
 ∃ (a : Nat),
 ∃ (b : Nat),
 (n = n ∧ (↑(20 * i) : Int) = (↑a : Int) ∧ (↑n : Int) = (↑b : Int)) ∧
 IcP.Ok q n a b ∧
 q1 = q1 ∧
 q13 = Zm (IcP.all q) ∧
 q3 ∧
 Z0 q4
 (Z0 q5
 (Z0 q6
 (Z0 q5
 (Zg 1 [] n (Zw (kmG L)) (Zm (IcP.done q)) ∧
 KmC n L ∧
 ∀ (i : Nat),
 let q15 := Z0 q5 (Zg 1 [] n (Zm L1) (Zw (kmF L n i)) ∧ True) False;
 i ≤ 1 → (∀ (j : Nat), j < i → (fun (t : Nat) => t = 0 ∧ 20 < n) j) → (¬(i = 0 ∧ 20 < n) → q15) ∧ (False → q15) ∧ (False → False))
 False)
 False)
 False)
 False) ∧
 (False → Z0 q5 (Zg 1 [] n (Zm L1) q13 ∧ True) False) ∧ (False → False))
 False)
 False)
 False)
 False) (by kernel_rfl) ?_
 conv => zeta
 try simp only [Zc]
 try simp only [Zi]
 try simp only [Ze]
 try simp only [Zj]
 try simp only [Zk]
 try simp only [Zd]
 try simp only [Int.toNat_natCast, Nat.zero_add, true_and, and_true, Nat.le_refl]
 refine ⟨ZS fun _ _ => rfl, hC, fun i hi _ => ⟨fun he => ?_, fun h => h.elim, fun h => h.elim⟩⟩
 subst he
 refine ⟨fun _ _ => trivial, Zf7 L, 20, n, ⟨rfl, rfl⟩, hC.q2, by rw [ZcH]; rfl, ZA fun _ _ => rfl, hC, fun t ht hgo => ⟨fun he => ZS fun i hi => ?_, fun h => h.elim, fun h => h.elim⟩⟩
 rw [hL]
 exact Zf9 hC ht hgo he i hi
def stC (n : Nat) (L : List ClS) : List ClS := if n < 20 then YP L else kmE L n
theorem Zhw {n : Nat} {L : List ClS} (hn : n ≤ 30) (hl : L.length = n) (hok : ∀ m ∈ L, m.Ok) : (stC n L).Perm L ∧ Xe ltC (stC n L) := by
 unfold stC
 split
 ·exact ⟨Qn L, Uw L⟩
 ·exact Zhv ⟨by omega, hn, hl, hok⟩
def Zhx : Y6 := fun args h K => match args with
 | .nslice p esz len lo :: r => frA [p.blk] h 20 (.nslice p esz len lo :: r) fun Bs a => match Bs, a with
  | [.rows 34 m f], [.nslice ⟨0, 0, 34, 0, 0⟩ 34 n lo, .func (.func 124) [] [.pview [.vrows 1 1 g 1] 0]] => ∃ (L : List ClS), (m = n ∧ n ≤ 30 ∧ L.length = n) ∧ (∀ m ∈ L, m.Ok) ∧ g = ZM byC 0 1 ∧ f = Zm L ∧ K (.ret (.tuple [])) ⟨h.next, (p.blk, .rows 34 n (Zm (stC n L))) :: Xb h.bs p.blk⟩
  | _, _ => False
 | _ => False
theorem ZcJ (n lo : Nat) (L : List ClS) (hn : n ≤ 30) (hl : L.length = n) (hok : ∀ m ∈ L, m.Ok) : Spec PP 123 [.nslice ⟨0, 0, 34, 0, 0⟩ 34 n lo, W1] (VA n L) (.ret (.tuple [])) 1 [(0, .rows 34 n (Zm (stC n L)))] := by
 unfold stC
 split
 ·exact .evM (Zcn _ _ _ _) (Zjj n lo L _ (by omega) hl hok rfl)
 ·exact .evM (ZcI _ _ L) (ZkH n lo L _ ⟨by omega, hn, hl, hok⟩ rfl)
theorem Zfa (args : List AV) (h : Z7) (K : KO) (hl : Zhx args h K) : Zh PP 123 args h K := by
 unfold Zhx at hl
 split at hl
 ·rename_i p esz len lo r
  refine Spec.fsumm (σ := [p.blk]) (d := 20) hl fun Bs a₀ hlen h0 => ?_
  split at h0
  ·obtain ⟨L, ⟨rfl, hn, hll⟩, hok, rfl, rfl, hK⟩ := h0
   exact ⟨_, _, _, _, _, ZcJ _ _ L hn hll hok, Nat.le_refl 1, .ret _ _ rfl, .cons 0 _ _ _ _ _ rfl (.rows _ _ _ fun i _ => XQ _ i) .nil, hK⟩
  ·exact h0.elim
 ·exact hl.elim
noncomputable def ZfG : Za := (G0.withF 67 Zjn).withF 123 Zhx
theorem ZcK : ZfG.Ok := Za.withF_ok (Za.withF_ok Zv ZeC) Zfa
theorem ZkI (n : Nat) (L L1 : List ClS) (hn : n ≤ 30) (hl : L.length = n) (hok : ∀ m ∈ L, m.Ok) (hL : L1 = stC n L) :
  evF ZfG 20 42 [.vrows 34 n (Zm L) n] ⟨0, []⟩ (Ym 0 (.ret (.func (.func 70) [] [.ptr (some ⟨0, 0, 0, 0, 0⟩)])) 2 [(0, .flat [.nslice ⟨1, 0, 34, 0, 0⟩ 34 n n]), (1, .rows 34 n (Zm L1))]) := by
 refine @Eq.mpr _ (∃ (N : Nat),
 let q1 := decide (N = n);
 ∃ (L_1 : List ClS), ((n = n ∧ N = n) ∧ ∀ (i : Nat), i < n → Zm L i = Zm L_1 i) ∧ N < (1000 : Nat) ∧ (∀ (i : Nat), i < N → true = true) ∧ ∃ (L : List ClS), (N = N ∧ N ≤ (30 : Nat) ∧ List.length L = N) ∧ (∀ (m : ClS), List.Mem m L → ClS.Ok m) ∧ ZM [AV.func (Fn.func (68 : Nat)) [] []] (0 : Nat) (1 : Nat) = ZM byC (0 : Nat) (1 : Nat) ∧ Zm L_1 = Zm L ∧ Z0 q1 (Z0 (decide (n ≤ N)) (Z0 q1 (Zg (0 : Nat) [((1 : Nat), (1 : Nat)), ((0 : Nat), (0 : Nat))] n (Zm L1) (Zm (stC N L)) ∧ True) False) False) False) (by kernel_rfl) ?_
 conv => zeta
 try simp only [Zc]
 try simp only [Zi]
 try simp only [Ze]
 try simp only [Zj]
 try simp only [Zk]
 try simp only [Zd]
 try simp only [Int.toNat_natCast, Nat.zero_add, true_and, and_true, Nat.le_refl]
 exact ⟨n, L, ⟨rfl, fun _ _ => rfl⟩, by omega, fun _ _ => trivial, L, ⟨hn, hl⟩, hok, rfl, rfl, rfl, Nat.le_refl _, rfl, ZS fun _ _ => by rw [hL]⟩
theorem Z3K (args : List AV) (h : Z7) (K : KO) (hl : ZeD 31 args h K) : Zh PP 42 args h K := by
 refine Spec.fsumm (σ := []) (d := 20) hl fun Bs a₀ hlen h0 => ?_
 split at h0
 ·obtain ⟨N, L, h1, ⟨h2, h3, h4⟩, hK⟩ := h0
  have hs := Zhw (n := N) (by omega) h3 h4
  exact ⟨_, _, _, _, _, (Spec.evM (h0 := ⟨0, []⟩) ZcK (ZkI N L _ (by omega) h3 h4 rfl)).conv fun E r hr => hr.head (fun _ hc => h1.rel hc) (fun _ hc => hc), Nat.zero_le _, .ret _ _ rfl, .cons 0 _ _ _ _ _ rfl (.flat _ _ rfl) (.cons 1 _ _ _ _ _ rfl (.rows _ _ _ fun i _ => XQ _ i) .nil), hK _ hs.1 hs.2⟩
 ·exact h0.elim
end Go.Tk
end
section
namespace Go.Tk
open IntKind (i64 u8 u32 u64 wrap)
def dwD (L : List ClS) (p i : Nat) : List ClS := dwL L p ++ atP (L.take i) p
theorem ZjN (L : List ClS) (p : Nat) : dwD L p 0 = dwL L p := by
 unfold dwD atP
 simp
theorem ZjO {L : List ClS} {n : Nat} (h : L.length = n) (p : Nat) : dwD L p n = dwL L (p + 1) := by
 unfold dwD
 rw [List.take_of_length_le (by omega)]
 rfl
theorem ZfH {L : List ClS} {p i : Nat} (h : i < L.length) : dwD L p (i + 1) = if (L.getD i cl0).index = (p : Int) then dwD L p i ++ [L.getD i cl0] else dwD L p i := by
 unfold dwD atP
 rw [List.take_succ_eq_append_getElem h, List.filter_append]
 have e : L.getD i cl0 = L[i] := by rw [List.getD_eq_getElem?_getD, List.getElem?_eq_getElem h]; rfl
 rw [e]
 split
 ·rename_i hq
  rw [List.filter_cons_of_pos (by simpa using hq), List.filter_nil, List.append_assoc]
 ·rename_i hq
  rw [List.filter_cons_of_neg (by simpa using hq), List.filter_nil, List.append_nil]
theorem Zfb {L : List ClS} {p i : Nat} (h : L.length ≤ 30) : (dwD L p i).length ≤ 60 := by
 unfold dwD
 have h1 := (U6 L p).length_eq
 have h2 := List.length_filter_le (inM p) L
 have h3 : (atP (L.take i) p).length ≤ (L.take i).length := List.length_filter_le _ _
 rw [List.length_take] at h3
 rw [List.length_append]
 omega
def dwH (t : TxS) (key nm : List Int) (D : List ClS) : Z7 := ⟨6, [(5, .rows 130 D.length (Zf (swI nm D))), (4, .flat [.int .i64 0, .nslice ⟨5, 0, 130, 0, 0⟩ 130 D.length D.length, .nilslice]), (3, .flat [.arr .u8 32 nm]), (2, .flat txZ), (1, .flat [.arr .u8 32 key]), (0, .flat t.c)]⟩
def dwT (n : Nat) (L : List ClS) (sum : Int) (l : ZO) : ZO := l ++ [(3, pt0 0), (2, .vrows 34 n (Zm L) n), (9, pt0 4), (8, pt0 3), (10, .int .i64 sum), (6, pt0 2), (4, pt0 1)]
def Zfc (t : TxS) (key nm : List Int) (n : Nat) (L : List ClS) (p i : Nat) (s : Int) (D : List ClS) : St := ⟨108, dwT n L s [(12, .int .i64 i), (11, .int .i64 p)], dwH t key nm D, []⟩
def Z2S (t : TxS) (key nm : List Int) (n : Nat) (L : List ClS) (p : Nat) (s : Int) (D : List ClS) : St := ⟨108, dwT n L s [(11, .int .i64 p)], dwH t key nm D, []⟩
def Z2T (t : TxS) (key nm : List Int) (n : Nat) (L : List ClS) (s : Int) (D : List ClS) : St := ⟨108, dwT n L s [], dwH t key nm D, []⟩
def Zfd (t : TxS) (key nm : List Int) (n : Nat) (L : List ClS) (i : Nat) (s : Int) (D : List ClS) : St := ⟨108, dwT n L s [(13, .int .i64 i)], dwH t key nm D, []⟩
def ZjP : St := ⟨108, [(7, .int .i64 2), (6, pt0 0)], ⟨1, [(0, .flat txZ)]⟩, []⟩
theorem ZkJ (t : TxS) (key nm : List Int) (n p i : Nat) (s s1 se : Int) (L D D1 De : List ClS) (Z1 Z2 : Prop) (hn : n ≤ 30) (hp : p < t.M) (hM : t.M ≤ 24) (hi : i ≤ n) (hD : D.length ≤ 60) (he : i = n → se = s ∧ De = D) (hy : i < n → (L.getD i cl0).index = (p : Int) → D1 = D ++ [L.getD i cl0] ∧ s1 = i64.wrap (s + (t.outs p).amount)) (hno : i < n → ¬ (L.getD i cl0).index = (p : Int) → D1 = D ∧ s1 = s) (h1 : i < n → Z1) (h2 : i = n → Z2) :
  Zz G0 20 18 2 0 (Zfc t key nm n L p i s D) (rdM 0 2 9 (Zfc t key nm n L p (i + 1) s1 D1) (Z2S t key nm n L p se De) (Z2S t key nm n L p se De) (Z2S t key nm n L p se De) Z1 Z2 False False) := by
 refine @Eq.mpr _ (let q1 := decide (0 ≤ (↑i : Int) ∧ (↑i : Int) < (↑n : Int));
 let q2 := List.getD L (Int.toNat (↑i : Int)) cl0;
 let q3 := decide (wrap i64 ((↑i : Int) + 1) = (↑(i + 1) : Int));
 let q4 := decide ((↑p : Int) = (↑p : Int));
 let q5 := decide (n = n);
 let q6 := Zm L = Zm L;
 let q7 := List.length D;
 let q8 := List.length D1;
 let q9 := decide (q7 = q8);
 let q10 := [(1, 1), (2, 2), (3, 3), (4, 4), (0, 0)];
 let q11 := (5, 5) :: q10;
 let q12 := Zf (swI nm D1);
 let q13 := Zf (swI nm D);
 let q14 := decide (t.num = t.num);
 let q15 := decide (t.N = t.N);
 let q16 := Zf t.ins;
 let q17 := q16 = q16;
 let q18 := t.M;
 let q19 := decide (q18 = q18);
 let q20 := Zn t.outs;
 let q21 := q20 = q20;
 let q22 := nm = nm ∧ key = key ∧ Z0 q14 (Z0 q15 (q17 ∧ Z0 q15 (Z0 q19 (q21 ∧ Z0 q19 Z1 False) False) False) False) False;
 let q23 := decide (q7 = q7);
 let q24 := q7 + 1;
 let q25 := decide (q24 = q8);
 let q26 := AV.arr u8 32 Z6;
 let q27 := List.length De;
 let q28 := decide (q7 = q27);
 Z0 (decide ((↑i : Int) < (↑n : Int))) (Z0 q1 (Z0 (q2.index != (↑p : Int)) (Z0 q3 (Z0 q4 (Z0 q5 (q6 ∧ Z0 q5 (Z0 (decide (s = s1)) (Z0 q9 (Zg 0 q11 q8 q12 q13 ∧ Z0 q9 (Z0 (decide (q8 ≤ q7)) q22 False) False) False) False) False) False) False) False) (Z0 q1 (Z0 q1 (Z0 q23 (Z0 q23 (Z0 q23 (Z0 (decide (q24 * 144 ≤ 140737488355328)) (Z0 (decide (0 ≤ (↑p : Int) ∧ (↑p : Int) < (↑q18 : Int))) (Z0 q3 (Z0 q4 (Z0 q5 (q6 ∧ Z0 q5 (Z0 (decide (wrap i64 (s + (t.outs (Int.toNat (↑p : Int))).amount) = s1)) (Z0 q25 (Zg 0 ((5, 7) :: q10) q8 q12 (YF q7 q13 (ZM [AV.arr u8 32 nm, AV.int i64 (↑p : Int), AV.int i64 q2.way, q26, q26, AV.arr u8 32 q2.secret] 0 130)) ∧ Z0 q25 (Z0 (decide (q8 ≤ q24)) q22 False) False) False) False) False) False) False) False) False) False) False) False) False) False) False)) False)
 (Z0 q4 (Z0 q5 (q6 ∧ Z0 q5 (Z0 (decide (s = se)) (Z0 q28 (Zg 0 q11 q27 (Zf (swI nm De)) q13 ∧ Z0 q28 (Z0 (decide (q27 ≤ q7)) (nm = nm ∧ key = key ∧ Z0 q14 (Z0 q15 (q17 ∧ Z0 q15 (Z0 q19 (q21 ∧ Z0 q19 Z2 False) False) False) False) False) False) False) False) False) False) False) False)) (by kernel_rfl) ?_
 conv => zeta
 try simp only [Zc]
 try simp only [Zi]
 try simp only [Ze]
 try simp only [Zj]
 try simp only [Zk]
 try simp only [Zd]
 try simp only [Int.toNat_natCast, Nat.zero_add, true_and, and_true, Nat.le_refl]
 have hR : ∀ τ, Zg 0 τ D.length (Zf (swI nm D)) (Zf (swI nm D)) := fun τ => Yi fun _ _ => rfl
 have hw : i64.wrap ((i : Int) + 1) = ((i + 1 : Nat) : Int) := by rw [w64 (by omega)]; omega
 refine ⟨fun hc => ⟨⟨by omega, hc⟩, fun hx => ?_, fun hx => ?_⟩, fun hc => ?_⟩
 ·obtain ⟨rfl, rfl⟩ := hno (by omega) (by simpa using hx)
  exact ⟨hw, rfl, rfl, hR _, rfl, Nat.le_refl _, h1 (by omega)⟩
 ·have hx : (L.getD i cl0).index = (p : Int) := by simpa using hx
  obtain ⟨rfl, rfl⟩ := hy (by omega) hx
  have l1 : (D ++ [L.getD i cl0]).length = D.length + 1 := by simp
  refine ⟨⟨by omega, hc⟩, ⟨by omega, hc⟩, by omega, ⟨by omega, by omega⟩, hw, rfl, l1.symm, Yi fun j hj => ?_, l1.symm, by omega, h1 (by omega)⟩
  rw [← hx]
  refine (ZfC (swI nm D) ⟨nm, (L.getD i cl0).index, (L.getD i cl0).way, Z6, Z6, (L.getD i cl0).secret⟩ (by omega)).trans ?_
  unfold swI
  split
  ·rename_i e
   subst e
   rw [List.getD_eq_getElem?_getD (l := D ++ _), List.getElem?_append_right (Nat.le_refl _), Nat.sub_self]
   rfl
  ·rename_i e
   rw [List.getD_eq_getElem?_getD (l := D ++ _), List.getElem?_append_left (by omega), ← List.getD_eq_getElem?_getD]
 ·obtain ⟨rfl, rfl⟩ := he (by omega)
  exact ⟨rfl, rfl, hR _, rfl, Nat.le_refl _, h2 (by omega)⟩
theorem ZkK (t : TxS) (key nm : List Int) (n i : Nat) (s : Int) (L D : List ClS) (Z1 Z2 Z3 : Prop) (hn : n ≤ 30) (hi : i ≤ n) (h1 : i < n → (L.getD i cl0).way ≠ 1 → Z1) (h2 : i = n → Z2) (h3 : i < n → (L.getD i cl0).way = 1 → Z3) :
  Zz G0 20 18 4 0 (Zfd t key nm n L i s D) (rdM 0 4 9 (Zfd t key nm n L (i + 1) s D) (Z2T t key nm n L s D) ZjP (Z2T t key nm n L s D) Z1 Z2 Z3 False) := by
 refine @Eq.mpr _ (let q1 := decide (n = n);
 let q2 := Zm L = Zm L;
 let q3 := decide (s = s);
 let q4 := List.length D;
 let q5 := decide (q4 = q4);
 let q6 := Zf (swI nm D);
 let q7 := Zg 0 [(5, 5), (1, 1), (2, 2), (3, 3), (4, 4), (0, 0)] q4 q6 q6;
 let q8 := decide (q4 ≤ q4);
 let q9 := decide (t.num = t.num);
 let q10 := decide (t.N = t.N);
 let q11 := Zf t.ins;
 let q12 := q11 = q11;
 let q13 := decide (t.M = t.M);
 let q14 := Zn t.outs;
 let q15 := q14 = q14;
 Z0 (decide ((↑i : Int) < (↑n : Int))) (Z0 (decide (0 ≤ (↑i : Int) ∧ (↑i : Int) < (↑n : Int))) (Z0 ((List.getD L (Int.toNat (↑i : Int)) cl0).way == 1) Z3 (Z0 (decide (wrap i64 ((↑i : Int) + 1) = (↑(i + 1) : Int))) (Z0 q1 (q2 ∧ Z0 q1 (Z0 q3 (Z0 q5 (q7 ∧ Z0 q5 (Z0 q8 (nm = nm ∧ key = key ∧ Z0 q9 (Z0 q10 (q12 ∧ Z0 q10 (Z0 q13 (q15 ∧ Z0 q13 Z1 False) False) False) False) False) False) False) False) False) False) False) False)) False) (Z0 q1 (q2 ∧ Z0 q1 (Z0 q3 (Z0 q5 (q7 ∧ Z0 q5 (Z0 q8 (nm = nm ∧ key = key ∧ Z0 q9 (Z0 q10 (q12 ∧ Z0 q10 (Z0 q13 (q15 ∧ Z0 q13 Z2 False) False) False) False) False) False) False) False) False) False) False)) (by kernel_rfl) ?_
 conv => zeta
 try simp only [Zc]
 try simp only [Zi]
 try simp only [Ze]
 try simp only [Zj]
 try simp only [Zk]
 try simp only [Zd]
 try simp only [Int.toNat_natCast, Nat.zero_add, true_and, and_true, Nat.le_refl]
 have hR : ∀ τ, Zg 0 τ D.length (Zf (swI nm D)) (Zf (swI nm D)) := fun τ => Yi fun _ _ => rfl
 have hw : i64.wrap ((i : Int) + 1) = ((i + 1 : Nat) : Int) := by rw [w64 (by omega)]; omega
 exact ⟨fun hc => ⟨⟨by omega, hc⟩, fun hx => h3 (by omega) (by simpa using hx), fun hx => ⟨hw, hR _, h1 (by omega) (by simpa using hx)⟩⟩, fun hc => ⟨hR _, h2 (by omega)⟩⟩
structure DwC (t : TxS) (n : Nat) (L : List ClS) : Prop where
 hn : n ≤ 30
 hM : t.M ≤ 24
 hL : L.length = n
def ZjQ (t : TxS) (key nm : List Int) (n : Nat) (L : List ClS) (p : Nat) : Nat → St → KE → Prop := goM 0 (Zfc t key nm n L p 0 (YK t (dwL L p)) (dwL L p)) (DwC t n L ∧ p < t.M) (ZT 2 n 9 (fun i => i < n) (fun i => i = n) (fun _ => False) (fun _ => False) (fun _ => Z2S t key nm n L p (YK t (dwL L (p + 1))) (dwL L (p + 1))) (fun _ => Z2S t key nm n L p (YK t (dwL L (p + 1))) (dwL L (p + 1))) (fun _ => Z2S t key nm n L p (YK t (dwL L (p + 1))) (dwL L (p + 1))))
theorem Zfe (t : TxS) (key nm : List Int) (n : Nat) (L : List ClS) (p : Nat) : (G0.withL 18 2 (ZjQ t key nm n L p)).Ok :=
 Za.withGoM (N := 20) (S := fun i => Zfc t key nm n L p i (YK t (dwD L p i)) (dwD L p i)) Zv (by kernel_rfl) fun hC => ⟨by rw [ZjN], fun i hi _ => by
  obtain ⟨⟨c1, c2, c3⟩, c4⟩ := hC
  refine ZkJ t key nm n p i _ _ _ L _ _ _ (i < n ∧ i < n) (i = n) c1 c4 c2 hi (Zfb (by omega)) (fun h => ?_) (fun h k => ?_) (fun h k => ?_) (fun h => ⟨h, h⟩) (fun h => h)
  ·subst h
   rw [ZjO c3]
   exact ⟨rfl, rfl⟩
  ·rw [ZfH (by omega), if_pos k]
   refine ⟨rfl, ?_⟩
   rw [Z9S, k, Int.toNat_natCast]
  ·rw [ZfH (by omega), if_neg k]
   exact ⟨rfl, rfl⟩⟩
noncomputable def Zff (t : TxS) (key nm : List Int) (n : Nat) (L : List ClS) : Za := G0.withL 18 2 (Z9r (ZjQ t key nm n L))
theorem Zfg (t : TxS) (key nm : List Int) (n : Nat) (L : List ClS) : (Zff t key nm n L).Ok := Za.withL_ex Zv fun p => Zfe t key nm n L p
theorem ZkL (t : TxS) (key nm : List Int) (n p : Nat) (L : List ClS) (Z1 Z2 : Prop) (hC : DwC t n L) (hp : p ≤ t.M) (h1 : p < t.M → Z1) (h2 : p = t.M → Z2) :
  Zz (Zff t key nm n L) 20 18 0 0 (Z2S t key nm n L p (YK t (dwL L p)) (dwL L p)) (rdM 0 0 9 (Z2S t key nm n L (p + 1) (YK t (dwL L (p + 1))) (dwL L (p + 1))) (Z2T t key nm n L (YK t (dwL L p)) (dwL L p)) (Z2T t key nm n L (YK t (dwL L p)) (dwL L p)) (Z2T t key nm n L (YK t (dwL L p)) (dwL L p)) Z1 Z2 False False) := by
 refine @Eq.mpr _ (let q1 := t.M;
 let q2 := decide (n = n);
 let q3 := Zm L = Zm L;
 let q4 := dwL L p;
 let q5 := YK t q4;
 let q6 := List.length q4;
 let q7 := [(5, 5), (1, 1), (2, 2), (3, 3), (4, 4), (0, 0)];
 let q8 := Zf (swI nm q4);
 let q9 := decide (t.num = t.num);
 let q10 := decide (t.N = t.N);
 let q11 := Zf t.ins;
 let q12 := q11 = q11;
 let q13 := decide (q1 = q1);
 let q14 := Zn t.outs;
 let q15 := q14 = q14;
 let q16 := dwL L (p + 1);
 let q17 := List.length q16;
 let q18 := decide (q6 = q6);
 Z0 (decide ((↑p : Int) < (↑q1 : Int)))
 (∃ (i : Nat),
 let q37 := dwL L i;
 let q38 := List.length q37;
 let q39 := decide (q6 = q38);
 let q40 := dwL L (i + 1);
 let q41 := YK t q40;
 let q42 := List.length q40;
 let q43 := decide (q42 = q17);
 let q44 := Zf (swI nm q40);
 let q45 := decide (q42 = q6);
 Z0 (decide ((↑p : Int) = (↑i : Int)))
 (Z0 q2
 (q3 ∧
 Z0 q2
 (Z0 (decide (q5 = YK t q37))
 (Z0 q39
 (Zg 0 q7 q38 (Zf (swI nm q37)) q8 ∧
 Z0 q39
 (Z0 (decide (q38 ≤ q6))
 (nm = nm ∧
 key = key ∧
 Z0 q9
 (Z0 q10
 (q12 ∧
 Z0 q10
 (Z0 q13
 (q15 ∧
 Z0 q13
 ((DwC t n L ∧ i < q1) ∧
 ∀ (i_1 : Nat),
 i_1 ≤ n →
 (∀ (j : Nat), j < i_1 → (fun (i : Nat) => i < n) j) →
 (i_1 = n → Z0 (decide (wrap i64 ((↑i : Int) + 1) = (↑(p + 1) : Int))) (Z0 q2 (q3 ∧ Z0 q2 (Z0 (decide (q41 = YK t q16)) (Z0 q43 (Zg 0 q7 q17 (Zf (swI nm q16)) q44 ∧ Z0 q43 (Z0 (decide (q17 ≤ q42)) (nm = nm ∧ key = key ∧ Z0 q9 (Z0 q10 (q12 ∧ Z0 q10 (Z0 q13 (q15 ∧ Z0 q13 Z1 False) False) False) False) False) False) False) False) False) False) False) False) ∧ (False → Z0 q2 (q3 ∧ Z0 q2 (Z0 (decide (q41 = q5)) (Z0 q45 (Zg 0 q7 q6 q8 q44 ∧ Z0 q45 (Z0 (decide (q6 ≤ q42)) (nm = nm ∧ key = key ∧ Z0 q9 (Z0 q10 (q12 ∧ Z0 q10 (Z0 q13 (q15 ∧ Z0 q13 False False) False) False) False) False) False) False) False) False) False) False) ∧ (False → Z0 q2 (q3 ∧ Z0 q2 (Z0 (decide (q41 = q5)) (Z0 q45 (Zg 0 q7 q6 q8 q44 ∧ Z0 q45 (Z0 (decide (q6 ≤ q42)) (nm = nm ∧ key = key ∧ Z0 q9 (Z0 q10 (q12 ∧ Z0 q10 (Z0 q13 (q15 ∧ Z0 q13 False False) False) False) False) False) False) False) False) False) False) False))
 False)
 False)
 False)
 False)
 False)
 False)
 False)
 False)
 False)
 False)
 False)
 False)
 (Z0 q2 (q3 ∧ Z0 q2 (Z0 (decide (q5 = q5)) (Z0 q18 (Zg 0 q7 q6 q8 q8 ∧ Z0 q18 (Z0 (decide (q6 ≤ q6)) (nm = nm ∧ key = key ∧ Z0 q9 (Z0 q10 (q12 ∧ Z0 q10 (Z0 q13 (q15 ∧ Z0 q13 Z2 False) False) False) False) False) False) False) False) False) False) False)) (by kernel_rfl) ?_
 conv => zeta
 try simp only [Zc]
 try simp only [Zi]
 try simp only [Ze]
 try simp only [Zj]
 try simp only [Zk]
 try simp only [Zd]
 try simp only [Int.toNat_natCast, Nat.zero_add, true_and, and_true, Nat.le_refl]
 have hR : ∀ τ q, Zg 0 τ (dwL L q).length (Zf (swI nm (dwL L q))) (Zf (swI nm (dwL L q))) := fun τ q => Yi fun _ _ => rfl
 have hM := hC.hM
 have hw : i64.wrap ((p : Int) + 1) = ((p + 1 : Nat) : Int) := by rw [w64 (by omega)]; omega
 exact ⟨fun hc => ⟨p, rfl, rfl, rfl, hR _ _, rfl, Nat.le_refl _, ⟨hC, by omega⟩, fun i _ _ => ⟨fun _ => ⟨hw, rfl, rfl, hR _ _, rfl, Nat.le_refl _, h1 (by omega)⟩, fun h => h.elim, fun h => h.elim⟩⟩, fun hc => ⟨hR _ _, h2 (by omega)⟩⟩
def ZjR (t : TxS) (key nm : List Int) (n : Nat) (L : List ClS) : Nat → St → KE → Prop := goM 0 (Z2S t key nm n L 0 0 []) (DwC t n L) (ZT 0 t.M 9 (fun p => p < t.M) (fun p => p = t.M) (fun _ => False) (fun _ => False) (fun p => Z2T t key nm n L (YK t (dwL L p)) (dwL L p)) (fun p => Z2T t key nm n L (YK t (dwL L p)) (dwL L p)) (fun p => Z2T t key nm n L (YK t (dwL L p)) (dwL L p)))
theorem Zfh (t : TxS) (key nm : List Int) (n : Nat) (L : List ClS) : ((Zff t key nm n L).withL 18 0 (ZjR t key nm n L)).Ok :=
 Za.withGoM (N := 20) (S := fun p => Z2S t key nm n L p (YK t (dwL L p)) (dwL L p)) (Zfg t key nm n L) (by kernel_rfl) fun hC => ⟨rfl, fun p hp _ =>
  ZkL t key nm n p L (p < t.M ∧ p < t.M) (p = t.M) hC hp (fun h => ⟨h, h⟩) (fun h => h)⟩
def ZjS (t : TxS) (key nm : List Int) (n : Nat) (L D : List ClS) (s : Int) : Nat → St → KE → Prop := goM 0 (Zfd t key nm n L 0 s D) (n ≤ 30) (ZT 4 n 9 (fun i => i < n ∧ (L.getD i cl0).way ≠ 1) (fun i => i = n) (fun i => i < n ∧ (L.getD i cl0).way = 1) (fun _ => False) (fun _ => Z2T t key nm n L s D) (fun _ => ZjP) (fun _ => Z2T t key nm n L s D))
theorem Zfi (t : TxS) (key nm : List Int) (n : Nat) (L D : List ClS) (s : Int) : (G0.withL 18 4 (ZjS t key nm n L D s)).Ok :=
 Za.withGoM (N := 20) (S := fun i => Zfd t key nm n L i s D) Zv (by kernel_rfl) fun hC => ⟨rfl, fun i hi _ =>
  ZkK t key nm n i s L D _ _ _ hC hi (fun h k => ⟨⟨h, k⟩, h⟩) (fun h => h) (fun h k => ⟨h, k⟩)⟩
noncomputable def ZcL (A : List Int → Int × Int) (Nm : TxS → List Int) (t : TxS) (key nm : List Int) (n : Nat) (L D : List ClS) (s : Int) : Za := (((G0.withP 44 (ZbG A)).withP 45 (Z7t Nm)).withL 18 0 (ZjR t key nm n L)).withL 18 4 (ZjS t key nm n L D s)
theorem Z67 (t : TxS) (key nm : List Int) (n : Nat) (L D : List ClS) (s : Int) : (ZcL Y0 X8 t key nm n L D s).Ok :=
 Za.withL_join (H := G0) (Za.withL_join (H := Zff t key nm n L) (Za.withP_ok (Za.withP_ok Zv Z9u) Zc4) rfl (Zfh t key nm n L)) rfl (Zfi t key nm n L D s)
theorem Z3L : Bytes Z6 := ⟨fun i => by
 have : Z6.getD i 0 = 0 := by
  unfold Z6
  rw [List.getD_eq_getElem?_getD, List.getElem?_replicate]
  split <;> rfl
 rw [this]; decide⟩
theorem ZkM (A : List Int → Int × Int) (Nm : TxS → List Int) (t : TxS) (key nm : List Int) (n : Nat) (L D : List ClS) (s : Int) (ht : t.Fine) (hB : TxB t) (hk : key.length = 32) (hkb : Bytes key) (hnm : nm = Nm t) (hnl : nm.length = 32) (hn : 1 ≤ n ∧ n ≤ 24) (hl : L.length = n) (hok : ∀ m ∈ L, m.Ok) (hc : ZR A t = true) (hD : D = dwL L t.M) (hs : s = YK t (dwL L t.M)) (hDl : D.length = n) (hw : ∀ i, i < n → (L.getD i cl0).way ≠ 1) (hx : ZR A (swX nm key D n s) = true) :
  evF (ZcL A Nm t key nm n L D s) 20 18 [.agg t.c, .agg [.arr .u8 32 key], .vrows 34 n (Zm L) n] ⟨0, []⟩ (Ym 0 (.ret (.tuple [.agg [.int .i64 0, .nslice ⟨0, 0, 130, 0, 0⟩ 130 n n, .nslice ⟨1, 0, 0, 0, 0⟩ 132 1 1], .int .i64 0])) 2 [(0, .rows 130 n (Zf (swI nm D))), (1, .flat (swO key s).c)]) := by
 refine @Eq.mpr _ (let q1 := t.num;
 let q2 := t.N;
 let q3 := t.M;
 let q4 := decide (n = 0);
 let q5 := Z0 q4 (Z0 q4 False False) False;
 let q6 := decide (n = n);
 let q7 := Zm L = Zm L;
 let q8 := decide (q1 = q1);
 let q9 := decide (q2 = q2);
 let q10 := Zf t.ins;
 let q11 := q10 = q10;
 let q12 := decide (q3 = q3);
 let q13 := Zn t.outs;
 let q14 := q13 = q13;
 let q15 := List.length D;
 let q16 := Zf (swI nm D);
 let q17 := AV.arr u8 32 Z6;
 let q18 := decide (q15 = n);
 let q19 := swO key s;
 ∃ (t_1 : TxS),
 (t_1.num = q1 ∧ ((q2 = q2 ∧ t_1.N = q2) ∧ ∀ (i : Nat), i < q2 → q10 i = InS.c (t_1.ins i)) ∧ (q3 = q3 ∧ t_1.M = q3) ∧ ∀ (i : Nat), i < q3 → q13 i = ZF.c (t_1.outs i)) ∧
 TxS.Ok t_1 ∧
 TxB t_1 ∧
 Z0 (!ZR A t_1) q5
 (Z0 (decide ((↑n : Int) < 1)) q5
 (Z0 (decide ((↑n : Int) > 24)) q5
 (∃ (t_2 : TxS),
 (t_2.num = q1 ∧ ((q2 = q2 ∧ t_2.N = q2) ∧ ∀ (i : Nat), i < q2 → q10 i = InS.c (t_2.ins i)) ∧ (q3 = q3 ∧ t_2.M = q3) ∧ ∀ (i : Nat), i < q3 → q13 i = ZF.c (t_2.outs i)) ∧
 TxS.Fine t_2 ∧
 Z0 q6
 (q7 ∧
 Z0 q6
 (Nm t_2 = nm ∧
 key = key ∧
 Z0 q8
 (Z0 q9
 (q11 ∧
 Z0 q9
 (Z0 q12
 (q14 ∧
 Z0 q12
 (DwC t n L ∧
 ∀ (i : Nat),
 let q39 := dwL L i;
 let q40 := List.length q39;
 let q41 := decide (q40 = q15);
 i ≤ q3 →
 (∀ (j : Nat), j < i → (fun (p : Nat) => p < q3) j) →
 (i = q3 →
 Z0 q6
 (q7 ∧
 Z0 q6
 (Z0 (decide (YK t q39 = s))
 (Z0 q41
 (Zg 0 [(5, 5), (1, 1), (2, 2), (3, 3), (4, 4), (0, 0)] q15 q16 (Zf (swI nm q39)) ∧
 Z0 q41
 (Z0 (decide (q15 ≤ q40))
 (nm = nm ∧
 key = key ∧
 Z0 q8
 (Z0 q9
 (q11 ∧
 Z0 q9
 (Z0 q12
 (q14 ∧
 Z0 q12
 (n ≤ 30 ∧
 ∀ (i : Nat),
 i ≤ n →
 (∀ (j : Nat), j < i → (fun (i : Nat) => i < n ∧ (List.getD L i cl0).way ≠ 1) j) →
 (i = n →
 Z0 ((↑q15 : Int) != (↑n : Int)) q5
 (Z0 (decide (0 + q15 ≤ q15))
 ((∀ (i : Nat), i < q15 → true = true) ∧
 ∃ (t : TxS),
 (t.num = 0 ∧
 ((q15 = q15 ∧ t.N = q15) ∧
 ∀ (i : Nat),
 let q45 := swI nm D i;
 i < q15 → [AV.arr u8 32 q45.name, AV.int i64 q45.index, AV.int i64 q45.way, AV.arr u8 32 q45.tag, AV.arr u8 32 q45.also, AV.arr u8 32 q45.secret] = InS.c (t.ins i)) ∧
 ((1 : Nat) = 1 ∧ t.M = 1) ∧ ∀ (i : Nat), i < 1 → ZM [AV.int i64 1, AV.int i64 s, AV.arr u8 32 key, q17, q17, q17, AV.int i64 0, AV.int i64 0] 0 132 i = ZF.c (t.outs i)) ∧
 TxS.Ok t ∧ TxB t ∧ Z0 (!ZR A t) q5 (Z0 q18 (Z0 (decide (n ≤ q15)) (Z0 q18 (Zg 0 [(1, 6), (0, 5)] n q16 q16 ∧ Z0 (decide (s = q19.amount)) (key = q19.owner ∧ Z6 = q19.other ∧ Z6 = q19.point ∧ Z6 = q19.hash ∧ True) False) False) False) False))
 False)) ∧
 (i < n ∧ (List.getD L i cl0).way = 1 → q5) ∧ (False → False))
 False)
 False)
 False)
 False)
 False)
 False)
 False)
 False)
 False)
 False)
 False) ∧
 (False → False) ∧ (False → False))
 False)
 False)
 False)
 False)
 False)
 False)
 False)))) (by kernel_rfl) ?_
 conv => zeta
 try simp only [Zc]
 try simp only [Zi]
 try simp only [Ze]
 try simp only [Zj]
 try simp only [Zk]
 try simp only [Zd]
 try simp only [Int.toNat_natCast, Nat.zero_add, true_and, and_true, Nat.le_refl]
 have hq : ∀ (t' : TxS) (b : Bool), ZR A t' = b → (!ZR A t') = !b := fun t' b h => by rw [h]
 have hM := ht.m
 refine ⟨t, ⟨rfl, ⟨rfl, fun _ _ => rfl⟩, rfl, fun _ _ => rfl⟩, ht.ok, hB, fun k => by rw [hc] at k; simp at k, fun _ => ⟨fun k => by omega, fun _ => ⟨fun k => by omega, fun _ => ⟨t, ⟨rfl, ⟨rfl, fun _ _ => rfl⟩, rfl, fun _ _ => rfl⟩, ht, hnm.symm, ⟨by omega, hM, hl⟩, fun p hp _ => ⟨fun he => ?_, fun h => h.elim, fun h => h.elim⟩⟩⟩⟩⟩
 subst he
 subst hD hs
 refine ⟨rfl, rfl, Yi fun _ _ => rfl, rfl, Nat.le_refl _, by omega, fun i hi hgo => ⟨fun he => ⟨fun k => by simp [hDl] at k, fun _ => ⟨fun _ _ => trivial, swX nm key (dwL L t.M) n (YK t (dwL L t.M)), ⟨rfl, ⟨hDl.symm, fun _ _ => rfl⟩, rfl, fun j hj => ?_⟩, Z2A hnl hk hDl (by omega) (fun m hm => hok m (Ut.1 hm).1), ⟨fun j _ => ⟨hkb, ?_⟩⟩, fun k => by rw [hx] at k; simp at k, fun _ => ⟨hDl, by omega, hDl, Yi fun _ _ => rfl, rfl, rfl, rfl, rfl, rfl⟩⟩⟩, fun k => absurd k.2 (hw i k.1), fun h => h.elim⟩⟩
 ·have e : j = 0 := by omega
  subst e; rfl
 ·exact Z3L
theorem ZkN (A : List Int → Int × Int) (Nm : TxS → List Int) (t : TxS) (key nm : List Int) (n : Nat) (L D : List ClS) (s : Int) (ht : t.Ok) (hf : ZR A t = true → t.Fine) (hB : TxB t) (hk : key.length = 32) (hkb : Bytes key) (hnm : nm = Nm t) (hnl : nm.length = 32) (hn : n ≤ 30) (hl : L.length = n) (hok : ∀ m ∈ L, m.Ok) (hD : D = dwL L t.M) (hs : s = YK t (dwL L t.M)) (hx : ZR A t = true → 1 ≤ n → n ≤ 24 → (∀ i, i < n → (L.getD i cl0).way ≠ 1) → D.length = n → ZR A (swX nm key D n s) = false) :
  evF (ZcL A Nm t key nm n L D s) 20 18 [.agg t.c, .agg [.arr .u8 32 key], .vrows 34 n (Zm L) n] ⟨0, []⟩ (Ym 0 (.ret (.tuple [.agg txZ, .int .i64 2])) 0 []) := by
 refine @Eq.mpr _ (let q1 := t.num;
 let q2 := t.N;
 let q3 := t.M;
 let q4 := decide (n = n);
 let q5 := Zm L = Zm L;
 let q6 := decide (q1 = q1);
 let q7 := decide (q2 = q2);
 let q8 := Zf t.ins;
 let q9 := q8 = q8;
 let q10 := decide (q3 = q3);
 let q11 := Zn t.outs;
 let q12 := q11 = q11;
 let q13 := List.length D;
 let q14 := AV.arr u8 32 Z6;
 ∃ (t_1 : TxS),
 (t_1.num = q1 ∧ ((q2 = q2 ∧ t_1.N = q2) ∧ ∀ (i : Nat), i < q2 → q8 i = InS.c (t_1.ins i)) ∧ (q3 = q3 ∧ t_1.M = q3) ∧ ∀ (i : Nat), i < q3 → q11 i = ZF.c (t_1.outs i)) ∧
 TxS.Ok t_1 ∧
 TxB t_1 ∧
 Z0 (!ZR A t_1) True
 (Z0 (decide ((↑n : Int) < 1)) True
 (Z0 (decide ((↑n : Int) > 24)) True
 (∃ (t_2 : TxS),
 (t_2.num = q1 ∧ ((q2 = q2 ∧ t_2.N = q2) ∧ ∀ (i : Nat), i < q2 → q8 i = InS.c (t_2.ins i)) ∧ (q3 = q3 ∧ t_2.M = q3) ∧ ∀ (i : Nat), i < q3 → q11 i = ZF.c (t_2.outs i)) ∧
 TxS.Fine t_2 ∧
 Z0 q4
 (q5 ∧
 Z0 q4
 (Nm t_2 = nm ∧
 key = key ∧
 Z0 q6
 (Z0 q7
 (q9 ∧
 Z0 q7
 (Z0 q10
 (q12 ∧
 Z0 q10
 (DwC t n L ∧
 ∀ (i : Nat),
 let q29 := dwL L i;
 let q30 := List.length q29;
 let q31 := decide (q30 = q13);
 i ≤ q3 →
 (∀ (j : Nat), j < i → (fun (p : Nat) => p < q3) j) →
 (i = q3 →
 Z0 q4
 (q5 ∧
 Z0 q4
 (Z0 (decide (YK t q29 = s))
 (Z0 q31
 (Zg 0 [(5, 5), (1, 1), (2, 2), (3, 3), (4, 4), (0, 0)] q13 (Zf (swI nm D)) (Zf (swI nm q29)) ∧
 Z0 q31
 (Z0 (decide (q13 ≤ q30))
 (nm = nm ∧
 key = key ∧
 Z0 q6
 (Z0 q7
 (q9 ∧
 Z0 q7
 (Z0 q10
 (q12 ∧
 Z0 q10
 (n ≤ 30 ∧
 ∀ (i : Nat),
 i ≤ n →
 (∀ (j : Nat), j < i → (fun (i : Nat) => i < n ∧ (List.getD L i cl0).way ≠ 1) j) →
 (i = n →
 Z0 ((↑q13 : Int) != (↑n : Int)) True
 (Z0 (decide (0 + q13 ≤ q13))
 ((∀ (i : Nat), i < q13 → true = true) ∧
 ∃ (t : TxS),
 (t.num = 0 ∧
 ((q13 = q13 ∧ t.N = q13) ∧
 ∀ (i : Nat),
 let q35 := swI nm D i;
 i < q13 → [AV.arr u8 32 q35.name, AV.int i64 q35.index, AV.int i64 q35.way, AV.arr u8 32 q35.tag, AV.arr u8 32 q35.also, AV.arr u8 32 q35.secret] = InS.c (t.ins i)) ∧
 ((1 : Nat) = 1 ∧ t.M = 1) ∧ ∀ (i : Nat), i < 1 → ZM [AV.int i64 1, AV.int i64 s, AV.arr u8 32 key, q14, q14, q14, AV.int i64 0, AV.int i64 0] 0 132 i = ZF.c (t.outs i)) ∧
 TxS.Ok t ∧ TxB t ∧ Z0 (!ZR A t) True False)
 False)) ∧
 (i < n ∧ (List.getD L i cl0).way = 1 → True) ∧ (False → False))
 False)
 False)
 False)
 False)
 False)
 False)
 False)
 False)
 False)
 False)
 False) ∧
 (False → False) ∧ (False → False))
 False)
 False)
 False)
 False)
 False)
 False)
 False)))) (by kernel_rfl) ?_
 conv => zeta
 try simp only [Zc]
 try simp only [Zi]
 try simp only [Ze]
 try simp only [Zj]
 try simp only [Zk]
 try simp only [Zd]
 try simp only [Int.toNat_natCast, Nat.zero_add, true_and, and_true, Nat.le_refl]
 refine ⟨t, ⟨rfl, ⟨rfl, fun _ _ => rfl⟩, rfl, fun _ _ => rfl⟩, ht, hB, ?_⟩
 cases hc : ZR A t with
 | false => exact ⟨fun _ => trivial, fun k => by simp at k⟩
 | true =>
  have ht' := hf hc
  have hx := hx hc
  refine ⟨fun k => by simp at k, fun _ => ⟨fun _ => trivial, fun k1 => ⟨fun _ => trivial, fun k2 => ⟨t, ⟨rfl, ⟨rfl, fun _ _ => rfl⟩, rfl, fun _ _ => rfl⟩, ht', hnm.symm, ⟨by omega, ht'.m, hl⟩, fun p hp _ => ⟨fun he => ?_, fun h => h.elim, fun h => h.elim⟩⟩⟩⟩⟩
  subst he
  subst hD hs
  have hx := hx (by omega) (by omega)
  refine ⟨rfl, rfl, Yi fun _ _ => rfl, rfl, Nat.le_refl _, by omega, fun i hi hgo => ⟨fun he => ⟨fun _ => trivial, fun k3 => ?_⟩, fun _ => trivial, fun h => h.elim⟩⟩
  have hDl : (dwL L t.M).length = n := by
   have : ((dwL L t.M).length : Int) = n := by simpa using k3
   omega
  subst he
  have hx := hx (fun j hj => (hgo j hj).2) hDl
  refine ⟨fun _ _ => trivial, swX nm key (dwL L t.M) i (YK t (dwL L t.M)), ⟨rfl, ⟨hDl.symm, fun _ _ => rfl⟩, rfl, fun j hj => ?_⟩, Z2A hnl hk hDl (by omega) (fun m hm => hok m (Ut.1 hm).1), ⟨fun j _ => ⟨hkb, ?_⟩⟩, by rw [hx]; rfl⟩
  ·have e : j = 0 := by omega
   subst e; rfl
  ·exact Z3L
def Z4Q (Nm : TxS → List Int) (t : TxS) (key : List Int) (L : List ClS) (n : Nat) : Prop := (t.Ok ∧ TxB t ∧ key.length = 32 ∧ Bytes key) ∧ (ZR Y0 t = true → t.Fine) ∧ (n ≤ 30 ∧ L.length = n ∧ ∀ m ∈ L, m.Ok)
def dwY (Nm : TxS → List Int) : Y6 := fun args h K => frA [] h 20 args fun _ a => match a with
 | [.agg l, .agg [.arr .u8 32 key], v] => ∃ t n L, Qj l t ∧ Z2R v n L ∧ Z4Q Nm t key L n ∧ ZR Y0 t = true ∧ XT Nm t key L n ∧
  K (.ret (.tuple [.agg [.int .i64 0, .nslice ⟨h.next, 0, 130, 0, 0⟩ 130 n n, .nslice ⟨h.next + 1, 0, 0, 0, 0⟩ 132 1 1], .int .i64 0])) ⟨h.next + 2, (h.next, .rows 130 n (Zf (swI (Nm t) (dwL L t.M)))) :: (h.next + 1, .flat (swO key (YK t (dwL L t.M))).c) :: h.bs⟩
 | _ => False
def dwN (Nm : TxS → List Int) : Y6 := fun args h K => frA [] h 20 args fun _ a => match a with
 | [.agg l, .agg [.arr .u8 32 key], v] => ∃ t n L, Qj l t ∧ Z2R v n L ∧ Z4Q Nm t key L n ∧ (ZR Y0 t = true → ¬ XT Nm t key L n) ∧ K (.ret (.tuple [.agg txZ, .int .i64 2])) h
 | _ => False
theorem ZcM {L : List ClS} {n : Nat} (hl : L.length = n) : (∀ c ∈ L, c.way ≠ 1) ↔ ∀ i, i < n → (L.getD i cl0).way ≠ 1 := by
 constructor
 ·intro h i hi
  refine h _ ?_
  rw [List.getD_eq_getElem?_getD, List.getElem?_eq_getElem (show i < L.length by omega)]
  exact List.getElem_mem _
 ·intro h c hc
  obtain ⟨i, hi, rfl⟩ := List.mem_iff_getElem.1 hc
  have := h i (by omega)
  rwa [List.getD_eq_getElem?_getD, List.getElem?_eq_getElem hi] at this
theorem Zhy (args : List AV) (h : Z7) (K : KO) (hl : dwY X8 args h K) : Zh PP 18 args h K := by
 refine Spec.fsumm (σ := []) (d := 20) hl fun Bs a₀ hlen h0 => ?_
 split at h0
 ·obtain ⟨t, n, L, h1, h2, ⟨⟨k1, k2, k3, k4⟩, k5, k6, k7, k8⟩, k9, ⟨g1, g2, g3, g4, g5⟩, hK⟩ := h0
  exact ⟨_, _, _, _, _, (Spec.evM (h0 := ⟨0, []⟩) (Z67 t _ (X8 t) n L (dwL L t.M) (YK t (dwL L t.M))) (ZkM Y0 X8 t _ _ n L _ _ (k5 k9) k2 k3 k4 rfl (Z0m t) ⟨g1, g2⟩ k7 k8 k9 rfl rfl g4 ((ZcM k7).1 g3) g5)).conv fun E r hr => hr.head (fun _ hc => h1.rel hc) (fun _ hc => hc.head (fun _ hc => hc) (fun _ hc => hc.head (fun _ hc => h2.rel hc) (fun _ hc => hc))), Nat.zero_le _, .ret _ _ rfl, .cons 0 _ _ _ _ _ rfl (.rows _ _ _ fun i _ => (swI (X8 t) (dwL L t.M) i).plainC) (.cons 1 _ _ _ _ _ rfl (.flat _ _ rfl) .nil), hK⟩
 ·exact h0.elim
theorem Zhz (args : List AV) (h : Z7) (K : KO) (hl : dwN X8 args h K) : Zh PP 18 args h K := by
 refine Spec.fsumm (σ := []) (d := 20) hl fun Bs a₀ hlen h0 => ?_
 split at h0
 ·obtain ⟨t, n, L, h1, h2, ⟨⟨k1, k2, k3, k4⟩, k5, k6, k7, k8⟩, k9, hK⟩ := h0
  refine ⟨_, _, _, _, _, (Spec.evM (h0 := ⟨0, []⟩) (Z67 t _ (X8 t) n L (dwL L t.M) (YK t (dwL L t.M))) (ZkN Y0 X8 t _ _ n L _ _ k1 k5 k2 k3 k4 rfl (Z0m t) k6 k7 k8 rfl rfl fun c1 c2 c3 c4 c5 => ?_)).conv fun E r hr => hr.head (fun _ hc => h1.rel hc) (fun _ hc => hc.head (fun _ hc => hc) (fun _ hc => hc.head (fun _ hc => h2.rel hc) (fun _ hc => hc))), Nat.zero_le _, .ret _ _ rfl, .nil, hK⟩
  cases hx : ZR Y0 (swX (X8 t) _ (dwL L t.M) n (YK t (dwL L t.M))) with
  | false => rfl
  | true => exact absurd ⟨c2, c3, (ZcM k7).2 c4, c5, hx⟩ (k9 c1)
 ·exact h0.elim
end Go.Tk
end
section
namespace Go.Tk
open IntKind (i64 u8 u32 u64 wrap)
end Go.Tk
end
section
namespace Go.Tk
open IntKind (i64 u8 u32 u64 wrap)
def ZjT (Nm : TxS → List Int) : Y6 := fun args h K => frA [] h 20 args fun _ a => match a with
 | [.agg l, .agg [.arr .u8 32 key], v] => ∃ t n L, Qj l t ∧ Z2R v n L ∧ Z4Q Nm t key L n ∧ (ZR Y0 t = true → ¬ XT Nm t key L n) ∧ K (.ret (.tuple [.agg txZ, .int .i64 2])) h
 | _ => False
theorem Zfj (args : List AV) (h : Z7) (K : KO) (hl : ZjT Xo args h K) : Zh PP 17 args h K := by
 refine Spec.fsumm (σ := []) (d := 20) hl fun Bs a₀ hlen h0 => ?_
 split at h0
 ·obtain ⟨t, n, L, h1, h2, ⟨⟨k1, k2, k3, k4⟩, k5, k6, k7, k8⟩, k9, hK⟩ := h0
  exact ⟨_, _, _, _, _, (Spec.evM (h0 := ⟨0, []⟩) (Z8u Z3K) (Zjr Y0 Xo 31 t _ n L k1 (fun hc => (k5 hc).m) k3 (Z3s _) ⟨by omega, k6⟩ k7 k8 fun hc L1 hp ho sum hg => k9 hc (Zhe hc k7 hp ho hg))).conv fun E r hr => hr.head (fun _ hc => h1.rel hc) (fun _ hc => hc.head (fun _ hc => hc) (fun _ hc => hc.head (fun _ hc => h2.rel hc) (fun _ hc => hc))), Nat.zero_le _, .ret _ _ rfl, .nil, hK⟩
 ·exact h0.elim
def ZjU (Nm : TxS → List Int) : Y6 := fun args h K => frA [] h 20 args fun _ a => match a with
 | [.agg l, .agg [.arr .u8 32 key], v] => ∃ t n L, Qj l t ∧ Z2R v n L ∧ Z4Q Nm t key L n ∧ ZR Y0 t = true ∧ XT Nm t key L n ∧
  K (.ret (.tuple [.agg [.int .i64 0, .nslice ⟨h.next, 0, 130, 0, 0⟩ 130 n n, .nslice ⟨h.next + 1, 0, 0, 0, 0⟩ 132 1 1], .int .i64 0])) ⟨h.next + 2, (h.next, .rows 130 n (Zf (swI (Nm t) (dwL L t.M)))) :: (h.next + 1, .flat (swO key (YK t (dwL L t.M))).c) :: h.bs⟩
 | _ => False
theorem Zfk (args : List AV) (h : Z7) (K : KO) (hl : ZjU Xo args h K) : Zh PP 17 args h K := by
 refine Spec.fsumm (σ := []) (d := 20) hl fun Bs a₀ hlen h0 => ?_
 split at h0
 ·obtain ⟨t, n, L, h1, h2, ⟨⟨k1, k2, k3, k4⟩, k5, k6, k7, k8⟩, k9, hg, hK⟩ := h0
  obtain ⟨g1, g2⟩ := Zhd k9 k7 hg
  exact ⟨_, _, _, _, _, (Spec.evM (h0 := ⟨0, []⟩) (Z8u Z3K) (Zjq Y0 Xo 31 t _ n L _ _ k1 (k5 k9).m k3 (Z3s _) ⟨by omega, k6⟩ k7 k8 k9 g1 g2)).conv fun E r hr => hr.head (fun _ hc => h1.rel hc) (fun _ hc => hc.head (fun _ hc => hc) (fun _ hc => hc.head (fun _ hc => h2.rel hc) (fun _ hc => hc))), Nat.zero_le _, .ret _ _ rfl, .cons 0 _ _ _ _ _ rfl (.rows _ _ _ fun i _ => (swI (Xo t) _ i).plainC) (.cons 1 _ _ _ _ _ rfl (.flat _ _ rfl) .nil), hK⟩
 ·exact h0.elim
noncomputable def ZhA (F : TxS → TxS → Bool) (C P : Y6) : Za := (((G0.withP 8 Z15).withP 16 (Zbw F)).withF 17 C).withF 18 P
theorem Z8I {C P : Y6} (hC : ∀ args h K, C args h K → Zh PP 17 args h K) (hP : ∀ args h K, P args h K → Zh PP 18 args h K) : (ZhA XZ C P).Ok :=
 Za.withF_ok (Za.withF_ok (Za.withP_ok (Za.withP_ok Zv Z3H) ZbH) hC) hP
theorem ZjV (t : TxS) (key : List Int) (n : Nat) (L : List ClS) (h : ¬ ((t.N ≤ 30 ∧ t.M ≤ 30) ∧ n ≤ 30)) :
  evF ((G0.withP 8 Z15).withF 17 noF) 20 4 [.agg t.c, .agg [.arr .u8 32 key], .vrows 34 n (Zm L) n] ⟨0, []⟩ (Z2P (fun v => v = .bool true)) := by
 refine @Eq.mpr _ (let q1 := AV.bool true = AV.bool true;
 Z0 (decide ((↑t.N : Int) > 30)) q1 (Z0 (decide ((↑t.M : Int) > 30)) q1 (Z0 (decide ((↑n : Int) > 30)) q1 False))) (by kernel_rfl) ?_
 conv => zeta
 try simp only [Zc]
 try simp only [Zi]
 try simp only [Ze]
 try simp only [Zj]
 try simp only [Zk]
 try simp only [Zd]
 try simp only [Int.toNat_natCast, Nat.zero_add, true_and, and_true, Nat.le_refl]
 exact ⟨fun _ => trivial, fun k1 => ⟨fun _ => trivial, fun k2 => by
  by_cases q : n ≤ 30
  ·exact (h ⟨⟨by omega, by omega⟩, q⟩).elim
  ·omega⟩⟩
theorem ZjW (F : TxS → TxS → Bool) (Nt Nd : TxS → List Int) (t : TxS) (key : List Int) (n : Nat) (L : List ClS) (hF : F = XZ) (hN : t.N ≤ 30 ∧ t.M ≤ 30) (h1 : Z4Q Nt t key L n) (h2 : Z4Q Nd t key L n) (g1 : ZR Y0 t = true → ¬ XT Nt t key L n) (g2 : ZR Y0 t = true → ¬ XT Nd t key L n) :
  evF (ZhA F (ZjT Nt) (dwN Nd)) 20 4 [.agg t.c, .agg [.arr .u8 32 key], .vrows 34 n (Zm L) n] ⟨0, []⟩ (Z2P (fun v => v = .bool true)) := by
 refine @Eq.mpr _ (let q1 := t.N;
 let q2 := AV.bool true;
 let q3 := q2 = q2;
 let q4 := t.M;
 Z0 (decide ((↑q1 : Int) > 30)) q3
 (Z0 (decide ((↑q4 : Int) > 30)) q3
 (Z0 (decide ((↑n : Int) > 30)) q3
 (∃ (t_1 : TxS),
 let q9 := List.length key = 32 ∧ Bytes key;
 let q10 := ZR Y0 t_1 = true;
 ∃ (n_1 : Nat),
 ∃ (L_1 : List ClS),
 (t_1.num = t.num ∧ ((q1 = q1 ∧ t_1.N = q1) ∧ ∀ (i : Nat), i < q1 → Zf t.ins i = InS.c (t_1.ins i)) ∧ (q4 = q4 ∧ t_1.M = q4) ∧ ∀ (i : Nat), i < q4 → Zn t.outs i = ZF.c (t_1.outs i)) ∧
 ((n = n ∧ n_1 = n) ∧ ∀ (i : Nat), i < n → Zm L i = Zm L_1 i) ∧
 ((TxS.Ok t_1 ∧ TxB t_1 ∧ q9) ∧ (q10 → TxS.Fine t_1) ∧ n_1 ≤ 30 ∧ List.length L_1 = n_1 ∧ ∀ (m : ClS), List.Mem m L_1 → ClS.Ok m) ∧
 (q10 → ¬XT Nt t_1 key L_1 n_1) ∧
 ∃ (t_2 : TxS),
 let q13 := ZR Y0 t_2 = true;
 ∃ (n_2 : Nat), ∃ (L_2 : List ClS), (t_2.num = t.num ∧ ((q1 = q1 ∧ t_2.N = q1) ∧ ∀ (i : Nat), i < q1 → Zf t.ins i = InS.c (t_2.ins i)) ∧ (q4 = q4 ∧ t_2.M = q4) ∧ ∀ (i : Nat), i < q4 → Zn t.outs i = ZF.c (t_2.outs i)) ∧ ((n = n ∧ n_2 = n) ∧ ∀ (i : Nat), i < n → Zm L i = Zm L_2 i) ∧ ((TxS.Ok t_2 ∧ TxB t_2 ∧ q9) ∧ (q13 → TxS.Fine t_2) ∧ n_2 ≤ 30 ∧ List.length L_2 = n_2 ∧ ∀ (m : ClS), List.Mem m L_2 → ClS.Ok m) ∧ (q13 → ¬XT Nd t_2 key L_2 n_2) ∧ ∃ (a : TxS), ∃ (b : TxS), (a.num = 0 ∧ a.N = 0 ∧ a.M = 0) ∧ (b.num = 0 ∧ b.N = 0 ∧ b.M = 0) ∧ (TxS.Ok a ∧ TxS.Ok b) ∧ Z0 (F a b) q3 (AV.bool false = q2))))) (by kernel_rfl) ?_
 conv => zeta
 try simp only [Zc]
 try simp only [Zi]
 try simp only [Ze]
 try simp only [Zj]
 try simp only [Zk]
 try simp only [Zd]
 try simp only [Int.toNat_natCast, Nat.zero_add, true_and, and_true, Nat.le_refl]
 have hF2 : ∀ x, F x x = true := fun x => by subst hF; exact Z2w x
 exact ⟨fun _ => trivial, fun _ => ⟨fun _ => trivial, fun _ => ⟨fun _ => trivial, fun _ => ⟨t, n, L, ⟨rfl, ⟨rfl, fun _ _ => rfl⟩, rfl, fun _ _ => rfl⟩, ⟨rfl, fun _ _ => rfl⟩, h1, g1, t, n, L, ⟨rfl, ⟨rfl, fun _ _ => rfl⟩, rfl, fun _ _ => rfl⟩, ⟨rfl, fun _ _ => rfl⟩, h2, g2, tx0, tx0, ⟨rfl, rfl, rfl⟩, ⟨rfl, rfl, rfl⟩, ⟨Zcf, Zcf⟩, fun _ => trivial, fun k => by rw [hF2] at k; cases k⟩⟩⟩⟩
theorem ZjX (F : TxS → TxS → Bool) (Nt Nd : TxS → List Int) (t : TxS) (key : List Int) (n : Nat) (L : List ClS) (hF : F = XZ) (hN : t.N ≤ 30 ∧ t.M ≤ 30) (h1 : Z4Q Nt t key L n) (h2 : Z4Q Nd t key L n) (hc : ZR Y0 t = true) (g1 : XT Nt t key L n) (g2 : XT Nd t key L n) (hn : Nt t = Nd t) (hl : (Nd t).length = 32) :
  evF (ZhA F (ZjU Nt) (dwY Nd)) 20 4 [.agg t.c, .agg [.arr .u8 32 key], .vrows 34 n (Zm L) n] ⟨0, []⟩ (Z2P (fun v => v = .bool true)) := by
 refine @Eq.mpr _ (let q1 := t.N;
 let q2 := AV.bool true;
 let q3 := q2 = q2;
 let q4 := t.M;
 Z0 (decide ((↑q1 : Int) > 30)) q3
 (Z0 (decide ((↑q4 : Int) > 30)) q3
 (Z0 (decide ((↑n : Int) > 30)) q3
 (∃ (t_1 : TxS),
 let q9 := List.length key = 32 ∧ Bytes key;
 let q10 := ZR Y0 t_1 = true;
 ∃ (n_1 : Nat),
 ∃ (L_1 : List ClS),
 let q13 := dwL L_1 t_1.M;
 let q14 := swO key (YK t_1 q13);
 (t_1.num = t.num ∧ ((q1 = q1 ∧ t_1.N = q1) ∧ ∀ (i : Nat), i < q1 → Zf t.ins i = InS.c (t_1.ins i)) ∧ (q4 = q4 ∧ t_1.M = q4) ∧ ∀ (i : Nat), i < q4 → Zn t.outs i = ZF.c (t_1.outs i)) ∧
 ((n = n ∧ n_1 = n) ∧ ∀ (i : Nat), i < n → Zm L i = Zm L_1 i) ∧
 ((TxS.Ok t_1 ∧ TxB t_1 ∧ q9) ∧ (q10 → TxS.Fine t_1) ∧ n_1 ≤ 30 ∧ List.length L_1 = n_1 ∧ ∀ (m : ClS), List.Mem m L_1 → ClS.Ok m) ∧
 q10 ∧
 XT Nt t_1 key L_1 n_1 ∧
 ∃ (t_2 : TxS),
 let q17 := ZR Y0 t_2 = true;
 ∃ (n_2 : Nat),
 ∃ (L_2 : List ClS),
 let q19 := dwL L_2 t_2.M;
 let q20 := swO key (YK t_2 q19);
 (t_2.num = t.num ∧ ((q1 = q1 ∧ t_2.N = q1) ∧ ∀ (i : Nat), i < q1 → Zf t.ins i = InS.c (t_2.ins i)) ∧ (q4 = q4 ∧ t_2.M = q4) ∧ ∀ (i : Nat), i < q4 → Zn t.outs i = ZF.c (t_2.outs i)) ∧
 ((n = n ∧ n_2 = n) ∧ ∀ (i : Nat), i < n → Zm L i = Zm L_2 i) ∧
 ((TxS.Ok t_2 ∧ TxB t_2 ∧ q9) ∧ (q17 → TxS.Fine t_2) ∧ n_2 ≤ 30 ∧ List.length L_2 = n_2 ∧ ∀ (m : ClS), List.Mem m L_2 → ClS.Ok m) ∧
 q17 ∧
 XT Nd t_2 key L_2 n_2 ∧
 Z0 (decide (0 + n_1 ≤ n_1))
 ((∀ (i : Nat), i < n_1 → true = true) ∧
 Z0 (decide (0 + n_2 ≤ n_2))
 ((∀ (i : Nat), i < n_2 → true = true) ∧
 ∃ (a : TxS),
 ∃ (b : TxS),
 (a.num = 0 ∧
 ((n_1 = n_1 ∧ a.N = n_1) ∧
 ∀ (i : Nat),
 let q23 := swI (Nt t_1) q13 i;
 i < n_1 → [AV.arr u8 32 q23.name, AV.int i64 q23.index, AV.int i64 q23.way, AV.arr u8 32 q23.tag, AV.arr u8 32 q23.also, AV.arr u8 32 q23.secret] = InS.c (a.ins i)) ∧
 ((1 : Nat) = 1 ∧ a.M = 1) ∧ ∀ (i : Nat), i < 1 → ZM [AV.int i64 q14.kind, AV.int i64 q14.amount, AV.arr u8 32 q14.owner, AV.arr u8 32 q14.other, AV.arr u8 32 q14.point, AV.arr u8 32 q14.hash, AV.int i64 q14.delay, AV.int i64 q14.expiry] 0 132 i = ZF.c (a.outs i)) ∧
 (b.num = 0 ∧
 ((n_2 = n_2 ∧ b.N = n_2) ∧
 ∀ (i : Nat),
 let q23 := swI (Nd t_2) q19 i;
 i < n_2 → [AV.arr u8 32 q23.name, AV.int i64 q23.index, AV.int i64 q23.way, AV.arr u8 32 q23.tag, AV.arr u8 32 q23.also, AV.arr u8 32 q23.secret] = InS.c (b.ins i)) ∧
 ((1 : Nat) = 1 ∧ b.M = 1) ∧ ∀ (i : Nat), i < 1 → ZM [AV.int i64 q20.kind, AV.int i64 q20.amount, AV.arr u8 32 q20.owner, AV.arr u8 32 q20.other, AV.arr u8 32 q20.point, AV.arr u8 32 q20.hash, AV.int i64 q20.delay, AV.int i64 q20.expiry] 0 132 i = ZF.c (b.outs i)) ∧
 (TxS.Ok a ∧ TxS.Ok b) ∧ Z0 (F a b) q3 (AV.bool false = q2))
 False)
 False)))) (by kernel_rfl) ?_
 conv => zeta
 try simp only [Zc]
 try simp only [Zi]
 try simp only [Ze]
 try simp only [Zj]
 try simp only [Zk]
 try simp only [Zd]
 try simp only [Int.toNat_natCast, Nat.zero_add, true_and, and_true, Nat.le_refl]
 have hF2 : ∀ x, F x x = true := fun x => by subst hF; exact Z2w x
 have hX : (swX (Nd t) key (dwL L t.M) n (YK t (dwL L t.M))).Ok := Z2A hl h2.1.2.2.1 g2.len (by have := g2.n2; omega) (fun m hm => h2.2.2.2.2 m (Ut.1 hm).1)
 refine ⟨fun _ => trivial, fun _ => ⟨fun _ => trivial, fun _ => ⟨fun _ => trivial, fun _ => ⟨t, n, L, ⟨rfl, ⟨rfl, fun _ _ => rfl⟩, rfl, fun _ _ => rfl⟩, ⟨rfl, fun _ _ => rfl⟩, h1, hc, g1, t, n, L, ⟨rfl, ⟨rfl, fun _ _ => rfl⟩, rfl, fun _ _ => rfl⟩, ⟨rfl, fun _ _ => rfl⟩, h2, hc, g2, fun _ _ => trivial, fun _ _ => trivial, swX (Nd t) key (dwL L t.M) n (YK t (dwL L t.M)), swX (Nd t) key (dwL L t.M) n (YK t (dwL L t.M)), ⟨rfl, ⟨rfl, fun _ _ => ?_⟩, rfl, fun j hj => ?_⟩, ⟨rfl, ⟨rfl, fun _ _ => rfl⟩, rfl, fun j hj => ?_⟩, ⟨hX, hX⟩, fun _ => trivial, fun k => by rw [hF2] at k; cases k⟩⟩⟩⟩
 ·rw [hn]; rfl
 ·have e : j = 0 := by omega
  subst e; rfl
 ·have e : j = 0 := by omega
  subst e; rfl
theorem Za1 {t : TxS} {key : List Int} {n : Nat} {L : List ClS} (ht : t.N < 900000000000 → t.M < 900000000000 → t.Ok) (hA : Z3x t) (hk : key.length = 32) (hb : Bytes key) (hl : L.length = n) (hok : ∀ m ∈ L, m.Ok) : Zh PP 4 [.agg t.c, .agg [.arr .u8 32 key], .vrows 34 n (Zm L) n] ⟨0, []⟩ fun o h' => ∃ v, o = .ret v ∧ h' = ⟨0, []⟩ ∧ v = .bool true := by
 by_cases hN : (t.N ≤ 30 ∧ t.M ≤ 30) ∧ n ≤ 30
 ·have ht := ht (by omega) (by omega)
  have hf : ZR Y0 t = true → t.Fine := Z0h ht
  have he : ZR Y0 t = true → Xo t = X8 t := fun hc => (Zc5 (hf hc) hA).symm
  have hD : ∀ Nm, Z4Q Nm t key L n := fun Nm => ⟨⟨ht, hA.b, hk, hb⟩, hf, hN.2, hl, hok⟩
  have hG : ZR Y0 t = true → (XT Xo t key L n ↔ XT X8 t key L n) := fun hc => by
   have e := he hc
   constructor
   ·rintro ⟨a, b, c, d, f⟩
    exact ⟨a, b, c, d, by rw [← e]; exact f⟩
   ·rintro ⟨a, b, c, d, f⟩
    exact ⟨a, b, c, d, by rw [e]; exact f⟩
  by_cases hq : ZR Y0 t = true ∧ XT X8 t key L n
  ·exact Vu (h := ⟨0, []⟩) (Z8I Zfk Zhy) rfl (ZjX XZ Xo X8 t key n L rfl hN.1 (hD _) (hD _) hq.1 ((hG hq.1).2 hq.2) hq.2 (he hq.1) (Z0m t)) (fun u hu => hu)
  ·exact Vu (h := ⟨0, []⟩) (Z8I Zfj Zhz) rfl (ZjW XZ Xo X8 t key n L rfl hN.1 (hD _) (hD _) (fun hc hg => hq ⟨hc, (hG hc).1 hg⟩) (fun hc hg => hq ⟨hc, hg⟩)) (fun u hu => hu)
 ·exact Vu (h := ⟨0, []⟩) (Za.withF_ok (Za.withP_ok Zv Z3H) Z7v) rfl (ZjV t key n L hN) (fun u hu => hu)
end Go.Tk
end
section
namespace Go.Tk
open IntKind (i64 u8 u32 u64 wrap)
def claimTy : List Ty := [.int .i64, .int .i64, .arr .u8 32]
theorem Z7G {l : List AV} (h : Fits claimTy l) : ∃ x : ClS, l = x.c ∧ x.Ok := by
 unfold claimTy at h
 cases h with | cons _ a _ u h1 h =>
 cases h with | cons _ b _ u h2 h =>
 cases h with | cons _ c _ u h3 h =>
 cases h; cases h1; cases h2; cases h3
 rename_i x1 w1 x2 w2 x3 l3 w3
 exact ⟨⟨x1, x2, x3⟩, rfl, ⟨l3⟩⟩
theorem ZjY {n : Nat} {p : Nat → ClS → Prop} (h : ∀ i, i < n → ∃ a, p i a) : ∃ f : Nat → ClS, ∀ i, i < n → p i (f i) :=
 ⟨fun i => if hi : i < n then Classical.choose (h i hi) else cl0, fun i hi => by
  simp only [hi, dite_true]
  exact Classical.choose_spec (h i hi)⟩
theorem Z68 {a : AV} (h : Z2h false [.rows 34 claimTy] a) : ∃ (n : Nat) (L : List ClS), Z2R a n L ∧ L.length = n ∧ ∀ m ∈ L, m.Ok := by
 cases h with | one _ _ h =>
 cases h with | rows esz ts n f hm h =>
 obtain ⟨g, hg⟩ := ZjY fun i hi => Z7G (h i hi)
 refine ⟨n, (List.range n).map g, ⟨⟨rfl, rfl⟩, fun i hi => ?_⟩, by simp, fun m hm => ?_⟩
 ·unfold Zm
  rw [(hg i hi).1, List.getD_eq_getElem?_getD, List.getElem?_map, List.getElem?_range hi]
  rfl
 ·obtain ⟨i, hi, rfl⟩ := List.mem_map.1 hm
  exact (hg i (List.mem_range.1 hi)).2
theorem Za2 {a : AV} (h : Z2h true [.arr .u8 32] a) : ∃ xs : List Int, a = .agg [.arr .u8 32 xs] ∧ xs.length = 32 ∧ Bytes xs := by
 cases h with | agg _ u h =>
 cases h with | cons _ a _ u h1 h =>
 cases h; cases h1
 rename_i xs l w
 exact ⟨xs, by simp, l, Xp l w⟩
theorem commitsweeps_walk {us : List AV} (h : Z3t [(true, txTy), (true, [.arr .u8 32]), (false, [.rows 34 claimTy])] us) : Zh PP 4 us ⟨0, []⟩ fun o h' => ∃ v, o = .ret v ∧ h' = ⟨0, []⟩ ∧ v = .bool true := by
 cases h with | cons _ _ a _ _ h1 h =>
 cases h with | cons _ _ b _ _ h2 h =>
 cases h with | cons _ _ c _ _ h3 h =>
 cases h
 obtain ⟨l, t, rfl, t1, t2, t3⟩ := Ze0 h1
 obtain ⟨a, rfl, a1, a2⟩ := Za2 h2
 obtain ⟨n, L, c1, c2, c3⟩ := Z68 h3
 exact (Za1 t2 t3 a1 a2 c2 c3).conv fun E r hr => hr.head (fun _ hc => t1.rel hc) (fun _ hc => hc.head (fun _ hc => hc) (fun _ hc => hc.head (fun _ hc => c1.rel hc) (fun _ hc => hc)))
end Go.Tk
namespace Go.Proofs.YtbeiehggdcpdbaaGreat.commitSweeps
open Go.ChangeShapes Go.WideShapes Go.ChangeAt Go.RowKit
theorem own : ownKnob Tryz.prog.godebug = none := by kernel_rfl
theorem laidOut : laidOutB Tryz.prog = true := by kernel_rfl
theorem lifted (os : Os) (started : os.Started) (H : Type) (enc : TypeId × Value → H) :
  ReturnsInHanded {} Tryz.checked os 4 .any (Rows.commitSweepsSpec.pre6 enc Tryz.prog Tryz.f4 Rows.commitSweepsRow.domain false) (Rows.commitSweepsSpec.post enc Tryz.prog Tryz.f4 false true false false) :=
 Go.Tk.lifted_gen (C := Tryz.checked) (m := 8) (τs := [(true, Go.Tk.txTy), (true, [.arr .u8 32]), (false, [.rows 34 Go.Tk.claimTy])]) own laidOut started (by kernel_rfl) Tryz.func4
  (ChangeSpec.witness6 (enc := enc) (C := Tryz.checked) false ⟨#[], #[.agg #[.int .i64 0, .slice none 0 0, .slice none 0 0], .agg (Array.replicate 32 (.int .u8 0)), .slice none 0 0], []⟩ 8 (by kernel_rfl) (by kernel_rfl) (by kernel_rfl) (by kernel_rfl))
  rfl (tb := 4) rfl Tryz.underlying4 (by kernel_rfl) (by kernel_rfl) (fun ds h => by
   match ds, h with
   | [a, b, c], _ => rfl) fun us h => Go.Tk.commitsweeps_walk h
theorem ZhB : Tryz.pinned.checked.prog.funcNamed Rows.commitSweepsRow.func = some 4 := by kernel_rfl
theorem closed : joinedFacts Tryz.pinned.checked.prog 4 Tryz.f4 Rows.commitSweepsSpec Rows.commitSweepsRow = true := by
 unfold joinedFacts
 repeat' with_reducible refine Go.Tk.and_mk ?_ ?_
 all_goals as_aux_lemma => kernel_rfl
theorem over : Rows.commitSweepsRow.holds Tryz.pinned (OpenSpec.ofChange Rows.commitSweepsSpec) :=
 OpenClaim.holds_of_wide 4 Tryz.f4 rfl rfl rfl rfl rfl rfl rfl ⟨rfl, rfl, rfl, rfl, rfl⟩ rfl rfl rfl rfl rfl ZhB Tryz.func4 closed
  (of_decide_eq_true (by kernel_rfl)) (by unfold Func.isWrapper; first | (rw [if_pos (by decide +kernel)]; kernel_rfl) | (rw [if_neg (by decide +kernel)]; exact ⟨rfl, rfl⟩))
  (fun os started H enc _ => lifted os started H enc)
theorem proved : Rows.CommitSweepsSaid := over
end Go.Proofs.YtbeiehggdcpdbaaGreat.commitSweeps
end
