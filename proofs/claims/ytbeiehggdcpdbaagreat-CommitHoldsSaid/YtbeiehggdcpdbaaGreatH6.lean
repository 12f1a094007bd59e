/- H: part 6 of an engine (a symbolic evaluator, proved against the model) and of the walk by it. -/
import Derived.Test.YtbeiehggdcpdbaaGreatH5
set_option linter.unusedVariables false
set_option linter.unusedSimpArgs false
set_option maxRecDepth 100000
set_option maxHeartbeats 0
section
namespace Go.Tk
open IntKind (i64 u8 u32 u64 wrap)
def swO (key : List Int) (sum : Int) : Zs := ⟨1, sum, key, Z5, Z5, Z5, 0, 0⟩
def swX (nm key : List Int) (L : List ClS) (n : Nat) (sum : Int) : TxS := ⟨0, n, swI nm L, 1, fun _ => swO key sum⟩
structure ZaP (A : List Int → Int × Int) (Nm : TxS → List Int) (t : TxS) (key : List Int) (L : List ClS) (n : Nat) (sum : Int) : Prop where
 good : ∀ i, i < n → U3 t.M (L.getD i cl0)
 add : A (swV t L n) = (sum, 0)
 ck : Y6 A (swX (Nm t) key L n sum) = true
noncomputable def ZjP (A : List Int → Int × Int) (Nm : TxS → List Int) (B : Nat) : Zd := ((((G0.withP 41 (Z6q A Nm)).withP 43 (ckS A)).withP 40 (Z4b A)).withF 42 (Zd5 B)).withL 70 0 (Zcr fun p : SwS × (Nat → List Int) => swL p.1 p.2)
theorem Zfu {B : Nat} (hB : ∀ args h K, Zd5 B args h K → Zk PP 42 args h K) : (ZjP ZS Ys B).Ok := by
 have h0 : ((((G0.withP 41 (Z6q ZS Ys)).withP 43 (ckS ZS)).withP 40 (Z4b ZS)).withF 42 (Zd5 B)).Ok := Zd.withF_ok (Zd.withP_ok (Zd.withP_ok (Zd.withP_ok Zu Z2T) Z5c) Z2R) hB
 exact Zd.withL_join (H := G0) h0 rfl (Zd.withL_ex Zu fun p => ZhH p.1 p.2)
theorem Zda {nm key : List Int} {L : List ClS} {n : Nat} {sum : Int} (hnm : nm.length = 32) (hk : key.length = 32) (hl : L.length = n) (hn : n ≤ 30) (hok : ∀ m ∈ L, m.Ok) : (swX nm key L n sum).Ok :=
 ⟨by show n < _; omega, by show 1 < _; decide, fun j hj => by
  have hj : j < n := hj
  have := hok _ (show L.getD j cl0 ∈ L by rw [List.getD_eq_getElem?_getD, List.getElem?_eq_getElem (by omega)]; exact List.getElem_mem _)
  exact ⟨hnm, rfl, rfl, this.secret⟩, fun _ _ => ⟨hk, rfl, rfl, rfl⟩⟩
theorem ZjQ (A : List Int → Int × Int) (Nm : TxS → List Int) (B : Nat) (t : TxS) (key : List Int) (n : Nat) (L L0 : List ClS) (sum : Int) (ht : t.Ok) (hM : t.M ≤ 24) (hk : key.length = 32) (hnm : (Nm t).length = 32) (hn : n < B ∧ n ≤ 30) (hl : L.length = n) (hok : ∀ m ∈ L, m.Ok) (hc : Y6 A t = true) (hu : ∀ L1, L1.Perm L → Wm ltC L1 → L1 = L0) (hg : ZaP A Nm t key L0 n sum) :
  evF (ZjP A Nm B) 20 17 [.agg t.c, .agg [.arr .u8 32 key], .vrows 34 n (ZE L) n] ⟨0, []⟩ (Yc 0 (.ret (.tuple [.agg [.int .i64 0, .nslice ⟨0, 0, 130, 0, 0⟩ 130 n n, .nslice ⟨1, 0, 0, 0, 0⟩ 132 1 1], .int .i64 0])) 2 [(0, .rows 130 n (Zb (swI (Nm t) L0))), (1, .flat (swO key sum).c)]) := by
 refine @Eq.mpr _ (let q1 := t.N;
 let q2 := t.M;
 let q3 := decide (n = 0);
 let q4 := Z0 q3 (Z0 q3 False False) False;
 let q5 := AV.arr u8 32 Z5;
 let q6 := swO key sum;
 ∃ (t_1 : TxS),
 (t_1.num = t.num ∧ ((q1 = q1 ∧ t_1.N = q1) ∧ ∀ (i : Nat), i < q1 → Zb t.ins i = InS.c (t_1.ins i)) ∧ (q2 = q2 ∧ t_1.M = q2) ∧ ∀ (i : Nat), i < q2 → Z8 t.outs i = Zs.c (t_1.outs i)) ∧
 TxS.Ok t_1 ∧
 Z0 (Y6 A t_1)
 (∃ (N : Nat),
 ∃ (L_1 : List ClS),
 ((n = n ∧ N = n) ∧ ∀ (i : Nat), i < n → ZE L i = ZE L_1 i) ∧
 (N < B ∧ List.length L_1 = N ∧ ∀ (m : ClS), List.Mem m L_1 → ClS.Ok m) ∧
 ∀ (L1 : List ClS),
 List.Perm L1 L_1 →
 Wm ltC L1 →
 ∃ (i : SwS × (Nat → List Int)),
 let q13 := i.fst.N;
 let q14 := decide (N = q13);
 let q15 := i.fst.L;
 let q16 := i.fst.nm;
 let q17 := i.fst.key;
 let q18 := i.fst.t;
 let q19 := decide (q1 = q18.N);
 let q20 := q18.M;
 let q21 := decide (q2 = q20);
 Z0 (decide ((↑N : Int) = (↑q13 : Int)))
 (Z0 q14
 (Z0 (decide (q13 ≤ N))
 ((LoopState.ready = LoopState.ready ∧ (none : Option Code) = none ∧ (17 : FuncId) = 17 ∧ (82 : Nat) = 82 ∧ [(25 : Nat)] = [(25 : Nat)] ∧ VL = VL ∧ VM = VM) ∧
 Z0 q14
 (Zc 11 [] q13 (ZE q15) (ZE L1) ∧
 Nm t_1 = q16 ∧
 key = q17 ∧
 Z0 (decide (t.num = q18.num))
 (Z0 q19
 (Zb t.ins = Zb q18.ins ∧
 Z0 q19
 (Z0 q21
 (Z8 t.outs = Z8 q18.outs ∧
 Z0 q21
 (([] : List Int) = [] ∧
 SwC i.fst i.snd ∧
 ∀ (i_1 : Nat),
 let q31 := List.take i_1 (YO 0 (i.snd i_1));
 let q32 := A q31;
 let q33 := q32.fst;
 let q34 := decide (i_1 = n);
 i_1 ≤ q13 →
 (∀ (j : Nat), j < i_1 → (fun (i : Nat) => U3 q20 (List.getD q15 i cl0)) j) →
 (i_1 = q13 →
 Z0 (decide (0 + i_1 ≤ List.length (i.snd i_1)))
 (Z0 (decide (i_1 = List.length q31 ∧ i_1 < 900000000000))
 (Z0 (q32.snd != 0) q4
 (Z0 (decide (0 + i_1 ≤ i_1))
 ((∀ (i : Nat), i < i_1 → true = true) ∧
 ∃ (t_2 : TxS),
 (t_2.num = 0 ∧
 ((i_1 = i_1 ∧ t_2.N = i_1) ∧
 ∀ (i : Nat),
 let q39 := swI q16 q15 i;
 i < i_1 → [AV.arr u8 32 q39.name, AV.int i64 q39.index, AV.int i64 q39.way, AV.arr u8 32 q39.tag, AV.arr u8 32 q39.also, AV.arr u8 32 q39.secret] = InS.c (t_2.ins i)) ∧
 ((1 : Nat) = 1 ∧ t_2.M = 1) ∧ ∀ (i : Nat), i < 1 → ZO [AV.int i64 1, AV.int i64 q33, AV.arr u8 32 q17, q5, q5, q5, AV.int i64 0, AV.int i64 0] 0 132 i = Zs.c (t_2.outs i)) ∧
 TxS.Ok t_2 ∧ Z0 (Y6 A t_2) (Z0 q34 (Z0 (decide (n ≤ i_1)) (Z0 q34 (Zc 0 [(1, 13), (0, 11)] n (Zb (swI (Nm t) L0)) (Zb (swI q16 q15)) ∧ Z0 (decide (q33 = q6.amount)) (q17 = q6.owner ∧ Z5 = q6.other ∧ Z5 = q6.point ∧ Z5 = q6.hash ∧ True) False) False) False) False) q4)
 False))
 False)
 False) ∧
 (i_1 < q13 ∧ ¬U3 q20 (List.getD q15 i_1 cl0) → q4))
 False)
 False)
 False)
 False)
 False)
 False)
 False)
 False)
 False)
 q4) (by kernel_rfl) ?_
 conv => zeta
 try simp only [Zg]
 try simp only [Zl]
 try simp only [Zh]
 try simp only [Zm]
 try simp only [Zn]
 try simp only [Zf]
 try simp only [Int.toNat_natCast, Nat.zero_add, true_and, and_true, Nat.le_refl]
 refine ⟨t, ⟨rfl, ⟨rfl, fun _ _ => rfl⟩, rfl, fun _ _ => rfl⟩, ht, fun _ => ⟨n, L, ⟨rfl, fun _ _ => rfl⟩, ⟨hn.1, hl, hok⟩, fun L1 hp ho => ?_⟩, fun k => by rw [hc] at k; cases k⟩
 have e := hu L1 hp ho
 subst e
 refine ⟨(⟨t, key, Nm t, L1, n⟩, swV t L1), rfl, rfl, Nat.le_refl _, rfl, Ye fun _ _ => rfl, rfl, rfl, rfl, rfl, rfl, rfl, rfl, rfl, rfl, ⟨hn.2, hM, by rw [hp.length_eq]; exact hl, rfl⟩, fun i hi hgo => ⟨fun he => ?_, fun hb => absurd (hg.good i hb.1) hb.2⟩⟩
 have he : i = n := he
 subst he
 have l1 := Z5u t L1 i
 have hdz : List.take i (YO 0 (swV t L1 i)) = swV t L1 i := by rw [Yo, List.drop_zero, List.take_of_length_le (by omega)]
 show _ ≤ (swV t L1 i).length ∧ _
 rw [show ((⟨t, key, Nm t, L1, i⟩, swV t L1) : SwS × (Nat → List Int)).2 i = swV t L1 i from rfl, hdz, hg.add]
 have hX : (swX (Nm t) key L1 i sum).Ok := Zda hnm hk (by rw [hp.length_eq]; exact hl) hn.2 (fun m hm => hok m (hp.mem_iff.1 hm))
 exact ⟨by omega, ⟨l1.symm, by omega⟩, fun k => by simp at k, fun _ => ⟨fun _ _ => trivial, swX (Nm t) key L1 i sum, ⟨rfl, ⟨rfl, fun _ _ => rfl⟩, rfl, fun j hj => by
  have e : j = 0 := by omega
  subst e; rfl⟩, hX, fun _ => ⟨rfl, Nat.le_refl _, rfl, Yd fun _ _ => rfl, rfl, rfl, rfl, rfl, rfl⟩, fun k => by rw [hg.ck] at k; cases k⟩⟩
def Zfv (A : List Int → Int × Int) (Nm : TxS → List Int) (B : Nat) : Y9 := fun args h K => frA [] h 20 args fun _ a => match a with
 | [.agg l, .agg [.arr .u8 32 key], v] => ∃ t n L L0 sum, Z0h l t ∧ ZaM v n L ∧ (t.Ok ∧ t.M ≤ 24 ∧ key.length = 32 ∧ (n < B ∧ n ≤ 30) ∧ L.length = n ∧ (∀ m ∈ L, m.Ok) ∧ Y6 A t = true) ∧ (∀ L1, L1.Perm L → Wm ltC L1 → L1 = L0) ∧ ZaP A Nm t key L0 n sum ∧
  K (.ret (.tuple [.agg [.int .i64 0, .nslice ⟨h.next, 0, 130, 0, 0⟩ 130 n n, .nslice ⟨h.next + 1, 0, 0, 0, 0⟩ 132 1 1], .int .i64 0])) ⟨h.next + 2, (h.next, .rows 130 n (Zb (swI (Nm t) L0))) :: (h.next + 1, .flat (swO key sum).c) :: h.bs⟩
 | _ => False
theorem Z9r {B : Nat} (hB : ∀ args h K, Zd5 B args h K → Zk PP 42 args h K) (args : List AV) (h : Z7) (K : KO) (hl : Zfv ZS Ys B args h K) : Zk PP 17 args h K := by
 refine Spec.fsumm (σ := []) (d := 20) hl fun Bs a₀ hlen h0 => ?_
 split at h0
 ·obtain ⟨t, n, L, L0, sum, h1, h2, ⟨k1, k2, k3, k4, k5, k6, k7⟩, hu, hg, hK⟩ := h0
  exact ⟨_, _, _, _, _, (Spec.evM (h0 := ⟨0, []⟩) (Zfu hB) (ZjQ ZS Ys B t _ n L L0 sum k1 k2 k3 (Z0W _) k4 k5 k6 k7 hu hg)).conv fun E r hr => hr.head (fun _ hc => h1.rel hc) (fun _ hc => hc.head (fun _ hc => hc) (fun _ hc => hc.head (fun _ hc => h2.rel hc) (fun _ hc => hc))), Nat.zero_le _, .ret _ _ rfl, .cons 0 _ _ _ _ _ rfl (.rows _ _ _ fun i _ => (swI (Ys t) L0 i).plainC) (.cons 1 _ _ _ _ _ rfl (.flat _ _ rfl) .nil), hK⟩
 ·exact h0.elim
end Go.Tk
end
section
namespace Go.Tk
open IntKind (i64 u8 u32 u64 wrap)
structure ZD where
 frm : Int
 id : Int
 amount : Int
 hash : List Int
 expiry : Int
def ZD.c (p : ZD) : List AV := [.int .i64 p.frm, .int .i64 p.id, .int .i64 p.amount, .arr .u8 32 p.hash, .int .i64 p.expiry]
def ZQ (g : Nat → ZD) : Nat → List AV := fun i => (g i).c
structure ZD.Ok (p : ZD) : Prop where
 hash : p.hash.length = 32
 hb : Bytes p.hash
def Xn (p : ZD) : Bool := decide (0 ≤ p.frm ∧ p.frm ≤ 1) && decide (0 ≤ p.id ∧ p.id ≤ 2147483647) && decide (1 ≤ p.amount ∧ p.amount ≤ 1125899906842624) && decide (1 ≤ p.expiry ∧ p.expiry ≤ 2147483647)
theorem ZkJ (p : ZD) (b : Bool) (hb : b = Xn p) :
  evF E71 20 39 [.agg p.c] ⟨0, []⟩ (Z0k (fun v => v = .bool b)) := by
 refine @Eq.mpr _ (let q1 := p.expiry;
 let q2 := decide (q1 = q1);
 let q3 := p.amount;
 let q4 := decide (q3 = q3);
 let q5 := p.id;
 let q6 := decide (q5 = q5);
 let q7 := AV.bool false = AV.bool b;
 Z0 (decide (0 ≤ p.frm)) (Z0 q2 (Z0 q4 (Z0 q6 (Z0 (false == decide (p.frm ≤ 1)) q7 (Z0 (false == decide (0 ≤ q5 ∧ q5 ≤ 2147483647)) q7 (Z0 (false == decide (1 ≤ q3 ∧ q3 ≤ 1125899906842624)) q7 (Z0 (false == decide (1 ≤ q1 ∧ q1 ≤ 2147483647)) q7 (AV.bool true = AV.bool b))))) False) False) False) (Z0 q2 (Z0 q4 (Z0 q6 q7 False) False) False)) (by kernel_rfl) ?_
 conv => zeta
 subst hb
 have h3 : (p.frm ≤ 1) = (p.frm ≤ 1) := rfl
 unfold Xn
 rw [Bool.decide_and (0 ≤ p.frm)]
 generalize decide (0 ≤ p.frm) = c1
 generalize decide (p.frm ≤ 1) = c2
 generalize decide (0 ≤ p.id ∧ p.id ≤ 2147483647) = c3
 generalize decide (1 ≤ p.amount ∧ p.amount ≤ 1125899906842624) = c4
 generalize decide (1 ≤ p.expiry ∧ p.expiry ≤ 2147483647) = c5
 rw [decide_eq_true (rfl : p.expiry = p.expiry), decide_eq_true (rfl : p.amount = p.amount), decide_eq_true (rfl : p.id = p.id)]
 cases c1 <;> cases c2 <;> cases c3 <;> cases c4 <;> cases c5 <;> rfl
def Zdb : ZW := fun args _ K => match args with
 | [.agg [.int .i64 fr, .int .i64 id, .int .i64 am, .arr .u8 32 ha, .int .i64 ex]] => K (.bool (Xn ⟨fr, id, am, ha, ex⟩))
 | _ => False
def Wn (p : ZD) : AV := .agg [.arr .i64 2 [p.frm, p.id]]
def shX (a0 a1 : Int) (g : Nat → ZD) (i : Nat) : List Int := a0 :: a1 :: (List.range i).map fun j => (g j).amount
structure ShS where
 num : Int
 owner : Int
 point : List Int
 a0 : Int
 a1 : Int
 n : Nat
 g : Nat → ZD
def ShS.c (s : ShS) : List AV := [.int .i64 s.num, .int .i64 s.owner, .arr .u8 32 s.point, .arr .i64 2 [s.a0, s.a1], .vrows 36 s.n (ZQ s.g) s.n]
def ZkK (t : Zo) (X M : List Int) (i : Nat) (g : Nat → ZD) : Z7 := ⟨4, [(0, .flat t.c), (1, .flat [.arr .i64 2 M]), (2, .fmap i (fun j => Wn (g j)) (fun _ => .bool true)), (3, .ints .i64 X)]⟩
def Zfw (t : Zo) (n : Nat) (g : Nat → ZD) (X M : List Int) (i : Nat) : St := ⟨89, [(39, .int .i64 i), (38, .int .i64 n), (37, .vrows 36 n (ZQ g) n), (8, .map (some 2)), (6, .ptr (some ⟨1, 0, 0, 0, 0⟩)), (5, .nslice ⟨3, 0, 0, 0, 0⟩ 1 X.length X.length), (2, .ptr (some ⟨0, 0, 0, 0, 0⟩))], ZkK t X M i g, []⟩
def ZjR (t : Zo) (X M : List Int) : St := ⟨89, [(6, .ptr (some ⟨1, 0, 0, 0, 0⟩)), (5, .nslice ⟨2, 0, 0, 0, 0⟩ 1 X.length X.length), (2, .ptr (some ⟨0, 0, 0, 0, 0⟩))], ⟨3, [(0, .flat t.c), (1, .flat [.arr .i64 2 M]), (2, .ints .i64 X)]⟩, []⟩
def Zfx : St := ⟨89, [], ⟨0, []⟩, []⟩
def Z6Q (g : Nat → ZD) (i : Nat) : Nat := ZJ (fun j => ZP (Wn (g i)) (Wn (g j))) i
theorem Zdc (args : List AV) (h : Z7) (K : AV → Prop) (hl : Zdb args h K) : Zk PP 39 args h fun o h' => ∃ v, o = .ret v ∧ h' = h ∧ K v := by
 unfold Zdb at hl
 split at hl
 ·exact XL ZcL rfl (ZkJ ⟨_, _, _, _, _⟩ _ rfl) (fun u hu => hu ▸ hl)
 ·exact hl.elim
theorem ZkL (a b c d : Int)  :
  Z8H PP 27 (.agg [.arr .i64 2 [a, b]]) (.agg [.arr .i64 2 [c, d]]) := by
 refine @Eq.mpr _ (let q1 := [a, b];
 let q2 := [c, d];
 (q1 == q2) = ZP (AV.agg [AV.arr i64 2 q1]) (AV.agg [AV.arr i64 2 q2])) (by kernel_rfl) ?_
 conv => zeta
 try simp only [Zg]
 try simp only [Zl]
 try simp only [Zh]
 try simp only [Zm]
 try simp only [Zn]
 try simp only [Zf]
 try simp only [Int.toNat_natCast, Nat.zero_add, true_and, and_true, Nat.le_refl]
 simp [ZP, VT, Ve]
theorem Z9s (p : ZD) (g : Nat → ZD) (i : Nat) : Xo PP 27 (Wn p) i (fun j => Wn (g j)) := ⟨fun j _ => ZkL _ _ _ _⟩
noncomputable def E91 : Zd := G0.withP 39 Zdb
theorem Zdd : E91.Ok := Zd.withP_ok Zu Zdc
theorem Z9t {k : Nat} {τ : Ren} (p : ZD) {Z : Prop} (h : Z) : eqV k τ (Wn p) (Wn p) Z := by
 unfold Wn
 simp only [eqV, eqC]
 simp [h]
theorem Zde {k : Nat} {τ : Ren} {i : Nat} {g : Nat → ZD} : YR k τ (i + 1) (fun j => Wn (g j)) (fun _ => .bool true) (U7 (fun j => Wn (g j)) i (Wn (g i))) (U7 (fun _ => .bool true) i (.bool true)) := ⟨fun j hj => by
 unfold U7
 rcases Nat.lt_or_ge j i with h | h
 ·rw [Zv (by omega)]
  exact ⟨Z9t _ trivial, by simp [eqV, Zw, Z0]⟩
 ·have e : j = i := by omega
  subst e
  rw [Nat.beq_refl]
  exact ⟨Z9t _ trivial, by simp [eqV, Zw, Z0]⟩⟩
theorem ZjS (t : Zo) (n i : Nat) (g : Nat → ZD) (X X1 M M1 : List Int) (Z1 Z2 Z3 : Prop) (hn : n < 1000) (hi : i ≤ n) (hX : X1 = X ++ [(g i).amount]) (hXl : X.length ≤ 1002) (hMl : M.length = 2) (hM1 : M1 = M.set (g i).frm.toNat (i64.wrap (M.getD (g i).frm.toNat 0 + 1))) (h1 : i < n → Xn (g i) = true → Z6Q g i = i → Z1) (h2 : i = n → Z2) (h3 : i < n → (Xn (g i) = false ∨ Z6Q g i < i) → Z3) :
  ZF E91 20 15 0 0 (Zfw t n g X M i) (rdM 0 0 0 (Zfw t n g X1 M1 (i + 1)) (ZjR t X M) Zfx Zfx Z1 Z2 False Z3) := by
 refine @Eq.mpr _ (let q1 := g (Int.toNat (↑i : Int));
 let q2 := q1.frm;
 let q3 := q1.id;
 let q4 := q1.amount;
 let q5 := AV.agg [AV.arr i64 (2 : Nat) [q2, q3]];
 let q6 := Xo PP (27 : Nat) q5 i fun (j : Nat) => AV.agg [AV.arr i64 (2 : Nat) [(g j).frm, (g j).id]];
 let q7 := ZJ (fun (i : Nat) => ZP q5 (AV.agg [AV.arr i64 (2 : Nat) [(g i).frm, (g i).id]])) i;
 let q8 := Nat.blt q7 i;
 let q9 := decide ((0 : Int) ≤ q2 ∧ q2 < (2 : Int));
 let q10 := (0 : Nat) + Int.toNat q2;
 let q11 := decide (q10 < (2 : Nat));
 let q12 := decide (i64 = i64 ∧ q10 < (2 : Nat) ∧ q10 < List.length M);
 let q13 := List.length X;
 let q14 := decide (i64 = i64 ∧ q13 = q13);
 let q15 := X ++ [q4];
 let q16 := List.length q15;
 let q17 := i + (1 : Nat);
 let q18 := decide (wrap i64 ((↑i : Int) + (1 : Int)) = (↑q17 : Int));
 let q19 := decide ((↑n : Int) = (↑n : Int));
 let q20 := decide (n = n);
 let q21 := ZQ g = ZQ g;
 let q22 := t.fund = t.fund;
 let q23 := decide (t.index = t.index);
 let q24 := decide (t.cap = t.cap);
 let q25 := decide (t.dust = t.dust);
 let q26 := decide (t.fee = t.fee);
 let q27 := decide (t.delay = t.delay);
 let q28 := t.k0 = t.k0;
 let q29 := t.k1 = t.k1;
 let q30 := List.set M q10 (wrap i64 (List.getD M q10 (0 : Int) + (1 : Int))) = M1;
 let q31 := [((0 : Nat), (0 : Nat)), ((3 : Nat), (7 : Nat)), ((1 : Nat), (1 : Nat)), ((2 : Nat), (2 : Nat))];
 let q32 := AV.bool true;
 let q33 := q15 = X1 ∧ Z1;
 Z0 (decide ((↑i : Int) < (↑n : Int)))
 (Z0 (decide ((0 : Int) ≤ (↑i : Int) ∧ (↑i : Int) < (↑n : Int)))
 (Z0 (!Xn (ZD.mk q2 q3 q4 q1.hash q1.expiry)) Z3
 (q6 ∧
 Z0 q8 Z3
 (q6 ∧
 Z0 q8 (Z0 q9 (Z0 q11 (Z0 q9 (Z0 q12 (Z0 q14 (Z0 (decide (q16 * (8 : Nat) ≤ (140737488355328 : Nat))) (Z0 q18 (Z0 q19 (Z0 q20 (q21 ∧ Z0 q20 (Z0 (decide (q16 = List.length X1)) (Z0 (decide (List.length X1 ≤ q16)) (q22 ∧ Z0 q23 (Z0 q24 (Z0 q25 (Z0 q26 (Z0 q27 (q28 ∧ q29 ∧ q30 ∧ Z0 (decide (i = q17)) (YR (0 : Nat) q31 q17 (fun (j : Nat) => AV.agg [AV.arr i64 (2 : Nat) [(g j).frm, (g j).id]]) (fun (x : Nat) => q32) (fun (j : Nat) => AV.agg [AV.arr i64 (2 : Nat) [(g j).frm, (g j).id]]) (U7 (fun (x : Nat) => q32) q7 q32) ∧ q33) False) False) False) False) False) False) False) False) False) False) False) False) False) False) False) False) False) False)
 (Z0 q9 (Z0 q11 (Z0 q9 (Z0 q12 (Z0 q14 (Z0 (decide (q16 * (8 : Nat) ≤ (140737488355328 : Nat))) (Z0 q18 (Z0 q19 (Z0 q20 (q21 ∧ Z0 q20 (Z0 (decide (q16 = List.length X1)) (Z0 (decide (List.length X1 ≤ q16)) (q22 ∧ Z0 q23 (Z0 q24 (Z0 q25 (Z0 q26 (Z0 q27 (q28 ∧ q29 ∧ q30 ∧ Z0 (decide (q17 = q17)) (YR (0 : Nat) q31 q17 (fun (j : Nat) => AV.agg [AV.arr i64 (2 : Nat) [(g j).frm, (g j).id]]) (fun (x : Nat) => q32) (U7 (fun (j : Nat) => AV.agg [AV.arr i64 (2 : Nat) [(g j).frm, (g j).id]]) i q5) (U7 (fun (x : Nat) => q32) i q32) ∧ q33) False) False) False) False) False) False) False) False) False) False) False) False) False) False) False) False) False) False))))
 False)
 (Z0 (decide (q13 = q13)) (Z0 (decide (q13 ≤ q13)) (q22 ∧ Z0 q23 (Z0 q24 (Z0 q25 (Z0 q26 (Z0 q27 (q28 ∧ q29 ∧ M = M ∧ X = X ∧ Z2) False) False) False) False) False) False) False)) (by kernel_rfl) ?_
 conv => zeta
 try simp only [Zg]
 try simp only [Zl]
 try simp only [Zh]
 try simp only [Zm]
 try simp only [Zn]
 try simp only [Zf]
 try simp only [Int.toNat_natCast, Nat.zero_add, true_and, and_true, Nat.le_refl]
 refine ⟨fun hc => ?_, fun hc => h2 (by omega)⟩
 have hlt : i < n := by omega
 have e0 : (ZD.mk (g i).frm (g i).id (g i).amount (g i).hash (g i).expiry) = g i := rfl
 rw [e0]
 have hJ := Wg (fun j => ZP (Wn (g i)) (Wn (g j))) i
 refine ⟨by omega, fun hp => h3 hlt (.inl (by simpa using hp)), fun hp => ⟨Z9s _ _ _, fun hd => h3 hlt (.inr (Z0S hd)), fun hd => ⟨Z9s _ _ _, fun hd' => ?_, fun hd' => ?_⟩⟩⟩
 ·have hd : Nat.blt (ZJ (fun j => ZP (Wn (g i)) (Wn (g j))) i) i = false := hd
  have hd' : Nat.blt (ZJ (fun j => ZP (Wn (g i)) (Wn (g j))) i) i = true := hd'
  rw [hd] at hd'; cases hd'
 ·have hp : Xn (g i) = true := by simpa using hp
  have hf : 0 ≤ (g i).frm ∧ (g i).frm < 2 := by
   unfold Xn at hp
   simp only [Bool.and_eq_true, decide_eq_true_eq] at hp
   omega
  have hq : Z6Q g i = i := by
   rcases hJ with hJ | hJ
   ·exact hJ.1
   ·have hd2 : Nat.blt (ZJ (fun j => ZP (Wn (g i)) (Wn (g j))) i) i = false := hd
    rw [Z2Q hJ.1] at hd2; cases hd2
  subst hX
  refine ⟨hf, by omega, hf, ⟨by omega, by omega⟩, by simp; omega, by rw [w64 (by omega)]; omega, rfl, Nat.le_refl _, hM1.symm, Zde, rfl, h1 hlt hp hq⟩
def shM (g : Nat → ZD) : Nat → List Int
 | 0 => [0, 0]
 | i + 1 => (shM g i).set (g i).frm.toNat (i64.wrap ((shM g i).getD (g i).frm.toNat 0 + 1))
theorem Z5v (g : Nat → ZD) : ∀ i, (shM g i).length = 2
 | 0 => rfl
 | i + 1 => by simp [shM, Z5v g i]
theorem Z6R (a0 a1 : Int) (g : Nat → ZD) (i : Nat) : shX a0 a1 g (i + 1) = shX a0 a1 g i ++ [(g i).amount] := by simp [shX, List.range_succ]
theorem Z5w (a0 a1 : Int) (g : Nat → ZD) (i : Nat) : (shX a0 a1 g i).length = i + 2 := by simp [shX]
def ZaQ (g : Nat → ZD) (i : Nat) : Prop := Xn (g i) = true ∧ Z6Q g i = i
noncomputable def ZjT (t : Zo) (n : Nat) (g : Nat → ZD) (a0 a1 : Int) (A : List Int → Int × Int) : Zd := ((((E91.withP 35 Z6C).withP 37 inQ).withP 40 (Z4b A))).withL 15 0 (goM 0 (Zfw t n g (shX a0 a1 g 0) (shM g 0) 0) (n < 1000) (Ym 0 n 0 (fun i => ZaQ g i ∧ i < n) (fun i => i = n) (fun _ => False) (fun i => i < n ∧ ¬ ZaQ g i) (fun i => ZjR t (shX a0 a1 g i) (shM g i)) (fun _ => Zfx) (fun _ => Zfx)))
theorem Zfy (t : Zo) (n : Nat) (g : Nat → ZD) (a0 a1 : Int) : (ZjT t n g a0 a1 ZS).Ok := by
 have h0 : ((((E91.withP 35 Z6C).withP 37 inQ).withP 40 (Z4b ZS))).Ok := Zd.withP_ok (Zd.withP_ok (Zd.withP_ok Zdd Z6D) ZcK) Z2R
 refine Zd.withL_join (H := E91) h0 rfl ?_
 exact Zd.withGoM (N := 20) (S := fun i => Zfw t n g (shX a0 a1 g i) (shM g i) i) Zdd (by kernel_rfl) fun hC => ⟨rfl, fun i hi _ => ZjS t n i g _ _ _ _ _ _ _ hC hi (Z6R a0 a1 g i) (by rw [Z5w]; omega) (Z5v g i) rfl (fun a b c => ⟨⟨⟨b, c⟩, a⟩, a⟩) (fun h => h) (fun a b => ⟨a, fun hg => by
  rcases b with b | b
  ·rw [hg.1] at b; cases b
  ·have := hg.2; omega⟩)⟩
def shB (A : List Int → Int × Int) (t : Zo) (s : ShS) : Bool := Xf t && decide (0 ≤ s.num ∧ s.num ≤ 2147483647) && decide (0 ≤ s.owner ∧ s.owner ≤ 1) && decide (t.fee ≤ s.a0) && (List.range s.n).all (fun i => Xn (s.g i) && Nat.beq (Z6Q s.g i) i) && decide ((shM s.g s.n).getD 0 0 ≤ 8) && decide ((shM s.g s.n).getD 1 0 ≤ 8) && decide ((A (shX s.a0 s.a1 s.g s.n)).2 = 0) && decide ((A (shX s.a0 s.a1 s.g s.n)).1 = t.cap)
theorem Z5x {A : List Int → Int × Int} {t : Zo} {s : ShS} : shB A t s = true ↔ Xf t = true ∧ (0 ≤ s.num ∧ s.num ≤ 2147483647) ∧ (0 ≤ s.owner ∧ s.owner ≤ 1) ∧ t.fee ≤ s.a0 ∧ (∀ i, i < s.n → ZaQ s.g i) ∧ (shM s.g s.n).getD 0 0 ≤ 8 ∧ (shM s.g s.n).getD 1 0 ≤ 8 ∧ (A (shX s.a0 s.a1 s.g s.n)).2 = 0 ∧ (A (shX s.a0 s.a1 s.g s.n)).1 = t.cap := by
 unfold shB
 simp only [Bool.and_eq_true, decide_eq_true_eq, and_assoc, List.all_eq_true, List.mem_range]
 have e : (∀ i, i < s.n → Xn (s.g i) = true ∧ Nat.beq (Z6Q s.g i) i = true) ↔ ∀ i, i < s.n → ZaQ s.g i := by
  constructor
  ·intro h i hi; exact ⟨(h i hi).1, Nat.eq_of_beq_eq_true (h i hi).2⟩
  ·intro h i hi; exact ⟨(h i hi).1, by rw [(h i hi).2]; exact Nat.beq_refl _⟩
 rw [e]
theorem ZjU (t : Zo) (s : ShS) (A : List Int → Int × Int) (e : Int) (ht : t.Ok) (hn : s.n < 1000) (he : e = if shB A t s = true then 0 else 2) :
  evF (ZjT t s.n s.g s.a0 s.a1 A) 20 15 [.agg t.c, .agg s.c] ⟨0, []⟩ (Yc 0 (.ret (.int .i64 e)) 0 []) := by
 refine @Eq.mpr _ (let q1 := t.fund;
 let q2 := t.index;
 let q3 := t.cap;
 let q4 := t.dust;
 let q5 := t.fee;
 let q6 := t.delay;
 let q7 := t.k0;
 let q8 := t.k1;
 let q9 := Zo.mk q1 q2 q3 q4 q5 q6 q7 q8;
 let q10 := Z0 (decide ((2 : Int) = e)) True False;
 let q11 := decide (q5 = q5);
 let q12 := s.a0;
 let q13 := decide (q12 = q12);
 let q14 := false == decide ((0 : Int) ≤ s.num ∧ s.num ≤ (2147483647 : Int));
 let q15 := s.n;
 let q16 := (↑q15 : Int);
 let q17 := decide (q15 = q15);
 let q18 := s.g;
 let q19 := ZQ q18;
 let q20 := s.a1;
 Zo.Ok q9 ∧
 Z0 ((if Xf q9 = true then (0 : Int) else (2 : Int)) != (0 : Int)) q10
 (Z0 (decide ((0 : Int) ≤ s.owner))
 (Z0 q11
 (Z0 q13
 (Z0 q14 q10
 (Z0 (false == decide (s.owner ≤ (1 : Int))) q10
 (Z0 (false == decide (q12 ≥ q5)) q10
 (Z0 (decide (q16 = q16))
 (Z0 q17
 (q19 = q19 ∧
 Z0 q17
 (q1 = q1 ∧
 Z0 (decide (q2 = q2))
 (Z0 (decide (q3 = q3))
 (Z0 (decide (q4 = q4))
 (Z0 q11
 (Z0 (decide (q6 = q6))
 (q7 = q7 ∧
 q8 = q8 ∧
 [(0 : Int), (0 : Int)] = shM q18 (0 : Nat) ∧
 (YR (0 : Nat) [((0 : Nat), (0 : Nat)), ((3 : Nat), (5 : Nat)), ((1 : Nat), (2 : Nat)), ((2 : Nat), (3 : Nat))] (0 : Nat) (fun (j : Nat) => AV.agg [AV.arr i64 (2 : Nat) [(q18 j).frm, (q18 j).id]]) (fun (x : Nat) => AV.bool true) (fun (i : Nat) => AV.top) fun (i : Nat) => AV.top) ∧
 [q12, q20] = shX q12 q20 q18 (0 : Nat) ∧
 q15 < (1000 : Nat) ∧
 ∀ (i : Nat),
 let q41 := List.getD (shM q18 i) (1 : Nat) (0 : Int);
 let q42 := List.getD (shM q18 i) (0 : Nat) (0 : Int);
 let q43 := shX q12 q20 q18 i;
 let q44 := List.length q43;
 let q45 := List.take q44 (YO (0 : Nat) q43);
 let q46 := A q45;
 i ≤ q15 → (∀ (j : Nat), j < i → (fun (i : Nat) => ZaQ q18 i ∧ i < q15) j) → (i = q15 → Z0 (decide ((if q41 > q42 then q41 else q42) > (8 : Int))) q10 (Z0 (decide ((0 : Nat) + q44 ≤ q44)) (Z0 (decide (q44 = List.length q45 ∧ q44 < (900000000000 : Nat))) (Z0 (q46.snd != (0 : Int)) q10 (Z0 (q46.fst != q3) q10 (Z0 (decide ((0 : Int) = e)) True False))) False) False)) ∧ (False → False) ∧ (i < q15 ∧ ¬ZaQ q18 i → q10))
 False)
 False)
 False)
 False)
 False)
 False)
 False)
 False))))
 False)
 False)
 (Z0 q11 (Z0 q13 (Z0 q14 q10 q10) False) False))) (by kernel_rfl) ?_
 conv => zeta
 try simp only [Zg]
 try simp only [Zl]
 try simp only [Zh]
 try simp only [Zm]
 try simp only [Zn]
 try simp only [Zf]
 try simp only [Int.toNat_natCast, Nat.zero_add, true_and, and_true, Nat.le_refl]
 have e0 : (Zo.mk t.fund t.index t.cap t.dust t.fee t.delay t.k0 t.k1) = t := rfl
 rw [e0]
 have no : ¬ (shB A t s = true) → 2 = e := fun h => by rw [he, if_neg h]
 have hsh := Z5x (A := A) (t := t) (s := s)
 have hX := Z5w s.a0 s.a1 s.g s.n
 have hdz : List.take (shX s.a0 s.a1 s.g s.n).length (YO 0 (shX s.a0 s.a1 s.g s.n)) = shX s.a0 s.a1 s.g s.n := by rw [Yo, List.drop_zero, List.take_length]
 refine ⟨ht, fun k => no fun h => ?_, fun k1 => ⟨fun k2 => ⟨fun k => no fun h => ?_, fun k3 => ⟨fun k => no fun h => ?_, fun k4 => ⟨fun k => no fun h => ?_, fun k5 => ⟨rfl, ⟨fun j hj => absurd hj (Nat.not_lt_zero j)⟩, rfl, hn, fun i hi hg => ⟨fun hin => ?_, fun h => h.elim, fun hng => no fun h => hng.2 ((hsh.1 h).2.2.2.2.1 i hng.1)⟩⟩⟩⟩⟩, fun k2 => ⟨fun k => no fun h => ?_, fun k => no fun h => ?_⟩⟩⟩
 ·have := (hsh.1 h).1; rw [Z38.1, this] at k; cases k
 ·have := (hsh.1 h).2.1; simp [this] at k
 ·have := (hsh.1 h).2.2.1; simp at k; omega
 ·have := (hsh.1 h).2.2.2.1; simp at k; omega
 ·subst hin
  rw [hdz]
  have ht' : Xf t = true := Z38.2.1 k1
  have k3 : 0 ≤ s.num ∧ s.num ≤ 2147483647 := by simpa using k3
  have k4 : s.owner ≤ 1 := by simpa using k4
  have k5 : t.fee ≤ s.a0 := by simpa using k5
  refine ⟨fun k6 => no fun h => ?_, fun k6 => ⟨⟨rfl, by omega⟩, fun k7 => no fun h => ?_, fun k7 => ⟨fun k8 => no fun h => ?_, fun k8 => ?_⟩⟩⟩
  ·have := (hsh.1 h).2.2.2.2.2; split at k6 <;> omega
  ·have := (hsh.1 h).2.2.2.2.2.2.2.1; simp [this] at k7
  ·have := (hsh.1 h).2.2.2.2.2.2.2.2; simp [this] at k8
  ·have : shB A t s = true := hsh.2 ⟨ht', k3, ⟨k2, k4⟩, k5, fun i hi => (hg i hi).1, by split at k6 <;> omega, by split at k6 <;> omega, by simpa using k7, by simpa using k8⟩
   rw [he, if_pos this]
 ·have := (hsh.1 h).2.1; simp [this] at k
 ·have := (hsh.1 h).2.2.1; omega
end Go.Tk
end
section
namespace Go.Tk
open IntKind (i64 u8 u32 u64 wrap)
def Z8n (v : AV) (N : Nat) (g : Nat → ZD) : Prop := match v with
 | .vrows 36 n f m => (m = n ∧ N = n) ∧ ∀ i, i < n → f i = (g i).c
 | .nilslice => N = 0
 | .eslice => N = 0
 | .fslice => N = 0
 | _ => False
theorem Z8n.rel {v : AV} {N : Nat} {g : Nat → ZD} (h : Z8n v N g) {E : Env} {r : Value} (hv : Zi E v r) : Zi E (.vrows 36 N (ZQ g) N) r := by
 unfold Z8n at h
 split at h
 ·obtain ⟨⟨rfl, rfl⟩, hf⟩ := h
  exact hv.rowsC hf
 ·subst h; cases hv; exact .rows0 rfl (fun _ => rfl)
 ·subst h; cases hv with | eslice a => exact .rows0 rfl (fun _ => rfl)
 ·subst h; cases hv with | fslice a c => exact .rows0 rfl (fun h => by cases h)
 ·exact h.elim
theorem Z8n.cell {v : AV} {N : Nat} {g : Nat → ZD} (h : Z8n v N g) : v.isCell = true ∧ ∀ k n xs, v ≠ .arr k n xs := by
 unfold Z8n at h; split at h <;> simp_all [AV.isCell]
def Z1y (l : List AV) (s : ShS) : Prop := match l with
 | [.int .i64 nu, .int .i64 ow, .arr .u8 32 po, .arr .i64 2 am, b] => (s.num = nu ∧ s.owner = ow ∧ s.point = po ∧ am = [s.a0, s.a1]) ∧ Z8n b s.n s.g
 | _ => False
theorem Z1y.rel {l : List AV} {s : ShS} (h : Z1y l s) {E : Env} {r : Value} (hv : Zi E (.agg l) r) : Zi E (.agg s.c) r := by
 unfold Z1y at h
 split at h
 ·rename_i nu ow po am b
  obtain ⟨⟨rfl, rfl, rfl, rfl⟩, h2⟩ := h
  cases hv with
  | agg cs vs hc =>
   obtain ⟨c1, ws, rfl, _, q1, p1, hc⟩ := Zy.cons_cell hc (fun _ _ _ h => by cases h)
   obtain ⟨c2, ws, rfl, _, q2, p2, hc⟩ := Zy.cons_cell hc (fun _ _ _ h => by cases h)
   obtain ⟨w3, e3, hc3⟩ := Zy.cons_arr hc
   obtain ⟨w4, e4, hc4⟩ := Zy.cons_arr hc3
   obtain ⟨c5, w5, e5, _, q5, p5, hc5⟩ := Zy.cons_cell hc4 h2.cell.2
   cases hc5
   subst e5 e4 e3
   exact .agg _ _ (.one _ _ _ _ rfl q1 p1 (.one _ _ _ _ rfl q2 p2 (.arr _ _ _ _ _ (.arr _ _ _ _ _ (.one _ _ _ _ rfl q5 (h2.rel p5) .nil)))))
 ·exact h.elim
def shF (A : List Int → Int × Int) : ZW := fun args h K => ZH none h true 20 args fun a => match a with
 | [.agg [.arr .u8 32 fu, .int .i64 ix, .int .i64 ca, .int .i64 du, .int .i64 fe, .int .i64 de, .arr .u8 32 k0, .arr .u8 32 k1], .agg l] => (Zo.Ok ⟨fu, ix, ca, du, fe, de, k0, k1⟩) ∧ ∃ s, Z1y l s ∧ s.n < 1000 ∧ K (.int .i64 (if shB A ⟨fu, ix, ca, du, fe, de, k0, k1⟩ s = true then 0 else 2))
 | _ => False
theorem ZhI (args : List AV) (h : Z7) (K : AV → Prop) (hl : shF ZS args h K) : Zk PP 15 args h fun o h' => ∃ v, o = .ret v ∧ h' = h ∧ K v := by
 refine ZB.psumm (d := 20) (Zq _ _ _ _ _ hl fun a ha => ?_)
 split at ha
 ·obtain ⟨ht, s, hs, hn, hK⟩ := ha
  exact ⟨_, (ZB.evM (Zfy _ _ _ _ _) (ZjU ⟨_, _, _, _, _, _, _, _⟩ s ZS _ ht hn rfl)).conv fun E r hr => hr.head (fun _ hc => hc) (fun _ hc => hc.head (fun _ hc => hs.rel hc) (fun _ hc => hc)), fun _ => rfl, hK⟩
 ·exact ha.elim
end Go.Tk
end
section
namespace Go.Tk
open IntKind (i64 u8 u32 u64 wrap)
def W6 (t : Zo) (s : ShS) (own other : List Int) (i : Nat) : Ze := ⟨⟨if (s.g i).frm = s.owner then 4 else 5, (s.g i).amount, own, other, s.point, (s.g i).hash, t.delay, (s.g i).expiry⟩, (s.g i).id, i⟩
def osT (s : ShS) (a0 : Int) : List AV := [.int .i64 s.num, .int .i64 s.owner, .arr .u8 32 s.point, .arr .i64 2 [a0, s.a1], .vrows 36 s.n (ZQ s.g) s.n]
def osS (t : Zo) (s : ShS) (a0 : Int) (own other : List Int) (O : List Ze) (c i : Nat) : St :=
 ⟨98, [(64, .int .i64 i), (63, .int .i64 s.n), (62, .vrows 36 s.n (ZQ s.g) s.n), (6, .func (.func 59) [] [.ptr (some ⟨0, 0, 0, 0, 0⟩), .ptr (some ⟨2, 0, 0, 0, 0⟩)]), (9, .map (some 6)), (3, .ptr (some ⟨1, 0, 0, 0, 0⟩)), (7, .ptr (some ⟨4, 0, 0, 0, 0⟩)), (8, .ptr (some ⟨5, 0, 0, 0, 0⟩)), (2, .ptr (some ⟨0, 0, 0, 0, 0⟩)), (5, .ptr (some ⟨2, 0, 0, 0, 0⟩))],
  ⟨7, [(0, .flat t.c), (1, .flat (osT s a0)), (2, .flat [.nslice ⟨3, 0, 134, 0, 0⟩ 134 c c]), (3, .rows 134 c (Zt O)), (4, .flat [.arr .u8 32 own]), (5, .flat [.arr .u8 32 other]), (6, .map [(.bool true, .int .i64 4), (.bool false, .int .i64 5)])]⟩, []⟩
def osE (O : List Ze) (c : Nat) : St := ⟨98, [(5, .ptr (some ⟨0, 0, 0, 0, 0⟩))], ⟨2, [(0, .flat [.nslice ⟨1, 0, 134, 0, 0⟩ 134 c c]), (1, .rows 134 c (Zt O))]⟩, []⟩
theorem ZkM (t : Zo) (s : ShS) (a0 : Int) (own other : List Int) (O O1 : List Ze) (c c1 i : Nat) (Z1 Z2 : Prop) (hn : s.n < 1000) (hi : i ≤ s.n) (hO : O.length = c) (hci : c ≤ i + 2) (hO1 : i < s.n → O1 = O ++ (if t.dust ≤ (s.g i).amount then [W6 t s own other i] else [])) (hc1 : c1 = O1.length) (h1 : i < s.n → Z1) (h2 : i = s.n → Z2) :
  ZF G0 20 29 0 0 (osS t s a0 own other O c i) (rdM 0 0 9 (osS t s a0 own other O1 c1 (i + 1)) (osE O c) (osE O c) (osE O c) Z1 Z2 False False) := by
 refine @Eq.mpr _ (let q1 := s.n;
 let q2 := (↑q1 : Int);
 let q3 := s.g (Int.toNat (↑i : Int));
 let q4 := s.owner;
 let q5 := q3.frm == q4;
 let q6 := q3.amount;
 let q7 := t.dust;
 let q8 := decide (q6 ≥ q7);
 let q9 := decide (c = c);
 let q10 := c + 1;
 let q11 := decide (q10 * 176 ≤ 140737488355328);
 let q12 := decide (wrap i64 ((↑i : Int) + 1) = (↑(i + 1) : Int));
 let q13 := decide (q2 = q2);
 let q14 := decide (q1 = q1);
 let q15 := ZQ s.g;
 let q16 := q15 = q15;
 let q17 := t.fund = t.fund;
 let q18 := decide (t.index = t.index);
 let q19 := decide (t.cap = t.cap);
 let q20 := decide (q7 = q7);
 let q21 := decide (t.fee = t.fee);
 let q22 := t.delay;
 let q23 := decide (q22 = q22);
 let q24 := t.k0 = t.k0;
 let q25 := t.k1 = t.k1;
 let q26 := decide (s.num = s.num);
 let q27 := decide (q4 = q4);
 let q28 := s.point;
 let q29 := q28 = q28;
 let q30 := [a0, s.a1];
 let q31 := q30 = q30;
 let q32 := decide (q10 = c1);
 let q33 := decide (c1 ≤ q10);
 let q34 := [(5, 5), (4, 4), (1, 1), (6, 6), (2, 2), (0, 0)];
 let q35 := (3, 10) :: q34;
 let q36 := Zt O1;
 let q37 := Zt O;
 let q38 := [AV.int i64 q6, AV.arr u8 32 own, AV.arr u8 32 other, AV.arr u8 32 q28, AV.arr u8 32 q3.hash, AV.int i64 q22, AV.int i64 q3.expiry, AV.int i64 q3.id, AV.int i64 (↑i : Int)];
 let q39 := own = own ∧ other = other ∧ Z1;
 let q40 := decide (c = c1);
 let q41 := Z0 q12 (Z0 q13 (Z0 q14 (q16 ∧ Z0 q14 (q17 ∧ Z0 q18 (Z0 q19 (Z0 q20 (Z0 q21 (Z0 q23 (q24 ∧ q25 ∧ Z0 q26 (Z0 q27 (q29 ∧ q31 ∧ Z0 q14 (q16 ∧ Z0 q14 (Z0 q40 (Z0 (decide (c1 ≤ c)) (Z0 q40 (Zc 0 ((3, 3) :: q34) c1 q36 q37 ∧ q39) False) False) False) False) False) False) False) False) False) False) False) False) False) False) False) False;
 Z0 (decide ((↑i : Int) < q2))
 (Z0 (decide (0 ≤ (↑i : Int) ∧ (↑i : Int) < q2))
 (Z0 (q5 == true) (Z0 q8 (Z0 q9 (Z0 q11 (Z0 q12 (Z0 q13 (Z0 q14 (q16 ∧ Z0 q14 (q17 ∧ Z0 q18 (Z0 q19 (Z0 q20 (Z0 q21 (Z0 q23 (q24 ∧ q25 ∧ Z0 q26 (Z0 q27 (q29 ∧ q31 ∧ Z0 q14 (q16 ∧ Z0 q14 (Z0 q32 (Z0 q33 (Z0 q32 (Zc 0 q35 c1 q36 (Yf c q37 (ZO (AV.int i64 4 :: q38) 0 134)) ∧ q39) False) False) False) False) False) False) False) False) False) False) False) False) False) False) False) False) False) False) q41)
 (Z0 (q5 == false) (Z0 q8 (Z0 q9 (Z0 q11 (Z0 q12 (Z0 q13 (Z0 q14 (q16 ∧ Z0 q14 (q17 ∧ Z0 q18 (Z0 q19 (Z0 q20 (Z0 q21 (Z0 q23 (q24 ∧ q25 ∧ Z0 q26 (Z0 q27 (q29 ∧ q31 ∧ Z0 q14 (q16 ∧ Z0 q14 (Z0 q32 (Z0 q33 (Z0 q32 (Zc 0 q35 c1 q36 (Yf c q37 (ZO (AV.int i64 5 :: q38) 0 134)) ∧ q39) False) False) False) False) False) False) False) False) False) False) False) False) False) False) False) False) False) False) q41) (Z0 q8 (Z0 q9 (Z0 q11 (Z0 q12 (Z0 q13 (Z0 q14 (q16 ∧ Z0 q14 (q17 ∧ Z0 q18 (Z0 q19 (Z0 q20 (Z0 q21 (Z0 q23 (q24 ∧ q25 ∧ Z0 q26 (Z0 q27 (q29 ∧ q31 ∧ Z0 q14 (q16 ∧ Z0 q14 (Z0 q32 (Z0 q33 (Z0 q32 (Zc 0 q35 c1 q36 (Yf c q37 (ZO (AV.int i64 0 :: q38) 0 134)) ∧ q39) False) False) False) False) False) False) False) False) False) False) False) False) False) False) False) False) False) False) q41)))
 False)
 (Z0 q9 (Z0 (decide (c ≤ c)) (Z0 q9 (Zc 0 [(1, 3), (0, 2)] c q37 q37 ∧ Z2) False) False) False)) (by kernel_rfl) ?_
 conv => zeta
 try simp only [Zg]
 try simp only [Zl]
 try simp only [Zh]
 try simp only [Zm]
 try simp only [Zn]
 try simp only [Zf]
 try simp only [Int.toNat_natCast, Nat.zero_add, true_and, and_true, Nat.le_refl]
 refine ⟨fun hc => ?_, fun hc => ⟨ZN fun _ _ => rfl, h2 (by omega)⟩⟩
 have hlt : i < s.n := by omega
 have hO1 := hO1 hlt
 have hZ := h1 hlt
 have hwr : i64.wrap ((i : Int) + 1) = ((i + 1 : Nat) : Int) := by rw [w64 (by omega)]; omega
 have hsm : ¬ (s.g i).amount ≥ t.dust → c = c1 ∧ ∀ j, j < c1 → Zt O j = Zt O1 j := fun h => by
  rw [if_neg h, List.append_nil] at hO1
  subst hO1
  exact ⟨by rw [hc1, hO], fun _ _ => rfl⟩
 have hbig : (s.g i).amount ≥ t.dust → c + 1 = c1 ∧ O1 = O ++ [W6 t s own other i] := fun h => by
  rw [if_pos h] at hO1
  exact ⟨by rw [hc1, hO1]; simp [hO], hO1⟩
 refine ⟨by omega, fun k1 => ⟨fun k => ?_, fun k => ?_⟩, fun k1 => ⟨fun k2 => ⟨fun k => ?_, fun k => ?_⟩, fun k2 => ?_⟩⟩
 ·obtain ⟨e1, e2⟩ := hbig k
  have k1 : (s.g i).frm = s.owner := by simpa using k1
  refine ⟨by omega, hwr, e1, by omega, e1, ZN fun j hj => ?_, hZ⟩
  rw [e2]
  have := Xl (f := Zt O) (O := O) (x := W6 t s own other i) (c := c) (i := j) hO (fun _ _ => rfl) (by omega)
  rw [← this]
  unfold W6
  rw [if_pos k1]
  rfl
 ·obtain ⟨e1, e2⟩ := hsm k
  exact ⟨hwr, e1, by omega, e1, ZN e2, hZ⟩
 ·obtain ⟨e1, e2⟩ := hbig k
  have k1 : ¬ (s.g i).frm = s.owner := by simpa using k1
  refine ⟨by omega, hwr, e1, by omega, e1, ZN fun j hj => ?_, hZ⟩
  rw [e2]
  have := Xl (f := Zt O) (O := O) (x := W6 t s own other i) (c := c) (i := j) hO (fun _ _ => rfl) (by omega)
  rw [← this]
  unfold W6
  rw [if_neg k1]
  rfl
 ·obtain ⟨e1, e2⟩ := hsm k
  exact ⟨hwr, e1, by omega, e1, ZN e2, hZ⟩
 ·exfalso
  cases h : ((s.g i).frm == s.owner) <;> rw [h] at k1 k2 <;> simp at k1 k2
def Y4 (t : Zo) (s : ShS) (own other : List Int) (O0 : List Ze) : Nat → List Ze
 | 0 => O0
 | i + 1 => Y4 t s own other O0 i ++ (if t.dust ≤ (s.g i).amount then [W6 t s own other i] else [])
theorem U4 {t : Zo} {s : ShS} {own other : List Int} {O0 : List Ze} : ∀ i, (Y4 t s own other O0 i).length ≤ i + O0.length
 | 0 => by simp [Y4]
 | i + 1 => by
  have := U4 (t := t) (s := s) (own := own) (other := other) (O0 := O0) i
  simp only [Y4, List.length_append]
  split <;> simp <;> omega
def Yt (t : Zo) (point own other : List Int) (mine theirs : Int) : List Ze :=
 (if t.dust ≤ mine then [⟨⟨3, mine, own, Z5, point, Z5, t.delay, 0⟩, 0, -1⟩] else []) ++ (if t.dust ≤ theirs then [⟨⟨1, theirs, other, Z5, Z5, Z5, 0, 0⟩, 0, -2⟩] else [])
noncomputable def E93 (t : Zo) (s : ShS) (a0 : Int) (own other : List Int) (O0 : List Ze) (c0 : Nat) (Ol : Nat → List Ze) : Zd := (G0.withF 58 orF).withL 29 0 (goM 0 (osS t s a0 own other O0 c0 0) (s.n < 1000 ∧ c0 = O0.length ∧ c0 ≤ 2 ∧ Ol = Y4 t s own other O0) (Ym 0 s.n 9 (fun i => i < s.n) (fun i => i = s.n) (fun _ => False) (fun _ => False) (fun i => osE (Ol i) (Ol i).length) (fun i => osE (Ol i) (Ol i).length) (fun i => osE (Ol i) (Ol i).length)))
theorem Zdf (t : Zo) (s : ShS) (a0 : Int) (own other : List Int) (O0 : List Ze) (c0 : Nat) (Ol : Nat → List Ze) : (E93 t s a0 own other O0 c0 Ol).Ok := by
 refine Zd.withL_join (H := G0) (Zd.withF_ok Zu ZcU) rfl ?_
 exact Zd.withGoM (N := 20) (S := fun i => osS t s a0 own other (Y4 t s own other O0 i) (Y4 t s own other O0 i).length i) Zu (by kernel_rfl) fun hC => by
  obtain ⟨h1, h2, h3, h4⟩ := hC
  subst h4
  refine ⟨by rw [h2]; rfl, fun i hi _ => ZkM t s a0 own other _ _ _ _ i _ _ h1 hi rfl ?_ (fun _ => rfl) rfl (fun h => ⟨h, h⟩) (fun h => h)⟩
  have := U4 (t := t) (s := s) (own := own) (other := other) (O0 := O0) i
  omega
theorem ZjV (t : Zo) (num : Int) (point : List Int) (a0 a1 : Int) (n : Nat) (g : Nat → ZD) (O0 : List Ze) (c0 : Nat) (Ol : Nat → List Ze) (b0 : Int) (L1 : List Ze) (c : Nat) (hn : n < 1000) (hwr : i64.wrap (a0 - t.fee) = b0) (hO0 : O0 = Yt t point t.k0 t.k1 b0 a1) (hc0 : c0 = O0.length) (hOl : Ol = Y4 t ⟨num, 0, point, a0, a1, n, g⟩ t.k0 t.k1 O0) (hL1 : L1 = Zp (Ol n)) (hc : c = L1.length) (h20 : c < 20) (hok : ∀ m ∈ Ol n, m.Ok) :
  evF (E93 t ⟨num, 0, point, a0, a1, n, g⟩ b0 t.k0 t.k1 O0 c0 Ol) 20 29 [.agg t.c, .agg (ShS.c ⟨num, 0, point, a0, a1, n, g⟩)] ⟨0, []⟩ (Yc 0 (.ret (.nslice ⟨0, 0, 134, 0, 0⟩ 134 c c)) 1 [(0, .rows 134 c (Zt L1))]) := by
 refine @Eq.mpr _ (let q1 := t.k1;
 let q2 := q1 = q1;
 let q3 := ShS.mk num 0 point a0 a1 n g;
 let q4 := t.fee;
 let q5 := wrap i64 (q3.a0 - q4);
 let q6 := t.dust;
 let q7 := q3.a1;
 let q8 := decide (q7 ≥ q6);
 let q9 := q3.n;
 let q10 := (↑q9 : Int);
 let q11 := decide (q10 = q10);
 let q12 := decide (q9 = q9);
 let q13 := ZQ q3.g;
 let q14 := q13 = q13;
 let q15 := t.fund = t.fund;
 let q16 := decide (t.index = t.index);
 let q17 := decide (t.cap = t.cap);
 let q18 := decide (q6 = q6);
 let q19 := decide (q4 = q4);
 let q20 := t.delay;
 let q21 := decide (q20 = q20);
 let q22 := t.k0;
 let q23 := q22 = q22;
 let q24 := q3.num;
 let q25 := decide (q24 = q24);
 let q26 := q3.point;
 let q27 := q26 = q26;
 let q28 := [q7];
 let q29 := q5 :: q28 = b0 :: q28;
 let q30 := decide (2 = c0);
 let q31 := [(2, 2), (0, 0)];
 let q32 := Zt O0;
 let q33 := AV.arr u8 32 Z5;
 let q34 := AV.int i64 0;
 let q35 := Yf 0 (fun (x : Nat) => []) (ZO [AV.int i64 3, AV.int i64 q5, AV.arr u8 32 q22, q33, AV.arr u8 32 q26, q33, AV.int i64 q20, q34, q34, AV.int i64 (-1)] 0 134);
 let q36 := ZO [AV.int i64 1, AV.int i64 q7, AV.arr u8 32 q1, q33, q33, q33, q34, q34, q34, AV.int i64 (-2)] 0 134;
 let q37 := q23 ∧ q2 ∧ (q9 < 1000 ∧ c0 = List.length O0 ∧ c0 ≤ 2 ∧ Ol = Y4 t q3 q22 q1 O0) ∧ ∀ (i : Nat), i ≤ q9 → (∀ (j : Nat), j < i → (fun (i : Nat) => i < q9) j) → (i = q9 → (∀ (i_1 : Nat), i_1 < List.length (Ol i) → true = true) ∧ ∃ (L : List Ze), (List.length (Ol i) = List.length (Ol i) ∧ List.length (Ol i) < 20 ∧ List.length L = List.length (Ol i)) ∧ (∀ (m : Ze), List.Mem m L → Ze.Ok m) ∧ (∀ (i_1 : Nat), i_1 < List.length (Ol i) → Zt (Ol i) i_1 = Zt L i_1) ∧ Z0 (decide (List.length (Ol i) = c)) (Z0 (decide (c ≤ List.length (Ol i))) (Z0 (decide (List.length (Ol i) = c)) (Zc 0 [(0, 1)] c (Zt L1) (Zt (Zp L)) ∧ True) False) False) False) ∧ (False → False) ∧ (False → False);
 let q38 := decide (1 = c0);
 let q39 := decide (c0 ≤ 1);
 let q40 := (5, 4) :: (4, 3) :: (1, 1) :: (6, 9) :: q31;
 let q41 := decide (c0 = 0);
 q2 ∧
 q2 ∧
 q2 ∧
 Z0 (decide (q5 ≥ q6)) (Z0 q8 (Z0 q11 (Z0 q12 (q14 ∧ Z0 q12 (q15 ∧ Z0 q16 (Z0 q17 (Z0 q18 (Z0 q19 (Z0 q21 (q23 ∧ q2 ∧ Z0 q25 (q27 ∧ q29 ∧ Z0 q12 (q14 ∧ Z0 q12 (Z0 q30 (Z0 (decide (c0 ≤ 2)) (Z0 q30 (Zc 0 ((3, 10) :: (5, 4) :: (4, 3) :: (1, 1) :: (6, 11) :: q31) c0 q32 (Yf 1 q35 q36) ∧ q37) False) False) False) False) False) False) False) False) False) False) False) False) False) False) (Z0 q11 (Z0 q12 (q14 ∧ Z0 q12 (q15 ∧ Z0 q16 (Z0 q17 (Z0 q18 (Z0 q19 (Z0 q21 (q23 ∧ q2 ∧ Z0 q25 (q27 ∧ q29 ∧ Z0 q12 (q14 ∧ Z0 q12 (Z0 q38 (Z0 q39 (Z0 q38 (Zc 0 ((3, 7) :: q40) c0 q32 q35 ∧ q37) False) False) False) False) False) False) False) False) False) False) False) False) False) False))
 (Z0 q8 (Z0 q11 (Z0 q12 (q14 ∧ Z0 q12 (q15 ∧ Z0 q16 (Z0 q17 (Z0 q18 (Z0 q19 (Z0 q21 (q23 ∧ q2 ∧ Z0 q25 (q27 ∧ q29 ∧ Z0 q12 (q14 ∧ Z0 q12 (Z0 q38 (Z0 q39 (Z0 q38 (Zc 0 ((3, 8) :: q40) c0 q32 (Yf 0 (fun (x : Nat) => []) q36) ∧ q37) False) False) False) False) False) False) False) False) False) False) False) False) False) False) (Z0 q11 (Z0 q12 (q14 ∧ Z0 q12 (q15 ∧ Z0 q16 (Z0 q17 (Z0 q18 (Z0 q19 (Z0 q21 (q23 ∧ q2 ∧ Z0 q25 (q27 ∧ q29 ∧ Z0 q12 (q14 ∧ Z0 q12 (Z0 q41 (Z0 q41 (Z0 q41 q37 False) False) False) False) False) False) False) False) False) False) False) False) False) False))) (by kernel_rfl) ?_
 conv => zeta
 try simp only [Zg]
 try simp only [Zl]
 try simp only [Zh]
 try simp only [Zm]
 try simp only [Zn]
 try simp only [Zf]
 try simp only [Int.toNat_natCast, Nat.zero_add, true_and, and_true, Nat.le_refl]
 rw [hwr]
 have hlc : (Ol n).length = c := by rw [hc, hL1, ZU]
 have hc2 : c0 ≤ 2 := by rw [hc0, hO0]; unfold Yt; rw [List.length_append]; split <;> split <;> simp
 unfold Yt at hO0
 and_intros
 all_goals try rfl
 ·intro k1
  refine ⟨fun k2 => ?_, fun k2 => ?_⟩
  all_goals
   first | rw [if_pos k1, if_pos k2] at hO0 | rw [if_pos k1, if_neg k2] at hO0
   have hl : c0 = O0.length := hc0
   rw [hO0] at hl
   simp only [List.length_append, List.length_cons, List.length_nil] at hl
   and_intros
   all_goals first
    | rfl
    | omega
    | exact hOl
    | exact hc0
    | (rw [hO0]; refine ZN fun j hj => ?_; first | exact X3 ⟨⟨3, b0, t.k0, Z5, point, Z5, t.delay, 0⟩, 0, -1⟩ ⟨⟨1, a1, t.k1, Z5, Z5, Z5, 0, 0⟩, 0, -2⟩ j (by omega) | exact XX ⟨⟨3, b0, t.k0, Z5, point, Z5, t.delay, 0⟩, 0, -1⟩ j (by omega))
    | (intro i hi hg; refine ⟨fun he => ?_, fun h => h.elim, fun h => h.elim⟩; subst he; exact ⟨fun _ _ => trivial, _, ⟨by omega, rfl⟩, hok, fun _ _ => rfl, hlc, by omega, hlc, ZN fun _ _ => by rw [hL1]⟩)
 ·intro k1
  refine ⟨fun k2 => ?_, fun k2 => ?_⟩
  all_goals
   first | rw [if_neg k1, if_pos k2] at hO0 | rw [if_neg k1, if_neg k2] at hO0
   have hl : c0 = O0.length := hc0
   rw [hO0] at hl
   simp only [List.length_append, List.length_cons, List.length_nil] at hl
   and_intros
   all_goals first
    | rfl
    | omega
    | exact hOl
    | exact hc0
    | (rw [hO0]; refine ZN fun j hj => ?_; exact XX ⟨⟨1, a1, t.k1, Z5, Z5, Z5, 0, 0⟩, 0, -2⟩ j (by omega))
    | (intro i hi hg; refine ⟨fun he => ?_, fun h => h.elim, fun h => h.elim⟩; subst he; exact ⟨fun _ _ => trivial, _, ⟨by omega, rfl⟩, hok, fun _ _ => rfl, hlc, by omega, hlc, ZN fun _ _ => by rw [hL1]⟩)
theorem ZjW (t : Zo) (num : Int) (point : List Int) (a0 a1 : Int) (n : Nat) (g : Nat → ZD) (O0 : List Ze) (c0 : Nat) (Ol : Nat → List Ze) (b0 : Int) (L1 : List Ze) (c : Nat) (hn : n < 1000) (hwr : i64.wrap (a0 - t.fee) = b0) (hO0 : O0 = Yt t point t.k1 t.k0 a1 b0) (hc0 : c0 = O0.length) (hOl : Ol = Y4 t ⟨num, 1, point, a0, a1, n, g⟩ t.k1 t.k0 O0) (hL1 : L1 = Zp (Ol n)) (hc : c = L1.length) (h20 : c < 20) (hok : ∀ m ∈ Ol n, m.Ok) :
  evF (E93 t ⟨num, 1, point, a0, a1, n, g⟩ b0 t.k1 t.k0 O0 c0 Ol) 20 29 [.agg t.c, .agg (ShS.c ⟨num, 1, point, a0, a1, n, g⟩)] ⟨0, []⟩ (Yc 0 (.ret (.nslice ⟨0, 0, 134, 0, 0⟩ 134 c c)) 1 [(0, .rows 134 c (Zt L1))]) := by
 refine @Eq.mpr _ (let q1 := t.k0;
 let q2 := q1 = q1;
 let q3 := ShS.mk num 1 point a0 a1 n g;
 let q4 := q3.a1;
 let q5 := t.dust;
 let q6 := t.fee;
 let q7 := wrap i64 (q3.a0 - q6);
 let q8 := decide (q7 ≥ q5);
 let q9 := q3.n;
 let q10 := (↑q9 : Int);
 let q11 := decide (q10 = q10);
 let q12 := decide (q9 = q9);
 let q13 := ZQ q3.g;
 let q14 := q13 = q13;
 let q15 := t.fund = t.fund;
 let q16 := decide (t.index = t.index);
 let q17 := decide (t.cap = t.cap);
 let q18 := decide (q5 = q5);
 let q19 := decide (q6 = q6);
 let q20 := t.delay;
 let q21 := decide (q20 = q20);
 let q22 := t.k1;
 let q23 := q22 = q22;
 let q24 := q3.num;
 let q25 := decide (q24 = q24);
 let q26 := q3.point;
 let q27 := q26 = q26;
 let q28 := [q4];
 let q29 := q7 :: q28 = b0 :: q28;
 let q30 := decide (2 = c0);
 let q31 := [(2, 2), (0, 0)];
 let q32 := Zt O0;
 let q33 := AV.arr u8 32 Z5;
 let q34 := AV.int i64 0;
 let q35 := Yf 0 (fun (x : Nat) => []) (ZO [AV.int i64 3, AV.int i64 q4, AV.arr u8 32 q22, q33, AV.arr u8 32 q26, q33, AV.int i64 q20, q34, q34, AV.int i64 (-1)] 0 134);
 let q36 := ZO [AV.int i64 1, AV.int i64 q7, AV.arr u8 32 q1, q33, q33, q33, q34, q34, q34, AV.int i64 (-2)] 0 134;
 let q37 := q23 ∧ q2 ∧ (q9 < 1000 ∧ c0 = List.length O0 ∧ c0 ≤ 2 ∧ Ol = Y4 t q3 q22 q1 O0) ∧ ∀ (i : Nat), i ≤ q9 → (∀ (j : Nat), j < i → (fun (i : Nat) => i < q9) j) → (i = q9 → (∀ (i_1 : Nat), i_1 < List.length (Ol i) → true = true) ∧ ∃ (L : List Ze), (List.length (Ol i) = List.length (Ol i) ∧ List.length (Ol i) < 20 ∧ List.length L = List.length (Ol i)) ∧ (∀ (m : Ze), List.Mem m L → Ze.Ok m) ∧ (∀ (i_1 : Nat), i_1 < List.length (Ol i) → Zt (Ol i) i_1 = Zt L i_1) ∧ Z0 (decide (List.length (Ol i) = c)) (Z0 (decide (c ≤ List.length (Ol i))) (Z0 (decide (List.length (Ol i) = c)) (Zc 0 [(0, 1)] c (Zt L1) (Zt (Zp L)) ∧ True) False) False) False) ∧ (False → False) ∧ (False → False);
 let q38 := decide (1 = c0);
 let q39 := decide (c0 ≤ 1);
 let q40 := (5, 4) :: (4, 3) :: (1, 1) :: (6, 9) :: q31;
 let q41 := decide (c0 = 0);
 q2 ∧
 q2 ∧
 q2 ∧
 Z0 (decide (q4 ≥ q5)) (Z0 q8 (Z0 q11 (Z0 q12 (q14 ∧ Z0 q12 (q15 ∧ Z0 q16 (Z0 q17 (Z0 q18 (Z0 q19 (Z0 q21 (q2 ∧ q23 ∧ Z0 q25 (q27 ∧ q29 ∧ Z0 q12 (q14 ∧ Z0 q12 (Z0 q30 (Z0 (decide (c0 ≤ 2)) (Z0 q30 (Zc 0 ((3, 10) :: (5, 4) :: (4, 3) :: (1, 1) :: (6, 11) :: q31) c0 q32 (Yf 1 q35 q36) ∧ q37) False) False) False) False) False) False) False) False) False) False) False) False) False) False) (Z0 q11 (Z0 q12 (q14 ∧ Z0 q12 (q15 ∧ Z0 q16 (Z0 q17 (Z0 q18 (Z0 q19 (Z0 q21 (q2 ∧ q23 ∧ Z0 q25 (q27 ∧ q29 ∧ Z0 q12 (q14 ∧ Z0 q12 (Z0 q38 (Z0 q39 (Z0 q38 (Zc 0 ((3, 7) :: q40) c0 q32 q35 ∧ q37) False) False) False) False) False) False) False) False) False) False) False) False) False) False))
 (Z0 q8 (Z0 q11 (Z0 q12 (q14 ∧ Z0 q12 (q15 ∧ Z0 q16 (Z0 q17 (Z0 q18 (Z0 q19 (Z0 q21 (q2 ∧ q23 ∧ Z0 q25 (q27 ∧ q29 ∧ Z0 q12 (q14 ∧ Z0 q12 (Z0 q38 (Z0 q39 (Z0 q38 (Zc 0 ((3, 8) :: q40) c0 q32 (Yf 0 (fun (x : Nat) => []) q36) ∧ q37) False) False) False) False) False) False) False) False) False) False) False) False) False) False) (Z0 q11 (Z0 q12 (q14 ∧ Z0 q12 (q15 ∧ Z0 q16 (Z0 q17 (Z0 q18 (Z0 q19 (Z0 q21 (q2 ∧ q23 ∧ Z0 q25 (q27 ∧ q29 ∧ Z0 q12 (q14 ∧ Z0 q12 (Z0 q41 (Z0 q41 (Z0 q41 q37 False) False) False) False) False) False) False) False) False) False) False) False) False) False))) (by kernel_rfl) ?_
 conv => zeta
 try simp only [Zg]
 try simp only [Zl]
 try simp only [Zh]
 try simp only [Zm]
 try simp only [Zn]
 try simp only [Zf]
 try simp only [Int.toNat_natCast, Nat.zero_add, true_and, and_true, Nat.le_refl]
 rw [hwr]
 have hlc : (Ol n).length = c := by rw [hc, hL1, ZU]
 have hc2 : c0 ≤ 2 := by rw [hc0, hO0]; unfold Yt; rw [List.length_append]; split <;> split <;> simp
 unfold Yt at hO0
 and_intros
 all_goals try rfl
 ·intro k1
  refine ⟨fun k2 => ?_, fun k2 => ?_⟩
  all_goals
   first | rw [if_pos k1, if_pos k2] at hO0 | rw [if_pos k1, if_neg k2] at hO0
   have hl : c0 = O0.length := hc0
   rw [hO0] at hl
   simp only [List.length_append, List.length_cons, List.length_nil] at hl
   and_intros
   all_goals first
    | rfl
    | omega
    | exact hOl
    | exact hc0
    | (rw [hO0]; refine ZN fun j hj => ?_; first | exact X3 ⟨⟨3, a1, t.k1, Z5, point, Z5, t.delay, 0⟩, 0, -1⟩ ⟨⟨1, b0, t.k0, Z5, Z5, Z5, 0, 0⟩, 0, -2⟩ j (by omega) | exact XX ⟨⟨3, a1, t.k1, Z5, point, Z5, t.delay, 0⟩, 0, -1⟩ j (by omega))
    | (intro i hi hg; refine ⟨fun he => ?_, fun h => h.elim, fun h => h.elim⟩; subst he; exact ⟨fun _ _ => trivial, _, ⟨by omega, rfl⟩, hok, fun _ _ => rfl, hlc, by omega, hlc, ZN fun _ _ => by rw [hL1]⟩)
 ·intro k1
  refine ⟨fun k2 => ?_, fun k2 => ?_⟩
  all_goals
   first | rw [if_neg k1, if_pos k2] at hO0 | rw [if_neg k1, if_neg k2] at hO0
   have hl : c0 = O0.length := hc0
   rw [hO0] at hl
   simp only [List.length_append, List.length_cons, List.length_nil] at hl
   and_intros
   all_goals first
    | rfl
    | omega
    | exact hOl
    | exact hc0
    | (rw [hO0]; refine ZN fun j hj => ?_; exact XX ⟨⟨1, b0, t.k0, Z5, Z5, Z5, 0, 0⟩, 0, -2⟩ j (by omega))
    | (intro i hi hg; refine ⟨fun he => ?_, fun h => h.elim, fun h => h.elim⟩; subst he; exact ⟨fun _ _ => trivial, _, ⟨by omega, rfl⟩, hok, fun _ _ => rfl, hlc, by omega, hlc, ZN fun _ _ => by rw [hL1]⟩)
end Go.Tk
end
section
namespace Go.Tk
open IntKind (i64 u8 u32 u64 wrap)
def Zj (t : Zo) (s : ShS) : List Ze :=
 if s.owner = 0 then Y4 t s t.k0 t.k1 (Yt t s.point t.k0 t.k1 (s.a0 - t.fee) s.a1) s.n
 else Y4 t s t.k1 t.k0 (Yt t s.point t.k1 t.k0 s.a1 (s.a0 - t.fee)) s.n
structure WN (t : Zo) (s : ShS) : Prop where
 ow : s.owner = 0 ∨ s.owner = 1
 n : s.n < 1000
 fee : -9223372036854775808 ≤ s.a0 - t.fee ∧ s.a0 - t.fee < 9223372036854775808
 len : (Zj t s).length < 20
 ok : ∀ m ∈ Zj t s, m.Ok
def ouF : Y9 := fun args h K => ZH none h true 20 args fun a => match a with
 | [.agg [.arr .u8 32 fu, .int .i64 ix, .int .i64 ca, .int .i64 du, .int .i64 fe, .int .i64 de, .arr .u8 32 k0, .arr .u8 32 k1], .agg l] => ∃ s, Z1y l s ∧ WN ⟨fu, ix, ca, du, fe, de, k0, k1⟩ s ∧
  ∀ n L, L = Zp (Zj ⟨fu, ix, ca, du, fe, de, k0, k1⟩ s) → n = L.length → K (.ret (.nslice ⟨h.next, 0, 134, 0, 0⟩ 134 n n)) ⟨h.next + 1, (h.next, .rows 134 n (Zt L)) :: h.bs⟩
 | _ => False
theorem Zdg (args : List AV) (h : Z7) (K : KO) (hl : ouF args h K) : Zk PP 29 args h K := by
 refine ZB.fsumm (d := 20) (Zq _ _ _ _ _ hl fun a ha => ?_)
 split at ha
 ·rename_i fu ix ca du fe de k0 k1 l
  obtain ⟨s, hs, ho, hK⟩ := ha
  have hK := hK _ _ rfl rfl
  have hlen := ho.len
  have hok := ho.ok
  have hfee := ho.fee
  have hn := ho.n
  rcases ho.ow with ow | ow
  ·obtain ⟨num, owner, point, a0, a1, n, g⟩ := s
   simp only at ow
   subst ow
   unfold Zj at hK hlen hok
   rw [if_pos rfl] at hK hlen hok
   exact ⟨_, _, _, _, (ZB.evM (Zdf _ _ _ _ _ _ _ _) (ZjV ⟨fu, ix, ca, du, fe, de, k0, k1⟩ num point a0 a1 n g _ _ _ _ _ _ hn (w64 hfee) rfl rfl rfl rfl rfl (by rw [ZU]; exact hlen) hok)).conv (fun E r hr => hr.head (fun _ hc => hc) (fun _ hc => hc.head (fun _ hc => hs.rel hc) (fun _ hc => hc))), rfl, ⟨Nat.one_pos, .rows _ _ _ (fun i _ => Xg _ i), trivial⟩, hK⟩
  ·obtain ⟨num, owner, point, a0, a1, n, g⟩ := s
   simp only at ow
   subst ow
   unfold Zj at hK hlen hok
   rw [if_neg (show ¬ (1 : Int) = 0 by decide)] at hK hlen hok
   exact ⟨_, _, _, _, (ZB.evM (Zdf _ _ _ _ _ _ _ _) (ZjW ⟨fu, ix, ca, du, fe, de, k0, k1⟩ num point a0 a1 n g _ _ _ _ _ _ hn (w64 hfee) rfl rfl rfl rfl rfl (by rw [ZU]; exact hlen) hok)).conv (fun E r hr => hr.head (fun _ hc => hc) (fun _ hc => hc.head (fun _ hc => hs.rel hc) (fun _ hc => hc))), rfl, ⟨Nat.one_pos, .rows _ _ _ (fun i _ => Xg _ i), trivial⟩, hK⟩
 ·exact ha.elim
end Go.Tk
end
section
namespace Go.Tk
open IntKind (i64 u8 u32 u64 wrap)
structure ShS.Ok (s : ShS) : Prop where
 point : s.point.length = 32
 a0 : -9223372036854775808 ≤ s.a0 ∧ s.a0 < 9223372036854775808
 g : ∀ i, i < s.n → (s.g i).Ok
theorem Z9u {g : Nat → ZD} : ∀ i, i < 1000 → (∀ j, j < i → Xn (g j) = true) → (shM g i).getD 0 0 + (shM g i).getD 1 0 = i ∧ 0 ≤ (shM g i).getD 0 0 ∧ 0 ≤ (shM g i).getD 1 0
 | 0, _, _ => by simp [shM]
 | i + 1, hi, h => by
  obtain ⟨h1, h2, h3⟩ := Z9u i (by omega) (fun j hj => h j (by omega))
  have hl := Z5v g i
  have hp := h i (by omega)
  unfold Xn at hp
  simp only [Bool.and_eq_true, decide_eq_true_eq] at hp
  have hf : (g i).frm = 0 ∨ (g i).frm = 1 := by omega
  obtain ⟨x, y, hxy⟩ : ∃ x y, shM g i = [x, y] := by
   match hm : shM g i, hl with
   | [x, y], _ => exact ⟨x, y, rfl⟩
  rw [hxy] at h1 h2 h3
  simp only [shM, hxy]
  simp at h1 h2 h3
  rcases hf with hf | hf <;> rw [hf]
  ·have e : i64.wrap (x + 1) = x + 1 := w64 (by omega)
   simp [e]; omega
  ·have e : i64.wrap (y + 1) = y + 1 := w64 (by omega)
   simp [e]; omega
theorem QS {t : Zo} {point own other : List Int} {a b : Int} (h1 : point.length = 32) (h2 : own.length = 32) (h3 : other.length = 32) : ∀ m ∈ Yt t point own other a b, m.Ok := fun m hm => by
 have z32 : Z5.length = 32 := rfl
 unfold Yt at hm
 rw [List.mem_append] at hm
 rcases hm with hm | hm
 ·split at hm
  ·rw [List.mem_singleton] at hm; subst hm; exact ⟨h2, z32, h1, z32⟩
  ·cases hm
 ·split at hm
  ·rw [List.mem_singleton] at hm; subst hm; exact ⟨h3, z32, z32, z32⟩
  ·cases hm
theorem QT {t : Zo} {s : ShS} {own other : List Int} {O0 : List Ze} (h0 : ∀ m ∈ O0, m.Ok) (hs : s.Ok) (h2 : own.length = 32) (h3 : other.length = 32) : ∀ i, i ≤ s.n → ∀ m ∈ Y4 t s own other O0 i, m.Ok
 | 0, _ => h0
 | i + 1, hi => fun m hm => by
  simp only [Y4, List.mem_append] at hm
  rcases hm with hm | hm
  ·exact QT h0 hs h2 h3 i (by omega) m hm
  ·split at hm
   ·rw [List.mem_singleton] at hm; subst hm
    exact ⟨h2, h3, hs.point, (hs.g i (by omega)).hash⟩
   ·cases hm
theorem Z3c {t : Zo} {point own other : List Int} {a b : Int} : (Yt t point own other a b).length ≤ 2 := by
 unfold Yt; rw [List.length_append]; split <;> split <;> simp
theorem Z3d {A : List Int → Int × Int} {t : Zo} {s : ShS} (ht : t.Ok) (hs : s.Ok) (hn : s.n < 1000) (h : shB A t s = true) : WN t s := by
 obtain ⟨g1, g2, g3, g4, g5, g6, g7, _⟩ := Z5x.1 h
 obtain ⟨h1, h2, h3⟩ := Z9u s.n hn (fun j hj => (g5 j hj).1)
 have hf : 0 ≤ t.fee := by
  unfold Xf at g1
  simp only [Bool.and_eq_true, decide_eq_true_eq] at g1
  omega
 have ha := hs.a0
 refine ⟨by omega, hn, by omega, ?_, ?_⟩
 ·unfold Zj
  split
  ·have k1 := U4 (t := t) (s := s) (own := t.k0) (other := t.k1) (O0 := Yt t s.point t.k0 t.k1 (s.a0 - t.fee) s.a1) s.n
   have k2 := Z3c (t := t) (point := s.point) (own := t.k0) (other := t.k1) (a := s.a0 - t.fee) (b := s.a1)
   omega
  ·have k1 := U4 (t := t) (s := s) (own := t.k1) (other := t.k0) (O0 := Yt t s.point t.k1 t.k0 s.a1 (s.a0 - t.fee)) s.n
   have k2 := Z3c (t := t) (point := s.point) (own := t.k1) (other := t.k0) (a := s.a1) (b := s.a0 - t.fee)
   omega
 ·unfold Zj
  split
  ·exact QT (QS hs.point ht.k0 ht.k1) hs ht.k0 ht.k1 s.n (Nat.le_refl _)
  ·exact QT (QS hs.point ht.k1 ht.k0) hs ht.k1 ht.k0 s.n (Nat.le_refl _)
theorem ZkN (t : Zo) (num : Int) (L : List Ze)  :
  evF G0 20 28 [.agg t.c, .int .i64 num, .vrows 134 0 (Zt L) 0] ⟨0, []⟩ (Yc 0 (.ret (.tuple [.agg txZ, .int .i64 180])) 0 []) := by
 refine @Eq.mpr _ (True) (by kernel_rfl) ?_
 trivial
end Go.Tk
end
section
namespace Go.Tk
open IntKind (i64 u8 u32 u64 wrap)
def mxG : Y9 := fun args h K => ZH none h true 20 args fun a => match a with
 | [.agg [.arr .u8 32 fu, .int .i64 ix, .int .i64 ca, .int .i64 du, .int .i64 fe, .int .i64 de, .arr .u8 32 k0, .arr .u8 32 k1], .int .i64 num, .vrows 134 n f n'] => ∃ L, n' = n ∧ f = Zt L ∧ n < 1000 ∧ (n = 0 → K (.ret (.tuple [.agg txZ, .int .i64 180])) h) ∧ (n ≠ 0 → K (.ret (.tuple [.agg [.int .i64 num, .nslice ⟨h.next, 0, 0, 0, 0⟩ 130 1 1, .nslice ⟨h.next + 1, 0, 132, 0, 0⟩ 132 n n], .int .i64 0])) ⟨h.next + 2, (h.next, .flat (InS.c ⟨fu, ix, 1, Z5, Z5, Z5⟩)) :: (h.next + 1, .rows 132 n (Z8 (ZK L))) :: h.bs⟩)
 | _ => False
theorem ZhJ (args : List AV) (h : Z7) (K : KO) (hl : mxG args h K) : Zk PP 28 args h K := by
 refine ZB.fsumm (d := 20) (Zq _ _ _ _ _ hl fun a ha => ?_)
 split at ha
 ·obtain ⟨L, rfl, rfl, h1, h2, hK⟩ := ha
  rename_i num n
  rcases Nat.eq_zero_or_pos n with h0 | h0
  ·subst h0
   exact ⟨_, _, _, _, .evM Zu (ZkN ⟨_, _, _, _, _, _, _, _⟩ _ L), rfl, trivial, h2 rfl⟩
  ·exact ⟨_, _, _, _, .evM (Zhq _ _ _ _) (ZkF ⟨_, _, _, _, _, _, _, _⟩ _ L _ h1 (by omega)), rfl, ⟨by decide, .flat _ rfl, by decide, .rows _ _ _ (fun i _ => (ZK L i).plainC), trivial⟩, hK (by omega)⟩
 ·exact ha.elim
noncomputable def E96 (A : List Int → Int × Int) : Zd := ((G0.withP 15 (shF A)).withF 29 ouF).withF 28 mxG
theorem Z8o : (E96 ZS).Ok := Zd.withF_ok (Zd.withF_ok (Zd.withP_ok Zu ZhI) Zdg) ZhJ
theorem ZkO (A : List Int → Int × Int) (t : Zo) (s : ShS) (ht : t.Ok) (hn : s.n < 1000) (hb : shB A t s = false) :
  evF (E96 A) 20 9 [.agg t.c, .agg s.c] ⟨0, []⟩ (Yc 0 (.ret (.tuple [.agg txZ, .int .i64 2])) 0 []) := by
 refine @Eq.mpr _ (let q1 := t.fund;
 let q2 := t.index;
 let q3 := t.cap;
 let q4 := t.dust;
 let q5 := t.fee;
 let q6 := t.delay;
 let q7 := t.k0;
 let q8 := t.k1;
 let q9 := Zo.mk q1 q2 q3 q4 q5 q6 q7 q8;
 let q10 := s.num;
 let q11 := s.n;
 Zo.Ok q9 ∧
 ∃ (s_1 : ShS),
 let q23 := [s.a0, s.a1];
 let q24 := if shB A q9 s_1 = true then (0 : Int) else (2 : Int);
 ((s_1.num = q10 ∧ s_1.owner = s.owner ∧ s_1.point = s.point ∧ q23 = [s_1.a0, s_1.a1]) ∧ (q11 = q11 ∧ s_1.n = q11) ∧ ∀ (i : Nat), i < q11 → ZQ s.g i = ZD.c (s_1.g i)) ∧
 s_1.n < (1000 : Nat) ∧ Z0 (q24 != (0 : Int)) (Z0 (decide (q24 = (2 : Int))) True False) (∃ (s_2 : ShS), ((s_2.num = q10 ∧ s_2.owner = s.owner ∧ s_2.point = s.point ∧ q23 = [s_2.a0, s_2.a1]) ∧ (q11 = q11 ∧ s_2.n = q11) ∧ ∀ (i : Nat), i < q11 → ZQ s.g i = ZD.c (s_2.g i)) ∧ WN q9 s_2 ∧ ∀ (n : Nat) (L : List Ze), L = Zp (Zj q9 s_2) → n = List.length L → Z0 (decide (q10 = q10)) (q1 = q1 ∧ Z0 (decide (q2 = q2)) (Z0 (decide (q3 = q3)) (Z0 (decide (q4 = q4)) (Z0 (decide (q5 = q5)) (Z0 (decide (q6 = q6)) (q7 = q7 ∧ q8 = q8 ∧ Z0 (decide ((0 : Nat) + n ≤ n)) ((∀ (i : Nat), i < n → true = true) ∧ ∃ (L_1 : List Ze), n = n ∧ Wy (0 : Nat) (Zt L) = Zt L_1 ∧ n < (1000 : Nat) ∧ (n = (0 : Nat) → False) ∧ (n ≠ (0 : Nat) → Z0 (decide (q10 = (0 : Int))) False False)) False) False) False) False) False) False) False)) (by kernel_rfl) ?_
 conv => zeta
 try simp only [Zg]
 try simp only [Zl]
 try simp only [Zh]
 try simp only [Zm]
 try simp only [Zn]
 try simp only [Zf]
 try simp only [Int.toNat_natCast, Nat.zero_add, true_and, and_true, Nat.le_refl]
 have e0 : (Zo.mk t.fund t.index t.cap t.dust t.fee t.delay t.k0 t.k1) = t := rfl
 rw [e0]
 refine ⟨ht, s, ⟨⟨rfl, rfl, rfl, rfl⟩, rfl, fun _ _ => rfl⟩, hn, fun _ => by rw [hb]; rfl, fun k => ?_⟩
 have := Z38.2.1 k
 rw [hb] at this; cases this
theorem ZkP (A : List Int → Int × Int) (t : Zo) (s : ShS) (n : Nat) (L1 : List Ze) (ht : t.Ok) (hn : s.n < 1000) (hb : shB A t s = true) (ho : WN t s) (hL : L1 = Zp (Zj t s)) (hl : n = L1.length) (h0 : n = 0) :
  evF (E96 A) 20 9 [.agg t.c, .agg s.c] ⟨0, []⟩ (Yc 0 (.ret (.tuple [.agg txZ, .int .i64 180])) 0 []) := by
 refine @Eq.mpr _ (let q1 := t.fund;
 let q2 := t.index;
 let q3 := t.cap;
 let q4 := t.dust;
 let q5 := t.fee;
 let q6 := t.delay;
 let q7 := t.k0;
 let q8 := t.k1;
 let q9 := Zo.mk q1 q2 q3 q4 q5 q6 q7 q8;
 let q10 := s.num;
 let q11 := s.n;
 Zo.Ok q9 ∧
 ∃ (s_1 : ShS),
 let q23 := [s.a0, s.a1];
 let q24 := if shB A q9 s_1 = true then (0 : Int) else (2 : Int);
 ((s_1.num = q10 ∧ s_1.owner = s.owner ∧ s_1.point = s.point ∧ q23 = [s_1.a0, s_1.a1]) ∧ (q11 = q11 ∧ s_1.n = q11) ∧ ∀ (i : Nat), i < q11 → ZQ s.g i = ZD.c (s_1.g i)) ∧
 s_1.n < (1000 : Nat) ∧ Z0 (q24 != (0 : Int)) (Z0 (decide (q24 = (180 : Int))) True False) (∃ (s_2 : ShS), ((s_2.num = q10 ∧ s_2.owner = s.owner ∧ s_2.point = s.point ∧ q23 = [s_2.a0, s_2.a1]) ∧ (q11 = q11 ∧ s_2.n = q11) ∧ ∀ (i : Nat), i < q11 → ZQ s.g i = ZD.c (s_2.g i)) ∧ WN q9 s_2 ∧ ∀ (n : Nat) (L : List Ze), L = Zp (Zj q9 s_2) → n = List.length L → Z0 (decide (q10 = q10)) (q1 = q1 ∧ Z0 (decide (q2 = q2)) (Z0 (decide (q3 = q3)) (Z0 (decide (q4 = q4)) (Z0 (decide (q5 = q5)) (Z0 (decide (q6 = q6)) (q7 = q7 ∧ q8 = q8 ∧ Z0 (decide ((0 : Nat) + n ≤ n)) ((∀ (i : Nat), i < n → true = true) ∧ ∃ (L_1 : List Ze), n = n ∧ Wy (0 : Nat) (Zt L) = Zt L_1 ∧ n < (1000 : Nat) ∧ (n = (0 : Nat) → True) ∧ (n ≠ (0 : Nat) → Z0 (decide (q10 = (0 : Int))) False False)) False) False) False) False) False) False) False)) (by kernel_rfl) ?_
 conv => zeta
 try simp only [Zg]
 try simp only [Zl]
 try simp only [Zh]
 try simp only [Zm]
 try simp only [Zn]
 try simp only [Zf]
 try simp only [Int.toNat_natCast, Nat.zero_add, true_and, and_true, Nat.le_refl]
 have e0 : (Zo.mk t.fund t.index t.cap t.dust t.fee t.delay t.k0 t.k1) = t := rfl
 rw [e0]
 refine ⟨ht, s, ⟨⟨rfl, rfl, rfl, rfl⟩, rfl, fun _ _ => rfl⟩, hn, fun k => ?_, fun _ => ⟨s, ⟨⟨rfl, rfl, rfl, rfl⟩, rfl, fun _ _ => rfl⟩, ho, fun m L hL' hm => ?_⟩⟩
 ·rw [Z38.1, hb] at k; cases k
 ·have e1 : L = L1 := hL'.trans hL.symm
  subst e1
  have e2 : m = n := hm.trans hl.symm
  subst e2
  have hlen := ho.len
  rw [hl, hL, ZU] at h0
  have h20 : m < 1000 := by rw [hl, hL, ZU]; omega
  refine ⟨fun _ _ => trivial, L, rfl, h20, fun _ => ?_, fun h => ?_⟩
  ·first | trivial | rfl
  ·exfalso; rw [hl, hL, ZU] at h; exact h h0
theorem ZkQ (A : List Int → Int × Int) (t : Zo) (s : ShS) (n : Nat) (L1 : List Ze) (ht : t.Ok) (hn : s.n < 1000) (hb : shB A t s = true) (ho : WN t s) (hL : L1 = Zp (Zj t s)) (hl : n = L1.length) (h0 : n ≠ 0) :
  evF (E96 A) 20 9 [.agg t.c, .agg s.c] ⟨0, []⟩ (Yc 0 (.ret (.tuple [.agg [.int .i64 s.num, .nslice ⟨0, 0, 0, 0, 0⟩ 130 1 1, .nslice ⟨1, 0, 132, 0, 0⟩ 132 n n], .int .i64 0])) 2 [(0, .flat (InS.c (X9 t))), (1, .rows 132 n (Z8 (ZK L1)))]) := by
 refine @Eq.mpr _ (let q1 := t.fund;
 let q2 := t.index;
 let q3 := t.cap;
 let q4 := t.dust;
 let q5 := t.fee;
 let q6 := t.delay;
 let q7 := t.k0;
 let q8 := t.k1;
 let q9 := Zo.mk q1 q2 q3 q4 q5 q6 q7 q8;
 let q10 := s.num;
 let q11 := s.n;
 let q12 := Z0 (decide ((0 : Int) = q10)) False False;
 let q13 := decide (q10 = q10);
 let q14 := InS.mk q1 q2 (1 : Int) Z5 Z5 Z5;
 let q15 := X9 t;
 Zo.Ok q9 ∧
 ∃ (s_1 : ShS),
 let q31 := [s.a0, s.a1];
 ((s_1.num = q10 ∧ s_1.owner = s.owner ∧ s_1.point = s.point ∧ q31 = [s_1.a0, s_1.a1]) ∧ (q11 = q11 ∧ s_1.n = q11) ∧ ∀ (i : Nat), i < q11 → ZQ s.g i = ZD.c (s_1.g i)) ∧
 s_1.n < (1000 : Nat) ∧
 Z0 ((if shB A q9 s_1 = true then (0 : Int) else (2 : Int)) != (0 : Int)) q12
 (∃ (s_2 : ShS),
 ((s_2.num = q10 ∧ s_2.owner = s.owner ∧ s_2.point = s.point ∧ q31 = [s_2.a0, s_2.a1]) ∧ (q11 = q11 ∧ s_2.n = q11) ∧ ∀ (i : Nat), i < q11 → ZQ s.g i = ZD.c (s_2.g i)) ∧
 WN q9 s_2 ∧
 ∀ (n_1 : Nat),
 let q33 := decide (n_1 = n);
 ∀ (L : List Ze), L = Zp (Zj q9 s_2) → n_1 = List.length L → Z0 q13 (q1 = q1 ∧ Z0 (decide (q2 = q2)) (Z0 (decide (q3 = q3)) (Z0 (decide (q4 = q4)) (Z0 (decide (q5 = q5)) (Z0 (decide (q6 = q6)) (q7 = q7 ∧ q8 = q8 ∧ Z0 (decide ((0 : Nat) + n_1 ≤ n_1)) ((∀ (i : Nat), i < n_1 → true = true) ∧ ∃ (L_1 : List Ze), n_1 = n_1 ∧ Wy (0 : Nat) (Zt L) = Zt L_1 ∧ n_1 < (1000 : Nat) ∧ (n_1 = (0 : Nat) → q12) ∧ (n_1 ≠ (0 : Nat) → Z0 q13 (Z0 q33 (Z0 (decide (n ≤ n_1)) (q14.name = q15.name ∧ Z0 (decide (q14.index = q15.index)) (q14.tag = q15.tag ∧ q14.also = q15.also ∧ q14.secret = q15.secret ∧ Z0 q33 (Zc (0 : Nat) [((1 : Nat), (5 : Nat)), ((0 : Nat), (4 : Nat))] n (Z8 (ZK L1)) (Z8 (ZK L_1)) ∧ True) False) False) False) False) False)) False) False) False) False) False) False) False)) (by kernel_rfl) ?_
 conv => zeta
 try simp only [Zg]
 try simp only [Zl]
 try simp only [Zh]
 try simp only [Zm]
 try simp only [Zn]
 try simp only [Zf]
 try simp only [Int.toNat_natCast, Nat.zero_add, true_and, and_true, Nat.le_refl]
 have e0 : (Zo.mk t.fund t.index t.cap t.dust t.fee t.delay t.k0 t.k1) = t := rfl
 rw [e0]
 refine ⟨ht, s, ⟨⟨rfl, rfl, rfl, rfl⟩, rfl, fun _ _ => rfl⟩, hn, fun k => ?_, fun _ => ⟨s, ⟨⟨rfl, rfl, rfl, rfl⟩, rfl, fun _ _ => rfl⟩, ho, fun m L hL' hm => ?_⟩⟩
 ·rw [Z38.1, hb] at k; cases k
 ·have e1 : L = L1 := hL'.trans hL.symm
  subst e1
  have e2 : m = n := hm.trans hl.symm
  subst e2
  have hlen := ho.len
  rw [hl, hL, ZU] at h0
  have h20 : m < 1000 := by rw [hl, hL, ZU]; omega
  refine ⟨fun _ _ => trivial, L, rfl, h20, fun h => ?_, fun _ => ⟨rfl, Nat.le_refl _, rfl, rfl, rfl, rfl, rfl, rfl, Y7 fun _ _ => rfl⟩⟩
  exfalso
  rw [hl, hL, ZU] at h
  exact h0 h
def coF (A : List Int → Int × Int) : Y9 := fun args h K => ZH none h true 20 args fun a => match a with
 | [.agg [.arr .u8 32 fu, .int .i64 ix, .int .i64 ca, .int .i64 du, .int .i64 fe, .int .i64 de, .arr .u8 32 k0, .arr .u8 32 k1], .agg l] => (Zo.Ok ⟨fu, ix, ca, du, fe, de, k0, k1⟩) ∧ ∃ s, Z1y l s ∧ s.Ok ∧ s.n < 1000 ∧ (shB A ⟨fu, ix, ca, du, fe, de, k0, k1⟩ s = false → K (.ret (.tuple [.agg txZ, .int .i64 2])) h) ∧
  (shB A ⟨fu, ix, ca, du, fe, de, k0, k1⟩ s = true → ((Zj ⟨fu, ix, ca, du, fe, de, k0, k1⟩ s).length = 0 → K (.ret (.tuple [.agg txZ, .int .i64 180])) h) ∧
   ∀ n L, L = Zp (Zj ⟨fu, ix, ca, du, fe, de, k0, k1⟩ s) → n = L.length → n ≠ 0 → K (.ret (.tuple [.agg [.int .i64 s.num, .nslice ⟨h.next, 0, 0, 0, 0⟩ 130 1 1, .nslice ⟨h.next + 1, 0, 132, 0, 0⟩ 132 n n], .int .i64 0])) ⟨h.next + 2, (h.next, .flat (InS.c ⟨fu, ix, 1, Z5, Z5, Z5⟩)) :: (h.next + 1, .rows 132 n (Z8 (ZK L))) :: h.bs⟩)
 | _ => False
theorem Z3e (args : List AV) (h : Z7) (K : KO) (hl : coF ZS args h K) : Zk PP 9 args h K := by
 refine ZB.fsumm (d := 20) (Zq _ _ _ _ _ hl fun a ha => ?_)
 split at ha
 ·rename_i fu ix ca du fe de k0 k1 l
  obtain ⟨ht, s, hs, hsok, hn, h1, h2⟩ := ha
  cases hc : shB ZS ⟨fu, ix, ca, du, fe, de, k0, k1⟩ s with
  | false => exact ⟨_, _, _, _, (ZB.evM Z8o (ZkO _ ⟨_, _, _, _, _, _, _, _⟩ s ht hn hc)).conv (fun E r hr => hr.head (fun _ hc => hc) (fun _ hc => hc.head (fun _ hc => hs.rel hc) (fun _ hc => hc))), rfl, trivial, h1 hc⟩
  | true =>
   obtain ⟨h2, h3⟩ := h2 hc
   have ho := Z3d ht hsok hn hc
   rcases Nat.eq_zero_or_pos (Zj ⟨fu, ix, ca, du, fe, de, k0, k1⟩ s).length with h0 | h0
   ·exact ⟨_, _, _, _, (ZB.evM Z8o (ZkP _ ⟨_, _, _, _, _, _, _, _⟩ s _ _ ht hn hc ho rfl rfl (by rw [ZU]; exact h0))).conv (fun E r hr => hr.head (fun _ hc => hc) (fun _ hc => hc.head (fun _ hc => hs.rel hc) (fun _ hc => hc))), rfl, trivial, h2 h0⟩
   ·have hn0 : (Zp (Zj ⟨fu, ix, ca, du, fe, de, k0, k1⟩ s)).length ≠ 0 := by rw [ZU]; omega
    exact ⟨_, _, _, _, (ZB.evM Z8o (ZkQ _ ⟨_, _, _, _, _, _, _, _⟩ s _ _ ht hn hc ho rfl rfl hn0)).conv (fun E r hr => hr.head (fun _ hc => hc) (fun _ hc => hc.head (fun _ hc => hs.rel hc) (fun _ hc => hc))), rfl, ⟨by decide, .flat _ rfl, by decide, .rows _ _ _ (fun i _ => (ZK _ i).plainC), trivial⟩, h3 _ _ rfl rfl hn0⟩
 ·exact ha.elim
end Go.Tk
end
section
namespace Go.Tk
open IntKind (i64 u8 u32 u64 wrap)
def plK (L : List Ze) : Nat → AV := fun j => .int .i64 (L.getD j ZI).what
def plV : Nat → AV := fun j => .int .i64 ((j + 1 : Nat) : Int)
def Zdh (L : List Ze) (n : Nat) (sh : List AV) (i : Nat) : St := ⟨59, [(27, .int .i64 i), (26, .int .i64 n), (25, .nslice ⟨2, 0, 134, 0, 0⟩ 134 n n), (8, .map (some 0)), (3, .ptr (some ⟨1, 0, 0, 0, 0⟩)), (4, .nilslice)], ⟨3, [(0, .fmap i (plK L) plV), (1, .flat sh), (2, .rows 134 n (Zt L))]⟩, []⟩
def Z5y (L : List Ze) (sh : List AV) (i : Nat) : St := ⟨59, [(8, .map (some 0)), (3, .ptr (some ⟨1, 0, 0, 0, 0⟩)), (4, .nilslice)], ⟨2, [(0, .fmap i (plK L) plV), (1, .flat sh)]⟩, []⟩
theorem ZkR (a b : Int)  :
  Z8H PP 3 (.int .i64 a) (.int .i64 b) := by
 refine @Eq.mpr _ ((a == b) = ZP (AV.int i64 a) (AV.int i64 b)) (by kernel_rfl) ?_
 try simp only [Zg]
 try simp only [Zl]
 try simp only [Zh]
 try simp only [Zm]
 try simp only [Zn]
 try simp only [Zf]
 try simp only [Int.toNat_natCast, Nat.zero_add, true_and, and_true, Nat.le_refl]
 simp [ZP, Ve]
theorem Z5z (x : Int) (f : Nat → Int) (i : Nat) : Xo PP 3 (.int .i64 x) i (fun j => .int .i64 (f j)) := ⟨fun _ _ => ZkR _ _⟩
theorem Z8p {k : Nat} {τ : Ren} {n : Nat} {L : List Ze} {kf vf : Nat → AV} (h : ∀ j, j < n → kf j = plK L j ∧ vf j = plV j) : YR k τ n (plK L) plV kf vf := ⟨fun j hj => by
 obtain ⟨h1, h2⟩ := h j hj
 rw [h1, h2]
 unfold plK plV
 constructor <;> simp [eqV, Zw, Z0]⟩
theorem ZkS (L : List Ze) (n i : Nat) (s : ShS) (Z1 Z2 : Prop) (hn : n < 1000) (hi : i ≤ n) (hd : i < n → ∀ j, j < i → (L.getD j ZI).what ≠ (L.getD i ZI).what) (h1 : i < n → Z1) (h2 : i = n → Z2) :
  ZF G0 20 10 0 0 (Zdh L n s.c i) (rdM 0 0 9 (Zdh L n s.c (i + 1)) (Z5y L s.c i) (Z5y L s.c i) (Z5y L s.c i) Z1 Z2 False False) := by
 refine @Eq.mpr _ (let q1 := (0 : Nat) + Int.toNat (↑i : Int);
 let q2 := AV.int i64 (List.getD L q1 ZI).what;
 let q3 := plK L;
 let q4 := ZJ (fun (i : Nat) => ZP q2 (AV.int i64 (List.getD L i ZI).what)) i;
 let q5 := wrap i64 ((↑i : Int) + (1 : Int));
 let q6 := i + (1 : Nat);
 let q7 := decide (q5 = (↑q6 : Int));
 let q8 := decide ((↑n : Int) = (↑n : Int));
 let q9 := decide (n = n);
 let q10 := decide (n ≤ n);
 let q11 := [((1 : Nat), (1 : Nat)), ((0 : Nat), (0 : Nat)), ((2 : Nat), (2 : Nat))];
 let q12 := AV.int i64 q5;
 let q13 := decide (s.num = s.num);
 let q14 := decide (s.owner = s.owner);
 let q15 := s.point = s.point;
 let q16 := [s.a0, s.a1];
 let q17 := q16 = q16;
 let q18 := decide (s.n = s.n);
 let q19 := ZQ s.g;
 let q20 := q19 = q19;
 let q21 := Z0 q13 (Z0 q14 (q15 ∧ q17 ∧ Z0 q18 (q20 ∧ Z0 q18 (Z0 q9 (Zc (0 : Nat) q11 n (Zt L) (Zt L) ∧ Z1) False) False) False) False) False;
 Z0 (decide ((↑i : Int) < (↑n : Int))) (Z0 (decide ((0 : Int) ≤ (↑i : Int) ∧ (↑i : Int) < (↑n : Int))) (Z0 (decide (q1 < n)) (Xo PP (3 : Nat) q2 i q3 ∧ Z0 (Nat.blt q4 i) (Z0 q7 (Z0 q8 (Z0 q9 (Z0 q10 (Z0 (decide (i = q6)) (YR (0 : Nat) q11 q6 q3 plV q3 (U7 plV q4 q12) ∧ q21) False) False) False) False) False) (Z0 q7 (Z0 q8 (Z0 q9 (Z0 q10 (Z0 (decide (q6 = q6)) (YR (0 : Nat) q11 q6 q3 plV (U7 q3 i q2) (U7 plV i q12) ∧ q21) False) False) False) False) False)) False) False) (Z0 (decide (i = i)) (YR (0 : Nat) [((1 : Nat), (1 : Nat)), ((0 : Nat), (0 : Nat))] i q3 plV q3 plV ∧ Z0 q13 (Z0 q14 (q15 ∧ q17 ∧ Z0 q18 (q20 ∧ Z0 q18 Z2 False) False) False) False) False)) (by kernel_rfl) ?_
 conv => zeta
 try simp only [Zg]
 try simp only [Zl]
 try simp only [Zh]
 try simp only [Zm]
 try simp only [Zn]
 try simp only [Zf]
 try simp only [Int.toNat_natCast, Nat.zero_add, true_and, and_true, Nat.le_refl]
 refine ⟨fun hc => ?_, fun hc => ⟨Z8p fun _ _ => ⟨rfl, rfl⟩, h2 (by omega)⟩⟩
 have hlt : i < n := by omega
 have hw : i64.wrap ((i : Int) + 1) = ((i + 1 : Nat) : Int) := by rw [w64 (by omega)]; omega
 have hq : ZJ (fun j => ZP (.int .i64 (L.getD i ZI).what) (.int .i64 (L.getD j ZI).what)) i = i := Uk fun j hj => by
  have := hd hlt j hj
  simp only [ZP, Ve, decide_true, Bool.true_and, beq_eq_false_iff_ne, ne_eq]
  exact fun h => this h.symm
 refine ⟨by omega, by omega, Z5z _ _ _, fun hb => ?_, fun _ => ⟨hw, Z8p fun j hj => ?_, ZN fun _ _ => rfl, h1 hlt⟩⟩
 ·have hb : Nat.blt (ZJ (fun j => ZP (.int .i64 (L.getD i ZI).what) (.int .i64 (L.getD j ZI).what)) i) i = true := hb
  rw [hq] at hb
  have := Z0S hb
  omega
 ·rw [hw]
  unfold U7
  rcases Nat.lt_or_ge j i with h | h
  ·rw [Zv (by omega)]; exact ⟨rfl, rfl⟩
  ·have e : j = i := by omega
   subst e
   rw [Nat.beq_refl]
   exact ⟨rfl, rfl⟩
end Go.Tk
end
section
namespace Go.Tk
open IntKind (i64 u8 u32 u64 wrap)
structure Xh (L : List Ze) (n : Nat) : Prop where
 ne : L.Pairwise fun a b => a.what ≠ b.what
 lo : ∀ m ∈ L, -2 ≤ m.what ∧ m.what < n
theorem Z1n {t : Zo} {point own other : List Int} {a b : Int} : Xh (Yt t point own other a b) 0 := by
 unfold Yt
 constructor
 ·split <;> split <;> simp
 ·intro m hm
  rw [List.mem_append] at hm
  rcases hm with hm | hm <;> split at hm <;> simp at hm <;> subst hm <;> simp
theorem UF {t : Zo} {s : ShS} {own other : List Int} {O0 : List Ze} (h : Xh O0 0) : ∀ i, Xh (Y4 t s own other O0 i) i
 | 0 => h
 | i + 1 => by
  obtain ⟨h1, h2⟩ := UF (t := t) (s := s) (own := own) (other := other) h i
  simp only [Y4]
  split
  ·constructor
   ·rw [List.pairwise_append]
    refine ⟨h1, by simp, fun a ha b hb => ?_⟩
    rw [List.mem_singleton] at hb
    subst hb
    have := (h2 a ha).2
    show a.what ≠ (i : Int)
    omega
   ·intro m hm
    rw [List.mem_append, List.mem_singleton] at hm
    rcases hm with hm | hm
    ·have := h2 m hm; omega
    ·subst hm
     show -2 ≤ (i : Int) ∧ (i : Int) < _
     omega
  ·rw [List.append_nil]
   exact ⟨h1, fun m hm => by have := h2 m hm; omega⟩
theorem Z3f (t : Zo) (s : ShS) : Xh (Zj t s) s.n := by
 unfold Zj
 split
 ·exact UF Z1n _
 ·exact UF Z1n _
theorem Z3g {L : List Ze} {n : Nat} (h : Xh L n) : Xh (Zp L) n := by
 have hp : (Zp L).Perm L := by
  have := YZ (lt := ltM) (l := L) (acc := [])
  rwa [List.nil_append] at this
 exact ⟨(hp.pairwise_iff (fun h => Ne.symm h)).2 h.ne, fun m hm => h.lo m (hp.mem_iff.1 hm)⟩
theorem Xh.at {L : List Ze} {n : Nat} (h : Xh L n) {i j : Nat} (hj : j < i) (hi : i < L.length) : (L.getD j ZI).what ≠ (L.getD i ZI).what := by
 have := (List.pairwise_iff_getElem.1 h.ne) j i (by omega) hi hj
 rw [List.getD_eq_getElem?_getD, List.getD_eq_getElem?_getD, List.getElem?_eq_getElem hi, List.getElem?_eq_getElem (by omega)]
 exact this
def plN (L : List Ze) (w : Int) : Nat → Int
 | 0 => -1
 | i + 1 => if (L.getD i ZI).what = w then (i : Int) else plN L w i
theorem Wu (L : List Ze) (w : Int) : ∀ i, (plN L w i = -1 ∧ ∀ j, j < i → (L.getD j ZI).what ≠ w) ∨ ∃ j, j < i ∧ (L.getD j ZI).what = w ∧ plN L w i = j
 | 0 => .inl ⟨rfl, fun j hj => absurd hj (Nat.not_lt_zero j)⟩
 | i + 1 => by
  unfold plN
  by_cases h : (L.getD i ZI).what = w
  ·rw [if_pos h]; exact .inr ⟨i, Nat.lt_succ_self _, h, rfl⟩
  ·rw [if_neg h]
   rcases Wu L w i with ⟨h1, h2⟩ | ⟨j, h1, h2, h3⟩
   ·refine .inl ⟨h1, fun j hj => ?_⟩
    rcases Nat.lt_or_ge j i with h0 | h0
    ·exact h2 j h0
    ·have e : j = i := by omega
     rw [e]; exact h
   ·exact .inr ⟨j, by omega, h2, h3⟩
def plF (L : List Ze) (w : Int) (n : Nat) : Nat := ZJ (fun j => ZP (.int .i64 w) (plK L j)) n
theorem Zdi {L : List Ze} {w : Int} {j : Nat} : ZP (.int .i64 w) (plK L j) = decide (w = (L.getD j ZI).what) := by
 unfold plK
 rw [Bool.eq_iff_iff]
 simp [ZP, Ve]
theorem Z8q {L : List Ze} {w : Int} {n k : Nat} (h : Xh L k) (hn : n = L.length) (hl : plF L w n < n) : plN L w n = (plF L w n : Int) := by
 unfold plF at *
 rcases Wg (fun j => ZP (.int .i64 w) (plK L j)) n with ⟨h1, _⟩ | ⟨_, h2, _⟩
 ·omega
 ·rw [Zdi] at h2
  have h2 := of_decide_eq_true h2
  rcases Wu L w n with ⟨_, h4⟩ | ⟨j, h4, h5, h6⟩
  ·exact absurd h2.symm (h4 _ hl)
  ·rw [h6]
   rcases Nat.lt_trichotomy j (ZJ (fun j => ZP (.int .i64 w) (plK L j)) n) with g | g | g
   ·exact absurd (h5.trans h2) (h.at g (by omega))
   ·rw [g]
   ·exact absurd (h2.symm.trans h5.symm) (h.at g (by omega))
theorem Z8r {L : List Ze} {w : Int} {n : Nat} (hl : ¬ plF L w n < n) : plN L w n = -1 := by
 unfold plF at *
 rcases Wg (fun j => ZP (.int .i64 w) (plK L j)) n with ⟨_, h1⟩ | ⟨h2, _⟩
 ·rcases Wu L w n with ⟨h4, _⟩ | ⟨j, h4, h5, h6⟩
  ·exact h4
  ·have := h1 j h4
   rw [Zdi] at this
   exact absurd h5.symm (of_decide_eq_false this)
 ·exact absurd h2 hl
end Go.Tk
end
section
namespace Go.Tk
open IntKind (i64 u8 u32 u64 wrap)
def W7 (s : ShS) : Nat → Int
 | 0 => s.a0 + s.a1
 | i + 1 => W7 s i + (s.g i).amount
def Z3h (g : Nat → ZD) (i k : Nat) : Bool := decide ((g k).frm = (g i).frm) && decide ((g k).id = (g i).id)
theorem Zdj (g : Nat → ZD) (i k : Nat) : ZP (Wn (g i)) (Wn (g k)) = Z3h g i k := by
 unfold Wn Z3h
 rw [Bool.eq_iff_iff]
 simp [ZP, VT, Ve]
 constructor
 ·rintro ⟨h1, h2⟩; exact ⟨h1.symm, h2.symm⟩
 ·rintro ⟨h1, h2⟩; exact ⟨h1.symm, h2.symm⟩
theorem Z6S (g : Nat → ZD) (i : Nat) : Z6Q g i = i ↔ ∀ k, k < i → Z3h g i k = false := by
 unfold Z6Q
 constructor
 ·intro h k hk
  rcases Wg (fun j => ZP (Wn (g i)) (Wn (g j))) i with ⟨_, h2⟩ | ⟨h2, _⟩
  ·rw [← Zdj]; exact h2 k hk
  ·omega
 ·intro h
  exact Uk fun j hj => by rw [Zdj]; exact h j hj
structure ZjX (t : Zo) (s : ShS) (i : Nat) : Prop where
 p : Xn (s.g i) = true
 sum : W7 s i ≤ t.cap
 dup : ∀ k, k < i → Z3h s.g i k = false
theorem VN {p : ZD} (h : Xn p = true) : 0 < p.amount ∧ p.amount ≤ 1125899906842624 ∧ (p.frm = 0 ∨ p.frm = 1) := by
 unfold Xn at h
 simp only [Bool.and_eq_true, decide_eq_true_eq] at h
 omega
theorem QU (s : ShS) : ∀ {i n : Nat}, i ≤ n → (∀ j, j < n → Xn (s.g j) = true) → W7 s i ≤ W7 s n
 | i, 0, h, _ => by
  have : i = 0 := by omega
  subst this; exact Int.le_refl _
 | i, n + 1, h, hp => by
  rcases Nat.lt_or_ge n i with h1 | h1
  ·have : i = n + 1 := by omega
   subst this; exact Int.le_refl _
  ·have := QU s h1 (fun j hj => hp j (by omega))
   have h2 := VN (hp n (by omega))
   simp only [W7]
   omega
theorem Z1N (s : ShS) : ∀ n, (shX s.a0 s.a1 s.g n).sum = W7 s n
 | 0 => by simp [shX, W7]
 | n + 1 => by
  rw [Z6R, List.sum_append, Z1N s n]
  simp [W7]
theorem Zfz (a0 a1 : Int) (g : Nat → ZD) (n : Nat) : (∀ j, j < n + 2 → Yb 1125899906842624 (shX a0 a1 g n) j = false) ↔ (0 ≤ a0 ∧ a0 ≤ 1125899906842624) ∧ (0 ≤ a1 ∧ a1 ≤ 1125899906842624) ∧ ∀ i, i < n → (0 ≤ (g i).amount ∧ (g i).amount ≤ 1125899906842624) := by
 have e : ∀ j, Yb 1125899906842624 (shX a0 a1 g n) (j + 2) = W1 1125899906842624 (((List.range n).map fun j => (g j).amount).getD j 0) := fun j => by
  unfold Yb shX; simp
 have e0 : Yb 1125899906842624 (shX a0 a1 g n) 0 = W1 1125899906842624 a0 := by unfold Yb shX; simp
 have e1 : Yb 1125899906842624 (shX a0 a1 g n) 1 = W1 1125899906842624 a1 := by unfold Yb shX; simp
 have ov : ∀ x, W1 1125899906842624 x = false ↔ 0 ≤ x ∧ x ≤ 1125899906842624 := fun x => by
  unfold W1; rw [decide_eq_false_iff_not]; omega
 have eg : ∀ j, j < n → ((List.range n).map fun j => (g j).amount).getD j 0 = (g j).amount := fun j hj => by
  simp [List.getD_eq_getElem?_getD, hj]
 constructor
 ·intro h
  refine ⟨(ov _).1 (e0 ▸ h 0 (by omega)), (ov _).1 (e1 ▸ h 1 (by omega)), fun i hi => ?_⟩
  have := h (i + 2) (by omega)
  rw [e, eg i hi] at this
  exact (ov _).1 this
 ·rintro ⟨h1, h2, h3⟩ j hj
  match j with
  | 0 => rw [e0]; exact (ov _).2 h1
  | 1 => rw [e1]; exact (ov _).2 h2
  | j + 2 => rw [e, eg j (by omega)]; exact (ov _).2 (h3 j (by omega))
theorem Z9v (a0 a1 : Int) (g : Nat → ZD) (n : Nat) : allIn 1125899906842624 (shX a0 a1 g n) = true ↔ (0 ≤ a0 ∧ a0 ≤ 1125899906842624) ∧ (0 ≤ a1 ∧ a1 ≤ 1125899906842624) ∧ ∀ i, i < n → (0 ≤ (g i).amount ∧ (g i).amount ≤ 1125899906842624) := by
 rw [← Zfz]
 unfold allIn
 rw [Bool.not_eq_true', List.any_eq_false]
 simp only [List.mem_range, Z5w, Bool.not_eq_true]
theorem Wo {t : Zo} {s : ShS} : shB ZS t s = true ↔ Xf t = true ∧ (0 ≤ s.num ∧ s.num ≤ 2147483647) ∧ (0 ≤ s.owner ∧ s.owner ≤ 1) ∧ (0 ≤ s.a0 ∧ s.a0 ≤ 1125899906842624) ∧ (0 ≤ s.a1 ∧ s.a1 ≤ 1125899906842624) ∧ t.fee ≤ s.a0 ∧ (∀ i, i < s.n → ZjX t s i) ∧ W7 s s.n = t.cap ∧ (shM s.g s.n).getD 0 0 ≤ 8 ∧ (shM s.g s.n).getD 1 0 ≤ 8 := by
 rw [Z5x]
 constructor
 ·rintro ⟨h1, h2, h3, h4, h5, h6, h7, h8, h9⟩
  unfold ZS at h8 h9
  by_cases ha : allIn 1125899906842624 (shX s.a0 s.a1 s.g s.n) = true
  ·rw [if_pos ha] at h8 h9
   by_cases hb : (shX s.a0 s.a1 s.g s.n).sum ≤ 1125899906842624
   ·rw [if_pos hb] at h9
    obtain ⟨a1, a2, a3⟩ := (Z9v _ _ _ _).1 ha
    rw [Z1N] at h9
    have h9 : W7 s s.n = t.cap := h9
    exact ⟨h1, h2, h3, a1, a2, h4, fun i hi => ⟨(h5 i hi).1, by have := QU s (Nat.le_of_lt hi) (fun j hj => (h5 j hj).1); omega, (Z6S _ _).1 (h5 i hi).2⟩, h9, h6, h7⟩
   ·rw [if_neg hb] at h8; simp at h8
  ·rw [if_neg ha] at h8; simp at h8
 ·rintro ⟨h1, h2, h3, a1, a2, h4, h5, h9, h6, h7⟩
  have ha : allIn 1125899906842624 (shX s.a0 s.a1 s.g s.n) = true := (Z9v _ _ _ _).2 ⟨a1, a2, fun i hi => by have := VN (h5 i hi).p; omega⟩
  have hc : t.cap ≤ 1125899906842624 := by
   unfold Xf at h1
   simp only [Bool.and_eq_true, decide_eq_true_eq] at h1
   omega
  have hb : (shX s.a0 s.a1 s.g s.n).sum ≤ 1125899906842624 := by rw [Z1N]; omega
  refine ⟨h1, h2, h3, h4, fun i hi => ⟨(h5 i hi).p, (Z6S _ _).2 (h5 i hi).dup⟩, h6, h7, ?_, ?_⟩
  ·unfold ZS; rw [if_pos ha, if_pos hb]
  ·unfold ZS; rw [if_pos ha, if_pos hb]; show (shX s.a0 s.a1 s.g s.n).sum = _; rw [Z1N, h9]
end Go.Tk
end
section
namespace Go.Tk
open IntKind (i64 u8 u32 u64 wrap)
theorem Z0t (l : List Int) : l.reverse.sum = l.sum := by
 induction l with
 | nil => rfl
 | cons x r ih => rw [List.reverse_cons, List.sum_append, ih]; simp; omega
theorem Z0u {α : Type} (f : Nat → α) (n : Nat) : (List.range n).map (fun i => f (n - 1 - i)) = ((List.range n).map f).reverse := by
 refine List.ext_getElem (by simp) fun k h1 h2 => ?_
 rw [List.getElem_reverse]
 simp
def shT (s : ShS) : ShS := ⟨s.num, s.owner, s.point, s.a0, s.a1, s.n, fun i => s.g (s.n - 1 - i)⟩
def amP (g : Nat → ZD) (n : Nat) : List Int := (List.range n).map fun i => (g i).amount
theorem Q0 (s : ShS) : ∀ n, W7 s n = s.a0 + s.a1 + (amP s.g n).sum
 | 0 => by simp [W7, amP]
 | n + 1 => by
  have e : amP s.g (n + 1) = amP s.g n ++ [(s.g n).amount] := by simp [amP, List.range_succ]
  rw [e, List.sum_append]
  simp only [W7]
  rw [Q0 s n]
  simp; omega
theorem Z8s (s : ShS) : W7 (shT s) s.n = W7 s s.n := by
 rw [Q0, Q0]
 have e : amP (shT s).g s.n = (amP s.g s.n).reverse := Z0u (fun i => (s.g i).amount) s.n
 rw [e, Z0t]; rfl
def Z0v (g : Nat → ZD) (a : Int) (n : Nat) : Nat := ((List.range n).map fun i => (g i).frm).count a
theorem Z4u (g : Nat → ZD) (a : Int) (n : Nat) : Z0v g a (n + 1) = Z0v g a n + if (g n).frm = a then 1 else 0 := by
 unfold Z0v
 rw [List.range_succ, List.map_append, List.count_append]
 congr 1
 simp only [List.map_cons, List.map_nil, List.count_singleton]
 by_cases h : (g n).frm = a
 ·rw [if_pos h, h]; simp
 ·rw [if_neg h]; simp [h]
theorem Z5A {g : Nat → ZD} : ∀ i, i < 1000 → (∀ j, j < i → Xn (g j) = true) → shM g i = [(Z0v g 0 i : Int), (Z0v g 1 i : Int)] ∧ Z0v g 0 i ≤ i ∧ Z0v g 1 i ≤ i
 | 0, _, _ => ⟨rfl, Nat.le_refl _, Nat.le_refl _⟩
 | i + 1, hi, h => by
  obtain ⟨h1, h2, h3⟩ := Z5A i (by omega) (fun j hj => h j (by omega))
  have hp := (VN (h i (by omega))).2.2
  simp only [shM, h1]
  rw [Z4u, Z4u]
  rcases hp with hp | hp <;> rw [hp]
  ·have e : i64.wrap ((Z0v g 0 i : Int) + 1) = (Z0v g 0 i : Int) + 1 := w64 (by omega)
   simp [e]; omega
  ·have e : i64.wrap ((Z0v g 1 i : Int) + 1) = (Z0v g 1 i : Int) + 1 := w64 (by omega)
   simp [e]; omega
theorem Q1 (s : ShS) (a : Int) : Z0v (shT s).g a s.n = Z0v s.g a s.n := by
 unfold Z0v
 have e : (List.range s.n).map (fun i => ((shT s).g i).frm) = ((List.range s.n).map fun i => (s.g i).frm).reverse := Z0u (fun i => (s.g i).frm) s.n
 rw [e, List.count_reverse]
theorem Z8t (g : Nat → ZD) (i k : Nat) : Z3h g i k = Z3h g k i := by
 unfold Z3h
 rw [Bool.eq_iff_iff]
 simp only [Bool.and_eq_true, decide_eq_true_eq]
 exact ⟨fun h => ⟨h.1.symm, h.2.symm⟩, fun h => ⟨h.1.symm, h.2.symm⟩⟩
theorem Zdk {t : Zo} {s : ShS} (hn : s.n < 1000) (h : shB ZS t s = true) : shB ZS t (shT s) = true := by
 obtain ⟨h1, h2, h3, h4, h5, h6, h7, h8, h9, h10⟩ := Wo.1 h
 have hp : ∀ i, i < s.n → Xn (s.g i) = true := fun i hi => (h7 i hi).p
 have hpT : ∀ i, i < s.n → Xn ((shT s).g i) = true := fun i hi => hp (s.n - 1 - i) (by omega)
 have hS : W7 (shT s) s.n = t.cap := by rw [Z8s, h8]
 obtain ⟨m1, _, _⟩ := Z5A (g := s.g) s.n hn hp
 obtain ⟨m2, _, _⟩ := Z5A (g := (shT s).g) s.n hn hpT
 rw [m1] at h9 h10
 have k9 : (shM (shT s).g (shT s).n).getD 0 0 ≤ 8 := by
  show (shM (shT s).g s.n).getD 0 0 ≤ 8
  rw [m2, Q1, Q1]; exact h9
 have k10 : (shM (shT s).g (shT s).n).getD 1 0 ≤ 8 := by
  show (shM (shT s).g s.n).getD 1 0 ≤ 8
  rw [m2, Q1, Q1]; exact h10
 refine Wo.2 ⟨h1, h2, h3, h4, h5, h6, fun i hi => ⟨hpT i hi, ?_, fun k hk => ?_⟩, hS, k9, k10⟩
 ·have hi : i < s.n := hi
  have := QU (shT s) (Nat.le_of_lt hi) hpT
  omega
 ·have hi : i < s.n := hi
  have := (h7 (s.n - 1 - k) (by omega)).dup (s.n - 1 - i) (by omega)
  rw [Z8t] at this
  exact this
theorem ZhK {s : ShS} (h : s.Ok) : (shT s).Ok := ⟨h.point, h.a0, fun i hi => h.g (s.n - 1 - i) (by have : i < s.n := hi; omega)⟩
def erM (m : Ze) : Ze := ⟨m.o, m.id, 0⟩
theorem Z6T (l : List Ze) : ∀ acc, (Yx ltM acc l).map erM = Yx ltM (acc.map erM) (l.map erM) := by
 have hi : ∀ x acc, (VI ltM x acc).map erM = VI ltM (erM x) (acc.map erM) := fun x acc => by
  induction acc with
  | nil => rfl
  | cons y r ih =>
   simp only [VI, List.map_cons]
   have e : ltM (erM x) (erM y) = ltM x y := rfl
   rw [e]
   split
   ·rfl
   ·rw [List.map_cons, ih]
 induction l with
 | nil => intro acc; rfl
 | cons x r ih => intro acc; simp only [Yx, List.map_cons]; rw [ih, hi]
theorem UG (t : Zo) (s : ShS) (own other : List Int) (O0 : List Ze) : ∀ n, Y4 t s own other O0 n = O0 ++ ((List.range n).map fun i => if t.dust ≤ (s.g i).amount then [W6 t s own other i] else []).flatten
 | 0 => by simp [Y4]
 | n + 1 => by
  simp only [Y4]
  rw [UG t s own other O0 n, List.range_succ, List.map_append, List.flatten_append, List.append_assoc]
  simp
theorem Z1o (t : Zo) (s : ShS) (own other : List Int) (O0 : List Ze) : ((Y4 t (shT s) own other O0 s.n).map erM).Perm ((Y4 t s own other O0 s.n).map erM) := by
 rw [UG, UG, List.map_append, List.map_append]
 refine List.Perm.append_left _ ?_
 rw [List.map_flatten, List.map_flatten, List.map_map, List.map_map]
 have e : (List.range s.n).map ((List.map erM) ∘ fun i => if t.dust ≤ ((shT s).g i).amount then [W6 t (shT s) own other i] else []) = ((List.range s.n).map ((List.map erM) ∘ fun i => if t.dust ≤ (s.g i).amount then [W6 t s own other i] else [])).reverse := by
  rw [← Z0u]
  refine List.map_congr_left fun i hi => ?_
  simp only [Function.comp]
  show List.map erM (if t.dust ≤ (s.g (s.n - 1 - i)).amount then _ else []) = _
  split <;> rfl
 rw [e]
 exact (List.reverse_perm _).flatten
theorem Z3i (t : Zo) (s : ShS) : ((Zj t (shT s)).map erM).Perm ((Zj t s).map erM) := by
 unfold Zj
 show (List.map erM (if s.owner = 0 then _ else _)).Perm _
 split
 ·exact Z1o t s _ _ _
 ·exact Z1o t s _ _ _
def Z6U (t : Zo) (point own other : List Int) (k a : Int) (h : List Int) (x id : Int) : Ze :=
 if k = 3 then ⟨⟨3, a, own, Z5, point, Z5, t.delay, 0⟩, 0, 0⟩ else if k = 1 then ⟨⟨1, a, other, Z5, Z5, Z5, 0, 0⟩, 0, 0⟩ else ⟨⟨k, a, own, other, point, h, t.delay, x⟩, id, 0⟩
theorem Z3j {t : Zo} {point own other : List Int} {a b : Int} : ∀ m ∈ Yt t point own other a b, erM m = Z6U t point own other m.o.kind m.o.amount m.o.hash m.o.expiry m.id := fun m hm => by
 unfold Yt at hm
 rw [List.mem_append] at hm
 rcases hm with hm | hm <;> split at hm <;> simp at hm <;> subst hm <;> rfl
theorem QV {t : Zo} {s : ShS} {own other : List Int} {O0 : List Ze} (h0 : ∀ m ∈ O0, erM m = Z6U t s.point own other m.o.kind m.o.amount m.o.hash m.o.expiry m.id) : ∀ i, ∀ m ∈ Y4 t s own other O0 i, erM m = Z6U t s.point own other m.o.kind m.o.amount m.o.hash m.o.expiry m.id
 | 0 => h0
 | i + 1 => fun m hm => by
  simp only [Y4, List.mem_append] at hm
  rcases hm with hm | hm
  ·exact QV h0 i m hm
  ·split at hm
   ·rw [List.mem_singleton] at hm; subst hm
    unfold Z6U erM W6
    split <;> rfl
   ·cases hm
theorem ZaR (t : Zo) (s : ShS) : ∃ own other, ∀ m ∈ Zj t s, erM m = Z6U t s.point own other m.o.kind m.o.amount m.o.hash m.o.expiry m.id := by
 unfold Zj
 split
 ·exact ⟨_, _, QV Z3j _⟩
 ·exact ⟨_, _, QV Z3j _⟩
theorem Z3k : ∀ {x y : List Int}, x.length = y.length → Bytes x → Bytes y → YA x = YA y → x = y
 | [], [], _, _, _, _ => rfl
 | [], b :: s, h, _, _, _ => by simp at h
 | a :: r, [], h, _, _, _ => by simp at h
 | a :: r, b :: s, h, hx, hy, he => by
  have h' : r.length = s.length := by simpa using h
  have h1 := Z0p r
  have h2 := Z0p s
  rw [← h'] at h2
  have ha := hx.h 0
  have hb := hy.h 0
  simp at ha hb
  have hu : ∀ z : Int, 0 ≤ z → z ≤ 255 → ((Wh z).toNat : Int) = z := fun z z1 z2 => by
   unfold Wh
   simp
   omega
  simp only [YA] at he
  rw [← h'] at he
  have ea : (Wh a).toNat = (Wh b).toNat := by
   generalize (Wh a).toNat = u at *
   generalize (Wh b).toNat = v at *
   generalize 256 ^ r.length = M at *
   rcases Nat.lt_trichotomy u v with g | g | g
   ·have : (u + 1) * M ≤ v * M := Nat.mul_le_mul_right _ g
    rw [Nat.add_mul, Nat.one_mul] at this; omega
   ·exact g
   ·have : (v + 1) * M ≤ u * M := Nat.mul_le_mul_right _ g
    rw [Nat.add_mul, Nat.one_mul] at this; omega
  have e1 := hu a ha.1 ha.2
  have e2 := hu b hb.1 hb.2
  have er : YA r = YA s := by rw [ea] at he; omega
  have hx' : Bytes r := ⟨fun i => by have := hx.h (i + 1); simpa using this⟩
  have hy' : Bytes s := ⟨fun i => by have := hy.h (i + 1); simpa using this⟩
  rw [Z3k h' hx' hy' er, show a = b by omega]
theorem ZaS {t : Zo} {s : ShS} (hok : ∀ m ∈ Zj t s, m.Okb) : (Zp (Zj t (shT s))).map erM = (Zp (Zj t s)).map erM := by
 unfold Zp
 rw [Z6T, Z6T]
 have p1 := YZ (lt := ltM) (l := (Zj t (shT s)).map erM) (acc := ([] : List Ze).map erM)
 have p2 := YZ (lt := ltM) (l := (Zj t s).map erM) (acc := ([] : List Ze).map erM)
 rw [List.map_nil, List.nil_append] at p1 p2
 refine UE (lt := ltM) ((p1.trans (Z3i t s)).trans p2.symm) (Ws Z5p .nil) (Ws Z5p .nil) fun a ha b hb h1 h2 => ?_
 obtain ⟨own, other, hk⟩ := ZaR t s
 have key : ∀ x, x ∈ Yx ltM (([] : List Ze).map erM) ((Zj t (shT s)).map erM) → ∃ m ∈ Zj t s, erM m = x := fun x hx => by
  have := (p1.trans (Z3i t s)).mem_iff.1 hx
  exact List.mem_map.1 this
 obtain ⟨m, hm, rfl⟩ := key a ha
 obtain ⟨m', hm', rfl⟩ := key b hb
 have o1 := hok m hm
 have o2 := hok m' hm'
 have h1 : ltM m m' = false := h1
 have h2 : ltM m' m = false := h2
 rw [hk m hm, hk m' hm']
 unfold ltM at h1 h2
 simp only [decide_eq_false_iff_not] at h1 h2
 have ev : YA m.o.hash = YA m'.o.hash → m.o.hash = m'.o.hash := fun h => Z3k (o1.ok.hash.trans o2.ok.hash.symm) o1.hb o2.hb h
 have e1 : m.o.amount = m'.o.amount := by omega
 have e2 : m.o.kind = m'.o.kind := by omega
 have e3 : m.o.expiry = m'.o.expiry := by omega
 have e4 : YA m.o.hash = YA m'.o.hash := by omega
 have e5 : m.id = m'.id := by omega
 rw [e1, e2, e3, ev e4, e5]
end Go.Tk
end
section
namespace Go.Tk
open IntKind (i64 u8 u32 u64 wrap)
def W9 (t : Zo) (s : ShS) : Int := if s.owner = 0 then s.a0 - t.fee else s.a1
def X7 (t : Zo) (s : ShS) : Int := if s.owner = 0 then s.a1 else s.a0 - t.fee
def Z8u (t : Zo) (s : ShS) : List Int := if s.owner = 0 then t.k0 else t.k1
def UH (t : Zo) (s : ShS) : List Int := if s.owner = 0 then t.k1 else t.k0
theorem Z3l (t : Zo) (s : ShS) : Zj t s = Y4 t s (Z8u t s) (UH t s) (Yt t s.point (Z8u t s) (UH t s) (W9 t s) (X7 t s)) s.n := by
 unfold Zj Z8u UH W9 X7
 by_cases h : s.owner = 0
 ·simp only [if_pos h]
 ·simp only [if_neg h]
def dz (d x : Int) : Int := if d ≤ x then x else 0
def amM (l : List Ze) : Int := (l.map fun m => m.o.amount).sum
theorem Z3m (l m : List Ze) : amM (l ++ m) = amM l + amM m := by unfold amM; rw [List.map_append, List.sum_append]
theorem Zdl {t : Zo} {point own other : List Int} {a b : Int} : amM (Yt t point own other a b) = dz t.dust a + dz t.dust b := by
 unfold Yt
 rw [Z3m]
 unfold dz
 split <;> split <;> simp [amM]
theorem Z6V {t : Zo} {s : ShS} {own other : List Int} {O0 : List Ze} : ∀ i, amM (Y4 t s own other O0 i) = amM O0 + ((List.range i).map fun j => dz t.dust (s.g j).amount).sum
 | 0 => by simp [Y4]
 | i + 1 => by
  simp only [Y4]
  rw [Z3m, Z6V i, List.range_succ, List.map_append, List.sum_append]
  unfold dz
  split <;> simp [amM, W6, *] <;> omega
theorem Zdm {l m : List Int} (h : l.Perm m) : l.sum = m.sum := by
 induction h with
 | nil => rfl
 | cons x _ ih => simp [ih]
 | swap x y l => simp; omega
 | trans _ _ h1 h2 => exact h1.trans h2
theorem Xx (l : List Ze) : (Zp l).Perm l := by
 have := YZ (lt := ltM) (l := l) (acc := [])
 rwa [List.nil_append] at this
theorem Zdn (l : List Ze) : amM (Zp l) = amM l := by
 unfold amM
 exact Zdm ((Xx l).map _)
theorem UI {t : Zo} {s : ShS} {own other : List Int} {O0 : List Ze} {m : Ze} : ∀ n, m ∈ Y4 t s own other O0 n ↔ m ∈ O0 ∨ ∃ i, i < n ∧ t.dust ≤ (s.g i).amount ∧ m = W6 t s own other i
 | 0 => by simp [Y4]
 | n + 1 => by
  simp only [Y4, List.mem_append, UI n]
  constructor
  ·rintro ((h | ⟨i, h1, h2, h3⟩) | h)
   ·exact .inl h
   ·exact .inr ⟨i, by omega, h2, h3⟩
   ·split at h
    ·rename_i hd
     exact .inr ⟨n, by omega, hd, by simpa using h⟩
    ·cases h
  ·rintro (h | ⟨i, h1, h2, h3⟩)
   ·exact .inl (.inl h)
   ·rcases Nat.lt_or_ge i n with h | h
    ·exact .inl (.inr ⟨i, h, h2, h3⟩)
    ·have e : i = n := by omega
     subst e
     rw [if_pos h2]
     exact .inr (by rw [h3]; simp)
theorem Z3n {t : Zo} {point own other : List Int} {a b : Int} {m : Ze} : m ∈ Yt t point own other a b ↔ (t.dust ≤ a ∧ m = ⟨⟨3, a, own, Z5, point, Z5, t.delay, 0⟩, 0, -1⟩) ∨ (t.dust ≤ b ∧ m = ⟨⟨1, b, other, Z5, Z5, Z5, 0, 0⟩, 0, -2⟩) := by
 unfold Yt
 rw [List.mem_append]
 split <;> split <;> simp [*]
theorem XC {t : Zo} {s : ShS} {m : Ze} : m ∈ Zj t s ↔ (t.dust ≤ W9 t s ∧ m = ⟨⟨3, W9 t s, Z8u t s, Z5, s.point, Z5, t.delay, 0⟩, 0, -1⟩) ∨ (t.dust ≤ X7 t s ∧ m = ⟨⟨1, X7 t s, UH t s, Z5, Z5, Z5, 0, 0⟩, 0, -2⟩) ∨ ∃ i, i < s.n ∧ t.dust ≤ (s.g i).amount ∧ m = W6 t s (Z8u t s) (UH t s) i := by
 rw [Z3l, UI, Z3n, or_assoc]
theorem ZfA {L : List Ze} {w : Int} : plN L w L.length < 0 ↔ ∀ m ∈ L, m.what ≠ w := by
 rcases Wu L w L.length with ⟨h1, h2⟩ | ⟨j, h1, h2, h3⟩
 ·constructor
  ·intro _ m hm
   obtain ⟨j, hj, rfl⟩ := List.getElem_of_mem hm
   have := h2 j hj
   rwa [List.getD_eq_getElem?_getD, List.getElem?_eq_getElem hj] at this
  ·intro _; omega
 ·constructor
  ·intro h; omega
  ·intro h
   rw [List.getD_eq_getElem?_getD, List.getElem?_eq_getElem h1] at h2
   exact absurd h2 (h _ (List.getElem_mem h1))
theorem Z5B {t : Zo} {s : ShS} {w : Int} : plN (Zp (Zj t s)) w (Zp (Zj t s)).length < 0 ↔ ∀ m ∈ Zj t s, m.what ≠ w := by
 rw [ZfA]
 exact ⟨fun h m hm => h m ((Xx _).mem_iff.2 hm), fun h m hm => h m ((Xx _).mem_iff.1 hm)⟩
theorem ZfB {t : Zo} {s : ShS} : plN (Zp (Zj t s)) (-1) (Zp (Zj t s)).length < 0 ↔ ¬ t.dust ≤ W9 t s := by
 rw [Z5B]
 constructor
 ·intro h hd
  exact h _ (XC.2 (.inl ⟨hd, rfl⟩)) rfl
 ·intro h m hm
  rcases XC.1 hm with ⟨h1, _⟩ | ⟨_, rfl⟩ | ⟨i, _, _, rfl⟩
  ·exact absurd h1 h
  ·show (-2 : Int) ≠ -1; decide
  ·show (i : Int) ≠ -1; omega
theorem ZfC {t : Zo} {s : ShS} : plN (Zp (Zj t s)) (-2) (Zp (Zj t s)).length < 0 ↔ ¬ t.dust ≤ X7 t s := by
 rw [Z5B]
 constructor
 ·intro h hd
  exact h _ (XC.2 (.inr (.inl ⟨hd, rfl⟩))) rfl
 ·intro h m hm
  rcases XC.1 hm with ⟨_, rfl⟩ | ⟨h1, _⟩ | ⟨i, _, _, rfl⟩
  ·show (-1 : Int) ≠ -2; decide
  ·exact absurd h1 h
  ·show (i : Int) ≠ -2; omega
theorem ZhL {t : Zo} {s : ShS} {i : Nat} (hi : i < s.n) : plN (Zp (Zj t s)) (i : Int) (Zp (Zj t s)).length < 0 ↔ ¬ t.dust ≤ (s.g i).amount := by
 rw [Z5B]
 constructor
 ·intro h hd
  exact h _ (XC.2 (.inr (.inr ⟨i, hi, hd, rfl⟩))) rfl
 ·intro h m hm
  rcases XC.1 hm with ⟨_, rfl⟩ | ⟨_, rfl⟩ | ⟨j, _, h2, rfl⟩
  ·show (-1 : Int) ≠ i; omega
  ·show (-2 : Int) ≠ i; omega
  ·intro e
   have e : (j : Int) = i := e
   have e : j = i := by omega
   subst e
   exact h h2
def loB (d a b : Int) : List Int := (if d ≤ a then [] else [a]) ++ (if d ≤ b then [] else [b])
def loL (d : Int) (s : ShS) (base : List Int) : Nat → List Int
 | 0 => base
 | k + 1 => loL d s base k ++ (if d ≤ (s.g (s.n - 1 - k)).amount then [] else [(s.g (s.n - 1 - k)).amount])
theorem ZfD (d a b : Int) : (loB d a b).sum = (a - dz d a) + (b - dz d b) := by
 unfold loB dz
 split <;> split <;> simp
theorem Z9w (d : Int) (s : ShS) (base : List Int) : ∀ k, (loL d s base k).sum = base.sum + ((List.range k).map fun r => (s.g (s.n - 1 - r)).amount - dz d (s.g (s.n - 1 - r)).amount).sum
 | 0 => by simp [loL]
 | k + 1 => by
  simp only [loL]
  rw [List.sum_append, Z9w d s base k, List.range_succ, List.map_append, List.sum_append]
  unfold dz
  split <;> simp <;> omega
theorem ZfE (d a b : Int) : (loB d a b).length ≤ 2 := by unfold loB; rw [List.length_append]; split <;> split <;> simp
theorem Z9x (d : Int) (s : ShS) (base : List Int) : ∀ k, (loL d s base k).length ≤ base.length + k
 | 0 => by simp [loL]
 | k + 1 => by
  have := Z9x d s base k
  simp only [loL, List.length_append]
  split <;> simp <;> omega
theorem Z8v {d : Int} {s : ShS} {base : List Int} (hb : ∀ x ∈ base, 0 ≤ x ∧ x < d) (hp : ∀ i, i < s.n → 0 ≤ (s.g i).amount) : ∀ k, k ≤ s.n → ∀ x ∈ loL d s base k, 0 ≤ x ∧ x < d
 | 0, _ => hb
 | k + 1, hk => fun x hx => by
  simp only [loL, List.mem_append] at hx
  rcases hx with hx | hx
  ·exact Z8v hb hp k (by omega) x hx
  ·split at hx
   ·cases hx
   ·rw [List.mem_singleton] at hx
    subst hx
    exact ⟨hp _ (by omega), by omega⟩
theorem Zdo {d a b : Int} (ha : 0 ≤ a) (hb : 0 ≤ b) : ∀ x ∈ loB d a b, 0 ≤ x ∧ x < d := fun x hx => by
 unfold loB at hx
 rw [List.mem_append] at hx
 rcases hx with hx | hx <;> split at hx
 ·cases hx
 ·rw [List.mem_singleton] at hx; subst hx; omega
 ·cases hx
 ·rw [List.mem_singleton] at hx; subst hx; omega
theorem ZfF (f h : Nat → Int) (n : Nat) : ((List.range n).map fun r => f r - h r).sum = ((List.range n).map f).sum - ((List.range n).map h).sum := by
 induction n with
 | zero => simp
 | succ n ih => rw [List.range_succ, List.map_append, List.map_append, List.map_append, List.sum_append, List.sum_append, List.sum_append, ih]; simp; omega
theorem Z9y {t : Zo} {s : ShS} (h : shB ZS t s = true) : t.fee + amM (Zp (Zj t s)) + (loL t.dust s (loB t.dust (W9 t s) (X7 t s)) s.n).sum = t.cap := by
 obtain ⟨_, _, _, _, _, _, _, h8, _⟩ := Wo.1 h
 rw [Zdn, Z3l, Z6V, Zdl, Z9w, ZfD]
 have e1 : ((List.range s.n).map fun r => (s.g (s.n - 1 - r)).amount - dz t.dust (s.g (s.n - 1 - r)).amount).sum = ((List.range s.n).map fun j => (s.g j).amount - dz t.dust (s.g j).amount).sum := by
  rw [Z0u (fun j => (s.g j).amount - dz t.dust (s.g j).amount) s.n, Z0t]
 rw [e1, ZfF]
 rw [Q0] at h8
 have e2 : (amP s.g s.n).sum = ((List.range s.n).map fun j => (s.g j).amount).sum := rfl
 have e3 : W9 t s + X7 t s = s.a0 + s.a1 - t.fee := by
  unfold W9 X7
  split <;> omega
 omega
end Go.Tk
end
section
namespace Go.Tk
open IntKind (i64 u8 u32 u64 wrap)
def plX (L : List Ze) (n i : Nat) : List Int := (List.range i).map fun w : Nat => plN L (w : Int) n
theorem Zdp (L : List Ze) (n i : Nat) : plX L n (i + 1) = plX L n i ++ [plN L (i : Int) n] := by simp [plX, List.range_succ]
theorem Z9z (L : List Ze) (n i : Nat) : (plX L n i).length = i := by simp [plX]
def ZfG (L : List Ze) (n m : Nat) (X : List Int) (i : Nat) : St := ⟨59, [(41, .int .i64 i), (40, .int .i64 m), (4, .nslice ⟨1, 0, 0, 0, 0⟩ 1 i i), (8, .map (some 0))], ⟨2, [(0, .fmap n (plK L) plV), (1, .ints .i64 X)]⟩, []⟩
def ZaT (L : List Ze) (n : Nat) (X : List Int) (i : Nat) : St := ⟨59, [(4, .nslice ⟨1, 0, 0, 0, 0⟩ 1 i i), (8, .map (some 0))], ⟨2, [(0, .fmap n (plK L) plV), (1, .ints .i64 X)]⟩, []⟩
theorem Z1O {k : Nat} {τ : Ren} {n : Nat} {L : List Ze} : YR k τ n (plK L) plV (plK L) plV := Z8p fun _ _ => ⟨rfl, rfl⟩
theorem ZkT (L : List Ze) (n m i : Nat) (X X1 : List Int) (x : Int) (Z1 Z2 : Prop) (hm : m < 1000) (hi : i ≤ m) (hn : n < 1000) (hnl : n = L.length) (hw : Xh L m) (hX : X.length = i) (hX1 : X1 = X ++ [x]) (hx : x = plN L (i : Int) n) (h1 : i < m → Z1) (h2 : i = m → Z2) :
  ZF G0 20 10 2 0 (ZfG L n m X i) (rdM 0 2 9 (ZfG L n m X1 (i + 1)) (ZaT L n X i) (ZaT L n X i) (ZaT L n X i) Z1 Z2 False False) := by
 refine @Eq.mpr _ (let q1 := AV.int i64 (↑i : Int);
 let q2 := plK L;
 let q3 := ZJ (fun (i : Nat) => ZP q1 (AV.int i64 (List.getD L i ZI).what)) n;
 let q4 := decide (i64 = i64 ∧ List.length X = i);
 let q5 := X ++ [wrap i64 ((↑(q3 + (1 : Nat)) : Int) - (1 : Int))];
 let q6 := List.length q5;
 let q7 := i + (1 : Nat);
 let q8 := decide (wrap i64 ((↑i : Int) + (1 : Int)) = (↑q7 : Int));
 let q9 := decide ((↑m : Int) = (↑m : Int));
 let q10 := decide (n = n);
 let q11 := YR (0 : Nat) [((0 : Nat), (0 : Nat)), ((1 : Nat), (3 : Nat))] n q2 plV q2 plV;
 let q12 := X ++ [(-1 : Int)];
 let q13 := List.length q12;
 Z0 (decide ((↑i : Int) < (↑m : Int))) (Xo PP (3 : Nat) q1 n q2 ∧ Z0 (Nat.blt q3 n) (Z0 q4 (Z0 (decide (q6 * (8 : Nat) ≤ (140737488355328 : Nat))) (Z0 q8 (Z0 q9 (Z0 (decide (q6 = q7)) (Z0 (decide (q7 ≤ q6)) (Z0 q10 (q11 ∧ q5 = X1 ∧ Z1) False) False) False) False) False) False) False) (Z0 q4 (Z0 (decide (q13 * (8 : Nat) ≤ (140737488355328 : Nat))) (Z0 q8 (Z0 q9 (Z0 (decide (q13 = q7)) (Z0 (decide (q7 ≤ q13)) (Z0 q10 (q11 ∧ q12 = X1 ∧ Z1) False) False) False) False) False) False) False)) (Z0 (decide (i = i)) (Z0 (decide (i ≤ i)) (Z0 q10 (YR (0 : Nat) [((0 : Nat), (0 : Nat)), ((1 : Nat), (1 : Nat))] n q2 plV q2 plV ∧ X = X ∧ Z2) False) False) False)) (by kernel_rfl) ?_
 conv => zeta
 try simp only [Zg]
 try simp only [Zl]
 try simp only [Zh]
 try simp only [Zm]
 try simp only [Zn]
 try simp only [Zf]
 try simp only [Int.toNat_natCast, Nat.zero_add, true_and, and_true, Nat.le_refl]
 have e : ZJ (fun j => ZP (AV.int .i64 (i : Int)) (AV.int .i64 (L.getD j ZI).what)) n = plF L (i : Int) n := rfl
 rw [e]
 refine ⟨fun hc => ?_, fun hc => ⟨Z1O, h2 (by omega)⟩⟩
 have hlt : i < m := by omega
 have hwr : i64.wrap ((i : Int) + 1) = ((i + 1 : Nat) : Int) := by rw [w64 (by omega)]; omega
 refine ⟨Z5z _ _ _, fun hb => ?_, fun hb => ?_⟩
 ·have hb := Z0S hb
  have h3 := Z8q hw hnl hb
  have e2 : i64.wrap (((plF L (i : Int) n + 1 : Nat) : Int) - 1) = x := by rw [w64 (by omega)]; omega
  rw [e2]
  exact ⟨hX, by simp; omega, hwr, by simp [hX], by simp [hX], Z1O, hX1.symm, h1 hlt⟩
 ·have hb : ¬ plF L (i : Int) n < n := fun h => by rw [Z2Q h] at hb; cases hb
  have h3 := Z8r hb
  have e2 : x = -1 := by omega
  subst e2
  exact ⟨hX, by simp; omega, hwr, by simp [hX], by simp [hX], Z1O, hX1.symm, h1 hlt⟩
noncomputable def ZfH (t : Zo) (s : ShS) (A : List Int → Int × Int) (L : List Ze) (n : Nat) : Zd := ((((G0.withF 9 (coF A)).withF 29 ouF).withL 10 0 (goM 0 (Zdh L n s.c 0) (n < 1000 ∧ n = L.length ∧ Xh L s.n) (Ym 0 n 9 (fun i => i < n) (fun i => i = n) (fun _ => False) (fun _ => False) (fun i => Z5y L s.c i) (fun i => Z5y L s.c i) (fun i => Z5y L s.c i)))).withL 10 2 (goM 0 (ZfG L n s.n [] 0) (n < 1000 ∧ n = L.length ∧ Xh L s.n ∧ s.n < 1000) (Ym 2 s.n 9 (fun i => i < s.n) (fun i => i = s.n) (fun _ => False) (fun _ => False) (fun i => ZaT L n (plX L n i) i) (fun i => ZaT L n (plX L n i) i) (fun i => ZaT L n (plX L n i) i))))
theorem Z5C (t : Zo) (s : ShS) (L : List Ze) (n : Nat) : (ZfH t s ZS L n).Ok := by
 have h0 : ((G0.withF 9 (coF ZS)).withF 29 ouF).Ok := Zd.withF_ok (Zd.withF_ok Zu Z3e) Zdg
 have h1 := Zd.withL_join (H := G0) (S := goM 0 (Zdh L n s.c 0) (n < 1000 ∧ n = L.length ∧ Xh L s.n) (Ym 0 n 9 (fun i => i < n) (fun i => i = n) (fun _ => False) (fun _ => False) (fun i => Z5y L s.c i) (fun i => Z5y L s.c i) (fun i => Z5y L s.c i))) h0 rfl (Zd.withGoM (f := 10) (id := 0) (N := 20) (S := fun i => Zdh L n s.c i) Zu (by kernel_rfl) fun hC => ⟨rfl, fun i hi _ => ZkS L n i s _ _ hC.1 hi (fun hlt j hj => hC.2.2.at hj (by omega)) (fun h => ⟨h, h⟩) (fun h => h)⟩)
 refine Zd.withL_join (H := G0) h1 rfl ?_
 exact Zd.withGoM (N := 20) (S := fun i => ZfG L n s.n (plX L n i) i) Zu (by kernel_rfl) fun hC => ⟨rfl, fun i hi _ => ZkT L n s.n i _ _ _ _ _ hC.2.2.2 hi hC.1 hC.2.1 hC.2.2.1 (Z9z L n i) (Zdp L n i) rfl (fun h => ⟨h, h⟩) (fun h => h)⟩
theorem ZkU (A : List Int → Int × Int) (t : Zo) (s : ShS) (L : List Ze) (n : Nat) (ht : t.Ok) (hs : s.Ok) (hn : s.n < 1000) (hb : shB A t s = false) :
  evF (ZfH t s A L n) 20 10 [.agg t.c, .agg s.c] ⟨0, []⟩ (Yc 0 (.ret (.tuple [.nilslice, .int .i64 0, .int .i64 0, .int .i64 2])) 0 []) := by
 refine @Eq.mpr _ (let q1 := Zo.mk t.fund t.index t.cap t.dust t.fee t.delay t.k0 t.k1;
 let q2 := s.num;
 let q3 := s.owner;
 let q4 := s.point;
 let q5 := [s.a0, s.a1];
 let q6 := s.n;
 let q7 := [((1 : Nat), (1 : Nat)), ((0 : Nat), (4 : Nat)), ((2 : Nat), (5 : Nat))];
 let q8 := plK L;
 let q9 := decide (q6 = q6);
 let q10 := ZQ s.g;
 let q11 := Xh L q6;
 let q12 := (↑q6 : Int);
 let q13 := AV.int i64 (-1 : Int);
 let q14 := Xo PP (3 : Nat) q13 n q8;
 let q15 := ZJ (fun (i : Nat) => ZP q13 (AV.int i64 (List.getD L i ZI).what)) n;
 let q16 := Nat.blt q15 n;
 let q17 := AV.int i64 (-2 : Int);
 let q18 := Xo PP (3 : Nat) q17 n q8;
 let q19 := ZJ (fun (i : Nat) => ZP q17 (AV.int i64 (List.getD L i ZI).what)) n;
 let q20 := Nat.blt q19 n;
 let q21 := (↑(q19 + (1 : Nat)) : Int);
 let q22 := (↑(q15 + (1 : Nat)) : Int);
 let q23 := q18 ∧ Z0 q20 False False;
 let q24 := (False → False) ∧ (False → False);
 Zo.Ok q1 ∧
 ∃ (s : ShS),
 ((s.num = q2 ∧ s.owner = q3 ∧ s.point = q4 ∧ q5 = [s.a0, s.a1]) ∧ (q6 = q6 ∧ s.n = q6) ∧ ∀ (i : Nat), i < q6 → q10 i = ZD.c (s.g i)) ∧
 ShS.Ok s ∧
 s.n < (1000 : Nat) ∧
 (shB A q1 s = false → True) ∧
 (shB A q1 s = true →
 (List.length (Zj q1 s) = (0 : Nat) → False) ∧
 ∀ (n_1 : Nat) (L_1 : List Ze),
 L_1 = Zp (Zj q1 s) →
 n_1 = List.length L_1 →
 n_1 ≠ (0 : Nat) →
 ∃ (s : ShS),
 ((s.num = q2 ∧ s.owner = q3 ∧ s.point = q4 ∧ q5 = [s.a0, s.a1]) ∧ (q6 = q6 ∧ s.n = q6) ∧ ∀ (i : Nat), i < q6 → q10 i = ZD.c (s.g i)) ∧
 WN q1 s ∧
 ∀ (n_2 : Nat),
 let q49 := decide (n_2 = n);
 ∀ (L_2 : List Ze),
 L_2 = Zp (Zj q1 s) →
 n_2 = List.length L_2 →
 Z0 (decide ((↑n_2 : Int) = (↑n : Int)))
 (Z0 q49
 (Z0 (decide (n ≤ n_2))
 ((YR (0 : Nat) q7 (0 : Nat) q8 plV (fun (i : Nat) => AV.top) fun (i : Nat) => AV.top) ∧
 Z0 (decide (q2 = q2))
 (Z0 (decide (q3 = q3))
 (q4 = q4 ∧
 q5 = q5 ∧
 Z0 q9
 (q10 = q10 ∧
 Z0 q9
 (Z0 q49 (Zc (0 : Nat) q7 n (Zt L) (Zt L_2) ∧ (n < (1000 : Nat) ∧ n = List.length L ∧ q11) ∧ ∀ (i : Nat), i ≤ n → (∀ (j : Nat), j < i → (fun (i : Nat) => i < n) j) → (i = n → Z0 (decide (q12 = q12)) (Z0 (decide (i = n)) (YR (0 : Nat) [((0 : Nat), (0 : Nat))] n q8 plV q8 plV ∧ ([] : List Int) = [] ∧ (n < (1000 : Nat) ∧ n = List.length L ∧ q11 ∧ q6 < (1000 : Nat)) ∧ ∀ (i : Nat), i ≤ q6 → (∀ (j : Nat), j < i → (fun (i : Nat) => i < q6) j) → (i = q6 → q14 ∧ Z0 q16 (q18 ∧ Z0 q20 (q18 ∧ Z0 q20 (Z0 (decide (q21 = q21)) (q14 ∧ Z0 q16 (Z0 (decide (q22 = q22)) (q18 ∧ Z0 q20 (Z0 (decide (q21 = q21)) False False) False) False) False) False) False) (q18 ∧ Z0 q20 False (q14 ∧ Z0 q16 (Z0 (decide (q22 = q22)) q23 False) False))) (q18 ∧ Z0 q20 (q18 ∧ Z0 q20 (Z0 (decide (q21 = q21)) (q14 ∧ Z0 q16 False (q18 ∧ Z0 q20 (Z0 (decide (q21 = q21)) False False) False)) False) False) (q18 ∧ Z0 q20 False (q14 ∧ Z0 q16 False q23)))) ∧ q24) False) False) ∧ q24) False)
 False)
 False)
 False)
 False)
 False)
 False)
 False)) (by kernel_rfl) ?_
 conv => zeta
 try simp only [Zg]
 try simp only [Zl]
 try simp only [Zh]
 try simp only [Zm]
 try simp only [Zn]
 try simp only [Zf]
 try simp only [Int.toNat_natCast, Nat.zero_add, true_and, and_true, Nat.le_refl]
 have e0 : (Zo.mk t.fund t.index t.cap t.dust t.fee t.delay t.k0 t.k1) = t := rfl
 rw [e0]
 refine ⟨ht, s, ⟨⟨rfl, rfl, rfl, rfl⟩, rfl, fun _ _ => rfl⟩, hs, hn, fun _ => trivial, fun k => ?_⟩
 rw [hb] at k; cases k
theorem ZkV (A : List Int → Int × Int) (t : Zo) (s : ShS) (L : List Ze) (n : Nat) (ht : t.Ok) (hs : s.Ok) (hn : s.n < 1000) (hb : shB A t s = true) (h0 : (Zj t s).length = 0) :
  evF (ZfH t s A L n) 20 10 [.agg t.c, .agg s.c] ⟨0, []⟩ (Yc 0 (.ret (.tuple [.nilslice, .int .i64 0, .int .i64 0, .int .i64 180])) 0 []) := by
 refine @Eq.mpr _ (let q1 := Zo.mk t.fund t.index t.cap t.dust t.fee t.delay t.k0 t.k1;
 let q2 := s.num;
 let q3 := s.owner;
 let q4 := s.point;
 let q5 := [s.a0, s.a1];
 let q6 := s.n;
 let q7 := [((1 : Nat), (1 : Nat)), ((0 : Nat), (4 : Nat)), ((2 : Nat), (5 : Nat))];
 let q8 := plK L;
 let q9 := decide (q6 = q6);
 let q10 := ZQ s.g;
 let q11 := Xh L q6;
 let q12 := (↑q6 : Int);
 let q13 := AV.int i64 (-1 : Int);
 let q14 := Xo PP (3 : Nat) q13 n q8;
 let q15 := ZJ (fun (i : Nat) => ZP q13 (AV.int i64 (List.getD L i ZI).what)) n;
 let q16 := Nat.blt q15 n;
 let q17 := AV.int i64 (-2 : Int);
 let q18 := Xo PP (3 : Nat) q17 n q8;
 let q19 := ZJ (fun (i : Nat) => ZP q17 (AV.int i64 (List.getD L i ZI).what)) n;
 let q20 := Nat.blt q19 n;
 let q21 := (↑(q19 + (1 : Nat)) : Int);
 let q22 := (↑(q15 + (1 : Nat)) : Int);
 let q23 := q18 ∧ Z0 q20 False False;
 let q24 := (False → False) ∧ (False → False);
 Zo.Ok q1 ∧
 ∃ (s : ShS),
 ((s.num = q2 ∧ s.owner = q3 ∧ s.point = q4 ∧ q5 = [s.a0, s.a1]) ∧ (q6 = q6 ∧ s.n = q6) ∧ ∀ (i : Nat), i < q6 → q10 i = ZD.c (s.g i)) ∧
 ShS.Ok s ∧
 s.n < (1000 : Nat) ∧
 (shB A q1 s = false → False) ∧
 (shB A q1 s = true →
 (List.length (Zj q1 s) = (0 : Nat) → True) ∧
 ∀ (n_1 : Nat) (L_1 : List Ze),
 L_1 = Zp (Zj q1 s) →
 n_1 = List.length L_1 →
 n_1 ≠ (0 : Nat) →
 ∃ (s : ShS),
 ((s.num = q2 ∧ s.owner = q3 ∧ s.point = q4 ∧ q5 = [s.a0, s.a1]) ∧ (q6 = q6 ∧ s.n = q6) ∧ ∀ (i : Nat), i < q6 → q10 i = ZD.c (s.g i)) ∧
 WN q1 s ∧
 ∀ (n_2 : Nat),
 let q49 := decide (n_2 = n);
 ∀ (L_2 : List Ze),
 L_2 = Zp (Zj q1 s) →
 n_2 = List.length L_2 →
 Z0 (decide ((↑n_2 : Int) = (↑n : Int)))
 (Z0 q49
 (Z0 (decide (n ≤ n_2))
 ((YR (0 : Nat) q7 (0 : Nat) q8 plV (fun (i : Nat) => AV.top) fun (i : Nat) => AV.top) ∧
 Z0 (decide (q2 = q2))
 (Z0 (decide (q3 = q3))
 (q4 = q4 ∧
 q5 = q5 ∧
 Z0 q9
 (q10 = q10 ∧
 Z0 q9
 (Z0 q49 (Zc (0 : Nat) q7 n (Zt L) (Zt L_2) ∧ (n < (1000 : Nat) ∧ n = List.length L ∧ q11) ∧ ∀ (i : Nat), i ≤ n → (∀ (j : Nat), j < i → (fun (i : Nat) => i < n) j) → (i = n → Z0 (decide (q12 = q12)) (Z0 (decide (i = n)) (YR (0 : Nat) [((0 : Nat), (0 : Nat))] n q8 plV q8 plV ∧ ([] : List Int) = [] ∧ (n < (1000 : Nat) ∧ n = List.length L ∧ q11 ∧ q6 < (1000 : Nat)) ∧ ∀ (i : Nat), i ≤ q6 → (∀ (j : Nat), j < i → (fun (i : Nat) => i < q6) j) → (i = q6 → q14 ∧ Z0 q16 (q18 ∧ Z0 q20 (q18 ∧ Z0 q20 (Z0 (decide (q21 = q21)) (q14 ∧ Z0 q16 (Z0 (decide (q22 = q22)) (q18 ∧ Z0 q20 (Z0 (decide (q21 = q21)) False False) False) False) False) False) False) (q18 ∧ Z0 q20 False (q14 ∧ Z0 q16 (Z0 (decide (q22 = q22)) q23 False) False))) (q18 ∧ Z0 q20 (q18 ∧ Z0 q20 (Z0 (decide (q21 = q21)) (q14 ∧ Z0 q16 False (q18 ∧ Z0 q20 (Z0 (decide (q21 = q21)) False False) False)) False) False) (q18 ∧ Z0 q20 False (q14 ∧ Z0 q16 False q23)))) ∧ q24) False) False) ∧ q24) False)
 False)
 False)
 False)
 False)
 False)
 False)
 False)) (by kernel_rfl) ?_
 conv => zeta
 try simp only [Zg]
 try simp only [Zl]
 try simp only [Zh]
 try simp only [Zm]
 try simp only [Zn]
 try simp only [Zf]
 try simp only [Int.toNat_natCast, Nat.zero_add, true_and, and_true, Nat.le_refl]
 have e0 : (Zo.mk t.fund t.index t.cap t.dust t.fee t.delay t.k0 t.k1) = t := rfl
 rw [e0]
 refine ⟨ht, s, ⟨⟨rfl, rfl, rfl, rfl⟩, rfl, fun _ _ => rfl⟩, hs, hn, fun k => ?_, fun _ => ⟨fun _ => trivial, fun n1 L1 e1 e2 e3 => ?_⟩⟩
 ·rw [hb] at k; cases k
 ·exact absurd (by rw [e2, e1, ZU, h0]) e3
theorem ZkW (A : List Int → Int × Int) (t : Zo) (s : ShS) (L : List Ze) (n : Nat) (a b : Int) (X : List Int) (ht : t.Ok) (hs : s.Ok) (hn : s.n < 1000) (hb : shB A t s = true) (ho : WN t s) (hL : L = Zp (Zj t s)) (hl : n = L.length) (h0 : n ≠ 0) (ha : a = plN L (-1) n) (hb' : b = plN L (-2) n) (hX : X = plX L n s.n) :
  evF (ZfH t s A L n) 20 10 [.agg t.c, .agg s.c] ⟨0, []⟩ (Yc 0 (.ret (.tuple [.nslice ⟨0, 0, 0, 0, 0⟩ 1 s.n s.n, .int .i64 a, .int .i64 b, .int .i64 0])) 1 [(0, .ints .i64 X)]) := by
 refine @Eq.mpr _ (let q1 := Zo.mk t.fund t.index t.cap t.dust t.fee t.delay t.k0 t.k1;
 let q2 := s.num;
 let q3 := s.owner;
 let q4 := s.point;
 let q5 := [s.a0, s.a1];
 let q6 := s.n;
 let q7 := decide (q6 = (0 : Nat));
 let q8 := Z0 q7 (Z0 q7 (Z0 (decide ((0 : Int) = a)) (Z0 (decide ((0 : Int) = b)) False False) False) False) False;
 let q9 := [((1 : Nat), (1 : Nat)), ((0 : Nat), (4 : Nat)), ((2 : Nat), (5 : Nat))];
 let q10 := plK L;
 let q11 := decide (q6 = q6);
 let q12 := ZQ s.g;
 let q13 := Xh L q6;
 let q14 := (↑q6 : Int);
 let q15 := AV.int i64 (-1 : Int);
 let q16 := Xo PP (3 : Nat) q15 n q10;
 let q17 := ZJ (fun (i : Nat) => ZP q15 (AV.int i64 (List.getD L i ZI).what)) n;
 let q18 := Nat.blt q17 n;
 let q19 := AV.int i64 (-2 : Int);
 let q20 := Xo PP (3 : Nat) q19 n q10;
 let q21 := ZJ (fun (i : Nat) => ZP q19 (AV.int i64 (List.getD L i ZI).what)) n;
 let q22 := Nat.blt q21 n;
 let q23 := (↑(q21 + (1 : Nat)) : Int);
 let q24 := (↑(q17 + (1 : Nat)) : Int);
 let q25 := decide ((-1 : Int) = a);
 let q26 := (False → False) ∧ (False → False);
 Zo.Ok q1 ∧
 ∃ (s : ShS),
 ((s.num = q2 ∧ s.owner = q3 ∧ s.point = q4 ∧ q5 = [s.a0, s.a1]) ∧ (q6 = q6 ∧ s.n = q6) ∧ ∀ (i : Nat), i < q6 → q12 i = ZD.c (s.g i)) ∧
 ShS.Ok s ∧
 s.n < (1000 : Nat) ∧
 (shB A q1 s = false → q8) ∧
 (shB A q1 s = true →
 (List.length (Zj q1 s) = (0 : Nat) → q8) ∧
 ∀ (n_1 : Nat) (L_1 : List Ze),
 L_1 = Zp (Zj q1 s) →
 n_1 = List.length L_1 →
 n_1 ≠ (0 : Nat) →
 ∃ (s : ShS),
 ((s.num = q2 ∧ s.owner = q3 ∧ s.point = q4 ∧ q5 = [s.a0, s.a1]) ∧ (q6 = q6 ∧ s.n = q6) ∧ ∀ (i : Nat), i < q6 → q12 i = ZD.c (s.g i)) ∧
 WN q1 s ∧
 ∀ (n_2 : Nat),
 let q53 := decide (n_2 = n);
 ∀ (L_2 : List Ze),
 L_2 = Zp (Zj q1 s) →
 n_2 = List.length L_2 →
 Z0 (decide ((↑n_2 : Int) = (↑n : Int)))
 (Z0 q53
 (Z0 (decide (n ≤ n_2))
 ((YR (0 : Nat) q9 (0 : Nat) q10 plV (fun (i : Nat) => AV.top) fun (i : Nat) => AV.top) ∧
 Z0 (decide (q2 = q2))
 (Z0 (decide (q3 = q3))
 (q4 = q4 ∧
 q5 = q5 ∧
 Z0 q11
 (q12 = q12 ∧
 Z0 q11
 (Z0 q53
 (Zc (0 : Nat) q9 n (Zt L) (Zt L_2) ∧
 (n < (1000 : Nat) ∧ n = List.length L ∧ q13) ∧
 ∀ (i : Nat),
 i ≤ n →
 (∀ (j : Nat), j < i → (fun (i : Nat) => i < n) j) →
 (i = n →
 Z0 (decide (q14 = q14))
 (Z0 (decide (i = n))
 (YR (0 : Nat) [((0 : Nat), (0 : Nat))] n q10 plV q10 plV ∧
 ([] : List Int) = [] ∧
 (n < (1000 : Nat) ∧ n = List.length L ∧ q13 ∧ q6 < (1000 : Nat)) ∧
 ∀ (i : Nat),
 let q55 := decide (i = q6);
 let q56 := decide (q6 ≤ i);
 let q57 := decide (wrap i64 (q24 - (1 : Int)) = a);
 let q58 := plX L n i = X ∧ True;
 let q59 := Z0 (decide ((-1 : Int) = b)) q58 False;
 i ≤ q6 → (∀ (j : Nat), j < i → (fun (i : Nat) => i < q6) j) → (i = q6 → q16 ∧ Z0 q18 (q20 ∧ Z0 q22 (q20 ∧ Z0 q22 (Z0 (decide (q23 = q23)) (q16 ∧ Z0 q18 (Z0 (decide (q24 = q24)) (q20 ∧ Z0 q22 (Z0 (decide (q23 = q23)) (Z0 q55 (Z0 q56 (Z0 q57 (Z0 (decide (wrap i64 (q23 - (1 : Int)) = b)) q58 False) False) False) False) False) False) False) False) False) False) (q20 ∧ Z0 q22 False (q16 ∧ Z0 q18 (Z0 (decide (q24 = q24)) (q20 ∧ Z0 q22 False (Z0 q55 (Z0 q56 (Z0 q57 q59 False) False) False)) False) False))) (q20 ∧ Z0 q22 (q20 ∧ Z0 q22 (Z0 (decide (q23 = q23)) (q16 ∧ Z0 q18 False (q20 ∧ Z0 q22 (Z0 (decide (q23 = q23)) (Z0 q55 (Z0 q56 (Z0 q25 (Z0 (decide (wrap i64 (q23 - (1 : Int)) = b)) q58 False) False) False) False) False) False)) False) False) (q20 ∧ Z0 q22 False (q16 ∧ Z0 q18 False (q20 ∧ Z0 q22 False (Z0 q55 (Z0 q56 (Z0 q25 q59 False) False) False)))))) ∧ q26)
 False)
 False) ∧
 q26)
 False)
 False)
 False)
 False)
 False)
 False)
 False)
 False)) (by kernel_rfl) ?_
 conv => zeta
 try simp only [Zg]
 try simp only [Zl]
 try simp only [Zh]
 try simp only [Zm]
 try simp only [Zn]
 try simp only [Zf]
 try simp only [Int.toNat_natCast, Nat.zero_add, true_and, and_true, Nat.le_refl]
 have e0 : (Zo.mk t.fund t.index t.cap t.dust t.fee t.delay t.k0 t.k1) = t := rfl
 rw [e0]
 have hw : Xh L s.n := by rw [hL]; exact Z3g (Z3f t s)
 have h20 : n < 20 := by rw [hl, hL, ZU]; exact ho.len
 have e1 : ZJ (fun j => ZP (AV.int .i64 (-1)) (AV.int .i64 (L.getD j ZI).what)) n = plF L (-1) n := rfl
 have e2 : ZJ (fun j => ZP (AV.int .i64 (-2)) (AV.int .i64 (L.getD j ZI).what)) n = plF L (-2) n := rfl
 rw [e1, e2]
 refine ⟨ht, s, ⟨⟨rfl, rfl, rfl, rfl⟩, rfl, fun _ _ => rfl⟩, hs, hn, fun k => ?_, fun _ => ⟨fun k => ?_, fun n1 L1 f1 f2 f3 => ⟨s, ⟨⟨rfl, rfl, rfl, rfl⟩, rfl, fun _ _ => rfl⟩, ho, fun m M g1 g2 => ?_⟩⟩⟩
 ·rw [hb] at k; cases k
 ·exact absurd (by rw [hl, hL, ZU, k]) h0
 ·have k1 : M = L := g1.trans hL.symm
  subst k1
  have k2 : m = n := g2.trans hl.symm
  subst k2
  refine ⟨rfl, rfl, Nat.le_refl _, ⟨fun j hj => absurd hj (Nat.not_lt_zero _)⟩, rfl, ZN fun _ _ => rfl, ⟨by omega, hl, hw⟩, fun i hi _ => ⟨fun he => ⟨he, Z1O, ⟨by omega, hl, hw, hn⟩, fun j hj _ => ⟨fun hq => ?_, fun h => h.elim, fun h => h.elim⟩⟩, fun h => h.elim, fun h => h.elim⟩⟩
  subst hq
  have la : Nat.blt (plF M (-1) m) m = true → i64.wrap (((plF M (-1) m + 1 : Nat) : Int) - 1) = a := fun h => by
   have k := Z0S h
   have := Z8q hw hl k
   rw [w64 (by omega)]; omega
  have lb : Nat.blt (plF M (-2) m) m = true → i64.wrap (((plF M (-2) m + 1 : Nat) : Int) - 1) = b := fun h => by
   have k := Z0S h
   have := Z8q hw hl k
   rw [w64 (by omega)]; omega
  have na : Nat.blt (plF M (-1) m) m = false → -1 = a := fun h => by
   have := Z8r (L := M) (w := -1) (n := m) (fun k => by rw [Z2Q k] at h; cases h)
   omega
  have nb : Nat.blt (plF M (-2) m) m = false → -1 = b := fun h => by
   have := Z8r (L := M) (w := -2) (n := m) (fun k => by rw [Z2Q k] at h; cases h)
   omega
  have ky : ∀ x : Int, Xo PP 3 (.int .i64 x) m (plK M) := fun x => Z5z x _ m
  exact ⟨ky _, fun k1 => ⟨ky _, fun k2 => ⟨ky _, k2, ky _, k1, ky _, k2, rfl, Nat.le_refl _, la k1, lb k2, hX.symm⟩, fun k2 => ⟨ky _, k2, ky _, k1, ky _, k2, rfl, Nat.le_refl _, la k1, nb k2, hX.symm⟩⟩, fun k1 => ⟨ky _, fun k2 => ⟨ky _, k2, ky _, k1, ky _, k2, rfl, Nat.le_refl _, na k1, lb k2, hX.symm⟩, fun k2 => ⟨ky _, k2, ky _, k1, ky _, k2, rfl, Nat.le_refl _, na k1, nb k2, hX.symm⟩⟩⟩
def ZjY (A : List Int → Int × Int) : Y9 := fun args h K => ZH none h true 20 args fun a => match a with
 | [.agg [.arr .u8 32 fu, .int .i64 ix, .int .i64 ca, .int .i64 du, .int .i64 fe, .int .i64 de, .arr .u8 32 k0, .arr .u8 32 k1], .agg l] => (Zo.Ok ⟨fu, ix, ca, du, fe, de, k0, k1⟩) ∧ ∃ s, Z1y l s ∧ s.Ok ∧ s.n < 1000 ∧ (shB A ⟨fu, ix, ca, du, fe, de, k0, k1⟩ s = false → K (.ret (.tuple [.nilslice, .int .i64 0, .int .i64 0, .int .i64 2])) h) ∧
  (shB A ⟨fu, ix, ca, du, fe, de, k0, k1⟩ s = true → ((Zj ⟨fu, ix, ca, du, fe, de, k0, k1⟩ s).length = 0 → K (.ret (.tuple [.nilslice, .int .i64 0, .int .i64 0, .int .i64 180])) h) ∧
   ∀ n m L X a b, L = Zp (Zj ⟨fu, ix, ca, du, fe, de, k0, k1⟩ s) → n = L.length → n ≠ 0 → m = s.n → X = plX L n m → a = plN L (-1) n → b = plN L (-2) n → K (.ret (.tuple [.nslice ⟨h.next, 0, 0, 0, 0⟩ 1 m m, .int .i64 a, .int .i64 b, .int .i64 0])) ⟨h.next + 1, (h.next, .ints .i64 X) :: h.bs⟩)
 | _ => False
theorem Z9A (args : List AV) (h : Z7) (K : KO) (hl : ZjY ZS args h K) : Zk PP 10 args h K := by
 refine ZB.fsumm (d := 20) (Zq _ _ _ _ _ hl fun a ha => ?_)
 split at ha
 ·rename_i fu ix ca du fe de k0 k1 l
  obtain ⟨ht, s, hs, hsok, hn, h1, h2⟩ := ha
  cases hc : shB ZS ⟨fu, ix, ca, du, fe, de, k0, k1⟩ s with
  | false => exact ⟨_, _, _, _, (ZB.evM (Z5C ⟨fu, ix, ca, du, fe, de, k0, k1⟩ s [] 0) (ZkU _ ⟨_, _, _, _, _, _, _, _⟩ s _ _ ht hsok hn hc)).conv (fun E r hr => hr.head (fun _ hc => hc) (fun _ hc => hc.head (fun _ hc => hs.rel hc) (fun _ hc => hc))), rfl, trivial, h1 hc⟩
  | true =>
   obtain ⟨h2, h3⟩ := h2 hc
   have ho := Z3d ht hsok hn hc
   rcases Nat.eq_zero_or_pos (Zj ⟨fu, ix, ca, du, fe, de, k0, k1⟩ s).length with h0 | h0
   ·exact ⟨_, _, _, _, (ZB.evM (Z5C ⟨fu, ix, ca, du, fe, de, k0, k1⟩ s [] 0) (ZkV _ ⟨_, _, _, _, _, _, _, _⟩ s _ _ ht hsok hn hc h0)).conv (fun E r hr => hr.head (fun _ hc => hc) (fun _ hc => hc.head (fun _ hc => hs.rel hc) (fun _ hc => hc))), rfl, trivial, h2 h0⟩
   ·have hn0 : (Zp (Zj ⟨fu, ix, ca, du, fe, de, k0, k1⟩ s)).length ≠ 0 := by rw [ZU]; omega
    exact ⟨_, _, _, _, (ZB.evM (Z5C ⟨fu, ix, ca, du, fe, de, k0, k1⟩ s _ _) (ZkW _ ⟨_, _, _, _, _, _, _, _⟩ s _ _ _ _ _ ht hsok hn hc ho rfl rfl hn0 rfl rfl rfl)).conv (fun E r hr => hr.head (fun _ hc => hc) (fun _ hc => hc.head (fun _ hc => hs.rel hc) (fun _ hc => hc))), rfl, ⟨by decide, .ints _ _, trivial⟩, h3 _ _ _ _ _ _ rfl rfl hn0 rfl rfl rfl rfl⟩
 ·exact ha.elim
end Go.Tk
end
section
namespace Go.Tk
open IntKind (i64 u8 u32 u64 wrap)
def ZkX (t : Zo) (s : ShS) (M : List Int) (i : Nat) : Z7 := ⟨4, [(0, .flat t.c), (1, .flat s.c), (2, .flat [.arr .i64 2 M]), (3, .flat (s.g i).c)]⟩
def rs2 (t : Zo) (s : ShS) (M : List Int) (i k : Nat) : St := ⟨132, [(9, .int .i64 k), (7, .int .i64 i), (3, .ptr (some ⟨1, 0, 0, 0, 0⟩)), (8, .ptr (some ⟨3, 0, 0, 0, 0⟩)), (6, .ptr (some ⟨2, 0, 0, 0, 0⟩)), (5, .int .i64 (W7 s i)), (2, .ptr (some ⟨0, 0, 0, 0, 0⟩))], ZkX t s M i, []⟩
end Go.Tk
end
section
namespace Go.Tk
open IntKind (i64 u8 u32 u64 wrap)
theorem Z8w {t : Zo} {point own other : List Int} {a b : Int} (h1 : point.length = 32) (h2 : own.length = 32) (h3 : other.length = 32) : ∀ m ∈ Yt t point own other a b, m.Okb := fun m hm => by
 refine ⟨QS h1 h2 h3 m hm, ?_⟩
 unfold Yt at hm
 rw [List.mem_append] at hm
 rcases hm with hm | hm
 ·split at hm
  ·rw [List.mem_singleton] at hm; subst hm; exact Z39
  ·cases hm
 ·split at hm
  ·rw [List.mem_singleton] at hm; subst hm; exact Z39
  ·cases hm
theorem ZaU {t : Zo} {s : ShS} {own other : List Int} {i : Nat} (hs : s.Ok) (h2 : own.length = 32) (h3 : other.length = 32) (hi : i < s.n) : (W6 t s own other i).Okb := ⟨⟨h2, h3, hs.point, (hs.g i hi).hash⟩, (hs.g i hi).hb⟩
theorem Z3o {t : Zo} {s : ShS} {own other : List Int} {O0 : List Ze} (h0 : ∀ m ∈ O0, m.Okb) (hs : s.Ok) (h2 : own.length = 32) (h3 : other.length = 32) : ∀ i, i ≤ s.n → ∀ m ∈ Y4 t s own other O0 i, m.Okb
 | 0, _ => h0
 | i + 1, hi => fun m hm => by
  simp only [Y4, List.mem_append] at hm
  rcases hm with hm | hm
  ·exact Z3o h0 hs h2 h3 i (by omega) m hm
  ·split at hm
   ·rw [List.mem_singleton] at hm; subst hm
    exact ZaU hs h2 h3 (by omega)
   ·cases hm
theorem Z4v {L : List Ze} {P : Ze → Prop} (h : ∀ m ∈ L, P m) : ∀ m ∈ Zp L, P m := fun m hm => by
 rcases (Z4s (acc := [])).1 hm with h0 | h0
 ·cases h0
 ·exact h m h0
end Go.Tk
end
section
namespace Go.Tk
open IntKind (i64 u8 u32 u64 wrap)
structure HoC (t : Zo) (s : ShS) : Prop where
 ht : t.Ok
 hf : t.fund.length = 32
 hs : s.Ok
 hn : s.n ≤ 20
 hb : shB ZS t s = true
theorem HoC.term {t : Zo} {s : ShS} (h : HoC t s) : (0 ≤ t.index ∧ t.index ≤ 23) ∧ (1000 ≤ t.cap ∧ t.cap ≤ 1125899906842624) ∧ (1 ≤ t.dust ∧ t.dust ≤ 500) ∧ (0 ≤ t.fee ∧ t.fee ≤ 400) ∧ (1 ≤ t.delay ∧ t.delay ≤ 1000) ∧ t.k0 ≠ t.k1 := by
 have := (Wo.1 h.hb).1
 unfold Xf at this
 simp only [Bool.and_eq_true, decide_eq_true_eq, bne_iff_ne, ne_eq] at this
 obtain ⟨⟨⟨⟨⟨h1, h2⟩, h3⟩, h4⟩, h5⟩, h6⟩ := this
 exact ⟨h1, h2, h3, h4, h5, h6⟩
theorem HoC.amts {t : Zo} {s : ShS} (h : HoC t s) : (0 ≤ W9 t s ∧ W9 t s ≤ 1125899906842624) ∧ (0 ≤ X7 t s ∧ X7 t s ≤ 1125899906842624) := by
 obtain ⟨_, _, _, h4, h5, h6, _⟩ := Wo.1 h.hb
 have := h.term
 unfold W9 X7
 split <;> omega
theorem HoC.pend {t : Zo} {s : ShS} (h : HoC t s) {i : Nat} (hi : i < s.n) : Xn (s.g i) = true := ((Wo.1 h.hb).2.2.2.2.2.2.1 i hi).p
theorem HoC.keys {t : Zo} {s : ShS} (h : HoC t s) : (Z8u t s).length = 32 ∧ (UH t s).length = 32 := by
 unfold Z8u UH
 split <;> exact ⟨by first | exact h.ht.k0 | exact h.ht.k1, by first | exact h.ht.k1 | exact h.ht.k0⟩
theorem HoC.okb {t : Zo} {s : ShS} (h : HoC t s) : ∀ m ∈ Zj t s, m.Okb := fun m hm => by
 rw [Z3l] at hm
 exact Z3o (Z8w h.hs.point h.keys.1 h.keys.2) h.hs h.keys.1 h.keys.2 s.n (Nat.le_refl _) m hm
theorem HoC.right {t : Zo} {s : ShS} (h : HoC t s) : ∀ m ∈ Zj t s, ZL m.o = true := fun m hm => by
 obtain ⟨_, _, d, _, e, _⟩ := h.term
 obtain ⟨a1, a2⟩ := h.amts
 rcases XC.1 hm with ⟨h1, rfl⟩ | ⟨h1, rfl⟩ | ⟨i, hi, h1, rfl⟩
 ·unfold ZL
  simp
  omega
 ·unfold ZL
  simp
  omega
 ·have hp := h.pend hi
  unfold Xn at hp
  simp only [Bool.and_eq_true, decide_eq_true_eq] at hp
  unfold ZL W6
  simp only [Bool.and_eq_true, Bool.or_eq_true, decide_eq_true_eq]
  split <;> simp <;> omega
theorem Z16 (L : List Ze) : amL (ZK L) L.length = L.map fun m => m.o.amount := by
 unfold amL ZK
 refine List.ext_getElem (by simp) fun k h1 h2 => ?_
 simp at h1 h2
 simp [List.getD_eq_getElem?_getD, h1]
theorem HoC.le {t : Zo} {s : ShS} (h : HoC t s) : 0 ≤ amM (Zp (Zj t s)) ∧ amM (Zp (Zj t s)) ≤ t.cap := by
 have hs := Z9y h.hb
 obtain ⟨_, _, d, f, _, _⟩ := h.term
 obtain ⟨a1, a2⟩ := h.amts
 have pos : ∀ l : List Int, (∀ x ∈ l, 0 ≤ x) → 0 ≤ l.sum := fun l => by
  induction l with
  | nil => simp
  | cons x r ih =>
   intro hx
   have := hx x (by simp)
   have := ih fun y hy => hx y (by simp [hy])
   simp; omega
 have p1 := pos (loL t.dust s (loB t.dust (W9 t s) (X7 t s)) s.n) fun x hx => (Z8v (Zdo a1.1 a2.1) (fun i hi => by have := VN (h.pend hi); omega) s.n (Nat.le_refl _) x hx).1
 have p2 := pos ((Zp (Zj t s)).map fun m => m.o.amount) fun x hx => by
  obtain ⟨m, hm, rfl⟩ := List.mem_map.1 hx
  have := (Xe (h.right m ((Xx _).mem_iff.1 hm))).2.1
  omega
 have e : amM (Zp (Zj t s)) = ((Zp (Zj t s)).map fun m => m.o.amount).sum := rfl
 omega
theorem Z4w {t : TxS} (h1 : 0 ≤ t.num ∧ t.num ≤ 2147483647) (h2 : 1 ≤ t.N ∧ t.N ≤ 24) (h3 : 1 ≤ t.M ∧ t.M ≤ 24) (h4 : ∀ i, i < t.N → Y2 (t.ins i) = true) (h5 : ∀ i j, i < t.N → j < i → (t.ins j).index ≠ (t.ins i).index) (h6 : ∀ i, i < t.M → ZL (t.outs i) = true) (h7 : Zh6 t t.M ≤ 1125899906842624) : Y6 ZS t = true := by
 rw [← Z0Y]
 unfold Z2W
 simp only [Bool.and_eq_true, decide_eq_true_eq, List.all_eq_true, List.mem_range]
 refine ⟨⟨⟨⟨⟨h1, h2⟩, h3⟩, fun i hi => ?_⟩, h6⟩, h7⟩
 unfold okI
 rw [h4 i hi, Bool.true_and]
 simp only [Bool.not_eq_true', List.any_eq_false, List.mem_range]
 intro j hj hs
 exact h5 i j hi hj (WK.1 hs).2
theorem HoC.ck {t : Zo} {s : ShS} (h : HoC t s) (h0 : (Zj t s).length ≠ 0) : Y6 ZS (txM t s.num (Zp (Zj t s))) = true := by
 obtain ⟨x, c, d, f, e, _⟩ := h.term
 have hnum := (Wo.1 h.hb).2.1
 have hlen := (Z3d h.ht h.hs (by have := h.hn; omega) h.hb).len
 have hl : (Zp (Zj t s)).length = (Zj t s).length := ZU
 refine Z4w hnum ⟨Nat.le_refl _, by show (1 : Nat) ≤ 24; decide⟩ ⟨by show 1 ≤ (Zp (Zj t s)).length; omega, by show (Zp (Zj t s)).length ≤ 24; omega⟩ (fun i hi => ?_) (fun i j hi hj => ?_) (fun i hi => ?_) ?_
 ·show Y2 (X9 t) = true
  unfold Y2 X9
  simp
  omega
 ·have hi : i < 1 := hi
  omega
 ·have hi : i < (Zp (Zj t s)).length := hi
  show ZL ((Zp (Zj t s)).getD i ZI).o = true
  rw [List.getD_eq_getElem?_getD, List.getElem?_eq_getElem hi]
  exact h.right _ ((Xx _).mem_iff.1 (List.getElem_mem hi))
 ·show (amL (ZK (Zp (Zj t s))) (Zp (Zj t s)).length).sum ≤ _
  rw [Z16]
  have := h.le.2
  have e : amM (Zp (Zj t s)) = ((Zp (Zj t s)).map fun m => m.o.amount).sum := rfl
  omega
def Z1z (secret : List Int) (other : Int) (i : Nat) : ClS := ⟨i, if (i : Int) = other then 2 else 4, if (i : Int) = other then Z5 else secret⟩
def X8 (secret : List Int) (other : Int) (n : Nat) : List ClS := (List.range n).map (Z1z secret other)
theorem Z3p (secret : List Int) (other : Int) (n : Nat) : (X8 secret other n).length = n := by simp [X8]
theorem WP {secret : List Int} {other : Int} {n j : Nat} (hj : j < n) : (X8 secret other n).getD j cl0 = Z1z secret other j := by
 unfold X8
 simp [List.getD_eq_getElem?_getD, hj]
theorem Zdq (secret : List Int) (other : Int) (n : Nat) : Wm ltC (X8 secret other n) := by
 unfold Wm
 rw [List.pairwise_iff_getElem]
 intro i j hi hj hij
 simp [X8, Z1z, ltC]
 omega
theorem Z4x {secret : List Int} {other : Int} {n : Nat} {L1 : List ClS} (hp : L1.Perm (X8 secret other n)) (ho : Wm ltC L1) : L1 = X8 secret other n := by
 refine UE hp ho (Zdq _ _ _) fun a ha b hb h1 h2 => ?_
 have ha := hp.mem_iff.1 ha
 have hb := hp.mem_iff.1 hb
 obtain ⟨i, _, rfl⟩ := List.mem_map.1 ha
 obtain ⟨j, _, rfl⟩ := List.mem_map.1 hb
 unfold ltC Z1z at h1 h2
 simp only [decide_eq_false_iff_not] at h1 h2
 have e : i = j := by omega
 rw [e]
theorem Z3q {secret : List Int} {other : Int} {n : Nat} (h : secret.length = 32) : ∀ m ∈ X8 secret other n, m.Ok := fun m hm => by
 obtain ⟨i, _, rfl⟩ := List.mem_map.1 hm
 exact ⟨by unfold Z1z; simp only; split; rfl; exact h⟩
theorem ZfI {t : TxS} {secret : List Int} {other : Int} {n : Nat} (hn : n = t.M) : swV t (X8 secret other n) n = amL t.outs t.M := by
 subst hn
 unfold swV amL
 refine List.map_congr_left fun j hj => ?_
 rw [WP (by simpa using hj)]
 rfl
theorem ZfJ {xs : List Int} (h1 : ∀ x ∈ xs, 0 ≤ x ∧ x ≤ 1125899906842624) (h2 : xs.sum ≤ 1125899906842624) : ZS xs = (xs.sum, 0) := by
 have : allIn 1125899906842624 xs = true := by
  unfold allIn
  rw [Bool.not_eq_true', List.any_eq_false]
  intro j hj
  have hj : j < xs.length := by simpa using hj
  unfold Yb W1
  rw [List.getD_eq_getElem?_getD, List.getElem?_eq_getElem hj]
  have := h1 _ (List.getElem_mem hj)
  simp; omega
 unfold ZS
 rw [if_pos this, if_pos h2]
theorem HoC.go {t : Zo} {s : ShS} (h : HoC t s) (h0 : (Zj t s).length ≠ 0) {key secret : List Int} (hsec : secret.length = 32) {other : Int} {n : Nat} (hn : n = (Zp (Zj t s)).length) :
  ZaP ZS Ys (txM t s.num (Zp (Zj t s))) key (X8 secret other n) n (amM (Zp (Zj t s))) := by
 have hlen := (Z3d h.ht h.hs (by have := h.hn; omega) h.hb).len
 have hl : (Zp (Zj t s)).length = (Zj t s).length := ZU
 have hA : ∀ x ∈ (Zp (Zj t s)).map (fun m => m.o.amount), 0 < x ∧ x ≤ 1125899906842624 := fun x hx => by
  obtain ⟨m, hm, rfl⟩ := List.mem_map.1 hx
  exact (Xe (h.right m ((Xx _).mem_iff.1 hm))).2.1
 have hle := h.le
 have hc := h.term.2.1
 have e : amM (Zp (Zj t s)) = ((Zp (Zj t s)).map fun m => m.o.amount).sum := rfl
 have e2 : swV (txM t s.num (Zp (Zj t s))) (X8 secret other n) n = (Zp (Zj t s)).map fun m => m.o.amount := by
  rw [ZfI (t := txM t s.num (Zp (Zj t s))) hn]
  exact Z16 _
 refine ⟨fun i hi => ?_, ?_, ?_⟩
 ·rw [WP hi]
  refine ⟨by show (0 : Int) ≤ i; omega, by show (i : Int) ≤ ((Zp (Zj t s)).length : Int) - 1; omega, ?_⟩
  show (if (i : Int) = other then (2 : Int) else 4) ≠ 1
  split <;> decide
 ·rw [e2, e]
  exact ZfJ (fun x hx => by have := hA x hx; omega) (by omega)
 ·refine Z4w ⟨by show (0 : Int) ≤ 0; decide, by show (0 : Int) ≤ 2147483647; decide⟩ ⟨by show 1 ≤ n; omega, by show n ≤ 24; omega⟩ ⟨Nat.le_refl _, by show (1 : Nat) ≤ 24; decide⟩ (fun i hi => ?_) (fun i j hi hj => ?_) (fun i hi => ?_) ?_
  ·have hi : i < n := hi
   show Y2 (swI _ (X8 secret other n) i) = true
   unfold swI
   rw [WP hi]
   unfold Y2 Z1z
   by_cases ho : (i : Int) = other
   ·simp [ho]; omega
   ·simp [ho]; omega
  ·have hi : i < n := hi
   show (swI _ (X8 secret other n) j).index ≠ (swI _ (X8 secret other n) i).index
   unfold swI
   rw [WP hi, WP (by omega)]
   show (j : Int) ≠ (i : Int)
   omega
  ·show ZL (swO key (amM (Zp (Zj t s)))) = true
   have hpos : 0 < amM (Zp (Zj t s)) := by
    rw [e]
    have hne : (Zp (Zj t s)) ≠ [] := fun hh => by rw [hh] at hl; simp at hl; exact h0 (by simpa using hl.symm)
    obtain ⟨m, r, hmr⟩ := List.exists_cons_of_ne_nil hne
    rw [hmr] at hA ⊢
    have h1 := hA m.o.amount (by simp)
    have pos : ∀ l : List Int, (∀ x ∈ l, 0 < x) → 0 ≤ l.sum := fun l => by
     induction l with
     | nil => simp
     | cons x r ih =>
      intro hx
      have := hx x (by simp)
      have := ih fun y hy => hx y (by simp [hy])
      simp; omega
    have h2 := pos (r.map fun m => m.o.amount) fun x hx => (hA x (by simp at hx ⊢; exact .inr hx)).1
    simp; omega
   unfold ZL swO
   simp
   omega
  ·show (amL (fun _ => swO key (amM (Zp (Zj t s)))) 1).sum ≤ _
   simp [amL, swO]
   omega
end Go.Tk
end
section
namespace Go.Tk
open IntKind (i64 u8 u32 u64 wrap)
theorem QW {f g : Nat → List Int} : ∀ n, (∀ i, i < n → f i = g i) → VE f n = VE g n
 | 0, _ => rfl
 | n + 1, h => by
  simp only [VE]
  rw [QW n (fun i hi => h i (by omega)), h n (Nat.lt_succ_self _)]
theorem Z8x {a b : TxS} (h1 : a.num = b.num) (h2 : a.N = b.N) (h3 : a.M = b.M) (h4 : ∀ i, i < a.N → (a.ins i).name = (b.ins i).name ∧ (a.ins i).index = (b.ins i).index) (h5 : ∀ i, i < a.M → a.outs i = b.outs i) : Ys a = Ys b := by
 have e1 : VE (fun j => inW Y3 true (a.ins j)) a.N = VE (fun j => inW Y3 true (b.ins j)) b.N := by
  rw [← h2]
  refine QW _ fun i hi => ?_
  obtain ⟨g1, g2⟩ := h4 i hi
  unfold inW
  rw [g1, g2]
 have e2 : VE (fun j => Z5f Y3 (a.outs j)) a.M = VE (fun j => Z5f Y3 (b.outs j)) b.M := by
  rw [← h3]
  exact QW _ fun i hi => by rw [h5 i hi]
 unfold Ys Z0i Xw W3
 rw [e1, e2, h1, h2, h3]
def QX (t : TxS) (a b : List Int) : TxS := ⟨t.num, t.N, Z8m YU t a b t.N, t.M, t.outs⟩
theorem Q2 {t : TxS} {a b : List Int} {j : Nat} (hj : j < t.N) : (QX t a b).ins j = WR (YU (loH a b) t) (YU (hiH a b) t) (YU a t) (t.ins j) := if_pos hj
theorem Q3 (tl th ta : List Int) (x : InS) : (WR tl th ta x).name = x.name ∧ (WR tl th ta x).index = x.index ∧ (WR tl th ta x).way = x.way ∧ (WR tl th ta x).secret = x.secret := by
 unfold WR
 split
 ·exact ⟨rfl, rfl, rfl, rfl⟩
 ·split <;> exact ⟨rfl, rfl, rfl, rfl⟩
theorem Z4y (t : TxS) (a b : List Int) : Ys (QX t a b) = Ys t :=
 Z8x rfl rfl rfl (fun i hi => by
  have hi : i < t.N := hi
  rw [Q2 hi]; exact ⟨(Q3 _ _ _ _).1, (Q3 _ _ _ _).2.1⟩) (fun _ _ => rfl)
theorem Z9B {t : TxS} {a b : List Int} (ht : t.Ok) : (QX t a b).Ok := ⟨ht.n, ht.m, fun i hi => by
 have hi : i < t.N := hi
 rw [Q2 hi]
 have h0 := ht.ins i hi
 unfold WR
 split
 ·exact ⟨h0.name, Z0X _ _, Z0X _ _, h0.secret⟩
 ·split
  ·exact h0
  ·exact ⟨h0.name, Z0X _ _, h0.also, h0.secret⟩, ht.outs⟩
theorem Z8y {tl th ta : List Int} {x : InS} (h : Y2 x = true) : Y2 (WR tl th ta x) = true := by
 unfold Y2 at h ⊢
 unfold WR
 by_cases h1 : x.way = 1
 ·simp [h1] at h ⊢; exact h
 ·by_cases h4 : x.way = 4
  ·rw [if_neg h1, if_pos h4]; exact h
  ·rw [if_neg h1, if_neg h4]
   simp [h1, h4] at h ⊢
   exact h
theorem Z9C {t : TxS} {a b : List Int} (h : Y6 ZS t = true) : Y6 ZS (QX t a b) = true := by
 rw [← Z0Y] at h ⊢
 unfold Z2W at h ⊢
 simp only [Bool.and_eq_true, decide_eq_true_eq, List.all_eq_true, List.mem_range] at h ⊢
 obtain ⟨⟨⟨⟨⟨h1, h2⟩, h3⟩, h4⟩, h5⟩, h6⟩ := h
 refine ⟨⟨⟨⟨⟨h1, h2⟩, h3⟩, fun i hi => ?_⟩, h5⟩, h6⟩
 have hi : i < t.N := hi
 have h := h4 i hi
 unfold okI at h ⊢
 rw [Q2 hi]
 simp only [Bool.and_eq_true, Bool.not_eq_true', List.any_eq_false, List.mem_range] at h ⊢
 refine ⟨Z8y h.1, fun j hj hs => ?_⟩
 have hj' : j < t.N := by omega
 rw [WK, Q2 hj'] at hs
 obtain ⟨c1, c2, _⟩ := Q3 (YU (loH a b) t) (YU (hiH a b) t) (YU a t) (t.ins i)
 obtain ⟨c3, c4, _⟩ := Q3 (YU (loH a b) t) (YU (hiH a b) t) (YU a t) (t.ins j)
 rw [c1, c2, c3, c4] at hs
 exact h.2 j hj (WK.2 hs)
theorem Z6W {t : TxS} {at_ : Int} {o : Zs} {height : Int} (h1 : Y6 ZS t = true) (h2 : 0 ≤ at_ ∧ at_ < t.N) (h3 : ZL o = true) (h4 : 0 ≤ height) (h5 : Vj V5 YT XJ (Ys t) (t.ins at_.toNat) o 0 height = true) : YY t at_ o 0 height = 0 := by
 unfold YY
 rw [Z6r (by
  rintro (h | h | h | h | h | h)
  ·rw [h1] at h; cases h
  ·omega
  ·omega
  ·rw [h3] at h; cases h
  ·omega
  ·omega), if_pos h5]
theorem HoC.spends {t : Zo} {s : ShS} (h : HoC t s) (h0 : (Zj t s).length ≠ 0) {secret : List Int} (hsec : secret.length = 32) (hpt : s.point = XJ secret) {n : Nat} (hn : n = (Zp (Zj t s)).length) {height : Int} (hh : 0 ≤ height) {j : Nat} (hj : j < n) :
  YY (QX (swX (Ys (txM t s.num (Zp (Zj t s)))) (UH t s) (X8 secret (plN (Zp (Zj t s)) (-2) n) n) n (amM (Zp (Zj t s)))) (UH t s) (UH t s)) j ((Zp (Zj t s)).getD j ZI).o 0 height = 0 := by
 have hg := (h.go h0 (key := UH t s) hsec (other := plN (Zp (Zj t s)) (-2) n) hn).ck
 have hw := Z3g (Z3f t s)
 have hjl : j < (Zp (Zj t s)).length := by omega
 have hm : (Zp (Zj t s)).getD j ZI ∈ Zj t s := by
  rw [List.getD_eq_getElem?_getD, List.getElem?_eq_getElem hjl]
  exact (Xx _).mem_iff.1 (List.getElem_mem hjl)
 refine Z6W (Z9C hg) ⟨by omega, by show (j : Int) < (n : Int); omega⟩ (h.right _ hm) hh ?_
 rw [Z4y, Int.toNat_natCast, Q2 (show j < n from hj)]
 show Vj _ _ _ _ (WR _ _ _ (swI _ (X8 secret _ n) j)) _ _ _ = true
 unfold swI
 rw [WP hj]
 have hne : ((Zp (Zj t s)).getD j ZI).what ≠ -2 → ¬ ((j : Int) = plN (Zp (Zj t s)) (-2) n) := fun hw2 he => by
  rcases Wu (Zp (Zj t s)) (-2) n with ⟨h1, _⟩ | ⟨q, h1, h2, h3⟩
  ·omega
  ·have e : j = q := by omega
   rw [e] at hw2; exact hw2 h2
 have heq : ((Zp (Zj t s)).getD j ZI).what = -2 → (j : Int) = plN (Zp (Zj t s)) (-2) n := fun hw2 => by
  rcases Wu (Zp (Zj t s)) (-2) n with ⟨_, h1⟩ | ⟨q, h1, h2, h3⟩
  ·exact absurd hw2 (h1 j hj)
  ·rw [h3]
   rcases Nat.lt_trichotomy j q with g | g | g
   ·exact absurd (hw2.trans h2.symm) (hw.at g (by omega))
   ·rw [g]
   ·exact absurd (h2.trans hw2.symm) (hw.at g (by omega))
 rcases XC.1 hm with ⟨_, e⟩ | ⟨_, e⟩ | ⟨i, _, _, e⟩
 ·have hno := hne (by rw [e]; show (-1 : Int) ≠ -2; decide)
  rw [e]
  unfold Z1z
  simp only [if_neg hno]
  unfold WR Vj
  simp [hpt]
 ·have hyes := heq (by rw [e])
  rw [e]
  unfold Z1z
  simp only [if_pos hyes]
  unfold WR Vj
  simp [QQ]
 ·have hno := hne (by rw [e]; show (i : Int) ≠ -2; omega)
  rw [e]
  unfold Z1z
  simp only [if_neg hno]
  unfold WR Vj W6
  by_cases hf : (s.g i).frm = s.owner
  ·simp [hpt, hf]
  ·simp [hpt, hf]
theorem Z4z {x y : List Int} (h : x.length = y.length) (hx : Bytes x) (hy : Bytes y) (hne : x ≠ y) : (XD x y > 0 ∧ ¬ XD y x > 0) ∨ (¬ XD x y > 0 ∧ XD y x > 0) := by
 have h1 := UZ h
 have h2 := UZ h.symm
 have h3 : YA x ≠ YA y := fun e => hne (Z3k h hx hy e)
 omega
theorem HoC.fund_ok {t : Zo} {s : ShS} (h : HoC t s) : ZL (XB t) = true ∧ (XB t).Ok := by
 obtain ⟨x, c, d, f, e, hk⟩ := h.term
 have ha := Z4z (h.ht.k0.trans h.ht.k1.symm) h.ht.b0 h.ht.b1 hk
 have hs := UZ (h.ht.k0.trans h.ht.k1.symm)
 constructor
 ·unfold ZL XB
  rcases ha with ⟨a1, a2⟩ | ⟨a1, a2⟩
  ·simp only [if_pos a1]
   simp
   omega
  ·simp only [if_neg a1]
   simp
   omega
 ·unfold XB
  refine ⟨?_, ?_, rfl, rfl⟩
  ·show (if XD t.k0 t.k1 > 0 then t.k1 else t.k0).length = 32
   split; exact h.ht.k1; exact h.ht.k0
  ·show (if XD t.k0 t.k1 > 0 then t.k0 else t.k1).length = 32
   split; exact h.ht.k0; exact h.ht.k1
theorem HoC.funds {t : Zo} {s : ShS} (h : HoC t s) (h0 : (Zj t s).length ≠ 0) {height : Int} (hh : 0 ≤ height) : YY (QX (txM t s.num (Zp (Zj t s))) t.k1 t.k0) 0 (XB t) 0 height = 0 := by
 obtain ⟨x, c, d, f, e, hk⟩ := h.term
 have ha := Z4z (h.ht.k0.trans h.ht.k1.symm) h.ht.b0 h.ht.b1 hk
 refine Z6W (Z9C (h.ck h0)) ⟨Int.le_refl _, by show (0 : Int) < (1 : Nat); decide⟩ h.fund_ok.1 hh ?_
 rw [Z4y, show ((0 : Int).toNat) = 0 from rfl, Q2 (show 0 < 1 from Nat.one_pos)]
 show Vj _ _ _ _ (WR _ _ _ (X9 t)) _ _ _ = true
 unfold WR X9 Vj XB loH hiH
 rcases ha with ⟨a1, a2⟩ | ⟨a1, a2⟩
 ·simp [a1, a2, QQ]
 ·simp [a1, a2, QQ]
end Go.Tk
end
section
namespace Go.Tk
open IntKind (i64 u8 u32 u64 wrap)
end Go.Tk
end
section
namespace Go.Tk
open IntKind (i64 u8 u32 u64 wrap)
end Go.Tk
end
section
namespace Go.Tk
open IntKind (i64 u8 u32 u64 wrap)
def p77 : ZD := ⟨0, 77, 0, Z5, 0⟩
theorem Z0w {k : Nat} {τ : Ren} {n : Nat} {f : Nat → List AV} {g : Nat → ZD} (h : ∀ i, i < n → f i = (g i).c) : Zc k τ n (ZQ g) f := VB h (fun _ _ => rfl) (fun i _ v hv => by
 simp only [ZQ, ZD.c, List.mem_cons, List.not_mem_nil, or_false] at hv
 rcases hv with rfl | rfl | rfl | rfl | rfl
 ·exact .inl rfl
 ·exact .inl rfl
 ·exact .inl rfl
 ·exact .inr ⟨_, _, _, rfl⟩
 ·exact .inl rfl)
def ZjZ (A : List Int → Int × Int) : Y9 := fun args h K => ZH none h true 20 args fun a => match a with
 | [.agg [.arr .u8 32 fu, .int .i64 ix, .int .i64 ca, .int .i64 du, .int .i64 fe, .int .i64 de, .arr .u8 32 k0, .arr .u8 32 k1], .agg l] => (Zo.Ok ⟨fu, ix, ca, du, fe, de, k0, k1⟩) ∧ ∃ s, Z1y l s ∧ s.Ok ∧ s.n < 1000 ∧ shB A ⟨fu, ix, ca, du, fe, de, k0, k1⟩ s = false ∧ K (.ret (.tuple [.agg txZ, .int .i64 2])) h
 | _ => False
def Zk0 (A : List Int → Int × Int) : Y9 := fun args h K => ZH none h true 20 args fun a => match a with
 | [.agg [.arr .u8 32 fu, .int .i64 ix, .int .i64 ca, .int .i64 du, .int .i64 fe, .int .i64 de, .arr .u8 32 k0, .arr .u8 32 k1], .agg l] => (Zo.Ok ⟨fu, ix, ca, du, fe, de, k0, k1⟩) ∧ ∃ s, Z1y l s ∧ s.Ok ∧ s.n < 1000 ∧ shB A ⟨fu, ix, ca, du, fe, de, k0, k1⟩ s = true ∧ (Zj ⟨fu, ix, ca, du, fe, de, k0, k1⟩ s).length = 0 ∧ K (.ret (.tuple [.agg txZ, .int .i64 180])) h
 | _ => False
def ZfK (A : List Int → Int × Int) : Y9 := fun args h K => ZH none h true 20 args fun a => match a with
 | [.agg [.arr .u8 32 fu, .int .i64 ix, .int .i64 ca, .int .i64 du, .int .i64 fe, .int .i64 de, .arr .u8 32 k0, .arr .u8 32 k1], .agg l] => (Zo.Ok ⟨fu, ix, ca, du, fe, de, k0, k1⟩) ∧ ∃ s n L, Z1y l s ∧ s.Ok ∧ s.n < 1000 ∧ shB A ⟨fu, ix, ca, du, fe, de, k0, k1⟩ s = true ∧ (L = Zp (Zj ⟨fu, ix, ca, du, fe, de, k0, k1⟩ s) ∧ n = L.length ∧ n ≠ 0) ∧ K (.ret (.tuple [.agg [.int .i64 s.num, .nslice ⟨h.next, 0, 0, 0, 0⟩ 130 1 1, .nslice ⟨h.next + 1, 0, 132, 0, 0⟩ 132 n n], .int .i64 0])) ⟨h.next + 2, (h.next, .flat (InS.c ⟨fu, ix, 1, Z5, Z5, Z5⟩)) :: (h.next + 1, .rows 132 n (Z8 (ZK L))) :: h.bs⟩
 | _ => False
theorem Zdr {A : List Int → Int × Int} {args : List AV} {h : Z7} {K : KO} (hl : ZjZ A args h K) : coF A args h K := Zq _ _ _ _ _ hl fun a ha => by
 split at ha
 ·obtain ⟨ht, s, hs, ho, hn, hb, hK⟩ := ha
  exact ⟨ht, s, hs, ho, hn, fun _ => hK, fun h => by rw [hb] at h; cases h⟩
 ·exact ha.elim
theorem Zds {A : List Int → Int × Int} {args : List AV} {h : Z7} {K : KO} (hl : Zk0 A args h K) : coF A args h K := Zq _ _ _ _ _ hl fun a ha => by
 split at ha
 ·obtain ⟨ht, s, hs, ho, hn, hb, h0, hK⟩ := ha
  exact ⟨ht, s, hs, ho, hn, (fun h => by rw [hb] at h; cases h), fun _ => ⟨fun _ => hK, fun n L e1 e2 e3 => absurd (by rw [e2, e1, ZU]; exact h0) e3⟩⟩
 ·exact ha.elim
theorem Z6X {A : List Int → Int × Int} {args : List AV} {h : Z7} {K : KO} (hl : ZfK A args h K) : coF A args h K := Zq _ _ _ _ _ hl fun a ha => by
 split at ha
 ·obtain ⟨ht, s, n, L, hs, ho, hn, hb, ⟨e1, e2, e3⟩, hK⟩ := ha
  exact ⟨ht, s, hs, ho, hn, (fun h => by rw [hb] at h; cases h), fun _ => ⟨fun h0 => absurd (by rw [e2, e1, ZU]; exact h0) e3, fun n' L' f1 f2 _ => by rw [f2, f1, ← e1, ← e2]; exact hK⟩⟩
 ·exact ha.elim
def ZfL (A : List Int → Int × Int) : Y9 := fun args h K => ZH none h true 20 args fun a => match a with
 | [.agg [.arr .u8 32 fu, .int .i64 ix, .int .i64 ca, .int .i64 du, .int .i64 fe, .int .i64 de, .arr .u8 32 k0, .arr .u8 32 k1], .agg l] => (Zo.Ok ⟨fu, ix, ca, du, fe, de, k0, k1⟩) ∧ ∃ s n m L X a b, Z1y l s ∧ s.Ok ∧ s.n < 1000 ∧ shB A ⟨fu, ix, ca, du, fe, de, k0, k1⟩ s = true ∧ (L = Zp (Zj ⟨fu, ix, ca, du, fe, de, k0, k1⟩ s) ∧ n = L.length ∧ n ≠ 0 ∧ m = s.n ∧ X = plX L n m ∧ a = plN L (-1) n ∧ b = plN L (-2) n) ∧ K (.ret (.tuple [.nslice ⟨h.next, 0, 0, 0, 0⟩ 1 m m, .int .i64 a, .int .i64 b, .int .i64 0])) ⟨h.next + 1, (h.next, .ints .i64 X) :: h.bs⟩
 | _ => False
theorem Z6Y {A : List Int → Int × Int} {args : List AV} {h : Z7} {K : KO} (hl : ZfL A args h K) : ZjY A args h K := Zq _ _ _ _ _ hl fun a ha => by
 split at ha
 ·obtain ⟨ht, s, n, m, L, X, a, b, hs, ho, hn, hb, ⟨e1, e2, e3, e4, e5, e6, e7⟩, hK⟩ := ha
  exact ⟨ht, s, hs, ho, hn, (fun h => by rw [hb] at h; cases h), fun _ => ⟨fun h0 => absurd (by rw [e2, e1, ZU]; exact h0) e3, fun n' m' L' X' a' b' f1 f2 _ f4 f5 f6 f7 => by rw [f7, f6, f5, f4, f2, f1, ← e1, ← e2, ← e4, ← e5, ← e6, ← e7]; exact hK⟩⟩
 ·exact ha.elim
end Go.Tk
end
section
namespace Go.Tk
open IntKind (i64 u8 u32 u64 wrap)
structure HoS where
 t : Zo
 s : ShS
 sec : List Int
 hgt : Int
 L : List Ze
 n : Nat
def HoS.b (y : HoS) : List (Nat × Blk) := [(0, .flat y.t.c), (1, .flat y.s.c), (2, .flat [.arr .u8 32 y.sec]), (3, .flat [.int .i64 y.s.num, .nslice ⟨4, 0, 0, 0, 0⟩ 130 1 1, .nslice ⟨5, 0, 132, 0, 0⟩ 132 y.n y.n]), (4, .flat (InS.c (X9 y.t))), (5, .rows 132 y.n (Z8 (ZK y.L)))]
def HoS.tm (y : HoS) : ZY := [(4, pt0 0), (5, pt0 1), (6, pt0 2), (9, pt0 3), (3, .int .i64 y.hgt), (12, .int .i64 0)]
def HoS.s0 (y : HoS) (u : Int) (i : Nat) : St := ⟨306, (13, .int .i64 i) :: (11, .int .i64 u) :: y.tm, ⟨6, y.b⟩, []⟩
def HoS.e0 (y : HoS) (u : Int) : St := ⟨306, (11, .int .i64 u) :: y.tm, ⟨6, y.b⟩, []⟩
theorem Xt {k : Nat} {τ : Ren} {n : Nat} {g : Nat → Zs} : Zc k τ n (Z8 g) (Z8 g) := Y7 fun _ _ => rfl
theorem ZkY (y : HoS) (u u1 : Int) (i : Nat) (Z1 Z2 : Prop) (hn : y.n < 20) (hi : i ≤ y.n) (hu : 0 ≤ u ∧ u ≤ 400 + i * 1125899906842624) (hu1 : i < y.n → u1 = u + (ZK y.L i).amount) (ha : i < y.n → 0 ≤ (ZK y.L i).amount ∧ (ZK y.L i).amount ≤ 1125899906842624) (h1 : i < y.n → Z1) (h2 : i = y.n → Z2) :
  ZF G0 20 6 0 0 (y.s0 u i) (rdM 0 0 9 (y.s0 u1 (i + 1)) (y.e0 u) (y.e0 u) (y.e0 u) Z1 Z2 False False) := by
 refine @Eq.mpr _ (let q1 := y.n;
 let q2 := 0 + Int.toNat (↑i : Int);
 let q3 := decide (y.hgt = y.hgt);
 let q4 := y.t;
 let q5 := q4.fund;
 let q6 := q5 = q5;
 let q7 := q4.index;
 let q8 := decide (q7 = q7);
 let q9 := q4.cap;
 let q10 := decide (q9 = q9);
 let q11 := q4.dust;
 let q12 := decide (q11 = q11);
 let q13 := q4.fee;
 let q14 := decide (q13 = q13);
 let q15 := q4.delay;
 let q16 := decide (q15 = q15);
 let q17 := q4.k0;
 let q18 := q17 = q17;
 let q19 := q4.k1;
 let q20 := q19 = q19;
 let q21 := y.s;
 let q22 := q21.num;
 let q23 := decide (q22 = q22);
 let q24 := q21.owner;
 let q25 := decide (q24 = q24);
 let q26 := q21.point;
 let q27 := q26 = q26;
 let q28 := [q21.a0, q21.a1];
 let q29 := q28 = q28;
 let q30 := q21.n;
 let q31 := decide (q30 = q30);
 let q32 := ZQ q21.g;
 let q33 := q32 = q32;
 let q34 := y.sec = y.sec;
 let q35 := decide (q1 = q1);
 let q36 := decide (q1 ≤ q1);
 let q37 := X9 q4;
 let q38 := q37.name;
 let q39 := q38 = q38;
 let q40 := q37.index;
 let q41 := decide (q40 = q40);
 let q42 := q37.tag;
 let q43 := q42 = q42;
 let q44 := q37.also;
 let q45 := q44 = q44;
 let q46 := q37.secret;
 let q47 := q46 = q46;
 let q48 := Z8 (ZK y.L);
 let q49 := Zc 0 [(5, 5), (4, 4), (3, 3), (2, 2), (1, 1), (0, 0)] q1 q48 q48;
 Z0 (decide ((↑i : Int) < (↑q1 : Int))) (Z0 (decide (0 ≤ (↑i : Int) ∧ (↑i : Int) < (↑q1 : Int))) (Z0 (decide (q2 < q1)) (Z0 (decide (wrap i64 ((↑i : Int) + 1) = (↑(i + 1) : Int))) (Z0 (decide (wrap i64 (u + (ZK y.L q2).amount) = u1)) (Z0 q3 (q6 ∧ Z0 q8 (Z0 q10 (Z0 q12 (Z0 q14 (Z0 q16 (q18 ∧ q20 ∧ Z0 q23 (Z0 q25 (q27 ∧ q29 ∧ Z0 q31 (q33 ∧ Z0 q31 (q34 ∧ Z0 q23 (Z0 q35 (Z0 q36 (q39 ∧ Z0 q41 (q43 ∧ q45 ∧ q47 ∧ Z0 q35 (q49 ∧ Z1) False) False) False) False) False) False) False) False) False) False) False) False) False) False) False) False) False) False) False) (Z0 (decide (u = u)) (Z0 q3 (q6 ∧ Z0 q8 (Z0 q10 (Z0 q12 (Z0 q14 (Z0 q16 (q18 ∧ q20 ∧ Z0 q23 (Z0 q25 (q27 ∧ q29 ∧ Z0 q31 (q33 ∧ Z0 q31 (q34 ∧ Z0 q23 (Z0 q35 (Z0 q36 (q39 ∧ Z0 q41 (q43 ∧ q45 ∧ q47 ∧ Z0 q35 (q49 ∧ Z2) False) False) False) False) False) False) False) False) False) False) False) False) False) False) False) False)) (by kernel_rfl) ?_
 conv => zeta
 try simp only [Zg]
 try simp only [Zl]
 try simp only [Zh]
 try simp only [Zm]
 try simp only [Zn]
 try simp only [Zf]
 try simp only [Int.toNat_natCast, Nat.zero_add, true_and, and_true, Nat.le_refl]
 refine ⟨fun hc => ?_, fun hc => ⟨Xt, h2 (by omega)⟩⟩
 have hlt : i < y.n := by omega
 have hu1 := hu1 hlt
 have ha := ha hlt
 exact ⟨by omega, hlt, by rw [w64 (by omega)]; omega, by rw [hu1, w64 (by omega)], Xt, h1 hlt⟩
def HoS.tb (y : HoS) (x k : Nat) : List AV := [.int .i64 y.s.num, .int .i64 y.s.owner, .arr .u8 32 y.s.point, .arr .i64 2 [y.s.a0, y.s.a1], .nslice ⟨x, 0, 36, 0, 0⟩ 36 k k]
def HoS.h2 (y : HoS) (X V : List Int) (k : Nat) : Z7 := ⟨10, (6, .ints .i64 X) :: (7, .ints .i64 V) :: (8, .flat (y.tb 9 k)) :: (9, .rows 36 k (ZQ (shT y.s).g)) :: y.b⟩
def HoS.t2 (y : HoS) (u ot : Int) (V : List Int) : ZY := (14, .nslice ⟨6, 0, 0, 0, 0⟩ 1 y.s.n y.s.n) :: (19, .nslice ⟨7, 0, 0, 0, 0⟩ 1 V.length V.length) :: (20, pt0 8) :: (11, .int .i64 u) :: (16, .int .i64 ot) :: y.tm
def HoS.s2 (y : HoS) (u ot : Int) (X V : List Int) (k : Nat) : St := ⟨306, (21, .int .i64 ((y.s.n : Int) - 1 - k)) :: y.t2 u ot V, y.h2 X V k, []⟩
def HoS.h2e (y : HoS) (V : List Int) (k : Nat) : Z7 := ⟨9, (6, .ints .i64 V) :: (7, .flat (y.tb 8 k)) :: (8, .rows 36 k (ZQ (shT y.s).g)) :: y.b⟩
def HoS.t2e (y : HoS) (u ot : Int) (V : List Int) : ZY := (19, .nslice ⟨6, 0, 0, 0, 0⟩ 1 V.length V.length) :: (20, pt0 7) :: (11, .int .i64 u) :: (16, .int .i64 ot) :: y.tm
def HoS.e2 (y : HoS) (u ot : Int) (V : List Int) (k : Nat) : St := ⟨306, y.t2e u ot V, y.h2e V k, []⟩
theorem ZkZ (y : HoS) (u ot : Int) (X V V1 : List Int) (k : Nat) (Z1 Z2 : Prop) (hn : y.s.n ≤ 20) (hk : k ≤ y.s.n) (hX : X.length = y.s.n) (hV : V.length ≤ 30) (hV1 : k < y.s.n → V1 = V ++ (if X.getD (y.s.n - 1 - k) 0 < 0 then [(y.s.g (y.s.n - 1 - k)).amount] else [])) (h1 : k < y.s.n → Z1) (h2 : k = y.s.n → Z2) :
  ZF G0 20 6 2 0 (y.s2 u ot X V k) (rdM 0 2 9 (y.s2 u ot X V1 (k + 1)) (y.e2 u ot V k) (y.e2 u ot V k) (y.e2 u ot V k) Z1 Z2 False False) := by
 refine @Eq.mpr _ (let q1 := y.s;
 let q2 := q1.n;
 let q3 := (↑q2 : Int);
 let q4 := q3 - 1;
 let q5 := q4 - (↑k : Int);
 let q6 := decide (0 ≤ q5 ∧ q5 < q3);
 let q7 := Int.toNat q5;
 let q8 := 0 + q7;
 let q9 := List.length V;
 let q10 := q1.g q7;
 let q11 := q10.amount;
 let q12 := V ++ [q11];
 let q13 := List.length q12;
 let q14 := decide (k = k);
 let q15 := k + 1;
 let q16 := decide (q15 * 64 ≤ 140737488355328);
 let q17 := decide (wrap i64 (q5 - 1) = q4 - (↑q15 : Int));
 let q18 := decide (q2 = q2);
 let q19 := decide (q2 ≤ q2);
 let q20 := List.length V1;
 let q21 := decide (u = u);
 let q22 := decide (ot = ot);
 let q23 := decide (y.hgt = y.hgt);
 let q24 := q1.num;
 let q25 := decide (q24 = q24);
 let q26 := q1.owner;
 let q27 := decide (q26 = q26);
 let q28 := q1.point;
 let q29 := q28 = q28;
 let q30 := [q1.a0, q1.a1];
 let q31 := q30 = q30;
 let q32 := decide (q15 = q15);
 let q33 := decide (q15 ≤ q15);
 let q34 := [(6, 6)];
 let q35 := (5, 5) :: (4, 4) :: (9, 13) :: (3, 3) :: (2, 2) :: (1, 1) :: (0, 0) :: (8, 8) :: (7, 11) :: q34;
 let q36 := ZQ (shT q1).g;
 let q37 := Yf k q36 (ZO [AV.int i64 q10.frm, AV.int i64 q10.id, AV.int i64 q11, AV.arr u8 32 q10.hash, AV.int i64 q10.expiry] 0 36);
 let q38 := y.t;
 let q39 := q38.fund;
 let q40 := q39 = q39;
 let q41 := q38.index;
 let q42 := decide (q41 = q41);
 let q43 := q38.cap;
 let q44 := decide (q43 = q43);
 let q45 := q38.dust;
 let q46 := decide (q45 = q45);
 let q47 := q38.fee;
 let q48 := decide (q47 = q47);
 let q49 := q38.delay;
 let q50 := decide (q49 = q49);
 let q51 := q38.k0;
 let q52 := q51 = q51;
 let q53 := q38.k1;
 let q54 := q53 = q53;
 let q55 := ZQ q1.g;
 let q56 := q55 = q55;
 let q57 := y.sec = y.sec;
 let q58 := y.n;
 let q59 := decide (q58 = q58);
 let q60 := decide (q58 ≤ q58);
 let q61 := X9 q38;
 let q62 := q61.name;
 let q63 := q62 = q62;
 let q64 := q61.index;
 let q65 := decide (q64 = q64);
 let q66 := q61.tag;
 let q67 := q66 = q66;
 let q68 := q61.also;
 let q69 := q68 = q68;
 let q70 := q61.secret;
 let q71 := q70 = q70;
 let q72 := Z8 (ZK y.L);
 let q73 := (5, 5) :: (4, 4) :: (9, 11) :: (3, 3) :: (2, 2) :: (1, 1) :: (0, 0) :: (8, 8) :: (7, 7) :: q34;
 let q74 := [(5, 5), (4, 4), (8, 9), (3, 3), (2, 2), (1, 1), (0, 0), (7, 8), (6, 7)];
 Z0 (decide (q5 ≥ 0))
 (Z0 q6
 (Z0 (decide (q8 < List.length X))
 (Z0 (decide (List.getD X q8 0 < 0)) (Z0 q6 (Z0 (decide (i64 = i64 ∧ q9 = q9)) (Z0 (decide (q13 * 8 ≤ 140737488355328)) (Z0 q6 (Z0 q14 (Z0 q14 (Z0 q14 (Z0 q16 (Z0 q17 (Z0 q18 (Z0 q19 (Z0 (decide (q13 = q20)) (Z0 (decide (q20 ≤ q13)) (Z0 q21 (Z0 q22 (Z0 q23 (X = X ∧ q12 = V1 ∧ Z0 q25 (Z0 q27 (q29 ∧ q31 ∧ Z0 q32 (Z0 q33 (Z0 q32 (Zc 0 q35 q15 q36 q37 ∧ q40 ∧ Z0 q42 (Z0 q44 (Z0 q46 (Z0 q48 (Z0 q50 (q52 ∧ q54 ∧ Z0 q25 (Z0 q27 (q29 ∧ q31 ∧ Z0 q18 (q56 ∧ Z0 q18 (q57 ∧ Z0 q25 (Z0 q59 (Z0 q60 (q63 ∧ Z0 q65 (q67 ∧ q69 ∧ q71 ∧ Z0 q59 (Zc 0 q35 q58 q72 q72 ∧ Z1) False) False) False) False) False) False) False) False) False) False) False) False) False) False) False) False) False) False) False) False) False) False) False) False) False) False) False) False) False) False) False) False) False) False) False)
 (Z0 q6 (Z0 q14 (Z0 q14 (Z0 q14 (Z0 q16 (Z0 q17 (Z0 q18 (Z0 q19 (Z0 (decide (q9 = q20)) (Z0 (decide (q20 ≤ q9)) (Z0 q21 (Z0 q22 (Z0 q23 (X = X ∧ V = V1 ∧ Z0 q25 (Z0 q27 (q29 ∧ q31 ∧ Z0 q32 (Z0 q33 (Z0 q32 (Zc 0 q73 q15 q36 q37 ∧ q40 ∧ Z0 q42 (Z0 q44 (Z0 q46 (Z0 q48 (Z0 q50 (q52 ∧ q54 ∧ Z0 q25 (Z0 q27 (q29 ∧ q31 ∧ Z0 q18 (q56 ∧ Z0 q18 (q57 ∧ Z0 q25 (Z0 q59 (Z0 q60 (q63 ∧ Z0 q65 (q67 ∧ q69 ∧ q71 ∧ Z0 q59 (Zc 0 q73 q58 q72 q72 ∧ Z1) False) False) False) False) False) False) False) False) False) False) False) False) False) False) False) False) False) False) False) False) False) False) False) False) False) False) False) False) False) False) False) False))
 False)
 False)
 (Z0 (decide (q9 = q9)) (Z0 (decide (q9 ≤ q9)) (Z0 q21 (Z0 q22 (Z0 q23 (V = V ∧ Z0 q25 (Z0 q27 (q29 ∧ q31 ∧ Z0 q14 (Z0 (decide (k ≤ k)) (Z0 q14 (Zc 0 q74 k q36 q36 ∧ q40 ∧ Z0 q42 (Z0 q44 (Z0 q46 (Z0 q48 (Z0 q50 (q52 ∧ q54 ∧ Z0 q25 (Z0 q27 (q29 ∧ q31 ∧ Z0 q18 (q56 ∧ Z0 q18 (q57 ∧ Z0 q25 (Z0 q59 (Z0 q60 (q63 ∧ Z0 q65 (q67 ∧ q69 ∧ q71 ∧ Z0 q59 (Zc 0 q74 q58 q72 q72 ∧ Z2) False) False) False) False) False) False) False) False) False) False) False) False) False) False) False) False) False) False) False) False) False) False) False) False)) (by kernel_rfl) ?_
 conv => zeta
 try simp only [Zg]
 try simp only [Zl]
 try simp only [Zh]
 try simp only [Zm]
 try simp only [Zn]
 try simp only [Zf]
 try simp only [Int.toNat_natCast, Nat.zero_add, true_and, and_true, Nat.le_refl]
 have rP : ∀ {k τ n} {g : Nat → ZD}, Zc k τ n (ZQ g) (ZQ g) := Z0w fun _ _ => rfl
 refine ⟨fun hc => ?_, fun hc => ⟨rP, Xt, h2 (by omega)⟩⟩
 have hlt : k < y.s.n := by omega
 have hV1 := hV1 hlt
 have hZ := h1 hlt
 have hj : ((y.s.n : Int) - 1 - k).toNat = y.s.n - 1 - k := by omega
 have hw : i64.wrap ((y.s.n : Int) - 1 - k - 1) = (y.s.n : Int) - 1 - ((k + 1 : Nat) : Int) := by rw [w64 (by omega)]; omega
 rw [hj, hw]
 have hrow : ∀ {τ}, Zc 0 τ (k + 1) (ZQ (shT y.s).g) (Yf k (ZQ (shT y.s).g) (ZO (ZD.c (y.s.g (y.s.n - 1 - k))) 0 36)) := Z0w fun i hi => by
  rcases Nat.lt_or_ge i k with h | h
  ·rw [UX h]; rfl
  ·have e : i = k := by omega
   subst e
   rw [XW (Nat.le_refl _), Nat.sub_self]; rfl
 refine ⟨by omega, by omega, fun k1 => ?_, fun k1 => ?_⟩
 ·rw [if_pos k1] at hV1
  have hl : V1.length = V.length + 1 := by rw [hV1]; simp
  rw [← hV1]
  exact ⟨by omega, by omega, by omega, by omega, rfl, rfl, Nat.le_refl _, rfl, hrow, Xt, hZ⟩
 ·rw [if_neg k1, List.append_nil] at hV1
  subst hV1
  exact ⟨by omega, by omega, rfl, rfl, Nat.le_refl _, rfl, hrow, Xt, hZ⟩
def HoS.s4 (y : HoS) (u ot : Int) (V : List Int) (k i : Nat) : St := ⟨306, (22, .int .i64 i) :: y.t2e u ot V, y.h2e V k, []⟩
def HoS.e4 (y : HoS) (u ot : Int) (k : Nat) : St := ⟨306, (20, pt0 6) :: (11, .int .i64 u) :: (16, .int .i64 ot) :: y.tm, ⟨8, (6, .flat (y.tb 7 k)) :: (7, .rows 36 k (ZQ (shT y.s).g)) :: y.b⟩, []⟩
theorem Zl0 (y : HoS) (u u1 ot : Int) (V : List Int) (k i : Nat) (Z1 Z2 : Prop) (hV : V.length ≤ 30) (hi : i ≤ V.length) (hu : 0 ≤ u ∧ u ≤ 1152921504606846976 + i * 1000) (hu1 : i < V.length → u1 = u + V.getD i 0) (ha : i < V.length → 0 ≤ V.getD i 0 ∧ V.getD i 0 < y.t.dust) (hd : y.t.dust ≤ 500) (h1 : i < V.length → Z1) (h2 : i = V.length → Z2) :
  ZF G0 20 6 4 0 (y.s4 u ot V k i) (rdM 0 4 9 (y.s4 u1 ot V k (i + 1)) (y.e4 u ot k) (y.e4 u ot k) (y.e4 u ot k) Z1 Z2 False False) := by
 refine @Eq.mpr _ (let q1 := List.length V;
 let q2 := decide (0 ≤ (↑i : Int) ∧ (↑i : Int) < (↑q1 : Int));
 let q3 := 0 + Int.toNat (↑i : Int);
 let q4 := List.getD V q3 0;
 let q5 := wrap i64 (u + q4);
 let q6 := decide (ot = ot);
 let q7 := decide (y.hgt = y.hgt);
 let q8 := y.s;
 let q9 := q8.num;
 let q10 := decide (q9 = q9);
 let q11 := q8.owner;
 let q12 := decide (q11 = q11);
 let q13 := q8.point;
 let q14 := q13 = q13;
 let q15 := [q8.a0, q8.a1];
 let q16 := q15 = q15;
 let q17 := decide (k = k);
 let q18 := decide (k ≤ k);
 let q19 := [(5, 5), (4, 4), (7, 8), (3, 3), (2, 2), (1, 1), (0, 0), (6, 7)];
 let q20 := ZQ (shT q8).g;
 let q21 := Zc 0 q19 k q20 q20;
 let q22 := y.t;
 let q23 := q22.fund;
 let q24 := q23 = q23;
 let q25 := q22.index;
 let q26 := decide (q25 = q25);
 let q27 := q22.cap;
 let q28 := decide (q27 = q27);
 let q29 := q22.dust;
 let q30 := decide (q29 = q29);
 let q31 := q22.fee;
 let q32 := decide (q31 = q31);
 let q33 := q22.delay;
 let q34 := decide (q33 = q33);
 let q35 := q22.k0;
 let q36 := q35 = q35;
 let q37 := q22.k1;
 let q38 := q37 = q37;
 let q39 := q8.n;
 let q40 := decide (q39 = q39);
 let q41 := ZQ q8.g;
 let q42 := q41 = q41;
 let q43 := y.sec = y.sec;
 let q44 := y.n;
 let q45 := decide (q44 = q44);
 let q46 := decide (q44 ≤ q44);
 let q47 := X9 q22;
 let q48 := q47.name;
 let q49 := q48 = q48;
 let q50 := q47.index;
 let q51 := decide (q50 = q50);
 let q52 := q47.tag;
 let q53 := q52 = q52;
 let q54 := q47.also;
 let q55 := q54 = q54;
 let q56 := q47.secret;
 let q57 := q56 = q56;
 let q58 := Z8 (ZK y.L);
 let q59 := Zc 0 q19 q44 q58 q58;
 let q60 := Z0 (decide (q5 = u)) (Z0 q6 (Z0 q7 (Z0 q10 (Z0 q12 (q14 ∧ q16 ∧ Z0 q17 (Z0 q18 (Z0 q17 (q21 ∧ q24 ∧ Z0 q26 (Z0 q28 (Z0 q30 (Z0 q32 (Z0 q34 (q36 ∧ q38 ∧ Z0 q10 (Z0 q12 (q14 ∧ q16 ∧ Z0 q40 (q42 ∧ Z0 q40 (q43 ∧ Z0 q10 (Z0 q45 (Z0 q46 (q49 ∧ Z0 q51 (q53 ∧ q55 ∧ q57 ∧ Z0 q45 (q59 ∧ False) False) False) False) False) False) False) False) False) False) False) False) False) False) False) False) False) False) False) False) False) False) False;
 let q61 := [(5, 5), (4, 4), (8, 8), (3, 3), (2, 2), (1, 1), (0, 0), (7, 7), (6, 6)];
 Z0 (decide ((↑i : Int) < (↑q1 : Int))) (Z0 q2 (Z0 (decide (q3 < q1)) (Z0 q2 (Z0 (decide (q3 < q1)) (Z0 (decide (q4 < 0)) q60 (Z0 q2 (Z0 (decide (q3 < q1)) (Z0 (decide (q4 ≥ q29)) q60 (Z0 (decide (wrap i64 ((↑i : Int) + 1) = (↑(i + 1) : Int))) (Z0 (decide (q1 = q1)) (Z0 (decide (q1 ≤ q1)) (Z0 (decide (q5 = u1)) (Z0 q6 (Z0 q7 (V = V ∧ Z0 q10 (Z0 q12 (q14 ∧ q16 ∧ Z0 q17 (Z0 q18 (Z0 q17 (Zc 0 q61 k q20 q20 ∧ q24 ∧ Z0 q26 (Z0 q28 (Z0 q30 (Z0 q32 (Z0 q34 (q36 ∧ q38 ∧ Z0 q10 (Z0 q12 (q14 ∧ q16 ∧ Z0 q40 (q42 ∧ Z0 q40 (q43 ∧ Z0 q10 (Z0 q45 (Z0 q46 (q49 ∧ Z0 q51 (q53 ∧ q55 ∧ q57 ∧ Z0 q45 (Zc 0 q61 q44 q58 q58 ∧ Z1) False) False) False) False) False) False) False) False) False) False) False) False) False) False) False) False) False) False) False) False) False) False) False) False) False)) False) False)) False) False) False) False)
 (Z0 (decide (u = u)) (Z0 q6 (Z0 q7 (Z0 q10 (Z0 q12 (q14 ∧ q16 ∧ Z0 q17 (Z0 q18 (Z0 q17 (q21 ∧ q24 ∧ Z0 q26 (Z0 q28 (Z0 q30 (Z0 q32 (Z0 q34 (q36 ∧ q38 ∧ Z0 q10 (Z0 q12 (q14 ∧ q16 ∧ Z0 q40 (q42 ∧ Z0 q40 (q43 ∧ Z0 q10 (Z0 q45 (Z0 q46 (q49 ∧ Z0 q51 (q53 ∧ q55 ∧ q57 ∧ Z0 q45 (q59 ∧ Z2) False) False) False) False) False) False) False) False) False) False) False) False) False) False) False) False) False) False) False) False) False) False)) (by kernel_rfl) ?_
 conv => zeta
 try simp only [Zg]
 try simp only [Zl]
 try simp only [Zh]
 try simp only [Zm]
 try simp only [Zn]
 try simp only [Zf]
 try simp only [Int.toNat_natCast, Nat.zero_add, true_and, and_true, Nat.le_refl]
 have rP : ∀ {k τ n} {g : Nat → ZD}, Zc k τ n (ZQ g) (ZQ g) := Z0w fun _ _ => rfl
 refine ⟨fun hc => ?_, fun hc => ⟨rP, Xt, h2 (by omega)⟩⟩
 have hlt : i < V.length := by omega
 have hu1 := hu1 hlt
 have ha := ha hlt
 refine ⟨by omega, hlt, by omega, hlt, fun k1 => by omega, fun _ => ⟨by omega, hlt, fun k2 => by omega, fun _ => ⟨by rw [w64 (by omega)]; omega, by rw [hu1, w64 (by omega)], rP, Xt, h1 hlt⟩⟩⟩
def HoS.s6 (y : HoS) (ot : Int) (i : Nat) : St := ⟨306, (26, .int .i64 i) :: (25, .nslice ⟨6, 0, 34, 0, 0⟩ 34 i i) :: (16, .int .i64 ot) :: y.tm, ⟨7, (6, .rows 34 i (ZE (X8 y.sec ot y.n))) :: y.b⟩, []⟩
def HoS.e6 (y : HoS) (ot : Int) (i : Nat) : St := ⟨306, (25, .nslice ⟨6, 0, 34, 0, 0⟩ 34 i i) :: (16, .int .i64 ot) :: y.tm, ⟨7, (6, .rows 34 i (ZE (X8 y.sec ot y.n))) :: y.b⟩, []⟩
theorem Zl1 (y : HoS) (ot : Int) (i : Nat) (Z1 Z2 : Prop) (hn : y.n < 20) (hi : i ≤ y.n) (h1 : i < y.n → Z1) (h2 : i = y.n → Z2) :
  ZF G0 20 6 6 0 (y.s6 ot i) (rdM 0 6 9 (y.s6 ot (i + 1)) (y.e6 ot i) (y.e6 ot i) (y.e6 ot i) Z1 Z2 False False) := by
 refine @Eq.mpr _ (let q1 := y.n;
 let q2 := decide (i = i);
 let q3 := i + 1;
 let q4 := decide (q3 * 48 ≤ 140737488355328);
 let q5 := decide (wrap i64 ((↑i : Int) + 1) = (↑q3 : Int));
 let q6 := decide (q3 = q3);
 let q7 := decide (q3 ≤ q3);
 let q8 := decide (ot = ot);
 let q9 := decide (y.hgt = y.hgt);
 let q10 := [(5, 5), (4, 4), (3, 3), (2, 2), (1, 1), (0, 0), (6, 9)];
 let q11 := y.sec;
 let q12 := ZE (X8 q11 ot q1);
 let q13 := AV.int i64 (↑i : Int);
 let q14 := y.t;
 let q15 := q14.fund;
 let q16 := q15 = q15;
 let q17 := q14.index;
 let q18 := decide (q17 = q17);
 let q19 := q14.cap;
 let q20 := decide (q19 = q19);
 let q21 := q14.dust;
 let q22 := decide (q21 = q21);
 let q23 := q14.fee;
 let q24 := decide (q23 = q23);
 let q25 := q14.delay;
 let q26 := decide (q25 = q25);
 let q27 := q14.k0;
 let q28 := q27 = q27;
 let q29 := q14.k1;
 let q30 := q29 = q29;
 let q31 := y.s;
 let q32 := q31.num;
 let q33 := decide (q32 = q32);
 let q34 := q31.owner;
 let q35 := decide (q34 = q34);
 let q36 := q31.point;
 let q37 := q36 = q36;
 let q38 := [q31.a0, q31.a1];
 let q39 := q38 = q38;
 let q40 := q31.n;
 let q41 := decide (q40 = q40);
 let q42 := ZQ q31.g;
 let q43 := q42 = q42;
 let q44 := q11 = q11;
 let q45 := decide (q1 = q1);
 let q46 := decide (q1 ≤ q1);
 let q47 := X9 q14;
 let q48 := q47.name;
 let q49 := q48 = q48;
 let q50 := q47.index;
 let q51 := decide (q50 = q50);
 let q52 := q47.tag;
 let q53 := q52 = q52;
 let q54 := q47.also;
 let q55 := q54 = q54;
 let q56 := q47.secret;
 let q57 := q56 = q56;
 let q58 := Z8 (ZK y.L);
 let q59 := q16 ∧ Z0 q18 (Z0 q20 (Z0 q22 (Z0 q24 (Z0 q26 (q28 ∧ q30 ∧ Z0 q33 (Z0 q35 (q37 ∧ q39 ∧ Z0 q41 (q43 ∧ Z0 q41 (q44 ∧ Z0 q33 (Z0 q45 (Z0 q46 (q49 ∧ Z0 q51 (q53 ∧ q55 ∧ q57 ∧ Z0 q45 (Zc 0 q10 q1 q58 q58 ∧ Z1) False) False) False) False) False) False) False) False) False) False) False) False) False) False;
 let q60 := [(5, 5), (4, 4), (3, 3), (2, 2), (1, 1), (0, 0), (6, 6)];
 Z0 (decide ((↑i : Int) < (↑q1 : Int))) (Z0 ((↑i : Int) == ot) (Z0 q2 (Z0 q4 (Z0 q5 (Z0 q6 (Z0 q7 (Z0 q8 (Z0 q9 (Z0 q6 (Zc 0 q10 q3 q12 (Yf i q12 (ZO [q13, AV.int i64 2, AV.arr u8 32 Z5] 0 34)) ∧ q59) False) False) False) False) False) False) False) False) (Z0 q2 (Z0 q4 (Z0 q5 (Z0 q6 (Z0 q7 (Z0 q8 (Z0 q9 (Z0 q6 (Zc 0 q10 q3 q12 (Yf i q12 (ZO [q13, AV.int i64 4, AV.arr u8 32 q11] 0 34)) ∧ q59) False) False) False) False) False) False) False) False)) (Z0 q2 (Z0 (decide (i ≤ i)) (Z0 q8 (Z0 q9 (Z0 q2 (Zc 0 q60 i q12 q12 ∧ q16 ∧ Z0 q18 (Z0 q20 (Z0 q22 (Z0 q24 (Z0 q26 (q28 ∧ q30 ∧ Z0 q33 (Z0 q35 (q37 ∧ q39 ∧ Z0 q41 (q43 ∧ Z0 q41 (q44 ∧ Z0 q33 (Z0 q45 (Z0 q46 (q49 ∧ Z0 q51 (q53 ∧ q55 ∧ q57 ∧ Z0 q45 (Zc 0 q60 q1 q58 q58 ∧ Z2) False) False) False) False) False) False) False) False) False) False) False) False) False) False) False) False) False) False) False)) (by kernel_rfl) ?_
 conv => zeta
 try simp only [Zg]
 try simp only [Zl]
 try simp only [Zh]
 try simp only [Zm]
 try simp only [Zn]
 try simp only [Zf]
 try simp only [Int.toNat_natCast, Nat.zero_add, true_and, and_true, Nat.le_refl]
 have rK : ∀ {k τ n} {L : List ClS}, Zc k τ n (ZE L) (ZE L) := Ye fun _ _ => rfl
 refine ⟨fun hc => ?_, fun hc => ⟨rK, Xt, h2 (by omega)⟩⟩
 have hlt : i < y.n := by omega
 have hw : i64.wrap ((i : Int) + 1) = ((i + 1 : Nat) : Int) := by rw [w64 (by omega)]; omega
 have hrow : ∀ {τ} (c : ClS), c = Z1z y.sec ot i → Zc 0 τ (i + 1) (ZE (X8 y.sec ot y.n)) (Yf i (ZE (X8 y.sec ot y.n)) (ZO c.c 0 34)) := fun c hc => Ye fun j hj => by
  rcases Nat.lt_or_ge j i with h | h
  ·rw [UX h]
  ·have e : j = i := by omega
   subst e
   rw [XW (Nat.le_refl _), Nat.sub_self, hc]
   unfold ZE
   rw [WP hlt]; rfl
 refine ⟨fun k1 => ⟨by omega, hw, hrow ⟨i, 2, Z5⟩ ?_, Xt, h1 hlt⟩, fun k1 => ⟨by omega, hw, hrow ⟨i, 4, y.sec⟩ ?_, Xt, h1 hlt⟩⟩
 ·simp only [beq_iff_eq] at k1
  unfold Z1z
  rw [if_pos k1, if_pos k1]
 ·simp only [beq_eq_false_iff_ne, ne_eq] at k1
  unfold Z1z
  rw [if_neg k1, if_neg k1]
def HoS.t8 (y : HoS) : ZY := [(4, pt0 0), (5, pt0 1), (6, pt0 2), (9, pt0 3), (3, .int .i64 y.hgt)]
def HoS.zb (y : HoS) (Z : TxS) : List (Nat × Blk) := [(6, .flat [.int .i64 Z.num, .nslice ⟨7, 0, 130, 0, 0⟩ 130 Z.N Z.N, .nslice ⟨8, 0, 132, 0, 0⟩ 132 Z.M Z.M]), (7, .rows 130 Z.N (Zb Z.ins)), (8, .rows 132 Z.M (Z8 Z.outs))]
def HoS.s8 (y : HoS) (Z : TxS) (i : Nat) : St := ⟨306, (12, .int .i64 i) :: (29, pt0 6) :: y.t8, ⟨9, y.zb Z ++ y.b⟩, []⟩
def HoS.e8 (y : HoS) : St := ⟨306, y.t8, ⟨6, y.b⟩, []⟩
theorem Zl2 (Sp : TxS → Int → Zs → Int → Int → Int) (y : HoS) (Z : TxS) (i : Nat) (Z1 Z2 : Prop) (hZ : Z.Ok) (hn : y.n < 20) (hi : i ≤ y.n) (hok : ∀ m ∈ y.L, m.Ok) (hl : y.L.length = y.n) (hh : -9223372036854775808 ≤ y.hgt ∧ y.hgt < 9223372036854775808) (hs : i < y.n → Sp Z i (ZK y.L i) 0 y.hgt = 0) (h1 : i < y.n → Z1) (h2 : i = y.n → Z2) :
  ZF (G0.withP 23 (U2 Sp)) 20 6 8 0 (y.s8 Z i) (rdM 0 8 9 (y.s8 Z (i + 1)) y.e8 y.e8 y.e8 Z1 Z2 False False) := by
 refine @Eq.mpr _ (let q1 := y.n;
 let q2 := 0 + Int.toNat (↑i : Int);
 let q3 := Z.N;
 let q4 := Z.M;
 let q5 := Z.num;
 let q6 := ZK y.L q2;
 let q7 := y.hgt;
 let q8 := decide (q7 = q7);
 let q9 := y.t;
 let q10 := q9.fund;
 let q11 := q10 = q10;
 let q12 := q9.index;
 let q13 := decide (q12 = q12);
 let q14 := q9.cap;
 let q15 := decide (q14 = q14);
 let q16 := q9.dust;
 let q17 := decide (q16 = q16);
 let q18 := q9.fee;
 let q19 := decide (q18 = q18);
 let q20 := q9.delay;
 let q21 := decide (q20 = q20);
 let q22 := q9.k0;
 let q23 := q22 = q22;
 let q24 := q9.k1;
 let q25 := q24 = q24;
 let q26 := y.s;
 let q27 := q26.num;
 let q28 := decide (q27 = q27);
 let q29 := q26.owner;
 let q30 := decide (q29 = q29);
 let q31 := q26.point;
 let q32 := q31 = q31;
 let q33 := [q26.a0, q26.a1];
 let q34 := q33 = q33;
 let q35 := q26.n;
 let q36 := decide (q35 = q35);
 let q37 := ZQ q26.g;
 let q38 := q37 = q37;
 let q39 := y.sec = y.sec;
 let q40 := decide (q1 = q1);
 let q41 := decide (q1 ≤ q1);
 let q42 := X9 q9;
 let q43 := q42.name;
 let q44 := q43 = q43;
 let q45 := q42.index;
 let q46 := decide (q45 = q45);
 let q47 := q42.tag;
 let q48 := q47 = q47;
 let q49 := q42.also;
 let q50 := q49 = q49;
 let q51 := q42.secret;
 let q52 := q51 = q51;
 let q53 := Z8 (ZK y.L);
 let q54 := Zc 0 [(5, 5), (4, 4), (3, 3), (2, 2), (1, 1), (0, 0)] q1 q53 q53;
 let q55 := decide (q3 = q3);
 let q56 := decide (q4 = q4);
 let q57 := [(5, 5), (4, 4), (8, 8), (7, 7), (3, 3), (2, 2), (1, 1), (0, 0), (6, 6)];
 let q58 := Zb Z.ins;
 let q59 := Z8 Z.outs;
 Z0 (decide ((↑i : Int) < (↑q1 : Int)))
 (Z0 (decide (0 ≤ (↑i : Int) ∧ (↑i : Int) < (↑q1 : Int)))
 (Z0 (decide (q2 < q1))
 (Z0 (decide (0 + q3 ≤ q3))
 ((∀ (i : Nat), i < q3 → true = true) ∧
 Z0 (decide (0 + q4 ≤ q4))
 ((∀ (i : Nat), i < q4 → true = true) ∧
 ∃ (t : TxS),
 ∃ (o : Zs),
 (t.num = q5 ∧
 ((q3 = q3 ∧ t.N = q3) ∧
 ∀ (i : Nat),
 let q119 := Z.ins i;
 i < q3 → [AV.arr u8 32 q119.name, AV.int i64 q119.index, AV.int i64 q119.way, AV.arr u8 32 q119.tag, AV.arr u8 32 q119.also, AV.arr u8 32 q119.secret] = InS.c (t.ins i)) ∧
 (q4 = q4 ∧ t.M = q4) ∧
 ∀ (i : Nat),
 let q119 := Z.outs i;
 i < q4 → [AV.int i64 q119.kind, AV.int i64 q119.amount, AV.arr u8 32 q119.owner, AV.arr u8 32 q119.other, AV.arr u8 32 q119.point, AV.arr u8 32 q119.hash, AV.int i64 q119.delay, AV.int i64 q119.expiry] = Zs.c (t.outs i)) ∧
 [AV.int i64 q6.kind, AV.int i64 q6.amount, AV.arr u8 32 q6.owner, AV.arr u8 32 q6.other, AV.arr u8 32 q6.point, AV.arr u8 32 q6.hash, AV.int i64 q6.delay, AV.int i64 q6.expiry] = Zs.c o ∧
 (TxS.Ok t ∧ Zs.Ok o ∧ ((-9223372036854775808 : Int) ≤ 0 ∧ (0 : Int) < 9223372036854775808) ∧ -9223372036854775808 ≤ q7 ∧ q7 < 9223372036854775808) ∧
 Z0 (Sp t (↑i : Int) o 0 q7 != 0) (Z0 q8 (q11 ∧ Z0 q13 (Z0 q15 (Z0 q17 (Z0 q19 (Z0 q21 (q23 ∧ q25 ∧ Z0 q28 (Z0 q30 (q32 ∧ q34 ∧ Z0 q36 (q38 ∧ Z0 q36 (q39 ∧ Z0 q28 (Z0 q40 (Z0 q41 (q44 ∧ Z0 q46 (q48 ∧ q50 ∧ q52 ∧ Z0 q40 (q54 ∧ False) False) False) False) False) False) False) False) False) False) False) False) False) False) False) False)
 (Z0 (decide (wrap i64 ((↑i : Int) + 1) = (↑(i + 1) : Int))) (Z0 q8 (Z0 (decide (q5 = q5)) (Z0 q55 (Z0 (decide (q3 ≤ q3)) (Z0 q56 (Z0 (decide (q4 ≤ q4)) (Z0 q55 (Zc 0 q57 q3 q58 q58 ∧ Z0 q56 (Zc 0 q57 q4 q59 q59 ∧ q11 ∧ Z0 q13 (Z0 q15 (Z0 q17 (Z0 q19 (Z0 q21 (q23 ∧ q25 ∧ Z0 q28 (Z0 q30 (q32 ∧ q34 ∧ Z0 q36 (q38 ∧ Z0 q36 (q39 ∧ Z0 q28 (Z0 q40 (Z0 q41 (q44 ∧ Z0 q46 (q48 ∧ q50 ∧ q52 ∧ Z0 q40 (Zc 0 q57 q1 q53 q53 ∧ Z1) False) False) False) False) False) False) False) False) False) False) False) False) False) False) False) False) False) False) False) False) False) False) False))
 False)
 False)
 False)
 False)
 (Z0 q8 (q11 ∧ Z0 q13 (Z0 q15 (Z0 q17 (Z0 q19 (Z0 q21 (q23 ∧ q25 ∧ Z0 q28 (Z0 q30 (q32 ∧ q34 ∧ Z0 q36 (q38 ∧ Z0 q36 (q39 ∧ Z0 q28 (Z0 q40 (Z0 q41 (q44 ∧ Z0 q46 (q48 ∧ q50 ∧ q52 ∧ Z0 q40 (q54 ∧ Z2) False) False) False) False) False) False) False) False) False) False) False) False) False) False) False)) (by kernel_rfl) ?_
 conv => zeta
 try simp only [Zg]
 try simp only [Zl]
 try simp only [Zh]
 try simp only [Zm]
 try simp only [Zn]
 try simp only [Zf]
 try simp only [Int.toNat_natCast, Nat.zero_add, true_and, and_true, Nat.le_refl]
 have rI : ∀ {k τ n} {g : Nat → InS}, Zc k τ n (Zb g) (Zb g) := Yd fun _ _ => rfl
 refine ⟨fun hc => ?_, fun hc => ⟨Xt, h2 (by omega)⟩⟩
 have hlt : i < y.n := by omega
 have hw : i64.wrap ((i : Int) + 1) = ((i + 1 : Nat) : Int) := by rw [w64 (by omega)]; omega
 have hs := hs hlt
 have ho := Z1M hok (show i < y.L.length by omega)
 refine ⟨by omega, hlt, fun _ _ => trivial, fun _ _ => trivial, Z, ZK y.L i, ⟨rfl, ⟨rfl, fun _ _ => rfl⟩, rfl, fun _ _ => rfl⟩, rfl, ⟨hZ, ⟨ho.owner, ho.other, ho.point, ho.hash⟩, by omega, hh⟩, fun k => ?_, fun _ => ⟨hw, rI, Xt, Xt, h1 hlt⟩⟩
 rw [hs] at k; simp at k
end Go.Tk
end
section
namespace Go.Tk
open IntKind (i64 u8 u32 u64 wrap)
def HoS.j1 (y : HoS) (u ot : Int) (X V am : List Int) (tl : ZY) : St := ⟨306, tl ++ (14, .nslice ⟨6, 0, 0, 0, 0⟩ 1 y.s.n y.s.n) :: (19, .nslice ⟨8, 0, 0, 0, 0⟩ 1 V.length V.length) :: (18, pt0 7) :: (11, .int .i64 u) :: (16, .int .i64 ot) :: y.tm, ⟨9, (6, .ints .i64 X) :: (7, .flat [.arr .i64 2 am]) :: (8, .ints .i64 V) :: y.b⟩, []⟩
def HoS.j2 (y : HoS) (u ot : Int) (X V : List Int) : St := ⟨306, (14, .nslice ⟨6, 0, 0, 0, 0⟩ 1 y.s.n y.s.n) :: (19, .nslice ⟨7, 0, 0, 0, 0⟩ 1 V.length V.length) :: (11, .int .i64 u) :: (16, .int .i64 ot) :: y.tm, ⟨8, (6, .ints .i64 X) :: (7, .ints .i64 V) :: y.b⟩, []⟩
def HoS.of (t : Zo) (num ow : Int) (point : List Int) (a0 a1 : Int) (m : Nat) (g : Nat → ZD) (sec : List Int) (hgt : Int) (L : List Ze) (n : Nat) : HoS := ⟨t, ⟨num, ow, point, a0, a1, m, g⟩, sec, hgt, L, n⟩
theorem Zk1 (t : Zo) (num : Int) (point : List Int) (a0 a1 : Int) (m : Nat) (g : Nat → ZD) (sec : List Int) (hgt : Int) (L : List Ze) (n : Nat) (u ot m0 m1 : Int) (X V : List Int) (b : Bool) (hV : V = if b = true then [m0] else []) :
  Z4i G0 20 6 100103 0 ((HoS.of t num 0 point a0 a1 m g sec hgt L n).j1 u ot X [] [m0, m1] [(103, .bool b)]) (jnM 0 ((HoS.of t num 0 point a0 a1 m g sec hgt L n).j1 u ot X V [m0, m1] [])) := by
 refine @Eq.mpr _ (let q1 := HoS.of t num 0 point a0 a1 m g sec hgt L n;
 let q2 := q1.s;
 let q3 := q2.n;
 let q4 := decide (q3 = q3);
 let q5 := decide (q3 ≤ q3);
 let q6 := List.length V;
 let q7 := decide (u = u);
 let q8 := decide (ot = ot);
 let q9 := q1.hgt;
 let q10 := decide (q9 = q9);
 let q11 := [m0, m1];
 let q12 := q11 = q11;
 let q13 := q1.t;
 let q14 := q13.fund;
 let q15 := q14 = q14;
 let q16 := q13.index;
 let q17 := decide (q16 = q16);
 let q18 := q13.cap;
 let q19 := decide (q18 = q18);
 let q20 := q13.dust;
 let q21 := decide (q20 = q20);
 let q22 := q13.fee;
 let q23 := decide (q22 = q22);
 let q24 := q13.delay;
 let q25 := decide (q24 = q24);
 let q26 := q13.k0;
 let q27 := q26 = q26;
 let q28 := q13.k1;
 let q29 := q28 = q28;
 let q30 := q2.num;
 let q31 := decide (q30 = q30);
 let q32 := q2.point;
 let q33 := q32 = q32;
 let q34 := [q2.a0, q2.a1];
 let q35 := q34 = q34;
 let q36 := ZQ q2.g;
 let q37 := q36 = q36;
 let q38 := q1.sec;
 let q39 := q38 = q38;
 let q40 := q1.n;
 let q41 := decide (q40 = q40);
 let q42 := decide (q40 ≤ q40);
 let q43 := X9 q13;
 let q44 := q43.name;
 let q45 := q44 = q44;
 let q46 := q43.index;
 let q47 := decide (q46 = q46);
 let q48 := q43.tag;
 let q49 := q48 = q48;
 let q50 := q43.also;
 let q51 := q50 = q50;
 let q52 := q43.secret;
 let q53 := q52 = q52;
 let q54 := [(6, 6)];
 let q55 := Z8 (ZK q1.L);
 Z0 b (Z0 q4 (Z0 q5 (Z0 (decide (1 = q6)) (Z0 (decide (q6 ≤ 1)) (Z0 q7 (Z0 q8 (Z0 q10 (X = X ∧ q12 ∧ [m0] = V ∧ q15 ∧ Z0 q17 (Z0 q19 (Z0 q21 (Z0 q23 (Z0 q25 (q27 ∧ q29 ∧ Z0 q31 (q33 ∧ q35 ∧ Z0 q4 (q37 ∧ Z0 q4 (q39 ∧ Z0 q31 (Z0 q41 (Z0 q42 (q45 ∧ Z0 q47 (q49 ∧ q51 ∧ q53 ∧ Z0 q41 (Zc 0 ((5, 5) :: (4, 4) :: (3, 3) :: (2, 2) :: (1, 1) :: (0, 0) :: (7, 7) :: (8, 10) :: q54) q40 q55 q55 ∧ True) False) False) False) False) False) False) False) False) False) False) False) False) False) False) False) False) False) False) False) False)
 (Z0 q4 (Z0 q5 (Z0 (decide (0 = q6)) (Z0 (decide (q6 ≤ 0)) (Z0 q7 (Z0 q8 (Z0 q10 (X = X ∧ q12 ∧ [] = V ∧ q15 ∧ Z0 q17 (Z0 q19 (Z0 q21 (Z0 q23 (Z0 q25 (q27 ∧ q29 ∧ Z0 q31 (q33 ∧ q35 ∧ Z0 q4 (q37 ∧ Z0 q4 (q39 ∧ Z0 q31 (Z0 q41 (Z0 q42 (q45 ∧ Z0 q47 (q49 ∧ q51 ∧ q53 ∧ Z0 q41 (Zc 0 ((5, 5) :: (4, 4) :: (3, 3) :: (2, 2) :: (1, 1) :: (0, 0) :: (7, 7) :: (8, 8) :: q54) q40 q55 q55 ∧ True) False) False) False) False) False) False) False) False) False) False) False) False) False) False) False) False) False) False) False) False)) (by kernel_rfl) ?_
 conv => zeta
 try simp only [Zg]
 try simp only [Zl]
 try simp only [Zh]
 try simp only [Zm]
 try simp only [Zn]
 try simp only [Zf]
 try simp only [Int.toNat_natCast, Nat.zero_add, true_and, and_true, Nat.le_refl]
 subst hV
 exact ⟨fun h => by subst h; exact ⟨rfl, Nat.le_refl _, rfl, Xt⟩, fun h => by subst h; exact ⟨rfl, Nat.le_refl _, rfl, Xt⟩⟩
theorem Zk2 (t : Zo) (num : Int) (point : List Int) (a0 a1 : Int) (m : Nat) (g : Nat → ZD) (sec : List Int) (hgt : Int) (L : List Ze) (n : Nat) (u ot m0 m1 : Int) (X V V1 : List Int) (b : Bool) (hV : V1 = V ++ if b = true then [m1] else []) (hl : V.length ≤ 10) :
  Z4i G0 20 6 100112 0 ((HoS.of t num 0 point a0 a1 m g sec hgt L n).j1 u ot X V [m0, m1] [(112, .bool b)]) (jnM 0 ((HoS.of t num 0 point a0 a1 m g sec hgt L n).j2 u ot X V1)) := by
 refine @Eq.mpr _ (let q1 := List.length V;
 let q2 := V ++ [m1];
 let q3 := List.length q2;
 let q4 := HoS.of t num 0 point a0 a1 m g sec hgt L n;
 let q5 := q4.s;
 let q6 := q5.n;
 let q7 := decide (q6 = q6);
 let q8 := decide (q6 ≤ q6);
 let q9 := List.length V1;
 let q10 := decide (u = u);
 let q11 := decide (ot = ot);
 let q12 := q4.hgt;
 let q13 := decide (q12 = q12);
 let q14 := q4.t;
 let q15 := q14.fund;
 let q16 := q15 = q15;
 let q17 := q14.index;
 let q18 := decide (q17 = q17);
 let q19 := q14.cap;
 let q20 := decide (q19 = q19);
 let q21 := q14.dust;
 let q22 := decide (q21 = q21);
 let q23 := q14.fee;
 let q24 := decide (q23 = q23);
 let q25 := q14.delay;
 let q26 := decide (q25 = q25);
 let q27 := q14.k0;
 let q28 := q27 = q27;
 let q29 := q14.k1;
 let q30 := q29 = q29;
 let q31 := q5.num;
 let q32 := decide (q31 = q31);
 let q33 := q5.point;
 let q34 := q33 = q33;
 let q35 := [q5.a0, q5.a1];
 let q36 := q35 = q35;
 let q37 := ZQ q5.g;
 let q38 := q37 = q37;
 let q39 := q4.sec;
 let q40 := q39 = q39;
 let q41 := q4.n;
 let q42 := decide (q41 = q41);
 let q43 := decide (q41 ≤ q41);
 let q44 := X9 q14;
 let q45 := q44.name;
 let q46 := q45 = q45;
 let q47 := q44.index;
 let q48 := decide (q47 = q47);
 let q49 := q44.tag;
 let q50 := q49 = q49;
 let q51 := q44.also;
 let q52 := q51 = q51;
 let q53 := q44.secret;
 let q54 := q53 = q53;
 let q55 := [(6, 6)];
 let q56 := Z8 (ZK q4.L);
 Z0 b (Z0 (decide (i64 = i64 ∧ q1 = q1)) (Z0 (decide (q3 * 8 ≤ 140737488355328)) (Z0 q7 (Z0 q8 (Z0 (decide (q3 = q9)) (Z0 (decide (q9 ≤ q3)) (Z0 q10 (Z0 q11 (Z0 q13 (X = X ∧ q2 = V1 ∧ q16 ∧ Z0 q18 (Z0 q20 (Z0 q22 (Z0 q24 (Z0 q26 (q28 ∧ q30 ∧ Z0 q32 (q34 ∧ q36 ∧ Z0 q7 (q38 ∧ Z0 q7 (q40 ∧ Z0 q32 (Z0 q42 (Z0 q43 (q46 ∧ Z0 q48 (q50 ∧ q52 ∧ q54 ∧ Z0 q42 (Zc 0 ((5, 5) :: (4, 4) :: (3, 3) :: (2, 2) :: (1, 1) :: (0, 0) :: (7, 10) :: q55) q41 q56 q56 ∧ True) False) False) False) False) False) False) False) False) False) False) False) False) False) False) False) False) False) False) False) False) False) False)
 (Z0 q7 (Z0 q8 (Z0 (decide (q1 = q9)) (Z0 (decide (q9 ≤ q1)) (Z0 q10 (Z0 q11 (Z0 q13 (X = X ∧ V = V1 ∧ q16 ∧ Z0 q18 (Z0 q20 (Z0 q22 (Z0 q24 (Z0 q26 (q28 ∧ q30 ∧ Z0 q32 (q34 ∧ q36 ∧ Z0 q7 (q38 ∧ Z0 q7 (q40 ∧ Z0 q32 (Z0 q42 (Z0 q43 (q46 ∧ Z0 q48 (q50 ∧ q52 ∧ q54 ∧ Z0 q42 (Zc 0 ((5, 5) :: (4, 4) :: (3, 3) :: (2, 2) :: (1, 1) :: (0, 0) :: (7, 8) :: q55) q41 q56 q56 ∧ True) False) False) False) False) False) False) False) False) False) False) False) False) False) False) False) False) False) False) False) False)) (by kernel_rfl) ?_
 conv => zeta
 try simp only [Zg]
 try simp only [Zl]
 try simp only [Zh]
 try simp only [Zm]
 try simp only [Zn]
 try simp only [Zf]
 try simp only [Int.toNat_natCast, Nat.zero_add, true_and, and_true, Nat.le_refl]
 subst hV
 exact ⟨fun h => by subst h; exact ⟨by simp; omega, rfl, Nat.le_refl _, rfl, Xt⟩, fun h => by subst h; simp [Xt]⟩
theorem Zk3 (t : Zo) (num : Int) (point : List Int) (a0 a1 : Int) (m : Nat) (g : Nat → ZD) (sec : List Int) (hgt : Int) (L : List Ze) (n : Nat) (u ot m0 m1 : Int) (X V : List Int) (b : Bool) (hV : V = if b = true then [m1] else []) :
  Z4i G0 20 6 100103 0 ((HoS.of t num 1 point a0 a1 m g sec hgt L n).j1 u ot X [] [m0, m1] [(103, .bool b)]) (jnM 0 ((HoS.of t num 1 point a0 a1 m g sec hgt L n).j1 u ot X V [m0, m1] [])) := by
 refine @Eq.mpr _ (let q1 := HoS.of t num 1 point a0 a1 m g sec hgt L n;
 let q2 := q1.s;
 let q3 := q2.n;
 let q4 := decide (q3 = q3);
 let q5 := decide (q3 ≤ q3);
 let q6 := List.length V;
 let q7 := decide (u = u);
 let q8 := decide (ot = ot);
 let q9 := q1.hgt;
 let q10 := decide (q9 = q9);
 let q11 := [m0, m1];
 let q12 := q11 = q11;
 let q13 := q1.t;
 let q14 := q13.fund;
 let q15 := q14 = q14;
 let q16 := q13.index;
 let q17 := decide (q16 = q16);
 let q18 := q13.cap;
 let q19 := decide (q18 = q18);
 let q20 := q13.dust;
 let q21 := decide (q20 = q20);
 let q22 := q13.fee;
 let q23 := decide (q22 = q22);
 let q24 := q13.delay;
 let q25 := decide (q24 = q24);
 let q26 := q13.k0;
 let q27 := q26 = q26;
 let q28 := q13.k1;
 let q29 := q28 = q28;
 let q30 := q2.num;
 let q31 := decide (q30 = q30);
 let q32 := q2.point;
 let q33 := q32 = q32;
 let q34 := [q2.a0, q2.a1];
 let q35 := q34 = q34;
 let q36 := ZQ q2.g;
 let q37 := q36 = q36;
 let q38 := q1.sec;
 let q39 := q38 = q38;
 let q40 := q1.n;
 let q41 := decide (q40 = q40);
 let q42 := decide (q40 ≤ q40);
 let q43 := X9 q13;
 let q44 := q43.name;
 let q45 := q44 = q44;
 let q46 := q43.index;
 let q47 := decide (q46 = q46);
 let q48 := q43.tag;
 let q49 := q48 = q48;
 let q50 := q43.also;
 let q51 := q50 = q50;
 let q52 := q43.secret;
 let q53 := q52 = q52;
 let q54 := [(6, 6)];
 let q55 := Z8 (ZK q1.L);
 Z0 b (Z0 q4 (Z0 q5 (Z0 (decide (1 = q6)) (Z0 (decide (q6 ≤ 1)) (Z0 q7 (Z0 q8 (Z0 q10 (X = X ∧ q12 ∧ [m1] = V ∧ q15 ∧ Z0 q17 (Z0 q19 (Z0 q21 (Z0 q23 (Z0 q25 (q27 ∧ q29 ∧ Z0 q31 (q33 ∧ q35 ∧ Z0 q4 (q37 ∧ Z0 q4 (q39 ∧ Z0 q31 (Z0 q41 (Z0 q42 (q45 ∧ Z0 q47 (q49 ∧ q51 ∧ q53 ∧ Z0 q41 (Zc 0 ((5, 5) :: (4, 4) :: (3, 3) :: (2, 2) :: (1, 1) :: (0, 0) :: (7, 7) :: (8, 10) :: q54) q40 q55 q55 ∧ True) False) False) False) False) False) False) False) False) False) False) False) False) False) False) False) False) False) False) False) False)
 (Z0 q4 (Z0 q5 (Z0 (decide (0 = q6)) (Z0 (decide (q6 ≤ 0)) (Z0 q7 (Z0 q8 (Z0 q10 (X = X ∧ q12 ∧ [] = V ∧ q15 ∧ Z0 q17 (Z0 q19 (Z0 q21 (Z0 q23 (Z0 q25 (q27 ∧ q29 ∧ Z0 q31 (q33 ∧ q35 ∧ Z0 q4 (q37 ∧ Z0 q4 (q39 ∧ Z0 q31 (Z0 q41 (Z0 q42 (q45 ∧ Z0 q47 (q49 ∧ q51 ∧ q53 ∧ Z0 q41 (Zc 0 ((5, 5) :: (4, 4) :: (3, 3) :: (2, 2) :: (1, 1) :: (0, 0) :: (7, 7) :: (8, 8) :: q54) q40 q55 q55 ∧ True) False) False) False) False) False) False) False) False) False) False) False) False) False) False) False) False) False) False) False) False)) (by kernel_rfl) ?_
 conv => zeta
 try simp only [Zg]
 try simp only [Zl]
 try simp only [Zh]
 try simp only [Zm]
 try simp only [Zn]
 try simp only [Zf]
 try simp only [Int.toNat_natCast, Nat.zero_add, true_and, and_true, Nat.le_refl]
 subst hV
 exact ⟨fun h => by subst h; exact ⟨rfl, Nat.le_refl _, rfl, Xt⟩, fun h => by subst h; exact ⟨rfl, Nat.le_refl _, rfl, Xt⟩⟩
theorem Zk4 (t : Zo) (num : Int) (point : List Int) (a0 a1 : Int) (m : Nat) (g : Nat → ZD) (sec : List Int) (hgt : Int) (L : List Ze) (n : Nat) (u ot m0 m1 : Int) (X V V1 : List Int) (b : Bool) (hV : V1 = V ++ if b = true then [m0] else []) (hl : V.length ≤ 10) :
  Z4i G0 20 6 100112 0 ((HoS.of t num 1 point a0 a1 m g sec hgt L n).j1 u ot X V [m0, m1] [(112, .bool b)]) (jnM 0 ((HoS.of t num 1 point a0 a1 m g sec hgt L n).j2 u ot X V1)) := by
 refine @Eq.mpr _ (let q1 := List.length V;
 let q2 := V ++ [m0];
 let q3 := List.length q2;
 let q4 := HoS.of t num 1 point a0 a1 m g sec hgt L n;
 let q5 := q4.s;
 let q6 := q5.n;
 let q7 := decide (q6 = q6);
 let q8 := decide (q6 ≤ q6);
 let q9 := List.length V1;
 let q10 := decide (u = u);
 let q11 := decide (ot = ot);
 let q12 := q4.hgt;
 let q13 := decide (q12 = q12);
 let q14 := q4.t;
 let q15 := q14.fund;
 let q16 := q15 = q15;
 let q17 := q14.index;
 let q18 := decide (q17 = q17);
 let q19 := q14.cap;
 let q20 := decide (q19 = q19);
 let q21 := q14.dust;
 let q22 := decide (q21 = q21);
 let q23 := q14.fee;
 let q24 := decide (q23 = q23);
 let q25 := q14.delay;
 let q26 := decide (q25 = q25);
 let q27 := q14.k0;
 let q28 := q27 = q27;
 let q29 := q14.k1;
 let q30 := q29 = q29;
 let q31 := q5.num;
 let q32 := decide (q31 = q31);
 let q33 := q5.point;
 let q34 := q33 = q33;
 let q35 := [q5.a0, q5.a1];
 let q36 := q35 = q35;
 let q37 := ZQ q5.g;
 let q38 := q37 = q37;
 let q39 := q4.sec;
 let q40 := q39 = q39;
 let q41 := q4.n;
 let q42 := decide (q41 = q41);
 let q43 := decide (q41 ≤ q41);
 let q44 := X9 q14;
 let q45 := q44.name;
 let q46 := q45 = q45;
 let q47 := q44.index;
 let q48 := decide (q47 = q47);
 let q49 := q44.tag;
 let q50 := q49 = q49;
 let q51 := q44.also;
 let q52 := q51 = q51;
 let q53 := q44.secret;
 let q54 := q53 = q53;
 let q55 := [(6, 6)];
 let q56 := Z8 (ZK q4.L);
 Z0 b (Z0 (decide (i64 = i64 ∧ q1 = q1)) (Z0 (decide (q3 * 8 ≤ 140737488355328)) (Z0 q7 (Z0 q8 (Z0 (decide (q3 = q9)) (Z0 (decide (q9 ≤ q3)) (Z0 q10 (Z0 q11 (Z0 q13 (X = X ∧ q2 = V1 ∧ q16 ∧ Z0 q18 (Z0 q20 (Z0 q22 (Z0 q24 (Z0 q26 (q28 ∧ q30 ∧ Z0 q32 (q34 ∧ q36 ∧ Z0 q7 (q38 ∧ Z0 q7 (q40 ∧ Z0 q32 (Z0 q42 (Z0 q43 (q46 ∧ Z0 q48 (q50 ∧ q52 ∧ q54 ∧ Z0 q42 (Zc 0 ((5, 5) :: (4, 4) :: (3, 3) :: (2, 2) :: (1, 1) :: (0, 0) :: (7, 10) :: q55) q41 q56 q56 ∧ True) False) False) False) False) False) False) False) False) False) False) False) False) False) False) False) False) False) False) False) False) False) False)
 (Z0 q7 (Z0 q8 (Z0 (decide (q1 = q9)) (Z0 (decide (q9 ≤ q1)) (Z0 q10 (Z0 q11 (Z0 q13 (X = X ∧ V = V1 ∧ q16 ∧ Z0 q18 (Z0 q20 (Z0 q22 (Z0 q24 (Z0 q26 (q28 ∧ q30 ∧ Z0 q32 (q34 ∧ q36 ∧ Z0 q7 (q38 ∧ Z0 q7 (q40 ∧ Z0 q32 (Z0 q42 (Z0 q43 (q46 ∧ Z0 q48 (q50 ∧ q52 ∧ q54 ∧ Z0 q42 (Zc 0 ((5, 5) :: (4, 4) :: (3, 3) :: (2, 2) :: (1, 1) :: (0, 0) :: (7, 8) :: q55) q41 q56 q56 ∧ True) False) False) False) False) False) False) False) False) False) False) False) False) False) False) False) False) False) False) False) False)) (by kernel_rfl) ?_
 conv => zeta
 try simp only [Zg]
 try simp only [Zl]
 try simp only [Zh]
 try simp only [Zm]
 try simp only [Zn]
 try simp only [Zf]
 try simp only [Int.toNat_natCast, Nat.zero_add, true_and, and_true, Nat.le_refl]
 subst hV
 exact ⟨fun h => by subst h; exact ⟨by simp; omega, rfl, Nat.le_refl _, rfl, Xt⟩, fun h => by subst h; simp [Xt]⟩
structure HoP where
 t : Zo
 num : Int
 point : List Int
 a0 : Int
 a1 : Int
 m : Nat
 g : Nat → ZD
 sec : List Int
 hgt : Int
 L : List Ze
 n : Nat
 u0 : Nat → Int
 ot : Int
 X : List Int
 m0 : Int
 m1 : Int
 V1 : List Int
 V2 : List Int
 b1 : Bool
 b2 : Bool
 W : Nat → List Int
 u4 : Nat → Int
 Z : TxS
def HoP.y (p : HoP) (o : Int) : HoS := HoS.of p.t p.num o p.point p.a0 p.a1 p.m p.g p.sec p.hgt p.L p.n
def Zk5 (p : HoP) (o : Int) : Nat → St → KE → Prop := goM 0 ((p.y o).s0 p.t.fee 0) (p.n < 20 ∧ (0 ≤ p.t.fee ∧ p.t.fee ≤ 400) ∧ (∀ i, i < p.n → 0 ≤ (ZK p.L i).amount ∧ (ZK p.L i).amount ≤ 1125899906842624) ∧ p.u0 0 = p.t.fee ∧ ∀ i, p.u0 (i + 1) = p.u0 i + (ZK p.L i).amount) (Ym 0 p.n 9 (fun i => i < p.n) (fun i => i = p.n) (fun _ => False) (fun _ => False) (fun i => (p.y o).e0 (p.u0 i)) (fun i => (p.y o).e0 (p.u0 i)) (fun i => (p.y o).e0 (p.u0 i)))
theorem Z9D (p : HoP) (o : Int) : (G0.withL 6 0 (Zk5 p o)).Ok :=
 Zd.withGoM (N := 20) (S := fun i => (p.y o).s0 (p.u0 i) i) Zu (by kernel_rfl) fun hC => ⟨by rw [hC.2.2.2.1], fun i hi _ => by
  obtain ⟨c1, c2, c3, c4, c5⟩ := hC
  have hb : ∀ j, j ≤ p.n → 0 ≤ p.u0 j ∧ p.u0 j ≤ 400 + j * 1125899906842624 := fun j => by
   induction j with
   | zero => intro _; rw [c4]; omega
   | succ j ih => intro hj; have := ih (by omega); have := c3 j (by omega); rw [c5]; omega
  exact ZkY (p.y o) _ _ i _ _ c1 hi (hb i hi) (fun _ => c5 i) (c3 i) (fun h => ⟨h, h⟩) (fun h => h)⟩
def Zk6 (p : HoP) (o : Int) : Nat → St → KE → Prop := goM 0 ((p.y o).s2 (p.u0 p.n) p.ot p.X p.V2 0) (p.m ≤ 20 ∧ p.X.length = p.m ∧ p.V2.length ≤ 2 ∧ p.W 0 = p.V2 ∧ ∀ k, k < p.m → p.W (k + 1) = p.W k ++ (if p.X.getD (p.m - 1 - k) 0 < 0 then [(p.g (p.m - 1 - k)).amount] else [])) (Ym 2 p.m 9 (fun i => i < p.m) (fun i => i = p.m) (fun _ => False) (fun _ => False) (fun i => (p.y o).e2 (p.u0 p.n) p.ot (p.W i) i) (fun i => (p.y o).e2 (p.u0 p.n) p.ot (p.W i) i) (fun i => (p.y o).e2 (p.u0 p.n) p.ot (p.W i) i))
theorem Z9E (p : HoP) (o : Int) : (G0.withL 6 2 (Zk6 p o)).Ok :=
 Zd.withGoM (N := 20) (S := fun i => (p.y o).s2 (p.u0 p.n) p.ot p.X (p.W i) i) Zu (by kernel_rfl) fun hC => ⟨by rw [hC.2.2.2.1], fun i hi _ => by
  obtain ⟨c1, c2, c3, c4, c5⟩ := hC
  have hb : ∀ j, j ≤ p.m → (p.W j).length ≤ 2 + j := fun j => by
   induction j with
   | zero => intro _; rw [c4]; omega
   | succ j ih =>
    intro hj
    have := ih (by omega)
    rw [c5 j (by omega), List.length_append]
    split <;> simp <;> omega
  exact ZkZ (p.y o) _ _ p.X _ _ i _ _ c1 hi c2 (by have := hb i hi; omega) (fun h => c5 i h) (fun h => ⟨h, h⟩) (fun h => h)⟩
def Zk7 (p : HoP) (o : Int) : Nat → St → KE → Prop := goM 0 ((p.y o).s4 (p.u0 p.n) p.ot (p.W p.m) p.m 0) ((p.W p.m).length ≤ 30 ∧ (0 ≤ p.u0 p.n ∧ p.u0 p.n ≤ 1152921504606846976) ∧ (∀ i, i < (p.W p.m).length → 0 ≤ (p.W p.m).getD i 0 ∧ (p.W p.m).getD i 0 < p.t.dust) ∧ p.t.dust ≤ 500 ∧ p.u4 0 = p.u0 p.n ∧ ∀ i, p.u4 (i + 1) = p.u4 i + (p.W p.m).getD i 0) (Ym 4 (p.W p.m).length 9 (fun i => i < (p.W p.m).length) (fun i => i = (p.W p.m).length) (fun _ => False) (fun _ => False) (fun i => (p.y o).e4 (p.u4 i) p.ot p.m) (fun i => (p.y o).e4 (p.u4 i) p.ot p.m) (fun i => (p.y o).e4 (p.u4 i) p.ot p.m))
theorem Z9F (p : HoP) (o : Int) : (G0.withL 6 4 (Zk7 p o)).Ok :=
 Zd.withGoM (N := 20) (S := fun i => (p.y o).s4 (p.u4 i) p.ot (p.W p.m) p.m i) Zu (by kernel_rfl) fun hC => ⟨by rw [hC.2.2.2.2.1], fun i hi _ => by
  obtain ⟨c1, c2, c3, c4, c5, c6⟩ := hC
  have hb : ∀ j, j ≤ (p.W p.m).length → 0 ≤ p.u4 j ∧ p.u4 j ≤ 1152921504606846976 + j * 1000 := fun j => by
   induction j with
   | zero => intro _; rw [c5]; omega
   | succ j ih => intro hj; have := ih (by omega); have := c3 j (by omega); rw [c6]; omega
  exact Zl0 (p.y o) _ _ _ _ _ i _ _ c1 hi (hb i hi) (fun _ => c6 i) (c3 i) c4 (fun h => ⟨h, h⟩) (fun h => h)⟩
def Zk8 (p : HoP) (o : Int) : Nat → St → KE → Prop := goM 0 ((p.y o).s6 p.ot 0) (p.n < 20) (Ym 6 p.n 9 (fun i => i < p.n) (fun i => i = p.n) (fun _ => False) (fun _ => False) (fun i => (p.y o).e6 p.ot i) (fun i => (p.y o).e6 p.ot i) (fun i => (p.y o).e6 p.ot i))
theorem Z9G (p : HoP) (o : Int) : (G0.withL 6 6 (Zk8 p o)).Ok :=
 Zd.withGoM (N := 20) (S := fun i => (p.y o).s6 p.ot i) Zu (by kernel_rfl) fun hC => ⟨rfl, fun i hi _ => Zl1 (p.y o) _ i _ _ hC hi (fun h => ⟨h, h⟩) (fun h => h)⟩
structure Ho8 (Sp : TxS → Int → Zs → Int → Int → Int) (p : HoP) : Prop where
 hZ : p.Z.Ok
 hn : p.n < 20
 hok : ∀ m ∈ p.L, m.Ok
 hl : p.L.length = p.n
 hh : -9223372036854775808 ≤ p.hgt ∧ p.hgt < 9223372036854775808
 hs : ∀ i, i < p.n → Sp p.Z i (ZK p.L i) 0 p.hgt = 0
def Zk9 (Sp : TxS → Int → Zs → Int → Int → Int) (p : HoP) (o : Int) : Nat → St → KE → Prop := goM 0 ((p.y o).s8 p.Z 0) (Ho8 Sp p) (Ym 8 p.n 9 (fun i => i < p.n) (fun i => i = p.n) (fun _ => False) (fun _ => False) (fun _ => (p.y o).e8) (fun _ => (p.y o).e8) (fun _ => (p.y o).e8))
theorem Z9H (p : HoP) (o : Int) : ((G0.withP 23 (U2 YY)).withL 6 8 (Zk9 YY p o)).Ok :=
 Zd.withGoM (N := 20) (S := fun i => (p.y o).s8 p.Z i) (Zd.withP_ok Zu Z13) (by kernel_rfl) fun hC => ⟨rfl, fun i hi _ => Zl2 YY (p.y o) p.Z i _ _ hC.hZ hC.hn hi hC.hok hC.hl hC.hh (hC.hs i) (fun h => ⟨h, h⟩) (fun h => h)⟩
def ZhM (p : HoP) (o : Int) : Nat → St → KE → Prop := Z99 0 ((p.y o).j1 (p.u0 p.n) p.ot p.X [] [p.m0, p.m1] [(103, .bool p.b1)]) ((p.y o).j1 (p.u0 p.n) p.ot p.X p.V1 [p.m0, p.m1] []) (p.V1 = if p.b1 = true then [if o = 0 then p.m0 else p.m1] else [])
def ZhN (p : HoP) (o : Int) : Nat → St → KE → Prop := Z99 0 ((p.y o).j1 (p.u0 p.n) p.ot p.X p.V1 [p.m0, p.m1] [(112, .bool p.b2)]) ((p.y o).j2 (p.u0 p.n) p.ot p.X p.V2) (p.V1.length ≤ 10 ∧ p.V2 = p.V1 ++ if p.b2 = true then [if o = 0 then p.m1 else p.m0] else [])
theorem Zdt (p : HoP) : (G0.withL 6 100103 (ZhM p 0)).Ok := Zd.withJ (N := 20) Zu (by kernel_rfl) fun h => Zk1 p.t p.num p.point p.a0 p.a1 p.m p.g p.sec p.hgt p.L p.n _ _ _ _ _ _ _ h
theorem Zdu (p : HoP) : (G0.withL 6 100112 (ZhN p 0)).Ok := Zd.withJ (N := 20) Zu (by kernel_rfl) fun h => Zk2 p.t p.num p.point p.a0 p.a1 p.m p.g p.sec p.hgt p.L p.n _ _ _ _ _ _ _ _ h.2 h.1
theorem Zdv (p : HoP) : (G0.withL 6 100103 (ZhM p 1)).Ok := Zd.withJ (N := 20) Zu (by kernel_rfl) fun h => Zk3 p.t p.num p.point p.a0 p.a1 p.m p.g p.sec p.hgt p.L p.n _ _ _ _ _ _ _ h
theorem Zdw (p : HoP) : (G0.withL 6 100112 (ZhN p 1)).Ok := Zd.withJ (N := 20) Zu (by kernel_rfl) fun h => Zk4 p.t p.num p.point p.a0 p.a1 p.m p.g p.sec p.hgt p.L p.n _ _ _ _ _ _ _ _ h.2 h.1
end Go.Tk
end
section
namespace Go.Tk
open IntKind (i64 u8 u32 u64 wrap)
def ZfM (A : List Int → Int × Int) (X : TxS → List Int → List Int → TxS) : Y9 := fun args h K => ZH none h true 20 args fun a => match a with
 | [.agg l, .agg [.arr .u8 32 a], .agg [.arr .u8 32 b]] => ∃ t, Z0h l t ∧ (t.Ok ∧ a.length = 32 ∧ b.length = 32 ∧ Y6 A t = true) ∧ K (.ret (.tuple [.agg [.int .i64 t.num, .nslice ⟨h.next, 0, 130, 0, 0⟩ 130 t.N t.N, .nslice ⟨h.next + 1, 0, 132, 0, 0⟩ 132 t.M t.M], .int .i64 0])) ⟨h.next + 2, (h.next, .rows 130 t.N (Zb (X t a b).ins)) :: (h.next + 1, .rows 132 t.M (Z8 t.outs)) :: h.bs⟩
 | _ => False
theorem Z9I (args : List AV) (h : Z7) (K : KO) (hl : ZfM ZS QX args h K) : Zk PP 19 args h K := Zd9 args h K (Zq _ _ _ _ _ hl fun a ha => by
 split at ha
 ·obtain ⟨t, h1, ⟨h2, h3, h4, hc⟩, hK⟩ := ha
  exact ⟨t, h1, ⟨h2, h3, h4⟩, (fun h => by rw [hc] at h; cases h), fun _ => hK⟩
 ·exact ha.elim)
noncomputable def ZfN (A : List Int → Int × Int) (F : TxS → TxS → Bool) (Nm : TxS → List Int) (Sp : TxS → Int → Zs → Int → Int → Int) (PH : List Int → List Int) (X : TxS → List Int → List Int → TxS) (p : HoP) (o : Int) : Zd :=
 (((((((((((((((G0.withP 23 (U2 Sp)).withP 8 Va).withP 21 (WG PH)).withP 22 (Z5h F)).withP 24 Z6E).withF 9 (ZfK A)).withF 10 (ZfL A)).withF 17 (Zfv A Nm 20)).withF 19 (ZfM A X)).withL 6 0 (Zk5 p o)).withL 6 2 (Zk6 p o)).withL 6 4 (Zk7 p o)).withL 6 6 (Zk8 p o)).withL 6 8 (Zk9 Sp p o)).withL 6 100103 (ZhM p o)).withL 6 100112 (ZhN p o)
theorem Zl3 (t : Zo) (s : ShS) (sec : List Int) (hgt : Int) (h : ¬ (s.n ≤ 20 ∧ 0 ≤ hgt)) :
  evF ((G0.withP 8 Va).withP 21 (fun _ _ _ => False)) 20 6 [.agg t.c, .agg s.c, .agg [.arr .u8 32 sec], .int .i64 hgt] ⟨0, []⟩ (Z0k (fun v => v = .bool true)) := by
 refine @Eq.mpr _ (let q1 := AV.bool true = AV.bool true;
 Z0 (!decide ((↑s.n : Int) ≤ 20)) q1 (Z0 (decide (hgt < 0)) q1 False)) (by kernel_rfl) ?_
 conv => zeta
 try simp only [Zg]
 try simp only [Zl]
 try simp only [Zh]
 try simp only [Zm]
 try simp only [Zn]
 try simp only [Zf]
 try simp only [Int.toNat_natCast, Nat.zero_add, true_and, and_true, Nat.le_refl]
 refine ⟨fun _ => trivial, fun k => ?_⟩
 have k : (s.n : Int) ≤ 20 := by simpa using k
 omega
theorem Zl4 (A : List Int → Int × Int) (PH : List Int → List Int) (t : Zo) (s s1 : ShS) (sec : List Int) (hgt : Int) (ht : t.Ok) (hn : s.n ≤ 20) (hh : 0 ≤ hgt) (hsec : sec.length = 32) (hs : s1.Ok) (hs1 : s1 = ⟨s.num, s.owner, PH sec, s.a0, s.a1, s.n, s.g⟩) (hb : shB A t s1 = false) :
  evF ((((G0.withP 8 Va).withP 21 (WG PH)).withF 9 (ZjZ A)).withF 10 noF) 20 6 [.agg t.c, .agg s.c, .agg [.arr .u8 32 sec], .int .i64 hgt] ⟨0, []⟩ (Z0k (fun v => v = .bool true)) := by
 refine @Eq.mpr _ (let q1 := s.n;
 let q2 := AV.bool true = AV.bool true;
 let q3 := Zo.mk t.fund t.index t.cap t.dust t.fee t.delay t.k0 t.k1;
 Z0 (!decide ((↑q1 : Int) ≤ 20)) q2 (Z0 (decide (hgt < 0)) q2 (Z0 (decide (List.length sec = 32)) (Zo.Ok q3 ∧ ∃ (s_1 : ShS), ((s_1.num = s.num ∧ s_1.owner = s.owner ∧ s_1.point = PH sec ∧ [s.a0, s.a1] = [s_1.a0, s_1.a1]) ∧ (q1 = q1 ∧ s_1.n = q1) ∧ ∀ (i : Nat), i < q1 → ZQ s.g i = ZD.c (s_1.g i)) ∧ ShS.Ok s_1 ∧ s_1.n < 1000 ∧ shB A q3 s_1 = false ∧ q2) False))) (by kernel_rfl) ?_
 conv => zeta
 try simp only [Zg]
 try simp only [Zl]
 try simp only [Zh]
 try simp only [Zm]
 try simp only [Zn]
 try simp only [Zf]
 try simp only [Int.toNat_natCast, Nat.zero_add, true_and, and_true, Nat.le_refl]
 subst hs1
 exact ⟨fun _ => trivial, fun _ => ⟨fun _ => trivial, fun _ => ⟨hsec, ht, ⟨s.num, s.owner, PH sec, s.a0, s.a1, s.n, s.g⟩, ⟨⟨rfl, rfl, rfl, rfl⟩, rfl, fun _ _ => rfl⟩, hs, by show s.n < 1000; omega, hb⟩⟩⟩
theorem Zl5 (A : List Int → Int × Int) (PH : List Int → List Int) (t : Zo) (s s1 : ShS) (sec : List Int) (hgt : Int) (ht : t.Ok) (hn : s.n ≤ 20) (hh : 0 ≤ hgt) (hsec : sec.length = 32) (hs : s1.Ok) (hs1 : s1 = ⟨s.num, s.owner, PH sec, s.a0, s.a1, s.n, s.g⟩) (hb : shB A t s1 = true) (h0 : (Zj t s1).length = 0) :
  evF ((((G0.withP 8 Va).withP 21 (WG PH)).withF 9 (Zk0 A)).withF 10 noF) 20 6 [.agg t.c, .agg s.c, .agg [.arr .u8 32 sec], .int .i64 hgt] ⟨0, []⟩ (Z0k (fun v => v = .bool true)) := by
 refine @Eq.mpr _ (let q1 := s.n;
 let q2 := AV.bool true = AV.bool true;
 let q3 := Zo.mk t.fund t.index t.cap t.dust t.fee t.delay t.k0 t.k1;
 Z0 (!decide ((↑q1 : Int) ≤ 20)) q2 (Z0 (decide (hgt < 0)) q2 (Z0 (decide (List.length sec = 32)) (Zo.Ok q3 ∧ ∃ (s_1 : ShS), ((s_1.num = s.num ∧ s_1.owner = s.owner ∧ s_1.point = PH sec ∧ [s.a0, s.a1] = [s_1.a0, s_1.a1]) ∧ (q1 = q1 ∧ s_1.n = q1) ∧ ∀ (i : Nat), i < q1 → ZQ s.g i = ZD.c (s_1.g i)) ∧ ShS.Ok s_1 ∧ s_1.n < 1000 ∧ shB A q3 s_1 = true ∧ List.length (Zj q3 s_1) = 0 ∧ q2) False))) (by kernel_rfl) ?_
 conv => zeta
 try simp only [Zg]
 try simp only [Zl]
 try simp only [Zh]
 try simp only [Zm]
 try simp only [Zn]
 try simp only [Zf]
 try simp only [Int.toNat_natCast, Nat.zero_add, true_and, and_true, Nat.le_refl]
 subst hs1
 exact ⟨fun _ => trivial, fun _ => ⟨fun _ => trivial, fun _ => ⟨hsec, ht, ⟨s.num, s.owner, PH sec, s.a0, s.a1, s.n, s.g⟩, ⟨⟨rfl, rfl, rfl, rfl⟩, rfl, fun _ _ => rfl⟩, hs, by show s.n < 1000; omega, hb, h0⟩⟩⟩
def HoP.s (p : HoP) (o : Int) : ShS := ⟨p.num, o, p.point, p.a0, p.a1, p.m, p.g⟩
def HoP.T (p : HoP) : TxS := txM p.t p.num p.L
structure HoM (A : List Int → Int × Int) (F : TxS → TxS → Bool) (Nm : TxS → List Int) (Sp : TxS → Int → Zs → Int → Int → Int) (PH : List Int → List Int) (X : TxS → List Int → List Int → TxS) (p : HoP) (o : Int) (key : List Int) (S : Int) : Prop where
 ht : p.t.Ok
 hk : key.length = 32
 hs : (p.s o).Ok
 hm : p.m ≤ 20
 hh : 0 ≤ p.hgt ∧ p.hgt < 9223372036854775808
 hsec : p.sec.length = 32
 hpt : p.point = PH p.sec
 hb : shB A p.t (p.s o) = true
 hL : p.L = Zp (Zj p.t (p.s o)) ∧ p.n = p.L.length ∧ p.n ≠ 0
 hP : p.L = Zp (Zj p.t (p.s o)) ∧ p.n = p.L.length ∧ p.n ≠ 0 ∧ p.m = (p.s o).n ∧ p.X = plX p.L p.n p.m ∧ plN p.L (-1) p.n = plN p.L (-1) p.n ∧ p.ot = plN p.L (-2) p.n
 h20 : p.n < 20
 hLok : ∀ m ∈ p.L, m.Ok
 c0 : p.n < 20 ∧ (0 ≤ p.t.fee ∧ p.t.fee ≤ 400) ∧ (∀ i, i < p.n → 0 ≤ (ZK p.L i).amount ∧ (ZK p.L i).amount ≤ 1125899906842624) ∧ p.u0 0 = p.t.fee ∧ ∀ i, p.u0 (i + 1) = p.u0 i + (ZK p.L i).amount
 b1 : decide (plN p.L (-1) p.n < 0) = p.b1
 b2 : decide (p.ot < 0) = p.b2
 m0 : i64.wrap (p.a0 - p.t.fee) = p.m0
 m1 : p.a1 = p.m1
 v1 : p.V1 = if p.b1 = true then [if o = 0 then p.m0 else p.m1] else []
 v2 : p.V1.length ≤ 10 ∧ p.V2 = p.V1 ++ if p.b2 = true then [if o = 0 then p.m1 else p.m0] else []
 c2 : p.m ≤ 20 ∧ p.X.length = p.m ∧ p.V2.length ≤ 2 ∧ p.W 0 = p.V2 ∧ ∀ k, k < p.m → p.W (k + 1) = p.W k ++ (if p.X.getD (p.m - 1 - k) 0 < 0 then [(p.g (p.m - 1 - k)).amount] else [])
 c4 : (p.W p.m).length ≤ 30 ∧ (0 ≤ p.u0 p.n ∧ p.u0 p.n ≤ 1152921504606846976) ∧ (∀ i, i < (p.W p.m).length → 0 ≤ (p.W p.m).getD i 0 ∧ (p.W p.m).getD i 0 < p.t.dust) ∧ p.t.dust ≤ 500 ∧ p.u4 0 = p.u0 p.n ∧ ∀ i, p.u4 (i + 1) = p.u4 i + (p.W p.m).getD i 0
 fin : p.u4 (p.W p.m).length = p.t.cap
 tb : shB A p.t (shT (p.s o)) = true
 ts : (shT (p.s o)).Ok
 tn : p.n = (Zp (Zj p.t (shT (p.s o)))).length
 to : ∀ i, i < p.n → ZK (Zp (Zj p.t (shT (p.s o)))) i = ZK p.L i
 hF : ∀ x, F x x = true
 tx : p.T.Ok
 ck : Y6 A p.T = true
 go : ZaP A Nm p.T key (X8 p.sec p.ot p.n) p.n S
 zok : (swX (Nm p.T) key (X8 p.sec p.ot p.n) p.n S).Ok
 hX : ∀ t a b, (X t a b).num = t.num ∧ (X t a b).N = t.N ∧ (X t a b).M = t.M ∧ (X t a b).outs = t.outs
 hZ : p.Z = X (swX (Nm p.T) key (X8 p.sec p.ot p.n) p.n S) key key
 h8 : Ho8 Sp p
 yok : (X p.T p.t.k1 p.t.k0).Ok
 fok : (XB p.t).Ok
 ys : Sp (X p.T p.t.k1 p.t.k0) 0 (XB p.t) 0 p.hgt = 0
 tB : Xf p.t = true
theorem Zl6 (A : List Int → Int × Int) (F : TxS → TxS → Bool) (Nm : TxS → List Int) (Sp : TxS → Int → Zs → Int → Int → Int) (PH : List Int → List Int) (X : TxS → List Int → List Int → TxS) (p : HoP) (q : List Int) (S : Int) (h : HoM A F Nm Sp PH X p 0 p.t.k1 S) :
  evF (ZfN A F Nm Sp PH X p 0) 20 6 [.agg p.t.c, .agg (ShS.c ⟨p.num, 0, q, p.a0, p.a1, p.m, p.g⟩), .agg [.arr .u8 32 p.sec], .int .i64 p.hgt] ⟨0, []⟩ (Z0k (fun v => v = .bool true)) := by
 refine @Eq.mpr _ (let q1 := p.m;
 let q2 := ShS.mk p.num 0 q p.a0 p.a1 q1 p.g;
 let q3 := q2.n;
 let q4 := AV.bool true;
 let q5 := q4 = q4;
 let q6 := p.sec;
 let q7 := p.t;
 let q8 := q7.fund;
 let q9 := q7.index;
 let q10 := q7.cap;
 let q11 := q7.dust;
 let q12 := q7.fee;
 let q13 := q7.delay;
 let q14 := q7.k0;
 let q15 := q7.k1;
 let q16 := Zo.mk q8 q9 q10 q11 q12 q13 q14 q15;
 let q17 := q2.num;
 let q18 := [q2.a0, q2.a1];
 let q19 := q2.g;
 let q20 := HoP.y p 0;
 let q21 := q20.hgt;
 let q22 := q20.t;
 let q23 := q22.fund;
 let q24 := q22.index;
 let q25 := q22.cap;
 let q26 := q22.dust;
 let q27 := q22.fee;
 let q28 := q22.delay;
 let q29 := q22.k0;
 let q30 := q22.k1;
 let q31 := q20.s;
 let q32 := q31.num;
 let q33 := q31.point;
 let q34 := q31.a0;
 let q35 := [q31.a1];
 let q36 := q34 :: q35;
 let q37 := q31.n;
 let q38 := decide (q3 = q37);
 let q39 := q31.g;
 let q40 := ZQ q39;
 let q41 := q20.sec;
 let q42 := q20.n;
 let q43 := InS.mk q8 q9 1 Z5 Z5 Z5;
 let q44 := X9 q22;
 let q45 := q44.name;
 let q46 := q44.index;
 let q47 := q44.tag;
 let q48 := q44.also;
 let q49 := q44.secret;
 let q50 := (5, 5);
 let q51 := (4, 4);
 let q52 := (2, 2);
 let q53 := (1, 1);
 let q54 := (0, 0);
 let q55 := [q52, q53, q54];
 let q56 := q20.L;
 let q57 := Z8 (ZK q56);
 let q58 := p.n;
 let q59 := q58 < 20;
 let q60 := Zo.mk q23 q24 q25 q26 q27 q28 q29 q30;
 let q61 := Zo.Ok q60;
 let q62 := q31.owner;
 let q63 := (↑q37 : Int);
 let q64 := AV.bool false = q4;
 let q65 := p.u0 q58;
 let q66 := p.ot;
 let q67 := decide (q21 = q21);
 let q68 := p.X;
 let q69 := p.m0;
 let q70 := p.m1;
 let q71 := [q69, q70];
 let q72 := q23 = q23;
 let q73 := decide (q24 = q24);
 let q74 := decide (q25 = q25);
 let q75 := decide (q26 = q26);
 let q76 := decide (q27 = q27);
 let q77 := decide (q28 = q28);
 let q78 := q29 = q29;
 let q79 := q30 = q30;
 let q80 := decide (q32 = q32);
 let q81 := q33 = q33;
 let q82 := q36 = q36;
 let q83 := decide (q37 = q37);
 let q84 := q40 = q40;
 let q85 := q41 = q41;
 let q86 := decide (q42 = q42);
 let q87 := decide (q42 ≤ q42);
 let q88 := q45 = q45;
 let q89 := decide (q46 = q46);
 let q90 := q47 = q47;
 let q91 := q48 = q48;
 let q92 := q49 = q49;
 let q93 := (3, 3);
 let q94 := [(6, 6)];
 let q95 := (7, 7) :: q94;
 let q96 := q93 :: q52 :: q53 :: q54 :: q95;
 let q97 := p.V1;
 let q98 := decide (q37 ≤ q37);
 let q99 := List.length q97;
 let q100 := decide (q65 = q65);
 let q101 := decide (q66 = q66);
 let q102 := q68 = q68;
 let q103 := p.V2;
 let q104 := q63 - 1;
 let q105 := List.length q103;
 let q106 := p.W q1;
 let q107 := List.length q106;
 let q108 := q50 :: q51 :: (8, 8) :: q96;
 let q109 := shT q31;
 let q110 := ZQ q109.g;
 let q111 := decide (0 + q42 ≤ q42);
 let q112 := InS.mk q23 q24 1 Z5 Z5 Z5;
 let q113 := List.length q30 = 32;
 let q114 := p.Z;
 let q115 := q114.N;
 let q116 := q114.M;
 let q117 := [q50, q51, (8, 12), (7, 11), q93, q52, q53, q54, (6, 10)];
 let q118 := XB q60;
 let q119 := (False → False) ∧ (False → False);
 Z0 (!decide ((↑q3 : Int) ≤ 20)) q5
 (Z0 (decide (p.hgt < 0)) q5
 (Z0 (decide (List.length q6 = 32))
 (Zo.Ok q16 ∧
 ∃ (s : ShS),
 ∃ (n : Nat),
 let q239 := decide (n = q42);
 ∃ (L : List Ze),
 ((s.num = q17 ∧ s.owner = q2.owner ∧ s.point = PH q6 ∧ q18 = [s.a0, s.a1]) ∧ (q3 = q3 ∧ s.n = q3) ∧ ∀ (i : Nat), i < q3 → ZQ q19 i = ZD.c (s.g i)) ∧
 ShS.Ok s ∧
 s.n < 1000 ∧
 shB A q16 s = true ∧
 (L = Zp (Zj q16 s) ∧ n = List.length L ∧ n ≠ 0) ∧
 Z0 (decide (q12 = q12))
 (Z0 (decide (p.hgt = q21))
 (q8 = q23 ∧
 Z0 (decide (q9 = q24))
 (Z0 (decide (q10 = q25))
 (Z0 (decide (q11 = q26))
 (Z0 (decide (q12 = q27))
 (Z0 (decide (q13 = q28))
 (q14 = q29 ∧
 q15 = q30 ∧
 Z0 (decide (q17 = q32))
 (PH q6 = q33 ∧
 q18 = q36 ∧
 Z0 q38
 (ZQ q19 = q40 ∧
 Z0 q38
 (q6 = q41 ∧
 Z0 (decide (s.num = q32))
 (Z0 q239
 (Z0 (decide (q42 ≤ n))
 (q43.name = q45 ∧
 Z0 (decide (q43.index = q46))
 (q43.tag = q47 ∧
 q43.also = q48 ∧
 q43.secret = q49 ∧
 Z0 q239
 (Zc 0 (q50 :: q51 :: (3, 6) :: q55) q42 q57 (Z8 (ZK L)) ∧
 (q59 ∧
 (0 ≤ q12 ∧ q12 ≤ 400) ∧
 (∀ (i : Nat),
 let q241 := (ZK p.L i).amount;
 i < q58 → 0 ≤ q241 ∧ q241 ≤ 1125899906842624) ∧
 p.u0 0 = q12 ∧ ∀ (i : Nat), p.u0 (i + 1) = p.u0 i + (ZK p.L i).amount) ∧
 ∀ (i : Nat),
 i ≤ q58 →
 (∀ (j : Nat), j < i → (fun (i : Nat) => i < q58) j) →
 (i = q58 →
 q61 ∧
 ∃ (s : ShS),
 let q241 := s.n;
 ∃ (n : Nat),
 ∃ (m : Nat),
 ∃ (L : List Ze),
 ∃ (X_1 : List Int),
 ∃ (a : Int),
 ∃ (b : Int),
 ((s.num = q32 ∧ s.owner = q62 ∧ s.point = q33 ∧ q36 = [s.a0, s.a1]) ∧ (q37 = q37 ∧ q241 = q37) ∧ ∀ (i : Nat), i < q37 → q40 i = ZD.c (s.g i)) ∧
 ShS.Ok s ∧
 q241 < 1000 ∧
 shB A q60 s = true ∧
 (L = Zp (Zj q60 s) ∧ n = List.length L ∧ n ≠ 0 ∧ m = q241 ∧ X_1 = plX L n m ∧ a = plN L (-1) n ∧ b = plN L (-2) n) ∧
 Z0 ((↑m : Int) != q63) q64
 (Z0 (decide (decide (a < 0) = p.b1))
 (Z0 (decide (m = q37))
 (Z0 (decide (q37 ≤ m))
 (Z0 (decide (p.u0 i = q65))
 (Z0 (decide (b = q66))
 (Z0 q67
 (X_1 = q68 ∧
 wrap i64 (q34 - q27) :: q35 = q71 ∧
 ([] : List Int) = [] ∧
 q72 ∧
 Z0 q73
 (Z0 q74
 (Z0 q75
 (Z0 q76
 (Z0 q77
 (q78 ∧
 q79 ∧
 Z0 q80
 (q81 ∧
 q82 ∧
 Z0 q83
 (q84 ∧
 Z0 q83
 (q85 ∧
 Z0 q80
 (Z0 q86
 (Z0 q87
 (q88 ∧
 Z0 q89
 (q90 ∧
 q91 ∧
 q92 ∧
 Z0 q86
 (Zc 0 (q50 :: q51 :: q96) q42 q57 q57 ∧
 (q97 = if p.b1 = true then [if (0 : Int) = 0 then q69 else q70] else []) ∧
 Z0 (decide (decide (q66 < 0) = p.b2))
 (Z0 q83
 (Z0 q98
 (Z0 (decide (q99 = q99))
 (Z0 (decide (q99 ≤ q99))
 (Z0 q100
 (Z0 q101
 (Z0 q67
 (q102 ∧
 q71 = q71 ∧
 q97 = q97 ∧
 q72 ∧
 Z0 q73
 (Z0 q74
 (Z0 q75
 (Z0 q76
 (Z0 q77
 (q78 ∧
 q79 ∧
 Z0 q80
 (q81 ∧
 q82 ∧
 Z0 q83
 (q84 ∧
 Z0 q83
 (q85 ∧
 Z0 q80
 (Z0 q86
 (Z0 q87
 (q88 ∧
 Z0 q89
 (q90 ∧
 q91 ∧
 q92 ∧
 Z0 q86
 (Zc 0 (q50 :: q51 :: q93 :: q52 :: q53 :: q54 :: (7, 7) :: (8, 8) :: q94) q42 q57 q57 ∧
 (q99 ≤ 10 ∧ q103 = q97 ++ if p.b2 = true then [if (0 : Int) = 0 then q70 else q69] else []) ∧
 Z0 (decide (wrap i64 q104 = q104 - 0))
 (Z0 q83
 (Z0 q98
 (Z0 (decide (q105 = q105))
 (Z0 (decide (q105 ≤ q105))
 (Z0 q100
 (Z0 q101
 (Z0 q67
 (q102 ∧
 q103 = q103 ∧
 Z0 q80
 (q81 ∧
 q82 ∧
 q72 ∧
 Z0 q73
 (Z0 q74
 (Z0 q75
 (Z0 q76
 (Z0 q77
 (q78 ∧
 q79 ∧
 Z0 q80
 (q81 ∧
 q82 ∧
 Z0 q83
 (q84 ∧
 Z0 q83
 (q85 ∧
 Z0 q80
 (Z0 q86
 (Z0 q87
 (q88 ∧
 Z0 q89
 (q90 ∧
 q91 ∧
 q92 ∧
 Z0 q86
 (Zc 0 (q50 :: q51 :: q93 :: q52 :: q53 :: q54 :: (8, 8) :: q95) q42 q57 q57 ∧
 (q1 ≤ 20 ∧
 List.length q68 = q1 ∧
 q105 ≤ 2 ∧
 p.W 0 = q103 ∧
 ∀ (k : Nat),
 let q243 := q1 - 1 - k;
 k < q1 → p.W (k + 1) = p.W k ++ if List.getD q68 q243 0 < 0 then [(p.g q243).amount] else []) ∧
 ∀ (i : Nat),
 let q243 := List.length (p.W i);
 let q244 := decide (i = q1);
 i ≤ q1 →
 (∀ (j : Nat), j < i → (fun (i : Nat) => i < q1) j) →
 (i = q1 →
 Z0 (decide (q243 = q107))
 (Z0 (decide (q107 ≤ q243))
 (Z0 q100
 (Z0 q101
 (Z0 q67
 (p.W i = q106 ∧
 Z0 q80
 (q81 ∧
 q82 ∧
 Z0 q244
 (Z0 (decide (q1 ≤ i))
 (Z0 q244
 (Zc 0 q108 q1 q110 q110 ∧
 q72 ∧
 Z0 q73
 (Z0 q74
 (Z0 q75
 (Z0 q76
 (Z0 q77
 (q78 ∧
 q79 ∧
 Z0 q80
 (q81 ∧
 q82 ∧
 Z0 q83
 (q84 ∧
 Z0 q83
 (q85 ∧
 Z0 q80
 (Z0 q86
 (Z0 q87
 (q88 ∧
 Z0 q89
 (q90 ∧
 q91 ∧
 q92 ∧
 Z0 q86
 (Zc 0 q108 q42 q57 q57 ∧
 (q107 ≤ 30 ∧ (0 ≤ q65 ∧ q65 ≤ 1152921504606846976) ∧ (∀ (i : Nat), i < q107 → 0 ≤ List.getD q106 i 0 ∧ List.getD q106 i 0 < q11) ∧ q11 ≤ 500 ∧ p.u4 0 = q65 ∧ ∀ (i : Nat), p.u4 (i + 1) = p.u4 i + List.getD q106 i 0) ∧
 ∀ (i : Nat),
 i ≤ q107 →
 (∀ (j : Nat), j < i → (fun (i : Nat) => i < q107) j) →
 (i = q107 →
 Z0 (decide (0 + q1 ≤ q1))
 ((∀ (i : Nat), i < q1 → true = true) ∧
 q61 ∧
 ∃ (s : ShS),
 ∃ (n : Nat),
 ∃ (L : List Ze),
 ((s.num = q32 ∧ s.owner = q62 ∧ s.point = q33 ∧ q36 = [s.a0, s.a1]) ∧
 (q1 = q1 ∧ s.n = q1) ∧
 ∀ (i : Nat),
 let q247 := q109.g i;
 i < q1 → [AV.int i64 q247.frm, AV.int i64 q247.id, AV.int i64 q247.amount, AV.arr u8 32 q247.hash, AV.int i64 q247.expiry] = ZD.c (s.g i)) ∧
 ShS.Ok s ∧
 s.n < 1000 ∧
 shB A q60 s = true ∧
 (L = Zp (Zj q60 s) ∧ n = List.length L ∧ n ≠ 0) ∧
 Z0 (p.u4 i != q25) q64
 (Z0 q111
 ((∀ (i : Nat), i < q42 → true = true) ∧
 Z0 (decide (0 + n ≤ n))
 ((∀ (i : Nat), i < n → true = true) ∧
 ∃ (a : TxS),
 ∃ (b : TxS),
 (a.num = q32 ∧
 (((1 : Nat) = 1 ∧ a.N = 1) ∧ ∀ (i : Nat), i < 1 → ZO [AV.arr u8 32 q45, AV.int i64 q46, AV.int i64 q44.way, AV.arr u8 32 q47, AV.arr u8 32 q48, AV.arr u8 32 q49] 0 130 i = InS.c (a.ins i)) ∧
 (q42 = q42 ∧ a.M = q42) ∧
 ∀ (i : Nat),
 let q247 := ZK q56 i;
 i < q42 → [AV.int i64 q247.kind, AV.int i64 q247.amount, AV.arr u8 32 q247.owner, AV.arr u8 32 q247.other, AV.arr u8 32 q247.point, AV.arr u8 32 q247.hash, AV.int i64 q247.delay, AV.int i64 q247.expiry] = Zs.c (a.outs i)) ∧
 (b.num = s.num ∧
 (((1 : Nat) = 1 ∧ b.N = 1) ∧ ∀ (i : Nat), i < 1 → ZO [AV.arr u8 32 q112.name, AV.int i64 q112.index, AV.int i64 q112.way, AV.arr u8 32 q112.tag, AV.arr u8 32 q112.also, AV.arr u8 32 q112.secret] 0 130 i = InS.c (b.ins i)) ∧
 (n = n ∧ b.M = n) ∧
 ∀ (i : Nat),
 let q247 := ZK L i;
 i < n → [AV.int i64 q247.kind, AV.int i64 q247.amount, AV.arr u8 32 q247.owner, AV.arr u8 32 q247.other, AV.arr u8 32 q247.point, AV.arr u8 32 q247.hash, AV.int i64 q247.delay, AV.int i64 q247.expiry] = Zs.c (b.outs i)) ∧
 (TxS.Ok a ∧ TxS.Ok b) ∧
 Z0 (!F a b) q64
 (Z0 q101
 (Z0 q67
 (q72 ∧
 Z0 q73
 (Z0 q74
 (Z0 q75
 (Z0 q76
 (Z0 q77
 (q78 ∧
 q79 ∧
 Z0 q80
 (q81 ∧
 q82 ∧
 Z0 q83
 (q84 ∧
 Z0 q83
 (q85 ∧
 Z0 q80
 (Z0 q86
 (Z0 q87
 (q88 ∧
 Z0 q89
 (q90 ∧
 q91 ∧
 q92 ∧
 Z0 q86
 (Zc 0 (q50 :: q51 :: q93 :: q55) q42 q57 q57 ∧
 q59 ∧
 ∀ (i : Nat),
 i ≤ q58 →
 (∀ (j : Nat), j < i → (fun (i : Nat) => i < q58) j) →
 (i = q58 →
 Z0 q111
 ((∀ (i : Nat), i < q42 → true = true) ∧
 Z0 (decide (0 + i ≤ i))
 ((∀ (i_1 : Nat), i_1 < i → true = true) ∧
 ∃ (t : TxS),
 ∃ (n : Nat),
 ∃ (L : List ClS),
 ∃ (L0 : List ClS),
 ∃ (sum : Int),
 let q247 := swO q30 sum;
 (t.num = q32 ∧
 (((1 : Nat) = 1 ∧ t.N = 1) ∧ ∀ (i : Nat), i < 1 → ZO [AV.arr u8 32 q45, AV.int i64 q46, AV.int i64 q44.way, AV.arr u8 32 q47, AV.arr u8 32 q48, AV.arr u8 32 q49] 0 130 i = InS.c (t.ins i)) ∧
 (q42 = q42 ∧ t.M = q42) ∧
 ∀ (i : Nat),
 let q249 := ZK q56 i;
 i < q42 → [AV.int i64 q249.kind, AV.int i64 q249.amount, AV.arr u8 32 q249.owner, AV.arr u8 32 q249.other, AV.arr u8 32 q249.point, AV.arr u8 32 q249.hash, AV.int i64 q249.delay, AV.int i64 q249.expiry] = Zs.c (t.outs i)) ∧
 ((i = i ∧ n = i) ∧
 ∀ (i_1 : Nat),
 let q249 := List.getD (X8 q41 q66 q42) i_1 cl0;
 i_1 < i → [AV.int i64 q249.index, AV.int i64 q249.way, AV.arr u8 32 q249.secret] = ZE L i_1) ∧
 (TxS.Ok t ∧ t.M ≤ 24 ∧ q113 ∧ (n < 20 ∧ n ≤ 30) ∧ List.length L = n ∧ (∀ (m : ClS), List.Mem m L → ClS.Ok m) ∧ Y6 A t = true) ∧
 (∀ (L1 : List ClS), List.Perm L1 L → Wm ltC L1 → L1 = L0) ∧
 ZaP A Nm t q30 L0 n sum ∧
 Z0 (decide (0 + n ≤ n))
 ((∀ (i : Nat), i < n → true = true) ∧
 ∃ (t_1 : TxS),
 let q249 := t_1.N;
 let q250 := t_1.M;
 let q251 := decide (q249 = q115);
 let q252 := decide (q250 = q116);
 (t_1.num = 0 ∧
 ((n = n ∧ q249 = n) ∧
 ∀ (i : Nat),
 let q257 := swI (Nm t) L0 i;
 i < n → [AV.arr u8 32 q257.name, AV.int i64 q257.index, AV.int i64 q257.way, AV.arr u8 32 q257.tag, AV.arr u8 32 q257.also, AV.arr u8 32 q257.secret] = InS.c (t_1.ins i)) ∧
 ((1 : Nat) = 1 ∧ q250 = 1) ∧ ∀ (i : Nat), i < 1 → ZO [AV.int i64 q247.kind, AV.int i64 q247.amount, AV.arr u8 32 q247.owner, AV.arr u8 32 q247.other, AV.arr u8 32 q247.point, AV.arr u8 32 q247.hash, AV.int i64 q247.delay, AV.int i64 q247.expiry] 0 132 i = Zs.c (t_1.outs i)) ∧
 (TxS.Ok t_1 ∧ q113 ∧ q113 ∧ Y6 A t_1 = true) ∧
 Z0 ((↑q249 : Int) != (↑q42 : Int)) q64
 (Z0 q67
 (Z0 (decide (t_1.num = q114.num))
 (Z0 q251
 (Z0 (decide (q115 ≤ q249))
 (Z0 q252
 (Z0 (decide (q116 ≤ q250))
 (Z0 q251
 (Zc 0 q117 q115 (Zb q114.ins) (Zb (X t_1 q30 q30).ins) ∧
 Z0 q252
 (Zc 0 q117 q116 (Z8 q114.outs) (Z8 t_1.outs) ∧
 q72 ∧
 Z0 q73
 (Z0 q74
 (Z0 q75
 (Z0 q76
 (Z0 q77
 (q78 ∧
 q79 ∧
 Z0 q80
 (q81 ∧
 q82 ∧
 Z0 q83
 (q84 ∧
 Z0 q83
 (q85 ∧
 Z0 q80
 (Z0 q86
 (Z0 q87
 (q88 ∧
 Z0 q89
 (q90 ∧
 q91 ∧
 q92 ∧
 Z0 q86
 (Zc 0 q117 q42 q57 q57 ∧
 Ho8 Sp p ∧
 ∀ (i : Nat),
 i ≤ q58 →
 (∀ (j : Nat), j < i → (fun (i : Nat) => i < q58) j) →
 (i = q58 →
 Z0 q111
 ((∀ (i : Nat), i < q42 → true = true) ∧
 ∃ (t : TxS),
 let q257 := t.N;
 let q258 := t.M;
 (t.num = q32 ∧
 (((1 : Nat) = 1 ∧ q257 = 1) ∧ ∀ (i : Nat), i < 1 → ZO [AV.arr u8 32 q45, AV.int i64 q46, AV.int i64 q44.way, AV.arr u8 32 q47, AV.arr u8 32 q48, AV.arr u8 32 q49] 0 130 i = InS.c (t.ins i)) ∧
 (q42 = q42 ∧ q258 = q42) ∧
 ∀ (i : Nat),
 let q261 := ZK q56 i;
 i < q42 → [AV.int i64 q261.kind, AV.int i64 q261.amount, AV.arr u8 32 q261.owner, AV.arr u8 32 q261.other, AV.arr u8 32 q261.point, AV.arr u8 32 q261.hash, AV.int i64 q261.delay, AV.int i64 q261.expiry] = Zs.c (t.outs i)) ∧
 (TxS.Ok t ∧ q113 ∧ List.length q29 = 32 ∧ Y6 A t = true) ∧
 q61 ∧
 Z0 (Xf q60)
 (Z0 (decide (0 + q257 ≤ q257))
 ((∀ (i : Nat), i < q257 → true = true) ∧
 Z0 (decide (0 + q258 ≤ q258))
 ((∀ (i : Nat), i < q258 → true = true) ∧
 ∃ (t_2 : TxS),
 ∃ (o : Zs),
 (t_2.num = t.num ∧
 ((q257 = q257 ∧ t_2.N = q257) ∧
 ∀ (i : Nat),
 let q261 := (X t q30 q29).ins i;
 i < q257 → [AV.arr u8 32 q261.name, AV.int i64 q261.index, AV.int i64 q261.way, AV.arr u8 32 q261.tag, AV.arr u8 32 q261.also, AV.arr u8 32 q261.secret] = InS.c (t_2.ins i)) ∧
 (q258 = q258 ∧ t_2.M = q258) ∧
 ∀ (i : Nat),
 let q261 := t.outs i;
 i < q258 → [AV.int i64 q261.kind, AV.int i64 q261.amount, AV.arr u8 32 q261.owner, AV.arr u8 32 q261.other, AV.arr u8 32 q261.point, AV.arr u8 32 q261.hash, AV.int i64 q261.delay, AV.int i64 q261.expiry] = Zs.c (t_2.outs i)) ∧
 [AV.int i64 q118.kind, AV.int i64 q118.amount, AV.arr u8 32 q118.owner, AV.arr u8 32 q118.other, AV.arr u8 32 q118.point, AV.arr u8 32 q118.hash, AV.int i64 q118.delay, AV.int i64 q118.expiry] = Zs.c o ∧ (TxS.Ok t_2 ∧ Zs.Ok o ∧ ((-9223372036854775808 : Int) ≤ 0 ∧ (0 : Int) < 9223372036854775808) ∧ -9223372036854775808 ≤ q21 ∧ q21 < 9223372036854775808) ∧ Z0 (Sp t_2 0 o 0 q21 == 0) q5 q64)
 False)
 False)
 q64)
 False) ∧
 q119)
 False)
 False)
 False)
 False)
 False)
 False)
 False)
 False)
 False)
 False)
 False)
 False)
 False)
 False)
 False)
 False)
 False)
 False)
 False)
 False)
 False))
 False)
 False)
 False) ∧
 q119)
 False)
 False)
 False)
 False)
 False)
 False)
 False)
 False)
 False)
 False)
 False)
 False)
 False)
 False)
 False))
 False)
 False))
 False) ∧
 q119)
 False)
 False)
 False)
 False)
 False)
 False)
 False)
 False)
 False)
 False)
 False)
 False)
 False)
 False)
 False)
 False)
 False)
 False)
 False)
 False)
 False)
 False) ∧
 q119)
 False)
 False)
 False)
 False)
 False)
 False)
 False)
 False)
 False)
 False)
 False)
 False)
 False)
 False)
 False)
 False)
 False)
 False)
 False)
 False)
 False)
 False)
 False)
 False)
 False)
 False)
 False)
 False)
 False)
 False)
 False)
 False)
 False)
 False)
 False)
 False)
 False)
 False)
 False)
 False)
 False)
 False)
 False)
 False)
 False)
 False)
 False)
 False)
 False)
 False)
 False)
 False)
 False)
 False)
 False)
 False)
 False)
 False)
 False)
 False)
 False)
 False)) ∧
 q119)
 False)
 False)
 False)
 False)
 False)
 False)
 False)
 False)
 False)
 False)
 False)
 False)
 False)
 False)
 False)
 False))) (by kernel_rfl) ?_
 conv => zeta
 try simp only [Zg]
 try simp only [Zl]
 try simp only [Zh]
 try simp only [Zm]
 try simp only [Zn]
 try simp only [Zf]
 try simp only [Int.toNat_natCast, Nat.zero_add, true_and, and_true, Nat.le_refl]
 have e1 := h.hL.2.1
 have rP : ∀ k τ n (g : Nat → ZD), Zc k τ n (ZQ g) (ZQ g) := fun _ _ _ _ => Z0w fun _ _ => rfl
 have rI : ∀ k τ n (g : Nat → InS), Zc k τ n (Zb g) (Zb g) := fun _ _ _ _ => Yd fun _ _ => rfl
 have rO : ∀ k τ n (g : Nat → Zs), Zc k τ n (Z8 g) (Z8 g) := fun _ _ _ _ => Y7 fun _ _ => rfl
 have hI : ∀ i, i < 1 → ZO (InS.c (X9 p.t)) 0 130 i = InS.c (p.T.ins i) := fun i hi => by
  have e : i = 0 := by omega
  subst e; rfl
 have hne : ∀ x : Int, ¬ (x != x) = true := fun x => by simp
 have hwm : i64.wrap ((p.m : Int) - 1) = (p.m : Int) - 1 - 0 := by rw [w64 (by have := h.hm; omega)]; omega
 have hF3 : ∀ x, ¬ (!F x x) = true := fun x => by rw [h.hF]; simp
 have hfin : ¬ (p.u4 (p.W p.m).length != p.t.cap) = true := by rw [h.fin]; simp
 have hZx := h.hX (swX (Nm p.T) p.t.k1 (X8 p.sec p.ot p.n) p.n S) p.t.k1 p.t.k1
 have hYx := h.hX p.T p.t.k1 p.t.k0
 have z1 : (0 : Int) = p.Z.num := by rw [h.hZ, hZx.1]; rfl
 have z2 : p.n = p.Z.N := by rw [h.hZ, hZx.2.1]; rfl
 have z3 : 1 = p.Z.M := by rw [h.hZ, hZx.2.2.1]; rfl
 have z4 : p.Z.outs = fun _ => swO p.t.k1 S := by rw [h.hZ, hZx.2.2.2]; rfl
 have hsp : (Sp (X p.T p.t.k1 p.t.k0) 0 (XB p.t) 0 p.hgt == 0) = true := by rw [h.ys]; rfl
 have hk1 : p.m < 1000 := by have := h.hm; omega
 have hmm : [i64.wrap (p.a0 - p.t.fee), p.a1] = [p.m0, p.m1] := by rw [h.m0, h.m1]
 have hTM : p.T.M ≤ 24 := by
  have := h.h20
  show p.L.length ≤ 24
  omega
 have hO1 : ∀ i, i < 1 → ZO (Zs.c (swO p.t.k1 S)) 0 132 i = Zs.c (swO p.t.k1 S) := fun i hi => by
  have e : i = 0 := by omega
  subst e; rfl
 have hh1 : -9223372036854775808 ≤ p.hgt := by have := h.hh; omega
 have hsp3 : ¬ (Sp (X p.T p.t.k1 p.t.k0) 0 (XB p.t) 0 p.hgt == 0) = false := by rw [h.ys]; decide
 have htb3 : ¬ Xf p.t = false := by rw [h.tB]; decide
 repeat' (first
  | exact trivial
  | exact hk1
  | exact hmm
  | exact hTM
  | exact hh1
  | exact h.hh.2
  | exact Nat.le_refl _
  | exact Nat.le_of_eq z2.symm
  | exact Nat.le_of_eq z3.symm
  | exact fun k => absurd k hsp3
  | exact fun k => absurd k htb3
  | exact h.ht
  | exact h.hsec
  | exact h.hs
  | exact h.hb
  | exact h.hL
  | exact h.hP
  | exact h.c0
  | exact h.c2
  | exact h.c4
  | exact h.b1
  | exact h.b2
  | exact h.v1
  | exact h.v2
  | exact h.ts
  | exact h.tb
  | exact h.tx
  | exact h.ck
  | exact h.go
  | exact h.zok
  | exact h.go.ck
  | exact h.h8
  | exact h.hk
  | exact h.ht.k0
  | exact h.ht.k1
  | exact h.tB
  | exact h.yok
  | exact h.fok
  | exact hsp
  | exact rO _ _ _ _
  | exact rP _ _ _ _
  | exact ⟨rfl, h.tn, h.hL.2.2⟩
  | exact fun _ _ => trivial
  | exact fun k => absurd k (hne _)
  | exact fun k => absurd k (hF3 _)
  | exact fun k => absurd k hfin
  | exact h.hpt.symm
  | exact h.hpt
  | exact hwm
  | exact z1
  | exact z2
  | exact z3
  | exact Z3p _ _ _
  | exact Z3q h.hsec
  | exact fun L1 hp ho => Z4x hp ho
  | (rw [h.hZ]; exact rI _ _ _ _)
  | (rw [z4]; exact rO _ _ _ _)
  | (refine ⟨(p.s 0), p.n, p.L, ⟨⟨rfl, rfl, h.hpt, rfl⟩, rfl, fun _ _ => rfl⟩, ?_⟩)
  | (refine ⟨(p.s 0), p.n, p.m, p.L, p.X, plN p.L (-1) p.n, p.ot, ⟨⟨rfl, rfl, rfl, rfl⟩, rfl, fun _ _ => rfl⟩, ?_⟩)
  | (refine ⟨shT (p.s 0), p.n, Zp (Zj p.t (shT (p.s 0))), ⟨⟨rfl, rfl, rfl, rfl⟩, rfl, fun _ _ => rfl⟩, ?_⟩)
  | (refine ⟨p.T, p.T, ⟨rfl, ⟨rfl, hI⟩, e1.symm, fun _ _ => rfl⟩, ⟨rfl, ⟨rfl, hI⟩, e1.symm, fun i hi => by rw [h.to i hi]; rfl⟩, ⟨h.tx, h.tx⟩, ?_⟩)
  | (refine ⟨p.T, p.n, X8 p.sec p.ot p.n, X8 p.sec p.ot p.n, S, ⟨rfl, ⟨rfl, hI⟩, e1.symm, fun _ _ => rfl⟩, ⟨rfl, fun _ _ => rfl⟩, ?_⟩)
  | (refine ⟨swX (Nm p.T) p.t.k1 (X8 p.sec p.ot p.n) p.n S, ⟨rfl, ⟨rfl, fun _ _ => rfl⟩, rfl, hO1⟩, ?_⟩)
  | (refine ⟨p.T, ⟨rfl, ⟨rfl, hI⟩, e1.symm, fun _ _ => rfl⟩, ?_⟩)
  | (refine ⟨X p.T p.t.k1 p.t.k0, XB p.t, ⟨hYx.1, ⟨hYx.2.1, fun _ _ => rfl⟩, hYx.2.2.1, fun _ _ => by rw [hYx.2.2.2]; rfl⟩, rfl, ?_⟩)
  | refine And.intro ?_ ?_
  | rfl
  | (have := h.hm; have := h.hh; have := h.h20; omega)
  | (intro he; subst he)
  | intro _)
theorem Zl7 (A : List Int → Int × Int) (F : TxS → TxS → Bool) (Nm : TxS → List Int) (Sp : TxS → Int → Zs → Int → Int → Int) (PH : List Int → List Int) (X : TxS → List Int → List Int → TxS) (p : HoP) (q : List Int) (S : Int) (h : HoM A F Nm Sp PH X p 1 p.t.k0 S) :
  evF (ZfN A F Nm Sp PH X p 1) 20 6 [.agg p.t.c, .agg (ShS.c ⟨p.num, 1, q, p.a0, p.a1, p.m, p.g⟩), .agg [.arr .u8 32 p.sec], .int .i64 p.hgt] ⟨0, []⟩ (Z0k (fun v => v = .bool true)) := by
 refine @Eq.mpr _ (let q1 := p.m;
 let q2 := ShS.mk p.num 1 q p.a0 p.a1 q1 p.g;
 let q3 := q2.n;
 let q4 := AV.bool true;
 let q5 := q4 = q4;
 let q6 := p.sec;
 let q7 := p.t;
 let q8 := q7.fund;
 let q9 := q7.index;
 let q10 := q7.cap;
 let q11 := q7.dust;
 let q12 := q7.fee;
 let q13 := q7.delay;
 let q14 := q7.k0;
 let q15 := q7.k1;
 let q16 := Zo.mk q8 q9 q10 q11 q12 q13 q14 q15;
 let q17 := q2.num;
 let q18 := [q2.a0, q2.a1];
 let q19 := q2.g;
 let q20 := HoP.y p 1;
 let q21 := q20.hgt;
 let q22 := q20.t;
 let q23 := q22.fund;
 let q24 := q22.index;
 let q25 := q22.cap;
 let q26 := q22.dust;
 let q27 := q22.fee;
 let q28 := q22.delay;
 let q29 := q22.k0;
 let q30 := q22.k1;
 let q31 := q20.s;
 let q32 := q31.num;
 let q33 := q31.point;
 let q34 := q31.a0;
 let q35 := [q31.a1];
 let q36 := q34 :: q35;
 let q37 := q31.n;
 let q38 := decide (q3 = q37);
 let q39 := q31.g;
 let q40 := ZQ q39;
 let q41 := q20.sec;
 let q42 := q20.n;
 let q43 := InS.mk q8 q9 1 Z5 Z5 Z5;
 let q44 := X9 q22;
 let q45 := q44.name;
 let q46 := q44.index;
 let q47 := q44.tag;
 let q48 := q44.also;
 let q49 := q44.secret;
 let q50 := (5, 5);
 let q51 := (4, 4);
 let q52 := (2, 2);
 let q53 := (1, 1);
 let q54 := (0, 0);
 let q55 := [q52, q53, q54];
 let q56 := q20.L;
 let q57 := Z8 (ZK q56);
 let q58 := p.n;
 let q59 := q58 < 20;
 let q60 := Zo.mk q23 q24 q25 q26 q27 q28 q29 q30;
 let q61 := Zo.Ok q60;
 let q62 := q31.owner;
 let q63 := (↑q37 : Int);
 let q64 := AV.bool false = q4;
 let q65 := p.u0 q58;
 let q66 := p.ot;
 let q67 := decide (q21 = q21);
 let q68 := p.X;
 let q69 := p.m0;
 let q70 := p.m1;
 let q71 := [q69, q70];
 let q72 := q23 = q23;
 let q73 := decide (q24 = q24);
 let q74 := decide (q25 = q25);
 let q75 := decide (q26 = q26);
 let q76 := decide (q27 = q27);
 let q77 := decide (q28 = q28);
 let q78 := q29 = q29;
 let q79 := q30 = q30;
 let q80 := decide (q32 = q32);
 let q81 := q33 = q33;
 let q82 := q36 = q36;
 let q83 := decide (q37 = q37);
 let q84 := q40 = q40;
 let q85 := q41 = q41;
 let q86 := decide (q42 = q42);
 let q87 := decide (q42 ≤ q42);
 let q88 := q45 = q45;
 let q89 := decide (q46 = q46);
 let q90 := q47 = q47;
 let q91 := q48 = q48;
 let q92 := q49 = q49;
 let q93 := (3, 3);
 let q94 := [(6, 6)];
 let q95 := (7, 7) :: q94;
 let q96 := q93 :: q52 :: q53 :: q54 :: q95;
 let q97 := p.V1;
 let q98 := decide (q37 ≤ q37);
 let q99 := List.length q97;
 let q100 := decide (q65 = q65);
 let q101 := decide (q66 = q66);
 let q102 := q68 = q68;
 let q103 := p.V2;
 let q104 := q63 - 1;
 let q105 := List.length q103;
 let q106 := p.W q1;
 let q107 := List.length q106;
 let q108 := q50 :: q51 :: (8, 8) :: q96;
 let q109 := shT q31;
 let q110 := ZQ q109.g;
 let q111 := decide (0 + q42 ≤ q42);
 let q112 := InS.mk q23 q24 1 Z5 Z5 Z5;
 let q113 := List.length q29 = 32;
 let q114 := p.Z;
 let q115 := q114.N;
 let q116 := q114.M;
 let q117 := [q50, q51, (8, 12), (7, 11), q93, q52, q53, q54, (6, 10)];
 let q118 := XB q60;
 let q119 := (False → False) ∧ (False → False);
 Z0 (!decide ((↑q3 : Int) ≤ 20)) q5
 (Z0 (decide (p.hgt < 0)) q5
 (Z0 (decide (List.length q6 = 32))
 (Zo.Ok q16 ∧
 ∃ (s : ShS),
 ∃ (n : Nat),
 let q239 := decide (n = q42);
 ∃ (L : List Ze),
 ((s.num = q17 ∧ s.owner = q2.owner ∧ s.point = PH q6 ∧ q18 = [s.a0, s.a1]) ∧ (q3 = q3 ∧ s.n = q3) ∧ ∀ (i : Nat), i < q3 → ZQ q19 i = ZD.c (s.g i)) ∧
 ShS.Ok s ∧
 s.n < 1000 ∧
 shB A q16 s = true ∧
 (L = Zp (Zj q16 s) ∧ n = List.length L ∧ n ≠ 0) ∧
 Z0 (decide (q12 = q12))
 (Z0 (decide (p.hgt = q21))
 (q8 = q23 ∧
 Z0 (decide (q9 = q24))
 (Z0 (decide (q10 = q25))
 (Z0 (decide (q11 = q26))
 (Z0 (decide (q12 = q27))
 (Z0 (decide (q13 = q28))
 (q14 = q29 ∧
 q15 = q30 ∧
 Z0 (decide (q17 = q32))
 (PH q6 = q33 ∧
 q18 = q36 ∧
 Z0 q38
 (ZQ q19 = q40 ∧
 Z0 q38
 (q6 = q41 ∧
 Z0 (decide (s.num = q32))
 (Z0 q239
 (Z0 (decide (q42 ≤ n))
 (q43.name = q45 ∧
 Z0 (decide (q43.index = q46))
 (q43.tag = q47 ∧
 q43.also = q48 ∧
 q43.secret = q49 ∧
 Z0 q239
 (Zc 0 (q50 :: q51 :: (3, 6) :: q55) q42 q57 (Z8 (ZK L)) ∧
 (q59 ∧
 (0 ≤ q12 ∧ q12 ≤ 400) ∧
 (∀ (i : Nat),
 let q241 := (ZK p.L i).amount;
 i < q58 → 0 ≤ q241 ∧ q241 ≤ 1125899906842624) ∧
 p.u0 0 = q12 ∧ ∀ (i : Nat), p.u0 (i + 1) = p.u0 i + (ZK p.L i).amount) ∧
 ∀ (i : Nat),
 i ≤ q58 →
 (∀ (j : Nat), j < i → (fun (i : Nat) => i < q58) j) →
 (i = q58 →
 q61 ∧
 ∃ (s : ShS),
 let q241 := s.n;
 ∃ (n : Nat),
 ∃ (m : Nat),
 ∃ (L : List Ze),
 ∃ (X_1 : List Int),
 ∃ (a : Int),
 ∃ (b : Int),
 ((s.num = q32 ∧ s.owner = q62 ∧ s.point = q33 ∧ q36 = [s.a0, s.a1]) ∧ (q37 = q37 ∧ q241 = q37) ∧ ∀ (i : Nat), i < q37 → q40 i = ZD.c (s.g i)) ∧
 ShS.Ok s ∧
 q241 < 1000 ∧
 shB A q60 s = true ∧
 (L = Zp (Zj q60 s) ∧ n = List.length L ∧ n ≠ 0 ∧ m = q241 ∧ X_1 = plX L n m ∧ a = plN L (-1) n ∧ b = plN L (-2) n) ∧
 Z0 ((↑m : Int) != q63) q64
 (Z0 (decide (decide (a < 0) = p.b1))
 (Z0 (decide (m = q37))
 (Z0 (decide (q37 ≤ m))
 (Z0 (decide (p.u0 i = q65))
 (Z0 (decide (b = q66))
 (Z0 q67
 (X_1 = q68 ∧
 wrap i64 (q34 - q27) :: q35 = q71 ∧
 ([] : List Int) = [] ∧
 q72 ∧
 Z0 q73
 (Z0 q74
 (Z0 q75
 (Z0 q76
 (Z0 q77
 (q78 ∧
 q79 ∧
 Z0 q80
 (q81 ∧
 q82 ∧
 Z0 q83
 (q84 ∧
 Z0 q83
 (q85 ∧
 Z0 q80
 (Z0 q86
 (Z0 q87
 (q88 ∧
 Z0 q89
 (q90 ∧
 q91 ∧
 q92 ∧
 Z0 q86
 (Zc 0 (q50 :: q51 :: q96) q42 q57 q57 ∧
 (q97 = if p.b1 = true then [if (1 : Int) = 0 then q69 else q70] else []) ∧
 Z0 (decide (decide (q66 < 0) = p.b2))
 (Z0 q83
 (Z0 q98
 (Z0 (decide (q99 = q99))
 (Z0 (decide (q99 ≤ q99))
 (Z0 q100
 (Z0 q101
 (Z0 q67
 (q102 ∧
 q71 = q71 ∧
 q97 = q97 ∧
 q72 ∧
 Z0 q73
 (Z0 q74
 (Z0 q75
 (Z0 q76
 (Z0 q77
 (q78 ∧
 q79 ∧
 Z0 q80
 (q81 ∧
 q82 ∧
 Z0 q83
 (q84 ∧
 Z0 q83
 (q85 ∧
 Z0 q80
 (Z0 q86
 (Z0 q87
 (q88 ∧
 Z0 q89
 (q90 ∧
 q91 ∧
 q92 ∧
 Z0 q86
 (Zc 0 (q50 :: q51 :: q93 :: q52 :: q53 :: q54 :: (7, 7) :: (8, 8) :: q94) q42 q57 q57 ∧
 (q99 ≤ 10 ∧ q103 = q97 ++ if p.b2 = true then [if (1 : Int) = 0 then q70 else q69] else []) ∧
 Z0 (decide (wrap i64 q104 = q104 - 0))
 (Z0 q83
 (Z0 q98
 (Z0 (decide (q105 = q105))
 (Z0 (decide (q105 ≤ q105))
 (Z0 q100
 (Z0 q101
 (Z0 q67
 (q102 ∧
 q103 = q103 ∧
 Z0 q80
 (q81 ∧
 q82 ∧
 q72 ∧
 Z0 q73
 (Z0 q74
 (Z0 q75
 (Z0 q76
 (Z0 q77
 (q78 ∧
 q79 ∧
 Z0 q80
 (q81 ∧
 q82 ∧
 Z0 q83
 (q84 ∧
 Z0 q83
 (q85 ∧
 Z0 q80
 (Z0 q86
 (Z0 q87
 (q88 ∧
 Z0 q89
 (q90 ∧
 q91 ∧
 q92 ∧
 Z0 q86
 (Zc 0 (q50 :: q51 :: q93 :: q52 :: q53 :: q54 :: (8, 8) :: q95) q42 q57 q57 ∧
 (q1 ≤ 20 ∧
 List.length q68 = q1 ∧
 q105 ≤ 2 ∧
 p.W 0 = q103 ∧
 ∀ (k : Nat),
 let q243 := q1 - 1 - k;
 k < q1 → p.W (k + 1) = p.W k ++ if List.getD q68 q243 0 < 0 then [(p.g q243).amount] else []) ∧
 ∀ (i : Nat),
 let q243 := List.length (p.W i);
 let q244 := decide (i = q1);
 i ≤ q1 →
 (∀ (j : Nat), j < i → (fun (i : Nat) => i < q1) j) →
 (i = q1 →
 Z0 (decide (q243 = q107))
 (Z0 (decide (q107 ≤ q243))
 (Z0 q100
 (Z0 q101
 (Z0 q67
 (p.W i = q106 ∧
 Z0 q80
 (q81 ∧
 q82 ∧
 Z0 q244
 (Z0 (decide (q1 ≤ i))
 (Z0 q244
 (Zc 0 q108 q1 q110 q110 ∧
 q72 ∧
 Z0 q73
 (Z0 q74
 (Z0 q75
 (Z0 q76
 (Z0 q77
 (q78 ∧
 q79 ∧
 Z0 q80
 (q81 ∧
 q82 ∧
 Z0 q83
 (q84 ∧
 Z0 q83
 (q85 ∧
 Z0 q80
 (Z0 q86
 (Z0 q87
 (q88 ∧
 Z0 q89
 (q90 ∧
 q91 ∧
 q92 ∧
 Z0 q86
 (Zc 0 q108 q42 q57 q57 ∧
 (q107 ≤ 30 ∧ (0 ≤ q65 ∧ q65 ≤ 1152921504606846976) ∧ (∀ (i : Nat), i < q107 → 0 ≤ List.getD q106 i 0 ∧ List.getD q106 i 0 < q11) ∧ q11 ≤ 500 ∧ p.u4 0 = q65 ∧ ∀ (i : Nat), p.u4 (i + 1) = p.u4 i + List.getD q106 i 0) ∧
 ∀ (i : Nat),
 i ≤ q107 →
 (∀ (j : Nat), j < i → (fun (i : Nat) => i < q107) j) →
 (i = q107 →
 Z0 (decide (0 + q1 ≤ q1))
 ((∀ (i : Nat), i < q1 → true = true) ∧
 q61 ∧
 ∃ (s : ShS),
 ∃ (n : Nat),
 ∃ (L : List Ze),
 ((s.num = q32 ∧ s.owner = q62 ∧ s.point = q33 ∧ q36 = [s.a0, s.a1]) ∧
 (q1 = q1 ∧ s.n = q1) ∧
 ∀ (i : Nat),
 let q247 := q109.g i;
 i < q1 → [AV.int i64 q247.frm, AV.int i64 q247.id, AV.int i64 q247.amount, AV.arr u8 32 q247.hash, AV.int i64 q247.expiry] = ZD.c (s.g i)) ∧
 ShS.Ok s ∧
 s.n < 1000 ∧
 shB A q60 s = true ∧
 (L = Zp (Zj q60 s) ∧ n = List.length L ∧ n ≠ 0) ∧
 Z0 (p.u4 i != q25) q64
 (Z0 q111
 ((∀ (i : Nat), i < q42 → true = true) ∧
 Z0 (decide (0 + n ≤ n))
 ((∀ (i : Nat), i < n → true = true) ∧
 ∃ (a : TxS),
 ∃ (b : TxS),
 (a.num = q32 ∧
 (((1 : Nat) = 1 ∧ a.N = 1) ∧ ∀ (i : Nat), i < 1 → ZO [AV.arr u8 32 q45, AV.int i64 q46, AV.int i64 q44.way, AV.arr u8 32 q47, AV.arr u8 32 q48, AV.arr u8 32 q49] 0 130 i = InS.c (a.ins i)) ∧
 (q42 = q42 ∧ a.M = q42) ∧
 ∀ (i : Nat),
 let q247 := ZK q56 i;
 i < q42 → [AV.int i64 q247.kind, AV.int i64 q247.amount, AV.arr u8 32 q247.owner, AV.arr u8 32 q247.other, AV.arr u8 32 q247.point, AV.arr u8 32 q247.hash, AV.int i64 q247.delay, AV.int i64 q247.expiry] = Zs.c (a.outs i)) ∧
 (b.num = s.num ∧
 (((1 : Nat) = 1 ∧ b.N = 1) ∧ ∀ (i : Nat), i < 1 → ZO [AV.arr u8 32 q112.name, AV.int i64 q112.index, AV.int i64 q112.way, AV.arr u8 32 q112.tag, AV.arr u8 32 q112.also, AV.arr u8 32 q112.secret] 0 130 i = InS.c (b.ins i)) ∧
 (n = n ∧ b.M = n) ∧
 ∀ (i : Nat),
 let q247 := ZK L i;
 i < n → [AV.int i64 q247.kind, AV.int i64 q247.amount, AV.arr u8 32 q247.owner, AV.arr u8 32 q247.other, AV.arr u8 32 q247.point, AV.arr u8 32 q247.hash, AV.int i64 q247.delay, AV.int i64 q247.expiry] = Zs.c (b.outs i)) ∧
 (TxS.Ok a ∧ TxS.Ok b) ∧
 Z0 (!F a b) q64
 (Z0 q101
 (Z0 q67
 (q72 ∧
 Z0 q73
 (Z0 q74
 (Z0 q75
 (Z0 q76
 (Z0 q77
 (q78 ∧
 q79 ∧
 Z0 q80
 (q81 ∧
 q82 ∧
 Z0 q83
 (q84 ∧
 Z0 q83
 (q85 ∧
 Z0 q80
 (Z0 q86
 (Z0 q87
 (q88 ∧
 Z0 q89
 (q90 ∧
 q91 ∧
 q92 ∧
 Z0 q86
 (Zc 0 (q50 :: q51 :: q93 :: q55) q42 q57 q57 ∧
 q59 ∧
 ∀ (i : Nat),
 i ≤ q58 →
 (∀ (j : Nat), j < i → (fun (i : Nat) => i < q58) j) →
 (i = q58 →
 Z0 q111
 ((∀ (i : Nat), i < q42 → true = true) ∧
 Z0 (decide (0 + i ≤ i))
 ((∀ (i_1 : Nat), i_1 < i → true = true) ∧
 ∃ (t : TxS),
 ∃ (n : Nat),
 ∃ (L : List ClS),
 ∃ (L0 : List ClS),
 ∃ (sum : Int),
 let q247 := swO q29 sum;
 (t.num = q32 ∧
 (((1 : Nat) = 1 ∧ t.N = 1) ∧ ∀ (i : Nat), i < 1 → ZO [AV.arr u8 32 q45, AV.int i64 q46, AV.int i64 q44.way, AV.arr u8 32 q47, AV.arr u8 32 q48, AV.arr u8 32 q49] 0 130 i = InS.c (t.ins i)) ∧
 (q42 = q42 ∧ t.M = q42) ∧
 ∀ (i : Nat),
 let q249 := ZK q56 i;
 i < q42 → [AV.int i64 q249.kind, AV.int i64 q249.amount, AV.arr u8 32 q249.owner, AV.arr u8 32 q249.other, AV.arr u8 32 q249.point, AV.arr u8 32 q249.hash, AV.int i64 q249.delay, AV.int i64 q249.expiry] = Zs.c (t.outs i)) ∧
 ((i = i ∧ n = i) ∧
 ∀ (i_1 : Nat),
 let q249 := List.getD (X8 q41 q66 q42) i_1 cl0;
 i_1 < i → [AV.int i64 q249.index, AV.int i64 q249.way, AV.arr u8 32 q249.secret] = ZE L i_1) ∧
 (TxS.Ok t ∧ t.M ≤ 24 ∧ q113 ∧ (n < 20 ∧ n ≤ 30) ∧ List.length L = n ∧ (∀ (m : ClS), List.Mem m L → ClS.Ok m) ∧ Y6 A t = true) ∧
 (∀ (L1 : List ClS), List.Perm L1 L → Wm ltC L1 → L1 = L0) ∧
 ZaP A Nm t q29 L0 n sum ∧
 Z0 (decide (0 + n ≤ n))
 ((∀ (i : Nat), i < n → true = true) ∧
 ∃ (t_1 : TxS),
 let q249 := t_1.N;
 let q250 := t_1.M;
 let q251 := decide (q249 = q115);
 let q252 := decide (q250 = q116);
 (t_1.num = 0 ∧
 ((n = n ∧ q249 = n) ∧
 ∀ (i : Nat),
 let q257 := swI (Nm t) L0 i;
 i < n → [AV.arr u8 32 q257.name, AV.int i64 q257.index, AV.int i64 q257.way, AV.arr u8 32 q257.tag, AV.arr u8 32 q257.also, AV.arr u8 32 q257.secret] = InS.c (t_1.ins i)) ∧
 ((1 : Nat) = 1 ∧ q250 = 1) ∧ ∀ (i : Nat), i < 1 → ZO [AV.int i64 q247.kind, AV.int i64 q247.amount, AV.arr u8 32 q247.owner, AV.arr u8 32 q247.other, AV.arr u8 32 q247.point, AV.arr u8 32 q247.hash, AV.int i64 q247.delay, AV.int i64 q247.expiry] 0 132 i = Zs.c (t_1.outs i)) ∧
 (TxS.Ok t_1 ∧ q113 ∧ q113 ∧ Y6 A t_1 = true) ∧
 Z0 ((↑q249 : Int) != (↑q42 : Int)) q64
 (Z0 q67
 (Z0 (decide (t_1.num = q114.num))
 (Z0 q251
 (Z0 (decide (q115 ≤ q249))
 (Z0 q252
 (Z0 (decide (q116 ≤ q250))
 (Z0 q251
 (Zc 0 q117 q115 (Zb q114.ins) (Zb (X t_1 q29 q29).ins) ∧
 Z0 q252
 (Zc 0 q117 q116 (Z8 q114.outs) (Z8 t_1.outs) ∧
 q72 ∧
 Z0 q73
 (Z0 q74
 (Z0 q75
 (Z0 q76
 (Z0 q77
 (q78 ∧
 q79 ∧
 Z0 q80
 (q81 ∧
 q82 ∧
 Z0 q83
 (q84 ∧
 Z0 q83
 (q85 ∧
 Z0 q80
 (Z0 q86
 (Z0 q87
 (q88 ∧
 Z0 q89
 (q90 ∧
 q91 ∧
 q92 ∧
 Z0 q86
 (Zc 0 q117 q42 q57 q57 ∧
 Ho8 Sp p ∧
 ∀ (i : Nat),
 i ≤ q58 →
 (∀ (j : Nat), j < i → (fun (i : Nat) => i < q58) j) →
 (i = q58 →
 Z0 q111
 ((∀ (i : Nat), i < q42 → true = true) ∧
 ∃ (t : TxS),
 let q257 := t.N;
 let q258 := t.M;
 (t.num = q32 ∧
 (((1 : Nat) = 1 ∧ q257 = 1) ∧ ∀ (i : Nat), i < 1 → ZO [AV.arr u8 32 q45, AV.int i64 q46, AV.int i64 q44.way, AV.arr u8 32 q47, AV.arr u8 32 q48, AV.arr u8 32 q49] 0 130 i = InS.c (t.ins i)) ∧
 (q42 = q42 ∧ q258 = q42) ∧
 ∀ (i : Nat),
 let q261 := ZK q56 i;
 i < q42 → [AV.int i64 q261.kind, AV.int i64 q261.amount, AV.arr u8 32 q261.owner, AV.arr u8 32 q261.other, AV.arr u8 32 q261.point, AV.arr u8 32 q261.hash, AV.int i64 q261.delay, AV.int i64 q261.expiry] = Zs.c (t.outs i)) ∧
 (TxS.Ok t ∧ List.length q30 = 32 ∧ q113 ∧ Y6 A t = true) ∧
 q61 ∧
 Z0 (Xf q60)
 (Z0 (decide (0 + q257 ≤ q257))
 ((∀ (i : Nat), i < q257 → true = true) ∧
 Z0 (decide (0 + q258 ≤ q258))
 ((∀ (i : Nat), i < q258 → true = true) ∧
 ∃ (t_2 : TxS),
 ∃ (o : Zs),
 (t_2.num = t.num ∧
 ((q257 = q257 ∧ t_2.N = q257) ∧
 ∀ (i : Nat),
 let q261 := (X t q30 q29).ins i;
 i < q257 → [AV.arr u8 32 q261.name, AV.int i64 q261.index, AV.int i64 q261.way, AV.arr u8 32 q261.tag, AV.arr u8 32 q261.also, AV.arr u8 32 q261.secret] = InS.c (t_2.ins i)) ∧
 (q258 = q258 ∧ t_2.M = q258) ∧
 ∀ (i : Nat),
 let q261 := t.outs i;
 i < q258 → [AV.int i64 q261.kind, AV.int i64 q261.amount, AV.arr u8 32 q261.owner, AV.arr u8 32 q261.other, AV.arr u8 32 q261.point, AV.arr u8 32 q261.hash, AV.int i64 q261.delay, AV.int i64 q261.expiry] = Zs.c (t_2.outs i)) ∧
 [AV.int i64 q118.kind, AV.int i64 q118.amount, AV.arr u8 32 q118.owner, AV.arr u8 32 q118.other, AV.arr u8 32 q118.point, AV.arr u8 32 q118.hash, AV.int i64 q118.delay, AV.int i64 q118.expiry] = Zs.c o ∧ (TxS.Ok t_2 ∧ Zs.Ok o ∧ ((-9223372036854775808 : Int) ≤ 0 ∧ (0 : Int) < 9223372036854775808) ∧ -9223372036854775808 ≤ q21 ∧ q21 < 9223372036854775808) ∧ Z0 (Sp t_2 0 o 0 q21 == 0) q5 q64)
 False)
 False)
 q64)
 False) ∧
 q119)
 False)
 False)
 False)
 False)
 False)
 False)
 False)
 False)
 False)
 False)
 False)
 False)
 False)
 False)
 False)
 False)
 False)
 False)
 False)
 False)
 False))
 False)
 False)
 False) ∧
 q119)
 False)
 False)
 False)
 False)
 False)
 False)
 False)
 False)
 False)
 False)
 False)
 False)
 False)
 False)
 False))
 False)
 False))
 False) ∧
 q119)
 False)
 False)
 False)
 False)
 False)
 False)
 False)
 False)
 False)
 False)
 False)
 False)
 False)
 False)
 False)
 False)
 False)
 False)
 False)
 False)
 False)
 False) ∧
 q119)
 False)
 False)
 False)
 False)
 False)
 False)
 False)
 False)
 False)
 False)
 False)
 False)
 False)
 False)
 False)
 False)
 False)
 False)
 False)
 False)
 False)
 False)
 False)
 False)
 False)
 False)
 False)
 False)
 False)
 False)
 False)
 False)
 False)
 False)
 False)
 False)
 False)
 False)
 False)
 False)
 False)
 False)
 False)
 False)
 False)
 False)
 False)
 False)
 False)
 False)
 False)
 False)
 False)
 False)
 False)
 False)
 False)
 False)
 False)
 False)
 False)
 False)) ∧
 q119)
 False)
 False)
 False)
 False)
 False)
 False)
 False)
 False)
 False)
 False)
 False)
 False)
 False)
 False)
 False)
 False))) (by kernel_rfl) ?_
 conv => zeta
 try simp only [Zg]
 try simp only [Zl]
 try simp only [Zh]
 try simp only [Zm]
 try simp only [Zn]
 try simp only [Zf]
 try simp only [Int.toNat_natCast, Nat.zero_add, true_and, and_true, Nat.le_refl]
 have e1 := h.hL.2.1
 have rP : ∀ k τ n (g : Nat → ZD), Zc k τ n (ZQ g) (ZQ g) := fun _ _ _ _ => Z0w fun _ _ => rfl
 have rI : ∀ k τ n (g : Nat → InS), Zc k τ n (Zb g) (Zb g) := fun _ _ _ _ => Yd fun _ _ => rfl
 have rO : ∀ k τ n (g : Nat → Zs), Zc k τ n (Z8 g) (Z8 g) := fun _ _ _ _ => Y7 fun _ _ => rfl
 have hI : ∀ i, i < 1 → ZO (InS.c (X9 p.t)) 0 130 i = InS.c (p.T.ins i) := fun i hi => by
  have e : i = 0 := by omega
  subst e; rfl
 have hne : ∀ x : Int, ¬ (x != x) = true := fun x => by simp
 have hwm : i64.wrap ((p.m : Int) - 1) = (p.m : Int) - 1 - 0 := by rw [w64 (by have := h.hm; omega)]; omega
 have hF3 : ∀ x, ¬ (!F x x) = true := fun x => by rw [h.hF]; simp
 have hfin : ¬ (p.u4 (p.W p.m).length != p.t.cap) = true := by rw [h.fin]; simp
 have hZx := h.hX (swX (Nm p.T) p.t.k0 (X8 p.sec p.ot p.n) p.n S) p.t.k0 p.t.k0
 have hYx := h.hX p.T p.t.k1 p.t.k0
 have z1 : (0 : Int) = p.Z.num := by rw [h.hZ, hZx.1]; rfl
 have z2 : p.n = p.Z.N := by rw [h.hZ, hZx.2.1]; rfl
 have z3 : 1 = p.Z.M := by rw [h.hZ, hZx.2.2.1]; rfl
 have z4 : p.Z.outs = fun _ => swO p.t.k0 S := by rw [h.hZ, hZx.2.2.2]; rfl
 have hsp : (Sp (X p.T p.t.k1 p.t.k0) 0 (XB p.t) 0 p.hgt == 0) = true := by rw [h.ys]; rfl
 have hk1 : p.m < 1000 := by have := h.hm; omega
 have hmm : [i64.wrap (p.a0 - p.t.fee), p.a1] = [p.m0, p.m1] := by rw [h.m0, h.m1]
 have hTM : p.T.M ≤ 24 := by
  have := h.h20
  show p.L.length ≤ 24
  omega
 have hO1 : ∀ i, i < 1 → ZO (Zs.c (swO p.t.k0 S)) 0 132 i = Zs.c (swO p.t.k0 S) := fun i hi => by
  have e : i = 0 := by omega
  subst e; rfl
 have hh1 : -9223372036854775808 ≤ p.hgt := by have := h.hh; omega
 have hsp3 : ¬ (Sp (X p.T p.t.k1 p.t.k0) 0 (XB p.t) 0 p.hgt == 0) = false := by rw [h.ys]; decide
 have htb3 : ¬ Xf p.t = false := by rw [h.tB]; decide
 repeat' (first
  | exact trivial
  | exact hk1
  | exact hmm
  | exact hTM
  | exact hh1
  | exact h.hh.2
  | exact Nat.le_refl _
  | exact Nat.le_of_eq z2.symm
  | exact Nat.le_of_eq z3.symm
  | exact fun k => absurd k hsp3
  | exact fun k => absurd k htb3
  | exact h.ht
  | exact h.hsec
  | exact h.hs
  | exact h.hb
  | exact h.hL
  | exact h.hP
  | exact h.c0
  | exact h.c2
  | exact h.c4
  | exact h.b1
  | exact h.b2
  | exact h.v1
  | exact h.v2
  | exact h.ts
  | exact h.tb
  | exact h.tx
  | exact h.ck
  | exact h.go
  | exact h.zok
  | exact h.go.ck
  | exact h.h8
  | exact h.hk
  | exact h.ht.k0
  | exact h.ht.k1
  | exact h.tB
  | exact h.yok
  | exact h.fok
  | exact hsp
  | exact rO _ _ _ _
  | exact rP _ _ _ _
  | exact ⟨rfl, h.tn, h.hL.2.2⟩
  | exact fun _ _ => trivial
  | exact fun k => absurd k (hne _)
  | exact fun k => absurd k (hF3 _)
  | exact fun k => absurd k hfin
  | exact h.hpt.symm
  | exact h.hpt
  | exact hwm
  | exact z1
  | exact z2
  | exact z3
  | exact Z3p _ _ _
  | exact Z3q h.hsec
  | exact fun L1 hp ho => Z4x hp ho
  | (rw [h.hZ]; exact rI _ _ _ _)
  | (rw [z4]; exact rO _ _ _ _)
  | (refine ⟨(p.s 1), p.n, p.L, ⟨⟨rfl, rfl, h.hpt, rfl⟩, rfl, fun _ _ => rfl⟩, ?_⟩)
  | (refine ⟨(p.s 1), p.n, p.m, p.L, p.X, plN p.L (-1) p.n, p.ot, ⟨⟨rfl, rfl, rfl, rfl⟩, rfl, fun _ _ => rfl⟩, ?_⟩)
  | (refine ⟨shT (p.s 1), p.n, Zp (Zj p.t (shT (p.s 1))), ⟨⟨rfl, rfl, rfl, rfl⟩, rfl, fun _ _ => rfl⟩, ?_⟩)
  | (refine ⟨p.T, p.T, ⟨rfl, ⟨rfl, hI⟩, e1.symm, fun _ _ => rfl⟩, ⟨rfl, ⟨rfl, hI⟩, e1.symm, fun i hi => by rw [h.to i hi]; rfl⟩, ⟨h.tx, h.tx⟩, ?_⟩)
  | (refine ⟨p.T, p.n, X8 p.sec p.ot p.n, X8 p.sec p.ot p.n, S, ⟨rfl, ⟨rfl, hI⟩, e1.symm, fun _ _ => rfl⟩, ⟨rfl, fun _ _ => rfl⟩, ?_⟩)
  | (refine ⟨swX (Nm p.T) p.t.k0 (X8 p.sec p.ot p.n) p.n S, ⟨rfl, ⟨rfl, fun _ _ => rfl⟩, rfl, hO1⟩, ?_⟩)
  | (refine ⟨p.T, ⟨rfl, ⟨rfl, hI⟩, e1.symm, fun _ _ => rfl⟩, ?_⟩)
  | (refine ⟨X p.T p.t.k1 p.t.k0, XB p.t, ⟨hYx.1, ⟨hYx.2.1, fun _ _ => rfl⟩, hYx.2.2.1, fun _ _ => by rw [hYx.2.2.2]; rfl⟩, rfl, ?_⟩)
  | refine And.intro ?_ ?_
  | rfl
  | (have := h.hm; have := h.hh; have := h.h20; omega)
  | (intro he; subst he)
  | intro _)
end Go.Tk
end
section
namespace Go.Tk
open IntKind (i64 u8 u32 u64 wrap)
end Go.Tk
end
section
namespace Go.Tk
open IntKind (i64 u8 u32 u64 wrap)
end Go.Tk
end
section
namespace Go.Tk
open IntKind (i64 u8 u32 u64 wrap)
def Z8z : List Ty := [.int .i64, .int .i64, .int .i64, .arr .u8 32, .int .i64]
def sharesTy : List Ty := [.int .i64, .int .i64, .arr .u8 32, .arr .i64 2, .rows 36 Z8z]
theorem ZaV {l : List AV} (h : Fits Z8z l) : ∃ x : ZD, l = x.c ∧ x.Ok := by
 unfold Z8z at h
 cases h with | cons _ a _ u h1 h =>
 cases h with | cons _ b _ u h2 h =>
 cases h with | cons _ c _ u h3 h =>
 cases h with | cons _ d _ u h4 h =>
 cases h with | cons _ e _ u h5 h =>
 cases h; cases h1; cases h2; cases h3; cases h4; cases h5
 rename_i x1 w1 x2 w2 x3 w3 x4 l4 w4 x5 w5
 exact ⟨⟨x1, x2, x3, x4, x5⟩, rfl, ⟨l4, Z15 l4 w4⟩⟩
instance : Inhabited ZD := ⟨p77⟩
theorem Zka {n : Nat} {p : Nat → ZD → Prop} (h : ∀ i, i < n → ∃ a, p i a) : ∃ f : Nat → ZD, ∀ i, i < n → p i (f i) :=
 ⟨fun i => if hi : i < n then Classical.choose (h i hi) else p77, fun i hi => by
  simp only [hi, dite_true]
  exact Classical.choose_spec (h i hi)⟩
theorem Z6Z {a : AV} (h : Z2V true sharesTy a) : ∃ (l : List AV) (s : ShS), a = .agg l ∧ Z1y l s ∧ s.Ok := by
 cases h with | agg _ u h =>
 unfold sharesTy at h
 cases h with | cons _ a _ u h1 h =>
 cases h with | cons _ b _ u h2 h =>
 cases h with | cons _ c _ u h3 h =>
 cases h with | cons _ d _ u h4 h =>
 cases h with | cons _ e _ u h5 h =>
 cases h; cases h1; cases h2; cases h3; cases h4; cases h5
 rename_i x1 w1 x2 w2 x3 l3 w3 x4 l4 w4 n f hn hf
 obtain ⟨g, hg⟩ := Zka fun i hi => ZaV (hf i hi)
 match x4, l4 with
 | [y, z], _ =>
  have hy := w4 0 (by decide)
  simp [Lit.wf] at hy
  have m1 : i64.min = -9223372036854775808 := rfl
  have m2 : i64.max = 9223372036854775807 := rfl
  exact ⟨_, ⟨x1, x2, x3, y, z, n, g⟩, rfl, ⟨⟨rfl, rfl, rfl, rfl⟩, ⟨rfl, rfl⟩, fun i hi => (hg i hi).1⟩, ⟨l3, by show _ ≤ y ∧ y < _; omega, fun i hi => (hg i hi).2⟩⟩
end Go.Tk
end
